import Derived.Test.YtfbomiejpbchdaaGreatPart06
import Derived.Test.YtfbomiejpbchdaaGreatPart14
import Derived.Test.YtfbomiejpbchdaaGreatPart15
namespace Go.Proofs.YtfbomiejpbchdaaGreat
open Go Go.RowKit
set_option linter.unusedVariables false
set_option linter.unusedSimpArgs false
section
set_option maxRecDepth 100000
theorem Ol {R P D Q X:Nat} (h1:D=Q+X) (h2:Q<=R) (h3:R<P) (h4:R<D) (h5:X<=P):R+P-D+X=R-Q+P:=by omega
theorem Us (a b p q c1 c2:Nat) (ha:nw a<=1099511627776) (hb2:2<=nw b) (hba:nw b<=nw a) (w:World) (hp:w.heap[p]?=some (.cells (Al (Av a)).toArray 101 (0,0))) (hq:w.heap[q]?=some (.cells (Al (Av b)).toArray 101 (0,0))):Calls Tryz.prog 196 #[(Value.slice (some ⟨p,0,none⟩) (nw a) c1),(Value.slice (some ⟨q,0,none⟩) (nw b) c2)] w (λe w'=>∃b1 b2,e=.returned (.tuple #[.slice (some ⟨b1,0,none⟩) (nw a+1-nw b) (nw a+1-nw b),.slice (some ⟨b2,0,none⟩) (nw a+1) (nw a+1)])/\Em w.heap.size w w'/\w.heap.size<=b1/\w.heap.size<=b2/\b1≠b2/\w'.heap[b1]?=some (.cells (Al (Cb (nw a+1-nw b) (a/b))).toArray 101 (0,0))/\w'.heap[b2]?=some (.cells (Al (Cb (nw a+1) (a%b))).toArray 101 (0,0))):=by
 have hla:=CK a
 have hlb:=CK b
 have hb0:0<b:=Nat.pos_of_ne_zero (λh=>by rw [h,Ms] at hb2;omega)
 obtain ⟨s,hs⟩:∃s,s=32-bl ((AJ b).getD (nw b-1) 0):=⟨_,rfl⟩
 obtain ⟨hs32,hlow,hhigh⟩:=XE (by omega) hs
 obtain ⟨m,hm⟩:∃m,m=nw a+1-nw b:=⟨_,rfl⟩
 obtain ⟨V,hV⟩:∃V,V=b*2^s:=⟨_,rfl⟩
 obtain ⟨vb,hvb⟩:∃vb,vb=Cb (nw b+1) (b*2^s):=⟨_,rfl⟩
 have hbig:b*2^s<4294967296^(nw b+1):=Nat.lt_of_lt_of_le hhigh (Nat.pow_le_pow_right (by omega) (by omega))
 have hN:Ow vb (nw b) V:=⟨by rw [hvb];exact Dd _ _,by rw [hvb];exact Bd _ _,hb2,by rw [hvb,hV];exact Ee _ _ hbig,by rw [hV];exact hlow,by rw [hV];exact hhigh⟩
 have hst:=Ox rfl (by omega) hs32 hlow hm hba
 have hA:val (Cb (nw a+1) (a*2^s))=a*2^s:=Ee _ _ (by rw [Nat.pow_succ];exact Nat.mul_lt_mul_of_lt_of_le (Bv a) (Nat.le_trans (Nat.pow_le_pow_right (by omega) (show s<=32 by omega)) (by decide)) (by omega))
 have hvlen:=hN.len
 have htop:=hN.top
 have htw:=(NI (b:=b) (by omega)).2.2
 refine Ad (args:=[(Value.slice (some ⟨p,0,none⟩) (nw a) c1),(Value.slice (some ⟨q,0,none⟩) (nw b) c2)]) Tryz.func196 rfl rfl (Af rfl) (AE.subF (sL [0,1] rfl) (q4 (AL rfl (AL rfl (AD.nil ?_)))))
 refine q2 (AO rfl (AO rfl (AH (v:=(vN (nw b))) (AF rfl Tryz.underlying232) rfl (AH (Bf (c:=(((nw b)-1:Nat):Int)) rfl rfl (CV (a:=nw b) (b:=1) (by omega) (by omega))) rfl (AH (v:=(pP q ((nw b)-1))) (AI (j:=(nw b)-1) rfl rfl Tryz.underlying232 Tryz.sizeOf101 rfl (by omega) (by simp)) rfl ?_)))))
 have hx1:(Av b).getD ((nw b)-1) 0<4294967296:=W32.getD (CL b) ((nw b)-1)
 refine AH (BT (v:=(vK .u32 ((Av b).getD ((nw b)-1) 0))) rfl (λw' hw=>CA.at0 (hw.oldCA (by simp) (EB hq)) (BH (xs:=Av b) (j:=((nw b)-1)) (by omega))) Tryz.isAgg101) rfl (AD.retell (k:=22) (u:=(vK .u32 ((AJ b).getD (nw b-1) 0))) rfl (by rw [DJ (by omega)]) (BY Tryz.call239 (Uq ((AJ b).getD (nw b-1) 0) (by omega)) rfl (AD.retell (k:=23) (u:=(vN s)) rfl (by rw [hs]) (AL rfl (q6 (sL [0,1,4,5,6] rfl) ?_)))))
 refine C7 [(0,true),(1,true),(3,true),(4,true),(6,true),(7,true),(2,false),(5,false),(8,true),(9,true),(10,true)] sr (Bl rfl (Bl rfl (Bl rfl (Bl rfl (Bl rfl ?_)))))
 refine Au (v:=(vN (nw b))) rfl (AF rfl Tryz.underlying232) (AP.imp rfl (AD.callB (V:=λb1=>(Value.slice (some ⟨b1,0,none⟩) (nw a+1) (nw a+1))) (T:=101) (cs:=Al (Cb (nw a+1) (a*2^s))) (AN rfl) (A8 (args:=[(Value.slice (some ⟨p,0,none⟩) (nw a) c1),(vN s)]) rfl rfl Tryz.call240) (λw hw=>(by have h:=Kp p (nw a) c1 s (Av a) (CL a) hla (by omega) hs32 w (hw.old (by simp) hp);rw [HO] at h;exact h)) rfl (Af rfl) λb1=>AP.back (sl sr) (AP.imp rfl (AD.callB (V:=λb2=>(Value.slice (some ⟨b2,0,none⟩) (nw b+1) (nw b+1))) (T:=101) (cs:=Al vb) (AN rfl) (A8 (args:=[(Value.slice (some ⟨q,0,none⟩) (nw b) c2),(vN s)]) rfl rfl Tryz.call240) (λw hw=>(by have h:=Kp q (nw b) c2 s (Av b) (CL b) hlb (by omega) hs32 w (hw.old (by simp) hq);rw [HO,<-hvb] at h;exact h)) rfl (Af rfl) λb2=>?_))))
 refine AP.back (sl (sl sr)) (Au (v:=(Value.slice (some ⟨b2,0,none⟩) (nw b) (nw b+1))) rfl (GC (m:=nw b) rfl rfl Tryz.underlying232 Tryz.sizeOf101 (by omega)) (E5 rfl (E5 rfl (AP.nil (AC.subF (sL [1,4,5,6,7,8] rfl) ?_)))))
 refine q2 (AO rfl (AH (v:=(vN (nw b))) (AF rfl Tryz.underlying232) rfl (AL rfl (q3 (sL [1,4,5,6,7,8,9] rfl) (AO rfl ?_)))))
 refine AH (v:=(vN (nw a+1))) (AF rfl Tryz.underlying232) rfl (AO rfl (AH (Bf (c:=(((nw a+1)-(nw b):Nat):Int)) rfl rfl (CV (a:=nw a+1) (b:=nw b) (by omega) (by omega))) rfl (AD.retell (k:=38) (u:=(vN m)) rfl (by rw [hm]) (AD.openV (V:=λb3=>(Value.slice (some ⟨b3,0,none⟩) m m)) (T:=101) (cs:=Al (List.replicate m 0)) (AN rfl) (Cy (m:=m) (c:=m) rfl rfl (by omega) (by omega)) rfl (Af rfl) λb3=>AL rfl ?_))))
 refine q6 (sL [1,4,5,6,7,8,9] rfl) (q4 (AO rfl (AH (v:=(vN m)) (AF rfl Tryz.underlying232) rfl (AH (Bf (c:=(((m:Nat):Int)-1)) rfl rfl (BE (by omega) (by omega))) rfl (AL rfl ?_)))))
 refine AD.nil (AC.subF (sL [1,4,5,6,7,8,9,10] rfl) (AC.then_ (AE.block ?_)))
 refine AE.lp3 (tg λ(k0:Nat) (us:List Nat) (qs:List Nat)=>k0<=m/\us.length=nw a+1/\W32 us/\qs.length=m/\W32 qs/\(∀j,j<k0->qs.getD j 0=0)/\val us<V*4294967296^k0/\a*2^s=val qs*V+val us) (tg λ(k0:Nat) (us:List Nat) (qs:List Nat)=>[(4,(Value.slice (some ⟨b3,0,none⟩) m m)),(5,(Value.slice none 0 0)),(6,(vN s)),(7,(Value.slice (some ⟨b1,0,none⟩) (nw a+1) (nw a+1))),(8,(Value.slice (some ⟨b2,0,none⟩) (nw b) (nw b+1))),(9,(vN (nw b))),(10,(vI (((k0:Nat):Int)-1)))]) (tg λ(k0:Nat) (us:List Nat) (qs:List Nat)=>[Ac b3 101 (Al qs),Ac b2 101 (Al vb),Ac b1 101 (Al us)]) (tg λ(k0:Nat) (us:List Nat) (qs:List Nat)=>k0) m (Cb (nw a+1) (a*2^s)) (List.replicate m 0) (⟨Nat.le_refl _,Bd _ _,Dd _ _,by simp,W32.zeros _,λj _=>by simp [List.getD_eq_getElem?_getD,List.getElem?_replicate];split<;>rfl,by rw [hA,hV];exact hst,by rw [hA,Dt];simp⟩) (sF rfl) sr (λk0 us qs hJ=>?_)
 obtain ⟨hk0,hul,huw,hql,hqw,hqz,hlt,hAeq⟩:=hJ
 refine AE.seq (q4 (AO rfl (AH (FB (c:=(decide ((0:Int)<=(((k0:Nat):Int)-1)))) rfl rfl rfl) rfl (AD.nil (AC.subF (sL [4,5,6,7,8,9,10,44] rfl) ?_)))))
 refine AC.then_ ?_
 refine AE.cond rfl (λhc0=>?_) (λhc0=>?_)
 ·replace hc0:=of_decide_eq_true hc0
  obtain ⟨k,rfl⟩:∃k,k0=k+1:=⟨k0-1,by omega⟩
  obtain ⟨top,htp⟩:∃t,t=us.getD (k+nw b) 0*4294967296+us.getD (k+nw b-1) 0:=⟨_,rfl⟩
  obtain ⟨W,hWd⟩:∃x,x=val us/4294967296^k:=⟨_,rfl⟩
  have hWin:=Wa hN huw hlt
  rw [<-htp,<-hWd] at hWin
  have hu2:=huw.getD (k+nw b-2)
  have hG0:=NX hN hWin hu2
  have htb:=hWin.topb
  have hq32:=hWin.quo_lt hN.pos
  refine AE.retell (k:=10) (u:=(vN k)) rfl (by congr 1;omega) (AE.skip (q1 (AE.block (AE.scope (AE.seq ?_)))))
  refine C7 [(0,true),(1,true),(2,true),(3,true),(4,true),(5,true),(6,true),(7,true),(8,true),(9,true),(10,true),(11,true),(12,true),(13,true),(14,true),(15,true),(16,true),(17,true)] sr (Bl rfl (Bl rfl (Bl rfl (Au rfl (AT (c:=((k+(nw b):Nat):Int)) rfl rfl (AR (a:=k) (b:=nw b) (by omega))) (Au (v:=(pP b1 (k+(nw b)))) rfl (AI (j:=k+(nw b)) rfl rfl Tryz.underlying232 Tryz.sizeOf101 rfl (by omega) (by simp)) ?_)))))
  have hx2:us.getD (k+(nw b)) 0<4294967296:=W32.getD huw (k+(nw b))
  refine Au rfl (AK (i:=2) (v:=(vK .u32 (us.getD (k+(nw b)) 0))) rfl rfl Tryz.isAgg101 (BH (xs:=us) (j:=(k+(nw b))) (by omega))) (Au rfl (Ar (c:=((us.getD (k+(nw b)) 0:Nat):Int)) rfl Tryz.underlying101 Tryz.underlying45 (BS (by omega))) (Au (v:=(vK .u64 (us.getD (k+nw b) 0*4294967296))) rfl (GF (s:=32) rfl rfl rfl (by decide) (GX (s:=32) (by omega))) (Bl rfl (Bl rfl (Bl rfl ?_)))))
  refine Au rfl (AT (c:=((k+(nw b):Nat):Int)) rfl rfl (AR (a:=k) (b:=nw b) (by omega))) (Au rfl (Bf (c:=(((k+(nw b))-1:Nat):Int)) rfl rfl (CV (a:=k+(nw b)) (b:=1) (by omega) (by omega))) (Au (v:=(pP b1 ((k+(nw b))-1))) rfl (AI (j:=(k+(nw b))-1) rfl rfl Tryz.underlying232 Tryz.sizeOf101 rfl (by omega) (by simp)) ?_))
  have hx3:us.getD ((k+(nw b))-1) 0<4294967296:=W32.getD huw ((k+(nw b))-1)
  refine Au rfl (AK (i:=2) (v:=(vK .u32 (us.getD ((k+(nw b))-1) 0))) rfl rfl Tryz.isAgg101 (BH (xs:=us) (j:=((k+(nw b))-1)) (by omega))) (Au rfl (Ar (c:=((us.getD ((k+(nw b))-1) 0:Nat):Int)) rfl Tryz.underlying101 Tryz.underlying45 (BS (by omega))) (Au rfl (Im (c:=((top:Nat):Int)) rfl rfl (JQ (by omega) (by omega) (((Nat.or_comm _ _).trans ((HH (s:=32) (by omega)).trans (Nat.add_comm _ _))).trans htp.symm))) (E5 rfl (AP.nil (AC.subF (sL [4,5,6,7,8,9,10,11] rfl) ?_)))))
  refine q1 (C7 [(0,true),(1,true),(2,true),(3,true),(4,true),(5,true),(6,true),(7,true),(8,true),(9,true),(10,true),(11,true),(12,true),(13,true),(14,true),(15,true),(16,true),(17,true)] sr (Bl rfl (Bl rfl (Bl rfl (Au rfl (Bf (c:=(((nw b)-1:Nat):Int)) rfl rfl (CV (a:=nw b) (b:=1) (by omega) (by omega))) ?_)))))
  refine Au (v:=(pP b2 ((nw b)-1))) rfl (AI (j:=(nw b)-1) rfl rfl Tryz.underlying232 Tryz.sizeOf101 rfl (by omega) (by simp)) ?_
  have hx4:vb.getD ((nw b)-1) 0<4294967296:=W32.getD hN.w32 ((nw b)-1)
  refine Au rfl (AK (i:=1) (v:=(vK .u32 (vb.getD ((nw b)-1) 0))) rfl rfl Tryz.isAgg101 (BH (xs:=vb) (j:=((nw b)-1)) (by omega))) (Au rfl (Ar (c:=((vb.getD ((nw b)-1) 0:Nat):Int)) rfl Tryz.underlying101 Tryz.underlying45 (BS (by omega))) (Au rfl (GV (c:=((top/(vb.getD ((nw b)-1) 0):Nat):Int)) rfl rfl (by omega) (J0 (a:=top) (b:=vb.getD ((nw b)-1) 0) (by omega))) (Bl rfl (Bl rfl (Bl rfl ?_)))))
  refine Au rfl (Bf (c:=(((nw b)-1:Nat):Int)) rfl rfl (CV (a:=nw b) (b:=1) (by omega) (by omega))) (Au (v:=(pP b2 ((nw b)-1))) rfl (AI (j:=(nw b)-1) rfl rfl Tryz.underlying232 Tryz.sizeOf101 rfl (by omega) (by simp)) ?_)
  have hx5:vb.getD ((nw b)-1) 0<4294967296:=W32.getD hN.w32 ((nw b)-1)
  refine Au rfl (AK (i:=1) (v:=(vK .u32 (vb.getD ((nw b)-1) 0))) rfl rfl Tryz.isAgg101 (BH (xs:=vb) (j:=((nw b)-1)) (by omega))) (Au rfl (Ar (c:=((vb.getD ((nw b)-1) 0:Nat):Int)) rfl Tryz.underlying101 Tryz.underlying45 (BS (by omega))) (Au rfl (CN (c:=((top%(vb.getD ((nw b)-1) 0):Nat):Int)) rfl rfl (by omega) (IS (a:=top) (b:=vb.getD ((nw b)-1) 0))) (E5 rfl (E5 rfl (AP.nil ?_)))))
  refine AC.subF (sL [4,5,6,7,8,9,10,12,13] rfl) (q1 (AE.label (q1 ?_)))
  refine AE.jn1 (tg λ(d:Nat)=>d<=4294967295/\(d=W/V\/d=W/V+1)) (tg λ(d:Nat)=>[(4,(Value.slice (some ⟨b3,0,none⟩) m m)),(5,(Value.slice none 0 0)),(6,(vN s)),(7,(Value.slice (some ⟨b1,0,none⟩) (nw a+1) (nw a+1))),(8,(Value.slice (some ⟨b2,0,none⟩) (nw b) (nw b+1))),(9,(vN (nw b))),(10,(vN k)),(12,(vK .u64 d))]) (tg λ(d:Nat)=>[Ac b3 101 (Al qs),Ac b2 101 (Al vb),Ac b1 101 (Al us)]) ?_ ?_
  ·skip
   refine AE.block ?_
   refine AE.lp2 (tg λ(d:Nat) (r:Nat)=>HZ V W (vb.getD (nw b-1) 0) top d r/\r<8589934592/\d<8589934593) (tg λ(d:Nat) (r:Nat)=>[(4,(Value.slice (some ⟨b3,0,none⟩) m m)),(5,(Value.slice none 0 0)),(6,(vN s)),(7,(Value.slice (some ⟨b1,0,none⟩) (nw a+1) (nw a+1))),(8,(Value.slice (some ⟨b2,0,none⟩) (nw b) (nw b+1))),(9,(vN (nw b))),(10,(vN k)),(12,(vK .u64 d)),(13,(vK .u64 r))]) (tg λ(d:Nat) (r:Nat)=>[Ac b3 101 (Al qs),Ac b2 101 (Al vb),Ac b1 101 (Al us)]) (tg λ(d:Nat) (r:Nat)=>d) (top/vb.getD (nw b-1) 0) (top%vb.getD (nw b-1) 0) (⟨hG0,by have:=Nat.mod_lt top (show vb.getD (nw b-1) 0>0 by omega);omega,Nat.div_lt_of_lt_mul (by omega)⟩) (sF rfl) sr (λd r hJ=>?_)
   obtain ⟨hG,hr2,hd2⟩:=hJ
   refine AE.seq (q4 (AO rfl (AH (IB (c:=(decide (r<=4294967295))) rfl rfl (Um (a:=r) (b:=4294967295))) rfl (AD.nil (AC.subF (sL [4,5,6,7,8,9,10,12,13,81] rfl) ?_)))))
   refine AC.then_ ?_
   refine AE.cond rfl (λhc1=>?_) (λhc1=>?_)
   ·replace hc1:=of_decide_eq_true hc1
    refine AE.skip (AC.then_ (AE.block (AE.seq (AE.seq ?_))))
    by_cases hsp:d<=4294967295
    ·skip
     have hv2:=hN.w32.getD (nw b-2)
     have hml:=Jc (a:=d) (b:=vb.getD (nw b-2) 0) (by omega) hv2
     refine C7 [(0,true),(1,true),(2,true),(3,true),(4,true),(5,true),(6,true),(7,true),(8,true),(9,true),(10,true),(11,true),(12,true),(13,true),(14,true),(15,true),(16,true),(17,true),(18,true),(19,true),(20,true),(21,true),(22,true),(23,true)] sr (Bl rfl (Au rfl (IB (c:=true) rfl rfl (Um.trans (decide_eq_true hsp))) (Bl rfl (AP.pas (v:=(vK .u64 d)) rfl (AB rfl) (BU rfl) rfl rfl (AP.pas (v:=(Value.slice (some ⟨b2,0,none⟩) (nw b) (nw b+1))) rfl (AB rfl) (BU rfl) rfl rfl ?_)))))
     refine AP.pas (v:=(vN (nw b))) rfl (AB rfl) (BU rfl) rfl rfl (AP.pas (v:=(vN ((nw b)-2))) rfl (AB rfl) (Bf (c:=(((nw b)-2:Nat):Int)) rfl rfl (CV (a:=nw b) (b:=2) (by omega) (by omega))) rfl rfl (AP.pas (v:=(pP b2 ((nw b)-2))) rfl (AB rfl) (AI (j:=(nw b)-2) rfl rfl Tryz.underlying232 Tryz.sizeOf101 rfl (by omega) (by simp)) rfl rfl ?_))
     have hx6:vb.getD ((nw b)-2) 0<4294967296:=W32.getD hN.w32 ((nw b)-2)
     refine AP.pas (v:=(vK .u32 (vb.getD ((nw b)-2) 0))) rfl (AB rfl) (AK (i:=1) (v:=(vK .u32 (vb.getD ((nw b)-2) 0))) rfl rfl Tryz.isAgg101 (BH (xs:=vb) (j:=((nw b)-2)) (by omega))) rfl rfl (AP.pas (v:=(vK .u64 (vb.getD ((nw b)-2) 0))) rfl (AB rfl) (Ar (c:=((vb.getD ((nw b)-2) 0:Nat):Int)) rfl Tryz.underlying101 Tryz.underlying45 (BS (by omega))) rfl rfl (AP.pas (v:=(vK .u64 (d*(vb.getD ((nw b)-2) 0)))) rfl (AB rfl) (BZ (c:=((d*(vb.getD ((nw b)-2) 0):Nat):Int)) rfl rfl (Eg (a:=d) (b:=vb.getD ((nw b)-2) 0) (by omega))) rfl rfl (AP.pas (v:=(vK .u64 r)) rfl (AB rfl) (BU rfl) rfl rfl (AP.pas (v:=(vK .u64 (r*4294967296))) rfl (AB rfl) (GF (s:=32) rfl rfl rfl (by decide) (GX (s:=32) (by omega))) rfl rfl (AP.pas (v:=(Value.slice (some ⟨b1,0,none⟩) (nw a+1) (nw a+1))) rfl (AB rfl) (BU rfl) rfl rfl ?_)))))
     refine AP.pas (v:=(vN k)) rfl (AB rfl) (BU rfl) rfl rfl (AP.pas (v:=(vN (nw b))) rfl (AB rfl) (BU rfl) rfl rfl (AP.pas (v:=(vN (k+(nw b)))) rfl (AB rfl) (AT (c:=((k+(nw b):Nat):Int)) rfl rfl (AR (a:=k) (b:=nw b) (by omega))) rfl rfl (AP.pas (v:=(vN ((k+(nw b))-2))) rfl (AB rfl) (Bf (c:=(((k+(nw b))-2:Nat):Int)) rfl rfl (CV (a:=k+(nw b)) (b:=2) (by omega) (by omega))) rfl rfl (AP.pas (v:=(pP b1 ((k+(nw b))-2))) rfl (AB rfl) (AI (j:=(k+(nw b))-2) rfl rfl Tryz.underlying232 Tryz.sizeOf101 rfl (by omega) (by simp)) rfl rfl ?_))))
     have hx7:us.getD ((k+(nw b))-2) 0<4294967296:=W32.getD huw ((k+(nw b))-2)
     refine AP.pas (v:=(vK .u32 (us.getD ((k+(nw b))-2) 0))) rfl (AB rfl) (AK (i:=2) (v:=(vK .u32 (us.getD ((k+(nw b))-2) 0))) rfl rfl Tryz.isAgg101 (BH (xs:=us) (j:=((k+(nw b))-2)) (by omega))) rfl rfl (AP.pas (v:=(vK .u64 (us.getD ((k+(nw b))-2) 0))) rfl (AB rfl) (Ar (c:=((us.getD ((k+(nw b))-2) 0:Nat):Int)) rfl Tryz.underlying101 Tryz.underlying45 (BS (by omega))) rfl rfl (AP.pas (v:=(vK .u64 (r*4294967296+us.getD (k+nw b-2) 0))) rfl (AB rfl) (Im (c:=((r*4294967296+us.getD (k+nw b-2) 0:Nat):Int)) rfl rfl (JQ (by omega) (by omega) (((Nat.or_comm _ _).trans ((HH (s:=32) (by omega)).trans (Nat.add_comm _ _)))))) rfl rfl (AP.pas (v:=(Value.bool (decide ((d*(vb.getD ((nw b)-2) 0))<=(r*4294967296+us.getD (k+nw b-2) 0))))) rfl (AB rfl) (IB (c:=(decide ((d*(vb.getD ((nw b)-2) 0))<=(r*4294967296+us.getD (k+nw b-2) 0)))) rfl rfl (Um (a:=d*(vb.getD ((nw b)-2) 0)) (b:=r*4294967296+us.getD (k+nw b-2) 0))) rfl rfl (Au (v:=(Value.bool (decide ((d*(vb.getD ((nw b)-2) 0))<=(r*4294967296+us.getD (k+nw b-2) 0))))) rfl (Ae rfl rfl) (AP.nil ?_)))))
     refine AC.subF (sL [4,5,6,7,8,9,10,12,13,105] rfl) (AC.then_ ?_)
     refine AE.cond rfl (λhc2=>?_) (λhc2=>?_)
     ·replace hc2:=of_decide_eq_true hc2
      have hg:=JT hN hWin hG (.inr ⟨hsp,hc2⟩)
      exact AE.exit (AC.then_exit (AC.in_exit_ne rfl (AC.round2_exit (AC.in_exit (AC.join1 d (hg) (sF rfl) sr)))))
     ·replace hc2:=of_decide_eq_false hc2
      obtain ⟨hng1,hng2⟩:=Kb hN hWin hG (λh=>hc2 h.2)
      refine AE.skip (q2 (AO rfl (AH (Bf (c:=((d-1:Nat):Int)) rfl rfl (Hm (a:=d) (b:=1) (by omega) (by omega))) rfl (AL rfl (AD.nil ?_)))))
      refine AC.subF (sL [4,5,6,7,8,9,10,12,13] rfl) (AC.then_ (AE.region (AO rfl (AO rfl (AO rfl ?_)))))
      refine AH (Bf (c:=(((nw b)-1:Nat):Int)) rfl rfl (CV (a:=nw b) (b:=1) (by omega) (by omega))) rfl (AH (v:=(pP b2 ((nw b)-1))) (AI (j:=(nw b)-1) rfl rfl Tryz.underlying232 Tryz.sizeOf101 rfl (by omega) (by simp)) rfl ?_)
      have hx8:vb.getD ((nw b)-1) 0<4294967296:=W32.getD hN.w32 ((nw b)-1)
      refine AH (AK (i:=1) (v:=(vK .u32 (vb.getD ((nw b)-1) 0))) rfl rfl Tryz.isAgg101 (BH (xs:=vb) (j:=((nw b)-1)) (by omega))) rfl (AH (Ar (c:=((vb.getD ((nw b)-1) 0:Nat):Int)) rfl Tryz.underlying101 Tryz.underlying45 (BS (by omega))) rfl (AH (AT (c:=((r+(vb.getD ((nw b)-1) 0):Nat):Int)) rfl rfl (DC (a:=r) (b:=vb.getD ((nw b)-1) 0) (by omega))) rfl (AL rfl (AD.nil (AC.subF (sL [4,5,6,7,8,9,10,12,13] rfl) ?_)))))
      exact AC.in_normal (AC.round2 (d-1) (r+vb.getD (nw b-1) 0) (⟨hng1,by omega,by omega⟩) (by omega) (sF rfl) sr)
    ·skip
     obtain ⟨hng1,hng2⟩:=Kb hN hWin hG (λh=>hsp h.1)
     refine C7 [(0,true),(1,true),(2,true),(3,true),(4,true),(5,true),(6,true),(7,true),(8,true),(9,true),(10,true),(11,true),(12,true),(13,true),(14,true),(15,true),(16,true),(17,true),(18,true),(19,true),(20,true),(21,true),(22,true),(23,true)] sr (Bl rfl (Au rfl (IB (c:=false) rfl rfl (Um.trans (decide_eq_false hsp))) (Bl rfl (AP.skp rfl (AM rfl) rfl rfl (AP.skp rfl (AM rfl) rfl rfl ?_)))))
     refine AP.skp rfl (AM rfl) rfl rfl (AP.skp rfl (AM rfl) rfl rfl (AP.skp rfl (AM rfl) rfl rfl (AP.skp rfl (AM rfl) rfl rfl (AP.skp rfl (AM rfl) rfl rfl (AP.skp rfl (AM rfl) rfl rfl ?_)))))
     refine AP.skp rfl (AM rfl) rfl rfl (AP.skp rfl (AM rfl) rfl rfl (AP.skp rfl (AM rfl) rfl rfl (AP.skp rfl (AM rfl) rfl rfl (AP.skp rfl (AM rfl) rfl rfl (AP.skp rfl (AM rfl) rfl rfl ?_)))))
     refine AP.skp rfl (AM rfl) rfl rfl (AP.skp rfl (AM rfl) rfl rfl (AP.skp rfl (AM rfl) rfl rfl (AP.skp rfl (AM rfl) rfl rfl (AP.skp rfl (AM rfl) rfl rfl (AP.skp rfl (AM rfl) rfl rfl ?_)))))
     refine Au (v:=(Value.bool false)) rfl (Aa rfl rfl) (AP.nil (AC.subF (sL [4,5,6,7,8,9,10,12,13,105] rfl) (AC.then_ (AE.cond_false rfl (AE.skip ?_)))))
     refine q2 (AO rfl (AH (Bf (c:=((d-1:Nat):Int)) rfl rfl (Hm (a:=d) (b:=1) (by omega) (by omega))) rfl (AL rfl (AD.nil (AC.subF (sL [4,5,6,7,8,9,10,12,13] rfl) ?_)))))
     refine AC.then_ (AE.region (AO rfl (AO rfl (AO rfl (AH (Bf (c:=(((nw b)-1:Nat):Int)) rfl rfl (CV (a:=nw b) (b:=1) (by omega) (by omega))) rfl ?_)))))
     refine AH (v:=(pP b2 ((nw b)-1))) (AI (j:=(nw b)-1) rfl rfl Tryz.underlying232 Tryz.sizeOf101 rfl (by omega) (by simp)) rfl ?_
     have hx9:vb.getD ((nw b)-1) 0<4294967296:=W32.getD hN.w32 ((nw b)-1)
     refine AH (AK (i:=1) (v:=(vK .u32 (vb.getD ((nw b)-1) 0))) rfl rfl Tryz.isAgg101 (BH (xs:=vb) (j:=((nw b)-1)) (by omega))) rfl (AH (Ar (c:=((vb.getD ((nw b)-1) 0:Nat):Int)) rfl Tryz.underlying101 Tryz.underlying45 (BS (by omega))) rfl (AH (AT (c:=((r+(vb.getD ((nw b)-1) 0):Nat):Int)) rfl rfl (DC (a:=r) (b:=vb.getD ((nw b)-1) 0) (by omega))) rfl (AL rfl (AD.nil (AC.subF (sL [4,5,6,7,8,9,10,12,13] rfl) ?_)))))
     exact AC.in_normal (AC.round2 (d-1) (r+vb.getD (nw b-1) 0) (⟨hng1,by omega,by omega⟩) (by omega) (sF rfl) sr)
   ·replace hc1:=of_decide_eq_false hc1
    have hg:=JT hN hWin hG (.inl (by omega))
    exact AE.exit (AC.then_exit (AC.round2_exit (AC.in_exit (AC.join1 d (hg) (sF rfl) sr))))
  ·intro d hJ
   obtain ⟨hdb,hdq⟩:=hJ
   refine q1 (q4 (AO rfl (AO rfl (AO rfl (AO rfl ?_)))))
   refine AH (AT (c:=((k+(nw b):Nat):Int)) rfl rfl (AR (a:=k) (b:=nw b) (by omega))) rfl (AH (AT (c:=(((k+(nw b))+1:Nat):Int)) rfl rfl (AR (a:=k+(nw b)) (b:=1) (by omega))) rfl (AH (v:=(Value.slice (some ⟨b1,k,none⟩) (((k+(nw b))+1)-k) ((nw a+1)-k))) (Mu (i:=k) (m:=(k+(nw b))+1) rfl rfl rfl Tryz.underlying232 Tryz.sizeOf101 (by omega) (by omega) (by omega) (by simp)) rfl (AD.retell (k:=122) (u:=(Value.slice (some ⟨b1,k,none⟩) (nw b+1) ((nw a+1)-k))) rfl (by rw [show k+nw b+1-k=nw b+1 by omega]) (AO rfl (AO rfl ?_)))))
   refine AD.callM (v:=(Value.bool (decide (val us<d*val (vb.take (nw b))*4294967296^k)))) (i:=2) (cs':=Al (Cb (nw a+1) (val us+(if val us<d*val (vb.take (nw b))*4294967296^k then 4294967296^(k+nw b+1) else 0)-d*val (vb.take (nw b))*4294967296^k))) (L':=[Ac b3 101 (Al qs),Ac b2 101 (Al vb),Ac b1 101 (Al (Cb (nw a+1) (val us+(if val us<d*val (vb.take (nw b))*4294967296^k then 4294967296^(k+nw b+1) else 0)-d*val (vb.take (nw b))*4294967296^k)))]) (AN rfl) (A8 (args:=[(Value.slice (some ⟨b1,k,none⟩) (nw b+1) ((nw a+1)-k)),(Value.slice (some ⟨b2,0,none⟩) (nw b) (nw b+1)),(vK .u64 d)]) rfl rfl Tryz.call241) rfl (λw hw=>Vr _ _ k (nw b) (nw a+1) _ _ d us vb huw hul hN.w32 (by omega) (by omega) (by omega) (by omega) hWin.fits ((hw.apart (i:=1) (j:=2) (by decide) rfl rfl)) w (hw.get (i:=2) rfl) (hw.get (i:=1) rfl)) (λd hd=>by cases hd<;>exact (Af rfl)) rfl (AD.nil (AC.subF (sL [4,5,6,7,8,9,10,12,125] rfl) (AC.then_ ?_)))
   refine AE.jn1 (tg λ(us2:List Nat)=>us2.length=nw a+1/\W32 us2/\val us2=val us-W/V*V*4294967296^k) (tg λ(us2:List Nat)=>[(4,(Value.slice (some ⟨b3,0,none⟩) m m)),(5,(Value.slice none 0 0)),(6,(vN s)),(7,(Value.slice (some ⟨b1,0,none⟩) (nw a+1) (nw a+1))),(8,(Value.slice (some ⟨b2,0,none⟩) (nw b) (nw b+1))),(9,(vN (nw b))),(10,(vN k)),(12,(vK .u64 (W/V)))]) (tg λ(us2:List Nat)=>[Ac b3 101 (Al qs),Ac b2 101 (Al vb),Ac b1 101 (Al us2)]) ?_ ?_
   ·skip
    refine AE.cond rfl (λhc3=>?_) (λhc3=>?_)
    ·replace hc3:=of_decide_eq_true hc3
     have hP:4294967296^(k+nw b+1)<=4294967296^(nw a+1):=Nat.pow_le_pow_right (by omega) (by omega)
     rw [hN.take] at hc3
     obtain ⟨hde,hdS⟩:=OW (vb:=vb) hWin hdq hc3
     have hXP:V*4294967296^k<=4294967296^(k+nw b+1):=Nat.le_trans (Nat.mul_le_mul_right _ (Nat.le_of_lt hN.high)) (by rw [<-Nat.pow_add];exact Nat.pow_le_pow_right (by omega) (by omega))
     have hqle:=O4 (vb:=vb) hWin
     have hfit:=hWin.fits
     have hd1:1<=d:=by rw [hde];exact Nat.le_add_left _ _
     have hU1:val (Cb (nw a+1) (val us+(if val us<d*val (vb.take (nw b))*4294967296^k then 4294967296^(k+nw b+1) else 0)-d*val (vb.take (nw b))*4294967296^k))=val us+4294967296^(k+nw b+1)-d*V*4294967296^k:=by rw [hN.take,if_pos hc3,Ee _ _ (by omega)]
     have hU1lt:val (Cb (nw a+1) (val us+(if val us<d*val (vb.take (nw b))*4294967296^k then 4294967296^(k+nw b+1) else 0)-d*val (vb.take (nw b))*4294967296^k))<4294967296^(k+nw b+1):=by rw [hU1];omega
     refine q4 (AO rfl (AH (Bf (c:=((d-1:Nat):Int)) rfl rfl (Hm (a:=d) (b:=1) (by omega) (by omega))) rfl (AL rfl (q3 (sL [4,5,6,7,8,9,10,12] rfl) (AL rfl ?_)))))
     refine AD.nil (q1 (q4 (AO rfl (AH (v:=(vN (nw b))) (AF rfl Tryz.underlying232) rfl (AO rfl ?_)))))
     refine AD.nil (AC.then_ (AE.block ?_))
     refine AE.lp3 (tg λ(i:Nat) (os:List Nat) (c:Nat)=>i<=nw b/\os.length=nw a+1/\W32 os/\c<=1/\(∀j,k+nw b+1<=j->os.getD j 0=0)/\val os+c*4294967296^(k+i)=(val us+4294967296^(k+nw b+1)-d*V*4294967296^k)+val (vb.take i)*4294967296^k) (tg λ(i:Nat) (os:List Nat) (c:Nat)=>[(4,(Value.slice (some ⟨b3,0,none⟩) m m)),(5,(Value.slice none 0 0)),(6,(vN s)),(7,(Value.slice (some ⟨b1,0,none⟩) (nw a+1) (nw a+1))),(8,(Value.slice (some ⟨b2,0,none⟩) (nw b) (nw b+1))),(9,(vN (nw b))),(10,(vN k)),(12,(vK .u64 (d-1))),(128,(Value.slice (some ⟨b2,0,none⟩) (nw b) (nw b+1))),(129,(vN (nw b))),(130,(vN i)),(14,(vK .u32 c))]) (tg λ(i:Nat) (os:List Nat) (c:Nat)=>[Ac b3 101 (Al qs),Ac b2 101 (Al vb),Ac b1 101 (Al os)]) (tg λ(i:Nat) (os:List Nat) (c:Nat)=>nw b-i) 0 (Cb (nw a+1) (val us+(if val us<d*val (vb.take (nw b))*4294967296^k then 4294967296^(k+nw b+1) else 0)-d*val (vb.take (nw b))*4294967296^k)) 0 (⟨Nat.zero_le _,Bd _ _,Dd _ _,by omega,If hU1lt,by rw [hU1];simp [val]⟩) (sF rfl) sr (λi os c hJ=>?_)
     obtain ⟨hi,hl,hw32,hcc,hz,hv⟩:=hJ
     refine q4 (AH (Ag (c:=(decide (i<(nw b)))) rfl rfl (DA (a:=i) (b:=nw b))) rfl (AD.nil (q1 ?_)))
     refine AE.cond rfl (λhc4=>?_) (λhc4=>?_)
     ·replace hc4:=of_decide_eq_true hc4
      refine AE.skip (q1 (AE.block (q4 (AO rfl (AH (v:=(pP b2 i)) (AI (j:=i) rfl rfl Tryz.underlying232 Tryz.sizeOf101 rfl (by omega) (by simp)) rfl ?_)))))
      have hx10:vb.getD i 0<4294967296:=W32.getD hN.w32 i
      refine AH (AK (i:=1) (v:=(vK .u32 (vb.getD i 0))) rfl rfl Tryz.isAgg101 (BH (xs:=vb) (j:=i) (by omega))) rfl (AL rfl (AL rfl (AD.nil (AC.subF (sL [4,5,6,7,8,9,10,12,128,129,130,14,15,16] rfl) (AC.then_ ?_)))))
      refine AE.region (AO rfl (AO rfl (AO rfl (AH (AT (c:=((k+i:Nat):Int)) rfl rfl (AR (a:=k) (b:=i) (by omega))) rfl (AO rfl ?_)))))
      refine AO rfl (AO rfl (AH (AT (c:=((k+i:Nat):Int)) rfl rfl (AR (a:=k) (b:=i) (by omega))) rfl (AH (v:=(pP b1 (k+i))) (AI (j:=k+i) rfl rfl Tryz.underlying232 Tryz.sizeOf101 rfl (by omega) (by simp)) rfl ?_)))
      have hx11:os.getD (k+i) 0<4294967296:=W32.getD hw32 (k+i)
      refine AH (AK (i:=2) (v:=(vK .u32 (os.getD (k+i) 0))) rfl rfl Tryz.isAgg101 (BH (xs:=os) (j:=(k+i)) (by omega))) rfl (AO rfl (AO rfl (BY Tryz.call200 (JZ (os.getD (k+i) 0) (vb.getD i 0) c (by omega) (by omega) (by omega)) rfl (AO rfl (AH (AY (v:=(vK .u32 (((os.getD (k+i) 0)+(vb.getD i 0)+c)%4294967296))) rfl rfl) rfl ?_)))))
      refine AH (AY (v:=(vK .u32 (((os.getD (k+i) 0)+(vb.getD i 0)+c)/4294967296))) rfl rfl) rfl (AH (v:=(pP b1 (k+i))) (AI (j:=k+i) rfl rfl Tryz.underlying232 Tryz.sizeOf101 rfl (by omega) (by simp)) rfl (AD.store' (i:=2) (off:=(k+i)) (vs:=[(vK .u32 (((os.getD (k+i) 0)+(vb.getD i 0)+c)%4294967296))]) (cs':=Al (os.set (k+i) (((os.getD (k+i) 0)+(vb.getD i 0)+c)%4294967296))) (L':=[Ac b3 101 (Al qs),Ac b2 101 (Al vb),Ac b1 101 (Al (os.set (k+i) (((os.getD (k+i) 0)+(vb.getD i 0)+c)%4294967296)))]) (AN rfl) rfl rfl rfl rfl rfl Tryz.sizeOf101 rfl (Cc (BO _) (by omega)) (CD (by omega)) rfl (AL rfl (AD.nil (AC.subF (sL [4,5,6,7,8,9,10,12,128,129,130,14] rfl) ?_)))))
      refine AC.in_normal (AC.then_ (AE.region (AH (AT (c:=((i+1:Nat):Int)) rfl rfl (AR (a:=i) (b:=1) (by omega))) rfl (AO rfl (AD.nil ?_)))))
      exact AC.subF (sL [4,5,6,7,8,9,10,12,128,129,130,14] rfl) (AC.round3 (i+1) (os.set (k+i) ((os.getD (k+i) 0+vb.getD i 0+c)%4294967296)) ((os.getD (k+i) 0+vb.getD i 0+c)/4294967296) (⟨by omega,by rw [List.length_set];exact hl,W32.set hw32 (by omega) _,by omega,FH hz (by omega),Q1 hl (by omega) hv⟩) (by omega) (sF rfl) sr)
     ·replace hc4:=of_decide_eq_false hc4
      have hib:i=nw b:=by omega
      have hv3:=hv
      rw [hib,hN.take] at hv3
      have hbk:=Qt (T:=val us-W/V*V*4294967296^k) (P:=4294967296^(k+nw b+1)) hl (by omega) hw32 hcc hz rfl (hv3.trans (Ol hdS hqle hfit hc3 hXP)) (Nat.lt_of_le_of_lt (Nat.sub_le _ _) hfit)
      refine AE.exit (AC.then_exit (AC.round3_exit (AC.in_exit (AC.then_ (AE.region ?_)))))
      refine AO rfl (AO rfl (AO rfl (AH (AT (c:=((k+(nw b):Nat):Int)) rfl rfl (AR (a:=k) (b:=nw b) (by omega))) rfl (AH (v:=(pP b1 (k+(nw b)))) (AI (j:=k+(nw b)) rfl rfl Tryz.underlying232 Tryz.sizeOf101 rfl (by omega) (by simp)) rfl ?_))))
      have hx12:os.getD (k+(nw b)) 0<4294967296:=W32.getD hw32 (k+(nw b))
      refine AH (AK (i:=2) (v:=(vK .u32 (os.getD (k+(nw b)) 0))) rfl rfl Tryz.isAgg101 (BH (xs:=os) (j:=(k+(nw b))) (by omega))) rfl (AO rfl (AH (AT (c:=(((os.getD (k+nw b) 0+c)%4294967296:Nat):Int)) rfl rfl Tr) rfl (AH (v:=(pP b1 (k+(nw b)))) (AI (j:=k+(nw b)) rfl rfl Tryz.underlying232 Tryz.sizeOf101 rfl (by omega) (by simp)) rfl (AD.store' (i:=2) (off:=(k+(nw b))) (vs:=[(vK .u32 ((os.getD (k+nw b) 0+c)%4294967296))]) (cs':=Al (os.set (k+(nw b)) ((os.getD (k+nw b) 0+c)%4294967296))) (L':=[Ac b3 101 (Al qs),Ac b2 101 (Al vb),Ac b1 101 (Al (os.set (k+(nw b)) ((os.getD (k+nw b) 0+c)%4294967296)))]) (AN rfl) rfl rfl rfl rfl rfl Tryz.sizeOf101 rfl (Cc (BO _) (by omega)) (CD (by omega)) rfl (AD.nil ?_)))))
      exact AC.subF (sL [4,5,6,7,8,9,10,12,128,129,130,14] rfl) (AC.retell (k:=12) (u:=Value.int .u64 ((W/V:Nat):Int)) rfl (by rw [hde,Nat.add_sub_cancel]) (AC.join1 (os.set (k+(nw b)) ((os.getD (k+nw b) 0+c)%4294967296)) (⟨by rw [List.length_set];exact hl,W32.set hw32 (by omega) _,hbk⟩) (sF rfl) sr))
    ·replace hc3:=of_decide_eq_false hc3
     have hP:4294967296^(k+nw b+1)<=4294967296^(nw a+1):=Nat.pow_le_pow_right (by omega) (by omega)
     rw [hN.take] at hc3
     obtain ⟨hde,hdS⟩:=ON hN hWin hdq hc3
     have hfit:=hWin.fits
     have hU1:val (Cb (nw a+1) (val us+(if val us<d*val (vb.take (nw b))*4294967296^k then 4294967296^(k+nw b+1) else 0)-d*val (vb.take (nw b))*4294967296^k))=val us-W/V*V*4294967296^k:=by rw [hN.take,if_neg hc3,Ee _ _ (by omega)];exact hdS
     exact AE.skip (AC.retell (k:=12) (u:=Value.int .u64 ((W/V:Nat):Int)) rfl (by rw [hde]) (AC.join1 (Cb (nw a+1) (val us+(if val us<d*val (vb.take (nw b))*4294967296^k then 4294967296^(k+nw b+1) else 0)-d*val (vb.take (nw b))*4294967296^k)) (⟨Bd _ _,Dd _ _,hU1⟩) (sF rfl) sr))
   ·intro us2 hJ
    obtain ⟨hu2l,hu2w,hu2v⟩:=hJ
    refine AC.then_ (AE.region (AO rfl (AO rfl (AO rfl (AH (Ar (c:=((W/V:Nat):Int)) rfl Tryz.underlying45 Tryz.underlying101 (CS (by exact hq32))) rfl ?_)))))
    refine AH (v:=(pP b3 k)) (AI (j:=k) rfl rfl Tryz.underlying232 Tryz.sizeOf101 rfl (by omega) (by simp)) rfl (AD.store' (i:=0) (off:=k) (vs:=[(vK .u32 (W/V))]) (cs':=Al (qs.set k (W/V))) (L':=[Ac b3 101 (Al (qs.set k (W/V))),Ac b2 101 (Al vb),Ac b1 101 (Al us2)]) (AN rfl) rfl rfl rfl rfl rfl Tryz.sizeOf101 rfl (Cc (BO _) (by omega)) (CD (by omega)) rfl (AD.nil (AC.subF (sL [4,5,6,7,8,9,10,12] rfl) (AC.scope_normal (AC.in_normal ?_)))))
    refine AC.then_ (AE.region (AO rfl (AH (Bf (c:=(((k:Nat):Int)-1)) rfl rfl (BE (by omega) (by omega))) rfl (AL rfl (AD.nil ?_)))))
    refine AC.subF (sL [4,5,6,7,8,9,10,12] rfl) ?_
    have hdd:=Ob hN hWin hu2v hAeq hql (by omega) (hqz k (by omega))
    exact AC.round3 k us2 (qs.set k (W/V)) (⟨by omega,hu2l,hu2w,by rw [List.length_set];exact hql,W32.set hqw hq32 _,λj hj=>by rw [Ic (by omega)];exact hqz j (by omega),hdd.1,hdd.2⟩) (by omega) (sF rfl) sr
 ·replace hc0:=of_decide_eq_false hc0
  have hk00:k0=0:=by omega
  have hlt0:=hlt
  rw [hk00,Nat.pow_zero,Nat.mul_one] at hlt0
  have hfin:=Qc (a:=a) (b:=b) (s:=s) (q:=val qs) (r:=val us) hb0 (by rw [<-hV];exact hAeq) (by rw [<-hV];exact hlt0)
  refine AE.exit (AC.then_exit (AC.round3_exit (AC.in_exit (q1 (q4 ?_)))))
  refine AO rfl (AO rfl (AD.nil (AC.then_ (AE.block ?_))))
  refine AE.lp2 (tg λ(i:Nat) (us3:List Nat)=>i<=s/\us3.length=nw a+1/\W32 us3/\val us3=a%b*2^s/2^i) (tg λ(i:Nat) (us3:List Nat)=>[(4,(Value.slice (some ⟨b3,0,none⟩) m m)),(5,(Value.slice none 0 0)),(7,(Value.slice (some ⟨b1,0,none⟩) (nw a+1) (nw a+1))),(167,(vN s)),(168,(vN i))]) (tg λ(i:Nat) (us3:List Nat)=>[Ac b3 101 (Al qs),Ac b2 101 (Al vb),Ac b1 101 (Al us3)]) (tg λ(i:Nat) (us3:List Nat)=>s-i) 0 us (⟨Nat.zero_le _,hul,huw,by rw [hfin.2];simp⟩) (sF rfl) sr (λi us3 hJ=>?_)
  obtain ⟨hi,hl3,hw3,hv3⟩:=hJ
  refine q4 (AH (Ag (c:=(decide (i<s))) rfl rfl (DA (a:=i) (b:=s))) rfl (AD.nil (q1 ?_)))
  refine AE.cond rfl (λhc5=>?_) (λhc5=>?_)
  ·replace hc5:=of_decide_eq_true hc5
   refine AE.skip (q1 (AE.block (AE.region (AO rfl (AD.callM (v:=(Value.tuple #[])) (i:=2) (cs':=Al (Cb (nw a+1) (val us3/2))) (L':=[Ac b3 101 (Al qs),Ac b2 101 (Al vb),Ac b1 101 (Al (Cb (nw a+1) (val us3/2)))]) (AN rfl) (A8 (args:=[(Value.slice (some ⟨b1,0,none⟩) (nw a+1) (nw a+1))]) rfl rfl Tryz.call242) rfl (λw hw=>Uh _ (nw a+1) _ us3 hw3 hl3 (by omega) w (hw.get (i:=2) rfl)) (λd hd=>by cases hd<;>exact (Af rfl)) rfl ?_)))))
   refine AD.nil (AC.subF (sL [4,5,7,167,168] rfl) (AC.in_normal (AC.then_ (AE.region (AH (AT (c:=((i+1:Nat):Int)) rfl rfl (AR (a:=i) (b:=1) (by omega))) rfl ?_)))))
   refine AO rfl (AD.nil (AC.subF (sL [4,5,7,167,168] rfl) ?_))
   have hb3:val us3/2<4294967296^(nw a+1):=Nat.lt_of_le_of_lt (Nat.div_le_self _ _) (by have:=F8 hw3;rw [hl3] at this;exact this)
   exact AC.round2 (i+1) (Cb (nw a+1) (val us3/2)) (⟨by omega,Bd _ _,Dd _ _,by rw [Ee _ _ hb3,hv3,Nat.div_div_eq_div_mul,<-Nat.pow_succ]⟩) (by omega) (sF rfl) sr
  ·replace hc5:=of_decide_eq_false hc5
   have his:i=s:=by omega
   have hr:val us3=a%b:=by rw [hv3,his,Nat.mul_div_cancel _ (Nat.pow_pos (by omega))]
   have hr1:=G7 hw3 hl3 hr
   have hq1:=G7 hqw hql hfin.1
   refine AE.exit (AC.then_exit (AC.round2_exit (AC.in_exit (q2 (AO rfl ?_)))))
   refine AO rfl (AL rfl (AL rfl (AD.nil (AC.subF (sL [4,5,7,167,168] rfl) (AC.then_ ?_)))))
   exact AE.ret (DM rfl (Am (v:=(Value.slice (some ⟨b3,0,none⟩) m m)) rfl) (Am (v:=(Value.slice (some ⟨b1,0,none⟩) (nw a+1) (nw a+1))) rfl) (λw hw=>⟨b3,b1,by rw [hm],hw.out,hw.fresh (i:=0) rfl,hw.fresh (i:=2) rfl,(hw.apart (i:=0) (j:=2) (by decide) rfl rfl),by rw [<-hm,<-hq1];exact hw.get (i:=0) rfl,by rw [<-hr1];exact hw.get (i:=2) rfl⟩))
end
end Go.Proofs.YtfbomiejpbchdaaGreat
