import Derived.Test.YtpgncndhhhllfaaGreatDoorPart06
import Derived.Test.YtpgncndhhhllfaaGreatDoorPart15
import Derived.Test.YtpgncndhhhllfaaGreatDoorPart16
namespace Go.Proofs.YtpgncndhhhllfaaGreatDoor
open Go Go.RowKit Go.Proofs.Tryz
set_option linter.unusedVariables false
set_option linter.unusedSimpArgs false
section
set_option maxRecDepth 100000
theorem Oa {R P D Q X:Nat} (h1:D=Q+X) (h2:Q<=R) (h3:R<P) (h4:R<D) (h5:X<=P):R+P-D+X=R-Q+P:=by omega
theorem VV (a b p q c1 c2:Nat) (ha:nw a<=1099511627776) (hb2:2<=nw b) (hba:nw b<=nw a) (w:World) (hp:w.heap[p]?=some (.cells (Aj (Ao a)).toArray 97 (0,0))) (hq:w.heap[q]?=some (.cells (Aj (Ao b)).toArray 97 (0,0))):Calls Tryz.prog 169 #[(Value.slice (some ⟨p,0,none⟩) (nw a) c1),(Value.slice (some ⟨q,0,none⟩) (nw b) c2)] w (λe w'=>∃b1 b2,e=.returned (.tuple #[.slice (some ⟨b1,0,none⟩) (nw a+1-nw b) (nw a+1-nw b),.slice (some ⟨b2,0,none⟩) (nw a+1) (nw a+1)])/\Dk w.heap.size w w'/\w.heap.size<=b1/\w.heap.size<=b2/\b1≠b2/\w'.heap[b1]?=some (.cells (Aj (CO (nw a+1-nw b) (a/b))).toArray 97 (0,0))/\w'.heap[b2]?=some (.cells (Aj (CO (nw a+1) (a%b))).toArray 97 (0,0))):=by
 have hla:=B5 a
 have hlb:=B5 b
 have hb0:0<b:=Nat.pos_of_ne_zero (λh=>by rw [h,LG] at hb2;omega)
 obtain ⟨s,hs⟩:∃s,s=32-bl ((AM b).getD (nw b-1) 0):=⟨_,rfl⟩
 obtain ⟨hs32,hlow,hhigh⟩:=Wx (by omega) hs
 obtain ⟨m,hm⟩:∃m,m=nw a+1-nw b:=⟨_,rfl⟩
 obtain ⟨V,hV⟩:∃V,V=b*2^s:=⟨_,rfl⟩
 obtain ⟨vb,hvb⟩:∃vb,vb=CO (nw b+1) (b*2^s):=⟨_,rfl⟩
 have hbig:b*2^s<4294967296^(nw b+1):=Nat.lt_of_lt_of_le hhigh (Nat.pow_le_pow_right (by omega) (by omega))
 have hN:N1 vb (nw b) V:=⟨by rw [hvb];exact DS _ _,by rw [hvb];exact BT _ _,hb2,by rw [hvb,hV];exact EC _ _ hbig,by rw [hV];exact hlow,by rw [hV];exact hhigh⟩
 have hst:=OS rfl (by omega) hs32 hlow hm hba
 have hA:val (CO (nw a+1) (a*2^s))=a*2^s:=EC _ _ (by rw [Nat.pow_succ];exact Nat.mul_lt_mul_of_lt_of_le (Bb a) (Nat.le_trans (Nat.pow_le_pow_right (by omega) (show s<=32 by omega)) (by decide)) (by omega))
 have hvlen:=hN.len
 have htop:=hN.top
 have htw:=(Mk (b:=b) (by omega)).2.2
 refine Ag (args:=[(Value.slice (some ⟨p,0,none⟩) (nw a) c1),(Value.slice (some ⟨q,0,none⟩) (nw b) c2)]) Tryz.func169 rfl rfl (AY rfl) (AF.subF (sL [0,1] rfl) (q4 (asg' rfl (asg' rfl (AD.nil ?_)))))
 refine q2 (AJ rfl (AJ rfl (AH (v:=(vN (nw b))) (AE rfl Tryz.underlying184) rfl (AH (BL (c:=(((nw b)-1:Nat):Int)) rfl rfl (Bj (a:=nw b) (b:=1) (by omega) (by omega))) rfl (AH (v:=(pP q ((nw b)-1))) (AK (j:=(nw b)-1) rfl rfl Tryz.underlying184 Tryz.sizeOf97 rfl (by omega) (by simp)) rfl ?_)))))
 have hx1:(Ao b).getD ((nw b)-1) 0<4294967296:=W32.getD (B6 b) ((nw b)-1)
 refine AH (BO (v:=(vK .u32 ((Ao b).getD ((nw b)-1) 0))) rfl (λw' hw=>CA.at0 (hw.oldCA (by simp) (EO hq)) (BA (xs:=Ao b) (j:=((nw b)-1)) (by omega))) Tryz.isAgg97) rfl (AD.retell (k:=22) (u:=(vK .u32 ((AM b).getD (nw b-1) 0))) rfl (by rw [C4 (by omega)]) (ck' Tryz.call219 (Ua ((AM b).getD (nw b-1) 0) (by omega)) rfl (AD.retell (k:=23) (u:=(vN s)) rfl (by rw [hs]) (asg' rfl (q6 (sL [0,1,4,5,6] rfl) ?_)))))
 refine Cw [(0,true),(1,true),(3,true),(4,true),(6,true),(7,true),(2,false),(5,false),(8,true),(9,true),(10,true)] sr (BS rfl (BS rfl (BS rfl (BS rfl (BS rfl ?_)))))
 refine Aw (v:=(vN (nw b))) rfl (AE rfl Tryz.underlying184) (OkE.imp rfl (AD.callB (V:=λb1=>(Value.slice (some ⟨b1,0,none⟩) (nw a+1) (nw a+1))) (T:=97) (cs:=Aj (CO (nw a+1) (a*2^s))) (AO rfl) (Ay (args:=[(Value.slice (some ⟨p,0,none⟩) (nw a) c1),(vN s)]) rfl rfl Tryz.call220) (λw hw=>(by have h:=Jo p (nw a) c1 s (Ao a) (B6 a) hla (by omega) hs32 w (hw.old (by simp) hp);rw [G4] at h;exact h)) rfl (AY rfl) λb1=>OkE.back (sl sr) (OkE.imp rfl (AD.callB (V:=λb2=>(Value.slice (some ⟨b2,0,none⟩) (nw b+1) (nw b+1))) (T:=97) (cs:=Aj vb) (AO rfl) (Ay (args:=[(Value.slice (some ⟨q,0,none⟩) (nw b) c2),(vN s)]) rfl rfl Tryz.call220) (λw hw=>(by have h:=Jo q (nw b) c2 s (Ao b) (B6 b) hlb (by omega) hs32 w (hw.old (by simp) hq);rw [G4,<-hvb] at h;exact h)) rfl (AY rfl) λb2=>?_))))
 refine OkE.back (sl (sl sr)) (Aw (v:=(Value.slice (some ⟨b2,0,none⟩) (nw b) (nw b+1))) rfl (Do (m:=nw b) rfl rfl Tryz.underlying184 Tryz.sizeOf97 (by omega)) (pS' rfl (pS' rfl (OkE.nil (AC.subF (sL [1,4,5,6,7,8] rfl) ?_)))))
 refine q2 (AJ rfl (AH (v:=(vN (nw b))) (AE rfl Tryz.underlying184) rfl (asg' rfl (q3 (sL [1,4,5,6,7,8,9] rfl) (AJ rfl ?_)))))
 refine AH (v:=(vN (nw a+1))) (AE rfl Tryz.underlying184) rfl (AJ rfl (AH (BL (c:=(((nw a+1)-(nw b):Nat):Int)) rfl rfl (Bj (a:=nw a+1) (b:=nw b) (by omega) (by omega))) rfl (AD.retell (k:=38) (u:=(vN m)) rfl (by rw [hm]) (AD.openV (V:=λb3=>(Value.slice (some ⟨b3,0,none⟩) m m)) (T:=97) (cs:=Aj (List.replicate m 0)) (AO rfl) (Cp (m:=m) (c:=m) rfl rfl (by omega) (by omega)) rfl (AY rfl) λb3=>asg' rfl ?_))))
 refine q6 (sL [1,4,5,6,7,8,9] rfl) (q4 (AJ rfl (AH (v:=(vN m)) (AE rfl Tryz.underlying184) rfl (AH (BL (c:=(((m:Nat):Int)-1)) rfl rfl (BK (by omega) (by omega))) rfl (asg' rfl ?_)))))
 refine AD.nil (AC.subF (sL [1,4,5,6,7,8,9,10] rfl) (AC.then_ (AF.block ?_)))
 refine AF.lp3 (tg λ(k0:Nat) (us:List Nat) (qs:List Nat)=>k0<=m/\us.length=nw a+1/\W32 us/\qs.length=m/\W32 qs/\(∀j,j<k0->qs.getD j 0=0)/\val us<V*4294967296^k0/\a*2^s=val qs*V+val us) (tg λ(k0:Nat) (us:List Nat) (qs:List Nat)=>[(4,(Value.slice (some ⟨b3,0,none⟩) m m)),(5,(Value.slice none 0 0)),(6,(vN s)),(7,(Value.slice (some ⟨b1,0,none⟩) (nw a+1) (nw a+1))),(8,(Value.slice (some ⟨b2,0,none⟩) (nw b) (nw b+1))),(9,(vN (nw b))),(10,(vI (((k0:Nat):Int)-1)))]) (tg λ(k0:Nat) (us:List Nat) (qs:List Nat)=>[Ab b3 97 (Aj qs),Ab b2 97 (Aj vb),Ab b1 97 (Aj us)]) (tg λ(k0:Nat) (us:List Nat) (qs:List Nat)=>k0) m (CO (nw a+1) (a*2^s)) (List.replicate m 0) (⟨Nat.le_refl _,BT _ _,DS _ _,by simp,W32.zeros _,λj _=>by simp [List.getD_eq_getElem?_getD,List.getElem?_replicate];split<;>rfl,by rw [hA,hV];exact hst,by rw [hA,Df];simp⟩) (sF rfl) sr (λk0 us qs hJ=>?_)
 obtain ⟨hk0,hul,huw,hql,hqw,hqz,hlt,hAeq⟩:=hJ
 refine AF.seq (q4 (AJ rfl (AH (C_ (c:=(decide ((0:Int)<=(((k0:Nat):Int)-1)))) rfl rfl rfl) rfl (AD.nil (AC.subF (sL [4,5,6,7,8,9,10,44] rfl) ?_)))))
 refine AC.then_ ?_
 refine AF.cond rfl (λhc0=>?_) (λhc0=>?_)
 ·replace hc0:=of_decide_eq_true hc0
  obtain ⟨k,rfl⟩:∃k,k0=k+1:=⟨k0-1,by omega⟩
  obtain ⟨top,htp⟩:∃t,t=us.getD (k+nw b) 0*4294967296+us.getD (k+nw b-1) 0:=⟨_,rfl⟩
  obtain ⟨W,hWd⟩:∃x,x=val us/4294967296^k:=⟨_,rfl⟩
  have hWin:=XI hN huw hlt
  rw [<-htp,<-hWd] at hWin
  have hu2:=huw.getD (k+nw b-2)
  have hG0:=MN hN hWin hu2
  have htb:=hWin.topb
  have hq32:=hWin.quo_lt hN.pos
  refine AF.retell (k:=10) (u:=(vN k)) rfl (by congr 1;omega) (AF.skip (q1 (AF.block (AF.scope (AF.seq ?_)))))
  refine Cw [(0,true),(1,true),(2,true),(3,true),(4,true),(5,true),(6,true),(7,true),(8,true),(9,true),(10,true),(11,true),(12,true),(13,true),(14,true),(15,true),(16,true),(17,true)] sr (BS rfl (BS rfl (BS rfl (Aw rfl (AW (c:=((k+(nw b):Nat):Int)) rfl rfl (AR (a:=k) (b:=nw b) (by omega))) (Aw (v:=(pP b1 (k+(nw b)))) rfl (AK (j:=k+(nw b)) rfl rfl Tryz.underlying184 Tryz.sizeOf97 rfl (by omega) (by simp)) ?_)))))
  have hx2:us.getD (k+(nw b)) 0<4294967296:=W32.getD huw (k+(nw b))
  refine Aw rfl (AP (i:=2) (v:=(vK .u32 (us.getD (k+(nw b)) 0))) rfl rfl Tryz.isAgg97 (BA (xs:=us) (j:=(k+(nw b))) (by omega))) (Aw rfl (Au (c:=((us.getD (k+(nw b)) 0:Nat):Int)) rfl Tryz.underlying97 Tryz.underlying40 (BH (by omega))) (Aw (v:=(vK .u64 (us.getD (k+nw b) 0*4294967296))) rfl (Ft (s:=32) rfl rfl rfl (by decide) (F7 (s:=32) (by omega))) (BS rfl (BS rfl (BS rfl ?_)))))
  refine Aw rfl (AW (c:=((k+(nw b):Nat):Int)) rfl rfl (AR (a:=k) (b:=nw b) (by omega))) (Aw rfl (BL (c:=(((k+(nw b))-1:Nat):Int)) rfl rfl (Bj (a:=k+(nw b)) (b:=1) (by omega) (by omega))) (Aw (v:=(pP b1 ((k+(nw b))-1))) rfl (AK (j:=(k+(nw b))-1) rfl rfl Tryz.underlying184 Tryz.sizeOf97 rfl (by omega) (by simp)) ?_))
  have hx3:us.getD ((k+(nw b))-1) 0<4294967296:=W32.getD huw ((k+(nw b))-1)
  refine Aw rfl (AP (i:=2) (v:=(vK .u32 (us.getD ((k+(nw b))-1) 0))) rfl rfl Tryz.isAgg97 (BA (xs:=us) (j:=((k+(nw b))-1)) (by omega))) (Aw rfl (Au (c:=((us.getD ((k+(nw b))-1) 0:Nat):Int)) rfl Tryz.underlying97 Tryz.underlying40 (BH (by omega))) (Aw rfl (IA (c:=((top:Nat):Int)) rfl rfl (Id (by omega) (by omega) (((Nat.or_comm _ _).trans ((Gg (s:=32) (by omega)).trans (Nat.add_comm _ _))).trans htp.symm))) (pS' rfl (OkE.nil (AC.subF (sL [4,5,6,7,8,9,10,11] rfl) ?_)))))
  refine q1 (Cw [(0,true),(1,true),(2,true),(3,true),(4,true),(5,true),(6,true),(7,true),(8,true),(9,true),(10,true),(11,true),(12,true),(13,true),(14,true),(15,true),(16,true),(17,true)] sr (BS rfl (BS rfl (BS rfl (Aw rfl (BL (c:=(((nw b)-1:Nat):Int)) rfl rfl (Bj (a:=nw b) (b:=1) (by omega) (by omega))) ?_)))))
  refine Aw (v:=(pP b2 ((nw b)-1))) rfl (AK (j:=(nw b)-1) rfl rfl Tryz.underlying184 Tryz.sizeOf97 rfl (by omega) (by simp)) ?_
  have hx4:vb.getD ((nw b)-1) 0<4294967296:=W32.getD hN.w32 ((nw b)-1)
  refine Aw rfl (AP (i:=1) (v:=(vK .u32 (vb.getD ((nw b)-1) 0))) rfl rfl Tryz.isAgg97 (BA (xs:=vb) (j:=((nw b)-1)) (by omega))) (Aw rfl (Au (c:=((vb.getD ((nw b)-1) 0:Nat):Int)) rfl Tryz.underlying97 Tryz.underlying40 (BH (by omega))) (Aw rfl (EA (c:=((top/(vb.getD ((nw b)-1) 0):Nat):Int)) rfl rfl (by omega) (G3 (a:=top) (b:=vb.getD ((nw b)-1) 0) (by omega))) (BS rfl (BS rfl (BS rfl ?_)))))
  refine Aw rfl (BL (c:=(((nw b)-1:Nat):Int)) rfl rfl (Bj (a:=nw b) (b:=1) (by omega) (by omega))) (Aw (v:=(pP b2 ((nw b)-1))) rfl (AK (j:=(nw b)-1) rfl rfl Tryz.underlying184 Tryz.sizeOf97 rfl (by omega) (by simp)) ?_)
  have hx5:vb.getD ((nw b)-1) 0<4294967296:=W32.getD hN.w32 ((nw b)-1)
  refine Aw rfl (AP (i:=1) (v:=(vK .u32 (vb.getD ((nw b)-1) 0))) rfl rfl Tryz.isAgg97 (BA (xs:=vb) (j:=((nw b)-1)) (by omega))) (Aw rfl (Au (c:=((vb.getD ((nw b)-1) 0:Nat):Int)) rfl Tryz.underlying97 Tryz.underlying40 (BH (by omega))) (Aw rfl (Cg (c:=((top%(vb.getD ((nw b)-1) 0):Nat):Int)) rfl rfl (by omega) (K7 (a:=top) (b:=vb.getD ((nw b)-1) 0))) (pS' rfl (pS' rfl (OkE.nil ?_)))))
  refine AC.subF (sL [4,5,6,7,8,9,10,12,13] rfl) (q1 (AF.label (q1 ?_)))
  refine AF.jn1 (tg λ(d:Nat)=>d<=4294967295/\(d=W/V\/d=W/V+1)) (tg λ(d:Nat)=>[(4,(Value.slice (some ⟨b3,0,none⟩) m m)),(5,(Value.slice none 0 0)),(6,(vN s)),(7,(Value.slice (some ⟨b1,0,none⟩) (nw a+1) (nw a+1))),(8,(Value.slice (some ⟨b2,0,none⟩) (nw b) (nw b+1))),(9,(vN (nw b))),(10,(vN k)),(12,(vK .u64 d))]) (tg λ(d:Nat)=>[Ab b3 97 (Aj qs),Ab b2 97 (Aj vb),Ab b1 97 (Aj us)]) ?_ ?_
  ·skip
   refine AF.block ?_
   refine AF.lp2 (tg λ(d:Nat) (r:Nat)=>Gv V W (vb.getD (nw b-1) 0) top d r/\r<8589934592/\d<8589934593) (tg λ(d:Nat) (r:Nat)=>[(4,(Value.slice (some ⟨b3,0,none⟩) m m)),(5,(Value.slice none 0 0)),(6,(vN s)),(7,(Value.slice (some ⟨b1,0,none⟩) (nw a+1) (nw a+1))),(8,(Value.slice (some ⟨b2,0,none⟩) (nw b) (nw b+1))),(9,(vN (nw b))),(10,(vN k)),(12,(vK .u64 d)),(13,(vK .u64 r))]) (tg λ(d:Nat) (r:Nat)=>[Ab b3 97 (Aj qs),Ab b2 97 (Aj vb),Ab b1 97 (Aj us)]) (tg λ(d:Nat) (r:Nat)=>d) (top/vb.getD (nw b-1) 0) (top%vb.getD (nw b-1) 0) (⟨hG0,by have:=Nat.mod_lt top (show vb.getD (nw b-1) 0>0 by omega);omega,Nat.div_lt_of_lt_mul (by omega)⟩) (sF rfl) sr (λd r hJ=>?_)
   obtain ⟨hG,hr2,hd2⟩:=hJ
   refine AF.seq (q4 (AJ rfl (AH (FU (c:=(decide (r<=4294967295))) rfl rfl (S7 (a:=r) (b:=4294967295))) rfl (AD.nil (AC.subF (sL [4,5,6,7,8,9,10,12,13,81] rfl) ?_)))))
   refine AC.then_ ?_
   refine AF.cond rfl (λhc1=>?_) (λhc1=>?_)
   ·replace hc1:=of_decide_eq_true hc1
    refine AF.skip (AC.then_ (AF.block (AF.seq (AF.seq ?_))))
    by_cases hsp:d<=4294967295
    ·skip
     have hv2:=hN.w32.getD (nw b-2)
     have hml:=JO (a:=d) (b:=vb.getD (nw b-2) 0) (by omega) hv2
     refine Cw [(0,true),(1,true),(2,true),(3,true),(4,true),(5,true),(6,true),(7,true),(8,true),(9,true),(10,true),(11,true),(12,true),(13,true),(14,true),(15,true),(16,true),(17,true),(18,true),(19,true),(20,true),(21,true),(22,true),(23,true)] sr (BS rfl (Aw rfl (FU (c:=true) rfl rfl (S7.trans (decide_eq_true hsp))) (BS rfl (OkE.pas (v:=(vK .u64 d)) rfl (AB rfl) (Ai rfl) rfl rfl (OkE.pas (v:=(Value.slice (some ⟨b2,0,none⟩) (nw b) (nw b+1))) rfl (AB rfl) (Ai rfl) rfl rfl ?_)))))
     refine OkE.pas (v:=(vN (nw b))) rfl (AB rfl) (Ai rfl) rfl rfl (OkE.pas (v:=(vN ((nw b)-2))) rfl (AB rfl) (BL (c:=(((nw b)-2:Nat):Int)) rfl rfl (Bj (a:=nw b) (b:=2) (by omega) (by omega))) rfl rfl (OkE.pas (v:=(pP b2 ((nw b)-2))) rfl (AB rfl) (AK (j:=(nw b)-2) rfl rfl Tryz.underlying184 Tryz.sizeOf97 rfl (by omega) (by simp)) rfl rfl ?_))
     have hx6:vb.getD ((nw b)-2) 0<4294967296:=W32.getD hN.w32 ((nw b)-2)
     refine OkE.pas (v:=(vK .u32 (vb.getD ((nw b)-2) 0))) rfl (AB rfl) (AP (i:=1) (v:=(vK .u32 (vb.getD ((nw b)-2) 0))) rfl rfl Tryz.isAgg97 (BA (xs:=vb) (j:=((nw b)-2)) (by omega))) rfl rfl (OkE.pas (v:=(vK .u64 (vb.getD ((nw b)-2) 0))) rfl (AB rfl) (Au (c:=((vb.getD ((nw b)-2) 0:Nat):Int)) rfl Tryz.underlying97 Tryz.underlying40 (BH (by omega))) rfl rfl (OkE.pas (v:=(vK .u64 (d*(vb.getD ((nw b)-2) 0)))) rfl (AB rfl) (DH (c:=((d*(vb.getD ((nw b)-2) 0):Nat):Int)) rfl rfl (EJ (a:=d) (b:=vb.getD ((nw b)-2) 0) (by omega))) rfl rfl (OkE.pas (v:=(vK .u64 r)) rfl (AB rfl) (Ai rfl) rfl rfl (OkE.pas (v:=(vK .u64 (r*4294967296))) rfl (AB rfl) (Ft (s:=32) rfl rfl rfl (by decide) (F7 (s:=32) (by omega))) rfl rfl (OkE.pas (v:=(Value.slice (some ⟨b1,0,none⟩) (nw a+1) (nw a+1))) rfl (AB rfl) (Ai rfl) rfl rfl ?_)))))
     refine OkE.pas (v:=(vN k)) rfl (AB rfl) (Ai rfl) rfl rfl (OkE.pas (v:=(vN (nw b))) rfl (AB rfl) (Ai rfl) rfl rfl (OkE.pas (v:=(vN (k+(nw b)))) rfl (AB rfl) (AW (c:=((k+(nw b):Nat):Int)) rfl rfl (AR (a:=k) (b:=nw b) (by omega))) rfl rfl (OkE.pas (v:=(vN ((k+(nw b))-2))) rfl (AB rfl) (BL (c:=(((k+(nw b))-2:Nat):Int)) rfl rfl (Bj (a:=k+(nw b)) (b:=2) (by omega) (by omega))) rfl rfl (OkE.pas (v:=(pP b1 ((k+(nw b))-2))) rfl (AB rfl) (AK (j:=(k+(nw b))-2) rfl rfl Tryz.underlying184 Tryz.sizeOf97 rfl (by omega) (by simp)) rfl rfl ?_))))
     have hx7:us.getD ((k+(nw b))-2) 0<4294967296:=W32.getD huw ((k+(nw b))-2)
     refine OkE.pas (v:=(vK .u32 (us.getD ((k+(nw b))-2) 0))) rfl (AB rfl) (AP (i:=2) (v:=(vK .u32 (us.getD ((k+(nw b))-2) 0))) rfl rfl Tryz.isAgg97 (BA (xs:=us) (j:=((k+(nw b))-2)) (by omega))) rfl rfl (OkE.pas (v:=(vK .u64 (us.getD ((k+(nw b))-2) 0))) rfl (AB rfl) (Au (c:=((us.getD ((k+(nw b))-2) 0:Nat):Int)) rfl Tryz.underlying97 Tryz.underlying40 (BH (by omega))) rfl rfl (OkE.pas (v:=(vK .u64 (r*4294967296+us.getD (k+nw b-2) 0))) rfl (AB rfl) (IA (c:=((r*4294967296+us.getD (k+nw b-2) 0:Nat):Int)) rfl rfl (Id (by omega) (by omega) (((Nat.or_comm _ _).trans ((Gg (s:=32) (by omega)).trans (Nat.add_comm _ _)))))) rfl rfl (OkE.pas (v:=(Value.bool (decide ((d*(vb.getD ((nw b)-2) 0))<=(r*4294967296+us.getD (k+nw b-2) 0))))) rfl (AB rfl) (FU (c:=(decide ((d*(vb.getD ((nw b)-2) 0))<=(r*4294967296+us.getD (k+nw b-2) 0)))) rfl rfl (S7 (a:=d*(vb.getD ((nw b)-2) 0)) (b:=r*4294967296+us.getD (k+nw b-2) 0))) rfl rfl (Aw (v:=(Value.bool (decide ((d*(vb.getD ((nw b)-2) 0))<=(r*4294967296+us.getD (k+nw b-2) 0))))) rfl (AT rfl rfl) (OkE.nil ?_)))))
     refine AC.subF (sL [4,5,6,7,8,9,10,12,13,105] rfl) (AC.then_ ?_)
     refine AF.cond rfl (λhc2=>?_) (λhc2=>?_)
     ·replace hc2:=of_decide_eq_true hc2
      have hg:=Ir hN hWin hG (.inr ⟨hsp,hc2⟩)
      exact AF.exit (AC.then_exit (AC.in_exit_ne rfl (AC.round2_exit (AC.in_exit (AC.join1 d (hg) (sF rfl) sr)))))
     ·replace hc2:=of_decide_eq_false hc2
      obtain ⟨hng1,hng2⟩:=Iz hN hWin hG (λh=>hc2 h.2)
      refine AF.skip (q2 (AJ rfl (AH (BL (c:=((d-1:Nat):Int)) rfl rfl (HM (a:=d) (b:=1) (by omega) (by omega))) rfl (asg' rfl (AD.nil ?_)))))
      refine AC.subF (sL [4,5,6,7,8,9,10,12,13] rfl) (AC.then_ (AF.region (AJ rfl (AJ rfl (AJ rfl ?_)))))
      refine AH (BL (c:=(((nw b)-1:Nat):Int)) rfl rfl (Bj (a:=nw b) (b:=1) (by omega) (by omega))) rfl (AH (v:=(pP b2 ((nw b)-1))) (AK (j:=(nw b)-1) rfl rfl Tryz.underlying184 Tryz.sizeOf97 rfl (by omega) (by simp)) rfl ?_)
      have hx8:vb.getD ((nw b)-1) 0<4294967296:=W32.getD hN.w32 ((nw b)-1)
      refine AH (AP (i:=1) (v:=(vK .u32 (vb.getD ((nw b)-1) 0))) rfl rfl Tryz.isAgg97 (BA (xs:=vb) (j:=((nw b)-1)) (by omega))) rfl (AH (Au (c:=((vb.getD ((nw b)-1) 0:Nat):Int)) rfl Tryz.underlying97 Tryz.underlying40 (BH (by omega))) rfl (AH (AW (c:=((r+(vb.getD ((nw b)-1) 0):Nat):Int)) rfl rfl (C5 (a:=r) (b:=vb.getD ((nw b)-1) 0) (by omega))) rfl (asg' rfl (AD.nil (AC.subF (sL [4,5,6,7,8,9,10,12,13] rfl) ?_)))))
      exact AC.in_normal (AC.round2 (d-1) (r+vb.getD (nw b-1) 0) (⟨hng1,by omega,by omega⟩) (by omega) (sF rfl) sr)
    ·skip
     obtain ⟨hng1,hng2⟩:=Iz hN hWin hG (λh=>hsp h.1)
     refine Cw [(0,true),(1,true),(2,true),(3,true),(4,true),(5,true),(6,true),(7,true),(8,true),(9,true),(10,true),(11,true),(12,true),(13,true),(14,true),(15,true),(16,true),(17,true),(18,true),(19,true),(20,true),(21,true),(22,true),(23,true)] sr (BS rfl (Aw rfl (FU (c:=false) rfl rfl (S7.trans (decide_eq_false hsp))) (BS rfl (OkE.skp rfl (AG rfl) rfl rfl (OkE.skp rfl (AG rfl) rfl rfl ?_)))))
     refine OkE.skp rfl (AG rfl) rfl rfl (OkE.skp rfl (AG rfl) rfl rfl (OkE.skp rfl (AG rfl) rfl rfl (OkE.skp rfl (AG rfl) rfl rfl (OkE.skp rfl (AG rfl) rfl rfl (OkE.skp rfl (AG rfl) rfl rfl ?_)))))
     refine OkE.skp rfl (AG rfl) rfl rfl (OkE.skp rfl (AG rfl) rfl rfl (OkE.skp rfl (AG rfl) rfl rfl (OkE.skp rfl (AG rfl) rfl rfl (OkE.skp rfl (AG rfl) rfl rfl (OkE.skp rfl (AG rfl) rfl rfl ?_)))))
     refine OkE.skp rfl (AG rfl) rfl rfl (OkE.skp rfl (AG rfl) rfl rfl (OkE.skp rfl (AG rfl) rfl rfl (OkE.skp rfl (AG rfl) rfl rfl (OkE.skp rfl (AG rfl) rfl rfl (OkE.skp rfl (AG rfl) rfl rfl ?_)))))
     refine Aw (v:=(Value.bool false)) rfl (AV rfl rfl) (OkE.nil (AC.subF (sL [4,5,6,7,8,9,10,12,13,105] rfl) (AC.then_ (AF.cond_false rfl (AF.skip ?_)))))
     refine q2 (AJ rfl (AH (BL (c:=((d-1:Nat):Int)) rfl rfl (HM (a:=d) (b:=1) (by omega) (by omega))) rfl (asg' rfl (AD.nil (AC.subF (sL [4,5,6,7,8,9,10,12,13] rfl) ?_)))))
     refine AC.then_ (AF.region (AJ rfl (AJ rfl (AJ rfl (AH (BL (c:=(((nw b)-1:Nat):Int)) rfl rfl (Bj (a:=nw b) (b:=1) (by omega) (by omega))) rfl ?_)))))
     refine AH (v:=(pP b2 ((nw b)-1))) (AK (j:=(nw b)-1) rfl rfl Tryz.underlying184 Tryz.sizeOf97 rfl (by omega) (by simp)) rfl ?_
     have hx9:vb.getD ((nw b)-1) 0<4294967296:=W32.getD hN.w32 ((nw b)-1)
     refine AH (AP (i:=1) (v:=(vK .u32 (vb.getD ((nw b)-1) 0))) rfl rfl Tryz.isAgg97 (BA (xs:=vb) (j:=((nw b)-1)) (by omega))) rfl (AH (Au (c:=((vb.getD ((nw b)-1) 0:Nat):Int)) rfl Tryz.underlying97 Tryz.underlying40 (BH (by omega))) rfl (AH (AW (c:=((r+(vb.getD ((nw b)-1) 0):Nat):Int)) rfl rfl (C5 (a:=r) (b:=vb.getD ((nw b)-1) 0) (by omega))) rfl (asg' rfl (AD.nil (AC.subF (sL [4,5,6,7,8,9,10,12,13] rfl) ?_)))))
     exact AC.in_normal (AC.round2 (d-1) (r+vb.getD (nw b-1) 0) (⟨hng1,by omega,by omega⟩) (by omega) (sF rfl) sr)
   ·replace hc1:=of_decide_eq_false hc1
    have hg:=Ir hN hWin hG (.inl (by omega))
    exact AF.exit (AC.then_exit (AC.round2_exit (AC.in_exit (AC.join1 d (hg) (sF rfl) sr))))
  ·intro d hJ
   obtain ⟨hdb,hdq⟩:=hJ
   refine q1 (q4 (AJ rfl (AJ rfl (AJ rfl (AJ rfl ?_)))))
   refine AH (AW (c:=((k+(nw b):Nat):Int)) rfl rfl (AR (a:=k) (b:=nw b) (by omega))) rfl (AH (AW (c:=(((k+(nw b))+1:Nat):Int)) rfl rfl (AR (a:=k+(nw b)) (b:=1) (by omega))) rfl (AH (v:=(Value.slice (some ⟨b1,k,none⟩) (((k+(nw b))+1)-k) ((nw a+1)-k))) (K3 (i:=k) (m:=(k+(nw b))+1) rfl rfl rfl Tryz.underlying184 Tryz.sizeOf97 (by omega) (by omega) (by omega) (by simp)) rfl (AD.retell (k:=122) (u:=(Value.slice (some ⟨b1,k,none⟩) (nw b+1) ((nw a+1)-k))) rfl (by rw [show k+nw b+1-k=nw b+1 by omega]) (AJ rfl (AJ rfl ?_)))))
   refine AD.callM (v:=(Value.bool (decide (val us<d*val (vb.take (nw b))*4294967296^k)))) (i:=2) (cs':=Aj (CO (nw a+1) (val us+(if val us<d*val (vb.take (nw b))*4294967296^k then 4294967296^(k+nw b+1) else 0)-d*val (vb.take (nw b))*4294967296^k))) (L':=[Ab b3 97 (Aj qs),Ab b2 97 (Aj vb),Ab b1 97 (Aj (CO (nw a+1) (val us+(if val us<d*val (vb.take (nw b))*4294967296^k then 4294967296^(k+nw b+1) else 0)-d*val (vb.take (nw b))*4294967296^k)))]) (AO rfl) (Ay (args:=[(Value.slice (some ⟨b1,k,none⟩) (nw b+1) ((nw a+1)-k)),(Value.slice (some ⟨b2,0,none⟩) (nw b) (nw b+1)),(vK .u64 d)]) rfl rfl Tryz.call221) rfl (λw hw=>UH _ _ k (nw b) (nw a+1) _ _ d us vb huw hul hN.w32 (by omega) (by omega) (by omega) (by omega) hWin.fits ((hw.apart (i:=1) (j:=2) (by decide) rfl rfl)) w (hw.get (i:=2) rfl) (hw.get (i:=1) rfl)) (λd hd=>by cases hd<;>exact (AY rfl)) rfl (AD.nil (AC.subF (sL [4,5,6,7,8,9,10,12,125] rfl) (AC.then_ ?_)))
   refine AF.jn1 (tg λ(us2:List Nat)=>us2.length=nw a+1/\W32 us2/\val us2=val us-W/V*V*4294967296^k) (tg λ(us2:List Nat)=>[(4,(Value.slice (some ⟨b3,0,none⟩) m m)),(5,(Value.slice none 0 0)),(6,(vN s)),(7,(Value.slice (some ⟨b1,0,none⟩) (nw a+1) (nw a+1))),(8,(Value.slice (some ⟨b2,0,none⟩) (nw b) (nw b+1))),(9,(vN (nw b))),(10,(vN k)),(12,(vK .u64 (W/V)))]) (tg λ(us2:List Nat)=>[Ab b3 97 (Aj qs),Ab b2 97 (Aj vb),Ab b1 97 (Aj us2)]) ?_ ?_
   ·skip
    refine AF.cond rfl (λhc3=>?_) (λhc3=>?_)
    ·replace hc3:=of_decide_eq_true hc3
     have hP:4294967296^(k+nw b+1)<=4294967296^(nw a+1):=Nat.pow_le_pow_right (by omega) (by omega)
     rw [hN.take] at hc3
     obtain ⟨hde,hdS⟩:=No (vb:=vb) hWin hdq hc3
     have hXP:V*4294967296^k<=4294967296^(k+nw b+1):=Nat.le_trans (Nat.mul_le_mul_right _ (Nat.le_of_lt hN.high)) (by rw [<-Nat.pow_add];exact Nat.pow_le_pow_right (by omega) (by omega))
     have hqle:=Nq (vb:=vb) hWin
     have hfit:=hWin.fits
     have hd1:1<=d:=by rw [hde];exact Nat.le_add_left _ _
     have hU1:val (CO (nw a+1) (val us+(if val us<d*val (vb.take (nw b))*4294967296^k then 4294967296^(k+nw b+1) else 0)-d*val (vb.take (nw b))*4294967296^k))=val us+4294967296^(k+nw b+1)-d*V*4294967296^k:=by rw [hN.take,if_pos hc3,EC _ _ (by omega)]
     have hU1lt:val (CO (nw a+1) (val us+(if val us<d*val (vb.take (nw b))*4294967296^k then 4294967296^(k+nw b+1) else 0)-d*val (vb.take (nw b))*4294967296^k))<4294967296^(k+nw b+1):=by rw [hU1];omega
     refine q4 (AJ rfl (AH (BL (c:=((d-1:Nat):Int)) rfl rfl (HM (a:=d) (b:=1) (by omega) (by omega))) rfl (asg' rfl (q3 (sL [4,5,6,7,8,9,10,12] rfl) (asg' rfl ?_)))))
     refine AD.nil (q1 (q4 (AJ rfl (AH (v:=(vN (nw b))) (AE rfl Tryz.underlying184) rfl (AJ rfl ?_)))))
     refine AD.nil (AC.then_ (AF.block ?_))
     refine AF.lp3 (tg λ(i:Nat) (os:List Nat) (c:Nat)=>i<=nw b/\os.length=nw a+1/\W32 os/\c<=1/\(∀j,k+nw b+1<=j->os.getD j 0=0)/\val os+c*4294967296^(k+i)=(val us+4294967296^(k+nw b+1)-d*V*4294967296^k)+val (vb.take i)*4294967296^k) (tg λ(i:Nat) (os:List Nat) (c:Nat)=>[(4,(Value.slice (some ⟨b3,0,none⟩) m m)),(5,(Value.slice none 0 0)),(6,(vN s)),(7,(Value.slice (some ⟨b1,0,none⟩) (nw a+1) (nw a+1))),(8,(Value.slice (some ⟨b2,0,none⟩) (nw b) (nw b+1))),(9,(vN (nw b))),(10,(vN k)),(12,(vK .u64 (d-1))),(128,(Value.slice (some ⟨b2,0,none⟩) (nw b) (nw b+1))),(129,(vN (nw b))),(130,(vN i)),(14,(vK .u32 c))]) (tg λ(i:Nat) (os:List Nat) (c:Nat)=>[Ab b3 97 (Aj qs),Ab b2 97 (Aj vb),Ab b1 97 (Aj os)]) (tg λ(i:Nat) (os:List Nat) (c:Nat)=>nw b-i) 0 (CO (nw a+1) (val us+(if val us<d*val (vb.take (nw b))*4294967296^k then 4294967296^(k+nw b+1) else 0)-d*val (vb.take (nw b))*4294967296^k)) 0 (⟨Nat.zero_le _,BT _ _,DS _ _,by omega,H6 hU1lt,by rw [hU1];simp [val]⟩) (sF rfl) sr (λi os c hJ=>?_)
     obtain ⟨hi,hl,hw32,hcc,hz,hv⟩:=hJ
     refine q4 (AH (Ad (c:=(decide (i<(nw b)))) rfl rfl (CB (a:=i) (b:=nw b))) rfl (AD.nil (q1 ?_)))
     refine AF.cond rfl (λhc4=>?_) (λhc4=>?_)
     ·replace hc4:=of_decide_eq_true hc4
      refine AF.skip (q1 (AF.block (q4 (AJ rfl (AH (v:=(pP b2 i)) (AK (j:=i) rfl rfl Tryz.underlying184 Tryz.sizeOf97 rfl (by omega) (by simp)) rfl ?_)))))
      have hx10:vb.getD i 0<4294967296:=W32.getD hN.w32 i
      refine AH (AP (i:=1) (v:=(vK .u32 (vb.getD i 0))) rfl rfl Tryz.isAgg97 (BA (xs:=vb) (j:=i) (by omega))) rfl (asg' rfl (asg' rfl (AD.nil (AC.subF (sL [4,5,6,7,8,9,10,12,128,129,130,14,15,16] rfl) (AC.then_ ?_)))))
      refine AF.region (AJ rfl (AJ rfl (AJ rfl (AH (AW (c:=((k+i:Nat):Int)) rfl rfl (AR (a:=k) (b:=i) (by omega))) rfl (AJ rfl ?_)))))
      refine AJ rfl (AJ rfl (AH (AW (c:=((k+i:Nat):Int)) rfl rfl (AR (a:=k) (b:=i) (by omega))) rfl (AH (v:=(pP b1 (k+i))) (AK (j:=k+i) rfl rfl Tryz.underlying184 Tryz.sizeOf97 rfl (by omega) (by simp)) rfl ?_)))
      have hx11:os.getD (k+i) 0<4294967296:=W32.getD hw32 (k+i)
      refine AH (AP (i:=2) (v:=(vK .u32 (os.getD (k+i) 0))) rfl rfl Tryz.isAgg97 (BA (xs:=os) (j:=(k+i)) (by omega))) rfl (AJ rfl (AJ rfl (ck' Tryz.call173 (Jt (os.getD (k+i) 0) (vb.getD i 0) c (by omega) (by omega) (by omega)) rfl (AJ rfl (AH (AS (v:=(vK .u32 (((os.getD (k+i) 0)+(vb.getD i 0)+c)%4294967296))) rfl rfl) rfl ?_)))))
      refine AH (AS (v:=(vK .u32 (((os.getD (k+i) 0)+(vb.getD i 0)+c)/4294967296))) rfl rfl) rfl (AH (v:=(pP b1 (k+i))) (AK (j:=k+i) rfl rfl Tryz.underlying184 Tryz.sizeOf97 rfl (by omega) (by simp)) rfl (AD.store' (i:=2) (off:=(k+i)) (vs:=[(vK .u32 (((os.getD (k+i) 0)+(vb.getD i 0)+c)%4294967296))]) (cs':=Aj (os.set (k+i) (((os.getD (k+i) 0)+(vb.getD i 0)+c)%4294967296))) (L':=[Ab b3 97 (Aj qs),Ab b2 97 (Aj vb),Ab b1 97 (Aj (os.set (k+i) (((os.getD (k+i) 0)+(vb.getD i 0)+c)%4294967296)))]) (AO rfl) rfl rfl rfl rfl rfl Tryz.sizeOf97 rfl (CP (BG _) (by omega)) (Bx (by omega)) rfl (asg' rfl (AD.nil (AC.subF (sL [4,5,6,7,8,9,10,12,128,129,130,14] rfl) ?_)))))
      refine AC.in_normal (AC.then_ (AF.region (AH (AW (c:=((i+1:Nat):Int)) rfl rfl (AR (a:=i) (b:=1) (by omega))) rfl (AJ rfl (AD.nil ?_)))))
      exact AC.subF (sL [4,5,6,7,8,9,10,12,128,129,130,14] rfl) (AC.round3 (i+1) (os.set (k+i) ((os.getD (k+i) 0+vb.getD i 0+c)%4294967296)) ((os.getD (k+i) 0+vb.getD i 0+c)/4294967296) (⟨by omega,by rw [List.length_set];exact hl,W32.set hw32 (by omega) _,by omega,E3 hz (by omega),QW hl (by omega) hv⟩) (by omega) (sF rfl) sr)
     ·replace hc4:=of_decide_eq_false hc4
      have hib:i=nw b:=by omega
      have hv3:=hv
      rw [hib,hN.take] at hv3
      have hbk:=Pu (T:=val us-W/V*V*4294967296^k) (P:=4294967296^(k+nw b+1)) hl (by omega) hw32 hcc hz rfl (hv3.trans (Oa hdS hqle hfit hc3 hXP)) (Nat.lt_of_le_of_lt (Nat.sub_le _ _) hfit)
      refine AF.exit (AC.then_exit (AC.round3_exit (AC.in_exit (AC.then_ (AF.region ?_)))))
      refine AJ rfl (AJ rfl (AJ rfl (AH (AW (c:=((k+(nw b):Nat):Int)) rfl rfl (AR (a:=k) (b:=nw b) (by omega))) rfl (AH (v:=(pP b1 (k+(nw b)))) (AK (j:=k+(nw b)) rfl rfl Tryz.underlying184 Tryz.sizeOf97 rfl (by omega) (by simp)) rfl ?_))))
      have hx12:os.getD (k+(nw b)) 0<4294967296:=W32.getD hw32 (k+(nw b))
      refine AH (AP (i:=2) (v:=(vK .u32 (os.getD (k+(nw b)) 0))) rfl rfl Tryz.isAgg97 (BA (xs:=os) (j:=(k+(nw b))) (by omega))) rfl (AJ rfl (AH (AW (c:=(((os.getD (k+nw b) 0+c)%4294967296:Nat):Int)) rfl rfl R3) rfl (AH (v:=(pP b1 (k+(nw b)))) (AK (j:=k+(nw b)) rfl rfl Tryz.underlying184 Tryz.sizeOf97 rfl (by omega) (by simp)) rfl (AD.store' (i:=2) (off:=(k+(nw b))) (vs:=[(vK .u32 ((os.getD (k+nw b) 0+c)%4294967296))]) (cs':=Aj (os.set (k+(nw b)) ((os.getD (k+nw b) 0+c)%4294967296))) (L':=[Ab b3 97 (Aj qs),Ab b2 97 (Aj vb),Ab b1 97 (Aj (os.set (k+(nw b)) ((os.getD (k+nw b) 0+c)%4294967296)))]) (AO rfl) rfl rfl rfl rfl rfl Tryz.sizeOf97 rfl (CP (BG _) (by omega)) (Bx (by omega)) rfl (AD.nil ?_)))))
      exact AC.subF (sL [4,5,6,7,8,9,10,12,128,129,130,14] rfl) (AC.retell (k:=12) (u:=Value.int .u64 ((W/V:Nat):Int)) rfl (by rw [hde,Nat.add_sub_cancel]) (AC.join1 (os.set (k+(nw b)) ((os.getD (k+nw b) 0+c)%4294967296)) (⟨by rw [List.length_set];exact hl,W32.set hw32 (by omega) _,hbk⟩) (sF rfl) sr))
    ·replace hc3:=of_decide_eq_false hc3
     have hP:4294967296^(k+nw b+1)<=4294967296^(nw a+1):=Nat.pow_le_pow_right (by omega) (by omega)
     rw [hN.take] at hc3
     obtain ⟨hde,hdS⟩:=NU hN hWin hdq hc3
     have hfit:=hWin.fits
     have hU1:val (CO (nw a+1) (val us+(if val us<d*val (vb.take (nw b))*4294967296^k then 4294967296^(k+nw b+1) else 0)-d*val (vb.take (nw b))*4294967296^k))=val us-W/V*V*4294967296^k:=by rw [hN.take,if_neg hc3,EC _ _ (by omega)];exact hdS
     exact AF.skip (AC.retell (k:=12) (u:=Value.int .u64 ((W/V:Nat):Int)) rfl (by rw [hde]) (AC.join1 (CO (nw a+1) (val us+(if val us<d*val (vb.take (nw b))*4294967296^k then 4294967296^(k+nw b+1) else 0)-d*val (vb.take (nw b))*4294967296^k)) (⟨BT _ _,DS _ _,hU1⟩) (sF rfl) sr))
   ·intro us2 hJ
    obtain ⟨hu2l,hu2w,hu2v⟩:=hJ
    refine AC.then_ (AF.region (AJ rfl (AJ rfl (AJ rfl (AH (Au (c:=((W/V:Nat):Int)) rfl Tryz.underlying40 Tryz.underlying97 (CQ (by exact hq32))) rfl ?_)))))
    refine AH (v:=(pP b3 k)) (AK (j:=k) rfl rfl Tryz.underlying184 Tryz.sizeOf97 rfl (by omega) (by simp)) rfl (AD.store' (i:=0) (off:=k) (vs:=[(vK .u32 (W/V))]) (cs':=Aj (qs.set k (W/V))) (L':=[Ab b3 97 (Aj (qs.set k (W/V))),Ab b2 97 (Aj vb),Ab b1 97 (Aj us2)]) (AO rfl) rfl rfl rfl rfl rfl Tryz.sizeOf97 rfl (CP (BG _) (by omega)) (Bx (by omega)) rfl (AD.nil (AC.subF (sL [4,5,6,7,8,9,10,12] rfl) (AC.scope_normal (AC.in_normal ?_)))))
    refine AC.then_ (AF.region (AJ rfl (AH (BL (c:=(((k:Nat):Int)-1)) rfl rfl (BK (by omega) (by omega))) rfl (asg' rfl (AD.nil ?_)))))
    refine AC.subF (sL [4,5,6,7,8,9,10,12] rfl) ?_
    have hdd:=Nv hN hWin hu2v hAeq hql (by omega) (hqz k (by omega))
    exact AC.round3 k us2 (qs.set k (W/V)) (⟨by omega,hu2l,hu2w,by rw [List.length_set];exact hql,W32.set hqw hq32 _,λj hj=>by rw [H8 (by omega)];exact hqz j (by omega),hdd.1,hdd.2⟩) (by omega) (sF rfl) sr
 ·replace hc0:=of_decide_eq_false hc0
  have hk00:k0=0:=by omega
  have hlt0:=hlt
  rw [hk00,Nat.pow_zero,Nat.mul_one] at hlt0
  have hfin:=Qx (a:=a) (b:=b) (s:=s) (q:=val qs) (r:=val us) hb0 (by rw [<-hV];exact hAeq) (by rw [<-hV];exact hlt0)
  refine AF.exit (AC.then_exit (AC.round3_exit (AC.in_exit (q1 (q4 ?_)))))
  refine AJ rfl (AJ rfl (AD.nil (AC.then_ (AF.block ?_))))
  refine AF.lp2 (tg λ(i:Nat) (us3:List Nat)=>i<=s/\us3.length=nw a+1/\W32 us3/\val us3=a%b*2^s/2^i) (tg λ(i:Nat) (us3:List Nat)=>[(4,(Value.slice (some ⟨b3,0,none⟩) m m)),(5,(Value.slice none 0 0)),(7,(Value.slice (some ⟨b1,0,none⟩) (nw a+1) (nw a+1))),(167,(vN s)),(168,(vN i))]) (tg λ(i:Nat) (us3:List Nat)=>[Ab b3 97 (Aj qs),Ab b2 97 (Aj vb),Ab b1 97 (Aj us3)]) (tg λ(i:Nat) (us3:List Nat)=>s-i) 0 us (⟨Nat.zero_le _,hul,huw,by rw [hfin.2];simp⟩) (sF rfl) sr (λi us3 hJ=>?_)
  obtain ⟨hi,hl3,hw3,hv3⟩:=hJ
  refine q4 (AH (Ad (c:=(decide (i<s))) rfl rfl (CB (a:=i) (b:=s))) rfl (AD.nil (q1 ?_)))
  refine AF.cond rfl (λhc5=>?_) (λhc5=>?_)
  ·replace hc5:=of_decide_eq_true hc5
   refine AF.skip (q1 (AF.block (AF.region (AJ rfl (AD.callM (v:=(Value.tuple #[])) (i:=2) (cs':=Aj (CO (nw a+1) (val us3/2))) (L':=[Ab b3 97 (Aj qs),Ab b2 97 (Aj vb),Ab b1 97 (Aj (CO (nw a+1) (val us3/2)))]) (AO rfl) (Ay (args:=[(Value.slice (some ⟨b1,0,none⟩) (nw a+1) (nw a+1))]) rfl rfl Tryz.call222) rfl (λw hw=>Um _ (nw a+1) _ us3 hw3 hl3 (by omega) w (hw.get (i:=2) rfl)) (λd hd=>by cases hd<;>exact (AY rfl)) rfl ?_)))))
   refine AD.nil (AC.subF (sL [4,5,7,167,168] rfl) (AC.in_normal (AC.then_ (AF.region (AH (AW (c:=((i+1:Nat):Int)) rfl rfl (AR (a:=i) (b:=1) (by omega))) rfl ?_)))))
   refine AJ rfl (AD.nil (AC.subF (sL [4,5,7,167,168] rfl) ?_))
   have hb3:val us3/2<4294967296^(nw a+1):=Nat.lt_of_le_of_lt (Nat.div_le_self _ _) (by have:=Fk hw3;rw [hl3] at this;exact this)
   exact AC.round2 (i+1) (CO (nw a+1) (val us3/2)) (⟨by omega,BT _ _,DS _ _,by rw [EC _ _ hb3,hv3,Nat.div_div_eq_div_mul,<-Nat.pow_succ]⟩) (by omega) (sF rfl) sr
  ·replace hc5:=of_decide_eq_false hc5
   have his:i=s:=by omega
   have hr:val us3=a%b:=by rw [hv3,his,Nat.mul_div_cancel _ (Nat.pow_pos (by omega))]
   have hr1:=GZ hw3 hl3 hr
   have hq1:=GZ hqw hql hfin.1
   refine AF.exit (AC.then_exit (AC.round2_exit (AC.in_exit (q2 (AJ rfl ?_)))))
   refine AJ rfl (asg' rfl (asg' rfl (AD.nil (AC.subF (sL [4,5,7,167,168] rfl) (AC.then_ ?_)))))
   exact AF.ret (Br rfl (AQ (v:=(Value.slice (some ⟨b3,0,none⟩) m m)) rfl) (AQ (v:=(Value.slice (some ⟨b1,0,none⟩) (nw a+1) (nw a+1))) rfl) (λw hw=>⟨b3,b1,by rw [hm],hw.out,hw.fresh (i:=0) rfl,hw.fresh (i:=2) rfl,(hw.apart (i:=0) (j:=2) (by decide) rfl rfl),by rw [<-hm,<-hq1];exact hw.get (i:=0) rfl,by rw [<-hr1];exact hw.get (i:=2) rfl⟩))
end
end Go.Proofs.YtpgncndhhhllfaaGreatDoor
