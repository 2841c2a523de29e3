import Derived.Test.YtpolhpjiahbidaaGreatDoorPart05
import Derived.Test.YtpolhpjiahbidaaGreatDoorPart09
import Derived.Test.YtpolhpjiahbidaaGreatDoorPart15
namespace Go.Proofs.YtpolhpjiahbidaaGreatDoor
open Go Go.RowKit Go.Proofs.Tryz
set_option linter.unusedVariables false
set_option linter.unusedSimpArgs false
section
set_option maxRecDepth 100000
theorem Od {R P D Q X:Nat} (h1:D=Q+X) (h2:Q<=R) (h3:R<P) (h4:R<D) (h5:X<=P):R+P-D+X=R-Q+P:=by omega
theorem U7 (a b p q c1 c2:Nat) (ha:nw a<=1099511627776) (hb2:2<=nw b) (hba:nw b<=nw a) (w:World) (hp:w.heap[p]?=some (.cells (Ae (Am a)).toArray 92 (0,0))) (hq:w.heap[q]?=some (.cells (Ae (Am b)).toArray 92 (0,0))):Calls Tryz.prog 243 #[(Value.slice (some ⟨p,0,none⟩) (nw a) c1),(Value.slice (some ⟨q,0,none⟩) (nw b) c2)] w (λe w'=>∃b1 b2,e=.returned (.tuple #[.slice (some ⟨b1,0,none⟩) (nw a+1-nw b) (nw a+1-nw b),.slice (some ⟨b2,0,none⟩) (nw a+1) (nw a+1)])/\GC w.heap.size w w'/\w.heap.size<=b1/\w.heap.size<=b2/\b1≠b2/\w'.heap[b1]?=some (.cells (Ae (CK (nw a+1-nw b) (a/b))).toArray 92 (0,0))/\w'.heap[b2]?=some (.cells (Ae (CK (nw a+1) (a%b))).toArray 92 (0,0))):=by
 have hla:=B1 a
 have hlb:=B1 b
 have hb0:0<b:=Nat.pos_of_ne_zero (λh=>by rw [h,LS] at hb2;omega)
 obtain ⟨s,hs⟩:∃s,s=32-bl ((AM b).getD (nw b-1) 0):=⟨_,rfl⟩
 obtain ⟨hs32,hlow,hhigh⟩:=W_ (by omega) hs
 obtain ⟨m,hm⟩:∃m,m=nw a+1-nw b:=⟨_,rfl⟩
 obtain ⟨V,hV⟩:∃V,V=b*2^s:=⟨_,rfl⟩
 obtain ⟨vb,hvb⟩:∃vb,vb=CK (nw b+1) (b*2^s):=⟨_,rfl⟩
 have hbig:b*2^s<4294967296^(nw b+1):=Nat.lt_of_lt_of_le hhigh (Nat.pow_le_pow_right (by omega) (by omega))
 have hN:Nn vb (nw b) V:=⟨by rw [hvb];exact DP _ _,by rw [hvb];exact BZ _ _,hb2,by rw [hvb,hV];exact ET _ _ hbig,by rw [hV];exact hlow,by rw [hV];exact hhigh⟩
 have hst:=No rfl (by omega) hs32 hlow hm hba
 have hA:val (CK (nw a+1) (a*2^s))=a*2^s:=ET _ _ (by rw [Nat.pow_succ];exact Nat.mul_lt_mul_of_lt_of_le (Bi a) (Nat.le_trans (Nat.pow_le_pow_right (by omega) (show s<=32 by omega)) (by decide)) (by omega))
 have hvlen:=hN.len
 have htop:=hN.top
 have htw:=(Mu (b:=b) (by omega)).2.2
 refine AZ (args:=[(Value.slice (some ⟨p,0,none⟩) (nw a) c1),(Value.slice (some ⟨q,0,none⟩) (nw b) c2)]) Tryz.func243 rfl rfl (AK rfl) (OkC.subF (sL [0,1] rfl) (q4 (asg' rfl (asg' rfl (OkL.nil (q2 (AO rfl (AO rfl (AG (v:=(vN (nw b))) (AD rfl Tryz.underlying255) rfl (AG (BJ (c:=(((nw b)-1:Nat):Int)) rfl rfl (Bt (a:=nw b) (b:=1) (by omega) (by omega))) rfl (AG (v:=(pP q ((nw b)-1))) (AL (j:=(nw b)-1) rfl rfl Tryz.underlying255 Tryz.sizeOf92 rfl (by omega) (by simp)) rfl ?_)))))))))))
 have hx1:(Am b).getD ((nw b)-1) 0<4294967296:=W32.getD (B2 b) ((nw b)-1)
 refine AG (BP (v:=(vK .u32 ((Am b).getD ((nw b)-1) 0))) rfl (λw' hw=>CA.at0 (hw.oldCA (by simp) (D6 hq)) (A6 (xs:=Am b) (j:=((nw b)-1)) (by omega))) Tryz.isAgg92) rfl (OkL.retell (k:=22) (u:=(vK .u32 ((AM b).getD (nw b-1) 0))) rfl (by rw [DA (by omega)]) (ck' Tryz.call272 (UA ((AM b).getD (nw b-1) 0) (by omega)) rfl (OkL.retell (k:=23) (u:=(vN s)) rfl (by rw [hs]) (asg' rfl (q6 (sL [0,1,4,5,6] rfl) (CV [(0,true),(1,true),(3,true),(4,true),(6,true),(7,true),(2,false),(5,false),(8,true),(9,true),(10,true)] sr (BN rfl (BN rfl (BN rfl (BN rfl (BN rfl ?_)))))))))))
 refine Ag (v:=(vN (nw b))) rfl (AD rfl Tryz.underlying255) (OkE.imp rfl (OkL.callB (V:=λb1=>(Value.slice (some ⟨b1,0,none⟩) (nw a+1) (nw a+1))) (T:=92) (cs:=Ae (CK (nw a+1) (a*2^s))) (AP rfl) (Ap (args:=[(Value.slice (some ⟨p,0,none⟩) (nw a) c1),(vN s)]) rfl rfl Tryz.call273) (λw hw=>(by have h:=JX p (nw a) c1 s (Am a) (B2 a) hla (by omega) hs32 w (hw.old (by simp) hp);rw [Hf] at h;exact h)) rfl (AK rfl) λb1=>OkE.back (sl sr) (OkE.imp rfl (OkL.callB (V:=λb2=>(Value.slice (some ⟨b2,0,none⟩) (nw b+1) (nw b+1))) (T:=92) (cs:=Ae vb) (AP rfl) (Ap (args:=[(Value.slice (some ⟨q,0,none⟩) (nw b) c2),(vN s)]) rfl rfl Tryz.call273) (λw hw=>(by have h:=JX q (nw b) c2 s (Am b) (B2 b) hlb (by omega) hs32 w (hw.old (by simp) hq);rw [Hf,<-hvb] at h;exact h)) rfl (AK rfl) λb2=>OkE.back (sl (sl sr)) (Ag (v:=(Value.slice (some ⟨b2,0,none⟩) (nw b) (nw b+1))) rfl (F0 (m:=nw b) rfl rfl Tryz.underlying255 Tryz.sizeOf92 (by omega)) (pS' rfl (pS' rfl (OkE.nil (OkQ.subF (sL [1,4,5,6,7,8] rfl) ?_)))))))))
 refine q2 (AO rfl (AG (v:=(vN (nw b))) (AD rfl Tryz.underlying255) rfl (asg' rfl (q3 (sL [1,4,5,6,7,8,9] rfl) (AO rfl (AG (v:=(vN (nw a+1))) (AD rfl Tryz.underlying255) rfl (AO rfl (AG (BJ (c:=(((nw a+1)-(nw b):Nat):Int)) rfl rfl (Bt (a:=nw a+1) (b:=nw b) (by omega) (by omega))) rfl (OkL.retell (k:=38) (u:=(vN m)) rfl (by rw [hm]) (OkL.openV (V:=λb3=>(Value.slice (some ⟨b3,0,none⟩) m m)) (T:=92) (cs:=Ae (List.replicate m 0)) (AP rfl) (Cv (m:=m) (c:=m) rfl rfl (by omega) (by omega)) rfl (AK rfl) λb3=>asg' rfl ?_))))))))))
 refine q6 (sL [1,4,5,6,7,8,9] rfl) (q4 (AO rfl (AG (v:=(vN m)) (AD rfl Tryz.underlying255) rfl (AG (BJ (c:=(((m:Nat):Int)-1)) rfl rfl (BD (by omega) (by omega))) rfl (asg' rfl (OkL.nil (OkQ.subF (sL [1,4,5,6,7,8,9,10] rfl) (OkQ.then_ (OkC.block ?_)))))))))
 refine OkC.lp3 (tg λ(k0:Nat) (us:List Nat) (qs:List Nat)=>k0<=m/\us.length=nw a+1/\W32 us/\qs.length=m/\W32 qs/\(∀j,j<k0->qs.getD j 0=0)/\val us<V*4294967296^k0/\a*2^s=val qs*V+val us) (tg λ(k0:Nat) (us:List Nat) (qs:List Nat)=>[(4,(Value.slice (some ⟨b3,0,none⟩) m m)),(5,(Value.slice none 0 0)),(6,(vN s)),(7,(Value.slice (some ⟨b1,0,none⟩) (nw a+1) (nw a+1))),(8,(Value.slice (some ⟨b2,0,none⟩) (nw b) (nw b+1))),(9,(vN (nw b))),(10,(vI (((k0:Nat):Int)-1)))]) (tg λ(k0:Nat) (us:List Nat) (qs:List Nat)=>[AX b3 92 (Ae qs),AX b2 92 (Ae vb),AX b1 92 (Ae us)]) (tg λ(k0:Nat) (us:List Nat) (qs:List Nat)=>k0) m (CK (nw a+1) (a*2^s)) (List.replicate m 0) (⟨Nat.le_refl _,BZ _ _,DP _ _,by simp,W32.zeros _,λj _=>by simp [List.getD_eq_getElem?_getD,List.getElem?_replicate];split<;>rfl,by rw [hA,hV];exact hst,by rw [hA,Dl];simp⟩) (sF rfl) sr (λk0 us qs hJ=>?_)
 obtain ⟨hk0,hul,huw,hql,hqw,hqz,hlt,hAeq⟩:=hJ
 refine OkC.seq (q4 (AO rfl (AG (B_ (c:=(decide ((0:Int)<=(((k0:Nat):Int)-1)))) rfl rfl rfl) rfl (OkL.nil (OkQ.subF (sL [4,5,6,7,8,9,10,44] rfl) (OkQ.then_ ?_))))))
 refine OkC.cond rfl (λhc0=>?_) (λhc0=>?_)
 ·replace hc0:=of_decide_eq_true hc0
  obtain ⟨k,rfl⟩:∃k,k0=k+1:=⟨k0-1,by omega⟩
  obtain ⟨top,htp⟩:∃t,t=us.getD (k+nw b) 0*4294967296+us.getD (k+nw b-1) 0:=⟨_,rfl⟩
  obtain ⟨W,hWd⟩:∃x,x=val us/4294967296^k:=⟨_,rfl⟩
  have hWin:=Wl hN huw hlt
  rw [<-htp,<-hWd] at hWin
  have hu2:=huw.getD (k+nw b-2)
  have hG0:=My hN hWin hu2
  have htb:=hWin.topb
  have hq32:=hWin.quo_lt hN.pos
  refine OkC.retell (k:=10) (u:=(vN k)) rfl (by congr 1;omega) (OkC.skip (q1 (OkC.block (OkC.scope (OkC.seq (CV [(0,true),(1,true),(2,true),(3,true),(4,true),(5,true),(6,true),(7,true),(8,true),(9,true),(10,true),(11,true),(12,true),(13,true),(14,true),(15,true),(16,true),(17,true)] sr (BN rfl (BN rfl (BN rfl (Ag rfl (AY (c:=((k+(nw b):Nat):Int)) rfl rfl (AT (a:=k) (b:=nw b) (by omega))) (Ag (v:=(pP b1 (k+(nw b)))) rfl (AL (j:=k+(nw b)) rfl rfl Tryz.underlying255 Tryz.sizeOf92 rfl (by omega) (by simp)) ?_)))))))))))
  have hx2:us.getD (k+(nw b)) 0<4294967296:=W32.getD huw (k+(nw b))
  refine Ag rfl (AE (i:=2) (v:=(vK .u32 (us.getD (k+(nw b)) 0))) rfl rfl Tryz.isAgg92 (A6 (xs:=us) (j:=(k+(nw b))) (by omega))) (Ag rfl (Ar (c:=((us.getD (k+(nw b)) 0:Nat):Int)) rfl Tryz.underlying92 Tryz.underlying69 (BG (by omega))) (Ag (v:=(vK .u64 (us.getD (k+nw b) 0*4294967296))) rfl (Fy (s:=32) rfl rfl rfl (by decide) (F4 (s:=32) (by omega))) (BN rfl (BN rfl (BN rfl (Ag rfl (AY (c:=((k+(nw b):Nat):Int)) rfl rfl (AT (a:=k) (b:=nw b) (by omega))) (Ag rfl (BJ (c:=(((k+(nw b))-1:Nat):Int)) rfl rfl (Bt (a:=k+(nw b)) (b:=1) (by omega) (by omega))) (Ag (v:=(pP b1 ((k+(nw b))-1))) rfl (AL (j:=(k+(nw b))-1) rfl rfl Tryz.underlying255 Tryz.sizeOf92 rfl (by omega) (by simp)) ?_))))))))
  have hx3:us.getD ((k+(nw b))-1) 0<4294967296:=W32.getD huw ((k+(nw b))-1)
  refine Ag rfl (AE (i:=2) (v:=(vK .u32 (us.getD ((k+(nw b))-1) 0))) rfl rfl Tryz.isAgg92 (A6 (xs:=us) (j:=((k+(nw b))-1)) (by omega))) (Ag rfl (Ar (c:=((us.getD ((k+(nw b))-1) 0:Nat):Int)) rfl Tryz.underlying92 Tryz.underlying69 (BG (by omega))) (Ag rfl (IH (c:=((top:Nat):Int)) rfl rfl (Ix (by omega) (by omega) (((Nat.or_comm _ _).trans ((Gu (s:=32) (by omega)).trans (Nat.add_comm _ _))).trans htp.symm))) (pS' rfl (OkE.nil (OkQ.subF (sL [4,5,6,7,8,9,10,11] rfl) (q1 (CV [(0,true),(1,true),(2,true),(3,true),(4,true),(5,true),(6,true),(7,true),(8,true),(9,true),(10,true),(11,true),(12,true),(13,true),(14,true),(15,true),(16,true),(17,true)] sr (BN rfl (BN rfl (BN rfl (Ag rfl (BJ (c:=(((nw b)-1:Nat):Int)) rfl rfl (Bt (a:=nw b) (b:=1) (by omega) (by omega))) ?_)))))))))))
  refine Ag (v:=(pP b2 ((nw b)-1))) rfl (AL (j:=(nw b)-1) rfl rfl Tryz.underlying255 Tryz.sizeOf92 rfl (by omega) (by simp)) ?_
  have hx4:vb.getD ((nw b)-1) 0<4294967296:=W32.getD hN.w32 ((nw b)-1)
  refine Ag rfl (AE (i:=1) (v:=(vK .u32 (vb.getD ((nw b)-1) 0))) rfl rfl Tryz.isAgg92 (A6 (xs:=vb) (j:=((nw b)-1)) (by omega))) (Ag rfl (Ar (c:=((vb.getD ((nw b)-1) 0:Nat):Int)) rfl Tryz.underlying92 Tryz.underlying69 (BG (by omega))) (Ag rfl (EP (c:=((top/(vb.getD ((nw b)-1) 0):Nat):Int)) rfl rfl (by omega) (G9 (a:=top) (b:=vb.getD ((nw b)-1) 0) (by omega))) (BN rfl (BN rfl (BN rfl (Ag rfl (BJ (c:=(((nw b)-1:Nat):Int)) rfl rfl (Bt (a:=nw b) (b:=1) (by omega) (by omega))) (Ag (v:=(pP b2 ((nw b)-1))) rfl (AL (j:=(nw b)-1) rfl rfl Tryz.underlying255 Tryz.sizeOf92 rfl (by omega) (by simp)) ?_)))))))
  have hx5:vb.getD ((nw b)-1) 0<4294967296:=W32.getD hN.w32 ((nw b)-1)
  refine Ag rfl (AE (i:=1) (v:=(vK .u32 (vb.getD ((nw b)-1) 0))) rfl rfl Tryz.isAgg92 (A6 (xs:=vb) (j:=((nw b)-1)) (by omega))) (Ag rfl (Ar (c:=((vb.getD ((nw b)-1) 0:Nat):Int)) rfl Tryz.underlying92 Tryz.underlying69 (BG (by omega))) (Ag rfl (De (c:=((top%(vb.getD ((nw b)-1) 0):Nat):Int)) rfl rfl (by omega) (Nu (a:=top) (b:=vb.getD ((nw b)-1) 0))) (pS' rfl (pS' rfl (OkE.nil (OkQ.subF (sL [4,5,6,7,8,9,10,12,13] rfl) (q1 (OkC.label (q1 ?_)))))))))
  refine OkC.jn1 (tg λ(d:Nat)=>d<=4294967295/\(d=W/V\/d=W/V+1)) (tg λ(d:Nat)=>[(4,(Value.slice (some ⟨b3,0,none⟩) m m)),(5,(Value.slice none 0 0)),(6,(vN s)),(7,(Value.slice (some ⟨b1,0,none⟩) (nw a+1) (nw a+1))),(8,(Value.slice (some ⟨b2,0,none⟩) (nw b) (nw b+1))),(9,(vN (nw b))),(10,(vN k)),(12,(vK .u64 d))]) (tg λ(d:Nat)=>[AX b3 92 (Ae qs),AX b2 92 (Ae vb),AX b1 92 (Ae us)]) ?_ ?_
  ·skip
   refine OkC.block ?_
   refine OkC.lp2 (tg λ(d:Nat) (r:Nat)=>HP V W (vb.getD (nw b-1) 0) top d r/\r<8589934592/\d<8589934593) (tg λ(d:Nat) (r:Nat)=>[(4,(Value.slice (some ⟨b3,0,none⟩) m m)),(5,(Value.slice none 0 0)),(6,(vN s)),(7,(Value.slice (some ⟨b1,0,none⟩) (nw a+1) (nw a+1))),(8,(Value.slice (some ⟨b2,0,none⟩) (nw b) (nw b+1))),(9,(vN (nw b))),(10,(vN k)),(12,(vK .u64 d)),(13,(vK .u64 r))]) (tg λ(d:Nat) (r:Nat)=>[AX b3 92 (Ae qs),AX b2 92 (Ae vb),AX b1 92 (Ae us)]) (tg λ(d:Nat) (r:Nat)=>d) (top/vb.getD (nw b-1) 0) (top%vb.getD (nw b-1) 0) (⟨hG0,by have:=Nat.mod_lt top (show vb.getD (nw b-1) 0>0 by omega);omega,Nat.div_lt_of_lt_mul (by omega)⟩) (sF rfl) sr (λd r hJ=>?_)
   obtain ⟨hG,hr2,hd2⟩:=hJ
   refine OkC.seq (q4 (AO rfl (AG (FP (c:=(decide (r<=4294967295))) rfl rfl (Q6 (a:=r) (b:=4294967295))) rfl (OkL.nil (OkQ.subF (sL [4,5,6,7,8,9,10,12,13,81] rfl) (OkQ.then_ ?_))))))
   refine OkC.cond rfl (λhc1=>?_) (λhc1=>?_)
   ·replace hc1:=of_decide_eq_true hc1
    refine OkC.skip (OkQ.then_ (OkC.block (OkC.seq (OkC.seq ?_))))
    by_cases hsp:d<=4294967295
    ·skip
     have hv2:=hN.w32.getD (nw b-2)
     have hml:=JL (a:=d) (b:=vb.getD (nw b-2) 0) (by omega) hv2
     refine CV [(0,true),(1,true),(2,true),(3,true),(4,true),(5,true),(6,true),(7,true),(8,true),(9,true),(10,true),(11,true),(12,true),(13,true),(14,true),(15,true),(16,true),(17,true),(18,true),(19,true),(20,true),(21,true),(22,true),(23,true)] sr (BN rfl (Ag rfl (FP (c:=true) rfl rfl (Q6.trans (decide_eq_true hsp))) (BN rfl (OkE.pas (v:=(vK .u64 d)) rfl (AB rfl) (Ac rfl) rfl rfl (OkE.pas (v:=(Value.slice (some ⟨b2,0,none⟩) (nw b) (nw b+1))) rfl (AB rfl) (Ac rfl) rfl rfl (OkE.pas (v:=(vN (nw b))) rfl (AB rfl) (Ac rfl) rfl rfl (OkE.pas (v:=(vN ((nw b)-2))) rfl (AB rfl) (BJ (c:=(((nw b)-2:Nat):Int)) rfl rfl (Bt (a:=nw b) (b:=2) (by omega) (by omega))) rfl rfl (OkE.pas (v:=(pP b2 ((nw b)-2))) rfl (AB rfl) (AL (j:=(nw b)-2) rfl rfl Tryz.underlying255 Tryz.sizeOf92 rfl (by omega) (by simp)) rfl rfl ?_))))))))
     have hx6:vb.getD ((nw b)-2) 0<4294967296:=W32.getD hN.w32 ((nw b)-2)
     refine OkE.pas (v:=(vK .u32 (vb.getD ((nw b)-2) 0))) rfl (AB rfl) (AE (i:=1) (v:=(vK .u32 (vb.getD ((nw b)-2) 0))) rfl rfl Tryz.isAgg92 (A6 (xs:=vb) (j:=((nw b)-2)) (by omega))) rfl rfl (OkE.pas (v:=(vK .u64 (vb.getD ((nw b)-2) 0))) rfl (AB rfl) (Ar (c:=((vb.getD ((nw b)-2) 0:Nat):Int)) rfl Tryz.underlying92 Tryz.underlying69 (BG (by omega))) rfl rfl (OkE.pas (v:=(vK .u64 (d*(vb.getD ((nw b)-2) 0)))) rfl (AB rfl) (Cr (c:=((d*(vb.getD ((nw b)-2) 0):Nat):Int)) rfl rfl (EY (a:=d) (b:=vb.getD ((nw b)-2) 0) (by omega))) rfl rfl (OkE.pas (v:=(vK .u64 r)) rfl (AB rfl) (Ac rfl) rfl rfl (OkE.pas (v:=(vK .u64 (r*4294967296))) rfl (AB rfl) (Fy (s:=32) rfl rfl rfl (by decide) (F4 (s:=32) (by omega))) rfl rfl (OkE.pas (v:=(Value.slice (some ⟨b1,0,none⟩) (nw a+1) (nw a+1))) rfl (AB rfl) (Ac rfl) rfl rfl (OkE.pas (v:=(vN k)) rfl (AB rfl) (Ac rfl) rfl rfl (OkE.pas (v:=(vN (nw b))) rfl (AB rfl) (Ac rfl) rfl rfl (OkE.pas (v:=(vN (k+(nw b)))) rfl (AB rfl) (AY (c:=((k+(nw b):Nat):Int)) rfl rfl (AT (a:=k) (b:=nw b) (by omega))) rfl rfl (OkE.pas (v:=(vN ((k+(nw b))-2))) rfl (AB rfl) (BJ (c:=(((k+(nw b))-2:Nat):Int)) rfl rfl (Bt (a:=k+(nw b)) (b:=2) (by omega) (by omega))) rfl rfl (OkE.pas (v:=(pP b1 ((k+(nw b))-2))) rfl (AB rfl) (AL (j:=(k+(nw b))-2) rfl rfl Tryz.underlying255 Tryz.sizeOf92 rfl (by omega) (by simp)) rfl rfl ?_))))))))))
     have hx7:us.getD ((k+(nw b))-2) 0<4294967296:=W32.getD huw ((k+(nw b))-2)
     refine OkE.pas (v:=(vK .u32 (us.getD ((k+(nw b))-2) 0))) rfl (AB rfl) (AE (i:=2) (v:=(vK .u32 (us.getD ((k+(nw b))-2) 0))) rfl rfl Tryz.isAgg92 (A6 (xs:=us) (j:=((k+(nw b))-2)) (by omega))) rfl rfl (OkE.pas (v:=(vK .u64 (us.getD ((k+(nw b))-2) 0))) rfl (AB rfl) (Ar (c:=((us.getD ((k+(nw b))-2) 0:Nat):Int)) rfl Tryz.underlying92 Tryz.underlying69 (BG (by omega))) rfl rfl (OkE.pas (v:=(vK .u64 (r*4294967296+us.getD (k+nw b-2) 0))) rfl (AB rfl) (IH (c:=((r*4294967296+us.getD (k+nw b-2) 0:Nat):Int)) rfl rfl (Ix (by omega) (by omega) (((Nat.or_comm _ _).trans ((Gu (s:=32) (by omega)).trans (Nat.add_comm _ _)))))) rfl rfl (OkE.pas (v:=(Value.bool (decide ((d*(vb.getD ((nw b)-2) 0))<=(r*4294967296+us.getD (k+nw b-2) 0))))) rfl (AB rfl) (FP (c:=(decide ((d*(vb.getD ((nw b)-2) 0))<=(r*4294967296+us.getD (k+nw b-2) 0)))) rfl rfl (Q6 (a:=d*(vb.getD ((nw b)-2) 0)) (b:=r*4294967296+us.getD (k+nw b-2) 0))) rfl rfl (Ag (v:=(Value.bool (decide ((d*(vb.getD ((nw b)-2) 0))<=(r*4294967296+us.getD (k+nw b-2) 0))))) rfl (AN rfl rfl) (OkE.nil (OkQ.subF (sL [4,5,6,7,8,9,10,12,13,105] rfl) (OkQ.then_ ?_)))))))
     refine OkC.cond rfl (λhc2=>?_) (λhc2=>?_)
     ·replace hc2:=of_decide_eq_true hc2
      have hg:=JS hN hWin hG (.inr ⟨hsp,hc2⟩)
      exact OkC.exit (OkQ.then_exit (OkQ.in_exit_ne rfl (OkQ.round2_exit (OkQ.in_exit (OkQ.join1 d (hg) (sF rfl) sr)))))
     ·replace hc2:=of_decide_eq_false hc2
      obtain ⟨hng1,hng2⟩:=JN hN hWin hG (λh=>hc2 h.2)
      refine OkC.skip (q2 (AO rfl (AG (BJ (c:=((d-1:Nat):Int)) rfl rfl (HY (a:=d) (b:=1) (by omega) (by omega))) rfl (asg' rfl (OkL.nil (OkQ.subF (sL [4,5,6,7,8,9,10,12,13] rfl) (OkQ.then_ (OkC.region (AO rfl (AO rfl (AO rfl ?_)))))))))))
      refine AG (BJ (c:=(((nw b)-1:Nat):Int)) rfl rfl (Bt (a:=nw b) (b:=1) (by omega) (by omega))) rfl (AG (v:=(pP b2 ((nw b)-1))) (AL (j:=(nw b)-1) rfl rfl Tryz.underlying255 Tryz.sizeOf92 rfl (by omega) (by simp)) rfl ?_)
      have hx8:vb.getD ((nw b)-1) 0<4294967296:=W32.getD hN.w32 ((nw b)-1)
      exact AG (AE (i:=1) (v:=(vK .u32 (vb.getD ((nw b)-1) 0))) rfl rfl Tryz.isAgg92 (A6 (xs:=vb) (j:=((nw b)-1)) (by omega))) rfl (AG (Ar (c:=((vb.getD ((nw b)-1) 0:Nat):Int)) rfl Tryz.underlying92 Tryz.underlying69 (BG (by omega))) rfl (AG (AY (c:=((r+(vb.getD ((nw b)-1) 0):Nat):Int)) rfl rfl (C9 (a:=r) (b:=vb.getD ((nw b)-1) 0) (by omega))) rfl (asg' rfl (OkL.nil (OkQ.subF (sL [4,5,6,7,8,9,10,12,13] rfl) (OkQ.in_normal (OkQ.round2 (d-1) (r+vb.getD (nw b-1) 0) (⟨hng1,by omega,by omega⟩) (by omega) (sF rfl) sr)))))))
    ·skip
     obtain ⟨hng1,hng2⟩:=JN hN hWin hG (λh=>hsp h.1)
     refine CV [(0,true),(1,true),(2,true),(3,true),(4,true),(5,true),(6,true),(7,true),(8,true),(9,true),(10,true),(11,true),(12,true),(13,true),(14,true),(15,true),(16,true),(17,true),(18,true),(19,true),(20,true),(21,true),(22,true),(23,true)] sr (BN rfl (Ag rfl (FP (c:=false) rfl rfl (Q6.trans (decide_eq_false hsp))) (BN rfl (OkE.skp rfl (AC rfl) rfl rfl (OkE.skp rfl (AC rfl) rfl rfl (OkE.skp rfl (AC rfl) rfl rfl (OkE.skp rfl (AC rfl) rfl rfl (OkE.skp rfl (AC rfl) rfl rfl (OkE.skp rfl (AC rfl) rfl rfl (OkE.skp rfl (AC rfl) rfl rfl (OkE.skp rfl (AC rfl) rfl rfl ?_)))))))))))
     refine OkE.skp rfl (AC rfl) rfl rfl (OkE.skp rfl (AC rfl) rfl rfl (OkE.skp rfl (AC rfl) rfl rfl (OkE.skp rfl (AC rfl) rfl rfl (OkE.skp rfl (AC rfl) rfl rfl (OkE.skp rfl (AC rfl) rfl rfl (OkE.skp rfl (AC rfl) rfl rfl (OkE.skp rfl (AC rfl) rfl rfl (OkE.skp rfl (AC rfl) rfl rfl (OkE.skp rfl (AC rfl) rfl rfl (OkE.skp rfl (AC rfl) rfl rfl (OkE.skp rfl (AC rfl) rfl rfl ?_)))))))))))
     refine Ag (v:=(Value.bool false)) rfl (AJ rfl rfl) (OkE.nil (OkQ.subF (sL [4,5,6,7,8,9,10,12,13,105] rfl) (OkQ.then_ (OkC.cond_false rfl (OkC.skip (q2 (AO rfl (AG (BJ (c:=((d-1:Nat):Int)) rfl rfl (HY (a:=d) (b:=1) (by omega) (by omega))) rfl (asg' rfl (OkL.nil (OkQ.subF (sL [4,5,6,7,8,9,10,12,13] rfl) ?_)))))))))))
     refine OkQ.then_ (OkC.region (AO rfl (AO rfl (AO rfl (AG (BJ (c:=(((nw b)-1:Nat):Int)) rfl rfl (Bt (a:=nw b) (b:=1) (by omega) (by omega))) rfl (AG (v:=(pP b2 ((nw b)-1))) (AL (j:=(nw b)-1) rfl rfl Tryz.underlying255 Tryz.sizeOf92 rfl (by omega) (by simp)) rfl ?_))))))
     have hx9:vb.getD ((nw b)-1) 0<4294967296:=W32.getD hN.w32 ((nw b)-1)
     exact AG (AE (i:=1) (v:=(vK .u32 (vb.getD ((nw b)-1) 0))) rfl rfl Tryz.isAgg92 (A6 (xs:=vb) (j:=((nw b)-1)) (by omega))) rfl (AG (Ar (c:=((vb.getD ((nw b)-1) 0:Nat):Int)) rfl Tryz.underlying92 Tryz.underlying69 (BG (by omega))) rfl (AG (AY (c:=((r+(vb.getD ((nw b)-1) 0):Nat):Int)) rfl rfl (C9 (a:=r) (b:=vb.getD ((nw b)-1) 0) (by omega))) rfl (asg' rfl (OkL.nil (OkQ.subF (sL [4,5,6,7,8,9,10,12,13] rfl) (OkQ.in_normal (OkQ.round2 (d-1) (r+vb.getD (nw b-1) 0) (⟨hng1,by omega,by omega⟩) (by omega) (sF rfl) sr)))))))
   ·replace hc1:=of_decide_eq_false hc1
    have hg:=JS hN hWin hG (.inl (by omega))
    exact OkC.exit (OkQ.then_exit (OkQ.round2_exit (OkQ.in_exit (OkQ.join1 d (hg) (sF rfl) sr))))
  ·intro d hJ
   obtain ⟨hdb,hdq⟩:=hJ
   refine q1 (q4 (AO rfl (AO rfl (AO rfl (AO rfl (AG (AY (c:=((k+(nw b):Nat):Int)) rfl rfl (AT (a:=k) (b:=nw b) (by omega))) rfl (AG (AY (c:=(((k+(nw b))+1:Nat):Int)) rfl rfl (AT (a:=k+(nw b)) (b:=1) (by omega))) rfl (AG (v:=(Value.slice (some ⟨b1,k,none⟩) (((k+(nw b))+1)-k) ((nw a+1)-k))) (Lz (i:=k) (m:=(k+(nw b))+1) rfl rfl rfl Tryz.underlying255 Tryz.sizeOf92 (by omega) (by omega) (by omega) (by simp)) rfl (OkL.retell (k:=122) (u:=(Value.slice (some ⟨b1,k,none⟩) (nw b+1) ((nw a+1)-k))) rfl (by rw [show k+nw b+1-k=nw b+1 by omega]) (AO rfl (AO rfl ?_)))))))))))
   refine OkL.callM (v:=(Value.bool (decide (val us<d*val (vb.take (nw b))*4294967296^k)))) (i:=2) (cs':=Ae (CK (nw a+1) (val us+(if val us<d*val (vb.take (nw b))*4294967296^k then 4294967296^(k+nw b+1) else 0)-d*val (vb.take (nw b))*4294967296^k))) (L':=[AX b3 92 (Ae qs),AX b2 92 (Ae vb),AX b1 92 (Ae (CK (nw a+1) (val us+(if val us<d*val (vb.take (nw b))*4294967296^k then 4294967296^(k+nw b+1) else 0)-d*val (vb.take (nw b))*4294967296^k)))]) (AP rfl) (Ap (args:=[(Value.slice (some ⟨b1,k,none⟩) (nw b+1) ((nw a+1)-k)),(Value.slice (some ⟨b2,0,none⟩) (nw b) (nw b+1)),(vK .u64 d)]) rfl rfl Tryz.call274) rfl (λw hw=>U8 _ _ k (nw b) (nw a+1) _ _ d us vb huw hul hN.w32 (by omega) (by omega) (by omega) (by omega) hWin.fits ((hw.apart (i:=1) (j:=2) (by decide) rfl rfl)) w (hw.get (i:=2) rfl) (hw.get (i:=1) rfl)) (λd hd=>by cases hd<;>exact (AK rfl)) rfl (OkL.nil (OkQ.subF (sL [4,5,6,7,8,9,10,12,125] rfl) (OkQ.then_ ?_)))
   refine OkC.jn1 (tg λ(us2:List Nat)=>us2.length=nw a+1/\W32 us2/\val us2=val us-W/V*V*4294967296^k) (tg λ(us2:List Nat)=>[(4,(Value.slice (some ⟨b3,0,none⟩) m m)),(5,(Value.slice none 0 0)),(6,(vN s)),(7,(Value.slice (some ⟨b1,0,none⟩) (nw a+1) (nw a+1))),(8,(Value.slice (some ⟨b2,0,none⟩) (nw b) (nw b+1))),(9,(vN (nw b))),(10,(vN k)),(12,(vK .u64 (W/V)))]) (tg λ(us2:List Nat)=>[AX b3 92 (Ae qs),AX b2 92 (Ae vb),AX b1 92 (Ae us2)]) ?_ ?_
   ·skip
    refine OkC.cond rfl (λhc3=>?_) (λhc3=>?_)
    ·replace hc3:=of_decide_eq_true hc3
     have hP:4294967296^(k+nw b+1)<=4294967296^(nw a+1):=Nat.pow_le_pow_right (by omega) (by omega)
     rw [hN.take] at hc3
     obtain ⟨hde,hdS⟩:=OK (vb:=vb) hWin hdq hc3
     have hXP:V*4294967296^k<=4294967296^(k+nw b+1):=Nat.le_trans (Nat.mul_le_mul_right _ (Nat.le_of_lt hN.high)) (by rw [<-Nat.pow_add];exact Nat.pow_le_pow_right (by omega) (by omega))
     have hqle:=OM (vb:=vb) hWin
     have hfit:=hWin.fits
     have hd1:1<=d:=by rw [hde];exact Nat.le_add_left _ _
     have hU1:val (CK (nw a+1) (val us+(if val us<d*val (vb.take (nw b))*4294967296^k then 4294967296^(k+nw b+1) else 0)-d*val (vb.take (nw b))*4294967296^k))=val us+4294967296^(k+nw b+1)-d*V*4294967296^k:=by rw [hN.take,if_pos hc3,ET _ _ (by omega)]
     have hU1lt:val (CK (nw a+1) (val us+(if val us<d*val (vb.take (nw b))*4294967296^k then 4294967296^(k+nw b+1) else 0)-d*val (vb.take (nw b))*4294967296^k))<4294967296^(k+nw b+1):=by rw [hU1];omega
     refine q4 (AO rfl (AG (BJ (c:=((d-1:Nat):Int)) rfl rfl (HY (a:=d) (b:=1) (by omega) (by omega))) rfl (asg' rfl (q3 (sL [4,5,6,7,8,9,10,12] rfl) (asg' rfl (OkL.nil (q1 (q4 (AO rfl (AG (v:=(vN (nw b))) (AD rfl Tryz.underlying255) rfl (AO rfl ?_)))))))))))
     refine OkL.nil (OkQ.then_ (OkC.block ?_))
     refine OkC.lp3 (tg λ(i:Nat) (os:List Nat) (c:Nat)=>i<=nw b/\os.length=nw a+1/\W32 os/\c<=1/\(∀j,k+nw b+1<=j->os.getD j 0=0)/\val os+c*4294967296^(k+i)=(val us+4294967296^(k+nw b+1)-d*V*4294967296^k)+val (vb.take i)*4294967296^k) (tg λ(i:Nat) (os:List Nat) (c:Nat)=>[(4,(Value.slice (some ⟨b3,0,none⟩) m m)),(5,(Value.slice none 0 0)),(6,(vN s)),(7,(Value.slice (some ⟨b1,0,none⟩) (nw a+1) (nw a+1))),(8,(Value.slice (some ⟨b2,0,none⟩) (nw b) (nw b+1))),(9,(vN (nw b))),(10,(vN k)),(12,(vK .u64 (d-1))),(128,(Value.slice (some ⟨b2,0,none⟩) (nw b) (nw b+1))),(129,(vN (nw b))),(130,(vN i)),(14,(vK .u32 c))]) (tg λ(i:Nat) (os:List Nat) (c:Nat)=>[AX b3 92 (Ae qs),AX b2 92 (Ae vb),AX b1 92 (Ae os)]) (tg λ(i:Nat) (os:List Nat) (c:Nat)=>nw b-i) 0 (CK (nw a+1) (val us+(if val us<d*val (vb.take (nw b))*4294967296^k then 4294967296^(k+nw b+1) else 0)-d*val (vb.take (nw b))*4294967296^k)) 0 (⟨Nat.zero_le _,BZ _ _,DP _ _,by omega,IG hU1lt,by rw [hU1];simp [val]⟩) (sF rfl) sr (λi os c hJ=>?_)
     obtain ⟨hi,hl,hw32,hcc,hz,hv⟩:=hJ
     refine q4 (AG (Af (c:=(decide (i<(nw b)))) rfl rfl (B9 (a:=i) (b:=nw b))) rfl (OkL.nil (q1 ?_)))
     refine OkC.cond rfl (λhc4=>?_) (λhc4=>?_)
     ·replace hc4:=of_decide_eq_true hc4
      refine OkC.skip (q1 (OkC.block (q4 (AO rfl (AG (v:=(pP b2 i)) (AL (j:=i) rfl rfl Tryz.underlying255 Tryz.sizeOf92 rfl (by omega) (by simp)) rfl ?_)))))
      have hx10:vb.getD i 0<4294967296:=W32.getD hN.w32 i
      refine AG (AE (i:=1) (v:=(vK .u32 (vb.getD i 0))) rfl rfl Tryz.isAgg92 (A6 (xs:=vb) (j:=i) (by omega))) rfl (asg' rfl (asg' rfl (OkL.nil (OkQ.subF (sL [4,5,6,7,8,9,10,12,128,129,130,14,15,16] rfl) (OkQ.then_ (OkC.region (AO rfl (AO rfl (AO rfl (AG (AY (c:=((k+i:Nat):Int)) rfl rfl (AT (a:=k) (b:=i) (by omega))) rfl (AO rfl ?_)))))))))))
      refine AO rfl (AO rfl (AG (AY (c:=((k+i:Nat):Int)) rfl rfl (AT (a:=k) (b:=i) (by omega))) rfl (AG (v:=(pP b1 (k+i))) (AL (j:=k+i) rfl rfl Tryz.underlying255 Tryz.sizeOf92 rfl (by omega) (by simp)) rfl ?_)))
      have hx11:os.getD (k+i) 0<4294967296:=W32.getD hw32 (k+i)
      refine AG (AE (i:=2) (v:=(vK .u32 (os.getD (k+i) 0))) rfl rfl Tryz.isAgg92 (A6 (xs:=os) (j:=(k+i)) (by omega))) rfl (AO rfl (AO rfl (ck' Tryz.call240 (Ja (os.getD (k+i) 0) (vb.getD i 0) c (by omega) (by omega) (by omega)) rfl (AO rfl (AG (AV (v:=(vK .u32 (((os.getD (k+i) 0)+(vb.getD i 0)+c)%4294967296))) rfl rfl) rfl (AG (AV (v:=(vK .u32 (((os.getD (k+i) 0)+(vb.getD i 0)+c)/4294967296))) rfl rfl) rfl (AG (v:=(pP b1 (k+i))) (AL (j:=k+i) rfl rfl Tryz.underlying255 Tryz.sizeOf92 rfl (by omega) (by simp)) rfl (OkL.store' (i:=2) (off:=(k+i)) (vs:=[(vK .u32 (((os.getD (k+i) 0)+(vb.getD i 0)+c)%4294967296))]) (cs':=Ae (os.set (k+i) (((os.getD (k+i) 0)+(vb.getD i 0)+c)%4294967296))) (L':=[AX b3 92 (Ae qs),AX b2 92 (Ae vb),AX b1 92 (Ae (os.set (k+i) (((os.getD (k+i) 0)+(vb.getD i 0)+c)%4294967296)))]) (AP rfl) rfl rfl rfl rfl rfl Tryz.sizeOf92 rfl (CM (BI _) (by omega)) (B0 (by omega)) rfl (asg' rfl (OkL.nil (OkQ.subF (sL [4,5,6,7,8,9,10,12,128,129,130,14] rfl) ?_)))))))))))
      exact OkQ.in_normal (OkQ.then_ (OkC.region (AG (AY (c:=((i+1:Nat):Int)) rfl rfl (AT (a:=i) (b:=1) (by omega))) rfl (AO rfl (OkL.nil (OkQ.subF (sL [4,5,6,7,8,9,10,12,128,129,130,14] rfl) (OkQ.round3 (i+1) (os.set (k+i) ((os.getD (k+i) 0+vb.getD i 0+c)%4294967296)) ((os.getD (k+i) 0+vb.getD i 0+c)/4294967296) (⟨by omega,by rw [List.length_set];exact hl,W32.set hw32 (by omega) _,by omega,E_ hz (by omega),P6 hl (by omega) hv⟩) (by omega) (sF rfl) sr)))))))
     ·replace hc4:=of_decide_eq_false hc4
      have hib:i=nw b:=by omega
      have hv3:=hv
      rw [hib,hN.take] at hv3
      have hbk:=Qg (T:=val us-W/V*V*4294967296^k) (P:=4294967296^(k+nw b+1)) hl (by omega) hw32 hcc hz rfl (hv3.trans (Od hdS hqle hfit hc3 hXP)) (Nat.lt_of_le_of_lt (Nat.sub_le _ _) hfit)
      refine OkC.exit (OkQ.then_exit (OkQ.round3_exit (OkQ.in_exit (OkQ.then_ (OkC.region (AO rfl (AO rfl (AO rfl (AG (AY (c:=((k+(nw b):Nat):Int)) rfl rfl (AT (a:=k) (b:=nw b) (by omega))) rfl (AG (v:=(pP b1 (k+(nw b)))) (AL (j:=k+(nw b)) rfl rfl Tryz.underlying255 Tryz.sizeOf92 rfl (by omega) (by simp)) rfl ?_))))))))))
      have hx12:os.getD (k+(nw b)) 0<4294967296:=W32.getD hw32 (k+(nw b))
      exact AG (AE (i:=2) (v:=(vK .u32 (os.getD (k+(nw b)) 0))) rfl rfl Tryz.isAgg92 (A6 (xs:=os) (j:=(k+(nw b))) (by omega))) rfl (AO rfl (AG (AY (c:=(((os.getD (k+nw b) 0+c)%4294967296:Nat):Int)) rfl rfl TF) rfl (AG (v:=(pP b1 (k+(nw b)))) (AL (j:=k+(nw b)) rfl rfl Tryz.underlying255 Tryz.sizeOf92 rfl (by omega) (by simp)) rfl (OkL.store' (i:=2) (off:=(k+(nw b))) (vs:=[(vK .u32 ((os.getD (k+nw b) 0+c)%4294967296))]) (cs':=Ae (os.set (k+(nw b)) ((os.getD (k+nw b) 0+c)%4294967296))) (L':=[AX b3 92 (Ae qs),AX b2 92 (Ae vb),AX b1 92 (Ae (os.set (k+(nw b)) ((os.getD (k+nw b) 0+c)%4294967296)))]) (AP rfl) rfl rfl rfl rfl rfl Tryz.sizeOf92 rfl (CM (BI _) (by omega)) (B0 (by omega)) rfl (OkL.nil (OkQ.subF (sL [4,5,6,7,8,9,10,12,128,129,130,14] rfl) (OkQ.retell (k:=12) (u:=Value.int .u64 ((W/V:Nat):Int)) rfl (by rw [hde,Nat.add_sub_cancel]) (OkQ.join1 (os.set (k+(nw b)) ((os.getD (k+nw b) 0+c)%4294967296)) (⟨by rw [List.length_set];exact hl,W32.set hw32 (by omega) _,hbk⟩) (sF rfl) sr))))))))
    ·replace hc3:=of_decide_eq_false hc3
     have hP:4294967296^(k+nw b+1)<=4294967296^(nw a+1):=Nat.pow_le_pow_right (by omega) (by omega)
     rw [hN.take] at hc3
     obtain ⟨hde,hdS⟩:=Ny hN hWin hdq hc3
     have hfit:=hWin.fits
     have hU1:val (CK (nw a+1) (val us+(if val us<d*val (vb.take (nw b))*4294967296^k then 4294967296^(k+nw b+1) else 0)-d*val (vb.take (nw b))*4294967296^k))=val us-W/V*V*4294967296^k:=by rw [hN.take,if_neg hc3,ET _ _ (by omega)];exact hdS
     exact OkC.skip (OkQ.retell (k:=12) (u:=Value.int .u64 ((W/V:Nat):Int)) rfl (by rw [hde]) (OkQ.join1 (CK (nw a+1) (val us+(if val us<d*val (vb.take (nw b))*4294967296^k then 4294967296^(k+nw b+1) else 0)-d*val (vb.take (nw b))*4294967296^k)) (⟨BZ _ _,DP _ _,hU1⟩) (sF rfl) sr))
   ·intro us2 hJ
    obtain ⟨hu2l,hu2w,hu2v⟩:=hJ
    refine OkQ.then_ (OkC.region (AO rfl (AO rfl (AO rfl (AG (Ar (c:=((W/V:Nat):Int)) rfl Tryz.underlying69 Tryz.underlying92 (CO (by exact hq32))) rfl (AG (v:=(pP b3 k)) (AL (j:=k) rfl rfl Tryz.underlying255 Tryz.sizeOf92 rfl (by omega) (by simp)) rfl (OkL.store' (i:=0) (off:=k) (vs:=[(vK .u32 (W/V))]) (cs':=Ae (qs.set k (W/V))) (L':=[AX b3 92 (Ae (qs.set k (W/V))),AX b2 92 (Ae vb),AX b1 92 (Ae us2)]) (AP rfl) rfl rfl rfl rfl rfl Tryz.sizeOf92 rfl (CM (BI _) (by omega)) (B0 (by omega)) rfl (OkL.nil (OkQ.subF (sL [4,5,6,7,8,9,10,12] rfl) (OkQ.scope_normal (OkQ.in_normal ?_)))))))))))
    refine OkQ.then_ (OkC.region (AO rfl (AG (BJ (c:=(((k:Nat):Int)-1)) rfl rfl (BD (by omega) (by omega))) rfl (asg' rfl (OkL.nil (OkQ.subF (sL [4,5,6,7,8,9,10,12] rfl) ?_))))))
    have hdd:=N_ hN hWin hu2v hAeq hql (by omega) (hqz k (by omega))
    exact OkQ.round3 k us2 (qs.set k (W/V)) (⟨by omega,hu2l,hu2w,by rw [List.length_set];exact hql,W32.set hqw hq32 _,λj hj=>by rw [IE (by omega)];exact hqz j (by omega),hdd.1,hdd.2⟩) (by omega) (sF rfl) sr
 ·replace hc0:=of_decide_eq_false hc0
  have hk00:k0=0:=by omega
  have hlt0:=hlt
  rw [hk00,Nat.pow_zero,Nat.mul_one] at hlt0
  have hfin:=Qi (a:=a) (b:=b) (s:=s) (q:=val qs) (r:=val us) hb0 (by rw [<-hV];exact hAeq) (by rw [<-hV];exact hlt0)
  refine OkC.exit (OkQ.then_exit (OkQ.round3_exit (OkQ.in_exit (q1 (q4 (AO rfl (AO rfl (OkL.nil (OkQ.then_ (OkC.block ?_))))))))))
  refine OkC.lp2 (tg λ(i:Nat) (us3:List Nat)=>i<=s/\us3.length=nw a+1/\W32 us3/\val us3=a%b*2^s/2^i) (tg λ(i:Nat) (us3:List Nat)=>[(4,(Value.slice (some ⟨b3,0,none⟩) m m)),(5,(Value.slice none 0 0)),(7,(Value.slice (some ⟨b1,0,none⟩) (nw a+1) (nw a+1))),(167,(vN s)),(168,(vN i))]) (tg λ(i:Nat) (us3:List Nat)=>[AX b3 92 (Ae qs),AX b2 92 (Ae vb),AX b1 92 (Ae us3)]) (tg λ(i:Nat) (us3:List Nat)=>s-i) 0 us (⟨Nat.zero_le _,hul,huw,by rw [hfin.2];simp⟩) (sF rfl) sr (λi us3 hJ=>?_)
  obtain ⟨hi,hl3,hw3,hv3⟩:=hJ
  refine q4 (AG (Af (c:=(decide (i<s))) rfl rfl (B9 (a:=i) (b:=s))) rfl (OkL.nil (q1 ?_)))
  refine OkC.cond rfl (λhc5=>?_) (λhc5=>?_)
  ·replace hc5:=of_decide_eq_true hc5
   refine OkC.skip (q1 (OkC.block (OkC.region (AO rfl (OkL.callM (v:=(Value.tuple #[])) (i:=2) (cs':=Ae (CK (nw a+1) (val us3/2))) (L':=[AX b3 92 (Ae qs),AX b2 92 (Ae vb),AX b1 92 (Ae (CK (nw a+1) (val us3/2)))]) (AP rfl) (Ap (args:=[(Value.slice (some ⟨b1,0,none⟩) (nw a+1) (nw a+1))]) rfl rfl Tryz.call275) rfl (λw hw=>U4 _ (nw a+1) _ us3 hw3 hl3 (by omega) w (hw.get (i:=2) rfl)) (λd hd=>by cases hd<;>exact (AK rfl)) rfl (OkL.nil (OkQ.subF (sL [4,5,7,167,168] rfl) (OkQ.in_normal (OkQ.then_ (OkC.region (AG (AY (c:=((i+1:Nat):Int)) rfl rfl (AT (a:=i) (b:=1) (by omega))) rfl ?_)))))))))))
   refine AO rfl (OkL.nil (OkQ.subF (sL [4,5,7,167,168] rfl) ?_))
   have hb3:val us3/2<4294967296^(nw a+1):=Nat.lt_of_le_of_lt (Nat.div_le_self _ _) (by have:=GG hw3;rw [hl3] at this;exact this)
   exact OkQ.round2 (i+1) (CK (nw a+1) (val us3/2)) (⟨by omega,BZ _ _,DP _ _,by rw [ET _ _ hb3,hv3,Nat.div_div_eq_div_mul,<-Nat.pow_succ]⟩) (by omega) (sF rfl) sr
  ·replace hc5:=of_decide_eq_false hc5
   have his:i=s:=by omega
   have hr:val us3=a%b:=by rw [hv3,his,Nat.mul_div_cancel _ (Nat.pow_pos (by omega))]
   have hr1:=Gp hw3 hl3 hr
   have hq1:=Gp hqw hql hfin.1
   refine OkC.exit (OkQ.then_exit (OkQ.round2_exit (OkQ.in_exit (q2 (AO rfl (AO rfl (asg' rfl (asg' rfl (OkL.nil (OkQ.subF (sL [4,5,7,167,168] rfl) (OkQ.then_ ?_)))))))))))
   exact OkC.ret (C0 rfl (rd_tmp (v:=(Value.slice (some ⟨b3,0,none⟩) m m)) rfl) (rd_tmp (v:=(Value.slice (some ⟨b1,0,none⟩) (nw a+1) (nw a+1))) rfl) (λw hw=>⟨b3,b1,by rw [hm],hw.out,hw.fresh (i:=0) rfl,hw.fresh (i:=2) rfl,(hw.apart (i:=0) (j:=2) (by decide) rfl rfl),by rw [<-hm,<-hq1];exact hw.get (i:=0) rfl,by rw [<-hr1];exact hw.get (i:=2) rfl⟩))
end
end Go.Proofs.YtpolhpjiahbidaaGreatDoor
