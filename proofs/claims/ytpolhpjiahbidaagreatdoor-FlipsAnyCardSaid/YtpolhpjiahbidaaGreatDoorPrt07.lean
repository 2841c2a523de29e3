import Derived.Test.YtpolhpjiahbidaaGreatDoorPrt06
namespace Go.Proofs.YtpolhpjiahbidaaGreatDoor
open Go Go.RowKit Go.Proofs.Tryz
open Go.Value renaming slice→qz,bool→qa
set_option linter.unusedVariables false
set_option linter.unusedSimpArgs false
section
set_option maxRecDepth 100000
theorem QT {R P D Q X:Nat} (h1:D=Q+X) (h2:Q<=R) (h3:R<P) (h4:R<D) (h5:X<=P):R+P-D+X=R-Q+P:=by omega
theorem ZB (a b p q c1 c2:Nat) (ha:nw a<=1099511627776) (hb2:2<=nw b) (hba:nw b<=nw a) (w:World) (hp:w.heap[p]?=some (.cells (Aq (Ay a)).toArray 92 (0,0))) (hq:w.heap[q]?=some (.cells (Aq (Ay b)).toArray 92 (0,0))):Calls prog 243 #[(qz (jk p) (nw a) c1),(qz (jk q) (nw b) c2)] w (λe w'=>∃b1 b2,e=.returned (.tuple #[.slice (jk b1) (nw a+1-nw b) (nw a+1-nw b),.slice (jk b2) (nw a+1) (nw a+1)])/\Hu w.heap.size w w'/\w.heap.size<=b1/\w.heap.size<=b2/\b1≠b2/\w'.heap[b1]?=some (.cells (Aq (CI (nw a+1-nw b) (a/b))).toArray 92 (0,0))/\w'.heap[b2]?=some (.cells (Aq (CI (nw a+1) (a%b))).toArray 92 (0,0))):=by
 have hla:=CK a
 have hlb:=CK b
 have hb0:0<b:=Nat.pos_of_ne_zero (λh=>by rw [h,Il] at hb2;omega)
 obtain ⟨s,hs⟩:∃s,s=32-bl ((AP b).getD (nw b-1) 0):=⟨_,rfl⟩
 obtain ⟨hs32,hlow,hhigh⟩:=bt Z hs
 obtain ⟨m,hm⟩:∃m,m=nw a+1-nw b:=⟨_,rfl⟩
 obtain ⟨V,hV⟩:∃V,V=b*2^s:=⟨_,rfl⟩
 obtain ⟨vb,hvb⟩:∃vb,vb=CI (nw b+1) (b*2^s):=⟨_,rfl⟩
 have hbig:b*2^s<4294967296^(nw b+1):=Nat.lt_of_lt_of_le hhigh (Nat.pow_le_pow_right Z Z)
 have hN:QL vb (nw b) V:=⟨by rw [hvb];exact De _ _,by rw [hvb];exact Bh _ _,hb2,by rw [hvb,hV];exact Fi _ _ hbig,by rw [hV];exact hlow,by rw [hV];exact hhigh⟩
 have hst:=Q4 rfl Z hs32 hlow hm hba
 have hA:val (CI (nw a+1) (a*2^s))=a*2^s:=Fi _ _ (by rw [Nat.pow_succ];exact Nat.mul_lt_mul_of_lt_of_le (Bp a) (xx (Nat.pow_le_pow_right Z (show s<=32 by omega)) jY) Z)
 have hvlen:=hN.len
 have htop:=hN.top
 have htw:=(P1 (b:=b) Z).2.2
 refine AS (args:=[(qz (jk p) (nw a) c1),(qz (jk q) (nw b) c2)]) func243 O O (leB O) (zM (sL [0,1] O) (q4 (asg' O (asg' O (oNl' (q2 (AJ O (AJ O (st' (v:=(vN (nw b))) (AD O underlying255) O (st' (Bc (c:=(((nw b)-1:Nat):Int)) O O (B8 (a:=nw b) (b:=1) Z Z)) O (st' (v:=(pP q ((nw b)-1))) (AL (j:=(nw b)-1) O O underlying255 sizeOf92 O Z jX) O ?_)))))))))))
 have hx1:(Ay b).getD ((nw b)-1) 0<4294967296:=W32.getD (CO b) ((nw b)-1)
 refine st' (Be (v:=(vK .u32 ((Ay b).getD ((nw b)-1) 0))) O (λw' hw=>CA.at0 (hw.oldCA jX (FT hq)) (BJ (xs:=Ay b) (j:=((nw b)-1)) Z)) isAgg92) O (zK (k:=22) (u:=(vK .u32 ((AP b).getD (nw b-1) 0))) O (by rw [Db Z]) (ck' call272 (ZD ((AP b).getD (nw b-1) 0) Z) O (zK (k:=23) (u:=(vN s)) O (by rw [hs]) (asg' O (q6 (sL [0,1,4,5,6] O) (CE [(0,true),(1,true),(3,true),(4,true),(6,true),(7,true),(2,false),(5,false),(8,true),(9,true),(10,true)] sr (Bl O (Bl O (Bl O (Bl O (Bl O ?_)))))))))))
 refine Ag (v:=(vN (nw b))) O (AD O underlying255) (zL O (yH (V:=λb1=>(qz (jk b1) (nw a+1) (nw a+1))) (T:=92) (cs:=Aq (CI (nw a+1) (a*2^s))) (AM O) (Ak (args:=[(qz (jk p) (nw a) c1),(vN s)]) O O call273) (λw hw=>(by have h:=Lm p (nw a) c1 s (Ay a) (CO a) hla Z hs32 w (hw.old jX hp);rw [I0] at h;exact h)) O (leB O) λb1=>zG (sl sr) (zL O (yH (V:=λb2=>(qz (jk b2) (nw b+1) (nw b+1))) (T:=92) (cs:=Aq vb) (AM O) (Ak (args:=[(qz (jk q) (nw b) c2),(vN s)]) O O call273) (λw hw=>(by have h:=Lm q (nw b) c2 s (Ay b) (CO b) hlb Z hs32 w (hw.old jX hq);rw [I0,<-hvb] at h;exact h)) O (leB O) λb2=>zG (sl (sl sr)) (Ag (v:=(qz (jk b2) (nw b) (nw b+1))) O (G5 (m:=nw b) O O underlying255 sizeOf92 Z) (pS' O (pS' O (zT (zF (sL [1,4,5,6,7,8] O) ?_)))))))))
 refine q2 (AJ O (st' (v:=(vN (nw b))) (AD O underlying255) O (asg' O (q3 (sL [1,4,5,6,7,8,9] O) (AJ O (st' (v:=(vN (nw a+1))) (AD O underlying255) O (AJ O (st' (Bc (c:=(((nw a+1)-(nw b):Nat):Int)) O O (B8 (a:=nw a+1) (b:=nw b) Z Z)) O (zK (k:=38) (u:=(vN m)) O (by rw [hm]) (zn (V:=λb3=>(qz (jk b3) m m)) (T:=92) (cs:=Aq (List.replicate m 0)) (AM O) (Da (m:=m) (c:=m) O O Z Z) O (leB O) λb3=>asg' O ?_))))))))))
 refine q6 (sL [1,4,5,6,7,8,9] O) (q4 (AJ O (st' (v:=(vN m)) (AD O underlying255) O (st' (Bc (c:=(((m:Nat):Int)-1)) O O (BZ Z Z)) O (asg' O (oNl' (zF (sL [1,4,5,6,7,8,9,10] O) (zC (zN ?_)))))))))
 refine yW (tg λ(k0:Nat) (us:List Nat) (qs:List Nat)=>k0<=m/\us.length=nw a+1/\W32 us/\qs.length=m/\W32 qs/\(∀j,j<k0->qs.getD j 0=0)/\val us<V*4294967296^k0/\a*2^s=val qs*V+val us) (tg λ(k0:Nat) (us:List Nat) (qs:List Nat)=>[(4,(qz (jk b3) m m)),(5,jj),(6,(vN s)),(7,(qz (jk b1) (nw a+1) (nw a+1))),(8,(qz (jk b2) (nw b) (nw b+1))),(9,(vN (nw b))),(10,(vI (((k0:Nat):Int)-1)))]) (tg λ(k0:Nat) (us:List Nat) (qs:List Nat)=>[AU b3 92 (Aq qs),AU b2 92 (Aq vb),AU b1 92 (Aq us)]) (tg λ(k0:Nat) (us:List Nat) (qs:List Nat)=>k0) m (CI (nw a+1) (a*2^s)) (List.replicate m 0) (⟨Nat.le_refl _,Bh _ _,De _ _,by simp,W32.zeros _,λj _=>by simp [List.getD_eq_getElem?_getD,List.getElem?_replicate];split<;>rfl,by rw [hA,hV];exact hst,by rw [hA,Ej];simp⟩) (sF O) sr (λk0 us qs hJ=>?_)
 obtain ⟨hk0,hul,huw,hql,hqw,hqz,hlt,hAeq⟩:=hJ
 refine zf (q4 (AJ O (st' (CU (c:=(decide ((0:Int)<=(((k0:Nat):Int)-1)))) O O O) O (oNl' (zF (sL [4,5,6,7,8,9,10,44] O) (zC ?_))))))
 refine zO O (λhc0=>?_) (λhc0=>?_)
 ·replace hc0:=xR hc0
  obtain ⟨k,rfl⟩:∃k,k0=k+1:=⟨k0-1,Z⟩
  obtain ⟨top,htp⟩:∃t,t=us.getD (k+nw b) 0*4294967296+us.getD (k+nw b-1) 0:=⟨_,rfl⟩
  obtain ⟨W,hWd⟩:∃x,x=val us/4294967296^k:=⟨_,rfl⟩
  have hWin:=ct hN huw hlt
  rw [<-htp,<-hWd] at hWin
  have hu2:=huw.getD (k+nw b-2)
  have hG0:=PB hN hWin hu2
  have htb:=hWin.topb
  have hq32:=hWin.quo_lt hN.pos
  refine yT (k:=10) (u:=(vN k)) O (by congr 1;omega) (zJ (q1 (zN (OkC.scope (zf (CE (Dm 18) sr (Bl O (Bl O (Bl O (Ag O (AV (c:=((k+(nw b):Nat):Int)) O O (AY (a:=k) (b:=nw b) Z)) (Ag (v:=(pP b1 (k+(nw b)))) O (AL (j:=k+(nw b)) O O underlying255 sizeOf92 O Z jX) ?_)))))))))))
  have hx2:us.getD (k+(nw b)) 0<4294967296:=W32.getD huw (k+(nw b))
  refine Ag O (AE (i:=2) (v:=(vK .u32 (us.getD (k+(nw b)) 0))) O O isAgg92 (BJ (xs:=us) (j:=(k+(nw b))) Z)) (Ag O (A6 (c:=((us.getD (k+(nw b)) 0:Nat):Int)) O underlying92 underlying69 (BT Z)) (Ag (v:=(vK .u64 (us.getD (k+nw b) 0*4294967296))) O (G4 (s:=32) O O O jY (HO (s:=32) Z)) (Bl O (Bl O (Bl O (Ag O (AV (c:=((k+(nw b):Nat):Int)) O O (AY (a:=k) (b:=nw b) Z)) (Ag O (Bc (c:=(((k+(nw b))-1:Nat):Int)) O O (B8 (a:=k+(nw b)) (b:=1) Z Z)) (Ag (v:=(pP b1 ((k+(nw b))-1))) O (AL (j:=(k+(nw b))-1) O O underlying255 sizeOf92 O Z jX) ?_))))))))
  have hx3:us.getD ((k+(nw b))-1) 0<4294967296:=W32.getD huw ((k+(nw b))-1)
  refine Ag O (AE (i:=2) (v:=(vK .u32 (us.getD ((k+(nw b))-1) 0))) O O isAgg92 (BJ (xs:=us) (j:=((k+(nw b))-1)) Z)) (Ag O (A6 (c:=((us.getD ((k+(nw b))-1) 0:Nat):Int)) O underlying92 underlying69 (BT Z)) (Ag O (Jk (c:=((top:Nat):Int)) O O (KX Z Z (((Nat.or_comm _ _).trans ((IF (s:=32) Z).trans (Nat.add_comm _ _))).trans htp.symm))) (pS' O (zT (zF (sL [4,5,6,7,8,9,10,11] O) (q1 (CE (Dm 18) sr (Bl O (Bl O (Bl O (Ag O (Bc (c:=(((nw b)-1:Nat):Int)) O O (B8 (a:=nw b) (b:=1) Z Z)) ?_)))))))))))
  refine Ag (v:=(pP b2 ((nw b)-1))) O (AL (j:=(nw b)-1) O O underlying255 sizeOf92 O Z jX) ?_
  have hx4:vb.getD ((nw b)-1) 0<4294967296:=W32.getD hN.w32 ((nw b)-1)
  refine Ag O (AE (i:=1) (v:=(vK .u32 (vb.getD ((nw b)-1) 0))) O O isAgg92 (BJ (xs:=vb) (j:=((nw b)-1)) Z)) (Ag O (A6 (c:=((vb.getD ((nw b)-1) 0:Nat):Int)) O underlying92 underlying69 (BT Z)) (Ag O (FV (c:=((top/(vb.getD ((nw b)-1) 0):Nat):Int)) O O Z (Is (a:=top) (b:=vb.getD ((nw b)-1) 0) Z)) (Bl O (Bl O (Bl O (Ag O (Bc (c:=(((nw b)-1:Nat):Int)) O O (B8 (a:=nw b) (b:=1) Z Z)) (Ag (v:=(pP b2 ((nw b)-1))) O (AL (j:=(nw b)-1) O O underlying255 sizeOf92 O Z jX) ?_)))))))
  have hx5:vb.getD ((nw b)-1) 0<4294967296:=W32.getD hN.w32 ((nw b)-1)
  refine Ag O (AE (i:=1) (v:=(vK .u32 (vb.getD ((nw b)-1) 0))) O O isAgg92 (BJ (xs:=vb) (j:=((nw b)-1)) Z)) (Ag O (A6 (c:=((vb.getD ((nw b)-1) 0:Nat):Int)) O underlying92 underlying69 (BT Z)) (Ag O (Dn (c:=((top%(vb.getD ((nw b)-1) 0):Nat):Int)) O O Z (RL (a:=top) (b:=vb.getD ((nw b)-1) 0))) (pS' O (pS' O (zT (zF (sL [4,5,6,7,8,9,10,12,13] O) (q1 (OkC.label (q1 ?_)))))))))
  refine yQ (tg λ(d:Nat)=>d<=4294967295/\(d=W/V\/d=W/V+1)) (tg λ(d:Nat)=>[(4,(qz (jk b3) m m)),(5,jj),(6,(vN s)),(7,(qz (jk b1) (nw a+1) (nw a+1))),(8,(qz (jk b2) (nw b) (nw b+1))),(9,(vN (nw b))),(10,(vN k)),(12,(vK .u64 d))]) (tg λ(d:Nat)=>[AU b3 92 (Aq qs),AU b2 92 (Aq vb),AU b1 92 (Aq us)]) ?_ ?_
  ·refine zN ?_
   refine yM (tg λ(d:Nat) (r:Nat)=>IT V W (vb.getD (nw b-1) 0) top d r/\r<8589934592/\d<8589934593) (tg λ(d:Nat) (r:Nat)=>[(4,(qz (jk b3) m m)),(5,jj),(6,(vN s)),(7,(qz (jk b1) (nw a+1) (nw a+1))),(8,(qz (jk b2) (nw b) (nw b+1))),(9,(vN (nw b))),(10,(vN k)),(12,(vK .u64 d)),(13,(vK .u64 r))]) (tg λ(d:Nat) (r:Nat)=>[AU b3 92 (Aq qs),AU b2 92 (Aq vb),AU b1 92 (Aq us)]) (tg λ(d:Nat) (r:Nat)=>d) (top/vb.getD (nw b-1) 0) (top%vb.getD (nw b-1) 0) (⟨hG0,by have:=Nat.mod_lt top (show vb.getD (nw b-1) 0>0 by omega);omega,Nat.div_lt_of_lt_mul Z⟩) (sF O) sr (λd r hJ=>?_)
   obtain ⟨hG,hr2,hd2⟩:=hJ
   refine zf (q4 (AJ O (st' (Ee (c:=(decide (r<=4294967295))) O O (Qz (a:=r) (b:=4294967295))) O (oNl' (zF (sL [4,5,6,7,8,9,10,12,13,81] O) (zC ?_))))))
   refine zO O (λhc1=>?_) (λhc1=>?_)
   ·replace hc1:=xR hc1
    refine zJ (zC (zN (zf (zf ?_))))
    by_cases hsp:d<=4294967295
    ·have hv2:=hN.w32.getD (nw b-2)
     have hml:=LX (a:=d) (b:=vb.getD (nw b-2) 0) Z hv2
     refine CE (Dm 24) sr (Bl O (Ag O (Ee (c:=true) O O (Qz.trans (xr hsp))) (Bl O (zW (v:=(vK .u64 d)) O (AN O) (Bv O) O O (zW (v:=(qz (jk b2) (nw b) (nw b+1))) O (AN O) (Bv O) O O (zW (v:=(vN (nw b))) O (AN O) (Bv O) O O (zW (v:=(vN ((nw b)-2))) O (AN O) (Bc (c:=(((nw b)-2:Nat):Int)) O O (B8 (a:=nw b) (b:=2) Z Z)) O O (zW (v:=(pP b2 ((nw b)-2))) O (AN O) (AL (j:=(nw b)-2) O O underlying255 sizeOf92 O Z jX) O O ?_))))))))
     have hx6:vb.getD ((nw b)-2) 0<4294967296:=W32.getD hN.w32 ((nw b)-2)
     refine zW (v:=(vK .u32 (vb.getD ((nw b)-2) 0))) O (AN O) (AE (i:=1) (v:=(vK .u32 (vb.getD ((nw b)-2) 0))) O O isAgg92 (BJ (xs:=vb) (j:=((nw b)-2)) Z)) O O (zW (v:=(vK .u64 (vb.getD ((nw b)-2) 0))) O (AN O) (A6 (c:=((vb.getD ((nw b)-2) 0:Nat):Int)) O underlying92 underlying69 (BT Z)) O O (zW (v:=(vK .u64 (d*(vb.getD ((nw b)-2) 0)))) O (AN O) (D7 (c:=((d*(vb.getD ((nw b)-2) 0):Nat):Int)) O O (Fe (a:=d) (b:=vb.getD ((nw b)-2) 0) Z)) O O (zW (v:=(vK .u64 r)) O (AN O) (Bv O) O O (zW (v:=(vK .u64 (r*4294967296))) O (AN O) (G4 (s:=32) O O O jY (HO (s:=32) Z)) O O (zW (v:=(qz (jk b1) (nw a+1) (nw a+1))) O (AN O) (Bv O) O O (zW (v:=(vN k)) O (AN O) (Bv O) O O (zW (v:=(vN (nw b))) O (AN O) (Bv O) O O (zW (v:=(vN (k+(nw b)))) O (AN O) (AV (c:=((k+(nw b):Nat):Int)) O O (AY (a:=k) (b:=nw b) Z)) O O (zW (v:=(vN ((k+(nw b))-2))) O (AN O) (Bc (c:=(((k+(nw b))-2:Nat):Int)) O O (B8 (a:=k+(nw b)) (b:=2) Z Z)) O O (zW (v:=(pP b1 ((k+(nw b))-2))) O (AN O) (AL (j:=(k+(nw b))-2) O O underlying255 sizeOf92 O Z jX) O O ?_))))))))))
     have hx7:us.getD ((k+(nw b))-2) 0<4294967296:=W32.getD huw ((k+(nw b))-2)
     refine zW (v:=(vK .u32 (us.getD ((k+(nw b))-2) 0))) O (AN O) (AE (i:=2) (v:=(vK .u32 (us.getD ((k+(nw b))-2) 0))) O O isAgg92 (BJ (xs:=us) (j:=((k+(nw b))-2)) Z)) O O (zW (v:=(vK .u64 (us.getD ((k+(nw b))-2) 0))) O (AN O) (A6 (c:=((us.getD ((k+(nw b))-2) 0:Nat):Int)) O underlying92 underlying69 (BT Z)) O O (zW (v:=(vK .u64 (r*4294967296+us.getD (k+nw b-2) 0))) O (AN O) (Jk (c:=((r*4294967296+us.getD (k+nw b-2) 0:Nat):Int)) O O (KX Z Z (((Nat.or_comm _ _).trans ((IF (s:=32) Z).trans (Nat.add_comm _ _)))))) O O (zW (v:=(qa (decide ((d*(vb.getD ((nw b)-2) 0))<=(r*4294967296+us.getD (k+nw b-2) 0))))) O (AN O) (Ee (c:=(decide ((d*(vb.getD ((nw b)-2) 0))<=(r*4294967296+us.getD (k+nw b-2) 0)))) O O (Qz (a:=d*(vb.getD ((nw b)-2) 0)) (b:=r*4294967296+us.getD (k+nw b-2) 0))) O O (Ag (v:=(qa (decide ((d*(vb.getD ((nw b)-2) 0))<=(r*4294967296+us.getD (k+nw b-2) 0))))) O (ex_pick_true O O) (zT (zF (sL [4,5,6,7,8,9,10,12,13,105] O) (zC ?_)))))))
     refine zO O (λhc2=>?_) (λhc2=>?_)
     ·replace hc2:=xR hc2
      have hg:=LQ hN hWin hG (.inr ⟨hsp,hc2⟩)
      exact zY (zR (OkQ.in_exit_ne O (zp (zV (zo d (hg) (sF O) sr)))))
     ·replace hc2:=xQ hc2
      obtain ⟨hng1,hng2⟩:=LY hN hWin hG (λh=>hc2 h.2)
      refine zJ (q2 (AJ O (st' (Bc (c:=((d-1:Nat):Int)) O O (Iz (a:=d) (b:=1) Z Z)) O (asg' O (oNl' (zF (sL [4,5,6,7,8,9,10,12,13] O) (zC (zQ (AJ O (AJ O (AJ O ?_)))))))))))
      refine st' (Bc (c:=(((nw b)-1:Nat):Int)) O O (B8 (a:=nw b) (b:=1) Z Z)) O (st' (v:=(pP b2 ((nw b)-1))) (AL (j:=(nw b)-1) O O underlying255 sizeOf92 O Z jX) O ?_)
      have hx8:vb.getD ((nw b)-1) 0<4294967296:=W32.getD hN.w32 ((nw b)-1)
      exact st' (AE (i:=1) (v:=(vK .u32 (vb.getD ((nw b)-1) 0))) O O isAgg92 (BJ (xs:=vb) (j:=((nw b)-1)) Z)) O (st' (A6 (c:=((vb.getD ((nw b)-1) 0:Nat):Int)) O underlying92 underlying69 (BT Z)) O (st' (AV (c:=((r+(vb.getD ((nw b)-1) 0):Nat):Int)) O O (Dq (a:=r) (b:=vb.getD ((nw b)-1) 0) Z)) O (asg' O (oNl' (zF (sL [4,5,6,7,8,9,10,12,13] O) (zP (z6 (d-1) (r+vb.getD (nw b-1) 0) (⟨hng1,Z,Z⟩) Z (sF O) sr)))))))
    ·obtain ⟨hng1,hng2⟩:=LY hN hWin hG (λh=>hsp h.1)
     refine CE (Dm 24) sr (Bl O (Ag O (Ee (c:=false) O O (Qz.trans (xq hsp))) (Bl O (ze O (Ap O) O O (ze O (Ap O) O O (ze O (Ap O) O O (ze O (Ap O) O O (ze O (Ap O) O O (ze O (Ap O) O O (ze O (Ap O) O O (ze O (Ap O) O O ?_)))))))))))
     refine ze O (Ap O) O O (ze O (Ap O) O O (ze O (Ap O) O O (ze O (Ap O) O O (ze O (Ap O) O O (ze O (Ap O) O O (ze O (Ap O) O O (ze O (Ap O) O O (ze O (Ap O) O O (ze O (Ap O) O O (ze O (Ap O) O O (ze O (Ap O) O O ?_)))))))))))
     refine Ag (v:=(qa false)) O (AI O O) (zT (zF (sL [4,5,6,7,8,9,10,12,13,105] O) (zC (zX O (zJ (q2 (AJ O (st' (Bc (c:=((d-1:Nat):Int)) O O (Iz (a:=d) (b:=1) Z Z)) O (asg' O (oNl' (zF (sL [4,5,6,7,8,9,10,12,13] O) ?_)))))))))))
     refine zC (zQ (AJ O (AJ O (AJ O (st' (Bc (c:=(((nw b)-1:Nat):Int)) O O (B8 (a:=nw b) (b:=1) Z Z)) O (st' (v:=(pP b2 ((nw b)-1))) (AL (j:=(nw b)-1) O O underlying255 sizeOf92 O Z jX) O ?_))))))
     have hx9:vb.getD ((nw b)-1) 0<4294967296:=W32.getD hN.w32 ((nw b)-1)
     exact st' (AE (i:=1) (v:=(vK .u32 (vb.getD ((nw b)-1) 0))) O O isAgg92 (BJ (xs:=vb) (j:=((nw b)-1)) Z)) O (st' (A6 (c:=((vb.getD ((nw b)-1) 0:Nat):Int)) O underlying92 underlying69 (BT Z)) O (st' (AV (c:=((r+(vb.getD ((nw b)-1) 0):Nat):Int)) O O (Dq (a:=r) (b:=vb.getD ((nw b)-1) 0) Z)) O (asg' O (oNl' (zF (sL [4,5,6,7,8,9,10,12,13] O) (zP (z6 (d-1) (r+vb.getD (nw b-1) 0) (⟨hng1,Z,Z⟩) Z (sF O) sr)))))))
   ·replace hc1:=xQ hc1
    have hg:=LQ hN hWin hG (.inl Z)
    exact zY (zR (zp (zV (zo d (hg) (sF O) sr))))
  ·intro d hJ
   obtain ⟨hdb,hdq⟩:=hJ
   refine q1 (q4 (AJ O (AJ O (AJ O (AJ O (st' (AV (c:=((k+(nw b):Nat):Int)) O O (AY (a:=k) (b:=nw b) Z)) O (st' (AV (c:=(((k+(nw b))+1:Nat):Int)) O O (AY (a:=k+(nw b)) (b:=1) Z)) O (st' (v:=(qz (some ⟨b1,k,none⟩) (((k+(nw b))+1)-k) ((nw a+1)-k))) (Ns (i:=k) (m:=(k+(nw b))+1) O O O underlying255 sizeOf92 Z Z Z jX) O (zK (k:=122) (u:=(qz (some ⟨b1,k,none⟩) (nw b+1) ((nw a+1)-k))) O (by rw [show k+nw b+1-k=nw b+1 by omega]) (AJ O (AJ O ?_)))))))))))
   refine yo (v:=(qa (decide (val us<d*val (vb.take (nw b))*4294967296^k)))) (i:=2) (cs':=Aq (CI (nw a+1) (val us+(if val us<d*val (vb.take (nw b))*4294967296^k then 4294967296^(k+nw b+1) else 0)-d*val (vb.take (nw b))*4294967296^k))) (L':=[AU b3 92 (Aq qs),AU b2 92 (Aq vb),AU b1 92 (Aq (CI (nw a+1) (val us+(if val us<d*val (vb.take (nw b))*4294967296^k then 4294967296^(k+nw b+1) else 0)-d*val (vb.take (nw b))*4294967296^k)))]) (AM O) (Ak (args:=[(qz (some ⟨b1,k,none⟩) (nw b+1) ((nw a+1)-k)),(qz (jk b2) (nw b) (nw b+1)),(vK .u64 d)]) O O call274) O (λw hw=>Y8 _ _ k (nw b) (nw a+1) _ _ d us vb huw hul hN.w32 Z Z Z Z hWin.fits ((hw.apart (i:=1) (j:=2) jY O O)) w (hw.get (i:=2) O) (hw.get (i:=1) O)) (λd hd=>by cases hd<;>exact (leB O)) O (oNl' (zF (sL [4,5,6,7,8,9,10,12,125] O) (zC ?_)))
   refine yQ (tg λ(us2:List Nat)=>us2.length=nw a+1/\W32 us2/\val us2=val us-W/V*V*4294967296^k) (tg λ(us2:List Nat)=>[(4,(qz (jk b3) m m)),(5,jj),(6,(vN s)),(7,(qz (jk b1) (nw a+1) (nw a+1))),(8,(qz (jk b2) (nw b) (nw b+1))),(9,(vN (nw b))),(10,(vN k)),(12,(vK .u64 (W/V)))]) (tg λ(us2:List Nat)=>[AU b3 92 (Aq qs),AU b2 92 (Aq vb),AU b1 92 (Aq us2)]) ?_ ?_
   ·refine zO O (λhc3=>?_) (λhc3=>?_)
    ·replace hc3:=xR hc3
     have hP:4294967296^(k+nw b+1)<=4294967296^(nw a+1):=Nat.pow_le_pow_right Z Z
     rw [hN.take] at hc3
     obtain ⟨hde,hdS⟩:=Q1 (vb:=vb) hWin hdq hc3
     have hXP:V*4294967296^k<=4294967296^(k+nw b+1):=xx (Nat.mul_le_mul_right _ (Nat.le_of_lt hN.high)) (by rw [<-Nat.pow_add];exact Nat.pow_le_pow_right Z Z)
     have hqle:=RE (vb:=vb) hWin
     have hfit:=hWin.fits
     have hd1:1<=d:=by rw [hde];exact Nat.le_add_left _ _
     have hU1:val (CI (nw a+1) (val us+(if val us<d*val (vb.take (nw b))*4294967296^k then 4294967296^(k+nw b+1) else 0)-d*val (vb.take (nw b))*4294967296^k))=val us+4294967296^(k+nw b+1)-d*V*4294967296^k:=by rw [hN.take,if_pos hc3,Fi _ _ Z]
     have hU1lt:val (CI (nw a+1) (val us+(if val us<d*val (vb.take (nw b))*4294967296^k then 4294967296^(k+nw b+1) else 0)-d*val (vb.take (nw b))*4294967296^k))<4294967296^(k+nw b+1):=by rw [hU1];omega
     refine q4 (AJ O (st' (Bc (c:=((d-1:Nat):Int)) O O (Iz (a:=d) (b:=1) Z Z)) O (asg' O (q3 (sL [4,5,6,7,8,9,10,12] O) (asg' O (oNl' (q1 (q4 (AJ O (st' (v:=(vN (nw b))) (AD O underlying255) O (AJ O ?_)))))))))))
     refine oNl' (zC (zN ?_))
     refine yW (tg λ(i:Nat) (os:List Nat) (c:Nat)=>i<=nw b/\os.length=nw a+1/\W32 os/\c<=1/\(∀j,k+nw b+1<=j->os.getD j 0=0)/\val os+c*4294967296^(k+i)=(val us+4294967296^(k+nw b+1)-d*V*4294967296^k)+val (vb.take i)*4294967296^k) (tg λ(i:Nat) (os:List Nat) (c:Nat)=>[(4,(qz (jk b3) m m)),(5,jj),(6,(vN s)),(7,(qz (jk b1) (nw a+1) (nw a+1))),(8,(qz (jk b2) (nw b) (nw b+1))),(9,(vN (nw b))),(10,(vN k)),(12,(vK .u64 (d-1))),(128,(qz (jk b2) (nw b) (nw b+1))),(129,(vN (nw b))),(130,(vN i)),(14,(vK .u32 c))]) (tg λ(i:Nat) (os:List Nat) (c:Nat)=>[AU b3 92 (Aq qs),AU b2 92 (Aq vb),AU b1 92 (Aq os)]) (tg λ(i:Nat) (os:List Nat) (c:Nat)=>nw b-i) 0 (CI (nw a+1) (val us+(if val us<d*val (vb.take (nw b))*4294967296^k then 4294967296^(k+nw b+1) else 0)-d*val (vb.take (nw b))*4294967296^k)) 0 (⟨xu _,Bh _ _,De _ _,Z,Jv hU1lt,by rw [hU1];simp [val]⟩) (sF O) sr (λi os c hJ=>?_)
     obtain ⟨hi,hl,hw32,hcc,hz,hv⟩:=hJ
     refine q4 (st' (AW (c:=(decide (i<(nw b)))) O O (B_ (a:=i) (b:=nw b))) O (oNl' (q1 ?_)))
     refine zO O (λhc4=>?_) (λhc4=>?_)
     ·replace hc4:=xR hc4
      refine zJ (q1 (zN (q4 (AJ O (st' (v:=(pP b2 i)) (AL (j:=i) O O underlying255 sizeOf92 O Z jX) O ?_)))))
      have hx10:vb.getD i 0<4294967296:=W32.getD hN.w32 i
      refine st' (AE (i:=1) (v:=(vK .u32 (vb.getD i 0))) O O isAgg92 (BJ (xs:=vb) (j:=i) Z)) O (asg' O (asg' O (oNl' (zF (sL [4,5,6,7,8,9,10,12,128,129,130,14,15,16] O) (zC (zQ (AJ O (AJ O (AJ O (st' (AV (c:=((k+i:Nat):Int)) O O (AY (a:=k) (b:=i) Z)) O (AJ O ?_)))))))))))
      refine AJ O (AJ O (st' (AV (c:=((k+i:Nat):Int)) O O (AY (a:=k) (b:=i) Z)) O (st' (v:=(pP b1 (k+i))) (AL (j:=k+i) O O underlying255 sizeOf92 O Z jX) O ?_)))
      have hx11:os.getD (k+i) 0<4294967296:=W32.getD hw32 (k+i)
      refine st' (AE (i:=2) (v:=(vK .u32 (os.getD (k+i) 0))) O O isAgg92 (BJ (xs:=os) (j:=(k+i)) Z)) O (AJ O (AJ O (ck' call240 (Ki (os.getD (k+i) 0) (vb.getD i 0) c Z Z Z) O (AJ O (st' (AK (v:=(vK .u32 (((os.getD (k+i) 0)+(vb.getD i 0)+c)%4294967296))) O O) O (st' (AK (v:=(vK .u32 (((os.getD (k+i) 0)+(vb.getD i 0)+c)/4294967296))) O O) O (st' (v:=(pP b1 (k+i))) (AL (j:=k+i) O O underlying255 sizeOf92 O Z jX) O (z8 (i:=2) (off:=(k+i)) (vs:=[(vK .u32 (((os.getD (k+i) 0)+(vb.getD i 0)+c)%4294967296))]) (cs':=Aq (os.set (k+i) (((os.getD (k+i) 0)+(vb.getD i 0)+c)%4294967296))) (L':=[AU b3 92 (Aq qs),AU b2 92 (Aq vb),AU b1 92 (Aq (os.set (k+i) (((os.getD (k+i) 0)+(vb.getD i 0)+c)%4294967296)))]) (AM O) O O O O O sizeOf92 O (C2 (BW _) Z) (CR Z) O (asg' O (oNl' (zF (sL [4,5,6,7,8,9,10,12,128,129,130,14] O) ?_)))))))))))
      exact zP (zC (zQ (st' (AV (c:=((i+1:Nat):Int)) O O (AY (a:=i) (b:=1) Z)) O (AJ O (oNl' (zF (sL [4,5,6,7,8,9,10,12,128,129,130,14] O) (yN (i+1) (os.set (k+i) ((os.getD (k+i) 0+vb.getD i 0+c)%4294967296)) ((os.getD (k+i) 0+vb.getD i 0+c)/4294967296) (⟨Z,by rw [List.length_set];exact hl,W32.set hw32 Z _,Z,GR hz Z,TG hl Z hv⟩) Z (sF O) sr)))))))
     ·replace hc4:=xQ hc4
      have hib:i=nw b:=by omega
      have hv3:=hv
      rw [hib,hN.take] at hv3
      have hbk:=TF (T:=val us-W/V*V*4294967296^k) (P:=4294967296^(k+nw b+1)) hl Z hw32 hcc hz rfl (hv3.trans (QT hdS hqle hfit hc3 hXP)) (Nat.lt_of_le_of_lt (Nat.sub_le _ _) hfit)
      refine zY (zR (yF (zV (zC (zQ (AJ O (AJ O (AJ O (st' (AV (c:=((k+(nw b):Nat):Int)) O O (AY (a:=k) (b:=nw b) Z)) O (st' (v:=(pP b1 (k+(nw b)))) (AL (j:=k+(nw b)) O O underlying255 sizeOf92 O Z jX) O ?_))))))))))
      have hx12:os.getD (k+(nw b)) 0<4294967296:=W32.getD hw32 (k+(nw b))
      exact st' (AE (i:=2) (v:=(vK .u32 (os.getD (k+(nw b)) 0))) O O isAgg92 (BJ (xs:=os) (j:=(k+(nw b))) Z)) O (AJ O (st' (AV (c:=(((os.getD (k+nw b) 0+c)%4294967296:Nat):Int)) O O VG) O (st' (v:=(pP b1 (k+(nw b)))) (AL (j:=k+(nw b)) O O underlying255 sizeOf92 O Z jX) O (z8 (i:=2) (off:=(k+(nw b))) (vs:=[(vK .u32 ((os.getD (k+nw b) 0+c)%4294967296))]) (cs':=Aq (os.set (k+(nw b)) ((os.getD (k+nw b) 0+c)%4294967296))) (L':=[AU b3 92 (Aq qs),AU b2 92 (Aq vb),AU b1 92 (Aq (os.set (k+(nw b)) ((os.getD (k+nw b) 0+c)%4294967296)))]) (AM O) O O O O O sizeOf92 O (C2 (BW _) Z) (CR Z) O (oNl' (zF (sL [4,5,6,7,8,9,10,12,128,129,130,14] O) (yj (k:=12) (u:=Value.int .u64 ((W/V:Nat):Int)) O (by rw [hde,Nat.add_sub_cancel]) (zo (os.set (k+(nw b)) ((os.getD (k+nw b) 0+c)%4294967296)) (⟨by rw [List.length_set];exact hl,W32.set hw32 Z _,hbk⟩) (sF O) sr))))))))
    ·replace hc3:=xQ hc3
     have hP:4294967296^(k+nw b+1)<=4294967296^(nw a+1):=Nat.pow_le_pow_right Z Z
     rw [hN.take] at hc3
     obtain ⟨hde,hdS⟩:=Q0 hN hWin hdq hc3
     have hfit:=hWin.fits
     have hU1:val (CI (nw a+1) (val us+(if val us<d*val (vb.take (nw b))*4294967296^k then 4294967296^(k+nw b+1) else 0)-d*val (vb.take (nw b))*4294967296^k))=val us-W/V*V*4294967296^k:=by rw [hN.take,if_neg hc3,Fi _ _ Z];exact hdS
     exact zJ (yj (k:=12) (u:=Value.int .u64 ((W/V:Nat):Int)) O (by rw [hde]) (zo (CI (nw a+1) (val us+(if val us<d*val (vb.take (nw b))*4294967296^k then 4294967296^(k+nw b+1) else 0)-d*val (vb.take (nw b))*4294967296^k)) (⟨Bh _ _,De _ _,hU1⟩) (sF O) sr))
   ·intro us2 hJ
    obtain ⟨hu2l,hu2w,hu2v⟩:=hJ
    refine zC (zQ (AJ O (AJ O (AJ O (st' (A6 (c:=((W/V:Nat):Int)) O underlying69 underlying92 (C4 (by exact hq32))) O (st' (v:=(pP b3 k)) (AL (j:=k) O O underlying255 sizeOf92 O Z jX) O (z8 (i:=0) (off:=k) (vs:=[(vK .u32 (W/V))]) (cs':=Aq (qs.set k (W/V))) (L':=[AU b3 92 (Aq (qs.set k (W/V))),AU b2 92 (Aq vb),AU b1 92 (Aq us2)]) (AM O) O O O O O sizeOf92 O (C2 (BW _) Z) (CR Z) O (oNl' (zF (sL [4,5,6,7,8,9,10,12] O) (OkQ.scope_normal (zP ?_)))))))))))
    refine zC (zQ (AJ O (st' (Bc (c:=(((k:Nat):Int)-1)) O O (BZ Z Z)) O (asg' O (oNl' (zF (sL [4,5,6,7,8,9,10,12] O) ?_))))))
    have hdd:=Qj hN hWin hu2v hAeq hql Z (hqz k Z)
    exact yN k us2 (qs.set k (W/V)) (⟨Z,hu2l,hu2w,by rw [List.length_set];exact hql,W32.set hqw hq32 _,λj hj=>by rw [Jr Z];exact hqz j Z,hdd.1,hdd.2⟩) Z (sF O) sr
 ·replace hc0:=xQ hc0
  have hk00:k0=0:=by omega
  have hlt0:=hlt
  rw [hk00,Nat.pow_zero,Nat.mul_one] at hlt0
  have hfin:=Tk (a:=a) (b:=b) (s:=s) (q:=val qs) (r:=val us) hb0 (by rw [<-hV];exact hAeq) (by rw [<-hV];exact hlt0)
  refine zY (zR (yF (zV (q1 (q4 (AJ O (AJ O (oNl' (zC (zN ?_))))))))))
  refine yM (tg λ(i:Nat) (us3:List Nat)=>i<=s/\us3.length=nw a+1/\W32 us3/\val us3=a%b*2^s/2^i) (tg λ(i:Nat) (us3:List Nat)=>[(4,(qz (jk b3) m m)),(5,jj),(7,(qz (jk b1) (nw a+1) (nw a+1))),(167,(vN s)),(168,(vN i))]) (tg λ(i:Nat) (us3:List Nat)=>[AU b3 92 (Aq qs),AU b2 92 (Aq vb),AU b1 92 (Aq us3)]) (tg λ(i:Nat) (us3:List Nat)=>s-i) 0 us (⟨xu _,hul,huw,by rw [hfin.2];simp⟩) (sF O) sr (λi us3 hJ=>?_)
  obtain ⟨hi,hl3,hw3,hv3⟩:=hJ
  refine q4 (st' (AW (c:=(decide (i<s))) O O (B_ (a:=i) (b:=s))) O (oNl' (q1 ?_)))
  refine zO O (λhc5=>?_) (λhc5=>?_)
  ·replace hc5:=xR hc5
   refine zJ (q1 (zN (zQ (AJ O (yo (v:=(Value.tuple #[])) (i:=2) (cs':=Aq (CI (nw a+1) (val us3/2))) (L':=[AU b3 92 (Aq qs),AU b2 92 (Aq vb),AU b1 92 (Aq (CI (nw a+1) (val us3/2)))]) (AM O) (Ak (args:=[(qz (jk b1) (nw a+1) (nw a+1))]) O O call275) O (λw hw=>Yv _ (nw a+1) _ us3 hw3 hl3 Z w (hw.get (i:=2) O)) (λd hd=>by cases hd<;>exact (leB O)) O (oNl' (zF (sL [4,5,7,167,168] O) (zP (zC (zQ (st' (AV (c:=((i+1:Nat):Int)) O O (AY (a:=i) (b:=1) Z)) O ?_)))))))))))
   refine AJ O (oNl' (zF (sL [4,5,7,167,168] O) ?_))
   have hb3:val us3/2<4294967296^(nw a+1):=Nat.lt_of_le_of_lt (Nat.div_le_self _ _) (by have:=HT hw3;rw [hl3] at this;exact this)
   exact z6 (i+1) (CI (nw a+1) (val us3/2)) (⟨Z,Bh _ _,De _ _,by rw [Fi _ _ hb3,hv3,Nat.div_div_eq_div_mul,<-Nat.pow_succ]⟩) Z (sF O) sr
  ·replace hc5:=xQ hc5
   have his:i=s:=by omega
   have hr:val us3=a%b:=by rw [hv3,his,Nat.mul_div_cancel _ (Nat.pow_pos Z)]
   have hr1:=II hw3 hl3 hr
   have hq1:=II hqw hql hfin.1
   refine zY (zR (zp (zV (q2 (AJ O (AJ O (asg' O (asg' O (oNl' (zF (sL [4,5,7,167,168] O) (zC ?_)))))))))))
   exact zH (BR O (rd_tmp (v:=(qz (jk b3) m m)) O) (rd_tmp (v:=(qz (jk b1) (nw a+1) (nw a+1))) O) (λw hw=>⟨b3,b1,by rw [hm],hw.out,hw.fresh (i:=0) O,hw.fresh (i:=2) O,(hw.apart (i:=0) (j:=2) jY O O),by rw [<-hm,<-hq1];exact hw.get (i:=0) O,by rw [<-hr1];exact hw.get (i:=2) O⟩))
end
section
set_option maxRecDepth 100000
theorem GB {N v:Nat} (h:v<4294967296^N):val ((CI N v).take N)=v:=by
 rw [List.take_of_length_le (by rw [Bh];exact Nat.le_refl _),Fi _ _ h]
theorem T8 {a b:Nat} (hb:0<nw b) (h:nw b<=nw a):a/b<4294967296^(nw a+1-nw b):=by
 have h1:=Io hb
 have h2:=Bp a
 rw [Nat.div_lt_iff_lt_mul (by have:=Nat.pow_pos (n:=nw b-1) (show 0<4294967296 by omega);omega)]
 have h3:4294967296^(nw a+1-nw b)*4294967296^(nw b-1)<=4294967296^(nw a+1-nw b)*b:=Nat.mul_le_mul_left _ h1
 rw [<-Nat.pow_add,show nw a+1-nw b+(nw b-1)=nw a by omega] at h3
 omega
theorem UH {a b:Nat}:a%b<4294967296^(nw a+1):=Nat.lt_of_le_of_lt (Nat.mod_le _ _) (Nat.lt_of_lt_of_le (Bp a) (Nat.pow_le_pow_right Z Z))
theorem RB {b:Nat} (h:nw b=0):b=0:=by
 have:=Bp b
 rw [h] at this
 omega
theorem ZR {b:Nat} (h:nw b=1):(Ay b).getD 0 0=b/\b<4294967296:=by
 have h1:=Bp b
 rw [h] at h1
 refine ⟨?_,Z⟩
 rw [Db Z,Gm,Nat.pow_zero,Nat.div_one,Nat.mod_eq_of_lt Z]
theorem MM  :Instr.fill ([(0,1),(1,1)].toArray[·]?) (AT 0).toArray []=some (AT 0).toArray:=by kernel_rfl
theorem QF (a b:Nat) (ha:nw a<=1099511627776) (hb:nw b<=1099511627776) (hb0:b≠0) (w:World)  :Calls prog 203 #[(aG (AT a)),(aG (AT b))] w (AX w (Value.tuple #[(aG (AT (a/b))),(aG (AT (a%b))),(qa true)])):=by
 have hnb:nw b≠0:=λh=>hb0 (RB h)
 have hla:=CK a
 have hlb:=CK b
 refine AS (args:=[(aG (AT a)),(aG (AT b))]) func203 O O (leB O) (zM (sL [0,1] O) (q4 (BG (cs:=AT a) O λb1=>BG (cs:=AT b) O λb2=>al Gl O λb3=>al Gl O λb4=>asg' O (q6 (sL [2,3,4,5,6] O) (zN (q4 (An 2 B3 O ?_)))))))
 refine ck' call241 (S4 b) O (asg' O (oNl' (zF (sL [2,3,4,5,6,12] O) (zC ?_))))
 refine zO O (λhc0=>?_) (λhc0=>?_)
 ·replace hc0:=xR hc0
  exact absurd hc0 hb0
 ·replace hc0:=xQ hc0
  refine q4 (An 3 B3 O (An 2 B3 O (ck' call242 (Uq a b Z Z) O (st' (AW (c:=(decide ((DO a b)<(0:Int)))) O O O) O (asg' O (oNl' (zF (sL [2,3,4,5,6,17] O) (zC ?_))))))))
  refine zO O (λhc1=>?_) (λhc1=>?_)
  ·replace hc1:=xR hc1
   rw [Fq] at hc1
   have e1:a/b=0:=Nat.div_eq_of_lt hc1
   have e2:a%b=a:=Nat.mod_eq_of_lt hc1
   refine zf (CE [(0,true),(1,true),(2,false),(3,false),(4,true)] (sl (sl sr)) (Ag (v:=(aG (AT 0))) O (AO (zs:=AT 0) (vs:=AT 0) (pv:=[]) (places:=[(0,1),(1,1)]) zeroValue71 underlying71 (λw=>by simp [sizeOf9,sizeOf69]) O (MM )) (C3 1 B3 O (zL O (CP O sizeOf71 O (zG (sl (sl sr)) (zL O (Aj O sizeOf71 O (zG (sl (sl sr)) (pS' O (zT ?_)))))))))))
   exact zF (sL [2,3,4,5,6] O) (zC (zH (zU (zI (FL O (Ah (i:=1) (cs:=AT 0) O O isAgg71 sizeOf71 O) (Ah (i:=0) (cs:=AT a) O O isAgg71 sizeOf71 O) (rd_tmp (v:=(qa true)) O) (λw hw=>⟨by rw [e1,e2],hw.out⟩))))))
  ·replace hc1:=xQ hc1
   rw [Fq] at hc1
   have hba:nw b<=nw a:=Ct Z
   refine q4 (st' (v:=(pP b1 1)) (AA O underlying71 O sizeOf9 O) O (A_ 3 (Value.string (Bs a)) UV O (st' (BY (c:=(decide (a<18446744073709551616))) O O Cd) O (asg' O (oNl' (zF (sL [2,3,4,5,6,24] O) (zC ?_)))))))
   refine zO O (λhc2=>?_) (λhc2=>?_)
   ·replace hc2:=xR hc2
    have la:B7 a=a:=Bm hc2
    have lb:B7 b=b:=Bm Z
    have q1:a/b<18446744073709551616:=Nat.lt_of_le_of_lt (Nat.div_le_self _ _) hc2
    have q2:a%b<18446744073709551616:=Nat.lt_of_le_of_lt (Nat.mod_le _ _) hc2
    refine zf (CE (Dm 12++[(12,false),(13,false),(14,true)]) (sl (sl sr)) (Ag (v:=(pP b1 0)) O (AA O underlying71 O sizeOf69 O) (BC 1 (vK .u64 (B7 a)) Gz O (Ag (v:=(pP b2 0)) O (AA O underlying71 O sizeOf69 O) (BC 0 (vK .u64 (B7 b)) Gz O (Ag O (FV (c:=(((B7 a)/(B7 b):Nat):Int)) O O Z (Is (a:=B7 a) (b:=B7 b) Z)) (Ag (v:=(aG ([(vK .u64 ((B7 a)/(B7 b))),(Value.string (Bs 0))]))) O (AO (zs:=AT 0) (vs:=[(vK .u64 ((B7 a)/(B7 b))),(Value.string (Bs 0))]) (pv:=[(0,(vK .u64 ((B7 a)/(B7 b))))]) (places:=[(0,1),(1,1)]) zeroValue71 underlying71 (λw=>by simp [sizeOf9,sizeOf69]) O O) (Ag (v:=(pP b1 0)) O (AA O underlying71 O sizeOf69 O) (BC 1 (vK .u64 (B7 a)) Gz O (Ag (v:=(pP b2 0)) O (AA O underlying71 O sizeOf69 O) (BC 0 (vK .u64 (B7 b)) Gz O ?_)))))))))))
    refine Ag O (Dn (c:=(((B7 a)%(B7 b):Nat):Int)) O O Z (RL (a:=B7 a) (b:=B7 b))) (Ag (v:=(aG ([(vK .u64 ((B7 a)%(B7 b))),(Value.string (Bs 0))]))) O (AO (zs:=AT 0) (vs:=[(vK .u64 ((B7 a)%(B7 b))),(Value.string (Bs 0))]) (pv:=[(0,(vK .u64 ((B7 a)%(B7 b))))]) (places:=[(0,1),(1,1)]) zeroValue71 underlying71 (λw=>by simp [sizeOf9,sizeOf69]) O O) (zL O (CP O sizeOf71 O (zG (sl (sl sr)) (zL O (Aj O sizeOf71 O (zG (sl (sl sr)) (pS' O (zT (zF (sL [2,3,4,5,6] O) (zC ?_)))))))))))
    exact zH (zU (zI (FL O (Ah (i:=1) (cs:=[(vK .u64 ((B7 a)/(B7 b))),(Value.string (Bs 0))]) O O isAgg71 sizeOf71 O) (Ah (i:=0) (cs:=[(vK .u64 ((B7 a)%(B7 b))),(Value.string (Bs 0))]) O O isAgg71 sizeOf71 O) (rd_tmp (v:=(qa true)) O) (λw hw=>⟨by rw [D9 q1,D9 q2,la,lb];rfl,hw.out⟩))))
   ·replace hc2:=xQ hc2
    refine zJ (zP (q2 (An 2 B3 O (yH (V:=λb5=>(qz (jk b5) (nw b) ((Ay b).length))) (T:=92) (cs:=Aq (Ay b)) (AM O) (Ak (args:=[(aG (AT b))]) O O call187) (λw hw=>DH b Z w) O (leB O) λb5=>asg' O (q6 (sL [2,3,4,5,6,7] O) (q4 (AJ O (st' (v:=(vN (nw b))) (AD O underlying255) O (st' (A9 (c:=(decide ((nw b)=1))) O O (MA (a:=nw b) (b:=1))) O (oNl' ?_))))))))))
    refine zF (sL [2,3,4,5,6,7,44] O) (zC ?_)
    refine zO O (λhc3=>?_) (λhc3=>?_)
    ·replace hc3:=xR hc3
     obtain ⟨hy,hy2⟩:=ZR hc3
     refine zf (CE [(0,true),(2,true),(3,true),(4,true),(1,false),(5,false),(6,true),(7,true),(8,true),(9,true),(10,true)] sr (C3 4 B3 O (Bl O (Ag (v:=(pP b5 0)) O (AL (j:=0) O O underlying255 sizeOf92 O Z O) ?_))))
     have hx1:(Ay b).getD 0 0<4294967296:=W32.getD (CO b) 0
     refine Ag O (AE (i:=0) (v:=(vK .u32 ((Ay b).getD 0 0))) O O isAgg92 (BJ (xs:=Ay b) (j:=0) Z)) (zL O (yH (V:=λb6=>(qz (jk b6) (nw a) ((Ay a).length))) (T:=92) (cs:=Aq (Ay a)) (AM O) (Ak (args:=[(aG (AT a))]) O O call187) (λw hw=>DH a Z w) O (leB O) λb6=>zG (sl sr) (zL O (yH (V:=λb7=>(Value.tuple #[(qz (jk b7) (nw a) (nw a)),(vK .u32 (a%((Ay b).getD 0 0)))])) (T:=92) (cs:=Aq (CI (nw a) (a/((Ay b).getD 0 0)))) (AM O) (Ak (args:=[(qz (jk b6) (nw a) ((Ay a).length)),(vK .u32 ((Ay b).getD 0 0))]) O O call188) (λw hw=>XZ a ((Ay b).getD 0 0) _ _ Z Z Z w (hw.get (i:=0) O)) O (leB O) λb7=>zG (sl (sl sr)) (Bl O (Ag O (AK (v:=(qz (jk b7) (nw a) (nw a))) O O) (Ag O (AK (v:=(vK .u32 (a%((Ay b).getD 0 0)))) O O) (pS' O (pS' O ?_)))))))))
     refine zT (zF (sL [2,3,4,5,6,7,8,9] O) (q2 (AJ O (Bx call206 (λw hw=>Jo _ (nw a) (nw a) (CI (nw a) (a/((Ay b).getD 0 0))) (De _ _) (by first|omega|(rw [Bh];omega)|simp|(simp;omega)) (by first|omega|simp|(simp;omega)) (by first|omega|simp|(simp;omega)) w (hw.get (i:=0) O)) O (zK (k:=55) (u:=(aG (AT (a/b)))) O (by rw [hy,GB (Nat.lt_of_le_of_lt (Nat.div_le_self _ _) (Bp a))]) (AJ O ?_))))))
     have hmb:a%(Ay b).getD 0 0<4294967296:=by rw [hy];exact Nat.lt_of_lt_of_le (Nat.mod_lt _ Z) Z
     exact st' (A6 (c:=((a%((Ay b).getD 0 0):Nat):Int)) O underlying92 underlying69 (BT Z)) O (st' (v:=(aG ([(vK .u64 (a%((Ay b).getD 0 0))),(Value.string (Bs 0))]))) (AO (zs:=AT 0) (vs:=[(vK .u64 (a%((Ay b).getD 0 0))),(Value.string (Bs 0))]) (pv:=[(0,(vK .u64 (a%((Ay b).getD 0 0))))]) (places:=[(0,1),(1,1)]) zeroValue71 underlying71 (λw=>by simp [sizeOf9,sizeOf69]) O O) O (zK (k:=58) (u:=(aG (AT (a%b)))) O (by rw [hy] at hmb ⊢;rw [D9 Z];rfl) (Ei 4 (off:=0) (vs:=AT (a/b)) (cs':=AT (a/b)) (AM O) O sizeOf71 O (Gt O sizeOf71 O (asg' O (oNl' (zF (sL [2,3,4,5,6,7] O) (zC (zH (zI (FL O (Ah (i:=4) (cs:=AT (a/b)) O O isAgg71 sizeOf71 O) (Ah (i:=3) (cs:=AT (a%b)) O O isAgg71 sizeOf71 O) (rd_tmp (v:=(qa true)) O) (λw hw=>⟨rfl,hw.out⟩))))))))))))
    ·replace hc3:=xQ hc3
     refine zJ (q2 (An 4 B3 O (yH (V:=λb6=>(qz (jk b6) (nw a) ((Ay a).length))) (T:=92) (cs:=Aq (Ay a)) (AM O) (Ak (args:=[(aG (AT a))]) O O call187) (λw hw=>DH a Z w) O (leB O) λb6=>AJ O (AQ.callBB (V:=λb7 b8=>(Value.tuple #[(qz (jk b7) (nw a+1-nw b) (nw a+1-nw b)),(qz (jk b8) (nw a+1) (nw a+1))])) (T:=92) (cs:=Aq (CI (nw a+1-nw b) (a/b))) (T2:=92) (cs2:=Aq (CI (nw a+1) (a%b))) (AM O) (Ak (args:=[(qz (jk b6) (nw a) ((Ay a).length)),(qz (jk b5) (nw b) ((Ay b).length))]) O O call243) (λw hw=>ZB a b _ _ _ _ Z Z Z w (hw.get (i:=0) O) (hw.get (i:=1) O)) O (leB O) λb7 b8=>AJ O (st' (AK (v:=(qz (jk b7) (nw a+1-nw b) (nw a+1-nw b))) O O) O (st' (AK (v:=(qz (jk b8) (nw a+1) (nw a+1))) O O) O (asg' O (asg' O (q3 (sL [2,3,4,5,6,7,10,11] O) ?_)))))))))
     refine AJ O (Bx call206 (λw hw=>Jo _ (nw a+1-nw b) (nw a+1-nw b) (CI (nw a+1-nw b) (a/b)) (De _ _) (by first|omega|(rw [Bh];omega)|simp|(simp;omega)) (by first|omega|simp|(simp;omega)) (by first|omega|simp|(simp;omega)) w (hw.get (i:=0) O)) O (zK (k:=67) (u:=(aG (AT (a/b)))) O (by rw [GB (T8 Z hba)]) (AJ O (Bx call206 (λw hw=>Jo _ (nw a+1) (nw a+1) (CI (nw a+1) (a%b)) (De _ _) (by first|omega|(rw [Bh];omega)|simp|(simp;omega)) (by first|omega|simp|(simp;omega)) (by first|omega|simp|(simp;omega)) w (hw.get (i:=1) O)) O (zK (k:=69) (u:=(aG (AT (a%b)))) O (by rw [GB UH]) (Ei 5 (off:=0) (vs:=AT (a/b)) (cs':=AT (a/b)) (AM O) O sizeOf71 O (Ei 4 (off:=0) (vs:=AT (a%b)) (cs':=AT (a%b)) (AM O) O sizeOf71 O (asg' O (oNl' (zF (sL [2,3,4,5,6,7] O) (zC ?_)))))))))))
     exact zH (FL O (Ah (i:=5) (cs:=AT (a/b)) O O isAgg71 sizeOf71 O) (Ah (i:=4) (cs:=AT (a%b)) O O isAgg71 sizeOf71 O) (rd_tmp (v:=(qa true)) O) (λw hw=>⟨rfl,hw.out⟩))
theorem ae (a b:Nat) (ha:nw a<=1099511627776) (hb:nw b<=1099511627776) (w:World)  :Calls prog 201 #[(aG (AT a)),(aG (AT b))] w (AX w (aG (AT (Nat.gcd a b)))):=by
 refine AS (args:=[(aG (AT a)),(aG (AT b))]) func201 O O (leB O) (zM (sL [0,1] O) (q4 (BG (cs:=AT a) O λb1=>BG (cs:=AT b) O λb2=>al Gl O λb3=>q6 (sL [2,3,4] O) (zN ?_))))
 refine yM (tg λ(x:Nat) (y:Nat)=>Nat.gcd x y=Nat.gcd a b/\nw x<=1099511627776/\nw y<=1099511627776) (tg λ(x:Nat) (y:Nat)=>[(2,(pP b1 0)),(3,(pP b2 0)),(4,(pP b3 0))]) (tg λ(x:Nat) (y:Nat)=>[AU b3 71 (AT 0),AU b2 71 (AT y),AU b1 71 (AT x)]) (tg λ(x:Nat) (y:Nat)=>y) a b (⟨rfl,ha,hb⟩) (sF O) sr (λx y hJ=>?_)
 obtain ⟨hg,hx,hy⟩:=hJ
 refine zf (q4 (An 1 B3 O (ck' call241 (S4 y) O (st' (BB (c:=(!(decide (y=0)))) O O) O (oNl' (zF (sL [2,3,4,10] O) (zC ?_)))))))
 refine zO O (λhc0=>?_) (λhc0=>?_)
 ·simp only [jK] at hc0
  refine zJ (zC (zN (q4 (An 2 B3 O (An 1 B3 O (ck' call203 (QF x y Z Z Z) O (AJ O (st' (AK (v:=(aG (AT (x/y)))) O O) O (st' (AK (v:=(aG (AT (x%y)))) O O) O (st' (AK (v:=(qa true)) O O) O (al Gl O λb4=>?_)))))))))))
  refine al Gl O λb5=>CP O sizeOf71 O (Aj O sizeOf71 O (asg' O (oNl' (zF (sL [2,3,4,6] O) (zC (CE [(1,true),(0,false),(2,false),(3,false)] (sk (sk (sk (sl (sl sr))))) (C3 0 B3 O (zL O (An 3 B3 O (zG (sk (sk (sk (sl (sl sr))))) ?_))))))))))
  exact zL O (Ei 4 (off:=0) (vs:=AT y) (cs':=AT y) (AM O) O sizeOf71 O (zG (sk (sk (sk (sl (sl sr))))) (zL O (Gt O sizeOf71 O (zG (sk (sk (sk (sl (sl sr))))) (zT (zF (sL [2,3,4,6] O) (zP (z6 y (x%y) (⟨by rw [<-hg,Nat.gcd_comm x y,Nat.gcd_rec y x,Nat.gcd_comm],hy,xx (Ct (Nat.mod_le _ _)) hx⟩) (Nat.mod_lt _ Z) (sF O) (sl (sl sr)))))))))))
 ·simp only [jK] at hc0
  have hy0:y=0:=by omega
  have hxg:x=Nat.gcd a b:=by rw [<-hg,hy0,Nat.gcd_zero_right]
  exact zY (zR (zp (zV (q2 (An 2 B3 O (Aj O sizeOf71 O (oNl' (zF (sL [2,3,4] O) (zC (zH (ret_one O (Ah (i:=0) (cs:=AT x) O O isAgg71 sizeOf71 O) (λw hw=>⟨by rw [hxg],hw.out⟩))))))))))))
end
def EG (neg:Bool) (n:Nat):Int:=if neg then -(n:Int) else (n:Int)
theorem WG (n:Nat):A7 (EG true n)=AT n++[.bool (!(decide (n=0)))]:=by
  simp only [A7,AT,EG,if_true,Int.natAbs_neg,Int.natAbs_natCast,List.cons_append,List.nil_append]
  have e:decide (-(n:Int)<0)=!(decide (n=0)):=by
    by_cases h:n=0
    · subst h;rfl
    · simp [h];omega
  rw [e]
theorem WH (n:Nat):A7 (EG false n)=AT n++[.bool false]:=by
  simp only [A7,AT,EG,Int.natAbs_natCast,List.cons_append,List.nil_append]
  have e:decide ((n:Int)<0)=false:=by simp
  simp [e]
theorem O7 (D a b:Nat):Fj prog (D+3) 73 (.agg (AT a).toArray) (.agg (AT b).toArray) (decide (a=b)):=by
  have h:=Fj.struct (D:=D+2) (xs:=AT a) (ys:=AT b) underlying73 Tryz.stoodInHeld73 (I6.agg (us:=AT a) (bs:=AT b) jY isAgg71 sizeOf71 rfl rfl (Ha D a b) I6.nil)
  simpa using h
theorem Ax (neg:Bool) (n:Nat):(EG neg n).natAbs=n:=by cases neg<;>simp [EG]
theorem Sb (a:Int):EG (!(decide (a<0))) a.natAbs = -a:=by
  unfold EG
  by_cases h:a<0
  · simp [h];omega
  · simp [h];omega
theorem Sa (a b:Int):EG (!(decide (a<0) == decide (b<0))) (a.natAbs*b.natAbs)=a*b:=by
  rw [<-Int.natAbs_mul]
  unfold EG
  by_cases h:a<0<;>by_cases h':b<0
  · have:=Int.mul_pos_of_neg_of_neg h h';simp [h,h'];omega
  · have:a*b<=0:=Int.mul_nonpos_of_nonpos_of_nonneg Z Z
    simp [h,h'];omega
  · have:a*b<=0:=Int.mul_nonpos_of_nonneg_of_nonpos Z Z
    simp [h,h'];omega
  · have:0<=a*b:=Int.mul_nonneg Z Z
    simp [h,h'];omega
theorem Ih {a b:Int} (h:(decide (a<0) == decide (b<0))=true):EG (decide (a<0)) (a.natAbs+b.natAbs)=a+b:=by
  unfold EG
  by_cases h1:a<0<;>by_cases h2:b<0<;>simp [h1,h2] at h ⊢<;>omega
theorem LU {a b:Int} (h:(decide (a<0) == decide (b<0))=false) (h3:b.natAbs<=a.natAbs):EG (decide (a<0)) (a.natAbs-b.natAbs)=a+b:=by
  unfold EG
  by_cases h1:a<0<;>by_cases h2:b<0<;>simp [h1,h2] at h ⊢<;>omega
theorem LV {a b:Int} (h:(decide (a<0) == decide (b<0))=false) (h3:¬b.natAbs<=a.natAbs):EG (decide (b<0)) (b.natAbs-a.natAbs)=a+b:=by
  unfold EG
  by_cases h1:a<0<;>by_cases h2:b<0<;>simp [h1,h2] at h ⊢<;>omega
theorem fo {z:Int} (h:z<0) (h2:-9223372036854775808<=z):IntKind.u64.wrap (-(IntKind.u64.wrap z))=((z.natAbs:Nat):Int):=by
  simp only [IntKind.wrap,IntKind.bits,IntKind.signed];simp;omega
theorem HB {z:Int} (h:z<0):EG true z.natAbs=z:=by unfold EG;simp;omega
theorem M9 {z:Int} (h:¬z<0):EG false z.natAbs=z:=by unfold EG;simp;omega
section
set_option maxRecDepth 100000
theorem MO  :Instr.fill ([(0,2)].toArray[·]?) (AT 0).toArray []=some (AT 0).toArray:=by kernel_rfl
theorem Iy (n:Nat) (w:World)  :Calls prog 217 #[(aG (AT n))] w (AX w (qa (decide (n=0)))):=by
 refine AS (args:=[(aG (AT n))]) func217 O O (leB O) (zM (sL [0] O) (q4 (BG (cs:=AT n) O λb1=>asg' O (q3 (sL [1,2] O) (An 0 UT O (st' (v:=(aG (AT 0))) (AO (zs:=AT 0) (vs:=AT 0) (pv:=[]) (places:=[(0,2)]) zeroValue73 underlying73 (λw=>by simp [sizeOf71]) O (MO )) O (st' (Cf (c:=(decide (n=0))) O O eqGuardType73 (O7 9997 n 0)) O (asg' O (oNl' (zF (sL [2] O) ?_))))))))))
 exact zC (zH (ret_one O (rd_tmp (v:=(qa (decide (n=0)))) O) (λw hw=>⟨rfl,hw.out⟩)))
theorem Fa (x0:Nat):Instr.fill ([(0,2)].toArray[·]?) (AT 0).toArray [(0,.agg (AT x0).toArray)]=some (AT x0).toArray:=by kernel_rfl
theorem S8 (n:Nat) (w:World)  :Calls prog 171 #[(qa true),(aG (AT n))] w (AX w (aG (A7 (EG true n)))):=by
 refine AS (args:=[(qa true),(aG (AT n))]) func171 O O (leB O) (zM (sL [0,1] O) (q4 (BG (cs:=AT n) O λb1=>al J5 O λb2=>q3 (sL [0,3,4] O) (An 1 B3 O (st' (v:=(aG (AT n))) (AO (zs:=AT 0) (vs:=AT n) (pv:=[(0,(aG (AT n)))]) (places:=[(0,2)]) zeroValue73 underlying73 (λw=>by simp [sizeOf71]) O (Fa n)) O (al eZ O λb3=>Aj O sizeOf73 O (q6 (sL [0,4,5] O) (CE (Dm 4++[(4,false),(5,true),(6,true),(7,true),(8,false)]) (sk (sl sr)) ?_))))))))
 refine C3 0 UT O (Bl O (Bl O (zW (v:=(aG (AT n))) O (AN O) (Ac (i:=0) (vs:=AT n) O O UT.a UT.s O O) O O (zL O (zj (v:=(qa (decide (n=0)))) (AN O) (Ak (args:=[(aG (AT n))]) O O call217) (λw hw=>Iy n w) O (leB O) (zG (sk (sl sr)) (zW (v:=(qa (!(decide (n=0))))) O (AN O) (BB (c:=(!(decide (n=0)))) O O) O O (Ag (v:=(qa (!(decide (n=0))))) O (ex_pick_true O O) (Ag (v:=(aG (AT n++[(qa (!(decide (n=0))))]))) O (AO (zs:=A7 0) (vs:=AT n++[(qa (!(decide (n=0))))]) (pv:=[(0,(aG (AT n))),(1,(qa (!(decide (n=0)))))]) (places:=[(0,2),(2,1)]) zeroValue75 underlying75 (λw=>by simp [sizeOf4,sizeOf73]) O O) (zL O (CP O sizeOf75 O ?_)))))))))))
 exact zG (sk (sl sr)) (zT (zF (sL [4,5] O) (zC (zH (ret_one O (Ah (i:=1) (cs:=AT n++[(qa (!(decide (n=0))))]) O O isAgg75 sizeOf75 O) (λw hw=>⟨by rw [WG],hw.out⟩))))))
theorem QH (n:Nat) (w:World)  :Calls prog 171 #[(qa false),(aG (AT n))] w (AX w (aG (A7 (EG false n)))):=by
 refine AS (args:=[(qa false),(aG (AT n))]) func171 O O (leB O) (zM (sL [0,1] O) (q4 (BG (cs:=AT n) O λb1=>al J5 O λb2=>q3 (sL [0,3,4] O) (An 1 B3 O (st' (v:=(aG (AT n))) (AO (zs:=AT 0) (vs:=AT n) (pv:=[(0,(aG (AT n)))]) (places:=[(0,2)]) zeroValue73 underlying73 (λw=>by simp [sizeOf71]) O (Fa n)) O (al eZ O λb3=>Aj O sizeOf73 O (q6 (sL [0,4,5] O) (CE (Dm 4++[(4,false),(5,true),(6,true),(7,true),(8,false)]) (sk (sl sr)) ?_))))))))
 refine C3 0 UT O (Bl O (Bl O (ze O (Ap O) O O (zL O (Aw O (zG (sk (sl sr)) (ze O (Ap O) O O (Ag (v:=(qa false)) O (AI O O) (Ag (v:=(aG (AT n++[(qa false)]))) O (AO (zs:=A7 0) (vs:=AT n++[(qa false)]) (pv:=[(0,(aG (AT n))),(1,(qa false))]) (places:=[(0,2),(2,1)]) zeroValue75 underlying75 (λw=>by simp [sizeOf4,sizeOf73]) O O) (zL O (CP O sizeOf75 O ?_)))))))))))
 exact zG (sk (sl sr)) (zT (zF (sL [4,5] O) (zC (zH (ret_one O (Ah (i:=1) (cs:=AT n++[(qa false)]) O O isAgg75 sizeOf75 O) (λw hw=>⟨by rw [WH],hw.out⟩))))))
theorem Ek (neg:Bool) (n:Nat) (w:World):Calls prog 171 #[.bool neg,.agg (AT n).toArray] w (AX w (.agg (A7 (EG neg n)).toArray)):=by
 cases neg
 ·exact QH n w
 ·exact S8 n w
theorem bO (z:Int) (hz:-9223372036854775808<=z) (hz2:z<9223372036854775808) (w:World)  :Calls prog 109 #[(vI z)] w (AX w (aG (A7 z))):=by
 refine AS (args:=[(vI z)]) func109 O O (leB O) (zM (sL [0] O) (q4 (al J5 O λb1=>oNl' (q1 (q4 (AJ O (st' (AW (c:=(decide (z<(0:Int)))) O O O) O (oNl' (zF (sL [0,2,4] O) (zC ?_))))))))))
 refine zO O (λhc0=>?_) (λhc0=>?_)
 ·replace hc0:=xR hc0
  have he:=HB hc0
  exact q4 (AJ O (st' (A6 (c:=(IntKind.u64.wrap z)) O underlying2 underlying69 (rfl)) O (st' (Vx (c:=((z.natAbs:Nat):Int)) O (by rw [Int.zero_sub];exact fo hc0 hz)) O (ck' call172 (KV z.natAbs Z) O (ck' call171 (Ek true z.natAbs) O (Aj O sizeOf75 O (oNl' (zF (sL [0,2] O) (zC (zH (zI (ret_one O (Ah (i:=0) (cs:=A7 (EG true z.natAbs)) O O isAgg75 sizeOf75 O) (λw hw=>⟨by rw [he],hw.out⟩)))))))))))))
 ·replace hc0:=xQ hc0
  have he:=M9 hc0
  exact zJ (q2 (AJ O (st' (A6 (c:=((z.natAbs:Nat):Int)) O underlying2 underlying69 (by rw [Di Z Z];omega)) O (ck' call172 (KV z.natAbs Z) O (ck' call171 (Ek false z.natAbs) O (Aj O sizeOf75 O (oNl' (zF (sL [0,2] O) (zC (zH (ret_one O (Ah (i:=0) (cs:=A7 (EG false z.natAbs)) O O isAgg75 sizeOf75 O) (λw hw=>⟨by rw [he],hw.out⟩))))))))))))
theorem Nz (a:Int) (w:World)  :Calls prog 202 #[(aG (A7 a))] w (AX w (aG (AT a.natAbs))):=by
 refine AS (args:=[(aG (A7 a))]) func202 O O (leB O) (zM (sL [0] O) (q4 (BG (cs:=A7 a) O λb1=>al Gl O λb2=>q3 (sL [1,2] O) (st' (v:=(pP b1 0)) (AA O underlying75 O sizeOf73 O) O (st' (v:=(pP b1 0)) (AA O underlying73 O sizeOf71 O) O (C9 1 (AT a.natAbs) B3 O (Aj O sizeOf71 O (oNl' (zF (sL [2] O) ?_)))))))))
 exact zC (zH (ret_one O (Ah (i:=0) (cs:=AT a.natAbs) O O isAgg71 sizeOf71 O) (λw hw=>⟨rfl,hw.out⟩)))
theorem LN (a:Int) (w:World)  :Calls prog 176 #[(aG (A7 a))] w (AX w (vI a.sign)):=by
 refine AS (args:=[(aG (A7 a))]) func176 O O (leB O) (zM (sL [0] O) (q4 (BG (cs:=A7 a) O λb1=>asg' O (q6 (sL [1,2] O) (zN (q4 (st' (v:=(pP b1 0)) (AA O underlying75 O sizeOf73 O) O (C9 0 (AT a.natAbs) UT O (ck' call217 (Iy a.natAbs) O (asg' O ?_))))))))))
 refine oNl' (zF (sL [1,2,3] O) (zC ?_))
 refine zO O (λhc0=>?_) (λhc0=>?_)
 ·replace hc0:=xR hc0
  have he:a.sign=0:=by rw [show a=0 by omega];rfl
  exact q4 (asg' O (oNl' (zC (zH (zU (zI (ret_one O (rd_tmp (v:=(vI 0)) O) (λw hw=>⟨by rw [he],hw.out⟩))))))))
 ·replace hc0:=xQ hc0
  refine q4 (st' (v:=(pP b1 2)) (AA O underlying75 O sizeOf4 O) O (A_ 0 (qa (decide (a<0))) Kc O (asg' O (oNl' (zF (sL [1,2,7] O) (zC ?_))))))
  refine zO O (λhc1=>?_) (λhc1=>?_)
  ·replace hc1:=xR hc1
   have he:a.sign = -1:=Int.sign_eq_neg_one_of_neg hc1
   exact q4 (asg' O (oNl' (zC (zH (zU (zI (ret_one O (rd_tmp (v:=(vI (-1:Int))) O) (λw hw=>⟨by rw [he],hw.out⟩))))))))
  ·replace hc1:=xQ hc1
   have he:a.sign=1:=Int.sign_eq_one_of_pos Z
   exact zJ (zP (q2 (asg' O (oNl' (zC (zH (ret_one O (rd_tmp (v:=(vI 1)) O) (λw hw=>⟨by rw [he],hw.out⟩))))))))
theorem SR (a:Int) (w:World)  :Calls prog 106 #[(aG (A7 a))] w (AX w (aG (A7 (-a)))):=by
 refine AS (args:=[(aG (A7 a))]) func106 O O (leB O) (zM (sL [0] O) (q4 (BG (cs:=A7 a) O λb1=>al J5 O λb2=>q3 (sL [1,2] O) (st' (v:=(pP b1 2)) (AA O underlying75 O sizeOf4 O) O (A_ 1 (qa (decide (a<0))) Kc O (st' (BB (c:=(!(decide (a<0)))) O O) O (st' (v:=(pP b1 0)) (AA O underlying75 O sizeOf73 O) O (st' (v:=(pP b1 0)) (AA O underlying73 O sizeOf71 O) O (C9 1 (AT a.natAbs) B3 O ?_)))))))))
 exact ck' call171 (Ek (!(decide (a<0))) a.natAbs) O (Aj O sizeOf75 O (oNl' (zF (sL [2] O) (zC (zH (ret_one O (Ah (i:=0) (cs:=A7 (EG (!(decide (a<0))) a.natAbs)) O O isAgg75 sizeOf75 O) (λw hw=>⟨by rw [Sb],hw.out⟩)))))))
theorem ZS (a b:Int) (ha:nw a.natAbs<=1099511627776) (hb:nw b.natAbs<=1099511627776) (w:World)  :Calls prog 200 #[(aG (A7 a)),(aG (A7 b))] w (AX w (aG (A7 (a+b)))):=by
 refine AS (args:=[(aG (A7 a)),(aG (A7 b))]) func200 O O (leB O) (zM (sL [0,1] O) (q4 (BG (cs:=A7 a) O λb1=>BG (cs:=A7 b) O λb2=>al J5 O λb3=>q6 (sL [2,3,4] O) (q4 (st' (v:=(pP b1 2)) (AA O underlying75 O sizeOf4 O) O (A_ 2 (qa (decide (a<0))) Kc O (st' (v:=(pP b2 2)) (AA O underlying75 O sizeOf4 O) O (A_ 1 (qa (decide (b<0))) Kc O ?_))))))))
 refine st' (Fu (c:=(decide (a<0) == decide (b<0))) O O underlying4 O) O (oNl' (zF (sL [2,3,4,13] O) (zC ?_)))
 refine zO O (λhc0=>?_) (λhc0=>?_)
 ·have he:=Ih hc0
  refine zf (CE (Dm 8++[(8,false),(9,false),(10,false)]) (sl sr) (Ag (v:=(pP b1 2)) O (AA O underlying75 O sizeOf4 O) (BC 1 (qa (decide (a<0))) Kc O (Ag (v:=(pP b1 0)) O (AA O underlying75 O sizeOf73 O) (Ag (v:=(pP b1 0)) O (AA O underlying73 O sizeOf71 O) (Ef 1 (AT a.natAbs) B3 O (Ag (v:=(pP b2 0)) O (AA O underlying75 O sizeOf73 O) (Ag (v:=(pP b2 0)) O (AA O underlying73 O sizeOf71 O) (Ef 0 (AT b.natAbs) B3 O (zL O (ck' call194 (Un a.natAbs b.natAbs Z Z) O ?_)))))))))))
  exact zG (sl sr) (zL O (ck' call171 (Ek (decide (a<0)) (a.natAbs+b.natAbs)) O (zG (sl sr) (zL O (Aj O sizeOf75 O (zG (sl sr) (zT (zF (sL [2,3,4] O) (zC (zH (zI (ret_one O (Ah (i:=0) (cs:=A7 (EG (decide (a<0)) (a.natAbs+b.natAbs))) O O isAgg75 sizeOf75 O) (λw hw=>⟨by rw [he],hw.out⟩)))))))))))))
 ·refine zJ (q1 (q4 (st' (v:=(pP b1 0)) (AA O underlying75 O sizeOf73 O) O (st' (v:=(pP b1 0)) (AA O underlying73 O sizeOf71 O) O (C9 2 (AT a.natAbs) B3 O (st' (v:=(pP b2 0)) (AA O underlying75 O sizeOf73 O) O (st' (v:=(pP b2 0)) (AA O underlying73 O sizeOf71 O) O (C9 1 (AT b.natAbs) B3 O (ck' call204 (QM a.natAbs b.natAbs Z Z) O (AJ O (st' (AK (v:=(aG (AT (a.natAbs-b.natAbs)))) O O) O ?_)))))))))))
  refine st' (AK (v:=(qa (decide (b.natAbs<=a.natAbs)))) O O) O (al Gl O λb4=>Aj O sizeOf71 O (asg' O (q3 (sL [2,3,4,5,6] O) (AJ O (oNl' (zF (sL [2,3,4,5,34] O) (zC ?_)))))))
  refine zO O (λhc1=>?_) (λhc1=>?_)
  ·replace hc1:=xR hc1
   have he:=LU hc0 hc1
   exact q4 (st' (v:=(pP b1 2)) (AA O underlying75 O sizeOf4 O) O (A_ 3 (qa (decide (a<0))) Kc O (An 0 B3 O (ck' call171 (Ek (decide (a<0)) (a.natAbs-b.natAbs)) O (CP O sizeOf75 O (oNl' (zF (sL [2,3,4,5] O) (zC (zH (zI (ret_one O (Ah (i:=1) (cs:=A7 (EG (decide (a<0)) (a.natAbs-b.natAbs))) O O isAgg75 sizeOf75 O) (λw hw=>⟨by rw [he],hw.out⟩))))))))))))
  ·replace hc1:=xQ hc1
   have he:=LV hc0 hc1
   refine zJ (q2 (st' (v:=(pP b2 0)) (AA O underlying75 O sizeOf73 O) O (st' (v:=(pP b2 0)) (AA O underlying73 O sizeOf71 O) O (C9 2 (AT b.natAbs) B3 O (st' (v:=(pP b1 0)) (AA O underlying75 O sizeOf73 O) O (st' (v:=(pP b1 0)) (AA O underlying73 O sizeOf71 O) O (C9 3 (AT a.natAbs) B3 O (ck' call204 (QM b.natAbs a.natAbs Z Z) O (AJ O (st' (AK (v:=(aG (AT (b.natAbs-a.natAbs)))) O O) O (st' (AK (v:=(qa (decide (a.natAbs<=b.natAbs)))) O O) O ?_)))))))))))
   refine al Gl O λb5=>Aj O sizeOf71 O (asg' O (q3 (sL [2,3,4,5,7] O) (st' (v:=(pP b2 2)) (AA O underlying75 O sizeOf4 O) O (A_ 3 (qa (decide (b<0))) Kc O (An 0 B3 O (ck' call171 (Ek (decide (b<0)) (b.natAbs-a.natAbs)) O (E_ O sizeOf75 O (oNl' (zF (sL [2,3,4,5,7] O) (zC ?_))))))))))
   exact zH (ret_one O (Ah (i:=2) (cs:=A7 (EG (decide (b<0)) (b.natAbs-a.natAbs))) O O isAgg75 sizeOf75 O) (λw hw=>⟨by rw [he],hw.out⟩))
theorem Xr (a b:Int) (ha:nw a.natAbs<=1099511627776) (hb:nw b.natAbs<=1099511627776) (w:World)  :Calls prog 179 #[(aG (A7 a)),(aG (A7 b))] w (AX w (aG (A7 (a*b)))):=by
 refine AS (args:=[(aG (A7 a)),(aG (A7 b))]) func179 O O (leB O) (zM (sL [0,1] O) (q4 (BG (cs:=A7 a) O λb1=>BG (cs:=A7 b) O λb2=>al J5 O λb3=>q6 (sL [2,3,4] O) (CE (Dm 11++[(11,false),(12,false),(13,false)]) (sl sr) (Ag (v:=(pP b1 2)) O (AA O underlying75 O sizeOf4 O) (BC 1 (qa (decide (a<0))) Kc O (Ag (v:=(pP b2 2)) O (AA O underlying75 O sizeOf4 O) (BC 0 (qa (decide (b<0))) Kc O ?_))))))))
 refine Ag O (Ji (c:=(!(decide (a<0) == decide (b<0)))) O O underlying4 O) (Ag (v:=(pP b1 0)) O (AA O underlying75 O sizeOf73 O) (Ag (v:=(pP b1 0)) O (AA O underlying73 O sizeOf71 O) (Ef 1 (AT a.natAbs) B3 O (Ag (v:=(pP b2 0)) O (AA O underlying75 O sizeOf73 O) (Ag (v:=(pP b2 0)) O (AA O underlying73 O sizeOf71 O) (Ef 0 (AT b.natAbs) B3 O (zL O (ck' call153 (QK a.natAbs b.natAbs Z Z) O (zG (sl sr) (zL O (ck' call171 (Ek (!(decide (a<0) == decide (b<0))) (a.natAbs*b.natAbs)) O ?_)))))))))))
 exact zG (sl sr) (zL O (Aj O sizeOf75 O (zG (sl sr) (zT (zF (sL [4] O) (zC (zH (ret_one O (Ah (i:=0) (cs:=A7 (EG (!(decide (a<0) == decide (b<0))) (a.natAbs*b.natAbs))) O O isAgg75 sizeOf75 O) (λw hw=>⟨by rw [Sa],hw.out⟩)))))))))
theorem I1 (a b:Int) (ha:nw a.natAbs<=1099511627776) (hb:nw b.natAbs<=1099511627776) (w:World)  :Calls prog 178 #[(Value.func (.func 200) #[] #[]),(aG (A7 a)),(aG (A7 b))] w (AX w (aG (A7 (a+b)))):=by
 refine AS (args:=[(Value.func (.func 200) #[] #[]),(aG (A7 a)),(aG (A7 b))]) func178 O O (leB O) (zM (sL [0,1,2] O) (q4 (BG (cs:=A7 a) O λb1=>BG (cs:=A7 b) O λb2=>al J5 O λb3=>q3 (sL [0,4,5,6] O) (AJ O (An 2 DK O (An 1 DK O (ck' call200 (ZS a b (by first|omega|(simp only [Int.natAbs_neg,Ax,Int.natAbs_natCast];omega)) (by first|omega|(simp only [Int.natAbs_neg,Ax,Int.natAbs_natCast];omega))) O (Aj O sizeOf75 O ?_))))))))
 exact oNl' (zF (sL [6] O) (zC (zH (ret_one O (Ah (i:=0) (cs:=A7 (a+b)) O O isAgg75 sizeOf75 O) (λw hw=>⟨rfl,hw.out⟩)))))
theorem Mb (a b:Int) (ha:nw a.natAbs<=1099511627776) (hb:nw b.natAbs<=1099511627776) (w:World)  :Calls prog 178 #[(Value.func (.func 179) #[] #[]),(aG (A7 a)),(aG (A7 b))] w (AX w (aG (A7 (a*b)))):=by
 refine AS (args:=[(Value.func (.func 179) #[] #[]),(aG (A7 a)),(aG (A7 b))]) func178 O O (leB O) (zM (sL [0,1,2] O) (q4 (BG (cs:=A7 a) O λb1=>BG (cs:=A7 b) O λb2=>al J5 O λb3=>q3 (sL [0,4,5,6] O) (AJ O (An 2 DK O (An 1 DK O (ck' call179 (Xr a b (by first|omega|(simp only [Int.natAbs_neg,Ax,Int.natAbs_natCast];omega)) (by first|omega|(simp only [Int.natAbs_neg,Ax,Int.natAbs_natCast];omega))) O (Aj O sizeOf75 O ?_))))))))
 exact oNl' (zF (sL [6] O) (zC (zH (ret_one O (Ah (i:=0) (cs:=A7 (a*b)) O O isAgg75 sizeOf75 O) (λw hw=>⟨rfl,hw.out⟩)))))
theorem N0 (a b:Int) (ha:nw a.natAbs<=1099511627776) (hb:nw b.natAbs<=1099511627776) (w:World)  :Calls prog 151 #[(aG (A7 a)),(aG (A7 b))] w (AX w (aG (A7 (a+b)))):=by
 refine AS (args:=[(aG (A7 a)),(aG (A7 b))]) func151 O O (leB O) (zM (sL [0,1] O) (q4 (BG (cs:=A7 a) O λb1=>BG (cs:=A7 b) O λb2=>al J5 O λb3=>q3 (sL [2,3,4] O) (An 2 DK O (An 1 DK O (ck' call178 (I1 a b (by first|omega|(simp only [Int.natAbs_neg,Ax,Int.natAbs_natCast];omega)) (by first|omega|(simp only [Int.natAbs_neg,Ax,Int.natAbs_natCast];omega))) O (Aj O sizeOf75 O (oNl' ?_))))))))
 exact zF (sL [4] O) (zC (zH (ret_one O (Ah (i:=0) (cs:=A7 (a+b)) O O isAgg75 sizeOf75 O) (λw hw=>⟨rfl,hw.out⟩))))
theorem Yz (a b:Int) (ha:nw a.natAbs<=1099511627776) (hb:nw b.natAbs<=1099511627776) (w:World)  :Calls prog 177 #[(aG (A7 a)),(aG (A7 b))] w (AX w (aG (A7 (a-b)))):=by
 refine AS (args:=[(aG (A7 a)),(aG (A7 b))]) func177 O O (leB O) (zM (sL [0,1] O) (q4 (BG (cs:=A7 a) O λb1=>BG (cs:=A7 b) O λb2=>al J5 O λb3=>q6 (sL [2,3,4] O) (CE [(0,true),(1,true),(2,false),(3,false),(4,false)] (sl sr) (C3 1 DK O (C3 0 DK O (zL O (ck' call106 (SR b) O ?_))))))))
 exact zG (sl sr) (zL O (ck' call178 (I1 a (-b) (by first|omega|(simp only [Int.natAbs_neg,Ax,Int.natAbs_natCast];omega)) (by first|omega|(simp only [Int.natAbs_neg,Ax,Int.natAbs_natCast];omega))) O (zG (sl sr) (zL O (Aj O sizeOf75 O (zG (sl sr) (zT (zF (sL [4] O) (zC (zH (ret_one O (Ah (i:=0) (cs:=A7 (a+(-b))) O O isAgg75 sizeOf75 O) (λw hw=>⟨by rw [Int.sub_eq_add_neg],hw.out⟩))))))))))))
theorem Hd (a b:Int) (ha:nw a.natAbs<=1099511627776) (hb:nw b.natAbs<=1099511627776) (w:World)  :Calls prog 123 #[(aG (A7 a)),(aG (A7 b))] w (AX w (aG (A7 (a*b)))):=by
 refine AS (args:=[(aG (A7 a)),(aG (A7 b))]) func123 O O (leB O) (zM (sL [0,1] O) (q4 (BG (cs:=A7 a) O λb1=>BG (cs:=A7 b) O λb2=>al J5 O λb3=>q3 (sL [2,3,4] O) (An 2 DK O (An 1 DK O (ck' call178 (Mb a b (by first|omega|(simp only [Int.natAbs_neg,Ax,Int.natAbs_natCast];omega)) (by first|omega|(simp only [Int.natAbs_neg,Ax,Int.natAbs_natCast];omega))) O (Aj O sizeOf75 O (oNl' ?_))))))))
 exact zF (sL [4] O) (zC (zH (ret_one O (Ah (i:=0) (cs:=A7 (a*b)) O O isAgg75 sizeOf75 O) (λw hw=>⟨rfl,hw.out⟩))))
theorem SQ (a b:Int) (ha:nw a.natAbs<=1099511627776) (hb:nw b.natAbs<=1099511627776) (w:World)  :Calls prog 122 #[(aG (A7 a)),(aG (A7 b))] w (AX w (vI ((a-b).sign))):=by
 refine AS (args:=[(aG (A7 a)),(aG (A7 b))]) func122 O O (leB O) (zM (sL [0,1] O) (q4 (BG (cs:=A7 a) O λb1=>BG (cs:=A7 b) O λb2=>asg' O (q3 (sL [2,3,4] O) (An 1 DK O (An 0 DK O (ck' call177 (Yz a b (by first|omega|(simp only [Int.natAbs_neg,Ax,Int.natAbs_natCast];omega)) (by first|omega|(simp only [Int.natAbs_neg,Ax,Int.natAbs_natCast];omega))) O (ck' call176 (LN (a-b)) O (asg' O ?_)))))))))
 exact oNl' (zF (sL [4] O) (zC (zH (ret_one O (rd_tmp (v:=(vI ((a-b).sign))) O) (λw hw=>⟨rfl,hw.out⟩)))))
end
end Go.Proofs.YtpolhpjiahbidaaGreatDoor
