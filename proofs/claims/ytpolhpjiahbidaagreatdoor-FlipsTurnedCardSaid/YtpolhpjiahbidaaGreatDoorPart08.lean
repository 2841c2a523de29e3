import Derived.Test.YtpolhpjiahbidaaGreatDoorPart07
namespace Go.Proofs.YtpolhpjiahbidaaGreatDoor
open Go Go.RowKit Go.Proofs.Tryz
open Go.Value renaming slice→qz,bool→qa
set_option linter.unusedVariables false
set_option linter.unusedSimpArgs false
section
set_option maxRecDepth 100000
theorem Pb {R P D Q X:Nat} (h1:D=Q+X) (h2:Q<=R) (h3:R<P) (h4:R<D) (h5:X<=P):R+P-D+X=R-Q+P:=by omega
theorem X0 (a b p q c1 c2:Nat) (ha:nw a<=1099511627776) (hb2:2<=nw b) (hba:nw b<=nw a) (w:World) (hp:w.heap[p]?=some (.cells (Ak (Aw a)).toArray 92 (0,0))) (hq:w.heap[q]?=some (.cells (Ak (Aw b)).toArray 92 (0,0))):Calls prog 243 #[(qz (jk p) (nw a) c1),(qz (jk q) (nw b) c2)] w (λe w'=>∃b1 b2,e=.returned (.tuple #[.slice (jk b1) (nw a+1-nw b) (nw a+1-nw b),.slice (jk b2) (nw a+1) (nw a+1)])/\Fr w.heap.size w w'/\w.heap.size<=b1/\w.heap.size<=b2/\b1≠b2/\w'.heap[b1]?=some (.cells (Ak (Cq (nw a+1-nw b) (a/b))).toArray 92 (0,0))/\w'.heap[b2]?=some (.cells (Ak (Cq (nw a+1) (a%b))).toArray 92 (0,0))):=by
 have hla:=CQ a
 have hlb:=CQ b
 have hb0:0<b:=Nat.pos_of_ne_zero (λh=>by rw [h,Nq] at hb2;omega)
 obtain ⟨s,hs⟩:∃s,s=32-bl ((AJ b).getD (nw b-1) 0):=⟨_,rfl⟩
 obtain ⟨hs32,hlow,hhigh⟩:=Zl Z hs
 obtain ⟨m,hm⟩:∃m,m=nw a+1-nw b:=⟨_,rfl⟩
 obtain ⟨V,hV⟩:∃V,V=b*2^s:=⟨_,rfl⟩
 obtain ⟨vb,hvb⟩:∃vb,vb=Cq (nw b+1) (b*2^s):=⟨_,rfl⟩
 have hbig:b*2^s<4294967296^(nw b+1):=Nat.lt_of_lt_of_le hhigh (Nat.pow_le_pow_right Z Z)
 have hN:PY vb (nw b) V:=⟨by rw [hvb];exact EG _ _,by rw [hvb];exact Bi _ _,hb2,by rw [hvb,hV];exact FP _ _ hbig,by rw [hV];exact hlow,by rw [hV];exact hhigh⟩
 have hst:=P7 rfl Z hs32 hlow hm hba
 have hA:val (Cq (nw a+1) (a*2^s))=a*2^s:=FP _ _ (by rw [Nat.pow_succ];exact Nat.mul_lt_mul_of_lt_of_le (CD a) (xM (Nat.pow_le_pow_right Z (show s<=32 by omega)) jY) Z)
 have hvlen:=hN.len
 have htop:=hN.top
 have htw:=(O8 (b:=b) Z).2.2
 refine AY (args:=[(qz (jk p) (nw a) c1),(qz (jk q) (nw b) c2)]) func243 O O (BA O) (zM (sL [0,1] O) (q4 (asg' O (asg' O (oNl' (q2 (AL O (AL O (AD (v:=(vN (nw b))) (AE O underlying255) O (AD (B3 (c:=(((nw b)-1:Nat):Int)) O O (CZ (a:=nw b) (b:=1) Z Z)) O (AD (v:=(pP q ((nw b)-1))) (AG (j:=(nw b)-1) O O underlying255 sizeOf92 O Z jX) O ?_)))))))))))
 have hx1:(Aw b).getD ((nw b)-1) 0<4294967296:=W32.getD (CY b) ((nw b)-1)
 refine AD (BZ (v:=(vK .u32 ((Aw b).getD ((nw b)-1) 0))) O (λw' hw=>CA.at0 (hw.oldCA jX (El hq)) (BH (xs:=Aw b) (j:=((nw b)-1)) Z)) isAgg92) O (zI (k:=22) (u:=(vK .u32 ((AJ b).getD (nw b-1) 0))) O (by rw [Dt Z]) (ck' call272 (X3 ((AJ b).getD (nw b-1) 0) Z) O (zI (k:=23) (u:=(vN s)) O (by rw [hs]) (asg' O (q6 (sL [0,1,4,5,6] O) (DC [(0,true),(1,true),(3,true),(4,true),(6,true),(7,true),(2,false),(5,false),(8,true),(9,true),(10,true)] sr (By O (By O (By O (By O (By O ?_)))))))))))
 refine Am (v:=(vN (nw b))) O (AE O underlying255) (zN O (z8 (V:=λb1=>(qz (jk b1) (nw a+1) (nw a+1))) (T:=92) (cs:=Ak (Cq (nw a+1) (a*2^s))) (AI O) (Ar (args:=[(qz (jk p) (nw a) c1),(vN s)]) O O call273) (λw hw=>(by have h:=Lc p (nw a) c1 s (Aw a) (CY a) hla Z hs32 w (hw.old jX hp);rw [Ip] at h;exact h)) O (BA O) λb1=>zD (sl sr) (zN O (z8 (V:=λb2=>(qz (jk b2) (nw b+1) (nw b+1))) (T:=92) (cs:=Ak vb) (AI O) (Ar (args:=[(qz (jk q) (nw b) c2),(vN s)]) O O call273) (λw hw=>(by have h:=Lc q (nw b) c2 s (Aw b) (CY b) hlb Z hs32 w (hw.old jX hq);rw [Ip,<-hvb] at h;exact h)) O (BA O) λb2=>zD (sl (sl sr)) (Am (v:=(qz (jk b2) (nw b) (nw b+1))) O (JZ (m:=nw b) O O underlying255 sizeOf92 Z) (pS' O (pS' O (zQ (zB (sL [1,4,5,6,7,8] O) ?_)))))))))
 refine q2 (AL O (AD (v:=(vN (nw b))) (AE O underlying255) O (asg' O (q3 (sL [1,4,5,6,7,8,9] O) (AL O (AD (v:=(vN (nw a+1))) (AE O underlying255) O (AL O (AD (B3 (c:=(((nw a+1)-(nw b):Nat):Int)) O O (CZ (a:=nw a+1) (b:=nw b) Z Z)) O (zI (k:=38) (u:=(vN m)) O (by rw [hm]) (zZ (V:=λb3=>(qz (jk b3) m m)) (T:=92) (cs:=Ak (List.replicate m 0)) (AI O) (DR (m:=m) (c:=m) O O Z Z) O (BA O) λb3=>asg' O ?_))))))))))
 refine q6 (sL [1,4,5,6,7,8,9] O) (q4 (AL O (AD (v:=(vN m)) (AE O underlying255) O (AD (B3 (c:=(((m:Nat):Int)-1)) O O (BJ Z Z)) O (asg' O (oNl' (zB (sL [1,4,5,6,7,8,9,10] O) (zA (zJ ?_)))))))))
 refine yR (tg λ(k0:Nat) (us:List Nat) (qs:List Nat)=>k0<=m/\us.length=nw a+1/\W32 us/\qs.length=m/\W32 qs/\(∀j,j<k0->qs.getD j 0=0)/\val us<V*4294967296^k0/\a*2^s=val qs*V+val us) (tg λ(k0:Nat) (us:List Nat) (qs:List Nat)=>[(4,(qz (jk b3) m m)),(5,jj),(6,(vN s)),(7,(qz (jk b1) (nw a+1) (nw a+1))),(8,(qz (jk b2) (nw b) (nw b+1))),(9,(vN (nw b))),(10,(vI (((k0:Nat):Int)-1)))]) (tg λ(k0:Nat) (us:List Nat) (qs:List Nat)=>[AX b3 92 (Ak qs),AX b2 92 (Ak vb),AX b1 92 (Ak us)]) (tg λ(k0:Nat) (us:List Nat) (qs:List Nat)=>k0) m (Cq (nw a+1) (a*2^s)) (List.replicate m 0) (⟨Nat.le_refl _,Bi _ _,EG _ _,by simp,W32.zeros _,λj _=>by simp [List.getD_eq_getElem?_getD,List.getElem?_replicate];split<;>rfl,by rw [hA,hV];exact hst,by rw [hA,EV];simp⟩) (sF O) sr (λk0 us qs hJ=>?_)
 obtain ⟨hk0,hul,huw,hql,hqw,hqz,hlt,hAeq⟩:=hJ
 refine zX (q4 (AL O (AD (ER (c:=(decide ((0:Int)<=(((k0:Nat):Int)-1)))) O O O) O (oNl' (zB (sL [4,5,6,7,8,9,10,44] O) (zA ?_))))))
 refine zL O (λhc0=>?_) (λhc0=>?_)
 ·replace hc0:=xT hc0
  obtain ⟨k,rfl⟩:∃k,k0=k+1:=⟨k0-1,Z⟩
  obtain ⟨top,htp⟩:∃t,t=us.getD (k+nw b) 0*4294967296+us.getD (k+nw b-1) 0:=⟨_,rfl⟩
  obtain ⟨W,hWd⟩:∃x,x=val us/4294967296^k:=⟨_,rfl⟩
  have hWin:=aJ hN huw hlt
  rw [<-htp,<-hWd] at hWin
  have hu2:=huw.getD (k+nw b-2)
  have hG0:=Of hN hWin hu2
  have htb:=hWin.topb
  have hq32:=hWin.quo_lt hN.pos
  refine yP (k:=10) (u:=(vN k)) O (by congr 1;omega) (zC (q1 (zJ (OkC.scope (zX (DC (Er 18) sr (By O (By O (By O (Am O (AT (c:=((k+(nw b):Nat):Int)) O O (AV (a:=k) (b:=nw b) Z)) (Am (v:=(pP b1 (k+(nw b)))) O (AG (j:=k+(nw b)) O O underlying255 sizeOf92 O Z jX) ?_)))))))))))
  have hx2:us.getD (k+(nw b)) 0<4294967296:=W32.getD huw (k+(nw b))
  refine Am O (AH (i:=2) (v:=(vK .u32 (us.getD (k+(nw b)) 0))) O O isAgg92 (BH (xs:=us) (j:=(k+(nw b))) Z)) (Am O (Au (c:=((us.getD (k+(nw b)) 0:Nat):Int)) O underlying92 underlying69 (BY Z)) (Am (v:=(vK .u64 (us.getD (k+nw b) 0*4294967296))) O (Gz (s:=32) O O O jY (G7 (s:=32) Z)) (By O (By O (By O (Am O (AT (c:=((k+(nw b):Nat):Int)) O O (AV (a:=k) (b:=nw b) Z)) (Am O (B3 (c:=(((k+(nw b))-1:Nat):Int)) O O (CZ (a:=k+(nw b)) (b:=1) Z Z)) (Am (v:=(pP b1 ((k+(nw b))-1))) O (AG (j:=(k+(nw b))-1) O O underlying255 sizeOf92 O Z jX) ?_))))))))
  have hx3:us.getD ((k+(nw b))-1) 0<4294967296:=W32.getD huw ((k+(nw b))-1)
  refine Am O (AH (i:=2) (v:=(vK .u32 (us.getD ((k+(nw b))-1) 0))) O O isAgg92 (BH (xs:=us) (j:=((k+(nw b))-1)) Z)) (Am O (Au (c:=((us.getD ((k+(nw b))-1) 0:Nat):Int)) O underlying92 underlying69 (BY Z)) (Am O (JY (c:=((top:Nat):Int)) O O (KK Z Z (((Nat.or_comm _ _).trans ((H6 (s:=32) Z).trans (Nat.add_comm _ _))).trans htp.symm))) (pS' O (zQ (zB (sL [4,5,6,7,8,9,10,11] O) (q1 (DC (Er 18) sr (By O (By O (By O (Am O (B3 (c:=(((nw b)-1:Nat):Int)) O O (CZ (a:=nw b) (b:=1) Z Z)) ?_)))))))))))
  refine Am (v:=(pP b2 ((nw b)-1))) O (AG (j:=(nw b)-1) O O underlying255 sizeOf92 O Z jX) ?_
  have hx4:vb.getD ((nw b)-1) 0<4294967296:=W32.getD hN.w32 ((nw b)-1)
  refine Am O (AH (i:=1) (v:=(vK .u32 (vb.getD ((nw b)-1) 0))) O O isAgg92 (BH (xs:=vb) (j:=((nw b)-1)) Z)) (Am O (Au (c:=((vb.getD ((nw b)-1) 0:Nat):Int)) O underlying92 underlying69 (BY Z)) (Am O (Gy (c:=((top/(vb.getD ((nw b)-1) 0):Nat):Int)) O O Z (LZ (a:=top) (b:=vb.getD ((nw b)-1) 0) Z)) (By O (By O (By O (Am O (B3 (c:=(((nw b)-1:Nat):Int)) O O (CZ (a:=nw b) (b:=1) Z Z)) (Am (v:=(pP b2 ((nw b)-1))) O (AG (j:=(nw b)-1) O O underlying255 sizeOf92 O Z jX) ?_)))))))
  have hx5:vb.getD ((nw b)-1) 0<4294967296:=W32.getD hN.w32 ((nw b)-1)
  refine Am O (AH (i:=1) (v:=(vK .u32 (vb.getD ((nw b)-1) 0))) O O isAgg92 (BH (xs:=vb) (j:=((nw b)-1)) Z)) (Am O (Au (c:=((vb.getD ((nw b)-1) 0:Nat):Int)) O underlying92 underlying69 (BY Z)) (Am O (CB (c:=((top%(vb.getD ((nw b)-1) 0):Nat):Int)) O O Z (Ij (a:=top) (b:=vb.getD ((nw b)-1) 0))) (pS' O (pS' O (zQ (zB (sL [4,5,6,7,8,9,10,12,13] O) (q1 (OkC.label (q1 ?_)))))))))
  refine yF (tg λ(d:Nat)=>d<=4294967295/\(d=W/V\/d=W/V+1)) (tg λ(d:Nat)=>[(4,(qz (jk b3) m m)),(5,jj),(6,(vN s)),(7,(qz (jk b1) (nw a+1) (nw a+1))),(8,(qz (jk b2) (nw b) (nw b+1))),(9,(vN (nw b))),(10,(vN k)),(12,(vK .u64 d))]) (tg λ(d:Nat)=>[AX b3 92 (Ak qs),AX b2 92 (Ak vb),AX b1 92 (Ak us)]) ?_ ?_
  ·refine zJ ?_
   refine yG (tg λ(d:Nat) (r:Nat)=>IH V W (vb.getD (nw b-1) 0) top d r/\r<8589934592/\d<8589934593) (tg λ(d:Nat) (r:Nat)=>[(4,(qz (jk b3) m m)),(5,jj),(6,(vN s)),(7,(qz (jk b1) (nw a+1) (nw a+1))),(8,(qz (jk b2) (nw b) (nw b+1))),(9,(vN (nw b))),(10,(vN k)),(12,(vK .u64 d)),(13,(vK .u64 r))]) (tg λ(d:Nat) (r:Nat)=>[AX b3 92 (Ak qs),AX b2 92 (Ak vb),AX b1 92 (Ak us)]) (tg λ(d:Nat) (r:Nat)=>d) (top/vb.getD (nw b-1) 0) (top%vb.getD (nw b-1) 0) (⟨hG0,by have:=Nat.mod_lt top (show vb.getD (nw b-1) 0>0 by omega);omega,Nat.div_lt_of_lt_mul Z⟩) (sF O) sr (λd r hJ=>?_)
   obtain ⟨hG,hr2,hd2⟩:=hJ
   refine zX (q4 (AL O (AD (I2 (c:=(decide (r<=4294967295))) O O (Xx (a:=r) (b:=4294967295))) O (oNl' (zB (sL [4,5,6,7,8,9,10,12,13,81] O) (zA ?_))))))
   refine zL O (λhc1=>?_) (λhc1=>?_)
   ·replace hc1:=xT hc1
    refine zC (zA (zJ (zX (zX ?_))))
    by_cases hsp:d<=4294967295
    ·have hv2:=hN.w32.getD (nw b-2)
     have hml:=LF (a:=d) (b:=vb.getD (nw b-2) 0) Z hv2
     refine DC (Er 24) sr (By O (Am O (I2 (c:=true) O O (Xx.trans (xI hsp))) (By O (zY (v:=(vK .u64 d)) O (Ab O) (Ca O) O O (zY (v:=(qz (jk b2) (nw b) (nw b+1))) O (Ab O) (Ca O) O O (zY (v:=(vN (nw b))) O (Ab O) (Ca O) O O (zY (v:=(vN ((nw b)-2))) O (Ab O) (B3 (c:=(((nw b)-2:Nat):Int)) O O (CZ (a:=nw b) (b:=2) Z Z)) O O (zY (v:=(pP b2 ((nw b)-2))) O (Ab O) (AG (j:=(nw b)-2) O O underlying255 sizeOf92 O Z jX) O O ?_))))))))
     have hx6:vb.getD ((nw b)-2) 0<4294967296:=W32.getD hN.w32 ((nw b)-2)
     refine zY (v:=(vK .u32 (vb.getD ((nw b)-2) 0))) O (Ab O) (AH (i:=1) (v:=(vK .u32 (vb.getD ((nw b)-2) 0))) O O isAgg92 (BH (xs:=vb) (j:=((nw b)-2)) Z)) O O (zY (v:=(vK .u64 (vb.getD ((nw b)-2) 0))) O (Ab O) (Au (c:=((vb.getD ((nw b)-2) 0:Nat):Int)) O underlying92 underlying69 (BY Z)) O O (zY (v:=(vK .u64 (d*(vb.getD ((nw b)-2) 0)))) O (Ab O) (Bx (c:=((d*(vb.getD ((nw b)-2) 0):Nat):Int)) O O (FL (a:=d) (b:=vb.getD ((nw b)-2) 0) Z)) O O (zY (v:=(vK .u64 r)) O (Ab O) (Ca O) O O (zY (v:=(vK .u64 (r*4294967296))) O (Ab O) (Gz (s:=32) O O O jY (G7 (s:=32) Z)) O O (zY (v:=(qz (jk b1) (nw a+1) (nw a+1))) O (Ab O) (Ca O) O O (zY (v:=(vN k)) O (Ab O) (Ca O) O O (zY (v:=(vN (nw b))) O (Ab O) (Ca O) O O (zY (v:=(vN (k+(nw b)))) O (Ab O) (AT (c:=((k+(nw b):Nat):Int)) O O (AV (a:=k) (b:=nw b) Z)) O O (zY (v:=(vN ((k+(nw b))-2))) O (Ab O) (B3 (c:=(((k+(nw b))-2:Nat):Int)) O O (CZ (a:=k+(nw b)) (b:=2) Z Z)) O O (zY (v:=(pP b1 ((k+(nw b))-2))) O (Ab O) (AG (j:=(k+(nw b))-2) O O underlying255 sizeOf92 O Z jX) O O ?_))))))))))
     have hx7:us.getD ((k+(nw b))-2) 0<4294967296:=W32.getD huw ((k+(nw b))-2)
     refine zY (v:=(vK .u32 (us.getD ((k+(nw b))-2) 0))) O (Ab O) (AH (i:=2) (v:=(vK .u32 (us.getD ((k+(nw b))-2) 0))) O O isAgg92 (BH (xs:=us) (j:=((k+(nw b))-2)) Z)) O O (zY (v:=(vK .u64 (us.getD ((k+(nw b))-2) 0))) O (Ab O) (Au (c:=((us.getD ((k+(nw b))-2) 0:Nat):Int)) O underlying92 underlying69 (BY Z)) O O (zY (v:=(vK .u64 (r*4294967296+us.getD (k+nw b-2) 0))) O (Ab O) (JY (c:=((r*4294967296+us.getD (k+nw b-2) 0:Nat):Int)) O O (KK Z Z (((Nat.or_comm _ _).trans ((H6 (s:=32) Z).trans (Nat.add_comm _ _)))))) O O (zY (v:=(qa (decide ((d*(vb.getD ((nw b)-2) 0))<=(r*4294967296+us.getD (k+nw b-2) 0))))) O (Ab O) (I2 (c:=(decide ((d*(vb.getD ((nw b)-2) 0))<=(r*4294967296+us.getD (k+nw b-2) 0)))) O O (Xx (a:=d*(vb.getD ((nw b)-2) 0)) (b:=r*4294967296+us.getD (k+nw b-2) 0))) O O (Am (v:=(qa (decide ((d*(vb.getD ((nw b)-2) 0))<=(r*4294967296+us.getD (k+nw b-2) 0))))) O (AW O O) (zQ (zB (sL [4,5,6,7,8,9,10,12,13,105] O) (zA ?_)))))))
     refine zL O (λhc2=>?_) (λhc2=>?_)
     ·replace hc2:=xT hc2
      have hg:=LC hN hWin hG (.inr ⟨hsp,hc2⟩)
      exact zU (zO (OkQ.in_exit_ne O (zm (zP (zi d (hg) (sF O) sr)))))
     ·replace hc2:=xS hc2
      obtain ⟨hng1,hng2⟩:=LH hN hWin hG (λh=>hc2 h.2)
      refine zC (q2 (AL O (AD (B3 (c:=((d-1:Nat):Int)) O O (In (a:=d) (b:=1) Z Z)) O (asg' O (oNl' (zB (sL [4,5,6,7,8,9,10,12,13] O) (zA (zH (AL O (AL O (AL O ?_)))))))))))
      refine AD (B3 (c:=(((nw b)-1:Nat):Int)) O O (CZ (a:=nw b) (b:=1) Z Z)) O (AD (v:=(pP b2 ((nw b)-1))) (AG (j:=(nw b)-1) O O underlying255 sizeOf92 O Z jX) O ?_)
      have hx8:vb.getD ((nw b)-1) 0<4294967296:=W32.getD hN.w32 ((nw b)-1)
      exact AD (AH (i:=1) (v:=(vK .u32 (vb.getD ((nw b)-1) 0))) O O isAgg92 (BH (xs:=vb) (j:=((nw b)-1)) Z)) O (AD (Au (c:=((vb.getD ((nw b)-1) 0:Nat):Int)) O underlying92 underlying69 (BY Z)) O (AD (AT (c:=((r+(vb.getD ((nw b)-1) 0):Nat):Int)) O O (Dn (a:=r) (b:=vb.getD ((nw b)-1) 0) Z)) O (asg' O (oNl' (zB (sL [4,5,6,7,8,9,10,12,13] O) (zG (zn (d-1) (r+vb.getD (nw b-1) 0) (⟨hng1,Z,Z⟩) Z (sF O) sr)))))))
    ·obtain ⟨hng1,hng2⟩:=LH hN hWin hG (λh=>hsp h.1)
     refine DC (Er 24) sr (By O (Am O (I2 (c:=false) O O (Xx.trans (xH hsp))) (By O (zy O (B9 O) O O (zy O (B9 O) O O (zy O (B9 O) O O (zy O (B9 O) O O (zy O (B9 O) O O (zy O (B9 O) O O (zy O (B9 O) O O (zy O (B9 O) O O ?_)))))))))))
     refine zy O (B9 O) O O (zy O (B9 O) O O (zy O (B9 O) O O (zy O (B9 O) O O (zy O (B9 O) O O (zy O (B9 O) O O (zy O (B9 O) O O (zy O (B9 O) O O (zy O (B9 O) O O (zy O (B9 O) O O (zy O (B9 O) O O (zy O (B9 O) O O ?_)))))))))))
     refine Am (v:=(qa false)) O (AQ O O) (zQ (zB (sL [4,5,6,7,8,9,10,12,13,105] O) (zA (zT O (zC (q2 (AL O (AD (B3 (c:=((d-1:Nat):Int)) O O (In (a:=d) (b:=1) Z Z)) O (asg' O (oNl' (zB (sL [4,5,6,7,8,9,10,12,13] O) ?_)))))))))))
     refine zA (zH (AL O (AL O (AL O (AD (B3 (c:=(((nw b)-1:Nat):Int)) O O (CZ (a:=nw b) (b:=1) Z Z)) O (AD (v:=(pP b2 ((nw b)-1))) (AG (j:=(nw b)-1) O O underlying255 sizeOf92 O Z jX) O ?_))))))
     have hx9:vb.getD ((nw b)-1) 0<4294967296:=W32.getD hN.w32 ((nw b)-1)
     exact AD (AH (i:=1) (v:=(vK .u32 (vb.getD ((nw b)-1) 0))) O O isAgg92 (BH (xs:=vb) (j:=((nw b)-1)) Z)) O (AD (Au (c:=((vb.getD ((nw b)-1) 0:Nat):Int)) O underlying92 underlying69 (BY Z)) O (AD (AT (c:=((r+(vb.getD ((nw b)-1) 0):Nat):Int)) O O (Dn (a:=r) (b:=vb.getD ((nw b)-1) 0) Z)) O (asg' O (oNl' (zB (sL [4,5,6,7,8,9,10,12,13] O) (zG (zn (d-1) (r+vb.getD (nw b-1) 0) (⟨hng1,Z,Z⟩) Z (sF O) sr)))))))
   ·replace hc1:=xS hc1
    have hg:=LC hN hWin hG (.inl Z)
    exact zU (zO (zm (zP (zi d (hg) (sF O) sr))))
  ·intro d hJ
   obtain ⟨hdb,hdq⟩:=hJ
   refine q1 (q4 (AL O (AL O (AL O (AL O (AD (AT (c:=((k+(nw b):Nat):Int)) O O (AV (a:=k) (b:=nw b) Z)) O (AD (AT (c:=(((k+(nw b))+1:Nat):Int)) O O (AV (a:=k+(nw b)) (b:=1) Z)) O (AD (v:=(qz (some ⟨b1,k,none⟩) (((k+(nw b))+1)-k) ((nw a+1)-k))) (NR (i:=k) (m:=(k+(nw b))+1) O O O underlying255 sizeOf92 Z Z Z jX) O (zI (k:=122) (u:=(qz (some ⟨b1,k,none⟩) (nw b+1) ((nw a+1)-k))) O (by rw [show k+nw b+1-k=nw b+1 by omega]) (AL O (AL O ?_)))))))))))
   refine yW (v:=(qa (decide (val us<d*val (vb.take (nw b))*4294967296^k)))) (i:=2) (cs':=Ak (Cq (nw a+1) (val us+(if val us<d*val (vb.take (nw b))*4294967296^k then 4294967296^(k+nw b+1) else 0)-d*val (vb.take (nw b))*4294967296^k))) (L':=[AX b3 92 (Ak qs),AX b2 92 (Ak vb),AX b1 92 (Ak (Cq (nw a+1) (val us+(if val us<d*val (vb.take (nw b))*4294967296^k then 4294967296^(k+nw b+1) else 0)-d*val (vb.take (nw b))*4294967296^k)))]) (AI O) (Ar (args:=[(qz (some ⟨b1,k,none⟩) (nw b+1) ((nw a+1)-k)),(qz (jk b2) (nw b) (nw b+1)),(vK .u64 d)]) O O call274) O (λw hw=>Xy _ _ k (nw b) (nw a+1) _ _ d us vb huw hul hN.w32 Z Z Z Z hWin.fits ((hw.apart (i:=1) (j:=2) jY O O)) w (hw.get (i:=2) O) (hw.get (i:=1) O)) (λd hd=>by cases hd<;>exact (BA O)) O (oNl' (zB (sL [4,5,6,7,8,9,10,12,125] O) (zA ?_)))
   refine yF (tg λ(us2:List Nat)=>us2.length=nw a+1/\W32 us2/\val us2=val us-W/V*V*4294967296^k) (tg λ(us2:List Nat)=>[(4,(qz (jk b3) m m)),(5,jj),(6,(vN s)),(7,(qz (jk b1) (nw a+1) (nw a+1))),(8,(qz (jk b2) (nw b) (nw b+1))),(9,(vN (nw b))),(10,(vN k)),(12,(vK .u64 (W/V)))]) (tg λ(us2:List Nat)=>[AX b3 92 (Ak qs),AX b2 92 (Ak vb),AX b1 92 (Ak us2)]) ?_ ?_
   ·refine zL O (λhc3=>?_) (λhc3=>?_)
    ·replace hc3:=xT hc3
     have hP:4294967296^(k+nw b+1)<=4294967296^(nw a+1):=Nat.pow_le_pow_right Z Z
     rw [hN.take] at hc3
     obtain ⟨hde,hdS⟩:=P3 (vb:=vb) hWin hdq hc3
     have hXP:V*4294967296^k<=4294967296^(k+nw b+1):=xM (Nat.mul_le_mul_right _ (Nat.le_of_lt hN.high)) (by rw [<-Nat.pow_add];exact Nat.pow_le_pow_right Z Z)
     have hqle:=QM (vb:=vb) hWin
     have hfit:=hWin.fits
     have hd1:1<=d:=by rw [hde];exact Nat.le_add_left _ _
     have hU1:val (Cq (nw a+1) (val us+(if val us<d*val (vb.take (nw b))*4294967296^k then 4294967296^(k+nw b+1) else 0)-d*val (vb.take (nw b))*4294967296^k))=val us+4294967296^(k+nw b+1)-d*V*4294967296^k:=by rw [hN.take,if_pos hc3,FP _ _ Z]
     have hU1lt:val (Cq (nw a+1) (val us+(if val us<d*val (vb.take (nw b))*4294967296^k then 4294967296^(k+nw b+1) else 0)-d*val (vb.take (nw b))*4294967296^k))<4294967296^(k+nw b+1):=by rw [hU1];omega
     refine q4 (AL O (AD (B3 (c:=((d-1:Nat):Int)) O O (In (a:=d) (b:=1) Z Z)) O (asg' O (q3 (sL [4,5,6,7,8,9,10,12] O) (asg' O (oNl' (q1 (q4 (AL O (AD (v:=(vN (nw b))) (AE O underlying255) O (AL O ?_)))))))))))
     refine oNl' (zA (zJ ?_))
     refine yR (tg λ(i:Nat) (os:List Nat) (c:Nat)=>i<=nw b/\os.length=nw a+1/\W32 os/\c<=1/\(∀j,k+nw b+1<=j->os.getD j 0=0)/\val os+c*4294967296^(k+i)=(val us+4294967296^(k+nw b+1)-d*V*4294967296^k)+val (vb.take i)*4294967296^k) (tg λ(i:Nat) (os:List Nat) (c:Nat)=>[(4,(qz (jk b3) m m)),(5,jj),(6,(vN s)),(7,(qz (jk b1) (nw a+1) (nw a+1))),(8,(qz (jk b2) (nw b) (nw b+1))),(9,(vN (nw b))),(10,(vN k)),(12,(vK .u64 (d-1))),(128,(qz (jk b2) (nw b) (nw b+1))),(129,(vN (nw b))),(130,(vN i)),(14,(vK .u32 c))]) (tg λ(i:Nat) (os:List Nat) (c:Nat)=>[AX b3 92 (Ak qs),AX b2 92 (Ak vb),AX b1 92 (Ak os)]) (tg λ(i:Nat) (os:List Nat) (c:Nat)=>nw b-i) 0 (Cq (nw a+1) (val us+(if val us<d*val (vb.take (nw b))*4294967296^k then 4294967296^(k+nw b+1) else 0)-d*val (vb.take (nw b))*4294967296^k)) 0 (⟨xJ _,Bi _ _,EG _ _,Z,Jl hU1lt,by rw [hU1];simp [val]⟩) (sF O) sr (λi os c hJ=>?_)
     obtain ⟨hi,hl,hw32,hcc,hz,hv⟩:=hJ
     refine q4 (AD (Aa (c:=(decide (i<(nw b)))) O O (DB (a:=i) (b:=nw b))) O (oNl' (q1 ?_)))
     refine zL O (λhc4=>?_) (λhc4=>?_)
     ·replace hc4:=xT hc4
      refine zC (q1 (zJ (q4 (AL O (AD (v:=(pP b2 i)) (AG (j:=i) O O underlying255 sizeOf92 O Z jX) O ?_)))))
      have hx10:vb.getD i 0<4294967296:=W32.getD hN.w32 i
      refine AD (AH (i:=1) (v:=(vK .u32 (vb.getD i 0))) O O isAgg92 (BH (xs:=vb) (j:=i) Z)) O (asg' O (asg' O (oNl' (zB (sL [4,5,6,7,8,9,10,12,128,129,130,14,15,16] O) (zA (zH (AL O (AL O (AL O (AD (AT (c:=((k+i:Nat):Int)) O O (AV (a:=k) (b:=i) Z)) O (AL O ?_)))))))))))
      refine AL O (AL O (AD (AT (c:=((k+i:Nat):Int)) O O (AV (a:=k) (b:=i) Z)) O (AD (v:=(pP b1 (k+i))) (AG (j:=k+i) O O underlying255 sizeOf92 O Z jX) O ?_)))
      have hx11:os.getD (k+i) 0<4294967296:=W32.getD hw32 (k+i)
      refine AD (AH (i:=2) (v:=(vK .u32 (os.getD (k+i) 0))) O O isAgg92 (BH (xs:=os) (j:=(k+i)) Z)) O (AL O (AL O (ck' call240 (Ka (os.getD (k+i) 0) (vb.getD i 0) c Z Z Z) O (AL O (AD (AK (v:=(vK .u32 (((os.getD (k+i) 0)+(vb.getD i 0)+c)%4294967296))) O O) O (AD (AK (v:=(vK .u32 (((os.getD (k+i) 0)+(vb.getD i 0)+c)/4294967296))) O O) O (AD (v:=(pP b1 (k+i))) (AG (j:=k+i) O O underlying255 sizeOf92 O Z jX) O (zp (i:=2) (off:=(k+i)) (vs:=[(vK .u32 (((os.getD (k+i) 0)+(vb.getD i 0)+c)%4294967296))]) (cs':=Ak (os.set (k+i) (((os.getD (k+i) 0)+(vb.getD i 0)+c)%4294967296))) (L':=[AX b3 92 (Ak qs),AX b2 92 (Ak vb),AX b1 92 (Ak (os.set (k+i) (((os.getD (k+i) 0)+(vb.getD i 0)+c)%4294967296)))]) (AI O) O O O O O sizeOf92 O (Ct (BS _) Z) (CN Z) O (asg' O (oNl' (zB (sL [4,5,6,7,8,9,10,12,128,129,130,14] O) ?_)))))))))))
      exact zG (zA (zH (AD (AT (c:=((i+1:Nat):Int)) O O (AV (a:=i) (b:=1) Z)) O (AL O (oNl' (zB (sL [4,5,6,7,8,9,10,12,128,129,130,14] O) (yK (i+1) (os.set (k+i) ((os.getD (k+i) 0+vb.getD i 0+c)%4294967296)) ((os.getD (k+i) 0+vb.getD i 0+c)/4294967296) (⟨Z,by rw [List.length_set];exact hl,W32.set hw32 Z _,Z,F6 hz Z,Rt hl Z hv⟩) Z (sF O) sr)))))))
     ·replace hc4:=xS hc4
      have hib:i=nw b:=by omega
      have hv3:=hv
      rw [hib,hN.take] at hv3
      have hbk:=Rs (T:=val us-W/V*V*4294967296^k) (P:=4294967296^(k+nw b+1)) hl Z hw32 hcc hz rfl (hv3.trans (Pb hdS hqle hfit hc3 hXP)) (Nat.lt_of_le_of_lt (Nat.sub_le _ _) hfit)
      refine zU (zO (yA (zP (zA (zH (AL O (AL O (AL O (AD (AT (c:=((k+(nw b):Nat):Int)) O O (AV (a:=k) (b:=nw b) Z)) O (AD (v:=(pP b1 (k+(nw b)))) (AG (j:=k+(nw b)) O O underlying255 sizeOf92 O Z jX) O ?_))))))))))
      have hx12:os.getD (k+(nw b)) 0<4294967296:=W32.getD hw32 (k+(nw b))
      exact AD (AH (i:=2) (v:=(vK .u32 (os.getD (k+(nw b)) 0))) O O isAgg92 (BH (xs:=os) (j:=(k+(nw b))) Z)) O (AL O (AD (AT (c:=(((os.getD (k+nw b) 0+c)%4294967296:Nat):Int)) O O Ti) O (AD (v:=(pP b1 (k+(nw b)))) (AG (j:=k+(nw b)) O O underlying255 sizeOf92 O Z jX) O (zp (i:=2) (off:=(k+(nw b))) (vs:=[(vK .u32 ((os.getD (k+nw b) 0+c)%4294967296))]) (cs':=Ak (os.set (k+(nw b)) ((os.getD (k+nw b) 0+c)%4294967296))) (L':=[AX b3 92 (Ak qs),AX b2 92 (Ak vb),AX b1 92 (Ak (os.set (k+(nw b)) ((os.getD (k+nw b) 0+c)%4294967296)))]) (AI O) O O O O O sizeOf92 O (Ct (BS _) Z) (CN Z) O (oNl' (zB (sL [4,5,6,7,8,9,10,12,128,129,130,14] O) (yU (k:=12) (u:=Value.int .u64 ((W/V:Nat):Int)) O (by rw [hde,Nat.add_sub_cancel]) (zi (os.set (k+(nw b)) ((os.getD (k+nw b) 0+c)%4294967296)) (⟨by rw [List.length_set];exact hl,W32.set hw32 Z _,hbk⟩) (sF O) sr))))))))
    ·replace hc3:=xS hc3
     have hP:4294967296^(k+nw b+1)<=4294967296^(nw a+1):=Nat.pow_le_pow_right Z Z
     rw [hN.take] at hc3
     obtain ⟨hde,hdS⟩:=P1 hN hWin hdq hc3
     have hfit:=hWin.fits
     have hU1:val (Cq (nw a+1) (val us+(if val us<d*val (vb.take (nw b))*4294967296^k then 4294967296^(k+nw b+1) else 0)-d*val (vb.take (nw b))*4294967296^k))=val us-W/V*V*4294967296^k:=by rw [hN.take,if_neg hc3,FP _ _ Z];exact hdS
     exact zC (yU (k:=12) (u:=Value.int .u64 ((W/V:Nat):Int)) O (by rw [hde]) (zi (Cq (nw a+1) (val us+(if val us<d*val (vb.take (nw b))*4294967296^k then 4294967296^(k+nw b+1) else 0)-d*val (vb.take (nw b))*4294967296^k)) (⟨Bi _ _,EG _ _,hU1⟩) (sF O) sr))
   ·intro us2 hJ
    obtain ⟨hu2l,hu2w,hu2v⟩:=hJ
    refine zA (zH (AL O (AL O (AL O (AD (Au (c:=((W/V:Nat):Int)) O underlying69 underlying92 (Cg (by exact hq32))) O (AD (v:=(pP b3 k)) (AG (j:=k) O O underlying255 sizeOf92 O Z jX) O (zp (i:=0) (off:=k) (vs:=[(vK .u32 (W/V))]) (cs':=Ak (qs.set k (W/V))) (L':=[AX b3 92 (Ak (qs.set k (W/V))),AX b2 92 (Ak vb),AX b1 92 (Ak us2)]) (AI O) O O O O O sizeOf92 O (Ct (BS _) Z) (CN Z) O (oNl' (zB (sL [4,5,6,7,8,9,10,12] O) (OkQ.scope_normal (zG ?_)))))))))))
    refine zA (zH (AL O (AD (B3 (c:=(((k:Nat):Int)-1)) O O (BJ Z Z)) O (asg' O (oNl' (zB (sL [4,5,6,7,8,9,10,12] O) ?_))))))
    have hdd:=Pj hN hWin hu2v hAeq hql Z (hqz k Z)
    exact yK k us2 (qs.set k (W/V)) (⟨Z,hu2l,hu2w,by rw [List.length_set];exact hql,W32.set hqw hq32 _,λj hj=>by rw [Jh Z];exact hqz j Z,hdd.1,hdd.2⟩) Z (sF O) sr
 ·replace hc0:=xS hc0
  have hk00:k0=0:=by omega
  have hlt0:=hlt
  rw [hk00,Nat.pow_zero,Nat.mul_one] at hlt0
  have hfin:=SK (a:=a) (b:=b) (s:=s) (q:=val qs) (r:=val us) hb0 (by rw [<-hV];exact hAeq) (by rw [<-hV];exact hlt0)
  refine zU (zO (yA (zP (q1 (q4 (AL O (AL O (oNl' (zA (zJ ?_))))))))))
  refine yG (tg λ(i:Nat) (us3:List Nat)=>i<=s/\us3.length=nw a+1/\W32 us3/\val us3=a%b*2^s/2^i) (tg λ(i:Nat) (us3:List Nat)=>[(4,(qz (jk b3) m m)),(5,jj),(7,(qz (jk b1) (nw a+1) (nw a+1))),(167,(vN s)),(168,(vN i))]) (tg λ(i:Nat) (us3:List Nat)=>[AX b3 92 (Ak qs),AX b2 92 (Ak vb),AX b1 92 (Ak us3)]) (tg λ(i:Nat) (us3:List Nat)=>s-i) 0 us (⟨xJ _,hul,huw,by rw [hfin.2];simp⟩) (sF O) sr (λi us3 hJ=>?_)
  obtain ⟨hi,hl3,hw3,hv3⟩:=hJ
  refine q4 (AD (Aa (c:=(decide (i<s))) O O (DB (a:=i) (b:=s))) O (oNl' (q1 ?_)))
  refine zL O (λhc5=>?_) (λhc5=>?_)
  ·replace hc5:=xT hc5
   refine zC (q1 (zJ (zH (AL O (yW (v:=(Value.tuple #[])) (i:=2) (cs':=Ak (Cq (nw a+1) (val us3/2))) (L':=[AX b3 92 (Ak qs),AX b2 92 (Ak vb),AX b1 92 (Ak (Cq (nw a+1) (val us3/2)))]) (AI O) (Ar (args:=[(qz (jk b1) (nw a+1) (nw a+1))]) O O call275) O (λw hw=>Xf _ (nw a+1) _ us3 hw3 hl3 Z w (hw.get (i:=2) O)) (λd hd=>by cases hd<;>exact (BA O)) O (oNl' (zB (sL [4,5,7,167,168] O) (zG (zA (zH (AD (AT (c:=((i+1:Nat):Int)) O O (AV (a:=i) (b:=1) Z)) O ?_)))))))))))
   refine AL O (oNl' (zB (sL [4,5,7,167,168] O) ?_))
   have hb3:val us3/2<4294967296^(nw a+1):=Nat.lt_of_le_of_lt (Nat.div_le_self _ _) (by have:=HE hw3;rw [hl3] at this;exact this)
   exact zn (i+1) (Cq (nw a+1) (val us3/2)) (⟨Z,Bi _ _,EG _ _,by rw [FP _ _ hb3,hv3,Nat.div_div_eq_div_mul,<-Nat.pow_succ]⟩) Z (sF O) sr
  ·replace hc5:=xS hc5
   have his:i=s:=by omega
   have hr:val us3=a%b:=by rw [hv3,his,Nat.mul_div_cancel _ (Nat.pow_pos Z)]
   have hr1:=H9 hw3 hl3 hr
   have hq1:=H9 hqw hql hfin.1
   refine zU (zO (zm (zP (q2 (AL O (AL O (asg' O (asg' O (oNl' (zB (sL [4,5,7,167,168] O) (zA ?_)))))))))))
   exact zF (Bu O (rd_tmp (v:=(qz (jk b3) m m)) O) (rd_tmp (v:=(qz (jk b1) (nw a+1) (nw a+1))) O) (λw hw=>⟨b3,b1,by rw [hm],hw.out,hw.fresh (i:=0) O,hw.fresh (i:=2) O,(hw.apart (i:=0) (j:=2) jY O O),by rw [<-hm,<-hq1];exact hw.get (i:=0) O,by rw [<-hr1];exact hw.get (i:=2) O⟩))
end
section
set_option maxRecDepth 100000
theorem Fo {N v:Nat} (h:v<4294967296^N):val ((Cq N v).take N)=v:=by
 rw [List.take_of_length_le (by rw [Bi];exact Nat.le_refl _),FP _ _ h]
theorem Sh {a b:Nat} (hb:0<nw b) (h:nw b<=nw a):a/b<4294967296^(nw a+1-nw b):=by
 have h1:=Ig hb
 have h2:=CD a
 rw [Nat.div_lt_iff_lt_mul (by have:=Nat.pow_pos (n:=nw b-1) (show 0<4294967296 by omega);omega)]
 have h3:4294967296^(nw a+1-nw b)*4294967296^(nw b-1)<=4294967296^(nw a+1-nw b)*b:=Nat.mul_le_mul_left _ h1
 rw [<-Nat.pow_add,show nw a+1-nw b+(nw b-1)=nw a by omega] at h3
 omega
theorem Sj {a b:Nat}:a%b<4294967296^(nw a+1):=Nat.lt_of_le_of_lt (Nat.mod_le _ _) (Nat.lt_of_lt_of_le (CD a) (Nat.pow_le_pow_right Z Z))
theorem QF {b:Nat} (h:nw b=0):b=0:=by
 have:=CD b
 rw [h] at this
 omega
theorem YG {b:Nat} (h:nw b=1):(Aw b).getD 0 0=b/\b<4294967296:=by
 have h1:=CD b
 rw [h] at h1
 refine ⟨?_,Z⟩
 rw [Dt Z,ID,Nat.pow_zero,Nat.div_one,Nat.mod_eq_of_lt Z]
theorem L7  :Instr.fill ([(0,1),(1,1)].toArray[·]?) (AU 0).toArray []=some (AU 0).toArray:=by kernel_rfl
theorem PP (a b:Nat) (ha:nw a<=1099511627776) (hb:nw b<=1099511627776) (hb0:b≠0) (w:World)  :Calls prog 203 #[(aG (AU a)),(aG (AU b))] w (Ad w (Value.tuple #[(aG (AU (a/b))),(aG (AU (a%b))),(qa true)])):=by
 have hnb:nw b≠0:=λh=>hb0 (QF h)
 have hla:=CQ a
 have hlb:=CQ b
 refine AY (args:=[(aG (AU a)),(aG (AU b))]) func203 O O (BA O) (zM (sL [0,1] O) (q4 (BV (cs:=AU a) O λb1=>BV (cs:=AU b) O λb2=>al Ga O λb3=>al Ga O λb4=>asg' O (q6 (sL [2,3,4,5,6] O) (zJ (q4 (Al 2 CE O ?_)))))))
 refine ck' call241 (Re b) O (asg' O (oNl' (zB (sL [2,3,4,5,6,12] O) (zA ?_))))
 refine zL O (λhc0=>?_) (λhc0=>?_)
 ·replace hc0:=xT hc0
  exact absurd hc0 hb0
 ·replace hc0:=xS hc0
  refine q4 (Al 3 CE O (Al 2 CE O (ck' call242 (TI a b Z Z) O (AD (Aa (c:=(decide ((Fw a b)<(0:Int)))) O O O) O (asg' O (oNl' (zB (sL [2,3,4,5,6,17] O) (zA ?_))))))))
  refine zL O (λhc1=>?_) (λhc1=>?_)
  ·replace hc1:=xT hc1
   rw [J8] at hc1
   have e1:a/b=0:=Nat.div_eq_of_lt hc1
   have e2:a%b=a:=Nat.mod_eq_of_lt hc1
   refine zX (DC [(0,true),(1,true),(2,false),(3,false),(4,true)] (sl (sl sr)) (Am (v:=(aG (AU 0))) O (AP (zs:=AU 0) (vs:=AU 0) (pv:=[]) (places:=[(0,1),(1,1)]) zeroValue71 underlying71 (λw=>by simp [sizeOf9,sizeOf69]) O (L7 )) (Ew 1 CE O (zN O (Cd O sizeOf71 O (zD (sl (sl sr)) (zN O (Ag O sizeOf71 O (zD (sl (sl sr)) (pS' O (zQ ?_)))))))))))
   exact zB (sL [2,3,4,5,6] O) (zA (zF (zS (zK (E6 O (Ao (i:=1) (cs:=AU 0) O O isAgg71 sizeOf71 O) (Ao (i:=0) (cs:=AU a) O O isAgg71 sizeOf71 O) (rd_tmp (v:=(qa true)) O) (λw hw=>⟨by rw [e1,e2],hw.out⟩))))))
  ·replace hc1:=xS hc1
   rw [J8] at hc1
   have hba:nw b<=nw a:=Dv Z
   refine q4 (AD (v:=(pP b1 1)) (AA O underlying71 O sizeOf9 O) O (BF 3 (Value.string (Bo a)) TE O (AD (Bj (c:=(decide (a<18446744073709551616))) O O Cm) O (asg' O (oNl' (zB (sL [2,3,4,5,6,24] O) (zA ?_)))))))
   refine zL O (λhc2=>?_) (λhc2=>?_)
   ·replace hc2:=xT hc2
    have la:CC a=a:=Bh hc2
    have lb:CC b=b:=Bh Z
    have q1:a/b<18446744073709551616:=Nat.lt_of_le_of_lt (Nat.div_le_self _ _) hc2
    have q2:a%b<18446744073709551616:=Nat.lt_of_le_of_lt (Nat.mod_le _ _) hc2
    refine zX (DC (Er 12++[(12,false),(13,false),(14,true)]) (sl (sl sr)) (Am (v:=(pP b1 0)) O (AA O underlying71 O sizeOf69 O) (BU 1 (vK .u64 (CC a)) G_ O (Am (v:=(pP b2 0)) O (AA O underlying71 O sizeOf69 O) (BU 0 (vK .u64 (CC b)) G_ O (Am O (Gy (c:=(((CC a)/(CC b):Nat):Int)) O O Z (LZ (a:=CC a) (b:=CC b) Z)) (Am (v:=(aG ([(vK .u64 ((CC a)/(CC b))),(Value.string (Bo 0))]))) O (AP (zs:=AU 0) (vs:=[(vK .u64 ((CC a)/(CC b))),(Value.string (Bo 0))]) (pv:=[(0,(vK .u64 ((CC a)/(CC b))))]) (places:=[(0,1),(1,1)]) zeroValue71 underlying71 (λw=>by simp [sizeOf9,sizeOf69]) O O) (Am (v:=(pP b1 0)) O (AA O underlying71 O sizeOf69 O) (BU 1 (vK .u64 (CC a)) G_ O (Am (v:=(pP b2 0)) O (AA O underlying71 O sizeOf69 O) (BU 0 (vK .u64 (CC b)) G_ O ?_)))))))))))
    refine Am O (CB (c:=(((CC a)%(CC b):Nat):Int)) O O Z (Ij (a:=CC a) (b:=CC b))) (Am (v:=(aG ([(vK .u64 ((CC a)%(CC b))),(Value.string (Bo 0))]))) O (AP (zs:=AU 0) (vs:=[(vK .u64 ((CC a)%(CC b))),(Value.string (Bo 0))]) (pv:=[(0,(vK .u64 ((CC a)%(CC b))))]) (places:=[(0,1),(1,1)]) zeroValue71 underlying71 (λw=>by simp [sizeOf9,sizeOf69]) O O) (zN O (Cd O sizeOf71 O (zD (sl (sl sr)) (zN O (Ag O sizeOf71 O (zD (sl (sl sr)) (pS' O (zQ (zB (sL [2,3,4,5,6] O) (zA ?_)))))))))))
    exact zF (zS (zK (E6 O (Ao (i:=1) (cs:=[(vK .u64 ((CC a)/(CC b))),(Value.string (Bo 0))]) O O isAgg71 sizeOf71 O) (Ao (i:=0) (cs:=[(vK .u64 ((CC a)%(CC b))),(Value.string (Bo 0))]) O O isAgg71 sizeOf71 O) (rd_tmp (v:=(qa true)) O) (λw hw=>⟨by rw [Dz q1,Dz q2,la,lb];rfl,hw.out⟩))))
   ·replace hc2:=xS hc2
    refine zC (zG (q2 (Al 2 CE O (z8 (V:=λb5=>(qz (jk b5) (nw b) ((Aw b).length))) (T:=92) (cs:=Ak (Aw b)) (AI O) (Ar (args:=[(aG (AU b))]) O O call187) (λw hw=>DZ b Z w) O (BA O) λb5=>asg' O (q6 (sL [2,3,4,5,6,7] O) (q4 (AL O (AD (v:=(vN (nw b))) (AE O underlying255) O (AD (BL (c:=(decide ((nw b)=1))) O O (N9 (a:=nw b) (b:=1))) O (oNl' ?_))))))))))
    refine zB (sL [2,3,4,5,6,7,44] O) (zA ?_)
    refine zL O (λhc3=>?_) (λhc3=>?_)
    ·replace hc3:=xT hc3
     obtain ⟨hy,hy2⟩:=YG hc3
     refine zX (DC [(0,true),(2,true),(3,true),(4,true),(1,false),(5,false),(6,true),(7,true),(8,true),(9,true),(10,true)] sr (Ew 4 CE O (By O (Am (v:=(pP b5 0)) O (AG (j:=0) O O underlying255 sizeOf92 O Z O) ?_))))
     have hx1:(Aw b).getD 0 0<4294967296:=W32.getD (CY b) 0
     refine Am O (AH (i:=0) (v:=(vK .u32 ((Aw b).getD 0 0))) O O isAgg92 (BH (xs:=Aw b) (j:=0) Z)) (zN O (z8 (V:=λb6=>(qz (jk b6) (nw a) ((Aw a).length))) (T:=92) (cs:=Ak (Aw a)) (AI O) (Ar (args:=[(aG (AU a))]) O O call187) (λw hw=>DZ a Z w) O (BA O) λb6=>zD (sl sr) (zN O (z8 (V:=λb7=>(Value.tuple #[(qz (jk b7) (nw a) (nw a)),(vK .u32 (a%((Aw b).getD 0 0)))])) (T:=92) (cs:=Ak (Cq (nw a) (a/((Aw b).getD 0 0)))) (AI O) (Ar (args:=[(qz (jk b6) (nw a) ((Aw a).length)),(vK .u32 ((Aw b).getD 0 0))]) O O call188) (λw hw=>V1 a ((Aw b).getD 0 0) _ _ Z Z Z w (hw.get (i:=0) O)) O (BA O) λb7=>zD (sl (sl sr)) (By O (Am O (AK (v:=(qz (jk b7) (nw a) (nw a))) O O) (Am O (AK (v:=(vK .u32 (a%((Aw b).getD 0 0)))) O O) (pS' O (pS' O ?_)))))))))
     refine zQ (zB (sL [2,3,4,5,6,7,8,9] O) (q2 (AL O (DH call206 (λw hw=>Jf _ (nw a) (nw a) (Cq (nw a) (a/((Aw b).getD 0 0))) (EG _ _) (by first|omega|(rw [Bi];omega)|simp|(simp;omega)) (by first|omega|simp|(simp;omega)) (by first|omega|simp|(simp;omega)) w (hw.get (i:=0) O)) O (zI (k:=55) (u:=(aG (AU (a/b)))) O (by rw [hy,Fo (Nat.lt_of_le_of_lt (Nat.div_le_self _ _) (CD a))]) (AL O ?_))))))
     have hmb:a%(Aw b).getD 0 0<4294967296:=by rw [hy];exact Nat.lt_of_lt_of_le (Nat.mod_lt _ Z) Z
     exact AD (Au (c:=((a%((Aw b).getD 0 0):Nat):Int)) O underlying92 underlying69 (BY Z)) O (AD (v:=(aG ([(vK .u64 (a%((Aw b).getD 0 0))),(Value.string (Bo 0))]))) (AP (zs:=AU 0) (vs:=[(vK .u64 (a%((Aw b).getD 0 0))),(Value.string (Bo 0))]) (pv:=[(0,(vK .u64 (a%((Aw b).getD 0 0))))]) (places:=[(0,1),(1,1)]) zeroValue71 underlying71 (λw=>by simp [sizeOf9,sizeOf69]) O O) O (zI (k:=58) (u:=(aG (AU (a%b)))) O (by rw [hy] at hmb ⊢;rw [Dz Z];rfl) (F8 4 (off:=0) (vs:=AU (a/b)) (cs':=AU (a/b)) (AI O) O sizeOf71 O (Ge O sizeOf71 O (asg' O (oNl' (zB (sL [2,3,4,5,6,7] O) (zA (zF (zK (E6 O (Ao (i:=4) (cs:=AU (a/b)) O O isAgg71 sizeOf71 O) (Ao (i:=3) (cs:=AU (a%b)) O O isAgg71 sizeOf71 O) (rd_tmp (v:=(qa true)) O) (λw hw=>⟨rfl,hw.out⟩))))))))))))
    ·replace hc3:=xS hc3
     refine zC (q2 (Al 4 CE O (z8 (V:=λb6=>(qz (jk b6) (nw a) ((Aw a).length))) (T:=92) (cs:=Ak (Aw a)) (AI O) (Ar (args:=[(aG (AU a))]) O O call187) (λw hw=>DZ a Z w) O (BA O) λb6=>AL O (AR.callBB (V:=λb7 b8=>(Value.tuple #[(qz (jk b7) (nw a+1-nw b) (nw a+1-nw b)),(qz (jk b8) (nw a+1) (nw a+1))])) (T:=92) (cs:=Ak (Cq (nw a+1-nw b) (a/b))) (T2:=92) (cs2:=Ak (Cq (nw a+1) (a%b))) (AI O) (Ar (args:=[(qz (jk b6) (nw a) ((Aw a).length)),(qz (jk b5) (nw b) ((Aw b).length))]) O O call243) (λw hw=>X0 a b _ _ _ _ Z Z Z w (hw.get (i:=0) O) (hw.get (i:=1) O)) O (BA O) λb7 b8=>AL O (AD (AK (v:=(qz (jk b7) (nw a+1-nw b) (nw a+1-nw b))) O O) O (AD (AK (v:=(qz (jk b8) (nw a+1) (nw a+1))) O O) O (asg' O (asg' O (q3 (sL [2,3,4,5,6,7,10,11] O) ?_)))))))))
     refine AL O (DH call206 (λw hw=>Jf _ (nw a+1-nw b) (nw a+1-nw b) (Cq (nw a+1-nw b) (a/b)) (EG _ _) (by first|omega|(rw [Bi];omega)|simp|(simp;omega)) (by first|omega|simp|(simp;omega)) (by first|omega|simp|(simp;omega)) w (hw.get (i:=0) O)) O (zI (k:=67) (u:=(aG (AU (a/b)))) O (by rw [Fo (Sh Z hba)]) (AL O (DH call206 (λw hw=>Jf _ (nw a+1) (nw a+1) (Cq (nw a+1) (a%b)) (EG _ _) (by first|omega|(rw [Bi];omega)|simp|(simp;omega)) (by first|omega|simp|(simp;omega)) (by first|omega|simp|(simp;omega)) w (hw.get (i:=1) O)) O (zI (k:=69) (u:=(aG (AU (a%b)))) O (by rw [Fo Sj]) (F8 5 (off:=0) (vs:=AU (a/b)) (cs':=AU (a/b)) (AI O) O sizeOf71 O (F8 4 (off:=0) (vs:=AU (a%b)) (cs':=AU (a%b)) (AI O) O sizeOf71 O (asg' O (oNl' (zB (sL [2,3,4,5,6,7] O) (zA ?_)))))))))))
     exact zF (E6 O (Ao (i:=5) (cs:=AU (a/b)) O O isAgg71 sizeOf71 O) (Ao (i:=4) (cs:=AU (a%b)) O O isAgg71 sizeOf71 O) (rd_tmp (v:=(qa true)) O) (λw hw=>⟨rfl,hw.out⟩))
theorem ZC (a b:Nat) (ha:nw a<=1099511627776) (hb:nw b<=1099511627776) (w:World)  :Calls prog 201 #[(aG (AU a)),(aG (AU b))] w (Ad w (aG (AU (Nat.gcd a b)))):=by
 refine AY (args:=[(aG (AU a)),(aG (AU b))]) func201 O O (BA O) (zM (sL [0,1] O) (q4 (BV (cs:=AU a) O λb1=>BV (cs:=AU b) O λb2=>al Ga O λb3=>q6 (sL [2,3,4] O) (zJ ?_))))
 refine yG (tg λ(x:Nat) (y:Nat)=>Nat.gcd x y=Nat.gcd a b/\nw x<=1099511627776/\nw y<=1099511627776) (tg λ(x:Nat) (y:Nat)=>[(2,(pP b1 0)),(3,(pP b2 0)),(4,(pP b3 0))]) (tg λ(x:Nat) (y:Nat)=>[AX b3 71 (AU 0),AX b2 71 (AU y),AX b1 71 (AU x)]) (tg λ(x:Nat) (y:Nat)=>y) a b (⟨rfl,ha,hb⟩) (sF O) sr (λx y hJ=>?_)
 obtain ⟨hg,hx,hy⟩:=hJ
 refine zX (q4 (Al 1 CE O (ck' call241 (Re y) O (AD (BK (c:=(!(decide (y=0)))) O O) O (oNl' (zB (sL [2,3,4,10] O) (zA ?_)))))))
 refine zL O (λhc0=>?_) (λhc0=>?_)
 ·simp only [jK] at hc0
  refine zC (zA (zJ (q4 (Al 2 CE O (Al 1 CE O (ck' call203 (PP x y Z Z Z) O (AL O (AD (AK (v:=(aG (AU (x/y)))) O O) O (AD (AK (v:=(aG (AU (x%y)))) O O) O (AD (AK (v:=(qa true)) O O) O (al Ga O λb4=>?_)))))))))))
  refine al Ga O λb5=>Cd O sizeOf71 O (Ag O sizeOf71 O (asg' O (oNl' (zB (sL [2,3,4,6] O) (zA (DC [(1,true),(0,false),(2,false),(3,false)] (sk (sk (sk (sl (sl sr))))) (Ew 0 CE O (zN O (Al 3 CE O (zD (sk (sk (sk (sl (sl sr))))) ?_))))))))))
  exact zN O (F8 4 (off:=0) (vs:=AU y) (cs':=AU y) (AI O) O sizeOf71 O (zD (sk (sk (sk (sl (sl sr))))) (zN O (Ge O sizeOf71 O (zD (sk (sk (sk (sl (sl sr))))) (zQ (zB (sL [2,3,4,6] O) (zG (zn y (x%y) (⟨by rw [<-hg,Nat.gcd_comm x y,Nat.gcd_rec y x,Nat.gcd_comm],hy,xM (Dv (Nat.mod_le _ _)) hx⟩) (Nat.mod_lt _ Z) (sF O) (sl (sl sr)))))))))))
 ·simp only [jK] at hc0
  have hy0:y=0:=by omega
  have hxg:x=Nat.gcd a b:=by rw [<-hg,hy0,Nat.gcd_zero_right]
  exact zU (zO (zm (zP (q2 (Al 2 CE O (Ag O sizeOf71 O (oNl' (zB (sL [2,3,4] O) (zA (zF (ret_one O (Ao (i:=0) (cs:=AU x) O O isAgg71 sizeOf71 O) (λw hw=>⟨by rw [hxg],hw.out⟩))))))))))))
end
def E5 (neg:Bool) (n:Nat):Int:=if neg then -(n:Int) else (n:Int)
theorem Us (n:Nat):A8 (E5 true n)=AU n++[.bool (!(decide (n=0)))]:=by
  simp only [A8,AU,E5,if_true,Int.natAbs_neg,Int.natAbs_natCast,List.cons_append,List.nil_append]
  have e:decide (-(n:Int)<0)=!(decide (n=0)):=by
    by_cases h:n=0
    · subst h;rfl
    · simp [h];omega
  rw [e]
theorem Ut (n:Nat):A8 (E5 false n)=AU n++[.bool false]:=by
  simp only [A8,AU,E5,Int.natAbs_natCast,List.cons_append,List.nil_append]
  have e:decide ((n:Int)<0)=false:=by simp
  simp [e]
theorem Oa (D a b:Nat):E1 prog (D+3) 73 (.agg (AU a).toArray) (.agg (AU b).toArray) (decide (a=b)):=by
  have h:=E1.struct (D:=D+2) (xs:=AU a) (ys:=AU b) underlying73 Tryz.stoodInHeld73 (Iu.agg (us:=AU a) (bs:=AU b) jY isAgg71 sizeOf71 rfl rfl (HM D a b) Iu.nil)
  simpa using h
theorem Ax (neg:Bool) (n:Nat):(E5 neg n).natAbs=n:=by cases neg<;>simp [E5]
theorem X5 (a:Int):E5 (!(decide (a<0))) a.natAbs = -a:=by
  unfold E5
  by_cases h:a<0
  · simp [h];omega
  · simp [h];omega
theorem X4 (a b:Int):E5 (!(decide (a<0) == decide (b<0))) (a.natAbs*b.natAbs)=a*b:=by
  rw [<-Int.natAbs_mul]
  unfold E5
  by_cases h:a<0<;>by_cases h':b<0
  · have:=Int.mul_pos_of_neg_of_neg h h';simp [h,h'];omega
  · have:a*b<=0:=Int.mul_nonpos_of_nonpos_of_nonneg Z Z
    simp [h,h'];omega
  · have:a*b<=0:=Int.mul_nonpos_of_nonneg_of_nonpos Z Z
    simp [h,h'];omega
  · have:0<=a*b:=Int.mul_nonneg Z Z
    simp [h,h'];omega
theorem No {a b:Int} (h:(decide (a<0) == decide (b<0))=true):E5 (decide (a<0)) (a.natAbs+b.natAbs)=a+b:=by
  unfold E5
  by_cases h1:a<0<;>by_cases h2:b<0<;>simp [h1,h2] at h ⊢<;>omega
theorem P9 {a b:Int} (h:(decide (a<0) == decide (b<0))=false) (h3:b.natAbs<=a.natAbs):E5 (decide (a<0)) (a.natAbs-b.natAbs)=a+b:=by
  unfold E5
  by_cases h1:a<0<;>by_cases h2:b<0<;>simp [h1,h2] at h ⊢<;>omega
theorem P_ {a b:Int} (h:(decide (a<0) == decide (b<0))=false) (h3:¬b.natAbs<=a.natAbs):E5 (decide (b<0)) (b.natAbs-a.natAbs)=a+b:=by
  unfold E5
  by_cases h1:a<0<;>by_cases h2:b<0<;>simp [h1,h2] at h ⊢<;>omega
theorem ct {z:Int} (h:z<0) (h2:-9223372036854775808<=z):IntKind.u64.wrap (-(IntKind.u64.wrap z))=((z.natAbs:Nat):Int):=by
  simp only [IntKind.wrap,IntKind.bits,IntKind.signed];simp;omega
theorem LE {z:Int} (h:z<0):E5 true z.natAbs=z:=by unfold E5;simp;omega
theorem SR {z:Int} (h:¬z<0):E5 false z.natAbs=z:=by unfold E5;simp;omega
section
set_option maxRecDepth 100000
theorem L8  :Instr.fill ([(0,2)].toArray[·]?) (AU 0).toArray []=some (AU 0).toArray:=by kernel_rfl
theorem Im (n:Nat) (w:World)  :Calls prog 217 #[(aG (AU n))] w (Ad w (qa (decide (n=0)))):=by
 refine AY (args:=[(aG (AU n))]) func217 O O (BA O) (zM (sL [0] O) (q4 (BV (cs:=AU n) O λb1=>asg' O (q3 (sL [1,2] O) (Al 0 S0 O (AD (v:=(aG (AU 0))) (AP (zs:=AU 0) (vs:=AU 0) (pv:=[]) (places:=[(0,2)]) zeroValue73 underlying73 (λw=>by simp [sizeOf71]) O (L8 )) O (AD (B0 (c:=(decide (n=0))) O O eqGuardType73 (Oa 9997 n 0)) O (asg' O (oNl' (zB (sL [2] O) ?_))))))))))
 exact zA (zF (ret_one O (rd_tmp (v:=(qa (decide (n=0)))) O) (λw hw=>⟨rfl,hw.out⟩)))
theorem FF (x0:Nat):Instr.fill ([(0,2)].toArray[·]?) (AU 0).toArray [(0,.agg (AU x0).toArray)]=some (AU x0).toArray:=by kernel_rfl
theorem Ri (n:Nat) (w:World)  :Calls prog 171 #[(qa true),(aG (AU n))] w (Ad w (aG (A8 (E5 true n)))):=by
 refine AY (args:=[(qa true),(aG (AU n))]) func171 O O (BA O) (zM (sL [0,1] O) (q4 (BV (cs:=AU n) O λb1=>al Jw O λb2=>q3 (sL [0,3,4] O) (Al 1 CE O (AD (v:=(aG (AU n))) (AP (zs:=AU 0) (vs:=AU n) (pv:=[(0,(aG (AU n)))]) (places:=[(0,2)]) zeroValue73 underlying73 (λw=>by simp [sizeOf71]) O (FF n)) O (al bd O λb3=>Ag O sizeOf73 O (q6 (sL [0,4,5] O) (DC (Er 4++[(4,false),(5,true),(6,true),(7,true),(8,false)]) (sk (sl sr)) ?_))))))))
 refine Ew 0 S0 O (By O (By O (zY (v:=(aG (AU n))) O (Ab O) (Aj (i:=0) (vs:=AU n) O O S0.a S0.s O O) O O (zN O (zh (v:=(qa (decide (n=0)))) (Ab O) (Ar (args:=[(aG (AU n))]) O O call217) (λw hw=>Im n w) O (BA O) (zD (sk (sl sr)) (zY (v:=(qa (!(decide (n=0))))) O (Ab O) (BK (c:=(!(decide (n=0)))) O O) O O (Am (v:=(qa (!(decide (n=0))))) O (AW O O) (Am (v:=(aG (AU n++[(qa (!(decide (n=0))))]))) O (AP (zs:=A8 0) (vs:=AU n++[(qa (!(decide (n=0))))]) (pv:=[(0,(aG (AU n))),(1,(qa (!(decide (n=0)))))]) (places:=[(0,2),(2,1)]) zeroValue75 underlying75 (λw=>by simp [sizeOf4,sizeOf73]) O O) (zN O (Cd O sizeOf75 O ?_)))))))))))
 exact zD (sk (sl sr)) (zQ (zB (sL [4,5] O) (zA (zF (ret_one O (Ao (i:=1) (cs:=AU n++[(qa (!(decide (n=0))))]) O O isAgg75 sizeOf75 O) (λw hw=>⟨by rw [Us],hw.out⟩))))))
theorem PT (n:Nat) (w:World)  :Calls prog 171 #[(qa false),(aG (AU n))] w (Ad w (aG (A8 (E5 false n)))):=by
 refine AY (args:=[(qa false),(aG (AU n))]) func171 O O (BA O) (zM (sL [0,1] O) (q4 (BV (cs:=AU n) O λb1=>al Jw O λb2=>q3 (sL [0,3,4] O) (Al 1 CE O (AD (v:=(aG (AU n))) (AP (zs:=AU 0) (vs:=AU n) (pv:=[(0,(aG (AU n)))]) (places:=[(0,2)]) zeroValue73 underlying73 (λw=>by simp [sizeOf71]) O (FF n)) O (al bd O λb3=>Ag O sizeOf73 O (q6 (sL [0,4,5] O) (DC (Er 4++[(4,false),(5,true),(6,true),(7,true),(8,false)]) (sk (sl sr)) ?_))))))))
 refine Ew 0 S0 O (By O (By O (zy O (B9 O) O O (zN O (BO O (zD (sk (sl sr)) (zy O (B9 O) O O (Am (v:=(qa false)) O (AQ O O) (Am (v:=(aG (AU n++[(qa false)]))) O (AP (zs:=A8 0) (vs:=AU n++[(qa false)]) (pv:=[(0,(aG (AU n))),(1,(qa false))]) (places:=[(0,2),(2,1)]) zeroValue75 underlying75 (λw=>by simp [sizeOf4,sizeOf73]) O O) (zN O (Cd O sizeOf75 O ?_)))))))))))
 exact zD (sk (sl sr)) (zQ (zB (sL [4,5] O) (zA (zF (ret_one O (Ao (i:=1) (cs:=AU n++[(qa false)]) O O isAgg75 sizeOf75 O) (λw hw=>⟨by rw [Ut],hw.out⟩))))))
theorem EW (neg:Bool) (n:Nat) (w:World):Calls prog 171 #[.bool neg,.agg (AU n).toArray] w (Ad w (.agg (A8 (E5 neg n)).toArray)):=by
 cases neg
 ·exact PT n w
 ·exact Ri n w
theorem ZY (z:Int) (hz:-9223372036854775808<=z) (hz2:z<9223372036854775808) (w:World)  :Calls prog 109 #[(vI z)] w (Ad w (aG (A8 z))):=by
 refine AY (args:=[(vI z)]) func109 O O (BA O) (zM (sL [0] O) (q4 (al Jw O λb1=>oNl' (q1 (q4 (AL O (AD (Aa (c:=(decide (z<(0:Int)))) O O O) O (oNl' (zB (sL [0,2,4] O) (zA ?_))))))))))
 refine zL O (λhc0=>?_) (λhc0=>?_)
 ·replace hc0:=xT hc0
  have he:=LE hc0
  exact q4 (AL O (AD (Au (c:=(IntKind.u64.wrap z)) O underlying2 underlying69 (rfl)) O (AD (Ku (c:=((z.natAbs:Nat):Int)) O (by rw [Int.zero_sub];exact ct hc0 hz)) O (ck' call172 (KH z.natAbs Z) O (ck' call171 (EW true z.natAbs) O (Ag O sizeOf75 O (oNl' (zB (sL [0,2] O) (zA (zF (zK (ret_one O (Ao (i:=0) (cs:=A8 (E5 true z.natAbs)) O O isAgg75 sizeOf75 O) (λw hw=>⟨by rw [he],hw.out⟩)))))))))))))
 ·replace hc0:=xS hc0
  have he:=SR hc0
  exact zC (q2 (AL O (AD (Au (c:=((z.natAbs:Nat):Int)) O underlying2 underlying69 (by rw [EK Z Z];omega)) O (ck' call172 (KH z.natAbs Z) O (ck' call171 (EW false z.natAbs) O (Ag O sizeOf75 O (oNl' (zB (sL [0,2] O) (zA (zF (ret_one O (Ao (i:=0) (cs:=A8 (E5 false z.natAbs)) O O isAgg75 sizeOf75 O) (λw hw=>⟨by rw [he],hw.out⟩))))))))))))
theorem Nd (a:Int) (w:World)  :Calls prog 202 #[(aG (A8 a))] w (Ad w (aG (AU a.natAbs))):=by
 refine AY (args:=[(aG (A8 a))]) func202 O O (BA O) (zM (sL [0] O) (q4 (BV (cs:=A8 a) O λb1=>al Ga O λb2=>q3 (sL [1,2] O) (AD (v:=(pP b1 0)) (AA O underlying75 O sizeOf73 O) O (AD (v:=(pP b1 0)) (AA O underlying73 O sizeOf71 O) O (Dy 1 (AU a.natAbs) CE O (Ag O sizeOf71 O (oNl' (zB (sL [2] O) ?_)))))))))
 exact zA (zF (ret_one O (Ao (i:=0) (cs:=AU a.natAbs) O O isAgg71 sizeOf71 O) (λw hw=>⟨rfl,hw.out⟩)))
theorem K7 (a:Int) (w:World)  :Calls prog 176 #[(aG (A8 a))] w (Ad w (vI a.sign)):=by
 refine AY (args:=[(aG (A8 a))]) func176 O O (BA O) (zM (sL [0] O) (q4 (BV (cs:=A8 a) O λb1=>asg' O (q6 (sL [1,2] O) (zJ (q4 (AD (v:=(pP b1 0)) (AA O underlying75 O sizeOf73 O) O (Dy 0 (AU a.natAbs) S0 O (ck' call217 (Im a.natAbs) O (asg' O ?_))))))))))
 refine oNl' (zB (sL [1,2,3] O) (zA ?_))
 refine zL O (λhc0=>?_) (λhc0=>?_)
 ·replace hc0:=xT hc0
  have he:a.sign=0:=by rw [show a=0 by omega];rfl
  exact q4 (asg' O (oNl' (zA (zF (zS (zK (ret_one O (rd_tmp (v:=(vI 0)) O) (λw hw=>⟨by rw [he],hw.out⟩))))))))
 ·replace hc0:=xS hc0
  refine q4 (AD (v:=(pP b1 2)) (AA O underlying75 O sizeOf4 O) O (BF 0 (qa (decide (a<0))) WF O (asg' O (oNl' (zB (sL [1,2,7] O) (zA ?_))))))
  refine zL O (λhc1=>?_) (λhc1=>?_)
  ·replace hc1:=xT hc1
   have he:a.sign = -1:=Int.sign_eq_neg_one_of_neg hc1
   exact q4 (asg' O (oNl' (zA (zF (zS (zK (ret_one O (rd_tmp (v:=(vI (-1:Int))) O) (λw hw=>⟨by rw [he],hw.out⟩))))))))
  ·replace hc1:=xS hc1
   have he:a.sign=1:=Int.sign_eq_one_of_pos Z
   exact zC (zG (q2 (asg' O (oNl' (zA (zF (ret_one O (rd_tmp (v:=(vI 1)) O) (λw hw=>⟨by rw [he],hw.out⟩))))))))
theorem Q6 (a:Int) (w:World)  :Calls prog 106 #[(aG (A8 a))] w (Ad w (aG (A8 (-a)))):=by
 refine AY (args:=[(aG (A8 a))]) func106 O O (BA O) (zM (sL [0] O) (q4 (BV (cs:=A8 a) O λb1=>al Jw O λb2=>q3 (sL [1,2] O) (AD (v:=(pP b1 2)) (AA O underlying75 O sizeOf4 O) O (BF 1 (qa (decide (a<0))) WF O (AD (BK (c:=(!(decide (a<0)))) O O) O (AD (v:=(pP b1 0)) (AA O underlying75 O sizeOf73 O) O (AD (v:=(pP b1 0)) (AA O underlying73 O sizeOf71 O) O (Dy 1 (AU a.natAbs) CE O ?_)))))))))
 exact ck' call171 (EW (!(decide (a<0))) a.natAbs) O (Ag O sizeOf75 O (oNl' (zB (sL [2] O) (zA (zF (ret_one O (Ao (i:=0) (cs:=A8 (E5 (!(decide (a<0))) a.natAbs)) O O isAgg75 sizeOf75 O) (λw hw=>⟨by rw [X5],hw.out⟩)))))))
theorem YI (a b:Int) (ha:nw a.natAbs<=1099511627776) (hb:nw b.natAbs<=1099511627776) (w:World)  :Calls prog 200 #[(aG (A8 a)),(aG (A8 b))] w (Ad w (aG (A8 (a+b)))):=by
 refine AY (args:=[(aG (A8 a)),(aG (A8 b))]) func200 O O (BA O) (zM (sL [0,1] O) (q4 (BV (cs:=A8 a) O λb1=>BV (cs:=A8 b) O λb2=>al Jw O λb3=>q6 (sL [2,3,4] O) (q4 (AD (v:=(pP b1 2)) (AA O underlying75 O sizeOf4 O) O (BF 2 (qa (decide (a<0))) WF O (AD (v:=(pP b2 2)) (AA O underlying75 O sizeOf4 O) O (BF 1 (qa (decide (b<0))) WF O ?_))))))))
 refine AD (FY (c:=(decide (a<0) == decide (b<0))) O O underlying4 O) O (oNl' (zB (sL [2,3,4,13] O) (zA ?_)))
 refine zL O (λhc0=>?_) (λhc0=>?_)
 ·have he:=No hc0
  refine zX (DC (Er 8++[(8,false),(9,false),(10,false)]) (sl sr) (Am (v:=(pP b1 2)) O (AA O underlying75 O sizeOf4 O) (BU 1 (qa (decide (a<0))) WF O (Am (v:=(pP b1 0)) O (AA O underlying75 O sizeOf73 O) (Am (v:=(pP b1 0)) O (AA O underlying73 O sizeOf71 O) (GE 1 (AU a.natAbs) CE O (Am (v:=(pP b2 0)) O (AA O underlying75 O sizeOf73 O) (Am (v:=(pP b2 0)) O (AA O underlying73 O sizeOf71 O) (GE 0 (AU b.natAbs) CE O (zN O (ck' call194 (TF a.natAbs b.natAbs Z Z) O ?_)))))))))))
  exact zD (sl sr) (zN O (ck' call171 (EW (decide (a<0)) (a.natAbs+b.natAbs)) O (zD (sl sr) (zN O (Ag O sizeOf75 O (zD (sl sr) (zQ (zB (sL [2,3,4] O) (zA (zF (zK (ret_one O (Ao (i:=0) (cs:=A8 (E5 (decide (a<0)) (a.natAbs+b.natAbs))) O O isAgg75 sizeOf75 O) (λw hw=>⟨by rw [he],hw.out⟩)))))))))))))
 ·refine zC (q1 (q4 (AD (v:=(pP b1 0)) (AA O underlying75 O sizeOf73 O) O (AD (v:=(pP b1 0)) (AA O underlying73 O sizeOf71 O) O (Dy 2 (AU a.natAbs) CE O (AD (v:=(pP b2 0)) (AA O underlying75 O sizeOf73 O) O (AD (v:=(pP b2 0)) (AA O underlying73 O sizeOf71 O) O (Dy 1 (AU b.natAbs) CE O (ck' call204 (PZ a.natAbs b.natAbs Z Z) O (AL O (AD (AK (v:=(aG (AU (a.natAbs-b.natAbs)))) O O) O ?_)))))))))))
  refine AD (AK (v:=(qa (decide (b.natAbs<=a.natAbs)))) O O) O (al Ga O λb4=>Ag O sizeOf71 O (asg' O (q3 (sL [2,3,4,5,6] O) (AL O (oNl' (zB (sL [2,3,4,5,34] O) (zA ?_)))))))
  refine zL O (λhc1=>?_) (λhc1=>?_)
  ·replace hc1:=xT hc1
   have he:=P9 hc0 hc1
   exact q4 (AD (v:=(pP b1 2)) (AA O underlying75 O sizeOf4 O) O (BF 3 (qa (decide (a<0))) WF O (Al 0 CE O (ck' call171 (EW (decide (a<0)) (a.natAbs-b.natAbs)) O (Cd O sizeOf75 O (oNl' (zB (sL [2,3,4,5] O) (zA (zF (zK (ret_one O (Ao (i:=1) (cs:=A8 (E5 (decide (a<0)) (a.natAbs-b.natAbs))) O O isAgg75 sizeOf75 O) (λw hw=>⟨by rw [he],hw.out⟩))))))))))))
  ·replace hc1:=xS hc1
   have he:=P_ hc0 hc1
   refine zC (q2 (AD (v:=(pP b2 0)) (AA O underlying75 O sizeOf73 O) O (AD (v:=(pP b2 0)) (AA O underlying73 O sizeOf71 O) O (Dy 2 (AU b.natAbs) CE O (AD (v:=(pP b1 0)) (AA O underlying75 O sizeOf73 O) O (AD (v:=(pP b1 0)) (AA O underlying73 O sizeOf71 O) O (Dy 3 (AU a.natAbs) CE O (ck' call204 (PZ b.natAbs a.natAbs Z Z) O (AL O (AD (AK (v:=(aG (AU (b.natAbs-a.natAbs)))) O O) O (AD (AK (v:=(qa (decide (a.natAbs<=b.natAbs)))) O O) O ?_)))))))))))
   refine al Ga O λb5=>Ag O sizeOf71 O (asg' O (q3 (sL [2,3,4,5,7] O) (AD (v:=(pP b2 2)) (AA O underlying75 O sizeOf4 O) O (BF 3 (qa (decide (b<0))) WF O (Al 0 CE O (ck' call171 (EW (decide (b<0)) (b.natAbs-a.natAbs)) O (My O sizeOf75 O (oNl' (zB (sL [2,3,4,5,7] O) (zA ?_))))))))))
   exact zF (ret_one O (Ao (i:=2) (cs:=A8 (E5 (decide (b<0)) (b.natAbs-a.natAbs))) O O isAgg75 sizeOf75 O) (λw hw=>⟨by rw [he],hw.out⟩))
theorem WL (a b:Int) (ha:nw a.natAbs<=1099511627776) (hb:nw b.natAbs<=1099511627776) (w:World)  :Calls prog 179 #[(aG (A8 a)),(aG (A8 b))] w (Ad w (aG (A8 (a*b)))):=by
 refine AY (args:=[(aG (A8 a)),(aG (A8 b))]) func179 O O (BA O) (zM (sL [0,1] O) (q4 (BV (cs:=A8 a) O λb1=>BV (cs:=A8 b) O λb2=>al Jw O λb3=>q6 (sL [2,3,4] O) (DC (Er 11++[(11,false),(12,false),(13,false)]) (sl sr) (Am (v:=(pP b1 2)) O (AA O underlying75 O sizeOf4 O) (BU 1 (qa (decide (a<0))) WF O (Am (v:=(pP b2 2)) O (AA O underlying75 O sizeOf4 O) (BU 0 (qa (decide (b<0))) WF O ?_))))))))
 refine Am O (Oc (c:=(!(decide (a<0) == decide (b<0)))) O O underlying4 O) (Am (v:=(pP b1 0)) O (AA O underlying75 O sizeOf73 O) (Am (v:=(pP b1 0)) O (AA O underlying73 O sizeOf71 O) (GE 1 (AU a.natAbs) CE O (Am (v:=(pP b2 0)) O (AA O underlying75 O sizeOf73 O) (Am (v:=(pP b2 0)) O (AA O underlying73 O sizeOf71 O) (GE 0 (AU b.natAbs) CE O (zN O (ck' call153 (PW a.natAbs b.natAbs Z Z) O (zD (sl sr) (zN O (ck' call171 (EW (!(decide (a<0) == decide (b<0))) (a.natAbs*b.natAbs)) O ?_)))))))))))
 exact zD (sl sr) (zN O (Ag O sizeOf75 O (zD (sl sr) (zQ (zB (sL [4] O) (zA (zF (ret_one O (Ao (i:=0) (cs:=A8 (E5 (!(decide (a<0) == decide (b<0))) (a.natAbs*b.natAbs))) O O isAgg75 sizeOf75 O) (λw hw=>⟨by rw [X4],hw.out⟩)))))))))
theorem Iq (a b:Int) (ha:nw a.natAbs<=1099511627776) (hb:nw b.natAbs<=1099511627776) (w:World)  :Calls prog 178 #[(Value.func (.func 200) #[] #[]),(aG (A8 a)),(aG (A8 b))] w (Ad w (aG (A8 (a+b)))):=by
 refine AY (args:=[(Value.func (.func 200) #[] #[]),(aG (A8 a)),(aG (A8 b))]) func178 O O (BA O) (zM (sL [0,1,2] O) (q4 (BV (cs:=A8 a) O λb1=>BV (cs:=A8 b) O λb2=>al Jw O λb3=>q3 (sL [0,4,5,6] O) (AL O (Al 2 DV O (Al 1 DV O (ck' call200 (YI a b (by first|omega|(simp only [Int.natAbs_neg,Ax,Int.natAbs_natCast];omega)) (by first|omega|(simp only [Int.natAbs_neg,Ax,Int.natAbs_natCast];omega))) O (Ag O sizeOf75 O ?_))))))))
 exact oNl' (zB (sL [6] O) (zA (zF (ret_one O (Ao (i:=0) (cs:=A8 (a+b)) O O isAgg75 sizeOf75 O) (λw hw=>⟨rfl,hw.out⟩)))))
theorem MJ (a b:Int) (ha:nw a.natAbs<=1099511627776) (hb:nw b.natAbs<=1099511627776) (w:World)  :Calls prog 178 #[(Value.func (.func 179) #[] #[]),(aG (A8 a)),(aG (A8 b))] w (Ad w (aG (A8 (a*b)))):=by
 refine AY (args:=[(Value.func (.func 179) #[] #[]),(aG (A8 a)),(aG (A8 b))]) func178 O O (BA O) (zM (sL [0,1,2] O) (q4 (BV (cs:=A8 a) O λb1=>BV (cs:=A8 b) O λb2=>al Jw O λb3=>q3 (sL [0,4,5,6] O) (AL O (Al 2 DV O (Al 1 DV O (ck' call179 (WL a b (by first|omega|(simp only [Int.natAbs_neg,Ax,Int.natAbs_natCast];omega)) (by first|omega|(simp only [Int.natAbs_neg,Ax,Int.natAbs_natCast];omega))) O (Ag O sizeOf75 O ?_))))))))
 exact oNl' (zB (sL [6] O) (zA (zF (ret_one O (Ao (i:=0) (cs:=A8 (a*b)) O O isAgg75 sizeOf75 O) (λw hw=>⟨rfl,hw.out⟩)))))
theorem Nf (a b:Int) (ha:nw a.natAbs<=1099511627776) (hb:nw b.natAbs<=1099511627776) (w:World)  :Calls prog 151 #[(aG (A8 a)),(aG (A8 b))] w (Ad w (aG (A8 (a+b)))):=by
 refine AY (args:=[(aG (A8 a)),(aG (A8 b))]) func151 O O (BA O) (zM (sL [0,1] O) (q4 (BV (cs:=A8 a) O λb1=>BV (cs:=A8 b) O λb2=>al Jw O λb3=>q3 (sL [2,3,4] O) (Al 2 DV O (Al 1 DV O (ck' call178 (Iq a b (by first|omega|(simp only [Int.natAbs_neg,Ax,Int.natAbs_natCast];omega)) (by first|omega|(simp only [Int.natAbs_neg,Ax,Int.natAbs_natCast];omega))) O (Ag O sizeOf75 O (oNl' ?_))))))))
 exact zB (sL [4] O) (zA (zF (ret_one O (Ao (i:=0) (cs:=A8 (a+b)) O O isAgg75 sizeOf75 O) (λw hw=>⟨rfl,hw.out⟩))))
theorem Xj (a b:Int) (ha:nw a.natAbs<=1099511627776) (hb:nw b.natAbs<=1099511627776) (w:World)  :Calls prog 177 #[(aG (A8 a)),(aG (A8 b))] w (Ad w (aG (A8 (a-b)))):=by
 refine AY (args:=[(aG (A8 a)),(aG (A8 b))]) func177 O O (BA O) (zM (sL [0,1] O) (q4 (BV (cs:=A8 a) O λb1=>BV (cs:=A8 b) O λb2=>al Jw O λb3=>q6 (sL [2,3,4] O) (DC [(0,true),(1,true),(2,false),(3,false),(4,false)] (sl sr) (Ew 1 DV O (Ew 0 DV O (zN O (ck' call106 (Q6 b) O ?_))))))))
 exact zD (sl sr) (zN O (ck' call178 (Iq a (-b) (by first|omega|(simp only [Int.natAbs_neg,Ax,Int.natAbs_natCast];omega)) (by first|omega|(simp only [Int.natAbs_neg,Ax,Int.natAbs_natCast];omega))) O (zD (sl sr) (zN O (Ag O sizeOf75 O (zD (sl sr) (zQ (zB (sL [4] O) (zA (zF (ret_one O (Ao (i:=0) (cs:=A8 (a+(-b))) O O isAgg75 sizeOf75 O) (λw hw=>⟨by rw [Int.sub_eq_add_neg],hw.out⟩))))))))))))
theorem HQ (a b:Int) (ha:nw a.natAbs<=1099511627776) (hb:nw b.natAbs<=1099511627776) (w:World)  :Calls prog 123 #[(aG (A8 a)),(aG (A8 b))] w (Ad w (aG (A8 (a*b)))):=by
 refine AY (args:=[(aG (A8 a)),(aG (A8 b))]) func123 O O (BA O) (zM (sL [0,1] O) (q4 (BV (cs:=A8 a) O λb1=>BV (cs:=A8 b) O λb2=>al Jw O λb3=>q3 (sL [2,3,4] O) (Al 2 DV O (Al 1 DV O (ck' call178 (MJ a b (by first|omega|(simp only [Int.natAbs_neg,Ax,Int.natAbs_natCast];omega)) (by first|omega|(simp only [Int.natAbs_neg,Ax,Int.natAbs_natCast];omega))) O (Ag O sizeOf75 O (oNl' ?_))))))))
 exact zB (sL [4] O) (zA (zF (ret_one O (Ao (i:=0) (cs:=A8 (a*b)) O O isAgg75 sizeOf75 O) (λw hw=>⟨rfl,hw.out⟩))))
theorem Q5 (a b:Int) (ha:nw a.natAbs<=1099511627776) (hb:nw b.natAbs<=1099511627776) (w:World)  :Calls prog 122 #[(aG (A8 a)),(aG (A8 b))] w (Ad w (vI ((a-b).sign))):=by
 refine AY (args:=[(aG (A8 a)),(aG (A8 b))]) func122 O O (BA O) (zM (sL [0,1] O) (q4 (BV (cs:=A8 a) O λb1=>BV (cs:=A8 b) O λb2=>asg' O (q3 (sL [2,3,4] O) (Al 1 DV O (Al 0 DV O (ck' call177 (Xj a b (by first|omega|(simp only [Int.natAbs_neg,Ax,Int.natAbs_natCast];omega)) (by first|omega|(simp only [Int.natAbs_neg,Ax,Int.natAbs_natCast];omega))) O (ck' call176 (K7 (a-b)) O (asg' O ?_)))))))))
 exact oNl' (zB (sL [4] O) (zA (zF (ret_one O (rd_tmp (v:=(vI ((a-b).sign))) O) (λw hw=>⟨rfl,hw.out⟩)))))
end
end Go.Proofs.YtpolhpjiahbidaaGreatDoor
