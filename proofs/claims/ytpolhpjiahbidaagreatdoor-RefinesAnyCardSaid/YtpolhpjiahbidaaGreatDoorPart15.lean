import Derived.Test.YtpolhpjiahbidaaGreatDoorPart05
import Derived.Test.YtpolhpjiahbidaaGreatDoorPart13
import Derived.Test.YtpolhpjiahbidaaGreatDoorPart14
namespace Go.Proofs.YtpolhpjiahbidaaGreatDoor
open Go Go.RowKit Go.Proofs.Tryz
set_option linter.unusedVariables false
set_option linter.unusedSimpArgs false
section
set_option maxRecDepth 100000
theorem Of {R P D Q X:Nat} (h1:D=Q+X) (h2:Q<=R) (h3:R<P) (h4:R<D) (h5:X<=P):R+P-D+X=R-Q+P:=by omega
theorem V7 (a b p q c1 c2:Nat) (ha:nw a<=1099511627776) (hb2:2<=nw b) (hba:nw b<=nw a) (w:World) (hp:w.heap[p]?=some (.cells (Ag (Aq a)).toArray 92 (0,0))) (hq:w.heap[q]?=some (.cells (Ag (Aq b)).toArray 92 (0,0))):Calls prog 243 #[(Value.slice (some ⟨p,0,none⟩) (nw a) c1),(Value.slice (some ⟨q,0,none⟩) (nw b) c2)] w (λe w'=>∃b1 b2,e=.returned (.tuple #[.slice (some ⟨b1,0,none⟩) (nw a+1-nw b) (nw a+1-nw b),.slice (some ⟨b2,0,none⟩) (nw a+1) (nw a+1)])/\GG w.heap.size w w'/\w.heap.size<=b1/\w.heap.size<=b2/\b1≠b2/\w'.heap[b1]?=some (.cells (Ag (CP (nw a+1-nw b) (a/b))).toArray 92 (0,0))/\w'.heap[b2]?=some (.cells (Ag (CP (nw a+1) (a%b))).toArray 92 (0,0))):=by
 have hla:=B5 a
 have hlb:=B5 b
 have hb0:0<b:=Nat.pos_of_ne_zero (λh=>by rw [h,Ma] at hb2;omega)
 obtain ⟨s,hs⟩:∃s,s=32-bl ((AN b).getD (nw b-1) 0):=⟨_,rfl⟩
 obtain ⟨hs32,hlow,hhigh⟩:=XP Z hs
 obtain ⟨m,hm⟩:∃m,m=nw a+1-nw b:=⟨_,rfl⟩
 obtain ⟨V,hV⟩:∃V,V=b*2^s:=⟨_,rfl⟩
 obtain ⟨vb,hvb⟩:∃vb,vb=CP (nw b+1) (b*2^s):=⟨_,rfl⟩
 have hbig:b*2^s<4294967296^(nw b+1):=Nat.lt_of_lt_of_le hhigh (Nat.pow_le_pow_right Z Z)
 have hN:PI vb (nw b) V:=⟨by rw [hvb];exact Df _ _,by rw [hvb];exact Ba _ _,hb2,by rw [hvb,hV];exact Ek _ _ hbig,by rw [hV];exact hlow,by rw [hV];exact hhigh⟩
 have hst:=O9 rfl Z hs32 hlow hm hba
 have hA:val (CP (nw a+1) (a*2^s))=a*2^s:=Ek _ _ (by rw [Nat.pow_succ];exact Nat.mul_lt_mul_of_lt_of_le (Bh a) (Nat.le_trans (Nat.pow_le_pow_right Z (show s<=32 by omega)) (by decide)) Z)
 have hvlen:=hN.len
 have htop:=hN.top
 have htw:=(NQ (b:=b) Z).2.2
 refine Ab (args:=[(Value.slice (some ⟨p,0,none⟩) (nw a) c1),(Value.slice (some ⟨q,0,none⟩) (nw b) c2)]) func243 O O (AI O) (OkC.subF (sL [0,1] O) (q4 (asg' O (asg' O (OkL.nil (q2 (AM O (AM O (AH (v:=(vN (nw b))) (AD O underlying255) O (AH (BI (c:=(((nw b)-1:Nat):Int)) O O (Br (a:=nw b) (b:=1) Z Z)) O (AH (v:=(pP q ((nw b)-1))) (AK (j:=(nw b)-1) O O underlying255 sizeOf92 O Z (by simp)) O ?_)))))))))))
 have hx1:(Aq b).getD ((nw b)-1) 0<4294967296:=W32.getD (B8 b) ((nw b)-1)
 refine AH (BR (v:=(vK .u32 ((Aq b).getD ((nw b)-1) 0))) O (λw' hw=>CA.at0 (hw.oldCA (by simp) (EM hq)) (A8 (xs:=Aq b) (j:=((nw b)-1)) Z)) isAgg92) O (OkL.retell (k:=22) (u:=(vK .u32 ((AN b).getD (nw b-1) 0))) O (by rw [DJ Z]) (ck' call272 (VR ((AN b).getD (nw b-1) 0) Z) O (OkL.retell (k:=23) (u:=(vN s)) O (by rw [hs]) (asg' O (q6 (sL [0,1,4,5,6] O) (Cd [(0,true),(1,true),(3,true),(4,true),(6,true),(7,true),(2,false),(5,false),(8,true),(9,true),(10,true)] sr (BV O (BV O (BV O (BV O (BV O ?_)))))))))))
 refine Al (v:=(vN (nw b))) O (AD O underlying255) (OkE.imp O (OkL.callB (V:=λb1=>(Value.slice (some ⟨b1,0,none⟩) (nw a+1) (nw a+1))) (T:=92) (cs:=Ag (CP (nw a+1) (a*2^s))) (AP O) (Ap (args:=[(Value.slice (some ⟨p,0,none⟩) (nw a) c1),(vN s)]) O O call273) (λw hw=>(by have h:=JN p (nw a) c1 s (Aq a) (B8 a) hla Z hs32 w (hw.old (by simp) hp);rw [HQ] at h;exact h)) O (AI O) λb1=>OkE.back (sl sr) (OkE.imp O (OkL.callB (V:=λb2=>(Value.slice (some ⟨b2,0,none⟩) (nw b+1) (nw b+1))) (T:=92) (cs:=Ag vb) (AP O) (Ap (args:=[(Value.slice (some ⟨q,0,none⟩) (nw b) c2),(vN s)]) O O call273) (λw hw=>(by have h:=JN q (nw b) c2 s (Aq b) (B8 b) hlb Z hs32 w (hw.old (by simp) hq);rw [HQ,<-hvb] at h;exact h)) O (AI O) λb2=>OkE.back (sl (sl sr)) (Al (v:=(Value.slice (some ⟨b2,0,none⟩) (nw b) (nw b+1))) O (GJ (m:=nw b) O O underlying255 sizeOf92 Z) (pS' O (pS' O (OkE.nil (OkQ.subF (sL [1,4,5,6,7,8] O) ?_)))))))))
 refine q2 (AM O (AH (v:=(vN (nw b))) (AD O underlying255) O (asg' O (q3 (sL [1,4,5,6,7,8,9] O) (AM O (AH (v:=(vN (nw a+1))) (AD O underlying255) O (AM O (AH (BI (c:=(((nw a+1)-(nw b):Nat):Int)) O O (Br (a:=nw a+1) (b:=nw b) Z Z)) O (OkL.retell (k:=38) (u:=(vN m)) O (by rw [hm]) (OkL.openV (V:=λb3=>(Value.slice (some ⟨b3,0,none⟩) m m)) (T:=92) (cs:=Ag (List.replicate m 0)) (AP O) (C2 (m:=m) (c:=m) O O Z Z) O (AI O) λb3=>asg' O ?_))))))))))
 refine q6 (sL [1,4,5,6,7,8,9] O) (q4 (AM O (AH (v:=(vN m)) (AD O underlying255) O (AH (BI (c:=(((m:Nat):Int)-1)) O O (BE Z Z)) O (asg' O (OkL.nil (OkQ.subF (sL [1,4,5,6,7,8,9,10] O) (OkQ.then_ (OkC.block ?_)))))))))
 refine OkC.lp3 (tg λ(k0:Nat) (us:List Nat) (qs:List Nat)=>k0<=m/\us.length=nw a+1/\W32 us/\qs.length=m/\W32 qs/\(∀j,j<k0->qs.getD j 0=0)/\val us<V*4294967296^k0/\a*2^s=val qs*V+val us) (tg λ(k0:Nat) (us:List Nat) (qs:List Nat)=>[(4,(Value.slice (some ⟨b3,0,none⟩) m m)),(5,(Value.slice none 0 0)),(6,(vN s)),(7,(Value.slice (some ⟨b1,0,none⟩) (nw a+1) (nw a+1))),(8,(Value.slice (some ⟨b2,0,none⟩) (nw b) (nw b+1))),(9,(vN (nw b))),(10,(vI (((k0:Nat):Int)-1)))]) (tg λ(k0:Nat) (us:List Nat) (qs:List Nat)=>[AU b3 92 (Ag qs),AU b2 92 (Ag vb),AU b1 92 (Ag us)]) (tg λ(k0:Nat) (us:List Nat) (qs:List Nat)=>k0) m (CP (nw a+1) (a*2^s)) (List.replicate m 0) (⟨Nat.le_refl _,Ba _ _,Df _ _,by simp,W32.zeros _,λj _=>by simp [List.getD_eq_getElem?_getD,List.getElem?_replicate];split<;>rfl,by rw [hA,hV];exact hst,by rw [hA,Dw];simp⟩) (sF O) sr (λk0 us qs hJ=>?_)
 obtain ⟨hk0,hul,huw,hql,hqw,hqz,hlt,hAeq⟩:=hJ
 refine OkC.seq (q4 (AM O (AH (Bx (c:=(decide ((0:Int)<=(((k0:Nat):Int)-1)))) O O O) O (OkL.nil (OkQ.subF (sL [4,5,6,7,8,9,10,44] O) (OkQ.then_ ?_))))))
 refine OkC.cond O (λhc0=>?_) (λhc0=>?_)
 ·replace hc0:=of_decide_eq_true hc0
  obtain ⟨k,rfl⟩:∃k,k0=k+1:=⟨k0-1,Z⟩
  obtain ⟨top,htp⟩:∃t,t=us.getD (k+nw b) 0*4294967296+us.getD (k+nw b-1) 0:=⟨_,rfl⟩
  obtain ⟨W,hWd⟩:∃x,x=val us/4294967296^k:=⟨_,rfl⟩
  have hWin:=X9 hN huw hlt
  rw [<-htp,<-hWd] at hWin
  have hu2:=huw.getD (k+nw b-2)
  have hG0:=NH hN hWin hu2
  have htb:=hWin.topb
  have hq32:=hWin.quo_lt hN.pos
  refine OkC.retell (k:=10) (u:=(vN k)) O (by congr 1;omega) (OkC.skip (q1 (OkC.block (OkC.scope (OkC.seq (Cd [(0,true),(1,true),(2,true),(3,true),(4,true),(5,true),(6,true),(7,true),(8,true),(9,true),(10,true),(11,true),(12,true),(13,true),(14,true),(15,true),(16,true),(17,true)] sr (BV O (BV O (BV O (Al O (AX (c:=((k+(nw b):Nat):Int)) O O (AR (a:=k) (b:=nw b) Z)) (Al (v:=(pP b1 (k+(nw b)))) O (AK (j:=k+(nw b)) O O underlying255 sizeOf92 O Z (by simp)) ?_)))))))))))
  have hx2:us.getD (k+(nw b)) 0<4294967296:=W32.getD huw (k+(nw b))
  refine Al O (AF (i:=2) (v:=(vK .u32 (us.getD (k+(nw b)) 0))) O O isAgg92 (A8 (xs:=us) (j:=(k+(nw b))) Z)) (Al O (Aw (c:=((us.getD (k+(nw b)) 0:Nat):Int)) O underlying92 underlying69 (BK Z)) (Al (v:=(vK .u64 (us.getD (k+nw b) 0*4294967296))) O (GV (s:=32) O O O (by decide) (GW (s:=32) Z)) (BV O (BV O (BV O (Al O (AX (c:=((k+(nw b):Nat):Int)) O O (AR (a:=k) (b:=nw b) Z)) (Al O (BI (c:=(((k+(nw b))-1:Nat):Int)) O O (Br (a:=k+(nw b)) (b:=1) Z Z)) (Al (v:=(pP b1 ((k+(nw b))-1))) O (AK (j:=(k+(nw b))-1) O O underlying255 sizeOf92 O Z (by simp)) ?_))))))))
  have hx3:us.getD ((k+(nw b))-1) 0<4294967296:=W32.getD huw ((k+(nw b))-1)
  refine Al O (AF (i:=2) (v:=(vK .u32 (us.getD ((k+(nw b))-1) 0))) O O isAgg92 (A8 (xs:=us) (j:=((k+(nw b))-1)) Z)) (Al O (Aw (c:=((us.getD ((k+(nw b))-1) 0:Nat):Int)) O underlying92 underlying69 (BK Z)) (Al O (IZ (c:=((top:Nat):Int)) O O (I6 Z Z (((Nat.or_comm _ _).trans ((G9 (s:=32) Z).trans (Nat.add_comm _ _))).trans htp.symm))) (pS' O (OkE.nil (OkQ.subF (sL [4,5,6,7,8,9,10,11] O) (q1 (Cd [(0,true),(1,true),(2,true),(3,true),(4,true),(5,true),(6,true),(7,true),(8,true),(9,true),(10,true),(11,true),(12,true),(13,true),(14,true),(15,true),(16,true),(17,true)] sr (BV O (BV O (BV O (Al O (BI (c:=(((nw b)-1:Nat):Int)) O O (Br (a:=nw b) (b:=1) Z Z)) ?_)))))))))))
  refine Al (v:=(pP b2 ((nw b)-1))) O (AK (j:=(nw b)-1) O O underlying255 sizeOf92 O Z (by simp)) ?_
  have hx4:vb.getD ((nw b)-1) 0<4294967296:=W32.getD hN.w32 ((nw b)-1)
  refine Al O (AF (i:=1) (v:=(vK .u32 (vb.getD ((nw b)-1) 0))) O O isAgg92 (A8 (xs:=vb) (j:=((nw b)-1)) Z)) (Al O (Aw (c:=((vb.getD ((nw b)-1) 0:Nat):Int)) O underlying92 underlying69 (BK Z)) (Al O (Er (c:=((top/(vb.getD ((nw b)-1) 0):Nat):Int)) O O Z (Hv (a:=top) (b:=vb.getD ((nw b)-1) 0) Z)) (BV O (BV O (BV O (Al O (BI (c:=(((nw b)-1:Nat):Int)) O O (Br (a:=nw b) (b:=1) Z Z)) (Al (v:=(pP b2 ((nw b)-1))) O (AK (j:=(nw b)-1) O O underlying255 sizeOf92 O Z (by simp)) ?_)))))))
  have hx5:vb.getD ((nw b)-1) 0<4294967296:=W32.getD hN.w32 ((nw b)-1)
  refine Al O (AF (i:=1) (v:=(vK .u32 (vb.getD ((nw b)-1) 0))) O O isAgg92 (A8 (xs:=vb) (j:=((nw b)-1)) Z)) (Al O (Aw (c:=((vb.getD ((nw b)-1) 0:Nat):Int)) O underlying92 underlying69 (BK Z)) (Al O (Dy (c:=((top%(vb.getD ((nw b)-1) 0):Nat):Int)) O O Z (Oo (a:=top) (b:=vb.getD ((nw b)-1) 0))) (pS' O (pS' O (OkE.nil (OkQ.subF (sL [4,5,6,7,8,9,10,12,13] O) (q1 (OkC.label (q1 ?_)))))))))
  refine OkC.jn1 (tg λ(d:Nat)=>d<=4294967295/\(d=W/V\/d=W/V+1)) (tg λ(d:Nat)=>[(4,(Value.slice (some ⟨b3,0,none⟩) m m)),(5,(Value.slice none 0 0)),(6,(vN s)),(7,(Value.slice (some ⟨b1,0,none⟩) (nw a+1) (nw a+1))),(8,(Value.slice (some ⟨b2,0,none⟩) (nw b) (nw b+1))),(9,(vN (nw b))),(10,(vN k)),(12,(vK .u64 d))]) (tg λ(d:Nat)=>[AU b3 92 (Ag qs),AU b2 92 (Ag vb),AU b1 92 (Ag us)]) ?_ ?_
  ·skip
   refine OkC.block ?_
   refine OkC.lp2 (tg λ(d:Nat) (r:Nat)=>Hr V W (vb.getD (nw b-1) 0) top d r/\r<8589934592/\d<8589934593) (tg λ(d:Nat) (r:Nat)=>[(4,(Value.slice (some ⟨b3,0,none⟩) m m)),(5,(Value.slice none 0 0)),(6,(vN s)),(7,(Value.slice (some ⟨b1,0,none⟩) (nw a+1) (nw a+1))),(8,(Value.slice (some ⟨b2,0,none⟩) (nw b) (nw b+1))),(9,(vN (nw b))),(10,(vN k)),(12,(vK .u64 d)),(13,(vK .u64 r))]) (tg λ(d:Nat) (r:Nat)=>[AU b3 92 (Ag qs),AU b2 92 (Ag vb),AU b1 92 (Ag us)]) (tg λ(d:Nat) (r:Nat)=>d) (top/vb.getD (nw b-1) 0) (top%vb.getD (nw b-1) 0) (⟨hG0,by have:=Nat.mod_lt top (show vb.getD (nw b-1) 0>0 by omega);omega,Nat.div_lt_of_lt_mul Z⟩) (sF O) sr (λd r hJ=>?_)
   obtain ⟨hG,hr2,hd2⟩:=hJ
   refine OkC.seq (q4 (AM O (AH (Fx (c:=(decide (r<=4294967295))) O O (SC (a:=r) (b:=4294967295))) O (OkL.nil (OkQ.subF (sL [4,5,6,7,8,9,10,12,13,81] O) (OkQ.then_ ?_))))))
   refine OkC.cond O (λhc1=>?_) (λhc1=>?_)
   ·replace hc1:=of_decide_eq_true hc1
    refine OkC.skip (OkQ.then_ (OkC.block (OkC.seq (OkC.seq ?_))))
    by_cases hsp:d<=4294967295
    ·skip
     have hv2:=hN.w32.getD (nw b-2)
     have hml:=KQ (a:=d) (b:=vb.getD (nw b-2) 0) Z hv2
     refine Cd [(0,true),(1,true),(2,true),(3,true),(4,true),(5,true),(6,true),(7,true),(8,true),(9,true),(10,true),(11,true),(12,true),(13,true),(14,true),(15,true),(16,true),(17,true),(18,true),(19,true),(20,true),(21,true),(22,true),(23,true)] sr (BV O (Al O (Fx (c:=true) O O (SC.trans (decide_eq_true hsp))) (BV O (OkE.pas (v:=(vK .u64 d)) O (AB O) (Ai O) O O (OkE.pas (v:=(Value.slice (some ⟨b2,0,none⟩) (nw b) (nw b+1))) O (AB O) (Ai O) O O (OkE.pas (v:=(vN (nw b))) O (AB O) (Ai O) O O (OkE.pas (v:=(vN ((nw b)-2))) O (AB O) (BI (c:=(((nw b)-2:Nat):Int)) O O (Br (a:=nw b) (b:=2) Z Z)) O O (OkE.pas (v:=(pP b2 ((nw b)-2))) O (AB O) (AK (j:=(nw b)-2) O O underlying255 sizeOf92 O Z (by simp)) O O ?_))))))))
     have hx6:vb.getD ((nw b)-2) 0<4294967296:=W32.getD hN.w32 ((nw b)-2)
     refine OkE.pas (v:=(vK .u32 (vb.getD ((nw b)-2) 0))) O (AB O) (AF (i:=1) (v:=(vK .u32 (vb.getD ((nw b)-2) 0))) O O isAgg92 (A8 (xs:=vb) (j:=((nw b)-2)) Z)) O O (OkE.pas (v:=(vK .u64 (vb.getD ((nw b)-2) 0))) O (AB O) (Aw (c:=((vb.getD ((nw b)-2) 0:Nat):Int)) O underlying92 underlying69 (BK Z)) O O (OkE.pas (v:=(vK .u64 (d*(vb.getD ((nw b)-2) 0)))) O (AB O) (CN (c:=((d*(vb.getD ((nw b)-2) 0):Nat):Int)) O O (Et (a:=d) (b:=vb.getD ((nw b)-2) 0) Z)) O O (OkE.pas (v:=(vK .u64 r)) O (AB O) (Ai O) O O (OkE.pas (v:=(vK .u64 (r*4294967296))) O (AB O) (GV (s:=32) O O O (by decide) (GW (s:=32) Z)) O O (OkE.pas (v:=(Value.slice (some ⟨b1,0,none⟩) (nw a+1) (nw a+1))) O (AB O) (Ai O) O O (OkE.pas (v:=(vN k)) O (AB O) (Ai O) O O (OkE.pas (v:=(vN (nw b))) O (AB O) (Ai O) O O (OkE.pas (v:=(vN (k+(nw b)))) O (AB O) (AX (c:=((k+(nw b):Nat):Int)) O O (AR (a:=k) (b:=nw b) Z)) O O (OkE.pas (v:=(vN ((k+(nw b))-2))) O (AB O) (BI (c:=(((k+(nw b))-2:Nat):Int)) O O (Br (a:=k+(nw b)) (b:=2) Z Z)) O O (OkE.pas (v:=(pP b1 ((k+(nw b))-2))) O (AB O) (AK (j:=(k+(nw b))-2) O O underlying255 sizeOf92 O Z (by simp)) O O ?_))))))))))
     have hx7:us.getD ((k+(nw b))-2) 0<4294967296:=W32.getD huw ((k+(nw b))-2)
     refine OkE.pas (v:=(vK .u32 (us.getD ((k+(nw b))-2) 0))) O (AB O) (AF (i:=2) (v:=(vK .u32 (us.getD ((k+(nw b))-2) 0))) O O isAgg92 (A8 (xs:=us) (j:=((k+(nw b))-2)) Z)) O O (OkE.pas (v:=(vK .u64 (us.getD ((k+(nw b))-2) 0))) O (AB O) (Aw (c:=((us.getD ((k+(nw b))-2) 0:Nat):Int)) O underlying92 underlying69 (BK Z)) O O (OkE.pas (v:=(vK .u64 (r*4294967296+us.getD (k+nw b-2) 0))) O (AB O) (IZ (c:=((r*4294967296+us.getD (k+nw b-2) 0:Nat):Int)) O O (I6 Z Z (((Nat.or_comm _ _).trans ((G9 (s:=32) Z).trans (Nat.add_comm _ _)))))) O O (OkE.pas (v:=(Value.bool (decide ((d*(vb.getD ((nw b)-2) 0))<=(r*4294967296+us.getD (k+nw b-2) 0))))) O (AB O) (Fx (c:=(decide ((d*(vb.getD ((nw b)-2) 0))<=(r*4294967296+us.getD (k+nw b-2) 0)))) O O (SC (a:=d*(vb.getD ((nw b)-2) 0)) (b:=r*4294967296+us.getD (k+nw b-2) 0))) O O (Al (v:=(Value.bool (decide ((d*(vb.getD ((nw b)-2) 0))<=(r*4294967296+us.getD (k+nw b-2) 0))))) O (AO O O) (OkE.nil (OkQ.subF (sL [4,5,6,7,8,9,10,12,13,105] O) (OkQ.then_ ?_)))))))
     refine OkC.cond O (λhc2=>?_) (λhc2=>?_)
     ·replace hc2:=of_decide_eq_true hc2
      have hg:=Jq hN hWin hG (.inr ⟨hsp,hc2⟩)
      exact OkC.exit (OkQ.then_exit (OkQ.in_exit_ne O (OkQ.round2_exit (OkQ.in_exit (OkQ.join1 d (hg) (sF O) sr)))))
     ·replace hc2:=of_decide_eq_false hc2
      obtain ⟨hng1,hng2⟩:=KY hN hWin hG (λh=>hc2 h.2)
      refine OkC.skip (q2 (AM O (AH (BI (c:=((d-1:Nat):Int)) O O (HV (a:=d) (b:=1) Z Z)) O (asg' O (OkL.nil (OkQ.subF (sL [4,5,6,7,8,9,10,12,13] O) (OkQ.then_ (OkC.region (AM O (AM O (AM O ?_)))))))))))
      refine AH (BI (c:=(((nw b)-1:Nat):Int)) O O (Br (a:=nw b) (b:=1) Z Z)) O (AH (v:=(pP b2 ((nw b)-1))) (AK (j:=(nw b)-1) O O underlying255 sizeOf92 O Z (by simp)) O ?_)
      have hx8:vb.getD ((nw b)-1) 0<4294967296:=W32.getD hN.w32 ((nw b)-1)
      exact AH (AF (i:=1) (v:=(vK .u32 (vb.getD ((nw b)-1) 0))) O O isAgg92 (A8 (xs:=vb) (j:=((nw b)-1)) Z)) O (AH (Aw (c:=((vb.getD ((nw b)-1) 0:Nat):Int)) O underlying92 underlying69 (BK Z)) O (AH (AX (c:=((r+(vb.getD ((nw b)-1) 0):Nat):Int)) O O (DF (a:=r) (b:=vb.getD ((nw b)-1) 0) Z)) O (asg' O (OkL.nil (OkQ.subF (sL [4,5,6,7,8,9,10,12,13] O) (OkQ.in_normal (OkQ.round2 (d-1) (r+vb.getD (nw b-1) 0) (⟨hng1,Z,Z⟩) Z (sF O) sr)))))))
    ·skip
     obtain ⟨hng1,hng2⟩:=KY hN hWin hG (λh=>hsp h.1)
     refine Cd [(0,true),(1,true),(2,true),(3,true),(4,true),(5,true),(6,true),(7,true),(8,true),(9,true),(10,true),(11,true),(12,true),(13,true),(14,true),(15,true),(16,true),(17,true),(18,true),(19,true),(20,true),(21,true),(22,true),(23,true)] sr (BV O (Al O (Fx (c:=false) O O (SC.trans (decide_eq_false hsp))) (BV O (OkE.skp O (AC O) O O (OkE.skp O (AC O) O O (OkE.skp O (AC O) O O (OkE.skp O (AC O) O O (OkE.skp O (AC O) O O (OkE.skp O (AC O) O O (OkE.skp O (AC O) O O (OkE.skp O (AC O) O O ?_)))))))))))
     refine OkE.skp O (AC O) O O (OkE.skp O (AC O) O O (OkE.skp O (AC O) O O (OkE.skp O (AC O) O O (OkE.skp O (AC O) O O (OkE.skp O (AC O) O O (OkE.skp O (AC O) O O (OkE.skp O (AC O) O O (OkE.skp O (AC O) O O (OkE.skp O (AC O) O O (OkE.skp O (AC O) O O (OkE.skp O (AC O) O O ?_)))))))))))
     refine Al (v:=(Value.bool false)) O (AJ O O) (OkE.nil (OkQ.subF (sL [4,5,6,7,8,9,10,12,13,105] O) (OkQ.then_ (OkC.cond_false O (OkC.skip (q2 (AM O (AH (BI (c:=((d-1:Nat):Int)) O O (HV (a:=d) (b:=1) Z Z)) O (asg' O (OkL.nil (OkQ.subF (sL [4,5,6,7,8,9,10,12,13] O) ?_)))))))))))
     refine OkQ.then_ (OkC.region (AM O (AM O (AM O (AH (BI (c:=(((nw b)-1:Nat):Int)) O O (Br (a:=nw b) (b:=1) Z Z)) O (AH (v:=(pP b2 ((nw b)-1))) (AK (j:=(nw b)-1) O O underlying255 sizeOf92 O Z (by simp)) O ?_))))))
     have hx9:vb.getD ((nw b)-1) 0<4294967296:=W32.getD hN.w32 ((nw b)-1)
     exact AH (AF (i:=1) (v:=(vK .u32 (vb.getD ((nw b)-1) 0))) O O isAgg92 (A8 (xs:=vb) (j:=((nw b)-1)) Z)) O (AH (Aw (c:=((vb.getD ((nw b)-1) 0:Nat):Int)) O underlying92 underlying69 (BK Z)) O (AH (AX (c:=((r+(vb.getD ((nw b)-1) 0):Nat):Int)) O O (DF (a:=r) (b:=vb.getD ((nw b)-1) 0) Z)) O (asg' O (OkL.nil (OkQ.subF (sL [4,5,6,7,8,9,10,12,13] O) (OkQ.in_normal (OkQ.round2 (d-1) (r+vb.getD (nw b-1) 0) (⟨hng1,Z,Z⟩) Z (sF O) sr)))))))
   ·replace hc1:=of_decide_eq_false hc1
    have hg:=Jq hN hWin hG (.inl Z)
    exact OkC.exit (OkQ.then_exit (OkQ.round2_exit (OkQ.in_exit (OkQ.join1 d (hg) (sF O) sr))))
  ·intro d hJ
   obtain ⟨hdb,hdq⟩:=hJ
   refine q1 (q4 (AM O (AM O (AM O (AM O (AH (AX (c:=((k+(nw b):Nat):Int)) O O (AR (a:=k) (b:=nw b) Z)) O (AH (AX (c:=(((k+(nw b))+1:Nat):Int)) O O (AR (a:=k+(nw b)) (b:=1) Z)) O (AH (v:=(Value.slice (some ⟨b1,k,none⟩) (((k+(nw b))+1)-k) ((nw a+1)-k))) (Mg (i:=k) (m:=(k+(nw b))+1) O O O underlying255 sizeOf92 Z Z Z (by simp)) O (OkL.retell (k:=122) (u:=(Value.slice (some ⟨b1,k,none⟩) (nw b+1) ((nw a+1)-k))) O (by rw [show k+nw b+1-k=nw b+1 by omega]) (AM O (AM O ?_)))))))))))
   refine OkL.callM (v:=(Value.bool (decide (val us<d*val (vb.take (nw b))*4294967296^k)))) (i:=2) (cs':=Ag (CP (nw a+1) (val us+(if val us<d*val (vb.take (nw b))*4294967296^k then 4294967296^(k+nw b+1) else 0)-d*val (vb.take (nw b))*4294967296^k))) (L':=[AU b3 92 (Ag qs),AU b2 92 (Ag vb),AU b1 92 (Ag (CP (nw a+1) (val us+(if val us<d*val (vb.take (nw b))*4294967296^k then 4294967296^(k+nw b+1) else 0)-d*val (vb.take (nw b))*4294967296^k)))]) (AP O) (Ap (args:=[(Value.slice (some ⟨b1,k,none⟩) (nw b+1) ((nw a+1)-k)),(Value.slice (some ⟨b2,0,none⟩) (nw b) (nw b+1)),(vK .u64 d)]) O O call274) O (λw hw=>Wn _ _ k (nw b) (nw a+1) _ _ d us vb huw hul hN.w32 Z Z Z Z hWin.fits ((hw.apart (i:=1) (j:=2) (by decide) O O)) w (hw.get (i:=2) O) (hw.get (i:=1) O)) (λd hd=>by cases hd<;>exact (AI O)) O (OkL.nil (OkQ.subF (sL [4,5,6,7,8,9,10,12,125] O) (OkQ.then_ ?_)))
   refine OkC.jn1 (tg λ(us2:List Nat)=>us2.length=nw a+1/\W32 us2/\val us2=val us-W/V*V*4294967296^k) (tg λ(us2:List Nat)=>[(4,(Value.slice (some ⟨b3,0,none⟩) m m)),(5,(Value.slice none 0 0)),(6,(vN s)),(7,(Value.slice (some ⟨b1,0,none⟩) (nw a+1) (nw a+1))),(8,(Value.slice (some ⟨b2,0,none⟩) (nw b) (nw b+1))),(9,(vN (nw b))),(10,(vN k)),(12,(vK .u64 (W/V)))]) (tg λ(us2:List Nat)=>[AU b3 92 (Ag qs),AU b2 92 (Ag vb),AU b1 92 (Ag us2)]) ?_ ?_
   ·skip
    refine OkC.cond O (λhc3=>?_) (λhc3=>?_)
    ·replace hc3:=of_decide_eq_true hc3
     have hP:4294967296^(k+nw b+1)<=4294967296^(nw a+1):=Nat.pow_le_pow_right Z Z
     rw [hN.take] at hc3
     obtain ⟨hde,hdS⟩:=PQ (vb:=vb) hWin hdq hc3
     have hXP:V*4294967296^k<=4294967296^(k+nw b+1):=Nat.le_trans (Nat.mul_le_mul_right _ (Nat.le_of_lt hN.high)) (by rw [<-Nat.pow_add];exact Nat.pow_le_pow_right Z Z)
     have hqle:=Ow (vb:=vb) hWin
     have hfit:=hWin.fits
     have hd1:1<=d:=by rw [hde];exact Nat.le_add_left _ _
     have hU1:val (CP (nw a+1) (val us+(if val us<d*val (vb.take (nw b))*4294967296^k then 4294967296^(k+nw b+1) else 0)-d*val (vb.take (nw b))*4294967296^k))=val us+4294967296^(k+nw b+1)-d*V*4294967296^k:=by rw [hN.take,if_pos hc3,Ek _ _ Z]
     have hU1lt:val (CP (nw a+1) (val us+(if val us<d*val (vb.take (nw b))*4294967296^k then 4294967296^(k+nw b+1) else 0)-d*val (vb.take (nw b))*4294967296^k))<4294967296^(k+nw b+1):=by rw [hU1];omega
     refine q4 (AM O (AH (BI (c:=((d-1:Nat):Int)) O O (HV (a:=d) (b:=1) Z Z)) O (asg' O (q3 (sL [4,5,6,7,8,9,10,12] O) (asg' O (OkL.nil (q1 (q4 (AM O (AH (v:=(vN (nw b))) (AD O underlying255) O (AM O ?_)))))))))))
     refine OkL.nil (OkQ.then_ (OkC.block ?_))
     refine OkC.lp3 (tg λ(i:Nat) (os:List Nat) (c:Nat)=>i<=nw b/\os.length=nw a+1/\W32 os/\c<=1/\(∀j,k+nw b+1<=j->os.getD j 0=0)/\val os+c*4294967296^(k+i)=(val us+4294967296^(k+nw b+1)-d*V*4294967296^k)+val (vb.take i)*4294967296^k) (tg λ(i:Nat) (os:List Nat) (c:Nat)=>[(4,(Value.slice (some ⟨b3,0,none⟩) m m)),(5,(Value.slice none 0 0)),(6,(vN s)),(7,(Value.slice (some ⟨b1,0,none⟩) (nw a+1) (nw a+1))),(8,(Value.slice (some ⟨b2,0,none⟩) (nw b) (nw b+1))),(9,(vN (nw b))),(10,(vN k)),(12,(vK .u64 (d-1))),(128,(Value.slice (some ⟨b2,0,none⟩) (nw b) (nw b+1))),(129,(vN (nw b))),(130,(vN i)),(14,(vK .u32 c))]) (tg λ(i:Nat) (os:List Nat) (c:Nat)=>[AU b3 92 (Ag qs),AU b2 92 (Ag vb),AU b1 92 (Ag os)]) (tg λ(i:Nat) (os:List Nat) (c:Nat)=>nw b-i) 0 (CP (nw a+1) (val us+(if val us<d*val (vb.take (nw b))*4294967296^k then 4294967296^(k+nw b+1) else 0)-d*val (vb.take (nw b))*4294967296^k)) 0 (⟨Nat.zero_le _,Ba _ _,Df _ _,Z,Ia hU1lt,by rw [hU1];simp [val]⟩) (sF O) sr (λi os c hJ=>?_)
     obtain ⟨hi,hl,hw32,hcc,hz,hv⟩:=hJ
     refine q4 (AH (Ae (c:=(decide (i<(nw b)))) O O (CB (a:=i) (b:=nw b))) O (OkL.nil (q1 ?_)))
     refine OkC.cond O (λhc4=>?_) (λhc4=>?_)
     ·replace hc4:=of_decide_eq_true hc4
      refine OkC.skip (q1 (OkC.block (q4 (AM O (AH (v:=(pP b2 i)) (AK (j:=i) O O underlying255 sizeOf92 O Z (by simp)) O ?_)))))
      have hx10:vb.getD i 0<4294967296:=W32.getD hN.w32 i
      refine AH (AF (i:=1) (v:=(vK .u32 (vb.getD i 0))) O O isAgg92 (A8 (xs:=vb) (j:=i) Z)) O (asg' O (asg' O (OkL.nil (OkQ.subF (sL [4,5,6,7,8,9,10,12,128,129,130,14,15,16] O) (OkQ.then_ (OkC.region (AM O (AM O (AM O (AH (AX (c:=((k+i:Nat):Int)) O O (AR (a:=k) (b:=i) Z)) O (AM O ?_)))))))))))
      refine AM O (AM O (AH (AX (c:=((k+i:Nat):Int)) O O (AR (a:=k) (b:=i) Z)) O (AH (v:=(pP b1 (k+i))) (AK (j:=k+i) O O underlying255 sizeOf92 O Z (by simp)) O ?_)))
      have hx11:os.getD (k+i) 0<4294967296:=W32.getD hw32 (k+i)
      refine AH (AF (i:=2) (v:=(vK .u32 (os.getD (k+i) 0))) O O isAgg92 (A8 (xs:=os) (j:=(k+i)) Z)) O (AM O (AM O (ck' call240 (Jt (os.getD (k+i) 0) (vb.getD i 0) c Z Z Z) O (AM O (AH (AV (v:=(vK .u32 (((os.getD (k+i) 0)+(vb.getD i 0)+c)%4294967296))) O O) O (AH (AV (v:=(vK .u32 (((os.getD (k+i) 0)+(vb.getD i 0)+c)/4294967296))) O O) O (AH (v:=(pP b1 (k+i))) (AK (j:=k+i) O O underlying255 sizeOf92 O Z (by simp)) O (OkL.store' (i:=2) (off:=(k+i)) (vs:=[(vK .u32 (((os.getD (k+i) 0)+(vb.getD i 0)+c)%4294967296))]) (cs':=Ag (os.set (k+i) (((os.getD (k+i) 0)+(vb.getD i 0)+c)%4294967296))) (L':=[AU b3 92 (Ag qs),AU b2 92 (Ag vb),AU b1 92 (Ag (os.set (k+i) (((os.getD (k+i) 0)+(vb.getD i 0)+c)%4294967296)))]) (AP O) O O O O O sizeOf92 O (CR (BJ _) Z) (B2 Z) O (asg' O (OkL.nil (OkQ.subF (sL [4,5,6,7,8,9,10,12,128,129,130,14] O) ?_)))))))))))
      exact OkQ.in_normal (OkQ.then_ (OkC.region (AH (AX (c:=((i+1:Nat):Int)) O O (AR (a:=i) (b:=1) Z)) O (AM O (OkL.nil (OkQ.subF (sL [4,5,6,7,8,9,10,12,128,129,130,14] O) (OkQ.round3 (i+1) (os.set (k+i) ((os.getD (k+i) 0+vb.getD i 0+c)%4294967296)) ((os.getD (k+i) 0+vb.getD i 0+c)/4294967296) (⟨Z,by rw [List.length_set];exact hl,W32.set hw32 Z _,Z,FS hz Z,Q8 hl Z hv⟩) Z (sF O) sr)))))))
     ·replace hc4:=of_decide_eq_false hc4
      have hib:i=nw b:=by omega
      have hv3:=hv
      rw [hib,hN.take] at hv3
      have hbk:=Rj (T:=val us-W/V*V*4294967296^k) (P:=4294967296^(k+nw b+1)) hl Z hw32 hcc hz rfl (hv3.trans (Of hdS hqle hfit hc3 hXP)) (Nat.lt_of_le_of_lt (Nat.sub_le _ _) hfit)
      refine OkC.exit (OkQ.then_exit (OkQ.round3_exit (OkQ.in_exit (OkQ.then_ (OkC.region (AM O (AM O (AM O (AH (AX (c:=((k+(nw b):Nat):Int)) O O (AR (a:=k) (b:=nw b) Z)) O (AH (v:=(pP b1 (k+(nw b)))) (AK (j:=k+(nw b)) O O underlying255 sizeOf92 O Z (by simp)) O ?_))))))))))
      have hx12:os.getD (k+(nw b)) 0<4294967296:=W32.getD hw32 (k+(nw b))
      exact AH (AF (i:=2) (v:=(vK .u32 (os.getD (k+(nw b)) 0))) O O isAgg92 (A8 (xs:=os) (j:=(k+(nw b))) Z)) O (AM O (AH (AX (c:=(((os.getD (k+nw b) 0+c)%4294967296:Nat):Int)) O O TD) O (AH (v:=(pP b1 (k+(nw b)))) (AK (j:=k+(nw b)) O O underlying255 sizeOf92 O Z (by simp)) O (OkL.store' (i:=2) (off:=(k+(nw b))) (vs:=[(vK .u32 ((os.getD (k+nw b) 0+c)%4294967296))]) (cs':=Ag (os.set (k+(nw b)) ((os.getD (k+nw b) 0+c)%4294967296))) (L':=[AU b3 92 (Ag qs),AU b2 92 (Ag vb),AU b1 92 (Ag (os.set (k+(nw b)) ((os.getD (k+nw b) 0+c)%4294967296)))]) (AP O) O O O O O sizeOf92 O (CR (BJ _) Z) (B2 Z) O (OkL.nil (OkQ.subF (sL [4,5,6,7,8,9,10,12,128,129,130,14] O) (OkQ.retell (k:=12) (u:=Value.int .u64 ((W/V:Nat):Int)) O (by rw [hde,Nat.add_sub_cancel]) (OkQ.join1 (os.set (k+(nw b)) ((os.getD (k+nw b) 0+c)%4294967296)) (⟨by rw [List.length_set];exact hl,W32.set hw32 Z _,hbk⟩) (sF O) sr))))))))
    ·replace hc3:=of_decide_eq_false hc3
     have hP:4294967296^(k+nw b+1)<=4294967296^(nw a+1):=Nat.pow_le_pow_right Z Z
     rw [hN.take] at hc3
     obtain ⟨hde,hdS⟩:=PJ hN hWin hdq hc3
     have hfit:=hWin.fits
     have hU1:val (CP (nw a+1) (val us+(if val us<d*val (vb.take (nw b))*4294967296^k then 4294967296^(k+nw b+1) else 0)-d*val (vb.take (nw b))*4294967296^k))=val us-W/V*V*4294967296^k:=by rw [hN.take,if_neg hc3,Ek _ _ Z];exact hdS
     exact OkC.skip (OkQ.retell (k:=12) (u:=Value.int .u64 ((W/V:Nat):Int)) O (by rw [hde]) (OkQ.join1 (CP (nw a+1) (val us+(if val us<d*val (vb.take (nw b))*4294967296^k then 4294967296^(k+nw b+1) else 0)-d*val (vb.take (nw b))*4294967296^k)) (⟨Ba _ _,Df _ _,hU1⟩) (sF O) sr))
   ·intro us2 hJ
    obtain ⟨hu2l,hu2w,hu2v⟩:=hJ
    refine OkQ.then_ (OkC.region (AM O (AM O (AM O (AH (Aw (c:=((W/V:Nat):Int)) O underlying69 underlying92 (CV (by exact hq32))) O (AH (v:=(pP b3 k)) (AK (j:=k) O O underlying255 sizeOf92 O Z (by simp)) O (OkL.store' (i:=0) (off:=k) (vs:=[(vK .u32 (W/V))]) (cs':=Ag (qs.set k (W/V))) (L':=[AU b3 92 (Ag (qs.set k (W/V))),AU b2 92 (Ag vb),AU b1 92 (Ag us2)]) (AP O) O O O O O sizeOf92 O (CR (BJ _) Z) (B2 Z) O (OkL.nil (OkQ.subF (sL [4,5,6,7,8,9,10,12] O) (OkQ.scope_normal (OkQ.in_normal ?_)))))))))))
    refine OkQ.then_ (OkC.region (AM O (AH (BI (c:=(((k:Nat):Int)-1)) O O (BE Z Z)) O (asg' O (OkL.nil (OkQ.subF (sL [4,5,6,7,8,9,10,12] O) ?_))))))
    have hdd:=Pe hN hWin hu2v hAeq hql Z (hqz k Z)
    exact OkQ.round3 k us2 (qs.set k (W/V)) (⟨Z,hu2l,hu2w,by rw [List.length_set];exact hql,W32.set hqw hq32 _,λj hj=>by rw [Ij Z];exact hqz j Z,hdd.1,hdd.2⟩) Z (sF O) sr
 ·replace hc0:=of_decide_eq_false hc0
  have hk00:k0=0:=by omega
  have hlt0:=hlt
  rw [hk00,Nat.pow_zero,Nat.mul_one] at hlt0
  have hfin:=RO (a:=a) (b:=b) (s:=s) (q:=val qs) (r:=val us) hb0 (by rw [<-hV];exact hAeq) (by rw [<-hV];exact hlt0)
  refine OkC.exit (OkQ.then_exit (OkQ.round3_exit (OkQ.in_exit (q1 (q4 (AM O (AM O (OkL.nil (OkQ.then_ (OkC.block ?_))))))))))
  refine OkC.lp2 (tg λ(i:Nat) (us3:List Nat)=>i<=s/\us3.length=nw a+1/\W32 us3/\val us3=a%b*2^s/2^i) (tg λ(i:Nat) (us3:List Nat)=>[(4,(Value.slice (some ⟨b3,0,none⟩) m m)),(5,(Value.slice none 0 0)),(7,(Value.slice (some ⟨b1,0,none⟩) (nw a+1) (nw a+1))),(167,(vN s)),(168,(vN i))]) (tg λ(i:Nat) (us3:List Nat)=>[AU b3 92 (Ag qs),AU b2 92 (Ag vb),AU b1 92 (Ag us3)]) (tg λ(i:Nat) (us3:List Nat)=>s-i) 0 us (⟨Nat.zero_le _,hul,huw,by rw [hfin.2];simp⟩) (sF O) sr (λi us3 hJ=>?_)
  obtain ⟨hi,hl3,hw3,hv3⟩:=hJ
  refine q4 (AH (Ae (c:=(decide (i<s))) O O (CB (a:=i) (b:=s))) O (OkL.nil (q1 ?_)))
  refine OkC.cond O (λhc5=>?_) (λhc5=>?_)
  ·replace hc5:=of_decide_eq_true hc5
   refine OkC.skip (q1 (OkC.block (OkC.region (AM O (OkL.callM (v:=(Value.tuple #[])) (i:=2) (cs':=Ag (CP (nw a+1) (val us3/2))) (L':=[AU b3 92 (Ag qs),AU b2 92 (Ag vb),AU b1 92 (Ag (CP (nw a+1) (val us3/2)))]) (AP O) (Ap (args:=[(Value.slice (some ⟨b1,0,none⟩) (nw a+1) (nw a+1))]) O O call275) O (λw hw=>WC _ (nw a+1) _ us3 hw3 hl3 Z w (hw.get (i:=2) O)) (λd hd=>by cases hd<;>exact (AI O)) O (OkL.nil (OkQ.subF (sL [4,5,7,167,168] O) (OkQ.in_normal (OkQ.then_ (OkC.region (AH (AX (c:=((i+1:Nat):Int)) O O (AR (a:=i) (b:=1) Z)) O ?_)))))))))))
   refine AM O (OkL.nil (OkQ.subF (sL [4,5,7,167,168] O) ?_))
   have hb3:val us3/2<4294967296^(nw a+1):=Nat.lt_of_le_of_lt (Nat.div_le_self _ _) (by have:=GA hw3;rw [hl3] at this;exact this)
   exact OkQ.round2 (i+1) (CP (nw a+1) (val us3/2)) (⟨Z,Ba _ _,Df _ _,by rw [Ek _ _ hb3,hv3,Nat.div_div_eq_div_mul,<-Nat.pow_succ]⟩) Z (sF O) sr
  ·replace hc5:=of_decide_eq_false hc5
   have his:i=s:=by omega
   have hr:val us3=a%b:=by rw [hv3,his,Nat.mul_div_cancel _ (Nat.pow_pos Z)]
   have hr1:=HH hw3 hl3 hr
   have hq1:=HH hqw hql hfin.1
   refine OkC.exit (OkQ.then_exit (OkQ.round2_exit (OkQ.in_exit (q2 (AM O (AM O (asg' O (asg' O (OkL.nil (OkQ.subF (sL [4,5,7,167,168] O) (OkQ.then_ ?_)))))))))))
   exact OkC.ret (C_ O (rd_tmp (v:=(Value.slice (some ⟨b3,0,none⟩) m m)) O) (rd_tmp (v:=(Value.slice (some ⟨b1,0,none⟩) (nw a+1) (nw a+1))) O) (λw hw=>⟨b3,b1,by rw [hm],hw.out,hw.fresh (i:=0) O,hw.fresh (i:=2) O,(hw.apart (i:=0) (j:=2) (by decide) O O),by rw [<-hm,<-hq1];exact hw.get (i:=0) O,by rw [<-hr1];exact hw.get (i:=2) O⟩))
end
end Go.Proofs.YtpolhpjiahbidaaGreatDoor
