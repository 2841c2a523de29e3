import Derived.Test.YtpgncndhhhllfaaGreatDoorPart03
import Derived.Test.YtpgncndhhhllfaaGreatDoorPart12
import Derived.Test.YtpgncndhhhllfaaGreatDoorPart13
namespace Go.Proofs.YtpgncndhhhllfaaGreatDoor
open Go Go.RowKit Go.Proofs.Tryz
set_option linter.unusedVariables false
set_option linter.unusedSimpArgs false
section
set_option maxRecDepth 100000
theorem Qa {R P D Q X:Nat} (h1:D=Q+X) (h2:Q<=R) (h3:R<P) (h4:R<D) (h5:X<=P):R+P-D+X=R-Q+P:=by omega
theorem XR (a b p q c1 c2:Nat) (ha:nw a<=1099511627776) (hb2:2<=nw b) (hba:nw b<=nw a) (w:World) (hp:w.heap[p]?=some (.cells (Au (BC a)).toArray 97 (0,0))) (hq:w.heap[q]?=some (.cells (Au (BC b)).toArray 97 (0,0))):Calls prog 169 #[(Value.slice (some ⟨p,0,none⟩) (nw a) c1),(Value.slice (some ⟨q,0,none⟩) (nw b) c2)] w (λe w'=>∃b1 b2,e=.returned (.tuple #[.slice (some ⟨b1,0,none⟩) (nw a+1-nw b) (nw a+1-nw b),.slice (some ⟨b2,0,none⟩) (nw a+1) (nw a+1)])/\Gj w.heap.size w w'/\w.heap.size<=b1/\w.heap.size<=b2/\b1≠b2/\w'.heap[b1]?=some (.cells (Au (Co (nw a+1-nw b) (a/b))).toArray 97 (0,0))/\w'.heap[b2]?=some (.cells (Au (Co (nw a+1) (a%b))).toArray 97 (0,0))):=by
 have hla:=CR a
 have hlb:=CR b
 have hb0:0<b:=Nat.pos_of_ne_zero (λh=>by rw [h,NL] at hb2;omega)
 obtain ⟨s,hs⟩:∃s,s=32-bl ((AR b).getD (nw b-1) 0):=⟨_,rfl⟩
 obtain ⟨hs32,hlow,hhigh⟩:=Zk Z hs
 obtain ⟨m,hm⟩:∃m,m=nw a+1-nw b:=⟨_,rfl⟩
 obtain ⟨V,hV⟩:∃V,V=b*2^s:=⟨_,rfl⟩
 obtain ⟨vb,hvb⟩:∃vb,vb=Co (nw b+1) (b*2^s):=⟨_,rfl⟩
 have hbig:b*2^s<4294967296^(nw b+1):=Nat.lt_of_lt_of_le hhigh (Nat.pow_le_pow_right Z Z)
 have hN:P6 vb (nw b) V:=⟨by rw [hvb];exact D5 _ _,by rw [hvb];exact Bk _ _,hb2,by rw [hvb,hV];exact Ey _ _ hbig,by rw [hV];exact hlow,by rw [hV];exact hhigh⟩
 have hst:=Pm rfl Z hs32 hlow hm hba
 have hA:val (Co (nw a+1) (a*2^s))=a*2^s:=Ey _ _ (by rw [Nat.pow_succ];exact Nat.mul_lt_mul_of_lt_of_le (Bt a) (Nat.le_trans (Nat.pow_le_pow_right Z (show s<=32 by omega)) (by decide)) Z)
 have hvlen:=hN.len
 have htop:=hN.top
 have htw:=(Og (b:=b) Z).2.2
 refine Af (args:=[(Value.slice (some ⟨p,0,none⟩) (nw a) c1),(Value.slice (some ⟨q,0,none⟩) (nw b) c2)]) func169 O O (AT O) (AF.subF (sL [0,1] O) (q4 (asg' O (asg' O (AE.nil ?_)))))
 refine q2 (AM O (AM O (AH (v:=(vN (nw b))) (AG O underlying184) O (AH (BW (c:=(((nw b)-1:Nat):Int)) O O (CM (a:=nw b) (b:=1) Z Z)) O (AH (v:=(pP q ((nw b)-1))) (AL (j:=(nw b)-1) O O underlying184 sizeOf97 O Z (by simp)) O ?_)))))
 have hx1:(BC b).getD ((nw b)-1) 0<4294967296:=W32.getD (Cb b) ((nw b)-1)
 refine AH (BY (v:=(vK .u32 ((BC b).getD ((nw b)-1) 0))) O (λw' hw=>CA.at0 (hw.oldCA (by simp) (Ew hq)) (BK (xs:=BC b) (j:=((nw b)-1)) Z)) isAgg97) O (AE.retell (k:=22) (u:=(vK .u32 ((AR b).getD (nw b-1) 0))) O (by rw [Dc Z]) (ck' call219 (Xj ((AR b).getD (nw b-1) 0) Z) O (AE.retell (k:=23) (u:=(vN s)) O (by rw [hs]) (asg' O (q6 (sL [0,1,4,5,6] O) ?_)))))
 refine Cd [(0,true),(1,true),(3,true),(4,true),(6,true),(7,true),(2,false),(5,false),(8,true),(9,true),(10,true)] sr (Bb O (Bb O (Bb O (Bb O (Bb O ?_)))))
 refine Aq (v:=(vN (nw b))) O (AG O underlying184) (OkE.imp O (AE.callB (V:=λb1=>(Value.slice (some ⟨b1,0,none⟩) (nw a+1) (nw a+1))) (T:=97) (cs:=Au (Co (nw a+1) (a*2^s))) (AS O) (Ao (args:=[(Value.slice (some ⟨p,0,none⟩) (nw a) c1),(vN s)]) O O call220) (λw hw=>(by have h:=LX p (nw a) c1 s (BC a) (Cb a) hla Z hs32 w (hw.old (by simp) hp);rw [IU] at h;exact h)) O (AT O) λb1=>OkE.back (sl sr) (OkE.imp O (AE.callB (V:=λb2=>(Value.slice (some ⟨b2,0,none⟩) (nw b+1) (nw b+1))) (T:=97) (cs:=Au vb) (AS O) (Ao (args:=[(Value.slice (some ⟨q,0,none⟩) (nw b) c2),(vN s)]) O O call220) (λw hw=>(by have h:=LX q (nw b) c2 s (BC b) (Cb b) hlb Z hs32 w (hw.old (by simp) hq);rw [IU,<-hvb] at h;exact h)) O (AT O) λb2=>?_))))
 refine OkE.back (sl (sl sr)) (Aq (v:=(Value.slice (some ⟨b2,0,none⟩) (nw b) (nw b+1))) O (G1 (m:=nw b) O O underlying184 sizeOf97 Z) (pS' O (pS' O (OkE.nil (AC.subF (sL [1,4,5,6,7,8] O) ?_)))))
 refine q2 (AM O (AH (v:=(vN (nw b))) (AG O underlying184) O (asg' O (q3 (sL [1,4,5,6,7,8,9] O) (AM O ?_)))))
 refine AH (v:=(vN (nw a+1))) (AG O underlying184) O (AM O (AH (BW (c:=(((nw a+1)-(nw b):Nat):Int)) O O (CM (a:=nw a+1) (b:=nw b) Z Z)) O (AE.retell (k:=38) (u:=(vN m)) O (by rw [hm]) (AE.openV (V:=λb3=>(Value.slice (some ⟨b3,0,none⟩) m m)) (T:=97) (cs:=Au (List.replicate m 0)) (AS O) (DT (m:=m) (c:=m) O O Z Z) O (AT O) λb3=>asg' O ?_))))
 refine q6 (sL [1,4,5,6,7,8,9] O) (q4 (AM O (AH (v:=(vN m)) (AG O underlying184) O (AH (BW (c:=(((m:Nat):Int)-1)) O O (A_ Z Z)) O (asg' O ?_)))))
 refine AE.nil (AC.subF (sL [1,4,5,6,7,8,9,10] O) (AC.then_ (AF.block ?_)))
 refine AF.lp3 (tg λ(k0:Nat) (us:List Nat) (qs:List Nat)=>k0<=m/\us.length=nw a+1/\W32 us/\qs.length=m/\W32 qs/\(∀j,j<k0->qs.getD j 0=0)/\val us<V*4294967296^k0/\a*2^s=val qs*V+val us) (tg λ(k0:Nat) (us:List Nat) (qs:List Nat)=>[(4,(Value.slice (some ⟨b3,0,none⟩) m m)),(5,(Value.slice none 0 0)),(6,(vN s)),(7,(Value.slice (some ⟨b1,0,none⟩) (nw a+1) (nw a+1))),(8,(Value.slice (some ⟨b2,0,none⟩) (nw b) (nw b+1))),(9,(vN (nw b))),(10,(vI (((k0:Nat):Int)-1)))]) (tg λ(k0:Nat) (us:List Nat) (qs:List Nat)=>[Ag b3 97 (Au qs),Ag b2 97 (Au vb),Ag b1 97 (Au us)]) (tg λ(k0:Nat) (us:List Nat) (qs:List Nat)=>k0) m (Co (nw a+1) (a*2^s)) (List.replicate m 0) (⟨Nat.le_refl _,Bk _ _,D5 _ _,by simp,W32.zeros _,λj _=>by simp [List.getD_eq_getElem?_getD,List.getElem?_replicate];split<;>rfl,by rw [hA,hV];exact hst,by rw [hA,EM];simp⟩) (sF O) sr (λk0 us qs hJ=>?_)
 obtain ⟨hk0,hul,huw,hql,hqw,hqz,hlt,hAeq⟩:=hJ
 refine AF.seq (q4 (AM O (AH (CU (c:=(decide ((0:Int)<=(((k0:Nat):Int)-1)))) O O O) O (AE.nil (AC.subF (sL [4,5,6,7,8,9,10,44] O) ?_)))))
 refine AC.then_ ?_
 refine AF.cond O (λhc0=>?_) (λhc0=>?_)
 ·replace hc0:=of_decide_eq_true hc0
  obtain ⟨k,rfl⟩:∃k,k0=k+1:=⟨k0-1,Z⟩
  obtain ⟨top,htp⟩:∃t,t=us.getD (k+nw b) 0*4294967296+us.getD (k+nw b-1) 0:=⟨_,rfl⟩
  obtain ⟨W,hWd⟩:∃x,x=val us/4294967296^k:=⟨_,rfl⟩
  have hWin:=Zv hN huw hlt
  rw [<-htp,<-hWd] at hWin
  have hu2:=huw.getD (k+nw b-2)
  have hG0:=Ow hN hWin hu2
  have htb:=hWin.topb
  have hq32:=hWin.quo_lt hN.pos
  refine AF.retell (k:=10) (u:=(vN k)) O (by congr 1;omega) (AF.skip (q1 (AF.block (AF.scope (AF.seq ?_)))))
  refine Cd [(0,true),(1,true),(2,true),(3,true),(4,true),(5,true),(6,true),(7,true),(8,true),(9,true),(10,true),(11,true),(12,true),(13,true),(14,true),(15,true),(16,true),(17,true)] sr (Bb O (Bb O (Bb O (Aq O (AW (c:=((k+(nw b):Nat):Int)) O O (AU (a:=k) (b:=nw b) Z)) (Aq (v:=(pP b1 (k+(nw b)))) O (AL (j:=k+(nw b)) O O underlying184 sizeOf97 O Z (by simp)) ?_)))))
  have hx2:us.getD (k+(nw b)) 0<4294967296:=W32.getD huw (k+(nw b))
  refine Aq O (AK (i:=2) (v:=(vK .u32 (us.getD (k+(nw b)) 0))) O O isAgg97 (BK (xs:=us) (j:=(k+(nw b))) Z)) (Aq O (Ay (c:=((us.getD (k+(nw b)) 0:Nat):Int)) O underlying97 underlying40 (BR Z)) (Aq (v:=(vK .u64 (us.getD (k+nw b) 0*4294967296))) O (HE (s:=32) O O O (by decide) (Gi (s:=32) Z)) (Bb O (Bb O (Bb O ?_)))))
  refine Aq O (AW (c:=((k+(nw b):Nat):Int)) O O (AU (a:=k) (b:=nw b) Z)) (Aq O (BW (c:=(((k+(nw b))-1:Nat):Int)) O O (CM (a:=k+(nw b)) (b:=1) Z Z)) (Aq (v:=(pP b1 ((k+(nw b))-1))) O (AL (j:=(k+(nw b))-1) O O underlying184 sizeOf97 O Z (by simp)) ?_))
  have hx3:us.getD ((k+(nw b))-1) 0<4294967296:=W32.getD huw ((k+(nw b))-1)
  refine Aq O (AK (i:=2) (v:=(vK .u32 (us.getD ((k+(nw b))-1) 0))) O O isAgg97 (BK (xs:=us) (j:=((k+(nw b))-1)) Z)) (Aq O (Ay (c:=((us.getD ((k+(nw b))-1) 0:Nat):Int)) O underlying97 underlying40 (BR Z)) (Aq O (JI (c:=((top:Nat):Int)) O O (Jr Z Z (((Nat.or_comm _ _).trans ((Hm (s:=32) Z).trans (Nat.add_comm _ _))).trans htp.symm))) (pS' O (OkE.nil (AC.subF (sL [4,5,6,7,8,9,10,11] O) ?_)))))
  refine q1 (Cd [(0,true),(1,true),(2,true),(3,true),(4,true),(5,true),(6,true),(7,true),(8,true),(9,true),(10,true),(11,true),(12,true),(13,true),(14,true),(15,true),(16,true),(17,true)] sr (Bb O (Bb O (Bb O (Aq O (BW (c:=(((nw b)-1:Nat):Int)) O O (CM (a:=nw b) (b:=1) Z Z)) ?_)))))
  refine Aq (v:=(pP b2 ((nw b)-1))) O (AL (j:=(nw b)-1) O O underlying184 sizeOf97 O Z (by simp)) ?_
  have hx4:vb.getD ((nw b)-1) 0<4294967296:=W32.getD hN.w32 ((nw b)-1)
  refine Aq O (AK (i:=1) (v:=(vK .u32 (vb.getD ((nw b)-1) 0))) O O isAgg97 (BK (xs:=vb) (j:=((nw b)-1)) Z)) (Aq O (Ay (c:=((vb.getD ((nw b)-1) 0:Nat):Int)) O underlying97 underlying40 (BR Z)) (Aq O (Dp (c:=((top/(vb.getD ((nw b)-1) 0):Nat):Int)) O O Z (IA (a:=top) (b:=vb.getD ((nw b)-1) 0) Z)) (Bb O (Bb O (Bb O ?_)))))
  refine Aq O (BW (c:=(((nw b)-1:Nat):Int)) O O (CM (a:=nw b) (b:=1) Z Z)) (Aq (v:=(pP b2 ((nw b)-1))) O (AL (j:=(nw b)-1) O O underlying184 sizeOf97 O Z (by simp)) ?_)
  have hx5:vb.getD ((nw b)-1) 0<4294967296:=W32.getD hN.w32 ((nw b)-1)
  refine Aq O (AK (i:=1) (v:=(vK .u32 (vb.getD ((nw b)-1) 0))) O O isAgg97 (BK (xs:=vb) (j:=((nw b)-1)) Z)) (Aq O (Ay (c:=((vb.getD ((nw b)-1) 0:Nat):Int)) O underlying97 underlying40 (BR Z)) (Aq O (Bs (c:=((top%(vb.getD ((nw b)-1) 0):Nat):Int)) O O Z (Gh (a:=top) (b:=vb.getD ((nw b)-1) 0))) (pS' O (pS' O (OkE.nil ?_)))))
  refine AC.subF (sL [4,5,6,7,8,9,10,12,13] O) (q1 (AF.label (q1 ?_)))
  refine AF.jn1 (tg λ(d:Nat)=>d<=4294967295/\(d=W/V\/d=W/V+1)) (tg λ(d:Nat)=>[(4,(Value.slice (some ⟨b3,0,none⟩) m m)),(5,(Value.slice none 0 0)),(6,(vN s)),(7,(Value.slice (some ⟨b1,0,none⟩) (nw a+1) (nw a+1))),(8,(Value.slice (some ⟨b2,0,none⟩) (nw b) (nw b+1))),(9,(vN (nw b))),(10,(vN k)),(12,(vK .u64 d))]) (tg λ(d:Nat)=>[Ag b3 97 (Au qs),Ag b2 97 (Au vb),Ag b1 97 (Au us)]) ?_ ?_
  ·skip
   refine AF.block ?_
   refine AF.lp2 (tg λ(d:Nat) (r:Nat)=>IN V W (vb.getD (nw b-1) 0) top d r/\r<8589934592/\d<8589934593) (tg λ(d:Nat) (r:Nat)=>[(4,(Value.slice (some ⟨b3,0,none⟩) m m)),(5,(Value.slice none 0 0)),(6,(vN s)),(7,(Value.slice (some ⟨b1,0,none⟩) (nw a+1) (nw a+1))),(8,(Value.slice (some ⟨b2,0,none⟩) (nw b) (nw b+1))),(9,(vN (nw b))),(10,(vN k)),(12,(vK .u64 d)),(13,(vK .u64 r))]) (tg λ(d:Nat) (r:Nat)=>[Ag b3 97 (Au qs),Ag b2 97 (Au vb),Ag b1 97 (Au us)]) (tg λ(d:Nat) (r:Nat)=>d) (top/vb.getD (nw b-1) 0) (top%vb.getD (nw b-1) 0) (⟨hG0,by have:=Nat.mod_lt top (show vb.getD (nw b-1) 0>0 by omega);omega,Nat.div_lt_of_lt_mul Z⟩) (sF O) sr (λd r hJ=>?_)
   obtain ⟨hG,hr2,hd2⟩:=hJ
   refine AF.seq (q4 (AM O (AH (Hg (c:=(decide (r<=4294967295))) O O (WG (a:=r) (b:=4294967295))) O (AE.nil (AC.subF (sL [4,5,6,7,8,9,10,12,13,81] O) ?_)))))
   refine AC.then_ ?_
   refine AF.cond O (λhc1=>?_) (λhc1=>?_)
   ·replace hc1:=of_decide_eq_true hc1
    refine AF.skip (AC.then_ (AF.block (AF.seq (AF.seq ?_))))
    by_cases hsp:d<=4294967295
    ·skip
     have hv2:=hN.w32.getD (nw b-2)
     have hml:=Lb (a:=d) (b:=vb.getD (nw b-2) 0) Z hv2
     refine Cd [(0,true),(1,true),(2,true),(3,true),(4,true),(5,true),(6,true),(7,true),(8,true),(9,true),(10,true),(11,true),(12,true),(13,true),(14,true),(15,true),(16,true),(17,true),(18,true),(19,true),(20,true),(21,true),(22,true),(23,true)] sr (Bb O (Aq O (Hg (c:=true) O O (WG.trans (decide_eq_true hsp))) (Bb O (OkE.pas (v:=(vK .u64 d)) O (AB O) (Al O) O O (OkE.pas (v:=(Value.slice (some ⟨b2,0,none⟩) (nw b) (nw b+1))) O (AB O) (Al O) O O ?_)))))
     refine OkE.pas (v:=(vN (nw b))) O (AB O) (Al O) O O (OkE.pas (v:=(vN ((nw b)-2))) O (AB O) (BW (c:=(((nw b)-2:Nat):Int)) O O (CM (a:=nw b) (b:=2) Z Z)) O O (OkE.pas (v:=(pP b2 ((nw b)-2))) O (AB O) (AL (j:=(nw b)-2) O O underlying184 sizeOf97 O Z (by simp)) O O ?_))
     have hx6:vb.getD ((nw b)-2) 0<4294967296:=W32.getD hN.w32 ((nw b)-2)
     refine OkE.pas (v:=(vK .u32 (vb.getD ((nw b)-2) 0))) O (AB O) (AK (i:=1) (v:=(vK .u32 (vb.getD ((nw b)-2) 0))) O O isAgg97 (BK (xs:=vb) (j:=((nw b)-2)) Z)) O O (OkE.pas (v:=(vK .u64 (vb.getD ((nw b)-2) 0))) O (AB O) (Ay (c:=((vb.getD ((nw b)-2) 0:Nat):Int)) O underlying97 underlying40 (BR Z)) O O (OkE.pas (v:=(vK .u64 (d*(vb.getD ((nw b)-2) 0)))) O (AB O) (Br (c:=((d*(vb.getD ((nw b)-2) 0):Nat):Int)) O O (FA (a:=d) (b:=vb.getD ((nw b)-2) 0) Z)) O O (OkE.pas (v:=(vK .u64 r)) O (AB O) (Al O) O O (OkE.pas (v:=(vK .u64 (r*4294967296))) O (AB O) (HE (s:=32) O O O (by decide) (Gi (s:=32) Z)) O O (OkE.pas (v:=(Value.slice (some ⟨b1,0,none⟩) (nw a+1) (nw a+1))) O (AB O) (Al O) O O ?_)))))
     refine OkE.pas (v:=(vN k)) O (AB O) (Al O) O O (OkE.pas (v:=(vN (nw b))) O (AB O) (Al O) O O (OkE.pas (v:=(vN (k+(nw b)))) O (AB O) (AW (c:=((k+(nw b):Nat):Int)) O O (AU (a:=k) (b:=nw b) Z)) O O (OkE.pas (v:=(vN ((k+(nw b))-2))) O (AB O) (BW (c:=(((k+(nw b))-2:Nat):Int)) O O (CM (a:=k+(nw b)) (b:=2) Z Z)) O O (OkE.pas (v:=(pP b1 ((k+(nw b))-2))) O (AB O) (AL (j:=(k+(nw b))-2) O O underlying184 sizeOf97 O Z (by simp)) O O ?_))))
     have hx7:us.getD ((k+(nw b))-2) 0<4294967296:=W32.getD huw ((k+(nw b))-2)
     refine OkE.pas (v:=(vK .u32 (us.getD ((k+(nw b))-2) 0))) O (AB O) (AK (i:=2) (v:=(vK .u32 (us.getD ((k+(nw b))-2) 0))) O O isAgg97 (BK (xs:=us) (j:=((k+(nw b))-2)) Z)) O O (OkE.pas (v:=(vK .u64 (us.getD ((k+(nw b))-2) 0))) O (AB O) (Ay (c:=((us.getD ((k+(nw b))-2) 0:Nat):Int)) O underlying97 underlying40 (BR Z)) O O (OkE.pas (v:=(vK .u64 (r*4294967296+us.getD (k+nw b-2) 0))) O (AB O) (JI (c:=((r*4294967296+us.getD (k+nw b-2) 0:Nat):Int)) O O (Jr Z Z (((Nat.or_comm _ _).trans ((Hm (s:=32) Z).trans (Nat.add_comm _ _)))))) O O (OkE.pas (v:=(Value.bool (decide ((d*(vb.getD ((nw b)-2) 0))<=(r*4294967296+us.getD (k+nw b-2) 0))))) O (AB O) (Hg (c:=(decide ((d*(vb.getD ((nw b)-2) 0))<=(r*4294967296+us.getD (k+nw b-2) 0)))) O O (WG (a:=d*(vb.getD ((nw b)-2) 0)) (b:=r*4294967296+us.getD (k+nw b-2) 0))) O O (Aq (v:=(Value.bool (decide ((d*(vb.getD ((nw b)-2) 0))<=(r*4294967296+us.getD (k+nw b-2) 0))))) O (Ac O O) (OkE.nil ?_)))))
     refine AC.subF (sL [4,5,6,7,8,9,10,12,13,105] O) (AC.then_ ?_)
     refine AF.cond O (λhc2=>?_) (λhc2=>?_)
     ·replace hc2:=of_decide_eq_true hc2
      have hg:=Ky hN hWin hG (.inr ⟨hsp,hc2⟩)
      exact AF.exit (AC.then_exit (AC.in_exit_ne O (AC.round2_exit (AC.in_exit (AC.join1 d (hg) (sF O) sr)))))
     ·replace hc2:=of_decide_eq_false hc2
      obtain ⟨hng1,hng2⟩:=Ka hN hWin hG (λh=>hc2 h.2)
      refine AF.skip (q2 (AM O (AH (BW (c:=((d-1:Nat):Int)) O O (IT (a:=d) (b:=1) Z Z)) O (asg' O (AE.nil ?_)))))
      refine AC.subF (sL [4,5,6,7,8,9,10,12,13] O) (AC.then_ (AF.region (AM O (AM O (AM O ?_)))))
      refine AH (BW (c:=(((nw b)-1:Nat):Int)) O O (CM (a:=nw b) (b:=1) Z Z)) O (AH (v:=(pP b2 ((nw b)-1))) (AL (j:=(nw b)-1) O O underlying184 sizeOf97 O Z (by simp)) O ?_)
      have hx8:vb.getD ((nw b)-1) 0<4294967296:=W32.getD hN.w32 ((nw b)-1)
      refine AH (AK (i:=1) (v:=(vK .u32 (vb.getD ((nw b)-1) 0))) O O isAgg97 (BK (xs:=vb) (j:=((nw b)-1)) Z)) O (AH (Ay (c:=((vb.getD ((nw b)-1) 0:Nat):Int)) O underlying97 underlying40 (BR Z)) O (AH (AW (c:=((r+(vb.getD ((nw b)-1) 0):Nat):Int)) O O (Dd (a:=r) (b:=vb.getD ((nw b)-1) 0) Z)) O (asg' O (AE.nil (AC.subF (sL [4,5,6,7,8,9,10,12,13] O) ?_)))))
      exact AC.in_normal (AC.round2 (d-1) (r+vb.getD (nw b-1) 0) (⟨hng1,Z,Z⟩) Z (sF O) sr)
    ·skip
     obtain ⟨hng1,hng2⟩:=Ka hN hWin hG (λh=>hsp h.1)
     refine Cd [(0,true),(1,true),(2,true),(3,true),(4,true),(5,true),(6,true),(7,true),(8,true),(9,true),(10,true),(11,true),(12,true),(13,true),(14,true),(15,true),(16,true),(17,true),(18,true),(19,true),(20,true),(21,true),(22,true),(23,true)] sr (Bb O (Aq O (Hg (c:=false) O O (WG.trans (decide_eq_false hsp))) (Bb O (OkE.skp O (AJ O) O O (OkE.skp O (AJ O) O O ?_)))))
     refine OkE.skp O (AJ O) O O (OkE.skp O (AJ O) O O (OkE.skp O (AJ O) O O (OkE.skp O (AJ O) O O (OkE.skp O (AJ O) O O (OkE.skp O (AJ O) O O ?_)))))
     refine OkE.skp O (AJ O) O O (OkE.skp O (AJ O) O O (OkE.skp O (AJ O) O O (OkE.skp O (AJ O) O O (OkE.skp O (AJ O) O O (OkE.skp O (AJ O) O O ?_)))))
     refine OkE.skp O (AJ O) O O (OkE.skp O (AJ O) O O (OkE.skp O (AJ O) O O (OkE.skp O (AJ O) O O (OkE.skp O (AJ O) O O (OkE.skp O (AJ O) O O ?_)))))
     refine Aq (v:=(Value.bool false)) O (AP O O) (OkE.nil (AC.subF (sL [4,5,6,7,8,9,10,12,13,105] O) (AC.then_ (AF.cond_false O (AF.skip ?_)))))
     refine q2 (AM O (AH (BW (c:=((d-1:Nat):Int)) O O (IT (a:=d) (b:=1) Z Z)) O (asg' O (AE.nil (AC.subF (sL [4,5,6,7,8,9,10,12,13] O) ?_)))))
     refine AC.then_ (AF.region (AM O (AM O (AM O (AH (BW (c:=(((nw b)-1:Nat):Int)) O O (CM (a:=nw b) (b:=1) Z Z)) O ?_)))))
     refine AH (v:=(pP b2 ((nw b)-1))) (AL (j:=(nw b)-1) O O underlying184 sizeOf97 O Z (by simp)) O ?_
     have hx9:vb.getD ((nw b)-1) 0<4294967296:=W32.getD hN.w32 ((nw b)-1)
     refine AH (AK (i:=1) (v:=(vK .u32 (vb.getD ((nw b)-1) 0))) O O isAgg97 (BK (xs:=vb) (j:=((nw b)-1)) Z)) O (AH (Ay (c:=((vb.getD ((nw b)-1) 0:Nat):Int)) O underlying97 underlying40 (BR Z)) O (AH (AW (c:=((r+(vb.getD ((nw b)-1) 0):Nat):Int)) O O (Dd (a:=r) (b:=vb.getD ((nw b)-1) 0) Z)) O (asg' O (AE.nil (AC.subF (sL [4,5,6,7,8,9,10,12,13] O) ?_)))))
     exact AC.in_normal (AC.round2 (d-1) (r+vb.getD (nw b-1) 0) (⟨hng1,Z,Z⟩) Z (sF O) sr)
   ·replace hc1:=of_decide_eq_false hc1
    have hg:=Ky hN hWin hG (.inl Z)
    exact AF.exit (AC.then_exit (AC.round2_exit (AC.in_exit (AC.join1 d (hg) (sF O) sr))))
  ·intro d hJ
   obtain ⟨hdb,hdq⟩:=hJ
   refine q1 (q4 (AM O (AM O (AM O (AM O ?_)))))
   refine AH (AW (c:=((k+(nw b):Nat):Int)) O O (AU (a:=k) (b:=nw b) Z)) O (AH (AW (c:=(((k+(nw b))+1:Nat):Int)) O O (AU (a:=k+(nw b)) (b:=1) Z)) O (AH (v:=(Value.slice (some ⟨b1,k,none⟩) (((k+(nw b))+1)-k) ((nw a+1)-k))) (Nh (i:=k) (m:=(k+(nw b))+1) O O O underlying184 sizeOf97 Z Z Z (by simp)) O (AE.retell (k:=122) (u:=(Value.slice (some ⟨b1,k,none⟩) (nw b+1) ((nw a+1)-k))) O (by rw [show k+nw b+1-k=nw b+1 by omega]) (AM O (AM O ?_)))))
   refine AE.callM (v:=(Value.bool (decide (val us<d*val (vb.take (nw b))*4294967296^k)))) (i:=2) (cs':=Au (Co (nw a+1) (val us+(if val us<d*val (vb.take (nw b))*4294967296^k then 4294967296^(k+nw b+1) else 0)-d*val (vb.take (nw b))*4294967296^k))) (L':=[Ag b3 97 (Au qs),Ag b2 97 (Au vb),Ag b1 97 (Au (Co (nw a+1) (val us+(if val us<d*val (vb.take (nw b))*4294967296^k then 4294967296^(k+nw b+1) else 0)-d*val (vb.take (nw b))*4294967296^k)))]) (AS O) (Ao (args:=[(Value.slice (some ⟨b1,k,none⟩) (nw b+1) ((nw a+1)-k)),(Value.slice (some ⟨b2,0,none⟩) (nw b) (nw b+1)),(vK .u64 d)]) O O call221) O (λw hw=>Xr _ _ k (nw b) (nw a+1) _ _ d us vb huw hul hN.w32 Z Z Z Z hWin.fits ((hw.apart (i:=1) (j:=2) (by decide) O O)) w (hw.get (i:=2) O) (hw.get (i:=1) O)) (λd hd=>by cases hd<;>exact (AT O)) O (AE.nil (AC.subF (sL [4,5,6,7,8,9,10,12,125] O) (AC.then_ ?_)))
   refine AF.jn1 (tg λ(us2:List Nat)=>us2.length=nw a+1/\W32 us2/\val us2=val us-W/V*V*4294967296^k) (tg λ(us2:List Nat)=>[(4,(Value.slice (some ⟨b3,0,none⟩) m m)),(5,(Value.slice none 0 0)),(6,(vN s)),(7,(Value.slice (some ⟨b1,0,none⟩) (nw a+1) (nw a+1))),(8,(Value.slice (some ⟨b2,0,none⟩) (nw b) (nw b+1))),(9,(vN (nw b))),(10,(vN k)),(12,(vK .u64 (W/V)))]) (tg λ(us2:List Nat)=>[Ag b3 97 (Au qs),Ag b2 97 (Au vb),Ag b1 97 (Au us2)]) ?_ ?_
   ·skip
    refine AF.cond O (λhc3=>?_) (λhc3=>?_)
    ·replace hc3:=of_decide_eq_true hc3
     have hP:4294967296^(k+nw b+1)<=4294967296^(nw a+1):=Nat.pow_le_pow_right Z Z
     rw [hN.take] at hc3
     obtain ⟨hde,hdS⟩:=QN (vb:=vb) hWin hdq hc3
     have hXP:V*4294967296^k<=4294967296^(k+nw b+1):=Nat.le_trans (Nat.mul_le_mul_right _ (Nat.le_of_lt hN.high)) (by rw [<-Nat.pow_add];exact Nat.pow_le_pow_right Z Z)
     have hqle:=QP (vb:=vb) hWin
     have hfit:=hWin.fits
     have hd1:1<=d:=by rw [hde];exact Nat.le_add_left _ _
     have hU1:val (Co (nw a+1) (val us+(if val us<d*val (vb.take (nw b))*4294967296^k then 4294967296^(k+nw b+1) else 0)-d*val (vb.take (nw b))*4294967296^k))=val us+4294967296^(k+nw b+1)-d*V*4294967296^k:=by rw [hN.take,if_pos hc3,Ey _ _ Z]
     have hU1lt:val (Co (nw a+1) (val us+(if val us<d*val (vb.take (nw b))*4294967296^k then 4294967296^(k+nw b+1) else 0)-d*val (vb.take (nw b))*4294967296^k))<4294967296^(k+nw b+1):=by rw [hU1];omega
     refine q4 (AM O (AH (BW (c:=((d-1:Nat):Int)) O O (IT (a:=d) (b:=1) Z Z)) O (asg' O (q3 (sL [4,5,6,7,8,9,10,12] O) (asg' O ?_)))))
     refine AE.nil (q1 (q4 (AM O (AH (v:=(vN (nw b))) (AG O underlying184) O (AM O ?_)))))
     refine AE.nil (AC.then_ (AF.block ?_))
     refine AF.lp3 (tg λ(i:Nat) (os:List Nat) (c:Nat)=>i<=nw b/\os.length=nw a+1/\W32 os/\c<=1/\(∀j,k+nw b+1<=j->os.getD j 0=0)/\val os+c*4294967296^(k+i)=(val us+4294967296^(k+nw b+1)-d*V*4294967296^k)+val (vb.take i)*4294967296^k) (tg λ(i:Nat) (os:List Nat) (c:Nat)=>[(4,(Value.slice (some ⟨b3,0,none⟩) m m)),(5,(Value.slice none 0 0)),(6,(vN s)),(7,(Value.slice (some ⟨b1,0,none⟩) (nw a+1) (nw a+1))),(8,(Value.slice (some ⟨b2,0,none⟩) (nw b) (nw b+1))),(9,(vN (nw b))),(10,(vN k)),(12,(vK .u64 (d-1))),(128,(Value.slice (some ⟨b2,0,none⟩) (nw b) (nw b+1))),(129,(vN (nw b))),(130,(vN i)),(14,(vK .u32 c))]) (tg λ(i:Nat) (os:List Nat) (c:Nat)=>[Ag b3 97 (Au qs),Ag b2 97 (Au vb),Ag b1 97 (Au os)]) (tg λ(i:Nat) (os:List Nat) (c:Nat)=>nw b-i) 0 (Co (nw a+1) (val us+(if val us<d*val (vb.take (nw b))*4294967296^k then 4294967296^(k+nw b+1) else 0)-d*val (vb.take (nw b))*4294967296^k)) 0 (⟨Nat.zero_le _,Bk _ _,D5 _ _,Z,JO hU1lt,by rw [hU1];simp [val]⟩) (sF O) sr (λi os c hJ=>?_)
     obtain ⟨hi,hl,hw32,hcc,hz,hv⟩:=hJ
     refine q4 (AH (Ae (c:=(decide (i<(nw b)))) O O (CL (a:=i) (b:=nw b))) O (AE.nil (q1 ?_)))
     refine AF.cond O (λhc4=>?_) (λhc4=>?_)
     ·replace hc4:=of_decide_eq_true hc4
      refine AF.skip (q1 (AF.block (q4 (AM O (AH (v:=(pP b2 i)) (AL (j:=i) O O underlying184 sizeOf97 O Z (by simp)) O ?_)))))
      have hx10:vb.getD i 0<4294967296:=W32.getD hN.w32 i
      refine AH (AK (i:=1) (v:=(vK .u32 (vb.getD i 0))) O O isAgg97 (BK (xs:=vb) (j:=i) Z)) O (asg' O (asg' O (AE.nil (AC.subF (sL [4,5,6,7,8,9,10,12,128,129,130,14,15,16] O) (AC.then_ ?_)))))
      refine AF.region (AM O (AM O (AM O (AH (AW (c:=((k+i:Nat):Int)) O O (AU (a:=k) (b:=i) Z)) O (AM O ?_)))))
      refine AM O (AM O (AH (AW (c:=((k+i:Nat):Int)) O O (AU (a:=k) (b:=i) Z)) O (AH (v:=(pP b1 (k+i))) (AL (j:=k+i) O O underlying184 sizeOf97 O Z (by simp)) O ?_)))
      have hx11:os.getD (k+i) 0<4294967296:=W32.getD hw32 (k+i)
      refine AH (AK (i:=2) (v:=(vK .u32 (os.getD (k+i) 0))) O O isAgg97 (BK (xs:=os) (j:=(k+i)) Z)) O (AM O (AM O (ck' call173 (Kc (os.getD (k+i) 0) (vb.getD i 0) c Z Z Z) O (AM O (AH (Aa (v:=(vK .u32 (((os.getD (k+i) 0)+(vb.getD i 0)+c)%4294967296))) O O) O ?_)))))
      refine AH (Aa (v:=(vK .u32 (((os.getD (k+i) 0)+(vb.getD i 0)+c)/4294967296))) O O) O (AH (v:=(pP b1 (k+i))) (AL (j:=k+i) O O underlying184 sizeOf97 O Z (by simp)) O (AE.store' (i:=2) (off:=(k+i)) (vs:=[(vK .u32 (((os.getD (k+i) 0)+(vb.getD i 0)+c)%4294967296))]) (cs':=Au (os.set (k+i) (((os.getD (k+i) 0)+(vb.getD i 0)+c)%4294967296))) (L':=[Ag b3 97 (Au qs),Ag b2 97 (Au vb),Ag b1 97 (Au (os.set (k+i) (((os.getD (k+i) 0)+(vb.getD i 0)+c)%4294967296)))]) (AS O) O O O O O sizeOf97 O (Cq (BS _) Z) (CN Z) O (asg' O (AE.nil (AC.subF (sL [4,5,6,7,8,9,10,12,128,129,130,14] O) ?_)))))
      refine AC.in_normal (AC.then_ (AF.region (AH (AW (c:=((i+1:Nat):Int)) O O (AU (a:=i) (b:=1) Z)) O (AM O (AE.nil ?_)))))
      exact AC.subF (sL [4,5,6,7,8,9,10,12,128,129,130,14] O) (AC.round3 (i+1) (os.set (k+i) ((os.getD (k+i) 0+vb.getD i 0+c)%4294967296)) ((os.getD (k+i) 0+vb.getD i 0+c)/4294967296) (⟨Z,by rw [List.length_set];exact hl,W32.set hw32 Z _,Z,Fm hz Z,TF hl Z hv⟩) Z (sF O) sr)
     ·replace hc4:=of_decide_eq_false hc4
      have hib:i=nw b:=by omega
      have hv3:=hv
      rw [hib,hN.take] at hv3
      have hbk:=SK (T:=val us-W/V*V*4294967296^k) (P:=4294967296^(k+nw b+1)) hl Z hw32 hcc hz rfl (hv3.trans (Qa hdS hqle hfit hc3 hXP)) (Nat.lt_of_le_of_lt (Nat.sub_le _ _) hfit)
      refine AF.exit (AC.then_exit (AC.round3_exit (AC.in_exit (AC.then_ (AF.region ?_)))))
      refine AM O (AM O (AM O (AH (AW (c:=((k+(nw b):Nat):Int)) O O (AU (a:=k) (b:=nw b) Z)) O (AH (v:=(pP b1 (k+(nw b)))) (AL (j:=k+(nw b)) O O underlying184 sizeOf97 O Z (by simp)) O ?_))))
      have hx12:os.getD (k+(nw b)) 0<4294967296:=W32.getD hw32 (k+(nw b))
      refine AH (AK (i:=2) (v:=(vK .u32 (os.getD (k+(nw b)) 0))) O O isAgg97 (BK (xs:=os) (j:=(k+(nw b))) Z)) O (AM O (AH (AW (c:=(((os.getD (k+nw b) 0+c)%4294967296:Nat):Int)) O O V0) O (AH (v:=(pP b1 (k+(nw b)))) (AL (j:=k+(nw b)) O O underlying184 sizeOf97 O Z (by simp)) O (AE.store' (i:=2) (off:=(k+(nw b))) (vs:=[(vK .u32 ((os.getD (k+nw b) 0+c)%4294967296))]) (cs':=Au (os.set (k+(nw b)) ((os.getD (k+nw b) 0+c)%4294967296))) (L':=[Ag b3 97 (Au qs),Ag b2 97 (Au vb),Ag b1 97 (Au (os.set (k+(nw b)) ((os.getD (k+nw b) 0+c)%4294967296)))]) (AS O) O O O O O sizeOf97 O (Cq (BS _) Z) (CN Z) O (AE.nil ?_)))))
      exact AC.subF (sL [4,5,6,7,8,9,10,12,128,129,130,14] O) (AC.retell (k:=12) (u:=Value.int .u64 ((W/V:Nat):Int)) O (by rw [hde,Nat.add_sub_cancel]) (AC.join1 (os.set (k+(nw b)) ((os.getD (k+nw b) 0+c)%4294967296)) (⟨by rw [List.length_set];exact hl,W32.set hw32 Z _,hbk⟩) (sF O) sr))
    ·replace hc3:=of_decide_eq_false hc3
     have hP:4294967296^(k+nw b+1)<=4294967296^(nw a+1):=Nat.pow_le_pow_right Z Z
     rw [hN.take] at hc3
     obtain ⟨hde,hdS⟩:=QI hN hWin hdq hc3
     have hfit:=hWin.fits
     have hU1:val (Co (nw a+1) (val us+(if val us<d*val (vb.take (nw b))*4294967296^k then 4294967296^(k+nw b+1) else 0)-d*val (vb.take (nw b))*4294967296^k))=val us-W/V*V*4294967296^k:=by rw [hN.take,if_neg hc3,Ey _ _ Z];exact hdS
     exact AF.skip (AC.retell (k:=12) (u:=Value.int .u64 ((W/V:Nat):Int)) O (by rw [hde]) (AC.join1 (Co (nw a+1) (val us+(if val us<d*val (vb.take (nw b))*4294967296^k then 4294967296^(k+nw b+1) else 0)-d*val (vb.take (nw b))*4294967296^k)) (⟨Bk _ _,D5 _ _,hU1⟩) (sF O) sr))
   ·intro us2 hJ
    obtain ⟨hu2l,hu2w,hu2v⟩:=hJ
    refine AC.then_ (AF.region (AM O (AM O (AM O (AH (Ay (c:=((W/V:Nat):Int)) O underlying40 underlying97 (CQ (by exact hq32))) O ?_)))))
    refine AH (v:=(pP b3 k)) (AL (j:=k) O O underlying184 sizeOf97 O Z (by simp)) O (AE.store' (i:=0) (off:=k) (vs:=[(vK .u32 (W/V))]) (cs':=Au (qs.set k (W/V))) (L':=[Ag b3 97 (Au (qs.set k (W/V))),Ag b2 97 (Au vb),Ag b1 97 (Au us2)]) (AS O) O O O O O sizeOf97 O (Cq (BS _) Z) (CN Z) O (AE.nil (AC.subF (sL [4,5,6,7,8,9,10,12] O) (AC.scope_normal (AC.in_normal ?_)))))
    refine AC.then_ (AF.region (AM O (AH (BW (c:=(((k:Nat):Int)-1)) O O (A_ Z Z)) O (asg' O (AE.nil ?_)))))
    refine AC.subF (sL [4,5,6,7,8,9,10,12] O) ?_
    have hdd:=Qb hN hWin hu2v hAeq hql Z (hqz k Z)
    exact AC.round3 k us2 (qs.set k (W/V)) (⟨Z,hu2l,hu2w,by rw [List.length_set];exact hql,W32.set hqw hq32 _,λj hj=>by rw [JH Z];exact hqz j Z,hdd.1,hdd.2⟩) Z (sF O) sr
 ·replace hc0:=of_decide_eq_false hc0
  have hk00:k0=0:=by omega
  have hlt0:=hlt
  rw [hk00,Nat.pow_zero,Nat.mul_one] at hlt0
  have hfin:=Sa (a:=a) (b:=b) (s:=s) (q:=val qs) (r:=val us) hb0 (by rw [<-hV];exact hAeq) (by rw [<-hV];exact hlt0)
  refine AF.exit (AC.then_exit (AC.round3_exit (AC.in_exit (q1 (q4 ?_)))))
  refine AM O (AM O (AE.nil (AC.then_ (AF.block ?_))))
  refine AF.lp2 (tg λ(i:Nat) (us3:List Nat)=>i<=s/\us3.length=nw a+1/\W32 us3/\val us3=a%b*2^s/2^i) (tg λ(i:Nat) (us3:List Nat)=>[(4,(Value.slice (some ⟨b3,0,none⟩) m m)),(5,(Value.slice none 0 0)),(7,(Value.slice (some ⟨b1,0,none⟩) (nw a+1) (nw a+1))),(167,(vN s)),(168,(vN i))]) (tg λ(i:Nat) (us3:List Nat)=>[Ag b3 97 (Au qs),Ag b2 97 (Au vb),Ag b1 97 (Au us3)]) (tg λ(i:Nat) (us3:List Nat)=>s-i) 0 us (⟨Nat.zero_le _,hul,huw,by rw [hfin.2];simp⟩) (sF O) sr (λi us3 hJ=>?_)
  obtain ⟨hi,hl3,hw3,hv3⟩:=hJ
  refine q4 (AH (Ae (c:=(decide (i<s))) O O (CL (a:=i) (b:=s))) O (AE.nil (q1 ?_)))
  refine AF.cond O (λhc5=>?_) (λhc5=>?_)
  ·replace hc5:=of_decide_eq_true hc5
   refine AF.skip (q1 (AF.block (AF.region (AM O (AE.callM (v:=(Value.tuple #[])) (i:=2) (cs':=Au (Co (nw a+1) (val us3/2))) (L':=[Ag b3 97 (Au qs),Ag b2 97 (Au vb),Ag b1 97 (Au (Co (nw a+1) (val us3/2)))]) (AS O) (Ao (args:=[(Value.slice (some ⟨b1,0,none⟩) (nw a+1) (nw a+1))]) O O call222) O (λw hw=>YU _ (nw a+1) _ us3 hw3 hl3 Z w (hw.get (i:=2) O)) (λd hd=>by cases hd<;>exact (AT O)) O ?_)))))
   refine AE.nil (AC.subF (sL [4,5,7,167,168] O) (AC.in_normal (AC.then_ (AF.region (AH (AW (c:=((i+1:Nat):Int)) O O (AU (a:=i) (b:=1) Z)) O ?_)))))
   refine AM O (AE.nil (AC.subF (sL [4,5,7,167,168] O) ?_))
   have hb3:val us3/2<4294967296^(nw a+1):=Nat.lt_of_le_of_lt (Nat.div_le_self _ _) (by have:=HB hw3;rw [hl3] at this;exact this)
   exact AC.round2 (i+1) (Co (nw a+1) (val us3/2)) (⟨Z,Bk _ _,D5 _ _,by rw [Ey _ _ hb3,hv3,Nat.div_div_eq_div_mul,<-Nat.pow_succ]⟩) Z (sF O) sr
  ·replace hc5:=of_decide_eq_false hc5
   have his:i=s:=by omega
   have hr:val us3=a%b:=by rw [hv3,his,Nat.mul_div_cancel _ (Nat.pow_pos Z)]
   have hr1:=Hd hw3 hl3 hr
   have hq1:=Hd hqw hql hfin.1
   refine AF.exit (AC.then_exit (AC.round2_exit (AC.in_exit (q2 (AM O ?_)))))
   refine AM O (asg' O (asg' O (AE.nil (AC.subF (sL [4,5,7,167,168] O) (AC.then_ ?_)))))
   exact AF.ret (Cp O (AY (v:=(Value.slice (some ⟨b3,0,none⟩) m m)) O) (AY (v:=(Value.slice (some ⟨b1,0,none⟩) (nw a+1) (nw a+1))) O) (λw hw=>⟨b3,b1,by rw [hm],hw.out,hw.fresh (i:=0) O,hw.fresh (i:=2) O,(hw.apart (i:=0) (j:=2) (by decide) O O),by rw [<-hm,<-hq1];exact hw.get (i:=0) O,by rw [<-hr1];exact hw.get (i:=2) O⟩))
end
end Go.Proofs.YtpgncndhhhllfaaGreatDoor
