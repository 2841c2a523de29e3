import Derived.Test.YtpgncndhhhllfaaGreatDoorPart34
namespace Go.Proofs.YtpgncndhhhllfaaGreatDoor
open Go Go.RowKit Go.Proofs.Tryz
set_option linter.unusedVariables false
set_option linter.unusedSimpArgs false
section
set_option maxRecDepth 100000
theorem Jg (x0:Z3):Instr.fill (λi=>some (i*3,3)) ((Array.range (1*3)).map ((Value.agg (Al ((0,0,0):Z3)).toArray).cells[·%(Value.agg (Al ((0,0,0):Z3)).toArray).cells.size]!)) [(0,.agg (Al x0).toArray)]=some (Al x0).toArray:=by kernel_rfl
theorem EQ {ps:List Pt} {ts ss:List Z3} (x:MZ ps ts ss) (k:Int) (hs:ss.length<=1000000) (w:World) {S:Nat->Prop} (hx:Ro S w x):Calls Tryz.prog 17 #[(aG (C9 x)),(vI k)] w (Av (CX (rowsL Al (A9 ss k)) (A9 ss k).length) (λ_=>False) w):=by
 have lx:=DF (W:=w) hx
 refine Ah (args:=[(aG (C9 x)),(vI k)]) (L:=[AI x.a.p (rowsL BE ps),AI x.b.p (rowsL Al ts),AI x.c.p (rowsL Al ss)]) Tryz.func17 rfl rfl (AY rfl) (EV hx Ar) (AF.subF (sL [0,1] rfl) (q4 (B9 (cs:=C9 x) rfl λb1=>asg' rfl (q3 (sL [1,2,4] rfl) ?_))))
 refine asg' rfl (AD.nilRow 55 3 (AD.nil (q1 (q4 (AH (v:=(pP b1 2)) (AA rfl Tryz.underlying30 rfl Tryz.sizeOf24 rfl) rfl ?_)))))
 refine BD 1 (Value.slice x.c.p ss.length x.c.c) Cz rfl (AH (v:=(vN ss.length)) (AE rfl Tryz.underlying24) rfl (AJ rfl (AD.nil (AC.subF (sL [1,4,5,9,10,11] rfl) (AC.then_ ?_)))))
 refine AF.block ?_
 refine AF.lp4 (tg λ(j:Nat) (p1:Option Addr) (c1:Nat) (ks:List Z3)=>j<=ss.length/\OwnOk p1 ks.length c1/\ks=B8 ss k j) (tg λ(j:Nat) (p1:Option Addr) (c1:Nat) (ks:List Z3)=>[(1,(vI k)),(4,(Value.slice none 0 0)),(9,(Value.slice x.c.p ss.length x.c.c)),(10,(vN ss.length)),(11,(vN j)),(5,(Value.slice p1 ks.length c1))]) (tg λ(j:Nat) (p1:Option Addr) (c1:Nat) (ks:List Z3)=>[rowW p1 55 3 ks.length c1 (rowsL Al ks),Ab b1 30 (C9 x),AI x.a.p (rowsL BE ps),AI x.b.p (rowsL Al ts),AI x.c.p (rowsL Al ss)]) (tg λ(j:Nat) (p1:Option Addr) (c1:Nat) (ks:List Z3)=>ss.length-j) 0 none 0 ([]:List Z3) (⟨Nat.zero_le _,OwnOk.none,rfl⟩) (sF rfl) sr (λj p1 c1 ks hJ=>?_)
 obtain ⟨hj,o1,hks⟩:=hJ
 have hkl:ks.length<=ss.length:=by rw [hks];exact Ju _
 refine q4 (AH (Ad (c:=(decide (j<ss.length))) rfl rfl (CB (a:=j) (b:=ss.length))) rfl (AD.nil (q1 ?_)))
 refine AF.cond rfl (λhc0=>?_) (λhc0=>?_)
 ·replace hc0:=of_decide_eq_true hc0
  refine AF.skip (q1 (AF.block (q4 (AH (v:=(pP (pB x.c.p) (pO x.c.p+j*3))) (AL (j:=j) rfl rfl x.c.ok Tryz.underlying24 Tryz.sizeOf55 rfl (by omega)) rfl (AH (v:=(aG (Al (ss.getD j ((0,0,0):Z3))))) (Ae (vs:=Al (ss.getD j ((0,0,0):Z3))) (i:=4) rfl rfl (A6.ne x.c.ok (by omega)) GP (Ax Ak _ _ _ (by omega)) (Ak _)) rfl ?_)))))
  refine al W4 rfl λb2=>BC rfl Tryz.sizeOf55 rfl (q3 (sL [1,4,9,10,11,5,7] rfl) (AH (v:=(pP b2 2)) (AA rfl Tryz.underlying55 rfl Tryz.sizeOf3 rfl) rfl (BD 0 (vI ((ss.getD j ((0,0,0):Z3)).2.2)) Be rfl (AJ rfl ?_))))
  refine AH (BJ (c:=(decide (((ss.getD j ((0,0,0):Z3)).2.2)=k))) rfl rfl rfl) rfl (AD.nil (AC.subF (sL [1,4,9,10,11,5,7,18] rfl) (AC.then_ ?_)))
  refine AF.cond rfl (λhc1=>?_) (λhc1=>?_)
  ·replace hc1:=of_decide_eq_true hc1
   refine AF.region (AJ rfl (BF 0 GP rfl (AD.openV (V:=λb3=>(Value.slice (some ⟨b3,0,none⟩) 1 1)) (T:=55) (cs:=Al (ss.getD j ((0,0,0):Z3))) (AO rfl) (Am (z:=.agg (Al ((0,0,0):Z3)).toArray) (cs:=Al (ss.getD j ((0,0,0):Z3))) (pv:=[(0,(aG (Al (ss.getD j ((0,0,0):Z3)))))]) Tryz.underlying24 Tryz.sizeOf55 Tryz.zeroValue55 (by decide) (by decide) rfl (Jg (ss.getD j ((0,0,0):Z3)))) rfl (AY rfl) λb3=>AD.append2 (j:=0) (cs2:=rowsL Al (ks++[ss.getD j ((0,0,0):Z3)])) Ud rfl o1 (Af Ak _) rfl rfl rfl rfl (by decide) (GR (by omega)) (by omega) (by rw [Bz];rfl) rfl λp_1 c_1 ho_1 hne_1=>asg' rfl ?_)))
   refine AD.nil (AC.subF (sL [1,4,9,10,11,5,7] rfl) (AC.in_normal (AC.then_ (AF.region (AH (AW (c:=((j+1:Nat):Int)) rfl rfl (AR (a:=j) (b:=1) (by omega))) rfl ?_)))))
   refine AJ rfl (AD.nil (AC.subF (sL [1,4,9,10,11,5,7] rfl) ?_))
   rw [show ks.length+1=(ks++[ss.getD j ((0,0,0):Z3)]).length by simp]
   exact AC.round4 (j+1) p_1 c_1 (ks++[ss.getD j ((0,0,0):Z3)]) (⟨by omega,by simpa using ho_1,by rw [hks,Ia (by omega) hc1]⟩) (by omega) (sF rfl) (sl (sl sr))
  ·replace hc1:=of_decide_eq_false hc1
   refine AF.skip (AC.in_normal (AC.then_ (AF.region (AH (AW (c:=((j+1:Nat):Int)) rfl rfl (AR (a:=j) (b:=1) (by omega))) rfl (AJ rfl ?_)))))
   exact AD.nil (AC.subF (sL [1,4,9,10,11,5,7] rfl) (AC.round4 (j+1) p1 c1 ks (⟨by omega,o1,by rw [hks,NW (by omega) hc1]⟩) (by omega) (sF rfl) (sl sr)))
 ·replace hc0:=of_decide_eq_false hc0
  have hkf:ks=A9 ss k:=by rw [hks,show j=ss.length by omega]
  refine AF.exit (AC.then_exit (AC.round4_exit (AC.in_exit (q2 (AJ rfl ?_)))))
  exact ck' Tryz.call44 (Jd p1 ks.length c1 o1.row.le) rfl (asg' rfl (AD.nil (AC.subF (sL [1,4,9,10,11,5] rfl) (AC.then_ (AF.ret (AN rfl (AQ (v:=(Value.slice p1 ks.length ks.length)) rfl) (λw hw=>(by subst hkf;exact XO hw 0 rfl o1 (Af Ak _) rfl))))))))
@[reducible] def XQ {ps:List Pt} {ts ss:List Z3} (a:Vg ps ts ss):Value:=.tuple #[aG (Ya a),vN 0]
theorem Xy {S:Nat->Prop} {W w:World} {L:List As} {ps:List Pt} {ts ss us:List Z3} (hw:A_ ⟨W,none⟩ w L) (cp:Vg ps ts ss) (hl:us.length=ss.length)
  (hs:[rowW cp.c.p 55 3 ss.length cp.c.c (rowsL Al us),rowW cp.b.p 53 3 ts.length cp.b.c (rowsL Al ts),rowW cp.a.p 51 10 ps.length cp.a.c (rowsL BE ps)].Sublist L) :
  Eo (XQ (ps:=ps) (ts:=ts) (ss:=us)) W0 S W (.returned (.tuple #[aG [.slice cp.a.p ps.length ps.length,.slice cp.b.p ts.length ts.length,.slice cp.c.p ss.length ss.length],vN 0])) w:=by
 refine Iq hw (⟨cp.a,cp.b,⟨cp.c.p,cp.c.c,by rw [hl];exact cp.c.ok⟩⟩:Vg ps ts us) ?_ (FQ.own rfl (FQ.own rfl (FQ.own rfl FQ.nil))) ?_
 ·show List.Sublist [rowW cp.c.p 55 3 us.length cp.c.c (rowsL Al us),rowW cp.b.p 53 3 ts.length cp.b.c (rowsL Al ts),rowW cp.a.p 51 10 ps.length cp.a.c (rowsL BE ps)] L
  rw [hl];exact hs
 ·show _=Value.tuple #[aG [.slice cp.a.p ps.length ps.length,.slice cp.b.p ts.length ts.length,.slice cp.c.p us.length us.length],vN 0]
  rw [hl]
set_option maxHeartbeats 1000000 in
theorem HT {ps:List Pt} {ts ss:List Z3} (x:MZ ps ts ss) (f t:Int) (hf:0<=f/\f<=255) (ht:0<=t/\t<=255) (hp:ps.length<=1000000) (htl:ts.length<=1000000) (hs:ss.length<=1000000) (w:World) {S:Nat->Prop} (hx:Ro S w x):Calls Tryz.prog 18 #[(aG (C9 x)),(vI f),(vI t)] w (Eo (XQ (ps:=ps) (ts:=ts) (ss:=CD ss f t)) W0 S w):=by
 have lx:=DF (W:=w) hx
 refine Ah (args:=[(aG (C9 x)),(vI f),(vI t)]) (L:=[AI x.a.p (rowsL BE ps),AI x.b.p (rowsL Al ts),AI x.c.p (rowsL Al ss)]) Tryz.func18 rfl rfl (AY rfl) (EV hx Ar) (AF.subF (sL [0,1,2] rfl) (q4 (B9 (cs:=C9 x) rfl λb1=>al HZ rfl λb2=>asg' rfl ?_)))
 refine q6 (sL [1,2,3,6,7] rfl) (q4 (AJ rfl (AJ rfl (AH (Ek (c:=(if t<f then t else f)) rfl rfl rfl) rfl (AH (Ad (c:=false) rfl rfl (decide_eq_false (by split<;>omega))) rfl ?_)))))
 refine AJ rfl (AD.step (v:=(vI f)) (AB rfl) (Ai rfl) rfl (AY rfl) (AD.step (v:=(vI t)) (AB rfl) (Ai rfl) rfl (AY rfl) (AD.step (v:=(vI (if f<t then t else f))) (AB rfl) (Ds (c:=(if f<t then t else f)) rfl rfl rfl) rfl (AY rfl) (AD.step (v:=(Value.bool false)) (AB rfl) (Bg (c:=false) rfl rfl (decide_eq_false (by split<;>omega))) rfl (AY rfl) (AH (v:=(Value.bool false)) (AV rfl rfl) rfl ?_)))))
 refine AD.nil (AC.subF (sL [1,2,3,6,7,19] rfl) (AC.then_ (AF.cond_false rfl (AF.skip (q2 ?_)))))
 refine BF 1 B1 rfl (AD.callL (S:=S) (V:=λa:Vg ps ts ss=>aG (Ya a)) (LW:=W0) (args:=[(aG (C9 x))]) Tryz.call10 (λw hw=>S5 x (by omega) (by omega) (by omega) w (inS hw 2 rfl lx)) rfl λcp hcp=>IM 4 (off:=0) (vs:=[(Value.slice cp.a.p ps.length ps.length),(Value.slice cp.b.p ts.length ts.length),(Value.slice cp.c.p ss.length ss.length)]) (cs':=[(Value.slice cp.a.p ps.length ps.length),(Value.slice cp.b.p ts.length ts.length),(Value.slice cp.c.p ss.length ss.length)]) (AO rfl) rfl Tryz.sizeOf30 rfl (q6 (sL [1,2,3,6,7] rfl) (q4 (AH (v:=(pP b1 2)) (AA rfl Tryz.underlying30 rfl Tryz.sizeOf24 rfl) rfl ?_))))
 refine BD 4 (Value.slice cp.c.p ss.length ss.length) Cz rfl (AH (v:=(vN ss.length)) (AE rfl Tryz.underlying24) rfl (AJ rfl (AD.nil (AC.subF (sL [1,2,3,6,7,25,26] rfl) (AC.then_ ?_)))))
 refine AF.block ?_
 refine AF.lp1 (tg λ(j:Nat)=>j<=ss.length) (tg λ(j:Nat)=>[(1,(vI f)),(2,(vI t)),(3,(pP b1 0)),(6,(pP b2 0)),(7,(vI 0)),(25,(vN ss.length)),(26,(vN j))]) (tg λ(j:Nat)=>[rowW cp.c.p 55 3 ss.length cp.c.c (rowsL Al (IG ss f t j)),rowW cp.b.p 53 3 ts.length cp.b.c (rowsL Al ts),rowW cp.a.p 51 10 ps.length cp.a.c (rowsL BE ps),Ab b2 30 ([(Value.slice none 0 0),(Value.slice none 0 0),(Value.slice none 0 0)]),Ab b1 30 ([(Value.slice cp.a.p ps.length ps.length),(Value.slice cp.b.p ts.length ts.length),(Value.slice cp.c.p ss.length ss.length)]),AI x.a.p (rowsL BE ps),AI x.b.p (rowsL Al ts),AI x.c.p (rowsL Al ss)]) (tg λ(j:Nat)=>ss.length-j) 0 (Nat.zero_le _) (sF rfl) sr (λj hJ=>?_)
 have hj:=hJ
 have hrm:=Lb (ss:=ss) (f:=f) (t:=t) j
 refine q4 (AH (Ad (c:=(decide (j<ss.length))) rfl rfl (CB (a:=j) (b:=ss.length))) rfl (AD.nil (q1 ?_)))
 refine AF.cond rfl (λhc1=>?_) (λhc1=>?_)
 ·replace hc1:=of_decide_eq_true hc1
  refine AF.skip (q1 (AF.block (q4 (AJ rfl (asg' rfl ?_)))))
  refine q3 (sL [1,2,3,6,7,25,26,8] rfl) (AH (v:=(pP b1 2)) (AA rfl Tryz.underlying30 rfl Tryz.sizeOf24 rfl) rfl (BD 4 (Value.slice cp.c.p ss.length ss.length) Cz rfl (AJ rfl (AH (v:=(pP (pB cp.c.p) (pO cp.c.p+j*3))) (AL (j:=j) rfl rfl cp.c.ok.clip Tryz.underlying24 Tryz.sizeOf55 rfl (by omega)) rfl (asg' rfl ?_)))))
  refine q3 (sL [1,2,3,6,7,25,26,9] rfl) (AJ rfl (AH (v:=(pP (pB cp.c.p) (pO cp.c.p+j*3))) (IF rfl) rfl (AH (v:=(pP (pB cp.c.p) (pO cp.c.p+(j*3+2)))) (AA rfl Tryz.underlying55 rfl Tryz.sizeOf3 (Nat.add_assoc _ _ _)) rfl (AH (Bn (v:=(vI (((IG ss f t j).getD j ((0,0,0):Z3)).2.2))) (i:=0) rfl rfl cp.c.ok (by rw [Af Ak,Lb]) (A6.ne cp.c.ok.clip (by omega)) Be (Bf Ak ((0,0,0):Z3) _ _ 2 (by omega) (by decide) rfl)) rfl (AJ rfl ?_)))))
  refine AH (BJ (c:=(decide ((((IG ss f t j).getD j ((0,0,0):Z3)).2.2)=f))) rfl rfl rfl) rfl (AD.nil (AC.subF (sL [1,2,3,6,7,25,26,9,38] rfl) (AC.then_ ?_)))
  refine AF.cond rfl (λhc2=>?_) (λhc2=>?_)
  ·replace hc2:=of_decide_eq_true hc2
   refine AF.region (AJ rfl (AJ rfl (AH (v:=(pP (pB cp.c.p) (pO cp.c.p+j*3))) (IF rfl) rfl (AH (v:=(pP (pB cp.c.p) (pO cp.c.p+(j*3+2)))) (AA rfl Tryz.underlying55 rfl Tryz.sizeOf3 (Nat.add_assoc _ _ _)) rfl (AD.storeObj 0 (enc:=Al) (j:=j) (r:=2) (x':=(((((IG ss f t j).getD j ((0,0,0):Z3)).1),(((IG ss f t j).getD j ((0,0,0):Z3)).2.1),t):Z3)) (vs:=[(vI t)]) ((0,0,0):Z3) Ak cp.c.ok (by first|rfl|omega|simp [*]) rfl rfl rfl (A6.ne cp.c.ok.clip (by omega)) (by omega) rfl Tryz.sizeOf3 rfl rfl ?_)))))
   refine AD.nil (AC.subF (sL [1,2,3,6,7,25,26,9] rfl) (AC.in_normal (AC.then_ (AF.region (AH (AW (c:=((j+1:Nat):Int)) rfl rfl (AR (a:=j) (b:=1) (by omega))) rfl ?_)))))
   refine AJ rfl (AD.nil (AC.subF (sL [1,2,3,6,7,25,26,9] rfl) ?_))
   rw [show (IG ss f t j).set j (((((IG ss f t j).getD j ((0,0,0):Z3)).1),(((IG ss f t j).getD j ((0,0,0):Z3)).2.1),t):Z3)=IG ss f t (j+1) from by rw [Lg (by omega),VY (by omega) (by rw [<-Lg (f:=f) (t:=t) (by omega)];exact hc2)]]
   exact AC.round1 (j+1) (by omega) (by omega) (sF rfl) sr
  ·replace hc2:=of_decide_eq_false hc2
   refine AF.skip (AC.in_normal (AC.then_ (AF.region (AH (AW (c:=((j+1:Nat):Int)) rfl rfl (AR (a:=j) (b:=1) (by omega))) rfl (AJ rfl ?_)))))
   refine AD.nil (AC.subF (sL [1,2,3,6,7,25,26,9] rfl) ?_)
   rw [show IG ss f t j=IG ss f t (j+1) from (W5 (by omega) (by rw [<-Lg (f:=f) (t:=t) (by omega)];exact hc2)).symm]
   exact AC.round1 (j+1) (by omega) (by omega) (sF rfl) sr
 ·replace hc1:=of_decide_eq_false hc1
  refine AF.exit (AC.then_exit (AC.round1_exit (AC.in_exit (q2 (BF 4 B1 rfl ?_)))))
  exact Iu rfl Tryz.sizeOf30 rfl (asg' rfl (AD.nil (AC.subF (sL [1,2,3,6,7,25,26] rfl) (AC.then_ (AF.ret (Br rfl (BB (i:=3) (cs:=[(Value.slice cp.a.p ps.length ps.length),(Value.slice cp.b.p ts.length ts.length),(Value.slice cp.c.p ss.length ss.length)]) rfl rfl Tryz.isAgg30 Tryz.sizeOf30 rfl) (AQ (v:=(vI 0)) rfl) (λw hw=>(by rw [VK (show j=ss.length by omega)] at hw;exact Xy hw cp Hx (sk (sk (sk (sl (sl (sl (sl (sl sr))))))))))))))))
theorem JN  :Instr.fill ([(0,1),(1,1),(2,1)].toArray[·]?) ([(Value.slice none 0 0),(Value.slice none 0 0),(Value.slice none 0 0)]).toArray []=some ([(Value.slice none 0 0),(Value.slice none 0 0),(Value.slice none 0 0)]).toArray:=by kernel_rfl
theorem N4 {ps:List Pt} {ts ss:List Z3} (x:MZ ps ts ss) (f t:Int) (hb:f<0\/t<0\/255<f\/255<t) (w:World) {S:Nat->Prop} (hx:Ro S w x):Calls Tryz.prog 18 #[(aG (C9 x)),(vI f),(vI t)] w (An w (Value.tuple #[(aG ([(Value.slice none 0 0),(Value.slice none 0 0),(Value.slice none 0 0)])),(vI 1)])):=by
 have lx:=DF (W:=w) hx
 refine Ah (args:=[(aG (C9 x)),(vI f),(vI t)]) (L:=[AI x.a.p (rowsL BE ps),AI x.b.p (rowsL Al ts),AI x.c.p (rowsL Al ss)]) Tryz.func18 rfl rfl (AY rfl) (EV hx Ar) (AF.subF (sL [0,1,2] rfl) (q4 (B9 (cs:=C9 x) rfl λb1=>al HZ rfl λb2=>asg' rfl ?_)))
 refine q6 (sL [1,2,3,6,7] rfl) (q4 (AJ rfl (AJ rfl (AH (Ek (c:=(if t<f then t else f)) rfl rfl rfl) rfl (AH (Ad (c:=(decide ((if t<f then t else f)<(0:Int)))) rfl rfl rfl) rfl ?_)))))
 refine AJ rfl ?_
 refine AD.mid (FM:=[(1,(vI f)),(2,(vI t)),(3,(pP b1 0)),(6,(pP b2 0)),(7,(vI 0)),(10,(vI f)),(11,(vI t)),(12,(vI (if t<f then t else f))),(13,(Value.bool (decide ((if t<f then t else f)<(0:Int))))),(14,(Value.bool (decide ((if t<f then t else f)<(0:Int))))),(19,(Value.bool ((decide ((if t<f then t else f)<(0:Int)))||(decide ((255:Int)<(if f<t then t else f))))))]) (LM:=[Ab b2 30 ([(Value.slice none 0 0),(Value.slice none 0 0),(Value.slice none 0 0)]),Ab b1 30 (C9 x),AI x.a.p (rowsL BE ps),AI x.b.p (rowsL Al ts),AI x.c.p (rowsL Al ss)]) 5 ?_ ?_
 ·rcases Bool.eq_false_or_eq_true (decide ((if t<f then t else f)<(0:Int))) with hg1|hg1
  ·skip
   refine AD.retell (k:=14) (u:=Value.bool true) rfl (by rw [hg1]) ?_
   have hg1':=hg1
   replace hg1':=of_decide_eq_true hg1'
   exact AD.skip (AG rfl) rfl (AY rfl) (AD.skip (AG rfl) rfl (AY rfl) (AD.skip (AG rfl) rfl (AY rfl) (AD.skip (AG rfl) rfl (AY rfl) (AH (v:=(Value.bool true)) (AT rfl rfl) rfl (AD.nil (AC.mid (sS rfl (sS rfl (sS rfl (sS rfl (sS rfl (sS rfl (sS rfl (sS rfl (sS rfl (sS (by first|rfl|(rw [hg1];rfl)|rw [hg1]) (sS (by first|rfl|(rw [hg1];rfl)|rw [hg1]) (sN)))))))))))) (List.Sublist.refl _)))))))
  ·skip
   refine AD.retell (k:=14) (u:=Value.bool false) rfl (by rw [hg1]) ?_
   have hg1':=hg1
   replace hg1':=of_decide_eq_false hg1'
   exact AD.step (v:=(vI f)) (AB rfl) (Ai rfl) rfl (AY rfl) (AD.step (v:=(vI t)) (AB rfl) (Ai rfl) rfl (AY rfl) (AD.step (v:=(vI (if f<t then t else f))) (AB rfl) (Ds (c:=(if f<t then t else f)) rfl rfl rfl) rfl (AY rfl) (AD.step (v:=(Value.bool (decide ((255:Int)<(if f<t then t else f))))) (AB rfl) (Bg (c:=(decide ((255:Int)<(if f<t then t else f)))) rfl rfl rfl) rfl (AY rfl) (AH (v:=(Value.bool (decide ((255:Int)<(if f<t then t else f))))) (AV rfl rfl) rfl (AD.nil (AC.mid (sS rfl (sS rfl (sS rfl (sS rfl (sS rfl (sS rfl (sS rfl (sS rfl (sS rfl (sS (by first|rfl|(rw [hg1];rfl)|rw [hg1]) (sS (by first|rfl|(rw [hg1];rfl)|rw [hg1]) (sN)))))))))))) (List.Sublist.refl _)))))))
 refine AD.nil (AC.subF (sL [1,2,3,6,7,19] rfl) (AC.then_ ?_))
 refine AF.cond rfl (λhc0=>?_) (λhc0=>?_)
 ·simp only [Bool.and_eq_true,Bool.or_eq_true,Bool.and_eq_false_iff,Bool.or_eq_false_iff,Bool.not_eq_true',Bool.not_eq_false',decide_eq_true_eq,decide_eq_false_iff_not] at hc0
  refine q4 (AH (v:=(aG ([(Value.slice none 0 0),(Value.slice none 0 0),(Value.slice none 0 0)]))) (AU (zs:=[(Value.slice none 0 0),(Value.slice none 0 0),(Value.slice none 0 0)]) (vs:=[(Value.slice none 0 0),(Value.slice none 0 0),(Value.slice none 0 0)]) (pv:=[]) (places:=[(0,1),(1,1),(2,1)]) Tryz.zeroValue30 Tryz.underlying30 (λw=>by simp [Tryz.sizeOf23,Tryz.sizeOf24,Tryz.sizeOf28]) rfl (JN )) rfl (BC rfl Tryz.sizeOf30 rfl (asg' rfl (AD.nil (AC.subF (sL [1,2,3,6,7] rfl) ?_)))))
  exact AC.then_ (AF.ret (AC.then_ret (Br rfl (BB (i:=0) (cs:=[(Value.slice none 0 0),(Value.slice none 0 0),(Value.slice none 0 0)]) rfl rfl Tryz.isAgg30 Tryz.sizeOf30 rfl) (AQ (v:=(vI 1)) rfl) (λw hw=>⟨rfl,hw.out⟩))))
 ·simp only [Bool.and_eq_true,Bool.or_eq_true,Bool.and_eq_false_iff,Bool.or_eq_false_iff,Bool.not_eq_true',Bool.not_eq_false',decide_eq_true_eq,decide_eq_false_iff_not] at hc0
  exfalso;grind
end
end Go.Proofs.YtpgncndhhhllfaaGreatDoor
