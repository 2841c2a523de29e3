import Derived.Test.YtpgncndhhhllfaaGreatDoorPart06
import Derived.Test.YtpgncndhhhllfaaGreatDoorPart26
import Derived.Test.YtpgncndhhhllfaaGreatDoorPart32
namespace Go.Proofs.YtpgncndhhhllfaaGreatDoor
open Go Go.RowKit Go.Proofs.Tryz
set_option linter.unusedVariables false
set_option linter.unusedSimpArgs false
section
set_option maxRecDepth 100000
theorem N2 (ts:List Z3) (x:RX (rowsL Al ts) ts.length) (hl:ts.length<=1000000000) (w:World) {S:Nat->Prop} (hx:Ro S w x):Calls Tryz.prog 43 #[(Value.slice x.p ts.length x.c)] w (Eo Vj (T9 (T:=53) (z:=3) (cs:=rowsL Al ts) (n:=ts.length)) S w):=by
 have lx:=DF (W:=w) hx
 refine Ah (args:=[(Value.slice x.p ts.length x.c)]) (L:=[AI x.p (rowsL Al ts)]) Tryz.func43 rfl rfl (AY rfl) (EV hx Ar) (AF.subF (sL [0] rfl) (q4 (asg' rfl (AD.nilRow 53 3 (AD.nil ?_)))))
 refine q1 (q4 (AJ rfl (AH (v:=(Value.bool x.p.isNone)) (FE rfl rfl Tryz.underlying23) rfl (AD.nil (AC.subF (sL [0,2,4] rfl) ?_)))))
 refine AC.then_ ?_
 refine AF.cond rfl (λhc0=>?_) (λhc0=>?_)
 ·skip
  have hts:ts=[]:=List.eq_nil_of_length_eq_zero (x.ok.nil (Option.isNone_iff_eq_none.1 hc0)).1
  refine q4 (asg' rfl (AD.nilRow 53 3 (AD.nil (AC.then_ (AF.ret ?_)))))
  exact AC.then_ret (AN rfl (AQ (v:=(Value.slice none 0 0)) rfl) (λw hw=>(by subst hts;exact Iq hw (OX.mk none 0 OwnOk.none) (by exact (sk (sl (sl sr)))) (FQ.own rfl FQ.nil) (by show Value.slice none 0 0=_;rfl))))
 ·skip
  refine AF.skip (q2 (AD.openV (V:=λb1=>(Value.slice (some ⟨b1,0,none⟩) 0 0)) (T:=53) (cs:=[]) (AO rfl) (Ey Tryz.underlying23 Tryz.sizeOf53) rfl (AY rfl) λb1=>AD.asRow0 (z:=3) 0 rfl (by omega) λho_b1=>AJ rfl (AD.appendE0 XC rfl ho_b1 rfl (K_ (k:=2) rfl x.ok) (Af Ak _) (Dh HL _) (GR (by omega)) (by omega) rfl λp_1 c_1 ho_1=>?_)))
  exact asg' rfl (AD.nil (AC.subF (sL [0,2] rfl) (AC.then_ (AF.ret (AN rfl (AQ (v:=(Value.slice p_1 ts.length c_1)) rfl) (λw hw=>(Iq hw (OX.mk p_1 c_1 ho_1) (sk (sl (sl sr))) (FQ.own rfl FQ.nil) rfl)))))))
theorem OA (ts:List Z3) (x:RX (rowsL Al ts) ts.length) (hl:ts.length<=1000000000) (w:World) {S:Nat->Prop} (hx:Ro S w x):Calls Tryz.prog 45 #[(Value.slice x.p ts.length x.c)] w (Eo Vj (T9 (T:=55) (z:=3) (cs:=rowsL Al ts) (n:=ts.length)) S w):=by
 have lx:=DF (W:=w) hx
 refine Ah (args:=[(Value.slice x.p ts.length x.c)]) (L:=[AI x.p (rowsL Al ts)]) Tryz.func45 rfl rfl (AY rfl) (EV hx Ar) (AF.subF (sL [0] rfl) (q4 (asg' rfl (AD.nilRow 55 3 (AD.nil ?_)))))
 refine q1 (q4 (AJ rfl (AH (v:=(Value.bool x.p.isNone)) (FE rfl rfl Tryz.underlying24) rfl (AD.nil (AC.subF (sL [0,2,4] rfl) ?_)))))
 refine AC.then_ ?_
 refine AF.cond rfl (λhc0=>?_) (λhc0=>?_)
 ·skip
  have hts:ts=[]:=List.eq_nil_of_length_eq_zero (x.ok.nil (Option.isNone_iff_eq_none.1 hc0)).1
  refine q4 (asg' rfl (AD.nilRow 55 3 (AD.nil (AC.then_ (AF.ret ?_)))))
  exact AC.then_ret (AN rfl (AQ (v:=(Value.slice none 0 0)) rfl) (λw hw=>(by subst hts;exact Iq hw (OX.mk none 0 OwnOk.none) (by exact (sk (sl (sl sr)))) (FQ.own rfl FQ.nil) (by show Value.slice none 0 0=_;rfl))))
 ·skip
  refine AF.skip (q2 (AD.openV (V:=λb1=>(Value.slice (some ⟨b1,0,none⟩) 0 0)) (T:=55) (cs:=[]) (AO rfl) (Ey Tryz.underlying24 Tryz.sizeOf55) rfl (AY rfl) λb1=>AD.asRow0 (z:=3) 0 rfl (by omega) λho_b1=>AJ rfl (AD.appendE0 Ud rfl ho_b1 rfl (K_ (k:=2) rfl x.ok) (Af Ak _) (Dh HL _) (GR (by omega)) (by omega) rfl λp_1 c_1 ho_1=>?_)))
  exact asg' rfl (AD.nil (AC.subF (sL [0,2] rfl) (AC.then_ (AF.ret (AN rfl (AQ (v:=(Value.slice p_1 ts.length c_1)) rfl) (λw hw=>(Iq hw (OX.mk p_1 c_1 ho_1) (sk (sl (sl sr))) (FQ.own rfl FQ.nil) rfl)))))))
theorem S5 {ps:List Pt} {ts ss:List Z3} (x:MZ ps ts ss) (hp:ps.length<=1000000000) (ht:ts.length<=1000000000) (hs:ss.length<=1000000000) (w:World) {S:Nat->Prop} (hx:Ro S w x):Calls Tryz.prog 10 #[(aG (C9 x))] w (Eo (λa:Vg ps ts ss=>aG (Ya a)) W0 S w):=by
 have lx:=DF (W:=w) hx
 refine Ah (args:=[(aG (C9 x))]) (L:=[AI x.a.p (rowsL BE ps),AI x.b.p (rowsL Al ts),AI x.c.p (rowsL Al ss)]) Tryz.func10 rfl rfl (AY rfl) (EV hx Ar) (AF.subF (sL [0] rfl) (q4 (B9 (cs:=C9 x) rfl λb1=>al HZ rfl λb2=>q6 (sL [1,2] rfl) ?_)))
 refine Cw [(0,true),(1,true),(4,true),(5,true),(8,true),(9,true),(2,false),(3,false),(6,false),(7,false),(10,false),(11,false),(12,true),(13,false)] (sl sr) (Aw (v:=(pP b1 0)) rfl (AA rfl Tryz.underlying30 rfl Tryz.sizeOf28 rfl) (Bm 0 (Value.slice x.a.p ps.length x.a.c) LT rfl (Aw (v:=(pP b1 1)) rfl (AA rfl Tryz.underlying30 rfl Tryz.sizeOf23 rfl) (Bm 0 (Value.slice x.b.p ts.length x.b.c) EU rfl (Aw (v:=(pP b1 2)) rfl (AA rfl Tryz.underlying30 rfl Tryz.sizeOf24 rfl) ?_)))))
 refine Bm 0 (Value.slice x.c.p ss.length x.c.c) Cz rfl (OkE.imp rfl (AD.callL (S:=S) (V:=Vj) (LW:=T9 (T:=51) (z:=10) (cs:=rowsL BE ps) (n:=ps.length)) (args:=[(Value.slice x.a.p ps.length x.a.c)]) Tryz.call41 (λw hw=>Qh ps x.a (by omega) w (Wy (inS hw 2 rfl lx))) rfl λcl1 hcl1=>OkE.back (sl (sl sr)) (OkE.imp rfl (ck' Tryz.call40 (Sy cl1.p ps.length cl1.c cl1.ok.row.le) rfl ?_))))
 refine OkE.back (sl (sl sr)) (OkE.imp rfl (AD.callL (S:=S) (V:=Vj) (LW:=T9 (T:=53) (z:=3) (cs:=rowsL Al ts) (n:=ts.length)) (args:=[(Value.slice x.b.p ts.length x.b.c)]) Tryz.call43 (λw hw=>N2 ts x.b (by omega) w (Vv (inS hw 3 rfl lx))) rfl λcl2 hcl2=>OkE.back (sl (sl (sl sr))) (OkE.imp rfl (ck' Tryz.call42 (SO cl2.p ts.length cl2.c cl2.ok.row.le) rfl ?_))))
 refine OkE.back (sl (sl (sl sr))) (OkE.imp rfl (AD.callL (S:=S) (V:=Vj) (LW:=T9 (T:=55) (z:=3) (cs:=rowsL Al ss) (n:=ss.length)) (args:=[(Value.slice x.c.p ss.length x.c.c)]) Tryz.call45 (λw hw=>OA ss x.c (by omega) w (Ss (inS hw 4 rfl lx))) rfl λcl3 hcl3=>OkE.back (sl (sl (sl (sl sr)))) (OkE.imp rfl (ck' Tryz.call44 (Jd cl3.p ss.length cl3.c cl3.ok.row.le) rfl ?_))))
 refine OkE.back (sl (sl (sl (sl sr)))) (Aw (v:=(aG ([(Value.slice cl1.p ps.length ps.length),(Value.slice cl2.p ts.length ts.length),(Value.slice cl3.p ss.length ss.length)]))) rfl (AU (zs:=[(Value.slice none 0 0),(Value.slice none 0 0),(Value.slice none 0 0)]) (vs:=[(Value.slice cl1.p ps.length ps.length),(Value.slice cl2.p ts.length ts.length),(Value.slice cl3.p ss.length ss.length)]) (pv:=[(0,(Value.slice cl1.p ps.length ps.length)),(1,(Value.slice cl2.p ts.length ts.length)),(2,(Value.slice cl3.p ss.length ss.length))]) (places:=[(0,1),(1,1),(2,1)]) Tryz.zeroValue30 Tryz.underlying30 (λw=>by simp [Tryz.sizeOf23,Tryz.sizeOf24,Tryz.sizeOf28]) rfl rfl) (OkE.imp rfl (Iu rfl Tryz.sizeOf30 rfl (OkE.back (sl (sl (sl (sl sr)))) (OkE.nil ?_)))))
 exact AC.subF (sL [2] rfl) (AC.then_ (AF.ret (AN rfl (BB (i:=3) (cs:=[(Value.slice cl1.p ps.length ps.length),(Value.slice cl2.p ts.length ts.length),(Value.slice cl3.p ss.length ss.length)]) rfl rfl Tryz.isAgg30 Tryz.sizeOf30 rfl) (λw hw=>(Iq hw (Vg.mk (OX.mk cl1.p cl1.c cl1.ok) (OX.mk cl2.p cl2.c cl2.ok) (OX.mk cl3.p cl3.c cl3.ok)) (sk (sk (sk (sl (sl (sl (sl (sl sr)))))))) (FQ.own rfl (FQ.own rfl (FQ.own rfl FQ.nil))) rfl)))))
theorem VT (p q:Pt) (w:World)  :Calls Tryz.prog 47 #[(aG (BE p)),(aG (BE q))] w (An w (Value.bool (decide (p=q)))):=by
 refine Ag (args:=[(aG (BE p)),(aG (BE q))]) Tryz.func47 rfl rfl (AY rfl) (AF.subF (sL [0,1] rfl) (q4 (B9 (cs:=BE p) rfl λb1=>B9 (cs:=BE q) rfl λb2=>asg' rfl ?_)))
 refine q3 (sL [2,3,4] rfl) (BF 1 Rf rfl (BF 0 Rf rfl (AH (Cq (c:=decide (p=q)) rfl rfl Tryz.eqGuardType51 (WN 9994 p q)) rfl (asg' rfl (AD.nil ?_)))))
 exact AC.subF (sL [4] rfl) (AC.then_ (AF.ret (AN rfl (AQ (v:=(Value.bool (decide (p=q)))) rfl) (λw hw=>⟨rfl,hw.out⟩))))
theorem Q4 (xs ys:List Pt) (x:RX (rowsL BE xs) xs.length) (y:RX (rowsL BE ys) ys.length) (hl:xs.length<=1000000) (w:World) {S:Nat->Prop} (hx:Ro S w x) (hy:Ro S w y):Calls Tryz.prog 46 #[(Value.slice x.p xs.length x.c),(Value.slice y.p ys.length y.c),(Value.func (.func 47) #[] #[])] w (An w (Value.bool (decide (xs=ys)))):=by
 have lx:=DF (W:=w) hx
 have ly:=DF (W:=w) hy
 refine Ah (args:=[(Value.slice x.p xs.length x.c),(Value.slice y.p ys.length y.c),(Value.func (.func 47) #[] #[])]) (L:=[AI x.p (rowsL BE xs),AI y.p (rowsL BE ys)]) Tryz.func46 rfl rfl (AY rfl) (EV hx (EV hy Ar)) (AF.subF (sL [0,1,2] rfl) (q4 (asg' rfl (AD.nil (q1 ?_)))))
 refine q4 (AJ rfl (AH (v:=(vN xs.length)) (AE rfl Tryz.underlying28) rfl (AJ rfl (AH (v:=(vN ys.length)) (AE rfl Tryz.underlying28) rfl (AH (B7 (c:=(decide (xs.length≠ys.length))) rfl rfl (VQ (a:=xs.length) (b:=ys.length))) rfl ?_)))))
 refine AD.nil (AC.subF (sL [0,1,2,6,12] rfl) (AC.then_ ?_))
 refine AF.cond rfl (λhc0=>?_) (λhc0=>?_)
 ·replace hc0:=of_decide_eq_true hc0
  have hne:¬xs=ys:=λh=>by grind
  exact q4 (asg' rfl (AD.nil (AC.then_ (AF.ret (AC.then_ret (AN rfl (AQ (v:=(Value.bool false)) rfl) (λw hw=>⟨by rw [decide_eq_false hne],hw.out⟩)))))))
 ·replace hc0:=of_decide_eq_false hc0
  have hll:xs.length=ys.length:=by grind
  refine AF.skip (q1 (q4 (AJ rfl (AH (v:=(vN xs.length)) (AE rfl Tryz.underlying28) rfl (AJ rfl ?_)))))
  refine AD.nil (AC.subF (sL [0,1,2,6,14,15] rfl) (AC.then_ (AF.block ?_)))
  refine AF.lp1 (tg λ(j:Nat)=>j<=xs.length/\∀k,k<j->xs.getD k (⟨0,0⟩:Pt)=ys.getD k (⟨0,0⟩:Pt)) (tg λ(j:Nat)=>[(0,(Value.slice x.p xs.length x.c)),(1,(Value.slice y.p ys.length y.c)),(2,(Value.func (.func 47) #[] #[])),(14,(vN xs.length)),(15,(vN j))]) (tg λ(j:Nat)=>[AI x.p (rowsL BE xs),AI y.p (rowsL BE ys)]) (tg λ(j:Nat)=>xs.length-j) 0 (⟨Nat.zero_le _,λk h=>absurd h (Nat.not_lt_zero _)⟩) (sF rfl) sr (λj hJ=>?_)
  obtain ⟨hj,he⟩:=hJ
  refine q4 (AH (Ad (c:=(decide (j<xs.length))) rfl rfl (CB (a:=j) (b:=xs.length))) rfl (AD.nil (q1 ?_)))
  refine AF.cond rfl (λhc1=>?_) (λhc1=>?_)
  ·replace hc1:=of_decide_eq_true hc1
   refine AF.skip (q1 (AF.block (q4 (AJ rfl (asg' rfl ?_)))))
   refine q6 (sL [0,1,2,14,15,7] rfl) (Cw [(0,true),(1,true),(2,true),(3,true),(4,true),(5,true),(6,true),(7,true),(8,true),(9,false),(10,true)] sr (BS rfl (BS rfl (BS rfl (Aw (v:=(pP (pB x.p) (pO x.p+j*10))) rfl (AL (j:=j) rfl rfl x.ok Tryz.underlying28 Tryz.sizeOf51 rfl (by omega)) ?_)))))
   refine Aw (v:=(aG (BE (xs.getD j (⟨0,0⟩:Pt))))) rfl (Ae (vs:=BE (xs.getD j (⟨0,0⟩:Pt))) (i:=0) rfl rfl (A6.ne x.ok (by omega)) Rf (Ax Ck _ _ _ (by omega)) (Ck _)) (BS rfl (BS rfl (Aw (v:=(pP (pB y.p) (pO y.p+j*10))) rfl (AL (j:=j) rfl rfl y.ok Tryz.underlying28 Tryz.sizeOf51 rfl (by omega)) (Aw (v:=(aG (BE (ys.getD j (⟨0,0⟩:Pt))))) rfl (Ae (vs:=BE (ys.getD j (⟨0,0⟩:Pt))) (i:=1) rfl rfl (A6.ne y.ok (by omega)) Rf (Ax Ck _ _ _ (by omega)) (Ck _)) (OkE.imp rfl ?_)))))
   refine ck' Tryz.call47 (VT (xs.getD j (⟨0,0⟩:Pt)) (ys.getD j (⟨0,0⟩:Pt))) rfl (OkE.back sr (Aw rfl (Bw (c:=(!(decide (xs.getD j (⟨0,0⟩:Pt)=ys.getD j (⟨0,0⟩:Pt))))) rfl rfl) (OkE.nil (AC.subF (sL [0,1,2,14,15,28] rfl) (AC.then_ ?_)))))
   refine AF.cond rfl (λhc2=>?_) (λhc2=>?_)
   ·simp only [Bool.and_eq_true,Bool.or_eq_true,Bool.and_eq_false_iff,Bool.or_eq_false_iff,Bool.not_eq_true',Bool.not_eq_false',decide_eq_true_eq,decide_eq_false_iff_not] at hc2
    have hne:¬xs=ys:=EY (d:=(⟨0,0⟩:Pt)) (i:=j) (by grind)
    refine q4 (asg' rfl (AD.nil (AC.then_ (AF.ret (AC.in_ret ?_)))))
    exact AC.then_ret (AC.round1_ret (AC.in_ret (AC.then_ret (AN rfl (AQ (v:=(Value.bool false)) rfl) (λw hw=>⟨by rw [decide_eq_false hne],hw.out⟩)))))
   ·simp only [Bool.and_eq_true,Bool.or_eq_true,Bool.and_eq_false_iff,Bool.or_eq_false_iff,Bool.not_eq_true',Bool.not_eq_false',decide_eq_true_eq,decide_eq_false_iff_not] at hc2
    have hej:xs.getD j (⟨0,0⟩:Pt)=ys.getD j (⟨0,0⟩:Pt):=by grind
    refine AF.skip (AC.in_normal (AC.then_ (AF.region (AH (AW (c:=((j+1:Nat):Int)) rfl rfl (AR (a:=j) (b:=1) (by omega))) rfl (AJ rfl ?_)))))
    exact AD.nil (AC.subF (sL [0,1,2,14,15] rfl) (AC.round1 (j+1) (⟨by omega,λk hk=>by rcases Nat.lt_or_ge k j with q|q;exact he k q;rw [show k=j by omega];exact hej⟩) (by omega) (sF rfl) sr))
  ·replace hc1:=of_decide_eq_false hc1
   have heq:xs=ys:=E7 (d:=(⟨0,0⟩:Pt)) hll λk hk=>he k (by omega)
   refine AF.exit (AC.then_exit (AC.round1_exit (AC.in_exit (q2 (asg' rfl ?_)))))
   exact AD.nil (AC.then_ (AF.ret (AN rfl (AQ (v:=(Value.bool true)) rfl) (λw hw=>⟨by rw [decide_eq_true heq],hw.out⟩))))
theorem Uu (p q:Z3) (w:World)  :Calls Tryz.prog 49 #[(aG (Al p)),(aG (Al q))] w (An w (Value.bool (decide (p=q)))):=by
 refine Ag (args:=[(aG (Al p)),(aG (Al q))]) Tryz.func49 rfl rfl (AY rfl) (AF.subF (sL [0,1] rfl) (q4 (B9 (cs:=Al p) rfl λb1=>B9 (cs:=Al q) rfl λb2=>asg' rfl ?_)))
 refine q3 (sL [2,3,4] rfl) (BF 1 GL rfl (BF 0 GL rfl (AH (Cq (c:=decide (p=q)) rfl rfl Tryz.eqGuardType53 (TZ 9998 p q)) rfl (asg' rfl (AD.nil ?_)))))
 exact AC.subF (sL [4] rfl) (AC.then_ (AF.ret (AN rfl (AQ (v:=(Value.bool (decide (p=q)))) rfl) (λw hw=>⟨rfl,hw.out⟩))))
theorem QC (xs ys:List Z3) (x:RX (rowsL Al xs) xs.length) (y:RX (rowsL Al ys) ys.length) (hl:xs.length<=1000000) (w:World) {S:Nat->Prop} (hx:Ro S w x) (hy:Ro S w y):Calls Tryz.prog 48 #[(Value.slice x.p xs.length x.c),(Value.slice y.p ys.length y.c),(Value.func (.func 49) #[] #[])] w (An w (Value.bool (decide (xs=ys)))):=by
 have lx:=DF (W:=w) hx
 have ly:=DF (W:=w) hy
 refine Ah (args:=[(Value.slice x.p xs.length x.c),(Value.slice y.p ys.length y.c),(Value.func (.func 49) #[] #[])]) (L:=[AI x.p (rowsL Al xs),AI y.p (rowsL Al ys)]) Tryz.func48 rfl rfl (AY rfl) (EV hx (EV hy Ar)) (AF.subF (sL [0,1,2] rfl) (q4 (asg' rfl (AD.nil (q1 ?_)))))
 refine q4 (AJ rfl (AH (v:=(vN xs.length)) (AE rfl Tryz.underlying23) rfl (AJ rfl (AH (v:=(vN ys.length)) (AE rfl Tryz.underlying23) rfl (AH (B7 (c:=(decide (xs.length≠ys.length))) rfl rfl (VQ (a:=xs.length) (b:=ys.length))) rfl ?_)))))
 refine AD.nil (AC.subF (sL [0,1,2,6,12] rfl) (AC.then_ ?_))
 refine AF.cond rfl (λhc0=>?_) (λhc0=>?_)
 ·replace hc0:=of_decide_eq_true hc0
  have hne:¬xs=ys:=λh=>by grind
  exact q4 (asg' rfl (AD.nil (AC.then_ (AF.ret (AC.then_ret (AN rfl (AQ (v:=(Value.bool false)) rfl) (λw hw=>⟨by rw [decide_eq_false hne],hw.out⟩)))))))
 ·replace hc0:=of_decide_eq_false hc0
  have hll:xs.length=ys.length:=by grind
  refine AF.skip (q1 (q4 (AJ rfl (AH (v:=(vN xs.length)) (AE rfl Tryz.underlying23) rfl (AJ rfl ?_)))))
  refine AD.nil (AC.subF (sL [0,1,2,6,14,15] rfl) (AC.then_ (AF.block ?_)))
  refine AF.lp1 (tg λ(j:Nat)=>j<=xs.length/\∀k,k<j->xs.getD k ((0,0,0):Z3)=ys.getD k ((0,0,0):Z3)) (tg λ(j:Nat)=>[(0,(Value.slice x.p xs.length x.c)),(1,(Value.slice y.p ys.length y.c)),(2,(Value.func (.func 49) #[] #[])),(14,(vN xs.length)),(15,(vN j))]) (tg λ(j:Nat)=>[AI x.p (rowsL Al xs),AI y.p (rowsL Al ys)]) (tg λ(j:Nat)=>xs.length-j) 0 (⟨Nat.zero_le _,λk h=>absurd h (Nat.not_lt_zero _)⟩) (sF rfl) sr (λj hJ=>?_)
  obtain ⟨hj,he⟩:=hJ
  refine q4 (AH (Ad (c:=(decide (j<xs.length))) rfl rfl (CB (a:=j) (b:=xs.length))) rfl (AD.nil (q1 ?_)))
  refine AF.cond rfl (λhc1=>?_) (λhc1=>?_)
  ·replace hc1:=of_decide_eq_true hc1
   refine AF.skip (q1 (AF.block (q4 (AJ rfl (asg' rfl ?_)))))
   refine q6 (sL [0,1,2,14,15,7] rfl) (Cw [(0,true),(1,true),(2,true),(3,true),(4,true),(5,true),(6,true),(7,true),(8,true),(9,false),(10,true)] sr (BS rfl (BS rfl (BS rfl (Aw (v:=(pP (pB x.p) (pO x.p+j*3))) rfl (AL (j:=j) rfl rfl x.ok Tryz.underlying23 Tryz.sizeOf53 rfl (by omega)) ?_)))))
   refine Aw (v:=(aG (Al (xs.getD j ((0,0,0):Z3))))) rfl (Ae (vs:=Al (xs.getD j ((0,0,0):Z3))) (i:=0) rfl rfl (A6.ne x.ok (by omega)) GL (Ax Ak _ _ _ (by omega)) (Ak _)) (BS rfl (BS rfl (Aw (v:=(pP (pB y.p) (pO y.p+j*3))) rfl (AL (j:=j) rfl rfl y.ok Tryz.underlying23 Tryz.sizeOf53 rfl (by omega)) (Aw (v:=(aG (Al (ys.getD j ((0,0,0):Z3))))) rfl (Ae (vs:=Al (ys.getD j ((0,0,0):Z3))) (i:=1) rfl rfl (A6.ne y.ok (by omega)) GL (Ax Ak _ _ _ (by omega)) (Ak _)) (OkE.imp rfl ?_)))))
   refine ck' Tryz.call49 (Uu (xs.getD j ((0,0,0):Z3)) (ys.getD j ((0,0,0):Z3))) rfl (OkE.back sr (Aw rfl (Bw (c:=(!(decide (xs.getD j ((0,0,0):Z3)=ys.getD j ((0,0,0):Z3))))) rfl rfl) (OkE.nil (AC.subF (sL [0,1,2,14,15,28] rfl) (AC.then_ ?_)))))
   refine AF.cond rfl (λhc2=>?_) (λhc2=>?_)
   ·simp only [Bool.and_eq_true,Bool.or_eq_true,Bool.and_eq_false_iff,Bool.or_eq_false_iff,Bool.not_eq_true',Bool.not_eq_false',decide_eq_true_eq,decide_eq_false_iff_not] at hc2
    have hne:¬xs=ys:=EY (d:=((0,0,0):Z3)) (i:=j) (by grind)
    refine q4 (asg' rfl (AD.nil (AC.then_ (AF.ret (AC.in_ret ?_)))))
    exact AC.then_ret (AC.round1_ret (AC.in_ret (AC.then_ret (AN rfl (AQ (v:=(Value.bool false)) rfl) (λw hw=>⟨by rw [decide_eq_false hne],hw.out⟩)))))
   ·simp only [Bool.and_eq_true,Bool.or_eq_true,Bool.and_eq_false_iff,Bool.or_eq_false_iff,Bool.not_eq_true',Bool.not_eq_false',decide_eq_true_eq,decide_eq_false_iff_not] at hc2
    have hej:xs.getD j ((0,0,0):Z3)=ys.getD j ((0,0,0):Z3):=by grind
    refine AF.skip (AC.in_normal (AC.then_ (AF.region (AH (AW (c:=((j+1:Nat):Int)) rfl rfl (AR (a:=j) (b:=1) (by omega))) rfl (AJ rfl ?_)))))
    exact AD.nil (AC.subF (sL [0,1,2,14,15] rfl) (AC.round1 (j+1) (⟨by omega,λk hk=>by rcases Nat.lt_or_ge k j with q|q;exact he k q;rw [show k=j by omega];exact hej⟩) (by omega) (sF rfl) sr))
  ·replace hc1:=of_decide_eq_false hc1
   have heq:xs=ys:=E7 (d:=((0,0,0):Z3)) hll λk hk=>he k (by omega)
   refine AF.exit (AC.then_exit (AC.round1_exit (AC.in_exit (q2 (asg' rfl ?_)))))
   exact AD.nil (AC.then_ (AF.ret (AN rfl (AQ (v:=(Value.bool true)) rfl) (λw hw=>⟨by rw [decide_eq_true heq],hw.out⟩))))
theorem Ur (p q:Z3) (w:World)  :Calls Tryz.prog 51 #[(aG (Al p)),(aG (Al q))] w (An w (Value.bool (decide (p=q)))):=by
 refine Ag (args:=[(aG (Al p)),(aG (Al q))]) Tryz.func51 rfl rfl (AY rfl) (AF.subF (sL [0,1] rfl) (q4 (B9 (cs:=Al p) rfl λb1=>B9 (cs:=Al q) rfl λb2=>asg' rfl ?_)))
 refine q3 (sL [2,3,4] rfl) (BF 1 GP rfl (BF 0 GP rfl (AH (Cq (c:=decide (p=q)) rfl rfl Tryz.eqGuardType55 (TD 9998 p q)) rfl (asg' rfl (AD.nil ?_)))))
 exact AC.subF (sL [4] rfl) (AC.then_ (AF.ret (AN rfl (AQ (v:=(Value.bool (decide (p=q)))) rfl) (λw hw=>⟨rfl,hw.out⟩))))
theorem P6 (xs ys:List Z3) (x:RX (rowsL Al xs) xs.length) (y:RX (rowsL Al ys) ys.length) (hl:xs.length<=1000000) (w:World) {S:Nat->Prop} (hx:Ro S w x) (hy:Ro S w y):Calls Tryz.prog 50 #[(Value.slice x.p xs.length x.c),(Value.slice y.p ys.length y.c),(Value.func (.func 51) #[] #[])] w (An w (Value.bool (decide (xs=ys)))):=by
 have lx:=DF (W:=w) hx
 have ly:=DF (W:=w) hy
 refine Ah (args:=[(Value.slice x.p xs.length x.c),(Value.slice y.p ys.length y.c),(Value.func (.func 51) #[] #[])]) (L:=[AI x.p (rowsL Al xs),AI y.p (rowsL Al ys)]) Tryz.func50 rfl rfl (AY rfl) (EV hx (EV hy Ar)) (AF.subF (sL [0,1,2] rfl) (q4 (asg' rfl (AD.nil (q1 ?_)))))
 refine q4 (AJ rfl (AH (v:=(vN xs.length)) (AE rfl Tryz.underlying24) rfl (AJ rfl (AH (v:=(vN ys.length)) (AE rfl Tryz.underlying24) rfl (AH (B7 (c:=(decide (xs.length≠ys.length))) rfl rfl (VQ (a:=xs.length) (b:=ys.length))) rfl ?_)))))
 refine AD.nil (AC.subF (sL [0,1,2,6,12] rfl) (AC.then_ ?_))
 refine AF.cond rfl (λhc0=>?_) (λhc0=>?_)
 ·replace hc0:=of_decide_eq_true hc0
  have hne:¬xs=ys:=λh=>by grind
  exact q4 (asg' rfl (AD.nil (AC.then_ (AF.ret (AC.then_ret (AN rfl (AQ (v:=(Value.bool false)) rfl) (λw hw=>⟨by rw [decide_eq_false hne],hw.out⟩)))))))
 ·replace hc0:=of_decide_eq_false hc0
  have hll:xs.length=ys.length:=by grind
  refine AF.skip (q1 (q4 (AJ rfl (AH (v:=(vN xs.length)) (AE rfl Tryz.underlying24) rfl (AJ rfl ?_)))))
  refine AD.nil (AC.subF (sL [0,1,2,6,14,15] rfl) (AC.then_ (AF.block ?_)))
  refine AF.lp1 (tg λ(j:Nat)=>j<=xs.length/\∀k,k<j->xs.getD k ((0,0,0):Z3)=ys.getD k ((0,0,0):Z3)) (tg λ(j:Nat)=>[(0,(Value.slice x.p xs.length x.c)),(1,(Value.slice y.p ys.length y.c)),(2,(Value.func (.func 51) #[] #[])),(14,(vN xs.length)),(15,(vN j))]) (tg λ(j:Nat)=>[AI x.p (rowsL Al xs),AI y.p (rowsL Al ys)]) (tg λ(j:Nat)=>xs.length-j) 0 (⟨Nat.zero_le _,λk h=>absurd h (Nat.not_lt_zero _)⟩) (sF rfl) sr (λj hJ=>?_)
  obtain ⟨hj,he⟩:=hJ
  refine q4 (AH (Ad (c:=(decide (j<xs.length))) rfl rfl (CB (a:=j) (b:=xs.length))) rfl (AD.nil (q1 ?_)))
  refine AF.cond rfl (λhc1=>?_) (λhc1=>?_)
  ·replace hc1:=of_decide_eq_true hc1
   refine AF.skip (q1 (AF.block (q4 (AJ rfl (asg' rfl ?_)))))
   refine q6 (sL [0,1,2,14,15,7] rfl) (Cw [(0,true),(1,true),(2,true),(3,true),(4,true),(5,true),(6,true),(7,true),(8,true),(9,false),(10,true)] sr (BS rfl (BS rfl (BS rfl (Aw (v:=(pP (pB x.p) (pO x.p+j*3))) rfl (AL (j:=j) rfl rfl x.ok Tryz.underlying24 Tryz.sizeOf55 rfl (by omega)) ?_)))))
   refine Aw (v:=(aG (Al (xs.getD j ((0,0,0):Z3))))) rfl (Ae (vs:=Al (xs.getD j ((0,0,0):Z3))) (i:=0) rfl rfl (A6.ne x.ok (by omega)) GP (Ax Ak _ _ _ (by omega)) (Ak _)) (BS rfl (BS rfl (Aw (v:=(pP (pB y.p) (pO y.p+j*3))) rfl (AL (j:=j) rfl rfl y.ok Tryz.underlying24 Tryz.sizeOf55 rfl (by omega)) (Aw (v:=(aG (Al (ys.getD j ((0,0,0):Z3))))) rfl (Ae (vs:=Al (ys.getD j ((0,0,0):Z3))) (i:=1) rfl rfl (A6.ne y.ok (by omega)) GP (Ax Ak _ _ _ (by omega)) (Ak _)) (OkE.imp rfl ?_)))))
   refine ck' Tryz.call51 (Ur (xs.getD j ((0,0,0):Z3)) (ys.getD j ((0,0,0):Z3))) rfl (OkE.back sr (Aw rfl (Bw (c:=(!(decide (xs.getD j ((0,0,0):Z3)=ys.getD j ((0,0,0):Z3))))) rfl rfl) (OkE.nil (AC.subF (sL [0,1,2,14,15,28] rfl) (AC.then_ ?_)))))
   refine AF.cond rfl (λhc2=>?_) (λhc2=>?_)
   ·simp only [Bool.and_eq_true,Bool.or_eq_true,Bool.and_eq_false_iff,Bool.or_eq_false_iff,Bool.not_eq_true',Bool.not_eq_false',decide_eq_true_eq,decide_eq_false_iff_not] at hc2
    have hne:¬xs=ys:=EY (d:=((0,0,0):Z3)) (i:=j) (by grind)
    refine q4 (asg' rfl (AD.nil (AC.then_ (AF.ret (AC.in_ret ?_)))))
    exact AC.then_ret (AC.round1_ret (AC.in_ret (AC.then_ret (AN rfl (AQ (v:=(Value.bool false)) rfl) (λw hw=>⟨by rw [decide_eq_false hne],hw.out⟩)))))
   ·simp only [Bool.and_eq_true,Bool.or_eq_true,Bool.and_eq_false_iff,Bool.or_eq_false_iff,Bool.not_eq_true',Bool.not_eq_false',decide_eq_true_eq,decide_eq_false_iff_not] at hc2
    have hej:xs.getD j ((0,0,0):Z3)=ys.getD j ((0,0,0):Z3):=by grind
    refine AF.skip (AC.in_normal (AC.then_ (AF.region (AH (AW (c:=((j+1:Nat):Int)) rfl rfl (AR (a:=j) (b:=1) (by omega))) rfl (AJ rfl ?_)))))
    exact AD.nil (AC.subF (sL [0,1,2,14,15] rfl) (AC.round1 (j+1) (⟨by omega,λk hk=>by rcases Nat.lt_or_ge k j with q|q;exact he k q;rw [show k=j by omega];exact hej⟩) (by omega) (sF rfl) sr))
  ·replace hc1:=of_decide_eq_false hc1
   have heq:xs=ys:=E7 (d:=((0,0,0):Z3)) hll λk hk=>he k (by omega)
   refine AF.exit (AC.then_exit (AC.round1_exit (AC.in_exit (q2 (asg' rfl ?_)))))
   exact AD.nil (AC.then_ (AF.ret (AN rfl (AQ (v:=(Value.bool true)) rfl) (λw hw=>⟨by rw [decide_eq_true heq],hw.out⟩))))
theorem I7 {ps qs:List Pt} {ts ss us vs:List Z3} (x:MZ ps ts ss) (y:MZ qs us vs) (hp:ps.length<=1000000) (ht:ts.length<=1000000) (hs:ss.length<=1000000) (w:World) {S:Nat->Prop} (hx:Ro S w x) (hy:Ro S w y):Calls Tryz.prog 11 #[(aG (C9 x)),(aG (C9 y))] w (An w (Value.bool (decide (ps=qs/\ts=us/\ss=vs)))):=by
 have lx:=DF (W:=w) hx
 have ly:=DF (W:=w) hy
 refine Ah (args:=[(aG (C9 x)),(aG (C9 y))]) (L:=[AI x.a.p (rowsL BE ps),AI x.b.p (rowsL Al ts),AI x.c.p (rowsL Al ss),AI y.a.p (rowsL BE qs),AI y.b.p (rowsL Al us),AI y.c.p (rowsL Al vs)]) Tryz.func11 rfl rfl (AY rfl) (EV hx (EV hy Ar)) (AF.subF (sL [0,1] rfl) (q4 (B9 (cs:=C9 x) rfl λb1=>B9 (cs:=C9 y) rfl λb2=>asg' rfl ?_)))
 refine q3 (sL [2,3,4] rfl) (AH (v:=(pP b1 0)) (AA rfl Tryz.underlying30 rfl Tryz.sizeOf28 rfl) rfl (BD 1 (Value.slice x.a.p ps.length x.a.c) LT rfl (AH (v:=(pP b2 0)) (AA rfl Tryz.underlying30 rfl Tryz.sizeOf28 rfl) rfl (BD 0 (Value.slice y.a.p qs.length y.a.c) LT rfl (DC Tryz.call46 (λw hw=>Q4 ps qs x.a y.a (by omega) w (Wy (inS hw 2 rfl lx)) (Wy (inS hw 5 rfl ly))) rfl ?_)))))
 refine AJ rfl ?_
 refine AD.mid (FM:=[(2,(pP b1 0)),(3,(pP b2 0)),(4,(Value.bool false)),(5,(pP b1 0)),(6,(Value.slice x.a.p ps.length x.a.c)),(7,(pP b2 0)),(8,(Value.slice y.a.p qs.length y.a.c)),(9,(Value.bool (decide (ps=qs)))),(10,(Value.bool (decide (ps=qs)))),(16,(Value.bool ((decide (ps=qs))&&(decide (ts=us)))))]) (LM:=[Ab b2 30 (C9 y),Ab b1 30 (C9 x),AI x.a.p (rowsL BE ps),AI x.b.p (rowsL Al ts),AI x.c.p (rowsL Al ss),AI y.a.p (rowsL BE qs),AI y.b.p (rowsL Al us),AI y.c.p (rowsL Al vs)]) 6 ?_ ?_
 ·rcases Bool.eq_false_or_eq_true (decide (ps=qs)) with hg1|hg1
  ·skip
   refine AD.retell (k:=10) (u:=Value.bool true) rfl (by rw [hg1]) ?_
   have hg1':=hg1
   replace hg1':=of_decide_eq_true hg1'
   refine AD.step (v:=(pP b1 1)) (AB rfl) (AA rfl Tryz.underlying30 rfl Tryz.sizeOf23 rfl) rfl (AY rfl) (AD.step (v:=(Value.slice x.b.p ts.length x.b.c)) (AB rfl) (AP (i:=1) (v:=(Value.slice x.b.p ts.length x.b.c)) rfl rfl EU.a rfl) rfl (AY rfl) (AD.step (v:=(pP b2 1)) (AB rfl) (AA rfl Tryz.underlying30 rfl Tryz.sizeOf23 rfl) rfl (AY rfl) (AD.step (v:=(Value.slice y.b.p us.length y.b.c)) (AB rfl) (AP (i:=0) (v:=(Value.slice y.b.p us.length y.b.c)) rfl rfl EU.a rfl) rfl (AY rfl) (AD.call (v:=(Value.bool (decide (ts=us)))) (AB rfl) (Ay (args:=[(Value.slice x.b.p ts.length x.b.c),(Value.slice y.b.p us.length y.b.c),(Value.func (.func 49) #[] #[])]) rfl rfl Tryz.call48) (λw hw=>QC ts us x.b y.b (by omega) w (Vv (inS hw 2 rfl lx)) (Vv (inS hw 5 rfl ly))) rfl (AY rfl) (AH (v:=(Value.bool (decide (ts=us)))) (AT rfl rfl) rfl ?_)))))
   exact AD.nil (AC.mid (sS rfl (sS rfl (sS rfl (sS rfl (sS rfl (sS rfl (sS rfl (sS rfl (sS (by first|rfl|(rw [hg1];rfl)|rw [hg1]) (sS (by first|rfl|(rw [hg1];rfl)|rw [hg1]) (sN))))))))))) (List.Sublist.refl _))
  ·skip
   refine AD.retell (k:=10) (u:=Value.bool false) rfl (by rw [hg1]) ?_
   have hg1':=hg1
   replace hg1':=of_decide_eq_false hg1'
   refine AD.skip (AG rfl) rfl (AY rfl) (AD.skip (AG rfl) rfl (AY rfl) (AD.skip (AG rfl) rfl (AY rfl) (AD.skip (AG rfl) rfl (AY rfl) (AD.skip (AG rfl) rfl (AY rfl) (AH (v:=(Value.bool false)) (AV rfl rfl) rfl ?_)))))
   exact AD.nil (AC.mid (sS rfl (sS rfl (sS rfl (sS rfl (sS rfl (sS rfl (sS rfl (sS rfl (sS (by first|rfl|(rw [hg1];rfl)|rw [hg1]) (sS (by first|rfl|(rw [hg1];rfl)|rw [hg1]) (sN))))))))))) (List.Sublist.refl _))
 refine AJ rfl ?_
 refine AD.mid (FM:=[(2,(pP b1 0)),(3,(pP b2 0)),(4,(Value.bool false)),(5,(pP b1 0)),(6,(Value.slice x.a.p ps.length x.a.c)),(7,(pP b2 0)),(8,(Value.slice y.a.p qs.length y.a.c)),(9,(Value.bool (decide (ps=qs)))),(10,(Value.bool (decide (ps=qs)))),(16,(Value.bool ((decide (ps=qs))&&(decide (ts=us))))),(17,(Value.bool ((decide (ps=qs))&&(decide (ts=us))))),(23,(Value.bool (((decide (ps=qs))&&(decide (ts=us)))&&(decide (ss=vs)))))]) (LM:=[Ab b2 30 (C9 y),Ab b1 30 (C9 x),AI x.a.p (rowsL BE ps),AI x.b.p (rowsL Al ts),AI x.c.p (rowsL Al ss),AI y.a.p (rowsL BE qs),AI y.b.p (rowsL Al us),AI y.c.p (rowsL Al vs)]) 6 ?_ ?_
 ·rcases Bool.eq_false_or_eq_true ((decide (ps=qs))&&(decide (ts=us))) with hg2|hg2
  ·skip
   refine AD.retell (k:=17) (u:=Value.bool true) rfl (by rw [hg2]) ?_
   have hg2':=hg2
   simp only [Bool.and_eq_true,Bool.or_eq_true,Bool.and_eq_false_iff,Bool.or_eq_false_iff,Bool.not_eq_true',Bool.not_eq_false',decide_eq_true_eq,decide_eq_false_iff_not] at hg2'
   refine AD.step (v:=(pP b1 2)) (AB rfl) (AA rfl Tryz.underlying30 rfl Tryz.sizeOf24 rfl) rfl (AY rfl) (AD.step (v:=(Value.slice x.c.p ss.length x.c.c)) (AB rfl) (AP (i:=1) (v:=(Value.slice x.c.p ss.length x.c.c)) rfl rfl Cz.a rfl) rfl (AY rfl) (AD.step (v:=(pP b2 2)) (AB rfl) (AA rfl Tryz.underlying30 rfl Tryz.sizeOf24 rfl) rfl (AY rfl) (AD.step (v:=(Value.slice y.c.p vs.length y.c.c)) (AB rfl) (AP (i:=0) (v:=(Value.slice y.c.p vs.length y.c.c)) rfl rfl Cz.a rfl) rfl (AY rfl) (AD.call (v:=(Value.bool (decide (ss=vs)))) (AB rfl) (Ay (args:=[(Value.slice x.c.p ss.length x.c.c),(Value.slice y.c.p vs.length y.c.c),(Value.func (.func 51) #[] #[])]) rfl rfl Tryz.call50) (λw hw=>P6 ss vs x.c y.c (by omega) w (Ss (inS hw 2 rfl lx)) (Ss (inS hw 5 rfl ly))) rfl (AY rfl) (AH (v:=(Value.bool (decide (ss=vs)))) (AT rfl rfl) rfl ?_)))))
   exact AD.nil (AC.mid (sS rfl (sS rfl (sS rfl (sS rfl (sS rfl (sS rfl (sS rfl (sS rfl (sS rfl (sS rfl (sS (by first|rfl|(rw [hg2];rfl)|rw [hg2]) (sS (by first|rfl|(rw [hg2];rfl)|rw [hg2]) (sN))))))))))))) (List.Sublist.refl _))
  ·skip
   refine AD.retell (k:=17) (u:=Value.bool false) rfl (by rw [hg2]) ?_
   have hg2':=hg2
   simp only [Bool.and_eq_true,Bool.or_eq_true,Bool.and_eq_false_iff,Bool.or_eq_false_iff,Bool.not_eq_true',Bool.not_eq_false',decide_eq_true_eq,decide_eq_false_iff_not] at hg2'
   refine AD.skip (AG rfl) rfl (AY rfl) (AD.skip (AG rfl) rfl (AY rfl) (AD.skip (AG rfl) rfl (AY rfl) (AD.skip (AG rfl) rfl (AY rfl) (AD.skip (AG rfl) rfl (AY rfl) (AH (v:=(Value.bool false)) (AV rfl rfl) rfl ?_)))))
   exact AD.nil (AC.mid (sS rfl (sS rfl (sS rfl (sS rfl (sS rfl (sS rfl (sS rfl (sS rfl (sS rfl (sS rfl (sS (by first|rfl|(rw [hg2];rfl)|rw [hg2]) (sS (by first|rfl|(rw [hg2];rfl)|rw [hg2]) (sN))))))))))))) (List.Sublist.refl _))
 exact asg' rfl (AD.nil (AC.subF (sL [4] rfl) (AC.then_ (AF.ret (AN rfl (AQ (v:=(Value.bool (((decide (ps=qs))&&(decide (ts=us)))&&(decide (ss=vs))))) rfl) (λw hw=>⟨by congr 2;grind,hw.out⟩))))))
end
section
def B8 (ss:List Z3) (f:Int) (i:Nat):List Z3:=(ss.take i).filter λs=>decide (s.2.2=f)
abbrev A9 (ss:List Z3) (f:Int):List Z3:=B8 ss f ss.length
def Pq (f t:Int) (s:Z3):Z3:=if s.2.2=f then (s.1,s.2.1,t) else s
def IG (ss:List Z3) (f t:Int) (i:Nat):List Z3:=(ss.take i).map (Pq f t)++ss.drop i
def CD (ss:List Z3) (f t:Int):List Z3:=ss.map (Pq f t)
section
variable {ss:List Z3} {f t:Int} {i:Nat}
theorem Gj (h:i<ss.length):ss.take (i+1)=ss.take i++[ss.getD i (0,0,0)]:=by
  rw [List.take_add_one,List.getD,List.getElem?_eq_getElem h];rfl
theorem Ia (h:i<ss.length) (hf:(ss.getD i (0,0,0)).2.2=f):B8 ss f (i+1)=B8 ss f i++[ss.getD i (0,0,0)]:=by
  unfold B8
  rw [Gj h,List.filter_append,List.filter_cons,if_pos (decide_eq_true hf)];rfl
theorem NW (h:i<ss.length) (hf:¬(ss.getD i (0,0,0)).2.2=f):B8 ss f (i+1)=B8 ss f i:=by
  unfold B8
  rw [Gj h,List.filter_append,List.filter_cons,if_neg (by simpa using hf)];simp
theorem Ju (i:Nat):(B8 ss f i).length<=ss.length:=Nat.le_trans (List.length_filter_le _ _) (by rw [List.length_take];omega)
theorem O5 (i:Nat):(B8 ss f i).length<=i:=Nat.le_trans (List.length_filter_le _ _) (List.length_take_le _ _)
theorem VB:∀k,(B8 ss f i) <+: (B8 ss f (i+k)):=λk=>by
  unfold B8
  rw [List.take_add,List.filter_append]
  exact List.prefix_append _ _
theorem K5 (h:i<ss.length) (hf:(ss.getD i (0,0,0)).2.2=f):(B8 ss f i).length<(A9 ss f).length/\(A9 ss f).getD (B8 ss f i).length (0,0,0)=ss.getD i (0,0,0):=by
  obtain ⟨z,hz⟩:=VB (ss:=ss) (f:=f) (i:=i+1) (ss.length-(i+1))
  rw [show i+1+(ss.length-(i+1))=ss.length by omega,Ia h hf] at hz
  unfold A9
  rw [<-hz]
  constructor
  · simp only [List.length_append,List.length_singleton];omega
  · simp
theorem Hx:(CD ss f t).length=ss.length:=by unfold CD;rw [List.length_map]
theorem Lb (i:Nat):(IG ss f t i).length=ss.length:=by
  unfold IG
  rw [List.length_append,List.length_map,List.length_take,List.length_drop];omega
theorem VK (h:i=ss.length):IG ss f t i=CD ss f t:=by subst h;unfold IG CD;simp
theorem Lg (h:i<ss.length):(IG ss f t i).getD i (0,0,0)=ss.getD i (0,0,0):=by
  unfold IG
  rw [List.getD,List.getElem?_append_right (by simp;omega)]
  simp [List.getElem?_drop,Nat.min_eq_left (Nat.le_of_lt h)]
theorem Ly (h:i<ss.length):IG ss f t (i+1)=(IG ss f t i).set i (Pq f t (ss.getD i (0,0,0))):=by
  have hd:ss.drop i=ss.getD i (0,0,0)::ss.drop (i+1):=by
    rw [List.drop_eq_getElem_cons h,List.getD,List.getElem?_eq_getElem h];rfl
  unfold IG
  rw [Gj h,hd,List.map_append,List.append_assoc,List.set_append_right _ _ (by simp;omega)]
  have e:i-(List.map (Pq f t) (ss.take i)).length=0:=by simp;omega
  rw [e]
  rfl
theorem VY (h:i<ss.length) (hf:(ss.getD i (0,0,0)).2.2=f):IG ss f t (i+1)=(IG ss f t i).set i ((ss.getD i (0,0,0)).1,(ss.getD i (0,0,0)).2.1,t):=by
  rw [Ly h,Pq,if_pos hf]
theorem W5 (h:i<ss.length) (hf:¬(ss.getD i (0,0,0)).2.2=f):IG ss f t (i+1)=IG ss f t i:=by
  rw [Ly h,Pq,if_neg hf]
  have h1:=Lg (f:=f) (t:=t) h
  have hl:i<(IG ss f t i).length:=by rw [Lb];exact h
  rw [<-h1,List.getD,List.getElem?_eq_getElem hl]
  exact List.set_getElem_self hl
theorem Vs (h:i<ss.length):(CD ss f t).getD i (0,0,0)=Pq f t (ss.getD i (0,0,0)):=by
  unfold CD
  simp [h]
theorem IW:A9 ss f=ss.filter λs=>decide (s.2.2=f):=by unfold A9 B8;rw [List.take_length]
theorem UE:(A9 (CD ss f f) f).length=(A9 ss f).length:=by
  have:CD ss f f=ss:=by
    unfold CD
    refine (List.map_congr_left λs _=>?_).trans (List.map_id _)
    unfold Pq
    split
    · rename_i h;rw [<-h];rfl
    · rfl
  rw [this]
theorem Ra (h:¬f=t):(A9 (CD ss f t) t).length=(A9 ss f).length+(A9 ss t).length:=by
  rw [IW,IW,IW]
  unfold CD
  induction ss with
  | nil=>rfl
  | cons s r ih =>
    rw [List.map_cons,List.filter_cons,List.filter_cons,List.filter_cons]
    by_cases h1:s.2.2=f
    · have h2:¬s.2.2=t:=λe=>h (h1▸e)
      rw [show Pq f t s=(s.1,s.2.1,t) from if_pos h1,if_pos (by simp),if_pos (by simpa using h1),if_neg (by simpa using h2),List.length_cons,List.length_cons,ih]
      omega
    · rw [show Pq f t s=s from if_neg h1]
      by_cases h2:s.2.2=t
      · rw [if_pos (by simpa using h2),if_neg (by simpa using h1),if_pos (by simpa using h2),List.length_cons,List.length_cons,ih]
        omega
      · rw [if_neg (by simpa using h2),if_neg (by simpa using h1),if_neg (by simpa using h2),ih]
theorem Ui (h:¬f=t):(A9 (CD ss f t) f).length=0:=by
  rw [IW,List.length_eq_zero_iff,List.filter_eq_nil_iff]
  intro s hs
  obtain ⟨u,_,rfl⟩:=List.mem_map.1 hs
  unfold Pq
  split
  · simpa using λe=>h e.symm
  · rename_i k;simpa using k
end
def Ym:MZ [] [] []:=⟨⟨none,0,OwnOk.none.row⟩,⟨none,0,OwnOk.none.row⟩,⟨none,0,OwnOk.none.row⟩⟩
theorem SG {S:Nat->Prop} {w:World}:Ro S w Ym:=λy hy=>by
  have hy:y∈[AI none (rowsL BE []),AI none (rowsL Al []),AI none (rowsL Al [])]:=hy
  simp only [List.mem_cons,List.not_mem_nil,or_false] at hy
  rcases hy with rfl|rfl|rfl<;>exact ⟨(λb e=>by cases e),(λb e=>by cases e)⟩
end
end Go.Proofs.YtpgncndhhhllfaaGreatDoor
