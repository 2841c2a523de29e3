import Derived.Test.YtpgncndhhhllfaaGreatDoorPart06
import Derived.Test.YtpgncndhhhllfaaGreatDoorPart28
import Derived.Test.YtpgncndhhhllfaaGreatDoorPart34
namespace Go.Proofs.YtpgncndhhhllfaaGreatDoor
open Go Go.RowKit Go.Proofs.Tryz
set_option linter.unusedVariables false
set_option linter.unusedSimpArgs false
section
set_option maxRecDepth 100000
theorem M2 (ts:List Z3) (x:RX (rowsL Ag ts) ts.length) (hl:ts.length<=1000000000) (w:World) {S:Nat->Prop} (hx:Ro S w x):Calls Tryz.prog 43 #[(Value.slice x.p ts.length x.c)] w (Gj Vh (UZ (T:=53) (z:=3) (cs:=rowsL Ag ts) (n:=ts.length)) S w):=by
 have lx:=Cx (W:=w) hx
 refine Aj (args:=[(Value.slice x.p ts.length x.c)]) (L:=[AG x.p (rowsL Ag ts)]) Tryz.func43 rfl rfl (AV rfl) (Ds hx Ax) (AE.subF (sL [0] rfl) (q4 (asg' rfl (AD.nilRow 53 3 (AD.nil ?_)))))
 refine q1 (q4 (AQ rfl (AK (v:=(Value.bool x.p.isNone)) (Gn rfl rfl Tryz.underlying23) rfl (AD.nil (AC.subF (sL [0,2,4] rfl) ?_)))))
 refine AC.then_ ?_
 refine AE.cond rfl (λhc0=>?_) (λhc0=>?_)
 ·skip
  have hts:ts=[]:=List.eq_nil_of_length_eq_zero (x.ok.nil (Option.isNone_iff_eq_none.1 hc0)).1
  refine q4 (asg' rfl (AD.nilRow 53 3 (AD.nil (AC.then_ (AE.ret ?_)))))
  exact AC.then_ret (AJ rfl (AS (v:=(Value.slice none 0 0)) rfl) (λw hw=>(by subst hts;exact Lu hw (OX.mk none 0 OwnOk.none) (by exact (sk (sl (sl sr)))) (Gr.own rfl Gr.nil) (by show Value.slice none 0 0=_;rfl))))
 ·skip
  refine AE.skip (q2 (AD.openV (V:=λb1=>(Value.slice (some ⟨b1,0,none⟩) 0 0)) (T:=53) (cs:=[]) (AW rfl) (GK Tryz.underlying23 Tryz.sizeOf53) rfl (AV rfl) λb1=>AD.asRow0 (z:=3) 0 rfl (by omega) λho_b1=>AQ rfl (AD.appendE0 WC rfl ho_b1 rfl (NT (k:=2) rfl x.ok) (Ab Ar _) (Dn HE _) (KM (by omega)) (by omega) rfl λp_1 c_1 ho_1=>?_)))
  exact asg' rfl (AD.nil (AC.subF (sL [0,2] rfl) (AC.then_ (AE.ret (AJ rfl (AS (v:=(Value.slice p_1 ts.length c_1)) rfl) (λw hw=>(Lu hw (OX.mk p_1 c_1 ho_1) (sk (sl (sl sr))) (Gr.own rfl Gr.nil) rfl)))))))
theorem NR (ts:List Z3) (x:RX (rowsL Ag ts) ts.length) (hl:ts.length<=1000000000) (w:World) {S:Nat->Prop} (hx:Ro S w x):Calls Tryz.prog 45 #[(Value.slice x.p ts.length x.c)] w (Gj Vh (UZ (T:=55) (z:=3) (cs:=rowsL Ag ts) (n:=ts.length)) S w):=by
 have lx:=Cx (W:=w) hx
 refine Aj (args:=[(Value.slice x.p ts.length x.c)]) (L:=[AG x.p (rowsL Ag ts)]) Tryz.func45 rfl rfl (AV rfl) (Ds hx Ax) (AE.subF (sL [0] rfl) (q4 (asg' rfl (AD.nilRow 55 3 (AD.nil ?_)))))
 refine q1 (q4 (AQ rfl (AK (v:=(Value.bool x.p.isNone)) (Gn rfl rfl Tryz.underlying24) rfl (AD.nil (AC.subF (sL [0,2,4] rfl) ?_)))))
 refine AC.then_ ?_
 refine AE.cond rfl (λhc0=>?_) (λhc0=>?_)
 ·skip
  have hts:ts=[]:=List.eq_nil_of_length_eq_zero (x.ok.nil (Option.isNone_iff_eq_none.1 hc0)).1
  refine q4 (asg' rfl (AD.nilRow 55 3 (AD.nil (AC.then_ (AE.ret ?_)))))
  exact AC.then_ret (AJ rfl (AS (v:=(Value.slice none 0 0)) rfl) (λw hw=>(by subst hts;exact Lu hw (OX.mk none 0 OwnOk.none) (by exact (sk (sl (sl sr)))) (Gr.own rfl Gr.nil) (by show Value.slice none 0 0=_;rfl))))
 ·skip
  refine AE.skip (q2 (AD.openV (V:=λb1=>(Value.slice (some ⟨b1,0,none⟩) 0 0)) (T:=55) (cs:=[]) (AW rfl) (GK Tryz.underlying24 Tryz.sizeOf55) rfl (AV rfl) λb1=>AD.asRow0 (z:=3) 0 rfl (by omega) λho_b1=>AQ rfl (AD.appendE0 V3 rfl ho_b1 rfl (NT (k:=2) rfl x.ok) (Ab Ar _) (Dn HE _) (KM (by omega)) (by omega) rfl λp_1 c_1 ho_1=>?_)))
  exact asg' rfl (AD.nil (AC.subF (sL [0,2] rfl) (AC.then_ (AE.ret (AJ rfl (AS (v:=(Value.slice p_1 ts.length c_1)) rfl) (λw hw=>(Lu hw (OX.mk p_1 c_1 ho_1) (sk (sl (sl sr))) (Gr.own rfl Gr.nil) rfl)))))))
theorem Rq {ps:List Pt} {ts ss:List Z3} (x:MZ ps ts ss) (hp:ps.length<=1000000000) (ht:ts.length<=1000000000) (hs:ss.length<=1000000000) (w:World) {S:Nat->Prop} (hx:Ro S w x):Calls Tryz.prog 10 #[(aG (B8 x))] w (Gj (λa:WX ps ts ss=>aG (YF a)) YP S w):=by
 have lx:=Cx (W:=w) hx
 refine Aj (args:=[(aG (B8 x))]) (L:=[AG x.a.p (rowsL Af ps),AG x.b.p (rowsL Ag ts),AG x.c.p (rowsL Ag ss)]) Tryz.func10 rfl rfl (AV rfl) (Ds hx Ax) (AE.subF (sL [0] rfl) (q4 (BU (cs:=B8 x) rfl λb1=>al M8 rfl λb2=>q6 (sL [1,2] rfl) ?_)))
 refine CS [(0,true),(1,true),(4,true),(5,true),(8,true),(9,true),(2,false),(3,false),(6,false),(7,false),(10,false),(11,false),(12,true),(13,false)] (sl sr) (Ap (v:=(pP b1 0)) rfl (AA rfl Tryz.underlying30 rfl Tryz.sizeOf28 rfl) (Ba 0 (Value.slice x.a.p ps.length x.a.c) CW rfl (Ap (v:=(pP b1 1)) rfl (AA rfl Tryz.underlying30 rfl Tryz.sizeOf23 rfl) (Ba 0 (Value.slice x.b.p ts.length x.b.c) DG rfl (Ap (v:=(pP b1 2)) rfl (AA rfl Tryz.underlying30 rfl Tryz.sizeOf24 rfl) ?_)))))
 refine Ba 0 (Value.slice x.c.p ss.length x.c.c) D5 rfl (OkE.imp rfl (AD.callL (S:=S) (V:=Vh) (LW:=UZ (T:=51) (z:=10) (cs:=rowsL Af ps) (n:=ps.length)) (args:=[(Value.slice x.a.p ps.length x.a.c)]) Tryz.call41 (λw hw=>J9 ps x.a (by omega) w (VN (inS hw 2 rfl lx))) rfl λcl1 hcl1=>OkE.back (sl (sl sr)) (OkE.imp rfl (ck' Tryz.call40 (Sq cl1.p ps.length cl1.c cl1.ok.row.le) rfl ?_))))
 refine OkE.back (sl (sl sr)) (OkE.imp rfl (AD.callL (S:=S) (V:=Vh) (LW:=UZ (T:=53) (z:=3) (cs:=rowsL Ag ts) (n:=ts.length)) (args:=[(Value.slice x.b.p ts.length x.b.c)]) Tryz.call43 (λw hw=>M2 ts x.b (by omega) w (WJ (inS hw 3 rfl lx))) rfl λcl2 hcl2=>OkE.back (sl (sl (sl sr))) (OkE.imp rfl (ck' Tryz.call42 (QW cl2.p ts.length cl2.c cl2.ok.row.le) rfl ?_))))
 refine OkE.back (sl (sl (sl sr))) (OkE.imp rfl (AD.callL (S:=S) (V:=Vh) (LW:=UZ (T:=55) (z:=3) (cs:=rowsL Ag ss) (n:=ss.length)) (args:=[(Value.slice x.c.p ss.length x.c.c)]) Tryz.call45 (λw hw=>NR ss x.c (by omega) w (Vm (inS hw 4 rfl lx))) rfl λcl3 hcl3=>OkE.back (sl (sl (sl (sl sr)))) (OkE.imp rfl (ck' Tryz.call44 (MI cl3.p ss.length cl3.c cl3.ok.row.le) rfl ?_))))
 refine OkE.back (sl (sl (sl (sl sr)))) (Ap (v:=(aG ([(Value.slice cl1.p ps.length ps.length),(Value.slice cl2.p ts.length ts.length),(Value.slice cl3.p ss.length ss.length)]))) rfl (AU (zs:=[(Value.slice none 0 0),(Value.slice none 0 0),(Value.slice none 0 0)]) (vs:=[(Value.slice cl1.p ps.length ps.length),(Value.slice cl2.p ts.length ts.length),(Value.slice cl3.p ss.length ss.length)]) (pv:=[(0,(Value.slice cl1.p ps.length ps.length)),(1,(Value.slice cl2.p ts.length ts.length)),(2,(Value.slice cl3.p ss.length ss.length))]) (places:=[(0,1),(1,1),(2,1)]) Tryz.zeroValue30 Tryz.underlying30 (λw=>by simp [Tryz.sizeOf23,Tryz.sizeOf24,Tryz.sizeOf28]) rfl rfl) (OkE.imp rfl (H8 rfl Tryz.sizeOf30 rfl (OkE.back (sl (sl (sl (sl sr)))) (OkE.nil ?_)))))
 exact AC.subF (sL [2] rfl) (AC.then_ (AE.ret (AJ rfl (Au (i:=3) (cs:=[(Value.slice cl1.p ps.length ps.length),(Value.slice cl2.p ts.length ts.length),(Value.slice cl3.p ss.length ss.length)]) rfl rfl Tryz.isAgg30 Tryz.sizeOf30 rfl) (λw hw=>(Lu hw (WX.mk (OX.mk cl1.p cl1.c cl1.ok) (OX.mk cl2.p cl2.c cl2.ok) (OX.mk cl3.p cl3.c cl3.ok)) (sk (sk (sk (sl (sl (sl (sl (sl sr)))))))) (Gr.own rfl (Gr.own rfl (Gr.own rfl Gr.nil))) rfl)))))
theorem Uc (p q:Pt) (w:World)  :Calls Tryz.prog 47 #[(aG (Af p)),(aG (Af q))] w (Al w (Value.bool (decide (p=q)))):=by
 refine Aa (args:=[(aG (Af p)),(aG (Af q))]) Tryz.func47 rfl rfl (AV rfl) (AE.subF (sL [0,1] rfl) (q4 (BU (cs:=Af p) rfl λb1=>BU (cs:=Af q) rfl λb2=>asg' rfl ?_)))
 refine q3 (sL [2,3,4] rfl) (BG 1 BM rfl (BG 0 BM rfl (AK (B1 (c:=decide (p=q)) rfl rfl Tryz.eqGuardType51 (Sg 9994 p q)) rfl (asg' rfl (AD.nil ?_)))))
 exact AC.subF (sL [4] rfl) (AC.then_ (AE.ret (AJ rfl (AS (v:=(Value.bool (decide (p=q)))) rfl) (λw hw=>⟨rfl,hw.out⟩))))
theorem PM (xs ys:List Pt) (x:RX (rowsL Af xs) xs.length) (y:RX (rowsL Af ys) ys.length) (hl:xs.length<=1000000) (w:World) {S:Nat->Prop} (hx:Ro S w x) (hy:Ro S w y):Calls Tryz.prog 46 #[(Value.slice x.p xs.length x.c),(Value.slice y.p ys.length y.c),(Value.func (.func 47) #[] #[])] w (Al w (Value.bool (decide (xs=ys)))):=by
 have lx:=Cx (W:=w) hx
 have ly:=Cx (W:=w) hy
 refine Aj (args:=[(Value.slice x.p xs.length x.c),(Value.slice y.p ys.length y.c),(Value.func (.func 47) #[] #[])]) (L:=[AG x.p (rowsL Af xs),AG y.p (rowsL Af ys)]) Tryz.func46 rfl rfl (AV rfl) (Ds hx (Ds hy Ax)) (AE.subF (sL [0,1,2] rfl) (q4 (asg' rfl (AD.nil (q1 ?_)))))
 refine q4 (AQ rfl (AK (v:=(vN xs.length)) (AF rfl Tryz.underlying28) rfl (AQ rfl (AK (v:=(vN ys.length)) (AF rfl Tryz.underlying28) rfl (AK (Bk (c:=(decide (xs.length≠ys.length))) rfl rfl (Ts (a:=xs.length) (b:=ys.length))) rfl ?_)))))
 refine AD.nil (AC.subF (sL [0,1,2,6,12] rfl) (AC.then_ ?_))
 refine AE.cond rfl (λhc0=>?_) (λhc0=>?_)
 ·replace hc0:=of_decide_eq_true hc0
  have hne:¬xs=ys:=λh=>by grind
  exact q4 (asg' rfl (AD.nil (AC.then_ (AE.ret (AC.then_ret (AJ rfl (AS (v:=(Value.bool false)) rfl) (λw hw=>⟨by rw [decide_eq_false hne],hw.out⟩)))))))
 ·replace hc0:=of_decide_eq_false hc0
  have hll:xs.length=ys.length:=by grind
  refine AE.skip (q1 (q4 (AQ rfl (AK (v:=(vN xs.length)) (AF rfl Tryz.underlying28) rfl (AQ rfl ?_)))))
  refine AD.nil (AC.subF (sL [0,1,2,6,14,15] rfl) (AC.then_ (AE.block ?_)))
  refine AE.lp1 (tg λ(j:Nat)=>j<=xs.length/\∀k,k<j->xs.getD k (⟨0,0⟩:Pt)=ys.getD k (⟨0,0⟩:Pt)) (tg λ(j:Nat)=>[(0,(Value.slice x.p xs.length x.c)),(1,(Value.slice y.p ys.length y.c)),(2,(Value.func (.func 47) #[] #[])),(14,(vN xs.length)),(15,(vN j))]) (tg λ(j:Nat)=>[AG x.p (rowsL Af xs),AG y.p (rowsL Af ys)]) (tg λ(j:Nat)=>xs.length-j) 0 (⟨Nat.zero_le _,λk h=>absurd h (Nat.not_lt_zero _)⟩) (sF rfl) sr (λj hJ=>?_)
  obtain ⟨hj,he⟩:=hJ
  refine q4 (AK (Ai (c:=(decide (j<xs.length))) rfl rfl (CI (a:=j) (b:=xs.length))) rfl (AD.nil (q1 ?_)))
  refine AE.cond rfl (λhc1=>?_) (λhc1=>?_)
  ·replace hc1:=of_decide_eq_true hc1
   refine AE.skip (q1 (AE.block (q4 (AQ rfl (asg' rfl ?_)))))
   refine q6 (sL [0,1,2,14,15,7] rfl) (CS [(0,true),(1,true),(2,true),(3,true),(4,true),(5,true),(6,true),(7,true),(8,true),(9,false),(10,true)] sr (BT rfl (BT rfl (BT rfl (Ap (v:=(pP (pB x.p) (pO x.p+j*10))) rfl (AO (j:=j) rfl rfl x.ok Tryz.underlying28 Tryz.sizeOf51 rfl (by omega)) ?_)))))
   refine Ap (v:=(aG (Af (xs.getD j (⟨0,0⟩:Pt))))) rfl (AT (vs:=Af (xs.getD j (⟨0,0⟩:Pt))) (i:=0) rfl rfl (A7.ne x.ok (by omega)) BM (Aq Av _ _ _ (by omega)) (Av _)) (BT rfl (BT rfl (Ap (v:=(pP (pB y.p) (pO y.p+j*10))) rfl (AO (j:=j) rfl rfl y.ok Tryz.underlying28 Tryz.sizeOf51 rfl (by omega)) (Ap (v:=(aG (Af (ys.getD j (⟨0,0⟩:Pt))))) rfl (AT (vs:=Af (ys.getD j (⟨0,0⟩:Pt))) (i:=1) rfl rfl (A7.ne y.ok (by omega)) BM (Aq Av _ _ _ (by omega)) (Av _)) (OkE.imp rfl ?_)))))
   refine ck' Tryz.call47 (Uc (xs.getD j (⟨0,0⟩:Pt)) (ys.getD j (⟨0,0⟩:Pt))) rfl (OkE.back sr (Ap rfl (BF (c:=(!(decide (xs.getD j (⟨0,0⟩:Pt)=ys.getD j (⟨0,0⟩:Pt))))) rfl rfl) (OkE.nil (AC.subF (sL [0,1,2,14,15,28] rfl) (AC.then_ ?_)))))
   refine AE.cond rfl (λhc2=>?_) (λhc2=>?_)
   ·simp only [Bool.and_eq_true,Bool.or_eq_true,Bool.and_eq_false_iff,Bool.or_eq_false_iff,Bool.not_eq_true',Bool.not_eq_false',decide_eq_true_eq,decide_eq_false_iff_not] at hc2
    have hne:¬xs=ys:=Ec (d:=(⟨0,0⟩:Pt)) (i:=j) (by grind)
    refine q4 (asg' rfl (AD.nil (AC.then_ (AE.ret (AC.in_ret ?_)))))
    exact AC.then_ret (AC.round1_ret (AC.in_ret (AC.then_ret (AJ rfl (AS (v:=(Value.bool false)) rfl) (λw hw=>⟨by rw [decide_eq_false hne],hw.out⟩)))))
   ·simp only [Bool.and_eq_true,Bool.or_eq_true,Bool.and_eq_false_iff,Bool.or_eq_false_iff,Bool.not_eq_true',Bool.not_eq_false',decide_eq_true_eq,decide_eq_false_iff_not] at hc2
    have hej:xs.getD j (⟨0,0⟩:Pt)=ys.getD j (⟨0,0⟩:Pt):=by grind
    refine AE.skip (AC.in_normal (AC.then_ (AE.region (AK (Ac (c:=((j+1:Nat):Int)) rfl rfl (Ae (a:=j) (b:=1) (by omega))) rfl (AQ rfl ?_)))))
    exact AD.nil (AC.subF (sL [0,1,2,14,15] rfl) (AC.round1 (j+1) (⟨by omega,λk hk=>by rcases Nat.lt_or_ge k j with q|q;exact he k q;rw [show k=j by omega];exact hej⟩) (by omega) (sF rfl) sr))
  ·replace hc1:=of_decide_eq_false hc1
   have heq:xs=ys:=Ez (d:=(⟨0,0⟩:Pt)) hll λk hk=>he k (by omega)
   refine AE.exit (AC.then_exit (AC.round1_exit (AC.in_exit (q2 (asg' rfl ?_)))))
   exact AD.nil (AC.then_ (AE.ret (AJ rfl (AS (v:=(Value.bool true)) rfl) (λw hw=>⟨by rw [decide_eq_true heq],hw.out⟩))))
theorem TK (p q:Z3) (w:World)  :Calls Tryz.prog 49 #[(aG (Ag p)),(aG (Ag q))] w (Al w (Value.bool (decide (p=q)))):=by
 refine Aa (args:=[(aG (Ag p)),(aG (Ag q))]) Tryz.func49 rfl rfl (AV rfl) (AE.subF (sL [0,1] rfl) (q4 (BU (cs:=Ag p) rfl λb1=>BU (cs:=Ag q) rfl λb2=>asg' rfl ?_)))
 refine q3 (sL [2,3,4] rfl) (BG 1 Gx rfl (BG 0 Gx rfl (AK (B1 (c:=decide (p=q)) rfl rfl Tryz.eqGuardType53 (Sd 9998 p q)) rfl (asg' rfl (AD.nil ?_)))))
 exact AC.subF (sL [4] rfl) (AC.then_ (AE.ret (AJ rfl (AS (v:=(Value.bool (decide (p=q)))) rfl) (λw hw=>⟨rfl,hw.out⟩))))
theorem PR (xs ys:List Z3) (x:RX (rowsL Ag xs) xs.length) (y:RX (rowsL Ag ys) ys.length) (hl:xs.length<=1000000) (w:World) {S:Nat->Prop} (hx:Ro S w x) (hy:Ro S w y):Calls Tryz.prog 48 #[(Value.slice x.p xs.length x.c),(Value.slice y.p ys.length y.c),(Value.func (.func 49) #[] #[])] w (Al w (Value.bool (decide (xs=ys)))):=by
 have lx:=Cx (W:=w) hx
 have ly:=Cx (W:=w) hy
 refine Aj (args:=[(Value.slice x.p xs.length x.c),(Value.slice y.p ys.length y.c),(Value.func (.func 49) #[] #[])]) (L:=[AG x.p (rowsL Ag xs),AG y.p (rowsL Ag ys)]) Tryz.func48 rfl rfl (AV rfl) (Ds hx (Ds hy Ax)) (AE.subF (sL [0,1,2] rfl) (q4 (asg' rfl (AD.nil (q1 ?_)))))
 refine q4 (AQ rfl (AK (v:=(vN xs.length)) (AF rfl Tryz.underlying23) rfl (AQ rfl (AK (v:=(vN ys.length)) (AF rfl Tryz.underlying23) rfl (AK (Bk (c:=(decide (xs.length≠ys.length))) rfl rfl (Ts (a:=xs.length) (b:=ys.length))) rfl ?_)))))
 refine AD.nil (AC.subF (sL [0,1,2,6,12] rfl) (AC.then_ ?_))
 refine AE.cond rfl (λhc0=>?_) (λhc0=>?_)
 ·replace hc0:=of_decide_eq_true hc0
  have hne:¬xs=ys:=λh=>by grind
  exact q4 (asg' rfl (AD.nil (AC.then_ (AE.ret (AC.then_ret (AJ rfl (AS (v:=(Value.bool false)) rfl) (λw hw=>⟨by rw [decide_eq_false hne],hw.out⟩)))))))
 ·replace hc0:=of_decide_eq_false hc0
  have hll:xs.length=ys.length:=by grind
  refine AE.skip (q1 (q4 (AQ rfl (AK (v:=(vN xs.length)) (AF rfl Tryz.underlying23) rfl (AQ rfl ?_)))))
  refine AD.nil (AC.subF (sL [0,1,2,6,14,15] rfl) (AC.then_ (AE.block ?_)))
  refine AE.lp1 (tg λ(j:Nat)=>j<=xs.length/\∀k,k<j->xs.getD k ((0,0,0):Z3)=ys.getD k ((0,0,0):Z3)) (tg λ(j:Nat)=>[(0,(Value.slice x.p xs.length x.c)),(1,(Value.slice y.p ys.length y.c)),(2,(Value.func (.func 49) #[] #[])),(14,(vN xs.length)),(15,(vN j))]) (tg λ(j:Nat)=>[AG x.p (rowsL Ag xs),AG y.p (rowsL Ag ys)]) (tg λ(j:Nat)=>xs.length-j) 0 (⟨Nat.zero_le _,λk h=>absurd h (Nat.not_lt_zero _)⟩) (sF rfl) sr (λj hJ=>?_)
  obtain ⟨hj,he⟩:=hJ
  refine q4 (AK (Ai (c:=(decide (j<xs.length))) rfl rfl (CI (a:=j) (b:=xs.length))) rfl (AD.nil (q1 ?_)))
  refine AE.cond rfl (λhc1=>?_) (λhc1=>?_)
  ·replace hc1:=of_decide_eq_true hc1
   refine AE.skip (q1 (AE.block (q4 (AQ rfl (asg' rfl ?_)))))
   refine q6 (sL [0,1,2,14,15,7] rfl) (CS [(0,true),(1,true),(2,true),(3,true),(4,true),(5,true),(6,true),(7,true),(8,true),(9,false),(10,true)] sr (BT rfl (BT rfl (BT rfl (Ap (v:=(pP (pB x.p) (pO x.p+j*3))) rfl (AO (j:=j) rfl rfl x.ok Tryz.underlying23 Tryz.sizeOf53 rfl (by omega)) ?_)))))
   refine Ap (v:=(aG (Ag (xs.getD j ((0,0,0):Z3))))) rfl (AT (vs:=Ag (xs.getD j ((0,0,0):Z3))) (i:=0) rfl rfl (A7.ne x.ok (by omega)) Gx (Aq Ar _ _ _ (by omega)) (Ar _)) (BT rfl (BT rfl (Ap (v:=(pP (pB y.p) (pO y.p+j*3))) rfl (AO (j:=j) rfl rfl y.ok Tryz.underlying23 Tryz.sizeOf53 rfl (by omega)) (Ap (v:=(aG (Ag (ys.getD j ((0,0,0):Z3))))) rfl (AT (vs:=Ag (ys.getD j ((0,0,0):Z3))) (i:=1) rfl rfl (A7.ne y.ok (by omega)) Gx (Aq Ar _ _ _ (by omega)) (Ar _)) (OkE.imp rfl ?_)))))
   refine ck' Tryz.call49 (TK (xs.getD j ((0,0,0):Z3)) (ys.getD j ((0,0,0):Z3))) rfl (OkE.back sr (Ap rfl (BF (c:=(!(decide (xs.getD j ((0,0,0):Z3)=ys.getD j ((0,0,0):Z3))))) rfl rfl) (OkE.nil (AC.subF (sL [0,1,2,14,15,28] rfl) (AC.then_ ?_)))))
   refine AE.cond rfl (λhc2=>?_) (λhc2=>?_)
   ·simp only [Bool.and_eq_true,Bool.or_eq_true,Bool.and_eq_false_iff,Bool.or_eq_false_iff,Bool.not_eq_true',Bool.not_eq_false',decide_eq_true_eq,decide_eq_false_iff_not] at hc2
    have hne:¬xs=ys:=Ec (d:=((0,0,0):Z3)) (i:=j) (by grind)
    refine q4 (asg' rfl (AD.nil (AC.then_ (AE.ret (AC.in_ret ?_)))))
    exact AC.then_ret (AC.round1_ret (AC.in_ret (AC.then_ret (AJ rfl (AS (v:=(Value.bool false)) rfl) (λw hw=>⟨by rw [decide_eq_false hne],hw.out⟩)))))
   ·simp only [Bool.and_eq_true,Bool.or_eq_true,Bool.and_eq_false_iff,Bool.or_eq_false_iff,Bool.not_eq_true',Bool.not_eq_false',decide_eq_true_eq,decide_eq_false_iff_not] at hc2
    have hej:xs.getD j ((0,0,0):Z3)=ys.getD j ((0,0,0):Z3):=by grind
    refine AE.skip (AC.in_normal (AC.then_ (AE.region (AK (Ac (c:=((j+1:Nat):Int)) rfl rfl (Ae (a:=j) (b:=1) (by omega))) rfl (AQ rfl ?_)))))
    exact AD.nil (AC.subF (sL [0,1,2,14,15] rfl) (AC.round1 (j+1) (⟨by omega,λk hk=>by rcases Nat.lt_or_ge k j with q|q;exact he k q;rw [show k=j by omega];exact hej⟩) (by omega) (sF rfl) sr))
  ·replace hc1:=of_decide_eq_false hc1
   have heq:xs=ys:=Ez (d:=((0,0,0):Z3)) hll λk hk=>he k (by omega)
   refine AE.exit (AC.then_exit (AC.round1_exit (AC.in_exit (q2 (asg' rfl ?_)))))
   exact AD.nil (AC.then_ (AE.ret (AJ rfl (AS (v:=(Value.bool true)) rfl) (λw hw=>⟨by rw [decide_eq_true heq],hw.out⟩))))
theorem TG (p q:Z3) (w:World)  :Calls Tryz.prog 51 #[(aG (Ag p)),(aG (Ag q))] w (Al w (Value.bool (decide (p=q)))):=by
 refine Aa (args:=[(aG (Ag p)),(aG (Ag q))]) Tryz.func51 rfl rfl (AV rfl) (AE.subF (sL [0,1] rfl) (q4 (BU (cs:=Ag p) rfl λb1=>BU (cs:=Ag q) rfl λb2=>asg' rfl ?_)))
 refine q3 (sL [2,3,4] rfl) (BG 1 NB rfl (BG 0 NB rfl (AK (B1 (c:=decide (p=q)) rfl rfl Tryz.eqGuardType55 (WF 9998 p q)) rfl (asg' rfl (AD.nil ?_)))))
 exact AC.subF (sL [4] rfl) (AC.then_ (AE.ret (AJ rfl (AS (v:=(Value.bool (decide (p=q)))) rfl) (λw hw=>⟨rfl,hw.out⟩))))
theorem P1 (xs ys:List Z3) (x:RX (rowsL Ag xs) xs.length) (y:RX (rowsL Ag ys) ys.length) (hl:xs.length<=1000000) (w:World) {S:Nat->Prop} (hx:Ro S w x) (hy:Ro S w y):Calls Tryz.prog 50 #[(Value.slice x.p xs.length x.c),(Value.slice y.p ys.length y.c),(Value.func (.func 51) #[] #[])] w (Al w (Value.bool (decide (xs=ys)))):=by
 have lx:=Cx (W:=w) hx
 have ly:=Cx (W:=w) hy
 refine Aj (args:=[(Value.slice x.p xs.length x.c),(Value.slice y.p ys.length y.c),(Value.func (.func 51) #[] #[])]) (L:=[AG x.p (rowsL Ag xs),AG y.p (rowsL Ag ys)]) Tryz.func50 rfl rfl (AV rfl) (Ds hx (Ds hy Ax)) (AE.subF (sL [0,1,2] rfl) (q4 (asg' rfl (AD.nil (q1 ?_)))))
 refine q4 (AQ rfl (AK (v:=(vN xs.length)) (AF rfl Tryz.underlying24) rfl (AQ rfl (AK (v:=(vN ys.length)) (AF rfl Tryz.underlying24) rfl (AK (Bk (c:=(decide (xs.length≠ys.length))) rfl rfl (Ts (a:=xs.length) (b:=ys.length))) rfl ?_)))))
 refine AD.nil (AC.subF (sL [0,1,2,6,12] rfl) (AC.then_ ?_))
 refine AE.cond rfl (λhc0=>?_) (λhc0=>?_)
 ·replace hc0:=of_decide_eq_true hc0
  have hne:¬xs=ys:=λh=>by grind
  exact q4 (asg' rfl (AD.nil (AC.then_ (AE.ret (AC.then_ret (AJ rfl (AS (v:=(Value.bool false)) rfl) (λw hw=>⟨by rw [decide_eq_false hne],hw.out⟩)))))))
 ·replace hc0:=of_decide_eq_false hc0
  have hll:xs.length=ys.length:=by grind
  refine AE.skip (q1 (q4 (AQ rfl (AK (v:=(vN xs.length)) (AF rfl Tryz.underlying24) rfl (AQ rfl ?_)))))
  refine AD.nil (AC.subF (sL [0,1,2,6,14,15] rfl) (AC.then_ (AE.block ?_)))
  refine AE.lp1 (tg λ(j:Nat)=>j<=xs.length/\∀k,k<j->xs.getD k ((0,0,0):Z3)=ys.getD k ((0,0,0):Z3)) (tg λ(j:Nat)=>[(0,(Value.slice x.p xs.length x.c)),(1,(Value.slice y.p ys.length y.c)),(2,(Value.func (.func 51) #[] #[])),(14,(vN xs.length)),(15,(vN j))]) (tg λ(j:Nat)=>[AG x.p (rowsL Ag xs),AG y.p (rowsL Ag ys)]) (tg λ(j:Nat)=>xs.length-j) 0 (⟨Nat.zero_le _,λk h=>absurd h (Nat.not_lt_zero _)⟩) (sF rfl) sr (λj hJ=>?_)
  obtain ⟨hj,he⟩:=hJ
  refine q4 (AK (Ai (c:=(decide (j<xs.length))) rfl rfl (CI (a:=j) (b:=xs.length))) rfl (AD.nil (q1 ?_)))
  refine AE.cond rfl (λhc1=>?_) (λhc1=>?_)
  ·replace hc1:=of_decide_eq_true hc1
   refine AE.skip (q1 (AE.block (q4 (AQ rfl (asg' rfl ?_)))))
   refine q6 (sL [0,1,2,14,15,7] rfl) (CS [(0,true),(1,true),(2,true),(3,true),(4,true),(5,true),(6,true),(7,true),(8,true),(9,false),(10,true)] sr (BT rfl (BT rfl (BT rfl (Ap (v:=(pP (pB x.p) (pO x.p+j*3))) rfl (AO (j:=j) rfl rfl x.ok Tryz.underlying24 Tryz.sizeOf55 rfl (by omega)) ?_)))))
   refine Ap (v:=(aG (Ag (xs.getD j ((0,0,0):Z3))))) rfl (AT (vs:=Ag (xs.getD j ((0,0,0):Z3))) (i:=0) rfl rfl (A7.ne x.ok (by omega)) NB (Aq Ar _ _ _ (by omega)) (Ar _)) (BT rfl (BT rfl (Ap (v:=(pP (pB y.p) (pO y.p+j*3))) rfl (AO (j:=j) rfl rfl y.ok Tryz.underlying24 Tryz.sizeOf55 rfl (by omega)) (Ap (v:=(aG (Ag (ys.getD j ((0,0,0):Z3))))) rfl (AT (vs:=Ag (ys.getD j ((0,0,0):Z3))) (i:=1) rfl rfl (A7.ne y.ok (by omega)) NB (Aq Ar _ _ _ (by omega)) (Ar _)) (OkE.imp rfl ?_)))))
   refine ck' Tryz.call51 (TG (xs.getD j ((0,0,0):Z3)) (ys.getD j ((0,0,0):Z3))) rfl (OkE.back sr (Ap rfl (BF (c:=(!(decide (xs.getD j ((0,0,0):Z3)=ys.getD j ((0,0,0):Z3))))) rfl rfl) (OkE.nil (AC.subF (sL [0,1,2,14,15,28] rfl) (AC.then_ ?_)))))
   refine AE.cond rfl (λhc2=>?_) (λhc2=>?_)
   ·simp only [Bool.and_eq_true,Bool.or_eq_true,Bool.and_eq_false_iff,Bool.or_eq_false_iff,Bool.not_eq_true',Bool.not_eq_false',decide_eq_true_eq,decide_eq_false_iff_not] at hc2
    have hne:¬xs=ys:=Ec (d:=((0,0,0):Z3)) (i:=j) (by grind)
    refine q4 (asg' rfl (AD.nil (AC.then_ (AE.ret (AC.in_ret ?_)))))
    exact AC.then_ret (AC.round1_ret (AC.in_ret (AC.then_ret (AJ rfl (AS (v:=(Value.bool false)) rfl) (λw hw=>⟨by rw [decide_eq_false hne],hw.out⟩)))))
   ·simp only [Bool.and_eq_true,Bool.or_eq_true,Bool.and_eq_false_iff,Bool.or_eq_false_iff,Bool.not_eq_true',Bool.not_eq_false',decide_eq_true_eq,decide_eq_false_iff_not] at hc2
    have hej:xs.getD j ((0,0,0):Z3)=ys.getD j ((0,0,0):Z3):=by grind
    refine AE.skip (AC.in_normal (AC.then_ (AE.region (AK (Ac (c:=((j+1:Nat):Int)) rfl rfl (Ae (a:=j) (b:=1) (by omega))) rfl (AQ rfl ?_)))))
    exact AD.nil (AC.subF (sL [0,1,2,14,15] rfl) (AC.round1 (j+1) (⟨by omega,λk hk=>by rcases Nat.lt_or_ge k j with q|q;exact he k q;rw [show k=j by omega];exact hej⟩) (by omega) (sF rfl) sr))
  ·replace hc1:=of_decide_eq_false hc1
   have heq:xs=ys:=Ez (d:=((0,0,0):Z3)) hll λk hk=>he k (by omega)
   refine AE.exit (AC.then_exit (AC.round1_exit (AC.in_exit (q2 (asg' rfl ?_)))))
   exact AD.nil (AC.then_ (AE.ret (AJ rfl (AS (v:=(Value.bool true)) rfl) (λw hw=>⟨by rw [decide_eq_true heq],hw.out⟩))))
theorem C4 {ps qs:List Pt} {ts ss us vs:List Z3} (x:MZ ps ts ss) (y:MZ qs us vs) (hp:ps.length<=1000000) (ht:ts.length<=1000000) (hs:ss.length<=1000000) (w:World) {S:Nat->Prop} (hx:Ro S w x) (hy:Ro S w y):Calls Tryz.prog 11 #[(aG (B8 x)),(aG (B8 y))] w (Al w (Value.bool (decide (ps=qs/\ts=us/\ss=vs)))):=by
 have lx:=Cx (W:=w) hx
 have ly:=Cx (W:=w) hy
 refine Aj (args:=[(aG (B8 x)),(aG (B8 y))]) (L:=[AG x.a.p (rowsL Af ps),AG x.b.p (rowsL Ag ts),AG x.c.p (rowsL Ag ss),AG y.a.p (rowsL Af qs),AG y.b.p (rowsL Ag us),AG y.c.p (rowsL Ag vs)]) Tryz.func11 rfl rfl (AV rfl) (Ds hx (Ds hy Ax)) (AE.subF (sL [0,1] rfl) (q4 (BU (cs:=B8 x) rfl λb1=>BU (cs:=B8 y) rfl λb2=>asg' rfl ?_)))
 refine q3 (sL [2,3,4] rfl) (AK (v:=(pP b1 0)) (AA rfl Tryz.underlying30 rfl Tryz.sizeOf28 rfl) rfl (BJ 1 (Value.slice x.a.p ps.length x.a.c) CW rfl (AK (v:=(pP b2 0)) (AA rfl Tryz.underlying30 rfl Tryz.sizeOf28 rfl) rfl (BJ 0 (Value.slice y.a.p qs.length y.a.c) CW rfl (CN Tryz.call46 (λw hw=>PM ps qs x.a y.a (by omega) w (VN (inS hw 2 rfl lx)) (VN (inS hw 5 rfl ly))) rfl ?_)))))
 refine AQ rfl ?_
 refine AD.mid (FM:=[(2,(pP b1 0)),(3,(pP b2 0)),(4,(Value.bool false)),(5,(pP b1 0)),(6,(Value.slice x.a.p ps.length x.a.c)),(7,(pP b2 0)),(8,(Value.slice y.a.p qs.length y.a.c)),(9,(Value.bool (decide (ps=qs)))),(10,(Value.bool (decide (ps=qs)))),(16,(Value.bool ((decide (ps=qs))&&(decide (ts=us)))))]) (LM:=[Ad b2 30 (B8 y),Ad b1 30 (B8 x),AG x.a.p (rowsL Af ps),AG x.b.p (rowsL Ag ts),AG x.c.p (rowsL Ag ss),AG y.a.p (rowsL Af qs),AG y.b.p (rowsL Ag us),AG y.c.p (rowsL Ag vs)]) 6 ?_ ?_
 ·rcases Bool.eq_false_or_eq_true (decide (ps=qs)) with hg1|hg1
  ·skip
   refine AD.retell (k:=10) (u:=Value.bool true) rfl (by rw [hg1]) ?_
   have hg1':=hg1
   replace hg1':=of_decide_eq_true hg1'
   refine AD.step (v:=(pP b1 1)) (AB rfl) (AA rfl Tryz.underlying30 rfl Tryz.sizeOf23 rfl) rfl (AV rfl) (AD.step (v:=(Value.slice x.b.p ts.length x.b.c)) (AB rfl) (AL (i:=1) (v:=(Value.slice x.b.p ts.length x.b.c)) rfl rfl DG.a rfl) rfl (AV rfl) (AD.step (v:=(pP b2 1)) (AB rfl) (AA rfl Tryz.underlying30 rfl Tryz.sizeOf23 rfl) rfl (AV rfl) (AD.step (v:=(Value.slice y.b.p us.length y.b.c)) (AB rfl) (AL (i:=0) (v:=(Value.slice y.b.p us.length y.b.c)) rfl rfl DG.a rfl) rfl (AV rfl) (AD.call (v:=(Value.bool (decide (ts=us)))) (AB rfl) (An (args:=[(Value.slice x.b.p ts.length x.b.c),(Value.slice y.b.p us.length y.b.c),(Value.func (.func 49) #[] #[])]) rfl rfl Tryz.call48) (λw hw=>PR ts us x.b y.b (by omega) w (WJ (inS hw 2 rfl lx)) (WJ (inS hw 5 rfl ly))) rfl (AV rfl) (AK (v:=(Value.bool (decide (ts=us)))) (AX rfl rfl) rfl ?_)))))
   exact AD.nil (AC.mid (sS rfl (sS rfl (sS rfl (sS rfl (sS rfl (sS rfl (sS rfl (sS rfl (sS (by first|rfl|(rw [hg1];rfl)|rw [hg1]) (sS (by first|rfl|(rw [hg1];rfl)|rw [hg1]) (sN))))))))))) (List.Sublist.refl _))
  ·skip
   refine AD.retell (k:=10) (u:=Value.bool false) rfl (by rw [hg1]) ?_
   have hg1':=hg1
   replace hg1':=of_decide_eq_false hg1'
   refine AD.skip (AH rfl) rfl (AV rfl) (AD.skip (AH rfl) rfl (AV rfl) (AD.skip (AH rfl) rfl (AV rfl) (AD.skip (AH rfl) rfl (AV rfl) (AD.skip (AH rfl) rfl (AV rfl) (AK (v:=(Value.bool false)) (AR rfl rfl) rfl ?_)))))
   exact AD.nil (AC.mid (sS rfl (sS rfl (sS rfl (sS rfl (sS rfl (sS rfl (sS rfl (sS rfl (sS (by first|rfl|(rw [hg1];rfl)|rw [hg1]) (sS (by first|rfl|(rw [hg1];rfl)|rw [hg1]) (sN))))))))))) (List.Sublist.refl _))
 refine AQ rfl ?_
 refine AD.mid (FM:=[(2,(pP b1 0)),(3,(pP b2 0)),(4,(Value.bool false)),(5,(pP b1 0)),(6,(Value.slice x.a.p ps.length x.a.c)),(7,(pP b2 0)),(8,(Value.slice y.a.p qs.length y.a.c)),(9,(Value.bool (decide (ps=qs)))),(10,(Value.bool (decide (ps=qs)))),(16,(Value.bool ((decide (ps=qs))&&(decide (ts=us))))),(17,(Value.bool ((decide (ps=qs))&&(decide (ts=us))))),(23,(Value.bool (((decide (ps=qs))&&(decide (ts=us)))&&(decide (ss=vs)))))]) (LM:=[Ad b2 30 (B8 y),Ad b1 30 (B8 x),AG x.a.p (rowsL Af ps),AG x.b.p (rowsL Ag ts),AG x.c.p (rowsL Ag ss),AG y.a.p (rowsL Af qs),AG y.b.p (rowsL Ag us),AG y.c.p (rowsL Ag vs)]) 6 ?_ ?_
 ·rcases Bool.eq_false_or_eq_true ((decide (ps=qs))&&(decide (ts=us))) with hg2|hg2
  ·skip
   refine AD.retell (k:=17) (u:=Value.bool true) rfl (by rw [hg2]) ?_
   have hg2':=hg2
   simp only [Bool.and_eq_true,Bool.or_eq_true,Bool.and_eq_false_iff,Bool.or_eq_false_iff,Bool.not_eq_true',Bool.not_eq_false',decide_eq_true_eq,decide_eq_false_iff_not] at hg2'
   refine AD.step (v:=(pP b1 2)) (AB rfl) (AA rfl Tryz.underlying30 rfl Tryz.sizeOf24 rfl) rfl (AV rfl) (AD.step (v:=(Value.slice x.c.p ss.length x.c.c)) (AB rfl) (AL (i:=1) (v:=(Value.slice x.c.p ss.length x.c.c)) rfl rfl D5.a rfl) rfl (AV rfl) (AD.step (v:=(pP b2 2)) (AB rfl) (AA rfl Tryz.underlying30 rfl Tryz.sizeOf24 rfl) rfl (AV rfl) (AD.step (v:=(Value.slice y.c.p vs.length y.c.c)) (AB rfl) (AL (i:=0) (v:=(Value.slice y.c.p vs.length y.c.c)) rfl rfl D5.a rfl) rfl (AV rfl) (AD.call (v:=(Value.bool (decide (ss=vs)))) (AB rfl) (An (args:=[(Value.slice x.c.p ss.length x.c.c),(Value.slice y.c.p vs.length y.c.c),(Value.func (.func 51) #[] #[])]) rfl rfl Tryz.call50) (λw hw=>P1 ss vs x.c y.c (by omega) w (Vm (inS hw 2 rfl lx)) (Vm (inS hw 5 rfl ly))) rfl (AV rfl) (AK (v:=(Value.bool (decide (ss=vs)))) (AX rfl rfl) rfl ?_)))))
   exact AD.nil (AC.mid (sS rfl (sS rfl (sS rfl (sS rfl (sS rfl (sS rfl (sS rfl (sS rfl (sS rfl (sS rfl (sS (by first|rfl|(rw [hg2];rfl)|rw [hg2]) (sS (by first|rfl|(rw [hg2];rfl)|rw [hg2]) (sN))))))))))))) (List.Sublist.refl _))
  ·skip
   refine AD.retell (k:=17) (u:=Value.bool false) rfl (by rw [hg2]) ?_
   have hg2':=hg2
   simp only [Bool.and_eq_true,Bool.or_eq_true,Bool.and_eq_false_iff,Bool.or_eq_false_iff,Bool.not_eq_true',Bool.not_eq_false',decide_eq_true_eq,decide_eq_false_iff_not] at hg2'
   refine AD.skip (AH rfl) rfl (AV rfl) (AD.skip (AH rfl) rfl (AV rfl) (AD.skip (AH rfl) rfl (AV rfl) (AD.skip (AH rfl) rfl (AV rfl) (AD.skip (AH rfl) rfl (AV rfl) (AK (v:=(Value.bool false)) (AR rfl rfl) rfl ?_)))))
   exact AD.nil (AC.mid (sS rfl (sS rfl (sS rfl (sS rfl (sS rfl (sS rfl (sS rfl (sS rfl (sS rfl (sS rfl (sS (by first|rfl|(rw [hg2];rfl)|rw [hg2]) (sS (by first|rfl|(rw [hg2];rfl)|rw [hg2]) (sN))))))))))))) (List.Sublist.refl _))
 exact asg' rfl (AD.nil (AC.subF (sL [4] rfl) (AC.then_ (AE.ret (AJ rfl (AS (v:=(Value.bool (((decide (ps=qs))&&(decide (ts=us)))&&(decide (ss=vs))))) rfl) (λw hw=>⟨by congr 2;grind,hw.out⟩))))))
end
end Go.Proofs.YtpgncndhhhllfaaGreatDoor
