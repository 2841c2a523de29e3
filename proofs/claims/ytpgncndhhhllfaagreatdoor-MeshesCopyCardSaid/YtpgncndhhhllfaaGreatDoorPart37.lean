import Derived.Test.YtpgncndhhhllfaaGreatDoorPart06
import Derived.Test.YtpgncndhhhllfaaGreatDoorPart21
import Derived.Test.YtpgncndhhhllfaaGreatDoorPart27
import Derived.Test.YtpgncndhhhllfaaGreatDoorPart28
import Derived.Test.YtpgncndhhhllfaaGreatDoorPart34
namespace Go.Proofs.YtpgncndhhhllfaaGreatDoor
open Go Go.RowKit Go.Proofs.Tryz
set_option linter.unusedVariables false
set_option linter.unusedSimpArgs false
section
set_option maxRecDepth 100000
set_option maxHeartbeats 1000000 in
theorem E2 {ps qs:List Pt} {ts ss us vs:List Z3} (x:MZ ps ts ss) (y:K0 qs us vs) (hz1:∀i,i<ps.length->PW (ps.getD i ⟨0,0⟩)) (hz0:∀i,i<qs.length->B3 (qs.getD i ⟨0,0⟩)<=16777216) (hp:ps.length<=1000000) (ht:ts.length<=1000000) (hs:ss.length<=1000000) (w:World) {S:Nat->Prop} (hx:Ro S w x) (hy:Ro S w y) (hT:Mx w):Calls Tryz.prog 12 #[(aG (B8 x)),(aG (Lm y))] w (Al w (Value.bool (decide (ps=qs/\ts=us/\ss=vs)))):=by
 have hrl:=y.len
 have hz2:∀i,i<y.rs.length->B3 (y.rs.getD i Uz).p<=16777216:=λi h=>by rw [y.at h];exact hz0 i (by omega)
 have lx:=Cx (W:=w) hx
 have ly:=Cx (W:=w) hy
 refine Aj (args:=[(aG (B8 x)),(aG (Lm y))]) (L:=(AG x.a.p (rowsL Af ps)::AG x.b.p (rowsL Ag ts)::AG x.c.p (rowsL Ag ss)::AG y.a.p (rowsL Cz y.rs)::AG y.b.p (rowsL Ag us)::AG y.c.p (rowsL Ag vs)::EW y.rs)) Tryz.func12 rfl rfl (AV rfl) (Ds hx (Yn hy)) (AE.subF (sL [0,1] rfl) (q4 (BU (cs:=B8 x) rfl λb1=>BU (cs:=Lm y) rfl λb2=>asg' rfl ?_)))
 refine q6 (sL [2,3,4] rfl) (q4 (AK (v:=(pP b1 0)) (AA rfl Tryz.underlying30 rfl Tryz.sizeOf28 rfl) rfl (BJ 1 (Value.slice x.a.p ps.length x.a.c) CW rfl (AK (v:=(vN ps.length)) (AF rfl Tryz.underlying28) rfl (AK (v:=(pP b2 0)) (AA rfl Tryz.underlying38 rfl Tryz.sizeOf35 rfl) rfl ?_)))))
 refine BJ 0 (Value.slice y.a.p y.rs.length y.a.c) Vj rfl (AK (v:=(vN y.rs.length)) (AF rfl Tryz.underlying35) rfl (AK (Bk (c:=(decide (ps.length≠y.rs.length))) rfl rfl (Ts (a:=ps.length) (b:=y.rs.length))) rfl (AQ rfl ?_)))
 refine AD.mid (FM:=[(2,(pP b1 0)),(3,(pP b2 0)),(4,(Value.bool false)),(8,(pP b1 0)),(9,(Value.slice x.a.p ps.length x.a.c)),(10,(vN ps.length)),(11,(pP b2 0)),(12,(Value.slice y.a.p y.rs.length y.a.c)),(13,(vN y.rs.length)),(14,(Value.bool (decide (ps.length≠y.rs.length)))),(15,(Value.bool (decide (ps.length≠y.rs.length)))),(23,(Value.bool ((decide (ps.length≠y.rs.length))||(decide (ts.length≠us.length)))))]) (LM:=(Ad b2 38 (Lm y)::Ad b1 30 (B8 x)::AG x.a.p (rowsL Af ps)::AG x.b.p (rowsL Ag ts)::AG x.c.p (rowsL Ag ss)::AG y.a.p (rowsL Cz y.rs)::AG y.b.p (rowsL Ag us)::AG y.c.p (rowsL Ag vs)::EW y.rs)) 8 ?_ ?_
 ·rcases Bool.eq_false_or_eq_true (decide (ps.length≠y.rs.length)) with hg1|hg1
  ·skip
   refine AD.retell (k:=15) (u:=Value.bool true) rfl (by rw [hg1]) ?_
   have hg1':=hg1
   replace hg1':=of_decide_eq_true hg1'
   refine AD.skip (AH rfl) rfl (AV rfl) (AD.skip (AH rfl) rfl (AV rfl) (AD.skip (AH rfl) rfl (AV rfl) (AD.skip (AH rfl) rfl (AV rfl) (AD.skip (AH rfl) rfl (AV rfl) (AD.skip (AH rfl) rfl (AV rfl) ?_)))))
   exact AD.skip (AH rfl) rfl (AV rfl) (AK (v:=(Value.bool true)) (AX rfl rfl) rfl (AD.nil (AC.mid (sS rfl (sS rfl (sS rfl (sS rfl (sS rfl (sS rfl (sS rfl (sS rfl (sS rfl (sS rfl (sS (by first|rfl|(rw [hg1];rfl)|rw [hg1]) (sS (by first|rfl|(rw [hg1];rfl)|rw [hg1]) (sN))))))))))))) (List.Sublist.refl _))))
  ·skip
   refine AD.retell (k:=15) (u:=Value.bool false) rfl (by rw [hg1]) ?_
   have hg1':=hg1
   replace hg1':=of_decide_eq_false hg1'
   refine AD.step (v:=(pP b1 1)) (AB rfl) (AA rfl Tryz.underlying30 rfl Tryz.sizeOf23 rfl) rfl (AV rfl) (AD.step (v:=(Value.slice x.b.p ts.length x.b.c)) (AB rfl) (AL (i:=1) (v:=(Value.slice x.b.p ts.length x.b.c)) rfl rfl DG.a rfl) rfl (AV rfl) (AD.step (v:=(vN ts.length)) (AB rfl) (AF rfl Tryz.underlying23) rfl (AV rfl) (AD.step (v:=(pP b2 1)) (AB rfl) (AA rfl Tryz.underlying38 rfl Tryz.sizeOf23 rfl) rfl (AV rfl) (AD.step (v:=(Value.slice y.b.p us.length y.b.c)) (AB rfl) (AL (i:=0) (v:=(Value.slice y.b.p us.length y.b.c)) rfl rfl DG.a rfl) rfl (AV rfl) (AD.step (v:=(vN us.length)) (AB rfl) (AF rfl Tryz.underlying23) rfl (AV rfl) ?_)))))
   exact AD.step (v:=(Value.bool (decide (ts.length≠us.length)))) (AB rfl) (Bk (c:=(decide (ts.length≠us.length))) rfl rfl (Ts (a:=ts.length) (b:=us.length))) rfl (AV rfl) (AK (v:=(Value.bool (decide (ts.length≠us.length)))) (AR rfl rfl) rfl (AD.nil (AC.mid (sS rfl (sS rfl (sS rfl (sS rfl (sS rfl (sS rfl (sS rfl (sS rfl (sS rfl (sS rfl (sS (by first|rfl|(rw [hg1];rfl)|rw [hg1]) (sS (by first|rfl|(rw [hg1];rfl)|rw [hg1]) (sN))))))))))))) (List.Sublist.refl _))))
 refine AQ rfl ?_
 refine AD.mid (FM:=[(2,(pP b1 0)),(3,(pP b2 0)),(4,(Value.bool false)),(8,(pP b1 0)),(9,(Value.slice x.a.p ps.length x.a.c)),(10,(vN ps.length)),(11,(pP b2 0)),(12,(Value.slice y.a.p y.rs.length y.a.c)),(13,(vN y.rs.length)),(14,(Value.bool (decide (ps.length≠y.rs.length)))),(15,(Value.bool (decide (ps.length≠y.rs.length)))),(23,(Value.bool ((decide (ps.length≠y.rs.length))||(decide (ts.length≠us.length))))),(24,(Value.bool ((decide (ps.length≠y.rs.length))||(decide (ts.length≠us.length))))),(32,(Value.bool (((decide (ps.length≠y.rs.length))||(decide (ts.length≠us.length)))||(decide (ss.length≠vs.length)))))]) (LM:=(Ad b2 38 (Lm y)::Ad b1 30 (B8 x)::AG x.a.p (rowsL Af ps)::AG x.b.p (rowsL Ag ts)::AG x.c.p (rowsL Ag ss)::AG y.a.p (rowsL Cz y.rs)::AG y.b.p (rowsL Ag us)::AG y.c.p (rowsL Ag vs)::EW y.rs)) 8 ?_ ?_
 ·rcases Bool.eq_false_or_eq_true ((decide (ps.length≠y.rs.length))||(decide (ts.length≠us.length))) with hg2|hg2
  ·skip
   refine AD.retell (k:=24) (u:=Value.bool true) rfl (by rw [hg2]) ?_
   have hg2':=hg2
   simp only [Bool.and_eq_true,Bool.or_eq_true,Bool.and_eq_false_iff,Bool.or_eq_false_iff,Bool.not_eq_true',Bool.not_eq_false',decide_eq_true_eq,decide_eq_false_iff_not] at hg2'
   refine AD.skip (AH rfl) rfl (AV rfl) (AD.skip (AH rfl) rfl (AV rfl) (AD.skip (AH rfl) rfl (AV rfl) (AD.skip (AH rfl) rfl (AV rfl) (AD.skip (AH rfl) rfl (AV rfl) (AD.skip (AH rfl) rfl (AV rfl) ?_)))))
   exact AD.skip (AH rfl) rfl (AV rfl) (AK (v:=(Value.bool true)) (AX rfl rfl) rfl (AD.nil (AC.mid (sS rfl (sS rfl (sS rfl (sS rfl (sS rfl (sS rfl (sS rfl (sS rfl (sS rfl (sS rfl (sS rfl (sS rfl (sS (by first|rfl|(rw [hg2];rfl)|rw [hg2]) (sS (by first|rfl|(rw [hg2];rfl)|rw [hg2]) (sN))))))))))))))) (List.Sublist.refl _))))
  ·skip
   refine AD.retell (k:=24) (u:=Value.bool false) rfl (by rw [hg2]) ?_
   have hg2':=hg2
   simp only [Bool.and_eq_true,Bool.or_eq_true,Bool.and_eq_false_iff,Bool.or_eq_false_iff,Bool.not_eq_true',Bool.not_eq_false',decide_eq_true_eq,decide_eq_false_iff_not] at hg2'
   refine AD.step (v:=(pP b1 2)) (AB rfl) (AA rfl Tryz.underlying30 rfl Tryz.sizeOf24 rfl) rfl (AV rfl) (AD.step (v:=(Value.slice x.c.p ss.length x.c.c)) (AB rfl) (AL (i:=1) (v:=(Value.slice x.c.p ss.length x.c.c)) rfl rfl D5.a rfl) rfl (AV rfl) (AD.step (v:=(vN ss.length)) (AB rfl) (AF rfl Tryz.underlying24) rfl (AV rfl) (AD.step (v:=(pP b2 2)) (AB rfl) (AA rfl Tryz.underlying38 rfl Tryz.sizeOf36 rfl) rfl (AV rfl) (AD.step (v:=(Value.slice y.c.p vs.length y.c.c)) (AB rfl) (AL (i:=0) (v:=(Value.slice y.c.p vs.length y.c.c)) rfl rfl ME.a rfl) rfl (AV rfl) (AD.step (v:=(vN vs.length)) (AB rfl) (AF rfl Tryz.underlying36) rfl (AV rfl) ?_)))))
   exact AD.step (v:=(Value.bool (decide (ss.length≠vs.length)))) (AB rfl) (Bk (c:=(decide (ss.length≠vs.length))) rfl rfl (Ts (a:=ss.length) (b:=vs.length))) rfl (AV rfl) (AK (v:=(Value.bool (decide (ss.length≠vs.length)))) (AR rfl rfl) rfl (AD.nil (AC.mid (sS rfl (sS rfl (sS rfl (sS rfl (sS rfl (sS rfl (sS rfl (sS rfl (sS rfl (sS rfl (sS rfl (sS rfl (sS (by first|rfl|(rw [hg2];rfl)|rw [hg2]) (sS (by first|rfl|(rw [hg2];rfl)|rw [hg2]) (sN))))))))))))))) (List.Sublist.refl _))))
 refine AD.nil (AC.subF (sL [2,3,4,32] rfl) (AC.then_ ?_))
 refine AE.cond rfl (λhc0=>?_) (λhc0=>?_)
 ·simp only [Bool.and_eq_true,Bool.or_eq_true,Bool.and_eq_false_iff,Bool.or_eq_false_iff,Bool.not_eq_true',Bool.not_eq_false',decide_eq_true_eq,decide_eq_false_iff_not] at hc0
  have hne:¬(ps=qs/\ts=us/\ss=vs):=λh=>by obtain ⟨rfl,rfl,rfl⟩:=h;grind
  exact q4 (asg' rfl (AD.nil (AC.then_ (AE.ret (AC.then_ret (AJ rfl (AS (v:=(Value.bool false)) rfl) (λw hw=>⟨by rw [decide_eq_false hne],hw.out⟩)))))))
 ·simp only [Bool.and_eq_true,Bool.or_eq_true,Bool.and_eq_false_iff,Bool.or_eq_false_iff,Bool.not_eq_true',Bool.not_eq_false',decide_eq_true_eq,decide_eq_false_iff_not] at hc0
  have hl1:ps.length=qs.length:=by grind
  have hl2:ts.length=us.length:=by grind
  have hl3:ss.length=vs.length:=by grind
  refine AE.skip (q1 (q4 (asg' rfl (AD.nil (AC.then_ ?_)))))
  refine AE.block ?_
  refine AE.lp1 (tg λ(i:Nat)=>i<=ps.length/\∀k,k<i->ps.getD k (⟨0,0⟩:Pt)=qs.getD k (⟨0,0⟩:Pt)) (tg λ(i:Nat)=>[(2,(pP b1 0)),(3,(pP b2 0)),(5,(vN i))]) (tg λ(i:Nat)=>(Ad b2 38 (Lm y)::Ad b1 30 (B8 x)::AG x.a.p (rowsL Af ps)::AG x.b.p (rowsL Ag ts)::AG x.c.p (rowsL Ag ss)::AG y.a.p (rowsL Cz y.rs)::AG y.b.p (rowsL Ag us)::AG y.c.p (rowsL Ag vs)::EW y.rs)) (tg λ(i:Nat)=>ps.length-i) 0 (⟨Nat.zero_le _,λk h=>absurd h (Nat.not_lt_zero _)⟩) (sF rfl) sr (λi hJ=>?_)
  obtain ⟨hi,ei⟩:=hJ
  refine AE.seq (q4 (AQ rfl (AK (v:=(pP b1 0)) (AA rfl Tryz.underlying30 rfl Tryz.sizeOf28 rfl) rfl (BJ 1 (Value.slice x.a.p ps.length x.a.c) CW rfl (AK (v:=(vN ps.length)) (AF rfl Tryz.underlying28) rfl ?_)))))
  refine AK (Ai (c:=(decide (i<ps.length))) rfl rfl (CI (a:=i) (b:=ps.length))) rfl (AD.nil (AC.subF (sL [2,3,5,37] rfl) (AC.then_ ?_)))
  refine AE.cond rfl (λhc1=>?_) (λhc1=>?_)
  ·replace hc1:=of_decide_eq_true hc1
   refine AE.skip (q1 (AE.block (AE.seq (CS [(0,true),(1,true),(2,true),(3,true),(4,true),(5,true),(6,true),(7,true),(8,true),(9,true),(10,false),(11,true)] sr (Ap (v:=(pP b1 0)) rfl (AA rfl Tryz.underlying30 rfl Tryz.sizeOf28 rfl) ?_)))))
   refine Ba 1 (Value.slice x.a.p ps.length x.a.c) CW rfl (BT rfl (Ap (v:=(pP (pB x.a.p) (pO x.a.p+i*10))) rfl (AO (j:=i) rfl rfl x.a.ok Tryz.underlying28 Tryz.sizeOf51 rfl (by omega)) (Ap (v:=(aG (Af (ps.getD i (⟨0,0⟩:Pt))))) rfl (AT (vs:=Af (ps.getD i (⟨0,0⟩:Pt))) (i:=2) rfl rfl (A7.ne x.a.ok (by omega)) BM (Aq Av _ _ _ (by omega)) (Av _)) (Ap (v:=(pP b2 0)) rfl (AA rfl Tryz.underlying38 rfl Tryz.sizeOf35 rfl) (Ba 0 (Value.slice y.a.p y.rs.length y.a.c) Vj rfl ?_)))))
   refine BT rfl (Ap (v:=(pP (pB y.a.p) (pO y.a.p+i*6))) rfl (AO (j:=i) rfl rfl y.a.ok Tryz.underlying35 Tryz.sizeOf83 rfl (by omega)) (Ap (v:=(aG (QV ((y.rs.getD i Uz).x)))) rfl (AT (vs:=QV ((y.rs.getD i Uz).x)) (i:=5) rfl rfl (A7.ne y.a.ok (by omega)) Xk (Aq IZ Uz _ _ (by omega)) (IZ _)) (OkE.imp rfl (CN Tryz.call31 (λw hw=>Vg (ps.getD i (⟨0,0⟩:Pt)) ((y.rs.getD i Uz).x) (hz1 _ (by omega)) (hz2 _ (by omega)) w (Xo (S:=S) (L:=(Ad b2 38 (Lm y)::Ad b1 30 (B8 x)::AG x.a.p (rowsL Af ps)::AG x.b.p (rowsL Ag ts)::AG x.c.p (rowsL Ag ss)::AG y.a.p (rowsL Cz y.rs)::AG y.b.p (rowsL Ag us)::AG y.c.p (rowsL Ag vs)::EW y.rs)) (rs:=y.rs) hw (λz hz=>List.mem_append_right [Ad b2 38 (Lm y),Ad b1 30 (B8 x),AG x.a.p (rowsL Af ps),AG x.b.p (rowsL Ag ts),AG x.c.p (rowsL Ag ss),AG y.a.p (rowsL Cz y.rs),AG y.b.p (rowsL Ag us),AG y.c.p (rowsL Ag vs)] hz) (by omega) (At.rpt ly)) (hT.below hw.out)) rfl (OkE.back sr ?_)))))
   refine Ap rfl (BF (c:=(!(decide (ps.getD i (⟨0,0⟩:Pt)=(y.rs.getD i Uz).p)))) rfl rfl) (OkE.nil (AC.subF (sL [2,3,5,51] rfl) (AC.then_ ?_)))
   refine AE.cond rfl (λhc2=>?_) (λhc2=>?_)
   ·simp only [Bool.and_eq_true,Bool.or_eq_true,Bool.and_eq_false_iff,Bool.or_eq_false_iff,Bool.not_eq_true',Bool.not_eq_false',decide_eq_true_eq,decide_eq_false_iff_not] at hc2
    have hne:¬(ps=qs/\ts=us/\ss=vs):=λh=>Ec (d:=(⟨0,0⟩:Pt)) (i:=i) (xs:=ps) (ys:=qs) (by rw [<-y.at (by omega)];grind) h.1
    refine q4 (asg' rfl (AD.nil (AC.then_ (AE.ret (AC.in_ret ?_)))))
    exact AC.then_ret (AC.round1_ret (AC.in_ret (AC.then_ret (AJ rfl (AS (v:=(Value.bool false)) rfl) (λw hw=>⟨by rw [decide_eq_false hne],hw.out⟩)))))
   ·simp only [Bool.and_eq_true,Bool.or_eq_true,Bool.and_eq_false_iff,Bool.or_eq_false_iff,Bool.not_eq_true',Bool.not_eq_false',decide_eq_true_eq,decide_eq_false_iff_not] at hc2
    have hei:ps.getD i (⟨0,0⟩:Pt)=qs.getD i (⟨0,0⟩:Pt):=by rw [<-y.at (by omega)];grind
    refine AE.skip (AC.in_normal (AC.then_ (AE.region (AQ rfl (AK (Ac (c:=((i+1:Nat):Int)) rfl rfl (Ae (a:=i) (b:=1) (by omega))) rfl ?_)))))
    exact asg' rfl (AD.nil (AC.subF (sL [2,3,5] rfl) (AC.round1 (i+1) (⟨by omega,λk hk=>by rcases Nat.lt_or_ge k i with q|q;exact ei k q;rw [show k=i by omega];exact hei⟩) (by omega) (sF rfl) sr)))
  ·replace hc1:=of_decide_eq_false hc1
   have hE1:ps=qs:=Ez (d:=(⟨0,0⟩:Pt)) hl1 λk hk=>ei k (by omega)
   refine AE.exit (AC.then_exit (AC.round1_exit (AC.in_exit (q1 (q4 ?_)))))
   refine asg' rfl (AD.nil (AC.then_ (AE.block ?_)))
   refine AE.lp1 (tg λ(j:Nat)=>j<=ts.length/\∀k,k<j->ts.getD k ((0,0,0):Z3)=us.getD k ((0,0,0):Z3)) (tg λ(j:Nat)=>[(2,(pP b1 0)),(3,(pP b2 0)),(6,(vN j))]) (tg λ(j:Nat)=>(Ad b2 38 (Lm y)::Ad b1 30 (B8 x)::AG x.a.p (rowsL Af ps)::AG x.b.p (rowsL Ag ts)::AG x.c.p (rowsL Ag ss)::AG y.a.p (rowsL Cz y.rs)::AG y.b.p (rowsL Ag us)::AG y.c.p (rowsL Ag vs)::EW y.rs)) (tg λ(j:Nat)=>ts.length-j) 0 (⟨Nat.zero_le _,λk h=>absurd h (Nat.not_lt_zero _)⟩) (sF rfl) sr (λj hJ=>?_)
   obtain ⟨hj,ej⟩:=hJ
   refine AE.seq (q4 (AQ rfl (AK (v:=(pP b1 1)) (AA rfl Tryz.underlying30 rfl Tryz.sizeOf23 rfl) rfl (BJ 1 (Value.slice x.b.p ts.length x.b.c) DG rfl (AK (v:=(vN ts.length)) (AF rfl Tryz.underlying23) rfl ?_)))))
   refine AK (Ai (c:=(decide (j<ts.length))) rfl rfl (CI (a:=j) (b:=ts.length))) rfl (AD.nil (AC.subF (sL [2,3,6,56] rfl) (AC.then_ ?_)))
   refine AE.cond rfl (λhc3=>?_) (λhc3=>?_)
   ·replace hc3:=of_decide_eq_true hc3
    refine AE.skip (q1 (AE.block (AE.seq (CS [(0,true),(1,true),(2,true),(3,true),(4,true),(5,true),(6,true),(7,true),(8,true),(9,true),(10,true)] sr (Ap (v:=(pP b1 1)) rfl (AA rfl Tryz.underlying30 rfl Tryz.sizeOf23 rfl) ?_)))))
    refine Ba 1 (Value.slice x.b.p ts.length x.b.c) DG rfl (BT rfl (Ap (v:=(pP (pB x.b.p) (pO x.b.p+j*3))) rfl (AO (j:=j) rfl rfl x.b.ok Tryz.underlying23 Tryz.sizeOf53 rfl (by omega)) (Ap (v:=(aG (Ag (ts.getD j ((0,0,0):Z3))))) rfl (AT (vs:=Ag (ts.getD j ((0,0,0):Z3))) (i:=3) rfl rfl (A7.ne x.b.ok (by omega)) Gx (Aq Ar _ _ _ (by omega)) (Ar _)) (Ap (v:=(pP b2 1)) rfl (AA rfl Tryz.underlying38 rfl Tryz.sizeOf23 rfl) (Ba 0 (Value.slice y.b.p us.length y.b.c) DG rfl ?_)))))
    refine BT rfl (Ap (v:=(pP (pB y.b.p) (pO y.b.p+j*3))) rfl (AO (j:=j) rfl rfl y.b.ok Tryz.underlying23 Tryz.sizeOf53 rfl (by omega)) (Ap (v:=(aG (Ag (us.getD j ((0,0,0):Z3))))) rfl (AT (vs:=Ag (us.getD j ((0,0,0):Z3))) (i:=6) rfl rfl (A7.ne y.b.ok (by omega)) Gx (Aq Ar _ _ _ (by omega)) (Ar _)) (Ap rfl (K3 (c:=decide (ts.getD j ((0,0,0):Z3)=us.getD j ((0,0,0):Z3))) rfl rfl Tryz.eqGuardType53 (Sd 9998 (ts.getD j ((0,0,0):Z3)) (us.getD j ((0,0,0):Z3))) (show (!decide (ts.getD j ((0,0,0):Z3)=us.getD j ((0,0,0):Z3)))=decide (ts.getD j ((0,0,0):Z3)≠us.getD j ((0,0,0):Z3)) from decide_not.symm)) (OkE.nil (AC.subF (sL [2,3,6,69] rfl) ?_)))))
    refine AC.then_ ?_
    refine AE.cond rfl (λhc4=>?_) (λhc4=>?_)
    ·replace hc4:=of_decide_eq_true hc4
     have hne:¬(ps=qs/\ts=us/\ss=vs):=λh=>Ec (d:=((0,0,0):Z3)) (i:=j) (xs:=ts) (ys:=us) (by grind) h.2.1
     refine q4 (asg' rfl (AD.nil (AC.then_ (AE.ret (AC.in_ret ?_)))))
     exact AC.then_ret (AC.round1_ret (AC.in_ret (AC.then_ret (AJ rfl (AS (v:=(Value.bool false)) rfl) (λw hw=>⟨by rw [decide_eq_false hne],hw.out⟩)))))
    ·replace hc4:=of_decide_eq_false hc4
     have hej:ts.getD j ((0,0,0):Z3)=us.getD j ((0,0,0):Z3):=by grind
     refine AE.skip (AC.in_normal (AC.then_ (AE.region (AQ rfl (AK (Ac (c:=((j+1:Nat):Int)) rfl rfl (Ae (a:=j) (b:=1) (by omega))) rfl ?_)))))
     exact asg' rfl (AD.nil (AC.subF (sL [2,3,6] rfl) (AC.round1 (j+1) (⟨by omega,λk hk=>by rcases Nat.lt_or_ge k j with q|q;exact ej k q;rw [show k=j by omega];exact hej⟩) (by omega) (sF rfl) sr)))
   ·replace hc3:=of_decide_eq_false hc3
    have hE2:ts=us:=Ez (d:=((0,0,0):Z3)) hl2 λk hk=>ej k (by omega)
    refine AE.exit (AC.then_exit (AC.round1_exit (AC.in_exit (q1 (q4 ?_)))))
    refine asg' rfl (AD.nil (AC.then_ (AE.block ?_)))
    refine AE.lp1 (tg λ(l:Nat)=>l<=ss.length/\∀k,k<l->ss.getD k ((0,0,0):Z3)=vs.getD k ((0,0,0):Z3)) (tg λ(l:Nat)=>[(2,(pP b1 0)),(3,(pP b2 0)),(7,(vN l))]) (tg λ(l:Nat)=>(Ad b2 38 (Lm y)::Ad b1 30 (B8 x)::AG x.a.p (rowsL Af ps)::AG x.b.p (rowsL Ag ts)::AG x.c.p (rowsL Ag ss)::AG y.a.p (rowsL Cz y.rs)::AG y.b.p (rowsL Ag us)::AG y.c.p (rowsL Ag vs)::EW y.rs)) (tg λ(l:Nat)=>ss.length-l) 0 (⟨Nat.zero_le _,λk h=>absurd h (Nat.not_lt_zero _)⟩) (sF rfl) sr (λl hJ=>?_)
    obtain ⟨hl,el⟩:=hJ
    refine AE.seq (q4 (AQ rfl (AK (v:=(pP b1 2)) (AA rfl Tryz.underlying30 rfl Tryz.sizeOf24 rfl) rfl (BJ 1 (Value.slice x.c.p ss.length x.c.c) D5 rfl (AK (v:=(vN ss.length)) (AF rfl Tryz.underlying24) rfl ?_)))))
    refine AK (Ai (c:=(decide (l<ss.length))) rfl rfl (CI (a:=l) (b:=ss.length))) rfl (AD.nil (AC.subF (sL [2,3,7,74] rfl) (AC.then_ ?_)))
    refine AE.cond rfl (λhc5=>?_) (λhc5=>?_)
    ·replace hc5:=of_decide_eq_true hc5
     refine AE.skip (q1 (AE.block (AE.seq ?_)))
     by_cases q1:(ss.getD l ((0,0,0):Z3)).1=(vs.getD l ((0,0,0):Z3)).1
     ·skip
      by_cases q2:(ss.getD l ((0,0,0):Z3)).2.1=(vs.getD l ((0,0,0):Z3)).2.1
      ·skip
       refine CS [(0,true),(1,true),(2,true),(3,true),(4,true),(5,true),(6,true),(7,true),(8,true),(9,true),(10,true),(11,true),(12,true),(13,true),(14,true),(15,true),(16,true),(17,true),(18,true),(19,true),(20,true),(21,true),(22,true),(23,true),(24,true),(25,true),(26,true),(27,true),(28,true),(29,true),(30,true),(31,true),(32,true),(33,true),(34,true),(35,true),(36,true),(37,true),(38,true),(39,true),(40,true),(41,true),(42,true)] sr (Ap (v:=(pP b1 2)) rfl (AA rfl Tryz.underlying30 rfl Tryz.sizeOf24 rfl) (Ba 1 (Value.slice x.c.p ss.length x.c.c) D5 rfl (BT rfl (Ap (v:=(pP (pB x.c.p) (pO x.c.p+l*3))) rfl (AO (j:=l) rfl rfl x.c.ok Tryz.underlying24 Tryz.sizeOf55 rfl (by omega)) (Ap (v:=(pP (pB x.c.p) (pO x.c.p+(l*3+0)))) rfl (AA rfl Tryz.underlying55 rfl Tryz.sizeOf3 (Nat.add_assoc _ _ _)) ?_)))))
       refine Ap rfl (Ah (v:=(vI ((ss.getD l ((0,0,0):Z3)).1))) (i:=4) rfl rfl (A7.ne x.c.ok (by omega)) Bo (Bn Ar ((0,0,0):Z3) _ _ 0 (by omega) (by decide) rfl)) (Ap (v:=(pP b2 2)) rfl (AA rfl Tryz.underlying38 rfl Tryz.sizeOf36 rfl) (Ba 0 (Value.slice y.c.p vs.length y.c.c) ME rfl (BT rfl (Ap (v:=(pP (pB y.c.p) (pO y.c.p+l*3))) rfl (AO (j:=l) rfl rfl y.c.ok Tryz.underlying36 Tryz.sizeOf115 rfl (by omega)) (Ap (v:=(pP (pB y.c.p) (pO y.c.p+(l*3+0)))) rfl (AA rfl Tryz.underlying115 rfl Tryz.sizeOf3 (Nat.add_assoc _ _ _)) ?_)))))
       refine Ap rfl (Ah (v:=(vI ((vs.getD l ((0,0,0):Z3)).1))) (i:=7) rfl rfl (A7.ne y.c.ok (by omega)) Bo (Bn Ar ((0,0,0):Z3) _ _ 0 (by omega) (by decide) rfl)) (Ap rfl (Bk (c:=false) rfl rfl (decide_eq_false λh=>h q1)) (BT rfl (OkE.pas (v:=(pP b1 2)) rfl (AB rfl) (AA rfl Tryz.underlying30 rfl Tryz.sizeOf24 rfl) rfl rfl (OkE.pas (v:=(Value.slice x.c.p ss.length x.c.c)) rfl (AB rfl) (AL (i:=1) (v:=(Value.slice x.c.p ss.length x.c.c)) rfl rfl D5.a rfl) rfl rfl (OkE.pas (v:=(vN l)) rfl (AB rfl) (A9 rfl) rfl rfl ?_)))))
       refine OkE.pas (v:=(pP (pB x.c.p) (pO x.c.p+l*3))) rfl (AB rfl) (AO (j:=l) rfl rfl x.c.ok Tryz.underlying24 Tryz.sizeOf55 rfl (by omega)) rfl rfl (OkE.pas (v:=(pP (pB x.c.p) (pO x.c.p+(l*3+1)))) rfl (AB rfl) (AA rfl Tryz.underlying55 rfl Tryz.sizeOf3 (Nat.add_assoc _ _ _)) rfl rfl (OkE.pas (v:=(vI ((ss.getD l ((0,0,0):Z3)).2.1))) rfl (AB rfl) (Ah (v:=(vI ((ss.getD l ((0,0,0):Z3)).2.1))) (i:=4) rfl rfl (A7.ne x.c.ok (by omega)) Bo (Bn Ar ((0,0,0):Z3) _ _ 1 (by omega) (by decide) rfl)) rfl rfl (OkE.pas (v:=(pP b2 2)) rfl (AB rfl) (AA rfl Tryz.underlying38 rfl Tryz.sizeOf36 rfl) rfl rfl (OkE.pas (v:=(Value.slice y.c.p vs.length y.c.c)) rfl (AB rfl) (AL (i:=0) (v:=(Value.slice y.c.p vs.length y.c.c)) rfl rfl ME.a rfl) rfl rfl (OkE.pas (v:=(vN l)) rfl (AB rfl) (A9 rfl) rfl rfl ?_)))))
       refine OkE.pas (v:=(pP (pB y.c.p) (pO y.c.p+l*3))) rfl (AB rfl) (AO (j:=l) rfl rfl y.c.ok Tryz.underlying36 Tryz.sizeOf115 rfl (by omega)) rfl rfl (OkE.pas (v:=(pP (pB y.c.p) (pO y.c.p+(l*3+1)))) rfl (AB rfl) (AA rfl Tryz.underlying115 rfl Tryz.sizeOf3 (Nat.add_assoc _ _ _)) rfl rfl (OkE.pas (v:=(vI ((vs.getD l ((0,0,0):Z3)).2.1))) rfl (AB rfl) (Ah (v:=(vI ((vs.getD l ((0,0,0):Z3)).2.1))) (i:=7) rfl rfl (A7.ne y.c.ok (by omega)) Bo (Bn Ar ((0,0,0):Z3) _ _ 1 (by omega) (by decide) rfl)) rfl rfl (OkE.pas (v:=(Value.bool false)) rfl (AB rfl) (Bk (c:=false) rfl rfl (decide_eq_false λh=>h q2)) rfl rfl (Ap (v:=(Value.bool false)) rfl (AR rfl rfl) (BT rfl ?_)))))
       refine OkE.pas (v:=(pP b1 2)) rfl (AB rfl) (AA rfl Tryz.underlying30 rfl Tryz.sizeOf24 rfl) rfl rfl (OkE.pas (v:=(Value.slice x.c.p ss.length x.c.c)) rfl (AB rfl) (AL (i:=1) (v:=(Value.slice x.c.p ss.length x.c.c)) rfl rfl D5.a rfl) rfl rfl (OkE.pas (v:=(vN l)) rfl (AB rfl) (A9 rfl) rfl rfl (OkE.pas (v:=(pP (pB x.c.p) (pO x.c.p+l*3))) rfl (AB rfl) (AO (j:=l) rfl rfl x.c.ok Tryz.underlying24 Tryz.sizeOf55 rfl (by omega)) rfl rfl (OkE.pas (v:=(pP (pB x.c.p) (pO x.c.p+(l*3+2)))) rfl (AB rfl) (AA rfl Tryz.underlying55 rfl Tryz.sizeOf3 (Nat.add_assoc _ _ _)) rfl rfl (OkE.pas (v:=(vI ((ss.getD l ((0,0,0):Z3)).2.2))) rfl (AB rfl) (Ah (v:=(vI ((ss.getD l ((0,0,0):Z3)).2.2))) (i:=4) rfl rfl (A7.ne x.c.ok (by omega)) Bo (Bn Ar ((0,0,0):Z3) _ _ 2 (by omega) (by decide) rfl)) rfl rfl ?_)))))
       refine OkE.pas (v:=(pP b2 2)) rfl (AB rfl) (AA rfl Tryz.underlying38 rfl Tryz.sizeOf36 rfl) rfl rfl (OkE.pas (v:=(Value.slice y.c.p vs.length y.c.c)) rfl (AB rfl) (AL (i:=0) (v:=(Value.slice y.c.p vs.length y.c.c)) rfl rfl ME.a rfl) rfl rfl (OkE.pas (v:=(vN l)) rfl (AB rfl) (A9 rfl) rfl rfl (OkE.pas (v:=(pP (pB y.c.p) (pO y.c.p+l*3))) rfl (AB rfl) (AO (j:=l) rfl rfl y.c.ok Tryz.underlying36 Tryz.sizeOf115 rfl (by omega)) rfl rfl (OkE.pas (v:=(pP (pB y.c.p) (pO y.c.p+(l*3+2)))) rfl (AB rfl) (AA rfl Tryz.underlying115 rfl Tryz.sizeOf3 (Nat.add_assoc _ _ _)) rfl rfl (OkE.pas (v:=(vI ((vs.getD l ((0,0,0):Z3)).2.2))) rfl (AB rfl) (Ah (v:=(vI ((vs.getD l ((0,0,0):Z3)).2.2))) (i:=7) rfl rfl (A7.ne y.c.ok (by omega)) Bo (Bn Ar ((0,0,0):Z3) _ _ 2 (by omega) (by decide) rfl)) rfl rfl ?_)))))
       refine OkE.pas (v:=(Value.bool (decide (((ss.getD l ((0,0,0):Z3)).2.2)≠((vs.getD l ((0,0,0):Z3)).2.2))))) rfl (AB rfl) (Bk (c:=(decide (((ss.getD l ((0,0,0):Z3)).2.2)≠((vs.getD l ((0,0,0):Z3)).2.2)))) rfl rfl rfl) rfl rfl (Ap (v:=(Value.bool (decide (((ss.getD l ((0,0,0):Z3)).2.2)≠((vs.getD l ((0,0,0):Z3)).2.2))))) rfl (AR rfl rfl) (OkE.nil (AC.subF (sL [2,3,7,119] rfl) (AC.then_ ?_))))
       refine AE.cond rfl (λhc6=>?_) (λhc6=>?_)
       ·replace hc6:=of_decide_eq_true hc6
        have hne:¬(ps=qs/\ts=us/\ss=vs):=λh=>Ec (d:=((0,0,0):Z3)) (i:=l) (xs:=ss) (ys:=vs) (by grind) h.2.2
        refine q4 (asg' rfl (AD.nil (AC.then_ (AE.ret (AC.in_ret ?_)))))
        exact AC.then_ret (AC.round1_ret (AC.in_ret (AC.then_ret (AJ rfl (AS (v:=(Value.bool false)) rfl) (λw hw=>⟨by rw [decide_eq_false hne],hw.out⟩)))))
       ·replace hc6:=of_decide_eq_false hc6
        have hel:ss.getD l ((0,0,0):Z3)=vs.getD l ((0,0,0):Z3):=Prod.ext (by grind) (Prod.ext (by grind) (by grind))
        refine AE.skip (AC.in_normal (AC.then_ (AE.region (AQ rfl (AK (Ac (c:=((l+1:Nat):Int)) rfl rfl (Ae (a:=l) (b:=1) (by omega))) rfl ?_)))))
        exact asg' rfl (AD.nil (AC.subF (sL [2,3,7] rfl) (AC.round1 (l+1) (⟨by omega,λk hk=>by rcases Nat.lt_or_ge k l with q|q;exact el k q;rw [show k=l by omega];exact hel⟩) (by omega) (sF rfl) sr)))
      ·skip
       have hne:¬(ps=qs/\ts=us/\ss=vs):=λh=>Ec (d:=((0,0,0):Z3)) (i:=l) (xs:=ss) (ys:=vs) (λe=>q2 (by rw [e])) h.2.2
       refine CS [(0,true),(1,true),(2,true),(3,true),(4,true),(5,true),(6,true),(7,true),(8,true),(9,true),(10,true),(11,true),(12,true),(13,true),(14,true),(15,true),(16,true),(17,true),(18,true),(19,true),(20,true),(21,true),(22,true),(23,true),(24,true),(25,true),(26,true),(27,true),(28,true),(29,true),(30,true),(31,true),(32,true),(33,true),(34,true),(35,true),(36,true),(37,true),(38,true),(39,true),(40,true),(41,true),(42,true)] sr (Ap (v:=(pP b1 2)) rfl (AA rfl Tryz.underlying30 rfl Tryz.sizeOf24 rfl) (Ba 1 (Value.slice x.c.p ss.length x.c.c) D5 rfl (BT rfl (Ap (v:=(pP (pB x.c.p) (pO x.c.p+l*3))) rfl (AO (j:=l) rfl rfl x.c.ok Tryz.underlying24 Tryz.sizeOf55 rfl (by omega)) (Ap (v:=(pP (pB x.c.p) (pO x.c.p+(l*3+0)))) rfl (AA rfl Tryz.underlying55 rfl Tryz.sizeOf3 (Nat.add_assoc _ _ _)) ?_)))))
       refine Ap rfl (Ah (v:=(vI ((ss.getD l ((0,0,0):Z3)).1))) (i:=4) rfl rfl (A7.ne x.c.ok (by omega)) Bo (Bn Ar ((0,0,0):Z3) _ _ 0 (by omega) (by decide) rfl)) (Ap (v:=(pP b2 2)) rfl (AA rfl Tryz.underlying38 rfl Tryz.sizeOf36 rfl) (Ba 0 (Value.slice y.c.p vs.length y.c.c) ME rfl (BT rfl (Ap (v:=(pP (pB y.c.p) (pO y.c.p+l*3))) rfl (AO (j:=l) rfl rfl y.c.ok Tryz.underlying36 Tryz.sizeOf115 rfl (by omega)) (Ap (v:=(pP (pB y.c.p) (pO y.c.p+(l*3+0)))) rfl (AA rfl Tryz.underlying115 rfl Tryz.sizeOf3 (Nat.add_assoc _ _ _)) ?_)))))
       refine Ap rfl (Ah (v:=(vI ((vs.getD l ((0,0,0):Z3)).1))) (i:=7) rfl rfl (A7.ne y.c.ok (by omega)) Bo (Bn Ar ((0,0,0):Z3) _ _ 0 (by omega) (by decide) rfl)) (Ap rfl (Bk (c:=false) rfl rfl (decide_eq_false λh=>h q1)) (BT rfl (OkE.pas (v:=(pP b1 2)) rfl (AB rfl) (AA rfl Tryz.underlying30 rfl Tryz.sizeOf24 rfl) rfl rfl (OkE.pas (v:=(Value.slice x.c.p ss.length x.c.c)) rfl (AB rfl) (AL (i:=1) (v:=(Value.slice x.c.p ss.length x.c.c)) rfl rfl D5.a rfl) rfl rfl (OkE.pas (v:=(vN l)) rfl (AB rfl) (A9 rfl) rfl rfl ?_)))))
       refine OkE.pas (v:=(pP (pB x.c.p) (pO x.c.p+l*3))) rfl (AB rfl) (AO (j:=l) rfl rfl x.c.ok Tryz.underlying24 Tryz.sizeOf55 rfl (by omega)) rfl rfl (OkE.pas (v:=(pP (pB x.c.p) (pO x.c.p+(l*3+1)))) rfl (AB rfl) (AA rfl Tryz.underlying55 rfl Tryz.sizeOf3 (Nat.add_assoc _ _ _)) rfl rfl (OkE.pas (v:=(vI ((ss.getD l ((0,0,0):Z3)).2.1))) rfl (AB rfl) (Ah (v:=(vI ((ss.getD l ((0,0,0):Z3)).2.1))) (i:=4) rfl rfl (A7.ne x.c.ok (by omega)) Bo (Bn Ar ((0,0,0):Z3) _ _ 1 (by omega) (by decide) rfl)) rfl rfl (OkE.pas (v:=(pP b2 2)) rfl (AB rfl) (AA rfl Tryz.underlying38 rfl Tryz.sizeOf36 rfl) rfl rfl (OkE.pas (v:=(Value.slice y.c.p vs.length y.c.c)) rfl (AB rfl) (AL (i:=0) (v:=(Value.slice y.c.p vs.length y.c.c)) rfl rfl ME.a rfl) rfl rfl (OkE.pas (v:=(vN l)) rfl (AB rfl) (A9 rfl) rfl rfl ?_)))))
       refine OkE.pas (v:=(pP (pB y.c.p) (pO y.c.p+l*3))) rfl (AB rfl) (AO (j:=l) rfl rfl y.c.ok Tryz.underlying36 Tryz.sizeOf115 rfl (by omega)) rfl rfl (OkE.pas (v:=(pP (pB y.c.p) (pO y.c.p+(l*3+1)))) rfl (AB rfl) (AA rfl Tryz.underlying115 rfl Tryz.sizeOf3 (Nat.add_assoc _ _ _)) rfl rfl (OkE.pas (v:=(vI ((vs.getD l ((0,0,0):Z3)).2.1))) rfl (AB rfl) (Ah (v:=(vI ((vs.getD l ((0,0,0):Z3)).2.1))) (i:=7) rfl rfl (A7.ne y.c.ok (by omega)) Bo (Bn Ar ((0,0,0):Z3) _ _ 1 (by omega) (by decide) rfl)) rfl rfl (OkE.pas (v:=(Value.bool true)) rfl (AB rfl) (Bk (c:=true) rfl rfl (decide_eq_true q2)) rfl rfl (Ap (v:=(Value.bool true)) rfl (AR rfl rfl) (BT rfl ?_)))))
       refine OkE.skp rfl (AH rfl) rfl rfl (OkE.skp rfl (AH rfl) rfl rfl (OkE.skp rfl (AH rfl) rfl rfl (OkE.skp rfl (AH rfl) rfl rfl (OkE.skp rfl (AH rfl) rfl rfl (OkE.skp rfl (AH rfl) rfl rfl ?_)))))
       refine OkE.skp rfl (AH rfl) rfl rfl (OkE.skp rfl (AH rfl) rfl rfl (OkE.skp rfl (AH rfl) rfl rfl (OkE.skp rfl (AH rfl) rfl rfl (OkE.skp rfl (AH rfl) rfl rfl (OkE.skp rfl (AH rfl) rfl rfl ?_)))))
       refine OkE.skp rfl (AH rfl) rfl rfl (Ap (v:=(Value.bool true)) rfl (AX rfl rfl) (OkE.nil (AC.subF (sL [2,3,7,119] rfl) (AC.then_ (AE.cond_true rfl ?_)))))
       refine q4 (asg' rfl (AD.nil (AC.subF (sL [2,3,7,4] rfl) (AC.then_ (AE.ret ?_)))))
       exact AC.in_ret (AC.then_ret (AC.round1_ret (AC.in_ret (AC.then_ret (AJ rfl (AS (v:=(Value.bool false)) rfl) (λw hw=>⟨by rw [decide_eq_false hne],hw.out⟩))))))
     ·skip
      have hne:¬(ps=qs/\ts=us/\ss=vs):=λh=>Ec (d:=((0,0,0):Z3)) (i:=l) (xs:=ss) (ys:=vs) (λe=>q1 (by rw [e])) h.2.2
      refine CS [(0,true),(1,true),(2,true),(3,true),(4,true),(5,true),(6,true),(7,true),(8,true),(9,true),(10,true),(11,true),(12,true),(13,true),(14,true),(15,true),(16,true),(17,true),(18,true),(19,true),(20,true),(21,true),(22,true),(23,true),(24,true),(25,true),(26,true),(27,true),(28,true),(29,true),(30,true),(31,true),(32,true),(33,true),(34,true),(35,true),(36,true),(37,true),(38,true),(39,true),(40,true),(41,true),(42,true)] sr (Ap (v:=(pP b1 2)) rfl (AA rfl Tryz.underlying30 rfl Tryz.sizeOf24 rfl) (Ba 1 (Value.slice x.c.p ss.length x.c.c) D5 rfl (BT rfl (Ap (v:=(pP (pB x.c.p) (pO x.c.p+l*3))) rfl (AO (j:=l) rfl rfl x.c.ok Tryz.underlying24 Tryz.sizeOf55 rfl (by omega)) (Ap (v:=(pP (pB x.c.p) (pO x.c.p+(l*3+0)))) rfl (AA rfl Tryz.underlying55 rfl Tryz.sizeOf3 (Nat.add_assoc _ _ _)) ?_)))))
      refine Ap rfl (Ah (v:=(vI ((ss.getD l ((0,0,0):Z3)).1))) (i:=4) rfl rfl (A7.ne x.c.ok (by omega)) Bo (Bn Ar ((0,0,0):Z3) _ _ 0 (by omega) (by decide) rfl)) (Ap (v:=(pP b2 2)) rfl (AA rfl Tryz.underlying38 rfl Tryz.sizeOf36 rfl) (Ba 0 (Value.slice y.c.p vs.length y.c.c) ME rfl (BT rfl (Ap (v:=(pP (pB y.c.p) (pO y.c.p+l*3))) rfl (AO (j:=l) rfl rfl y.c.ok Tryz.underlying36 Tryz.sizeOf115 rfl (by omega)) (Ap (v:=(pP (pB y.c.p) (pO y.c.p+(l*3+0)))) rfl (AA rfl Tryz.underlying115 rfl Tryz.sizeOf3 (Nat.add_assoc _ _ _)) ?_)))))
      refine Ap rfl (Ah (v:=(vI ((vs.getD l ((0,0,0):Z3)).1))) (i:=7) rfl rfl (A7.ne y.c.ok (by omega)) Bo (Bn Ar ((0,0,0):Z3) _ _ 0 (by omega) (by decide) rfl)) (Ap rfl (Bk (c:=true) rfl rfl (decide_eq_true q1)) (BT rfl (OkE.skp rfl (AH rfl) rfl rfl (OkE.skp rfl (AH rfl) rfl rfl (OkE.skp rfl (AH rfl) rfl rfl ?_)))))
      refine OkE.skp rfl (AH rfl) rfl rfl (OkE.skp rfl (AH rfl) rfl rfl (OkE.skp rfl (AH rfl) rfl rfl (OkE.skp rfl (AH rfl) rfl rfl (OkE.skp rfl (AH rfl) rfl rfl (OkE.skp rfl (AH rfl) rfl rfl ?_)))))
      refine OkE.skp rfl (AH rfl) rfl rfl (OkE.skp rfl (AH rfl) rfl rfl (OkE.skp rfl (AH rfl) rfl rfl (OkE.skp rfl (AH rfl) rfl rfl (Ap (v:=(Value.bool true)) rfl (AX rfl rfl) (BT rfl ?_)))))
      refine OkE.skp rfl (AH rfl) rfl rfl (OkE.skp rfl (AH rfl) rfl rfl (OkE.skp rfl (AH rfl) rfl rfl (OkE.skp rfl (AH rfl) rfl rfl (OkE.skp rfl (AH rfl) rfl rfl (OkE.skp rfl (AH rfl) rfl rfl ?_)))))
      refine OkE.skp rfl (AH rfl) rfl rfl (OkE.skp rfl (AH rfl) rfl rfl (OkE.skp rfl (AH rfl) rfl rfl (OkE.skp rfl (AH rfl) rfl rfl (OkE.skp rfl (AH rfl) rfl rfl (OkE.skp rfl (AH rfl) rfl rfl ?_)))))
      refine OkE.skp rfl (AH rfl) rfl rfl (Ap (v:=(Value.bool true)) rfl (AX rfl rfl) (OkE.nil (AC.subF (sL [2,3,7,119] rfl) (AC.then_ (AE.cond_true rfl ?_)))))
      refine q4 (asg' rfl (AD.nil (AC.subF (sL [2,3,7,4] rfl) (AC.then_ (AE.ret ?_)))))
      exact AC.in_ret (AC.then_ret (AC.round1_ret (AC.in_ret (AC.then_ret (AJ rfl (AS (v:=(Value.bool false)) rfl) (λw hw=>⟨by rw [decide_eq_false hne],hw.out⟩))))))
    ·replace hc5:=of_decide_eq_false hc5
     have hE3:ss=vs:=Ez (d:=((0,0,0):Z3)) hl3 λk hk=>el k (by omega)
     have heq:ps=qs/\ts=us/\ss=vs:=⟨hE1,hE2,hE3⟩
     refine AE.exit (AC.then_exit (AC.round1_exit (AC.in_exit (q2 (asg' rfl ?_)))))
     exact AD.nil (AC.then_ (AE.ret (AJ rfl (AS (v:=(Value.bool true)) rfl) (λw hw=>⟨by rw [decide_eq_true heq],hw.out⟩))))
end
section
theorem F4 (b n:Nat):A7 (some ⟨b,0,none⟩) n n:=⟨λe=>(by cases e),λa e=>(by injection e with e;subst e;rfl),Nat.le_refl _⟩
theorem VR {ps:List Pt} {k:Nat} (h:(ps.all λp=>decide (B3 p<=k))=true) (h0:B3 (⟨0,0⟩:Pt)<=k) (i:Nat):B3 (C2 ps i)<=k:=by
  unfold C2
  rcases Nat.lt_or_ge i ps.length with hi|hi
  · rw [List.getD,List.getElem?_eq_getElem hi]
    exact of_decide_eq_true (List.all_eq_true.1 h _ (List.getElem_mem hi))
  · rw [List.getD,List.getElem?_eq_none hi];exact h0
section
variable {P:Program} {ops:Array Oper} {rest:List Oper} {Q:Exit->Act->World->Prop} {n:Nat} {F:List (Nat×Value)} {w0:A_} {S:Nat->Prop} {L:List As} {ps:List Pt} {ts ss:List T3}
theorem Kf {w:World} {i b:Nat} {T:TypeId} {cs:List Value} (hw:BE w0 w L) (hi:L[i]?=some (Ad b T cs)) (hex:w0.ex=none):w0.w.heap.size<=b:=by
  rcases (hw.2.1 _ (List.mem_of_getElem? hi) b rfl).1 with h1|h1|h1
  · cases h1
  · exact h1
  · rw [hex] at h1;cases h1
theorem AD.litM {b1 b2 b3 U1 U2 U3:Nat} {cs1 cs2 cs3:List Value} (LL:MX ps ts ss->List As) (i j k:Nat) (hn:i≠j/\i≠k/\j≠k) (h1:L[i]?=some (Ad b1 U1 cs1)) (h2:L[j]?=some (Ad b2 U2 cs2)) (h3:L[k]?=some (Ad b3 U3 cs3)) (hex:w0.ex=none)
    (e:(cs1,cs2,cs3)=(rowsL Af ps,rowsL BA ts,rowsL BA ss))
    (hL:((L.set i (AG (some ⟨b1,0,none⟩) cs1)).set j (AG (some ⟨b2,0,none⟩) cs2)).set k (AG (some ⟨b3,0,none⟩) cs3)=LL ⟨⟨some ⟨b1,0,none⟩,ps.length,F4 _ _⟩,⟨some ⟨b2,0,none⟩,ts.length,F4 _ _⟩,⟨some ⟨b3,0,none⟩,ss.length,F4 _ _⟩⟩)
    (next:∀mm:MX ps ts ss,At w0 S mm->AD P ops rest Q n F w0 (LL mm)):AD P ops rest Q n F w0 L:=λa w ha hw=>by
  have n1:=Kf hw h1 hex
  have n2:=Kf hw h2 hex
  have n3:=Kf hw h3 hex
  have w1:=hw.freeze (x:=Ad b1 U1 cs1) (y:=AG (some ⟨b1,0,none⟩) cs1) h1 rfl (λo hp=>Eu hp) (λe=>by cases e)
  have w2:=w1.freeze (i:=j) (x:=Ad b2 U2 cs2) (y:=AG (some ⟨b2,0,none⟩) cs2) (by rw [List.getElem?_set_ne hn.1];exact h2) rfl (λo hp=>Eu hp) (λe=>by cases e)
  have w3:=w2.freeze (i:=k) (x:=Ad b3 U3 cs3) (y:=AG (some ⟨b3,0,none⟩) cs3) (by rw [List.getElem?_set_ne hn.2.2,List.getElem?_set_ne hn.2.1];exact h3) rfl (λo hp=>Eu hp) (λe=>by cases e)
  rw [hL] at w3
  refine next _ (λy hy b eb=>?_) a w ha w3
  have hy:y∈[AG (some ⟨b1,0,none⟩) (rowsL Af ps),AG (some ⟨b2,0,none⟩) (rowsL BA ts),AG (some ⟨b3,0,none⟩) (rowsL BA ss)]:=hy
  simp only [List.mem_cons,List.not_mem_nil,or_false] at hy
  rcases hy with rfl|rfl|rfl<;>(injection eb with eb;subst eb;exact .inl (by assumption))
end
theorem XF {α:Type} [Cy α] {w0:A_} {w:World} {S:Nat->Prop} {L:List As} (hw:BE w0 w L) (is:List Nat) {a:α} (hi:(is.map λi=>L[i]?)=(Cy.rows a).map some) (ha:At w0 S a):Ro (SL w0 S L) w a:=λy hy=>by
  have h1:some y∈(is.map λi=>L[i]?):=by rw [hi];exact List.mem_map.2 ⟨y,hy,rfl⟩
  obtain ⟨i,_,h2⟩:=List.mem_map.1 h1
  have hm:=List.mem_of_getElem? h2
  exact ⟨λb e=>(hw.2.1 y hm b e).2,λb e=>⟨⟨y,hm,Cy.ro a y hy,e⟩,ha y hy b e⟩⟩
end
def Sk (p q:Pt):Prop:=p.x<q.x\/(p.x=q.x/\p.y<q.y)
instance (p q:Pt):Decidable (Sk p q):=by unfold Sk;infer_instance
theorem WB {p q:Pt} (h:Ft p.x q.x≠0):decide (Ft p.x q.x<0)=decide (Sk p q):=by
  have h2:¬p.x=q.x:=λe=>h (Ox.2 e)
  refine decide_eq_decide.2 ⟨λk=>.inl (IU.1 k),λk=>?_⟩
  rcases k with k|k
  · exact IU.2 k
  · exact absurd k.1 h2
theorem V1 {p q:Pt} (h:Ft p.x q.x=0):decide (Ft p.y q.y<0)=decide (Sk p q):=by
  have h2:p.x=q.x:=Ox.1 h
  refine decide_eq_decide.2 ⟨λk=>.inr ⟨h2,IU.1 k⟩,λk=>?_⟩
  rcases k with k|k
  · rw [h2] at k;exact absurd k (by grind)
  · exact IU.2 k.2
section
set_option maxRecDepth 100000
theorem J8 (p q:Pt) (hp:B3 p<=1000) (hq:B3 q<=1000) (w:World)  :Calls Tryz.prog 125 #[(aG (Af p)),(aG (Af q))] w (Al w (Value.bool (decide (Sk p q)))):=by
 have y1:=FR p
 have y2:=FR q
 have y3:=Fp p
 have y4:=Fp q
 refine Aa (args:=[(aG (Af p)),(aG (Af q))]) Tryz.func125 rfl rfl (AV rfl) (AE.subF (sL [0,1] rfl) (q4 (BU (cs:=Af p) rfl λb1=>BU (cs:=Af q) rfl λb2=>asg' rfl ?_)))
 refine q6 (sL [2,3,4] rfl) (q4 (AK (v:=(pP b1 0)) (AA rfl Tryz.underlying51 rfl Tryz.sizeOf48 rfl) rfl (Cf 1 (AN p.x) Bf rfl (AK (v:=(pP b2 0)) (AA rfl Tryz.underlying51 rfl Tryz.sizeOf48 rfl) rfl (Cf 0 (AN q.x) Bf rfl ?_)))))
 refine ck' Tryz.call184 (O6 p.x q.x (by omega)) rfl (asg' rfl (q3 (sL [2,3,4,5] rfl) (AQ rfl (AK (Bk (c:=(decide ((Ft p.x q.x)≠(0:Int)))) rfl rfl rfl) rfl (AD.nil ?_)))))
 refine AC.subF (sL [2,3,4,5,12] rfl) (AC.then_ ?_)
 refine AE.cond rfl (λhc0=>?_) (λhc0=>?_)
 ·replace hc0:=of_decide_eq_true hc0
  refine q4 (AQ rfl (AK (Ai (c:=(decide ((Ft p.x q.x)<(0:Int)))) rfl rfl rfl) rfl (asg' rfl (AD.nil (AC.subF (sL [2,3,4,5] rfl) ?_)))))
  exact AC.then_ (AE.ret (AC.then_ret (AJ rfl (AS (v:=(Value.bool (decide ((Ft p.x q.x)<(0:Int))))) rfl) (λw hw=>⟨by rw [WB hc0],hw.out⟩))))
 ·replace hc0:=of_decide_eq_false hc0
  refine AE.skip (q2 (AK (v:=(pP b1 5)) (AA rfl Tryz.underlying51 rfl Tryz.sizeOf48 rfl) rfl (Cf 1 (AN p.y) Bf rfl (AK (v:=(pP b2 5)) (AA rfl Tryz.underlying51 rfl Tryz.sizeOf48 rfl) rfl (Cf 0 (AN q.y) Bf rfl ?_)))))
  refine ck' Tryz.call184 (O6 p.y q.y (by omega)) rfl (AK (Ai (c:=(decide ((Ft p.y q.y)<(0:Int)))) rfl rfl rfl) rfl (asg' rfl (AD.nil (AC.subF (sL [2,3,4,5] rfl) (AC.then_ ?_)))))
  exact AE.ret (AJ rfl (AS (v:=(Value.bool (decide ((Ft p.y q.y)<(0:Int))))) rfl) (λw hw=>⟨by rw [V1 (Decidable.not_not.1 hc0)],hw.out⟩))
end
abbrev T2:=P2×P2×P2
section
def crn (t:Nat×Nat×Nat) (r:Nat):Nat:=if r=0 then t.1 else if r=1 then t.2.1 else t.2.2
def FF (t:Nat×Nat×Nat) (p:Nat):Bool:=t.1 == p||t.2.1 == p||t.2.2 == p
theorem JK.crn {m:MQ} {pl:List P2} {n:Nat×Nat×Nat} {t:Nat} (h:JK m pl n t) {r:Nat} (hr:r<3):Go.Proofs.YtpgncndhhhllfaaGreatDoor.crn n r<pl.length/\pl.getD (Go.Proofs.YtpgncndhhhllfaaGreatDoor.crn n r) (0,0)=O0 m t r:=by
  have:r=0\/r=1\/r=2:=by omega
  rcases this with rfl|rfl|rfl
  · exact h.a
  · exact h.b
  · exact h.c
section
variable {ps:List Pt} {ts:List (Nat×Nat×Nat)}
structure YL (ps:List Pt) (ts:List (Nat×Nat×Nat)) (m:MQ) (pl:List P2):Prop where
  inv:NI m (GX m).length pl ts
  dst:XN pl
  pl_len:ps.length=pl.length
  at_:∀i,i<pl.length->ps.getD i ⟨0,0⟩=FU (YY (mapM m) (V_ m) (pl.getD i (0,0)))
theorem YL.cell {m:MQ} {pl:List P2} (l:YL ps ts m pl) {t:Nat} (ht:t<ts.length):(GX m).getD t ((0,0),(0,0),(0,0))∈GX m:=by
  have h:=l.inv.tl
  rw [List.getD,List.getElem?_eq_getElem (by omega)];exact List.getElem_mem _
end
end
end Go.Proofs.YtpgncndhhhllfaaGreatDoor
