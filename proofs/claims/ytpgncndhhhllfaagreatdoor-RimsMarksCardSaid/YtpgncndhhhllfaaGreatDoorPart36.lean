import Derived.Test.YtpgncndhhhllfaaGreatDoorPart06
import Derived.Test.YtpgncndhhhllfaaGreatDoorPart25
import Derived.Test.YtpgncndhhhllfaaGreatDoorPart26
namespace Go.Proofs.YtpgncndhhhllfaaGreatDoor
open Go Go.RowKit Go.Proofs.Tryz
set_option linter.unusedVariables false
set_option linter.unusedSimpArgs false
section
set_option maxRecDepth 100000
set_option maxHeartbeats 1000000 in
theorem My {ps qs:List Pt} {ts ss us vs:List Z3} (x:MZ ps ts ss) (y:OI qs us vs) (hz1:∀i,i<ps.length->PW (ps.getD i ⟨0,0⟩)) (hz0:∀i,i<qs.length->UK (qs.getD i ⟨0,0⟩)<=16777216) (hp:ps.length<=1000000) (ht:ts.length<=1000000) (hs:ss.length<=1000000) (w:World) {S:Nat->Prop} (hx:Ro S w x) (hy:Ro S w y) (hT:NK w):Calls Tryz.prog 12 #[(aG (C9 x)),(aG (QO y))] w (An w (Value.bool (decide (ps=qs/\ts=us/\ss=vs)))):=by
 have hrl:=y.len
 have hz2:∀i,i<y.rs.length->UK (y.rs.getD i Vr).p<=16777216:=λi h=>by rw [y.at h];exact hz0 i (by omega)
 have lx:=DF (W:=w) hx
 have ly:=DF (W:=w) hy
 refine Ah (args:=[(aG (C9 x)),(aG (QO y))]) (L:=(AI x.a.p (rowsL BE ps)::AI x.b.p (rowsL Al ts)::AI x.c.p (rowsL Al ss)::AI y.a.p (rowsL Gs y.rs)::AI y.b.p (rowsL Al us)::AI y.c.p (rowsL Al vs)::E6 y.rs)) Tryz.func12 rfl rfl (AY rfl) (EV hx (Zb hy)) (AF.subF (sL [0,1] rfl) (q4 (B9 (cs:=C9 x) rfl λb1=>B9 (cs:=QO y) rfl λb2=>asg' rfl ?_)))
 refine q6 (sL [2,3,4] rfl) (q4 (AH (v:=(pP b1 0)) (AA rfl Tryz.underlying30 rfl Tryz.sizeOf28 rfl) rfl (BD 1 (Value.slice x.a.p ps.length x.a.c) LT rfl (AH (v:=(vN ps.length)) (AE rfl Tryz.underlying28) rfl (AH (v:=(pP b2 0)) (AA rfl Tryz.underlying38 rfl Tryz.sizeOf35 rfl) rfl ?_)))))
 refine BD 0 (Value.slice y.a.p y.rs.length y.a.c) WV rfl (AH (v:=(vN y.rs.length)) (AE rfl Tryz.underlying35) rfl (AH (B7 (c:=(decide (ps.length≠y.rs.length))) rfl rfl (VQ (a:=ps.length) (b:=y.rs.length))) rfl (AJ rfl ?_)))
 refine AD.mid (FM:=[(2,(pP b1 0)),(3,(pP b2 0)),(4,(Value.bool false)),(8,(pP b1 0)),(9,(Value.slice x.a.p ps.length x.a.c)),(10,(vN ps.length)),(11,(pP b2 0)),(12,(Value.slice y.a.p y.rs.length y.a.c)),(13,(vN y.rs.length)),(14,(Value.bool (decide (ps.length≠y.rs.length)))),(15,(Value.bool (decide (ps.length≠y.rs.length)))),(23,(Value.bool ((decide (ps.length≠y.rs.length))||(decide (ts.length≠us.length)))))]) (LM:=(Ab b2 38 (QO y)::Ab b1 30 (C9 x)::AI x.a.p (rowsL BE ps)::AI x.b.p (rowsL Al ts)::AI x.c.p (rowsL Al ss)::AI y.a.p (rowsL Gs y.rs)::AI y.b.p (rowsL Al us)::AI y.c.p (rowsL Al vs)::E6 y.rs)) 8 ?_ ?_
 ·rcases Bool.eq_false_or_eq_true (decide (ps.length≠y.rs.length)) with hg1|hg1
  ·skip
   refine AD.retell (k:=15) (u:=Value.bool true) rfl (by rw [hg1]) ?_
   have hg1':=hg1
   replace hg1':=of_decide_eq_true hg1'
   refine AD.skip (AG rfl) rfl (AY rfl) (AD.skip (AG rfl) rfl (AY rfl) (AD.skip (AG rfl) rfl (AY rfl) (AD.skip (AG rfl) rfl (AY rfl) (AD.skip (AG rfl) rfl (AY rfl) (AD.skip (AG rfl) rfl (AY rfl) ?_)))))
   exact AD.skip (AG rfl) rfl (AY rfl) (AH (v:=(Value.bool true)) (AT rfl rfl) rfl (AD.nil (AC.mid (sS rfl (sS rfl (sS rfl (sS rfl (sS rfl (sS rfl (sS rfl (sS rfl (sS rfl (sS rfl (sS (by first|rfl|(rw [hg1];rfl)|rw [hg1]) (sS (by first|rfl|(rw [hg1];rfl)|rw [hg1]) (sN))))))))))))) (List.Sublist.refl _))))
  ·skip
   refine AD.retell (k:=15) (u:=Value.bool false) rfl (by rw [hg1]) ?_
   have hg1':=hg1
   replace hg1':=of_decide_eq_false hg1'
   refine AD.step (v:=(pP b1 1)) (AB rfl) (AA rfl Tryz.underlying30 rfl Tryz.sizeOf23 rfl) rfl (AY rfl) (AD.step (v:=(Value.slice x.b.p ts.length x.b.c)) (AB rfl) (AP (i:=1) (v:=(Value.slice x.b.p ts.length x.b.c)) rfl rfl EU.a rfl) rfl (AY rfl) (AD.step (v:=(vN ts.length)) (AB rfl) (AE rfl Tryz.underlying23) rfl (AY rfl) (AD.step (v:=(pP b2 1)) (AB rfl) (AA rfl Tryz.underlying38 rfl Tryz.sizeOf23 rfl) rfl (AY rfl) (AD.step (v:=(Value.slice y.b.p us.length y.b.c)) (AB rfl) (AP (i:=0) (v:=(Value.slice y.b.p us.length y.b.c)) rfl rfl EU.a rfl) rfl (AY rfl) (AD.step (v:=(vN us.length)) (AB rfl) (AE rfl Tryz.underlying23) rfl (AY rfl) ?_)))))
   exact AD.step (v:=(Value.bool (decide (ts.length≠us.length)))) (AB rfl) (B7 (c:=(decide (ts.length≠us.length))) rfl rfl (VQ (a:=ts.length) (b:=us.length))) rfl (AY rfl) (AH (v:=(Value.bool (decide (ts.length≠us.length)))) (AV rfl rfl) rfl (AD.nil (AC.mid (sS rfl (sS rfl (sS rfl (sS rfl (sS rfl (sS rfl (sS rfl (sS rfl (sS rfl (sS rfl (sS (by first|rfl|(rw [hg1];rfl)|rw [hg1]) (sS (by first|rfl|(rw [hg1];rfl)|rw [hg1]) (sN))))))))))))) (List.Sublist.refl _))))
 refine AJ rfl ?_
 refine AD.mid (FM:=[(2,(pP b1 0)),(3,(pP b2 0)),(4,(Value.bool false)),(8,(pP b1 0)),(9,(Value.slice x.a.p ps.length x.a.c)),(10,(vN ps.length)),(11,(pP b2 0)),(12,(Value.slice y.a.p y.rs.length y.a.c)),(13,(vN y.rs.length)),(14,(Value.bool (decide (ps.length≠y.rs.length)))),(15,(Value.bool (decide (ps.length≠y.rs.length)))),(23,(Value.bool ((decide (ps.length≠y.rs.length))||(decide (ts.length≠us.length))))),(24,(Value.bool ((decide (ps.length≠y.rs.length))||(decide (ts.length≠us.length))))),(32,(Value.bool (((decide (ps.length≠y.rs.length))||(decide (ts.length≠us.length)))||(decide (ss.length≠vs.length)))))]) (LM:=(Ab b2 38 (QO y)::Ab b1 30 (C9 x)::AI x.a.p (rowsL BE ps)::AI x.b.p (rowsL Al ts)::AI x.c.p (rowsL Al ss)::AI y.a.p (rowsL Gs y.rs)::AI y.b.p (rowsL Al us)::AI y.c.p (rowsL Al vs)::E6 y.rs)) 8 ?_ ?_
 ·rcases Bool.eq_false_or_eq_true ((decide (ps.length≠y.rs.length))||(decide (ts.length≠us.length))) with hg2|hg2
  ·skip
   refine AD.retell (k:=24) (u:=Value.bool true) rfl (by rw [hg2]) ?_
   have hg2':=hg2
   simp only [Bool.and_eq_true,Bool.or_eq_true,Bool.and_eq_false_iff,Bool.or_eq_false_iff,Bool.not_eq_true',Bool.not_eq_false',decide_eq_true_eq,decide_eq_false_iff_not] at hg2'
   refine AD.skip (AG rfl) rfl (AY rfl) (AD.skip (AG rfl) rfl (AY rfl) (AD.skip (AG rfl) rfl (AY rfl) (AD.skip (AG rfl) rfl (AY rfl) (AD.skip (AG rfl) rfl (AY rfl) (AD.skip (AG rfl) rfl (AY rfl) ?_)))))
   exact AD.skip (AG rfl) rfl (AY rfl) (AH (v:=(Value.bool true)) (AT rfl rfl) rfl (AD.nil (AC.mid (sS rfl (sS rfl (sS rfl (sS rfl (sS rfl (sS rfl (sS rfl (sS rfl (sS rfl (sS rfl (sS rfl (sS rfl (sS (by first|rfl|(rw [hg2];rfl)|rw [hg2]) (sS (by first|rfl|(rw [hg2];rfl)|rw [hg2]) (sN))))))))))))))) (List.Sublist.refl _))))
  ·skip
   refine AD.retell (k:=24) (u:=Value.bool false) rfl (by rw [hg2]) ?_
   have hg2':=hg2
   simp only [Bool.and_eq_true,Bool.or_eq_true,Bool.and_eq_false_iff,Bool.or_eq_false_iff,Bool.not_eq_true',Bool.not_eq_false',decide_eq_true_eq,decide_eq_false_iff_not] at hg2'
   refine AD.step (v:=(pP b1 2)) (AB rfl) (AA rfl Tryz.underlying30 rfl Tryz.sizeOf24 rfl) rfl (AY rfl) (AD.step (v:=(Value.slice x.c.p ss.length x.c.c)) (AB rfl) (AP (i:=1) (v:=(Value.slice x.c.p ss.length x.c.c)) rfl rfl Cz.a rfl) rfl (AY rfl) (AD.step (v:=(vN ss.length)) (AB rfl) (AE rfl Tryz.underlying24) rfl (AY rfl) (AD.step (v:=(pP b2 2)) (AB rfl) (AA rfl Tryz.underlying38 rfl Tryz.sizeOf36 rfl) rfl (AY rfl) (AD.step (v:=(Value.slice y.c.p vs.length y.c.c)) (AB rfl) (AP (i:=0) (v:=(Value.slice y.c.p vs.length y.c.c)) rfl rfl MR.a rfl) rfl (AY rfl) (AD.step (v:=(vN vs.length)) (AB rfl) (AE rfl Tryz.underlying36) rfl (AY rfl) ?_)))))
   exact AD.step (v:=(Value.bool (decide (ss.length≠vs.length)))) (AB rfl) (B7 (c:=(decide (ss.length≠vs.length))) rfl rfl (VQ (a:=ss.length) (b:=vs.length))) rfl (AY rfl) (AH (v:=(Value.bool (decide (ss.length≠vs.length)))) (AV rfl rfl) rfl (AD.nil (AC.mid (sS rfl (sS rfl (sS rfl (sS rfl (sS rfl (sS rfl (sS rfl (sS rfl (sS rfl (sS rfl (sS rfl (sS rfl (sS (by first|rfl|(rw [hg2];rfl)|rw [hg2]) (sS (by first|rfl|(rw [hg2];rfl)|rw [hg2]) (sN))))))))))))))) (List.Sublist.refl _))))
 refine AD.nil (AC.subF (sL [2,3,4,32] rfl) (AC.then_ ?_))
 refine AF.cond rfl (λhc0=>?_) (λhc0=>?_)
 ·simp only [Bool.and_eq_true,Bool.or_eq_true,Bool.and_eq_false_iff,Bool.or_eq_false_iff,Bool.not_eq_true',Bool.not_eq_false',decide_eq_true_eq,decide_eq_false_iff_not] at hc0
  have hne:¬(ps=qs/\ts=us/\ss=vs):=λh=>by obtain ⟨rfl,rfl,rfl⟩:=h;grind
  exact q4 (asg' rfl (AD.nil (AC.then_ (AF.ret (AC.then_ret (AN rfl (AQ (v:=(Value.bool false)) rfl) (λw hw=>⟨by rw [decide_eq_false hne],hw.out⟩)))))))
 ·simp only [Bool.and_eq_true,Bool.or_eq_true,Bool.and_eq_false_iff,Bool.or_eq_false_iff,Bool.not_eq_true',Bool.not_eq_false',decide_eq_true_eq,decide_eq_false_iff_not] at hc0
  have hl1:ps.length=qs.length:=by grind
  have hl2:ts.length=us.length:=by grind
  have hl3:ss.length=vs.length:=by grind
  refine AF.skip (q1 (q4 (asg' rfl (AD.nil (AC.then_ ?_)))))
  refine AF.block ?_
  refine AF.lp1 (tg λ(i:Nat)=>i<=ps.length/\∀k,k<i->ps.getD k (⟨0,0⟩:Pt)=qs.getD k (⟨0,0⟩:Pt)) (tg λ(i:Nat)=>[(2,(pP b1 0)),(3,(pP b2 0)),(5,(vN i))]) (tg λ(i:Nat)=>(Ab b2 38 (QO y)::Ab b1 30 (C9 x)::AI x.a.p (rowsL BE ps)::AI x.b.p (rowsL Al ts)::AI x.c.p (rowsL Al ss)::AI y.a.p (rowsL Gs y.rs)::AI y.b.p (rowsL Al us)::AI y.c.p (rowsL Al vs)::E6 y.rs)) (tg λ(i:Nat)=>ps.length-i) 0 (⟨Nat.zero_le _,λk h=>absurd h (Nat.not_lt_zero _)⟩) (sF rfl) sr (λi hJ=>?_)
  obtain ⟨hi,ei⟩:=hJ
  refine AF.seq (q4 (AJ rfl (AH (v:=(pP b1 0)) (AA rfl Tryz.underlying30 rfl Tryz.sizeOf28 rfl) rfl (BD 1 (Value.slice x.a.p ps.length x.a.c) LT rfl (AH (v:=(vN ps.length)) (AE rfl Tryz.underlying28) rfl ?_)))))
  refine AH (Ad (c:=(decide (i<ps.length))) rfl rfl (CB (a:=i) (b:=ps.length))) rfl (AD.nil (AC.subF (sL [2,3,5,37] rfl) (AC.then_ ?_)))
  refine AF.cond rfl (λhc1=>?_) (λhc1=>?_)
  ·replace hc1:=of_decide_eq_true hc1
   refine AF.skip (q1 (AF.block (AF.seq (Cw [(0,true),(1,true),(2,true),(3,true),(4,true),(5,true),(6,true),(7,true),(8,true),(9,true),(10,false),(11,true)] sr (Aw (v:=(pP b1 0)) rfl (AA rfl Tryz.underlying30 rfl Tryz.sizeOf28 rfl) ?_)))))
   refine Bm 1 (Value.slice x.a.p ps.length x.a.c) LT rfl (BS rfl (Aw (v:=(pP (pB x.a.p) (pO x.a.p+i*10))) rfl (AL (j:=i) rfl rfl x.a.ok Tryz.underlying28 Tryz.sizeOf51 rfl (by omega)) (Aw (v:=(aG (BE (ps.getD i (⟨0,0⟩:Pt))))) rfl (Ae (vs:=BE (ps.getD i (⟨0,0⟩:Pt))) (i:=2) rfl rfl (A6.ne x.a.ok (by omega)) Rf (Ax Ck _ _ _ (by omega)) (Ck _)) (Aw (v:=(pP b2 0)) rfl (AA rfl Tryz.underlying38 rfl Tryz.sizeOf35 rfl) (Bm 0 (Value.slice y.a.p y.rs.length y.a.c) WV rfl ?_)))))
   refine BS rfl (Aw (v:=(pP (pB y.a.p) (pO y.a.p+i*6))) rfl (AL (j:=i) rfl rfl y.a.ok Tryz.underlying35 Tryz.sizeOf83 rfl (by omega)) (Aw (v:=(aG (Pw ((y.rs.getD i Vr).x)))) rfl (Ae (vs:=Pw ((y.rs.getD i Vr).x)) (i:=5) rfl rfl (A6.ne y.a.ok (by omega)) ZB (Ax Im Vr _ _ (by omega)) (Im _)) (OkE.imp rfl (DC Tryz.call31 (λw hw=>V8 (ps.getD i (⟨0,0⟩:Pt)) ((y.rs.getD i Vr).x) (hz1 _ (by omega)) (hz2 _ (by omega)) w (Y8 (S:=S) (L:=(Ab b2 38 (QO y)::Ab b1 30 (C9 x)::AI x.a.p (rowsL BE ps)::AI x.b.p (rowsL Al ts)::AI x.c.p (rowsL Al ss)::AI y.a.p (rowsL Gs y.rs)::AI y.b.p (rowsL Al us)::AI y.c.p (rowsL Al vs)::E6 y.rs)) (rs:=y.rs) hw (λz hz=>List.mem_append_right [Ab b2 38 (QO y),Ab b1 30 (C9 x),AI x.a.p (rowsL BE ps),AI x.b.p (rowsL Al ts),AI x.c.p (rowsL Al ss),AI y.a.p (rowsL Gs y.rs),AI y.b.p (rowsL Al us),AI y.c.p (rowsL Al vs)] hz) (by omega) (At.rpt ly)) (hT.below hw.out)) rfl (OkE.back sr ?_)))))
   refine Aw rfl (Bw (c:=(!(decide (ps.getD i (⟨0,0⟩:Pt)=(y.rs.getD i Vr).p)))) rfl rfl) (OkE.nil (AC.subF (sL [2,3,5,51] rfl) (AC.then_ ?_)))
   refine AF.cond rfl (λhc2=>?_) (λhc2=>?_)
   ·simp only [Bool.and_eq_true,Bool.or_eq_true,Bool.and_eq_false_iff,Bool.or_eq_false_iff,Bool.not_eq_true',Bool.not_eq_false',decide_eq_true_eq,decide_eq_false_iff_not] at hc2
    have hne:¬(ps=qs/\ts=us/\ss=vs):=λh=>EY (d:=(⟨0,0⟩:Pt)) (i:=i) (xs:=ps) (ys:=qs) (by rw [<-y.at (by omega)];grind) h.1
    refine q4 (asg' rfl (AD.nil (AC.then_ (AF.ret (AC.in_ret ?_)))))
    exact AC.then_ret (AC.round1_ret (AC.in_ret (AC.then_ret (AN rfl (AQ (v:=(Value.bool false)) rfl) (λw hw=>⟨by rw [decide_eq_false hne],hw.out⟩)))))
   ·simp only [Bool.and_eq_true,Bool.or_eq_true,Bool.and_eq_false_iff,Bool.or_eq_false_iff,Bool.not_eq_true',Bool.not_eq_false',decide_eq_true_eq,decide_eq_false_iff_not] at hc2
    have hei:ps.getD i (⟨0,0⟩:Pt)=qs.getD i (⟨0,0⟩:Pt):=by rw [<-y.at (by omega)];grind
    refine AF.skip (AC.in_normal (AC.then_ (AF.region (AJ rfl (AH (AW (c:=((i+1:Nat):Int)) rfl rfl (AR (a:=i) (b:=1) (by omega))) rfl ?_)))))
    exact asg' rfl (AD.nil (AC.subF (sL [2,3,5] rfl) (AC.round1 (i+1) (⟨by omega,λk hk=>by rcases Nat.lt_or_ge k i with q|q;exact ei k q;rw [show k=i by omega];exact hei⟩) (by omega) (sF rfl) sr)))
  ·replace hc1:=of_decide_eq_false hc1
   have hE1:ps=qs:=E7 (d:=(⟨0,0⟩:Pt)) hl1 λk hk=>ei k (by omega)
   refine AF.exit (AC.then_exit (AC.round1_exit (AC.in_exit (q1 (q4 ?_)))))
   refine asg' rfl (AD.nil (AC.then_ (AF.block ?_)))
   refine AF.lp1 (tg λ(j:Nat)=>j<=ts.length/\∀k,k<j->ts.getD k ((0,0,0):Z3)=us.getD k ((0,0,0):Z3)) (tg λ(j:Nat)=>[(2,(pP b1 0)),(3,(pP b2 0)),(6,(vN j))]) (tg λ(j:Nat)=>(Ab b2 38 (QO y)::Ab b1 30 (C9 x)::AI x.a.p (rowsL BE ps)::AI x.b.p (rowsL Al ts)::AI x.c.p (rowsL Al ss)::AI y.a.p (rowsL Gs y.rs)::AI y.b.p (rowsL Al us)::AI y.c.p (rowsL Al vs)::E6 y.rs)) (tg λ(j:Nat)=>ts.length-j) 0 (⟨Nat.zero_le _,λk h=>absurd h (Nat.not_lt_zero _)⟩) (sF rfl) sr (λj hJ=>?_)
   obtain ⟨hj,ej⟩:=hJ
   refine AF.seq (q4 (AJ rfl (AH (v:=(pP b1 1)) (AA rfl Tryz.underlying30 rfl Tryz.sizeOf23 rfl) rfl (BD 1 (Value.slice x.b.p ts.length x.b.c) EU rfl (AH (v:=(vN ts.length)) (AE rfl Tryz.underlying23) rfl ?_)))))
   refine AH (Ad (c:=(decide (j<ts.length))) rfl rfl (CB (a:=j) (b:=ts.length))) rfl (AD.nil (AC.subF (sL [2,3,6,56] rfl) (AC.then_ ?_)))
   refine AF.cond rfl (λhc3=>?_) (λhc3=>?_)
   ·replace hc3:=of_decide_eq_true hc3
    refine AF.skip (q1 (AF.block (AF.seq (Cw [(0,true),(1,true),(2,true),(3,true),(4,true),(5,true),(6,true),(7,true),(8,true),(9,true),(10,true)] sr (Aw (v:=(pP b1 1)) rfl (AA rfl Tryz.underlying30 rfl Tryz.sizeOf23 rfl) ?_)))))
    refine Bm 1 (Value.slice x.b.p ts.length x.b.c) EU rfl (BS rfl (Aw (v:=(pP (pB x.b.p) (pO x.b.p+j*3))) rfl (AL (j:=j) rfl rfl x.b.ok Tryz.underlying23 Tryz.sizeOf53 rfl (by omega)) (Aw (v:=(aG (Al (ts.getD j ((0,0,0):Z3))))) rfl (Ae (vs:=Al (ts.getD j ((0,0,0):Z3))) (i:=3) rfl rfl (A6.ne x.b.ok (by omega)) GL (Ax Ak _ _ _ (by omega)) (Ak _)) (Aw (v:=(pP b2 1)) rfl (AA rfl Tryz.underlying38 rfl Tryz.sizeOf23 rfl) (Bm 0 (Value.slice y.b.p us.length y.b.c) EU rfl ?_)))))
    refine BS rfl (Aw (v:=(pP (pB y.b.p) (pO y.b.p+j*3))) rfl (AL (j:=j) rfl rfl y.b.ok Tryz.underlying23 Tryz.sizeOf53 rfl (by omega)) (Aw (v:=(aG (Al (us.getD j ((0,0,0):Z3))))) rfl (Ae (vs:=Al (us.getD j ((0,0,0):Z3))) (i:=6) rfl rfl (A6.ne y.b.ok (by omega)) GL (Ax Ak _ _ _ (by omega)) (Ak _)) (Aw rfl (Le (c:=decide (ts.getD j ((0,0,0):Z3)=us.getD j ((0,0,0):Z3))) rfl rfl Tryz.eqGuardType53 (TZ 9998 (ts.getD j ((0,0,0):Z3)) (us.getD j ((0,0,0):Z3))) (show (!decide (ts.getD j ((0,0,0):Z3)=us.getD j ((0,0,0):Z3)))=decide (ts.getD j ((0,0,0):Z3)≠us.getD j ((0,0,0):Z3)) from decide_not.symm)) (OkE.nil (AC.subF (sL [2,3,6,69] rfl) ?_)))))
    refine AC.then_ ?_
    refine AF.cond rfl (λhc4=>?_) (λhc4=>?_)
    ·replace hc4:=of_decide_eq_true hc4
     have hne:¬(ps=qs/\ts=us/\ss=vs):=λh=>EY (d:=((0,0,0):Z3)) (i:=j) (xs:=ts) (ys:=us) (by grind) h.2.1
     refine q4 (asg' rfl (AD.nil (AC.then_ (AF.ret (AC.in_ret ?_)))))
     exact AC.then_ret (AC.round1_ret (AC.in_ret (AC.then_ret (AN rfl (AQ (v:=(Value.bool false)) rfl) (λw hw=>⟨by rw [decide_eq_false hne],hw.out⟩)))))
    ·replace hc4:=of_decide_eq_false hc4
     have hej:ts.getD j ((0,0,0):Z3)=us.getD j ((0,0,0):Z3):=by grind
     refine AF.skip (AC.in_normal (AC.then_ (AF.region (AJ rfl (AH (AW (c:=((j+1:Nat):Int)) rfl rfl (AR (a:=j) (b:=1) (by omega))) rfl ?_)))))
     exact asg' rfl (AD.nil (AC.subF (sL [2,3,6] rfl) (AC.round1 (j+1) (⟨by omega,λk hk=>by rcases Nat.lt_or_ge k j with q|q;exact ej k q;rw [show k=j by omega];exact hej⟩) (by omega) (sF rfl) sr)))
   ·replace hc3:=of_decide_eq_false hc3
    have hE2:ts=us:=E7 (d:=((0,0,0):Z3)) hl2 λk hk=>ej k (by omega)
    refine AF.exit (AC.then_exit (AC.round1_exit (AC.in_exit (q1 (q4 ?_)))))
    refine asg' rfl (AD.nil (AC.then_ (AF.block ?_)))
    refine AF.lp1 (tg λ(l:Nat)=>l<=ss.length/\∀k,k<l->ss.getD k ((0,0,0):Z3)=vs.getD k ((0,0,0):Z3)) (tg λ(l:Nat)=>[(2,(pP b1 0)),(3,(pP b2 0)),(7,(vN l))]) (tg λ(l:Nat)=>(Ab b2 38 (QO y)::Ab b1 30 (C9 x)::AI x.a.p (rowsL BE ps)::AI x.b.p (rowsL Al ts)::AI x.c.p (rowsL Al ss)::AI y.a.p (rowsL Gs y.rs)::AI y.b.p (rowsL Al us)::AI y.c.p (rowsL Al vs)::E6 y.rs)) (tg λ(l:Nat)=>ss.length-l) 0 (⟨Nat.zero_le _,λk h=>absurd h (Nat.not_lt_zero _)⟩) (sF rfl) sr (λl hJ=>?_)
    obtain ⟨hl,el⟩:=hJ
    refine AF.seq (q4 (AJ rfl (AH (v:=(pP b1 2)) (AA rfl Tryz.underlying30 rfl Tryz.sizeOf24 rfl) rfl (BD 1 (Value.slice x.c.p ss.length x.c.c) Cz rfl (AH (v:=(vN ss.length)) (AE rfl Tryz.underlying24) rfl ?_)))))
    refine AH (Ad (c:=(decide (l<ss.length))) rfl rfl (CB (a:=l) (b:=ss.length))) rfl (AD.nil (AC.subF (sL [2,3,7,74] rfl) (AC.then_ ?_)))
    refine AF.cond rfl (λhc5=>?_) (λhc5=>?_)
    ·replace hc5:=of_decide_eq_true hc5
     refine AF.skip (q1 (AF.block (AF.seq ?_)))
     by_cases q1:(ss.getD l ((0,0,0):Z3)).1=(vs.getD l ((0,0,0):Z3)).1
     ·skip
      by_cases q2:(ss.getD l ((0,0,0):Z3)).2.1=(vs.getD l ((0,0,0):Z3)).2.1
      ·skip
       refine Cw [(0,true),(1,true),(2,true),(3,true),(4,true),(5,true),(6,true),(7,true),(8,true),(9,true),(10,true),(11,true),(12,true),(13,true),(14,true),(15,true),(16,true),(17,true),(18,true),(19,true),(20,true),(21,true),(22,true),(23,true),(24,true),(25,true),(26,true),(27,true),(28,true),(29,true),(30,true),(31,true),(32,true),(33,true),(34,true),(35,true),(36,true),(37,true),(38,true),(39,true),(40,true),(41,true),(42,true)] sr (Aw (v:=(pP b1 2)) rfl (AA rfl Tryz.underlying30 rfl Tryz.sizeOf24 rfl) (Bm 1 (Value.slice x.c.p ss.length x.c.c) Cz rfl (BS rfl (Aw (v:=(pP (pB x.c.p) (pO x.c.p+l*3))) rfl (AL (j:=l) rfl rfl x.c.ok Tryz.underlying24 Tryz.sizeOf55 rfl (by omega)) (Aw (v:=(pP (pB x.c.p) (pO x.c.p+(l*3+0)))) rfl (AA rfl Tryz.underlying55 rfl Tryz.sizeOf3 (Nat.add_assoc _ _ _)) ?_)))))
       refine Aw rfl (AZ (v:=(vI ((ss.getD l ((0,0,0):Z3)).1))) (i:=4) rfl rfl (A6.ne x.c.ok (by omega)) Be (Bf Ak ((0,0,0):Z3) _ _ 0 (by omega) (by decide) rfl)) (Aw (v:=(pP b2 2)) rfl (AA rfl Tryz.underlying38 rfl Tryz.sizeOf36 rfl) (Bm 0 (Value.slice y.c.p vs.length y.c.c) MR rfl (BS rfl (Aw (v:=(pP (pB y.c.p) (pO y.c.p+l*3))) rfl (AL (j:=l) rfl rfl y.c.ok Tryz.underlying36 Tryz.sizeOf115 rfl (by omega)) (Aw (v:=(pP (pB y.c.p) (pO y.c.p+(l*3+0)))) rfl (AA rfl Tryz.underlying115 rfl Tryz.sizeOf3 (Nat.add_assoc _ _ _)) ?_)))))
       refine Aw rfl (AZ (v:=(vI ((vs.getD l ((0,0,0):Z3)).1))) (i:=7) rfl rfl (A6.ne y.c.ok (by omega)) Be (Bf Ak ((0,0,0):Z3) _ _ 0 (by omega) (by decide) rfl)) (Aw rfl (B7 (c:=false) rfl rfl (decide_eq_false λh=>h q1)) (BS rfl (OkE.pas (v:=(pP b1 2)) rfl (AB rfl) (AA rfl Tryz.underlying30 rfl Tryz.sizeOf24 rfl) rfl rfl (OkE.pas (v:=(Value.slice x.c.p ss.length x.c.c)) rfl (AB rfl) (AP (i:=1) (v:=(Value.slice x.c.p ss.length x.c.c)) rfl rfl Cz.a rfl) rfl rfl (OkE.pas (v:=(vN l)) rfl (AB rfl) (Ai rfl) rfl rfl ?_)))))
       refine OkE.pas (v:=(pP (pB x.c.p) (pO x.c.p+l*3))) rfl (AB rfl) (AL (j:=l) rfl rfl x.c.ok Tryz.underlying24 Tryz.sizeOf55 rfl (by omega)) rfl rfl (OkE.pas (v:=(pP (pB x.c.p) (pO x.c.p+(l*3+1)))) rfl (AB rfl) (AA rfl Tryz.underlying55 rfl Tryz.sizeOf3 (Nat.add_assoc _ _ _)) rfl rfl (OkE.pas (v:=(vI ((ss.getD l ((0,0,0):Z3)).2.1))) rfl (AB rfl) (AZ (v:=(vI ((ss.getD l ((0,0,0):Z3)).2.1))) (i:=4) rfl rfl (A6.ne x.c.ok (by omega)) Be (Bf Ak ((0,0,0):Z3) _ _ 1 (by omega) (by decide) rfl)) rfl rfl (OkE.pas (v:=(pP b2 2)) rfl (AB rfl) (AA rfl Tryz.underlying38 rfl Tryz.sizeOf36 rfl) rfl rfl (OkE.pas (v:=(Value.slice y.c.p vs.length y.c.c)) rfl (AB rfl) (AP (i:=0) (v:=(Value.slice y.c.p vs.length y.c.c)) rfl rfl MR.a rfl) rfl rfl (OkE.pas (v:=(vN l)) rfl (AB rfl) (Ai rfl) rfl rfl ?_)))))
       refine OkE.pas (v:=(pP (pB y.c.p) (pO y.c.p+l*3))) rfl (AB rfl) (AL (j:=l) rfl rfl y.c.ok Tryz.underlying36 Tryz.sizeOf115 rfl (by omega)) rfl rfl (OkE.pas (v:=(pP (pB y.c.p) (pO y.c.p+(l*3+1)))) rfl (AB rfl) (AA rfl Tryz.underlying115 rfl Tryz.sizeOf3 (Nat.add_assoc _ _ _)) rfl rfl (OkE.pas (v:=(vI ((vs.getD l ((0,0,0):Z3)).2.1))) rfl (AB rfl) (AZ (v:=(vI ((vs.getD l ((0,0,0):Z3)).2.1))) (i:=7) rfl rfl (A6.ne y.c.ok (by omega)) Be (Bf Ak ((0,0,0):Z3) _ _ 1 (by omega) (by decide) rfl)) rfl rfl (OkE.pas (v:=(Value.bool false)) rfl (AB rfl) (B7 (c:=false) rfl rfl (decide_eq_false λh=>h q2)) rfl rfl (Aw (v:=(Value.bool false)) rfl (AV rfl rfl) (BS rfl ?_)))))
       refine OkE.pas (v:=(pP b1 2)) rfl (AB rfl) (AA rfl Tryz.underlying30 rfl Tryz.sizeOf24 rfl) rfl rfl (OkE.pas (v:=(Value.slice x.c.p ss.length x.c.c)) rfl (AB rfl) (AP (i:=1) (v:=(Value.slice x.c.p ss.length x.c.c)) rfl rfl Cz.a rfl) rfl rfl (OkE.pas (v:=(vN l)) rfl (AB rfl) (Ai rfl) rfl rfl (OkE.pas (v:=(pP (pB x.c.p) (pO x.c.p+l*3))) rfl (AB rfl) (AL (j:=l) rfl rfl x.c.ok Tryz.underlying24 Tryz.sizeOf55 rfl (by omega)) rfl rfl (OkE.pas (v:=(pP (pB x.c.p) (pO x.c.p+(l*3+2)))) rfl (AB rfl) (AA rfl Tryz.underlying55 rfl Tryz.sizeOf3 (Nat.add_assoc _ _ _)) rfl rfl (OkE.pas (v:=(vI ((ss.getD l ((0,0,0):Z3)).2.2))) rfl (AB rfl) (AZ (v:=(vI ((ss.getD l ((0,0,0):Z3)).2.2))) (i:=4) rfl rfl (A6.ne x.c.ok (by omega)) Be (Bf Ak ((0,0,0):Z3) _ _ 2 (by omega) (by decide) rfl)) rfl rfl ?_)))))
       refine OkE.pas (v:=(pP b2 2)) rfl (AB rfl) (AA rfl Tryz.underlying38 rfl Tryz.sizeOf36 rfl) rfl rfl (OkE.pas (v:=(Value.slice y.c.p vs.length y.c.c)) rfl (AB rfl) (AP (i:=0) (v:=(Value.slice y.c.p vs.length y.c.c)) rfl rfl MR.a rfl) rfl rfl (OkE.pas (v:=(vN l)) rfl (AB rfl) (Ai rfl) rfl rfl (OkE.pas (v:=(pP (pB y.c.p) (pO y.c.p+l*3))) rfl (AB rfl) (AL (j:=l) rfl rfl y.c.ok Tryz.underlying36 Tryz.sizeOf115 rfl (by omega)) rfl rfl (OkE.pas (v:=(pP (pB y.c.p) (pO y.c.p+(l*3+2)))) rfl (AB rfl) (AA rfl Tryz.underlying115 rfl Tryz.sizeOf3 (Nat.add_assoc _ _ _)) rfl rfl (OkE.pas (v:=(vI ((vs.getD l ((0,0,0):Z3)).2.2))) rfl (AB rfl) (AZ (v:=(vI ((vs.getD l ((0,0,0):Z3)).2.2))) (i:=7) rfl rfl (A6.ne y.c.ok (by omega)) Be (Bf Ak ((0,0,0):Z3) _ _ 2 (by omega) (by decide) rfl)) rfl rfl ?_)))))
       refine OkE.pas (v:=(Value.bool (decide (((ss.getD l ((0,0,0):Z3)).2.2)≠((vs.getD l ((0,0,0):Z3)).2.2))))) rfl (AB rfl) (B7 (c:=(decide (((ss.getD l ((0,0,0):Z3)).2.2)≠((vs.getD l ((0,0,0):Z3)).2.2)))) rfl rfl rfl) rfl rfl (Aw (v:=(Value.bool (decide (((ss.getD l ((0,0,0):Z3)).2.2)≠((vs.getD l ((0,0,0):Z3)).2.2))))) rfl (AV rfl rfl) (OkE.nil (AC.subF (sL [2,3,7,119] rfl) (AC.then_ ?_))))
       refine AF.cond rfl (λhc6=>?_) (λhc6=>?_)
       ·replace hc6:=of_decide_eq_true hc6
        have hne:¬(ps=qs/\ts=us/\ss=vs):=λh=>EY (d:=((0,0,0):Z3)) (i:=l) (xs:=ss) (ys:=vs) (by grind) h.2.2
        refine q4 (asg' rfl (AD.nil (AC.then_ (AF.ret (AC.in_ret ?_)))))
        exact AC.then_ret (AC.round1_ret (AC.in_ret (AC.then_ret (AN rfl (AQ (v:=(Value.bool false)) rfl) (λw hw=>⟨by rw [decide_eq_false hne],hw.out⟩)))))
       ·replace hc6:=of_decide_eq_false hc6
        have hel:ss.getD l ((0,0,0):Z3)=vs.getD l ((0,0,0):Z3):=Prod.ext (by grind) (Prod.ext (by grind) (by grind))
        refine AF.skip (AC.in_normal (AC.then_ (AF.region (AJ rfl (AH (AW (c:=((l+1:Nat):Int)) rfl rfl (AR (a:=l) (b:=1) (by omega))) rfl ?_)))))
        exact asg' rfl (AD.nil (AC.subF (sL [2,3,7] rfl) (AC.round1 (l+1) (⟨by omega,λk hk=>by rcases Nat.lt_or_ge k l with q|q;exact el k q;rw [show k=l by omega];exact hel⟩) (by omega) (sF rfl) sr)))
      ·skip
       have hne:¬(ps=qs/\ts=us/\ss=vs):=λh=>EY (d:=((0,0,0):Z3)) (i:=l) (xs:=ss) (ys:=vs) (λe=>q2 (by rw [e])) h.2.2
       refine Cw [(0,true),(1,true),(2,true),(3,true),(4,true),(5,true),(6,true),(7,true),(8,true),(9,true),(10,true),(11,true),(12,true),(13,true),(14,true),(15,true),(16,true),(17,true),(18,true),(19,true),(20,true),(21,true),(22,true),(23,true),(24,true),(25,true),(26,true),(27,true),(28,true),(29,true),(30,true),(31,true),(32,true),(33,true),(34,true),(35,true),(36,true),(37,true),(38,true),(39,true),(40,true),(41,true),(42,true)] sr (Aw (v:=(pP b1 2)) rfl (AA rfl Tryz.underlying30 rfl Tryz.sizeOf24 rfl) (Bm 1 (Value.slice x.c.p ss.length x.c.c) Cz rfl (BS rfl (Aw (v:=(pP (pB x.c.p) (pO x.c.p+l*3))) rfl (AL (j:=l) rfl rfl x.c.ok Tryz.underlying24 Tryz.sizeOf55 rfl (by omega)) (Aw (v:=(pP (pB x.c.p) (pO x.c.p+(l*3+0)))) rfl (AA rfl Tryz.underlying55 rfl Tryz.sizeOf3 (Nat.add_assoc _ _ _)) ?_)))))
       refine Aw rfl (AZ (v:=(vI ((ss.getD l ((0,0,0):Z3)).1))) (i:=4) rfl rfl (A6.ne x.c.ok (by omega)) Be (Bf Ak ((0,0,0):Z3) _ _ 0 (by omega) (by decide) rfl)) (Aw (v:=(pP b2 2)) rfl (AA rfl Tryz.underlying38 rfl Tryz.sizeOf36 rfl) (Bm 0 (Value.slice y.c.p vs.length y.c.c) MR rfl (BS rfl (Aw (v:=(pP (pB y.c.p) (pO y.c.p+l*3))) rfl (AL (j:=l) rfl rfl y.c.ok Tryz.underlying36 Tryz.sizeOf115 rfl (by omega)) (Aw (v:=(pP (pB y.c.p) (pO y.c.p+(l*3+0)))) rfl (AA rfl Tryz.underlying115 rfl Tryz.sizeOf3 (Nat.add_assoc _ _ _)) ?_)))))
       refine Aw rfl (AZ (v:=(vI ((vs.getD l ((0,0,0):Z3)).1))) (i:=7) rfl rfl (A6.ne y.c.ok (by omega)) Be (Bf Ak ((0,0,0):Z3) _ _ 0 (by omega) (by decide) rfl)) (Aw rfl (B7 (c:=false) rfl rfl (decide_eq_false λh=>h q1)) (BS rfl (OkE.pas (v:=(pP b1 2)) rfl (AB rfl) (AA rfl Tryz.underlying30 rfl Tryz.sizeOf24 rfl) rfl rfl (OkE.pas (v:=(Value.slice x.c.p ss.length x.c.c)) rfl (AB rfl) (AP (i:=1) (v:=(Value.slice x.c.p ss.length x.c.c)) rfl rfl Cz.a rfl) rfl rfl (OkE.pas (v:=(vN l)) rfl (AB rfl) (Ai rfl) rfl rfl ?_)))))
       refine OkE.pas (v:=(pP (pB x.c.p) (pO x.c.p+l*3))) rfl (AB rfl) (AL (j:=l) rfl rfl x.c.ok Tryz.underlying24 Tryz.sizeOf55 rfl (by omega)) rfl rfl (OkE.pas (v:=(pP (pB x.c.p) (pO x.c.p+(l*3+1)))) rfl (AB rfl) (AA rfl Tryz.underlying55 rfl Tryz.sizeOf3 (Nat.add_assoc _ _ _)) rfl rfl (OkE.pas (v:=(vI ((ss.getD l ((0,0,0):Z3)).2.1))) rfl (AB rfl) (AZ (v:=(vI ((ss.getD l ((0,0,0):Z3)).2.1))) (i:=4) rfl rfl (A6.ne x.c.ok (by omega)) Be (Bf Ak ((0,0,0):Z3) _ _ 1 (by omega) (by decide) rfl)) rfl rfl (OkE.pas (v:=(pP b2 2)) rfl (AB rfl) (AA rfl Tryz.underlying38 rfl Tryz.sizeOf36 rfl) rfl rfl (OkE.pas (v:=(Value.slice y.c.p vs.length y.c.c)) rfl (AB rfl) (AP (i:=0) (v:=(Value.slice y.c.p vs.length y.c.c)) rfl rfl MR.a rfl) rfl rfl (OkE.pas (v:=(vN l)) rfl (AB rfl) (Ai rfl) rfl rfl ?_)))))
       refine OkE.pas (v:=(pP (pB y.c.p) (pO y.c.p+l*3))) rfl (AB rfl) (AL (j:=l) rfl rfl y.c.ok Tryz.underlying36 Tryz.sizeOf115 rfl (by omega)) rfl rfl (OkE.pas (v:=(pP (pB y.c.p) (pO y.c.p+(l*3+1)))) rfl (AB rfl) (AA rfl Tryz.underlying115 rfl Tryz.sizeOf3 (Nat.add_assoc _ _ _)) rfl rfl (OkE.pas (v:=(vI ((vs.getD l ((0,0,0):Z3)).2.1))) rfl (AB rfl) (AZ (v:=(vI ((vs.getD l ((0,0,0):Z3)).2.1))) (i:=7) rfl rfl (A6.ne y.c.ok (by omega)) Be (Bf Ak ((0,0,0):Z3) _ _ 1 (by omega) (by decide) rfl)) rfl rfl (OkE.pas (v:=(Value.bool true)) rfl (AB rfl) (B7 (c:=true) rfl rfl (decide_eq_true q2)) rfl rfl (Aw (v:=(Value.bool true)) rfl (AV rfl rfl) (BS rfl ?_)))))
       refine OkE.skp rfl (AG rfl) rfl rfl (OkE.skp rfl (AG rfl) rfl rfl (OkE.skp rfl (AG rfl) rfl rfl (OkE.skp rfl (AG rfl) rfl rfl (OkE.skp rfl (AG rfl) rfl rfl (OkE.skp rfl (AG rfl) rfl rfl ?_)))))
       refine OkE.skp rfl (AG rfl) rfl rfl (OkE.skp rfl (AG rfl) rfl rfl (OkE.skp rfl (AG rfl) rfl rfl (OkE.skp rfl (AG rfl) rfl rfl (OkE.skp rfl (AG rfl) rfl rfl (OkE.skp rfl (AG rfl) rfl rfl ?_)))))
       refine OkE.skp rfl (AG rfl) rfl rfl (Aw (v:=(Value.bool true)) rfl (AT rfl rfl) (OkE.nil (AC.subF (sL [2,3,7,119] rfl) (AC.then_ (AF.cond_true rfl ?_)))))
       refine q4 (asg' rfl (AD.nil (AC.subF (sL [2,3,7,4] rfl) (AC.then_ (AF.ret ?_)))))
       exact AC.in_ret (AC.then_ret (AC.round1_ret (AC.in_ret (AC.then_ret (AN rfl (AQ (v:=(Value.bool false)) rfl) (λw hw=>⟨by rw [decide_eq_false hne],hw.out⟩))))))
     ·skip
      have hne:¬(ps=qs/\ts=us/\ss=vs):=λh=>EY (d:=((0,0,0):Z3)) (i:=l) (xs:=ss) (ys:=vs) (λe=>q1 (by rw [e])) h.2.2
      refine Cw [(0,true),(1,true),(2,true),(3,true),(4,true),(5,true),(6,true),(7,true),(8,true),(9,true),(10,true),(11,true),(12,true),(13,true),(14,true),(15,true),(16,true),(17,true),(18,true),(19,true),(20,true),(21,true),(22,true),(23,true),(24,true),(25,true),(26,true),(27,true),(28,true),(29,true),(30,true),(31,true),(32,true),(33,true),(34,true),(35,true),(36,true),(37,true),(38,true),(39,true),(40,true),(41,true),(42,true)] sr (Aw (v:=(pP b1 2)) rfl (AA rfl Tryz.underlying30 rfl Tryz.sizeOf24 rfl) (Bm 1 (Value.slice x.c.p ss.length x.c.c) Cz rfl (BS rfl (Aw (v:=(pP (pB x.c.p) (pO x.c.p+l*3))) rfl (AL (j:=l) rfl rfl x.c.ok Tryz.underlying24 Tryz.sizeOf55 rfl (by omega)) (Aw (v:=(pP (pB x.c.p) (pO x.c.p+(l*3+0)))) rfl (AA rfl Tryz.underlying55 rfl Tryz.sizeOf3 (Nat.add_assoc _ _ _)) ?_)))))
      refine Aw rfl (AZ (v:=(vI ((ss.getD l ((0,0,0):Z3)).1))) (i:=4) rfl rfl (A6.ne x.c.ok (by omega)) Be (Bf Ak ((0,0,0):Z3) _ _ 0 (by omega) (by decide) rfl)) (Aw (v:=(pP b2 2)) rfl (AA rfl Tryz.underlying38 rfl Tryz.sizeOf36 rfl) (Bm 0 (Value.slice y.c.p vs.length y.c.c) MR rfl (BS rfl (Aw (v:=(pP (pB y.c.p) (pO y.c.p+l*3))) rfl (AL (j:=l) rfl rfl y.c.ok Tryz.underlying36 Tryz.sizeOf115 rfl (by omega)) (Aw (v:=(pP (pB y.c.p) (pO y.c.p+(l*3+0)))) rfl (AA rfl Tryz.underlying115 rfl Tryz.sizeOf3 (Nat.add_assoc _ _ _)) ?_)))))
      refine Aw rfl (AZ (v:=(vI ((vs.getD l ((0,0,0):Z3)).1))) (i:=7) rfl rfl (A6.ne y.c.ok (by omega)) Be (Bf Ak ((0,0,0):Z3) _ _ 0 (by omega) (by decide) rfl)) (Aw rfl (B7 (c:=true) rfl rfl (decide_eq_true q1)) (BS rfl (OkE.skp rfl (AG rfl) rfl rfl (OkE.skp rfl (AG rfl) rfl rfl (OkE.skp rfl (AG rfl) rfl rfl ?_)))))
      refine OkE.skp rfl (AG rfl) rfl rfl (OkE.skp rfl (AG rfl) rfl rfl (OkE.skp rfl (AG rfl) rfl rfl (OkE.skp rfl (AG rfl) rfl rfl (OkE.skp rfl (AG rfl) rfl rfl (OkE.skp rfl (AG rfl) rfl rfl ?_)))))
      refine OkE.skp rfl (AG rfl) rfl rfl (OkE.skp rfl (AG rfl) rfl rfl (OkE.skp rfl (AG rfl) rfl rfl (OkE.skp rfl (AG rfl) rfl rfl (Aw (v:=(Value.bool true)) rfl (AT rfl rfl) (BS rfl ?_)))))
      refine OkE.skp rfl (AG rfl) rfl rfl (OkE.skp rfl (AG rfl) rfl rfl (OkE.skp rfl (AG rfl) rfl rfl (OkE.skp rfl (AG rfl) rfl rfl (OkE.skp rfl (AG rfl) rfl rfl (OkE.skp rfl (AG rfl) rfl rfl ?_)))))
      refine OkE.skp rfl (AG rfl) rfl rfl (OkE.skp rfl (AG rfl) rfl rfl (OkE.skp rfl (AG rfl) rfl rfl (OkE.skp rfl (AG rfl) rfl rfl (OkE.skp rfl (AG rfl) rfl rfl (OkE.skp rfl (AG rfl) rfl rfl ?_)))))
      refine OkE.skp rfl (AG rfl) rfl rfl (Aw (v:=(Value.bool true)) rfl (AT rfl rfl) (OkE.nil (AC.subF (sL [2,3,7,119] rfl) (AC.then_ (AF.cond_true rfl ?_)))))
      refine q4 (asg' rfl (AD.nil (AC.subF (sL [2,3,7,4] rfl) (AC.then_ (AF.ret ?_)))))
      exact AC.in_ret (AC.then_ret (AC.round1_ret (AC.in_ret (AC.then_ret (AN rfl (AQ (v:=(Value.bool false)) rfl) (λw hw=>⟨by rw [decide_eq_false hne],hw.out⟩))))))
    ·replace hc5:=of_decide_eq_false hc5
     have hE3:ss=vs:=E7 (d:=((0,0,0):Z3)) hl3 λk hk=>el k (by omega)
     have heq:ps=qs/\ts=us/\ss=vs:=⟨hE1,hE2,hE3⟩
     refine AF.exit (AC.then_exit (AC.round1_exit (AC.in_exit (q2 (asg' rfl ?_)))))
     exact AD.nil (AC.then_ (AF.ret (AN rfl (AQ (v:=(Value.bool true)) rfl) (λw hw=>⟨by rw [decide_eq_true heq],hw.out⟩))))
end
end Go.Proofs.YtpgncndhhhllfaaGreatDoor
