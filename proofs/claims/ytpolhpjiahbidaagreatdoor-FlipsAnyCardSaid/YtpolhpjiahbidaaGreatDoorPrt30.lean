import Derived.Test.YtpolhpjiahbidaaGreatDoorPrt29
namespace Go.Proofs.YtpolhpjiahbidaaGreatDoor
open Go Go.RowKit Go.Proofs.Tryz
open Go.Value renaming slice→qz,bool→qa
set_option linter.unusedVariables false
set_option linter.unusedSimpArgs false
section
set_option maxRecDepth 100000
set_option maxHeartbeats 1000000 in
theorem Oc {ps qs:List Pt} {ts ss us vs:List Z3} (x:MZ ps ts ss) (y:Hy qs us vs) (hz1:∀i,i<ps.length->PW (ps.getD i ⟨0,0⟩)) (hz0:∀i,i<qs.length->BV (qs.getD i ⟨0,0⟩)<=16777216) (hp:ps.length<=1000000) (ht:ts.length<=1000000) (hs:ss.length<=1000000) (w:World) {S:Nat->Prop} (hx:Ro S w x) (hy:Ro S w y) (hT:Kh w):Calls prog 14 #[(aG (Cv x)),(aG (HN y))] w (AX w (qa (decide (ps=qs/\ts=us/\ss=vs)))):=by
 have hrl:=y.len
 have hz2:∀i,i<y.rs.length->BV (y.rs.getD i Cn).p<=16777216:=λi h=>by rw [y.at h];exact hz0 i Z
 have lx:=Bq (W:=w) hx
 have ly:=Bq (W:=w) hy
 refine AR (args:=[(aG (Cv x)),(aG (HN y))]) (L:=(AC x.a.p (rowsL Ad ps)::AC x.b.p (rowsL Af ts)::AC x.c.p (rowsL Af ss)::AC y.a.p (rowsL CW y.rs)::AC y.b.p (rowsL Af us)::AC y.c.p (rowsL Af vs)::B5 y.rs)) func14 O O (leB O) (C7 hx (Xk hy)) (zM (sL [0,1] O) (q4 (BG (cs:=Cv x) O λb1=>BG (cs:=HN y) O λb2=>asg' O (q6 (sL [2,3,4] O) (q4 (st' (v:=(pP b1 0)) (AA O underlying30 O sizeOf28 O) O (A_ 1 (qz x.a.p ps.length x.a.c) DS O (st' (v:=(vN ps.length)) (AD O underlying28) O (st' (v:=(pP b2 0)) (AA O underlying39 O sizeOf36 O) O ?_)))))))))
 refine A_ 0 (qz y.a.p y.rs.length y.a.c) Fm O (st' (v:=(vN y.rs.length)) (AD O underlying36) O (st' (Bf (c:=(decide (ps.length≠y.rs.length))) O O (Q8 (a:=ps.length) (b:=y.rs.length))) O (AJ O ?_)))
 refine zg (FM:=[(2,(pP b1 0)),(3,(pP b2 0)),(4,(qa false)),(8,(pP b1 0)),(9,(qz x.a.p ps.length x.a.c)),(10,(vN ps.length)),(11,(pP b2 0)),(12,(qz y.a.p y.rs.length y.a.c)),(13,(vN y.rs.length)),(14,(qa (decide (ps.length≠y.rs.length)))),(15,(qa (decide (ps.length≠y.rs.length)))),(23,(qa ((decide (ps.length≠y.rs.length))||(decide (ts.length≠us.length)))))]) (LM:=(AU b2 39 (HN y)::AU b1 30 (Cv x)::AC x.a.p (rowsL Ad ps)::AC x.b.p (rowsL Af ts)::AC x.c.p (rowsL Af ss)::AC y.a.p (rowsL CW y.rs)::AC y.b.p (rowsL Af us)::AC y.c.p (rowsL Af vs)::B5 y.rs)) 8 ?_ ?_
 ·rcases xO (decide (ps.length≠y.rs.length)) with hg1|hg1
  ·refine zK (k:=15) (u:=qa true) O (by rw [hg1]) ?_
   have hg1':=xR hg1
   exact Aw O (Aw O (Aw O (Aw O (Aw O (Aw O (Aw O (st' (v:=(qa true)) (ex_pick_true O O) O (oNl' (zS Bi (xP _))))))))))
  ·refine zK (k:=15) (u:=qa false) O (by rw [hg1]) ?_
   have hg1':=xQ hg1
   exact Au (v:=(pP b1 1)) O (AA O underlying30 O sizeOf23 O) (Au (v:=(qz x.b.p ts.length x.b.c)) O (AE (i:=1) (v:=(qz x.b.p ts.length x.b.c)) O O CQ.a O) (Au (v:=(vN ts.length)) O (AD O underlying23) (Au (v:=(pP b2 1)) O (AA O underlying39 O sizeOf23 O) (Au (v:=(qz y.b.p us.length y.b.c)) O (AE (i:=0) (v:=(qz y.b.p us.length y.b.c)) O O CQ.a O) (Au (v:=(vN us.length)) O (AD O underlying23) (Au (v:=(qa (decide (ts.length≠us.length)))) O (Bf (c:=(decide (ts.length≠us.length))) O O (Q8 (a:=ts.length) (b:=us.length))) (st' (v:=(qa (decide (ts.length≠us.length)))) (AI O O) O (oNl' (zS Bi (xP _))))))))))
 refine AJ O ?_
 refine zg (FM:=[(2,(pP b1 0)),(3,(pP b2 0)),(4,(qa false)),(8,(pP b1 0)),(9,(qz x.a.p ps.length x.a.c)),(10,(vN ps.length)),(11,(pP b2 0)),(12,(qz y.a.p y.rs.length y.a.c)),(13,(vN y.rs.length)),(14,(qa (decide (ps.length≠y.rs.length)))),(15,(qa (decide (ps.length≠y.rs.length)))),(23,(qa ((decide (ps.length≠y.rs.length))||(decide (ts.length≠us.length))))),(24,(qa ((decide (ps.length≠y.rs.length))||(decide (ts.length≠us.length))))),(32,(qa (((decide (ps.length≠y.rs.length))||(decide (ts.length≠us.length)))||(decide (ss.length≠vs.length)))))]) (LM:=(AU b2 39 (HN y)::AU b1 30 (Cv x)::AC x.a.p (rowsL Ad ps)::AC x.b.p (rowsL Af ts)::AC x.c.p (rowsL Af ss)::AC y.a.p (rowsL CW y.rs)::AC y.b.p (rowsL Af us)::AC y.c.p (rowsL Af vs)::B5 y.rs)) 8 ?_ ?_
 ·rcases xO ((decide (ps.length≠y.rs.length))||(decide (ts.length≠us.length))) with hg2|hg2
  ·refine zK (k:=24) (u:=qa true) O (by rw [hg2]) ?_
   have hg2':=hg2
   simp only [jK] at hg2'
   exact Aw O (Aw O (Aw O (Aw O (Aw O (Aw O (Aw O (st' (v:=(qa true)) (ex_pick_true O O) O (oNl' (zS EW (xP _))))))))))
  ·refine zK (k:=24) (u:=qa false) O (by rw [hg2]) ?_
   have hg2':=hg2
   simp only [jK] at hg2'
   exact Au (v:=(pP b1 2)) O (AA O underlying30 O sizeOf24 O) (Au (v:=(qz x.c.p ss.length x.c.c)) O (AE (i:=1) (v:=(qz x.c.p ss.length x.c.c)) O O GS.a O) (Au (v:=(vN ss.length)) O (AD O underlying24) (Au (v:=(pP b2 2)) O (AA O underlying39 O sizeOf37 O) (Au (v:=(qz y.c.p vs.length y.c.c)) O (AE (i:=0) (v:=(qz y.c.p vs.length y.c.c)) O O OI.a O) (Au (v:=(vN vs.length)) O (AD O underlying37) (Au (v:=(qa (decide (ss.length≠vs.length)))) O (Bf (c:=(decide (ss.length≠vs.length))) O O (Q8 (a:=ss.length) (b:=vs.length))) (st' (v:=(qa (decide (ss.length≠vs.length)))) (AI O O) O (oNl' (zS EW (xP _))))))))))
 refine oNl' (zF (sL [2,3,4,32] O) (zC ?_))
 refine zO O (λhc0=>?_) (λhc0=>?_)
 ·simp only [jK] at hc0
  have hne:¬(ps=qs/\ts=us/\ss=vs):=λh=>by obtain ⟨rfl,rfl,rfl⟩:=h;grind
  exact q4 (asg' O (oNl' (zC (zH (zI (ret_one O (rd_tmp (v:=(qa false)) O) (λw hw=>⟨by rw [xq hne],hw.out⟩)))))))
 ·simp only [jK] at hc0
  have hl1:ps.length=qs.length:=by grind
  have hl2:ts.length=us.length:=by grind
  have hl3:ss.length=vs.length:=by grind
  refine zJ (q1 (q4 (asg' O (oNl' (zC (zN ?_))))))
  refine zw (tg λ(i:Nat)=>i<=ps.length/\∀k,k<i->ps.getD k (⟨0,0⟩:Pt)=qs.getD k (⟨0,0⟩:Pt)) (tg λ(i:Nat)=>[(2,(pP b1 0)),(3,(pP b2 0)),(5,(vN i))]) (tg λ(i:Nat)=>(AU b2 39 (HN y)::AU b1 30 (Cv x)::AC x.a.p (rowsL Ad ps)::AC x.b.p (rowsL Af ts)::AC x.c.p (rowsL Af ss)::AC y.a.p (rowsL CW y.rs)::AC y.b.p (rowsL Af us)::AC y.c.p (rowsL Af vs)::B5 y.rs)) (tg λ(i:Nat)=>ps.length-i) 0 (⟨xu _,λk h=>absurd h (Nat.not_lt_zero _)⟩) (sF O) sr (λi hJ=>?_)
  obtain ⟨hi,ei⟩:=hJ
  refine zf (q4 (AJ O (st' (v:=(pP b1 0)) (AA O underlying30 O sizeOf28 O) O (A_ 1 (qz x.a.p ps.length x.a.c) DS O (st' (v:=(vN ps.length)) (AD O underlying28) O (st' (AW (c:=(decide (i<ps.length))) O O (B_ (a:=i) (b:=ps.length))) O (oNl' (zF (sL [2,3,5,37] O) (zC ?_)))))))))
  refine zO O (λhc1=>?_) (λhc1=>?_)
  ·replace hc1:=xR hc1
   refine zJ (q1 (zN (zf (CE (Dm 10++[(10,false),(11,true)]) sr (Ag (v:=(pP b1 0)) O (AA O underlying30 O sizeOf28 O) (BC 1 (qz x.a.p ps.length x.a.c) DS O (Bl O (Ag (v:=(pP (pB x.a.p) (pO x.a.p+i*10))) O (AF (j:=i) O O x.a.ok underlying28 sizeOf99 O Z) (Ag (v:=(aG (Ad (ps.getD i (⟨0,0⟩:Pt))))) O (AH (vs:=Ad (ps.getD i (⟨0,0⟩:Pt))) (i:=2) O O (Ao.ne x.a.ok Z) BD (AZ Az _ _ _ Z) (Az _)) (Ag (v:=(pP b2 0)) O (AA O underlying39 O sizeOf36 O) (BC 0 (qz y.a.p y.rs.length y.a.c) Fm O ?_)))))))))))
   refine Bl O (Ag (v:=(pP (pB y.a.p) (pO y.a.p+i*6))) O (AF (j:=i) O O y.a.ok underlying36 sizeOf121 O Z) (Ag (v:=(aG (BU ((y.rs.getD i Cn).x)))) O (AH (vs:=BU ((y.rs.getD i Cn).x)) (i:=5) O O (Ao.ne y.a.ok Z) BK (AZ Bd Cn _ _ Z) (Bd _)) (zL O (Bx call49 (λw hw=>ao (ps.getD i (⟨0,0⟩:Pt)) ((y.rs.getD i Cn).x) (hz1 _ Z) (hz2 _ Z) w (bQ (S:=S) (L:=(AU b2 39 (HN y)::AU b1 30 (Cv x)::AC x.a.p (rowsL Ad ps)::AC x.b.p (rowsL Af ts)::AC x.c.p (rowsL Af ss)::AC y.a.p (rowsL CW y.rs)::AC y.b.p (rowsL Af us)::AC y.c.p (rowsL Af vs)::B5 y.rs)) (rs:=y.rs) hw (λz hz=>xt [AU b2 39 (HN y),AU b1 30 (Cv x),AC x.a.p (rowsL Ad ps),AC x.b.p (rowsL Af ts),AC x.c.p (rowsL Af ss),AC y.a.p (rowsL CW y.rs),AC y.b.p (rowsL Af us),AC y.c.p (rowsL Af vs)] hz) Z (At.rpt ly)) (hT.below hw.out)) O (zG sr (Ag O (BB (c:=(!(decide (ps.getD i (⟨0,0⟩:Pt)=(y.rs.getD i Cn).p)))) O O) (zT (zF (sL [2,3,5,51] O) (zC ?_)))))))))
   refine zO O (λhc2=>?_) (λhc2=>?_)
   ·simp only [jK] at hc2
    have hne:¬(ps=qs/\ts=us/\ss=vs):=λh=>Fx (d:=(⟨0,0⟩:Pt)) (i:=i) (xs:=ps) (ys:=qs) (by rw [<-y.at Z];grind) h.1
    exact q4 (asg' O (oNl' (zC (zH (zU (zI (zr (zU (zI (ret_one O (rd_tmp (v:=(qa false)) O) (λw hw=>⟨by rw [xq hne],hw.out⟩)))))))))))
   ·simp only [jK] at hc2
    have hei:ps.getD i (⟨0,0⟩:Pt)=qs.getD i (⟨0,0⟩:Pt):=by rw [<-y.at Z];grind
    exact zJ (zP (zC (zQ (AJ O (st' (AV (c:=((i+1:Nat):Int)) O O (AY (a:=i) (b:=1) Z)) O (asg' O (oNl' (zF (sL [2,3,5] O) (zm (i+1) (⟨Z,λk hk=>by rcases Nat.lt_or_ge k i with q|q;exact ei k q;rw [show k=i by omega];exact hei⟩) Z (sF O) sr)))))))))
  ·replace hc1:=xQ hc1
   have hE1:ps=qs:=GI (d:=(⟨0,0⟩:Pt)) hl1 λk hk=>ei k Z
   refine zY (zR (zh (zV (q1 (q4 (asg' O (oNl' (zC (zN ?_)))))))))
   refine zw (tg λ(j:Nat)=>j<=ts.length/\∀k,k<j->ts.getD k ((0,0,0):Z3)=us.getD k ((0,0,0):Z3)) (tg λ(j:Nat)=>[(2,(pP b1 0)),(3,(pP b2 0)),(6,(vN j))]) (tg λ(j:Nat)=>(AU b2 39 (HN y)::AU b1 30 (Cv x)::AC x.a.p (rowsL Ad ps)::AC x.b.p (rowsL Af ts)::AC x.c.p (rowsL Af ss)::AC y.a.p (rowsL CW y.rs)::AC y.b.p (rowsL Af us)::AC y.c.p (rowsL Af vs)::B5 y.rs)) (tg λ(j:Nat)=>ts.length-j) 0 (⟨xu _,λk h=>absurd h (Nat.not_lt_zero _)⟩) (sF O) sr (λj hJ=>?_)
   obtain ⟨hj,ej⟩:=hJ
   refine zf (q4 (AJ O (st' (v:=(pP b1 1)) (AA O underlying30 O sizeOf23 O) O (A_ 1 (qz x.b.p ts.length x.b.c) CQ O (st' (v:=(vN ts.length)) (AD O underlying23) O (st' (AW (c:=(decide (j<ts.length))) O O (B_ (a:=j) (b:=ts.length))) O (oNl' (zF (sL [2,3,6,56] O) (zC ?_)))))))))
   refine zO O (λhc3=>?_) (λhc3=>?_)
   ·replace hc3:=xR hc3
    refine zJ (q1 (zN (zf (CE (Dm 11) sr (Ag (v:=(pP b1 1)) O (AA O underlying30 O sizeOf23 O) (BC 1 (qz x.b.p ts.length x.b.c) CQ O (Bl O (Ag (v:=(pP (pB x.b.p) (pO x.b.p+j*3))) O (AF (j:=j) O O x.b.ok underlying23 sizeOf105 O Z) (Ag (v:=(aG (Af (ts.getD j ((0,0,0):Z3))))) O (AH (vs:=Af (ts.getD j ((0,0,0):Z3))) (i:=3) O O (Ao.ne x.b.ok Z) CY (AZ BF _ _ _ Z) (BF _)) (Ag (v:=(pP b2 1)) O (AA O underlying39 O sizeOf23 O) (BC 0 (qz y.b.p us.length y.b.c) CQ O ?_)))))))))))
    refine Bl O (Ag (v:=(pP (pB y.b.p) (pO y.b.p+j*3))) O (AF (j:=j) O O y.b.ok underlying23 sizeOf105 O Z) (Ag (v:=(aG (Af (us.getD j ((0,0,0):Z3))))) O (AH (vs:=Af (us.getD j ((0,0,0):Z3))) (i:=6) O O (Ao.ne y.b.ok Z) CY (AZ BF _ _ _ Z) (BF _)) (Ag O (Nq (c:=decide (ts.getD j ((0,0,0):Z3)=us.getD j ((0,0,0):Z3))) O O eqGuardType105 (Vt 9998 (ts.getD j ((0,0,0):Z3)) (us.getD j ((0,0,0):Z3))) (show (!decide (ts.getD j ((0,0,0):Z3)=us.getD j ((0,0,0):Z3)))=decide (ts.getD j ((0,0,0):Z3)≠us.getD j ((0,0,0):Z3)) from decide_not.symm)) (zT (zF (sL [2,3,6,69] O) (zC ?_))))))
    refine zO O (λhc4=>?_) (λhc4=>?_)
    ·replace hc4:=xR hc4
     have hne:¬(ps=qs/\ts=us/\ss=vs):=λh=>Fx (d:=((0,0,0):Z3)) (i:=j) (xs:=ts) (ys:=us) (by grind) h.2.1
     exact q4 (asg' O (oNl' (zC (zH (zU (zI (zr (zU (zI (ret_one O (rd_tmp (v:=(qa false)) O) (λw hw=>⟨by rw [xq hne],hw.out⟩)))))))))))
    ·replace hc4:=xQ hc4
     have hej:ts.getD j ((0,0,0):Z3)=us.getD j ((0,0,0):Z3):=by grind
     exact zJ (zP (zC (zQ (AJ O (st' (AV (c:=((j+1:Nat):Int)) O O (AY (a:=j) (b:=1) Z)) O (asg' O (oNl' (zF (sL [2,3,6] O) (zm (j+1) (⟨Z,λk hk=>by rcases Nat.lt_or_ge k j with q|q;exact ej k q;rw [show k=j by omega];exact hej⟩) Z (sF O) sr)))))))))
   ·replace hc3:=xQ hc3
    have hE2:ts=us:=GI (d:=((0,0,0):Z3)) hl2 λk hk=>ej k Z
    refine zY (zR (zh (zV (q1 (q4 (asg' O (oNl' (zC (zN ?_)))))))))
    refine zw (tg λ(l:Nat)=>l<=ss.length/\∀k,k<l->ss.getD k ((0,0,0):Z3)=vs.getD k ((0,0,0):Z3)) (tg λ(l:Nat)=>[(2,(pP b1 0)),(3,(pP b2 0)),(7,(vN l))]) (tg λ(l:Nat)=>(AU b2 39 (HN y)::AU b1 30 (Cv x)::AC x.a.p (rowsL Ad ps)::AC x.b.p (rowsL Af ts)::AC x.c.p (rowsL Af ss)::AC y.a.p (rowsL CW y.rs)::AC y.b.p (rowsL Af us)::AC y.c.p (rowsL Af vs)::B5 y.rs)) (tg λ(l:Nat)=>ss.length-l) 0 (⟨xu _,λk h=>absurd h (Nat.not_lt_zero _)⟩) (sF O) sr (λl hJ=>?_)
    obtain ⟨hl,el⟩:=hJ
    refine zf (q4 (AJ O (st' (v:=(pP b1 2)) (AA O underlying30 O sizeOf24 O) O (A_ 1 (qz x.c.p ss.length x.c.c) GS O (st' (v:=(vN ss.length)) (AD O underlying24) O (st' (AW (c:=(decide (l<ss.length))) O O (B_ (a:=l) (b:=ss.length))) O (oNl' (zF (sL [2,3,7,74] O) (zC ?_)))))))))
    refine zO O (λhc5=>?_) (λhc5=>?_)
    ·replace hc5:=xR hc5
     refine zJ (q1 (zN (zf ?_)))
     by_cases q1:(ss.getD l ((0,0,0):Z3)).1=(vs.getD l ((0,0,0):Z3)).1
     ·by_cases q2:(ss.getD l ((0,0,0):Z3)).2.1=(vs.getD l ((0,0,0):Z3)).2.1
      ·refine CE (Dm 43) sr (Ag (v:=(pP b1 2)) O (AA O underlying30 O sizeOf24 O) (BC 1 (qz x.c.p ss.length x.c.c) GS O (Bl O (Ag (v:=(pP (pB x.c.p) (pO x.c.p+l*3))) O (AF (j:=l) O O x.c.ok underlying24 sizeOf110 O Z) (Ag (v:=(pP (pB x.c.p) (pO x.c.p+(l*3+0)))) O (AA O underlying110 O sizeOf3 (Nat.add_assoc _ _ _)) (Ag O (Ab (v:=(vI ((ss.getD l ((0,0,0):Z3)).1))) (i:=4) O O (Ao.ne x.c.ok Z) BN (By BF ((0,0,0):Z3) _ _ 0 Z jY O)) (Ag (v:=(pP b2 2)) O (AA O underlying39 O sizeOf37 O) (BC 0 (qz y.c.p vs.length y.c.c) OI O (Bl O (Ag (v:=(pP (pB y.c.p) (pO y.c.p+l*3))) O (AF (j:=l) O O y.c.ok underlying37 sizeOf119 O Z) (Ag (v:=(pP (pB y.c.p) (pO y.c.p+(l*3+0)))) O (AA O underlying119 O sizeOf3 (Nat.add_assoc _ _ _)) ?_)))))))))))
       refine Ag O (Ab (v:=(vI ((vs.getD l ((0,0,0):Z3)).1))) (i:=7) O O (Ao.ne y.c.ok Z) BN (By BF ((0,0,0):Z3) _ _ 0 Z jY O)) (Ag O (Bf (c:=false) O O (xq λh=>h q1)) (Bl O (zW (v:=(pP b1 2)) O (AN O) (AA O underlying30 O sizeOf24 O) O O (zW (v:=(qz x.c.p ss.length x.c.c)) O (AN O) (AE (i:=1) (v:=(qz x.c.p ss.length x.c.c)) O O GS.a O) O O (zW (v:=(vN l)) O (AN O) (Bv O) O O (zW (v:=(pP (pB x.c.p) (pO x.c.p+l*3))) O (AN O) (AF (j:=l) O O x.c.ok underlying24 sizeOf110 O Z) O O (zW (v:=(pP (pB x.c.p) (pO x.c.p+(l*3+1)))) O (AN O) (AA O underlying110 O sizeOf3 (Nat.add_assoc _ _ _)) O O (zW (v:=(vI ((ss.getD l ((0,0,0):Z3)).2.1))) O (AN O) (Ab (v:=(vI ((ss.getD l ((0,0,0):Z3)).2.1))) (i:=4) O O (Ao.ne x.c.ok Z) BN (By BF ((0,0,0):Z3) _ _ 1 Z jY O)) O O (zW (v:=(pP b2 2)) O (AN O) (AA O underlying39 O sizeOf37 O) O O (zW (v:=(qz y.c.p vs.length y.c.c)) O (AN O) (AE (i:=0) (v:=(qz y.c.p vs.length y.c.c)) O O OI.a O) O O (zW (v:=(vN l)) O (AN O) (Bv O) O O ?_)))))))))))
       refine zW (v:=(pP (pB y.c.p) (pO y.c.p+l*3))) O (AN O) (AF (j:=l) O O y.c.ok underlying37 sizeOf119 O Z) O O (zW (v:=(pP (pB y.c.p) (pO y.c.p+(l*3+1)))) O (AN O) (AA O underlying119 O sizeOf3 (Nat.add_assoc _ _ _)) O O (zW (v:=(vI ((vs.getD l ((0,0,0):Z3)).2.1))) O (AN O) (Ab (v:=(vI ((vs.getD l ((0,0,0):Z3)).2.1))) (i:=7) O O (Ao.ne y.c.ok Z) BN (By BF ((0,0,0):Z3) _ _ 1 Z jY O)) O O (zW (v:=(qa false)) O (AN O) (Bf (c:=false) O O (xq λh=>h q2)) O O (Ag (v:=(qa false)) O (AI O O) (Bl O (zW (v:=(pP b1 2)) O (AN O) (AA O underlying30 O sizeOf24 O) O O (zW (v:=(qz x.c.p ss.length x.c.c)) O (AN O) (AE (i:=1) (v:=(qz x.c.p ss.length x.c.c)) O O GS.a O) O O (zW (v:=(vN l)) O (AN O) (Bv O) O O (zW (v:=(pP (pB x.c.p) (pO x.c.p+l*3))) O (AN O) (AF (j:=l) O O x.c.ok underlying24 sizeOf110 O Z) O O (zW (v:=(pP (pB x.c.p) (pO x.c.p+(l*3+2)))) O (AN O) (AA O underlying110 O sizeOf3 (Nat.add_assoc _ _ _)) O O (zW (v:=(vI ((ss.getD l ((0,0,0):Z3)).2.2))) O (AN O) (Ab (v:=(vI ((ss.getD l ((0,0,0):Z3)).2.2))) (i:=4) O O (Ao.ne x.c.ok Z) BN (By BF ((0,0,0):Z3) _ _ 2 Z jY O)) O O ?_)))))))))))
       refine zW (v:=(pP b2 2)) O (AN O) (AA O underlying39 O sizeOf37 O) O O (zW (v:=(qz y.c.p vs.length y.c.c)) O (AN O) (AE (i:=0) (v:=(qz y.c.p vs.length y.c.c)) O O OI.a O) O O (zW (v:=(vN l)) O (AN O) (Bv O) O O (zW (v:=(pP (pB y.c.p) (pO y.c.p+l*3))) O (AN O) (AF (j:=l) O O y.c.ok underlying37 sizeOf119 O Z) O O (zW (v:=(pP (pB y.c.p) (pO y.c.p+(l*3+2)))) O (AN O) (AA O underlying119 O sizeOf3 (Nat.add_assoc _ _ _)) O O (zW (v:=(vI ((vs.getD l ((0,0,0):Z3)).2.2))) O (AN O) (Ab (v:=(vI ((vs.getD l ((0,0,0):Z3)).2.2))) (i:=7) O O (Ao.ne y.c.ok Z) BN (By BF ((0,0,0):Z3) _ _ 2 Z jY O)) O O (zW (v:=(qa (decide (((ss.getD l ((0,0,0):Z3)).2.2)≠((vs.getD l ((0,0,0):Z3)).2.2))))) O (AN O) (Bf (c:=(decide (((ss.getD l ((0,0,0):Z3)).2.2)≠((vs.getD l ((0,0,0):Z3)).2.2)))) O O O) O O (Ag (v:=(qa (decide (((ss.getD l ((0,0,0):Z3)).2.2)≠((vs.getD l ((0,0,0):Z3)).2.2))))) O (AI O O) (zT (zF (sL [2,3,7,119] O) (zC ?_))))))))))
       refine zO O (λhc6=>?_) (λhc6=>?_)
       ·replace hc6:=xR hc6
        have hne:¬(ps=qs/\ts=us/\ss=vs):=λh=>Fx (d:=((0,0,0):Z3)) (i:=l) (xs:=ss) (ys:=vs) (by grind) h.2.2
        exact q4 (asg' O (oNl' (zC (zH (zU (zI (zr (zU (zI (ret_one O (rd_tmp (v:=(qa false)) O) (λw hw=>⟨by rw [xq hne],hw.out⟩)))))))))))
       ·replace hc6:=xQ hc6
        have hel:ss.getD l ((0,0,0):Z3)=vs.getD l ((0,0,0):Z3):=Prod.ext (by grind) (Prod.ext (by grind) (by grind))
        exact zJ (zP (zC (zQ (AJ O (st' (AV (c:=((l+1:Nat):Int)) O O (AY (a:=l) (b:=1) Z)) O (asg' O (oNl' (zF (sL [2,3,7] O) (zm (l+1) (⟨Z,λk hk=>by rcases Nat.lt_or_ge k l with q|q;exact el k q;rw [show k=l by omega];exact hel⟩) Z (sF O) sr)))))))))
      ·have hne:¬(ps=qs/\ts=us/\ss=vs):=λh=>Fx (d:=((0,0,0):Z3)) (i:=l) (xs:=ss) (ys:=vs) (λe=>q2 (by rw [e])) h.2.2
       refine CE (Dm 43) sr (Ag (v:=(pP b1 2)) O (AA O underlying30 O sizeOf24 O) (BC 1 (qz x.c.p ss.length x.c.c) GS O (Bl O (Ag (v:=(pP (pB x.c.p) (pO x.c.p+l*3))) O (AF (j:=l) O O x.c.ok underlying24 sizeOf110 O Z) (Ag (v:=(pP (pB x.c.p) (pO x.c.p+(l*3+0)))) O (AA O underlying110 O sizeOf3 (Nat.add_assoc _ _ _)) (Ag O (Ab (v:=(vI ((ss.getD l ((0,0,0):Z3)).1))) (i:=4) O O (Ao.ne x.c.ok Z) BN (By BF ((0,0,0):Z3) _ _ 0 Z jY O)) (Ag (v:=(pP b2 2)) O (AA O underlying39 O sizeOf37 O) (BC 0 (qz y.c.p vs.length y.c.c) OI O (Bl O (Ag (v:=(pP (pB y.c.p) (pO y.c.p+l*3))) O (AF (j:=l) O O y.c.ok underlying37 sizeOf119 O Z) (Ag (v:=(pP (pB y.c.p) (pO y.c.p+(l*3+0)))) O (AA O underlying119 O sizeOf3 (Nat.add_assoc _ _ _)) ?_)))))))))))
       refine Ag O (Ab (v:=(vI ((vs.getD l ((0,0,0):Z3)).1))) (i:=7) O O (Ao.ne y.c.ok Z) BN (By BF ((0,0,0):Z3) _ _ 0 Z jY O)) (Ag O (Bf (c:=false) O O (xq λh=>h q1)) (Bl O (zW (v:=(pP b1 2)) O (AN O) (AA O underlying30 O sizeOf24 O) O O (zW (v:=(qz x.c.p ss.length x.c.c)) O (AN O) (AE (i:=1) (v:=(qz x.c.p ss.length x.c.c)) O O GS.a O) O O (zW (v:=(vN l)) O (AN O) (Bv O) O O (zW (v:=(pP (pB x.c.p) (pO x.c.p+l*3))) O (AN O) (AF (j:=l) O O x.c.ok underlying24 sizeOf110 O Z) O O (zW (v:=(pP (pB x.c.p) (pO x.c.p+(l*3+1)))) O (AN O) (AA O underlying110 O sizeOf3 (Nat.add_assoc _ _ _)) O O (zW (v:=(vI ((ss.getD l ((0,0,0):Z3)).2.1))) O (AN O) (Ab (v:=(vI ((ss.getD l ((0,0,0):Z3)).2.1))) (i:=4) O O (Ao.ne x.c.ok Z) BN (By BF ((0,0,0):Z3) _ _ 1 Z jY O)) O O (zW (v:=(pP b2 2)) O (AN O) (AA O underlying39 O sizeOf37 O) O O (zW (v:=(qz y.c.p vs.length y.c.c)) O (AN O) (AE (i:=0) (v:=(qz y.c.p vs.length y.c.c)) O O OI.a O) O O (zW (v:=(vN l)) O (AN O) (Bv O) O O ?_)))))))))))
       refine zW (v:=(pP (pB y.c.p) (pO y.c.p+l*3))) O (AN O) (AF (j:=l) O O y.c.ok underlying37 sizeOf119 O Z) O O (zW (v:=(pP (pB y.c.p) (pO y.c.p+(l*3+1)))) O (AN O) (AA O underlying119 O sizeOf3 (Nat.add_assoc _ _ _)) O O (zW (v:=(vI ((vs.getD l ((0,0,0):Z3)).2.1))) O (AN O) (Ab (v:=(vI ((vs.getD l ((0,0,0):Z3)).2.1))) (i:=7) O O (Ao.ne y.c.ok Z) BN (By BF ((0,0,0):Z3) _ _ 1 Z jY O)) O O (zW (v:=(qa true)) O (AN O) (Bf (c:=true) O O (xr q2)) O O (Ag (v:=(qa true)) O (AI O O) (Bl O (ze O (Ap O) O O (ze O (Ap O) O O (ze O (Ap O) O O (ze O (Ap O) O O (ze O (Ap O) O O (ze O (Ap O) O O ?_)))))))))))
       refine ze O (Ap O) O O (ze O (Ap O) O O (ze O (Ap O) O O (ze O (Ap O) O O (ze O (Ap O) O O (ze O (Ap O) O O (ze O (Ap O) O O (Ag (v:=(qa true)) O (ex_pick_true O O) (zT (zF (sL [2,3,7,119] O) (zC (zZ O ?_)))))))))))
       exact q4 (asg' O (oNl' (zF (sL [2,3,7,4] O) (zC (zH (zU (zI (zr (zU (zI (ret_one O (rd_tmp (v:=(qa false)) O) (λw hw=>⟨by rw [xq hne],hw.out⟩))))))))))))
     ·have hne:¬(ps=qs/\ts=us/\ss=vs):=λh=>Fx (d:=((0,0,0):Z3)) (i:=l) (xs:=ss) (ys:=vs) (λe=>q1 (by rw [e])) h.2.2
      refine CE (Dm 43) sr (Ag (v:=(pP b1 2)) O (AA O underlying30 O sizeOf24 O) (BC 1 (qz x.c.p ss.length x.c.c) GS O (Bl O (Ag (v:=(pP (pB x.c.p) (pO x.c.p+l*3))) O (AF (j:=l) O O x.c.ok underlying24 sizeOf110 O Z) (Ag (v:=(pP (pB x.c.p) (pO x.c.p+(l*3+0)))) O (AA O underlying110 O sizeOf3 (Nat.add_assoc _ _ _)) (Ag O (Ab (v:=(vI ((ss.getD l ((0,0,0):Z3)).1))) (i:=4) O O (Ao.ne x.c.ok Z) BN (By BF ((0,0,0):Z3) _ _ 0 Z jY O)) (Ag (v:=(pP b2 2)) O (AA O underlying39 O sizeOf37 O) (BC 0 (qz y.c.p vs.length y.c.c) OI O (Bl O (Ag (v:=(pP (pB y.c.p) (pO y.c.p+l*3))) O (AF (j:=l) O O y.c.ok underlying37 sizeOf119 O Z) (Ag (v:=(pP (pB y.c.p) (pO y.c.p+(l*3+0)))) O (AA O underlying119 O sizeOf3 (Nat.add_assoc _ _ _)) ?_)))))))))))
      refine Ag O (Ab (v:=(vI ((vs.getD l ((0,0,0):Z3)).1))) (i:=7) O O (Ao.ne y.c.ok Z) BN (By BF ((0,0,0):Z3) _ _ 0 Z jY O)) (Ag O (Bf (c:=true) O O (xr q1)) (Bl O (ze O (Ap O) O O (ze O (Ap O) O O (ze O (Ap O) O O (ze O (Ap O) O O (ze O (Ap O) O O (ze O (Ap O) O O (ze O (Ap O) O O (ze O (Ap O) O O (ze O (Ap O) O O ?_)))))))))))
      refine ze O (Ap O) O O (ze O (Ap O) O O (ze O (Ap O) O O (ze O (Ap O) O O (Ag (v:=(qa true)) O (ex_pick_true O O) (Bl O (ze O (Ap O) O O (ze O (Ap O) O O (ze O (Ap O) O O (ze O (Ap O) O O (ze O (Ap O) O O (ze O (Ap O) O O ?_)))))))))))
      refine ze O (Ap O) O O (ze O (Ap O) O O (ze O (Ap O) O O (ze O (Ap O) O O (ze O (Ap O) O O (ze O (Ap O) O O (ze O (Ap O) O O (Ag (v:=(qa true)) O (ex_pick_true O O) (zT (zF (sL [2,3,7,119] O) (zC (zZ O ?_)))))))))))
      exact q4 (asg' O (oNl' (zF (sL [2,3,7,4] O) (zC (zH (zU (zI (zr (zU (zI (ret_one O (rd_tmp (v:=(qa false)) O) (λw hw=>⟨by rw [xq hne],hw.out⟩))))))))))))
    ·replace hc5:=xQ hc5
     have hE3:ss=vs:=GI (d:=((0,0,0):Z3)) hl3 λk hk=>el k Z
     have heq:ps=qs/\ts=us/\ss=vs:=⟨hE1,hE2,hE3⟩
     exact zY (zR (zh (zV (q2 (asg' O (oNl' (zC (zH (ret_one O (rd_tmp (v:=(qa true)) O) (λw hw=>⟨by rw [xr heq],hw.out⟩))))))))))
end
section
set_option maxRecDepth 100000
end
section
set_option maxRecDepth 100000
theorem Ip (r:RW) (i:Nat):BV (r.ps.getD i ⟨0,0⟩)<=1000:=by
 rcases Nat.lt_or_ge i r.ps.length with h|h
 ·exact xx (r.sz i h) jY
 ·rw [List.getD,List.getElem?_eq_none h];decide +kernel
end
section
set_option maxRecDepth 100000
end
section
set_option maxRecDepth 100000
end
def stL (ps:List (List UInt8)):List Value:=ps.map λl=>Value.string (txB l)
theorem Lp (ps:List (List UInt8)):(stL ps).length=ps.length:=by simp [stL]
theorem Re (a b:List (List UInt8)):stL (a++b)=stL a++stL b:=by simp [stL]
theorem Zg (p:Option Addr) (k c:Nat) (ps:List (List UInt8)) (T:TypeId) (ho:OwnOk p k c) (hk:k=ps.length) (w:World) (hrow:∀b,p.map (·.block)=some b->∃o,w.heap[b]?=some o/\(rowW p T 1 k c (stL ps)).P o) :
    Calls prog 192 #[.slice p k c] w λe w'=>e=.returned (.tuple #[])/\Jf w w' (p.map (·.block))/\∀b,p.map (·.block)=some b->∃o,w'.heap[b]?=some o/\(rowW p T 1 k c (stL ps.reverse)).P o:=by
  cases hp:p with
  | none =>
    subst hp
    obtain ⟨rfl,rfl⟩:=ho.nil rfl
    refine (Tryz.slices_Reverse_string_empty none 0 w).mono ?_
    rintro e w' ⟨rfl,rfl⟩
    exact ⟨rfl,⟨⟨rfl,rfl,rfl,Nat.le_refl _,λ_ _ _=>rfl⟩,Nat.le_refl _⟩,λb e=>by cases e⟩
  | some a =>
    subst hp
    obtain ⟨o,hob,cur,rfl,hsz,hcur⟩:=hrow a.block rfl
    have hat:=ho.at0 a rfl
    have hle:=ho.le
    have hmax:=ho.max
    have hget:∀j,j<k->cur[j]?=some (Value.string (txB (ps.toArray[j]!))):=λj hj=>by
      have h1:(cur.toList.take (k*1))[j]?=(stL ps)[j]?:=by rw [hcur]
      rw [List.getElem?_take_of_lt Z,Array.getElem?_toList] at h1
      rw [h1,stL,List.getElem?_map,xN Z]
      simp [show j<ps.length by omega]
    have hH:Go.Sort.Holds encStr w a.block 0 ps.toArray:=λj hj=>by
      have hj':j<k:=by rw [hk];simpa using hj
      refine ⟨?_,by simp [World.frozen?,hob]⟩
      rw [cell_of_row w a.block _ _ T (0,0) hob,Nat.zero_add,hget j hj']
      rfl
    have h:=Tryz.slices_Reverse_string a.block 0 c ps w hH (by simp only [maxLen] at hmax;omega)
    rw [<-hk] at h
    rw [hat]
    refine h.mono ?_
    rintro e w' ⟨rfl,n,rfl⟩
    refine ⟨rfl,⟨⟨rfl,rfl,rfl,by simp [Go.Sort.putRow,Go.Sort.mapBlock,Go.Sort.ahead],λj _ hne=>?_⟩,(by show w.drawn<=w.drawn+n;omega)⟩,λb e=>?_⟩
    · have:a.block≠j:=λe=>hne (by rw [e];rfl)
      simp [Go.Sort.putRow,Go.Sort.mapBlock,Go.Sort.ahead,Array.getElem?_modify,this]
    · injection e with e
      subst e
      refine ⟨.cells (Go.Sort.putCells encStr 0 ps.reverse.toArray cur) T (0,0),by simp [Go.Sort.putRow,Go.Sort.mapBlock,Go.Sort.ahead,Array.getElem?_modify,hob,Go.Sort.onCells],_,rfl,by simp [Go.Sort.putCells,hsz],?_⟩
      apply List.ext_getElem?
      intro j
      by_cases hj:j<k
      · rw [List.getElem?_take_of_lt Z,Array.getElem?_toList]
        have h1:j<cur.size:=by omega
        simp [Go.Sort.putCells,stL,h1,encStr,txB,show j<ps.length by omega]
      · rw [List.getElem?_take_eq_none Z,List.getElem?_eq_none (by rw [Lp,List.length_reverse];omega)]
theorem M7 (xs:List (List UInt8)):Lib.join xs []=xs.flatten:=by
  cases xs with
  | nil=>rfl
  | cons x r =>
    rw [Lib.join_cons,Lib.joinTail,List.flatten_cons]
    simp
theorem WL (p:Option Addr) (k c:Nat) (ps:List (List UInt8)) (T:TypeId) (ho:OwnOk p k c) (hk:k=ps.length) (hkl:k<=140737488355328) (hlen:ps.flatten.length<=140737488355328) (w:World) (hrow:∀b,p.map (·.block)=some b->∃o,w.heap[b]?=some o/\(rowW p T 1 k c (stL ps)).P o) :
    Calls prog 193 #[.slice p k c,.string (ByteArray.mk #[])] w (λe w'=>e=.returned (.string (txB ps.flatten))/\Below w.heap.size w w'):=by
  cases hp:p with
  | none =>
    subst hp
    obtain ⟨rfl,rfl⟩:=ho.nil rfl
    have hps:ps=[]:=List.eq_nil_of_length_eq_zero hk.symm
    subst hps
    refine (Tryz.strings_Join_none none 0 (ByteArray.mk #[]) w).mono ?_
    rintro e w' ⟨rfl,rfl⟩
    exact ⟨rfl,Below.refl _ _⟩
  | some a =>
    subst hp
    obtain ⟨o,hob,cur,rfl,hsz,hcur⟩:=hrow a.block rfl
    have hat:=ho.at0 a rfl
    have hle:=ho.le
    have hfl:(ps.map txB).map (·.data.toList)=ps:=by
      rw [List.map_map]
      exact (List.map_congr_left λl _=>by simp [txB]).trans (List.map_id _)
    have hblt:a.block<w.heap.size:=(Array.getElem?_eq_some_iff.1 hob).1
    have h:=Tryz.strings_Join a.block 0 c (ps.map txB) (ByteArray.mk #[]) w (λj x hx=>by
      rw [cell_of_row w a.block _ _ T (0,0) hob,Nat.zero_add]
      have hj:j<k:=by
        have:=(List.getElem?_eq_some_iff.1 hx).1
        rw [xv] at this;omega
      have h1:(cur.toList.take (k*1))[j]?=(stL ps)[j]?:=by rw [hcur]
      rw [List.getElem?_take_of_lt Z,Array.getElem?_toList] at h1
      rw [h1,stL,List.getElem?_map]
      rw [List.getElem?_map] at hx
      cases hpj:ps[j]? with
      | none=>rw [hpj] at hx;cases hx
      | some l=>rw [hpj] at hx;injection hx with hx;subst hx;rfl) hblt (by rw [xv,<-hk];exact hkl) (by rw [xv,<-hk];exact hle) (by rw [hfl,show (ByteArray.mk #[]).data.toList=[] from rfl,M7];exact hlen)
    rw [xv,<-hk,hfl,show (ByteArray.mk #[]).data.toList=[] from rfl,M7] at h
    rw [hat]
    exact h.mono λe w' h=>⟨h.1,h.2⟩
theorem WI (n:Nat) (hn:n<=9223372036854775807) (w:World) (hT:Kh w):Calls prog 190 #[vN n] w (AX w (.string (txB (Lib.decDigits n)))):=by
  refine (Tryz.strconv_Itoa (n:Int) Z Z w hT).mono ?_
  rintro e w' ⟨rfl,k,os,rfl⟩
  refine ⟨by rw [Lib.itoa_nonneg];rfl,⟨rfl,rfl,rfl,by simp,λj hj=>?_⟩,by show w.drawn<=w.drawn+k;omega⟩
  rw [Go.Sort.heap_grow_old _ _ (by simpa using hj)]
  rfl
theorem Iv:∀(N v i:Nat),i<N->(CI N v).getD i 0=v/4294967296^i%4294967296
  | 0,_,_,h=>absurd h Z
  | N+1,v,0,_=>by simp [CI]
  | N+1,v,i+1,h=>by
    rw [CI,List.getD_cons_succ,Iv N _ i Z,Nat.div_div_eq_div_mul,Nat.pow_succ']
theorem TN {N v:Nat}:∀m,nw v<=m->m<=N->EI (CI N v) m=nw v:=λm=>by
  induction m with
  | zero =>
    intro h _
    rw [show nw v=0 by omega]
    rfl
  | succ m ih =>
    intro h1 h2
    by_cases h:nw v=m+1
    · rw [h]
      refine Mo λh3=>?_
      have h4:¬nw v<=m:=by omega
      rw [CJ] at h4
      have h5:=Bp v
      rw [h,Nat.pow_succ] at h5
      have h6:=h3.2
      rw [Nat.add_sub_cancel,Iv _ _ _ Z,Nat.mod_eq_of_lt (Nat.div_lt_of_lt_mul h5)] at h6
      have h7:1<=v/4294967296^m:=(Nat.le_div_iff_mul_le (Nat.pow_pos Z)).2 Z
      omega
    · have h4:nw v<=m:=by omega
      have h5:=CJ.1 h4
      have h6:(CI N v).getD (m+1-1) 0=0:=by
        rw [Nat.add_sub_cancel,Iv _ _ _ Z,Nat.div_eq_of_lt h5]
      rw [Mn Z h6]
      exact ih h4 Z
theorem a9 (x:Nat):x<10^(Lib.decDigits x).length:=by rw [Lib.decDigits_length];exact Lib.lt_pow_nDigits x
theorem QV {n m k:Nat} {ps:List (List UInt8)} (hm:m=n/10^(9*k)) (hm0:m≠0) (hp:ps.reverse.flatten=Cu (9*k) n) (h:m/1000000000≠0) :
    (ps++[List.replicate (9-(Lib.decDigits (m%1000000000)).length) 48++Lib.decDigits (m%1000000000)]).reverse.flatten=Cu (9*(k+1)) n:=by
  have h1:m%1000000000<10^(8+1):=Nat.mod_lt _ jY
  rw [Tx (KG h1) (a9 _),show (1000000000:Nat)=10^9 from rfl,W0,hm,List.reverse_append,List.reverse_singleton,List.singleton_append,List.flatten_cons,hp,show 9*(k+1)=9+9*k by omega,Pd 9 (9*k) n]
theorem QU {n m k:Nat} {ps:List (List UInt8)} (hm:m=n/10^(9*k)) (hm0:m≠0) (hp:ps.reverse.flatten=Cu (9*k) n) (h:m/1000000000=0) :
    (ps++[Lib.decDigits (m%1000000000)]).reverse.flatten=Lib.decDigits n:=by
  rw [Nat.mod_eq_of_lt Z,List.reverse_append,List.reverse_singleton,List.singleton_append,List.flatten_cons,hp,MD (k:=9*k) (x:=n) (by rw [<-hm];exact hm0),hm]
theorem W2 {n m k:Nat} (hm:m=n/10^(9*k)) (h0:m≠0):k<2*nw n:=by
  have h1:10^(9*k)<=n:=Nat.le_of_not_lt λh=>h0 (by rw [hm,Nat.div_eq_of_lt h])
  have h2:n<10^(10*nw n):=Nat.lt_of_lt_of_le (Bp n) (by rw [Nat.pow_mul];exact Nat.pow_le_pow_left jY _)
  have h3:9*k<10*nw n:=Nat.lt_of_not_le λh=>by
    have:=Nat.pow_le_pow_right (n:=10) Z h
    omega
  omega
def TxJ (n:Nat) (bs:List Nat) (m:Nat) (p:Option Addr) (cq k:Nat) (ps:List (List UInt8)):Prop :=
  W32 bs/\nw m<=bs.length/\(∀i,i<nw m->bs.getD i 0=(AP m).getD i 0)/\nw m<=nw n/\OwnOk p k cq/\m=n/10^(9*k)/\k=ps.length/\k<=2*nw n /\
    (m≠0->ps.reverse.flatten=Cu (9*k) n)/\(m=0->ps.reverse.flatten=Lib.decDigits n)
theorem Xv {n:Nat} {bs:List Nat} {m:Nat} {p p':Option Addr} {cq cq' k:Nat} {ps:List (List UInt8)} {sx:List UInt8} (h:TxJ n bs m p cq k ps) (h0:0<nw m) (ho:OwnOk p' (k+1) cq')
    (hs1:m/1000000000≠0->sx=List.replicate (9-(Lib.decDigits (m%1000000000)).length) 48++Lib.decDigits (m%1000000000)) (hs0:m/1000000000=0->sx=Lib.decDigits (m%1000000000)) :
    TxJ n (CI (nw m) (m/1000000000)) (m/1000000000) p' cq' (k+1) (ps++[sx]):=by
  obtain ⟨h1,h2,h3,h4,h5,h6,h7,h8,h9,h10⟩:=h
  have hm0:m≠0:=λe=>by rw [e,Il] at h0;omega
  have hle:nw (m/1000000000)<=nw m:=Ct (Nat.div_le_self _ _)
  have hlt:=W2 h6 hm0
  have hp:=h9 hm0
  subst h7
  refine ⟨De _ _,by rw [Bh];exact hle,λi hi=>?_,Z,ho,?_,by simp,Z,λe=>?_,λe=>?_⟩
  · rw [Iv _ _ _ Z,Gm]
  · rw [h6,Nat.div_div_eq_div_mul,show (1000000000:Nat)=10^9 from rfl,<-Nat.pow_add,Nat.mul_add]
  · rw [hs1 e];exact QV h6 hm0 hp e
  · rw [hs0 e];exact QU h6 hm0 hp e
theorem Xu {n:Nat} {bs:List Nat} (h0:n≠0) (h1:W32 bs) (h2:nw n<=bs.length) (h3:∀i,i<nw n->bs.getD i 0=(AP n).getD i 0):TxJ n bs n none 0 0 [] :=
  ⟨h1,h2,h3,Nat.le_refl _,OwnOk.none,by simp,rfl,xu _,λ_=>rfl,λe=>absurd e h0⟩
theorem Zx {n:Nat} {bs:List Nat} {m:Nat} {p:Option Addr} {cq k:Nat} {ps:List (List UInt8)} (h:TxJ n bs m p cq k ps) (h0:¬0<nw m) (hn:nw n<=1073741824) :
    k<=140737488355328/\ps.reverse.flatten=Lib.decDigits n/\(Lib.decDigits n).length<=140737488355328:=by
  obtain ⟨h1,h2,h3,h4,h5,h6,h7,h8,h9,h10⟩:=h
  have h11:=JA n
  exact ⟨Z,h10 (Classical.byContradiction λe=>by rw [RC e] at h0;omega),Z⟩
section
def z0 (w:World):World:={ w with drawn:=0 }
def H3 (w:World) (v:Value) (e:Ending) (w':World):Prop:=e=.returned v/\Below w.heap.size w w'
theorem Lu {w:World} (h:Kh w):Kh (z0 w):=h
section
variable {P:Program} {w0:BA} {w w' W:World} {L:List As} {v:Value} {ex:Option Nat}
theorem BE.zz (hz:w0.w.drawn=0) (h:BE w0 w L):BE w0 (z0 w) L:=⟨⟨⟨h.1.os,h.1.tape,h.1.output,h.1.size,h.1.block⟩,by rw [hz];exact xu _⟩,h.2.1,h.2.2⟩
theorem BE.belowB (hz:w0.w.drawn=0) (h:BE w0 w L) (hb:Below w.heap.size w w'):BE w0 w' L :=
  (h.zz hz).below ⟨⟨hb.os,hb.tape,hb.output,hb.size,hb.block⟩,xu _⟩
theorem BE.z0 (h:BE ⟨W,ex⟩ w L):BE ⟨Go.Proofs.YtpolhpjiahbidaaGreatDoor.z0 W,ex⟩ w L:=⟨⟨⟨h.1.os,h.1.tape,h.1.output,h.1.size,h.1.block⟩,xu _⟩,h.2.1,h.2.2⟩
theorem BE.outB (h:BE ⟨Go.Proofs.YtpolhpjiahbidaaGreatDoor.z0 W,none⟩ w L):Below W.heap.size W w:=by
  have k:=h.out
  exact ⟨k.os,k.tape,k.output,k.size,k.block⟩
theorem I8 {f:FuncId} {fn:Func} {c:Code} {args:List Value} {R:Ending->World->Prop} {n:Nat}
    (hf:P.funcs[f]?=some fn) (hb:fn.body=some c) (hn:fn.ntmps=n) (hl:args.length<=n)
    (h:OkC P c (bodyPost P fn R) n (Ep 0 args) ⟨Go.Proofs.YtpolhpjiahbidaaGreatDoor.z0 w,none⟩ []):Calls P f args.toArray w R:=by
  refine calls_of_wp hf hb ?_
  rw [hn]
  exact h _ _ (FJ hl _ λk v hk=>by simpa using (Ci args 0 k v hk).2) (BE.start w).z0
theorem Km {f:FuncId} {fn:Func} {c:Code} {args:List Value} {R:Ending->World->Prop} {n:Nat}
    (hf:P.funcs[f]?=some fn) (hb:fn.body=some c) (hn:fn.ntmps=n) (hl:args.length<=n) (hL:∀x∈L,x.ro=true/\Holds w x)
    (h:OkC P c (bodyPost P fn R) n (Ep 0 args) ⟨Go.Proofs.YtpolhpjiahbidaaGreatDoor.z0 w,none⟩ L):Calls P f args.toArray w R:=by
  refine calls_of_wp hf hb ?_
  rw [hn]
  exact h _ _ (FJ hl _ λk v hk=>by simpa using (Ci args 0 k v hk).2) (BE.startR hL).z0
end
theorem xL {P:Program} {ops:Array Oper} {rest:List Oper} {Q:Exit->Act->World->Prop} {n d:Nat} {F:List (Nat×Value)} {w0:BA} {L:List As} {o:Oper} {v:Value} {f:FuncId} {args:Array Value} (hz:w0.w.drawn=0) (hw:Wt ops n F o)
    (he:∀a w,C8 n a F->BE w0 w L->(execOp a.eval o).run P w=.ok (.enter f args) w)
    (hc:∀w,BE w0 w L->Calls P f args w (H3 w v))
    (ho:o.dst=some d) (hd:d<n) (next:AQ P ops rest Q n ((d,v)::F) w0 L):AQ P ops (o::rest) Q n F w0 L:=λa w ha hW=>by
  unfold wpList
  rw [if_pos (hw a ha)]
  left
  unfold Oper.wp
  rw [he a w ha hW,Oper.upon_enter]
  refine (hc w hW).mono ?_
  rintro e w' ⟨rfl,hb⟩
  rw [ho]
  exact next _ _ (ha.put hd) (hW.belowB hz hb)
theorem Qd {P:Program} {ops:Array Oper} {rest:List Oper} {Q:Exit->Act->World->Prop} {n d:Nat} {F:List (Nat×Value)} {w0:BA} {L:List As} {t:TypeId} {p:String} {af:Array Edge} {x:Operand} {v:Value} {f:FuncId} {xs:List Operand} {args:List Value} {ts:Array TypeId} (hz:w0.w.drawn=0) (hc:∀args w,(callFunc f args).run P w=.ok (.enter f args) w) (h:∀w,BE w0 w L->Calls P f args.toArray w (H3 w v))
    (h2:(evF F x,xs.map (evF F),Nat.ble (d+1) n)=(some (.func (.func f) #[] #[]),args.map some,true)) (next:AQ P ops rest Q n ((d,v)::F) w0 L) :
    AQ P ops (⟨some d,.call { callee:=.value x,args:=xs.toArray,argTypes:=ts },t,p,af,none⟩::rest) Q n F w0 L:=xL hz (AM rfl) (Ak (Ck h2) (Ck (BS h2)) hc) h rfl (B1 (BS (BS h2))) next
end
section
set_option maxRecDepth 100000
theorem eN:ElemT prog 254 9 1 16:=⟨underlying254,Ds jV⟩
theorem JM (n:Nat) (hn:nw n<=1073741824) (w:World) (hT:Kh w):Calls prog 132 #[(aG (AT n))] w (H3 w (Value.string (txB (Lib.decDigits n)))):=by
 have hT:=Lu hT
 refine I8 (args:=[(aG (AT n))]) func132 O O (leB O) (zM (sL [0] O) (q4 (BG (cs:=AT n) O λb1=>asg' O (q6 (sL [1,2] O) (q4 (st' (v:=(pP b1 1)) (AA O underlying71 O sizeOf9 O) O (A_ 0 (Value.string (Bs n)) UV O (st' (BY (c:=(decide (n<18446744073709551616))) O O Cd) O (oNl' (zF (sL [1,2,10] O) ?_))))))))))
 refine zC ?_
 refine zO O (λhc0=>?_) (λhc0=>?_)
 ·replace hc0:=xR hc0
  exact q4 (st' (v:=(pP b1 0)) (AA O underlying71 O sizeOf69 O) O (A_ 0 (vK .u64 (B7 n)) Gz O (zK (k:=12) (u:=(vK .u64 n)) O (by rw [Bm hc0]) (Bx call186 (λw hw=>LE n Z w (hT.below hw.out)) O (asg' O (oNl' (zF (sL [1,2] O) (zC (zH (zI (ret_one O (rd_tmp (v:=(Value.string (txB (Lib.decDigits n)))) O) (λw hw=>⟨rfl,hw.outB⟩))))))))))))
 ·replace hc0:=xQ hc0
  refine zJ (q2 (asg' O (zx 9 1 (oNl' (q1 (q4 (An 1 B3 O (yH (V:=λb2=>(qz (jk b2) (nw n) ((Ay n).length))) (T:=92) (cs:=Aq (Ay n)) (AM O) (Ak (args:=[(aG (AT n))]) O O call187) (λw hw=>DH n Z w) O (leB O) λb2=>asg' O (oNl' (zF (sL [1,2,3,4] O) ?_))))))))))
  refine zC (zN ?_)
  refine OkC.lp7 (tg λ(lb:Nat) (bs:List Nat) (cc:Nat) (m:Nat) (p:Option Addr) (ck:Nat×Nat) (ps:List (List UInt8))=>TxJ n bs m p ck.1 ck.2 ps) (tg λ(lb:Nat) (bs:List Nat) (cc:Nat) (m:Nat) (p:Option Addr) (ck:Nat×Nat) (ps:List (List UInt8))=>[(2,(Value.string (ByteArray.mk #[]))),(4,(qz (jk lb) (nw m) cc)),(3,(qz p ck.2 ck.1))]) (tg λ(lb:Nat) (bs:List Nat) (cc:Nat) (m:Nat) (p:Option Addr) (ck:Nat×Nat) (ps:List (List UInt8))=>[AU lb 92 (Aq bs),rowW p 9 1 ck.2 ck.1 (stL ps),AU b1 71 (AT n)]) (tg λ(lb:Nat) (bs:List Nat) (cc:Nat) (m:Nat) (p:Option Addr) (ck:Nat×Nat) (ps:List (List UInt8))=>m) b2 (Ay n) ((Ay n).length) n none (0,0) ([]:List (List UInt8)) (Xu Z (CO n) (CK n) (λi hi=>Db hi)) (sF O) sr (λlb bs cc m p ck ps hJ=>?_)
  have hTJ:=hJ
  have hTJ2:=hTJ
  obtain ⟨hbs,hbl,hbd,hmn,ho,hm,hpk,hpl,hp1,hp0⟩:=hTJ2
  have hdl:(Lib.decDigits (m%1000000000)).length<=9:=KG (k:=8) (Nat.mod_lt _ jY)
  have hdl1:1<=(Lib.decDigits (m%1000000000)).length:=by rw [Lib.decDigits];split<;>simp
  refine zf (q4 (AJ O (st' (v:=(vN (nw m))) (AD O underlying255) O (st' (B2 (c:=(decide (0<(nw m)))) O O (B_ (a:=0) (b:=nw m))) O (oNl' (zF (sL [2,4,3,18] O) (zC ?_)))))))
  refine zO O (λhc1=>?_) (λhc1=>?_)
  ·replace hc1:=xR hc1
   refine zJ (zC (zN (q4 (AJ O (yH (V:=λb3=>(Value.tuple #[(qz (jk b3) (nw m) (nw m)),(vK .u32 (m%1000000000))])) (T:=92) (cs:=Aq (CI (nw m) (m/1000000000))) (AM O) (Ak (args:=[(qz (jk lb) (nw m) cc),(Value.int .u32 (1000000000:Int))]) O O call188) (λw hw=>NJ m 1000000000 _ _ bs hbs hbl hbd Z Z Z w (hw.get (i:=0) O)) O (leB O) λb3=>AJ O (st' (AK (v:=(qz (jk b3) (nw m) (nw m))) O O) O (st' (AK (v:=(vK .u32 (m%1000000000))) O O) O (asg' O (asg' O (q3 (sL [2,4,3,5,6] O) ?_))))))))))
   refine AJ O ?_
   have hnm:nw (m/1000000000)<=nw m:=Ct (Nat.div_le_self _ _)
   refine Bx (args:=[(qz (jk b3) (nw m) (nw m))]) (v:=(qz (jk b3) (nw (m/1000000000)) (nw m))) call189 (λw hw=>(by have h9:=Qg b3 (nw m) (nw m) (CI (nw m) (m/1000000000)) (De _ _) (by rw [Bh];omega) Z Z w (hw.get (i:=0) O);rw [TN (nw m) hnm (Nat.le_refl _)] at h9;exact h9)) O (asg' O (q3 (sL [2,4,3,6] O) (AJ O (st' (A6 (c:=((m%1000000000:Nat):Int)) O underlying92 underlying3 (Ec Z)) O (Bx call190 (λw hw=>WI (m%1000000000) Z w (hT.below hw.out)) O (asg' O (q6 (sL [2,4,3,7] O) (q4 (AJ O (st' (v:=(vN (nw (m/1000000000)))) (AD O underlying255) O (st' (B2 (c:=(decide (0<(nw (m/1000000000))))) O O (B_ (a:=0) (b:=nw (m/1000000000)))) O ?_)))))))))))
   refine oNl' (zF (sL [2,4,3,7,31] O) (zC ?_))
   refine yQ (tg λ(sx:List UInt8)=>(m/1000000000≠0->sx=List.replicate (9-(Lib.decDigits (m%1000000000)).length) 48++Lib.decDigits (m%1000000000))/\(m/1000000000=0->sx=Lib.decDigits (m%1000000000))) (tg λ(sx:List UInt8)=>[(2,(Value.string (ByteArray.mk #[]))),(4,(qz (jk b3) (nw (m/1000000000)) (nw m))),(3,(qz p ck.2 ck.1)),(7,(Value.string (txB sx)))]) (tg λ(sx:List UInt8)=>[AU b3 92 (Aq (CI (nw m) (m/1000000000))),AU lb 92 (Aq bs),rowW p 9 1 ck.2 ck.1 (stL ps),AU b1 71 (AT n)]) ?_ ?_
   ·refine zO O (λhc2=>?_) (λhc2=>?_)
    ·replace hc2:=xR hc2
     exact zQ (AJ O (st' (v:=(vN ((Lib.decDigits (m%1000000000)).length))) ((show Ex _ _ _ _ _ _ (Value.int .i64 (((Lib.decDigits (m%1000000000)).length:Nat):Int)) from CG (Lib.decDigits (m%1000000000))▸Cy O underlying9)) O (st' (Bc (c:=((9-(Lib.decDigits (m%1000000000)).length:Nat):Int)) O O (by rw [BZ Z Z];omega)) O (ck' call191 (Zd _ Z) O (AJ O (st' (v:=(Value.string (txB (List.replicate (9-(Lib.decDigits (m%1000000000)).length) 48++Lib.decDigits (m%1000000000))))) (Bw (r:=(txB (List.replicate (9-(Lib.decDigits (m%1000000000)).length) 48++Lib.decDigits (m%1000000000)))) O O (by rw [CG,CG,List.length_replicate];omega) (Cj _ _)) O (asg' O (oNl' (zF (sL [2,4,3,7] O) (zo (List.replicate (9-(Lib.decDigits (m%1000000000)).length) 48++Lib.decDigits (m%1000000000)) (⟨λ_=>rfl,λh=>by rw [h] at hc2;exact absurd hc2 jY⟩) (sF O) sr))))))))))
    ·replace hc2:=xQ hc2
     exact zJ (zo (Lib.decDigits (m%1000000000)) (⟨λh=>by have h8:=CJ.1 (show nw (m/1000000000)<=0 by omega);simp at h8;omega,λ_=>rfl⟩) (sF O) sr)
   ·intro sx hJ
    obtain ⟨hs1,hs0⟩:=hJ
    exact zC (zQ (AJ O (AJ O (zn (V:=λb4=>(qz (jk b4) 1 1)) (T:=9) (cs:=[(Value.string (txB sx))]) (AM O) (BH (cs:=[(Value.string (txB sx))]) (pv:=[(0,(Value.string (txB sx)))]) underlying254 sizeOf9 zeroValue9 jY jY O jV) O (leB O) λb4=>yf 3 (j:=0) (cs2:=stL (ps++[sx])) eN O ho (by simp [Lp];omega) O O O O O jY (KU Z) Z (by rw [Re];rfl) O λp_1 c_1 ho_1 hne_1=>asg' O (oNl' (zF (sL [2,4,3,7] O) (zP (OkQ.round7 b3 (CI (nw m) (m/1000000000)) (nw m) (m/1000000000) p_1 (c_1,ck.2+1) (ps++[sx]) (Xv hTJ Z ho_1 hs1 hs0) (Nat.div_lt_self (by have h8:=Bp m;rcases Nat.eq_zero_or_pos m with e|e;(· rw [e,Il] at hc1;omega);exact e) jY) (sF O) (sl (sk (sl sr)))))))))))
  ·replace hc1:=xQ hc1
   have hte:=Zx hTJ Z hn
   refine zY (zR (OkQ.round7_exit (zV (q2 (AJ O (xK 1 (cs':=stL (ps).reverse) (v:=(Value.tuple #[])) (AM O) (Ak (args:=[(qz p ck.2 ck.1)]) O O call192) O (λw hw=>Zg _ _ _ _ 9 ho hpk w (hw.holds (i:=1) O)) (λd hd=>by cases hd<;>exact (leB O)) (q3 (sL [2,4,3] O) (AJ O (Qd O (args:=[(qz p ck.2 ck.1),(Value.string (ByteArray.mk #[]))]) (v:=(Value.string (txB (Lib.decDigits n)))) call193 (λw hw=>(by have h9:=WL _ _ _ (((ps).reverse)) 9 ho (by rw [List.length_reverse];exact hpk) hte.1 (by rw [hte.2.1];exact hte.2.2) w (hw.holds (i:=1) O);rw [hte.2.1] at h9;exact h9)) O (asg' O (oNl' ?_)))))))))))
   exact zF (sL [2,4,3] O) (zC (zH (ret_one O (rd_tmp (v:=(Value.string (txB (Lib.decDigits n)))) O) (λw hw=>⟨rfl,hw.outB⟩))))
end
section
set_option maxRecDepth 100000
theorem M1 (z:Int) (hz:nw z.natAbs<=1073741824) (w:World) (hT:Kh w):Calls prog 131 #[(aG (A7 z))] w (H3 w (Value.string (txB (txI z)))):=by
 have hl:=JA z.natAbs
 have hT:=Lu hT
 refine I8 (args:=[(aG (A7 z))]) func131 O O (leB O) (zM (sL [0] O) (q4 (BG (cs:=A7 z) O λb1=>asg' O (q6 (sL [1,2] O) (q4 (st' (v:=(pP b1 2)) (AA O underlying75 O sizeOf4 O) O (A_ 0 (qa (decide (z<0))) Kc O (oNl' (zF (sL [1,2,4] O) (zC ?_))))))))))
 refine zO O (λhc0=>?_) (λhc0=>?_)
 ·replace hc0:=xR hc0
  have he:txI z=45::Lib.decDigits z.natAbs:=by unfold txI;rw [if_pos hc0]
  exact q4 (st' (v:=(pP b1 0)) (AA O underlying75 O sizeOf73 O) O (st' (v:=(pP b1 0)) (AA O underlying73 O sizeOf71 O) O (C9 0 (AT z.natAbs) B3 O (Qd O call132 (λw hw=>JM z.natAbs Z w (hT.below hw.out)) O (st' (v:=(Value.string (txB (45::Lib.decDigits z.natAbs)))) (Bw (r:=(txB (45::Lib.decDigits z.natAbs))) O O (by rw [CG];show 1+_<=_;omega) (Cj [45] _)) O (asg' O (oNl' (zF (sL [1,2] O) (zC (zH (zI (ret_one O (rd_tmp (v:=(Value.string (txB (45::Lib.decDigits z.natAbs)))) O) (λw hw=>⟨by rw [he],hw.outB⟩)))))))))))))
 ·replace hc0:=xQ hc0
  have he:txI z=Lib.decDigits z.natAbs:=by unfold txI;rw [if_neg hc0]
  exact zJ (q2 (st' (v:=(pP b1 0)) (AA O underlying75 O sizeOf73 O) O (st' (v:=(pP b1 0)) (AA O underlying73 O sizeOf71 O) O (C9 0 (AT z.natAbs) B3 O (Qd O call132 (λw hw=>JM z.natAbs Z w (hT.below hw.out)) O (asg' O (oNl' (zF (sL [1,2] O) (zC (zH (ret_one O (rd_tmp (v:=(Value.string (txB (Lib.decDigits z.natAbs)))) O) (λw hw=>⟨by rw [he],hw.outB⟩))))))))))))
theorem TU (q:Rat) (hs:Sz q<=16777216) (w:World) (hT:Kh w):Calls prog 77 #[(aG (AG q))] w (H3 w (Value.string (txB (KA q)))):=by
 have hl1:=Sx q.num
 have hl2:=JA q.den
 have s1:=Cx q
 have s2:=Cc q
 have hT:=Lu hT
 refine I8 (args:=[(aG (AG q))]) func77 O O (leB O) (zM (sL [0] O) (q4 (BG (cs:=AG q) O λb1=>asg' O (q6 (sL [1,2] O) (q4 (An 0 Bj O (ck' call130 (GD q) O (oNl' (zF (sL [1,2,4] O) (zC ?_))))))))))
 refine zO O (λhc0=>?_) (λhc0=>?_)
 ·replace hc0:=xR hc0
  have he:KA q=txI q.num:=by unfold KA;rw [if_pos hc0]
  exact q4 (st' (v:=(pP b1 0)) (AA O underlying77 O sizeOf75 O) O (C9 0 (A7 q.num) DK O (Qd O call131 (λw hw=>M1 q.num Z w (hT.below hw.out)) O (asg' O (oNl' (zF (sL [1,2] O) (zC (zH (zI (ret_one O (rd_tmp (v:=(Value.string (txB (txI q.num)))) O) (λw hw=>⟨by rw [he],hw.outB⟩)))))))))))
 ·replace hc0:=xQ hc0
  have he:KA q=txI q.num++[47]++Lib.decDigits q.den:=by unfold KA;rw [if_neg hc0,List.append_assoc];rfl
  refine zJ (q1 (CE [(0,true),(1,true),(4,true),(2,false),(3,true),(5,false),(6,false),(7,true),(8,true)] sr (Ag (v:=(pP b1 0)) O (AA O underlying77 O sizeOf75 O) (Ef 0 (A7 q.num) DK O (C3 0 Bj O (zL O (Qd O call131 (λw hw=>M1 q.num Z w (hT.below hw.out)) O (zG sr (Ag (v:=(Value.string (txB (txI q.num++[47])))) O (Bw (r:=(txB (txI q.num++[47]))) O O (by rw [CG];show _+1<=_;omega) (Cj _ [47])) (zL O (ck' call133 (den_ok q Z) O ?_)))))))))))
  exact zG sr (zL O (Qd O call132 (λw hw=>JM q.den Z w (hT.below hw.out)) O (zG sr (Ag (v:=(Value.string (txB (txI q.num++[47]++Lib.decDigits q.den)))) O (Bw (r:=(txB (txI q.num++[47]++Lib.decDigits q.den))) O O (by rw [CG,CG,xw,List.length_singleton];omega) (Cj _ _)) (pS' O (zT (zF (sL [1,2] O) (zC (zH (ret_one O (rd_tmp (v:=(Value.string (txB (txI q.num++[47]++Lib.decDigits q.den)))) O) (λw hw=>⟨by rw [he],hw.outB⟩)))))))))))
theorem am (q:Rat) (b:FX q) (hs:Sz q<=16777216) (w:World) {S:Nat->Prop} (hb:Ro S w b) (hT:Kh w):Calls prog 30 #[(aG (AG q)),(aG (fxL b))] w (H3 w (qa true)):=by
 have hT:=Lu hT
 have lb:=Bq (W:=z0 w) hb
 refine Km (args:=[(aG (AG q)),(aG (fxL b))]) (L:=[BM b.z.n,BM b.m]) func30 O O (leB O) (OH hb Ae) (zM (sL [0,1] O) (q4 (BG (cs:=AG q) O λb1=>BG (cs:=fxL b) O λb2=>asg' O (q6 (sL [2,3,4] O) (CE [(0,true),(2,true),(1,false),(3,false),(4,true),(5,true)] sr (C3 1 Bj O (C3 0 B9 O (zL O (Qd O call77 (λw hw=>TU q Z w (hT.below hw.out)) O ?_)))))))))
 exact zG sr (zL O (Bx call87 (λw hw=>Pj b Z w (inS hw 2 O lb)) O (zG sr (Ag O (BY (c:=true) O O jX) (pS' O (zT (zF (sL [4] O) (zC (zH (ret_one O (rd_tmp (v:=(qa true)) O) (λw hw=>⟨rfl,hw.outB⟩)))))))))))
end
end Go.Proofs.YtpolhpjiahbidaaGreatDoor
