import Derived.Test.YtpolhpjiahbidaaGreatDoorPart25
namespace Go.Proofs.YtpolhpjiahbidaaGreatDoor
open Go Go.RowKit Go.Proofs.Tryz
open Go.Value renaming slice→qw,bool→qa
set_option linter.unusedVariables false
set_option linter.unusedSimpArgs false
section
set_option maxRecDepth 100000
set_option maxHeartbeats 1000000 in
theorem Lv {ps qs:List Pt} {ts ss us vs:List Z3} (x:MZ ps ts ss) (y:GK qs us vs) (hz1:∀i,i<ps.length->PW (ps.getD i ⟨0,0⟩)) (hz0:∀i,i<qs.length->DU (qs.getD i ⟨0,0⟩)<=16777216) (hp:ps.length<=1000000) (ht:ts.length<=1000000) (hs:ss.length<=1000000) (w:World) {S:Nat->Prop} (hx:Ro S w x) (hy:Ro S w y) (hT:Qp w):Calls prog 14 #[(aG (B9 x)),(aG (Cn y))] w (Ak w (qa (decide (ps=qs/\ts=us/\ss=vs)))):=by
 have hrl:=y.len
 have hz2:∀i,i<y.rs.length->DU (y.rs.getD i BU).p<=16777216:=λi h=>by rw [y.at h];exact hz0 i Z
 have lx:=Bx (W:=w) hx
 have ly:=Bx (W:=w) hy
 refine AX (args:=[(aG (B9 x)),(aG (Cn y))]) (L:=(AB x.a.p (rowsL BB ps)::AB x.b.p (rowsL AS ts)::AB x.c.p (rowsL AS ss)::AB y.a.p (rowsL BK y.rs)::AB y.b.p (rowsL AS us)::AB y.c.p (rowsL AS vs)::Bi y.rs)) func14 O O (Av O) (DF hx (bW hy)) (zN (sL [0,1] O) (q4 (Bb (cs:=B9 x) O λb1=>Bb (cs:=Cn y) O λb2=>asg' O (q6 (sL [2,3,4] O) (q4 (AG (v:=(pP b1 0)) (AA O underlying30 O sizeOf28 O) O (Az 1 (qw x.a.p ps.length x.a.c) GG O (AG (v:=(vN ps.length)) (AC O underlying28) O (AG (v:=(pP b2 0)) (AA O underlying39 O sizeOf36 O) O ?_)))))))))
 refine Az 0 (qw y.a.p y.rs.length y.a.c) Ez O (AG (v:=(vN y.rs.length)) (AC O underlying36) O (AG (Bt (c:=(decide (ps.length≠y.rs.length))) O O (bR (a:=ps.length) (b:=y.rs.length))) O (AM O ?_)))
 refine zX (FM:=[(2,(pP b1 0)),(3,(pP b2 0)),(4,(qa false)),(8,(pP b1 0)),(9,(qw x.a.p ps.length x.a.c)),(10,(vN ps.length)),(11,(pP b2 0)),(12,(qw y.a.p y.rs.length y.a.c)),(13,(vN y.rs.length)),(14,(qa (decide (ps.length≠y.rs.length)))),(15,(qa (decide (ps.length≠y.rs.length)))),(23,(qa ((decide (ps.length≠y.rs.length))||(decide (ts.length≠us.length)))))]) (LM:=(AR b2 39 (Cn y)::AR b1 30 (B9 x)::AB x.a.p (rowsL BB ps)::AB x.b.p (rowsL AS ts)::AB x.c.p (rowsL AS ss)::AB y.a.p (rowsL BK y.rs)::AB y.b.p (rowsL AS us)::AB y.c.p (rowsL AS vs)::Bi y.rs)) 8 ?_ ?_
 ·rcases xO (decide (ps.length≠y.rs.length)) with hg1|hg1
  ·refine zC (k:=15) (u:=qa true) O (by rw [hg1]) ?_
   have hg1':=xR hg1
   exact Ar O (Ar O (Ar O (Ar O (Ar O (Ar O (Ar O (AG (v:=(qa true)) (AN O O) O (oNl' (zR Bg (xP _))))))))))
  ·refine zC (k:=15) (u:=qa false) O (by rw [hg1]) ?_
   have hg1':=xQ hg1
   exact Au (v:=(pP b1 1)) O (AA O underlying30 O sizeOf23 O) (Au (v:=(qw x.b.p ts.length x.b.c)) O (AE (i:=1) (v:=(qw x.b.p ts.length x.b.c)) O O B1.a O) (Au (v:=(vN ts.length)) O (AC O underlying23) (Au (v:=(pP b2 1)) O (AA O underlying39 O sizeOf23 O) (Au (v:=(qw y.b.p us.length y.b.c)) O (AE (i:=0) (v:=(qw y.b.p us.length y.b.c)) O O B1.a O) (Au (v:=(vN us.length)) O (AC O underlying23) (Au (v:=(qa (decide (ts.length≠us.length)))) O (Bt (c:=(decide (ts.length≠us.length))) O O (bR (a:=ts.length) (b:=us.length))) (AG (v:=(qa (decide (ts.length≠us.length)))) (AI O O) O (oNl' (zR Bg (xP _))))))))))
 refine AM O ?_
 refine zX (FM:=[(2,(pP b1 0)),(3,(pP b2 0)),(4,(qa false)),(8,(pP b1 0)),(9,(qw x.a.p ps.length x.a.c)),(10,(vN ps.length)),(11,(pP b2 0)),(12,(qw y.a.p y.rs.length y.a.c)),(13,(vN y.rs.length)),(14,(qa (decide (ps.length≠y.rs.length)))),(15,(qa (decide (ps.length≠y.rs.length)))),(23,(qa ((decide (ps.length≠y.rs.length))||(decide (ts.length≠us.length))))),(24,(qa ((decide (ps.length≠y.rs.length))||(decide (ts.length≠us.length))))),(32,(qa (((decide (ps.length≠y.rs.length))||(decide (ts.length≠us.length)))||(decide (ss.length≠vs.length)))))]) (LM:=(AR b2 39 (Cn y)::AR b1 30 (B9 x)::AB x.a.p (rowsL BB ps)::AB x.b.p (rowsL AS ts)::AB x.c.p (rowsL AS ss)::AB y.a.p (rowsL BK y.rs)::AB y.b.p (rowsL AS us)::AB y.c.p (rowsL AS vs)::Bi y.rs)) 8 ?_ ?_
 ·rcases xO ((decide (ps.length≠y.rs.length))||(decide (ts.length≠us.length))) with hg2|hg2
  ·refine zC (k:=24) (u:=qa true) O (by rw [hg2]) ?_
   have hg2':=hg2
   simp only [jK] at hg2'
   exact Ar O (Ar O (Ar O (Ar O (Ar O (Ar O (Ar O (AG (v:=(qa true)) (AN O O) O (oNl' (zR EQ (xP _))))))))))
  ·refine zC (k:=24) (u:=qa false) O (by rw [hg2]) ?_
   have hg2':=hg2
   simp only [jK] at hg2'
   exact Au (v:=(pP b1 2)) O (AA O underlying30 O sizeOf24 O) (Au (v:=(qw x.c.p ss.length x.c.c)) O (AE (i:=1) (v:=(qw x.c.p ss.length x.c.c)) O O Gh.a O) (Au (v:=(vN ss.length)) O (AC O underlying24) (Au (v:=(pP b2 2)) O (AA O underlying39 O sizeOf37 O) (Au (v:=(qw y.c.p vs.length y.c.c)) O (AE (i:=0) (v:=(qw y.c.p vs.length y.c.c)) O O HN.a O) (Au (v:=(vN vs.length)) O (AC O underlying37) (Au (v:=(qa (decide (ss.length≠vs.length)))) O (Bt (c:=(decide (ss.length≠vs.length))) O O (bR (a:=ss.length) (b:=vs.length))) (AG (v:=(qa (decide (ss.length≠vs.length)))) (AI O O) O (oNl' (zR EQ (xP _))))))))))
 refine oNl' (zB (sL [2,3,4,32] O) (zA ?_))
 refine zM O (λhc0=>?_) (λhc0=>?_)
 ·simp only [jK] at hc0
  have hne:¬(ps=qs/\ts=us/\ss=vs):=λh=>by obtain ⟨rfl,rfl,rfl⟩:=h;grind
  exact q4 (asg' O (oNl' (zA (zF (zO (ret_one O (rd_tmp (v:=(qa false)) O) (λw hw=>⟨by rw [xx hne],hw.out⟩)))))))
 ·simp only [jK] at hc0
  have hl1:ps.length=qs.length:=by grind
  have hl2:ts.length=us.length:=by grind
  have hl3:ss.length=vs.length:=by grind
  refine zG (q1 (q4 (asg' O (oNl' (zA (zI ?_))))))
  refine zo (tg λ(i:Nat)=>i<=ps.length/\∀k,k<i->ps.getD k (⟨0,0⟩:Pt)=qs.getD k (⟨0,0⟩:Pt)) (tg λ(i:Nat)=>[(2,(pP b1 0)),(3,(pP b2 0)),(5,(vN i))]) (tg λ(i:Nat)=>(AR b2 39 (Cn y)::AR b1 30 (B9 x)::AB x.a.p (rowsL BB ps)::AB x.b.p (rowsL AS ts)::AB x.c.p (rowsL AS ss)::AB y.a.p (rowsL BK y.rs)::AB y.b.p (rowsL AS us)::AB y.c.p (rowsL AS vs)::Bi y.rs)) (tg λ(i:Nat)=>ps.length-i) 0 (⟨xH _,λk h=>absurd h (Nat.not_lt_zero _)⟩) (sF O) sr (λi hJ=>?_)
  obtain ⟨hi,ei⟩:=hJ
  refine zV (q4 (AM O (AG (v:=(pP b1 0)) (AA O underlying30 O sizeOf28 O) O (Az 1 (qw x.a.p ps.length x.a.c) GG O (AG (v:=(vN ps.length)) (AC O underlying28) O (AG (Ae (c:=(decide (i<ps.length))) O O (CM (a:=i) (b:=ps.length))) O (oNl' (zB (sL [2,3,5,37] O) (zA ?_)))))))))
  refine zM O (λhc1=>?_) (λhc1=>?_)
  ·replace hc1:=xR hc1
   refine zG (q1 (zI (zV (CQ (Db 10++[(10,false),(11,true)]) sr (Aj (v:=(pP b1 0)) O (AA O underlying30 O sizeOf28 O) (Be 1 (qw x.a.p ps.length x.a.c) GG O (BT O (Aj (v:=(pP (pB x.a.p) (pO x.a.p+i*10))) O (AF (j:=i) O O x.a.ok underlying28 sizeOf99 O Z) (Aj (v:=(aG (BB (ps.getD i (⟨0,0⟩:Pt))))) O (AQ (vs:=BB (ps.getD i (⟨0,0⟩:Pt))) (i:=2) O O (An.ne x.a.ok Z) HI (Al Bs _ _ _ Z) (Bs _)) (Aj (v:=(pP b2 0)) O (AA O underlying39 O sizeOf36 O) (Be 0 (qw y.a.p y.rs.length y.a.c) Ez O ?_)))))))))))
   refine BT O (Aj (v:=(pP (pB y.a.p) (pO y.a.p+i*6))) O (AF (j:=i) O O y.a.ok underlying36 sizeOf121 O Z) (Aj (v:=(aG (C2 ((y.rs.getD i BU).x)))) O (AQ (vs:=C2 ((y.rs.getD i BU).x)) (i:=5) O O (An.ne y.a.ok Z) FE (Al B0 BU _ _ Z) (B0 _)) (zK O (Ct call49 (λw hw=>bE (ps.getD i (⟨0,0⟩:Pt)) ((y.rs.getD i BU).x) (hz1 _ Z) (hz2 _ Z) w (Oi (S:=S) (L:=(AR b2 39 (Cn y)::AR b1 30 (B9 x)::AB x.a.p (rowsL BB ps)::AB x.b.p (rowsL AS ts)::AB x.c.p (rowsL AS ss)::AB y.a.p (rowsL BK y.rs)::AB y.b.p (rowsL AS us)::AB y.c.p (rowsL AS vs)::Bi y.rs)) (rs:=y.rs) hw (λz hz=>xG [AR b2 39 (Cn y),AR b1 30 (B9 x),AB x.a.p (rowsL BB ps),AB x.b.p (rowsL AS ts),AB x.c.p (rowsL AS ss),AB y.a.p (rowsL BK y.rs),AB y.b.p (rowsL AS us),AB y.c.p (rowsL AS vs)] hz) Z (At.rpt ly)) (hT.below hw.out)) O (zD sr (Aj O (BQ (c:=(!(decide (ps.getD i (⟨0,0⟩:Pt)=(y.rs.getD i BU).p)))) O O) (zT (zB (sL [2,3,5,51] O) (zA ?_)))))))))
   refine zM O (λhc2=>?_) (λhc2=>?_)
   ·simp only [jK] at hc2
    have hne:¬(ps=qs/\ts=us/\ss=vs):=λh=>JD (d:=(⟨0,0⟩:Pt)) (i:=i) (xs:=ps) (ys:=qs) (by rw [<-y.at Z];grind) h.1
    exact q4 (asg' O (oNl' (zA (zF (zY (zO (zk (zY (zO (ret_one O (rd_tmp (v:=(qa false)) O) (λw hw=>⟨by rw [xx hne],hw.out⟩)))))))))))
   ·simp only [jK] at hc2
    have hei:ps.getD i (⟨0,0⟩:Pt)=qs.getD i (⟨0,0⟩:Pt):=by rw [<-y.at Z];grind
    exact zG (zJ (zA (zH (AM O (AG (AW (c:=((i+1:Nat):Int)) O O (AU (a:=i) (b:=1) Z)) O (asg' O (oNl' (zB (sL [2,3,5] O) (zc (i+1) (⟨Z,λk hk=>by rcases Nat.lt_or_ge k i with q|q;exact ei k q;rw [show k=i by omega];exact hei⟩) Z (sF O) sr)))))))))
  ·replace hc1:=xQ hc1
   have hE1:ps=qs:=LX (d:=(⟨0,0⟩:Pt)) hl1 λk hk=>ei k Z
   refine zU (zP (za (zS (q1 (q4 (asg' O (oNl' (zA (zI ?_)))))))))
   refine zo (tg λ(j:Nat)=>j<=ts.length/\∀k,k<j->ts.getD k ((0,0,0):Z3)=us.getD k ((0,0,0):Z3)) (tg λ(j:Nat)=>[(2,(pP b1 0)),(3,(pP b2 0)),(6,(vN j))]) (tg λ(j:Nat)=>(AR b2 39 (Cn y)::AR b1 30 (B9 x)::AB x.a.p (rowsL BB ps)::AB x.b.p (rowsL AS ts)::AB x.c.p (rowsL AS ss)::AB y.a.p (rowsL BK y.rs)::AB y.b.p (rowsL AS us)::AB y.c.p (rowsL AS vs)::Bi y.rs)) (tg λ(j:Nat)=>ts.length-j) 0 (⟨xH _,λk h=>absurd h (Nat.not_lt_zero _)⟩) (sF O) sr (λj hJ=>?_)
   obtain ⟨hj,ej⟩:=hJ
   refine zV (q4 (AM O (AG (v:=(pP b1 1)) (AA O underlying30 O sizeOf23 O) O (Az 1 (qw x.b.p ts.length x.b.c) B1 O (AG (v:=(vN ts.length)) (AC O underlying23) O (AG (Ae (c:=(decide (j<ts.length))) O O (CM (a:=j) (b:=ts.length))) O (oNl' (zB (sL [2,3,6,56] O) (zA ?_)))))))))
   refine zM O (λhc3=>?_) (λhc3=>?_)
   ·replace hc3:=xR hc3
    refine zG (q1 (zI (zV (CQ (Db 11) sr (Aj (v:=(pP b1 1)) O (AA O underlying30 O sizeOf23 O) (Be 1 (qw x.b.p ts.length x.b.c) B1 O (BT O (Aj (v:=(pP (pB x.b.p) (pO x.b.p+j*3))) O (AF (j:=j) O O x.b.ok underlying23 sizeOf105 O Z) (Aj (v:=(aG (AS (ts.getD j ((0,0,0):Z3))))) O (AQ (vs:=AS (ts.getD j ((0,0,0):Z3))) (i:=3) O O (An.ne x.b.ok Z) B_ (Al A7 _ _ _ Z) (A7 _)) (Aj (v:=(pP b2 1)) O (AA O underlying39 O sizeOf23 O) (Be 0 (qw y.b.p us.length y.b.c) B1 O ?_)))))))))))
    refine BT O (Aj (v:=(pP (pB y.b.p) (pO y.b.p+j*3))) O (AF (j:=j) O O y.b.ok underlying23 sizeOf105 O Z) (Aj (v:=(aG (AS (us.getD j ((0,0,0):Z3))))) O (AQ (vs:=AS (us.getD j ((0,0,0):Z3))) (i:=6) O O (An.ne y.b.ok Z) B_ (Al A7 _ _ _ Z) (A7 _)) (Aj O (OB (c:=decide (ts.getD j ((0,0,0):Z3)=us.getD j ((0,0,0):Z3))) O O eqGuardType105 (bC 9998 (ts.getD j ((0,0,0):Z3)) (us.getD j ((0,0,0):Z3))) (show (!decide (ts.getD j ((0,0,0):Z3)=us.getD j ((0,0,0):Z3)))=decide (ts.getD j ((0,0,0):Z3)≠us.getD j ((0,0,0):Z3)) from decide_not.symm)) (zT (zB (sL [2,3,6,69] O) (zA ?_))))))
    refine zM O (λhc4=>?_) (λhc4=>?_)
    ·replace hc4:=xR hc4
     have hne:¬(ps=qs/\ts=us/\ss=vs):=λh=>JD (d:=((0,0,0):Z3)) (i:=j) (xs:=ts) (ys:=us) (by grind) h.2.1
     exact q4 (asg' O (oNl' (zA (zF (zY (zO (zk (zY (zO (ret_one O (rd_tmp (v:=(qa false)) O) (λw hw=>⟨by rw [xx hne],hw.out⟩)))))))))))
    ·replace hc4:=xQ hc4
     have hej:ts.getD j ((0,0,0):Z3)=us.getD j ((0,0,0):Z3):=by grind
     exact zG (zJ (zA (zH (AM O (AG (AW (c:=((j+1:Nat):Int)) O O (AU (a:=j) (b:=1) Z)) O (asg' O (oNl' (zB (sL [2,3,6] O) (zc (j+1) (⟨Z,λk hk=>by rcases Nat.lt_or_ge k j with q|q;exact ej k q;rw [show k=j by omega];exact hej⟩) Z (sF O) sr)))))))))
   ·replace hc3:=xQ hc3
    have hE2:ts=us:=LX (d:=((0,0,0):Z3)) hl2 λk hk=>ej k Z
    refine zU (zP (za (zS (q1 (q4 (asg' O (oNl' (zA (zI ?_)))))))))
    refine zo (tg λ(l:Nat)=>l<=ss.length/\∀k,k<l->ss.getD k ((0,0,0):Z3)=vs.getD k ((0,0,0):Z3)) (tg λ(l:Nat)=>[(2,(pP b1 0)),(3,(pP b2 0)),(7,(vN l))]) (tg λ(l:Nat)=>(AR b2 39 (Cn y)::AR b1 30 (B9 x)::AB x.a.p (rowsL BB ps)::AB x.b.p (rowsL AS ts)::AB x.c.p (rowsL AS ss)::AB y.a.p (rowsL BK y.rs)::AB y.b.p (rowsL AS us)::AB y.c.p (rowsL AS vs)::Bi y.rs)) (tg λ(l:Nat)=>ss.length-l) 0 (⟨xH _,λk h=>absurd h (Nat.not_lt_zero _)⟩) (sF O) sr (λl hJ=>?_)
    obtain ⟨hl,el⟩:=hJ
    refine zV (q4 (AM O (AG (v:=(pP b1 2)) (AA O underlying30 O sizeOf24 O) O (Az 1 (qw x.c.p ss.length x.c.c) Gh O (AG (v:=(vN ss.length)) (AC O underlying24) O (AG (Ae (c:=(decide (l<ss.length))) O O (CM (a:=l) (b:=ss.length))) O (oNl' (zB (sL [2,3,7,74] O) (zA ?_)))))))))
    refine zM O (λhc5=>?_) (λhc5=>?_)
    ·replace hc5:=xR hc5
     refine zG (q1 (zI (zV ?_)))
     by_cases q1:(ss.getD l ((0,0,0):Z3)).1=(vs.getD l ((0,0,0):Z3)).1
     ·by_cases q2:(ss.getD l ((0,0,0):Z3)).2.1=(vs.getD l ((0,0,0):Z3)).2.1
      ·refine CQ (Db 43) sr (Aj (v:=(pP b1 2)) O (AA O underlying30 O sizeOf24 O) (Be 1 (qw x.c.p ss.length x.c.c) Gh O (BT O (Aj (v:=(pP (pB x.c.p) (pO x.c.p+l*3))) O (AF (j:=l) O O x.c.ok underlying24 sizeOf110 O Z) (Aj (v:=(pP (pB x.c.p) (pO x.c.p+(l*3+0)))) O (AA O underlying110 O sizeOf3 (Nat.add_assoc _ _ _)) (Aj O (AK (v:=(vI ((ss.getD l ((0,0,0):Z3)).1))) (i:=4) O O (An.ne x.c.ok Z) BN (BS A7 ((0,0,0):Z3) _ _ 0 Z jY O)) (Aj (v:=(pP b2 2)) O (AA O underlying39 O sizeOf37 O) (Be 0 (qw y.c.p vs.length y.c.c) HN O (BT O (Aj (v:=(pP (pB y.c.p) (pO y.c.p+l*3))) O (AF (j:=l) O O y.c.ok underlying37 sizeOf119 O Z) (Aj (v:=(pP (pB y.c.p) (pO y.c.p+(l*3+0)))) O (AA O underlying119 O sizeOf3 (Nat.add_assoc _ _ _)) ?_)))))))))))
       refine Aj O (AK (v:=(vI ((vs.getD l ((0,0,0):Z3)).1))) (i:=7) O O (An.ne y.c.ok Z) BN (BS A7 ((0,0,0):Z3) _ _ 0 Z jY O)) (Aj O (Bt (c:=false) O O (xx λh=>h q1)) (BT O (zQ (v:=(pP b1 2)) O (AH O) (AA O underlying30 O sizeOf24 O) O O (zQ (v:=(qw x.c.p ss.length x.c.c)) O (AH O) (AE (i:=1) (v:=(qw x.c.p ss.length x.c.c)) O O Gh.a O) O O (zQ (v:=(vN l)) O (AH O) (BE O) O O (zQ (v:=(pP (pB x.c.p) (pO x.c.p+l*3))) O (AH O) (AF (j:=l) O O x.c.ok underlying24 sizeOf110 O Z) O O (zQ (v:=(pP (pB x.c.p) (pO x.c.p+(l*3+1)))) O (AH O) (AA O underlying110 O sizeOf3 (Nat.add_assoc _ _ _)) O O (zQ (v:=(vI ((ss.getD l ((0,0,0):Z3)).2.1))) O (AH O) (AK (v:=(vI ((ss.getD l ((0,0,0):Z3)).2.1))) (i:=4) O O (An.ne x.c.ok Z) BN (BS A7 ((0,0,0):Z3) _ _ 1 Z jY O)) O O (zQ (v:=(pP b2 2)) O (AH O) (AA O underlying39 O sizeOf37 O) O O (zQ (v:=(qw y.c.p vs.length y.c.c)) O (AH O) (AE (i:=0) (v:=(qw y.c.p vs.length y.c.c)) O O HN.a O) O O (zQ (v:=(vN l)) O (AH O) (BE O) O O ?_)))))))))))
       refine zQ (v:=(pP (pB y.c.p) (pO y.c.p+l*3))) O (AH O) (AF (j:=l) O O y.c.ok underlying37 sizeOf119 O Z) O O (zQ (v:=(pP (pB y.c.p) (pO y.c.p+(l*3+1)))) O (AH O) (AA O underlying119 O sizeOf3 (Nat.add_assoc _ _ _)) O O (zQ (v:=(vI ((vs.getD l ((0,0,0):Z3)).2.1))) O (AH O) (AK (v:=(vI ((vs.getD l ((0,0,0):Z3)).2.1))) (i:=7) O O (An.ne y.c.ok Z) BN (BS A7 ((0,0,0):Z3) _ _ 1 Z jY O)) O O (zQ (v:=(qa false)) O (AH O) (Bt (c:=false) O O (xx λh=>h q2)) O O (Aj (v:=(qa false)) O (AI O O) (BT O (zQ (v:=(pP b1 2)) O (AH O) (AA O underlying30 O sizeOf24 O) O O (zQ (v:=(qw x.c.p ss.length x.c.c)) O (AH O) (AE (i:=1) (v:=(qw x.c.p ss.length x.c.c)) O O Gh.a O) O O (zQ (v:=(vN l)) O (AH O) (BE O) O O (zQ (v:=(pP (pB x.c.p) (pO x.c.p+l*3))) O (AH O) (AF (j:=l) O O x.c.ok underlying24 sizeOf110 O Z) O O (zQ (v:=(pP (pB x.c.p) (pO x.c.p+(l*3+2)))) O (AH O) (AA O underlying110 O sizeOf3 (Nat.add_assoc _ _ _)) O O (zQ (v:=(vI ((ss.getD l ((0,0,0):Z3)).2.2))) O (AH O) (AK (v:=(vI ((ss.getD l ((0,0,0):Z3)).2.2))) (i:=4) O O (An.ne x.c.ok Z) BN (BS A7 ((0,0,0):Z3) _ _ 2 Z jY O)) O O ?_)))))))))))
       refine zQ (v:=(pP b2 2)) O (AH O) (AA O underlying39 O sizeOf37 O) O O (zQ (v:=(qw y.c.p vs.length y.c.c)) O (AH O) (AE (i:=0) (v:=(qw y.c.p vs.length y.c.c)) O O HN.a O) O O (zQ (v:=(vN l)) O (AH O) (BE O) O O (zQ (v:=(pP (pB y.c.p) (pO y.c.p+l*3))) O (AH O) (AF (j:=l) O O y.c.ok underlying37 sizeOf119 O Z) O O (zQ (v:=(pP (pB y.c.p) (pO y.c.p+(l*3+2)))) O (AH O) (AA O underlying119 O sizeOf3 (Nat.add_assoc _ _ _)) O O (zQ (v:=(vI ((vs.getD l ((0,0,0):Z3)).2.2))) O (AH O) (AK (v:=(vI ((vs.getD l ((0,0,0):Z3)).2.2))) (i:=7) O O (An.ne y.c.ok Z) BN (BS A7 ((0,0,0):Z3) _ _ 2 Z jY O)) O O (zQ (v:=(qa (decide (((ss.getD l ((0,0,0):Z3)).2.2)≠((vs.getD l ((0,0,0):Z3)).2.2))))) O (AH O) (Bt (c:=(decide (((ss.getD l ((0,0,0):Z3)).2.2)≠((vs.getD l ((0,0,0):Z3)).2.2)))) O O O) O O (Aj (v:=(qa (decide (((ss.getD l ((0,0,0):Z3)).2.2)≠((vs.getD l ((0,0,0):Z3)).2.2))))) O (AI O O) (zT (zB (sL [2,3,7,119] O) (zA ?_))))))))))
       refine zM O (λhc6=>?_) (λhc6=>?_)
       ·replace hc6:=xR hc6
        have hne:¬(ps=qs/\ts=us/\ss=vs):=λh=>JD (d:=((0,0,0):Z3)) (i:=l) (xs:=ss) (ys:=vs) (by grind) h.2.2
        exact q4 (asg' O (oNl' (zA (zF (zY (zO (zk (zY (zO (ret_one O (rd_tmp (v:=(qa false)) O) (λw hw=>⟨by rw [xx hne],hw.out⟩)))))))))))
       ·replace hc6:=xQ hc6
        have hel:ss.getD l ((0,0,0):Z3)=vs.getD l ((0,0,0):Z3):=Prod.ext (by grind) (Prod.ext (by grind) (by grind))
        exact zG (zJ (zA (zH (AM O (AG (AW (c:=((l+1:Nat):Int)) O O (AU (a:=l) (b:=1) Z)) O (asg' O (oNl' (zB (sL [2,3,7] O) (zc (l+1) (⟨Z,λk hk=>by rcases Nat.lt_or_ge k l with q|q;exact el k q;rw [show k=l by omega];exact hel⟩) Z (sF O) sr)))))))))
      ·have hne:¬(ps=qs/\ts=us/\ss=vs):=λh=>JD (d:=((0,0,0):Z3)) (i:=l) (xs:=ss) (ys:=vs) (λe=>q2 (by rw [e])) h.2.2
       refine CQ (Db 43) sr (Aj (v:=(pP b1 2)) O (AA O underlying30 O sizeOf24 O) (Be 1 (qw x.c.p ss.length x.c.c) Gh O (BT O (Aj (v:=(pP (pB x.c.p) (pO x.c.p+l*3))) O (AF (j:=l) O O x.c.ok underlying24 sizeOf110 O Z) (Aj (v:=(pP (pB x.c.p) (pO x.c.p+(l*3+0)))) O (AA O underlying110 O sizeOf3 (Nat.add_assoc _ _ _)) (Aj O (AK (v:=(vI ((ss.getD l ((0,0,0):Z3)).1))) (i:=4) O O (An.ne x.c.ok Z) BN (BS A7 ((0,0,0):Z3) _ _ 0 Z jY O)) (Aj (v:=(pP b2 2)) O (AA O underlying39 O sizeOf37 O) (Be 0 (qw y.c.p vs.length y.c.c) HN O (BT O (Aj (v:=(pP (pB y.c.p) (pO y.c.p+l*3))) O (AF (j:=l) O O y.c.ok underlying37 sizeOf119 O Z) (Aj (v:=(pP (pB y.c.p) (pO y.c.p+(l*3+0)))) O (AA O underlying119 O sizeOf3 (Nat.add_assoc _ _ _)) ?_)))))))))))
       refine Aj O (AK (v:=(vI ((vs.getD l ((0,0,0):Z3)).1))) (i:=7) O O (An.ne y.c.ok Z) BN (BS A7 ((0,0,0):Z3) _ _ 0 Z jY O)) (Aj O (Bt (c:=false) O O (xx λh=>h q1)) (BT O (zQ (v:=(pP b1 2)) O (AH O) (AA O underlying30 O sizeOf24 O) O O (zQ (v:=(qw x.c.p ss.length x.c.c)) O (AH O) (AE (i:=1) (v:=(qw x.c.p ss.length x.c.c)) O O Gh.a O) O O (zQ (v:=(vN l)) O (AH O) (BE O) O O (zQ (v:=(pP (pB x.c.p) (pO x.c.p+l*3))) O (AH O) (AF (j:=l) O O x.c.ok underlying24 sizeOf110 O Z) O O (zQ (v:=(pP (pB x.c.p) (pO x.c.p+(l*3+1)))) O (AH O) (AA O underlying110 O sizeOf3 (Nat.add_assoc _ _ _)) O O (zQ (v:=(vI ((ss.getD l ((0,0,0):Z3)).2.1))) O (AH O) (AK (v:=(vI ((ss.getD l ((0,0,0):Z3)).2.1))) (i:=4) O O (An.ne x.c.ok Z) BN (BS A7 ((0,0,0):Z3) _ _ 1 Z jY O)) O O (zQ (v:=(pP b2 2)) O (AH O) (AA O underlying39 O sizeOf37 O) O O (zQ (v:=(qw y.c.p vs.length y.c.c)) O (AH O) (AE (i:=0) (v:=(qw y.c.p vs.length y.c.c)) O O HN.a O) O O (zQ (v:=(vN l)) O (AH O) (BE O) O O ?_)))))))))))
       refine zQ (v:=(pP (pB y.c.p) (pO y.c.p+l*3))) O (AH O) (AF (j:=l) O O y.c.ok underlying37 sizeOf119 O Z) O O (zQ (v:=(pP (pB y.c.p) (pO y.c.p+(l*3+1)))) O (AH O) (AA O underlying119 O sizeOf3 (Nat.add_assoc _ _ _)) O O (zQ (v:=(vI ((vs.getD l ((0,0,0):Z3)).2.1))) O (AH O) (AK (v:=(vI ((vs.getD l ((0,0,0):Z3)).2.1))) (i:=7) O O (An.ne y.c.ok Z) BN (BS A7 ((0,0,0):Z3) _ _ 1 Z jY O)) O O (zQ (v:=(qa true)) O (AH O) (Bt (c:=true) O O (xy q2)) O O (Aj (v:=(qa true)) O (AI O O) (BT O (zW O (Ag O) O O (zW O (Ag O) O O (zW O (Ag O) O O (zW O (Ag O) O O (zW O (Ag O) O O (zW O (Ag O) O O ?_)))))))))))
       refine zW O (Ag O) O O (zW O (Ag O) O O (zW O (Ag O) O O (zW O (Ag O) O O (zW O (Ag O) O O (zW O (Ag O) O O (zW O (Ag O) O O (Aj (v:=(qa true)) O (AN O O) (zT (zB (sL [2,3,7,119] O) (zA (ze O ?_)))))))))))
       exact q4 (asg' O (oNl' (zB (sL [2,3,7,4] O) (zA (zF (zY (zO (zk (zY (zO (ret_one O (rd_tmp (v:=(qa false)) O) (λw hw=>⟨by rw [xx hne],hw.out⟩))))))))))))
     ·have hne:¬(ps=qs/\ts=us/\ss=vs):=λh=>JD (d:=((0,0,0):Z3)) (i:=l) (xs:=ss) (ys:=vs) (λe=>q1 (by rw [e])) h.2.2
      refine CQ (Db 43) sr (Aj (v:=(pP b1 2)) O (AA O underlying30 O sizeOf24 O) (Be 1 (qw x.c.p ss.length x.c.c) Gh O (BT O (Aj (v:=(pP (pB x.c.p) (pO x.c.p+l*3))) O (AF (j:=l) O O x.c.ok underlying24 sizeOf110 O Z) (Aj (v:=(pP (pB x.c.p) (pO x.c.p+(l*3+0)))) O (AA O underlying110 O sizeOf3 (Nat.add_assoc _ _ _)) (Aj O (AK (v:=(vI ((ss.getD l ((0,0,0):Z3)).1))) (i:=4) O O (An.ne x.c.ok Z) BN (BS A7 ((0,0,0):Z3) _ _ 0 Z jY O)) (Aj (v:=(pP b2 2)) O (AA O underlying39 O sizeOf37 O) (Be 0 (qw y.c.p vs.length y.c.c) HN O (BT O (Aj (v:=(pP (pB y.c.p) (pO y.c.p+l*3))) O (AF (j:=l) O O y.c.ok underlying37 sizeOf119 O Z) (Aj (v:=(pP (pB y.c.p) (pO y.c.p+(l*3+0)))) O (AA O underlying119 O sizeOf3 (Nat.add_assoc _ _ _)) ?_)))))))))))
      refine Aj O (AK (v:=(vI ((vs.getD l ((0,0,0):Z3)).1))) (i:=7) O O (An.ne y.c.ok Z) BN (BS A7 ((0,0,0):Z3) _ _ 0 Z jY O)) (Aj O (Bt (c:=true) O O (xy q1)) (BT O (zW O (Ag O) O O (zW O (Ag O) O O (zW O (Ag O) O O (zW O (Ag O) O O (zW O (Ag O) O O (zW O (Ag O) O O (zW O (Ag O) O O (zW O (Ag O) O O (zW O (Ag O) O O ?_)))))))))))
      refine zW O (Ag O) O O (zW O (Ag O) O O (zW O (Ag O) O O (zW O (Ag O) O O (Aj (v:=(qa true)) O (AN O O) (BT O (zW O (Ag O) O O (zW O (Ag O) O O (zW O (Ag O) O O (zW O (Ag O) O O (zW O (Ag O) O O (zW O (Ag O) O O ?_)))))))))))
      refine zW O (Ag O) O O (zW O (Ag O) O O (zW O (Ag O) O O (zW O (Ag O) O O (zW O (Ag O) O O (zW O (Ag O) O O (zW O (Ag O) O O (Aj (v:=(qa true)) O (AN O O) (zT (zB (sL [2,3,7,119] O) (zA (ze O ?_)))))))))))
      exact q4 (asg' O (oNl' (zB (sL [2,3,7,4] O) (zA (zF (zY (zO (zk (zY (zO (ret_one O (rd_tmp (v:=(qa false)) O) (λw hw=>⟨by rw [xx hne],hw.out⟩))))))))))))
    ·replace hc5:=xQ hc5
     have hE3:ss=vs:=LX (d:=((0,0,0):Z3)) hl3 λk hk=>el k Z
     have heq:ps=qs/\ts=us/\ss=vs:=⟨hE1,hE2,hE3⟩
     exact zU (zP (za (zS (q2 (asg' O (oNl' (zA (zF (ret_one O (rd_tmp (v:=(qa true)) O) (λw hw=>⟨by rw [xy heq],hw.out⟩))))))))))
end
section
set_option maxRecDepth 100000
end
section
section
variable {P:Program} {ops:Array Oper} {rest:List Oper} {Q:Exit->Act->World->Prop} {n:Nat} {F:List (Nat×Value)} {w0:BC} {L:List As} {d:Option Tmp} {op:Op} {t:TypeId} {p:String} {af:Array Edge} {g:Nat×Bool}
theorem AL.unguard (hw:Wt ops n F ⟨d,op,t,p,af,some g⟩) (next:AL P ops (⟨d,op,t,p,af,none⟩::rest) Q n F w0 L):AL P ops (⟨d,op,t,p,af,some g⟩::rest) Q n F w0 L:=λa w ha hW=>by
  have h:=next a w ha hW
  unfold wpList at h ⊢
  rw [if_pos (hw a ha)]
  rw [if_pos (AJ rfl a ha)] at h
  exact h
end
end
section
set_option maxRecDepth 100000
theorem Vt {p q:QD} (hp:DW p=true) (hq:DW q=true):FW ((Jp p+Jp q)*(1/2)):=by
 unfold DW at hp hq
 simp only [xZ,xT] at hp hq
 obtain ⟨a,d⟩:=p
 obtain ⟨b,e⟩:=q
 unfold Jp
 obtain ⟨h1,h2,h3⟩:=hp
 obtain ⟨g1,g2,g3⟩:=hq
 have h1:-1000000<=a:=h1
 have h2:a<=1000000:=h2
 have h3:d<=1000000:=h3
 have g1:-1000000<=b:=g1
 have g2:b<=1000000:=g2
 have g3:e<=1000000:=g3
 show FW (((a:Rat)/(((max d 1:Nat):Int):Rat)+(b:Rat)/(((max e 1:Nat):Int):Rat))*(1/2))
 obtain ⟨x,hx⟩:∃x,x=max d 1:=⟨_,rfl⟩
 obtain ⟨y,hy⟩:∃y,y=max e 1:=⟨_,rfl⟩
 rw [<-hx,<-hy]
 have hx1:1<=x/\x<=1000000:=by omega
 have hy1:1<=y/\y<=1000000:=by omega
 have hX:(((x:Nat):Int):Rat)≠0:=λk=>by have:((x:Nat):Int)=0:=(by exact_mod_cast k);omega
 have hY:(((y:Nat):Int):Rat)≠0:=λk=>by have:((y:Nat):Int)=0:=(by exact_mod_cast k);omega
 have m1:(a*(y:Int)).natAbs<=1000000*1000000:=by rw [Int.natAbs_mul];exact Nat.mul_le_mul Z Z
 have m2:(b*(x:Int)).natAbs<=1000000*1000000:=by rw [Int.natAbs_mul];exact Nat.mul_le_mul Z Z
 have m3:x*y<=1000000*1000000:=Nat.mul_le_mul hx1.2 hy1.2
 have m4:1*1<=x*y:=Nat.mul_le_mul hx1.1 hy1.1
 have hD:(((2*(x*y):Nat):Int):Rat)≠0:=λk=>by have:((2*(x*y):Nat):Int)=0:=(by exact_mod_cast k);omega
 have e1:(((2*(x*y):Nat):Int):Rat)=2*((((x:Nat):Int):Rat)*(((y:Nat):Int):Rat)):=by push_cast;rfl
 have e2:((a*(y:Int)+b*(x:Int):Int):Rat)=(a:Rat)*(((y:Nat):Int):Rat)+(b:Rat)*(((x:Nat):Int):Rat):=by push_cast;rfl
 have key:((a:Rat)/(((x:Nat):Int):Rat)+(b:Rat)/(((y:Nat):Int):Rat))*(1/2)=((a*(y:Int)+b*(x:Int):Int):Rat)/(((2*(x*y):Nat):Int):Rat):=by
  rw [e1,e2]
  generalize (((x:Nat):Int):Rat)=X at hX
  generalize (((y:Nat):Int):Rat)=Y at hY
  grind
 rw [key]
 exact V1 Z Z Z
theorem WJ {r:RW} (h:GF r=false) {i:Nat} (hi:i<r.ds.length):DW (r.ds.getD i E2).x=true/\DW (r.ds.getD i E2).y=true:=by
 have k:¬(!DW (r.ds.getD i E2).x||!DW (r.ds.getD i E2).y)=true:=λk=>by rw [O0 hi k] at h;cases h
 revert k
 generalize DW (r.ds.getD i E2).x=u
 generalize DW (r.ds.getD i E2).y=v
 cases u<;>cases v<;>decide
theorem Zq {r:RW} (h:GF r=false) {vs:List P2} (hv:∀v∈vs,v.1<r.ps.length/\v.2<r.ps.length) {i:Nat} (hi:i<(IP r.ps vs).length):PW ((IP r.ps vs).getD i ⟨0,0⟩)/\DU ((IP r.ps vs).getD i ⟨0,0⟩)<=16:=by
 rcases Nat.lt_or_ge i r.ps.length with k|k
 ·rw [Ym k];exact ⟨r.pw i k,xK (r.sz i k) jY⟩
 ·rw [Hn] at hi
  have hj:i-r.ps.length<vs.length:=by omega
  have e:(IP r.ps vs).getD i ⟨0,0⟩=Jr r.ps vs[i-r.ps.length]:=by
   rw [Kv,List.getD,List.getElem?_append_right k,List.getElem?_map,xN hj];rfl
  obtain ⟨a1,a2⟩:=hv _ (List.getElem_mem hj)
  rw [e]
  unfold Jr
  have s1:=r.sz _ a1
  have s2:=r.sz _ a2
  have s3:=Ux (r.ps.getD vs[i-r.ps.length].1 ⟨0,0⟩) (r.ps.getD vs[i-r.ps.length].2 ⟨0,0⟩)
  refine ⟨?_,Z⟩
  have b1:vs[i-r.ps.length].1<r.ds.length:=by rw [<-r.pl];exact a1
  have b2:vs[i-r.ps.length].2<r.ds.length:=by rw [<-r.pl];exact a2
  rw [Pp r b1,Pp r b2]
  obtain ⟨x1,y1⟩:=WJ h b1
  obtain ⟨x2,y2⟩:=WJ h b2
  exact ⟨Vt x1 x2,Vt y1 y2⟩
theorem Mr (r:RW) (i:Nat):DU (r.ps.getD i ⟨0,0⟩)<=1000:=by
 rcases Nat.lt_or_ge i r.ps.length with h|h
 ·exact xK (r.sz i h) jY
 ·rw [List.getD,List.getElem?_eq_none h];decide +kernel
theorem Zm {ps:List Pt} {ts ss:List Z3} {l:List Nat} {e:Nat} {S:Nat->Prop} {w:World} {a:S8 ps ts ss l e} (h:Ro S w a):Ro S w a.x.m:=λy hy=>h y (xz [AB a.q.p (inL l)] (show y∈[a.x.m.a.row,a.x.m.b.row,a.x.m.c.row] from hy))
theorem Sh {α:Type} [C8 α] {a:α} {w0:BC} {w:World} {L:List As} (hw:Own w0 w L) (i:Nat) (hi:(L.drop i).take (C8.rows a).length=C8.rows a):Ro UH w a:=λy hy=>⟨λb e=>(hw.2.1 y (List.mem_of_mem_drop (List.mem_of_mem_take (hi▸hy))) b e).2,λ_ _=>trivial⟩
theorem WV (l:List Nat) (a:CX (inL l) l.length) (b:RX (inL l) l.length) (hl:l.length<=1000000000) (w:World) {S:Nat->Prop} (ha:Ro S w a) (hb:Ro S w b):Calls prog 15 #[(qw a.p l.length l.length),(qw b.p l.length b.c)] w (Ak w (qa true)):=by
 have la:=Bx (W:=w) ha
 have lb:=Bx (W:=w) hb
 refine AX (args:=[(qw a.p l.length l.length),(qw b.p l.length b.c)]) (L:=[AB a.p (inL l),AB b.p (inL l)]) func15 O O (Av O) (DF ha (DF hb Ah)) (zN (sL [0,1] O) (q4 (asg' O (oNl' (q1 (q4 (AM O (AG (v:=(vN l.length)) (AC O underlying32) O (AM O (AG (v:=(vN l.length)) (AC O underlying32) O (AG (Bt (c:=false) O O (xx λh=>h O)) O ?_)))))))))))
 refine AM O (Ds O (Au (v:=(vN l.length)) O (IZ O underlying32) (Ds O (Au (v:=(vN l.length)) O (AC O underlying32) (Au (v:=(qa false)) O (Bv (c:=false) O O (xx Z)) (AG (v:=(qa false)) (AI O O) O (oNl' (zB (sL [0,1,4,17] O) (zA (zb O (zG ?_)))))))))))
 refine q1 (q4 (asg' O (oNl' (zB (sL [0,1,4,5] O) (zA (zI ?_))))))
 refine zo (tg λ(i:Nat)=>i<=l.length) (tg λ(i:Nat)=>[(0,(qw a.p l.length l.length)),(1,(qw b.p l.length b.c)),(5,(vN i))]) (tg λ(i:Nat)=>[AB a.p (inL l),AB b.p (inL l)]) (tg λ(i:Nat)=>l.length-i) 0 (xH _) (sF O) sr (λi hJ=>?_)
 have hi:=hJ
 refine zV (q4 (AM O (AM O (AG (v:=(vN l.length)) (AC O underlying32) O (AG (Ae (c:=(decide (i<l.length))) O O (CM (a:=i) (b:=l.length))) O (oNl' (zB (sL [0,1,5,21] O) (zA ?_))))))))
 refine zM O (λhc1=>?_) (λhc1=>?_)
 ·replace hc1:=xR hc1
  refine zG (q1 (zI (zV (CQ (Db 9) sr (BT O (BT O (Aj (v:=(pP (pB a.p) (pO a.p+i*1))) O (AF (j:=i) O O a.ok underlying32 sizeOf3 O Z) (Aj O (AK (v:=(vN (l.getD i 0))) (i:=0) O O (a.ok.ne Z) BN (I9 (l:=l) (j:=i) Z)) (BT O (BT O (Aj (v:=(pP (pB b.p) (pO b.p+i*1))) O (AF (j:=i) O O b.ok underlying32 sizeOf3 O Z) ?_)))))))))))
  refine Aj O (AK (v:=(vN (l.getD i 0))) (i:=1) O O (b.ok.ne Z) BN (I9 (l:=l) (j:=i) Z)) (Aj O (Bt (c:=false) O O (xx λh=>h O)) (zT (zB (sL [0,1,5,32] O) (zA (zb O (zG (zJ (zA (zH (AM O (AG (AW (c:=((i+1:Nat):Int)) O O (AU (a:=i) (b:=1) Z)) O ?_)))))))))))
  exact asg' O (oNl' (zB (sL [0,1,5] O) (zc (i+1) Z Z (sF O) sr)))
 ·replace hc1:=xQ hc1
  exact zU (zP (za (zS (q2 (asg' O (oNl' (zA (zF (ret_one O (rd_tmp (v:=(qa true)) O) (λw hw=>⟨rfl,hw.out⟩))))))))))
end
section
def idxM (n:Nat):List Int->Nat->Int
  | [],_ => -1
  | z::r,i=>if Ay n z=true then idxM n r (i+1) else (i:Int)
section
variable {n j:Nat} {ms:List Int}
theorem UJ (hj:j<ms.length) (h:Ay n (ms.getD j 0)=true):idxM n (ms.drop j) j=idxM n (ms.drop (j+1)) (j+1):=by
  rw [Dp (d:=0) hj];exact if_pos h
theorem WS (hj:j<ms.length) (h:Ay n (ms.getD j 0)=false):idxM n (ms.drop j) j=(j:Int):=by
  rw [Dp (d:=0) hj];exact if_neg (by rw [h];exact Bool.false_ne_true)
theorem VZ (hj:¬j<ms.length):idxM n (ms.drop j) j = -1:=by
  rw [List.drop_of_length_le Z];rfl
theorem NN (n:Nat):∀(ms:List Int) (i:Nat),decide (0<=idxM n ms i)=!(ms.all (Ay n))
  | [],i=>rfl
  | z::r,i=>by
    unfold idxM
    rw [List.all_cons]
    cases h:Ay n z with
    | true=>rw [if_pos rfl,Bool.true_and];exact NN n r (i+1)
    | false=>rw [if_neg Bool.false_ne_true,Bool.false_and];simp
theorem Vl (h:ms.all (Ay n)=true) (hj:j<ms.length):Ay n (ms.getD j 0)=true:=by
  rw [List.getD,xN hj]
  exact List.all_eq_true.1 h _ (List.getElem_mem hj)
theorem WP (h:∀j,j<ms.length->Ay n (ms.getD j 0)=true):ms.all (Ay n)=true:=List.all_eq_true.2 λz hz=>by
  obtain ⟨j,hj,rfl⟩:=List.getElem_of_mem hz
  have:=h j hj
  rwa [List.getD,xN hj] at this
theorem Pf (h:ms.all (Ay n)=true) (hj:j<ms.length):0<=ms.getD j 0/\ms.getD j 0<(n:Int):=by
  have k:=Vl h hj
  unfold Ay at k
  simpa using k
end
def inE:List E4->Nat->Nat->Nat->Int
  | [],_,_,_ => -1
  | e::r,x,y,i=>if e.a=x/\e.b=y then (i:Int) else inE r x y (i+1)
section
variable {es:List E4} {x y j i N a b:Nat} {ts:List T3} {ms:List Int} {bs:List Bool}
theorem Wf (hj:j<es.length) (h:¬((es.getD j E0).a=x/\(es.getD j E0).b=y)):inE (es.drop j) x y j=inE (es.drop (j+1)) x y (j+1):=by
  rw [Dp (d:=E0) hj];exact if_neg h
theorem ZF (hj:j<es.length) (h:(es.getD j E0).a=x/\(es.getD j E0).b=y):inE (es.drop j) x y j=(j:Int):=by
  rw [Dp (d:=E0) hj];exact if_pos h
theorem Yh (hj:¬j<es.length):inE (es.drop j) x y j = -1:=by
  rw [List.drop_of_length_le Z];rfl
theorem Ig:∀(es:List E4) (i:Nat),(inE es x y i = -1/\∀e∈es,¬(e.a=x/\e.b=y))\/∃j,j<es.length/\inE es x y i=((i+j:Nat):Int)/\(es.getD j E0).a=x/\(es.getD j E0).b=y
  | [],i=>.inl ⟨rfl,λe he=>by cases he⟩
  | e::r,i=>by
    unfold inE
    by_cases h:e.a=x/\e.b=y
    · exact .inr ⟨0,Nat.succ_pos _,by rw [if_pos h];rfl,h.1,h.2⟩
    · rw [if_neg h]
      rcases Ig r (i+1) with ⟨h1,h2⟩|⟨j,h1,h2,h3,h4⟩
      · refine .inl ⟨h1,λe' he=>?_⟩
        rcases xL.1 he with rfl|he
        · exact h
        · exact h2 _ he
      · exact .inr ⟨j+1,Nat.succ_lt_succ h1,by rw [h2];congr 1;omega,h3,h4⟩
theorem Qc (hs:es.Pairwise M6) (hl:∀e∈es,e.a<e.b):(inE es (min a b) (max a b) 0 = -1/\Ap (Aq N es es.length) (Br a b)=none)\/∃j:Nat,j<es.length/\inE es (min a b) (max a b) 0=(j:Int)/\Ap (Aq N es es.length) (Br a b)=some (N+j):=by
  rcases Ig (x:=min a b) (y:=max a b) es 0 with ⟨h1,h2⟩|⟨j,h1,h2,h3,h4⟩
  · refine .inl ⟨h1,?_⟩
    cases hg:Ap (Aq N es es.length) (Br a b) with
    | none=>rfl
    | some n =>
      obtain ⟨j,hj,hk,_⟩:=Jf _ hg
      have hm:es.getD j E0∈es:=by rw [List.getD,xN hj];exact List.getElem_mem hj
      have hlt:=hl _ hm
      have k1:min (es.getD j E0).a (es.getD j E0).b=min a b:=congrArg Prod.fst hk
      have k2:max (es.getD j E0).a (es.getD j E0).b=max a b:=congrArg Prod.snd hk
      exact absurd ⟨Z,Z⟩ (h2 _ hm)
  · refine .inr ⟨j,h1,by rw [h2,Nat.zero_add],?_⟩
    have h5:=MH (N:=N) hs hl es.length (Nat.le_refl _) h1
    rw [h3,h4] at h5
    exact h5
def B2 (N:Nat) (es:List E4) (c:T3):List T3:=if inE es (min c.2.1 c.2.2) (max c.2.1 c.2.2) 0<0 then [c] else [(N+(inE es (min c.2.1 c.2.2) (max c.2.1 c.2.2) 0).toNat,c.1,c.2.1),(N+(inE es (min c.2.1 c.2.2) (max c.2.1 c.2.2) 0).toNat,c.2.2,c.1)]
theorem W5 (hs:es.Pairwise M6) (hl:∀e∈es,e.a<e.b) (c:T3):B2 N es c=Cg (Aq N es es.length) 1 c:=by
  unfold B2
  rcases Qc (N:=N) (a:=c.2.1) (b:=c.2.2) hs hl with ⟨h1,h2⟩|⟨j,_,h1,h2⟩
  · rw [h1,if_pos jY,HJ h2]
  · rw [h1,if_neg Z,Ke h2];rfl
theorem XB (hs:es.Pairwise M6) (hl:∀e∈es,e.a<e.b) {c:T3} (h:inE es (min c.2.1 c.2.2) (max c.2.1 c.2.2) 0<0) (d:Nat):Cg (Aq N es es.length) d c=[c]:=by
  rcases Qc (N:=N) (a:=c.2.1) (b:=c.2.2) hs hl with ⟨h1,h2⟩|⟨j,_,h1,h2⟩
  · exact HJ h2
  · omega
theorem Yc (hs:es.Pairwise M6) (hl:∀e∈es,e.a<e.b) {c:T3} (h:¬inE es (min c.2.1 c.2.2) (max c.2.1 c.2.2) 0<0) {n:Nat} (hn:n=N+(inE es (min c.2.1 c.2.2) (max c.2.1 c.2.2) 0).toNat):Cg (Aq N es es.length) 2 c=B2 N es (n,c.1,c.2.1)++B2 N es (n,c.2.2,c.1):=by
  rcases Qc (N:=N) (a:=c.2.1) (b:=c.2.2) hs hl with ⟨h1,h2⟩|⟨j,_,h1,h2⟩
  · omega
  · rw [Ke h2,W5 hs hl,W5 hs hl,hn,h1];rfl
def Mo (ts:List T3) (k:Nat):P2:=(((BG ts).getD k E0).a,((BG ts).getD k E0).b)
def jx (ts:List T3) (a b:Nat):Nat:=Xu 0 (BG ts) a b
theorem Fo (hn:Bu N ts=true) (hN:N<=4611686018427387904) (hk:Br a b∈FJ ts):jx ts a b<(BG ts).length/\Mo ts (jx ts a b)=Br a b:=by
  obtain ⟨j,h1,h2,h3,h4⟩:=NJ (M:=0) hn hN hk
  rw [Nat.zero_add] at h4
  unfold jx Mo
  rw [h4]
  exact ⟨h1,Prod.ext h2 h3⟩
theorem OJ (hn:Bu N ts=true) (hN:N<=4611686018427387904) (hk:Br a b∈FJ ts) {k:Nat} (h:k<(BG ts).length) (e:Mo ts k=Br a b):k=jx ts a b:=by
  have:=YM (M:=0) hn hN hk h (congrArg Prod.fst e) (congrArg Prod.snd e)
  rw [Nat.zero_add] at this
  exact this
theorem au (hn:Bu N ts=true) (hN:N<=4611686018427387904) (hk:Br a b∈FJ ts):inE (BG ts) (min a b) (max a b) 0=((jx ts a b:Nat):Int):=by
  rcases Ig (x:=min a b) (y:=max a b) (BG ts) 0 with ⟨_,h2⟩|⟨j,h1,h2,h3,h4⟩
  · obtain ⟨h5,h6⟩:=Fo hn hN hk
    have hm:(BG ts).getD (jx ts a b) E0∈BG ts:=by rw [List.getD,xN h5];exact List.getElem_mem h5
    exact absurd ⟨congrArg Prod.fst h6,congrArg Prod.snd h6⟩ (h2 _ hm)
  · rw [h2,Nat.zero_add,OJ hn hN hk h1 (Prod.ext h3 h4)]
theorem JR {k:Nat} (hk:k<bs.length):(bs.set j true).getD k false=if j=k then true else bs.getD k false:=by
  rw [List.getD,List.getElem?_set]
  by_cases h:j=k
  · subst h
    rw [if_pos rfl,if_pos rfl,if_pos hk];rfl
  · rw [if_neg h,if_neg h];rfl
def OG (bs:List Bool):Nat:=(bs.filter λu=>!u).length
theorem SY:∀(bs:List Bool) (j:Nat),j<bs.length->bs.getD j false=false->OG (bs.set j true)<OG bs
  | [],j,h,_=>by cases h
  | u::r,0,_,h=>by
    have h:u=false:=h
    subst h
    unfold OG
    rw [List.set_cons_zero,List.filter_cons,List.filter_cons]
    simp
  | u::r,j+1,h,h0=>by
    have:=SY r j (Nat.lt_of_succ_lt_succ h) h0
    unfold OG at this ⊢
    rw [List.set_cons_succ,List.filter_cons,List.filter_cons]
    split
    · rw [List.length_cons,List.length_cons];omega
    · exact this
structure QX (ts:List T3) (ms:List Int) (i:Nat) (bs:List Bool):Prop where
  len:bs.length=(BG ts).length
  sub:∀k,k<bs.length->bs.getD k false=true->Mn ts (Mi ts ms) (Mo ts k)
  mrk:∀k,k<bs.length->Mi ts (ms.take i) (Mo ts k)->bs.getD k false=true
theorem QX.zero:QX ts ms 0 (List.replicate (BG ts).length false):=⟨List.length_replicate,(λk hk h=>by
  rw [List.length_replicate] at hk
  rw [List.getD,List.getElem?_replicate,if_pos hk] at h;cases h),λk _ ⟨z,hz,_⟩=>by rw [List.take_zero] at hz;cases hz⟩
theorem QX.put (h:QX ts ms i bs) (hc:Mn ts (Mi ts ms) (Mo ts j)):QX ts ms i (bs.set j true):=by
  refine ⟨by rw [List.length_set];exact h.len,λk hk e=>?_,λk hk e=>?_⟩
  · rw [List.length_set] at hk
    rw [JR hk] at e
    split at e
    · rename_i q;rw [<-q];exact hc
    · exact h.sub k hk e
  · rw [List.length_set] at hk
    rw [JR hk]
    split
    · rfl
    · exact h.mrk k hk e
theorem QX.skip (h:QX ts ms i bs) (hi:i<ms.length) (hn:¬(0<=ms.getD i 0/\ms.getD i 0<(ts.length:Int))):QX ts ms (i+1) bs:=by
  refine ⟨h.len,h.sub,λk hk ⟨z,hz,a,b,e⟩=>?_⟩
  rw [Gj hi] at hz
  rcases List.mem_append.1 hz with hz|hz
  · exact h.mrk k hk ⟨z,hz,a,b,e⟩
  · exact absurd (by rw [<-xM.1 hz];exact ⟨a,b⟩) hn
theorem QX.mark (hn:Bu N ts=true) (hN:N<=4611686018427387904) (h:QX ts ms i bs) (hi:i<ms.length) {t:Nat} (ht:((t:Nat):Int)=ms.getD i 0) (hl:t<ts.length) {T:T3} (hT:T=ts.getD t (0,0,0)) (hk:Br T.2.1 T.2.2∈FJ ts):QX ts ms (i+1) (bs.set (jx ts T.2.1 T.2.2) true):=by
  obtain ⟨h1,h2⟩:=Fo hn hN hk
  have hb:Mo ts (jx ts T.2.1 T.2.2)=Cf (ts.getD (ms.getD i 0).toNat (0,0,0)):=by rw [h2,<-ht,Int.toNat_natCast,<-hT];rfl
  have h3:=h.put (j:=jx ts T.2.1 T.2.2) (by rw [hb];exact .start (VJ hi Z Z))
  refine ⟨h3.len,h3.sub,λk hq ⟨z,hz,a,b,e⟩=>?_⟩
  rw [Gj hi] at hz
  rcases List.mem_append.1 hz with hz|hz
  · exact h3.mrk k hq ⟨z,hz,a,b,e⟩
  · have hq2:k<bs.length:=by rw [List.length_set] at hq;exact hq
    rw [JR hq2,if_pos]
    have e2:Mo ts k=Br T.2.1 T.2.2:=by rw [e,xM.1 hz,<-hb];exact h2
    exact (OJ hn hN hk (by rw [<-h.len];exact hq2) e2).symm
def Jj (ts:List T3) (bs:List Bool) (j:Nat):Prop:=∀q,q<j->bs.getD (jx ts (ts.getD q (0,0,0)).2.1 (ts.getD q (0,0,0)).2.2) false=false->bs.getD (jx ts (ts.getD q (0,0,0)).1 (ts.getD q (0,0,0)).2.1) false=false/\bs.getD (jx ts (ts.getD q (0,0,0)).2.2 (ts.getD q (0,0,0)).1) false=false
theorem Qd {j:Nat} {T:T3} (h:Jj ts bs j) (hT:T=ts.getD j (0,0,0)) (hs:bs.getD (jx ts T.2.1 T.2.2) false=false->bs.getD (jx ts T.1 T.2.1) false=false/\bs.getD (jx ts T.2.2 T.1) false=false):Jj ts bs (j+1):=λq hq=>by
  rcases Nat.lt_or_ge q j with k|k
  · exact h q k
  · rw [show q=j by omega,<-hT];exact hs
theorem Z_ (hn:Bu N ts=true) (hN:N<=4611686018427387904) (h:QX ts ms ms.length bs) (hc:Jj ts bs ts.length) {key:P2} (c:Mn ts (Mi ts ms) key):∀k,k<bs.length->Mo ts k=key->bs.getD k false=true:=by
  induction c with
  | start hs=>exact λk hk e=>h.mrk k hk (by rw [List.take_length,e];exact hs)
  | up ht _ he ih =>
    rename_i t k' _
    intro k hk e
    obtain ⟨q,hq,rfl⟩:=List.getElem_of_mem ht
    obtain ⟨k1,k2,k3⟩:=OR (List.getElem_mem hq)
    have hd:ts.getD q (0,0,0)=ts[q]:=by rw [List.getD,xN hq];rfl
    have e1:=OJ hn hN k2 (by rw [<-h.len];exact hk) e
    cases hb:bs.getD k false with
    | true=>rfl
    | false =>
      have h2:=hc q hq (by rw [hd,<-e1];exact hb)
      rw [hd] at h2
      rcases he with he|he
      · obtain ⟨g1,g2⟩:=Fo hn hN k1
        have:=ih _ (by rw [h.len];exact g1) (g2.trans he.symm)
        rw [h2.1] at this;cases this
      · obtain ⟨g1,g2⟩:=Fo hn hN k3
        have:=ih _ (by rw [h.len];exact g1) (g2.trans he.symm)
        rw [h2.2] at this;cases this
theorem X6 {p:E4->Bool} (hi:i<es.length) (h:p (es.getD i E0)=true):(es.take (i+1)).filter p=(es.take i).filter p++[es.getD i E0]:=by
  rw [Bd (d:=E0) hi,List.filter_append,List.filter_cons,if_pos h];rfl
theorem aw {p:E4->Bool} (hi:i<es.length) (h:p (es.getD i E0)=false):(es.take (i+1)).filter p=(es.take i).filter p:=by
  rw [Bd (d:=E0) hi,List.filter_append,List.filter_cons,if_neg (by rw [h];exact Bool.false_ne_true)];simp
theorem NK {l l':List E4} (h:Jg ts ms l) (h':Jg ts ms l'):l=l':=by
  obtain ⟨p,h1,h2⟩:=h.ex
  obtain ⟨q,h3,h4⟩:=h'.ex
  rw [h1,h3]
  exact List.filter_congr λe _=>Bool.eq_iff_iff.2 ((h2 e).trans (h4 e).symm)
theorem Xb (ts:List T3) (ms:List Int):∃l,Jg ts ms l:=by
  classical
  exact ⟨_,⟨λe=>decide (Mn ts (Mi ts ms) (e.a,e.b)),rfl,λe=>decide_eq_true_iff⟩⟩
theorem QN {l:List E4} (hn:Bu N ts=true) (hN:N<=4611686018427387904) (h:Jg ts ms l):l.Pairwise M6/\(∀e∈l,e.a<e.b)/\l.length<=(BG ts).length:=by
  obtain ⟨p,h1,_⟩:=h.ex
  rw [h1]
  exact ⟨(Fi hn hN).filter _,λe he=>(GD hn hN (List.mem_filter.1 he).1).1,List.length_filter_le _ _⟩
end
def MN.ru {ps:List Pt} {ts:List T3} {ss:List Z3} (x:MN ps ts ss):RU ps.length ts.length ss.length:=⟨rowsL BB ps,rowsL Ac ts,rowsL AS ss,x.a,x.b,x.c⟩
theorem S0 {ts:List T3} {bs b2:List Bool} {a2:Bool} {t:Nat} (hd:(a2=false/\b2=bs/\Jj ts bs t)\/(a2=true/\OG b2<OG bs)) (ht:t=ts.length):(a2=false->Jj ts b2 ts.length)/\2*OG b2+a2.toNat<2*OG bs+1:=by
  subst ht
  rcases hd with ⟨h1,h2,h3⟩|⟨h1,h2⟩
  · subst h1;subst h2
    exact ⟨λ_=>h3,by show 2*OG b2+0<_;omega⟩
  · subst h1
    exact ⟨λh=>(by cases h),by show 2*OG b2+1<_;omega⟩
theorem Z0 {ts:List T3} {bs b2 b3:List Bool} {a2:Bool} {t:Nat} (hd:(a2=false/\b2=bs/\Jj ts bs t)\/(a2=true/\OG b2<OG bs)) (h:OG b3<OG b2):OG b3<OG bs:=by
  rcases hd with ⟨_,h2,_⟩|⟨_,h2⟩
  · rw [<-h2];exact h
  · omega
theorem Mu (N:Nat) (es:List E4) (hs:es.Pairwise M6) (hl:∀e∈es,e.a<e.b) (c:T3):(B2 N es c=[c]/\Cg (Aq N es es.length) 2 c=[c])\/∃n,B2 N es c=[(n,c.1,c.2.1),(n,c.2.2,c.1)]/\Cg (Aq N es es.length) 2 c=B2 N es (n,c.1,c.2.1)++B2 N es (n,c.2.2,c.1):=by
  by_cases h:inE es (min c.2.1 c.2.2) (max c.2.1 c.2.2) 0<0
  · exact .inl ⟨if_pos h,XB hs hl h 2⟩
  · exact .inr ⟨_,if_neg h,Yc hs hl h O⟩
theorem OM (N:Nat) (es:List E4) (c:T3):(B2 N es c).length<=2:=by
  unfold B2;split<;>simp
def Cj {α:Type} (a b:List α):List α:=a++b
def JS (N:Nat) (l:List E4):List P2:=E6 N (l.map O2) (l.map O2).length
theorem Yp {N:Nat} {l:List E4}:(JS N l).length<=l.length:=by
  have h:=Sm (N:=N) (es:=l.map O2) (i:=(l.map O2).length)
  rw [xI] at h
  unfold JS
  rw [xI]
  exact h
def Oq (N:Nat) (l:List E4) (ts:List T3):List Z3:=(Gw (Aq N l l.length) ts).map Ba
structure ez (ps:List Pt) (ts:List T3) (ss:List Z3) (ms:List Int) where
  l:List E4
  cut:Jg ts ms l
  x:S8 (IP ps (JS ps.length l)) (Oq ps.length l ts) (Fj ps.length ss (JS ps.length l) (Oq ps.length l ts)) (CY (Aq ps.length l l.length) ts ts.length) 0
instance {ps:List Pt} {ts:List T3} {ss:List Z3} {ms:List Int}:C8 (ez ps ts ss ms):=⟨λb=>C8.val b.x,λb=>C8.rows b.x,λb y hy=>C8.ro b.x y hy⟩
theorem ZL {S:Nat->Prop} {W w:World} {ps:List Pt} {ts:List T3} {ss:List Z3} {ms:List Int} {e:Ending} (u:DX ts ms) (h:Ad (S8 (IP ps (JS ps.length u.l)) (Oq ps.length u.l ts) (Fj ps.length ss (JS ps.length u.l) (Oq ps.length u.l ts)) (CY (Aq ps.length u.l u.l.length) ts ts.length) 0) S W e w):Ad (ez ps ts ss ms) S W e w:=by
  obtain ⟨a,h1,h2,h3⟩:=h
  exact ⟨⟨u.l,u.cut,a⟩,h1,h2,h3⟩
theorem Xa {S:Nat->Prop} {W w:World} {L:List As} {ps:List Pt} {ts ss:List Z3} {l:List Nat} {e:Nat} (hw:Own ⟨W,none⟩ w L) {x:an ps ts ss} (h:Ro (SL ⟨W,none⟩ S L) w x) (i:Nat) {q:Option Addr} {T n c:Nat} (hi:L[i]?=some (rowW q T 1 n c (inL l))) (ho:OwnOk q n c) (hl:n=l.length) {v:Value} (hv:v=.tuple #[aG (B9 x.m),.slice q n n,vN e]):Ad (S8 ps ts ss l e) S W (.returned v) w:=by
  subst hl
  refine ⟨⟨x,⟨q,ho.clip⟩⟩,by rw [hv];rfl,hw.out,λy hy=>?_⟩
  rcases List.mem_append.1 (show y∈[x.m.a.row,x.m.b.row,x.m.c.row]++[AB q (inL l)] from hy) with hy|hy
  · have h1:=h y hy
    exact ⟨h1.1,λb e=>(h1.2 b e).2⟩
  · rcases xM.1 hy with rfl
    exact C9 hw i hi ho (by rw [Cl,Nat.mul_one])
def VD (N:Nat) (zt:List Z3) (ms:List Int):Bool:=DG N zt&&ms.all (Ay zt.length)
def Gq (ps:List Pt) (zt:List Z3) (ms:List Int) (l:List E4):List Pt:=if VD ps.length zt ms=true then IP ps (JS ps.length l) else []
def El (N:Nat) (zt:List Z3) (ms:List Int) (l:List E4):List Z3:=if VD N zt ms=true then Oq N l (zt.map DN) else []
def Em (N:Nat) (zt ss:List Z3) (ms:List Int) (l:List E4):List Z3:=if VD N zt ms=true then Fj N ss (JS N l) (Oq N l (zt.map DN)) else []
def Dy (N:Nat) (zt:List Z3) (ms:List Int) (l:List E4):List Nat:=if VD N zt ms=true then CY (Aq N l l.length) (zt.map DN) zt.length else []
def Zc (N:Nat) (zt:List Z3) (ms:List Int):Nat:=if VD N zt ms=true then 0 else 1
def Cv (N:Nat) (zt:List Z3) (l:List E4):List E4:=if DG N zt=true then l else []
end
end Go.Proofs.YtpolhpjiahbidaaGreatDoor
