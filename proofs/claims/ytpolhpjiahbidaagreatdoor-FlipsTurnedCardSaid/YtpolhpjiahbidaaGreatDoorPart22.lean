import Derived.Test.YtpolhpjiahbidaaGreatDoorPart21
namespace Go.Proofs.YtpolhpjiahbidaaGreatDoor
open Go Go.RowKit Go.Proofs.Tryz
open Go.Value renaming slice→qz,bool→qa
set_option linter.unusedVariables false
set_option linter.unusedSimpArgs false
section
set_option maxRecDepth 100000
theorem Pi (ts:List Z3) (x:RX (rowsL BP ts) ts.length) (hl:ts.length<=1000000000) (w:World) {S:Nat->Prop} (hx:Ro S w x):Calls prog 53 #[(qz x.p ts.length x.c)] w (D6 TD (RG (T:=105) (z:=3) (cs:=rowsL BP ts) (n:=ts.length)) S w):=by
 have lx:=Da (W:=w) hx
 refine Ah (args:=[(qz x.p ts.length x.c)]) (L:=[AF x.p (rowsL BP ts)]) func53 O O (BA O) (Db hx A7) (zM (sL [0] O) (q4 (asg' O (zo 105 3 (oNl' (q1 (q4 (AL O (AD (v:=(qa x.p.isNone)) (FD O O underlying23) O (oNl' (zB (sL [0,2,4] O) ?_)))))))))))
 refine zA ?_
 refine zL O (λhc0=>?_) (λhc0=>?_)
 ·have hts:ts=[]:=List.eq_nil_of_length_eq_zero (x.ok.nil (Option.isNone_iff_eq_none.1 hc0)).1
  exact q4 (asg' O (zo 105 3 (oNl' (zA (zF (zK (ret_one O (rd_tmp (v:=jj) O) (λw hw=>(by subst hts;exact JJ hw (OX.mk none 0 OwnOk.none) (by exact (sk (sl (sl sr)))) (Fq.own O Fq.nil) (by show qz none 0 0=_;rfl))))))))))
 ·exact zC (q2 (zZ (V:=λb1=>(qz (jk b1) 0 0)) (T:=105) (cs:=[]) (AI O) (F3 underlying23 sizeOf105) O (BA O) λb1=>yT (z:=3) 0 O Z λho_b1=>AL O (yO Yc O ho_b1 O (V8 (k:=2) O x.ok) (AS Cu _) (E7 Rc _) (LG Z) Z O λp_1 c_1 ho_1=>asg' O (oNl' (zB (sL [0,2] O) (zA (zF (ret_one O (rd_tmp (v:=(qz p_1 ts.length c_1)) O) (λw hw=>(JJ hw (OX.mk p_1 c_1 ho_1) (sk (sl (sl sr))) (Fq.own O Fq.nil) O))))))))))
theorem Ph (ts:List Z3) (x:RX (rowsL BP ts) ts.length) (hl:ts.length<=1000000000) (w:World) {S:Nat->Prop} (hx:Ro S w x):Calls prog 103 #[(qz x.p ts.length x.c)] w (D6 TD (RG (T:=110) (z:=3) (cs:=rowsL BP ts) (n:=ts.length)) S w):=by
 have lx:=Da (W:=w) hx
 refine Ah (args:=[(qz x.p ts.length x.c)]) (L:=[AF x.p (rowsL BP ts)]) func103 O O (BA O) (Db hx A7) (zM (sL [0] O) (q4 (asg' O (zo 110 3 (oNl' (q1 (q4 (AL O (AD (v:=(qa x.p.isNone)) (FD O O underlying24) O (oNl' (zB (sL [0,2,4] O) ?_)))))))))))
 refine zA ?_
 refine zL O (λhc0=>?_) (λhc0=>?_)
 ·have hts:ts=[]:=List.eq_nil_of_length_eq_zero (x.ok.nil (Option.isNone_iff_eq_none.1 hc0)).1
  exact q4 (asg' O (zo 110 3 (oNl' (zA (zF (zK (ret_one O (rd_tmp (v:=jj) O) (λw hw=>(by subst hts;exact JJ hw (OX.mk none 0 OwnOk.none) (by exact (sk (sl (sl sr)))) (Fq.own O Fq.nil) (by show qz none 0 0=_;rfl))))))))))
 ·exact zC (q2 (zZ (V:=λb1=>(qz (jk b1) 0 0)) (T:=110) (cs:=[]) (AI O) (F3 underlying24 sizeOf110) O (BA O) λb1=>yT (z:=3) 0 O Z λho_b1=>AL O (yO Yd O ho_b1 O (V8 (k:=2) O x.ok) (AS Cu _) (E7 Rc _) (LG Z) Z O λp_1 c_1 ho_1=>asg' O (oNl' (zB (sL [0,2] O) (zA (zF (ret_one O (rd_tmp (v:=(qz p_1 ts.length c_1)) O) (λw hw=>(JJ hw (OX.mk p_1 c_1 ho_1) (sk (sl (sl sr))) (Fq.own O Fq.nil) O))))))))))
theorem TL {ps:List Pt} {ts ss:List Z3} (x:MZ ps ts ss) (hp:ps.length<=1000000000) (ht:ts.length<=1000000000) (hs:ss.length<=1000000000) (w:World) {S:Nat->Prop} (hx:Ro S w x):Calls prog 35 #[(aG (On x))] w (D6 (λa:aV ps ts ss=>aG (dS a)) dT S w):=by
 have lx:=Da (W:=w) hx
 refine Ah (args:=[(aG (On x))]) (L:=[AF x.a.p (rowsL AZ ps),AF x.b.p (rowsL BP ts),AF x.c.p (rowsL BP ss)]) func35 O O (BA O) (Db hx A7) (zM (sL [0] O) (q4 (BV (cs:=On x) O λb1=>al Hh O λb2=>q6 (sL [1,2] O) (DC [(0,true),(1,true),(4,true),(5,true),(8,true),(9,true),(2,false),(3,false),(6,false),(7,false),(10,false),(11,false),(12,true),(13,false)] (sl sr) (Am (v:=(pP b1 0)) O (AA O underlying30 O sizeOf28 O) (BU 0 (qz x.a.p ps.length x.a.c) C0 O (Am (v:=(pP b1 1)) O (AA O underlying30 O sizeOf23 O) (BU 0 (qz x.b.p ts.length x.b.c) C2 O (Am (v:=(pP b1 2)) O (AA O underlying30 O sizeOf24 O) ?_)))))))))
 refine BU 0 (qz x.c.p ss.length x.c.c) O7 O (zN O (yD (S:=S) (V:=TD) (LW:=RG (T:=99) (z:=10) (cs:=rowsL AZ ps) (n:=ps.length)) (args:=[(qz x.a.p ps.length x.a.c)]) call51 (λw hw=>Iz ps x.a Z w (Zv (Co hw 2 O lx))) O λcl1 hcl1=>zD (sl (sl sr)) (zN O (ck' call55 (OO cl1.p ps.length cl1.c cl1.ok.row.le) O (zD (sl (sl sr)) (zN O (yD (S:=S) (V:=TD) (LW:=RG (T:=105) (z:=3) (cs:=rowsL BP ts) (n:=ts.length)) (args:=[(qz x.b.p ts.length x.b.c)]) call53 (λw hw=>Pi ts x.b Z w (Zw (Co hw 3 O lx))) O λcl2 hcl2=>zD (sl (sl (sl sr))) (zN O (ck' call52 (OP cl2.p ts.length cl2.c cl2.ok.row.le) O ?_)))))))))
 refine zD (sl (sl (sl sr))) (zN O (yD (S:=S) (V:=TD) (LW:=RG (T:=110) (z:=3) (cs:=rowsL BP ss) (n:=ss.length)) (args:=[(qz x.c.p ss.length x.c.c)]) call103 (λw hw=>Ph ss x.c Z w (Zx (Co hw 4 O lx))) O λcl3 hcl3=>zD (sl (sl (sl (sl sr)))) (zN O (ck' call102 (Ki cl3.p ss.length cl3.c cl3.ok.row.le) O (zD (sl (sl (sl (sl sr)))) (Am (v:=(aG ([(qz cl1.p ps.length ps.length),(qz cl2.p ts.length ts.length),(qz cl3.p ss.length ss.length)]))) O (AP (zs:=[jj,jj,jj]) (vs:=[(qz cl1.p ps.length ps.length),(qz cl2.p ts.length ts.length),(qz cl3.p ss.length ss.length)]) (pv:=[(0,(qz cl1.p ps.length ps.length)),(1,(qz cl2.p ts.length ts.length)),(2,(qz cl3.p ss.length ss.length))]) (places:=[(0,1),(1,1),(2,1)]) zeroValue30 underlying30 (λw=>by simp [sizeOf23,sizeOf24,sizeOf28]) O O) (zN O (Ge O sizeOf30 O (zD (sl (sl (sl (sl sr)))) (zQ ?_))))))))))
 exact zB (sL [2] O) (zA (zF (ret_one O (Ao (i:=3) (cs:=[(qz cl1.p ps.length ps.length),(qz cl2.p ts.length ts.length),(qz cl3.p ss.length ss.length)]) O O isAgg30 sizeOf30 O) (λw hw=>(JJ hw (aV.mk (OX.mk cl1.p cl1.c cl1.ok) (OX.mk cl2.p cl2.c cl2.ok) (OX.mk cl3.p cl3.c cl3.ok)) (sk (sk (sk (sl (sl (sl (sl (sl sr)))))))) (Fq.own O (Fq.own O (Fq.own O Fq.nil))) O)))))
theorem Ys (p q:Pt) (w:World)  :Calls prog 135 #[(aG (AZ p)),(aG (AZ q))] w (Ad w (qa (decide (p=q)))):=by
 refine AY (args:=[(aG (AZ p)),(aG (AZ q))]) func135 O O (BA O) (zM (sL [0,1] O) (q4 (BV (cs:=AZ p) O λb1=>BV (cs:=AZ q) O λb2=>asg' O (q3 (sL [2,3,4] O) (Al 1 A_ O (Al 0 A_ O (AD (B0 (c:=decide (p=q)) O O eqGuardType99 (US 9994 p q)) O (asg' O (oNl' ?_)))))))))
 exact zB (sL [4] O) (zA (zF (ret_one O (rd_tmp (v:=(qa (decide (p=q)))) O) (λw hw=>⟨rfl,hw.out⟩))))
theorem S9 (xs ys:List Pt) (x:RX (rowsL AZ xs) xs.length) (y:RX (rowsL AZ ys) ys.length) (hl:xs.length<=1000000) (w:World) {S:Nat->Prop} (hx:Ro S w x) (hy:Ro S w y):Calls prog 134 #[(qz x.p xs.length x.c),(qz y.p ys.length y.c),(Value.func (.func 135) #[] #[])] w (Ad w (qa (decide (xs=ys)))):=by
 have lx:=Da (W:=w) hx
 have ly:=Da (W:=w) hy
 refine Ah (args:=[(qz x.p xs.length x.c),(qz y.p ys.length y.c),(Value.func (.func 135) #[] #[])]) (L:=[AF x.p (rowsL AZ xs),AF y.p (rowsL AZ ys)]) func134 O O (BA O) (Db hx (Db hy A7)) (zM (sL [0,1,2] O) (q4 (asg' O (oNl' (q1 (q4 (AL O (AD (v:=(vN xs.length)) (AE O underlying28) O (AL O (AD (v:=(vN ys.length)) (AE O underlying28) O (AD (CT (c:=(decide (xs.length≠ys.length))) O O (aR (a:=xs.length) (b:=ys.length))) O ?_)))))))))))
 refine oNl' (zB (sL [0,1,2,6,12] O) (zA ?_))
 refine zL O (λhc0=>?_) (λhc0=>?_)
 ·replace hc0:=xT hc0
  have hne:¬xs=ys:=λh=>by grind
  exact q4 (asg' O (oNl' (zA (zF (zK (ret_one O (rd_tmp (v:=(qa false)) O) (λw hw=>⟨by rw [xH hne],hw.out⟩)))))))
 ·replace hc0:=xS hc0
  have hll:xs.length=ys.length:=by grind
  refine zC (q1 (q4 (AL O (AD (v:=(vN xs.length)) (AE O underlying28) O (AL O (oNl' (zB (sL [0,1,2,6,14,15] O) (zA (zJ ?_)))))))))
  refine zw (tg λ(j:Nat)=>j<=xs.length/\∀k,k<j->xs.getD k (⟨0,0⟩:Pt)=ys.getD k (⟨0,0⟩:Pt)) (tg λ(j:Nat)=>[(0,(qz x.p xs.length x.c)),(1,(qz y.p ys.length y.c)),(2,(Value.func (.func 135) #[] #[])),(14,(vN xs.length)),(15,(vN j))]) (tg λ(j:Nat)=>[AF x.p (rowsL AZ xs),AF y.p (rowsL AZ ys)]) (tg λ(j:Nat)=>xs.length-j) 0 (⟨xJ _,λk h=>absurd h (Nat.not_lt_zero _)⟩) (sF O) sr (λj hJ=>?_)
  obtain ⟨hj,he⟩:=hJ
  refine q4 (AD (Aa (c:=(decide (j<xs.length))) O O (DB (a:=j) (b:=xs.length))) O (oNl' (q1 ?_)))
  refine zL O (λhc1=>?_) (λhc1=>?_)
  ·replace hc1:=xT hc1
   refine zC (q1 (zJ (q4 (AL O (asg' O (q6 (sL [0,1,2,14,15,7] O) (DC (Er 9++[(9,false),(10,true)]) sr (By O (By O (By O (Am (v:=(pP (pB x.p) (pO x.p+j*10))) O (AM (j:=j) O O x.ok underlying28 sizeOf99 O Z) ?_)))))))))))
   refine Am (v:=(aG (AZ (xs.getD j (⟨0,0⟩:Pt))))) O (AO (vs:=AZ (xs.getD j (⟨0,0⟩:Pt))) (i:=0) O O (Ay.ne x.ok Z) A_ (Af An _ _ _ Z) (An _)) (By O (By O (Am (v:=(pP (pB y.p) (pO y.p+j*10))) O (AM (j:=j) O O y.ok underlying28 sizeOf99 O Z) (Am (v:=(aG (AZ (ys.getD j (⟨0,0⟩:Pt))))) O (AO (vs:=AZ (ys.getD j (⟨0,0⟩:Pt))) (i:=1) O O (Ay.ne y.ok Z) A_ (Af An _ _ _ Z) (An _)) (zN O (ck' call135 (Ys (xs.getD j (⟨0,0⟩:Pt)) (ys.getD j (⟨0,0⟩:Pt))) O (zD sr (Am O (BK (c:=(!(decide (xs.getD j (⟨0,0⟩:Pt)=ys.getD j (⟨0,0⟩:Pt))))) O O) (zQ (zB (sL [0,1,2,14,15,28] O) (zA ?_)))))))))))
   refine zL O (λhc2=>?_) (λhc2=>?_)
   ·simp only [jK] at hc2
    have hne:¬xs=ys:=Np (d:=(⟨0,0⟩:Pt)) (i:=j) (by grind)
    exact q4 (asg' O (oNl' (zA (zF (zS (zK (z6 (zS (zK (ret_one O (rd_tmp (v:=(qa false)) O) (λw hw=>⟨by rw [xH hne],hw.out⟩)))))))))))
   ·simp only [jK] at hc2
    have hej:xs.getD j (⟨0,0⟩:Pt)=ys.getD j (⟨0,0⟩:Pt):=by grind
    exact zC (zG (zA (zH (AD (AT (c:=((j+1:Nat):Int)) O O (AV (a:=j) (b:=1) Z)) O (AL O (oNl' (zB (sL [0,1,2,14,15] O) (zl (j+1) (⟨Z,λk hk=>by rcases Nat.lt_or_ge k j with q|q;exact he k q;rw [show k=j by omega];exact hej⟩) Z (sF O) sr))))))))
  ·replace hc1:=xS hc1
   have heq:xs=ys:=Kv (d:=(⟨0,0⟩:Pt)) hll λk hk=>he k Z
   exact zU (zO (zW (zP (q2 (asg' O (oNl' (zA (zF (ret_one O (rd_tmp (v:=(qa true)) O) (λw hw=>⟨by rw [xI heq],hw.out⟩))))))))))
theorem Yu (p q:Z3) (w:World)  :Calls prog 137 #[(aG (BP p)),(aG (BP q))] w (Ad w (qa (decide (p=q)))):=by
 refine AY (args:=[(aG (BP p)),(aG (BP q))]) func137 O O (BA O) (zM (sL [0,1] O) (q4 (BV (cs:=BP p) O λb1=>BV (cs:=BP q) O λb2=>asg' O (q3 (sL [2,3,4] O) (Al 1 C8 O (Al 0 C8 O (AD (B0 (c:=decide (p=q)) O O eqGuardType105 (ZT 9998 p q)) O (asg' O (oNl' ?_)))))))))
 exact zB (sL [4] O) (zA (zF (ret_one O (rd_tmp (v:=(qa (decide (p=q)))) O) (λw hw=>⟨rfl,hw.out⟩))))
theorem TA (xs ys:List Z3) (x:RX (rowsL BP xs) xs.length) (y:RX (rowsL BP ys) ys.length) (hl:xs.length<=1000000) (w:World) {S:Nat->Prop} (hx:Ro S w x) (hy:Ro S w y):Calls prog 136 #[(qz x.p xs.length x.c),(qz y.p ys.length y.c),(Value.func (.func 137) #[] #[])] w (Ad w (qa (decide (xs=ys)))):=by
 have lx:=Da (W:=w) hx
 have ly:=Da (W:=w) hy
 refine Ah (args:=[(qz x.p xs.length x.c),(qz y.p ys.length y.c),(Value.func (.func 137) #[] #[])]) (L:=[AF x.p (rowsL BP xs),AF y.p (rowsL BP ys)]) func136 O O (BA O) (Db hx (Db hy A7)) (zM (sL [0,1,2] O) (q4 (asg' O (oNl' (q1 (q4 (AL O (AD (v:=(vN xs.length)) (AE O underlying23) O (AL O (AD (v:=(vN ys.length)) (AE O underlying23) O (AD (CT (c:=(decide (xs.length≠ys.length))) O O (aR (a:=xs.length) (b:=ys.length))) O ?_)))))))))))
 refine oNl' (zB (sL [0,1,2,6,12] O) (zA ?_))
 refine zL O (λhc0=>?_) (λhc0=>?_)
 ·replace hc0:=xT hc0
  have hne:¬xs=ys:=λh=>by grind
  exact q4 (asg' O (oNl' (zA (zF (zK (ret_one O (rd_tmp (v:=(qa false)) O) (λw hw=>⟨by rw [xH hne],hw.out⟩)))))))
 ·replace hc0:=xS hc0
  have hll:xs.length=ys.length:=by grind
  refine zC (q1 (q4 (AL O (AD (v:=(vN xs.length)) (AE O underlying23) O (AL O (oNl' (zB (sL [0,1,2,6,14,15] O) (zA (zJ ?_)))))))))
  refine zw (tg λ(j:Nat)=>j<=xs.length/\∀k,k<j->xs.getD k ((0,0,0):Z3)=ys.getD k ((0,0,0):Z3)) (tg λ(j:Nat)=>[(0,(qz x.p xs.length x.c)),(1,(qz y.p ys.length y.c)),(2,(Value.func (.func 137) #[] #[])),(14,(vN xs.length)),(15,(vN j))]) (tg λ(j:Nat)=>[AF x.p (rowsL BP xs),AF y.p (rowsL BP ys)]) (tg λ(j:Nat)=>xs.length-j) 0 (⟨xJ _,λk h=>absurd h (Nat.not_lt_zero _)⟩) (sF O) sr (λj hJ=>?_)
  obtain ⟨hj,he⟩:=hJ
  refine q4 (AD (Aa (c:=(decide (j<xs.length))) O O (DB (a:=j) (b:=xs.length))) O (oNl' (q1 ?_)))
  refine zL O (λhc1=>?_) (λhc1=>?_)
  ·replace hc1:=xT hc1
   refine zC (q1 (zJ (q4 (AL O (asg' O (q6 (sL [0,1,2,14,15,7] O) (DC (Er 9++[(9,false),(10,true)]) sr (By O (By O (By O (Am (v:=(pP (pB x.p) (pO x.p+j*3))) O (AM (j:=j) O O x.ok underlying23 sizeOf105 O Z) ?_)))))))))))
   refine Am (v:=(aG (BP (xs.getD j ((0,0,0):Z3))))) O (AO (vs:=BP (xs.getD j ((0,0,0):Z3))) (i:=0) O O (Ay.ne x.ok Z) C8 (Af Cu _ _ _ Z) (Cu _)) (By O (By O (Am (v:=(pP (pB y.p) (pO y.p+j*3))) O (AM (j:=j) O O y.ok underlying23 sizeOf105 O Z) (Am (v:=(aG (BP (ys.getD j ((0,0,0):Z3))))) O (AO (vs:=BP (ys.getD j ((0,0,0):Z3))) (i:=1) O O (Ay.ne y.ok Z) C8 (Af Cu _ _ _ Z) (Cu _)) (zN O (ck' call137 (Yu (xs.getD j ((0,0,0):Z3)) (ys.getD j ((0,0,0):Z3))) O (zD sr (Am O (BK (c:=(!(decide (xs.getD j ((0,0,0):Z3)=ys.getD j ((0,0,0):Z3))))) O O) (zQ (zB (sL [0,1,2,14,15,28] O) (zA ?_)))))))))))
   refine zL O (λhc2=>?_) (λhc2=>?_)
   ·simp only [jK] at hc2
    have hne:¬xs=ys:=Np (d:=((0,0,0):Z3)) (i:=j) (by grind)
    exact q4 (asg' O (oNl' (zA (zF (zS (zK (z6 (zS (zK (ret_one O (rd_tmp (v:=(qa false)) O) (λw hw=>⟨by rw [xH hne],hw.out⟩)))))))))))
   ·simp only [jK] at hc2
    have hej:xs.getD j ((0,0,0):Z3)=ys.getD j ((0,0,0):Z3):=by grind
    exact zC (zG (zA (zH (AD (AT (c:=((j+1:Nat):Int)) O O (AV (a:=j) (b:=1) Z)) O (AL O (oNl' (zB (sL [0,1,2,14,15] O) (zl (j+1) (⟨Z,λk hk=>by rcases Nat.lt_or_ge k j with q|q;exact he k q;rw [show k=j by omega];exact hej⟩) Z (sF O) sr))))))))
  ·replace hc1:=xS hc1
   have heq:xs=ys:=Kv (d:=((0,0,0):Z3)) hll λk hk=>he k Z
   exact zU (zO (zW (zP (q2 (asg' O (oNl' (zA (zF (ret_one O (rd_tmp (v:=(qa true)) O) (λw hw=>⟨by rw [xI heq],hw.out⟩))))))))))
theorem Yt (p q:Z3) (w:World)  :Calls prog 139 #[(aG (BP p)),(aG (BP q))] w (Ad w (qa (decide (p=q)))):=by
 refine AY (args:=[(aG (BP p)),(aG (BP q))]) func139 O O (BA O) (zM (sL [0,1] O) (q4 (BV (cs:=BP p) O λb1=>BV (cs:=BP q) O λb2=>asg' O (q3 (sL [2,3,4] O) (Al 1 Lg O (Al 0 Lg O (AD (B0 (c:=decide (p=q)) O O eqGuardType110 (ZU 9998 p q)) O (asg' O (oNl' ?_)))))))))
 exact zB (sL [4] O) (zA (zF (ret_one O (rd_tmp (v:=(qa (decide (p=q)))) O) (λw hw=>⟨rfl,hw.out⟩))))
theorem S_ (xs ys:List Z3) (x:RX (rowsL BP xs) xs.length) (y:RX (rowsL BP ys) ys.length) (hl:xs.length<=1000000) (w:World) {S:Nat->Prop} (hx:Ro S w x) (hy:Ro S w y):Calls prog 138 #[(qz x.p xs.length x.c),(qz y.p ys.length y.c),(Value.func (.func 139) #[] #[])] w (Ad w (qa (decide (xs=ys)))):=by
 have lx:=Da (W:=w) hx
 have ly:=Da (W:=w) hy
 refine Ah (args:=[(qz x.p xs.length x.c),(qz y.p ys.length y.c),(Value.func (.func 139) #[] #[])]) (L:=[AF x.p (rowsL BP xs),AF y.p (rowsL BP ys)]) func138 O O (BA O) (Db hx (Db hy A7)) (zM (sL [0,1,2] O) (q4 (asg' O (oNl' (q1 (q4 (AL O (AD (v:=(vN xs.length)) (AE O underlying24) O (AL O (AD (v:=(vN ys.length)) (AE O underlying24) O (AD (CT (c:=(decide (xs.length≠ys.length))) O O (aR (a:=xs.length) (b:=ys.length))) O ?_)))))))))))
 refine oNl' (zB (sL [0,1,2,6,12] O) (zA ?_))
 refine zL O (λhc0=>?_) (λhc0=>?_)
 ·replace hc0:=xT hc0
  have hne:¬xs=ys:=λh=>by grind
  exact q4 (asg' O (oNl' (zA (zF (zK (ret_one O (rd_tmp (v:=(qa false)) O) (λw hw=>⟨by rw [xH hne],hw.out⟩)))))))
 ·replace hc0:=xS hc0
  have hll:xs.length=ys.length:=by grind
  refine zC (q1 (q4 (AL O (AD (v:=(vN xs.length)) (AE O underlying24) O (AL O (oNl' (zB (sL [0,1,2,6,14,15] O) (zA (zJ ?_)))))))))
  refine zw (tg λ(j:Nat)=>j<=xs.length/\∀k,k<j->xs.getD k ((0,0,0):Z3)=ys.getD k ((0,0,0):Z3)) (tg λ(j:Nat)=>[(0,(qz x.p xs.length x.c)),(1,(qz y.p ys.length y.c)),(2,(Value.func (.func 139) #[] #[])),(14,(vN xs.length)),(15,(vN j))]) (tg λ(j:Nat)=>[AF x.p (rowsL BP xs),AF y.p (rowsL BP ys)]) (tg λ(j:Nat)=>xs.length-j) 0 (⟨xJ _,λk h=>absurd h (Nat.not_lt_zero _)⟩) (sF O) sr (λj hJ=>?_)
  obtain ⟨hj,he⟩:=hJ
  refine q4 (AD (Aa (c:=(decide (j<xs.length))) O O (DB (a:=j) (b:=xs.length))) O (oNl' (q1 ?_)))
  refine zL O (λhc1=>?_) (λhc1=>?_)
  ·replace hc1:=xT hc1
   refine zC (q1 (zJ (q4 (AL O (asg' O (q6 (sL [0,1,2,14,15,7] O) (DC (Er 9++[(9,false),(10,true)]) sr (By O (By O (By O (Am (v:=(pP (pB x.p) (pO x.p+j*3))) O (AM (j:=j) O O x.ok underlying24 sizeOf110 O Z) ?_)))))))))))
   refine Am (v:=(aG (BP (xs.getD j ((0,0,0):Z3))))) O (AO (vs:=BP (xs.getD j ((0,0,0):Z3))) (i:=0) O O (Ay.ne x.ok Z) Lg (Af Cu _ _ _ Z) (Cu _)) (By O (By O (Am (v:=(pP (pB y.p) (pO y.p+j*3))) O (AM (j:=j) O O y.ok underlying24 sizeOf110 O Z) (Am (v:=(aG (BP (ys.getD j ((0,0,0):Z3))))) O (AO (vs:=BP (ys.getD j ((0,0,0):Z3))) (i:=1) O O (Ay.ne y.ok Z) Lg (Af Cu _ _ _ Z) (Cu _)) (zN O (ck' call139 (Yt (xs.getD j ((0,0,0):Z3)) (ys.getD j ((0,0,0):Z3))) O (zD sr (Am O (BK (c:=(!(decide (xs.getD j ((0,0,0):Z3)=ys.getD j ((0,0,0):Z3))))) O O) (zQ (zB (sL [0,1,2,14,15,28] O) (zA ?_)))))))))))
   refine zL O (λhc2=>?_) (λhc2=>?_)
   ·simp only [jK] at hc2
    have hne:¬xs=ys:=Np (d:=((0,0,0):Z3)) (i:=j) (by grind)
    exact q4 (asg' O (oNl' (zA (zF (zS (zK (z6 (zS (zK (ret_one O (rd_tmp (v:=(qa false)) O) (λw hw=>⟨by rw [xH hne],hw.out⟩)))))))))))
   ·simp only [jK] at hc2
    have hej:xs.getD j ((0,0,0):Z3)=ys.getD j ((0,0,0):Z3):=by grind
    exact zC (zG (zA (zH (AD (AT (c:=((j+1:Nat):Int)) O O (AV (a:=j) (b:=1) Z)) O (AL O (oNl' (zB (sL [0,1,2,14,15] O) (zl (j+1) (⟨Z,λk hk=>by rcases Nat.lt_or_ge k j with q|q;exact he k q;rw [show k=j by omega];exact hej⟩) Z (sF O) sr))))))))
  ·replace hc1:=xS hc1
   have heq:xs=ys:=Kv (d:=((0,0,0):Z3)) hll λk hk=>he k Z
   exact zU (zO (zW (zP (q2 (asg' O (oNl' (zA (zF (ret_one O (rd_tmp (v:=(qa true)) O) (λw hw=>⟨by rw [xI heq],hw.out⟩))))))))))
theorem Tc {ps qs:List Pt} {ts ss us vs:List Z3} (x:MZ ps ts ss) (y:MZ qs us vs) (hp:ps.length<=1000000) (ht:ts.length<=1000000) (hs:ss.length<=1000000) (w:World) {S:Nat->Prop} (hx:Ro S w x) (hy:Ro S w y):Calls prog 78 #[(aG (On x)),(aG (On y))] w (Ad w (qa (decide (ps=qs/\ts=us/\ss=vs)))):=by
 have lx:=Da (W:=w) hx
 have ly:=Da (W:=w) hy
 refine Ah (args:=[(aG (On x)),(aG (On y))]) (L:=[AF x.a.p (rowsL AZ ps),AF x.b.p (rowsL BP ts),AF x.c.p (rowsL BP ss),AF y.a.p (rowsL AZ qs),AF y.b.p (rowsL BP us),AF y.c.p (rowsL BP vs)]) func78 O O (BA O) (Db hx (Db hy A7)) (zM (sL [0,1] O) (q4 (BV (cs:=On x) O λb1=>BV (cs:=On y) O λb2=>asg' O (q3 (sL [2,3,4] O) (AD (v:=(pP b1 0)) (AA O underlying30 O sizeOf28 O) O (BF 1 (qz x.a.p ps.length x.a.c) C0 O (AD (v:=(pP b2 0)) (AA O underlying30 O sizeOf28 O) O (BF 0 (qz y.a.p qs.length y.a.c) C0 O (DH call134 (λw hw=>S9 ps qs x.a y.a Z w (Zv (Co hw 2 O lx)) (Zv (Co hw 5 O ly))) O ?_)))))))))
 refine AL O ?_
 refine ze (FM:=[(2,(pP b1 0)),(3,(pP b2 0)),(4,(qa false)),(5,(pP b1 0)),(6,(qz x.a.p ps.length x.a.c)),(7,(pP b2 0)),(8,(qz y.a.p qs.length y.a.c)),(9,(qa (decide (ps=qs)))),(10,(qa (decide (ps=qs)))),(16,(qa ((decide (ps=qs))&&(decide (ts=us)))))]) (LM:=[AX b2 30 (On y),AX b1 30 (On x),AF x.a.p (rowsL AZ ps),AF x.b.p (rowsL BP ts),AF x.c.p (rowsL BP ss),AF y.a.p (rowsL AZ qs),AF y.b.p (rowsL BP us),AF y.c.p (rowsL BP vs)]) 6 ?_ ?_
 ·rcases xQ (decide (ps=qs)) with hg1|hg1
  ·refine zI (k:=10) (u:=qa true) O (by rw [hg1]) ?_
   have hg1':=xT hg1
   exact BM (v:=(pP b1 1)) O (AA O underlying30 O sizeOf23 O) (BM (v:=(qz x.b.p ts.length x.b.c)) O (AH (i:=1) (v:=(qz x.b.p ts.length x.b.c)) O O C2.a O) (BM (v:=(pP b2 1)) O (AA O underlying30 O sizeOf23 O) (BM (v:=(qz y.b.p us.length y.b.c)) O (AH (i:=0) (v:=(qz y.b.p us.length y.b.c)) O O C2.a O) (zh (v:=(qa (decide (ts=us)))) (Ab O) (Ar (args:=[(qz x.b.p ts.length x.b.c),(qz y.b.p us.length y.b.c),(Value.func (.func 137) #[] #[])]) O O call136) (λw hw=>TA ts us x.b y.b Z w (Zw (Co hw 2 O lx)) (Zw (Co hw 5 O ly))) O (BA O) (AD (v:=(qa (decide (ts=us)))) (AW O O) O (oNl' (zR Cc (xR _))))))))
  ·refine zI (k:=10) (u:=qa false) O (by rw [hg1]) ?_
   have hg1':=xS hg1
   exact BO O (BO O (BO O (BO O (BO O (AD (v:=(qa false)) (AQ O O) O (oNl' (zR Cc (xR _))))))))
 refine AL O ?_
 refine ze (FM:=[(2,(pP b1 0)),(3,(pP b2 0)),(4,(qa false)),(5,(pP b1 0)),(6,(qz x.a.p ps.length x.a.c)),(7,(pP b2 0)),(8,(qz y.a.p qs.length y.a.c)),(9,(qa (decide (ps=qs)))),(10,(qa (decide (ps=qs)))),(16,(qa ((decide (ps=qs))&&(decide (ts=us))))),(17,(qa ((decide (ps=qs))&&(decide (ts=us))))),(23,(qa (((decide (ps=qs))&&(decide (ts=us)))&&(decide (ss=vs)))))]) (LM:=[AX b2 30 (On y),AX b1 30 (On x),AF x.a.p (rowsL AZ ps),AF x.b.p (rowsL BP ts),AF x.c.p (rowsL BP ss),AF y.a.p (rowsL AZ qs),AF y.b.p (rowsL BP us),AF y.c.p (rowsL BP vs)]) 6 ?_ ?_
 ·rcases xQ ((decide (ps=qs))&&(decide (ts=us))) with hg2|hg2
  ·refine zI (k:=17) (u:=qa true) O (by rw [hg2]) ?_
   have hg2':=hg2
   simp only [jK] at hg2'
   exact BM (v:=(pP b1 2)) O (AA O underlying30 O sizeOf24 O) (BM (v:=(qz x.c.p ss.length x.c.c)) O (AH (i:=1) (v:=(qz x.c.p ss.length x.c.c)) O O O7.a O) (BM (v:=(pP b2 2)) O (AA O underlying30 O sizeOf24 O) (BM (v:=(qz y.c.p vs.length y.c.c)) O (AH (i:=0) (v:=(qz y.c.p vs.length y.c.c)) O O O7.a O) (zh (v:=(qa (decide (ss=vs)))) (Ab O) (Ar (args:=[(qz x.c.p ss.length x.c.c),(qz y.c.p vs.length y.c.c),(Value.func (.func 139) #[] #[])]) O O call138) (λw hw=>S_ ss vs x.c y.c Z w (Zx (Co hw 2 O lx)) (Zx (Co hw 5 O ly))) O (BA O) (AD (v:=(qa (decide (ss=vs)))) (AW O O) O (oNl' (zR Hi (xR _))))))))
  ·refine zI (k:=17) (u:=qa false) O (by rw [hg2]) ?_
   have hg2':=hg2
   simp only [jK] at hg2'
   exact BO O (BO O (BO O (BO O (BO O (AD (v:=(qa false)) (AQ O O) O (oNl' (zR Hi (xR _))))))))
 exact asg' O (oNl' (zB (sL [4] O) (zA (zF (ret_one O (rd_tmp (v:=(qa (((decide (ps=qs))&&(decide (ts=us)))&&(decide (ss=vs))))) O) (λw hw=>⟨by congr 2;grind,hw.out⟩))))))
end
section
set_option maxRecDepth 100000
end
section
set_option maxRecDepth 100000
theorem JH (p:Int) (n:Nat) (w:World)  :Calls prog 148 #[(vI p),(vN n)] w (Ad w (qa (B5 n p))):=by
 refine AY (args:=[(vI p),(vN n)]) func148 O O (BA O) (zM (sL [0,1] O) (q4 (asg' O (oNl' (q2 (AL O (AD (ER (c:=(decide ((0:Int)<=p))) O O O) O (AL O ?_))))))))
 refine ze (FM:=[(0,(vI p)),(1,(vN n)),(4,(qa false)),(5,(vI p)),(6,(qa (decide ((0:Int)<=p)))),(7,(qa (decide ((0:Int)<=p)))),(11,(qa ((decide ((0:Int)<=p))&&(decide (p<((n:Nat):Int))))))]) (LM:=[]) 4 ?_ ?_
 ·rcases xQ (decide ((0:Int)<=p)) with hg1|hg1
  ·refine zI (k:=7) (u:=qa true) O (by rw [hg1]) ?_
   have hg1':=xT hg1
   exact Hk O (Hk O (BM (v:=(qa (decide (p<((n:Nat):Int))))) O (Aa (c:=(decide (p<((n:Nat):Int)))) O O O) (AD (v:=(qa (decide (p<((n:Nat):Int))))) (AW O O) O (oNl' (zR Cc (xR _))))))
  ·refine zI (k:=7) (u:=qa false) O (by rw [hg1]) ?_
   have hg1':=xS hg1
   exact BO O (BO O (BO O (AD (v:=(qa false)) (AQ O O) O (oNl' (zR Cc (xR _))))))
 exact asg' O (oNl' (zB (sL [4] O) (zA (zF (ret_one O (rd_tmp (v:=(qa ((decide ((0:Int)<=p))&&(decide (p<((n:Nat):Int)))))) O) (λw hw=>⟨by unfold B5;first|rfl|simp,hw.out⟩))))))
theorem Sb (t:Z3) (n:Nat) (bo:BX [vN n]) (w:World) {S:Nat->Prop} (hbo:Ro S w bo):Calls prog 174 #[(aG (BP t)),(pP bo.b 0)] w (Ad w (qa (!Wn n t))):=by
 have lbo:=Da (W:=w) hbo
 refine Ah (args:=[(aG (BP t)),(pP bo.b 0)]) (L:=[AF (some ⟨bo.b,0,none⟩) ([(vN n)])]) func174 O O (BA O) (Db hbo A7) (zM (sL [0,1] O) (q4 (BV (cs:=BP t) O λb1=>asg' O (q3 (sL [1,2,3] O) (AD (v:=(pP b1 0)) (AB (j:=0) O O underlying105 sizeOf3 O jY O) O (BF 0 (vI t.1) Bm O (AD (BG (q:=some ⟨bo.b,0,none⟩) (v:=(vN n)) (off:=0) (i:=1) O O (λe=>by cases e) Bm O) O (ck' call148 (JH t.1 n) O (AD (BK (c:=(!(B5 n t.1))) O O) O (AL O ?_))))))))))
 refine ze (FM:=[(1,(pP bo.b 0)),(2,(pP b1 0)),(3,(qa false)),(4,(pP b1 0)),(5,(vI t.1)),(6,(vN n)),(7,(qa (B5 n t.1))),(8,(qa (!(B5 n t.1)))),(9,(qa (!(B5 n t.1)))),(15,(qa ((!(B5 n t.1))||(!(B5 n t.2.1)))))]) (LM:=[AX b1 105 (BP t),AF (some ⟨bo.b,0,none⟩) ([(vN n)])]) 6 ?_ ?_
 ·rcases xQ (!(B5 n t.1)) with hg1|hg1
  ·refine zI (k:=9) (u:=qa true) O (by rw [hg1]) ?_
   have hg1':=hg1
   simp only [jK] at hg1'
   exact BO O (BO O (BO O (BO O (BO O (AD (v:=(qa true)) (AW O O) O (oNl' (zR Cc (xR _))))))))
  ·refine zI (k:=9) (u:=qa false) O (by rw [hg1]) ?_
   have hg1':=hg1
   simp only [jK] at hg1'
   exact BM (v:=(pP b1 1)) O (AB (j:=1) O O underlying105 sizeOf3 O jY O) (BM (v:=(vI t.2.1)) O (AH (i:=0) (v:=(vI t.2.1)) O O Bm.a O) (BM (v:=(vN n)) O (BG (q:=some ⟨bo.b,0,none⟩) (v:=(vN n)) (off:=0) (i:=1) O O (λe=>by cases e) Bm O) (zh (v:=(qa (B5 n t.2.1))) (Ab O) (Ar (args:=[(vI t.2.1),(vN n)]) O O call148) (λw hw=>JH t.2.1 n w) O (BA O) (BM (v:=(qa (!(B5 n t.2.1)))) O (BK (c:=(!(B5 n t.2.1))) O O) (AD (v:=(qa (!(B5 n t.2.1)))) (AQ O O) O (oNl' (zR Cc (xR _))))))))
 refine AL O ?_
 refine ze (FM:=[(1,(pP bo.b 0)),(2,(pP b1 0)),(3,(qa false)),(4,(pP b1 0)),(5,(vI t.1)),(6,(vN n)),(7,(qa (B5 n t.1))),(8,(qa (!(B5 n t.1)))),(9,(qa (!(B5 n t.1)))),(15,(qa ((!(B5 n t.1))||(!(B5 n t.2.1))))),(16,(qa ((!(B5 n t.1))||(!(B5 n t.2.1))))),(22,(qa (((!(B5 n t.1))||(!(B5 n t.2.1)))||(!(B5 n t.2.2)))))]) (LM:=[AX b1 105 (BP t),AF (some ⟨bo.b,0,none⟩) ([(vN n)])]) 6 ?_ ?_
 ·rcases xQ ((!(B5 n t.1))||(!(B5 n t.2.1))) with hg2|hg2
  ·refine zI (k:=16) (u:=qa true) O (by rw [hg2]) ?_
   have hg2':=hg2
   simp only [jK] at hg2'
   exact BO O (BO O (BO O (BO O (BO O (AD (v:=(qa true)) (AW O O) O (oNl' (zR Hi (xR _))))))))
  ·refine zI (k:=16) (u:=qa false) O (by rw [hg2]) ?_
   have hg2':=hg2
   simp only [jK] at hg2'
   exact BM (v:=(pP b1 2)) O (AB (j:=2) O O underlying105 sizeOf3 O jY O) (BM (v:=(vI t.2.2)) O (AH (i:=0) (v:=(vI t.2.2)) O O Bm.a O) (BM (v:=(vN n)) O (BG (q:=some ⟨bo.b,0,none⟩) (v:=(vN n)) (off:=0) (i:=1) O O (λe=>by cases e) Bm O) (zh (v:=(qa (B5 n t.2.2))) (Ab O) (Ar (args:=[(vI t.2.2),(vN n)]) O O call148) (λw hw=>JH t.2.2 n w) O (BA O) (BM (v:=(qa (!(B5 n t.2.2)))) O (BK (c:=(!(B5 n t.2.2))) O O) (AD (v:=(qa (!(B5 n t.2.2)))) (AQ O O) O (oNl' (zR Hi (xR _))))))))
 refine AL O ?_
 refine ze (FM:=[(1,(pP bo.b 0)),(2,(pP b1 0)),(3,(qa false)),(4,(pP b1 0)),(5,(vI t.1)),(6,(vN n)),(7,(qa (B5 n t.1))),(8,(qa (!(B5 n t.1)))),(9,(qa (!(B5 n t.1)))),(15,(qa ((!(B5 n t.1))||(!(B5 n t.2.1))))),(16,(qa ((!(B5 n t.1))||(!(B5 n t.2.1))))),(22,(qa (((!(B5 n t.1))||(!(B5 n t.2.1)))||(!(B5 n t.2.2))))),(23,(qa (((!(B5 n t.1))||(!(B5 n t.2.1)))||(!(B5 n t.2.2))))),(29,(qa ((((!(B5 n t.1))||(!(B5 n t.2.1)))||(!(B5 n t.2.2)))||(decide (t.1=t.2.1)))))]) (LM:=[AX b1 105 (BP t),AF (some ⟨bo.b,0,none⟩) ([(vN n)])]) 6 ?_ ?_
 ·rcases xQ (((!(B5 n t.1))||(!(B5 n t.2.1)))||(!(B5 n t.2.2))) with hg3|hg3
  ·refine zI (k:=23) (u:=qa true) O (by rw [hg3]) ?_
   have hg3':=hg3
   simp only [jK] at hg3'
   exact BO O (BO O (BO O (BO O (BO O (AD (v:=(qa true)) (AW O O) O (oNl' (zR PJ (xR _))))))))
  ·refine zI (k:=23) (u:=qa false) O (by rw [hg3]) ?_
   have hg3':=hg3
   simp only [jK] at hg3'
   exact BM (v:=(pP b1 0)) O (AB (j:=0) O O underlying105 sizeOf3 O jY O) (BM (v:=(vI t.1)) O (AH (i:=0) (v:=(vI t.1)) O O Bm.a O) (BM (v:=(pP b1 1)) O (AB (j:=1) O O underlying105 sizeOf3 O jY O) (BM (v:=(vI t.2.1)) O (AH (i:=0) (v:=(vI t.2.1)) O O Bm.a O) (BM (v:=(qa (decide (t.1=t.2.1)))) O (BL (c:=(decide (t.1=t.2.1))) O O O) (AD (v:=(qa (decide (t.1=t.2.1)))) (AQ O O) O (oNl' (zR PJ (xR _))))))))
 refine AL O ?_
 refine ze (FM:=[(1,(pP bo.b 0)),(2,(pP b1 0)),(3,(qa false)),(4,(pP b1 0)),(5,(vI t.1)),(6,(vN n)),(7,(qa (B5 n t.1))),(8,(qa (!(B5 n t.1)))),(9,(qa (!(B5 n t.1)))),(15,(qa ((!(B5 n t.1))||(!(B5 n t.2.1))))),(16,(qa ((!(B5 n t.1))||(!(B5 n t.2.1))))),(22,(qa (((!(B5 n t.1))||(!(B5 n t.2.1)))||(!(B5 n t.2.2))))),(23,(qa (((!(B5 n t.1))||(!(B5 n t.2.1)))||(!(B5 n t.2.2))))),(29,(qa ((((!(B5 n t.1))||(!(B5 n t.2.1)))||(!(B5 n t.2.2)))||(decide (t.1=t.2.1))))),(30,(qa ((((!(B5 n t.1))||(!(B5 n t.2.1)))||(!(B5 n t.2.2)))||(decide (t.1=t.2.1))))),(36,(qa (((((!(B5 n t.1))||(!(B5 n t.2.1)))||(!(B5 n t.2.2)))||(decide (t.1=t.2.1)))||(decide (t.2.1=t.2.2)))))]) (LM:=[AX b1 105 (BP t),AF (some ⟨bo.b,0,none⟩) ([(vN n)])]) 6 ?_ ?_
 ·rcases xQ ((((!(B5 n t.1))||(!(B5 n t.2.1)))||(!(B5 n t.2.2)))||(decide (t.1=t.2.1))) with hg4|hg4
  ·refine zI (k:=30) (u:=qa true) O (by rw [hg4]) ?_
   have hg4':=hg4
   simp only [jK] at hg4'
   exact BO O (BO O (BO O (BO O (BO O (AD (v:=(qa true)) (AW O O) O (oNl' (zR PK (xR _))))))))
  ·refine zI (k:=30) (u:=qa false) O (by rw [hg4]) ?_
   have hg4':=hg4
   simp only [jK] at hg4'
   exact BM (v:=(pP b1 1)) O (AB (j:=1) O O underlying105 sizeOf3 O jY O) (BM (v:=(vI t.2.1)) O (AH (i:=0) (v:=(vI t.2.1)) O O Bm.a O) (BM (v:=(pP b1 2)) O (AB (j:=2) O O underlying105 sizeOf3 O jY O) (BM (v:=(vI t.2.2)) O (AH (i:=0) (v:=(vI t.2.2)) O O Bm.a O) (BM (v:=(qa (decide (t.2.1=t.2.2)))) O (BL (c:=(decide (t.2.1=t.2.2))) O O O) (AD (v:=(qa (decide (t.2.1=t.2.2)))) (AQ O O) O (oNl' (zR PK (xR _))))))))
 refine AL O ?_
 refine ze (FM:=[(1,(pP bo.b 0)),(2,(pP b1 0)),(3,(qa false)),(4,(pP b1 0)),(5,(vI t.1)),(6,(vN n)),(7,(qa (B5 n t.1))),(8,(qa (!(B5 n t.1)))),(9,(qa (!(B5 n t.1)))),(15,(qa ((!(B5 n t.1))||(!(B5 n t.2.1))))),(16,(qa ((!(B5 n t.1))||(!(B5 n t.2.1))))),(22,(qa (((!(B5 n t.1))||(!(B5 n t.2.1)))||(!(B5 n t.2.2))))),(23,(qa (((!(B5 n t.1))||(!(B5 n t.2.1)))||(!(B5 n t.2.2))))),(29,(qa ((((!(B5 n t.1))||(!(B5 n t.2.1)))||(!(B5 n t.2.2)))||(decide (t.1=t.2.1))))),(30,(qa ((((!(B5 n t.1))||(!(B5 n t.2.1)))||(!(B5 n t.2.2)))||(decide (t.1=t.2.1))))),(36,(qa (((((!(B5 n t.1))||(!(B5 n t.2.1)))||(!(B5 n t.2.2)))||(decide (t.1=t.2.1)))||(decide (t.2.1=t.2.2))))),(37,(qa (((((!(B5 n t.1))||(!(B5 n t.2.1)))||(!(B5 n t.2.2)))||(decide (t.1=t.2.1)))||(decide (t.2.1=t.2.2))))),(43,(qa ((((((!(B5 n t.1))||(!(B5 n t.2.1)))||(!(B5 n t.2.2)))||(decide (t.1=t.2.1)))||(decide (t.2.1=t.2.2)))||(decide (t.2.2=t.1)))))]) (LM:=[AX b1 105 (BP t),AF (some ⟨bo.b,0,none⟩) ([(vN n)])]) 6 ?_ ?_
 ·rcases xQ (((((!(B5 n t.1))||(!(B5 n t.2.1)))||(!(B5 n t.2.2)))||(decide (t.1=t.2.1)))||(decide (t.2.1=t.2.2))) with hg5|hg5
  ·refine zI (k:=37) (u:=qa true) O (by rw [hg5]) ?_
   have hg5':=hg5
   simp only [jK] at hg5'
   exact BO O (BO O (BO O (BO O (BO O (AD (v:=(qa true)) (AW O O) O (oNl' (zR PL (xR _))))))))
  ·refine zI (k:=37) (u:=qa false) O (by rw [hg5]) ?_
   have hg5':=hg5
   simp only [jK] at hg5'
   exact BM (v:=(pP b1 2)) O (AB (j:=2) O O underlying105 sizeOf3 O jY O) (BM (v:=(vI t.2.2)) O (AH (i:=0) (v:=(vI t.2.2)) O O Bm.a O) (BM (v:=(pP b1 0)) O (AB (j:=0) O O underlying105 sizeOf3 O jY O) (BM (v:=(vI t.1)) O (AH (i:=0) (v:=(vI t.1)) O O Bm.a O) (BM (v:=(qa (decide (t.2.2=t.1)))) O (BL (c:=(decide (t.2.2=t.1))) O O O) (AD (v:=(qa (decide (t.2.2=t.1)))) (AQ O O) O (oNl' (zR PL (xR _))))))))
 exact asg' O (oNl' (zB (sL [3] O) (zA (zF (ret_one O (rd_tmp (v:=(qa ((((((!(B5 n t.1))||(!(B5 n t.2.1)))||(!(B5 n t.2.2)))||(decide (t.1=t.2.1)))||(decide (t.2.1=t.2.2)))||(decide (t.2.2=t.1))))) O) (λw hw=>⟨by unfold Wn;generalize B5 n t.1=q1;generalize B5 n t.2.1=q2;generalize B5 n t.2.2=q3;generalize decide (t.1=t.2.1)=q4;generalize decide (t.2.1=t.2.2)=q5;generalize decide (t.2.2=t.1)=q6;cases q1<;>cases q2<;>cases q3<;>cases q4<;>cases q5<;>cases q6<;>rfl,hw.out⟩))))))
theorem Xk (n:Nat) (bo:BX [vN n]) (ts:List Z3) (x:RX (rowsL BP ts) ts.length) (hl:ts.length<4611686018427387904) (w:World) {S:Nat->Prop} (hbo:Ro S w bo) (hx:Ro S w x):Calls prog 218 #[(qz x.p ts.length x.c),(Value.func (.func 174) #[] #[(pP bo.b 0)])] w (Ad w (vI (idxZ n ts 0))):=by
 have lbo:=Da (W:=w) hbo
 have lx:=Da (W:=w) hx
 refine Ah (args:=[(qz x.p ts.length x.c),(Value.func (.func 174) #[] #[(pP bo.b 0)])]) (L:=[AF (some ⟨bo.b,0,none⟩) ([(vN n)]),AF x.p (rowsL BP ts)]) func218 O O (BA O) (Db hbo (Db hx A7)) (zM (sL [0,1] O) (q4 (asg' O (oNl' (q1 (q4 (AL O (AD (v:=(vN ts.length)) (AE O underlying23) O (AL O (oNl' (zB (sL [0,1,4,7,8] O) ?_)))))))))))
 refine zA (zJ ?_)
 refine zw (tg λ(j:Nat)=>j<=ts.length/\idxZ n ts 0=idxZ n (ts.drop j) j) (tg λ(j:Nat)=>[(0,(qz x.p ts.length x.c)),(1,(Value.func (.func 174) #[] #[(pP bo.b 0)])),(7,(vN ts.length)),(8,(vN j))]) (tg λ(j:Nat)=>[AF (some ⟨bo.b,0,none⟩) ([(vN n)]),AF x.p (rowsL BP ts)]) (tg λ(j:Nat)=>ts.length-j) 0 (⟨xJ _,rfl⟩) (sF O) sr (λj hJ=>?_)
 obtain ⟨hj,he⟩:=hJ
 refine q4 (AD (Aa (c:=(decide (j<ts.length))) O O (DB (a:=j) (b:=ts.length))) O (oNl' (q1 ?_)))
 refine zL O (λhc0=>?_) (λhc0=>?_)
 ·replace hc0:=xT hc0
  refine zC (q1 (zJ (q4 (AL O (asg' O (q3 (sL [0,1,7,8,5] O) (AL O (AL O (AL O (AD (v:=(pP (pB x.p) (pO x.p+j*3))) (AM (j:=j) O O x.ok underlying23 sizeOf105 O Z) O (AD (v:=(aG (BP (ts.getD j ((0,0,0):Z3))))) (AO (vs:=BP (ts.getD j ((0,0,0):Z3))) (i:=1) O O (Ay.ne x.ok Z) C8 (Af Cu _ _ _ Z) (Cu _)) O ?_)))))))))))
  refine zh (v:=(qa (!Wn n (ts.getD j ((0,0,0):Z3))))) (AI O) (Df (args:=[(aG (BP (ts.getD j ((0,0,0):Z3))))]) (caps:=[(pP bo.b 0)]) (all:=[(aG (BP (ts.getD j ((0,0,0):Z3)))),(pP bo.b 0)]) O O O call174) (λw hw=>Sb (ts.getD j ((0,0,0):Z3)) n bo w (Co hw 0 O lbo)) O (BA O) (oNl' (zB (sL [0,1,7,8,5,16] O) (zA ?_)))
  refine zL O (λhc1=>?_) (λhc1=>?_)
  ·simp only [jK] at hc1
   have hfin:=he.trans (Un Z (by simpa using hc1))
   exact q4 (AL O (asg' O (oNl' (zB (sL [0,1,7,8,5,4] O) (zA (zF (zS (zK (z6 (zS (zK (ret_one O (rd_tmp (v:=(vN j)) O) (λw hw=>⟨by rw [hfin],hw.out⟩)))))))))))))
  ·simp only [jK] at hc1
   exact zC (zG (zA (zH (AD (AT (c:=((j+1:Nat):Int)) O O (AV (a:=j) (b:=1) Z)) O (AL O (oNl' (zB (sL [0,1,7,8,5] O) (zl (j+1) (⟨Z,he.trans (SC Z (by simpa using hc1))⟩) Z (sF O) sr))))))))
 ·replace hc0:=xS hc0
  have hfin:=he.trans (Um hc0)
  exact zU (zO (zW (zP (q2 (asg' O (oNl' (zA (zF (ret_one O (rd_tmp (v:=(vI (-1:Int))) O) (λw hw=>⟨by rw [hfin],hw.out⟩))))))))))
theorem UF (n:Nat) (bo:BX [vN n]) (ts:List Z3) (x:RX (rowsL BP ts) ts.length) (hl:ts.length<4611686018427387904) (w:World) {S:Nat->Prop} (hbo:Ro S w bo) (hx:Ro S w x):Calls prog 173 #[(qz x.p ts.length x.c),(Value.func (.func 174) #[] #[(pP bo.b 0)])] w (Ad w (qa (!JF n ts))):=by
 have lbo:=Da (W:=w) hbo
 have lx:=Da (W:=w) hx
 refine Ah (args:=[(qz x.p ts.length x.c),(Value.func (.func 174) #[] #[(pP bo.b 0)])]) (L:=[AF (some ⟨bo.b,0,none⟩) ([(vN n)]),AF x.p (rowsL BP ts)]) func173 O O (BA O) (Db hbo (Db hx A7)) (zM (sL [0,1] O) (q4 (asg' O (oNl' (q2 (AL O (AL O (DH call218 (λw hw=>Xk n bo ts x hl w (Co hw 0 O lbo) (Co hw 1 O lx)) O (AD (ER (c:=(!JF n ts)) O O (Mj n ts 0)) O (asg' O (oNl' ?_)))))))))))
 exact zB (sL [4] O) (zA (zF (ret_one O (rd_tmp (v:=(qa (!JF n ts))) O) (λw hw=>⟨rfl,hw.out⟩))))
theorem VS (n:Nat) (ts:List Z3) (x:RX (rowsL BP ts) ts.length) (hl:ts.length<4611686018427387904) (w:World) {S:Nat->Prop} (hx:Ro S w x):Calls prog 110 #[(qz x.p ts.length x.c),(vN n)] w (Ad w (qa (JF n ts))):=by
 have lx:=Da (W:=w) hx
 refine Ah (args:=[(qz x.p ts.length x.c),(vN n)]) (L:=[AF x.p (rowsL BP ts)]) func110 O O (BA O) (Db hx A7) (zM (sL [0,1] O) (q4 (BV (cs:=[(vN n)]) O λb1=>yN 0 O O λhnb1=>asg' O (q3 (sL [0,3,4] O) (AL O (AD (v:=(Value.func (.func 174) #[] #[(pP b1 0)])) (DL (vs:=[]) (us:=[(pP b1 0)]) O O) O (DH call173 (λw hw=>UF n ⟨b1⟩ ts x hl w (Uo (x:=(⟨b1⟩:BX [vN n])) hw 0 O hnb1) (Co hw 1 O lx)) O (AD (BK (c:=(!(!JF n ts))) O O) O (asg' O ?_)))))))))
 exact oNl' (zB (sL [4] O) (zA (zF (ret_one O (rd_tmp (v:=(qa (!(!JF n ts)))) O) (λw hw=>⟨by simp,hw.out⟩)))))
theorem TX {N K:Nat} {zs:List Z3} (x:RQ N K zs) (hl:zs.length<4611686018427387904) (w:World) {S:Nat->Prop} (hx:Ro S w x):Calls prog 43 #[(aG (bK x))] w (Ad w (qa (JF N zs))):=by
 have lx:=Da (W:=w) hx
 refine Ah (args:=[(aG (bK x))]) (L:=[AF x.a.p (x.cs),AF x.b.p (rowsL BP zs),AF x.c.p (x.ds)]) func43 O O (BA O) (Db hx A7) (zM (sL [0] O) (q4 (BV (cs:=bK x) O λb1=>asg' O (q3 (sL [1,2] O) (AD (v:=(pP b1 1)) (AA O underlying30 O sizeOf23 O) O (BF 0 (qz x.b.p zs.length x.b.c) C2 O (AD (v:=(pP b1 0)) (AA O underlying30 O sizeOf28 O) O (BF 0 (qz x.a.p N x.a.c) C0 O (AD (v:=(vN N)) (AE O underlying28) O (DH call110 (λw hw=>VS N zs x.b hl w (cy (Co hw 1 O lx))) O ?_))))))))))
 exact asg' O (oNl' (zB (sL [2] O) (zA (zF (ret_one O (rd_tmp (v:=(qa (JF N zs))) O) (λw hw=>⟨rfl,hw.out⟩))))))
end
section
set_option maxRecDepth 100000
end
section
set_option maxRecDepth 100000
end
section
set_option maxRecDepth 100000
end
section
set_option maxRecDepth 100000
end
section
set_option maxRecDepth 100000
end
section
set_option maxRecDepth 100000
end
end Go.Proofs.YtpolhpjiahbidaaGreatDoor
