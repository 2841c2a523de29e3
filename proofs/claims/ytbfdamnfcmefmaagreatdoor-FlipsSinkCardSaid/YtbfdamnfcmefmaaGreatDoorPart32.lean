import Derived.Test.YtbfdamnfcmefmaaGreatDoorPart31
namespace Go.Proofs.YtbfdamnfcmefmaaGreatDoor
open Go Go.RowKit Go.Proofs.Tryz
open Go.Value renaming slice→qz,bool→qa
set_option linter.unusedVariables false
set_option linter.unusedSimpArgs false
section
set_option maxRecDepth 100000
theorem P_ (ts:List Z3) (x:RX (rowsL Bb ts) ts.length) (hl:ts.length<=1000000000) (w:World) {S:Nat->Prop} (hx:Ro S w x):Calls prog 78 #[(qz x.p ts.length x.c)] w (E9 aI (Yc (T:=71) (z:=3) (cs:=rowsL Bb ts) (n:=ts.length)) S w):=by
 have lx:=Db (W:=w) hx
 refine Ak (args:=[(qz x.p ts.length x.c)]) (L:=[AP x.p (rowsL Bb ts)]) func78 O O (BE O) (De hx A_) (zM (sL [0] O) (q4 (asg' O (zy 71 3 (oNl' (q1 (q4 (AM O (AC (v:=(qa x.p.isNone)) (H0 O O underlying28) O (oNl' (zB (sL [0,2,4] O) ?_)))))))))))
 refine zA ?_
 refine zL O (λhc0=>?_) (λhc0=>?_)
 ·have hts:ts=[]:=List.eq_nil_of_length_eq_zero (x.ok.nil (Option.isNone_iff_eq_none.1 hc0)).1
  exact q4 (asg' O (zy 71 3 (oNl' (zA (zH (zJ (ret_one O (rd_tmp (v:=jj) O) (λw hw=>(by subst hts;exact PV hw (OX.mk none 0 OwnOk.none) (by exact (sk (sl (sl sr)))) (IU.own O IU.nil) (by show qz none 0 0=_;rfl))))))))))
 ·exact zC (q2 (ze (V:=λb1=>(qz (jk b1) 0 0)) (T:=71) (cs:=[]) (AK O) (JN underlying28 sizeOf71) O (BE O) λb1=>yi (z:=3) 0 O Z λho_b1=>AM O (yf am O ho_b1 O (ah (k:=2) O x.ok) (Ac Cs _) (Ha SC _) (Mb Z) Z O λp_1 c_1 ho_1=>asg' O (oNl' (zB (sL [0,2] O) (zA (zH (ret_one O (rd_tmp (v:=(qz p_1 ts.length c_1)) O) (λw hw=>(PV hw (OX.mk p_1 c_1 ho_1) (sk (sl (sl sr))) (IU.own O IU.nil) O))))))))))
theorem P9 (ts:List Z3) (x:RX (rowsL Bb ts) ts.length) (hl:ts.length<=1000000000) (w:World) {S:Nat->Prop} (hx:Ro S w x):Calls prog 80 #[(qz x.p ts.length x.c)] w (E9 aI (Yc (T:=80) (z:=3) (cs:=rowsL Bb ts) (n:=ts.length)) S w):=by
 have lx:=Db (W:=w) hx
 refine Ak (args:=[(qz x.p ts.length x.c)]) (L:=[AP x.p (rowsL Bb ts)]) func80 O O (BE O) (De hx A_) (zM (sL [0] O) (q4 (asg' O (zy 80 3 (oNl' (q1 (q4 (AM O (AC (v:=(qa x.p.isNone)) (H0 O O underlying29) O (oNl' (zB (sL [0,2,4] O) ?_)))))))))))
 refine zA ?_
 refine zL O (λhc0=>?_) (λhc0=>?_)
 ·have hts:ts=[]:=List.eq_nil_of_length_eq_zero (x.ok.nil (Option.isNone_iff_eq_none.1 hc0)).1
  exact q4 (asg' O (zy 80 3 (oNl' (zA (zH (zJ (ret_one O (rd_tmp (v:=jj) O) (λw hw=>(by subst hts;exact PV hw (OX.mk none 0 OwnOk.none) (by exact (sk (sl (sl sr)))) (IU.own O IU.nil) (by show qz none 0 0=_;rfl))))))))))
 ·exact zC (q2 (ze (V:=λb1=>(qz (jk b1) 0 0)) (T:=80) (cs:=[]) (AK O) (JN underlying29 sizeOf80) O (BE O) λb1=>yi (z:=3) 0 O Z λho_b1=>AM O (yf an O ho_b1 O (ah (k:=2) O x.ok) (Ac Cs _) (Ha SC _) (Mb Z) Z O λp_1 c_1 ho_1=>asg' O (oNl' (zB (sL [0,2] O) (zA (zH (ret_one O (rd_tmp (v:=(qz p_1 ts.length c_1)) O) (λw hw=>(PV hw (OX.mk p_1 c_1 ho_1) (sk (sl (sl sr))) (IU.own O IU.nil) O))))))))))
theorem Tp {ps:List Pt} {ts ss:List Z3} (x:MZ ps ts ss) (hp:ps.length<=1000000000) (ht:ts.length<=1000000000) (hs:ss.length<=1000000000) (w:World) {S:Nat->Prop} (hx:Ro S w x):Calls prog 27 #[(aG (PJ x))] w (E9 (λa:bK ps ts ss=>aG (eQ a)) eR S w):=by
 have lx:=Db (W:=w) hx
 refine Ak (args:=[(aG (PJ x))]) (L:=[AP x.a.p (rowsL AZ ps),AP x.b.p (rowsL Bb ts),AP x.c.p (rowsL Bb ss)]) func27 O O (BE O) (De hx A_) (zM (sL [0] O) (q4 (BZ (cs:=PJ x) O λb1=>al G_ O λb2=>q6 (sL [1,2] O) (C_ [(0,true),(1,true),(4,true),(5,true),(8,true),(9,true),(2,false),(3,false),(6,false),(7,false),(10,false),(11,false),(12,true),(13,false)] (sl sr) (Aj (v:=(pP b1 0)) O (AA O underlying34 O sizeOf32 O) (BK 0 (qz x.a.p ps.length x.a.c) DC O (Aj (v:=(pP b1 1)) O (AA O underlying34 O sizeOf28 O) (BK 0 (qz x.b.p ts.length x.b.c) CM O (Aj (v:=(pP b1 2)) O (AA O underlying34 O sizeOf29 O) ?_)))))))))
 refine BK 0 (qz x.c.p ss.length x.c.c) Qx O (zN O (yK (S:=S) (V:=aI) (LW:=Yc (T:=78) (z:=10) (cs:=rowsL AZ ps) (n:=ps.length)) (args:=[(qz x.a.p ps.length x.a.c)]) call76 (λw hw=>Ms ps x.a Z w (aN (Cd hw 2 O lx))) O λcl1 hcl1=>zG (sl (sl sr)) (zN O (ck' call75 (Ua cl1.p ps.length cl1.c cl1.ok.row.le) O (zG (sl (sl sr)) (zN O (yK (S:=S) (V:=aI) (LW:=Yc (T:=71) (z:=3) (cs:=rowsL Bb ts) (n:=ts.length)) (args:=[(qz x.b.p ts.length x.b.c)]) call78 (λw hw=>P_ ts x.b Z w (aO (Cd hw 3 O lx))) O λcl2 hcl2=>zG (sl (sl (sl sr))) (zN O (ck' call77 (Ub cl2.p ts.length cl2.c cl2.ok.row.le) O ?_)))))))))
 refine zG (sl (sl (sl sr))) (zN O (yK (S:=S) (V:=aI) (LW:=Yc (T:=80) (z:=3) (cs:=rowsL Bb ss) (n:=ss.length)) (args:=[(qz x.c.p ss.length x.c.c)]) call80 (λw hw=>P9 ss x.c Z w (aP (Cd hw 4 O lx))) O λcl3 hcl3=>zG (sl (sl (sl (sl sr)))) (zN O (ck' call79 (Oy cl3.p ss.length cl3.c cl3.ok.row.le) O (zG (sl (sl (sl (sl sr)))) (Aj (v:=(aG ([(qz cl1.p ps.length ps.length),(qz cl2.p ts.length ts.length),(qz cl3.p ss.length ss.length)]))) O (AT (zs:=[jj,jj,jj]) (vs:=[(qz cl1.p ps.length ps.length),(qz cl2.p ts.length ts.length),(qz cl3.p ss.length ss.length)]) (pv:=[(0,(qz cl1.p ps.length ps.length)),(1,(qz cl2.p ts.length ts.length)),(2,(qz cl3.p ss.length ss.length))]) (places:=[(0,1),(1,1),(2,1)]) zeroValue34 underlying34 (λw=>by simp [sizeOf28,sizeOf29,sizeOf32]) O O) (zN O (Gc O sizeOf34 O (zG (sl (sl (sl (sl sr)))) (zQ ?_))))))))))
 exact zB (sL [2] O) (zA (zH (ret_one O (Ap (i:=3) (cs:=[(qz cl1.p ps.length ps.length),(qz cl2.p ts.length ts.length),(qz cl3.p ss.length ss.length)]) O O isAgg34 sizeOf34 O) (λw hw=>(PV hw (bK.mk (OX.mk cl1.p cl1.c cl1.ok) (OX.mk cl2.p cl2.c cl2.ok) (OX.mk cl3.p cl3.c cl3.ok)) (sk (sk (sk (sl (sl (sl (sl (sl sr)))))))) (IU.own O (IU.own O (IU.own O IU.nil))) O)))))
theorem Y_ (p q:Pt) (w:World)  :Calls prog 67 #[(aG (AZ p)),(aG (AZ q))] w (Ag w (qa (decide (p=q)))):=by
 refine AW (args:=[(aG (AZ p)),(aG (AZ q))]) func67 O O (BE O) (zM (sL [0,1] O) (q4 (BZ (cs:=AZ p) O λb1=>BZ (cs:=AZ q) O λb2=>asg' O (q3 (sL [2,3,4] O) (Ai 1 BC O (Ai 0 BC O (AC (By (c:=decide (p=q)) O O eqGuardType78 (Uu 9994 p q)) O (asg' O (oNl' ?_)))))))))
 exact zB (sL [4] O) (zA (zH (ret_one O (rd_tmp (v:=(qa (decide (p=q)))) O) (λw hw=>⟨rfl,hw.out⟩))))
theorem Td (xs ys:List Pt) (x:RX (rowsL AZ xs) xs.length) (y:RX (rowsL AZ ys) ys.length) (hl:xs.length<=1000000) (w:World) {S:Nat->Prop} (hx:Ro S w x) (hy:Ro S w y):Calls prog 66 #[(qz x.p xs.length x.c),(qz y.p ys.length y.c),(Value.func (.func 67) #[] #[])] w (Ag w (qa (decide (xs=ys)))):=by
 have lx:=Db (W:=w) hx
 have ly:=Db (W:=w) hy
 refine Ak (args:=[(qz x.p xs.length x.c),(qz y.p ys.length y.c),(Value.func (.func 67) #[] #[])]) (L:=[AP x.p (rowsL AZ xs),AP y.p (rowsL AZ ys)]) func66 O O (BE O) (De hx (De hy A_)) (zM (sL [0,1,2] O) (q4 (asg' O (oNl' (q1 (q4 (AM O (AC (v:=(vN xs.length)) (AE O underlying32) O (AM O (AC (v:=(vN ys.length)) (AE O underlying32) O (AC (Bw (c:=(decide (xs.length≠ys.length))) O O (bG (a:=xs.length) (b:=ys.length))) O ?_)))))))))))
 refine oNl' (zB (sL [0,1,2,6,12] O) (zA ?_))
 refine zL O (λhc0=>?_) (λhc0=>?_)
 ·replace hc0:=xU hc0
  have hne:¬xs=ys:=λh=>by grind
  exact q4 (asg' O (oNl' (zA (zH (zJ (ret_one O (rd_tmp (v:=(qa false)) O) (λw hw=>⟨by rw [xI hne],hw.out⟩)))))))
 ·replace hc0:=xT hc0
  have hll:xs.length=ys.length:=by grind
  refine zC (q1 (q4 (AM O (AC (v:=(vN xs.length)) (AE O underlying32) O (AM O (oNl' (zB (sL [0,1,2,6,14,15] O) (zA (zI ?_)))))))))
  refine zw (tg λ(j:Nat)=>j<=xs.length/\∀k,k<j->xs.getD k (⟨0,0⟩:Pt)=ys.getD k (⟨0,0⟩:Pt)) (tg λ(j:Nat)=>[(0,(qz x.p xs.length x.c)),(1,(qz y.p ys.length y.c)),(2,(Value.func (.func 67) #[] #[])),(14,(vN xs.length)),(15,(vN j))]) (tg λ(j:Nat)=>[AP x.p (rowsL AZ xs),AP y.p (rowsL AZ ys)]) (tg λ(j:Nat)=>xs.length-j) 0 (⟨xK _,λk h=>absurd h (Nat.not_lt_zero _)⟩) (sF O) sr (λj hJ=>?_)
  obtain ⟨hj,he⟩:=hJ
  refine q4 (AC (Aa (c:=(decide (j<xs.length))) O O (DF (a:=j) (b:=xs.length))) O (oNl' (q1 ?_)))
  refine zL O (λhc1=>?_) (λhc1=>?_)
  ·replace hc1:=xU hc1
   refine zC (q1 (zI (q4 (AM O (asg' O (q6 (sL [0,1,2,14,15,7] O) (C_ (Ek 9++[(9,false),(10,true)]) sr (Bx O (Bx O (Bx O (Aj (v:=(pP (pB x.p) (pO x.p+j*10))) O (AO (j:=j) O O x.ok underlying32 sizeOf78 O Z) ?_)))))))))))
   refine Aj (v:=(aG (AZ (xs.getD j (⟨0,0⟩:Pt))))) O (AI (vs:=AZ (xs.getD j (⟨0,0⟩:Pt))) (i:=0) O O (Aw.ne x.ok Z) BC (Ae Aq _ _ _ Z) (Aq _)) (Bx O (Bx O (Aj (v:=(pP (pB y.p) (pO y.p+j*10))) O (AO (j:=j) O O y.ok underlying32 sizeOf78 O Z) (Aj (v:=(aG (AZ (ys.getD j (⟨0,0⟩:Pt))))) O (AI (vs:=AZ (ys.getD j (⟨0,0⟩:Pt))) (i:=1) O O (Aw.ne y.ok Z) BC (Ae Aq _ _ _ Z) (Aq _)) (zN O (ck' call67 (Y_ (xs.getD j (⟨0,0⟩:Pt)) (ys.getD j (⟨0,0⟩:Pt))) O (zG sr (Aj O (BG (c:=(!(decide (xs.getD j (⟨0,0⟩:Pt)=ys.getD j (⟨0,0⟩:Pt))))) O O) (zQ (zB (sL [0,1,2,14,15,28] O) (zA ?_)))))))))))
   refine zL O (λhc2=>?_) (λhc2=>?_)
   ·simp only [jK] at hc2
    have hne:¬xs=ys:=OF (d:=(⟨0,0⟩:Pt)) (i:=j) (by grind)
    exact q4 (asg' O (oNl' (zA (zH (zS (zJ (z6 (zS (zJ (ret_one O (rd_tmp (v:=(qa false)) O) (λw hw=>⟨by rw [xI hne],hw.out⟩)))))))))))
   ·simp only [jK] at hc2
    have hej:xs.getD j (⟨0,0⟩:Pt)=ys.getD j (⟨0,0⟩:Pt):=by grind
    exact zC (zF (zA (zD (AC (AR (c:=((j+1:Nat):Int)) O O (AS (a:=j) (b:=1) Z)) O (AM O (oNl' (zB (sL [0,1,2,14,15] O) (zh (j+1) (⟨Z,λk hk=>by rcases Nat.lt_or_ge k j with q|q;exact he k q;rw [show k=j by omega];exact hej⟩) Z (sF O) sr))))))))
  ·replace hc1:=xT hc1
   have heq:xs=ys:=K8 (d:=(⟨0,0⟩:Pt)) hll λk hk=>he k Z
   exact zU (zO (zX (zR (q2 (asg' O (oNl' (zA (zH (ret_one O (rd_tmp (v:=(qa true)) O) (λw hw=>⟨by rw [xJ heq],hw.out⟩))))))))))
theorem ZB (p q:Z3) (w:World)  :Calls prog 69 #[(aG (Bb p)),(aG (Bb q))] w (Ag w (qa (decide (p=q)))):=by
 refine AW (args:=[(aG (Bb p)),(aG (Bb q))]) func69 O O (BE O) (zM (sL [0,1] O) (q4 (BZ (cs:=Bb p) O λb1=>BZ (cs:=Bb q) O λb2=>asg' O (q3 (sL [2,3,4] O) (Ai 1 Bm O (Ai 0 Bm O (AC (By (c:=decide (p=q)) O O eqGuardType71 (Zs 9998 p q)) O (asg' O (oNl' ?_)))))))))
 exact zB (sL [4] O) (zA (zH (ret_one O (rd_tmp (v:=(qa (decide (p=q)))) O) (λw hw=>⟨rfl,hw.out⟩))))
theorem Tf (xs ys:List Z3) (x:RX (rowsL Bb xs) xs.length) (y:RX (rowsL Bb ys) ys.length) (hl:xs.length<=1000000) (w:World) {S:Nat->Prop} (hx:Ro S w x) (hy:Ro S w y):Calls prog 68 #[(qz x.p xs.length x.c),(qz y.p ys.length y.c),(Value.func (.func 69) #[] #[])] w (Ag w (qa (decide (xs=ys)))):=by
 have lx:=Db (W:=w) hx
 have ly:=Db (W:=w) hy
 refine Ak (args:=[(qz x.p xs.length x.c),(qz y.p ys.length y.c),(Value.func (.func 69) #[] #[])]) (L:=[AP x.p (rowsL Bb xs),AP y.p (rowsL Bb ys)]) func68 O O (BE O) (De hx (De hy A_)) (zM (sL [0,1,2] O) (q4 (asg' O (oNl' (q1 (q4 (AM O (AC (v:=(vN xs.length)) (AE O underlying28) O (AM O (AC (v:=(vN ys.length)) (AE O underlying28) O (AC (Bw (c:=(decide (xs.length≠ys.length))) O O (bG (a:=xs.length) (b:=ys.length))) O ?_)))))))))))
 refine oNl' (zB (sL [0,1,2,6,12] O) (zA ?_))
 refine zL O (λhc0=>?_) (λhc0=>?_)
 ·replace hc0:=xU hc0
  have hne:¬xs=ys:=λh=>by grind
  exact q4 (asg' O (oNl' (zA (zH (zJ (ret_one O (rd_tmp (v:=(qa false)) O) (λw hw=>⟨by rw [xI hne],hw.out⟩)))))))
 ·replace hc0:=xT hc0
  have hll:xs.length=ys.length:=by grind
  refine zC (q1 (q4 (AM O (AC (v:=(vN xs.length)) (AE O underlying28) O (AM O (oNl' (zB (sL [0,1,2,6,14,15] O) (zA (zI ?_)))))))))
  refine zw (tg λ(j:Nat)=>j<=xs.length/\∀k,k<j->xs.getD k ((0,0,0):Z3)=ys.getD k ((0,0,0):Z3)) (tg λ(j:Nat)=>[(0,(qz x.p xs.length x.c)),(1,(qz y.p ys.length y.c)),(2,(Value.func (.func 69) #[] #[])),(14,(vN xs.length)),(15,(vN j))]) (tg λ(j:Nat)=>[AP x.p (rowsL Bb xs),AP y.p (rowsL Bb ys)]) (tg λ(j:Nat)=>xs.length-j) 0 (⟨xK _,λk h=>absurd h (Nat.not_lt_zero _)⟩) (sF O) sr (λj hJ=>?_)
  obtain ⟨hj,he⟩:=hJ
  refine q4 (AC (Aa (c:=(decide (j<xs.length))) O O (DF (a:=j) (b:=xs.length))) O (oNl' (q1 ?_)))
  refine zL O (λhc1=>?_) (λhc1=>?_)
  ·replace hc1:=xU hc1
   refine zC (q1 (zI (q4 (AM O (asg' O (q6 (sL [0,1,2,14,15,7] O) (C_ (Ek 9++[(9,false),(10,true)]) sr (Bx O (Bx O (Bx O (Aj (v:=(pP (pB x.p) (pO x.p+j*3))) O (AO (j:=j) O O x.ok underlying28 sizeOf71 O Z) ?_)))))))))))
   refine Aj (v:=(aG (Bb (xs.getD j ((0,0,0):Z3))))) O (AI (vs:=Bb (xs.getD j ((0,0,0):Z3))) (i:=0) O O (Aw.ne x.ok Z) Bm (Ae Cs _ _ _ Z) (Cs _)) (Bx O (Bx O (Aj (v:=(pP (pB y.p) (pO y.p+j*3))) O (AO (j:=j) O O y.ok underlying28 sizeOf71 O Z) (Aj (v:=(aG (Bb (ys.getD j ((0,0,0):Z3))))) O (AI (vs:=Bb (ys.getD j ((0,0,0):Z3))) (i:=1) O O (Aw.ne y.ok Z) Bm (Ae Cs _ _ _ Z) (Cs _)) (zN O (ck' call69 (ZB (xs.getD j ((0,0,0):Z3)) (ys.getD j ((0,0,0):Z3))) O (zG sr (Aj O (BG (c:=(!(decide (xs.getD j ((0,0,0):Z3)=ys.getD j ((0,0,0):Z3))))) O O) (zQ (zB (sL [0,1,2,14,15,28] O) (zA ?_)))))))))))
   refine zL O (λhc2=>?_) (λhc2=>?_)
   ·simp only [jK] at hc2
    have hne:¬xs=ys:=OF (d:=((0,0,0):Z3)) (i:=j) (by grind)
    exact q4 (asg' O (oNl' (zA (zH (zS (zJ (z6 (zS (zJ (ret_one O (rd_tmp (v:=(qa false)) O) (λw hw=>⟨by rw [xI hne],hw.out⟩)))))))))))
   ·simp only [jK] at hc2
    have hej:xs.getD j ((0,0,0):Z3)=ys.getD j ((0,0,0):Z3):=by grind
    exact zC (zF (zA (zD (AC (AR (c:=((j+1:Nat):Int)) O O (AS (a:=j) (b:=1) Z)) O (AM O (oNl' (zB (sL [0,1,2,14,15] O) (zh (j+1) (⟨Z,λk hk=>by rcases Nat.lt_or_ge k j with q|q;exact he k q;rw [show k=j by omega];exact hej⟩) Z (sF O) sr))))))))
  ·replace hc1:=xT hc1
   have heq:xs=ys:=K8 (d:=((0,0,0):Z3)) hll λk hk=>he k Z
   exact zU (zO (zX (zR (q2 (asg' O (oNl' (zA (zH (ret_one O (rd_tmp (v:=(qa true)) O) (λw hw=>⟨by rw [xJ heq],hw.out⟩))))))))))
theorem ZA (p q:Z3) (w:World)  :Calls prog 71 #[(aG (Bb p)),(aG (Bb q))] w (Ag w (qa (decide (p=q)))):=by
 refine AW (args:=[(aG (Bb p)),(aG (Bb q))]) func71 O O (BE O) (zM (sL [0,1] O) (q4 (BZ (cs:=Bb p) O λb1=>BZ (cs:=Bb q) O λb2=>asg' O (q3 (sL [2,3,4] O) (Ai 1 Qw O (Ai 0 Qw O (AC (By (c:=decide (p=q)) O O eqGuardType80 (Zt 9998 p q)) O (asg' O (oNl' ?_)))))))))
 exact zB (sL [4] O) (zA (zH (ret_one O (rd_tmp (v:=(qa (decide (p=q)))) O) (λw hw=>⟨rfl,hw.out⟩))))
theorem Te (xs ys:List Z3) (x:RX (rowsL Bb xs) xs.length) (y:RX (rowsL Bb ys) ys.length) (hl:xs.length<=1000000) (w:World) {S:Nat->Prop} (hx:Ro S w x) (hy:Ro S w y):Calls prog 70 #[(qz x.p xs.length x.c),(qz y.p ys.length y.c),(Value.func (.func 71) #[] #[])] w (Ag w (qa (decide (xs=ys)))):=by
 have lx:=Db (W:=w) hx
 have ly:=Db (W:=w) hy
 refine Ak (args:=[(qz x.p xs.length x.c),(qz y.p ys.length y.c),(Value.func (.func 71) #[] #[])]) (L:=[AP x.p (rowsL Bb xs),AP y.p (rowsL Bb ys)]) func70 O O (BE O) (De hx (De hy A_)) (zM (sL [0,1,2] O) (q4 (asg' O (oNl' (q1 (q4 (AM O (AC (v:=(vN xs.length)) (AE O underlying29) O (AM O (AC (v:=(vN ys.length)) (AE O underlying29) O (AC (Bw (c:=(decide (xs.length≠ys.length))) O O (bG (a:=xs.length) (b:=ys.length))) O ?_)))))))))))
 refine oNl' (zB (sL [0,1,2,6,12] O) (zA ?_))
 refine zL O (λhc0=>?_) (λhc0=>?_)
 ·replace hc0:=xU hc0
  have hne:¬xs=ys:=λh=>by grind
  exact q4 (asg' O (oNl' (zA (zH (zJ (ret_one O (rd_tmp (v:=(qa false)) O) (λw hw=>⟨by rw [xI hne],hw.out⟩)))))))
 ·replace hc0:=xT hc0
  have hll:xs.length=ys.length:=by grind
  refine zC (q1 (q4 (AM O (AC (v:=(vN xs.length)) (AE O underlying29) O (AM O (oNl' (zB (sL [0,1,2,6,14,15] O) (zA (zI ?_)))))))))
  refine zw (tg λ(j:Nat)=>j<=xs.length/\∀k,k<j->xs.getD k ((0,0,0):Z3)=ys.getD k ((0,0,0):Z3)) (tg λ(j:Nat)=>[(0,(qz x.p xs.length x.c)),(1,(qz y.p ys.length y.c)),(2,(Value.func (.func 71) #[] #[])),(14,(vN xs.length)),(15,(vN j))]) (tg λ(j:Nat)=>[AP x.p (rowsL Bb xs),AP y.p (rowsL Bb ys)]) (tg λ(j:Nat)=>xs.length-j) 0 (⟨xK _,λk h=>absurd h (Nat.not_lt_zero _)⟩) (sF O) sr (λj hJ=>?_)
  obtain ⟨hj,he⟩:=hJ
  refine q4 (AC (Aa (c:=(decide (j<xs.length))) O O (DF (a:=j) (b:=xs.length))) O (oNl' (q1 ?_)))
  refine zL O (λhc1=>?_) (λhc1=>?_)
  ·replace hc1:=xU hc1
   refine zC (q1 (zI (q4 (AM O (asg' O (q6 (sL [0,1,2,14,15,7] O) (C_ (Ek 9++[(9,false),(10,true)]) sr (Bx O (Bx O (Bx O (Aj (v:=(pP (pB x.p) (pO x.p+j*3))) O (AO (j:=j) O O x.ok underlying29 sizeOf80 O Z) ?_)))))))))))
   refine Aj (v:=(aG (Bb (xs.getD j ((0,0,0):Z3))))) O (AI (vs:=Bb (xs.getD j ((0,0,0):Z3))) (i:=0) O O (Aw.ne x.ok Z) Qw (Ae Cs _ _ _ Z) (Cs _)) (Bx O (Bx O (Aj (v:=(pP (pB y.p) (pO y.p+j*3))) O (AO (j:=j) O O y.ok underlying29 sizeOf80 O Z) (Aj (v:=(aG (Bb (ys.getD j ((0,0,0):Z3))))) O (AI (vs:=Bb (ys.getD j ((0,0,0):Z3))) (i:=1) O O (Aw.ne y.ok Z) Qw (Ae Cs _ _ _ Z) (Cs _)) (zN O (ck' call71 (ZA (xs.getD j ((0,0,0):Z3)) (ys.getD j ((0,0,0):Z3))) O (zG sr (Aj O (BG (c:=(!(decide (xs.getD j ((0,0,0):Z3)=ys.getD j ((0,0,0):Z3))))) O O) (zQ (zB (sL [0,1,2,14,15,28] O) (zA ?_)))))))))))
   refine zL O (λhc2=>?_) (λhc2=>?_)
   ·simp only [jK] at hc2
    have hne:¬xs=ys:=OF (d:=((0,0,0):Z3)) (i:=j) (by grind)
    exact q4 (asg' O (oNl' (zA (zH (zS (zJ (z6 (zS (zJ (ret_one O (rd_tmp (v:=(qa false)) O) (λw hw=>⟨by rw [xI hne],hw.out⟩)))))))))))
   ·simp only [jK] at hc2
    have hej:xs.getD j ((0,0,0):Z3)=ys.getD j ((0,0,0):Z3):=by grind
    exact zC (zF (zA (zD (AC (AR (c:=((j+1:Nat):Int)) O O (AS (a:=j) (b:=1) Z)) O (AM O (oNl' (zB (sL [0,1,2,14,15] O) (zh (j+1) (⟨Z,λk hk=>by rcases Nat.lt_or_ge k j with q|q;exact he k q;rw [show k=j by omega];exact hej⟩) Z (sF O) sr))))))))
  ·replace hc1:=xT hc1
   have heq:xs=ys:=K8 (d:=((0,0,0):Z3)) hll λk hk=>he k Z
   exact zU (zO (zX (zR (q2 (asg' O (oNl' (zA (zH (ret_one O (rd_tmp (v:=(qa true)) O) (λw hw=>⟨by rw [xJ heq],hw.out⟩))))))))))
theorem UA {ps qs:List Pt} {ts ss us vs:List Z3} (x:MZ ps ts ss) (y:MZ qs us vs) (hp:ps.length<=1000000) (ht:ts.length<=1000000) (hs:ss.length<=1000000) (w:World) {S:Nat->Prop} (hx:Ro S w x) (hy:Ro S w y):Calls prog 24 #[(aG (PJ x)),(aG (PJ y))] w (Ag w (qa (decide (ps=qs/\ts=us/\ss=vs)))):=by
 have lx:=Db (W:=w) hx
 have ly:=Db (W:=w) hy
 refine Ak (args:=[(aG (PJ x)),(aG (PJ y))]) (L:=[AP x.a.p (rowsL AZ ps),AP x.b.p (rowsL Bb ts),AP x.c.p (rowsL Bb ss),AP y.a.p (rowsL AZ qs),AP y.b.p (rowsL Bb us),AP y.c.p (rowsL Bb vs)]) func24 O O (BE O) (De hx (De hy A_)) (zM (sL [0,1] O) (q4 (BZ (cs:=PJ x) O λb1=>BZ (cs:=PJ y) O λb2=>asg' O (q3 (sL [2,3,4] O) (AC (v:=(pP b1 0)) (AA O underlying34 O sizeOf32 O) O (BA 1 (qz x.a.p ps.length x.a.c) DC O (AC (v:=(pP b2 0)) (AA O underlying34 O sizeOf32 O) O (BA 0 (qz y.a.p qs.length y.a.c) DC O (C7 call66 (λw hw=>Td ps qs x.a y.a Z w (aN (Cd hw 2 O lx)) (aN (Cd hw 5 O ly))) O ?_)))))))))
 refine AM O ?_
 refine zi (FM:=[(2,(pP b1 0)),(3,(pP b2 0)),(4,(qa false)),(5,(pP b1 0)),(6,(qz x.a.p ps.length x.a.c)),(7,(pP b2 0)),(8,(qz y.a.p qs.length y.a.c)),(9,(qa (decide (ps=qs)))),(10,(qa (decide (ps=qs)))),(16,(qa ((decide (ps=qs))&&(decide (ts=us)))))]) (LM:=[AX b2 34 (PJ y),AX b1 34 (PJ x),AP x.a.p (rowsL AZ ps),AP x.b.p (rowsL Bb ts),AP x.c.p (rowsL Bb ss),AP y.a.p (rowsL AZ qs),AP y.b.p (rowsL Bb us),AP y.c.p (rowsL Bb vs)]) 6 ?_ ?_
 ·rcases xR (decide (ps=qs)) with hg1|hg1
  ·refine zK (k:=10) (u:=qa true) O (by rw [hg1]) ?_
   have hg1':=xU hg1
   exact Av (v:=(pP b1 1)) O (AA O underlying34 O sizeOf28 O) (Av (v:=(qz x.b.p ts.length x.b.c)) O (AD (i:=1) (v:=(qz x.b.p ts.length x.b.c)) O O CM.a O) (Av (v:=(pP b2 1)) O (AA O underlying34 O sizeOf28 O) (Av (v:=(qz y.b.p us.length y.b.c)) O (AD (i:=0) (v:=(qz y.b.p us.length y.b.c)) O O CM.a O) (zg (v:=(qa (decide (ts=us)))) (AY O) (Ao (args:=[(qz x.b.p ts.length x.b.c),(qz y.b.p us.length y.b.c),(Value.func (.func 69) #[] #[])]) O O call68) (λw hw=>Tf ts us x.b y.b Z w (aO (Cd hw 2 O lx)) (aO (Cd hw 5 O ly))) O (BE O) (AC (v:=(qa (decide (ts=us)))) (AQ O O) O (oNl' (zT Cc (xS _))))))))
  ·refine zK (k:=10) (u:=qa false) O (by rw [hg1]) ?_
   have hg1':=xT hg1
   exact BD O (BD O (BD O (BD O (BD O (AC (v:=(qa false)) (AL O O) O (oNl' (zT Cc (xS _))))))))
 refine AM O ?_
 refine zi (FM:=[(2,(pP b1 0)),(3,(pP b2 0)),(4,(qa false)),(5,(pP b1 0)),(6,(qz x.a.p ps.length x.a.c)),(7,(pP b2 0)),(8,(qz y.a.p qs.length y.a.c)),(9,(qa (decide (ps=qs)))),(10,(qa (decide (ps=qs)))),(16,(qa ((decide (ps=qs))&&(decide (ts=us))))),(17,(qa ((decide (ps=qs))&&(decide (ts=us))))),(23,(qa (((decide (ps=qs))&&(decide (ts=us)))&&(decide (ss=vs)))))]) (LM:=[AX b2 34 (PJ y),AX b1 34 (PJ x),AP x.a.p (rowsL AZ ps),AP x.b.p (rowsL Bb ts),AP x.c.p (rowsL Bb ss),AP y.a.p (rowsL AZ qs),AP y.b.p (rowsL Bb us),AP y.c.p (rowsL Bb vs)]) 6 ?_ ?_
 ·rcases xR ((decide (ps=qs))&&(decide (ts=us))) with hg2|hg2
  ·refine zK (k:=17) (u:=qa true) O (by rw [hg2]) ?_
   have hg2':=hg2
   simp only [jK] at hg2'
   exact Av (v:=(pP b1 2)) O (AA O underlying34 O sizeOf29 O) (Av (v:=(qz x.c.p ss.length x.c.c)) O (AD (i:=1) (v:=(qz x.c.p ss.length x.c.c)) O O Qx.a O) (Av (v:=(pP b2 2)) O (AA O underlying34 O sizeOf29 O) (Av (v:=(qz y.c.p vs.length y.c.c)) O (AD (i:=0) (v:=(qz y.c.p vs.length y.c.c)) O O Qx.a O) (zg (v:=(qa (decide (ss=vs)))) (AY O) (Ao (args:=[(qz x.c.p ss.length x.c.c),(qz y.c.p vs.length y.c.c),(Value.func (.func 71) #[] #[])]) O O call70) (λw hw=>Te ss vs x.c y.c Z w (aP (Cd hw 2 O lx)) (aP (Cd hw 5 O ly))) O (BE O) (AC (v:=(qa (decide (ss=vs)))) (AQ O O) O (oNl' (zT Hl (xS _))))))))
  ·refine zK (k:=17) (u:=qa false) O (by rw [hg2]) ?_
   have hg2':=hg2
   simp only [jK] at hg2'
   exact BD O (BD O (BD O (BD O (BD O (AC (v:=(qa false)) (AL O O) O (oNl' (zT Hl (xS _))))))))
 exact asg' O (oNl' (zB (sL [4] O) (zA (zH (ret_one O (rd_tmp (v:=(qa (((decide (ps=qs))&&(decide (ts=us)))&&(decide (ss=vs))))) O) (λw hw=>⟨by congr 2;grind,hw.out⟩))))))
end
section
set_option maxRecDepth 100000
end
section
set_option maxRecDepth 100000
theorem JP (p:Int) (n:Nat) (w:World)  :Calls prog 117 #[(vI p),(vN n)] w (Ag w (qa (B3 n p))):=by
 refine AW (args:=[(vI p),(vN n)]) func117 O O (BE O) (zM (sL [0,1] O) (q4 (asg' O (oNl' (q2 (AM O (AC (D5 (c:=(decide ((0:Int)<=p))) O O O) O (AM O ?_))))))))
 refine zi (FM:=[(0,(vI p)),(1,(vN n)),(4,(qa false)),(5,(vI p)),(6,(qa (decide ((0:Int)<=p)))),(7,(qa (decide ((0:Int)<=p)))),(11,(qa ((decide ((0:Int)<=p))&&(decide (p<((n:Nat):Int))))))]) (LM:=[]) 4 ?_ ?_
 ·rcases xR (decide ((0:Int)<=p)) with hg1|hg1
  ·refine zK (k:=7) (u:=qa true) O (by rw [hg1]) ?_
   have hg1':=xU hg1
   exact F0 O (F0 O (Av (v:=(qa (decide (p<((n:Nat):Int))))) O (Aa (c:=(decide (p<((n:Nat):Int)))) O O O) (AC (v:=(qa (decide (p<((n:Nat):Int))))) (AQ O O) O (oNl' (zT Cc (xS _))))))
  ·refine zK (k:=7) (u:=qa false) O (by rw [hg1]) ?_
   have hg1':=xT hg1
   exact BD O (BD O (BD O (AC (v:=(qa false)) (AL O O) O (oNl' (zT Cc (xS _))))))
 exact asg' O (oNl' (zB (sL [4] O) (zA (zH (ret_one O (rd_tmp (v:=(qa ((decide ((0:Int)<=p))&&(decide (p<((n:Nat):Int)))))) O) (λw hw=>⟨by unfold B3;first|rfl|simp,hw.out⟩))))))
theorem S5 (t:Z3) (n:Nat) (bo:BX [vN n]) (w:World) {S:Nat->Prop} (hbo:Ro S w bo):Calls prog 166 #[(aG (Bb t)),(pP bo.b 0)] w (Ag w (qa (!XD n t))):=by
 have lbo:=Db (W:=w) hbo
 refine Ak (args:=[(aG (Bb t)),(pP bo.b 0)]) (L:=[AP (some ⟨bo.b,0,none⟩) ([(vN n)])]) func166 O O (BE O) (De hbo A_) (zM (sL [0,1] O) (q4 (BZ (cs:=Bb t) O λb1=>asg' O (q3 (sL [1,2,3] O) (AC (v:=(pP b1 0)) (AB (j:=0) O O underlying71 sizeOf3 O jY O) O (BA 0 (vI t.1) BP O (AC (Au (q:=some ⟨bo.b,0,none⟩) (v:=(vN n)) (off:=0) (i:=1) O O (λe=>by cases e) BP O) O (ck' call117 (JP t.1 n) O (AC (BG (c:=(!(B3 n t.1))) O O) O (AM O ?_))))))))))
 refine zi (FM:=[(1,(pP bo.b 0)),(2,(pP b1 0)),(3,(qa false)),(4,(pP b1 0)),(5,(vI t.1)),(6,(vN n)),(7,(qa (B3 n t.1))),(8,(qa (!(B3 n t.1)))),(9,(qa (!(B3 n t.1)))),(15,(qa ((!(B3 n t.1))||(!(B3 n t.2.1)))))]) (LM:=[AX b1 71 (Bb t),AP (some ⟨bo.b,0,none⟩) ([(vN n)])]) 6 ?_ ?_
 ·rcases xR (!(B3 n t.1)) with hg1|hg1
  ·refine zK (k:=9) (u:=qa true) O (by rw [hg1]) ?_
   have hg1':=hg1
   simp only [jK] at hg1'
   exact BD O (BD O (BD O (BD O (BD O (AC (v:=(qa true)) (AQ O O) O (oNl' (zT Cc (xS _))))))))
  ·refine zK (k:=9) (u:=qa false) O (by rw [hg1]) ?_
   have hg1':=hg1
   simp only [jK] at hg1'
   exact Av (v:=(pP b1 1)) O (AB (j:=1) O O underlying71 sizeOf3 O jY O) (Av (v:=(vI t.2.1)) O (AD (i:=0) (v:=(vI t.2.1)) O O BP.a O) (Av (v:=(vN n)) O (Au (q:=some ⟨bo.b,0,none⟩) (v:=(vN n)) (off:=0) (i:=1) O O (λe=>by cases e) BP O) (zg (v:=(qa (B3 n t.2.1))) (AY O) (Ao (args:=[(vI t.2.1),(vN n)]) O O call117) (λw hw=>JP t.2.1 n w) O (BE O) (Av (v:=(qa (!(B3 n t.2.1)))) O (BG (c:=(!(B3 n t.2.1))) O O) (AC (v:=(qa (!(B3 n t.2.1)))) (AL O O) O (oNl' (zT Cc (xS _))))))))
 refine AM O ?_
 refine zi (FM:=[(1,(pP bo.b 0)),(2,(pP b1 0)),(3,(qa false)),(4,(pP b1 0)),(5,(vI t.1)),(6,(vN n)),(7,(qa (B3 n t.1))),(8,(qa (!(B3 n t.1)))),(9,(qa (!(B3 n t.1)))),(15,(qa ((!(B3 n t.1))||(!(B3 n t.2.1))))),(16,(qa ((!(B3 n t.1))||(!(B3 n t.2.1))))),(22,(qa (((!(B3 n t.1))||(!(B3 n t.2.1)))||(!(B3 n t.2.2)))))]) (LM:=[AX b1 71 (Bb t),AP (some ⟨bo.b,0,none⟩) ([(vN n)])]) 6 ?_ ?_
 ·rcases xR ((!(B3 n t.1))||(!(B3 n t.2.1))) with hg2|hg2
  ·refine zK (k:=16) (u:=qa true) O (by rw [hg2]) ?_
   have hg2':=hg2
   simp only [jK] at hg2'
   exact BD O (BD O (BD O (BD O (BD O (AC (v:=(qa true)) (AQ O O) O (oNl' (zT Hl (xS _))))))))
  ·refine zK (k:=16) (u:=qa false) O (by rw [hg2]) ?_
   have hg2':=hg2
   simp only [jK] at hg2'
   exact Av (v:=(pP b1 2)) O (AB (j:=2) O O underlying71 sizeOf3 O jY O) (Av (v:=(vI t.2.2)) O (AD (i:=0) (v:=(vI t.2.2)) O O BP.a O) (Av (v:=(vN n)) O (Au (q:=some ⟨bo.b,0,none⟩) (v:=(vN n)) (off:=0) (i:=1) O O (λe=>by cases e) BP O) (zg (v:=(qa (B3 n t.2.2))) (AY O) (Ao (args:=[(vI t.2.2),(vN n)]) O O call117) (λw hw=>JP t.2.2 n w) O (BE O) (Av (v:=(qa (!(B3 n t.2.2)))) O (BG (c:=(!(B3 n t.2.2))) O O) (AC (v:=(qa (!(B3 n t.2.2)))) (AL O O) O (oNl' (zT Hl (xS _))))))))
 refine AM O ?_
 refine zi (FM:=[(1,(pP bo.b 0)),(2,(pP b1 0)),(3,(qa false)),(4,(pP b1 0)),(5,(vI t.1)),(6,(vN n)),(7,(qa (B3 n t.1))),(8,(qa (!(B3 n t.1)))),(9,(qa (!(B3 n t.1)))),(15,(qa ((!(B3 n t.1))||(!(B3 n t.2.1))))),(16,(qa ((!(B3 n t.1))||(!(B3 n t.2.1))))),(22,(qa (((!(B3 n t.1))||(!(B3 n t.2.1)))||(!(B3 n t.2.2))))),(23,(qa (((!(B3 n t.1))||(!(B3 n t.2.1)))||(!(B3 n t.2.2))))),(29,(qa ((((!(B3 n t.1))||(!(B3 n t.2.1)))||(!(B3 n t.2.2)))||(decide (t.1=t.2.1)))))]) (LM:=[AX b1 71 (Bb t),AP (some ⟨bo.b,0,none⟩) ([(vN n)])]) 6 ?_ ?_
 ·rcases xR (((!(B3 n t.1))||(!(B3 n t.2.1)))||(!(B3 n t.2.2))) with hg3|hg3
  ·refine zK (k:=23) (u:=qa true) O (by rw [hg3]) ?_
   have hg3':=hg3
   simp only [jK] at hg3'
   exact BD O (BD O (BD O (BD O (BD O (AC (v:=(qa true)) (AQ O O) O (oNl' (zT Pn (xS _))))))))
  ·refine zK (k:=23) (u:=qa false) O (by rw [hg3]) ?_
   have hg3':=hg3
   simp only [jK] at hg3'
   exact Av (v:=(pP b1 0)) O (AB (j:=0) O O underlying71 sizeOf3 O jY O) (Av (v:=(vI t.1)) O (AD (i:=0) (v:=(vI t.1)) O O BP.a O) (Av (v:=(pP b1 1)) O (AB (j:=1) O O underlying71 sizeOf3 O jY O) (Av (v:=(vI t.2.1)) O (AD (i:=0) (v:=(vI t.2.1)) O O BP.a O) (Av (v:=(qa (decide (t.1=t.2.1)))) O (BM (c:=(decide (t.1=t.2.1))) O O O) (AC (v:=(qa (decide (t.1=t.2.1)))) (AL O O) O (oNl' (zT Pn (xS _))))))))
 refine AM O ?_
 refine zi (FM:=[(1,(pP bo.b 0)),(2,(pP b1 0)),(3,(qa false)),(4,(pP b1 0)),(5,(vI t.1)),(6,(vN n)),(7,(qa (B3 n t.1))),(8,(qa (!(B3 n t.1)))),(9,(qa (!(B3 n t.1)))),(15,(qa ((!(B3 n t.1))||(!(B3 n t.2.1))))),(16,(qa ((!(B3 n t.1))||(!(B3 n t.2.1))))),(22,(qa (((!(B3 n t.1))||(!(B3 n t.2.1)))||(!(B3 n t.2.2))))),(23,(qa (((!(B3 n t.1))||(!(B3 n t.2.1)))||(!(B3 n t.2.2))))),(29,(qa ((((!(B3 n t.1))||(!(B3 n t.2.1)))||(!(B3 n t.2.2)))||(decide (t.1=t.2.1))))),(30,(qa ((((!(B3 n t.1))||(!(B3 n t.2.1)))||(!(B3 n t.2.2)))||(decide (t.1=t.2.1))))),(36,(qa (((((!(B3 n t.1))||(!(B3 n t.2.1)))||(!(B3 n t.2.2)))||(decide (t.1=t.2.1)))||(decide (t.2.1=t.2.2)))))]) (LM:=[AX b1 71 (Bb t),AP (some ⟨bo.b,0,none⟩) ([(vN n)])]) 6 ?_ ?_
 ·rcases xR ((((!(B3 n t.1))||(!(B3 n t.2.1)))||(!(B3 n t.2.2)))||(decide (t.1=t.2.1))) with hg4|hg4
  ·refine zK (k:=30) (u:=qa true) O (by rw [hg4]) ?_
   have hg4':=hg4
   simp only [jK] at hg4'
   exact BD O (BD O (BD O (BD O (BD O (AC (v:=(qa true)) (AQ O O) O (oNl' (zT Po (xS _))))))))
  ·refine zK (k:=30) (u:=qa false) O (by rw [hg4]) ?_
   have hg4':=hg4
   simp only [jK] at hg4'
   exact Av (v:=(pP b1 1)) O (AB (j:=1) O O underlying71 sizeOf3 O jY O) (Av (v:=(vI t.2.1)) O (AD (i:=0) (v:=(vI t.2.1)) O O BP.a O) (Av (v:=(pP b1 2)) O (AB (j:=2) O O underlying71 sizeOf3 O jY O) (Av (v:=(vI t.2.2)) O (AD (i:=0) (v:=(vI t.2.2)) O O BP.a O) (Av (v:=(qa (decide (t.2.1=t.2.2)))) O (BM (c:=(decide (t.2.1=t.2.2))) O O O) (AC (v:=(qa (decide (t.2.1=t.2.2)))) (AL O O) O (oNl' (zT Po (xS _))))))))
 refine AM O ?_
 refine zi (FM:=[(1,(pP bo.b 0)),(2,(pP b1 0)),(3,(qa false)),(4,(pP b1 0)),(5,(vI t.1)),(6,(vN n)),(7,(qa (B3 n t.1))),(8,(qa (!(B3 n t.1)))),(9,(qa (!(B3 n t.1)))),(15,(qa ((!(B3 n t.1))||(!(B3 n t.2.1))))),(16,(qa ((!(B3 n t.1))||(!(B3 n t.2.1))))),(22,(qa (((!(B3 n t.1))||(!(B3 n t.2.1)))||(!(B3 n t.2.2))))),(23,(qa (((!(B3 n t.1))||(!(B3 n t.2.1)))||(!(B3 n t.2.2))))),(29,(qa ((((!(B3 n t.1))||(!(B3 n t.2.1)))||(!(B3 n t.2.2)))||(decide (t.1=t.2.1))))),(30,(qa ((((!(B3 n t.1))||(!(B3 n t.2.1)))||(!(B3 n t.2.2)))||(decide (t.1=t.2.1))))),(36,(qa (((((!(B3 n t.1))||(!(B3 n t.2.1)))||(!(B3 n t.2.2)))||(decide (t.1=t.2.1)))||(decide (t.2.1=t.2.2))))),(37,(qa (((((!(B3 n t.1))||(!(B3 n t.2.1)))||(!(B3 n t.2.2)))||(decide (t.1=t.2.1)))||(decide (t.2.1=t.2.2))))),(43,(qa ((((((!(B3 n t.1))||(!(B3 n t.2.1)))||(!(B3 n t.2.2)))||(decide (t.1=t.2.1)))||(decide (t.2.1=t.2.2)))||(decide (t.2.2=t.1)))))]) (LM:=[AX b1 71 (Bb t),AP (some ⟨bo.b,0,none⟩) ([(vN n)])]) 6 ?_ ?_
 ·rcases xR (((((!(B3 n t.1))||(!(B3 n t.2.1)))||(!(B3 n t.2.2)))||(decide (t.1=t.2.1)))||(decide (t.2.1=t.2.2))) with hg5|hg5
  ·refine zK (k:=37) (u:=qa true) O (by rw [hg5]) ?_
   have hg5':=hg5
   simp only [jK] at hg5'
   exact BD O (BD O (BD O (BD O (BD O (AC (v:=(qa true)) (AQ O O) O (oNl' (zT Pp (xS _))))))))
  ·refine zK (k:=37) (u:=qa false) O (by rw [hg5]) ?_
   have hg5':=hg5
   simp only [jK] at hg5'
   exact Av (v:=(pP b1 2)) O (AB (j:=2) O O underlying71 sizeOf3 O jY O) (Av (v:=(vI t.2.2)) O (AD (i:=0) (v:=(vI t.2.2)) O O BP.a O) (Av (v:=(pP b1 0)) O (AB (j:=0) O O underlying71 sizeOf3 O jY O) (Av (v:=(vI t.1)) O (AD (i:=0) (v:=(vI t.1)) O O BP.a O) (Av (v:=(qa (decide (t.2.2=t.1)))) O (BM (c:=(decide (t.2.2=t.1))) O O O) (AC (v:=(qa (decide (t.2.2=t.1)))) (AL O O) O (oNl' (zT Pp (xS _))))))))
 exact asg' O (oNl' (zB (sL [3] O) (zA (zH (ret_one O (rd_tmp (v:=(qa ((((((!(B3 n t.1))||(!(B3 n t.2.1)))||(!(B3 n t.2.2)))||(decide (t.1=t.2.1)))||(decide (t.2.1=t.2.2)))||(decide (t.2.2=t.1))))) O) (λw hw=>⟨by unfold XD;generalize B3 n t.1=q1;generalize B3 n t.2.1=q2;generalize B3 n t.2.2=q3;generalize decide (t.1=t.2.1)=q4;generalize decide (t.2.1=t.2.2)=q5;generalize decide (t.2.2=t.1)=q6;cases q1<;>cases q2<;>cases q3<;>cases q4<;>cases q5<;>cases q6<;>rfl,hw.out⟩))))))
theorem X5 (n:Nat) (bo:BX [vN n]) (ts:List Z3) (x:RX (rowsL Bb ts) ts.length) (hl:ts.length<4611686018427387904) (w:World) {S:Nat->Prop} (hbo:Ro S w bo) (hx:Ro S w x):Calls prog 210 #[(qz x.p ts.length x.c),(Value.func (.func 166) #[] #[(pP bo.b 0)])] w (Ag w (vI (idxZ n ts 0))):=by
 have lbo:=Db (W:=w) hbo
 have lx:=Db (W:=w) hx
 refine Ak (args:=[(qz x.p ts.length x.c),(Value.func (.func 166) #[] #[(pP bo.b 0)])]) (L:=[AP (some ⟨bo.b,0,none⟩) ([(vN n)]),AP x.p (rowsL Bb ts)]) func210 O O (BE O) (De hbo (De hx A_)) (zM (sL [0,1] O) (q4 (asg' O (oNl' (q1 (q4 (AM O (AC (v:=(vN ts.length)) (AE O underlying28) O (AM O (oNl' (zB (sL [0,1,4,7,8] O) ?_)))))))))))
 refine zA (zI ?_)
 refine zw (tg λ(j:Nat)=>j<=ts.length/\idxZ n ts 0=idxZ n (ts.drop j) j) (tg λ(j:Nat)=>[(0,(qz x.p ts.length x.c)),(1,(Value.func (.func 166) #[] #[(pP bo.b 0)])),(7,(vN ts.length)),(8,(vN j))]) (tg λ(j:Nat)=>[AP (some ⟨bo.b,0,none⟩) ([(vN n)]),AP x.p (rowsL Bb ts)]) (tg λ(j:Nat)=>ts.length-j) 0 (⟨xK _,rfl⟩) (sF O) sr (λj hJ=>?_)
 obtain ⟨hj,he⟩:=hJ
 refine q4 (AC (Aa (c:=(decide (j<ts.length))) O O (DF (a:=j) (b:=ts.length))) O (oNl' (q1 ?_)))
 refine zL O (λhc0=>?_) (λhc0=>?_)
 ·replace hc0:=xU hc0
  refine zC (q1 (zI (q4 (AM O (asg' O (q3 (sL [0,1,7,8,5] O) (AM O (AM O (AM O (AC (v:=(pP (pB x.p) (pO x.p+j*3))) (AO (j:=j) O O x.ok underlying28 sizeOf71 O Z) O (AC (v:=(aG (Bb (ts.getD j ((0,0,0):Z3))))) (AI (vs:=Bb (ts.getD j ((0,0,0):Z3))) (i:=1) O O (Aw.ne x.ok Z) Bm (Ae Cs _ _ _ Z) (Cs _)) O ?_)))))))))))
  refine zg (v:=(qa (!XD n (ts.getD j ((0,0,0):Z3))))) (AK O) (D_ (args:=[(aG (Bb (ts.getD j ((0,0,0):Z3))))]) (caps:=[(pP bo.b 0)]) (all:=[(aG (Bb (ts.getD j ((0,0,0):Z3)))),(pP bo.b 0)]) O O O call166) (λw hw=>S5 (ts.getD j ((0,0,0):Z3)) n bo w (Cd hw 0 O lbo)) O (BE O) (oNl' (zB (sL [0,1,7,8,5,16] O) (zA ?_)))
  refine zL O (λhc1=>?_) (λhc1=>?_)
  ·simp only [jK] at hc1
   have hfin:=he.trans (VH Z (by simpa using hc1))
   exact q4 (AM O (asg' O (oNl' (zB (sL [0,1,7,8,5,4] O) (zA (zH (zS (zJ (z6 (zS (zJ (ret_one O (rd_tmp (v:=(vN j)) O) (λw hw=>⟨by rw [hfin],hw.out⟩)))))))))))))
  ·simp only [jK] at hc1
   exact zC (zF (zA (zD (AC (AR (c:=((j+1:Nat):Int)) O O (AS (a:=j) (b:=1) Z)) O (AM O (oNl' (zB (sL [0,1,7,8,5] O) (zh (j+1) (⟨Z,he.trans (Si Z (by simpa using hc1))⟩) Z (sF O) sr))))))))
 ·replace hc0:=xT hc0
  have hfin:=he.trans (VG hc0)
  exact zU (zO (zX (zR (q2 (asg' O (oNl' (zA (zH (ret_one O (rd_tmp (v:=(vI (-1:Int))) O) (λw hw=>⟨by rw [hfin],hw.out⟩))))))))))
theorem Uk (n:Nat) (bo:BX [vN n]) (ts:List Z3) (x:RX (rowsL Bb ts) ts.length) (hl:ts.length<4611686018427387904) (w:World) {S:Nat->Prop} (hbo:Ro S w bo) (hx:Ro S w x):Calls prog 165 #[(qz x.p ts.length x.c),(Value.func (.func 166) #[] #[(pP bo.b 0)])] w (Ag w (qa (!JJ n ts))):=by
 have lbo:=Db (W:=w) hbo
 have lx:=Db (W:=w) hx
 refine Ak (args:=[(qz x.p ts.length x.c),(Value.func (.func 166) #[] #[(pP bo.b 0)])]) (L:=[AP (some ⟨bo.b,0,none⟩) ([(vN n)]),AP x.p (rowsL Bb ts)]) func165 O O (BE O) (De hbo (De hx A_)) (zM (sL [0,1] O) (q4 (asg' O (oNl' (q2 (AM O (AM O (C7 call210 (λw hw=>X5 n bo ts x hl w (Cd hw 0 O lbo) (Cd hw 1 O lx)) O (AC (D5 (c:=(!JJ n ts)) O O (M9 n ts 0)) O (asg' O (oNl' ?_)))))))))))
 exact zB (sL [4] O) (zA (zH (ret_one O (rd_tmp (v:=(qa (!JJ n ts))) O) (λw hw=>⟨rfl,hw.out⟩))))
theorem Vx (n:Nat) (ts:List Z3) (x:RX (rowsL Bb ts) ts.length) (hl:ts.length<4611686018427387904) (w:World) {S:Nat->Prop} (hx:Ro S w x):Calls prog 103 #[(qz x.p ts.length x.c),(vN n)] w (Ag w (qa (JJ n ts))):=by
 have lx:=Db (W:=w) hx
 refine Ak (args:=[(qz x.p ts.length x.c),(vN n)]) (L:=[AP x.p (rowsL Bb ts)]) func103 O O (BE O) (De hx A_) (zM (sL [0,1] O) (q4 (BZ (cs:=[(vN n)]) O λb1=>yM 0 O O λhnb1=>asg' O (q3 (sL [0,3,4] O) (AM O (AC (v:=(Value.func (.func 166) #[] #[(pP b1 0)])) (Dw (vs:=[]) (us:=[(pP b1 0)]) O O) O (C7 call165 (λw hw=>Uk n ⟨b1⟩ ts x hl w (VI (x:=(⟨b1⟩:BX [vN n])) hw 0 O hnb1) (Cd hw 1 O lx)) O (AC (BG (c:=(!(!JJ n ts))) O O) O (asg' O ?_)))))))))
 exact oNl' (zB (sL [4] O) (zA (zH (ret_one O (rd_tmp (v:=(qa (!(!JJ n ts)))) O) (λw hw=>⟨by simp,hw.out⟩)))))
theorem T7 {N K:Nat} {zs:List Z3} (x:RQ N K zs) (hl:zs.length<4611686018427387904) (w:World) {S:Nat->Prop} (hx:Ro S w x):Calls prog 46 #[(aG (cG x))] w (Ag w (qa (JJ N zs))):=by
 have lx:=Db (W:=w) hx
 refine Ak (args:=[(aG (cG x))]) (L:=[AP x.a.p (x.cs),AP x.b.p (rowsL Bb zs),AP x.c.p (x.ds)]) func46 O O (BE O) (De hx A_) (zM (sL [0] O) (q4 (BZ (cs:=cG x) O λb1=>asg' O (q3 (sL [1,2] O) (AC (v:=(pP b1 1)) (AA O underlying34 O sizeOf28 O) O (BA 0 (qz x.b.p zs.length x.b.c) CM O (AC (v:=(pP b1 0)) (AA O underlying34 O sizeOf32 O) O (BA 0 (qz x.a.p N x.a.c) DC O (AC (v:=(vN N)) (AE O underlying32) O (C7 call103 (λw hw=>Vx N zs x.b hl w (dx (Cd hw 1 O lx))) O ?_))))))))))
 exact asg' O (oNl' (zB (sL [2] O) (zA (zH (ret_one O (rd_tmp (v:=(qa (JJ N zs))) O) (λw hw=>⟨rfl,hw.out⟩))))))
end
section
set_option maxRecDepth 100000
end
section
set_option maxRecDepth 100000
end
section
section
variable {P:Program} {ops:Array Oper} {rest:List Oper} {Q:Exit->Act->World->Prop} {n:Nat} {F:List (Nat×Value)} {w0:BF} {L:List As} {d:Option Tmp} {op:Op} {t:TypeId} {p:String} {af:Array Edge} {g:Nat×Bool}
end
end
section
set_option maxRecDepth 100000
end
section
set_option maxRecDepth 100000
end
section
set_option maxRecDepth 100000
end
section
set_option maxRecDepth 100000
end
end Go.Proofs.YtbfdamnfcmefmaaGreatDoor
