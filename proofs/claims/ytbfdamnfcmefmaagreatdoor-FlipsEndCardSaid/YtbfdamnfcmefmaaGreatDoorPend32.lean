import Derived.Test.YtbfdamnfcmefmaaGreatDoorPend31
namespace Go.Proofs.YtbfdamnfcmefmaaGreatDoor
open Go Go.RowKit Go.Proofs.Tryz
open Go.Value renaming slice→qz,bool→qa
set_option linter.unusedVariables false
set_option linter.unusedSimpArgs false
section
set_option maxRecDepth 100000
theorem P8 (ts:List Z3) (x:RX (rowsL BU ts) ts.length) (hl:ts.length<=1000000000) (w:World) {S:Nat->Prop} (hx:Ro S w x):Calls prog 78 #[(qz x.p ts.length x.c)] w (E9 aV (Yo (T:=71) (z:=3) (cs:=rowsL BU ts) (n:=ts.length)) S w):=by
 have lx:=DT (W:=w) hx
 refine Ag (args:=[(qz x.p ts.length x.c)]) (L:=[AN x.p (rowsL BU ts)]) func78 O O (A_ O) (DU hx Az) (zM (sL [0] O) (q4 (asg' O (z6 71 3 (oNl' (q1 (q4 (AL O (AD (v:=(qa x.p.isNone)) (Hu O O underlying28) O (oNl' (zB (sL [0,2,4] O) ?_)))))))))))
 refine zA ?_
 refine zK O (λhc0=>?_) (λhc0=>?_)
 ·have hts:ts=[]:=List.eq_nil_of_length_eq_zero (x.ok.nil (Option.isNone_iff_eq_none.1 hc0)).1
  exact q4 (asg' O (z6 71 3 (oNl' (zA (zG (zJ (ret_one O (rd_tmp (v:=jj) O) (λw hw=>(by subst hts;exact PV hw (OX.mk none 0 OwnOk.none) (by exact (sk (sl (sl sr)))) (IL.own O IL.nil) (by show qz none 0 0=_;rfl))))))))))
 ·exact zC (q2 (ze (V:=λb1=>(qz (jk b1) 0 0)) (T:=71) (cs:=[]) (AI O) (JD underlying28 sizeOf71) O (A_ O) λb1=>yi (z:=3) 0 O Z λho_b1=>AL O (yf a_ O ho_b1 O (az (k:=2) O x.ok) (AZ Ce _) (HY SA _) (Ma Z) Z O λp_1 c_1 ho_1=>asg' O (oNl' (zB (sL [0,2] O) (zA (zG (ret_one O (rd_tmp (v:=(qz p_1 ts.length c_1)) O) (λw hw=>(PV hw (OX.mk p_1 c_1 ho_1) (sk (sl (sl sr))) (IL.own O IL.nil) O))))))))))
theorem P7 (ts:List Z3) (x:RX (rowsL BU ts) ts.length) (hl:ts.length<=1000000000) (w:World) {S:Nat->Prop} (hx:Ro S w x):Calls prog 80 #[(qz x.p ts.length x.c)] w (E9 aV (Yo (T:=80) (z:=3) (cs:=rowsL BU ts) (n:=ts.length)) S w):=by
 have lx:=DT (W:=w) hx
 refine Ag (args:=[(qz x.p ts.length x.c)]) (L:=[AN x.p (rowsL BU ts)]) func80 O O (A_ O) (DU hx Az) (zM (sL [0] O) (q4 (asg' O (z6 80 3 (oNl' (q1 (q4 (AL O (AD (v:=(qa x.p.isNone)) (Hu O O underlying29) O (oNl' (zB (sL [0,2,4] O) ?_)))))))))))
 refine zA ?_
 refine zK O (λhc0=>?_) (λhc0=>?_)
 ·have hts:ts=[]:=List.eq_nil_of_length_eq_zero (x.ok.nil (Option.isNone_iff_eq_none.1 hc0)).1
  exact q4 (asg' O (z6 80 3 (oNl' (zA (zG (zJ (ret_one O (rd_tmp (v:=jj) O) (λw hw=>(by subst hts;exact PV hw (OX.mk none 0 OwnOk.none) (by exact (sk (sl (sl sr)))) (IL.own O IL.nil) (by show qz none 0 0=_;rfl))))))))))
 ·exact zC (q2 (ze (V:=λb1=>(qz (jk b1) 0 0)) (T:=80) (cs:=[]) (AI O) (JD underlying29 sizeOf80) O (A_ O) λb1=>yi (z:=3) 0 O Z λho_b1=>AL O (yf bA O ho_b1 O (az (k:=2) O x.ok) (AZ Ce _) (HY SA _) (Ma Z) Z O λp_1 c_1 ho_1=>asg' O (oNl' (zB (sL [0,2] O) (zA (zG (ret_one O (rd_tmp (v:=(qz p_1 ts.length c_1)) O) (λw hw=>(PV hw (OX.mk p_1 c_1 ho_1) (sk (sl (sl sr))) (IL.own O IL.nil) O))))))))))
theorem Tp {ps:List Pt} {ts ss:List Z3} (x:MZ ps ts ss) (hp:ps.length<=1000000000) (ht:ts.length<=1000000000) (hs:ss.length<=1000000000) (w:World) {S:Nat->Prop} (hx:Ro S w x):Calls prog 27 #[(aG (PJ x))] w (E9 (λa:bV ps ts ss=>aG (ef a)) eg S w):=by
 have lx:=DT (W:=w) hx
 refine Ag (args:=[(aG (PJ x))]) (L:=[AN x.a.p (rowsL Aa ps),AN x.b.p (rowsL BU ts),AN x.c.p (rowsL BU ss)]) func27 O O (A_ O) (DU hx Az) (zM (sL [0] O) (q4 (BV (cs:=PJ x) O λb1=>al G6 O λb2=>q6 (sL [1,2] O) (C8 [(0,true),(1,true),(4,true),(5,true),(8,true),(9,true),(2,false),(3,false),(6,false),(7,false),(10,false),(11,false),(12,true),(13,false)] (sl sr) (Al (v:=(pP b1 0)) O (AA O underlying34 O sizeOf32 O) (BQ 0 (qz x.a.p ps.length x.a.c) C2 O (Al (v:=(pP b1 1)) O (AA O underlying34 O sizeOf28 O) (BQ 0 (qz x.b.p ts.length x.b.c) C5 O (Al (v:=(pP b1 2)) O (AA O underlying34 O sizeOf29 O) ?_)))))))))
 refine BQ 0 (qz x.c.p ss.length x.c.c) Qz O (zN O (yH (S:=S) (V:=aV) (LW:=Yo (T:=78) (z:=10) (cs:=rowsL Aa ps) (n:=ps.length)) (args:=[(qz x.a.p ps.length x.a.c)]) call76 (λw hw=>Mr ps x.a Z w (ae (CL hw 2 O lx))) O λcl1 hcl1=>zD (sl (sl sr)) (zN O (ck' call75 (Ud cl1.p ps.length cl1.c cl1.ok.row.le) O (zD (sl (sl sr)) (zN O (yH (S:=S) (V:=aV) (LW:=Yo (T:=71) (z:=3) (cs:=rowsL BU ts) (n:=ts.length)) (args:=[(qz x.b.p ts.length x.b.c)]) call78 (λw hw=>P8 ts x.b Z w (ag (CL hw 3 O lx))) O λcl2 hcl2=>zD (sl (sl (sl sr))) (zN O (ck' call77 (Ue cl2.p ts.length cl2.c cl2.ok.row.le) O ?_)))))))))
 refine zD (sl (sl (sl sr))) (zN O (yH (S:=S) (V:=aV) (LW:=Yo (T:=80) (z:=3) (cs:=rowsL BU ss) (n:=ss.length)) (args:=[(qz x.c.p ss.length x.c.c)]) call80 (λw hw=>P7 ss x.c Z w (ah (CL hw 4 O lx))) O λcl3 hcl3=>zD (sl (sl (sl (sl sr)))) (zN O (ck' call79 (Ov cl3.p ss.length cl3.c cl3.ok.row.le) O (zD (sl (sl (sl (sl sr)))) (Al (v:=(aG ([(qz cl1.p ps.length ps.length),(qz cl2.p ts.length ts.length),(qz cl3.p ss.length ss.length)]))) O (AQ (zs:=[jj,jj,jj]) (vs:=[(qz cl1.p ps.length ps.length),(qz cl2.p ts.length ts.length),(qz cl3.p ss.length ss.length)]) (pv:=[(0,(qz cl1.p ps.length ps.length)),(1,(qz cl2.p ts.length ts.length)),(2,(qz cl3.p ss.length ss.length))]) (places:=[(0,1),(1,1),(2,1)]) zeroValue34 underlying34 (λw=>by simp [sizeOf28,sizeOf29,sizeOf32]) O O) (zN O (Fi O sizeOf34 O (zD (sl (sl (sl (sl sr)))) (zQ ?_))))))))))
 exact zB (sL [2] O) (zA (zG (ret_one O (An (i:=3) (cs:=[(qz cl1.p ps.length ps.length),(qz cl2.p ts.length ts.length),(qz cl3.p ss.length ss.length)]) O O isAgg34 sizeOf34 O) (λw hw=>(PV hw (bV.mk (OX.mk cl1.p cl1.c cl1.ok) (OX.mk cl2.p cl2.c cl2.ok) (OX.mk cl3.p cl3.c cl3.ok)) (sk (sk (sk (sl (sl (sl (sl (sl sr)))))))) (IL.own O (IL.own O (IL.own O IL.nil))) O)))))
theorem ZG (p q:Pt) (w:World)  :Calls prog 67 #[(aG (Aa p)),(aG (Aa q))] w (Ac w (qa (decide (p=q)))):=by
 refine AW (args:=[(aG (Aa p)),(aG (Aa q))]) func67 O O (A_ O) (zM (sL [0,1] O) (q4 (BV (cs:=Aa p) O λb1=>BV (cs:=Aa q) O λb2=>asg' O (q3 (sL [2,3,4] O) (Ak 1 A9 O (Ak 0 A9 O (AD (Bu (c:=decide (p=q)) O O eqGuardType78 (Uw 9994 p q)) O (asg' O (oNl' ?_)))))))))
 exact zB (sL [4] O) (zA (zG (ret_one O (rd_tmp (v:=(qa (decide (p=q)))) O) (λw hw=>⟨rfl,hw.out⟩))))
theorem Tc (xs ys:List Pt) (x:RX (rowsL Aa xs) xs.length) (y:RX (rowsL Aa ys) ys.length) (hl:xs.length<=1000000) (w:World) {S:Nat->Prop} (hx:Ro S w x) (hy:Ro S w y):Calls prog 66 #[(qz x.p xs.length x.c),(qz y.p ys.length y.c),(Value.func (.func 67) #[] #[])] w (Ac w (qa (decide (xs=ys)))):=by
 have lx:=DT (W:=w) hx
 have ly:=DT (W:=w) hy
 refine Ag (args:=[(qz x.p xs.length x.c),(qz y.p ys.length y.c),(Value.func (.func 67) #[] #[])]) (L:=[AN x.p (rowsL Aa xs),AN y.p (rowsL Aa ys)]) func66 O O (A_ O) (DU hx (DU hy Az)) (zM (sL [0,1,2] O) (q4 (asg' O (oNl' (q1 (q4 (AL O (AD (v:=(vN xs.length)) (AE O underlying32) O (AL O (AD (v:=(vN ys.length)) (AE O underlying32) O (AD (Bv (c:=(decide (xs.length≠ys.length))) O O (bQ (a:=xs.length) (b:=ys.length))) O ?_)))))))))))
 refine oNl' (zB (sL [0,1,2,6,12] O) (zA ?_))
 refine zK O (λhc0=>?_) (λhc0=>?_)
 ·replace hc0:=xT hc0
  have hne:¬xs=ys:=λh=>by grind
  exact q4 (asg' O (oNl' (zA (zG (zJ (ret_one O (rd_tmp (v:=(qa false)) O) (λw hw=>⟨by rw [xH hne],hw.out⟩)))))))
 ·replace hc0:=xS hc0
  have hll:xs.length=ys.length:=by grind
  refine zC (q1 (q4 (AL O (AD (v:=(vN xs.length)) (AE O underlying32) O (AL O (oNl' (zB (sL [0,1,2,6,14,15] O) (zA (zI ?_)))))))))
  refine zy (tg λ(j:Nat)=>j<=xs.length/\∀k,k<j->xs.getD k (⟨0,0⟩:Pt)=ys.getD k (⟨0,0⟩:Pt)) (tg λ(j:Nat)=>[(0,(qz x.p xs.length x.c)),(1,(qz y.p ys.length y.c)),(2,(Value.func (.func 67) #[] #[])),(14,(vN xs.length)),(15,(vN j))]) (tg λ(j:Nat)=>[AN x.p (rowsL Aa xs),AN y.p (rowsL Aa ys)]) (tg λ(j:Nat)=>xs.length-j) 0 (⟨xJ _,λk h=>absurd h (Nat.not_lt_zero _)⟩) (sF O) sr (λj hJ=>?_)
  obtain ⟨hj,he⟩:=hJ
  refine q4 (AD (Ab (c:=(decide (j<xs.length))) O O (DA (a:=j) (b:=xs.length))) O (oNl' (q1 ?_)))
  refine zK O (λhc1=>?_) (λhc1=>?_)
  ·replace hc1:=xT hc1
   refine zC (q1 (zI (q4 (AL O (asg' O (q6 (sL [0,1,2,14,15,7] O) (C8 (El 9++[(9,false),(10,true)]) sr (Bp O (Bp O (Bp O (Al (v:=(pP (pB x.p) (pO x.p+j*10))) O (AO (j:=j) O O x.ok underlying32 sizeOf78 O Z) ?_)))))))))))
   refine Al (v:=(aG (Aa (xs.getD j (⟨0,0⟩:Pt))))) O (AM (vs:=Aa (xs.getD j (⟨0,0⟩:Pt))) (i:=0) O O (A8.ne x.ok Z) A9 (Ae Ap _ _ _ Z) (Ap _)) (Bp O (Bp O (Al (v:=(pP (pB y.p) (pO y.p+j*10))) O (AO (j:=j) O O y.ok underlying32 sizeOf78 O Z) (Al (v:=(aG (Aa (ys.getD j (⟨0,0⟩:Pt))))) O (AM (vs:=Aa (ys.getD j (⟨0,0⟩:Pt))) (i:=1) O O (A8.ne y.ok Z) A9 (Ae Ap _ _ _ Z) (Ap _)) (zN O (ck' call67 (ZG (xs.getD j (⟨0,0⟩:Pt)) (ys.getD j (⟨0,0⟩:Pt))) O (zD sr (Al O (BE (c:=(!(decide (xs.getD j (⟨0,0⟩:Pt)=ys.getD j (⟨0,0⟩:Pt))))) O O) (zQ (zB (sL [0,1,2,14,15,28] O) (zA ?_)))))))))))
   refine zK O (λhc2=>?_) (λhc2=>?_)
   ·simp only [jK] at hc2
    have hne:¬xs=ys:=OC (d:=(⟨0,0⟩:Pt)) (i:=j) (by grind)
    exact q4 (asg' O (oNl' (zA (zG (zR (zJ (z7 (zR (zJ (ret_one O (rd_tmp (v:=(qa false)) O) (λw hw=>⟨by rw [xH hne],hw.out⟩)))))))))))
   ·simp only [jK] at hc2
    have hej:xs.getD j (⟨0,0⟩:Pt)=ys.getD j (⟨0,0⟩:Pt):=by grind
    exact zC (zF (zA (zH (AD (AS (c:=((j+1:Nat):Int)) O O (AV (a:=j) (b:=1) Z)) O (AL O (oNl' (zB (sL [0,1,2,14,15] O) (zm (j+1) (⟨Z,λk hk=>by rcases Nat.lt_or_ge k j with q|q;exact he k q;rw [show k=j by omega];exact hej⟩) Z (sF O) sr))))))))
  ·replace hc1:=xS hc1
   have heq:xs=ys:=K3 (d:=(⟨0,0⟩:Pt)) hll λk hk=>he k Z
   exact zU (zO (zY (zP (q2 (asg' O (oNl' (zA (zG (ret_one O (rd_tmp (v:=(qa true)) O) (λw hw=>⟨by rw [xI heq],hw.out⟩))))))))))
theorem ZI (p q:Z3) (w:World)  :Calls prog 69 #[(aG (BU p)),(aG (BU q))] w (Ac w (qa (decide (p=q)))):=by
 refine AW (args:=[(aG (BU p)),(aG (BU q))]) func69 O O (A_ O) (zM (sL [0,1] O) (q4 (BV (cs:=BU p) O λb1=>BV (cs:=BU q) O λb2=>asg' O (q3 (sL [2,3,4] O) (Ak 1 Ec O (Ak 0 Ec O (AD (Bu (c:=decide (p=q)) O O eqGuardType71 (Z7 9998 p q)) O (asg' O (oNl' ?_)))))))))
 exact zB (sL [4] O) (zA (zG (ret_one O (rd_tmp (v:=(qa (decide (p=q)))) O) (λw hw=>⟨rfl,hw.out⟩))))
theorem Te (xs ys:List Z3) (x:RX (rowsL BU xs) xs.length) (y:RX (rowsL BU ys) ys.length) (hl:xs.length<=1000000) (w:World) {S:Nat->Prop} (hx:Ro S w x) (hy:Ro S w y):Calls prog 68 #[(qz x.p xs.length x.c),(qz y.p ys.length y.c),(Value.func (.func 69) #[] #[])] w (Ac w (qa (decide (xs=ys)))):=by
 have lx:=DT (W:=w) hx
 have ly:=DT (W:=w) hy
 refine Ag (args:=[(qz x.p xs.length x.c),(qz y.p ys.length y.c),(Value.func (.func 69) #[] #[])]) (L:=[AN x.p (rowsL BU xs),AN y.p (rowsL BU ys)]) func68 O O (A_ O) (DU hx (DU hy Az)) (zM (sL [0,1,2] O) (q4 (asg' O (oNl' (q1 (q4 (AL O (AD (v:=(vN xs.length)) (AE O underlying28) O (AL O (AD (v:=(vN ys.length)) (AE O underlying28) O (AD (Bv (c:=(decide (xs.length≠ys.length))) O O (bQ (a:=xs.length) (b:=ys.length))) O ?_)))))))))))
 refine oNl' (zB (sL [0,1,2,6,12] O) (zA ?_))
 refine zK O (λhc0=>?_) (λhc0=>?_)
 ·replace hc0:=xT hc0
  have hne:¬xs=ys:=λh=>by grind
  exact q4 (asg' O (oNl' (zA (zG (zJ (ret_one O (rd_tmp (v:=(qa false)) O) (λw hw=>⟨by rw [xH hne],hw.out⟩)))))))
 ·replace hc0:=xS hc0
  have hll:xs.length=ys.length:=by grind
  refine zC (q1 (q4 (AL O (AD (v:=(vN xs.length)) (AE O underlying28) O (AL O (oNl' (zB (sL [0,1,2,6,14,15] O) (zA (zI ?_)))))))))
  refine zy (tg λ(j:Nat)=>j<=xs.length/\∀k,k<j->xs.getD k ((0,0,0):Z3)=ys.getD k ((0,0,0):Z3)) (tg λ(j:Nat)=>[(0,(qz x.p xs.length x.c)),(1,(qz y.p ys.length y.c)),(2,(Value.func (.func 69) #[] #[])),(14,(vN xs.length)),(15,(vN j))]) (tg λ(j:Nat)=>[AN x.p (rowsL BU xs),AN y.p (rowsL BU ys)]) (tg λ(j:Nat)=>xs.length-j) 0 (⟨xJ _,λk h=>absurd h (Nat.not_lt_zero _)⟩) (sF O) sr (λj hJ=>?_)
  obtain ⟨hj,he⟩:=hJ
  refine q4 (AD (Ab (c:=(decide (j<xs.length))) O O (DA (a:=j) (b:=xs.length))) O (oNl' (q1 ?_)))
  refine zK O (λhc1=>?_) (λhc1=>?_)
  ·replace hc1:=xT hc1
   refine zC (q1 (zI (q4 (AL O (asg' O (q6 (sL [0,1,2,14,15,7] O) (C8 (El 9++[(9,false),(10,true)]) sr (Bp O (Bp O (Bp O (Al (v:=(pP (pB x.p) (pO x.p+j*3))) O (AO (j:=j) O O x.ok underlying28 sizeOf71 O Z) ?_)))))))))))
   refine Al (v:=(aG (BU (xs.getD j ((0,0,0):Z3))))) O (AM (vs:=BU (xs.getD j ((0,0,0):Z3))) (i:=0) O O (A8.ne x.ok Z) Ec (Ae Ce _ _ _ Z) (Ce _)) (Bp O (Bp O (Al (v:=(pP (pB y.p) (pO y.p+j*3))) O (AO (j:=j) O O y.ok underlying28 sizeOf71 O Z) (Al (v:=(aG (BU (ys.getD j ((0,0,0):Z3))))) O (AM (vs:=BU (ys.getD j ((0,0,0):Z3))) (i:=1) O O (A8.ne y.ok Z) Ec (Ae Ce _ _ _ Z) (Ce _)) (zN O (ck' call69 (ZI (xs.getD j ((0,0,0):Z3)) (ys.getD j ((0,0,0):Z3))) O (zD sr (Al O (BE (c:=(!(decide (xs.getD j ((0,0,0):Z3)=ys.getD j ((0,0,0):Z3))))) O O) (zQ (zB (sL [0,1,2,14,15,28] O) (zA ?_)))))))))))
   refine zK O (λhc2=>?_) (λhc2=>?_)
   ·simp only [jK] at hc2
    have hne:¬xs=ys:=OC (d:=((0,0,0):Z3)) (i:=j) (by grind)
    exact q4 (asg' O (oNl' (zA (zG (zR (zJ (z7 (zR (zJ (ret_one O (rd_tmp (v:=(qa false)) O) (λw hw=>⟨by rw [xH hne],hw.out⟩)))))))))))
   ·simp only [jK] at hc2
    have hej:xs.getD j ((0,0,0):Z3)=ys.getD j ((0,0,0):Z3):=by grind
    exact zC (zF (zA (zH (AD (AS (c:=((j+1:Nat):Int)) O O (AV (a:=j) (b:=1) Z)) O (AL O (oNl' (zB (sL [0,1,2,14,15] O) (zm (j+1) (⟨Z,λk hk=>by rcases Nat.lt_or_ge k j with q|q;exact he k q;rw [show k=j by omega];exact hej⟩) Z (sF O) sr))))))))
  ·replace hc1:=xS hc1
   have heq:xs=ys:=K3 (d:=((0,0,0):Z3)) hll λk hk=>he k Z
   exact zU (zO (zY (zP (q2 (asg' O (oNl' (zA (zG (ret_one O (rd_tmp (v:=(qa true)) O) (λw hw=>⟨by rw [xI heq],hw.out⟩))))))))))
theorem ZH (p q:Z3) (w:World)  :Calls prog 71 #[(aG (BU p)),(aG (BU q))] w (Ac w (qa (decide (p=q)))):=by
 refine AW (args:=[(aG (BU p)),(aG (BU q))]) func71 O O (A_ O) (zM (sL [0,1] O) (q4 (BV (cs:=BU p) O λb1=>BV (cs:=BU q) O λb2=>asg' O (q3 (sL [2,3,4] O) (Ak 1 Qy O (Ak 0 Qy O (AD (Bu (c:=decide (p=q)) O O eqGuardType80 (Z8 9998 p q)) O (asg' O (oNl' ?_)))))))))
 exact zB (sL [4] O) (zA (zG (ret_one O (rd_tmp (v:=(qa (decide (p=q)))) O) (λw hw=>⟨rfl,hw.out⟩))))
theorem Td (xs ys:List Z3) (x:RX (rowsL BU xs) xs.length) (y:RX (rowsL BU ys) ys.length) (hl:xs.length<=1000000) (w:World) {S:Nat->Prop} (hx:Ro S w x) (hy:Ro S w y):Calls prog 70 #[(qz x.p xs.length x.c),(qz y.p ys.length y.c),(Value.func (.func 71) #[] #[])] w (Ac w (qa (decide (xs=ys)))):=by
 have lx:=DT (W:=w) hx
 have ly:=DT (W:=w) hy
 refine Ag (args:=[(qz x.p xs.length x.c),(qz y.p ys.length y.c),(Value.func (.func 71) #[] #[])]) (L:=[AN x.p (rowsL BU xs),AN y.p (rowsL BU ys)]) func70 O O (A_ O) (DU hx (DU hy Az)) (zM (sL [0,1,2] O) (q4 (asg' O (oNl' (q1 (q4 (AL O (AD (v:=(vN xs.length)) (AE O underlying29) O (AL O (AD (v:=(vN ys.length)) (AE O underlying29) O (AD (Bv (c:=(decide (xs.length≠ys.length))) O O (bQ (a:=xs.length) (b:=ys.length))) O ?_)))))))))))
 refine oNl' (zB (sL [0,1,2,6,12] O) (zA ?_))
 refine zK O (λhc0=>?_) (λhc0=>?_)
 ·replace hc0:=xT hc0
  have hne:¬xs=ys:=λh=>by grind
  exact q4 (asg' O (oNl' (zA (zG (zJ (ret_one O (rd_tmp (v:=(qa false)) O) (λw hw=>⟨by rw [xH hne],hw.out⟩)))))))
 ·replace hc0:=xS hc0
  have hll:xs.length=ys.length:=by grind
  refine zC (q1 (q4 (AL O (AD (v:=(vN xs.length)) (AE O underlying29) O (AL O (oNl' (zB (sL [0,1,2,6,14,15] O) (zA (zI ?_)))))))))
  refine zy (tg λ(j:Nat)=>j<=xs.length/\∀k,k<j->xs.getD k ((0,0,0):Z3)=ys.getD k ((0,0,0):Z3)) (tg λ(j:Nat)=>[(0,(qz x.p xs.length x.c)),(1,(qz y.p ys.length y.c)),(2,(Value.func (.func 71) #[] #[])),(14,(vN xs.length)),(15,(vN j))]) (tg λ(j:Nat)=>[AN x.p (rowsL BU xs),AN y.p (rowsL BU ys)]) (tg λ(j:Nat)=>xs.length-j) 0 (⟨xJ _,λk h=>absurd h (Nat.not_lt_zero _)⟩) (sF O) sr (λj hJ=>?_)
  obtain ⟨hj,he⟩:=hJ
  refine q4 (AD (Ab (c:=(decide (j<xs.length))) O O (DA (a:=j) (b:=xs.length))) O (oNl' (q1 ?_)))
  refine zK O (λhc1=>?_) (λhc1=>?_)
  ·replace hc1:=xT hc1
   refine zC (q1 (zI (q4 (AL O (asg' O (q6 (sL [0,1,2,14,15,7] O) (C8 (El 9++[(9,false),(10,true)]) sr (Bp O (Bp O (Bp O (Al (v:=(pP (pB x.p) (pO x.p+j*3))) O (AO (j:=j) O O x.ok underlying29 sizeOf80 O Z) ?_)))))))))))
   refine Al (v:=(aG (BU (xs.getD j ((0,0,0):Z3))))) O (AM (vs:=BU (xs.getD j ((0,0,0):Z3))) (i:=0) O O (A8.ne x.ok Z) Qy (Ae Ce _ _ _ Z) (Ce _)) (Bp O (Bp O (Al (v:=(pP (pB y.p) (pO y.p+j*3))) O (AO (j:=j) O O y.ok underlying29 sizeOf80 O Z) (Al (v:=(aG (BU (ys.getD j ((0,0,0):Z3))))) O (AM (vs:=BU (ys.getD j ((0,0,0):Z3))) (i:=1) O O (A8.ne y.ok Z) Qy (Ae Ce _ _ _ Z) (Ce _)) (zN O (ck' call71 (ZH (xs.getD j ((0,0,0):Z3)) (ys.getD j ((0,0,0):Z3))) O (zD sr (Al O (BE (c:=(!(decide (xs.getD j ((0,0,0):Z3)=ys.getD j ((0,0,0):Z3))))) O O) (zQ (zB (sL [0,1,2,14,15,28] O) (zA ?_)))))))))))
   refine zK O (λhc2=>?_) (λhc2=>?_)
   ·simp only [jK] at hc2
    have hne:¬xs=ys:=OC (d:=((0,0,0):Z3)) (i:=j) (by grind)
    exact q4 (asg' O (oNl' (zA (zG (zR (zJ (z7 (zR (zJ (ret_one O (rd_tmp (v:=(qa false)) O) (λw hw=>⟨by rw [xH hne],hw.out⟩)))))))))))
   ·simp only [jK] at hc2
    have hej:xs.getD j ((0,0,0):Z3)=ys.getD j ((0,0,0):Z3):=by grind
    exact zC (zF (zA (zH (AD (AS (c:=((j+1:Nat):Int)) O O (AV (a:=j) (b:=1) Z)) O (AL O (oNl' (zB (sL [0,1,2,14,15] O) (zm (j+1) (⟨Z,λk hk=>by rcases Nat.lt_or_ge k j with q|q;exact he k q;rw [show k=j by omega];exact hej⟩) Z (sF O) sr))))))))
  ·replace hc1:=xS hc1
   have heq:xs=ys:=K3 (d:=((0,0,0):Z3)) hll λk hk=>he k Z
   exact zU (zO (zY (zP (q2 (asg' O (oNl' (zA (zG (ret_one O (rd_tmp (v:=(qa true)) O) (λw hw=>⟨by rw [xI heq],hw.out⟩))))))))))
theorem UD {ps qs:List Pt} {ts ss us vs:List Z3} (x:MZ ps ts ss) (y:MZ qs us vs) (hp:ps.length<=1000000) (ht:ts.length<=1000000) (hs:ss.length<=1000000) (w:World) {S:Nat->Prop} (hx:Ro S w x) (hy:Ro S w y):Calls prog 24 #[(aG (PJ x)),(aG (PJ y))] w (Ac w (qa (decide (ps=qs/\ts=us/\ss=vs)))):=by
 have lx:=DT (W:=w) hx
 have ly:=DT (W:=w) hy
 refine Ag (args:=[(aG (PJ x)),(aG (PJ y))]) (L:=[AN x.a.p (rowsL Aa ps),AN x.b.p (rowsL BU ts),AN x.c.p (rowsL BU ss),AN y.a.p (rowsL Aa qs),AN y.b.p (rowsL BU us),AN y.c.p (rowsL BU vs)]) func24 O O (A_ O) (DU hx (DU hy Az)) (zM (sL [0,1] O) (q4 (BV (cs:=PJ x) O λb1=>BV (cs:=PJ y) O λb2=>asg' O (q3 (sL [2,3,4] O) (AD (v:=(pP b1 0)) (AA O underlying34 O sizeOf32 O) O (BG 1 (qz x.a.p ps.length x.a.c) C2 O (AD (v:=(pP b2 0)) (AA O underlying34 O sizeOf32 O) O (BG 0 (qz y.a.p qs.length y.a.c) C2 O (C3 call66 (λw hw=>Tc ps qs x.a y.a Z w (ae (CL hw 2 O lx)) (ae (CL hw 5 O ly))) O ?_)))))))))
 refine AL O ?_
 refine zi (FM:=[(2,(pP b1 0)),(3,(pP b2 0)),(4,(qa false)),(5,(pP b1 0)),(6,(qz x.a.p ps.length x.a.c)),(7,(pP b2 0)),(8,(qz y.a.p qs.length y.a.c)),(9,(qa (decide (ps=qs)))),(10,(qa (decide (ps=qs)))),(16,(qa ((decide (ps=qs))&&(decide (ts=us)))))]) (LM:=[AY b2 34 (PJ y),AY b1 34 (PJ x),AN x.a.p (rowsL Aa ps),AN x.b.p (rowsL BU ts),AN x.c.p (rowsL BU ss),AN y.a.p (rowsL Aa qs),AN y.b.p (rowsL BU us),AN y.c.p (rowsL BU vs)]) 6 ?_ ?_
 ·rcases xQ (decide (ps=qs)) with hg1|hg1
  ·refine zL (k:=10) (u:=qa true) O (by rw [hg1]) ?_
   have hg1':=xT hg1
   exact BI (v:=(pP b1 1)) O (AA O underlying34 O sizeOf28 O) (BI (v:=(qz x.b.p ts.length x.b.c)) O (AH (i:=1) (v:=(qz x.b.p ts.length x.b.c)) O O C5.a O) (BI (v:=(pP b2 1)) O (AA O underlying34 O sizeOf28 O) (BI (v:=(qz y.b.p us.length y.b.c)) O (AH (i:=0) (v:=(qz y.b.p us.length y.b.c)) O O C5.a O) (zg (v:=(qa (decide (ts=us)))) (AU O) (Am (args:=[(qz x.b.p ts.length x.b.c),(qz y.b.p us.length y.b.c),(Value.func (.func 69) #[] #[])]) O O call68) (λw hw=>Te ts us x.b y.b Z w (ag (CL hw 2 O lx)) (ag (CL hw 5 O ly))) O (A_ O) (AD (v:=(qa (decide (ts=us)))) (AX O O) O (oNl' (zT Cd (xR _))))))))
  ·refine zL (k:=10) (u:=qa false) O (by rw [hg1]) ?_
   have hg1':=xS hg1
   exact BT O (BT O (BT O (BT O (BT O (AD (v:=(qa false)) (AP O O) O (oNl' (zT Cd (xR _))))))))
 refine AL O ?_
 refine zi (FM:=[(2,(pP b1 0)),(3,(pP b2 0)),(4,(qa false)),(5,(pP b1 0)),(6,(qz x.a.p ps.length x.a.c)),(7,(pP b2 0)),(8,(qz y.a.p qs.length y.a.c)),(9,(qa (decide (ps=qs)))),(10,(qa (decide (ps=qs)))),(16,(qa ((decide (ps=qs))&&(decide (ts=us))))),(17,(qa ((decide (ps=qs))&&(decide (ts=us))))),(23,(qa (((decide (ps=qs))&&(decide (ts=us)))&&(decide (ss=vs)))))]) (LM:=[AY b2 34 (PJ y),AY b1 34 (PJ x),AN x.a.p (rowsL Aa ps),AN x.b.p (rowsL BU ts),AN x.c.p (rowsL BU ss),AN y.a.p (rowsL Aa qs),AN y.b.p (rowsL BU us),AN y.c.p (rowsL BU vs)]) 6 ?_ ?_
 ·rcases xQ ((decide (ps=qs))&&(decide (ts=us))) with hg2|hg2
  ·refine zL (k:=17) (u:=qa true) O (by rw [hg2]) ?_
   have hg2':=hg2
   simp only [jK] at hg2'
   exact BI (v:=(pP b1 2)) O (AA O underlying34 O sizeOf29 O) (BI (v:=(qz x.c.p ss.length x.c.c)) O (AH (i:=1) (v:=(qz x.c.p ss.length x.c.c)) O O Qz.a O) (BI (v:=(pP b2 2)) O (AA O underlying34 O sizeOf29 O) (BI (v:=(qz y.c.p vs.length y.c.c)) O (AH (i:=0) (v:=(qz y.c.p vs.length y.c.c)) O O Qz.a O) (zg (v:=(qa (decide (ss=vs)))) (AU O) (Am (args:=[(qz x.c.p ss.length x.c.c),(qz y.c.p vs.length y.c.c),(Value.func (.func 71) #[] #[])]) O O call70) (λw hw=>Td ss vs x.c y.c Z w (ah (CL hw 2 O lx)) (ah (CL hw 5 O ly))) O (A_ O) (AD (v:=(qa (decide (ss=vs)))) (AX O O) O (oNl' (zT It (xR _))))))))
  ·refine zL (k:=17) (u:=qa false) O (by rw [hg2]) ?_
   have hg2':=hg2
   simp only [jK] at hg2'
   exact BT O (BT O (BT O (BT O (BT O (AD (v:=(qa false)) (AP O O) O (oNl' (zT It (xR _))))))))
 exact asg' O (oNl' (zB (sL [4] O) (zA (zG (ret_one O (rd_tmp (v:=(qa (((decide (ps=qs))&&(decide (ts=us)))&&(decide (ss=vs))))) O) (λw hw=>⟨by congr 2;grind,hw.out⟩))))))
end
section
set_option maxRecDepth 100000
end
section
set_option maxRecDepth 100000
theorem JF (p:Int) (n:Nat) (w:World)  :Calls prog 117 #[(vI p),(vN n)] w (Ac w (qa (Bx n p))):=by
 refine AW (args:=[(vI p),(vN n)]) func117 O O (A_ O) (zM (sL [0,1] O) (q4 (asg' O (oNl' (q2 (AL O (AD (D1 (c:=(decide ((0:Int)<=p))) O O O) O (AL O ?_))))))))
 refine zi (FM:=[(0,(vI p)),(1,(vN n)),(4,(qa false)),(5,(vI p)),(6,(qa (decide ((0:Int)<=p)))),(7,(qa (decide ((0:Int)<=p)))),(11,(qa ((decide ((0:Int)<=p))&&(decide (p<((n:Nat):Int))))))]) (LM:=[]) 4 ?_ ?_
 ·rcases xQ (decide ((0:Int)<=p)) with hg1|hg1
  ·refine zL (k:=7) (u:=qa true) O (by rw [hg1]) ?_
   have hg1':=xT hg1
   exact Gq O (Gq O (BI (v:=(qa (decide (p<((n:Nat):Int))))) O (Ab (c:=(decide (p<((n:Nat):Int)))) O O O) (AD (v:=(qa (decide (p<((n:Nat):Int))))) (AX O O) O (oNl' (zT Cd (xR _))))))
  ·refine zL (k:=7) (u:=qa false) O (by rw [hg1]) ?_
   have hg1':=xS hg1
   exact BT O (BT O (BT O (AD (v:=(qa false)) (AP O O) O (oNl' (zT Cd (xR _))))))
 exact asg' O (oNl' (zB (sL [4] O) (zA (zG (ret_one O (rd_tmp (v:=(qa ((decide ((0:Int)<=p))&&(decide (p<((n:Nat):Int)))))) O) (λw hw=>⟨by unfold Bx;first|rfl|simp,hw.out⟩))))))
theorem S3 (t:Z3) (n:Nat) (bo:BX [vN n]) (w:World) {S:Nat->Prop} (hbo:Ro S w bo):Calls prog 166 #[(aG (BU t)),(pP bo.b 0)] w (Ac w (qa (!XH n t))):=by
 have lbo:=DT (W:=w) hbo
 refine Ag (args:=[(aG (BU t)),(pP bo.b 0)]) (L:=[AN (some ⟨bo.b,0,none⟩) ([(vN n)])]) func166 O O (A_ O) (DU hbo Az) (zM (sL [0,1] O) (q4 (BV (cs:=BU t) O λb1=>asg' O (q3 (sL [1,2,3] O) (AD (v:=(pP b1 0)) (AB (j:=0) O O underlying71 sizeOf3 O jY O) O (BG 0 (vI t.1) Bk O (AD (BA (q:=some ⟨bo.b,0,none⟩) (v:=(vN n)) (off:=0) (i:=1) O O (λe=>by cases e) Bk O) O (ck' call117 (JF t.1 n) O (AD (BE (c:=(!(Bx n t.1))) O O) O (AL O ?_))))))))))
 refine zi (FM:=[(1,(pP bo.b 0)),(2,(pP b1 0)),(3,(qa false)),(4,(pP b1 0)),(5,(vI t.1)),(6,(vN n)),(7,(qa (Bx n t.1))),(8,(qa (!(Bx n t.1)))),(9,(qa (!(Bx n t.1)))),(15,(qa ((!(Bx n t.1))||(!(Bx n t.2.1)))))]) (LM:=[AY b1 71 (BU t),AN (some ⟨bo.b,0,none⟩) ([(vN n)])]) 6 ?_ ?_
 ·rcases xQ (!(Bx n t.1)) with hg1|hg1
  ·refine zL (k:=9) (u:=qa true) O (by rw [hg1]) ?_
   have hg1':=hg1
   simp only [jK] at hg1'
   exact BT O (BT O (BT O (BT O (BT O (AD (v:=(qa true)) (AX O O) O (oNl' (zT Cd (xR _))))))))
  ·refine zL (k:=9) (u:=qa false) O (by rw [hg1]) ?_
   have hg1':=hg1
   simp only [jK] at hg1'
   exact BI (v:=(pP b1 1)) O (AB (j:=1) O O underlying71 sizeOf3 O jY O) (BI (v:=(vI t.2.1)) O (AH (i:=0) (v:=(vI t.2.1)) O O Bk.a O) (BI (v:=(vN n)) O (BA (q:=some ⟨bo.b,0,none⟩) (v:=(vN n)) (off:=0) (i:=1) O O (λe=>by cases e) Bk O) (zg (v:=(qa (Bx n t.2.1))) (AU O) (Am (args:=[(vI t.2.1),(vN n)]) O O call117) (λw hw=>JF t.2.1 n w) O (A_ O) (BI (v:=(qa (!(Bx n t.2.1)))) O (BE (c:=(!(Bx n t.2.1))) O O) (AD (v:=(qa (!(Bx n t.2.1)))) (AP O O) O (oNl' (zT Cd (xR _))))))))
 refine AL O ?_
 refine zi (FM:=[(1,(pP bo.b 0)),(2,(pP b1 0)),(3,(qa false)),(4,(pP b1 0)),(5,(vI t.1)),(6,(vN n)),(7,(qa (Bx n t.1))),(8,(qa (!(Bx n t.1)))),(9,(qa (!(Bx n t.1)))),(15,(qa ((!(Bx n t.1))||(!(Bx n t.2.1))))),(16,(qa ((!(Bx n t.1))||(!(Bx n t.2.1))))),(22,(qa (((!(Bx n t.1))||(!(Bx n t.2.1)))||(!(Bx n t.2.2)))))]) (LM:=[AY b1 71 (BU t),AN (some ⟨bo.b,0,none⟩) ([(vN n)])]) 6 ?_ ?_
 ·rcases xQ ((!(Bx n t.1))||(!(Bx n t.2.1))) with hg2|hg2
  ·refine zL (k:=16) (u:=qa true) O (by rw [hg2]) ?_
   have hg2':=hg2
   simp only [jK] at hg2'
   exact BT O (BT O (BT O (BT O (BT O (AD (v:=(qa true)) (AX O O) O (oNl' (zT It (xR _))))))))
  ·refine zL (k:=16) (u:=qa false) O (by rw [hg2]) ?_
   have hg2':=hg2
   simp only [jK] at hg2'
   exact BI (v:=(pP b1 2)) O (AB (j:=2) O O underlying71 sizeOf3 O jY O) (BI (v:=(vI t.2.2)) O (AH (i:=0) (v:=(vI t.2.2)) O O Bk.a O) (BI (v:=(vN n)) O (BA (q:=some ⟨bo.b,0,none⟩) (v:=(vN n)) (off:=0) (i:=1) O O (λe=>by cases e) Bk O) (zg (v:=(qa (Bx n t.2.2))) (AU O) (Am (args:=[(vI t.2.2),(vN n)]) O O call117) (λw hw=>JF t.2.2 n w) O (A_ O) (BI (v:=(qa (!(Bx n t.2.2)))) O (BE (c:=(!(Bx n t.2.2))) O O) (AD (v:=(qa (!(Bx n t.2.2)))) (AP O O) O (oNl' (zT It (xR _))))))))
 refine AL O ?_
 refine zi (FM:=[(1,(pP bo.b 0)),(2,(pP b1 0)),(3,(qa false)),(4,(pP b1 0)),(5,(vI t.1)),(6,(vN n)),(7,(qa (Bx n t.1))),(8,(qa (!(Bx n t.1)))),(9,(qa (!(Bx n t.1)))),(15,(qa ((!(Bx n t.1))||(!(Bx n t.2.1))))),(16,(qa ((!(Bx n t.1))||(!(Bx n t.2.1))))),(22,(qa (((!(Bx n t.1))||(!(Bx n t.2.1)))||(!(Bx n t.2.2))))),(23,(qa (((!(Bx n t.1))||(!(Bx n t.2.1)))||(!(Bx n t.2.2))))),(29,(qa ((((!(Bx n t.1))||(!(Bx n t.2.1)))||(!(Bx n t.2.2)))||(decide (t.1=t.2.1)))))]) (LM:=[AY b1 71 (BU t),AN (some ⟨bo.b,0,none⟩) ([(vN n)])]) 6 ?_ ?_
 ·rcases xQ (((!(Bx n t.1))||(!(Bx n t.2.1)))||(!(Bx n t.2.2))) with hg3|hg3
  ·refine zL (k:=23) (u:=qa true) O (by rw [hg3]) ?_
   have hg3':=hg3
   simp only [jK] at hg3'
   exact BT O (BT O (BT O (BT O (BT O (AD (v:=(qa true)) (AX O O) O (oNl' (zT TZ (xR _))))))))
  ·refine zL (k:=23) (u:=qa false) O (by rw [hg3]) ?_
   have hg3':=hg3
   simp only [jK] at hg3'
   exact BI (v:=(pP b1 0)) O (AB (j:=0) O O underlying71 sizeOf3 O jY O) (BI (v:=(vI t.1)) O (AH (i:=0) (v:=(vI t.1)) O O Bk.a O) (BI (v:=(pP b1 1)) O (AB (j:=1) O O underlying71 sizeOf3 O jY O) (BI (v:=(vI t.2.1)) O (AH (i:=0) (v:=(vI t.2.1)) O O Bk.a O) (BI (v:=(qa (decide (t.1=t.2.1)))) O (BM (c:=(decide (t.1=t.2.1))) O O O) (AD (v:=(qa (decide (t.1=t.2.1)))) (AP O O) O (oNl' (zT TZ (xR _))))))))
 refine AL O ?_
 refine zi (FM:=[(1,(pP bo.b 0)),(2,(pP b1 0)),(3,(qa false)),(4,(pP b1 0)),(5,(vI t.1)),(6,(vN n)),(7,(qa (Bx n t.1))),(8,(qa (!(Bx n t.1)))),(9,(qa (!(Bx n t.1)))),(15,(qa ((!(Bx n t.1))||(!(Bx n t.2.1))))),(16,(qa ((!(Bx n t.1))||(!(Bx n t.2.1))))),(22,(qa (((!(Bx n t.1))||(!(Bx n t.2.1)))||(!(Bx n t.2.2))))),(23,(qa (((!(Bx n t.1))||(!(Bx n t.2.1)))||(!(Bx n t.2.2))))),(29,(qa ((((!(Bx n t.1))||(!(Bx n t.2.1)))||(!(Bx n t.2.2)))||(decide (t.1=t.2.1))))),(30,(qa ((((!(Bx n t.1))||(!(Bx n t.2.1)))||(!(Bx n t.2.2)))||(decide (t.1=t.2.1))))),(36,(qa (((((!(Bx n t.1))||(!(Bx n t.2.1)))||(!(Bx n t.2.2)))||(decide (t.1=t.2.1)))||(decide (t.2.1=t.2.2)))))]) (LM:=[AY b1 71 (BU t),AN (some ⟨bo.b,0,none⟩) ([(vN n)])]) 6 ?_ ?_
 ·rcases xQ ((((!(Bx n t.1))||(!(Bx n t.2.1)))||(!(Bx n t.2.2)))||(decide (t.1=t.2.1))) with hg4|hg4
  ·refine zL (k:=30) (u:=qa true) O (by rw [hg4]) ?_
   have hg4':=hg4
   simp only [jK] at hg4'
   exact BT O (BT O (BT O (BT O (BT O (AD (v:=(qa true)) (AX O O) O (oNl' (zT Ta (xR _))))))))
  ·refine zL (k:=30) (u:=qa false) O (by rw [hg4]) ?_
   have hg4':=hg4
   simp only [jK] at hg4'
   exact BI (v:=(pP b1 1)) O (AB (j:=1) O O underlying71 sizeOf3 O jY O) (BI (v:=(vI t.2.1)) O (AH (i:=0) (v:=(vI t.2.1)) O O Bk.a O) (BI (v:=(pP b1 2)) O (AB (j:=2) O O underlying71 sizeOf3 O jY O) (BI (v:=(vI t.2.2)) O (AH (i:=0) (v:=(vI t.2.2)) O O Bk.a O) (BI (v:=(qa (decide (t.2.1=t.2.2)))) O (BM (c:=(decide (t.2.1=t.2.2))) O O O) (AD (v:=(qa (decide (t.2.1=t.2.2)))) (AP O O) O (oNl' (zT Ta (xR _))))))))
 refine AL O ?_
 refine zi (FM:=[(1,(pP bo.b 0)),(2,(pP b1 0)),(3,(qa false)),(4,(pP b1 0)),(5,(vI t.1)),(6,(vN n)),(7,(qa (Bx n t.1))),(8,(qa (!(Bx n t.1)))),(9,(qa (!(Bx n t.1)))),(15,(qa ((!(Bx n t.1))||(!(Bx n t.2.1))))),(16,(qa ((!(Bx n t.1))||(!(Bx n t.2.1))))),(22,(qa (((!(Bx n t.1))||(!(Bx n t.2.1)))||(!(Bx n t.2.2))))),(23,(qa (((!(Bx n t.1))||(!(Bx n t.2.1)))||(!(Bx n t.2.2))))),(29,(qa ((((!(Bx n t.1))||(!(Bx n t.2.1)))||(!(Bx n t.2.2)))||(decide (t.1=t.2.1))))),(30,(qa ((((!(Bx n t.1))||(!(Bx n t.2.1)))||(!(Bx n t.2.2)))||(decide (t.1=t.2.1))))),(36,(qa (((((!(Bx n t.1))||(!(Bx n t.2.1)))||(!(Bx n t.2.2)))||(decide (t.1=t.2.1)))||(decide (t.2.1=t.2.2))))),(37,(qa (((((!(Bx n t.1))||(!(Bx n t.2.1)))||(!(Bx n t.2.2)))||(decide (t.1=t.2.1)))||(decide (t.2.1=t.2.2))))),(43,(qa ((((((!(Bx n t.1))||(!(Bx n t.2.1)))||(!(Bx n t.2.2)))||(decide (t.1=t.2.1)))||(decide (t.2.1=t.2.2)))||(decide (t.2.2=t.1)))))]) (LM:=[AY b1 71 (BU t),AN (some ⟨bo.b,0,none⟩) ([(vN n)])]) 6 ?_ ?_
 ·rcases xQ (((((!(Bx n t.1))||(!(Bx n t.2.1)))||(!(Bx n t.2.2)))||(decide (t.1=t.2.1)))||(decide (t.2.1=t.2.2))) with hg5|hg5
  ·refine zL (k:=37) (u:=qa true) O (by rw [hg5]) ?_
   have hg5':=hg5
   simp only [jK] at hg5'
   exact BT O (BT O (BT O (BT O (BT O (AD (v:=(qa true)) (AX O O) O (oNl' (zT Tb (xR _))))))))
  ·refine zL (k:=37) (u:=qa false) O (by rw [hg5]) ?_
   have hg5':=hg5
   simp only [jK] at hg5'
   exact BI (v:=(pP b1 2)) O (AB (j:=2) O O underlying71 sizeOf3 O jY O) (BI (v:=(vI t.2.2)) O (AH (i:=0) (v:=(vI t.2.2)) O O Bk.a O) (BI (v:=(pP b1 0)) O (AB (j:=0) O O underlying71 sizeOf3 O jY O) (BI (v:=(vI t.1)) O (AH (i:=0) (v:=(vI t.1)) O O Bk.a O) (BI (v:=(qa (decide (t.2.2=t.1)))) O (BM (c:=(decide (t.2.2=t.1))) O O O) (AD (v:=(qa (decide (t.2.2=t.1)))) (AP O O) O (oNl' (zT Tb (xR _))))))))
 exact asg' O (oNl' (zB (sL [3] O) (zA (zG (ret_one O (rd_tmp (v:=(qa ((((((!(Bx n t.1))||(!(Bx n t.2.1)))||(!(Bx n t.2.2)))||(decide (t.1=t.2.1)))||(decide (t.2.1=t.2.2)))||(decide (t.2.2=t.1))))) O) (λw hw=>⟨by unfold XH;generalize Bx n t.1=q1;generalize Bx n t.2.1=q2;generalize Bx n t.2.2=q3;generalize decide (t.1=t.2.1)=q4;generalize decide (t.2.1=t.2.2)=q5;generalize decide (t.2.2=t.1)=q6;cases q1<;>cases q2<;>cases q3<;>cases q4<;>cases q5<;>cases q6<;>rfl,hw.out⟩))))))
theorem YG (n:Nat) (bo:BX [vN n]) (ts:List Z3) (x:RX (rowsL BU ts) ts.length) (hl:ts.length<4611686018427387904) (w:World) {S:Nat->Prop} (hbo:Ro S w bo) (hx:Ro S w x):Calls prog 210 #[(qz x.p ts.length x.c),(Value.func (.func 166) #[] #[(pP bo.b 0)])] w (Ac w (vI (idxZ n ts 0))):=by
 have lbo:=DT (W:=w) hbo
 have lx:=DT (W:=w) hx
 refine Ag (args:=[(qz x.p ts.length x.c),(Value.func (.func 166) #[] #[(pP bo.b 0)])]) (L:=[AN (some ⟨bo.b,0,none⟩) ([(vN n)]),AN x.p (rowsL BU ts)]) func210 O O (A_ O) (DU hbo (DU hx Az)) (zM (sL [0,1] O) (q4 (asg' O (oNl' (q1 (q4 (AL O (AD (v:=(vN ts.length)) (AE O underlying28) O (AL O (oNl' (zB (sL [0,1,4,7,8] O) ?_)))))))))))
 refine zA (zI ?_)
 refine zy (tg λ(j:Nat)=>j<=ts.length/\idxZ n ts 0=idxZ n (ts.drop j) j) (tg λ(j:Nat)=>[(0,(qz x.p ts.length x.c)),(1,(Value.func (.func 166) #[] #[(pP bo.b 0)])),(7,(vN ts.length)),(8,(vN j))]) (tg λ(j:Nat)=>[AN (some ⟨bo.b,0,none⟩) ([(vN n)]),AN x.p (rowsL BU ts)]) (tg λ(j:Nat)=>ts.length-j) 0 (⟨xJ _,rfl⟩) (sF O) sr (λj hJ=>?_)
 obtain ⟨hj,he⟩:=hJ
 refine q4 (AD (Ab (c:=(decide (j<ts.length))) O O (DA (a:=j) (b:=ts.length))) O (oNl' (q1 ?_)))
 refine zK O (λhc0=>?_) (λhc0=>?_)
 ·replace hc0:=xT hc0
  refine zC (q1 (zI (q4 (AL O (asg' O (q3 (sL [0,1,7,8,5] O) (AL O (AL O (AL O (AD (v:=(pP (pB x.p) (pO x.p+j*3))) (AO (j:=j) O O x.ok underlying28 sizeOf71 O Z) O (AD (v:=(aG (BU (ts.getD j ((0,0,0):Z3))))) (AM (vs:=BU (ts.getD j ((0,0,0):Z3))) (i:=1) O O (A8.ne x.ok Z) Ec (Ae Ce _ _ _ Z) (Ce _)) O ?_)))))))))))
  refine zg (v:=(qa (!XH n (ts.getD j ((0,0,0):Z3))))) (AI O) (Dn (args:=[(aG (BU (ts.getD j ((0,0,0):Z3))))]) (caps:=[(pP bo.b 0)]) (all:=[(aG (BU (ts.getD j ((0,0,0):Z3)))),(pP bo.b 0)]) O O O call166) (λw hw=>S3 (ts.getD j ((0,0,0):Z3)) n bo w (CL hw 0 O lbo)) O (A_ O) (oNl' (zB (sL [0,1,7,8,5,16] O) (zA ?_)))
  refine zK O (λhc1=>?_) (λhc1=>?_)
  ·simp only [jK] at hc1
   have hfin:=he.trans (VL Z (by simpa using hc1))
   exact q4 (AL O (asg' O (oNl' (zB (sL [0,1,7,8,5,4] O) (zA (zG (zR (zJ (z7 (zR (zJ (ret_one O (rd_tmp (v:=(vN j)) O) (λw hw=>⟨by rw [hfin],hw.out⟩)))))))))))))
  ·simp only [jK] at hc1
   exact zC (zF (zA (zH (AD (AS (c:=((j+1:Nat):Int)) O O (AV (a:=j) (b:=1) Z)) O (AL O (oNl' (zB (sL [0,1,7,8,5] O) (zm (j+1) (⟨Z,he.trans (Sh Z (by simpa using hc1))⟩) Z (sF O) sr))))))))
 ·replace hc0:=xS hc0
  have hfin:=he.trans (VK hc0)
  exact zU (zO (zY (zP (q2 (asg' O (oNl' (zA (zG (ret_one O (rd_tmp (v:=(vI (-1:Int))) O) (λw hw=>⟨by rw [hfin],hw.out⟩))))))))))
theorem Un (n:Nat) (bo:BX [vN n]) (ts:List Z3) (x:RX (rowsL BU ts) ts.length) (hl:ts.length<4611686018427387904) (w:World) {S:Nat->Prop} (hbo:Ro S w bo) (hx:Ro S w x):Calls prog 165 #[(qz x.p ts.length x.c),(Value.func (.func 166) #[] #[(pP bo.b 0)])] w (Ac w (qa (!JA n ts))):=by
 have lbo:=DT (W:=w) hbo
 have lx:=DT (W:=w) hx
 refine Ag (args:=[(qz x.p ts.length x.c),(Value.func (.func 166) #[] #[(pP bo.b 0)])]) (L:=[AN (some ⟨bo.b,0,none⟩) ([(vN n)]),AN x.p (rowsL BU ts)]) func165 O O (A_ O) (DU hbo (DU hx Az)) (zM (sL [0,1] O) (q4 (asg' O (oNl' (q2 (AL O (AL O (C3 call210 (λw hw=>YG n bo ts x hl w (CL hw 0 O lbo) (CL hw 1 O lx)) O (AD (D1 (c:=(!JA n ts)) O O (M7 n ts 0)) O (asg' O (oNl' ?_)))))))))))
 exact zB (sL [4] O) (zA (zG (ret_one O (rd_tmp (v:=(qa (!JA n ts))) O) (λw hw=>⟨rfl,hw.out⟩))))
theorem V0 (n:Nat) (ts:List Z3) (x:RX (rowsL BU ts) ts.length) (hl:ts.length<4611686018427387904) (w:World) {S:Nat->Prop} (hx:Ro S w x):Calls prog 103 #[(qz x.p ts.length x.c),(vN n)] w (Ac w (qa (JA n ts))):=by
 have lx:=DT (W:=w) hx
 refine Ag (args:=[(qz x.p ts.length x.c),(vN n)]) (L:=[AN x.p (rowsL BU ts)]) func103 O O (A_ O) (DU hx Az) (zM (sL [0,1] O) (q4 (BV (cs:=[(vN n)]) O λb1=>yN 0 O O λhnb1=>asg' O (q3 (sL [0,3,4] O) (AL O (AD (v:=(Value.func (.func 166) #[] #[(pP b1 0)])) (Dt (vs:=[]) (us:=[(pP b1 0)]) O O) O (C3 call165 (λw hw=>Un n ⟨b1⟩ ts x hl w (VM (x:=(⟨b1⟩:BX [vN n])) hw 0 O hnb1) (CL hw 1 O lx)) O (AD (BE (c:=(!(!JA n ts))) O O) O (asg' O ?_)))))))))
 exact oNl' (zB (sL [4] O) (zA (zG (ret_one O (rd_tmp (v:=(qa (!(!JA n ts)))) O) (λw hw=>⟨by simp,hw.out⟩)))))
theorem T_ {N K:Nat} {zs:List Z3} (x:RQ N K zs) (hl:zs.length<4611686018427387904) (w:World) {S:Nat->Prop} (hx:Ro S w x):Calls prog 46 #[(aG (cS x))] w (Ac w (qa (JA N zs))):=by
 have lx:=DT (W:=w) hx
 refine Ag (args:=[(aG (cS x))]) (L:=[AN x.a.p (x.cs),AN x.b.p (rowsL BU zs),AN x.c.p (x.ds)]) func46 O O (A_ O) (DU hx Az) (zM (sL [0] O) (q4 (BV (cs:=cS x) O λb1=>asg' O (q3 (sL [1,2] O) (AD (v:=(pP b1 1)) (AA O underlying34 O sizeOf28 O) O (BG 0 (qz x.b.p zs.length x.b.c) C5 O (AD (v:=(pP b1 0)) (AA O underlying34 O sizeOf32 O) O (BG 0 (qz x.a.p N x.a.c) C2 O (AD (v:=(vN N)) (AE O underlying32) O (C3 call103 (λw hw=>V0 N zs x.b hl w (eF (CL hw 1 O lx))) O ?_))))))))))
 exact asg' O (oNl' (zB (sL [2] O) (zA (zG (ret_one O (rd_tmp (v:=(qa (JA N zs))) O) (λw hw=>⟨rfl,hw.out⟩))))))
end
section
set_option maxRecDepth 100000
end
section
set_option maxRecDepth 100000
end
section
section
variable {P:Program} {ops:Array Oper} {rest:List Oper} {Q:Exit->Act->World->Prop} {n:Nat} {F:List (Nat×Value)} {w0:BD} {L:List As} {d:Option Tmp} {op:Op} {t:TypeId} {p:String} {af:Array Edge} {g:Nat×Bool}
end
end
section
set_option maxRecDepth 100000
end
section
set_option maxRecDepth 100000
end
section
set_option maxRecDepth 100000
end
section
set_option maxRecDepth 100000
end
end Go.Proofs.YtbfdamnfcmefmaaGreatDoor
