import Derived.Test.YtcpkbjjmcleplaaGreatDoorPart36
namespace Go.Proofs.YtcpkbjjmcleplaaGreatDoor
open Go Go.RowKit Go.Proofs.Tryz
open Go.Value renaming slice→qz,bool→qa
set_option linter.unusedVariables false
set_option linter.unusedSimpArgs false
section
set_option maxRecDepth 100000
def CW (a b:Pt):Bool:=decide (a.x=b.x)&&decide (a.y=b.y)
def Dw (a b p:Pt):Bool:=decide ((AF a b p).num.sign=0)&&decide ((C8 (a-p) (b-p)).num.sign<=0)
theorem FF {x y:Pt} (a:PX x) (b:PX y) (hs:BO x+BO y<=2097152) (w:World) {S:Nat->Prop} (ha:Ro S w a) (hb:Ro S w b)  :Calls prog 54 #[(aG (Ae a)),(aG (Ae b))] w (Ac w (qa (CW x y))):=by
 have sxx:=Cr x
 have sxy:=Ct x
 have syx:=Cr y
 have syy:=Ct y
 have la:=Bx (W:=w) ha
 have lb:=Bx (W:=w) hb
 refine AZ (args:=[(aG (Ae a)),(aG (Ae b))]) (L:=[AM a.x.z.n,AM a.x.m,AM a.y.z.n,AM a.y.m,AM b.x.z.n,AM b.x.m,AM b.y.z.n,AM b.y.m]) func54 O O (leB O) (Fc ha (Fc hb Ao)) (zI (sL [0,1] O) (q4 (BH (cs:=Ae a) O λb1=>BH (cs:=Ae b) O λb2=>asg' O (q3 (sL [2,3,4] O) (st' (v:=(pP b1 0)) (AA O underlying86 O sizeOf84 O) O (By 1 (fxL a.x) Br O (st' (v:=(pP b2 0)) (AA O underlying86 O sizeOf84 O) O (By 0 (fxL b.x) Br O (CQ call97 (λw hw=>QO a.x b.x Z w (TM (inS hw 2 O la)) (TM (inS hw 6 O lb))) O ?_)))))))))
 refine AK O ?_
 refine zg (FM:=[(2,(pP b1 0)),(3,(pP b2 0)),(4,(qa false)),(5,(pP b1 0)),(6,(aG (fxL a.x))),(7,(pP b2 0)),(8,(aG (fxL b.x))),(9,(qa (decide (x.x=y.x)))),(10,(qa (decide (x.x=y.x)))),(16,(qa ((decide (x.x=y.x))&&(decide (x.y=y.y)))))]) (LM:=[AO b2 86 (Ae b),AO b1 86 (Ae a),AM a.x.z.n,AM a.x.m,AM a.y.z.n,AM a.y.m,AM b.x.z.n,AM b.x.m,AM b.y.z.n,AM b.y.m]) 6 ?_ ?_
 ·rcases xO (decide (x.x=y.x)) with hg1|hg1
  ·refine zN (k:=10) (u:=qa true) O (by rw [hg1]) ?_
   have hg1':=xR hg1
   exact BV (v:=(pP b1 3)) O (AA O underlying86 O sizeOf84 O) (BV (v:=(aG (fxL a.y))) O (AY (i:=1) (vs:=fxL a.y) O O Br.a Br.s O O) (BV (v:=(pP b2 3)) O (AA O underlying86 O sizeOf84 O) (BV (v:=(aG (fxL b.y))) O (AY (i:=0) (vs:=fxL b.y) O O Br.a Br.s O O) (zd (v:=(qa (decide (x.y=y.y)))) (AE O) (Ag (args:=[(aG (fxL a.y)),(aG (fxL b.y))]) O O call97) (λw hw=>QO a.y b.y Z w (TN (inS hw 2 O la)) (TN (inS hw 6 O lb))) O (leB O) (st' (v:=(qa (decide (x.y=y.y)))) (ex_pick_true O O) O (oNl' (zT CT (xP _))))))))
  ·refine zN (k:=10) (u:=qa false) O (by rw [hg1]) ?_
   have hg1':=xQ hg1
   exact BP O (BP O (BP O (BP O (BP O (st' (v:=(qa false)) (AN O O) O (oNl' (zT CT (xP _))))))))
 exact asg' O (oNl' (zB (sL [4] O) (zA (zF (ret_one O (rd_tmp (v:=(qa ((decide (x.x=y.x))&&(decide (x.y=y.y))))) O) (λw hw=>⟨rfl,hw.out⟩))))))
theorem DR {r0:Rat} (x0:FX r0) {r1:Rat} (x1:FX r1):Instr.fill ([(0,3),(3,3)].toArray[·]?) ([(qa false),jj,jj,(qa false),jj,jj]).toArray [(0,.agg (fxL x0).toArray),(1,.agg (fxL x1).toArray)]=some (fxL x0++fxL x1).toArray:=by kernel_rfl
theorem QW {x y:Pt} (a:PX x) (b:PX y) (hs:BO x+BO y<=2097152) (w:World) {S:Nat->Prop} (ha:Ro S w a) (hb:Ro S w b)  :Calls prog 153 #[(aG (Ae a)),(aG (Ae b))] w (Aj (PX (x+y)) S w):=by
 have sxx:=Cr x
 have sxy:=Ct x
 have syx:=Cr y
 have syy:=Ct y
 have la:=Bx (W:=w) ha
 have lb:=Bx (W:=w) hb
 refine AZ (args:=[(aG (Ae a)),(aG (Ae b))]) (L:=[AM a.x.z.n,AM a.x.m,AM a.y.z.n,AM a.y.m,AM b.x.z.n,AM b.x.m,AM b.y.z.n,AM b.y.m]) func153 O O (leB O) (Fc ha (Fc hb Ao)) (zI (sL [0,1] O) (q4 (BH (cs:=Ae a) O λb1=>BH (cs:=Ae b) O λb2=>al Ja O λb3=>q6 (sL [2,3,4] O) (B9 (EV 4++[(5,true),(6,true),(7,true),(8,true),(4,false),(9,false),(10,true),(11,false)]) (sl sr) (Am (v:=(pP b1 0)) O (AA O underlying86 O sizeOf84 O) (Dz 1 (fxL a.x) Br O (Am (v:=(pP b2 0)) O (AA O underlying86 O sizeOf84 O) (Dz 0 (fxL b.x) Br O ?_))))))))
 refine Am (v:=(pP b1 3)) O (AA O underlying86 O sizeOf84 O) (Dz 1 (fxL a.y) Br O (Am (v:=(pP b2 3)) O (AA O underlying86 O sizeOf84 O) (Dz 0 (fxL b.y) Br O (zD O ?_))))
 have hz1:=Ds x.x y.x
 refine cF (S:=S) (x:=(x.x+y.x)) (args:=[(aG (fxL a.x)),(aG (fxL b.x))]) call102 (λw hw=>JP a.x b.x (by (try simp only [BN]);omega) w (TM (inS hw 3 O la)) (TM (inS hw 7 O lb))) O O O λg1 lg1=>zC (sl (sl (sl sr))) (zD O ?_)
 have hz2:=Ds x.y y.y
 exact cF (S:=S) (x:=(x.y+y.y)) (args:=[(aG (fxL a.y)),(aG (fxL b.y))]) call102 (λw hw=>JP a.y b.y (by (try simp only [BN]);omega) w (TN (inS hw 5 O la)) (TN (inS hw 9 O lb))) O O O λg2 lg2=>zC (sl (sl (sl (sl (sl sr))))) (Am (v:=(aG (fxL g1++fxL g2))) O (AS (zs:=[(qa false),jj,jj,(qa false),jj,jj]) (vs:=fxL g1++fxL g2) (pv:=[(0,(aG (fxL g1))),(1,(aG (fxL g2)))]) (places:=[(0,3),(3,3)]) zeroValue86 underlying86 (λw=>by simp [sizeOf84]) O (DR g1 g2)) (zD O (Dt 4 (off:=0) (vs:=fxL g1++fxL g2) (cs':=fxL g1++fxL g2) (AG O) O sizeOf86 O (zC (sl (sl (sl (sl (sl sr))))) (zP (zB (sL [4] O) (zA (zF (ret_one O (Ab (i:=4) (cs:=fxL g1++fxL g2) O O isAgg86 sizeOf86 O) (λw hw=>DU (a:=((PX.mk g1 g2:PX (⟨x.x+y.x,x.y+y.y⟩:Pt)):PX (x+y))) hw (eX (inS hw 2 O lg1) (inS hw 0 O lg2)) O))))))))))
theorem DD {x y:Pt} (a:PX x) (b:PX y) (hs:BO x+BO y<=2097152) (w:World) {S:Nat->Prop} (ha:Ro S w a) (hb:Ro S w b)  :Calls prog 108 #[(aG (Ae a)),(aG (Ae b))] w (Aj (PX (x-y)) S w):=by
 have sxx:=Cr x
 have sxy:=Ct x
 have syx:=Cr y
 have syy:=Ct y
 have la:=Bx (W:=w) ha
 have lb:=Bx (W:=w) hb
 refine AZ (args:=[(aG (Ae a)),(aG (Ae b))]) (L:=[AM a.x.z.n,AM a.x.m,AM a.y.z.n,AM a.y.m,AM b.x.z.n,AM b.x.m,AM b.y.z.n,AM b.y.m]) func108 O O (leB O) (Fc ha (Fc hb Ao)) (zI (sL [0,1] O) (q4 (BH (cs:=Ae a) O λb1=>BH (cs:=Ae b) O λb2=>al Ja O λb3=>q6 (sL [2,3,4] O) (B9 (EV 4++[(5,true),(6,true),(7,true),(8,true),(4,false),(9,false),(10,true),(11,false)]) (sl sr) (Am (v:=(pP b1 0)) O (AA O underlying86 O sizeOf84 O) (Dz 1 (fxL a.x) Br O (Am (v:=(pP b2 0)) O (AA O underlying86 O sizeOf84 O) (Dz 0 (fxL b.x) Br O ?_))))))))
 refine Am (v:=(pP b1 3)) O (AA O underlying86 O sizeOf84 O) (Dz 1 (fxL a.y) Br O (Am (v:=(pP b2 3)) O (AA O underlying86 O sizeOf84 O) (Dz 0 (fxL b.y) Br O (zD O ?_))))
 have hz1:=Eq x.x y.x
 refine cF (S:=S) (x:=(x.x-y.x)) (args:=[(aG (fxL a.x)),(aG (fxL b.x))]) call105 (λw hw=>K_ a.x b.x (by (try simp only [BN]);omega) w (TM (inS hw 3 O la)) (TM (inS hw 7 O lb))) O O O λg1 lg1=>zC (sl (sl (sl sr))) (zD O ?_)
 have hz2:=Eq x.y y.y
 exact cF (S:=S) (x:=(x.y-y.y)) (args:=[(aG (fxL a.y)),(aG (fxL b.y))]) call105 (λw hw=>K_ a.y b.y (by (try simp only [BN]);omega) w (TN (inS hw 5 O la)) (TN (inS hw 9 O lb))) O O O λg2 lg2=>zC (sl (sl (sl (sl (sl sr))))) (Am (v:=(aG (fxL g1++fxL g2))) O (AS (zs:=[(qa false),jj,jj,(qa false),jj,jj]) (vs:=fxL g1++fxL g2) (pv:=[(0,(aG (fxL g1))),(1,(aG (fxL g2)))]) (places:=[(0,3),(3,3)]) zeroValue86 underlying86 (λw=>by simp [sizeOf84]) O (DR g1 g2)) (zD O (Dt 4 (off:=0) (vs:=fxL g1++fxL g2) (cs':=fxL g1++fxL g2) (AG O) O sizeOf86 O (zC (sl (sl (sl (sl (sl sr))))) (zP (zB (sL [4] O) (zA (zF (ret_one O (Ab (i:=4) (cs:=fxL g1++fxL g2) O O isAgg86 sizeOf86 O) (λw hw=>DU (a:=((PX.mk g1 g2:PX (⟨x.x-y.x,x.y-y.y⟩:Pt)):PX (x-y))) hw (eX (inS hw 2 O lg1) (inS hw 0 O lg2)) O))))))))))
theorem MV {x:Pt} {q:Rat} (a:PX x) (k:FX q) (hs:BO x+Sz q<=2097152) (w:World) {S:Nat->Prop} (ha:Ro S w a) (hk:Ro S w k)  :Calls prog 154 #[(aG (Ae a)),(aG (fxL k))] w (Aj (PX (Bm x q)) S w):=by
 have sxx:=Cr x
 have sxy:=Ct x
 have la:=Bx (W:=w) ha
 have lk:=Bx (W:=w) hk
 refine AZ (args:=[(aG (Ae a)),(aG (fxL k))]) (L:=[AM a.x.z.n,AM a.x.m,AM a.y.z.n,AM a.y.m,AM k.z.n,AM k.m]) func154 O O (leB O) (Fc ha (M5 hk Ao)) (zI (sL [0,1] O) (q4 (BH (cs:=Ae a) O λb1=>BH (cs:=fxL k) O λb2=>al Ja O λb3=>q6 (sL [2,3,4] O) (B9 [(0,true),(1,true),(2,true),(4,true),(5,true),(6,true),(3,false),(7,false),(8,true),(9,false)] (sl sr) (Am (v:=(pP b1 0)) O (AA O underlying86 O sizeOf84 O) (Dz 1 (fxL a.x) Br O (B3 0 Br O (Am (v:=(pP b1 3)) O (AA O underlying86 O sizeOf84 O) ?_))))))))
 refine Dz 1 (fxL a.y) Br O (B3 0 Br O (zD O ?_))
 have hz1:=Cm x.x q
 refine cF (S:=S) (x:=(x.x*q)) (args:=[(aG (fxL a.x)),(aG (fxL k))]) call155 (λw hw=>HB a.x k (by (try simp only [BN]);omega) w (TM (inS hw 3 O la)) (inS hw 7 O lk)) O O O λg1 lg1=>zC (sl (sl (sl sr))) (zD O ?_)
 have hz2:=Cm x.y q
 exact cF (S:=S) (x:=(x.y*q)) (args:=[(aG (fxL a.y)),(aG (fxL k))]) call155 (λw hw=>HB a.y k (by (try simp only [BN]);omega) w (TN (inS hw 5 O la)) (inS hw 9 O lk)) O O O λg2 lg2=>zC (sl (sl (sl (sl (sl sr))))) (Am (v:=(aG (fxL g1++fxL g2))) O (AS (zs:=[(qa false),jj,jj,(qa false),jj,jj]) (vs:=fxL g1++fxL g2) (pv:=[(0,(aG (fxL g1))),(1,(aG (fxL g2)))]) (places:=[(0,3),(3,3)]) zeroValue86 underlying86 (λw=>by simp [sizeOf84]) O (DR g1 g2)) (zD O (Dt 4 (off:=0) (vs:=fxL g1++fxL g2) (cs':=fxL g1++fxL g2) (AG O) O sizeOf86 O (zC (sl (sl (sl (sl (sl sr))))) (zP (zB (sL [4] O) (zA (zF (ret_one O (Ab (i:=4) (cs:=fxL g1++fxL g2) O O isAgg86 sizeOf86 O) (λw hw=>DU (a:=((PX.mk g1 g2:PX (⟨x.x*q,x.y*q⟩:Pt)):PX (Bm x q))) hw (eX (inS hw 2 O lg1) (inS hw 0 O lg2)) O))))))))))
theorem HF {x y:Pt} (a:PX x) (b:PX y) (hs:BO x+BO y<=2097152) (w:World) {S:Nat->Prop} (ha:Ro S w a) (hb:Ro S w b)  :Calls prog 152 #[(aG (Ae a)),(aG (Ae b))] w (Aj (FX (BI x y)) S w):=by
 have sxx:=Cr x
 have sxy:=Ct x
 have syx:=Cr y
 have syy:=Ct y
 have la:=Bx (W:=w) ha
 have lb:=Bx (W:=w) hb
 refine AZ (args:=[(aG (Ae a)),(aG (Ae b))]) (L:=[AM a.x.z.n,AM a.x.m,AM a.y.z.n,AM a.y.m,AM b.x.z.n,AM b.x.m,AM b.y.z.n,AM b.y.m]) func152 O O (leB O) (Fc ha (Fc hb Ao)) (zI (sL [0,1] O) (q4 (BH (cs:=Ae a) O λb1=>BH (cs:=Ae b) O λb2=>al Hz O λb3=>q6 (sL [2,3,4] O) (B9 (EV 4++[(5,true),(6,true),(7,true),(8,true),(4,false),(9,false),(10,false),(11,false)]) (sl sr) (Am (v:=(pP b1 0)) O (AA O underlying86 O sizeOf84 O) (Dz 1 (fxL a.x) Br O (Am (v:=(pP b2 3)) O (AA O underlying86 O sizeOf84 O) (Dz 0 (fxL b.y) Br O ?_))))))))
 refine Am (v:=(pP b1 3)) O (AA O underlying86 O sizeOf84 O) (Dz 1 (fxL a.y) Br O (Am (v:=(pP b2 0)) O (AA O underlying86 O sizeOf84 O) (Dz 0 (fxL b.x) Br O (zD O ?_))))
 have hz1:=Cm x.x y.y
 refine cF (S:=S) (x:=(x.x*y.y)) (args:=[(aG (fxL a.x)),(aG (fxL b.y))]) call155 (λw hw=>HB a.x b.y (by (try simp only [BN]);omega) w (TM (inS hw 3 O la)) (TN (inS hw 7 O lb))) O O O λg1 lg1=>zC (sl (sl (sl sr))) (zD O ?_)
 have hz2:=Cm x.y y.x
 refine cF (S:=S) (x:=(x.y*y.x)) (args:=[(aG (fxL a.y)),(aG (fxL b.x))]) call155 (λw hw=>HB a.y b.x (by (try simp only [BN]);omega) w (TN (inS hw 5 O la)) (TM (inS hw 9 O lb))) O O O λg2 lg2=>zC (sl (sl (sl (sl (sl sr))))) (zD O ?_)
 have hz3:=Eq (x.x*y.y) (x.y*y.x)
 exact cF (S:=S) (x:=((x.x*y.y)-(x.y*y.x))) (args:=[(aG (fxL g1)),(aG (fxL g2))]) call105 (λw hw=>K_ g1 g2 (by (try simp only [BN]);omega) w (inS hw 2 O lg1) (inS hw 0 O lg2)) O O O λg3 lg3=>zC (sl (sl (sl (sl (sl (sl (sl sr))))))) (zD O (Dt 6 (off:=0) (vs:=fxL g3) (cs':=fxL g3) (AG O) O sizeOf84 O (zC (sl (sl (sl (sl (sl (sl (sl sr))))))) (zP (zB (sL [4] O) (zA (zF (ret_one O (Ab (i:=6) (cs:=fxL g3) O O isAgg84 sizeOf84 O) (λw hw=>DU (a:=(g3:FX (BI x y))) hw (inS hw 0 O lg3) O)))))))))
theorem JU {x y:Pt} (a:PX x) (b:PX y) (hs:BO x+BO y<=2097152) (w:World) {S:Nat->Prop} (ha:Ro S w a) (hb:Ro S w b)  :Calls prog 107 #[(aG (Ae a)),(aG (Ae b))] w (Aj (FX (C8 x y)) S w):=by
 have sxx:=Cr x
 have sxy:=Ct x
 have syx:=Cr y
 have syy:=Ct y
 have la:=Bx (W:=w) ha
 have lb:=Bx (W:=w) hb
 refine AZ (args:=[(aG (Ae a)),(aG (Ae b))]) (L:=[AM a.x.z.n,AM a.x.m,AM a.y.z.n,AM a.y.m,AM b.x.z.n,AM b.x.m,AM b.y.z.n,AM b.y.m]) func107 O O (leB O) (Fc ha (Fc hb Ao)) (zI (sL [0,1] O) (q4 (BH (cs:=Ae a) O λb1=>BH (cs:=Ae b) O λb2=>al Hz O λb3=>q6 (sL [2,3,4] O) (B9 (EV 4++[(5,true),(6,true),(7,true),(8,true),(4,false),(9,false),(10,false),(11,false)]) (sl sr) (Am (v:=(pP b1 0)) O (AA O underlying86 O sizeOf84 O) (Dz 1 (fxL a.x) Br O (Am (v:=(pP b2 0)) O (AA O underlying86 O sizeOf84 O) (Dz 0 (fxL b.x) Br O ?_))))))))
 refine Am (v:=(pP b1 3)) O (AA O underlying86 O sizeOf84 O) (Dz 1 (fxL a.y) Br O (Am (v:=(pP b2 3)) O (AA O underlying86 O sizeOf84 O) (Dz 0 (fxL b.y) Br O (zD O ?_))))
 have hz1:=Cm x.x y.x
 refine cF (S:=S) (x:=(x.x*y.x)) (args:=[(aG (fxL a.x)),(aG (fxL b.x))]) call155 (λw hw=>HB a.x b.x (by (try simp only [BN]);omega) w (TM (inS hw 3 O la)) (TM (inS hw 7 O lb))) O O O λg1 lg1=>zC (sl (sl (sl sr))) (zD O ?_)
 have hz2:=Cm x.y y.y
 refine cF (S:=S) (x:=(x.y*y.y)) (args:=[(aG (fxL a.y)),(aG (fxL b.y))]) call155 (λw hw=>HB a.y b.y (by (try simp only [BN]);omega) w (TN (inS hw 5 O la)) (TN (inS hw 9 O lb))) O O O λg2 lg2=>zC (sl (sl (sl (sl (sl sr))))) (zD O ?_)
 have hz3:=Ds (x.x*y.x) (x.y*y.y)
 exact cF (S:=S) (x:=((x.x*y.x)+(x.y*y.y))) (args:=[(aG (fxL g1)),(aG (fxL g2))]) call102 (λw hw=>JP g1 g2 (by (try simp only [BN]);omega) w (inS hw 2 O lg1) (inS hw 0 O lg2)) O O O λg3 lg3=>zC (sl (sl (sl (sl (sl (sl (sl sr))))))) (zD O (Dt 6 (off:=0) (vs:=fxL g3) (cs':=fxL g3) (AG O) O sizeOf84 O (zC (sl (sl (sl (sl (sl (sl (sl sr))))))) (zP (zB (sL [4] O) (zA (zF (ret_one O (Ab (i:=6) (cs:=fxL g3) O O isAgg84 sizeOf84 O) (λw hw=>DU (a:=(g3:FX (C8 x y))) hw (inS hw 0 O lg3) O)))))))))
theorem KU {x y:Pt} (a:PX x) (b:PX y) (hs:BO x+BO y<=262144) (w:World) {S:Nat->Prop} (ha:Ro S w a) (hb:Ro S w b)  :Calls prog 58 #[(aG (Ae a)),(aG (Ae b))] w (Aj (FX (C8 (x-y) (x-y))) S w):=by
 have la:=Bx (W:=w) ha
 have lb:=Bx (W:=w) hb
 refine AZ (args:=[(aG (Ae a)),(aG (Ae b))]) (L:=[AM a.x.z.n,AM a.x.m,AM a.y.z.n,AM a.y.m,AM b.x.z.n,AM b.x.m,AM b.y.z.n,AM b.y.m]) func58 O O (leB O) (Fc ha (Fc hb Ao)) (zI (sL [0,1] O) (q4 (BH (cs:=Ae a) O λb1=>BH (cs:=Ae b) O λb2=>al Hz O λb3=>q6 (sL [2,3,4] O) (B9 [(0,true),(1,true),(3,true),(4,true),(2,false),(5,false),(6,false),(7,false)] (sl sr) (B3 1 Ar O (B3 0 Ar O (B3 1 Ar O (B3 0 Ar O ?_))))))))
 refine zD O ?_
 have hz1:=Bo x y
 refine cP (S:=S) (x:=(x-y)) (args:=[(aG (Ae a)),(aG (Ae b))]) call108 (λw hw=>DD a b Z w (inS hw 3 O la) (inS hw 7 O lb)) O O O λg1 lg1=>zC (sl (sl (sl (sl (sl sr))))) (zD O ?_)
 have hz2:=Bo x y
 refine cP (S:=S) (x:=(x-y)) (args:=[(aG (Ae a)),(aG (Ae b))]) call108 (λw hw=>DD a b Z w (inS hw 7 O la) (inS hw 11 O lb)) O O O λg2 lg2=>zC (sl (sl (sl (sl (sl (sl (sl (sl (sl sr))))))))) (zD O ?_)
 have hz3:=Gw (x-y) (x-y)
 exact cF (S:=S) (x:=(C8 (x-y) (x-y))) (args:=[(aG (Ae g1)),(aG (Ae g2))]) call107 (λw hw=>JU g1 g2 Z w (inS hw 4 O lg1) (inS hw 0 O lg2)) O O O λg3 lg3=>zC (sl (sl (sl (sl (sl (sl (sl (sl (sl (sl (sl sr))))))))))) (zD O (Dt 10 (off:=0) (vs:=fxL g3) (cs':=fxL g3) (AG O) O sizeOf84 O (zC (sl (sl (sl (sl (sl (sl (sl (sl (sl (sl (sl sr))))))))))) (zP (zB (sL [4] O) (zA (zF (ret_one O (Ab (i:=10) (cs:=fxL g3) O O isAgg84 sizeOf84 O) (λw hw=>DU (a:=(g3:FX (C8 (x-y) (x-y)))) hw (inS hw 0 O lg3) O)))))))))
theorem Fw {x y z:Pt} (a:PX x) (b:PX y) (d:PX z) (hs:BO x+BO y+BO z<=262144) (w:World) {S:Nat->Prop} (ha:Ro S w a) (hb:Ro S w b) (hd:Ro S w d)  :Calls prog 149 #[(aG (Ae a)),(aG (Ae b)),(aG (Ae d))] w (Ac w (vI ((AF x y z).num.sign))):=by
 have la:=Bx (W:=w) ha
 have lb:=Bx (W:=w) hb
 have ld:=Bx (W:=w) hd
 refine AZ (args:=[(aG (Ae a)),(aG (Ae b)),(aG (Ae d))]) (L:=[AM a.x.z.n,AM a.x.m,AM a.y.z.n,AM a.y.m,AM b.x.z.n,AM b.x.m,AM b.y.z.n,AM b.y.m,AM d.x.z.n,AM d.x.m,AM d.y.z.n,AM d.y.m]) func149 O O (leB O) (Fc ha (Fc hb (Fc hd Ao))) (zI (sL [0,1,2] O) (q4 (BH (cs:=Ae a) O λb1=>BH (cs:=Ae b) O λb2=>BH (cs:=Ae d) O λb3=>asg' O (q6 (sL [3,4,5,6] O) (B9 [(0,true),(1,true),(3,true),(4,true),(2,false),(5,false),(6,false),(7,false),(8,true)] sr (B3 1 Ar O (B3 2 Ar O (B3 0 Ar O ?_))))))))
 refine B3 2 Ar O (zD O ?_)
 have hz1:=Bo y x
 refine cP (S:=S) (x:=(y-x)) (args:=[(aG (Ae b)),(aG (Ae a))]) call108 (λw hw=>DD b a Z w (inS hw 7 O lb) (inS hw 3 O la)) O O O λg1 lg1=>zC (sl (sl (sl (sl sr)))) (zD O ?_)
 have hz2:=Bo z x
 refine cP (S:=S) (x:=(z-x)) (args:=[(aG (Ae d)),(aG (Ae a))]) call108 (λw hw=>DD d a Z w (inS hw 15 O ld) (inS hw 7 O la)) O O O λg2 lg2=>zC (sl (sl (sl (sl (sl (sl (sl (sl sr)))))))) (zD O ?_)
 have hz3:=FN (y-x) (z-x)
 exact cF (S:=S) (x:=(BI (y-x) (z-x))) (args:=[(aG (Ae g1)),(aG (Ae g2))]) call152 (λw hw=>HF g1 g2 Z w (inS hw 4 O lg1) (inS hw 0 O lg2)) O O O λg3 lg3=>zC (sl (sl (sl (sl (sl (sl (sl (sl (sl (sl sr)))))))))) (zD O (CQ call104 (λw hw=>Gd g3 w (inS hw 0 O lg3)) O (zC (sl (sl (sl (sl (sl (sl (sl (sl (sl (sl sr)))))))))) (pS' O (zP (zB (sL [6] O) (zA (zF (ret_one O (rd_tmp (v:=(vI ((BI (y-x) (z-x)).num.sign))) O) (λw hw=>⟨rfl,hw.out⟩))))))))))
theorem Fq {x y z:Pt} (a:PX x) (b:PX y) (d:PX z) (hs:BO x+BO y+BO z<=262144) (w:World) {S:Nat->Prop} (ha:Ro S w a) (hb:Ro S w b) (hd:Ro S w d)  :Calls prog 148 #[(aG (Ae a)),(aG (Ae b)),(aG (Ae d))] w (Ac w (qa (Dw x y z))):=by
 have la:=Bx (W:=w) ha
 have lb:=Bx (W:=w) hb
 have ld:=Bx (W:=w) hd
 refine AZ (args:=[(aG (Ae a)),(aG (Ae b)),(aG (Ae d))]) (L:=[AM a.x.z.n,AM a.x.m,AM a.y.z.n,AM a.y.m,AM b.x.z.n,AM b.x.m,AM b.y.z.n,AM b.y.m,AM d.x.z.n,AM d.x.m,AM d.y.z.n,AM d.y.m]) func148 O O (leB O) (Fc ha (Fc hb (Fc hd Ao))) (zI (sL [0,1,2] O) (q4 (BH (cs:=Ae a) O λb1=>BH (cs:=Ae b) O λb2=>BH (cs:=Ae d) O λb3=>asg' O (q6 (sL [3,4,5,6] O) ?_))))
 by_cases hon:(AF x y z).num.sign=0
 ·refine B9 [(0,true),(1,true),(2,true),(3,false),(4,true),(5,true),(6,true),(7,true),(9,true),(10,true),(8,false),(11,false),(12,false),(13,false),(14,true),(15,true),(16,true)] sr (B3 2 Ar O (B3 1 Ar O (B3 0 Ar O (zD O (CQ call149 (λw hw=>Fw a b d Z w (inS hw 3 O la) (inS hw 7 O lb) (inS hw 11 O ld)) O (zC sr (Am O (Au (c:=true) O O (by simp [hon])) (Bi O (zQ (v:=(aG (Ae a))) O (AE O) (AY (i:=2) (vs:=Ae a) O O Ar.a Ar.s O O) O O (zQ (v:=(aG (Ae d))) O (AE O) (AY (i:=0) (vs:=Ae d) O O Ar.a Ar.s O O) O O (zQ (v:=(aG (Ae b))) O (AE O) (AY (i:=1) (vs:=Ae b) O O Ar.a Ar.s O O) O O ?_)))))))))))
  refine zQ (v:=(aG (Ae d))) O (AE O) (AY (i:=0) (vs:=Ae d) O O Ar.a Ar.s O O) O O (zD O ?_)
  have hz1:=Bo x z
  refine yY (AE O) (cP (S:=S) (x:=(x-z)) (args:=[(aG (Ae a)),(aG (Ae d))]) call108 (λw hw=>DD a d Z w (inS hw 3 O la) (inS hw 11 O ld)) O O O λg1 lg1=>zC (sl (sl (sl (sl sr)))) (zD O ?_))
  have hz2:=Bo y z
  refine yY (AE O) (cP (S:=S) (x:=(y-z)) (args:=[(aG (Ae b)),(aG (Ae d))]) call108 (λw hw=>DD b d Z w (inS hw 11 O lb) (inS hw 15 O ld)) O O O λg2 lg2=>zC (sl (sl (sl (sl (sl (sl (sl (sl sr)))))))) (zD O ?_))
  have hz3:=Gw (x-z) (y-z)
  refine yY (AE O) (cF (S:=S) (x:=(C8 (x-z) (y-z))) (args:=[(aG (Ae g1)),(aG (Ae g2))]) call107 (λw hw=>JU g1 g2 Z w (inS hw 4 O lg1) (inS hw 0 O lg2)) O O O λg3 lg3=>zC (sl (sl (sl (sl (sl (sl (sl (sl (sl (sl sr)))))))))) (zD O (zd (v:=(vI ((C8 (x-z) (y-z)).num.sign))) (AE O) (Ag (args:=[(aG (fxL g3))]) O O call104) (λw hw=>Gd g3 w (inS hw 0 O lg3)) O (leB O) (zC (sl (sl (sl (sl (sl (sl (sl (sl (sl (sl sr)))))))))) (zQ (v:=(qa (decide (((C8 (x-z) (y-z)).num.sign)<=(0:Int))))) O (AE O) (FB (c:=(decide (((C8 (x-z) (y-z)).num.sign)<=(0:Int)))) O O O) O O (Am (v:=(qa (decide (((C8 (x-z) (y-z)).num.sign)<=(0:Int))))) O (ex_pick_true O O) (pS' O (zP (zB (sL [6] O) (zA ?_))))))))))
  exact zF (ret_one O (rd_tmp (v:=(qa (decide (((C8 (x-z) (y-z)).num.sign)<=(0:Int))))) O) (λw hw=>⟨by simp [Dw,hon],hw.out⟩))
 ·refine B9 [(0,true),(1,true),(2,true),(3,false),(4,true),(5,true),(6,true),(7,true),(9,true),(10,true),(8,false),(11,false),(12,false),(13,false),(14,true),(15,true),(16,true)] sr (B3 2 Ar O (B3 1 Ar O (B3 0 Ar O (zD O (CQ call149 (λw hw=>Fw a b d Z w (inS hw 3 O la) (inS hw 7 O lb) (inS hw 11 O ld)) O (zC sr (Am O (Au (c:=false) O O (by simp [hon])) (Bi O (zc O (A7 O) O O (zc O (A7 O) O O (zc O (A7 O) O O ?_)))))))))))
  refine zc O (A7 O) O O (zD O (BP O (zC sr (zD O (BP O (zC sr (zD O (BP O (zC sr (zD O (BP O ?_)))))))))))
  exact zC sr (zc O (A7 O) O O (Am (v:=(qa false)) O (AN O O) (pS' O (zP (zB (sL [6] O) (zA (zF (ret_one O (rd_tmp (v:=(qa false)) O) (λw hw=>⟨by simp [Dw,hon],hw.out⟩)))))))))
end
section
theorem JN (a b:Pt) (s:Rat):(Fb a b s).x=a.x+s*(b.x-a.x):=by simp only [Fb,LR,HJ,HT];grind
theorem JO (a b:Pt) (s:Rat):(Fb a b s).y=a.y+s*(b.y-a.y):=by simp only [Fb,LS,HK,HU];grind
theorem ag {q:Rat}:q.num.sign<=0↔q<=0:=by
  rw [O0,U6]
  split
  · exact ⟨λ_=>by grind,λ_=>by decide⟩
  · split
    · exact ⟨λ_=>by grind,λ_=>by decide⟩
    · exact ⟨λh=>absurd h jY,λh=>by grind⟩
theorem bB {s:Rat} (h:0<=s*(1-s)):0<=s/\s<=1:=by
  constructor
  · rcases C5 s 0 with h1|h1
    · have:=Rat.mul_pos (show 0 < -s by grind) (show 0<1-s by grind);grind
    · exact h1
  · rcases C5 1 s with h1|h1
    · have:=Rat.mul_pos (show 0<s by grind) (show 0<s-1 by grind);grind
    · exact h1
theorem Xy (x:Rat):0<=x*x:=by
  rcases C5 x 0 with h|h
  · have:=Rat.mul_pos (show 0 < -x by grind) (show 0 < -x by grind);grind
  · exact Rat.mul_nonneg h h
theorem TS {x:Rat} (h:x≠0):0<x*x:=by
  rcases C5 x 0 with h1|h1
  · have:=Rat.mul_pos (show 0 < -x by grind) (show 0 < -x by grind);grind
  · exact Rat.mul_pos (by grind) (by grind)
theorem S0 {u v:Pt} (h:u≠v):0<(v.x-u.x)*(v.x-u.x)+(v.y-u.y)*(v.y-u.y):=by
  have h1:=Xy (v.x-u.x)
  have h2:=Xy (v.y-u.y)
  by_cases hx:v.x-u.x=0
  · have hy:v.y-u.y≠0:=λe=>h (Pt.ext (by grind) (by grind))
    have:=TS hy;grind
  · have:=TS hx;grind
section
variable {u v p a b c d A B C P:Pt} {s:Rat}
theorem Hs (h:u≠v):Dw u v p=true↔∃s:Rat,0<=s/\s<=1/\p=Fb u v s:=by
  have hN:=S0 h
  unfold Dw
  rw [xZ,xT,xT,O1,ag,B0,Kz,HT,HT,HU,HU]
  constructor
  · rintro ⟨h1,h2⟩
    have he:((v.x-u.x)*(v.x-u.x)+(v.y-u.y)*(v.y-u.y))⁻¹*((v.x-u.x)*(v.x-u.x)+(v.y-u.y)*(v.y-u.y))=1:=Rat.inv_mul_cancel _ (by grind)
    have hi:=Rat.inv_pos.2 hN
    generalize ((v.x-u.x)*(v.x-u.x)+(v.y-u.y)*(v.y-u.y))⁻¹=e at *
    have ex:p.x-u.x=(e*((p.x-u.x)*(v.x-u.x)+(p.y-u.y)*(v.y-u.y)))*(v.x-u.x):=by grind
    have ey:p.y-u.y=(e*((p.x-u.x)*(v.x-u.x)+(p.y-u.y)*(v.y-u.y)))*(v.y-u.y):=by grind
    generalize e*((p.x-u.x)*(v.x-u.x)+(p.y-u.y)*(v.y-u.y))=s at ex ey
    have h3:0<=(s*(1-s))*((v.x-u.x)*(v.x-u.x)+(v.y-u.y)*(v.y-u.y)):=by
      have e1:u.x-p.x = -(s*(v.x-u.x)):=by grind
      have e2:v.x-p.x=(1-s)*(v.x-u.x):=by grind
      have e3:u.y-p.y = -(s*(v.y-u.y)):=by grind
      have e4:v.y-p.y=(1-s)*(v.y-u.y):=by grind
      rw [e1,e2,e3,e4] at h2
      grind
    have h4:0<=s*(1-s):=by
      have h5:=Rat.mul_nonneg h3 (Rat.le_of_lt hi)
      have e5:∀n:Rat,s*(1-s)*n*e=s*(1-s)*(e*n):=λn=>by grind
      rw [e5,he,Rat.mul_one] at h5;exact h5
    obtain ⟨h5,h6⟩:=bB h4
    exact ⟨s,h5,h6,Pt.ext (by rw [JN];grind) (by rw [JO];grind)⟩
  · rintro ⟨s,h1,h2,rfl⟩
    have h3:=Rat.mul_nonneg (Rat.mul_nonneg h1 (show 0<=1-s by grind)) (Rat.le_of_lt hN)
    rw [JN,JO]
    exact ⟨by grind,by grind⟩
def EK (A B C p:Pt):Rat:=AF p B C/AF A B C
def EM (A B C p:Pt):Rat:=AF A p C/AF A B C
def Db (A B C p:Pt):Rat:=AF A B p/AF A B C
theorem I6 (s:Rat):EK A B C (Fb a b s)=EK A B C a+(EK A B C b-EK A B C a)*s/\EM A B C (Fb a b s)=EM A B C a+(EM A B C b-EM A B C a)*s/\Db A B C (Fb a b s)=Db A B C a+(Db A B C b-Db A B C a)*s:=by
  unfold EK EM Db
  rw [VH,VI,VJ]
  generalize AF A B C=T
  simp only [Rat.div_def]
  generalize T⁻¹=k
  exact ⟨by grind,by grind,by grind⟩
theorem Wh (h:AF A B C≠0):EK A B C p+EM A B C p+Db A B C p=1/\p.x=EK A B C p*A.x+EM A B C p*B.x+Db A B C p*C.x/\p.y=EK A B C p*A.y+EM A B C p*B.y+Db A B C p*C.y:=by
  have hi:(AF A B C)⁻¹*AF A B C=1:=Rat.inv_mul_cancel _ h
  unfold EK EM Db
  simp only [Rat.div_def]
  generalize (AF A B C)⁻¹=k at *
  simp only [B0] at *
  exact ⟨by grind,by grind,by grind⟩
theorem O7 (h:AF A B C≠0):A≠B:=λe=>h (by subst e;simp only [B0];grind)
theorem MH (h:AF A B C≠0):Dw A B p=true↔Db A B C p=0/\0<=EK A B C p/\0<=EM A B C p:=by
  rw [Hs (O7 h)]
  have hi:(AF A B C)⁻¹*AF A B C=1:=Rat.inv_mul_cancel _ h
  constructor
  · rintro ⟨s,h1,h2,rfl⟩
    obtain ⟨e0,e1,e2⟩:=I6 (A:=A) (B:=B) (C:=C) (a:=A) (b:=B) s
    have f0:EK A B C A=1/\EK A B C B=0:=by
      unfold EK;simp only [Rat.div_def];generalize (AF A B C)⁻¹=k at *;simp only [B0] at *;exact ⟨by grind,by grind⟩
    have f1:EM A B C A=0/\EM A B C B=1:=by
      unfold EM;simp only [Rat.div_def];generalize (AF A B C)⁻¹=k at *;simp only [B0] at *;exact ⟨by grind,by grind⟩
    have f2:Db A B C A=0/\Db A B C B=0:=by
      unfold Db;simp only [Rat.div_def];generalize (AF A B C)⁻¹=k at *;simp only [B0] at *;exact ⟨by grind,by grind⟩
    rw [e0,e1,e2,f0.1,f0.2,f1.1,f1.2,f2.1,f2.2]
    exact ⟨by grind,by grind,by grind⟩
  · rintro ⟨h2,h0,h1⟩
    obtain ⟨e1,e2,e3⟩:=Wh (p:=p) h
    rw [h2] at e1 e2 e3
    generalize EK A B C p=x at *
    generalize EM A B C p=y at *
    refine ⟨y,h1,by grind,Pt.ext ?_ ?_⟩
    · rw [JN,e2,show x=1-y by grind];grind
    · rw [JO,e3,show x=1-y by grind];grind
theorem Fo:EK B C A p=EM A B C p/\EM B C A p=Db A B C p/\Db B C A p=EK A B C p:=by
  unfold EK EM Db
  rw [show AF B C A=AF A B C from Gl A B C]
  refine ⟨congrArg (· / _) ?_,congrArg (· / _) ?_,congrArg (· / _) ?_⟩<;>simp only [B0]<;>grind
end
def CU (a b c d:Pt):List Pt:=(if Dw c d a=true then [a] else [])++((if Dw c d b=true then [b] else [])++((if Dw a b c=true then [c] else [])++(if Dw a b d=true then [d] else [])))
def Es (f:Pt->Pt->Bool):Pt->List Pt->Pt
  | m,[]=>m
  | m,e::r=>Es f (if f e m=true then e else m) r
theorem Fr (f:Pt->Pt->Bool):∀(l:List Pt) (m:Pt),Es f m l∈m::l
  | [],m=>xM.2 rfl
  | e::r,m=>by
    have h:=Fr f r (if f e m=true then e else m)
    unfold Es
    rcases xL.1 h with h1|h1
    · rw [h1];split
      · exact List.mem_cons_of_mem _ List.mem_cons_self
      · exact List.mem_cons_self
    · exact List.mem_cons_of_mem _ (List.mem_cons_of_mem _ h1)
def HS (a b c d:Pt):Pt:=a+Bm (b-a) (BI (c-a) (d-c)/BI (b-a) (d-c))
def Hg (f g:Pt->Pt->Bool) (a b c d:Pt):Nat×Pt:=match CU a b c d with
  | []=>if BI (b-a) (d-c)=0 then (0,⟨0,0⟩) else if Dw a b (HS a b c d)=true/\Dw c d (HS a b c d)=true then (1,HS a b c d) else (0,⟨0,0⟩)
  | e::r=>if Es f e r=Es g e r then (1,Es f e r) else (2,Es f e r)
section
variable {a b c d P e:Pt} {f g:Pt->Pt->Bool}
theorem TC (h:a≠b):Dw a b a=true/\Dw a b b=true:=by
  rw [Hs h,Hs h]
  refine ⟨⟨0,by grind,by grind,?_⟩,⟨1,by grind,by grind,?_⟩⟩<;>refine Pt.ext ?_ ?_<;>simp only [JN,JO]<;>grind
theorem OQ (h1:a≠b) (h2:c≠d) (h:e∈CU a b c d):Dw a b e=true/\Dw c d e=true:=by
  have s1:=TC h1
  have s2:=TC h2
  unfold CU at h
  rcases List.mem_append.1 h with h|h
  · split at h
    · rcases xM.1 h with rfl;exact ⟨s1.1,by assumption⟩
    · cases h
  · rcases List.mem_append.1 h with h|h
    · split at h
      · rcases xM.1 h with rfl;exact ⟨s1.2,by assumption⟩
      · cases h
    · rcases List.mem_append.1 h with h|h
      · split at h
        · rcases xM.1 h with rfl;exact ⟨by assumption,s2.1⟩
        · cases h
      · split at h
        · rcases xM.1 h with rfl;exact ⟨by assumption,s2.2⟩
        · cases h
theorem Hh (hn:CU a b c d=[]):Hg f g a b c d=if BI (b-a) (d-c)=0 then (0,⟨0,0⟩) else if Dw a b (HS a b c d)=true/\Dw c d (HS a b c d)=true then (1,HS a b c d) else (0,⟨0,0⟩):=by
  unfold Hg;rw [hn]
theorem Jj {r:List Pt} (hn:CU a b c d=e::r):Hg f g a b c d=if Es f e r=Es g e r then (1,Es f e r) else (2,Es f e r):=by
  unfold Hg;rw [hn]
theorem b_ (h1:a≠b) (h2:c≠d) (h:(Hg f g a b c d).1=1):Dw a b (Hg f g a b c d).2=true/\Dw c d (Hg f g a b c d).2=true:=by
  cases hn:CU a b c d with
  | nil =>
    rw [Hh hn] at h ⊢
    by_cases h3:BI (b-a) (d-c)=0
    · rw [if_pos h3] at h;cases h
    · rw [if_neg h3] at h ⊢
      by_cases h4:Dw a b (HS a b c d)=true/\Dw c d (HS a b c d)=true
      · rw [if_pos h4];exact h4
      · rw [if_neg h4] at h;cases h
  | cons e r =>
    rw [Jj hn] at h ⊢
    by_cases h3:Es f e r=Es g e r
    · rw [if_pos h3]
      exact OQ h1 h2 (by rw [hn];exact Fr f r e)
    · rw [if_neg h3] at h;cases h
theorem Y3 (h1:a≠b) (h2:c≠d) (hk:BI (b-a) (d-c)≠0) (hu:∀e,Dw a b e=true->Dw c d e=true->e=P) (p1:Dw a b P=true) (p2:Dw c d P=true):Hg f g a b c d=(1,P):=by
  have he:∀e∈CU a b c d,e=P:=λe h=>hu e (OQ h1 h2 h).1 (OQ h1 h2 h).2
  have hm:HS a b c d=P:=by
    obtain ⟨s,_,_,e1⟩:=(Hs h1).1 p1
    obtain ⟨r,_,_,e2⟩:=(Hs h2).1 p2
    have hi:(BI (b-a) (d-c))⁻¹*BI (b-a) (d-c)=1:=Rat.inv_mul_cancel _ hk
    have hs:BI (c-a) (d-c)/BI (b-a) (d-c)=s:=by
      have ex:a.x+s*(b.x-a.x)=c.x+r*(d.x-c.x):=by rw [<-JN,<-JN];exact congrArg Pt.x (e1.symm.trans e2)
      have ey:a.y+s*(b.y-a.y)=c.y+r*(d.y-c.y):=by rw [<-JO,<-JO];exact congrArg Pt.y (e1.symm.trans e2)
      rw [Rat.div_def]
      generalize (BI (b-a) (d-c))⁻¹=k at *
      simp only [Na,HT,HU] at *
      have e3:(c.x-a.x)*(d.y-c.y)-(c.y-a.y)*(d.x-c.x)=s*((b.x-a.x)*(d.y-c.y)-(b.y-a.y)*(d.x-c.x)):=by
        have h3:c.x-a.x=s*(b.x-a.x)-r*(d.x-c.x):=by grind
        have h4:c.y-a.y=s*(b.y-a.y)-r*(d.y-c.y):=by grind
        rw [h3,h4];grind
      rw [e3];grind
    unfold HS
    rw [hs,e1];rfl
  cases hn:CU a b c d with
  | nil=>rw [Hh hn,if_neg hk,hm,if_pos ⟨p1,p2⟩]
  | cons e r =>
    have m1:=he _ (by rw [hn];exact Fr f r e)
    have m2:=he _ (by rw [hn];exact Fr g r e)
    rw [Jj hn,m1,m2,if_pos rfl]
end
end
end Go.Proofs.YtcpkbjjmcleplaaGreatDoor
