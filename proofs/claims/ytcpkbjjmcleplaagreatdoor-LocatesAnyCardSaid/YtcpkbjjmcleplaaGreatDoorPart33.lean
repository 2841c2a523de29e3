import Derived.Test.YtcpkbjjmcleplaaGreatDoorPart32
namespace Go.Proofs.YtcpkbjjmcleplaaGreatDoor
open Go Go.RowKit Go.Proofs.Tryz
open Go.Value renaming slice→qz,bool→qa
set_option linter.unusedVariables false
set_option linter.unusedSimpArgs false
section
set_option maxRecDepth 100000
def CG (a b:Pt):Bool:=decide (a.x=b.x)&&decide (a.y=b.y)
def Db (a b p:Pt):Bool:=decide ((AF a b p).num.sign=0)&&decide ((Cq (a-p) (b-p)).num.sign<=0)
theorem Ej {x y:Pt} (a:PX x) (b:PX y) (hs:BD x+BD y<=2097152) (w:World) {S:Nat->Prop} (ha:Ro S w a) (hb:Ro S w b)  :Calls prog 54 #[(aG (AZ a)),(aG (AZ b))] w (AY w (qa (CG x y))):=by
 have sxx:=Ca x
 have sxy:=Cb x
 have syx:=Ca y
 have syy:=Cb y
 have la:=Bs (W:=w) ha
 have lb:=Bs (W:=w) hb
 refine AX (args:=[(aG (AZ a)),(aG (AZ b))]) (L:=[AM a.x.z.n,AM a.x.m,AM a.y.z.n,AM a.y.m,AM b.x.z.n,AM b.x.m,AM b.y.z.n,AM b.y.m]) func54 O O (leB O) (E1 ha (E1 hb Al)) (zG (sL [0,1] O) (q4 (A9 (cs:=AZ a) O λb1=>A9 (cs:=AZ b) O λb2=>asg' O (q3 (sL [2,3,4] O) (st' (v:=(pP b1 0)) (AA O underlying86 O sizeOf84 O) O (Br 1 (fxL a.x) Bm O (st' (v:=(pP b2 0)) (AA O underlying86 O sizeOf84 O) O (Br 0 (fxL b.x) Bm O (CC call97 (λw hw=>PC a.x b.x Z w (SC (inS hw 2 O la)) (SC (inS hw 6 O lb))) O ?_)))))))))
 refine AL O ?_
 refine zg (FM:=[(2,(pP b1 0)),(3,(pP b2 0)),(4,(qa false)),(5,(pP b1 0)),(6,(aG (fxL a.x))),(7,(pP b2 0)),(8,(aG (fxL b.x))),(9,(qa (decide (x.x=y.x)))),(10,(qa (decide (x.x=y.x)))),(16,(qa ((decide (x.x=y.x))&&(decide (x.y=y.y)))))]) (LM:=[AQ b2 86 (AZ b),AQ b1 86 (AZ a),AM a.x.z.n,AM a.x.m,AM a.y.z.n,AM a.y.m,AM b.x.z.n,AM b.x.m,AM b.y.z.n,AM b.y.m]) 6 ?_ ?_
 ·rcases xO (decide (x.x=y.x)) with hg1|hg1
  ·refine zJ (k:=10) (u:=qa true) O (by rw [hg1]) ?_
   have hg1':=xR hg1
   exact BN (v:=(pP b1 3)) O (AA O underlying86 O sizeOf84 O) (BN (v:=(aG (fxL a.y))) O (AW (i:=1) (vs:=fxL a.y) O O Bm.a Bm.s O O) (BN (v:=(pP b2 3)) O (AA O underlying86 O sizeOf84 O) (BN (v:=(aG (fxL b.y))) O (AW (i:=0) (vs:=fxL b.y) O O Bm.a Bm.s O O) (zc (v:=(qa (decide (x.y=y.y)))) (AE O) (Ac (args:=[(aG (fxL a.y)),(aG (fxL b.y))]) O O call97) (λw hw=>PC a.y b.y Z w (SD (inS hw 2 O la)) (SD (inS hw 6 O lb))) O (leB O) (st' (v:=(qa (decide (x.y=y.y)))) (ex_pick_true O O) O (oNl' (zS CK (xP _))))))))
  ·refine zJ (k:=10) (u:=qa false) O (by rw [hg1]) ?_
   have hg1':=xQ hg1
   exact BF O (BF O (BF O (BF O (BF O (st' (v:=(qa false)) (AN O O) O (oNl' (zS CK (xP _))))))))
 exact asg' O (oNl' (zB (sL [4] O) (zA (zF (ret_one O (rd_tmp (v:=(qa ((decide (x.x=y.x))&&(decide (x.y=y.y))))) O) (λw hw=>⟨rfl,hw.out⟩))))))
theorem C_ {r0:Rat} (x0:FX r0) {r1:Rat} (x1:FX r1):Instr.fill ([(0,3),(3,3)].toArray[·]?) ([(qa false),jj,jj,(qa false),jj,jj]).toArray [(0,.agg (fxL x0).toArray),(1,.agg (fxL x1).toArray)]=some (fxL x0++fxL x1).toArray:=by kernel_rfl
theorem PO {x y:Pt} (a:PX x) (b:PX y) (hs:BD x+BD y<=2097152) (w:World) {S:Nat->Prop} (ha:Ro S w a) (hb:Ro S w b)  :Calls prog 153 #[(aG (AZ a)),(aG (AZ b))] w (Ai (PX (x+y)) S w):=by
 have sxx:=Ca x
 have sxy:=Cb x
 have syx:=Ca y
 have syy:=Cb y
 have la:=Bs (W:=w) ha
 have lb:=Bs (W:=w) hb
 refine AX (args:=[(aG (AZ a)),(aG (AZ b))]) (L:=[AM a.x.z.n,AM a.x.m,AM a.y.z.n,AM a.y.m,AM b.x.z.n,AM b.x.m,AM b.y.z.n,AM b.y.m]) func153 O O (leB O) (E1 ha (E1 hb Al)) (zG (sL [0,1] O) (q4 (A9 (cs:=AZ a) O λb1=>A9 (cs:=AZ b) O λb2=>al I4 O λb3=>q6 (sL [2,3,4] O) (B8 (Ed 4++[(5,true),(6,true),(7,true),(8,true),(4,false),(9,false),(10,true),(11,false)]) (sl sr) (Ao (v:=(pP b1 0)) O (AA O underlying86 O sizeOf84 O) (Dd 1 (fxL a.x) Bm O (Ao (v:=(pP b2 0)) O (AA O underlying86 O sizeOf84 O) (Dd 0 (fxL b.x) Bm O ?_))))))))
 refine Ao (v:=(pP b1 3)) O (AA O underlying86 O sizeOf84 O) (Dd 1 (fxL a.y) Bm O (Ao (v:=(pP b2 3)) O (AA O underlying86 O sizeOf84 O) (Dd 0 (fxL b.y) Bm O (zD O ?_))))
 have hz1:=DY x.x y.x
 refine cF (S:=S) (x:=(x.x+y.x)) (args:=[(aG (fxL a.x)),(aG (fxL b.x))]) call102 (λw hw=>Is a.x b.x (by (try simp only [BE]);omega) w (SC (inS hw 3 O la)) (SC (inS hw 7 O lb))) O O O λg1 lg1=>zC (sl (sl (sl sr))) (zD O ?_)
 have hz2:=DY x.y y.y
 exact cF (S:=S) (x:=(x.y+y.y)) (args:=[(aG (fxL a.y)),(aG (fxL b.y))]) call102 (λw hw=>Is a.y b.y (by (try simp only [BE]);omega) w (SD (inS hw 5 O la)) (SD (inS hw 9 O lb))) O O O λg2 lg2=>zC (sl (sl (sl (sl (sl sr))))) (Ao (v:=(aG (fxL g1++fxL g2))) O (AR (zs:=[(qa false),jj,jj,(qa false),jj,jj]) (vs:=fxL g1++fxL g2) (pv:=[(0,(aG (fxL g1))),(1,(aG (fxL g2)))]) (places:=[(0,3),(3,3)]) zeroValue86 underlying86 (λw=>by simp [sizeOf84]) O (C_ g1 g2)) (zD O (EV 4 (off:=0) (vs:=fxL g1++fxL g2) (cs':=fxL g1++fxL g2) (AJ O) O sizeOf86 O (zC (sl (sl (sl (sl (sl sr))))) (zP (zB (sL [4] O) (zA (zF (ret_one O (Aa (i:=4) (cs:=fxL g1++fxL g2) O O isAgg86 sizeOf86 O) (λw hw=>DC (a:=((PX.mk g1 g2:PX (⟨x.x+y.x,x.y+y.y⟩:Pt)):PX (x+y))) hw (cL (inS hw 2 O lg1) (inS hw 0 O lg2)) O))))))))))
theorem Cw {x y:Pt} (a:PX x) (b:PX y) (hs:BD x+BD y<=2097152) (w:World) {S:Nat->Prop} (ha:Ro S w a) (hb:Ro S w b)  :Calls prog 108 #[(aG (AZ a)),(aG (AZ b))] w (Ai (PX (x-y)) S w):=by
 have sxx:=Ca x
 have sxy:=Cb x
 have syx:=Ca y
 have syy:=Cb y
 have la:=Bs (W:=w) ha
 have lb:=Bs (W:=w) hb
 refine AX (args:=[(aG (AZ a)),(aG (AZ b))]) (L:=[AM a.x.z.n,AM a.x.m,AM a.y.z.n,AM a.y.m,AM b.x.z.n,AM b.x.m,AM b.y.z.n,AM b.y.m]) func108 O O (leB O) (E1 ha (E1 hb Al)) (zG (sL [0,1] O) (q4 (A9 (cs:=AZ a) O λb1=>A9 (cs:=AZ b) O λb2=>al I4 O λb3=>q6 (sL [2,3,4] O) (B8 (Ed 4++[(5,true),(6,true),(7,true),(8,true),(4,false),(9,false),(10,true),(11,false)]) (sl sr) (Ao (v:=(pP b1 0)) O (AA O underlying86 O sizeOf84 O) (Dd 1 (fxL a.x) Bm O (Ao (v:=(pP b2 0)) O (AA O underlying86 O sizeOf84 O) (Dd 0 (fxL b.x) Bm O ?_))))))))
 refine Ao (v:=(pP b1 3)) O (AA O underlying86 O sizeOf84 O) (Dd 1 (fxL a.y) Bm O (Ao (v:=(pP b2 3)) O (AA O underlying86 O sizeOf84 O) (Dd 0 (fxL b.y) Bm O (zD O ?_))))
 have hz1:=EK x.x y.x
 refine cF (S:=S) (x:=(x.x-y.x)) (args:=[(aG (fxL a.x)),(aG (fxL b.x))]) call105 (λw hw=>KT a.x b.x (by (try simp only [BE]);omega) w (SC (inS hw 3 O la)) (SC (inS hw 7 O lb))) O O O λg1 lg1=>zC (sl (sl (sl sr))) (zD O ?_)
 have hz2:=EK x.y y.y
 exact cF (S:=S) (x:=(x.y-y.y)) (args:=[(aG (fxL a.y)),(aG (fxL b.y))]) call105 (λw hw=>KT a.y b.y (by (try simp only [BE]);omega) w (SD (inS hw 5 O la)) (SD (inS hw 9 O lb))) O O O λg2 lg2=>zC (sl (sl (sl (sl (sl sr))))) (Ao (v:=(aG (fxL g1++fxL g2))) O (AR (zs:=[(qa false),jj,jj,(qa false),jj,jj]) (vs:=fxL g1++fxL g2) (pv:=[(0,(aG (fxL g1))),(1,(aG (fxL g2)))]) (places:=[(0,3),(3,3)]) zeroValue86 underlying86 (λw=>by simp [sizeOf84]) O (C_ g1 g2)) (zD O (EV 4 (off:=0) (vs:=fxL g1++fxL g2) (cs':=fxL g1++fxL g2) (AJ O) O sizeOf86 O (zC (sl (sl (sl (sl (sl sr))))) (zP (zB (sL [4] O) (zA (zF (ret_one O (Aa (i:=4) (cs:=fxL g1++fxL g2) O O isAgg86 sizeOf86 O) (λw hw=>DC (a:=((PX.mk g1 g2:PX (⟨x.x-y.x,x.y-y.y⟩:Pt)):PX (x-y))) hw (cL (inS hw 2 O lg1) (inS hw 0 O lg2)) O))))))))))
theorem LY {x:Pt} {q:Rat} (a:PX x) (k:FX q) (hs:BD x+Sz q<=2097152) (w:World) {S:Nat->Prop} (ha:Ro S w a) (hk:Ro S w k)  :Calls prog 154 #[(aG (AZ a)),(aG (fxL k))] w (Ai (PX (Bg x q)) S w):=by
 have sxx:=Ca x
 have sxy:=Cb x
 have la:=Bs (W:=w) ha
 have lk:=Bs (W:=w) hk
 refine AX (args:=[(aG (AZ a)),(aG (fxL k))]) (L:=[AM a.x.z.n,AM a.x.m,AM a.y.z.n,AM a.y.m,AM k.z.n,AM k.m]) func154 O O (leB O) (E1 ha (L_ hk Al)) (zG (sL [0,1] O) (q4 (A9 (cs:=AZ a) O λb1=>A9 (cs:=fxL k) O λb2=>al I4 O λb3=>q6 (sL [2,3,4] O) (B8 [(0,true),(1,true),(2,true),(4,true),(5,true),(6,true),(3,false),(7,false),(8,true),(9,false)] (sl sr) (Ao (v:=(pP b1 0)) O (AA O underlying86 O sizeOf84 O) (Dd 1 (fxL a.x) Bm O (Bv 0 Bm O (Ao (v:=(pP b1 3)) O (AA O underlying86 O sizeOf84 O) ?_))))))))
 refine Dd 1 (fxL a.y) Bm O (Bv 0 Bm O (zD O ?_))
 have hz1:=CU x.x q
 refine cF (S:=S) (x:=(x.x*q)) (args:=[(aG (fxL a.x)),(aG (fxL k))]) call155 (λw hw=>Gj a.x k (by (try simp only [BE]);omega) w (SC (inS hw 3 O la)) (inS hw 7 O lk)) O O O λg1 lg1=>zC (sl (sl (sl sr))) (zD O ?_)
 have hz2:=CU x.y q
 exact cF (S:=S) (x:=(x.y*q)) (args:=[(aG (fxL a.y)),(aG (fxL k))]) call155 (λw hw=>Gj a.y k (by (try simp only [BE]);omega) w (SD (inS hw 5 O la)) (inS hw 9 O lk)) O O O λg2 lg2=>zC (sl (sl (sl (sl (sl sr))))) (Ao (v:=(aG (fxL g1++fxL g2))) O (AR (zs:=[(qa false),jj,jj,(qa false),jj,jj]) (vs:=fxL g1++fxL g2) (pv:=[(0,(aG (fxL g1))),(1,(aG (fxL g2)))]) (places:=[(0,3),(3,3)]) zeroValue86 underlying86 (λw=>by simp [sizeOf84]) O (C_ g1 g2)) (zD O (EV 4 (off:=0) (vs:=fxL g1++fxL g2) (cs':=fxL g1++fxL g2) (AJ O) O sizeOf86 O (zC (sl (sl (sl (sl (sl sr))))) (zP (zB (sL [4] O) (zA (zF (ret_one O (Aa (i:=4) (cs:=fxL g1++fxL g2) O O isAgg86 sizeOf86 O) (λw hw=>DC (a:=((PX.mk g1 g2:PX (⟨x.x*q,x.y*q⟩:Pt)):PX (Bg x q))) hw (cL (inS hw 2 O lg1) (inS hw 0 O lg2)) O))))))))))
theorem Gl {x y:Pt} (a:PX x) (b:PX y) (hs:BD x+BD y<=2097152) (w:World) {S:Nat->Prop} (ha:Ro S w a) (hb:Ro S w b)  :Calls prog 152 #[(aG (AZ a)),(aG (AZ b))] w (Ai (FX (A8 x y)) S w):=by
 have sxx:=Ca x
 have sxy:=Cb x
 have syx:=Ca y
 have syy:=Cb y
 have la:=Bs (W:=w) ha
 have lb:=Bs (W:=w) hb
 refine AX (args:=[(aG (AZ a)),(aG (AZ b))]) (L:=[AM a.x.z.n,AM a.x.m,AM a.y.z.n,AM a.y.m,AM b.x.z.n,AM b.x.m,AM b.y.z.n,AM b.y.m]) func152 O O (leB O) (E1 ha (E1 hb Al)) (zG (sL [0,1] O) (q4 (A9 (cs:=AZ a) O λb1=>A9 (cs:=AZ b) O λb2=>al HZ O λb3=>q6 (sL [2,3,4] O) (B8 (Ed 4++[(5,true),(6,true),(7,true),(8,true),(4,false),(9,false),(10,false),(11,false)]) (sl sr) (Ao (v:=(pP b1 0)) O (AA O underlying86 O sizeOf84 O) (Dd 1 (fxL a.x) Bm O (Ao (v:=(pP b2 3)) O (AA O underlying86 O sizeOf84 O) (Dd 0 (fxL b.y) Bm O ?_))))))))
 refine Ao (v:=(pP b1 3)) O (AA O underlying86 O sizeOf84 O) (Dd 1 (fxL a.y) Bm O (Ao (v:=(pP b2 0)) O (AA O underlying86 O sizeOf84 O) (Dd 0 (fxL b.x) Bm O (zD O ?_))))
 have hz1:=CU x.x y.y
 refine cF (S:=S) (x:=(x.x*y.y)) (args:=[(aG (fxL a.x)),(aG (fxL b.y))]) call155 (λw hw=>Gj a.x b.y (by (try simp only [BE]);omega) w (SC (inS hw 3 O la)) (SD (inS hw 7 O lb))) O O O λg1 lg1=>zC (sl (sl (sl sr))) (zD O ?_)
 have hz2:=CU x.y y.x
 refine cF (S:=S) (x:=(x.y*y.x)) (args:=[(aG (fxL a.y)),(aG (fxL b.x))]) call155 (λw hw=>Gj a.y b.x (by (try simp only [BE]);omega) w (SD (inS hw 5 O la)) (SC (inS hw 9 O lb))) O O O λg2 lg2=>zC (sl (sl (sl (sl (sl sr))))) (zD O ?_)
 have hz3:=EK (x.x*y.y) (x.y*y.x)
 exact cF (S:=S) (x:=((x.x*y.y)-(x.y*y.x))) (args:=[(aG (fxL g1)),(aG (fxL g2))]) call105 (λw hw=>KT g1 g2 (by (try simp only [BE]);omega) w (inS hw 2 O lg1) (inS hw 0 O lg2)) O O O λg3 lg3=>zC (sl (sl (sl (sl (sl (sl (sl sr))))))) (zD O (EV 6 (off:=0) (vs:=fxL g3) (cs':=fxL g3) (AJ O) O sizeOf84 O (zC (sl (sl (sl (sl (sl (sl (sl sr))))))) (zP (zB (sL [4] O) (zA (zF (ret_one O (Aa (i:=6) (cs:=fxL g3) O O isAgg84 sizeOf84 O) (λw hw=>DC (a:=(g3:FX (A8 x y))) hw (inS hw 0 O lg3) O)))))))))
theorem Ix {x y:Pt} (a:PX x) (b:PX y) (hs:BD x+BD y<=2097152) (w:World) {S:Nat->Prop} (ha:Ro S w a) (hb:Ro S w b)  :Calls prog 107 #[(aG (AZ a)),(aG (AZ b))] w (Ai (FX (Cq x y)) S w):=by
 have sxx:=Ca x
 have sxy:=Cb x
 have syx:=Ca y
 have syy:=Cb y
 have la:=Bs (W:=w) ha
 have lb:=Bs (W:=w) hb
 refine AX (args:=[(aG (AZ a)),(aG (AZ b))]) (L:=[AM a.x.z.n,AM a.x.m,AM a.y.z.n,AM a.y.m,AM b.x.z.n,AM b.x.m,AM b.y.z.n,AM b.y.m]) func107 O O (leB O) (E1 ha (E1 hb Al)) (zG (sL [0,1] O) (q4 (A9 (cs:=AZ a) O λb1=>A9 (cs:=AZ b) O λb2=>al HZ O λb3=>q6 (sL [2,3,4] O) (B8 (Ed 4++[(5,true),(6,true),(7,true),(8,true),(4,false),(9,false),(10,false),(11,false)]) (sl sr) (Ao (v:=(pP b1 0)) O (AA O underlying86 O sizeOf84 O) (Dd 1 (fxL a.x) Bm O (Ao (v:=(pP b2 0)) O (AA O underlying86 O sizeOf84 O) (Dd 0 (fxL b.x) Bm O ?_))))))))
 refine Ao (v:=(pP b1 3)) O (AA O underlying86 O sizeOf84 O) (Dd 1 (fxL a.y) Bm O (Ao (v:=(pP b2 3)) O (AA O underlying86 O sizeOf84 O) (Dd 0 (fxL b.y) Bm O (zD O ?_))))
 have hz1:=CU x.x y.x
 refine cF (S:=S) (x:=(x.x*y.x)) (args:=[(aG (fxL a.x)),(aG (fxL b.x))]) call155 (λw hw=>Gj a.x b.x (by (try simp only [BE]);omega) w (SC (inS hw 3 O la)) (SC (inS hw 7 O lb))) O O O λg1 lg1=>zC (sl (sl (sl sr))) (zD O ?_)
 have hz2:=CU x.y y.y
 refine cF (S:=S) (x:=(x.y*y.y)) (args:=[(aG (fxL a.y)),(aG (fxL b.y))]) call155 (λw hw=>Gj a.y b.y (by (try simp only [BE]);omega) w (SD (inS hw 5 O la)) (SD (inS hw 9 O lb))) O O O λg2 lg2=>zC (sl (sl (sl (sl (sl sr))))) (zD O ?_)
 have hz3:=DY (x.x*y.x) (x.y*y.y)
 exact cF (S:=S) (x:=((x.x*y.x)+(x.y*y.y))) (args:=[(aG (fxL g1)),(aG (fxL g2))]) call102 (λw hw=>Is g1 g2 (by (try simp only [BE]);omega) w (inS hw 2 O lg1) (inS hw 0 O lg2)) O O O λg3 lg3=>zC (sl (sl (sl (sl (sl (sl (sl sr))))))) (zD O (EV 6 (off:=0) (vs:=fxL g3) (cs':=fxL g3) (AJ O) O sizeOf84 O (zC (sl (sl (sl (sl (sl (sl (sl sr))))))) (zP (zB (sL [4] O) (zA (zF (ret_one O (Aa (i:=6) (cs:=fxL g3) O O isAgg84 sizeOf84 O) (λw hw=>DC (a:=(g3:FX (Cq x y))) hw (inS hw 0 O lg3) O)))))))))
theorem Jw {x y:Pt} (a:PX x) (b:PX y) (hs:BD x+BD y<=262144) (w:World) {S:Nat->Prop} (ha:Ro S w a) (hb:Ro S w b)  :Calls prog 58 #[(aG (AZ a)),(aG (AZ b))] w (Ai (FX (Cq (x-y) (x-y))) S w):=by
 have la:=Bs (W:=w) ha
 have lb:=Bs (W:=w) hb
 refine AX (args:=[(aG (AZ a)),(aG (AZ b))]) (L:=[AM a.x.z.n,AM a.x.m,AM a.y.z.n,AM a.y.m,AM b.x.z.n,AM b.x.m,AM b.y.z.n,AM b.y.m]) func58 O O (leB O) (E1 ha (E1 hb Al)) (zG (sL [0,1] O) (q4 (A9 (cs:=AZ a) O λb1=>A9 (cs:=AZ b) O λb2=>al HZ O λb3=>q6 (sL [2,3,4] O) (B8 [(0,true),(1,true),(3,true),(4,true),(2,false),(5,false),(6,false),(7,false)] (sl sr) (Bv 1 Ap O (Bv 0 Ap O (Bv 1 Ap O (Bv 0 Ap O ?_))))))))
 refine zD O ?_
 have hz1:=Bi x y
 refine cP (S:=S) (x:=(x-y)) (args:=[(aG (AZ a)),(aG (AZ b))]) call108 (λw hw=>Cw a b Z w (inS hw 3 O la) (inS hw 7 O lb)) O O O λg1 lg1=>zC (sl (sl (sl (sl (sl sr))))) (zD O ?_)
 have hz2:=Bi x y
 refine cP (S:=S) (x:=(x-y)) (args:=[(aG (AZ a)),(aG (AZ b))]) call108 (λw hw=>Cw a b Z w (inS hw 7 O la) (inS hw 11 O lb)) O O O λg2 lg2=>zC (sl (sl (sl (sl (sl (sl (sl (sl (sl sr))))))))) (zD O ?_)
 have hz3:=GR (x-y) (x-y)
 exact cF (S:=S) (x:=(Cq (x-y) (x-y))) (args:=[(aG (AZ g1)),(aG (AZ g2))]) call107 (λw hw=>Ix g1 g2 Z w (inS hw 4 O lg1) (inS hw 0 O lg2)) O O O λg3 lg3=>zC (sl (sl (sl (sl (sl (sl (sl (sl (sl (sl (sl sr))))))))))) (zD O (EV 10 (off:=0) (vs:=fxL g3) (cs':=fxL g3) (AJ O) O sizeOf84 O (zC (sl (sl (sl (sl (sl (sl (sl (sl (sl (sl (sl sr))))))))))) (zP (zB (sL [4] O) (zA (zF (ret_one O (Aa (i:=10) (cs:=fxL g3) O O isAgg84 sizeOf84 O) (λw hw=>DC (a:=(g3:FX (Cq (x-y) (x-y)))) hw (inS hw 0 O lg3) O)))))))))
theorem FJ {x y z:Pt} (a:PX x) (b:PX y) (d:PX z) (hs:BD x+BD y+BD z<=262144) (w:World) {S:Nat->Prop} (ha:Ro S w a) (hb:Ro S w b) (hd:Ro S w d)  :Calls prog 149 #[(aG (AZ a)),(aG (AZ b)),(aG (AZ d))] w (AY w (vI ((AF x y z).num.sign))):=by
 have la:=Bs (W:=w) ha
 have lb:=Bs (W:=w) hb
 have ld:=Bs (W:=w) hd
 refine AX (args:=[(aG (AZ a)),(aG (AZ b)),(aG (AZ d))]) (L:=[AM a.x.z.n,AM a.x.m,AM a.y.z.n,AM a.y.m,AM b.x.z.n,AM b.x.m,AM b.y.z.n,AM b.y.m,AM d.x.z.n,AM d.x.m,AM d.y.z.n,AM d.y.m]) func149 O O (leB O) (E1 ha (E1 hb (E1 hd Al))) (zG (sL [0,1,2] O) (q4 (A9 (cs:=AZ a) O λb1=>A9 (cs:=AZ b) O λb2=>A9 (cs:=AZ d) O λb3=>asg' O (q6 (sL [3,4,5,6] O) (B8 [(0,true),(1,true),(3,true),(4,true),(2,false),(5,false),(6,false),(7,false),(8,true)] sr (Bv 1 Ap O (Bv 2 Ap O (Bv 0 Ap O ?_))))))))
 refine Bv 2 Ap O (zD O ?_)
 have hz1:=Bi y x
 refine cP (S:=S) (x:=(y-x)) (args:=[(aG (AZ b)),(aG (AZ a))]) call108 (λw hw=>Cw b a Z w (inS hw 7 O lb) (inS hw 3 O la)) O O O λg1 lg1=>zC (sl (sl (sl (sl sr)))) (zD O ?_)
 have hz2:=Bi z x
 refine cP (S:=S) (x:=(z-x)) (args:=[(aG (AZ d)),(aG (AZ a))]) call108 (λw hw=>Cw d a Z w (inS hw 15 O ld) (inS hw 7 O la)) O O O λg2 lg2=>zC (sl (sl (sl (sl (sl (sl (sl (sl sr)))))))) (zD O ?_)
 have hz3:=Eq (y-x) (z-x)
 exact cF (S:=S) (x:=(A8 (y-x) (z-x))) (args:=[(aG (AZ g1)),(aG (AZ g2))]) call152 (λw hw=>Gl g1 g2 Z w (inS hw 4 O lg1) (inS hw 0 O lg2)) O O O λg3 lg3=>zC (sl (sl (sl (sl (sl (sl (sl (sl (sl (sl sr)))))))))) (zD O (CC call104 (λw hw=>GA g3 w (inS hw 0 O lg3)) O (zC (sl (sl (sl (sl (sl (sl (sl (sl (sl (sl sr)))))))))) (pS' O (zP (zB (sL [6] O) (zA (zF (ret_one O (rd_tmp (v:=(vI ((A8 (y-x) (z-x)).num.sign))) O) (λw hw=>⟨rfl,hw.out⟩))))))))))
theorem FC {x y z:Pt} (a:PX x) (b:PX y) (d:PX z) (hs:BD x+BD y+BD z<=262144) (w:World) {S:Nat->Prop} (ha:Ro S w a) (hb:Ro S w b) (hd:Ro S w d)  :Calls prog 148 #[(aG (AZ a)),(aG (AZ b)),(aG (AZ d))] w (AY w (qa (Db x y z))):=by
 have la:=Bs (W:=w) ha
 have lb:=Bs (W:=w) hb
 have ld:=Bs (W:=w) hd
 refine AX (args:=[(aG (AZ a)),(aG (AZ b)),(aG (AZ d))]) (L:=[AM a.x.z.n,AM a.x.m,AM a.y.z.n,AM a.y.m,AM b.x.z.n,AM b.x.m,AM b.y.z.n,AM b.y.m,AM d.x.z.n,AM d.x.m,AM d.y.z.n,AM d.y.m]) func148 O O (leB O) (E1 ha (E1 hb (E1 hd Al))) (zG (sL [0,1,2] O) (q4 (A9 (cs:=AZ a) O λb1=>A9 (cs:=AZ b) O λb2=>A9 (cs:=AZ d) O λb3=>asg' O (q6 (sL [3,4,5,6] O) ?_))))
 by_cases hon:(AF x y z).num.sign=0
 ·refine B8 [(0,true),(1,true),(2,true),(3,false),(4,true),(5,true),(6,true),(7,true),(9,true),(10,true),(8,false),(11,false),(12,false),(13,false),(14,true),(15,true),(16,true)] sr (Bv 2 Ap O (Bv 1 Ap O (Bv 0 Ap O (zD O (CC call149 (λw hw=>FJ a b d Z w (inS hw 3 O la) (inS hw 7 O lb) (inS hw 11 O ld)) O (zC sr (Ao O (Az (c:=true) O O (by simp [hon])) (Bq O (zQ (v:=(aG (AZ a))) O (AE O) (AW (i:=2) (vs:=AZ a) O O Ap.a Ap.s O O) O O (zQ (v:=(aG (AZ d))) O (AE O) (AW (i:=0) (vs:=AZ d) O O Ap.a Ap.s O O) O O (zQ (v:=(aG (AZ b))) O (AE O) (AW (i:=1) (vs:=AZ b) O O Ap.a Ap.s O O) O O ?_)))))))))))
  refine zQ (v:=(aG (AZ d))) O (AE O) (AW (i:=0) (vs:=AZ d) O O Ap.a Ap.s O O) O O (zD O ?_)
  have hz1:=Bi x z
  refine yW (AE O) (cP (S:=S) (x:=(x-z)) (args:=[(aG (AZ a)),(aG (AZ d))]) call108 (λw hw=>Cw a d Z w (inS hw 3 O la) (inS hw 11 O ld)) O O O λg1 lg1=>zC (sl (sl (sl (sl sr)))) (zD O ?_))
  have hz2:=Bi y z
  refine yW (AE O) (cP (S:=S) (x:=(y-z)) (args:=[(aG (AZ b)),(aG (AZ d))]) call108 (λw hw=>Cw b d Z w (inS hw 11 O lb) (inS hw 15 O ld)) O O O λg2 lg2=>zC (sl (sl (sl (sl (sl (sl (sl (sl sr)))))))) (zD O ?_))
  have hz3:=GR (x-z) (y-z)
  refine yW (AE O) (cF (S:=S) (x:=(Cq (x-z) (y-z))) (args:=[(aG (AZ g1)),(aG (AZ g2))]) call107 (λw hw=>Ix g1 g2 Z w (inS hw 4 O lg1) (inS hw 0 O lg2)) O O O λg3 lg3=>zC (sl (sl (sl (sl (sl (sl (sl (sl (sl (sl sr)))))))))) (zD O (zc (v:=(vI ((Cq (x-z) (y-z)).num.sign))) (AE O) (Ac (args:=[(aG (fxL g3))]) O O call104) (λw hw=>GA g3 w (inS hw 0 O lg3)) O (leB O) (zC (sl (sl (sl (sl (sl (sl (sl (sl (sl (sl sr)))))))))) (zQ (v:=(qa (decide (((Cq (x-z) (y-z)).num.sign)<=(0:Int))))) O (AE O) (D6 (c:=(decide (((Cq (x-z) (y-z)).num.sign)<=(0:Int)))) O O O) O O (Ao (v:=(qa (decide (((Cq (x-z) (y-z)).num.sign)<=(0:Int))))) O (ex_pick_true O O) (pS' O (zP (zB (sL [6] O) (zA ?_))))))))))
  exact zF (ret_one O (rd_tmp (v:=(qa (decide (((Cq (x-z) (y-z)).num.sign)<=(0:Int))))) O) (λw hw=>⟨by simp [Db,hon],hw.out⟩))
 ·refine B8 [(0,true),(1,true),(2,true),(3,false),(4,true),(5,true),(6,true),(7,true),(9,true),(10,true),(8,false),(11,false),(12,false),(13,false),(14,true),(15,true),(16,true)] sr (Bv 2 Ap O (Bv 1 Ap O (Bv 0 Ap O (zD O (CC call149 (λw hw=>FJ a b d Z w (inS hw 3 O la) (inS hw 7 O lb) (inS hw 11 O ld)) O (zC sr (Ao O (Az (c:=false) O O (by simp [hon])) (Bq O (zZ O (Aw O) O O (zZ O (Aw O) O O (zZ O (Aw O) O O ?_)))))))))))
  refine zZ O (Aw O) O O (zD O (BF O (zC sr (zD O (BF O (zC sr (zD O (BF O (zC sr (zD O (BF O ?_)))))))))))
  exact zC sr (zZ O (Aw O) O O (Ao (v:=(qa false)) O (AN O O) (pS' O (zP (zB (sL [6] O) (zA (zF (ret_one O (rd_tmp (v:=(qa false)) O) (λw hw=>⟨by simp [Db,hon],hw.out⟩)))))))))
end
section
theorem Iq (a b:Pt) (s:Rat):(Ez a b s).x=a.x+s*(b.x-a.x):=by simp only [Ez,Kf,Gp,G2];grind
theorem Ir (a b:Pt) (s:Rat):(Ez a b s).y=a.y+s*(b.y-a.y):=by simp only [Ez,Kg,Gq,G3];grind
theorem Y4 {q:Rat}:q.num.sign<=0↔q<=0:=by
  rw [N1,Tn]
  split
  · exact ⟨λ_=>by grind,λ_=>by decide⟩
  · split
    · exact ⟨λ_=>by grind,λ_=>by decide⟩
    · exact ⟨λh=>absurd h jY,λh=>by grind⟩
theorem ZH {s:Rat} (h:0<=s*(1-s)):0<=s/\s<=1:=by
  constructor
  · rcases DB s 0 with h1|h1
    · have:=Rat.mul_pos (show 0 < -s by grind) (show 0<1-s by grind);grind
    · exact h1
  · rcases DB 1 s with h1|h1
    · have:=Rat.mul_pos (show 0<s by grind) (show 0<s-1 by grind);grind
    · exact h1
theorem We (x:Rat):0<=x*x:=by
  rcases DB x 0 with h|h
  · have:=Rat.mul_pos (show 0 < -x by grind) (show 0 < -x by grind);grind
  · exact Rat.mul_nonneg h h
theorem SJ {x:Rat} (h:x≠0):0<x*x:=by
  rcases DB x 0 with h1|h1
  · have:=Rat.mul_pos (show 0 < -x by grind) (show 0 < -x by grind);grind
  · exact Rat.mul_pos (by grind) (by grind)
theorem Rq {u v:Pt} (h:u≠v):0<(v.x-u.x)*(v.x-u.x)+(v.y-u.y)*(v.y-u.y):=by
  have h1:=We (v.x-u.x)
  have h2:=We (v.y-u.y)
  by_cases hx:v.x-u.x=0
  · have hy:v.y-u.y≠0:=λe=>h (Pt.ext (by grind) (by grind))
    have:=SJ hy;grind
  · have:=SJ hx;grind
section
variable {u v p a b c d A B C P:Pt} {s:Rat}
theorem HS (h:u≠v):Db u v p=true↔∃s:Rat,0<=s/\s<=1/\p=Ez u v s:=by
  have hN:=Rq h
  unfold Db
  rw [xZ,xT,xT,N2,Y4,B2,KL,G2,G2,G3,G3]
  constructor
  · rintro ⟨h1,h2⟩
    have he:((v.x-u.x)*(v.x-u.x)+(v.y-u.y)*(v.y-u.y))⁻¹*((v.x-u.x)*(v.x-u.x)+(v.y-u.y)*(v.y-u.y))=1:=Rat.inv_mul_cancel _ (by grind)
    have hi:=Rat.inv_pos.2 hN
    generalize ((v.x-u.x)*(v.x-u.x)+(v.y-u.y)*(v.y-u.y))⁻¹=e at *
    have ex:p.x-u.x=(e*((p.x-u.x)*(v.x-u.x)+(p.y-u.y)*(v.y-u.y)))*(v.x-u.x):=by grind
    have ey:p.y-u.y=(e*((p.x-u.x)*(v.x-u.x)+(p.y-u.y)*(v.y-u.y)))*(v.y-u.y):=by grind
    generalize e*((p.x-u.x)*(v.x-u.x)+(p.y-u.y)*(v.y-u.y))=s at ex ey
    have h3:0<=(s*(1-s))*((v.x-u.x)*(v.x-u.x)+(v.y-u.y)*(v.y-u.y)):=by
      have e1:u.x-p.x = -(s*(v.x-u.x)):=by grind
      have e2:v.x-p.x=(1-s)*(v.x-u.x):=by grind
      have e3:u.y-p.y = -(s*(v.y-u.y)):=by grind
      have e4:v.y-p.y=(1-s)*(v.y-u.y):=by grind
      rw [e1,e2,e3,e4] at h2
      grind
    have h4:0<=s*(1-s):=by
      have h5:=Rat.mul_nonneg h3 (Rat.le_of_lt hi)
      have e5:∀n:Rat,s*(1-s)*n*e=s*(1-s)*(e*n):=λn=>by grind
      rw [e5,he,Rat.mul_one] at h5;exact h5
    obtain ⟨h5,h6⟩:=ZH h4
    exact ⟨s,h5,h6,Pt.ext (by rw [Iq];grind) (by rw [Ir];grind)⟩
  · rintro ⟨s,h1,h2,rfl⟩
    have h3:=Rat.mul_nonneg (Rat.mul_nonneg h1 (show 0<=1-s by grind)) (Rat.le_of_lt hN)
    rw [Iq,Ir]
    exact ⟨by grind,by grind⟩
def Ds (A B C p:Pt):Rat:=AF p B C/AF A B C
def Dt (A B C p:Pt):Rat:=AF A p C/AF A B C
def DJ (A B C p:Pt):Rat:=AF A B p/AF A B C
theorem Ia (s:Rat):Ds A B C (Ez a b s)=Ds A B C a+(Ds A B C b-Ds A B C a)*s/\Dt A B C (Ez a b s)=Dt A B C a+(Dt A B C b-Dt A B C a)*s/\DJ A B C (Ez a b s)=DJ A B C a+(DJ A B C b-DJ A B C a)*s:=by
  unfold Ds Dt DJ
  rw [T0,T7,T8]
  generalize AF A B C=T
  simp only [Rat.div_def]
  generalize T⁻¹=k
  exact ⟨by grind,by grind,by grind⟩
theorem VV (h:AF A B C≠0):Ds A B C p+Dt A B C p+DJ A B C p=1/\p.x=Ds A B C p*A.x+Dt A B C p*B.x+DJ A B C p*C.x/\p.y=Ds A B C p*A.y+Dt A B C p*B.y+DJ A B C p*C.y:=by
  have hi:(AF A B C)⁻¹*AF A B C=1:=Rat.inv_mul_cancel _ h
  unfold Ds Dt DJ
  simp only [Rat.div_def]
  generalize (AF A B C)⁻¹=k at *
  simp only [B2] at *
  exact ⟨by grind,by grind,by grind⟩
theorem N7 (h:AF A B C≠0):A≠B:=λe=>h (by subst e;simp only [B2];grind)
theorem LL (h:AF A B C≠0):Db A B p=true↔DJ A B C p=0/\0<=Ds A B C p/\0<=Dt A B C p:=by
  rw [HS (N7 h)]
  have hi:(AF A B C)⁻¹*AF A B C=1:=Rat.inv_mul_cancel _ h
  constructor
  · rintro ⟨s,h1,h2,rfl⟩
    obtain ⟨e0,e1,e2⟩:=Ia (A:=A) (B:=B) (C:=C) (a:=A) (b:=B) s
    have f0:Ds A B C A=1/\Ds A B C B=0:=by
      unfold Ds;simp only [Rat.div_def];generalize (AF A B C)⁻¹=k at *;simp only [B2] at *;exact ⟨by grind,by grind⟩
    have f1:Dt A B C A=0/\Dt A B C B=1:=by
      unfold Dt;simp only [Rat.div_def];generalize (AF A B C)⁻¹=k at *;simp only [B2] at *;exact ⟨by grind,by grind⟩
    have f2:DJ A B C A=0/\DJ A B C B=0:=by
      unfold DJ;simp only [Rat.div_def];generalize (AF A B C)⁻¹=k at *;simp only [B2] at *;exact ⟨by grind,by grind⟩
    rw [e0,e1,e2,f0.1,f0.2,f1.1,f1.2,f2.1,f2.2]
    exact ⟨by grind,by grind,by grind⟩
  · rintro ⟨h2,h0,h1⟩
    obtain ⟨e1,e2,e3⟩:=VV (p:=p) h
    rw [h2] at e1 e2 e3
    generalize Ds A B C p=x at *
    generalize Dt A B C p=y at *
    refine ⟨y,h1,by grind,Pt.ext ?_ ?_⟩
    · rw [Iq,e2,show x=1-y by grind];grind
    · rw [Ir,e3,show x=1-y by grind];grind
theorem FB:Ds B C A p=Dt A B C p/\Dt B C A p=DJ A B C p/\DJ B C A p=Ds A B C p:=by
  unfold Ds Dt DJ
  rw [show AF B C A=AF A B C from Pa A B C]
  refine ⟨congrArg (· / _) ?_,congrArg (· / _) ?_,congrArg (· / _) ?_⟩<;>simp only [B2]<;>grind
end
def CD (a b c d:Pt):List Pt:=(if Db c d a=true then [a] else [])++((if Db c d b=true then [b] else [])++((if Db a b c=true then [c] else [])++(if Db a b d=true then [d] else [])))
def EN (f:Pt->Pt->Bool):Pt->List Pt->Pt
  | m,[]=>m
  | m,e::r=>EN f (if f e m=true then e else m) r
theorem FD (f:Pt->Pt->Bool):∀(l:List Pt) (m:Pt),EN f m l∈m::l
  | [],m=>xM.2 rfl
  | e::r,m=>by
    have h:=FD f r (if f e m=true then e else m)
    unfold EN
    rcases xL.1 h with h1|h1
    · rw [h1];split
      · exact List.mem_cons_of_mem _ List.mem_cons_self
      · exact List.mem_cons_self
    · exact List.mem_cons_of_mem _ (List.mem_cons_of_mem _ h1)
def G0 (a b c d:Pt):Pt:=a+Bg (b-a) (A8 (c-a) (d-c)/A8 (b-a) (d-c))
def HD (f g:Pt->Pt->Bool) (a b c d:Pt):Nat×Pt:=match CD a b c d with
  | []=>if A8 (b-a) (d-c)=0 then (0,⟨0,0⟩) else if Db a b (G0 a b c d)=true/\Db c d (G0 a b c d)=true then (1,G0 a b c d) else (0,⟨0,0⟩)
  | e::r=>if EN f e r=EN g e r then (1,EN f e r) else (2,EN f e r)
section
variable {a b c d P e:Pt} {f g:Pt->Pt->Bool}
theorem R3 (h:a≠b):Db a b a=true/\Db a b b=true:=by
  rw [HS h,HS h]
  refine ⟨⟨0,by grind,by grind,?_⟩,⟨1,by grind,by grind,?_⟩⟩<;>refine Pt.ext ?_ ?_<;>simp only [Iq,Ir]<;>grind
theorem Nb (h1:a≠b) (h2:c≠d) (h:e∈CD a b c d):Db a b e=true/\Db c d e=true:=by
  have s1:=R3 h1
  have s2:=R3 h2
  unfold CD at h
  rcases List.mem_append.1 h with h|h
  · split at h
    · rcases xM.1 h with rfl;exact ⟨s1.1,by assumption⟩
    · cases h
  · rcases List.mem_append.1 h with h|h
    · split at h
      · rcases xM.1 h with rfl;exact ⟨s1.2,by assumption⟩
      · cases h
    · rcases List.mem_append.1 h with h|h
      · split at h
        · rcases xM.1 h with rfl;exact ⟨by assumption,s2.1⟩
        · cases h
      · split at h
        · rcases xM.1 h with rfl;exact ⟨by assumption,s2.2⟩
        · cases h
theorem HE (hn:CD a b c d=[]):HD f g a b c d=if A8 (b-a) (d-c)=0 then (0,⟨0,0⟩) else if Db a b (G0 a b c d)=true/\Db c d (G0 a b c d)=true then (1,G0 a b c d) else (0,⟨0,0⟩):=by
  unfold HD;rw [hn]
theorem JB {r:List Pt} (hn:CD a b c d=e::r):HD f g a b c d=if EN f e r=EN g e r then (1,EN f e r) else (2,EN f e r):=by
  unfold HD;rw [hn]
theorem Z2 (h1:a≠b) (h2:c≠d) (h:(HD f g a b c d).1=1):Db a b (HD f g a b c d).2=true/\Db c d (HD f g a b c d).2=true:=by
  cases hn:CD a b c d with
  | nil =>
    rw [HE hn] at h ⊢
    by_cases h3:A8 (b-a) (d-c)=0
    · rw [if_pos h3] at h;cases h
    · rw [if_neg h3] at h ⊢
      by_cases h4:Db a b (G0 a b c d)=true/\Db c d (G0 a b c d)=true
      · rw [if_pos h4];exact h4
      · rw [if_neg h4] at h;cases h
  | cons e r =>
    rw [JB hn] at h ⊢
    by_cases h3:EN f e r=EN g e r
    · rw [if_pos h3]
      exact Nb h1 h2 (by rw [hn];exact FD f r e)
    · rw [if_neg h3] at h;cases h
theorem Xg (h1:a≠b) (h2:c≠d) (hk:A8 (b-a) (d-c)≠0) (hu:∀e,Db a b e=true->Db c d e=true->e=P) (p1:Db a b P=true) (p2:Db c d P=true):HD f g a b c d=(1,P):=by
  have he:∀e∈CD a b c d,e=P:=λe h=>hu e (Nb h1 h2 h).1 (Nb h1 h2 h).2
  have hm:G0 a b c d=P:=by
    obtain ⟨s,_,_,e1⟩:=(HS h1).1 p1
    obtain ⟨r,_,_,e2⟩:=(HS h2).1 p2
    have hi:(A8 (b-a) (d-c))⁻¹*A8 (b-a) (d-c)=1:=Rat.inv_mul_cancel _ hk
    have hs:A8 (c-a) (d-c)/A8 (b-a) (d-c)=s:=by
      have ex:a.x+s*(b.x-a.x)=c.x+r*(d.x-c.x):=by rw [<-Iq,<-Iq];exact congrArg Pt.x (e1.symm.trans e2)
      have ey:a.y+s*(b.y-a.y)=c.y+r*(d.y-c.y):=by rw [<-Ir,<-Ir];exact congrArg Pt.y (e1.symm.trans e2)
      rw [Rat.div_def]
      generalize (A8 (b-a) (d-c))⁻¹=k at *
      simp only [Mh,G2,G3] at *
      have e3:(c.x-a.x)*(d.y-c.y)-(c.y-a.y)*(d.x-c.x)=s*((b.x-a.x)*(d.y-c.y)-(b.y-a.y)*(d.x-c.x)):=by
        have h3:c.x-a.x=s*(b.x-a.x)-r*(d.x-c.x):=by grind
        have h4:c.y-a.y=s*(b.y-a.y)-r*(d.y-c.y):=by grind
        rw [h3,h4];grind
      rw [e3];grind
    unfold G0
    rw [hs,e1];rfl
  cases hn:CD a b c d with
  | nil=>rw [HE hn,if_neg hk,hm,if_pos ⟨p1,p2⟩]
  | cons e r =>
    have m1:=he _ (by rw [hn];exact FD f r e)
    have m2:=he _ (by rw [hn];exact FD g r e)
    rw [JB hn,m1,m2,if_pos rfl]
end
end
end Go.Proofs.YtcpkbjjmcleplaaGreatDoor
