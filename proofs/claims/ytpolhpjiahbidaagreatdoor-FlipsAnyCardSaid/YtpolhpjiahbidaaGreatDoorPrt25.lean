import Derived.Test.YtpolhpjiahbidaaGreatDoorPrt24
namespace Go.Proofs.YtpolhpjiahbidaaGreatDoor
open Go Go.RowKit Go.Proofs.Tryz
open Go.Value renaming slice→qz,bool→qa
set_option linter.unusedVariables false
set_option linter.unusedSimpArgs false
section
set_option maxRecDepth 100000
def J1 (x y z:Pt):Pt:=x+⟨(Av (y-x) (y-x)*(z-x).y-Av (z-x) (z-x)*(y-x).y)/(((2:Int):Rat)*Ar (y-x) (z-x)),(Av (z-x) (z-x)*(y-x).x-Av (y-x) (y-x)*(z-x).x)/(((2:Int):Rat)*Ar (y-x) (z-x))⟩
theorem VC (u v:Rat):BV (⟨u,v⟩:Pt)<=Sz u+Sz v:=Nc (by show Sz u<=_;omega) (by show Sz v<=_;omega)
theorem F9 {r0:Rat} (x0:FX r0) {r1:Rat} (x1:FX r1):Instr.fill ([(0,3),(3,3)].toArray[·]?) ([(qa false),jj,jj,(qa false),jj,jj]).toArray [(0,.agg (fxL x0).toArray),(1,.agg (fxL x1).toArray)]=some (fxL x0++fxL x1).toArray:=by kernel_rfl
theorem Pp {x y z:Pt} (a:PX x) (b:PX y) (d:PX z) (hs:BV x+BV y+BV z<=4096) (w:World) {S:Nat->Prop} (ha:Ro S w a) (hb:Ro S w b) (hd:Ro S w d)  :Calls prog 197 #[(aG (BU a)),(aG (BU b)),(aG (BU d))] w (Ai (PX (J1 x y z)) S w):=by
 have hq0:=Cp (y-x)
 have hq1:=Cp (z-x)
 have hq2:=Cq (y-x)
 have hq3:=Cq (z-x)
 have st:=QP
 have la:=Bq (W:=w) ha
 have lb:=Bq (W:=w) hb
 have ld:=Bq (W:=w) hd
 refine AR (args:=[(aG (BU a)),(aG (BU b)),(aG (BU d))]) (L:=[BM a.x.z.n,BM a.x.m,BM a.y.z.n,BM a.y.m,BM b.x.z.n,BM b.x.m,BM b.y.z.n,BM b.y.m,BM d.x.z.n,BM d.x.m,BM d.y.z.n,BM d.y.m]) func197 O O (leB O) (Kb ha (Kb hb (Kb hd Ae))) (zM (sL [0,1,2] O) (q4 (BG (cs:=BU a) O λb1=>BG (cs:=BU b) O λb2=>BG (cs:=BU d) O λb3=>al FA O λb4=>q3 (sL [3,4,5,6] O) (An 2 BK O (An 3 BK O ?_)))))
 have hz1:=B0 y x
 refine cP (S:=S) (x:=(y-x)) (args:=[(aG (BU b)),(aG (BU a))]) call116 (λw hw=>E2 b a Z w (inS hw 8 O lb) (inS hw 4 O la)) O O O λg1 lg1=>al FA O λb5=>Aj O sizeOf121 O (q3 (sL [3,5,6,7] O) (An 6 BK O (An 8 BK O ?_)))
 have hz2:=B0 z x
 refine cP (S:=S) (x:=(z-x)) (args:=[(aG (BU d)),(aG (BU a))]) call116 (λw hw=>E2 d a Z w (inS hw 17 O ld) (inS hw 9 O la)) O O O λg2 lg2=>al FA O λb6=>Aj O sizeOf121 O (q6 (sL [3,6,7,8] O) (rN [(1,true),(2,true),(0,false),(3,false),(4,false)] [⟨5,9,83,[(qa false),jj,jj]⟩] [(6,false)] sr jV (λ_ _ d _ _ h=>by cases d<;>exact h) (EP O O Fo O (Fk)) O (DN 5 BK O (DN 0 BK O (zi O λEF EL=>cF (S:=S) (x:=(((2:Int):Int):Rat)) (args:=[(vI 2)]) call94 (λw hw=>D1 (2:Int) Z Z w) O O O λg3 lg3=>zy (sl (sl sr)) O (zi O λEF EL=>?_))))))
 have hz3:=Dp (y-x) (z-x)
 refine cF (S:=S) (x:=(Ar (y-x) (z-x))) (args:=[(aG (BU g1)),(aG (BU g2))]) call144 (λw hw=>IJ g1 g2 Z w (inS hw 8 O lg1) (inS hw 3 O lg2)) O O O λg4 lg4=>zy (sl (sl (sl (sl sr)))) O (zi O λEF EL=>?_)
 have hz4:=Bo (((2:Int):Int):Rat) (Ar (y-x) (z-x))
 refine cF (S:=S) (x:=((((2:Int):Int):Rat)*(Ar (y-x) (z-x)))) (args:=[(aG (fxL g3)),(aG (fxL g4))]) call98 (λw hw=>D4 g3 g4 (by (try simp only [BO]);omega) w (inS hw 2 O lg3) (inS hw 0 O lg4)) O O O λg5 lg5=>zy (sl (sl (sl (sl (sl (sl sr)))))) O (yI λb7=>zL O (Aj O sizeOf83 O (zG (sl (sl (sl (sl (sl (sl (sl sr))))))) (zT (zF (sL [3,6,7,8,9] O) (q1 (rN [(0,true),(1,true),(3,true),(4,true),(6,true),(7,true),(9,true),(10,true),(2,false),(5,false),(8,false),(11,false),(12,false)] [⟨13,10,83,[(qa false),jj,jj]⟩] [(14,false)] sr jV (λ_ _ d _ _ h=>by cases d<;>exact h) (EP O O Fo O (Fk)) O (DN 12 BK O (DN 12 BK O ?_)))))))))
 refine FP (v:=(pP b6 3)) O (AA O underlying121 O sizeOf83 O) O (Ri 7 (fxL g2.y) B9 O (DN 7 BK O (DN 7 BK O (FP (v:=(pP b5 3)) O (AA O underlying121 O sizeOf83 O) O (Ri 12 (fxL g1.y) B9 O (zi O λEF EL=>?_))))))
 have hz5:=D6 (y-x) (y-x)
 refine cF (S:=S) (x:=(Av (y-x) (y-x))) (args:=[(aG (BU g1)),(aG (BU g1))]) call125 (λw hw=>HK g1 g1 Z w (inS hw 13 O lg1) (inS hw 13 O lg1)) O O O λg6 lg6=>zy (sl (sl sr)) O (zi O λEF EL=>?_)
 have hz6:=Bo (Av (y-x) (y-x)) ((z-x).y)
 refine cF (S:=S) (x:=((Av (y-x) (y-x))*((z-x).y))) (args:=[(aG (fxL g6)),(aG (fxL g2.y))]) call98 (λw hw=>D4 g6 g2.y (by (try simp only [BO]);omega) w (inS hw 0 O lg6) (Um (inS hw 10 O lg2))) O O O λg7 lg7=>zy (sl (sl (sl (sl sr)))) O (zi O λEF EL=>?_)
 have hz7:=D6 (z-x) (z-x)
 refine cF (S:=S) (x:=(Av (z-x) (z-x))) (args:=[(aG (BU g2)),(aG (BU g2))]) call125 (λw hw=>HK g2 g2 Z w (inS hw 12 O lg2) (inS hw 12 O lg2)) O O O λg8 lg8=>zy (sl (sl (sl (sl (sl (sl sr)))))) O (zi O λEF EL=>?_)
 have hz8:=Bo (Av (z-x) (z-x)) ((y-x).y)
 refine cF (S:=S) (x:=((Av (z-x) (z-x))*((y-x).y))) (args:=[(aG (fxL g8)),(aG (fxL g1.y))]) call98 (λw hw=>D4 g8 g1.y (by (try simp only [BO]);omega) w (inS hw 0 O lg8) (Um (inS hw 19 O lg1))) O O O λg9 lg9=>zy (sl (sl (sl (sl (sl (sl (sl (sl sr)))))))) O (zi O λEF EL=>?_)
 have hz9:=EK ((Av (y-x) (y-x))*((z-x).y)) ((Av (z-x) (z-x))*((y-x).y))
 refine cF (S:=S) (x:=(((Av (y-x) (y-x))*((z-x).y))-((Av (z-x) (z-x))*((y-x).y)))) (args:=[(aG (fxL g7)),(aG (fxL g9))]) call127 (λw hw=>Hl g7 g9 (by (try simp only [BO]);omega) w (inS hw 4 O lg7) (inS hw 0 O lg9)) O O O λg10 lg10=>zy (sl (sl (sl (sl (sl (sl (sl (sl (sl (sl sr)))))))))) O (yI λb8=>zL O (Aj O sizeOf83 O (zG (sl (sl (sl (sl (sl (sl (sl (sl (sl (sl (sl sr))))))))))) (zT (zF (sL [3,6,7,8,9,10] O) (q1 (rN [(0,true),(1,true),(3,true),(4,true),(6,true),(7,true),(9,true),(10,true),(2,false),(5,false),(8,false),(11,false),(12,false)] [⟨13,11,83,[(qa false),jj,jj]⟩] [(14,false)] sr jV (λ_ _ d _ _ h=>by cases d<;>exact h) (EP O O Fo O (Fk)) O (DN 18 BK O (DN 18 BK O ?_)))))))))
 refine FP (v:=(pP b5 0)) O (AA O underlying121 O sizeOf83 O) O (Ri 23 (fxL g1.x) B9 O (DN 23 BK O (DN 23 BK O (FP (v:=(pP b6 0)) O (AA O underlying121 O sizeOf83 O) O (Ri 18 (fxL g2.x) B9 O (zi O λEF EL=>?_))))))
 have hz10:=D6 (z-x) (z-x)
 refine cF (S:=S) (x:=(Av (z-x) (z-x))) (args:=[(aG (BU g2)),(aG (BU g2))]) call125 (λw hw=>HK g2 g2 Z w (inS hw 19 O lg2) (inS hw 19 O lg2)) O O O λg11 lg11=>zy (sl (sl sr)) O (zi O λEF EL=>?_)
 have hz11:=Bo (Av (z-x) (z-x)) ((y-x).x)
 refine cF (S:=S) (x:=((Av (z-x) (z-x))*((y-x).x))) (args:=[(aG (fxL g11)),(aG (fxL g1.x))]) call98 (λw hw=>D4 g11 g1.x (by (try simp only [BO]);omega) w (inS hw 0 O lg11) (UL (inS hw 26 O lg1))) O O O λg12 lg12=>zy (sl (sl (sl (sl sr)))) O (zi O λEF EL=>?_)
 have hz12:=D6 (y-x) (y-x)
 refine cF (S:=S) (x:=(Av (y-x) (y-x))) (args:=[(aG (BU g1)),(aG (BU g1))]) call125 (λw hw=>HK g1 g1 Z w (inS hw 28 O lg1) (inS hw 28 O lg1)) O O O λg13 lg13=>zy (sl (sl (sl (sl (sl (sl sr)))))) O (zi O λEF EL=>?_)
 have hz13:=Bo (Av (y-x) (y-x)) ((z-x).x)
 refine cF (S:=S) (x:=((Av (y-x) (y-x))*((z-x).x))) (args:=[(aG (fxL g13)),(aG (fxL g2.x))]) call98 (λw hw=>D4 g13 g2.x (by (try simp only [BO]);omega) w (inS hw 0 O lg13) (UL (inS hw 25 O lg2))) O O O λg14 lg14=>zy (sl (sl (sl (sl (sl (sl (sl (sl sr)))))))) O (zi O λEF EL=>?_)
 have hz14:=EK ((Av (z-x) (z-x))*((y-x).x)) ((Av (y-x) (y-x))*((z-x).x))
 refine cF (S:=S) (x:=(((Av (z-x) (z-x))*((y-x).x))-((Av (y-x) (y-x))*((z-x).x)))) (args:=[(aG (fxL g12)),(aG (fxL g14))]) call127 (λw hw=>Hl g12 g14 (by (try simp only [BO]);omega) w (inS hw 4 O lg12) (inS hw 0 O lg14)) O O O λg15 lg15=>zy (sl (sl (sl (sl (sl (sl (sl (sl (sl (sl sr)))))))))) O (yI λb9=>zL O (Aj O sizeOf83 O (zG (sl (sl (sl (sl (sl (sl (sl (sl (sl (sl (sl sr))))))))))) (zT (zF (sL [3,6,7,8,9,10,11] O) (q1 (CE [(0,true),(1,true),(2,true),(4,true),(5,true),(3,false),(6,false),(7,true),(8,false),(9,false)] (sk (sk (sk (sk (sk (sk (sk (sk (sk (sk (sk (sk (sk (sk (sk (sk (sk (sk (sk (sk (sk (sk (sk (sk (sk (sk (sk (sk (sk (sk (sk (sk (sk (sk (sk (sk (sk (sk (sk (sl sr)))))))))))))))))))))))))))))))))))))))) (C3 41 BK O (C3 11 B9 O ?_)))))))))
 refine C3 22 B9 O (C3 0 B9 O (C3 22 B9 O (zL O ?_)))
 have hz15:=FB (((Av (y-x) (y-x))*((z-x).y))-((Av (z-x) (z-x))*((y-x).y))) ((((2:Int):Int):Rat)*(Ar (y-x) (z-x)))
 refine cF (S:=S) (x:=((((Av (y-x) (y-x))*((z-x).y))-((Av (z-x) (z-x))*((y-x).y)))/((((2:Int):Int):Rat)*(Ar (y-x) (z-x))))) (args:=[(aG (fxL g10)),(aG (fxL g5))]) call97 (λw hw=>Hk g10 g5 (by (try simp only [BO]);omega) w (inS hw 12 O lg10) (inS hw 23 O lg5)) O O O λg16 lg16=>zG (sl (sl (sk (sk (sk (sk (sk (sk (sk (sk (sk (sk (sk (sk (sk (sk (sk (sk (sk (sk (sk (sk (sk (sk (sk (sk (sk (sk (sk (sk (sk (sk (sk (sk (sk (sk (sk (sk (sk (sk (sk (sl sr)))))))))))))))))))))))))))))))))))))))))) (zL O ?_)
 have hz16:=FB (((Av (z-x) (z-x))*((y-x).x))-((Av (y-x) (y-x))*((z-x).x))) ((((2:Int):Int):Rat)*(Ar (y-x) (z-x)))
 refine cF (S:=S) (x:=((((Av (z-x) (z-x))*((y-x).x))-((Av (y-x) (y-x))*((z-x).x)))/((((2:Int):Int):Rat)*(Ar (y-x) (z-x))))) (args:=[(aG (fxL g15)),(aG (fxL g5))]) call97 (λw hw=>Hk g15 g5 (by (try simp only [BO]);omega) w (inS hw 3 O lg15) (inS hw 25 O lg5)) O O O λg17 lg17=>zG (sl (sl (sl (sl (sk (sk (sk (sk (sk (sk (sk (sk (sk (sk (sk (sk (sk (sk (sk (sk (sk (sk (sk (sk (sk (sk (sk (sk (sk (sk (sk (sk (sk (sk (sk (sk (sk (sk (sk (sk (sk (sk (sk (sl sr)))))))))))))))))))))))))))))))))))))))))))) (Ag (v:=(aG (fxL g16++fxL g17))) O (AO (zs:=[(qa false),jj,jj,(qa false),jj,jj]) (vs:=fxL g16++fxL g17) (pv:=[(0,(aG (fxL g16))),(1,(aG (fxL g17)))]) (places:=[(0,3),(3,3)]) zeroValue121 underlying121 (λw=>by simp [sizeOf83]) O (F9 g16 g17)) (zL O ?_))
 have hpm:=VC ((Av (y-x) (y-x)*(z-x).y-Av (z-x) (z-x)*(y-x).y)/(((2:Int):Rat)*Ar (y-x) (z-x))) ((Av (z-x) (z-x)*(y-x).x-Av (y-x) (y-x)*(z-x).x)/(((2:Int):Rat)*Ar (y-x) (z-x)))
 have hz17:=R0 x (⟨(((Av (y-x) (y-x))*((z-x).y))-((Av (z-x) (z-x))*((y-x).y)))/((((2:Int):Int):Rat)*(Ar (y-x) (z-x))),(((Av (z-x) (z-x))*((y-x).x))-((Av (y-x) (y-x))*((z-x).x)))/((((2:Int):Int):Rat)*(Ar (y-x) (z-x)))⟩:Pt)
 exact cP (S:=S) (x:=(x+(⟨(((Av (y-x) (y-x))*((z-x).y))-((Av (z-x) (z-x))*((y-x).y)))/((((2:Int):Int):Rat)*(Ar (y-x) (z-x))),(((Av (z-x) (z-x))*((y-x).x))-((Av (y-x) (y-x))*((z-x).x)))/((((2:Int):Int):Rat)*(Ar (y-x) (z-x)))⟩:Pt))) (args:=[(aG (BU a)),(aG (fxL g16++fxL g17))]) call114 (λw hw=>XO a (PX.mk g16 g17:PX (⟨(((Av (y-x) (y-x))*((z-x).y))-((Av (z-x) (z-x))*((y-x).y)))/((((2:Int):Int):Rat)*(Ar (y-x) (z-x))),(((Av (z-x) (z-x))*((y-x).x))-((Av (y-x) (y-x))*((z-x).x)))/((((2:Int):Int):Rat)*(Ar (y-x) (z-x)))⟩:Pt)) Z w (inS hw 47 O la) (YD (inS hw 2 O lg16) (inS hw 0 O lg17))) O O O λg18 lg18=>zG (sl (sl (sl (sl (sl (sl (sl (sl (sk (sk (sk (sk (sk (sk (sk (sk (sk (sk (sk (sk (sk (sk (sk (sk (sk (sk (sk (sk (sk (sk (sk (sk (sk (sk (sk (sk (sk (sk (sk (sk (sk (sk (sk (sk (sk (sk (sk (sl sr)))))))))))))))))))))))))))))))))))))))))))))))) (zL O (Ei 47 (off:=0) (vs:=BU g18) (cs':=BU g18) (AM O) O sizeOf121 O (zG (sl (sl (sl (sl (sl (sl (sl (sl (sk (sk (sk (sk (sk (sk (sk (sk (sk (sk (sk (sk (sk (sk (sk (sk (sk (sk (sk (sk (sk (sk (sk (sk (sk (sk (sk (sk (sk (sk (sk (sk (sk (sk (sk (sk (sk (sk (sk (sl sr)))))))))))))))))))))))))))))))))))))))))))))))) (zT (zF (sL [3,6,7,8,9,10,11] O) (zC (zH (ret_one O (Ah (i:=47) (cs:=BU g18) O O isAgg121 sizeOf121 O) (λw hw=>DR (a:=(g18:PX (J1 x y z))) hw (inS hw 0 O lg18) O)))))))))
end
section
section
variable {w0:BA} {S:Nat->Prop} {L:List As} {w:World} {ps:List Pt}
theorem GL {rs:List RP} {i:Nat} (hw:BE w0 w L) (k:Nat) (hk:L.drop k=B5 rs) (hi:i<rs.length) (ha:∀y∈B5 rs,∀b,y.foot=some b->Nw w0 S b):Ro (SL w0 S L) w (rs.getD i Cn).x :=
  bQ hw (λy hy=>List.mem_of_mem_drop (i:=k) (by rw [hk];exact hy)) hi ha
theorem EY {ts:List T3} {ss:List Z3} {x:I5 ps ts ss} (hw:BE w0 w L) (i:Nat) (hi:(L.drop i).take 3=[x.a.row,x.b.row,x.c.row]) (k:Nat) (hk:L.drop k=B5 x.rs) (ha:At w0 S x):Ro (SL w0 S L) w x :=
  fb hw i hi (λy hy=>List.mem_of_mem_drop (i:=k) (by rw [hk];exact hy)) ha
theorem WE {ts ss:List Z3} {x:Hy ps ts ss} (hw:BE w0 w L) (i:Nat) (hi:(L.drop i).take 3=[x.a.row,x.b.row,x.c.row]) (k:Nat) (hs:∀y∈B5 x.rs,y∈L.drop k) (ha:At w0 S x):Ro (SL w0 S L) w x :=
  dl hw i hi (λy hy=>List.mem_of_mem_drop (hs y hy)) ha
theorem aM {ts ss:List Z3} {x:Hy ps ts ss} (hw:BE w0 w L) (i:Nat) (hi:(L.drop i).take 3=[x.a.row,x.b.row,x.c.row]) (k:Nat) (hs:∀y∈B5 x.rs,y∈L.drop k):Ro dQ w x :=
  fc hw i hi (λy hy=>List.mem_of_mem_drop (hs y hy))
end
theorem be (a b c:Pt):J1 a b c=Ey a b c:=by
  unfold J1 Ey
  have i1:((1:Int):Rat)=1:=rfl
  generalize ((2:Int):Rat)*Ar (b-a) (c-a)=A
  generalize Av (b-a) (b-a)=U
  generalize Av (c-a) (c-a)=V
  refine Pt.ext ?_ ?_
  · simp only [aF,Pv,Pw,St,i1,Rat.div_def];grind
  · simp only [aH,Pv,Pw,Su,i1,Rat.div_def];grind
theorem VB {a b c:Pt} (ha:BV a<=1000) (hb:BV b<=1000) (hc:BV c<=1000):BV (J1 a b c)<=60000:=by
  have u:=B0 b a
  have v:=B0 c a
  have uu:=D6 (b-a) (b-a)
  have vv:=D6 (c-a) (c-a)
  have cr:=Dp (b-a) (c-a)
  have two:Sz ((2:Int):Rat)<=4:=by decide +kernel
  have ar:=Bo ((2:Int):Rat) (Ar (b-a) (c-a))
  have ux:=Cp (b-a)
  have uy:=Cq (b-a)
  have vx:=Cp (c-a)
  have vy:=Cq (c-a)
  have m1:=Bo (Av (b-a) (b-a)) (c-a).y
  have m2:=Bo (Av (c-a) (c-a)) (b-a).y
  have m3:=Bo (Av (c-a) (c-a)) (b-a).x
  have m4:=Bo (Av (b-a) (b-a)) (c-a).x
  have s1:=EK (Av (b-a) (b-a)*(c-a).y) (Av (c-a) (c-a)*(b-a).y)
  have s2:=EK (Av (c-a) (c-a)*(b-a).x) (Av (b-a) (b-a)*(c-a).x)
  have d1:=FB (Av (b-a) (b-a)*(c-a).y-Av (c-a) (c-a)*(b-a).y) (((2:Int):Rat)*Ar (b-a) (c-a))
  have d2:=FB (Av (c-a) (c-a)*(b-a).x-Av (b-a) (b-a)*(c-a).x) (((2:Int):Rat)*Ar (b-a) (c-a))
  have p:=VC ((Av (b-a) (b-a)*(c-a).y-Av (c-a) (c-a)*(b-a).y)/(((2:Int):Rat)*Ar (b-a) (c-a))) ((Av (c-a) (c-a)*(b-a).x-Av (b-a) (b-a)*(c-a).x)/(((2:Int):Rat)*Ar (b-a) (c-a)))
  have q:=R0 a (⟨(Av (b-a) (b-a)*(c-a).y-Av (c-a) (c-a)*(b-a).y)/(((2:Int):Rat)*Ar (b-a) (c-a)),(Av (c-a) (c-a)*(b-a).x-Av (b-a) (b-a)*(c-a).x)/(((2:Int):Rat)*Ar (b-a) (c-a))⟩:Pt)
  unfold J1
  omega
theorem Qb {a b c d:Pt} (h:(Aa a b c).num.sign=0):Kn a b c d=0:=if_pos (Rat.num_eq_zero.1 (Int.sign_eq_zero_iff_zero.1 h))
theorem TI {a b c d:Pt} (h:¬(Aa a b c).num.sign=0):Kn a b c d=E5 (Av (J1 a b c-a) (J1 a b c-a)) (Av (J1 a b c-d) (J1 a b c-d)):=by
  unfold Kn
  rw [if_neg (λe=>h (by rw [e];rfl)),be,Rb a,Rb d]
section
variable {ps:List Pt} {ts:List T3} {ss:List Z3} {x:I5 ps ts ss} {a b c d:Nat}
theorem YX (ha:a<x.rs.length) (hb:b<x.rs.length) (hc:c<x.rs.length) (hd:d<x.rs.length):Kn (x.rs.getD a Cn).p (x.rs.getD b Cn).p (x.rs.getD c Cn).p (x.rs.getD d Cn).p=Es (BQ ps a) (BQ ps b) (BQ ps c) (BQ ps d):=by
  rw [x.at ha,x.at hb,x.at hc,x.at hd,VY];rfl
theorem OM (ha:a<x.rs.length) (hb:b<x.rs.length) (hc:c<x.rs.length):(Aa (x.rs.getD a Cn).p (x.rs.getD b Cn).p (x.rs.getD c Cn).p).num.sign=(Aa (BQ ps a) (BQ ps b) (BQ ps c)).num.sign:=by
  rw [x.at ha,x.at hb,x.at hc];rfl
end
theorem VZ {a b c d:Pt}:decide (Es a b c d<=0)=decide (Es a b c d≠1):=decide_eq_decide.2 (VX a b c d)
def aC:Pt:=⟨((0:Int):Rat),((0:Int):Rat)⟩
def DM (p:Pt):Rat:=Av (aC-p) (aC-p)
def aP (ps:List Pt) (t:T3):Rat:=D_ (BQ ps t.1) (BQ ps t.2.1) (BQ ps t.2.2)*(DM (BQ ps t.1)+(DM (BQ ps t.2.1)+DM (BQ ps t.2.2)))/((3:Int):Rat)
def WY (ps:List Pt) (ts:List T3):Nat->Rat
  | 0=>((0:Int):Rat)
  | i+1=>WY ps ts i+aP ps (ts.getD i (0,0,0))
theorem ba (ps:List Pt) (t:T3):aP ps t=N3 ps t*(((1:Int):Rat)/((3:Int):Rat)):=by
  unfold aP N3 aW
  have e:∀p:Pt,DM p=Jt p:=λp=>(Rb aC p).trans rfl
  have i1:((1:Int):Rat)=1:=rfl
  rw [VN,e,e,e,i1,Rat.div_def,Rat.div_def]
  generalize (((3:Int):Rat))⁻¹=k
  grind
theorem Q5 (ps:List Pt) (ts:List T3):∀i,WY ps ts i=Hv ps ts i*(((1:Int):Rat)/((3:Int):Rat))
  | 0=>by
    show ((0:Int):Rat)=0*_
    rw [Rat.zero_mul];rfl
  | i+1=>by
    show WY ps ts i+aP ps (ts.getD i (0,0,0))=(Hv ps ts i+N3 ps (ts.getD i (0,0,0)))*_
    rw [Q5 ps ts i,ba,Rat.add_mul]
theorem bb {ps:List Pt} (hz:∀k,BV (BQ ps k)<=1000) (ts:List T3) (i:Nat):Sz (WY ps ts i)<=10+i*20312:=by
  have h:=If hz ts i
  have h1:=Bo (Hv ps ts i) (((1:Int):Rat)/((3:Int):Rat))
  have h2:Sz (((1:Int):Rat)/((3:Int):Rat))<=8:=by decide +kernel
  rw [Q5];omega
theorem ZC (ps:List Pt) (ts:List T3):WY ps ts ts.length=HA ps ts:=Q5 ps ts ts.length
theorem Xl:BV aC<=10:=by decide +kernel
theorem Ra {p:Pt} (h:BV p<=1000):Sz (DM p)<=4100:=by
  have h1:=B0 aC p
  have h2:=D6 (aC-p) (aC-p)
  have h3:=Xl
  unfold DM;omega
theorem Ty (A M R:List As):(A++(M++R)).Perm (M++(A++R)):=by
  rw [<-List.append_assoc,<-List.append_assoc]
  exact List.perm_append_comm.append_right R
def dB (ps:List Pt) (zt:List Z3) (x y:Int):Bool:=if DA ps.length zt=true then Y9 ps (zt.map HD) x y else false
def aN (N:Nat) (zt:List Z3) (x y:Int):Nat:=if DA N zt=true then Y_ (zt.map HD) x y else 1
def Jx (ps:List Pt) (zt:List Z3) (x y:Int):List Pt:=if DA ps.length zt=true then Uh ps (zt.map HD) x y else []
def IZ (ps:List Pt) (zt:List Z3) (x y:Int):List Z3:=if DA ps.length zt=true then (Uj ps (zt.map HD) x y).map CH else []
def IY (ps:List Pt) (zt ss:List Z3) (x y:Int):List Z3:=if DA ps.length zt=true then Ui ps (zt.map HD) ss x y else []
def YB (ps:List Pt) (zt:List Z3) (x y:Int):Nat:=if DA ps.length zt=true then Ug ps (zt.map HD) x y else 1
def YC (ps:List Pt) (zt:List Z3):Rat:=if DA ps.length zt=true then HA ps (zt.map HD) else 0
section
variable {ps:List Pt} {zt ss:List Z3} {x y:Int}
theorem bZ (hz:∀k,BV (BQ ps k)<=1000):Sz (YC ps zt)<=10+zt.length*20312:=by
  unfold YC;split
  · have h:=ZA hz (zt.map HD);rw [xv] at h;exact h
  · exact xx (show Sz (0:Rat)<=10 by decide +kernel) (Nat.le_add_right _ _)
theorem Mx:Jx ps zt x y=ps\/Jx ps zt x y=[]:=by
  unfold Jx Uh;split
  · split
    · exact .inl O
    · exact .inr O
  · exact .inr O
theorem Yq:(IZ ps zt x y).length<=zt.length:=by
  unfold IZ Uj;split
  · split
    · rw [xv];unfold de;rw [G6,xv];exact Nat.le_refl _
    · exact xu _
  · exact xu _
theorem Yp:(IY ps zt ss x y).length<=ss.length:=by
  unfold IY Ui;split
  · split
    · exact Nat.le_refl _
    · exact xu _
  · exact xu _
end
structure dH (ps:List Pt) (ts ss:List Z3) (e:Nat) where
  x:MZ ps ts ss
instance {ps:List Pt} {ts ss:List Z3} {e:Nat}:Cl (dH ps ts ss e):=⟨λr=>.tuple #[aG (Cv r.x),vN e],λr=>[r.x.a.row,r.x.b.row,r.x.c.row],λr y hy=>Sd hy⟩
theorem Ai.toFlZ {S:Nat->Prop} {W w:World} {en:Ending} {ps:List Pt} {ts:List T3} {ss:List Z3} {e:Nat} (h:Ai (S7 ps ts ss e) S W en w):Ai (dH ps (ts.map CH) ss e) S W en w:=by
  obtain ⟨a,h1,h2,h3⟩:=h
  obtain ⟨y,hy,hro⟩:=PY a.x
  exact ⟨⟨y⟩,by rw [h1];show Ending.returned (Value.tuple #[aG (Ca a.x),vN e])=.returned (.tuple #[aG (Cv y),vN e]);rw [hy],h2,λz hz=>hro (λz hz=>h3 z hz) z hz⟩
structure X_ (ps:List Pt) (ts ss:List Z3) (e:Nat) where
  x:Hy ps ts ss
instance {ps:List Pt} {ts ss:List Z3} {e:Nat}:Cl (X_ ps ts ss e):=⟨λr=>.tuple #[aG (HN r.x),vN e],λr=>[r.x.a.row,r.x.b.row,r.x.c.row]++B5 r.x.rs,λr y hy=>XR hy⟩
theorem It {S:Nat->Prop} {W w:World} {L:List As} (hw:BE ⟨W,none⟩ w L) (e:Nat) {v:Value} (hv:v=.tuple #[aG [.slice none 0 0,.slice none 0 0,.slice none 0 0],vN e]):Ai (X_ [] [] [] e) S W (.returned v) w:=by
  refine ⟨⟨⟨[],rfl,⟨none,0,OwnOk.none.row⟩,⟨none,0,OwnOk.none.row⟩,⟨none,0,OwnOk.none.row⟩⟩⟩,by rw [hv];rfl,hw.out,λy hy=>?_⟩
  have hy:y∈[AC none (rowsL CW []),AC none (rowsL Af []),AC none (rowsL Af [])]:=hy
  simp only [xy,List.not_mem_nil,or_false] at hy
  rcases hy with rfl|rfl|rfl<;>exact ⟨(λb e=>by cases e),(λb e=>by cases e)⟩
theorem bK {S:Nat->Prop} {W w:World} {ps:List Pt} {ts ss:List Z3} {v u:Value} (e:Nat) (hu:u=.tuple #[v,vN e]) (h:Ai (Hy ps ts ss) S W (.returned v) w):Ai (X_ ps ts ss e) S W (.returned u) w:=by
  obtain ⟨a,h1,h2,h3⟩:=h
  have h1:Ending.returned v=.returned (aG (HN a)):=h1
  injection h1 with h1
  exact ⟨⟨a⟩,by rw [hu,h1];rfl,h2,λz hz=>h3 z hz⟩
end
section
set_option maxRecDepth 100000
theorem S6 {ps:List Pt} {zt ss:List Z3} (x:MZ ps zt ss) (hnb:DA ps.length zt=false) (hl:zt.length<=1000000) (w:World) {S:Nat->Prop} (hx:Ro S w x):Calls prog 34 #[(aG (Cv x))] w (AX w jj):=by
 have lx:=Bq (W:=w) hx
 refine AR (args:=[(aG (Cv x))]) (L:=[AC x.a.p (rowsL Ad ps),AC x.b.p (rowsL Af zt),AC x.c.p (rowsL Af ss)]) func34 O O (leB O) (C7 hx Ae) (zM (sL [0] O) (q4 (BG (cs:=Cv x) O λb1=>asg' O (q6 (sL [1,2] O) (q4 (An 0 Bu O (Bx (args:=[(aG (Cv x))]) (v:=(qa false)) call43 (λw hw=>(by have h9:=Kf x.rq Z w (br (inS hw 1 O lx));rw [hnb] at h9;exact h9)) O (st' (BB (c:=true) O O) O (oNl' (zF (sL [1,2,5] O) ?_))))))))))
 exact zC (zZ O (q4 (asg' O (oNl' (zF (sL [1,2] O) (zC (zH (zI (ret_one O (rd_tmp (v:=jj) O) (λw hw=>⟨rfl,hw.out⟩))))))))))
theorem K7  :Instr.fill ([(0,1),(1,1),(2,1),(3,1)].toArray[·]?) (Ba jA).toArray []=some (Ba jA).toArray:=by kernel_rfl
theorem O5 {ps:List Pt} {zt ss:List Z3} (x:MZ ps zt ss) (u v:Int) (hnb:DA ps.length zt=false) (hl:zt.length<=1000000) (w:World) {S:Nat->Prop} (hx:Ro S w x):Calls prog 79 #[(aG (Cv x)),(vI u),(vI v)] w (AX w (Value.tuple #[(aG (Ba E0)),(qa false)])):=by
 have lx:=Bq (W:=w) hx
 refine AR (args:=[(aG (Cv x)),(vI u),(vI v)]) (L:=[AC x.a.p (rowsL Ad ps),AC x.b.p (rowsL Af zt),AC x.c.p (rowsL Af ss)]) func79 O O (leB O) (C7 hx Ae) (zM (sL [0,1,2] O) (q4 (BG (cs:=Cv x) O λb1=>al Hx O λb2=>asg' O (q6 (sL [1,2,3,6,7] O) (q4 (An 1 Bu O (Bx call34 (λw hw=>S6 x hnb hl w (inS hw 2 O lx)) O (st' (v:=(vI 0)) (AD O underlying46) O (AJ O ?_)))))))))
 refine oNl' (zF (sL [1,2,6,7,11,12,13] O) (zC (zN (yG 1 (zk (q4 (st' (AW (c:=false) O O jY) O (oNl' (q1 (zX O (zY ?_)))))))))))
 exact zR (zR (zV (q2 (st' (v:=(aG (Ba jA))) (AO (zs:=Ba jA) (vs:=Ba jA) (pv:=[]) (places:=[(0,1),(1,1),(2,1),(3,1)]) zeroValue49 underlying49 (λw=>by simp [sizeOf3]) O (K7 )) O (Aj O sizeOf49 O (asg' O (oNl' (zF (sL [1,2,6,7,11,12,13] O) (zC (zH (BR O (Ah (i:=0) (cs:=Ba jA) O O isAgg49 sizeOf49 O) (rd_tmp (v:=(qa false)) O) (λw hw=>⟨rfl,hw.out⟩))))))))))))
theorem S_ {ps:List Pt} {zt ss:List Z3} (x:MZ ps zt ss) (u v:Int) (hnb:DA ps.length zt=false) (hl:zt.length<=1000000) (w:World) {S:Nat->Prop} (hx:Ro S w x):Calls prog 26 #[(aG (Cv x)),(vI u),(vI v)] w (AX w (Value.tuple #[(qa false),(vI 1)])):=by
 have lx:=Bq (W:=w) hx
 refine AR (args:=[(aG (Cv x)),(vI u),(vI v)]) (L:=[AC x.a.p (rowsL Ad ps),AC x.b.p (rowsL Af zt),AC x.c.p (rowsL Af ss)]) func26 O O (leB O) (C7 hx Ae) (zM (sL [0,1,2] O) (q4 (BG (cs:=Cv x) O λb1=>asg' O (asg' O (q3 (sL [1,2,3,6,7] O) (An 0 Bu O (AJ O (AJ O (Bx call79 (λw hw=>O5 x u v hnb hl w (inS hw 1 O lx)) O (AJ O ?_))))))))))
 refine st' (AK (v:=(aG (Ba E0))) O O) O (st' (AK (v:=(qa false)) O O) O (al Hx O λb2=>Aj O sizeOf49 O (asg' O (q6 (sL [3,6,7,8,9] O) (q4 (AJ O (st' (BB (c:=true) O O) O (oNl' (zF (sL [3,6,7,8,20] O) (zC ?_))))))))))
 exact zZ O (q4 (asg' O (asg' O (oNl' (zF (sL [3,6,7,8] O) (zC (zH (zI (BR O (rd_tmp (v:=(qa false)) O) (rd_tmp (v:=(vI 1)) O) (λw hw=>⟨rfl,hw.out⟩))))))))))
theorem K6  :Instr.fill ([(0,1),(1,1),(2,1)].toArray[·]?) ([jj,jj,jj]).toArray []=some ([jj,jj,jj]).toArray:=by kernel_rfl
theorem Uy {ps:List Pt} {zt ss:List Z3} (x:MZ ps zt ss) (u v:Int) (hnb:DA ps.length zt=false) (hl:zt.length<=1000000) (w:World) {S:Nat->Prop} (hx:Ro S w x):Calls prog 28 #[(aG (Cv x)),(vI u),(vI v)] w (Ai (dH [] [] [] 1) S w):=by
 have lx:=Bq (W:=w) hx
 refine AR (args:=[(aG (Cv x)),(vI u),(vI v)]) (L:=[AC x.a.p (rowsL Ad ps),AC x.b.p (rowsL Af zt),AC x.c.p (rowsL Af ss)]) func28 O O (leB O) (C7 hx Ae) (zM (sL [0,1,2] O) (q4 (BG (cs:=Cv x) O λb1=>al Hw O λb2=>asg' O (q3 (sL [1,2,3,6,7] O) (An 1 Bu O (AJ O (AJ O (Bx call79 (λw hw=>O5 x u v hnb hl w (inS hw 2 O lx)) O (AJ O ?_)))))))))
 refine st' (AK (v:=(aG (Ba E0))) O O) O (st' (AK (v:=(qa false)) O O) O (al Hx O λb3=>Aj O sizeOf49 O (asg' O (q6 (sL [3,6,7,8,9] O) (q4 (AJ O (st' (BB (c:=true) O O) O (oNl' (zF (sL [3,6,7,8,20] O) (zC ?_))))))))))
 exact zZ O (q4 (st' (v:=(aG ([jj,jj,jj]))) (AO (zs:=[jj,jj,jj]) (vs:=[jj,jj,jj]) (pv:=[]) (places:=[(0,1),(1,1),(2,1)]) zeroValue30 underlying30 (λw=>by simp [sizeOf23,sizeOf24,sizeOf28]) O (K6 )) O (CP O sizeOf30 O (asg' O (oNl' (zF (sL [3,6,7,8] O) (zC (zH (zI (BR O (Ah (i:=1) (cs:=[jj,jj,jj]) O O isAgg30 sizeOf30 O) (rd_tmp (v:=(vI 1)) O) (λw hw=>(Ai.toFlZ (ps:=[]) (ts:=[]) (ss:=[]) (OD hw 1 O)))))))))))))
theorem K8  :Instr.fill ([(0,3),(3,2)].toArray[·]?) (AG (0:Rat)).toArray []=some (AG (0:Rat)).toArray:=by kernel_rfl
theorem K9  :Instr.fill ([(0,5),(5,5)].toArray[·]?) (Ad (⟨0,0⟩:Pt)).toArray []=some (Ad (⟨0,0⟩:Pt)).toArray:=by kernel_rfl
theorem U4 {ps:List Pt} {zt ss:List Z3} (x:MZ ps zt ss) (hnb:DA ps.length zt=false) (hl:zt.length<=1000000) (w:World) {S:Nat->Prop} (hx:Ro S w x):Calls prog 31 #[(aG (Cv x))] w (AX w (aG (AG (0:Rat)))):=by
 have lx:=Bq (W:=w) hx
 refine AR (args:=[(aG (Cv x))]) (L:=[AC x.a.p (rowsL Ad ps),AC x.b.p (rowsL Af zt),AC x.c.p (rowsL Af ss)]) func31 O O (leB O) (C7 hx Ae) (zM (sL [0] O) (q4 (BG (cs:=Cv x) O λb1=>al Dg O λb2=>q3 (sL [1,2] O) (st' (v:=(aG (AG (0:Rat)))) (AO (zs:=AG (0:Rat)) (vs:=AG (0:Rat)) (pv:=[]) (places:=[(0,3),(3,2)]) zeroValue77 underlying77 (λw=>by simp [sizeOf71,sizeOf75]) O (K8 )) O (st' (v:=(aG (Ad (⟨0,0⟩:Pt)))) (AO (zs:=Ad (⟨0,0⟩:Pt)) (vs:=Ad (⟨0,0⟩:Pt)) (pv:=[]) (places:=[(0,5),(5,5)]) zeroValue99 underlying99 (λw=>by simp [sizeOf77]) O (K9 )) O (al Dg O λb3=>al Fh O λb4=>CP O sizeOf77 O (Aj O sizeOf99 O ?_)))))))
 refine q6 (sL [1,2,3,4] O) (q4 (An 3 Bu O (Bx (args:=[(aG (Cv x))]) (v:=(qa false)) call43 (λw hw=>(by have h9:=Kf x.rq Z w (br (inS hw 4 O lx));rw [hnb] at h9;exact h9)) O (st' (BB (c:=true) O O) O (oNl' (zF (sL [1,2,3,4,16] O) (zC (zZ O (q4 (An 1 Bj O (E_ O sizeOf77 O ?_)))))))))))
 exact oNl' (zF (sL [1,2,3,4] O) (zC (zH (zI (ret_one O (Ah (i:=2) (cs:=AG (0:Rat)) O O isAgg77 sizeOf77 O) (λw hw=>⟨rfl,hw.out⟩))))))
theorem YK {ps:List Pt} {zt ss:List Z3} (x:MZ ps zt ss) (u v:Int) (hz:∀i,BV (BQ ps i)<=1000) (hp:ps.length<=1000000) (hl:zt.length<=1000000) (w:World) {S:Nat->Prop} (hx:Ro S w x):Calls prog 26 #[(aG (Cv x)),(vI u),(vI v)] w (AX w (.tuple #[(qa (dB ps zt u v)),(vN (aN ps.length zt u v))])):=by
 unfold dB aN
 by_cases h:DA ps.length zt=true
 ·rw [if_pos h,if_pos h]
  obtain ⟨ts,rfl,hnb⟩:=GO h
  obtain ⟨y,hy,hro⟩:=Wh x
  rw [xv] at hl
  rw [GM]
  have k:=Od y u v hnb hl hp (λi=>xx (hz i) jY) w (hro hx)
  rw [hy] at k
  exact k
 ·rw [if_neg h,if_neg h]
  rw [Bool.not_eq_true] at h
  exact S_ x u v h hl w hx
theorem YJ {ps:List Pt} {zt ss:List Z3} (x:MZ ps zt ss) (u v:Int) (hz:∀i,BV (BQ ps i)<=1000) (hp:ps.length<=1000000) (hl:zt.length<=1000000) (hs:ss.length<=1000000) (w:World) {S:Nat->Prop} (hx:Ro S w x):Calls prog 28 #[(aG (Cv x)),(vI u),(vI v)] w (Ai (dH (Jx ps zt u v) (IZ ps zt u v) (IY ps zt ss u v) (YB ps zt u v)) S w):=by
 unfold Jx IZ IY YB
 by_cases h:DA ps.length zt=true
 ·rw [if_pos h,if_pos h,if_pos h,if_pos h]
  obtain ⟨ts,rfl,hnb⟩:=GO h
  obtain ⟨y,hy,hro⟩:=Wh x
  rw [xv] at hl
  rw [GM]
  have k:=Rx y u v hnb hl hp hs (λi=>xx (hz i) jY) w (hro hx)
  rw [hy] at k
  exact k.mono λe w' h9=>h9.toFlZ
 ·rw [if_neg h,if_neg h,if_neg h,if_neg h]
  rw [Bool.not_eq_true] at h
  exact Uy x u v h hl w hx
theorem YL {ps:List Pt} {zt ss:List Z3} (x:MZ ps zt ss) (hz:∀i,BV (BQ ps i)<=1000) (hp:ps.length<=1000000) (hl:zt.length<=8192) (w:World) {S:Nat->Prop} (hx:Ro S w x):Calls prog 31 #[(aG (Cv x))] w (AX w (aG (AG (YC ps zt)))):=by
 unfold YC
 by_cases h:DA ps.length zt=true
 ·rw [if_pos h]
  obtain ⟨ts,rfl,hnb⟩:=GO h
  obtain ⟨y,hy,hro⟩:=Wh x
  rw [xv] at hl
  rw [GM]
  have k:=NY y hl hp hz hnb w (hro hx)
  rw [hy] at k
  exact k
 ·rw [if_neg h]
  rw [Bool.not_eq_true] at h
  exact U4 x h Z w hx
end
end Go.Proofs.YtpolhpjiahbidaaGreatDoor
