import Derived.Test.YtpgncndhhhllfaaGreatDoorPart03
import Derived.Test.YtpgncndhhhllfaaGreatDoorPart18
import Derived.Test.YtpgncndhhhllfaaGreatDoorPart22
import Derived.Test.YtpgncndhhhllfaaGreatDoorPart27
import Derived.Test.YtpgncndhhhllfaaGreatDoorPart29
import Derived.Test.YtpgncndhhhllfaaGreatDoorPart32
import Derived.Test.YtpgncndhhhllfaaGreatDoorPart38
namespace Go.Proofs.YtpgncndhhhllfaaGreatDoor
open Go Go.RowKit Go.Proofs.Tryz
set_option linter.unusedVariables false
set_option linter.unusedSimpArgs false
section
set_option maxRecDepth 100000
theorem Rj  (w:World) {S:Nat->Prop}  :Calls prog 191 #[] w (Aw (NX 1) S w):=by
 refine Af (args:=[]) func191 O O (AT O) (AF.subF sN (q4 (asg' O (AE.nil (q2 ?_)))))
 exact cN (S:=S) (x:=1) (args:=[(Value.int .u64 (1:Int))]) call194 (λw hw=>Pu 1 (by first|omega|(simp only [Int.natAbs_neg];omega)) w) O O O λg1 lg1=>asg' O (AE.nil (AC.subF (sL [0] O) (AC.then_ (AF.ret (AI O (AY (v:=(CH g1)) O) (λw hw=>ED (a:=(g1:NX 1)) hw (inS hw 0 O lg1) O))))))
theorem qDen_ok {x:Rat} (a:FX x) (hs:Sz x<=16777216) (w:World) {S:Nat->Prop} (ha:Ro S w a)  :Calls prog 135 #[(aG (fxL a))] w (Aw (NX x.den) S w):=by
 have s0:=Cr x
 have s1:=Ce x
 have s2:=FL x
 have h1w:=Ij
 have la:=Cl (W:=w) ha
 refine Ah (args:=[(aG (fxL a))]) (L:=[Be a.z.n,Be a.m]) func135 O O (AT O) (PS ha Ax) (AF.subF (sL [0] O) (q4 (BU (cs:=fxL a) O λb1=>asg' O (q6 (sL [1,2] O) ?_))))
 refine Cd [(0,true),(1,true),(2,false),(3,false),(4,true)] sr (Aq (v:=(pP b1 2)) O (AA O underlying75 O sizeOf71 O) (Bd 0 (CH a.m) Fi O (OkE.imp O (cN (S:=S) (x:=1) (args:=[]) call191 (λw hw=>Rj w) O O O λg1 lg1=>OkE.back (sl sr) ?_))))
 refine OkE.imp O (cN (S:=S) (x:=x.den) (args:=[(CH a.m),(CH g1)]) call190 (λw hw=>(Aw.cast (T:=λi=>NX i) (Nat.sub_add_cancel x.den_pos) (Rw a.m g1 (by first|omega|(simp only [Int.natAbs_neg];omega)) (by first|omega|(simp only [Int.natAbs_neg];omega)) w (dL (inS hw 2 O la)) (inS hw 0 O lg1)))) O O O λg2 lg2=>OkE.back (sl (sl sr)) (pS' O (OkE.nil (AC.subF (sL [2] O) ?_))))
 exact AC.then_ (AF.ret (AI O (AY (v:=(CH g2)) O) (λw hw=>ED (a:=(g2:NX x.den)) hw (inS hw 0 O lg2) O)))
theorem RF {x:Rat} (a:FX x) (hs:Sz x<=16777216) (w:World) {S:Nat->Prop} (ha:Ro S w a)  :Calls prog 142 #[(aG (fxL a))] w (Aw (ZX ((x.den:Nat):Int)) S w):=by
 have la:=Cl (W:=w) ha
 refine Ah (args:=[(aG (fxL a))]) (L:=[Be a.z.n,Be a.m]) func142 O O (AT O) (PS ha Ax) (AF.subF (sL [0] O) (q4 (BU (cs:=fxL a) O λb1=>al Se O λb2=>q3 (sL [1,2] O) ?_)))
 refine BD 1 D8 O (cN (S:=S) (x:=x.den) (args:=[(aG (fxL a))]) call135 (λw hw=>qDen_ok a Z w (inS hw 2 O la)) O O O λg1 lg1=>cZ (S:=S) (x:=((x.den:Nat):Int)) (args:=[(Value.bool false),(CH g1)]) call193 (λw hw=>(Aw.cast (T:=λi=>ZX i) (show D_ false x.den=_ from O) (Df false g1 w (inS hw 0 O lg1)))) O O O λg2 lg2=>FN O sizeOf73 O (AE.nil (AC.subF (sL [2] O) ?_)))
 exact AC.then_ (AF.ret (AI O (Ap (i:=2) (cs:=DK g2) O O isAgg73 sizeOf73 O) (λw hw=>ED (a:=(g2:ZX ((x.den:Nat):Int))) hw (inS hw 0 O lg2) O)))
theorem KQ {n:Int} {k:Nat} (z:ZX n) (d:NX k) (hn:nw n.natAbs<=67108864) (hk:nw k<=67108864) (h0:k≠0) (w:World) {S:Nat->Prop} (hz:Ro S w z) (hd:Ro S w d)  :Calls prog 139 #[(aG (DK z)),(CH d)] w (Aw (FX (mkRat n k)) S w):=by
 have hg:0<Nat.gcd n.natAbs k:=Nat.pos_of_ne_zero λh=>h0 (Nat.eq_zero_of_gcd_eq_zero_right h)
 have hgw:nw (Nat.gcd n.natAbs k)<=nw k:=C1 (Nat.gcd_le_right _ (Nat.pos_of_ne_zero h0))
 have hqw:nw (k/Nat.gcd n.natAbs k)<=nw k:=C1 (Nat.div_le_self _ _)
 have hq1:1<=k/Nat.gcd n.natAbs k:=Nat.div_pos (Nat.gcd_le_right _ (Nat.pos_of_ne_zero h0)) hg
 have lz:=Cl (W:=w) hz
 have ld:=Cl (W:=w) hd
 refine Ah (args:=[(aG (DK z)),(CH d)]) (L:=[Be z.n,Be d]) func139 O O (AT O) (YD hz (cE hd Ax)) (AF.subF (sL [0,1] O) (q4 (BU (cs:=DK z) O λb1=>al Id O λb2=>q3 (sL [1,2,4] O) ?_)))
 refine AH (v:=(pP b1 1)) (AA O underlying73 O sizeOf71 O) O (BA 1 (CH z.n) Fi O (AM O (cN (S:=S) (x:=(Nat.gcd n.natAbs k)) (args:=[(CH z.n),(CH d)]) call195 (λw hw=>Xx z.n d (by first|omega|(simp only [Int.natAbs_neg];omega)) (by first|omega|(simp only [Int.natAbs_neg];omega)) w (OE (inS hw 2 O lz)) (inS hw 3 O ld)) O O O λg1 lg1=>asg' O (q3 (sL [1,2,4,5] O) ?_))))
 refine AH (v:=(pP b1 1)) (AA O underlying73 O sizeOf71 O) O (BA 2 (CH z.n) Fi O (AM O (cD (S:=S) (u:=(n.natAbs/(Nat.gcd n.natAbs k))) (v:=(n.natAbs%(Nat.gcd n.natAbs k))) (args:=[(CH z.n),(CH g1)]) call196 (λw hw=>Qy z.n g1 hg Z Z w (OE (inS hw 3 O lz)) (inS hw 0 O lg1)) O O O λg2 lg2=>AM O (AH (Aa (v:=(CH g2.q)) O O) O ?_))))
 refine AH (Aa (v:=(CH g2.r)) O O) O (asg' O (asg' O (q3 (sL [1,2,4,5,6] O) (AM O (AM O ?_)))))
 refine cD (S:=S) (u:=(k/(Nat.gcd n.natAbs k))) (v:=(k%(Nat.gcd n.natAbs k))) (args:=[(CH d),(CH g1)]) call196 (λw hw=>Qy d g1 hg Z Z w (inS hw 6 O ld) (inS hw 2 O lg1)) O O O λg3 lg3=>AM O (AH (Aa (v:=(CH g3.q)) O O) O (AH (Aa (v:=(CH g3.r)) O O) O (asg' O (asg' O ?_))))
 refine q3 (sL [1,2,4,5,6,8] O) (AH (v:=(pP b1 0)) (AA O underlying73 O sizeOf4 O) O (BA 6 (Value.bool (decide (n<0))) Jt O (AM O (cZ (S:=S) (x:=((mkRat n k).num)) (args:=[(Value.bool (decide (n<0))),(CH g2.q)]) call193 (λw hw=>(Aw.cast (T:=λi=>ZX i) (UI h0) (Df (decide (n<0)) g2.q w (bD (inS hw 2 O lg2))))) O O O λg4 lg4=>AM O ?_))))
 refine cN (S:=S) (x:=1) (args:=[]) call191 (λw hw=>Rj w) O O O λg5 lg5=>cN (S:=S) (x:=((mkRat n k).den-1)) (args:=[(CH g3.q),(CH g5)]) call197 (λw hw=>(Aw.cast (T:=λi=>NX i) (VT h0) (NS g3.q g5 hq1 Z w (bD (inS hw 2 O lg3)) (inS hw 0 O lg5)))) O O O λg6 lg6=>AH (v:=(aG (DK g4++[(CH g6)]))) (AV (zs:=[(Value.bool false),(Value.slice none 0 0),(Value.slice none 0 0)]) (vs:=DK g4++[(CH g6)]) (pv:=[(0,(aG (DK g4))),(1,(CH g6))]) (places:=[(0,2),(2,1)]) zeroValue75 underlying75 (λw=>by simp [sizeOf71,sizeOf73]) O O) O (Eg 8 (off:=0) (vs:=DK g4++[(CH g6)]) (cs':=DK g4++[(CH g6)]) (AS O) O sizeOf75 O (AE.nil (AC.subF (sL [1,2,4,5] O) ?_)))
 exact AC.then_ (AF.ret (AI O (Ap (i:=8) (cs:=DK g4++[(CH g6)]) O O isAgg75 sizeOf75 O) (λw hw=>ED (a:=((FX.mk g4 g6):FX (mkRat n k))) hw (aW (inS hw 2 O lg4) (inS hw 0 O lg6)) O)))
theorem Hs {r0:Int} (x0:ZX r0):Instr.fill ([(0,2),(2,1)].toArray[·]?) ([(Value.bool false),(Value.slice none 0 0),(Value.slice none 0 0)]).toArray [(0,.agg (DK x0).toArray)]=some (DK x0++[(Value.slice none 0 0)]).toArray:=by kernel_rfl
theorem J6 (z:Int) (hz:-9223372036854775808<=z) (hz2:z<9223372036854775808) (w:World) {S:Nat->Prop}  :Calls prog 78 #[(vI z)] w (Aw (FX ((z:Int):Rat)) S w):=by
 refine Af (args:=[(vI z)]) func78 O O (AT O) (AF.subF (sL [0] O) (q4 (al Id O λb1=>AE.nil (q2 ?_))))
 refine AM O (cZ (S:=S) (x:=(((z:Int):Rat).num)) (args:=[(vI z)]) call138 (λw hw=>(Aw.cast (T:=λi=>ZX i) (show z=((z:Int):Rat).num from O) (Z2 z Z Z w))) O O O λg1 lg1=>AH (v:=(aG (DK g1++[(Value.slice none 0 0)]))) (AV (zs:=[(Value.bool false),(Value.slice none 0 0),(Value.slice none 0 0)]) (vs:=DK g1++[(Value.slice none 0 0)]) (pv:=[(0,(aG (DK g1)))]) (places:=[(0,2),(2,1)]) zeroValue75 underlying75 (λw=>by simp [sizeOf71,sizeOf73]) O (Hs g1)) O (Cm O sizeOf75 O (AE.nil (AC.subF (sL [2] O) ?_))))
 exact AC.then_ (AF.ret (AI O (Ap (i:=1) (cs:=DK g1++[(Value.slice none 0 0)]) O O isAgg75 sizeOf75 O) (λw hw=>ED (a:=((FX.mk g1 NX.zero):FX ((z:Int):Rat))) hw (aW (inS hw 0 O lg1) Pe) O)))
theorem Uu {x:Rat} (a:FX x) (w:World) {S:Nat->Prop} (ha:Ro S w a)  :Calls prog 201 #[(aG (fxL a))] w (An w (vI x.num.sign)):=by
 have la:=Cl (W:=w) ha
 refine Ah (args:=[(aG (fxL a))]) (L:=[Be a.z.n,Be a.m]) func201 O O (AT O) (PS ha Ax) (AF.subF (sL [0] O) (q4 (BU (cs:=fxL a) O λb1=>asg' O (q3 (sL [1,2] O) ?_))))
 refine AH (v:=(pP b1 0)) (AA O underlying75 O sizeOf73 O) O (Cy 0 (DK a.z) N7 O (Cj call246 (λw hw=>Tn a.z w (Wu (inS hw 1 O la))) O (asg' O (AE.nil (AC.subF (sL [2] O) ?_)))))
 exact AC.then_ (AF.ret (AI O (AY (v:=(vI x.num.sign)) O) (λw hw=>⟨rfl,hw.out⟩)))
theorem X6 {x:Rat} (a:FX x) (w:World) {S:Nat->Prop} (ha:Ro S w a)  :Calls prog 247 #[(aG (fxL a))] w (Aw (FX (-x)) S w):=by
 have la:=Cl (W:=w) ha
 refine Ah (args:=[(aG (fxL a))]) (L:=[Be a.z.n,Be a.m]) func247 O O (AT O) (PS ha Ax) (AF.subF (sL [0] O) (q4 (BU (cs:=fxL a) O λb1=>al Id O λb2=>q6 (sL [1,2] O) ?_)))
 refine Cd [(0,true),(1,true),(3,true),(4,true),(2,false),(5,true),(6,false)] (sl sr) (Aq (v:=(pP b1 0)) O (AA O underlying75 O sizeOf73 O) (Ff 0 (DK a.z) N7 O (Aq (v:=(pP b1 2)) O (AA O underlying75 O sizeOf71 O) (Bd 0 (CH a.m) Fi O (OkE.imp O ?_)))))
 refine cZ (S:=S) (x:=((-x).num)) (args:=[(aG (DK a.z))]) call276 (λw hw=>(Aw.cast (T:=λi=>ZX i) (Rat.neg_num x).symm (YO a.z w (Wu (inS hw 2 O la))))) O O O λg1 lg1=>OkE.back (sl (sl sr)) (Aq (v:=(aG (DK g1++[(CH a.m)]))) O (AV (zs:=[(Value.bool false),(Value.slice none 0 0),(Value.slice none 0 0)]) (vs:=DK g1++[(CH a.m)]) (pv:=[(0,(aG (DK g1))),(1,(CH a.m))]) (places:=[(0,2),(2,1)]) zeroValue75 underlying75 (λw=>by simp [sizeOf71,sizeOf73]) O O) (OkE.imp O (Cm O sizeOf75 O (OkE.back (sl (sl sr)) ?_))))
 exact OkE.nil (AC.subF (sL [2] O) (AC.then_ (AF.ret (AI O (Ap (i:=1) (cs:=DK g1++[(CH a.m)]) O O isAgg75 sizeOf75 O) (λw hw=>ED (a:=((FX.mk g1 a.m):FX (-x))) hw (aW (inS hw 0 O lg1) (dL (inS hw 3 O la))) O)))))
theorem RY {x y:Rat} (a:FX x) (b:FX y) (hs:Sz x+Sz y<=16777216) (w:World) {S:Nat->Prop} (ha:Ro S w a) (hb:Ro S w b)  :Calls prog 80 #[(aG (fxL a)),(aG (fxL b))] w (Aw (FX (x+y)) S w):=by
 have s0:=Cr x
 have s1:=Ce x
 have s2:=FL x
 have s3:=Cr y
 have s4:=Ce y
 have s5:=FL y
 have s6:=CO x y
 have s7:=CO y x
 have s8:=F3 x y
 have s9:=G3 x y
 have s10:=Dk (x.num*((y.den:Nat):Int)) (y.num*((x.den:Nat):Int))
 have h0x:=x.den_nz
 have h0y:=y.den_nz
 have h0xy:=Nat.mul_ne_zero h0x h0y
 have la:=Cl (W:=w) ha
 have lb:=Cl (W:=w) hb
 refine Ah (args:=[(aG (fxL a)),(aG (fxL b))]) (L:=[Be a.z.n,Be a.m,Be b.z.n,Be b.m]) func80 O O (AT O) (PS ha (PS hb Ax)) (AF.subF (sL [0,1] O) (q4 (BU (cs:=fxL a) O λb1=>BU (cs:=fxL b) O λb2=>al Id O λb3=>?_)))
 refine q6 (sL [2,3,4] O) (Cd [(0,true),(1,true),(2,true),(5,true),(6,true),(7,true),(11,true),(13,true),(3,false),(4,false),(8,false),(9,false),(10,false),(12,false),(14,false),(15,false),(16,false),(17,false)] (sl sr) (Aq (v:=(pP b1 0)) O (AA O underlying75 O sizeOf73 O) (Ff 1 (DK a.z) N7 O (Da 0 D8 O (Aq (v:=(pP b2 0)) O (AA O underlying75 O sizeOf73 O) ?_)))))
 refine Ff 0 (DK b.z) N7 O (Da 1 D8 O (Da 1 D8 O (Da 0 D8 O (OkE.imp O (cZ (S:=S) (x:=((y.den:Nat):Int)) (args:=[(aG (fxL b))]) call142 (λw hw=>RF b Z w (inS hw 5 O lb)) O O O λg1 lg1=>?_)))))
 refine OkE.back (sl (sl sr)) (OkE.imp O (cZ (S:=S) (x:=(x.num*((y.den:Nat):Int))) (args:=[(aG (DK a.z)),(aG (DK g1))]) call141 (λw hw=>M0 a.z g1 Z (by show nw y.den<=_;omega) w (Wu (inS hw 4 O la)) (inS hw 0 O lg1)) O O O λg2 lg2=>OkE.back (sl (sl (sl sr))) (OkE.imp O (cZ (S:=S) (x:=((x.den:Nat):Int)) (args:=[(aG (fxL a))]) call142 (λw hw=>RF a Z w (inS hw 5 O la)) O O O λg3 lg3=>?_))))
 refine OkE.back (sl (sl (sl (sl sr)))) (OkE.imp O (cZ (S:=S) (x:=(y.num*((x.den:Nat):Int))) (args:=[(aG (DK b.z)),(aG (DK g3))]) call141 (λw hw=>M0 b.z g3 Z (by show nw x.den<=_;omega) w (Wu (inS hw 8 O lb)) (inS hw 0 O lg3)) O O O λg4 lg4=>OkE.back (sl (sl (sl (sl (sl sr))))) (OkE.imp O (cZ (S:=S) (x:=((x.num*((y.den:Nat):Int))+(y.num*((x.den:Nat):Int)))) (args:=[(aG (DK g2)),(aG (DK g4))]) call140 (λw hw=>W_ g2 g4 Z Z w (inS hw 2 O lg2) (inS hw 0 O lg4)) O O O λg5 lg5=>?_))))
 refine OkE.back (sl (sl (sl (sl (sl (sl sr)))))) (OkE.imp O (cN (S:=S) (x:=x.den) (args:=[(aG (fxL a))]) call135 (λw hw=>qDen_ok a Z w (inS hw 8 O la)) O O O λg6 lg6=>OkE.back (sl (sl (sl (sl (sl (sl (sl sr))))))) (OkE.imp O (cN (S:=S) (x:=y.den) (args:=[(aG (fxL b))]) call135 (λw hw=>qDen_ok b Z w (inS hw 11 O lb)) O O O λg7 lg7=>?_))))
 refine OkE.back (sl (sl (sl (sl (sl (sl (sl (sl sr)))))))) (OkE.imp O (cN (S:=S) (x:=(x.den*y.den)) (args:=[(CH g6),(CH g7)]) call143 (λw hw=>Nt g6 g7 (by first|omega|(simp only [Int.natAbs_neg];omega)) (by first|omega|(simp only [Int.natAbs_neg];omega)) w (inS hw 1 O lg6) (inS hw 0 O lg7)) O O O λg8 lg8=>OkE.back (sl (sl (sl (sl (sl (sl (sl (sl (sl sr))))))))) (OkE.imp O (cF (S:=S) (x:=(x+y)) (args:=[(aG (DK g5)),(CH g8)]) call139 (λw hw=>(Aw.cast (T:=λi=>FX i) (Ip x y) (KQ g5 g8 Z Z h0xy w (inS hw 3 O lg5) (inS hw 0 O lg8)))) O O O λg9 lg9=>?_))))
 refine OkE.back (sl (sl (sl (sl (sl (sl (sl (sl (sl (sl (sl sr))))))))))) (OkE.imp O (Eg 10 (off:=0) (vs:=fxL g9) (cs':=fxL g9) (AS O) O sizeOf75 O (OkE.back (sl (sl (sl (sl (sl (sl (sl (sl (sl (sl (sl sr))))))))))) (OkE.nil (AC.subF (sL [4] O) ?_)))))
 exact AC.then_ (AF.ret (AI O (Ap (i:=10) (cs:=fxL g9) O O isAgg75 sizeOf75 O) (λw hw=>ED (a:=(g9:FX (x+y))) hw (inS hw 0 O lg9) O)))
theorem M4 {x y:Rat} (a:FX x) (b:FX y) (hs:Sz x+Sz y<=16777216) (w:World) {S:Nat->Prop} (ha:Ro S w a) (hb:Ro S w b)  :Calls prog 203 #[(aG (fxL a)),(aG (fxL b))] w (Aw (FX (x-y)) S w):=by
 have la:=Cl (W:=w) ha
 have lb:=Cl (W:=w) hb
 refine Ah (args:=[(aG (fxL a)),(aG (fxL b))]) (L:=[Be a.z.n,Be a.m,Be b.z.n,Be b.m]) func203 O O (AT O) (PS ha (PS hb Ax)) (AF.subF (sL [0,1] O) (q4 (BU (cs:=fxL a) O λb1=>BU (cs:=fxL b) O λb2=>al Id O λb3=>?_)))
 refine q6 (sL [2,3,4] O) (Cd [(0,true),(1,true),(2,false),(3,false),(4,false)] (sl sr) (Da 1 D8 O (Da 0 D8 O (OkE.imp O (cF (S:=S) (x:=(-y)) (args:=[(aG (fxL b))]) call247 (λw hw=>X6 b w (inS hw 5 O lb)) O O O λg1 lg1=>?_)))))
 refine OkE.back (sl (sl (sl sr))) (OkE.imp O ?_)
 have hz1:=LZ x (-y)
 refine cF (S:=S) (x:=(x-y)) (args:=[(aG (fxL a)),(aG (fxL g1))]) call80 (λw hw=>(Aw.cast (T:=λi=>FX i) (Rat.sub_eq_add_neg x y).symm (RY a g1 (by (try simp only [C5]);omega) w (inS hw 5 O la) (inS hw 0 O lg1)))) O O O λg2 lg2=>OkE.back (sl (sl (sl (sl (sl sr))))) (OkE.imp O (Eg 4 (off:=0) (vs:=fxL g2) (cs':=fxL g2) (AS O) O sizeOf75 O (OkE.back (sl (sl (sl (sl (sl sr))))) (OkE.nil ?_))))
 exact AC.subF (sL [4] O) (AC.then_ (AF.ret (AI O (Ap (i:=4) (cs:=fxL g2) O O isAgg75 sizeOf75 O) (λw hw=>ED (a:=(g2:FX (x-y))) hw (inS hw 0 O lg2) O))))
theorem NQ {x y:Rat} (a:FX x) (b:FX y) (hs:Sz x+Sz y<=16777216) (w:World) {S:Nat->Prop} (ha:Ro S w a) (hb:Ro S w b)  :Calls prog 202 #[(aG (fxL a)),(aG (fxL b))] w (Aw (FX (x*y)) S w):=by
 have s0:=Cr x
 have s1:=Ce x
 have s2:=FL x
 have s3:=Cr y
 have s4:=Ce y
 have s5:=FL y
 have s6:=CO x y
 have s7:=CO y x
 have s8:=F3 x y
 have s9:=G3 x y
 have s10:=Dk (x.num*((y.den:Nat):Int)) (y.num*((x.den:Nat):Int))
 have h0x:=x.den_nz
 have h0y:=y.den_nz
 have h0xy:=Nat.mul_ne_zero h0x h0y
 have la:=Cl (W:=w) ha
 have lb:=Cl (W:=w) hb
 refine Ah (args:=[(aG (fxL a)),(aG (fxL b))]) (L:=[Be a.z.n,Be a.m,Be b.z.n,Be b.m]) func202 O O (AT O) (PS ha (PS hb Ax)) (AF.subF (sL [0,1] O) (q4 (BU (cs:=fxL a) O λb1=>BU (cs:=fxL b) O λb2=>al Id O λb3=>?_)))
 refine q6 (sL [2,3,4] O) (Cd [(0,true),(1,true),(2,true),(3,true),(5,true),(7,true),(4,false),(6,false),(8,false),(9,false),(10,false),(11,false)] (sl sr) (Aq (v:=(pP b1 0)) O (AA O underlying75 O sizeOf73 O) (Ff 1 (DK a.z) N7 O (Aq (v:=(pP b2 0)) O (AA O underlying75 O sizeOf73 O) (Ff 0 (DK b.z) N7 O ?_)))))
 refine Da 1 D8 O (Da 0 D8 O (OkE.imp O (cZ (S:=S) (x:=(x.num*y.num)) (args:=[(aG (DK a.z)),(aG (DK b.z))]) call141 (λw hw=>M0 a.z b.z Z Z w (Wu (inS hw 3 O la)) (Wu (inS hw 5 O lb))) O O O λg1 lg1=>OkE.back (sl (sl sr)) (OkE.imp O ?_))))
 refine cN (S:=S) (x:=x.den) (args:=[(aG (fxL a))]) call135 (λw hw=>qDen_ok a Z w (inS hw 4 O la)) O O O λg2 lg2=>OkE.back (sl (sl (sl sr))) (OkE.imp O (cN (S:=S) (x:=y.den) (args:=[(aG (fxL b))]) call135 (λw hw=>qDen_ok b Z w (inS hw 7 O lb)) O O O λg3 lg3=>OkE.back (sl (sl (sl (sl sr)))) (OkE.imp O ?_)))
 refine cN (S:=S) (x:=(x.den*y.den)) (args:=[(CH g2),(CH g3)]) call143 (λw hw=>Nt g2 g3 (by first|omega|(simp only [Int.natAbs_neg];omega)) (by first|omega|(simp only [Int.natAbs_neg];omega)) w (inS hw 1 O lg2) (inS hw 0 O lg3)) O O O λg4 lg4=>OkE.back (sl (sl (sl (sl (sl sr))))) (OkE.imp O (cF (S:=S) (x:=(x*y)) (args:=[(aG (DK g1)),(CH g4)]) call139 (λw hw=>(Aw.cast (T:=λi=>FX i) (Is x y) (KQ g1 g4 Z Z h0xy w (inS hw 3 O lg1) (inS hw 0 O lg4)))) O O O λg5 lg5=>OkE.back (sl (sl (sl (sl (sl (sl (sl sr))))))) (OkE.imp O ?_)))
 exact Eg 6 (off:=0) (vs:=fxL g5) (cs':=fxL g5) (AS O) O sizeOf75 O (OkE.back (sl (sl (sl (sl (sl (sl (sl sr))))))) (OkE.nil (AC.subF (sL [4] O) (AC.then_ (AF.ret (AI O (Ap (i:=6) (cs:=fxL g5) O O isAgg75 sizeOf75 O) (λw hw=>ED (a:=(g5:FX (x*y))) hw (inS hw 0 O lg5) O)))))))
theorem M6 (a b:Rat):Sz (a/b)<=Sz a+Sz b:=by
 by_cases h:b=0
 ·subst h;rw [Rat.div_def,Rat.inv_zero,Rat.mul_zero];have h1:=QQ a;exact Nat.le_trans (show Sz (0:Rat)<=1 by decide +kernel) Z
 ·exact It h
theorem K6  :Instr.fill ([(0,2),(2,1)].toArray[·]?) ([(Value.bool false),(Value.slice none 0 0),(Value.slice none 0 0)]).toArray []=some ([(Value.bool false),(Value.slice none 0 0),(Value.slice none 0 0)]).toArray:=by kernel_rfl
theorem RD {x y:Rat} (a:FX x) (b:FX y) (hs:Sz x+Sz y<=16777216) (w:World) {S:Nat->Prop} (ha:Ro S w a) (hb:Ro S w b)  :Calls prog 144 #[(aG (fxL a)),(aG (fxL b))] w (Aw (FX (x/y)) S w):=by
 have s0:=Cr x
 have s1:=Ce x
 have s2:=FL x
 have s3:=Cr y
 have s4:=Ce y
 have s5:=FL y
 have s6:=CO x y
 have s7:=CO y x
 have s8:=F3 x y
 have s9:=G3 x y
 have s10:=Dk (x.num*((y.den:Nat):Int)) (y.num*((x.den:Nat):Int))
 have h0x:=x.den_nz
 have h0y:=y.den_nz
 have h0xy:=Nat.mul_ne_zero h0x h0y
 have la:=Cl (W:=w) ha
 have lb:=Cl (W:=w) hb
 refine Ah (args:=[(aG (fxL a)),(aG (fxL b))]) (L:=[Be a.z.n,Be a.m,Be b.z.n,Be b.m]) func144 O O (AT O) (PS ha (PS hb Ax)) (AF.subF (sL [0,1] O) (q4 (BU (cs:=fxL a) O λb1=>BU (cs:=fxL b) O λb2=>al Id O λb3=>?_)))
 refine q6 (sL [2,3,4] O) (q4 (BD 1 D8 O (Cj call201 (λw hw=>Uu b w (inS hw 5 O lb)) O (AH (BL (c:=(decide (y.num.sign=(0:Int)))) O O O) O (AE.nil ?_)))))
 refine AC.subF (sL [2,3,4,7] O) (AC.then_ ?_)
 refine AF.cond O (λhc0=>?_) (λhc0=>?_)
 ·replace hc0:=of_decide_eq_true hc0
  refine q4 (AH (v:=(aG ([(Value.bool false),(Value.slice none 0 0),(Value.slice none 0 0)]))) (AV (zs:=[(Value.bool false),(Value.slice none 0 0),(Value.slice none 0 0)]) (vs:=[(Value.bool false),(Value.slice none 0 0),(Value.slice none 0 0)]) (pv:=[]) (places:=[(0,2),(2,1)]) zeroValue75 underlying75 (λw=>by simp [sizeOf71,sizeOf73]) O (K6 )) O (A8 O sizeOf75 O (AE.nil (AC.subF (sL [2,3,4] O) (AC.then_ ?_)))))
  exact AF.ret (AC.then_ret (AI O (Ap (i:=0) (cs:=[(Value.bool false),(Value.slice none 0 0),(Value.slice none 0 0)]) O O isAgg75 sizeOf75 O) (λw hw=>(by rw [<-VN (a:=x) hc0];exact ED (a:=FX.zero) hw (aW (bu Pe) Pe) O))))
 ·replace hc0:=of_decide_eq_false hc0
  have hy:y≠0:=λe=>hc0 (by rw [e];rfl)
  have hi:=Ph hy
  have hyn:y.num.natAbs≠0:=λe=>hy (Rat.num_eq_zero.1 Z)
  refine AF.skip (q1 (Cd [(0,true),(1,true),(2,true),(3,true),(4,true),(7,true),(8,true),(9,true),(5,false),(6,false),(10,false),(11,false),(12,false)] (sl sr) (Da 1 D8 O (Aq (v:=(pP b2 0)) O (AA O underlying75 O sizeOf73 O) (Aq (v:=(pP b2 0)) O (AA O underlying73 O sizeOf4 O) ?_)))))
  refine Bd 0 (Value.bool (decide (y.num<0))) Jt O (Da 0 D8 O (Aq (v:=(pP b2 0)) O (AA O underlying75 O sizeOf73 O) (Aq (v:=(pP b2 1)) O (AA O underlying73 O sizeOf71 O) (Bd 0 (CH b.z.n) Fi O (OkE.imp O ?_)))))
  refine cN (S:=S) (x:=y.den) (args:=[(aG (fxL b))]) call135 (λw hw=>qDen_ok b Z w (inS hw 5 O lb)) O O O λg1 lg1=>OkE.back (sl (sl sr)) (OkE.imp O (cZ (S:=S) (x:=(D_ (decide (y.num<0)) y.den)) (args:=[(Value.bool (decide (y.num<0))),(CH g1)]) call193 (λw hw=>Df (decide (y.num<0)) g1 w (inS hw 0 O lg1)) O O O λg2 lg2=>OkE.back (sl (sl (sl sr))) (OkE.imp O ?_)))
  refine cF (S:=S) (x:=(y⁻¹)) (args:=[(aG (DK g2)),(CH b.z.n)]) call139 (λw hw=>(Aw.cast (T:=λi=>FX i) (cR hy) (KQ g2 b.z.n (by rw [A9];omega) Z hyn w (inS hw 0 O lg2) (OE (Wu (inS hw 7 O lb)))))) O O O λg3 lg3=>OkE.back (sl (sl (sl (sl (sl sr))))) (OkE.imp O ?_)
  have hz1:=EK x (y⁻¹)
  refine cF (S:=S) (x:=(x/y)) (args:=[(aG (fxL a)),(aG (fxL g3))]) call202 (λw hw=>(Aw.cast (T:=λi=>FX i) W5 (NQ a g3 (by (try simp only [C5]);omega) w (inS hw 7 O la) (inS hw 0 O lg3)))) O O O λg4 lg4=>OkE.back (sl (sl (sl (sl (sl (sl (sl sr))))))) (OkE.imp O (Eg 6 (off:=0) (vs:=fxL g4) (cs':=fxL g4) (AS O) O sizeOf75 O (OkE.back (sl (sl (sl (sl (sl (sl (sl sr))))))) (OkE.nil ?_))))
  exact AC.subF (sL [3,4] O) (AC.then_ (AF.ret (AI O (Ap (i:=6) (cs:=fxL g4) O O isAgg75 sizeOf75 O) (λw hw=>ED (a:=(g4:FX (x/y))) hw (inS hw 0 O lg4) O))))
theorem aQ (n d:Int) (h1:-9223372036854775808<=n) (h2:n<9223372036854775808) (h3:-9223372036854775808<=d) (h4:d<9223372036854775808) (w:World) {S:Nat->Prop}  :Calls prog 153 #[(vI n),(vI d)] w (Aw (FX (((n:Int):Rat)/((d:Int):Rat))) S w):=by
 have s1:=Ht h1 h2
 have s2:=Ht h3 h4
 refine Af (args:=[(vI n),(vI d)]) func153 O O (AT O) (AF.subF (sL [0,1] O) (q4 (al Id O λb1=>AE.nil (q2 ?_))))
 refine AM O (cF (S:=S) (x:=((n:Int):Rat)) (args:=[(vI n)]) call78 (λw hw=>J6 n Z Z w) O O O λg1 lg1=>AM O (cF (S:=S) (x:=((d:Int):Rat)) (args:=[(vI d)]) call78 (λw hw=>J6 d Z Z w) O O O λg2 lg2=>?_))
 have hz1:=M6 ((n:Int):Rat) ((d:Int):Rat)
 exact cF (S:=S) (x:=(((n:Int):Rat)/((d:Int):Rat))) (args:=[(aG (fxL g1)),(aG (fxL g2))]) call144 (λw hw=>RD g1 g2 (by (try simp only [C5]);omega) w (inS hw 2 O lg1) (inS hw 0 O lg2)) O O O λg3 lg3=>Eg 6 (off:=0) (vs:=fxL g3) (cs':=fxL g3) (AS O) O sizeOf75 O (AE.nil (AC.subF (sL [4] O) (AC.then_ (AF.ret (AI O (Ap (i:=6) (cs:=fxL g3) O O isAgg75 sizeOf75 O) (λw hw=>ED (a:=(g3:FX (((n:Int):Rat)/((d:Int):Rat)))) hw (inS hw 0 O lg3) O))))))
theorem V_ {x:Rat} (a:FX x) (hs:Sz x<=16777216) (w:World) {S:Nat->Prop} (ha:Ro S w a)  :Calls prog 75 #[(aG (fxL a))] w (An w (Value.string (txB (N3 x)))):=by
 have s0:=Cr x
 have s1:=Ce x
 have s2:=FL x
 have hl1:=W9 x.num
 have hl2:=QY x.den
 have la:=Cl (W:=w) ha
 refine Ah (args:=[(aG (fxL a))]) (L:=[Be a.z.n,Be a.m]) func75 O O (AT O) (PS ha Ax) (AF.subF (sL [0] O) (q4 (BU (cs:=fxL a) O λb1=>asg' O (q6 (sL [1,2] O) ?_))))
 refine q4 (AH (v:=(pP b1 2)) (AA O underlying75 O sizeOf71 O) O (BA 0 (CH a.m) Fi O (AH (v:=(vN ((dg (x.den-1)).length))) (AG O underlying71) O (AH (BL (c:=(decide (((dg (x.den-1)).length)=0))) O O (Iv (a:=(dg (x.den-1)).length) (b:=0))) O (AE.nil ?_)))))
 refine AC.subF (sL [1,2,6] O) (AC.then_ ?_)
 refine AF.cond O (λhc0=>?_) (λhc0=>?_)
 ·replace hc0:=of_decide_eq_true hc0
  have he:N3 x=Fz x.num:=by unfold N3;rw [if_pos (Oa hc0)]
  refine q4 (AH (v:=(pP b1 0)) (AA O underlying75 O sizeOf73 O) O (Cy 0 (DK a.z) N7 O (Cj call133 (λw hw=>O2 a.z Z w (Wu (inS hw 1 O la))) O (asg' O (AE.nil ?_)))))
  exact AC.subF (sL [1,2] O) (AC.then_ (AF.ret (AC.then_ret (AI O (AY (v:=(Value.string (txB (Fz x.num)))) O) (λw hw=>⟨by rw [he],hw.out⟩)))))
 ·replace hc0:=of_decide_eq_false hc0
  have he:N3 x=Fz x.num++[47]++Lib.decDigits x.den:=by unfold N3;rw [if_neg (IW hc0),List.append_assoc];rfl
  refine AF.skip (q1 (Cd [(0,true),(1,true),(4,true),(2,false),(3,true),(5,false),(6,false),(7,true),(8,true)] sr (Aq (v:=(pP b1 0)) O (AA O underlying75 O sizeOf73 O) (Ff 0 (DK a.z) N7 O (Da 0 D8 O ?_)))))
  refine OkE.imp O (Cj call133 (λw hw=>O2 a.z Z w (Wu (inS hw 1 O la))) O (OkE.back sr (Aq (v:=(Value.string (txB (Fz x.num++[47])))) O (Bz (r:=(txB (Fz x.num++[47]))) O O (by rw [Di];show _+1<=_;omega) (Dn _ [47])) (OkE.imp O (cN (S:=S) (x:=x.den) (args:=[(aG (fxL a))]) call135 (λw hw=>qDen_ok a Z w (inS hw 1 O la)) O O O λg1 lg1=>?_)))))
  refine OkE.back (sl sr) (OkE.imp O (Cj call134 (λw hw=>KH g1 (by first|omega|(simp only [Int.natAbs_neg];omega)) w (inS hw 0 O lg1)) O (OkE.back (sl sr) (Aq (v:=(Value.string (txB (Fz x.num++[47]++Lib.decDigits x.den)))) O (Bz (r:=(txB (Fz x.num++[47]++Lib.decDigits x.den))) O O (by rw [Di,Di,List.length_append];show _+1+_<=_;omega) (Dn _ _)) (pS' O ?_)))))
  exact OkE.nil (AC.subF (sL [1,2] O) (AC.then_ (AF.ret (AI O (AY (v:=(Value.string (txB (Fz x.num++[47]++Lib.decDigits x.den)))) O) (λw hw=>⟨by rw [he],hw.out⟩)))))
end
section
set_option maxRecDepth 100000
theorem Rg (z:QD) (h:z.ok) (w:World) {S:Nat->Prop}  :Calls prog 97 #[(aG (Q0 z))] w (Aw (FX (Iy z)) S w):=by
 obtain ⟨h1,h2,h3⟩:=h
 refine Af (args:=[(aG (Q0 z))]) func97 O O (AT O) (AF.subF (sL [0] O) (q4 (BU (cs:=Q0 z) O λb1=>al Id O λb2=>q3 (sL [1,2] O) ?_)))
 refine AH (v:=(pP b1 0)) (AA O underlying99 O sizeOf2 O) O (BA 1 (vI z.n) Lh O (AH (v:=(pP b1 1)) (AA O underlying99 O sizeOf97 O) O (BA 1 (vK .u32 z.d) aw O (AH (Fe (c:=((max z.d 1:Nat):Int)) O O (by split<;>omega)) O (AH (Ay (c:=((max z.d 1:Nat):Int)) O underlying97 underlying2 (B4 Z)) O ?_)))))
 exact cF (S:=S) (x:=(Iy z)) (args:=[(vI z.n),(vN (max z.d 1))]) call153 (λw hw=>(Aw.cast (T:=λi=>FX i) O (aQ z.n ((max z.d 1:Nat):Int) Z Z Z Z w))) O O O λg1 lg1=>FN O sizeOf75 O (AE.nil (AC.subF (sL [2] O) (AC.then_ (AF.ret (AI O (Ap (i:=2) (cs:=fxL g1) O O isAgg75 sizeOf75 O) (λw hw=>ED (a:=(g1:FX (Iy z))) hw (inS hw 0 O lg1) O))))))
theorem Fo {r0:Rat} (x0:FX r0) {r1:Rat} (x1:FX r1):Instr.fill ([(0,3),(3,3)].toArray[·]?) ([(Value.bool false),(Value.slice none 0 0),(Value.slice none 0 0),(Value.bool false),(Value.slice none 0 0),(Value.slice none 0 0)]).toArray [(0,.agg (fxL x0).toArray),(1,.agg (fxL x1).toArray)]=some (fxL x0++fxL x1).toArray:=by kernel_rfl
theorem YJ (p:PD) (h:p.ok) (w:World) {S:Nat->Prop}  :Calls prog 52 #[(aG (Zl p))] w (Aw (PX (CC p)) S w):=by
 have h1:=h.1
 have h2:=h.2
 refine Af (args:=[(aG (Zl p))]) func52 O O (AT O) (AF.subF (sL [0] O) (q4 (BU (cs:=Zl p) O λb1=>al UC O λb2=>q6 (sL [1,2] O) ?_)))
 refine Cd [(0,true),(1,true),(3,true),(4,true),(2,false),(5,false),(6,true),(7,false)] (sl sr) (Aq (v:=(pP b1 0)) O (AA O underlying101 O sizeOf99 O) (Ff 0 (Q0 p.x) XO O (Aq (v:=(pP b1 2)) O (AA O underlying101 O sizeOf99 O) (Ff 0 (Q0 p.y) XO O (OkE.imp O ?_)))))
 refine cF (S:=S) (x:=(Iy p.x)) (args:=[(aG (Q0 p.x))]) call97 (λw hw=>Rg p.x (by assumption) w) O O O λg1 lg1=>OkE.back (sl (sl (sl sr))) (OkE.imp O (cF (S:=S) (x:=(Iy p.y)) (args:=[(aG (Q0 p.y))]) call97 (λw hw=>Rg p.y (by assumption) w) O O O λg2 lg2=>OkE.back (sl (sl (sl (sl (sl sr))))) (Aq (v:=(aG (fxL g1++fxL g2))) O (AV (zs:=[(Value.bool false),(Value.slice none 0 0),(Value.slice none 0 0),(Value.bool false),(Value.slice none 0 0),(Value.slice none 0 0)]) (vs:=fxL g1++fxL g2) (pv:=[(0,(aG (fxL g1))),(1,(aG (fxL g2)))]) (places:=[(0,3),(3,3)]) zeroValue83 underlying83 (λw=>by simp [sizeOf75]) O (Fo g1 g2)) ?_)))
 refine OkE.imp O (Eg 4 (off:=0) (vs:=fxL g1++fxL g2) (cs':=fxL g1++fxL g2) (AS O) O sizeOf83 O (OkE.back (sl (sl (sl (sl (sl sr))))) (OkE.nil (AC.subF (sL [2] O) (AC.then_ ?_)))))
 exact AF.ret (AI O (Ap (i:=4) (cs:=fxL g1++fxL g2) O O isAgg83 sizeOf83 O) (λw hw=>ED (a:=((PX.mk g1 g2:PX (⟨Iy p.x,Iy p.y⟩:Pt)):PX (CC p))) hw (cU (inS hw 2 O lg1) (inS hw 0 O lg2)) O))
end

section
abbrev Z3:=Int×Int×Int
def Wr (t:Z3):List Value:=[vI t.1,vI t.2.1,vI t.2.2]
structure MZ (ps:List Pt) (ts ss:List Z3) where
  a:RX (rowsL Am ps) ps.length
  b:RX (rowsL Wr ts) ts.length
  c:RX (rowsL Wr ss) ss.length
def dx {ps:List Pt} {ts ss:List Z3} (x:MZ ps ts ss):List Value:=[x.a.val,x.b.val,x.c.val]
theorem bQ {ps:List Pt} {ts ss:List Z3} {x:MZ ps ts ss} {y:As} (hy:y∈[x.a.row,x.b.row,x.c.row]):y.ro=true:=by
  simp only [List.mem_cons,List.not_mem_nil,or_false] at hy
  rcases hy with rfl|rfl|rfl<;>rfl
instance {ps:List Pt} {ts ss:List Z3}:DN (MZ ps ts ss):=⟨λx=>aG (dx x),λx=>[x.a.row,x.b.row,x.c.row],λx y hy=>bQ hy⟩
structure RW where
  ds:List PD
  ts:List Z3
  ss:List Z3
  a:RX (rowsL Zl ds) ds.length
  b:RX (rowsL Wr ts) ts.length
  c:RX (rowsL Wr ss) ss.length
  hd:∀d∈ds,d.ok
def dl (x:RW):List Value:=[x.a.val,x.b.val,x.c.val]
theorem au {x:RW} {y:As} (hy:y∈[x.a.row,x.b.row,x.c.row]):y.ro=true:=by
  simp only [List.mem_cons,List.not_mem_nil,or_false] at hy
  rcases hy with rfl|rfl|rfl<;>rfl
instance:DN RW:=⟨λx=>aG (dl x),λx=>[x.a.row,x.b.row,x.c.row],λx y hy=>au hy⟩
section
variable {S:Nat->Prop} {w:World} {ps:List Pt} {ts ss:List Z3} {x:MZ ps ts ss} {r:RW}
end
structure RP where
  p:Pt
  x:PX p
def Ws:RP:=⟨⟨0,0⟩,⟨FX.zero,FX.zero⟩⟩
@[reducible] def Ga (r:RP):List Value:=DE r.x
theorem KC (r:RP):(Ga r).length=6:=rfl
def F9 (rs:List RP):List As:=rs.flatMap λr=>DN.rows r.x
theorem Pb {rs:List RP} {y:As} (h:y∈F9 rs):y.ro=true:=by
  obtain ⟨r,_,h⟩:=List.mem_flatMap.1 h
  exact DN.ro r.x y h
theorem O_ (rs:List RP) (r:RP):F9 (rs++[r])=F9 rs++DN.rows r.x:=by simp [F9]
theorem Zd (r:RP) (A:List As) (rs:List RP):(DN.rows r.x++(A++F9 rs)).Perm (A++F9 (rs++[r])):=by
  rw [O_,<-List.append_assoc A]
  exact List.perm_append_comm
theorem ZO (A T L:List As):(A++(T++L)).Perm (A++(L++T)):=(List.Perm.refl A).append List.perm_append_comm
structure cw (ps:List Pt) (ts ss:List Z3) where
  rs:List RP
  e:rs.map (·.p)=ps
  a:RX (rowsL Ga rs) rs.length
  b:RX (rowsL Wr ts) ts.length
  c:RX (rowsL Wr ss) ss.length
def dj {ps:List Pt} {ts ss:List Z3} (x:cw ps ts ss):List Value:=[x.a.val,x.b.val,x.c.val]
theorem bG {ps:List Pt} {ts ss:List Z3} {x:cw ps ts ss} {y:As} (hy:y∈[x.a.row,x.b.row,x.c.row]++F9 x.rs):y.ro=true:=by
  rcases List.mem_append.1 hy with hy|hy
  · simp only [List.mem_cons,List.not_mem_nil,or_false] at hy
    rcases hy with rfl|rfl|rfl<;>rfl
  · exact Pb hy
instance {ps:List Pt} {ts ss:List Z3}:DN (cw ps ts ss):=⟨λx=>aG (dj x),λx=>[x.a.row,x.b.row,x.c.row]++F9 x.rs,λx y hy=>bG hy⟩
section
variable {P:Program} {ops:Array Oper} {rest:List Oper} {Q:Exit->Act->World->Prop} {n:Nat} {F:List (Nat×Value)} {w0:BJ} {S:Nat->Prop} {L L2 A:List As} {w W:World} {rs:List RP} {i:Nat} {ps:List Pt} {ts ss:List Z3}
theorem AE.permR (hp:L.Perm L2) (next:AE P ops rest Q n F w0 L2):AE P ops rest Q n F w0 L:=λa w ha hW=>next a w ha (hW.perm hp)
theorem dJ (hw:BN w0 w L) (hs:∀y∈F9 rs,y∈L) (hi:i<rs.length) (ha:∀y∈F9 rs,∀b,y.foot=some b->Nw w0 S b):Ro (SL w0 S L) w (rs.getD i Ws).x:=λy hy=>by
  have hm:y∈F9 rs:=List.mem_flatMap.2 ⟨rs[i],List.getElem_mem hi,by rw [List.getD,List.getElem?_eq_getElem hi] at hy;exact hy⟩
  exact ⟨λb e=>(hw.2.1 y (hs y hm) b e).2,λb e=>⟨⟨y,hs y hm,Pb hm,e⟩,ha y hm b e⟩⟩
theorem At.snoc {r:RP} (h:∀y∈F9 rs,∀b,y.foot=some b->Nw w0 S b) (k:At w0 S r.x):∀y∈F9 (rs++[r]),∀b,y.foot=some b->Nw w0 S b:=λy hy=>by
  rw [O_] at hy
  rcases List.mem_append.1 hy with hy|hy
  · exact h y hy
  · exact k y hy
end
structure dp (ps:List Pt) (ts ss:List Z3) where
  a:OX 51 10 (rowsL Am ps) ps.length
  b:OX 53 3 (rowsL Wr ts) ts.length
  c:OX 55 3 (rowsL Wr ss) ss.length
@[reducible] def eA {ps:List Pt} {ts ss:List Z3} (x:dp ps ts ss):List As:=[rowW x.c.p 55 3 ss.length x.c.c (rowsL Wr ss),rowW x.b.p 53 3 ts.length x.b.c (rowsL Wr ts),rowW x.a.p 51 10 ps.length x.a.c (rowsL Am ps)]
section
variable {S:Nat->Prop} {w:World} {w0:BJ} {L:List As} {ps:List Pt} {ts ss:List Z3}
theorem dQ {α:Type} [DN α] {a:α} (h:Ro S w a):∀y∈DN.rows a,y.ro=true/\Holds w y:=λy k=>⟨DN.ro a y k,(h y k).1⟩
abbrev cm (_:Nat):Prop:=True
end
end
section
def cL (m:MQ):List P2:=(Tb m (BE m).length).1
def ET (m:MQ):List T3:=(Tb m (BE m).length).2
def Oo (m:MQ):List Pt:=PU m (Ch m (cL m)) (cL m).length
theorem Yo {m:MQ} {ps:List Pt} {ts:List T3} (h:VD m ps ts):ts=ET m/\ps=Oo m:=by
  obtain ⟨pl,hi,_,hp⟩:=h
  have h1:pl=cL m:=congrArg Prod.fst hi.fn
  have h2:ts=ET m:=congrArg Prod.snd hi.fn
  subst h1
  exact ⟨h2,hp⟩
theorem Y1 {m:MQ} (x:WM m):x.pl=cL m/\x.ts=ET m:=⟨congrArg Prod.fst x.inv.fn,congrArg Prod.snd x.inv.fn⟩
structure OQ (ps:List Pt) (ts ss:List T3) where
  rs:List RP
  e:rs.map (·.p)=ps
  a:RX (rowsL Ga rs) rs.length
  b:RX (rowsL Ai ts) ts.length
  c:RX (rowsL Ai ss) ss.length
def OQ.rm {ps:List Pt} {ts ss:List T3} (x:OQ ps ts ss):RM x.rs.length ts ss:=⟨rowsL Ga x.rs,x.a,x.b,x.c⟩
def B9 {ps:List Pt} {ts ss:List T3} (x:OQ ps ts ss):List Value:=F1 x.rm
theorem Ve {ps:List Pt} {ts ss:List T3} {x:OQ ps ts ss} {y:As} (hy:y∈[x.a.row,x.b.row,x.c.row]++F9 x.rs):y.ro=true:=by
  rcases List.mem_append.1 hy with hy|hy
  · simp only [List.mem_cons,List.not_mem_nil,or_false] at hy
    rcases hy with rfl|rfl|rfl<;>rfl
  · exact Pb hy
instance {ps:List Pt} {ts ss:List T3}:DN (OQ ps ts ss):=⟨λx=>aG (B9 x),λx=>[x.a.row,x.b.row,x.c.row]++F9 x.rs,λx y hy=>Ve hy⟩
theorem OQ.len {ps:List Pt} {ts ss:List T3} (x:OQ ps ts ss):x.rs.length=ps.length:=by
  have h:=congrArg List.length x.e
  rwa [List.length_map] at h
theorem OQ.at {ps:List Pt} {ts ss:List T3} (x:OQ ps ts ss) {i:Nat} (h:i<x.rs.length):(x.rs.getD i Ws).p=ps.getD i ⟨0,0⟩:=by
  have h1:(x.rs.map (·.p)).getD i ⟨0,0⟩=ps.getD i ⟨0,0⟩:=congrArg (λl=>l.getD i ⟨0,0⟩) x.e
  rw [<-h1]
  simp [h]
section
variable {S:Nat->Prop} {w W:World} {w0:BJ} {L A:List As} {ps:List Pt} {ts ss:List T3} {rs:List RP}
theorem Ym {x:OQ ps ts ss} (h:Ro S w x):Ro S w x.rm:=λy hy=>h y (List.mem_append_left _ (show y∈[x.a.row,x.b.row,x.c.row] from hy))
theorem bU {x:OQ ps ts ss} (h:At w0 S x):∀y∈F9 x.rs,∀b,y.foot=some b->Nw w0 S b:=λy hy=>h y (List.mem_append_right [x.a.row,x.b.row,x.c.row] hy)
theorem Gb {x:OQ ps ts ss} (hw:BN w0 w L) (i:Nat) (hi:(L.drop i).take 3=[x.a.row,x.b.row,x.c.row]) (hs:∀y∈F9 x.rs,y∈L) (ha:At w0 S x):Ro (SL w0 S L) w x:=λy hy=>by
  have hy':y∈[x.a.row,x.b.row,x.c.row]++F9 x.rs:=hy
  have hm:y∈L:=by
    rcases List.mem_append.1 hy' with hy|hy
    · exact List.mem_of_mem_drop (List.mem_of_mem_take (hi▸hy))
    · exact hs y hy
  exact ⟨λb e=>(hw.2.1 y hm b e).2,λb e=>⟨⟨y,hm,Ve hy',e⟩,ha y hy b e⟩⟩
end
structure b_ (m:MQ) where
  ss:List T3
  o:OQ (Oo m) (ET m) ss
instance {m:MQ}:DN (b_ m):=⟨λx=>DN.val x.o,λx=>DN.rows x.o,λx y hy=>DN.ro x.o y hy⟩
theorem Zq {S:Nat->Prop} {m:MQ} {w W:World} {A:List As} {rs:List RP} {ts ss:List T3} (hw:BN ⟨W,none⟩ w (A++F9 rs)) (i j k:Nat) {p1 p2 p3:Option Addr} {T1 T3' n1 n2 n3 c1 c2 c3:Nat} (h1:A[i]?=some (rowW p1 T1 6 n1 c1 (rowsL Ga rs))) (h2:A[j]?=some (AQ p2 (rowsL Ai ts))) (h3:A[k]?=some (rowW p3 T3' 3 n3 c3 (rowsL Ai ss)))
    (o1:OwnOk p1 n1 c1) (o2:BF p2 n2 c2) (b2:∀b,p2.map (·.block)=some b->Nw ⟨W,none⟩ S b) (o3:OwnOk p3 n3 c3) (e1:n1=rs.length) (e2:n2=ts.length) (e3:n3=ss.length) (he:rs.map (·.p)=Oo m) (ht:ts=ET m) (hat:∀y∈F9 rs,∀b,y.foot=some b->Nw ⟨W,none⟩ S b)
    {v:Value} (hv:v=aG [.slice p1 n1 c1,.slice p2 n2 c2,.slice p3 n3 c3]):Aw (b_ m) S W (.returned v) w:=by
  subst e1;subst e2;subst e3;subst ht
  have up:∀{i:Nat} {x:As},A[i]?=some x->(A++F9 rs)[i]?=some x:=λ{i x} h=>by rw [List.getElem?_append_left (List.getElem?_eq_some_iff.1 h).1];exact h
  refine ⟨⟨ss,⟨rs,he,⟨p1,c1,o1.row⟩,⟨p2,c2,o2⟩,⟨p3,c3,o3.row⟩⟩⟩,by rw [hv];rfl,hw.out,λy hy=>?_⟩
  have hy:y∈[AQ p1 (rowsL Ga rs),AQ p2 (rowsL Ai (ET m)),AQ p3 (rowsL Ai ss)]++F9 rs:=hy
  rcases List.mem_append.1 hy with hy|hy
  · simp only [List.mem_cons,List.not_mem_nil,or_false] at hy
    rcases hy with rfl|rfl|rfl
    · exact FR hw i (up h1) o1 (Ak KC _)
    · exact ⟨hw.holds (up h2),λb e=>b2 b e⟩
    · exact FR hw k (up h3) o3 (Ak Az _)
  · exact ⟨λb e=>(hw.2.1 _ (List.mem_append_right _ hy) b e).2,hat y hy⟩
end
end Go.Proofs.YtpgncndhhhllfaaGreatDoor
