import Derived.ChangeKeysEq
import Derived.Test.YtpolhpjiahbidaaGreatDoorRows
import Derived.Test.YtpolhpjiahbidaaGreatDoorPart05
import Derived.Test.YtpolhpjiahbidaaGreatDoorPart18
import Derived.Test.YtpolhpjiahbidaaGreatDoorPart21
namespace Go.Proofs.YtpolhpjiahbidaaGreatDoor
open Go Go.RowKit Go.Proofs.Tryz
set_option linter.unusedVariables false
set_option linter.unusedSimpArgs false
section
set_option maxRecDepth 100000
theorem PQ  (w:World) {S:Nat->Prop}  :Calls Tryz.prog 199 #[] w (Ah (NX 1) S w):=by
 exact AZ (args:=[]) Tryz.func199 rfl rfl (AK rfl) (OkC.subF sN (q4 (asg' rfl (OkL.nil (q2 (cN (S:=S) (x:=1) (args:=[(Value.int .u64 (1:Int))]) Tryz.call207 (λw hw=>OG 1 (by first|omega|(simp only [Int.natAbs_neg];omega)) w) rfl rfl rfl λg1 lg1=>asg' rfl (OkL.nil (OkQ.subF (sL [0] rfl) (OkQ.then_ (OkC.ret (ret_one rfl (rd_tmp (v:=(Bu g1)) rfl) (λw hw=>Df (a:=(g1:NX 1)) hw (inS hw 0 rfl lg1) rfl))))))))))))
theorem qDen_ok {x:Rat} (a:FX x) (hs:Sz x<=16777216) (w:World) {S:Nat->Prop} (ha:Ro S w a)  :Calls Tryz.prog 147 #[(aG (fxL a))] w (Ah (NX x.den) S w):=by
 have s0:=Cj x
 have s1:=CP x
 have s2:=Eh x
 have h1w:=Hm
 have la:=CU (W:=w) ha
 refine Aa (args:=[(aG (fxL a))]) (L:=[By a.z.n,By a.m]) Tryz.func147 rfl rfl (AK rfl) (NJ ha Al) (OkC.subF (sL [0] rfl) (q4 (Bg (cs:=fxL a) rfl λb1=>asg' rfl (q6 (sL [1,2] rfl) (CV [(0,true),(1,true),(2,false),(3,false),(4,true)] sr (Ag (v:=(pP b1 2)) rfl (AA rfl Tryz.underlying83 rfl Tryz.sizeOf79 rfl) (BQ 0 (Bu a.m) FA rfl (OkE.imp rfl (cN (S:=S) (x:=1) (args:=[]) Tryz.call199 (λw hw=>PQ w) rfl rfl rfl λg1 lg1=>OkE.back (sl sr) ?_)))))))))
 exact OkE.imp rfl (cN (S:=S) (x:=x.den) (args:=[(Bu a.m),(Bu g1)]) Tryz.call198 (λw hw=>(Ah.cast (T:=λi=>NX i) (Nat.sub_add_cancel x.den_pos) (PR a.m g1 (by first|omega|(simp only [Int.natAbs_neg];omega)) (by first|omega|(simp only [Int.natAbs_neg];omega)) w (Y6 (inS hw 2 rfl la)) (inS hw 0 rfl lg1)))) rfl rfl rfl λg2 lg2=>OkE.back (sl (sl sr)) (pS' rfl (OkE.nil (OkQ.subF (sL [2] rfl) (OkQ.then_ (OkC.ret (ret_one rfl (rd_tmp (v:=(Bu g2)) rfl) (λw hw=>Df (a:=(g2:NX x.den)) hw (inS hw 0 rfl lg2) rfl))))))))
theorem PP {x:Rat} (a:FX x) (hs:Sz x<=16777216) (w:World) {S:Nat->Prop} (ha:Ro S w a)  :Calls Tryz.prog 161 #[(aG (fxL a))] w (Ah (ZX ((x.den:Nat):Int)) S w):=by
 have la:=CU (W:=w) ha
 refine Aa (args:=[(aG (fxL a))]) (L:=[By a.z.n,By a.m]) Tryz.func161 rfl rfl (AK rfl) (NJ ha Al) (OkC.subF (sL [0] rfl) (q4 (Bg (cs:=fxL a) rfl λb1=>al QP rfl λb2=>q3 (sL [1,2] rfl) (BU 1 DM rfl (cN (S:=S) (x:=x.den) (args:=[(aG (fxL a))]) Tryz.call147 (λw hw=>qDen_ok a (by omega) w (inS hw 2 rfl la)) rfl rfl rfl λg1 lg1=>cZ (S:=S) (x:=((x.den:Nat):Int)) (args:=[(Value.bool false),(Bu g1)]) Tryz.call163 (λw hw=>(Ah.cast (T:=λi=>ZX i) (show Dc false x.den=_ from rfl) (C5 false g1 w (inS hw 0 rfl lg1)))) rfl rfl rfl λg2 lg2=>Gh rfl Tryz.sizeOf81 rfl (OkL.nil (OkQ.subF (sL [2] rfl) ?_)))))))
 exact OkQ.then_ (OkC.ret (ret_one rfl (Aj (i:=2) (cs:=Cn g2) rfl rfl Tryz.isAgg81 Tryz.sizeOf81 rfl) (λw hw=>Df (a:=(g2:ZX ((x.den:Nat):Int))) hw (inS hw 0 rfl lg2) rfl)))
theorem Js {n:Int} {k:Nat} (z:ZX n) (d:NX k) (hn:nw n.natAbs<=67108864) (hk:nw k<=67108864) (h0:k≠0) (w:World) {S:Nat->Prop} (hz:Ro S w z) (hd:Ro S w d)  :Calls Tryz.prog 158 #[(aG (Cn z)),(Bu d)] w (Ah (FX (mkRat n k)) S w):=by
 have hg:0<Nat.gcd n.natAbs k:=Nat.pos_of_ne_zero λh=>h0 (Nat.eq_zero_of_gcd_eq_zero_right h)
 have hgw:nw (Nat.gcd n.natAbs k)<=nw k:=Ca (Nat.gcd_le_right _ (Nat.pos_of_ne_zero h0))
 have hqw:nw (k/Nat.gcd n.natAbs k)<=nw k:=Ca (Nat.div_le_self _ _)
 have hq1:1<=k/Nat.gcd n.natAbs k:=Nat.div_pos (Nat.gcd_le_right _ (Nat.pos_of_ne_zero h0)) hg
 have lz:=CU (W:=w) hz
 have ld:=CU (W:=w) hd
 refine Aa (args:=[(aG (Cn z)),(Bu d)]) (L:=[By z.n,By d]) Tryz.func158 rfl rfl (AK rfl) (VV hz (YP hd Al)) (OkC.subF (sL [0,1] rfl) (q4 (Bg (cs:=Cn z) rfl λb1=>al LH rfl λb2=>q3 (sL [1,2,4] rfl) (AG (v:=(pP b1 1)) (AA rfl Tryz.underlying81 rfl Tryz.sizeOf79 rfl) rfl (Aw 1 (Bu z.n) FA rfl (AO rfl (cN (S:=S) (x:=(Nat.gcd n.natAbs k)) (args:=[(Bu z.n),(Bu d)]) Tryz.call208 (λw hw=>VK z.n d (by first|omega|(simp only [Int.natAbs_neg];omega)) (by first|omega|(simp only [Int.natAbs_neg];omega)) w (MD (inS hw 2 rfl lz)) (inS hw 3 rfl ld)) rfl rfl rfl λg1 lg1=>asg' rfl (q3 (sL [1,2,4,5] rfl) ?_))))))))
 refine AG (v:=(pP b1 1)) (AA rfl Tryz.underlying81 rfl Tryz.sizeOf79 rfl) rfl (Aw 2 (Bu z.n) FA rfl (AO rfl (cD (S:=S) (u:=(n.natAbs/(Nat.gcd n.natAbs k))) (v:=(n.natAbs%(Nat.gcd n.natAbs k))) (args:=[(Bu z.n),(Bu g1)]) Tryz.call209 (λw hw=>Pc z.n g1 hg (by omega) (by omega) w (MD (inS hw 3 rfl lz)) (inS hw 0 rfl lg1)) rfl rfl rfl λg2 lg2=>AO rfl (AG (AV (v:=(Bu g2.q)) rfl rfl) rfl (AG (AV (v:=(Bu g2.r)) rfl rfl) rfl (asg' rfl (asg' rfl (q3 (sL [1,2,4,5,6] rfl) (AO rfl (AO rfl ?_))))))))))
 refine cD (S:=S) (u:=(k/(Nat.gcd n.natAbs k))) (v:=(k%(Nat.gcd n.natAbs k))) (args:=[(Bu d),(Bu g1)]) Tryz.call209 (λw hw=>Pc d g1 hg (by omega) (by omega) w (inS hw 6 rfl ld) (inS hw 2 rfl lg1)) rfl rfl rfl λg3 lg3=>AO rfl (AG (AV (v:=(Bu g3.q)) rfl rfl) rfl (AG (AV (v:=(Bu g3.r)) rfl rfl) rfl (asg' rfl (asg' rfl (q3 (sL [1,2,4,5,6,8] rfl) (AG (v:=(pP b1 0)) (AA rfl Tryz.underlying81 rfl Tryz.sizeOf4 rfl) rfl (Aw 6 (Value.bool (decide (n<0))) KL rfl (AO rfl (cZ (S:=S) (x:=((mkRat n k).num)) (args:=[(Value.bool (decide (n<0))),(Bu g2.q)]) Tryz.call163 (λw hw=>(Ah.cast (T:=λi=>ZX i) (Tj h0) (C5 (decide (n<0)) g2.q w (Xq (inS hw 2 rfl lg2))))) rfl rfl rfl λg4 lg4=>AO rfl ?_)))))))))
 exact cN (S:=S) (x:=1) (args:=[]) Tryz.call199 (λw hw=>PQ w) rfl rfl rfl λg5 lg5=>cN (S:=S) (x:=((mkRat n k).den-1)) (args:=[(Bu g3.q),(Bu g5)]) Tryz.call210 (λw hw=>(Ah.cast (T:=λi=>NX i) (S7 h0) (LZ g3.q g5 hq1 (by omega) w (Xq (inS hw 2 rfl lg3)) (inS hw 0 rfl lg5)))) rfl rfl rfl λg6 lg6=>AG (v:=(aG (Cn g4++[(Bu g6)]))) (AR (zs:=[(Value.bool false),(Value.slice none 0 0),(Value.slice none 0 0)]) (vs:=Cn g4++[(Bu g6)]) (pv:=[(0,(aG (Cn g4))),(1,(Bu g6))]) (places:=[(0,2),(2,1)]) Tryz.zeroValue83 Tryz.underlying83 (λw=>by simp [Tryz.sizeOf79,Tryz.sizeOf81]) rfl rfl) rfl (FZ 8 (off:=0) (vs:=Cn g4++[(Bu g6)]) (cs':=Cn g4++[(Bu g6)]) (AP rfl) rfl Tryz.sizeOf83 rfl (OkL.nil (OkQ.subF (sL [1,2,4,5] rfl) (OkQ.then_ (OkC.ret (ret_one rfl (Aj (i:=8) (cs:=Cn g4++[(Bu g6)]) rfl rfl Tryz.isAgg83 Tryz.sizeOf83 rfl) (λw hw=>Df (a:=((FX.mk g4 g6):FX (mkRat n k))) hw (YT (inS hw 2 rfl lg4) (inS hw 0 rfl lg6)) rfl)))))))
theorem Gm {r0:Int} (x0:ZX r0):Instr.fill ([(0,2),(2,1)].toArray[·]?) ([(Value.bool false),(Value.slice none 0 0),(Value.slice none 0 0)]).toArray [(0,.agg (Cn x0).toArray)]=some (Cn x0++[(Value.slice none 0 0)]).toArray:=by kernel_rfl
theorem Ow (z:Int) (hz:-9223372036854775808<=z) (hz2:z<9223372036854775808) (w:World) {S:Nat->Prop}  :Calls Tryz.prog 94 #[(vI z)] w (Ah (FX ((z:Int):Rat)) S w):=by
 refine AZ (args:=[(vI z)]) Tryz.func94 rfl rfl (AK rfl) (OkC.subF (sL [0] rfl) (q4 (al LH rfl λb1=>OkL.nil (q2 (AO rfl (cZ (S:=S) (x:=(((z:Int):Rat).num)) (args:=[(vI z)]) Tryz.call157 (λw hw=>(Ah.cast (T:=λi=>ZX i) (show z=((z:Int):Rat).num from rfl) (W6 z (by omega) (by omega) w))) rfl rfl rfl λg1 lg1=>AG (v:=(aG (Cn g1++[(Value.slice none 0 0)]))) (AR (zs:=[(Value.bool false),(Value.slice none 0 0),(Value.slice none 0 0)]) (vs:=Cn g1++[(Value.slice none 0 0)]) (pv:=[(0,(aG (Cn g1)))]) (places:=[(0,2),(2,1)]) Tryz.zeroValue83 Tryz.underlying83 (λw=>by simp [Tryz.sizeOf79,Tryz.sizeOf81]) rfl (Gm g1)) rfl (Dw rfl Tryz.sizeOf83 rfl (OkL.nil (OkQ.subF (sL [2] rfl) ?_)))))))))
 exact OkQ.then_ (OkC.ret (ret_one rfl (Aj (i:=1) (cs:=Cn g1++[(Value.slice none 0 0)]) rfl rfl Tryz.isAgg83 Tryz.sizeOf83 rfl) (λw hw=>Df (a:=((FX.mk g1 NX.zero):FX ((z:Int):Rat))) hw (YT (inS hw 0 rfl lg1) Wb) rfl)))
theorem SW {x:Rat} (a:FX x) (w:World) {S:Nat->Prop} (ha:Ro S w a)  :Calls Tryz.prog 126 #[(aG (fxL a))] w (Ai w (vI x.num.sign)):=by
 have la:=CU (W:=w) ha
 refine Aa (args:=[(aG (fxL a))]) (L:=[By a.z.n,By a.m]) Tryz.func126 rfl rfl (AK rfl) (NJ ha Al) (OkC.subF (sL [0] rfl) (q4 (Bg (cs:=fxL a) rfl λb1=>asg' rfl (q3 (sL [1,2] rfl) (AG (v:=(pP b1 0)) (AA rfl Tryz.underlying83 rfl Tryz.sizeOf81 rfl) rfl (EX 0 (Cn a.z) NU rfl (Cq Tryz.call180 (λw hw=>TZ a.z w (T9 (inS hw 1 rfl la))) rfl (asg' rfl (OkL.nil (OkQ.subF (sL [2] rfl) ?_))))))))))
 exact OkQ.then_ (OkC.ret (ret_one rfl (rd_tmp (v:=(vI x.num.sign)) rfl) (λw hw=>⟨rfl,hw.out⟩)))
theorem VT {x:Rat} (a:FX x) (w:World) {S:Nat->Prop} (ha:Ro S w a)  :Calls Tryz.prog 181 #[(aG (fxL a))] w (Ah (FX (-x)) S w):=by
 have la:=CU (W:=w) ha
 refine Aa (args:=[(aG (fxL a))]) (L:=[By a.z.n,By a.m]) Tryz.func181 rfl rfl (AK rfl) (NJ ha Al) (OkC.subF (sL [0] rfl) (q4 (Bg (cs:=fxL a) rfl λb1=>al LH rfl λb2=>q6 (sL [1,2] rfl) (CV [(0,true),(1,true),(3,true),(4,true),(2,false),(5,true),(6,false)] (sl sr) (Ag (v:=(pP b1 0)) rfl (AA rfl Tryz.underlying83 rfl Tryz.sizeOf81 rfl) (FL 0 (Cn a.z) NU rfl (Ag (v:=(pP b1 2)) rfl (AA rfl Tryz.underlying83 rfl Tryz.sizeOf79 rfl) (BQ 0 (Bu a.m) FA rfl (OkE.imp rfl ?_)))))))))
 exact cZ (S:=S) (x:=((-x).num)) (args:=[(aG (Cn a.z))]) Tryz.call219 (λw hw=>(Ah.cast (T:=λi=>ZX i) (Rat.neg_num x).symm (UZ a.z w (T9 (inS hw 2 rfl la))))) rfl rfl rfl λg1 lg1=>OkE.back (sl (sl sr)) (Ag (v:=(aG (Cn g1++[(Bu a.m)]))) rfl (AR (zs:=[(Value.bool false),(Value.slice none 0 0),(Value.slice none 0 0)]) (vs:=Cn g1++[(Bu a.m)]) (pv:=[(0,(aG (Cn g1))),(1,(Bu a.m))]) (places:=[(0,2),(2,1)]) Tryz.zeroValue83 Tryz.underlying83 (λw=>by simp [Tryz.sizeOf79,Tryz.sizeOf81]) rfl rfl) (OkE.imp rfl (Dw rfl Tryz.sizeOf83 rfl (OkE.back (sl (sl sr)) (OkE.nil (OkQ.subF (sL [2] rfl) (OkQ.then_ (OkC.ret (ret_one rfl (Aj (i:=1) (cs:=Cn g1++[(Bu a.m)]) rfl rfl Tryz.isAgg83 Tryz.sizeOf83 rfl) (λw hw=>Df (a:=((FX.mk g1 a.m):FX (-x))) hw (YT (inS hw 0 rfl lg1) (Y6 (inS hw 3 rfl la))) rfl))))))))))
theorem Lo {x y:Rat} (a:FX x) (b:FX y) (hs:Sz x+Sz y<=16777216) (w:World) {S:Nat->Prop} (ha:Ro S w a) (hb:Ro S w b)  :Calls Tryz.prog 96 #[(aG (fxL a)),(aG (fxL b))] w (Ah (FX (x+y)) S w):=by
 have s0:=Cj x
 have s1:=CP x
 have s2:=Eh x
 have s3:=Cj y
 have s4:=CP y
 have s5:=Eh y
 have s6:=CC x y
 have s7:=CC y x
 have s8:=Fs x y
 have s9:=Gq x y
 have s10:=Dp (x.num*((y.den:Nat):Int)) (y.num*((x.den:Nat):Int))
 have h0x:=x.den_nz
 have h0y:=y.den_nz
 have h0xy:=Nat.mul_ne_zero h0x h0y
 have la:=CU (W:=w) ha
 have lb:=CU (W:=w) hb
 refine Aa (args:=[(aG (fxL a)),(aG (fxL b))]) (L:=[By a.z.n,By a.m,By b.z.n,By b.m]) Tryz.func96 rfl rfl (AK rfl) (NJ ha (NJ hb Al)) (OkC.subF (sL [0,1] rfl) (q4 (Bg (cs:=fxL a) rfl λb1=>Bg (cs:=fxL b) rfl λb2=>al LH rfl λb3=>q6 (sL [2,3,4] rfl) (CV [(0,true),(1,true),(2,true),(5,true),(6,true),(7,true),(11,true),(13,true),(3,false),(4,false),(8,false),(9,false),(10,false),(12,false),(14,false),(15,false),(16,false),(17,false)] (sl sr) (Ag (v:=(pP b1 0)) rfl (AA rfl Tryz.underlying83 rfl Tryz.sizeOf81 rfl) (FL 1 (Cn a.z) NU rfl (Ec 0 DM rfl (Ag (v:=(pP b2 0)) rfl (AA rfl Tryz.underlying83 rfl Tryz.sizeOf81 rfl) ?_))))))))
 refine FL 0 (Cn b.z) NU rfl (Ec 1 DM rfl (Ec 1 DM rfl (Ec 0 DM rfl (OkE.imp rfl (cZ (S:=S) (x:=((y.den:Nat):Int)) (args:=[(aG (fxL b))]) Tryz.call161 (λw hw=>PP b (by omega) w (inS hw 5 rfl lb)) rfl rfl rfl λg1 lg1=>OkE.back (sl (sl sr)) (OkE.imp rfl (cZ (S:=S) (x:=(x.num*((y.den:Nat):Int))) (args:=[(aG (Cn a.z)),(aG (Cn g1))]) Tryz.call160 (λw hw=>LY a.z g1 (by omega) (by show nw y.den<=_;omega) w (T9 (inS hw 4 rfl la)) (inS hw 0 rfl lg1)) rfl rfl rfl λg2 lg2=>OkE.back (sl (sl (sl sr))) (OkE.imp rfl (cZ (S:=S) (x:=((x.den:Nat):Int)) (args:=[(aG (fxL a))]) Tryz.call161 (λw hw=>PP a (by omega) w (inS hw 5 rfl la)) rfl rfl rfl λg3 lg3=>?_)))))))))
 refine OkE.back (sl (sl (sl (sl sr)))) (OkE.imp rfl (cZ (S:=S) (x:=(y.num*((x.den:Nat):Int))) (args:=[(aG (Cn b.z)),(aG (Cn g3))]) Tryz.call160 (λw hw=>LY b.z g3 (by omega) (by show nw x.den<=_;omega) w (T9 (inS hw 8 rfl lb)) (inS hw 0 rfl lg3)) rfl rfl rfl λg4 lg4=>OkE.back (sl (sl (sl (sl (sl sr))))) (OkE.imp rfl (cZ (S:=S) (x:=((x.num*((y.den:Nat):Int))+(y.num*((x.den:Nat):Int)))) (args:=[(aG (Cn g2)),(aG (Cn g4))]) Tryz.call159 (λw hw=>VM g2 g4 (by omega) (by omega) w (inS hw 2 rfl lg2) (inS hw 0 rfl lg4)) rfl rfl rfl λg5 lg5=>OkE.back (sl (sl (sl (sl (sl (sl sr)))))) (OkE.imp rfl (cN (S:=S) (x:=x.den) (args:=[(aG (fxL a))]) Tryz.call147 (λw hw=>qDen_ok a (by omega) w (inS hw 8 rfl la)) rfl rfl rfl λg6 lg6=>OkE.back (sl (sl (sl (sl (sl (sl (sl sr))))))) (OkE.imp rfl (cN (S:=S) (x:=y.den) (args:=[(aG (fxL b))]) Tryz.call147 (λw hw=>qDen_ok b (by omega) w (inS hw 11 rfl lb)) rfl rfl rfl λg7 lg7=>?_))))))))
 refine OkE.back (sl (sl (sl (sl (sl (sl (sl (sl sr)))))))) (OkE.imp rfl (cN (S:=S) (x:=(x.den*y.den)) (args:=[(Bu g6),(Bu g7)]) Tryz.call162 (λw hw=>LV g6 g7 (by first|omega|(simp only [Int.natAbs_neg];omega)) (by first|omega|(simp only [Int.natAbs_neg];omega)) w (inS hw 1 rfl lg6) (inS hw 0 rfl lg7)) rfl rfl rfl λg8 lg8=>OkE.back (sl (sl (sl (sl (sl (sl (sl (sl (sl sr))))))))) (OkE.imp rfl (cF (S:=S) (x:=(x+y)) (args:=[(aG (Cn g5)),(Bu g8)]) Tryz.call158 (λw hw=>(Ah.cast (T:=λi=>FX i) (H0 x y) (Js g5 g8 (by omega) (by omega) h0xy w (inS hw 3 rfl lg5) (inS hw 0 rfl lg8)))) rfl rfl rfl λg9 lg9=>OkE.back (sl (sl (sl (sl (sl (sl (sl (sl (sl (sl (sl sr))))))))))) (OkE.imp rfl (FZ 10 (off:=0) (vs:=fxL g9) (cs':=fxL g9) (AP rfl) rfl Tryz.sizeOf83 rfl (OkE.back (sl (sl (sl (sl (sl (sl (sl (sl (sl (sl (sl sr))))))))))) (OkE.nil (OkQ.subF (sL [4] rfl) ?_)))))))))
 exact OkQ.then_ (OkC.ret (ret_one rfl (Aj (i:=10) (cs:=fxL g9) rfl rfl Tryz.isAgg83 Tryz.sizeOf83 rfl) (λw hw=>Df (a:=(g9:FX (x+y))) hw (inS hw 0 rfl lg9) rfl)))
theorem O1 {x y:Rat} (a:FX x) (b:FX y) (hs:Sz x+Sz y<=16777216) (w:World) {S:Nat->Prop} (ha:Ro S w a) (hb:Ro S w b)  :Calls Tryz.prog 127 #[(aG (fxL a)),(aG (fxL b))] w (Ah (FX (x-y)) S w):=by
 have la:=CU (W:=w) ha
 have lb:=CU (W:=w) hb
 refine Aa (args:=[(aG (fxL a)),(aG (fxL b))]) (L:=[By a.z.n,By a.m,By b.z.n,By b.m]) Tryz.func127 rfl rfl (AK rfl) (NJ ha (NJ hb Al)) (OkC.subF (sL [0,1] rfl) (q4 (Bg (cs:=fxL a) rfl λb1=>Bg (cs:=fxL b) rfl λb2=>al LH rfl λb3=>q6 (sL [2,3,4] rfl) (CV [(0,true),(1,true),(2,false),(3,false),(4,false)] (sl sr) (Ec 1 DM rfl (Ec 0 DM rfl (OkE.imp rfl (cF (S:=S) (x:=(-y)) (args:=[(aG (fxL b))]) Tryz.call181 (λw hw=>VT b w (inS hw 5 rfl lb)) rfl rfl rfl λg1 lg1=>?_))))))))
 refine OkE.back (sl (sl (sl sr))) (OkE.imp rfl ?_)
 have hz1:=Fz x (-y)
 exact cF (S:=S) (x:=(x-y)) (args:=[(aG (fxL a)),(aG (fxL g1))]) Tryz.call96 (λw hw=>(Ah.cast (T:=λi=>FX i) (Rat.sub_eq_add_neg x y).symm (Lo a g1 (by (try simp only [DT]);omega) w (inS hw 5 rfl la) (inS hw 0 rfl lg1)))) rfl rfl rfl λg2 lg2=>OkE.back (sl (sl (sl (sl (sl sr))))) (OkE.imp rfl (FZ 4 (off:=0) (vs:=fxL g2) (cs':=fxL g2) (AP rfl) rfl Tryz.sizeOf83 rfl (OkE.back (sl (sl (sl (sl (sl sr))))) (OkE.nil (OkQ.subF (sL [4] rfl) (OkQ.then_ (OkC.ret (ret_one rfl (Aj (i:=4) (cs:=fxL g2) rfl rfl Tryz.isAgg83 Tryz.sizeOf83 rfl) (λw hw=>Df (a:=(g2:FX (x-y))) hw (inS hw 0 rfl lg2) rfl)))))))))
theorem LX {x y:Rat} (a:FX x) (b:FX y) (hs:Sz x+Sz y<=16777216) (w:World) {S:Nat->Prop} (ha:Ro S w a) (hb:Ro S w b)  :Calls Tryz.prog 98 #[(aG (fxL a)),(aG (fxL b))] w (Ah (FX (x*y)) S w):=by
 have s0:=Cj x
 have s1:=CP x
 have s2:=Eh x
 have s3:=Cj y
 have s4:=CP y
 have s5:=Eh y
 have s6:=CC x y
 have s7:=CC y x
 have s8:=Fs x y
 have s9:=Gq x y
 have s10:=Dp (x.num*((y.den:Nat):Int)) (y.num*((x.den:Nat):Int))
 have h0x:=x.den_nz
 have h0y:=y.den_nz
 have h0xy:=Nat.mul_ne_zero h0x h0y
 have la:=CU (W:=w) ha
 have lb:=CU (W:=w) hb
 refine Aa (args:=[(aG (fxL a)),(aG (fxL b))]) (L:=[By a.z.n,By a.m,By b.z.n,By b.m]) Tryz.func98 rfl rfl (AK rfl) (NJ ha (NJ hb Al)) (OkC.subF (sL [0,1] rfl) (q4 (Bg (cs:=fxL a) rfl λb1=>Bg (cs:=fxL b) rfl λb2=>al LH rfl λb3=>q6 (sL [2,3,4] rfl) (CV [(0,true),(1,true),(2,true),(3,true),(5,true),(7,true),(4,false),(6,false),(8,false),(9,false),(10,false),(11,false)] (sl sr) (Ag (v:=(pP b1 0)) rfl (AA rfl Tryz.underlying83 rfl Tryz.sizeOf81 rfl) (FL 1 (Cn a.z) NU rfl (Ag (v:=(pP b2 0)) rfl (AA rfl Tryz.underlying83 rfl Tryz.sizeOf81 rfl) (FL 0 (Cn b.z) NU rfl ?_))))))))
 refine Ec 1 DM rfl (Ec 0 DM rfl (OkE.imp rfl (cZ (S:=S) (x:=(x.num*y.num)) (args:=[(aG (Cn a.z)),(aG (Cn b.z))]) Tryz.call160 (λw hw=>LY a.z b.z (by omega) (by omega) w (T9 (inS hw 3 rfl la)) (T9 (inS hw 5 rfl lb))) rfl rfl rfl λg1 lg1=>OkE.back (sl (sl sr)) (OkE.imp rfl (cN (S:=S) (x:=x.den) (args:=[(aG (fxL a))]) Tryz.call147 (λw hw=>qDen_ok a (by omega) w (inS hw 4 rfl la)) rfl rfl rfl λg2 lg2=>OkE.back (sl (sl (sl sr))) (OkE.imp rfl (cN (S:=S) (x:=y.den) (args:=[(aG (fxL b))]) Tryz.call147 (λw hw=>qDen_ok b (by omega) w (inS hw 7 rfl lb)) rfl rfl rfl λg3 lg3=>OkE.back (sl (sl (sl (sl sr)))) (OkE.imp rfl ?_))))))))
 exact cN (S:=S) (x:=(x.den*y.den)) (args:=[(Bu g2),(Bu g3)]) Tryz.call162 (λw hw=>LV g2 g3 (by first|omega|(simp only [Int.natAbs_neg];omega)) (by first|omega|(simp only [Int.natAbs_neg];omega)) w (inS hw 1 rfl lg2) (inS hw 0 rfl lg3)) rfl rfl rfl λg4 lg4=>OkE.back (sl (sl (sl (sl (sl sr))))) (OkE.imp rfl (cF (S:=S) (x:=(x*y)) (args:=[(aG (Cn g1)),(Bu g4)]) Tryz.call158 (λw hw=>(Ah.cast (T:=λi=>FX i) (H5 x y) (Js g1 g4 (by omega) (by omega) h0xy w (inS hw 3 rfl lg1) (inS hw 0 rfl lg4)))) rfl rfl rfl λg5 lg5=>OkE.back (sl (sl (sl (sl (sl (sl (sl sr))))))) (OkE.imp rfl (FZ 6 (off:=0) (vs:=fxL g5) (cs':=fxL g5) (AP rfl) rfl Tryz.sizeOf83 rfl (OkE.back (sl (sl (sl (sl (sl (sl (sl sr))))))) (OkE.nil (OkQ.subF (sL [4] rfl) (OkQ.then_ (OkC.ret (ret_one rfl (Aj (i:=6) (cs:=fxL g5) rfl rfl Tryz.isAgg83 Tryz.sizeOf83 rfl) (λw hw=>Df (a:=(g5:FX (x*y))) hw (inS hw 0 rfl lg5) rfl)))))))))))
theorem UP (a b:Rat):Sz (a/b)<=Sz a+Sz b:=by
 by_cases h:b=0
 ·subst h;rw [Rat.div_def,Rat.inv_zero,Rat.mul_zero];have h1:=N6 a;exact Nat.le_trans (show Sz (0:Rat)<=1 by decide +kernel) (by omega)
 ·exact N1 h
theorem JC  :Instr.fill ([(0,2),(2,1)].toArray[·]?) ([(Value.bool false),(Value.slice none 0 0),(Value.slice none 0 0)]).toArray []=some ([(Value.bool false),(Value.slice none 0 0),(Value.slice none 0 0)]).toArray:=by kernel_rfl
theorem U_ {x y:Rat} (a:FX x) (b:FX y) (hs:Sz x+Sz y<=16777216) (w:World) {S:Nat->Prop} (ha:Ro S w a) (hb:Ro S w b)  :Calls Tryz.prog 97 #[(aG (fxL a)),(aG (fxL b))] w (Ah (FX (x/y)) S w):=by
 have s0:=Cj x
 have s1:=CP x
 have s2:=Eh x
 have s3:=Cj y
 have s4:=CP y
 have s5:=Eh y
 have s6:=CC x y
 have s7:=CC y x
 have s8:=Fs x y
 have s9:=Gq x y
 have s10:=Dp (x.num*((y.den:Nat):Int)) (y.num*((x.den:Nat):Int))
 have h0x:=x.den_nz
 have h0y:=y.den_nz
 have h0xy:=Nat.mul_ne_zero h0x h0y
 have la:=CU (W:=w) ha
 have lb:=CU (W:=w) hb
 refine Aa (args:=[(aG (fxL a)),(aG (fxL b))]) (L:=[By a.z.n,By a.m,By b.z.n,By b.m]) Tryz.func97 rfl rfl (AK rfl) (NJ ha (NJ hb Al)) (OkC.subF (sL [0,1] rfl) (q4 (Bg (cs:=fxL a) rfl λb1=>Bg (cs:=fxL b) rfl λb2=>al LH rfl λb3=>q6 (sL [2,3,4] rfl) (q4 (BU 1 DM rfl (Cq Tryz.call126 (λw hw=>SW b w (inS hw 5 rfl lb)) rfl (AG (BE (c:=(decide (y.num.sign=(0:Int)))) rfl rfl rfl) rfl (OkL.nil ?_))))))))
 refine OkQ.subF (sL [2,3,4,7] rfl) (OkQ.then_ ?_)
 refine OkC.cond rfl (λhc0=>?_) (λhc0=>?_)
 ·replace hc0:=of_decide_eq_true hc0
  exact q4 (AG (v:=(aG ([(Value.bool false),(Value.slice none 0 0),(Value.slice none 0 0)]))) (AR (zs:=[(Value.bool false),(Value.slice none 0 0),(Value.slice none 0 0)]) (vs:=[(Value.bool false),(Value.slice none 0 0),(Value.slice none 0 0)]) (pv:=[]) (places:=[(0,2),(2,1)]) Tryz.zeroValue83 Tryz.underlying83 (λw=>by simp [Tryz.sizeOf79,Tryz.sizeOf81]) rfl (JC )) rfl (Ay rfl Tryz.sizeOf83 rfl (OkL.nil (OkQ.subF (sL [2,3,4] rfl) (OkQ.then_ (OkC.ret (OkQ.then_ret (ret_one rfl (Aj (i:=0) (cs:=[(Value.bool false),(Value.slice none 0 0),(Value.slice none 0 0)]) rfl rfl Tryz.isAgg83 Tryz.sizeOf83 rfl) (λw hw=>(by rw [<-Sc (a:=x) hc0];exact Df (a:=FX.zero) hw (YT (ZC Wb) Wb) rfl))))))))))
 ·replace hc0:=of_decide_eq_false hc0
  have hy:y≠0:=λe=>hc0 (by rw [e];rfl)
  have hi:=OY hy
  have hyn:y.num.natAbs≠0:=λe=>hy (Rat.num_eq_zero.1 (by omega))
  refine OkC.skip (q1 (CV [(0,true),(1,true),(2,true),(3,true),(4,true),(7,true),(8,true),(9,true),(5,false),(6,false),(10,false),(11,false),(12,false)] (sl sr) (Ec 1 DM rfl (Ag (v:=(pP b2 0)) rfl (AA rfl Tryz.underlying83 rfl Tryz.sizeOf81 rfl) (Ag (v:=(pP b2 0)) rfl (AA rfl Tryz.underlying81 rfl Tryz.sizeOf4 rfl) (BQ 0 (Value.bool (decide (y.num<0))) KL rfl (Ec 0 DM rfl (Ag (v:=(pP b2 0)) rfl (AA rfl Tryz.underlying83 rfl Tryz.sizeOf81 rfl) (Ag (v:=(pP b2 1)) rfl (AA rfl Tryz.underlying81 rfl Tryz.sizeOf79 rfl) (BQ 0 (Bu b.z.n) FA rfl (OkE.imp rfl ?_)))))))))))
  refine cN (S:=S) (x:=y.den) (args:=[(aG (fxL b))]) Tryz.call147 (λw hw=>qDen_ok b (by omega) w (inS hw 5 rfl lb)) rfl rfl rfl λg1 lg1=>OkE.back (sl (sl sr)) (OkE.imp rfl (cZ (S:=S) (x:=(Dc (decide (y.num<0)) y.den)) (args:=[(Value.bool (decide (y.num<0))),(Bu g1)]) Tryz.call163 (λw hw=>C5 (decide (y.num<0)) g1 w (inS hw 0 rfl lg1)) rfl rfl rfl λg2 lg2=>OkE.back (sl (sl (sl sr))) (OkE.imp rfl (cF (S:=S) (x:=(y⁻¹)) (args:=[(aG (Cn g2)),(Bu b.z.n)]) Tryz.call158 (λw hw=>(Ah.cast (T:=λi=>FX i) (YY hy) (Js g2 b.z.n (by rw [A8];omega) (by omega) hyn w (inS hw 0 rfl lg2) (MD (T9 (inS hw 7 rfl lb)))))) rfl rfl rfl λg3 lg3=>OkE.back (sl (sl (sl (sl (sl sr))))) (OkE.imp rfl ?_)))))
  have hz1:=GA x (y⁻¹)
  exact cF (S:=S) (x:=(x/y)) (args:=[(aG (fxL a)),(aG (fxL g3))]) Tryz.call98 (λw hw=>(Ah.cast (T:=λi=>FX i) Vs (LX a g3 (by (try simp only [DT]);omega) w (inS hw 7 rfl la) (inS hw 0 rfl lg3)))) rfl rfl rfl λg4 lg4=>OkE.back (sl (sl (sl (sl (sl (sl (sl sr))))))) (OkE.imp rfl (FZ 6 (off:=0) (vs:=fxL g4) (cs':=fxL g4) (AP rfl) rfl Tryz.sizeOf83 rfl (OkE.back (sl (sl (sl (sl (sl (sl (sl sr))))))) (OkE.nil (OkQ.subF (sL [3,4] rfl) (OkQ.then_ (OkC.ret (ret_one rfl (Aj (i:=6) (cs:=fxL g4) rfl rfl Tryz.isAgg83 Tryz.sizeOf83 rfl) (λw hw=>Df (a:=(g4:FX (x/y))) hw (inS hw 0 rfl lg4) rfl)))))))))
theorem TW (n d:Int) (h1:-9223372036854775808<=n) (h2:n<9223372036854775808) (h3:-9223372036854775808<=d) (h4:d<9223372036854775808) (w:World) {S:Nat->Prop}  :Calls Tryz.prog 117 #[(vI n),(vI d)] w (Ah (FX (((n:Int):Rat)/((d:Int):Rat))) S w):=by
 have s1:=Hp h1 h2
 have s2:=Hp h3 h4
 refine AZ (args:=[(vI n),(vI d)]) Tryz.func117 rfl rfl (AK rfl) (OkC.subF (sL [0,1] rfl) (q4 (al LH rfl λb1=>OkL.nil (q2 (AO rfl (cF (S:=S) (x:=((n:Int):Rat)) (args:=[(vI n)]) Tryz.call94 (λw hw=>Ow n (by omega) (by omega) w) rfl rfl rfl λg1 lg1=>AO rfl (cF (S:=S) (x:=((d:Int):Rat)) (args:=[(vI d)]) Tryz.call94 (λw hw=>Ow d (by omega) (by omega) w) rfl rfl rfl λg2 lg2=>?_)))))))
 have hz1:=UP ((n:Int):Rat) ((d:Int):Rat)
 exact cF (S:=S) (x:=(((n:Int):Rat)/((d:Int):Rat))) (args:=[(aG (fxL g1)),(aG (fxL g2))]) Tryz.call97 (λw hw=>U_ g1 g2 (by (try simp only [DT]);omega) w (inS hw 2 rfl lg1) (inS hw 0 rfl lg2)) rfl rfl rfl λg3 lg3=>FZ 6 (off:=0) (vs:=fxL g3) (cs':=fxL g3) (AP rfl) rfl Tryz.sizeOf83 rfl (OkL.nil (OkQ.subF (sL [4] rfl) (OkQ.then_ (OkC.ret (ret_one rfl (Aj (i:=6) (cs:=fxL g3) rfl rfl Tryz.isAgg83 Tryz.sizeOf83 rfl) (λw hw=>Df (a:=(g3:FX (((n:Int):Rat)/((d:Int):Rat)))) hw (inS hw 0 rfl lg3) rfl))))))
theorem R4 {x:Rat} (a:FX x) (hs:Sz x<=16777216) (w:World) {S:Nat->Prop} (ha:Ro S w a)  :Calls Tryz.prog 87 #[(aG (fxL a))] w (Ai w (Value.string (txB (L1 x)))):=by
 have s0:=Cj x
 have s1:=CP x
 have s2:=Eh x
 have hl1:=UR x.num
 have hl2:=OL x.den
 have la:=CU (W:=w) ha
 refine Aa (args:=[(aG (fxL a))]) (L:=[By a.z.n,By a.m]) Tryz.func87 rfl rfl (AK rfl) (NJ ha Al) (OkC.subF (sL [0] rfl) (q4 (Bg (cs:=fxL a) rfl λb1=>asg' rfl (q6 (sL [1,2] rfl) (q4 (AG (v:=(pP b1 2)) (AA rfl Tryz.underlying83 rfl Tryz.sizeOf79 rfl) rfl (Aw 0 (Bu a.m) FA rfl (AG (v:=(vN ((dg (x.den-1)).length))) (AD rfl Tryz.underlying79) rfl (AG (BE (c:=(decide (((dg (x.den-1)).length)=0))) rfl rfl (L5 (a:=(dg (x.den-1)).length) (b:=0))) rfl (OkL.nil ?_))))))))))
 refine OkQ.subF (sL [1,2,6] rfl) (OkQ.then_ ?_)
 refine OkC.cond rfl (λhc0=>?_) (λhc0=>?_)
 ·replace hc0:=of_decide_eq_true hc0
  have he:L1 x=txI x.num:=by unfold L1;rw [if_pos (M5 hc0)]
  exact q4 (AG (v:=(pP b1 0)) (AA rfl Tryz.underlying83 rfl Tryz.sizeOf81 rfl) rfl (EX 0 (Cn a.z) NU rfl (Cq Tryz.call145 (λw hw=>NO a.z (by omega) w (T9 (inS hw 1 rfl la))) rfl (asg' rfl (OkL.nil (OkQ.subF (sL [1,2] rfl) (OkQ.then_ (OkC.ret (OkQ.then_ret (ret_one rfl (rd_tmp (v:=(Value.string (txB (txI x.num)))) rfl) (λw hw=>⟨by rw [he],hw.out⟩)))))))))))
 ·replace hc0:=of_decide_eq_false hc0
  have he:L1 x=txI x.num++[47]++Lib.decDigits x.den:=by unfold L1;rw [if_neg (Hh hc0),List.append_assoc];rfl
  refine OkC.skip (q1 (CV [(0,true),(1,true),(4,true),(2,false),(3,true),(5,false),(6,false),(7,true),(8,true)] sr (Ag (v:=(pP b1 0)) rfl (AA rfl Tryz.underlying83 rfl Tryz.sizeOf81 rfl) (FL 0 (Cn a.z) NU rfl (Ec 0 DM rfl (OkE.imp rfl (Cq Tryz.call145 (λw hw=>NO a.z (by omega) w (T9 (inS hw 1 rfl la))) rfl (OkE.back sr (Ag (v:=(Value.string (txB (txI x.num++[47])))) rfl (CH (r:=(txB (txI x.num++[47]))) rfl rfl (by rw [C_];show _+1<=_;omega) (DF _ [47])) (OkE.imp rfl (cN (S:=S) (x:=x.den) (args:=[(aG (fxL a))]) Tryz.call147 (λw hw=>qDen_ok a (by omega) w (inS hw 1 rfl la)) rfl rfl rfl λg1 lg1=>?_)))))))))))
  exact OkE.back (sl sr) (OkE.imp rfl (Cq Tryz.call146 (λw hw=>J1 g1 (by first|omega|(simp only [Int.natAbs_neg];omega)) w (inS hw 0 rfl lg1)) rfl (OkE.back (sl sr) (Ag (v:=(Value.string (txB (txI x.num++[47]++Lib.decDigits x.den)))) rfl (CH (r:=(txB (txI x.num++[47]++Lib.decDigits x.den))) rfl rfl (by rw [C_,C_,List.length_append];show _+1+_<=_;omega) (DF _ _)) (pS' rfl (OkE.nil (OkQ.subF (sL [1,2] rfl) (OkQ.then_ (OkC.ret (ret_one rfl (rd_tmp (v:=(Value.string (txB (txI x.num++[47]++Lib.decDigits x.den)))) rfl) (λw hw=>⟨by rw [he],hw.out⟩)))))))))))
end
section
theorem Ua (a b:Int):(decide (a.natAbs=b.natAbs)&&((decide (a<0) == decide (b<0))&&true))=decide (a=b):=by
  by_cases e:a=b
  · subst e;simp
  · rw [decide_eq_false e]
    by_cases h1:a<0<;>by_cases h2:b<0<;>simp [h1,h2]<;>omega
theorem Uh (D:Nat) (a b:Int):ER Tryz.prog (D+4) 75 (.agg (A7 a).toArray) (.agg (A7 b).toArray) (decide (a=b)):=by
  rw [<-Ua]
  exact ER.struct Tryz.underlying75 Tryz.stoodInHeld75 (Hu.agg (us:=AS a.natAbs) (bs:=AS b.natAbs) (by decide) Tryz.isAgg73 Tryz.sizeOf73 rfl rfl (Md D _ _) (Hu.one (by decide) Tryz.isAgg4 rfl rfl (ER.bool Tryz.underlying4) Hu.nil))
theorem Tb (a b:Rat):(decide (a.num=b.num)&&(decide (a.den-1=b.den-1)&&true))=decide (a=b):=by
  by_cases e:a=b
  · subst e;simp
  · rw [decide_eq_false e]
    have h1:=a.den_pos
    have h2:=b.den_pos
    simp only [Bool.and_true,Bool.and_eq_false_iff,decide_eq_false_iff_not]
    apply Classical.byContradiction
    intro h
    refine e (Rat.ext ?_ ?_)
    · exact Classical.byContradiction λk=>h (.inl k)
    · exact Classical.byContradiction λk=>h (.inr (by omega))
theorem Mc (D:Nat) (a b:Rat):ER Tryz.prog (D+5) 77 (.agg (AW a).toArray) (.agg (AW b).toArray) (decide (a=b)):=by
  rw [<-Tb]
  exact ER.struct Tryz.underlying77 Tryz.stoodInHeld77 (Hu.agg (us:=A7 a.num) (bs:=A7 b.num) (by decide) Tryz.isAgg75 Tryz.sizeOf75 rfl rfl (Uh D _ _) (Hu.agg (us:=AS (a.den-1)) (bs:=AS (b.den-1)) (by decide) Tryz.isAgg71 Tryz.sizeOf71 rfl rfl (HJ (D+2) _ _) Hu.nil))
instance:DecidableEq Pt:=λa b=>decidable_of_iff (a.x=b.x/\a.y=b.y) ⟨λh=>Pt.ext h.1 h.2,λh=>h▸⟨rfl,rfl⟩⟩
theorem W0 (a b:Pt):(decide (a.x=b.x)&&(decide (a.y=b.y)&&true))=decide (a=b):=by
  by_cases e:a=b
  · subst e;simp
  · rw [decide_eq_false e]
    simp only [Bool.and_true,Bool.and_eq_false_iff,decide_eq_false_iff_not]
    apply Classical.byContradiction
    intro h
    refine e (Pt.ext ?_ ?_)
    · exact Classical.byContradiction λk=>h (.inl k)
    · exact Classical.byContradiction λk=>h (.inr k)
theorem W7 (D:Nat) (a b:Pt):ER Tryz.prog (D+6) 99 (.agg (BC a).toArray) (.agg (BC b).toArray) (decide (a=b)):=by
  rw [<-W0]
  exact ER.struct Tryz.underlying99 Tryz.stoodInHeld99 (Hu.agg (us:=AW a.x) (bs:=AW b.x) (by decide) Tryz.isAgg77 Tryz.sizeOf77 rfl rfl (Mc D _ _) (Hu.agg (us:=AW a.y) (bs:=AW b.y) (by decide) Tryz.isAgg77 Tryz.sizeOf77 rfl rfl (Mc D _ _) Hu.nil))
section
variable {P:Program}
def O5 (P:Program) (D:Nat) (e:TypeId) (c:Nat) (xs ys:List Value) (is:List Nat) (b:Bool):Prop:=∀w,(Go.Op.eqItems D e c xs.toArray ys.toArray is).run P w=.ok b w
theorem O5.nil {D c:Nat} {e:TypeId} {xs ys:List Value}:O5 P D e c xs ys [] true:=λw=>rfl
theorem ER.array {D n c:Nat} {T e:TypeId} {xs ys:List Value} {b:Bool} (hu:P.underlying T=some (.array n e)) (hi:∃i,P.info? e=some i) (hc:P.cellsOf e=c) (h:O5 P D e c xs ys (List.range n) b) :
    ER P (D+1) T (.agg xs.toArray) (.agg ys.toArray) b:=λw=>by
  obtain ⟨i,hi⟩:=hi
  rw [Go.run_equalIn_array w D xs.toArray ys.toArray hu hi,hc]
  exact h w
end
theorem Jb (D:Nat) {a b:Pt} (h:a=b):ER Tryz.prog (D+6) 99 (.agg (BC a).toArray) (.agg (BC b).toArray) true:=by
  have:=W7 D a b;rwa [decide_eq_true h] at this
section
variable {P:Program} {n:Nat} {F:List (Nat×Value)} {w0:A_} {L:List As} {x y:Operand} {d:Option Tmp} {t:TypeId} {p:String} {af:Array Edge} {g:Option (Nat×Bool)}
theorem Lt {xs ys:List Value} {c e:Bool} {tx ty:TypeId} (hx:evF F x=some (.agg xs.toArray)) (hy:evF F y=some (.agg ys.toArray)) (hg:P.eqGuardType P.depth tx=false) (hc:ER P 10000 tx (.agg xs.toArray) (.agg ys.toArray) c) (he:(!c)=e) :
    Ex P n F w0 L ⟨d,.binOp .neq tx x y ty,t,p,af,g⟩ (.bool e):=he▸Oe hx hy hg hc
end
end
section
structure QD where
  n:Int
  d:Nat
structure PD where
  x:QD
  y:QD
def HW (q:QD):List Value:=[.int .i64 q.n,.int .u32 (q.d:Nat)]
def E2 (p:PD):List Value:=HW p.x++HW p.y
def QD.ok (q:QD):Prop := -9223372036854775808<=q.n/\q.n<9223372036854775808/\q.d<4294967296
def PD.ok (p:PD):Prop:=p.x.ok/\p.y.ok
def IL (q:QD):Rat:=((q.n:Int):Rat)/(((max q.d 1:Nat):Int):Rat)
def Fx (p:PD):Pt:=⟨IL p.x,IL p.y⟩
theorem SN {q:QD} (h:q.ok):Sz (IL q)<=4:=by
  obtain ⟨h1,h2,h3⟩:=h
  have s1:=Hp h1 h2
  have s2:=Hp (z:=((max q.d 1:Nat):Int)) (by omega) (by omega)
  have hb:(((max q.d 1:Nat):Int):Rat)≠0:=λe=>by
    have:((max q.d 1:Nat):Int)=0:=by exact_mod_cast e
    omega
  have:=N1 (a:=((q.n:Int):Rat)) hb
  unfold IL
  omega
theorem RL {p:PD} (h:p.ok):D9 (Fx p)<=4:=LU (SN h.1) (SN h.2)
section
variable {P:Program} {w:World} {r:Reach} {base:Nat}
end
theorem Ut {n:Int} (h:IntKind.i64.has n):-9223372036854775808<=n/\n<9223372036854775808:=by
  simp only [IntKind.has,IntKind.min,IntKind.max,IntKind.bits,IntKind.signed] at h;simp at h;omega
theorem Um {n:Int} (h:IntKind.u32.has n):0<=n/\n<4294967296:=by
  simp only [IntKind.has,IntKind.min,IntKind.max,IntKind.bits,IntKind.signed] at h;simp at h;omega
section
variable {P:Program} {w:World} {r:Reach} {base:Nat} {t:TypeId} {v:Value} {ts:List TypeId}
end
end
section
set_option maxRecDepth 100000
theorem Sb (q:QD) (h:q.ok) (w:World)  :Calls Tryz.prog 105 #[(aG (HW q))] w (Ai w (aG (AW (IL q)))):=by
 obtain ⟨h1,h2,h3⟩:=h
 refine AZ (args:=[(aG (HW q))]) Tryz.func105 rfl rfl (AK rfl) (OkC.subF (sL [0] rfl) (q4 (Bg (cs:=HW q) rfl λb1=>al H9 rfl λb2=>q3 (sL [1,2] rfl) (AG (v:=(pP b1 0)) (AA rfl Tryz.underlying94 rfl Tryz.sizeOf2 rfl) rfl (Aw 1 (vI q.n) YN rfl (AG (v:=(pP b1 1)) (AA rfl Tryz.underlying94 rfl Tryz.sizeOf92 rfl) rfl (Aw 1 (vK .u32 q.d) Wd rfl (AG (DH (c:=((max q.d 1:Nat):Int)) rfl rfl (by split<;>omega)) rfl (AG (Ar (c:=((max q.d 1:Nat):Int)) rfl Tryz.underlying92 Tryz.underlying2 (EJ (by omega))) rfl ?_)))))))))
 refine ck' Tryz.call93 (T7 (q.n:Int) ((max q.d 1:Nat):Int) (by omega) (by omega) (by omega) (by omega) (by omega)) rfl (AO rfl (AG (AV (v:=(aG (AW (((q.n:Int):Rat)/(((max q.d 1:Nat):Int):Rat))))) rfl rfl) rfl (AG (AV (v:=(vI 0)) rfl rfl) rfl (al H9 rfl λb3=>Ay rfl Tryz.sizeOf77 rfl (asg' rfl (q3 (sL [2,3] rfl) (BU 0 Ck rfl (Dw rfl Tryz.sizeOf77 rfl (OkL.nil (OkQ.subF (sL [2,3] rfl) ?_))))))))))
 exact OkQ.then_ (OkC.ret (ret_one rfl (Aj (i:=1) (cs:=AW (((q.n:Int):Rat)/(((max q.d 1:Nat):Int):Rat))) rfl rfl Tryz.isAgg77 Tryz.sizeOf77 rfl) (λw hw=>⟨rfl,hw.out⟩)))
theorem EB (x0:Rat) (x1:Rat):Instr.fill ([(0,5),(5,5)].toArray[·]?) (BC (⟨0,0⟩:Pt)).toArray [(0,.agg (AW x0).toArray),(1,.agg (AW x1).toArray)]=some (AW x0++AW x1).toArray:=by kernel_rfl
theorem Wg (p:PD) (h:p.ok) (w:World)  :Calls Tryz.prog 37 #[(aG (E2 p))] w (Ai w (aG (BC (Fx p)))):=by
 have h1:=h.1
 have h2:=h.2
 refine AZ (args:=[(aG (E2 p))]) Tryz.func37 rfl rfl (AK rfl) (OkC.subF (sL [0] rfl) (q4 (Bg (cs:=E2 p) rfl λb1=>al Nm rfl λb2=>q6 (sL [1,2] rfl) (CV [(0,true),(1,true),(3,true),(4,true),(2,false),(5,false),(6,true),(7,false)] (sl sr) (Ag (v:=(pP b1 0)) rfl (AA rfl Tryz.underlying96 rfl Tryz.sizeOf94 rfl) (FL 0 (HW p.x) Qz rfl (Ag (v:=(pP b1 2)) rfl (AA rfl Tryz.underlying96 rfl Tryz.sizeOf94 rfl) (FL 0 (HW p.y) Qz rfl (OkE.imp rfl ?_)))))))))
 refine ck' Tryz.call105 (Sb p.x (by assumption)) rfl (OkE.back (sl sr) (OkE.imp rfl (ck' Tryz.call105 (Sb p.y (by assumption)) rfl (OkE.back (sl sr) (Ag (v:=(aG (AW (IL p.x)++AW (IL p.y)))) rfl (AR (zs:=BC (⟨0,0⟩:Pt)) (vs:=AW (IL p.x)++AW (IL p.y)) (pv:=[(0,(aG (AW (IL p.x)))),(1,(aG (AW (IL p.y))))]) (places:=[(0,5),(5,5)]) Tryz.zeroValue99 Tryz.underlying99 (λw=>by simp [Tryz.sizeOf77]) rfl (EB (IL p.x) (IL p.y))) (OkE.imp rfl (Ay rfl Tryz.sizeOf99 rfl (OkE.back (sl sr) (OkE.nil (OkQ.subF (sL [2] rfl) (OkQ.then_ ?_)))))))))))
 exact OkC.ret (ret_one rfl (Aj (i:=0) (cs:=AW (IL p.x)++AW (IL p.y)) rfl rfl Tryz.isAgg99 Tryz.sizeOf99 rfl) (λw hw=>⟨rfl,hw.out⟩))
end
section
set_option maxRecDepth 100000
theorem PS (z:QD) (h:z.ok) (w:World) {S:Nat->Prop}  :Calls Tryz.prog 112 #[(aG (HW z))] w (Ah (FX (IL z)) S w):=by
 obtain ⟨h1,h2,h3⟩:=h
 refine AZ (args:=[(aG (HW z))]) Tryz.func112 rfl rfl (AK rfl) (OkC.subF (sL [0] rfl) (q4 (Bg (cs:=HW z) rfl λb1=>al LH rfl λb2=>q3 (sL [1,2] rfl) (AG (v:=(pP b1 0)) (AA rfl Tryz.underlying94 rfl Tryz.sizeOf2 rfl) rfl (Aw 1 (vI z.n) YN rfl (AG (v:=(pP b1 1)) (AA rfl Tryz.underlying94 rfl Tryz.sizeOf92 rfl) rfl (Aw 1 (vK .u32 z.d) Wd rfl (AG (DH (c:=((max z.d 1:Nat):Int)) rfl rfl (by split<;>omega)) rfl (AG (Ar (c:=((max z.d 1:Nat):Int)) rfl Tryz.underlying92 Tryz.underlying2 (EJ (by omega))) rfl ?_)))))))))
 exact cF (S:=S) (x:=(IL z)) (args:=[(vI z.n),(vN (max z.d 1))]) Tryz.call117 (λw hw=>(Ah.cast (T:=λi=>FX i) rfl (TW z.n ((max z.d 1:Nat):Int) (by omega) (by omega) (by omega) (by omega) w))) rfl rfl rfl λg1 lg1=>Gh rfl Tryz.sizeOf83 rfl (OkL.nil (OkQ.subF (sL [2] rfl) (OkQ.then_ (OkC.ret (ret_one rfl (Aj (i:=2) (cs:=fxL g1) rfl rfl Tryz.isAgg83 Tryz.sizeOf83 rfl) (λw hw=>Df (a:=(g1:FX (IL z))) hw (inS hw 0 rfl lg1) rfl))))))
theorem Er {r0:Rat} (x0:FX r0) {r1:Rat} (x1:FX r1):Instr.fill ([(0,3),(3,3)].toArray[·]?) ([(Value.bool false),(Value.slice none 0 0),(Value.slice none 0 0),(Value.bool false),(Value.slice none 0 0),(Value.slice none 0 0)]).toArray [(0,.agg (fxL x0).toArray),(1,.agg (fxL x1).toArray)]=some (fxL x0++fxL x1).toArray:=by kernel_rfl
theorem VP (p:PD) (h:p.ok) (w:World) {S:Nat->Prop}  :Calls Tryz.prog 48 #[(aG (E2 p))] w (Ah (PX (Fx p)) S w):=by
 have h1:=h.1
 have h2:=h.2
 refine AZ (args:=[(aG (E2 p))]) Tryz.func48 rfl rfl (AK rfl) (OkC.subF (sL [0] rfl) (q4 (Bg (cs:=E2 p) rfl λb1=>al MU rfl λb2=>q6 (sL [1,2] rfl) (CV [(0,true),(1,true),(3,true),(4,true),(2,false),(5,false),(6,true),(7,false)] (sl sr) (Ag (v:=(pP b1 0)) rfl (AA rfl Tryz.underlying96 rfl Tryz.sizeOf94 rfl) (FL 0 (HW p.x) Qz rfl (Ag (v:=(pP b1 2)) rfl (AA rfl Tryz.underlying96 rfl Tryz.sizeOf94 rfl) (FL 0 (HW p.y) Qz rfl (OkE.imp rfl ?_)))))))))
 refine cF (S:=S) (x:=(IL p.x)) (args:=[(aG (HW p.x))]) Tryz.call112 (λw hw=>PS p.x (by assumption) w) rfl rfl rfl λg1 lg1=>OkE.back (sl (sl (sl sr))) (OkE.imp rfl (cF (S:=S) (x:=(IL p.y)) (args:=[(aG (HW p.y))]) Tryz.call112 (λw hw=>PS p.y (by assumption) w) rfl rfl rfl λg2 lg2=>OkE.back (sl (sl (sl (sl (sl sr))))) (Ag (v:=(aG (fxL g1++fxL g2))) rfl (AR (zs:=[(Value.bool false),(Value.slice none 0 0),(Value.slice none 0 0),(Value.bool false),(Value.slice none 0 0),(Value.slice none 0 0)]) (vs:=fxL g1++fxL g2) (pv:=[(0,(aG (fxL g1))),(1,(aG (fxL g2)))]) (places:=[(0,3),(3,3)]) Tryz.zeroValue121 Tryz.underlying121 (λw=>by simp [Tryz.sizeOf83]) rfl (Er g1 g2)) (OkE.imp rfl (FZ 4 (off:=0) (vs:=fxL g1++fxL g2) (cs':=fxL g1++fxL g2) (AP rfl) rfl Tryz.sizeOf121 rfl (OkE.back (sl (sl (sl (sl (sl sr))))) (OkE.nil (OkQ.subF (sL [2] rfl) (OkQ.then_ ?_)))))))))
 exact OkC.ret (ret_one rfl (Aj (i:=4) (cs:=fxL g1++fxL g2) rfl rfl Tryz.isAgg121 Tryz.sizeOf121 rfl) (λw hw=>Df (a:=((PX.mk g1 g2:PX (⟨IL p.x,IL p.y⟩:Pt)):PX (Fx p))) hw (YO (inS hw 2 rfl lg1) (inS hw 0 rfl lg2)) rfl))
end
end Go.Proofs.YtpolhpjiahbidaaGreatDoor
