import Derived.Test.YtpolhpjiahbidaaGreatDoorPart05
import Derived.Test.YtpolhpjiahbidaaGreatDoorPart17
import Derived.Test.YtpolhpjiahbidaaGreatDoorPart18
import Derived.Test.YtpolhpjiahbidaaGreatDoorPart31
namespace Go.Proofs.YtpolhpjiahbidaaGreatDoor
open Go Go.RowKit Go.Proofs.Tryz
set_option linter.unusedVariables false
set_option linter.unusedSimpArgs false
section
set_option maxRecDepth 100000
theorem Qb  (w:World) {S:Nat->Prop}  :Calls prog 199 #[] w (Af (NX 1) S w):=by
 exact Ab (args:=[]) func199 O O (AI O) (OkC.subF sN (q4 (asg' O (OkL.nil (q2 (cN (S:=S) (x:=1) (args:=[(Value.int .u64 (1:Int))]) call207 (λw hw=>O2 1 (by first|omega|(simp only [Int.natAbs_neg];omega)) w) O O O λg1 lg1=>asg' O (OkL.nil (OkQ.subF (sL [0] O) (OkQ.then_ (OkC.ret (ret_one O (rd_tmp (v:=(Bv g1)) O) (λw hw=>D0 (a:=(g1:NX 1)) hw (inS hw 0 O lg1) O))))))))))))
theorem qDen_ok {x:Rat} (a:FX x) (hs:Sz x<=16777216) (w:World) {S:Nat->Prop} (ha:Ro S w a)  :Calls prog 147 #[(aG (fxL a))] w (Af (NX x.den) S w):=by
 have s0:=Cr x
 have s1:=CZ x
 have s2:=E9 x
 have h1w:=H4
 have la:=CI (W:=w) ha
 refine AY (args:=[(aG (fxL a))]) (L:=[B1 a.z.n,B1 a.m]) func147 O O (AI O) (N0 ha Aj) (OkC.subF (sL [0] O) (q4 (Be (cs:=fxL a) O λb1=>asg' O (q6 (sL [1,2] O) (Cd [(0,true),(1,true),(2,false),(3,false),(4,true)] sr (Al (v:=(pP b1 2)) O (AA O underlying83 O sizeOf79 O) (BM 0 (Bv a.m) FY O (OkE.imp O (cN (S:=S) (x:=1) (args:=[]) call199 (λw hw=>Qb w) O O O λg1 lg1=>OkE.back (sl sr) ?_)))))))))
 exact OkE.imp O (cN (S:=S) (x:=x.den) (args:=[(Bv a.m),(Bv g1)]) call198 (λw hw=>(Af.cast (T:=λi=>NX i) (Nat.sub_add_cancel x.den_pos) (Ps a.m g1 (by first|omega|(simp only [Int.natAbs_neg];omega)) (by first|omega|(simp only [Int.natAbs_neg];omega)) w (Z2 (inS hw 2 O la)) (inS hw 0 O lg1)))) O O O λg2 lg2=>OkE.back (sl (sl sr)) (pS' O (OkE.nil (OkQ.subF (sL [2] O) (OkQ.then_ (OkC.ret (ret_one O (rd_tmp (v:=(Bv g2)) O) (λw hw=>D0 (a:=(g2:NX x.den)) hw (inS hw 0 O lg2) O))))))))
theorem Qi {x:Rat} (a:FX x) (hs:Sz x<=16777216) (w:World) {S:Nat->Prop} (ha:Ro S w a)  :Calls prog 161 #[(aG (fxL a))] w (Af (ZX ((x.den:Nat):Int)) S w):=by
 have la:=CI (W:=w) ha
 refine AY (args:=[(aG (fxL a))]) (L:=[B1 a.z.n,B1 a.m]) func161 O O (AI O) (N0 ha Aj) (OkC.subF (sL [0] O) (q4 (Be (cs:=fxL a) O λb1=>al RF O λb2=>q3 (sL [1,2] O) (BH 1 Dc O (cN (S:=S) (x:=x.den) (args:=[(aG (fxL a))]) call147 (λw hw=>qDen_ok a Z w (inS hw 2 O la)) O O O λg1 lg1=>cZ (S:=S) (x:=((x.den:Nat):Int)) (args:=[(Value.bool false),(Bv g1)]) call163 (λw hw=>(Af.cast (T:=λi=>ZX i) (show Dq false x.den=_ from O) (DI false g1 w (inS hw 0 O lg1)))) O O O λg2 lg2=>G1 O sizeOf81 O (OkL.nil (OkQ.subF (sL [2] O) ?_)))))))
 exact OkQ.then_ (OkC.ret (ret_one O (Ak (i:=2) (cs:=Cx g2) O O isAgg81 sizeOf81 O) (λw hw=>D0 (a:=(g2:ZX ((x.den:Nat):Int))) hw (inS hw 0 O lg2) O)))
theorem Jr {n:Int} {k:Nat} (z:ZX n) (d:NX k) (hn:nw n.natAbs<=67108864) (hk:nw k<=67108864) (h0:k≠0) (w:World) {S:Nat->Prop} (hz:Ro S w z) (hd:Ro S w d)  :Calls prog 158 #[(aG (Cx z)),(Bv d)] w (Af (FX (mkRat n k)) S w):=by
 have hg:0<Nat.gcd n.natAbs k:=Nat.pos_of_ne_zero λh=>h0 (Nat.eq_zero_of_gcd_eq_zero_right h)
 have hgw:nw (Nat.gcd n.natAbs k)<=nw k:=Ck (Nat.gcd_le_right _ (Nat.pos_of_ne_zero h0))
 have hqw:nw (k/Nat.gcd n.natAbs k)<=nw k:=Ck (Nat.div_le_self _ _)
 have hq1:1<=k/Nat.gcd n.natAbs k:=Nat.div_pos (Nat.gcd_le_right _ (Nat.pos_of_ne_zero h0)) hg
 have lz:=CI (W:=w) hz
 have ld:=CI (W:=w) hd
 refine AY (args:=[(aG (Cx z)),(Bv d)]) (L:=[B1 z.n,B1 d]) func158 O O (AI O) (We hz (Za hd Aj)) (OkC.subF (sL [0,1] O) (q4 (Be (cs:=Cx z) O λb1=>al Lw O λb2=>q3 (sL [1,2,4] O) (AH (v:=(pP b1 1)) (AA O underlying81 O sizeOf79 O) O (Au 1 (Bv z.n) FY O (AM O (cN (S:=S) (x:=(Nat.gcd n.natAbs k)) (args:=[(Bv z.n),(Bv d)]) call208 (λw hw=>VH z.n d (by first|omega|(simp only [Int.natAbs_neg];omega)) (by first|omega|(simp only [Int.natAbs_neg];omega)) w (NC (inS hw 2 O lz)) (inS hw 3 O ld)) O O O λg1 lg1=>asg' O (q3 (sL [1,2,4,5] O) ?_))))))))
 refine AH (v:=(pP b1 1)) (AA O underlying81 O sizeOf79 O) O (Au 2 (Bv z.n) FY O (AM O (cD (S:=S) (u:=(n.natAbs/(Nat.gcd n.natAbs k))) (v:=(n.natAbs%(Nat.gcd n.natAbs k))) (args:=[(Bv z.n),(Bv g1)]) call209 (λw hw=>P9 z.n g1 hg Z Z w (NC (inS hw 3 O lz)) (inS hw 0 O lg1)) O O O λg2 lg2=>AM O (AH (AV (v:=(Bv g2.q)) O O) O (AH (AV (v:=(Bv g2.r)) O O) O (asg' O (asg' O (q3 (sL [1,2,4,5,6] O) (AM O (AM O ?_))))))))))
 refine cD (S:=S) (u:=(k/(Nat.gcd n.natAbs k))) (v:=(k%(Nat.gcd n.natAbs k))) (args:=[(Bv d),(Bv g1)]) call209 (λw hw=>P9 d g1 hg Z Z w (inS hw 6 O ld) (inS hw 2 O lg1)) O O O λg3 lg3=>AM O (AH (AV (v:=(Bv g3.q)) O O) O (AH (AV (v:=(Bv g3.r)) O O) O (asg' O (asg' O (q3 (sL [1,2,4,5,6,8] O) (AH (v:=(pP b1 0)) (AA O underlying81 O sizeOf4 O) O (Au 6 (Value.bool (decide (n<0))) Kx O (AM O (cZ (S:=S) (x:=((mkRat n k).num)) (args:=[(Value.bool (decide (n<0))),(Bv g2.q)]) call163 (λw hw=>(Af.cast (T:=λi=>ZX i) (UB h0) (DI (decide (n<0)) g2.q w (Yu (inS hw 2 O lg2))))) O O O λg4 lg4=>AM O ?_)))))))))
 exact cN (S:=S) (x:=1) (args:=[]) call199 (λw hw=>Qb w) O O O λg5 lg5=>cN (S:=S) (x:=((mkRat n k).den-1)) (args:=[(Bv g3.q),(Bv g5)]) call210 (λw hw=>(Af.cast (T:=λi=>NX i) (TJ h0) (Mh g3.q g5 hq1 Z w (Yu (inS hw 2 O lg3)) (inS hw 0 O lg5)))) O O O λg6 lg6=>AH (v:=(aG (Cx g4++[(Bv g6)]))) (AQ (zs:=[(Value.bool false),(Value.slice none 0 0),(Value.slice none 0 0)]) (vs:=Cx g4++[(Bv g6)]) (pv:=[(0,(aG (Cx g4))),(1,(Bv g6))]) (places:=[(0,2),(2,1)]) zeroValue83 underlying83 (λw=>by simp [sizeOf79,sizeOf81]) O O) O (FG 8 (off:=0) (vs:=Cx g4++[(Bv g6)]) (cs':=Cx g4++[(Bv g6)]) (AP O) O sizeOf83 O (OkL.nil (OkQ.subF (sL [1,2,4,5] O) (OkQ.then_ (OkC.ret (ret_one O (Ak (i:=8) (cs:=Cx g4++[(Bv g6)]) O O isAgg83 sizeOf83 O) (λw hw=>D0 (a:=((FX.mk g4 g6):FX (mkRat n k))) hw (Zg (inS hw 2 O lg4) (inS hw 0 O lg6)) O)))))))
theorem HL {r0:Int} (x0:ZX r0):Instr.fill ([(0,2),(2,1)].toArray[·]?) ([(Value.bool false),(Value.slice none 0 0),(Value.slice none 0 0)]).toArray [(0,.agg (Cx x0).toArray)]=some (Cx x0++[(Value.slice none 0 0)]).toArray:=by kernel_rfl
theorem QS (z:Int) (hz:-9223372036854775808<=z) (hz2:z<9223372036854775808) (w:World) {S:Nat->Prop}  :Calls prog 94 #[(vI z)] w (Af (FX ((z:Int):Rat)) S w):=by
 refine Ab (args:=[(vI z)]) func94 O O (AI O) (OkC.subF (sL [0] O) (q4 (al Lw O λb1=>OkL.nil (q2 (AM O (cZ (S:=S) (x:=(((z:Int):Rat).num)) (args:=[(vI z)]) call157 (λw hw=>(Af.cast (T:=λi=>ZX i) (show z=((z:Int):Rat).num from O) (XL z Z Z w))) O O O λg1 lg1=>AH (v:=(aG (Cx g1++[(Value.slice none 0 0)]))) (AQ (zs:=[(Value.bool false),(Value.slice none 0 0),(Value.slice none 0 0)]) (vs:=Cx g1++[(Value.slice none 0 0)]) (pv:=[(0,(aG (Cx g1)))]) (places:=[(0,2),(2,1)]) zeroValue83 underlying83 (λw=>by simp [sizeOf79,sizeOf81]) O (HL g1)) O (EG O sizeOf83 O (OkL.nil (OkQ.subF (sL [2] O) ?_)))))))))
 exact OkQ.then_ (OkC.ret (ret_one O (Ak (i:=1) (cs:=Cx g1++[(Value.slice none 0 0)]) O O isAgg83 sizeOf83 O) (λw hw=>D0 (a:=((FX.mk g1 NX.zero):FX ((z:Int):Rat))) hw (Zg (inS hw 0 O lg1) YD) O)))
theorem TC {x:Rat} (a:FX x) (w:World) {S:Nat->Prop} (ha:Ro S w a)  :Calls prog 126 #[(aG (fxL a))] w (Ah w (vI x.num.sign)):=by
 have la:=CI (W:=w) ha
 refine AY (args:=[(aG (fxL a))]) (L:=[B1 a.z.n,B1 a.m]) func126 O O (AI O) (N0 ha Aj) (OkC.subF (sL [0] O) (q4 (Be (cs:=fxL a) O λb1=>asg' O (q3 (sL [1,2] O) (AH (v:=(pP b1 0)) (AA O underlying83 O sizeOf81 O) O (Ei 0 (Cx a.z) My O (Ce call180 (λw hw=>Uw a.z w (U9 (inS hw 1 O la))) O (asg' O (OkL.nil (OkQ.subF (sL [2] O) ?_))))))))))
 exact OkQ.then_ (OkC.ret (ret_one O (rd_tmp (v:=(vI x.num.sign)) O) (λw hw=>⟨rfl,hw.out⟩)))
theorem V0 {x:Rat} (a:FX x) (w:World) {S:Nat->Prop} (ha:Ro S w a)  :Calls prog 181 #[(aG (fxL a))] w (Af (FX (-x)) S w):=by
 have la:=CI (W:=w) ha
 refine AY (args:=[(aG (fxL a))]) (L:=[B1 a.z.n,B1 a.m]) func181 O O (AI O) (N0 ha Aj) (OkC.subF (sL [0] O) (q4 (Be (cs:=fxL a) O λb1=>al Lw O λb2=>q6 (sL [1,2] O) (Cd [(0,true),(1,true),(3,true),(4,true),(2,false),(5,true),(6,false)] (sl sr) (Al (v:=(pP b1 0)) O (AA O underlying83 O sizeOf81 O) (Ff 0 (Cx a.z) My O (Al (v:=(pP b1 2)) O (AA O underlying83 O sizeOf79 O) (BM 0 (Bv a.m) FY O (OkE.imp O ?_)))))))))
 exact cZ (S:=S) (x:=((-x).num)) (args:=[(aG (Cx a.z))]) call219 (λw hw=>(Af.cast (T:=λi=>ZX i) (Rat.neg_num x).symm (Vf a.z w (U9 (inS hw 2 O la))))) O O O λg1 lg1=>OkE.back (sl (sl sr)) (Al (v:=(aG (Cx g1++[(Bv a.m)]))) O (AQ (zs:=[(Value.bool false),(Value.slice none 0 0),(Value.slice none 0 0)]) (vs:=Cx g1++[(Bv a.m)]) (pv:=[(0,(aG (Cx g1))),(1,(Bv a.m))]) (places:=[(0,2),(2,1)]) zeroValue83 underlying83 (λw=>by simp [sizeOf79,sizeOf81]) O O) (OkE.imp O (EG O sizeOf83 O (OkE.back (sl (sl sr)) (OkE.nil (OkQ.subF (sL [2] O) (OkQ.then_ (OkC.ret (ret_one O (Ak (i:=1) (cs:=Cx g1++[(Bv a.m)]) O O isAgg83 sizeOf83 O) (λw hw=>D0 (a:=((FX.mk g1 a.m):FX (-x))) hw (Zg (inS hw 0 O lg1) (Z2 (inS hw 3 O la))) O))))))))))
theorem MC {x y:Rat} (a:FX x) (b:FX y) (hs:Sz x+Sz y<=16777216) (w:World) {S:Nat->Prop} (ha:Ro S w a) (hb:Ro S w b)  :Calls prog 96 #[(aG (fxL a)),(aG (fxL b))] w (Af (FX (x+y)) S w):=by
 have s0:=Cr x
 have s1:=CZ x
 have s2:=E9 x
 have s3:=Cr y
 have s4:=CZ y
 have s5:=E9 y
 have s6:=CH x y
 have s7:=CH y x
 have s8:=GI x y
 have s9:=HE x y
 have s10:=D7 (x.num*((y.den:Nat):Int)) (y.num*((x.den:Nat):Int))
 have h0x:=x.den_nz
 have h0y:=y.den_nz
 have h0xy:=Nat.mul_ne_zero h0x h0y
 have la:=CI (W:=w) ha
 have lb:=CI (W:=w) hb
 refine AY (args:=[(aG (fxL a)),(aG (fxL b))]) (L:=[B1 a.z.n,B1 a.m,B1 b.z.n,B1 b.m]) func96 O O (AI O) (N0 ha (N0 hb Aj)) (OkC.subF (sL [0,1] O) (q4 (Be (cs:=fxL a) O λb1=>Be (cs:=fxL b) O λb2=>al Lw O λb3=>q6 (sL [2,3,4] O) (Cd [(0,true),(1,true),(2,true),(5,true),(6,true),(7,true),(11,true),(13,true),(3,false),(4,false),(8,false),(9,false),(10,false),(12,false),(14,false),(15,false),(16,false),(17,false)] (sl sr) (Al (v:=(pP b1 0)) O (AA O underlying83 O sizeOf81 O) (Ff 1 (Cx a.z) My O (Ev 0 Dc O (Al (v:=(pP b2 0)) O (AA O underlying83 O sizeOf81 O) ?_))))))))
 refine Ff 0 (Cx b.z) My O (Ev 1 Dc O (Ev 1 Dc O (Ev 0 Dc O (OkE.imp O (cZ (S:=S) (x:=((y.den:Nat):Int)) (args:=[(aG (fxL b))]) call161 (λw hw=>Qi b Z w (inS hw 5 O lb)) O O O λg1 lg1=>OkE.back (sl (sl sr)) (OkE.imp O (cZ (S:=S) (x:=(x.num*((y.den:Nat):Int))) (args:=[(aG (Cx a.z)),(aG (Cx g1))]) call160 (λw hw=>Me a.z g1 Z (by show nw y.den<=_;omega) w (U9 (inS hw 4 O la)) (inS hw 0 O lg1)) O O O λg2 lg2=>OkE.back (sl (sl (sl sr))) (OkE.imp O (cZ (S:=S) (x:=((x.den:Nat):Int)) (args:=[(aG (fxL a))]) call161 (λw hw=>Qi a Z w (inS hw 5 O la)) O O O λg3 lg3=>?_)))))))))
 refine OkE.back (sl (sl (sl (sl sr)))) (OkE.imp O (cZ (S:=S) (x:=(y.num*((x.den:Nat):Int))) (args:=[(aG (Cx b.z)),(aG (Cx g3))]) call160 (λw hw=>Me b.z g3 Z (by show nw x.den<=_;omega) w (U9 (inS hw 8 O lb)) (inS hw 0 O lg3)) O O O λg4 lg4=>OkE.back (sl (sl (sl (sl (sl sr))))) (OkE.imp O (cZ (S:=S) (x:=((x.num*((y.den:Nat):Int))+(y.num*((x.den:Nat):Int)))) (args:=[(aG (Cx g2)),(aG (Cx g4))]) call159 (λw hw=>WZ g2 g4 Z Z w (inS hw 2 O lg2) (inS hw 0 O lg4)) O O O λg5 lg5=>OkE.back (sl (sl (sl (sl (sl (sl sr)))))) (OkE.imp O (cN (S:=S) (x:=x.den) (args:=[(aG (fxL a))]) call147 (λw hw=>qDen_ok a Z w (inS hw 8 O la)) O O O λg6 lg6=>OkE.back (sl (sl (sl (sl (sl (sl (sl sr))))))) (OkE.imp O (cN (S:=S) (x:=y.den) (args:=[(aG (fxL b))]) call147 (λw hw=>qDen_ok b Z w (inS hw 11 O lb)) O O O λg7 lg7=>?_))))))))
 refine OkE.back (sl (sl (sl (sl (sl (sl (sl (sl sr)))))))) (OkE.imp O (cN (S:=S) (x:=(x.den*y.den)) (args:=[(Bv g6),(Bv g7)]) call162 (λw hw=>MR g6 g7 (by first|omega|(simp only [Int.natAbs_neg];omega)) (by first|omega|(simp only [Int.natAbs_neg];omega)) w (inS hw 1 O lg6) (inS hw 0 O lg7)) O O O λg8 lg8=>OkE.back (sl (sl (sl (sl (sl (sl (sl (sl (sl sr))))))))) (OkE.imp O (cF (S:=S) (x:=(x+y)) (args:=[(aG (Cx g5)),(Bv g8)]) call158 (λw hw=>(Af.cast (T:=λi=>FX i) (H6 x y) (Jr g5 g8 Z Z h0xy w (inS hw 3 O lg5) (inS hw 0 O lg8)))) O O O λg9 lg9=>OkE.back (sl (sl (sl (sl (sl (sl (sl (sl (sl (sl (sl sr))))))))))) (OkE.imp O (FG 10 (off:=0) (vs:=fxL g9) (cs':=fxL g9) (AP O) O sizeOf83 O (OkE.back (sl (sl (sl (sl (sl (sl (sl (sl (sl (sl (sl sr))))))))))) (OkE.nil (OkQ.subF (sL [4] O) ?_)))))))))
 exact OkQ.then_ (OkC.ret (ret_one O (Ak (i:=10) (cs:=fxL g9) O O isAgg83 sizeOf83 O) (λw hw=>D0 (a:=(g9:FX (x+y))) hw (inS hw 0 O lg9) O)))
theorem Pg {x y:Rat} (a:FX x) (b:FX y) (hs:Sz x+Sz y<=16777216) (w:World) {S:Nat->Prop} (ha:Ro S w a) (hb:Ro S w b)  :Calls prog 127 #[(aG (fxL a)),(aG (fxL b))] w (Af (FX (x-y)) S w):=by
 have la:=CI (W:=w) ha
 have lb:=CI (W:=w) hb
 refine AY (args:=[(aG (fxL a)),(aG (fxL b))]) (L:=[B1 a.z.n,B1 a.m,B1 b.z.n,B1 b.m]) func127 O O (AI O) (N0 ha (N0 hb Aj)) (OkC.subF (sL [0,1] O) (q4 (Be (cs:=fxL a) O λb1=>Be (cs:=fxL b) O λb2=>al Lw O λb3=>q6 (sL [2,3,4] O) (Cd [(0,true),(1,true),(2,false),(3,false),(4,false)] (sl sr) (Ev 1 Dc O (Ev 0 Dc O (OkE.imp O (cF (S:=S) (x:=(-y)) (args:=[(aG (fxL b))]) call181 (λw hw=>V0 b w (inS hw 5 O lb)) O O O λg1 lg1=>?_))))))))
 refine OkE.back (sl (sl (sl sr))) (OkE.imp O ?_)
 have hz1:=GR x (-y)
 exact cF (S:=S) (x:=(x-y)) (args:=[(aG (fxL a)),(aG (fxL g1))]) call96 (λw hw=>(Af.cast (T:=λi=>FX i) (Rat.sub_eq_add_neg x y).symm (MC a g1 (by (try simp only [Dk]);omega) w (inS hw 5 O la) (inS hw 0 O lg1)))) O O O λg2 lg2=>OkE.back (sl (sl (sl (sl (sl sr))))) (OkE.imp O (FG 4 (off:=0) (vs:=fxL g2) (cs':=fxL g2) (AP O) O sizeOf83 O (OkE.back (sl (sl (sl (sl (sl sr))))) (OkE.nil (OkQ.subF (sL [4] O) (OkQ.then_ (OkC.ret (ret_one O (Ak (i:=4) (cs:=fxL g2) O O isAgg83 sizeOf83 O) (λw hw=>D0 (a:=(g2:FX (x-y))) hw (inS hw 0 O lg2) O)))))))))
theorem Ls {x y:Rat} (a:FX x) (b:FX y) (hs:Sz x+Sz y<=16777216) (w:World) {S:Nat->Prop} (ha:Ro S w a) (hb:Ro S w b)  :Calls prog 98 #[(aG (fxL a)),(aG (fxL b))] w (Af (FX (x*y)) S w):=by
 have s0:=Cr x
 have s1:=CZ x
 have s2:=E9 x
 have s3:=Cr y
 have s4:=CZ y
 have s5:=E9 y
 have s6:=CH x y
 have s7:=CH y x
 have s8:=GI x y
 have s9:=HE x y
 have s10:=D7 (x.num*((y.den:Nat):Int)) (y.num*((x.den:Nat):Int))
 have h0x:=x.den_nz
 have h0y:=y.den_nz
 have h0xy:=Nat.mul_ne_zero h0x h0y
 have la:=CI (W:=w) ha
 have lb:=CI (W:=w) hb
 refine AY (args:=[(aG (fxL a)),(aG (fxL b))]) (L:=[B1 a.z.n,B1 a.m,B1 b.z.n,B1 b.m]) func98 O O (AI O) (N0 ha (N0 hb Aj)) (OkC.subF (sL [0,1] O) (q4 (Be (cs:=fxL a) O λb1=>Be (cs:=fxL b) O λb2=>al Lw O λb3=>q6 (sL [2,3,4] O) (Cd [(0,true),(1,true),(2,true),(3,true),(5,true),(7,true),(4,false),(6,false),(8,false),(9,false),(10,false),(11,false)] (sl sr) (Al (v:=(pP b1 0)) O (AA O underlying83 O sizeOf81 O) (Ff 1 (Cx a.z) My O (Al (v:=(pP b2 0)) O (AA O underlying83 O sizeOf81 O) (Ff 0 (Cx b.z) My O ?_))))))))
 refine Ev 1 Dc O (Ev 0 Dc O (OkE.imp O (cZ (S:=S) (x:=(x.num*y.num)) (args:=[(aG (Cx a.z)),(aG (Cx b.z))]) call160 (λw hw=>Me a.z b.z Z Z w (U9 (inS hw 3 O la)) (U9 (inS hw 5 O lb))) O O O λg1 lg1=>OkE.back (sl (sl sr)) (OkE.imp O (cN (S:=S) (x:=x.den) (args:=[(aG (fxL a))]) call147 (λw hw=>qDen_ok a Z w (inS hw 4 O la)) O O O λg2 lg2=>OkE.back (sl (sl (sl sr))) (OkE.imp O (cN (S:=S) (x:=y.den) (args:=[(aG (fxL b))]) call147 (λw hw=>qDen_ok b Z w (inS hw 7 O lb)) O O O λg3 lg3=>OkE.back (sl (sl (sl (sl sr)))) (OkE.imp O ?_))))))))
 exact cN (S:=S) (x:=(x.den*y.den)) (args:=[(Bv g2),(Bv g3)]) call162 (λw hw=>MR g2 g3 (by first|omega|(simp only [Int.natAbs_neg];omega)) (by first|omega|(simp only [Int.natAbs_neg];omega)) w (inS hw 1 O lg2) (inS hw 0 O lg3)) O O O λg4 lg4=>OkE.back (sl (sl (sl (sl (sl sr))))) (OkE.imp O (cF (S:=S) (x:=(x*y)) (args:=[(aG (Cx g1)),(Bv g4)]) call158 (λw hw=>(Af.cast (T:=λi=>FX i) (H9 x y) (Jr g1 g4 Z Z h0xy w (inS hw 3 O lg1) (inS hw 0 O lg4)))) O O O λg5 lg5=>OkE.back (sl (sl (sl (sl (sl (sl (sl sr))))))) (OkE.imp O (FG 6 (off:=0) (vs:=fxL g5) (cs':=fxL g5) (AP O) O sizeOf83 O (OkE.back (sl (sl (sl (sl (sl (sl (sl sr))))))) (OkE.nil (OkQ.subF (sL [4] O) (OkQ.then_ (OkC.ret (ret_one O (Ak (i:=6) (cs:=fxL g5) O O isAgg83 sizeOf83 O) (λw hw=>D0 (a:=(g5:FX (x*y))) hw (inS hw 0 O lg5) O)))))))))))
theorem VZ (a b:Rat):Sz (a/b)<=Sz a+Sz b:=by
 by_cases h:b=0
 ·subst h;rw [Rat.div_def,Rat.inv_zero,Rat.mul_zero];have h1:=O0 a;exact Nat.le_trans (show Sz (0:Rat)<=1 by decide +kernel) Z
 ·exact OS h
theorem J3  :Instr.fill ([(0,2),(2,1)].toArray[·]?) ([(Value.bool false),(Value.slice none 0 0),(Value.slice none 0 0)]).toArray []=some ([(Value.bool false),(Value.slice none 0 0),(Value.slice none 0 0)]).toArray:=by kernel_rfl
theorem Wl {x y:Rat} (a:FX x) (b:FX y) (hs:Sz x+Sz y<=16777216) (w:World) {S:Nat->Prop} (ha:Ro S w a) (hb:Ro S w b)  :Calls prog 97 #[(aG (fxL a)),(aG (fxL b))] w (Af (FX (x/y)) S w):=by
 have s0:=Cr x
 have s1:=CZ x
 have s2:=E9 x
 have s3:=Cr y
 have s4:=CZ y
 have s5:=E9 y
 have s6:=CH x y
 have s7:=CH y x
 have s8:=GI x y
 have s9:=HE x y
 have s10:=D7 (x.num*((y.den:Nat):Int)) (y.num*((x.den:Nat):Int))
 have h0x:=x.den_nz
 have h0y:=y.den_nz
 have h0xy:=Nat.mul_ne_zero h0x h0y
 have la:=CI (W:=w) ha
 have lb:=CI (W:=w) hb
 refine AY (args:=[(aG (fxL a)),(aG (fxL b))]) (L:=[B1 a.z.n,B1 a.m,B1 b.z.n,B1 b.m]) func97 O O (AI O) (N0 ha (N0 hb Aj)) (OkC.subF (sL [0,1] O) (q4 (Be (cs:=fxL a) O λb1=>Be (cs:=fxL b) O λb2=>al Lw O λb3=>q6 (sL [2,3,4] O) (q4 (BH 1 Dc O (Ce call126 (λw hw=>TC b w (inS hw 5 O lb)) O (AH (BG (c:=(decide (y.num.sign=(0:Int)))) O O O) O (OkL.nil ?_))))))))
 refine OkQ.subF (sL [2,3,4,7] O) (OkQ.then_ ?_)
 refine OkC.cond O (λhc0=>?_) (λhc0=>?_)
 ·replace hc0:=of_decide_eq_true hc0
  exact q4 (AH (v:=(aG ([(Value.bool false),(Value.slice none 0 0),(Value.slice none 0 0)]))) (AQ (zs:=[(Value.bool false),(Value.slice none 0 0),(Value.slice none 0 0)]) (vs:=[(Value.bool false),(Value.slice none 0 0),(Value.slice none 0 0)]) (pv:=[]) (places:=[(0,2),(2,1)]) zeroValue83 underlying83 (λw=>by simp [sizeOf79,sizeOf81]) O (J3 )) O (Ax O sizeOf83 O (OkL.nil (OkQ.subF (sL [2,3,4] O) (OkQ.then_ (OkC.ret (OkQ.then_ret (ret_one O (Ak (i:=0) (cs:=[(Value.bool false),(Value.slice none 0 0),(Value.slice none 0 0)]) O O isAgg83 sizeOf83 O) (λw hw=>(by rw [<-Tv (a:=x) hc0];exact D0 (a:=FX.zero) hw (Zg (aX YD) YD) O))))))))))
 ·replace hc0:=of_decide_eq_false hc0
  have hy:y≠0:=λe=>hc0 (by rw [e];rfl)
  have hi:=PL hy
  have hyn:y.num.natAbs≠0:=λe=>hy (Rat.num_eq_zero.1 Z)
  refine OkC.skip (q1 (Cd [(0,true),(1,true),(2,true),(3,true),(4,true),(7,true),(8,true),(9,true),(5,false),(6,false),(10,false),(11,false),(12,false)] (sl sr) (Ev 1 Dc O (Al (v:=(pP b2 0)) O (AA O underlying83 O sizeOf81 O) (Al (v:=(pP b2 0)) O (AA O underlying81 O sizeOf4 O) (BM 0 (Value.bool (decide (y.num<0))) Kx O (Ev 0 Dc O (Al (v:=(pP b2 0)) O (AA O underlying83 O sizeOf81 O) (Al (v:=(pP b2 1)) O (AA O underlying81 O sizeOf79 O) (BM 0 (Bv b.z.n) FY O (OkE.imp O ?_)))))))))))
  refine cN (S:=S) (x:=y.den) (args:=[(aG (fxL b))]) call147 (λw hw=>qDen_ok b Z w (inS hw 5 O lb)) O O O λg1 lg1=>OkE.back (sl (sl sr)) (OkE.imp O (cZ (S:=S) (x:=(Dq (decide (y.num<0)) y.den)) (args:=[(Value.bool (decide (y.num<0))),(Bv g1)]) call163 (λw hw=>DI (decide (y.num<0)) g1 w (inS hw 0 O lg1)) O O O λg2 lg2=>OkE.back (sl (sl (sl sr))) (OkE.imp O (cF (S:=S) (x:=(y⁻¹)) (args:=[(aG (Cx g2)),(Bv b.z.n)]) call158 (λw hw=>(Af.cast (T:=λi=>FX i) (Zn hy) (Jr g2 b.z.n (by rw [BA];omega) Z hyn w (inS hw 0 O lg2) (NC (U9 (inS hw 7 O lb)))))) O O O λg3 lg3=>OkE.back (sl (sl (sl (sl (sl sr))))) (OkE.imp O ?_)))))
  have hz1:=GB x (y⁻¹)
  exact cF (S:=S) (x:=(x/y)) (args:=[(aG (fxL a)),(aG (fxL g3))]) call98 (λw hw=>(Af.cast (T:=λi=>FX i) WJ (Ls a g3 (by (try simp only [Dk]);omega) w (inS hw 7 O la) (inS hw 0 O lg3)))) O O O λg4 lg4=>OkE.back (sl (sl (sl (sl (sl (sl (sl sr))))))) (OkE.imp O (FG 6 (off:=0) (vs:=fxL g4) (cs':=fxL g4) (AP O) O sizeOf83 O (OkE.back (sl (sl (sl (sl (sl (sl (sl sr))))))) (OkE.nil (OkQ.subF (sL [3,4] O) (OkQ.then_ (OkC.ret (ret_one O (Ak (i:=6) (cs:=fxL g4) O O isAgg83 sizeOf83 O) (λw hw=>D0 (a:=(g4:FX (x/y))) hw (inS hw 0 O lg4) O)))))))))
theorem S8 (n d:Int) (h1:-9223372036854775808<=n) (h2:n<9223372036854775808) (h3:-9223372036854775808<=d) (h4:d<9223372036854775808) (w:World) {S:Nat->Prop}  :Calls prog 117 #[(vI n),(vI d)] w (Af (FX (((n:Int):Rat)/((d:Int):Rat))) S w):=by
 have s1:=IH h1 h2
 have s2:=IH h3 h4
 refine Ab (args:=[(vI n),(vI d)]) func117 O O (AI O) (OkC.subF (sL [0,1] O) (q4 (al Lw O λb1=>OkL.nil (q2 (AM O (cF (S:=S) (x:=((n:Int):Rat)) (args:=[(vI n)]) call94 (λw hw=>QS n Z Z w) O O O λg1 lg1=>AM O (cF (S:=S) (x:=((d:Int):Rat)) (args:=[(vI d)]) call94 (λw hw=>QS d Z Z w) O O O λg2 lg2=>?_)))))))
 have hz1:=VZ ((n:Int):Rat) ((d:Int):Rat)
 exact cF (S:=S) (x:=(((n:Int):Rat)/((d:Int):Rat))) (args:=[(aG (fxL g1)),(aG (fxL g2))]) call97 (λw hw=>Wl g1 g2 (by (try simp only [Dk]);omega) w (inS hw 2 O lg1) (inS hw 0 O lg2)) O O O λg3 lg3=>FG 6 (off:=0) (vs:=fxL g3) (cs':=fxL g3) (AP O) O sizeOf83 O (OkL.nil (OkQ.subF (sL [4] O) (OkQ.then_ (OkC.ret (ret_one O (Ak (i:=6) (cs:=fxL g3) O O isAgg83 sizeOf83 O) (λw hw=>D0 (a:=(g3:FX (((n:Int):Rat)/((d:Int):Rat)))) hw (inS hw 0 O lg3) O))))))
theorem Sr {x:Rat} (a:FX x) (hs:Sz x<=16777216) (w:World) {S:Nat->Prop} (ha:Ro S w a)  :Calls prog 87 #[(aG (fxL a))] w (Ah w (Value.string (txB (Mr x)))):=by
 have s0:=Cr x
 have s1:=CZ x
 have s2:=E9 x
 have hl1:=Wh x.num
 have hl2:=Pd x.den
 have la:=CI (W:=w) ha
 refine AY (args:=[(aG (fxL a))]) (L:=[B1 a.z.n,B1 a.m]) func87 O O (AI O) (N0 ha Aj) (OkC.subF (sL [0] O) (q4 (Be (cs:=fxL a) O λb1=>asg' O (q6 (sL [1,2] O) (q4 (AH (v:=(pP b1 2)) (AA O underlying83 O sizeOf79 O) O (Au 0 (Bv a.m) FY O (AH (v:=(vN ((dg (x.den-1)).length))) (AD O underlying79) O (AH (BG (c:=(decide (((dg (x.den-1)).length)=0))) O O (K7 (a:=(dg (x.den-1)).length) (b:=0))) O (OkL.nil ?_))))))))))
 refine OkQ.subF (sL [1,2,6] O) (OkQ.then_ ?_)
 refine OkC.cond O (λhc0=>?_) (λhc0=>?_)
 ·replace hc0:=of_decide_eq_true hc0
  have he:Mr x=txI x.num:=by unfold Mr;rw [if_pos (OB hc0)]
  exact q4 (AH (v:=(pP b1 0)) (AA O underlying83 O sizeOf81 O) O (Ei 0 (Cx a.z) My O (Ce call145 (λw hw=>Nj a.z Z w (U9 (inS hw 1 O la))) O (asg' O (OkL.nil (OkQ.subF (sL [1,2] O) (OkQ.then_ (OkC.ret (OkQ.then_ret (ret_one O (rd_tmp (v:=(Value.string (txB (txI x.num)))) O) (λw hw=>⟨by rw [he],hw.out⟩)))))))))))
 ·replace hc0:=of_decide_eq_false hc0
  have he:Mr x=txI x.num++[47]++Lib.decDigits x.den:=by unfold Mr;rw [if_neg (HP hc0),List.append_assoc];rfl
  refine OkC.skip (q1 (Cd [(0,true),(1,true),(4,true),(2,false),(3,true),(5,false),(6,false),(7,true),(8,true)] sr (Al (v:=(pP b1 0)) O (AA O underlying83 O sizeOf81 O) (Ff 0 (Cx a.z) My O (Ev 0 Dc O (OkE.imp O (Ce call145 (λw hw=>Nj a.z Z w (U9 (inS hw 1 O la))) O (OkE.back sr (Al (v:=(Value.string (txB (txI x.num++[47])))) O (CL (r:=(txB (txI x.num++[47]))) O O (by rw [DK];show _+1<=_;omega) (DS _ [47])) (OkE.imp O (cN (S:=S) (x:=x.den) (args:=[(aG (fxL a))]) call147 (λw hw=>qDen_ok a Z w (inS hw 1 O la)) O O O λg1 lg1=>?_)))))))))))
  exact OkE.back (sl sr) (OkE.imp O (Ce call146 (λw hw=>Jc g1 (by first|omega|(simp only [Int.natAbs_neg];omega)) w (inS hw 0 O lg1)) O (OkE.back (sl sr) (Al (v:=(Value.string (txB (txI x.num++[47]++Lib.decDigits x.den)))) O (CL (r:=(txB (txI x.num++[47]++Lib.decDigits x.den))) O O (by rw [DK,DK,List.length_append];show _+1+_<=_;omega) (DS _ _)) (pS' O (OkE.nil (OkQ.subF (sL [1,2] O) (OkQ.then_ (OkC.ret (ret_one O (rd_tmp (v:=(Value.string (txB (txI x.num++[47]++Lib.decDigits x.den)))) O) (λw hw=>⟨by rw [he],hw.out⟩)))))))))))
end
section
set_option maxRecDepth 100000
theorem Pu (z:QD) (h:z.ok) (w:World) {S:Nat->Prop}  :Calls prog 112 #[(aG (Hg z))] w (Af (FX (In z)) S w):=by
 obtain ⟨h1,h2,h3⟩:=h
 refine Ab (args:=[(aG (Hg z))]) func112 O O (AI O) (OkC.subF (sL [0] O) (q4 (Be (cs:=Hg z) O λb1=>al Lw O λb2=>q3 (sL [1,2] O) (AH (v:=(pP b1 0)) (AA O underlying94 O sizeOf2 O) O (Au 1 (vI z.n) Zj O (AH (v:=(pP b1 1)) (AA O underlying94 O sizeOf92 O) O (Au 1 (vK .u32 z.d) YM O (AH (EQ (c:=((max z.d 1:Nat):Int)) O O (by split<;>omega)) O (AH (Aw (c:=((max z.d 1:Nat):Int)) O underlying92 underlying2 (Ec Z)) O ?_)))))))))
 exact cF (S:=S) (x:=(In z)) (args:=[(vI z.n),(vN (max z.d 1))]) call117 (λw hw=>(Af.cast (T:=λi=>FX i) O (S8 z.n ((max z.d 1:Nat):Int) Z Z Z Z w))) O O O λg1 lg1=>G1 O sizeOf83 O (OkL.nil (OkQ.subF (sL [2] O) (OkQ.then_ (OkC.ret (ret_one O (Ak (i:=2) (cs:=fxL g1) O O isAgg83 sizeOf83 O) (λw hw=>D0 (a:=(g1:FX (In z))) hw (inS hw 0 O lg1) O))))))
theorem FO {r0:Rat} (x0:FX r0) {r1:Rat} (x1:FX r1):Instr.fill ([(0,3),(3,3)].toArray[·]?) ([(Value.bool false),(Value.slice none 0 0),(Value.slice none 0 0),(Value.bool false),(Value.slice none 0 0),(Value.slice none 0 0)]).toArray [(0,.agg (fxL x0).toArray),(1,.agg (fxL x1).toArray)]=some (fxL x0++fxL x1).toArray:=by kernel_rfl
theorem Vc (p:PD) (h:p.ok) (w:World) {S:Nat->Prop}  :Calls prog 48 #[(aG (Fe p))] w (Af (PX (GE p)) S w):=by
 have h1:=h.1
 have h2:=h.2
 refine Ab (args:=[(aG (Fe p))]) func48 O O (AI O) (OkC.subF (sL [0] O) (q4 (Be (cs:=Fe p) O λb1=>al Nr O λb2=>q6 (sL [1,2] O) (Cd [(0,true),(1,true),(3,true),(4,true),(2,false),(5,false),(6,true),(7,false)] (sl sr) (Al (v:=(pP b1 0)) O (AA O underlying96 O sizeOf94 O) (Ff 0 (Hg p.x) Qt O (Al (v:=(pP b1 2)) O (AA O underlying96 O sizeOf94 O) (Ff 0 (Hg p.y) Qt O (OkE.imp O ?_)))))))))
 refine cF (S:=S) (x:=(In p.x)) (args:=[(aG (Hg p.x))]) call112 (λw hw=>Pu p.x (by assumption) w) O O O λg1 lg1=>OkE.back (sl (sl (sl sr))) (OkE.imp O (cF (S:=S) (x:=(In p.y)) (args:=[(aG (Hg p.y))]) call112 (λw hw=>Pu p.y (by assumption) w) O O O λg2 lg2=>OkE.back (sl (sl (sl (sl (sl sr))))) (Al (v:=(aG (fxL g1++fxL g2))) O (AQ (zs:=[(Value.bool false),(Value.slice none 0 0),(Value.slice none 0 0),(Value.bool false),(Value.slice none 0 0),(Value.slice none 0 0)]) (vs:=fxL g1++fxL g2) (pv:=[(0,(aG (fxL g1))),(1,(aG (fxL g2)))]) (places:=[(0,3),(3,3)]) zeroValue121 underlying121 (λw=>by simp [sizeOf83]) O (FO g1 g2)) (OkE.imp O (FG 4 (off:=0) (vs:=fxL g1++fxL g2) (cs':=fxL g1++fxL g2) (AP O) O sizeOf121 O (OkE.back (sl (sl (sl (sl (sl sr))))) (OkE.nil (OkQ.subF (sL [2] O) (OkQ.then_ ?_)))))))))
 exact OkC.ret (ret_one O (Ak (i:=4) (cs:=fxL g1++fxL g2) O O isAgg121 sizeOf121 O) (λw hw=>D0 (a:=((PX.mk g1 g2:PX (⟨In p.x,In p.y⟩:Pt)):PX (GE p))) hw (Ze (inS hw 2 O lg1) (inS hw 0 O lg2)) O))
end
section
set_option maxRecDepth 100000
theorem CK {r0:Rat} (x0:FX r0) {r1:Rat} (x1:FX r1):Instr.fill ([(0,3),(3,3)].toArray[·]?) ([(Value.bool false),(Value.slice none 0 0),(Value.slice none 0 0),(Value.bool false),(Value.slice none 0 0),(Value.slice none 0 0)]).toArray [(0,.agg (fxL x0).toArray),(1,.agg (fxL x1).toArray)]=some (fxL x0++fxL x1).toArray:=by kernel_rfl
theorem UJ {x y:Pt} (a:PX x) (b:PX y) (hs:Ds x+Ds y<=2097152) (w:World) {S:Nat->Prop} (ha:Ro S w a) (hb:Ro S w b)  :Calls prog 114 #[(aG (EP a)),(aG (EP b))] w (Af (PX (x+y)) S w):=by
 have sxx:=E1 x
 have sxy:=E7 x
 have syx:=E1 y
 have syy:=E7 y
 have la:=CI (W:=w) ha
 have lb:=CI (W:=w) hb
 refine AY (args:=[(aG (EP a)),(aG (EP b))]) (L:=[B1 a.x.z.n,B1 a.x.m,B1 a.y.z.n,B1 a.y.m,B1 b.x.z.n,B1 b.x.m,B1 b.y.z.n,B1 b.y.m]) func114 O O (AI O) (W_ ha (W_ hb Aj)) (OkC.subF (sL [0,1] O) (q4 (Be (cs:=EP a) O λb1=>Be (cs:=EP b) O λb2=>al Nr O λb3=>q6 (sL [2,3,4] O) (Cd [(0,true),(1,true),(2,true),(3,true),(5,true),(6,true),(7,true),(8,true),(4,false),(9,false),(10,true),(11,false)] (sl sr) (Al (v:=(pP b1 0)) O (AA O underlying121 O sizeOf83 O) (Ff 1 (fxL a.x) Dc O (Al (v:=(pP b2 0)) O (AA O underlying121 O sizeOf83 O) (Ff 0 (fxL b.x) Dc O ?_))))))))
 refine Al (v:=(pP b1 3)) O (AA O underlying121 O sizeOf83 O) (Ff 1 (fxL a.y) Dc O (Al (v:=(pP b2 3)) O (AA O underlying121 O sizeOf83 O) (Ff 0 (fxL b.y) Dc O (OkE.imp O ?_))))
 have hz1:=GR x.x y.x
 refine cF (S:=S) (x:=(x.x+y.x)) (args:=[(aG (fxL a.x)),(aG (fxL b.x))]) call96 (λw hw=>MC a.x b.x (by (try simp only [Dk]);omega) w (W7 (inS hw 3 O la)) (W7 (inS hw 7 O lb))) O O O λg1 lg1=>OkE.back (sl (sl (sl sr))) (OkE.imp O ?_)
 have hz2:=GR x.y y.y
 exact cF (S:=S) (x:=(x.y+y.y)) (args:=[(aG (fxL a.y)),(aG (fxL b.y))]) call96 (λw hw=>MC a.y b.y (by (try simp only [Dk]);omega) w (X0 (inS hw 5 O la)) (X0 (inS hw 9 O lb))) O O O λg2 lg2=>OkE.back (sl (sl (sl (sl (sl sr))))) (Al (v:=(aG (fxL g1++fxL g2))) O (AQ (zs:=[(Value.bool false),(Value.slice none 0 0),(Value.slice none 0 0),(Value.bool false),(Value.slice none 0 0),(Value.slice none 0 0)]) (vs:=fxL g1++fxL g2) (pv:=[(0,(aG (fxL g1))),(1,(aG (fxL g2)))]) (places:=[(0,3),(3,3)]) zeroValue121 underlying121 (λw=>by simp [sizeOf83]) O (CK g1 g2)) (OkE.imp O (FG 4 (off:=0) (vs:=fxL g1++fxL g2) (cs':=fxL g1++fxL g2) (AP O) O sizeOf121 O (OkE.back (sl (sl (sl (sl (sl sr))))) (OkE.nil (OkQ.subF (sL [4] O) (OkQ.then_ (OkC.ret (ret_one O (Ak (i:=4) (cs:=fxL g1++fxL g2) O O isAgg121 sizeOf121 O) (λw hw=>D0 (a:=((PX.mk g1 g2:PX (⟨x.x+y.x,x.y+y.y⟩:Pt)):PX (x+y))) hw (Ze (inS hw 2 O lg1) (inS hw 0 O lg2)) O))))))))))
theorem S6 {x y:Pt} (a:PX x) (b:PX y) (hs:Ds x+Ds y<=2097152) (w:World) {S:Nat->Prop} (ha:Ro S w a) (hb:Ro S w b)  :Calls prog 116 #[(aG (EP a)),(aG (EP b))] w (Af (PX (x-y)) S w):=by
 have sxx:=E1 x
 have sxy:=E7 x
 have syx:=E1 y
 have syy:=E7 y
 have la:=CI (W:=w) ha
 have lb:=CI (W:=w) hb
 refine AY (args:=[(aG (EP a)),(aG (EP b))]) (L:=[B1 a.x.z.n,B1 a.x.m,B1 a.y.z.n,B1 a.y.m,B1 b.x.z.n,B1 b.x.m,B1 b.y.z.n,B1 b.y.m]) func116 O O (AI O) (W_ ha (W_ hb Aj)) (OkC.subF (sL [0,1] O) (q4 (Be (cs:=EP a) O λb1=>Be (cs:=EP b) O λb2=>al Nr O λb3=>q6 (sL [2,3,4] O) (Cd [(0,true),(1,true),(2,true),(3,true),(5,true),(6,true),(7,true),(8,true),(4,false),(9,false),(10,true),(11,false)] (sl sr) (Al (v:=(pP b1 0)) O (AA O underlying121 O sizeOf83 O) (Ff 1 (fxL a.x) Dc O (Al (v:=(pP b2 0)) O (AA O underlying121 O sizeOf83 O) (Ff 0 (fxL b.x) Dc O ?_))))))))
 refine Al (v:=(pP b1 3)) O (AA O underlying121 O sizeOf83 O) (Ff 1 (fxL a.y) Dc O (Al (v:=(pP b2 3)) O (AA O underlying121 O sizeOf83 O) (Ff 0 (fxL b.y) Dc O (OkE.imp O ?_))))
 have hz1:=Mn x.x y.x
 refine cF (S:=S) (x:=(x.x-y.x)) (args:=[(aG (fxL a.x)),(aG (fxL b.x))]) call127 (λw hw=>Pg a.x b.x (by (try simp only [Dk]);omega) w (W7 (inS hw 3 O la)) (W7 (inS hw 7 O lb))) O O O λg1 lg1=>OkE.back (sl (sl (sl sr))) (OkE.imp O ?_)
 have hz2:=Mn x.y y.y
 exact cF (S:=S) (x:=(x.y-y.y)) (args:=[(aG (fxL a.y)),(aG (fxL b.y))]) call127 (λw hw=>Pg a.y b.y (by (try simp only [Dk]);omega) w (X0 (inS hw 5 O la)) (X0 (inS hw 9 O lb))) O O O λg2 lg2=>OkE.back (sl (sl (sl (sl (sl sr))))) (Al (v:=(aG (fxL g1++fxL g2))) O (AQ (zs:=[(Value.bool false),(Value.slice none 0 0),(Value.slice none 0 0),(Value.bool false),(Value.slice none 0 0),(Value.slice none 0 0)]) (vs:=fxL g1++fxL g2) (pv:=[(0,(aG (fxL g1))),(1,(aG (fxL g2)))]) (places:=[(0,3),(3,3)]) zeroValue121 underlying121 (λw=>by simp [sizeOf83]) O (CK g1 g2)) (OkE.imp O (FG 4 (off:=0) (vs:=fxL g1++fxL g2) (cs':=fxL g1++fxL g2) (AP O) O sizeOf121 O (OkE.back (sl (sl (sl (sl (sl sr))))) (OkE.nil (OkQ.subF (sL [4] O) (OkQ.then_ (OkC.ret (ret_one O (Ak (i:=4) (cs:=fxL g1++fxL g2) O O isAgg121 sizeOf121 O) (λw hw=>D0 (a:=((PX.mk g1 g2:PX (⟨x.x-y.x,x.y-y.y⟩:Pt)):PX (x-y))) hw (Ze (inS hw 2 O lg1) (inS hw 0 O lg2)) O))))))))))
theorem PC {x:Pt} {q:Rat} (a:PX x) (k:FX q) (hs:Ds x+Sz q<=2097152) (w:World) {S:Nat->Prop} (ha:Ro S w a) (hk:Ro S w k)  :Calls prog 115 #[(aG (EP a)),(aG (fxL k))] w (Af (PX (Bd x q)) S w):=by
 have sxx:=E1 x
 have sxy:=E7 x
 have la:=CI (W:=w) ha
 have lk:=CI (W:=w) hk
 refine AY (args:=[(aG (EP a)),(aG (fxL k))]) (L:=[B1 a.x.z.n,B1 a.x.m,B1 a.y.z.n,B1 a.y.m,B1 k.z.n,B1 k.m]) func115 O O (AI O) (W_ ha (N0 hk Aj)) (OkC.subF (sL [0,1] O) (q4 (Be (cs:=EP a) O λb1=>Be (cs:=fxL k) O λb2=>al Nr O λb3=>q6 (sL [2,3,4] O) (Cd [(0,true),(1,true),(2,true),(4,true),(5,true),(6,true),(3,false),(7,false),(8,true),(9,false)] (sl sr) (Al (v:=(pP b1 0)) O (AA O underlying121 O sizeOf83 O) (Ff 1 (fxL a.x) Dc O (Ev 0 Dc O (Al (v:=(pP b1 3)) O (AA O underlying121 O sizeOf83 O) ?_))))))))
 refine Ff 1 (fxL a.y) Dc O (Ev 0 Dc O (OkE.imp O ?_))
 have hz1:=GB x.x q
 refine cF (S:=S) (x:=(x.x*q)) (args:=[(aG (fxL a.x)),(aG (fxL k))]) call98 (λw hw=>Ls a.x k (by (try simp only [Dk]);omega) w (W7 (inS hw 3 O la)) (inS hw 7 O lk)) O O O λg1 lg1=>OkE.back (sl (sl (sl sr))) (OkE.imp O ?_)
 have hz2:=GB x.y q
 exact cF (S:=S) (x:=(x.y*q)) (args:=[(aG (fxL a.y)),(aG (fxL k))]) call98 (λw hw=>Ls a.y k (by (try simp only [Dk]);omega) w (X0 (inS hw 5 O la)) (inS hw 9 O lk)) O O O λg2 lg2=>OkE.back (sl (sl (sl (sl (sl sr))))) (Al (v:=(aG (fxL g1++fxL g2))) O (AQ (zs:=[(Value.bool false),(Value.slice none 0 0),(Value.slice none 0 0),(Value.bool false),(Value.slice none 0 0),(Value.slice none 0 0)]) (vs:=fxL g1++fxL g2) (pv:=[(0,(aG (fxL g1))),(1,(aG (fxL g2)))]) (places:=[(0,3),(3,3)]) zeroValue121 underlying121 (λw=>by simp [sizeOf83]) O (CK g1 g2)) (OkE.imp O (FG 4 (off:=0) (vs:=fxL g1++fxL g2) (cs':=fxL g1++fxL g2) (AP O) O sizeOf121 O (OkE.back (sl (sl (sl (sl (sl sr))))) (OkE.nil (OkQ.subF (sL [4] O) (OkQ.then_ (OkC.ret (ret_one O (Ak (i:=4) (cs:=fxL g1++fxL g2) O O isAgg121 sizeOf121 O) (λw hw=>D0 (a:=((PX.mk g1 g2:PX (⟨x.x*q,x.y*q⟩:Pt)):PX (Bd x q))) hw (Ze (inS hw 2 O lg1) (inS hw 0 O lg2)) O))))))))))
end
end Go.Proofs.YtpolhpjiahbidaaGreatDoor
