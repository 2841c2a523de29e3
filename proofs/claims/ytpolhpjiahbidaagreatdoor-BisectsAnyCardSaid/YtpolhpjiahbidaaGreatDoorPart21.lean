import Derived.Test.YtpolhpjiahbidaaGreatDoorPart18
namespace Go.Proofs.YtpolhpjiahbidaaGreatDoor
open Go Go.RowKit Go.Proofs.Tryz
open Go.Value renaming slice→qw,bool→qa
set_option linter.unusedVariables false
set_option linter.unusedSimpArgs false
section
set_option maxRecDepth 100000
theorem SS  (w:World) {S:Nat->Prop}  :Calls prog 199 #[] w (Ad (NX 1) S w):=by
 exact Ab (args:=[]) func199 O O (Av O) (zN sN (q4 (asg' O (oNl' (q2 (cN (S:=S) (x:=1) (args:=[(Value.int .u64 (1:Int))]) call207 (λw hw=>Rf 1 (by first|omega|(simp only [Int.natAbs_neg];omega)) w) O O O λg1 lg1=>asg' O (oNl' (zB (sL [0] O) (zA (zF (ret_one O (rd_tmp (v:=(CV g1)) O) (λw hw=>EH (a:=(g1:NX 1)) hw (inS hw 0 O lg1) O))))))))))))
theorem qDen_ok {x:Rat} (a:FX x) (hs:Sz x<=16777216) (w:World) {S:Nat->Prop} (ha:Ro S w a)  :Calls prog 147 #[(aG (fxL a))] w (Ad (NX x.den) S w):=by
 have s0:=DA x
 have s1:=Cq x
 have s2:=Fp x
 have h1w:=JJ
 have la:=Bx (W:=w) ha
 refine AX (args:=[(aG (fxL a))]) (L:=[Bj a.z.n,Bj a.m]) func147 O O (Av O) (N2 ha Ah) (zN (sL [0] O) (q4 (Bb (cs:=fxL a) O λb1=>asg' O (q6 (sL [1,2] O) (CQ [(0,true),(1,true),(2,false),(3,false),(4,true)] sr (Aj (v:=(pP b1 2)) O (AA O underlying83 O sizeOf79 O) (Be 0 (CV a.m) GI O (zK O (cN (S:=S) (x:=1) (args:=[]) call199 (λw hw=>SS w) O O O λg1 lg1=>zD (sl sr) ?_)))))))))
 exact zK O (cN (S:=S) (x:=x.den) (args:=[(CV a.m),(CV g1)]) call198 (λw hw=>(Ad.cast (T:=λi=>NX i) (Nat.sub_add_cancel x.den_pos) (S3 a.m g1 (by first|omega|(simp only [Int.natAbs_neg];omega)) (by first|omega|(simp only [Int.natAbs_neg];omega)) w (eX (inS hw 2 O la)) (inS hw 0 O lg1)))) O O O λg2 lg2=>zD (sl (sl sr)) (pS' O (zT (zB (sL [2] O) (zA (zF (ret_one O (rd_tmp (v:=(CV g2)) O) (λw hw=>EH (a:=(g2:NX x.den)) hw (inS hw 0 O lg2) O))))))))
theorem SW {x:Rat} (a:FX x) (hs:Sz x<=16777216) (w:World) {S:Nat->Prop} (ha:Ro S w a)  :Calls prog 161 #[(aG (fxL a))] w (Ad (ZX ((x.den:Nat):Int)) S w):=by
 have la:=Bx (W:=w) ha
 refine AX (args:=[(aG (fxL a))]) (L:=[Bj a.z.n,Bj a.m]) func161 O O (Av O) (N2 ha Ah) (zN (sL [0] O) (q4 (Bb (cs:=fxL a) O λb1=>al TJ O λb2=>q3 (sL [1,2] O) (BD 1 Cw O (cN (S:=S) (x:=x.den) (args:=[(aG (fxL a))]) call147 (λw hw=>qDen_ok a Z w (inS hw 2 O la)) O O O λg1 lg1=>cZ (S:=S) (x:=((x.den:Nat):Int)) (args:=[(qa false),(CV g1)]) call163 (λw hw=>(Ad.cast (T:=λi=>ZX i) (show EM false x.den=_ from O) (D8 false g1 w (inS hw 0 O lg1)))) O O O λg2 lg2=>H6 O sizeOf81 O (oNl' (zB (sL [2] O) ?_)))))))
 exact zA (zF (ret_one O (Ai (i:=2) (cs:=DV g2) O O isAgg81 sizeOf81 O) (λw hw=>EH (a:=(g2:ZX ((x.den:Nat):Int))) hw (inS hw 0 O lg2) O)))
theorem Ks {n:Int} {k:Nat} (z:ZX n) (d:NX k) (hn:nw n.natAbs<=67108864) (hk:nw k<=67108864) (h0:k≠0) (w:World) {S:Nat->Prop} (hz:Ro S w z) (hd:Ro S w d)  :Calls prog 158 #[(aG (DV z)),(CV d)] w (Ad (FX (mkRat n k)) S w):=by
 have hg:0<Nat.gcd n.natAbs k:=Nat.pos_of_ne_zero λh=>h0 (Nat.eq_zero_of_gcd_eq_zero_right h)
 have hgw:nw (Nat.gcd n.natAbs k)<=nw k:=DK (Nat.gcd_le_right _ (Nat.pos_of_ne_zero h0))
 have hqw:nw (k/Nat.gcd n.natAbs k)<=nw k:=DK (Nat.div_le_self _ _)
 have hq1:1<=k/Nat.gcd n.natAbs k:=Nat.div_pos (Nat.gcd_le_right _ (Nat.pos_of_ne_zero h0)) hg
 have lz:=Bx (W:=w) hz
 have ld:=Bx (W:=w) hd
 refine AX (args:=[(aG (DV z)),(CV d)]) (L:=[Bj z.n,Bj d]) func158 O O (Av O) (Yx hz (de hd Ah)) (zN (sL [0,1] O) (q4 (Bb (cs:=DV z) O λb1=>al Ib O λb2=>q3 (sL [1,2,4] O) (AG (v:=(pP b1 1)) (AA O underlying81 O sizeOf79 O) O (Az 1 (CV z.n) GI O (AM O (cN (S:=S) (x:=(Nat.gcd n.natAbs k)) (args:=[(CV z.n),(CV d)]) call208 (λw hw=>XV z.n d (by first|omega|(simp only [Int.natAbs_neg];omega)) (by first|omega|(simp only [Int.natAbs_neg];omega)) w (Pv (inS hw 2 O lz)) (inS hw 3 O ld)) O O O λg1 lg1=>asg' O (q3 (sL [1,2,4,5] O) ?_))))))))
 refine AG (v:=(pP b1 1)) (AA O underlying81 O sizeOf79 O) O (Az 2 (CV z.n) GI O (AM O (cD (S:=S) (u:=(n.natAbs/(Nat.gcd n.natAbs k))) (v:=(n.natAbs%(Nat.gcd n.natAbs k))) (args:=[(CV z.n),(CV g1)]) call209 (λw hw=>Sj z.n g1 hg Z Z w (Pv (inS hw 3 O lz)) (inS hw 0 O lg1)) O O O λg2 lg2=>AM O (AG (AZ (v:=(CV g2.q)) O O) O (AG (AZ (v:=(CV g2.r)) O O) O (asg' O (asg' O (q3 (sL [1,2,4,5,6] O) (AM O (AM O ?_))))))))))
 refine cD (S:=S) (u:=(k/(Nat.gcd n.natAbs k))) (v:=(k%(Nat.gcd n.natAbs k))) (args:=[(CV d),(CV g1)]) call209 (λw hw=>Sj d g1 hg Z Z w (inS hw 6 O ld) (inS hw 2 O lg1)) O O O λg3 lg3=>AM O (AG (AZ (v:=(CV g3.q)) O O) O (AG (AZ (v:=(CV g3.r)) O O) O (asg' O (asg' O (q3 (sL [1,2,4,5,6,8] O) (AG (v:=(pP b1 0)) (AA O underlying81 O sizeOf4 O) O (Az 6 (qa (decide (n<0))) J2 O (AM O (cZ (S:=S) (x:=((mkRat n k).num)) (args:=[(qa (decide (n<0))),(CV g2.q)]) call163 (λw hw=>(Ad.cast (T:=λi=>ZX i) (U8 h0) (D8 (decide (n<0)) g2.q w (cY (inS hw 2 O lg2))))) O O O λg4 lg4=>AM O ?_)))))))))
 exact cN (S:=S) (x:=1) (args:=[]) call199 (λw hw=>SS w) O O O λg5 lg5=>cN (S:=S) (x:=((mkRat n k).den-1)) (args:=[(CV g3.q),(CV g5)]) call210 (λw hw=>(Ad.cast (T:=λi=>NX i) (Vv h0) (OW g3.q g5 hq1 Z w (cY (inS hw 2 O lg3)) (inS hw 0 O lg5)))) O O O λg6 lg6=>AG (v:=(aG (DV g4++[(CV g6)]))) (AT (zs:=[(qa false),jj,jj]) (vs:=DV g4++[(CV g6)]) (pv:=[(0,(aG (DV g4))),(1,(CV g6))]) (places:=[(0,2),(2,1)]) zeroValue83 underlying83 (λw=>by simp [sizeOf79,sizeOf81]) O O) O (Ek 8 (off:=0) (vs:=DV g4++[(CV g6)]) (cs':=DV g4++[(CV g6)]) (AJ O) O sizeOf83 O (oNl' (zB (sL [1,2,4,5] O) (zA (zF (ret_one O (Ai (i:=8) (cs:=DV g4++[(CV g6)]) O O isAgg83 sizeOf83 O) (λw hw=>EH (a:=((FX.mk g4 g6):FX (mkRat n k))) hw (dX (inS hw 2 O lg4) (inS hw 0 O lg6)) O)))))))
theorem IV {r0:Int} (x0:ZX r0):Instr.fill ([(0,2),(2,1)].toArray[·]?) ([(qa false),jj,jj]).toArray [(0,.agg (DV x0).toArray)]=some (DV x0++[jj]).toArray:=by kernel_rfl
theorem Sk (z:Int) (hz:-9223372036854775808<=z) (hz2:z<9223372036854775808) (w:World) {S:Nat->Prop}  :Calls prog 94 #[(vI z)] w (Ad (FX ((z:Int):Rat)) S w):=by
 refine Ab (args:=[(vI z)]) func94 O O (Av O) (zN (sL [0] O) (q4 (al Ib O λb1=>oNl' (q2 (AM O (cZ (S:=S) (x:=(((z:Int):Rat).num)) (args:=[(vI z)]) call157 (λw hw=>(Ad.cast (T:=λi=>ZX i) (show z=((z:Int):Rat).num from O) (aW z Z Z w))) O O O λg1 lg1=>AG (v:=(aG (DV g1++[jj]))) (AT (zs:=[(qa false),jj,jj]) (vs:=DV g1++[jj]) (pv:=[(0,(aG (DV g1)))]) (places:=[(0,2),(2,1)]) zeroValue83 underlying83 (λw=>by simp [sizeOf79,sizeOf81]) O (IV g1)) O (EK O sizeOf83 O (oNl' (zB (sL [2] O) ?_)))))))))
 exact zA (zF (ret_one O (Ai (i:=1) (cs:=DV g1++[jj]) O O isAgg83 sizeOf83 O) (λw hw=>EH (a:=((FX.mk g1 NX.zero):FX ((z:Int):Rat))) hw (dX (inS hw 0 O lg1) bQ) O)))
theorem Ox {x:Rat} (a:FX x) (w:World) {S:Nat->Prop} (ha:Ro S w a)  :Calls prog 126 #[(aG (fxL a))] w (Ak w (vI x.num.sign)):=by
 have la:=Bx (W:=w) ha
 refine AX (args:=[(aG (fxL a))]) (L:=[Bj a.z.n,Bj a.m]) func126 O O (Av O) (N2 ha Ah) (zN (sL [0] O) (q4 (Bb (cs:=fxL a) O λb1=>asg' O (q3 (sL [1,2] O) (AG (v:=(pP b1 0)) (AA O underlying83 O sizeOf81 O) O (Ei 0 (DV a.z) PK O (Ct call180 (λw hw=>U9 a.z w (XS (inS hw 1 O la))) O (asg' O (oNl' (zB (sL [2] O) ?_))))))))))
 exact zA (zF (ret_one O (rd_tmp (v:=(vI x.num.sign)) O) (λw hw=>⟨rfl,hw.out⟩)))
theorem Xk {x:Rat} (a:FX x) (w:World) {S:Nat->Prop} (ha:Ro S w a)  :Calls prog 181 #[(aG (fxL a))] w (Ad (FX (-x)) S w):=by
 have la:=Bx (W:=w) ha
 refine AX (args:=[(aG (fxL a))]) (L:=[Bj a.z.n,Bj a.m]) func181 O O (Av O) (N2 ha Ah) (zN (sL [0] O) (q4 (Bb (cs:=fxL a) O λb1=>al Ib O λb2=>q6 (sL [1,2] O) (CQ [(0,true),(1,true),(3,true),(4,true),(2,false),(5,true),(6,false)] (sl sr) (Aj (v:=(pP b1 0)) O (AA O underlying83 O sizeOf81 O) (Eo 0 (DV a.z) PK O (Aj (v:=(pP b1 2)) O (AA O underlying83 O sizeOf79 O) (Be 0 (CV a.m) GI O (zK O ?_)))))))))
 exact cZ (S:=S) (x:=((-x).num)) (args:=[(aG (DV a.z))]) call219 (λw hw=>(Ad.cast (T:=λi=>ZX i) (Rat.neg_num x).symm (ZJ a.z w (XS (inS hw 2 O la))))) O O O λg1 lg1=>zD (sl (sl sr)) (Aj (v:=(aG (DV g1++[(CV a.m)]))) O (AT (zs:=[(qa false),jj,jj]) (vs:=DV g1++[(CV a.m)]) (pv:=[(0,(aG (DV g1))),(1,(CV a.m))]) (places:=[(0,2),(2,1)]) zeroValue83 underlying83 (λw=>by simp [sizeOf79,sizeOf81]) O O) (zK O (EK O sizeOf83 O (zD (sl (sl sr)) (zT (zB (sL [2] O) (zA (zF (ret_one O (Ai (i:=1) (cs:=DV g1++[(CV a.m)]) O O isAgg83 sizeOf83 O) (λw hw=>EH (a:=((FX.mk g1 a.m):FX (-x))) hw (dX (inS hw 0 O lg1) (eX (inS hw 3 O la))) O))))))))))
theorem KX {x y:Rat} (a:FX x) (b:FX y) (hs:Sz x+Sz y<=16777216) (w:World) {S:Nat->Prop} (ha:Ro S w a) (hb:Ro S w b)  :Calls prog 96 #[(aG (fxL a)),(aG (fxL b))] w (Ad (FX (x+y)) S w):=by
 have s0:=DA x
 have s1:=Cq x
 have s2:=Fp x
 have s3:=DA y
 have s4:=Cq y
 have s5:=Fp y
 have s6:=CW x y
 have s7:=CW y x
 have s8:=GP x y
 have s9:=HV x y
 have s10:=EB (x.num*((y.den:Nat):Int)) (y.num*((x.den:Nat):Int))
 have h0x:=x.den_nz
 have h0y:=y.den_nz
 have h0xy:=Nat.mul_ne_zero h0x h0y
 have la:=Bx (W:=w) ha
 have lb:=Bx (W:=w) hb
 refine AX (args:=[(aG (fxL a)),(aG (fxL b))]) (L:=[Bj a.z.n,Bj a.m,Bj b.z.n,Bj b.m]) func96 O O (Av O) (N2 ha (N2 hb Ah)) (zN (sL [0,1] O) (q4 (Bb (cs:=fxL a) O λb1=>Bb (cs:=fxL b) O λb2=>al Ib O λb3=>q6 (sL [2,3,4] O) (CQ [(0,true),(1,true),(2,true),(5,true),(6,true),(7,true),(11,true),(13,true),(3,false),(4,false),(8,false),(9,false),(10,false),(12,false),(14,false),(15,false),(16,false),(17,false)] (sl sr) (Aj (v:=(pP b1 0)) O (AA O underlying83 O sizeOf81 O) (Eo 1 (DV a.z) PK O (EC 0 Cw O (Aj (v:=(pP b2 0)) O (AA O underlying83 O sizeOf81 O) ?_))))))))
 refine Eo 0 (DV b.z) PK O (EC 1 Cw O (EC 1 Cw O (EC 0 Cw O (zK O (cZ (S:=S) (x:=((y.den:Nat):Int)) (args:=[(aG (fxL b))]) call161 (λw hw=>SW b Z w (inS hw 5 O lb)) O O O λg1 lg1=>zD (sl (sl sr)) (zK O (cZ (S:=S) (x:=(x.num*((y.den:Nat):Int))) (args:=[(aG (DV a.z)),(aG (DV g1))]) call160 (λw hw=>Om a.z g1 Z (by show nw y.den<=_;omega) w (XS (inS hw 4 O la)) (inS hw 0 O lg1)) O O O λg2 lg2=>zD (sl (sl (sl sr))) (zK O (cZ (S:=S) (x:=((x.den:Nat):Int)) (args:=[(aG (fxL a))]) call161 (λw hw=>SW a Z w (inS hw 5 O la)) O O O λg3 lg3=>?_)))))))))
 refine zD (sl (sl (sl (sl sr)))) (zK O (cZ (S:=S) (x:=(y.num*((x.den:Nat):Int))) (args:=[(aG (DV b.z)),(aG (DV g3))]) call160 (λw hw=>Om b.z g3 Z (by show nw x.den<=_;omega) w (XS (inS hw 8 O lb)) (inS hw 0 O lg3)) O O O λg4 lg4=>zD (sl (sl (sl (sl (sl sr))))) (zK O (cZ (S:=S) (x:=((x.num*((y.den:Nat):Int))+(y.num*((x.den:Nat):Int)))) (args:=[(aG (DV g2)),(aG (DV g4))]) call159 (λw hw=>Ys g2 g4 Z Z w (inS hw 2 O lg2) (inS hw 0 O lg4)) O O O λg5 lg5=>zD (sl (sl (sl (sl (sl (sl sr)))))) (zK O (cN (S:=S) (x:=x.den) (args:=[(aG (fxL a))]) call147 (λw hw=>qDen_ok a Z w (inS hw 8 O la)) O O O λg6 lg6=>zD (sl (sl (sl (sl (sl (sl (sl sr))))))) (zK O (cN (S:=S) (x:=y.den) (args:=[(aG (fxL b))]) call147 (λw hw=>qDen_ok b Z w (inS hw 11 O lb)) O O O λg7 lg7=>?_))))))))
 refine zD (sl (sl (sl (sl (sl (sl (sl (sl sr)))))))) (zK O (cN (S:=S) (x:=(x.den*y.den)) (args:=[(CV g6),(CV g7)]) call162 (λw hw=>OV g6 g7 (by first|omega|(simp only [Int.natAbs_neg];omega)) (by first|omega|(simp only [Int.natAbs_neg];omega)) w (inS hw 1 O lg6) (inS hw 0 O lg7)) O O O λg8 lg8=>zD (sl (sl (sl (sl (sl (sl (sl (sl (sl sr))))))))) (zK O (cF (S:=S) (x:=(x+y)) (args:=[(aG (DV g5)),(CV g8)]) call158 (λw hw=>(Ad.cast (T:=λi=>FX i) (Ho x y) (Ks g5 g8 Z Z h0xy w (inS hw 3 O lg5) (inS hw 0 O lg8)))) O O O λg9 lg9=>zD (sl (sl (sl (sl (sl (sl (sl (sl (sl (sl (sl sr))))))))))) (zK O (Ek 10 (off:=0) (vs:=fxL g9) (cs':=fxL g9) (AJ O) O sizeOf83 O (zD (sl (sl (sl (sl (sl (sl (sl (sl (sl (sl (sl sr))))))))))) (zT (zB (sL [4] O) ?_)))))))))
 exact zA (zF (ret_one O (Ai (i:=10) (cs:=fxL g9) O O isAgg83 sizeOf83 O) (λw hw=>EH (a:=(g9:FX (x+y))) hw (inS hw 0 O lg9) O)))
theorem Og {x y:Rat} (a:FX x) (b:FX y) (hs:Sz x+Sz y<=16777216) (w:World) {S:Nat->Prop} (ha:Ro S w a) (hb:Ro S w b)  :Calls prog 127 #[(aG (fxL a)),(aG (fxL b))] w (Ad (FX (x-y)) S w):=by
 have la:=Bx (W:=w) ha
 have lb:=Bx (W:=w) hb
 refine AX (args:=[(aG (fxL a)),(aG (fxL b))]) (L:=[Bj a.z.n,Bj a.m,Bj b.z.n,Bj b.m]) func127 O O (Av O) (N2 ha (N2 hb Ah)) (zN (sL [0,1] O) (q4 (Bb (cs:=fxL a) O λb1=>Bb (cs:=fxL b) O λb2=>al Ib O λb3=>q6 (sL [2,3,4] O) (CQ [(0,true),(1,true),(2,false),(3,false),(4,false)] (sl sr) (EC 1 Cw O (EC 0 Cw O (zK O (cF (S:=S) (x:=(-y)) (args:=[(aG (fxL b))]) call181 (λw hw=>Xk b w (inS hw 5 O lb)) O O O λg1 lg1=>?_))))))))
 refine zD (sl (sl (sl sr))) (zK O ?_)
 have hz1:=E_ x (-y)
 exact cF (S:=S) (x:=(x-y)) (args:=[(aG (fxL a)),(aG (fxL g1))]) call96 (λw hw=>(Ad.cast (T:=λi=>FX i) (Rat.sub_eq_add_neg x y).symm (KX a g1 (by (try simp only [Cb]);omega) w (inS hw 5 O la) (inS hw 0 O lg1)))) O O O λg2 lg2=>zD (sl (sl (sl (sl (sl sr))))) (zK O (Ek 4 (off:=0) (vs:=fxL g2) (cs':=fxL g2) (AJ O) O sizeOf83 O (zD (sl (sl (sl (sl (sl sr))))) (zT (zB (sL [4] O) (zA (zF (ret_one O (Ai (i:=4) (cs:=fxL g2) O O isAgg83 sizeOf83 O) (λw hw=>EH (a:=(g2:FX (x-y))) hw (inS hw 0 O lg2) O)))))))))
theorem I8 {x y:Rat} (a:FX x) (b:FX y) (hs:Sz x+Sz y<=16777216) (w:World) {S:Nat->Prop} (ha:Ro S w a) (hb:Ro S w b)  :Calls prog 98 #[(aG (fxL a)),(aG (fxL b))] w (Ad (FX (x*y)) S w):=by
 have s0:=DA x
 have s1:=Cq x
 have s2:=Fp x
 have s3:=DA y
 have s4:=Cq y
 have s5:=Fp y
 have s6:=CW x y
 have s7:=CW y x
 have s8:=GP x y
 have s9:=HV x y
 have s10:=EB (x.num*((y.den:Nat):Int)) (y.num*((x.den:Nat):Int))
 have h0x:=x.den_nz
 have h0y:=y.den_nz
 have h0xy:=Nat.mul_ne_zero h0x h0y
 have la:=Bx (W:=w) ha
 have lb:=Bx (W:=w) hb
 refine AX (args:=[(aG (fxL a)),(aG (fxL b))]) (L:=[Bj a.z.n,Bj a.m,Bj b.z.n,Bj b.m]) func98 O O (Av O) (N2 ha (N2 hb Ah)) (zN (sL [0,1] O) (q4 (Bb (cs:=fxL a) O λb1=>Bb (cs:=fxL b) O λb2=>al Ib O λb3=>q6 (sL [2,3,4] O) (CQ (Db 4++[(5,true),(7,true),(4,false),(6,false),(8,false),(9,false),(10,false),(11,false)]) (sl sr) (Aj (v:=(pP b1 0)) O (AA O underlying83 O sizeOf81 O) (Eo 1 (DV a.z) PK O (Aj (v:=(pP b2 0)) O (AA O underlying83 O sizeOf81 O) (Eo 0 (DV b.z) PK O ?_))))))))
 refine EC 1 Cw O (EC 0 Cw O (zK O (cZ (S:=S) (x:=(x.num*y.num)) (args:=[(aG (DV a.z)),(aG (DV b.z))]) call160 (λw hw=>Om a.z b.z Z Z w (XS (inS hw 3 O la)) (XS (inS hw 5 O lb))) O O O λg1 lg1=>zD (sl (sl sr)) (zK O (cN (S:=S) (x:=x.den) (args:=[(aG (fxL a))]) call147 (λw hw=>qDen_ok a Z w (inS hw 4 O la)) O O O λg2 lg2=>zD (sl (sl (sl sr))) (zK O (cN (S:=S) (x:=y.den) (args:=[(aG (fxL b))]) call147 (λw hw=>qDen_ok b Z w (inS hw 7 O lb)) O O O λg3 lg3=>zD (sl (sl (sl (sl sr)))) (zK O ?_))))))))
 exact cN (S:=S) (x:=(x.den*y.den)) (args:=[(CV g2),(CV g3)]) call162 (λw hw=>OV g2 g3 (by first|omega|(simp only [Int.natAbs_neg];omega)) (by first|omega|(simp only [Int.natAbs_neg];omega)) w (inS hw 1 O lg2) (inS hw 0 O lg3)) O O O λg4 lg4=>zD (sl (sl (sl (sl (sl sr))))) (zK O (cF (S:=S) (x:=(x*y)) (args:=[(aG (DV g1)),(CV g4)]) call158 (λw hw=>(Ad.cast (T:=λi=>FX i) (Jb x y) (Ks g1 g4 Z Z h0xy w (inS hw 3 O lg1) (inS hw 0 O lg4)))) O O O λg5 lg5=>zD (sl (sl (sl (sl (sl (sl (sl sr))))))) (zK O (Ek 6 (off:=0) (vs:=fxL g5) (cs':=fxL g5) (AJ O) O sizeOf83 O (zD (sl (sl (sl (sl (sl (sl (sl sr))))))) (zT (zB (sL [4] O) (zA (zF (ret_one O (Ai (i:=6) (cs:=fxL g5) O O isAgg83 sizeOf83 O) (λw hw=>EH (a:=(g5:FX (x*y))) hw (inS hw 0 O lg5) O)))))))))))
theorem Y5 (a b:Rat):Sz (a/b)<=Sz a+Sz b:=by
 by_cases h:b=0
 ·subst h;rw [Rat.div_def,Rat.inv_zero,Rat.mul_zero];have h1:=RB a;exact xK (show Sz (0:Rat)<=1 by decide +kernel) Z
 ·exact Rn h
theorem LQ  :Instr.fill ([(0,2),(2,1)].toArray[·]?) ([(qa false),jj,jj]).toArray []=some ([(qa false),jj,jj]).toArray:=by kernel_rfl
theorem ZO {x y:Rat} (a:FX x) (b:FX y) (hs:Sz x+Sz y<=16777216) (w:World) {S:Nat->Prop} (ha:Ro S w a) (hb:Ro S w b)  :Calls prog 97 #[(aG (fxL a)),(aG (fxL b))] w (Ad (FX (x/y)) S w):=by
 have s0:=DA x
 have s1:=Cq x
 have s2:=Fp x
 have s3:=DA y
 have s4:=Cq y
 have s5:=Fp y
 have s6:=CW x y
 have s7:=CW y x
 have s8:=GP x y
 have s9:=HV x y
 have s10:=EB (x.num*((y.den:Nat):Int)) (y.num*((x.den:Nat):Int))
 have h0x:=x.den_nz
 have h0y:=y.den_nz
 have h0xy:=Nat.mul_ne_zero h0x h0y
 have la:=Bx (W:=w) ha
 have lb:=Bx (W:=w) hb
 refine AX (args:=[(aG (fxL a)),(aG (fxL b))]) (L:=[Bj a.z.n,Bj a.m,Bj b.z.n,Bj b.m]) func97 O O (Av O) (N2 ha (N2 hb Ah)) (zN (sL [0,1] O) (q4 (Bb (cs:=fxL a) O λb1=>Bb (cs:=fxL b) O λb2=>al Ib O λb3=>q6 (sL [2,3,4] O) (q4 (BD 1 Cw O (Ct call126 (λw hw=>Ox b w (inS hw 5 O lb)) O (AG (BO (c:=(decide (y.num.sign=(0:Int)))) O O O) O (oNl' ?_))))))))
 refine zB (sL [2,3,4,7] O) (zA ?_)
 refine zM O (λhc0=>?_) (λhc0=>?_)
 ·replace hc0:=xR hc0
  exact q4 (AG (v:=(aG ([(qa false),jj,jj]))) (AT (zs:=[(qa false),jj,jj]) (vs:=[(qa false),jj,jj]) (pv:=[]) (places:=[(0,2),(2,1)]) zeroValue83 underlying83 (λw=>by simp [sizeOf79,sizeOf81]) O (LQ )) O (Ax O sizeOf83 O (oNl' (zB (sL [2,3,4] O) (zA (zF (zO (ret_one O (Ai (i:=0) (cs:=[(qa false),jj,jj]) O O isAgg83 sizeOf83 O) (λw hw=>(by rw [<-WD (a:=x) hc0];exact EH (a:=FX.zero) hw (dX (fJ bQ) bQ) O))))))))))
 ·replace hc0:=xQ hc0
  have hy:y≠0:=λe=>hc0 (by rw [e];rfl)
  have hi:=Q2 hy
  have hyn:y.num.natAbs≠0:=λe=>hy (Rat.num_eq_zero.1 Z)
  refine zG (q1 (CQ (Db 5++[(7,true),(8,true),(9,true),(5,false),(6,false),(10,false),(11,false),(12,false)]) (sl sr) (EC 1 Cw O (Aj (v:=(pP b2 0)) O (AA O underlying83 O sizeOf81 O) (Aj (v:=(pP b2 0)) O (AA O underlying81 O sizeOf4 O) (Be 0 (qa (decide (y.num<0))) J2 O (EC 0 Cw O (Aj (v:=(pP b2 0)) O (AA O underlying83 O sizeOf81 O) (Aj (v:=(pP b2 1)) O (AA O underlying81 O sizeOf79 O) (Be 0 (CV b.z.n) GI O (zK O ?_)))))))))))
  refine cN (S:=S) (x:=y.den) (args:=[(aG (fxL b))]) call147 (λw hw=>qDen_ok b Z w (inS hw 5 O lb)) O O O λg1 lg1=>zD (sl (sl sr)) (zK O (cZ (S:=S) (x:=(EM (decide (y.num<0)) y.den)) (args:=[(qa (decide (y.num<0))),(CV g1)]) call163 (λw hw=>D8 (decide (y.num<0)) g1 w (inS hw 0 O lg1)) O O O λg2 lg2=>zD (sl (sl (sl sr))) (zK O (cF (S:=S) (x:=(y⁻¹)) (args:=[(aG (DV g2)),(CV b.z.n)]) call158 (λw hw=>(Ad.cast (T:=λi=>FX i) (e7 hy) (Ks g2 b.z.n (by rw [A6];omega) Z hyn w (inS hw 0 O lg2) (Pv (XS (inS hw 7 O lb)))))) O O O λg3 lg3=>zD (sl (sl (sl (sl (sl sr))))) (zK O ?_)))))
  have hz1:=Eg x (y⁻¹)
  exact cF (S:=S) (x:=(x/y)) (args:=[(aG (fxL a)),(aG (fxL g3))]) call98 (λw hw=>(Ad.cast (T:=λi=>FX i) XZ (I8 a g3 (by (try simp only [Cb]);omega) w (inS hw 7 O la) (inS hw 0 O lg3)))) O O O λg4 lg4=>zD (sl (sl (sl (sl (sl (sl (sl sr))))))) (zK O (Ek 6 (off:=0) (vs:=fxL g4) (cs':=fxL g4) (AJ O) O sizeOf83 O (zD (sl (sl (sl (sl (sl (sl (sl sr))))))) (zT (zB (sL [3,4] O) (zA (zF (ret_one O (Ai (i:=6) (cs:=fxL g4) O O isAgg83 sizeOf83 O) (λw hw=>EH (a:=(g4:FX (x/y))) hw (inS hw 0 O lg4) O)))))))))
theorem Nu {x y:Rat} (a:FX x) (b:FX y) (hs:Sz x+Sz y<=16777216) (w:World) {S:Nat->Prop} (ha:Ro S w a) (hb:Ro S w b)  :Calls prog 75 #[(aG (fxL a)),(aG (fxL b))] w (Ak w (vI (EW x y))):=by
 have la:=Bx (W:=w) ha
 have lb:=Bx (W:=w) hb
 refine AX (args:=[(aG (fxL a)),(aG (fxL b))]) (L:=[Bj a.z.n,Bj a.m,Bj b.z.n,Bj b.m]) func75 O O (Av O) (N2 ha (N2 hb Ah)) (zN (sL [0,1] O) (q4 (Bb (cs:=fxL a) O λb1=>Bb (cs:=fxL b) O λb2=>asg' O (q3 (sL [2,3,4] O) (BD 1 Cw O (BD 0 Cw O ?_))))))
 have hz1:=II x y
 exact cF (S:=S) (x:=(x-y)) (args:=[(aG (fxL a)),(aG (fxL b))]) call127 (λw hw=>Og a b (by (try simp only [Cb]);omega) w (inS hw 2 O la) (inS hw 4 O lb)) O O O λg1 lg1=>Ct call126 (λw hw=>Ox g1 w (inS hw 0 O lg1)) O (asg' O (oNl' (zB (sL [4] O) (zA (zF (ret_one O (rd_tmp (v:=(vI ((x-y).num.sign))) O) (λw hw=>⟨by rw [eP],hw.out⟩)))))))
theorem Us (n d:Int) (h1:-9223372036854775808<=n) (h2:n<9223372036854775808) (h3:-9223372036854775808<=d) (h4:d<9223372036854775808) (w:World) {S:Nat->Prop}  :Calls prog 117 #[(vI n),(vI d)] w (Ad (FX (((n:Int):Rat)/((d:Int):Rat))) S w):=by
 have s1:=JT h1 h2
 have s2:=JT h3 h4
 refine Ab (args:=[(vI n),(vI d)]) func117 O O (Av O) (zN (sL [0,1] O) (q4 (al Ib O λb1=>oNl' (q2 (AM O (cF (S:=S) (x:=((n:Int):Rat)) (args:=[(vI n)]) call94 (λw hw=>Sk n Z Z w) O O O λg1 lg1=>AM O (cF (S:=S) (x:=((d:Int):Rat)) (args:=[(vI d)]) call94 (λw hw=>Sk d Z Z w) O O O λg2 lg2=>?_)))))))
 have hz1:=Y5 ((n:Int):Rat) ((d:Int):Rat)
 exact cF (S:=S) (x:=(((n:Int):Rat)/((d:Int):Rat))) (args:=[(aG (fxL g1)),(aG (fxL g2))]) call97 (λw hw=>ZO g1 g2 (by (try simp only [Cb]);omega) w (inS hw 2 O lg1) (inS hw 0 O lg2)) O O O λg3 lg3=>Ek 6 (off:=0) (vs:=fxL g3) (cs':=fxL g3) (AJ O) O sizeOf83 O (oNl' (zB (sL [4] O) (zA (zF (ret_one O (Ai (i:=6) (cs:=fxL g3) O O isAgg83 sizeOf83 O) (λw hw=>EH (a:=(g3:FX (((n:Int):Rat)/((d:Int):Rat)))) hw (inS hw 0 O lg3) O))))))
theorem W7 {x:Rat} (a:FX x) (hs:Sz x<=16777216) (w:World) {S:Nat->Prop} (ha:Ro S w a)  :Calls prog 87 #[(aG (fxL a))] w (Ak w (Value.string (txB (Ot x)))):=by
 have s0:=DA x
 have s1:=Cq x
 have s2:=Fp x
 have hl1:=Yr x.num
 have hl2:=Qs x.den
 have la:=Bx (W:=w) ha
 refine AX (args:=[(aG (fxL a))]) (L:=[Bj a.z.n,Bj a.m]) func87 O O (Av O) (N2 ha Ah) (zN (sL [0] O) (q4 (Bb (cs:=fxL a) O λb1=>asg' O (q6 (sL [1,2] O) (q4 (AG (v:=(pP b1 2)) (AA O underlying83 O sizeOf79 O) O (Az 0 (CV a.m) GI O (AG (v:=(vN ((dg (x.den-1)).length))) (AC O underlying79) O (AG (BO (c:=(decide (((dg (x.den-1)).length)=0))) O O (Mf (a:=(dg (x.den-1)).length) (b:=0))) O (oNl' ?_))))))))))
 refine zB (sL [1,2,6] O) (zA ?_)
 refine zM O (λhc0=>?_) (λhc0=>?_)
 ·replace hc0:=xR hc0
  have he:Ot x=txI x.num:=by unfold Ot;rw [if_pos (PS hc0)]
  exact q4 (AG (v:=(pP b1 0)) (AA O underlying83 O sizeOf81 O) O (Ei 0 (DV a.z) PK O (Ct call145 (λw hw=>Pr a.z Z w (XS (inS hw 1 O la))) O (asg' O (oNl' (zB (sL [1,2] O) (zA (zF (zO (ret_one O (rd_tmp (v:=(Value.string (txB (txI x.num)))) O) (λw hw=>⟨by rw [he],hw.out⟩)))))))))))
 ·replace hc0:=xQ hc0
  have he:Ot x=txI x.num++[47]++Lib.decDigits x.den:=by unfold Ot;rw [if_neg (I5 hc0),xw];rfl
  refine zG (q1 (CQ [(0,true),(1,true),(4,true),(2,false),(3,true),(5,false),(6,false),(7,true),(8,true)] sr (Aj (v:=(pP b1 0)) O (AA O underlying83 O sizeOf81 O) (Eo 0 (DV a.z) PK O (EC 0 Cw O (zK O (Ct call145 (λw hw=>Pr a.z Z w (XS (inS hw 1 O la))) O (zD sr (Aj (v:=(Value.string (txB (txI x.num++[47])))) O (C0 (r:=(txB (txI x.num++[47]))) O O (by rw [D6];show _+1<=_;omega) (EG _ [47])) (zK O (cN (S:=S) (x:=x.den) (args:=[(aG (fxL a))]) call147 (λw hw=>qDen_ok a Z w (inS hw 1 O la)) O O O λg1 lg1=>?_)))))))))))
  exact zD (sl sr) (zK O (Ct call146 (λw hw=>Lf g1 (by first|omega|(simp only [Int.natAbs_neg];omega)) w (inS hw 0 O lg1)) O (zD (sl sr) (Aj (v:=(Value.string (txB (txI x.num++[47]++Lib.decDigits x.den)))) O (C0 (r:=(txB (txI x.num++[47]++Lib.decDigits x.den))) O O (by rw [D6,D6,xJ];show _+1+_<=_;omega) (EG _ _)) (pS' O (zT (zB (sL [1,2] O) (zA (zF (ret_one O (rd_tmp (v:=(Value.string (txB (txI x.num++[47]++Lib.decDigits x.den)))) O) (λw hw=>⟨by rw [he],hw.out⟩)))))))))))
end
section
set_option maxRecDepth 100000
theorem Ss (z:QD) (h:z.ok) (w:World) {S:Nat->Prop}  :Calls prog 112 #[(aG (JB z))] w (Ad (FX (Jp z)) S w):=by
 obtain ⟨h1,h2,h3⟩:=h
 refine Ab (args:=[(aG (JB z))]) func112 O O (Av O) (zN (sL [0] O) (q4 (Bb (cs:=JB z) O λb1=>al Ib O λb2=>q3 (sL [1,2] O) (AG (v:=(pP b1 0)) (AA O underlying94 O sizeOf2 O) O (Az 1 (vI z.n) dV O (AG (v:=(pP b1 1)) (AA O underlying94 O sizeOf92 O) O (Az 1 (vK .u32 z.d) aI O (AG (Eu (c:=((max z.d 1:Nat):Int)) O O (by split<;>omega)) O (AG (A9 (c:=((max z.d 1:Nat):Int)) O underlying92 underlying2 (FQ Z)) O ?_)))))))))
 exact cF (S:=S) (x:=(Jp z)) (args:=[(vI z.n),(vN (max z.d 1))]) call117 (λw hw=>(Ad.cast (T:=λi=>FX i) O (Us z.n ((max z.d 1:Nat):Int) Z Z Z Z w))) O O O λg1 lg1=>H6 O sizeOf83 O (oNl' (zB (sL [2] O) (zA (zF (ret_one O (Ai (i:=2) (cs:=fxL g1) O O isAgg83 sizeOf83 O) (λw hw=>EH (a:=(g1:FX (Jp z))) hw (inS hw 0 O lg1) O))))))
theorem F3 {r0:Rat} (x0:FX r0) {r1:Rat} (x1:FX r1):Instr.fill ([(0,3),(3,3)].toArray[·]?) ([(qa false),jj,jj,(qa false),jj,jj]).toArray [(0,.agg (fxL x0).toArray),(1,.agg (fxL x1).toArray)]=some (fxL x0++fxL x1).toArray:=by kernel_rfl
theorem X9 (p:PD) (h:p.ok) (w:World) {S:Nat->Prop}  :Calls prog 48 #[(aG (En p))] w (Ad (PX (G4 p)) S w):=by
 have h1:=h.1
 have h2:=h.2
 refine Ab (args:=[(aG (En p))]) func48 O O (Av O) (zN (sL [0] O) (q4 (Bb (cs:=En p) O λb1=>al P6 O λb2=>q6 (sL [1,2] O) (CQ [(0,true),(1,true),(3,true),(4,true),(2,false),(5,false),(6,true),(7,false)] (sl sr) (Aj (v:=(pP b1 0)) O (AA O underlying96 O sizeOf94 O) (Eo 0 (JB p.x) UB O (Aj (v:=(pP b1 2)) O (AA O underlying96 O sizeOf94 O) (Eo 0 (JB p.y) UB O (zK O ?_)))))))))
 refine cF (S:=S) (x:=(Jp p.x)) (args:=[(aG (JB p.x))]) call112 (λw hw=>Ss p.x (by assumption) w) O O O λg1 lg1=>zD (sl (sl (sl sr))) (zK O (cF (S:=S) (x:=(Jp p.y)) (args:=[(aG (JB p.y))]) call112 (λw hw=>Ss p.y (by assumption) w) O O O λg2 lg2=>zD (sl (sl (sl (sl (sl sr))))) (Aj (v:=(aG (fxL g1++fxL g2))) O (AT (zs:=[(qa false),jj,jj,(qa false),jj,jj]) (vs:=fxL g1++fxL g2) (pv:=[(0,(aG (fxL g1))),(1,(aG (fxL g2)))]) (places:=[(0,3),(3,3)]) zeroValue121 underlying121 (λw=>by simp [sizeOf83]) O (F3 g1 g2)) (zK O (Ek 4 (off:=0) (vs:=fxL g1++fxL g2) (cs':=fxL g1++fxL g2) (AJ O) O sizeOf121 O (zD (sl (sl (sl (sl (sl sr))))) (zT (zB (sL [2] O) (zA ?_)))))))))
 exact zF (ret_one O (Ai (i:=4) (cs:=fxL g1++fxL g2) O O isAgg121 sizeOf121 O) (λw hw=>EH (a:=((PX.mk g1 g2:PX (⟨Jp p.x,Jp p.y⟩:Pt)):PX (G4 p))) hw (dh (inS hw 2 O lg1) (inS hw 0 O lg2)) O))
end
section
set_option maxRecDepth 100000
theorem Cy {r0:Rat} (x0:FX r0) {r1:Rat} (x1:FX r1):Instr.fill ([(0,3),(3,3)].toArray[·]?) ([(qa false),jj,jj,(qa false),jj,jj]).toArray [(0,.agg (fxL x0).toArray),(1,.agg (fxL x1).toArray)]=some (fxL x0++fxL x1).toArray:=by kernel_rfl
theorem Vw {x y:Pt} (a:PX x) (b:PX y) (hs:DU x+DU y<=2097152) (w:World) {S:Nat->Prop} (ha:Ro S w a) (hb:Ro S w b)  :Calls prog 114 #[(aG (C2 a)),(aG (C2 b))] w (Ad (PX (x+y)) S w):=by
 have sxx:=Dw x
 have sxy:=Dv x
 have syx:=Dw y
 have syy:=Dv y
 have la:=Bx (W:=w) ha
 have lb:=Bx (W:=w) hb
 refine AX (args:=[(aG (C2 a)),(aG (C2 b))]) (L:=[Bj a.x.z.n,Bj a.x.m,Bj a.y.z.n,Bj a.y.m,Bj b.x.z.n,Bj b.x.m,Bj b.y.z.n,Bj b.y.m]) func114 O O (Av O) (US ha (US hb Ah)) (zN (sL [0,1] O) (q4 (Bb (cs:=C2 a) O λb1=>Bb (cs:=C2 b) O λb2=>al P6 O λb3=>q6 (sL [2,3,4] O) (CQ (Db 4++[(5,true),(6,true),(7,true),(8,true),(4,false),(9,false),(10,true),(11,false)]) (sl sr) (Aj (v:=(pP b1 0)) O (AA O underlying121 O sizeOf83 O) (Eo 1 (fxL a.x) Cw O (Aj (v:=(pP b2 0)) O (AA O underlying121 O sizeOf83 O) (Eo 0 (fxL b.x) Cw O ?_))))))))
 refine Aj (v:=(pP b1 3)) O (AA O underlying121 O sizeOf83 O) (Eo 1 (fxL a.y) Cw O (Aj (v:=(pP b2 3)) O (AA O underlying121 O sizeOf83 O) (Eo 0 (fxL b.y) Cw O (zK O ?_))))
 have hz1:=E_ x.x y.x
 refine cF (S:=S) (x:=(x.x+y.x)) (args:=[(aG (fxL a.x)),(aG (fxL b.x))]) call96 (λw hw=>KX a.x b.x (by (try simp only [Cb]);omega) w (XQ (inS hw 3 O la)) (XQ (inS hw 7 O lb))) O O O λg1 lg1=>zD (sl (sl (sl sr))) (zK O ?_)
 have hz2:=E_ x.y y.y
 exact cF (S:=S) (x:=(x.y+y.y)) (args:=[(aG (fxL a.y)),(aG (fxL b.y))]) call96 (λw hw=>KX a.y b.y (by (try simp only [Cb]);omega) w (ZG (inS hw 5 O la)) (ZG (inS hw 9 O lb))) O O O λg2 lg2=>zD (sl (sl (sl (sl (sl sr))))) (Aj (v:=(aG (fxL g1++fxL g2))) O (AT (zs:=[(qa false),jj,jj,(qa false),jj,jj]) (vs:=fxL g1++fxL g2) (pv:=[(0,(aG (fxL g1))),(1,(aG (fxL g2)))]) (places:=[(0,3),(3,3)]) zeroValue121 underlying121 (λw=>by simp [sizeOf83]) O (Cy g1 g2)) (zK O (Ek 4 (off:=0) (vs:=fxL g1++fxL g2) (cs':=fxL g1++fxL g2) (AJ O) O sizeOf121 O (zD (sl (sl (sl (sl (sl sr))))) (zT (zB (sL [4] O) (zA (zF (ret_one O (Ai (i:=4) (cs:=fxL g1++fxL g2) O O isAgg121 sizeOf121 O) (λw hw=>EH (a:=((PX.mk g1 g2:PX (⟨x.x+y.x,x.y+y.y⟩:Pt)):PX (x+y))) hw (dh (inS hw 2 O lg1) (inS hw 0 O lg2)) O))))))))))
theorem LD {x y:Pt} (a:PX x) (b:PX y) (hs:DU x+DU y<=2097152) (w:World) {S:Nat->Prop} (ha:Ro S w a) (hb:Ro S w b)  :Calls prog 116 #[(aG (C2 a)),(aG (C2 b))] w (Ad (PX (x-y)) S w):=by
 have sxx:=Dw x
 have sxy:=Dv x
 have syx:=Dw y
 have syy:=Dv y
 have la:=Bx (W:=w) ha
 have lb:=Bx (W:=w) hb
 refine AX (args:=[(aG (C2 a)),(aG (C2 b))]) (L:=[Bj a.x.z.n,Bj a.x.m,Bj a.y.z.n,Bj a.y.m,Bj b.x.z.n,Bj b.x.m,Bj b.y.z.n,Bj b.y.m]) func116 O O (Av O) (US ha (US hb Ah)) (zN (sL [0,1] O) (q4 (Bb (cs:=C2 a) O λb1=>Bb (cs:=C2 b) O λb2=>al P6 O λb3=>q6 (sL [2,3,4] O) (CQ (Db 4++[(5,true),(6,true),(7,true),(8,true),(4,false),(9,false),(10,true),(11,false)]) (sl sr) (Aj (v:=(pP b1 0)) O (AA O underlying121 O sizeOf83 O) (Eo 1 (fxL a.x) Cw O (Aj (v:=(pP b2 0)) O (AA O underlying121 O sizeOf83 O) (Eo 0 (fxL b.x) Cw O ?_))))))))
 refine Aj (v:=(pP b1 3)) O (AA O underlying121 O sizeOf83 O) (Eo 1 (fxL a.y) Cw O (Aj (v:=(pP b2 3)) O (AA O underlying121 O sizeOf83 O) (Eo 0 (fxL b.y) Cw O (zK O ?_))))
 have hz1:=II x.x y.x
 refine cF (S:=S) (x:=(x.x-y.x)) (args:=[(aG (fxL a.x)),(aG (fxL b.x))]) call127 (λw hw=>Og a.x b.x (by (try simp only [Cb]);omega) w (XQ (inS hw 3 O la)) (XQ (inS hw 7 O lb))) O O O λg1 lg1=>zD (sl (sl (sl sr))) (zK O ?_)
 have hz2:=II x.y y.y
 exact cF (S:=S) (x:=(x.y-y.y)) (args:=[(aG (fxL a.y)),(aG (fxL b.y))]) call127 (λw hw=>Og a.y b.y (by (try simp only [Cb]);omega) w (ZG (inS hw 5 O la)) (ZG (inS hw 9 O lb))) O O O λg2 lg2=>zD (sl (sl (sl (sl (sl sr))))) (Aj (v:=(aG (fxL g1++fxL g2))) O (AT (zs:=[(qa false),jj,jj,(qa false),jj,jj]) (vs:=fxL g1++fxL g2) (pv:=[(0,(aG (fxL g1))),(1,(aG (fxL g2)))]) (places:=[(0,3),(3,3)]) zeroValue121 underlying121 (λw=>by simp [sizeOf83]) O (Cy g1 g2)) (zK O (Ek 4 (off:=0) (vs:=fxL g1++fxL g2) (cs':=fxL g1++fxL g2) (AJ O) O sizeOf121 O (zD (sl (sl (sl (sl (sl sr))))) (zT (zB (sL [4] O) (zA (zF (ret_one O (Ai (i:=4) (cs:=fxL g1++fxL g2) O O isAgg121 sizeOf121 O) (λw hw=>EH (a:=((PX.mk g1 g2:PX (⟨x.x-y.x,x.y-y.y⟩:Pt)):PX (x-y))) hw (dh (inS hw 2 O lg1) (inS hw 0 O lg2)) O))))))))))
theorem RJ {x:Pt} {q:Rat} (a:PX x) (k:FX q) (hs:DU x+Sz q<=2097152) (w:World) {S:Nat->Prop} (ha:Ro S w a) (hk:Ro S w k)  :Calls prog 115 #[(aG (C2 a)),(aG (fxL k))] w (Ad (PX (CE x q)) S w):=by
 have sxx:=Dw x
 have sxy:=Dv x
 have la:=Bx (W:=w) ha
 have lk:=Bx (W:=w) hk
 refine AX (args:=[(aG (C2 a)),(aG (fxL k))]) (L:=[Bj a.x.z.n,Bj a.x.m,Bj a.y.z.n,Bj a.y.m,Bj k.z.n,Bj k.m]) func115 O O (Av O) (US ha (N2 hk Ah)) (zN (sL [0,1] O) (q4 (Bb (cs:=C2 a) O λb1=>Bb (cs:=fxL k) O λb2=>al P6 O λb3=>q6 (sL [2,3,4] O) (CQ [(0,true),(1,true),(2,true),(4,true),(5,true),(6,true),(3,false),(7,false),(8,true),(9,false)] (sl sr) (Aj (v:=(pP b1 0)) O (AA O underlying121 O sizeOf83 O) (Eo 1 (fxL a.x) Cw O (EC 0 Cw O (Aj (v:=(pP b1 3)) O (AA O underlying121 O sizeOf83 O) ?_))))))))
 refine Eo 1 (fxL a.y) Cw O (EC 0 Cw O (zK O ?_))
 have hz1:=Eg x.x q
 refine cF (S:=S) (x:=(x.x*q)) (args:=[(aG (fxL a.x)),(aG (fxL k))]) call98 (λw hw=>I8 a.x k (by (try simp only [Cb]);omega) w (XQ (inS hw 3 O la)) (inS hw 7 O lk)) O O O λg1 lg1=>zD (sl (sl (sl sr))) (zK O ?_)
 have hz2:=Eg x.y q
 exact cF (S:=S) (x:=(x.y*q)) (args:=[(aG (fxL a.y)),(aG (fxL k))]) call98 (λw hw=>I8 a.y k (by (try simp only [Cb]);omega) w (ZG (inS hw 5 O la)) (inS hw 9 O lk)) O O O λg2 lg2=>zD (sl (sl (sl (sl (sl sr))))) (Aj (v:=(aG (fxL g1++fxL g2))) O (AT (zs:=[(qa false),jj,jj,(qa false),jj,jj]) (vs:=fxL g1++fxL g2) (pv:=[(0,(aG (fxL g1))),(1,(aG (fxL g2)))]) (places:=[(0,3),(3,3)]) zeroValue121 underlying121 (λw=>by simp [sizeOf83]) O (Cy g1 g2)) (zK O (Ek 4 (off:=0) (vs:=fxL g1++fxL g2) (cs':=fxL g1++fxL g2) (AJ O) O sizeOf121 O (zD (sl (sl (sl (sl (sl sr))))) (zT (zB (sL [4] O) (zA (zF (ret_one O (Ai (i:=4) (cs:=fxL g1++fxL g2) O O isAgg121 sizeOf121 O) (λw hw=>EH (a:=((PX.mk g1 g2:PX (⟨x.x*q,x.y*q⟩:Pt)):PX (CE x q))) hw (dh (inS hw 2 O lg1) (inS hw 0 O lg2)) O))))))))))
theorem Un {x y:Pt} (a:PX x) (b:PX y) (hs:DU x+DU y<=2097152) (w:World) {S:Nat->Prop} (ha:Ro S w a) (hb:Ro S w b)  :Calls prog 125 #[(aG (C2 a)),(aG (C2 b))] w (Ad (FX (Cz x y)) S w):=by
 have sxx:=Dw x
 have sxy:=Dv x
 have syx:=Dw y
 have syy:=Dv y
 have la:=Bx (W:=w) ha
 have lb:=Bx (W:=w) hb
 refine AX (args:=[(aG (C2 a)),(aG (C2 b))]) (L:=[Bj a.x.z.n,Bj a.x.m,Bj a.y.z.n,Bj a.y.m,Bj b.x.z.n,Bj b.x.m,Bj b.y.z.n,Bj b.y.m]) func125 O O (Av O) (US ha (US hb Ah)) (zN (sL [0,1] O) (q4 (Bb (cs:=C2 a) O λb1=>Bb (cs:=C2 b) O λb2=>al Ib O λb3=>q6 (sL [2,3,4] O) (CQ (Db 4++[(5,true),(6,true),(7,true),(8,true),(4,false),(9,false),(10,false),(11,false)]) (sl sr) (Aj (v:=(pP b1 0)) O (AA O underlying121 O sizeOf83 O) (Eo 1 (fxL a.x) Cw O (Aj (v:=(pP b2 0)) O (AA O underlying121 O sizeOf83 O) (Eo 0 (fxL b.x) Cw O ?_))))))))
 refine Aj (v:=(pP b1 3)) O (AA O underlying121 O sizeOf83 O) (Eo 1 (fxL a.y) Cw O (Aj (v:=(pP b2 3)) O (AA O underlying121 O sizeOf83 O) (Eo 0 (fxL b.y) Cw O (zK O ?_))))
 have hz1:=Eg x.x y.x
 refine cF (S:=S) (x:=(x.x*y.x)) (args:=[(aG (fxL a.x)),(aG (fxL b.x))]) call98 (λw hw=>I8 a.x b.x (by (try simp only [Cb]);omega) w (XQ (inS hw 3 O la)) (XQ (inS hw 7 O lb))) O O O λg1 lg1=>zD (sl (sl (sl sr))) (zK O ?_)
 have hz2:=Eg x.y y.y
 refine cF (S:=S) (x:=(x.y*y.y)) (args:=[(aG (fxL a.y)),(aG (fxL b.y))]) call98 (λw hw=>I8 a.y b.y (by (try simp only [Cb]);omega) w (ZG (inS hw 5 O la)) (ZG (inS hw 9 O lb))) O O O λg2 lg2=>zD (sl (sl (sl (sl (sl sr))))) (zK O ?_)
 have hz3:=E_ (x.x*y.x) (x.y*y.y)
 exact cF (S:=S) (x:=((x.x*y.x)+(x.y*y.y))) (args:=[(aG (fxL g1)),(aG (fxL g2))]) call96 (λw hw=>KX g1 g2 (by (try simp only [Cb]);omega) w (inS hw 2 O lg1) (inS hw 0 O lg2)) O O O λg3 lg3=>zD (sl (sl (sl (sl (sl (sl (sl sr))))))) (zK O (Ek 6 (off:=0) (vs:=fxL g3) (cs':=fxL g3) (AJ O) O sizeOf83 O (zD (sl (sl (sl (sl (sl (sl (sl sr))))))) (zT (zB (sL [4] O) (zA (zF (ret_one O (Ai (i:=6) (cs:=fxL g3) O O isAgg83 sizeOf83 O) (λw hw=>EH (a:=(g3:FX (Cz x y))) hw (inS hw 0 O lg3) O)))))))))
theorem HR {x y:Pt} (a:PX x) (b:PX y) (hs:DU x+DU y<=262144) (w:World) {S:Nat->Prop} (ha:Ro S w a) (hb:Ro S w b)  :Calls prog 74 #[(aG (C2 a)),(aG (C2 b))] w (Ad (FX (Cz (x-y) (x-y))) S w):=by
 have la:=Bx (W:=w) ha
 have lb:=Bx (W:=w) hb
 refine AX (args:=[(aG (C2 a)),(aG (C2 b))]) (L:=[Bj a.x.z.n,Bj a.x.m,Bj a.y.z.n,Bj a.y.m,Bj b.x.z.n,Bj b.x.m,Bj b.y.z.n,Bj b.y.m]) func74 O O (Av O) (US ha (US hb Ah)) (zN (sL [0,1] O) (q4 (Bb (cs:=C2 a) O λb1=>Bb (cs:=C2 b) O λb2=>al Ib O λb3=>q6 (sL [2,3,4] O) (CQ [(0,true),(1,true),(3,true),(4,true),(2,false),(5,false),(6,false),(7,false)] (sl sr) (EC 1 FE O (EC 0 FE O (EC 1 FE O (EC 0 FE O ?_))))))))
 refine zK O ?_
 have hz1:=FK x y
 refine cP (S:=S) (x:=(x-y)) (args:=[(aG (C2 a)),(aG (C2 b))]) call116 (λw hw=>LD a b Z w (inS hw 3 O la) (inS hw 7 O lb)) O O O λg1 lg1=>zD (sl (sl (sl (sl (sl sr))))) (zK O ?_)
 have hz2:=FK x y
 refine cP (S:=S) (x:=(x-y)) (args:=[(aG (C2 a)),(aG (C2 b))]) call116 (λw hw=>LD a b Z w (inS hw 7 O la) (inS hw 11 O lb)) O O O λg2 lg2=>zD (sl (sl (sl (sl (sl (sl (sl (sl (sl sr))))))))) (zK O ?_)
 have hz3:=IT (x-y) (x-y)
 exact cF (S:=S) (x:=(Cz (x-y) (x-y))) (args:=[(aG (C2 g1)),(aG (C2 g2))]) call125 (λw hw=>Un g1 g2 Z w (inS hw 4 O lg1) (inS hw 0 O lg2)) O O O λg3 lg3=>zD (sl (sl (sl (sl (sl (sl (sl (sl (sl (sl (sl sr))))))))))) (zK O (Ek 10 (off:=0) (vs:=fxL g3) (cs':=fxL g3) (AJ O) O sizeOf83 O (zD (sl (sl (sl (sl (sl (sl (sl (sl (sl (sl (sl sr))))))))))) (zT (zB (sL [4] O) (zA (zF (ret_one O (Ai (i:=10) (cs:=fxL g3) O O isAgg83 sizeOf83 O) (λw hw=>EH (a:=(g3:FX (Cz (x-y) (x-y)))) hw (inS hw 0 O lg3) O)))))))))
end
section
set_option maxRecDepth 100000
theorem Zw:ElemT prog 37 119 3 24:=⟨underlying37,D9 jV⟩
theorem J_ (x0:Tq3):Instr.fill (λi=>some (i*3,3)) ((Array.range (1*3)).map ((Value.agg (Ac jJ).toArray).cells[·%(Value.agg (Ac jJ).toArray).cells.size]!)) [(0,.agg (Ac x0).toArray)]=some (Ac x0).toArray:=by kernel_rfl
set_option maxHeartbeats 2000000 in
theorem Wh {N:Nat} {ts ss:List T3} (x:RM N ts ss) (hnb:Bu N ts=true) (hl:ts.length<=1000000) (hN:N<=4096) (w:World) {S:Nat->Prop} (hx:Ro S w x):Calls prog 59 #[(aG (Dk x))] w (CS (MO (T:=119) (z:=3) (cs:=rowsL Ac (GW ts)) (n:=(GW ts).length)) (Oy (T:=119) (z:=3) (cs:=rowsL Ac (GW ts)) (n:=(GW ts).length)) S w):=by
 have lx:=Bx (W:=w) hx
 refine AX (args:=[(aG (Dk x))]) (L:=[AB x.a.p (x.cs),AB x.b.p (rowsL Ac ts),AB x.c.p (x.ds)]) func59 O O (Av O) (DF hx Ah) (zN (sL [0] O) (q4 (Bb (cs:=Dk x) O λb1=>asg' O (q3 (sL [1,2] O) (asg' O (zf 119 3 (oNl' (q1 (q4 (BD 1 Cp O ?_))))))))))
 refine Ct call45 (λw hw=>OS x hnb hl Z w (inS hw 2 O lx)) O (AG (BQ (c:=false) O O) O (oNl' (zB (sL [1,2,3,10] O) (zA (zb O (zG (q1 (q4 (asg' O (oNl' (zB (sL [1,2,3,4] O) ?_)))))))))))
 refine zA (zI ?_)
 refine yO (tg λ(ai:Nat) (p1:Option Addr) (c1:Nat) (ou:List T3)=>ai<=N/\OwnOk p1 ou.length c1/\ou.length<=ai*4096/\ou=RK ts N ai) (tg λ(ai:Nat) (p1:Option Addr) (c1:Nat) (ou:List T3)=>[(1,(pP b1 0)),(2,jj),(4,(vN ai)),(3,(qw p1 ou.length c1))]) (tg λ(ai:Nat) (p1:Option Addr) (c1:Nat) (ou:List T3)=>[rowW p1 119 3 ou.length c1 (rowsL Ac ou),AR b1 39 (Dk x),AB x.a.p (x.cs),AB x.b.p (rowsL Ac ts),AB x.c.p (x.ds)]) (tg λ(ai:Nat) (p1:Option Addr) (c1:Nat) (ou:List T3)=>N-ai) 0 none 0 ([]:List T3) (⟨xH _,OwnOk.none,by simp,rfl⟩) (sF O) sr (λai p1 c1 ou hJ=>?_)
 obtain ⟨hai,h1,hln,hou⟩:=hJ
 refine zV (q4 (AM O (AG (v:=(pP b1 0)) (AA O underlying39 O sizeOf36 O) O (Az 1 (qw x.a.p N x.a.c) Ez O (AG (v:=(vN N)) (AC O underlying36) O (AG (Ae (c:=(decide (ai<N))) O O (CM (a:=ai) (b:=N))) O (oNl' (zB (sL [1,2,4,3,16] O) (zA ?_)))))))))
 refine zM O (λhc1=>?_) (λhc1=>?_)
 ·replace hc1:=xR hc1
  refine zG (q1 (zI (q4 (AM O (AG (AW (c:=((ai+1:Nat):Int)) O O (AU (a:=ai) (b:=1) Z)) O (asg' O (oNl' (zB (sL [1,2,4,3,5] O) (zA (zI ?_))))))))))
  refine yO (tg λ(bi:Nat) (p2:Option Addr) (c2:Nat) (oq:List T3)=>bi<=N/\ai+1<=bi/\OwnOk p2 oq.length c2/\oq.length<=ai*4096+(bi-(ai+1))/\oq=RK ts N ai++It ts ai (bi-(ai+1))) (tg λ(bi:Nat) (p2:Option Addr) (c2:Nat) (oq:List T3)=>[(1,(pP b1 0)),(2,jj),(4,(vN ai)),(5,(vN bi)),(3,(qw p2 oq.length c2))]) (tg λ(bi:Nat) (p2:Option Addr) (c2:Nat) (oq:List T3)=>[rowW p2 119 3 oq.length c2 (rowsL Ac oq),AR b1 39 (Dk x),AB x.a.p (x.cs),AB x.b.p (rowsL Ac ts),AB x.c.p (x.ds)]) (tg λ(bi:Nat) (p2:Option Addr) (c2:Nat) (oq:List T3)=>N-bi) (ai+1) p1 c1 ou (⟨Z,Nat.le_refl _,h1,Z,by rw [hou,Nat.sub_self];exact (List.append_nil _).symm⟩) (sF O) sr (λbi p2 c2 oq hJ=>?_)
  obtain ⟨hbi,hba,h2,hlq,hsq⟩:=hJ
  refine zV (q4 (AM O (AG (v:=(pP b1 0)) (AA O underlying39 O sizeOf36 O) O (Az 1 (qw x.a.p N x.a.c) Ez O (AG (v:=(vN N)) (AC O underlying36) O (AG (Ae (c:=(decide (bi<N))) O O (CM (a:=bi) (b:=N))) O (oNl' (zB (sL [1,2,4,5,3,25] O) (zA ?_)))))))))
  refine zM O (λhc2=>?_) (λhc2=>?_)
  ·replace hc2:=xR hc2
   refine zG (q1 (zI (q4 (asg' O (oNl' (q1 (q4 (asg' O (oNl' (zA (zI ?_)))))))))))
   refine yA (tg λ(ti:Nat) (cn:Nat)=>ti<=ts.length/\cn<=ti/\cn=Iq ts ai bi ti) (tg λ(ti:Nat) (cn:Nat)=>[(1,(pP b1 0)),(2,jj),(4,(vN ai)),(5,(vN bi)),(3,(qw p2 oq.length c2)),(7,(vN ti)),(6,(vN cn))]) (tg λ(ti:Nat) (cn:Nat)=>[rowW p2 119 3 oq.length c2 (rowsL Ac oq),AR b1 39 (Dk x),AB x.a.p (x.cs),AB x.b.p (rowsL Ac ts),AB x.c.p (x.ds)]) (tg λ(ti:Nat) (cn:Nat)=>ts.length-ti) 0 0 (⟨xH _,Nat.le_refl _,rfl⟩) (sF O) sr (λti cn hJ=>?_)
   obtain ⟨hti,hcn,hcw⟩:=hJ
   refine zV (q4 (AM O (AG (v:=(pP b1 1)) (AA O underlying39 O sizeOf23 O) O (Az 1 (qw x.b.p ts.length x.b.c) B1 O (AG (v:=(vN ts.length)) (AC O underlying23) O (AG (Ae (c:=(decide (ti<ts.length))) O O (CM (a:=ti) (b:=ts.length))) O (oNl' (zB (sL [1,2,4,5,3,7,6,32] O) (zA ?_)))))))))
   refine zM O (λhc3=>?_) (λhc3=>?_)
   ·replace hc3:=xR hc3
    refine zG (q1 (zI (q4 (AG (v:=(pP b1 1)) (AA O underlying39 O sizeOf23 O) O (Az 1 (qw x.b.p ts.length x.b.c) B1 O (AM O (AG (v:=(pP (pB x.b.p) (pO x.b.p+ti*3))) (AF (j:=ti) O O x.b.ok underlying23 sizeOf105 O Z) O (AG (v:=(aG (Ac (ts.getD ti jJ)))) (AQ (vs:=Ac (ts.getD ti jJ)) (i:=3) O O (An.ne x.b.ok Z) B_ (Al Am _ _ _ Z) (Am _)) O (AM O (AM O (ck' call111 (KV (ts.getD ti jJ) ai bi) O ?_)))))))))))
    refine AM O ?_
    refine zX (FM:=[(1,(pP b1 0)),(2,jj),(4,(vN ai)),(5,(vN bi)),(3,(qw p2 oq.length c2)),(7,(vN ti)),(6,(vN cn)),(35,(pP b1 1)),(36,(qw x.b.p ts.length x.b.c)),(37,(vN ti)),(38,(pP (pB x.b.p) (pO x.b.p+ti*3))),(39,(aG (Ac (ts.getD ti jJ)))),(40,(vN ai)),(41,(vN bi)),(42,(qa (EP (ts.getD ti jJ) ai bi))),(43,(qa (EP (ts.getD ti jJ) ai bi))),(52,(qa ((EP (ts.getD ti jJ) ai bi)||(EP (ts.getD ti jJ) bi ai))))]) (LM:=[rowW p2 119 3 oq.length c2 (rowsL Ac oq),AR b1 39 (Dk x),AB x.a.p (x.cs),AB x.b.p (rowsL Ac ts),AB x.c.p (x.ds)]) 9 ?_ ?_
    ·rcases xO (EP (ts.getD ti jJ) ai bi) with hg1|hg1
     ·refine zC (k:=43) (u:=qa true) O (by rw [hg1]) ?_
      have hg1':=hg1
      skip
      exact Ar O (Ar O (Ar O (Ar O (Ar O (Ar O (Ar O (Ar O (AG (v:=(qa true)) (AN O O) O (oNl' (zR Bg (xP _)))))))))))
     ·refine zC (k:=43) (u:=qa false) O (by rw [hg1]) ?_
      have hg1':=hg1
      skip
      exact Au (v:=(pP b1 1)) O (AA O underlying39 O sizeOf23 O) (Au (v:=(qw x.b.p ts.length x.b.c)) O (AE (i:=1) (v:=(qw x.b.p ts.length x.b.c)) O O B1.a O) (Ds O (Au (v:=(pP (pB x.b.p) (pO x.b.p+ti*3))) O (AF (j:=ti) O O x.b.ok underlying23 sizeOf105 O Z) (Au (v:=(aG (Ac (ts.getD ti jJ)))) O (AQ (vs:=Ac (ts.getD ti jJ)) (i:=3) O O (An.ne x.b.ok Z) B_ (Al Am _ _ _ Z) (Am _)) (Ds O (Ds O (zd (v:=(qa (EP (ts.getD ti jJ) bi ai))) (AH O) (Aw (args:=[(aG (Ac (ts.getD ti jJ))),(vN bi),(vN ai)]) O O call111) (λw hw=>KV (ts.getD ti jJ) bi ai w) O (Av O) (AG (v:=(qa (EP (ts.getD ti jJ) bi ai))) (AI O O) O (oNl' (zR Bg (xP _)))))))))))
    refine oNl' (zB (sL [1,2,4,5,3,7,6,52] O) (zA ?_))
    refine zM O (λhc4=>?_) (λhc4=>?_)
    ·simp only [jK] at hc4
     refine zH (AM O (AG (AW (c:=((cn+1:Nat):Int)) O O (AU (a:=cn) (b:=1) Z)) O (asg' O (oNl' (zB (sL [1,2,4,5,3,7,6] O) (zJ (zA (zH (AM O (AG (AW (c:=((ti+1:Nat):Int)) O O (AU (a:=ti) (b:=1) Z)) O (asg' O ?_)))))))))))
     exact oNl' (zB (sL [1,2,4,5,3,7,6] O) (zn (ti+1) (cn+1) (⟨Z,Z,by rw [hcw];exact (WF (by first|exact hc4|simpa [Zb] using hc4)).symm⟩) Z (sF O) sr))
    ·simp only [jK] at hc4
     exact zG (zJ (zA (zH (AM O (AG (AW (c:=((ti+1:Nat):Int)) O O (AU (a:=ti) (b:=1) Z)) O (asg' O (oNl' (zB (sL [1,2,4,5,3,7,6] O) (zn (ti+1) cn (⟨Z,Z,by rw [hcw];exact (Yu (by first|exact hc4|simpa [Zb] using hc4)).symm⟩) Z (sF O) sr)))))))))
   ·replace hc3:=xQ hc3
    have htn:ti=ts.length:=by omega
    subst htn
    refine zU (zP (zi (zS (q2 (AM O (AG (BO (c:=(decide (cn=1))) O O (Mf (a:=cn) (b:=1))) O (oNl' (zB (sL [1,2,4,5,3,7,6,56] O) (zA ?_)))))))))
    refine zM O (λhc5=>?_) (λhc5=>?_)
    ·replace hc5:=xR hc5
     refine zH (AM O (AM O (AM O (AG (v:=(aG ([(vN ai),(vN bi),(vI 0)]))) (AT (zs:=Ac jJ) (vs:=[(vN ai),(vN bi),(vI 0)]) (pv:=[(0,(vN ai)),(1,(vN bi))]) (places:=[(0,1),(1,1),(2,1)]) zeroValue119 underlying119 (λw=>by simp [sizeOf3]) O O) O (zZ (V:=λb2=>(qw (jk b2) 1 1)) (T:=119) (cs:=Ac ((ai,bi,0):T3)) (AJ O) (Af (z:=.agg (Ac jJ).toArray) (cs:=Ac ((ai,bi,0):T3)) (pv:=[(0,(aG ([(vN ai),(vN bi),(vI 0)])))]) underlying37 sizeOf119 zeroValue119 jY jY O (J_ ((ai,bi,0):T3))) O (Av O) λb2=>yT (j:=0) (cs2:=rowsL Ac (oq++[((ai,bi,0):T3)])) Zw O h2 (AV Am _) O O O O jY (FD Z) Z (by rw [BI];rfl) O λp_1 c_1 ho_1 hne_1=>asg' O (oNl' (zB (sL [1,2,4,5,3,7,6] O) (zJ (zA ?_)))))))))
     refine zH (AM O (AG (AW (c:=((bi+1:Nat):Int)) O O (AU (a:=bi) (b:=1) Z)) O (asg' O (oNl' (zB (sL [1,2,4,5,3,7,6] O) ?_)))))
     rw [show oq.length+1=(oq++[((ai,bi,0):T3)]).length by simp]
     exact zu (bi+1) p_1 c_1 (oq++[((ai,bi,0):T3)]) (⟨Z,Z,(by simpa using ho_1),by rw [xJ];simp only [List.length_singleton];omega,(by rw [hsq,xw];congr 1;exact (Va Z (by rw [<-hcw];exact hc5)).symm)⟩) Z (sF O) (sl sr)
    ·replace hc5:=xQ hc5
     exact zG (zJ (zA (zH (AM O (AG (AW (c:=((bi+1:Nat):Int)) O O (AU (a:=bi) (b:=1) Z)) O (asg' O (oNl' (zB (sL [1,2,4,5,3,7,6] O) (zu (bi+1) p2 c2 oq (⟨Z,Z,h2,Z,(by rw [hsq];congr 1;exact (Xi Z (by rw [<-hcw];exact hc5)).symm)⟩) Z (sF O) sr)))))))))
  ·replace hc2:=xQ hc2
   have hbn:bi=N:=by omega
   exact zU (zP (zr (zS (zJ (zA (zH (AM O (AG (AW (c:=((ai+1:Nat):Int)) O O (AU (a:=ai) (b:=1) Z)) O (asg' O (oNl' (zB (sL [1,2,4,5,3] O) (zu (ai+1) p2 c2 oq (⟨Z,h2,Z,by rw [hsq,show bi=N by omega];rfl⟩) Z (sF O) sr))))))))))))
 ·replace hc1:=xQ hc1
  exact zU (zP (zr (zS (q2 (AM O (asg' O (oNl' (zB (sL [1,2,4,3] O) (zA (zF (ret_one O (rd_tmp (v:=(qw p1 ou.length c1)) O) (λw hw=>(by rw [show GW ts=ou by rw [hou,show ai=N by omega];exact (Sw hnb Z).symm];exact J6 hw (OX.mk p1 c1 h1) (sk (sl (sl (sl (sl sr))))) (GL.own O GL.nil) O)))))))))))))
end
end Go.Proofs.YtpolhpjiahbidaaGreatDoor
