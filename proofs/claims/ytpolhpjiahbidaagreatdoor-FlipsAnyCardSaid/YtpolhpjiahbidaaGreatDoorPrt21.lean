import Derived.Test.YtpolhpjiahbidaaGreatDoorPrt20
namespace Go.Proofs.YtpolhpjiahbidaaGreatDoor
open Go Go.RowKit Go.Proofs.Tryz
open Go.Value renaming slice→qz,bool→qa
set_option linter.unusedVariables false
set_option linter.unusedSimpArgs false
section
set_option maxRecDepth 100000
theorem Sj  (w:World) {S:Nat->Prop}  :Calls prog 199 #[] w (Ai (NX 1) S w):=by
 exact AS (args:=[]) func199 O O (leB O) (zM sN (q4 (asg' O (oNl' (q2 (cN (S:=S) (x:=1) (args:=[(Value.int .u64 (1:Int))]) call207 (λw hw=>Rs 1 (by first|omega|(simp only [Int.natAbs_neg];omega)) w) O O O λg1 lg1=>asg' O (oNl' (zF (sL [0] O) (zC (zH (ret_one O (rd_tmp (v:=(CL g1)) O) (λw hw=>DR (a:=(g1:NX 1)) hw (inS hw 0 O lg1) O))))))))))))
theorem qDen_ok {x:Rat} (a:FX x) (hs:Sz x<=16777216) (w:World) {S:Nat->Prop} (ha:Ro S w a)  :Calls prog 147 #[(aG (fxL a))] w (Ai (NX x.den) S w):=by
 have s0:=Cx x
 have s1:=Cc x
 have s2:=Fp x
 have h1w:=JQ
 have la:=Bq (W:=w) ha
 refine AR (args:=[(aG (fxL a))]) (L:=[BM a.z.n,BM a.m]) func147 O O (leB O) (OH ha Ae) (zM (sL [0] O) (q4 (BG (cs:=fxL a) O λb1=>asg' O (q6 (sL [1,2] O) (CE [(0,true),(1,true),(2,false),(3,false),(4,true)] sr (Ag (v:=(pP b1 2)) O (AA O underlying83 O sizeOf79 O) (BC 0 (CL a.m) GT O (zL O (cN (S:=S) (x:=1) (args:=[]) call199 (λw hw=>Sj w) O O O λg1 lg1=>zG (sl sr) ?_)))))))))
 exact zL O (cN (S:=S) (x:=x.den) (args:=[(CL a.m),(CL g1)]) call198 (λw hw=>(Ai.cast (T:=λi=>NX i) (Nat.sub_add_cancel x.den_pos) (S1 a.m g1 (by first|omega|(simp only [Int.natAbs_neg];omega)) (by first|omega|(simp only [Int.natAbs_neg];omega)) w (fz (inS hw 2 O la)) (inS hw 0 O lg1)))) O O O λg2 lg2=>zG (sl (sl sr)) (pS' O (zT (zF (sL [2] O) (zC (zH (ret_one O (rd_tmp (v:=(CL g2)) O) (λw hw=>DR (a:=(g2:NX x.den)) hw (inS hw 0 O lg2) O))))))))
theorem Sk {x:Rat} (a:FX x) (hs:Sz x<=16777216) (w:World) {S:Nat->Prop} (ha:Ro S w a)  :Calls prog 161 #[(aG (fxL a))] w (Ai (ZX ((x.den:Nat):Int)) S w):=by
 have la:=Bq (W:=w) ha
 refine AR (args:=[(aG (fxL a))]) (L:=[BM a.z.n,BM a.m]) func161 O O (leB O) (OH ha Ae) (zM (sL [0] O) (q4 (BG (cs:=fxL a) O λb1=>al UW O λb2=>q3 (sL [1,2] O) (An 1 B9 O (cN (S:=S) (x:=x.den) (args:=[(aG (fxL a))]) call147 (λw hw=>qDen_ok a Z w (inS hw 2 O la)) O O O λg1 lg1=>cZ (S:=S) (x:=((x.den:Nat):Int)) (args:=[(qa false),(CL g1)]) call163 (λw hw=>(Ai.cast (T:=λi=>ZX i) (show EG false x.den=_ from O) (Dy false g1 w (inS hw 0 O lg1)))) O O O λg2 lg2=>E_ O sizeOf81 O (oNl' (zF (sL [2] O) ?_)))))))
 exact zC (zH (ret_one O (Ah (i:=2) (cs:=DT g2) O O isAgg81 sizeOf81 O) (λw hw=>DR (a:=(g2:ZX ((x.den:Nat):Int))) hw (inS hw 0 O lg2) O)))
theorem Lg {n:Int} {k:Nat} (z:ZX n) (d:NX k) (hn:nw n.natAbs<=67108864) (hk:nw k<=67108864) (h0:k≠0) (w:World) {S:Nat->Prop} (hz:Ro S w z) (hd:Ro S w d)  :Calls prog 158 #[(aG (DT z)),(CL d)] w (Ai (FX (mkRat n k)) S w):=by
 have hg:0<Nat.gcd n.natAbs k:=Nat.pos_of_ne_zero λh=>h0 (Nat.eq_zero_of_gcd_eq_zero_right h)
 have hgw:nw (Nat.gcd n.natAbs k)<=nw k:=Ct (Nat.gcd_le_right _ (Nat.pos_of_ne_zero h0))
 have hqw:nw (k/Nat.gcd n.natAbs k)<=nw k:=Ct (Nat.div_le_self _ _)
 have hq1:1<=k/Nat.gcd n.natAbs k:=Nat.div_pos (Nat.gcd_le_right _ (Nat.pos_of_ne_zero h0)) hg
 have lz:=Bq (W:=w) hz
 have ld:=Bq (W:=w) hd
 refine AR (args:=[(aG (DT z)),(CL d)]) (L:=[BM z.n,BM d]) func158 O O (leB O) (Zq hz (e7 hd Ae)) (zM (sL [0,1] O) (q4 (BG (cs:=DT z) O λb1=>al Fo O λb2=>q3 (sL [1,2,4] O) (st' (v:=(pP b1 1)) (AA O underlying81 O sizeOf79 O) O (A_ 1 (CL z.n) GT O (AJ O (cN (S:=S) (x:=(Nat.gcd n.natAbs k)) (args:=[(CL z.n),(CL d)]) call208 (λw hw=>Z6 z.n d (by first|omega|(simp only [Int.natAbs_neg];omega)) (by first|omega|(simp only [Int.natAbs_neg];omega)) w (Pl (inS hw 2 O lz)) (inS hw 3 O ld)) O O O λg1 lg1=>asg' O (q3 (sL [1,2,4,5] O) ?_))))))))
 refine st' (v:=(pP b1 1)) (AA O underlying81 O sizeOf79 O) O (A_ 2 (CL z.n) GT O (AJ O (cD (S:=S) (u:=(n.natAbs/(Nat.gcd n.natAbs k))) (v:=(n.natAbs%(Nat.gcd n.natAbs k))) (args:=[(CL z.n),(CL g1)]) call209 (λw hw=>S2 z.n g1 hg Z Z w (Pl (inS hw 3 O lz)) (inS hw 0 O lg1)) O O O λg2 lg2=>AJ O (st' (AK (v:=(CL g2.q)) O O) O (st' (AK (v:=(CL g2.r)) O O) O (asg' O (asg' O (q3 (sL [1,2,4,5,6] O) (AJ O (AJ O ?_))))))))))
 refine cD (S:=S) (u:=(k/(Nat.gcd n.natAbs k))) (v:=(k%(Nat.gcd n.natAbs k))) (args:=[(CL d),(CL g1)]) call209 (λw hw=>S2 d g1 hg Z Z w (inS hw 6 O ld) (inS hw 2 O lg1)) O O O λg3 lg3=>AJ O (st' (AK (v:=(CL g3.q)) O O) O (st' (AK (v:=(CL g3.r)) O O) O (asg' O (asg' O (q3 (sL [1,2,4,5,6,8] O) (st' (v:=(pP b1 0)) (AA O underlying81 O sizeOf4 O) O (A_ 6 (qa (decide (n<0))) Kc O (AJ O (cZ (S:=S) (x:=((mkRat n k).num)) (args:=[(qa (decide (n<0))),(CL g2.q)]) call163 (λw hw=>(Ai.cast (T:=λi=>ZX i) (WX h0) (Dy (decide (n<0)) g2.q w (eA (inS hw 2 O lg2))))) O O O λg4 lg4=>AJ O ?_)))))))))
 exact cN (S:=S) (x:=1) (args:=[]) call199 (λw hw=>Sj w) O O O λg5 lg5=>cN (S:=S) (x:=((mkRat n k).den-1)) (args:=[(CL g3.q),(CL g5)]) call210 (λw hw=>(Ai.cast (T:=λi=>NX i) (WW h0) (OU g3.q g5 hq1 Z w (eA (inS hw 2 O lg3)) (inS hw 0 O lg5)))) O O O λg6 lg6=>st' (v:=(aG (DT g4++[(CL g6)]))) (AO (zs:=[(qa false),jj,jj]) (vs:=DT g4++[(CL g6)]) (pv:=[(0,(aG (DT g4))),(1,(CL g6))]) (places:=[(0,2),(2,1)]) zeroValue83 underlying83 (λw=>by simp [sizeOf79,sizeOf81]) O O) O (Ei 8 (off:=0) (vs:=DT g4++[(CL g6)]) (cs':=DT g4++[(CL g6)]) (AM O) O sizeOf83 O (oNl' (zF (sL [1,2,4,5] O) (zC (zH (ret_one O (Ah (i:=8) (cs:=DT g4++[(CL g6)]) O O isAgg83 sizeOf83 O) (λw hw=>DR (a:=((FX.mk g4 g6):FX (mkRat n k))) hw (eu (inS hw 2 O lg4) (inS hw 0 O lg6)) O)))))))
theorem H_ {r0:Int} (x0:ZX r0):Instr.fill ([(0,2),(2,1)].toArray[·]?) ([(qa false),jj,jj]).toArray [(0,.agg (DT x0).toArray)]=some (DT x0++[jj]).toArray:=by kernel_rfl
theorem D1 (z:Int) (hz:-9223372036854775808<=z) (hz2:z<9223372036854775808) (w:World) {S:Nat->Prop}  :Calls prog 94 #[(vI z)] w (Ai (FX ((z:Int):Rat)) S w):=by
 refine AS (args:=[(vI z)]) func94 O O (leB O) (zM (sL [0] O) (q4 (al Fo O λb1=>oNl' (q2 (AJ O (cZ (S:=S) (x:=(((z:Int):Rat).num)) (args:=[(vI z)]) call157 (λw hw=>(Ai.cast (T:=λi=>ZX i) (show z=((z:Int):Rat).num from O) (cx z Z Z w))) O O O λg1 lg1=>st' (v:=(aG (DT g1++[jj]))) (AO (zs:=[(qa false),jj,jj]) (vs:=DT g1++[jj]) (pv:=[(0,(aG (DT g1)))]) (places:=[(0,2),(2,1)]) zeroValue83 underlying83 (λw=>by simp [sizeOf79,sizeOf81]) O (H_ g1)) O (CP O sizeOf83 O (oNl' (zF (sL [2] O) ?_)))))))))
 exact zC (zH (ret_one O (Ah (i:=1) (cs:=DT g1++[jj]) O O isAgg83 sizeOf83 O) (λw hw=>DR (a:=((FX.mk g1 NX.zero):FX ((z:Int):Rat))) hw (eu (inS hw 0 O lg1) cJ) O)))
theorem Li {x:Rat} (a:FX x) (w:World) {S:Nat->Prop} (ha:Ro S w a)  :Calls prog 126 #[(aG (fxL a))] w (AX w (vI x.num.sign)):=by
 have la:=Bq (W:=w) ha
 refine AR (args:=[(aG (fxL a))]) (L:=[BM a.z.n,BM a.m]) func126 O O (leB O) (OH ha Ae) (zM (sL [0] O) (q4 (BG (cs:=fxL a) O λb1=>asg' O (q3 (sL [1,2] O) (st' (v:=(pP b1 0)) (AA O underlying83 O sizeOf81 O) O (C9 0 (DT a.z) Py O (Bx call180 (λw hw=>X7 a.z w (YF (inS hw 1 O la))) O (asg' O (oNl' (zF (sL [2] O) ?_))))))))))
 exact zC (zH (ret_one O (rd_tmp (v:=(vI x.num.sign)) O) (λw hw=>⟨rfl,hw.out⟩)))
theorem ZY {x:Rat} (a:FX x) (w:World) {S:Nat->Prop} (ha:Ro S w a)  :Calls prog 181 #[(aG (fxL a))] w (Ai (FX (-x)) S w):=by
 have la:=Bq (W:=w) ha
 refine AR (args:=[(aG (fxL a))]) (L:=[BM a.z.n,BM a.m]) func181 O O (leB O) (OH ha Ae) (zM (sL [0] O) (q4 (BG (cs:=fxL a) O λb1=>al Fo O λb2=>q6 (sL [1,2] O) (CE [(0,true),(1,true),(3,true),(4,true),(2,false),(5,true),(6,false)] (sl sr) (Ag (v:=(pP b1 0)) O (AA O underlying83 O sizeOf81 O) (Ef 0 (DT a.z) Py O (Ag (v:=(pP b1 2)) O (AA O underlying83 O sizeOf79 O) (BC 0 (CL a.m) GT O (zL O ?_)))))))))
 exact cZ (S:=S) (x:=((-x).num)) (args:=[(aG (DT a.z))]) call219 (λw hw=>(Ai.cast (T:=λi=>ZX i) (Rat.neg_num x).symm (Z8 a.z w (YF (inS hw 2 O la))))) O O O λg1 lg1=>zG (sl (sl sr)) (Ag (v:=(aG (DT g1++[(CL a.m)]))) O (AO (zs:=[(qa false),jj,jj]) (vs:=DT g1++[(CL a.m)]) (pv:=[(0,(aG (DT g1))),(1,(CL a.m))]) (places:=[(0,2),(2,1)]) zeroValue83 underlying83 (λw=>by simp [sizeOf79,sizeOf81]) O O) (zL O (CP O sizeOf83 O (zG (sl (sl sr)) (zT (zF (sL [2] O) (zC (zH (ret_one O (Ah (i:=1) (cs:=DT g1++[(CL a.m)]) O O isAgg83 sizeOf83 O) (λw hw=>DR (a:=((FX.mk g1 a.m):FX (-x))) hw (eu (inS hw 0 O lg1) (fz (inS hw 3 O la))) O))))))))))
theorem Eo {x y:Rat} (a:FX x) (b:FX y) (hs:Sz x+Sz y<=16777216) (w:World) {S:Nat->Prop} (ha:Ro S w a) (hb:Ro S w b)  :Calls prog 96 #[(aG (fxL a)),(aG (fxL b))] w (Ai (FX (x+y)) S w):=by
 have s0:=Cx x
 have s1:=Cc x
 have s2:=Fp x
 have s3:=Cx y
 have s4:=Cc y
 have s5:=Fp y
 have s6:=CN x y
 have s7:=CN y x
 have s8:=GY x y
 have s9:=HF x y
 have s10:=D0 (x.num*((y.den:Nat):Int)) (y.num*((x.den:Nat):Int))
 have h0x:=x.den_nz
 have h0y:=y.den_nz
 have h0xy:=Nat.mul_ne_zero h0x h0y
 have la:=Bq (W:=w) ha
 have lb:=Bq (W:=w) hb
 refine AR (args:=[(aG (fxL a)),(aG (fxL b))]) (L:=[BM a.z.n,BM a.m,BM b.z.n,BM b.m]) func96 O O (leB O) (OH ha (OH hb Ae)) (zM (sL [0,1] O) (q4 (BG (cs:=fxL a) O λb1=>BG (cs:=fxL b) O λb2=>al Fo O λb3=>q6 (sL [2,3,4] O) (CE [(0,true),(1,true),(2,true),(5,true),(6,true),(7,true),(11,true),(13,true),(3,false),(4,false),(8,false),(9,false),(10,false),(12,false),(14,false),(15,false),(16,false),(17,false)] (sl sr) (Ag (v:=(pP b1 0)) O (AA O underlying83 O sizeOf81 O) (Ef 1 (DT a.z) Py O (C3 0 B9 O (Ag (v:=(pP b2 0)) O (AA O underlying83 O sizeOf81 O) ?_))))))))
 refine Ef 0 (DT b.z) Py O (C3 1 B9 O (C3 1 B9 O (C3 0 B9 O (zL O (cZ (S:=S) (x:=((y.den:Nat):Int)) (args:=[(aG (fxL b))]) call161 (λw hw=>Sk b Z w (inS hw 5 O lb)) O O O λg1 lg1=>zG (sl (sl sr)) (zL O (cZ (S:=S) (x:=(x.num*((y.den:Nat):Int))) (args:=[(aG (DT a.z)),(aG (DT g1))]) call160 (λw hw=>OV a.z g1 Z (by show nw y.den<=_;omega) w (YF (inS hw 4 O la)) (inS hw 0 O lg1)) O O O λg2 lg2=>zG (sl (sl (sl sr))) (zL O (cZ (S:=S) (x:=((x.den:Nat):Int)) (args:=[(aG (fxL a))]) call161 (λw hw=>Sk a Z w (inS hw 5 O la)) O O O λg3 lg3=>?_)))))))))
 refine zG (sl (sl (sl (sl sr)))) (zL O (cZ (S:=S) (x:=(y.num*((x.den:Nat):Int))) (args:=[(aG (DT b.z)),(aG (DT g3))]) call160 (λw hw=>OV b.z g3 Z (by show nw x.den<=_;omega) w (YF (inS hw 8 O lb)) (inS hw 0 O lg3)) O O O λg4 lg4=>zG (sl (sl (sl (sl (sl sr))))) (zL O (cZ (S:=S) (x:=((x.num*((y.den:Nat):Int))+(y.num*((x.den:Nat):Int)))) (args:=[(aG (DT g2)),(aG (DT g4))]) call159 (λw hw=>Z7 g2 g4 Z Z w (inS hw 2 O lg2) (inS hw 0 O lg4)) O O O λg5 lg5=>zG (sl (sl (sl (sl (sl (sl sr)))))) (zL O (cN (S:=S) (x:=x.den) (args:=[(aG (fxL a))]) call147 (λw hw=>qDen_ok a Z w (inS hw 8 O la)) O O O λg6 lg6=>zG (sl (sl (sl (sl (sl (sl (sl sr))))))) (zL O (cN (S:=S) (x:=y.den) (args:=[(aG (fxL b))]) call147 (λw hw=>qDen_ok b Z w (inS hw 11 O lb)) O O O λg7 lg7=>?_))))))))
 refine zG (sl (sl (sl (sl (sl (sl (sl (sl sr)))))))) (zL O (cN (S:=S) (x:=(x.den*y.den)) (args:=[(CL g6),(CL g7)]) call162 (λw hw=>OT g6 g7 (by first|omega|(simp only [Int.natAbs_neg];omega)) (by first|omega|(simp only [Int.natAbs_neg];omega)) w (inS hw 1 O lg6) (inS hw 0 O lg7)) O O O λg8 lg8=>zG (sl (sl (sl (sl (sl (sl (sl (sl (sl sr))))))))) (zL O (cF (S:=S) (x:=(x+y)) (args:=[(aG (DT g5)),(CL g8)]) call158 (λw hw=>(Ai.cast (T:=λi=>FX i) (HY x y) (Lg g5 g8 Z Z h0xy w (inS hw 3 O lg5) (inS hw 0 O lg8)))) O O O λg9 lg9=>zG (sl (sl (sl (sl (sl (sl (sl (sl (sl (sl (sl sr))))))))))) (zL O (Ei 10 (off:=0) (vs:=fxL g9) (cs':=fxL g9) (AM O) O sizeOf83 O (zG (sl (sl (sl (sl (sl (sl (sl (sl (sl (sl (sl sr))))))))))) (zT (zF (sL [4] O) ?_)))))))))
 exact zC (zH (ret_one O (Ah (i:=10) (cs:=fxL g9) O O isAgg83 sizeOf83 O) (λw hw=>DR (a:=(g9:FX (x+y))) hw (inS hw 0 O lg9) O)))
theorem Hl {x y:Rat} (a:FX x) (b:FX y) (hs:Sz x+Sz y<=16777216) (w:World) {S:Nat->Prop} (ha:Ro S w a) (hb:Ro S w b)  :Calls prog 127 #[(aG (fxL a)),(aG (fxL b))] w (Ai (FX (x-y)) S w):=by
 have la:=Bq (W:=w) ha
 have lb:=Bq (W:=w) hb
 refine AR (args:=[(aG (fxL a)),(aG (fxL b))]) (L:=[BM a.z.n,BM a.m,BM b.z.n,BM b.m]) func127 O O (leB O) (OH ha (OH hb Ae)) (zM (sL [0,1] O) (q4 (BG (cs:=fxL a) O λb1=>BG (cs:=fxL b) O λb2=>al Fo O λb3=>q6 (sL [2,3,4] O) (CE [(0,true),(1,true),(2,false),(3,false),(4,false)] (sl sr) (C3 1 B9 O (C3 0 B9 O (zL O (cF (S:=S) (x:=(-y)) (args:=[(aG (fxL b))]) call181 (λw hw=>ZY b w (inS hw 5 O lb)) O O O λg1 lg1=>?_))))))))
 refine zG (sl (sl (sl sr))) (zL O ?_)
 have hz1:=Cb x (-y)
 exact cF (S:=S) (x:=(x-y)) (args:=[(aG (fxL a)),(aG (fxL g1))]) call96 (λw hw=>(Ai.cast (T:=λi=>FX i) (Rat.sub_eq_add_neg x y).symm (Eo a g1 (by (try simp only [BO]);omega) w (inS hw 5 O la) (inS hw 0 O lg1)))) O O O λg2 lg2=>zG (sl (sl (sl (sl (sl sr))))) (zL O (Ei 4 (off:=0) (vs:=fxL g2) (cs':=fxL g2) (AM O) O sizeOf83 O (zG (sl (sl (sl (sl (sl sr))))) (zT (zF (sL [4] O) (zC (zH (ret_one O (Ah (i:=4) (cs:=fxL g2) O O isAgg83 sizeOf83 O) (λw hw=>DR (a:=(g2:FX (x-y))) hw (inS hw 0 O lg2) O)))))))))
theorem D4 {x y:Rat} (a:FX x) (b:FX y) (hs:Sz x+Sz y<=16777216) (w:World) {S:Nat->Prop} (ha:Ro S w a) (hb:Ro S w b)  :Calls prog 98 #[(aG (fxL a)),(aG (fxL b))] w (Ai (FX (x*y)) S w):=by
 have s0:=Cx x
 have s1:=Cc x
 have s2:=Fp x
 have s3:=Cx y
 have s4:=Cc y
 have s5:=Fp y
 have s6:=CN x y
 have s7:=CN y x
 have s8:=GY x y
 have s9:=HF x y
 have s10:=D0 (x.num*((y.den:Nat):Int)) (y.num*((x.den:Nat):Int))
 have h0x:=x.den_nz
 have h0y:=y.den_nz
 have h0xy:=Nat.mul_ne_zero h0x h0y
 have la:=Bq (W:=w) ha
 have lb:=Bq (W:=w) hb
 refine AR (args:=[(aG (fxL a)),(aG (fxL b))]) (L:=[BM a.z.n,BM a.m,BM b.z.n,BM b.m]) func98 O O (leB O) (OH ha (OH hb Ae)) (zM (sL [0,1] O) (q4 (BG (cs:=fxL a) O λb1=>BG (cs:=fxL b) O λb2=>al Fo O λb3=>q6 (sL [2,3,4] O) (CE (Dm 4++[(5,true),(7,true),(4,false),(6,false),(8,false),(9,false),(10,false),(11,false)]) (sl sr) (Ag (v:=(pP b1 0)) O (AA O underlying83 O sizeOf81 O) (Ef 1 (DT a.z) Py O (Ag (v:=(pP b2 0)) O (AA O underlying83 O sizeOf81 O) (Ef 0 (DT b.z) Py O ?_))))))))
 refine C3 1 B9 O (C3 0 B9 O (zL O (cZ (S:=S) (x:=(x.num*y.num)) (args:=[(aG (DT a.z)),(aG (DT b.z))]) call160 (λw hw=>OV a.z b.z Z Z w (YF (inS hw 3 O la)) (YF (inS hw 5 O lb))) O O O λg1 lg1=>zG (sl (sl sr)) (zL O (cN (S:=S) (x:=x.den) (args:=[(aG (fxL a))]) call147 (λw hw=>qDen_ok a Z w (inS hw 4 O la)) O O O λg2 lg2=>zG (sl (sl (sl sr))) (zL O (cN (S:=S) (x:=y.den) (args:=[(aG (fxL b))]) call147 (λw hw=>qDen_ok b Z w (inS hw 7 O lb)) O O O λg3 lg3=>zG (sl (sl (sl (sl sr)))) (zL O ?_))))))))
 exact cN (S:=S) (x:=(x.den*y.den)) (args:=[(CL g2),(CL g3)]) call162 (λw hw=>OT g2 g3 (by first|omega|(simp only [Int.natAbs_neg];omega)) (by first|omega|(simp only [Int.natAbs_neg];omega)) w (inS hw 1 O lg2) (inS hw 0 O lg3)) O O O λg4 lg4=>zG (sl (sl (sl (sl (sl sr))))) (zL O (cF (S:=S) (x:=(x*y)) (args:=[(aG (DT g1)),(CL g4)]) call158 (λw hw=>(Ai.cast (T:=λi=>FX i) (JL x y) (Lg g1 g4 Z Z h0xy w (inS hw 3 O lg1) (inS hw 0 O lg4)))) O O O λg5 lg5=>zG (sl (sl (sl (sl (sl (sl (sl sr))))))) (zL O (Ei 6 (off:=0) (vs:=fxL g5) (cs':=fxL g5) (AM O) O sizeOf83 O (zG (sl (sl (sl (sl (sl (sl (sl sr))))))) (zT (zF (sL [4] O) (zC (zH (ret_one O (Ah (i:=6) (cs:=fxL g5) O O isAgg83 sizeOf83 O) (λw hw=>DR (a:=(g5:FX (x*y))) hw (inS hw 0 O lg5) O)))))))))))
theorem FB (a b:Rat):Sz (a/b)<=Sz a+Sz b:=by
 by_cases h:b=0
 ·subst h;rw [Rat.div_def,Rat.inv_zero,Rat.mul_zero];have h1:=QO a;exact xx (show Sz (0:Rat)<=1 by decide +kernel) Z
 ·exact I7 h
theorem K2  :Instr.fill ([(0,2),(2,1)].toArray[·]?) ([(qa false),jj,jj]).toArray []=some ([(qa false),jj,jj]).toArray:=by kernel_rfl
theorem Hk {x y:Rat} (a:FX x) (b:FX y) (hs:Sz x+Sz y<=16777216) (w:World) {S:Nat->Prop} (ha:Ro S w a) (hb:Ro S w b)  :Calls prog 97 #[(aG (fxL a)),(aG (fxL b))] w (Ai (FX (x/y)) S w):=by
 have s0:=Cx x
 have s1:=Cc x
 have s2:=Fp x
 have s3:=Cx y
 have s4:=Cc y
 have s5:=Fp y
 have s6:=CN x y
 have s7:=CN y x
 have s8:=GY x y
 have s9:=HF x y
 have s10:=D0 (x.num*((y.den:Nat):Int)) (y.num*((x.den:Nat):Int))
 have h0x:=x.den_nz
 have h0y:=y.den_nz
 have h0xy:=Nat.mul_ne_zero h0x h0y
 have la:=Bq (W:=w) ha
 have lb:=Bq (W:=w) hb
 refine AR (args:=[(aG (fxL a)),(aG (fxL b))]) (L:=[BM a.z.n,BM a.m,BM b.z.n,BM b.m]) func97 O O (leB O) (OH ha (OH hb Ae)) (zM (sL [0,1] O) (q4 (BG (cs:=fxL a) O λb1=>BG (cs:=fxL b) O λb2=>al Fo O λb3=>q6 (sL [2,3,4] O) (q4 (An 1 B9 O (Bx call126 (λw hw=>Li b w (inS hw 5 O lb)) O (st' (A9 (c:=(decide (y.num.sign=(0:Int)))) O O O) O (oNl' ?_))))))))
 refine zF (sL [2,3,4,7] O) (zC ?_)
 refine zO O (λhc0=>?_) (λhc0=>?_)
 ·replace hc0:=xR hc0
  exact q4 (st' (v:=(aG ([(qa false),jj,jj]))) (AO (zs:=[(qa false),jj,jj]) (vs:=[(qa false),jj,jj]) (pv:=[]) (places:=[(0,2),(2,1)]) zeroValue83 underlying83 (λw=>by simp [sizeOf79,sizeOf81]) O (K2 )) O (Aj O sizeOf83 O (oNl' (zF (sL [2,3,4] O) (zC (zH (zI (ret_one O (Ah (i:=0) (cs:=[(qa false),jj,jj]) O O isAgg83 sizeOf83 O) (λw hw=>(by rw [<-Vo (a:=x) hc0];exact DR (a:=FX.zero) hw (eu (gZ cJ) cJ) O))))))))))
 ·replace hc0:=xQ hc0
  have hy:y≠0:=λe=>hc0 (by rw [e];rfl)
  have hi:=QN hy
  have hyn:y.num.natAbs≠0:=λe=>hy (Rat.num_eq_zero.1 Z)
  refine zJ (q1 (CE (Dm 5++[(7,true),(8,true),(9,true),(5,false),(6,false),(10,false),(11,false),(12,false)]) (sl sr) (C3 1 B9 O (Ag (v:=(pP b2 0)) O (AA O underlying83 O sizeOf81 O) (Ag (v:=(pP b2 0)) O (AA O underlying81 O sizeOf4 O) (BC 0 (qa (decide (y.num<0))) Kc O (C3 0 B9 O (Ag (v:=(pP b2 0)) O (AA O underlying83 O sizeOf81 O) (Ag (v:=(pP b2 1)) O (AA O underlying81 O sizeOf79 O) (BC 0 (CL b.z.n) GT O (zL O ?_)))))))))))
  refine cN (S:=S) (x:=y.den) (args:=[(aG (fxL b))]) call147 (λw hw=>qDen_ok b Z w (inS hw 5 O lb)) O O O λg1 lg1=>zG (sl (sl sr)) (zL O (cZ (S:=S) (x:=(EG (decide (y.num<0)) y.den)) (args:=[(qa (decide (y.num<0))),(CL g1)]) call163 (λw hw=>Dy (decide (y.num<0)) g1 w (inS hw 0 O lg1)) O O O λg2 lg2=>zG (sl (sl (sl sr))) (zL O (cF (S:=S) (x:=(y⁻¹)) (args:=[(aG (DT g2)),(CL b.z.n)]) call158 (λw hw=>(Ai.cast (T:=λi=>FX i) (fd hy) (Lg g2 b.z.n (by rw [Ax];omega) Z hyn w (inS hw 0 O lg2) (Pl (YF (inS hw 7 O lb)))))) O O O λg3 lg3=>zG (sl (sl (sl (sl (sl sr))))) (zL O ?_)))))
  have hz1:=Bo x (y⁻¹)
  exact cF (S:=S) (x:=(x/y)) (args:=[(aG (fxL a)),(aG (fxL g3))]) call98 (λw hw=>(Ai.cast (T:=λi=>FX i) Yh (D4 a g3 (by (try simp only [BO]);omega) w (inS hw 7 O la) (inS hw 0 O lg3)))) O O O λg4 lg4=>zG (sl (sl (sl (sl (sl (sl (sl sr))))))) (zL O (Ei 6 (off:=0) (vs:=fxL g4) (cs':=fxL g4) (AM O) O sizeOf83 O (zG (sl (sl (sl (sl (sl (sl (sl sr))))))) (zT (zF (sL [3,4] O) (zC (zH (ret_one O (Ah (i:=6) (cs:=fxL g4) O O isAgg83 sizeOf83 O) (λw hw=>DR (a:=(g4:FX (x/y))) hw (inS hw 0 O lg4) O)))))))))
theorem ZW {x y:Rat} (a:FX x) (b:FX y) (hs:Sz x+Sz y<=16777216) (w:World) {S:Nat->Prop} (ha:Ro S w a) (hb:Ro S w b)  :Calls prog 75 #[(aG (fxL a)),(aG (fxL b))] w (AX w (vI (E5 x y))):=by
 have la:=Bq (W:=w) ha
 have lb:=Bq (W:=w) hb
 refine AR (args:=[(aG (fxL a)),(aG (fxL b))]) (L:=[BM a.z.n,BM a.m,BM b.z.n,BM b.m]) func75 O O (leB O) (OH ha (OH hb Ae)) (zM (sL [0,1] O) (q4 (BG (cs:=fxL a) O λb1=>BG (cs:=fxL b) O λb2=>asg' O (q3 (sL [2,3,4] O) (An 1 B9 O (An 0 B9 O ?_))))))
 have hz1:=EK x y
 exact cF (S:=S) (x:=(x-y)) (args:=[(aG (fxL a)),(aG (fxL b))]) call127 (λw hw=>Hl a b (by (try simp only [BO]);omega) w (inS hw 2 O la) (inS hw 4 O lb)) O O O λg1 lg1=>Bx call126 (λw hw=>Li g1 w (inS hw 0 O lg1)) O (asg' O (oNl' (zF (sL [4] O) (zC (zH (ret_one O (rd_tmp (v:=(vI ((x-y).num.sign))) O) (λw hw=>⟨by rw [fP],hw.out⟩)))))))
theorem cE (n d:Int) (h1:-9223372036854775808<=n) (h2:n<9223372036854775808) (h3:-9223372036854775808<=d) (h4:d<9223372036854775808) (w:World) {S:Nat->Prop}  :Calls prog 117 #[(vI n),(vI d)] w (Ai (FX (((n:Int):Rat)/((d:Int):Rat))) S w):=by
 have s1:=H4 h1 h2
 have s2:=H4 h3 h4
 refine AS (args:=[(vI n),(vI d)]) func117 O O (leB O) (zM (sL [0,1] O) (q4 (al Fo O λb1=>oNl' (q2 (AJ O (cF (S:=S) (x:=((n:Int):Rat)) (args:=[(vI n)]) call94 (λw hw=>D1 n Z Z w) O O O λg1 lg1=>AJ O (cF (S:=S) (x:=((d:Int):Rat)) (args:=[(vI d)]) call94 (λw hw=>D1 d Z Z w) O O O λg2 lg2=>?_)))))))
 have hz1:=FB ((n:Int):Rat) ((d:Int):Rat)
 exact cF (S:=S) (x:=(((n:Int):Rat)/((d:Int):Rat))) (args:=[(aG (fxL g1)),(aG (fxL g2))]) call97 (λw hw=>Hk g1 g2 (by (try simp only [BO]);omega) w (inS hw 2 O lg1) (inS hw 0 O lg2)) O O O λg3 lg3=>Ei 6 (off:=0) (vs:=fxL g3) (cs':=fxL g3) (AM O) O sizeOf83 O (oNl' (zF (sL [4] O) (zC (zH (ret_one O (Ah (i:=6) (cs:=fxL g3) O O isAgg83 sizeOf83 O) (λw hw=>DR (a:=(g3:FX (((n:Int):Rat)/((d:Int):Rat)))) hw (inS hw 0 O lg3) O))))))
theorem Pj {x:Rat} (a:FX x) (hs:Sz x<=16777216) (w:World) {S:Nat->Prop} (ha:Ro S w a)  :Calls prog 87 #[(aG (fxL a))] w (AX w (Value.string (txB (KA x)))):=by
 have s0:=Cx x
 have s1:=Cc x
 have s2:=Fp x
 have hl1:=Sx x.num
 have hl2:=JA x.den
 have la:=Bq (W:=w) ha
 refine AR (args:=[(aG (fxL a))]) (L:=[BM a.z.n,BM a.m]) func87 O O (leB O) (OH ha Ae) (zM (sL [0] O) (q4 (BG (cs:=fxL a) O λb1=>asg' O (q6 (sL [1,2] O) (q4 (st' (v:=(pP b1 2)) (AA O underlying83 O sizeOf79 O) O (A_ 0 (CL a.m) GT O (st' (v:=(vN ((dg (x.den-1)).length))) (AD O underlying79) O (st' (A9 (c:=(decide (((dg (x.den-1)).length)=0))) O O (MA (a:=(dg (x.den-1)).length) (b:=0))) O (oNl' ?_))))))))))
 refine zF (sL [1,2,6] O) (zC ?_)
 refine zO O (λhc0=>?_) (λhc0=>?_)
 ·replace hc0:=xR hc0
  have he:KA x=txI x.num:=by unfold KA;rw [if_pos (PU hc0)]
  exact q4 (st' (v:=(pP b1 0)) (AA O underlying83 O sizeOf81 O) O (C9 0 (DT a.z) Py O (Bx call145 (λw hw=>QC a.z Z w (YF (inS hw 1 O la))) O (asg' O (oNl' (zF (sL [1,2] O) (zC (zH (zI (ret_one O (rd_tmp (v:=(Value.string (txB (txI x.num)))) O) (λw hw=>⟨by rw [he],hw.out⟩)))))))))))
 ·replace hc0:=xQ hc0
  have he:KA x=txI x.num++[47]++Lib.decDigits x.den:=by unfold KA;rw [if_neg (Ie hc0),List.append_assoc];rfl
  refine zJ (q1 (CE [(0,true),(1,true),(4,true),(2,false),(3,true),(5,false),(6,false),(7,true),(8,true)] sr (Ag (v:=(pP b1 0)) O (AA O underlying83 O sizeOf81 O) (Ef 0 (DT a.z) Py O (C3 0 B9 O (zL O (Bx call145 (λw hw=>QC a.z Z w (YF (inS hw 1 O la))) O (zG sr (Ag (v:=(Value.string (txB (txI x.num++[47])))) O (Bw (r:=(txB (txI x.num++[47]))) O O (by rw [CG];show _+1<=_;omega) (Cj _ [47])) (zL O (cN (S:=S) (x:=x.den) (args:=[(aG (fxL a))]) call147 (λw hw=>qDen_ok a Z w (inS hw 1 O la)) O O O λg1 lg1=>?_)))))))))))
  exact zG (sl sr) (zL O (Bx call146 (λw hw=>L_ g1 (by first|omega|(simp only [Int.natAbs_neg];omega)) w (inS hw 0 O lg1)) O (zG (sl sr) (Ag (v:=(Value.string (txB (txI x.num++[47]++Lib.decDigits x.den)))) O (Bw (r:=(txB (txI x.num++[47]++Lib.decDigits x.den))) O O (by rw [CG,CG,xw];show _+1+_<=_;omega) (Cj _ _)) (pS' O (zT (zF (sL [1,2] O) (zC (zH (ret_one O (rd_tmp (v:=(Value.string (txB (txI x.num++[47]++Lib.decDigits x.den)))) O) (λw hw=>⟨by rw [he],hw.out⟩)))))))))))
end
section
set_option maxRecDepth 100000
theorem Ry (z:QD) (h:z.ok) (w:World) {S:Nat->Prop}  :Calls prog 112 #[(aG (Ir z))] w (Ai (FX (Lh z)) S w):=by
 obtain ⟨h1,h2,h3⟩:=h
 refine AS (args:=[(aG (Ir z))]) func112 O O (leB O) (zM (sL [0] O) (q4 (BG (cs:=Ir z) O λb1=>al Fo O λb2=>q3 (sL [1,2] O) (st' (v:=(pP b1 0)) (AA O underlying94 O sizeOf2 O) O (A_ 1 (vI z.n) e8 O (st' (v:=(pP b1 1)) (AA O underlying94 O sizeOf92 O) O (A_ 1 (vK .u32 z.d) ch O (st' (E6 (c:=((max z.d 1:Nat):Int)) O O (by split<;>omega)) O (st' (A6 (c:=((max z.d 1:Nat):Int)) O underlying92 underlying2 (Ec Z)) O ?_)))))))))
 exact cF (S:=S) (x:=(Lh z)) (args:=[(vI z.n),(vN (max z.d 1))]) call117 (λw hw=>(Ai.cast (T:=λi=>FX i) O (cE z.n ((max z.d 1:Nat):Int) Z Z Z Z w))) O O O λg1 lg1=>E_ O sizeOf83 O (oNl' (zF (sL [2] O) (zC (zH (ret_one O (Ah (i:=2) (cs:=fxL g1) O O isAgg83 sizeOf83 O) (λw hw=>DR (a:=(g1:FX (Lh z))) hw (inS hw 0 O lg1) O))))))
theorem F8 {r0:Rat} (x0:FX r0) {r1:Rat} (x1:FX r1):Instr.fill ([(0,3),(3,3)].toArray[·]?) ([(qa false),jj,jj,(qa false),jj,jj]).toArray [(0,.agg (fxL x0).toArray),(1,.agg (fxL x1).toArray)]=some (fxL x0++fxL x1).toArray:=by kernel_rfl
theorem YN (p:PD) (h:p.ok) (w:World) {S:Nat->Prop}  :Calls prog 48 #[(aG (F0 p))] w (Ai (PX (HH p)) S w):=by
 have h1:=h.1
 have h2:=h.2
 refine AS (args:=[(aG (F0 p))]) func48 O O (leB O) (zM (sL [0] O) (q4 (BG (cs:=F0 p) O λb1=>al FA O λb2=>q6 (sL [1,2] O) (CE [(0,true),(1,true),(3,true),(4,true),(2,false),(5,false),(6,true),(7,false)] (sl sr) (Ag (v:=(pP b1 0)) O (AA O underlying96 O sizeOf94 O) (Ef 0 (Ir p.x) UU O (Ag (v:=(pP b1 2)) O (AA O underlying96 O sizeOf94 O) (Ef 0 (Ir p.y) UU O (zL O ?_)))))))))
 refine cF (S:=S) (x:=(Lh p.x)) (args:=[(aG (Ir p.x))]) call112 (λw hw=>Ry p.x (by assumption) w) O O O λg1 lg1=>zG (sl (sl (sl sr))) (zL O (cF (S:=S) (x:=(Lh p.y)) (args:=[(aG (Ir p.y))]) call112 (λw hw=>Ry p.y (by assumption) w) O O O λg2 lg2=>zG (sl (sl (sl (sl (sl sr))))) (Ag (v:=(aG (fxL g1++fxL g2))) O (AO (zs:=[(qa false),jj,jj,(qa false),jj,jj]) (vs:=fxL g1++fxL g2) (pv:=[(0,(aG (fxL g1))),(1,(aG (fxL g2)))]) (places:=[(0,3),(3,3)]) zeroValue121 underlying121 (λw=>by simp [sizeOf83]) O (F8 g1 g2)) (zL O (Ei 4 (off:=0) (vs:=fxL g1++fxL g2) (cs':=fxL g1++fxL g2) (AM O) O sizeOf121 O (zG (sl (sl (sl (sl (sl sr))))) (zT (zF (sL [2] O) (zC ?_)))))))))
 exact zH (ret_one O (Ah (i:=4) (cs:=fxL g1++fxL g2) O O isAgg121 sizeOf121 O) (λw hw=>DR (a:=((PX.mk g1 g2:PX (⟨Lh p.x,Lh p.y⟩:Pt)):PX (HH p))) hw (YD (inS hw 2 O lg1) (inS hw 0 O lg2)) O))
end
section
set_option maxRecDepth 100000
theorem Du {r0:Rat} (x0:FX r0) {r1:Rat} (x1:FX r1):Instr.fill ([(0,3),(3,3)].toArray[·]?) ([(qa false),jj,jj,(qa false),jj,jj]).toArray [(0,.agg (fxL x0).toArray),(1,.agg (fxL x1).toArray)]=some (fxL x0++fxL x1).toArray:=by kernel_rfl
theorem XO {x y:Pt} (a:PX x) (b:PX y) (hs:BV x+BV y<=2097152) (w:World) {S:Nat->Prop} (ha:Ro S w a) (hb:Ro S w b)  :Calls prog 114 #[(aG (BU a)),(aG (BU b))] w (Ai (PX (x+y)) S w):=by
 have sxx:=Cp x
 have sxy:=Cq x
 have syx:=Cp y
 have syy:=Cq y
 have la:=Bq (W:=w) ha
 have lb:=Bq (W:=w) hb
 refine AR (args:=[(aG (BU a)),(aG (BU b))]) (L:=[BM a.x.z.n,BM a.x.m,BM a.y.z.n,BM a.y.m,BM b.x.z.n,BM b.x.m,BM b.y.z.n,BM b.y.m]) func114 O O (leB O) (Kb ha (Kb hb Ae)) (zM (sL [0,1] O) (q4 (BG (cs:=BU a) O λb1=>BG (cs:=BU b) O λb2=>al FA O λb3=>q6 (sL [2,3,4] O) (CE (Dm 4++[(5,true),(6,true),(7,true),(8,true),(4,false),(9,false),(10,true),(11,false)]) (sl sr) (Ag (v:=(pP b1 0)) O (AA O underlying121 O sizeOf83 O) (Ef 1 (fxL a.x) B9 O (Ag (v:=(pP b2 0)) O (AA O underlying121 O sizeOf83 O) (Ef 0 (fxL b.x) B9 O ?_))))))))
 refine Ag (v:=(pP b1 3)) O (AA O underlying121 O sizeOf83 O) (Ef 1 (fxL a.y) B9 O (Ag (v:=(pP b2 3)) O (AA O underlying121 O sizeOf83 O) (Ef 0 (fxL b.y) B9 O (zL O ?_))))
 have hz1:=Cb x.x y.x
 refine cF (S:=S) (x:=(x.x+y.x)) (args:=[(aG (fxL a.x)),(aG (fxL b.x))]) call96 (λw hw=>Eo a.x b.x (by (try simp only [BO]);omega) w (UL (inS hw 3 O la)) (UL (inS hw 7 O lb))) O O O λg1 lg1=>zG (sl (sl (sl sr))) (zL O ?_)
 have hz2:=Cb x.y y.y
 exact cF (S:=S) (x:=(x.y+y.y)) (args:=[(aG (fxL a.y)),(aG (fxL b.y))]) call96 (λw hw=>Eo a.y b.y (by (try simp only [BO]);omega) w (Um (inS hw 5 O la)) (Um (inS hw 9 O lb))) O O O λg2 lg2=>zG (sl (sl (sl (sl (sl sr))))) (Ag (v:=(aG (fxL g1++fxL g2))) O (AO (zs:=[(qa false),jj,jj,(qa false),jj,jj]) (vs:=fxL g1++fxL g2) (pv:=[(0,(aG (fxL g1))),(1,(aG (fxL g2)))]) (places:=[(0,3),(3,3)]) zeroValue121 underlying121 (λw=>by simp [sizeOf83]) O (Du g1 g2)) (zL O (Ei 4 (off:=0) (vs:=fxL g1++fxL g2) (cs':=fxL g1++fxL g2) (AM O) O sizeOf121 O (zG (sl (sl (sl (sl (sl sr))))) (zT (zF (sL [4] O) (zC (zH (ret_one O (Ah (i:=4) (cs:=fxL g1++fxL g2) O O isAgg121 sizeOf121 O) (λw hw=>DR (a:=((PX.mk g1 g2:PX (⟨x.x+y.x,x.y+y.y⟩:Pt)):PX (x+y))) hw (YD (inS hw 2 O lg1) (inS hw 0 O lg2)) O))))))))))
theorem E2 {x y:Pt} (a:PX x) (b:PX y) (hs:BV x+BV y<=2097152) (w:World) {S:Nat->Prop} (ha:Ro S w a) (hb:Ro S w b)  :Calls prog 116 #[(aG (BU a)),(aG (BU b))] w (Ai (PX (x-y)) S w):=by
 have sxx:=Cp x
 have sxy:=Cq x
 have syx:=Cp y
 have syy:=Cq y
 have la:=Bq (W:=w) ha
 have lb:=Bq (W:=w) hb
 refine AR (args:=[(aG (BU a)),(aG (BU b))]) (L:=[BM a.x.z.n,BM a.x.m,BM a.y.z.n,BM a.y.m,BM b.x.z.n,BM b.x.m,BM b.y.z.n,BM b.y.m]) func116 O O (leB O) (Kb ha (Kb hb Ae)) (zM (sL [0,1] O) (q4 (BG (cs:=BU a) O λb1=>BG (cs:=BU b) O λb2=>al FA O λb3=>q6 (sL [2,3,4] O) (CE (Dm 4++[(5,true),(6,true),(7,true),(8,true),(4,false),(9,false),(10,true),(11,false)]) (sl sr) (Ag (v:=(pP b1 0)) O (AA O underlying121 O sizeOf83 O) (Ef 1 (fxL a.x) B9 O (Ag (v:=(pP b2 0)) O (AA O underlying121 O sizeOf83 O) (Ef 0 (fxL b.x) B9 O ?_))))))))
 refine Ag (v:=(pP b1 3)) O (AA O underlying121 O sizeOf83 O) (Ef 1 (fxL a.y) B9 O (Ag (v:=(pP b2 3)) O (AA O underlying121 O sizeOf83 O) (Ef 0 (fxL b.y) B9 O (zL O ?_))))
 have hz1:=EK x.x y.x
 refine cF (S:=S) (x:=(x.x-y.x)) (args:=[(aG (fxL a.x)),(aG (fxL b.x))]) call127 (λw hw=>Hl a.x b.x (by (try simp only [BO]);omega) w (UL (inS hw 3 O la)) (UL (inS hw 7 O lb))) O O O λg1 lg1=>zG (sl (sl (sl sr))) (zL O ?_)
 have hz2:=EK x.y y.y
 exact cF (S:=S) (x:=(x.y-y.y)) (args:=[(aG (fxL a.y)),(aG (fxL b.y))]) call127 (λw hw=>Hl a.y b.y (by (try simp only [BO]);omega) w (Um (inS hw 5 O la)) (Um (inS hw 9 O lb))) O O O λg2 lg2=>zG (sl (sl (sl (sl (sl sr))))) (Ag (v:=(aG (fxL g1++fxL g2))) O (AO (zs:=[(qa false),jj,jj,(qa false),jj,jj]) (vs:=fxL g1++fxL g2) (pv:=[(0,(aG (fxL g1))),(1,(aG (fxL g2)))]) (places:=[(0,3),(3,3)]) zeroValue121 underlying121 (λw=>by simp [sizeOf83]) O (Du g1 g2)) (zL O (Ei 4 (off:=0) (vs:=fxL g1++fxL g2) (cs':=fxL g1++fxL g2) (AM O) O sizeOf121 O (zG (sl (sl (sl (sl (sl sr))))) (zT (zF (sL [4] O) (zC (zH (ret_one O (Ah (i:=4) (cs:=fxL g1++fxL g2) O O isAgg121 sizeOf121 O) (λw hw=>DR (a:=((PX.mk g1 g2:PX (⟨x.x-y.x,x.y-y.y⟩:Pt)):PX (x-y))) hw (YD (inS hw 2 O lg1) (inS hw 0 O lg2)) O))))))))))
theorem IJ {x y:Pt} (a:PX x) (b:PX y) (hs:BV x+BV y<=2097152) (w:World) {S:Nat->Prop} (ha:Ro S w a) (hb:Ro S w b)  :Calls prog 144 #[(aG (BU a)),(aG (BU b))] w (Ai (FX (Ar x y)) S w):=by
 have sxx:=Cp x
 have sxy:=Cq x
 have syx:=Cp y
 have syy:=Cq y
 have la:=Bq (W:=w) ha
 have lb:=Bq (W:=w) hb
 refine AR (args:=[(aG (BU a)),(aG (BU b))]) (L:=[BM a.x.z.n,BM a.x.m,BM a.y.z.n,BM a.y.m,BM b.x.z.n,BM b.x.m,BM b.y.z.n,BM b.y.m]) func144 O O (leB O) (Kb ha (Kb hb Ae)) (zM (sL [0,1] O) (q4 (BG (cs:=BU a) O λb1=>BG (cs:=BU b) O λb2=>al Fo O λb3=>q6 (sL [2,3,4] O) (CE (Dm 4++[(5,true),(6,true),(7,true),(8,true),(4,false),(9,false),(10,false),(11,false)]) (sl sr) (Ag (v:=(pP b1 0)) O (AA O underlying121 O sizeOf83 O) (Ef 1 (fxL a.x) B9 O (Ag (v:=(pP b2 3)) O (AA O underlying121 O sizeOf83 O) (Ef 0 (fxL b.y) B9 O ?_))))))))
 refine Ag (v:=(pP b1 3)) O (AA O underlying121 O sizeOf83 O) (Ef 1 (fxL a.y) B9 O (Ag (v:=(pP b2 0)) O (AA O underlying121 O sizeOf83 O) (Ef 0 (fxL b.x) B9 O (zL O ?_))))
 have hz1:=Bo x.x y.y
 refine cF (S:=S) (x:=(x.x*y.y)) (args:=[(aG (fxL a.x)),(aG (fxL b.y))]) call98 (λw hw=>D4 a.x b.y (by (try simp only [BO]);omega) w (UL (inS hw 3 O la)) (Um (inS hw 7 O lb))) O O O λg1 lg1=>zG (sl (sl (sl sr))) (zL O ?_)
 have hz2:=Bo x.y y.x
 refine cF (S:=S) (x:=(x.y*y.x)) (args:=[(aG (fxL a.y)),(aG (fxL b.x))]) call98 (λw hw=>D4 a.y b.x (by (try simp only [BO]);omega) w (Um (inS hw 5 O la)) (UL (inS hw 9 O lb))) O O O λg2 lg2=>zG (sl (sl (sl (sl (sl sr))))) (zL O ?_)
 have hz3:=EK (x.x*y.y) (x.y*y.x)
 exact cF (S:=S) (x:=((x.x*y.y)-(x.y*y.x))) (args:=[(aG (fxL g1)),(aG (fxL g2))]) call127 (λw hw=>Hl g1 g2 (by (try simp only [BO]);omega) w (inS hw 2 O lg1) (inS hw 0 O lg2)) O O O λg3 lg3=>zG (sl (sl (sl (sl (sl (sl (sl sr))))))) (zL O (Ei 6 (off:=0) (vs:=fxL g3) (cs':=fxL g3) (AM O) O sizeOf83 O (zG (sl (sl (sl (sl (sl (sl (sl sr))))))) (zT (zF (sL [4] O) (zC (zH (ret_one O (Ah (i:=6) (cs:=fxL g3) O O isAgg83 sizeOf83 O) (λw hw=>DR (a:=(g3:FX (Ar x y))) hw (inS hw 0 O lg3) O)))))))))
theorem HK {x y:Pt} (a:PX x) (b:PX y) (hs:BV x+BV y<=2097152) (w:World) {S:Nat->Prop} (ha:Ro S w a) (hb:Ro S w b)  :Calls prog 125 #[(aG (BU a)),(aG (BU b))] w (Ai (FX (Av x y)) S w):=by
 have sxx:=Cp x
 have sxy:=Cq x
 have syx:=Cp y
 have syy:=Cq y
 have la:=Bq (W:=w) ha
 have lb:=Bq (W:=w) hb
 refine AR (args:=[(aG (BU a)),(aG (BU b))]) (L:=[BM a.x.z.n,BM a.x.m,BM a.y.z.n,BM a.y.m,BM b.x.z.n,BM b.x.m,BM b.y.z.n,BM b.y.m]) func125 O O (leB O) (Kb ha (Kb hb Ae)) (zM (sL [0,1] O) (q4 (BG (cs:=BU a) O λb1=>BG (cs:=BU b) O λb2=>al Fo O λb3=>q6 (sL [2,3,4] O) (CE (Dm 4++[(5,true),(6,true),(7,true),(8,true),(4,false),(9,false),(10,false),(11,false)]) (sl sr) (Ag (v:=(pP b1 0)) O (AA O underlying121 O sizeOf83 O) (Ef 1 (fxL a.x) B9 O (Ag (v:=(pP b2 0)) O (AA O underlying121 O sizeOf83 O) (Ef 0 (fxL b.x) B9 O ?_))))))))
 refine Ag (v:=(pP b1 3)) O (AA O underlying121 O sizeOf83 O) (Ef 1 (fxL a.y) B9 O (Ag (v:=(pP b2 3)) O (AA O underlying121 O sizeOf83 O) (Ef 0 (fxL b.y) B9 O (zL O ?_))))
 have hz1:=Bo x.x y.x
 refine cF (S:=S) (x:=(x.x*y.x)) (args:=[(aG (fxL a.x)),(aG (fxL b.x))]) call98 (λw hw=>D4 a.x b.x (by (try simp only [BO]);omega) w (UL (inS hw 3 O la)) (UL (inS hw 7 O lb))) O O O λg1 lg1=>zG (sl (sl (sl sr))) (zL O ?_)
 have hz2:=Bo x.y y.y
 refine cF (S:=S) (x:=(x.y*y.y)) (args:=[(aG (fxL a.y)),(aG (fxL b.y))]) call98 (λw hw=>D4 a.y b.y (by (try simp only [BO]);omega) w (Um (inS hw 5 O la)) (Um (inS hw 9 O lb))) O O O λg2 lg2=>zG (sl (sl (sl (sl (sl sr))))) (zL O ?_)
 have hz3:=Cb (x.x*y.x) (x.y*y.y)
 exact cF (S:=S) (x:=((x.x*y.x)+(x.y*y.y))) (args:=[(aG (fxL g1)),(aG (fxL g2))]) call96 (λw hw=>Eo g1 g2 (by (try simp only [BO]);omega) w (inS hw 2 O lg1) (inS hw 0 O lg2)) O O O λg3 lg3=>zG (sl (sl (sl (sl (sl (sl (sl sr))))))) (zL O (Ei 6 (off:=0) (vs:=fxL g3) (cs':=fxL g3) (AM O) O sizeOf83 O (zG (sl (sl (sl (sl (sl (sl (sl sr))))))) (zT (zF (sL [4] O) (zC (zH (ret_one O (Ah (i:=6) (cs:=fxL g3) O O isAgg83 sizeOf83 O) (λw hw=>DR (a:=(g3:FX (Av x y))) hw (inS hw 0 O lg3) O)))))))))
theorem DB {x y:Pt} (a:PX x) (b:PX y) (hs:BV x+BV y<=262144) (w:World) {S:Nat->Prop} (ha:Ro S w a) (hb:Ro S w b)  :Calls prog 74 #[(aG (BU a)),(aG (BU b))] w (Ai (FX (Av (x-y) (x-y))) S w):=by
 have la:=Bq (W:=w) ha
 have lb:=Bq (W:=w) hb
 refine AR (args:=[(aG (BU a)),(aG (BU b))]) (L:=[BM a.x.z.n,BM a.x.m,BM a.y.z.n,BM a.y.m,BM b.x.z.n,BM b.x.m,BM b.y.z.n,BM b.y.m]) func74 O O (leB O) (Kb ha (Kb hb Ae)) (zM (sL [0,1] O) (q4 (BG (cs:=BU a) O λb1=>BG (cs:=BU b) O λb2=>al Fo O λb3=>q6 (sL [2,3,4] O) (CE [(0,true),(1,true),(3,true),(4,true),(2,false),(5,false),(6,false),(7,false)] (sl sr) (C3 1 BK O (C3 0 BK O (C3 1 BK O (C3 0 BK O ?_))))))))
 refine zL O ?_
 have hz1:=B0 x y
 refine cP (S:=S) (x:=(x-y)) (args:=[(aG (BU a)),(aG (BU b))]) call116 (λw hw=>E2 a b Z w (inS hw 3 O la) (inS hw 7 O lb)) O O O λg1 lg1=>zG (sl (sl (sl (sl (sl sr))))) (zL O ?_)
 have hz2:=B0 x y
 refine cP (S:=S) (x:=(x-y)) (args:=[(aG (BU a)),(aG (BU b))]) call116 (λw hw=>E2 a b Z w (inS hw 7 O la) (inS hw 11 O lb)) O O O λg2 lg2=>zG (sl (sl (sl (sl (sl (sl (sl (sl (sl sr))))))))) (zL O ?_)
 have hz3:=D6 (x-y) (x-y)
 exact cF (S:=S) (x:=(Av (x-y) (x-y))) (args:=[(aG (BU g1)),(aG (BU g2))]) call125 (λw hw=>HK g1 g2 Z w (inS hw 4 O lg1) (inS hw 0 O lg2)) O O O λg3 lg3=>zG (sl (sl (sl (sl (sl (sl (sl (sl (sl (sl (sl sr))))))))))) (zL O (Ei 10 (off:=0) (vs:=fxL g3) (cs':=fxL g3) (AM O) O sizeOf83 O (zG (sl (sl (sl (sl (sl (sl (sl (sl (sl (sl (sl sr))))))))))) (zT (zF (sL [4] O) (zC (zH (ret_one O (Ah (i:=10) (cs:=fxL g3) O O isAgg83 sizeOf83 O) (λw hw=>DR (a:=(g3:FX (Av (x-y) (x-y)))) hw (inS hw 0 O lg3) O)))))))))
theorem Hn {x y z:Pt} (a:PX x) (b:PX y) (d:PX z) (hs:BV x+BV y+BV z<=262144) (w:World) {S:Nat->Prop} (ha:Ro S w a) (hb:Ro S w b) (hd:Ro S w d)  :Calls prog 86 #[(aG (BU a)),(aG (BU b)),(aG (BU d))] w (AX w (vI ((Aa x y z).num.sign))):=by
 have la:=Bq (W:=w) ha
 have lb:=Bq (W:=w) hb
 have ld:=Bq (W:=w) hd
 refine AR (args:=[(aG (BU a)),(aG (BU b)),(aG (BU d))]) (L:=[BM a.x.z.n,BM a.x.m,BM a.y.z.n,BM a.y.m,BM b.x.z.n,BM b.x.m,BM b.y.z.n,BM b.y.m,BM d.x.z.n,BM d.x.m,BM d.y.z.n,BM d.y.m]) func86 O O (leB O) (Kb ha (Kb hb (Kb hd Ae))) (zM (sL [0,1,2] O) (q4 (BG (cs:=BU a) O λb1=>BG (cs:=BU b) O λb2=>BG (cs:=BU d) O λb3=>asg' O (q6 (sL [3,4,5,6] O) (CE [(0,true),(1,true),(3,true),(4,true),(2,false),(5,false),(6,false),(7,false),(8,true)] sr (C3 1 BK O (C3 2 BK O (C3 0 BK O ?_))))))))
 refine C3 2 BK O (zL O ?_)
 have hz1:=B0 y x
 refine cP (S:=S) (x:=(y-x)) (args:=[(aG (BU b)),(aG (BU a))]) call116 (λw hw=>E2 b a Z w (inS hw 7 O lb) (inS hw 3 O la)) O O O λg1 lg1=>zG (sl (sl (sl (sl sr)))) (zL O ?_)
 have hz2:=B0 z x
 refine cP (S:=S) (x:=(z-x)) (args:=[(aG (BU d)),(aG (BU a))]) call116 (λw hw=>E2 d a Z w (inS hw 15 O ld) (inS hw 7 O la)) O O O λg2 lg2=>zG (sl (sl (sl (sl (sl (sl (sl (sl sr)))))))) (zL O ?_)
 have hz3:=Dp (y-x) (z-x)
 exact cF (S:=S) (x:=(Ar (y-x) (z-x))) (args:=[(aG (BU g1)),(aG (BU g2))]) call144 (λw hw=>IJ g1 g2 Z w (inS hw 4 O lg1) (inS hw 0 O lg2)) O O O λg3 lg3=>zG (sl (sl (sl (sl (sl (sl (sl (sl (sl (sl sr)))))))))) (zL O (Bx call126 (λw hw=>Li g3 w (inS hw 0 O lg3)) O (zG (sl (sl (sl (sl (sl (sl (sl (sl (sl (sl sr)))))))))) (pS' O (zT (zF (sL [6] O) (zC (zH (ret_one O (rd_tmp (v:=(vI ((Ar (y-x) (z-x)).num.sign))) O) (λw hw=>⟨rfl,hw.out⟩))))))))))
end
section
set_option maxRecDepth 100000
theorem eQ:ElemT prog 37 119 3 24:=⟨underlying37,Ds jV⟩
end
section
set_option maxRecDepth 100000
end
section
set_option maxRecDepth 100000
theorem V9 (s:ByteArray) (r:Bool) (h1:1<=s.size) (hs:s.size<=4611686018427387904) (hr:((s.extract 0 1).toList == (ByteArray.mk #[48]).toList)=r) (w:World)  :Calls prog 268 #[(Value.string s),(Value.string (ByteArray.mk #[48]))] w (AX w (qa r)):=by
 refine AS (args:=[(Value.string s),(Value.string (ByteArray.mk #[48]))]) func268 O O (leB O) (zM (sL [0,1] O) (q4 (asg' O (oNl' (q2 (AJ O (st' (v:=(vN ((s).size))) (Cy O underlying9) O (AJ O (st' (v:=(vI 1)) ((show Ex _ _ _ _ _ _ (Value.int .i64 ((ByteArray.mk #[48]).size:Nat)) from Cy O underlying9)) O (st' (CU (c:=true) O O (Qz.trans (xr h1))) O (AJ O ?_)))))))))))
 exact EV O (EV O (Au (v:=(vI 1)) O ((show Ex _ _ _ _ _ _ (Value.int .i64 ((ByteArray.mk #[48]).size:Nat)) from Cy O underlying9)) (Au (v:=(Value.string (s.extract 0 1))) O (FZ (j:=1) O O underlying9 h1 O) (EV O (Au (v:=(qa r)) O (BY (c:=r) O O hr) (st' (v:=(qa r)) (ex_pick_true O O) O (asg' O (oNl' (zF (sL [4] O) (zC (zH (ret_one O (rd_tmp (v:=(qa r)) O) (λw hw=>⟨rfl,hw.out⟩)))))))))))))
theorem hpre_ok (s:ByteArray) (r:Bool) (h1:1<=s.size) (hs:s.size<=4611686018427387904) (hr:((s.extract 0 1).toList == (ByteArray.mk #[48]).toList)=r) (w:World)  :Calls prog 234 #[(Value.string s),(Value.string (ByteArray.mk #[48]))] w (AX w (qa r)):=by
 refine AS (args:=[(Value.string s),(Value.string (ByteArray.mk #[48]))]) func234 O O (leB O) (zM (sL [0,1] O) (q4 (asg' O (oNl' (q2 (AJ O (AJ O (ck' call268 (V9 s r h1 hs hr) O (asg' O (oNl' (zF (sL [4] O) ?_)))))))))))
 exact zC (zH (ret_one O (rd_tmp (v:=(qa r)) O) (λw hw=>⟨rfl,hw.out⟩)))
theorem ZE (x y:Nat) (hx:x<18446744073709551616) (hy:y<18446744073709551616) (w:World)  :Calls prog 233 #[(vK .u64 x),(vK .u64 y)] w (AX w (Value.tuple #[(vK .u64 (x*y/18446744073709551616)),(vK .u64 (x*y%18446744073709551616))])):=by
 refine AS (args:=[(vK .u64 x),(vK .u64 y)]) func233 O O (leB O) (zM (sL [0,1] O) (q4 (asg' O (asg' O (oNl' (q1 (zX O (zJ (q2 (AJ O (AJ O ?_)))))))))))
 refine ck' call205 (PZ x y Z Z) O (AJ O (st' (AK (v:=(vK .u64 (x*y/18446744073709551616))) O O) O (st' (AK (v:=(vK .u64 (x*y%18446744073709551616))) O O) O (asg' O (asg' O (q3 (sL [0,1,4,5,8,9] O) (AJ O (AJ O (asg' O (asg' O (oNl' ?_)))))))))))
 exact zF (sL [0,1,4,5] O) (zC (zH (BR O (rd_tmp (v:=(vK .u64 (x*y/18446744073709551616))) O) (rd_tmp (v:=(vK .u64 (x*y%18446744073709551616))) O) (λw hw=>⟨rfl,hw.out⟩))))
theorem X8 {s:ByteArray} (h:((List.range 9).all λn=>(s.extract 0 n).data.toList == List.replicate n 48)=true) {n:Nat} (hn:n<=8):s.extract 0 n=txB (List.replicate n 48):=by
 have h1:=List.all_eq_true.1 h n (List.mem_range.2 Z)
 have h2:(s.extract 0 n).data.toList=List.replicate n 48:=by simpa using h1
 apply ByteArray.ext
 apply Array.toList_inj.1
 rw [h2];simp [txB]
theorem Zc (c:Nat) (h1:2<=c) (h2:c<=8) (w:World)  :Calls prog 191 #[(Value.string (ByteArray.mk #[48])),(vN c)] w (AX w (Value.string (txB (List.replicate c 48)))):=by
 refine AS (args:=[(Value.string (ByteArray.mk #[48])),(vN c)]) func191 O O (leB O) (zM (sL [0,1] O) (q4 (asg' O (oNl' (q1 (q4 (AJ O (oNl' (zC (zN (q4 ?_)))))))))))
 refine st' (A9 (c:=(decide (c=0))) O O (MA (a:=c) (b:=0))) O (asg' O (oNl' (zF (sL [0,1,4,11,12] O) (zC ?_))))
 refine zO O (λhc0=>?_) (λhc0=>?_)
 ·replace hc0:=xR hc0
  exfalso;omega
 ·replace hc0:=xQ hc0
  refine q4 (st' (A9 (c:=(decide (c=1))) O O (MA (a:=c) (b:=1))) O (asg' O (oNl' (zF (sL [0,1,4,11,14] O) (zC ?_)))))
  refine zO O (λhc1=>?_) (λhc1=>?_)
  ·replace hc1:=xR hc1
   exfalso;omega
  ·replace hc1:=xQ hc1
   refine zJ (zP (q1 (q4 (AJ O (st' (AW (c:=(decide (c<0))) O O (B_ (a:=c) (b:=0))) O (oNl' (zF (sL [0,1,4,11,18] O) (zC ?_))))))))
   refine zO O (λhc2=>?_) (λhc2=>?_)
   ·replace hc2:=xR hc2
    exfalso;omega
   ·replace hc2:=xQ hc2
    refine zJ (q2 (AJ O (st' (v:=(vI 1)) ((show Ex _ _ _ _ _ _ (Value.int .i64 ((ByteArray.mk #[48]).size:Nat)) from Cy O underlying9)) O (st' (A6 (c:=(1:Int)) O underlying3 underlying276 jY) O (AJ O (st' (A6 (c:=((c:Nat):Int)) O underlying3 underlying276 (BT Z)) O (ck' call233 (ZE 1 c Z Z) O (AJ O (st' (AK (v:=(vK .u64 (1*c/18446744073709551616))) O O) O (st' (AK (v:=(vK .u64 (1*c%18446744073709551616))) O O) O (asg' O ?_)))))))))))
    refine asg' O (q6 (sL [0,1,4,11,5,6] O) (q4 (AJ O (st' (B2 (c:=false) O O (B_.trans (xq Z))) O (AJ O (EV O (Au (v:=(qa false)) O (B2 (c:=false) O O ((B_ (a:=9223372036854775807) (b:=1*c%18446744073709551616)).trans (xq Z))) (st' (v:=(qa false)) (AI O O) O (oNl' (zF (sL [0,1,4,11,6,34] O) (zC ?_)))))))))))
    refine zX O (zJ (q2 (AJ O (st' (A6 (c:=((c:Nat):Int)) O underlying276 underlying3 (by rw [BZ Z Z];omega)) O (asg' O (q6 (sL [0,1,4,11,6,7] O) (q4 (AJ O (st' (v:=(vI 1)) ((show Ex _ _ _ _ _ _ (Value.int .i64 ((ByteArray.mk #[48]).size:Nat)) from Cy O underlying9)) O (st' (A9 (c:=false) O O jY) O (oNl' ?_)))))))))))
    refine zF (sL [0,1,4,11,6,7,40] O) (zC (zX O (zJ (q1 (q4 (AJ O (st' (v:=(Value.int .u8 (48:Int))) (Gr (j:=0) (b:=48) O O underlying9 O O) O (oNl' (zF (sL [0,1,4,11,6,7,42] O) (zC (zN ?_)))))))))))
    refine zf (q4 (st' (A9 (c:=false) O O jY) O (asg' O (oNl' (zF (sL [0,1,4,11,6,7,42,43] O) (zC (zX O (q4 (st' (A9 (c:=false) O O jY) O (asg' O (oNl' ?_)))))))))))
    refine zF (sL [0,1,4,11,6,7,42,43] O) (zC (zX O (q4 (st' (A9 (c:=true) O O jY) O (asg' O (oNl' (zF (sL [0,1,4,11,6,7,42,43] O) (zC (zZ O (zJ (zC ?_)))))))))))
    refine zZ O (zN (q4 (AJ O (st' (Ee (c:=true) O O ((Qz (a:=c) (b:=128)).trans (xr Z))) O (AJ O (EV O (zj (v:=(qa false)) (AN O) (Ak (args:=[(Value.string (ByteArray.mk (List.toArray (List.append [32,32,32,32,32,32,32,32,32,32,32,32,32,32,32,32,32,32,32,32,32,32,32,32,32,32,32,32,32,32,32,32,32,32,32,32,32,32,32,32,32,32,32,32,32,32,32,32,32,32,32,32,32,32,32,32,32,32,32,32,32,32,32,32] [32,32,32,32,32,32,32,32,32,32,32,32,32,32,32,32,32,32,32,32,32,32,32,32,32,32,32,32,32,32,32,32,32,32,32,32,32,32,32,32,32,32,32,32,32,32,32,32,32,32,32,32,32,32,32,32,32,32,32,32,32,32,32,32])))),(Value.string (ByteArray.mk #[48]))]) O O call234) (λw hw=>hpre_ok (ByteArray.mk (List.toArray (List.append [32,32,32,32,32,32,32,32,32,32,32,32,32,32,32,32,32,32,32,32,32,32,32,32,32,32,32,32,32,32,32,32,32,32,32,32,32,32,32,32,32,32,32,32,32,32,32,32,32,32,32,32,32,32,32,32,32,32,32,32,32,32,32,32] [32,32,32,32,32,32,32,32,32,32,32,32,32,32,32,32,32,32,32,32,32,32,32,32,32,32,32,32,32,32,32,32,32,32,32,32,32,32,32,32,32,32,32,32,32,32,32,32,32,32,32,32,32,32,32,32,32,32,32,32,32,32,32,32]))) false jY jY jV w) O (leB O) (st' (v:=(qa false)) (ex_pick_true O O) O (asg' O (oNl' (zF (sL [0,1,4,11,6,7,42,43,49] O) ?_)))))))))))
    refine zC (zX O (q4 (AJ O (st' (Ee (c:=true) O O ((Qz (a:=c) (b:=128)).trans (xr Z))) O (AJ O (EV O (zj (v:=(qa false)) (AN O) (Ak (args:=[(Value.string (ByteArray.mk (List.toArray (List.append [45,45,45,45,45,45,45,45,45,45,45,45,45,45,45,45,45,45,45,45,45,45,45,45,45,45,45,45,45,45,45,45,45,45,45,45,45,45,45,45,45,45,45,45,45,45,45,45,45,45,45,45,45,45,45,45,45,45,45,45,45,45,45,45] [45,45,45,45,45,45,45,45,45,45,45,45,45,45,45,45,45,45,45,45,45,45,45,45,45,45,45,45,45,45,45,45,45,45,45,45,45,45,45,45,45,45,45,45,45,45,45,45,45,45,45,45,45,45,45,45,45,45,45,45,45,45,45,45])))),(Value.string (ByteArray.mk #[48]))]) O O call234) (λw hw=>hpre_ok (ByteArray.mk (List.toArray (List.append [45,45,45,45,45,45,45,45,45,45,45,45,45,45,45,45,45,45,45,45,45,45,45,45,45,45,45,45,45,45,45,45,45,45,45,45,45,45,45,45,45,45,45,45,45,45,45,45,45,45,45,45,45,45,45,45,45,45,45,45,45,45,45,45] [45,45,45,45,45,45,45,45,45,45,45,45,45,45,45,45,45,45,45,45,45,45,45,45,45,45,45,45,45,45,45,45,45,45,45,45,45,45,45,45,45,45,45,45,45,45,45,45,45,45,45,45,45,45,45,45,45,45,45,45,45,45,45,45]))) false jY jY jV w) O (leB O) (st' (v:=(qa false)) (ex_pick_true O O) O (asg' O (oNl' (zF (sL [0,1,4,11,6,7,42,43,58] O) ?_)))))))))))
    refine zC (zX O (q4 (AJ O (st' (Ee (c:=true) O O ((Qz (a:=c) (b:=64)).trans (xr Z))) O (AJ O (EV O (zj (v:=(qa true)) (AN O) (Ak (args:=[(Value.string (ByteArray.mk #[48,48,48,48,48,48,48,48,48,48,48,48,48,48,48,48,48,48,48,48,48,48,48,48,48,48,48,48,48,48,48,48,48,48,48,48,48,48,48,48,48,48,48,48,48,48,48,48,48,48,48,48,48,48,48,48,48,48,48,48,48,48,48,48])),(Value.string (ByteArray.mk #[48]))]) O O call234) (λw hw=>hpre_ok (ByteArray.mk #[48,48,48,48,48,48,48,48,48,48,48,48,48,48,48,48,48,48,48,48,48,48,48,48,48,48,48,48,48,48,48,48,48,48,48,48,48,48,48,48,48,48,48,48,48,48,48,48,48,48,48,48,48,48,48,48,48,48,48,48,48,48,48,48]) true jY jY jV w) O (leB O) (st' (v:=(qa true)) (ex_pick_true O O) O (asg' O (oNl' (zF (sL [0,1,4,11,6,7,42,43,67] O) ?_)))))))))))
    refine zC (zZ O (q4 (AJ O (st' (v:=(Value.string (txB (List.replicate c 48)))) (FZ (j:=c) O O underlying9 (xx h2 jY) (X8 jV h2)) O (asg' O (oNl' (zF (sL [0,1,4,11,6,7,42,43] O) (zC (zH (zU (zU ?_)))))))))))
    exact zI (ret_one O (rd_tmp (v:=(Value.string (txB (List.replicate c 48)))) O) (λw hw=>⟨rfl,hw.out⟩))
theorem Zf  (w:World)  :Calls prog 191 #[(Value.string (ByteArray.mk #[48])),(vI 0)] w (AX w (Value.string (ByteArray.mk #[]))):=by
 refine AS (args:=[(Value.string (ByteArray.mk #[48])),(vI 0)]) func191 O O (leB O) (zM (sL [0,1] O) (q4 (asg' O (oNl' (q1 (q4 (AJ O (oNl' (zC (zN (q4 ?_)))))))))))
 refine st' (A9 (c:=true) O O jY) O (asg' O (oNl' (zF (sL [0,1,4,11,12] O) (zC (zZ O (q4 (asg' O (oNl' (zF (sL [0,1,4,11] O) (zC (zH ?_)))))))))))
 exact zU (zI (ret_one O (rd_tmp (v:=(Value.string (ByteArray.mk #[]))) O) (λw hw=>⟨rfl,hw.out⟩)))
theorem Ze  (w:World)  :Calls prog 191 #[(Value.string (ByteArray.mk #[48])),(vI 1)] w (AX w (Value.string (ByteArray.mk #[48]))):=by
 refine AS (args:=[(Value.string (ByteArray.mk #[48])),(vI 1)]) func191 O O (leB O) (zM (sL [0,1] O) (q4 (asg' O (oNl' (q1 (q4 (AJ O (oNl' (zC (zN (q4 ?_)))))))))))
 refine st' (A9 (c:=false) O O jY) O (asg' O (oNl' (zF (sL [0,1,4,11,12] O) (zC (zX O (q4 (st' (A9 (c:=true) O O jY) O (asg' O (oNl' (zF (sL [0,1,4,11,14] O) (zC ?_)))))))))))
 exact zZ O (q4 (AJ O (asg' O (oNl' (zF (sL [0,1,4,11] O) (zC (zH (zU (zI (ret_one O (rd_tmp (v:=(Value.string (ByteArray.mk #[48]))) O) (λw hw=>⟨rfl,hw.out⟩)))))))))))
theorem Zd (c:Nat) (hc:c<=8) (w:World):Calls prog 191 #[Value.string (ByteArray.mk #[48]),vN c] w (AX w (Value.string (txB (List.replicate c 48)))):=by
 rcases Nat.lt_or_ge c 2 with h|h
 ·rcases Nat.lt_or_ge c 1 with h1|h1
  ·obtain rfl:c=0:=by omega
   exact Zf w
  ·obtain rfl:c=1:=by omega
   exact Ze w
 ·exact Zc c h hc w
end
end Go.Proofs.YtpolhpjiahbidaaGreatDoor
