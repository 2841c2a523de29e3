import Derived.ChangeKeysEq
import Derived.Test.YtpgncndhhhllfaaGreatDoorRows
import Derived.Laws.Strings
import Derived.Test.YtpgncndhhhllfaaGreatDoorPart06
import Derived.Test.YtpgncndhhhllfaaGreatDoorPart19
import Derived.Test.YtpgncndhhhllfaaGreatDoorPart23
namespace Go.Proofs.YtpgncndhhhllfaaGreatDoor
open Go Go.RowKit Go.Proofs.Tryz
set_option linter.unusedVariables false
set_option linter.unusedSimpArgs false
section
set_option maxRecDepth 100000
theorem Oj  (w:World) {S:Nat->Prop}  :Calls Tryz.prog 191 #[] w (Av (NX 1) S w):=by
 refine Ag (args:=[]) Tryz.func191 rfl rfl (AY rfl) (AF.subF sN (q4 (asg' rfl (AD.nil (q2 ?_)))))
 exact cN (S:=S) (x:=1) (args:=[(Value.int .u64 (1:Int))]) Tryz.call194 (λw hw=>OV 1 (by first|omega|(simp only [Int.natAbs_neg];omega)) w) rfl rfl rfl λg1 lg1=>asg' rfl (AD.nil (AC.subF (sL [0] rfl) (AC.then_ (AF.ret (AN rfl (AQ (v:=(Ci g1)) rfl) (λw hw=>GQ (a:=(g1:NX 1)) hw (inS hw 0 rfl lg1) rfl))))))
theorem qDen_ok {x:Rat} (a:FX x) (hs:Sz x<=16777216) (w:World) {S:Nat->Prop} (ha:Ro S w a)  :Calls Tryz.prog 135 #[(aG (fxL a))] w (Av (NX x.den) S w):=by
 have s0:=DT x
 have s1:=C0 x
 have s2:=GH x
 have h1w:=HX
 have la:=DF (W:=w) ha
 refine Ah (args:=[(aG (fxL a))]) (L:=[Da a.z.n,Da a.m]) Tryz.func135 rfl rfl (AY rfl) (T8 ha Ar) (AF.subF (sL [0] rfl) (q4 (B9 (cs:=fxL a) rfl λb1=>asg' rfl (q6 (sL [1,2] rfl) ?_))))
 refine Cw [(0,true),(1,true),(2,false),(3,false),(4,true)] sr (Aw (v:=(pP b1 2)) rfl (AA rfl Tryz.underlying75 rfl Tryz.sizeOf71 rfl) (Bm 0 (Ci a.m) J2 rfl (OkE.imp rfl (cN (S:=S) (x:=1) (args:=[]) Tryz.call191 (λw hw=>Oj w) rfl rfl rfl λg1 lg1=>OkE.back (sl sr) ?_))))
 refine OkE.imp rfl (cN (S:=S) (x:=x.den) (args:=[(Ci a.m),(Ci g1)]) Tryz.call190 (λw hw=>(Av.cast (T:=λi=>NX i) (Nat.sub_add_cancel x.den_pos) (UI a.m g1 (by first|omega|(simp only [Int.natAbs_neg];omega)) (by first|omega|(simp only [Int.natAbs_neg];omega)) w (ZP (inS hw 2 rfl la)) (inS hw 0 rfl lg1)))) rfl rfl rfl λg2 lg2=>OkE.back (sl (sl sr)) (pS' rfl (OkE.nil (AC.subF (sL [2] rfl) ?_))))
 exact AC.then_ (AF.ret (AN rfl (AQ (v:=(Ci g2)) rfl) (λw hw=>GQ (a:=(g2:NX x.den)) hw (inS hw 0 rfl lg2) rfl)))
theorem NL {n:Int} {k:Nat} (z:ZX n) (d:NX k) (hn:nw n.natAbs<=67108864) (hk:nw k<=67108864) (h0:k≠0) (w:World) {S:Nat->Prop} (hz:Ro S w z) (hd:Ro S w d)  :Calls Tryz.prog 139 #[(aG (Ef z)),(Ci d)] w (Av (FX (mkRat n k)) S w):=by
 have hg:0<Nat.gcd n.natAbs k:=Nat.pos_of_ne_zero λh=>h0 (Nat.eq_zero_of_gcd_eq_zero_right h)
 have hgw:nw (Nat.gcd n.natAbs k)<=nw k:=Ca (Nat.gcd_le_right _ (Nat.pos_of_ne_zero h0))
 have hqw:nw (k/Nat.gcd n.natAbs k)<=nw k:=Ca (Nat.div_le_self _ _)
 have hq1:1<=k/Nat.gcd n.natAbs k:=Nat.div_pos (Nat.gcd_le_right _ (Nat.pos_of_ne_zero h0)) hg
 have lz:=DF (W:=w) hz
 have ld:=DF (W:=w) hd
 refine Ah (args:=[(aG (Ef z)),(Ci d)]) (L:=[Da z.n,Da d]) Tryz.func139 rfl rfl (AY rfl) (XK hz (YO hd Ar)) (AF.subF (sL [0,1] rfl) (q4 (B9 (cs:=Ef z) rfl λb1=>al QG rfl λb2=>q3 (sL [1,2,4] rfl) ?_)))
 refine AH (v:=(pP b1 1)) (AA rfl Tryz.underlying73 rfl Tryz.sizeOf71 rfl) rfl (BD 1 (Ci z.n) J2 rfl (AJ rfl (cN (S:=S) (x:=(Nat.gcd n.natAbs k)) (args:=[(Ci z.n),(Ci d)]) Tryz.call195 (λw hw=>VI z.n d (by first|omega|(simp only [Int.natAbs_neg];omega)) (by first|omega|(simp only [Int.natAbs_neg];omega)) w (Vh (inS hw 2 rfl lz)) (inS hw 3 rfl ld)) rfl rfl rfl λg1 lg1=>asg' rfl (q3 (sL [1,2,4,5] rfl) ?_))))
 refine AH (v:=(pP b1 1)) (AA rfl Tryz.underlying73 rfl Tryz.sizeOf71 rfl) rfl (BD 2 (Ci z.n) J2 rfl (AJ rfl (cD (S:=S) (u:=(n.natAbs/(Nat.gcd n.natAbs k))) (v:=(n.natAbs%(Nat.gcd n.natAbs k))) (args:=[(Ci z.n),(Ci g1)]) Tryz.call196 (λw hw=>PY z.n g1 hg (by omega) (by omega) w (Vh (inS hw 3 rfl lz)) (inS hw 0 rfl lg1)) rfl rfl rfl λg2 lg2=>AJ rfl (AH (AS (v:=(Ci g2.q)) rfl rfl) rfl ?_))))
 refine AH (AS (v:=(Ci g2.r)) rfl rfl) rfl (asg' rfl (asg' rfl (q3 (sL [1,2,4,5,6] rfl) (AJ rfl (AJ rfl ?_)))))
 refine cD (S:=S) (u:=(k/(Nat.gcd n.natAbs k))) (v:=(k%(Nat.gcd n.natAbs k))) (args:=[(Ci d),(Ci g1)]) Tryz.call196 (λw hw=>PY d g1 hg (by omega) (by omega) w (inS hw 6 rfl ld) (inS hw 2 rfl lg1)) rfl rfl rfl λg3 lg3=>AJ rfl (AH (AS (v:=(Ci g3.q)) rfl rfl) rfl (AH (AS (v:=(Ci g3.r)) rfl rfl) rfl (asg' rfl (asg' rfl ?_))))
 refine q3 (sL [1,2,4,5,6,8] rfl) (AH (v:=(pP b1 0)) (AA rfl Tryz.underlying73 rfl Tryz.sizeOf4 rfl) rfl (BD 6 (Value.bool (decide (n<0))) T0 rfl (AJ rfl (cZ (S:=S) (x:=((mkRat n k).num)) (args:=[(Value.bool (decide (n<0))),(Ci g2.q)]) Tryz.call193 (λw hw=>(Av.cast (T:=λi=>ZX i) (Sf h0) (Fl (decide (n<0)) g2.q w (Xz (inS hw 2 rfl lg2))))) rfl rfl rfl λg4 lg4=>AJ rfl ?_))))
 refine cN (S:=S) (x:=1) (args:=[]) Tryz.call191 (λw hw=>Oj w) rfl rfl rfl λg5 lg5=>cN (S:=S) (x:=((mkRat n k).den-1)) (args:=[(Ci g3.q),(Ci g5)]) Tryz.call197 (λw hw=>(Av.cast (T:=λi=>NX i) (S_ h0) (VA g3.q g5 hq1 (by omega) w (Xz (inS hw 2 rfl lg3)) (inS hw 0 rfl lg5)))) rfl rfl rfl λg6 lg6=>AH (v:=(aG (Ef g4++[(Ci g6)]))) (AU (zs:=[(Value.bool false),(Value.slice none 0 0),(Value.slice none 0 0)]) (vs:=Ef g4++[(Ci g6)]) (pv:=[(0,(aG (Ef g4))),(1,(Ci g6))]) (places:=[(0,2),(2,1)]) Tryz.zeroValue75 Tryz.underlying75 (λw=>by simp [Tryz.sizeOf71,Tryz.sizeOf73]) rfl rfl) rfl (IM 8 (off:=0) (vs:=Ef g4++[(Ci g6)]) (cs':=Ef g4++[(Ci g6)]) (AO rfl) rfl Tryz.sizeOf75 rfl (AD.nil (AC.subF (sL [1,2,4,5] rfl) ?_)))
 exact AC.then_ (AF.ret (AN rfl (BB (i:=8) (cs:=Ef g4++[(Ci g6)]) rfl rfl Tryz.isAgg75 Tryz.sizeOf75 rfl) (λw hw=>GQ (a:=((FX.mk g4 g6):FX (mkRat n k))) hw (Yu (inS hw 2 rfl lg4) (inS hw 0 rfl lg6)) rfl)))
theorem Gb {r0:Int} (x0:ZX r0):Instr.fill ([(0,2),(2,1)].toArray[·]?) ([(Value.bool false),(Value.slice none 0 0),(Value.slice none 0 0)]).toArray [(0,.agg (Ef x0).toArray)]=some (Ef x0++[(Value.slice none 0 0)]).toArray:=by kernel_rfl
theorem Of (z:Int) (hz:-9223372036854775808<=z) (hz2:z<9223372036854775808) (w:World) {S:Nat->Prop}  :Calls Tryz.prog 78 #[(vI z)] w (Av (FX ((z:Int):Rat)) S w):=by
 refine Ag (args:=[(vI z)]) Tryz.func78 rfl rfl (AY rfl) (AF.subF (sL [0] rfl) (q4 (al QG rfl λb1=>AD.nil (q2 ?_))))
 refine AJ rfl (cZ (S:=S) (x:=(((z:Int):Rat).num)) (args:=[(vI z)]) Tryz.call138 (λw hw=>(Av.cast (T:=λi=>ZX i) (show z=((z:Int):Rat).num from rfl) (WU z (by omega) (by omega) w))) rfl rfl rfl λg1 lg1=>AH (v:=(aG (Ef g1++[(Value.slice none 0 0)]))) (AU (zs:=[(Value.bool false),(Value.slice none 0 0),(Value.slice none 0 0)]) (vs:=Ef g1++[(Value.slice none 0 0)]) (pv:=[(0,(aG (Ef g1)))]) (places:=[(0,2),(2,1)]) Tryz.zeroValue75 Tryz.underlying75 (λw=>by simp [Tryz.sizeOf71,Tryz.sizeOf73]) rfl (Gb g1)) rfl (Ej rfl Tryz.sizeOf75 rfl (AD.nil (AC.subF (sL [2] rfl) ?_))))
 exact AC.then_ (AF.ret (AN rfl (BB (i:=1) (cs:=Ef g1++[(Value.slice none 0 0)]) rfl rfl Tryz.isAgg75 Tryz.sizeOf75 rfl) (λw hw=>GQ (a:=((FX.mk g1 NX.zero):FX ((z:Int):Rat))) hw (Yu (inS hw 0 rfl lg1) WI) rfl)))
theorem Rx {x:Rat} (a:FX x) (w:World) {S:Nat->Prop} (ha:Ro S w a)  :Calls Tryz.prog 201 #[(aG (fxL a))] w (An w (vI x.num.sign)):=by
 have la:=DF (W:=w) ha
 refine Ah (args:=[(aG (fxL a))]) (L:=[Da a.z.n,Da a.m]) Tryz.func201 rfl rfl (AY rfl) (T8 ha Ar) (AF.subF (sL [0] rfl) (q4 (B9 (cs:=fxL a) rfl λb1=>asg' rfl (q3 (sL [1,2] rfl) ?_))))
 refine AH (v:=(pP b1 0)) (AA rfl Tryz.underlying75 rfl Tryz.sizeOf73 rfl) rfl (Gi 0 (Ef a.z) Tc rfl (DC Tryz.call246 (λw hw=>RV a.z w (V4 (inS hw 1 rfl la))) rfl (asg' rfl (AD.nil (AC.subF (sL [2] rfl) ?_)))))
 exact AC.then_ (AF.ret (AN rfl (AQ (v:=(vI x.num.sign)) rfl) (λw hw=>⟨rfl,hw.out⟩)))
theorem UP {x y:Rat} (a:FX x) (b:FX y) (hs:Sz x+Sz y<=16777216) (w:World) {S:Nat->Prop} (ha:Ro S w a) (hb:Ro S w b)  :Calls Tryz.prog 202 #[(aG (fxL a)),(aG (fxL b))] w (Av (FX (x*y)) S w):=by
 have s0:=DT x
 have s1:=C0 x
 have s2:=GH x
 have s3:=DT y
 have s4:=C0 y
 have s5:=GH y
 have s6:=Dp x y
 have s7:=Dp y x
 have s8:=Jc x y
 have s9:=JY x y
 have s10:=GE (x.num*((y.den:Nat):Int)) (y.num*((x.den:Nat):Int))
 have h0x:=x.den_nz
 have h0y:=y.den_nz
 have h0xy:=Nat.mul_ne_zero h0x h0y
 have la:=DF (W:=w) ha
 have lb:=DF (W:=w) hb
 refine Ah (args:=[(aG (fxL a)),(aG (fxL b))]) (L:=[Da a.z.n,Da a.m,Da b.z.n,Da b.m]) Tryz.func202 rfl rfl (AY rfl) (T8 ha (T8 hb Ar)) (AF.subF (sL [0,1] rfl) (q4 (B9 (cs:=fxL a) rfl λb1=>B9 (cs:=fxL b) rfl λb2=>al QG rfl λb3=>?_)))
 refine q6 (sL [2,3,4] rfl) (Cw [(0,true),(1,true),(2,true),(3,true),(5,true),(7,true),(4,false),(6,false),(8,false),(9,false),(10,false),(11,false)] (sl sr) (Aw (v:=(pP b1 0)) rfl (AA rfl Tryz.underlying75 rfl Tryz.sizeOf73 rfl) (Qf 1 (Ef a.z) Tc rfl (Aw (v:=(pP b2 0)) rfl (AA rfl Tryz.underlying75 rfl Tryz.sizeOf73 rfl) (Qf 0 (Ef b.z) Tc rfl ?_)))))
 refine GO 1 Jn rfl (GO 0 Jn rfl (OkE.imp rfl (cZ (S:=S) (x:=(x.num*y.num)) (args:=[(aG (Ef a.z)),(aG (Ef b.z))]) Tryz.call141 (λw hw=>UD a.z b.z (by omega) (by omega) w (V4 (inS hw 3 rfl la)) (V4 (inS hw 5 rfl lb))) rfl rfl rfl λg1 lg1=>OkE.back (sl (sl sr)) (OkE.imp rfl ?_))))
 refine cN (S:=S) (x:=x.den) (args:=[(aG (fxL a))]) Tryz.call135 (λw hw=>qDen_ok a (by omega) w (inS hw 4 rfl la)) rfl rfl rfl λg2 lg2=>OkE.back (sl (sl (sl sr))) (OkE.imp rfl (cN (S:=S) (x:=y.den) (args:=[(aG (fxL b))]) Tryz.call135 (λw hw=>qDen_ok b (by omega) w (inS hw 7 rfl lb)) rfl rfl rfl λg3 lg3=>OkE.back (sl (sl (sl (sl sr)))) (OkE.imp rfl ?_)))
 refine cN (S:=S) (x:=(x.den*y.den)) (args:=[(Ci g2),(Ci g3)]) Tryz.call143 (λw hw=>Oo g2 g3 (by first|omega|(simp only [Int.natAbs_neg];omega)) (by first|omega|(simp only [Int.natAbs_neg];omega)) w (inS hw 1 rfl lg2) (inS hw 0 rfl lg3)) rfl rfl rfl λg4 lg4=>OkE.back (sl (sl (sl (sl (sl sr))))) (OkE.imp rfl (cF (S:=S) (x:=(x*y)) (args:=[(aG (Ef g1)),(Ci g4)]) Tryz.call139 (λw hw=>(Av.cast (T:=λi=>FX i) (HV x y) (NL g1 g4 (by omega) (by omega) h0xy w (inS hw 3 rfl lg1) (inS hw 0 rfl lg4)))) rfl rfl rfl λg5 lg5=>OkE.back (sl (sl (sl (sl (sl (sl (sl sr))))))) (OkE.imp rfl ?_)))
 exact IM 6 (off:=0) (vs:=fxL g5) (cs':=fxL g5) (AO rfl) rfl Tryz.sizeOf75 rfl (OkE.back (sl (sl (sl (sl (sl (sl (sl sr))))))) (OkE.nil (AC.subF (sL [4] rfl) (AC.then_ (AF.ret (AN rfl (BB (i:=6) (cs:=fxL g5) rfl rfl Tryz.isAgg75 Tryz.sizeOf75 rfl) (λw hw=>GQ (a:=(g5:FX (x*y))) hw (inS hw 0 rfl lg5) rfl)))))))
theorem UV (a b:Rat):Sz (a/b)<=Sz a+Sz b:=by
 by_cases h:b=0
 ·subst h;rw [Rat.div_def,Rat.inv_zero,Rat.mul_zero];have h1:=Nx a;exact Nat.le_trans (show Sz (0:Rat)<=1 by decide +kernel) (by omega)
 ·exact Nj h
theorem JQ  :Instr.fill ([(0,2),(2,1)].toArray[·]?) ([(Value.bool false),(Value.slice none 0 0),(Value.slice none 0 0)]).toArray []=some ([(Value.bool false),(Value.slice none 0 0),(Value.slice none 0 0)]).toArray:=by kernel_rfl
theorem VZ {x y:Rat} (a:FX x) (b:FX y) (hs:Sz x+Sz y<=16777216) (w:World) {S:Nat->Prop} (ha:Ro S w a) (hb:Ro S w b)  :Calls Tryz.prog 144 #[(aG (fxL a)),(aG (fxL b))] w (Av (FX (x/y)) S w):=by
 have s0:=DT x
 have s1:=C0 x
 have s2:=GH x
 have s3:=DT y
 have s4:=C0 y
 have s5:=GH y
 have s6:=Dp x y
 have s7:=Dp y x
 have s8:=Jc x y
 have s9:=JY x y
 have s10:=GE (x.num*((y.den:Nat):Int)) (y.num*((x.den:Nat):Int))
 have h0x:=x.den_nz
 have h0y:=y.den_nz
 have h0xy:=Nat.mul_ne_zero h0x h0y
 have la:=DF (W:=w) ha
 have lb:=DF (W:=w) hb
 refine Ah (args:=[(aG (fxL a)),(aG (fxL b))]) (L:=[Da a.z.n,Da a.m,Da b.z.n,Da b.m]) Tryz.func144 rfl rfl (AY rfl) (T8 ha (T8 hb Ar)) (AF.subF (sL [0,1] rfl) (q4 (B9 (cs:=fxL a) rfl λb1=>B9 (cs:=fxL b) rfl λb2=>al QG rfl λb3=>?_)))
 refine q6 (sL [2,3,4] rfl) (q4 (BF 1 Jn rfl (DC Tryz.call201 (λw hw=>Rx b w (inS hw 5 rfl lb)) rfl (AH (BJ (c:=(decide (y.num.sign=(0:Int)))) rfl rfl rfl) rfl (AD.nil ?_)))))
 refine AC.subF (sL [2,3,4,7] rfl) (AC.then_ ?_)
 refine AF.cond rfl (λhc0=>?_) (λhc0=>?_)
 ·replace hc0:=of_decide_eq_true hc0
  refine q4 (AH (v:=(aG ([(Value.bool false),(Value.slice none 0 0),(Value.slice none 0 0)]))) (AU (zs:=[(Value.bool false),(Value.slice none 0 0),(Value.slice none 0 0)]) (vs:=[(Value.bool false),(Value.slice none 0 0),(Value.slice none 0 0)]) (pv:=[]) (places:=[(0,2),(2,1)]) Tryz.zeroValue75 Tryz.underlying75 (λw=>by simp [Tryz.sizeOf71,Tryz.sizeOf73]) rfl (JQ )) rfl (BC rfl Tryz.sizeOf75 rfl (AD.nil (AC.subF (sL [2,3,4] rfl) (AC.then_ ?_)))))
  exact AF.ret (AC.then_ret (AN rfl (BB (i:=0) (cs:=[(Value.bool false),(Value.slice none 0 0),(Value.slice none 0 0)]) rfl rfl Tryz.isAgg75 Tryz.sizeOf75 rfl) (λw hw=>(by rw [<-Rj (a:=x) hc0];exact GQ (a:=FX.zero) hw (Yu (ZE WI) WI) rfl))))
 ·replace hc0:=of_decide_eq_false hc0
  have hy:y≠0:=λe=>hc0 (by rw [e];rfl)
  have hi:=OT hy
  have hyn:y.num.natAbs≠0:=λe=>hy (Rat.num_eq_zero.1 (by omega))
  refine AF.skip (q1 (Cw [(0,true),(1,true),(2,true),(3,true),(4,true),(7,true),(8,true),(9,true),(5,false),(6,false),(10,false),(11,false),(12,false)] (sl sr) (GO 1 Jn rfl (Aw (v:=(pP b2 0)) rfl (AA rfl Tryz.underlying75 rfl Tryz.sizeOf73 rfl) (Aw (v:=(pP b2 0)) rfl (AA rfl Tryz.underlying73 rfl Tryz.sizeOf4 rfl) ?_)))))
  refine Bm 0 (Value.bool (decide (y.num<0))) T0 rfl (GO 0 Jn rfl (Aw (v:=(pP b2 0)) rfl (AA rfl Tryz.underlying75 rfl Tryz.sizeOf73 rfl) (Aw (v:=(pP b2 1)) rfl (AA rfl Tryz.underlying73 rfl Tryz.sizeOf71 rfl) (Bm 0 (Ci b.z.n) J2 rfl (OkE.imp rfl ?_)))))
  refine cN (S:=S) (x:=y.den) (args:=[(aG (fxL b))]) Tryz.call135 (λw hw=>qDen_ok b (by omega) w (inS hw 5 rfl lb)) rfl rfl rfl λg1 lg1=>OkE.back (sl (sl sr)) (OkE.imp rfl (cZ (S:=S) (x:=(EX (decide (y.num<0)) y.den)) (args:=[(Value.bool (decide (y.num<0))),(Ci g1)]) Tryz.call193 (λw hw=>Fl (decide (y.num<0)) g1 w (inS hw 0 rfl lg1)) rfl rfl rfl λg2 lg2=>OkE.back (sl (sl (sl sr))) (OkE.imp rfl ?_)))
  refine cF (S:=S) (x:=(y⁻¹)) (args:=[(aG (Ef g2)),(Ci b.z.n)]) Tryz.call139 (λw hw=>(Av.cast (T:=λi=>FX i) (Ys hy) (NL g2 b.z.n (by rw [Bp];omega) (by omega) hyn w (inS hw 0 rfl lg2) (Vh (V4 (inS hw 7 rfl lb)))))) rfl rfl rfl λg3 lg3=>OkE.back (sl (sl (sl (sl (sl sr))))) (OkE.imp rfl ?_)
  have hz1:=Nm x (y⁻¹)
  refine cF (S:=S) (x:=(x/y)) (args:=[(aG (fxL a)),(aG (fxL g3))]) Tryz.call202 (λw hw=>(Av.cast (T:=λi=>FX i) UW (UP a g3 (by (try simp only [OP]);omega) w (inS hw 7 rfl la) (inS hw 0 rfl lg3)))) rfl rfl rfl λg4 lg4=>OkE.back (sl (sl (sl (sl (sl (sl (sl sr))))))) (OkE.imp rfl (IM 6 (off:=0) (vs:=fxL g4) (cs':=fxL g4) (AO rfl) rfl Tryz.sizeOf75 rfl (OkE.back (sl (sl (sl (sl (sl (sl (sl sr))))))) (OkE.nil ?_))))
  exact AC.subF (sL [3,4] rfl) (AC.then_ (AF.ret (AN rfl (BB (i:=6) (cs:=fxL g4) rfl rfl Tryz.isAgg75 Tryz.sizeOf75 rfl) (λw hw=>GQ (a:=(g4:FX (x/y))) hw (inS hw 0 rfl lg4) rfl))))
theorem Ws (n d:Int) (h1:-9223372036854775808<=n) (h2:n<9223372036854775808) (h3:-9223372036854775808<=d) (h4:d<9223372036854775808) (w:World) {S:Nat->Prop}  :Calls Tryz.prog 153 #[(vI n),(vI d)] w (Av (FX (((n:Int):Rat)/((d:Int):Rat))) S w):=by
 have s1:=Hc h1 h2
 have s2:=Hc h3 h4
 refine Ag (args:=[(vI n),(vI d)]) Tryz.func153 rfl rfl (AY rfl) (AF.subF (sL [0,1] rfl) (q4 (al QG rfl λb1=>AD.nil (q2 ?_))))
 refine AJ rfl (cF (S:=S) (x:=((n:Int):Rat)) (args:=[(vI n)]) Tryz.call78 (λw hw=>Of n (by omega) (by omega) w) rfl rfl rfl λg1 lg1=>AJ rfl (cF (S:=S) (x:=((d:Int):Rat)) (args:=[(vI d)]) Tryz.call78 (λw hw=>Of d (by omega) (by omega) w) rfl rfl rfl λg2 lg2=>?_))
 have hz1:=UV ((n:Int):Rat) ((d:Int):Rat)
 exact cF (S:=S) (x:=(((n:Int):Rat)/((d:Int):Rat))) (args:=[(aG (fxL g1)),(aG (fxL g2))]) Tryz.call144 (λw hw=>VZ g1 g2 (by (try simp only [OP]);omega) w (inS hw 2 rfl lg1) (inS hw 0 rfl lg2)) rfl rfl rfl λg3 lg3=>IM 6 (off:=0) (vs:=fxL g3) (cs':=fxL g3) (AO rfl) rfl Tryz.sizeOf75 rfl (AD.nil (AC.subF (sL [4] rfl) (AC.then_ (AF.ret (AN rfl (BB (i:=6) (cs:=fxL g3) rfl rfl Tryz.isAgg75 Tryz.sizeOf75 rfl) (λw hw=>GQ (a:=(g3:FX (((n:Int):Rat)/((d:Int):Rat)))) hw (inS hw 0 rfl lg3) rfl))))))
theorem RU {x:Rat} (a:FX x) (hs:Sz x<=16777216) (w:World) {S:Nat->Prop} (ha:Ro S w a)  :Calls Tryz.prog 75 #[(aG (fxL a))] w (An w (Value.string (txB (Lr x)))):=by
 have s0:=DT x
 have s1:=C0 x
 have s2:=GH x
 have hl1:=U7 x.num
 have hl2:=ON x.den
 have la:=DF (W:=w) ha
 refine Ah (args:=[(aG (fxL a))]) (L:=[Da a.z.n,Da a.m]) Tryz.func75 rfl rfl (AY rfl) (T8 ha Ar) (AF.subF (sL [0] rfl) (q4 (B9 (cs:=fxL a) rfl λb1=>asg' rfl (q6 (sL [1,2] rfl) ?_))))
 refine q4 (AH (v:=(pP b1 2)) (AA rfl Tryz.underlying75 rfl Tryz.sizeOf71 rfl) rfl (BD 0 (Ci a.m) J2 rfl (AH (v:=(vN ((dg (x.den-1)).length))) (AE rfl Tryz.underlying71) rfl (AH (BJ (c:=(decide (((dg (x.den-1)).length)=0))) rfl rfl (RG (a:=(dg (x.den-1)).length) (b:=0))) rfl (AD.nil ?_)))))
 refine AC.subF (sL [1,2,6] rfl) (AC.then_ ?_)
 refine AF.cond rfl (λhc0=>?_) (λhc0=>?_)
 ·replace hc0:=of_decide_eq_true hc0
  have he:Lr x=FA x.num:=by unfold Lr;rw [if_pos (Mp hc0)]
  refine q4 (AH (v:=(pP b1 0)) (AA rfl Tryz.underlying75 rfl Tryz.sizeOf73 rfl) rfl (Gi 0 (Ef a.z) Tc rfl (DC Tryz.call133 (λw hw=>MT a.z (by omega) w (V4 (inS hw 1 rfl la))) rfl (asg' rfl (AD.nil ?_)))))
  exact AC.subF (sL [1,2] rfl) (AC.then_ (AF.ret (AC.then_ret (AN rfl (AQ (v:=(Value.string (txB (FA x.num)))) rfl) (λw hw=>⟨by rw [he],hw.out⟩)))))
 ·replace hc0:=of_decide_eq_false hc0
  have he:Lr x=FA x.num++[47]++Lib.decDigits x.den:=by unfold Lr;rw [if_neg (G6 hc0),List.append_assoc];rfl
  refine AF.skip (q1 (Cw [(0,true),(1,true),(4,true),(2,false),(3,true),(5,false),(6,false),(7,true),(8,true)] sr (Aw (v:=(pP b1 0)) rfl (AA rfl Tryz.underlying75 rfl Tryz.sizeOf73 rfl) (Qf 0 (Ef a.z) Tc rfl (GO 0 Jn rfl ?_)))))
  refine OkE.imp rfl (DC Tryz.call133 (λw hw=>MT a.z (by omega) w (V4 (inS hw 1 rfl la))) rfl (OkE.back sr (Aw (v:=(Value.string (txB (FA x.num++[47])))) rfl (CH (r:=(txB (FA x.num++[47]))) rfl rfl (by rw [C7];show _+1<=_;omega) (DA _ [47])) (OkE.imp rfl (cN (S:=S) (x:=x.den) (args:=[(aG (fxL a))]) Tryz.call135 (λw hw=>qDen_ok a (by omega) w (inS hw 1 rfl la)) rfl rfl rfl λg1 lg1=>?_)))))
  refine OkE.back (sl sr) (OkE.imp rfl (DC Tryz.call134 (λw hw=>JH g1 (by first|omega|(simp only [Int.natAbs_neg];omega)) w (inS hw 0 rfl lg1)) rfl (OkE.back (sl sr) (Aw (v:=(Value.string (txB (FA x.num++[47]++Lib.decDigits x.den)))) rfl (CH (r:=(txB (FA x.num++[47]++Lib.decDigits x.den))) rfl rfl (by rw [C7,C7,List.length_append];show _+1+_<=_;omega) (DA _ _)) (pS' rfl ?_)))))
  exact OkE.nil (AC.subF (sL [1,2] rfl) (AC.then_ (AF.ret (AN rfl (AQ (v:=(Value.string (txB (FA x.num++[47]++Lib.decDigits x.den)))) rfl) (λw hw=>⟨by rw [he],hw.out⟩)))))
end
section
theorem Uc (a b:Int):(decide (a.natAbs=b.natAbs)&&((decide (a<0) == decide (b<0))&&true))=decide (a=b):=by
  by_cases e:a=b
  · subst e;simp
  · rw [decide_eq_false e]
    by_cases h1:a<0<;>by_cases h2:b<0<;>simp [h1,h2]<;>omega
theorem UF (D:Nat) (a b:Int):D4 Tryz.prog (D+4) 46 (.agg (BQ a).toArray) (.agg (BQ b).toArray) (decide (a=b)):=by
  rw [<-Uc]
  exact D4.struct Tryz.underlying46 Tryz.stoodInHeld46 (GY.agg (us:=Aa a.natAbs) (bs:=Aa b.natAbs) (by decide) Tryz.isAgg44 Tryz.sizeOf44 rfl rfl (M9 D _ _) (GY.one (by decide) Tryz.isAgg4 rfl rfl (D4.bool Tryz.underlying4) GY.nil))
theorem SU (a b:Rat):(decide (a.num=b.num)&&(decide (a.den-1=b.den-1)&&true))=decide (a=b):=by
  by_cases e:a=b
  · subst e;simp
  · rw [decide_eq_false e]
    have h1:=a.den_pos
    have h2:=b.den_pos
    simp only [Bool.and_true,Bool.and_eq_false_iff,decide_eq_false_iff_not]
    apply Classical.byContradiction
    intro h
    refine e (Rat.ext ?_ ?_)
    · exact Classical.byContradiction λk=>h (.inl k)
    · exact Classical.byContradiction λk=>h (.inr (by omega))
theorem Mo (D:Nat) (a b:Rat):D4 Tryz.prog (D+5) 48 (.agg (Ap a).toArray) (.agg (Ap b).toArray) (decide (a=b)):=by
  rw [<-SU]
  exact D4.struct Tryz.underlying48 Tryz.stoodInHeld48 (GY.agg (us:=BQ a.num) (bs:=BQ b.num) (by decide) Tryz.isAgg46 Tryz.sizeOf46 rfl rfl (UF D _ _) (GY.agg (us:=Aa (a.den-1)) (bs:=Aa (b.den-1)) (by decide) Tryz.isAgg42 Tryz.sizeOf42 rfl rfl (IV (D+2) _ _) GY.nil))
instance:DecidableEq Pt:=λa b=>decidable_of_iff (a.x=b.x/\a.y=b.y) ⟨λh=>Pt.ext h.1 h.2,λh=>h▸⟨rfl,rfl⟩⟩
theorem W_ (a b:Pt):(decide (a.x=b.x)&&(decide (a.y=b.y)&&true))=decide (a=b):=by
  by_cases e:a=b
  · subst e;simp
  · rw [decide_eq_false e]
    simp only [Bool.and_true,Bool.and_eq_false_iff,decide_eq_false_iff_not]
    apply Classical.byContradiction
    intro h
    refine e (Pt.ext ?_ ?_)
    · exact Classical.byContradiction λk=>h (.inl k)
    · exact Classical.byContradiction λk=>h (.inr k)
theorem WN (D:Nat) (a b:Pt):D4 Tryz.prog (D+6) 51 (.agg (BE a).toArray) (.agg (BE b).toArray) (decide (a=b)):=by
  rw [<-W_]
  exact D4.struct Tryz.underlying51 Tryz.stoodInHeld51 (GY.agg (us:=Ap a.x) (bs:=Ap b.x) (by decide) Tryz.isAgg48 Tryz.sizeOf48 rfl rfl (Mo D _ _) (GY.agg (us:=Ap a.y) (bs:=Ap b.y) (by decide) Tryz.isAgg48 Tryz.sizeOf48 rfl rfl (Mo D _ _) GY.nil))
section
variable {P:Program}
def QJ (P:Program) (D:Nat) (e:TypeId) (c:Nat) (xs ys:List Value) (is:List Nat) (b:Bool):Prop:=∀w,(Go.Op.eqItems D e c xs.toArray ys.toArray is).run P w=.ok b w
theorem QJ.nil {D c:Nat} {e:TypeId} {xs ys:List Value}:QJ P D e c xs ys [] true:=λw=>rfl
theorem QJ.cons {D c i:Nat} {e:TypeId} {is:List Nat} {xs ys us bs:List Value} {r s:Bool} (hg:∀w,(isAgg e).run P w=.ok true w) (hs:∀w,(sizeOf e).run P w=.ok c w)
    (ha:(xs.drop (i*c)).take c=us) (hb:(ys.drop (i*c)).take c=bs) (h:D4 P D e (.agg us.toArray) (.agg bs.toArray) r) (h2:QJ P D e c xs ys is s):QJ P D e c xs ys (i::is) (r&&s):=λw=>by
  have ex:∀l:List Value,l.toArray.extract (i*c) (i*c+c)=((l.drop (i*c)).take c).toArray:=λl=>by simp [List.extract_eq_take_drop]
  have e1:(part e xs.toArray (i*c)).run P w=.ok (.agg us.toArray) w:=by simp [part,hg,hs,ex,ha]
  have e2:(part e ys.toArray (i*c)).run P w=.ok (.agg bs.toArray) w:=by simp [part,hg,hs,ex,hb]
  simp only [Go.Op.eqItems,Sem.run_bind,e1,e2,Result.andThen_ok,h w]
  cases r
  · simp
  · simp [h2 w]
theorem D4.array {D n c:Nat} {T e:TypeId} {xs ys:List Value} {b:Bool} (hu:P.underlying T=some (.array n e)) (hi:∃i,P.info? e=some i) (hc:P.cellsOf e=c) (h:QJ P D e c xs ys (List.range n) b) :
    D4 P (D+1) T (.agg xs.toArray) (.agg ys.toArray) b:=λw=>by
  obtain ⟨i,hi⟩:=hi
  rw [Go.run_equalIn_array w D xs.toArray ys.toArray hu hi,hc]
  exact h w
end
section
variable {P:Program} {n:Nat} {F:List (Nat×Value)} {w0:A7} {L:List As} {x y:Operand} {d:Option Tmp} {t:TypeId} {p:String} {af:Array Edge} {g:Option (Nat×Bool)}
theorem Dy {xs ys:List Value} {tx ty:TypeId} (hx:evF F x=some (.agg xs.toArray)) (hy:evF F y=some (.agg ys.toArray)) (hg:P.eqGuardType P.depth tx=false) (hc:D4 P 10000 tx (.agg xs.toArray) (.agg ys.toArray) true) :
    Ex P n F w0 L ⟨d,.binOp .neq tx x y ty,t,p,af,g⟩ (.bool false):=JJ hx hy hg hc
theorem Le {xs ys:List Value} {c e:Bool} {tx ty:TypeId} (hx:evF F x=some (.agg xs.toArray)) (hy:evF F y=some (.agg ys.toArray)) (hg:P.eqGuardType P.depth tx=false) (hc:D4 P 10000 tx (.agg xs.toArray) (.agg ys.toArray) c) (he:(!c)=e) :
    Ex P n F w0 L ⟨d,.binOp .neq tx x y ty,t,p,af,g⟩ (.bool e):=he▸JJ hx hy hg hc
end
end
section
structure QD where
  n:Int
  d:Nat
structure PD where
  x:QD
  y:QD
def HF (q:QD):List Value:=[.int .i64 q.n,.int .u32 (q.d:Nat)]
def Es (p:PD):List Value:=HF p.x++HF p.y
def QD.ok (q:QD):Prop := -9223372036854775808<=q.n/\q.n<9223372036854775808/\q.d<4294967296
def PD.ok (p:PD):Prop:=p.x.ok/\p.y.ok
def I3 (q:QD):Rat:=((q.n:Int):Rat)/(((max q.d 1:Nat):Int):Rat)
def F4 (p:PD):Pt:=⟨I3 p.x,I3 p.y⟩
theorem Rn {q:QD} (h:q.ok):Sz (I3 q)<=4:=by
  obtain ⟨h1,h2,h3⟩:=h
  have s1:=Hc h1 h2
  have s2:=Hc (z:=((max q.d 1:Nat):Int)) (by omega) (by omega)
  have hb:(((max q.d 1:Nat):Int):Rat)≠0:=λe=>by
    have:((max q.d 1:Nat):Int)=0:=by exact_mod_cast e
    omega
  have:=Nj (a:=((q.n:Int):Rat)) hb
  unfold I3
  omega
theorem TQ {p:PD} (h:p.ok):UK (F4 p)<=4:=WC (Rn h.1) (Rn h.2)
section
variable {P:Program} {w:World} {r:Reach} {base:Nat}
end
theorem Uz {n:Int} (h:IntKind.i64.has n):-9223372036854775808<=n/\n<9223372036854775808:=by
  simp only [IntKind.has,IntKind.min,IntKind.max,IntKind.bits,IntKind.signed] at h;simp at h;omega
theorem Vb {n:Int} (h:IntKind.u32.has n):0<=n/\n<4294967296:=by
  simp only [IntKind.has,IntKind.min,IntKind.max,IntKind.bits,IntKind.signed] at h;simp at h;omega
section
variable {P:Program} {w:World} {r:Reach} {base:Nat} {t:TypeId} {v:Value} {ts:List TypeId}
end
end
section
set_option maxRecDepth 100000
theorem TR (q:QD) (h:q.ok) (w:World)  :Calls Tryz.prog 96 #[(aG (HF q))] w (An w (aG (Ap (I3 q)))):=by
 obtain ⟨h1,h2,h3⟩:=h
 refine Ag (args:=[(aG (HF q))]) Tryz.func96 rfl rfl (AY rfl) (AF.subF (sL [0] rfl) (q4 (B9 (cs:=HF q) rfl λb1=>al LP rfl λb2=>q3 (sL [1,2] rfl) ?_)))
 refine AH (v:=(pP b1 0)) (AA rfl Tryz.underlying99 rfl Tryz.sizeOf2 rfl) rfl (BD 1 (vI q.n) YI rfl (AH (v:=(pP b1 1)) (AA rfl Tryz.underlying99 rfl Tryz.sizeOf97 rfl) rfl (BD 1 (vK .u32 q.d) W9 rfl (AH (Ds (c:=((max q.d 1:Nat):Int)) rfl rfl (by split<;>omega)) rfl (AH (Au (c:=((max q.d 1:Nat):Int)) rfl Tryz.underlying97 Tryz.underlying2 (D9 (by omega))) rfl ?_)))))
 refine ck' Tryz.call166 (V_ (q.n:Int) ((max q.d 1:Nat):Int) (by omega) (by omega) (by omega) (by omega) (by omega)) rfl (AJ rfl (AH (AS (v:=(aG (Ap (((q.n:Int):Rat)/(((max q.d 1:Nat):Int):Rat))))) rfl rfl) rfl (AH (AS (v:=(vI 0)) rfl rfl) rfl (al LP rfl λb3=>BC rfl Tryz.sizeOf48 rfl ?_))))
 refine asg' rfl (q3 (sL [2,3] rfl) (BF 0 Fi rfl (Ej rfl Tryz.sizeOf48 rfl (AD.nil (AC.subF (sL [2,3] rfl) ?_)))))
 exact AC.then_ (AF.ret (AN rfl (BB (i:=1) (cs:=Ap (((q.n:Int):Rat)/(((max q.d 1:Nat):Int):Rat))) rfl rfl Tryz.isAgg48 Tryz.sizeOf48 rfl) (λw hw=>⟨rfl,hw.out⟩)))
theorem D0 (x0:Rat) (x1:Rat):Instr.fill ([(0,5),(5,5)].toArray[·]?) (BE (⟨0,0⟩:Pt)).toArray [(0,.agg (Ap x0).toArray),(1,.agg (Ap x1).toArray)]=some (Ap x0++Ap x1).toArray:=by kernel_rfl
theorem Wa (p:PD) (h:p.ok) (w:World)  :Calls Tryz.prog 39 #[(aG (Es p))] w (An w (aG (BE (F4 p)))):=by
 have h1:=h.1
 have h2:=h.2
 refine Ag (args:=[(aG (Es p))]) Tryz.func39 rfl rfl (AY rfl) (AF.subF (sL [0] rfl) (q4 (B9 (cs:=Es p) rfl λb1=>al X4 rfl λb2=>q6 (sL [1,2] rfl) ?_)))
 refine Cw [(0,true),(1,true),(3,true),(4,true),(2,false),(5,false),(6,true),(7,false)] (sl sr) (Aw (v:=(pP b1 0)) rfl (AA rfl Tryz.underlying101 rfl Tryz.sizeOf99 rfl) (Qf 0 (HF p.x) QB rfl (Aw (v:=(pP b1 2)) rfl (AA rfl Tryz.underlying101 rfl Tryz.sizeOf99 rfl) (Qf 0 (HF p.y) QB rfl (OkE.imp rfl ?_)))))
 refine ck' Tryz.call96 (TR p.x (by assumption)) rfl (OkE.back (sl sr) (OkE.imp rfl (ck' Tryz.call96 (TR p.y (by assumption)) rfl (OkE.back (sl sr) (Aw (v:=(aG (Ap (I3 p.x)++Ap (I3 p.y)))) rfl (AU (zs:=BE (⟨0,0⟩:Pt)) (vs:=Ap (I3 p.x)++Ap (I3 p.y)) (pv:=[(0,(aG (Ap (I3 p.x)))),(1,(aG (Ap (I3 p.y))))]) (places:=[(0,5),(5,5)]) Tryz.zeroValue51 Tryz.underlying51 (λw=>by simp [Tryz.sizeOf48]) rfl (D0 (I3 p.x) (I3 p.y))) ?_)))))
 refine OkE.imp rfl (BC rfl Tryz.sizeOf51 rfl (OkE.back (sl sr) (OkE.nil (AC.subF (sL [2] rfl) (AC.then_ ?_)))))
 exact AF.ret (AN rfl (BB (i:=0) (cs:=Ap (I3 p.x)++Ap (I3 p.y)) rfl rfl Tryz.isAgg51 Tryz.sizeOf51 rfl) (λw hw=>⟨rfl,hw.out⟩))
end
theorem GG {k:Nat} (h:k<10):(UInt8.ofNat (48+k)).toNat=48+k:=by
  rw [UInt8.toNat_ofNat']
  exact Nat.mod_eq_of_lt (by omega)
theorem Tp:∀(u:Nat) {c:UInt8},c∈Lib.decDigits u->48<=c.toNat/\c.toNat<=57:=λu=>by
  induction u using Nat.strongRecOn with
  | _ u ih =>
    intro c hc
    by_cases h:u<10
    · rw [Lib.decDigits,dif_pos h,List.mem_singleton] at hc
      subst hc
      rw [GG h];omega
    · rw [Lib.decDigits,dif_neg h] at hc
      rcases List.mem_append.1 hc with hc|hc
      · exact ih _ (by omega) hc
      · rcases List.mem_singleton.1 hc with rfl
        rw [GG (Nat.mod_lt _ (by decide))];omega
def vD (l:List UInt8):Nat:=l.foldl (λa c=>a*10+(c.toNat-48)) 0
theorem Tr (u:Nat):vD (Lib.decDigits u)=u:=by
  induction u using Nat.strongRecOn with
  | _ u ih =>
    by_cases h:u<10
    · rw [Lib.decDigits,dif_pos h]
      show 0*10+((UInt8.ofNat (48+u)).toNat-48)=u
      rw [GG h];omega
    · rw [Lib.decDigits,dif_neg h]
      have h1:=ih (u/10) (by omega)
      unfold vD at h1 ⊢
      rw [List.foldl_append,h1]
      show u/10*10+((UInt8.ofNat (48+u%10)).toNat-48)=u
      rw [GG (Nat.mod_lt _ (by decide))];omega
theorem LR {u v:Nat} (h:Lib.decDigits u=Lib.decDigits v):u=v:=by rw [<-Tr u,h,Tr]
theorem Mj (u:Nat) (l:List UInt8):Lib.decDigits u≠45::l:=λh=>by
  have:=(Tp u (c:=45) (by rw [h];exact List.mem_cons_self)).1
  exact absurd this (by decide)
theorem US {y z:Int} (h:FA y=FA z):y=z:=by
  unfold FA at h
  split at h<;>split at h
  · injection h with _ h
    have:=LR h;omega
  · exact absurd h.symm (Mj _ _)
  · exact absurd h (Mj _ _)
  · have:=LR h;omega
theorem LJ (z:Int):∀c∈FA z,(c != 47)=true:=λc hc=>by
  have key:∀u,c∈Lib.decDigits u->(c != 47)=true:=λu hu=>by
    have h1:=(Tp u hu).1
    rw [bne_iff_ne]
    rintro rfl
    exact absurd h1 (by decide)
  unfold FA at hc
  split at hc
  · rcases List.mem_cons.1 hc with rfl|hc
    · decide
    · exact key _ hc
  · exact key _ hc
theorem L7 (q:Rat):(Lr q).takeWhile (· != 47)=FA q.num:=by
  unfold Lr
  split
  · have h:=List.takeWhile_append_of_pos (l₂:=[]) (LJ q.num)
    simpa using h
  · rw [List.takeWhile_append_of_pos (LJ q.num)]
    simp
theorem M6 (q:Rat):(Lr q).dropWhile (· != 47)=if q.den-1=0 then [] else 47::Lib.decDigits q.den:=by
  unfold Lr
  split
  · have h:=List.dropWhile_append_of_pos (l₂:=[]) (LJ q.num)
    simpa using h
  · rw [List.dropWhile_append_of_pos (LJ q.num)]
    simp
theorem UR {q r:Rat} (h:Lr q=Lr r):q=r:=by
  have h1:FA q.num=FA r.num:=by rw [<-L7,h,L7]
  have h2:=M6 q
  rw [h,M6] at h2
  have hq:=q.den_pos
  have hr:=r.den_pos
  refine Rat.ext (US h1) ?_
  split at h2<;>split at h2
  · omega
  · cases h2
  · cases h2
  · injection h2 with _ h2
    exact (LR h2).symm
theorem Uq (a b:List UInt8):((txB a).toList == (txB b).toList)=(a == b):=by
  rw [ByteArray.toList_eq,ByteArray.toList_eq];rfl
theorem UA (q r:Rat):((txB (Lr q)).toList == (txB (Lr r)).toList)=decide (q=r):=by
  rw [Uq]
  by_cases h:q=r
  · rw [h];simp
  · rw [decide_eq_false h,beq_eq_false_iff_ne]
    exact λk=>h (UR k)
end Go.Proofs.YtpgncndhhhllfaaGreatDoor
