import Derived.ChangeKeysEq
import Derived.Test.YtpgncndhhhllfaaGreatDoorRows
import Derived.Laws.Strings
import Derived.Test.YtpgncndhhhllfaaGreatDoorPart06
import Derived.Test.YtpgncndhhhllfaaGreatDoorPart20
import Derived.Test.YtpgncndhhhllfaaGreatDoorPart21
import Derived.Test.YtpgncndhhhllfaaGreatDoorPart25
namespace Go.Proofs.YtpgncndhhhllfaaGreatDoor
open Go Go.RowKit Go.Proofs.Tryz
set_option linter.unusedVariables false
set_option linter.unusedSimpArgs false
section
set_option maxRecDepth 100000
theorem Oq  (w:World) {S:Nat->Prop}  :Calls Tryz.prog 191 #[] w (BH (NX 1) S w):=by
 refine Aa (args:=[]) Tryz.func191 rfl rfl (AV rfl) (AE.subF sN (q4 (asg' rfl (AD.nil (q2 ?_)))))
 exact cN (S:=S) (x:=1) (args:=[(Value.int .u64 (1:Int))]) Tryz.call194 (λw hw=>Mz 1 (by first|omega|(simp only [Int.natAbs_neg];omega)) w) rfl rfl rfl λg1 lg1=>asg' rfl (AD.nil (AC.subF (sL [0] rfl) (AC.then_ (AE.ret (AJ rfl (AS (v:=(Ck g1)) rfl) (λw hw=>GT (a:=(g1:NX 1)) hw (inS hw 0 rfl lg1) rfl))))))
theorem qDen_ok {x:Rat} (a:FX x) (hs:Sz x<=16777216) (w:World) {S:Nat->Prop} (ha:Ro S w a)  :Calls Tryz.prog 135 #[(aG (fxL a))] w (BH (NX x.den) S w):=by
 have s0:=Cj x
 have s1:=CP x
 have s2:=F7 x
 have h1w:=HW
 have la:=Cx (W:=w) ha
 refine Aj (args:=[(aG (fxL a))]) (L:=[De a.z.n,De a.m]) Tryz.func135 rfl rfl (AV rfl) (TB ha Ax) (AE.subF (sL [0] rfl) (q4 (BU (cs:=fxL a) rfl λb1=>asg' rfl (q6 (sL [1,2] rfl) ?_))))
 refine CS [(0,true),(1,true),(2,false),(3,false),(4,true)] sr (Ap (v:=(pP b1 2)) rfl (AA rfl Tryz.underlying75 rfl Tryz.sizeOf71 rfl) (Ba 0 (Ck a.m) JY rfl (OkE.imp rfl (cN (S:=S) (x:=1) (args:=[]) Tryz.call191 (λw hw=>Oq w) rfl rfl rfl λg1 lg1=>OkE.back (sl sr) ?_))))
 refine OkE.imp rfl (cN (S:=S) (x:=x.den) (args:=[(Ck a.m),(Ck g1)]) Tryz.call190 (λw hw=>(BH.cast (T:=λi=>NX i) (Nat.sub_add_cancel x.den_pos) (UC a.m g1 (by first|omega|(simp only [Int.natAbs_neg];omega)) (by first|omega|(simp only [Int.natAbs_neg];omega)) w (YD (inS hw 2 rfl la)) (inS hw 0 rfl lg1)))) rfl rfl rfl λg2 lg2=>OkE.back (sl (sl sr)) (pS' rfl (OkE.nil (AC.subF (sL [2] rfl) ?_))))
 exact AC.then_ (AE.ret (AJ rfl (AS (v:=(Ck g2)) rfl) (λw hw=>GT (a:=(g2:NX x.den)) hw (inS hw 0 rfl lg2) rfl)))
theorem Lo {n:Int} {k:Nat} (z:ZX n) (d:NX k) (hn:nw n.natAbs<=67108864) (hk:nw k<=67108864) (h0:k≠0) (w:World) {S:Nat->Prop} (hz:Ro S w z) (hd:Ro S w d)  :Calls Tryz.prog 139 #[(aG (Ed z)),(Ck d)] w (BH (FX (mkRat n k)) S w):=by
 have hg:0<Nat.gcd n.natAbs k:=Nat.pos_of_ne_zero λh=>h0 (Nat.eq_zero_of_gcd_eq_zero_right h)
 have hgw:nw (Nat.gcd n.natAbs k)<=nw k:=CY (Nat.gcd_le_right _ (Nat.pos_of_ne_zero h0))
 have hqw:nw (k/Nat.gcd n.natAbs k)<=nw k:=CY (Nat.div_le_self _ _)
 have hq1:1<=k/Nat.gcd n.natAbs k:=Nat.div_pos (Nat.gcd_le_right _ (Nat.pos_of_ne_zero h0)) hg
 have lz:=Cx (W:=w) hz
 have ld:=Cx (W:=w) hd
 refine Aj (args:=[(aG (Ed z)),(Ck d)]) (L:=[De z.n,De d]) Tryz.func139 rfl rfl (AV rfl) (WS hz (XI hd Ax)) (AE.subF (sL [0,1] rfl) (q4 (BU (cs:=Ed z) rfl λb1=>al Pp rfl λb2=>q3 (sL [1,2,4] rfl) ?_)))
 refine AK (v:=(pP b1 1)) (AA rfl Tryz.underlying73 rfl Tryz.sizeOf71 rfl) rfl (BJ 1 (Ck z.n) JY rfl (AQ rfl (cN (S:=S) (x:=(Nat.gcd n.natAbs k)) (args:=[(Ck z.n),(Ck d)]) Tryz.call195 (λw hw=>Tz z.n d (by first|omega|(simp only [Int.natAbs_neg];omega)) (by first|omega|(simp only [Int.natAbs_neg];omega)) w (U4 (inS hw 2 rfl lz)) (inS hw 3 rfl ld)) rfl rfl rfl λg1 lg1=>asg' rfl (q3 (sL [1,2,4,5] rfl) ?_))))
 refine AK (v:=(pP b1 1)) (AA rfl Tryz.underlying73 rfl Tryz.sizeOf71 rfl) rfl (BJ 2 (Ck z.n) JY rfl (AQ rfl (cD (S:=S) (u:=(n.natAbs/(Nat.gcd n.natAbs k))) (v:=(n.natAbs%(Nat.gcd n.natAbs k))) (args:=[(Ck z.n),(Ck g1)]) Tryz.call196 (λw hw=>OV z.n g1 hg (by omega) (by omega) w (U4 (inS hw 3 rfl lz)) (inS hw 0 rfl lg1)) rfl rfl rfl λg2 lg2=>AQ rfl (AK (AZ (v:=(Ck g2.q)) rfl rfl) rfl ?_))))
 refine AK (AZ (v:=(Ck g2.r)) rfl rfl) rfl (asg' rfl (asg' rfl (q3 (sL [1,2,4,5,6] rfl) (AQ rfl (AQ rfl ?_)))))
 refine cD (S:=S) (u:=(k/(Nat.gcd n.natAbs k))) (v:=(k%(Nat.gcd n.natAbs k))) (args:=[(Ck d),(Ck g1)]) Tryz.call196 (λw hw=>OV d g1 hg (by omega) (by omega) w (inS hw 6 rfl ld) (inS hw 2 rfl lg1)) rfl rfl rfl λg3 lg3=>AQ rfl (AK (AZ (v:=(Ck g3.q)) rfl rfl) rfl (AK (AZ (v:=(Ck g3.r)) rfl rfl) rfl (asg' rfl (asg' rfl ?_))))
 refine q3 (sL [1,2,4,5,6,8] rfl) (AK (v:=(pP b1 0)) (AA rfl Tryz.underlying73 rfl Tryz.sizeOf4 rfl) rfl (BJ 6 (Value.bool (decide (n<0))) LT rfl (AQ rfl (cZ (S:=S) (x:=((mkRat n k).num)) (args:=[(Value.bool (decide (n<0))),(Ck g2.q)]) Tryz.call193 (λw hw=>(BH.cast (T:=λi=>ZX i) (S4 h0) (Fq (decide (n<0)) g2.q w (Wg (inS hw 2 rfl lg2))))) rfl rfl rfl λg4 lg4=>AQ rfl ?_))))
 refine cN (S:=S) (x:=1) (args:=[]) Tryz.call191 (λw hw=>Oq w) rfl rfl rfl λg5 lg5=>cN (S:=S) (x:=((mkRat n k).den-1)) (args:=[(Ck g3.q),(Ck g5)]) Tryz.call197 (λw hw=>(BH.cast (T:=λi=>NX i) (RZ h0) (TQ g3.q g5 hq1 (by omega) w (Wg (inS hw 2 rfl lg3)) (inS hw 0 rfl lg5)))) rfl rfl rfl λg6 lg6=>AK (v:=(aG (Ed g4++[(Ck g6)]))) (AU (zs:=[(Value.bool false),(Value.slice none 0 0),(Value.slice none 0 0)]) (vs:=Ed g4++[(Ck g6)]) (pv:=[(0,(aG (Ed g4))),(1,(Ck g6))]) (places:=[(0,2),(2,1)]) Tryz.zeroValue75 Tryz.underlying75 (λw=>by simp [Tryz.sizeOf71,Tryz.sizeOf73]) rfl rfl) rfl (Hp 8 (off:=0) (vs:=Ed g4++[(Ck g6)]) (cs':=Ed g4++[(Ck g6)]) (AW rfl) rfl Tryz.sizeOf75 rfl (AD.nil (AC.subF (sL [1,2,4,5] rfl) ?_)))
 exact AC.then_ (AE.ret (AJ rfl (Au (i:=8) (cs:=Ed g4++[(Ck g6)]) rfl rfl Tryz.isAgg75 Tryz.sizeOf75 rfl) (λw hw=>GT (a:=((FX.mk g4 g6):FX (mkRat n k))) hw (XZ (inS hw 2 rfl lg4) (inS hw 0 rfl lg6)) rfl)))
theorem Gh {r0:Int} (x0:ZX r0):Instr.fill ([(0,2),(2,1)].toArray[·]?) ([(Value.bool false),(Value.slice none 0 0),(Value.slice none 0 0)]).toArray [(0,.agg (Ed x0).toArray)]=some (Ed x0++[(Value.slice none 0 0)]).toArray:=by kernel_rfl
theorem OY (z:Int) (hz:-9223372036854775808<=z) (hz2:z<9223372036854775808) (w:World) {S:Nat->Prop}  :Calls Tryz.prog 78 #[(vI z)] w (BH (FX ((z:Int):Rat)) S w):=by
 refine Aa (args:=[(vI z)]) Tryz.func78 rfl rfl (AV rfl) (AE.subF (sL [0] rfl) (q4 (al Pp rfl λb1=>AD.nil (q2 ?_))))
 refine AQ rfl (cZ (S:=S) (x:=(((z:Int):Rat).num)) (args:=[(vI z)]) Tryz.call138 (λw hw=>(BH.cast (T:=λi=>ZX i) (show z=((z:Int):Rat).num from rfl) (Vo z (by omega) (by omega) w))) rfl rfl rfl λg1 lg1=>AK (v:=(aG (Ed g1++[(Value.slice none 0 0)]))) (AU (zs:=[(Value.bool false),(Value.slice none 0 0),(Value.slice none 0 0)]) (vs:=Ed g1++[(Value.slice none 0 0)]) (pv:=[(0,(aG (Ed g1)))]) (places:=[(0,2),(2,1)]) Tryz.zeroValue75 Tryz.underlying75 (λw=>by simp [Tryz.sizeOf71,Tryz.sizeOf73]) rfl (Gh g1)) rfl (C6 rfl Tryz.sizeOf75 rfl (AD.nil (AC.subF (sL [2] rfl) ?_))))
 exact AC.then_ (AE.ret (AJ rfl (Au (i:=1) (cs:=Ed g1++[(Value.slice none 0 0)]) rfl rfl Tryz.isAgg75 Tryz.sizeOf75 rfl) (λw hw=>GT (a:=((FX.mk g1 NX.zero):FX ((z:Int):Rat))) hw (XZ (inS hw 0 rfl lg1) VJ) rfl)))
theorem RN {x:Rat} (a:FX x) (w:World) {S:Nat->Prop} (ha:Ro S w a)  :Calls Tryz.prog 201 #[(aG (fxL a))] w (Al w (vI x.num.sign)):=by
 have la:=Cx (W:=w) ha
 refine Aj (args:=[(aG (fxL a))]) (L:=[De a.z.n,De a.m]) Tryz.func201 rfl rfl (AV rfl) (TB ha Ax) (AE.subF (sL [0] rfl) (q4 (BU (cs:=fxL a) rfl λb1=>asg' rfl (q3 (sL [1,2] rfl) ?_))))
 refine AK (v:=(pP b1 0)) (AA rfl Tryz.underlying75 rfl Tryz.sizeOf73 rfl) rfl (Cf 0 (Ed a.z) QX rfl (CN Tryz.call246 (λw hw=>Q7 a.z w (U_ (inS hw 1 rfl la))) rfl (asg' rfl (AD.nil (AC.subF (sL [2] rfl) ?_)))))
 exact AC.then_ (AE.ret (AJ rfl (AS (v:=(vI x.num.sign)) rfl) (λw hw=>⟨rfl,hw.out⟩)))
theorem Td {x y:Rat} (a:FX x) (b:FX y) (hs:Sz x+Sz y<=16777216) (w:World) {S:Nat->Prop} (ha:Ro S w a) (hb:Ro S w b)  :Calls Tryz.prog 202 #[(aG (fxL a)),(aG (fxL b))] w (BH (FX (x*y)) S w):=by
 have s0:=Cj x
 have s1:=CP x
 have s2:=F7 x
 have s3:=Cj y
 have s4:=CP y
 have s5:=F7 y
 have s6:=CH x y
 have s7:=CH y x
 have s8:=Fs x y
 have s9:=Gb x y
 have s10:=DZ (x.num*((y.den:Nat):Int)) (y.num*((x.den:Nat):Int))
 have h0x:=x.den_nz
 have h0y:=y.den_nz
 have h0xy:=Nat.mul_ne_zero h0x h0y
 have la:=Cx (W:=w) ha
 have lb:=Cx (W:=w) hb
 refine Aj (args:=[(aG (fxL a)),(aG (fxL b))]) (L:=[De a.z.n,De a.m,De b.z.n,De b.m]) Tryz.func202 rfl rfl (AV rfl) (TB ha (TB hb Ax)) (AE.subF (sL [0,1] rfl) (q4 (BU (cs:=fxL a) rfl λb1=>BU (cs:=fxL b) rfl λb2=>al Pp rfl λb3=>?_)))
 refine q6 (sL [2,3,4] rfl) (CS [(0,true),(1,true),(2,true),(3,true),(5,true),(7,true),(4,false),(6,false),(8,false),(9,false),(10,false),(11,false)] (sl sr) (Ap (v:=(pP b1 0)) rfl (AA rfl Tryz.underlying75 rfl Tryz.sizeOf73 rfl) (GP 1 (Ed a.z) QX rfl (Ap (v:=(pP b2 0)) rfl (AA rfl Tryz.underlying75 rfl Tryz.sizeOf73 rfl) (GP 0 (Ed b.z) QX rfl ?_)))))
 refine Df 1 JT rfl (Df 0 JT rfl (OkE.imp rfl (cZ (S:=S) (x:=(x.num*y.num)) (args:=[(aG (Ed a.z)),(aG (Ed b.z))]) Tryz.call141 (λw hw=>TR a.z b.z (by omega) (by omega) w (U_ (inS hw 3 rfl la)) (U_ (inS hw 5 rfl lb))) rfl rfl rfl λg1 lg1=>OkE.back (sl (sl sr)) (OkE.imp rfl ?_))))
 refine cN (S:=S) (x:=x.den) (args:=[(aG (fxL a))]) Tryz.call135 (λw hw=>qDen_ok a (by omega) w (inS hw 4 rfl la)) rfl rfl rfl λg2 lg2=>OkE.back (sl (sl (sl sr))) (OkE.imp rfl (cN (S:=S) (x:=y.den) (args:=[(aG (fxL b))]) Tryz.call135 (λw hw=>qDen_ok b (by omega) w (inS hw 7 rfl lb)) rfl rfl rfl λg3 lg3=>OkE.back (sl (sl (sl (sl sr)))) (OkE.imp rfl ?_)))
 refine cN (S:=S) (x:=(x.den*y.den)) (args:=[(Ck g2),(Ck g3)]) Tryz.call143 (λw hw=>O2 g2 g3 (by first|omega|(simp only [Int.natAbs_neg];omega)) (by first|omega|(simp only [Int.natAbs_neg];omega)) w (inS hw 1 rfl lg2) (inS hw 0 rfl lg3)) rfl rfl rfl λg4 lg4=>OkE.back (sl (sl (sl (sl (sl sr))))) (OkE.imp rfl (cF (S:=S) (x:=(x*y)) (args:=[(aG (Ed g1)),(Ck g4)]) Tryz.call139 (λw hw=>(BH.cast (T:=λi=>FX i) (Hs x y) (Lo g1 g4 (by omega) (by omega) h0xy w (inS hw 3 rfl lg1) (inS hw 0 rfl lg4)))) rfl rfl rfl λg5 lg5=>OkE.back (sl (sl (sl (sl (sl (sl (sl sr))))))) (OkE.imp rfl ?_)))
 exact Hp 6 (off:=0) (vs:=fxL g5) (cs':=fxL g5) (AW rfl) rfl Tryz.sizeOf75 rfl (OkE.back (sl (sl (sl (sl (sl (sl (sl sr))))))) (OkE.nil (AC.subF (sL [4] rfl) (AC.then_ (AE.ret (AJ rfl (Au (i:=6) (cs:=fxL g5) rfl rfl Tryz.isAgg75 Tryz.sizeOf75 rfl) (λw hw=>GT (a:=(g5:FX (x*y))) hw (inS hw 0 rfl lg5) rfl)))))))
theorem T8 (a b:Rat):Sz (a/b)<=Sz a+Sz b:=by
 by_cases h:b=0
 ·subst h;rw [Rat.div_def,Rat.inv_zero,Rat.mul_zero];have h1:=N1 a;exact Nat.le_trans (show Sz (0:Rat)<=1 by decide +kernel) (by omega)
 ·exact Hn h
theorem Ii  :Instr.fill ([(0,2),(2,1)].toArray[·]?) ([(Value.bool false),(Value.slice none 0 0),(Value.slice none 0 0)]).toArray []=some ([(Value.bool false),(Value.slice none 0 0),(Value.slice none 0 0)]).toArray:=by kernel_rfl
theorem UA {x y:Rat} (a:FX x) (b:FX y) (hs:Sz x+Sz y<=16777216) (w:World) {S:Nat->Prop} (ha:Ro S w a) (hb:Ro S w b)  :Calls Tryz.prog 144 #[(aG (fxL a)),(aG (fxL b))] w (BH (FX (x/y)) S w):=by
 have s0:=Cj x
 have s1:=CP x
 have s2:=F7 x
 have s3:=Cj y
 have s4:=CP y
 have s5:=F7 y
 have s6:=CH x y
 have s7:=CH y x
 have s8:=Fs x y
 have s9:=Gb x y
 have s10:=DZ (x.num*((y.den:Nat):Int)) (y.num*((x.den:Nat):Int))
 have h0x:=x.den_nz
 have h0y:=y.den_nz
 have h0xy:=Nat.mul_ne_zero h0x h0y
 have la:=Cx (W:=w) ha
 have lb:=Cx (W:=w) hb
 refine Aj (args:=[(aG (fxL a)),(aG (fxL b))]) (L:=[De a.z.n,De a.m,De b.z.n,De b.m]) Tryz.func144 rfl rfl (AV rfl) (TB ha (TB hb Ax)) (AE.subF (sL [0,1] rfl) (q4 (BU (cs:=fxL a) rfl λb1=>BU (cs:=fxL b) rfl λb2=>al Pp rfl λb3=>?_)))
 refine q6 (sL [2,3,4] rfl) (q4 (BG 1 JT rfl (CN Tryz.call201 (λw hw=>RN b w (inS hw 5 rfl lb)) rfl (AK (BR (c:=(decide (y.num.sign=(0:Int)))) rfl rfl rfl) rfl (AD.nil ?_)))))
 refine AC.subF (sL [2,3,4,7] rfl) (AC.then_ ?_)
 refine AE.cond rfl (λhc0=>?_) (λhc0=>?_)
 ·replace hc0:=of_decide_eq_true hc0
  refine q4 (AK (v:=(aG ([(Value.bool false),(Value.slice none 0 0),(Value.slice none 0 0)]))) (AU (zs:=[(Value.bool false),(Value.slice none 0 0),(Value.slice none 0 0)]) (vs:=[(Value.bool false),(Value.slice none 0 0),(Value.slice none 0 0)]) (pv:=[]) (places:=[(0,2),(2,1)]) Tryz.zeroValue75 Tryz.underlying75 (λw=>by simp [Tryz.sizeOf71,Tryz.sizeOf73]) rfl (Ii )) rfl (A8 rfl Tryz.sizeOf75 rfl (AD.nil (AC.subF (sL [2,3,4] rfl) (AC.then_ ?_)))))
  exact AE.ret (AC.then_ret (AJ rfl (Au (i:=0) (cs:=[(Value.bool false),(Value.slice none 0 0),(Value.slice none 0 0)]) rfl rfl Tryz.isAgg75 Tryz.sizeOf75 rfl) (λw hw=>(by rw [<-Qd (a:=x) hc0];exact GT (a:=FX.zero) hw (XZ (YO VJ) VJ) rfl))))
 ·replace hc0:=of_decide_eq_false hc0
  have hy:y≠0:=λe=>hc0 (by rw [e];rfl)
  have hi:=M6 hy
  have hyn:y.num.natAbs≠0:=λe=>hy (Rat.num_eq_zero.1 (by omega))
  refine AE.skip (q1 (CS [(0,true),(1,true),(2,true),(3,true),(4,true),(7,true),(8,true),(9,true),(5,false),(6,false),(10,false),(11,false),(12,false)] (sl sr) (Df 1 JT rfl (Ap (v:=(pP b2 0)) rfl (AA rfl Tryz.underlying75 rfl Tryz.sizeOf73 rfl) (Ap (v:=(pP b2 0)) rfl (AA rfl Tryz.underlying73 rfl Tryz.sizeOf4 rfl) ?_)))))
  refine Ba 0 (Value.bool (decide (y.num<0))) LT rfl (Df 0 JT rfl (Ap (v:=(pP b2 0)) rfl (AA rfl Tryz.underlying75 rfl Tryz.sizeOf73 rfl) (Ap (v:=(pP b2 1)) rfl (AA rfl Tryz.underlying73 rfl Tryz.sizeOf71 rfl) (Ba 0 (Ck b.z.n) JY rfl (OkE.imp rfl ?_)))))
  refine cN (S:=S) (x:=y.den) (args:=[(aG (fxL b))]) Tryz.call135 (λw hw=>qDen_ok b (by omega) w (inS hw 5 rfl lb)) rfl rfl rfl λg1 lg1=>OkE.back (sl (sl sr)) (OkE.imp rfl (cZ (S:=S) (x:=(Dd (decide (y.num<0)) y.den)) (args:=[(Value.bool (decide (y.num<0))),(Ck g1)]) Tryz.call193 (λw hw=>Fq (decide (y.num<0)) g1 w (inS hw 0 rfl lg1)) rfl rfl rfl λg2 lg2=>OkE.back (sl (sl (sl sr))) (OkE.imp rfl ?_)))
  refine cF (S:=S) (x:=(y⁻¹)) (args:=[(aG (Ed g2)),(Ck b.z.n)]) Tryz.call139 (λw hw=>(BH.cast (T:=λi=>FX i) (YB hy) (Lo g2 b.z.n (by rw [Aw];omega) (by omega) hyn w (inS hw 0 rfl lg2) (U4 (U_ (inS hw 7 rfl lb)))))) rfl rfl rfl λg3 lg3=>OkE.back (sl (sl (sl (sl (sl sr))))) (OkE.imp rfl ?_)
  have hz1:=EJ x (y⁻¹)
  refine cF (S:=S) (x:=(x/y)) (args:=[(aG (fxL a)),(aG (fxL g3))]) Tryz.call202 (λw hw=>(BH.cast (T:=λi=>FX i) TI (Td a g3 (by (try simp only [D0]);omega) w (inS hw 7 rfl la) (inS hw 0 rfl lg3)))) rfl rfl rfl λg4 lg4=>OkE.back (sl (sl (sl (sl (sl (sl (sl sr))))))) (OkE.imp rfl (Hp 6 (off:=0) (vs:=fxL g4) (cs':=fxL g4) (AW rfl) rfl Tryz.sizeOf75 rfl (OkE.back (sl (sl (sl (sl (sl (sl (sl sr))))))) (OkE.nil ?_))))
  exact AC.subF (sL [3,4] rfl) (AC.then_ (AE.ret (AJ rfl (Au (i:=6) (cs:=fxL g4) rfl rfl Tryz.isAgg75 Tryz.sizeOf75 rfl) (λw hw=>GT (a:=(g4:FX (x/y))) hw (inS hw 0 rfl lg4) rfl))))
theorem WI (n d:Int) (h1:-9223372036854775808<=n) (h2:n<9223372036854775808) (h3:-9223372036854775808<=d) (h4:d<9223372036854775808) (w:World) {S:Nat->Prop}  :Calls Tryz.prog 153 #[(vI n),(vI d)] w (BH (FX (((n:Int):Rat)/((d:Int):Rat))) S w):=by
 have s1:=Ge h1 h2
 have s2:=Ge h3 h4
 refine Aa (args:=[(vI n),(vI d)]) Tryz.func153 rfl rfl (AV rfl) (AE.subF (sL [0,1] rfl) (q4 (al Pp rfl λb1=>AD.nil (q2 ?_))))
 refine AQ rfl (cF (S:=S) (x:=((n:Int):Rat)) (args:=[(vI n)]) Tryz.call78 (λw hw=>OY n (by omega) (by omega) w) rfl rfl rfl λg1 lg1=>AQ rfl (cF (S:=S) (x:=((d:Int):Rat)) (args:=[(vI d)]) Tryz.call78 (λw hw=>OY d (by omega) (by omega) w) rfl rfl rfl λg2 lg2=>?_))
 have hz1:=T8 ((n:Int):Rat) ((d:Int):Rat)
 exact cF (S:=S) (x:=(((n:Int):Rat)/((d:Int):Rat))) (args:=[(aG (fxL g1)),(aG (fxL g2))]) Tryz.call144 (λw hw=>UA g1 g2 (by (try simp only [D0]);omega) w (inS hw 2 rfl lg1) (inS hw 0 rfl lg2)) rfl rfl rfl λg3 lg3=>Hp 6 (off:=0) (vs:=fxL g3) (cs':=fxL g3) (AW rfl) rfl Tryz.sizeOf75 rfl (AD.nil (AC.subF (sL [4] rfl) (AC.then_ (AE.ret (AJ rfl (Au (i:=6) (cs:=fxL g3) rfl rfl Tryz.isAgg75 Tryz.sizeOf75 rfl) (λw hw=>GT (a:=(g3:FX (((n:Int):Rat)/((d:Int):Rat)))) hw (inS hw 0 rfl lg3) rfl))))))
theorem Ri {x:Rat} (a:FX x) (hs:Sz x<=16777216) (w:World) {S:Nat->Prop} (ha:Ro S w a)  :Calls Tryz.prog 75 #[(aG (fxL a))] w (Al w (Value.string (txB (LU x)))):=by
 have s0:=Cj x
 have s1:=CP x
 have s2:=F7 x
 have hl1:=Tn x.num
 have hl2:=N8 x.den
 have la:=Cx (W:=w) ha
 refine Aj (args:=[(aG (fxL a))]) (L:=[De a.z.n,De a.m]) Tryz.func75 rfl rfl (AV rfl) (TB ha Ax) (AE.subF (sL [0] rfl) (q4 (BU (cs:=fxL a) rfl λb1=>asg' rfl (q6 (sL [1,2] rfl) ?_))))
 refine q4 (AK (v:=(pP b1 2)) (AA rfl Tryz.underlying75 rfl Tryz.sizeOf71 rfl) rfl (BJ 0 (Ck a.m) JY rfl (AK (v:=(vN ((dg (x.den-1)).length))) (AF rfl Tryz.underlying71) rfl (AK (BR (c:=(decide (((dg (x.den-1)).length)=0))) rfl rfl (LX (a:=(dg (x.den-1)).length) (b:=0))) rfl (AD.nil ?_)))))
 refine AC.subF (sL [1,2,6] rfl) (AC.then_ ?_)
 refine AE.cond rfl (λhc0=>?_) (λhc0=>?_)
 ·replace hc0:=of_decide_eq_true hc0
  have he:LU x=E8 x.num:=by unfold LU;rw [if_pos (Mb hc0)]
  refine q4 (AK (v:=(pP b1 0)) (AA rfl Tryz.underlying75 rfl Tryz.sizeOf73 rfl) rfl (Cf 0 (Ed a.z) QX rfl (CN Tryz.call133 (λw hw=>Lc a.z (by omega) w (U_ (inS hw 1 rfl la))) rfl (asg' rfl (AD.nil ?_)))))
  exact AC.subF (sL [1,2] rfl) (AC.then_ (AE.ret (AC.then_ret (AJ rfl (AS (v:=(Value.string (txB (E8 x.num)))) rfl) (λw hw=>⟨by rw [he],hw.out⟩)))))
 ·replace hc0:=of_decide_eq_false hc0
  have he:LU x=E8 x.num++[47]++Lib.decDigits x.den:=by unfold LU;rw [if_neg (G5 hc0),List.append_assoc];rfl
  refine AE.skip (q1 (CS [(0,true),(1,true),(4,true),(2,false),(3,true),(5,false),(6,false),(7,true),(8,true)] sr (Ap (v:=(pP b1 0)) rfl (AA rfl Tryz.underlying75 rfl Tryz.sizeOf73 rfl) (GP 0 (Ed a.z) QX rfl (Df 0 JT rfl ?_)))))
  refine OkE.imp rfl (CN Tryz.call133 (λw hw=>Lc a.z (by omega) w (U_ (inS hw 1 rfl la))) rfl (OkE.back sr (Ap (v:=(Value.string (txB (E8 x.num++[47])))) rfl (Bl (r:=(txB (E8 x.num++[47]))) rfl rfl (by rw [C_];show _+1<=_;omega) (DF _ [47])) (OkE.imp rfl (cN (S:=S) (x:=x.den) (args:=[(aG (fxL a))]) Tryz.call135 (λw hw=>qDen_ok a (by omega) w (inS hw 1 rfl la)) rfl rfl rfl λg1 lg1=>?_)))))
  refine OkE.back (sl sr) (OkE.imp rfl (CN Tryz.call134 (λw hw=>Iq g1 (by first|omega|(simp only [Int.natAbs_neg];omega)) w (inS hw 0 rfl lg1)) rfl (OkE.back (sl sr) (Ap (v:=(Value.string (txB (E8 x.num++[47]++Lib.decDigits x.den)))) rfl (Bl (r:=(txB (E8 x.num++[47]++Lib.decDigits x.den))) rfl rfl (by rw [C_,C_,List.length_append];show _+1+_<=_;omega) (DF _ _)) (pS' rfl ?_)))))
  exact OkE.nil (AC.subF (sL [1,2] rfl) (AC.then_ (AE.ret (AJ rfl (AS (v:=(Value.string (txB (E8 x.num++[47]++Lib.decDigits x.den)))) rfl) (λw hw=>⟨by rw [he],hw.out⟩)))))
end
section
theorem Uj (a b:Int):(decide (a.natAbs=b.natAbs)&&((decide (a<0) == decide (b<0))&&true))=decide (a=b):=by
  by_cases e:a=b
  · subst e;simp
  · rw [decide_eq_false e]
    by_cases h1:a<0<;>by_cases h2:b<0<;>simp [h1,h2]<;>omega
theorem Uf (D:Nat) (a b:Int):EK Tryz.prog (D+4) 46 (.agg (Az a).toArray) (.agg (Az b).toArray) (decide (a=b)):=by
  rw [<-Uj]
  exact EK.struct Tryz.underlying46 Tryz.stoodInHeld46 (GO.agg (us:=AY a.natAbs) (bs:=AY b.natAbs) (by decide) Tryz.isAgg44 Tryz.sizeOf44 rfl rfl (LY D _ _) (GO.one (by decide) Tryz.isAgg4 rfl rfl (EK.bool Tryz.underlying4) GO.nil))
theorem RT (a b:Rat):(decide (a.num=b.num)&&(decide (a.den-1=b.den-1)&&true))=decide (a=b):=by
  by_cases e:a=b
  · subst e;simp
  · rw [decide_eq_false e]
    have h1:=a.den_pos
    have h2:=b.den_pos
    simp only [Bool.and_true,Bool.and_eq_false_iff,decide_eq_false_iff_not]
    apply Classical.byContradiction
    intro h
    refine e (Rat.ext ?_ ?_)
    · exact Classical.byContradiction λk=>h (.inl k)
    · exact Classical.byContradiction λk=>h (.inr (by omega))
theorem LV (D:Nat) (a b:Rat):EK Tryz.prog (D+5) 48 (.agg (AN a).toArray) (.agg (AN b).toArray) (decide (a=b)):=by
  rw [<-RT]
  exact EK.struct Tryz.underlying48 Tryz.stoodInHeld48 (GO.agg (us:=Az a.num) (bs:=Az b.num) (by decide) Tryz.isAgg46 Tryz.sizeOf46 rfl rfl (Uf D _ _) (GO.agg (us:=AY (a.den-1)) (bs:=AY (b.den-1)) (by decide) Tryz.isAgg42 Tryz.sizeOf42 rfl rfl (GH (D+2) _ _) GO.nil))
instance:DecidableEq Pt:=λa b=>decidable_of_iff (a.x=b.x/\a.y=b.y) ⟨λh=>Pt.ext h.1 h.2,λh=>h▸⟨rfl,rfl⟩⟩
theorem Vs (a b:Pt):(decide (a.x=b.x)&&(decide (a.y=b.y)&&true))=decide (a=b):=by
  by_cases e:a=b
  · subst e;simp
  · rw [decide_eq_false e]
    simp only [Bool.and_true,Bool.and_eq_false_iff,decide_eq_false_iff_not]
    apply Classical.byContradiction
    intro h
    refine e (Pt.ext ?_ ?_)
    · exact Classical.byContradiction λk=>h (.inl k)
    · exact Classical.byContradiction λk=>h (.inr k)
theorem Sg (D:Nat) (a b:Pt):EK Tryz.prog (D+6) 51 (.agg (Af a).toArray) (.agg (Af b).toArray) (decide (a=b)):=by
  rw [<-Vs]
  exact EK.struct Tryz.underlying51 Tryz.stoodInHeld51 (GO.agg (us:=AN a.x) (bs:=AN b.x) (by decide) Tryz.isAgg48 Tryz.sizeOf48 rfl rfl (LV D _ _) (GO.agg (us:=AN a.y) (bs:=AN b.y) (by decide) Tryz.isAgg48 Tryz.sizeOf48 rfl rfl (LV D _ _) GO.nil))
section
variable {P:Program}
def Pb (P:Program) (D:Nat) (e:TypeId) (c:Nat) (xs ys:List Value) (is:List Nat) (b:Bool):Prop:=∀w,(Go.Op.eqItems D e c xs.toArray ys.toArray is).run P w=.ok b w
theorem Pb.nil {D c:Nat} {e:TypeId} {xs ys:List Value}:Pb P D e c xs ys [] true:=λw=>rfl
theorem Pb.cons {D c i:Nat} {e:TypeId} {is:List Nat} {xs ys us bs:List Value} {r s:Bool} (hg:∀w,(isAgg e).run P w=.ok true w) (hs:∀w,(sizeOf e).run P w=.ok c w)
    (ha:(xs.drop (i*c)).take c=us) (hb:(ys.drop (i*c)).take c=bs) (h:EK P D e (.agg us.toArray) (.agg bs.toArray) r) (h2:Pb P D e c xs ys is s):Pb P D e c xs ys (i::is) (r&&s):=λw=>by
  have ex:∀l:List Value,l.toArray.extract (i*c) (i*c+c)=((l.drop (i*c)).take c).toArray:=λl=>by simp [List.extract_eq_take_drop]
  have e1:(part e xs.toArray (i*c)).run P w=.ok (.agg us.toArray) w:=by simp [part,hg,hs,ex,ha]
  have e2:(part e ys.toArray (i*c)).run P w=.ok (.agg bs.toArray) w:=by simp [part,hg,hs,ex,hb]
  simp only [Go.Op.eqItems,Sem.run_bind,e1,e2,Result.andThen_ok,h w]
  cases r
  · simp
  · simp [h2 w]
theorem EK.array {D n c:Nat} {T e:TypeId} {xs ys:List Value} {b:Bool} (hu:P.underlying T=some (.array n e)) (hi:∃i,P.info? e=some i) (hc:P.cellsOf e=c) (h:Pb P D e c xs ys (List.range n) b) :
    EK P (D+1) T (.agg xs.toArray) (.agg ys.toArray) b:=λw=>by
  obtain ⟨i,hi⟩:=hi
  rw [Go.run_equalIn_array w D xs.toArray ys.toArray hu hi,hc]
  exact h w
end
section
variable {P:Program} {n:Nat} {F:List (Nat×Value)} {w0:A_} {L:List As} {x y:Operand} {d:Option Tmp} {t:TypeId} {p:String} {af:Array Edge} {g:Option (Nat×Bool)}
theorem K3 {xs ys:List Value} {c e:Bool} {tx ty:TypeId} (hx:evF F x=some (.agg xs.toArray)) (hy:evF F y=some (.agg ys.toArray)) (hg:P.eqGuardType P.depth tx=false) (hc:EK P 10000 tx (.agg xs.toArray) (.agg ys.toArray) c) (he:(!c)=e) :
    Ex P n F w0 L ⟨d,.binOp .neq tx x y ty,t,p,af,g⟩ (.bool e):=he▸N9 hx hy hg hc
end
end
section
structure QD where
  n:Int
  d:Nat
structure PD where
  x:QD
  y:QD
def Gv (q:QD):List Value:=[.int .i64 q.n,.int .u32 (q.d:Nat)]
def Cn (p:PD):List Value:=Gv p.x++Gv p.y
def QD.ok (q:QD):Prop := -9223372036854775808<=q.n/\q.n<9223372036854775808/\q.d<4294967296
def PD.ok (p:PD):Prop:=p.x.ok/\p.y.ok
def In (q:QD):Rat:=((q.n:Int):Rat)/(((max q.d 1:Nat):Int):Rat)
def FU (p:PD):Pt:=⟨In p.x,In p.y⟩
theorem Q0 {q:QD} (h:q.ok):Sz (In q)<=4:=by
  obtain ⟨h1,h2,h3⟩:=h
  have s1:=Ge h1 h2
  have s2:=Ge (z:=((max q.d 1:Nat):Int)) (by omega) (by omega)
  have hb:(((max q.d 1:Nat):Int):Rat)≠0:=λe=>by
    have:((max q.d 1:Nat):Int)=0:=by exact_mod_cast e
    omega
  have:=Hn (a:=((q.n:Int):Rat)) hb
  unfold In
  omega
theorem Rx {p:PD} (h:p.ok):B3 (FU p)<=4:=Su (Q0 h.1) (Q0 h.2)
section
variable {P:Program} {w:World} {r:Reach} {base:Nat}
end
theorem Uh {n:Int} (h:IntKind.i64.has n):-9223372036854775808<=n/\n<9223372036854775808:=by
  simp only [IntKind.has,IntKind.min,IntKind.max,IntKind.bits,IntKind.signed] at h;simp at h;omega
theorem Tb {n:Int} (h:IntKind.u32.has n):0<=n/\n<4294967296:=by
  simp only [IntKind.has,IntKind.min,IntKind.max,IntKind.bits,IntKind.signed] at h;simp at h;omega
section
variable {P:Program} {w:World} {r:Reach} {base:Nat} {t:TypeId} {v:Value} {ts:List TypeId}
end
end
section
set_option maxRecDepth 100000
theorem RD (q:QD) (h:q.ok) (w:World)  :Calls Tryz.prog 96 #[(aG (Gv q))] w (Al w (aG (AN (In q)))):=by
 obtain ⟨h1,h2,h3⟩:=h
 refine Aa (args:=[(aG (Gv q))]) Tryz.func96 rfl rfl (AV rfl) (AE.subF (sL [0] rfl) (q4 (BU (cs:=Gv q) rfl λb1=>al Dr rfl λb2=>q3 (sL [1,2] rfl) ?_)))
 refine AK (v:=(pP b1 0)) (AA rfl Tryz.underlying99 rfl Tryz.sizeOf2 rfl) rfl (BJ 1 (vI q.n) XJ rfl (AK (v:=(pP b1 1)) (AA rfl Tryz.underlying99 rfl Tryz.sizeOf97 rfl) rfl (BJ 1 (vK .u32 q.d) WO rfl (AK (Er (c:=((max q.d 1:Nat):Int)) rfl rfl (by split<;>omega)) rfl (AK (A6 (c:=((max q.d 1:Nat):Int)) rfl Tryz.underlying97 Tryz.underlying2 (Dk (by omega))) rfl ?_)))))
 refine ck' Tryz.call166 (R2 (q.n:Int) ((max q.d 1:Nat):Int) (by omega) (by omega) (by omega) (by omega) (by omega)) rfl (AQ rfl (AK (AZ (v:=(aG (AN (((q.n:Int):Rat)/(((max q.d 1:Nat):Int):Rat))))) rfl rfl) rfl (AK (AZ (v:=(vI 0)) rfl rfl) rfl (al Dr rfl λb3=>A8 rfl Tryz.sizeOf48 rfl ?_))))
 refine asg' rfl (q3 (sL [2,3] rfl) (BG 0 Bf rfl (C6 rfl Tryz.sizeOf48 rfl (AD.nil (AC.subF (sL [2,3] rfl) ?_)))))
 exact AC.then_ (AE.ret (AJ rfl (Au (i:=1) (cs:=AN (((q.n:Int):Rat)/(((max q.d 1:Nat):Int):Rat))) rfl rfl Tryz.isAgg48 Tryz.sizeOf48 rfl) (λw hw=>⟨rfl,hw.out⟩)))
theorem D6 (x0:Rat) (x1:Rat):Instr.fill ([(0,5),(5,5)].toArray[·]?) (Af (⟨0,0⟩:Pt)).toArray [(0,.agg (AN x0).toArray),(1,.agg (AN x1).toArray)]=some (AN x0++AN x1).toArray:=by kernel_rfl
theorem U9 (p:PD) (h:p.ok) (w:World)  :Calls Tryz.prog 39 #[(aG (Cn p))] w (Al w (aG (Af (FU p)))):=by
 have h1:=h.1
 have h2:=h.2
 refine Aa (args:=[(aG (Cn p))]) Tryz.func39 rfl rfl (AV rfl) (AE.subF (sL [0] rfl) (q4 (BU (cs:=Cn p) rfl λb1=>al G8 rfl λb2=>q6 (sL [1,2] rfl) ?_)))
 refine CS [(0,true),(1,true),(3,true),(4,true),(2,false),(5,false),(6,true),(7,false)] (sl sr) (Ap (v:=(pP b1 0)) rfl (AA rfl Tryz.underlying101 rfl Tryz.sizeOf99 rfl) (GP 0 (Gv p.x) QO rfl (Ap (v:=(pP b1 2)) rfl (AA rfl Tryz.underlying101 rfl Tryz.sizeOf99 rfl) (GP 0 (Gv p.y) QO rfl (OkE.imp rfl ?_)))))
 refine ck' Tryz.call96 (RD p.x (by assumption)) rfl (OkE.back (sl sr) (OkE.imp rfl (ck' Tryz.call96 (RD p.y (by assumption)) rfl (OkE.back (sl sr) (Ap (v:=(aG (AN (In p.x)++AN (In p.y)))) rfl (AU (zs:=Af (⟨0,0⟩:Pt)) (vs:=AN (In p.x)++AN (In p.y)) (pv:=[(0,(aG (AN (In p.x)))),(1,(aG (AN (In p.y))))]) (places:=[(0,5),(5,5)]) Tryz.zeroValue51 Tryz.underlying51 (λw=>by simp [Tryz.sizeOf48]) rfl (D6 (In p.x) (In p.y))) ?_)))))
 refine OkE.imp rfl (A8 rfl Tryz.sizeOf51 rfl (OkE.back (sl sr) (OkE.nil (AC.subF (sL [2] rfl) (AC.then_ ?_)))))
 exact AE.ret (AJ rfl (Au (i:=0) (cs:=AN (In p.x)++AN (In p.y)) rfl rfl Tryz.isAgg51 Tryz.sizeOf51 rfl) (λw hw=>⟨rfl,hw.out⟩))
end
theorem F2 {k:Nat} (h:k<10):(UInt8.ofNat (48+k)).toNat=48+k:=by
  rw [UInt8.toNat_ofNat']
  exact Nat.mod_eq_of_lt (by omega)
theorem SO:∀(u:Nat) {c:UInt8},c∈Lib.decDigits u->48<=c.toNat/\c.toNat<=57:=λu=>by
  induction u using Nat.strongRecOn with
  | _ u ih =>
    intro c hc
    by_cases h:u<10
    · rw [Lib.decDigits,dif_pos h,List.mem_singleton] at hc
      subst hc
      rw [F2 h];omega
    · rw [Lib.decDigits,dif_neg h] at hc
      rcases List.mem_append.1 hc with hc|hc
      · exact ih _ (by omega) hc
      · rcases List.mem_singleton.1 hc with rfl
        rw [F2 (Nat.mod_lt _ (by decide))];omega
def vD (l:List UInt8):Nat:=l.foldl (λa c=>a*10+(c.toNat-48)) 0
theorem Sn (u:Nat):vD (Lib.decDigits u)=u:=by
  induction u using Nat.strongRecOn with
  | _ u ih =>
    by_cases h:u<10
    · rw [Lib.decDigits,dif_pos h]
      show 0*10+((UInt8.ofNat (48+u)).toNat-48)=u
      rw [F2 h];omega
    · rw [Lib.decDigits,dif_neg h]
      have h1:=ih (u/10) (by omega)
      unfold vD at h1 ⊢
      rw [List.foldl_append,h1]
      show u/10*10+((UInt8.ofNat (48+u%10)).toNat-48)=u
      rw [F2 (Nat.mod_lt _ (by decide))];omega
theorem Kw {u v:Nat} (h:Lib.decDigits u=Lib.decDigits v):u=v:=by rw [<-Sn u,h,Sn]
theorem Mm (u:Nat) (l:List UInt8):Lib.decDigits u≠45::l:=λh=>by
  have:=(SO u (c:=45) (by rw [h];exact List.mem_cons_self)).1
  exact absurd this (by decide)
theorem TY {y z:Int} (h:E8 y=E8 z):y=z:=by
  unfold E8 at h
  split at h<;>split at h
  · injection h with _ h
    have:=Kw h;omega
  · exact absurd h.symm (Mm _ _)
  · exact absurd h (Mm _ _)
  · have:=Kw h;omega
theorem Kv (z:Int):∀c∈E8 z,(c != 47)=true:=λc hc=>by
  have key:∀u,c∈Lib.decDigits u->(c != 47)=true:=λu hu=>by
    have h1:=(SO u hu).1
    rw [bne_iff_ne]
    rintro rfl
    exact absurd h1 (by decide)
  unfold E8 at hc
  split at hc
  · rcases List.mem_cons.1 hc with rfl|hc
    · decide
    · exact key _ hc
  · exact key _ hc
theorem ML (q:Rat):(LU q).takeWhile (· != 47)=E8 q.num:=by
  unfold LU
  split
  · have h:=List.takeWhile_append_of_pos (l₂:=[]) (Kv q.num)
    simpa using h
  · rw [List.takeWhile_append_of_pos (Kv q.num)]
    simp
theorem Lk (q:Rat):(LU q).dropWhile (· != 47)=if q.den-1=0 then [] else 47::Lib.decDigits q.den:=by
  unfold LU
  split
  · have h:=List.dropWhile_append_of_pos (l₂:=[]) (Kv q.num)
    simpa using h
  · rw [List.dropWhile_append_of_pos (Kv q.num)]
    simp
theorem UX {q r:Rat} (h:LU q=LU r):q=r:=by
  have h1:E8 q.num=E8 r.num:=by rw [<-ML,h,ML]
  have h2:=Lk q
  rw [h,Lk] at h2
  have hq:=q.den_pos
  have hr:=r.den_pos
  refine Rat.ext (TY h1) ?_
  split at h2<;>split at h2
  · omega
  · cases h2
  · cases h2
  · injection h2 with _ h2
    exact (Kw h2).symm
theorem TV (a b:List UInt8):((txB a).toList == (txB b).toList)=(a == b):=by
  rw [ByteArray.toList_eq,ByteArray.toList_eq];rfl
theorem Uq (q r:Rat):((txB (LU q)).toList == (txB (LU r)).toList)=decide (q=r):=by
  rw [TV]
  by_cases h:q=r
  · rw [h];simp
  · rw [decide_eq_false h,beq_eq_false_iff_ne]
    exact λk=>h (UX k)
end Go.Proofs.YtpgncndhhhllfaaGreatDoor
