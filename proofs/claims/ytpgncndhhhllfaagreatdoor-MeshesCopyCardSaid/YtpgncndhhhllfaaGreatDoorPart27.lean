import Derived.Test.YtpgncndhhhllfaaGreatDoorPart04
import Derived.Test.YtpgncndhhhllfaaGreatDoorPart06
import Derived.Test.YtpgncndhhhllfaaGreatDoorPart08
import Derived.Test.YtpgncndhhhllfaaGreatDoorPart14
import Derived.Test.YtpgncndhhhllfaaGreatDoorPart20
import Derived.Test.YtpgncndhhhllfaaGreatDoorPart21
import Derived.Test.YtpgncndhhhllfaaGreatDoorPart25
import Derived.Test.YtpgncndhhhllfaaGreatDoorPart26
namespace Go.Proofs.YtpgncndhhhllfaaGreatDoor
open Go Go.RowKit Go.Proofs.Tryz
set_option linter.unusedVariables false
set_option linter.unusedSimpArgs false
section
set_option maxRecDepth 100000
theorem K5 {n:Nat} (h:n<18446744073709551616):(Lib.decDigits n).length<=20:=by rw [Lib.decDigits_length];exact Lib.nDigits_le20 n h
theorem Ul {z:Int} (h:z.natAbs<18446744073709551616):(E8 z).length<=21:=by
 have:=K5 h
 unfold E8;split<;>simp<;>omega
theorem Hl (n:Nat) (hn:n<18446744073709551616) (w:World) (hT:Mx w):Calls Tryz.prog 95 #[(aG (AY n))] w (Al w (Value.string (txB (Lib.decDigits n)))):=by
 refine Aa (args:=[(aG (AY n))]) Tryz.func95 rfl rfl (AV rfl) (AE.subF (sL [0] rfl) (q4 (BU (cs:=AY n) rfl λb1=>asg' rfl (q6 (sL [1,2] rfl) ?_))))
 refine q4 (AK (v:=(pP b1 1)) (AA rfl Tryz.underlying42 rfl Tryz.sizeOf9 rfl) rfl (BJ 0 (Value.string (Bc n)) Pg rfl (AK (BV (c:=(decide (n<18446744073709551616))) rfl rfl B_) rfl (AD.nil (AC.subF (sL [1,2,10] rfl) ?_)))))
 refine AC.then_ ?_
 refine AE.cond rfl (λhc0=>?_) (λhc0=>?_)
 ·replace hc0:=of_decide_eq_true hc0
  refine q4 (AK (v:=(pP b1 0)) (AA rfl Tryz.underlying42 rfl Tryz.sizeOf40 rfl) rfl (BJ 0 (vK .u64 (Bs n)) FV rfl (AD.retell (k:=12) (u:=(vK .u64 n)) rfl (by rw [BY (by omega)]) (CN Tryz.call159 (λw hw=>Nm n (by omega) w (hT.below hw.out)) rfl (asg' rfl ?_)))))
  exact AD.nil (AC.subF (sL [1,2] rfl) (AC.then_ (AE.ret (AC.then_ret (AJ rfl (AS (v:=(Value.string (txB (Lib.decDigits n)))) rfl) (λw hw=>⟨rfl,hw.out⟩))))))
 ·replace hc0:=of_decide_eq_false hc0
  exfalso;omega
theorem J7 (z:Int) (hz:z.natAbs<18446744073709551616) (w:World) (hT:Mx w):Calls Tryz.prog 94 #[(aG (Az z))] w (Al w (Value.string (txB (E8 z)))):=by
 have hl:=K5 hz
 refine Aa (args:=[(aG (Az z))]) Tryz.func94 rfl rfl (AV rfl) (AE.subF (sL [0] rfl) (q4 (BU (cs:=Az z) rfl λb1=>asg' rfl (q6 (sL [1,2] rfl) ?_))))
 refine q4 (AK (v:=(pP b1 2)) (AA rfl Tryz.underlying46 rfl Tryz.sizeOf4 rfl) rfl (BJ 0 (Value.bool (decide (z<0))) LT rfl (AD.nil (AC.subF (sL [1,2,4] rfl) (AC.then_ ?_)))))
 refine AE.cond rfl (λhc0=>?_) (λhc0=>?_)
 ·replace hc0:=of_decide_eq_true hc0
  have he:E8 z=45::Lib.decDigits z.natAbs:=by unfold E8;rw [if_pos hc0]
  refine q4 (AK (v:=(pP b1 0)) (AA rfl Tryz.underlying46 rfl Tryz.sizeOf44 rfl) rfl (AK (v:=(pP b1 0)) (AA rfl Tryz.underlying44 rfl Tryz.sizeOf42 rfl) rfl (Cf 0 (AY z.natAbs) Br rfl (CN Tryz.call95 (λw hw=>Hl z.natAbs (by omega) w (hT.below hw.out)) rfl (AK (v:=(Value.string (txB (45::Lib.decDigits z.natAbs)))) (Bl (r:=(txB (45::Lib.decDigits z.natAbs))) rfl rfl (by rw [C_];show 1+_<=_;omega) (DF [45] _)) rfl ?_)))))
  exact asg' rfl (AD.nil (AC.subF (sL [1,2] rfl) (AC.then_ (AE.ret (AC.then_ret (AJ rfl (AS (v:=(Value.string (txB (45::Lib.decDigits z.natAbs)))) rfl) (λw hw=>⟨by rw [he],hw.out⟩)))))))
 ·replace hc0:=of_decide_eq_false hc0
  have he:E8 z=Lib.decDigits z.natAbs:=by unfold E8;rw [if_neg hc0]
  refine AE.skip (q2 (AK (v:=(pP b1 0)) (AA rfl Tryz.underlying46 rfl Tryz.sizeOf44 rfl) rfl (AK (v:=(pP b1 0)) (AA rfl Tryz.underlying44 rfl Tryz.sizeOf42 rfl) rfl (Cf 0 (AY z.natAbs) Br rfl (CN Tryz.call95 (λw hw=>Hl z.natAbs (by omega) w (hT.below hw.out)) rfl ?_)))))
  exact asg' rfl (AD.nil (AC.subF (sL [1,2] rfl) (AC.then_ (AE.ret (AJ rfl (AS (v:=(Value.string (txB (Lib.decDigits z.natAbs)))) rfl) (λw hw=>⟨by rw [he],hw.out⟩))))))
theorem Pm (q:Rat) (hn:q.num.natAbs<18446744073709551616) (hd:q.den<18446744073709551616) (w:World) (hT:Mx w):Calls Tryz.prog 38 #[(aG (AN q))] w (Al w (Value.string (txB (LU q)))):=by
 have hl1:=Ul hn
 have hl2:=K5 hd
 have hdn:nw q.den<=1099511627776:=Nat.le_trans (CQ.2 (show q.den<4294967296^2 from hd)) (by decide)
 refine Aa (args:=[(aG (AN q))]) Tryz.func38 rfl rfl (AV rfl) (AE.subF (sL [0] rfl) (q4 (BU (cs:=AN q) rfl λb1=>asg' rfl (q6 (sL [1,2] rfl) ?_))))
 refine q4 (BG 0 Bf rfl (ck' Tryz.call53 (E6 q) rfl (AD.nil (AC.subF (sL [1,2,4] rfl) (AC.then_ ?_)))))
 refine AE.cond rfl (λhc0=>?_) (λhc0=>?_)
 ·replace hc0:=of_decide_eq_true hc0
  have he:LU q=E8 q.num:=by unfold LU;rw [if_pos hc0]
  refine q4 (AK (v:=(pP b1 0)) (AA rfl Tryz.underlying48 rfl Tryz.sizeOf46 rfl) rfl (Cf 0 (Az q.num) Ci rfl (CN Tryz.call94 (λw hw=>J7 q.num (by omega) w (hT.below hw.out)) rfl (asg' rfl (AD.nil ?_)))))
  exact AC.subF (sL [1,2] rfl) (AC.then_ (AE.ret (AC.then_ret (AJ rfl (AS (v:=(Value.string (txB (E8 q.num)))) rfl) (λw hw=>⟨by rw [he],hw.out⟩)))))
 ·replace hc0:=of_decide_eq_false hc0
  have he:LU q=E8 q.num++[47]++Lib.decDigits q.den:=by unfold LU;rw [if_neg hc0,List.append_assoc];rfl
  refine AE.skip (q1 (CS [(0,true),(1,true),(4,true),(2,false),(3,true),(5,false),(6,false),(7,true),(8,true)] sr (Ap (v:=(pP b1 0)) rfl (AA rfl Tryz.underlying48 rfl Tryz.sizeOf46 rfl) (GP 0 (Az q.num) Ci rfl (Df 0 Bf rfl ?_)))))
  refine OkE.imp rfl (CN Tryz.call94 (λw hw=>J7 q.num (by omega) w (hT.below hw.out)) rfl (OkE.back sr (Ap (v:=(Value.string (txB (E8 q.num++[47])))) rfl (Bl (r:=(txB (E8 q.num++[47]))) rfl rfl (by rw [C_];show _+1<=_;omega) (DF _ [47])) (OkE.imp rfl (ck' Tryz.call57 (den_ok q (by omega)) rfl ?_)))))
  refine OkE.back sr (OkE.imp rfl (CN Tryz.call95 (λw hw=>Hl q.den (by omega) w (hT.below hw.out)) rfl (OkE.back sr (Ap (v:=(Value.string (txB (E8 q.num++[47]++Lib.decDigits q.den)))) rfl (Bl (r:=(txB (E8 q.num++[47]++Lib.decDigits q.den))) rfl rfl (by rw [C_,C_,List.length_append,List.length_singleton];omega) (DF _ _)) (pS' rfl ?_)))))
  exact OkE.nil (AC.subF (sL [1,2] rfl) (AC.then_ (AE.ret (AJ rfl (AS (v:=(Value.string (txB (E8 q.num++[47]++Lib.decDigits q.den)))) rfl) (λw hw=>⟨by rw [he],hw.out⟩)))))
def FW (q:Rat):Prop:=q.num.natAbs<18446744073709551616/\q.den<18446744073709551616
def PW (p:Pt):Prop:=FW p.x/\FW p.y
theorem V8 {n:Int} {k:Nat} (hk:k≠0) (hn:n.natAbs<18446744073709551616) (hk2:k<18446744073709551616):FW ((n:Rat)/((k:Int):Rat)):=by
 have e:(n:Rat)/((k:Int):Rat)=mkRat n k:=by
  rw [<-Rat.divInt_eq_div];rfl
 rw [e,Rat.mkRat_def,dif_neg hk]
 refine ⟨Nat.lt_of_le_of_lt ?_ hn,Nat.lt_of_le_of_lt ?_ hk2⟩
 ·rw [Rat.normalize_eq]
  show (n/((n.natAbs.gcd k:Nat):Int)).natAbs<=_
  rw [Int.natAbs_ediv_of_dvd (Int.ofNat_dvd_left.2 (Nat.gcd_dvd_left _ _))]
  exact Nat.div_le_self _ _
 ·rw [Rat.normalize_eq]
  exact Nat.div_le_self _ _
theorem SV {q:QD} (h:q.ok):FW (In q):=by
 obtain ⟨h1,h2,h3⟩:=h
 exact V8 (by omega) (by omega) (by omega)
theorem Um {p:PD} (h:p.ok):PW (FU p):=⟨SV h.1,SV h.2⟩
theorem Kl (q:Rat) {r:Rat} (b:FX r) (hs:FW q) (hr:Sz r<=16777216) (w:World) {S:Nat->Prop} (hb:Ro S w b) (hT:Mx w):Calls Tryz.prog 23 #[(aG (AN q)),(aG (fxL b))] w (Al w (Value.bool (decide (q=r)))):=by
 obtain ⟨hs1,hs2⟩:=hs
 have lb:=Cx (W:=w) hb
 refine Aj (args:=[(aG (AN q)),(aG (fxL b))]) (L:=[De b.z.n,De b.m]) Tryz.func23 rfl rfl (AV rfl) (TB hb Ax) (AE.subF (sL [0,1] rfl) (q4 (BU (cs:=AN q) rfl λb1=>BU (cs:=fxL b) rfl λb2=>asg' rfl ?_)))
 refine q6 (sL [2,3,4] rfl) (CS [(0,true),(2,true),(1,false),(3,false),(4,true),(5,true)] sr (Df 1 Bf rfl (Df 0 JT rfl (OkE.imp rfl (CN Tryz.call38 (λw hw=>Pm q (by omega) (by omega) w (hT.below hw.out)) rfl ?_)))))
 refine OkE.back sr (OkE.imp rfl (CN Tryz.call75 (λw hw=>Ri b (by omega) w (inS hw 2 rfl lb)) rfl (OkE.back sr (Ap rfl (BV (c:=(decide (q=r))) rfl rfl (Uq _ _)) (pS' rfl ?_)))))
 exact OkE.nil (AC.subF (sL [4] rfl) (AC.then_ (AE.ret (AJ rfl (AS (v:=(Value.bool (decide (q=r)))) rfl) (λw hw=>⟨rfl,hw.out⟩)))))
theorem Sr (p q:Pt):decide (p=q)=(decide (p.x=q.x)&&decide (p.y=q.y)):=by
 rw [Bool.eq_iff_iff]
 simp only [Bool.and_eq_true,decide_eq_true_eq]
 exact ⟨λh=>by rw [h];exact ⟨rfl,rfl⟩,λh=>Pt.ext h.1 h.2⟩
theorem Vg (p:Pt) {q:Pt} (b:PX q) (hs:PW p) (hr:B3 q<=16777216) (w:World) {S:Nat->Prop} (hb:Ro S w b) (hT:Mx w):Calls Tryz.prog 31 #[(aG (Af p)),(aG (QV b))] w (Al w (Value.bool (decide (p=q)))):=by
 obtain ⟨hs1,hs2⟩:=hs
 have gx:=FR q
 have gy:=Fp q
 have lb:=Cx (W:=w) hb
 refine Aj (args:=[(aG (Af p)),(aG (QV b))]) (L:=[De b.x.z.n,De b.x.m,De b.y.z.n,De b.y.m]) Tryz.func31 rfl rfl (AV rfl) (YZ hb Ax) (AE.subF (sL [0,1] rfl) (q4 (BU (cs:=Af p) rfl λb1=>BU (cs:=QV b) rfl λb2=>asg' rfl ?_)))
 refine q6 (sL [2,3,4] rfl) ?_
 by_cases hx:p.x=q.x
 ·skip
  refine AE.region (AK (v:=(pP b1 0)) (AA rfl Tryz.underlying51 rfl Tryz.sizeOf48 rfl) rfl (Cf 1 (AN p.x) Bf rfl (AK (v:=(pP b2 0)) (AA rfl Tryz.underlying83 rfl Tryz.sizeOf75 rfl) rfl (Cf 0 (fxL b.x) JT rfl (CN (args:=[(aG (AN p.x)),(aG (fxL b.x))]) (v:=(Value.bool true)) Tryz.call23 (λw hw=>(by have h9:=Kl p.x b.x (by assumption) (by omega) w (Xy (inS hw 2 rfl lb)) (hT.below hw.out);rw [decide_eq_true hx] at h9;exact h9)) rfl ?_)))))
  refine AQ rfl (AD.step (v:=(pP b1 5)) (AB rfl) (AA rfl Tryz.underlying51 rfl Tryz.sizeOf48 rfl) rfl (AV rfl) (AD.step (v:=(aG (AN p.y))) (AB rfl) (Ak (i:=1) (vs:=AN p.y) rfl rfl Bf.a Bf.s rfl rfl) rfl (AV rfl) (AD.step (v:=(pP b2 3)) (AB rfl) (AA rfl Tryz.underlying83 rfl Tryz.sizeOf75 rfl) rfl (AV rfl) (AD.step (v:=(aG (fxL b.y))) (AB rfl) (Ak (i:=0) (vs:=fxL b.y) rfl rfl JT.a JT.s rfl rfl) rfl (AV rfl) (AD.call (v:=(Value.bool (decide (p.y=q.y)))) (AB rfl) (An (args:=[(aG (AN p.y)),(aG (fxL b.y))]) rfl rfl Tryz.call23) (λw hw=>Kl p.y b.y (by assumption) (by omega) w (YH (inS hw 2 rfl lb)) (hT.below hw.out)) rfl (AV rfl) ?_)))))
  exact AK (v:=(Value.bool (decide (p.y=q.y)))) (AX rfl rfl) rfl (asg' rfl (AD.nil (AC.subF (sL [4] rfl) (AC.then_ (AE.ret (AJ rfl (AS (v:=(Value.bool (decide (p.y=q.y)))) rfl) (λw hw=>⟨by rw [Sr];simp [hx],hw.out⟩)))))))
 ·skip
  refine AE.region (AK (v:=(pP b1 0)) (AA rfl Tryz.underlying51 rfl Tryz.sizeOf48 rfl) rfl (Cf 1 (AN p.x) Bf rfl (AK (v:=(pP b2 0)) (AA rfl Tryz.underlying83 rfl Tryz.sizeOf75 rfl) rfl (Cf 0 (fxL b.x) JT rfl (CN (args:=[(aG (AN p.x)),(aG (fxL b.x))]) (v:=(Value.bool false)) Tryz.call23 (λw hw=>(by have h9:=Kl p.x b.x (by assumption) (by omega) w (Xy (inS hw 2 rfl lb)) (hT.below hw.out);rw [decide_eq_false hx] at h9;exact h9)) rfl ?_)))))
  refine AQ rfl (AD.skip (AH rfl) rfl (AV rfl) (AD.skip (AH rfl) rfl (AV rfl) (AD.skip (AH rfl) rfl (AV rfl) (AD.skip (AH rfl) rfl (AV rfl) (AD.skip (AH rfl) rfl (AV rfl) ?_)))))
  exact AK (v:=(Value.bool false)) (AR rfl rfl) rfl (asg' rfl (AD.nil (AC.subF (sL [4] rfl) (AC.then_ (AE.ret (AJ rfl (AS (v:=(Value.bool false)) rfl) (λw hw=>⟨by rw [Sr];simp [hx],hw.out⟩)))))))
theorem Oj (z:QD) (h:z.ok) (w:World) {S:Nat->Prop}  :Calls Tryz.prog 97 #[(aG (Gv z))] w (BH (FX (In z)) S w):=by
 obtain ⟨h1,h2,h3⟩:=h
 refine Aa (args:=[(aG (Gv z))]) Tryz.func97 rfl rfl (AV rfl) (AE.subF (sL [0] rfl) (q4 (BU (cs:=Gv z) rfl λb1=>al Pp rfl λb2=>q3 (sL [1,2] rfl) ?_)))
 refine AK (v:=(pP b1 0)) (AA rfl Tryz.underlying99 rfl Tryz.sizeOf2 rfl) rfl (BJ 1 (vI z.n) XJ rfl (AK (v:=(pP b1 1)) (AA rfl Tryz.underlying99 rfl Tryz.sizeOf97 rfl) rfl (BJ 1 (vK .u32 z.d) WO rfl (AK (Er (c:=((max z.d 1:Nat):Int)) rfl rfl (by split<;>omega)) rfl (AK (A6 (c:=((max z.d 1:Nat):Int)) rfl Tryz.underlying97 Tryz.underlying2 (Dk (by omega))) rfl ?_)))))
 exact cF (S:=S) (x:=(In z)) (args:=[(vI z.n),(vN (max z.d 1))]) Tryz.call153 (λw hw=>(BH.cast (T:=λi=>FX i) rfl (WI z.n ((max z.d 1:Nat):Int) (by omega) (by omega) (by omega) (by omega) w))) rfl rfl rfl λg1 lg1=>I3 rfl Tryz.sizeOf75 rfl (AD.nil (AC.subF (sL [2] rfl) (AC.then_ (AE.ret (AJ rfl (Au (i:=2) (cs:=fxL g1) rfl rfl Tryz.isAgg75 Tryz.sizeOf75 rfl) (λw hw=>GT (a:=(g1:FX (In z))) hw (inS hw 0 rfl lg1) rfl))))))
theorem Ew {r0:Rat} (x0:FX r0) {r1:Rat} (x1:FX r1):Instr.fill ([(0,3),(3,3)].toArray[·]?) ([(Value.bool false),(Value.slice none 0 0),(Value.slice none 0 0),(Value.bool false),(Value.slice none 0 0),(Value.slice none 0 0)]).toArray [(0,.agg (fxL x0).toArray),(1,.agg (fxL x1).toArray)]=some (fxL x0++fxL x1).toArray:=by kernel_rfl
theorem T7 (p:PD) (h:p.ok) (w:World) {S:Nat->Prop}  :Calls Tryz.prog 52 #[(aG (Cn p))] w (BH (PX (FU p)) S w):=by
 have h1:=h.1
 have h2:=h.2
 refine Aa (args:=[(aG (Cn p))]) Tryz.func52 rfl rfl (AV rfl) (AE.subF (sL [0] rfl) (q4 (BU (cs:=Cn p) rfl λb1=>al X1 rfl λb2=>q6 (sL [1,2] rfl) ?_)))
 refine CS [(0,true),(1,true),(3,true),(4,true),(2,false),(5,false),(6,true),(7,false)] (sl sr) (Ap (v:=(pP b1 0)) rfl (AA rfl Tryz.underlying101 rfl Tryz.sizeOf99 rfl) (GP 0 (Gv p.x) QO rfl (Ap (v:=(pP b1 2)) rfl (AA rfl Tryz.underlying101 rfl Tryz.sizeOf99 rfl) (GP 0 (Gv p.y) QO rfl (OkE.imp rfl ?_)))))
 refine cF (S:=S) (x:=(In p.x)) (args:=[(aG (Gv p.x))]) Tryz.call97 (λw hw=>Oj p.x (by assumption) w) rfl rfl rfl λg1 lg1=>OkE.back (sl (sl (sl sr))) (OkE.imp rfl (cF (S:=S) (x:=(In p.y)) (args:=[(aG (Gv p.y))]) Tryz.call97 (λw hw=>Oj p.y (by assumption) w) rfl rfl rfl λg2 lg2=>OkE.back (sl (sl (sl (sl (sl sr))))) (Ap (v:=(aG (fxL g1++fxL g2))) rfl (AU (zs:=[(Value.bool false),(Value.slice none 0 0),(Value.slice none 0 0),(Value.bool false),(Value.slice none 0 0),(Value.slice none 0 0)]) (vs:=fxL g1++fxL g2) (pv:=[(0,(aG (fxL g1))),(1,(aG (fxL g2)))]) (places:=[(0,3),(3,3)]) Tryz.zeroValue83 Tryz.underlying83 (λw=>by simp [Tryz.sizeOf75]) rfl (Ew g1 g2)) ?_)))
 refine OkE.imp rfl (Hp 4 (off:=0) (vs:=fxL g1++fxL g2) (cs':=fxL g1++fxL g2) (AW rfl) rfl Tryz.sizeOf83 rfl (OkE.back (sl (sl (sl (sl (sl sr))))) (OkE.nil (AC.subF (sL [2] rfl) (AC.then_ ?_)))))
 exact AE.ret (AJ rfl (Au (i:=4) (cs:=fxL g1++fxL g2) rfl rfl Tryz.isAgg83 Tryz.sizeOf83 rfl) (λw hw=>GT (a:=((PX.mk g1 g2:PX (⟨In p.x,In p.y⟩:Pt)):PX (FU p))) hw (Yf (inS hw 2 rfl lg1) (inS hw 0 rfl lg2)) rfl))
end
def ng (q:Rat):Nat:=if q.num.sign<0 then 1 else 0
section
def rowsL {α:Type} (enc:α->List Value) (xs:List α):List Value:=xs.flatMap enc
section
variable {α:Type} {enc:α->List Value} {z:Nat}
theorem Ca (xs ys:List α):rowsL enc (xs++ys)=rowsL enc xs++rowsL enc ys:=by simp [rowsL]
theorem Ab (h:∀x,(enc x).length=z) (xs:List α):(rowsL enc xs).length=xs.length*z:=by
  induction xs with
  | nil=>simp [rowsL]
  | cons x r ih =>
    have e:rowsL enc (x::r)=enc x++rowsL enc r:=rfl
    rw [e,List.length_append,ih,h,List.length_cons,Nat.add_mul];omega
theorem Aq (h:∀x,(enc x).length=z) (d:α):∀(xs:List α) (j:Nat),j<xs.length->((rowsL enc xs).drop (j*z)).take z=enc (xs.getD j d)
  | x::r,0,_=>by
    have e:rowsL enc (x::r)=enc x++rowsL enc r:=rfl
    rw [e,Nat.zero_mul,List.drop_zero,List.take_append_of_le_length (by rw [h];exact Nat.le_refl _),List.take_of_length_le (by rw [h];exact Nat.le_refl _)];rfl
  | x::r,j+1,hj=>by
    have e:rowsL enc (x::r)=enc x++rowsL enc r:=rfl
    rw [e,show (j+1)*z=(enc x).length+j*z by rw [h,Nat.add_mul];omega,List.drop_append,List.drop_of_length_le (by omega),Nat.add_sub_cancel_left,List.nil_append,Aq h d r j (by simpa using hj)];rfl
end
structure RX (cs:List Value) (n:Nat) where
  p:Option Addr
  c:Nat
  ok:A7 p n c
@[reducible] def RX.val {cs:List Value} {n:Nat} (a:RX cs n):Value:=.slice a.p n a.c
@[reducible] def RX.row {cs:List Value} {n:Nat} (a:RX cs n):As:=AG a.p cs
instance {cs:List Value} {n:Nat}:Cy (RX cs n):=⟨λa=>.slice a.p n a.c,λa=>[AG a.p cs],λa y hy=>by rcases List.mem_singleton.1 hy with rfl;rfl⟩
def Xl (xs:List Nat):List Value:=xs.map λx=>Value.int .u8 (x:Nat)
structure MQ where
  nx:Nat
  ny:Nat
  cs:List Nat
  p:Option Addr
  cap:Nat
  a:Int
  b:Int
  c:Int
  d:Int
  den:Nat
  fst:Nat
  hx:nx<256
  hy:ny<256
  ha:-128<=a/\a<=127
  hb:-128<=b/\b<=127
  hc:-128<=c/\c<=127
  hd:-128<=d/\d<=127
  hden:den<256
  hfst:fst<256
  hcs:∀x∈cs,x<256
  ok:A7 p cs.length cap
def YX (m:MQ):List Value:=[.int .u8 m.nx,.int .u8 m.ny,.slice m.p m.cs.length m.cap,.int .i8 m.a,.int .i8 m.b,.int .i8 m.c,.int .i8 m.d,.int .u8 m.den,.int .u8 m.fst]
instance:Cy MQ:=⟨λm=>aG (YX m),λm=>[AG m.p (Xl m.cs)],λa y hy=>by rcases List.mem_singleton.1 hy with rfl;rfl⟩
abbrev P2:=Nat×Nat
def W2 (nx way i:Nat):List (P2×P2×P2) :=
  let x:=2*(i%nx);let y:=2*(i/nx)
  if way<3\/(way=7/\i=0) then [((x,y),(x+2,y),(x+2,y+2)),((x,y),(x+2,y+2),(x,y+2))]
  else if way<5 then [((x,y),(x+2,y),(x,y+2)),((x+2,y),(x+2,y+2),(x,y+2))]
  else if way<7 then [((x,y),(x+2,y),(x+1,y+1)),((x+2,y),(x+2,y+2),(x+1,y+1)),((x+2,y+2),(x,y+2),(x+1,y+1)),((x,y+2),(x,y),(x+1,y+1))] else []
section
variable {nx way i u v:Nat}
end
def Gw (p:P2):List Value:=[vN p.1,vN p.2]
def BA (t:Nat×Nat×Nat):List Value:=[vN t.1,vN t.2.1,vN t.2.2]
theorem Be (t:Nat×Nat×Nat):(BA t).length=3:=rfl
def XY (z:Int×Int):List Value:=[.int .i64 z.1,.int .i64 z.2]
def Xu (m:MQ) (i:Nat):Nat:=if 0<m.cs.length then m.cs.getD (i%m.cs.length) 0%8 else 0
def YT (m:MQ):Nat:=1+m.nx%3
def Ye (m:MQ):Nat:=1+m.ny%3
def Sm (m:MQ):Nat->List (P2×P2×P2)
  | 0=>[]
  | i+1=>Sm m i++W2 (YT m) (Xu m i) i
def GX (m:MQ):List (P2×P2×P2):=Sm m (YT m*Ye m)
structure Ll where
  a:Int
  b:Int
  c:Int
  d:Int
def Ll.det (k:Ll):Int:=k.a*k.d-k.b*k.c
def Ll.at_ (k:Ll) (p:P2):Int×Int:=(k.a*p.1+k.b*p.2,k.c*p.1+k.d*p.2)
def Xs (a b c d:Int):Ll :=
  let k:Ll:=⟨a.tmod 4,b.tmod 4,c.tmod 4,d.tmod 4⟩
  if k.det=0 then ⟨1,0,0,1⟩ else if k.det<0 then ⟨k.a,k.b,-k.c,-k.d⟩ else k
def YY (k:Ll) (den:Nat) (p:P2):PD:=⟨⟨(k.at_ p).1,den⟩,⟨(k.at_ p).2,den⟩⟩
end
section
section
variable {P:Program}
theorem Pb.one {D c i:Nat} {e:TypeId} {is:List Nat} {xs ys:List Value} {u v:Value} {r s:Bool} (hg:∀w,(isAgg e).run P w=.ok false w)
    (ha:xs[i*c]?=some u) (hb:ys[i*c]?=some v) (h:EK P D e u v r) (h2:Pb P D e c xs ys is s):Pb P D e c xs ys (i::is) (r&&s):=λw=>by
  have e1:(part e xs.toArray (i*c)).run P w=.ok u w:=by simp [part,hg,ha]
  have e2:(part e ys.toArray (i*c)).run P w=.ok v w:=by simp [part,hg,hb]
  simp only [Go.Op.eqItems,Sem.run_bind,e1,e2,Result.andThen_ok,h w]
  cases r
  · simp
  · simp [h2 w]
end
theorem Rl:∃i,Tryz.prog.info? 3=some i:=Option.isSome_iff_exists.1 (by kernel_rfl)
theorem O9:Tryz.prog.cellsOf 3=1:=by kernel_rfl
def XW (c:P2×P2×P2) (k:Nat):P2:=if k=0 then c.1 else if k=1 then c.2.1 else c.2.2
def XO (m:MQ) (t k:Nat):Nat:=(k+m.fst+t*(m.fst/3))%3
def O0 (m:MQ) (t k:Nat):P2:=XW ((GX m).getD t ((0,0),(0,0),(0,0))) (XO m t k)
structure JK (m:MQ) (pl:List P2) (n:Nat×Nat×Nat) (t:Nat):Prop where
  a:n.1<pl.length/\pl.getD n.1 (0,0)=O0 m t 0
  b:n.2.1<pl.length/\pl.getD n.2.1 (0,0)=O0 m t 1
  c:n.2.2<pl.length/\pl.getD n.2.2 (0,0)=O0 m t 2
structure NI (m:MQ) (i:Nat) (pl:List P2) (ts:List (Nat×Nat×Nat)):Prop where
  tl:ts.length=i
  pll:pl.length<=3*i
  at_:∀j,j<i->JK m pl (ts.getD j (0,0,0)) j
  Iv:∀p∈pl,p.1<=6/\p.2<=6
  used:∀a,a<pl.length->∃j,j<i/\((ts.getD j (0,0,0)).1=a\/(ts.getD j (0,0,0)).2.1=a\/(ts.getD j (0,0,0)).2.2=a)
def XN (pl:List P2):Prop:=∀a b,a<pl.length->b<pl.length->pl.getD a (0,0)=pl.getD b (0,0)->a=b
def mapM (m:MQ):Ll:=Xs m.a m.b m.c m.d
theorem Jl {pl:List P2} {x:P2} {j:Nat} (h:j<pl.length):(pl++[x]).getD j (0,0)=pl.getD j (0,0):=by simp [List.getD,List.getElem?_append_left h]
def Jq (a b:List P2):Prop:=a.length<=b.length/\∀j,j<a.length->b.getD j (0,0)=a.getD j (0,0)
theorem Jq.refl (a:List P2):Jq a a:=⟨Nat.le_refl _,λ_ _=>rfl⟩
theorem Jq.trans {a b c:List P2} (h:Jq a b) (k:Jq b c):Jq a c:=⟨Nat.le_trans h.1 k.1,λj hj=>(k.2 j (by have:=h.1;omega)).trans (h.2 j hj)⟩
theorem Jq.snoc (a:List P2) (x:P2):Jq a (a++[x]):=⟨by simp,λj hj=>Jl hj⟩
theorem JK.more {m:MQ} {a b:List P2} {n:Nat×Nat×Nat} {t:Nat} (h:JK m a n t) (k:Jq a b):JK m b n t :=
  ⟨⟨by have:=h.a.1;have:=k.1;omega,(k.2 _ h.a.1).trans h.a.2⟩,⟨by have:=h.b.1;have:=k.1;omega,(k.2 _ h.b.1).trans h.b.2⟩,⟨by have:=h.c.1;have:=k.1;omega,(k.2 _ h.c.1).trans h.c.2⟩⟩
theorem H0 {ts:List (Nat×Nat×Nat)} {x:Nat×Nat×Nat} {j:Nat} (h:j<ts.length):(ts++[x]).getD j (0,0,0)=ts.getD j (0,0,0):=by simp [List.getD,List.getElem?_append_left h]
theorem NI.step {m:MQ} {i:Nat} {pl pl':List P2} {ts:List (Nat×Nat×Nat)} {n:Nat×Nat×Nat} (h:NI m i pl ts) (k:Jq pl pl') (hl:pl'.length<=pl.length+3) (hs:∀p∈pl',p.1<=6/\p.2<=6) (hn:JK m pl' n i) (hu:∀a,a<pl'.length->a<pl.length\/n.1=a\/n.2.1=a\/n.2.2=a):NI m (i+1) pl' (ts++[n]) :=
  ⟨by rw [List.length_append,h.tl];rfl,by have:=h.pll;omega,λj hj=>by
    rcases Nat.lt_or_ge j i with h1|h1
    · rw [H0 (by rw [h.tl];exact h1)];exact (h.at_ j h1).more k
    · have e:j=i:=by omega
      subst e
      have e2:(ts++[n]).getD j (0,0,0)=n:=by rw [<-h.tl];simp [List.getD]
      rw [e2];exact hn,hs,λa ha=>by
    rcases hu a ha with h1|h1
    · obtain ⟨j,hj,h2⟩:=h.used a h1
      exact ⟨j,by omega,by rw [H0 (by rw [h.tl];exact hj)];exact h2⟩
    · have e2:(ts++[n]).getD i (0,0,0)=n:=by rw [<-h.tl];simp [List.getD]
      exact ⟨i,by omega,by rw [e2];exact h1⟩⟩
def Wd (t:Nat×Nat×Nat) (x:Nat):Bool:=decide (t.1=x)||decide (t.2.1=x)||decide (t.2.2=x)
def X0 (m:MQ) (a b:Nat):Nat×Nat×Nat:=(a,b,(a+3*b+m.fst)%5)
def Wa (ts:List (Nat×Nat×Nat)) (a b:Nat):Nat->Nat
  | 0=>0
  | i+1=>Wa ts a b i+(if Wd (ts.getD i (0,0,0)) a=true/\Wd (ts.getD i (0,0,0)) b=true then 1 else 0)
def Wh (m:MQ) (ts:List (Nat×Nat×Nat)) (a:Nat):Nat->List (Nat×Nat×Nat)
  | 0=>[]
  | j+1=>Wh m ts a j++(if Wa ts a (a+1+j) ts.length=1 then [X0 m a (a+1+j)] else [])
def NC (m:MQ) (ts:List (Nat×Nat×Nat)) (N:Nat):Nat->List (Nat×Nat×Nat)
  | 0=>[]
  | a+1=>NC m ts N a++Wh m ts a (N-(a+1))
structure WM (m:MQ) where
  pl:List P2
  ts:List (Nat×Nat×Nat)
  ss:List (Nat×Nat×Nat)
  inv:NI m (GX m).length pl ts
  dst:XN pl
  sl:ss.length<=108*108
  sd:ss=NC m ts pl.length pl.length
  a:RX (rowsL XY (pl.map λp=>(mapM m).at_ p)) pl.length
  b:RX (rowsL BA ts) ts.length
  c:RX (rowsL BA ss) ss.length
def YK {m:MQ} (x:WM m):List Value:=[x.a.val,x.b.val,x.c.val]
theorem Wq {m:MQ} {x:WM m} {y:As} (hy:y∈[x.a.row,x.b.row,x.c.row]):y.ro=true:=by
  simp only [List.mem_cons,List.not_mem_nil,or_false] at hy
  rcases hy with rfl|rfl|rfl<;>rfl
instance {m:MQ}:Cy (WM m):=⟨λx=>aG (YK x),λx=>[x.a.row,x.b.row,x.c.row],λx y hy=>Wq hy⟩
theorem GE {S:Nat->Prop} {W w:World} {L:List As} (hw:BE ⟨W,none⟩ w L) (i:Nat) {p:Option Addr} {T:TypeId} {z n c:Nat} {cs:List Value} (hi:L[i]?=some (rowW p T z n c cs)) (ho:OwnOk p n c) (hl:cs.length=n*z):Holds w (AG p cs)/\∀b,(AG p cs).foot=some b->W.heap.size<=b\/S b:=by
  have hb:=hw.newRow hi
  refine ⟨λd e=>?_,λd e=>.inl (hb d e)⟩
  obtain ⟨_,o,ho2,hp⟩:=hw.2.1 _ (List.mem_of_getElem? hi) d e
  exact ⟨o,ho2,Bu ho hl hp⟩
section
variable {P:Program} {ops:Array Oper} {rest:List Oper} {Q:Exit->Act->World->Prop} {n d:Nat} {F:List (Nat×Value)} {w0:A_} {S:Nat->Prop} {L:List As} {t:TypeId} {p:String} {af:Array Edge} {y:Operand} {f:FuncId} {xs:List Operand} {args:List Value} {ts:Array TypeId}
theorem cX {cs:List Value} {k:Nat} (hc:∀args w,(callFunc f args).run P w=.ok (.enter f args) w) (h:∀w,BE w0 w L->Calls P f args.toArray w (BH (RX cs k) (SL w0 S L) w))
    (hf:evF F y=some (.func (.func f) #[] #[])) (hargs:xs.map (evF F)=args.map some) (hd:Nat.ble (d+1) n=true) (next:∀a:RX cs k,At w0 S a->AD P ops rest Q n ((d,.slice a.p k a.c)::F) w0 (AG a.p cs::L)) :
    AD P ops (⟨some d,.call { callee:=.value y,args:=xs.toArray,argTypes:=ts },t,p,af,none⟩::rest) Q n F w0 L:=AD.callR hc h hf hargs hd next
end
def Wv (p:Option Addr) (T:TypeId) (z n c:Nat) (cs:List Value):As:=⟨p.map (·.block),(rowW p T z n c cs).P,true⟩
theorem BH.weak {α:Type} [Cy α] {S S':Nat->Prop} {W w:World} {e:Ending} (h:BH α S W e w) (hs:∀b,S b->S' b):BH α S' W e w:=by
  obtain ⟨a,h1,h2,h3⟩:=h
  exact ⟨a,h1,h2,h3.mono λb h=>h.imp id (hs b)⟩
structure YE (m:MQ) where
  x:WM m
  ob:OwnOk x.b.p x.ts.length x.b.c
def XV {m:MQ} (y:YE m):As:=Wv y.x.b.p 53 3 y.x.ts.length y.x.b.c (rowsL BA y.x.ts)
instance {m:MQ}:Cy (YE m):=⟨λy=>aG (YK y.x),λy=>[y.x.a.row,y.x.b.row,y.x.c.row,XV y],λx y hy=>by
  simp only [List.mem_cons,List.not_mem_nil,or_false] at hy
  rcases hy with rfl|rfl|rfl|rfl<;>rfl⟩
end

theorem Bn {α:Type} {enc:α->List Value} {z:Nat} (h:∀x,(enc x).length=z) (d:α) (xs:List α) (j r:Nat) (hj:j<xs.length) (hr:r<z) {v:Value} (hv:(enc (xs.getD j d))[r]?=some v):(rowsL enc xs)[j*z+r]?=some v:=by
  have h1:=Aq h d xs j hj
  rw [<-h1,List.getElem?_take_of_lt hr,List.getElem?_drop] at hv
  exact hv
theorem Av (p:Pt):(Af p).length=10:=rfl
structure Xe (ps:List Pt) (t:Nat×Nat×Nat):Prop where
  a:t.1<ps.length
  b:t.2.1<ps.length
  c:t.2.2<ps.length
  ab:t.1≠t.2.1
  bc:t.2.1≠t.2.2
  ca:t.2.2≠t.1
  pos:0<Am (ps.getD t.1 ⟨0,0⟩) (ps.getD t.2.1 ⟨0,0⟩) (ps.getD t.2.2 ⟨0,0⟩)
def Xc (ps:List Pt) (t:Nat×Nat×Nat) (q:Pt):Prop:=0<Am q (ps.getD t.2.1 ⟨0,0⟩) (ps.getD t.2.2 ⟨0,0⟩)/\0<Am (ps.getD t.1 ⟨0,0⟩) q (ps.getD t.2.2 ⟨0,0⟩)/\0<Am (ps.getD t.1 ⟨0,0⟩) (ps.getD t.2.1 ⟨0,0⟩) q
def Xj (ps:List Pt) (t:Nat×Nat×Nat) (q:Pt):Prop:=0<=Am q (ps.getD t.2.1 ⟨0,0⟩) (ps.getD t.2.2 ⟨0,0⟩)/\0<=Am (ps.getD t.1 ⟨0,0⟩) q (ps.getD t.2.2 ⟨0,0⟩)/\0<=Am (ps.getD t.1 ⟨0,0⟩) (ps.getD t.2.1 ⟨0,0⟩) q
def V_ (m:MQ):Nat:=1+m.den%6
def Yh (m:MQ) (z:Int×Int):PD:=⟨⟨z.1,V_ m⟩,⟨z.2,V_ m⟩⟩
def YC (m:MQ) (zs:List (Int×Int)) (i:Nat):List Pt:=(zs.take i).map λz=>FU (Yh m z)
def YR (m:MQ) (pl:List P2):List (Int×Int):=pl.map λp=>(mapM m).at_ p
structure Wn (ps:List Pt) (ts:List (Nat×Nat×Nat)):Prop where
  ne:ts≠[]
  tl:ts.length<=36
  pl:ps.length<=108
  sz:∀i,B3 (ps.getD i ⟨0,0⟩)<=4
  tri:∀j,j<ts.length->Xe ps (ts.getD j (0,0,0))
  apart:∀i j,i<ts.length->j<ts.length->i≠j->∀q,Xc ps (ts.getD i (0,0,0)) q->¬Xj ps (ts.getD j (0,0,0)) q
  lat:∃(m:MQ) (pl:List P2),NI m (GX m).length pl ts/\XN pl/\ps=YC m (YR m pl) pl.length
structure MG where
  ps:List Pt
  ts:List (Nat×Nat×Nat)
  ss:List (Nat×Nat×Nat)
  good:Wn ps ts
  sl:ss.length<=108*108
  sd:∃m:MQ,ss=NC m ts ps.length ps.length
  a:RX (rowsL Af ps) ps.length
  b:RX (rowsL BA ts) ts.length
  c:RX (rowsL BA ss) ss.length
def XQ (x:MG):List Value:=[x.a.val,x.b.val,x.c.val]
theorem Uy {x:MG} {y:As} (hy:y∈[x.a.row,x.b.row,x.c.row]):y.ro=true:=by
  simp only [List.mem_cons,List.not_mem_nil,or_false] at hy
  rcases hy with rfl|rfl|rfl<;>rfl
instance:Cy MG:=⟨λx=>aG (XQ x),λx=>[x.a.row,x.b.row,x.c.row],λx y hy=>Uy hy⟩
def Xw (m:MQ) (ps:List Pt) (ts:List (Nat×Nat×Nat)):Prop:=∃pl:List P2,NI m (GX m).length pl ts/\XN pl/\ps=YC m (YR m pl) pl.length
structure MF (m:MQ) where
  g:MG
  lat:Xw m g.ps g.ts
instance {m:MQ}:Cy (MF m):=⟨λx=>aG (XQ x.g),λx=>[x.g.a.row,x.g.b.row,x.g.c.row],λx y hy=>Uy hy⟩
structure YI (m:MQ) where
  f:MF m
  ob:OwnOk f.g.b.p f.g.ts.length f.g.b.c
  da:∀x,f.g.b.p.map (·.block)=some x->f.g.a.p.map (·.block)≠some x
  dc:∀x,f.g.b.p.map (·.block)=some x->f.g.c.p.map (·.block)≠some x
def X4 {m:MQ} (y:YI m):As:=Wv y.f.g.b.p 53 3 y.f.g.ts.length y.f.g.b.c (rowsL BA y.f.g.ts)
instance {m:MQ}:Cy (YI m):=⟨λy=>aG (XQ y.f.g),λy=>[y.f.g.a.row,y.f.g.b.row,y.f.g.c.row,X4 y],λx y hy=>by
  simp only [List.mem_cons,List.not_mem_nil,or_false] at hy
  rcases hy with rfl|rfl|rfl|rfl<;>rfl⟩
section
structure MX (ps:List Pt) (ts ss:List (Nat×Nat×Nat)) where
  a:RX (rowsL Af ps) ps.length
  b:RX (rowsL BA ts) ts.length
  c:RX (rowsL BA ss) ss.length
def DA {ps:List Pt} {ts ss:List (Nat×Nat×Nat)} (x:MX ps ts ss):List Value:=[x.a.val,x.b.val,x.c.val]
theorem W4 {ps:List Pt} {ts ss:List (Nat×Nat×Nat)} {x:MX ps ts ss} {y:As} (hy:y∈[x.a.row,x.b.row,x.c.row]):y.ro=true:=by
  simp only [List.mem_cons,List.not_mem_nil,or_false] at hy
  rcases hy with rfl|rfl|rfl<;>rfl
instance {ps:List Pt} {ts ss:List (Nat×Nat×Nat)}:Cy (MX ps ts ss):=⟨λx=>aG (DA x),λx=>[x.a.row,x.b.row,x.c.row],λx y hy=>W4 hy⟩
structure BX (cs:List Value) where
  b:Nat
instance {cs:List Value}:Cy (BX cs):=⟨λx=>pP x.b 0,λx=>[AG (some ⟨x.b,0,none⟩) cs],λx y hy=>by rcases List.mem_singleton.1 hy with rfl;rfl⟩
theorem Eu {b:Nat} {T:TypeId} {cs:List Value} {o:Obj} (h:(Ad b T cs).P o):(AG (some ⟨b,0,none⟩) cs).P o:=⟨cs.toArray,T,(0,0),h,by show (cs.toArray.toList.drop 0).take cs.length=cs;simp⟩
section
variable {S:Nat->Prop} {w W:World} {w0:A_} {L:List As} {ps:List Pt} {ts ss:List (Nat×Nat×Nat)} {cs:List Value}
theorem X5 {x:MX ps ts ss} (h:Ro S w x):Ro S w x.a:=λy hy=>by rcases List.mem_singleton.1 hy with rfl;exact h _ List.mem_cons_self
theorem TD {x:MX ps ts ss} (h:Ro S w x):Ro S w x.b:=λy hy=>by rcases List.mem_singleton.1 hy with rfl;exact h _ (List.mem_cons_of_mem _ List.mem_cons_self)
theorem S9 (hw:BE w0 w L) (i:Nat) {x:BX cs} (hi:L[i]?=some (AG (some ⟨x.b,0,none⟩) cs)) (hb:w0.w.heap.size<=x.b):Ro (SL w0 S L) w x:=λy hy=>by
  rcases List.mem_singleton.1 hy with rfl
  exact ⟨hw.holds hi,λc e=>⟨⟨_,List.mem_of_getElem? hi,rfl,e⟩,.inl (by injection e with e;rw [<-e];exact hb)⟩⟩
end
section
variable {P:Program} {ops:Array Oper} {rest:List Oper} {Q:Exit->Act->World->Prop} {n d:Nat} {F:List (Nat×Value)} {w0:A_} {S:Nat->Prop} {L:List As} {t:TypeId} {p:String} {af:Array Edge} {y:Operand} {f:FuncId} {xs:List Operand} {args:List Value} {ts:Array TypeId}
theorem AD.frzX (i:Nat) {b:Nat} {T:TypeId} {cs:List Value} (hi:L[i]?=some (Ad b T cs)) (hex:w0.ex=none) (next:w0.w.heap.size<=b->AD P ops rest Q n F w0 (L.set i (AG (some ⟨b,0,none⟩) cs))):AD P ops rest Q n F w0 L:=λa w ha hw=>by
  refine next ?_ a w ha (hw.freeze hi rfl (λo hp=>Eu hp) (λe=>by cases e))
  rcases (hw.2.1 _ (List.mem_of_getElem? hi) b rfl).1 with h1|h1|h1
  · cases h1
  · exact h1
  · rw [hex] at h1;cases h1
end
def Mo (n:Nat) (t:Nat×Nat×Nat):Bool:=decide (t.1<n)&&decide (t.2.1<n)&&decide (t.2.2<n)&&!decide (t.1=t.2.1)&&!decide (t.2.1=t.2.2)&&!decide (t.2.2=t.1)
def DK (n:Nat) (ts:List (Nat×Nat×Nat)):Bool:=ts.all (Mo n)
theorem DD {n:Nat} {ts:List (Nat×Nat×Nat)} (h:DK n ts=true) {j:Nat} (hj:j<ts.length):Mo n (ts.getD j (0,0,0))=true:=by
  rw [List.getD,List.getElem?_eq_getElem hj]
  exact List.all_eq_true.1 h _ (List.getElem_mem hj)
theorem DV {n:Nat} {t:Nat×Nat×Nat} (h:Mo n t=true):t.1<n/\t.2.1<n/\t.2.2<n:=by
  simp [Mo] at h;omega
def idxB (n:Nat):List (Nat×Nat×Nat)->Nat->Int
  | [],_ => -1
  | t::r,i=>if Mo n t=true then idxB n r (i+1) else (i:Int)
theorem Oc {α:Type} {ts:List α} {d:α} {j:Nat} (hj:j<ts.length):ts.drop j=ts.getD j d::ts.drop (j+1):=by
  rw [List.drop_eq_getElem_cons hj,List.getD,List.getElem?_eq_getElem hj];rfl
theorem QK {n:Nat} {ts:List (Nat×Nat×Nat)} {j:Nat} (hj:j<ts.length) (h:Mo n (ts.getD j (0,0,0))=true):idxB n (ts.drop j) j=idxB n (ts.drop (j+1)) (j+1):=by
  rw [Oc (d:=(0,0,0)) hj];exact if_pos h
theorem R6 {n:Nat} {ts:List (Nat×Nat×Nat)} {j:Nat} (hj:j<ts.length) (h:Mo n (ts.getD j (0,0,0))=false):idxB n (ts.drop j) j=(j:Int):=by
  rw [Oc (d:=(0,0,0)) hj];exact if_neg (by rw [h];exact Bool.false_ne_true)
theorem Qh {n:Nat} {ts:List (Nat×Nat×Nat)} {j:Nat} (hj:¬j<ts.length):idxB n (ts.drop j) j = -1:=by
  rw [List.drop_of_length_le (by omega)];rfl
theorem J_ (n:Nat):∀(ts:List (Nat×Nat×Nat)) (i:Nat),decide (0<=idxB n ts i)=!DK n ts
  | [],i=>rfl
  | t::r,i=>by
    unfold idxB DK
    rw [List.all_cons]
    cases h:Mo n t with
    | true=>rw [if_pos rfl,Bool.true_and];exact J_ n r (i+1)
    | false=>rw [if_neg Bool.false_ne_true,Bool.false_and];simp
def C2 (ps:List Pt) (k:Nat):Pt:=ps.getD k ⟨0,0⟩
def Nl (a b c p:Pt):Nat:=if Am a b c=0 then 0 else Hf (Am p b c/Am a b c) (Am a p c/Am a b c) (Am a b p/Am a b c)
def NE (ps:List Pt) (q:Pt) (t:Nat×Nat×Nat):Nat:=Nl (C2 ps t.1) (C2 ps t.2.1) (C2 ps t.2.2) q
end
def Ym (l:List Nat):List Value:=l.map λ(d:Nat)=>vN d
end Go.Proofs.YtpgncndhhhllfaaGreatDoor
