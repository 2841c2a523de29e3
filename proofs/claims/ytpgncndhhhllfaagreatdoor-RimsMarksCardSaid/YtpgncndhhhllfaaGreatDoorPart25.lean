import Derived.Test.YtpgncndhhhllfaaGreatDoorPart04
import Derived.Test.YtpgncndhhhllfaaGreatDoorPart06
import Derived.Test.YtpgncndhhhllfaaGreatDoorPart08
import Derived.Test.YtpgncndhhhllfaaGreatDoorPart14
import Derived.Test.YtpgncndhhhllfaaGreatDoorPart19
import Derived.Test.YtpgncndhhhllfaaGreatDoorPart23
import Derived.Test.YtpgncndhhhllfaaGreatDoorPart24
namespace Go.Proofs.YtpgncndhhhllfaaGreatDoor
open Go Go.RowKit Go.Proofs.Tryz
set_option linter.unusedVariables false
set_option linter.unusedSimpArgs false
section
set_option maxRecDepth 100000
theorem LS {n:Nat} (h:n<18446744073709551616):(Lib.decDigits n).length<=20:=by rw [Lib.decDigits_length];exact Lib.nDigits_le20 n h
theorem Us {z:Int} (h:z.natAbs<18446744073709551616):(FA z).length<=21:=by
 have:=LS h
 unfold FA;split<;>simp<;>omega
theorem Hs (n:Nat) (hn:n<18446744073709551616) (w:World) (hT:NK w):Calls Tryz.prog 95 #[(aG (Aa n))] w (An w (Value.string (txB (Lib.decDigits n)))):=by
 refine Ag (args:=[(aG (Aa n))]) Tryz.func95 rfl rfl (AY rfl) (AF.subF (sL [0] rfl) (q4 (B9 (cs:=Aa n) rfl λb1=>asg' rfl (q6 (sL [1,2] rfl) ?_))))
 refine q4 (AH (v:=(pP b1 1)) (AA rfl Tryz.underlying42 rfl Tryz.sizeOf9 rfl) rfl (BD 0 (Value.string (BW n)) RJ rfl (AH (Ba (c:=(decide (n<18446744073709551616))) rfl rfl CI) rfl (AD.nil (AC.subF (sL [1,2,10] rfl) ?_)))))
 refine AC.then_ ?_
 refine AF.cond rfl (λhc0=>?_) (λhc0=>?_)
 ·replace hc0:=of_decide_eq_true hc0
  refine q4 (AH (v:=(pP b1 0)) (AA rfl Tryz.underlying42 rfl Tryz.sizeOf40 rfl) rfl (BD 0 (vK .u64 (Bq n)) F1 rfl (AD.retell (k:=12) (u:=(vK .u64 n)) rfl (by rw [BU (by omega)]) (DC Tryz.call159 (λw hw=>OY n (by omega) w (hT.below hw.out)) rfl (asg' rfl ?_)))))
  exact AD.nil (AC.subF (sL [1,2] rfl) (AC.then_ (AF.ret (AC.then_ret (AN rfl (AQ (v:=(Value.string (txB (Lib.decDigits n)))) rfl) (λw hw=>⟨rfl,hw.out⟩))))))
 ·replace hc0:=of_decide_eq_false hc0
  exfalso;omega
theorem Kh (z:Int) (hz:z.natAbs<18446744073709551616) (w:World) (hT:NK w):Calls Tryz.prog 94 #[(aG (BQ z))] w (An w (Value.string (txB (FA z)))):=by
 have hl:=LS hz
 refine Ag (args:=[(aG (BQ z))]) Tryz.func94 rfl rfl (AY rfl) (AF.subF (sL [0] rfl) (q4 (B9 (cs:=BQ z) rfl λb1=>asg' rfl (q6 (sL [1,2] rfl) ?_))))
 refine q4 (AH (v:=(pP b1 2)) (AA rfl Tryz.underlying46 rfl Tryz.sizeOf4 rfl) rfl (BD 0 (Value.bool (decide (z<0))) T0 rfl (AD.nil (AC.subF (sL [1,2,4] rfl) (AC.then_ ?_)))))
 refine AF.cond rfl (λhc0=>?_) (λhc0=>?_)
 ·replace hc0:=of_decide_eq_true hc0
  have he:FA z=45::Lib.decDigits z.natAbs:=by unfold FA;rw [if_pos hc0]
  refine q4 (AH (v:=(pP b1 0)) (AA rfl Tryz.underlying46 rfl Tryz.sizeOf44 rfl) rfl (AH (v:=(pP b1 0)) (AA rfl Tryz.underlying44 rfl Tryz.sizeOf42 rfl) rfl (Gi 0 (Aa z.natAbs) CT rfl (DC Tryz.call95 (λw hw=>Hs z.natAbs (by omega) w (hT.below hw.out)) rfl (AH (v:=(Value.string (txB (45::Lib.decDigits z.natAbs)))) (CH (r:=(txB (45::Lib.decDigits z.natAbs))) rfl rfl (by rw [C7];show 1+_<=_;omega) (DA [45] _)) rfl ?_)))))
  exact asg' rfl (AD.nil (AC.subF (sL [1,2] rfl) (AC.then_ (AF.ret (AC.then_ret (AN rfl (AQ (v:=(Value.string (txB (45::Lib.decDigits z.natAbs)))) rfl) (λw hw=>⟨by rw [he],hw.out⟩)))))))
 ·replace hc0:=of_decide_eq_false hc0
  have he:FA z=Lib.decDigits z.natAbs:=by unfold FA;rw [if_neg hc0]
  refine AF.skip (q2 (AH (v:=(pP b1 0)) (AA rfl Tryz.underlying46 rfl Tryz.sizeOf44 rfl) rfl (AH (v:=(pP b1 0)) (AA rfl Tryz.underlying44 rfl Tryz.sizeOf42 rfl) rfl (Gi 0 (Aa z.natAbs) CT rfl (DC Tryz.call95 (λw hw=>Hs z.natAbs (by omega) w (hT.below hw.out)) rfl ?_)))))
  exact asg' rfl (AD.nil (AC.subF (sL [1,2] rfl) (AC.then_ (AF.ret (AN rfl (AQ (v:=(Value.string (txB (Lib.decDigits z.natAbs)))) rfl) (λw hw=>⟨by rw [he],hw.out⟩))))))
theorem Qi (q:Rat) (hn:q.num.natAbs<18446744073709551616) (hd:q.den<18446744073709551616) (w:World) (hT:NK w):Calls Tryz.prog 38 #[(aG (Ap q))] w (An w (Value.string (txB (Lr q)))):=by
 have hl1:=Us hn
 have hl2:=LS hd
 have hdn:nw q.den<=1099511627776:=Nat.le_trans (CS.2 (show q.den<4294967296^2 from hd)) (by decide)
 refine Ag (args:=[(aG (Ap q))]) Tryz.func38 rfl rfl (AY rfl) (AF.subF (sL [0] rfl) (q4 (B9 (cs:=Ap q) rfl λb1=>asg' rfl (q6 (sL [1,2] rfl) ?_))))
 refine q4 (BF 0 Fi rfl (ck' Tryz.call53 (Iv q) rfl (AD.nil (AC.subF (sL [1,2,4] rfl) (AC.then_ ?_)))))
 refine AF.cond rfl (λhc0=>?_) (λhc0=>?_)
 ·replace hc0:=of_decide_eq_true hc0
  have he:Lr q=FA q.num:=by unfold Lr;rw [if_pos hc0]
  refine q4 (AH (v:=(pP b1 0)) (AA rfl Tryz.underlying48 rfl Tryz.sizeOf46 rfl) rfl (Gi 0 (BQ q.num) GJ rfl (DC Tryz.call94 (λw hw=>Kh q.num (by omega) w (hT.below hw.out)) rfl (asg' rfl (AD.nil ?_)))))
  exact AC.subF (sL [1,2] rfl) (AC.then_ (AF.ret (AC.then_ret (AN rfl (AQ (v:=(Value.string (txB (FA q.num)))) rfl) (λw hw=>⟨by rw [he],hw.out⟩)))))
 ·replace hc0:=of_decide_eq_false hc0
  have he:Lr q=FA q.num++[47]++Lib.decDigits q.den:=by unfold Lr;rw [if_neg hc0,List.append_assoc];rfl
  refine AF.skip (q1 (Cw [(0,true),(1,true),(4,true),(2,false),(3,true),(5,false),(6,false),(7,true),(8,true)] sr (Aw (v:=(pP b1 0)) rfl (AA rfl Tryz.underlying48 rfl Tryz.sizeOf46 rfl) (Qf 0 (BQ q.num) GJ rfl (GO 0 Fi rfl ?_)))))
  refine OkE.imp rfl (DC Tryz.call94 (λw hw=>Kh q.num (by omega) w (hT.below hw.out)) rfl (OkE.back sr (Aw (v:=(Value.string (txB (FA q.num++[47])))) rfl (CH (r:=(txB (FA q.num++[47]))) rfl rfl (by rw [C7];show _+1<=_;omega) (DA _ [47])) (OkE.imp rfl (ck' Tryz.call57 (den_ok q (by omega)) rfl ?_)))))
  refine OkE.back sr (OkE.imp rfl (DC Tryz.call95 (λw hw=>Hs q.den (by omega) w (hT.below hw.out)) rfl (OkE.back sr (Aw (v:=(Value.string (txB (FA q.num++[47]++Lib.decDigits q.den)))) rfl (CH (r:=(txB (FA q.num++[47]++Lib.decDigits q.den))) rfl rfl (by rw [C7,C7,List.length_append,List.length_singleton];omega) (DA _ _)) (pS' rfl ?_)))))
  exact OkE.nil (AC.subF (sL [1,2] rfl) (AC.then_ (AF.ret (AN rfl (AQ (v:=(Value.string (txB (FA q.num++[47]++Lib.decDigits q.den)))) rfl) (λw hw=>⟨by rw [he],hw.out⟩)))))
def FW (q:Rat):Prop:=q.num.natAbs<18446744073709551616/\q.den<18446744073709551616
def PW (p:Pt):Prop:=FW p.x/\FW p.y
theorem Wc {n:Int} {k:Nat} (hk:k≠0) (hn:n.natAbs<18446744073709551616) (hk2:k<18446744073709551616):FW ((n:Rat)/((k:Int):Rat)):=by
 have e:(n:Rat)/((k:Int):Rat)=mkRat n k:=by
  rw [<-Rat.divInt_eq_div];rfl
 rw [e,Rat.mkRat_def,dif_neg hk]
 refine ⟨Nat.lt_of_le_of_lt ?_ hn,Nat.lt_of_le_of_lt ?_ hk2⟩
 ·rw [Rat.normalize_eq]
  show (n/((n.natAbs.gcd k:Nat):Int)).natAbs<=_
  rw [Int.natAbs_ediv_of_dvd (Int.ofNat_dvd_left.2 (Nat.gcd_dvd_left _ _))]
  exact Nat.div_le_self _ _
 ·rw [Rat.normalize_eq]
  exact Nat.div_le_self _ _
theorem Rs {q:QD} (h:q.ok):FW (I3 q):=by
 obtain ⟨h1,h2,h3⟩:=h
 exact Wc (by omega) (by omega) (by omega)
theorem UL {p:PD} (h:p.ok):PW (F4 p):=⟨Rs h.1,Rs h.2⟩
theorem K9 (q:Rat) {r:Rat} (b:FX r) (hs:FW q) (hr:Sz r<=16777216) (w:World) {S:Nat->Prop} (hb:Ro S w b) (hT:NK w):Calls Tryz.prog 23 #[(aG (Ap q)),(aG (fxL b))] w (An w (Value.bool (decide (q=r)))):=by
 obtain ⟨hs1,hs2⟩:=hs
 have lb:=DF (W:=w) hb
 refine Ah (args:=[(aG (Ap q)),(aG (fxL b))]) (L:=[Da b.z.n,Da b.m]) Tryz.func23 rfl rfl (AY rfl) (T8 hb Ar) (AF.subF (sL [0,1] rfl) (q4 (B9 (cs:=Ap q) rfl λb1=>B9 (cs:=fxL b) rfl λb2=>asg' rfl ?_)))
 refine q6 (sL [2,3,4] rfl) (Cw [(0,true),(2,true),(1,false),(3,false),(4,true),(5,true)] sr (GO 1 Fi rfl (GO 0 Jn rfl (OkE.imp rfl (DC Tryz.call38 (λw hw=>Qi q (by omega) (by omega) w (hT.below hw.out)) rfl ?_)))))
 refine OkE.back sr (OkE.imp rfl (DC Tryz.call75 (λw hw=>RU b (by omega) w (inS hw 2 rfl lb)) rfl (OkE.back sr (Aw rfl (Ba (c:=(decide (q=r))) rfl rfl (UA _ _)) (pS' rfl ?_)))))
 exact OkE.nil (AC.subF (sL [4] rfl) (AC.then_ (AF.ret (AN rfl (AQ (v:=(Value.bool (decide (q=r)))) rfl) (λw hw=>⟨rfl,hw.out⟩)))))
theorem TA (p q:Pt):decide (p=q)=(decide (p.x=q.x)&&decide (p.y=q.y)):=by
 rw [Bool.eq_iff_iff]
 simp only [Bool.and_eq_true,decide_eq_true_eq]
 exact ⟨λh=>by rw [h];exact ⟨rfl,rfl⟩,λh=>Pt.ext h.1 h.2⟩
theorem V8 (p:Pt) {q:Pt} (b:PX q) (hs:PW p) (hr:UK q<=16777216) (w:World) {S:Nat->Prop} (hb:Ro S w b) (hT:NK w):Calls Tryz.prog 31 #[(aG (BE p)),(aG (Pw b))] w (An w (Value.bool (decide (p=q)))):=by
 obtain ⟨hs1,hs2⟩:=hs
 have gx:=XW q
 have gy:=X3 q
 have lb:=DF (W:=w) hb
 refine Ah (args:=[(aG (BE p)),(aG (Pw b))]) (L:=[Da b.x.z.n,Da b.x.m,Da b.y.z.n,Da b.y.m]) Tryz.func31 rfl rfl (AY rfl) (Zd hb Ar) (AF.subF (sL [0,1] rfl) (q4 (B9 (cs:=BE p) rfl λb1=>B9 (cs:=Pw b) rfl λb2=>asg' rfl ?_)))
 refine q6 (sL [2,3,4] rfl) ?_
 by_cases hx:p.x=q.x
 ·skip
  refine AF.region (AH (v:=(pP b1 0)) (AA rfl Tryz.underlying51 rfl Tryz.sizeOf48 rfl) rfl (Gi 1 (Ap p.x) Fi rfl (AH (v:=(pP b2 0)) (AA rfl Tryz.underlying83 rfl Tryz.sizeOf75 rfl) rfl (Gi 0 (fxL b.x) Jn rfl (DC (args:=[(aG (Ap p.x)),(aG (fxL b.x))]) (v:=(Value.bool true)) Tryz.call23 (λw hw=>(by have h9:=K9 p.x b.x (by assumption) (by omega) w (Y7 (inS hw 2 rfl lb)) (hT.below hw.out);rw [decide_eq_true hx] at h9;exact h9)) rfl ?_)))))
  refine AJ rfl (AD.step (v:=(pP b1 5)) (AB rfl) (AA rfl Tryz.underlying51 rfl Tryz.sizeOf48 rfl) rfl (AY rfl) (AD.step (v:=(aG (Ap p.y))) (AB rfl) (BI (i:=1) (vs:=Ap p.y) rfl rfl Fi.a Fi.s rfl rfl) rfl (AY rfl) (AD.step (v:=(pP b2 3)) (AB rfl) (AA rfl Tryz.underlying83 rfl Tryz.sizeOf75 rfl) rfl (AY rfl) (AD.step (v:=(aG (fxL b.y))) (AB rfl) (BI (i:=0) (vs:=fxL b.y) rfl rfl Jn.a Jn.s rfl rfl) rfl (AY rfl) (AD.call (v:=(Value.bool (decide (p.y=q.y)))) (AB rfl) (Ay (args:=[(aG (Ap p.y)),(aG (fxL b.y))]) rfl rfl Tryz.call23) (λw hw=>K9 p.y b.y (by assumption) (by omega) w (ZD (inS hw 2 rfl lb)) (hT.below hw.out)) rfl (AY rfl) ?_)))))
  exact AH (v:=(Value.bool (decide (p.y=q.y)))) (AT rfl rfl) rfl (asg' rfl (AD.nil (AC.subF (sL [4] rfl) (AC.then_ (AF.ret (AN rfl (AQ (v:=(Value.bool (decide (p.y=q.y)))) rfl) (λw hw=>⟨by rw [TA];simp [hx],hw.out⟩)))))))
 ·skip
  refine AF.region (AH (v:=(pP b1 0)) (AA rfl Tryz.underlying51 rfl Tryz.sizeOf48 rfl) rfl (Gi 1 (Ap p.x) Fi rfl (AH (v:=(pP b2 0)) (AA rfl Tryz.underlying83 rfl Tryz.sizeOf75 rfl) rfl (Gi 0 (fxL b.x) Jn rfl (DC (args:=[(aG (Ap p.x)),(aG (fxL b.x))]) (v:=(Value.bool false)) Tryz.call23 (λw hw=>(by have h9:=K9 p.x b.x (by assumption) (by omega) w (Y7 (inS hw 2 rfl lb)) (hT.below hw.out);rw [decide_eq_false hx] at h9;exact h9)) rfl ?_)))))
  refine AJ rfl (AD.skip (AG rfl) rfl (AY rfl) (AD.skip (AG rfl) rfl (AY rfl) (AD.skip (AG rfl) rfl (AY rfl) (AD.skip (AG rfl) rfl (AY rfl) (AD.skip (AG rfl) rfl (AY rfl) ?_)))))
  exact AH (v:=(Value.bool false)) (AV rfl rfl) rfl (asg' rfl (AD.nil (AC.subF (sL [4] rfl) (AC.then_ (AF.ret (AN rfl (AQ (v:=(Value.bool false)) rfl) (λw hw=>⟨by rw [TA];simp [hx],hw.out⟩)))))))
theorem PO (z:QD) (h:z.ok) (w:World) {S:Nat->Prop}  :Calls Tryz.prog 97 #[(aG (HF z))] w (Av (FX (I3 z)) S w):=by
 obtain ⟨h1,h2,h3⟩:=h
 refine Ag (args:=[(aG (HF z))]) Tryz.func97 rfl rfl (AY rfl) (AF.subF (sL [0] rfl) (q4 (B9 (cs:=HF z) rfl λb1=>al QG rfl λb2=>q3 (sL [1,2] rfl) ?_)))
 refine AH (v:=(pP b1 0)) (AA rfl Tryz.underlying99 rfl Tryz.sizeOf2 rfl) rfl (BD 1 (vI z.n) YI rfl (AH (v:=(pP b1 1)) (AA rfl Tryz.underlying99 rfl Tryz.sizeOf97 rfl) rfl (BD 1 (vK .u32 z.d) W9 rfl (AH (Ds (c:=((max z.d 1:Nat):Int)) rfl rfl (by split<;>omega)) rfl (AH (Au (c:=((max z.d 1:Nat):Int)) rfl Tryz.underlying97 Tryz.underlying2 (D9 (by omega))) rfl ?_)))))
 exact cF (S:=S) (x:=(I3 z)) (args:=[(vI z.n),(vN (max z.d 1))]) Tryz.call153 (λw hw=>(Av.cast (T:=λi=>FX i) rfl (Ws z.n ((max z.d 1:Nat):Int) (by omega) (by omega) (by omega) (by omega) w))) rfl rfl rfl λg1 lg1=>Ks rfl Tryz.sizeOf75 rfl (AD.nil (AC.subF (sL [2] rfl) (AC.then_ (AF.ret (AN rfl (BB (i:=2) (cs:=fxL g1) rfl rfl Tryz.isAgg75 Tryz.sizeOf75 rfl) (λw hw=>GQ (a:=(g1:FX (I3 z))) hw (inS hw 0 rfl lg1) rfl))))))
theorem E9 {r0:Rat} (x0:FX r0) {r1:Rat} (x1:FX r1):Instr.fill ([(0,3),(3,3)].toArray[·]?) ([(Value.bool false),(Value.slice none 0 0),(Value.slice none 0 0),(Value.bool false),(Value.slice none 0 0),(Value.slice none 0 0)]).toArray [(0,.agg (fxL x0).toArray),(1,.agg (fxL x1).toArray)]=some (fxL x0++fxL x1).toArray:=by kernel_rfl
theorem VE (p:PD) (h:p.ok) (w:World) {S:Nat->Prop}  :Calls Tryz.prog 52 #[(aG (Es p))] w (Av (PX (F4 p)) S w):=by
 have h1:=h.1
 have h2:=h.2
 refine Ag (args:=[(aG (Es p))]) Tryz.func52 rfl rfl (AY rfl) (AF.subF (sL [0] rfl) (q4 (B9 (cs:=Es p) rfl λb1=>al ZA rfl λb2=>q6 (sL [1,2] rfl) ?_)))
 refine Cw [(0,true),(1,true),(3,true),(4,true),(2,false),(5,false),(6,true),(7,false)] (sl sr) (Aw (v:=(pP b1 0)) rfl (AA rfl Tryz.underlying101 rfl Tryz.sizeOf99 rfl) (Qf 0 (HF p.x) QB rfl (Aw (v:=(pP b1 2)) rfl (AA rfl Tryz.underlying101 rfl Tryz.sizeOf99 rfl) (Qf 0 (HF p.y) QB rfl (OkE.imp rfl ?_)))))
 refine cF (S:=S) (x:=(I3 p.x)) (args:=[(aG (HF p.x))]) Tryz.call97 (λw hw=>PO p.x (by assumption) w) rfl rfl rfl λg1 lg1=>OkE.back (sl (sl (sl sr))) (OkE.imp rfl (cF (S:=S) (x:=(I3 p.y)) (args:=[(aG (HF p.y))]) Tryz.call97 (λw hw=>PO p.y (by assumption) w) rfl rfl rfl λg2 lg2=>OkE.back (sl (sl (sl (sl (sl sr))))) (Aw (v:=(aG (fxL g1++fxL g2))) rfl (AU (zs:=[(Value.bool false),(Value.slice none 0 0),(Value.slice none 0 0),(Value.bool false),(Value.slice none 0 0),(Value.slice none 0 0)]) (vs:=fxL g1++fxL g2) (pv:=[(0,(aG (fxL g1))),(1,(aG (fxL g2)))]) (places:=[(0,3),(3,3)]) Tryz.zeroValue83 Tryz.underlying83 (λw=>by simp [Tryz.sizeOf75]) rfl (E9 g1 g2)) ?_)))
 refine OkE.imp rfl (IM 4 (off:=0) (vs:=fxL g1++fxL g2) (cs':=fxL g1++fxL g2) (AO rfl) rfl Tryz.sizeOf83 rfl (OkE.back (sl (sl (sl (sl (sl sr))))) (OkE.nil (AC.subF (sL [2] rfl) (AC.then_ ?_)))))
 exact AF.ret (AN rfl (BB (i:=4) (cs:=fxL g1++fxL g2) rfl rfl Tryz.isAgg83 Tryz.sizeOf83 rfl) (λw hw=>GQ (a:=((PX.mk g1 g2:PX (⟨I3 p.x,I3 p.y⟩:Pt)):PX (F4 p))) hw (ZU (inS hw 2 rfl lg1) (inS hw 0 rfl lg2)) rfl))
end

section
def rowsL {α:Type} (enc:α->List Value) (xs:List α):List Value:=xs.flatMap enc
section
variable {α:Type} {enc:α->List Value} {z:Nat}
theorem Bz (xs ys:List α):rowsL enc (xs++ys)=rowsL enc xs++rowsL enc ys:=by simp [rowsL]
theorem Af (h:∀x,(enc x).length=z) (xs:List α):(rowsL enc xs).length=xs.length*z:=by
  induction xs with
  | nil=>simp [rowsL]
  | cons x r ih =>
    have e:rowsL enc (x::r)=enc x++rowsL enc r:=rfl
    rw [e,List.length_append,ih,h,List.length_cons,Nat.add_mul];omega
theorem Ax (h:∀x,(enc x).length=z) (d:α):∀(xs:List α) (j:Nat),j<xs.length->((rowsL enc xs).drop (j*z)).take z=enc (xs.getD j d)
  | x::r,0,_=>by
    have e:rowsL enc (x::r)=enc x++rowsL enc r:=rfl
    rw [e,Nat.zero_mul,List.drop_zero,List.take_append_of_le_length (by rw [h];exact Nat.le_refl _),List.take_of_length_le (by rw [h];exact Nat.le_refl _)];rfl
  | x::r,j+1,hj=>by
    have e:rowsL enc (x::r)=enc x++rowsL enc r:=rfl
    rw [e,show (j+1)*z=(enc x).length+j*z by rw [h,Nat.add_mul];omega,List.drop_append,List.drop_of_length_le (by omega),Nat.add_sub_cancel_left,List.nil_append,Ax h d r j (by simpa using hj)];rfl
end
structure RX (cs:List Value) (n:Nat) where
  p:Option Addr
  c:Nat
  ok:A6 p n c
@[reducible] def RX.val {cs:List Value} {n:Nat} (a:RX cs n):Value:=.slice a.p n a.c
@[reducible] def RX.row {cs:List Value} {n:Nat} (a:RX cs n):As:=AI a.p cs
instance {cs:List Value} {n:Nat}:Ch (RX cs n):=⟨λa=>.slice a.p n a.c,λa=>[AI a.p cs],λa y hy=>by rcases List.mem_singleton.1 hy with rfl;rfl⟩
def Yn (xs:List Nat):List Value:=xs.map λx=>Value.int .u8 (x:Nat)
structure MQ where
  nx:Nat
  ny:Nat
  cs:List Nat
  p:Option Addr
  cap:Nat
  a:Int
  b:Int
  c:Int
  d:Int
  den:Nat
  fst:Nat
  hx:nx<256
  hy:ny<256
  ha:-128<=a/\a<=127
  hb:-128<=b/\b<=127
  hc:-128<=c/\c<=127
  hd:-128<=d/\d<=127
  hden:den<256
  hfst:fst<256
  hcs:∀x∈cs,x<256
  ok:A6 p cs.length cap
def ZS (m:MQ):List Value:=[.int .u8 m.nx,.int .u8 m.ny,.slice m.p m.cs.length m.cap,.int .i8 m.a,.int .i8 m.b,.int .i8 m.c,.int .i8 m.d,.int .u8 m.den,.int .u8 m.fst]
instance:Ch MQ:=⟨λm=>aG (ZS m),λm=>[AI m.p (Yn m.cs)],λa y hy=>by rcases List.mem_singleton.1 hy with rfl;rfl⟩
abbrev P2:=Nat×Nat
def Xu (nx way i:Nat):List (P2×P2×P2) :=
  let x:=2*(i%nx);let y:=2*(i/nx)
  if way<3\/(way=7/\i=0) then [((x,y),(x+2,y),(x+2,y+2)),((x,y),(x+2,y+2),(x,y+2))]
  else if way<5 then [((x,y),(x+2,y),(x,y+2)),((x+2,y),(x+2,y+2),(x,y+2))]
  else if way<7 then [((x,y),(x+2,y),(x+1,y+1)),((x+2,y),(x+2,y+2),(x+1,y+1)),((x+2,y+2),(x,y+2),(x+1,y+1)),((x,y+2),(x,y),(x+1,y+1))] else []
section
variable {nx way i u v:Nat}
end
def BY (p:P2):List Value:=[vN p.1,vN p.2]
def Aq (t:Nat×Nat×Nat):List Value:=[vN t.1,vN t.2.1,vN t.2.2]
theorem BR (t:Nat×Nat×Nat):(Aq t).length=3:=rfl
def Yj (z:Int×Int):List Value:=[.int .i64 z.1,.int .i64 z.2]
def Y0 (m:MQ) (i:Nat):Nat:=if 0<m.cs.length then m.cs.getD (i%m.cs.length) 0%8 else 0
def ZH (m:MQ):Nat:=1+m.nx%3
def ZT (m:MQ):Nat:=1+m.ny%3
def SK (m:MQ):Nat->List (P2×P2×P2)
  | 0=>[]
  | i+1=>SK m i++Xu (ZH m) (Y0 m i) i
def LC (m:MQ):List (P2×P2×P2):=SK m (ZH m*ZT m)
structure OF where
  a:Int
  b:Int
  c:Int
  d:Int
def OF.det (k:OF):Int:=k.a*k.d-k.b*k.c
def OF.at_ (k:OF) (p:P2):Int×Int:=(k.a*p.1+k.b*p.2,k.c*p.1+k.d*p.2)
def YQ (a b c d:Int):OF :=
  let k:OF:=⟨a.tmod 4,b.tmod 4,c.tmod 4,d.tmod 4⟩
  if k.det=0 then ⟨1,0,0,1⟩ else if k.det<0 then ⟨k.a,k.b,-k.c,-k.d⟩ else k
end
section
section
variable {P:Program}
theorem QJ.one {D c i:Nat} {e:TypeId} {is:List Nat} {xs ys:List Value} {u v:Value} {r s:Bool} (hg:∀w,(isAgg e).run P w=.ok false w)
    (ha:xs[i*c]?=some u) (hb:ys[i*c]?=some v) (h:D4 P D e u v r) (h2:QJ P D e c xs ys is s):QJ P D e c xs ys (i::is) (r&&s):=λw=>by
  have e1:(part e xs.toArray (i*c)).run P w=.ok u w:=by simp [part,hg,ha]
  have e2:(part e ys.toArray (i*c)).run P w=.ok v w:=by simp [part,hg,hb]
  simp only [Go.Op.eqItems,Sem.run_bind,e1,e2,Result.andThen_ok,h w]
  cases r
  · simp
  · simp [h2 w]
end
theorem Tq:∃i,Tryz.prog.info? 3=some i:=Option.isSome_iff_exists.1 (by kernel_rfl)
theorem Q1:Tryz.prog.cellsOf 3=1:=by kernel_rfl
def YZ (c:P2×P2×P2) (k:Nat):P2:=if k=0 then c.1 else if k=1 then c.2.1 else c.2.2
def Yp (m:MQ) (t k:Nat):Nat:=(k+m.fst+t*(m.fst/3))%3
def ST (m:MQ) (t k:Nat):P2:=YZ ((LC m).getD t ((0,0),(0,0),(0,0))) (Yp m t k)
structure Mq (m:MQ) (pl:List P2) (n:Nat×Nat×Nat) (t:Nat):Prop where
  a:n.1<pl.length/\pl.getD n.1 (0,0)=ST m t 0
  b:n.2.1<pl.length/\pl.getD n.2.1 (0,0)=ST m t 1
  c:n.2.2<pl.length/\pl.getD n.2.2 (0,0)=ST m t 2
structure QT (m:MQ) (i:Nat) (pl:List P2) (ts:List (Nat×Nat×Nat)):Prop where
  tl:ts.length=i
  pll:pl.length<=3*i
  at_:∀j,j<i->Mq m pl (ts.getD j (0,0,0)) j
  Js:∀p∈pl,p.1<=6/\p.2<=6
  used:∀a,a<pl.length->∃j,j<i/\((ts.getD j (0,0,0)).1=a\/(ts.getD j (0,0,0)).2.1=a\/(ts.getD j (0,0,0)).2.2=a)
def Y5 (pl:List P2):Prop:=∀a b,a<pl.length->b<pl.length->pl.getD a (0,0)=pl.getD b (0,0)->a=b
structure WS where
  pl:List P2
  p1:Option Addr
  c1:Nat
  p2:Option Addr
  c2:Nat
def mapM (m:MQ):OF:=YQ m.a m.b m.c m.d
def WS.pts (s:WS) (m:MQ):List (Int×Int):=s.pl.map λp=>(mapM m).at_ p
theorem Jy {pl:List P2} {x:P2} {j:Nat} (h:j<pl.length):(pl++[x]).getD j (0,0)=pl.getD j (0,0):=by simp [List.getD,List.getElem?_append_left h]
def J_ (a b:List P2):Prop:=a.length<=b.length/\∀j,j<a.length->b.getD j (0,0)=a.getD j (0,0)
theorem J_.refl (a:List P2):J_ a a:=⟨Nat.le_refl _,λ_ _=>rfl⟩
theorem J_.trans {a b c:List P2} (h:J_ a b) (k:J_ b c):J_ a c:=⟨Nat.le_trans h.1 k.1,λj hj=>(k.2 j (by have:=h.1;omega)).trans (h.2 j hj)⟩
theorem J_.snoc (a:List P2) (x:P2):J_ a (a++[x]):=⟨by simp,λj hj=>Jy hj⟩
theorem Mq.more {m:MQ} {a b:List P2} {n:Nat×Nat×Nat} {t:Nat} (h:Mq m a n t) (k:J_ a b):Mq m b n t :=
  ⟨⟨by have:=h.a.1;have:=k.1;omega,(k.2 _ h.a.1).trans h.a.2⟩,⟨by have:=h.b.1;have:=k.1;omega,(k.2 _ h.b.1).trans h.b.2⟩,⟨by have:=h.c.1;have:=k.1;omega,(k.2 _ h.c.1).trans h.c.2⟩⟩
theorem H5 {ts:List (Nat×Nat×Nat)} {x:Nat×Nat×Nat} {j:Nat} (h:j<ts.length):(ts++[x]).getD j (0,0,0)=ts.getD j (0,0,0):=by simp [List.getD,List.getElem?_append_left h]
theorem QT.step {m:MQ} {i:Nat} {pl pl':List P2} {ts:List (Nat×Nat×Nat)} {n:Nat×Nat×Nat} (h:QT m i pl ts) (k:J_ pl pl') (hl:pl'.length<=pl.length+3) (hs:∀p∈pl',p.1<=6/\p.2<=6) (hn:Mq m pl' n i) (hu:∀a,a<pl'.length->a<pl.length\/n.1=a\/n.2.1=a\/n.2.2=a):QT m (i+1) pl' (ts++[n]) :=
  ⟨by rw [List.length_append,h.tl];rfl,by have:=h.pll;omega,λj hj=>by
    rcases Nat.lt_or_ge j i with h1|h1
    · rw [H5 (by rw [h.tl];exact h1)];exact (h.at_ j h1).more k
    · have e:j=i:=by omega
      subst e
      have e2:(ts++[n]).getD j (0,0,0)=n:=by rw [<-h.tl];simp [List.getD]
      rw [e2];exact hn,hs,λa ha=>by
    rcases hu a ha with h1|h1
    · obtain ⟨j,hj,h2⟩:=h.used a h1
      exact ⟨j,by omega,by rw [H5 (by rw [h.tl];exact hj)];exact h2⟩
    · have e2:(ts++[n]).getD i (0,0,0)=n:=by rw [<-h.tl];simp [List.getD]
      exact ⟨i,by omega,by rw [e2];exact h1⟩⟩
def Xd (t:Nat×Nat×Nat) (x:Nat):Bool:=decide (t.1=x)||decide (t.2.1=x)||decide (t.2.2=x)
def Yr (m:MQ) (a b:Nat):Nat×Nat×Nat:=(a,b,(a+3*b+m.fst)%5)
def Xc (ts:List (Nat×Nat×Nat)) (a b:Nat):Nat->Nat
  | 0=>0
  | i+1=>Xc ts a b i+(if Xd (ts.getD i (0,0,0)) a=true/\Xd (ts.getD i (0,0,0)) b=true then 1 else 0)
def Xj (m:MQ) (ts:List (Nat×Nat×Nat)) (a:Nat):Nat->List (Nat×Nat×Nat)
  | 0=>[]
  | j+1=>Xj m ts a j++(if Xc ts a (a+1+j) ts.length=1 then [Yr m a (a+1+j)] else [])
def N9 (m:MQ) (ts:List (Nat×Nat×Nat)) (N:Nat):Nat->List (Nat×Nat×Nat)
  | 0=>[]
  | a+1=>N9 m ts N a++Xj m ts a (N-(a+1))
theorem Ps {l:List (Nat×Nat×Nat)} {j:Nat} (h:j<l.length):l.take (j+1)=l.take j++[l.getD j (0,0,0)]:=by
  rw [List.take_add_one,List.getD,List.getElem?_eq_getElem h];rfl
structure WM (m:MQ) where
  pl:List P2
  ts:List (Nat×Nat×Nat)
  ss:List (Nat×Nat×Nat)
  inv:QT m (LC m).length pl ts
  dst:Y5 pl
  sl:ss.length<=108*108
  sd:ss=N9 m ts pl.length pl.length
  a:RX (rowsL Yj (pl.map λp=>(mapM m).at_ p)) pl.length
  b:RX (rowsL Aq ts) ts.length
  c:RX (rowsL Aq ss) ss.length
def ZM {m:MQ} (x:WM m):List Value:=[x.a.val,x.b.val,x.c.val]
theorem XU {m:MQ} {x:WM m} {y:As} (hy:y∈[x.a.row,x.b.row,x.c.row]):y.ro=true:=by
  simp only [List.mem_cons,List.not_mem_nil,or_false] at hy
  rcases hy with rfl|rfl|rfl<;>rfl
instance {m:MQ}:Ch (WM m):=⟨λx=>aG (ZM x),λx=>[x.a.row,x.b.row,x.c.row],λx y hy=>XU hy⟩
theorem Dx {S:Nat->Prop} {W w:World} {L:List As} (hw:A_ ⟨W,none⟩ w L) (i:Nat) {p:Option Addr} {T:TypeId} {z n c:Nat} {cs:List Value} (hi:L[i]?=some (rowW p T z n c cs)) (ho:OwnOk p n c) (hl:cs.length=n*z):Holds w (AI p cs)/\∀b,(AI p cs).foot=some b->W.heap.size<=b\/S b:=by
  have hb:=hw.newRow hi
  refine ⟨λd e=>?_,λd e=>.inl (hb d e)⟩
  obtain ⟨_,o,ho2,hp⟩:=hw.2.1 _ (List.mem_of_getElem? hi) d e
  exact ⟨o,ho2,Bu ho hl hp⟩
section
variable {P:Program} {ops:Array Oper} {rest:List Oper} {Q:Exit->Act->World->Prop} {n d:Nat} {F:List (Nat×Value)} {w0:A7} {S:Nat->Prop} {L:List As} {t:TypeId} {p:String} {af:Array Edge} {y:Operand} {f:FuncId} {xs:List Operand} {args:List Value} {ts:Array TypeId}
theorem cX {cs:List Value} {k:Nat} (hc:∀args w,(callFunc f args).run P w=.ok (.enter f args) w) (h:∀w,A_ w0 w L->Calls P f args.toArray w (Av (RX cs k) (SL w0 S L) w))
    (hf:evF F y=some (.func (.func f) #[] #[])) (hargs:xs.map (evF F)=args.map some) (hd:Nat.ble (d+1) n=true) (next:∀a:RX cs k,At w0 S a->AD P ops rest Q n ((d,.slice a.p k a.c)::F) w0 (AI a.p cs::L)) :
    AD P ops (⟨some d,.call { callee:=.value y,args:=xs.toArray,argTypes:=ts },t,p,af,none⟩::rest) Q n F w0 L:=AD.callR hc h hf hargs hd next
end
def Xs (p:Option Addr) (T:TypeId) (z n c:Nat) (cs:List Value):As:=⟨p.map (·.block),(rowW p T z n c cs).P,true⟩
theorem Av.weak {α:Type} [Ch α] {S S':Nat->Prop} {W w:World} {e:Ending} (h:Av α S W e w) (hs:∀b,S b->S' b):Av α S' W e w:=by
  obtain ⟨a,h1,h2,h3⟩:=h
  exact ⟨a,h1,h2,h3.mono λb h=>h.imp id (hs b)⟩
structure ZI (m:MQ) where
  x:WM m
  ob:OwnOk x.b.p x.ts.length x.b.c
def Y6 {m:MQ} (y:ZI m):As:=Xs y.x.b.p 53 3 y.x.ts.length y.x.b.c (rowsL Aq y.x.ts)
instance {m:MQ}:Ch (ZI m):=⟨λy=>aG (ZM y.x),λy=>[y.x.a.row,y.x.b.row,y.x.c.row,Y6 y],λx y hy=>by
  simp only [List.mem_cons,List.not_mem_nil,or_false] at hy
  rcases hy with rfl|rfl|rfl|rfl<;>rfl⟩
end

theorem Bf {α:Type} {enc:α->List Value} {z:Nat} (h:∀x,(enc x).length=z) (d:α) (xs:List α) (j r:Nat) (hj:j<xs.length) (hr:r<z) {v:Value} (hv:(enc (xs.getD j d))[r]?=some v):(rowsL enc xs)[j*z+r]?=some v:=by
  have h1:=Ax h d xs j hj
  rw [<-h1,List.getElem?_take_of_lt hr,List.getElem?_drop] at hv
  exact hv
theorem Ck (p:Pt):(BE p).length=10:=rfl
structure Y4 (ps:List Pt) (t:Nat×Nat×Nat):Prop where
  a:t.1<ps.length
  b:t.2.1<ps.length
  c:t.2.2<ps.length
  ab:t.1≠t.2.1
  bc:t.2.1≠t.2.2
  ca:t.2.2≠t.1
  pos:0<I_ (ps.getD t.1 ⟨0,0⟩) (ps.getD t.2.1 ⟨0,0⟩) (ps.getD t.2.2 ⟨0,0⟩)
def Yl (ps:List Pt) (t:Nat×Nat×Nat) (q:Pt):Prop:=0<I_ q (ps.getD t.2.1 ⟨0,0⟩) (ps.getD t.2.2 ⟨0,0⟩)/\0<I_ (ps.getD t.1 ⟨0,0⟩) q (ps.getD t.2.2 ⟨0,0⟩)/\0<I_ (ps.getD t.1 ⟨0,0⟩) (ps.getD t.2.1 ⟨0,0⟩) q
def Yh (ps:List Pt) (t:Nat×Nat×Nat) (q:Pt):Prop:=0<=I_ q (ps.getD t.2.1 ⟨0,0⟩) (ps.getD t.2.2 ⟨0,0⟩)/\0<=I_ (ps.getD t.1 ⟨0,0⟩) q (ps.getD t.2.2 ⟨0,0⟩)/\0<=I_ (ps.getD t.1 ⟨0,0⟩) (ps.getD t.2.1 ⟨0,0⟩) q
def XX (m:MQ):Nat:=1+m.den%6
def Zk (m:MQ) (z:Int×Int):PD:=⟨⟨z.1,XX m⟩,⟨z.2,XX m⟩⟩
def ZG (m:MQ) (zs:List (Int×Int)) (i:Nat):List Pt:=(zs.take i).map λz=>F4 (Zk m z)
def ZN (m:MQ) (pl:List P2):List (Int×Int):=pl.map λp=>(mapM m).at_ p
structure XM (ps:List Pt) (ts:List (Nat×Nat×Nat)):Prop where
  ne:ts≠[]
  tl:ts.length<=36
  pl:ps.length<=108
  sz:∀i,UK (ps.getD i ⟨0,0⟩)<=4
  tri:∀j,j<ts.length->Y4 ps (ts.getD j (0,0,0))
  apart:∀i j,i<ts.length->j<ts.length->i≠j->∀q,Yl ps (ts.getD i (0,0,0)) q->¬Yh ps (ts.getD j (0,0,0)) q
  lat:∃(m:MQ) (pl:List P2),QT m (LC m).length pl ts/\Y5 pl/\ps=ZG m (ZN m pl) pl.length
structure MG where
  ps:List Pt
  ts:List (Nat×Nat×Nat)
  ss:List (Nat×Nat×Nat)
  good:XM ps ts
  sl:ss.length<=108*108
  sd:∃m:MQ,ss=N9 m ts ps.length ps.length
  a:RX (rowsL BE ps) ps.length
  b:RX (rowsL Aq ts) ts.length
  c:RX (rowsL Aq ss) ss.length
def YT (x:MG):List Value:=[x.a.val,x.b.val,x.c.val]
theorem Vo {x:MG} {y:As} (hy:y∈[x.a.row,x.b.row,x.c.row]):y.ro=true:=by
  simp only [List.mem_cons,List.not_mem_nil,or_false] at hy
  rcases hy with rfl|rfl|rfl<;>rfl
instance:Ch MG:=⟨λx=>aG (YT x),λx=>[x.a.row,x.b.row,x.c.row],λx y hy=>Vo hy⟩
def Yo (m:MQ) (ps:List Pt) (ts:List (Nat×Nat×Nat)):Prop:=∃pl:List P2,QT m (LC m).length pl ts/\Y5 pl/\ps=ZG m (ZN m pl) pl.length
structure MF (m:MQ) where
  g:MG
  lat:Yo m g.ps g.ts
instance {m:MQ}:Ch (MF m):=⟨λx=>aG (YT x.g),λx=>[x.g.a.row,x.g.b.row,x.g.c.row],λx y hy=>Vo hy⟩
structure ZJ (m:MQ) where
  f:MF m
  ob:OwnOk f.g.b.p f.g.ts.length f.g.b.c
  da:∀x,f.g.b.p.map (·.block)=some x->f.g.a.p.map (·.block)≠some x
  dc:∀x,f.g.b.p.map (·.block)=some x->f.g.c.p.map (·.block)≠some x
def Yt {m:MQ} (y:ZJ m):As:=Xs y.f.g.b.p 53 3 y.f.g.ts.length y.f.g.b.c (rowsL Aq y.f.g.ts)
instance {m:MQ}:Ch (ZJ m):=⟨λy=>aG (YT y.f.g),λy=>[y.f.g.a.row,y.f.g.b.row,y.f.g.c.row,Yt y],λx y hy=>by
  simp only [List.mem_cons,List.not_mem_nil,or_false] at hy
  rcases hy with rfl|rfl|rfl|rfl<;>rfl⟩
section
structure MX (ps:List Pt) (ts ss:List (Nat×Nat×Nat)) where
  a:RX (rowsL BE ps) ps.length
  b:RX (rowsL Aq ts) ts.length
  c:RX (rowsL Aq ss) ss.length
def CC {ps:List Pt} {ts ss:List (Nat×Nat×Nat)} (x:MX ps ts ss):List Value:=[x.a.val,x.b.val,x.c.val]
theorem Xn {ps:List Pt} {ts ss:List (Nat×Nat×Nat)} {x:MX ps ts ss} {y:As} (hy:y∈[x.a.row,x.b.row,x.c.row]):y.ro=true:=by
  simp only [List.mem_cons,List.not_mem_nil,or_false] at hy
  rcases hy with rfl|rfl|rfl<;>rfl
instance {ps:List Pt} {ts ss:List (Nat×Nat×Nat)}:Ch (MX ps ts ss):=⟨λx=>aG (CC x),λx=>[x.a.row,x.b.row,x.c.row],λx y hy=>Xn hy⟩
structure BX (cs:List Value) where
  b:Nat
instance {cs:List Value}:Ch (BX cs):=⟨λx=>pP x.b 0,λx=>[AI (some ⟨x.b,0,none⟩) cs],λx y hy=>by rcases List.mem_singleton.1 hy with rfl;rfl⟩
theorem Hh {b:Nat} {T:TypeId} {cs:List Value} {o:Obj} (h:(Ab b T cs).P o):(AI (some ⟨b,0,none⟩) cs).P o:=⟨cs.toArray,T,(0,0),h,by show (cs.toArray.toList.drop 0).take cs.length=cs;simp⟩
section
variable {S:Nat->Prop} {w W:World} {w0:A7} {L:List As} {ps:List Pt} {ts ss:List (Nat×Nat×Nat)} {cs:List Value}
theorem V9 {x:MX ps ts ss} (h:Ro S w x):Ro S w x.b:=λy hy=>by rcases List.mem_singleton.1 hy with rfl;exact h _ (List.mem_cons_of_mem _ List.mem_cons_self)
theorem ZY (hw:A_ w0 w L) (i:Nat) {x:BX cs} (hi:L[i]?=some (AI (some ⟨x.b,0,none⟩) cs)) (hb:w0.w.heap.size<=x.b):Ro (SL w0 S L) w x:=λy hy=>by
  rcases List.mem_singleton.1 hy with rfl
  exact ⟨hw.holds hi,λc e=>⟨⟨_,List.mem_of_getElem? hi,rfl,e⟩,.inl (by injection e with e;rw [<-e];exact hb)⟩⟩
end
section
variable {P:Program} {ops:Array Oper} {rest:List Oper} {Q:Exit->Act->World->Prop} {n d:Nat} {F:List (Nat×Value)} {w0:A7} {S:Nat->Prop} {L:List As} {t:TypeId} {p:String} {af:Array Edge} {y:Operand} {f:FuncId} {xs:List Operand} {args:List Value} {ts:Array TypeId}
theorem AD.frzX (i:Nat) {b:Nat} {T:TypeId} {cs:List Value} (hi:L[i]?=some (Ab b T cs)) (hex:w0.ex=none) (next:w0.w.heap.size<=b->AD P ops rest Q n F w0 (L.set i (AI (some ⟨b,0,none⟩) cs))):AD P ops rest Q n F w0 L:=λa w ha hw=>by
  refine next ?_ a w ha (hw.freeze hi rfl (λo hp=>Hh hp) (λe=>by cases e))
  rcases (hw.2.1 _ (List.mem_of_getElem? hi) b rfl).1 with h1|h1|h1
  · cases h1
  · exact h1
  · rw [hex] at h1;cases h1
end
def PI (n:Nat) (t:Nat×Nat×Nat):Bool:=decide (t.1<n)&&decide (t.2.1<n)&&decide (t.2.2<n)&&!decide (t.1=t.2.1)&&!decide (t.2.1=t.2.2)&&!decide (t.2.2=t.1)
def By (n:Nat) (ts:List (Nat×Nat×Nat)):Bool:=ts.all (PI n)
theorem DK {n:Nat} {ts:List (Nat×Nat×Nat)} (h:By n ts=true) {j:Nat} (hj:j<ts.length):PI n (ts.getD j (0,0,0))=true:=by
  rw [List.getD,List.getElem?_eq_getElem hj]
  exact List.all_eq_true.1 h _ (List.getElem_mem hj)
theorem DP {n:Nat} {t:Nat×Nat×Nat} (h:PI n t=true):t.1<n/\t.2.1<n/\t.2.2<n:=by
  simp [PI] at h;omega
def idxB (n:Nat):List (Nat×Nat×Nat)->Nat->Int
  | [],_ => -1
  | t::r,i=>if PI n t=true then idxB n r (i+1) else (i:Int)
theorem Ol {α:Type} {ts:List α} {d:α} {j:Nat} (hj:j<ts.length):ts.drop j=ts.getD j d::ts.drop (j+1):=by
  rw [List.drop_eq_getElem_cons hj,List.getD,List.getElem?_eq_getElem hj];rfl
theorem P0 {n:Nat} {ts:List (Nat×Nat×Nat)} {j:Nat} (hj:j<ts.length) (h:PI n (ts.getD j (0,0,0))=true):idxB n (ts.drop j) j=idxB n (ts.drop (j+1)) (j+1):=by
  rw [Ol (d:=(0,0,0)) hj];exact if_pos h
theorem TB {n:Nat} {ts:List (Nat×Nat×Nat)} {j:Nat} (hj:j<ts.length) (h:PI n (ts.getD j (0,0,0))=false):idxB n (ts.drop j) j=(j:Int):=by
  rw [Ol (d:=(0,0,0)) hj];exact if_neg (by rw [h];exact Bool.false_ne_true)
theorem Rc {n:Nat} {ts:List (Nat×Nat×Nat)} {j:Nat} (hj:¬j<ts.length):idxB n (ts.drop j) j = -1:=by
  rw [List.drop_of_length_le (by omega)];rfl
theorem KO (n:Nat):∀(ts:List (Nat×Nat×Nat)) (i:Nat),decide (0<=idxB n ts i)=!By n ts
  | [],i=>rfl
  | t::r,i=>by
    unfold idxB By
    rw [List.all_cons]
    cases h:PI n t with
    | true=>rw [if_pos rfl,Bool.true_and];exact KO n r (i+1)
    | false=>rw [if_neg Bool.false_ne_true,Bool.false_and];simp
def ZF (ps:List Pt) (k:Nat):Pt:=ps.getD k ⟨0,0⟩
end
def inL (l:List Nat):List Value:=l.map λ(d:Nat)=>vN d
theorem Bh (l:List Nat):(inL l).length=l.length:=by simp [inL]
theorem DL {l:List Nat} {j:Nat} (h:j<l.length):(inL l)[j*1]?=some (vN (l.getD j 0)):=by simp [inL,h]
theorem Cr (a b:List Nat):inL (a++b)=inL a++inL b:=by simp [inL]
end Go.Proofs.YtpgncndhhhllfaaGreatDoor
