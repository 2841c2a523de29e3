import Derived.Test.YtpgncndhhhllfaaGreatDoorPart03
import Derived.Test.YtpgncndhhhllfaaGreatDoorPart12
import Derived.Test.YtpgncndhhhllfaaGreatDoorPart15
namespace Go.Proofs.YtpgncndhhhllfaaGreatDoor
open Go Go.RowKit Go.Proofs.Tryz
set_option linter.unusedVariables false
set_option linter.unusedSimpArgs false
def Sz (q:Rat):Nat:=max (nw q.num.natAbs) (nw q.den)
theorem Cr (q:Rat):nw q.num.natAbs<=Sz q:=Nat.le_max_left ..
theorem Ce (q:Rat):nw q.den<=Sz q:=Nat.le_max_right ..
theorem FL (q:Rat):nw (q.den-1)<=Sz q:=Nat.le_trans (C1 (Nat.sub_le _ _)) (Ce q)
theorem Y8 {q:Rat} {k:Nat} (h1:nw q.num.natAbs<=k) (h2:nw q.den<=k):Sz q<=k:=Nat.max_le.2 ⟨h1,h2⟩
theorem Ij:nw 1=1:=by decide
theorem QQ (q:Rat):1<=Sz q:=Nat.le_trans (by rw [<-Ij];exact C1 q.den_pos) (Ce q)
theorem K_ {n:Int} {d k:Nat} (h1:nw n.natAbs<=k) (h2:nw d<=k) (hk:1<=k):Sz (mkRat n d)<=k:=by
  refine Y8 ?_ ?_
  · rw [Rat.num_mkRat]
    split
    · exact Nat.zero_le _
    · refine Nat.le_trans (C1 ?_) h1
      rw [Int.natAbs_ediv_of_dvd (by rw [Int.ofNat_dvd_left];exact Nat.gcd_dvd_right ..)]
      exact Nat.div_le_self _ _
  · rw [Rat.den_mkRat]
    split
    · rw [Ij];exact hk
    · exact Nat.le_trans (C1 (Nat.div_le_self _ _)) h2
theorem Rv (a b:Int):nw (a*b).natAbs<=nw a.natAbs+nw b.natAbs:=by rw [Int.natAbs_mul];exact Vd _ _
theorem Dk (a b:Int):nw (a+b).natAbs<=max (nw a.natAbs) (nw b.natAbs)+1:=Nat.le_trans (C1 (Int.natAbs_add_le a b)) (Zj _ _)
theorem CO (a b:Rat):nw (a.num*((b.den:Nat):Int)).natAbs<=Sz a+Sz b:=by
  have h1:=Rv a.num ((b.den:Nat):Int)
  have h2:=Cr a
  have h3:=Ce b
  rw [Int.natAbs_natCast] at h1
  omega
theorem F3 (a b:Rat):nw (a.den*b.den)<=Sz a+Sz b:=by
  have h1:=Vd a.den b.den
  have h2:=Ce a
  have h3:=Ce b
  omega
theorem G3 (a b:Rat):nw (a.num*b.num).natAbs<=Sz a+Sz b:=by
  have h1:=Rv a.num b.num
  have h2:=Cr a
  have h3:=Cr b
  omega
theorem Ip (a b:Rat):mkRat (a.num*((b.den:Nat):Int)+b.num*((a.den:Nat):Int)) (a.den*b.den)=a+b:=by rw [Rat.add_def,Rat.normalize_eq_mkRat]
theorem Is (a b:Rat):mkRat (a.num*b.num) (a.den*b.den)=a*b:=by rw [Rat.mul_def,Rat.normalize_eq_mkRat]
theorem IY {a:Rat} (h:a.den-1=0):a=((a.num:Int):Rat):=by
  have h1:a.den=1:=by have:=a.den_pos;omega
  exact Rat.ext O h1
theorem SG {a b:Rat} (ha:a.den-1=0) (hb:b.den-1=0):((a.num+b.num:Int):Rat)=a+b:=by
  rw [Rat.intCast_add,<-IY ha,<-IY hb]
theorem SB {a b:Rat} (ha:a.den-1=0) (hb:b.den-1=0):((a.num*b.num:Int):Rat)=a*b:=by
  rw [Rat.intCast_mul,<-IY ha,<-IY hb]
theorem Oh {a b:Rat} (h:a.den-1=b.den-1):a.den=b.den:=by
  have h1:=a.den_pos
  have h2:=b.den_pos
  omega
theorem UG {a b:Rat} (h:a.den-1=b.den-1):mkRat (a.num+b.num) a.den=a+b:=by
  have h1:=Oh h
  have h2:a+b=mkRat a.num a.den+mkRat b.num a.den:=by rw [Rat.mkRat_self];conv=>lhs;rw [<-Rat.mkRat_self b,<-h1]
  rw [h2,Rat.mkRat_eq_div,Rat.mkRat_eq_div,Rat.mkRat_eq_div,Rat.intCast_add,Rat.div_def,Rat.div_def,Rat.div_def,Rat.add_mul]
theorem LZ (a b:Rat):Sz (a+b)<=Sz a+Sz b+1:=by
  rw [<-Ip]
  have h1:=CO a b
  have h2:=CO b a
  have h3:=Dk (a.num*((b.den:Nat):Int)) (b.num*((a.den:Nat):Int))
  have h4:=F3 a b
  exact K_ Z Z Z
theorem EK (a b:Rat):Sz (a*b)<=Sz a+Sz b:=by
  rw [<-Is]
  have:=QQ a
  exact K_ (G3 a b) (F3 a b) Z
theorem C5 (a:Rat):Sz (-a)=Sz a:=by unfold Sz;rw [Rat.neg_num,Rat.neg_den,Int.natAbs_neg]
theorem GL (a b:Rat):Sz (a-b)<=Sz a+Sz b+1:=by rw [Rat.sub_eq_add_neg,<-C5 b];exact LZ a (-b)
theorem Il {b:Rat} (h:b≠0):mkRat (D_ (decide (b.num.sign<0)) b.den) b.num.natAbs=b⁻¹:=by
  have hn:b.num≠0:=λe=>h (Rat.num_eq_zero.1 e)
  have hb:b=(b.num:Rat)/((b.den:Nat):Rat):=by rw [<-Rat.mkRat_eq_div,Rat.mkRat_self]
  have hd:((b.den:Nat):Rat)≠0:=by
    intro e
    have:=b.den_pos
    have h2:b.den=0:=by exact_mod_cast e
    omega
  have hn2:((b.num:Int):Rat)≠0:=by
    intro e
    exact hn (by exact_mod_cast e)
  rw [Rat.mkRat_eq_div]
  conv=>rhs;rw [hb]
  by_cases hs:b.num<0
  · have e1:decide (b.num.sign<0)=true:=by simp [Int.sign_eq_neg_one_of_neg hs]
    have e2:((b.num.natAbs:Nat):Rat) = -((b.num:Int):Rat):=by
      have:((b.num.natAbs:Nat):Int) = -b.num:=by omega
      rw [<-Rat.intCast_natCast,this,Rat.intCast_neg]
    rw [e1,e2]
    simp only [D_,if_true,Rat.intCast_neg,Rat.intCast_natCast]
    grind
  · have e1:decide (b.num.sign<0)=false:=by
      have:0<=b.num.sign:=Int.sign_nonneg_iff.2 Z
      exact decide_eq_false Z
    have e2:((b.num.natAbs:Nat):Rat)=((b.num:Int):Rat):=by
      have:((b.num.natAbs:Nat):Int)=b.num:=by omega
      rw [<-Rat.intCast_natCast,this]
    rw [e1,e2]
    simp only [D_,Bool.false_eq_true,if_false,Rat.intCast_natCast]
    grind
theorem Ph {b:Rat} (h:b≠0):Sz b⁻¹<=Sz b:=by
  rw [<-Il h]
  exact K_ (by rw [A9];exact Ce b) (Cr b) (QQ b)
theorem It {a b:Rat} (h:b≠0):Sz (a/b)<=Sz a+Sz b:=by
  rw [Rat.div_def]
  have h1:=EK a b⁻¹
  have h2:=Ph h
  omega
def G7 (a b:Rat):Int:=if a<b then -1 else if a=b then 0 else 1
theorem KL (a b:Rat):(a.num*((b.den:Nat):Int)-b.num*((a.den:Nat):Int)).sign=G7 a b:=by
  have h1:=Rat.lt_iff a b
  have h2:=@Rat.eq_iff_mul_eq_mul a b
  unfold G7
  split
  · rename_i h;exact Int.sign_eq_neg_one_of_neg (by have:=h1.1 h;omega)
  · rename_i h
    split
    · rename_i h';rw [h2.1 h'];simp
    · rename_i h'
      have h3:¬a.num*((b.den:Nat):Int)<b.num*((a.den:Nat):Int):=λe=>h (h1.2 e)
      have h4:¬a.num*((b.den:Nat):Int)=b.num*((a.den:Nat):Int):=λe=>h' (h2.2 e)
      exact Int.sign_eq_one_of_pos Z
theorem So {a b:Rat} (h:a.den-1=b.den-1):(a.num-b.num).sign=G7 a b:=by
  rw [<-KL,<-Oh h,<-Int.sub_mul,Int.sign_mul]
  have:=a.den_pos
  rw [show ((a.den:Nat):Int).sign=1 from Int.sign_eq_one_of_pos Z]
  simp
theorem J7 {a b:Rat}:G7 a b<0↔a<b:=by
  unfold G7;split
  · simp [*]
  · split<;>simp [*]
theorem RQ {a b:Rat}:G7 a b=0↔a=b:=by
  unfold G7;split
  · rename_i h
    constructor
    · intro e;cases e
    · intro e;subst e;exact absurd h (by simp)
  · split<;>simp [*]
theorem JJ (q:Rat):AO q=BG q.num++Ab (q.den-1):=rfl
theorem Ri {n:Int} {d:Nat} (hd:d≠0):(mkRat n d).num=D_ (decide (n.sign<0)) (n.natAbs/Nat.gcd n.natAbs d):=by
  rw [Rat.num_mkRat,if_neg hd,Nat.gcd_comm]
  unfold D_
  by_cases h:n<0
  · rw [Int.sign_eq_neg_one_of_neg h]
    have e:n = -((n.natAbs:Nat):Int):=by omega
    simp only [show decide ((-1:Int)<0)=true from rfl,if_true]
    conv=>lhs;rw [e]
    rw [Int.natAbs_neg,Int.natAbs_natCast,Int.neg_ediv_of_dvd (by rw [Int.natCast_dvd_natCast];exact Nat.gcd_dvd_left ..)]
    rfl
  · have h0:0<=n.sign:=Int.sign_nonneg_iff.2 Z
    have e:n=((n.natAbs:Nat):Int):=by omega
    rw [if_neg (by simp;omega)]
    conv=>lhs;rw [e]
    rw [Int.natAbs_natCast]
    rfl
theorem Q7 {n:Int} {d:Nat} (hd:d≠0):(mkRat n d).den=d/Nat.gcd n.natAbs d:=by rw [Rat.den_mkRat,if_neg hd,Nat.gcd_comm]
section
set_option maxRecDepth 100000
theorem Dg (x0:Int) (x1:Nat):Instr.fill ([(0,3),(3,2)].toArray[·]?) (AO (0:Rat)).toArray [(0,.agg (BG x0).toArray),(1,.agg (Ab x1).toArray)]=some (BG x0++Ab x1).toArray:=by kernel_rfl
theorem HU (n:Int) (d:Nat) (hn:nw n.natAbs<=1099511627776) (hd:nw d<=1099511627776) (hd0:d≠0) (w:World)  :Calls prog 56 #[(aG (BG n)),(aG (Ab d))] w (An w (aG (AO (mkRat n d)))):=by
 have hg:Nat.gcd n.natAbs d≠0:=λh=>hd0 (Nat.eq_zero_of_gcd_eq_zero_right h)
 have hgw:nw (Nat.gcd n.natAbs d)<=nw d:=C1 (Nat.gcd_le_right _ (Nat.pos_of_ne_zero hd0))
 have hqw:nw (d/Nat.gcd n.natAbs d)<=nw d:=C1 (Nat.div_le_self _ _)
 have h1w:=Ij
 refine Af (args:=[(aG (BG n)),(aG (Ab d))]) func56 O O (AT O) (AF.subF (sL [0,1] O) (q4 (BU (cs:=BG n) O λb1=>BU (cs:=Ab d) O λb2=>al Eb O λb3=>?_)))
 refine q6 (sL [2,3,4] O) (rN [(0,true),(2,true),(1,false),(3,false)] [⟨4,5,42,Ab 0⟩] [(5,false)] sr (by kernel_rfl) (λ_ _ d _ _ h=>by cases d<;>exact h) (HV O O F5 O (JV)) O (Ia 2 DF O (Ia 1 B7 O (Ci.imp O λEF EL=>ck' call101 (N2 n) O ?_))))
 refine Ci.back0 sr O (Ci.imp O λEF EL=>ck' call100 (Zr n.natAbs d Z Z) O (Ci.back0 sr O (Ci.news1 λb4=>OkE.imp O ?_)))
 refine A8 O sizeOf42 O (OkE.back (sl sr) (OkE.nil (AC.subF (sL [2,3,4,5] O) (q1 (rN [(0,true),(2,true),(1,false),(3,false),(4,true),(5,true),(6,true),(7,true)] [⟨8,6,42,Ab 0⟩,⟨9,7,42,Ab 0⟩] [(10,false),(11,false),(12,true)] sr (by kernel_rfl) (λ_ _ d _ _ h=>by cases d<;>exact h) (HV O O F5 O (HV O O F5 O (JV))) O ?_)))))
 refine Ia 3 DF O (Ia 0 B7 O (Ci.imp O λEF EL=>ck' call101 (N2 n) O (Ci.back0 sr O (Ci.imp O λEF EL=>?_))))
 refine ck' call102 (QC n.natAbs (Nat.gcd n.natAbs d) Z Z Z) O (Ci.back0 sr O (Pf O (Hq O (Aa (v:=(aG (Ab (n.natAbs/(Nat.gcd n.natAbs d))))) O O) O (Hq O (Aa (v:=(aG (Ab (n.natAbs%(Nat.gcd n.natAbs d))))) O O) O (Hq O (Aa (v:=(Value.bool true)) O O) O ?_)))))
 refine Ci.news2 λb5 b6=>OkE.imp O (A8 O sizeOf42 O (OkE.back (sl (sl sr)) (OkE.imp O (Cm O sizeOf42 O ?_))))
 refine OkE.back (sl (sl sr)) (pS' O (OkE.nil (AC.subF (sL [2,3,4,5,6] O) (q2 (BD 4 B7 O ?_)))))
 refine BD 2 B7 O (ck' call102 (QC d (Nat.gcd n.natAbs d) Z Z Z) O (AM O (AH (Aa (v:=(aG (Ab (d/(Nat.gcd n.natAbs d))))) O O) O (AH (Aa (v:=(aG (Ab (d%(Nat.gcd n.natAbs d))))) O O) O (AH (Aa (v:=(Value.bool true)) O O) O ?_)))))
 refine al F5 O λb7=>al F5 O λb8=>Cm O sizeOf42 O (A8 O sizeOf42 O (asg' O (q6 (sL [2,3,4,5,6,9] O) ?_)))
 refine rC [(0,true),(1,false),(2,false),(3,true),(4,true),(5,true)] 6 [] sr (sk (sl sr)) (by kernel_rfl) (λ_ _ d _ _ h=>by cases d<;>exact h) (vE (v:=(aG (Ab (d/(Nat.gcd n.natAbs d))))) O (Aj (i:=1) (vs:=Ab (d/(Nat.gcd n.natAbs d))) O O B7.a B7.s O O) O (CK.imp O (ck' call104 (J9 1 Z) O (CK.back sr (CK.imp O ?_)))))
 refine ck' call103 (Qj (d/(Nat.gcd n.natAbs d)) 1 Z Z) O (CK.back sr (vM O O O (vE O (Aa (v:=(aG (Ab ((d/(Nat.gcd n.natAbs d))-1)))) O O) O (vE O (Aa (v:=(Value.bool (decide (1<=d/(Nat.gcd n.natAbs d))))) O O) O (CK.cut O ?_)))))
 refine Cm O sizeOf42 O (OkE.back (sk (sl sr)) (OkE.nil (AC.subF (sL [2,3,4,5,6,9] O) (q1 (Cd [(0,true),(3,true),(5,true),(1,false),(2,true),(4,false),(6,true),(7,false)] (sk (sk (sk (sk (sk (sl sr)))))) ?_)))))
 refine Da 6 DF O (Da 2 B7 O (Da 1 B7 O (OkE.imp O (ck' call106 (Kq n) O (OkE.back (sk (sk (sk (sk (sk (sl sr)))))) ?_)))))
 refine Aq O (Ae (c:=(decide (n.sign<(0:Int)))) O O O) (OkE.imp O (ck' call105 (ER (decide (n.sign<(0:Int))) (n.natAbs/(Nat.gcd n.natAbs d))) O (OkE.back (sk (sk (sk (sk (sk (sl sr)))))) (Aq (v:=(aG (BG (D_ (decide (n.sign<(0:Int))) (n.natAbs/(Nat.gcd n.natAbs d)))++Ab ((d/(Nat.gcd n.natAbs d))-1)))) O (AV (zs:=AO (0:Rat)) (vs:=BG (D_ (decide (n.sign<(0:Int))) (n.natAbs/(Nat.gcd n.natAbs d)))++Ab ((d/(Nat.gcd n.natAbs d))-1)) (pv:=[(0,(aG (BG (D_ (decide (n.sign<(0:Int))) (n.natAbs/(Nat.gcd n.natAbs d)))))),(1,(aG (Ab ((d/(Nat.gcd n.natAbs d))-1))))]) (places:=[(0,3),(3,2)]) zeroValue48 underlying48 (λw=>by simp [sizeOf42,sizeOf46]) O (Dg (D_ (decide (n.sign<(0:Int))) (n.natAbs/(Nat.gcd n.natAbs d))) ((d/(Nat.gcd n.natAbs d))-1))) (OkE.imp O ?_)))))
 exact Eg 5 (off:=0) (vs:=BG (D_ (decide (n.sign<(0:Int))) (n.natAbs/(Nat.gcd n.natAbs d)))++Ab ((d/(Nat.gcd n.natAbs d))-1)) (cs':=BG (D_ (decide (n.sign<(0:Int))) (n.natAbs/(Nat.gcd n.natAbs d)))++Ab ((d/(Nat.gcd n.natAbs d))-1)) (AS O) O sizeOf48 O (OkE.back (sk (sk (sk (sk (sk (sl sr)))))) (OkE.nil (AC.subF (sL [2,3,4,5,6,9] O) (AC.then_ (AF.ret (AI O (Ap (i:=5) (cs:=BG (D_ (decide (n.sign<(0:Int))) (n.natAbs/(Nat.gcd n.natAbs d)))++Ab ((d/(Nat.gcd n.natAbs d))-1)) O O isAgg48 sizeOf48 O) (λw hw=>⟨by rw [JJ,Ri hd0,Q7 hd0],hw.out⟩)))))))
theorem Hf (x0:Int):Instr.fill ([(0,3),(3,2)].toArray[·]?) (AO (0:Rat)).toArray [(0,.agg (BG x0).toArray)]=some (BG x0++Ab ((0:Rat).den-1)).toArray:=by kernel_rfl
theorem Kh (n:Int) (w:World)  :Calls prog 54 #[(aG (BG n))] w (An w (aG (AO ((n:Int):Rat)))):=by
 refine Af (args:=[(aG (BG n))]) func54 O O (AT O) (AF.subF (sL [0] O) (q4 (BU (cs:=BG n) O λb1=>al Eb O λb2=>q3 (sL [1,2] O) ?_)))
 refine BD 1 DF O (AH (v:=(aG (BG n++Ab ((0:Rat).den-1)))) (AV (zs:=AO (0:Rat)) (vs:=BG n++Ab ((0:Rat).den-1)) (pv:=[(0,(aG (BG n)))]) (places:=[(0,3),(3,2)]) zeroValue48 underlying48 (λw=>by simp [sizeOf42,sizeOf46]) O (Hf n)) O (A8 O sizeOf48 O (AE.nil (AC.subF (sL [2] O) (AC.then_ ?_)))))
 exact AF.ret (AI O (Ap (i:=0) (cs:=BG n++Ab ((0:Rat).den-1)) O O isAgg48 sizeOf48 O) (λw hw=>⟨rfl,hw.out⟩))
theorem Ll  :Instr.fill ([(0,1),(1,1)].toArray[·]?) (Ab 0).toArray []=some (Ab 0).toArray:=by kernel_rfl
theorem Fl (a:Rat) (w:World)  :Calls prog 53 #[(aG (AO a))] w (An w (Value.bool (decide (a.den-1=0)))):=by
 refine Af (args:=[(aG (AO a))]) func53 O O (AT O) (AF.subF (sL [0] O) (q4 (BU (cs:=AO a) O λb1=>asg' O (q3 (sL [1,2] O) ?_))))
 refine AH (v:=(pP b1 3)) (AA O underlying48 O sizeOf42 O) O (Cy 0 (Ab (a.den-1)) B7 O (AH (v:=(aG (Ab 0))) (AV (zs:=Ab 0) (vs:=Ab 0) (pv:=[]) (places:=[(0,1),(1,1)]) zeroValue42 underlying42 (λw=>by simp [sizeOf9,sizeOf40]) O (Ll )) O (AH (CJ (c:=(decide (a.den-1=0))) O O eqGuardType42 (HN 9998 (a.den-1) 0)) O (asg' O (AE.nil ?_)))))
 exact AC.subF (sL [2] O) (AC.then_ (AF.ret (AI O (AY (v:=(Value.bool (decide (a.den-1=0)))) O) (λw hw=>⟨rfl,hw.out⟩))))
theorem den_ok (a:Rat) (ha:nw a.den<=1099511627776) (w:World)  :Calls prog 57 #[(aG (AO a))] w (An w (aG (Ab a.den))):=by
 have h1w:=Ij
 have h2w:=C1 (Nat.sub_le a.den 1)
 refine Af (args:=[(aG (AO a))]) func57 O O (AT O) (AF.subF (sL [0] O) (q4 (BU (cs:=AO a) O λb1=>al F5 O λb2=>q6 (sL [1,2] O) ?_)))
 refine Cd [(0,true),(1,true),(2,false),(3,false),(4,false)] (sl sr) (Aq (v:=(pP b1 3)) O (AA O underlying48 O sizeOf42 O) (Ff 0 (Ab (a.den-1)) B7 O (OkE.imp O (ck' call104 (J9 1 Z) O (OkE.back (sl sr) ?_)))))
 refine OkE.imp O (ck' call107 (UP (a.den-1) 1 Z Z) O (OkE.back (sl sr) (OkE.imp O (A8 O sizeOf42 O (OkE.back (sl sr) ?_)))))
 exact OkE.nil (AC.subF (sL [2] O) (AC.then_ (AF.ret (AI O (Ap (i:=0) (cs:=Ab ((a.den-1)+1)) O O isAgg42 sizeOf42 O) (λw hw=>⟨by rw [Nat.sub_add_cancel a.den_pos],hw.out⟩)))))
theorem HP (a:Rat) (ha:nw a.den<=1099511627776) (w:World)  :Calls prog 59 #[(aG (AO a))] w (An w (aG (BG ((a.den:Nat):Int)))):=by
 refine Af (args:=[(aG (AO a))]) func59 O O (AT O) (AF.subF (sL [0] O) (q4 (BU (cs:=AO a) O λb1=>al Jg O λb2=>q3 (sL [1,2] O) ?_)))
 refine BD 1 Bp O (ck' call57 (den_ok a Z) O (ck' call105 (ER false a.den) O (A8 O sizeOf46 O (AE.nil (AC.subF (sL [2] O) ?_)))))
 exact AC.then_ (AF.ret (AI O (Ap (i:=0) (cs:=BG (D_ false a.den)) O O isAgg46 sizeOf46 O) (λw hw=>⟨rfl,hw.out⟩)))
theorem YB (a:Rat) (w:World)  :Calls prog 271 #[(aG (AO a))] w (An w (aG (AO (-a)))):=by
 refine Af (args:=[(aG (AO a))]) func271 O O (AT O) (AF.subF (sL [0] O) (q4 (BU (cs:=AO a) O λb1=>al Eb O λb2=>q6 (sL [1,2] O) ?_)))
 refine Cd [(0,true),(1,true),(3,true),(4,true),(2,false),(5,true),(6,false)] (sl sr) (Aq (v:=(pP b1 0)) O (AA O underlying48 O sizeOf46 O) (Ff 0 (BG a.num) DF O (Aq (v:=(pP b1 3)) O (AA O underlying48 O sizeOf42 O) (Ff 0 (Ab (a.den-1)) B7 O (OkE.imp O ?_)))))
 refine ck' call287 (R2 a.num) O (OkE.back (sl sr) (Aq (v:=(aG (BG (-a.num)++Ab (a.den-1)))) O (AV (zs:=AO (0:Rat)) (vs:=BG (-a.num)++Ab (a.den-1)) (pv:=[(0,(aG (BG (-a.num)))),(1,(aG (Ab (a.den-1))))]) (places:=[(0,3),(3,2)]) zeroValue48 underlying48 (λw=>by simp [sizeOf42,sizeOf46]) O (Dg (-a.num) (a.den-1))) (OkE.imp O (A8 O sizeOf48 O (OkE.back (sl sr) ?_)))))
 exact OkE.nil (AC.subF (sL [2] O) (AC.then_ (AF.ret (AI O (Ap (i:=0) (cs:=BG (-a.num)++Ab (a.den-1)) O O isAgg48 sizeOf48 O) (λw hw=>⟨by rw [JJ,Rat.neg_num,Rat.neg_den],hw.out⟩)))))
theorem E7 (a:Rat) (w:World)  :Calls prog 179 #[(aG (AO a))] w (An w (vI a.num.sign)):=by
 refine Af (args:=[(aG (AO a))]) func179 O O (AT O) (AF.subF (sL [0] O) (q4 (BU (cs:=AO a) O λb1=>asg' O (q3 (sL [1,2] O) ?_))))
 refine AH (v:=(pP b1 0)) (AA O underlying48 O sizeOf46 O) O (Cy 0 (BG a.num) DF O (ck' call106 (Kq a.num) O (asg' O (AE.nil (AC.subF (sL [2] O) ?_)))))
 exact AC.then_ (AF.ret (AI O (AY (v:=(vI a.num.sign)) O) (λw hw=>⟨rfl,hw.out⟩)))
theorem SA (a b:Rat) (hs:Sz a+Sz b<=549755813888) (w:World)  :Calls prog 184 #[(aG (AO a)),(aG (AO b))] w (An w (vI (G7 a b))):=by
 have s1:=Cr a
 have s2:=Ce a
 have s3:=Cr b
 have s4:=Ce b
 have s5:=CO a b
 have s6:=CO b a
 have s7:=F3 a b
 have s8:=G3 a b
 have s9:=Dk a.num b.num
 have s10:=Dk (a.num*((b.den:Nat):Int)) (b.num*((a.den:Nat):Int))
 have hda:=a.den_nz
 have hdb:=b.den_nz
 have hdab:a.den*b.den≠0:=Nat.mul_ne_zero hda hdb
 refine Af (args:=[(aG (AO a)),(aG (AO b))]) func184 O O (AT O) (AF.subF (sL [0,1] O) (q4 (BU (cs:=AO a) O λb1=>BU (cs:=AO b) O λb2=>asg' O ?_)))
 refine q6 (sL [2,3,4] O) (q4 (AH (v:=(pP b1 3)) (AA O underlying48 O sizeOf42 O) O (Cy 1 (Ab (a.den-1)) B7 O (AH (v:=(pP b2 3)) (AA O underlying48 O sizeOf42 O) O (Cy 0 (Ab (b.den-1)) B7 O ?_)))))
 refine AH (CJ (c:=(decide (a.den-1=b.den-1))) O O eqGuardType42 (HN 9998 (a.den-1) (b.den-1))) O (AE.nil (AC.subF (sL [2,3,4,9] O) (AC.then_ ?_)))
 refine AF.cond O (λhc0=>?_) (λhc0=>?_)
 ·replace hc0:=of_decide_eq_true hc0
  have he:=So hc0
  refine q4 (AH (v:=(pP b1 0)) (AA O underlying48 O sizeOf46 O) O (Cy 1 (BG a.num) DF O (AH (v:=(pP b2 0)) (AA O underlying48 O sizeOf46 O) O (Cy 0 (BG b.num) DF O (ck' call242 (Qx a.num b.num (by first|omega|(simp only [Int.natAbs_neg,A9,Int.natAbs_natCast];omega)) (by first|omega|(simp only [Int.natAbs_neg,A9,Int.natAbs_natCast];omega))) O ?_)))))
  exact asg' O (AE.nil (AC.subF (sL [2,3,4] O) (AC.then_ (AF.ret (AC.then_ret (AI O (AY (v:=(vI ((a.num-b.num).sign))) O) (λw hw=>⟨by rw [he],hw.out⟩)))))))
 ·replace hc0:=of_decide_eq_false hc0
  have he:=KL a b
  refine AF.skip (q1 (Cd [(0,true),(1,true),(2,true),(5,true),(6,true),(7,true),(3,false),(4,false),(8,false),(9,false),(10,false),(11,true)] sr (Aq (v:=(pP b1 0)) O (AA O underlying48 O sizeOf46 O) (Ff 1 (BG a.num) DF O (Da 0 Bp O ?_)))))
  refine Aq (v:=(pP b2 0)) O (AA O underlying48 O sizeOf46 O) (Ff 0 (BG b.num) DF O (Da 1 Bp O (OkE.imp O (ck' call59 (HP b Z) O (OkE.back sr ?_)))))
  refine OkE.imp O (ck' call58 (HL a.num ((b.den:Nat):Int) (by first|omega|(simp only [Int.natAbs_neg,A9,Int.natAbs_natCast];omega)) (by first|omega|(simp only [Int.natAbs_neg,A9,Int.natAbs_natCast];omega))) O (OkE.back sr (OkE.imp O (ck' call59 (HP a Z) O (OkE.back sr ?_)))))
  refine OkE.imp O (ck' call58 (HL b.num ((a.den:Nat):Int) (by first|omega|(simp only [Int.natAbs_neg,A9,Int.natAbs_natCast];omega)) (by first|omega|(simp only [Int.natAbs_neg,A9,Int.natAbs_natCast];omega))) O (OkE.back sr (OkE.imp O (ck' call242 (Qx (a.num*((b.den:Nat):Int)) (b.num*((a.den:Nat):Int)) (by first|omega|(simp only [Int.natAbs_neg,A9,Int.natAbs_natCast];omega)) (by first|omega|(simp only [Int.natAbs_neg,A9,Int.natAbs_natCast];omega))) O (OkE.back sr ?_)))))
  exact pS' O (OkE.nil (AC.subF (sL [2,3,4] O) (AC.then_ (AF.ret (AI O (AY (v:=(vI (((a.num*((b.den:Nat):Int))-(b.num*((a.den:Nat):Int))).sign))) O) (λw hw=>⟨by rw [he],hw.out⟩))))))
theorem RL (a b:Rat) (hs:Sz a+Sz b<=549755813888) (w:World)  :Calls prog 14 #[(aG (AO a)),(aG (AO b))] w (An w (aG (AO (a+b)))):=by
 have s1:=Cr a
 have s2:=Ce a
 have s3:=Cr b
 have s4:=Ce b
 have s5:=CO a b
 have s6:=CO b a
 have s7:=F3 a b
 have s8:=G3 a b
 have s9:=Dk a.num b.num
 have s10:=Dk (a.num*((b.den:Nat):Int)) (b.num*((a.den:Nat):Int))
 have hda:=a.den_nz
 have hdb:=b.den_nz
 have hdab:a.den*b.den≠0:=Nat.mul_ne_zero hda hdb
 refine Af (args:=[(aG (AO a)),(aG (AO b))]) func14 O O (AT O) (AF.subF (sL [0,1] O) (q4 (BU (cs:=AO a) O λb1=>BU (cs:=AO b) O λb2=>al Eb O λb3=>?_)))
 refine q6 (sL [2,3,4] O) (AF.block (q4 (BD 2 Bp O (ck' call53 (Fl a) O (AM O ?_)))))
 refine AE.mid (FM:=[(2,(pP b1 0)),(3,(pP b2 0)),(4,(pP b3 0)),(6,(aG (AO a))),(7,(Value.bool (decide (a.den-1=0)))),(8,(Value.bool (decide (a.den-1=0)))),(11,(Value.bool ((decide (a.den-1=0))&&(decide (b.den-1=0)))))]) (LM:=[Ag b3 48 (AO (0:Rat)),Ag b2 48 (AO b),Ag b1 48 (AO a)]) 3 ?_ ?_
 ·rcases Bool.eq_false_or_eq_true (decide (a.den-1=0)) with hg1|hg1
  ·skip
   refine AE.retell (k:=8) (u:=Value.bool true) O (by rw [hg1]) ?_
   have hg1':=hg1
   replace hg1':=of_decide_eq_true hg1'
   exact AE.step (v:=(aG (AO b))) (AB O) (Aj (i:=1) (vs:=AO b) O O Bp.a Bp.s O O) O (AT O) (AE.call (v:=(Value.bool (decide (b.den-1=0)))) (AB O) (Ao (args:=[(aG (AO b))]) O O call53) (λw hw=>Fl b w) O (AT O) (AH (v:=(Value.bool (decide (b.den-1=0)))) (Ac O O) O (AE.nil (AC.mid (sS O (sS O (sS O (sS O (sS O (sS (by first|rfl|(rw [hg1];rfl)|rw [hg1]) (sS (by first|rfl|(rw [hg1];rfl)|rw [hg1]) (sN)))))))) (List.Sublist.refl _)))))
  ·skip
   refine AE.retell (k:=8) (u:=Value.bool false) O (by rw [hg1]) ?_
   have hg1':=hg1
   replace hg1':=of_decide_eq_false hg1'
   exact AE.skip (AJ O) O (AT O) (AE.skip (AJ O) O (AT O) (AH (v:=(Value.bool false)) (AP O O) O (AE.nil (AC.mid (sS O (sS O (sS O (sS O (sS O (sS (by first|rfl|(rw [hg1];rfl)|rw [hg1]) (sS (by first|rfl|(rw [hg1];rfl)|rw [hg1]) (sN)))))))) (List.Sublist.refl _)))))
 refine asg' O (AE.nil (AC.subF (sL [2,3,4,5] O) (AC.then_ ?_)))
 refine AF.cond O (λhc0=>?_) (λhc0=>?_)
 ·simp only [Bool.and_eq_true,Bool.or_eq_true,Bool.and_eq_false_iff,Bool.or_eq_false_iff,Bool.not_eq_true',Bool.not_eq_false',decide_eq_true_eq,decide_eq_false_iff_not] at hc0
  have he:=SG hc0.1 hc0.2
  refine q4 (AH (v:=(pP b1 0)) (AA O underlying48 O sizeOf46 O) O (Cy 2 (BG a.num) DF O (AH (v:=(pP b2 0)) (AA O underlying48 O sizeOf46 O) O (Cy 1 (BG b.num) DF O (ck' call55 (NK a.num b.num (by first|omega|(simp only [Int.natAbs_neg,A9,Int.natAbs_natCast];omega)) (by first|omega|(simp only [Int.natAbs_neg,A9,Int.natAbs_natCast];omega))) O ?_)))))
  refine ck' call54 (Kh (a.num+b.num)) O (A8 O sizeOf48 O (AE.nil (AC.subF (sL [2,3,4] O) (AC.then_ (AF.ret ?_)))))
  exact AC.in_ret (AC.then_ret (AI O (Ap (i:=0) (cs:=AO ((a.num+b.num:Int):Rat)) O O isAgg48 sizeOf48 O) (λw hw=>⟨by rw [he],hw.out⟩)))
 ·simp only [Bool.and_eq_true,Bool.or_eq_true,Bool.and_eq_false_iff,Bool.or_eq_false_iff,Bool.not_eq_true',Bool.not_eq_false',decide_eq_true_eq,decide_eq_false_iff_not] at hc0
  have he:=Ip a b
  refine q4 (AH (v:=(pP b1 3)) (AA O underlying48 O sizeOf42 O) O (Cy 2 (Ab (a.den-1)) B7 O (AH (v:=(pP b2 3)) (AA O underlying48 O sizeOf42 O) O (Cy 1 (Ab (b.den-1)) B7 O (AH (CJ (c:=(decide (a.den-1=b.den-1))) O O eqGuardType42 (HN 9998 (a.den-1) (b.den-1))) O ?_)))))
  refine asg' O (AE.nil (AC.subF (sL [2,3,4,18] O) (AC.then_ ?_)))
  refine AF.cond O (λhc1=>?_) (λhc1=>?_)
  ·replace hc1:=of_decide_eq_true hc1
   have he:=UG hc1
   refine AF.seq (Cd [(0,true),(1,true),(2,true),(3,true),(5,true),(4,false),(6,false),(7,false),(8,false)] (sl sr) (Aq (v:=(pP b1 0)) O (AA O underlying48 O sizeOf46 O) (Ff 1 (BG a.num) DF O (Aq (v:=(pP b2 0)) O (AA O underlying48 O sizeOf46 O) (Ff 0 (BG b.num) DF O ?_)))))
   refine Da 1 Bp O (OkE.imp O (ck' call55 (NK a.num b.num (by first|omega|(simp only [Int.natAbs_neg,A9,Int.natAbs_natCast];omega)) (by first|omega|(simp only [Int.natAbs_neg,A9,Int.natAbs_natCast];omega))) O (OkE.back (sl sr) (OkE.imp O (ck' call57 (den_ok a Z) O ?_)))))
   refine OkE.back (sl sr) (OkE.imp O (ck' call56 (HU (a.num+b.num) a.den Z Z (by first|omega|assumption)) O (OkE.back (sl sr) (OkE.imp O (A8 O sizeOf48 O ?_)))))
   refine OkE.back (sl sr) (OkE.nil (AC.subF (sL [2,3,4] O) (AC.then_ (AF.ret (AC.in_ret ?_)))))
   exact AC.then_ret (AI O (Ap (i:=0) (cs:=AO (mkRat (a.num+b.num) a.den)) O O isAgg48 sizeOf48 O) (λw hw=>⟨by rw [he],hw.out⟩))
  ·replace hc1:=of_decide_eq_false hc1
   refine AF.skip (AC.in_normal (q1 (Cd [(0,true),(1,true),(2,true),(5,true),(6,true),(7,true),(11,true),(13,true),(3,false),(4,false),(8,false),(9,false),(10,false),(12,false),(14,false),(15,false),(16,false),(17,false)] (sl sr) (Aq (v:=(pP b1 0)) O (AA O underlying48 O sizeOf46 O) (Ff 1 (BG a.num) DF O ?_)))))
   refine Da 0 Bp O (Aq (v:=(pP b2 0)) O (AA O underlying48 O sizeOf46 O) (Ff 0 (BG b.num) DF O (Da 1 Bp O (Da 1 Bp O (Da 0 Bp O ?_)))))
   refine OkE.imp O (ck' call59 (HP b Z) O (OkE.back (sl sr) (OkE.imp O (ck' call58 (HL a.num ((b.den:Nat):Int) (by first|omega|(simp only [Int.natAbs_neg,A9,Int.natAbs_natCast];omega)) (by first|omega|(simp only [Int.natAbs_neg,A9,Int.natAbs_natCast];omega))) O (OkE.back (sl sr) ?_)))))
   refine OkE.imp O (ck' call59 (HP a Z) O (OkE.back (sl sr) (OkE.imp O (ck' call58 (HL b.num ((a.den:Nat):Int) (by first|omega|(simp only [Int.natAbs_neg,A9,Int.natAbs_natCast];omega)) (by first|omega|(simp only [Int.natAbs_neg,A9,Int.natAbs_natCast];omega))) O (OkE.back (sl sr) ?_)))))
   refine OkE.imp O (ck' call55 (NK (a.num*((b.den:Nat):Int)) (b.num*((a.den:Nat):Int)) (by first|omega|(simp only [Int.natAbs_neg,A9,Int.natAbs_natCast];omega)) (by first|omega|(simp only [Int.natAbs_neg,A9,Int.natAbs_natCast];omega))) O (OkE.back (sl sr) (OkE.imp O (ck' call57 (den_ok a Z) O (OkE.back (sl sr) ?_)))))
   refine OkE.imp O (ck' call57 (den_ok b Z) O (OkE.back (sl sr) (OkE.imp O (ck' call60 (Pv a.den b.den Z Z) O (OkE.back (sl sr) ?_)))))
   refine OkE.imp O (ck' call56 (HU ((a.num*((b.den:Nat):Int))+(b.num*((a.den:Nat):Int))) (a.den*b.den) Z Z (by first|omega|assumption)) O (OkE.back (sl sr) (OkE.imp O (A8 O sizeOf48 O (OkE.back (sl sr) ?_)))))
   exact OkE.nil (AC.subF (sL [2,3,4] O) (AC.then_ (AF.ret (AI O (Ap (i:=0) (cs:=AO (mkRat ((a.num*((b.den:Nat):Int))+(b.num*((a.den:Nat):Int))) (a.den*b.den))) O O isAgg48 sizeOf48 O) (λw hw=>⟨by rw [he],hw.out⟩)))))
theorem NR (a b:Rat) (hs:Sz a+Sz b<=549755813888) (w:World)  :Calls prog 233 #[(aG (AO a)),(aG (AO b))] w (An w (aG (AO (a-b)))):=by
 refine Af (args:=[(aG (AO a)),(aG (AO b))]) func233 O O (AT O) (AF.subF (sL [0,1] O) (q4 (BU (cs:=AO a) O λb1=>BU (cs:=AO b) O λb2=>al Eb O λb3=>?_)))
 refine q6 (sL [2,3,4] O) (Cd [(0,true),(1,true),(2,false),(3,false),(4,false)] (sl sr) (Da 1 Bp O (Da 0 Bp O (OkE.imp O (ck' call271 (YB b) O ?_)))))
 refine OkE.back (sl sr) (OkE.imp O ?_)
 have hz1:=LZ a (-b)
 refine ck' call14 (RL a (-b) (by (try simp only [C5]);omega)) O (OkE.back (sl sr) (OkE.imp O (A8 O sizeOf48 O (OkE.back (sl sr) (OkE.nil ?_)))))
 exact AC.subF (sL [4] O) (AC.then_ (AF.ret (AI O (Ap (i:=0) (cs:=AO (a+(-b))) O O isAgg48 sizeOf48 O) (λw hw=>⟨by rw [Rat.sub_eq_add_neg],hw.out⟩))))
theorem KE (a b:Rat) (hs:Sz a+Sz b<=549755813888) (w:World)  :Calls prog 192 #[(aG (AO a)),(aG (AO b))] w (An w (aG (AO (a*b)))):=by
 have s1:=Cr a
 have s2:=Ce a
 have s3:=Cr b
 have s4:=Ce b
 have s5:=CO a b
 have s6:=CO b a
 have s7:=F3 a b
 have s8:=G3 a b
 have s9:=Dk a.num b.num
 have s10:=Dk (a.num*((b.den:Nat):Int)) (b.num*((a.den:Nat):Int))
 have hda:=a.den_nz
 have hdb:=b.den_nz
 have hdab:a.den*b.den≠0:=Nat.mul_ne_zero hda hdb
 refine Af (args:=[(aG (AO a)),(aG (AO b))]) func192 O O (AT O) (AF.subF (sL [0,1] O) (q4 (BU (cs:=AO a) O λb1=>BU (cs:=AO b) O λb2=>al Eb O λb3=>?_)))
 refine q6 (sL [2,3,4] O) (q4 (BD 2 Bp O (ck' call53 (Fl a) O (AM O ?_))))
 refine AE.mid (FM:=[(2,(pP b1 0)),(3,(pP b2 0)),(4,(pP b3 0)),(5,(aG (AO a))),(6,(Value.bool (decide (a.den-1=0)))),(7,(Value.bool (decide (a.den-1=0)))),(10,(Value.bool ((decide (a.den-1=0))&&(decide (b.den-1=0)))))]) (LM:=[Ag b3 48 (AO (0:Rat)),Ag b2 48 (AO b),Ag b1 48 (AO a)]) 3 ?_ ?_
 ·rcases Bool.eq_false_or_eq_true (decide (a.den-1=0)) with hg1|hg1
  ·skip
   refine AE.retell (k:=7) (u:=Value.bool true) O (by rw [hg1]) ?_
   have hg1':=hg1
   replace hg1':=of_decide_eq_true hg1'
   exact AE.step (v:=(aG (AO b))) (AB O) (Aj (i:=1) (vs:=AO b) O O Bp.a Bp.s O O) O (AT O) (AE.call (v:=(Value.bool (decide (b.den-1=0)))) (AB O) (Ao (args:=[(aG (AO b))]) O O call53) (λw hw=>Fl b w) O (AT O) (AH (v:=(Value.bool (decide (b.den-1=0)))) (Ac O O) O (AE.nil (AC.mid (sS O (sS O (sS O (sS O (sS O (sS (by first|rfl|(rw [hg1];rfl)|rw [hg1]) (sS (by first|rfl|(rw [hg1];rfl)|rw [hg1]) (sN)))))))) (List.Sublist.refl _)))))
  ·skip
   refine AE.retell (k:=7) (u:=Value.bool false) O (by rw [hg1]) ?_
   have hg1':=hg1
   replace hg1':=of_decide_eq_false hg1'
   exact AE.skip (AJ O) O (AT O) (AE.skip (AJ O) O (AT O) (AH (v:=(Value.bool false)) (AP O O) O (AE.nil (AC.mid (sS O (sS O (sS O (sS O (sS O (sS (by first|rfl|(rw [hg1];rfl)|rw [hg1]) (sS (by first|rfl|(rw [hg1];rfl)|rw [hg1]) (sN)))))))) (List.Sublist.refl _)))))
 refine AE.nil (AC.subF (sL [2,3,4,10] O) (AC.then_ ?_))
 refine AF.cond O (λhc0=>?_) (λhc0=>?_)
 ·simp only [Bool.and_eq_true,Bool.or_eq_true,Bool.and_eq_false_iff,Bool.or_eq_false_iff,Bool.not_eq_true',Bool.not_eq_false',decide_eq_true_eq,decide_eq_false_iff_not] at hc0
  have he:=SB hc0.1 hc0.2
  refine q4 (AH (v:=(pP b1 0)) (AA O underlying48 O sizeOf46 O) O (Cy 2 (BG a.num) DF O (AH (v:=(pP b2 0)) (AA O underlying48 O sizeOf46 O) O (Cy 1 (BG b.num) DF O (ck' call58 (HL a.num b.num (by first|omega|(simp only [Int.natAbs_neg,A9,Int.natAbs_natCast];omega)) (by first|omega|(simp only [Int.natAbs_neg,A9,Int.natAbs_natCast];omega))) O ?_)))))
  refine ck' call54 (Kh (a.num*b.num)) O (A8 O sizeOf48 O (AE.nil (AC.subF (sL [2,3,4] O) (AC.then_ (AF.ret ?_)))))
  exact AC.then_ret (AI O (Ap (i:=0) (cs:=AO ((a.num*b.num:Int):Rat)) O O isAgg48 sizeOf48 O) (λw hw=>⟨by rw [he],hw.out⟩))
 ·simp only [Bool.and_eq_true,Bool.or_eq_true,Bool.and_eq_false_iff,Bool.or_eq_false_iff,Bool.not_eq_true',Bool.not_eq_false',decide_eq_true_eq,decide_eq_false_iff_not] at hc0
  have he:=Is a b
  refine AF.skip (q1 (Cd [(0,true),(1,true),(2,true),(3,true),(5,true),(7,true),(4,false),(6,false),(8,false),(9,false),(10,false),(11,false)] (sl sr) (Aq (v:=(pP b1 0)) O (AA O underlying48 O sizeOf46 O) (Ff 1 (BG a.num) DF O (Aq (v:=(pP b2 0)) O (AA O underlying48 O sizeOf46 O) ?_)))))
  refine Ff 0 (BG b.num) DF O (Da 1 Bp O (Da 0 Bp O (OkE.imp O (ck' call58 (HL a.num b.num (by first|omega|(simp only [Int.natAbs_neg,A9,Int.natAbs_natCast];omega)) (by first|omega|(simp only [Int.natAbs_neg,A9,Int.natAbs_natCast];omega))) O (OkE.back (sl sr) ?_)))))
  refine OkE.imp O (ck' call57 (den_ok a Z) O (OkE.back (sl sr) (OkE.imp O (ck' call57 (den_ok b Z) O (OkE.back (sl sr) ?_)))))
  refine OkE.imp O (ck' call60 (Pv a.den b.den Z Z) O (OkE.back (sl sr) (OkE.imp O (ck' call56 (HU (a.num*b.num) (a.den*b.den) Z Z (by first|omega|assumption)) O (OkE.back (sl sr) ?_)))))
  refine OkE.imp O (A8 O sizeOf48 O (OkE.back (sl sr) (OkE.nil (AC.subF (sL [2,3,4] O) (AC.then_ ?_)))))
  exact AF.ret (AI O (Ap (i:=0) (cs:=AO (mkRat (a.num*b.num) (a.den*b.den))) O O isAgg48 sizeOf48 O) (λw hw=>⟨by rw [he],hw.out⟩))
theorem J8 (a b:Rat) (hs:Sz a+Sz b<=549755813888) (hb:b≠0) (w:World)  :Calls prog 217 #[(aG (AO a)),(aG (AO b))] w (An w (Value.tuple #[(aG (AO (a/b))),(vI 0)])):=by
 have s1:=Cr a
 have s2:=Ce a
 have s3:=Cr b
 have s4:=Ce b
 have s5:=CO a b
 have s6:=CO b a
 have s7:=F3 a b
 have s8:=G3 a b
 have s9:=Dk a.num b.num
 have s10:=Dk (a.num*((b.den:Nat):Int)) (b.num*((a.den:Nat):Int))
 have hda:=a.den_nz
 have hdb:=b.den_nz
 have hdab:a.den*b.den≠0:=Nat.mul_ne_zero hda hdb
 have hbn:b.num≠0:=λe=>hb (Rat.num_eq_zero.1 e)
 have hbs:b.num.sign≠0:=λe=>hbn (Int.sign_eq_zero_iff_zero.1 e)
 have hmi:nw (D_ (decide (b.num.sign<(0:Int))) b.den).natAbs=nw b.den:=by rw [A9]
 have hinv:=Il hb
 have hsi:=Ph hb
 rw [<-hinv] at hsi
 refine Af (args:=[(aG (AO a)),(aG (AO b))]) func217 O O (AT O) (AF.subF (sL [0,1] O) (q4 (BU (cs:=AO a) O λb1=>BU (cs:=AO b) O λb2=>al Eb O λb3=>?_)))
 refine asg' O (q6 (sL [2,3,4,5] O) (q4 (BD 1 Bp O (ck' call179 (E7 b) O (AH (BL (c:=(decide (b.num.sign=(0:Int)))) O O O) O ?_)))))
 refine AE.nil (AC.subF (sL [2,3,4,5,9] O) (AC.then_ ?_))
 refine AF.cond O (λhc0=>?_) (λhc0=>?_)
 ·replace hc0:=of_decide_eq_true hc0
  exact absurd hc0 hbs
 ·replace hc0:=of_decide_eq_false hc0
  refine AF.skip (q1 (rN [(0,true),(3,true),(6,true),(7,true),(1,false),(2,true),(4,false),(5,false),(8,false),(9,false)] [⟨10,6,48,AO (0:Rat)⟩] [(11,false)] sr (by kernel_rfl) (λ_ _ d _ _ h=>by cases d<;>exact h) (HV O O Eb O (JV)) O (Ia 1 Bp O (Ia 1 Bp O (Hq (v:=(pP b2 0)) O (AA O underlying48 O sizeOf46 O) O ?_)))))
  refine U6 1 (BG b.num) DF O (Ci.imp O λEF EL=>ck' call179 (E7 b) O (Ci.back0 sr O (Hq O (Ae (c:=(decide (b.num.sign<(0:Int)))) O O O) O (Ci.imp O λEF EL=>?_))))
  refine ck' call57 (den_ok b Z) O (Ci.back0 sr O (Ci.imp O λEF EL=>ck' call105 (ER (decide (b.num.sign<(0:Int))) b.den) O (Ci.back0 sr O (Ci.imp O λEF EL=>?_))))
  refine ck' call101 (N2 b.num) O (Ci.back0 sr O (Ci.imp O λEF EL=>ck' call56 (HU (D_ (decide (b.num.sign<(0:Int))) b.den) b.num.natAbs Z Z (by first|omega|assumption)) O (Ci.back0 sr O (Ci.news1 λb4=>?_))))
  refine OkE.imp O (A8 O sizeOf48 O (OkE.back (sl sr) (OkE.nil (AC.subF (sL [2,3,4,5,6] O) (q2 ?_)))))
  refine BD 3 Bp O (BD 0 Bp O ?_)
  have hz1:=EK a (mkRat (D_ (decide (b.num.sign<(0:Int))) b.den) b.num.natAbs)
  refine ck' call192 (KE a (mkRat (D_ (decide (b.num.sign<(0:Int))) b.den) b.num.natAbs) (by (try simp only [C5]);omega)) O (Cm O sizeOf48 O (asg' O (AE.nil (AC.subF (sL [3,4,5,6] O) (AC.then_ ?_)))))
  exact AF.ret (Cp O (Ap (i:=1) (cs:=AO (a*(mkRat (D_ (decide (b.num.sign<(0:Int))) b.den) b.num.natAbs))) O O isAgg48 sizeOf48 O) (AY (v:=(vI 0)) O) (λw hw=>⟨by rw [hinv,Rat.div_def],hw.out⟩))
theorem Lu  :Instr.fill ([(0,3),(3,2)].toArray[·]?) (AO (0:Rat)).toArray []=some (AO (0:Rat)).toArray:=by kernel_rfl
theorem V5 (a:Rat) (w:World)  :Calls prog 217 #[(aG (AO a)),(aG (AO (0:Rat)))] w (An w (Value.tuple #[(aG (AO (0:Rat))),(vI 5)])):=by
 refine Af (args:=[(aG (AO a)),(aG (AO (0:Rat)))]) func217 O O (AT O) (AF.subF (sL [0,1] O) (q4 (BU (cs:=AO a) O λb1=>BU (cs:=AO (0:Rat)) O λb2=>al Eb O λb3=>?_)))
 refine asg' O (q6 (sL [2,3,4,5] O) (q4 (BD 1 Bp O (ck' call179 (E7 (0:Rat)) O (AH (BL (c:=(decide (((0:Rat).num.sign)=(0:Int)))) O O O) O ?_)))))
 refine AE.nil (AC.subF (sL [2,3,4,5,9] O) (AC.then_ ?_))
 refine AF.cond O (λhc0=>?_) (λhc0=>?_)
 ·replace hc0:=of_decide_eq_true hc0
  refine q4 (AH (v:=(aG (AO (0:Rat)))) (AV (zs:=AO (0:Rat)) (vs:=AO (0:Rat)) (pv:=[]) (places:=[(0,3),(3,2)]) zeroValue48 underlying48 (λw=>by simp [sizeOf42,sizeOf46]) O (Lu )) O (A8 O sizeOf48 O (asg' O (AE.nil (AC.subF (sL [2,3,4,5] O) ?_)))))
  exact AC.then_ (AF.ret (AC.then_ret (Cp O (Ap (i:=0) (cs:=AO (0:Rat)) O O isAgg48 sizeOf48 O) (AY (v:=(vI 5)) O) (λw hw=>⟨rfl,hw.out⟩))))
 ·replace hc0:=of_decide_eq_false hc0
  exact absurd O hc0
theorem Jx (z:Int) (hz:-9223372036854775808<=z) (hz2:z<9223372036854775808) (w:World)  :Calls prog 15 #[(vI z)] w (An w (aG (AO ((z:Int):Rat)))):=by
 refine Af (args:=[(vI z)]) func15 O O (AT O) (AF.subF (sL [0] O) (q4 (al Eb O λb1=>AE.nil (q2 ?_))))
 refine AM O (ck' call61 (Zi z Z Z) O (ck' call54 (Kh z) O (A8 O sizeOf48 O (AE.nil (AC.subF (sL [2] O) ?_)))))
 exact AC.then_ (AF.ret (AI O (Ap (i:=0) (cs:=AO ((z:Int):Rat)) O O isAgg48 sizeOf48 O) (λw hw=>⟨rfl,hw.out⟩)))
end
section
instance:Add Pt:=⟨λa b=>⟨a.x+b.x,a.y+b.y⟩⟩
instance:Sub Pt:=⟨λa b=>⟨a.x-b.x,a.y-b.y⟩⟩
def Hu (a:Pt) (k:Rat):Pt:=⟨a.x*k,a.y*k⟩
def E_ (a b:Pt):Rat:=a.x*b.y-a.y*b.x
def AX (a b c:Pt):Rat:=E_ (b-a) (c-a)
def B_ (p:Pt):Nat:=max (Sz p.x) (Sz p.y)
theorem Ez (p:Pt):Sz p.x<=B_ p:=Nat.le_max_left ..
theorem E1 (p:Pt):Sz p.y<=B_ p:=Nat.le_max_right ..
theorem Uk {p:Pt} {k:Nat} (h1:Sz p.x<=k) (h2:Sz p.y<=k):B_ p<=k:=Nat.max_le.2 ⟨h1,h2⟩
theorem FH (a b:Pt):B_ (a-b)<=B_ a+B_ b+1:=by
  have h1:=Ez a;have h2:=E1 a;have h3:=Ez b;have h4:=E1 b
  refine Uk ?_ ?_
  · exact Nat.le_trans (GL a.x b.x) Z
  · exact Nat.le_trans (GL a.y b.y) Z
theorem IP (a b:Pt):Sz (E_ a b)<=2*B_ a+2*B_ b+1:=by
  have h1:=Ez a;have h2:=E1 a;have h3:=Ez b;have h4:=E1 b
  have h5:=EK a.x b.y;have h6:=EK a.y b.x
  exact Nat.le_trans (GL _ _) Z
theorem Dl (a b c:Pt):Sz (AX a b c)<=4*B_ a+2*B_ b+2*B_ c+5:=by
  have h1:=FH b a;have h2:=FH c a
  exact Nat.le_trans (IP _ _) Z
theorem Rc:Sz (1/2:Rat)<=1:=by decide +kernel
theorem YK:((1:Int):Rat)/((2:Int):Rat)=1/2:=by decide +kernel
theorem Ht {z:Int} (h1:-9223372036854775808<=z) (h2:z<9223372036854775808):Sz ((z:Int):Rat)<=2:=Y8 (IB (by show z.natAbs<_;omega)) (by show nw 1<=2;rw [Ij];omega)
theorem Xh (a b:Pt):Am (a-b)=AO (a.x-b.x)++AO (a.y-b.y):=rfl
theorem Zn (x y:Rat):Am ⟨x,y⟩=AO x++AO y:=rfl
section
variable {P:Program} {Q:Exit->Act->World->Prop} {n:Nat} {F:List (Nat×Value)} {w0:BJ} {L:List As} {c:Code}
def FP (P:Program) (c:Code) (Q:Exit->Act->World->Prop) (k n:Nat) (F:List (Nat×Value)) (w0:BJ) (L:List As):Prop:=∀a w,C6 n a F->BN w0 w L->Code.rounds P c Q k a w
theorem AF.unroll (k:Nat) (h:FP P c Q k n F w0 L):AF P (.loop c) Q n F w0 L:=λa w ha hw=>wp_loop_rounds k (h a w ha hw)
theorem FP.step {k:Nat} (h:AF P c (Exit.then (Code.rounds P c Q k) Q) n F w0 L):FP P c Q (k+1) n F w0 L:=λa w ha hw=>by
  rw [rounds_succ];exact h a w ha hw
theorem AC.again {k:Nat} (h:FP P c Q k n F w0 L):AC (Exit.then (Code.rounds P c Q k) Q) .normal n F w0 L:=h
end
end
end Go.Proofs.YtpgncndhhhllfaaGreatDoor
