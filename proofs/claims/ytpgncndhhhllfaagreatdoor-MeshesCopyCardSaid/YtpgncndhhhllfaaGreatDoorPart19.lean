import Derived.Test.YtpgncndhhhllfaaGreatDoorPart06
import Derived.Test.YtpgncndhhhllfaaGreatDoorPart15
import Derived.Test.YtpgncndhhhllfaaGreatDoorPart18
namespace Go.Proofs.YtpgncndhhhllfaaGreatDoor
open Go Go.RowKit Go.Proofs.Tryz
set_option linter.unusedVariables false
set_option linter.unusedSimpArgs false
def Sz (q:Rat):Nat:=max (nw q.num.natAbs) (nw q.den)
theorem Cj (q:Rat):nw q.num.natAbs<=Sz q:=Nat.le_max_left ..
theorem CP (q:Rat):nw q.den<=Sz q:=Nat.le_max_right ..
theorem F7 (q:Rat):nw (q.den-1)<=Sz q:=Nat.le_trans (CY (Nat.sub_le _ _)) (CP q)
theorem Ut {q:Rat} {k:Nat} (h1:nw q.num.natAbs<=k) (h2:nw q.den<=k):Sz q<=k:=Nat.max_le.2 ⟨h1,h2⟩
theorem HW:nw 1=1:=by decide
theorem N1 (q:Rat):1<=Sz q:=Nat.le_trans (by rw [<-HW];exact CY q.den_pos) (CP q)
theorem I5 {n:Int} {d k:Nat} (h1:nw n.natAbs<=k) (h2:nw d<=k) (hk:1<=k):Sz (mkRat n d)<=k:=by
  refine Ut ?_ ?_
  · rw [Rat.num_mkRat]
    split
    · exact Nat.zero_le _
    · refine Nat.le_trans (CY ?_) h1
      rw [Int.natAbs_ediv_of_dvd (by rw [Int.ofNat_dvd_left];exact Nat.gcd_dvd_right ..)]
      exact Nat.div_le_self _ _
  · rw [Rat.den_mkRat]
    split
    · rw [HW];exact hk
    · exact Nat.le_trans (CY (Nat.div_le_self _ _)) h2
theorem OZ (a b:Int):nw (a*b).natAbs<=nw a.natAbs+nw b.natAbs:=by rw [Int.natAbs_mul];exact Ss _ _
theorem DZ (a b:Int):nw (a+b).natAbs<=max (nw a.natAbs) (nw b.natAbs)+1:=Nat.le_trans (CY (Int.natAbs_add_le a b)) (VG _ _)
theorem CH (a b:Rat):nw (a.num*((b.den:Nat):Int)).natAbs<=Sz a+Sz b:=by
  have h1:=OZ a.num ((b.den:Nat):Int)
  have h2:=Cj a
  have h3:=CP b
  rw [Int.natAbs_natCast] at h1
  omega
theorem Fs (a b:Rat):nw (a.den*b.den)<=Sz a+Sz b:=by
  have h1:=Ss a.den b.den
  have h2:=CP a
  have h3:=CP b
  omega
theorem Gb (a b:Rat):nw (a.num*b.num).natAbs<=Sz a+Sz b:=by
  have h1:=OZ a.num b.num
  have h2:=Cj a
  have h3:=Cj b
  omega
theorem KN (a b:Rat):mkRat (a.num*((b.den:Nat):Int)+b.num*((a.den:Nat):Int)) (a.den*b.den)=a+b:=by rw [Rat.add_def,Rat.normalize_eq_mkRat]
theorem Hs (a b:Rat):mkRat (a.num*b.num) (a.den*b.den)=a*b:=by rw [Rat.mul_def,Rat.normalize_eq_mkRat]
theorem G9 {a:Rat} (h:a.den-1=0):a=((a.num:Int):Rat):=by
  have h1:a.den=1:=by have:=a.den_pos;omega
  exact Rat.ext rfl h1
theorem QJ {a b:Rat} (ha:a.den-1=0) (hb:b.den-1=0):((a.num+b.num:Int):Rat)=a+b:=by
  rw [Rat.intCast_add,<-G9 ha,<-G9 hb]
theorem Pc {a b:Rat} (ha:a.den-1=0) (hb:b.den-1=0):((a.num*b.num:Int):Rat)=a*b:=by
  rw [Rat.intCast_mul,<-G9 ha,<-G9 hb]
theorem Mn {a b:Rat} (h:a.den-1=b.den-1):a.den=b.den:=by
  have h1:=a.den_pos
  have h2:=b.den_pos
  omega
theorem S1 {a b:Rat} (h:a.den-1=b.den-1):mkRat (a.num+b.num) a.den=a+b:=by
  have h1:=Mn h
  have h2:a+b=mkRat a.num a.den+mkRat b.num a.den:=by rw [Rat.mkRat_self];conv=>lhs;rw [<-Rat.mkRat_self b,<-h1]
  rw [h2,Rat.mkRat_eq_div,Rat.mkRat_eq_div,Rat.mkRat_eq_div,Rat.intCast_add,Rat.div_def,Rat.div_def,Rat.div_def,Rat.add_mul]
theorem Kc (a b:Rat):Sz (a+b)<=Sz a+Sz b+1:=by
  rw [<-KN]
  have h1:=CH a b
  have h2:=CH b a
  have h3:=DZ (a.num*((b.den:Nat):Int)) (b.num*((a.den:Nat):Int))
  have h4:=Fs a b
  exact I5 (by omega) (by omega) (by omega)
theorem EJ (a b:Rat):Sz (a*b)<=Sz a+Sz b:=by
  rw [<-Hs]
  have:=N1 a
  exact I5 (Gb a b) (Fs a b) (by omega)
theorem D0 (a:Rat):Sz (-a)=Sz a:=by unfold Sz;rw [Rat.neg_num,Rat.neg_den,Int.natAbs_neg]
theorem HQ (a b:Rat):Sz (a-b)<=Sz a+Sz b+1:=by rw [Rat.sub_eq_add_neg,<-D0 b];exact Kc a (-b)
theorem Hj {b:Rat} (h:b≠0):mkRat (Dd (decide (b.num.sign<0)) b.den) b.num.natAbs=b⁻¹:=by
  have hn:b.num≠0:=λe=>h (Rat.num_eq_zero.1 e)
  have hb:b=(b.num:Rat)/((b.den:Nat):Rat):=by rw [<-Rat.mkRat_eq_div,Rat.mkRat_self]
  have hd:((b.den:Nat):Rat)≠0:=by
    intro e
    have:=b.den_pos
    have h2:b.den=0:=by exact_mod_cast e
    omega
  have hn2:((b.num:Int):Rat)≠0:=by
    intro e
    exact hn (by exact_mod_cast e)
  rw [Rat.mkRat_eq_div]
  conv=>rhs;rw [hb]
  by_cases hs:b.num<0
  · have e1:decide (b.num.sign<0)=true:=by simp [Int.sign_eq_neg_one_of_neg hs]
    have e2:((b.num.natAbs:Nat):Rat) = -((b.num:Int):Rat):=by
      have:((b.num.natAbs:Nat):Int) = -b.num:=by omega
      rw [<-Rat.intCast_natCast,this,Rat.intCast_neg]
    rw [e1,e2]
    simp only [Dd,if_true,Rat.intCast_neg,Rat.intCast_natCast]
    grind
  · have e1:decide (b.num.sign<0)=false:=by
      have:0<=b.num.sign:=Int.sign_nonneg_iff.2 (by omega)
      exact decide_eq_false (by omega)
    have e2:((b.num.natAbs:Nat):Rat)=((b.num:Int):Rat):=by
      have:((b.num.natAbs:Nat):Int)=b.num:=by omega
      rw [<-Rat.intCast_natCast,this]
    rw [e1,e2]
    simp only [Dd,Bool.false_eq_true,if_false,Rat.intCast_natCast]
    grind
theorem M6 {b:Rat} (h:b≠0):Sz b⁻¹<=Sz b:=by
  rw [<-Hj h]
  exact I5 (by rw [Aw];exact CP b) (Cj b) (N1 b)
theorem Hn {a b:Rat} (h:b≠0):Sz (a/b)<=Sz a+Sz b:=by
  rw [Rat.div_def]
  have h1:=EJ a b⁻¹
  have h2:=M6 h
  omega
def Ft (a b:Rat):Int:=if a<b then -1 else if a=b then 0 else 1
theorem JH (a b:Rat):(a.num*((b.den:Nat):Int)-b.num*((a.den:Nat):Int)).sign=Ft a b:=by
  have h1:=Rat.lt_iff a b
  have h2:=@Rat.eq_iff_mul_eq_mul a b
  unfold Ft
  split
  · rename_i h;exact Int.sign_eq_neg_one_of_neg (by have:=h1.1 h;omega)
  · rename_i h
    split
    · rename_i h';rw [h2.1 h'];simp
    · rename_i h'
      have h3:¬a.num*((b.den:Nat):Int)<b.num*((a.den:Nat):Int):=λe=>h (h1.2 e)
      have h4:¬a.num*((b.den:Nat):Int)=b.num*((a.den:Nat):Int):=λe=>h' (h2.2 e)
      exact Int.sign_eq_one_of_pos (by omega)
theorem Pq {a b:Rat} (h:a.den-1=b.den-1):(a.num-b.num).sign=Ft a b:=by
  rw [<-JH,<-Mn h,<-Int.sub_mul,Int.sign_mul]
  have:=a.den_pos
  rw [show ((a.den:Nat):Int).sign=1 from Int.sign_eq_one_of_pos (by omega)]
  simp
theorem IU {a b:Rat}:Ft a b<0↔a<b:=by
  unfold Ft;split
  · simp [*]
  · split<;>simp [*]
theorem Ox {a b:Rat}:Ft a b=0↔a=b:=by
  unfold Ft;split
  · rename_i h
    constructor
    · intro e;cases e
    · intro e;subst e;exact absurd h (by simp)
  · split<;>simp [*]
theorem H_ (q:Rat):AN q=Az q.num++AY (q.den-1):=rfl
theorem ON {n:Int} {d:Nat} (hd:d≠0):(mkRat n d).num=Dd (decide (n.sign<0)) (n.natAbs/Nat.gcd n.natAbs d):=by
  rw [Rat.num_mkRat,if_neg hd,Nat.gcd_comm]
  unfold Dd
  by_cases h:n<0
  · rw [Int.sign_eq_neg_one_of_neg h]
    have e:n = -((n.natAbs:Nat):Int):=by omega
    simp only [show decide ((-1:Int)<0)=true from rfl,if_true]
    conv=>lhs;rw [e]
    rw [Int.natAbs_neg,Int.natAbs_natCast,Int.neg_ediv_of_dvd (by rw [Int.natCast_dvd_natCast];exact Nat.gcd_dvd_left ..)]
    rfl
  · have h0:0<=n.sign:=Int.sign_nonneg_iff.2 (by omega)
    have e:n=((n.natAbs:Nat):Int):=by omega
    rw [if_neg (by simp;omega)]
    conv=>lhs;rw [e]
    rw [Int.natAbs_natCast]
    rfl
theorem Oh {n:Int} {d:Nat} (hd:d≠0):(mkRat n d).den=d/Nat.gcd n.natAbs d:=by rw [Rat.den_mkRat,if_neg hd,Nat.gcd_comm]
section
set_option maxRecDepth 100000
theorem C7 (x0:Int) (x1:Nat):Instr.fill ([(0,3),(3,2)].toArray[·]?) (AN (0:Rat)).toArray [(0,.agg (Az x0).toArray),(1,.agg (AY x1).toArray)]=some (Az x0++AY x1).toArray:=by kernel_rfl
theorem GC (n:Int) (d:Nat) (hn:nw n.natAbs<=1099511627776) (hd:nw d<=1099511627776) (hd0:d≠0) (w:World)  :Calls Tryz.prog 56 #[(aG (Az n)),(aG (AY d))] w (Al w (aG (AN (mkRat n d)))):=by
 have hg:Nat.gcd n.natAbs d≠0:=λh=>hd0 (Nat.eq_zero_of_gcd_eq_zero_right h)
 have hgw:nw (Nat.gcd n.natAbs d)<=nw d:=CY (Nat.gcd_le_right _ (Nat.pos_of_ne_zero hd0))
 have hqw:nw (d/Nat.gcd n.natAbs d)<=nw d:=CY (Nat.div_le_self _ _)
 have h1w:=HW
 refine Aa (args:=[(aG (Az n)),(aG (AY d))]) Tryz.func56 rfl rfl (AV rfl) (AE.subF (sL [0,1] rfl) (q4 (BU (cs:=Az n) rfl λb1=>BU (cs:=AY d) rfl λb2=>al Dr rfl λb3=>?_)))
 refine q6 (sL [2,3,4] rfl) (rN [(0,true),(2,true),(1,false),(3,false)] [⟨4,5,42,AY 0⟩] [(5,false)] sr (by kernel_rfl) (λ_ _ d _ _ h=>by cases d<;>exact h) (Fc rfl rfl E9 rfl (Ht)) rfl (HO 2 Ci rfl (HO 1 Br rfl (Bz.imp rfl λEF EL=>ck' Tryz.call101 (K1 n) rfl ?_))))
 refine Bz.back0 sr rfl (Bz.imp rfl λEF EL=>ck' Tryz.call100 (Vy n.natAbs d (by omega) (by omega)) rfl (Bz.back0 sr rfl (Bz.news1 λb4=>OkE.imp rfl ?_)))
 refine A8 rfl Tryz.sizeOf42 rfl (OkE.back (sl sr) (OkE.nil (AC.subF (sL [2,3,4,5] rfl) (q1 (rN [(0,true),(2,true),(1,false),(3,false),(4,true),(5,true),(6,true),(7,true)] [⟨8,6,42,AY 0⟩,⟨9,7,42,AY 0⟩] [(10,false),(11,false),(12,true)] sr (by kernel_rfl) (λ_ _ d _ _ h=>by cases d<;>exact h) (Fc rfl rfl E9 rfl (Fc rfl rfl E9 rfl (Ht))) rfl ?_)))))
 refine HO 3 Ci rfl (HO 0 Br rfl (Bz.imp rfl λEF EL=>ck' Tryz.call101 (K1 n) rfl (Bz.back0 sr rfl (Bz.imp rfl λEF EL=>?_))))
 refine ck' Tryz.call102 (ND n.natAbs (Nat.gcd n.natAbs d) (by omega) (by omega) (by omega)) rfl (Bz.back0 sr rfl (NH rfl (F8 rfl (AZ (v:=(aG (AY (n.natAbs/(Nat.gcd n.natAbs d))))) rfl rfl) rfl (F8 rfl (AZ (v:=(aG (AY (n.natAbs%(Nat.gcd n.natAbs d))))) rfl rfl) rfl (F8 rfl (AZ (v:=(Value.bool true)) rfl rfl) rfl ?_)))))
 refine Bz.news2 λb5 b6=>OkE.imp rfl (A8 rfl Tryz.sizeOf42 rfl (OkE.back (sl (sl sr)) (OkE.imp rfl (C6 rfl Tryz.sizeOf42 rfl ?_))))
 refine OkE.back (sl (sl sr)) (pS' rfl (OkE.nil (AC.subF (sL [2,3,4,5,6] rfl) (q2 (BG 4 Br rfl ?_)))))
 refine BG 2 Br rfl (ck' Tryz.call102 (ND d (Nat.gcd n.natAbs d) (by omega) (by omega) (by omega)) rfl (AQ rfl (AK (AZ (v:=(aG (AY (d/(Nat.gcd n.natAbs d))))) rfl rfl) rfl (AK (AZ (v:=(aG (AY (d%(Nat.gcd n.natAbs d))))) rfl rfl) rfl (AK (AZ (v:=(Value.bool true)) rfl rfl) rfl ?_)))))
 refine al E9 rfl λb7=>al E9 rfl λb8=>C6 rfl Tryz.sizeOf42 rfl (A8 rfl Tryz.sizeOf42 rfl (asg' rfl (q6 (sL [2,3,4,5,6,9] rfl) ?_)))
 refine rC [(0,true),(1,false),(2,false),(3,true),(4,true),(5,true)] 6 [] sr (sk (sl sr)) (by kernel_rfl) (λ_ _ d _ _ h=>by cases d<;>exact h) (vE (v:=(aG (AY (d/(Nat.gcd n.natAbs d))))) rfl (Ak (i:=1) (vs:=AY (d/(Nat.gcd n.natAbs d))) rfl rfl Br.a Br.s rfl rfl) rfl (CZ.imp rfl (ck' Tryz.call104 (IV 1 (by omega)) rfl (CZ.back sr (CZ.imp rfl ?_)))))
 refine ck' Tryz.call103 (NP (d/(Nat.gcd n.natAbs d)) 1 (by omega) (by omega)) rfl (CZ.back sr (vM rfl rfl rfl (vE rfl (AZ (v:=(aG (AY ((d/(Nat.gcd n.natAbs d))-1)))) rfl rfl) rfl (vE rfl (AZ (v:=(Value.bool (decide (1<=d/(Nat.gcd n.natAbs d))))) rfl rfl) rfl (CZ.cut rfl ?_)))))
 refine C6 rfl Tryz.sizeOf42 rfl (OkE.back (sk (sl sr)) (OkE.nil (AC.subF (sL [2,3,4,5,6,9] rfl) (q1 (CS [(0,true),(3,true),(5,true),(1,false),(2,true),(4,false),(6,true),(7,false)] (sk (sk (sk (sk (sk (sl sr)))))) ?_)))))
 refine Df 6 Ci rfl (Df 2 Br rfl (Df 1 Br rfl (OkE.imp rfl (ck' Tryz.call106 (JG n) rfl (OkE.back (sk (sk (sk (sk (sk (sl sr)))))) ?_)))))
 refine Ap rfl (Ai (c:=(decide (n.sign<(0:Int)))) rfl rfl rfl) (OkE.imp rfl (ck' Tryz.call105 (Dp (decide (n.sign<(0:Int))) (n.natAbs/(Nat.gcd n.natAbs d))) rfl (OkE.back (sk (sk (sk (sk (sk (sl sr)))))) (Ap (v:=(aG (Az (Dd (decide (n.sign<(0:Int))) (n.natAbs/(Nat.gcd n.natAbs d)))++AY ((d/(Nat.gcd n.natAbs d))-1)))) rfl (AU (zs:=AN (0:Rat)) (vs:=Az (Dd (decide (n.sign<(0:Int))) (n.natAbs/(Nat.gcd n.natAbs d)))++AY ((d/(Nat.gcd n.natAbs d))-1)) (pv:=[(0,(aG (Az (Dd (decide (n.sign<(0:Int))) (n.natAbs/(Nat.gcd n.natAbs d)))))),(1,(aG (AY ((d/(Nat.gcd n.natAbs d))-1))))]) (places:=[(0,3),(3,2)]) Tryz.zeroValue48 Tryz.underlying48 (λw=>by simp [Tryz.sizeOf42,Tryz.sizeOf46]) rfl (C7 (Dd (decide (n.sign<(0:Int))) (n.natAbs/(Nat.gcd n.natAbs d))) ((d/(Nat.gcd n.natAbs d))-1))) (OkE.imp rfl ?_)))))
 exact Hp 5 (off:=0) (vs:=Az (Dd (decide (n.sign<(0:Int))) (n.natAbs/(Nat.gcd n.natAbs d)))++AY ((d/(Nat.gcd n.natAbs d))-1)) (cs':=Az (Dd (decide (n.sign<(0:Int))) (n.natAbs/(Nat.gcd n.natAbs d)))++AY ((d/(Nat.gcd n.natAbs d))-1)) (AW rfl) rfl Tryz.sizeOf48 rfl (OkE.back (sk (sk (sk (sk (sk (sl sr)))))) (OkE.nil (AC.subF (sL [2,3,4,5,6,9] rfl) (AC.then_ (AE.ret (AJ rfl (Au (i:=5) (cs:=Az (Dd (decide (n.sign<(0:Int))) (n.natAbs/(Nat.gcd n.natAbs d)))++AY ((d/(Nat.gcd n.natAbs d))-1)) rfl rfl Tryz.isAgg48 Tryz.sizeOf48 rfl) (λw hw=>⟨by rw [H_,ON hd0,Oh hd0],hw.out⟩)))))))
theorem Ga (x0:Int):Instr.fill ([(0,3),(3,2)].toArray[·]?) (AN (0:Rat)).toArray [(0,.agg (Az x0).toArray)]=some (Az x0++AY ((0:Rat).den-1)).toArray:=by kernel_rfl
theorem Im (n:Int) (w:World)  :Calls Tryz.prog 54 #[(aG (Az n))] w (Al w (aG (AN ((n:Int):Rat)))):=by
 refine Aa (args:=[(aG (Az n))]) Tryz.func54 rfl rfl (AV rfl) (AE.subF (sL [0] rfl) (q4 (BU (cs:=Az n) rfl λb1=>al Dr rfl λb2=>q3 (sL [1,2] rfl) ?_)))
 refine BG 1 Ci rfl (AK (v:=(aG (Az n++AY ((0:Rat).den-1)))) (AU (zs:=AN (0:Rat)) (vs:=Az n++AY ((0:Rat).den-1)) (pv:=[(0,(aG (Az n)))]) (places:=[(0,3),(3,2)]) Tryz.zeroValue48 Tryz.underlying48 (λw=>by simp [Tryz.sizeOf42,Tryz.sizeOf46]) rfl (Ga n)) rfl (A8 rfl Tryz.sizeOf48 rfl (AD.nil (AC.subF (sL [2] rfl) (AC.then_ ?_)))))
 exact AE.ret (AJ rfl (Au (i:=0) (cs:=Az n++AY ((0:Rat).den-1)) rfl rfl Tryz.isAgg48 Tryz.sizeOf48 rfl) (λw hw=>⟨rfl,hw.out⟩))
theorem Jb  :Instr.fill ([(0,1),(1,1)].toArray[·]?) (AY 0).toArray []=some (AY 0).toArray:=by kernel_rfl
theorem E6 (a:Rat) (w:World)  :Calls Tryz.prog 53 #[(aG (AN a))] w (Al w (Value.bool (decide (a.den-1=0)))):=by
 refine Aa (args:=[(aG (AN a))]) Tryz.func53 rfl rfl (AV rfl) (AE.subF (sL [0] rfl) (q4 (BU (cs:=AN a) rfl λb1=>asg' rfl (q3 (sL [1,2] rfl) ?_))))
 refine AK (v:=(pP b1 3)) (AA rfl Tryz.underlying48 rfl Tryz.sizeOf42 rfl) rfl (Cf 0 (AY (a.den-1)) Br rfl (AK (v:=(aG (AY 0))) (AU (zs:=AY 0) (vs:=AY 0) (pv:=[]) (places:=[(0,1),(1,1)]) Tryz.zeroValue42 Tryz.underlying42 (λw=>by simp [Tryz.sizeOf9,Tryz.sizeOf40]) rfl (Jb )) rfl (AK (B1 (c:=(decide (a.den-1=0))) rfl rfl Tryz.eqGuardType42 (GH 9998 (a.den-1) 0)) rfl (asg' rfl (AD.nil ?_)))))
 exact AC.subF (sL [2] rfl) (AC.then_ (AE.ret (AJ rfl (AS (v:=(Value.bool (decide (a.den-1=0)))) rfl) (λw hw=>⟨rfl,hw.out⟩))))
theorem den_ok (a:Rat) (ha:nw a.den<=1099511627776) (w:World)  :Calls Tryz.prog 57 #[(aG (AN a))] w (Al w (aG (AY a.den))):=by
 have h1w:=HW
 have h2w:=CY (Nat.sub_le a.den 1)
 refine Aa (args:=[(aG (AN a))]) Tryz.func57 rfl rfl (AV rfl) (AE.subF (sL [0] rfl) (q4 (BU (cs:=AN a) rfl λb1=>al E9 rfl λb2=>q6 (sL [1,2] rfl) ?_)))
 refine CS [(0,true),(1,true),(2,false),(3,false),(4,false)] (sl sr) (Ap (v:=(pP b1 3)) rfl (AA rfl Tryz.underlying48 rfl Tryz.sizeOf42 rfl) (GP 0 (AY (a.den-1)) Br rfl (OkE.imp rfl (ck' Tryz.call104 (IV 1 (by omega)) rfl (OkE.back (sl sr) ?_)))))
 refine OkE.imp rfl (ck' Tryz.call107 (Sa (a.den-1) 1 (by omega) (by omega)) rfl (OkE.back (sl sr) (OkE.imp rfl (A8 rfl Tryz.sizeOf42 rfl (OkE.back (sl sr) ?_)))))
 exact OkE.nil (AC.subF (sL [2] rfl) (AC.then_ (AE.ret (AJ rfl (Au (i:=0) (cs:=AY ((a.den-1)+1)) rfl rfl Tryz.isAgg42 Tryz.sizeOf42 rfl) (λw hw=>⟨by rw [Nat.sub_add_cancel a.den_pos],hw.out⟩)))))
theorem GA (a:Rat) (ha:nw a.den<=1099511627776) (w:World)  :Calls Tryz.prog 59 #[(aG (AN a))] w (Al w (aG (Az ((a.den:Nat):Int)))):=by
 refine Aa (args:=[(aG (AN a))]) Tryz.func59 rfl rfl (AV rfl) (AE.subF (sL [0] rfl) (q4 (BU (cs:=AN a) rfl λb1=>al IE rfl λb2=>q3 (sL [1,2] rfl) ?_)))
 refine BG 1 Bf rfl (ck' Tryz.call57 (den_ok a (by omega)) rfl (ck' Tryz.call105 (Dp false a.den) rfl (A8 rfl Tryz.sizeOf46 rfl (AD.nil (AC.subF (sL [2] rfl) ?_)))))
 exact AC.then_ (AE.ret (AJ rfl (Au (i:=0) (cs:=Az (Dd false a.den)) rfl rfl Tryz.isAgg46 Tryz.sizeOf46 rfl) (λw hw=>⟨rfl,hw.out⟩)))
theorem TS (a:Rat) (w:World)  :Calls Tryz.prog 271 #[(aG (AN a))] w (Al w (aG (AN (-a)))):=by
 refine Aa (args:=[(aG (AN a))]) Tryz.func271 rfl rfl (AV rfl) (AE.subF (sL [0] rfl) (q4 (BU (cs:=AN a) rfl λb1=>al Dr rfl λb2=>q6 (sL [1,2] rfl) ?_)))
 refine CS [(0,true),(1,true),(3,true),(4,true),(2,false),(5,true),(6,false)] (sl sr) (Ap (v:=(pP b1 0)) rfl (AA rfl Tryz.underlying48 rfl Tryz.sizeOf46 rfl) (GP 0 (Az a.num) Ci rfl (Ap (v:=(pP b1 3)) rfl (AA rfl Tryz.underlying48 rfl Tryz.sizeOf42 rfl) (GP 0 (AY (a.den-1)) Br rfl (OkE.imp rfl ?_)))))
 refine ck' Tryz.call287 (Og a.num) rfl (OkE.back (sl sr) (Ap (v:=(aG (Az (-a.num)++AY (a.den-1)))) rfl (AU (zs:=AN (0:Rat)) (vs:=Az (-a.num)++AY (a.den-1)) (pv:=[(0,(aG (Az (-a.num)))),(1,(aG (AY (a.den-1))))]) (places:=[(0,3),(3,2)]) Tryz.zeroValue48 Tryz.underlying48 (λw=>by simp [Tryz.sizeOf42,Tryz.sizeOf46]) rfl (C7 (-a.num) (a.den-1))) (OkE.imp rfl (A8 rfl Tryz.sizeOf48 rfl (OkE.back (sl sr) ?_)))))
 exact OkE.nil (AC.subF (sL [2] rfl) (AC.then_ (AE.ret (AJ rfl (Au (i:=0) (cs:=Az (-a.num)++AY (a.den-1)) rfl rfl Tryz.isAgg48 Tryz.sizeOf48 rfl) (λw hw=>⟨by rw [H_,Rat.neg_num,Rat.neg_den],hw.out⟩)))))
theorem EI (a:Rat) (w:World)  :Calls Tryz.prog 179 #[(aG (AN a))] w (Al w (vI a.num.sign)):=by
 refine Aa (args:=[(aG (AN a))]) Tryz.func179 rfl rfl (AV rfl) (AE.subF (sL [0] rfl) (q4 (BU (cs:=AN a) rfl λb1=>asg' rfl (q3 (sL [1,2] rfl) ?_))))
 refine AK (v:=(pP b1 0)) (AA rfl Tryz.underlying48 rfl Tryz.sizeOf46 rfl) rfl (Cf 0 (Az a.num) Ci rfl (ck' Tryz.call106 (JG a.num) rfl (asg' rfl (AD.nil (AC.subF (sL [2] rfl) ?_)))))
 exact AC.then_ (AE.ret (AJ rfl (AS (v:=(vI a.num.sign)) rfl) (λw hw=>⟨rfl,hw.out⟩)))
theorem O6 (a b:Rat) (hs:Sz a+Sz b<=549755813888) (w:World)  :Calls Tryz.prog 184 #[(aG (AN a)),(aG (AN b))] w (Al w (vI (Ft a b))):=by
 have s1:=Cj a
 have s2:=CP a
 have s3:=Cj b
 have s4:=CP b
 have s5:=CH a b
 have s6:=CH b a
 have s7:=Fs a b
 have s8:=Gb a b
 have s9:=DZ a.num b.num
 have s10:=DZ (a.num*((b.den:Nat):Int)) (b.num*((a.den:Nat):Int))
 have hda:=a.den_nz
 have hdb:=b.den_nz
 have hdab:a.den*b.den≠0:=Nat.mul_ne_zero hda hdb
 refine Aa (args:=[(aG (AN a)),(aG (AN b))]) Tryz.func184 rfl rfl (AV rfl) (AE.subF (sL [0,1] rfl) (q4 (BU (cs:=AN a) rfl λb1=>BU (cs:=AN b) rfl λb2=>asg' rfl ?_)))
 refine q6 (sL [2,3,4] rfl) (q4 (AK (v:=(pP b1 3)) (AA rfl Tryz.underlying48 rfl Tryz.sizeOf42 rfl) rfl (Cf 1 (AY (a.den-1)) Br rfl (AK (v:=(pP b2 3)) (AA rfl Tryz.underlying48 rfl Tryz.sizeOf42 rfl) rfl (Cf 0 (AY (b.den-1)) Br rfl ?_)))))
 refine AK (B1 (c:=(decide (a.den-1=b.den-1))) rfl rfl Tryz.eqGuardType42 (GH 9998 (a.den-1) (b.den-1))) rfl (AD.nil (AC.subF (sL [2,3,4,9] rfl) (AC.then_ ?_)))
 refine AE.cond rfl (λhc0=>?_) (λhc0=>?_)
 ·replace hc0:=of_decide_eq_true hc0
  have he:=Pq hc0
  refine q4 (AK (v:=(pP b1 0)) (AA rfl Tryz.underlying48 rfl Tryz.sizeOf46 rfl) rfl (Cf 1 (Az a.num) Ci rfl (AK (v:=(pP b2 0)) (AA rfl Tryz.underlying48 rfl Tryz.sizeOf46 rfl) rfl (Cf 0 (Az b.num) Ci rfl (ck' Tryz.call242 (Oi a.num b.num (by first|omega|(simp only [Int.natAbs_neg,Aw,Int.natAbs_natCast];omega)) (by first|omega|(simp only [Int.natAbs_neg,Aw,Int.natAbs_natCast];omega))) rfl ?_)))))
  exact asg' rfl (AD.nil (AC.subF (sL [2,3,4] rfl) (AC.then_ (AE.ret (AC.then_ret (AJ rfl (AS (v:=(vI ((a.num-b.num).sign))) rfl) (λw hw=>⟨by rw [he],hw.out⟩)))))))
 ·replace hc0:=of_decide_eq_false hc0
  have he:=JH a b
  refine AE.skip (q1 (CS [(0,true),(1,true),(2,true),(5,true),(6,true),(7,true),(3,false),(4,false),(8,false),(9,false),(10,false),(11,true)] sr (Ap (v:=(pP b1 0)) rfl (AA rfl Tryz.underlying48 rfl Tryz.sizeOf46 rfl) (GP 1 (Az a.num) Ci rfl (Df 0 Bf rfl ?_)))))
  refine Ap (v:=(pP b2 0)) rfl (AA rfl Tryz.underlying48 rfl Tryz.sizeOf46 rfl) (GP 0 (Az b.num) Ci rfl (Df 1 Bf rfl (OkE.imp rfl (ck' Tryz.call59 (GA b (by omega)) rfl (OkE.back sr ?_)))))
  refine OkE.imp rfl (ck' Tryz.call58 (F_ a.num ((b.den:Nat):Int) (by first|omega|(simp only [Int.natAbs_neg,Aw,Int.natAbs_natCast];omega)) (by first|omega|(simp only [Int.natAbs_neg,Aw,Int.natAbs_natCast];omega))) rfl (OkE.back sr (OkE.imp rfl (ck' Tryz.call59 (GA a (by omega)) rfl (OkE.back sr ?_)))))
  refine OkE.imp rfl (ck' Tryz.call58 (F_ b.num ((a.den:Nat):Int) (by first|omega|(simp only [Int.natAbs_neg,Aw,Int.natAbs_natCast];omega)) (by first|omega|(simp only [Int.natAbs_neg,Aw,Int.natAbs_natCast];omega))) rfl (OkE.back sr (OkE.imp rfl (ck' Tryz.call242 (Oi (a.num*((b.den:Nat):Int)) (b.num*((a.den:Nat):Int)) (by first|omega|(simp only [Int.natAbs_neg,Aw,Int.natAbs_natCast];omega)) (by first|omega|(simp only [Int.natAbs_neg,Aw,Int.natAbs_natCast];omega))) rfl (OkE.back sr ?_)))))
  exact pS' rfl (OkE.nil (AC.subF (sL [2,3,4] rfl) (AC.then_ (AE.ret (AJ rfl (AS (v:=(vI (((a.num*((b.den:Nat):Int))-(b.num*((a.den:Nat):Int))).sign))) rfl) (λw hw=>⟨by rw [he],hw.out⟩))))))
theorem Kb (a b:Rat) (hs:Sz a+Sz b<=549755813888) (w:World)  :Calls Tryz.prog 14 #[(aG (AN a)),(aG (AN b))] w (Al w (aG (AN (a+b)))):=by
 have s1:=Cj a
 have s2:=CP a
 have s3:=Cj b
 have s4:=CP b
 have s5:=CH a b
 have s6:=CH b a
 have s7:=Fs a b
 have s8:=Gb a b
 have s9:=DZ a.num b.num
 have s10:=DZ (a.num*((b.den:Nat):Int)) (b.num*((a.den:Nat):Int))
 have hda:=a.den_nz
 have hdb:=b.den_nz
 have hdab:a.den*b.den≠0:=Nat.mul_ne_zero hda hdb
 refine Aa (args:=[(aG (AN a)),(aG (AN b))]) Tryz.func14 rfl rfl (AV rfl) (AE.subF (sL [0,1] rfl) (q4 (BU (cs:=AN a) rfl λb1=>BU (cs:=AN b) rfl λb2=>al Dr rfl λb3=>?_)))
 refine q6 (sL [2,3,4] rfl) (AE.block (q4 (BG 2 Bf rfl (ck' Tryz.call53 (E6 a) rfl (AQ rfl ?_)))))
 refine AD.mid (FM:=[(2,(pP b1 0)),(3,(pP b2 0)),(4,(pP b3 0)),(6,(aG (AN a))),(7,(Value.bool (decide (a.den-1=0)))),(8,(Value.bool (decide (a.den-1=0)))),(11,(Value.bool ((decide (a.den-1=0))&&(decide (b.den-1=0)))))]) (LM:=[Ad b3 48 (AN (0:Rat)),Ad b2 48 (AN b),Ad b1 48 (AN a)]) 3 ?_ ?_
 ·rcases Bool.eq_false_or_eq_true (decide (a.den-1=0)) with hg1|hg1
  ·skip
   refine AD.retell (k:=8) (u:=Value.bool true) rfl (by rw [hg1]) ?_
   have hg1':=hg1
   replace hg1':=of_decide_eq_true hg1'
   exact AD.step (v:=(aG (AN b))) (AB rfl) (Ak (i:=1) (vs:=AN b) rfl rfl Bf.a Bf.s rfl rfl) rfl (AV rfl) (AD.call (v:=(Value.bool (decide (b.den-1=0)))) (AB rfl) (An (args:=[(aG (AN b))]) rfl rfl Tryz.call53) (λw hw=>E6 b w) rfl (AV rfl) (AK (v:=(Value.bool (decide (b.den-1=0)))) (AX rfl rfl) rfl (AD.nil (AC.mid (sS rfl (sS rfl (sS rfl (sS rfl (sS rfl (sS (by first|rfl|(rw [hg1];rfl)|rw [hg1]) (sS (by first|rfl|(rw [hg1];rfl)|rw [hg1]) (sN)))))))) (List.Sublist.refl _)))))
  ·skip
   refine AD.retell (k:=8) (u:=Value.bool false) rfl (by rw [hg1]) ?_
   have hg1':=hg1
   replace hg1':=of_decide_eq_false hg1'
   exact AD.skip (AH rfl) rfl (AV rfl) (AD.skip (AH rfl) rfl (AV rfl) (AK (v:=(Value.bool false)) (AR rfl rfl) rfl (AD.nil (AC.mid (sS rfl (sS rfl (sS rfl (sS rfl (sS rfl (sS (by first|rfl|(rw [hg1];rfl)|rw [hg1]) (sS (by first|rfl|(rw [hg1];rfl)|rw [hg1]) (sN)))))))) (List.Sublist.refl _)))))
 refine asg' rfl (AD.nil (AC.subF (sL [2,3,4,5] rfl) (AC.then_ ?_)))
 refine AE.cond rfl (λhc0=>?_) (λhc0=>?_)
 ·simp only [Bool.and_eq_true,Bool.or_eq_true,Bool.and_eq_false_iff,Bool.or_eq_false_iff,Bool.not_eq_true',Bool.not_eq_false',decide_eq_true_eq,decide_eq_false_iff_not] at hc0
  have he:=QJ hc0.1 hc0.2
  refine q4 (AK (v:=(pP b1 0)) (AA rfl Tryz.underlying48 rfl Tryz.sizeOf46 rfl) rfl (Cf 2 (Az a.num) Ci rfl (AK (v:=(pP b2 0)) (AA rfl Tryz.underlying48 rfl Tryz.sizeOf46 rfl) rfl (Cf 1 (Az b.num) Ci rfl (ck' Tryz.call55 (LD a.num b.num (by first|omega|(simp only [Int.natAbs_neg,Aw,Int.natAbs_natCast];omega)) (by first|omega|(simp only [Int.natAbs_neg,Aw,Int.natAbs_natCast];omega))) rfl ?_)))))
  refine ck' Tryz.call54 (Im (a.num+b.num)) rfl (A8 rfl Tryz.sizeOf48 rfl (AD.nil (AC.subF (sL [2,3,4] rfl) (AC.then_ (AE.ret ?_)))))
  exact AC.in_ret (AC.then_ret (AJ rfl (Au (i:=0) (cs:=AN ((a.num+b.num:Int):Rat)) rfl rfl Tryz.isAgg48 Tryz.sizeOf48 rfl) (λw hw=>⟨by rw [he],hw.out⟩)))
 ·simp only [Bool.and_eq_true,Bool.or_eq_true,Bool.and_eq_false_iff,Bool.or_eq_false_iff,Bool.not_eq_true',Bool.not_eq_false',decide_eq_true_eq,decide_eq_false_iff_not] at hc0
  have he:=KN a b
  refine q4 (AK (v:=(pP b1 3)) (AA rfl Tryz.underlying48 rfl Tryz.sizeOf42 rfl) rfl (Cf 2 (AY (a.den-1)) Br rfl (AK (v:=(pP b2 3)) (AA rfl Tryz.underlying48 rfl Tryz.sizeOf42 rfl) rfl (Cf 1 (AY (b.den-1)) Br rfl (AK (B1 (c:=(decide (a.den-1=b.den-1))) rfl rfl Tryz.eqGuardType42 (GH 9998 (a.den-1) (b.den-1))) rfl ?_)))))
  refine asg' rfl (AD.nil (AC.subF (sL [2,3,4,18] rfl) (AC.then_ ?_)))
  refine AE.cond rfl (λhc1=>?_) (λhc1=>?_)
  ·replace hc1:=of_decide_eq_true hc1
   have he:=S1 hc1
   refine AE.seq (CS [(0,true),(1,true),(2,true),(3,true),(5,true),(4,false),(6,false),(7,false),(8,false)] (sl sr) (Ap (v:=(pP b1 0)) rfl (AA rfl Tryz.underlying48 rfl Tryz.sizeOf46 rfl) (GP 1 (Az a.num) Ci rfl (Ap (v:=(pP b2 0)) rfl (AA rfl Tryz.underlying48 rfl Tryz.sizeOf46 rfl) (GP 0 (Az b.num) Ci rfl ?_)))))
   refine Df 1 Bf rfl (OkE.imp rfl (ck' Tryz.call55 (LD a.num b.num (by first|omega|(simp only [Int.natAbs_neg,Aw,Int.natAbs_natCast];omega)) (by first|omega|(simp only [Int.natAbs_neg,Aw,Int.natAbs_natCast];omega))) rfl (OkE.back (sl sr) (OkE.imp rfl (ck' Tryz.call57 (den_ok a (by omega)) rfl ?_)))))
   refine OkE.back (sl sr) (OkE.imp rfl (ck' Tryz.call56 (GC (a.num+b.num) a.den (by omega) (by omega) (by first|omega|assumption)) rfl (OkE.back (sl sr) (OkE.imp rfl (A8 rfl Tryz.sizeOf48 rfl ?_)))))
   refine OkE.back (sl sr) (OkE.nil (AC.subF (sL [2,3,4] rfl) (AC.then_ (AE.ret (AC.in_ret ?_)))))
   exact AC.then_ret (AJ rfl (Au (i:=0) (cs:=AN (mkRat (a.num+b.num) a.den)) rfl rfl Tryz.isAgg48 Tryz.sizeOf48 rfl) (λw hw=>⟨by rw [he],hw.out⟩))
  ·replace hc1:=of_decide_eq_false hc1
   refine AE.skip (AC.in_normal (q1 (CS [(0,true),(1,true),(2,true),(5,true),(6,true),(7,true),(11,true),(13,true),(3,false),(4,false),(8,false),(9,false),(10,false),(12,false),(14,false),(15,false),(16,false),(17,false)] (sl sr) (Ap (v:=(pP b1 0)) rfl (AA rfl Tryz.underlying48 rfl Tryz.sizeOf46 rfl) (GP 1 (Az a.num) Ci rfl ?_)))))
   refine Df 0 Bf rfl (Ap (v:=(pP b2 0)) rfl (AA rfl Tryz.underlying48 rfl Tryz.sizeOf46 rfl) (GP 0 (Az b.num) Ci rfl (Df 1 Bf rfl (Df 1 Bf rfl (Df 0 Bf rfl ?_)))))
   refine OkE.imp rfl (ck' Tryz.call59 (GA b (by omega)) rfl (OkE.back (sl sr) (OkE.imp rfl (ck' Tryz.call58 (F_ a.num ((b.den:Nat):Int) (by first|omega|(simp only [Int.natAbs_neg,Aw,Int.natAbs_natCast];omega)) (by first|omega|(simp only [Int.natAbs_neg,Aw,Int.natAbs_natCast];omega))) rfl (OkE.back (sl sr) ?_)))))
   refine OkE.imp rfl (ck' Tryz.call59 (GA a (by omega)) rfl (OkE.back (sl sr) (OkE.imp rfl (ck' Tryz.call58 (F_ b.num ((a.den:Nat):Int) (by first|omega|(simp only [Int.natAbs_neg,Aw,Int.natAbs_natCast];omega)) (by first|omega|(simp only [Int.natAbs_neg,Aw,Int.natAbs_natCast];omega))) rfl (OkE.back (sl sr) ?_)))))
   refine OkE.imp rfl (ck' Tryz.call55 (LD (a.num*((b.den:Nat):Int)) (b.num*((a.den:Nat):Int)) (by first|omega|(simp only [Int.natAbs_neg,Aw,Int.natAbs_natCast];omega)) (by first|omega|(simp only [Int.natAbs_neg,Aw,Int.natAbs_natCast];omega))) rfl (OkE.back (sl sr) (OkE.imp rfl (ck' Tryz.call57 (den_ok a (by omega)) rfl (OkE.back (sl sr) ?_)))))
   refine OkE.imp rfl (ck' Tryz.call57 (den_ok b (by omega)) rfl (OkE.back (sl sr) (OkE.imp rfl (ck' Tryz.call60 (NJ a.den b.den (by omega) (by omega)) rfl (OkE.back (sl sr) ?_)))))
   refine OkE.imp rfl (ck' Tryz.call56 (GC ((a.num*((b.den:Nat):Int))+(b.num*((a.den:Nat):Int))) (a.den*b.den) (by omega) (by omega) (by first|omega|assumption)) rfl (OkE.back (sl sr) (OkE.imp rfl (A8 rfl Tryz.sizeOf48 rfl (OkE.back (sl sr) ?_)))))
   exact OkE.nil (AC.subF (sL [2,3,4] rfl) (AC.then_ (AE.ret (AJ rfl (Au (i:=0) (cs:=AN (mkRat ((a.num*((b.den:Nat):Int))+(b.num*((a.den:Nat):Int))) (a.den*b.den))) rfl rfl Tryz.isAgg48 Tryz.sizeOf48 rfl) (λw hw=>⟨by rw [he],hw.out⟩)))))
theorem LH (a b:Rat) (hs:Sz a+Sz b<=549755813888) (w:World)  :Calls Tryz.prog 233 #[(aG (AN a)),(aG (AN b))] w (Al w (aG (AN (a-b)))):=by
 refine Aa (args:=[(aG (AN a)),(aG (AN b))]) Tryz.func233 rfl rfl (AV rfl) (AE.subF (sL [0,1] rfl) (q4 (BU (cs:=AN a) rfl λb1=>BU (cs:=AN b) rfl λb2=>al Dr rfl λb3=>?_)))
 refine q6 (sL [2,3,4] rfl) (CS [(0,true),(1,true),(2,false),(3,false),(4,false)] (sl sr) (Df 1 Bf rfl (Df 0 Bf rfl (OkE.imp rfl (ck' Tryz.call271 (TS b) rfl ?_)))))
 refine OkE.back (sl sr) (OkE.imp rfl ?_)
 have hz1:=Kc a (-b)
 refine ck' Tryz.call14 (Kb a (-b) (by (try simp only [D0]);omega)) rfl (OkE.back (sl sr) (OkE.imp rfl (A8 rfl Tryz.sizeOf48 rfl (OkE.back (sl sr) (OkE.nil ?_)))))
 exact AC.subF (sL [4] rfl) (AC.then_ (AE.ret (AJ rfl (Au (i:=0) (cs:=AN (a+(-b))) rfl rfl Tryz.isAgg48 Tryz.sizeOf48 rfl) (λw hw=>⟨by rw [Rat.sub_eq_add_neg],hw.out⟩))))
theorem IL (a b:Rat) (hs:Sz a+Sz b<=549755813888) (w:World)  :Calls Tryz.prog 192 #[(aG (AN a)),(aG (AN b))] w (Al w (aG (AN (a*b)))):=by
 have s1:=Cj a
 have s2:=CP a
 have s3:=Cj b
 have s4:=CP b
 have s5:=CH a b
 have s6:=CH b a
 have s7:=Fs a b
 have s8:=Gb a b
 have s9:=DZ a.num b.num
 have s10:=DZ (a.num*((b.den:Nat):Int)) (b.num*((a.den:Nat):Int))
 have hda:=a.den_nz
 have hdb:=b.den_nz
 have hdab:a.den*b.den≠0:=Nat.mul_ne_zero hda hdb
 refine Aa (args:=[(aG (AN a)),(aG (AN b))]) Tryz.func192 rfl rfl (AV rfl) (AE.subF (sL [0,1] rfl) (q4 (BU (cs:=AN a) rfl λb1=>BU (cs:=AN b) rfl λb2=>al Dr rfl λb3=>?_)))
 refine q6 (sL [2,3,4] rfl) (q4 (BG 2 Bf rfl (ck' Tryz.call53 (E6 a) rfl (AQ rfl ?_))))
 refine AD.mid (FM:=[(2,(pP b1 0)),(3,(pP b2 0)),(4,(pP b3 0)),(5,(aG (AN a))),(6,(Value.bool (decide (a.den-1=0)))),(7,(Value.bool (decide (a.den-1=0)))),(10,(Value.bool ((decide (a.den-1=0))&&(decide (b.den-1=0)))))]) (LM:=[Ad b3 48 (AN (0:Rat)),Ad b2 48 (AN b),Ad b1 48 (AN a)]) 3 ?_ ?_
 ·rcases Bool.eq_false_or_eq_true (decide (a.den-1=0)) with hg1|hg1
  ·skip
   refine AD.retell (k:=7) (u:=Value.bool true) rfl (by rw [hg1]) ?_
   have hg1':=hg1
   replace hg1':=of_decide_eq_true hg1'
   exact AD.step (v:=(aG (AN b))) (AB rfl) (Ak (i:=1) (vs:=AN b) rfl rfl Bf.a Bf.s rfl rfl) rfl (AV rfl) (AD.call (v:=(Value.bool (decide (b.den-1=0)))) (AB rfl) (An (args:=[(aG (AN b))]) rfl rfl Tryz.call53) (λw hw=>E6 b w) rfl (AV rfl) (AK (v:=(Value.bool (decide (b.den-1=0)))) (AX rfl rfl) rfl (AD.nil (AC.mid (sS rfl (sS rfl (sS rfl (sS rfl (sS rfl (sS (by first|rfl|(rw [hg1];rfl)|rw [hg1]) (sS (by first|rfl|(rw [hg1];rfl)|rw [hg1]) (sN)))))))) (List.Sublist.refl _)))))
  ·skip
   refine AD.retell (k:=7) (u:=Value.bool false) rfl (by rw [hg1]) ?_
   have hg1':=hg1
   replace hg1':=of_decide_eq_false hg1'
   exact AD.skip (AH rfl) rfl (AV rfl) (AD.skip (AH rfl) rfl (AV rfl) (AK (v:=(Value.bool false)) (AR rfl rfl) rfl (AD.nil (AC.mid (sS rfl (sS rfl (sS rfl (sS rfl (sS rfl (sS (by first|rfl|(rw [hg1];rfl)|rw [hg1]) (sS (by first|rfl|(rw [hg1];rfl)|rw [hg1]) (sN)))))))) (List.Sublist.refl _)))))
 refine AD.nil (AC.subF (sL [2,3,4,10] rfl) (AC.then_ ?_))
 refine AE.cond rfl (λhc0=>?_) (λhc0=>?_)
 ·simp only [Bool.and_eq_true,Bool.or_eq_true,Bool.and_eq_false_iff,Bool.or_eq_false_iff,Bool.not_eq_true',Bool.not_eq_false',decide_eq_true_eq,decide_eq_false_iff_not] at hc0
  have he:=Pc hc0.1 hc0.2
  refine q4 (AK (v:=(pP b1 0)) (AA rfl Tryz.underlying48 rfl Tryz.sizeOf46 rfl) rfl (Cf 2 (Az a.num) Ci rfl (AK (v:=(pP b2 0)) (AA rfl Tryz.underlying48 rfl Tryz.sizeOf46 rfl) rfl (Cf 1 (Az b.num) Ci rfl (ck' Tryz.call58 (F_ a.num b.num (by first|omega|(simp only [Int.natAbs_neg,Aw,Int.natAbs_natCast];omega)) (by first|omega|(simp only [Int.natAbs_neg,Aw,Int.natAbs_natCast];omega))) rfl ?_)))))
  refine ck' Tryz.call54 (Im (a.num*b.num)) rfl (A8 rfl Tryz.sizeOf48 rfl (AD.nil (AC.subF (sL [2,3,4] rfl) (AC.then_ (AE.ret ?_)))))
  exact AC.then_ret (AJ rfl (Au (i:=0) (cs:=AN ((a.num*b.num:Int):Rat)) rfl rfl Tryz.isAgg48 Tryz.sizeOf48 rfl) (λw hw=>⟨by rw [he],hw.out⟩))
 ·simp only [Bool.and_eq_true,Bool.or_eq_true,Bool.and_eq_false_iff,Bool.or_eq_false_iff,Bool.not_eq_true',Bool.not_eq_false',decide_eq_true_eq,decide_eq_false_iff_not] at hc0
  have he:=Hs a b
  refine AE.skip (q1 (CS [(0,true),(1,true),(2,true),(3,true),(5,true),(7,true),(4,false),(6,false),(8,false),(9,false),(10,false),(11,false)] (sl sr) (Ap (v:=(pP b1 0)) rfl (AA rfl Tryz.underlying48 rfl Tryz.sizeOf46 rfl) (GP 1 (Az a.num) Ci rfl (Ap (v:=(pP b2 0)) rfl (AA rfl Tryz.underlying48 rfl Tryz.sizeOf46 rfl) ?_)))))
  refine GP 0 (Az b.num) Ci rfl (Df 1 Bf rfl (Df 0 Bf rfl (OkE.imp rfl (ck' Tryz.call58 (F_ a.num b.num (by first|omega|(simp only [Int.natAbs_neg,Aw,Int.natAbs_natCast];omega)) (by first|omega|(simp only [Int.natAbs_neg,Aw,Int.natAbs_natCast];omega))) rfl (OkE.back (sl sr) ?_)))))
  refine OkE.imp rfl (ck' Tryz.call57 (den_ok a (by omega)) rfl (OkE.back (sl sr) (OkE.imp rfl (ck' Tryz.call57 (den_ok b (by omega)) rfl (OkE.back (sl sr) ?_)))))
  refine OkE.imp rfl (ck' Tryz.call60 (NJ a.den b.den (by omega) (by omega)) rfl (OkE.back (sl sr) (OkE.imp rfl (ck' Tryz.call56 (GC (a.num*b.num) (a.den*b.den) (by omega) (by omega) (by first|omega|assumption)) rfl (OkE.back (sl sr) ?_)))))
  refine OkE.imp rfl (A8 rfl Tryz.sizeOf48 rfl (OkE.back (sl sr) (OkE.nil (AC.subF (sL [2,3,4] rfl) (AC.then_ ?_)))))
  exact AE.ret (AJ rfl (Au (i:=0) (cs:=AN (mkRat (a.num*b.num) (a.den*b.den))) rfl rfl Tryz.isAgg48 Tryz.sizeOf48 rfl) (λw hw=>⟨by rw [he],hw.out⟩))
theorem Ia (a b:Rat) (hs:Sz a+Sz b<=549755813888) (hb:b≠0) (w:World)  :Calls Tryz.prog 217 #[(aG (AN a)),(aG (AN b))] w (Al w (Value.tuple #[(aG (AN (a/b))),(vI 0)])):=by
 have s1:=Cj a
 have s2:=CP a
 have s3:=Cj b
 have s4:=CP b
 have s5:=CH a b
 have s6:=CH b a
 have s7:=Fs a b
 have s8:=Gb a b
 have s9:=DZ a.num b.num
 have s10:=DZ (a.num*((b.den:Nat):Int)) (b.num*((a.den:Nat):Int))
 have hda:=a.den_nz
 have hdb:=b.den_nz
 have hdab:a.den*b.den≠0:=Nat.mul_ne_zero hda hdb
 have hbn:b.num≠0:=λe=>hb (Rat.num_eq_zero.1 e)
 have hbs:b.num.sign≠0:=λe=>hbn (Int.sign_eq_zero_iff_zero.1 e)
 have hmi:nw (Dd (decide (b.num.sign<(0:Int))) b.den).natAbs=nw b.den:=by rw [Aw]
 have hinv:=Hj hb
 have hsi:=M6 hb
 rw [<-hinv] at hsi
 refine Aa (args:=[(aG (AN a)),(aG (AN b))]) Tryz.func217 rfl rfl (AV rfl) (AE.subF (sL [0,1] rfl) (q4 (BU (cs:=AN a) rfl λb1=>BU (cs:=AN b) rfl λb2=>al Dr rfl λb3=>?_)))
 refine asg' rfl (q6 (sL [2,3,4,5] rfl) (q4 (BG 1 Bf rfl (ck' Tryz.call179 (EI b) rfl (AK (BR (c:=(decide (b.num.sign=(0:Int)))) rfl rfl rfl) rfl ?_)))))
 refine AD.nil (AC.subF (sL [2,3,4,5,9] rfl) (AC.then_ ?_))
 refine AE.cond rfl (λhc0=>?_) (λhc0=>?_)
 ·replace hc0:=of_decide_eq_true hc0
  exact absurd hc0 hbs
 ·replace hc0:=of_decide_eq_false hc0
  refine AE.skip (q1 (rN [(0,true),(3,true),(6,true),(7,true),(1,false),(2,true),(4,false),(5,false),(8,false),(9,false)] [⟨10,6,48,AN (0:Rat)⟩] [(11,false)] sr (by kernel_rfl) (λ_ _ d _ _ h=>by cases d<;>exact h) (Fc rfl rfl Dr rfl (Ht)) rfl (HO 1 Bf rfl (HO 1 Bf rfl (F8 (v:=(pP b2 0)) rfl (AA rfl Tryz.underlying48 rfl Tryz.sizeOf46 rfl) rfl ?_)))))
  refine SR 1 (Az b.num) Ci rfl (Bz.imp rfl λEF EL=>ck' Tryz.call179 (EI b) rfl (Bz.back0 sr rfl (F8 rfl (Ai (c:=(decide (b.num.sign<(0:Int)))) rfl rfl rfl) rfl (Bz.imp rfl λEF EL=>?_))))
  refine ck' Tryz.call57 (den_ok b (by omega)) rfl (Bz.back0 sr rfl (Bz.imp rfl λEF EL=>ck' Tryz.call105 (Dp (decide (b.num.sign<(0:Int))) b.den) rfl (Bz.back0 sr rfl (Bz.imp rfl λEF EL=>?_))))
  refine ck' Tryz.call101 (K1 b.num) rfl (Bz.back0 sr rfl (Bz.imp rfl λEF EL=>ck' Tryz.call56 (GC (Dd (decide (b.num.sign<(0:Int))) b.den) b.num.natAbs (by omega) (by omega) (by first|omega|assumption)) rfl (Bz.back0 sr rfl (Bz.news1 λb4=>?_))))
  refine OkE.imp rfl (A8 rfl Tryz.sizeOf48 rfl (OkE.back (sl sr) (OkE.nil (AC.subF (sL [2,3,4,5,6] rfl) (q2 ?_)))))
  refine BG 3 Bf rfl (BG 0 Bf rfl ?_)
  have hz1:=EJ a (mkRat (Dd (decide (b.num.sign<(0:Int))) b.den) b.num.natAbs)
  refine ck' Tryz.call192 (IL a (mkRat (Dd (decide (b.num.sign<(0:Int))) b.den) b.num.natAbs) (by (try simp only [D0]);omega)) rfl (C6 rfl Tryz.sizeOf48 rfl (asg' rfl (AD.nil (AC.subF (sL [3,4,5,6] rfl) (AC.then_ ?_)))))
  exact AE.ret (CO rfl (Au (i:=1) (cs:=AN (a*(mkRat (Dd (decide (b.num.sign<(0:Int))) b.den) b.num.natAbs))) rfl rfl Tryz.isAgg48 Tryz.sizeOf48 rfl) (AS (v:=(vI 0)) rfl) (λw hw=>⟨by rw [hinv,Rat.div_def],hw.out⟩))
theorem Jg  :Instr.fill ([(0,3),(3,2)].toArray[·]?) (AN (0:Rat)).toArray []=some (AN (0:Rat)).toArray:=by kernel_rfl
theorem SI (a:Rat) (w:World)  :Calls Tryz.prog 217 #[(aG (AN a)),(aG (AN (0:Rat)))] w (Al w (Value.tuple #[(aG (AN (0:Rat))),(vI 5)])):=by
 refine Aa (args:=[(aG (AN a)),(aG (AN (0:Rat)))]) Tryz.func217 rfl rfl (AV rfl) (AE.subF (sL [0,1] rfl) (q4 (BU (cs:=AN a) rfl λb1=>BU (cs:=AN (0:Rat)) rfl λb2=>al Dr rfl λb3=>?_)))
 refine asg' rfl (q6 (sL [2,3,4,5] rfl) (q4 (BG 1 Bf rfl (ck' Tryz.call179 (EI (0:Rat)) rfl (AK (BR (c:=(decide (((0:Rat).num.sign)=(0:Int)))) rfl rfl rfl) rfl ?_)))))
 refine AD.nil (AC.subF (sL [2,3,4,5,9] rfl) (AC.then_ ?_))
 refine AE.cond rfl (λhc0=>?_) (λhc0=>?_)
 ·replace hc0:=of_decide_eq_true hc0
  refine q4 (AK (v:=(aG (AN (0:Rat)))) (AU (zs:=AN (0:Rat)) (vs:=AN (0:Rat)) (pv:=[]) (places:=[(0,3),(3,2)]) Tryz.zeroValue48 Tryz.underlying48 (λw=>by simp [Tryz.sizeOf42,Tryz.sizeOf46]) rfl (Jg )) rfl (A8 rfl Tryz.sizeOf48 rfl (asg' rfl (AD.nil (AC.subF (sL [2,3,4,5] rfl) ?_)))))
  exact AC.then_ (AE.ret (AC.then_ret (CO rfl (Au (i:=0) (cs:=AN (0:Rat)) rfl rfl Tryz.isAgg48 Tryz.sizeOf48 rfl) (AS (v:=(vI 5)) rfl) (λw hw=>⟨rfl,hw.out⟩))))
 ·replace hc0:=of_decide_eq_false hc0
  exact absurd rfl hc0
theorem HA (z:Int) (hz:-9223372036854775808<=z) (hz2:z<9223372036854775808) (w:World)  :Calls Tryz.prog 15 #[(vI z)] w (Al w (aG (AN ((z:Int):Rat)))):=by
 refine Aa (args:=[(vI z)]) Tryz.func15 rfl rfl (AV rfl) (AE.subF (sL [0] rfl) (q4 (al Dr rfl λb1=>AD.nil (q2 ?_))))
 refine AQ rfl (ck' Tryz.call61 (VL z (by omega) (by omega)) rfl (ck' Tryz.call54 (Im z) rfl (A8 rfl Tryz.sizeOf48 rfl (AD.nil (AC.subF (sL [2] rfl) ?_)))))
 exact AC.then_ (AE.ret (AJ rfl (Au (i:=0) (cs:=AN ((z:Int):Rat)) rfl rfl Tryz.isAgg48 Tryz.sizeOf48 rfl) (λw hw=>⟨rfl,hw.out⟩)))
end
end Go.Proofs.YtpgncndhhhllfaaGreatDoor
