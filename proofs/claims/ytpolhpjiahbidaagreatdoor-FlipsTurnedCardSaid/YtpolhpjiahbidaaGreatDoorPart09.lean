import Derived.Test.YtpolhpjiahbidaaGreatDoorPart08
namespace Go.Proofs.YtpolhpjiahbidaaGreatDoor
open Go Go.RowKit Go.Proofs.Tryz
open Go.Value renaming slice→qz,bool→qa
set_option linter.unusedVariables false
set_option linter.unusedSimpArgs false
def Sz (q:Rat):Nat:=max (nw q.num.natAbs) (nw q.den)
theorem Ek (q:Rat):nw q.num.natAbs<=Sz q:=Nat.le_max_left ..
theorem EM (q:Rat):nw q.den<=Sz q:=Nat.le_max_right ..
theorem Yx {q:Rat} {k:Nat} (h1:nw q.num.natAbs<=k) (h2:nw q.den<=k):Sz q<=k:=Nat.max_le.2 ⟨h1,h2⟩
theorem LQ:nw 1=1:=by decide
theorem Te (q:Rat):1<=Sz q:=xM (by rw [<-LQ];exact Dv q.den_pos) (EM q)
theorem KY {n:Int} {d k:Nat} (h1:nw n.natAbs<=k) (h2:nw d<=k) (hk:1<=k):Sz (mkRat n d)<=k:=by
  refine Yx ?_ ?_
  · rw [Rat.num_mkRat]
    split
    · exact xJ _
    · refine xM (Dv ?_) h1
      rw [Int.natAbs_ediv_of_dvd (by rw [Int.ofNat_dvd_left];exact Nat.gcd_dvd_right ..)]
      exact Nat.div_le_self _ _
  · rw [Rat.den_mkRat]
    split
    · rw [LQ];exact hk
    · exact xM (Dv (Nat.div_le_self _ _)) h2
theorem RF (a b:Int):nw (a*b).natAbs<=nw a.natAbs+nw b.natAbs:=by rw [Int.natAbs_mul];exact VT _ _
theorem Ev (a b:Int):nw (a+b).natAbs<=max (nw a.natAbs) (nw b.natAbs)+1:=xM (Dv (Int.natAbs_add_le a b)) (Zm _ _)
theorem Do (a b:Rat):nw (a.num*((b.den:Nat):Int)).natAbs<=Sz a+Sz b:=by
  have h1:=RF a.num ((b.den:Nat):Int)
  have h2:=Ek a
  have h3:=EM b
  rw [Int.natAbs_natCast] at h1
  omega
theorem I0 (a b:Rat):nw (a.den*b.den)<=Sz a+Sz b:=by
  have h1:=VT a.den b.den
  have h2:=EM a
  have h3:=EM b
  omega
theorem LN (a b:Rat):nw (a.num*b.num).natAbs<=Sz a+Sz b:=by
  have h1:=RF a.num b.num
  have h2:=Ek a
  have h3:=Ek b
  omega
theorem MM (a b:Rat):mkRat (a.num*((b.den:Nat):Int)+b.num*((a.den:Nat):Int)) (a.den*b.den)=a+b:=by rw [Rat.add_def,Rat.normalize_eq_mkRat]
theorem Mp (a b:Rat):mkRat (a.num*b.num) (a.den*b.den)=a*b:=by rw [Rat.mul_def,Rat.normalize_eq_mkRat]
theorem Is {a:Rat} (h:a.den-1=0):a=((a.num:Int):Rat):=by
  have h1:a.den=1:=by have:=a.den_pos;omega
  exact Rat.ext O h1
theorem Rr {a b:Rat} (ha:a.den-1=0) (hb:b.den-1=0):((a.num+b.num:Int):Rat)=a+b:=by
  rw [Rat.intCast_add,<-Is ha,<-Is hb]
theorem SS {a b:Rat} (ha:a.den-1=0) (hb:b.den-1=0):((a.num*b.num:Int):Rat)=a*b:=by
  rw [Rat.intCast_mul,<-Is ha,<-Is hb]
theorem OU {a b:Rat} (h:a.den-1=b.den-1):a.den=b.den:=by
  have h1:=a.den_pos
  have h2:=b.den_pos
  omega
theorem Tj {a b:Rat} (h:a.den-1=b.den-1):mkRat (a.num+b.num) a.den=a+b:=by
  have h1:=OU h
  have h2:a+b=mkRat a.num a.den+mkRat b.num a.den:=by rw [Rat.mkRat_self];conv=>lhs;rw [<-Rat.mkRat_self b,<-h1]
  rw [h2,Rat.mkRat_eq_div,Rat.mkRat_eq_div,Rat.mkRat_eq_div,Rat.intCast_add,Rat.div_def,Rat.div_def,Rat.div_def,Rat.add_mul]
theorem Dx (a b:Rat):Sz (a+b)<=Sz a+Sz b+1:=by
  rw [<-MM]
  have h1:=Do a b
  have h2:=Do b a
  have h3:=Ev (a.num*((b.den:Nat):Int)) (b.num*((a.den:Nat):Int))
  have h4:=I0 a b
  exact KY Z Z Z
theorem Cv (a b:Rat):Sz (a*b)<=Sz a+Sz b:=by
  rw [<-Mp]
  have:=Te a
  exact KY (LN a b) (I0 a b) Z
theorem Cw (a:Rat):Sz (-a)=Sz a:=by unfold Sz;rw [Rat.neg_num,Rat.neg_den,Int.natAbs_neg]
theorem Iv (a b:Rat):Sz (a-b)<=Sz a+Sz b+1:=by rw [Rat.sub_eq_add_neg,<-Cw b];exact Dx a (-b)
theorem Mk {b:Rat} (h:b≠0):mkRat (E5 (decide (b.num.sign<0)) b.den) b.num.natAbs=b⁻¹:=by
  have hn:b.num≠0:=λe=>h (Rat.num_eq_zero.1 e)
  have hb:b=(b.num:Rat)/((b.den:Nat):Rat):=by rw [<-Rat.mkRat_eq_div,Rat.mkRat_self]
  have hd:((b.den:Nat):Rat)≠0:=by
    intro e
    have:=b.den_pos
    have h2:b.den=0:=by exact_mod_cast e
    omega
  have hn2:((b.num:Int):Rat)≠0:=by
    intro e
    exact hn (by exact_mod_cast e)
  rw [Rat.mkRat_eq_div]
  conv=>rhs;rw [hb]
  by_cases hs:b.num<0
  · have e1:decide (b.num.sign<0)=true:=by simp [Int.sign_eq_neg_one_of_neg hs]
    have e2:((b.num.natAbs:Nat):Rat) = -((b.num:Int):Rat):=by
      have:((b.num.natAbs:Nat):Int) = -b.num:=by omega
      rw [<-Rat.intCast_natCast,this,Rat.intCast_neg]
    rw [e1,e2]
    simp only [E5,if_true,Rat.intCast_neg,Rat.intCast_natCast]
    grind
  · have e1:decide (b.num.sign<0)=false:=by
      have:0<=b.num.sign:=Int.sign_nonneg_iff.2 Z
      exact xH Z
    have e2:((b.num.natAbs:Nat):Rat)=((b.num:Int):Rat):=by
      have:((b.num.natAbs:Nat):Int)=b.num:=by omega
      rw [<-Rat.intCast_natCast,this]
    rw [e1,e2]
    simp only [E5,Bool.false_eq_true,if_false,Rat.intCast_natCast]
    grind
theorem Td {b:Rat} (h:b≠0):Sz b⁻¹<=Sz b:=by
  rw [<-Mk h]
  exact KY (by rw [Ax];exact EM b) (Ek b) (Te b)
theorem KW {a b:Rat} (h:b≠0):Sz (a/b)<=Sz a+Sz b:=by
  rw [Rat.div_def]
  have h1:=Cv a b⁻¹
  have h2:=Td h
  omega
def Gu (a b:Rat):Int:=if a<b then -1 else if a=b then 0 else 1
theorem Kk (a b:Rat):(a.num*((b.den:Nat):Int)-b.num*((a.den:Nat):Int)).sign=Gu a b:=by
  have h1:=Rat.lt_iff a b
  have h2:=@Rat.eq_iff_mul_eq_mul a b
  unfold Gu
  split
  · rename_i h;exact Int.sign_eq_neg_one_of_neg (by have:=h1.1 h;omega)
  · rename_i h
    split
    · rename_i h';rw [h2.1 h'];simp
    · rename_i h'
      have h3:¬a.num*((b.den:Nat):Int)<b.num*((a.den:Nat):Int):=λe=>h (h1.2 e)
      have h4:¬a.num*((b.den:Nat):Int)=b.num*((a.den:Nat):Int):=λe=>h' (h2.2 e)
      exact Int.sign_eq_one_of_pos Z
theorem Rz {a b:Rat} (h:a.den-1=b.den-1):(a.num-b.num).sign=Gu a b:=by
  rw [<-Kk,<-OU h,<-Int.sub_mul,Int.sign_mul]
  have:=a.den_pos
  rw [show ((a.den:Nat):Int).sign=1 from Int.sign_eq_one_of_pos Z]
  simp
theorem J7 {a b:Rat}:Gu a b<0↔a<b:=by
  unfold Gu;split
  · simp [*]
  · split<;>simp [*]
theorem Qs {a b:Rat}:Gu a b=0↔a=b:=by
  unfold Gu;split
  · rename_i h
    constructor
    · intro e;cases e
    · intro e;subst e;exact absurd h jX
  · split<;>simp [*]
theorem Ja (q:Rat):AC q=A8 q.num++AU (q.den-1):=rfl
theorem X2 {n:Int} {d:Nat} (hd:d≠0):(mkRat n d).num=E5 (decide (n.sign<0)) (n.natAbs/Nat.gcd n.natAbs d):=by
  rw [Rat.num_mkRat,if_neg hd,Nat.gcd_comm]
  unfold E5
  by_cases h:n<0
  · rw [Int.sign_eq_neg_one_of_neg h]
    have e:n = -((n.natAbs:Nat):Int):=by omega
    simp only [show decide ((-1:Int)<0)=true from rfl,if_true]
    conv=>lhs;rw [e]
    rw [Int.natAbs_neg,Int.natAbs_natCast,Int.neg_ediv_of_dvd (by rw [Int.natCast_dvd_natCast];exact Nat.gcd_dvd_left ..)]
    rfl
  · have h0:0<=n.sign:=Int.sign_nonneg_iff.2 Z
    have e:n=((n.natAbs:Nat):Int):=by omega
    rw [if_neg (by simp;omega)]
    conv=>lhs;rw [e]
    rw [Int.natAbs_natCast]
    rfl
theorem X1 {n:Int} {d:Nat} (hd:d≠0):(mkRat n d).den=d/Nat.gcd n.natAbs d:=by rw [Rat.den_mkRat,if_neg hd,Nat.gcd_comm]
section
set_option maxRecDepth 100000
theorem Dp (x0:Int) (x1:Nat):Instr.fill ([(0,3),(3,2)].toArray[·]?) (AC (0:Rat)).toArray [(0,.agg (A8 x0).toArray),(1,.agg (AU x1).toArray)]=some (A8 x0++AU x1).toArray:=by kernel_rfl
theorem HV (n:Int) (d:Nat) (hn:nw n.natAbs<=1099511627776) (hd:nw d<=1099511627776) (hd0:d≠0) (w:World)  :Calls prog 152 #[(aG (A8 n)),(aG (AU d))] w (Ad w (aG (AC (mkRat n d)))):=by
 have hg:Nat.gcd n.natAbs d≠0:=λh=>hd0 (Nat.eq_zero_of_gcd_eq_zero_right h)
 have hgw:nw (Nat.gcd n.natAbs d)<=nw d:=Dv (Nat.gcd_le_right _ (Nat.pos_of_ne_zero hd0))
 have hqw:nw (d/Nat.gcd n.natAbs d)<=nw d:=Dv (Nat.div_le_self _ _)
 have h1w:=LQ
 refine AY (args:=[(aG (A8 n)),(aG (AU d))]) func152 O O (BA O) (zM (sL [0,1] O) (q4 (BV (cs:=A8 n) O λb1=>BV (cs:=AU d) O λb2=>al Dg O λb3=>q6 (sL [2,3,4] O) (rN [(0,true),(2,true),(1,false),(3,false)] [⟨4,5,71,AU 0⟩] [(5,false)] sr jV (λ_ _ d _ _ h=>by cases d<;>exact h) (FN O O Ga O (Hf)) O (Ei 2 DV O (Ei 1 CE O (zj O λEF EL=>ck' call202 (Nd n) O ?_)))))))
 refine zg sr O (zj O λEF EL=>ck' call201 (ZC n.natAbs d Z Z) O (zg sr O (yH λb4=>zN O (Ag O sizeOf71 O (zD (sl sr) (zQ (zB (sL [2,3,4,5] O) (q1 (rN [(0,true),(2,true),(1,false),(3,false),(4,true),(5,true),(6,true),(7,true)] [⟨8,6,71,AU 0⟩,⟨9,7,71,AU 0⟩] [(10,false),(11,false),(12,true)] sr jV (λ_ _ d _ _ h=>by cases d<;>exact h) (FN O O Ga O (FN O O Ga O (Hf))) O ?_)))))))))
 refine Ei 3 DV O (Ei 0 CE O (zj O λEF EL=>ck' call202 (Nd n) O (zg sr O (zj O λEF EL=>ck' call203 (PP n.natAbs (Nat.gcd n.natAbs d) Z Z Z) O (zg sr O (QU O (GA O (AK (v:=(aG (AU (n.natAbs/(Nat.gcd n.natAbs d))))) O O) O (GA O (AK (v:=(aG (AU (n.natAbs%(Nat.gcd n.natAbs d))))) O O) O (GA O (AK (v:=(qa true)) O O) O ?_)))))))))
 refine yY λb5 b6=>zN O (Ag O sizeOf71 O (zD (sl (sl sr)) (zN O (Cd O sizeOf71 O (zD (sl (sl sr)) (pS' O (zQ (zB (sL [2,3,4,5,6] O) (q2 (Al 4 CE O ?_))))))))))
 refine Al 2 CE O (ck' call203 (PP d (Nat.gcd n.natAbs d) Z Z Z) O (AL O (AD (AK (v:=(aG (AU (d/(Nat.gcd n.natAbs d))))) O O) O (AD (AK (v:=(aG (AU (d%(Nat.gcd n.natAbs d))))) O O) O (AD (AK (v:=(qa true)) O O) O (al Ga O λb7=>al Ga O λb8=>Cd O sizeOf71 O (Ag O sizeOf71 O (asg' O (q6 (sL [2,3,4,5,6,9] O) ?_)))))))))
 refine rC [(0,true),(1,false),(2,false),(3,true),(4,true),(5,true)] 6 [] sr (sk (sl sr)) jV (λ_ _ d _ _ h=>by cases d<;>exact h) (vE (v:=(aG (AU (d/(Nat.gcd n.natAbs d))))) O (Aj (i:=1) (vs:=AU (d/(Nat.gcd n.natAbs d))) O O CE.a CE.s O O) O (zx O (ck' call172 (KH 1 Z) O (zu sr (zx O (ck' call204 (PZ (d/(Nat.gcd n.natAbs d)) 1 Z Z) O (zu sr (vM O O O (vE O (AK (v:=(aG (AU ((d/(Nat.gcd n.natAbs d))-1)))) O O) O (vE O (AK (v:=(qa (decide (1<=d/(Nat.gcd n.natAbs d))))) O O) O (yJ O ?_)))))))))))
 refine Cd O sizeOf71 O (zD (sk (sl sr)) (zQ (zB (sL [2,3,4,5,6,9] O) (q1 (DC [(0,true),(3,true),(5,true),(1,false),(2,true),(4,false),(6,true),(7,false)] (sk (sk (sk (sk (sk (sl sr)))))) (Ew 6 DV O (Ew 2 CE O (Ew 1 CE O (zN O (ck' call176 (K7 n) O (zD (sk (sk (sk (sk (sk (sl sr)))))) ?_)))))))))))
 exact Am O (Aa (c:=(decide (n.sign<(0:Int)))) O O O) (zN O (ck' call171 (EW (decide (n.sign<(0:Int))) (n.natAbs/(Nat.gcd n.natAbs d))) O (zD (sk (sk (sk (sk (sk (sl sr)))))) (Am (v:=(aG (A8 (E5 (decide (n.sign<(0:Int))) (n.natAbs/(Nat.gcd n.natAbs d)))++AU ((d/(Nat.gcd n.natAbs d))-1)))) O (AP (zs:=AC (0:Rat)) (vs:=A8 (E5 (decide (n.sign<(0:Int))) (n.natAbs/(Nat.gcd n.natAbs d)))++AU ((d/(Nat.gcd n.natAbs d))-1)) (pv:=[(0,(aG (A8 (E5 (decide (n.sign<(0:Int))) (n.natAbs/(Nat.gcd n.natAbs d)))))),(1,(aG (AU ((d/(Nat.gcd n.natAbs d))-1))))]) (places:=[(0,3),(3,2)]) zeroValue77 underlying77 (λw=>by simp [sizeOf71,sizeOf75]) O (Dp (E5 (decide (n.sign<(0:Int))) (n.natAbs/(Nat.gcd n.natAbs d))) ((d/(Nat.gcd n.natAbs d))-1))) (zN O (F8 5 (off:=0) (vs:=A8 (E5 (decide (n.sign<(0:Int))) (n.natAbs/(Nat.gcd n.natAbs d)))++AU ((d/(Nat.gcd n.natAbs d))-1)) (cs':=A8 (E5 (decide (n.sign<(0:Int))) (n.natAbs/(Nat.gcd n.natAbs d)))++AU ((d/(Nat.gcd n.natAbs d))-1)) (AI O) O sizeOf77 O (zD (sk (sk (sk (sk (sk (sl sr)))))) (zQ (zB (sL [2,3,4,5,6,9] O) (zA (zF (ret_one O (Ao (i:=5) (cs:=A8 (E5 (decide (n.sign<(0:Int))) (n.natAbs/(Nat.gcd n.natAbs d)))++AU ((d/(Nat.gcd n.natAbs d))-1)) O O isAgg77 sizeOf77 O) (λw hw=>⟨by rw [Ja,X2 hd0,X1 hd0],hw.out⟩)))))))))))))
theorem Hx (x0:Int):Instr.fill ([(0,3),(3,2)].toArray[·]?) (AC (0:Rat)).toArray [(0,.agg (A8 x0).toArray)]=some (A8 x0++AU ((0:Rat).den-1)).toArray:=by kernel_rfl
theorem Lw (n:Int) (w:World)  :Calls prog 108 #[(aG (A8 n))] w (Ad w (aG (AC ((n:Int):Rat)))):=by
 refine AY (args:=[(aG (A8 n))]) func108 O O (BA O) (zM (sL [0] O) (q4 (BV (cs:=A8 n) O λb1=>al Dg O λb2=>q3 (sL [1,2] O) (Al 1 DV O (AD (v:=(aG (A8 n++AU ((0:Rat).den-1)))) (AP (zs:=AC (0:Rat)) (vs:=A8 n++AU ((0:Rat).den-1)) (pv:=[(0,(aG (A8 n)))]) (places:=[(0,3),(3,2)]) zeroValue77 underlying77 (λw=>by simp [sizeOf71,sizeOf75]) O (Hx n)) O (Ag O sizeOf77 O (oNl' (zB (sL [2] O) (zA ?_)))))))))
 exact zF (ret_one O (Ao (i:=0) (cs:=A8 n++AU ((0:Rat).den-1)) O O isAgg77 sizeOf77 O) (λw hw=>⟨rfl,hw.out⟩))
theorem L9  :Instr.fill ([(0,1),(1,1)].toArray[·]?) (AU 0).toArray []=some (AU 0).toArray:=by kernel_rfl
theorem Gq (a:Rat) (w:World)  :Calls prog 130 #[(aG (AC a))] w (Ad w (qa (decide (a.den-1=0)))):=by
 refine AY (args:=[(aG (AC a))]) func130 O O (BA O) (zM (sL [0] O) (q4 (BV (cs:=AC a) O λb1=>asg' O (q3 (sL [1,2] O) (AD (v:=(pP b1 3)) (AA O underlying77 O sizeOf71 O) O (Dy 0 (AU (a.den-1)) CE O (AD (v:=(aG (AU 0))) (AP (zs:=AU 0) (vs:=AU 0) (pv:=[]) (places:=[(0,1),(1,1)]) zeroValue71 underlying71 (λw=>by simp [sizeOf9,sizeOf69]) O (L9 )) O (AD (B0 (c:=(decide (a.den-1=0))) O O eqGuardType71 (HM 9998 (a.den-1) 0)) O (asg' O (oNl' ?_))))))))))
 exact zB (sL [2] O) (zA (zF (ret_one O (rd_tmp (v:=(qa (decide (a.den-1=0)))) O) (λw hw=>⟨rfl,hw.out⟩))))
theorem den_ok (a:Rat) (ha:nw a.den<=1099511627776) (w:World)  :Calls prog 133 #[(aG (AC a))] w (Ad w (aG (AU a.den))):=by
 have h1w:=LQ
 have h2w:=Dv (Nat.sub_le a.den 1)
 refine AY (args:=[(aG (AC a))]) func133 O O (BA O) (zM (sL [0] O) (q4 (BV (cs:=AC a) O λb1=>al Ga O λb2=>q6 (sL [1,2] O) (DC [(0,true),(1,true),(2,false),(3,false),(4,false)] (sl sr) (Am (v:=(pP b1 3)) O (AA O underlying77 O sizeOf71 O) (GE 0 (AU (a.den-1)) CE O (zN O (ck' call172 (KH 1 Z) O (zD (sl sr) ?_)))))))))
 exact zN O (ck' call194 (TF (a.den-1) 1 Z Z) O (zD (sl sr) (zN O (Ag O sizeOf71 O (zD (sl sr) (zQ (zB (sL [2] O) (zA (zF (ret_one O (Ao (i:=0) (cs:=AU ((a.den-1)+1)) O O isAgg71 sizeOf71 O) (λw hw=>⟨by rw [Nat.sub_add_cancel a.den_pos],hw.out⟩)))))))))))
theorem Hb (a:Rat) (ha:nw a.den<=1099511627776) (w:World)  :Calls prog 124 #[(aG (AC a))] w (Ad w (aG (A8 ((a.den:Nat):Int)))):=by
 refine AY (args:=[(aG (AC a))]) func124 O O (BA O) (zM (sL [0] O) (q4 (BV (cs:=AC a) O λb1=>al Jw O λb2=>q3 (sL [1,2] O) (Al 1 Ba O (ck' call133 (den_ok a Z) O (ck' call171 (EW false a.den) O (Ag O sizeOf75 O (oNl' (zB (sL [2] O) ?_)))))))))
 exact zA (zF (ret_one O (Ao (i:=0) (cs:=A8 (E5 false a.den)) O O isAgg75 sizeOf75 O) (λw hw=>⟨rfl,hw.out⟩)))
theorem Q0 (a:Rat) (w:World)  :Calls prog 38 #[(aG (AC a))] w (Ad w (aG (AC (-a)))):=by
 refine AY (args:=[(aG (AC a))]) func38 O O (BA O) (zM (sL [0] O) (q4 (BV (cs:=AC a) O λb1=>al Dg O λb2=>q6 (sL [1,2] O) (DC [(0,true),(1,true),(3,true),(4,true),(2,false),(5,true),(6,false)] (sl sr) (Am (v:=(pP b1 0)) O (AA O underlying77 O sizeOf75 O) (GE 0 (A8 a.num) DV O (Am (v:=(pP b1 3)) O (AA O underlying77 O sizeOf71 O) (GE 0 (AU (a.den-1)) CE O (zN O ?_)))))))))
 exact ck' call106 (Q6 a.num) O (zD (sl sr) (Am (v:=(aG (A8 (-a.num)++AU (a.den-1)))) O (AP (zs:=AC (0:Rat)) (vs:=A8 (-a.num)++AU (a.den-1)) (pv:=[(0,(aG (A8 (-a.num)))),(1,(aG (AU (a.den-1))))]) (places:=[(0,3),(3,2)]) zeroValue77 underlying77 (λw=>by simp [sizeOf71,sizeOf75]) O (Dp (-a.num) (a.den-1))) (zN O (Ag O sizeOf77 O (zD (sl sr) (zQ (zB (sL [2] O) (zA (zF (ret_one O (Ao (i:=0) (cs:=A8 (-a.num)++AU (a.den-1)) O O isAgg77 sizeOf77 O) (λw hw=>⟨by rw [Ja,Rat.neg_num,Rat.neg_den],hw.out⟩)))))))))))
theorem Ed (a:Rat) (w:World)  :Calls prog 196 #[(aG (AC a))] w (Ad w (vI a.num.sign)):=by
 refine AY (args:=[(aG (AC a))]) func196 O O (BA O) (zM (sL [0] O) (q4 (BV (cs:=AC a) O λb1=>asg' O (q3 (sL [1,2] O) (AD (v:=(pP b1 0)) (AA O underlying77 O sizeOf75 O) O (Dy 0 (A8 a.num) DV O (ck' call176 (K7 a.num) O (asg' O (oNl' (zB (sL [2] O) ?_))))))))))
 exact zA (zF (ret_one O (rd_tmp (v:=(vI a.num.sign)) O) (λw hw=>⟨rfl,hw.out⟩)))
theorem Qz (a b:Rat) (hs:Sz a+Sz b<=549755813888) (w:World)  :Calls prog 72 #[(aG (AC a)),(aG (AC b))] w (Ad w (vI (Gu a b))):=by
 have s1:=Ek a
 have s2:=EM a
 have s3:=Ek b
 have s4:=EM b
 have s5:=Do a b
 have s6:=Do b a
 have s7:=I0 a b
 have s8:=LN a b
 have s9:=Ev a.num b.num
 have s10:=Ev (a.num*((b.den:Nat):Int)) (b.num*((a.den:Nat):Int))
 have hda:=a.den_nz
 have hdb:=b.den_nz
 have hdab:a.den*b.den≠0:=Nat.mul_ne_zero hda hdb
 refine AY (args:=[(aG (AC a)),(aG (AC b))]) func72 O O (BA O) (zM (sL [0,1] O) (q4 (BV (cs:=AC a) O λb1=>BV (cs:=AC b) O λb2=>asg' O (q6 (sL [2,3,4] O) (q4 (AD (v:=(pP b1 3)) (AA O underlying77 O sizeOf71 O) O (Dy 1 (AU (a.den-1)) CE O (AD (v:=(pP b2 3)) (AA O underlying77 O sizeOf71 O) O (Dy 0 (AU (b.den-1)) CE O ?_)))))))))
 refine AD (B0 (c:=(decide (a.den-1=b.den-1))) O O eqGuardType71 (HM 9998 (a.den-1) (b.den-1))) O (oNl' (zB (sL [2,3,4,9] O) (zA ?_)))
 refine zL O (λhc0=>?_) (λhc0=>?_)
 ·replace hc0:=xT hc0
  have he:=Rz hc0
  exact q4 (AD (v:=(pP b1 0)) (AA O underlying77 O sizeOf75 O) O (Dy 1 (A8 a.num) DV O (AD (v:=(pP b2 0)) (AA O underlying77 O sizeOf75 O) O (Dy 0 (A8 b.num) DV O (ck' call122 (Q5 a.num b.num (by first|omega|(simp only [Int.natAbs_neg,Ax,Int.natAbs_natCast];omega)) (by first|omega|(simp only [Int.natAbs_neg,Ax,Int.natAbs_natCast];omega))) O (asg' O (oNl' (zB (sL [2,3,4] O) (zA (zF (zK (ret_one O (rd_tmp (v:=(vI ((a.num-b.num).sign))) O) (λw hw=>⟨by rw [he],hw.out⟩)))))))))))))
 ·replace hc0:=xS hc0
  have he:=Kk a b
  refine zC (q1 (DC [(0,true),(1,true),(2,true),(5,true),(6,true),(7,true),(3,false),(4,false),(8,false),(9,false),(10,false),(11,true)] sr (Am (v:=(pP b1 0)) O (AA O underlying77 O sizeOf75 O) (GE 1 (A8 a.num) DV O (Ew 0 Ba O (Am (v:=(pP b2 0)) O (AA O underlying77 O sizeOf75 O) (GE 0 (A8 b.num) DV O (Ew 1 Ba O (zN O (ck' call124 (Hb b Z) O (zD sr ?_)))))))))))
  refine zN O (ck' call123 (HQ a.num ((b.den:Nat):Int) (by first|omega|(simp only [Int.natAbs_neg,Ax,Int.natAbs_natCast];omega)) (by first|omega|(simp only [Int.natAbs_neg,Ax,Int.natAbs_natCast];omega))) O (zD sr (zN O (ck' call124 (Hb a Z) O (zD sr (zN O (ck' call123 (HQ b.num ((a.den:Nat):Int) (by first|omega|(simp only [Int.natAbs_neg,Ax,Int.natAbs_natCast];omega)) (by first|omega|(simp only [Int.natAbs_neg,Ax,Int.natAbs_natCast];omega))) O (zD sr (zN O (ck' call122 (Q5 (a.num*((b.den:Nat):Int)) (b.num*((a.den:Nat):Int)) (by first|omega|(simp only [Int.natAbs_neg,Ax,Int.natAbs_natCast];omega)) (by first|omega|(simp only [Int.natAbs_neg,Ax,Int.natAbs_natCast];omega))) O (zD sr ?_)))))))))))
  exact pS' O (zQ (zB (sL [2,3,4] O) (zA (zF (ret_one O (rd_tmp (v:=(vI (((a.num*((b.den:Nat):Int))-(b.num*((a.den:Nat):Int))).sign))) O) (λw hw=>⟨by rw [he],hw.out⟩))))))
theorem HO (a b:Rat) (hs:Sz a+Sz b<=549755813888) (w:World)  :Calls prog 90 #[(aG (AC a)),(aG (AC b))] w (Ad w (aG (AC (a+b)))):=by
 have s1:=Ek a
 have s2:=EM a
 have s3:=Ek b
 have s4:=EM b
 have s5:=Do a b
 have s6:=Do b a
 have s7:=I0 a b
 have s8:=LN a b
 have s9:=Ev a.num b.num
 have s10:=Ev (a.num*((b.den:Nat):Int)) (b.num*((a.den:Nat):Int))
 have hda:=a.den_nz
 have hdb:=b.den_nz
 have hdab:a.den*b.den≠0:=Nat.mul_ne_zero hda hdb
 refine AY (args:=[(aG (AC a)),(aG (AC b))]) func90 O O (BA O) (zM (sL [0,1] O) (q4 (BV (cs:=AC a) O λb1=>BV (cs:=AC b) O λb2=>al Dg O λb3=>q6 (sL [2,3,4] O) (zJ (q4 (Al 2 Ba O (ck' call130 (Gq a) O (AL O ?_))))))))
 refine ze (FM:=[(2,(pP b1 0)),(3,(pP b2 0)),(4,(pP b3 0)),(6,(aG (AC a))),(7,(qa (decide (a.den-1=0)))),(8,(qa (decide (a.den-1=0)))),(11,(qa ((decide (a.den-1=0))&&(decide (b.den-1=0)))))]) (LM:=[AX b3 77 (AC (0:Rat)),AX b2 77 (AC b),AX b1 77 (AC a)]) 3 ?_ ?_
 ·rcases xQ (decide (a.den-1=0)) with hg1|hg1
  ·refine zI (k:=8) (u:=qa true) O (by rw [hg1]) ?_
   have hg1':=xT hg1
   exact BM (v:=(aG (AC b))) O (Aj (i:=1) (vs:=AC b) O O Ba.a Ba.s O O) (zh (v:=(qa (decide (b.den-1=0)))) (Ab O) (Ar (args:=[(aG (AC b))]) O O call130) (λw hw=>Gq b w) O (BA O) (AD (v:=(qa (decide (b.den-1=0)))) (AW O O) O (oNl' (zR Cc (xR _)))))
  ·refine zI (k:=8) (u:=qa false) O (by rw [hg1]) ?_
   have hg1':=xS hg1
   exact BO O (BO O (AD (v:=(qa false)) (AQ O O) O (oNl' (zR Cc (xR _)))))
 refine asg' O (oNl' (zB (sL [2,3,4,5] O) (zA ?_)))
 refine zL O (λhc0=>?_) (λhc0=>?_)
 ·simp only [jK] at hc0
  have he:=Rr hc0.1 hc0.2
  refine q4 (AD (v:=(pP b1 0)) (AA O underlying77 O sizeOf75 O) O (Dy 2 (A8 a.num) DV O (AD (v:=(pP b2 0)) (AA O underlying77 O sizeOf75 O) O (Dy 1 (A8 b.num) DV O (ck' call151 (Nf a.num b.num (by first|omega|(simp only [Int.natAbs_neg,Ax,Int.natAbs_natCast];omega)) (by first|omega|(simp only [Int.natAbs_neg,Ax,Int.natAbs_natCast];omega))) O (ck' call108 (Lw (a.num+b.num)) O (Ag O sizeOf77 O (oNl' (zB (sL [2,3,4] O) (zA (zF ?_)))))))))))
  exact zS (zK (ret_one O (Ao (i:=0) (cs:=AC ((a.num+b.num:Int):Rat)) O O isAgg77 sizeOf77 O) (λw hw=>⟨by rw [he],hw.out⟩)))
 ·simp only [jK] at hc0
  have he:=MM a b
  refine q4 (AD (v:=(pP b1 3)) (AA O underlying77 O sizeOf71 O) O (Dy 2 (AU (a.den-1)) CE O (AD (v:=(pP b2 3)) (AA O underlying77 O sizeOf71 O) O (Dy 1 (AU (b.den-1)) CE O (AD (B0 (c:=(decide (a.den-1=b.den-1))) O O eqGuardType71 (HM 9998 (a.den-1) (b.den-1))) O (asg' O (oNl' (zB (sL [2,3,4,18] O) (zA ?_)))))))))
  refine zL O (λhc1=>?_) (λhc1=>?_)
  ·replace hc1:=xT hc1
   have he:=Tj hc1
   refine zX (DC (Er 4++[(5,true),(4,false),(6,false),(7,false),(8,false)]) (sl sr) (Am (v:=(pP b1 0)) O (AA O underlying77 O sizeOf75 O) (GE 1 (A8 a.num) DV O (Am (v:=(pP b2 0)) O (AA O underlying77 O sizeOf75 O) (GE 0 (A8 b.num) DV O (Ew 1 Ba O (zN O (ck' call151 (Nf a.num b.num (by first|omega|(simp only [Int.natAbs_neg,Ax,Int.natAbs_natCast];omega)) (by first|omega|(simp only [Int.natAbs_neg,Ax,Int.natAbs_natCast];omega))) O (zD (sl sr) (zN O (ck' call133 (den_ok a Z) O ?_)))))))))))
   refine zD (sl sr) (zN O (ck' call152 (HV (a.num+b.num) a.den Z Z (by first|omega|assumption)) O (zD (sl sr) (zN O (Ag O sizeOf77 O (zD (sl sr) (zQ (zB (sL [2,3,4] O) (zA (zF (zS ?_)))))))))))
   exact zK (ret_one O (Ao (i:=0) (cs:=AC (mkRat (a.num+b.num) a.den)) O O isAgg77 sizeOf77 O) (λw hw=>⟨by rw [he],hw.out⟩))
  ·replace hc1:=xS hc1
   refine zC (zG (q1 (DC [(0,true),(1,true),(2,true),(5,true),(6,true),(7,true),(11,true),(13,true),(3,false),(4,false),(8,false),(9,false),(10,false),(12,false),(14,false),(15,false),(16,false),(17,false)] (sl sr) (Am (v:=(pP b1 0)) O (AA O underlying77 O sizeOf75 O) (GE 1 (A8 a.num) DV O (Ew 0 Ba O (Am (v:=(pP b2 0)) O (AA O underlying77 O sizeOf75 O) (GE 0 (A8 b.num) DV O (Ew 1 Ba O (Ew 1 Ba O (Ew 0 Ba O ?_)))))))))))
   refine zN O (ck' call124 (Hb b Z) O (zD (sl sr) (zN O (ck' call123 (HQ a.num ((b.den:Nat):Int) (by first|omega|(simp only [Int.natAbs_neg,Ax,Int.natAbs_natCast];omega)) (by first|omega|(simp only [Int.natAbs_neg,Ax,Int.natAbs_natCast];omega))) O (zD (sl sr) (zN O (ck' call124 (Hb a Z) O (zD (sl sr) (zN O (ck' call123 (HQ b.num ((a.den:Nat):Int) (by first|omega|(simp only [Int.natAbs_neg,Ax,Int.natAbs_natCast];omega)) (by first|omega|(simp only [Int.natAbs_neg,Ax,Int.natAbs_natCast];omega))) O (zD (sl sr) ?_)))))))))))
   refine zN O (ck' call151 (Nf (a.num*((b.den:Nat):Int)) (b.num*((a.den:Nat):Int)) (by first|omega|(simp only [Int.natAbs_neg,Ax,Int.natAbs_natCast];omega)) (by first|omega|(simp only [Int.natAbs_neg,Ax,Int.natAbs_natCast];omega))) O (zD (sl sr) (zN O (ck' call133 (den_ok a Z) O (zD (sl sr) (zN O (ck' call133 (den_ok b Z) O (zD (sl sr) (zN O (ck' call153 (PW a.den b.den Z Z) O (zD (sl sr) ?_)))))))))))
   exact zN O (ck' call152 (HV ((a.num*((b.den:Nat):Int))+(b.num*((a.den:Nat):Int))) (a.den*b.den) Z Z (by first|omega|assumption)) O (zD (sl sr) (zN O (Ag O sizeOf77 O (zD (sl sr) (zQ (zB (sL [2,3,4] O) (zA (zF (ret_one O (Ao (i:=0) (cs:=AC (mkRat ((a.num*((b.den:Nat):Int))+(b.num*((a.den:Nat):Int))) (a.den*b.den))) O O isAgg77 sizeOf77 O) (λw hw=>⟨by rw [he],hw.out⟩)))))))))))
theorem NS (a b:Rat) (hs:Sz a+Sz b<=549755813888) (w:World)  :Calls prog 175 #[(aG (AC a)),(aG (AC b))] w (Ad w (aG (AC (a-b)))):=by
 refine AY (args:=[(aG (AC a)),(aG (AC b))]) func175 O O (BA O) (zM (sL [0,1] O) (q4 (BV (cs:=AC a) O λb1=>BV (cs:=AC b) O λb2=>al Dg O λb3=>q6 (sL [2,3,4] O) (DC [(0,true),(1,true),(2,false),(3,false),(4,false)] (sl sr) (Ew 1 Ba O (Ew 0 Ba O (zN O (ck' call38 (Q0 b) O ?_))))))))
 refine zD (sl sr) (zN O ?_)
 have hz1:=Dx a (-b)
 exact ck' call90 (HO a (-b) (by (try simp only [Cw]);omega)) O (zD (sl sr) (zN O (Ag O sizeOf77 O (zD (sl sr) (zQ (zB (sL [4] O) (zA (zF (ret_one O (Ao (i:=0) (cs:=AC (a+(-b))) O O isAgg77 sizeOf77 O) (λw hw=>⟨by rw [Rat.sub_eq_add_neg],hw.out⟩))))))))))
theorem Du (a b:Rat) (hs:Sz a+Sz b<=549755813888) (w:World)  :Calls prog 91 #[(aG (AC a)),(aG (AC b))] w (Ad w (aG (AC (a*b)))):=by
 have s1:=Ek a
 have s2:=EM a
 have s3:=Ek b
 have s4:=EM b
 have s5:=Do a b
 have s6:=Do b a
 have s7:=I0 a b
 have s8:=LN a b
 have s9:=Ev a.num b.num
 have s10:=Ev (a.num*((b.den:Nat):Int)) (b.num*((a.den:Nat):Int))
 have hda:=a.den_nz
 have hdb:=b.den_nz
 have hdab:a.den*b.den≠0:=Nat.mul_ne_zero hda hdb
 refine AY (args:=[(aG (AC a)),(aG (AC b))]) func91 O O (BA O) (zM (sL [0,1] O) (q4 (BV (cs:=AC a) O λb1=>BV (cs:=AC b) O λb2=>al Dg O λb3=>q6 (sL [2,3,4] O) (q4 (Al 2 Ba O (ck' call130 (Gq a) O (AL O ?_)))))))
 refine ze (FM:=[(2,(pP b1 0)),(3,(pP b2 0)),(4,(pP b3 0)),(5,(aG (AC a))),(6,(qa (decide (a.den-1=0)))),(7,(qa (decide (a.den-1=0)))),(10,(qa ((decide (a.den-1=0))&&(decide (b.den-1=0)))))]) (LM:=[AX b3 77 (AC (0:Rat)),AX b2 77 (AC b),AX b1 77 (AC a)]) 3 ?_ ?_
 ·rcases xQ (decide (a.den-1=0)) with hg1|hg1
  ·refine zI (k:=7) (u:=qa true) O (by rw [hg1]) ?_
   have hg1':=xT hg1
   exact BM (v:=(aG (AC b))) O (Aj (i:=1) (vs:=AC b) O O Ba.a Ba.s O O) (zh (v:=(qa (decide (b.den-1=0)))) (Ab O) (Ar (args:=[(aG (AC b))]) O O call130) (λw hw=>Gq b w) O (BA O) (AD (v:=(qa (decide (b.den-1=0)))) (AW O O) O (oNl' (zR Cc (xR _)))))
  ·refine zI (k:=7) (u:=qa false) O (by rw [hg1]) ?_
   have hg1':=xS hg1
   exact BO O (BO O (AD (v:=(qa false)) (AQ O O) O (oNl' (zR Cc (xR _)))))
 refine oNl' (zB (sL [2,3,4,10] O) (zA ?_))
 refine zL O (λhc0=>?_) (λhc0=>?_)
 ·simp only [jK] at hc0
  have he:=SS hc0.1 hc0.2
  refine q4 (AD (v:=(pP b1 0)) (AA O underlying77 O sizeOf75 O) O (Dy 2 (A8 a.num) DV O (AD (v:=(pP b2 0)) (AA O underlying77 O sizeOf75 O) O (Dy 1 (A8 b.num) DV O (ck' call123 (HQ a.num b.num (by first|omega|(simp only [Int.natAbs_neg,Ax,Int.natAbs_natCast];omega)) (by first|omega|(simp only [Int.natAbs_neg,Ax,Int.natAbs_natCast];omega))) O (ck' call108 (Lw (a.num*b.num)) O (Ag O sizeOf77 O (oNl' (zB (sL [2,3,4] O) (zA (zF ?_)))))))))))
  exact zK (ret_one O (Ao (i:=0) (cs:=AC ((a.num*b.num:Int):Rat)) O O isAgg77 sizeOf77 O) (λw hw=>⟨by rw [he],hw.out⟩))
 ·simp only [jK] at hc0
  have he:=Mp a b
  refine zC (q1 (DC (Er 4++[(5,true),(7,true),(4,false),(6,false),(8,false),(9,false),(10,false),(11,false)]) (sl sr) (Am (v:=(pP b1 0)) O (AA O underlying77 O sizeOf75 O) (GE 1 (A8 a.num) DV O (Am (v:=(pP b2 0)) O (AA O underlying77 O sizeOf75 O) (GE 0 (A8 b.num) DV O (Ew 1 Ba O (Ew 0 Ba O (zN O (ck' call123 (HQ a.num b.num (by first|omega|(simp only [Int.natAbs_neg,Ax,Int.natAbs_natCast];omega)) (by first|omega|(simp only [Int.natAbs_neg,Ax,Int.natAbs_natCast];omega))) O (zD (sl sr) ?_)))))))))))
  refine zN O (ck' call133 (den_ok a Z) O (zD (sl sr) (zN O (ck' call133 (den_ok b Z) O (zD (sl sr) (zN O (ck' call153 (PW a.den b.den Z Z) O (zD (sl sr) (zN O (ck' call152 (HV (a.num*b.num) (a.den*b.den) Z Z (by first|omega|assumption)) O (zD (sl sr) ?_)))))))))))
  exact zN O (Ag O sizeOf77 O (zD (sl sr) (zQ (zB (sL [2,3,4] O) (zA (zF (ret_one O (Ao (i:=0) (cs:=AC (mkRat (a.num*b.num) (a.den*b.den))) O O isAgg77 sizeOf77 O) (λw hw=>⟨by rw [he],hw.out⟩))))))))
theorem KC (a b:Rat) (hs:Sz a+Sz b<=549755813888) (hb:b≠0) (w:World)  :Calls prog 156 #[(aG (AC a)),(aG (AC b))] w (Ad w (Value.tuple #[(aG (AC (a/b))),(vI 0)])):=by
 have s1:=Ek a
 have s2:=EM a
 have s3:=Ek b
 have s4:=EM b
 have s5:=Do a b
 have s6:=Do b a
 have s7:=I0 a b
 have s8:=LN a b
 have s9:=Ev a.num b.num
 have s10:=Ev (a.num*((b.den:Nat):Int)) (b.num*((a.den:Nat):Int))
 have hda:=a.den_nz
 have hdb:=b.den_nz
 have hdab:a.den*b.den≠0:=Nat.mul_ne_zero hda hdb
 have hbn:b.num≠0:=λe=>hb (Rat.num_eq_zero.1 e)
 have hbs:b.num.sign≠0:=λe=>hbn (Int.sign_eq_zero_iff_zero.1 e)
 have hmi:nw (E5 (decide (b.num.sign<(0:Int))) b.den).natAbs=nw b.den:=by rw [Ax]
 have hinv:=Mk hb
 have hsi:=Td hb
 rw [<-hinv] at hsi
 refine AY (args:=[(aG (AC a)),(aG (AC b))]) func156 O O (BA O) (zM (sL [0,1] O) (q4 (BV (cs:=AC a) O λb1=>BV (cs:=AC b) O λb2=>al Dg O λb3=>asg' O (q6 (sL [2,3,4,5] O) (q4 (Al 1 Ba O (ck' call196 (Ed b) O (AD (BL (c:=(decide (b.num.sign=(0:Int)))) O O O) O ?_))))))))
 refine oNl' (zB (sL [2,3,4,5,9] O) (zA ?_))
 refine zL O (λhc0=>?_) (λhc0=>?_)
 ·replace hc0:=xT hc0
  exact absurd hc0 hbs
 ·replace hc0:=xS hc0
  refine zC (q1 (rN [(0,true),(3,true),(6,true),(7,true),(1,false),(2,true),(4,false),(5,false),(8,false),(9,false)] [⟨10,6,77,AC (0:Rat)⟩] [(11,false)] sr jV (λ_ _ d _ _ h=>by cases d<;>exact h) (FN O O Dg O (Hf)) O (Ei 1 Ba O (Ei 1 Ba O (GA (v:=(pP b2 0)) O (AA O underlying77 O sizeOf75 O) O (WQ 1 (A8 b.num) DV O (zj O λEF EL=>ck' call196 (Ed b) O (zg sr O (GA O (Aa (c:=(decide (b.num.sign<(0:Int)))) O O O) O (zj O λEF EL=>?_))))))))))
  refine ck' call133 (den_ok b Z) O (zg sr O (zj O λEF EL=>ck' call171 (EW (decide (b.num.sign<(0:Int))) b.den) O (zg sr O (zj O λEF EL=>ck' call202 (Nd b.num) O (zg sr O (zj O λEF EL=>ck' call152 (HV (E5 (decide (b.num.sign<(0:Int))) b.den) b.num.natAbs Z Z (by first|omega|assumption)) O (zg sr O (yH λb4=>?_))))))))
  refine zN O (Ag O sizeOf77 O (zD (sl sr) (zQ (zB (sL [2,3,4,5,6] O) (q2 (Al 3 Ba O (Al 0 Ba O ?_)))))))
  have hz1:=Cv a (mkRat (E5 (decide (b.num.sign<(0:Int))) b.den) b.num.natAbs)
  exact ck' call91 (Du a (mkRat (E5 (decide (b.num.sign<(0:Int))) b.den) b.num.natAbs) (by (try simp only [Cw]);omega)) O (Cd O sizeOf77 O (asg' O (oNl' (zB (sL [3,4,5,6] O) (zA (zF (Bu O (Ao (i:=1) (cs:=AC (a*(mkRat (E5 (decide (b.num.sign<(0:Int))) b.den) b.num.natAbs))) O O isAgg77 sizeOf77 O) (rd_tmp (v:=(vI 0)) O) (λw hw=>⟨by rw [hinv,Rat.div_def],hw.out⟩))))))))
theorem L_  :Instr.fill ([(0,3),(3,2)].toArray[·]?) (AC (0:Rat)).toArray []=some (AC (0:Rat)).toArray:=by kernel_rfl
theorem UW (a:Rat) (w:World)  :Calls prog 156 #[(aG (AC a)),(aG (AC (0:Rat)))] w (Ad w (Value.tuple #[(aG (AC (0:Rat))),(vI 5)])):=by
 refine AY (args:=[(aG (AC a)),(aG (AC (0:Rat)))]) func156 O O (BA O) (zM (sL [0,1] O) (q4 (BV (cs:=AC a) O λb1=>BV (cs:=AC (0:Rat)) O λb2=>al Dg O λb3=>asg' O (q6 (sL [2,3,4,5] O) (q4 (Al 1 Ba O (ck' call196 (Ed (0:Rat)) O (AD (BL (c:=(decide (((0:Rat).num.sign)=(0:Int)))) O O O) O ?_))))))))
 refine oNl' (zB (sL [2,3,4,5,9] O) (zA ?_))
 refine zL O (λhc0=>?_) (λhc0=>?_)
 ·replace hc0:=xT hc0
  exact q4 (AD (v:=(aG (AC (0:Rat)))) (AP (zs:=AC (0:Rat)) (vs:=AC (0:Rat)) (pv:=[]) (places:=[(0,3),(3,2)]) zeroValue77 underlying77 (λw=>by simp [sizeOf71,sizeOf75]) O (L_ )) O (Ag O sizeOf77 O (asg' O (oNl' (zB (sL [2,3,4,5] O) (zA (zF (zK (Bu O (Ao (i:=0) (cs:=AC (0:Rat)) O O isAgg77 sizeOf77 O) (rd_tmp (v:=(vI 5)) O) (λw hw=>⟨rfl,hw.out⟩))))))))))
 ·replace hc0:=xS hc0
  exact absurd O hc0
theorem IQ (z:Int) (hz:-9223372036854775808<=z) (hz2:z<9223372036854775808) (w:World)  :Calls prog 40 #[(vI z)] w (Ad w (aG (AC ((z:Int):Rat)))):=by
 refine AY (args:=[(vI z)]) func40 O O (BA O) (zM (sL [0] O) (q4 (al Dg O λb1=>oNl' (q2 (AL O (ck' call109 (ZY z Z Z) O (ck' call108 (Lw z) O (Ag O sizeOf77 O (oNl' (zB (sL [2] O) ?_))))))))))
 exact zA (zF (ret_one O (Ao (i:=0) (cs:=AC ((z:Int):Rat)) O O isAgg77 sizeOf77 O) (λw hw=>⟨rfl,hw.out⟩)))
end
section
instance:Add Pt:=⟨λa b=>⟨a.x+b.x,a.y+b.y⟩⟩
instance:Sub Pt:=⟨λa b=>⟨a.x-b.x,a.y-b.y⟩⟩
def Dk (a:Pt) (k:Rat):Pt:=⟨a.x*k,a.y*k⟩
def BI (a b:Pt):Rat:=a.x*b.y-a.y*b.x
def CK (a b:Pt):Rat:=a.x*b.x+a.y*b.y
def AN (a b c:Pt):Rat:=BI (b-a) (c-a)
def Bc (p:Pt):Nat:=max (Sz p.x) (Sz p.y)
theorem Dh (p:Pt):Sz p.x<=Bc p:=Nat.le_max_left ..
theorem Di (p:Pt):Sz p.y<=Bc p:=Nat.le_max_right ..
theorem M9 {p:Pt} {k:Nat} (h1:Sz p.x<=k) (h2:Sz p.y<=k):Bc p<=k:=Nat.max_le.2 ⟨h1,h2⟩
theorem W2 (a b:Pt):Bc (a+b)<=Bc a+Bc b+1:=by
  have h1:=Dh a;have h2:=Di a;have h3:=Dh b;have h4:=Di b
  refine M9 ?_ ?_
  · exact xM (Dx a.x b.x) Z
  · exact xM (Dx a.y b.y) Z
theorem D7 (a b:Pt):Bc (a-b)<=Bc a+Bc b+1:=by
  have h1:=Dh a;have h2:=Di a;have h3:=Dh b;have h4:=Di b
  refine M9 ?_ ?_
  · exact xM (Iv a.x b.x) Z
  · exact xM (Iv a.y b.y) Z
theorem Rl (a:Pt) (k:Rat):Bc (Dk a k)<=Bc a+Sz k:=by
  have h1:=Dh a;have h2:=Di a
  refine M9 ?_ ?_
  · exact xM (Cv a.x k) Z
  · exact xM (Cv a.y k) Z
theorem Fs (a b:Pt):Sz (BI a b)<=2*Bc a+2*Bc b+1:=by
  have h1:=Dh a;have h2:=Di a;have h3:=Dh b;have h4:=Di b
  have h5:=Cv a.x b.y;have h6:=Cv a.y b.x
  exact xM (Iv _ _) Z
theorem KX (a b:Pt):Sz (CK a b)<=2*Bc a+2*Bc b+1:=by
  have h1:=Dh a;have h2:=Di a;have h3:=Dh b;have h4:=Di b
  have h5:=Cv a.x b.x;have h6:=Cv a.y b.y
  exact xM (Dx _ _) Z
theorem EX (a b c:Pt):Sz (AN a b c)<=4*Bc a+2*Bc b+2*Bc c+5:=by
  have h1:=D7 b a;have h2:=D7 c a
  exact xM (Fs _ _) Z
theorem Qg:Sz (1/2:Rat)<=1:=by decide +kernel
theorem Xe:((1:Int):Rat)/((2:Int):Rat)=1/2:=by decide +kernel
theorem M_ {z:Int} (h1:-9223372036854775808<=z) (h2:z<9223372036854775808):Sz ((z:Int):Rat)<=2:=Yx (LS (by show z.natAbs<_;omega)) (by show nw 1<=2;rw [LQ];omega)
theorem YJ (a b:Pt):AZ (a+b)=AC (a.x+b.x)++AC (a.y+b.y):=rfl
theorem YL (a b:Pt):AZ (a-b)=AC (a.x-b.x)++AC (a.y-b.y):=rfl
theorem Sf (a:Pt) (k:Rat):AZ (Dk a k)=AC (a.x*k)++AC (a.y*k):=rfl
theorem Zr (x y:Rat):AZ ⟨x,y⟩=AC x++AC y:=rfl
section
variable {P:Program} {Q:Exit->Act->World->Prop} {n:Nat} {F:List (Nat×Value)} {w0:BC} {L:List As} {c:Code}
def FQ (P:Program) (c:Code) (Q:Exit->Act->World->Prop) (k n:Nat) (F:List (Nat×Value)) (w0:BC) (L:List As):Prop:=∀a w,Ce n a F->BD w0 w L->Code.rounds P c Q k a w
theorem yC (k:Nat) (h:FQ P c Q k n F w0 L):OkC P (.loop c) Q n F w0 L:=λa w ha hw=>wp_loop_rounds k (h a w ha hw)
theorem zf {k:Nat} (h:OkC P c (Exit.then (Code.rounds P c Q k) Q) n F w0 L):FQ P c Q (k+1) n F w0 L:=λa w ha hw=>by
  rw [rounds_succ];exact h a w ha hw
theorem zk {k:Nat} (h:FQ P c Q k n F w0 L):OkQ (Exit.then (Code.rounds P c Q k) Q) .normal n F w0 L:=h
end
end
section
set_option maxRecDepth 100000
theorem B4 (x0:Rat) (x1:Rat):Instr.fill ([(0,5),(5,5)].toArray[·]?) (AZ (⟨0,0⟩:Pt)).toArray [(0,.agg (AC x0).toArray),(1,.agg (AC x1).toArray)]=some (AC x0++AC x1).toArray:=by kernel_rfl
theorem OI (a b:Pt) (hs:Bc a+Bc b<=68719476736) (w:World)  :Calls prog 104 #[(aG (AZ a)),(aG (AZ b)),(Value.func (.func 90) #[] #[])] w (Ad w (aG (AZ (a+b)))):=by
 have p1:=Dh a
 have p2:=Di a
 have p3:=Dh b
 have p4:=Di b
 refine AY (args:=[(aG (AZ a)),(aG (AZ b)),(Value.func (.func 90) #[] #[])]) func104 O O (BA O) (zM (sL [0,1,2] O) (q4 (BV (cs:=AZ a) O λb1=>BV (cs:=AZ b) O λb2=>al EU O λb3=>q6 (sL [2,3,4,6] O) (DC (Er 5++[(6,true),(7,true),(8,true),(9,true),(10,true),(5,false),(11,false),(12,true),(13,false)]) (sl sr) (By O (Am (v:=(pP b1 0)) O (AA O underlying99 O sizeOf77 O) (GE 1 (AC a.x) Ba O (Am (v:=(pP b2 0)) O (AA O underlying99 O sizeOf77 O) ?_))))))))
 refine GE 0 (AC b.x) Ba O (By O (Am (v:=(pP b1 5)) O (AA O underlying99 O sizeOf77 O) (GE 1 (AC a.y) Ba O (Am (v:=(pP b2 5)) O (AA O underlying99 O sizeOf77 O) (GE 0 (AC b.y) Ba O (zN O ?_))))))
 have hz1:=Dx a.x b.x
 refine ck' call90 (HO a.x b.x (by (try simp only [Cw]);omega)) O (zD (sl sr) (zN O ?_))
 have hz2:=Dx a.y b.y
 exact ck' call90 (HO a.y b.y (by (try simp only [Cw]);omega)) O (zD (sl sr) (Am (v:=(aG (AC (a.x+b.x)++AC (a.y+b.y)))) O (AP (zs:=AZ (⟨0,0⟩:Pt)) (vs:=AC (a.x+b.x)++AC (a.y+b.y)) (pv:=[(0,(aG (AC (a.x+b.x)))),(1,(aG (AC (a.y+b.y))))]) (places:=[(0,5),(5,5)]) zeroValue99 underlying99 (λw=>by simp [sizeOf77]) O (B4 (a.x+b.x) (a.y+b.y))) (zN O (Ag O sizeOf99 O (zD (sl sr) (zQ (zB (sL [6] O) (zA (zF (ret_one O (Ao (i:=0) (cs:=AC (a.x+b.x)++AC (a.y+b.y)) O O isAgg99 sizeOf99 O) (λw hw=>⟨by rw [YJ],hw.out⟩)))))))))))
theorem OJ (a b:Pt) (hs:Bc a+Bc b<=68719476736) (w:World)  :Calls prog 104 #[(aG (AZ a)),(aG (AZ b)),(Value.func (.func 175) #[] #[])] w (Ad w (aG (AZ (a-b)))):=by
 have p1:=Dh a
 have p2:=Di a
 have p3:=Dh b
 have p4:=Di b
 refine AY (args:=[(aG (AZ a)),(aG (AZ b)),(Value.func (.func 175) #[] #[])]) func104 O O (BA O) (zM (sL [0,1,2] O) (q4 (BV (cs:=AZ a) O λb1=>BV (cs:=AZ b) O λb2=>al EU O λb3=>q6 (sL [2,3,4,6] O) (DC (Er 5++[(6,true),(7,true),(8,true),(9,true),(10,true),(5,false),(11,false),(12,true),(13,false)]) (sl sr) (By O (Am (v:=(pP b1 0)) O (AA O underlying99 O sizeOf77 O) (GE 1 (AC a.x) Ba O (Am (v:=(pP b2 0)) O (AA O underlying99 O sizeOf77 O) ?_))))))))
 refine GE 0 (AC b.x) Ba O (By O (Am (v:=(pP b1 5)) O (AA O underlying99 O sizeOf77 O) (GE 1 (AC a.y) Ba O (Am (v:=(pP b2 5)) O (AA O underlying99 O sizeOf77 O) (GE 0 (AC b.y) Ba O (zN O ?_))))))
 have hz1:=Iv a.x b.x
 refine ck' call175 (NS a.x b.x (by (try simp only [Cw]);omega)) O (zD (sl sr) (zN O ?_))
 have hz2:=Iv a.y b.y
 exact ck' call175 (NS a.y b.y (by (try simp only [Cw]);omega)) O (zD (sl sr) (Am (v:=(aG (AC (a.x-b.x)++AC (a.y-b.y)))) O (AP (zs:=AZ (⟨0,0⟩:Pt)) (vs:=AC (a.x-b.x)++AC (a.y-b.y)) (pv:=[(0,(aG (AC (a.x-b.x)))),(1,(aG (AC (a.y-b.y))))]) (places:=[(0,5),(5,5)]) zeroValue99 underlying99 (λw=>by simp [sizeOf77]) O (B4 (a.x-b.x) (a.y-b.y))) (zN O (Ag O sizeOf99 O (zD (sl sr) (zQ (zB (sL [6] O) (zA (zF (ret_one O (Ao (i:=0) (cs:=AC (a.x-b.x)++AC (a.y-b.y)) O O isAgg99 sizeOf99 O) (λw hw=>⟨by rw [YL],hw.out⟩)))))))))))
theorem Mw (x y k:Rat) (bk:Nat) (hs:Sz x+Sz k<=137438953472) (w:World) (hk:w.heap[bk]?=some (.cells (AC k).toArray 77 (0,0))):Calls prog 107 #[(aG (AC x)),(aG (AC y)),(pP bk 0)] w (Ad w (aG (AC (x*k)))):=by
 refine AY (args:=[(aG (AC x)),(aG (AC y)),(pP bk 0)]) func107 O O (BA O) (zM (sL [0,1,2] O) (q4 (BV (cs:=AC x) O λb1=>BV (cs:=AC y) O λb2=>al Dg O λb3=>q3 (sL [2,3,5] O) (Al 2 Ba O (AD (v:=(aG (AC k))) (EA (vs:=AC k) O (λw' hw=>hw.oldCA jX (El hk)) isAgg77 sizeOf77 O) O ?_)))))
 have hz1:=Cv x k
 exact ck' call91 (Du x k (by (try simp only [Cw]);omega)) O (Ag O sizeOf77 O (oNl' (zB (sL [5] O) (zA (zF (ret_one O (Ao (i:=0) (cs:=AC (x*k)) O O isAgg77 sizeOf77 O) (λw hw=>⟨rfl,hw.out⟩)))))))
theorem Lz (a:Pt) (k:Rat) (bk:Nat) (hs:Bc a+Sz k<=137438953472) (w:World) (hk:w.heap[bk]?=some (.cells (AC k).toArray 77 (0,0))):Calls prog 104 #[(aG (AZ a)),(aG (AZ a)),(Value.func (.func 107) #[] #[(pP bk 0)])] w (Ad w (aG (AZ (Dk a k)))):=by
 have p1:=Dh a
 have p2:=Di a
 refine AY (args:=[(aG (AZ a)),(aG (AZ a)),(Value.func (.func 107) #[] #[(pP bk 0)])]) func104 O O (BA O) (zM (sL [0,1,2] O) (q4 (BV (cs:=AZ a) O λb1=>BV (cs:=AZ a) O λb2=>al EU O λb3=>q6 (sL [2,3,4,6] O) (DC (Er 5++[(6,true),(7,true),(8,true),(9,true),(10,true),(5,false),(11,false),(12,true),(13,false)]) (sl sr) (By O (Am (v:=(pP b1 0)) O (AA O underlying99 O sizeOf77 O) (GE 1 (AC a.x) Ba O (Am (v:=(pP b2 0)) O (AA O underlying99 O sizeOf77 O) ?_))))))))
 refine GE 0 (AC a.x) Ba O (By O (Am (v:=(pP b1 5)) O (AA O underlying99 O sizeOf77 O) (GE 1 (AC a.y) Ba O (Am (v:=(pP b2 5)) O (AA O underlying99 O sizeOf77 O) (GE 0 (AC a.y) Ba O (zN O (zh (v:=(aG (AC (a.x*k)))) (AI O) (Df (args:=[(aG (AC a.x)),(aG (AC a.x))]) (caps:=[(pP bk 0)]) (all:=[(aG (AC a.x)),(aG (AC a.x)),(pP bk 0)]) O O O call107) (λw hw=>Mw a.x a.x k bk Z w (hw.old jX hk)) O (BA O) (zD (sl sr) (zN O (zh (v:=(aG (AC (a.y*k)))) (AI O) (Df (args:=[(aG (AC a.y)),(aG (AC a.y))]) (caps:=[(pP bk 0)]) (all:=[(aG (AC a.y)),(aG (AC a.y)),(pP bk 0)]) O O O call107) (λw hw=>Mw a.y a.y k bk Z w (hw.old jX hk)) O (BA O) (zD (sl sr) ?_)))))))))))
 exact Am (v:=(aG (AC (a.x*k)++AC (a.y*k)))) O (AP (zs:=AZ (⟨0,0⟩:Pt)) (vs:=AC (a.x*k)++AC (a.y*k)) (pv:=[(0,(aG (AC (a.x*k)))),(1,(aG (AC (a.y*k))))]) (places:=[(0,5),(5,5)]) zeroValue99 underlying99 (λw=>by simp [sizeOf77]) O (B4 (a.x*k) (a.y*k))) (zN O (Ag O sizeOf99 O (zD (sl sr) (zQ (zB (sL [6] O) (zA (zF (ret_one O (Ao (i:=0) (cs:=AC (a.x*k)++AC (a.y*k)) O O isAgg99 sizeOf99 O) (λw hw=>⟨by rw [Sf],hw.out⟩)))))))))
theorem YD (a b:Pt) (hs:Bc a+Bc b<=68719476736) (w:World)  :Calls prog 36 #[(aG (AZ a)),(aG (AZ b))] w (Ad w (aG (AZ (a+b)))):=by
 refine AY (args:=[(aG (AZ a)),(aG (AZ b))]) func36 O O (BA O) (zM (sL [0,1] O) (q4 (BV (cs:=AZ a) O λb1=>BV (cs:=AZ b) O λb2=>al EU O λb3=>q3 (sL [2,3,4] O) (Al 2 A_ O (Al 1 A_ O (ck' call104 (OI a b Z) O (Ag O sizeOf99 O (oNl' ?_))))))))
 exact zB (sL [4] O) (zA (zF (ret_one O (Ao (i:=0) (cs:=AZ (a+b)) O O isAgg99 sizeOf99 O) (λw hw=>⟨rfl,hw.out⟩))))
theorem Fd (a b:Pt) (hs:Bc a+Bc b<=68719476736) (w:World)  :Calls prog 120 #[(aG (AZ a)),(aG (AZ b))] w (Ad w (aG (AZ (a-b)))):=by
 refine AY (args:=[(aG (AZ a)),(aG (AZ b))]) func120 O O (BA O) (zM (sL [0,1] O) (q4 (BV (cs:=AZ a) O λb1=>BV (cs:=AZ b) O λb2=>al EU O λb3=>q3 (sL [2,3,4] O) (Al 2 A_ O (Al 1 A_ O (ck' call104 (OJ a b Z) O (Ag O sizeOf99 O (oNl' ?_))))))))
 exact zB (sL [4] O) (zA (zF (ret_one O (Ao (i:=0) (cs:=AZ (a-b)) O O isAgg99 sizeOf99 O) (λw hw=>⟨rfl,hw.out⟩))))
theorem Sc (a:Pt) (k:Rat) (hs:Bc a+Sz k<=137438953472) (w:World)  :Calls prog 39 #[(aG (AZ a)),(aG (AC k))] w (Ad w (aG (AZ (Dk a k)))):=by
 refine AY (args:=[(aG (AZ a)),(aG (AC k))]) func39 O O (BA O) (zM (sL [0,1] O) (q4 (BV (cs:=AZ a) O λb1=>BV (cs:=AC k) O λb2=>al EU O λb3=>q3 (sL [2,3,4] O) (Al 2 A_ O (Al 2 A_ O (AD (v:=(Value.func (.func 107) #[] #[(pP b2 0)])) (DL (vs:=[]) (us:=[(pP b2 0)]) O O) O (DH call104 (λw hw=>Lz a k b2 Z w (hw.get (i:=1) O)) O (Ag O sizeOf99 O ?_))))))))
 exact oNl' (zB (sL [4] O) (zA (zF (ret_one O (Ao (i:=0) (cs:=AZ (Dk a k)) O O isAgg99 sizeOf99 O) (λw hw=>⟨rfl,hw.out⟩)))))
theorem F4 (a b:Pt) (hs:Bc a+Bc b<=68719476736) (w:World)  :Calls prog 195 #[(aG (AZ a)),(aG (AZ b))] w (Ad w (aG (AC (BI a b)))):=by
 have p1:=Dh a
 have p2:=Di a
 have p3:=Dh b
 have p4:=Di b
 refine AY (args:=[(aG (AZ a)),(aG (AZ b))]) func195 O O (BA O) (zM (sL [0,1] O) (q4 (BV (cs:=AZ a) O λb1=>BV (cs:=AZ b) O λb2=>al Dg O λb3=>q6 (sL [2,3,4] O) (DC (Er 4++[(5,true),(6,true),(7,true),(8,true),(4,false),(9,false),(10,false),(11,false)]) (sl sr) (Am (v:=(pP b1 0)) O (AA O underlying99 O sizeOf77 O) (GE 1 (AC a.x) Ba O (Am (v:=(pP b2 5)) O (AA O underlying99 O sizeOf77 O) (GE 0 (AC b.y) Ba O ?_))))))))
 refine Am (v:=(pP b1 5)) O (AA O underlying99 O sizeOf77 O) (GE 1 (AC a.y) Ba O (Am (v:=(pP b2 0)) O (AA O underlying99 O sizeOf77 O) (GE 0 (AC b.x) Ba O (zN O ?_))))
 have hz1:=Cv a.x b.y
 refine ck' call91 (Du a.x b.y (by (try simp only [Cw]);omega)) O (zD (sl sr) (zN O ?_))
 have hz2:=Cv a.y b.x
 refine ck' call91 (Du a.y b.x (by (try simp only [Cw]);omega)) O (zD (sl sr) (zN O ?_))
 have hz3:=Iv (a.x*b.y) (a.y*b.x)
 exact ck' call175 (NS (a.x*b.y) (a.y*b.x) (by (try simp only [Cw]);omega)) O (zD (sl sr) (zN O (Ag O sizeOf77 O (zD (sl sr) (zQ (zB (sL [4] O) (zA (zF (ret_one O (Ao (i:=0) (cs:=AC ((a.x*b.y)-(a.y*b.x))) O O isAgg77 sizeOf77 O) (λw hw=>⟨rfl,hw.out⟩))))))))))
theorem KL (a b:Pt) (hs:Bc a+Bc b<=68719476736) (w:World)  :Calls prog 121 #[(aG (AZ a)),(aG (AZ b))] w (Ad w (aG (AC (CK a b)))):=by
 have p1:=Dh a
 have p2:=Di a
 have p3:=Dh b
 have p4:=Di b
 refine AY (args:=[(aG (AZ a)),(aG (AZ b))]) func121 O O (BA O) (zM (sL [0,1] O) (q4 (BV (cs:=AZ a) O λb1=>BV (cs:=AZ b) O λb2=>al Dg O λb3=>q6 (sL [2,3,4] O) (DC (Er 4++[(5,true),(6,true),(7,true),(8,true),(4,false),(9,false),(10,false),(11,false)]) (sl sr) (Am (v:=(pP b1 0)) O (AA O underlying99 O sizeOf77 O) (GE 1 (AC a.x) Ba O (Am (v:=(pP b2 0)) O (AA O underlying99 O sizeOf77 O) (GE 0 (AC b.x) Ba O ?_))))))))
 refine Am (v:=(pP b1 5)) O (AA O underlying99 O sizeOf77 O) (GE 1 (AC a.y) Ba O (Am (v:=(pP b2 5)) O (AA O underlying99 O sizeOf77 O) (GE 0 (AC b.y) Ba O (zN O ?_))))
 have hz1:=Cv a.x b.x
 refine ck' call91 (Du a.x b.x (by (try simp only [Cw]);omega)) O (zD (sl sr) (zN O ?_))
 have hz2:=Cv a.y b.y
 refine ck' call91 (Du a.y b.y (by (try simp only [Cw]);omega)) O (zD (sl sr) (zN O ?_))
 have hz3:=Dx (a.x*b.x) (a.y*b.y)
 exact ck' call90 (HO (a.x*b.x) (a.y*b.y) (by (try simp only [Cw]);omega)) O (zD (sl sr) (zN O (Ag O sizeOf77 O (zD (sl sr) (zQ (zB (sL [4] O) (zA (zF (ret_one O (Ao (i:=0) (cs:=AC ((a.x*b.x)+(a.y*b.y))) O O isAgg77 sizeOf77 O) (λw hw=>⟨rfl,hw.out⟩))))))))))
theorem G2 (a b c:Pt) (hs:Bc a+Bc b+Bc c<=17179869184) (w:World)  :Calls prog 143 #[(aG (AZ a)),(aG (AZ b)),(aG (AZ c))] w (Ad w (vI ((AN a b c).num.sign))):=by
 refine AY (args:=[(aG (AZ a)),(aG (AZ b)),(aG (AZ c))]) func143 O O (BA O) (zM (sL [0,1,2] O) (q4 (BV (cs:=AZ a) O λb1=>BV (cs:=AZ b) O λb2=>BV (cs:=AZ c) O λb3=>asg' O (q6 (sL [3,4,5,6] O) (DC [(0,true),(1,true),(3,true),(4,true),(2,false),(5,false),(6,false),(7,false),(8,true)] sr (Ew 1 A_ O (Ew 2 A_ O (Ew 0 A_ O ?_))))))))
 refine Ew 2 A_ O (zN O ?_)
 have hz1:=D7 b a
 refine ck' call120 (Fd b a Z) O (zD sr (zN O ?_))
 have hz2:=D7 c a
 refine ck' call120 (Fd c a Z) O (zD sr (zN O ?_))
 have hz3:=Fs (b-a) (c-a)
 exact ck' call195 (F4 (b-a) (c-a) Z) O (zD sr (zN O (ck' call196 (Ed (BI (b-a) (c-a))) O (zD sr (pS' O (zQ (zB (sL [6] O) (zA (zF (ret_one O (rd_tmp (v:=(vI ((BI (b-a) (c-a)).num.sign))) O) (λw hw=>⟨rfl,hw.out⟩)))))))))))
theorem H7 (a b:Pt) (hs:Bc a+Bc b<=17179869184) (w:World)  :Calls prog 71 #[(aG (AZ a)),(aG (AZ b))] w (Ad w (aG (AC (CK (b-a) (b-a))))):=by
 refine AY (args:=[(aG (AZ a)),(aG (AZ b))]) func71 O O (BA O) (zM (sL [0,1] O) (q4 (BV (cs:=AZ a) O λb1=>BV (cs:=AZ b) O λb2=>al Dg O λb3=>q3 (sL [2,3,4] O) (Al 1 A_ O (Al 2 A_ O ?_)))))
 have hz1:=D7 b a
 refine ck' call120 (Fd b a Z) O (al EU O λb4=>Ag O sizeOf99 O (q3 (sL [4,5] O) (Al 0 A_ O (Al 0 A_ O ?_))))
 have hz2:=KX (b-a) (b-a)
 exact ck' call121 (KL (b-a) (b-a) Z) O (Cd O sizeOf77 O (oNl' (zB (sL [4,5] O) (zA (zF (ret_one O (Ao (i:=1) (cs:=AC (CK (b-a) (b-a))) O O isAgg77 sizeOf77 O) (λw hw=>⟨rfl,hw.out⟩)))))))
theorem KM (x y:Int) (h1:-9223372036854775808<=x) (h2:x<9223372036854775808) (h3:-9223372036854775808<=y) (h4:y<9223372036854775808) (w:World)  :Calls prog 42 #[(vI x),(vI y)] w (Ad w (aG (AZ (⟨((x:Int):Rat),((y:Int):Rat)⟩:Pt)))):=by
 refine AY (args:=[(vI x),(vI y)]) func42 O O (BA O) (zM (sL [0,1] O) (q4 (al EU O λb1=>oNl' (q2 (AL O (ck' call40 (IQ x Z Z) O (AL O (ck' call40 (IQ y Z Z) O (AD (v:=(aG (AC ((x:Int):Rat)++AC ((y:Int):Rat)))) (AP (zs:=AZ (⟨0,0⟩:Pt)) (vs:=AC ((x:Int):Rat)++AC ((y:Int):Rat)) (pv:=[(0,(aG (AC ((x:Int):Rat)))),(1,(aG (AC ((y:Int):Rat))))]) (places:=[(0,5),(5,5)]) zeroValue99 underlying99 (λw=>by simp [sizeOf77]) O (B4 ((x:Int):Rat) ((y:Int):Rat))) O (Ag O sizeOf99 O ?_))))))))))
 exact oNl' (zB (sL [4] O) (zA (zF (ret_one O (Ao (i:=0) (cs:=AC ((x:Int):Rat)++AC ((y:Int):Rat)) O O isAgg99 sizeOf99 O) (λw hw=>⟨by rw [Zr],hw.out⟩)))))
end
section
set_option maxRecDepth 100000
theorem Pn (x y:Int) (h1:-9223372036854775808<=x) (h2:x<9223372036854775808) (h3:-9223372036854775808<=y) (h4:y<9223372036854775808) (hy:y≠0) (w:World)  :Calls prog 93 #[(vI x),(vI y)] w (Ad w (Value.tuple #[(aG (AC (((x:Int):Rat)/((y:Int):Rat)))),(vI 0)])):=by
 have hb:((y:Int):Rat)≠0:=λe=>hy (by exact_mod_cast e)
 have s1:=M_ h1 h2
 have s2:=M_ h3 h4
 refine AY (args:=[(vI x),(vI y)]) func93 O O (BA O) (zM (sL [0,1] O) (q4 (al Dg O λb1=>asg' O (oNl' (q2 (AL O (ck' call40 (IQ x Z Z) O (AL O (ck' call40 (IQ y Z Z) O ?_)))))))))
 have hz1:=KW (a:=((x:Int):Rat)) (b:=((y:Int):Rat)) (by assumption)
 exact ck' call156 (KC ((x:Int):Rat) ((y:Int):Rat) Z (by assumption)) O (AD (AK (v:=(aG (AC (((x:Int):Rat)/((y:Int):Rat))))) O O) O (AD (AK (v:=(vI 0)) O O) O (Ag O sizeOf77 O (asg' O (oNl' (zB (sL [4,5] O) (zA (zF (Bu O (Ao (i:=0) (cs:=AC (((x:Int):Rat)/((y:Int):Rat))) O O isAgg77 sizeOf77 O) (rd_tmp (v:=(vI 0)) O) (λw hw=>⟨rfl,hw.out⟩))))))))))
theorem WK (x:Rat) (hs:Sz x<=137438953472) (w:World)  :Calls prog 154 #[(aG (AC x))] w (Ad w (aG (AC (x*(1/2))))):=by
 have sh:=Qg
 refine AY (args:=[(aG (AC x))]) func154 O O (BA O) (zM (sL [0] O) (q4 (BV (cs:=AC x) O λb1=>al Dg O λb2=>q3 (sL [1,2] O) (ck' call93 (Pn (1:Int) (2:Int) Z Z Z Z Z) O (AL O (AD (AK (v:=(aG (AC (((1:Int):Rat)/((2:Int):Rat))))) O O) O (zI (k:=7) (u:=(aG (AC ((1:Rat)/2)))) O (by rw [Xe]) (AD (AK (v:=(vI 0)) O O) O (al Dg O λb3=>?_)))))))))
 refine Ag O sizeOf77 O (asg' O (q3 (sL [1,2,3] O) (Al 2 Ba O (Al 0 Ba O ?_))))
 have hz1:=Cv x ((1:Rat)/2)
 exact ck' call91 (Du x ((1:Rat)/2) (by (try simp only [Cw]);omega)) O (Cd O sizeOf77 O (oNl' (zB (sL [2,3] O) (zA (zF (ret_one O (Ao (i:=1) (cs:=AC (x*((1:Rat)/2))) O O isAgg77 sizeOf77 O) (λw hw=>⟨rfl,hw.out⟩)))))))
theorem EJ (a b c:Pt) (hs:Bc a+Bc b+Bc c<=8589934592) (w:World)  :Calls prog 155 #[(aG (AZ a)),(aG (AZ b)),(aG (AZ c))] w (Ad w (aG (AC (AN a b c)))):=by
 refine AY (args:=[(aG (AZ a)),(aG (AZ b)),(aG (AZ c))]) func155 O O (BA O) (zM (sL [0,1,2] O) (q4 (BV (cs:=AZ a) O λb1=>BV (cs:=AZ b) O λb2=>BV (cs:=AZ c) O λb3=>al Dg O λb4=>q6 (sL [3,4,5,6] O) (DC [(0,true),(1,true),(3,true),(4,true),(2,false),(5,false),(6,false),(7,false)] (sl sr) (Ew 1 A_ O (Ew 2 A_ O (Ew 0 A_ O ?_)))))))
 refine Ew 2 A_ O (zN O ?_)
 have hz1:=D7 b a
 refine ck' call120 (Fd b a Z) O (zD (sl sr) (zN O ?_))
 have hz2:=D7 c a
 refine ck' call120 (Fd c a Z) O (zD (sl sr) (zN O ?_))
 have hz3:=Fs (b-a) (c-a)
 exact ck' call195 (F4 (b-a) (c-a) Z) O (zD (sl sr) (zN O (Ag O sizeOf77 O (zD (sl sr) (zQ (zB (sL [6] O) (zA (zF (ret_one O (Ao (i:=0) (cs:=AC (BI (b-a) (c-a))) O O isAgg77 sizeOf77 O) (λw hw=>⟨rfl,hw.out⟩))))))))))
theorem Wq (a b c:Pt) (hs:Bc a+Bc b+Bc c<=8589934592) (w:World)  :Calls prog 92 #[(aG (AZ a)),(aG (AZ b)),(aG (AZ c))] w (Ad w (aG (AC (AN a b c*(1/2))))):=by
 refine AY (args:=[(aG (AZ a)),(aG (AZ b)),(aG (AZ c))]) func92 O O (BA O) (zM (sL [0,1,2] O) (q4 (BV (cs:=AZ a) O λb1=>BV (cs:=AZ b) O λb2=>BV (cs:=AZ c) O λb3=>al Dg O λb4=>q3 (sL [3,4,5,6] O) (Al 3 A_ O (Al 2 A_ O (Al 1 A_ O ?_))))))
 have hz1:=EX a b c
 refine ck' call155 (EJ a b c Z) O ?_
 have hz2:=Cv (AN a b c) (1/2)
 exact ck' call154 (WK (AN a b c) Z) O (Ag O sizeOf77 O (oNl' (zB (sL [6] O) (zA (zF (ret_one O (Ao (i:=0) (cs:=AC ((AN a b c)*(1/2))) O O isAgg77 sizeOf77 O) (λw hw=>⟨rfl,hw.out⟩)))))))
end
end Go.Proofs.YtpolhpjiahbidaaGreatDoor
