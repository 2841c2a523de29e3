import Derived.Test.YtpolhpjiahbidaaGreatDoorPrt07
namespace Go.Proofs.YtpolhpjiahbidaaGreatDoor
open Go Go.RowKit Go.Proofs.Tryz
open Go.Value renaming slice→qz,bool→qa
set_option linter.unusedVariables false
set_option linter.unusedSimpArgs false
def Sz (q:Rat):Nat:=max (nw q.num.natAbs) (nw q.den)
theorem Cx (q:Rat):nw q.num.natAbs<=Sz q:=Nat.le_max_left ..
theorem Cc (q:Rat):nw q.den<=Sz q:=Nat.le_max_right ..
theorem Fp (q:Rat):nw (q.den-1)<=Sz q:=xx (Ct (Nat.sub_le _ _)) (Cc q)
theorem aE {q:Rat} {k:Nat} (h1:nw q.num.natAbs<=k) (h2:nw q.den<=k):Sz q<=k:=Nat.max_le.2 ⟨h1,h2⟩
theorem JQ:nw 1=1:=by decide
theorem QO (q:Rat):1<=Sz q:=xx (by rw [<-JQ];exact Ct q.den_pos) (Cc q)
theorem Kg {n:Int} {d k:Nat} (h1:nw n.natAbs<=k) (h2:nw d<=k) (hk:1<=k):Sz (mkRat n d)<=k:=by
  refine aE ?_ ?_
  · rw [Rat.num_mkRat]
    split
    · exact xu _
    · refine xx (Ct ?_) h1
      rw [Int.natAbs_ediv_of_dvd (by rw [Int.ofNat_dvd_left];exact Nat.gcd_dvd_right ..)]
      exact Nat.div_le_self _ _
  · rw [Rat.den_mkRat]
    split
    · rw [JQ];exact hk
    · exact xx (Ct (Nat.div_le_self _ _)) h2
theorem Sg (a b:Int):nw (a*b).natAbs<=nw a.natAbs+nw b.natAbs:=by rw [Int.natAbs_mul];exact Wu _ _
theorem D0 (a b:Int):nw (a+b).natAbs<=max (nw a.natAbs) (nw b.natAbs)+1:=xx (Ct (Int.natAbs_add_le a b)) (bu _ _)
theorem CN (a b:Rat):nw (a.num*((b.den:Nat):Int)).natAbs<=Sz a+Sz b:=by
  have h1:=Sg a.num ((b.den:Nat):Int)
  have h2:=Cx a
  have h3:=Cc b
  rw [Int.natAbs_natCast] at h1
  omega
theorem GY (a b:Rat):nw (a.den*b.den)<=Sz a+Sz b:=by
  have h1:=Wu a.den b.den
  have h2:=Cc a
  have h3:=Cc b
  omega
theorem HF (a b:Rat):nw (a.num*b.num).natAbs<=Sz a+Sz b:=by
  have h1:=Sg a.num b.num
  have h2:=Cx a
  have h3:=Cx b
  omega
theorem HY (a b:Rat):mkRat (a.num*((b.den:Nat):Int)+b.num*((a.den:Nat):Int)) (a.den*b.den)=a+b:=by rw [Rat.add_def,Rat.normalize_eq_mkRat]
theorem JL (a b:Rat):mkRat (a.num*b.num) (a.den*b.den)=a*b:=by rw [Rat.mul_def,Rat.normalize_eq_mkRat]
theorem I2 {a:Rat} (h:a.den-1=0):a=((a.num:Int):Rat):=by
  have h1:a.den=1:=by have:=a.den_pos;omega
  exact Rat.ext O h1
theorem TD {a b:Rat} (ha:a.den-1=0) (hb:b.den-1=0):((a.num+b.num:Int):Rat)=a+b:=by
  rw [Rat.intCast_add,<-I2 ha,<-I2 hb]
theorem Tp {a b:Rat} (ha:a.den-1=0) (hb:b.den-1=0):((a.num*b.num:Int):Rat)=a*b:=by
  rw [Rat.intCast_mul,<-I2 ha,<-I2 hb]
theorem Oz {a b:Rat} (h:a.den-1=b.den-1):a.den=b.den:=by
  have h1:=a.den_pos
  have h2:=b.den_pos
  omega
theorem VH {a b:Rat} (h:a.den-1=b.den-1):mkRat (a.num+b.num) a.den=a+b:=by
  have h1:=Oz h
  have h2:a+b=mkRat a.num a.den+mkRat b.num a.den:=by rw [Rat.mkRat_self];conv=>lhs;rw [<-Rat.mkRat_self b,<-h1]
  rw [h2,Rat.mkRat_eq_div,Rat.mkRat_eq_div,Rat.mkRat_eq_div,Rat.intCast_add,Rat.div_def,Rat.div_def,Rat.div_def,Rat.add_mul]
theorem Cb (a b:Rat):Sz (a+b)<=Sz a+Sz b+1:=by
  rw [<-HY]
  have h1:=CN a b
  have h2:=CN b a
  have h3:=D0 (a.num*((b.den:Nat):Int)) (b.num*((a.den:Nat):Int))
  have h4:=GY a b
  exact Kg Z Z Z
theorem Bo (a b:Rat):Sz (a*b)<=Sz a+Sz b:=by
  rw [<-JL]
  have:=QO a
  exact Kg (HF a b) (GY a b) Z
theorem BO (a:Rat):Sz (-a)=Sz a:=by unfold Sz;rw [Rat.neg_num,Rat.neg_den,Int.natAbs_neg]
theorem EK (a b:Rat):Sz (a-b)<=Sz a+Sz b+1:=by rw [Rat.sub_eq_add_neg,<-BO b];exact Cb a (-b)
theorem JI {b:Rat} (h:b≠0):mkRat (EG (decide (b.num.sign<0)) b.den) b.num.natAbs=b⁻¹:=by
  have hn:b.num≠0:=λe=>h (Rat.num_eq_zero.1 e)
  have hb:b=(b.num:Rat)/((b.den:Nat):Rat):=by rw [<-Rat.mkRat_eq_div,Rat.mkRat_self]
  have hd:((b.den:Nat):Rat)≠0:=by
    intro e
    have:=b.den_pos
    have h2:b.den=0:=by exact_mod_cast e
    omega
  have hn2:((b.num:Int):Rat)≠0:=by
    intro e
    exact hn (by exact_mod_cast e)
  rw [Rat.mkRat_eq_div]
  conv=>rhs;rw [hb]
  by_cases hs:b.num<0
  · have e1:decide (b.num.sign<0)=true:=by simp [Int.sign_eq_neg_one_of_neg hs]
    have e2:((b.num.natAbs:Nat):Rat) = -((b.num:Int):Rat):=by
      have:((b.num.natAbs:Nat):Int) = -b.num:=by omega
      rw [<-Rat.intCast_natCast,this,Rat.intCast_neg]
    rw [e1,e2]
    simp only [EG,if_true,Rat.intCast_neg,Rat.intCast_natCast]
    grind
  · have e1:decide (b.num.sign<0)=false:=by
      have:0<=b.num.sign:=Int.sign_nonneg_iff.2 Z
      exact xq Z
    have e2:((b.num.natAbs:Nat):Rat)=((b.num:Int):Rat):=by
      have:((b.num.natAbs:Nat):Int)=b.num:=by omega
      rw [<-Rat.intCast_natCast,this]
    rw [e1,e2]
    simp only [EG,Bool.false_eq_true,if_false,Rat.intCast_natCast]
    grind
theorem QN {b:Rat} (h:b≠0):Sz b⁻¹<=Sz b:=by
  rw [<-JI h]
  exact Kg (by rw [Ax];exact Cc b) (Cx b) (QO b)
theorem I7 {a b:Rat} (h:b≠0):Sz (a/b)<=Sz a+Sz b:=by
  rw [Rat.div_def]
  have h1:=Bo a b⁻¹
  have h2:=QN h
  omega
def E5 (a b:Rat):Int:=if a<b then -1 else if a=b then 0 else 1
theorem H6 (a b:Rat):(a.num*((b.den:Nat):Int)-b.num*((a.den:Nat):Int)).sign=E5 a b:=by
  have h1:=Rat.lt_iff a b
  have h2:=@Rat.eq_iff_mul_eq_mul a b
  unfold E5
  split
  · rename_i h;exact Int.sign_eq_neg_one_of_neg (by have:=h1.1 h;omega)
  · rename_i h
    split
    · rename_i h';rw [h2.1 h'];simp
    · rename_i h'
      have h3:¬a.num*((b.den:Nat):Int)<b.num*((a.den:Nat):Int):=λe=>h (h1.2 e)
      have h4:¬a.num*((b.den:Nat):Int)=b.num*((a.den:Nat):Int):=λe=>h' (h2.2 e)
      exact Int.sign_eq_one_of_pos Z
theorem TK {a b:Rat} (h:a.den-1=b.den-1):(a.num-b.num).sign=E5 a b:=by
  rw [<-H6,<-Oz h,<-Int.sub_mul,Int.sign_mul]
  have:=a.den_pos
  rw [show ((a.den:Nat):Int).sign=1 from Int.sign_eq_one_of_pos Z]
  simp
theorem KE {a b:Rat}:E5 a b<0↔a<b:=by
  unfold E5;split
  · simp [*]
  · split<;>simp [*]
theorem R_ {a b:Rat}:E5 a b=0↔a=b:=by
  unfold E5;split
  · rename_i h
    constructor
    · intro e;cases e
    · intro e;subst e;exact absurd h jX
  · split<;>simp [*]
theorem Jl (q:Rat):AG q=A7 q.num++AT (q.den-1):=rfl
theorem N6 {n:Int} {d:Nat} (hd:d≠0):(mkRat n d).num=EG (decide (n.sign<0)) (n.natAbs/Nat.gcd n.natAbs d):=by
  rw [Rat.num_mkRat,if_neg hd,Nat.gcd_comm]
  unfold EG
  by_cases h:n<0
  · rw [Int.sign_eq_neg_one_of_neg h]
    have e:n = -((n.natAbs:Nat):Int):=by omega
    simp only [show decide ((-1:Int)<0)=true from rfl,if_true]
    conv=>lhs;rw [e]
    rw [Int.natAbs_neg,Int.natAbs_natCast,Int.neg_ediv_of_dvd (by rw [Int.natCast_dvd_natCast];exact Nat.gcd_dvd_left ..)]
    rfl
  · have h0:0<=n.sign:=Int.sign_nonneg_iff.2 Z
    have e:n=((n.natAbs:Nat):Int):=by omega
    rw [if_neg (by simp;omega)]
    conv=>lhs;rw [e]
    rw [Int.natAbs_natCast]
    rfl
theorem SZ {n:Int} {d:Nat} (hd:d≠0):(mkRat n d).den=d/Nat.gcd n.natAbs d:=by rw [Rat.den_mkRat,if_neg hd,Nat.gcd_comm]
section
set_option maxRecDepth 100000
theorem Dt (x0:Int) (x1:Nat):Instr.fill ([(0,3),(3,2)].toArray[·]?) (AG (0:Rat)).toArray [(0,.agg (A7 x0).toArray),(1,.agg (AT x1).toArray)]=some (A7 x0++AT x1).toArray:=by kernel_rfl
theorem Hh (n:Int) (d:Nat) (hn:nw n.natAbs<=1099511627776) (hd:nw d<=1099511627776) (hd0:d≠0) (w:World)  :Calls prog 152 #[(aG (A7 n)),(aG (AT d))] w (AX w (aG (AG (mkRat n d)))):=by
 have hg:Nat.gcd n.natAbs d≠0:=λh=>hd0 (Nat.eq_zero_of_gcd_eq_zero_right h)
 have hgw:nw (Nat.gcd n.natAbs d)<=nw d:=Ct (Nat.gcd_le_right _ (Nat.pos_of_ne_zero hd0))
 have hqw:nw (d/Nat.gcd n.natAbs d)<=nw d:=Ct (Nat.div_le_self _ _)
 have h1w:=JQ
 refine AS (args:=[(aG (A7 n)),(aG (AT d))]) func152 O O (leB O) (zM (sL [0,1] O) (q4 (BG (cs:=A7 n) O λb1=>BG (cs:=AT d) O λb2=>al Dg O λb3=>q6 (sL [2,3,4] O) (rN [(0,true),(2,true),(1,false),(3,false)] [⟨4,5,71,AT 0⟩] [(5,false)] sr jV (λ_ _ d _ _ h=>by cases d<;>exact h) (EP O O Gl O (Fk)) O (DN 2 DK O (DN 1 B3 O (zi O λEF EL=>ck' call202 (Nz n) O ?_)))))))
 refine zl sr O (zi O λEF EL=>ck' call201 (ae n.natAbs d Z Z) O (zl sr O (yI λb4=>zL O (Aj O sizeOf71 O (zG (sl sr) (zT (zF (sL [2,3,4,5] O) (q1 (rN [(0,true),(2,true),(1,false),(3,false),(4,true),(5,true),(6,true),(7,true)] [⟨8,6,71,AT 0⟩,⟨9,7,71,AT 0⟩] [(10,false),(11,false),(12,true)] sr jV (λ_ _ d _ _ h=>by cases d<;>exact h) (EP O O Gl O (EP O O Gl O (Fk))) O ?_)))))))))
 refine DN 3 DK O (DN 0 B3 O (zi O λEF EL=>ck' call202 (Nz n) O (zl sr O (zi O λEF EL=>ck' call203 (QF n.natAbs (Nat.gcd n.natAbs d) Z Z Z) O (zl sr O (Rj O (FP O (AK (v:=(aG (AT (n.natAbs/(Nat.gcd n.natAbs d))))) O O) O (FP O (AK (v:=(aG (AT (n.natAbs%(Nat.gcd n.natAbs d))))) O O) O (FP O (AK (v:=(qa true)) O O) O ?_)))))))))
 refine yr λb5 b6=>zL O (Aj O sizeOf71 O (zG (sl (sl sr)) (zL O (CP O sizeOf71 O (zG (sl (sl sr)) (pS' O (zT (zF (sL [2,3,4,5,6] O) (q2 (An 4 B3 O ?_))))))))))
 refine An 2 B3 O (ck' call203 (QF d (Nat.gcd n.natAbs d) Z Z Z) O (AJ O (st' (AK (v:=(aG (AT (d/(Nat.gcd n.natAbs d))))) O O) O (st' (AK (v:=(aG (AT (d%(Nat.gcd n.natAbs d))))) O O) O (st' (AK (v:=(qa true)) O O) O (al Gl O λb7=>al Gl O λb8=>CP O sizeOf71 O (Aj O sizeOf71 O (asg' O (q6 (sL [2,3,4,5,6,9] O) ?_)))))))))
 refine rC [(0,true),(1,false),(2,false),(3,true),(4,true),(5,true)] 6 [] sr (sk (sl sr)) jV (λ_ _ d _ _ h=>by cases d<;>exact h) (vE (v:=(aG (AT (d/(Nat.gcd n.natAbs d))))) O (Ac (i:=1) (vs:=AT (d/(Nat.gcd n.natAbs d))) O O B3.a B3.s O O) O (yC O (ck' call172 (KV 1 Z) O (z7 sr (yC O (ck' call204 (QM (d/(Nat.gcd n.natAbs d)) 1 Z Z) O (z7 sr (vM O O O (vE O (AK (v:=(aG (AT ((d/(Nat.gcd n.natAbs d))-1)))) O O) O (vE O (AK (v:=(qa (decide (1<=d/(Nat.gcd n.natAbs d))))) O O) O (yU O ?_)))))))))))
 refine CP O sizeOf71 O (zG (sk (sl sr)) (zT (zF (sL [2,3,4,5,6,9] O) (q1 (CE [(0,true),(3,true),(5,true),(1,false),(2,true),(4,false),(6,true),(7,false)] (sk (sk (sk (sk (sk (sl sr)))))) (C3 6 DK O (C3 2 B3 O (C3 1 B3 O (zL O (ck' call176 (LN n) O (zG (sk (sk (sk (sk (sk (sl sr)))))) ?_)))))))))))
 exact Ag O (AW (c:=(decide (n.sign<(0:Int)))) O O O) (zL O (ck' call171 (Ek (decide (n.sign<(0:Int))) (n.natAbs/(Nat.gcd n.natAbs d))) O (zG (sk (sk (sk (sk (sk (sl sr)))))) (Ag (v:=(aG (A7 (EG (decide (n.sign<(0:Int))) (n.natAbs/(Nat.gcd n.natAbs d)))++AT ((d/(Nat.gcd n.natAbs d))-1)))) O (AO (zs:=AG (0:Rat)) (vs:=A7 (EG (decide (n.sign<(0:Int))) (n.natAbs/(Nat.gcd n.natAbs d)))++AT ((d/(Nat.gcd n.natAbs d))-1)) (pv:=[(0,(aG (A7 (EG (decide (n.sign<(0:Int))) (n.natAbs/(Nat.gcd n.natAbs d)))))),(1,(aG (AT ((d/(Nat.gcd n.natAbs d))-1))))]) (places:=[(0,3),(3,2)]) zeroValue77 underlying77 (λw=>by simp [sizeOf71,sizeOf75]) O (Dt (EG (decide (n.sign<(0:Int))) (n.natAbs/(Nat.gcd n.natAbs d))) ((d/(Nat.gcd n.natAbs d))-1))) (zL O (Ei 5 (off:=0) (vs:=A7 (EG (decide (n.sign<(0:Int))) (n.natAbs/(Nat.gcd n.natAbs d)))++AT ((d/(Nat.gcd n.natAbs d))-1)) (cs':=A7 (EG (decide (n.sign<(0:Int))) (n.natAbs/(Nat.gcd n.natAbs d)))++AT ((d/(Nat.gcd n.natAbs d))-1)) (AM O) O sizeOf77 O (zG (sk (sk (sk (sk (sk (sl sr)))))) (zT (zF (sL [2,3,4,5,6,9] O) (zC (zH (ret_one O (Ah (i:=5) (cs:=A7 (EG (decide (n.sign<(0:Int))) (n.natAbs/(Nat.gcd n.natAbs d)))++AT ((d/(Nat.gcd n.natAbs d))-1)) O O isAgg77 sizeOf77 O) (λw hw=>⟨by rw [Jl,N6 hd0,SZ hd0],hw.out⟩)))))))))))))
theorem H9 (x0:Int):Instr.fill ([(0,3),(3,2)].toArray[·]?) (AG (0:Rat)).toArray [(0,.agg (A7 x0).toArray)]=some (A7 x0++AT ((0:Rat).den-1)).toArray:=by kernel_rfl
theorem L8 (n:Int) (w:World)  :Calls prog 108 #[(aG (A7 n))] w (AX w (aG (AG ((n:Int):Rat)))):=by
 refine AS (args:=[(aG (A7 n))]) func108 O O (leB O) (zM (sL [0] O) (q4 (BG (cs:=A7 n) O λb1=>al Dg O λb2=>q3 (sL [1,2] O) (An 1 DK O (st' (v:=(aG (A7 n++AT ((0:Rat).den-1)))) (AO (zs:=AG (0:Rat)) (vs:=A7 n++AT ((0:Rat).den-1)) (pv:=[(0,(aG (A7 n)))]) (places:=[(0,3),(3,2)]) zeroValue77 underlying77 (λw=>by simp [sizeOf71,sizeOf75]) O (H9 n)) O (Aj O sizeOf77 O (oNl' (zF (sL [2] O) (zC ?_)))))))))
 exact zH (ret_one O (Ah (i:=0) (cs:=A7 n++AT ((0:Rat).den-1)) O O isAgg77 sizeOf77 O) (λw hw=>⟨rfl,hw.out⟩))
theorem MP  :Instr.fill ([(0,1),(1,1)].toArray[·]?) (AT 0).toArray []=some (AT 0).toArray:=by kernel_rfl
theorem GD (a:Rat) (w:World)  :Calls prog 130 #[(aG (AG a))] w (AX w (qa (decide (a.den-1=0)))):=by
 refine AS (args:=[(aG (AG a))]) func130 O O (leB O) (zM (sL [0] O) (q4 (BG (cs:=AG a) O λb1=>asg' O (q3 (sL [1,2] O) (st' (v:=(pP b1 3)) (AA O underlying77 O sizeOf71 O) O (C9 0 (AT (a.den-1)) B3 O (st' (v:=(aG (AT 0))) (AO (zs:=AT 0) (vs:=AT 0) (pv:=[]) (places:=[(0,1),(1,1)]) zeroValue71 underlying71 (λw=>by simp [sizeOf9,sizeOf69]) O (MP )) O (st' (Cf (c:=(decide (a.den-1=0))) O O eqGuardType71 (Ha 9998 (a.den-1) 0)) O (asg' O (oNl' ?_))))))))))
 exact zF (sL [2] O) (zC (zH (ret_one O (rd_tmp (v:=(qa (decide (a.den-1=0)))) O) (λw hw=>⟨rfl,hw.out⟩))))
theorem den_ok (a:Rat) (ha:nw a.den<=1099511627776) (w:World)  :Calls prog 133 #[(aG (AG a))] w (AX w (aG (AT a.den))):=by
 have h1w:=JQ
 have h2w:=Ct (Nat.sub_le a.den 1)
 refine AS (args:=[(aG (AG a))]) func133 O O (leB O) (zM (sL [0] O) (q4 (BG (cs:=AG a) O λb1=>al Gl O λb2=>q6 (sL [1,2] O) (CE [(0,true),(1,true),(2,false),(3,false),(4,false)] (sl sr) (Ag (v:=(pP b1 3)) O (AA O underlying77 O sizeOf71 O) (Ef 0 (AT (a.den-1)) B3 O (zL O (ck' call172 (KV 1 Z) O (zG (sl sr) ?_)))))))))
 exact zL O (ck' call194 (Un (a.den-1) 1 Z Z) O (zG (sl sr) (zL O (Aj O sizeOf71 O (zG (sl sr) (zT (zF (sL [2] O) (zC (zH (ret_one O (Ah (i:=0) (cs:=AT ((a.den-1)+1)) O O isAgg71 sizeOf71 O) (λw hw=>⟨by rw [Nat.sub_add_cancel a.den_pos],hw.out⟩)))))))))))
theorem Hq (a:Rat) (ha:nw a.den<=1099511627776) (w:World)  :Calls prog 124 #[(aG (AG a))] w (AX w (aG (A7 ((a.den:Nat):Int)))):=by
 refine AS (args:=[(aG (AG a))]) func124 O O (leB O) (zM (sL [0] O) (q4 (BG (cs:=AG a) O λb1=>al J5 O λb2=>q3 (sL [1,2] O) (An 1 Bj O (ck' call133 (den_ok a Z) O (ck' call171 (Ek false a.den) O (Aj O sizeOf75 O (oNl' (zF (sL [2] O) ?_)))))))))
 exact zC (zH (ret_one O (Ah (i:=0) (cs:=A7 (EG false a.den)) O O isAgg75 sizeOf75 O) (λw hw=>⟨rfl,hw.out⟩)))
theorem Yn (a:Rat) (w:World)  :Calls prog 38 #[(aG (AG a))] w (AX w (aG (AG (-a)))):=by
 refine AS (args:=[(aG (AG a))]) func38 O O (leB O) (zM (sL [0] O) (q4 (BG (cs:=AG a) O λb1=>al Dg O λb2=>q6 (sL [1,2] O) (CE [(0,true),(1,true),(3,true),(4,true),(2,false),(5,true),(6,false)] (sl sr) (Ag (v:=(pP b1 0)) O (AA O underlying77 O sizeOf75 O) (Ef 0 (A7 a.num) DK O (Ag (v:=(pP b1 3)) O (AA O underlying77 O sizeOf71 O) (Ef 0 (AT (a.den-1)) B3 O (zL O ?_)))))))))
 exact ck' call106 (SR a.num) O (zG (sl sr) (Ag (v:=(aG (A7 (-a.num)++AT (a.den-1)))) O (AO (zs:=AG (0:Rat)) (vs:=A7 (-a.num)++AT (a.den-1)) (pv:=[(0,(aG (A7 (-a.num)))),(1,(aG (AT (a.den-1))))]) (places:=[(0,3),(3,2)]) zeroValue77 underlying77 (λw=>by simp [sizeOf71,sizeOf75]) O (Dt (-a.num) (a.den-1))) (zL O (Aj O sizeOf77 O (zG (sl sr) (zT (zF (sL [2] O) (zC (zH (ret_one O (Ah (i:=0) (cs:=A7 (-a.num)++AT (a.den-1)) O O isAgg77 sizeOf77 O) (λw hw=>⟨by rw [Jl,Rat.neg_num,Rat.neg_den],hw.out⟩)))))))))))
theorem Eu (a:Rat) (w:World)  :Calls prog 196 #[(aG (AG a))] w (AX w (vI a.num.sign)):=by
 refine AS (args:=[(aG (AG a))]) func196 O O (leB O) (zM (sL [0] O) (q4 (BG (cs:=AG a) O λb1=>asg' O (q3 (sL [1,2] O) (st' (v:=(pP b1 0)) (AA O underlying77 O sizeOf75 O) O (C9 0 (A7 a.num) DK O (ck' call176 (LN a.num) O (asg' O (oNl' (zF (sL [2] O) ?_))))))))))
 exact zC (zH (ret_one O (rd_tmp (v:=(vI a.num.sign)) O) (λw hw=>⟨rfl,hw.out⟩)))
theorem SJ (a b:Rat) (hs:Sz a+Sz b<=549755813888) (w:World)  :Calls prog 72 #[(aG (AG a)),(aG (AG b))] w (AX w (vI (E5 a b))):=by
 have s1:=Cx a
 have s2:=Cc a
 have s3:=Cx b
 have s4:=Cc b
 have s5:=CN a b
 have s6:=CN b a
 have s7:=GY a b
 have s8:=HF a b
 have s9:=D0 a.num b.num
 have s10:=D0 (a.num*((b.den:Nat):Int)) (b.num*((a.den:Nat):Int))
 have hda:=a.den_nz
 have hdb:=b.den_nz
 have hdab:a.den*b.den≠0:=Nat.mul_ne_zero hda hdb
 refine AS (args:=[(aG (AG a)),(aG (AG b))]) func72 O O (leB O) (zM (sL [0,1] O) (q4 (BG (cs:=AG a) O λb1=>BG (cs:=AG b) O λb2=>asg' O (q6 (sL [2,3,4] O) (q4 (st' (v:=(pP b1 3)) (AA O underlying77 O sizeOf71 O) O (C9 1 (AT (a.den-1)) B3 O (st' (v:=(pP b2 3)) (AA O underlying77 O sizeOf71 O) O (C9 0 (AT (b.den-1)) B3 O ?_)))))))))
 refine st' (Cf (c:=(decide (a.den-1=b.den-1))) O O eqGuardType71 (Ha 9998 (a.den-1) (b.den-1))) O (oNl' (zF (sL [2,3,4,9] O) (zC ?_)))
 refine zO O (λhc0=>?_) (λhc0=>?_)
 ·replace hc0:=xR hc0
  have he:=TK hc0
  exact q4 (st' (v:=(pP b1 0)) (AA O underlying77 O sizeOf75 O) O (C9 1 (A7 a.num) DK O (st' (v:=(pP b2 0)) (AA O underlying77 O sizeOf75 O) O (C9 0 (A7 b.num) DK O (ck' call122 (SQ a.num b.num (by first|omega|(simp only [Int.natAbs_neg,Ax,Int.natAbs_natCast];omega)) (by first|omega|(simp only [Int.natAbs_neg,Ax,Int.natAbs_natCast];omega))) O (asg' O (oNl' (zF (sL [2,3,4] O) (zC (zH (zI (ret_one O (rd_tmp (v:=(vI ((a.num-b.num).sign))) O) (λw hw=>⟨by rw [he],hw.out⟩)))))))))))))
 ·replace hc0:=xQ hc0
  have he:=H6 a b
  refine zJ (q1 (CE [(0,true),(1,true),(2,true),(5,true),(6,true),(7,true),(3,false),(4,false),(8,false),(9,false),(10,false),(11,true)] sr (Ag (v:=(pP b1 0)) O (AA O underlying77 O sizeOf75 O) (Ef 1 (A7 a.num) DK O (C3 0 Bj O (Ag (v:=(pP b2 0)) O (AA O underlying77 O sizeOf75 O) (Ef 0 (A7 b.num) DK O (C3 1 Bj O (zL O (ck' call124 (Hq b Z) O (zG sr ?_)))))))))))
  refine zL O (ck' call123 (Hd a.num ((b.den:Nat):Int) (by first|omega|(simp only [Int.natAbs_neg,Ax,Int.natAbs_natCast];omega)) (by first|omega|(simp only [Int.natAbs_neg,Ax,Int.natAbs_natCast];omega))) O (zG sr (zL O (ck' call124 (Hq a Z) O (zG sr (zL O (ck' call123 (Hd b.num ((a.den:Nat):Int) (by first|omega|(simp only [Int.natAbs_neg,Ax,Int.natAbs_natCast];omega)) (by first|omega|(simp only [Int.natAbs_neg,Ax,Int.natAbs_natCast];omega))) O (zG sr (zL O (ck' call122 (SQ (a.num*((b.den:Nat):Int)) (b.num*((a.den:Nat):Int)) (by first|omega|(simp only [Int.natAbs_neg,Ax,Int.natAbs_natCast];omega)) (by first|omega|(simp only [Int.natAbs_neg,Ax,Int.natAbs_natCast];omega))) O (zG sr ?_)))))))))))
  exact pS' O (zT (zF (sL [2,3,4] O) (zC (zH (ret_one O (rd_tmp (v:=(vI (((a.num*((b.den:Nat):Int))-(b.num*((a.den:Nat):Int))).sign))) O) (λw hw=>⟨by rw [he],hw.out⟩))))))
theorem KL (a b:Rat) (hs:Sz a+Sz b<=549755813888) (w:World)  :Calls prog 90 #[(aG (AG a)),(aG (AG b))] w (AX w (aG (AG (a+b)))):=by
 have s1:=Cx a
 have s2:=Cc a
 have s3:=Cx b
 have s4:=Cc b
 have s5:=CN a b
 have s6:=CN b a
 have s7:=GY a b
 have s8:=HF a b
 have s9:=D0 a.num b.num
 have s10:=D0 (a.num*((b.den:Nat):Int)) (b.num*((a.den:Nat):Int))
 have hda:=a.den_nz
 have hdb:=b.den_nz
 have hdab:a.den*b.den≠0:=Nat.mul_ne_zero hda hdb
 refine AS (args:=[(aG (AG a)),(aG (AG b))]) func90 O O (leB O) (zM (sL [0,1] O) (q4 (BG (cs:=AG a) O λb1=>BG (cs:=AG b) O λb2=>al Dg O λb3=>q6 (sL [2,3,4] O) (zN (q4 (An 2 Bj O (ck' call130 (GD a) O (AJ O ?_))))))))
 refine zg (FM:=[(2,(pP b1 0)),(3,(pP b2 0)),(4,(pP b3 0)),(6,(aG (AG a))),(7,(qa (decide (a.den-1=0)))),(8,(qa (decide (a.den-1=0)))),(11,(qa ((decide (a.den-1=0))&&(decide (b.den-1=0)))))]) (LM:=[AU b3 77 (AG (0:Rat)),AU b2 77 (AG b),AU b1 77 (AG a)]) 3 ?_ ?_
 ·rcases xO (decide (a.den-1=0)) with hg1|hg1
  ·refine zK (k:=8) (u:=qa true) O (by rw [hg1]) ?_
   have hg1':=xR hg1
   exact Au (v:=(aG (AG b))) O (Ac (i:=1) (vs:=AG b) O O Bj.a Bj.s O O) (zj (v:=(qa (decide (b.den-1=0)))) (AN O) (Ak (args:=[(aG (AG b))]) O O call130) (λw hw=>GD b w) O (leB O) (st' (v:=(qa (decide (b.den-1=0)))) (ex_pick_true O O) O (oNl' (zS Bi (xP _)))))
  ·refine zK (k:=8) (u:=qa false) O (by rw [hg1]) ?_
   have hg1':=xQ hg1
   exact Aw O (Aw O (st' (v:=(qa false)) (AI O O) O (oNl' (zS Bi (xP _)))))
 refine asg' O (oNl' (zF (sL [2,3,4,5] O) (zC ?_)))
 refine zO O (λhc0=>?_) (λhc0=>?_)
 ·simp only [jK] at hc0
  have he:=TD hc0.1 hc0.2
  refine q4 (st' (v:=(pP b1 0)) (AA O underlying77 O sizeOf75 O) O (C9 2 (A7 a.num) DK O (st' (v:=(pP b2 0)) (AA O underlying77 O sizeOf75 O) O (C9 1 (A7 b.num) DK O (ck' call151 (N0 a.num b.num (by first|omega|(simp only [Int.natAbs_neg,Ax,Int.natAbs_natCast];omega)) (by first|omega|(simp only [Int.natAbs_neg,Ax,Int.natAbs_natCast];omega))) O (ck' call108 (L8 (a.num+b.num)) O (Aj O sizeOf77 O (oNl' (zF (sL [2,3,4] O) (zC (zH ?_)))))))))))
  exact zU (zI (ret_one O (Ah (i:=0) (cs:=AG ((a.num+b.num:Int):Rat)) O O isAgg77 sizeOf77 O) (λw hw=>⟨by rw [he],hw.out⟩)))
 ·simp only [jK] at hc0
  have he:=HY a b
  refine q4 (st' (v:=(pP b1 3)) (AA O underlying77 O sizeOf71 O) O (C9 2 (AT (a.den-1)) B3 O (st' (v:=(pP b2 3)) (AA O underlying77 O sizeOf71 O) O (C9 1 (AT (b.den-1)) B3 O (st' (Cf (c:=(decide (a.den-1=b.den-1))) O O eqGuardType71 (Ha 9998 (a.den-1) (b.den-1))) O (asg' O (oNl' (zF (sL [2,3,4,18] O) (zC ?_)))))))))
  refine zO O (λhc1=>?_) (λhc1=>?_)
  ·replace hc1:=xR hc1
   have he:=VH hc1
   refine zf (CE (Dm 4++[(5,true),(4,false),(6,false),(7,false),(8,false)]) (sl sr) (Ag (v:=(pP b1 0)) O (AA O underlying77 O sizeOf75 O) (Ef 1 (A7 a.num) DK O (Ag (v:=(pP b2 0)) O (AA O underlying77 O sizeOf75 O) (Ef 0 (A7 b.num) DK O (C3 1 Bj O (zL O (ck' call151 (N0 a.num b.num (by first|omega|(simp only [Int.natAbs_neg,Ax,Int.natAbs_natCast];omega)) (by first|omega|(simp only [Int.natAbs_neg,Ax,Int.natAbs_natCast];omega))) O (zG (sl sr) (zL O (ck' call133 (den_ok a Z) O ?_)))))))))))
   refine zG (sl sr) (zL O (ck' call152 (Hh (a.num+b.num) a.den Z Z (by first|omega|assumption)) O (zG (sl sr) (zL O (Aj O sizeOf77 O (zG (sl sr) (zT (zF (sL [2,3,4] O) (zC (zH (zU ?_)))))))))))
   exact zI (ret_one O (Ah (i:=0) (cs:=AG (mkRat (a.num+b.num) a.den)) O O isAgg77 sizeOf77 O) (λw hw=>⟨by rw [he],hw.out⟩))
  ·replace hc1:=xQ hc1
   refine zJ (zP (q1 (CE [(0,true),(1,true),(2,true),(5,true),(6,true),(7,true),(11,true),(13,true),(3,false),(4,false),(8,false),(9,false),(10,false),(12,false),(14,false),(15,false),(16,false),(17,false)] (sl sr) (Ag (v:=(pP b1 0)) O (AA O underlying77 O sizeOf75 O) (Ef 1 (A7 a.num) DK O (C3 0 Bj O (Ag (v:=(pP b2 0)) O (AA O underlying77 O sizeOf75 O) (Ef 0 (A7 b.num) DK O (C3 1 Bj O (C3 1 Bj O (C3 0 Bj O ?_)))))))))))
   refine zL O (ck' call124 (Hq b Z) O (zG (sl sr) (zL O (ck' call123 (Hd a.num ((b.den:Nat):Int) (by first|omega|(simp only [Int.natAbs_neg,Ax,Int.natAbs_natCast];omega)) (by first|omega|(simp only [Int.natAbs_neg,Ax,Int.natAbs_natCast];omega))) O (zG (sl sr) (zL O (ck' call124 (Hq a Z) O (zG (sl sr) (zL O (ck' call123 (Hd b.num ((a.den:Nat):Int) (by first|omega|(simp only [Int.natAbs_neg,Ax,Int.natAbs_natCast];omega)) (by first|omega|(simp only [Int.natAbs_neg,Ax,Int.natAbs_natCast];omega))) O (zG (sl sr) ?_)))))))))))
   refine zL O (ck' call151 (N0 (a.num*((b.den:Nat):Int)) (b.num*((a.den:Nat):Int)) (by first|omega|(simp only [Int.natAbs_neg,Ax,Int.natAbs_natCast];omega)) (by first|omega|(simp only [Int.natAbs_neg,Ax,Int.natAbs_natCast];omega))) O (zG (sl sr) (zL O (ck' call133 (den_ok a Z) O (zG (sl sr) (zL O (ck' call133 (den_ok b Z) O (zG (sl sr) (zL O (ck' call153 (QK a.den b.den Z Z) O (zG (sl sr) ?_)))))))))))
   exact zL O (ck' call152 (Hh ((a.num*((b.den:Nat):Int))+(b.num*((a.den:Nat):Int))) (a.den*b.den) Z Z (by first|omega|assumption)) O (zG (sl sr) (zL O (Aj O sizeOf77 O (zG (sl sr) (zT (zF (sL [2,3,4] O) (zC (zH (ret_one O (Ah (i:=0) (cs:=AG (mkRat ((a.num*((b.den:Nat):Int))+(b.num*((a.den:Nat):Int))) (a.den*b.den))) O O isAgg77 sizeOf77 O) (λw hw=>⟨by rw [he],hw.out⟩)))))))))))
theorem Nt (a b:Rat) (hs:Sz a+Sz b<=549755813888) (w:World)  :Calls prog 175 #[(aG (AG a)),(aG (AG b))] w (AX w (aG (AG (a-b)))):=by
 refine AS (args:=[(aG (AG a)),(aG (AG b))]) func175 O O (leB O) (zM (sL [0,1] O) (q4 (BG (cs:=AG a) O λb1=>BG (cs:=AG b) O λb2=>al Dg O λb3=>q6 (sL [2,3,4] O) (CE [(0,true),(1,true),(2,false),(3,false),(4,false)] (sl sr) (C3 1 Bj O (C3 0 Bj O (zL O (ck' call38 (Yn b) O ?_))))))))
 refine zG (sl sr) (zL O ?_)
 have hz1:=Cb a (-b)
 exact ck' call90 (KL a (-b) (by (try simp only [BO]);omega)) O (zG (sl sr) (zL O (Aj O sizeOf77 O (zG (sl sr) (zT (zF (sL [4] O) (zC (zH (ret_one O (Ah (i:=0) (cs:=AG (a+(-b))) O O isAgg77 sizeOf77 O) (λw hw=>⟨by rw [Rat.sub_eq_add_neg],hw.out⟩))))))))))
theorem EN (a b:Rat) (hs:Sz a+Sz b<=549755813888) (w:World)  :Calls prog 91 #[(aG (AG a)),(aG (AG b))] w (AX w (aG (AG (a*b)))):=by
 have s1:=Cx a
 have s2:=Cc a
 have s3:=Cx b
 have s4:=Cc b
 have s5:=CN a b
 have s6:=CN b a
 have s7:=GY a b
 have s8:=HF a b
 have s9:=D0 a.num b.num
 have s10:=D0 (a.num*((b.den:Nat):Int)) (b.num*((a.den:Nat):Int))
 have hda:=a.den_nz
 have hdb:=b.den_nz
 have hdab:a.den*b.den≠0:=Nat.mul_ne_zero hda hdb
 refine AS (args:=[(aG (AG a)),(aG (AG b))]) func91 O O (leB O) (zM (sL [0,1] O) (q4 (BG (cs:=AG a) O λb1=>BG (cs:=AG b) O λb2=>al Dg O λb3=>q6 (sL [2,3,4] O) (q4 (An 2 Bj O (ck' call130 (GD a) O (AJ O ?_)))))))
 refine zg (FM:=[(2,(pP b1 0)),(3,(pP b2 0)),(4,(pP b3 0)),(5,(aG (AG a))),(6,(qa (decide (a.den-1=0)))),(7,(qa (decide (a.den-1=0)))),(10,(qa ((decide (a.den-1=0))&&(decide (b.den-1=0)))))]) (LM:=[AU b3 77 (AG (0:Rat)),AU b2 77 (AG b),AU b1 77 (AG a)]) 3 ?_ ?_
 ·rcases xO (decide (a.den-1=0)) with hg1|hg1
  ·refine zK (k:=7) (u:=qa true) O (by rw [hg1]) ?_
   have hg1':=xR hg1
   exact Au (v:=(aG (AG b))) O (Ac (i:=1) (vs:=AG b) O O Bj.a Bj.s O O) (zj (v:=(qa (decide (b.den-1=0)))) (AN O) (Ak (args:=[(aG (AG b))]) O O call130) (λw hw=>GD b w) O (leB O) (st' (v:=(qa (decide (b.den-1=0)))) (ex_pick_true O O) O (oNl' (zS Bi (xP _)))))
  ·refine zK (k:=7) (u:=qa false) O (by rw [hg1]) ?_
   have hg1':=xQ hg1
   exact Aw O (Aw O (st' (v:=(qa false)) (AI O O) O (oNl' (zS Bi (xP _)))))
 refine oNl' (zF (sL [2,3,4,10] O) (zC ?_))
 refine zO O (λhc0=>?_) (λhc0=>?_)
 ·simp only [jK] at hc0
  have he:=Tp hc0.1 hc0.2
  refine q4 (st' (v:=(pP b1 0)) (AA O underlying77 O sizeOf75 O) O (C9 2 (A7 a.num) DK O (st' (v:=(pP b2 0)) (AA O underlying77 O sizeOf75 O) O (C9 1 (A7 b.num) DK O (ck' call123 (Hd a.num b.num (by first|omega|(simp only [Int.natAbs_neg,Ax,Int.natAbs_natCast];omega)) (by first|omega|(simp only [Int.natAbs_neg,Ax,Int.natAbs_natCast];omega))) O (ck' call108 (L8 (a.num*b.num)) O (Aj O sizeOf77 O (oNl' (zF (sL [2,3,4] O) (zC (zH ?_)))))))))))
  exact zI (ret_one O (Ah (i:=0) (cs:=AG ((a.num*b.num:Int):Rat)) O O isAgg77 sizeOf77 O) (λw hw=>⟨by rw [he],hw.out⟩))
 ·simp only [jK] at hc0
  have he:=JL a b
  refine zJ (q1 (CE (Dm 4++[(5,true),(7,true),(4,false),(6,false),(8,false),(9,false),(10,false),(11,false)]) (sl sr) (Ag (v:=(pP b1 0)) O (AA O underlying77 O sizeOf75 O) (Ef 1 (A7 a.num) DK O (Ag (v:=(pP b2 0)) O (AA O underlying77 O sizeOf75 O) (Ef 0 (A7 b.num) DK O (C3 1 Bj O (C3 0 Bj O (zL O (ck' call123 (Hd a.num b.num (by first|omega|(simp only [Int.natAbs_neg,Ax,Int.natAbs_natCast];omega)) (by first|omega|(simp only [Int.natAbs_neg,Ax,Int.natAbs_natCast];omega))) O (zG (sl sr) ?_)))))))))))
  refine zL O (ck' call133 (den_ok a Z) O (zG (sl sr) (zL O (ck' call133 (den_ok b Z) O (zG (sl sr) (zL O (ck' call153 (QK a.den b.den Z Z) O (zG (sl sr) (zL O (ck' call152 (Hh (a.num*b.num) (a.den*b.den) Z Z (by first|omega|assumption)) O (zG (sl sr) ?_)))))))))))
  exact zL O (Aj O sizeOf77 O (zG (sl sr) (zT (zF (sL [2,3,4] O) (zC (zH (ret_one O (Ah (i:=0) (cs:=AG (mkRat (a.num*b.num) (a.den*b.den))) O O isAgg77 sizeOf77 O) (λw hw=>⟨by rw [he],hw.out⟩))))))))
theorem KM (a b:Rat) (hs:Sz a+Sz b<=549755813888) (hb:b≠0) (w:World)  :Calls prog 156 #[(aG (AG a)),(aG (AG b))] w (AX w (Value.tuple #[(aG (AG (a/b))),(vI 0)])):=by
 have s1:=Cx a
 have s2:=Cc a
 have s3:=Cx b
 have s4:=Cc b
 have s5:=CN a b
 have s6:=CN b a
 have s7:=GY a b
 have s8:=HF a b
 have s9:=D0 a.num b.num
 have s10:=D0 (a.num*((b.den:Nat):Int)) (b.num*((a.den:Nat):Int))
 have hda:=a.den_nz
 have hdb:=b.den_nz
 have hdab:a.den*b.den≠0:=Nat.mul_ne_zero hda hdb
 have hbn:b.num≠0:=λe=>hb (Rat.num_eq_zero.1 e)
 have hbs:b.num.sign≠0:=λe=>hbn (Int.sign_eq_zero_iff_zero.1 e)
 have hmi:nw (EG (decide (b.num.sign<(0:Int))) b.den).natAbs=nw b.den:=by rw [Ax]
 have hinv:=JI hb
 have hsi:=QN hb
 rw [<-hinv] at hsi
 refine AS (args:=[(aG (AG a)),(aG (AG b))]) func156 O O (leB O) (zM (sL [0,1] O) (q4 (BG (cs:=AG a) O λb1=>BG (cs:=AG b) O λb2=>al Dg O λb3=>asg' O (q6 (sL [2,3,4,5] O) (q4 (An 1 Bj O (ck' call196 (Eu b) O (st' (A9 (c:=(decide (b.num.sign=(0:Int)))) O O O) O ?_))))))))
 refine oNl' (zF (sL [2,3,4,5,9] O) (zC ?_))
 refine zO O (λhc0=>?_) (λhc0=>?_)
 ·replace hc0:=xR hc0
  exact absurd hc0 hbs
 ·replace hc0:=xQ hc0
  refine zJ (q1 (rN [(0,true),(3,true),(6,true),(7,true),(1,false),(2,true),(4,false),(5,false),(8,false),(9,false)] [⟨10,6,77,AG (0:Rat)⟩] [(11,false)] sr jV (λ_ _ d _ _ h=>by cases d<;>exact h) (EP O O Dg O (Fk)) O (DN 1 Bj O (DN 1 Bj O (FP (v:=(pP b2 0)) O (AA O underlying77 O sizeOf75 O) O (Ri 1 (A7 b.num) DK O (zi O λEF EL=>ck' call196 (Eu b) O (zl sr O (FP O (AW (c:=(decide (b.num.sign<(0:Int)))) O O O) O (zi O λEF EL=>?_))))))))))
  refine ck' call133 (den_ok b Z) O (zl sr O (zi O λEF EL=>ck' call171 (Ek (decide (b.num.sign<(0:Int))) b.den) O (zl sr O (zi O λEF EL=>ck' call202 (Nz b.num) O (zl sr O (zi O λEF EL=>ck' call152 (Hh (EG (decide (b.num.sign<(0:Int))) b.den) b.num.natAbs Z Z (by first|omega|assumption)) O (zl sr O (yI λb4=>?_))))))))
  refine zL O (Aj O sizeOf77 O (zG (sl sr) (zT (zF (sL [2,3,4,5,6] O) (q2 (An 3 Bj O (An 0 Bj O ?_)))))))
  have hz1:=Bo a (mkRat (EG (decide (b.num.sign<(0:Int))) b.den) b.num.natAbs)
  exact ck' call91 (EN a (mkRat (EG (decide (b.num.sign<(0:Int))) b.den) b.num.natAbs) (by (try simp only [BO]);omega)) O (CP O sizeOf77 O (asg' O (oNl' (zF (sL [3,4,5,6] O) (zC (zH (BR O (Ah (i:=1) (cs:=AG (a*(mkRat (EG (decide (b.num.sign<(0:Int))) b.den) b.num.natAbs))) O O isAgg77 sizeOf77 O) (rd_tmp (v:=(vI 0)) O) (λw hw=>⟨by rw [hinv,Rat.div_def],hw.out⟩))))))))
theorem MR  :Instr.fill ([(0,3),(3,2)].toArray[·]?) (AG (0:Rat)).toArray []=some (AG (0:Rat)).toArray:=by kernel_rfl
theorem Vy (a:Rat) (w:World)  :Calls prog 156 #[(aG (AG a)),(aG (AG (0:Rat)))] w (AX w (Value.tuple #[(aG (AG (0:Rat))),(vI 5)])):=by
 refine AS (args:=[(aG (AG a)),(aG (AG (0:Rat)))]) func156 O O (leB O) (zM (sL [0,1] O) (q4 (BG (cs:=AG a) O λb1=>BG (cs:=AG (0:Rat)) O λb2=>al Dg O λb3=>asg' O (q6 (sL [2,3,4,5] O) (q4 (An 1 Bj O (ck' call196 (Eu (0:Rat)) O (st' (A9 (c:=(decide (((0:Rat).num.sign)=(0:Int)))) O O O) O ?_))))))))
 refine oNl' (zF (sL [2,3,4,5,9] O) (zC ?_))
 refine zO O (λhc0=>?_) (λhc0=>?_)
 ·replace hc0:=xR hc0
  exact q4 (st' (v:=(aG (AG (0:Rat)))) (AO (zs:=AG (0:Rat)) (vs:=AG (0:Rat)) (pv:=[]) (places:=[(0,3),(3,2)]) zeroValue77 underlying77 (λw=>by simp [sizeOf71,sizeOf75]) O (MR )) O (Aj O sizeOf77 O (asg' O (oNl' (zF (sL [2,3,4,5] O) (zC (zH (zI (BR O (Ah (i:=0) (cs:=AG (0:Rat)) O O isAgg77 sizeOf77 O) (rd_tmp (v:=(vI 5)) O) (λw hw=>⟨rfl,hw.out⟩))))))))))
 ·replace hc0:=xQ hc0
  exact absurd O hc0
theorem KN (z:Int) (hz:-9223372036854775808<=z) (hz2:z<9223372036854775808) (w:World)  :Calls prog 40 #[(vI z)] w (AX w (aG (AG ((z:Int):Rat)))):=by
 refine AS (args:=[(vI z)]) func40 O O (leB O) (zM (sL [0] O) (q4 (al Dg O λb1=>oNl' (q2 (AJ O (ck' call109 (bO z Z Z) O (ck' call108 (L8 z) O (Aj O sizeOf77 O (oNl' (zF (sL [2] O) ?_))))))))))
 exact zC (zH (ret_one O (Ah (i:=0) (cs:=AG ((z:Int):Rat)) O O isAgg77 sizeOf77 O) (λw hw=>⟨rfl,hw.out⟩)))
end
section
instance:Add Pt:=⟨λa b=>⟨a.x+b.x,a.y+b.y⟩⟩
instance:Sub Pt:=⟨λa b=>⟨a.x-b.x,a.y-b.y⟩⟩
def IL (a:Pt) (k:Rat):Pt:=⟨a.x*k,a.y*k⟩
def Ar (a b:Pt):Rat:=a.x*b.y-a.y*b.x
def Av (a b:Pt):Rat:=a.x*b.x+a.y*b.y
def Aa (a b c:Pt):Rat:=Ar (b-a) (c-a)
def BV (p:Pt):Nat:=max (Sz p.x) (Sz p.y)
theorem Cp (p:Pt):Sz p.x<=BV p:=Nat.le_max_left ..
theorem Cq (p:Pt):Sz p.y<=BV p:=Nat.le_max_right ..
theorem Nc {p:Pt} {k:Nat} (h1:Sz p.x<=k) (h2:Sz p.y<=k):BV p<=k:=Nat.max_le.2 ⟨h1,h2⟩
theorem R0 (a b:Pt):BV (a+b)<=BV a+BV b+1:=by
  have h1:=Cp a;have h2:=Cq a;have h3:=Cp b;have h4:=Cq b
  refine Nc ?_ ?_
  · exact xx (Cb a.x b.x) Z
  · exact xx (Cb a.y b.y) Z
theorem B0 (a b:Pt):BV (a-b)<=BV a+BV b+1:=by
  have h1:=Cp a;have h2:=Cq a;have h3:=Cp b;have h4:=Cq b
  refine Nc ?_ ?_
  · exact xx (EK a.x b.x) Z
  · exact xx (EK a.y b.y) Z
theorem Dp (a b:Pt):Sz (Ar a b)<=2*BV a+2*BV b+1:=by
  have h1:=Cp a;have h2:=Cq a;have h3:=Cp b;have h4:=Cq b
  have h5:=Bo a.x b.y;have h6:=Bo a.y b.x
  exact xx (EK _ _) Z
theorem D6 (a b:Pt):Sz (Av a b)<=2*BV a+2*BV b+1:=by
  have h1:=Cp a;have h2:=Cq a;have h3:=Cp b;have h4:=Cq b
  have h5:=Bo a.x b.x;have h6:=Bo a.y b.y
  exact xx (Cb _ _) Z
theorem EM (a b c:Pt):Sz (Aa a b c)<=4*BV a+2*BV b+2*BV c+5:=by
  have h1:=B0 b a;have h2:=B0 c a
  exact xx (Dp _ _) Z
theorem R2:Sz (1/2:Rat)<=1:=by decide +kernel
theorem Yu:((1:Int):Rat)/((2:Int):Rat)=1/2:=by decide +kernel
theorem H4 {z:Int} (h1:-9223372036854775808<=z) (h2:z<9223372036854775808):Sz ((z:Int):Rat)<=2:=aE (Lc (by show z.natAbs<_;omega)) (by show nw 1<=2;rw [JQ];omega)
theorem ZU (a b:Pt):Ad (a-b)=AG (a.x-b.x)++AG (a.y-b.y):=rfl
theorem cC (x y:Rat):Ad ⟨x,y⟩=AG x++AG y:=rfl
section
variable {P:Program} {Q:Exit->Act->World->Prop} {n:Nat} {F:List (Nat×Value)} {w0:BA} {L:List As} {c:Code}
def FG (P:Program) (c:Code) (Q:Exit->Act->World->Prop) (k n:Nat) (F:List (Nat×Value)) (w0:BA) (L:List As):Prop:=∀a w,C8 n a F->BE w0 w L->Code.rounds P c Q k a w
theorem yG (k:Nat) (h:FG P c Q k n F w0 L):OkC P (.loop c) Q n F w0 L:=λa w ha hw=>wp_loop_rounds k (h a w ha hw)
theorem zk {k:Nat} (h:OkC P c (Exit.then (Code.rounds P c Q k) Q) n F w0 L):FG P c Q (k+1) n F w0 L:=λa w ha hw=>by
  rw [rounds_succ];exact h a w ha hw
theorem zu {k:Nat} (h:FG P c Q k n F w0 L):OkQ (Exit.then (Code.rounds P c Q k) Q) .normal n F w0 L:=h
end
end
section
set_option maxRecDepth 100000
theorem DW (x0:Rat) (x1:Rat):Instr.fill ([(0,5),(5,5)].toArray[·]?) (Ad (⟨0,0⟩:Pt)).toArray [(0,.agg (AG x0).toArray),(1,.agg (AG x1).toArray)]=some (AG x0++AG x1).toArray:=by kernel_rfl
theorem Om (a b:Pt) (hs:BV a+BV b<=68719476736) (w:World)  :Calls prog 104 #[(aG (Ad a)),(aG (Ad b)),(Value.func (.func 175) #[] #[])] w (AX w (aG (Ad (a-b)))):=by
 have p1:=Cp a
 have p2:=Cq a
 have p3:=Cp b
 have p4:=Cq b
 refine AS (args:=[(aG (Ad a)),(aG (Ad b)),(Value.func (.func 175) #[] #[])]) func104 O O (leB O) (zM (sL [0,1,2] O) (q4 (BG (cs:=Ad a) O λb1=>BG (cs:=Ad b) O λb2=>al Fh O λb3=>q6 (sL [2,3,4,6] O) (CE (Dm 5++[(6,true),(7,true),(8,true),(9,true),(10,true),(5,false),(11,false),(12,true),(13,false)]) (sl sr) (Bl O (Ag (v:=(pP b1 0)) O (AA O underlying99 O sizeOf77 O) (Ef 1 (AG a.x) Bj O (Ag (v:=(pP b2 0)) O (AA O underlying99 O sizeOf77 O) ?_))))))))
 refine Ef 0 (AG b.x) Bj O (Bl O (Ag (v:=(pP b1 5)) O (AA O underlying99 O sizeOf77 O) (Ef 1 (AG a.y) Bj O (Ag (v:=(pP b2 5)) O (AA O underlying99 O sizeOf77 O) (Ef 0 (AG b.y) Bj O (zL O ?_))))))
 have hz1:=EK a.x b.x
 refine ck' call175 (Nt a.x b.x (by (try simp only [BO]);omega)) O (zG (sl sr) (zL O ?_))
 have hz2:=EK a.y b.y
 exact ck' call175 (Nt a.y b.y (by (try simp only [BO]);omega)) O (zG (sl sr) (Ag (v:=(aG (AG (a.x-b.x)++AG (a.y-b.y)))) O (AO (zs:=Ad (⟨0,0⟩:Pt)) (vs:=AG (a.x-b.x)++AG (a.y-b.y)) (pv:=[(0,(aG (AG (a.x-b.x)))),(1,(aG (AG (a.y-b.y))))]) (places:=[(0,5),(5,5)]) zeroValue99 underlying99 (λw=>by simp [sizeOf77]) O (DW (a.x-b.x) (a.y-b.y))) (zL O (Aj O sizeOf99 O (zG (sl sr) (zT (zF (sL [6] O) (zC (zH (ret_one O (Ah (i:=0) (cs:=AG (a.x-b.x)++AG (a.y-b.y)) O O isAgg99 sizeOf99 O) (λw hw=>⟨by rw [ZU],hw.out⟩)))))))))))
theorem Fz (a b:Pt) (hs:BV a+BV b<=68719476736) (w:World)  :Calls prog 120 #[(aG (Ad a)),(aG (Ad b))] w (AX w (aG (Ad (a-b)))):=by
 refine AS (args:=[(aG (Ad a)),(aG (Ad b))]) func120 O O (leB O) (zM (sL [0,1] O) (q4 (BG (cs:=Ad a) O λb1=>BG (cs:=Ad b) O λb2=>al Fh O λb3=>q3 (sL [2,3,4] O) (An 2 BD O (An 1 BD O (ck' call104 (Om a b Z) O (Aj O sizeOf99 O (oNl' ?_))))))))
 exact zF (sL [4] O) (zC (zH (ret_one O (Ah (i:=0) (cs:=Ad (a-b)) O O isAgg99 sizeOf99 O) (λw hw=>⟨rfl,hw.out⟩))))
theorem GP (a b:Pt) (hs:BV a+BV b<=68719476736) (w:World)  :Calls prog 195 #[(aG (Ad a)),(aG (Ad b))] w (AX w (aG (AG (Ar a b)))):=by
 have p1:=Cp a
 have p2:=Cq a
 have p3:=Cp b
 have p4:=Cq b
 refine AS (args:=[(aG (Ad a)),(aG (Ad b))]) func195 O O (leB O) (zM (sL [0,1] O) (q4 (BG (cs:=Ad a) O λb1=>BG (cs:=Ad b) O λb2=>al Dg O λb3=>q6 (sL [2,3,4] O) (CE (Dm 4++[(5,true),(6,true),(7,true),(8,true),(4,false),(9,false),(10,false),(11,false)]) (sl sr) (Ag (v:=(pP b1 0)) O (AA O underlying99 O sizeOf77 O) (Ef 1 (AG a.x) Bj O (Ag (v:=(pP b2 5)) O (AA O underlying99 O sizeOf77 O) (Ef 0 (AG b.y) Bj O ?_))))))))
 refine Ag (v:=(pP b1 5)) O (AA O underlying99 O sizeOf77 O) (Ef 1 (AG a.y) Bj O (Ag (v:=(pP b2 0)) O (AA O underlying99 O sizeOf77 O) (Ef 0 (AG b.x) Bj O (zL O ?_))))
 have hz1:=Bo a.x b.y
 refine ck' call91 (EN a.x b.y (by (try simp only [BO]);omega)) O (zG (sl sr) (zL O ?_))
 have hz2:=Bo a.y b.x
 refine ck' call91 (EN a.y b.x (by (try simp only [BO]);omega)) O (zG (sl sr) (zL O ?_))
 have hz3:=EK (a.x*b.y) (a.y*b.x)
 exact ck' call175 (Nt (a.x*b.y) (a.y*b.x) (by (try simp only [BO]);omega)) O (zG (sl sr) (zL O (Aj O sizeOf77 O (zG (sl sr) (zT (zF (sL [4] O) (zC (zH (ret_one O (Ah (i:=0) (cs:=AG ((a.x*b.y)-(a.y*b.x))) O O isAgg77 sizeOf77 O) (λw hw=>⟨rfl,hw.out⟩))))))))))
theorem KY (a b:Pt) (hs:BV a+BV b<=68719476736) (w:World)  :Calls prog 121 #[(aG (Ad a)),(aG (Ad b))] w (AX w (aG (AG (Av a b)))):=by
 have p1:=Cp a
 have p2:=Cq a
 have p3:=Cp b
 have p4:=Cq b
 refine AS (args:=[(aG (Ad a)),(aG (Ad b))]) func121 O O (leB O) (zM (sL [0,1] O) (q4 (BG (cs:=Ad a) O λb1=>BG (cs:=Ad b) O λb2=>al Dg O λb3=>q6 (sL [2,3,4] O) (CE (Dm 4++[(5,true),(6,true),(7,true),(8,true),(4,false),(9,false),(10,false),(11,false)]) (sl sr) (Ag (v:=(pP b1 0)) O (AA O underlying99 O sizeOf77 O) (Ef 1 (AG a.x) Bj O (Ag (v:=(pP b2 0)) O (AA O underlying99 O sizeOf77 O) (Ef 0 (AG b.x) Bj O ?_))))))))
 refine Ag (v:=(pP b1 5)) O (AA O underlying99 O sizeOf77 O) (Ef 1 (AG a.y) Bj O (Ag (v:=(pP b2 5)) O (AA O underlying99 O sizeOf77 O) (Ef 0 (AG b.y) Bj O (zL O ?_))))
 have hz1:=Bo a.x b.x
 refine ck' call91 (EN a.x b.x (by (try simp only [BO]);omega)) O (zG (sl sr) (zL O ?_))
 have hz2:=Bo a.y b.y
 refine ck' call91 (EN a.y b.y (by (try simp only [BO]);omega)) O (zG (sl sr) (zL O ?_))
 have hz3:=Cb (a.x*b.x) (a.y*b.y)
 exact ck' call90 (KL (a.x*b.x) (a.y*b.y) (by (try simp only [BO]);omega)) O (zG (sl sr) (zL O (Aj O sizeOf77 O (zG (sl sr) (zT (zF (sL [4] O) (zC (zH (ret_one O (Ah (i:=0) (cs:=AG ((a.x*b.x)+(a.y*b.y))) O O isAgg77 sizeOf77 O) (λw hw=>⟨rfl,hw.out⟩))))))))))
theorem HG (a b c:Pt) (hs:BV a+BV b+BV c<=17179869184) (w:World)  :Calls prog 143 #[(aG (Ad a)),(aG (Ad b)),(aG (Ad c))] w (AX w (vI ((Aa a b c).num.sign))):=by
 refine AS (args:=[(aG (Ad a)),(aG (Ad b)),(aG (Ad c))]) func143 O O (leB O) (zM (sL [0,1,2] O) (q4 (BG (cs:=Ad a) O λb1=>BG (cs:=Ad b) O λb2=>BG (cs:=Ad c) O λb3=>asg' O (q6 (sL [3,4,5,6] O) (CE [(0,true),(1,true),(3,true),(4,true),(2,false),(5,false),(6,false),(7,false),(8,true)] sr (C3 1 BD O (C3 2 BD O (C3 0 BD O ?_))))))))
 refine C3 2 BD O (zL O ?_)
 have hz1:=B0 b a
 refine ck' call120 (Fz b a Z) O (zG sr (zL O ?_))
 have hz2:=B0 c a
 refine ck' call120 (Fz c a Z) O (zG sr (zL O ?_))
 have hz3:=Dp (b-a) (c-a)
 exact ck' call195 (GP (b-a) (c-a) Z) O (zG sr (zL O (ck' call196 (Eu (Ar (b-a) (c-a))) O (zG sr (pS' O (zT (zF (sL [6] O) (zC (zH (ret_one O (rd_tmp (v:=(vI ((Ar (b-a) (c-a)).num.sign))) O) (λw hw=>⟨rfl,hw.out⟩)))))))))))
theorem IG (a b:Pt) (hs:BV a+BV b<=17179869184) (w:World)  :Calls prog 71 #[(aG (Ad a)),(aG (Ad b))] w (AX w (aG (AG (Av (b-a) (b-a))))):=by
 refine AS (args:=[(aG (Ad a)),(aG (Ad b))]) func71 O O (leB O) (zM (sL [0,1] O) (q4 (BG (cs:=Ad a) O λb1=>BG (cs:=Ad b) O λb2=>al Dg O λb3=>q3 (sL [2,3,4] O) (An 1 BD O (An 2 BD O ?_)))))
 have hz1:=B0 b a
 refine ck' call120 (Fz b a Z) O (al Fh O λb4=>Aj O sizeOf99 O (q3 (sL [4,5] O) (An 0 BD O (An 0 BD O ?_))))
 have hz2:=D6 (b-a) (b-a)
 exact ck' call121 (KY (b-a) (b-a) Z) O (CP O sizeOf77 O (oNl' (zF (sL [4,5] O) (zC (zH (ret_one O (Ah (i:=1) (cs:=AG (Av (b-a) (b-a))) O O isAgg77 sizeOf77 O) (λw hw=>⟨rfl,hw.out⟩)))))))
theorem KZ (x y:Int) (h1:-9223372036854775808<=x) (h2:x<9223372036854775808) (h3:-9223372036854775808<=y) (h4:y<9223372036854775808) (w:World)  :Calls prog 42 #[(vI x),(vI y)] w (AX w (aG (Ad (⟨((x:Int):Rat),((y:Int):Rat)⟩:Pt)))):=by
 refine AS (args:=[(vI x),(vI y)]) func42 O O (leB O) (zM (sL [0,1] O) (q4 (al Fh O λb1=>oNl' (q2 (AJ O (ck' call40 (KN x Z Z) O (AJ O (ck' call40 (KN y Z Z) O (st' (v:=(aG (AG ((x:Int):Rat)++AG ((y:Int):Rat)))) (AO (zs:=Ad (⟨0,0⟩:Pt)) (vs:=AG ((x:Int):Rat)++AG ((y:Int):Rat)) (pv:=[(0,(aG (AG ((x:Int):Rat)))),(1,(aG (AG ((y:Int):Rat))))]) (places:=[(0,5),(5,5)]) zeroValue99 underlying99 (λw=>by simp [sizeOf77]) O (DW ((x:Int):Rat) ((y:Int):Rat))) O (Aj O sizeOf99 O ?_))))))))))
 exact oNl' (zF (sL [4] O) (zC (zH (ret_one O (Ah (i:=0) (cs:=AG ((x:Int):Rat)++AG ((y:Int):Rat)) O O isAgg99 sizeOf99 O) (λw hw=>⟨by rw [cC],hw.out⟩)))))
end
section
set_option maxRecDepth 100000
theorem Qo (x y:Int) (h1:-9223372036854775808<=x) (h2:x<9223372036854775808) (h3:-9223372036854775808<=y) (h4:y<9223372036854775808) (hy:y≠0) (w:World)  :Calls prog 93 #[(vI x),(vI y)] w (AX w (Value.tuple #[(aG (AG (((x:Int):Rat)/((y:Int):Rat)))),(vI 0)])):=by
 have hb:((y:Int):Rat)≠0:=λe=>hy (by exact_mod_cast e)
 have s1:=H4 h1 h2
 have s2:=H4 h3 h4
 refine AS (args:=[(vI x),(vI y)]) func93 O O (leB O) (zM (sL [0,1] O) (q4 (al Dg O λb1=>asg' O (oNl' (q2 (AJ O (ck' call40 (KN x Z Z) O (AJ O (ck' call40 (KN y Z Z) O ?_)))))))))
 have hz1:=I7 (a:=((x:Int):Rat)) (b:=((y:Int):Rat)) (by assumption)
 exact ck' call156 (KM ((x:Int):Rat) ((y:Int):Rat) Z (by assumption)) O (st' (AK (v:=(aG (AG (((x:Int):Rat)/((y:Int):Rat))))) O O) O (st' (AK (v:=(vI 0)) O O) O (Aj O sizeOf77 O (asg' O (oNl' (zF (sL [4,5] O) (zC (zH (BR O (Ah (i:=0) (cs:=AG (((x:Int):Rat)/((y:Int):Rat))) O O isAgg77 sizeOf77 O) (rd_tmp (v:=(vI 0)) O) (λw hw=>⟨rfl,hw.out⟩))))))))))
theorem Xq (x:Rat) (hs:Sz x<=137438953472) (w:World)  :Calls prog 154 #[(aG (AG x))] w (AX w (aG (AG (x*(1/2))))):=by
 have sh:=R2
 refine AS (args:=[(aG (AG x))]) func154 O O (leB O) (zM (sL [0] O) (q4 (BG (cs:=AG x) O λb1=>al Dg O λb2=>q3 (sL [1,2] O) (ck' call93 (Qo (1:Int) (2:Int) Z Z Z Z Z) O (AJ O (st' (AK (v:=(aG (AG (((1:Int):Rat)/((2:Int):Rat))))) O O) O (zK (k:=7) (u:=(aG (AG ((1:Rat)/2)))) O (by rw [Yu]) (st' (AK (v:=(vI 0)) O O) O (al Dg O λb3=>?_)))))))))
 refine Aj O sizeOf77 O (asg' O (q3 (sL [1,2,3] O) (An 2 Bj O (An 0 Bj O ?_))))
 have hz1:=Bo x ((1:Rat)/2)
 exact ck' call91 (EN x ((1:Rat)/2) (by (try simp only [BO]);omega)) O (CP O sizeOf77 O (oNl' (zF (sL [2,3] O) (zC (zH (ret_one O (Ah (i:=1) (cs:=AG (x*((1:Rat)/2))) O O isAgg77 sizeOf77 O) (λw hw=>⟨rfl,hw.out⟩)))))))
theorem ET (a b c:Pt) (hs:BV a+BV b+BV c<=8589934592) (w:World)  :Calls prog 155 #[(aG (Ad a)),(aG (Ad b)),(aG (Ad c))] w (AX w (aG (AG (Aa a b c)))):=by
 refine AS (args:=[(aG (Ad a)),(aG (Ad b)),(aG (Ad c))]) func155 O O (leB O) (zM (sL [0,1,2] O) (q4 (BG (cs:=Ad a) O λb1=>BG (cs:=Ad b) O λb2=>BG (cs:=Ad c) O λb3=>al Dg O λb4=>q6 (sL [3,4,5,6] O) (CE [(0,true),(1,true),(3,true),(4,true),(2,false),(5,false),(6,false),(7,false)] (sl sr) (C3 1 BD O (C3 2 BD O (C3 0 BD O ?_)))))))
 refine C3 2 BD O (zL O ?_)
 have hz1:=B0 b a
 refine ck' call120 (Fz b a Z) O (zG (sl sr) (zL O ?_))
 have hz2:=B0 c a
 refine ck' call120 (Fz c a Z) O (zG (sl sr) (zL O ?_))
 have hz3:=Dp (b-a) (c-a)
 exact ck' call195 (GP (b-a) (c-a) Z) O (zG (sl sr) (zL O (Aj O sizeOf77 O (zG (sl sr) (zT (zF (sL [6] O) (zC (zH (ret_one O (Ah (i:=0) (cs:=AG (Ar (b-a) (c-a))) O O isAgg77 sizeOf77 O) (λw hw=>⟨rfl,hw.out⟩))))))))))
theorem YG (a b c:Pt) (hs:BV a+BV b+BV c<=8589934592) (w:World)  :Calls prog 92 #[(aG (Ad a)),(aG (Ad b)),(aG (Ad c))] w (AX w (aG (AG (Aa a b c*(1/2))))):=by
 refine AS (args:=[(aG (Ad a)),(aG (Ad b)),(aG (Ad c))]) func92 O O (leB O) (zM (sL [0,1,2] O) (q4 (BG (cs:=Ad a) O λb1=>BG (cs:=Ad b) O λb2=>BG (cs:=Ad c) O λb3=>al Dg O λb4=>q3 (sL [3,4,5,6] O) (An 3 BD O (An 2 BD O (An 1 BD O ?_))))))
 have hz1:=EM a b c
 refine ck' call155 (ET a b c Z) O ?_
 have hz2:=Bo (Aa a b c) (1/2)
 exact ck' call154 (Xq (Aa a b c) Z) O (Aj O sizeOf77 O (oNl' (zF (sL [6] O) (zC (zH (ret_one O (Ah (i:=0) (cs:=AG ((Aa a b c)*(1/2))) O O isAgg77 sizeOf77 O) (λw hw=>⟨rfl,hw.out⟩)))))))
end
section
set_option maxRecDepth 100000
theorem Cg (x0:Rat) (x1:Rat) (x2:Rat):Instr.fill (λi=>some (i*5,5)) (AG (0:Rat)++AG (0:Rat)++AG (0:Rat)).toArray [(0,.agg (AG x0).toArray),(1,.agg (AG x1).toArray),(2,.agg (AG x2).toArray)]=some (AG x0++AG x1++AG x2).toArray:=by kernel_rfl
theorem YH (a b c p:Pt) (hs:BV a+BV b+BV c+BV p<=268435456) (h:Aa a b c≠0) (w:World)  :Calls prog 261 #[(aG (Ad a)),(aG (Ad b)),(aG (Ad c)),(aG (Ad p))] w (AX w (Value.tuple #[(aG (AG (Aa p b c/Aa a b c)++AG (Aa a p c/Aa a b c)++AG (Aa a b p/Aa a b c))),(vI 0)])):=by
 refine AS (args:=[(aG (Ad a)),(aG (Ad b)),(aG (Ad c)),(aG (Ad p))]) func261 O O (leB O) (zM (sL [0,1,2,3] O) (q4 (BG (cs:=Ad a) O λb1=>BG (cs:=Ad b) O λb2=>BG (cs:=Ad c) O λb3=>BG (cs:=Ad p) O λb4=>al NP O λb5=>asg' O (q3 (sL [4,5,6,7,8,9] O) (An 4 BD O (An 3 BD O ?_))))))
 refine An 2 BD O ?_
 have hz1:=EM a b c
 refine ck' call155 (ET a b c Z) O (al Dg O λb6=>Aj O sizeOf77 O (q6 (sL [4,5,6,7,8,9,10] O) (rN [(0,true),(1,true),(2,true),(4,true),(5,true),(6,true),(8,true),(9,true),(10,true),(3,false),(7,false),(11,false),(12,true)] [⟨13,11,328,AG (0:Rat)++AG (0:Rat)++AG (0:Rat)⟩] [(14,false)] sr jV (λ_ _ d _ _ h=>by cases d<;>exact h) (EP O O NP O (Fk)) O (DN 2 BD O (DN 4 BD O (DN 3 BD O (DN 5 BD O (DN 2 BD O (DN 3 BD O (DN 5 BD O ?_))))))))))
 refine DN 4 BD O (DN 2 BD O (zi O λEF EL=>?_))
 have hz2:=EM p b c
 refine ck' call155 (ET p b c Z) O (zl sr O (zi O λEF EL=>?_))
 have hz3:=EM a p c
 refine ck' call155 (ET a p c Z) O (zl sr O (zi O λEF EL=>?_))
 have hz4:=EM a b p
 refine ck' call155 (ET a b p Z) O (zl sr O (FP (v:=(aG (AG (Aa p b c)++AG (Aa a p c)++AG (Aa a b p)))) O (Bk (zs:=AG (0:Rat)++AG (0:Rat)++AG (0:Rat)) (vs:=AG (Aa p b c)++AG (Aa a p c)++AG (Aa a b p)) (pv:=[(0,(aG (AG (Aa p b c)))),(1,(aG (AG (Aa a p c)))),(2,(aG (AG (Aa a b p))))]) zeroValue328 underlying328 sizeOf77 O (Cg (Aa p b c) (Aa a p c) (Aa a b p))) O (yI λb7=>zL O (Aj O sizeOf328 O (zG (sl sr) (zT (zF (sL [4,5,6,8,9,10,11] O) (q1 (q4 (AJ O ?_))))))))))
 refine oNl' (zC (zN (yG 5 (zk (q4 (st' (AW (c:=true) O O jY) O (oNl' (q1 (zZ O (zJ (q1 ?_)))))))))))
 refine zN (q4 (AJ O (asg' O (q6 (sL [4,5,6,8,9,10,11,32,12] O) (rN [(0,true),(1,true),(2,true),(3,true),(4,false),(5,true),(6,true),(7,true)] [⟨8,13,77,AG (0:Rat)⟩] [(9,false),(10,true)] sr jV (λ_ _ d _ _ h=>by cases d<;>exact h) (EP O O Dg O (Fk)) O (Rj O (FP (v:=(pP b7 0)) O (AB (j:=0) O O underlying328 sizeOf77 O jY O) O (Ri 0 (AG (Aa p b c)) Bj O (DN 1 Bj O (zi O λEF EL=>?_))))))))))
 have hz5:=I7 (a:=Aa p b c) (b:=Aa a b c) (by assumption)
 refine ck' call156 (KM (Aa p b c) (Aa a b c) Z (by assumption)) O (zl sr O (Rj O (FP O (AK (v:=(aG (AG ((Aa p b c)/(Aa a b c))))) O O) O (FP O (AK (v:=(vI 0)) O O) O (yI λb8=>zL O (Aj O sizeOf77 O (zG (sl sr) (pS' O (zT (zF (sL [4,5,6,8,9,10,11,32,12,13,14] O) ?_))))))))))
 refine q1 (q4 (AJ O (st' (Bf (c:=false) O O jY) O (oNl' (zF (sL [4,5,6,8,9,10,11,32,12,13,44] O) (zC (zX O (zJ (zC (zQ (AJ O ?_)))))))))))
 refine An 0 Bj O (st' (v:=(pP b7 0)) (AB (j:=0) O O underlying328 sizeOf77 O jY O) O (Ei 1 (off:=0) (vs:=AG ((Aa p b c)/(Aa a b c))) (cs':=AG ((Aa p b c)/(Aa a b c))++AG (Aa a p c)++AG (Aa a b p)) (AM O) O sizeOf77 O (oNl' (zF (sL [4,5,6,8,9,10,11,32,12,13] O) (zP (zC (zQ (st' (AV (c:=(1:Int)) O O jY) O (AJ O (oNl' (zF (sL [4,5,6,8,9,10,11,32,12,13] O) ?_)))))))))))
 refine zu (zk (q4 (st' (AW (c:=true) O O jY) O (oNl' (q1 (zZ O (zJ (q1 (zN (q4 (AJ O ?_)))))))))))
 refine asg' O (q6 (sL [4,5,6,8,9,10,11,32,12,13] O) (zM (sL [4,5,6,8,9,10,11,32,12] O) (rN [(0,true),(1,true),(2,true),(3,true),(4,false),(5,true),(6,true),(7,true)] [⟨8,13,77,AG (0:Rat)⟩] [(9,false),(10,true)] sr jV (λ_ _ d _ _ h=>by cases d<;>exact h) (EP O O Dg O (Fk)) O (Rj O (FP (v:=(pP b7 5)) O (AB (j:=1) O O underlying328 sizeOf77 O jY O) O (Ri 1 (AG (Aa a p c)) Bj O (DN 2 Bj O (zi O λEF EL=>?_))))))))
 have hz6:=I7 (a:=Aa a p c) (b:=Aa a b c) (by assumption)
 refine ck' call156 (KM (Aa a p c) (Aa a b c) Z (by assumption)) O (zl sr O (Rj O (FP O (AK (v:=(aG (AG ((Aa a p c)/(Aa a b c))))) O O) O (FP O (AK (v:=(vI 0)) O O) O (yI λb9=>zL O (Aj O sizeOf77 O (zG (sl sr) (pS' O (zT (zF (sL [4,5,6,8,9,10,11,32,12,13,14] O) ?_))))))))))
 refine q1 (q4 (AJ O (st' (Bf (c:=false) O O jY) O (oNl' (zF (sL [4,5,6,8,9,10,11,32,12,13,44] O) (zC (zX O (zJ (zC (zQ (AJ O ?_)))))))))))
 refine An 0 Bj O (st' (v:=(pP b7 5)) (AB (j:=1) O O underlying328 sizeOf77 O jY O) O (Ei 2 (off:=5) (vs:=AG ((Aa a p c)/(Aa a b c))) (cs':=AG ((Aa p b c)/(Aa a b c))++AG ((Aa a p c)/(Aa a b c))++AG (Aa a b p)) (AM O) O sizeOf77 O (oNl' (zF (sL [4,5,6,8,9,10,11,32,12,13] O) (zP (zC (zQ (st' (AV (c:=(2:Int)) O O jY) O (AJ O (oNl' (zF (sL [4,5,6,8,9,10,11,32,12,13] O) ?_)))))))))))
 refine zu (zk (q4 (st' (AW (c:=true) O O jY) O (oNl' (q1 (zZ O (zJ (q1 (zN (q4 (AJ O ?_)))))))))))
 refine asg' O (q6 (sL [4,5,6,8,9,10,11,32,12,13] O) (zM (sL [4,5,6,8,9,10,11,32,12] O) (rN [(0,true),(1,true),(2,true),(3,true),(4,false),(5,true),(6,true),(7,true)] [⟨8,13,77,AG (0:Rat)⟩] [(9,false),(10,true)] sr jV (λ_ _ d _ _ h=>by cases d<;>exact h) (EP O O Dg O (Fk)) O (Rj O (FP (v:=(pP b7 10)) O (AB (j:=2) O O underlying328 sizeOf77 O jY O) O (Ri 2 (AG (Aa a b p)) Bj O (DN 3 Bj O (zi O λEF EL=>?_))))))))
 have hz7:=I7 (a:=Aa a b p) (b:=Aa a b c) (by assumption)
 refine ck' call156 (KM (Aa a b p) (Aa a b c) Z (by assumption)) O (zl sr O (Rj O (FP O (AK (v:=(aG (AG ((Aa a b p)/(Aa a b c))))) O O) O (FP O (AK (v:=(vI 0)) O O) O (yI λb10=>zL O (Aj O sizeOf77 O (zG (sl sr) (pS' O (zT (zF (sL [4,5,6,8,9,10,11,32,12,13,14] O) ?_))))))))))
 refine q1 (q4 (AJ O (st' (Bf (c:=false) O O jY) O (oNl' (zF (sL [4,5,6,8,9,10,11,32,12,13,44] O) (zC (zX O (zJ (zC (zQ (AJ O ?_)))))))))))
 refine An 0 Bj O (st' (v:=(pP b7 10)) (AB (j:=2) O O underlying328 sizeOf77 O jY O) O (Ei 3 (off:=10) (vs:=AG ((Aa a b p)/(Aa a b c))) (cs':=AG ((Aa p b c)/(Aa a b c))++AG ((Aa a p c)/(Aa a b c))++AG ((Aa a b p)/(Aa a b c))) (AM O) O sizeOf77 O (oNl' (zF (sL [4,5,6,8,9,10,11,32,12,13] O) (zP (zC (zQ (st' (AV (c:=(3:Int)) O O jY) O (AJ O (oNl' (zF (sL [4,5,6,8,9,10,11,32,12,13] O) ?_)))))))))))
 refine zu (zk (q4 (st' (AW (c:=false) O O jY) O (oNl' (q1 (zX O (zY (zR (zR (zV (q2 ?_)))))))))))
 exact An 3 eL O (Ei 5 (off:=0) (vs:=AG ((Aa p b c)/(Aa a b c))++AG ((Aa a p c)/(Aa a b c))++AG ((Aa a b p)/(Aa a b c))) (cs':=AG ((Aa p b c)/(Aa a b c))++AG ((Aa a p c)/(Aa a b c))++AG ((Aa a b p)/(Aa a b c))) (AM O) O sizeOf328 O (asg' O (oNl' (zF (sL [4,5,6,8,9,10,11,32,12,13] O) (zC (zH (BR O (Ah (i:=5) (cs:=AG ((Aa p b c)/(Aa a b c))++AG ((Aa a p c)/(Aa a b c))++AG ((Aa a b p)/(Aa a b c))) O O isAgg328 sizeOf328 O) (rd_tmp (v:=(vI 0)) O) (λw hw=>⟨rfl,hw.out⟩))))))))
theorem K1  :Instr.fill (λi=>some (i*5,5)) (AG (0:Rat)++AG (0:Rat)++AG (0:Rat)).toArray []=some (AG (0:Rat)++AG (0:Rat)++AG (0:Rat)).toArray:=by kernel_rfl
theorem Uo (a b c p:Pt) (hs:BV a+BV b+BV c+BV p<=268435456) (h:Aa a b c=0) (w:World)  :Calls prog 261 #[(aG (Ad a)),(aG (Ad b)),(aG (Ad c)),(aG (Ad p))] w (AX w (Value.tuple #[(aG (AG (0:Rat)++AG (0:Rat)++AG (0:Rat))),(vI 1)])):=by
 refine AS (args:=[(aG (Ad a)),(aG (Ad b)),(aG (Ad c)),(aG (Ad p))]) func261 O O (leB O) (zM (sL [0,1,2,3] O) (q4 (BG (cs:=Ad a) O λb1=>BG (cs:=Ad b) O λb2=>BG (cs:=Ad c) O λb3=>BG (cs:=Ad p) O λb4=>al NP O λb5=>asg' O (q3 (sL [4,5,6,7,8,9] O) (An 4 BD O (An 3 BD O ?_))))))
 refine An 2 BD O ?_
 have hz1:=EM a b c
 refine ck' call155 (ET a b c Z) O (al Dg O λb6=>Aj O sizeOf77 O (q6 (sL [4,5,6,7,8,9,10] O) (rN [(0,true),(1,true),(2,true),(4,true),(5,true),(6,true),(8,true),(9,true),(10,true),(3,false),(7,false),(11,false),(12,true)] [⟨13,11,328,AG (0:Rat)++AG (0:Rat)++AG (0:Rat)⟩] [(14,false)] sr jV (λ_ _ d _ _ h=>by cases d<;>exact h) (EP O O NP O (Fk)) O (DN 2 BD O (DN 4 BD O (DN 3 BD O (DN 5 BD O (DN 2 BD O (DN 3 BD O (DN 5 BD O ?_))))))))))
 refine DN 4 BD O (DN 2 BD O (zi O λEF EL=>?_))
 have hz2:=EM p b c
 refine ck' call155 (ET p b c Z) O (zl sr O (zi O λEF EL=>?_))
 have hz3:=EM a p c
 refine ck' call155 (ET a p c Z) O (zl sr O (zi O λEF EL=>?_))
 have hz4:=EM a b p
 refine ck' call155 (ET a b p Z) O (zl sr O (FP (v:=(aG (AG (Aa p b c)++AG (Aa a p c)++AG (Aa a b p)))) O (Bk (zs:=AG (0:Rat)++AG (0:Rat)++AG (0:Rat)) (vs:=AG (Aa p b c)++AG (Aa a p c)++AG (Aa a b p)) (pv:=[(0,(aG (AG (Aa p b c)))),(1,(aG (AG (Aa a p c)))),(2,(aG (AG (Aa a b p))))]) zeroValue328 underlying328 sizeOf77 O (Cg (Aa p b c) (Aa a p c) (Aa a b p))) O (yI λb7=>zL O (Aj O sizeOf328 O (zG (sl sr) (zT (zF (sL [4,5,6,8,9,10,11] O) (q1 (q4 (AJ O ?_))))))))))
 refine oNl' (zC (zN (yG 5 (zk (q4 (st' (AW (c:=true) O O jY) O (oNl' (q1 (zZ O (zJ (q1 ?_)))))))))))
 refine zN (q4 (AJ O (asg' O (q6 (sL [4,5,6,8,9,10,11,32,12] O) (rN [(0,true),(1,true),(2,true),(3,true),(4,false),(5,true),(6,true),(7,true)] [⟨8,13,77,AG (0:Rat)⟩] [(9,false),(10,true)] sr jV (λ_ _ d _ _ h=>by cases d<;>exact h) (EP O O Dg O (Fk)) O (Rj O (FP (v:=(pP b7 0)) O (AB (j:=0) O O underlying328 sizeOf77 O jY O) O (Ri 0 (AG (Aa p b c)) Bj O (DN 1 Bj O (zi O λEF EL=>Bx (args:=[(aG (AG (Aa p b c))),(aG (AG (Aa a b c)))]) (v:=(Value.tuple #[(aG (AG (0:Rat))),(vI 5)])) call156 (λw hw=>(by rw [h];exact Vy _ w)) O ?_))))))))))
 refine zl sr O (Rj O (FP O (AK (v:=(aG (AG (0:Rat)))) O O) O (FP O (AK (v:=(vI 5)) O O) O (yI λb8=>zL O (Aj O sizeOf77 O (zG (sl sr) (pS' O (zT (zF (sL [4,5,6,8,9,10,11,32,12,13,14] O) (q1 ?_))))))))))
 refine q4 (AJ O (st' (Bf (c:=true) O O jY) O (oNl' (zF (sL [4,5,6,8,9,10,11,32,12,13,44] O) (zC (zZ O (q4 (st' (v:=(aG (AG (0:Rat)++AG (0:Rat)++AG (0:Rat)))) (Bk (zs:=AG (0:Rat)++AG (0:Rat)++AG (0:Rat)) (vs:=AG (0:Rat)++AG (0:Rat)++AG (0:Rat)) (pv:=[]) zeroValue328 underlying328 sizeOf77 O (K1 )) O (Gt O sizeOf328 O (asg' O (oNl' ?_)))))))))))
 exact zF (sL [4,5,6,8,9,10,11,32,12,13] O) (zC (zH (zI (zU (zI (zI (zU (zI (BR O (Ah (i:=3) (cs:=AG (0:Rat)++AG (0:Rat)++AG (0:Rat)) O O isAgg328 sizeOf328 O) (rd_tmp (v:=(vI 1)) O) (λw hw=>⟨rfl,hw.out⟩))))))))))
end
def zq (q:Rat):Nat:=if q.num.sign=0 then 1 else 0
def Jb (x y z:Rat):Nat:=if x.num.sign = -1\/y.num.sign = -1\/z.num.sign = -1 then 0 else 1+zq x+zq y+zq z
theorem Rm {x y z:Rat} (h:x.num.sign = -1):Jb x y z=0:=if_pos (.inl h)
theorem Rn {x y z:Rat} (h:y.num.sign = -1):Jb x y z=0:=if_pos (.inr (.inl h))
theorem Rp {x y z:Rat} (h:z.num.sign = -1):Jb x y z=0:=if_pos (.inr (.inr h))
theorem X2 {x y z:Rat} (h1:¬x.num.sign = -1) (h2:¬y.num.sign = -1) (h3:¬z.num.sign = -1):Jb x y z=1+zq x+zq y+zq z:=if_neg (by simp [h1,h2,h3])
theorem Ru {x:Rat} (h:x.num.sign=0):zq x=1:=if_pos h
theorem OW {x:Rat} (h:¬x.num.sign=0):zq x=0:=if_neg h
theorem X9 (x:Rat):zq x<=1:=by unfold zq;split<;>omega
section
set_option maxRecDepth 100000
end
section
set_option maxRecDepth 100000
end
end Go.Proofs.YtpolhpjiahbidaaGreatDoor
