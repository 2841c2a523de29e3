import Derived.Test.YtfbomiejpbchdaaGreatDoorPart06
import Derived.Test.YtfbomiejpbchdaaGreatDoorPart15
import Derived.Test.YtfbomiejpbchdaaGreatDoorPart18
namespace Go.Proofs.YtfbomiejpbchdaaGreatDoor
open Go Go.RowKit Go.Proofs.Tryz
set_option linter.unusedVariables false
set_option linter.unusedSimpArgs false
def Sz (q:Rat):Nat:=max (nw q.num.natAbs) (nw q.den)
theorem D5 (q:Rat):nw q.num.natAbs<=Sz q:=Nat.le_max_left ..
theorem Dl (q:Rat):nw q.den<=Sz q:=Nat.le_max_right ..
theorem Vd {q:Rat} {k:Nat} (h1:nw q.num.natAbs<=k) (h2:nw q.den<=k):Sz q<=k:=Nat.max_le.2 ⟨h1,h2⟩
theorem Jt:nw 1=1:=by decide
theorem SY (q:Rat):1<=Sz q:=Nat.le_trans (by rw [<-Jt];exact DL q.den_pos) (Dl q)
theorem Ji {n:Int} {d k:Nat} (h1:nw n.natAbs<=k) (h2:nw d<=k) (hk:1<=k):Sz (mkRat n d)<=k:=by
  refine Vd ?_ ?_
  · rw [Rat.num_mkRat]
    split
    · exact Nat.zero_le _
    · refine Nat.le_trans (DL ?_) h1
      rw [Int.natAbs_ediv_of_dvd (by rw [Int.ofNat_dvd_left];exact Nat.gcd_dvd_right ..)]
      exact Nat.div_le_self _ _
  · rw [Rat.den_mkRat]
    split
    · rw [Jt];exact hk
    · exact Nat.le_trans (DL (Nat.div_le_self _ _)) h2
theorem O2 (a b:Int):nw (a*b).natAbs<=nw a.natAbs+nw b.natAbs:=by rw [Int.natAbs_mul];exact RV _ _
theorem EC (a b:Int):nw (a+b).natAbs<=max (nw a.natAbs) (nw b.natAbs)+1:=Nat.le_trans (DL (Int.natAbs_add_le a b)) (Wg _ _)
theorem DH (a b:Rat):nw (a.num*((b.den:Nat):Int)).natAbs<=Sz a+Sz b:=by
  have h1:=O2 a.num ((b.den:Nat):Int)
  have h2:=D5 a
  have h3:=Dl b
  rw [Int.natAbs_natCast] at h1
  omega
theorem IA (a b:Rat):nw (a.den*b.den)<=Sz a+Sz b:=by
  have h1:=RV a.den b.den
  have h2:=Dl a
  have h3:=Dl b
  omega
theorem Jv (a b:Rat):nw (a.num*b.num).natAbs<=Sz a+Sz b:=by
  have h1:=O2 a.num b.num
  have h2:=D5 a
  have h3:=D5 b
  omega
theorem LF (a b:Rat):mkRat (a.num*((b.den:Nat):Int)+b.num*((a.den:Nat):Int)) (a.den*b.den)=a+b:=by rw [Rat.add_def,Rat.normalize_eq_mkRat]
theorem Kj (a b:Rat):mkRat (a.num*b.num) (a.den*b.den)=a*b:=by rw [Rat.mul_def,Rat.normalize_eq_mkRat]
theorem Hg {a:Rat} (h:a.den-1=0):a=((a.num:Int):Rat):=by
  have h1:a.den=1:=by have:=a.den_pos;omega
  exact Rat.ext O h1
theorem Px {a b:Rat} (ha:a.den-1=0) (hb:b.den-1=0):((a.num+b.num:Int):Rat)=a+b:=by
  rw [Rat.intCast_add,<-Hg ha,<-Hg hb]
theorem QE {a b:Rat} (ha:a.den-1=0) (hb:b.den-1=0):((a.num*b.num:Int):Rat)=a*b:=by
  rw [Rat.intCast_mul,<-Hg ha,<-Hg hb]
theorem NL {a b:Rat} (h:a.den-1=b.den-1):a.den=b.den:=by
  have h1:=a.den_pos
  have h2:=b.den_pos
  omega
theorem Ry {a b:Rat} (h:a.den-1=b.den-1):mkRat (a.num+b.num) a.den=a+b:=by
  have h1:=NL h
  have h2:a+b=mkRat a.num a.den+mkRat b.num a.den:=by rw [Rat.mkRat_self];conv=>lhs;rw [<-Rat.mkRat_self b,<-h1]
  rw [h2,Rat.mkRat_eq_div,Rat.mkRat_eq_div,Rat.mkRat_eq_div,Rat.intCast_add,Rat.div_def,Rat.div_def,Rat.div_def,Rat.add_mul]
theorem OA (a b:Rat):Sz (a+b)<=Sz a+Sz b+1:=by
  rw [<-LF]
  have h1:=DH a b
  have h2:=DH b a
  have h3:=EC (a.num*((b.den:Nat):Int)) (b.num*((a.den:Nat):Int))
  have h4:=IA a b
  exact Ji Z Z Z
theorem E5 (a b:Rat):Sz (a*b)<=Sz a+Sz b:=by
  rw [<-Kj]
  have:=SY a
  exact Ji (Jv a b) (IA a b) Z
theorem FV (a:Rat):Sz (-a)=Sz a:=by unfold Sz;rw [Rat.neg_num,Rat.neg_den,Int.natAbs_neg]
theorem Hr (a b:Rat):Sz (a-b)<=Sz a+Sz b+1:=by rw [Rat.sub_eq_add_neg,<-FV b];exact OA a (-b)
theorem Kw {b:Rat} (h:b≠0):mkRat (EO (decide (b.num.sign<0)) b.den) b.num.natAbs=b⁻¹:=by
  have hn:b.num≠0:=λe=>h (Rat.num_eq_zero.1 e)
  have hb:b=(b.num:Rat)/((b.den:Nat):Rat):=by rw [<-Rat.mkRat_eq_div,Rat.mkRat_self]
  have hd:((b.den:Nat):Rat)≠0:=by
    intro e
    have:=b.den_pos
    have h2:b.den=0:=by exact_mod_cast e
    omega
  have hn2:((b.num:Int):Rat)≠0:=by
    intro e
    exact hn (by exact_mod_cast e)
  rw [Rat.mkRat_eq_div]
  conv=>rhs;rw [hb]
  by_cases hs:b.num<0
  · have e1:decide (b.num.sign<0)=true:=by simp [Int.sign_eq_neg_one_of_neg hs]
    have e2:((b.num.natAbs:Nat):Rat) = -((b.num:Int):Rat):=by
      have:((b.num.natAbs:Nat):Int) = -b.num:=by omega
      rw [<-Rat.intCast_natCast,this,Rat.intCast_neg]
    rw [e1,e2]
    simp only [EO,if_true,Rat.intCast_neg,Rat.intCast_natCast]
    grind
  · have e1:decide (b.num.sign<0)=false:=by
      have:0<=b.num.sign:=Int.sign_nonneg_iff.2 Z
      exact decide_eq_false Z
    have e2:((b.num.natAbs:Nat):Rat)=((b.num:Int):Rat):=by
      have:((b.num.natAbs:Nat):Int)=b.num:=by omega
      rw [<-Rat.intCast_natCast,this]
    rw [e1,e2]
    simp only [EO,Bool.false_eq_true,if_false,Rat.intCast_natCast]
    grind
theorem S7 {b:Rat} (h:b≠0):Sz b⁻¹<=Sz b:=by
  rw [<-Kw h]
  exact Ji (by rw [Ay];exact Dl b) (D5 b) (SY b)
theorem JQ {a b:Rat} (h:b≠0):Sz (a/b)<=Sz a+Sz b:=by
  rw [Rat.div_def]
  have h1:=E5 a b⁻¹
  have h2:=S7 h
  omega
def GK (a b:Rat):Int:=if a<b then -1 else if a=b then 0 else 1
theorem Jr (a b:Rat):(a.num*((b.den:Nat):Int)-b.num*((a.den:Nat):Int)).sign=GK a b:=by
  have h1:=Rat.lt_iff a b
  have h2:=@Rat.eq_iff_mul_eq_mul a b
  unfold GK
  split
  · rename_i h;exact Int.sign_eq_neg_one_of_neg (by have:=h1.1 h;omega)
  · rename_i h
    split
    · rename_i h';rw [h2.1 h'];simp
    · rename_i h'
      have h3:¬a.num*((b.den:Nat):Int)<b.num*((a.den:Nat):Int):=λe=>h (h1.2 e)
      have h4:¬a.num*((b.den:Nat):Int)=b.num*((a.den:Nat):Int):=λe=>h' (h2.2 e)
      exact Int.sign_eq_one_of_pos Z
theorem P9 {a b:Rat} (h:a.den-1=b.den-1):(a.num-b.num).sign=GK a b:=by
  rw [<-Jr,<-NL h,<-Int.sub_mul,Int.sign_mul]
  have:=a.den_pos
  rw [show ((a.den:Nat):Int).sign=1 from Int.sign_eq_one_of_pos Z]
  simp
theorem Iy {a b:Rat}:GK a b<0↔a<b:=by
  unfold GK;split
  · simp [*]
  · split<;>simp [*]
theorem PI {a b:Rat}:GK a b=0↔a=b:=by
  unfold GK;split
  · rename_i h
    constructor
    · intro e;cases e
    · intro e;subst e;exact absurd h (by simp)
  · split<;>simp [*]
theorem IK (q:Rat):AK q=A9 q.num++AU (q.den-1):=rfl
theorem Tz {n:Int} {d:Nat} (hd:d≠0):(mkRat n d).num=EO (decide (n.sign<0)) (n.natAbs/Nat.gcd n.natAbs d):=by
  rw [Rat.num_mkRat,if_neg hd,Nat.gcd_comm]
  unfold EO
  by_cases h:n<0
  · rw [Int.sign_eq_neg_one_of_neg h]
    have e:n = -((n.natAbs:Nat):Int):=by omega
    simp only [show decide ((-1:Int)<0)=true from rfl,if_true]
    conv=>lhs;rw [e]
    rw [Int.natAbs_neg,Int.natAbs_natCast,Int.neg_ediv_of_dvd (by rw [Int.natCast_dvd_natCast];exact Nat.gcd_dvd_left ..)]
    rfl
  · have h0:0<=n.sign:=Int.sign_nonneg_iff.2 Z
    have e:n=((n.natAbs:Nat):Int):=by omega
    rw [if_neg (by simp;omega)]
    conv=>lhs;rw [e]
    rw [Int.natAbs_natCast]
    rfl
theorem VA {n:Int} {d:Nat} (hd:d≠0):(mkRat n d).den=d/Nat.gcd n.natAbs d:=by rw [Rat.den_mkRat,if_neg hd,Nat.gcd_comm]
section
set_option maxRecDepth 100000
theorem DK (x0:Int) (x1:Nat):Instr.fill ([(0,3),(3,2)].toArray[·]?) (AK (0:Rat)).toArray [(0,.agg (A9 x0).toArray),(1,.agg (AU x1).toArray)]=some (A9 x0++AU x1).toArray:=by kernel_rfl
theorem Gc (n:Int) (d:Nat) (hn:nw n.natAbs<=1099511627776) (hd:nw d<=1099511627776) (hd0:d≠0) (w:World)  :Calls prog 53 #[(aG (A9 n)),(aG (AU d))] w (Ak w (aG (AK (mkRat n d)))):=by
 have hg:Nat.gcd n.natAbs d≠0:=λh=>hd0 (Nat.eq_zero_of_gcd_eq_zero_right h)
 have hgw:nw (Nat.gcd n.natAbs d)<=nw d:=DL (Nat.gcd_le_right _ (Nat.pos_of_ne_zero hd0))
 have hqw:nw (d/Nat.gcd n.natAbs d)<=nw d:=DL (Nat.div_le_self _ _)
 have h1w:=Jt
 refine Ab (args:=[(aG (A9 n)),(aG (AU d))]) func53 O O (Ad O) (AF.subF (sL [0,1] O) (q4 (Bk (cs:=A9 n) O λb1=>Bk (cs:=AU d) O λb2=>al Dv O λb3=>?_)))
 refine q6 (sL [2,3,4] O) (rN [(0,true),(2,true),(1,false),(3,false)] [⟨4,5,55,AU 0⟩] [(5,false)] sr (by kernel_rfl) (λ_ _ d _ _ h=>by cases d<;>exact h) (Gg O O FR O (Ig)) O (Ho 2 Ct O (Ho 1 Bz O (CO.imp O λEF EL=>BS call99 (Lq n) O ?_))))
 refine CO.back0 sr O (CO.imp O λEF EL=>BS call98 (Wi n.natAbs d Z Z) O (CO.back0 sr O (CO.news1 λb4=>AS.imp O ?_)))
 refine Aq O sizeOf55 O (AS.back (sl sr) (AS.nil (AD.subF (sL [2,3,4,5] O) (q1 (rN [(0,true),(2,true),(1,false),(3,false),(4,true),(5,true),(6,true),(7,true)] [⟨8,6,55,AU 0⟩,⟨9,7,55,AU 0⟩] [(10,false),(11,false),(12,true)] sr (by kernel_rfl) (λ_ _ d _ _ h=>by cases d<;>exact h) (Gg O O FR O (Gg O O FR O (Ig))) O ?_)))))
 refine Ho 3 Ct O (Ho 0 Bz O (CO.imp O λEF EL=>BS call99 (Lq n) O (CO.back0 sr O (CO.imp O λEF EL=>?_))))
 refine BS call100 (OL n.natAbs (Nat.gcd n.natAbs d) Z Z Z) O (CO.back0 sr O (Nq O (HA O (Aa (v:=(aG (AU (n.natAbs/(Nat.gcd n.natAbs d))))) O O) O (HA O (Aa (v:=(aG (AU (n.natAbs%(Nat.gcd n.natAbs d))))) O O) O (HA O (Aa (v:=(Value.bool true)) O O) O ?_)))))
 refine CO.news2 λb5 b6=>AS.imp O (Aq O sizeOf55 O (AS.back (sl (sl sr)) (AS.imp O (C9 O sizeOf55 O ?_))))
 refine AS.back (sl (sl sr)) (Ez O (AS.nil (AD.subF (sL [2,3,4,5,6] O) (q2 (BE 4 Bz O ?_)))))
 refine BE 2 Bz O (BS call100 (OL d (Nat.gcd n.natAbs d) Z Z Z) O (AP O (AH (Aa (v:=(aG (AU (d/(Nat.gcd n.natAbs d))))) O O) O (AH (Aa (v:=(aG (AU (d%(Nat.gcd n.natAbs d))))) O O) O (AH (Aa (v:=(Value.bool true)) O O) O ?_)))))
 refine al FR O λb7=>al FR O λb8=>C9 O sizeOf55 O (Aq O sizeOf55 O (AJ O (q6 (sL [2,3,4,5,6,9] O) ?_)))
 refine rC [(0,true),(1,false),(2,false),(3,true),(4,true),(5,true)] 6 [] sr (sk (sl sr)) (by kernel_rfl) (λ_ _ d _ _ h=>by cases d<;>exact h) (vE (v:=(aG (AU (d/(Nat.gcd n.natAbs d))))) O (A6 (i:=1) (vs:=AU (d/(Nat.gcd n.natAbs d))) O O Bz.a Bz.s O O) O (CZ.imp O (BS call102 (I6 1 Z) O (CZ.back sr (CZ.imp O ?_)))))
 refine BS call101 (Nd (d/(Nat.gcd n.natAbs d)) 1 Z Z) O (CZ.back sr (vM O O O (vE O (Aa (v:=(aG (AU ((d/(Nat.gcd n.natAbs d))-1)))) O O) O (vE O (Aa (v:=(Value.bool (decide (1<=d/(Nat.gcd n.natAbs d))))) O O) O (CZ.cut O ?_)))))
 refine C9 O sizeOf55 O (AS.back (sk (sl sr)) (AS.nil (AD.subF (sL [2,3,4,5,6,9] O) (q1 (DA [(0,true),(3,true),(5,true),(1,false),(2,true),(4,false),(6,true),(7,false)] (sk (sk (sk (sk (sk (sl sr)))))) ?_)))))
 refine E7 6 Ct O (E7 2 Bz O (E7 1 Bz O (AS.imp O (BS call59 (KM n) O (AS.back (sk (sk (sk (sk (sk (sl sr)))))) ?_)))))
 refine Aw O (Af (c:=(decide (n.sign<(0:Int)))) O O O) (AS.imp O (BS call103 (Ds (decide (n.sign<(0:Int))) (n.natAbs/(Nat.gcd n.natAbs d))) O (AS.back (sk (sk (sk (sk (sk (sl sr)))))) (Aw (v:=(aG (A9 (EO (decide (n.sign<(0:Int))) (n.natAbs/(Nat.gcd n.natAbs d)))++AU ((d/(Nat.gcd n.natAbs d))-1)))) O (AT (zs:=AK (0:Rat)) (vs:=A9 (EO (decide (n.sign<(0:Int))) (n.natAbs/(Nat.gcd n.natAbs d)))++AU ((d/(Nat.gcd n.natAbs d))-1)) (pv:=[(0,(aG (A9 (EO (decide (n.sign<(0:Int))) (n.natAbs/(Nat.gcd n.natAbs d)))))),(1,(aG (AU ((d/(Nat.gcd n.natAbs d))-1))))]) (places:=[(0,3),(3,2)]) zeroValue61 underlying61 (λw=>by simp [sizeOf55,sizeOf59]) O (DK (EO (decide (n.sign<(0:Int))) (n.natAbs/(Nat.gcd n.natAbs d))) ((d/(Nat.gcd n.natAbs d))-1))) (AS.imp O ?_)))))
 exact GP 5 (off:=0) (vs:=A9 (EO (decide (n.sign<(0:Int))) (n.natAbs/(Nat.gcd n.natAbs d)))++AU ((d/(Nat.gcd n.natAbs d))-1)) (cs':=A9 (EO (decide (n.sign<(0:Int))) (n.natAbs/(Nat.gcd n.natAbs d)))++AU ((d/(Nat.gcd n.natAbs d))-1)) (AQ O) O sizeOf61 O (AS.back (sk (sk (sk (sk (sk (sl sr)))))) (AS.nil (AD.subF (sL [2,3,4,5,6,9] O) (AD.then_ (AF.ret (AN O (A7 (i:=5) (cs:=A9 (EO (decide (n.sign<(0:Int))) (n.natAbs/(Nat.gcd n.natAbs d)))++AU ((d/(Nat.gcd n.natAbs d))-1)) O O isAgg61 sizeOf61 O) (λw hw=>⟨by rw [IK,Tz hd0,VA hd0],hw.out⟩)))))))
theorem G6 (x0:Int):Instr.fill ([(0,3),(3,2)].toArray[·]?) (AK (0:Rat)).toArray [(0,.agg (A9 x0).toArray)]=some (A9 x0++AU ((0:Rat).den-1)).toArray:=by kernel_rfl
theorem JV (n:Int) (w:World)  :Calls prog 51 #[(aG (A9 n))] w (Ak w (aG (AK ((n:Int):Rat)))):=by
 refine Ab (args:=[(aG (A9 n))]) func51 O O (Ad O) (AF.subF (sL [0] O) (q4 (Bk (cs:=A9 n) O λb1=>al Dv O λb2=>q3 (sL [1,2] O) ?_)))
 refine BE 1 Ct O (AH (v:=(aG (A9 n++AU ((0:Rat).den-1)))) (AT (zs:=AK (0:Rat)) (vs:=A9 n++AU ((0:Rat).den-1)) (pv:=[(0,(aG (A9 n)))]) (places:=[(0,3),(3,2)]) zeroValue61 underlying61 (λw=>by simp [sizeOf55,sizeOf59]) O (G6 n)) O (Aq O sizeOf61 O (AE.nil (AD.subF (sL [2] O) (AD.then_ ?_)))))
 exact AF.ret (AN O (A7 (i:=0) (cs:=A9 n++AU ((0:Rat).den-1)) O O isAgg61 sizeOf61 O) (λw hw=>⟨rfl,hw.out⟩))
theorem KW  :Instr.fill ([(0,1),(1,1)].toArray[·]?) (AU 0).toArray []=some (AU 0).toArray:=by kernel_rfl
theorem GH (a:Rat) (w:World)  :Calls prog 50 #[(aG (AK a))] w (Ak w (Value.bool (decide (a.den-1=0)))):=by
 refine Ab (args:=[(aG (AK a))]) func50 O O (Ad O) (AF.subF (sL [0] O) (q4 (Bk (cs:=AK a) O λb1=>AJ O (q3 (sL [1,2] O) ?_))))
 refine AH (v:=(pP b1 3)) (AA O underlying61 O sizeOf55 O) O (DT 0 (AU (a.den-1)) Bz O (AH (v:=(aG (AU 0))) (AT (zs:=AU 0) (vs:=AU 0) (pv:=[]) (places:=[(0,1),(1,1)]) zeroValue55 underlying55 (λw=>by simp [sizeOf9,sizeOf53]) O (KW )) O (AH (CB (c:=(decide (a.den-1=0))) O O eqGuardType55 (GR 9998 (a.den-1) 0)) O (AJ O (AE.nil ?_)))))
 exact AD.subF (sL [2] O) (AD.then_ (AF.ret (AN O (Ac (v:=(Value.bool (decide (a.den-1=0)))) O) (λw hw=>⟨rfl,hw.out⟩))))
theorem F_ (a:Rat) (ha:nw a.den<=1099511627776) (w:World)  :Calls prog 54 #[(aG (AK a))] w (Ak w (aG (AU a.den))):=by
 have h1w:=Jt
 have h2w:=DL (Nat.sub_le a.den 1)
 refine Ab (args:=[(aG (AK a))]) func54 O O (Ad O) (AF.subF (sL [0] O) (q4 (Bk (cs:=AK a) O λb1=>al FR O λb2=>q6 (sL [1,2] O) ?_)))
 refine DA [(0,true),(1,true),(2,false),(3,false),(4,false)] (sl sr) (Aw (v:=(pP b1 3)) O (AA O underlying61 O sizeOf55 O) (IM 0 (AU (a.den-1)) Bz O (AS.imp O (BS call102 (I6 1 Z) O (AS.back (sl sr) ?_)))))
 refine AS.imp O (BS call104 (RG (a.den-1) 1 Z Z) O (AS.back (sl sr) (AS.imp O (Aq O sizeOf55 O (AS.back (sl sr) ?_)))))
 exact AS.nil (AD.subF (sL [2] O) (AD.then_ (AF.ret (AN O (A7 (i:=0) (cs:=AU ((a.den-1)+1)) O O isAgg55 sizeOf55 O) (λw hw=>⟨by rw [Nat.sub_add_cancel a.den_pos],hw.out⟩)))))
theorem Ga (a:Rat) (ha:nw a.den<=1099511627776) (w:World)  :Calls prog 56 #[(aG (AK a))] w (Ak w (aG (A9 ((a.den:Nat):Int)))):=by
 refine Ab (args:=[(aG (AK a))]) func56 O O (Ad O) (AF.subF (sL [0] O) (q4 (Bk (cs:=AK a) O λb1=>al Ij O λb2=>q3 (sL [1,2] O) ?_)))
 refine BE 1 Br O (BS call54 (F_ a Z) O (BS call103 (Ds false a.den) O (Aq O sizeOf59 O (AE.nil (AD.subF (sL [2] O) ?_)))))
 exact AD.then_ (AF.ret (AN O (A7 (i:=0) (cs:=A9 (EO false a.den)) O O isAgg59 sizeOf59 O) (λw hw=>⟨rfl,hw.out⟩)))
theorem Tt (a:Rat) (w:World)  :Calls prog 109 #[(aG (AK a))] w (Ak w (aG (AK (-a)))):=by
 refine Ab (args:=[(aG (AK a))]) func109 O O (Ad O) (AF.subF (sL [0] O) (q4 (Bk (cs:=AK a) O λb1=>al Dv O λb2=>q6 (sL [1,2] O) ?_)))
 refine DA [(0,true),(1,true),(3,true),(4,true),(2,false),(5,true),(6,false)] (sl sr) (Aw (v:=(pP b1 0)) O (AA O underlying61 O sizeOf59 O) (IM 0 (A9 a.num) Ct O (Aw (v:=(pP b1 3)) O (AA O underlying61 O sizeOf55 O) (IM 0 (AU (a.den-1)) Bz O (AS.imp O ?_)))))
 refine BS call146 (PU a.num) O (AS.back (sl sr) (Aw (v:=(aG (A9 (-a.num)++AU (a.den-1)))) O (AT (zs:=AK (0:Rat)) (vs:=A9 (-a.num)++AU (a.den-1)) (pv:=[(0,(aG (A9 (-a.num)))),(1,(aG (AU (a.den-1))))]) (places:=[(0,3),(3,2)]) zeroValue61 underlying61 (λw=>by simp [sizeOf55,sizeOf59]) O (DK (-a.num) (a.den-1))) (AS.imp O (Aq O sizeOf61 O (AS.back (sl sr) ?_)))))
 exact AS.nil (AD.subF (sL [2] O) (AD.then_ (AF.ret (AN O (A7 (i:=0) (cs:=A9 (-a.num)++AU (a.den-1)) O O isAgg61 sizeOf61 O) (λw hw=>⟨by rw [IK,Rat.neg_num,Rat.neg_den],hw.out⟩)))))
theorem Ee (a:Rat) (w:World)  :Calls prog 20 #[(aG (AK a))] w (Ak w (vI a.num.sign)):=by
 refine Ab (args:=[(aG (AK a))]) func20 O O (Ad O) (AF.subF (sL [0] O) (q4 (Bk (cs:=AK a) O λb1=>AJ O (q3 (sL [1,2] O) ?_))))
 refine AH (v:=(pP b1 0)) (AA O underlying61 O sizeOf59 O) O (DT 0 (A9 a.num) Ct O (BS call59 (KM a.num) O (AJ O (AE.nil (AD.subF (sL [2] O) ?_)))))
 exact AD.then_ (AF.ret (AN O (Ac (v:=(vI a.num.sign)) O) (λw hw=>⟨rfl,hw.out⟩)))
theorem Ow (a b:Rat) (hs:Sz a+Sz b<=549755813888) (w:World)  :Calls prog 155 #[(aG (AK a)),(aG (AK b))] w (Ak w (vI (GK a b))):=by
 have s1:=D5 a
 have s2:=Dl a
 have s3:=D5 b
 have s4:=Dl b
 have s5:=DH a b
 have s6:=DH b a
 have s7:=IA a b
 have s8:=Jv a b
 have s9:=EC a.num b.num
 have s10:=EC (a.num*((b.den:Nat):Int)) (b.num*((a.den:Nat):Int))
 have hda:=a.den_nz
 have hdb:=b.den_nz
 have hdab:a.den*b.den≠0:=Nat.mul_ne_zero hda hdb
 refine Ab (args:=[(aG (AK a)),(aG (AK b))]) func155 O O (Ad O) (AF.subF (sL [0,1] O) (q4 (Bk (cs:=AK a) O λb1=>Bk (cs:=AK b) O λb2=>AJ O ?_)))
 refine q6 (sL [2,3,4] O) (q4 (AH (v:=(pP b1 3)) (AA O underlying61 O sizeOf55 O) O (DT 1 (AU (a.den-1)) Bz O (AH (v:=(pP b2 3)) (AA O underlying61 O sizeOf55 O) O (DT 0 (AU (b.den-1)) Bz O ?_)))))
 refine AH (CB (c:=(decide (a.den-1=b.den-1))) O O eqGuardType55 (GR 9998 (a.den-1) (b.den-1))) O (AE.nil (AD.subF (sL [2,3,4,9] O) (AD.then_ ?_)))
 refine AF.cond O (λhc0=>?_) (λhc0=>?_)
 ·replace hc0:=of_decide_eq_true hc0
  have he:=P9 hc0
  refine q4 (AH (v:=(pP b1 0)) (AA O underlying61 O sizeOf59 O) O (DT 1 (A9 a.num) Ct O (AH (v:=(pP b2 0)) (AA O underlying61 O sizeOf59 O) O (DT 0 (A9 b.num) Ct O (BS call204 (O0 a.num b.num (by first|omega|(simp only [Int.natAbs_neg,Ay,Int.natAbs_natCast];omega)) (by first|omega|(simp only [Int.natAbs_neg,Ay,Int.natAbs_natCast];omega))) O ?_)))))
  exact AJ O (AE.nil (AD.subF (sL [2,3,4] O) (AD.then_ (AF.ret (AD.then_ret (AN O (Ac (v:=(vI ((a.num-b.num).sign))) O) (λw hw=>⟨by rw [he],hw.out⟩)))))))
 ·replace hc0:=of_decide_eq_false hc0
  have he:=Jr a b
  refine AF.skip (q1 (DA [(0,true),(1,true),(2,true),(5,true),(6,true),(7,true),(3,false),(4,false),(8,false),(9,false),(10,false),(11,true)] sr (Aw (v:=(pP b1 0)) O (AA O underlying61 O sizeOf59 O) (IM 1 (A9 a.num) Ct O (E7 0 Br O ?_)))))
  refine Aw (v:=(pP b2 0)) O (AA O underlying61 O sizeOf59 O) (IM 0 (A9 b.num) Ct O (E7 1 Br O (AS.imp O (BS call56 (Ga b Z) O (AS.back sr ?_)))))
  refine AS.imp O (BS call55 (GW a.num ((b.den:Nat):Int) (by first|omega|(simp only [Int.natAbs_neg,Ay,Int.natAbs_natCast];omega)) (by first|omega|(simp only [Int.natAbs_neg,Ay,Int.natAbs_natCast];omega))) O (AS.back sr (AS.imp O (BS call56 (Ga a Z) O (AS.back sr ?_)))))
  refine AS.imp O (BS call55 (GW b.num ((a.den:Nat):Int) (by first|omega|(simp only [Int.natAbs_neg,Ay,Int.natAbs_natCast];omega)) (by first|omega|(simp only [Int.natAbs_neg,Ay,Int.natAbs_natCast];omega))) O (AS.back sr (AS.imp O (BS call204 (O0 (a.num*((b.den:Nat):Int)) (b.num*((a.den:Nat):Int)) (by first|omega|(simp only [Int.natAbs_neg,Ay,Int.natAbs_natCast];omega)) (by first|omega|(simp only [Int.natAbs_neg,Ay,Int.natAbs_natCast];omega))) O (AS.back sr ?_)))))
  exact Ez O (AS.nil (AD.subF (sL [2,3,4] O) (AD.then_ (AF.ret (AN O (Ac (v:=(vI (((a.num*((b.den:Nat):Int))-(b.num*((a.den:Nat):Int))).sign))) O) (λw hw=>⟨by rw [he],hw.out⟩))))))
theorem PB (a b:Rat) (hs:Sz a+Sz b<=549755813888) (w:World)  :Calls prog 17 #[(aG (AK a)),(aG (AK b))] w (Ak w (aG (AK (a+b)))):=by
 have s1:=D5 a
 have s2:=Dl a
 have s3:=D5 b
 have s4:=Dl b
 have s5:=DH a b
 have s6:=DH b a
 have s7:=IA a b
 have s8:=Jv a b
 have s9:=EC a.num b.num
 have s10:=EC (a.num*((b.den:Nat):Int)) (b.num*((a.den:Nat):Int))
 have hda:=a.den_nz
 have hdb:=b.den_nz
 have hdab:a.den*b.den≠0:=Nat.mul_ne_zero hda hdb
 refine Ab (args:=[(aG (AK a)),(aG (AK b))]) func17 O O (Ad O) (AF.subF (sL [0,1] O) (q4 (Bk (cs:=AK a) O λb1=>Bk (cs:=AK b) O λb2=>al Dv O λb3=>?_)))
 refine q6 (sL [2,3,4] O) (AF.block (q4 (BE 2 Br O (BS call50 (GH a) O (AP O ?_)))))
 refine AE.mid (FM:=[(2,(pP b1 0)),(3,(pP b2 0)),(4,(pP b3 0)),(6,(aG (AK a))),(7,(Value.bool (decide (a.den-1=0)))),(8,(Value.bool (decide (a.den-1=0)))),(11,(Value.bool ((decide (a.den-1=0))&&(decide (b.den-1=0)))))]) (LM:=[Ae b3 61 (AK (0:Rat)),Ae b2 61 (AK b),Ae b1 61 (AK a)]) 3 ?_ ?_
 ·rcases Bool.eq_false_or_eq_true (decide (a.den-1=0)) with hg1|hg1
  ·skip
   refine AE.retell (k:=8) (u:=Value.bool true) O (by rw [hg1]) ?_
   have hg1':=hg1
   replace hg1':=of_decide_eq_true hg1'
   exact AE.step (v:=(aG (AK b))) (AB O) (A6 (i:=1) (vs:=AK b) O O Br.a Br.s O O) O (Ad O) (AE.call (v:=(Value.bool (decide (b.den-1=0)))) (AB O) (Ax (args:=[(aG (AK b))]) O O call50) (λw hw=>GH b w) O (Ad O) (AH (v:=(Value.bool (decide (b.den-1=0)))) (Al O O) O (AE.nil (AD.mid (sS O (sS O (sS O (sS O (sS O (sS (by first|rfl|(rw [hg1];rfl)|rw [hg1]) (sS (by first|rfl|(rw [hg1];rfl)|rw [hg1]) (sN)))))))) (List.Sublist.refl _)))))
  ·skip
   refine AE.retell (k:=8) (u:=Value.bool false) O (by rw [hg1]) ?_
   have hg1':=hg1
   replace hg1':=of_decide_eq_false hg1'
   exact AE.skip (AV O) O (Ad O) (AE.skip (AV O) O (Ad O) (AH (v:=(Value.bool false)) (AW O O) O (AE.nil (AD.mid (sS O (sS O (sS O (sS O (sS O (sS (by first|rfl|(rw [hg1];rfl)|rw [hg1]) (sS (by first|rfl|(rw [hg1];rfl)|rw [hg1]) (sN)))))))) (List.Sublist.refl _)))))
 refine AJ O (AE.nil (AD.subF (sL [2,3,4,5] O) (AD.then_ ?_)))
 refine AF.cond O (λhc0=>?_) (λhc0=>?_)
 ·simp only [Bool.and_eq_true,Bool.or_eq_true,Bool.and_eq_false_iff,Bool.or_eq_false_iff,Bool.not_eq_true',Bool.not_eq_false',decide_eq_true_eq,decide_eq_false_iff_not] at hc0
  have he:=Px hc0.1 hc0.2
  refine q4 (AH (v:=(pP b1 0)) (AA O underlying61 O sizeOf59 O) O (DT 2 (A9 a.num) Ct O (AH (v:=(pP b2 0)) (AA O underlying61 O sizeOf59 O) O (DT 1 (A9 b.num) Ct O (BS call52 (MP a.num b.num (by first|omega|(simp only [Int.natAbs_neg,Ay,Int.natAbs_natCast];omega)) (by first|omega|(simp only [Int.natAbs_neg,Ay,Int.natAbs_natCast];omega))) O ?_)))))
  refine BS call51 (JV (a.num+b.num)) O (Aq O sizeOf61 O (AE.nil (AD.subF (sL [2,3,4] O) (AD.then_ (AF.ret ?_)))))
  exact AD.in_ret (AD.then_ret (AN O (A7 (i:=0) (cs:=AK ((a.num+b.num:Int):Rat)) O O isAgg61 sizeOf61 O) (λw hw=>⟨by rw [he],hw.out⟩)))
 ·simp only [Bool.and_eq_true,Bool.or_eq_true,Bool.and_eq_false_iff,Bool.or_eq_false_iff,Bool.not_eq_true',Bool.not_eq_false',decide_eq_true_eq,decide_eq_false_iff_not] at hc0
  have he:=LF a b
  refine q4 (AH (v:=(pP b1 3)) (AA O underlying61 O sizeOf55 O) O (DT 2 (AU (a.den-1)) Bz O (AH (v:=(pP b2 3)) (AA O underlying61 O sizeOf55 O) O (DT 1 (AU (b.den-1)) Bz O (AH (CB (c:=(decide (a.den-1=b.den-1))) O O eqGuardType55 (GR 9998 (a.den-1) (b.den-1))) O ?_)))))
  refine AJ O (AE.nil (AD.subF (sL [2,3,4,18] O) (AD.then_ ?_)))
  refine AF.cond O (λhc1=>?_) (λhc1=>?_)
  ·replace hc1:=of_decide_eq_true hc1
   have he:=Ry hc1
   refine AF.seq (DA [(0,true),(1,true),(2,true),(3,true),(5,true),(4,false),(6,false),(7,false),(8,false)] (sl sr) (Aw (v:=(pP b1 0)) O (AA O underlying61 O sizeOf59 O) (IM 1 (A9 a.num) Ct O (Aw (v:=(pP b2 0)) O (AA O underlying61 O sizeOf59 O) (IM 0 (A9 b.num) Ct O ?_)))))
   refine E7 1 Br O (AS.imp O (BS call52 (MP a.num b.num (by first|omega|(simp only [Int.natAbs_neg,Ay,Int.natAbs_natCast];omega)) (by first|omega|(simp only [Int.natAbs_neg,Ay,Int.natAbs_natCast];omega))) O (AS.back (sl sr) (AS.imp O (BS call54 (F_ a Z) O ?_)))))
   refine AS.back (sl sr) (AS.imp O (BS call53 (Gc (a.num+b.num) a.den Z Z (by first|omega|assumption)) O (AS.back (sl sr) (AS.imp O (Aq O sizeOf61 O ?_)))))
   refine AS.back (sl sr) (AS.nil (AD.subF (sL [2,3,4] O) (AD.then_ (AF.ret (AD.in_ret ?_)))))
   exact AD.then_ret (AN O (A7 (i:=0) (cs:=AK (mkRat (a.num+b.num) a.den)) O O isAgg61 sizeOf61 O) (λw hw=>⟨by rw [he],hw.out⟩))
  ·replace hc1:=of_decide_eq_false hc1
   refine AF.skip (AD.in_normal (q1 (DA [(0,true),(1,true),(2,true),(5,true),(6,true),(7,true),(11,true),(13,true),(3,false),(4,false),(8,false),(9,false),(10,false),(12,false),(14,false),(15,false),(16,false),(17,false)] (sl sr) (Aw (v:=(pP b1 0)) O (AA O underlying61 O sizeOf59 O) (IM 1 (A9 a.num) Ct O ?_)))))
   refine E7 0 Br O (Aw (v:=(pP b2 0)) O (AA O underlying61 O sizeOf59 O) (IM 0 (A9 b.num) Ct O (E7 1 Br O (E7 1 Br O (E7 0 Br O ?_)))))
   refine AS.imp O (BS call56 (Ga b Z) O (AS.back (sl sr) (AS.imp O (BS call55 (GW a.num ((b.den:Nat):Int) (by first|omega|(simp only [Int.natAbs_neg,Ay,Int.natAbs_natCast];omega)) (by first|omega|(simp only [Int.natAbs_neg,Ay,Int.natAbs_natCast];omega))) O (AS.back (sl sr) ?_)))))
   refine AS.imp O (BS call56 (Ga a Z) O (AS.back (sl sr) (AS.imp O (BS call55 (GW b.num ((a.den:Nat):Int) (by first|omega|(simp only [Int.natAbs_neg,Ay,Int.natAbs_natCast];omega)) (by first|omega|(simp only [Int.natAbs_neg,Ay,Int.natAbs_natCast];omega))) O (AS.back (sl sr) ?_)))))
   refine AS.imp O (BS call52 (MP (a.num*((b.den:Nat):Int)) (b.num*((a.den:Nat):Int)) (by first|omega|(simp only [Int.natAbs_neg,Ay,Int.natAbs_natCast];omega)) (by first|omega|(simp only [Int.natAbs_neg,Ay,Int.natAbs_natCast];omega))) O (AS.back (sl sr) (AS.imp O (BS call54 (F_ a Z) O (AS.back (sl sr) ?_)))))
   refine AS.imp O (BS call54 (F_ b Z) O (AS.back (sl sr) (AS.imp O (BS call57 (OR a.den b.den Z Z) O (AS.back (sl sr) ?_)))))
   refine AS.imp O (BS call53 (Gc ((a.num*((b.den:Nat):Int))+(b.num*((a.den:Nat):Int))) (a.den*b.den) Z Z (by first|omega|assumption)) O (AS.back (sl sr) (AS.imp O (Aq O sizeOf61 O (AS.back (sl sr) ?_)))))
   exact AS.nil (AD.subF (sL [2,3,4] O) (AD.then_ (AF.ret (AN O (A7 (i:=0) (cs:=AK (mkRat ((a.num*((b.den:Nat):Int))+(b.num*((a.den:Nat):Int))) (a.den*b.den))) O O isAgg61 sizeOf61 O) (λw hw=>⟨by rw [he],hw.out⟩)))))
theorem La (a b:Rat) (hs:Sz a+Sz b<=549755813888) (w:World)  :Calls prog 58 #[(aG (AK a)),(aG (AK b))] w (Ak w (aG (AK (a-b)))):=by
 refine Ab (args:=[(aG (AK a)),(aG (AK b))]) func58 O O (Ad O) (AF.subF (sL [0,1] O) (q4 (Bk (cs:=AK a) O λb1=>Bk (cs:=AK b) O λb2=>al Dv O λb3=>?_)))
 refine q6 (sL [2,3,4] O) (DA [(0,true),(1,true),(2,false),(3,false),(4,false)] (sl sr) (E7 1 Br O (E7 0 Br O (AS.imp O (BS call109 (Tt b) O ?_)))))
 refine AS.back (sl sr) (AS.imp O ?_)
 have hz1:=OA a (-b)
 refine BS call17 (PB a (-b) (by (try simp only [FV]);omega)) O (AS.back (sl sr) (AS.imp O (Aq O sizeOf61 O (AS.back (sl sr) (AS.nil ?_)))))
 exact AD.subF (sL [4] O) (AD.then_ (AF.ret (AN O (A7 (i:=0) (cs:=AK (a+(-b))) O O isAgg61 sizeOf61 O) (λw hw=>⟨by rw [Rat.sub_eq_add_neg],hw.out⟩))))
theorem I_ (a b:Rat) (hs:Sz a+Sz b<=549755813888) (w:World)  :Calls prog 26 #[(aG (AK a)),(aG (AK b))] w (Ak w (aG (AK (a*b)))):=by
 have s1:=D5 a
 have s2:=Dl a
 have s3:=D5 b
 have s4:=Dl b
 have s5:=DH a b
 have s6:=DH b a
 have s7:=IA a b
 have s8:=Jv a b
 have s9:=EC a.num b.num
 have s10:=EC (a.num*((b.den:Nat):Int)) (b.num*((a.den:Nat):Int))
 have hda:=a.den_nz
 have hdb:=b.den_nz
 have hdab:a.den*b.den≠0:=Nat.mul_ne_zero hda hdb
 refine Ab (args:=[(aG (AK a)),(aG (AK b))]) func26 O O (Ad O) (AF.subF (sL [0,1] O) (q4 (Bk (cs:=AK a) O λb1=>Bk (cs:=AK b) O λb2=>al Dv O λb3=>?_)))
 refine q6 (sL [2,3,4] O) (q4 (BE 2 Br O (BS call50 (GH a) O (AP O ?_))))
 refine AE.mid (FM:=[(2,(pP b1 0)),(3,(pP b2 0)),(4,(pP b3 0)),(5,(aG (AK a))),(6,(Value.bool (decide (a.den-1=0)))),(7,(Value.bool (decide (a.den-1=0)))),(10,(Value.bool ((decide (a.den-1=0))&&(decide (b.den-1=0)))))]) (LM:=[Ae b3 61 (AK (0:Rat)),Ae b2 61 (AK b),Ae b1 61 (AK a)]) 3 ?_ ?_
 ·rcases Bool.eq_false_or_eq_true (decide (a.den-1=0)) with hg1|hg1
  ·skip
   refine AE.retell (k:=7) (u:=Value.bool true) O (by rw [hg1]) ?_
   have hg1':=hg1
   replace hg1':=of_decide_eq_true hg1'
   exact AE.step (v:=(aG (AK b))) (AB O) (A6 (i:=1) (vs:=AK b) O O Br.a Br.s O O) O (Ad O) (AE.call (v:=(Value.bool (decide (b.den-1=0)))) (AB O) (Ax (args:=[(aG (AK b))]) O O call50) (λw hw=>GH b w) O (Ad O) (AH (v:=(Value.bool (decide (b.den-1=0)))) (Al O O) O (AE.nil (AD.mid (sS O (sS O (sS O (sS O (sS O (sS (by first|rfl|(rw [hg1];rfl)|rw [hg1]) (sS (by first|rfl|(rw [hg1];rfl)|rw [hg1]) (sN)))))))) (List.Sublist.refl _)))))
  ·skip
   refine AE.retell (k:=7) (u:=Value.bool false) O (by rw [hg1]) ?_
   have hg1':=hg1
   replace hg1':=of_decide_eq_false hg1'
   exact AE.skip (AV O) O (Ad O) (AE.skip (AV O) O (Ad O) (AH (v:=(Value.bool false)) (AW O O) O (AE.nil (AD.mid (sS O (sS O (sS O (sS O (sS O (sS (by first|rfl|(rw [hg1];rfl)|rw [hg1]) (sS (by first|rfl|(rw [hg1];rfl)|rw [hg1]) (sN)))))))) (List.Sublist.refl _)))))
 refine AE.nil (AD.subF (sL [2,3,4,10] O) (AD.then_ ?_))
 refine AF.cond O (λhc0=>?_) (λhc0=>?_)
 ·simp only [Bool.and_eq_true,Bool.or_eq_true,Bool.and_eq_false_iff,Bool.or_eq_false_iff,Bool.not_eq_true',Bool.not_eq_false',decide_eq_true_eq,decide_eq_false_iff_not] at hc0
  have he:=QE hc0.1 hc0.2
  refine q4 (AH (v:=(pP b1 0)) (AA O underlying61 O sizeOf59 O) O (DT 2 (A9 a.num) Ct O (AH (v:=(pP b2 0)) (AA O underlying61 O sizeOf59 O) O (DT 1 (A9 b.num) Ct O (BS call55 (GW a.num b.num (by first|omega|(simp only [Int.natAbs_neg,Ay,Int.natAbs_natCast];omega)) (by first|omega|(simp only [Int.natAbs_neg,Ay,Int.natAbs_natCast];omega))) O ?_)))))
  refine BS call51 (JV (a.num*b.num)) O (Aq O sizeOf61 O (AE.nil (AD.subF (sL [2,3,4] O) (AD.then_ (AF.ret ?_)))))
  exact AD.then_ret (AN O (A7 (i:=0) (cs:=AK ((a.num*b.num:Int):Rat)) O O isAgg61 sizeOf61 O) (λw hw=>⟨by rw [he],hw.out⟩))
 ·simp only [Bool.and_eq_true,Bool.or_eq_true,Bool.and_eq_false_iff,Bool.or_eq_false_iff,Bool.not_eq_true',Bool.not_eq_false',decide_eq_true_eq,decide_eq_false_iff_not] at hc0
  have he:=Kj a b
  refine AF.skip (q1 (DA [(0,true),(1,true),(2,true),(3,true),(5,true),(7,true),(4,false),(6,false),(8,false),(9,false),(10,false),(11,false)] (sl sr) (Aw (v:=(pP b1 0)) O (AA O underlying61 O sizeOf59 O) (IM 1 (A9 a.num) Ct O (Aw (v:=(pP b2 0)) O (AA O underlying61 O sizeOf59 O) ?_)))))
  refine IM 0 (A9 b.num) Ct O (E7 1 Br O (E7 0 Br O (AS.imp O (BS call55 (GW a.num b.num (by first|omega|(simp only [Int.natAbs_neg,Ay,Int.natAbs_natCast];omega)) (by first|omega|(simp only [Int.natAbs_neg,Ay,Int.natAbs_natCast];omega))) O (AS.back (sl sr) ?_)))))
  refine AS.imp O (BS call54 (F_ a Z) O (AS.back (sl sr) (AS.imp O (BS call54 (F_ b Z) O (AS.back (sl sr) ?_)))))
  refine AS.imp O (BS call57 (OR a.den b.den Z Z) O (AS.back (sl sr) (AS.imp O (BS call53 (Gc (a.num*b.num) (a.den*b.den) Z Z (by first|omega|assumption)) O (AS.back (sl sr) ?_)))))
  refine AS.imp O (Aq O sizeOf61 O (AS.back (sl sr) (AS.nil (AD.subF (sL [2,3,4] O) (AD.then_ ?_)))))
  exact AF.ret (AN O (A7 (i:=0) (cs:=AK (mkRat (a.num*b.num) (a.den*b.den))) O O isAgg61 sizeOf61 O) (λw hw=>⟨by rw [he],hw.out⟩))
theorem JA (a b:Rat) (hs:Sz a+Sz b<=549755813888) (hb:b≠0) (w:World)  :Calls prog 114 #[(aG (AK a)),(aG (AK b))] w (Ak w (Value.tuple #[(aG (AK (a/b))),(vI 0)])):=by
 have s1:=D5 a
 have s2:=Dl a
 have s3:=D5 b
 have s4:=Dl b
 have s5:=DH a b
 have s6:=DH b a
 have s7:=IA a b
 have s8:=Jv a b
 have s9:=EC a.num b.num
 have s10:=EC (a.num*((b.den:Nat):Int)) (b.num*((a.den:Nat):Int))
 have hda:=a.den_nz
 have hdb:=b.den_nz
 have hdab:a.den*b.den≠0:=Nat.mul_ne_zero hda hdb
 have hbn:b.num≠0:=λe=>hb (Rat.num_eq_zero.1 e)
 have hbs:b.num.sign≠0:=λe=>hbn (Int.sign_eq_zero_iff_zero.1 e)
 have hmi:nw (EO (decide (b.num.sign<(0:Int))) b.den).natAbs=nw b.den:=by rw [Ay]
 have hinv:=Kw hb
 have hsi:=S7 hb
 rw [<-hinv] at hsi
 refine Ab (args:=[(aG (AK a)),(aG (AK b))]) func114 O O (Ad O) (AF.subF (sL [0,1] O) (q4 (Bk (cs:=AK a) O λb1=>Bk (cs:=AK b) O λb2=>al Dv O λb3=>?_)))
 refine AJ O (q6 (sL [2,3,4,5] O) (q4 (BE 1 Br O (BS call20 (Ee b) O (AH (BZ (c:=(decide (b.num.sign=(0:Int)))) O O O) O ?_)))))
 refine AE.nil (AD.subF (sL [2,3,4,5,9] O) (AD.then_ ?_))
 refine AF.cond O (λhc0=>?_) (λhc0=>?_)
 ·replace hc0:=of_decide_eq_true hc0
  exact absurd hc0 hbs
 ·replace hc0:=of_decide_eq_false hc0
  refine AF.skip (q1 (rN [(0,true),(3,true),(6,true),(7,true),(1,false),(2,true),(4,false),(5,false),(8,false),(9,false)] [⟨10,6,61,AK (0:Rat)⟩] [(11,false)] sr (by kernel_rfl) (λ_ _ d _ _ h=>by cases d<;>exact h) (Gg O O Dv O (Ig)) O (Ho 1 Br O (Ho 1 Br O (HA (v:=(pP b2 0)) O (AA O underlying61 O sizeOf59 O) O ?_)))))
  refine SC 1 (A9 b.num) Ct O (CO.imp O λEF EL=>BS call20 (Ee b) O (CO.back0 sr O (HA O (Af (c:=(decide (b.num.sign<(0:Int)))) O O O) O (CO.imp O λEF EL=>?_))))
  refine BS call54 (F_ b Z) O (CO.back0 sr O (CO.imp O λEF EL=>BS call103 (Ds (decide (b.num.sign<(0:Int))) b.den) O (CO.back0 sr O (CO.imp O λEF EL=>?_))))
  refine BS call99 (Lq b.num) O (CO.back0 sr O (CO.imp O λEF EL=>BS call53 (Gc (EO (decide (b.num.sign<(0:Int))) b.den) b.num.natAbs Z Z (by first|omega|assumption)) O (CO.back0 sr O (CO.news1 λb4=>?_))))
  refine AS.imp O (Aq O sizeOf61 O (AS.back (sl sr) (AS.nil (AD.subF (sL [2,3,4,5,6] O) (q2 ?_)))))
  refine BE 3 Br O (BE 0 Br O ?_)
  have hz1:=E5 a (mkRat (EO (decide (b.num.sign<(0:Int))) b.den) b.num.natAbs)
  refine BS call26 (I_ a (mkRat (EO (decide (b.num.sign<(0:Int))) b.den) b.num.natAbs) (by (try simp only [FV]);omega)) O (C9 O sizeOf61 O (AJ O (AE.nil (AD.subF (sL [3,4,5,6] O) (AD.then_ ?_)))))
  exact AF.ret (Cq O (A7 (i:=1) (cs:=AK (a*(mkRat (EO (decide (b.num.sign<(0:Int))) b.den) b.num.natAbs))) O O isAgg61 sizeOf61 O) (Ac (v:=(vI 0)) O) (λw hw=>⟨by rw [hinv,Rat.div_def],hw.out⟩))
theorem Ka  :Instr.fill ([(0,3),(3,2)].toArray[·]?) (AK (0:Rat)).toArray []=some (AK (0:Rat)).toArray:=by kernel_rfl
theorem SG (a:Rat) (w:World)  :Calls prog 114 #[(aG (AK a)),(aG (AK (0:Rat)))] w (Ak w (Value.tuple #[(aG (AK (0:Rat))),(vI 5)])):=by
 refine Ab (args:=[(aG (AK a)),(aG (AK (0:Rat)))]) func114 O O (Ad O) (AF.subF (sL [0,1] O) (q4 (Bk (cs:=AK a) O λb1=>Bk (cs:=AK (0:Rat)) O λb2=>al Dv O λb3=>?_)))
 refine AJ O (q6 (sL [2,3,4,5] O) (q4 (BE 1 Br O (BS call20 (Ee (0:Rat)) O (AH (BZ (c:=(decide (((0:Rat).num.sign)=(0:Int)))) O O O) O ?_)))))
 refine AE.nil (AD.subF (sL [2,3,4,5,9] O) (AD.then_ ?_))
 refine AF.cond O (λhc0=>?_) (λhc0=>?_)
 ·replace hc0:=of_decide_eq_true hc0
  refine q4 (AH (v:=(aG (AK (0:Rat)))) (AT (zs:=AK (0:Rat)) (vs:=AK (0:Rat)) (pv:=[]) (places:=[(0,3),(3,2)]) zeroValue61 underlying61 (λw=>by simp [sizeOf55,sizeOf59]) O (Ka )) O (Aq O sizeOf61 O (AJ O (AE.nil (AD.subF (sL [2,3,4,5] O) ?_)))))
  exact AD.then_ (AF.ret (AD.then_ret (Cq O (A7 (i:=0) (cs:=AK (0:Rat)) O O isAgg61 sizeOf61 O) (Ac (v:=(vI 5)) O) (λw hw=>⟨rfl,hw.out⟩))))
 ·replace hc0:=of_decide_eq_false hc0
  exact absurd O hc0
theorem JB (z:Int) (hz:-9223372036854775808<=z) (hz2:z<9223372036854775808) (w:World)  :Calls prog 27 #[(vI z)] w (Ak w (aG (AK ((z:Int):Rat)))):=by
 refine Ab (args:=[(vI z)]) func27 O O (Ad O) (AF.subF (sL [0] O) (q4 (al Dv O λb1=>AE.nil (q2 ?_))))
 refine AP O (BS call67 (WQ z Z Z) O (BS call51 (JV z) O (Aq O sizeOf61 O (AE.nil (AD.subF (sL [2] O) ?_)))))
 exact AD.then_ (AF.ret (AN O (A7 (i:=0) (cs:=AK ((z:Int):Rat)) O O isAgg61 sizeOf61 O) (λw hw=>⟨rfl,hw.out⟩)))
end
section
instance:Add Pt:=⟨λa b=>⟨a.x+b.x,a.y+b.y⟩⟩
instance:Sub Pt:=⟨λa b=>⟨a.x-b.x,a.y-b.y⟩⟩
def Gt (a:Pt) (k:Rat):Pt:=⟨a.x*k,a.y*k⟩
def H9 (a b:Pt):Rat:=a.x*b.y-a.y*b.x
def AO (a b c:Pt):Rat:=H9 (b-a) (c-a)
def CG (p:Pt):Nat:=max (Sz p.x) (Sz p.y)
theorem Gn (p:Pt):Sz p.x<=CG p:=Nat.le_max_left ..
theorem Gi (p:Pt):Sz p.y<=CG p:=Nat.le_max_right ..
theorem RB {p:Pt} {k:Nat} (h1:Sz p.x<=k) (h2:Sz p.y<=k):CG p<=k:=Nat.max_le.2 ⟨h1,h2⟩
theorem GN (a b:Pt):CG (a-b)<=CG a+CG b+1:=by
  have h1:=Gn a;have h2:=Gi a;have h3:=Gn b;have h4:=Gi b
  refine RB ?_ ?_
  · exact Nat.le_trans (Hr a.x b.x) Z
  · exact Nat.le_trans (Hr a.y b.y) Z
theorem KH (a b:Pt):Sz (H9 a b)<=2*CG a+2*CG b+1:=by
  have h1:=Gn a;have h2:=Gi a;have h3:=Gn b;have h4:=Gi b
  have h5:=E5 a.x b.y;have h6:=E5 a.y b.x
  exact Nat.le_trans (Hr _ _) Z
theorem DW (a b c:Pt):Sz (AO a b c)<=4*CG a+2*CG b+2*CG c+5:=by
  have h1:=GN b a;have h2:=GN c a
  exact Nat.le_trans (KH _ _) Z
theorem Ot:Sz (1/2:Rat)<=1:=by decide +kernel
theorem Ue:((1:Int):Rat)/((2:Int):Rat)=1/2:=by decide +kernel
theorem Lw {z:Int} (h1:-9223372036854775808<=z) (h2:z<9223372036854775808):Sz ((z:Int):Rat)<=2:=Vd (Hm (by show z.natAbs<_;omega)) (by show nw 1<=2;rw [Jt];omega)
theorem U9 (a b:Pt):Aj (a-b)=AK (a.x-b.x)++AK (a.y-b.y):=rfl
theorem Wf (x y:Rat):Aj ⟨x,y⟩=AK x++AK y:=rfl
section
variable {P:Program} {Q:Exit->Act->World->Prop} {n:Nat} {F:List (Nat×Value)} {w0:BK} {L:List As} {c:Code}
def FL (P:Program) (c:Code) (Q:Exit->Act->World->Prop) (k n:Nat) (F:List (Nat×Value)) (w0:BK) (L:List As):Prop:=∀a w,CS n a F->BO w0 w L->Code.rounds P c Q k a w
theorem AF.unroll (k:Nat) (h:FL P c Q k n F w0 L):AF P (.loop c) Q n F w0 L:=λa w ha hw=>wp_loop_rounds k (h a w ha hw)
theorem FL.step {k:Nat} (h:AF P c (Exit.then (Code.rounds P c Q k) Q) n F w0 L):FL P c Q (k+1) n F w0 L:=λa w ha hw=>by
  rw [rounds_succ];exact h a w ha hw
theorem AD.again {k:Nat} (h:FL P c Q k n F w0 L):AD (Exit.then (Code.rounds P c Q k) Q) .normal n F w0 L:=h
end
end
end Go.Proofs.YtfbomiejpbchdaaGreatDoor
