import Derived.Test.YtfbomiejpbchdaaGreatPart06
import Derived.Test.YtfbomiejpbchdaaGreatPart14
import Derived.Test.YtfbomiejpbchdaaGreatPart17
namespace Go.Proofs.YtfbomiejpbchdaaGreat
open Go Go.RowKit Go.Proofs.Tryz
set_option linter.unusedVariables false
set_option linter.unusedSimpArgs false
def Sz (q:Rat):Nat:=max (nw q.num.natAbs) (nw q.den)
theorem Ec (q:Rat):nw q.num.natAbs<=Sz q:=Nat.le_max_left ..
theorem ED (q:Rat):nw q.den<=Sz q:=Nat.le_max_right ..
theorem XP {q:Rat} {k:Nat} (h1:nw q.num.natAbs<=k) (h2:nw q.den<=k):Sz q<=k:=Nat.max_le.2 ⟨h1,h2⟩
theorem KX:nw 1=1:=by decide
theorem UE (q:Rat):1<=Sz q:=Nat.le_trans (by rw [<-KX];exact Dj q.den_pos) (ED q)
theorem J0 {n:Int} {d k:Nat} (h1:nw n.natAbs<=k) (h2:nw d<=k) (hk:1<=k):Sz (mkRat n d)<=k:=by
  refine XP ?_ ?_
  · rw [Rat.num_mkRat]
    split
    · exact Nat.zero_le _
    · refine Nat.le_trans (Dj ?_) h1
      rw [Int.natAbs_ediv_of_dvd (by rw [Int.ofNat_dvd_left];exact Nat.gcd_dvd_right ..)]
      exact Nat.div_le_self _ _
  · rw [Rat.den_mkRat]
    split
    · rw [KX];exact hk
    · exact Nat.le_trans (Dj (Nat.div_le_self _ _)) h2
theorem P3 (a b:Int):nw (a*b).natAbs<=nw a.natAbs+nw b.natAbs:=by rw [Int.natAbs_mul];exact Un _ _
theorem Eo (a b:Int):nw (a+b).natAbs<=max (nw a.natAbs) (nw b.natAbs)+1:=Nat.le_trans (Dj (Int.natAbs_add_le a b)) (Xs _ _)
theorem Db (a b:Rat):nw (a.num*((b.den:Nat):Int)).natAbs<=Sz a+Sz b:=by
  have h1:=P3 a.num ((b.den:Nat):Int)
  have h2:=Ec a
  have h3:=ED b
  rw [Int.natAbs_natCast] at h1
  omega
theorem IR (a b:Rat):nw (a.den*b.den)<=Sz a+Sz b:=by
  have h1:=Un a.den b.den
  have h2:=ED a
  have h3:=ED b
  omega
theorem KL (a b:Rat):nw (a.num*b.num).natAbs<=Sz a+Sz b:=by
  have h1:=P3 a.num b.num
  have h2:=Ec a
  have h3:=Ec b
  omega
theorem MS (a b:Rat):mkRat (a.num*((b.den:Nat):Int)+b.num*((a.den:Nat):Int)) (a.den*b.den)=a+b:=by rw [Rat.add_def,Rat.normalize_eq_mkRat]
theorem Lw (a b:Rat):mkRat (a.num*b.num) (a.den*b.den)=a*b:=by rw [Rat.mul_def,Rat.normalize_eq_mkRat]
theorem H1 {a:Rat} (h:a.den-1=0):a=((a.num:Int):Rat):=by
  have h1:a.den=1:=by have:=a.den_pos;omega
  exact Rat.ext O h1
theorem RH {a b:Rat} (ha:a.den-1=0) (hb:b.den-1=0):((a.num+b.num:Int):Rat)=a+b:=by
  rw [Rat.intCast_add,<-H1 ha,<-H1 hb]
theorem Rt {a b:Rat} (ha:a.den-1=0) (hb:b.den-1=0):((a.num*b.num:Int):Rat)=a*b:=by
  rw [Rat.intCast_mul,<-H1 ha,<-H1 hb]
theorem N_ {a b:Rat} (h:a.den-1=b.den-1):a.den=b.den:=by
  have h1:=a.den_pos
  have h2:=b.den_pos
  omega
theorem Tt {a b:Rat} (h:a.den-1=b.den-1):mkRat (a.num+b.num) a.den=a+b:=by
  have h1:=N_ h
  have h2:a+b=mkRat a.num a.den+mkRat b.num a.den:=by rw [Rat.mkRat_self];conv=>lhs;rw [<-Rat.mkRat_self b,<-h1]
  rw [h2,Rat.mkRat_eq_div,Rat.mkRat_eq_div,Rat.mkRat_eq_div,Rat.intCast_add,Rat.div_def,Rat.div_def,Rat.div_def,Rat.add_mul]
theorem Gh (a b:Rat):Sz (a+b)<=Sz a+Sz b+1:=by
  rw [<-MS]
  have h1:=Db a b
  have h2:=Db b a
  have h3:=Eo (a.num*((b.den:Nat):Int)) (b.num*((a.den:Nat):Int))
  have h4:=IR a b
  exact J0 Z Z Z
theorem D9 (a b:Rat):Sz (a*b)<=Sz a+Sz b:=by
  rw [<-Lw]
  have:=UE a
  exact J0 (KL a b) (IR a b) Z
theorem Dv (a:Rat):Sz (-a)=Sz a:=by unfold Sz;rw [Rat.neg_num,Rat.neg_den,Int.natAbs_neg]
theorem Il (a b:Rat):Sz (a-b)<=Sz a+Sz b+1:=by rw [Rat.sub_eq_add_neg,<-Dv b];exact Gh a (-b)
theorem Lo {b:Rat} (h:b≠0):mkRat (Es (decide (b.num.sign<0)) b.den) b.num.natAbs=b⁻¹:=by
  have hn:b.num≠0:=λe=>h (Rat.num_eq_zero.1 e)
  have hb:b=(b.num:Rat)/((b.den:Nat):Rat):=by rw [<-Rat.mkRat_eq_div,Rat.mkRat_self]
  have hd:((b.den:Nat):Rat)≠0:=by
    intro e
    have:=b.den_pos
    have h2:b.den=0:=by exact_mod_cast e
    omega
  have hn2:((b.num:Int):Rat)≠0:=by
    intro e
    exact hn (by exact_mod_cast e)
  rw [Rat.mkRat_eq_div]
  conv=>rhs;rw [hb]
  by_cases hs:b.num<0
  · have e1:decide (b.num.sign<0)=true:=by simp [Int.sign_eq_neg_one_of_neg hs]
    have e2:((b.num.natAbs:Nat):Rat) = -((b.num:Int):Rat):=by
      have:((b.num.natAbs:Nat):Int) = -b.num:=by omega
      rw [<-Rat.intCast_natCast,this,Rat.intCast_neg]
    rw [e1,e2]
    simp only [Es,if_true,Rat.intCast_neg,Rat.intCast_natCast]
    grind
  · have e1:decide (b.num.sign<0)=false:=by
      have:0<=b.num.sign:=Int.sign_nonneg_iff.2 Z
      exact decide_eq_false Z
    have e2:((b.num.natAbs:Nat):Rat)=((b.num:Int):Rat):=by
      have:((b.num.natAbs:Nat):Int)=b.num:=by omega
      rw [<-Rat.intCast_natCast,this]
    rw [e1,e2]
    simp only [Es,Bool.false_eq_true,if_false,Rat.intCast_natCast]
    grind
theorem SP {b:Rat} (h:b≠0):Sz b⁻¹<=Sz b:=by
  rw [<-Lo h]
  exact J0 (by rw [BC];exact ED b) (Ec b) (UE b)
theorem Jz {a b:Rat} (h:b≠0):Sz (a/b)<=Sz a+Sz b:=by
  rw [Rat.div_def]
  have h1:=D9 a b⁻¹
  have h2:=SP h
  omega
def D8 (a b:Rat):Int:=if a<b then -1 else if a=b then 0 else 1
theorem K3 (a b:Rat):(a.num*((b.den:Nat):Int)-b.num*((a.den:Nat):Int)).sign=D8 a b:=by
  have h1:=Rat.lt_iff a b
  have h2:=@Rat.eq_iff_mul_eq_mul a b
  unfold D8
  split
  · rename_i h;exact Int.sign_eq_neg_one_of_neg (by have:=h1.1 h;omega)
  · rename_i h
    split
    · rename_i h';rw [h2.1 h'];simp
    · rename_i h'
      have h3:¬a.num*((b.den:Nat):Int)<b.num*((a.den:Nat):Int):=λe=>h (h1.2 e)
      have h4:¬a.num*((b.den:Nat):Int)=b.num*((a.den:Nat):Int):=λe=>h' (h2.2 e)
      exact Int.sign_eq_one_of_pos Z
theorem RV {a b:Rat} (h:a.den-1=b.den-1):(a.num-b.num).sign=D8 a b:=by
  rw [<-K3,<-N_ h,<-Int.sub_mul,Int.sign_mul]
  have:=a.den_pos
  rw [show ((a.den:Nat):Int).sign=1 from Int.sign_eq_one_of_pos Z]
  simp
theorem Jj {a b:Rat}:D8 a b<0↔a<b:=by
  unfold D8;split
  · simp [*]
  · split<;>simp [*]
theorem Qa {a b:Rat}:D8 a b=0↔a=b:=by
  unfold D8;split
  · rename_i h
    constructor
    · intro e;cases e
    · intro e;subst e;exact absurd h (by simp)
  · split<;>simp [*]
theorem JA (q:Rat):AJ q=BH q.num++Ab (q.den-1):=rfl
theorem WC {n:Int} {d:Nat} (hd:d≠0):(mkRat n d).num=Es (decide (n.sign<0)) (n.natAbs/Nat.gcd n.natAbs d):=by
  rw [Rat.num_mkRat,if_neg hd,Nat.gcd_comm]
  unfold Es
  by_cases h:n<0
  · rw [Int.sign_eq_neg_one_of_neg h]
    have e:n = -((n.natAbs:Nat):Int):=by omega
    simp only [show decide ((-1:Int)<0)=true from rfl,if_true]
    conv=>lhs;rw [e]
    rw [Int.natAbs_neg,Int.natAbs_natCast,Int.neg_ediv_of_dvd (by rw [Int.natCast_dvd_natCast];exact Nat.gcd_dvd_left ..)]
    rfl
  · have h0:0<=n.sign:=Int.sign_nonneg_iff.2 Z
    have e:n=((n.natAbs:Nat):Int):=by omega
    rw [if_neg (by simp;omega)]
    conv=>lhs;rw [e]
    rw [Int.natAbs_natCast]
    rfl
theorem VK {n:Int} {d:Nat} (hd:d≠0):(mkRat n d).den=d/Nat.gcd n.natAbs d:=by rw [Rat.den_mkRat,if_neg hd,Nat.gcd_comm]
section
set_option maxRecDepth 100000
theorem Da (x0:Int) (x1:Nat):Instr.fill ([(0,3),(3,2)].toArray[·]?) (AJ (0:Rat)).toArray [(0,.agg (BH x0).toArray),(1,.agg (Ab x1).toArray)]=some (BH x0++Ab x1).toArray:=by kernel_rfl
theorem HA (n:Int) (d:Nat) (hn:nw n.natAbs<=1099511627776) (hd:nw d<=1099511627776) (hd0:d≠0) (w:World)  :Calls prog 70 #[(aG (BH n)),(aG (Ab d))] w (Aq w (aG (AJ (mkRat n d)))):=by
 have hg:Nat.gcd n.natAbs d≠0:=λh=>hd0 (Nat.eq_zero_of_gcd_eq_zero_right h)
 have hgw:nw (Nat.gcd n.natAbs d)<=nw d:=Dj (Nat.gcd_le_right _ (Nat.pos_of_ne_zero hd0))
 have hqw:nw (d/Nat.gcd n.natAbs d)<=nw d:=Dj (Nat.div_le_self _ _)
 have h1w:=KX
 refine Ae (args:=[(aG (BH n)),(aG (Ab d))]) func70 O O (Ac O) (AF.subF (sL [0,1] O) (q4 (Bg (cs:=BH n) O λb1=>Bg (cs:=Ab d) O λb2=>al D4 O λb3=>?_)))
 refine q6 (sL [2,3,4] O) (rN [(0,true),(2,true),(1,false),(3,false)] [⟨4,5,47,Ab 0⟩] [(5,false)] sr (by kernel_rfl) (λ_ _ d _ _ h=>by cases d<;>exact h) (HG O O F5 O (JL)) O (IL 2 DW O (IL 1 CL O (CY.imp O λEF EL=>BR call141 (NP n) O ?_))))
 refine CY.back0 sr O (CY.imp O λEF EL=>BR call144 (Xm n.natAbs d Z Z) O (CY.back0 sr O (CY.news1 λb4=>AT.imp O ?_)))
 refine Aw O sizeOf47 O (AT.back (sl sr) (AT.nil (AD.subF (sL [2,3,4,5] O) (q1 (rN [(0,true),(2,true),(1,false),(3,false),(4,true),(5,true),(6,true),(7,true)] [⟨8,6,47,Ab 0⟩,⟨9,7,47,Ab 0⟩] [(10,false),(11,false),(12,true)] sr (by kernel_rfl) (λ_ _ d _ _ h=>by cases d<;>exact h) (HG O O F5 O (HG O O F5 O (JL))) O ?_)))))
 refine IL 3 DW O (IL 0 CL O (CY.imp O λEF EL=>BR call141 (NP n) O (CY.back0 sr O (CY.imp O λEF EL=>?_))))
 refine BR call145 (Pq n.natAbs (Nat.gcd n.natAbs d) Z Z Z) O (CY.back0 sr O (O3 O (HZ O (AZ (v:=(aG (Ab (n.natAbs/(Nat.gcd n.natAbs d))))) O O) O (HZ O (AZ (v:=(aG (Ab (n.natAbs%(Nat.gcd n.natAbs d))))) O O) O (HZ O (AZ (v:=(Value.bool true)) O O) O ?_)))))
 refine CY.news2 λb5 b6=>AT.imp O (Aw O sizeOf47 O (AT.back (sl (sl sr)) (AT.imp O (DP O sizeOf47 O ?_))))
 refine AT.back (sl (sl sr)) (Eg O (AT.nil (AD.subF (sL [2,3,4,5,6] O) (q2 (BA 4 CL O ?_)))))
 refine BA 2 CL O (BR call145 (Pq d (Nat.gcd n.natAbs d) Z Z Z) O (AS O (AH (AZ (v:=(aG (Ab (d/(Nat.gcd n.natAbs d))))) O O) O (AH (AZ (v:=(aG (Ab (d%(Nat.gcd n.natAbs d))))) O O) O (AH (AZ (v:=(Value.bool true)) O O) O ?_)))))
 refine al F5 O λb7=>al F5 O λb8=>DP O sizeOf47 O (Aw O sizeOf47 O (AL O (q6 (sL [2,3,4,5,6,9] O) ?_)))
 refine rC [(0,true),(1,false),(2,false),(3,true),(4,true),(5,true)] 6 [] sr (sk (sl sr)) (by kernel_rfl) (λ_ _ d _ _ h=>by cases d<;>exact h) (vE (v:=(aG (Ab (d/(Nat.gcd n.natAbs d))))) O (A7 (i:=1) (vs:=Ab (d/(Nat.gcd n.natAbs d))) O O CL.a CL.s O O) O (Bu.imp O (BR call147 (Jh 1 Z) O (Bu.back sr (Bu.imp O ?_)))))
 refine BR call146 (Pg (d/(Nat.gcd n.natAbs d)) 1 Z Z) O (Bu.back sr (vM O O O (vE O (AZ (v:=(aG (Ab ((d/(Nat.gcd n.natAbs d))-1)))) O O) O (vE O (AZ (v:=(Value.bool (decide (1<=d/(Nat.gcd n.natAbs d))))) O O) O (Bu.cut O ?_)))))
 refine DP O sizeOf47 O (AT.back (sk (sl sr)) (AT.nil (AD.subF (sL [2,3,4,5,6,9] O) (q1 (Cm [(0,true),(3,true),(5,true),(1,false),(2,true),(4,false),(6,true),(7,false)] (sk (sk (sk (sk (sk (sl sr)))))) ?_)))))
 refine En 6 DW O (En 2 CL O (En 1 CL O (AT.imp O (BR call137 (J4 n) O (AT.back (sk (sk (sk (sk (sk (sl sr)))))) ?_)))))
 refine Au O (Ak (c:=(decide (n.sign<(0:Int)))) O O O) (AT.imp O (BR call140 (EJ (decide (n.sign<(0:Int))) (n.natAbs/(Nat.gcd n.natAbs d))) O (AT.back (sk (sk (sk (sk (sk (sl sr)))))) (Au (v:=(aG (BH (Es (decide (n.sign<(0:Int))) (n.natAbs/(Nat.gcd n.natAbs d)))++Ab ((d/(Nat.gcd n.natAbs d))-1)))) O (Ad (zs:=AJ (0:Rat)) (vs:=BH (Es (decide (n.sign<(0:Int))) (n.natAbs/(Nat.gcd n.natAbs d)))++Ab ((d/(Nat.gcd n.natAbs d))-1)) (pv:=[(0,(aG (BH (Es (decide (n.sign<(0:Int))) (n.natAbs/(Nat.gcd n.natAbs d)))))),(1,(aG (Ab ((d/(Nat.gcd n.natAbs d))-1))))]) (places:=[(0,3),(3,2)]) zeroValue53 underlying53 (λw=>by simp [sizeOf47,sizeOf51]) O (Da (Es (decide (n.sign<(0:Int))) (n.natAbs/(Nat.gcd n.natAbs d))) ((d/(Nat.gcd n.natAbs d))-1))) (AT.imp O ?_)))))
 exact EW 5 (off:=0) (vs:=BH (Es (decide (n.sign<(0:Int))) (n.natAbs/(Nat.gcd n.natAbs d)))++Ab ((d/(Nat.gcd n.natAbs d))-1)) (cs':=BH (Es (decide (n.sign<(0:Int))) (n.natAbs/(Nat.gcd n.natAbs d)))++Ab ((d/(Nat.gcd n.natAbs d))-1)) (AK O) O sizeOf53 O (AT.back (sk (sk (sk (sk (sk (sl sr)))))) (AT.nil (AD.subF (sL [2,3,4,5,6,9] O) (AD.then_ (AF.ret (AR O (Az (i:=5) (cs:=BH (Es (decide (n.sign<(0:Int))) (n.natAbs/(Nat.gcd n.natAbs d)))++Ab ((d/(Nat.gcd n.natAbs d))-1)) O O isAgg53 sizeOf53 O) (λw hw=>⟨by rw [JA,WC hd0,VK hd0],hw.out⟩)))))))
theorem HX (x0:Int):Instr.fill ([(0,3),(3,2)].toArray[·]?) (AJ (0:Rat)).toArray [(0,.agg (BH x0).toArray)]=some (BH x0++Ab ((0:Rat).den-1)).toArray:=by kernel_rfl
theorem KM (n:Int) (w:World)  :Calls prog 68 #[(aG (BH n))] w (Aq w (aG (AJ ((n:Int):Rat)))):=by
 refine Ae (args:=[(aG (BH n))]) func68 O O (Ac O) (AF.subF (sL [0] O) (q4 (Bg (cs:=BH n) O λb1=>al D4 O λb2=>q3 (sL [1,2] O) ?_)))
 refine BA 1 DW O (AH (v:=(aG (BH n++Ab ((0:Rat).den-1)))) (Ad (zs:=AJ (0:Rat)) (vs:=BH n++Ab ((0:Rat).den-1)) (pv:=[(0,(aG (BH n)))]) (places:=[(0,3),(3,2)]) zeroValue53 underlying53 (λw=>by simp [sizeOf47,sizeOf51]) O (HX n)) O (Aw O sizeOf53 O (AE.nil (AD.subF (sL [2] O) (AD.then_ ?_)))))
 exact AF.ret (AR O (Az (i:=0) (cs:=BH n++Ab ((0:Rat).den-1)) O O isAgg53 sizeOf53 O) (λw hw=>⟨rfl,hw.out⟩))
theorem LD  :Instr.fill ([(0,1),(1,1)].toArray[·]?) (Ab 0).toArray []=some (Ab 0).toArray:=by kernel_rfl
theorem H3 (a:Rat) (w:World)  :Calls prog 67 #[(aG (AJ a))] w (Aq w (Value.bool (decide (a.den-1=0)))):=by
 refine Ae (args:=[(aG (AJ a))]) func67 O O (Ac O) (AF.subF (sL [0] O) (q4 (Bg (cs:=AJ a) O λb1=>AL O (q3 (sL [1,2] O) ?_))))
 refine AH (v:=(pP b1 3)) (AA O underlying53 O sizeOf47 O) O (EP 0 (Ab (a.den-1)) CL O (AH (v:=(aG (Ab 0))) (Ad (zs:=Ab 0) (vs:=Ab 0) (pv:=[]) (places:=[(0,1),(1,1)]) zeroValue47 underlying47 (λw=>by simp [sizeOf9,sizeOf45]) O (LD )) O (AH (Bd (c:=(decide (a.den-1=0))) O O eqGuardType47 (G5 9998 (a.den-1) 0)) O (AL O (AE.nil ?_)))))
 exact AD.subF (sL [2] O) (AD.then_ (AF.ret (AR O (Ai (v:=(Value.bool (decide (a.den-1=0)))) O) (λw hw=>⟨rfl,hw.out⟩))))
theorem HY (a:Rat) (ha:nw a.den<=1099511627776) (w:World)  :Calls prog 72 #[(aG (AJ a))] w (Aq w (aG (Ab a.den))):=by
 have h1w:=KX
 have h2w:=Dj (Nat.sub_le a.den 1)
 refine Ae (args:=[(aG (AJ a))]) func72 O O (Ac O) (AF.subF (sL [0] O) (q4 (Bg (cs:=AJ a) O λb1=>al F5 O λb2=>q6 (sL [1,2] O) ?_)))
 refine Cm [(0,true),(1,true),(2,false),(3,false),(4,false)] (sl sr) (Au (v:=(pP b1 3)) O (AA O underlying53 O sizeOf47 O) (GL 0 (Ab (a.den-1)) CL O (AT.imp O (BR call147 (Jh 1 Z) O (AT.back (sl sr) ?_)))))
 refine AT.imp O (BR call151 (Ss (a.den-1) 1 Z Z) O (AT.back (sl sr) (AT.imp O (Aw O sizeOf47 O (AT.back (sl sr) ?_)))))
 exact AT.nil (AD.subF (sL [2] O) (AD.then_ (AF.ret (AR O (Az (i:=0) (cs:=Ab ((a.den-1)+1)) O O isAgg47 sizeOf47 O) (λw hw=>⟨by rw [Nat.sub_add_cancel a.den_pos],hw.out⟩)))))
theorem G8 (a:Rat) (ha:nw a.den<=1099511627776) (w:World)  :Calls prog 83 #[(aG (AJ a))] w (Aq w (aG (BH ((a.den:Nat):Int)))):=by
 refine Ae (args:=[(aG (AJ a))]) func83 O O (Ac O) (AF.subF (sL [0] O) (q4 (Bg (cs:=AJ a) O λb1=>al JS O λb2=>q3 (sL [1,2] O) ?_)))
 refine BA 1 Bm O (BR call72 (HY a Z) O (BR call140 (EJ false a.den) O (Aw O sizeOf51 O (AE.nil (AD.subF (sL [2] O) ?_)))))
 exact AD.then_ (AF.ret (AR O (Az (i:=0) (cs:=BH (Es false a.den)) O O isAgg51 sizeOf51 O) (λw hw=>⟨rfl,hw.out⟩)))
theorem W4 (a:Rat) (w:World)  :Calls prog 169 #[(aG (AJ a))] w (Aq w (aG (AJ (-a)))):=by
 refine Ae (args:=[(aG (AJ a))]) func169 O O (Ac O) (AF.subF (sL [0] O) (q4 (Bg (cs:=AJ a) O λb1=>al D4 O λb2=>q6 (sL [1,2] O) ?_)))
 refine Cm [(0,true),(1,true),(3,true),(4,true),(2,false),(5,true),(6,false)] (sl sr) (Au (v:=(pP b1 0)) O (AA O underlying53 O sizeOf51 O) (GL 0 (BH a.num) DW O (Au (v:=(pP b1 3)) O (AA O underlying53 O sizeOf47 O) (GL 0 (Ab (a.den-1)) CL O (AT.imp O ?_)))))
 refine BR call201 (Pu a.num) O (AT.back (sl sr) (Au (v:=(aG (BH (-a.num)++Ab (a.den-1)))) O (Ad (zs:=AJ (0:Rat)) (vs:=BH (-a.num)++Ab (a.den-1)) (pv:=[(0,(aG (BH (-a.num)))),(1,(aG (Ab (a.den-1))))]) (places:=[(0,3),(3,2)]) zeroValue53 underlying53 (λw=>by simp [sizeOf47,sizeOf51]) O (Da (-a.num) (a.den-1))) (AT.imp O (Aw O sizeOf53 O (AT.back (sl sr) ?_)))))
 exact AT.nil (AD.subF (sL [2] O) (AD.then_ (AF.ret (AR O (Az (i:=0) (cs:=BH (-a.num)++Ab (a.den-1)) O O isAgg53 sizeOf53 O) (λw hw=>⟨by rw [JA,Rat.neg_num,Rat.neg_den],hw.out⟩)))))
theorem FB (a:Rat) (w:World)  :Calls prog 63 #[(aG (AJ a))] w (Aq w (vI a.num.sign)):=by
 refine Ae (args:=[(aG (AJ a))]) func63 O O (Ac O) (AF.subF (sL [0] O) (q4 (Bg (cs:=AJ a) O λb1=>AL O (q3 (sL [1,2] O) ?_))))
 refine AH (v:=(pP b1 0)) (AA O underlying53 O sizeOf51 O) O (EP 0 (BH a.num) DW O (BR call137 (J4 a.num) O (AL O (AE.nil (AD.subF (sL [2] O) ?_)))))
 exact AD.then_ (AF.ret (AR O (Ai (v:=(vI a.num.sign)) O) (λw hw=>⟨rfl,hw.out⟩)))
theorem GA (a b:Rat) (hs:Sz a+Sz b<=549755813888) (w:World)  :Calls prog 33 #[(aG (AJ a)),(aG (AJ b))] w (Aq w (vI (D8 a b))):=by
 have s1:=Ec a
 have s2:=ED a
 have s3:=Ec b
 have s4:=ED b
 have s5:=Db a b
 have s6:=Db b a
 have s7:=IR a b
 have s8:=KL a b
 have s9:=Eo a.num b.num
 have s10:=Eo (a.num*((b.den:Nat):Int)) (b.num*((a.den:Nat):Int))
 have hda:=a.den_nz
 have hdb:=b.den_nz
 have hdab:a.den*b.den≠0:=Nat.mul_ne_zero hda hdb
 refine Ae (args:=[(aG (AJ a)),(aG (AJ b))]) func33 O O (Ac O) (AF.subF (sL [0,1] O) (q4 (Bg (cs:=AJ a) O λb1=>Bg (cs:=AJ b) O λb2=>AL O ?_)))
 refine q6 (sL [2,3,4] O) (q4 (AH (v:=(pP b1 3)) (AA O underlying53 O sizeOf47 O) O (EP 1 (Ab (a.den-1)) CL O (AH (v:=(pP b2 3)) (AA O underlying53 O sizeOf47 O) O (EP 0 (Ab (b.den-1)) CL O ?_)))))
 refine AH (Bd (c:=(decide (a.den-1=b.den-1))) O O eqGuardType47 (G5 9998 (a.den-1) (b.den-1))) O (AE.nil (AD.subF (sL [2,3,4,9] O) (AD.then_ ?_)))
 refine AF.cond O (λhc0=>?_) (λhc0=>?_)
 ·replace hc0:=of_decide_eq_true hc0
  have he:=RV hc0
  refine q4 (AH (v:=(pP b1 0)) (AA O underlying53 O sizeOf51 O) O (EP 1 (BH a.num) DW O (AH (v:=(pP b2 0)) (AA O underlying53 O sizeOf51 O) O (EP 0 (BH b.num) DW O (BR call94 (P0 a.num b.num (by first|omega|(simp only [Int.natAbs_neg,BC,Int.natAbs_natCast];omega)) (by first|omega|(simp only [Int.natAbs_neg,BC,Int.natAbs_natCast];omega))) O ?_)))))
  exact AL O (AE.nil (AD.subF (sL [2,3,4] O) (AD.then_ (AF.ret (AD.then_ret (AR O (Ai (v:=(vI ((a.num-b.num).sign))) O) (λw hw=>⟨by rw [he],hw.out⟩)))))))
 ·replace hc0:=of_decide_eq_false hc0
  have he:=K3 a b
  refine AF.skip (q1 (Cm [(0,true),(1,true),(2,true),(5,true),(6,true),(7,true),(3,false),(4,false),(8,false),(9,false),(10,false),(11,true)] sr (Au (v:=(pP b1 0)) O (AA O underlying53 O sizeOf51 O) (GL 1 (BH a.num) DW O (En 0 Bm O ?_)))))
  refine Au (v:=(pP b2 0)) O (AA O underlying53 O sizeOf51 O) (GL 0 (BH b.num) DW O (En 1 Bm O (AT.imp O (BR call83 (G8 b Z) O (AT.back sr ?_)))))
  refine AT.imp O (BR call69 (Gw a.num ((b.den:Nat):Int) (by first|omega|(simp only [Int.natAbs_neg,BC,Int.natAbs_natCast];omega)) (by first|omega|(simp only [Int.natAbs_neg,BC,Int.natAbs_natCast];omega))) O (AT.back sr (AT.imp O (BR call83 (G8 a Z) O (AT.back sr ?_)))))
  refine AT.imp O (BR call69 (Gw b.num ((a.den:Nat):Int) (by first|omega|(simp only [Int.natAbs_neg,BC,Int.natAbs_natCast];omega)) (by first|omega|(simp only [Int.natAbs_neg,BC,Int.natAbs_natCast];omega))) O (AT.back sr (AT.imp O (BR call94 (P0 (a.num*((b.den:Nat):Int)) (b.num*((a.den:Nat):Int)) (by first|omega|(simp only [Int.natAbs_neg,BC,Int.natAbs_natCast];omega)) (by first|omega|(simp only [Int.natAbs_neg,BC,Int.natAbs_natCast];omega))) O (AT.back sr ?_)))))
  exact Eg O (AT.nil (AD.subF (sL [2,3,4] O) (AD.then_ (AF.ret (AR O (Ai (v:=(vI (((a.num*((b.den:Nat):Int))-(b.num*((a.den:Nat):Int))).sign))) O) (λw hw=>⟨by rw [he],hw.out⟩))))))
theorem Jp (a b:Rat) (hs:Sz a+Sz b<=549755813888) (w:World)  :Calls prog 29 #[(aG (AJ a)),(aG (AJ b))] w (Aq w (aG (AJ (a+b)))):=by
 have s1:=Ec a
 have s2:=ED a
 have s3:=Ec b
 have s4:=ED b
 have s5:=Db a b
 have s6:=Db b a
 have s7:=IR a b
 have s8:=KL a b
 have s9:=Eo a.num b.num
 have s10:=Eo (a.num*((b.den:Nat):Int)) (b.num*((a.den:Nat):Int))
 have hda:=a.den_nz
 have hdb:=b.den_nz
 have hdab:a.den*b.den≠0:=Nat.mul_ne_zero hda hdb
 refine Ae (args:=[(aG (AJ a)),(aG (AJ b))]) func29 O O (Ac O) (AF.subF (sL [0,1] O) (q4 (Bg (cs:=AJ a) O λb1=>Bg (cs:=AJ b) O λb2=>al D4 O λb3=>?_)))
 refine q6 (sL [2,3,4] O) (AF.block (q4 (BA 2 Bm O (BR call67 (H3 a) O (AS O ?_)))))
 refine AE.mid (FM:=[(2,(pP b1 0)),(3,(pP b2 0)),(4,(pP b3 0)),(6,(aG (AJ a))),(7,(Value.bool (decide (a.den-1=0)))),(8,(Value.bool (decide (a.den-1=0)))),(11,(Value.bool ((decide (a.den-1=0))&&(decide (b.den-1=0)))))]) (LM:=[Ag b3 53 (AJ (0:Rat)),Ag b2 53 (AJ b),Ag b1 53 (AJ a)]) 3 ?_ ?_
 ·rcases Bool.eq_false_or_eq_true (decide (a.den-1=0)) with hg1|hg1
  ·skip
   refine AE.retell (k:=8) (u:=Value.bool true) O (by rw [hg1]) ?_
   have hg1':=hg1
   replace hg1':=of_decide_eq_true hg1'
   exact AE.step (v:=(aG (AJ b))) (AB O) (A7 (i:=1) (vs:=AJ b) O O Bm.a Bm.s O O) O (Ac O) (AE.call (v:=(Value.bool (decide (b.den-1=0)))) (AB O) (A_ (args:=[(aG (AJ b))]) O O call67) (λw hw=>H3 b w) O (Ac O) (AH (v:=(Value.bool (decide (b.den-1=0)))) (Aj O O) O (AE.nil (AD.mid (sS O (sS O (sS O (sS O (sS O (sS (by first|rfl|(rw [hg1];rfl)|rw [hg1]) (sS (by first|rfl|(rw [hg1];rfl)|rw [hg1]) (sN)))))))) (List.Sublist.refl _)))))
  ·skip
   refine AE.retell (k:=8) (u:=Value.bool false) O (by rw [hg1]) ?_
   have hg1':=hg1
   replace hg1':=of_decide_eq_false hg1'
   exact AE.skip (AN O) O (Ac O) (AE.skip (AN O) O (Ac O) (AH (v:=(Value.bool false)) (AV O O) O (AE.nil (AD.mid (sS O (sS O (sS O (sS O (sS O (sS (by first|rfl|(rw [hg1];rfl)|rw [hg1]) (sS (by first|rfl|(rw [hg1];rfl)|rw [hg1]) (sN)))))))) (List.Sublist.refl _)))))
 refine AL O (AE.nil (AD.subF (sL [2,3,4,5] O) (AD.then_ ?_)))
 refine AF.cond O (λhc0=>?_) (λhc0=>?_)
 ·simp only [Bool.and_eq_true,Bool.or_eq_true,Bool.and_eq_false_iff,Bool.or_eq_false_iff,Bool.not_eq_true',Bool.not_eq_false',decide_eq_true_eq,decide_eq_false_iff_not] at hc0
  have he:=RH hc0.1 hc0.2
  refine q4 (AH (v:=(pP b1 0)) (AA O underlying53 O sizeOf51 O) O (EP 2 (BH a.num) DW O (AH (v:=(pP b2 0)) (AA O underlying53 O sizeOf51 O) O (EP 1 (BH b.num) DW O (BR call82 (M2 a.num b.num (by first|omega|(simp only [Int.natAbs_neg,BC,Int.natAbs_natCast];omega)) (by first|omega|(simp only [Int.natAbs_neg,BC,Int.natAbs_natCast];omega))) O ?_)))))
  refine BR call68 (KM (a.num+b.num)) O (Aw O sizeOf53 O (AE.nil (AD.subF (sL [2,3,4] O) (AD.then_ (AF.ret ?_)))))
  exact AD.in_ret (AD.then_ret (AR O (Az (i:=0) (cs:=AJ ((a.num+b.num:Int):Rat)) O O isAgg53 sizeOf53 O) (λw hw=>⟨by rw [he],hw.out⟩)))
 ·simp only [Bool.and_eq_true,Bool.or_eq_true,Bool.and_eq_false_iff,Bool.or_eq_false_iff,Bool.not_eq_true',Bool.not_eq_false',decide_eq_true_eq,decide_eq_false_iff_not] at hc0
  have he:=MS a b
  refine q4 (AH (v:=(pP b1 3)) (AA O underlying53 O sizeOf47 O) O (EP 2 (Ab (a.den-1)) CL O (AH (v:=(pP b2 3)) (AA O underlying53 O sizeOf47 O) O (EP 1 (Ab (b.den-1)) CL O (AH (Bd (c:=(decide (a.den-1=b.den-1))) O O eqGuardType47 (G5 9998 (a.den-1) (b.den-1))) O ?_)))))
  refine AL O (AE.nil (AD.subF (sL [2,3,4,18] O) (AD.then_ ?_)))
  refine AF.cond O (λhc1=>?_) (λhc1=>?_)
  ·replace hc1:=of_decide_eq_true hc1
   have he:=Tt hc1
   refine AF.seq (Cm [(0,true),(1,true),(2,true),(3,true),(5,true),(4,false),(6,false),(7,false),(8,false)] (sl sr) (Au (v:=(pP b1 0)) O (AA O underlying53 O sizeOf51 O) (GL 1 (BH a.num) DW O (Au (v:=(pP b2 0)) O (AA O underlying53 O sizeOf51 O) (GL 0 (BH b.num) DW O ?_)))))
   refine En 1 Bm O (AT.imp O (BR call82 (M2 a.num b.num (by first|omega|(simp only [Int.natAbs_neg,BC,Int.natAbs_natCast];omega)) (by first|omega|(simp only [Int.natAbs_neg,BC,Int.natAbs_natCast];omega))) O (AT.back (sl sr) (AT.imp O (BR call72 (HY a Z) O ?_)))))
   refine AT.back (sl sr) (AT.imp O (BR call70 (HA (a.num+b.num) a.den Z Z (by first|omega|assumption)) O (AT.back (sl sr) (AT.imp O (Aw O sizeOf53 O ?_)))))
   refine AT.back (sl sr) (AT.nil (AD.subF (sL [2,3,4] O) (AD.then_ (AF.ret (AD.in_ret ?_)))))
   exact AD.then_ret (AR O (Az (i:=0) (cs:=AJ (mkRat (a.num+b.num) a.den)) O O isAgg53 sizeOf53 O) (λw hw=>⟨by rw [he],hw.out⟩))
  ·replace hc1:=of_decide_eq_false hc1
   refine AF.skip (AD.in_normal (q1 (Cm [(0,true),(1,true),(2,true),(5,true),(6,true),(7,true),(11,true),(13,true),(3,false),(4,false),(8,false),(9,false),(10,false),(12,false),(14,false),(15,false),(16,false),(17,false)] (sl sr) (Au (v:=(pP b1 0)) O (AA O underlying53 O sizeOf51 O) (GL 1 (BH a.num) DW O ?_)))))
   refine En 0 Bm O (Au (v:=(pP b2 0)) O (AA O underlying53 O sizeOf51 O) (GL 0 (BH b.num) DW O (En 1 Bm O (En 1 Bm O (En 0 Bm O ?_)))))
   refine AT.imp O (BR call83 (G8 b Z) O (AT.back (sl sr) (AT.imp O (BR call69 (Gw a.num ((b.den:Nat):Int) (by first|omega|(simp only [Int.natAbs_neg,BC,Int.natAbs_natCast];omega)) (by first|omega|(simp only [Int.natAbs_neg,BC,Int.natAbs_natCast];omega))) O (AT.back (sl sr) ?_)))))
   refine AT.imp O (BR call83 (G8 a Z) O (AT.back (sl sr) (AT.imp O (BR call69 (Gw b.num ((a.den:Nat):Int) (by first|omega|(simp only [Int.natAbs_neg,BC,Int.natAbs_natCast];omega)) (by first|omega|(simp only [Int.natAbs_neg,BC,Int.natAbs_natCast];omega))) O (AT.back (sl sr) ?_)))))
   refine AT.imp O (BR call82 (M2 (a.num*((b.den:Nat):Int)) (b.num*((a.den:Nat):Int)) (by first|omega|(simp only [Int.natAbs_neg,BC,Int.natAbs_natCast];omega)) (by first|omega|(simp only [Int.natAbs_neg,BC,Int.natAbs_natCast];omega))) O (AT.back (sl sr) (AT.imp O (BR call72 (HY a Z) O (AT.back (sl sr) ?_)))))
   refine AT.imp O (BR call72 (HY b Z) O (AT.back (sl sr) (AT.imp O (BR call71 (Oy a.den b.den Z Z) O (AT.back (sl sr) ?_)))))
   refine AT.imp O (BR call70 (HA ((a.num*((b.den:Nat):Int))+(b.num*((a.den:Nat):Int))) (a.den*b.den) Z Z (by first|omega|assumption)) O (AT.back (sl sr) (AT.imp O (Aw O sizeOf53 O (AT.back (sl sr) ?_)))))
   exact AT.nil (AD.subF (sL [2,3,4] O) (AD.then_ (AF.ret (AR O (Az (i:=0) (cs:=AJ (mkRat ((a.num*((b.den:Nat):Int))+(b.num*((a.den:Nat):Int))) (a.den*b.den))) O O isAgg53 sizeOf53 O) (λw hw=>⟨by rw [he],hw.out⟩)))))
theorem Me (a b:Rat) (hs:Sz a+Sz b<=549755813888) (w:World)  :Calls prog 111 #[(aG (AJ a)),(aG (AJ b))] w (Aq w (aG (AJ (a-b)))):=by
 refine Ae (args:=[(aG (AJ a)),(aG (AJ b))]) func111 O O (Ac O) (AF.subF (sL [0,1] O) (q4 (Bg (cs:=AJ a) O λb1=>Bg (cs:=AJ b) O λb2=>al D4 O λb3=>?_)))
 refine q6 (sL [2,3,4] O) (Cm [(0,true),(1,true),(2,false),(3,false),(4,false)] (sl sr) (En 1 Bm O (En 0 Bm O (AT.imp O (BR call169 (W4 b) O ?_)))))
 refine AT.back (sl sr) (AT.imp O ?_)
 have hz1:=Gh a (-b)
 refine BR call29 (Jp a (-b) (by (try simp only [Dv]);omega)) O (AT.back (sl sr) (AT.imp O (Aw O sizeOf53 O (AT.back (sl sr) (AT.nil ?_)))))
 exact AD.subF (sL [4] O) (AD.then_ (AF.ret (AR O (Az (i:=0) (cs:=AJ (a+(-b))) O O isAgg53 sizeOf53 O) (λw hw=>⟨by rw [Rat.sub_eq_add_neg],hw.out⟩))))
theorem G7 (a b:Rat) (hs:Sz a+Sz b<=549755813888) (w:World)  :Calls prog 24 #[(aG (AJ a)),(aG (AJ b))] w (Aq w (aG (AJ (a*b)))):=by
 have s1:=Ec a
 have s2:=ED a
 have s3:=Ec b
 have s4:=ED b
 have s5:=Db a b
 have s6:=Db b a
 have s7:=IR a b
 have s8:=KL a b
 have s9:=Eo a.num b.num
 have s10:=Eo (a.num*((b.den:Nat):Int)) (b.num*((a.den:Nat):Int))
 have hda:=a.den_nz
 have hdb:=b.den_nz
 have hdab:a.den*b.den≠0:=Nat.mul_ne_zero hda hdb
 refine Ae (args:=[(aG (AJ a)),(aG (AJ b))]) func24 O O (Ac O) (AF.subF (sL [0,1] O) (q4 (Bg (cs:=AJ a) O λb1=>Bg (cs:=AJ b) O λb2=>al D4 O λb3=>?_)))
 refine q6 (sL [2,3,4] O) (q4 (BA 2 Bm O (BR call67 (H3 a) O (AS O ?_))))
 refine AE.mid (FM:=[(2,(pP b1 0)),(3,(pP b2 0)),(4,(pP b3 0)),(5,(aG (AJ a))),(6,(Value.bool (decide (a.den-1=0)))),(7,(Value.bool (decide (a.den-1=0)))),(10,(Value.bool ((decide (a.den-1=0))&&(decide (b.den-1=0)))))]) (LM:=[Ag b3 53 (AJ (0:Rat)),Ag b2 53 (AJ b),Ag b1 53 (AJ a)]) 3 ?_ ?_
 ·rcases Bool.eq_false_or_eq_true (decide (a.den-1=0)) with hg1|hg1
  ·skip
   refine AE.retell (k:=7) (u:=Value.bool true) O (by rw [hg1]) ?_
   have hg1':=hg1
   replace hg1':=of_decide_eq_true hg1'
   exact AE.step (v:=(aG (AJ b))) (AB O) (A7 (i:=1) (vs:=AJ b) O O Bm.a Bm.s O O) O (Ac O) (AE.call (v:=(Value.bool (decide (b.den-1=0)))) (AB O) (A_ (args:=[(aG (AJ b))]) O O call67) (λw hw=>H3 b w) O (Ac O) (AH (v:=(Value.bool (decide (b.den-1=0)))) (Aj O O) O (AE.nil (AD.mid (sS O (sS O (sS O (sS O (sS O (sS (by first|rfl|(rw [hg1];rfl)|rw [hg1]) (sS (by first|rfl|(rw [hg1];rfl)|rw [hg1]) (sN)))))))) (List.Sublist.refl _)))))
  ·skip
   refine AE.retell (k:=7) (u:=Value.bool false) O (by rw [hg1]) ?_
   have hg1':=hg1
   replace hg1':=of_decide_eq_false hg1'
   exact AE.skip (AN O) O (Ac O) (AE.skip (AN O) O (Ac O) (AH (v:=(Value.bool false)) (AV O O) O (AE.nil (AD.mid (sS O (sS O (sS O (sS O (sS O (sS (by first|rfl|(rw [hg1];rfl)|rw [hg1]) (sS (by first|rfl|(rw [hg1];rfl)|rw [hg1]) (sN)))))))) (List.Sublist.refl _)))))
 refine AE.nil (AD.subF (sL [2,3,4,10] O) (AD.then_ ?_))
 refine AF.cond O (λhc0=>?_) (λhc0=>?_)
 ·simp only [Bool.and_eq_true,Bool.or_eq_true,Bool.and_eq_false_iff,Bool.or_eq_false_iff,Bool.not_eq_true',Bool.not_eq_false',decide_eq_true_eq,decide_eq_false_iff_not] at hc0
  have he:=Rt hc0.1 hc0.2
  refine q4 (AH (v:=(pP b1 0)) (AA O underlying53 O sizeOf51 O) O (EP 2 (BH a.num) DW O (AH (v:=(pP b2 0)) (AA O underlying53 O sizeOf51 O) O (EP 1 (BH b.num) DW O (BR call69 (Gw a.num b.num (by first|omega|(simp only [Int.natAbs_neg,BC,Int.natAbs_natCast];omega)) (by first|omega|(simp only [Int.natAbs_neg,BC,Int.natAbs_natCast];omega))) O ?_)))))
  refine BR call68 (KM (a.num*b.num)) O (Aw O sizeOf53 O (AE.nil (AD.subF (sL [2,3,4] O) (AD.then_ (AF.ret ?_)))))
  exact AD.then_ret (AR O (Az (i:=0) (cs:=AJ ((a.num*b.num:Int):Rat)) O O isAgg53 sizeOf53 O) (λw hw=>⟨by rw [he],hw.out⟩))
 ·simp only [Bool.and_eq_true,Bool.or_eq_true,Bool.and_eq_false_iff,Bool.or_eq_false_iff,Bool.not_eq_true',Bool.not_eq_false',decide_eq_true_eq,decide_eq_false_iff_not] at hc0
  have he:=Lw a b
  refine AF.skip (q1 (Cm [(0,true),(1,true),(2,true),(3,true),(5,true),(7,true),(4,false),(6,false),(8,false),(9,false),(10,false),(11,false)] (sl sr) (Au (v:=(pP b1 0)) O (AA O underlying53 O sizeOf51 O) (GL 1 (BH a.num) DW O (Au (v:=(pP b2 0)) O (AA O underlying53 O sizeOf51 O) ?_)))))
  refine GL 0 (BH b.num) DW O (En 1 Bm O (En 0 Bm O (AT.imp O (BR call69 (Gw a.num b.num (by first|omega|(simp only [Int.natAbs_neg,BC,Int.natAbs_natCast];omega)) (by first|omega|(simp only [Int.natAbs_neg,BC,Int.natAbs_natCast];omega))) O (AT.back (sl sr) ?_)))))
  refine AT.imp O (BR call72 (HY a Z) O (AT.back (sl sr) (AT.imp O (BR call72 (HY b Z) O (AT.back (sl sr) ?_)))))
  refine AT.imp O (BR call71 (Oy a.den b.den Z Z) O (AT.back (sl sr) (AT.imp O (BR call70 (HA (a.num*b.num) (a.den*b.den) Z Z (by first|omega|assumption)) O (AT.back (sl sr) ?_)))))
  refine AT.imp O (Aw O sizeOf53 O (AT.back (sl sr) (AT.nil (AD.subF (sL [2,3,4] O) (AD.then_ ?_)))))
  exact AF.ret (AR O (Az (i:=0) (cs:=AJ (mkRat (a.num*b.num) (a.den*b.den))) O O isAgg53 sizeOf53 O) (λw hw=>⟨by rw [he],hw.out⟩))
theorem Ju (a b:Rat) (hs:Sz a+Sz b<=549755813888) (hb:b≠0) (w:World)  :Calls prog 66 #[(aG (AJ a)),(aG (AJ b))] w (Aq w (Value.tuple #[(aG (AJ (a/b))),(vI 0)])):=by
 have s1:=Ec a
 have s2:=ED a
 have s3:=Ec b
 have s4:=ED b
 have s5:=Db a b
 have s6:=Db b a
 have s7:=IR a b
 have s8:=KL a b
 have s9:=Eo a.num b.num
 have s10:=Eo (a.num*((b.den:Nat):Int)) (b.num*((a.den:Nat):Int))
 have hda:=a.den_nz
 have hdb:=b.den_nz
 have hdab:a.den*b.den≠0:=Nat.mul_ne_zero hda hdb
 have hbn:b.num≠0:=λe=>hb (Rat.num_eq_zero.1 e)
 have hbs:b.num.sign≠0:=λe=>hbn (Int.sign_eq_zero_iff_zero.1 e)
 have hmi:nw (Es (decide (b.num.sign<(0:Int))) b.den).natAbs=nw b.den:=by rw [BC]
 have hinv:=Lo hb
 have hsi:=SP hb
 rw [<-hinv] at hsi
 refine Ae (args:=[(aG (AJ a)),(aG (AJ b))]) func66 O O (Ac O) (AF.subF (sL [0,1] O) (q4 (Bg (cs:=AJ a) O λb1=>Bg (cs:=AJ b) O λb2=>al D4 O λb3=>?_)))
 refine AL O (q6 (sL [2,3,4,5] O) (q4 (BA 1 Bm O (BR call63 (FB b) O (AH (BY (c:=(decide (b.num.sign=(0:Int)))) O O O) O ?_)))))
 refine AE.nil (AD.subF (sL [2,3,4,5,9] O) (AD.then_ ?_))
 refine AF.cond O (λhc0=>?_) (λhc0=>?_)
 ·replace hc0:=of_decide_eq_true hc0
  exact absurd hc0 hbs
 ·replace hc0:=of_decide_eq_false hc0
  refine AF.skip (q1 (rN [(0,true),(3,true),(6,true),(7,true),(1,false),(2,true),(4,false),(5,false),(8,false),(9,false)] [⟨10,6,53,AJ (0:Rat)⟩] [(11,false)] sr (by kernel_rfl) (λ_ _ d _ _ h=>by cases d<;>exact h) (HG O O D4 O (JL)) O (IL 1 Bm O (IL 1 Bm O (HZ (v:=(pP b2 0)) O (AA O underlying53 O sizeOf51 O) O ?_)))))
  refine SM 1 (BH b.num) DW O (CY.imp O λEF EL=>BR call63 (FB b) O (CY.back0 sr O (HZ O (Ak (c:=(decide (b.num.sign<(0:Int)))) O O O) O (CY.imp O λEF EL=>?_))))
  refine BR call72 (HY b Z) O (CY.back0 sr O (CY.imp O λEF EL=>BR call140 (EJ (decide (b.num.sign<(0:Int))) b.den) O (CY.back0 sr O (CY.imp O λEF EL=>?_))))
  refine BR call141 (NP b.num) O (CY.back0 sr O (CY.imp O λEF EL=>BR call70 (HA (Es (decide (b.num.sign<(0:Int))) b.den) b.num.natAbs Z Z (by first|omega|assumption)) O (CY.back0 sr O (CY.news1 λb4=>?_))))
  refine AT.imp O (Aw O sizeOf53 O (AT.back (sl sr) (AT.nil (AD.subF (sL [2,3,4,5,6] O) (q2 ?_)))))
  refine BA 3 Bm O (BA 0 Bm O ?_)
  have hz1:=D9 a (mkRat (Es (decide (b.num.sign<(0:Int))) b.den) b.num.natAbs)
  refine BR call24 (G7 a (mkRat (Es (decide (b.num.sign<(0:Int))) b.den) b.num.natAbs) (by (try simp only [Dv]);omega)) O (DP O sizeOf53 O (AL O (AE.nil (AD.subF (sL [3,4,5,6] O) (AD.then_ ?_)))))
  exact AF.ret (C9 O (Az (i:=1) (cs:=AJ (a*(mkRat (Es (decide (b.num.sign<(0:Int))) b.den) b.num.natAbs))) O O isAgg53 sizeOf53 O) (Ai (v:=(vI 0)) O) (λw hw=>⟨by rw [hinv,Rat.div_def],hw.out⟩))
theorem LF  :Instr.fill ([(0,3),(3,2)].toArray[·]?) (AJ (0:Rat)).toArray []=some (AJ (0:Rat)).toArray:=by kernel_rfl
theorem S8 (a:Rat) (w:World)  :Calls prog 66 #[(aG (AJ a)),(aG (AJ (0:Rat)))] w (Aq w (Value.tuple #[(aG (AJ (0:Rat))),(vI 5)])):=by
 refine Ae (args:=[(aG (AJ a)),(aG (AJ (0:Rat)))]) func66 O O (Ac O) (AF.subF (sL [0,1] O) (q4 (Bg (cs:=AJ a) O λb1=>Bg (cs:=AJ (0:Rat)) O λb2=>al D4 O λb3=>?_)))
 refine AL O (q6 (sL [2,3,4,5] O) (q4 (BA 1 Bm O (BR call63 (FB (0:Rat)) O (AH (BY (c:=(decide (((0:Rat).num.sign)=(0:Int)))) O O O) O ?_)))))
 refine AE.nil (AD.subF (sL [2,3,4,5,9] O) (AD.then_ ?_))
 refine AF.cond O (λhc0=>?_) (λhc0=>?_)
 ·replace hc0:=of_decide_eq_true hc0
  refine q4 (AH (v:=(aG (AJ (0:Rat)))) (Ad (zs:=AJ (0:Rat)) (vs:=AJ (0:Rat)) (pv:=[]) (places:=[(0,3),(3,2)]) zeroValue53 underlying53 (λw=>by simp [sizeOf47,sizeOf51]) O (LF )) O (Aw O sizeOf53 O (AL O (AE.nil (AD.subF (sL [2,3,4,5] O) ?_)))))
  exact AD.then_ (AF.ret (AD.then_ret (C9 O (Az (i:=0) (cs:=AJ (0:Rat)) O O isAgg53 sizeOf53 O) (Ai (v:=(vI 5)) O) (λw hw=>⟨rfl,hw.out⟩))))
 ·replace hc0:=of_decide_eq_false hc0
  exact absurd O hc0
theorem Ja (z:Int) (hz:-9223372036854775808<=z) (hz2:z<9223372036854775808) (w:World)  :Calls prog 25 #[(vI z)] w (Aq w (aG (AJ ((z:Int):Rat)))):=by
 refine Ae (args:=[(vI z)]) func25 O O (Ac O) (AF.subF (sL [0] O) (q4 (al D4 O λb1=>AE.nil (q2 ?_))))
 refine AS O (BR call73 (XS z Z Z) O (BR call68 (KM z) O (Aw O sizeOf53 O (AE.nil (AD.subF (sL [2] O) ?_)))))
 exact AD.then_ (AF.ret (AR O (Az (i:=0) (cs:=AJ ((z:Int):Rat)) O O isAgg53 sizeOf53 O) (λw hw=>⟨rfl,hw.out⟩)))
end
section
instance:Add Pt:=⟨λa b=>⟨a.x+b.x,a.y+b.y⟩⟩
instance:Sub Pt:=⟨λa b=>⟨a.x-b.x,a.y-b.y⟩⟩
def Cp (a:Pt) (k:Rat):Pt:=⟨a.x*k,a.y*k⟩
def Ih (a b:Pt):Rat:=a.x*b.y-a.y*b.x
def D6 (a b:Pt):Rat:=a.x*b.x+a.y*b.y
def AU (a b c:Pt):Rat:=Ih (b-a) (c-a)
def B5 (p:Pt):Nat:=max (Sz p.x) (Sz p.y)
theorem Dm (p:Pt):Sz p.x<=B5 p:=Nat.le_max_left ..
theorem Dn (p:Pt):Sz p.y<=B5 p:=Nat.le_max_right ..
theorem Mk {p:Pt} {k:Nat} (h1:Sz p.x<=k) (h2:Sz p.y<=k):B5 p<=k:=Nat.max_le.2 ⟨h1,h2⟩
theorem Ps (a b:Pt):B5 (a+b)<=B5 a+B5 b+1:=by
  have h1:=Dm a;have h2:=Dn a;have h3:=Dm b;have h4:=Dn b
  refine Mk ?_ ?_
  · exact Nat.le_trans (Gh a.x b.x) Z
  · exact Nat.le_trans (Gh a.y b.y) Z
theorem Di (a b:Pt):B5 (a-b)<=B5 a+B5 b+1:=by
  have h1:=Dm a;have h2:=Dn a;have h3:=Dm b;have h4:=Dn b
  refine Mk ?_ ?_
  · exact Nat.le_trans (Il a.x b.x) Z
  · exact Nat.le_trans (Il a.y b.y) Z
theorem Lg (a:Pt) (k:Rat):B5 (Cp a k)<=B5 a+Sz k:=by
  have h1:=Dm a;have h2:=Dn a
  refine Mk ?_ ?_
  · exact Nat.le_trans (D9 a.x k) Z
  · exact Nat.le_trans (D9 a.y k) Z
theorem KD (a b:Pt):Sz (Ih a b)<=2*B5 a+2*B5 b+1:=by
  have h1:=Dm a;have h2:=Dn a;have h3:=Dm b;have h4:=Dn b
  have h5:=D9 a.x b.y;have h6:=D9 a.y b.x
  exact Nat.le_trans (Il _ _) Z
theorem Ii (a b:Pt):Sz (D6 a b)<=2*B5 a+2*B5 b+1:=by
  have h1:=Dm a;have h2:=Dn a;have h3:=Dm b;have h4:=Dn b
  have h5:=D9 a.x b.x;have h6:=D9 a.y b.y
  exact Nat.le_trans (Gh _ _) Z
theorem FS (a b c:Pt):Sz (AU a b c)<=4*B5 a+2*B5 b+2*B5 c+5:=by
  have h1:=Di b a;have h2:=Di c a
  exact Nat.le_trans (KD _ _) Z
theorem VY:Sz (1/2:Rat)<=1:=by decide +kernel
theorem Vi:((1:Int):Rat)/((2:Int):Rat)=1/2:=by decide +kernel
theorem Md {z:Int} (h1:-9223372036854775808<=z) (h2:z<9223372036854775808):Sz ((z:Int):Rat)<=2:=XP (KY (by show z.natAbs<_;omega)) (by show nw 1<=2;rw [KX];omega)
theorem Wn (a b:Pt):Am (a+b)=AJ (a.x+b.x)++AJ (a.y+b.y):=rfl
theorem Wf (a b:Pt):Am (a-b)=AJ (a.x-b.x)++AJ (a.y-b.y):=rfl
theorem RG (a:Pt) (k:Rat):Am (Cp a k)=AJ (a.x*k)++AJ (a.y*k):=rfl
theorem Xh (x y:Rat):Am ⟨x,y⟩=AJ x++AJ y:=rfl
section
variable {P:Program} {Q:Exit->Act->World->Prop} {n:Nat} {F:List (Nat×Value)} {w0:BM} {L:List As} {c:Code}
def FO (P:Program) (c:Code) (Q:Exit->Act->World->Prop) (k n:Nat) (F:List (Nat×Value)) (w0:BM) (L:List As):Prop:=∀a w,Frm n a F->Own w0 w L->Code.rounds P c Q k a w
theorem AF.unroll (k:Nat) (h:FO P c Q k n F w0 L):AF P (.loop c) Q n F w0 L:=λa w ha hw=>wp_loop_rounds k (h a w ha hw)
theorem FO.step {k:Nat} (h:AF P c (Exit.then (Code.rounds P c Q k) Q) n F w0 L):FO P c Q (k+1) n F w0 L:=λa w ha hw=>by
  rw [rounds_succ];exact h a w ha hw
theorem AD.again {k:Nat} (h:FO P c Q k n F w0 L):AD (Exit.then (Code.rounds P c Q k) Q) .normal n F w0 L:=h
end
end
end Go.Proofs.YtfbomiejpbchdaaGreat
