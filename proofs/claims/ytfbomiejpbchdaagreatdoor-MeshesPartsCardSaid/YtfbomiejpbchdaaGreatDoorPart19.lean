import Derived.Test.YtfbomiejpbchdaaGreatDoorPart06
import Derived.Test.YtfbomiejpbchdaaGreatDoorPart15
import Derived.Test.YtfbomiejpbchdaaGreatDoorPart18
namespace Go.Proofs.YtfbomiejpbchdaaGreatDoor
open Go Go.RowKit Go.Proofs.Tryz
set_option linter.unusedVariables false
set_option linter.unusedSimpArgs false
def Sz (q:Rat):Nat:=max (nw q.num.natAbs) (nw q.den)
theorem Dw (q:Rat):nw q.num.natAbs<=Sz q:=Nat.le_max_left ..
theorem De (q:Rat):nw q.den<=Sz q:=Nat.le_max_right ..
theorem TN {q:Rat} {k:Nat} (h1:nw q.num.natAbs<=k) (h2:nw q.den<=k):Sz q<=k:=Nat.max_le.2 ⟨h1,h2⟩
theorem Ik:nw 1=1:=by decide
theorem Q7 (q:Rat):1<=Sz q:=Nat.le_trans (by rw [<-Ik];exact DA q.den_pos) (De q)
theorem Ig {n:Int} {d k:Nat} (h1:nw n.natAbs<=k) (h2:nw d<=k) (hk:1<=k):Sz (mkRat n d)<=k:=by
  refine TN ?_ ?_
  · rw [Rat.num_mkRat]
    split
    · exact Nat.zero_le _
    · refine Nat.le_trans (DA ?_) h1
      rw [Int.natAbs_ediv_of_dvd (by rw [Int.ofNat_dvd_left];exact Nat.gcd_dvd_right ..)]
      exact Nat.div_le_self _ _
  · rw [Rat.den_mkRat]
    split
    · rw [Ik];exact hk
    · exact Nat.le_trans (DA (Nat.div_le_self _ _)) h2
theorem Nf (a b:Int):nw (a*b).natAbs<=nw a.natAbs+nw b.natAbs:=by rw [Int.natAbs_mul];exact Qc _ _
theorem D4 (a b:Int):nw (a+b).natAbs<=max (nw a.natAbs) (nw b.natAbs)+1:=Nat.le_trans (DA (Int.natAbs_add_le a b)) (Tu _ _)
theorem C5 (a b:Rat):nw (a.num*((b.den:Nat):Int)).natAbs<=Sz a+Sz b:=by
  have h1:=Nf a.num ((b.den:Nat):Int)
  have h2:=Dw a
  have h3:=De b
  rw [Int.natAbs_natCast] at h1
  omega
theorem HQ (a b:Rat):nw (a.den*b.den)<=Sz a+Sz b:=by
  have h1:=Qc a.den b.den
  have h2:=De a
  have h3:=De b
  omega
theorem Ir (a b:Rat):nw (a.num*b.num).natAbs<=Sz a+Sz b:=by
  have h1:=Nf a.num b.num
  have h2:=Dw a
  have h3:=Dw b
  omega
theorem Jd (a b:Rat):mkRat (a.num*((b.den:Nat):Int)+b.num*((a.den:Nat):Int)) (a.den*b.den)=a+b:=by rw [Rat.add_def,Rat.normalize_eq_mkRat]
theorem Jx (a b:Rat):mkRat (a.num*b.num) (a.den*b.den)=a*b:=by rw [Rat.mul_def,Rat.normalize_eq_mkRat]
theorem G2 {a:Rat} (h:a.den-1=0):a=((a.num:Int):Rat):=by
  have h1:a.den=1:=by have:=a.den_pos;omega
  exact Rat.ext O h1
theorem N_ {a b:Rat} (ha:a.den-1=0) (hb:b.den-1=0):((a.num+b.num:Int):Rat)=a+b:=by
  rw [Rat.intCast_add,<-G2 ha,<-G2 hb]
theorem N8 {a b:Rat} (ha:a.den-1=0) (hb:b.den-1=0):((a.num*b.num:Int):Rat)=a*b:=by
  rw [Rat.intCast_mul,<-G2 ha,<-G2 hb]
theorem LV {a b:Rat} (h:a.den-1=b.den-1):a.den=b.den:=by
  have h1:=a.den_pos
  have h2:=b.den_pos
  omega
theorem RB {a b:Rat} (h:a.den-1=b.den-1):mkRat (a.num+b.num) a.den=a+b:=by
  have h1:=LV h
  have h2:a+b=mkRat a.num a.den+mkRat b.num a.den:=by rw [Rat.mkRat_self];conv=>lhs;rw [<-Rat.mkRat_self b,<-h1]
  rw [h2,Rat.mkRat_eq_div,Rat.mkRat_eq_div,Rat.mkRat_eq_div,Rat.intCast_add,Rat.div_def,Rat.div_def,Rat.div_def,Rat.add_mul]
theorem HG (a b:Rat):Sz (a+b)<=Sz a+Sz b+1:=by
  rw [<-Jd]
  have h1:=C5 a b
  have h2:=C5 b a
  have h3:=D4 (a.num*((b.den:Nat):Int)) (b.num*((a.den:Nat):Int))
  have h4:=HQ a b
  exact Ig Z Z Z
theorem Dd (a b:Rat):Sz (a*b)<=Sz a+Sz b:=by
  rw [<-Jx]
  have:=Q7 a
  exact Ig (Ir a b) (HQ a b) Z
theorem Ek (a:Rat):Sz (-a)=Sz a:=by unfold Sz;rw [Rat.neg_num,Rat.neg_den,Int.natAbs_neg]
theorem HR (a b:Rat):Sz (a-b)<=Sz a+Sz b+1:=by rw [Rat.sub_eq_add_neg,<-Ek b];exact HG a (-b)
theorem J6 {b:Rat} (h:b≠0):mkRat (EE (decide (b.num.sign<0)) b.den) b.num.natAbs=b⁻¹:=by
  have hn:b.num≠0:=λe=>h (Rat.num_eq_zero.1 e)
  have hb:b=(b.num:Rat)/((b.den:Nat):Rat):=by rw [<-Rat.mkRat_eq_div,Rat.mkRat_self]
  have hd:((b.den:Nat):Rat)≠0:=by
    intro e
    have:=b.den_pos
    have h2:b.den=0:=by exact_mod_cast e
    omega
  have hn2:((b.num:Int):Rat)≠0:=by
    intro e
    exact hn (by exact_mod_cast e)
  rw [Rat.mkRat_eq_div]
  conv=>rhs;rw [hb]
  by_cases hs:b.num<0
  · have e1:decide (b.num.sign<0)=true:=by simp [Int.sign_eq_neg_one_of_neg hs]
    have e2:((b.num.natAbs:Nat):Rat) = -((b.num:Int):Rat):=by
      have:((b.num.natAbs:Nat):Int) = -b.num:=by omega
      rw [<-Rat.intCast_natCast,this,Rat.intCast_neg]
    rw [e1,e2]
    simp only [EE,if_true,Rat.intCast_neg,Rat.intCast_natCast]
    grind
  · have e1:decide (b.num.sign<0)=false:=by
      have:0<=b.num.sign:=Int.sign_nonneg_iff.2 Z
      exact decide_eq_false Z
    have e2:((b.num.natAbs:Nat):Rat)=((b.num:Int):Rat):=by
      have:((b.num.natAbs:Nat):Int)=b.num:=by omega
      rw [<-Rat.intCast_natCast,this]
    rw [e1,e2]
    simp only [EE,Bool.false_eq_true,if_false,Rat.intCast_natCast]
    grind
theorem RV {b:Rat} (h:b≠0):Sz b⁻¹<=Sz b:=by
  rw [<-J6 h]
  exact Ig (by rw [Az];exact De b) (Dw b) (Q7 b)
theorem Ib {a b:Rat} (h:b≠0):Sz (a/b)<=Sz a+Sz b:=by
  rw [Rat.div_def]
  have h1:=Dd a b⁻¹
  have h2:=RV h
  omega
def Fp (a b:Rat):Int:=if a<b then -1 else if a=b then 0 else 1
theorem I5 (a b:Rat):(a.num*((b.den:Nat):Int)-b.num*((a.den:Nat):Int)).sign=Fp a b:=by
  have h1:=Rat.lt_iff a b
  have h2:=@Rat.eq_iff_mul_eq_mul a b
  unfold Fp
  split
  · rename_i h;exact Int.sign_eq_neg_one_of_neg (by have:=h1.1 h;omega)
  · rename_i h
    split
    · rename_i h';rw [h2.1 h'];simp
    · rename_i h'
      have h3:¬a.num*((b.den:Nat):Int)<b.num*((a.den:Nat):Int):=λe=>h (h1.2 e)
      have h4:¬a.num*((b.den:Nat):Int)=b.num*((a.den:Nat):Int):=λe=>h' (h2.2 e)
      exact Int.sign_eq_one_of_pos Z
theorem OI {a b:Rat} (h:a.den-1=b.den-1):(a.num-b.num).sign=Fp a b:=by
  rw [<-I5,<-LV h,<-Int.sub_mul,Int.sign_mul]
  have:=a.den_pos
  rw [show ((a.den:Nat):Int).sign=1 from Int.sign_eq_one_of_pos Z]
  simp
theorem H8 {a b:Rat}:Fp a b<0↔a<b:=by
  unfold Fp;split
  · simp [*]
  · split<;>simp [*]
theorem NK {a b:Rat}:Fp a b=0↔a=b:=by
  unfold Fp;split
  · rename_i h
    constructor
    · intro e;cases e
    · intro e;subst e;exact absurd h (by simp)
  · split<;>simp [*]
theorem Hg (q:Rat):AJ q=A8 q.num++AT (q.den-1):=rfl
theorem S2 {n:Int} {d:Nat} (hd:d≠0):(mkRat n d).num=EE (decide (n.sign<0)) (n.natAbs/Nat.gcd n.natAbs d):=by
  rw [Rat.num_mkRat,if_neg hd,Nat.gcd_comm]
  unfold EE
  by_cases h:n<0
  · rw [Int.sign_eq_neg_one_of_neg h]
    have e:n = -((n.natAbs:Nat):Int):=by omega
    simp only [show decide ((-1:Int)<0)=true from rfl,if_true]
    conv=>lhs;rw [e]
    rw [Int.natAbs_neg,Int.natAbs_natCast,Int.neg_ediv_of_dvd (by rw [Int.natCast_dvd_natCast];exact Nat.gcd_dvd_left ..)]
    rfl
  · have h0:0<=n.sign:=Int.sign_nonneg_iff.2 Z
    have e:n=((n.natAbs:Nat):Int):=by omega
    rw [if_neg (by simp;omega)]
    conv=>lhs;rw [e]
    rw [Int.natAbs_natCast]
    rfl
theorem Sx {n:Int} {d:Nat} (hd:d≠0):(mkRat n d).den=d/Nat.gcd n.natAbs d:=by rw [Rat.den_mkRat,if_neg hd,Nat.gcd_comm]
section
set_option maxRecDepth 100000
theorem C6 (x0:Int) (x1:Nat):Instr.fill ([(0,3),(3,2)].toArray[·]?) (AJ (0:Rat)).toArray [(0,.agg (A8 x0).toArray),(1,.agg (AT x1).toArray)]=some (A8 x0++AT x1).toArray:=by kernel_rfl
theorem Fx (n:Int) (d:Nat) (hn:nw n.natAbs<=1099511627776) (hd:nw d<=1099511627776) (hd0:d≠0) (w:World)  :Calls prog 53 #[(aG (A8 n)),(aG (AT d))] w (Al w (aG (AJ (mkRat n d)))):=by
 have hg:Nat.gcd n.natAbs d≠0:=λh=>hd0 (Nat.eq_zero_of_gcd_eq_zero_right h)
 have hgw:nw (Nat.gcd n.natAbs d)<=nw d:=DA (Nat.gcd_le_right _ (Nat.pos_of_ne_zero hd0))
 have hqw:nw (d/Nat.gcd n.natAbs d)<=nw d:=DA (Nat.div_le_self _ _)
 have h1w:=Ik
 refine Ac (args:=[(aG (A8 n)),(aG (AT d))]) func53 O O (Ad O) (AF.subF (sL [0,1] O) (q4 (Bi (cs:=A8 n) O λb1=>Bi (cs:=AT d) O λb2=>al Df O λb3=>?_)))
 refine q6 (sL [2,3,4] O) (rN [(0,true),(2,true),(1,false),(3,false)] [⟨4,5,55,AT 0⟩] [(5,false)] sr (by kernel_rfl) (λ_ _ d _ _ h=>by cases d<;>exact h) (EV O O FA O (Gn)) O (GZ 2 Cp O (GZ 1 Br O (B6.imp O λEF EL=>BS call99 (KY n) O ?_))))
 refine B6.back0 sr O (B6.imp O λEF EL=>BS call98 (TT n.natAbs d Z Z) O (B6.back0 sr O (B6.news1 λb4=>AS.imp O ?_)))
 refine Av O sizeOf55 O (AS.back (sl sr) (AS.nil (AC.subF (sL [2,3,4,5] O) (q1 (rN [(0,true),(2,true),(1,false),(3,false),(4,true),(5,true),(6,true),(7,true)] [⟨8,6,55,AT 0⟩,⟨9,7,55,AT 0⟩] [(10,false),(11,false),(12,true)] sr (by kernel_rfl) (λ_ _ d _ _ h=>by cases d<;>exact h) (EV O O FA O (EV O O FA O (Gn))) O ?_)))))
 refine GZ 3 Cp O (GZ 0 Br O (B6.imp O λEF EL=>BS call99 (KY n) O (B6.back0 sr O (B6.imp O λEF EL=>?_))))
 refine BS call100 (Mi n.natAbs (Nat.gcd n.natAbs d) Z Z Z) O (B6.back0 sr O (JW O (E1 O (AX (v:=(aG (AT (n.natAbs/(Nat.gcd n.natAbs d))))) O O) O (E1 O (AX (v:=(aG (AT (n.natAbs%(Nat.gcd n.natAbs d))))) O O) O (E1 O (AX (v:=(Value.bool true)) O O) O ?_)))))
 refine B6.news2 λb5 b6=>AS.imp O (Av O sizeOf55 O (AS.back (sl (sl sr)) (AS.imp O (Ci O sizeOf55 O ?_))))
 refine AS.back (sl (sl sr)) (EW O (AS.nil (AC.subF (sL [2,3,4,5,6] O) (q2 (BA 4 Br O ?_)))))
 refine BA 2 Br O (BS call100 (Mi d (Nat.gcd n.natAbs d) Z Z Z) O (AO O (AH (AX (v:=(aG (AT (d/(Nat.gcd n.natAbs d))))) O O) O (AH (AX (v:=(aG (AT (d%(Nat.gcd n.natAbs d))))) O O) O (AH (AX (v:=(Value.bool true)) O O) O ?_)))))
 refine al FA O λb7=>al FA O λb8=>Ci O sizeOf55 O (Av O sizeOf55 O (AK O (q6 (sL [2,3,4,5,6,9] O) ?_)))
 refine rC [(0,true),(1,false),(2,false),(3,true),(4,true),(5,true)] 6 [] sr (sk (sl sr)) (by kernel_rfl) (λ_ _ d _ _ h=>by cases d<;>exact h) (vE (v:=(aG (AT (d/(Nat.gcd n.natAbs d))))) O (Ak (i:=1) (vs:=AT (d/(Nat.gcd n.natAbs d))) O O Br.a Br.s O O) O (CG.imp O (BS call102 (IA 1 Z) O (CG.back sr (CG.imp O ?_)))))
 refine BS call101 (NE (d/(Nat.gcd n.natAbs d)) 1 Z Z) O (CG.back sr (vM O O O (vE O (AX (v:=(aG (AT ((d/(Nat.gcd n.natAbs d))-1)))) O O) O (vE O (AX (v:=(Value.bool (decide (1<=d/(Nat.gcd n.natAbs d))))) O O) O (CG.cut O ?_)))))
 refine Ci O sizeOf55 O (AS.back (sk (sl sr)) (AS.nil (AC.subF (sL [2,3,4,5,6,9] O) (q1 (C2 [(0,true),(3,true),(5,true),(1,false),(2,true),(4,false),(6,true),(7,false)] (sk (sk (sk (sk (sk (sl sr)))))) ?_)))))
 refine EH 6 Cp O (EH 2 Br O (EH 1 Br O (AS.imp O (BS call59 (Ih n) O (AS.back (sk (sk (sk (sk (sk (sl sr)))))) ?_)))))
 refine Ay O (Af (c:=(decide (n.sign<(0:Int)))) O O O) (AS.imp O (BS call103 (Dj (decide (n.sign<(0:Int))) (n.natAbs/(Nat.gcd n.natAbs d))) O (AS.back (sk (sk (sk (sk (sk (sl sr)))))) (Ay (v:=(aG (A8 (EE (decide (n.sign<(0:Int))) (n.natAbs/(Nat.gcd n.natAbs d)))++AT ((d/(Nat.gcd n.natAbs d))-1)))) O (AV (zs:=AJ (0:Rat)) (vs:=A8 (EE (decide (n.sign<(0:Int))) (n.natAbs/(Nat.gcd n.natAbs d)))++AT ((d/(Nat.gcd n.natAbs d))-1)) (pv:=[(0,(aG (A8 (EE (decide (n.sign<(0:Int))) (n.natAbs/(Nat.gcd n.natAbs d)))))),(1,(aG (AT ((d/(Nat.gcd n.natAbs d))-1))))]) (places:=[(0,3),(3,2)]) zeroValue61 underlying61 (λw=>by simp [sizeOf55,sizeOf59]) O (C6 (EE (decide (n.sign<(0:Int))) (n.natAbs/(Nat.gcd n.natAbs d))) ((d/(Nat.gcd n.natAbs d))-1))) (AS.imp O ?_)))))
 exact Fc 5 (off:=0) (vs:=A8 (EE (decide (n.sign<(0:Int))) (n.natAbs/(Nat.gcd n.natAbs d)))++AT ((d/(Nat.gcd n.natAbs d))-1)) (cs':=A8 (EE (decide (n.sign<(0:Int))) (n.natAbs/(Nat.gcd n.natAbs d)))++AT ((d/(Nat.gcd n.natAbs d))-1)) (AP O) O sizeOf61 O (AS.back (sk (sk (sk (sk (sk (sl sr)))))) (AS.nil (AC.subF (sL [2,3,4,5,6,9] O) (AC.then_ (AF.ret (AN O (A7 (i:=5) (cs:=A8 (EE (decide (n.sign<(0:Int))) (n.natAbs/(Nat.gcd n.natAbs d)))++AT ((d/(Nat.gcd n.natAbs d))-1)) O O isAgg61 sizeOf61 O) (λw hw=>⟨by rw [Hg,S2 hd0,Sx hd0],hw.out⟩)))))))
theorem GE (x0:Int):Instr.fill ([(0,3),(3,2)].toArray[·]?) (AJ (0:Rat)).toArray [(0,.agg (A8 x0).toArray)]=some (A8 x0++AT ((0:Rat).den-1)).toArray:=by kernel_rfl
theorem Iw (n:Int) (w:World)  :Calls prog 51 #[(aG (A8 n))] w (Al w (aG (AJ ((n:Int):Rat)))):=by
 refine Ac (args:=[(aG (A8 n))]) func51 O O (Ad O) (AF.subF (sL [0] O) (q4 (Bi (cs:=A8 n) O λb1=>al Df O λb2=>q3 (sL [1,2] O) ?_)))
 refine BA 1 Cp O (AH (v:=(aG (A8 n++AT ((0:Rat).den-1)))) (AV (zs:=AJ (0:Rat)) (vs:=A8 n++AT ((0:Rat).den-1)) (pv:=[(0,(aG (A8 n)))]) (places:=[(0,3),(3,2)]) zeroValue61 underlying61 (λw=>by simp [sizeOf55,sizeOf59]) O (GE n)) O (Av O sizeOf61 O (AE.nil (AC.subF (sL [2] O) (AC.then_ ?_)))))
 exact AF.ret (AN O (A7 (i:=0) (cs:=A8 n++AT ((0:Rat).den-1)) O O isAgg61 sizeOf61 O) (λw hw=>⟨rfl,hw.out⟩))
theorem JM  :Instr.fill ([(0,1),(1,1)].toArray[·]?) (AT 0).toArray []=some (AT 0).toArray:=by kernel_rfl
theorem FW (a:Rat) (w:World)  :Calls prog 50 #[(aG (AJ a))] w (Al w (Value.bool (decide (a.den-1=0)))):=by
 refine Ac (args:=[(aG (AJ a))]) func50 O O (Ad O) (AF.subF (sL [0] O) (q4 (Bi (cs:=AJ a) O λb1=>AK O (q3 (sL [1,2] O) ?_))))
 refine AH (v:=(pP b1 3)) (AA O underlying61 O sizeOf55 O) O (DU 0 (AT (a.den-1)) Br O (AH (v:=(aG (AT 0))) (AV (zs:=AT 0) (vs:=AT 0) (pv:=[]) (places:=[(0,1),(1,1)]) zeroValue55 underlying55 (λw=>by simp [sizeOf9,sizeOf53]) O (JM )) O (AH (Bq (c:=(decide (a.den-1=0))) O O eqGuardType55 (Fv 9998 (a.den-1) 0)) O (AK O (AE.nil ?_)))))
 exact AC.subF (sL [2] O) (AC.then_ (AF.ret (AN O (Ab (v:=(Value.bool (decide (a.den-1=0)))) O) (λw hw=>⟨rfl,hw.out⟩))))
theorem Fk (a:Rat) (ha:nw a.den<=1099511627776) (w:World)  :Calls prog 54 #[(aG (AJ a))] w (Al w (aG (AT a.den))):=by
 have h1w:=Ik
 have h2w:=DA (Nat.sub_le a.den 1)
 refine Ac (args:=[(aG (AJ a))]) func54 O O (Ad O) (AF.subF (sL [0] O) (q4 (Bi (cs:=AJ a) O λb1=>al FA O λb2=>q6 (sL [1,2] O) ?_)))
 refine C2 [(0,true),(1,true),(2,false),(3,false),(4,false)] (sl sr) (Ay (v:=(pP b1 3)) O (AA O underlying61 O sizeOf55 O) (HW 0 (AT (a.den-1)) Br O (AS.imp O (BS call102 (IA 1 Z) O (AS.back (sl sr) ?_)))))
 refine AS.imp O (BS call104 (RY (a.den-1) 1 Z Z) O (AS.back (sl sr) (AS.imp O (Av O sizeOf55 O (AS.back (sl sr) ?_)))))
 exact AS.nil (AC.subF (sL [2] O) (AC.then_ (AF.ret (AN O (A7 (i:=0) (cs:=AT ((a.den-1)+1)) O O isAgg55 sizeOf55 O) (λw hw=>⟨by rw [Nat.sub_add_cancel a.den_pos],hw.out⟩)))))
theorem Fw (a:Rat) (ha:nw a.den<=1099511627776) (w:World)  :Calls prog 56 #[(aG (AJ a))] w (Al w (aG (A8 ((a.den:Nat):Int)))):=by
 refine Ac (args:=[(aG (AJ a))]) func56 O O (Ad O) (AF.subF (sL [0] O) (q4 (Bi (cs:=AJ a) O λb1=>al Hw O λb2=>q3 (sL [1,2] O) ?_)))
 refine BA 1 Bg O (BS call54 (Fk a Z) O (BS call103 (Dj false a.den) O (Av O sizeOf59 O (AE.nil (AC.subF (sL [2] O) ?_)))))
 exact AC.then_ (AF.ret (AN O (A7 (i:=0) (cs:=A8 (EE false a.den)) O O isAgg59 sizeOf59 O) (λw hw=>⟨rfl,hw.out⟩)))
theorem R_ (a:Rat) (w:World)  :Calls prog 109 #[(aG (AJ a))] w (Al w (aG (AJ (-a)))):=by
 refine Ac (args:=[(aG (AJ a))]) func109 O O (Ad O) (AF.subF (sL [0] O) (q4 (Bi (cs:=AJ a) O λb1=>al Df O λb2=>q6 (sL [1,2] O) ?_)))
 refine C2 [(0,true),(1,true),(3,true),(4,true),(2,false),(5,true),(6,false)] (sl sr) (Ay (v:=(pP b1 0)) O (AA O underlying61 O sizeOf59 O) (HW 0 (A8 a.num) Cp O (Ay (v:=(pP b1 3)) O (AA O underlying61 O sizeOf55 O) (HW 0 (AT (a.den-1)) Br O (AS.imp O ?_)))))
 refine BS call146 (Nh a.num) O (AS.back (sl sr) (Ay (v:=(aG (A8 (-a.num)++AT (a.den-1)))) O (AV (zs:=AJ (0:Rat)) (vs:=A8 (-a.num)++AT (a.den-1)) (pv:=[(0,(aG (A8 (-a.num)))),(1,(aG (AT (a.den-1))))]) (places:=[(0,3),(3,2)]) zeroValue61 underlying61 (λw=>by simp [sizeOf55,sizeOf59]) O (C6 (-a.num) (a.den-1))) (AS.imp O (Av O sizeOf61 O (AS.back (sl sr) ?_)))))
 exact AS.nil (AC.subF (sL [2] O) (AC.then_ (AF.ret (AN O (A7 (i:=0) (cs:=A8 (-a.num)++AT (a.den-1)) O O isAgg61 sizeOf61 O) (λw hw=>⟨by rw [Hg,Rat.neg_num,Rat.neg_den],hw.out⟩)))))
theorem EM (a:Rat) (w:World)  :Calls prog 20 #[(aG (AJ a))] w (Al w (vI a.num.sign)):=by
 refine Ac (args:=[(aG (AJ a))]) func20 O O (Ad O) (AF.subF (sL [0] O) (q4 (Bi (cs:=AJ a) O λb1=>AK O (q3 (sL [1,2] O) ?_))))
 refine AH (v:=(pP b1 0)) (AA O underlying61 O sizeOf59 O) O (DU 0 (A8 a.num) Cp O (BS call59 (Ih a.num) O (AK O (AE.nil (AC.subF (sL [2] O) ?_)))))
 exact AC.then_ (AF.ret (AN O (Ab (v:=(vI a.num.sign)) O) (λw hw=>⟨rfl,hw.out⟩)))
theorem Nb (a b:Rat) (hs:Sz a+Sz b<=549755813888) (w:World)  :Calls prog 155 #[(aG (AJ a)),(aG (AJ b))] w (Al w (vI (Fp a b))):=by
 have s1:=Dw a
 have s2:=De a
 have s3:=Dw b
 have s4:=De b
 have s5:=C5 a b
 have s6:=C5 b a
 have s7:=HQ a b
 have s8:=Ir a b
 have s9:=D4 a.num b.num
 have s10:=D4 (a.num*((b.den:Nat):Int)) (b.num*((a.den:Nat):Int))
 have hda:=a.den_nz
 have hdb:=b.den_nz
 have hdab:a.den*b.den≠0:=Nat.mul_ne_zero hda hdb
 refine Ac (args:=[(aG (AJ a)),(aG (AJ b))]) func155 O O (Ad O) (AF.subF (sL [0,1] O) (q4 (Bi (cs:=AJ a) O λb1=>Bi (cs:=AJ b) O λb2=>AK O ?_)))
 refine q6 (sL [2,3,4] O) (q4 (AH (v:=(pP b1 3)) (AA O underlying61 O sizeOf55 O) O (DU 1 (AT (a.den-1)) Br O (AH (v:=(pP b2 3)) (AA O underlying61 O sizeOf55 O) O (DU 0 (AT (b.den-1)) Br O ?_)))))
 refine AH (Bq (c:=(decide (a.den-1=b.den-1))) O O eqGuardType55 (Fv 9998 (a.den-1) (b.den-1))) O (AE.nil (AC.subF (sL [2,3,4,9] O) (AC.then_ ?_)))
 refine AF.cond O (λhc0=>?_) (λhc0=>?_)
 ·replace hc0:=of_decide_eq_true hc0
  have he:=OI hc0
  refine q4 (AH (v:=(pP b1 0)) (AA O underlying61 O sizeOf59 O) O (DU 1 (A8 a.num) Cp O (AH (v:=(pP b2 0)) (AA O underlying61 O sizeOf59 O) O (DU 0 (A8 b.num) Cp O (BS call204 (NX a.num b.num (by first|omega|(simp only [Int.natAbs_neg,Az,Int.natAbs_natCast];omega)) (by first|omega|(simp only [Int.natAbs_neg,Az,Int.natAbs_natCast];omega))) O ?_)))))
  exact AK O (AE.nil (AC.subF (sL [2,3,4] O) (AC.then_ (AF.ret (AC.then_ret (AN O (Ab (v:=(vI ((a.num-b.num).sign))) O) (λw hw=>⟨by rw [he],hw.out⟩)))))))
 ·replace hc0:=of_decide_eq_false hc0
  have he:=I5 a b
  refine AF.skip (q1 (C2 [(0,true),(1,true),(2,true),(5,true),(6,true),(7,true),(3,false),(4,false),(8,false),(9,false),(10,false),(11,true)] sr (Ay (v:=(pP b1 0)) O (AA O underlying61 O sizeOf59 O) (HW 1 (A8 a.num) Cp O (EH 0 Bg O ?_)))))
  refine Ay (v:=(pP b2 0)) O (AA O underlying61 O sizeOf59 O) (HW 0 (A8 b.num) Cp O (EH 1 Bg O (AS.imp O (BS call56 (Fw b Z) O (AS.back sr ?_)))))
  refine AS.imp O (BS call55 (Fs a.num ((b.den:Nat):Int) (by first|omega|(simp only [Int.natAbs_neg,Az,Int.natAbs_natCast];omega)) (by first|omega|(simp only [Int.natAbs_neg,Az,Int.natAbs_natCast];omega))) O (AS.back sr (AS.imp O (BS call56 (Fw a Z) O (AS.back sr ?_)))))
  refine AS.imp O (BS call55 (Fs b.num ((a.den:Nat):Int) (by first|omega|(simp only [Int.natAbs_neg,Az,Int.natAbs_natCast];omega)) (by first|omega|(simp only [Int.natAbs_neg,Az,Int.natAbs_natCast];omega))) O (AS.back sr (AS.imp O (BS call204 (NX (a.num*((b.den:Nat):Int)) (b.num*((a.den:Nat):Int)) (by first|omega|(simp only [Int.natAbs_neg,Az,Int.natAbs_natCast];omega)) (by first|omega|(simp only [Int.natAbs_neg,Az,Int.natAbs_natCast];omega))) O (AS.back sr ?_)))))
  exact EW O (AS.nil (AC.subF (sL [2,3,4] O) (AC.then_ (AF.ret (AN O (Ab (v:=(vI (((a.num*((b.den:Nat):Int))-(b.num*((a.den:Nat):Int))).sign))) O) (λw hw=>⟨by rw [he],hw.out⟩))))))
theorem H9 (a b:Rat) (hs:Sz a+Sz b<=549755813888) (w:World)  :Calls prog 17 #[(aG (AJ a)),(aG (AJ b))] w (Al w (aG (AJ (a+b)))):=by
 have s1:=Dw a
 have s2:=De a
 have s3:=Dw b
 have s4:=De b
 have s5:=C5 a b
 have s6:=C5 b a
 have s7:=HQ a b
 have s8:=Ir a b
 have s9:=D4 a.num b.num
 have s10:=D4 (a.num*((b.den:Nat):Int)) (b.num*((a.den:Nat):Int))
 have hda:=a.den_nz
 have hdb:=b.den_nz
 have hdab:a.den*b.den≠0:=Nat.mul_ne_zero hda hdb
 refine Ac (args:=[(aG (AJ a)),(aG (AJ b))]) func17 O O (Ad O) (AF.subF (sL [0,1] O) (q4 (Bi (cs:=AJ a) O λb1=>Bi (cs:=AJ b) O λb2=>al Df O λb3=>?_)))
 refine q6 (sL [2,3,4] O) (AF.block (q4 (BA 2 Bg O (BS call50 (FW a) O (AO O ?_)))))
 refine AE.mid (FM:=[(2,(pP b1 0)),(3,(pP b2 0)),(4,(pP b3 0)),(6,(aG (AJ a))),(7,(Value.bool (decide (a.den-1=0)))),(8,(Value.bool (decide (a.den-1=0)))),(11,(Value.bool ((decide (a.den-1=0))&&(decide (b.den-1=0)))))]) (LM:=[Ae b3 61 (AJ (0:Rat)),Ae b2 61 (AJ b),Ae b1 61 (AJ a)]) 3 ?_ ?_
 ·rcases Bool.eq_false_or_eq_true (decide (a.den-1=0)) with hg1|hg1
  ·skip
   refine AE.retell (k:=8) (u:=Value.bool true) O (by rw [hg1]) ?_
   have hg1':=hg1
   replace hg1':=of_decide_eq_true hg1'
   exact AE.step (v:=(aG (AJ b))) (AB O) (Ak (i:=1) (vs:=AJ b) O O Bg.a Bg.s O O) O (Ad O) (AE.call (v:=(Value.bool (decide (b.den-1=0)))) (AB O) (Ao (args:=[(aG (AJ b))]) O O call50) (λw hw=>FW b w) O (Ad O) (AH (v:=(Value.bool (decide (b.den-1=0)))) (Ai O O) O (AE.nil (AC.mid (sS O (sS O (sS O (sS O (sS O (sS (by first|rfl|(rw [hg1];rfl)|rw [hg1]) (sS (by first|rfl|(rw [hg1];rfl)|rw [hg1]) (sN)))))))) (List.Sublist.refl _)))))
  ·skip
   refine AE.retell (k:=8) (u:=Value.bool false) O (by rw [hg1]) ?_
   have hg1':=hg1
   replace hg1':=of_decide_eq_false hg1'
   exact AE.skip (AQ O) O (Ad O) (AE.skip (AQ O) O (Ad O) (AH (v:=(Value.bool false)) (AY O O) O (AE.nil (AC.mid (sS O (sS O (sS O (sS O (sS O (sS (by first|rfl|(rw [hg1];rfl)|rw [hg1]) (sS (by first|rfl|(rw [hg1];rfl)|rw [hg1]) (sN)))))))) (List.Sublist.refl _)))))
 refine AK O (AE.nil (AC.subF (sL [2,3,4,5] O) (AC.then_ ?_)))
 refine AF.cond O (λhc0=>?_) (λhc0=>?_)
 ·simp only [Bool.and_eq_true,Bool.or_eq_true,Bool.and_eq_false_iff,Bool.or_eq_false_iff,Bool.not_eq_true',Bool.not_eq_false',decide_eq_true_eq,decide_eq_false_iff_not] at hc0
  have he:=N_ hc0.1 hc0.2
  refine q4 (AH (v:=(pP b1 0)) (AA O underlying61 O sizeOf59 O) O (DU 2 (A8 a.num) Cp O (AH (v:=(pP b2 0)) (AA O underlying61 O sizeOf59 O) O (DU 1 (A8 b.num) Cp O (BS call52 (K6 a.num b.num (by first|omega|(simp only [Int.natAbs_neg,Az,Int.natAbs_natCast];omega)) (by first|omega|(simp only [Int.natAbs_neg,Az,Int.natAbs_natCast];omega))) O ?_)))))
  refine BS call51 (Iw (a.num+b.num)) O (Av O sizeOf61 O (AE.nil (AC.subF (sL [2,3,4] O) (AC.then_ (AF.ret ?_)))))
  exact AC.in_ret (AC.then_ret (AN O (A7 (i:=0) (cs:=AJ ((a.num+b.num:Int):Rat)) O O isAgg61 sizeOf61 O) (λw hw=>⟨by rw [he],hw.out⟩)))
 ·simp only [Bool.and_eq_true,Bool.or_eq_true,Bool.and_eq_false_iff,Bool.or_eq_false_iff,Bool.not_eq_true',Bool.not_eq_false',decide_eq_true_eq,decide_eq_false_iff_not] at hc0
  have he:=Jd a b
  refine q4 (AH (v:=(pP b1 3)) (AA O underlying61 O sizeOf55 O) O (DU 2 (AT (a.den-1)) Br O (AH (v:=(pP b2 3)) (AA O underlying61 O sizeOf55 O) O (DU 1 (AT (b.den-1)) Br O (AH (Bq (c:=(decide (a.den-1=b.den-1))) O O eqGuardType55 (Fv 9998 (a.den-1) (b.den-1))) O ?_)))))
  refine AK O (AE.nil (AC.subF (sL [2,3,4,18] O) (AC.then_ ?_)))
  refine AF.cond O (λhc1=>?_) (λhc1=>?_)
  ·replace hc1:=of_decide_eq_true hc1
   have he:=RB hc1
   refine AF.seq (C2 [(0,true),(1,true),(2,true),(3,true),(5,true),(4,false),(6,false),(7,false),(8,false)] (sl sr) (Ay (v:=(pP b1 0)) O (AA O underlying61 O sizeOf59 O) (HW 1 (A8 a.num) Cp O (Ay (v:=(pP b2 0)) O (AA O underlying61 O sizeOf59 O) (HW 0 (A8 b.num) Cp O ?_)))))
   refine EH 1 Bg O (AS.imp O (BS call52 (K6 a.num b.num (by first|omega|(simp only [Int.natAbs_neg,Az,Int.natAbs_natCast];omega)) (by first|omega|(simp only [Int.natAbs_neg,Az,Int.natAbs_natCast];omega))) O (AS.back (sl sr) (AS.imp O (BS call54 (Fk a Z) O ?_)))))
   refine AS.back (sl sr) (AS.imp O (BS call53 (Fx (a.num+b.num) a.den Z Z (by first|omega|assumption)) O (AS.back (sl sr) (AS.imp O (Av O sizeOf61 O ?_)))))
   refine AS.back (sl sr) (AS.nil (AC.subF (sL [2,3,4] O) (AC.then_ (AF.ret (AC.in_ret ?_)))))
   exact AC.then_ret (AN O (A7 (i:=0) (cs:=AJ (mkRat (a.num+b.num) a.den)) O O isAgg61 sizeOf61 O) (λw hw=>⟨by rw [he],hw.out⟩))
  ·replace hc1:=of_decide_eq_false hc1
   refine AF.skip (AC.in_normal (q1 (C2 [(0,true),(1,true),(2,true),(5,true),(6,true),(7,true),(11,true),(13,true),(3,false),(4,false),(8,false),(9,false),(10,false),(12,false),(14,false),(15,false),(16,false),(17,false)] (sl sr) (Ay (v:=(pP b1 0)) O (AA O underlying61 O sizeOf59 O) (HW 1 (A8 a.num) Cp O ?_)))))
   refine EH 0 Bg O (Ay (v:=(pP b2 0)) O (AA O underlying61 O sizeOf59 O) (HW 0 (A8 b.num) Cp O (EH 1 Bg O (EH 1 Bg O (EH 0 Bg O ?_)))))
   refine AS.imp O (BS call56 (Fw b Z) O (AS.back (sl sr) (AS.imp O (BS call55 (Fs a.num ((b.den:Nat):Int) (by first|omega|(simp only [Int.natAbs_neg,Az,Int.natAbs_natCast];omega)) (by first|omega|(simp only [Int.natAbs_neg,Az,Int.natAbs_natCast];omega))) O (AS.back (sl sr) ?_)))))
   refine AS.imp O (BS call56 (Fw a Z) O (AS.back (sl sr) (AS.imp O (BS call55 (Fs b.num ((a.den:Nat):Int) (by first|omega|(simp only [Int.natAbs_neg,Az,Int.natAbs_natCast];omega)) (by first|omega|(simp only [Int.natAbs_neg,Az,Int.natAbs_natCast];omega))) O (AS.back (sl sr) ?_)))))
   refine AS.imp O (BS call52 (K6 (a.num*((b.den:Nat):Int)) (b.num*((a.den:Nat):Int)) (by first|omega|(simp only [Int.natAbs_neg,Az,Int.natAbs_natCast];omega)) (by first|omega|(simp only [Int.natAbs_neg,Az,Int.natAbs_natCast];omega))) O (AS.back (sl sr) (AS.imp O (BS call54 (Fk a Z) O (AS.back (sl sr) ?_)))))
   refine AS.imp O (BS call54 (Fk b Z) O (AS.back (sl sr) (AS.imp O (BS call57 (M0 a.den b.den Z Z) O (AS.back (sl sr) ?_)))))
   refine AS.imp O (BS call53 (Fx ((a.num*((b.den:Nat):Int))+(b.num*((a.den:Nat):Int))) (a.den*b.den) Z Z (by first|omega|assumption)) O (AS.back (sl sr) (AS.imp O (Av O sizeOf61 O (AS.back (sl sr) ?_)))))
   exact AS.nil (AC.subF (sL [2,3,4] O) (AC.then_ (AF.ret (AN O (A7 (i:=0) (cs:=AJ (mkRat ((a.num*((b.den:Nat):Int))+(b.num*((a.den:Nat):Int))) (a.den*b.den))) O O isAgg61 sizeOf61 O) (λw hw=>⟨by rw [he],hw.out⟩)))))
theorem KD (a b:Rat) (hs:Sz a+Sz b<=549755813888) (w:World)  :Calls prog 58 #[(aG (AJ a)),(aG (AJ b))] w (Al w (aG (AJ (a-b)))):=by
 refine Ac (args:=[(aG (AJ a)),(aG (AJ b))]) func58 O O (Ad O) (AF.subF (sL [0,1] O) (q4 (Bi (cs:=AJ a) O λb1=>Bi (cs:=AJ b) O λb2=>al Df O λb3=>?_)))
 refine q6 (sL [2,3,4] O) (C2 [(0,true),(1,true),(2,false),(3,false),(4,false)] (sl sr) (EH 1 Bg O (EH 0 Bg O (AS.imp O (BS call109 (R_ b) O ?_)))))
 refine AS.back (sl sr) (AS.imp O ?_)
 have hz1:=HG a (-b)
 refine BS call17 (H9 a (-b) (by (try simp only [Ek]);omega)) O (AS.back (sl sr) (AS.imp O (Av O sizeOf61 O (AS.back (sl sr) (AS.nil ?_)))))
 exact AC.subF (sL [4] O) (AC.then_ (AF.ret (AN O (A7 (i:=0) (cs:=AJ (a+(-b))) O O isAgg61 sizeOf61 O) (λw hw=>⟨by rw [Rat.sub_eq_add_neg],hw.out⟩))))
theorem Gl (a b:Rat) (hs:Sz a+Sz b<=549755813888) (w:World)  :Calls prog 26 #[(aG (AJ a)),(aG (AJ b))] w (Al w (aG (AJ (a*b)))):=by
 have s1:=Dw a
 have s2:=De a
 have s3:=Dw b
 have s4:=De b
 have s5:=C5 a b
 have s6:=C5 b a
 have s7:=HQ a b
 have s8:=Ir a b
 have s9:=D4 a.num b.num
 have s10:=D4 (a.num*((b.den:Nat):Int)) (b.num*((a.den:Nat):Int))
 have hda:=a.den_nz
 have hdb:=b.den_nz
 have hdab:a.den*b.den≠0:=Nat.mul_ne_zero hda hdb
 refine Ac (args:=[(aG (AJ a)),(aG (AJ b))]) func26 O O (Ad O) (AF.subF (sL [0,1] O) (q4 (Bi (cs:=AJ a) O λb1=>Bi (cs:=AJ b) O λb2=>al Df O λb3=>?_)))
 refine q6 (sL [2,3,4] O) (q4 (BA 2 Bg O (BS call50 (FW a) O (AO O ?_))))
 refine AE.mid (FM:=[(2,(pP b1 0)),(3,(pP b2 0)),(4,(pP b3 0)),(5,(aG (AJ a))),(6,(Value.bool (decide (a.den-1=0)))),(7,(Value.bool (decide (a.den-1=0)))),(10,(Value.bool ((decide (a.den-1=0))&&(decide (b.den-1=0)))))]) (LM:=[Ae b3 61 (AJ (0:Rat)),Ae b2 61 (AJ b),Ae b1 61 (AJ a)]) 3 ?_ ?_
 ·rcases Bool.eq_false_or_eq_true (decide (a.den-1=0)) with hg1|hg1
  ·skip
   refine AE.retell (k:=7) (u:=Value.bool true) O (by rw [hg1]) ?_
   have hg1':=hg1
   replace hg1':=of_decide_eq_true hg1'
   exact AE.step (v:=(aG (AJ b))) (AB O) (Ak (i:=1) (vs:=AJ b) O O Bg.a Bg.s O O) O (Ad O) (AE.call (v:=(Value.bool (decide (b.den-1=0)))) (AB O) (Ao (args:=[(aG (AJ b))]) O O call50) (λw hw=>FW b w) O (Ad O) (AH (v:=(Value.bool (decide (b.den-1=0)))) (Ai O O) O (AE.nil (AC.mid (sS O (sS O (sS O (sS O (sS O (sS (by first|rfl|(rw [hg1];rfl)|rw [hg1]) (sS (by first|rfl|(rw [hg1];rfl)|rw [hg1]) (sN)))))))) (List.Sublist.refl _)))))
  ·skip
   refine AE.retell (k:=7) (u:=Value.bool false) O (by rw [hg1]) ?_
   have hg1':=hg1
   replace hg1':=of_decide_eq_false hg1'
   exact AE.skip (AQ O) O (Ad O) (AE.skip (AQ O) O (Ad O) (AH (v:=(Value.bool false)) (AY O O) O (AE.nil (AC.mid (sS O (sS O (sS O (sS O (sS O (sS (by first|rfl|(rw [hg1];rfl)|rw [hg1]) (sS (by first|rfl|(rw [hg1];rfl)|rw [hg1]) (sN)))))))) (List.Sublist.refl _)))))
 refine AE.nil (AC.subF (sL [2,3,4,10] O) (AC.then_ ?_))
 refine AF.cond O (λhc0=>?_) (λhc0=>?_)
 ·simp only [Bool.and_eq_true,Bool.or_eq_true,Bool.and_eq_false_iff,Bool.or_eq_false_iff,Bool.not_eq_true',Bool.not_eq_false',decide_eq_true_eq,decide_eq_false_iff_not] at hc0
  have he:=N8 hc0.1 hc0.2
  refine q4 (AH (v:=(pP b1 0)) (AA O underlying61 O sizeOf59 O) O (DU 2 (A8 a.num) Cp O (AH (v:=(pP b2 0)) (AA O underlying61 O sizeOf59 O) O (DU 1 (A8 b.num) Cp O (BS call55 (Fs a.num b.num (by first|omega|(simp only [Int.natAbs_neg,Az,Int.natAbs_natCast];omega)) (by first|omega|(simp only [Int.natAbs_neg,Az,Int.natAbs_natCast];omega))) O ?_)))))
  refine BS call51 (Iw (a.num*b.num)) O (Av O sizeOf61 O (AE.nil (AC.subF (sL [2,3,4] O) (AC.then_ (AF.ret ?_)))))
  exact AC.then_ret (AN O (A7 (i:=0) (cs:=AJ ((a.num*b.num:Int):Rat)) O O isAgg61 sizeOf61 O) (λw hw=>⟨by rw [he],hw.out⟩))
 ·simp only [Bool.and_eq_true,Bool.or_eq_true,Bool.and_eq_false_iff,Bool.or_eq_false_iff,Bool.not_eq_true',Bool.not_eq_false',decide_eq_true_eq,decide_eq_false_iff_not] at hc0
  have he:=Jx a b
  refine AF.skip (q1 (C2 [(0,true),(1,true),(2,true),(3,true),(5,true),(7,true),(4,false),(6,false),(8,false),(9,false),(10,false),(11,false)] (sl sr) (Ay (v:=(pP b1 0)) O (AA O underlying61 O sizeOf59 O) (HW 1 (A8 a.num) Cp O (Ay (v:=(pP b2 0)) O (AA O underlying61 O sizeOf59 O) ?_)))))
  refine HW 0 (A8 b.num) Cp O (EH 1 Bg O (EH 0 Bg O (AS.imp O (BS call55 (Fs a.num b.num (by first|omega|(simp only [Int.natAbs_neg,Az,Int.natAbs_natCast];omega)) (by first|omega|(simp only [Int.natAbs_neg,Az,Int.natAbs_natCast];omega))) O (AS.back (sl sr) ?_)))))
  refine AS.imp O (BS call54 (Fk a Z) O (AS.back (sl sr) (AS.imp O (BS call54 (Fk b Z) O (AS.back (sl sr) ?_)))))
  refine AS.imp O (BS call57 (M0 a.den b.den Z Z) O (AS.back (sl sr) (AS.imp O (BS call53 (Fx (a.num*b.num) (a.den*b.den) Z Z (by first|omega|assumption)) O (AS.back (sl sr) ?_)))))
  refine AS.imp O (Av O sizeOf61 O (AS.back (sl sr) (AS.nil (AC.subF (sL [2,3,4] O) (AC.then_ ?_)))))
  exact AF.ret (AN O (A7 (i:=0) (cs:=AJ (mkRat (a.num*b.num) (a.den*b.den))) O O isAgg61 sizeOf61 O) (λw hw=>⟨by rw [he],hw.out⟩))
theorem H4 (a b:Rat) (hs:Sz a+Sz b<=549755813888) (hb:b≠0) (w:World)  :Calls prog 114 #[(aG (AJ a)),(aG (AJ b))] w (Al w (Value.tuple #[(aG (AJ (a/b))),(vI 0)])):=by
 have s1:=Dw a
 have s2:=De a
 have s3:=Dw b
 have s4:=De b
 have s5:=C5 a b
 have s6:=C5 b a
 have s7:=HQ a b
 have s8:=Ir a b
 have s9:=D4 a.num b.num
 have s10:=D4 (a.num*((b.den:Nat):Int)) (b.num*((a.den:Nat):Int))
 have hda:=a.den_nz
 have hdb:=b.den_nz
 have hdab:a.den*b.den≠0:=Nat.mul_ne_zero hda hdb
 have hbn:b.num≠0:=λe=>hb (Rat.num_eq_zero.1 e)
 have hbs:b.num.sign≠0:=λe=>hbn (Int.sign_eq_zero_iff_zero.1 e)
 have hmi:nw (EE (decide (b.num.sign<(0:Int))) b.den).natAbs=nw b.den:=by rw [Az]
 have hinv:=J6 hb
 have hsi:=RV hb
 rw [<-hinv] at hsi
 refine Ac (args:=[(aG (AJ a)),(aG (AJ b))]) func114 O O (Ad O) (AF.subF (sL [0,1] O) (q4 (Bi (cs:=AJ a) O λb1=>Bi (cs:=AJ b) O λb2=>al Df O λb3=>?_)))
 refine AK O (q6 (sL [2,3,4,5] O) (q4 (BA 1 Bg O (BS call20 (EM b) O (AH (BQ (c:=(decide (b.num.sign=(0:Int)))) O O O) O ?_)))))
 refine AE.nil (AC.subF (sL [2,3,4,5,9] O) (AC.then_ ?_))
 refine AF.cond O (λhc0=>?_) (λhc0=>?_)
 ·replace hc0:=of_decide_eq_true hc0
  exact absurd hc0 hbs
 ·replace hc0:=of_decide_eq_false hc0
  refine AF.skip (q1 (rN [(0,true),(3,true),(6,true),(7,true),(1,false),(2,true),(4,false),(5,false),(8,false),(9,false)] [⟨10,6,61,AJ (0:Rat)⟩] [(11,false)] sr (by kernel_rfl) (λ_ _ d _ _ h=>by cases d<;>exact h) (EV O O Df O (Gn)) O (GZ 1 Bg O (GZ 1 Bg O (E1 (v:=(pP b2 0)) O (AA O underlying61 O sizeOf59 O) O ?_)))))
  refine QE 1 (A8 b.num) Cp O (B6.imp O λEF EL=>BS call20 (EM b) O (B6.back0 sr O (E1 O (Af (c:=(decide (b.num.sign<(0:Int)))) O O O) O (B6.imp O λEF EL=>?_))))
  refine BS call54 (Fk b Z) O (B6.back0 sr O (B6.imp O λEF EL=>BS call103 (Dj (decide (b.num.sign<(0:Int))) b.den) O (B6.back0 sr O (B6.imp O λEF EL=>?_))))
  refine BS call99 (KY b.num) O (B6.back0 sr O (B6.imp O λEF EL=>BS call53 (Fx (EE (decide (b.num.sign<(0:Int))) b.den) b.num.natAbs Z Z (by first|omega|assumption)) O (B6.back0 sr O (B6.news1 λb4=>?_))))
  refine AS.imp O (Av O sizeOf61 O (AS.back (sl sr) (AS.nil (AC.subF (sL [2,3,4,5,6] O) (q2 ?_)))))
  refine BA 3 Bg O (BA 0 Bg O ?_)
  have hz1:=Dd a (mkRat (EE (decide (b.num.sign<(0:Int))) b.den) b.num.natAbs)
  refine BS call26 (Gl a (mkRat (EE (decide (b.num.sign<(0:Int))) b.den) b.num.natAbs) (by (try simp only [Ek]);omega)) O (Ci O sizeOf61 O (AK O (AE.nil (AC.subF (sL [3,4,5,6] O) (AC.then_ ?_)))))
  exact AF.ret (Ch O (A7 (i:=1) (cs:=AJ (a*(mkRat (EE (decide (b.num.sign<(0:Int))) b.den) b.num.natAbs))) O O isAgg61 sizeOf61 O) (Ab (v:=(vI 0)) O) (λw hw=>⟨by rw [hinv,Rat.div_def],hw.out⟩))
theorem JS  :Instr.fill ([(0,3),(3,2)].toArray[·]?) (AJ (0:Rat)).toArray []=some (AJ (0:Rat)).toArray:=by kernel_rfl
theorem P3 (a:Rat) (w:World)  :Calls prog 114 #[(aG (AJ a)),(aG (AJ (0:Rat)))] w (Al w (Value.tuple #[(aG (AJ (0:Rat))),(vI 5)])):=by
 refine Ac (args:=[(aG (AJ a)),(aG (AJ (0:Rat)))]) func114 O O (Ad O) (AF.subF (sL [0,1] O) (q4 (Bi (cs:=AJ a) O λb1=>Bi (cs:=AJ (0:Rat)) O λb2=>al Df O λb3=>?_)))
 refine AK O (q6 (sL [2,3,4,5] O) (q4 (BA 1 Bg O (BS call20 (EM (0:Rat)) O (AH (BQ (c:=(decide (((0:Rat).num.sign)=(0:Int)))) O O O) O ?_)))))
 refine AE.nil (AC.subF (sL [2,3,4,5,9] O) (AC.then_ ?_))
 refine AF.cond O (λhc0=>?_) (λhc0=>?_)
 ·replace hc0:=of_decide_eq_true hc0
  refine q4 (AH (v:=(aG (AJ (0:Rat)))) (AV (zs:=AJ (0:Rat)) (vs:=AJ (0:Rat)) (pv:=[]) (places:=[(0,3),(3,2)]) zeroValue61 underlying61 (λw=>by simp [sizeOf55,sizeOf59]) O (JS )) O (Av O sizeOf61 O (AK O (AE.nil (AC.subF (sL [2,3,4,5] O) ?_)))))
  exact AC.then_ (AF.ret (AC.then_ret (Ch O (A7 (i:=0) (cs:=AJ (0:Rat)) O O isAgg61 sizeOf61 O) (Ab (v:=(vI 5)) O) (λw hw=>⟨rfl,hw.out⟩))))
 ·replace hc0:=of_decide_eq_false hc0
  exact absurd O hc0
theorem G3 (z:Int) (hz:-9223372036854775808<=z) (hz2:z<9223372036854775808) (w:World)  :Calls prog 27 #[(vI z)] w (Al w (aG (AJ ((z:Int):Rat)))):=by
 refine Ac (args:=[(vI z)]) func27 O O (Ad O) (AF.subF (sL [0] O) (q4 (al Df O λb1=>AE.nil (q2 ?_))))
 refine AO O (BS call67 (Tp z Z Z) O (BS call51 (Iw z) O (Av O sizeOf61 O (AE.nil (AC.subF (sL [2] O) ?_)))))
 exact AC.then_ (AF.ret (AN O (A7 (i:=0) (cs:=AJ ((z:Int):Rat)) O O isAgg61 sizeOf61 O) (λw hw=>⟨rfl,hw.out⟩)))
end
section
instance:Add Pt:=⟨λa b=>⟨a.x+b.x,a.y+b.y⟩⟩
instance:Sub Pt:=⟨λa b=>⟨a.x-b.x,a.y-b.y⟩⟩
def Pu (a:Pt) (k:Rat):Pt:=⟨a.x*k,a.y*k⟩
def HU (a b:Pt):Rat:=a.x*b.y-a.y*b.x
def Aa (a b c:Pt):Rat:=HU (b-a) (c-a)
def B4 (p:Pt):Nat:=max (Sz p.x) (Sz p.y)
theorem F_ (p:Pt):Sz p.x<=B4 p:=Nat.le_max_left ..
theorem F5 (p:Pt):Sz p.y<=B4 p:=Nat.le_max_right ..
theorem RE {p:Pt} {k:Nat} (h1:Sz p.x<=k) (h2:Sz p.y<=k):B4 p<=k:=Nat.max_le.2 ⟨h1,h2⟩
theorem F0 (a b:Pt):B4 (a-b)<=B4 a+B4 b+1:=by
  have h1:=F_ a;have h2:=F5 a;have h3:=F_ b;have h4:=F5 b
  refine RE ?_ ?_
  · exact Nat.le_trans (HR a.x b.x) Z
  · exact Nat.le_trans (HR a.y b.y) Z
theorem JC (a b:Pt):Sz (HU a b)<=2*B4 a+2*B4 b+1:=by
  have h1:=F_ a;have h2:=F5 a;have h3:=F_ b;have h4:=F5 b
  have h5:=Dd a.x b.y;have h6:=Dd a.y b.x
  exact Nat.le_trans (HR _ _) Z
theorem Cz (a b c:Pt):Sz (Aa a b c)<=4*B4 a+2*B4 b+2*B4 c+5:=by
  have h1:=F0 b a;have h2:=F0 c a
  exact Nat.le_trans (JC _ _) Z
theorem Kw:Sz (1/2:Rat)<=1:=by decide +kernel
theorem Ss:((1:Int):Rat)/((2:Int):Rat)=1/2:=by decide +kernel
theorem Io {z:Int} (h1:-9223372036854775808<=z) (h2:z<9223372036854775808):Sz ((z:Int):Rat)<=2:=TN (Gm (by show z.natAbs<_;omega)) (by show nw 1<=2;rw [Ik];omega)
theorem SB (a b:Pt):Ah (a-b)=AJ (a.x-b.x)++AJ (a.y-b.y):=rfl
theorem Ty (x y:Rat):Ah ⟨x,y⟩=AJ x++AJ y:=rfl
section
variable {P:Program} {Q:Exit->Act->World->Prop} {n:Nat} {F:List (Nat×Value)} {w0:BH} {L:List As} {c:Code}
def Eb (P:Program) (c:Code) (Q:Exit->Act->World->Prop) (k n:Nat) (F:List (Nat×Value)) (w0:BH) (L:List As):Prop:=∀a w,CK n a F->BN w0 w L->Code.rounds P c Q k a w
theorem AF.unroll (k:Nat) (h:Eb P c Q k n F w0 L):AF P (.loop c) Q n F w0 L:=λa w ha hw=>wp_loop_rounds k (h a w ha hw)
theorem Eb.step {k:Nat} (h:AF P c (Exit.then (Code.rounds P c Q k) Q) n F w0 L):Eb P c Q (k+1) n F w0 L:=λa w ha hw=>by
  rw [rounds_succ];exact h a w ha hw
theorem AC.again {k:Nat} (h:Eb P c Q k n F w0 L):AC (Exit.then (Code.rounds P c Q k) Q) .normal n F w0 L:=h
end
end
end Go.Proofs.YtfbomiejpbchdaaGreatDoor
