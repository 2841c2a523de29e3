import Derived.Test.YtfbomiejpbchdaaGreatPart06
import Derived.Test.YtfbomiejpbchdaaGreatPart14
import Derived.Test.YtfbomiejpbchdaaGreatPart17
namespace Go.Proofs.YtfbomiejpbchdaaGreat
open Go Go.RowKit
set_option linter.unusedVariables false
set_option linter.unusedSimpArgs false
def Sz (q:Rat):Nat:=max (nw q.num.natAbs) (nw q.den)
theorem Eh (q:Rat):nw q.num.natAbs<=Sz q:=Nat.le_max_left ..
theorem EB (q:Rat):nw q.den<=Sz q:=Nat.le_max_right ..
theorem XJ {q:Rat} {k:Nat} (h1:nw q.num.natAbs<=k) (h2:nw q.den<=k):Sz q<=k:=Nat.max_le.2 ⟨h1,h2⟩
theorem J4:nw 1=1:=by decide
theorem TN (q:Rat):1<=Sz q:=Nat.le_trans (by rw [<-J4];exact Df q.den_pos) (EB q)
theorem Kc {n:Int} {d k:Nat} (h1:nw n.natAbs<=k) (h2:nw d<=k) (hk:1<=k):Sz (mkRat n d)<=k:=by
  refine XJ ?_ ?_
  · rw [Rat.num_mkRat]
    split
    · exact Nat.zero_le _
    · refine Nat.le_trans (Df ?_) h1
      rw [Int.natAbs_ediv_of_dvd (by rw [Int.ofNat_dvd_left];exact Nat.gcd_dvd_right ..)]
      exact Nat.div_le_self _ _
  · rw [Rat.den_mkRat]
    split
    · rw [J4];exact hk
    · exact Nat.le_trans (Df (Nat.div_le_self _ _)) h2
theorem P5 (a b:Int):nw (a*b).natAbs<=nw a.natAbs+nw b.natAbs:=by rw [Int.natAbs_mul];exact TU _ _
theorem En (a b:Int):nw (a+b).natAbs<=max (nw a.natAbs) (nw b.natAbs)+1:=Nat.le_trans (Df (Int.natAbs_add_le a b)) (YF _ _)
theorem Dd (a b:Rat):nw (a.num*((b.den:Nat):Int)).natAbs<=Sz a+Sz b:=by
  have h1:=P5 a.num ((b.den:Nat):Int)
  have h2:=Eh a
  have h3:=EB b
  rw [Int.natAbs_natCast] at h1
  omega
theorem IZ (a b:Rat):nw (a.den*b.den)<=Sz a+Sz b:=by
  have h1:=TU a.den b.den
  have h2:=EB a
  have h3:=EB b
  omega
theorem Ks (a b:Rat):nw (a.num*b.num).natAbs<=Sz a+Sz b:=by
  have h1:=P5 a.num b.num
  have h2:=Eh a
  have h3:=Eh b
  omega
theorem Ls (a b:Rat):mkRat (a.num*((b.den:Nat):Int)+b.num*((a.den:Nat):Int)) (a.den*b.den)=a+b:=by rw [Rat.add_def,Rat.normalize_eq_mkRat]
theorem MD (a b:Rat):mkRat (a.num*b.num) (a.den*b.den)=a*b:=by rw [Rat.mul_def,Rat.normalize_eq_mkRat]
theorem H7 {a:Rat} (h:a.den-1=0):a=((a.num:Int):Rat):=by
  have h1:a.den=1:=by have:=a.den_pos;omega
  exact Rat.ext rfl h1
theorem Q2 {a b:Rat} (ha:a.den-1=0) (hb:b.den-1=0):((a.num+b.num:Int):Rat)=a+b:=by
  rw [Rat.intCast_add,<-H7 ha,<-H7 hb]
theorem Q0 {a b:Rat} (ha:a.den-1=0) (hb:b.den-1=0):((a.num*b.num:Int):Rat)=a*b:=by
  rw [Rat.intCast_mul,<-H7 ha,<-H7 hb]
theorem OV {a b:Rat} (h:a.den-1=b.den-1):a.den=b.den:=by
  have h1:=a.den_pos
  have h2:=b.den_pos
  omega
theorem UY {a b:Rat} (h:a.den-1=b.den-1):mkRat (a.num+b.num) a.den=a+b:=by
  have h1:=OV h
  have h2:a+b=mkRat a.num a.den+mkRat b.num a.den:=by rw [Rat.mkRat_self];conv=>lhs;rw [<-Rat.mkRat_self b,<-h1]
  rw [h2,Rat.mkRat_eq_div,Rat.mkRat_eq_div,Rat.mkRat_eq_div,Rat.intCast_add,Rat.div_def,Rat.div_def,Rat.div_def,Rat.add_mul]
theorem GE (a b:Rat):Sz (a+b)<=Sz a+Sz b+1:=by
  rw [<-Ls]
  have h1:=Dd a b
  have h2:=Dd b a
  have h3:=En (a.num*((b.den:Nat):Int)) (b.num*((a.den:Nat):Int))
  have h4:=IZ a b
  exact Kc (by omega) (by omega) (by omega)
theorem Cl (a b:Rat):Sz (a*b)<=Sz a+Sz b:=by
  rw [<-MD]
  have:=TN a
  exact Kc (Ks a b) (IZ a b) (by omega)
theorem DS (a:Rat):Sz (-a)=Sz a:=by unfold Sz;rw [Rat.neg_num,Rat.neg_den,Int.natAbs_neg]
theorem IX (a b:Rat):Sz (a-b)<=Sz a+Sz b+1:=by rw [Rat.sub_eq_add_neg,<-DS b];exact GE a (-b)
theorem L5 {b:Rat} (h:b≠0):mkRat (Ez (decide (b.num.sign<0)) b.den) b.num.natAbs=b⁻¹:=by
  have hn:b.num≠0:=λe=>h (Rat.num_eq_zero.1 e)
  have hb:b=(b.num:Rat)/((b.den:Nat):Rat):=by rw [<-Rat.mkRat_eq_div,Rat.mkRat_self]
  have hd:((b.den:Nat):Rat)≠0:=by
    intro e
    have:=b.den_pos
    have h2:b.den=0:=by exact_mod_cast e
    omega
  have hn2:((b.num:Int):Rat)≠0:=by
    intro e
    exact hn (by exact_mod_cast e)
  rw [Rat.mkRat_eq_div]
  conv=>rhs;rw [hb]
  by_cases hs:b.num<0
  · have e1:decide (b.num.sign<0)=true:=by simp [Int.sign_eq_neg_one_of_neg hs]
    have e2:((b.num.natAbs:Nat):Rat) = -((b.num:Int):Rat):=by
      have:((b.num.natAbs:Nat):Int) = -b.num:=by omega
      rw [<-Rat.intCast_natCast,this,Rat.intCast_neg]
    rw [e1,e2]
    simp only [Ez,if_true,Rat.intCast_neg,Rat.intCast_natCast]
    grind
  · have e1:decide (b.num.sign<0)=false:=by
      have:0<=b.num.sign:=Int.sign_nonneg_iff.2 (by omega)
      exact decide_eq_false (by omega)
    have e2:((b.num.natAbs:Nat):Rat)=((b.num:Int):Rat):=by
      have:((b.num.natAbs:Nat):Int)=b.num:=by omega
      rw [<-Rat.intCast_natCast,this]
    rw [e1,e2]
    simp only [Ez,Bool.false_eq_true,if_false,Rat.intCast_natCast]
    grind
theorem Sw {b:Rat} (h:b≠0):Sz b⁻¹<=Sz b:=by
  rw [<-L5 h]
  exact Kc (by rw [BA];exact EB b) (Eh b) (TN b)
theorem Ho {a b:Rat} (h:b≠0):Sz (a/b)<=Sz a+Sz b:=by
  rw [Rat.div_def]
  have h1:=Cl a b⁻¹
  have h2:=Sw h
  omega
def CQ (a b:Rat):Int:=if a<b then -1 else if a=b then 0 else 1
theorem KD (a b:Rat):(a.num*((b.den:Nat):Int)-b.num*((a.den:Nat):Int)).sign=CQ a b:=by
  have h1:=Rat.lt_iff a b
  have h2:=@Rat.eq_iff_mul_eq_mul a b
  unfold CQ
  split
  · rename_i h;exact Int.sign_eq_neg_one_of_neg (by have:=h1.1 h;omega)
  · rename_i h
    split
    · rename_i h';rw [h2.1 h'];simp
    · rename_i h'
      have h3:¬a.num*((b.den:Nat):Int)<b.num*((a.den:Nat):Int):=λe=>h (h1.2 e)
      have h4:¬a.num*((b.den:Nat):Int)=b.num*((a.den:Nat):Int):=λe=>h' (h2.2 e)
      exact Int.sign_eq_one_of_pos (by omega)
theorem R0 {a b:Rat} (h:a.den-1=b.den-1):(a.num-b.num).sign=CQ a b:=by
  rw [<-KD,<-OV h,<-Int.sub_mul,Int.sign_mul]
  have:=a.den_pos
  rw [show ((a.den:Nat):Int).sign=1 from Int.sign_eq_one_of_pos (by omega)]
  simp
theorem C9 {a b:Rat}:CQ a b<0↔a<b:=by
  unfold CQ;split
  · simp [*]
  · split<;>simp [*]
theorem QP {a b:Rat}:CQ a b=0↔a=b:=by
  unfold CQ;split
  · rename_i h
    constructor
    · intro e;cases e
    · intro e;subst e;exact absurd h (by simp)
  · split<;>simp [*]
theorem JF (q:Rat):AD q=BG q.num++AZ (q.den-1):=rfl
theorem W8 {n:Int} {d:Nat} (hd:d≠0):(mkRat n d).num=Ez (decide (n.sign<0)) (n.natAbs/Nat.gcd n.natAbs d):=by
  rw [Rat.num_mkRat,if_neg hd,Nat.gcd_comm]
  unfold Ez
  by_cases h:n<0
  · rw [Int.sign_eq_neg_one_of_neg h]
    have e:n = -((n.natAbs:Nat):Int):=by omega
    simp only [show decide ((-1:Int)<0)=true from rfl,if_true]
    conv=>lhs;rw [e]
    rw [Int.natAbs_neg,Int.natAbs_natCast,Int.neg_ediv_of_dvd (by rw [Int.natCast_dvd_natCast];exact Nat.gcd_dvd_left ..)]
    rfl
  · have h0:0<=n.sign:=Int.sign_nonneg_iff.2 (by omega)
    have e:n=((n.natAbs:Nat):Int):=by omega
    rw [if_neg (by simp;omega)]
    conv=>lhs;rw [e]
    rw [Int.natAbs_natCast]
    rfl
theorem WZ {n:Int} {d:Nat} (hd:d≠0):(mkRat n d).den=d/Nat.gcd n.natAbs d:=by rw [Rat.den_mkRat,if_neg hd,Nat.gcd_comm]
section
set_option maxRecDepth 100000
theorem Db (x0:Int) (x1:Nat):Instr.fill ([(0,3),(3,2)].toArray[·]?) (AD (0:Rat)).toArray [(0,.agg (BG x0).toArray),(1,.agg (AZ x1).toArray)]=some (BG x0++AZ x1).toArray:=by kernel_rfl
theorem HG (n:Int) (d:Nat) (hn:nw n.natAbs<=1099511627776) (hd:nw d<=1099511627776) (hd0:d≠0) (w:World)  :Calls Tryz.prog 70 #[(aG (BG n)),(aG (AZ d))] w (Am w (aG (AD (mkRat n d)))):=by
 have hg:Nat.gcd n.natAbs d≠0:=λh=>hd0 (Nat.eq_zero_of_gcd_eq_zero_right h)
 have hgw:nw (Nat.gcd n.natAbs d)<=nw d:=Df (Nat.gcd_le_right _ (Nat.pos_of_ne_zero hd0))
 have hqw:nw (d/Nat.gcd n.natAbs d)<=nw d:=Df (Nat.div_le_self _ _)
 have h1w:=J4
 refine Ac (args:=[(aG (BG n)),(aG (AZ d))]) Tryz.func70 rfl rfl (Ad rfl) (AG.subF (sL [0,1] rfl) (q4 (Bl (cs:=BG n) rfl λb1=>Bl (cs:=AZ d) rfl λb2=>al Dk rfl λb3=>?_)))
 refine q6 (sL [2,3,4] rfl) (rN [(0,true),(2,true),(1,false),(3,false)] [⟨4,5,47,AZ 0⟩] [(5,false)] sr (by kernel_rfl) (λ_ _ d _ _ h=>by cases d<;>exact h) (Fs rfl rfl GD rfl (H2)) rfl (Gp 2 DR rfl (Gp 1 CE rfl (CH.imp rfl λEF EL=>BU Tryz.call141 (Mu n) rfl ?_))))
 refine CH.back0 sr rfl (CH.imp rfl λEF EL=>BU Tryz.call144 (Xd n.natAbs d (by omega) (by omega)) rfl (CH.back0 sr rfl (CH.news1 λb4=>AS.imp rfl ?_)))
 refine Ap rfl Tryz.sizeOf47 rfl (AS.back (sl sr) (AS.nil (AC.subF (sL [2,3,4,5] rfl) (q1 (rN [(0,true),(2,true),(1,false),(3,false),(4,true),(5,true),(6,true),(7,true)] [⟨8,6,47,AZ 0⟩,⟨9,7,47,AZ 0⟩] [(10,false),(11,false),(12,true)] sr (by kernel_rfl) (λ_ _ d _ _ h=>by cases d<;>exact h) (Fs rfl rfl GD rfl (Fs rfl rfl GD rfl (H2))) rfl ?_)))))
 refine Gp 3 DR rfl (Gp 0 CE rfl (CH.imp rfl λEF EL=>BU Tryz.call141 (Mu n) rfl (CH.back0 sr rfl (CH.imp rfl λEF EL=>?_))))
 refine BU Tryz.call145 (O_ n.natAbs (Nat.gcd n.natAbs d) (by omega) (by omega) (by omega)) rfl (CH.back0 sr rfl (Nd rfl (Gb rfl (AT (v:=(aG (AZ (n.natAbs/(Nat.gcd n.natAbs d))))) rfl rfl) rfl (Gb rfl (AT (v:=(aG (AZ (n.natAbs%(Nat.gcd n.natAbs d))))) rfl rfl) rfl (Gb rfl (AT (v:=(Value.bool true)) rfl rfl) rfl ?_)))))
 refine CH.news2 λb5 b6=>AS.imp rfl (Ap rfl Tryz.sizeOf47 rfl (AS.back (sl (sl sr)) (AS.imp rfl (Cr rfl Tryz.sizeOf47 rfl ?_))))
 refine AS.back (sl (sl sr)) (FO rfl (AS.nil (AC.subF (sL [2,3,4,5,6] rfl) (q2 (A7 4 CE rfl ?_)))))
 refine A7 2 CE rfl (BU Tryz.call145 (O_ d (Nat.gcd n.natAbs d) (by omega) (by omega) (by omega)) rfl (AO rfl (AJ (AT (v:=(aG (AZ (d/(Nat.gcd n.natAbs d))))) rfl rfl) rfl (AJ (AT (v:=(aG (AZ (d%(Nat.gcd n.natAbs d))))) rfl rfl) rfl (AJ (AT (v:=(Value.bool true)) rfl rfl) rfl ?_)))))
 refine al GD rfl λb7=>al GD rfl λb8=>Cr rfl Tryz.sizeOf47 rfl (Ap rfl Tryz.sizeOf47 rfl (AK rfl (q6 (sL [2,3,4,5,6,9] rfl) ?_)))
 refine rC [(0,true),(1,false),(2,false),(3,true),(4,true),(5,true)] 6 [] sr (sk (sl sr)) (by kernel_rfl) (λ_ _ d _ _ h=>by cases d<;>exact h) (vE (v:=(aG (AZ (d/(Nat.gcd n.natAbs d))))) rfl (Aa (i:=1) (vs:=AZ (d/(Nat.gcd n.natAbs d))) rfl rfl CE.a CE.s rfl rfl) rfl (Cc.imp rfl (BU Tryz.call147 (Ji 1 (by omega)) rfl (Cc.back sr (Cc.imp rfl ?_)))))
 refine BU Tryz.call146 (O0 (d/(Nat.gcd n.natAbs d)) 1 (by omega) (by omega)) rfl (Cc.back sr (vM rfl rfl rfl (vE rfl (AT (v:=(aG (AZ ((d/(Nat.gcd n.natAbs d))-1)))) rfl rfl) rfl (vE rfl (AT (v:=(Value.bool (decide (1<=d/(Nat.gcd n.natAbs d))))) rfl rfl) rfl (Cc.cut rfl ?_)))))
 refine Cr rfl Tryz.sizeOf47 rfl (AS.back (sk (sl sr)) (AS.nil (AC.subF (sL [2,3,4,5,6,9] rfl) (q1 (Cq [(0,true),(3,true),(5,true),(1,false),(2,true),(4,false),(6,true),(7,false)] (sk (sk (sk (sk (sk (sl sr)))))) ?_)))))
 refine Fz 6 DR rfl (Fz 2 CE rfl (Fz 1 CE rfl (AS.imp rfl (BU Tryz.call137 (K4 n) rfl (AS.back (sk (sk (sk (sk (sk (sl sr)))))) ?_)))))
 refine Av rfl (Af (c:=(decide (n.sign<(0:Int)))) rfl rfl rfl) (AS.imp rfl (BU Tryz.call140 (EH (decide (n.sign<(0:Int))) (n.natAbs/(Nat.gcd n.natAbs d))) rfl (AS.back (sk (sk (sk (sk (sk (sl sr)))))) (Av (v:=(aG (BG (Ez (decide (n.sign<(0:Int))) (n.natAbs/(Nat.gcd n.natAbs d)))++AZ ((d/(Nat.gcd n.natAbs d))-1)))) rfl (AY (zs:=AD (0:Rat)) (vs:=BG (Ez (decide (n.sign<(0:Int))) (n.natAbs/(Nat.gcd n.natAbs d)))++AZ ((d/(Nat.gcd n.natAbs d))-1)) (pv:=[(0,(aG (BG (Ez (decide (n.sign<(0:Int))) (n.natAbs/(Nat.gcd n.natAbs d)))))),(1,(aG (AZ ((d/(Nat.gcd n.natAbs d))-1))))]) (places:=[(0,3),(3,2)]) Tryz.zeroValue53 Tryz.underlying53 (λw=>by simp [Tryz.sizeOf47,Tryz.sizeOf51]) rfl (Db (Ez (decide (n.sign<(0:Int))) (n.natAbs/(Nat.gcd n.natAbs d))) ((d/(Nat.gcd n.natAbs d))-1))) (AS.imp rfl ?_)))))
 exact GK 5 (off:=0) (vs:=BG (Ez (decide (n.sign<(0:Int))) (n.natAbs/(Nat.gcd n.natAbs d)))++AZ ((d/(Nat.gcd n.natAbs d))-1)) (cs':=BG (Ez (decide (n.sign<(0:Int))) (n.natAbs/(Nat.gcd n.natAbs d)))++AZ ((d/(Nat.gcd n.natAbs d))-1)) (AN rfl) rfl Tryz.sizeOf53 rfl (AS.back (sk (sk (sk (sk (sk (sl sr)))))) (AS.nil (AC.subF (sL [2,3,4,5,6,9] rfl) (AC.then_ (AG.ret (AR rfl (Ay (i:=5) (cs:=BG (Ez (decide (n.sign<(0:Int))) (n.natAbs/(Nat.gcd n.natAbs d)))++AZ ((d/(Nat.gcd n.natAbs d))-1)) rfl rfl Tryz.isAgg53 Tryz.sizeOf53 rfl) (λw hw=>⟨by rw [JF,W8 hd0,WZ hd0],hw.out⟩)))))))
theorem Hi (x0:Int):Instr.fill ([(0,3),(3,2)].toArray[·]?) (AD (0:Rat)).toArray [(0,.agg (BG x0).toArray)]=some (BG x0++AZ ((0:Rat).den-1)).toArray:=by kernel_rfl
theorem Jz (n:Int) (w:World)  :Calls Tryz.prog 68 #[(aG (BG n))] w (Am w (aG (AD ((n:Int):Rat)))):=by
 refine Ac (args:=[(aG (BG n))]) Tryz.func68 rfl rfl (Ad rfl) (AG.subF (sL [0] rfl) (q4 (Bl (cs:=BG n) rfl λb1=>al Dk rfl λb2=>q3 (sL [1,2] rfl) ?_)))
 refine A7 1 DR rfl (AJ (v:=(aG (BG n++AZ ((0:Rat).den-1)))) (AY (zs:=AD (0:Rat)) (vs:=BG n++AZ ((0:Rat).den-1)) (pv:=[(0,(aG (BG n)))]) (places:=[(0,3),(3,2)]) Tryz.zeroValue53 Tryz.underlying53 (λw=>by simp [Tryz.sizeOf47,Tryz.sizeOf51]) rfl (Hi n)) rfl (Ap rfl Tryz.sizeOf53 rfl (AF.nil (AC.subF (sL [2] rfl) (AC.then_ ?_)))))
 exact AG.ret (AR rfl (Ay (i:=0) (cs:=BG n++AZ ((0:Rat).den-1)) rfl rfl Tryz.isAgg53 Tryz.sizeOf53 rfl) (λw hw=>⟨rfl,hw.out⟩))
theorem LT  :Instr.fill ([(0,1),(1,1)].toArray[·]?) (AZ 0).toArray []=some (AZ 0).toArray:=by kernel_rfl
theorem ID (a:Rat) (w:World)  :Calls Tryz.prog 67 #[(aG (AD a))] w (Am w (Value.bool (decide (a.den-1=0)))):=by
 refine Ac (args:=[(aG (AD a))]) Tryz.func67 rfl rfl (Ad rfl) (AG.subF (sL [0] rfl) (q4 (Bl (cs:=AD a) rfl λb1=>AK rfl (q3 (sL [1,2] rfl) ?_))))
 refine AJ (v:=(pP b1 3)) (AA rfl Tryz.underlying53 rfl Tryz.sizeOf47 rfl) rfl (EU 0 (AZ (a.den-1)) CE rfl (AJ (v:=(aG (AZ 0))) (AY (zs:=AZ 0) (vs:=AZ 0) (pv:=[]) (places:=[(0,1),(1,1)]) Tryz.zeroValue47 Tryz.underlying47 (λw=>by simp [Tryz.sizeOf9,Tryz.sizeOf45]) rfl (LT )) rfl (AJ (Bj (c:=(decide (a.den-1=0))) rfl rfl Tryz.eqGuardType47 (G1 9998 (a.den-1) 0)) rfl (AK rfl (AF.nil ?_)))))
 exact AC.subF (sL [2] rfl) (AC.then_ (AG.ret (AR rfl (Ai (v:=(Value.bool (decide (a.den-1=0)))) rfl) (λw hw=>⟨rfl,hw.out⟩))))
theorem Hg (a:Rat) (ha:nw a.den<=1099511627776) (w:World)  :Calls Tryz.prog 72 #[(aG (AD a))] w (Am w (aG (AZ a.den))):=by
 have h1w:=J4
 have h2w:=Df (Nat.sub_le a.den 1)
 refine Ac (args:=[(aG (AD a))]) Tryz.func72 rfl rfl (Ad rfl) (AG.subF (sL [0] rfl) (q4 (Bl (cs:=AD a) rfl λb1=>al GD rfl λb2=>q6 (sL [1,2] rfl) ?_)))
 refine Cq [(0,true),(1,true),(2,false),(3,false),(4,false)] (sl sr) (Av (v:=(pP b1 3)) rfl (AA rfl Tryz.underlying53 rfl Tryz.sizeOf47 rfl) (Fk 0 (AZ (a.den-1)) CE rfl (AS.imp rfl (BU Tryz.call147 (Ji 1 (by omega)) rfl (AS.back (sl sr) ?_)))))
 refine AS.imp rfl (BU Tryz.call151 (TF (a.den-1) 1 (by omega) (by omega)) rfl (AS.back (sl sr) (AS.imp rfl (Ap rfl Tryz.sizeOf47 rfl (AS.back (sl sr) ?_)))))
 exact AS.nil (AC.subF (sL [2] rfl) (AC.then_ (AG.ret (AR rfl (Ay (i:=0) (cs:=AZ ((a.den-1)+1)) rfl rfl Tryz.isAgg47 Tryz.sizeOf47 rfl) (λw hw=>⟨by rw [Nat.sub_add_cancel a.den_pos],hw.out⟩)))))
theorem G9 (a:Rat) (ha:nw a.den<=1099511627776) (w:World)  :Calls Tryz.prog 83 #[(aG (AD a))] w (Am w (aG (BG ((a.den:Nat):Int)))):=by
 refine Ac (args:=[(aG (AD a))]) Tryz.func83 rfl rfl (Ad rfl) (AG.subF (sL [0] rfl) (q4 (Bl (cs:=AD a) rfl λb1=>al JQ rfl λb2=>q3 (sL [1,2] rfl) ?_)))
 refine A7 1 BO rfl (BU Tryz.call72 (Hg a (by omega)) rfl (BU Tryz.call140 (EH false a.den) rfl (Ap rfl Tryz.sizeOf51 rfl (AF.nil (AC.subF (sL [2] rfl) ?_)))))
 exact AC.then_ (AG.ret (AR rfl (Ay (i:=0) (cs:=BG (Ez false a.den)) rfl rfl Tryz.isAgg51 Tryz.sizeOf51 rfl) (λw hw=>⟨rfl,hw.out⟩)))
theorem Vj (a:Rat) (w:World)  :Calls Tryz.prog 169 #[(aG (AD a))] w (Am w (aG (AD (-a)))):=by
 refine Ac (args:=[(aG (AD a))]) Tryz.func169 rfl rfl (Ad rfl) (AG.subF (sL [0] rfl) (q4 (Bl (cs:=AD a) rfl λb1=>al Dk rfl λb2=>q6 (sL [1,2] rfl) ?_)))
 refine Cq [(0,true),(1,true),(3,true),(4,true),(2,false),(5,true),(6,false)] (sl sr) (Av (v:=(pP b1 0)) rfl (AA rfl Tryz.underlying53 rfl Tryz.sizeOf51 rfl) (Fk 0 (BG a.num) DR rfl (Av (v:=(pP b1 3)) rfl (AA rfl Tryz.underlying53 rfl Tryz.sizeOf47 rfl) (Fk 0 (AZ (a.den-1)) CE rfl (AS.imp rfl ?_)))))
 refine BU Tryz.call201 (QI a.num) rfl (AS.back (sl sr) (Av (v:=(aG (BG (-a.num)++AZ (a.den-1)))) rfl (AY (zs:=AD (0:Rat)) (vs:=BG (-a.num)++AZ (a.den-1)) (pv:=[(0,(aG (BG (-a.num)))),(1,(aG (AZ (a.den-1))))]) (places:=[(0,3),(3,2)]) Tryz.zeroValue53 Tryz.underlying53 (λw=>by simp [Tryz.sizeOf47,Tryz.sizeOf51]) rfl (Db (-a.num) (a.den-1))) (AS.imp rfl (Ap rfl Tryz.sizeOf53 rfl (AS.back (sl sr) ?_)))))
 exact AS.nil (AC.subF (sL [2] rfl) (AC.then_ (AG.ret (AR rfl (Ay (i:=0) (cs:=BG (-a.num)++AZ (a.den-1)) rfl rfl Tryz.isAgg53 Tryz.sizeOf53 rfl) (λw hw=>⟨by rw [JF,Rat.neg_num,Rat.neg_den],hw.out⟩)))))
theorem EQ (a:Rat) (w:World)  :Calls Tryz.prog 63 #[(aG (AD a))] w (Am w (vI a.num.sign)):=by
 refine Ac (args:=[(aG (AD a))]) Tryz.func63 rfl rfl (Ad rfl) (AG.subF (sL [0] rfl) (q4 (Bl (cs:=AD a) rfl λb1=>AK rfl (q3 (sL [1,2] rfl) ?_))))
 refine AJ (v:=(pP b1 0)) (AA rfl Tryz.underlying53 rfl Tryz.sizeOf51 rfl) rfl (EU 0 (BG a.num) DR rfl (BU Tryz.call137 (K4 a.num) rfl (AK rfl (AF.nil (AC.subF (sL [2] rfl) ?_)))))
 exact AC.then_ (AG.ret (AR rfl (Ai (v:=(vI a.num.sign)) rfl) (λw hw=>⟨rfl,hw.out⟩)))
theorem GN (a b:Rat) (hs:Sz a+Sz b<=549755813888) (w:World)  :Calls Tryz.prog 33 #[(aG (AD a)),(aG (AD b))] w (Am w (vI (CQ a b))):=by
 have s1:=Eh a
 have s2:=EB a
 have s3:=Eh b
 have s4:=EB b
 have s5:=Dd a b
 have s6:=Dd b a
 have s7:=IZ a b
 have s8:=Ks a b
 have s9:=En a.num b.num
 have s10:=En (a.num*((b.den:Nat):Int)) (b.num*((a.den:Nat):Int))
 have hda:=a.den_nz
 have hdb:=b.den_nz
 have hdab:a.den*b.den≠0:=Nat.mul_ne_zero hda hdb
 refine Ac (args:=[(aG (AD a)),(aG (AD b))]) Tryz.func33 rfl rfl (Ad rfl) (AG.subF (sL [0,1] rfl) (q4 (Bl (cs:=AD a) rfl λb1=>Bl (cs:=AD b) rfl λb2=>AK rfl ?_)))
 refine q6 (sL [2,3,4] rfl) (q4 (AJ (v:=(pP b1 3)) (AA rfl Tryz.underlying53 rfl Tryz.sizeOf47 rfl) rfl (EU 1 (AZ (a.den-1)) CE rfl (AJ (v:=(pP b2 3)) (AA rfl Tryz.underlying53 rfl Tryz.sizeOf47 rfl) rfl (EU 0 (AZ (b.den-1)) CE rfl ?_)))))
 refine AJ (Bj (c:=(decide (a.den-1=b.den-1))) rfl rfl Tryz.eqGuardType47 (G1 9998 (a.den-1) (b.den-1))) rfl (AF.nil (AC.subF (sL [2,3,4,9] rfl) (AC.then_ ?_)))
 refine AG.cond rfl (λhc0=>?_) (λhc0=>?_)
 ·replace hc0:=of_decide_eq_true hc0
  have he:=R0 hc0
  refine q4 (AJ (v:=(pP b1 0)) (AA rfl Tryz.underlying53 rfl Tryz.sizeOf51 rfl) rfl (EU 1 (BG a.num) DR rfl (AJ (v:=(pP b2 0)) (AA rfl Tryz.underlying53 rfl Tryz.sizeOf51 rfl) rfl (EU 0 (BG b.num) DR rfl (BU Tryz.call94 (QA a.num b.num (by first|omega|(simp only [Int.natAbs_neg,BA,Int.natAbs_natCast];omega)) (by first|omega|(simp only [Int.natAbs_neg,BA,Int.natAbs_natCast];omega))) rfl ?_)))))
  exact AK rfl (AF.nil (AC.subF (sL [2,3,4] rfl) (AC.then_ (AG.ret (AC.then_ret (AR rfl (Ai (v:=(vI ((a.num-b.num).sign))) rfl) (λw hw=>⟨by rw [he],hw.out⟩)))))))
 ·replace hc0:=of_decide_eq_false hc0
  have he:=KD a b
  refine AG.skip (q1 (Cq [(0,true),(1,true),(2,true),(5,true),(6,true),(7,true),(3,false),(4,false),(8,false),(9,false),(10,false),(11,true)] sr (Av (v:=(pP b1 0)) rfl (AA rfl Tryz.underlying53 rfl Tryz.sizeOf51 rfl) (Fk 1 (BG a.num) DR rfl (Fz 0 BO rfl ?_)))))
  refine Av (v:=(pP b2 0)) rfl (AA rfl Tryz.underlying53 rfl Tryz.sizeOf51 rfl) (Fk 0 (BG b.num) DR rfl (Fz 1 BO rfl (AS.imp rfl (BU Tryz.call83 (G9 b (by omega)) rfl (AS.back sr ?_)))))
  refine AS.imp rfl (BU Tryz.call69 (Gy a.num ((b.den:Nat):Int) (by first|omega|(simp only [Int.natAbs_neg,BA,Int.natAbs_natCast];omega)) (by first|omega|(simp only [Int.natAbs_neg,BA,Int.natAbs_natCast];omega))) rfl (AS.back sr (AS.imp rfl (BU Tryz.call83 (G9 a (by omega)) rfl (AS.back sr ?_)))))
  refine AS.imp rfl (BU Tryz.call69 (Gy b.num ((a.den:Nat):Int) (by first|omega|(simp only [Int.natAbs_neg,BA,Int.natAbs_natCast];omega)) (by first|omega|(simp only [Int.natAbs_neg,BA,Int.natAbs_natCast];omega))) rfl (AS.back sr (AS.imp rfl (BU Tryz.call94 (QA (a.num*((b.den:Nat):Int)) (b.num*((a.den:Nat):Int)) (by first|omega|(simp only [Int.natAbs_neg,BA,Int.natAbs_natCast];omega)) (by first|omega|(simp only [Int.natAbs_neg,BA,Int.natAbs_natCast];omega))) rfl (AS.back sr ?_)))))
  exact FO rfl (AS.nil (AC.subF (sL [2,3,4] rfl) (AC.then_ (AG.ret (AR rfl (Ai (v:=(vI (((a.num*((b.den:Nat):Int))-(b.num*((a.den:Nat):Int))).sign))) rfl) (λw hw=>⟨by rw [he],hw.out⟩))))))
theorem H8 (a b:Rat) (hs:Sz a+Sz b<=549755813888) (w:World)  :Calls Tryz.prog 29 #[(aG (AD a)),(aG (AD b))] w (Am w (aG (AD (a+b)))):=by
 have s1:=Eh a
 have s2:=EB a
 have s3:=Eh b
 have s4:=EB b
 have s5:=Dd a b
 have s6:=Dd b a
 have s7:=IZ a b
 have s8:=Ks a b
 have s9:=En a.num b.num
 have s10:=En (a.num*((b.den:Nat):Int)) (b.num*((a.den:Nat):Int))
 have hda:=a.den_nz
 have hdb:=b.den_nz
 have hdab:a.den*b.den≠0:=Nat.mul_ne_zero hda hdb
 refine Ac (args:=[(aG (AD a)),(aG (AD b))]) Tryz.func29 rfl rfl (Ad rfl) (AG.subF (sL [0,1] rfl) (q4 (Bl (cs:=AD a) rfl λb1=>Bl (cs:=AD b) rfl λb2=>al Dk rfl λb3=>?_)))
 refine q6 (sL [2,3,4] rfl) (AG.block (q4 (A7 2 BO rfl (BU Tryz.call67 (ID a) rfl (AO rfl ?_)))))
 refine AF.mid (FM:=[(2,(pP b1 0)),(3,(pP b2 0)),(4,(pP b3 0)),(6,(aG (AD a))),(7,(Value.bool (decide (a.den-1=0)))),(8,(Value.bool (decide (a.den-1=0)))),(11,(Value.bool ((decide (a.den-1=0))&&(decide (b.den-1=0)))))]) (LM:=[Ah b3 53 (AD (0:Rat)),Ah b2 53 (AD b),Ah b1 53 (AD a)]) 3 ?_ ?_
 ·rcases Bool.eq_false_or_eq_true (decide (a.den-1=0)) with hg1|hg1
  ·skip
   refine AF.retell (k:=8) (u:=Value.bool true) rfl (by rw [hg1]) ?_
   have hg1':=hg1
   replace hg1':=of_decide_eq_true hg1'
   exact AF.step (v:=(aG (AD b))) (AB rfl) (Aa (i:=1) (vs:=AD b) rfl rfl BO.a BO.s rfl rfl) rfl (Ad rfl) (AF.call (v:=(Value.bool (decide (b.den-1=0)))) (AB rfl) (Aq (args:=[(aG (AD b))]) rfl rfl Tryz.call67) (λw hw=>ID b w) rfl (Ad rfl) (AJ (v:=(Value.bool (decide (b.den-1=0)))) (Aj rfl rfl) rfl (AF.nil (AC.mid (sS rfl (sS rfl (sS rfl (sS rfl (sS rfl (sS (by first|rfl|(rw [hg1];rfl)|rw [hg1]) (sS (by first|rfl|(rw [hg1];rfl)|rw [hg1]) (sN)))))))) (List.Sublist.refl _)))))
  ·skip
   refine AF.retell (k:=8) (u:=Value.bool false) rfl (by rw [hg1]) ?_
   have hg1':=hg1
   replace hg1':=of_decide_eq_false hg1'
   exact AF.skip (AP rfl) rfl (Ad rfl) (AF.skip (AP rfl) rfl (Ad rfl) (AJ (v:=(Value.bool false)) (AV rfl rfl) rfl (AF.nil (AC.mid (sS rfl (sS rfl (sS rfl (sS rfl (sS rfl (sS (by first|rfl|(rw [hg1];rfl)|rw [hg1]) (sS (by first|rfl|(rw [hg1];rfl)|rw [hg1]) (sN)))))))) (List.Sublist.refl _)))))
 refine AK rfl (AF.nil (AC.subF (sL [2,3,4,5] rfl) (AC.then_ ?_)))
 refine AG.cond rfl (λhc0=>?_) (λhc0=>?_)
 ·simp only [Bool.and_eq_true,Bool.or_eq_true,Bool.and_eq_false_iff,Bool.or_eq_false_iff,Bool.not_eq_true',Bool.not_eq_false',decide_eq_true_eq,decide_eq_false_iff_not] at hc0
  have he:=Q2 hc0.1 hc0.2
  refine q4 (AJ (v:=(pP b1 0)) (AA rfl Tryz.underlying53 rfl Tryz.sizeOf51 rfl) rfl (EU 2 (BG a.num) DR rfl (AJ (v:=(pP b2 0)) (AA rfl Tryz.underlying53 rfl Tryz.sizeOf51 rfl) rfl (EU 1 (BG b.num) DR rfl (BU Tryz.call82 (Mf a.num b.num (by first|omega|(simp only [Int.natAbs_neg,BA,Int.natAbs_natCast];omega)) (by first|omega|(simp only [Int.natAbs_neg,BA,Int.natAbs_natCast];omega))) rfl ?_)))))
  refine BU Tryz.call68 (Jz (a.num+b.num)) rfl (Ap rfl Tryz.sizeOf53 rfl (AF.nil (AC.subF (sL [2,3,4] rfl) (AC.then_ (AG.ret ?_)))))
  exact AC.in_ret (AC.then_ret (AR rfl (Ay (i:=0) (cs:=AD ((a.num+b.num:Int):Rat)) rfl rfl Tryz.isAgg53 Tryz.sizeOf53 rfl) (λw hw=>⟨by rw [he],hw.out⟩)))
 ·simp only [Bool.and_eq_true,Bool.or_eq_true,Bool.and_eq_false_iff,Bool.or_eq_false_iff,Bool.not_eq_true',Bool.not_eq_false',decide_eq_true_eq,decide_eq_false_iff_not] at hc0
  have he:=Ls a b
  refine q4 (AJ (v:=(pP b1 3)) (AA rfl Tryz.underlying53 rfl Tryz.sizeOf47 rfl) rfl (EU 2 (AZ (a.den-1)) CE rfl (AJ (v:=(pP b2 3)) (AA rfl Tryz.underlying53 rfl Tryz.sizeOf47 rfl) rfl (EU 1 (AZ (b.den-1)) CE rfl (AJ (Bj (c:=(decide (a.den-1=b.den-1))) rfl rfl Tryz.eqGuardType47 (G1 9998 (a.den-1) (b.den-1))) rfl ?_)))))
  refine AK rfl (AF.nil (AC.subF (sL [2,3,4,18] rfl) (AC.then_ ?_)))
  refine AG.cond rfl (λhc1=>?_) (λhc1=>?_)
  ·replace hc1:=of_decide_eq_true hc1
   have he:=UY hc1
   refine AG.seq (Cq [(0,true),(1,true),(2,true),(3,true),(5,true),(4,false),(6,false),(7,false),(8,false)] (sl sr) (Av (v:=(pP b1 0)) rfl (AA rfl Tryz.underlying53 rfl Tryz.sizeOf51 rfl) (Fk 1 (BG a.num) DR rfl (Av (v:=(pP b2 0)) rfl (AA rfl Tryz.underlying53 rfl Tryz.sizeOf51 rfl) (Fk 0 (BG b.num) DR rfl ?_)))))
   refine Fz 1 BO rfl (AS.imp rfl (BU Tryz.call82 (Mf a.num b.num (by first|omega|(simp only [Int.natAbs_neg,BA,Int.natAbs_natCast];omega)) (by first|omega|(simp only [Int.natAbs_neg,BA,Int.natAbs_natCast];omega))) rfl (AS.back (sl sr) (AS.imp rfl (BU Tryz.call72 (Hg a (by omega)) rfl ?_)))))
   refine AS.back (sl sr) (AS.imp rfl (BU Tryz.call70 (HG (a.num+b.num) a.den (by omega) (by omega) (by first|omega|assumption)) rfl (AS.back (sl sr) (AS.imp rfl (Ap rfl Tryz.sizeOf53 rfl ?_)))))
   refine AS.back (sl sr) (AS.nil (AC.subF (sL [2,3,4] rfl) (AC.then_ (AG.ret (AC.in_ret ?_)))))
   exact AC.then_ret (AR rfl (Ay (i:=0) (cs:=AD (mkRat (a.num+b.num) a.den)) rfl rfl Tryz.isAgg53 Tryz.sizeOf53 rfl) (λw hw=>⟨by rw [he],hw.out⟩))
  ·replace hc1:=of_decide_eq_false hc1
   refine AG.skip (AC.in_normal (q1 (Cq [(0,true),(1,true),(2,true),(5,true),(6,true),(7,true),(11,true),(13,true),(3,false),(4,false),(8,false),(9,false),(10,false),(12,false),(14,false),(15,false),(16,false),(17,false)] (sl sr) (Av (v:=(pP b1 0)) rfl (AA rfl Tryz.underlying53 rfl Tryz.sizeOf51 rfl) (Fk 1 (BG a.num) DR rfl ?_)))))
   refine Fz 0 BO rfl (Av (v:=(pP b2 0)) rfl (AA rfl Tryz.underlying53 rfl Tryz.sizeOf51 rfl) (Fk 0 (BG b.num) DR rfl (Fz 1 BO rfl (Fz 1 BO rfl (Fz 0 BO rfl ?_)))))
   refine AS.imp rfl (BU Tryz.call83 (G9 b (by omega)) rfl (AS.back (sl sr) (AS.imp rfl (BU Tryz.call69 (Gy a.num ((b.den:Nat):Int) (by first|omega|(simp only [Int.natAbs_neg,BA,Int.natAbs_natCast];omega)) (by first|omega|(simp only [Int.natAbs_neg,BA,Int.natAbs_natCast];omega))) rfl (AS.back (sl sr) ?_)))))
   refine AS.imp rfl (BU Tryz.call83 (G9 a (by omega)) rfl (AS.back (sl sr) (AS.imp rfl (BU Tryz.call69 (Gy b.num ((a.den:Nat):Int) (by first|omega|(simp only [Int.natAbs_neg,BA,Int.natAbs_natCast];omega)) (by first|omega|(simp only [Int.natAbs_neg,BA,Int.natAbs_natCast];omega))) rfl (AS.back (sl sr) ?_)))))
   refine AS.imp rfl (BU Tryz.call82 (Mf (a.num*((b.den:Nat):Int)) (b.num*((a.den:Nat):Int)) (by first|omega|(simp only [Int.natAbs_neg,BA,Int.natAbs_natCast];omega)) (by first|omega|(simp only [Int.natAbs_neg,BA,Int.natAbs_natCast];omega))) rfl (AS.back (sl sr) (AS.imp rfl (BU Tryz.call72 (Hg a (by omega)) rfl (AS.back (sl sr) ?_)))))
   refine AS.imp rfl (BU Tryz.call72 (Hg b (by omega)) rfl (AS.back (sl sr) (AS.imp rfl (BU Tryz.call71 (PO a.den b.den (by omega) (by omega)) rfl (AS.back (sl sr) ?_)))))
   refine AS.imp rfl (BU Tryz.call70 (HG ((a.num*((b.den:Nat):Int))+(b.num*((a.den:Nat):Int))) (a.den*b.den) (by omega) (by omega) (by first|omega|assumption)) rfl (AS.back (sl sr) (AS.imp rfl (Ap rfl Tryz.sizeOf53 rfl (AS.back (sl sr) ?_)))))
   exact AS.nil (AC.subF (sL [2,3,4] rfl) (AC.then_ (AG.ret (AR rfl (Ay (i:=0) (cs:=AD (mkRat ((a.num*((b.den:Nat):Int))+(b.num*((a.den:Nat):Int))) (a.den*b.den))) rfl rfl Tryz.isAgg53 Tryz.sizeOf53 rfl) (λw hw=>⟨by rw [he],hw.out⟩)))))
theorem NB (a b:Rat) (hs:Sz a+Sz b<=549755813888) (w:World)  :Calls Tryz.prog 111 #[(aG (AD a)),(aG (AD b))] w (Am w (aG (AD (a-b)))):=by
 refine Ac (args:=[(aG (AD a)),(aG (AD b))]) Tryz.func111 rfl rfl (Ad rfl) (AG.subF (sL [0,1] rfl) (q4 (Bl (cs:=AD a) rfl λb1=>Bl (cs:=AD b) rfl λb2=>al Dk rfl λb3=>?_)))
 refine q6 (sL [2,3,4] rfl) (Cq [(0,true),(1,true),(2,false),(3,false),(4,false)] (sl sr) (Fz 1 BO rfl (Fz 0 BO rfl (AS.imp rfl (BU Tryz.call169 (Vj b) rfl ?_)))))
 refine AS.back (sl sr) (AS.imp rfl ?_)
 have hz1:=GE a (-b)
 refine BU Tryz.call29 (H8 a (-b) (by (try simp only [DS]);omega)) rfl (AS.back (sl sr) (AS.imp rfl (Ap rfl Tryz.sizeOf53 rfl (AS.back (sl sr) (AS.nil ?_)))))
 exact AC.subF (sL [4] rfl) (AC.then_ (AG.ret (AR rfl (Ay (i:=0) (cs:=AD (a+(-b))) rfl rfl Tryz.isAgg53 Tryz.sizeOf53 rfl) (λw hw=>⟨by rw [Rat.sub_eq_add_neg],hw.out⟩))))
theorem FX (a b:Rat) (hs:Sz a+Sz b<=549755813888) (w:World)  :Calls Tryz.prog 24 #[(aG (AD a)),(aG (AD b))] w (Am w (aG (AD (a*b)))):=by
 have s1:=Eh a
 have s2:=EB a
 have s3:=Eh b
 have s4:=EB b
 have s5:=Dd a b
 have s6:=Dd b a
 have s7:=IZ a b
 have s8:=Ks a b
 have s9:=En a.num b.num
 have s10:=En (a.num*((b.den:Nat):Int)) (b.num*((a.den:Nat):Int))
 have hda:=a.den_nz
 have hdb:=b.den_nz
 have hdab:a.den*b.den≠0:=Nat.mul_ne_zero hda hdb
 refine Ac (args:=[(aG (AD a)),(aG (AD b))]) Tryz.func24 rfl rfl (Ad rfl) (AG.subF (sL [0,1] rfl) (q4 (Bl (cs:=AD a) rfl λb1=>Bl (cs:=AD b) rfl λb2=>al Dk rfl λb3=>?_)))
 refine q6 (sL [2,3,4] rfl) (q4 (A7 2 BO rfl (BU Tryz.call67 (ID a) rfl (AO rfl ?_))))
 refine AF.mid (FM:=[(2,(pP b1 0)),(3,(pP b2 0)),(4,(pP b3 0)),(5,(aG (AD a))),(6,(Value.bool (decide (a.den-1=0)))),(7,(Value.bool (decide (a.den-1=0)))),(10,(Value.bool ((decide (a.den-1=0))&&(decide (b.den-1=0)))))]) (LM:=[Ah b3 53 (AD (0:Rat)),Ah b2 53 (AD b),Ah b1 53 (AD a)]) 3 ?_ ?_
 ·rcases Bool.eq_false_or_eq_true (decide (a.den-1=0)) with hg1|hg1
  ·skip
   refine AF.retell (k:=7) (u:=Value.bool true) rfl (by rw [hg1]) ?_
   have hg1':=hg1
   replace hg1':=of_decide_eq_true hg1'
   exact AF.step (v:=(aG (AD b))) (AB rfl) (Aa (i:=1) (vs:=AD b) rfl rfl BO.a BO.s rfl rfl) rfl (Ad rfl) (AF.call (v:=(Value.bool (decide (b.den-1=0)))) (AB rfl) (Aq (args:=[(aG (AD b))]) rfl rfl Tryz.call67) (λw hw=>ID b w) rfl (Ad rfl) (AJ (v:=(Value.bool (decide (b.den-1=0)))) (Aj rfl rfl) rfl (AF.nil (AC.mid (sS rfl (sS rfl (sS rfl (sS rfl (sS rfl (sS (by first|rfl|(rw [hg1];rfl)|rw [hg1]) (sS (by first|rfl|(rw [hg1];rfl)|rw [hg1]) (sN)))))))) (List.Sublist.refl _)))))
  ·skip
   refine AF.retell (k:=7) (u:=Value.bool false) rfl (by rw [hg1]) ?_
   have hg1':=hg1
   replace hg1':=of_decide_eq_false hg1'
   exact AF.skip (AP rfl) rfl (Ad rfl) (AF.skip (AP rfl) rfl (Ad rfl) (AJ (v:=(Value.bool false)) (AV rfl rfl) rfl (AF.nil (AC.mid (sS rfl (sS rfl (sS rfl (sS rfl (sS rfl (sS (by first|rfl|(rw [hg1];rfl)|rw [hg1]) (sS (by first|rfl|(rw [hg1];rfl)|rw [hg1]) (sN)))))))) (List.Sublist.refl _)))))
 refine AF.nil (AC.subF (sL [2,3,4,10] rfl) (AC.then_ ?_))
 refine AG.cond rfl (λhc0=>?_) (λhc0=>?_)
 ·simp only [Bool.and_eq_true,Bool.or_eq_true,Bool.and_eq_false_iff,Bool.or_eq_false_iff,Bool.not_eq_true',Bool.not_eq_false',decide_eq_true_eq,decide_eq_false_iff_not] at hc0
  have he:=Q0 hc0.1 hc0.2
  refine q4 (AJ (v:=(pP b1 0)) (AA rfl Tryz.underlying53 rfl Tryz.sizeOf51 rfl) rfl (EU 2 (BG a.num) DR rfl (AJ (v:=(pP b2 0)) (AA rfl Tryz.underlying53 rfl Tryz.sizeOf51 rfl) rfl (EU 1 (BG b.num) DR rfl (BU Tryz.call69 (Gy a.num b.num (by first|omega|(simp only [Int.natAbs_neg,BA,Int.natAbs_natCast];omega)) (by first|omega|(simp only [Int.natAbs_neg,BA,Int.natAbs_natCast];omega))) rfl ?_)))))
  refine BU Tryz.call68 (Jz (a.num*b.num)) rfl (Ap rfl Tryz.sizeOf53 rfl (AF.nil (AC.subF (sL [2,3,4] rfl) (AC.then_ (AG.ret ?_)))))
  exact AC.then_ret (AR rfl (Ay (i:=0) (cs:=AD ((a.num*b.num:Int):Rat)) rfl rfl Tryz.isAgg53 Tryz.sizeOf53 rfl) (λw hw=>⟨by rw [he],hw.out⟩))
 ·simp only [Bool.and_eq_true,Bool.or_eq_true,Bool.and_eq_false_iff,Bool.or_eq_false_iff,Bool.not_eq_true',Bool.not_eq_false',decide_eq_true_eq,decide_eq_false_iff_not] at hc0
  have he:=MD a b
  refine AG.skip (q1 (Cq [(0,true),(1,true),(2,true),(3,true),(5,true),(7,true),(4,false),(6,false),(8,false),(9,false),(10,false),(11,false)] (sl sr) (Av (v:=(pP b1 0)) rfl (AA rfl Tryz.underlying53 rfl Tryz.sizeOf51 rfl) (Fk 1 (BG a.num) DR rfl (Av (v:=(pP b2 0)) rfl (AA rfl Tryz.underlying53 rfl Tryz.sizeOf51 rfl) ?_)))))
  refine Fk 0 (BG b.num) DR rfl (Fz 1 BO rfl (Fz 0 BO rfl (AS.imp rfl (BU Tryz.call69 (Gy a.num b.num (by first|omega|(simp only [Int.natAbs_neg,BA,Int.natAbs_natCast];omega)) (by first|omega|(simp only [Int.natAbs_neg,BA,Int.natAbs_natCast];omega))) rfl (AS.back (sl sr) ?_)))))
  refine AS.imp rfl (BU Tryz.call72 (Hg a (by omega)) rfl (AS.back (sl sr) (AS.imp rfl (BU Tryz.call72 (Hg b (by omega)) rfl (AS.back (sl sr) ?_)))))
  refine AS.imp rfl (BU Tryz.call71 (PO a.den b.den (by omega) (by omega)) rfl (AS.back (sl sr) (AS.imp rfl (BU Tryz.call70 (HG (a.num*b.num) (a.den*b.den) (by omega) (by omega) (by first|omega|assumption)) rfl (AS.back (sl sr) ?_)))))
  refine AS.imp rfl (Ap rfl Tryz.sizeOf53 rfl (AS.back (sl sr) (AS.nil (AC.subF (sL [2,3,4] rfl) (AC.then_ ?_)))))
  exact AG.ret (AR rfl (Ay (i:=0) (cs:=AD (mkRat (a.num*b.num) (a.den*b.den))) rfl rfl Tryz.isAgg53 Tryz.sizeOf53 rfl) (λw hw=>⟨by rw [he],hw.out⟩))
theorem G3 (a b:Rat) (hs:Sz a+Sz b<=549755813888) (hb:b≠0) (w:World)  :Calls Tryz.prog 66 #[(aG (AD a)),(aG (AD b))] w (Am w (Value.tuple #[(aG (AD (a/b))),(vI 0)])):=by
 have s1:=Eh a
 have s2:=EB a
 have s3:=Eh b
 have s4:=EB b
 have s5:=Dd a b
 have s6:=Dd b a
 have s7:=IZ a b
 have s8:=Ks a b
 have s9:=En a.num b.num
 have s10:=En (a.num*((b.den:Nat):Int)) (b.num*((a.den:Nat):Int))
 have hda:=a.den_nz
 have hdb:=b.den_nz
 have hdab:a.den*b.den≠0:=Nat.mul_ne_zero hda hdb
 have hbn:b.num≠0:=λe=>hb (Rat.num_eq_zero.1 e)
 have hbs:b.num.sign≠0:=λe=>hbn (Int.sign_eq_zero_iff_zero.1 e)
 have hmi:nw (Ez (decide (b.num.sign<(0:Int))) b.den).natAbs=nw b.den:=by rw [BA]
 have hinv:=L5 hb
 have hsi:=Sw hb
 rw [<-hinv] at hsi
 refine Ac (args:=[(aG (AD a)),(aG (AD b))]) Tryz.func66 rfl rfl (Ad rfl) (AG.subF (sL [0,1] rfl) (q4 (Bl (cs:=AD a) rfl λb1=>Bl (cs:=AD b) rfl λb2=>al Dk rfl λb3=>?_)))
 refine AK rfl (q6 (sL [2,3,4,5] rfl) (q4 (A7 1 BO rfl (BU Tryz.call63 (EQ b) rfl (AJ (Be (c:=(decide (b.num.sign=(0:Int)))) rfl rfl rfl) rfl ?_)))))
 refine AF.nil (AC.subF (sL [2,3,4,5,9] rfl) (AC.then_ ?_))
 refine AG.cond rfl (λhc0=>?_) (λhc0=>?_)
 ·replace hc0:=of_decide_eq_true hc0
  exact absurd hc0 hbs
 ·replace hc0:=of_decide_eq_false hc0
  refine AG.skip (q1 (rN [(0,true),(3,true),(6,true),(7,true),(1,false),(2,true),(4,false),(5,false),(8,false),(9,false)] [⟨10,6,53,AD (0:Rat)⟩] [(11,false)] sr (by kernel_rfl) (λ_ _ d _ _ h=>by cases d<;>exact h) (Fs rfl rfl Dk rfl (H2)) rfl (Gp 1 BO rfl (Gp 1 BO rfl (Gb (v:=(pP b2 0)) rfl (AA rfl Tryz.underlying53 rfl Tryz.sizeOf51 rfl) rfl ?_)))))
  refine SK 1 (BG b.num) DR rfl (CH.imp rfl λEF EL=>BU Tryz.call63 (EQ b) rfl (CH.back0 sr rfl (Gb rfl (Af (c:=(decide (b.num.sign<(0:Int)))) rfl rfl rfl) rfl (CH.imp rfl λEF EL=>?_))))
  refine BU Tryz.call72 (Hg b (by omega)) rfl (CH.back0 sr rfl (CH.imp rfl λEF EL=>BU Tryz.call140 (EH (decide (b.num.sign<(0:Int))) b.den) rfl (CH.back0 sr rfl (CH.imp rfl λEF EL=>?_))))
  refine BU Tryz.call141 (Mu b.num) rfl (CH.back0 sr rfl (CH.imp rfl λEF EL=>BU Tryz.call70 (HG (Ez (decide (b.num.sign<(0:Int))) b.den) b.num.natAbs (by omega) (by omega) (by first|omega|assumption)) rfl (CH.back0 sr rfl (CH.news1 λb4=>?_))))
  refine AS.imp rfl (Ap rfl Tryz.sizeOf53 rfl (AS.back (sl sr) (AS.nil (AC.subF (sL [2,3,4,5,6] rfl) (q2 ?_)))))
  refine A7 3 BO rfl (A7 0 BO rfl ?_)
  have hz1:=Cl a (mkRat (Ez (decide (b.num.sign<(0:Int))) b.den) b.num.natAbs)
  refine BU Tryz.call24 (FX a (mkRat (Ez (decide (b.num.sign<(0:Int))) b.den) b.num.natAbs) (by (try simp only [DS]);omega)) rfl (Cr rfl Tryz.sizeOf53 rfl (AK rfl (AF.nil (AC.subF (sL [3,4,5,6] rfl) (AC.then_ ?_)))))
  exact AG.ret (Ct rfl (Ay (i:=1) (cs:=AD (a*(mkRat (Ez (decide (b.num.sign<(0:Int))) b.den) b.num.natAbs))) rfl rfl Tryz.isAgg53 Tryz.sizeOf53 rfl) (Ai (v:=(vI 0)) rfl) (λw hw=>⟨by rw [hinv,Rat.div_def],hw.out⟩))
theorem LZ  :Instr.fill ([(0,3),(3,2)].toArray[·]?) (AD (0:Rat)).toArray []=some (AD (0:Rat)).toArray:=by kernel_rfl
theorem TO (a:Rat) (w:World)  :Calls Tryz.prog 66 #[(aG (AD a)),(aG (AD (0:Rat)))] w (Am w (Value.tuple #[(aG (AD (0:Rat))),(vI 5)])):=by
 refine Ac (args:=[(aG (AD a)),(aG (AD (0:Rat)))]) Tryz.func66 rfl rfl (Ad rfl) (AG.subF (sL [0,1] rfl) (q4 (Bl (cs:=AD a) rfl λb1=>Bl (cs:=AD (0:Rat)) rfl λb2=>al Dk rfl λb3=>?_)))
 refine AK rfl (q6 (sL [2,3,4,5] rfl) (q4 (A7 1 BO rfl (BU Tryz.call63 (EQ (0:Rat)) rfl (AJ (Be (c:=(decide (((0:Rat).num.sign)=(0:Int)))) rfl rfl rfl) rfl ?_)))))
 refine AF.nil (AC.subF (sL [2,3,4,5,9] rfl) (AC.then_ ?_))
 refine AG.cond rfl (λhc0=>?_) (λhc0=>?_)
 ·replace hc0:=of_decide_eq_true hc0
  refine q4 (AJ (v:=(aG (AD (0:Rat)))) (AY (zs:=AD (0:Rat)) (vs:=AD (0:Rat)) (pv:=[]) (places:=[(0,3),(3,2)]) Tryz.zeroValue53 Tryz.underlying53 (λw=>by simp [Tryz.sizeOf47,Tryz.sizeOf51]) rfl (LZ )) rfl (Ap rfl Tryz.sizeOf53 rfl (AK rfl (AF.nil (AC.subF (sL [2,3,4,5] rfl) ?_)))))
  exact AC.then_ (AG.ret (AC.then_ret (Ct rfl (Ay (i:=0) (cs:=AD (0:Rat)) rfl rfl Tryz.isAgg53 Tryz.sizeOf53 rfl) (Ai (v:=(vI 5)) rfl) (λw hw=>⟨rfl,hw.out⟩))))
 ·replace hc0:=of_decide_eq_false hc0
  exact absurd rfl hc0
theorem IG (z:Int) (hz:-9223372036854775808<=z) (hz2:z<9223372036854775808) (w:World)  :Calls Tryz.prog 25 #[(vI z)] w (Am w (aG (AD ((z:Int):Rat)))):=by
 refine Ac (args:=[(vI z)]) Tryz.func25 rfl rfl (Ad rfl) (AG.subF (sL [0] rfl) (q4 (al Dk rfl λb1=>AF.nil (q2 ?_))))
 refine AO rfl (BU Tryz.call73 (YB z (by omega) (by omega)) rfl (BU Tryz.call68 (Jz z) rfl (Ap rfl Tryz.sizeOf53 rfl (AF.nil (AC.subF (sL [2] rfl) ?_)))))
 exact AC.then_ (AG.ret (AR rfl (Ay (i:=0) (cs:=AD ((z:Int):Rat)) rfl rfl Tryz.isAgg53 Tryz.sizeOf53 rfl) (λw hw=>⟨rfl,hw.out⟩)))
end
end Go.Proofs.YtfbomiejpbchdaaGreat
