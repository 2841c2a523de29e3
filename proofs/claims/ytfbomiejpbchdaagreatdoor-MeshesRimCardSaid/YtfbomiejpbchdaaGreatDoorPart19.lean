import Derived.Test.YtfbomiejpbchdaaGreatDoorPart06
import Derived.Test.YtfbomiejpbchdaaGreatDoorPart15
import Derived.Test.YtfbomiejpbchdaaGreatDoorPart18
namespace Go.Proofs.YtfbomiejpbchdaaGreatDoor
open Go Go.RowKit Go.Proofs.Tryz
set_option linter.unusedVariables false
set_option linter.unusedSimpArgs false
def Sz (q:Rat):Nat:=max (nw q.num.natAbs) (nw q.den)
theorem Dz (q:Rat):nw q.num.natAbs<=Sz q:=Nat.le_max_left ..
theorem Dd (q:Rat):nw q.den<=Sz q:=Nat.le_max_right ..
theorem Tk {q:Rat} {k:Nat} (h1:nw q.num.natAbs<=k) (h2:nw q.den<=k):Sz q<=k:=Nat.max_le.2 ⟨h1,h2⟩
theorem I1:nw 1=1:=by decide
theorem Pq (q:Rat):1<=Sz q:=Nat.le_trans (by rw [<-I1];exact DE q.den_pos) (Dd q)
theorem Ip {n:Int} {d k:Nat} (h1:nw n.natAbs<=k) (h2:nw d<=k) (hk:1<=k):Sz (mkRat n d)<=k:=by
  refine Tk ?_ ?_
  · rw [Rat.num_mkRat]
    split
    · exact Nat.zero_le _
    · refine Nat.le_trans (DE ?_) h1
      rw [Int.natAbs_ediv_of_dvd (by rw [Int.ofNat_dvd_left];exact Nat.gcd_dvd_right ..)]
      exact Nat.div_le_self _ _
  · rw [Rat.den_mkRat]
    split
    · rw [I1];exact hk
    · exact Nat.le_trans (DE (Nat.div_le_self _ _)) h2
theorem N3 (a b:Int):nw (a*b).natAbs<=nw a.natAbs+nw b.natAbs:=by rw [Int.natAbs_mul];exact RF _ _
theorem D1 (a b:Int):nw (a+b).natAbs<=max (nw a.natAbs) (nw b.natAbs)+1:=Nat.le_trans (DE (Int.natAbs_add_le a b)) (UR _ _)
theorem DB (a b:Rat):nw (a.num*((b.den:Nat):Int)).natAbs<=Sz a+Sz b:=by
  have h1:=N3 a.num ((b.den:Nat):Int)
  have h2:=Dz a
  have h3:=Dd b
  rw [Int.natAbs_natCast] at h1
  omega
theorem HR (a b:Rat):nw (a.den*b.den)<=Sz a+Sz b:=by
  have h1:=RF a.den b.den
  have h2:=Dd a
  have h3:=Dd b
  omega
theorem JR (a b:Rat):nw (a.num*b.num).natAbs<=Sz a+Sz b:=by
  have h1:=N3 a.num b.num
  have h2:=Dz a
  have h3:=Dz b
  omega
theorem KM (a b:Rat):mkRat (a.num*((b.den:Nat):Int)+b.num*((a.den:Nat):Int)) (a.den*b.den)=a+b:=by rw [Rat.add_def,Rat.normalize_eq_mkRat]
theorem KK (a b:Rat):mkRat (a.num*b.num) (a.den*b.den)=a*b:=by rw [Rat.mul_def,Rat.normalize_eq_mkRat]
theorem G4 {a:Rat} (h:a.den-1=0):a=((a.num:Int):Rat):=by
  have h1:a.den=1:=by have:=a.den_pos;omega
  exact Rat.ext O h1
theorem PP {a b:Rat} (ha:a.den-1=0) (hb:b.den-1=0):((a.num+b.num:Int):Rat)=a+b:=by
  rw [Rat.intCast_add,<-G4 ha,<-G4 hb]
theorem Oz {a b:Rat} (ha:a.den-1=0) (hb:b.den-1=0):((a.num*b.num:Int):Rat)=a*b:=by
  rw [Rat.intCast_mul,<-G4 ha,<-G4 hb]
theorem Lq {a b:Rat} (h:a.den-1=b.den-1):a.den=b.den:=by
  have h1:=a.den_pos
  have h2:=b.den_pos
  omega
theorem Rb {a b:Rat} (h:a.den-1=b.den-1):mkRat (a.num+b.num) a.den=a+b:=by
  have h1:=Lq h
  have h2:a+b=mkRat a.num a.den+mkRat b.num a.den:=by rw [Rat.mkRat_self];conv=>lhs;rw [<-Rat.mkRat_self b,<-h1]
  rw [h2,Rat.mkRat_eq_div,Rat.mkRat_eq_div,Rat.mkRat_eq_div,Rat.intCast_add,Rat.div_def,Rat.div_def,Rat.div_def,Rat.add_mul]
theorem GY (a b:Rat):Sz (a+b)<=Sz a+Sz b+1:=by
  rw [<-KM]
  have h1:=DB a b
  have h2:=DB b a
  have h3:=D1 (a.num*((b.den:Nat):Int)) (b.num*((a.den:Nat):Int))
  have h4:=HR a b
  exact Ip Z Z Z
theorem Ef (a b:Rat):Sz (a*b)<=Sz a+Sz b:=by
  rw [<-KK]
  have:=Pq a
  exact Ip (JR a b) (HR a b) Z
theorem Dw (a:Rat):Sz (-a)=Sz a:=by unfold Sz;rw [Rat.neg_num,Rat.neg_den,Int.natAbs_neg]
theorem HV (a b:Rat):Sz (a-b)<=Sz a+Sz b+1:=by rw [Rat.sub_eq_add_neg,<-Dw b];exact GY a (-b)
theorem KU {b:Rat} (h:b≠0):mkRat (EB (decide (b.num.sign<0)) b.den) b.num.natAbs=b⁻¹:=by
  have hn:b.num≠0:=λe=>h (Rat.num_eq_zero.1 e)
  have hb:b=(b.num:Rat)/((b.den:Nat):Rat):=by rw [<-Rat.mkRat_eq_div,Rat.mkRat_self]
  have hd:((b.den:Nat):Rat)≠0:=by
    intro e
    have:=b.den_pos
    have h2:b.den=0:=by exact_mod_cast e
    omega
  have hn2:((b.num:Int):Rat)≠0:=by
    intro e
    exact hn (by exact_mod_cast e)
  rw [Rat.mkRat_eq_div]
  conv=>rhs;rw [hb]
  by_cases hs:b.num<0
  · have e1:decide (b.num.sign<0)=true:=by simp [Int.sign_eq_neg_one_of_neg hs]
    have e2:((b.num.natAbs:Nat):Rat) = -((b.num:Int):Rat):=by
      have:((b.num.natAbs:Nat):Int) = -b.num:=by omega
      rw [<-Rat.intCast_natCast,this,Rat.intCast_neg]
    rw [e1,e2]
    simp only [EB,if_true,Rat.intCast_neg,Rat.intCast_natCast]
    grind
  · have e1:decide (b.num.sign<0)=false:=by
      have:0<=b.num.sign:=Int.sign_nonneg_iff.2 Z
      exact decide_eq_false Z
    have e2:((b.num.natAbs:Nat):Rat)=((b.num:Int):Rat):=by
      have:((b.num.natAbs:Nat):Int)=b.num:=by omega
      rw [<-Rat.intCast_natCast,this]
    rw [e1,e2]
    simp only [EB,Bool.false_eq_true,if_false,Rat.intCast_natCast]
    grind
theorem RZ {b:Rat} (h:b≠0):Sz b⁻¹<=Sz b:=by
  rw [<-KU h]
  exact Ip (by rw [A6];exact Dd b) (Dz b) (Pq b)
theorem JW {a b:Rat} (h:b≠0):Sz (a/b)<=Sz a+Sz b:=by
  rw [Rat.div_def]
  have h1:=Ef a b⁻¹
  have h2:=RZ h
  omega
def Fl (a b:Rat):Int:=if a<b then -1 else if a=b then 0 else 1
theorem JL (a b:Rat):(a.num*((b.den:Nat):Int)-b.num*((a.den:Nat):Int)).sign=Fl a b:=by
  have h1:=Rat.lt_iff a b
  have h2:=@Rat.eq_iff_mul_eq_mul a b
  unfold Fl
  split
  · rename_i h;exact Int.sign_eq_neg_one_of_neg (by have:=h1.1 h;omega)
  · rename_i h
    split
    · rename_i h';rw [h2.1 h'];simp
    · rename_i h'
      have h3:¬a.num*((b.den:Nat):Int)<b.num*((a.den:Nat):Int):=λe=>h (h1.2 e)
      have h4:¬a.num*((b.den:Nat):Int)=b.num*((a.den:Nat):Int):=λe=>h' (h2.2 e)
      exact Int.sign_eq_one_of_pos Z
theorem Oa {a b:Rat} (h:a.den-1=b.den-1):(a.num-b.num).sign=Fl a b:=by
  rw [<-JL,<-Lq h,<-Int.sub_mul,Int.sign_mul]
  have:=a.den_pos
  rw [show ((a.den:Nat):Int).sign=1 from Int.sign_eq_one_of_pos Z]
  simp
theorem IL {a b:Rat}:Fl a b<0↔a<b:=by
  unfold Fl;split
  · simp [*]
  · split<;>simp [*]
theorem Nn {a b:Rat}:Fl a b=0↔a=b:=by
  unfold Fl;split
  · rename_i h
    constructor
    · intro e;cases e
    · intro e;subst e;exact absurd h (by simp)
  · split<;>simp [*]
theorem Hn (q:Rat):AI q=A9 q.num++AT (q.den-1):=rfl
theorem St {n:Int} {d:Nat} (hd:d≠0):(mkRat n d).num=EB (decide (n.sign<0)) (n.natAbs/Nat.gcd n.natAbs d):=by
  rw [Rat.num_mkRat,if_neg hd,Nat.gcd_comm]
  unfold EB
  by_cases h:n<0
  · rw [Int.sign_eq_neg_one_of_neg h]
    have e:n = -((n.natAbs:Nat):Int):=by omega
    simp only [show decide ((-1:Int)<0)=true from rfl,if_true]
    conv=>lhs;rw [e]
    rw [Int.natAbs_neg,Int.natAbs_natCast,Int.neg_ediv_of_dvd (by rw [Int.natCast_dvd_natCast];exact Nat.gcd_dvd_left ..)]
    rfl
  · have h0:0<=n.sign:=Int.sign_nonneg_iff.2 Z
    have e:n=((n.natAbs:Nat):Int):=by omega
    rw [if_neg (by simp;omega)]
    conv=>lhs;rw [e]
    rw [Int.natAbs_natCast]
    rfl
theorem Tf {n:Int} {d:Nat} (hd:d≠0):(mkRat n d).den=d/Nat.gcd n.natAbs d:=by rw [Rat.den_mkRat,if_neg hd,Nat.gcd_comm]
section
set_option maxRecDepth 100000
theorem C9 (x0:Int) (x1:Nat):Instr.fill ([(0,3),(3,2)].toArray[·]?) (AI (0:Rat)).toArray [(0,.agg (A9 x0).toArray),(1,.agg (AT x1).toArray)]=some (A9 x0++AT x1).toArray:=by kernel_rfl
theorem Fy (n:Int) (d:Nat) (hn:nw n.natAbs<=1099511627776) (hd:nw d<=1099511627776) (hd0:d≠0) (w:World)  :Calls prog 53 #[(aG (A9 n)),(aG (AT d))] w (Am w (aG (AI (mkRat n d)))):=by
 have hg:Nat.gcd n.natAbs d≠0:=λh=>hd0 (Nat.eq_zero_of_gcd_eq_zero_right h)
 have hgw:nw (Nat.gcd n.natAbs d)<=nw d:=DE (Nat.gcd_le_right _ (Nat.pos_of_ne_zero hd0))
 have hqw:nw (d/Nat.gcd n.natAbs d)<=nw d:=DE (Nat.div_le_self _ _)
 have h1w:=I1
 refine Ac (args:=[(aG (A9 n)),(aG (AT d))]) func53 O O (Ab O) (AF.subF (sL [0,1] O) (q4 (Bq (cs:=A9 n) O λb1=>Bq (cs:=AT d) O λb2=>al Dc O λb3=>?_)))
 refine q6 (sL [2,3,4] O) (rN [(0,true),(2,true),(1,false),(3,false)] [⟨4,5,55,AT 0⟩] [(5,false)] sr (by kernel_rfl) (λ_ _ d _ _ h=>by cases d<;>exact h) (GA O O E7 O (Hz)) O (HF 2 Cy O (HF 1 Bv O (CJ.imp O λEF EL=>BV call99 (LF n) O ?_))))
 refine CJ.back0 sr O (CJ.imp O λEF EL=>BV call98 (UN n.natAbs d Z Z) O (CJ.back0 sr O (CJ.news1 λb4=>AS.imp O ?_)))
 refine Au O sizeOf55 O (AS.back (sl sr) (AS.nil (AD.subF (sL [2,3,4,5] O) (q1 (rN [(0,true),(2,true),(1,false),(3,false),(4,true),(5,true),(6,true),(7,true)] [⟨8,6,55,AT 0⟩,⟨9,7,55,AT 0⟩] [(10,false),(11,false),(12,true)] sr (by kernel_rfl) (λ_ _ d _ _ h=>by cases d<;>exact h) (GA O O E7 O (GA O O E7 O (Hz))) O ?_)))))
 refine HF 3 Cy O (HF 0 Bv O (CJ.imp O λEF EL=>BV call99 (LF n) O (CJ.back0 sr O (CJ.imp O λEF EL=>?_))))
 refine BV call100 (Md n.natAbs (Nat.gcd n.natAbs d) Z Z Z) O (CJ.back0 sr O (M9 O (Gd O (AZ (v:=(aG (AT (n.natAbs/(Nat.gcd n.natAbs d))))) O O) O (Gd O (AZ (v:=(aG (AT (n.natAbs%(Nat.gcd n.natAbs d))))) O O) O (Gd O (AZ (v:=(Value.bool true)) O O) O ?_)))))
 refine CJ.news2 λb5 b6=>AS.imp O (Au O sizeOf55 O (AS.back (sl (sl sr)) (AS.imp O (C3 O sizeOf55 O ?_))))
 refine AS.back (sl (sl sr)) (EZ O (AS.nil (AD.subF (sL [2,3,4,5,6] O) (q2 (BD 4 Bv O ?_)))))
 refine BD 2 Bv O (BV call100 (Md d (Nat.gcd n.natAbs d) Z Z Z) O (AO O (AG (AZ (v:=(aG (AT (d/(Nat.gcd n.natAbs d))))) O O) O (AG (AZ (v:=(aG (AT (d%(Nat.gcd n.natAbs d))))) O O) O (AG (AZ (v:=(Value.bool true)) O O) O ?_)))))
 refine al E7 O λb7=>al E7 O λb8=>C3 O sizeOf55 O (Au O sizeOf55 O (AK O (q6 (sL [2,3,4,5,6,9] O) ?_)))
 refine rC [(0,true),(1,false),(2,false),(3,true),(4,true),(5,true)] 6 [] sr (sk (sl sr)) (by kernel_rfl) (λ_ _ d _ _ h=>by cases d<;>exact h) (vE (v:=(aG (AT (d/(Nat.gcd n.natAbs d))))) O (Al (i:=1) (vs:=AT (d/(Nat.gcd n.natAbs d))) O O Bv.a Bv.s O O) O (CK.imp O (BV call102 (IG 1 Z) O (CK.back sr (CK.imp O ?_)))))
 refine BV call101 (Mw (d/(Nat.gcd n.natAbs d)) 1 Z Z) O (CK.back sr (vM O O O (vE O (AZ (v:=(aG (AT ((d/(Nat.gcd n.natAbs d))-1)))) O O) O (vE O (AZ (v:=(Value.bool (decide (1<=d/(Nat.gcd n.natAbs d))))) O O) O (CK.cut O ?_)))))
 refine C3 O sizeOf55 O (AS.back (sk (sl sr)) (AS.nil (AD.subF (sL [2,3,4,5,6,9] O) (q1 (C4 [(0,true),(3,true),(5,true),(1,false),(2,true),(4,false),(6,true),(7,false)] (sk (sk (sk (sk (sk (sl sr)))))) ?_)))))
 refine Es 6 Cy O (Es 2 Bv O (Es 1 Bv O (AS.imp O (BV call59 (JF n) O (AS.back (sk (sk (sk (sk (sk (sl sr)))))) ?_)))))
 refine Ay O (Af (c:=(decide (n.sign<(0:Int)))) O O O) (AS.imp O (BV call103 (Dk (decide (n.sign<(0:Int))) (n.natAbs/(Nat.gcd n.natAbs d))) O (AS.back (sk (sk (sk (sk (sk (sl sr)))))) (Ay (v:=(aG (A9 (EB (decide (n.sign<(0:Int))) (n.natAbs/(Nat.gcd n.natAbs d)))++AT ((d/(Nat.gcd n.natAbs d))-1)))) O (AV (zs:=AI (0:Rat)) (vs:=A9 (EB (decide (n.sign<(0:Int))) (n.natAbs/(Nat.gcd n.natAbs d)))++AT ((d/(Nat.gcd n.natAbs d))-1)) (pv:=[(0,(aG (A9 (EB (decide (n.sign<(0:Int))) (n.natAbs/(Nat.gcd n.natAbs d)))))),(1,(aG (AT ((d/(Nat.gcd n.natAbs d))-1))))]) (places:=[(0,3),(3,2)]) zeroValue61 underlying61 (λw=>by simp [sizeOf55,sizeOf59]) O (C9 (EB (decide (n.sign<(0:Int))) (n.natAbs/(Nat.gcd n.natAbs d))) ((d/(Nat.gcd n.natAbs d))-1))) (AS.imp O ?_)))))
 exact F_ 5 (off:=0) (vs:=A9 (EB (decide (n.sign<(0:Int))) (n.natAbs/(Nat.gcd n.natAbs d)))++AT ((d/(Nat.gcd n.natAbs d))-1)) (cs':=A9 (EB (decide (n.sign<(0:Int))) (n.natAbs/(Nat.gcd n.natAbs d)))++AT ((d/(Nat.gcd n.natAbs d))-1)) (AQ O) O sizeOf61 O (AS.back (sk (sk (sk (sk (sk (sl sr)))))) (AS.nil (AD.subF (sL [2,3,4,5,6,9] O) (AD.then_ (AF.ret (AP O (A8 (i:=5) (cs:=A9 (EB (decide (n.sign<(0:Int))) (n.natAbs/(Nat.gcd n.natAbs d)))++AT ((d/(Nat.gcd n.natAbs d))-1)) O O isAgg61 sizeOf61 O) (λw hw=>⟨by rw [Hn,St hd0,Tf hd0],hw.out⟩)))))))
theorem GP (x0:Int):Instr.fill ([(0,3),(3,2)].toArray[·]?) (AI (0:Rat)).toArray [(0,.agg (A9 x0).toArray)]=some (A9 x0++AT ((0:Rat).den-1)).toArray:=by kernel_rfl
theorem JT (n:Int) (w:World)  :Calls prog 51 #[(aG (A9 n))] w (Am w (aG (AI ((n:Int):Rat)))):=by
 refine Ac (args:=[(aG (A9 n))]) func51 O O (Ab O) (AF.subF (sL [0] O) (q4 (Bq (cs:=A9 n) O λb1=>al Dc O λb2=>q3 (sL [1,2] O) ?_)))
 refine BD 1 Cy O (AG (v:=(aG (A9 n++AT ((0:Rat).den-1)))) (AV (zs:=AI (0:Rat)) (vs:=A9 n++AT ((0:Rat).den-1)) (pv:=[(0,(aG (A9 n)))]) (places:=[(0,3),(3,2)]) zeroValue61 underlying61 (λw=>by simp [sizeOf55,sizeOf59]) O (GP n)) O (Au O sizeOf61 O (AE.nil (AD.subF (sL [2] O) (AD.then_ ?_)))))
 exact AF.ret (AP O (A8 (i:=0) (cs:=A9 n++AT ((0:Rat).den-1)) O O isAgg61 sizeOf61 O) (λw hw=>⟨rfl,hw.out⟩))
theorem Ji  :Instr.fill ([(0,1),(1,1)].toArray[·]?) (AT 0).toArray []=some (AT 0).toArray:=by kernel_rfl
theorem Fi (a:Rat) (w:World)  :Calls prog 50 #[(aG (AI a))] w (Am w (Value.bool (decide (a.den-1=0)))):=by
 refine Ac (args:=[(aG (AI a))]) func50 O O (Ab O) (AF.subF (sL [0] O) (q4 (Bq (cs:=AI a) O λb1=>AK O (q3 (sL [1,2] O) ?_))))
 refine AG (v:=(pP b1 3)) (AA O underlying61 O sizeOf55 O) O (DJ 0 (AT (a.den-1)) Bv O (AG (v:=(aG (AT 0))) (AV (zs:=AT 0) (vs:=AT 0) (pv:=[]) (places:=[(0,1),(1,1)]) zeroValue55 underlying55 (λw=>by simp [sizeOf9,sizeOf53]) O (Ji )) O (AG (Bx (c:=(decide (a.den-1=0))) O O eqGuardType55 (Ft 9998 (a.den-1) 0)) O (AK O (AE.nil ?_)))))
 exact AD.subF (sL [2] O) (AD.then_ (AF.ret (AP O (Ad (v:=(Value.bool (decide (a.den-1=0)))) O) (λw hw=>⟨rfl,hw.out⟩))))
theorem FU (a:Rat) (ha:nw a.den<=1099511627776) (w:World)  :Calls prog 54 #[(aG (AI a))] w (Am w (aG (AT a.den))):=by
 have h1w:=I1
 have h2w:=DE (Nat.sub_le a.den 1)
 refine Ac (args:=[(aG (AI a))]) func54 O O (Ab O) (AF.subF (sL [0] O) (q4 (Bq (cs:=AI a) O λb1=>al E7 O λb2=>q6 (sL [1,2] O) ?_)))
 refine C4 [(0,true),(1,true),(2,false),(3,false),(4,false)] (sl sr) (Ay (v:=(pP b1 3)) O (AA O underlying61 O sizeOf55 O) (Hr 0 (AT (a.den-1)) Bv O (AS.imp O (BV call102 (IG 1 Z) O (AS.back (sl sr) ?_)))))
 refine AS.imp O (BV call104 (Qn (a.den-1) 1 Z Z) O (AS.back (sl sr) (AS.imp O (Au O sizeOf55 O (AS.back (sl sr) ?_)))))
 exact AS.nil (AD.subF (sL [2] O) (AD.then_ (AF.ret (AP O (A8 (i:=0) (cs:=AT ((a.den-1)+1)) O O isAgg55 sizeOf55 O) (λw hw=>⟨by rw [Nat.sub_add_cancel a.den_pos],hw.out⟩)))))
theorem Fx (a:Rat) (ha:nw a.den<=1099511627776) (w:World)  :Calls prog 56 #[(aG (AI a))] w (Am w (aG (A9 ((a.den:Nat):Int)))):=by
 refine Ac (args:=[(aG (AI a))]) func56 O O (Ab O) (AF.subF (sL [0] O) (q4 (Bq (cs:=AI a) O λb1=>al H2 O λb2=>q3 (sL [1,2] O) ?_)))
 refine BD 1 Bh O (BV call54 (FU a Z) O (BV call103 (Dk false a.den) O (Au O sizeOf59 O (AE.nil (AD.subF (sL [2] O) ?_)))))
 exact AD.then_ (AF.ret (AP O (A8 (i:=0) (cs:=A9 (EB false a.den)) O O isAgg59 sizeOf59 O) (λw hw=>⟨rfl,hw.out⟩)))
theorem SQ (a:Rat) (w:World)  :Calls prog 109 #[(aG (AI a))] w (Am w (aG (AI (-a)))):=by
 refine Ac (args:=[(aG (AI a))]) func109 O O (Ab O) (AF.subF (sL [0] O) (q4 (Bq (cs:=AI a) O λb1=>al Dc O λb2=>q6 (sL [1,2] O) ?_)))
 refine C4 [(0,true),(1,true),(3,true),(4,true),(2,false),(5,true),(6,false)] (sl sr) (Ay (v:=(pP b1 0)) O (AA O underlying61 O sizeOf59 O) (Hr 0 (A9 a.num) Cy O (Ay (v:=(pP b1 3)) O (AA O underlying61 O sizeOf55 O) (Hr 0 (AT (a.den-1)) Bv O (AS.imp O ?_)))))
 refine BV call146 (Nk a.num) O (AS.back (sl sr) (Ay (v:=(aG (A9 (-a.num)++AT (a.den-1)))) O (AV (zs:=AI (0:Rat)) (vs:=A9 (-a.num)++AT (a.den-1)) (pv:=[(0,(aG (A9 (-a.num)))),(1,(aG (AT (a.den-1))))]) (places:=[(0,3),(3,2)]) zeroValue61 underlying61 (λw=>by simp [sizeOf55,sizeOf59]) O (C9 (-a.num) (a.den-1))) (AS.imp O (Au O sizeOf61 O (AS.back (sl sr) ?_)))))
 exact AS.nil (AD.subF (sL [2] O) (AD.then_ (AF.ret (AP O (A8 (i:=0) (cs:=A9 (-a.num)++AT (a.den-1)) O O isAgg61 sizeOf61 O) (λw hw=>⟨by rw [Hn,Rat.neg_num,Rat.neg_den],hw.out⟩)))))
theorem Dr (a:Rat) (w:World)  :Calls prog 20 #[(aG (AI a))] w (Am w (vI a.num.sign)):=by
 refine Ac (args:=[(aG (AI a))]) func20 O O (Ab O) (AF.subF (sL [0] O) (q4 (Bq (cs:=AI a) O λb1=>AK O (q3 (sL [1,2] O) ?_))))
 refine AG (v:=(pP b1 0)) (AA O underlying61 O sizeOf59 O) O (DJ 0 (A9 a.num) Cy O (BV call59 (JF a.num) O (AK O (AE.nil (AD.subF (sL [2] O) ?_)))))
 exact AD.then_ (AF.ret (AP O (Ad (v:=(vI a.num.sign)) O) (λw hw=>⟨rfl,hw.out⟩)))
theorem N0 (a b:Rat) (hs:Sz a+Sz b<=549755813888) (w:World)  :Calls prog 155 #[(aG (AI a)),(aG (AI b))] w (Am w (vI (Fl a b))):=by
 have s1:=Dz a
 have s2:=Dd a
 have s3:=Dz b
 have s4:=Dd b
 have s5:=DB a b
 have s6:=DB b a
 have s7:=HR a b
 have s8:=JR a b
 have s9:=D1 a.num b.num
 have s10:=D1 (a.num*((b.den:Nat):Int)) (b.num*((a.den:Nat):Int))
 have hda:=a.den_nz
 have hdb:=b.den_nz
 have hdab:a.den*b.den≠0:=Nat.mul_ne_zero hda hdb
 refine Ac (args:=[(aG (AI a)),(aG (AI b))]) func155 O O (Ab O) (AF.subF (sL [0,1] O) (q4 (Bq (cs:=AI a) O λb1=>Bq (cs:=AI b) O λb2=>AK O ?_)))
 refine q6 (sL [2,3,4] O) (q4 (AG (v:=(pP b1 3)) (AA O underlying61 O sizeOf55 O) O (DJ 1 (AT (a.den-1)) Bv O (AG (v:=(pP b2 3)) (AA O underlying61 O sizeOf55 O) O (DJ 0 (AT (b.den-1)) Bv O ?_)))))
 refine AG (Bx (c:=(decide (a.den-1=b.den-1))) O O eqGuardType55 (Ft 9998 (a.den-1) (b.den-1))) O (AE.nil (AD.subF (sL [2,3,4,9] O) (AD.then_ ?_)))
 refine AF.cond O (λhc0=>?_) (λhc0=>?_)
 ·replace hc0:=of_decide_eq_true hc0
  have he:=Oa hc0
  refine q4 (AG (v:=(pP b1 0)) (AA O underlying61 O sizeOf59 O) O (DJ 1 (A9 a.num) Cy O (AG (v:=(pP b2 0)) (AA O underlying61 O sizeOf59 O) O (DJ 0 (A9 b.num) Cy O (BV call204 (N2 a.num b.num (by first|omega|(simp only [Int.natAbs_neg,A6,Int.natAbs_natCast];omega)) (by first|omega|(simp only [Int.natAbs_neg,A6,Int.natAbs_natCast];omega))) O ?_)))))
  exact AK O (AE.nil (AD.subF (sL [2,3,4] O) (AD.then_ (AF.ret (AD.then_ret (AP O (Ad (v:=(vI ((a.num-b.num).sign))) O) (λw hw=>⟨by rw [he],hw.out⟩)))))))
 ·replace hc0:=of_decide_eq_false hc0
  have he:=JL a b
  refine AF.skip (q1 (C4 [(0,true),(1,true),(2,true),(5,true),(6,true),(7,true),(3,false),(4,false),(8,false),(9,false),(10,false),(11,true)] sr (Ay (v:=(pP b1 0)) O (AA O underlying61 O sizeOf59 O) (Hr 1 (A9 a.num) Cy O (Es 0 Bh O ?_)))))
  refine Ay (v:=(pP b2 0)) O (AA O underlying61 O sizeOf59 O) (Hr 0 (A9 b.num) Cy O (Es 1 Bh O (AS.imp O (BV call56 (Fx b Z) O (AS.back sr ?_)))))
  refine AS.imp O (BV call55 (Fu a.num ((b.den:Nat):Int) (by first|omega|(simp only [Int.natAbs_neg,A6,Int.natAbs_natCast];omega)) (by first|omega|(simp only [Int.natAbs_neg,A6,Int.natAbs_natCast];omega))) O (AS.back sr (AS.imp O (BV call56 (Fx a Z) O (AS.back sr ?_)))))
  refine AS.imp O (BV call55 (Fu b.num ((a.den:Nat):Int) (by first|omega|(simp only [Int.natAbs_neg,A6,Int.natAbs_natCast];omega)) (by first|omega|(simp only [Int.natAbs_neg,A6,Int.natAbs_natCast];omega))) O (AS.back sr (AS.imp O (BV call204 (N2 (a.num*((b.den:Nat):Int)) (b.num*((a.den:Nat):Int)) (by first|omega|(simp only [Int.natAbs_neg,A6,Int.natAbs_natCast];omega)) (by first|omega|(simp only [Int.natAbs_neg,A6,Int.natAbs_natCast];omega))) O (AS.back sr ?_)))))
  exact EZ O (AS.nil (AD.subF (sL [2,3,4] O) (AD.then_ (AF.ret (AP O (Ad (v:=(vI (((a.num*((b.den:Nat):Int))-(b.num*((a.den:Nat):Int))).sign))) O) (λw hw=>⟨by rw [he],hw.out⟩))))))
theorem G2 (a b:Rat) (hs:Sz a+Sz b<=549755813888) (w:World)  :Calls prog 17 #[(aG (AI a)),(aG (AI b))] w (Am w (aG (AI (a+b)))):=by
 have s1:=Dz a
 have s2:=Dd a
 have s3:=Dz b
 have s4:=Dd b
 have s5:=DB a b
 have s6:=DB b a
 have s7:=HR a b
 have s8:=JR a b
 have s9:=D1 a.num b.num
 have s10:=D1 (a.num*((b.den:Nat):Int)) (b.num*((a.den:Nat):Int))
 have hda:=a.den_nz
 have hdb:=b.den_nz
 have hdab:a.den*b.den≠0:=Nat.mul_ne_zero hda hdb
 refine Ac (args:=[(aG (AI a)),(aG (AI b))]) func17 O O (Ab O) (AF.subF (sL [0,1] O) (q4 (Bq (cs:=AI a) O λb1=>Bq (cs:=AI b) O λb2=>al Dc O λb3=>?_)))
 refine q6 (sL [2,3,4] O) (AF.block (q4 (BD 2 Bh O (BV call50 (Fi a) O (AO O ?_)))))
 refine AE.mid (FM:=[(2,(pP b1 0)),(3,(pP b2 0)),(4,(pP b3 0)),(6,(aG (AI a))),(7,(Value.bool (decide (a.den-1=0)))),(8,(Value.bool (decide (a.den-1=0)))),(11,(Value.bool ((decide (a.den-1=0))&&(decide (b.den-1=0)))))]) (LM:=[Ae b3 61 (AI (0:Rat)),Ae b2 61 (AI b),Ae b1 61 (AI a)]) 3 ?_ ?_
 ·rcases Bool.eq_false_or_eq_true (decide (a.den-1=0)) with hg1|hg1
  ·skip
   refine AE.retell (k:=8) (u:=Value.bool true) O (by rw [hg1]) ?_
   have hg1':=hg1
   replace hg1':=of_decide_eq_true hg1'
   exact AE.step (v:=(aG (AI b))) (AB O) (Al (i:=1) (vs:=AI b) O O Bh.a Bh.s O O) O (Ab O) (AE.call (v:=(Value.bool (decide (b.den-1=0)))) (AB O) (Aw (args:=[(aG (AI b))]) O O call50) (λw hw=>Fi b w) O (Ab O) (AG (v:=(Value.bool (decide (b.den-1=0)))) (Ah O O) O (AE.nil (AD.mid (sS O (sS O (sS O (sS O (sS O (sS (by first|rfl|(rw [hg1];rfl)|rw [hg1]) (sS (by first|rfl|(rw [hg1];rfl)|rw [hg1]) (sN)))))))) (List.Sublist.refl _)))))
  ·skip
   refine AE.retell (k:=8) (u:=Value.bool false) O (by rw [hg1]) ?_
   have hg1':=hg1
   replace hg1':=of_decide_eq_false hg1'
   exact AE.skip (AR O) O (Ab O) (AE.skip (AR O) O (Ab O) (AG (v:=(Value.bool false)) (AU O O) O (AE.nil (AD.mid (sS O (sS O (sS O (sS O (sS O (sS (by first|rfl|(rw [hg1];rfl)|rw [hg1]) (sS (by first|rfl|(rw [hg1];rfl)|rw [hg1]) (sN)))))))) (List.Sublist.refl _)))))
 refine AK O (AE.nil (AD.subF (sL [2,3,4,5] O) (AD.then_ ?_)))
 refine AF.cond O (λhc0=>?_) (λhc0=>?_)
 ·simp only [Bool.and_eq_true,Bool.or_eq_true,Bool.and_eq_false_iff,Bool.or_eq_false_iff,Bool.not_eq_true',Bool.not_eq_false',decide_eq_true_eq,decide_eq_false_iff_not] at hc0
  have he:=PP hc0.1 hc0.2
  refine q4 (AG (v:=(pP b1 0)) (AA O underlying61 O sizeOf59 O) O (DJ 2 (A9 a.num) Cy O (AG (v:=(pP b2 0)) (AA O underlying61 O sizeOf59 O) O (DJ 1 (A9 b.num) Cy O (BV call52 (LK a.num b.num (by first|omega|(simp only [Int.natAbs_neg,A6,Int.natAbs_natCast];omega)) (by first|omega|(simp only [Int.natAbs_neg,A6,Int.natAbs_natCast];omega))) O ?_)))))
  refine BV call51 (JT (a.num+b.num)) O (Au O sizeOf61 O (AE.nil (AD.subF (sL [2,3,4] O) (AD.then_ (AF.ret ?_)))))
  exact AD.in_ret (AD.then_ret (AP O (A8 (i:=0) (cs:=AI ((a.num+b.num:Int):Rat)) O O isAgg61 sizeOf61 O) (λw hw=>⟨by rw [he],hw.out⟩)))
 ·simp only [Bool.and_eq_true,Bool.or_eq_true,Bool.and_eq_false_iff,Bool.or_eq_false_iff,Bool.not_eq_true',Bool.not_eq_false',decide_eq_true_eq,decide_eq_false_iff_not] at hc0
  have he:=KM a b
  refine q4 (AG (v:=(pP b1 3)) (AA O underlying61 O sizeOf55 O) O (DJ 2 (AT (a.den-1)) Bv O (AG (v:=(pP b2 3)) (AA O underlying61 O sizeOf55 O) O (DJ 1 (AT (b.den-1)) Bv O (AG (Bx (c:=(decide (a.den-1=b.den-1))) O O eqGuardType55 (Ft 9998 (a.den-1) (b.den-1))) O ?_)))))
  refine AK O (AE.nil (AD.subF (sL [2,3,4,18] O) (AD.then_ ?_)))
  refine AF.cond O (λhc1=>?_) (λhc1=>?_)
  ·replace hc1:=of_decide_eq_true hc1
   have he:=Rb hc1
   refine AF.seq (C4 [(0,true),(1,true),(2,true),(3,true),(5,true),(4,false),(6,false),(7,false),(8,false)] (sl sr) (Ay (v:=(pP b1 0)) O (AA O underlying61 O sizeOf59 O) (Hr 1 (A9 a.num) Cy O (Ay (v:=(pP b2 0)) O (AA O underlying61 O sizeOf59 O) (Hr 0 (A9 b.num) Cy O ?_)))))
   refine Es 1 Bh O (AS.imp O (BV call52 (LK a.num b.num (by first|omega|(simp only [Int.natAbs_neg,A6,Int.natAbs_natCast];omega)) (by first|omega|(simp only [Int.natAbs_neg,A6,Int.natAbs_natCast];omega))) O (AS.back (sl sr) (AS.imp O (BV call54 (FU a Z) O ?_)))))
   refine AS.back (sl sr) (AS.imp O (BV call53 (Fy (a.num+b.num) a.den Z Z (by first|omega|assumption)) O (AS.back (sl sr) (AS.imp O (Au O sizeOf61 O ?_)))))
   refine AS.back (sl sr) (AS.nil (AD.subF (sL [2,3,4] O) (AD.then_ (AF.ret (AD.in_ret ?_)))))
   exact AD.then_ret (AP O (A8 (i:=0) (cs:=AI (mkRat (a.num+b.num) a.den)) O O isAgg61 sizeOf61 O) (λw hw=>⟨by rw [he],hw.out⟩))
  ·replace hc1:=of_decide_eq_false hc1
   refine AF.skip (AD.in_normal (q1 (C4 [(0,true),(1,true),(2,true),(5,true),(6,true),(7,true),(11,true),(13,true),(3,false),(4,false),(8,false),(9,false),(10,false),(12,false),(14,false),(15,false),(16,false),(17,false)] (sl sr) (Ay (v:=(pP b1 0)) O (AA O underlying61 O sizeOf59 O) (Hr 1 (A9 a.num) Cy O ?_)))))
   refine Es 0 Bh O (Ay (v:=(pP b2 0)) O (AA O underlying61 O sizeOf59 O) (Hr 0 (A9 b.num) Cy O (Es 1 Bh O (Es 1 Bh O (Es 0 Bh O ?_)))))
   refine AS.imp O (BV call56 (Fx b Z) O (AS.back (sl sr) (AS.imp O (BV call55 (Fu a.num ((b.den:Nat):Int) (by first|omega|(simp only [Int.natAbs_neg,A6,Int.natAbs_natCast];omega)) (by first|omega|(simp only [Int.natAbs_neg,A6,Int.natAbs_natCast];omega))) O (AS.back (sl sr) ?_)))))
   refine AS.imp O (BV call56 (Fx a Z) O (AS.back (sl sr) (AS.imp O (BV call55 (Fu b.num ((a.den:Nat):Int) (by first|omega|(simp only [Int.natAbs_neg,A6,Int.natAbs_natCast];omega)) (by first|omega|(simp only [Int.natAbs_neg,A6,Int.natAbs_natCast];omega))) O (AS.back (sl sr) ?_)))))
   refine AS.imp O (BV call52 (LK (a.num*((b.den:Nat):Int)) (b.num*((a.den:Nat):Int)) (by first|omega|(simp only [Int.natAbs_neg,A6,Int.natAbs_natCast];omega)) (by first|omega|(simp only [Int.natAbs_neg,A6,Int.natAbs_natCast];omega))) O (AS.back (sl sr) (AS.imp O (BV call54 (FU a Z) O (AS.back (sl sr) ?_)))))
   refine AS.imp O (BV call54 (FU b Z) O (AS.back (sl sr) (AS.imp O (BV call57 (M1 a.den b.den Z Z) O (AS.back (sl sr) ?_)))))
   refine AS.imp O (BV call53 (Fy ((a.num*((b.den:Nat):Int))+(b.num*((a.den:Nat):Int))) (a.den*b.den) Z Z (by first|omega|assumption)) O (AS.back (sl sr) (AS.imp O (Au O sizeOf61 O (AS.back (sl sr) ?_)))))
   exact AS.nil (AD.subF (sL [2,3,4] O) (AD.then_ (AF.ret (AP O (A8 (i:=0) (cs:=AI (mkRat ((a.num*((b.den:Nat):Int))+(b.num*((a.den:Nat):Int))) (a.den*b.den))) O O isAgg61 sizeOf61 O) (λw hw=>⟨by rw [he],hw.out⟩)))))
theorem Ks (a b:Rat) (hs:Sz a+Sz b<=549755813888) (w:World)  :Calls prog 58 #[(aG (AI a)),(aG (AI b))] w (Am w (aG (AI (a-b)))):=by
 refine Ac (args:=[(aG (AI a)),(aG (AI b))]) func58 O O (Ab O) (AF.subF (sL [0,1] O) (q4 (Bq (cs:=AI a) O λb1=>Bq (cs:=AI b) O λb2=>al Dc O λb3=>?_)))
 refine q6 (sL [2,3,4] O) (C4 [(0,true),(1,true),(2,false),(3,false),(4,false)] (sl sr) (Es 1 Bh O (Es 0 Bh O (AS.imp O (BV call109 (SQ b) O ?_)))))
 refine AS.back (sl sr) (AS.imp O ?_)
 have hz1:=GY a (-b)
 refine BV call17 (G2 a (-b) (by (try simp only [Dw]);omega)) O (AS.back (sl sr) (AS.imp O (Au O sizeOf61 O (AS.back (sl sr) (AS.nil ?_)))))
 exact AD.subF (sL [4] O) (AD.then_ (AF.ret (AP O (A8 (i:=0) (cs:=AI (a+(-b))) O O isAgg61 sizeOf61 O) (λw hw=>⟨by rw [Rat.sub_eq_add_neg],hw.out⟩))))
theorem IH (a b:Rat) (hs:Sz a+Sz b<=549755813888) (w:World)  :Calls prog 26 #[(aG (AI a)),(aG (AI b))] w (Am w (aG (AI (a*b)))):=by
 have s1:=Dz a
 have s2:=Dd a
 have s3:=Dz b
 have s4:=Dd b
 have s5:=DB a b
 have s6:=DB b a
 have s7:=HR a b
 have s8:=JR a b
 have s9:=D1 a.num b.num
 have s10:=D1 (a.num*((b.den:Nat):Int)) (b.num*((a.den:Nat):Int))
 have hda:=a.den_nz
 have hdb:=b.den_nz
 have hdab:a.den*b.den≠0:=Nat.mul_ne_zero hda hdb
 refine Ac (args:=[(aG (AI a)),(aG (AI b))]) func26 O O (Ab O) (AF.subF (sL [0,1] O) (q4 (Bq (cs:=AI a) O λb1=>Bq (cs:=AI b) O λb2=>al Dc O λb3=>?_)))
 refine q6 (sL [2,3,4] O) (q4 (BD 2 Bh O (BV call50 (Fi a) O (AO O ?_))))
 refine AE.mid (FM:=[(2,(pP b1 0)),(3,(pP b2 0)),(4,(pP b3 0)),(5,(aG (AI a))),(6,(Value.bool (decide (a.den-1=0)))),(7,(Value.bool (decide (a.den-1=0)))),(10,(Value.bool ((decide (a.den-1=0))&&(decide (b.den-1=0)))))]) (LM:=[Ae b3 61 (AI (0:Rat)),Ae b2 61 (AI b),Ae b1 61 (AI a)]) 3 ?_ ?_
 ·rcases Bool.eq_false_or_eq_true (decide (a.den-1=0)) with hg1|hg1
  ·skip
   refine AE.retell (k:=7) (u:=Value.bool true) O (by rw [hg1]) ?_
   have hg1':=hg1
   replace hg1':=of_decide_eq_true hg1'
   exact AE.step (v:=(aG (AI b))) (AB O) (Al (i:=1) (vs:=AI b) O O Bh.a Bh.s O O) O (Ab O) (AE.call (v:=(Value.bool (decide (b.den-1=0)))) (AB O) (Aw (args:=[(aG (AI b))]) O O call50) (λw hw=>Fi b w) O (Ab O) (AG (v:=(Value.bool (decide (b.den-1=0)))) (Ah O O) O (AE.nil (AD.mid (sS O (sS O (sS O (sS O (sS O (sS (by first|rfl|(rw [hg1];rfl)|rw [hg1]) (sS (by first|rfl|(rw [hg1];rfl)|rw [hg1]) (sN)))))))) (List.Sublist.refl _)))))
  ·skip
   refine AE.retell (k:=7) (u:=Value.bool false) O (by rw [hg1]) ?_
   have hg1':=hg1
   replace hg1':=of_decide_eq_false hg1'
   exact AE.skip (AR O) O (Ab O) (AE.skip (AR O) O (Ab O) (AG (v:=(Value.bool false)) (AU O O) O (AE.nil (AD.mid (sS O (sS O (sS O (sS O (sS O (sS (by first|rfl|(rw [hg1];rfl)|rw [hg1]) (sS (by first|rfl|(rw [hg1];rfl)|rw [hg1]) (sN)))))))) (List.Sublist.refl _)))))
 refine AE.nil (AD.subF (sL [2,3,4,10] O) (AD.then_ ?_))
 refine AF.cond O (λhc0=>?_) (λhc0=>?_)
 ·simp only [Bool.and_eq_true,Bool.or_eq_true,Bool.and_eq_false_iff,Bool.or_eq_false_iff,Bool.not_eq_true',Bool.not_eq_false',decide_eq_true_eq,decide_eq_false_iff_not] at hc0
  have he:=Oz hc0.1 hc0.2
  refine q4 (AG (v:=(pP b1 0)) (AA O underlying61 O sizeOf59 O) O (DJ 2 (A9 a.num) Cy O (AG (v:=(pP b2 0)) (AA O underlying61 O sizeOf59 O) O (DJ 1 (A9 b.num) Cy O (BV call55 (Fu a.num b.num (by first|omega|(simp only [Int.natAbs_neg,A6,Int.natAbs_natCast];omega)) (by first|omega|(simp only [Int.natAbs_neg,A6,Int.natAbs_natCast];omega))) O ?_)))))
  refine BV call51 (JT (a.num*b.num)) O (Au O sizeOf61 O (AE.nil (AD.subF (sL [2,3,4] O) (AD.then_ (AF.ret ?_)))))
  exact AD.then_ret (AP O (A8 (i:=0) (cs:=AI ((a.num*b.num:Int):Rat)) O O isAgg61 sizeOf61 O) (λw hw=>⟨by rw [he],hw.out⟩))
 ·simp only [Bool.and_eq_true,Bool.or_eq_true,Bool.and_eq_false_iff,Bool.or_eq_false_iff,Bool.not_eq_true',Bool.not_eq_false',decide_eq_true_eq,decide_eq_false_iff_not] at hc0
  have he:=KK a b
  refine AF.skip (q1 (C4 [(0,true),(1,true),(2,true),(3,true),(5,true),(7,true),(4,false),(6,false),(8,false),(9,false),(10,false),(11,false)] (sl sr) (Ay (v:=(pP b1 0)) O (AA O underlying61 O sizeOf59 O) (Hr 1 (A9 a.num) Cy O (Ay (v:=(pP b2 0)) O (AA O underlying61 O sizeOf59 O) ?_)))))
  refine Hr 0 (A9 b.num) Cy O (Es 1 Bh O (Es 0 Bh O (AS.imp O (BV call55 (Fu a.num b.num (by first|omega|(simp only [Int.natAbs_neg,A6,Int.natAbs_natCast];omega)) (by first|omega|(simp only [Int.natAbs_neg,A6,Int.natAbs_natCast];omega))) O (AS.back (sl sr) ?_)))))
  refine AS.imp O (BV call54 (FU a Z) O (AS.back (sl sr) (AS.imp O (BV call54 (FU b Z) O (AS.back (sl sr) ?_)))))
  refine AS.imp O (BV call57 (M1 a.den b.den Z Z) O (AS.back (sl sr) (AS.imp O (BV call53 (Fy (a.num*b.num) (a.den*b.den) Z Z (by first|omega|assumption)) O (AS.back (sl sr) ?_)))))
  refine AS.imp O (Au O sizeOf61 O (AS.back (sl sr) (AS.nil (AD.subF (sL [2,3,4] O) (AD.then_ ?_)))))
  exact AF.ret (AP O (A8 (i:=0) (cs:=AI (mkRat (a.num*b.num) (a.den*b.den))) O O isAgg61 sizeOf61 O) (λw hw=>⟨by rw [he],hw.out⟩))
theorem IT (a b:Rat) (hs:Sz a+Sz b<=549755813888) (hb:b≠0) (w:World)  :Calls prog 114 #[(aG (AI a)),(aG (AI b))] w (Am w (Value.tuple #[(aG (AI (a/b))),(vI 0)])):=by
 have s1:=Dz a
 have s2:=Dd a
 have s3:=Dz b
 have s4:=Dd b
 have s5:=DB a b
 have s6:=DB b a
 have s7:=HR a b
 have s8:=JR a b
 have s9:=D1 a.num b.num
 have s10:=D1 (a.num*((b.den:Nat):Int)) (b.num*((a.den:Nat):Int))
 have hda:=a.den_nz
 have hdb:=b.den_nz
 have hdab:a.den*b.den≠0:=Nat.mul_ne_zero hda hdb
 have hbn:b.num≠0:=λe=>hb (Rat.num_eq_zero.1 e)
 have hbs:b.num.sign≠0:=λe=>hbn (Int.sign_eq_zero_iff_zero.1 e)
 have hmi:nw (EB (decide (b.num.sign<(0:Int))) b.den).natAbs=nw b.den:=by rw [A6]
 have hinv:=KU hb
 have hsi:=RZ hb
 rw [<-hinv] at hsi
 refine Ac (args:=[(aG (AI a)),(aG (AI b))]) func114 O O (Ab O) (AF.subF (sL [0,1] O) (q4 (Bq (cs:=AI a) O λb1=>Bq (cs:=AI b) O λb2=>al Dc O λb3=>?_)))
 refine AK O (q6 (sL [2,3,4,5] O) (q4 (BD 1 Bh O (BV call20 (Dr b) O (AG (BU (c:=(decide (b.num.sign=(0:Int)))) O O O) O ?_)))))
 refine AE.nil (AD.subF (sL [2,3,4,5,9] O) (AD.then_ ?_))
 refine AF.cond O (λhc0=>?_) (λhc0=>?_)
 ·replace hc0:=of_decide_eq_true hc0
  exact absurd hc0 hbs
 ·replace hc0:=of_decide_eq_false hc0
  refine AF.skip (q1 (rN [(0,true),(3,true),(6,true),(7,true),(1,false),(2,true),(4,false),(5,false),(8,false),(9,false)] [⟨10,6,61,AI (0:Rat)⟩] [(11,false)] sr (by kernel_rfl) (λ_ _ d _ _ h=>by cases d<;>exact h) (GA O O Dc O (Hz)) O (HF 1 Bh O (HF 1 Bh O (Gd (v:=(pP b2 0)) O (AA O underlying61 O sizeOf59 O) O ?_)))))
  refine QS 1 (A9 b.num) Cy O (CJ.imp O λEF EL=>BV call20 (Dr b) O (CJ.back0 sr O (Gd O (Af (c:=(decide (b.num.sign<(0:Int)))) O O O) O (CJ.imp O λEF EL=>?_))))
  refine BV call54 (FU b Z) O (CJ.back0 sr O (CJ.imp O λEF EL=>BV call103 (Dk (decide (b.num.sign<(0:Int))) b.den) O (CJ.back0 sr O (CJ.imp O λEF EL=>?_))))
  refine BV call99 (LF b.num) O (CJ.back0 sr O (CJ.imp O λEF EL=>BV call53 (Fy (EB (decide (b.num.sign<(0:Int))) b.den) b.num.natAbs Z Z (by first|omega|assumption)) O (CJ.back0 sr O (CJ.news1 λb4=>?_))))
  refine AS.imp O (Au O sizeOf61 O (AS.back (sl sr) (AS.nil (AD.subF (sL [2,3,4,5,6] O) (q2 ?_)))))
  refine BD 3 Bh O (BD 0 Bh O ?_)
  have hz1:=Ef a (mkRat (EB (decide (b.num.sign<(0:Int))) b.den) b.num.natAbs)
  refine BV call26 (IH a (mkRat (EB (decide (b.num.sign<(0:Int))) b.den) b.num.natAbs) (by (try simp only [Dw]);omega)) O (C3 O sizeOf61 O (AK O (AE.nil (AD.subF (sL [3,4,5,6] O) (AD.then_ ?_)))))
  exact AF.ret (Cm O (A8 (i:=1) (cs:=AI (a*(mkRat (EB (decide (b.num.sign<(0:Int))) b.den) b.num.natAbs))) O O isAgg61 sizeOf61 O) (Ad (v:=(vI 0)) O) (λw hw=>⟨by rw [hinv,Rat.div_def],hw.out⟩))
theorem Jh  :Instr.fill ([(0,3),(3,2)].toArray[·]?) (AI (0:Rat)).toArray []=some (AI (0:Rat)).toArray:=by kernel_rfl
theorem Qw (a:Rat) (w:World)  :Calls prog 114 #[(aG (AI a)),(aG (AI (0:Rat)))] w (Am w (Value.tuple #[(aG (AI (0:Rat))),(vI 5)])):=by
 refine Ac (args:=[(aG (AI a)),(aG (AI (0:Rat)))]) func114 O O (Ab O) (AF.subF (sL [0,1] O) (q4 (Bq (cs:=AI a) O λb1=>Bq (cs:=AI (0:Rat)) O λb2=>al Dc O λb3=>?_)))
 refine AK O (q6 (sL [2,3,4,5] O) (q4 (BD 1 Bh O (BV call20 (Dr (0:Rat)) O (AG (BU (c:=(decide (((0:Rat).num.sign)=(0:Int)))) O O O) O ?_)))))
 refine AE.nil (AD.subF (sL [2,3,4,5,9] O) (AD.then_ ?_))
 refine AF.cond O (λhc0=>?_) (λhc0=>?_)
 ·replace hc0:=of_decide_eq_true hc0
  refine q4 (AG (v:=(aG (AI (0:Rat)))) (AV (zs:=AI (0:Rat)) (vs:=AI (0:Rat)) (pv:=[]) (places:=[(0,3),(3,2)]) zeroValue61 underlying61 (λw=>by simp [sizeOf55,sizeOf59]) O (Jh )) O (Au O sizeOf61 O (AK O (AE.nil (AD.subF (sL [2,3,4,5] O) ?_)))))
  exact AD.then_ (AF.ret (AD.then_ret (Cm O (A8 (i:=0) (cs:=AI (0:Rat)) O O isAgg61 sizeOf61 O) (Ad (v:=(vI 5)) O) (λw hw=>⟨rfl,hw.out⟩))))
 ·replace hc0:=of_decide_eq_false hc0
  exact absurd O hc0
theorem IP (z:Int) (hz:-9223372036854775808<=z) (hz2:z<9223372036854775808) (w:World)  :Calls prog 27 #[(vI z)] w (Am w (aG (AI ((z:Int):Rat)))):=by
 refine Ac (args:=[(vI z)]) func27 O O (Ab O) (AF.subF (sL [0] O) (q4 (al Dc O λb1=>AE.nil (q2 ?_))))
 refine AO O (BV call67 (Ui z Z Z) O (BV call51 (JT z) O (Au O sizeOf61 O (AE.nil (AD.subF (sL [2] O) ?_)))))
 exact AD.then_ (AF.ret (AP O (A8 (i:=0) (cs:=AI ((z:Int):Rat)) O O isAgg61 sizeOf61 O) (λw hw=>⟨rfl,hw.out⟩)))
end
section
instance:Add Pt:=⟨λa b=>⟨a.x+b.x,a.y+b.y⟩⟩
instance:Sub Pt:=⟨λa b=>⟨a.x-b.x,a.y-b.y⟩⟩
def Qi (a:Pt) (k:Rat):Pt:=⟨a.x*k,a.y*k⟩
def Ca (a b:Pt):Rat:=a.x*b.y-a.y*b.x
def Ag (a b c:Pt):Rat:=Ca (b-a) (c-a)
def B8 (p:Pt):Nat:=max (Sz p.x) (Sz p.y)
theorem GC (p:Pt):Sz p.x<=B8 p:=Nat.le_max_left ..
theorem GB (p:Pt):Sz p.y<=B8 p:=Nat.le_max_right ..
theorem Rt {p:Pt} {k:Nat} (h1:Sz p.x<=k) (h2:Sz p.y<=k):B8 p<=k:=Nat.max_le.2 ⟨h1,h2⟩
theorem F2 (a b:Pt):B8 (a-b)<=B8 a+B8 b+1:=by
  have h1:=GC a;have h2:=GB a;have h3:=GC b;have h4:=GB b
  refine Rt ?_ ?_
  · exact Nat.le_trans (HV a.x b.x) Z
  · exact Nat.le_trans (HV a.y b.y) Z
theorem Et (a b:Pt):Sz (Ca a b)<=2*B8 a+2*B8 b+1:=by
  have h1:=GC a;have h2:=GB a;have h3:=GC b;have h4:=GB b
  have h5:=Ef a.x b.y;have h6:=Ef a.y b.x
  exact Nat.le_trans (HV _ _) Z
theorem DM (a b c:Pt):Sz (Ag a b c)<=4*B8 a+2*B8 b+2*B8 c+5:=by
  have h1:=F2 b a;have h2:=F2 c a
  exact Nat.le_trans (Et _ _) Z
theorem Nx:Sz (1/2:Rat)<=1:=by decide +kernel
theorem TN:((1:Int):Rat)/((2:Int):Rat)=1/2:=by decide +kernel
theorem K3 {z:Int} (h1:-9223372036854775808<=z) (h2:z<9223372036854775808):Sz ((z:Int):Rat)<=2:=Tk (G5 (by show z.natAbs<_;omega)) (by show nw 1<=2;rw [I1];omega)
theorem SD (a b:Pt):Aj (a-b)=AI (a.x-b.x)++AI (a.y-b.y):=rfl
theorem Up (x y:Rat):Aj ⟨x,y⟩=AI x++AI y:=rfl
section
variable {P:Program} {Q:Exit->Act->World->Prop} {n:Nat} {F:List (Nat×Value)} {w0:BL} {L:List As} {c:Code}
def E3 (P:Program) (c:Code) (Q:Exit->Act->World->Prop) (k n:Nat) (F:List (Nat×Value)) (w0:BL) (L:List As):Prop:=∀a w,CO n a F->BN w0 w L->Code.rounds P c Q k a w
theorem AF.unroll (k:Nat) (h:E3 P c Q k n F w0 L):AF P (.loop c) Q n F w0 L:=λa w ha hw=>wp_loop_rounds k (h a w ha hw)
theorem E3.step {k:Nat} (h:AF P c (Exit.then (Code.rounds P c Q k) Q) n F w0 L):E3 P c Q (k+1) n F w0 L:=λa w ha hw=>by
  rw [rounds_succ];exact h a w ha hw
theorem AD.again {k:Nat} (h:E3 P c Q k n F w0 L):AD (Exit.then (Code.rounds P c Q k) Q) .normal n F w0 L:=h
end
end
end Go.Proofs.YtfbomiejpbchdaaGreatDoor
