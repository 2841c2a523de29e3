import Derived.Test.YtfbomiejpbchdaaGreatPart06
import Derived.Test.YtfbomiejpbchdaaGreatPart14
import Derived.Test.YtfbomiejpbchdaaGreatPart17
namespace Go.Proofs.YtfbomiejpbchdaaGreat
open Go Go.RowKit Go.Proofs.Tryz
set_option linter.unusedVariables false
set_option linter.unusedSimpArgs false
def Sz (q:Rat):Nat:=max (nw q.num.natAbs) (nw q.den)
theorem Eo (q:Rat):nw q.num.natAbs<=Sz q:=Nat.le_max_left ..
theorem EH (q:Rat):nw q.den<=Sz q:=Nat.le_max_right ..
theorem XT {q:Rat} {k:Nat} (h1:nw q.num.natAbs<=k) (h2:nw q.den<=k):Sz q<=k:=Nat.max_le.2 ⟨h1,h2⟩
theorem KJ:nw 1=1:=by decide
theorem TZ (q:Rat):1<=Sz q:=Nat.le_trans (by rw [<-KJ];exact Dl q.den_pos) (EH q)
theorem KH {n:Int} {d k:Nat} (h1:nw n.natAbs<=k) (h2:nw d<=k) (hk:1<=k):Sz (mkRat n d)<=k:=by
  refine XT ?_ ?_
  · rw [Rat.num_mkRat]
    split
    · exact Nat.zero_le _
    · refine Nat.le_trans (Dl ?_) h1
      rw [Int.natAbs_ediv_of_dvd (by rw [Int.ofNat_dvd_left];exact Nat.gcd_dvd_right ..)]
      exact Nat.div_le_self _ _
  · rw [Rat.den_mkRat]
    split
    · rw [KJ];exact hk
    · exact Nat.le_trans (Dl (Nat.div_le_self _ _)) h2
theorem Qt (a b:Int):nw (a*b).natAbs<=nw a.natAbs+nw b.natAbs:=by rw [Int.natAbs_mul];exact S7 _ _
theorem E8 (a b:Int):nw (a+b).natAbs<=max (nw a.natAbs) (nw b.natAbs)+1:=Nat.le_trans (Dl (Int.natAbs_add_le a b)) (X6 _ _)
theorem Dj (a b:Rat):nw (a.num*((b.den:Nat):Int)).natAbs<=Sz a+Sz b:=by
  have h1:=Qt a.num ((b.den:Nat):Int)
  have h2:=Eo a
  have h3:=EH b
  rw [Int.natAbs_natCast] at h1
  omega
theorem I5 (a b:Rat):nw (a.den*b.den)<=Sz a+Sz b:=by
  have h1:=S7 a.den b.den
  have h2:=EH a
  have h3:=EH b
  omega
theorem Kc (a b:Rat):nw (a.num*b.num).natAbs<=Sz a+Sz b:=by
  have h1:=Qt a.num b.num
  have h2:=Eo a
  have h3:=Eo b
  omega
theorem MU (a b:Rat):mkRat (a.num*((b.den:Nat):Int)+b.num*((a.den:Nat):Int)) (a.den*b.den)=a+b:=by rw [Rat.add_def,Rat.normalize_eq_mkRat]
theorem MS (a b:Rat):mkRat (a.num*b.num) (a.den*b.den)=a*b:=by rw [Rat.mul_def,Rat.normalize_eq_mkRat]
theorem IP {a:Rat} (h:a.den-1=0):a=((a.num:Int):Rat):=by
  have h1:a.den=1:=by have:=a.den_pos;omega
  exact Rat.ext O h1
theorem Rt {a b:Rat} (ha:a.den-1=0) (hb:b.den-1=0):((a.num+b.num:Int):Rat)=a+b:=by
  rw [Rat.intCast_add,<-IP ha,<-IP hb]
theorem Rz {a b:Rat} (ha:a.den-1=0) (hb:b.den-1=0):((a.num*b.num:Int):Rat)=a*b:=by
  rw [Rat.intCast_mul,<-IP ha,<-IP hb]
theorem OC {a b:Rat} (h:a.den-1=b.den-1):a.den=b.den:=by
  have h1:=a.den_pos
  have h2:=b.den_pos
  omega
theorem Sx {a b:Rat} (h:a.den-1=b.den-1):mkRat (a.num+b.num) a.den=a+b:=by
  have h1:=OC h
  have h2:a+b=mkRat a.num a.den+mkRat b.num a.den:=by rw [Rat.mkRat_self];conv=>lhs;rw [<-Rat.mkRat_self b,<-h1]
  rw [h2,Rat.mkRat_eq_div,Rat.mkRat_eq_div,Rat.mkRat_eq_div,Rat.intCast_add,Rat.div_def,Rat.div_def,Rat.div_def,Rat.add_mul]
theorem FS (a b:Rat):Sz (a+b)<=Sz a+Sz b+1:=by
  rw [<-MU]
  have h1:=Dj a b
  have h2:=Dj b a
  have h3:=E8 (a.num*((b.den:Nat):Int)) (b.num*((a.den:Nat):Int))
  have h4:=I5 a b
  exact KH Z Z Z
theorem DM (a b:Rat):Sz (a*b)<=Sz a+Sz b:=by
  rw [<-MS]
  have:=TZ a
  exact KH (Kc a b) (I5 a b) Z
theorem Dc (a:Rat):Sz (-a)=Sz a:=by unfold Sz;rw [Rat.neg_num,Rat.neg_den,Int.natAbs_neg]
theorem Iu (a b:Rat):Sz (a-b)<=Sz a+Sz b+1:=by rw [Rat.sub_eq_add_neg,<-Dc b];exact FS a (-b)
theorem MP {b:Rat} (h:b≠0):mkRat (FF (decide (b.num.sign<0)) b.den) b.num.natAbs=b⁻¹:=by
  have hn:b.num≠0:=λe=>h (Rat.num_eq_zero.1 e)
  have hb:b=(b.num:Rat)/((b.den:Nat):Rat):=by rw [<-Rat.mkRat_eq_div,Rat.mkRat_self]
  have hd:((b.den:Nat):Rat)≠0:=by
    intro e
    have:=b.den_pos
    have h2:b.den=0:=by exact_mod_cast e
    omega
  have hn2:((b.num:Int):Rat)≠0:=by
    intro e
    exact hn (by exact_mod_cast e)
  rw [Rat.mkRat_eq_div]
  conv=>rhs;rw [hb]
  by_cases hs:b.num<0
  · have e1:decide (b.num.sign<0)=true:=by simp [Int.sign_eq_neg_one_of_neg hs]
    have e2:((b.num.natAbs:Nat):Rat) = -((b.num:Int):Rat):=by
      have:((b.num.natAbs:Nat):Int) = -b.num:=by omega
      rw [<-Rat.intCast_natCast,this,Rat.intCast_neg]
    rw [e1,e2]
    simp only [FF,if_true,Rat.intCast_neg,Rat.intCast_natCast]
    grind
  · have e1:decide (b.num.sign<0)=false:=by
      have:0<=b.num.sign:=Int.sign_nonneg_iff.2 Z
      exact decide_eq_false Z
    have e2:((b.num.natAbs:Nat):Rat)=((b.num:Int):Rat):=by
      have:((b.num.natAbs:Nat):Int)=b.num:=by omega
      rw [<-Rat.intCast_natCast,this]
    rw [e1,e2]
    simp only [FF,Bool.false_eq_true,if_false,Rat.intCast_natCast]
    grind
theorem Uu {b:Rat} (h:b≠0):Sz b⁻¹<=Sz b:=by
  rw [<-MP h]
  exact KH (by rw [BC];exact EH b) (Eo b) (TZ b)
theorem LZ {a b:Rat} (h:b≠0):Sz (a/b)<=Sz a+Sz b:=by
  rw [Rat.div_def]
  have h1:=DM a b⁻¹
  have h2:=Uu h
  omega
def G1 (a b:Rat):Int:=if a<b then -1 else if a=b then 0 else 1
theorem KG (a b:Rat):(a.num*((b.den:Nat):Int)-b.num*((a.den:Nat):Int)).sign=G1 a b:=by
  have h1:=Rat.lt_iff a b
  have h2:=@Rat.eq_iff_mul_eq_mul a b
  unfold G1
  split
  · rename_i h;exact Int.sign_eq_neg_one_of_neg (by have:=h1.1 h;omega)
  · rename_i h
    split
    · rename_i h';rw [h2.1 h'];simp
    · rename_i h'
      have h3:¬a.num*((b.den:Nat):Int)<b.num*((a.den:Nat):Int):=λe=>h (h1.2 e)
      have h4:¬a.num*((b.den:Nat):Int)=b.num*((a.den:Nat):Int):=λe=>h' (h2.2 e)
      exact Int.sign_eq_one_of_pos Z
theorem Rj {a b:Rat} (h:a.den-1=b.den-1):(a.num-b.num).sign=G1 a b:=by
  rw [<-KG,<-OC h,<-Int.sub_mul,Int.sign_mul]
  have:=a.den_pos
  rw [show ((a.den:Nat):Int).sign=1 from Int.sign_eq_one_of_pos Z]
  simp
theorem Jk {a b:Rat}:G1 a b<0↔a<b:=by
  unfold G1;split
  · simp [*]
  · split<;>simp [*]
theorem QX {a b:Rat}:G1 a b=0↔a=b:=by
  unfold G1;split
  · rename_i h
    constructor
    · intro e;cases e
    · intro e;subst e;exact absurd h (by simp)
  · split<;>simp [*]
theorem JN (q:Rat):AH q=BJ q.num++Aa (q.den-1):=rfl
theorem V0 {n:Int} {d:Nat} (hd:d≠0):(mkRat n d).num=FF (decide (n.sign<0)) (n.natAbs/Nat.gcd n.natAbs d):=by
  rw [Rat.num_mkRat,if_neg hd,Nat.gcd_comm]
  unfold FF
  by_cases h:n<0
  · rw [Int.sign_eq_neg_one_of_neg h]
    have e:n = -((n.natAbs:Nat):Int):=by omega
    simp only [show decide ((-1:Int)<0)=true from rfl,if_true]
    conv=>lhs;rw [e]
    rw [Int.natAbs_neg,Int.natAbs_natCast,Int.neg_ediv_of_dvd (by rw [Int.natCast_dvd_natCast];exact Nat.gcd_dvd_left ..)]
    rfl
  · have h0:0<=n.sign:=Int.sign_nonneg_iff.2 Z
    have e:n=((n.natAbs:Nat):Int):=by omega
    rw [if_neg (by simp;omega)]
    conv=>lhs;rw [e]
    rw [Int.natAbs_natCast]
    rfl
theorem Vo {n:Int} {d:Nat} (hd:d≠0):(mkRat n d).den=d/Nat.gcd n.natAbs d:=by rw [Rat.den_mkRat,if_neg hd,Nat.gcd_comm]
section
set_option maxRecDepth 100000
theorem Dh (x0:Int) (x1:Nat):Instr.fill ([(0,3),(3,2)].toArray[·]?) (AH (0:Rat)).toArray [(0,.agg (BJ x0).toArray),(1,.agg (Aa x1).toArray)]=some (BJ x0++Aa x1).toArray:=by kernel_rfl
theorem HR (n:Int) (d:Nat) (hn:nw n.natAbs<=1099511627776) (hd:nw d<=1099511627776) (hd0:d≠0) (w:World)  :Calls prog 70 #[(aG (BJ n)),(aG (Aa d))] w (Av w (aG (AH (mkRat n d)))):=by
 have hg:Nat.gcd n.natAbs d≠0:=λh=>hd0 (Nat.eq_zero_of_gcd_eq_zero_right h)
 have hgw:nw (Nat.gcd n.natAbs d)<=nw d:=Dl (Nat.gcd_le_right _ (Nat.pos_of_ne_zero hd0))
 have hqw:nw (d/Nat.gcd n.natAbs d)<=nw d:=Dl (Nat.div_le_self _ _)
 have h1w:=KJ
 refine Ag (args:=[(aG (BJ n)),(aG (Aa d))]) func70 O O (Ab O) (AF.subF (sL [0,1] O) (q4 (Bo (cs:=BJ n) O λb1=>Bo (cs:=Aa d) O λb2=>al DL O λb3=>?_)))
 refine q6 (sL [2,3,4] O) (rN [(0,true),(2,true),(1,false),(3,false)] [⟨4,5,47,Aa 0⟩] [(5,false)] sr (by kernel_rfl) (λ_ _ d _ _ h=>by cases d<;>exact h) (Fb O O GY O (IU)) O (H0 2 Db O (H0 1 CK O (CS.imp O λEF EL=>BW call141 (Nf n) O ?_))))
 refine CS.back0 sr O (CS.imp O λEF EL=>BW call144 (Ya n.natAbs d Z Z) O (CS.back0 sr O (CS.news1 λb4=>AV.imp O ?_)))
 refine Aq O sizeOf47 O (AV.back (sl sr) (AV.nil (AC.subF (sL [2,3,4,5] O) (q1 (rN [(0,true),(2,true),(1,false),(3,false),(4,true),(5,true),(6,true),(7,true)] [⟨8,6,47,Aa 0⟩,⟨9,7,47,Aa 0⟩] [(10,false),(11,false),(12,true)] sr (by kernel_rfl) (λ_ _ d _ _ h=>by cases d<;>exact h) (Fb O O GY O (Fb O O GY O (IU))) O ?_)))))
 refine H0 3 Db O (H0 0 CK O (CS.imp O λEF EL=>BW call141 (Nf n) O (CS.back0 sr O (CS.imp O λEF EL=>?_))))
 refine BW call145 (Pp n.natAbs (Nat.gcd n.natAbs d) Z Z Z) O (CS.back0 sr O (Ll O (GA O (AU (v:=(aG (Aa (n.natAbs/(Nat.gcd n.natAbs d))))) O O) O (GA O (AU (v:=(aG (Aa (n.natAbs%(Nat.gcd n.natAbs d))))) O O) O (GA O (AU (v:=(Value.bool true)) O O) O ?_)))))
 refine CS.news2 λb5 b6=>AV.imp O (Aq O sizeOf47 O (AV.back (sl (sl sr)) (AV.imp O (Cq O sizeOf47 O ?_))))
 refine AV.back (sl (sl sr)) (Ev O (AV.nil (AC.subF (sL [2,3,4,5,6] O) (q2 (A6 4 CK O ?_)))))
 refine A6 2 CK O (BW call145 (Pp d (Nat.gcd n.natAbs d) Z Z Z) O (AR O (AI (AU (v:=(aG (Aa (d/(Nat.gcd n.natAbs d))))) O O) O (AI (AU (v:=(aG (Aa (d%(Nat.gcd n.natAbs d))))) O O) O (AI (AU (v:=(Value.bool true)) O O) O ?_)))))
 refine al GY O λb7=>al GY O λb8=>Cq O sizeOf47 O (Aq O sizeOf47 O (AO O (q6 (sL [2,3,4,5,6,9] O) ?_)))
 refine rC [(0,true),(1,false),(2,false),(3,true),(4,true),(5,true)] 6 [] sr (sk (sl sr)) (by kernel_rfl) (λ_ _ d _ _ h=>by cases d<;>exact h) (vE (v:=(aG (Aa (d/(Nat.gcd n.natAbs d))))) O (Ac (i:=1) (vs:=Aa (d/(Nat.gcd n.natAbs d))) O O CK.a CK.s O O) O (Bu.imp O (BW call147 (J2 1 Z) O (Bu.back sr (Bu.imp O ?_)))))
 refine BW call146 (Pw (d/(Nat.gcd n.natAbs d)) 1 Z Z) O (Bu.back sr (vM O O O (vE O (AU (v:=(aG (Aa ((d/(Nat.gcd n.natAbs d))-1)))) O O) O (vE O (AU (v:=(Value.bool (decide (1<=d/(Nat.gcd n.natAbs d))))) O O) O (Bu.cut O ?_)))))
 refine Cq O sizeOf47 O (AV.back (sk (sl sr)) (AV.nil (AC.subF (sL [2,3,4,5,6,9] O) (q1 (Cu [(0,true),(3,true),(5,true),(1,false),(2,true),(4,false),(6,true),(7,false)] (sk (sk (sk (sk (sk (sl sr)))))) ?_)))))
 refine EW 6 Db O (EW 2 CK O (EW 1 CK O (AV.imp O (BW call137 (KX n) O (AV.back (sk (sk (sk (sk (sk (sl sr)))))) ?_)))))
 refine Ax O (Am (c:=(decide (n.sign<(0:Int)))) O O O) (AV.imp O (BW call140 (ET (decide (n.sign<(0:Int))) (n.natAbs/(Nat.gcd n.natAbs d))) O (AV.back (sk (sk (sk (sk (sk (sl sr)))))) (Ax (v:=(aG (BJ (FF (decide (n.sign<(0:Int))) (n.natAbs/(Nat.gcd n.natAbs d)))++Aa ((d/(Nat.gcd n.natAbs d))-1)))) O (Ad (zs:=AH (0:Rat)) (vs:=BJ (FF (decide (n.sign<(0:Int))) (n.natAbs/(Nat.gcd n.natAbs d)))++Aa ((d/(Nat.gcd n.natAbs d))-1)) (pv:=[(0,(aG (BJ (FF (decide (n.sign<(0:Int))) (n.natAbs/(Nat.gcd n.natAbs d)))))),(1,(aG (Aa ((d/(Nat.gcd n.natAbs d))-1))))]) (places:=[(0,3),(3,2)]) zeroValue53 underlying53 (λw=>by simp [sizeOf47,sizeOf51]) O (Dh (FF (decide (n.sign<(0:Int))) (n.natAbs/(Nat.gcd n.natAbs d))) ((d/(Nat.gcd n.natAbs d))-1))) (AV.imp O ?_)))))
 exact Eu 5 (off:=0) (vs:=BJ (FF (decide (n.sign<(0:Int))) (n.natAbs/(Nat.gcd n.natAbs d)))++Aa ((d/(Nat.gcd n.natAbs d))-1)) (cs':=BJ (FF (decide (n.sign<(0:Int))) (n.natAbs/(Nat.gcd n.natAbs d)))++Aa ((d/(Nat.gcd n.natAbs d))-1)) (AM O) O sizeOf53 O (AV.back (sk (sk (sk (sk (sk (sl sr)))))) (AV.nil (AC.subF (sL [2,3,4,5,6,9] O) (AC.then_ (AF.ret (AT O (A7 (i:=5) (cs:=BJ (FF (decide (n.sign<(0:Int))) (n.natAbs/(Nat.gcd n.natAbs d)))++Aa ((d/(Nat.gcd n.natAbs d))-1)) O O isAgg53 sizeOf53 O) (λw hw=>⟨by rw [JN,V0 hd0,Vo hd0],hw.out⟩)))))))
theorem Hi (x0:Int):Instr.fill ([(0,3),(3,2)].toArray[·]?) (AH (0:Rat)).toArray [(0,.agg (BJ x0).toArray)]=some (BJ x0++Aa ((0:Rat).den-1)).toArray:=by kernel_rfl
theorem K4 (n:Int) (w:World)  :Calls prog 68 #[(aG (BJ n))] w (Av w (aG (AH ((n:Int):Rat)))):=by
 refine Ag (args:=[(aG (BJ n))]) func68 O O (Ab O) (AF.subF (sL [0] O) (q4 (Bo (cs:=BJ n) O λb1=>al DL O λb2=>q3 (sL [1,2] O) ?_)))
 refine A6 1 Db O (AI (v:=(aG (BJ n++Aa ((0:Rat).den-1)))) (Ad (zs:=AH (0:Rat)) (vs:=BJ n++Aa ((0:Rat).den-1)) (pv:=[(0,(aG (BJ n)))]) (places:=[(0,3),(3,2)]) zeroValue53 underlying53 (λw=>by simp [sizeOf47,sizeOf51]) O (Hi n)) O (Aq O sizeOf53 O (AE.nil (AC.subF (sL [2] O) (AC.then_ ?_)))))
 exact AF.ret (AT O (A7 (i:=0) (cs:=BJ n++Aa ((0:Rat).den-1)) O O isAgg53 sizeOf53 O) (λw hw=>⟨rfl,hw.out⟩))
theorem Lh  :Instr.fill ([(0,1),(1,1)].toArray[·]?) (Aa 0).toArray []=some (Aa 0).toArray:=by kernel_rfl
theorem H6 (a:Rat) (w:World)  :Calls prog 67 #[(aG (AH a))] w (Av w (Value.bool (decide (a.den-1=0)))):=by
 refine Ag (args:=[(aG (AH a))]) func67 O O (Ab O) (AF.subF (sL [0] O) (q4 (Bo (cs:=AH a) O λb1=>AO O (q3 (sL [1,2] O) ?_))))
 refine AI (v:=(pP b1 3)) (AA O underlying53 O sizeOf47 O) O (EX 0 (Aa (a.den-1)) CK O (AI (v:=(aG (Aa 0))) (Ad (zs:=Aa 0) (vs:=Aa 0) (pv:=[]) (places:=[(0,1),(1,1)]) zeroValue47 underlying47 (λw=>by simp [sizeOf9,sizeOf45]) O (Lh )) O (AI (Bt (c:=(decide (a.den-1=0))) O O eqGuardType47 (HK 9998 (a.den-1) 0)) O (AO O (AE.nil ?_)))))
 exact AC.subF (sL [2] O) (AC.then_ (AF.ret (AT O (Ak (v:=(Value.bool (decide (a.den-1=0)))) O) (λw hw=>⟨rfl,hw.out⟩))))
theorem Hy (a:Rat) (ha:nw a.den<=1099511627776) (w:World)  :Calls prog 72 #[(aG (AH a))] w (Av w (aG (Aa a.den))):=by
 have h1w:=KJ
 have h2w:=Dl (Nat.sub_le a.den 1)
 refine Ag (args:=[(aG (AH a))]) func72 O O (Ab O) (AF.subF (sL [0] O) (q4 (Bo (cs:=AH a) O λb1=>al GY O λb2=>q6 (sL [1,2] O) ?_)))
 refine Cu [(0,true),(1,true),(2,false),(3,false),(4,false)] (sl sr) (Ax (v:=(pP b1 3)) O (AA O underlying53 O sizeOf47 O) (HU 0 (Aa (a.den-1)) CK O (AV.imp O (BW call147 (J2 1 Z) O (AV.back (sl sr) ?_)))))
 refine AV.imp O (BW call151 (TY (a.den-1) 1 Z Z) O (AV.back (sl sr) (AV.imp O (Aq O sizeOf47 O (AV.back (sl sr) ?_)))))
 exact AV.nil (AC.subF (sL [2] O) (AC.then_ (AF.ret (AT O (A7 (i:=0) (cs:=Aa ((a.den-1)+1)) O O isAgg47 sizeOf47 O) (λw hw=>⟨by rw [Nat.sub_add_cancel a.den_pos],hw.out⟩)))))
theorem HG (a:Rat) (ha:nw a.den<=1099511627776) (w:World)  :Calls prog 83 #[(aG (AH a))] w (Av w (aG (BJ ((a.den:Nat):Int)))):=by
 refine Ag (args:=[(aG (AH a))]) func83 O O (Ab O) (AF.subF (sL [0] O) (q4 (Bo (cs:=AH a) O λb1=>al Jb O λb2=>q3 (sL [1,2] O) ?_)))
 refine A6 1 BP O (BW call72 (Hy a Z) O (BW call140 (ET false a.den) O (Aq O sizeOf51 O (AE.nil (AC.subF (sL [2] O) ?_)))))
 exact AC.then_ (AF.ret (AT O (A7 (i:=0) (cs:=BJ (FF false a.den)) O O isAgg51 sizeOf51 O) (λw hw=>⟨rfl,hw.out⟩)))
theorem Vh (a:Rat) (w:World)  :Calls prog 169 #[(aG (AH a))] w (Av w (aG (AH (-a)))):=by
 refine Ag (args:=[(aG (AH a))]) func169 O O (Ab O) (AF.subF (sL [0] O) (q4 (Bo (cs:=AH a) O λb1=>al DL O λb2=>q6 (sL [1,2] O) ?_)))
 refine Cu [(0,true),(1,true),(3,true),(4,true),(2,false),(5,true),(6,false)] (sl sr) (Ax (v:=(pP b1 0)) O (AA O underlying53 O sizeOf51 O) (HU 0 (BJ a.num) Db O (Ax (v:=(pP b1 3)) O (AA O underlying53 O sizeOf47 O) (HU 0 (Aa (a.den-1)) CK O (AV.imp O ?_)))))
 refine BW call201 (QI a.num) O (AV.back (sl sr) (Ax (v:=(aG (BJ (-a.num)++Aa (a.den-1)))) O (Ad (zs:=AH (0:Rat)) (vs:=BJ (-a.num)++Aa (a.den-1)) (pv:=[(0,(aG (BJ (-a.num)))),(1,(aG (Aa (a.den-1))))]) (places:=[(0,3),(3,2)]) zeroValue53 underlying53 (λw=>by simp [sizeOf47,sizeOf51]) O (Dh (-a.num) (a.den-1))) (AV.imp O (Aq O sizeOf53 O (AV.back (sl sr) ?_)))))
 exact AV.nil (AC.subF (sL [2] O) (AC.then_ (AF.ret (AT O (A7 (i:=0) (cs:=BJ (-a.num)++Aa (a.den-1)) O O isAgg53 sizeOf53 O) (λw hw=>⟨by rw [JN,Rat.neg_num,Rat.neg_den],hw.out⟩)))))
theorem FX (a:Rat) (w:World)  :Calls prog 63 #[(aG (AH a))] w (Av w (vI a.num.sign)):=by
 refine Ag (args:=[(aG (AH a))]) func63 O O (Ab O) (AF.subF (sL [0] O) (q4 (Bo (cs:=AH a) O λb1=>AO O (q3 (sL [1,2] O) ?_))))
 refine AI (v:=(pP b1 0)) (AA O underlying53 O sizeOf51 O) O (EX 0 (BJ a.num) Db O (BW call137 (KX a.num) O (AO O (AE.nil (AC.subF (sL [2] O) ?_)))))
 exact AC.then_ (AF.ret (AT O (Ak (v:=(vI a.num.sign)) O) (λw hw=>⟨rfl,hw.out⟩)))
theorem QM (a b:Rat) (hs:Sz a+Sz b<=549755813888) (w:World)  :Calls prog 33 #[(aG (AH a)),(aG (AH b))] w (Av w (vI (G1 a b))):=by
 have s1:=Eo a
 have s2:=EH a
 have s3:=Eo b
 have s4:=EH b
 have s5:=Dj a b
 have s6:=Dj b a
 have s7:=I5 a b
 have s8:=Kc a b
 have s9:=E8 a.num b.num
 have s10:=E8 (a.num*((b.den:Nat):Int)) (b.num*((a.den:Nat):Int))
 have hda:=a.den_nz
 have hdb:=b.den_nz
 have hdab:a.den*b.den≠0:=Nat.mul_ne_zero hda hdb
 refine Ag (args:=[(aG (AH a)),(aG (AH b))]) func33 O O (Ab O) (AF.subF (sL [0,1] O) (q4 (Bo (cs:=AH a) O λb1=>Bo (cs:=AH b) O λb2=>AO O ?_)))
 refine q6 (sL [2,3,4] O) (q4 (AI (v:=(pP b1 3)) (AA O underlying53 O sizeOf47 O) O (EX 1 (Aa (a.den-1)) CK O (AI (v:=(pP b2 3)) (AA O underlying53 O sizeOf47 O) O (EX 0 (Aa (b.den-1)) CK O ?_)))))
 refine AI (Bt (c:=(decide (a.den-1=b.den-1))) O O eqGuardType47 (HK 9998 (a.den-1) (b.den-1))) O (AE.nil (AC.subF (sL [2,3,4,9] O) (AC.then_ ?_)))
 refine AF.cond O (λhc0=>?_) (λhc0=>?_)
 ·replace hc0:=of_decide_eq_true hc0
  have he:=Rj hc0
  refine q4 (AI (v:=(pP b1 0)) (AA O underlying53 O sizeOf51 O) O (EX 1 (BJ a.num) Db O (AI (v:=(pP b2 0)) (AA O underlying53 O sizeOf51 O) O (EX 0 (BJ b.num) Db O (BW call94 (QK a.num b.num (by first|omega|(simp only [Int.natAbs_neg,BC,Int.natAbs_natCast];omega)) (by first|omega|(simp only [Int.natAbs_neg,BC,Int.natAbs_natCast];omega))) O ?_)))))
  exact AO O (AE.nil (AC.subF (sL [2,3,4] O) (AC.then_ (AF.ret (AC.then_ret (AT O (Ak (v:=(vI ((a.num-b.num).sign))) O) (λw hw=>⟨by rw [he],hw.out⟩)))))))
 ·replace hc0:=of_decide_eq_false hc0
  have he:=KG a b
  refine AF.skip (q1 (Cu [(0,true),(1,true),(2,true),(5,true),(6,true),(7,true),(3,false),(4,false),(8,false),(9,false),(10,false),(11,true)] sr (Ax (v:=(pP b1 0)) O (AA O underlying53 O sizeOf51 O) (HU 1 (BJ a.num) Db O (EW 0 BP O ?_)))))
  refine Ax (v:=(pP b2 0)) O (AA O underlying53 O sizeOf51 O) (HU 0 (BJ b.num) Db O (EW 1 BP O (AV.imp O (BW call83 (HG b Z) O (AV.back sr ?_)))))
  refine AV.imp O (BW call69 (HP a.num ((b.den:Nat):Int) (by first|omega|(simp only [Int.natAbs_neg,BC,Int.natAbs_natCast];omega)) (by first|omega|(simp only [Int.natAbs_neg,BC,Int.natAbs_natCast];omega))) O (AV.back sr (AV.imp O (BW call83 (HG a Z) O (AV.back sr ?_)))))
  refine AV.imp O (BW call69 (HP b.num ((a.den:Nat):Int) (by first|omega|(simp only [Int.natAbs_neg,BC,Int.natAbs_natCast];omega)) (by first|omega|(simp only [Int.natAbs_neg,BC,Int.natAbs_natCast];omega))) O (AV.back sr (AV.imp O (BW call94 (QK (a.num*((b.den:Nat):Int)) (b.num*((a.den:Nat):Int)) (by first|omega|(simp only [Int.natAbs_neg,BC,Int.natAbs_natCast];omega)) (by first|omega|(simp only [Int.natAbs_neg,BC,Int.natAbs_natCast];omega))) O (AV.back sr ?_)))))
  exact Ev O (AV.nil (AC.subF (sL [2,3,4] O) (AC.then_ (AF.ret (AT O (Ak (v:=(vI (((a.num*((b.den:Nat):Int))-(b.num*((a.den:Nat):Int))).sign))) O) (λw hw=>⟨by rw [he],hw.out⟩))))))
theorem Fi (a b:Rat) (hs:Sz a+Sz b<=549755813888) (w:World)  :Calls prog 29 #[(aG (AH a)),(aG (AH b))] w (Av w (aG (AH (a+b)))):=by
 have s1:=Eo a
 have s2:=EH a
 have s3:=Eo b
 have s4:=EH b
 have s5:=Dj a b
 have s6:=Dj b a
 have s7:=I5 a b
 have s8:=Kc a b
 have s9:=E8 a.num b.num
 have s10:=E8 (a.num*((b.den:Nat):Int)) (b.num*((a.den:Nat):Int))
 have hda:=a.den_nz
 have hdb:=b.den_nz
 have hdab:a.den*b.den≠0:=Nat.mul_ne_zero hda hdb
 refine Ag (args:=[(aG (AH a)),(aG (AH b))]) func29 O O (Ab O) (AF.subF (sL [0,1] O) (q4 (Bo (cs:=AH a) O λb1=>Bo (cs:=AH b) O λb2=>al DL O λb3=>?_)))
 refine q6 (sL [2,3,4] O) (AF.block (q4 (A6 2 BP O (BW call67 (H6 a) O (AR O ?_)))))
 refine AE.mid (FM:=[(2,(pP b1 0)),(3,(pP b2 0)),(4,(pP b3 0)),(6,(aG (AH a))),(7,(Value.bool (decide (a.den-1=0)))),(8,(Value.bool (decide (a.den-1=0)))),(11,(Value.bool ((decide (a.den-1=0))&&(decide (b.den-1=0)))))]) (LM:=[Af b3 53 (AH (0:Rat)),Af b2 53 (AH b),Af b1 53 (AH a)]) 3 ?_ ?_
 ·rcases Bool.eq_false_or_eq_true (decide (a.den-1=0)) with hg1|hg1
  ·skip
   refine AE.retell (k:=8) (u:=Value.bool true) O (by rw [hg1]) ?_
   have hg1':=hg1
   replace hg1':=of_decide_eq_true hg1'
   exact AE.step (v:=(aG (AH b))) (AB O) (Ac (i:=1) (vs:=AH b) O O BP.a BP.s O O) O (Ab O) (AE.call (v:=(Value.bool (decide (b.den-1=0)))) (AB O) (A8 (args:=[(aG (AH b))]) O O call67) (λw hw=>H6 b w) O (Ab O) (AI (v:=(Value.bool (decide (b.den-1=0)))) (Ah O O) O (AE.nil (AC.mid (sS O (sS O (sS O (sS O (sS O (sS (by first|rfl|(rw [hg1];rfl)|rw [hg1]) (sS (by first|rfl|(rw [hg1];rfl)|rw [hg1]) (sN)))))))) (List.Sublist.refl _)))))
  ·skip
   refine AE.retell (k:=8) (u:=Value.bool false) O (by rw [hg1]) ?_
   have hg1':=hg1
   replace hg1':=of_decide_eq_false hg1'
   exact AE.skip (AL O) O (Ab O) (AE.skip (AL O) O (Ab O) (AI (v:=(Value.bool false)) (AS O O) O (AE.nil (AC.mid (sS O (sS O (sS O (sS O (sS O (sS (by first|rfl|(rw [hg1];rfl)|rw [hg1]) (sS (by first|rfl|(rw [hg1];rfl)|rw [hg1]) (sN)))))))) (List.Sublist.refl _)))))
 refine AO O (AE.nil (AC.subF (sL [2,3,4,5] O) (AC.then_ ?_)))
 refine AF.cond O (λhc0=>?_) (λhc0=>?_)
 ·simp only [Bool.and_eq_true,Bool.or_eq_true,Bool.and_eq_false_iff,Bool.or_eq_false_iff,Bool.not_eq_true',Bool.not_eq_false',decide_eq_true_eq,decide_eq_false_iff_not] at hc0
  have he:=Rt hc0.1 hc0.2
  refine q4 (AI (v:=(pP b1 0)) (AA O underlying53 O sizeOf51 O) O (EX 2 (BJ a.num) Db O (AI (v:=(pP b2 0)) (AA O underlying53 O sizeOf51 O) O (EX 1 (BJ b.num) Db O (BW call82 (NR a.num b.num (by first|omega|(simp only [Int.natAbs_neg,BC,Int.natAbs_natCast];omega)) (by first|omega|(simp only [Int.natAbs_neg,BC,Int.natAbs_natCast];omega))) O ?_)))))
  refine BW call68 (K4 (a.num+b.num)) O (Aq O sizeOf53 O (AE.nil (AC.subF (sL [2,3,4] O) (AC.then_ (AF.ret ?_)))))
  exact AC.in_ret (AC.then_ret (AT O (A7 (i:=0) (cs:=AH ((a.num+b.num:Int):Rat)) O O isAgg53 sizeOf53 O) (λw hw=>⟨by rw [he],hw.out⟩)))
 ·simp only [Bool.and_eq_true,Bool.or_eq_true,Bool.and_eq_false_iff,Bool.or_eq_false_iff,Bool.not_eq_true',Bool.not_eq_false',decide_eq_true_eq,decide_eq_false_iff_not] at hc0
  have he:=MU a b
  refine q4 (AI (v:=(pP b1 3)) (AA O underlying53 O sizeOf47 O) O (EX 2 (Aa (a.den-1)) CK O (AI (v:=(pP b2 3)) (AA O underlying53 O sizeOf47 O) O (EX 1 (Aa (b.den-1)) CK O (AI (Bt (c:=(decide (a.den-1=b.den-1))) O O eqGuardType47 (HK 9998 (a.den-1) (b.den-1))) O ?_)))))
  refine AO O (AE.nil (AC.subF (sL [2,3,4,18] O) (AC.then_ ?_)))
  refine AF.cond O (λhc1=>?_) (λhc1=>?_)
  ·replace hc1:=of_decide_eq_true hc1
   have he:=Sx hc1
   refine AF.seq (Cu [(0,true),(1,true),(2,true),(3,true),(5,true),(4,false),(6,false),(7,false),(8,false)] (sl sr) (Ax (v:=(pP b1 0)) O (AA O underlying53 O sizeOf51 O) (HU 1 (BJ a.num) Db O (Ax (v:=(pP b2 0)) O (AA O underlying53 O sizeOf51 O) (HU 0 (BJ b.num) Db O ?_)))))
   refine EW 1 BP O (AV.imp O (BW call82 (NR a.num b.num (by first|omega|(simp only [Int.natAbs_neg,BC,Int.natAbs_natCast];omega)) (by first|omega|(simp only [Int.natAbs_neg,BC,Int.natAbs_natCast];omega))) O (AV.back (sl sr) (AV.imp O (BW call72 (Hy a Z) O ?_)))))
   refine AV.back (sl sr) (AV.imp O (BW call70 (HR (a.num+b.num) a.den Z Z (by first|omega|assumption)) O (AV.back (sl sr) (AV.imp O (Aq O sizeOf53 O ?_)))))
   refine AV.back (sl sr) (AV.nil (AC.subF (sL [2,3,4] O) (AC.then_ (AF.ret (AC.in_ret ?_)))))
   exact AC.then_ret (AT O (A7 (i:=0) (cs:=AH (mkRat (a.num+b.num) a.den)) O O isAgg53 sizeOf53 O) (λw hw=>⟨by rw [he],hw.out⟩))
  ·replace hc1:=of_decide_eq_false hc1
   refine AF.skip (AC.in_normal (q1 (Cu [(0,true),(1,true),(2,true),(5,true),(6,true),(7,true),(11,true),(13,true),(3,false),(4,false),(8,false),(9,false),(10,false),(12,false),(14,false),(15,false),(16,false),(17,false)] (sl sr) (Ax (v:=(pP b1 0)) O (AA O underlying53 O sizeOf51 O) (HU 1 (BJ a.num) Db O ?_)))))
   refine EW 0 BP O (Ax (v:=(pP b2 0)) O (AA O underlying53 O sizeOf51 O) (HU 0 (BJ b.num) Db O (EW 1 BP O (EW 1 BP O (EW 0 BP O ?_)))))
   refine AV.imp O (BW call83 (HG b Z) O (AV.back (sl sr) (AV.imp O (BW call69 (HP a.num ((b.den:Nat):Int) (by first|omega|(simp only [Int.natAbs_neg,BC,Int.natAbs_natCast];omega)) (by first|omega|(simp only [Int.natAbs_neg,BC,Int.natAbs_natCast];omega))) O (AV.back (sl sr) ?_)))))
   refine AV.imp O (BW call83 (HG a Z) O (AV.back (sl sr) (AV.imp O (BW call69 (HP b.num ((a.den:Nat):Int) (by first|omega|(simp only [Int.natAbs_neg,BC,Int.natAbs_natCast];omega)) (by first|omega|(simp only [Int.natAbs_neg,BC,Int.natAbs_natCast];omega))) O (AV.back (sl sr) ?_)))))
   refine AV.imp O (BW call82 (NR (a.num*((b.den:Nat):Int)) (b.num*((a.den:Nat):Int)) (by first|omega|(simp only [Int.natAbs_neg,BC,Int.natAbs_natCast];omega)) (by first|omega|(simp only [Int.natAbs_neg,BC,Int.natAbs_natCast];omega))) O (AV.back (sl sr) (AV.imp O (BW call72 (Hy a Z) O (AV.back (sl sr) ?_)))))
   refine AV.imp O (BW call72 (Hy b Z) O (AV.back (sl sr) (AV.imp O (BW call71 (PM a.den b.den Z Z) O (AV.back (sl sr) ?_)))))
   refine AV.imp O (BW call70 (HR ((a.num*((b.den:Nat):Int))+(b.num*((a.den:Nat):Int))) (a.den*b.den) Z Z (by first|omega|assumption)) O (AV.back (sl sr) (AV.imp O (Aq O sizeOf53 O (AV.back (sl sr) ?_)))))
   exact AV.nil (AC.subF (sL [2,3,4] O) (AC.then_ (AF.ret (AT O (A7 (i:=0) (cs:=AH (mkRat ((a.num*((b.den:Nat):Int))+(b.num*((a.den:Nat):Int))) (a.den*b.den))) O O isAgg53 sizeOf53 O) (λw hw=>⟨by rw [he],hw.out⟩)))))
theorem No (a b:Rat) (hs:Sz a+Sz b<=549755813888) (w:World)  :Calls prog 111 #[(aG (AH a)),(aG (AH b))] w (Av w (aG (AH (a-b)))):=by
 refine Ag (args:=[(aG (AH a)),(aG (AH b))]) func111 O O (Ab O) (AF.subF (sL [0,1] O) (q4 (Bo (cs:=AH a) O λb1=>Bo (cs:=AH b) O λb2=>al DL O λb3=>?_)))
 refine q6 (sL [2,3,4] O) (Cu [(0,true),(1,true),(2,false),(3,false),(4,false)] (sl sr) (EW 1 BP O (EW 0 BP O (AV.imp O (BW call169 (Vh b) O ?_)))))
 refine AV.back (sl sr) (AV.imp O ?_)
 have hz1:=FS a (-b)
 refine BW call29 (Fi a (-b) (by (try simp only [Dc]);omega)) O (AV.back (sl sr) (AV.imp O (Aq O sizeOf53 O (AV.back (sl sr) (AV.nil ?_)))))
 exact AC.subF (sL [4] O) (AC.then_ (AF.ret (AT O (A7 (i:=0) (cs:=AH (a+(-b))) O O isAgg53 sizeOf53 O) (λw hw=>⟨by rw [Rat.sub_eq_add_neg],hw.out⟩))))
theorem IG (a b:Rat) (hs:Sz a+Sz b<=549755813888) (w:World)  :Calls prog 24 #[(aG (AH a)),(aG (AH b))] w (Av w (aG (AH (a*b)))):=by
 have s1:=Eo a
 have s2:=EH a
 have s3:=Eo b
 have s4:=EH b
 have s5:=Dj a b
 have s6:=Dj b a
 have s7:=I5 a b
 have s8:=Kc a b
 have s9:=E8 a.num b.num
 have s10:=E8 (a.num*((b.den:Nat):Int)) (b.num*((a.den:Nat):Int))
 have hda:=a.den_nz
 have hdb:=b.den_nz
 have hdab:a.den*b.den≠0:=Nat.mul_ne_zero hda hdb
 refine Ag (args:=[(aG (AH a)),(aG (AH b))]) func24 O O (Ab O) (AF.subF (sL [0,1] O) (q4 (Bo (cs:=AH a) O λb1=>Bo (cs:=AH b) O λb2=>al DL O λb3=>?_)))
 refine q6 (sL [2,3,4] O) (q4 (A6 2 BP O (BW call67 (H6 a) O (AR O ?_))))
 refine AE.mid (FM:=[(2,(pP b1 0)),(3,(pP b2 0)),(4,(pP b3 0)),(5,(aG (AH a))),(6,(Value.bool (decide (a.den-1=0)))),(7,(Value.bool (decide (a.den-1=0)))),(10,(Value.bool ((decide (a.den-1=0))&&(decide (b.den-1=0)))))]) (LM:=[Af b3 53 (AH (0:Rat)),Af b2 53 (AH b),Af b1 53 (AH a)]) 3 ?_ ?_
 ·rcases Bool.eq_false_or_eq_true (decide (a.den-1=0)) with hg1|hg1
  ·skip
   refine AE.retell (k:=7) (u:=Value.bool true) O (by rw [hg1]) ?_
   have hg1':=hg1
   replace hg1':=of_decide_eq_true hg1'
   exact AE.step (v:=(aG (AH b))) (AB O) (Ac (i:=1) (vs:=AH b) O O BP.a BP.s O O) O (Ab O) (AE.call (v:=(Value.bool (decide (b.den-1=0)))) (AB O) (A8 (args:=[(aG (AH b))]) O O call67) (λw hw=>H6 b w) O (Ab O) (AI (v:=(Value.bool (decide (b.den-1=0)))) (Ah O O) O (AE.nil (AC.mid (sS O (sS O (sS O (sS O (sS O (sS (by first|rfl|(rw [hg1];rfl)|rw [hg1]) (sS (by first|rfl|(rw [hg1];rfl)|rw [hg1]) (sN)))))))) (List.Sublist.refl _)))))
  ·skip
   refine AE.retell (k:=7) (u:=Value.bool false) O (by rw [hg1]) ?_
   have hg1':=hg1
   replace hg1':=of_decide_eq_false hg1'
   exact AE.skip (AL O) O (Ab O) (AE.skip (AL O) O (Ab O) (AI (v:=(Value.bool false)) (AS O O) O (AE.nil (AC.mid (sS O (sS O (sS O (sS O (sS O (sS (by first|rfl|(rw [hg1];rfl)|rw [hg1]) (sS (by first|rfl|(rw [hg1];rfl)|rw [hg1]) (sN)))))))) (List.Sublist.refl _)))))
 refine AE.nil (AC.subF (sL [2,3,4,10] O) (AC.then_ ?_))
 refine AF.cond O (λhc0=>?_) (λhc0=>?_)
 ·simp only [Bool.and_eq_true,Bool.or_eq_true,Bool.and_eq_false_iff,Bool.or_eq_false_iff,Bool.not_eq_true',Bool.not_eq_false',decide_eq_true_eq,decide_eq_false_iff_not] at hc0
  have he:=Rz hc0.1 hc0.2
  refine q4 (AI (v:=(pP b1 0)) (AA O underlying53 O sizeOf51 O) O (EX 2 (BJ a.num) Db O (AI (v:=(pP b2 0)) (AA O underlying53 O sizeOf51 O) O (EX 1 (BJ b.num) Db O (BW call69 (HP a.num b.num (by first|omega|(simp only [Int.natAbs_neg,BC,Int.natAbs_natCast];omega)) (by first|omega|(simp only [Int.natAbs_neg,BC,Int.natAbs_natCast];omega))) O ?_)))))
  refine BW call68 (K4 (a.num*b.num)) O (Aq O sizeOf53 O (AE.nil (AC.subF (sL [2,3,4] O) (AC.then_ (AF.ret ?_)))))
  exact AC.then_ret (AT O (A7 (i:=0) (cs:=AH ((a.num*b.num:Int):Rat)) O O isAgg53 sizeOf53 O) (λw hw=>⟨by rw [he],hw.out⟩))
 ·simp only [Bool.and_eq_true,Bool.or_eq_true,Bool.and_eq_false_iff,Bool.or_eq_false_iff,Bool.not_eq_true',Bool.not_eq_false',decide_eq_true_eq,decide_eq_false_iff_not] at hc0
  have he:=MS a b
  refine AF.skip (q1 (Cu [(0,true),(1,true),(2,true),(3,true),(5,true),(7,true),(4,false),(6,false),(8,false),(9,false),(10,false),(11,false)] (sl sr) (Ax (v:=(pP b1 0)) O (AA O underlying53 O sizeOf51 O) (HU 1 (BJ a.num) Db O (Ax (v:=(pP b2 0)) O (AA O underlying53 O sizeOf51 O) ?_)))))
  refine HU 0 (BJ b.num) Db O (EW 1 BP O (EW 0 BP O (AV.imp O (BW call69 (HP a.num b.num (by first|omega|(simp only [Int.natAbs_neg,BC,Int.natAbs_natCast];omega)) (by first|omega|(simp only [Int.natAbs_neg,BC,Int.natAbs_natCast];omega))) O (AV.back (sl sr) ?_)))))
  refine AV.imp O (BW call72 (Hy a Z) O (AV.back (sl sr) (AV.imp O (BW call72 (Hy b Z) O (AV.back (sl sr) ?_)))))
  refine AV.imp O (BW call71 (PM a.den b.den Z Z) O (AV.back (sl sr) (AV.imp O (BW call70 (HR (a.num*b.num) (a.den*b.den) Z Z (by first|omega|assumption)) O (AV.back (sl sr) ?_)))))
  refine AV.imp O (Aq O sizeOf53 O (AV.back (sl sr) (AV.nil (AC.subF (sL [2,3,4] O) (AC.then_ ?_)))))
  exact AF.ret (AT O (A7 (i:=0) (cs:=AH (mkRat (a.num*b.num) (a.den*b.den))) O O isAgg53 sizeOf53 O) (λw hw=>⟨by rw [he],hw.out⟩))
theorem Jp (a b:Rat) (hs:Sz a+Sz b<=549755813888) (hb:b≠0) (w:World)  :Calls prog 66 #[(aG (AH a)),(aG (AH b))] w (Av w (Value.tuple #[(aG (AH (a/b))),(vI 0)])):=by
 have s1:=Eo a
 have s2:=EH a
 have s3:=Eo b
 have s4:=EH b
 have s5:=Dj a b
 have s6:=Dj b a
 have s7:=I5 a b
 have s8:=Kc a b
 have s9:=E8 a.num b.num
 have s10:=E8 (a.num*((b.den:Nat):Int)) (b.num*((a.den:Nat):Int))
 have hda:=a.den_nz
 have hdb:=b.den_nz
 have hdab:a.den*b.den≠0:=Nat.mul_ne_zero hda hdb
 have hbn:b.num≠0:=λe=>hb (Rat.num_eq_zero.1 e)
 have hbs:b.num.sign≠0:=λe=>hbn (Int.sign_eq_zero_iff_zero.1 e)
 have hmi:nw (FF (decide (b.num.sign<(0:Int))) b.den).natAbs=nw b.den:=by rw [BC]
 have hinv:=MP hb
 have hsi:=Uu hb
 rw [<-hinv] at hsi
 refine Ag (args:=[(aG (AH a)),(aG (AH b))]) func66 O O (Ab O) (AF.subF (sL [0,1] O) (q4 (Bo (cs:=AH a) O λb1=>Bo (cs:=AH b) O λb2=>al DL O λb3=>?_)))
 refine AO O (q6 (sL [2,3,4,5] O) (q4 (A6 1 BP O (BW call63 (FX b) O (AI (BS (c:=(decide (b.num.sign=(0:Int)))) O O O) O ?_)))))
 refine AE.nil (AC.subF (sL [2,3,4,5,9] O) (AC.then_ ?_))
 refine AF.cond O (λhc0=>?_) (λhc0=>?_)
 ·replace hc0:=of_decide_eq_true hc0
  exact absurd hc0 hbs
 ·replace hc0:=of_decide_eq_false hc0
  refine AF.skip (q1 (rN [(0,true),(3,true),(6,true),(7,true),(1,false),(2,true),(4,false),(5,false),(8,false),(9,false)] [⟨10,6,53,AH (0:Rat)⟩] [(11,false)] sr (by kernel_rfl) (λ_ _ d _ _ h=>by cases d<;>exact h) (Fb O O DL O (IU)) O (H0 1 BP O (H0 1 BP O (GA (v:=(pP b2 0)) O (AA O underlying53 O sizeOf51 O) O ?_)))))
  refine VE 1 (BJ b.num) Db O (CS.imp O λEF EL=>BW call63 (FX b) O (CS.back0 sr O (GA O (Am (c:=(decide (b.num.sign<(0:Int)))) O O O) O (CS.imp O λEF EL=>?_))))
  refine BW call72 (Hy b Z) O (CS.back0 sr O (CS.imp O λEF EL=>BW call140 (ET (decide (b.num.sign<(0:Int))) b.den) O (CS.back0 sr O (CS.imp O λEF EL=>?_))))
  refine BW call141 (Nf b.num) O (CS.back0 sr O (CS.imp O λEF EL=>BW call70 (HR (FF (decide (b.num.sign<(0:Int))) b.den) b.num.natAbs Z Z (by first|omega|assumption)) O (CS.back0 sr O (CS.news1 λb4=>?_))))
  refine AV.imp O (Aq O sizeOf53 O (AV.back (sl sr) (AV.nil (AC.subF (sL [2,3,4,5,6] O) (q2 ?_)))))
  refine A6 3 BP O (A6 0 BP O ?_)
  have hz1:=DM a (mkRat (FF (decide (b.num.sign<(0:Int))) b.den) b.num.natAbs)
  refine BW call24 (IG a (mkRat (FF (decide (b.num.sign<(0:Int))) b.den) b.num.natAbs) (by (try simp only [Dc]);omega)) O (Cq O sizeOf53 O (AO O (AE.nil (AC.subF (sL [3,4,5,6] O) (AC.then_ ?_)))))
  exact AF.ret (DF O (A7 (i:=1) (cs:=AH (a*(mkRat (FF (decide (b.num.sign<(0:Int))) b.den) b.num.natAbs))) O O isAgg53 sizeOf53 O) (Ak (v:=(vI 0)) O) (λw hw=>⟨by rw [hinv,Rat.div_def],hw.out⟩))
theorem Lw  :Instr.fill ([(0,3),(3,2)].toArray[·]?) (AH (0:Rat)).toArray []=some (AH (0:Rat)).toArray:=by kernel_rfl
theorem TM (a:Rat) (w:World)  :Calls prog 66 #[(aG (AH a)),(aG (AH (0:Rat)))] w (Av w (Value.tuple #[(aG (AH (0:Rat))),(vI 5)])):=by
 refine Ag (args:=[(aG (AH a)),(aG (AH (0:Rat)))]) func66 O O (Ab O) (AF.subF (sL [0,1] O) (q4 (Bo (cs:=AH a) O λb1=>Bo (cs:=AH (0:Rat)) O λb2=>al DL O λb3=>?_)))
 refine AO O (q6 (sL [2,3,4,5] O) (q4 (A6 1 BP O (BW call63 (FX (0:Rat)) O (AI (BS (c:=(decide (((0:Rat).num.sign)=(0:Int)))) O O O) O ?_)))))
 refine AE.nil (AC.subF (sL [2,3,4,5,9] O) (AC.then_ ?_))
 refine AF.cond O (λhc0=>?_) (λhc0=>?_)
 ·replace hc0:=of_decide_eq_true hc0
  refine q4 (AI (v:=(aG (AH (0:Rat)))) (Ad (zs:=AH (0:Rat)) (vs:=AH (0:Rat)) (pv:=[]) (places:=[(0,3),(3,2)]) zeroValue53 underlying53 (λw=>by simp [sizeOf47,sizeOf51]) O (Lw )) O (Aq O sizeOf53 O (AO O (AE.nil (AC.subF (sL [2,3,4,5] O) ?_)))))
  exact AC.then_ (AF.ret (AC.then_ret (DF O (A7 (i:=0) (cs:=AH (0:Rat)) O O isAgg53 sizeOf53 O) (Ak (v:=(vI 5)) O) (λw hw=>⟨rfl,hw.out⟩))))
 ·replace hc0:=of_decide_eq_false hc0
  exact absurd O hc0
theorem J3 (z:Int) (hz:-9223372036854775808<=z) (hz2:z<9223372036854775808) (w:World)  :Calls prog 25 #[(vI z)] w (Av w (aG (AH ((z:Int):Rat)))):=by
 refine Ag (args:=[(vI z)]) func25 O O (Ab O) (AF.subF (sL [0] O) (q4 (al DL O λb1=>AE.nil (q2 ?_))))
 refine AR O (BW call73 (Xw z Z Z) O (BW call68 (K4 z) O (Aq O sizeOf53 O (AE.nil (AC.subF (sL [2] O) ?_)))))
 exact AC.then_ (AF.ret (AT O (A7 (i:=0) (cs:=AH ((z:Int):Rat)) O O isAgg53 sizeOf53 O) (λw hw=>⟨rfl,hw.out⟩)))
end
section
instance:Add Pt:=⟨λa b=>⟨a.x+b.x,a.y+b.y⟩⟩
instance:Sub Pt:=⟨λa b=>⟨a.x-b.x,a.y-b.y⟩⟩
def Cb (a:Pt) (k:Rat):Pt:=⟨a.x*k,a.y*k⟩
def In (a b:Pt):Rat:=a.x*b.y-a.y*b.x
def AJ (a b c:Pt):Rat:=In (b-a) (c-a)
def B5 (p:Pt):Nat:=max (Sz p.x) (Sz p.y)
theorem Es (p:Pt):Sz p.x<=B5 p:=Nat.le_max_left ..
theorem Ey (p:Pt):Sz p.y<=B5 p:=Nat.le_max_right ..
theorem NS {p:Pt} {k:Nat} (h1:Sz p.x<=k) (h2:Sz p.y<=k):B5 p<=k:=Nat.max_le.2 ⟨h1,h2⟩
theorem Na (a b:Pt):B5 (a+b)<=B5 a+B5 b+1:=by
  have h1:=Es a;have h2:=Ey a;have h3:=Es b;have h4:=Ey b
  refine NS ?_ ?_
  · exact Nat.le_trans (FS a.x b.x) Z
  · exact Nat.le_trans (FS a.y b.y) Z
theorem HL (a b:Pt):B5 (a-b)<=B5 a+B5 b+1:=by
  have h1:=Es a;have h2:=Ey a;have h3:=Es b;have h4:=Ey b
  refine NS ?_ ?_
  · exact Nat.le_trans (Iu a.x b.x) Z
  · exact Nat.le_trans (Iu a.y b.y) Z
theorem Id (a:Pt) (k:Rat):B5 (Cb a k)<=B5 a+Sz k:=by
  have h1:=Es a;have h2:=Ey a
  refine NS ?_ ?_
  · exact Nat.le_trans (DM a.x k) Z
  · exact Nat.le_trans (DM a.y k) Z
theorem KZ (a b:Pt):Sz (In a b)<=2*B5 a+2*B5 b+1:=by
  have h1:=Es a;have h2:=Ey a;have h3:=Es b;have h4:=Ey b
  have h5:=DM a.x b.y;have h6:=DM a.y b.x
  exact Nat.le_trans (Iu _ _) Z
theorem C1 (a b c:Pt):Sz (AJ a b c)<=4*B5 a+2*B5 b+2*B5 c+5:=by
  have h1:=HL b a;have h2:=HL c a
  exact Nat.le_trans (KZ _ _) Z
theorem Jz:Sz (1/2:Rat)<=1:=by decide +kernel
theorem Ql:((1:Int):Rat)/((2:Int):Rat)=1/2:=by decide +kernel
theorem M9 {z:Int} (h1:-9223372036854775808<=z) (h2:z<9223372036854775808):Sz ((z:Int):Rat)<=2:=XT (K6 (by show z.natAbs<_;omega)) (by show nw 1<=2;rw [KJ];omega)
theorem XK (a b:Pt):Aj (a+b)=AH (a.x+b.x)++AH (a.y+b.y):=rfl
theorem Ws (a b:Pt):Aj (a-b)=AH (a.x-b.x)++AH (a.y-b.y):=rfl
theorem Ru (a:Pt) (k:Rat):Aj (Cb a k)=AH (a.x*k)++AH (a.y*k):=rfl
theorem Yb (x y:Rat):Aj ⟨x,y⟩=AH x++AH y:=rfl
section
variable {P:Program} {Q:Exit->Act->World->Prop} {n:Nat} {F:List (Nat×Value)} {w0:BM} {L:List As} {c:Code}
def GC (P:Program) (c:Code) (Q:Exit->Act->World->Prop) (k n:Nat) (F:List (Nat×Value)) (w0:BM) (L:List As):Prop:=∀a w,Frm n a F->Own w0 w L->Code.rounds P c Q k a w
theorem AF.unroll (k:Nat) (h:GC P c Q k n F w0 L):AF P (.loop c) Q n F w0 L:=λa w ha hw=>wp_loop_rounds k (h a w ha hw)
theorem GC.step {k:Nat} (h:AF P c (Exit.then (Code.rounds P c Q k) Q) n F w0 L):GC P c Q (k+1) n F w0 L:=λa w ha hw=>by
  rw [rounds_succ];exact h a w ha hw
theorem AC.again {k:Nat} (h:GC P c Q k n F w0 L):AC (Exit.then (Code.rounds P c Q k) Q) .normal n F w0 L:=h
end
end
end Go.Proofs.YtfbomiejpbchdaaGreat
