import Derived.Test.YtfbomiejpbchdaaGreatPart06
import Derived.Test.YtfbomiejpbchdaaGreatPart14
import Derived.Test.YtfbomiejpbchdaaGreatPart17
namespace Go.Proofs.YtfbomiejpbchdaaGreat
open Go Go.RowKit
set_option linter.unusedVariables false
set_option linter.unusedSimpArgs false
def Sz (q:Rat):Nat:=max (nw q.num.natAbs) (nw q.den)
theorem EE (q:Rat):nw q.num.natAbs<=Sz q:=Nat.le_max_left ..
theorem Dq (q:Rat):nw q.den<=Sz q:=Nat.le_max_right ..
theorem V3 {q:Rat} {k:Nat} (h1:nw q.num.natAbs<=k) (h2:nw q.den<=k):Sz q<=k:=Nat.max_le.2 ⟨h1,h2⟩
theorem KH:nw 1=1:=by decide
theorem Ri (q:Rat):1<=Sz q:=Nat.le_trans (by rw [<-KH];exact DL q.den_pos) (Dq q)
theorem KV {n:Int} {d k:Nat} (h1:nw n.natAbs<=k) (h2:nw d<=k) (hk:1<=k):Sz (mkRat n d)<=k:=by
  refine V3 ?_ ?_
  · rw [Rat.num_mkRat]
    split
    · exact Nat.zero_le _
    · refine Nat.le_trans (DL ?_) h1
      rw [Int.natAbs_ediv_of_dvd (by rw [Int.ofNat_dvd_left];exact Nat.gcd_dvd_right ..)]
      exact Nat.div_le_self _ _
  · rw [Rat.den_mkRat]
    split
    · rw [KH];exact hk
    · exact Nat.le_trans (DL (Nat.div_le_self _ _)) h2
theorem Pe (a b:Int):nw (a*b).natAbs<=nw a.natAbs+nw b.natAbs:=by rw [Int.natAbs_mul];exact SV _ _
theorem EP (a b:Int):nw (a+b).natAbs<=max (nw a.natAbs) (nw b.natAbs)+1:=Nat.le_trans (DL (Int.natAbs_add_le a b)) (WO _ _)
theorem DK (a b:Rat):nw (a.num*((b.den:Nat):Int)).natAbs<=Sz a+Sz b:=by
  have h1:=Pe a.num ((b.den:Nat):Int)
  have h2:=EE a
  have h3:=Dq b
  rw [Int.natAbs_natCast] at h1
  omega
theorem IY (a b:Rat):nw (a.den*b.den)<=Sz a+Sz b:=by
  have h1:=SV a.den b.den
  have h2:=Dq a
  have h3:=Dq b
  omega
theorem KE (a b:Rat):nw (a.num*b.num).natAbs<=Sz a+Sz b:=by
  have h1:=Pe a.num b.num
  have h2:=EE a
  have h3:=EE b
  omega
theorem LJ (a b:Rat):mkRat (a.num*((b.den:Nat):Int)+b.num*((a.den:Nat):Int)) (a.den*b.den)=a+b:=by rw [Rat.add_def,Rat.normalize_eq_mkRat]
theorem Lp (a b:Rat):mkRat (a.num*b.num) (a.den*b.den)=a*b:=by rw [Rat.mul_def,Rat.normalize_eq_mkRat]
theorem Hq {a:Rat} (h:a.den-1=0):a=((a.num:Int):Rat):=by
  have h1:a.den=1:=by have:=a.den_pos;omega
  exact Rat.ext rfl h1
theorem QW {a b:Rat} (ha:a.den-1=0) (hb:b.den-1=0):((a.num+b.num:Int):Rat)=a+b:=by
  rw [Rat.intCast_add,<-Hq ha,<-Hq hb]
theorem QP {a b:Rat} (ha:a.den-1=0) (hb:b.den-1=0):((a.num*b.num:Int):Rat)=a*b:=by
  rw [Rat.intCast_mul,<-Hq ha,<-Hq hb]
theorem Nh {a b:Rat} (h:a.den-1=b.den-1):a.den=b.den:=by
  have h1:=a.den_pos
  have h2:=b.den_pos
  omega
theorem T0 {a b:Rat} (h:a.den-1=b.den-1):mkRat (a.num+b.num) a.den=a+b:=by
  have h1:=Nh h
  have h2:a+b=mkRat a.num a.den+mkRat b.num a.den:=by rw [Rat.mkRat_self];conv=>lhs;rw [<-Rat.mkRat_self b,<-h1]
  rw [h2,Rat.mkRat_eq_div,Rat.mkRat_eq_div,Rat.mkRat_eq_div,Rat.intCast_add,Rat.div_def,Rat.div_def,Rat.div_def,Rat.add_mul]
theorem IJ (a b:Rat):Sz (a+b)<=Sz a+Sz b+1:=by
  rw [<-LJ]
  have h1:=DK a b
  have h2:=DK b a
  have h3:=EP (a.num*((b.den:Nat):Int)) (b.num*((a.den:Nat):Int))
  have h4:=IY a b
  exact KV (by omega) (by omega) (by omega)
theorem FY (a b:Rat):Sz (a*b)<=Sz a+Sz b:=by
  rw [<-Lp]
  have:=Ri a
  exact KV (KE a b) (IY a b) (by omega)
theorem Eh (a:Rat):Sz (-a)=Sz a:=by unfold Sz;rw [Rat.neg_num,Rat.neg_den,Int.natAbs_neg]
theorem II (a b:Rat):Sz (a-b)<=Sz a+Sz b+1:=by rw [Rat.sub_eq_add_neg,<-Eh b];exact IJ a (-b)
theorem Ln {b:Rat} (h:b≠0):mkRat (Ea (decide (b.num.sign<0)) b.den) b.num.natAbs=b⁻¹:=by
  have hn:b.num≠0:=λe=>h (Rat.num_eq_zero.1 e)
  have hb:b=(b.num:Rat)/((b.den:Nat):Rat):=by rw [<-Rat.mkRat_eq_div,Rat.mkRat_self]
  have hd:((b.den:Nat):Rat)≠0:=by
    intro e
    have:=b.den_pos
    have h2:b.den=0:=by exact_mod_cast e
    omega
  have hn2:((b.num:Int):Rat)≠0:=by
    intro e
    exact hn (by exact_mod_cast e)
  rw [Rat.mkRat_eq_div]
  conv=>rhs;rw [hb]
  by_cases hs:b.num<0
  · have e1:decide (b.num.sign<0)=true:=by simp [Int.sign_eq_neg_one_of_neg hs]
    have e2:((b.num.natAbs:Nat):Rat) = -((b.num:Int):Rat):=by
      have:((b.num.natAbs:Nat):Int) = -b.num:=by omega
      rw [<-Rat.intCast_natCast,this,Rat.intCast_neg]
    rw [e1,e2]
    simp only [Ea,if_true,Rat.intCast_neg,Rat.intCast_natCast]
    grind
  · have e1:decide (b.num.sign<0)=false:=by
      have:0<=b.num.sign:=Int.sign_nonneg_iff.2 (by omega)
      exact decide_eq_false (by omega)
    have e2:((b.num.natAbs:Nat):Rat)=((b.num:Int):Rat):=by
      have:((b.num.natAbs:Nat):Int)=b.num:=by omega
      rw [<-Rat.intCast_natCast,this]
    rw [e1,e2]
    simp only [Ea,Bool.false_eq_true,if_false,Rat.intCast_natCast]
    grind
theorem S0 {b:Rat} (h:b≠0):Sz b⁻¹<=Sz b:=by
  rw [<-Ln h]
  exact KV (by rw [Az];exact Dq b) (EE b) (Ri b)
theorem SQ {a b:Rat} (h:b≠0):Sz (a/b)<=Sz a+Sz b:=by
  rw [Rat.div_def]
  have h1:=FY a b⁻¹
  have h2:=S0 h
  omega
def GW (a b:Rat):Int:=if a<b then -1 else if a=b then 0 else 1
theorem Ko (a b:Rat):(a.num*((b.den:Nat):Int)-b.num*((a.den:Nat):Int)).sign=GW a b:=by
  have h1:=Rat.lt_iff a b
  have h2:=@Rat.eq_iff_mul_eq_mul a b
  unfold GW
  split
  · rename_i h;exact Int.sign_eq_neg_one_of_neg (by have:=h1.1 h;omega)
  · rename_i h
    split
    · rename_i h';rw [h2.1 h'];simp
    · rename_i h'
      have h3:¬a.num*((b.den:Nat):Int)<b.num*((a.den:Nat):Int):=λe=>h (h1.2 e)
      have h4:¬a.num*((b.den:Nat):Int)=b.num*((a.den:Nat):Int):=λe=>h' (h2.2 e)
      exact Int.sign_eq_one_of_pos (by omega)
theorem QS {a b:Rat} (h:a.den-1=b.den-1):(a.num-b.num).sign=GW a b:=by
  rw [<-Ko,<-Nh h,<-Int.sub_mul,Int.sign_mul]
  have:=a.den_pos
  rw [show ((a.den:Nat):Int).sign=1 from Int.sign_eq_one_of_pos (by omega)]
  simp
theorem I6 {a b:Rat}:GW a b<0↔a<b:=by
  unfold GW;split
  · simp [*]
  · split<;>simp [*]
theorem PV {a b:Rat}:GW a b=0↔a=b:=by
  unfold GW;split
  · rename_i h
    constructor
    · intro e;cases e
    · intro e;subst e;exact absurd h (by simp)
  · split<;>simp [*]
theorem Il (q:Rat):AW q=BB q.num++AV (q.den-1):=rfl
theorem Uw {n:Int} {d:Nat} (hd:d≠0):(mkRat n d).num=Ea (decide (n.sign<0)) (n.natAbs/Nat.gcd n.natAbs d):=by
  rw [Rat.num_mkRat,if_neg hd,Nat.gcd_comm]
  unfold Ea
  by_cases h:n<0
  · rw [Int.sign_eq_neg_one_of_neg h]
    have e:n = -((n.natAbs:Nat):Int):=by omega
    simp only [show decide ((-1:Int)<0)=true from rfl,if_true]
    conv=>lhs;rw [e]
    rw [Int.natAbs_neg,Int.natAbs_natCast,Int.neg_ediv_of_dvd (by rw [Int.natCast_dvd_natCast];exact Nat.gcd_dvd_left ..)]
    rfl
  · have h0:0<=n.sign:=Int.sign_nonneg_iff.2 (by omega)
    have e:n=((n.natAbs:Nat):Int):=by omega
    rw [if_neg (by simp;omega)]
    conv=>lhs;rw [e]
    rw [Int.natAbs_natCast]
    rfl
theorem VL {n:Int} {d:Nat} (hd:d≠0):(mkRat n d).den=d/Nat.gcd n.natAbs d:=by rw [Rat.den_mkRat,if_neg hd,Nat.gcd_comm]
section
set_option maxRecDepth 100000
theorem DG (x0:Int) (x1:Nat):Instr.fill ([(0,3),(3,2)].toArray[·]?) (AW (0:Rat)).toArray [(0,.agg (BB x0).toArray),(1,.agg (AV x1).toArray)]=some (BB x0++AV x1).toArray:=by kernel_rfl
theorem Gb (n:Int) (d:Nat) (hn:nw n.natAbs<=1099511627776) (hd:nw d<=1099511627776) (hd0:d≠0) (w:World)  :Calls Tryz.prog 70 #[(aG (BB n)),(aG (AV d))] w (Ax w (aG (AW (mkRat n d)))):=by
 have hg:Nat.gcd n.natAbs d≠0:=λh=>hd0 (Nat.eq_zero_of_gcd_eq_zero_right h)
 have hgw:nw (Nat.gcd n.natAbs d)<=nw d:=DL (Nat.gcd_le_right _ (Nat.pos_of_ne_zero hd0))
 have hqw:nw (d/Nat.gcd n.natAbs d)<=nw d:=DL (Nat.div_le_self _ _)
 have h1w:=KH
 refine Ad (args:=[(aG (BB n)),(aG (AV d))]) Tryz.func70 rfl rfl (Af rfl) (AE.subF (sL [0,1] rfl) (q4 (CB (cs:=BB n) rfl λb1=>CB (cs:=AV d) rfl λb2=>al Gr rfl λb3=>?_)))
 refine q6 (sL [2,3,4] rfl) (rN [(0,true),(2,true),(1,false),(3,false)] [⟨4,5,47,AV 0⟩] [(5,false)] sr (by kernel_rfl) (λ_ _ d _ _ h=>by cases d<;>exact h) (Uf rfl rfl Fg rfl (Wi)) rfl (XG 2 DB rfl (XG 1 B6 rfl (DP.imp rfl λEF EL=>BY Tryz.call141 (MZ n) rfl ?_))))
 refine DP.back0 sr rfl (DP.imp rfl λEF EL=>BY Tryz.call144 (Ws n.natAbs d (by omega) (by omega)) rfl (DP.back0 sr rfl (DP.news1 λb4=>AP.imp rfl ?_)))
 refine A6 rfl Tryz.sizeOf47 rfl (AP.back (sl sr) (AP.nil (AC.subF (sL [2,3,4,5] rfl) (q1 (rN [(0,true),(2,true),(1,false),(3,false),(4,true),(5,true),(6,true),(7,true)] [⟨8,6,47,AV 0⟩,⟨9,7,47,AV 0⟩] [(10,false),(11,false),(12,true)] sr (by kernel_rfl) (λ_ _ d _ _ h=>by cases d<;>exact h) (Uf rfl rfl Fg rfl (Uf rfl rfl Fg rfl (Wi))) rfl ?_)))))
 refine XG 3 DB rfl (XG 0 B6 rfl (DP.imp rfl λEF EL=>BY Tryz.call141 (MZ n) rfl (DP.back0 sr rfl (DP.imp rfl λEF EL=>?_))))
 refine BY Tryz.call145 (O0 n.natAbs (Nat.gcd n.natAbs d) (by omega) (by omega) (by omega)) rfl (DP.back0 sr rfl (Ye rfl (Xb rfl (AY (v:=(aG (AV (n.natAbs/(Nat.gcd n.natAbs d))))) rfl rfl) rfl (Xb rfl (AY (v:=(aG (AV (n.natAbs%(Nat.gcd n.natAbs d))))) rfl rfl) rfl (Xb rfl (AY (v:=(Value.bool true)) rfl rfl) rfl ?_)))))
 refine DP.news2 λb5 b6=>AP.imp rfl (A6 rfl Tryz.sizeOf47 rfl (AP.back (sl (sl sr)) (AP.imp rfl (DU rfl Tryz.sizeOf47 rfl ?_))))
 refine AP.back (sl (sl sr)) (E5 rfl (AP.nil (AC.subF (sL [2,3,4,5,6] rfl) (q2 (BF 4 B6 rfl ?_)))))
 refine BF 2 B6 rfl (BY Tryz.call145 (O0 d (Nat.gcd n.natAbs d) (by omega) (by omega) (by omega)) rfl (AO rfl (AH (AY (v:=(aG (AV (d/(Nat.gcd n.natAbs d))))) rfl rfl) rfl (AH (AY (v:=(aG (AV (d%(Nat.gcd n.natAbs d))))) rfl rfl) rfl (AH (AY (v:=(Value.bool true)) rfl rfl) rfl ?_)))))
 refine al Fg rfl λb7=>al Fg rfl λb8=>DU rfl Tryz.sizeOf47 rfl (A6 rfl Tryz.sizeOf47 rfl (AL rfl (q6 (sL [2,3,4,5,6,9] rfl) ?_)))
 refine rC [(0,true),(1,false),(2,false),(3,true),(4,true),(5,true)] 6 [] sr (sk (sl sr)) (by kernel_rfl) (λ_ _ d _ _ h=>by cases d<;>exact h) (vE (v:=(aG (AV (d/(Nat.gcd n.natAbs d))))) rfl (Ak (i:=1) (vs:=AV (d/(Nat.gcd n.natAbs d))) rfl rfl B6.a B6.s rfl rfl) rfl (Cg.imp rfl (BY Tryz.call147 (JI 1 (by omega)) rfl (Cg.back sr (Cg.imp rfl ?_)))))
 refine BY Tryz.call146 (Od (d/(Nat.gcd n.natAbs d)) 1 (by omega) (by omega)) rfl (Cg.back sr (vM rfl rfl rfl (vE rfl (AY (v:=(aG (AV ((d/(Nat.gcd n.natAbs d))-1)))) rfl rfl) rfl (vE rfl (AY (v:=(Value.bool (decide (1<=d/(Nat.gcd n.natAbs d))))) rfl rfl) rfl (Cg.cut rfl ?_)))))
 refine DU rfl Tryz.sizeOf47 rfl (AP.back (sk (sl sr)) (AP.nil (AC.subF (sL [2,3,4,5,6,9] rfl) (q1 (C7 [(0,true),(3,true),(5,true),(1,false),(2,true),(4,false),(6,true),(7,false)] (sk (sk (sk (sk (sk (sl sr)))))) ?_)))))
 refine Db 6 DB rfl (Db 2 B6 rfl (Db 1 B6 rfl (AP.imp rfl (BY Tryz.call137 (J1 n) rfl (AP.back (sk (sk (sk (sk (sk (sl sr)))))) ?_)))))
 refine Au rfl (Ag (c:=(decide (n.sign<(0:Int)))) rfl rfl rfl) (AP.imp rfl (BY Tryz.call140 (Dy (decide (n.sign<(0:Int))) (n.natAbs/(Nat.gcd n.natAbs d))) rfl (AP.back (sk (sk (sk (sk (sk (sl sr)))))) (Au (v:=(aG (BB (Ea (decide (n.sign<(0:Int))) (n.natAbs/(Nat.gcd n.natAbs d)))++AV ((d/(Nat.gcd n.natAbs d))-1)))) rfl (AS (zs:=AW (0:Rat)) (vs:=BB (Ea (decide (n.sign<(0:Int))) (n.natAbs/(Nat.gcd n.natAbs d)))++AV ((d/(Nat.gcd n.natAbs d))-1)) (pv:=[(0,(aG (BB (Ea (decide (n.sign<(0:Int))) (n.natAbs/(Nat.gcd n.natAbs d)))))),(1,(aG (AV ((d/(Nat.gcd n.natAbs d))-1))))]) (places:=[(0,3),(3,2)]) Tryz.zeroValue53 Tryz.underlying53 (λw=>by simp [Tryz.sizeOf47,Tryz.sizeOf51]) rfl (DG (Ea (decide (n.sign<(0:Int))) (n.natAbs/(Nat.gcd n.natAbs d))) ((d/(Nat.gcd n.natAbs d))-1))) (AP.imp rfl ?_)))))
 exact Gn 5 (off:=0) (vs:=BB (Ea (decide (n.sign<(0:Int))) (n.natAbs/(Nat.gcd n.natAbs d)))++AV ((d/(Nat.gcd n.natAbs d))-1)) (cs':=BB (Ea (decide (n.sign<(0:Int))) (n.natAbs/(Nat.gcd n.natAbs d)))++AV ((d/(Nat.gcd n.natAbs d))-1)) (AN rfl) rfl Tryz.sizeOf53 rfl (AP.back (sk (sk (sk (sk (sk (sl sr)))))) (AP.nil (AC.subF (sL [2,3,4,5,6,9] rfl) (AC.then_ (AE.ret (AU rfl (Ay (i:=5) (cs:=BB (Ea (decide (n.sign<(0:Int))) (n.natAbs/(Nat.gcd n.natAbs d)))++AV ((d/(Nat.gcd n.natAbs d))-1)) rfl rfl Tryz.isAgg53 Tryz.sizeOf53 rfl) (λw hw=>⟨by rw [Il,Uw hd0,VL hd0],hw.out⟩)))))))
theorem HJ (x0:Int):Instr.fill ([(0,3),(3,2)].toArray[·]?) (AW (0:Rat)).toArray [(0,.agg (BB x0).toArray)]=some (BB x0++AV ((0:Rat).den-1)).toArray:=by kernel_rfl
theorem Jd (n:Int) (w:World)  :Calls Tryz.prog 68 #[(aG (BB n))] w (Ax w (aG (AW ((n:Int):Rat)))):=by
 refine Ad (args:=[(aG (BB n))]) Tryz.func68 rfl rfl (Af rfl) (AE.subF (sL [0] rfl) (q4 (CB (cs:=BB n) rfl λb1=>al Gr rfl λb2=>q3 (sL [1,2] rfl) ?_)))
 refine BF 1 DB rfl (AH (v:=(aG (BB n++AV ((0:Rat).den-1)))) (AS (zs:=AW (0:Rat)) (vs:=BB n++AV ((0:Rat).den-1)) (pv:=[(0,(aG (BB n)))]) (places:=[(0,3),(3,2)]) Tryz.zeroValue53 Tryz.underlying53 (λw=>by simp [Tryz.sizeOf47,Tryz.sizeOf51]) rfl (HJ n)) rfl (A6 rfl Tryz.sizeOf53 rfl (AD.nil (AC.subF (sL [2] rfl) (AC.then_ ?_)))))
 exact AE.ret (AU rfl (Ay (i:=0) (cs:=BB n++AV ((0:Rat).den-1)) rfl rfl Tryz.isAgg53 Tryz.sizeOf53 rfl) (λw hw=>⟨rfl,hw.out⟩))
theorem K0  :Instr.fill ([(0,1),(1,1)].toArray[·]?) (AV 0).toArray []=some (AV 0).toArray:=by kernel_rfl
theorem HP (a:Rat) (w:World)  :Calls Tryz.prog 67 #[(aG (AW a))] w (Ax w (Value.bool (decide (a.den-1=0)))):=by
 refine Ad (args:=[(aG (AW a))]) Tryz.func67 rfl rfl (Af rfl) (AE.subF (sL [0] rfl) (q4 (CB (cs:=AW a) rfl λb1=>AL rfl (q3 (sL [1,2] rfl) ?_))))
 refine AH (v:=(pP b1 3)) (AA rfl Tryz.underlying53 rfl Tryz.sizeOf47 rfl) rfl (En 0 (AV (a.den-1)) B6 rfl (AH (v:=(aG (AV 0))) (AS (zs:=AV 0) (vs:=AV 0) (pv:=[]) (places:=[(0,1),(1,1)]) Tryz.zeroValue47 Tryz.underlying47 (λw=>by simp [Tryz.sizeOf9,Tryz.sizeOf45]) rfl (K0 )) rfl (AH (Be (c:=(decide (a.den-1=0))) rfl rfl Tryz.eqGuardType47 (Ge 9998 (a.den-1) 0)) rfl (AL rfl (AD.nil ?_)))))
 exact AC.subF (sL [2] rfl) (AC.then_ (AE.ret (AU rfl (Am (v:=(Value.bool (decide (a.den-1=0)))) rfl) (λw hw=>⟨rfl,hw.out⟩))))
theorem HG (a:Rat) (ha:nw a.den<=1099511627776) (w:World)  :Calls Tryz.prog 72 #[(aG (AW a))] w (Ax w (aG (AV a.den))):=by
 have h1w:=KH
 have h2w:=DL (Nat.sub_le a.den 1)
 refine Ad (args:=[(aG (AW a))]) Tryz.func72 rfl rfl (Af rfl) (AE.subF (sL [0] rfl) (q4 (CB (cs:=AW a) rfl λb1=>al Fg rfl λb2=>q6 (sL [1,2] rfl) ?_)))
 refine C7 [(0,true),(1,true),(2,false),(3,false),(4,false)] (sl sr) (Au (v:=(pP b1 3)) rfl (AA rfl Tryz.underlying53 rfl Tryz.sizeOf47 rfl) (Gt 0 (AV (a.den-1)) B6 rfl (AP.imp rfl (BY Tryz.call147 (JI 1 (by omega)) rfl (AP.back (sl sr) ?_)))))
 refine AP.imp rfl (BY Tryz.call151 (SO (a.den-1) 1 (by omega) (by omega)) rfl (AP.back (sl sr) (AP.imp rfl (A6 rfl Tryz.sizeOf47 rfl (AP.back (sl sr) ?_)))))
 exact AP.nil (AC.subF (sL [2] rfl) (AC.then_ (AE.ret (AU rfl (Ay (i:=0) (cs:=AV ((a.den-1)+1)) rfl rfl Tryz.isAgg47 Tryz.sizeOf47 rfl) (λw hw=>⟨by rw [Nat.sub_add_cancel a.den_pos],hw.out⟩)))))
theorem Gk (a:Rat) (ha:nw a.den<=1099511627776) (w:World)  :Calls Tryz.prog 83 #[(aG (AW a))] w (Ax w (aG (BB ((a.den:Nat):Int)))):=by
 refine Ad (args:=[(aG (AW a))]) Tryz.func83 rfl rfl (Af rfl) (AE.subF (sL [0] rfl) (q4 (CB (cs:=AW a) rfl λb1=>al It rfl λb2=>q3 (sL [1,2] rfl) ?_)))
 refine BF 1 CQ rfl (BY Tryz.call72 (HG a (by omega)) rfl (BY Tryz.call140 (Dy false a.den) rfl (A6 rfl Tryz.sizeOf51 rfl (AD.nil (AC.subF (sL [2] rfl) ?_)))))
 exact AC.then_ (AE.ret (AU rfl (Ay (i:=0) (cs:=BB (Ea false a.den)) rfl rfl Tryz.isAgg51 Tryz.sizeOf51 rfl) (λw hw=>⟨rfl,hw.out⟩)))
theorem VO (a:Rat) (w:World)  :Calls Tryz.prog 169 #[(aG (AW a))] w (Ax w (aG (AW (-a)))):=by
 refine Ad (args:=[(aG (AW a))]) Tryz.func169 rfl rfl (Af rfl) (AE.subF (sL [0] rfl) (q4 (CB (cs:=AW a) rfl λb1=>al Gr rfl λb2=>q6 (sL [1,2] rfl) ?_)))
 refine C7 [(0,true),(1,true),(3,true),(4,true),(2,false),(5,true),(6,false)] (sl sr) (Au (v:=(pP b1 0)) rfl (AA rfl Tryz.underlying53 rfl Tryz.sizeOf51 rfl) (Gt 0 (BB a.num) DB rfl (Au (v:=(pP b1 3)) rfl (AA rfl Tryz.underlying53 rfl Tryz.sizeOf47 rfl) (Gt 0 (AV (a.den-1)) B6 rfl (AP.imp rfl ?_)))))
 refine BY Tryz.call201 (Pa a.num) rfl (AP.back (sl sr) (Au (v:=(aG (BB (-a.num)++AV (a.den-1)))) rfl (AS (zs:=AW (0:Rat)) (vs:=BB (-a.num)++AV (a.den-1)) (pv:=[(0,(aG (BB (-a.num)))),(1,(aG (AV (a.den-1))))]) (places:=[(0,3),(3,2)]) Tryz.zeroValue53 Tryz.underlying53 (λw=>by simp [Tryz.sizeOf47,Tryz.sizeOf51]) rfl (DG (-a.num) (a.den-1))) (AP.imp rfl (A6 rfl Tryz.sizeOf53 rfl (AP.back (sl sr) ?_)))))
 exact AP.nil (AC.subF (sL [2] rfl) (AC.then_ (AE.ret (AU rfl (Ay (i:=0) (cs:=BB (-a.num)++AV (a.den-1)) rfl rfl Tryz.isAgg53 Tryz.sizeOf53 rfl) (λw hw=>⟨by rw [Il,Rat.neg_num,Rat.neg_den],hw.out⟩)))))
theorem JX (a:Rat) (w:World)  :Calls Tryz.prog 63 #[(aG (AW a))] w (Ax w (vI a.num.sign)):=by
 refine Ad (args:=[(aG (AW a))]) Tryz.func63 rfl rfl (Af rfl) (AE.subF (sL [0] rfl) (q4 (CB (cs:=AW a) rfl λb1=>AL rfl (q3 (sL [1,2] rfl) ?_))))
 refine AH (v:=(pP b1 0)) (AA rfl Tryz.underlying53 rfl Tryz.sizeOf51 rfl) rfl (En 0 (BB a.num) DB rfl (BY Tryz.call137 (J1 a.num) rfl (AL rfl (AD.nil (AC.subF (sL [2] rfl) ?_)))))
 exact AC.then_ (AE.ret (AU rfl (Am (v:=(vI a.num.sign)) rfl) (λw hw=>⟨rfl,hw.out⟩)))
theorem PK (a b:Rat) (hs:Sz a+Sz b<=549755813888) (w:World)  :Calls Tryz.prog 33 #[(aG (AW a)),(aG (AW b))] w (Ax w (vI (GW a b))):=by
 have s1:=EE a
 have s2:=Dq a
 have s3:=EE b
 have s4:=Dq b
 have s5:=DK a b
 have s6:=DK b a
 have s7:=IY a b
 have s8:=KE a b
 have s9:=EP a.num b.num
 have s10:=EP (a.num*((b.den:Nat):Int)) (b.num*((a.den:Nat):Int))
 have hda:=a.den_nz
 have hdb:=b.den_nz
 have hdab:a.den*b.den≠0:=Nat.mul_ne_zero hda hdb
 refine Ad (args:=[(aG (AW a)),(aG (AW b))]) Tryz.func33 rfl rfl (Af rfl) (AE.subF (sL [0,1] rfl) (q4 (CB (cs:=AW a) rfl λb1=>CB (cs:=AW b) rfl λb2=>AL rfl ?_)))
 refine q6 (sL [2,3,4] rfl) (q4 (AH (v:=(pP b1 3)) (AA rfl Tryz.underlying53 rfl Tryz.sizeOf47 rfl) rfl (En 1 (AV (a.den-1)) B6 rfl (AH (v:=(pP b2 3)) (AA rfl Tryz.underlying53 rfl Tryz.sizeOf47 rfl) rfl (En 0 (AV (b.den-1)) B6 rfl ?_)))))
 refine AH (Be (c:=(decide (a.den-1=b.den-1))) rfl rfl Tryz.eqGuardType47 (Ge 9998 (a.den-1) (b.den-1))) rfl (AD.nil (AC.subF (sL [2,3,4,9] rfl) (AC.then_ ?_)))
 refine AE.cond rfl (λhc0=>?_) (λhc0=>?_)
 ·replace hc0:=of_decide_eq_true hc0
  have he:=QS hc0
  refine q4 (AH (v:=(pP b1 0)) (AA rfl Tryz.underlying53 rfl Tryz.sizeOf51 rfl) rfl (En 1 (BB a.num) DB rfl (AH (v:=(pP b2 0)) (AA rfl Tryz.underlying53 rfl Tryz.sizeOf51 rfl) rfl (En 0 (BB b.num) DB rfl (BY Tryz.call94 (PO a.num b.num (by first|omega|(simp only [Int.natAbs_neg,Az,Int.natAbs_natCast];omega)) (by first|omega|(simp only [Int.natAbs_neg,Az,Int.natAbs_natCast];omega))) rfl ?_)))))
  exact AL rfl (AD.nil (AC.subF (sL [2,3,4] rfl) (AC.then_ (AE.ret (AC.then_ret (AU rfl (Am (v:=(vI ((a.num-b.num).sign))) rfl) (λw hw=>⟨by rw [he],hw.out⟩)))))))
 ·replace hc0:=of_decide_eq_false hc0
  have he:=Ko a b
  refine AE.skip (q1 (C7 [(0,true),(1,true),(2,true),(5,true),(6,true),(7,true),(3,false),(4,false),(8,false),(9,false),(10,false),(11,true)] sr (Au (v:=(pP b1 0)) rfl (AA rfl Tryz.underlying53 rfl Tryz.sizeOf51 rfl) (Gt 1 (BB a.num) DB rfl (Db 0 CQ rfl ?_)))))
  refine Au (v:=(pP b2 0)) rfl (AA rfl Tryz.underlying53 rfl Tryz.sizeOf51 rfl) (Gt 0 (BB b.num) DB rfl (Db 1 CQ rfl (AP.imp rfl (BY Tryz.call83 (Gk b (by omega)) rfl (AP.back sr ?_)))))
  refine AP.imp rfl (BY Tryz.call69 (Gj a.num ((b.den:Nat):Int) (by first|omega|(simp only [Int.natAbs_neg,Az,Int.natAbs_natCast];omega)) (by first|omega|(simp only [Int.natAbs_neg,Az,Int.natAbs_natCast];omega))) rfl (AP.back sr (AP.imp rfl (BY Tryz.call83 (Gk a (by omega)) rfl (AP.back sr ?_)))))
  refine AP.imp rfl (BY Tryz.call69 (Gj b.num ((a.den:Nat):Int) (by first|omega|(simp only [Int.natAbs_neg,Az,Int.natAbs_natCast];omega)) (by first|omega|(simp only [Int.natAbs_neg,Az,Int.natAbs_natCast];omega))) rfl (AP.back sr (AP.imp rfl (BY Tryz.call94 (PO (a.num*((b.den:Nat):Int)) (b.num*((a.den:Nat):Int)) (by first|omega|(simp only [Int.natAbs_neg,Az,Int.natAbs_natCast];omega)) (by first|omega|(simp only [Int.natAbs_neg,Az,Int.natAbs_natCast];omega))) rfl (AP.back sr ?_)))))
  exact E5 rfl (AP.nil (AC.subF (sL [2,3,4] rfl) (AC.then_ (AE.ret (AU rfl (Am (v:=(vI (((a.num*((b.den:Nat):Int))-(b.num*((a.den:Nat):Int))).sign))) rfl) (λw hw=>⟨by rw [he],hw.out⟩))))))
theorem MC (a b:Rat) (hs:Sz a+Sz b<=549755813888) (w:World)  :Calls Tryz.prog 29 #[(aG (AW a)),(aG (AW b))] w (Ax w (aG (AW (a+b)))):=by
 have s1:=EE a
 have s2:=Dq a
 have s3:=EE b
 have s4:=Dq b
 have s5:=DK a b
 have s6:=DK b a
 have s7:=IY a b
 have s8:=KE a b
 have s9:=EP a.num b.num
 have s10:=EP (a.num*((b.den:Nat):Int)) (b.num*((a.den:Nat):Int))
 have hda:=a.den_nz
 have hdb:=b.den_nz
 have hdab:a.den*b.den≠0:=Nat.mul_ne_zero hda hdb
 refine Ad (args:=[(aG (AW a)),(aG (AW b))]) Tryz.func29 rfl rfl (Af rfl) (AE.subF (sL [0,1] rfl) (q4 (CB (cs:=AW a) rfl λb1=>CB (cs:=AW b) rfl λb2=>al Gr rfl λb3=>?_)))
 refine q6 (sL [2,3,4] rfl) (AE.block (q4 (BF 2 CQ rfl (BY Tryz.call67 (HP a) rfl (AO rfl ?_)))))
 refine AD.mid (FM:=[(2,(pP b1 0)),(3,(pP b2 0)),(4,(pP b3 0)),(6,(aG (AW a))),(7,(Value.bool (decide (a.den-1=0)))),(8,(Value.bool (decide (a.den-1=0)))),(11,(Value.bool ((decide (a.den-1=0))&&(decide (b.den-1=0)))))]) (LM:=[Ac b3 53 (AW (0:Rat)),Ac b2 53 (AW b),Ac b1 53 (AW a)]) 3 ?_ ?_
 ·rcases Bool.eq_false_or_eq_true (decide (a.den-1=0)) with hg1|hg1
  ·skip
   refine AD.retell (k:=8) (u:=Value.bool true) rfl (by rw [hg1]) ?_
   have hg1':=hg1
   replace hg1':=of_decide_eq_true hg1'
   exact AD.step (v:=(aG (AW b))) (AB rfl) (Ak (i:=1) (vs:=AW b) rfl rfl CQ.a CQ.s rfl rfl) rfl (Af rfl) (AD.call (v:=(Value.bool (decide (b.den-1=0)))) (AB rfl) (A8 (args:=[(aG (AW b))]) rfl rfl Tryz.call67) (λw hw=>HP b w) rfl (Af rfl) (AH (v:=(Value.bool (decide (b.den-1=0)))) (Ae rfl rfl) rfl (AD.nil (AC.mid (sS rfl (sS rfl (sS rfl (sS rfl (sS rfl (sS (by first|rfl|(rw [hg1];rfl)|rw [hg1]) (sS (by first|rfl|(rw [hg1];rfl)|rw [hg1]) (sN)))))))) (List.Sublist.refl _)))))
  ·skip
   refine AD.retell (k:=8) (u:=Value.bool false) rfl (by rw [hg1]) ?_
   have hg1':=hg1
   replace hg1':=of_decide_eq_false hg1'
   exact AD.skip (AM rfl) rfl (Af rfl) (AD.skip (AM rfl) rfl (Af rfl) (AH (v:=(Value.bool false)) (Aa rfl rfl) rfl (AD.nil (AC.mid (sS rfl (sS rfl (sS rfl (sS rfl (sS rfl (sS (by first|rfl|(rw [hg1];rfl)|rw [hg1]) (sS (by first|rfl|(rw [hg1];rfl)|rw [hg1]) (sN)))))))) (List.Sublist.refl _)))))
 refine AL rfl (AD.nil (AC.subF (sL [2,3,4,5] rfl) (AC.then_ ?_)))
 refine AE.cond rfl (λhc0=>?_) (λhc0=>?_)
 ·simp only [Bool.and_eq_true,Bool.or_eq_true,Bool.and_eq_false_iff,Bool.or_eq_false_iff,Bool.not_eq_true',Bool.not_eq_false',decide_eq_true_eq,decide_eq_false_iff_not] at hc0
  have he:=QW hc0.1 hc0.2
  refine q4 (AH (v:=(pP b1 0)) (AA rfl Tryz.underlying53 rfl Tryz.sizeOf51 rfl) rfl (En 2 (BB a.num) DB rfl (AH (v:=(pP b2 0)) (AA rfl Tryz.underlying53 rfl Tryz.sizeOf51 rfl) rfl (En 1 (BB b.num) DB rfl (BY Tryz.call82 (L6 a.num b.num (by first|omega|(simp only [Int.natAbs_neg,Az,Int.natAbs_natCast];omega)) (by first|omega|(simp only [Int.natAbs_neg,Az,Int.natAbs_natCast];omega))) rfl ?_)))))
  refine BY Tryz.call68 (Jd (a.num+b.num)) rfl (A6 rfl Tryz.sizeOf53 rfl (AD.nil (AC.subF (sL [2,3,4] rfl) (AC.then_ (AE.ret ?_)))))
  exact AC.in_ret (AC.then_ret (AU rfl (Ay (i:=0) (cs:=AW ((a.num+b.num:Int):Rat)) rfl rfl Tryz.isAgg53 Tryz.sizeOf53 rfl) (λw hw=>⟨by rw [he],hw.out⟩)))
 ·simp only [Bool.and_eq_true,Bool.or_eq_true,Bool.and_eq_false_iff,Bool.or_eq_false_iff,Bool.not_eq_true',Bool.not_eq_false',decide_eq_true_eq,decide_eq_false_iff_not] at hc0
  have he:=LJ a b
  refine q4 (AH (v:=(pP b1 3)) (AA rfl Tryz.underlying53 rfl Tryz.sizeOf47 rfl) rfl (En 2 (AV (a.den-1)) B6 rfl (AH (v:=(pP b2 3)) (AA rfl Tryz.underlying53 rfl Tryz.sizeOf47 rfl) rfl (En 1 (AV (b.den-1)) B6 rfl (AH (Be (c:=(decide (a.den-1=b.den-1))) rfl rfl Tryz.eqGuardType47 (Ge 9998 (a.den-1) (b.den-1))) rfl ?_)))))
  refine AL rfl (AD.nil (AC.subF (sL [2,3,4,18] rfl) (AC.then_ ?_)))
  refine AE.cond rfl (λhc1=>?_) (λhc1=>?_)
  ·replace hc1:=of_decide_eq_true hc1
   have he:=T0 hc1
   refine AE.seq (C7 [(0,true),(1,true),(2,true),(3,true),(5,true),(4,false),(6,false),(7,false),(8,false)] (sl sr) (Au (v:=(pP b1 0)) rfl (AA rfl Tryz.underlying53 rfl Tryz.sizeOf51 rfl) (Gt 1 (BB a.num) DB rfl (Au (v:=(pP b2 0)) rfl (AA rfl Tryz.underlying53 rfl Tryz.sizeOf51 rfl) (Gt 0 (BB b.num) DB rfl ?_)))))
   refine Db 1 CQ rfl (AP.imp rfl (BY Tryz.call82 (L6 a.num b.num (by first|omega|(simp only [Int.natAbs_neg,Az,Int.natAbs_natCast];omega)) (by first|omega|(simp only [Int.natAbs_neg,Az,Int.natAbs_natCast];omega))) rfl (AP.back (sl sr) (AP.imp rfl (BY Tryz.call72 (HG a (by omega)) rfl ?_)))))
   refine AP.back (sl sr) (AP.imp rfl (BY Tryz.call70 (Gb (a.num+b.num) a.den (by omega) (by omega) (by first|omega|assumption)) rfl (AP.back (sl sr) (AP.imp rfl (A6 rfl Tryz.sizeOf53 rfl ?_)))))
   refine AP.back (sl sr) (AP.nil (AC.subF (sL [2,3,4] rfl) (AC.then_ (AE.ret (AC.in_ret ?_)))))
   exact AC.then_ret (AU rfl (Ay (i:=0) (cs:=AW (mkRat (a.num+b.num) a.den)) rfl rfl Tryz.isAgg53 Tryz.sizeOf53 rfl) (λw hw=>⟨by rw [he],hw.out⟩))
  ·replace hc1:=of_decide_eq_false hc1
   refine AE.skip (AC.in_normal (q1 (C7 [(0,true),(1,true),(2,true),(5,true),(6,true),(7,true),(11,true),(13,true),(3,false),(4,false),(8,false),(9,false),(10,false),(12,false),(14,false),(15,false),(16,false),(17,false)] (sl sr) (Au (v:=(pP b1 0)) rfl (AA rfl Tryz.underlying53 rfl Tryz.sizeOf51 rfl) (Gt 1 (BB a.num) DB rfl ?_)))))
   refine Db 0 CQ rfl (Au (v:=(pP b2 0)) rfl (AA rfl Tryz.underlying53 rfl Tryz.sizeOf51 rfl) (Gt 0 (BB b.num) DB rfl (Db 1 CQ rfl (Db 1 CQ rfl (Db 0 CQ rfl ?_)))))
   refine AP.imp rfl (BY Tryz.call83 (Gk b (by omega)) rfl (AP.back (sl sr) (AP.imp rfl (BY Tryz.call69 (Gj a.num ((b.den:Nat):Int) (by first|omega|(simp only [Int.natAbs_neg,Az,Int.natAbs_natCast];omega)) (by first|omega|(simp only [Int.natAbs_neg,Az,Int.natAbs_natCast];omega))) rfl (AP.back (sl sr) ?_)))))
   refine AP.imp rfl (BY Tryz.call83 (Gk a (by omega)) rfl (AP.back (sl sr) (AP.imp rfl (BY Tryz.call69 (Gj b.num ((a.den:Nat):Int) (by first|omega|(simp only [Int.natAbs_neg,Az,Int.natAbs_natCast];omega)) (by first|omega|(simp only [Int.natAbs_neg,Az,Int.natAbs_natCast];omega))) rfl (AP.back (sl sr) ?_)))))
   refine AP.imp rfl (BY Tryz.call82 (L6 (a.num*((b.den:Nat):Int)) (b.num*((a.den:Nat):Int)) (by first|omega|(simp only [Int.natAbs_neg,Az,Int.natAbs_natCast];omega)) (by first|omega|(simp only [Int.natAbs_neg,Az,Int.natAbs_natCast];omega))) rfl (AP.back (sl sr) (AP.imp rfl (BY Tryz.call72 (HG a (by omega)) rfl (AP.back (sl sr) ?_)))))
   refine AP.imp rfl (BY Tryz.call72 (HG b (by omega)) rfl (AP.back (sl sr) (AP.imp rfl (BY Tryz.call71 (OM a.den b.den (by omega) (by omega)) rfl (AP.back (sl sr) ?_)))))
   refine AP.imp rfl (BY Tryz.call70 (Gb ((a.num*((b.den:Nat):Int))+(b.num*((a.den:Nat):Int))) (a.den*b.den) (by omega) (by omega) (by first|omega|assumption)) rfl (AP.back (sl sr) (AP.imp rfl (A6 rfl Tryz.sizeOf53 rfl (AP.back (sl sr) ?_)))))
   exact AP.nil (AC.subF (sL [2,3,4] rfl) (AC.then_ (AE.ret (AU rfl (Ay (i:=0) (cs:=AW (mkRat ((a.num*((b.den:Nat):Int))+(b.num*((a.den:Nat):Int))) (a.den*b.den))) rfl rfl Tryz.isAgg53 Tryz.sizeOf53 rfl) (λw hw=>⟨by rw [he],hw.out⟩)))))
theorem Mt (a b:Rat) (hs:Sz a+Sz b<=549755813888) (w:World)  :Calls Tryz.prog 111 #[(aG (AW a)),(aG (AW b))] w (Ax w (aG (AW (a-b)))):=by
 refine Ad (args:=[(aG (AW a)),(aG (AW b))]) Tryz.func111 rfl rfl (Af rfl) (AE.subF (sL [0,1] rfl) (q4 (CB (cs:=AW a) rfl λb1=>CB (cs:=AW b) rfl λb2=>al Gr rfl λb3=>?_)))
 refine q6 (sL [2,3,4] rfl) (C7 [(0,true),(1,true),(2,false),(3,false),(4,false)] (sl sr) (Db 1 CQ rfl (Db 0 CQ rfl (AP.imp rfl (BY Tryz.call169 (VO b) rfl ?_)))))
 refine AP.back (sl sr) (AP.imp rfl ?_)
 have hz1:=IJ a (-b)
 refine BY Tryz.call29 (MC a (-b) (by (try simp only [Eh]);omega)) rfl (AP.back (sl sr) (AP.imp rfl (A6 rfl Tryz.sizeOf53 rfl (AP.back (sl sr) (AP.nil ?_)))))
 exact AC.subF (sL [4] rfl) (AC.then_ (AE.ret (AU rfl (Ay (i:=0) (cs:=AW (a+(-b))) rfl rfl Tryz.isAgg53 Tryz.sizeOf53 rfl) (λw hw=>⟨by rw [Rat.sub_eq_add_neg],hw.out⟩))))
theorem JF (a b:Rat) (hs:Sz a+Sz b<=549755813888) (w:World)  :Calls Tryz.prog 24 #[(aG (AW a)),(aG (AW b))] w (Ax w (aG (AW (a*b)))):=by
 have s1:=EE a
 have s2:=Dq a
 have s3:=EE b
 have s4:=Dq b
 have s5:=DK a b
 have s6:=DK b a
 have s7:=IY a b
 have s8:=KE a b
 have s9:=EP a.num b.num
 have s10:=EP (a.num*((b.den:Nat):Int)) (b.num*((a.den:Nat):Int))
 have hda:=a.den_nz
 have hdb:=b.den_nz
 have hdab:a.den*b.den≠0:=Nat.mul_ne_zero hda hdb
 refine Ad (args:=[(aG (AW a)),(aG (AW b))]) Tryz.func24 rfl rfl (Af rfl) (AE.subF (sL [0,1] rfl) (q4 (CB (cs:=AW a) rfl λb1=>CB (cs:=AW b) rfl λb2=>al Gr rfl λb3=>?_)))
 refine q6 (sL [2,3,4] rfl) (q4 (BF 2 CQ rfl (BY Tryz.call67 (HP a) rfl (AO rfl ?_))))
 refine AD.mid (FM:=[(2,(pP b1 0)),(3,(pP b2 0)),(4,(pP b3 0)),(5,(aG (AW a))),(6,(Value.bool (decide (a.den-1=0)))),(7,(Value.bool (decide (a.den-1=0)))),(10,(Value.bool ((decide (a.den-1=0))&&(decide (b.den-1=0)))))]) (LM:=[Ac b3 53 (AW (0:Rat)),Ac b2 53 (AW b),Ac b1 53 (AW a)]) 3 ?_ ?_
 ·rcases Bool.eq_false_or_eq_true (decide (a.den-1=0)) with hg1|hg1
  ·skip
   refine AD.retell (k:=7) (u:=Value.bool true) rfl (by rw [hg1]) ?_
   have hg1':=hg1
   replace hg1':=of_decide_eq_true hg1'
   exact AD.step (v:=(aG (AW b))) (AB rfl) (Ak (i:=1) (vs:=AW b) rfl rfl CQ.a CQ.s rfl rfl) rfl (Af rfl) (AD.call (v:=(Value.bool (decide (b.den-1=0)))) (AB rfl) (A8 (args:=[(aG (AW b))]) rfl rfl Tryz.call67) (λw hw=>HP b w) rfl (Af rfl) (AH (v:=(Value.bool (decide (b.den-1=0)))) (Ae rfl rfl) rfl (AD.nil (AC.mid (sS rfl (sS rfl (sS rfl (sS rfl (sS rfl (sS (by first|rfl|(rw [hg1];rfl)|rw [hg1]) (sS (by first|rfl|(rw [hg1];rfl)|rw [hg1]) (sN)))))))) (List.Sublist.refl _)))))
  ·skip
   refine AD.retell (k:=7) (u:=Value.bool false) rfl (by rw [hg1]) ?_
   have hg1':=hg1
   replace hg1':=of_decide_eq_false hg1'
   exact AD.skip (AM rfl) rfl (Af rfl) (AD.skip (AM rfl) rfl (Af rfl) (AH (v:=(Value.bool false)) (Aa rfl rfl) rfl (AD.nil (AC.mid (sS rfl (sS rfl (sS rfl (sS rfl (sS rfl (sS (by first|rfl|(rw [hg1];rfl)|rw [hg1]) (sS (by first|rfl|(rw [hg1];rfl)|rw [hg1]) (sN)))))))) (List.Sublist.refl _)))))
 refine AD.nil (AC.subF (sL [2,3,4,10] rfl) (AC.then_ ?_))
 refine AE.cond rfl (λhc0=>?_) (λhc0=>?_)
 ·simp only [Bool.and_eq_true,Bool.or_eq_true,Bool.and_eq_false_iff,Bool.or_eq_false_iff,Bool.not_eq_true',Bool.not_eq_false',decide_eq_true_eq,decide_eq_false_iff_not] at hc0
  have he:=QP hc0.1 hc0.2
  refine q4 (AH (v:=(pP b1 0)) (AA rfl Tryz.underlying53 rfl Tryz.sizeOf51 rfl) rfl (En 2 (BB a.num) DB rfl (AH (v:=(pP b2 0)) (AA rfl Tryz.underlying53 rfl Tryz.sizeOf51 rfl) rfl (En 1 (BB b.num) DB rfl (BY Tryz.call69 (Gj a.num b.num (by first|omega|(simp only [Int.natAbs_neg,Az,Int.natAbs_natCast];omega)) (by first|omega|(simp only [Int.natAbs_neg,Az,Int.natAbs_natCast];omega))) rfl ?_)))))
  refine BY Tryz.call68 (Jd (a.num*b.num)) rfl (A6 rfl Tryz.sizeOf53 rfl (AD.nil (AC.subF (sL [2,3,4] rfl) (AC.then_ (AE.ret ?_)))))
  exact AC.then_ret (AU rfl (Ay (i:=0) (cs:=AW ((a.num*b.num:Int):Rat)) rfl rfl Tryz.isAgg53 Tryz.sizeOf53 rfl) (λw hw=>⟨by rw [he],hw.out⟩))
 ·simp only [Bool.and_eq_true,Bool.or_eq_true,Bool.and_eq_false_iff,Bool.or_eq_false_iff,Bool.not_eq_true',Bool.not_eq_false',decide_eq_true_eq,decide_eq_false_iff_not] at hc0
  have he:=Lp a b
  refine AE.skip (q1 (C7 [(0,true),(1,true),(2,true),(3,true),(5,true),(7,true),(4,false),(6,false),(8,false),(9,false),(10,false),(11,false)] (sl sr) (Au (v:=(pP b1 0)) rfl (AA rfl Tryz.underlying53 rfl Tryz.sizeOf51 rfl) (Gt 1 (BB a.num) DB rfl (Au (v:=(pP b2 0)) rfl (AA rfl Tryz.underlying53 rfl Tryz.sizeOf51 rfl) ?_)))))
  refine Gt 0 (BB b.num) DB rfl (Db 1 CQ rfl (Db 0 CQ rfl (AP.imp rfl (BY Tryz.call69 (Gj a.num b.num (by first|omega|(simp only [Int.natAbs_neg,Az,Int.natAbs_natCast];omega)) (by first|omega|(simp only [Int.natAbs_neg,Az,Int.natAbs_natCast];omega))) rfl (AP.back (sl sr) ?_)))))
  refine AP.imp rfl (BY Tryz.call72 (HG a (by omega)) rfl (AP.back (sl sr) (AP.imp rfl (BY Tryz.call72 (HG b (by omega)) rfl (AP.back (sl sr) ?_)))))
  refine AP.imp rfl (BY Tryz.call71 (OM a.den b.den (by omega) (by omega)) rfl (AP.back (sl sr) (AP.imp rfl (BY Tryz.call70 (Gb (a.num*b.num) (a.den*b.den) (by omega) (by omega) (by first|omega|assumption)) rfl (AP.back (sl sr) ?_)))))
  refine AP.imp rfl (A6 rfl Tryz.sizeOf53 rfl (AP.back (sl sr) (AP.nil (AC.subF (sL [2,3,4] rfl) (AC.then_ ?_)))))
  exact AE.ret (AU rfl (Ay (i:=0) (cs:=AW (mkRat (a.num*b.num) (a.den*b.den))) rfl rfl Tryz.isAgg53 Tryz.sizeOf53 rfl) (λw hw=>⟨by rw [he],hw.out⟩))
theorem VX (a b:Rat) (hs:Sz a+Sz b<=549755813888) (hb:b≠0) (w:World)  :Calls Tryz.prog 66 #[(aG (AW a)),(aG (AW b))] w (Ax w (Value.tuple #[(aG (AW (a/b))),(vI 0)])):=by
 have s1:=EE a
 have s2:=Dq a
 have s3:=EE b
 have s4:=Dq b
 have s5:=DK a b
 have s6:=DK b a
 have s7:=IY a b
 have s8:=KE a b
 have s9:=EP a.num b.num
 have s10:=EP (a.num*((b.den:Nat):Int)) (b.num*((a.den:Nat):Int))
 have hda:=a.den_nz
 have hdb:=b.den_nz
 have hdab:a.den*b.den≠0:=Nat.mul_ne_zero hda hdb
 have hbn:b.num≠0:=λe=>hb (Rat.num_eq_zero.1 e)
 have hbs:b.num.sign≠0:=λe=>hbn (Int.sign_eq_zero_iff_zero.1 e)
 have hmi:nw (Ea (decide (b.num.sign<(0:Int))) b.den).natAbs=nw b.den:=by rw [Az]
 have hinv:=Ln hb
 have hsi:=S0 hb
 rw [<-hinv] at hsi
 refine Ad (args:=[(aG (AW a)),(aG (AW b))]) Tryz.func66 rfl rfl (Af rfl) (AE.subF (sL [0,1] rfl) (q4 (CB (cs:=AW a) rfl λb1=>CB (cs:=AW b) rfl λb2=>al Gr rfl λb3=>?_)))
 refine AL rfl (q6 (sL [2,3,4,5] rfl) (q4 (BF 1 CQ rfl (BY Tryz.call63 (JX b) rfl (AH (Bp (c:=(decide (b.num.sign=(0:Int)))) rfl rfl rfl) rfl ?_)))))
 refine AD.nil (AC.subF (sL [2,3,4,5,9] rfl) (AC.then_ ?_))
 refine AE.cond rfl (λhc0=>?_) (λhc0=>?_)
 ·replace hc0:=of_decide_eq_true hc0
  exact absurd hc0 hbs
 ·replace hc0:=of_decide_eq_false hc0
  refine AE.skip (q1 (rN [(0,true),(3,true),(6,true),(7,true),(1,false),(2,true),(4,false),(5,false),(8,false),(9,false)] [⟨10,6,53,AW (0:Rat)⟩] [(11,false)] sr (by kernel_rfl) (λ_ _ d _ _ h=>by cases d<;>exact h) (Uf rfl rfl Gr rfl (Wi)) rfl (XG 1 CQ rfl (XG 1 CQ rfl (Xb (v:=(pP b2 0)) rfl (AA rfl Tryz.underlying53 rfl Tryz.sizeOf51 rfl) rfl ?_)))))
  refine Yp 1 (BB b.num) DB rfl (DP.imp rfl λEF EL=>BY Tryz.call63 (JX b) rfl (DP.back0 sr rfl (Xb rfl (Ag (c:=(decide (b.num.sign<(0:Int)))) rfl rfl rfl) rfl (DP.imp rfl λEF EL=>?_))))
  refine BY Tryz.call72 (HG b (by omega)) rfl (DP.back0 sr rfl (DP.imp rfl λEF EL=>BY Tryz.call140 (Dy (decide (b.num.sign<(0:Int))) b.den) rfl (DP.back0 sr rfl (DP.imp rfl λEF EL=>?_))))
  refine BY Tryz.call141 (MZ b.num) rfl (DP.back0 sr rfl (DP.imp rfl λEF EL=>BY Tryz.call70 (Gb (Ea (decide (b.num.sign<(0:Int))) b.den) b.num.natAbs (by omega) (by omega) (by first|omega|assumption)) rfl (DP.back0 sr rfl (DP.news1 λb4=>?_))))
  refine AP.imp rfl (A6 rfl Tryz.sizeOf53 rfl (AP.back (sl sr) (AP.nil (AC.subF (sL [2,3,4,5,6] rfl) (q2 ?_)))))
  refine BF 3 CQ rfl (BF 0 CQ rfl ?_)
  have hz1:=FY a (mkRat (Ea (decide (b.num.sign<(0:Int))) b.den) b.num.natAbs)
  refine BY Tryz.call24 (JF a (mkRat (Ea (decide (b.num.sign<(0:Int))) b.den) b.num.natAbs) (by (try simp only [Eh]);omega)) rfl (DU rfl Tryz.sizeOf53 rfl (AL rfl (AD.nil (AC.subF (sL [3,4,5,6] rfl) (AC.then_ ?_)))))
  exact AE.ret (DM rfl (Ay (i:=1) (cs:=AW (a*(mkRat (Ea (decide (b.num.sign<(0:Int))) b.den) b.num.natAbs))) rfl rfl Tryz.isAgg53 Tryz.sizeOf53 rfl) (Am (v:=(vI 0)) rfl) (λw hw=>⟨by rw [hinv,Rat.div_def],hw.out⟩))
theorem I3 (z:Int) (hz:-9223372036854775808<=z) (hz2:z<9223372036854775808) (w:World)  :Calls Tryz.prog 25 #[(vI z)] w (Ax w (aG (AW ((z:Int):Rat)))):=by
 refine Ad (args:=[(vI z)]) Tryz.func25 rfl rfl (Af rfl) (AE.subF (sL [0] rfl) (q4 (al Gr rfl λb1=>AD.nil (q2 ?_))))
 refine AO rfl (BY Tryz.call73 (WR z (by omega) (by omega)) rfl (BY Tryz.call68 (Jd z) rfl (A6 rfl Tryz.sizeOf53 rfl (AD.nil (AC.subF (sL [2] rfl) ?_)))))
 exact AC.then_ (AE.ret (AU rfl (Ay (i:=0) (cs:=AW ((z:Int):Rat)) rfl rfl Tryz.isAgg53 Tryz.sizeOf53 rfl) (λw hw=>⟨rfl,hw.out⟩)))
end
section
instance:Add Pt:=⟨λa b=>⟨a.x+b.x,a.y+b.y⟩⟩
instance:Sub Pt:=⟨λa b=>⟨a.x-b.x,a.y-b.y⟩⟩
def B7 (a:Pt) (k:Rat):Pt:=⟨a.x*k,a.y*k⟩
def KZ (a b:Pt):Rat:=a.x*b.y-a.y*b.x
def B9 (a b c:Pt):Rat:=KZ (b-a) (c-a)
def DT (p:Pt):Nat:=max (Sz p.x) (Sz p.y)
theorem EK (p:Pt):Sz p.x<=DT p:=Nat.le_max_left ..
theorem EI (p:Pt):Sz p.y<=DT p:=Nat.le_max_right ..
theorem L3 {p:Pt} {k:Nat} (h1:Sz p.x<=k) (h2:Sz p.y<=k):DT p<=k:=Nat.max_le.2 ⟨h1,h2⟩
theorem L9 (a b:Pt):DT (a+b)<=DT a+DT b+1:=by
  have h1:=EK a;have h2:=EI a;have h3:=EK b;have h4:=EI b
  refine L3 ?_ ?_
  · exact Nat.le_trans (IJ a.x b.x) (by omega)
  · exact Nat.le_trans (IJ a.y b.y) (by omega)
theorem Pg (a b:Pt):DT (a-b)<=DT a+DT b+1:=by
  have h1:=EK a;have h2:=EI a;have h3:=EK b;have h4:=EI b
  refine L3 ?_ ?_
  · exact Nat.le_trans (II a.x b.x) (by omega)
  · exact Nat.le_trans (II a.y b.y) (by omega)
theorem IG (a:Pt) (k:Rat):DT (B7 a k)<=DT a+Sz k:=by
  have h1:=EK a;have h2:=EI a
  refine L3 ?_ ?_
  · exact Nat.le_trans (FY a.x k) (by omega)
  · exact Nat.le_trans (FY a.y k) (by omega)
theorem Rz (a b:Pt):Sz (KZ a b)<=2*DT a+2*DT b+1:=by
  have h1:=EK a;have h2:=EI a;have h3:=EK b;have h4:=EI b
  have h5:=FY a.x b.y;have h6:=FY a.y b.x
  exact Nat.le_trans (II _ _) (by omega)
theorem Up:Sz (1/2:Rat)<=1:=by decide +kernel
theorem VF:((1:Int):Rat)/((2:Int):Rat)=1/2:=by decide +kernel
theorem Mw {z:Int} (h1:-9223372036854775808<=z) (h2:z<9223372036854775808):Sz ((z:Int):Rat)<=2:=V3 (Jn (by show z.natAbs<_;omega)) (by show nw 1<=2;rw [KH];omega)
theorem Vj (a b:Pt):An (a+b)=AW (a.x+b.x)++AW (a.y+b.y):=rfl
theorem UQ (a b:Pt):An (a-b)=AW (a.x-b.x)++AW (a.y-b.y):=rfl
theorem QN (a:Pt) (k:Rat):An (B7 a k)=AW (a.x*k)++AW (a.y*k):=rfl
theorem Wn (x y:Rat):An ⟨x,y⟩=AW x++AW y:=rfl
section
variable {P:Program} {Q:Exit->Act->World->Prop} {n:Nat} {F:List (Nat×Value)} {w0:BJ} {L:List As} {c:Code}
def F1 (P:Program) (c:Code) (Q:Exit->Act->World->Prop) (k n:Nat) (F:List (Nat×Value)) (w0:BJ) (L:List As):Prop:=∀a w,CW n a F->BK w0 w L->Code.rounds P c Q k a w
theorem AE.unroll (k:Nat) (h:F1 P c Q k n F w0 L):AE P (.loop c) Q n F w0 L:=λa w ha hw=>wp_loop_rounds k (h a w ha hw)
theorem F1.step {k:Nat} (h:AE P c (Exit.then (Code.rounds P c Q k) Q) n F w0 L):F1 P c Q (k+1) n F w0 L:=λa w ha hw=>by
  rw [rounds_succ];exact h a w ha hw
theorem AC.again {k:Nat} (h:F1 P c Q k n F w0 L):AC (Exit.then (Code.rounds P c Q k) Q) .normal n F w0 L:=h
end
end
end Go.Proofs.YtfbomiejpbchdaaGreat
