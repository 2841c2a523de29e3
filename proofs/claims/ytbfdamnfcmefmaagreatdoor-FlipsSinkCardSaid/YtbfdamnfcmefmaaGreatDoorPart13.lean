import Derived.Test.YtbfdamnfcmefmaaGreatDoorPart12
namespace Go.Proofs.YtbfdamnfcmefmaaGreatDoor
open Go Go.RowKit Go.Proofs.Tryz
open Go.Value renaming slice→qz,bool→qa
set_option linter.unusedVariables false
set_option linter.unusedSimpArgs false
section
set_option maxRecDepth 100000
theorem Dn (x0:Int) (x1:Nat):Instr.fill ([(0,3),(3,2)].toArray[·]?) (AG (0:Rat)).toArray [(0,.agg (A8 x0).toArray),(1,.agg (AV x1).toArray)]=some (A8 x0++AV x1).toArray:=by kernel_rfl
theorem HW (n:Int) (d:Nat) (hn:nw n.natAbs<=1099511627776) (hd:nw d<=1099511627776) (hd0:d≠0) (w:World)  :Calls prog 124 #[(aG (A8 n)),(aG (AV d))] w (Ag w (aG (AG (mkRat n d)))):=by
 have hg:Nat.gcd n.natAbs d≠0:=λh=>hd0 (Nat.eq_zero_of_gcd_eq_zero_right h)
 have hgw:nw (Nat.gcd n.natAbs d)<=nw d:=Dr (Nat.gcd_le_right _ (Nat.pos_of_ne_zero hd0))
 have hqw:nw (d/Nat.gcd n.natAbs d)<=nw d:=Dr (Nat.div_le_self _ _)
 have h1w:=Lk
 refine AW (args:=[(aG (A8 n)),(aG (AV d))]) func124 O O (BE O) (zM (sL [0,1] O) (q4 (BZ (cs:=A8 n) O λb1=>BZ (cs:=AV d) O λb2=>al DV O λb3=>q6 (sL [2,3,4] O) (rN [(0,true),(2,true),(1,false),(3,false)] [⟨4,5,62,AV 0⟩] [(5,false)] sr jV (λ_ _ d _ _ h=>by cases d<;>exact h) (FL O O GZ O (Hj)) O (El 2 DU O (El 1 CF O (zk O λEF EL=>ck' call177 (N6 n) O ?_)))))))
 refine zf sr O (zk O λEF EL=>ck' call176 (ZW n.natAbs d Z Z) O (zf sr O (yH λb4=>zN O (Ah O sizeOf62 O (zG (sl sr) (zQ (zB (sL [2,3,4,5] O) (q1 (rN [(0,true),(2,true),(1,false),(3,false),(4,true),(5,true),(6,true),(7,true)] [⟨8,6,62,AV 0⟩,⟨9,7,62,AV 0⟩] [(10,false),(11,false),(12,true)] sr jV (λ_ _ d _ _ h=>by cases d<;>exact h) (FL O O GZ O (FL O O GZ O (Hj))) O ?_)))))))))
 refine El 3 DU O (El 0 CF O (zk O λEF EL=>ck' call177 (N6 n) O (zf sr O (zk O λEF EL=>ck' call178 (Ps n.natAbs (Nat.gcd n.natAbs d) Z Z Z) O (zf sr O (Qy O (GA O (AJ (v:=(aG (AV (n.natAbs/(Nat.gcd n.natAbs d))))) O O) O (GA O (AJ (v:=(aG (AV (n.natAbs%(Nat.gcd n.natAbs d))))) O O) O (GA O (AJ (v:=(qa true)) O O) O ?_)))))))))
 refine yW λb5 b6=>zN O (Ah O sizeOf62 O (zG (sl (sl sr)) (zN O (CS O sizeOf62 O (zG (sl (sl sr)) (pS' O (zQ (zB (sL [2,3,4,5,6] O) (q2 (Ai 4 CF O ?_))))))))))
 refine Ai 2 CF O (ck' call178 (Ps d (Nat.gcd n.natAbs d) Z Z Z) O (AM O (AC (AJ (v:=(aG (AV (d/(Nat.gcd n.natAbs d))))) O O) O (AC (AJ (v:=(aG (AV (d%(Nat.gcd n.natAbs d))))) O O) O (AC (AJ (v:=(qa true)) O O) O (al GZ O λb7=>al GZ O λb8=>CS O sizeOf62 O (Ah O sizeOf62 O (asg' O (q6 (sL [2,3,4,5,6,9] O) ?_)))))))))
 refine rC [(0,true),(1,false),(2,false),(3,true),(4,true),(5,true)] 6 [] sr (sk (sl sr)) jV (λ_ _ d _ _ h=>by cases d<;>exact h) (vE (v:=(aG (AV (d/(Nat.gcd n.natAbs d))))) O (Ab (i:=1) (vs:=AV (d/(Nat.gcd n.natAbs d))) O O CF.a CF.s O O) O (zr O (ck' call160 (KV 1 Z) O (zp sr (zr O (ck' call179 (P1 (d/(Nat.gcd n.natAbs d)) 1 Z Z) O (zp sr (vM O O O (vE O (AJ (v:=(aG (AV ((d/(Nat.gcd n.natAbs d))-1)))) O O) O (vE O (AJ (v:=(qa (decide (1<=d/(Nat.gcd n.natAbs d))))) O O) O (yJ O ?_)))))))))))
 refine CS O sizeOf62 O (zG (sk (sl sr)) (zQ (zB (sL [2,3,4,5,6,9] O) (q1 (C_ [(0,true),(3,true),(5,true),(1,false),(2,true),(4,false),(6,true),(7,false)] (sk (sk (sk (sk (sk (sl sr)))))) (Es 6 DU O (Es 2 CF O (Es 1 CF O (zN O (ck' call112 (LT n) O (zG (sk (sk (sk (sk (sk (sl sr)))))) ?_)))))))))))
 exact Aj O (Aa (c:=(decide (n.sign<(0:Int)))) O O O) (zN O (ck' call116 (EV (decide (n.sign<(0:Int))) (n.natAbs/(Nat.gcd n.natAbs d))) O (zG (sk (sk (sk (sk (sk (sl sr)))))) (Aj (v:=(aG (A8 (E2 (decide (n.sign<(0:Int))) (n.natAbs/(Nat.gcd n.natAbs d)))++AV ((d/(Nat.gcd n.natAbs d))-1)))) O (AT (zs:=AG (0:Rat)) (vs:=A8 (E2 (decide (n.sign<(0:Int))) (n.natAbs/(Nat.gcd n.natAbs d)))++AV ((d/(Nat.gcd n.natAbs d))-1)) (pv:=[(0,(aG (A8 (E2 (decide (n.sign<(0:Int))) (n.natAbs/(Nat.gcd n.natAbs d)))))),(1,(aG (AV ((d/(Nat.gcd n.natAbs d))-1))))]) (places:=[(0,3),(3,2)]) zeroValue68 underlying68 (λw=>by simp [sizeOf62,sizeOf66]) O (Dn (E2 (decide (n.sign<(0:Int))) (n.natAbs/(Nat.gcd n.natAbs d))) ((d/(Nat.gcd n.natAbs d))-1))) (zN O (Fm 5 (off:=0) (vs:=A8 (E2 (decide (n.sign<(0:Int))) (n.natAbs/(Nat.gcd n.natAbs d)))++AV ((d/(Nat.gcd n.natAbs d))-1)) (cs':=A8 (E2 (decide (n.sign<(0:Int))) (n.natAbs/(Nat.gcd n.natAbs d)))++AV ((d/(Nat.gcd n.natAbs d))-1)) (AK O) O sizeOf68 O (zG (sk (sk (sk (sk (sk (sl sr)))))) (zQ (zB (sL [2,3,4,5,6,9] O) (zA (zH (ret_one O (Ap (i:=5) (cs:=A8 (E2 (decide (n.sign<(0:Int))) (n.natAbs/(Nat.gcd n.natAbs d)))++AV ((d/(Nat.gcd n.natAbs d))-1)) O O isAgg68 sizeOf68 O) (λw hw=>⟨by rw [Jm,YO hd0,YN hd0],hw.out⟩)))))))))))))
theorem H6 (x0:Int):Instr.fill ([(0,3),(3,2)].toArray[·]?) (AG (0:Rat)).toArray [(0,.agg (A8 x0).toArray)]=some (A8 x0++AV ((0:Rat).den-1)).toArray:=by kernel_rfl
theorem MI (n:Int) (w:World)  :Calls prog 122 #[(aG (A8 n))] w (Ag w (aG (AG ((n:Int):Rat)))):=by
 refine AW (args:=[(aG (A8 n))]) func122 O O (BE O) (zM (sL [0] O) (q4 (BZ (cs:=A8 n) O λb1=>al DV O λb2=>q3 (sL [1,2] O) (Ai 1 DU O (AC (v:=(aG (A8 n++AV ((0:Rat).den-1)))) (AT (zs:=AG (0:Rat)) (vs:=A8 n++AV ((0:Rat).den-1)) (pv:=[(0,(aG (A8 n)))]) (places:=[(0,3),(3,2)]) zeroValue68 underlying68 (λw=>by simp [sizeOf62,sizeOf66]) O (H6 n)) O (Ah O sizeOf68 O (oNl' (zB (sL [2] O) (zA ?_)))))))))
 exact zH (ret_one O (Ap (i:=0) (cs:=A8 n++AV ((0:Rat).den-1)) O O isAgg68 sizeOf68 O) (λw hw=>⟨rfl,hw.out⟩))
theorem MW  :Instr.fill ([(0,1),(1,1)].toArray[·]?) (AV 0).toArray []=some (AV 0).toArray:=by kernel_rfl
theorem Gn (a:Rat) (w:World)  :Calls prog 94 #[(aG (AG a))] w (Ag w (qa (decide (a.den-1=0)))):=by
 refine AW (args:=[(aG (AG a))]) func94 O O (BE O) (zM (sL [0] O) (q4 (BZ (cs:=AG a) O λb1=>asg' O (q3 (sL [1,2] O) (AC (v:=(pP b1 3)) (AA O underlying68 O sizeOf62 O) O (Ds 0 (AV (a.den-1)) CF O (AC (v:=(aG (AV 0))) (AT (zs:=AV 0) (vs:=AV 0) (pv:=[]) (places:=[(0,1),(1,1)]) zeroValue62 underlying62 (λw=>by simp [sizeOf9,sizeOf60]) O (MW )) O (AC (By (c:=(decide (a.den-1=0))) O O eqGuardType62 (HO 9998 (a.den-1) 0)) O (asg' O (oNl' ?_))))))))))
 exact zB (sL [2] O) (zA (zH (ret_one O (rd_tmp (v:=(qa (decide (a.den-1=0)))) O) (λw hw=>⟨rfl,hw.out⟩))))
theorem den_ok (a:Rat) (ha:nw a.den<=1099511627776) (w:World)  :Calls prog 97 #[(aG (AG a))] w (Ag w (aG (AV a.den))):=by
 have h1w:=Lk
 have h2w:=Dr (Nat.sub_le a.den 1)
 refine AW (args:=[(aG (AG a))]) func97 O O (BE O) (zM (sL [0] O) (q4 (BZ (cs:=AG a) O λb1=>al GZ O λb2=>q6 (sL [1,2] O) (C_ [(0,true),(1,true),(2,false),(3,false),(4,false)] (sl sr) (Aj (v:=(pP b1 3)) O (AA O underlying68 O sizeOf62 O) (IS 0 (AV (a.den-1)) CF O (zN O (ck' call160 (KV 1 Z) O (zG (sl sr) ?_)))))))))
 exact zN O (ck' call159 (Tk (a.den-1) 1 Z Z) O (zG (sl sr) (zN O (Ah O sizeOf62 O (zG (sl sr) (zQ (zB (sL [2] O) (zA (zH (ret_one O (Ap (i:=0) (cs:=AV ((a.den-1)+1)) O O isAgg62 sizeOf62 O) (λw hw=>⟨by rw [Nat.sub_add_cancel a.den_pos],hw.out⟩)))))))))))
theorem He (a:Rat) (ha:nw a.den<=1099511627776) (w:World)  :Calls prog 54 #[(aG (AG a))] w (Ag w (aG (A8 ((a.den:Nat):Int)))):=by
 refine AW (args:=[(aG (AG a))]) func54 O O (BE O) (zM (sL [0] O) (q4 (BZ (cs:=AG a) O λb1=>al J9 O λb2=>q3 (sL [1,2] O) (Ai 1 Bf O (ck' call97 (den_ok a Z) O (ck' call116 (EV false a.den) O (Ah O sizeOf66 O (oNl' (zB (sL [2] O) ?_)))))))))
 exact zA (zH (ret_one O (Ap (i:=0) (cs:=A8 (E2 false a.den)) O O isAgg66 sizeOf66 O) (λw hw=>⟨rfl,hw.out⟩)))
theorem Xs (a:Rat) (w:World)  :Calls prog 221 #[(aG (AG a))] w (Ag w (aG (AG (-a)))):=by
 refine AW (args:=[(aG (AG a))]) func221 O O (BE O) (zM (sL [0] O) (q4 (BZ (cs:=AG a) O λb1=>al DV O λb2=>q6 (sL [1,2] O) (C_ [(0,true),(1,true),(3,true),(4,true),(2,false),(5,true),(6,false)] (sl sr) (Aj (v:=(pP b1 0)) O (AA O underlying68 O sizeOf66 O) (IS 0 (A8 a.num) DU O (Aj (v:=(pP b1 3)) O (AA O underlying68 O sizeOf62 O) (IS 0 (AV (a.den-1)) CF O (zN O ?_)))))))))
 exact ck' call174 (Rg a.num) O (zG (sl sr) (Aj (v:=(aG (A8 (-a.num)++AV (a.den-1)))) O (AT (zs:=AG (0:Rat)) (vs:=A8 (-a.num)++AV (a.den-1)) (pv:=[(0,(aG (A8 (-a.num)))),(1,(aG (AV (a.den-1))))]) (places:=[(0,3),(3,2)]) zeroValue68 underlying68 (λw=>by simp [sizeOf62,sizeOf66]) O (Dn (-a.num) (a.den-1))) (zN O (Ah O sizeOf68 O (zG (sl sr) (zQ (zB (sL [2] O) (zA (zH (ret_one O (Ap (i:=0) (cs:=A8 (-a.num)++AV (a.den-1)) O O isAgg68 sizeOf68 O) (λw hw=>⟨by rw [Jm,Rat.neg_num,Rat.neg_den],hw.out⟩)))))))))))
theorem Ec (a:Rat) (w:World)  :Calls prog 171 #[(aG (AG a))] w (Ag w (vI a.num.sign)):=by
 refine AW (args:=[(aG (AG a))]) func171 O O (BE O) (zM (sL [0] O) (q4 (BZ (cs:=AG a) O λb1=>asg' O (q3 (sL [1,2] O) (AC (v:=(pP b1 0)) (AA O underlying68 O sizeOf66 O) O (Ds 0 (A8 a.num) DU O (ck' call112 (LT a.num) O (asg' O (oNl' (zB (sL [2] O) ?_))))))))))
 exact zA (zH (ret_one O (rd_tmp (v:=(vI a.num.sign)) O) (λw hw=>⟨rfl,hw.out⟩)))
theorem Nq (a b:Rat) (hs:Sz a+Sz b<=549755813888) (w:World)  :Calls prog 20 #[(aG (AG a)),(aG (AG b))] w (Ag w (vI (Fw a b))):=by
 have s1:=Eo a
 have s2:=EE a
 have s3:=Eo b
 have s4:=EE b
 have s5:=Dm a b
 have s6:=Dm b a
 have s7:=I9 a b
 have s8:=Lj a b
 have s9:=Ey a.num b.num
 have s10:=Ey (a.num*((b.den:Nat):Int)) (b.num*((a.den:Nat):Int))
 have hda:=a.den_nz
 have hdb:=b.den_nz
 have hdab:a.den*b.den≠0:=Nat.mul_ne_zero hda hdb
 refine AW (args:=[(aG (AG a)),(aG (AG b))]) func20 O O (BE O) (zM (sL [0,1] O) (q4 (BZ (cs:=AG a) O λb1=>BZ (cs:=AG b) O λb2=>asg' O (q6 (sL [2,3,4] O) (q4 (AC (v:=(pP b1 3)) (AA O underlying68 O sizeOf62 O) O (Ds 1 (AV (a.den-1)) CF O (AC (v:=(pP b2 3)) (AA O underlying68 O sizeOf62 O) O (Ds 0 (AV (b.den-1)) CF O ?_)))))))))
 refine AC (By (c:=(decide (a.den-1=b.den-1))) O O eqGuardType62 (HO 9998 (a.den-1) (b.den-1))) O (oNl' (zB (sL [2,3,4,9] O) (zA ?_)))
 refine zL O (λhc0=>?_) (λhc0=>?_)
 ·replace hc0:=xU hc0
  have he:=ST hc0
  exact q4 (AC (v:=(pP b1 0)) (AA O underlying68 O sizeOf66 O) O (Ds 1 (A8 a.num) DU O (AC (v:=(pP b2 0)) (AA O underlying68 O sizeOf66 O) O (Ds 0 (A8 b.num) DU O (ck' call52 (Rf a.num b.num (by first|omega|(simp only [Int.natAbs_neg,Az,Int.natAbs_natCast];omega)) (by first|omega|(simp only [Int.natAbs_neg,Az,Int.natAbs_natCast];omega))) O (asg' O (oNl' (zB (sL [2,3,4] O) (zA (zH (zJ (ret_one O (rd_tmp (v:=(vI ((a.num-b.num).sign))) O) (λw hw=>⟨by rw [he],hw.out⟩)))))))))))))
 ·replace hc0:=xT hc0
  have he:=Ku a b
  refine zC (q1 (C_ [(0,true),(1,true),(2,true),(5,true),(6,true),(7,true),(3,false),(4,false),(8,false),(9,false),(10,false),(11,true)] sr (Aj (v:=(pP b1 0)) O (AA O underlying68 O sizeOf66 O) (IS 1 (A8 a.num) DU O (Es 0 Bf O (Aj (v:=(pP b2 0)) O (AA O underlying68 O sizeOf66 O) (IS 0 (A8 b.num) DU O (Es 1 Bf O (zN O (ck' call54 (He b Z) O (zG sr ?_)))))))))))
  refine zN O (ck' call53 (HR a.num ((b.den:Nat):Int) (by first|omega|(simp only [Int.natAbs_neg,Az,Int.natAbs_natCast];omega)) (by first|omega|(simp only [Int.natAbs_neg,Az,Int.natAbs_natCast];omega))) O (zG sr (zN O (ck' call54 (He a Z) O (zG sr (zN O (ck' call53 (HR b.num ((a.den:Nat):Int) (by first|omega|(simp only [Int.natAbs_neg,Az,Int.natAbs_natCast];omega)) (by first|omega|(simp only [Int.natAbs_neg,Az,Int.natAbs_natCast];omega))) O (zG sr (zN O (ck' call52 (Rf (a.num*((b.den:Nat):Int)) (b.num*((a.den:Nat):Int)) (by first|omega|(simp only [Int.natAbs_neg,Az,Int.natAbs_natCast];omega)) (by first|omega|(simp only [Int.natAbs_neg,Az,Int.natAbs_natCast];omega))) O (zG sr ?_)))))))))))
  exact pS' O (zQ (zB (sL [2,3,4] O) (zA (zH (ret_one O (rd_tmp (v:=(vI (((a.num*((b.den:Nat):Int))-(b.num*((a.den:Nat):Int))).sign))) O) (λw hw=>⟨by rw [he],hw.out⟩))))))
theorem Ig (a b:Rat) (hs:Sz a+Sz b<=549755813888) (w:World)  :Calls prog 58 #[(aG (AG a)),(aG (AG b))] w (Ag w (aG (AG (a+b)))):=by
 have s1:=Eo a
 have s2:=EE a
 have s3:=Eo b
 have s4:=EE b
 have s5:=Dm a b
 have s6:=Dm b a
 have s7:=I9 a b
 have s8:=Lj a b
 have s9:=Ey a.num b.num
 have s10:=Ey (a.num*((b.den:Nat):Int)) (b.num*((a.den:Nat):Int))
 have hda:=a.den_nz
 have hdb:=b.den_nz
 have hdab:a.den*b.den≠0:=Nat.mul_ne_zero hda hdb
 refine AW (args:=[(aG (AG a)),(aG (AG b))]) func58 O O (BE O) (zM (sL [0,1] O) (q4 (BZ (cs:=AG a) O λb1=>BZ (cs:=AG b) O λb2=>al DV O λb3=>q6 (sL [2,3,4] O) (zI (q4 (Ai 2 Bf O (ck' call94 (Gn a) O (AM O ?_))))))))
 refine zi (FM:=[(2,(pP b1 0)),(3,(pP b2 0)),(4,(pP b3 0)),(6,(aG (AG a))),(7,(qa (decide (a.den-1=0)))),(8,(qa (decide (a.den-1=0)))),(11,(qa ((decide (a.den-1=0))&&(decide (b.den-1=0)))))]) (LM:=[AX b3 68 (AG (0:Rat)),AX b2 68 (AG b),AX b1 68 (AG a)]) 3 ?_ ?_
 ·rcases xR (decide (a.den-1=0)) with hg1|hg1
  ·refine zK (k:=8) (u:=qa true) O (by rw [hg1]) ?_
   have hg1':=xU hg1
   exact Av (v:=(aG (AG b))) O (Ab (i:=1) (vs:=AG b) O O Bf.a Bf.s O O) (zg (v:=(qa (decide (b.den-1=0)))) (AY O) (Ao (args:=[(aG (AG b))]) O O call94) (λw hw=>Gn b w) O (BE O) (AC (v:=(qa (decide (b.den-1=0)))) (AQ O O) O (oNl' (zT Cc (xS _)))))
  ·refine zK (k:=8) (u:=qa false) O (by rw [hg1]) ?_
   have hg1':=xT hg1
   exact BD O (BD O (AC (v:=(qa false)) (AL O O) O (oNl' (zT Cc (xS _)))))
 refine asg' O (oNl' (zB (sL [2,3,4,5] O) (zA ?_)))
 refine zL O (λhc0=>?_) (λhc0=>?_)
 ·simp only [jK] at hc0
  have he:=SM hc0.1 hc0.2
  refine q4 (AC (v:=(pP b1 0)) (AA O underlying68 O sizeOf66 O) O (Ds 2 (A8 a.num) DU O (AC (v:=(pP b2 0)) (AA O underlying68 O sizeOf66 O) O (Ds 1 (A8 b.num) DU O (ck' call123 (N7 a.num b.num (by first|omega|(simp only [Int.natAbs_neg,Az,Int.natAbs_natCast];omega)) (by first|omega|(simp only [Int.natAbs_neg,Az,Int.natAbs_natCast];omega))) O (ck' call122 (MI (a.num+b.num)) O (Ah O sizeOf68 O (oNl' (zB (sL [2,3,4] O) (zA (zH ?_)))))))))))
  exact zS (zJ (ret_one O (Ap (i:=0) (cs:=AG ((a.num+b.num:Int):Rat)) O O isAgg68 sizeOf68 O) (λw hw=>⟨by rw [he],hw.out⟩)))
 ·simp only [jK] at hc0
  have he:=Mk a b
  refine q4 (AC (v:=(pP b1 3)) (AA O underlying68 O sizeOf62 O) O (Ds 2 (AV (a.den-1)) CF O (AC (v:=(pP b2 3)) (AA O underlying68 O sizeOf62 O) O (Ds 1 (AV (b.den-1)) CF O (AC (By (c:=(decide (a.den-1=b.den-1))) O O eqGuardType62 (HO 9998 (a.den-1) (b.den-1))) O (asg' O (oNl' (zB (sL [2,3,4,18] O) (zA ?_)))))))))
  refine zL O (λhc1=>?_) (λhc1=>?_)
  ·replace hc1:=xU hc1
   have he:=UI hc1
   refine zY (C_ (Ek 4++[(5,true),(4,false),(6,false),(7,false),(8,false)]) (sl sr) (Aj (v:=(pP b1 0)) O (AA O underlying68 O sizeOf66 O) (IS 1 (A8 a.num) DU O (Aj (v:=(pP b2 0)) O (AA O underlying68 O sizeOf66 O) (IS 0 (A8 b.num) DU O (Es 1 Bf O (zN O (ck' call123 (N7 a.num b.num (by first|omega|(simp only [Int.natAbs_neg,Az,Int.natAbs_natCast];omega)) (by first|omega|(simp only [Int.natAbs_neg,Az,Int.natAbs_natCast];omega))) O (zG (sl sr) (zN O (ck' call97 (den_ok a Z) O ?_)))))))))))
   refine zG (sl sr) (zN O (ck' call124 (HW (a.num+b.num) a.den Z Z (by first|omega|assumption)) O (zG (sl sr) (zN O (Ah O sizeOf68 O (zG (sl sr) (zQ (zB (sL [2,3,4] O) (zA (zH (zS ?_)))))))))))
   exact zJ (ret_one O (Ap (i:=0) (cs:=AG (mkRat (a.num+b.num) a.den)) O O isAgg68 sizeOf68 O) (λw hw=>⟨by rw [he],hw.out⟩))
  ·replace hc1:=xT hc1
   refine zC (zF (q1 (C_ [(0,true),(1,true),(2,true),(5,true),(6,true),(7,true),(11,true),(13,true),(3,false),(4,false),(8,false),(9,false),(10,false),(12,false),(14,false),(15,false),(16,false),(17,false)] (sl sr) (Aj (v:=(pP b1 0)) O (AA O underlying68 O sizeOf66 O) (IS 1 (A8 a.num) DU O (Es 0 Bf O (Aj (v:=(pP b2 0)) O (AA O underlying68 O sizeOf66 O) (IS 0 (A8 b.num) DU O (Es 1 Bf O (Es 1 Bf O (Es 0 Bf O ?_)))))))))))
   refine zN O (ck' call54 (He b Z) O (zG (sl sr) (zN O (ck' call53 (HR a.num ((b.den:Nat):Int) (by first|omega|(simp only [Int.natAbs_neg,Az,Int.natAbs_natCast];omega)) (by first|omega|(simp only [Int.natAbs_neg,Az,Int.natAbs_natCast];omega))) O (zG (sl sr) (zN O (ck' call54 (He a Z) O (zG (sl sr) (zN O (ck' call53 (HR b.num ((a.den:Nat):Int) (by first|omega|(simp only [Int.natAbs_neg,Az,Int.natAbs_natCast];omega)) (by first|omega|(simp only [Int.natAbs_neg,Az,Int.natAbs_natCast];omega))) O (zG (sl sr) ?_)))))))))))
   refine zN O (ck' call123 (N7 (a.num*((b.den:Nat):Int)) (b.num*((a.den:Nat):Int)) (by first|omega|(simp only [Int.natAbs_neg,Az,Int.natAbs_natCast];omega)) (by first|omega|(simp only [Int.natAbs_neg,Az,Int.natAbs_natCast];omega))) O (zG (sl sr) (zN O (ck' call97 (den_ok a Z) O (zG (sl sr) (zN O (ck' call97 (den_ok b Z) O (zG (sl sr) (zN O (ck' call125 (Pz a.den b.den Z Z) O (zG (sl sr) ?_)))))))))))
   exact zN O (ck' call124 (HW ((a.num*((b.den:Nat):Int))+(b.num*((a.den:Nat):Int))) (a.den*b.den) Z Z (by first|omega|assumption)) O (zG (sl sr) (zN O (Ah O sizeOf68 O (zG (sl sr) (zQ (zB (sL [2,3,4] O) (zA (zH (ret_one O (Ap (i:=0) (cs:=AG (mkRat ((a.num*((b.den:Nat):Int))+(b.num*((a.den:Nat):Int))) (a.den*b.den))) O O isAgg68 sizeOf68 O) (λw hw=>⟨by rw [he],hw.out⟩)))))))))))
theorem Nr (a b:Rat) (hs:Sz a+Sz b<=549755813888) (w:World)  :Calls prog 175 #[(aG (AG a)),(aG (AG b))] w (Ag w (aG (AG (a-b)))):=by
 refine AW (args:=[(aG (AG a)),(aG (AG b))]) func175 O O (BE O) (zM (sL [0,1] O) (q4 (BZ (cs:=AG a) O λb1=>BZ (cs:=AG b) O λb2=>al DV O λb3=>q6 (sL [2,3,4] O) (C_ [(0,true),(1,true),(2,false),(3,false),(4,false)] (sl sr) (Es 1 Bf O (Es 0 Bf O (zN O (ck' call221 (Xs b) O ?_))))))))
 refine zG (sl sr) (zN O ?_)
 have hz1:=En a (-b)
 exact ck' call58 (Ig a (-b) (by (try simp only [Df]);omega)) O (zG (sl sr) (zN O (Ah O sizeOf68 O (zG (sl sr) (zQ (zB (sL [4] O) (zA (zH (ret_one O (Ap (i:=0) (cs:=AG (a+(-b))) O O isAgg68 sizeOf68 O) (λw hw=>⟨by rw [Rat.sub_eq_add_neg],hw.out⟩))))))))))
theorem D7 (a b:Rat) (hs:Sz a+Sz b<=549755813888) (w:World)  :Calls prog 59 #[(aG (AG a)),(aG (AG b))] w (Ag w (aG (AG (a*b)))):=by
 have s1:=Eo a
 have s2:=EE a
 have s3:=Eo b
 have s4:=EE b
 have s5:=Dm a b
 have s6:=Dm b a
 have s7:=I9 a b
 have s8:=Lj a b
 have s9:=Ey a.num b.num
 have s10:=Ey (a.num*((b.den:Nat):Int)) (b.num*((a.den:Nat):Int))
 have hda:=a.den_nz
 have hdb:=b.den_nz
 have hdab:a.den*b.den≠0:=Nat.mul_ne_zero hda hdb
 refine AW (args:=[(aG (AG a)),(aG (AG b))]) func59 O O (BE O) (zM (sL [0,1] O) (q4 (BZ (cs:=AG a) O λb1=>BZ (cs:=AG b) O λb2=>al DV O λb3=>q6 (sL [2,3,4] O) (q4 (Ai 2 Bf O (ck' call94 (Gn a) O (AM O ?_)))))))
 refine zi (FM:=[(2,(pP b1 0)),(3,(pP b2 0)),(4,(pP b3 0)),(5,(aG (AG a))),(6,(qa (decide (a.den-1=0)))),(7,(qa (decide (a.den-1=0)))),(10,(qa ((decide (a.den-1=0))&&(decide (b.den-1=0)))))]) (LM:=[AX b3 68 (AG (0:Rat)),AX b2 68 (AG b),AX b1 68 (AG a)]) 3 ?_ ?_
 ·rcases xR (decide (a.den-1=0)) with hg1|hg1
  ·refine zK (k:=7) (u:=qa true) O (by rw [hg1]) ?_
   have hg1':=xU hg1
   exact Av (v:=(aG (AG b))) O (Ab (i:=1) (vs:=AG b) O O Bf.a Bf.s O O) (zg (v:=(qa (decide (b.den-1=0)))) (AY O) (Ao (args:=[(aG (AG b))]) O O call94) (λw hw=>Gn b w) O (BE O) (AC (v:=(qa (decide (b.den-1=0)))) (AQ O O) O (oNl' (zT Cc (xS _)))))
  ·refine zK (k:=7) (u:=qa false) O (by rw [hg1]) ?_
   have hg1':=xT hg1
   exact BD O (BD O (AC (v:=(qa false)) (AL O O) O (oNl' (zT Cc (xS _)))))
 refine oNl' (zB (sL [2,3,4,10] O) (zA ?_))
 refine zL O (λhc0=>?_) (λhc0=>?_)
 ·simp only [jK] at hc0
  have he:=Sy hc0.1 hc0.2
  refine q4 (AC (v:=(pP b1 0)) (AA O underlying68 O sizeOf66 O) O (Ds 2 (A8 a.num) DU O (AC (v:=(pP b2 0)) (AA O underlying68 O sizeOf66 O) O (Ds 1 (A8 b.num) DU O (ck' call53 (HR a.num b.num (by first|omega|(simp only [Int.natAbs_neg,Az,Int.natAbs_natCast];omega)) (by first|omega|(simp only [Int.natAbs_neg,Az,Int.natAbs_natCast];omega))) O (ck' call122 (MI (a.num*b.num)) O (Ah O sizeOf68 O (oNl' (zB (sL [2,3,4] O) (zA (zH ?_)))))))))))
  exact zJ (ret_one O (Ap (i:=0) (cs:=AG ((a.num*b.num:Int):Rat)) O O isAgg68 sizeOf68 O) (λw hw=>⟨by rw [he],hw.out⟩))
 ·simp only [jK] at hc0
  have he:=ND a b
  refine zC (q1 (C_ (Ek 4++[(5,true),(7,true),(4,false),(6,false),(8,false),(9,false),(10,false),(11,false)]) (sl sr) (Aj (v:=(pP b1 0)) O (AA O underlying68 O sizeOf66 O) (IS 1 (A8 a.num) DU O (Aj (v:=(pP b2 0)) O (AA O underlying68 O sizeOf66 O) (IS 0 (A8 b.num) DU O (Es 1 Bf O (Es 0 Bf O (zN O (ck' call53 (HR a.num b.num (by first|omega|(simp only [Int.natAbs_neg,Az,Int.natAbs_natCast];omega)) (by first|omega|(simp only [Int.natAbs_neg,Az,Int.natAbs_natCast];omega))) O (zG (sl sr) ?_)))))))))))
  refine zN O (ck' call97 (den_ok a Z) O (zG (sl sr) (zN O (ck' call97 (den_ok b Z) O (zG (sl sr) (zN O (ck' call125 (Pz a.den b.den Z Z) O (zG (sl sr) (zN O (ck' call124 (HW (a.num*b.num) (a.den*b.den) Z Z (by first|omega|assumption)) O (zG (sl sr) ?_)))))))))))
  exact zN O (Ah O sizeOf68 O (zG (sl sr) (zQ (zB (sL [2,3,4] O) (zA (zH (ret_one O (Ap (i:=0) (cs:=AG (mkRat (a.num*b.num) (a.den*b.den))) O O isAgg68 sizeOf68 O) (λw hw=>⟨by rw [he],hw.out⟩))))))))
theorem KK (a b:Rat) (hs:Sz a+Sz b<=549755813888) (hb:b≠0) (w:World)  :Calls prog 128 #[(aG (AG a)),(aG (AG b))] w (Ag w (Value.tuple #[(aG (AG (a/b))),(vI 0)])):=by
 have s1:=Eo a
 have s2:=EE a
 have s3:=Eo b
 have s4:=EE b
 have s5:=Dm a b
 have s6:=Dm b a
 have s7:=I9 a b
 have s8:=Lj a b
 have s9:=Ey a.num b.num
 have s10:=Ey (a.num*((b.den:Nat):Int)) (b.num*((a.den:Nat):Int))
 have hda:=a.den_nz
 have hdb:=b.den_nz
 have hdab:a.den*b.den≠0:=Nat.mul_ne_zero hda hdb
 have hbn:b.num≠0:=λe=>hb (Rat.num_eq_zero.1 e)
 have hbs:b.num.sign≠0:=λe=>hbn (Int.sign_eq_zero_iff_zero.1 e)
 have hmi:nw (E2 (decide (b.num.sign<(0:Int))) b.den).natAbs=nw b.den:=by rw [Az]
 have hinv:=M_ hb
 have hsi:=UD hb
 rw [<-hinv] at hsi
 refine AW (args:=[(aG (AG a)),(aG (AG b))]) func128 O O (BE O) (zM (sL [0,1] O) (q4 (BZ (cs:=AG a) O λb1=>BZ (cs:=AG b) O λb2=>al DV O λb3=>asg' O (q6 (sL [2,3,4,5] O) (q4 (Ai 1 Bf O (ck' call171 (Ec b) O (AC (BM (c:=(decide (b.num.sign=(0:Int)))) O O O) O ?_))))))))
 refine oNl' (zB (sL [2,3,4,5,9] O) (zA ?_))
 refine zL O (λhc0=>?_) (λhc0=>?_)
 ·replace hc0:=xU hc0
  exact absurd hc0 hbs
 ·replace hc0:=xT hc0
  refine zC (q1 (rN [(0,true),(3,true),(6,true),(7,true),(1,false),(2,true),(4,false),(5,false),(8,false),(9,false)] [⟨10,6,68,AG (0:Rat)⟩] [(11,false)] sr jV (λ_ _ d _ _ h=>by cases d<;>exact h) (FL O O DV O (Hj)) O (El 1 Bf O (El 1 Bf O (GA (v:=(pP b2 0)) O (AA O underlying68 O sizeOf66 O) O (Wv 1 (A8 b.num) DU O (zk O λEF EL=>ck' call171 (Ec b) O (zf sr O (GA O (Aa (c:=(decide (b.num.sign<(0:Int)))) O O O) O (zk O λEF EL=>?_))))))))))
  refine ck' call97 (den_ok b Z) O (zf sr O (zk O λEF EL=>ck' call116 (EV (decide (b.num.sign<(0:Int))) b.den) O (zf sr O (zk O λEF EL=>ck' call177 (N6 b.num) O (zf sr O (zk O λEF EL=>ck' call124 (HW (E2 (decide (b.num.sign<(0:Int))) b.den) b.num.natAbs Z Z (by first|omega|assumption)) O (zf sr O (yH λb4=>?_))))))))
  refine zN O (Ah O sizeOf68 O (zG (sl sr) (zQ (zB (sL [2,3,4,5,6] O) (q2 (Ai 3 Bf O (Ai 0 Bf O ?_)))))))
  have hz1:=C2 a (mkRat (E2 (decide (b.num.sign<(0:Int))) b.den) b.num.natAbs)
  exact ck' call59 (D7 a (mkRat (E2 (decide (b.num.sign<(0:Int))) b.den) b.num.natAbs) (by (try simp only [Df]);omega)) O (CS O sizeOf68 O (asg' O (oNl' (zB (sL [3,4,5,6] O) (zA (zH (Bu O (Ap (i:=1) (cs:=AG (a*(mkRat (E2 (decide (b.num.sign<(0:Int))) b.den) b.num.natAbs))) O O isAgg68 sizeOf68 O) (rd_tmp (v:=(vI 0)) O) (λw hw=>⟨by rw [hinv,Rat.div_def],hw.out⟩))))))))
theorem MY  :Instr.fill ([(0,3),(3,2)].toArray[·]?) (AG (0:Rat)).toArray []=some (AG (0:Rat)).toArray:=by kernel_rfl
theorem Uy (a:Rat) (w:World)  :Calls prog 128 #[(aG (AG a)),(aG (AG (0:Rat)))] w (Ag w (Value.tuple #[(aG (AG (0:Rat))),(vI 5)])):=by
 refine AW (args:=[(aG (AG a)),(aG (AG (0:Rat)))]) func128 O O (BE O) (zM (sL [0,1] O) (q4 (BZ (cs:=AG a) O λb1=>BZ (cs:=AG (0:Rat)) O λb2=>al DV O λb3=>asg' O (q6 (sL [2,3,4,5] O) (q4 (Ai 1 Bf O (ck' call171 (Ec (0:Rat)) O (AC (BM (c:=(decide (((0:Rat).num.sign)=(0:Int)))) O O O) O ?_))))))))
 refine oNl' (zB (sL [2,3,4,5,9] O) (zA ?_))
 refine zL O (λhc0=>?_) (λhc0=>?_)
 ·replace hc0:=xU hc0
  exact q4 (AC (v:=(aG (AG (0:Rat)))) (AT (zs:=AG (0:Rat)) (vs:=AG (0:Rat)) (pv:=[]) (places:=[(0,3),(3,2)]) zeroValue68 underlying68 (λw=>by simp [sizeOf62,sizeOf66]) O (MY )) O (Ah O sizeOf68 O (asg' O (oNl' (zB (sL [2,3,4,5] O) (zA (zH (zJ (Bu O (Ap (i:=0) (cs:=AG (0:Rat)) O O isAgg68 sizeOf68 O) (rd_tmp (v:=(vI 5)) O) (λw hw=>⟨rfl,hw.out⟩))))))))))
 ·replace hc0:=xT hc0
  exact absurd O hc0
theorem KL (z:Int) (hz:-9223372036854775808<=z) (hz2:z<9223372036854775808) (w:World)  :Calls prog 93 #[(vI z)] w (Ag w (aG (AG ((z:Int):Rat)))):=by
 refine AW (args:=[(vI z)]) func93 O O (BE O) (zM (sL [0] O) (q4 (al DV O λb1=>oNl' (q2 (AM O (ck' call150 (Zy z Z Z) O (ck' call122 (MI z) O (Ah O sizeOf68 O (oNl' (zB (sL [2] O) ?_))))))))))
 exact zA (zH (ret_one O (Ap (i:=0) (cs:=AG ((z:Int):Rat)) O O isAgg68 sizeOf68 O) (λw hw=>⟨rfl,hw.out⟩)))
end
section
instance:Add Pt:=⟨λa b=>⟨a.x+b.x,a.y+b.y⟩⟩
instance:Sub Pt:=⟨λa b=>⟨a.x-b.x,a.y-b.y⟩⟩
def G4 (a:Pt) (k:Rat):Pt:=⟨a.x*k,a.y*k⟩
def BN (a b:Pt):Rat:=a.x*b.y-a.y*b.x
def B6 (a b:Pt):Rat:=a.x*b.x+a.y*b.y
def AF (a b c:Pt):Rat:=BN (b-a) (c-a)
def Bn (p:Pt):Nat:=max (Sz p.x) (Sz p.y)
theorem FW (p:Pt):Sz p.x<=Bn p:=Nat.le_max_left ..
theorem FY (p:Pt):Sz p.y<=Bn p:=Nat.le_max_right ..
theorem UB {p:Pt} {k:Nat} (h1:Sz p.x<=k) (h2:Sz p.y<=k):Bn p<=k:=Nat.max_le.2 ⟨h1,h2⟩
theorem Dz (a b:Pt):Bn (a-b)<=Bn a+Bn b+1:=by
  have h1:=FW a;have h2:=FY a;have h3:=FW b;have h4:=FY b
  refine UB ?_ ?_
  · exact xN (I6 a.x b.x) Z
  · exact xN (I6 a.y b.y) Z
theorem Ft (a b:Pt):Sz (BN a b)<=2*Bn a+2*Bn b+1:=by
  have h1:=FW a;have h2:=FY a;have h3:=FW b;have h4:=FY b
  have h5:=C2 a.x b.y;have h6:=C2 a.y b.x
  exact xN (I6 _ _) Z
theorem Kj (a b:Pt):Sz (B6 a b)<=2*Bn a+2*Bn b+1:=by
  have h1:=FW a;have h2:=FY a;have h3:=FW b;have h4:=FY b
  have h5:=C2 a.x b.x;have h6:=C2 a.y b.y
  exact xN (En _ _) Z
theorem D0 (a b c:Pt):Sz (AF a b c)<=4*Bn a+2*Bn b+2*Bn c+5:=by
  have h1:=Dz b a;have h2:=Dz c a
  exact xN (Ft _ _) Z
theorem RC:Sz (1/2:Rat)<=1:=by decide +kernel
theorem X0:((1:Int):Rat)/((2:Int):Rat)=1/2:=by decide +kernel
theorem NU {z:Int} (h1:-9223372036854775808<=z) (h2:z<9223372036854775808):Sz ((z:Int):Rat)<=2:=ZD (Ll (by show z.natAbs<_;omega)) (by show nw 1<=2;rw [Lk];omega)
theorem Yj (a b:Pt):AZ (a-b)=AG (a.x-b.x)++AG (a.y-b.y):=rfl
theorem aJ (x y:Rat):AZ ⟨x,y⟩=AG x++AG y:=rfl
section
variable {P:Program} {Q:Exit->Act->World->Prop} {n:Nat} {F:List (Nat×Value)} {w0:BF} {L:List As} {c:Code}
def FS (P:Program) (c:Code) (Q:Exit->Act->World->Prop) (k n:Nat) (F:List (Nat×Value)) (w0:BF) (L:List As):Prop:=∀a w,C1 n a F->BI w0 w L->Code.rounds P c Q k a w
theorem yC (k:Nat) (h:FS P c Q k n F w0 L):OkC P (.loop c) Q n F w0 L:=λa w ha hw=>wp_loop_rounds k (h a w ha hw)
theorem zZ {k:Nat} (h:OkC P c (Exit.then (Code.rounds P c Q k) Q) n F w0 L):FS P c Q (k+1) n F w0 L:=λa w ha hw=>by
  rw [rounds_succ];exact h a w ha hw
theorem zl {k:Nat} (h:FS P c Q k n F w0 L):OkQ (Exit.then (Code.rounds P c Q k) Q) .normal n F w0 L:=h
end
end
section
set_option maxRecDepth 100000
theorem DL (x0:Rat) (x1:Rat):Instr.fill ([(0,5),(5,5)].toArray[·]?) (AZ (⟨0,0⟩:Pt)).toArray [(0,.agg (AG x0).toArray),(1,.agg (AG x1).toArray)]=some (AG x0++AG x1).toArray:=by kernel_rfl
theorem Ov (a b:Pt) (hs:Bn a+Bn b<=68719476736) (w:World)  :Calls prog 140 #[(aG (AZ a)),(aG (AZ b)),(Value.func (.func 175) #[] #[])] w (Ag w (aG (AZ (a-b)))):=by
 have p1:=FW a
 have p2:=FY a
 have p3:=FW b
 have p4:=FY b
 refine AW (args:=[(aG (AZ a)),(aG (AZ b)),(Value.func (.func 175) #[] #[])]) func140 O O (BE O) (zM (sL [0,1,2] O) (q4 (BZ (cs:=AZ a) O λb1=>BZ (cs:=AZ b) O λb2=>al Ep O λb3=>q6 (sL [2,3,4,6] O) (C_ (Ek 5++[(6,true),(7,true),(8,true),(9,true),(10,true),(5,false),(11,false),(12,true),(13,false)]) (sl sr) (Bx O (Aj (v:=(pP b1 0)) O (AA O underlying78 O sizeOf68 O) (IS 1 (AG a.x) Bf O (Aj (v:=(pP b2 0)) O (AA O underlying78 O sizeOf68 O) ?_))))))))
 refine IS 0 (AG b.x) Bf O (Bx O (Aj (v:=(pP b1 5)) O (AA O underlying78 O sizeOf68 O) (IS 1 (AG a.y) Bf O (Aj (v:=(pP b2 5)) O (AA O underlying78 O sizeOf68 O) (IS 0 (AG b.y) Bf O (zN O ?_))))))
 have hz1:=I6 a.x b.x
 refine ck' call175 (Nr a.x b.x (by (try simp only [Df]);omega)) O (zG (sl sr) (zN O ?_))
 have hz2:=I6 a.y b.y
 exact ck' call175 (Nr a.y b.y (by (try simp only [Df]);omega)) O (zG (sl sr) (Aj (v:=(aG (AG (a.x-b.x)++AG (a.y-b.y)))) O (AT (zs:=AZ (⟨0,0⟩:Pt)) (vs:=AG (a.x-b.x)++AG (a.y-b.y)) (pv:=[(0,(aG (AG (a.x-b.x)))),(1,(aG (AG (a.y-b.y))))]) (places:=[(0,5),(5,5)]) zeroValue78 underlying78 (λw=>by simp [sizeOf68]) O (DL (a.x-b.x) (a.y-b.y))) (zN O (Ah O sizeOf78 O (zG (sl sr) (zQ (zB (sL [6] O) (zA (zH (ret_one O (Ap (i:=0) (cs:=AG (a.x-b.x)++AG (a.y-b.y)) O O isAgg78 sizeOf78 O) (λw hw=>⟨by rw [Yj],hw.out⟩)))))))))))
theorem Fd (a b:Pt) (hs:Bn a+Bn b<=68719476736) (w:World)  :Calls prog 120 #[(aG (AZ a)),(aG (AZ b))] w (Ag w (aG (AZ (a-b)))):=by
 refine AW (args:=[(aG (AZ a)),(aG (AZ b))]) func120 O O (BE O) (zM (sL [0,1] O) (q4 (BZ (cs:=AZ a) O λb1=>BZ (cs:=AZ b) O λb2=>al Ep O λb3=>q3 (sL [2,3,4] O) (Ai 2 BC O (Ai 1 BC O (ck' call140 (Ov a b Z) O (Ah O sizeOf78 O (oNl' ?_))))))))
 exact zB (sL [4] O) (zA (zH (ret_one O (Ap (i:=0) (cs:=AZ (a-b)) O O isAgg78 sizeOf78 O) (λw hw=>⟨rfl,hw.out⟩))))
theorem F6 (a b:Pt) (hs:Bn a+Bn b<=68719476736) (w:World)  :Calls prog 170 #[(aG (AZ a)),(aG (AZ b))] w (Ag w (aG (AG (BN a b)))):=by
 have p1:=FW a
 have p2:=FY a
 have p3:=FW b
 have p4:=FY b
 refine AW (args:=[(aG (AZ a)),(aG (AZ b))]) func170 O O (BE O) (zM (sL [0,1] O) (q4 (BZ (cs:=AZ a) O λb1=>BZ (cs:=AZ b) O λb2=>al DV O λb3=>q6 (sL [2,3,4] O) (C_ (Ek 4++[(5,true),(6,true),(7,true),(8,true),(4,false),(9,false),(10,false),(11,false)]) (sl sr) (Aj (v:=(pP b1 0)) O (AA O underlying78 O sizeOf68 O) (IS 1 (AG a.x) Bf O (Aj (v:=(pP b2 5)) O (AA O underlying78 O sizeOf68 O) (IS 0 (AG b.y) Bf O ?_))))))))
 refine Aj (v:=(pP b1 5)) O (AA O underlying78 O sizeOf68 O) (IS 1 (AG a.y) Bf O (Aj (v:=(pP b2 0)) O (AA O underlying78 O sizeOf68 O) (IS 0 (AG b.x) Bf O (zN O ?_))))
 have hz1:=C2 a.x b.y
 refine ck' call59 (D7 a.x b.y (by (try simp only [Df]);omega)) O (zG (sl sr) (zN O ?_))
 have hz2:=C2 a.y b.x
 refine ck' call59 (D7 a.y b.x (by (try simp only [Df]);omega)) O (zG (sl sr) (zN O ?_))
 have hz3:=I6 (a.x*b.y) (a.y*b.x)
 exact ck' call175 (Nr (a.x*b.y) (a.y*b.x) (by (try simp only [Df]);omega)) O (zG (sl sr) (zN O (Ah O sizeOf68 O (zG (sl sr) (zQ (zB (sL [4] O) (zA (zH (ret_one O (Ap (i:=0) (cs:=AG ((a.x*b.y)-(a.y*b.x))) O O isAgg68 sizeOf68 O) (λw hw=>⟨rfl,hw.out⟩))))))))))
theorem KY (a b:Pt) (hs:Bn a+Bn b<=68719476736) (w:World)  :Calls prog 121 #[(aG (AZ a)),(aG (AZ b))] w (Ag w (aG (AG (B6 a b)))):=by
 have p1:=FW a
 have p2:=FY a
 have p3:=FW b
 have p4:=FY b
 refine AW (args:=[(aG (AZ a)),(aG (AZ b))]) func121 O O (BE O) (zM (sL [0,1] O) (q4 (BZ (cs:=AZ a) O λb1=>BZ (cs:=AZ b) O λb2=>al DV O λb3=>q6 (sL [2,3,4] O) (C_ (Ek 4++[(5,true),(6,true),(7,true),(8,true),(4,false),(9,false),(10,false),(11,false)]) (sl sr) (Aj (v:=(pP b1 0)) O (AA O underlying78 O sizeOf68 O) (IS 1 (AG a.x) Bf O (Aj (v:=(pP b2 0)) O (AA O underlying78 O sizeOf68 O) (IS 0 (AG b.x) Bf O ?_))))))))
 refine Aj (v:=(pP b1 5)) O (AA O underlying78 O sizeOf68 O) (IS 1 (AG a.y) Bf O (Aj (v:=(pP b2 5)) O (AA O underlying78 O sizeOf68 O) (IS 0 (AG b.y) Bf O (zN O ?_))))
 have hz1:=C2 a.x b.x
 refine ck' call59 (D7 a.x b.x (by (try simp only [Df]);omega)) O (zG (sl sr) (zN O ?_))
 have hz2:=C2 a.y b.y
 refine ck' call59 (D7 a.y b.y (by (try simp only [Df]);omega)) O (zG (sl sr) (zN O ?_))
 have hz3:=En (a.x*b.x) (a.y*b.y)
 exact ck' call58 (Ig (a.x*b.x) (a.y*b.y) (by (try simp only [Df]);omega)) O (zG (sl sr) (zN O (Ah O sizeOf68 O (zG (sl sr) (zQ (zB (sL [4] O) (zA (zH (ret_one O (Ap (i:=0) (cs:=AG ((a.x*b.x)+(a.y*b.y))) O O isAgg68 sizeOf68 O) (λw hw=>⟨rfl,hw.out⟩))))))))))
theorem G1 (a b c:Pt) (hs:Bn a+Bn b+Bn c<=17179869184) (w:World)  :Calls prog 111 #[(aG (AZ a)),(aG (AZ b)),(aG (AZ c))] w (Ag w (vI ((AF a b c).num.sign))):=by
 refine AW (args:=[(aG (AZ a)),(aG (AZ b)),(aG (AZ c))]) func111 O O (BE O) (zM (sL [0,1,2] O) (q4 (BZ (cs:=AZ a) O λb1=>BZ (cs:=AZ b) O λb2=>BZ (cs:=AZ c) O λb3=>asg' O (q6 (sL [3,4,5,6] O) (C_ [(0,true),(1,true),(3,true),(4,true),(2,false),(5,false),(6,false),(7,false),(8,true)] sr (Es 1 BC O (Es 2 BC O (Es 0 BC O ?_))))))))
 refine Es 2 BC O (zN O ?_)
 have hz1:=Dz b a
 refine ck' call120 (Fd b a Z) O (zG sr (zN O ?_))
 have hz2:=Dz c a
 refine ck' call120 (Fd c a Z) O (zG sr (zN O ?_))
 have hz3:=Ft (b-a) (c-a)
 exact ck' call170 (F6 (b-a) (c-a) Z) O (zG sr (zN O (ck' call171 (Ec (BN (b-a) (c-a))) O (zG sr (pS' O (zQ (zB (sL [6] O) (zA (zH (ret_one O (rd_tmp (v:=(vI ((BN (b-a) (c-a)).num.sign))) O) (λw hw=>⟨rfl,hw.out⟩)))))))))))
theorem IC (a b:Pt) (hs:Bn a+Bn b<=17179869184) (w:World)  :Calls prog 57 #[(aG (AZ a)),(aG (AZ b))] w (Ag w (aG (AG (B6 (b-a) (b-a))))):=by
 refine AW (args:=[(aG (AZ a)),(aG (AZ b))]) func57 O O (BE O) (zM (sL [0,1] O) (q4 (BZ (cs:=AZ a) O λb1=>BZ (cs:=AZ b) O λb2=>al DV O λb3=>q3 (sL [2,3,4] O) (Ai 1 BC O (Ai 2 BC O ?_)))))
 have hz1:=Dz b a
 refine ck' call120 (Fd b a Z) O (al Ep O λb4=>Ah O sizeOf78 O (q3 (sL [4,5] O) (Ai 0 BC O (Ai 0 BC O ?_))))
 have hz2:=Kj (b-a) (b-a)
 exact ck' call121 (KY (b-a) (b-a) Z) O (CS O sizeOf68 O (oNl' (zB (sL [4,5] O) (zA (zH (ret_one O (Ap (i:=1) (cs:=AG (B6 (b-a) (b-a))) O O isAgg68 sizeOf68 O) (λw hw=>⟨rfl,hw.out⟩)))))))
theorem KZ (x y:Int) (h1:-9223372036854775808<=x) (h2:x<9223372036854775808) (h3:-9223372036854775808<=y) (h4:y<9223372036854775808) (w:World)  :Calls prog 37 #[(vI x),(vI y)] w (Ag w (aG (AZ (⟨((x:Int):Rat),((y:Int):Rat)⟩:Pt)))):=by
 refine AW (args:=[(vI x),(vI y)]) func37 O O (BE O) (zM (sL [0,1] O) (q4 (al Ep O λb1=>oNl' (q2 (AM O (ck' call93 (KL x Z Z) O (AM O (ck' call93 (KL y Z Z) O (AC (v:=(aG (AG ((x:Int):Rat)++AG ((y:Int):Rat)))) (AT (zs:=AZ (⟨0,0⟩:Pt)) (vs:=AG ((x:Int):Rat)++AG ((y:Int):Rat)) (pv:=[(0,(aG (AG ((x:Int):Rat)))),(1,(aG (AG ((y:Int):Rat))))]) (places:=[(0,5),(5,5)]) zeroValue78 underlying78 (λw=>by simp [sizeOf68]) O (DL ((x:Int):Rat) ((y:Int):Rat))) O (Ah O sizeOf78 O ?_))))))))))
 exact oNl' (zB (sL [4] O) (zA (zH (ret_one O (Ap (i:=0) (cs:=AG ((x:Int):Rat)++AG ((y:Int):Rat)) O O isAgg78 sizeOf78 O) (λw hw=>⟨by rw [aJ],hw.out⟩)))))
end
section
set_option maxRecDepth 100000
theorem QH (x y:Int) (h1:-9223372036854775808<=x) (h2:x<9223372036854775808) (h3:-9223372036854775808<=y) (h4:y<9223372036854775808) (hy:y≠0) (w:World)  :Calls prog 61 #[(vI x),(vI y)] w (Ag w (Value.tuple #[(aG (AG (((x:Int):Rat)/((y:Int):Rat)))),(vI 0)])):=by
 have hb:((y:Int):Rat)≠0:=λe=>hy (by exact_mod_cast e)
 have s1:=NU h1 h2
 have s2:=NU h3 h4
 refine AW (args:=[(vI x),(vI y)]) func61 O O (BE O) (zM (sL [0,1] O) (q4 (al DV O λb1=>asg' O (oNl' (q2 (AM O (ck' call93 (KL x Z Z) O (AM O (ck' call93 (KL y Z Z) O ?_)))))))))
 have hz1:=Ki (a:=((x:Int):Rat)) (b:=((y:Int):Rat)) (by assumption)
 exact ck' call128 (KK ((x:Int):Rat) ((y:Int):Rat) Z (by assumption)) O (AC (AJ (v:=(aG (AG (((x:Int):Rat)/((y:Int):Rat))))) O O) O (AC (AJ (v:=(vI 0)) O O) O (Ah O sizeOf68 O (asg' O (oNl' (zB (sL [4,5] O) (zA (zH (Bu O (Ap (i:=0) (cs:=AG (((x:Int):Rat)/((y:Int):Rat))) O O isAgg68 sizeOf68 O) (rd_tmp (v:=(vI 0)) O) (λw hw=>⟨rfl,hw.out⟩))))))))))
theorem Wo (x:Rat) (hs:Sz x<=137438953472) (w:World)  :Calls prog 126 #[(aG (AG x))] w (Ag w (aG (AG (x*(1/2))))):=by
 have sh:=RC
 refine AW (args:=[(aG (AG x))]) func126 O O (BE O) (zM (sL [0] O) (q4 (BZ (cs:=AG x) O λb1=>al DV O λb2=>q3 (sL [1,2] O) (ck' call61 (QH (1:Int) (2:Int) Z Z Z Z Z) O (AM O (AC (AJ (v:=(aG (AG (((1:Int):Rat)/((2:Int):Rat))))) O O) O (zK (k:=7) (u:=(aG (AG ((1:Rat)/2)))) O (by rw [X0]) (AC (AJ (v:=(vI 0)) O O) O (al DV O λb3=>?_)))))))))
 refine Ah O sizeOf68 O (asg' O (q3 (sL [1,2,3] O) (Ai 2 Bf O (Ai 0 Bf O ?_))))
 have hz1:=C2 x ((1:Rat)/2)
 exact ck' call59 (D7 x ((1:Rat)/2) (by (try simp only [Df]);omega)) O (CS O sizeOf68 O (oNl' (zB (sL [2,3] O) (zA (zH (ret_one O (Ap (i:=1) (cs:=AG (x*((1:Rat)/2))) O O isAgg68 sizeOf68 O) (λw hw=>⟨rfl,hw.out⟩)))))))
theorem EC (a b c:Pt) (hs:Bn a+Bn b+Bn c<=8589934592) (w:World)  :Calls prog 127 #[(aG (AZ a)),(aG (AZ b)),(aG (AZ c))] w (Ag w (aG (AG (AF a b c)))):=by
 refine AW (args:=[(aG (AZ a)),(aG (AZ b)),(aG (AZ c))]) func127 O O (BE O) (zM (sL [0,1,2] O) (q4 (BZ (cs:=AZ a) O λb1=>BZ (cs:=AZ b) O λb2=>BZ (cs:=AZ c) O λb3=>al DV O λb4=>q6 (sL [3,4,5,6] O) (C_ [(0,true),(1,true),(3,true),(4,true),(2,false),(5,false),(6,false),(7,false)] (sl sr) (Es 1 BC O (Es 2 BC O (Es 0 BC O ?_)))))))
 refine Es 2 BC O (zN O ?_)
 have hz1:=Dz b a
 refine ck' call120 (Fd b a Z) O (zG (sl sr) (zN O ?_))
 have hz2:=Dz c a
 refine ck' call120 (Fd c a Z) O (zG (sl sr) (zN O ?_))
 have hz3:=Ft (b-a) (c-a)
 exact ck' call170 (F6 (b-a) (c-a) Z) O (zG (sl sr) (zN O (Ah O sizeOf68 O (zG (sl sr) (zQ (zB (sL [6] O) (zA (zH (ret_one O (Ap (i:=0) (cs:=AG (BN (b-a) (c-a))) O O isAgg68 sizeOf68 O) (λw hw=>⟨rfl,hw.out⟩))))))))))
theorem Q8 (a b c:Pt) (hs:Bn a+Bn b+Bn c<=8589934592) (w:World)  :Calls prog 60 #[(aG (AZ a)),(aG (AZ b)),(aG (AZ c))] w (Ag w (aG (AG (AF a b c*(1/2))))):=by
 refine AW (args:=[(aG (AZ a)),(aG (AZ b)),(aG (AZ c))]) func60 O O (BE O) (zM (sL [0,1,2] O) (q4 (BZ (cs:=AZ a) O λb1=>BZ (cs:=AZ b) O λb2=>BZ (cs:=AZ c) O λb3=>al DV O λb4=>q3 (sL [3,4,5,6] O) (Ai 3 BC O (Ai 2 BC O (Ai 1 BC O ?_))))))
 have hz1:=D0 a b c
 refine ck' call127 (EC a b c Z) O ?_
 have hz2:=C2 (AF a b c) (1/2)
 exact ck' call126 (Wo (AF a b c) Z) O (Ah O sizeOf68 O (oNl' (zB (sL [6] O) (zA (zH (ret_one O (Ap (i:=0) (cs:=AG ((AF a b c)*(1/2))) O O isAgg68 sizeOf68 O) (λw hw=>⟨rfl,hw.out⟩)))))))
end
end Go.Proofs.YtbfdamnfcmefmaaGreatDoor
