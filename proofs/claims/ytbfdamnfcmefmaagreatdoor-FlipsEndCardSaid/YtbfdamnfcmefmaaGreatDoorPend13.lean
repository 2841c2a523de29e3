import Derived.Test.YtbfdamnfcmefmaaGreatDoorPend12
namespace Go.Proofs.YtbfdamnfcmefmaaGreatDoor
open Go Go.RowKit Go.Proofs.Tryz
open Go.Value renaming slice→qz,bool→qa
set_option linter.unusedVariables false
set_option linter.unusedSimpArgs false
section
set_option maxRecDepth 100000
theorem Di (x0:Int) (x1:Nat):Instr.fill ([(0,3),(3,2)].toArray[·]?) (AF (0:Rat)).toArray [(0,.agg (A6 x0).toArray),(1,.agg (AT x1).toArray)]=some (A6 x0++AT x1).toArray:=by kernel_rfl
theorem HU (n:Int) (d:Nat) (hn:nw n.natAbs<=1099511627776) (hd:nw d<=1099511627776) (hd0:d≠0) (w:World)  :Calls prog 124 #[(aG (A6 n)),(aG (AT d))] w (Ac w (aG (AF (mkRat n d)))):=by
 have hg:Nat.gcd n.natAbs d≠0:=λh=>hd0 (Nat.eq_zero_of_gcd_eq_zero_right h)
 have hgw:nw (Nat.gcd n.natAbs d)<=nw d:=Dm (Nat.gcd_le_right _ (Nat.pos_of_ne_zero hd0))
 have hqw:nw (d/Nat.gcd n.natAbs d)<=nw d:=Dm (Nat.div_le_self _ _)
 have h1w:=Lg
 refine AW (args:=[(aG (A6 n)),(aG (AT d))]) func124 O O (A_ O) (zM (sL [0,1] O) (q4 (BV (cs:=A6 n) O λb1=>BV (cs:=AT d) O λb2=>al DO O λb3=>q6 (sL [2,3,4] O) (rN [(0,true),(2,true),(1,false),(3,false)] [⟨4,5,62,AT 0⟩] [(5,false)] sr jV (λ_ _ d _ _ h=>by cases d<;>exact h) (FL O O GV O (Hg)) O (Ee 2 DN O (Ee 1 B8 O (zj O λEF EL=>ck' call177 (N1 n) O ?_)))))))
 refine zf sr O (zj O λEF EL=>ck' call176 (Ze n.natAbs d Z Z) O (zf sr O (yJ λb4=>zN O (Ah O sizeOf62 O (zD (sl sr) (zQ (zB (sL [2,3,4,5] O) (q1 (rN [(0,true),(2,true),(1,false),(3,false),(4,true),(5,true),(6,true),(7,true)] [⟨8,6,62,AT 0⟩,⟨9,7,62,AT 0⟩] [(10,false),(11,false),(12,true)] sr jV (λ_ _ d _ _ h=>by cases d<;>exact h) (FL O O GV O (FL O O GV O (Hg))) O ?_)))))))))
 refine Ee 3 DN O (Ee 0 B8 O (zj O λEF EL=>ck' call177 (N1 n) O (zf sr O (zj O λEF EL=>ck' call178 (Ps n.natAbs (Nat.gcd n.natAbs d) Z Z Z) O (zf sr O (Q0 O (F9 O (AJ (v:=(aG (AT (n.natAbs/(Nat.gcd n.natAbs d))))) O O) O (F9 O (AJ (v:=(aG (AT (n.natAbs%(Nat.gcd n.natAbs d))))) O O) O (F9 O (AJ (v:=(qa true)) O O) O ?_)))))))))
 refine yW λb5 b6=>zN O (Ah O sizeOf62 O (zD (sl (sl sr)) (zN O (CM O sizeOf62 O (zD (sl (sl sr)) (pS' O (zQ (zB (sL [2,3,4,5,6] O) (q2 (Ak 4 B8 O ?_))))))))))
 refine Ak 2 B8 O (ck' call178 (Ps d (Nat.gcd n.natAbs d) Z Z Z) O (AL O (AD (AJ (v:=(aG (AT (d/(Nat.gcd n.natAbs d))))) O O) O (AD (AJ (v:=(aG (AT (d%(Nat.gcd n.natAbs d))))) O O) O (AD (AJ (v:=(qa true)) O O) O (al GV O λb7=>al GV O λb8=>CM O sizeOf62 O (Ah O sizeOf62 O (asg' O (q6 (sL [2,3,4,5,6,9] O) ?_)))))))))
 refine rC [(0,true),(1,false),(2,false),(3,true),(4,true),(5,true)] 6 [] sr (sk (sl sr)) jV (λ_ _ d _ _ h=>by cases d<;>exact h) (vE (v:=(aG (AT (d/(Nat.gcd n.natAbs d))))) O (Ad (i:=1) (vs:=AT (d/(Nat.gcd n.natAbs d))) O O B8.a B8.s O O) O (zu O (ck' call160 (KO 1 Z) O (zp sr (zu O (ck' call179 (Pz (d/(Nat.gcd n.natAbs d)) 1 Z Z) O (zp sr (vM O O O (vE O (AJ (v:=(aG (AT ((d/(Nat.gcd n.natAbs d))-1)))) O O) O (vE O (AJ (v:=(qa (decide (1<=d/(Nat.gcd n.natAbs d))))) O O) O (yL O ?_)))))))))))
 refine CM O sizeOf62 O (zD (sk (sl sr)) (zQ (zB (sL [2,3,4,5,6,9] O) (q1 (C8 [(0,true),(3,true),(5,true),(1,false),(2,true),(4,false),(6,true),(7,false)] (sk (sk (sk (sk (sk (sl sr)))))) (Ej 6 DN O (Ej 2 B8 O (Ej 1 B8 O (zN O (ck' call112 (LK n) O (zD (sk (sk (sk (sk (sk (sl sr)))))) ?_)))))))))))
 exact Al O (Ab (c:=(decide (n.sign<(0:Int)))) O O O) (zN O (ck' call116 (EN (decide (n.sign<(0:Int))) (n.natAbs/(Nat.gcd n.natAbs d))) O (zD (sk (sk (sk (sk (sk (sl sr)))))) (Al (v:=(aG (A6 (E1 (decide (n.sign<(0:Int))) (n.natAbs/(Nat.gcd n.natAbs d)))++AT ((d/(Nat.gcd n.natAbs d))-1)))) O (AQ (zs:=AF (0:Rat)) (vs:=A6 (E1 (decide (n.sign<(0:Int))) (n.natAbs/(Nat.gcd n.natAbs d)))++AT ((d/(Nat.gcd n.natAbs d))-1)) (pv:=[(0,(aG (A6 (E1 (decide (n.sign<(0:Int))) (n.natAbs/(Nat.gcd n.natAbs d)))))),(1,(aG (AT ((d/(Nat.gcd n.natAbs d))-1))))]) (places:=[(0,3),(3,2)]) zeroValue68 underlying68 (λw=>by simp [sizeOf62,sizeOf66]) O (Di (E1 (decide (n.sign<(0:Int))) (n.natAbs/(Nat.gcd n.natAbs d))) ((d/(Nat.gcd n.natAbs d))-1))) (zN O (Fj 5 (off:=0) (vs:=A6 (E1 (decide (n.sign<(0:Int))) (n.natAbs/(Nat.gcd n.natAbs d)))++AT ((d/(Nat.gcd n.natAbs d))-1)) (cs':=A6 (E1 (decide (n.sign<(0:Int))) (n.natAbs/(Nat.gcd n.natAbs d)))++AT ((d/(Nat.gcd n.natAbs d))-1)) (AI O) O sizeOf68 O (zD (sk (sk (sk (sk (sk (sl sr)))))) (zQ (zB (sL [2,3,4,5,6,9] O) (zA (zG (ret_one O (An (i:=5) (cs:=A6 (E1 (decide (n.sign<(0:Int))) (n.natAbs/(Nat.gcd n.natAbs d)))++AT ((d/(Nat.gcd n.natAbs d))-1)) O O isAgg68 sizeOf68 O) (λw hw=>⟨by rw [Je,Ya hd0,YZ hd0],hw.out⟩)))))))))))))
theorem Hw (x0:Int):Instr.fill ([(0,3),(3,2)].toArray[·]?) (AF (0:Rat)).toArray [(0,.agg (A6 x0).toArray)]=some (A6 x0++AT ((0:Rat).den-1)).toArray:=by kernel_rfl
theorem MD (n:Int) (w:World)  :Calls prog 122 #[(aG (A6 n))] w (Ac w (aG (AF ((n:Int):Rat)))):=by
 refine AW (args:=[(aG (A6 n))]) func122 O O (A_ O) (zM (sL [0] O) (q4 (BV (cs:=A6 n) O λb1=>al DO O λb2=>q3 (sL [1,2] O) (Ak 1 DN O (AD (v:=(aG (A6 n++AT ((0:Rat).den-1)))) (AQ (zs:=AF (0:Rat)) (vs:=A6 n++AT ((0:Rat).den-1)) (pv:=[(0,(aG (A6 n)))]) (places:=[(0,3),(3,2)]) zeroValue68 underlying68 (λw=>by simp [sizeOf62,sizeOf66]) O (Hw n)) O (Ah O sizeOf68 O (oNl' (zB (sL [2] O) (zA ?_)))))))))
 exact zG (ret_one O (An (i:=0) (cs:=A6 n++AT ((0:Rat).den-1)) O O isAgg68 sizeOf68 O) (λw hw=>⟨rfl,hw.out⟩))
theorem MU  :Instr.fill ([(0,1),(1,1)].toArray[·]?) (AT 0).toArray []=some (AT 0).toArray:=by kernel_rfl
theorem Gi (a:Rat) (w:World)  :Calls prog 94 #[(aG (AF a))] w (Ac w (qa (decide (a.den-1=0)))):=by
 refine AW (args:=[(aG (AF a))]) func94 O O (A_ O) (zM (sL [0] O) (q4 (BV (cs:=AF a) O λb1=>asg' O (q3 (sL [1,2] O) (AD (v:=(pP b1 3)) (AA O underlying68 O sizeOf62 O) O (Dp 0 (AT (a.den-1)) B8 O (AD (v:=(aG (AT 0))) (AQ (zs:=AT 0) (vs:=AT 0) (pv:=[]) (places:=[(0,1),(1,1)]) zeroValue62 underlying62 (λw=>by simp [sizeOf9,sizeOf60]) O (MU )) O (AD (Bu (c:=(decide (a.den-1=0))) O O eqGuardType62 (HM 9998 (a.den-1) 0)) O (asg' O (oNl' ?_))))))))))
 exact zB (sL [2] O) (zA (zG (ret_one O (rd_tmp (v:=(qa (decide (a.den-1=0)))) O) (λw hw=>⟨rfl,hw.out⟩))))
theorem den_ok (a:Rat) (ha:nw a.den<=1099511627776) (w:World)  :Calls prog 97 #[(aG (AF a))] w (Ac w (aG (AT a.den))):=by
 have h1w:=Lg
 have h2w:=Dm (Nat.sub_le a.den 1)
 refine AW (args:=[(aG (AF a))]) func97 O O (A_ O) (zM (sL [0] O) (q4 (BV (cs:=AF a) O λb1=>al GV O λb2=>q6 (sL [1,2] O) (C8 [(0,true),(1,true),(2,false),(3,false),(4,false)] (sl sr) (Al (v:=(pP b1 3)) O (AA O underlying68 O sizeOf62 O) (IK 0 (AT (a.den-1)) B8 O (zN O (ck' call160 (KO 1 Z) O (zD (sl sr) ?_)))))))))
 exact zN O (ck' call159 (Tk (a.den-1) 1 Z Z) O (zD (sl sr) (zN O (Ah O sizeOf62 O (zD (sl sr) (zQ (zB (sL [2] O) (zA (zG (ret_one O (An (i:=0) (cs:=AT ((a.den-1)+1)) O O isAgg62 sizeOf62 O) (λw hw=>⟨by rw [Nat.sub_add_cancel a.den_pos],hw.out⟩)))))))))))
theorem Hc (a:Rat) (ha:nw a.den<=1099511627776) (w:World)  :Calls prog 54 #[(aG (AF a))] w (Ac w (aG (A6 ((a.den:Nat):Int)))):=by
 refine AW (args:=[(aG (AF a))]) func54 O O (A_ O) (zM (sL [0] O) (q4 (BV (cs:=AF a) O λb1=>al J0 O λb2=>q3 (sL [1,2] O) (Ak 1 Be O (ck' call97 (den_ok a Z) O (ck' call116 (EN false a.den) O (Ah O sizeOf66 O (oNl' (zB (sL [2] O) ?_)))))))))
 exact zA (zG (ret_one O (An (i:=0) (cs:=A6 (E1 false a.den)) O O isAgg66 sizeOf66 O) (λw hw=>⟨rfl,hw.out⟩)))
theorem Xz (a:Rat) (w:World)  :Calls prog 221 #[(aG (AF a))] w (Ac w (aG (AF (-a)))):=by
 refine AW (args:=[(aG (AF a))]) func221 O O (A_ O) (zM (sL [0] O) (q4 (BV (cs:=AF a) O λb1=>al DO O λb2=>q6 (sL [1,2] O) (C8 [(0,true),(1,true),(3,true),(4,true),(2,false),(5,true),(6,false)] (sl sr) (Al (v:=(pP b1 0)) O (AA O underlying68 O sizeOf66 O) (IK 0 (A6 a.num) DN O (Al (v:=(pP b1 3)) O (AA O underlying68 O sizeOf62 O) (IK 0 (AT (a.den-1)) B8 O (zN O ?_)))))))))
 exact ck' call174 (Rf a.num) O (zD (sl sr) (Al (v:=(aG (A6 (-a.num)++AT (a.den-1)))) O (AQ (zs:=AF (0:Rat)) (vs:=A6 (-a.num)++AT (a.den-1)) (pv:=[(0,(aG (A6 (-a.num)))),(1,(aG (AT (a.den-1))))]) (places:=[(0,3),(3,2)]) zeroValue68 underlying68 (λw=>by simp [sizeOf62,sizeOf66]) O (Di (-a.num) (a.den-1))) (zN O (Ah O sizeOf68 O (zD (sl sr) (zQ (zB (sL [2] O) (zA (zG (ret_one O (An (i:=0) (cs:=A6 (-a.num)++AT (a.den-1)) O O isAgg68 sizeOf68 O) (λw hw=>⟨by rw [Je,Rat.neg_num,Rat.neg_den],hw.out⟩)))))))))))
theorem EV (a:Rat) (w:World)  :Calls prog 171 #[(aG (AF a))] w (Ac w (vI a.num.sign)):=by
 refine AW (args:=[(aG (AF a))]) func171 O O (A_ O) (zM (sL [0] O) (q4 (BV (cs:=AF a) O λb1=>asg' O (q3 (sL [1,2] O) (AD (v:=(pP b1 0)) (AA O underlying68 O sizeOf66 O) O (Dp 0 (A6 a.num) DN O (ck' call112 (LK a.num) O (asg' O (oNl' (zB (sL [2] O) ?_))))))))))
 exact zA (zG (ret_one O (rd_tmp (v:=(vI a.num.sign)) O) (λw hw=>⟨rfl,hw.out⟩)))
theorem Nq (a b:Rat) (hs:Sz a+Sz b<=549755813888) (w:World)  :Calls prog 20 #[(aG (AF a)),(aG (AF b))] w (Ac w (vI (FV a b))):=by
 have s1:=Ei a
 have s2:=ED a
 have s3:=Ei b
 have s4:=ED b
 have s5:=Dg a b
 have s6:=Dg b a
 have s7:=Iy a b
 have s8:=Lf a b
 have s9:=Ev a.num b.num
 have s10:=Ev (a.num*((b.den:Nat):Int)) (b.num*((a.den:Nat):Int))
 have hda:=a.den_nz
 have hdb:=b.den_nz
 have hdab:a.den*b.den≠0:=Nat.mul_ne_zero hda hdb
 refine AW (args:=[(aG (AF a)),(aG (AF b))]) func20 O O (A_ O) (zM (sL [0,1] O) (q4 (BV (cs:=AF a) O λb1=>BV (cs:=AF b) O λb2=>asg' O (q6 (sL [2,3,4] O) (q4 (AD (v:=(pP b1 3)) (AA O underlying68 O sizeOf62 O) O (Dp 1 (AT (a.den-1)) B8 O (AD (v:=(pP b2 3)) (AA O underlying68 O sizeOf62 O) O (Dp 0 (AT (b.den-1)) B8 O ?_)))))))))
 refine AD (Bu (c:=(decide (a.den-1=b.den-1))) O O eqGuardType62 (HM 9998 (a.den-1) (b.den-1))) O (oNl' (zB (sL [2,3,4,9] O) (zA ?_)))
 refine zK O (λhc0=>?_) (λhc0=>?_)
 ·replace hc0:=xT hc0
  have he:=SQ hc0
  exact q4 (AD (v:=(pP b1 0)) (AA O underlying68 O sizeOf66 O) O (Dp 1 (A6 a.num) DN O (AD (v:=(pP b2 0)) (AA O underlying68 O sizeOf66 O) O (Dp 0 (A6 b.num) DN O (ck' call52 (Re a.num b.num (by first|omega|(simp only [Int.natAbs_neg,Au,Int.natAbs_natCast];omega)) (by first|omega|(simp only [Int.natAbs_neg,Au,Int.natAbs_natCast];omega))) O (asg' O (oNl' (zB (sL [2,3,4] O) (zA (zG (zJ (ret_one O (rd_tmp (v:=(vI ((a.num-b.num).sign))) O) (λw hw=>⟨by rw [he],hw.out⟩)))))))))))))
 ·replace hc0:=xS hc0
  have he:=Kq a b
  refine zC (q1 (C8 [(0,true),(1,true),(2,true),(5,true),(6,true),(7,true),(3,false),(4,false),(8,false),(9,false),(10,false),(11,true)] sr (Al (v:=(pP b1 0)) O (AA O underlying68 O sizeOf66 O) (IK 1 (A6 a.num) DN O (Ej 0 Be O (Al (v:=(pP b2 0)) O (AA O underlying68 O sizeOf66 O) (IK 0 (A6 b.num) DN O (Ej 1 Be O (zN O (ck' call54 (Hc b Z) O (zD sr ?_)))))))))))
  refine zN O (ck' call53 (HP a.num ((b.den:Nat):Int) (by first|omega|(simp only [Int.natAbs_neg,Au,Int.natAbs_natCast];omega)) (by first|omega|(simp only [Int.natAbs_neg,Au,Int.natAbs_natCast];omega))) O (zD sr (zN O (ck' call54 (Hc a Z) O (zD sr (zN O (ck' call53 (HP b.num ((a.den:Nat):Int) (by first|omega|(simp only [Int.natAbs_neg,Au,Int.natAbs_natCast];omega)) (by first|omega|(simp only [Int.natAbs_neg,Au,Int.natAbs_natCast];omega))) O (zD sr (zN O (ck' call52 (Re (a.num*((b.den:Nat):Int)) (b.num*((a.den:Nat):Int)) (by first|omega|(simp only [Int.natAbs_neg,Au,Int.natAbs_natCast];omega)) (by first|omega|(simp only [Int.natAbs_neg,Au,Int.natAbs_natCast];omega))) O (zD sr ?_)))))))))))
  exact pS' O (zQ (zB (sL [2,3,4] O) (zA (zG (ret_one O (rd_tmp (v:=(vI (((a.num*((b.den:Nat):Int))-(b.num*((a.den:Nat):Int))).sign))) O) (λw hw=>⟨by rw [he],hw.out⟩))))))
theorem IU (a b:Rat) (hs:Sz a+Sz b<=549755813888) (w:World)  :Calls prog 58 #[(aG (AF a)),(aG (AF b))] w (Ac w (aG (AF (a+b)))):=by
 have s1:=Ei a
 have s2:=ED a
 have s3:=Ei b
 have s4:=ED b
 have s5:=Dg a b
 have s6:=Dg b a
 have s7:=Iy a b
 have s8:=Lf a b
 have s9:=Ev a.num b.num
 have s10:=Ev (a.num*((b.den:Nat):Int)) (b.num*((a.den:Nat):Int))
 have hda:=a.den_nz
 have hdb:=b.den_nz
 have hdab:a.den*b.den≠0:=Nat.mul_ne_zero hda hdb
 refine AW (args:=[(aG (AF a)),(aG (AF b))]) func58 O O (A_ O) (zM (sL [0,1] O) (q4 (BV (cs:=AF a) O λb1=>BV (cs:=AF b) O λb2=>al DO O λb3=>q6 (sL [2,3,4] O) (zI (q4 (Ak 2 Be O (ck' call94 (Gi a) O (AL O ?_))))))))
 refine zi (FM:=[(2,(pP b1 0)),(3,(pP b2 0)),(4,(pP b3 0)),(6,(aG (AF a))),(7,(qa (decide (a.den-1=0)))),(8,(qa (decide (a.den-1=0)))),(11,(qa ((decide (a.den-1=0))&&(decide (b.den-1=0)))))]) (LM:=[AY b3 68 (AF (0:Rat)),AY b2 68 (AF b),AY b1 68 (AF a)]) 3 ?_ ?_
 ·rcases xQ (decide (a.den-1=0)) with hg1|hg1
  ·refine zL (k:=8) (u:=qa true) O (by rw [hg1]) ?_
   have hg1':=xT hg1
   exact BI (v:=(aG (AF b))) O (Ad (i:=1) (vs:=AF b) O O Be.a Be.s O O) (zg (v:=(qa (decide (b.den-1=0)))) (AU O) (Am (args:=[(aG (AF b))]) O O call94) (λw hw=>Gi b w) O (A_ O) (AD (v:=(qa (decide (b.den-1=0)))) (AX O O) O (oNl' (zT Cd (xR _)))))
  ·refine zL (k:=8) (u:=qa false) O (by rw [hg1]) ?_
   have hg1':=xS hg1
   exact BT O (BT O (AD (v:=(qa false)) (AP O O) O (oNl' (zT Cd (xR _)))))
 refine asg' O (oNl' (zB (sL [2,3,4,5] O) (zA ?_)))
 refine zK O (λhc0=>?_) (λhc0=>?_)
 ·simp only [jK] at hc0
  have he:=SI hc0.1 hc0.2
  refine q4 (AD (v:=(pP b1 0)) (AA O underlying68 O sizeOf66 O) O (Dp 2 (A6 a.num) DN O (AD (v:=(pP b2 0)) (AA O underlying68 O sizeOf66 O) O (Dp 1 (A6 b.num) DN O (ck' call123 (N2 a.num b.num (by first|omega|(simp only [Int.natAbs_neg,Au,Int.natAbs_natCast];omega)) (by first|omega|(simp only [Int.natAbs_neg,Au,Int.natAbs_natCast];omega))) O (ck' call122 (MD (a.num+b.num)) O (Ah O sizeOf68 O (oNl' (zB (sL [2,3,4] O) (zA (zG ?_)))))))))))
  exact zR (zJ (ret_one O (An (i:=0) (cs:=AF ((a.num+b.num:Int):Rat)) O O isAgg68 sizeOf68 O) (λw hw=>⟨by rw [he],hw.out⟩)))
 ·simp only [jK] at hc0
  have he:=Mk a b
  refine q4 (AD (v:=(pP b1 3)) (AA O underlying68 O sizeOf62 O) O (Dp 2 (AT (a.den-1)) B8 O (AD (v:=(pP b2 3)) (AA O underlying68 O sizeOf62 O) O (Dp 1 (AT (b.den-1)) B8 O (AD (Bu (c:=(decide (a.den-1=b.den-1))) O O eqGuardType62 (HM 9998 (a.den-1) (b.den-1))) O (asg' O (oNl' (zB (sL [2,3,4,18] O) (zA ?_)))))))))
  refine zK O (λhc1=>?_) (λhc1=>?_)
  ·replace hc1:=xT hc1
   have he:=UL hc1
   refine zX (C8 (El 4++[(5,true),(4,false),(6,false),(7,false),(8,false)]) (sl sr) (Al (v:=(pP b1 0)) O (AA O underlying68 O sizeOf66 O) (IK 1 (A6 a.num) DN O (Al (v:=(pP b2 0)) O (AA O underlying68 O sizeOf66 O) (IK 0 (A6 b.num) DN O (Ej 1 Be O (zN O (ck' call123 (N2 a.num b.num (by first|omega|(simp only [Int.natAbs_neg,Au,Int.natAbs_natCast];omega)) (by first|omega|(simp only [Int.natAbs_neg,Au,Int.natAbs_natCast];omega))) O (zD (sl sr) (zN O (ck' call97 (den_ok a Z) O ?_)))))))))))
   refine zD (sl sr) (zN O (ck' call124 (HU (a.num+b.num) a.den Z Z (by first|omega|assumption)) O (zD (sl sr) (zN O (Ah O sizeOf68 O (zD (sl sr) (zQ (zB (sL [2,3,4] O) (zA (zG (zR ?_)))))))))))
   exact zJ (ret_one O (An (i:=0) (cs:=AF (mkRat (a.num+b.num) a.den)) O O isAgg68 sizeOf68 O) (λw hw=>⟨by rw [he],hw.out⟩))
  ·replace hc1:=xS hc1
   refine zC (zF (q1 (C8 [(0,true),(1,true),(2,true),(5,true),(6,true),(7,true),(11,true),(13,true),(3,false),(4,false),(8,false),(9,false),(10,false),(12,false),(14,false),(15,false),(16,false),(17,false)] (sl sr) (Al (v:=(pP b1 0)) O (AA O underlying68 O sizeOf66 O) (IK 1 (A6 a.num) DN O (Ej 0 Be O (Al (v:=(pP b2 0)) O (AA O underlying68 O sizeOf66 O) (IK 0 (A6 b.num) DN O (Ej 1 Be O (Ej 1 Be O (Ej 0 Be O ?_)))))))))))
   refine zN O (ck' call54 (Hc b Z) O (zD (sl sr) (zN O (ck' call53 (HP a.num ((b.den:Nat):Int) (by first|omega|(simp only [Int.natAbs_neg,Au,Int.natAbs_natCast];omega)) (by first|omega|(simp only [Int.natAbs_neg,Au,Int.natAbs_natCast];omega))) O (zD (sl sr) (zN O (ck' call54 (Hc a Z) O (zD (sl sr) (zN O (ck' call53 (HP b.num ((a.den:Nat):Int) (by first|omega|(simp only [Int.natAbs_neg,Au,Int.natAbs_natCast];omega)) (by first|omega|(simp only [Int.natAbs_neg,Au,Int.natAbs_natCast];omega))) O (zD (sl sr) ?_)))))))))))
   refine zN O (ck' call123 (N2 (a.num*((b.den:Nat):Int)) (b.num*((a.den:Nat):Int)) (by first|omega|(simp only [Int.natAbs_neg,Au,Int.natAbs_natCast];omega)) (by first|omega|(simp only [Int.natAbs_neg,Au,Int.natAbs_natCast];omega))) O (zD (sl sr) (zN O (ck' call97 (den_ok a Z) O (zD (sl sr) (zN O (ck' call97 (den_ok b Z) O (zD (sl sr) (zN O (ck' call125 (Px a.den b.den Z Z) O (zD (sl sr) ?_)))))))))))
   exact zN O (ck' call124 (HU ((a.num*((b.den:Nat):Int))+(b.num*((a.den:Nat):Int))) (a.den*b.den) Z Z (by first|omega|assumption)) O (zD (sl sr) (zN O (Ah O sizeOf68 O (zD (sl sr) (zQ (zB (sL [2,3,4] O) (zA (zG (ret_one O (An (i:=0) (cs:=AF (mkRat ((a.num*((b.den:Nat):Int))+(b.num*((a.den:Nat):Int))) (a.den*b.den))) O O isAgg68 sizeOf68 O) (λw hw=>⟨by rw [he],hw.out⟩)))))))))))
theorem Nr (a b:Rat) (hs:Sz a+Sz b<=549755813888) (w:World)  :Calls prog 175 #[(aG (AF a)),(aG (AF b))] w (Ac w (aG (AF (a-b)))):=by
 refine AW (args:=[(aG (AF a)),(aG (AF b))]) func175 O O (A_ O) (zM (sL [0,1] O) (q4 (BV (cs:=AF a) O λb1=>BV (cs:=AF b) O λb2=>al DO O λb3=>q6 (sL [2,3,4] O) (C8 [(0,true),(1,true),(2,false),(3,false),(4,false)] (sl sr) (Ej 1 Be O (Ej 0 Be O (zN O (ck' call221 (Xz b) O ?_))))))))
 refine zD (sl sr) (zN O ?_)
 have hz1:=Eh a (-b)
 exact ck' call58 (IU a (-b) (by (try simp only [DZ]);omega)) O (zD (sl sr) (zN O (Ah O sizeOf68 O (zD (sl sr) (zQ (zB (sL [4] O) (zA (zG (ret_one O (An (i:=0) (cs:=AF (a+(-b))) O O isAgg68 sizeOf68 O) (λw hw=>⟨by rw [Rat.sub_eq_add_neg],hw.out⟩))))))))))
theorem D4 (a b:Rat) (hs:Sz a+Sz b<=549755813888) (w:World)  :Calls prog 59 #[(aG (AF a)),(aG (AF b))] w (Ac w (aG (AF (a*b)))):=by
 have s1:=Ei a
 have s2:=ED a
 have s3:=Ei b
 have s4:=ED b
 have s5:=Dg a b
 have s6:=Dg b a
 have s7:=Iy a b
 have s8:=Lf a b
 have s9:=Ev a.num b.num
 have s10:=Ev (a.num*((b.den:Nat):Int)) (b.num*((a.den:Nat):Int))
 have hda:=a.den_nz
 have hdb:=b.den_nz
 have hdab:a.den*b.den≠0:=Nat.mul_ne_zero hda hdb
 refine AW (args:=[(aG (AF a)),(aG (AF b))]) func59 O O (A_ O) (zM (sL [0,1] O) (q4 (BV (cs:=AF a) O λb1=>BV (cs:=AF b) O λb2=>al DO O λb3=>q6 (sL [2,3,4] O) (q4 (Ak 2 Be O (ck' call94 (Gi a) O (AL O ?_)))))))
 refine zi (FM:=[(2,(pP b1 0)),(3,(pP b2 0)),(4,(pP b3 0)),(5,(aG (AF a))),(6,(qa (decide (a.den-1=0)))),(7,(qa (decide (a.den-1=0)))),(10,(qa ((decide (a.den-1=0))&&(decide (b.den-1=0)))))]) (LM:=[AY b3 68 (AF (0:Rat)),AY b2 68 (AF b),AY b1 68 (AF a)]) 3 ?_ ?_
 ·rcases xQ (decide (a.den-1=0)) with hg1|hg1
  ·refine zL (k:=7) (u:=qa true) O (by rw [hg1]) ?_
   have hg1':=xT hg1
   exact BI (v:=(aG (AF b))) O (Ad (i:=1) (vs:=AF b) O O Be.a Be.s O O) (zg (v:=(qa (decide (b.den-1=0)))) (AU O) (Am (args:=[(aG (AF b))]) O O call94) (λw hw=>Gi b w) O (A_ O) (AD (v:=(qa (decide (b.den-1=0)))) (AX O O) O (oNl' (zT Cd (xR _)))))
  ·refine zL (k:=7) (u:=qa false) O (by rw [hg1]) ?_
   have hg1':=xS hg1
   exact BT O (BT O (AD (v:=(qa false)) (AP O O) O (oNl' (zT Cd (xR _)))))
 refine oNl' (zB (sL [2,3,4,10] O) (zA ?_))
 refine zK O (λhc0=>?_) (λhc0=>?_)
 ·simp only [jK] at hc0
  have he:=Sx hc0.1 hc0.2
  refine q4 (AD (v:=(pP b1 0)) (AA O underlying68 O sizeOf66 O) O (Dp 2 (A6 a.num) DN O (AD (v:=(pP b2 0)) (AA O underlying68 O sizeOf66 O) O (Dp 1 (A6 b.num) DN O (ck' call53 (HP a.num b.num (by first|omega|(simp only [Int.natAbs_neg,Au,Int.natAbs_natCast];omega)) (by first|omega|(simp only [Int.natAbs_neg,Au,Int.natAbs_natCast];omega))) O (ck' call122 (MD (a.num*b.num)) O (Ah O sizeOf68 O (oNl' (zB (sL [2,3,4] O) (zA (zG ?_)))))))))))
  exact zJ (ret_one O (An (i:=0) (cs:=AF ((a.num*b.num:Int):Rat)) O O isAgg68 sizeOf68 O) (λw hw=>⟨by rw [he],hw.out⟩))
 ·simp only [jK] at hc0
  have he:=NB a b
  refine zC (q1 (C8 (El 4++[(5,true),(7,true),(4,false),(6,false),(8,false),(9,false),(10,false),(11,false)]) (sl sr) (Al (v:=(pP b1 0)) O (AA O underlying68 O sizeOf66 O) (IK 1 (A6 a.num) DN O (Al (v:=(pP b2 0)) O (AA O underlying68 O sizeOf66 O) (IK 0 (A6 b.num) DN O (Ej 1 Be O (Ej 0 Be O (zN O (ck' call53 (HP a.num b.num (by first|omega|(simp only [Int.natAbs_neg,Au,Int.natAbs_natCast];omega)) (by first|omega|(simp only [Int.natAbs_neg,Au,Int.natAbs_natCast];omega))) O (zD (sl sr) ?_)))))))))))
  refine zN O (ck' call97 (den_ok a Z) O (zD (sl sr) (zN O (ck' call97 (den_ok b Z) O (zD (sl sr) (zN O (ck' call125 (Px a.den b.den Z Z) O (zD (sl sr) (zN O (ck' call124 (HU (a.num*b.num) (a.den*b.den) Z Z (by first|omega|assumption)) O (zD (sl sr) ?_)))))))))))
  exact zN O (Ah O sizeOf68 O (zD (sl sr) (zQ (zB (sL [2,3,4] O) (zA (zG (ret_one O (An (i:=0) (cs:=AF (mkRat (a.num*b.num) (a.den*b.den))) O O isAgg68 sizeOf68 O) (λw hw=>⟨by rw [he],hw.out⟩))))))))
theorem KC (a b:Rat) (hs:Sz a+Sz b<=549755813888) (hb:b≠0) (w:World)  :Calls prog 128 #[(aG (AF a)),(aG (AF b))] w (Ac w (Value.tuple #[(aG (AF (a/b))),(vI 0)])):=by
 have s1:=Ei a
 have s2:=ED a
 have s3:=Ei b
 have s4:=ED b
 have s5:=Dg a b
 have s6:=Dg b a
 have s7:=Iy a b
 have s8:=Lf a b
 have s9:=Ev a.num b.num
 have s10:=Ev (a.num*((b.den:Nat):Int)) (b.num*((a.den:Nat):Int))
 have hda:=a.den_nz
 have hdb:=b.den_nz
 have hdab:a.den*b.den≠0:=Nat.mul_ne_zero hda hdb
 have hbn:b.num≠0:=λe=>hb (Rat.num_eq_zero.1 e)
 have hbs:b.num.sign≠0:=λe=>hbn (Int.sign_eq_zero_iff_zero.1 e)
 have hmi:nw (E1 (decide (b.num.sign<(0:Int))) b.den).natAbs=nw b.den:=by rw [Au]
 have hinv:=M8 hb
 have hsi:=UG hb
 rw [<-hinv] at hsi
 refine AW (args:=[(aG (AF a)),(aG (AF b))]) func128 O O (A_ O) (zM (sL [0,1] O) (q4 (BV (cs:=AF a) O λb1=>BV (cs:=AF b) O λb2=>al DO O λb3=>asg' O (q6 (sL [2,3,4,5] O) (q4 (Ak 1 Be O (ck' call171 (EV b) O (AD (BM (c:=(decide (b.num.sign=(0:Int)))) O O O) O ?_))))))))
 refine oNl' (zB (sL [2,3,4,5,9] O) (zA ?_))
 refine zK O (λhc0=>?_) (λhc0=>?_)
 ·replace hc0:=xT hc0
  exact absurd hc0 hbs
 ·replace hc0:=xS hc0
  refine zC (q1 (rN [(0,true),(3,true),(6,true),(7,true),(1,false),(2,true),(4,false),(5,false),(8,false),(9,false)] [⟨10,6,68,AF (0:Rat)⟩] [(11,false)] sr jV (λ_ _ d _ _ h=>by cases d<;>exact h) (FL O O DO O (Hg)) O (Ee 1 Be O (Ee 1 Be O (F9 (v:=(pP b2 0)) O (AA O underlying68 O sizeOf66 O) O (Wy 1 (A6 b.num) DN O (zj O λEF EL=>ck' call171 (EV b) O (zf sr O (F9 O (Ab (c:=(decide (b.num.sign<(0:Int)))) O O O) O (zj O λEF EL=>?_))))))))))
  refine ck' call97 (den_ok b Z) O (zf sr O (zj O λEF EL=>ck' call116 (EN (decide (b.num.sign<(0:Int))) b.den) O (zf sr O (zj O λEF EL=>ck' call177 (N1 b.num) O (zf sr O (zj O λEF EL=>ck' call124 (HU (E1 (decide (b.num.sign<(0:Int))) b.den) b.num.natAbs Z Z (by first|omega|assumption)) O (zf sr O (yJ λb4=>?_))))))))
  refine zN O (Ah O sizeOf68 O (zD (sl sr) (zQ (zB (sL [2,3,4,5,6] O) (q2 (Ak 3 Be O (Ak 0 Be O ?_)))))))
  have hz1:=Cz a (mkRat (E1 (decide (b.num.sign<(0:Int))) b.den) b.num.natAbs)
  exact ck' call59 (D4 a (mkRat (E1 (decide (b.num.sign<(0:Int))) b.den) b.num.natAbs) (by (try simp only [DZ]);omega)) O (CM O sizeOf68 O (asg' O (oNl' (zB (sL [3,4,5,6] O) (zA (zG (Bs O (An (i:=1) (cs:=AF (a*(mkRat (E1 (decide (b.num.sign<(0:Int))) b.den) b.num.natAbs))) O O isAgg68 sizeOf68 O) (rd_tmp (v:=(vI 0)) O) (λw hw=>⟨by rw [hinv,Rat.div_def],hw.out⟩))))))))
theorem MV  :Instr.fill ([(0,3),(3,2)].toArray[·]?) (AF (0:Rat)).toArray []=some (AF (0:Rat)).toArray:=by kernel_rfl
theorem U4 (a:Rat) (w:World)  :Calls prog 128 #[(aG (AF a)),(aG (AF (0:Rat)))] w (Ac w (Value.tuple #[(aG (AF (0:Rat))),(vI 5)])):=by
 refine AW (args:=[(aG (AF a)),(aG (AF (0:Rat)))]) func128 O O (A_ O) (zM (sL [0,1] O) (q4 (BV (cs:=AF a) O λb1=>BV (cs:=AF (0:Rat)) O λb2=>al DO O λb3=>asg' O (q6 (sL [2,3,4,5] O) (q4 (Ak 1 Be O (ck' call171 (EV (0:Rat)) O (AD (BM (c:=(decide (((0:Rat).num.sign)=(0:Int)))) O O O) O ?_))))))))
 refine oNl' (zB (sL [2,3,4,5,9] O) (zA ?_))
 refine zK O (λhc0=>?_) (λhc0=>?_)
 ·replace hc0:=xT hc0
  exact q4 (AD (v:=(aG (AF (0:Rat)))) (AQ (zs:=AF (0:Rat)) (vs:=AF (0:Rat)) (pv:=[]) (places:=[(0,3),(3,2)]) zeroValue68 underlying68 (λw=>by simp [sizeOf62,sizeOf66]) O (MV )) O (Ah O sizeOf68 O (asg' O (oNl' (zB (sL [2,3,4,5] O) (zA (zG (zJ (Bs O (An (i:=0) (cs:=AF (0:Rat)) O O isAgg68 sizeOf68 O) (rd_tmp (v:=(vI 5)) O) (λw hw=>⟨rfl,hw.out⟩))))))))))
 ·replace hc0:=xS hc0
  exact absurd O hc0
theorem KD (z:Int) (hz:-9223372036854775808<=z) (hz2:z<9223372036854775808) (w:World)  :Calls prog 93 #[(vI z)] w (Ac w (aG (AF ((z:Int):Rat)))):=by
 refine AW (args:=[(vI z)]) func93 O O (A_ O) (zM (sL [0] O) (q4 (al DO O λb1=>oNl' (q2 (AL O (ck' call150 (aB z Z Z) O (ck' call122 (MD z) O (Ah O sizeOf68 O (oNl' (zB (sL [2] O) ?_))))))))))
 exact zA (zG (ret_one O (An (i:=0) (cs:=AF ((z:Int):Rat)) O O isAgg68 sizeOf68 O) (λw hw=>⟨rfl,hw.out⟩)))
end
section
instance:Add Pt:=⟨λa b=>⟨a.x+b.x,a.y+b.y⟩⟩
instance:Sub Pt:=⟨λa b=>⟨a.x-b.x,a.y-b.y⟩⟩
def G0 (a:Pt) (k:Rat):Pt:=⟨a.x*k,a.y*k⟩
def BL (a b:Pt):Rat:=a.x*b.y-a.y*b.x
def B0 (a b:Pt):Rat:=a.x*b.x+a.y*b.y
def AC (a b c:Pt):Rat:=BL (b-a) (c-a)
def Bl (p:Pt):Nat:=max (Sz p.x) (Sz p.y)
theorem FZ (p:Pt):Sz p.x<=Bl p:=Nat.le_max_left ..
theorem Fa (p:Pt):Sz p.y<=Bl p:=Nat.le_max_right ..
theorem UE {p:Pt} {k:Nat} (h1:Sz p.x<=k) (h2:Sz p.y<=k):Bl p<=k:=Nat.max_le.2 ⟨h1,h2⟩
theorem Dy (a b:Pt):Bl (a-b)<=Bl a+Bl b+1:=by
  have h1:=FZ a;have h2:=Fa a;have h3:=FZ b;have h4:=Fa b
  refine UE ?_ ?_
  · exact xM (Iw a.x b.x) Z
  · exact xM (Iw a.y b.y) Z
theorem Fv (a b:Pt):Sz (BL a b)<=2*Bl a+2*Bl b+1:=by
  have h1:=FZ a;have h2:=Fa a;have h3:=FZ b;have h4:=Fa b
  have h5:=Cz a.x b.y;have h6:=Cz a.y b.x
  exact xM (Iw _ _) Z
theorem Kf (a b:Pt):Sz (B0 a b)<=2*Bl a+2*Bl b+1:=by
  have h1:=FZ a;have h2:=Fa a;have h3:=FZ b;have h4:=Fa b
  have h5:=Cz a.x b.x;have h6:=Cz a.y b.y
  exact xM (Eh _ _) Z
theorem Dz (a b c:Pt):Sz (AC a b c)<=4*Bl a+2*Bl b+2*Bl c+5:=by
  have h1:=Dy b a;have h2:=Dy c a
  exact xM (Fv _ _) Z
theorem RD:Sz (1/2:Rat)<=1:=by decide +kernel
theorem YB:((1:Int):Rat)/((2:Int):Rat)=1/2:=by decide +kernel
theorem NR {z:Int} (h1:-9223372036854775808<=z) (h2:z<9223372036854775808):Sz ((z:Int):Rat)<=2:=ZK (Lh (by show z.natAbs<_;omega)) (by show nw 1<=2;rw [Lg];omega)
theorem Yv (a b:Pt):Aa (a-b)=AF (a.x-b.x)++AF (a.y-b.y):=rfl
theorem aW (x y:Rat):Aa ⟨x,y⟩=AF x++AF y:=rfl
section
variable {P:Program} {Q:Exit->Act->World->Prop} {n:Nat} {F:List (Nat×Value)} {w0:BD} {L:List As} {c:Code}
def FU (P:Program) (c:Code) (Q:Exit->Act->World->Prop) (k n:Nat) (F:List (Nat×Value)) (w0:BD) (L:List As):Prop:=∀a w,Cx n a F->BH w0 w L->Code.rounds P c Q k a w
theorem yD (k:Nat) (h:FU P c Q k n F w0 L):OkC P (.loop c) Q n F w0 L:=λa w ha hw=>wp_loop_rounds k (h a w ha hw)
theorem zZ {k:Nat} (h:OkC P c (Exit.then (Code.rounds P c Q k) Q) n F w0 L):FU P c Q (k+1) n F w0 L:=λa w ha hw=>by
  rw [rounds_succ];exact h a w ha hw
theorem zk {k:Nat} (h:FU P c Q k n F w0 L):OkQ (Exit.then (Code.rounds P c Q k) Q) .normal n F w0 L:=h
end
end
section
set_option maxRecDepth 100000
theorem DH (x0:Rat) (x1:Rat):Instr.fill ([(0,5),(5,5)].toArray[·]?) (Aa (⟨0,0⟩:Pt)).toArray [(0,.agg (AF x0).toArray),(1,.agg (AF x1).toArray)]=some (AF x0++AF x1).toArray:=by kernel_rfl
theorem Oq (a b:Pt) (hs:Bl a+Bl b<=68719476736) (w:World)  :Calls prog 140 #[(aG (Aa a)),(aG (Aa b)),(Value.func (.func 175) #[] #[])] w (Ac w (aG (Aa (a-b)))):=by
 have p1:=FZ a
 have p2:=Fa a
 have p3:=FZ b
 have p4:=Fa b
 refine AW (args:=[(aG (Aa a)),(aG (Aa b)),(Value.func (.func 175) #[] #[])]) func140 O O (A_ O) (zM (sL [0,1,2] O) (q4 (BV (cs:=Aa a) O λb1=>BV (cs:=Aa b) O λb2=>al Em O λb3=>q6 (sL [2,3,4,6] O) (C8 (El 5++[(6,true),(7,true),(8,true),(9,true),(10,true),(5,false),(11,false),(12,true),(13,false)]) (sl sr) (Bp O (Al (v:=(pP b1 0)) O (AA O underlying78 O sizeOf68 O) (IK 1 (AF a.x) Be O (Al (v:=(pP b2 0)) O (AA O underlying78 O sizeOf68 O) ?_))))))))
 refine IK 0 (AF b.x) Be O (Bp O (Al (v:=(pP b1 5)) O (AA O underlying78 O sizeOf68 O) (IK 1 (AF a.y) Be O (Al (v:=(pP b2 5)) O (AA O underlying78 O sizeOf68 O) (IK 0 (AF b.y) Be O (zN O ?_))))))
 have hz1:=Iw a.x b.x
 refine ck' call175 (Nr a.x b.x (by (try simp only [DZ]);omega)) O (zD (sl sr) (zN O ?_))
 have hz2:=Iw a.y b.y
 exact ck' call175 (Nr a.y b.y (by (try simp only [DZ]);omega)) O (zD (sl sr) (Al (v:=(aG (AF (a.x-b.x)++AF (a.y-b.y)))) O (AQ (zs:=Aa (⟨0,0⟩:Pt)) (vs:=AF (a.x-b.x)++AF (a.y-b.y)) (pv:=[(0,(aG (AF (a.x-b.x)))),(1,(aG (AF (a.y-b.y))))]) (places:=[(0,5),(5,5)]) zeroValue78 underlying78 (λw=>by simp [sizeOf68]) O (DH (a.x-b.x) (a.y-b.y))) (zN O (Ah O sizeOf78 O (zD (sl sr) (zQ (zB (sL [6] O) (zA (zG (ret_one O (An (i:=0) (cs:=AF (a.x-b.x)++AF (a.y-b.y)) O O isAgg78 sizeOf78 O) (λw hw=>⟨by rw [Yv],hw.out⟩)))))))))))
theorem Ff (a b:Pt) (hs:Bl a+Bl b<=68719476736) (w:World)  :Calls prog 120 #[(aG (Aa a)),(aG (Aa b))] w (Ac w (aG (Aa (a-b)))):=by
 refine AW (args:=[(aG (Aa a)),(aG (Aa b))]) func120 O O (A_ O) (zM (sL [0,1] O) (q4 (BV (cs:=Aa a) O λb1=>BV (cs:=Aa b) O λb2=>al Em O λb3=>q3 (sL [2,3,4] O) (Ak 2 A9 O (Ak 1 A9 O (ck' call140 (Oq a b Z) O (Ah O sizeOf78 O (oNl' ?_))))))))
 exact zB (sL [4] O) (zA (zG (ret_one O (An (i:=0) (cs:=Aa (a-b)) O O isAgg78 sizeOf78 O) (λw hw=>⟨rfl,hw.out⟩))))
theorem F5 (a b:Pt) (hs:Bl a+Bl b<=68719476736) (w:World)  :Calls prog 170 #[(aG (Aa a)),(aG (Aa b))] w (Ac w (aG (AF (BL a b)))):=by
 have p1:=FZ a
 have p2:=Fa a
 have p3:=FZ b
 have p4:=Fa b
 refine AW (args:=[(aG (Aa a)),(aG (Aa b))]) func170 O O (A_ O) (zM (sL [0,1] O) (q4 (BV (cs:=Aa a) O λb1=>BV (cs:=Aa b) O λb2=>al DO O λb3=>q6 (sL [2,3,4] O) (C8 (El 4++[(5,true),(6,true),(7,true),(8,true),(4,false),(9,false),(10,false),(11,false)]) (sl sr) (Al (v:=(pP b1 0)) O (AA O underlying78 O sizeOf68 O) (IK 1 (AF a.x) Be O (Al (v:=(pP b2 5)) O (AA O underlying78 O sizeOf68 O) (IK 0 (AF b.y) Be O ?_))))))))
 refine Al (v:=(pP b1 5)) O (AA O underlying78 O sizeOf68 O) (IK 1 (AF a.y) Be O (Al (v:=(pP b2 0)) O (AA O underlying78 O sizeOf68 O) (IK 0 (AF b.x) Be O (zN O ?_))))
 have hz1:=Cz a.x b.y
 refine ck' call59 (D4 a.x b.y (by (try simp only [DZ]);omega)) O (zD (sl sr) (zN O ?_))
 have hz2:=Cz a.y b.x
 refine ck' call59 (D4 a.y b.x (by (try simp only [DZ]);omega)) O (zD (sl sr) (zN O ?_))
 have hz3:=Iw (a.x*b.y) (a.y*b.x)
 exact ck' call175 (Nr (a.x*b.y) (a.y*b.x) (by (try simp only [DZ]);omega)) O (zD (sl sr) (zN O (Ah O sizeOf68 O (zD (sl sr) (zQ (zB (sL [4] O) (zA (zG (ret_one O (An (i:=0) (cs:=AF ((a.x*b.y)-(a.y*b.x))) O O isAgg68 sizeOf68 O) (λw hw=>⟨rfl,hw.out⟩))))))))))
theorem KS (a b:Pt) (hs:Bl a+Bl b<=68719476736) (w:World)  :Calls prog 121 #[(aG (Aa a)),(aG (Aa b))] w (Ac w (aG (AF (B0 a b)))):=by
 have p1:=FZ a
 have p2:=Fa a
 have p3:=FZ b
 have p4:=Fa b
 refine AW (args:=[(aG (Aa a)),(aG (Aa b))]) func121 O O (A_ O) (zM (sL [0,1] O) (q4 (BV (cs:=Aa a) O λb1=>BV (cs:=Aa b) O λb2=>al DO O λb3=>q6 (sL [2,3,4] O) (C8 (El 4++[(5,true),(6,true),(7,true),(8,true),(4,false),(9,false),(10,false),(11,false)]) (sl sr) (Al (v:=(pP b1 0)) O (AA O underlying78 O sizeOf68 O) (IK 1 (AF a.x) Be O (Al (v:=(pP b2 0)) O (AA O underlying78 O sizeOf68 O) (IK 0 (AF b.x) Be O ?_))))))))
 refine Al (v:=(pP b1 5)) O (AA O underlying78 O sizeOf68 O) (IK 1 (AF a.y) Be O (Al (v:=(pP b2 5)) O (AA O underlying78 O sizeOf68 O) (IK 0 (AF b.y) Be O (zN O ?_))))
 have hz1:=Cz a.x b.x
 refine ck' call59 (D4 a.x b.x (by (try simp only [DZ]);omega)) O (zD (sl sr) (zN O ?_))
 have hz2:=Cz a.y b.y
 refine ck' call59 (D4 a.y b.y (by (try simp only [DZ]);omega)) O (zD (sl sr) (zN O ?_))
 have hz3:=Eh (a.x*b.x) (a.y*b.y)
 exact ck' call58 (IU (a.x*b.x) (a.y*b.y) (by (try simp only [DZ]);omega)) O (zD (sl sr) (zN O (Ah O sizeOf68 O (zD (sl sr) (zQ (zB (sL [4] O) (zA (zG (ret_one O (An (i:=0) (cs:=AF ((a.x*b.x)+(a.y*b.y))) O O isAgg68 sizeOf68 O) (λw hw=>⟨rfl,hw.out⟩))))))))))
theorem Gw (a b c:Pt) (hs:Bl a+Bl b+Bl c<=17179869184) (w:World)  :Calls prog 111 #[(aG (Aa a)),(aG (Aa b)),(aG (Aa c))] w (Ac w (vI ((AC a b c).num.sign))):=by
 refine AW (args:=[(aG (Aa a)),(aG (Aa b)),(aG (Aa c))]) func111 O O (A_ O) (zM (sL [0,1,2] O) (q4 (BV (cs:=Aa a) O λb1=>BV (cs:=Aa b) O λb2=>BV (cs:=Aa c) O λb3=>asg' O (q6 (sL [3,4,5,6] O) (C8 [(0,true),(1,true),(3,true),(4,true),(2,false),(5,false),(6,false),(7,false),(8,true)] sr (Ej 1 A9 O (Ej 2 A9 O (Ej 0 A9 O ?_))))))))
 refine Ej 2 A9 O (zN O ?_)
 have hz1:=Dy b a
 refine ck' call120 (Ff b a Z) O (zD sr (zN O ?_))
 have hz2:=Dy c a
 refine ck' call120 (Ff c a Z) O (zD sr (zN O ?_))
 have hz3:=Fv (b-a) (c-a)
 exact ck' call170 (F5 (b-a) (c-a) Z) O (zD sr (zN O (ck' call171 (EV (BL (b-a) (c-a))) O (zD sr (pS' O (zQ (zB (sL [6] O) (zA (zG (ret_one O (rd_tmp (v:=(vI ((BL (b-a) (c-a)).num.sign))) O) (λw hw=>⟨rfl,hw.out⟩)))))))))))
theorem H7 (a b:Pt) (hs:Bl a+Bl b<=17179869184) (w:World)  :Calls prog 57 #[(aG (Aa a)),(aG (Aa b))] w (Ac w (aG (AF (B0 (b-a) (b-a))))):=by
 refine AW (args:=[(aG (Aa a)),(aG (Aa b))]) func57 O O (A_ O) (zM (sL [0,1] O) (q4 (BV (cs:=Aa a) O λb1=>BV (cs:=Aa b) O λb2=>al DO O λb3=>q3 (sL [2,3,4] O) (Ak 1 A9 O (Ak 2 A9 O ?_)))))
 have hz1:=Dy b a
 refine ck' call120 (Ff b a Z) O (al Em O λb4=>Ah O sizeOf78 O (q3 (sL [4,5] O) (Ak 0 A9 O (Ak 0 A9 O ?_))))
 have hz2:=Kf (b-a) (b-a)
 exact ck' call121 (KS (b-a) (b-a) Z) O (CM O sizeOf68 O (oNl' (zB (sL [4,5] O) (zA (zG (ret_one O (An (i:=1) (cs:=AF (B0 (b-a) (b-a))) O O isAgg68 sizeOf68 O) (λw hw=>⟨rfl,hw.out⟩)))))))
theorem KT (x y:Int) (h1:-9223372036854775808<=x) (h2:x<9223372036854775808) (h3:-9223372036854775808<=y) (h4:y<9223372036854775808) (w:World)  :Calls prog 37 #[(vI x),(vI y)] w (Ac w (aG (Aa (⟨((x:Int):Rat),((y:Int):Rat)⟩:Pt)))):=by
 refine AW (args:=[(vI x),(vI y)]) func37 O O (A_ O) (zM (sL [0,1] O) (q4 (al Em O λb1=>oNl' (q2 (AL O (ck' call93 (KD x Z Z) O (AL O (ck' call93 (KD y Z Z) O (AD (v:=(aG (AF ((x:Int):Rat)++AF ((y:Int):Rat)))) (AQ (zs:=Aa (⟨0,0⟩:Pt)) (vs:=AF ((x:Int):Rat)++AF ((y:Int):Rat)) (pv:=[(0,(aG (AF ((x:Int):Rat)))),(1,(aG (AF ((y:Int):Rat))))]) (places:=[(0,5),(5,5)]) zeroValue78 underlying78 (λw=>by simp [sizeOf68]) O (DH ((x:Int):Rat) ((y:Int):Rat))) O (Ah O sizeOf78 O ?_))))))))))
 exact oNl' (zB (sL [4] O) (zA (zG (ret_one O (An (i:=0) (cs:=AF ((x:Int):Rat)++AF ((y:Int):Rat)) O O isAgg78 sizeOf78 O) (λw hw=>⟨by rw [aW],hw.out⟩)))))
end
section
set_option maxRecDepth 100000
theorem QG (x y:Int) (h1:-9223372036854775808<=x) (h2:x<9223372036854775808) (h3:-9223372036854775808<=y) (h4:y<9223372036854775808) (hy:y≠0) (w:World)  :Calls prog 61 #[(vI x),(vI y)] w (Ac w (Value.tuple #[(aG (AF (((x:Int):Rat)/((y:Int):Rat)))),(vI 0)])):=by
 have hb:((y:Int):Rat)≠0:=λe=>hy (by exact_mod_cast e)
 have s1:=NR h1 h2
 have s2:=NR h3 h4
 refine AW (args:=[(vI x),(vI y)]) func61 O O (A_ O) (zM (sL [0,1] O) (q4 (al DO O λb1=>asg' O (oNl' (q2 (AL O (ck' call93 (KD x Z Z) O (AL O (ck' call93 (KD y Z Z) O ?_)))))))))
 have hz1:=Ke (a:=((x:Int):Rat)) (b:=((y:Int):Rat)) (by assumption)
 exact ck' call128 (KC ((x:Int):Rat) ((y:Int):Rat) Z (by assumption)) O (AD (AJ (v:=(aG (AF (((x:Int):Rat)/((y:Int):Rat))))) O O) O (AD (AJ (v:=(vI 0)) O O) O (Ah O sizeOf68 O (asg' O (oNl' (zB (sL [4,5] O) (zA (zG (Bs O (An (i:=0) (cs:=AF (((x:Int):Rat)/((y:Int):Rat))) O O isAgg68 sizeOf68 O) (rd_tmp (v:=(vI 0)) O) (λw hw=>⟨rfl,hw.out⟩))))))))))
theorem Wr (x:Rat) (hs:Sz x<=137438953472) (w:World)  :Calls prog 126 #[(aG (AF x))] w (Ac w (aG (AF (x*(1/2))))):=by
 have sh:=RD
 refine AW (args:=[(aG (AF x))]) func126 O O (A_ O) (zM (sL [0] O) (q4 (BV (cs:=AF x) O λb1=>al DO O λb2=>q3 (sL [1,2] O) (ck' call61 (QG (1:Int) (2:Int) Z Z Z Z Z) O (AL O (AD (AJ (v:=(aG (AF (((1:Int):Rat)/((2:Int):Rat))))) O O) O (zL (k:=7) (u:=(aG (AF ((1:Rat)/2)))) O (by rw [YB]) (AD (AJ (v:=(vI 0)) O O) O (al DO O λb3=>?_)))))))))
 refine Ah O sizeOf68 O (asg' O (q3 (sL [1,2,3] O) (Ak 2 Be O (Ak 0 Be O ?_))))
 have hz1:=Cz x ((1:Rat)/2)
 exact ck' call59 (D4 x ((1:Rat)/2) (by (try simp only [DZ]);omega)) O (CM O sizeOf68 O (oNl' (zB (sL [2,3] O) (zA (zG (ret_one O (An (i:=1) (cs:=AF (x*((1:Rat)/2))) O O isAgg68 sizeOf68 O) (λw hw=>⟨rfl,hw.out⟩)))))))
theorem EB (a b c:Pt) (hs:Bl a+Bl b+Bl c<=8589934592) (w:World)  :Calls prog 127 #[(aG (Aa a)),(aG (Aa b)),(aG (Aa c))] w (Ac w (aG (AF (AC a b c)))):=by
 refine AW (args:=[(aG (Aa a)),(aG (Aa b)),(aG (Aa c))]) func127 O O (A_ O) (zM (sL [0,1,2] O) (q4 (BV (cs:=Aa a) O λb1=>BV (cs:=Aa b) O λb2=>BV (cs:=Aa c) O λb3=>al DO O λb4=>q6 (sL [3,4,5,6] O) (C8 [(0,true),(1,true),(3,true),(4,true),(2,false),(5,false),(6,false),(7,false)] (sl sr) (Ej 1 A9 O (Ej 2 A9 O (Ej 0 A9 O ?_)))))))
 refine Ej 2 A9 O (zN O ?_)
 have hz1:=Dy b a
 refine ck' call120 (Ff b a Z) O (zD (sl sr) (zN O ?_))
 have hz2:=Dy c a
 refine ck' call120 (Ff c a Z) O (zD (sl sr) (zN O ?_))
 have hz3:=Fv (b-a) (c-a)
 exact ck' call170 (F5 (b-a) (c-a) Z) O (zD (sl sr) (zN O (Ah O sizeOf68 O (zD (sl sr) (zQ (zB (sL [6] O) (zA (zG (ret_one O (An (i:=0) (cs:=AF (BL (b-a) (c-a))) O O isAgg68 sizeOf68 O) (λw hw=>⟨rfl,hw.out⟩))))))))))
theorem Q_ (a b c:Pt) (hs:Bl a+Bl b+Bl c<=8589934592) (w:World)  :Calls prog 60 #[(aG (Aa a)),(aG (Aa b)),(aG (Aa c))] w (Ac w (aG (AF (AC a b c*(1/2))))):=by
 refine AW (args:=[(aG (Aa a)),(aG (Aa b)),(aG (Aa c))]) func60 O O (A_ O) (zM (sL [0,1,2] O) (q4 (BV (cs:=Aa a) O λb1=>BV (cs:=Aa b) O λb2=>BV (cs:=Aa c) O λb3=>al DO O λb4=>q3 (sL [3,4,5,6] O) (Ak 3 A9 O (Ak 2 A9 O (Ak 1 A9 O ?_))))))
 have hz1:=Dz a b c
 refine ck' call127 (EB a b c Z) O ?_
 have hz2:=Cz (AC a b c) (1/2)
 exact ck' call126 (Wr (AC a b c) Z) O (Ah O sizeOf68 O (oNl' (zB (sL [6] O) (zA (zG (ret_one O (An (i:=0) (cs:=AF ((AC a b c)*(1/2))) O O isAgg68 sizeOf68 O) (λw hw=>⟨rfl,hw.out⟩)))))))
end
end Go.Proofs.YtbfdamnfcmefmaaGreatDoor
