import Derived.Test.YtcpkbjjmcleplaaGreatDoorPart15
namespace Go.Proofs.YtcpkbjjmcleplaaGreatDoor
open Go Go.RowKit Go.Proofs.Tryz
open Go.Value renaming slice→qz,bool→qa
set_option linter.unusedVariables false
set_option linter.unusedSimpArgs false
section
set_option maxRecDepth 100000
theorem ER (x0:Int) (x1:Nat):Instr.fill ([(0,3),(3,2)].toArray[·]?) (AC (0:Rat)).toArray [(0,.agg (A8 x0).toArray),(1,.agg (AW x1).toArray)]=some (A8 x0++AW x1).toArray:=by kernel_rfl
theorem ID (n:Int) (d:Nat) (hn:nw n.natAbs<=1099511627776) (hd:nw d<=1099511627776) (hd0:d≠0) (w:World)  :Calls prog 64 #[(aG (A8 n)),(aG (AW d))] w (Ac w (aG (AC (mkRat n d)))):=by
 have hg:Nat.gcd n.natAbs d≠0:=λh=>hd0 (Nat.eq_zero_of_gcd_eq_zero_right h)
 have hgw:nw (Nat.gcd n.natAbs d)<=nw d:=DA (Nat.gcd_le_right _ (Nat.pos_of_ne_zero hd0))
 have hqw:nw (d/Nat.gcd n.natAbs d)<=nw d:=DA (Nat.div_le_self _ _)
 have h1w:=Jz
 refine AV (args:=[(aG (A8 n)),(aG (AW d))]) func64 O O (leB O) (zI (sL [0,1] O) (q4 (BH (cs:=A8 n) O λb1=>BH (cs:=AW d) O λb2=>al Cq O λb3=>q6 (sL [2,3,4] O) (rN [(0,true),(2,true),(1,false),(3,false)] [⟨4,5,54,AW 0⟩] [(5,false)] sr jV (λ_ _ d _ _ h=>by cases d<;>exact h) (GD O O HM O (GP)) O (En 2 Du O (En 1 CH O (zf O λEF EL=>ck' call66 (OZ n) O ?_)))))))
 refine ze sr O (zf O λEF EL=>ck' call113 (bf n.natAbs d Z Z) O (ze sr O (zx λb4=>zD O (An O sizeOf54 O (zC (sl sr) (zP (zB (sL [2,3,4,5] O) (q1 (rN [(0,true),(2,true),(1,false),(3,false),(4,true),(5,true),(6,true),(7,true)] [⟨8,6,54,AW 0⟩,⟨9,7,54,AW 0⟩] [(10,false),(11,false),(12,true)] sr jV (λ_ _ d _ _ h=>by cases d<;>exact h) (GD O O HM O (GD O O HM O (GP))) O ?_)))))))))
 refine En 3 Du O (En 0 CH O (zf O λEF EL=>ck' call66 (OZ n) O (ze sr O (zf O λEF EL=>ck' call114 (Qy n.natAbs (Nat.gcd n.natAbs d) Z Z Z) O (ze sr O (Kb O (HZ O (AJ (v:=(aG (AW (n.natAbs/(Nat.gcd n.natAbs d))))) O O) O (HZ O (AJ (v:=(aG (AW (n.natAbs%(Nat.gcd n.natAbs d))))) O O) O (HZ O (AJ (v:=(qa true)) O O) O ?_)))))))))
 refine Be.news2 λb5 b6=>zD O (An O sizeOf54 O (zC (sl (sl sr)) (zD O (DK O sizeOf54 O (zC (sl (sl sr)) (pS' O (zP (zB (sL [2,3,4,5,6] O) (q2 (Af 4 CH O ?_))))))))))
 refine Af 2 CH O (ck' call114 (Qy d (Nat.gcd n.natAbs d) Z Z Z) O (AK O (st' (AJ (v:=(aG (AW (d/(Nat.gcd n.natAbs d))))) O O) O (st' (AJ (v:=(aG (AW (d%(Nat.gcd n.natAbs d))))) O O) O (st' (AJ (v:=(qa true)) O O) O (al HM O λb7=>al HM O λb8=>DK O sizeOf54 O (An O sizeOf54 O (asg' O (q6 (sL [2,3,4,5,6,9] O) ?_)))))))))
 refine rC [(0,true),(1,false),(2,false),(3,true),(4,true),(5,true)] 6 [] sr (sk (sl sr)) jV (λ_ _ d _ _ h=>by cases d<;>exact h) (vE (v:=(aG (AW (d/(Nat.gcd n.natAbs d))))) O (AY (i:=1) (vs:=AW (d/(Nat.gcd n.natAbs d))) O O CH.a CH.s O O) O (yA O (ck' call76 (K4 1 Z) O (z6 sr (yA O (ck' call115 (Q3 (d/(Nat.gcd n.natAbs d)) 1 Z Z) O (z6 sr (vM O O O (vE O (AJ (v:=(aG (AW ((d/(Nat.gcd n.natAbs d))-1)))) O O) O (vE O (AJ (v:=(qa (decide (1<=d/(Nat.gcd n.natAbs d))))) O O) O (yZ O ?_)))))))))))
 refine DK O sizeOf54 O (zC (sk (sl sr)) (zP (zB (sL [2,3,4,5,6,9] O) (q1 (B9 [(0,true),(3,true),(5,true),(1,false),(2,true),(4,false),(6,true),(7,false)] (sk (sk (sk (sk (sk (sl sr)))))) (B3 6 Du O (B3 2 CH O (B3 1 CH O (zD O (ck' call112 (Lr n) O (zC (sk (sk (sk (sk (sk (sl sr)))))) ?_)))))))))))
 exact Am O (Aa (c:=(decide (n.sign<(0:Int)))) O O O) (zD O (ck' call65 (FJ (decide (n.sign<(0:Int))) (n.natAbs/(Nat.gcd n.natAbs d))) O (zC (sk (sk (sk (sk (sk (sl sr)))))) (Am (v:=(aG (A8 (Eh (decide (n.sign<(0:Int))) (n.natAbs/(Nat.gcd n.natAbs d)))++AW ((d/(Nat.gcd n.natAbs d))-1)))) O (AS (zs:=AC (0:Rat)) (vs:=A8 (Eh (decide (n.sign<(0:Int))) (n.natAbs/(Nat.gcd n.natAbs d)))++AW ((d/(Nat.gcd n.natAbs d))-1)) (pv:=[(0,(aG (A8 (Eh (decide (n.sign<(0:Int))) (n.natAbs/(Nat.gcd n.natAbs d)))))),(1,(aG (AW ((d/(Nat.gcd n.natAbs d))-1))))]) (places:=[(0,3),(3,2)]) zeroValue60 underlying60 (λw=>by simp [sizeOf54,sizeOf58]) O (ER (Eh (decide (n.sign<(0:Int))) (n.natAbs/(Nat.gcd n.natAbs d))) ((d/(Nat.gcd n.natAbs d))-1))) (zD O (Dt 5 (off:=0) (vs:=A8 (Eh (decide (n.sign<(0:Int))) (n.natAbs/(Nat.gcd n.natAbs d)))++AW ((d/(Nat.gcd n.natAbs d))-1)) (cs':=A8 (Eh (decide (n.sign<(0:Int))) (n.natAbs/(Nat.gcd n.natAbs d)))++AW ((d/(Nat.gcd n.natAbs d))-1)) (AG O) O sizeOf60 O (zC (sk (sk (sk (sk (sk (sl sr)))))) (zP (zB (sL [2,3,4,5,6,9] O) (zA (zF (ret_one O (Ab (i:=5) (cs:=A8 (Eh (decide (n.sign<(0:Int))) (n.natAbs/(Nat.gcd n.natAbs d)))++AW ((d/(Nat.gcd n.natAbs d))-1)) O O isAgg60 sizeOf60 O) (λw hw=>⟨by rw [KO,Oe hd0,S1 hd0],hw.out⟩)))))))))))))
theorem Ie (x0:Int):Instr.fill ([(0,3),(3,2)].toArray[·]?) (AC (0:Rat)).toArray [(0,.agg (A8 x0).toArray)]=some (A8 x0++AW ((0:Rat).den-1)).toArray:=by kernel_rfl
theorem Mx (n:Int) (w:World)  :Calls prog 33 #[(aG (A8 n))] w (Ac w (aG (AC ((n:Int):Rat)))):=by
 refine AV (args:=[(aG (A8 n))]) func33 O O (leB O) (zI (sL [0] O) (q4 (BH (cs:=A8 n) O λb1=>al Cq O λb2=>q3 (sL [1,2] O) (Af 1 Du O (st' (v:=(aG (A8 n++AW ((0:Rat).den-1)))) (AS (zs:=AC (0:Rat)) (vs:=A8 n++AW ((0:Rat).den-1)) (pv:=[(0,(aG (A8 n)))]) (places:=[(0,3),(3,2)]) zeroValue60 underlying60 (λw=>by simp [sizeOf54,sizeOf58]) O (Ie n)) O (An O sizeOf60 O (oNl' (zB (sL [2] O) (zA ?_)))))))))
 exact zF (ret_one O (Ab (i:=0) (cs:=A8 n++AW ((0:Rat).den-1)) O O isAgg60 sizeOf60 O) (λw hw=>⟨rfl,hw.out⟩))
theorem NJ  :Instr.fill ([(0,1),(1,1)].toArray[·]?) (AW 0).toArray []=some (AW 0).toArray:=by kernel_rfl
theorem GW (a:Rat) (w:World)  :Calls prog 46 #[(aG (AC a))] w (Ac w (qa (decide (a.den-1=0)))):=by
 refine AV (args:=[(aG (AC a))]) func46 O O (leB O) (zI (sL [0] O) (q4 (BH (cs:=AC a) O λb1=>asg' O (q3 (sL [1,2] O) (st' (v:=(pP b1 3)) (AA O underlying60 O sizeOf54 O) O (By 0 (AW (a.den-1)) CH O (st' (v:=(aG (AW 0))) (AS (zs:=AW 0) (vs:=AW 0) (pv:=[]) (places:=[(0,1),(1,1)]) zeroValue54 underlying54 (λw=>by simp [sizeOf9,sizeOf52]) O (NJ )) O (st' (CB (c:=(decide (a.den-1=0))) O O eqGuardType54 (H9 9998 (a.den-1) 0)) O (asg' O (oNl' ?_))))))))))
 exact zB (sL [2] O) (zA (zF (ret_one O (rd_tmp (v:=(qa (decide (a.den-1=0)))) O) (λw hw=>⟨rfl,hw.out⟩))))
theorem den_ok (a:Rat) (ha:nw a.den<=1099511627776) (w:World)  :Calls prog 49 #[(aG (AC a))] w (Ac w (aG (AW a.den))):=by
 have h1w:=Jz
 have h2w:=DA (Nat.sub_le a.den 1)
 refine AV (args:=[(aG (AC a))]) func49 O O (leB O) (zI (sL [0] O) (q4 (BH (cs:=AC a) O λb1=>al HM O λb2=>q6 (sL [1,2] O) (B9 [(0,true),(1,true),(2,false),(3,false),(4,false)] (sl sr) (Am (v:=(pP b1 3)) O (AA O underlying60 O sizeOf54 O) (Dz 0 (AW (a.den-1)) CH O (zD O (ck' call76 (K4 1 Z) O (zC (sl sr) ?_)))))))))
 exact zD O (ck' call92 (VV (a.den-1) 1 Z Z) O (zC (sl sr) (zD O (An O sizeOf54 O (zC (sl sr) (zP (zB (sL [2] O) (zA (zF (ret_one O (Ab (i:=0) (cs:=AW ((a.den-1)+1)) O O isAgg54 sizeOf54 O) (λw hw=>⟨by rw [Nat.sub_add_cancel a.den_pos],hw.out⟩)))))))))))
theorem IG (a:Rat) (ha:nw a.den<=1099511627776) (w:World)  :Calls prog 73 #[(aG (AC a))] w (Ac w (aG (A8 ((a.den:Nat):Int)))):=by
 refine AV (args:=[(aG (AC a))]) func73 O O (leB O) (zI (sL [0] O) (q4 (BH (cs:=AC a) O λb1=>al Km O λb2=>q3 (sL [1,2] O) (Af 1 A9 O (ck' call49 (den_ok a Z) O (ck' call65 (FJ false a.den) O (An O sizeOf58 O (oNl' (zB (sL [2] O) ?_)))))))))
 exact zA (zF (ret_one O (Ab (i:=0) (cs:=A8 (Eh false a.den)) O O isAgg58 sizeOf58 O) (λw hw=>⟨rfl,hw.out⟩)))
theorem EH (a:Rat) (w:World)  :Calls prog 32 #[(aG (AC a))] w (Ac w (aG (AC (-a)))):=by
 refine AV (args:=[(aG (AC a))]) func32 O O (leB O) (zI (sL [0] O) (q4 (BH (cs:=AC a) O λb1=>al Cq O λb2=>q6 (sL [1,2] O) (B9 [(0,true),(1,true),(3,true),(4,true),(2,false),(5,true),(6,false)] (sl sr) (Am (v:=(pP b1 0)) O (AA O underlying60 O sizeOf58 O) (Dz 0 (A8 a.num) Du O (Am (v:=(pP b1 3)) O (AA O underlying60 O sizeOf54 O) (Dz 0 (AW (a.den-1)) CH O (zD O ?_)))))))))
 exact ck' call75 (Sw a.num) O (zC (sl sr) (Am (v:=(aG (A8 (-a.num)++AW (a.den-1)))) O (AS (zs:=AC (0:Rat)) (vs:=A8 (-a.num)++AW (a.den-1)) (pv:=[(0,(aG (A8 (-a.num)))),(1,(aG (AW (a.den-1))))]) (places:=[(0,3),(3,2)]) zeroValue60 underlying60 (λw=>by simp [sizeOf54,sizeOf58]) O (ER (-a.num) (a.den-1))) (zD O (An O sizeOf60 O (zC (sl sr) (zP (zB (sL [2] O) (zA (zF (ret_one O (Ab (i:=0) (cs:=A8 (-a.num)++AW (a.den-1)) O O isAgg60 sizeOf60 O) (λw hw=>⟨by rw [KO,Rat.neg_num,Rat.neg_den],hw.out⟩)))))))))))
theorem Dh (a:Rat) (w:World)  :Calls prog 63 #[(aG (AC a))] w (Ac w (vI a.num.sign)):=by
 refine AV (args:=[(aG (AC a))]) func63 O O (leB O) (zI (sL [0] O) (q4 (BH (cs:=AC a) O λb1=>asg' O (q3 (sL [1,2] O) (st' (v:=(pP b1 0)) (AA O underlying60 O sizeOf58 O) O (By 0 (A8 a.num) Du O (ck' call112 (Lr a.num) O (asg' O (oNl' (zB (sL [2] O) ?_))))))))))
 exact zA (zF (ret_one O (rd_tmp (v:=(vI a.num.sign)) O) (λw hw=>⟨rfl,hw.out⟩)))
theorem K1 (a b:Rat) (hs:Sz a+Sz b<=549755813888) (w:World)  :Calls prog 43 #[(aG (AC a)),(aG (AC b))] w (Ac w (vI (BR a b))):=by
 have s1:=DF a
 have s2:=Cu a
 have s3:=DF b
 have s4:=Cu b
 have s5:=Ch a b
 have s6:=Ch b a
 have s7:=G2 a b
 have s8:=Hr a b
 have s9:=Eb a.num b.num
 have s10:=Eb (a.num*((b.den:Nat):Int)) (b.num*((a.den:Nat):Int))
 have hda:=a.den_nz
 have hdb:=b.den_nz
 have hdab:a.den*b.den≠0:=Nat.mul_ne_zero hda hdb
 refine AV (args:=[(aG (AC a)),(aG (AC b))]) func43 O O (leB O) (zI (sL [0,1] O) (q4 (BH (cs:=AC a) O λb1=>BH (cs:=AC b) O λb2=>asg' O (q6 (sL [2,3,4] O) (q4 (st' (v:=(pP b1 3)) (AA O underlying60 O sizeOf54 O) O (By 1 (AW (a.den-1)) CH O (st' (v:=(pP b2 3)) (AA O underlying60 O sizeOf54 O) O (By 0 (AW (b.den-1)) CH O ?_)))))))))
 refine st' (CB (c:=(decide (a.den-1=b.den-1))) O O eqGuardType54 (H9 9998 (a.den-1) (b.den-1))) O (oNl' (zB (sL [2,3,4,9] O) (zA ?_)))
 refine zK O (λhc0=>?_) (λhc0=>?_)
 ·replace hc0:=xR hc0
  have he:=Tv hc0
  exact q4 (st' (v:=(pP b1 0)) (AA O underlying60 O sizeOf58 O) O (By 1 (A8 a.num) Du O (st' (v:=(pP b2 0)) (AA O underlying60 O sizeOf58 O) O (By 0 (A8 b.num) Du O (ck' call82 (Sv a.num b.num (by first|omega|(simp only [Int.natAbs_neg,Av,Int.natAbs_natCast];omega)) (by first|omega|(simp only [Int.natAbs_neg,Av,Int.natAbs_natCast];omega))) O (asg' O (oNl' (zB (sL [2,3,4] O) (zA (zF (zL (ret_one O (rd_tmp (v:=(vI ((a.num-b.num).sign))) O) (λw hw=>⟨by rw [he],hw.out⟩)))))))))))))
 ·replace hc0:=xQ hc0
  have he:=Id a b
  refine zG (q1 (B9 [(0,true),(1,true),(2,true),(5,true),(6,true),(7,true),(3,false),(4,false),(8,false),(9,false),(10,false),(11,true)] sr (Am (v:=(pP b1 0)) O (AA O underlying60 O sizeOf58 O) (Dz 1 (A8 a.num) Du O (B3 0 A9 O (Am (v:=(pP b2 0)) O (AA O underlying60 O sizeOf58 O) (Dz 0 (A8 b.num) Du O (B3 1 A9 O (zD O (ck' call73 (IG b Z) O (zC sr ?_)))))))))))
  refine zD O (ck' call72 (IA a.num ((b.den:Nat):Int) (by first|omega|(simp only [Int.natAbs_neg,Av,Int.natAbs_natCast];omega)) (by first|omega|(simp only [Int.natAbs_neg,Av,Int.natAbs_natCast];omega))) O (zC sr (zD O (ck' call73 (IG a Z) O (zC sr (zD O (ck' call72 (IA b.num ((a.den:Nat):Int) (by first|omega|(simp only [Int.natAbs_neg,Av,Int.natAbs_natCast];omega)) (by first|omega|(simp only [Int.natAbs_neg,Av,Int.natAbs_natCast];omega))) O (zC sr (zD O (ck' call82 (Sv (a.num*((b.den:Nat):Int)) (b.num*((a.den:Nat):Int)) (by first|omega|(simp only [Int.natAbs_neg,Av,Int.natAbs_natCast];omega)) (by first|omega|(simp only [Int.natAbs_neg,Av,Int.natAbs_natCast];omega))) O (zC sr ?_)))))))))))
  exact pS' O (zP (zB (sL [2,3,4] O) (zA (zF (ret_one O (rd_tmp (v:=(vI (((a.num*((b.den:Nat):Int))-(b.num*((a.den:Nat):Int))).sign))) O) (λw hw=>⟨by rw [he],hw.out⟩))))))
theorem G5 (a b:Rat) (hs:Sz a+Sz b<=549755813888) (w:World)  :Calls prog 31 #[(aG (AC a)),(aG (AC b))] w (Ac w (aG (AC (a+b)))):=by
 have s1:=DF a
 have s2:=Cu a
 have s3:=DF b
 have s4:=Cu b
 have s5:=Ch a b
 have s6:=Ch b a
 have s7:=G2 a b
 have s8:=Hr a b
 have s9:=Eb a.num b.num
 have s10:=Eb (a.num*((b.den:Nat):Int)) (b.num*((a.den:Nat):Int))
 have hda:=a.den_nz
 have hdb:=b.den_nz
 have hdab:a.den*b.den≠0:=Nat.mul_ne_zero hda hdb
 refine AV (args:=[(aG (AC a)),(aG (AC b))]) func31 O O (leB O) (zI (sL [0,1] O) (q4 (BH (cs:=AC a) O λb1=>BH (cs:=AC b) O λb2=>al Cq O λb3=>q6 (sL [2,3,4] O) (zM (q4 (Af 2 A9 O (ck' call46 (GW a) O (AK O ?_))))))))
 refine zg (FM:=[(2,(pP b1 0)),(3,(pP b2 0)),(4,(pP b3 0)),(6,(aG (AC a))),(7,(qa (decide (a.den-1=0)))),(8,(qa (decide (a.den-1=0)))),(11,(qa ((decide (a.den-1=0))&&(decide (b.den-1=0)))))]) (LM:=[AO b3 60 (AC (0:Rat)),AO b2 60 (AC b),AO b1 60 (AC a)]) 3 ?_ ?_
 ·rcases xO (decide (a.den-1=0)) with hg1|hg1
  ·refine zN (k:=8) (u:=qa true) O (by rw [hg1]) ?_
   have hg1':=xR hg1
   exact BV (v:=(aG (AC b))) O (AY (i:=1) (vs:=AC b) O O A9.a A9.s O O) (zd (v:=(qa (decide (b.den-1=0)))) (AE O) (Ag (args:=[(aG (AC b))]) O O call46) (λw hw=>GW b w) O (leB O) (st' (v:=(qa (decide (b.den-1=0)))) (ex_pick_true O O) O (oNl' (zT CT (xP _)))))
  ·refine zN (k:=8) (u:=qa false) O (by rw [hg1]) ?_
   have hg1':=xQ hg1
   exact BP O (BP O (st' (v:=(qa false)) (AN O O) O (oNl' (zT CT (xP _)))))
 refine asg' O (oNl' (zB (sL [2,3,4,5] O) (zA ?_)))
 refine zK O (λhc0=>?_) (λhc0=>?_)
 ·simp only [jK] at hc0
  have he:=Tm hc0.1 hc0.2
  refine q4 (st' (v:=(pP b1 0)) (AA O underlying60 O sizeOf58 O) O (By 2 (A8 a.num) Du O (st' (v:=(pP b2 0)) (AA O underlying60 O sizeOf58 O) O (By 1 (A8 b.num) Du O (ck' call71 (Oa a.num b.num (by first|omega|(simp only [Int.natAbs_neg,Av,Int.natAbs_natCast];omega)) (by first|omega|(simp only [Int.natAbs_neg,Av,Int.natAbs_natCast];omega))) O (ck' call33 (Mx (a.num+b.num)) O (An O sizeOf60 O (oNl' (zB (sL [2,3,4] O) (zA (zF ?_)))))))))))
  exact zV (zL (ret_one O (Ab (i:=0) (cs:=AC ((a.num+b.num:Int):Rat)) O O isAgg60 sizeOf60 O) (λw hw=>⟨by rw [he],hw.out⟩)))
 ·simp only [jK] at hc0
  have he:=H7 a b
  refine q4 (st' (v:=(pP b1 3)) (AA O underlying60 O sizeOf54 O) O (By 2 (AW (a.den-1)) CH O (st' (v:=(pP b2 3)) (AA O underlying60 O sizeOf54 O) O (By 1 (AW (b.den-1)) CH O (st' (CB (c:=(decide (a.den-1=b.den-1))) O O eqGuardType54 (H9 9998 (a.den-1) (b.den-1))) O (asg' O (oNl' (zB (sL [2,3,4,18] O) (zA ?_)))))))))
  refine zK O (λhc1=>?_) (λhc1=>?_)
  ·replace hc1:=xR hc1
   have he:=Vp hc1
   refine zS (B9 (EV 4++[(5,true),(4,false),(6,false),(7,false),(8,false)]) (sl sr) (Am (v:=(pP b1 0)) O (AA O underlying60 O sizeOf58 O) (Dz 1 (A8 a.num) Du O (Am (v:=(pP b2 0)) O (AA O underlying60 O sizeOf58 O) (Dz 0 (A8 b.num) Du O (B3 1 A9 O (zD O (ck' call71 (Oa a.num b.num (by first|omega|(simp only [Int.natAbs_neg,Av,Int.natAbs_natCast];omega)) (by first|omega|(simp only [Int.natAbs_neg,Av,Int.natAbs_natCast];omega))) O (zC (sl sr) (zD O (ck' call49 (den_ok a Z) O ?_)))))))))))
   refine zC (sl sr) (zD O (ck' call64 (ID (a.num+b.num) a.den Z Z (by first|omega|assumption)) O (zC (sl sr) (zD O (An O sizeOf60 O (zC (sl sr) (zP (zB (sL [2,3,4] O) (zA (zF (zV ?_)))))))))))
   exact zL (ret_one O (Ab (i:=0) (cs:=AC (mkRat (a.num+b.num) a.den)) O O isAgg60 sizeOf60 O) (λw hw=>⟨by rw [he],hw.out⟩))
  ·replace hc1:=xQ hc1
   refine zG (zJ (q1 (B9 [(0,true),(1,true),(2,true),(5,true),(6,true),(7,true),(11,true),(13,true),(3,false),(4,false),(8,false),(9,false),(10,false),(12,false),(14,false),(15,false),(16,false),(17,false)] (sl sr) (Am (v:=(pP b1 0)) O (AA O underlying60 O sizeOf58 O) (Dz 1 (A8 a.num) Du O (B3 0 A9 O (Am (v:=(pP b2 0)) O (AA O underlying60 O sizeOf58 O) (Dz 0 (A8 b.num) Du O (B3 1 A9 O (B3 1 A9 O (B3 0 A9 O ?_)))))))))))
   refine zD O (ck' call73 (IG b Z) O (zC (sl sr) (zD O (ck' call72 (IA a.num ((b.den:Nat):Int) (by first|omega|(simp only [Int.natAbs_neg,Av,Int.natAbs_natCast];omega)) (by first|omega|(simp only [Int.natAbs_neg,Av,Int.natAbs_natCast];omega))) O (zC (sl sr) (zD O (ck' call73 (IG a Z) O (zC (sl sr) (zD O (ck' call72 (IA b.num ((a.den:Nat):Int) (by first|omega|(simp only [Int.natAbs_neg,Av,Int.natAbs_natCast];omega)) (by first|omega|(simp only [Int.natAbs_neg,Av,Int.natAbs_natCast];omega))) O (zC (sl sr) ?_)))))))))))
   refine zD O (ck' call71 (Oa (a.num*((b.den:Nat):Int)) (b.num*((a.den:Nat):Int)) (by first|omega|(simp only [Int.natAbs_neg,Av,Int.natAbs_natCast];omega)) (by first|omega|(simp only [Int.natAbs_neg,Av,Int.natAbs_natCast];omega))) O (zC (sl sr) (zD O (ck' call49 (den_ok a Z) O (zC (sl sr) (zD O (ck' call49 (den_ok b Z) O (zC (sl sr) (zD O (ck' call74 (Q1 a.den b.den Z Z) O (zC (sl sr) ?_)))))))))))
   exact zD O (ck' call64 (ID ((a.num*((b.den:Nat):Int))+(b.num*((a.den:Nat):Int))) (a.den*b.den) Z Z (by first|omega|assumption)) O (zC (sl sr) (zD O (An O sizeOf60 O (zC (sl sr) (zP (zB (sL [2,3,4] O) (zA (zF (ret_one O (Ab (i:=0) (cs:=AC (mkRat ((a.num*((b.den:Nat):Int))+(b.num*((a.den:Nat):Int))) (a.den*b.den))) O O isAgg60 sizeOf60 O) (λw hw=>⟨by rw [he],hw.out⟩)))))))))))
theorem G6 (a b:Rat) (hs:Sz a+Sz b<=549755813888) (w:World)  :Calls prog 16 #[(aG (AC a)),(aG (AC b))] w (Ac w (aG (AC (a-b)))):=by
 refine AV (args:=[(aG (AC a)),(aG (AC b))]) func16 O O (leB O) (zI (sL [0,1] O) (q4 (BH (cs:=AC a) O λb1=>BH (cs:=AC b) O λb2=>al Cq O λb3=>q6 (sL [2,3,4] O) (B9 [(0,true),(1,true),(2,false),(3,false),(4,false)] (sl sr) (B3 1 A9 O (B3 0 A9 O (zD O (ck' call32 (EH b) O ?_))))))))
 refine zC (sl sr) (zD O ?_)
 have hz1:=Ds a (-b)
 exact ck' call31 (G5 a (-b) (by (try simp only [BN]);omega)) O (zC (sl sr) (zD O (An O sizeOf60 O (zC (sl sr) (zP (zB (sL [4] O) (zA (zF (ret_one O (Ab (i:=0) (cs:=AC (a+(-b))) O O isAgg60 sizeOf60 O) (λw hw=>⟨by rw [Rat.sub_eq_add_neg],hw.out⟩))))))))))
theorem Fl (a b:Rat) (hs:Sz a+Sz b<=549755813888) (w:World)  :Calls prog 39 #[(aG (AC a)),(aG (AC b))] w (Ac w (aG (AC (a*b)))):=by
 have s1:=DF a
 have s2:=Cu a
 have s3:=DF b
 have s4:=Cu b
 have s5:=Ch a b
 have s6:=Ch b a
 have s7:=G2 a b
 have s8:=Hr a b
 have s9:=Eb a.num b.num
 have s10:=Eb (a.num*((b.den:Nat):Int)) (b.num*((a.den:Nat):Int))
 have hda:=a.den_nz
 have hdb:=b.den_nz
 have hdab:a.den*b.den≠0:=Nat.mul_ne_zero hda hdb
 refine AV (args:=[(aG (AC a)),(aG (AC b))]) func39 O O (leB O) (zI (sL [0,1] O) (q4 (BH (cs:=AC a) O λb1=>BH (cs:=AC b) O λb2=>al Cq O λb3=>q6 (sL [2,3,4] O) (q4 (Af 2 A9 O (ck' call46 (GW a) O (AK O ?_)))))))
 refine zg (FM:=[(2,(pP b1 0)),(3,(pP b2 0)),(4,(pP b3 0)),(5,(aG (AC a))),(6,(qa (decide (a.den-1=0)))),(7,(qa (decide (a.den-1=0)))),(10,(qa ((decide (a.den-1=0))&&(decide (b.den-1=0)))))]) (LM:=[AO b3 60 (AC (0:Rat)),AO b2 60 (AC b),AO b1 60 (AC a)]) 3 ?_ ?_
 ·rcases xO (decide (a.den-1=0)) with hg1|hg1
  ·refine zN (k:=7) (u:=qa true) O (by rw [hg1]) ?_
   have hg1':=xR hg1
   exact BV (v:=(aG (AC b))) O (AY (i:=1) (vs:=AC b) O O A9.a A9.s O O) (zd (v:=(qa (decide (b.den-1=0)))) (AE O) (Ag (args:=[(aG (AC b))]) O O call46) (λw hw=>GW b w) O (leB O) (st' (v:=(qa (decide (b.den-1=0)))) (ex_pick_true O O) O (oNl' (zT CT (xP _)))))
  ·refine zN (k:=7) (u:=qa false) O (by rw [hg1]) ?_
   have hg1':=xQ hg1
   exact BP O (BP O (st' (v:=(qa false)) (AN O O) O (oNl' (zT CT (xP _)))))
 refine oNl' (zB (sL [2,3,4,10] O) (zA ?_))
 refine zK O (λhc0=>?_) (λhc0=>?_)
 ·simp only [jK] at hc0
  have he:=Ue hc0.1 hc0.2
  refine q4 (st' (v:=(pP b1 0)) (AA O underlying60 O sizeOf58 O) O (By 2 (A8 a.num) Du O (st' (v:=(pP b2 0)) (AA O underlying60 O sizeOf58 O) O (By 1 (A8 b.num) Du O (ck' call72 (IA a.num b.num (by first|omega|(simp only [Int.natAbs_neg,Av,Int.natAbs_natCast];omega)) (by first|omega|(simp only [Int.natAbs_neg,Av,Int.natAbs_natCast];omega))) O (ck' call33 (Mx (a.num*b.num)) O (An O sizeOf60 O (oNl' (zB (sL [2,3,4] O) (zA (zF ?_)))))))))))
  exact zL (ret_one O (Ab (i:=0) (cs:=AC ((a.num*b.num:Int):Rat)) O O isAgg60 sizeOf60 O) (λw hw=>⟨by rw [he],hw.out⟩))
 ·simp only [jK] at hc0
  have he:=Jv a b
  refine zG (q1 (B9 (EV 4++[(5,true),(7,true),(4,false),(6,false),(8,false),(9,false),(10,false),(11,false)]) (sl sr) (Am (v:=(pP b1 0)) O (AA O underlying60 O sizeOf58 O) (Dz 1 (A8 a.num) Du O (Am (v:=(pP b2 0)) O (AA O underlying60 O sizeOf58 O) (Dz 0 (A8 b.num) Du O (B3 1 A9 O (B3 0 A9 O (zD O (ck' call72 (IA a.num b.num (by first|omega|(simp only [Int.natAbs_neg,Av,Int.natAbs_natCast];omega)) (by first|omega|(simp only [Int.natAbs_neg,Av,Int.natAbs_natCast];omega))) O (zC (sl sr) ?_)))))))))))
  refine zD O (ck' call49 (den_ok a Z) O (zC (sl sr) (zD O (ck' call49 (den_ok b Z) O (zC (sl sr) (zD O (ck' call74 (Q1 a.den b.den Z Z) O (zC (sl sr) (zD O (ck' call64 (ID (a.num*b.num) (a.den*b.den) Z Z (by first|omega|assumption)) O (zC (sl sr) ?_)))))))))))
  exact zD O (An O sizeOf60 O (zC (sl sr) (zP (zB (sL [2,3,4] O) (zA (zF (ret_one O (Ab (i:=0) (cs:=AC (mkRat (a.num*b.num) (a.den*b.den))) O O isAgg60 sizeOf60 O) (λw hw=>⟨by rw [he],hw.out⟩))))))))
theorem I4 (a b:Rat) (hs:Sz a+Sz b<=549755813888) (hb:b≠0) (w:World)  :Calls prog 28 #[(aG (AC a)),(aG (AC b))] w (Ac w (Value.tuple #[(aG (AC (a/b))),(vI 0)])):=by
 have s1:=DF a
 have s2:=Cu a
 have s3:=DF b
 have s4:=Cu b
 have s5:=Ch a b
 have s6:=Ch b a
 have s7:=G2 a b
 have s8:=Hr a b
 have s9:=Eb a.num b.num
 have s10:=Eb (a.num*((b.den:Nat):Int)) (b.num*((a.den:Nat):Int))
 have hda:=a.den_nz
 have hdb:=b.den_nz
 have hdab:a.den*b.den≠0:=Nat.mul_ne_zero hda hdb
 have hbn:b.num≠0:=λe=>hb (Rat.num_eq_zero.1 e)
 have hbs:b.num.sign≠0:=λe=>hbn (Int.sign_eq_zero_iff_zero.1 e)
 have hmi:nw (Eh (decide (b.num.sign<(0:Int))) b.den).natAbs=nw b.den:=by rw [Av]
 have hinv:=Jr hb
 have hsi:=Q4 hb
 rw [<-hinv] at hsi
 refine AV (args:=[(aG (AC a)),(aG (AC b))]) func28 O O (leB O) (zI (sL [0,1] O) (q4 (BH (cs:=AC a) O λb1=>BH (cs:=AC b) O λb2=>al Cq O λb3=>asg' O (q6 (sL [2,3,4,5] O) (q4 (Af 1 A9 O (ck' call63 (Dh b) O (st' (Au (c:=(decide (b.num.sign=(0:Int)))) O O O) O ?_))))))))
 refine oNl' (zB (sL [2,3,4,5,9] O) (zA ?_))
 refine zK O (λhc0=>?_) (λhc0=>?_)
 ·replace hc0:=xR hc0
  exact absurd hc0 hbs
 ·replace hc0:=xQ hc0
  refine zG (q1 (rN [(0,true),(3,true),(6,true),(7,true),(1,false),(2,true),(4,false),(5,false),(8,false),(9,false)] [⟨10,6,60,AC (0:Rat)⟩] [(11,false)] sr jV (λ_ _ d _ _ h=>by cases d<;>exact h) (GD O O Cq O (GP)) O (En 1 A9 O (En 1 A9 O (HZ (v:=(pP b2 0)) O (AA O underlying60 O sizeOf58 O) O (Ta 1 (A8 b.num) Du O (zf O λEF EL=>ck' call63 (Dh b) O (ze sr O (HZ O (Aa (c:=(decide (b.num.sign<(0:Int)))) O O O) O (zf O λEF EL=>?_))))))))))
  refine ck' call49 (den_ok b Z) O (ze sr O (zf O λEF EL=>ck' call65 (FJ (decide (b.num.sign<(0:Int))) b.den) O (ze sr O (zf O λEF EL=>ck' call66 (OZ b.num) O (ze sr O (zf O λEF EL=>ck' call64 (ID (Eh (decide (b.num.sign<(0:Int))) b.den) b.num.natAbs Z Z (by first|omega|assumption)) O (ze sr O (zx λb4=>?_))))))))
  refine zD O (An O sizeOf60 O (zC (sl sr) (zP (zB (sL [2,3,4,5,6] O) (q2 (Af 3 A9 O (Af 0 A9 O ?_)))))))
  have hz1:=Cm a (mkRat (Eh (decide (b.num.sign<(0:Int))) b.den) b.num.natAbs)
  exact ck' call39 (Fl a (mkRat (Eh (decide (b.num.sign<(0:Int))) b.den) b.num.natAbs) (by (try simp only [BN]);omega)) O (DK O sizeOf60 O (asg' O (oNl' (zB (sL [3,4,5,6] O) (zA (zF (Bl O (Ab (i:=1) (cs:=AC (a*(mkRat (Eh (decide (b.num.sign<(0:Int))) b.den) b.num.natAbs))) O O isAgg60 sizeOf60 O) (rd_tmp (v:=(vI 0)) O) (λw hw=>⟨by rw [hinv,Rat.div_def],hw.out⟩))))))))
theorem NK  :Instr.fill ([(0,3),(3,2)].toArray[·]?) (AC (0:Rat)).toArray []=some (AC (0:Rat)).toArray:=by kernel_rfl
theorem P4 (a:Rat) (w:World)  :Calls prog 28 #[(aG (AC a)),(aG (AC (0:Rat)))] w (Ac w (Value.tuple #[(aG (AC (0:Rat))),(vI 5)])):=by
 refine AV (args:=[(aG (AC a)),(aG (AC (0:Rat)))]) func28 O O (leB O) (zI (sL [0,1] O) (q4 (BH (cs:=AC a) O λb1=>BH (cs:=AC (0:Rat)) O λb2=>al Cq O λb3=>asg' O (q6 (sL [2,3,4,5] O) (q4 (Af 1 A9 O (ck' call63 (Dh (0:Rat)) O (st' (Au (c:=(decide (((0:Rat).num.sign)=(0:Int)))) O O O) O ?_))))))))
 refine oNl' (zB (sL [2,3,4,5,9] O) (zA ?_))
 refine zK O (λhc0=>?_) (λhc0=>?_)
 ·replace hc0:=xR hc0
  exact q4 (st' (v:=(aG (AC (0:Rat)))) (AS (zs:=AC (0:Rat)) (vs:=AC (0:Rat)) (pv:=[]) (places:=[(0,3),(3,2)]) zeroValue60 underlying60 (λw=>by simp [sizeOf54,sizeOf58]) O (NK )) O (An O sizeOf60 O (asg' O (oNl' (zB (sL [2,3,4,5] O) (zA (zF (zL (Bl O (Ab (i:=0) (cs:=AC (0:Rat)) O O isAgg60 sizeOf60 O) (rd_tmp (v:=(vI 5)) O) (λw hw=>⟨rfl,hw.out⟩))))))))))
 ·replace hc0:=xQ hc0
  exact absurd O hc0
theorem FK (z:Int) (hz:-9223372036854775808<=z) (hz2:z<9223372036854775808) (w:World)  :Calls prog 17 #[(vI z)] w (Ac w (aG (AC ((z:Int):Rat)))):=by
 refine AV (args:=[(vI z)]) func17 O O (leB O) (zI (sL [0] O) (q4 (al Cq O λb1=>oNl' (q2 (AK O (ck' call34 (cQ z Z Z) O (ck' call33 (Mx z) O (An O sizeOf60 O (oNl' (zB (sL [2] O) ?_))))))))))
 exact zA (zF (ret_one O (Ab (i:=0) (cs:=AC ((z:Int):Rat)) O O isAgg60 sizeOf60 O) (λw hw=>⟨rfl,hw.out⟩)))
end
section
instance:Add Pt:=⟨λa b=>⟨a.x+b.x,a.y+b.y⟩⟩
instance:Sub Pt:=⟨λa b=>⟨a.x-b.x,a.y-b.y⟩⟩
def Bm (a:Pt) (k:Rat):Pt:=⟨a.x*k,a.y*k⟩
def BI (a b:Pt):Rat:=a.x*b.y-a.y*b.x
def C8 (a b:Pt):Rat:=a.x*b.x+a.y*b.y
def AF (a b c:Pt):Rat:=BI (b-a) (c-a)
def BO (p:Pt):Nat:=max (Sz p.x) (Sz p.y)
theorem Cr (p:Pt):Sz p.x<=BO p:=Nat.le_max_left ..
theorem Ct (p:Pt):Sz p.y<=BO p:=Nat.le_max_right ..
theorem OA {p:Pt} {k:Nat} (h1:Sz p.x<=k) (h2:Sz p.y<=k):BO p<=k:=Nat.max_le.2 ⟨h1,h2⟩
theorem Gu (a b:Pt):BO (a+b)<=BO a+BO b+1:=by
  have h1:=Cr a;have h2:=Ct a;have h3:=Cr b;have h4:=Ct b
  refine OA ?_ ?_
  · exact xK (Ds a.x b.x) Z
  · exact xK (Ds a.y b.y) Z
theorem Bo (a b:Pt):BO (a-b)<=BO a+BO b+1:=by
  have h1:=Cr a;have h2:=Ct a;have h3:=Cr b;have h4:=Ct b
  refine OA ?_ ?_
  · exact xK (Eq a.x b.x) Z
  · exact xK (Eq a.y b.y) Z
theorem E8 (a:Pt) (k:Rat):BO (Bm a k)<=BO a+Sz k:=by
  have h1:=Cr a;have h2:=Ct a
  refine OA ?_ ?_
  · exact xK (Cm a.x k) Z
  · exact xK (Cm a.y k) Z
theorem FN (a b:Pt):Sz (BI a b)<=2*BO a+2*BO b+1:=by
  have h1:=Cr a;have h2:=Ct a;have h3:=Cr b;have h4:=Ct b
  have h5:=Cm a.x b.y;have h6:=Cm a.y b.x
  exact xK (Eq _ _) Z
theorem Gw (a b:Pt):Sz (C8 a b)<=2*BO a+2*BO b+1:=by
  have h1:=Cr a;have h2:=Ct a;have h3:=Cr b;have h4:=Ct b
  have h5:=Cm a.x b.x;have h6:=Cm a.y b.y
  exact xK (Ds _ _) Z
theorem Er (a b c:Pt):Sz (AF a b c)<=4*BO a+2*BO b+2*BO c+5:=by
  have h1:=Bo b a;have h2:=Bo c a
  exact xK (FN _ _) Z
theorem Yo:Sz (1/2:Rat)<=1:=by decide +kernel
theorem IY {z:Int} (h1:-9223372036854775808<=z) (h2:z<9223372036854775808):Sz ((z:Int):Rat)<=2:=bL (JF (by show z.natAbs<_;omega)) (by show nw 1<=2;rw [Jz];omega)
theorem aD (a b:Pt):Ah (a+b)=AC (a.x+b.x)++AC (a.y+b.y):=rfl
theorem aE (a b:Pt):Ah (a-b)=AC (a.x-b.x)++AC (a.y-b.y):=rfl
theorem Un (a:Pt) (k:Rat):Ah (Bm a k)=AC (a.x*k)++AC (a.y*k):=rfl
theorem dE (x y:Rat):Ah ⟨x,y⟩=AC x++AC y:=rfl
section
variable {P:Program} {Q:Exit->Act->World->Prop} {n:Nat} {F:List (Nat×Value)} {w0:Ay} {L:List As} {c:Code}
def IL (P:Program) (c:Code) (Q:Exit->Act->World->Prop) (k n:Nat) (F:List (Nat×Value)) (w0:Ay) (L:List As):Prop:=∀a w,Cg n a F->A_ w0 w L->Code.rounds P c Q k a w
theorem yF (k:Nat) (h:IL P c Q k n F w0 L):OkC P (.loop c) Q n F w0 L:=λa w ha hw=>wp_loop_rounds k (h a w ha hw)
theorem zl {k:Nat} (h:OkC P c (Exit.then (Code.rounds P c Q k) Q) n F w0 L):IL P c Q (k+1) n F w0 L:=λa w ha hw=>by
  rw [rounds_succ];exact h a w ha hw
theorem z8 {k:Nat} (h:IL P c Q k n F w0 L):OkQ (Exit.then (Code.rounds P c Q k) Q) .normal n F w0 L:=h
end
end
section
set_option maxRecDepth 100000
theorem CD (x0:Rat) (x1:Rat):Instr.fill ([(0,5),(5,5)].toArray[·]?) (Ah (⟨0,0⟩:Pt)).toArray [(0,.agg (AC x0).toArray),(1,.agg (AC x1).toArray)]=some (AC x0++AC x1).toArray:=by kernel_rfl
theorem Pd (a b:Pt) (hs:BO a+BO b<=68719476736) (w:World)  :Calls prog 78 #[(aG (Ah a)),(aG (Ah b)),(Value.func (.func 31) #[] #[])] w (Ac w (aG (Ah (a+b)))):=by
 have p1:=Cr a
 have p2:=Ct a
 have p3:=Cr b
 have p4:=Ct b
 refine AV (args:=[(aG (Ah a)),(aG (Ah b)),(Value.func (.func 31) #[] #[])]) func78 O O (leB O) (zI (sL [0,1,2] O) (q4 (BH (cs:=Ah a) O λb1=>BH (cs:=Ah b) O λb2=>al Fg O λb3=>q6 (sL [2,3,4,6] O) (B9 (EV 5++[(6,true),(7,true),(8,true),(9,true),(10,true),(5,false),(11,false),(12,true),(13,false)]) (sl sr) (Bi O (Am (v:=(pP b1 0)) O (AA O underlying62 O sizeOf60 O) (Dz 1 (AC a.x) A9 O (Am (v:=(pP b2 0)) O (AA O underlying62 O sizeOf60 O) ?_))))))))
 refine Dz 0 (AC b.x) A9 O (Bi O (Am (v:=(pP b1 5)) O (AA O underlying62 O sizeOf60 O) (Dz 1 (AC a.y) A9 O (Am (v:=(pP b2 5)) O (AA O underlying62 O sizeOf60 O) (Dz 0 (AC b.y) A9 O (zD O ?_))))))
 have hz1:=Ds a.x b.x
 refine ck' call31 (G5 a.x b.x (by (try simp only [BN]);omega)) O (zC (sl sr) (zD O ?_))
 have hz2:=Ds a.y b.y
 exact ck' call31 (G5 a.y b.y (by (try simp only [BN]);omega)) O (zC (sl sr) (Am (v:=(aG (AC (a.x+b.x)++AC (a.y+b.y)))) O (AS (zs:=Ah (⟨0,0⟩:Pt)) (vs:=AC (a.x+b.x)++AC (a.y+b.y)) (pv:=[(0,(aG (AC (a.x+b.x)))),(1,(aG (AC (a.y+b.y))))]) (places:=[(0,5),(5,5)]) zeroValue62 underlying62 (λw=>by simp [sizeOf60]) O (CD (a.x+b.x) (a.y+b.y))) (zD O (An O sizeOf62 O (zC (sl sr) (zP (zB (sL [6] O) (zA (zF (ret_one O (Ab (i:=0) (cs:=AC (a.x+b.x)++AC (a.y+b.y)) O O isAgg62 sizeOf62 O) (λw hw=>⟨by rw [aD],hw.out⟩)))))))))))
theorem Pe (a b:Pt) (hs:BO a+BO b<=68719476736) (w:World)  :Calls prog 78 #[(aG (Ah a)),(aG (Ah b)),(Value.func (.func 16) #[] #[])] w (Ac w (aG (Ah (a-b)))):=by
 have p1:=Cr a
 have p2:=Ct a
 have p3:=Cr b
 have p4:=Ct b
 refine AV (args:=[(aG (Ah a)),(aG (Ah b)),(Value.func (.func 16) #[] #[])]) func78 O O (leB O) (zI (sL [0,1,2] O) (q4 (BH (cs:=Ah a) O λb1=>BH (cs:=Ah b) O λb2=>al Fg O λb3=>q6 (sL [2,3,4,6] O) (B9 (EV 5++[(6,true),(7,true),(8,true),(9,true),(10,true),(5,false),(11,false),(12,true),(13,false)]) (sl sr) (Bi O (Am (v:=(pP b1 0)) O (AA O underlying62 O sizeOf60 O) (Dz 1 (AC a.x) A9 O (Am (v:=(pP b2 0)) O (AA O underlying62 O sizeOf60 O) ?_))))))))
 refine Dz 0 (AC b.x) A9 O (Bi O (Am (v:=(pP b1 5)) O (AA O underlying62 O sizeOf60 O) (Dz 1 (AC a.y) A9 O (Am (v:=(pP b2 5)) O (AA O underlying62 O sizeOf60 O) (Dz 0 (AC b.y) A9 O (zD O ?_))))))
 have hz1:=Eq a.x b.x
 refine ck' call16 (G6 a.x b.x (by (try simp only [BN]);omega)) O (zC (sl sr) (zD O ?_))
 have hz2:=Eq a.y b.y
 exact ck' call16 (G6 a.y b.y (by (try simp only [BN]);omega)) O (zC (sl sr) (Am (v:=(aG (AC (a.x-b.x)++AC (a.y-b.y)))) O (AS (zs:=Ah (⟨0,0⟩:Pt)) (vs:=AC (a.x-b.x)++AC (a.y-b.y)) (pv:=[(0,(aG (AC (a.x-b.x)))),(1,(aG (AC (a.y-b.y))))]) (places:=[(0,5),(5,5)]) zeroValue62 underlying62 (λw=>by simp [sizeOf60]) O (CD (a.x-b.x) (a.y-b.y))) (zD O (An O sizeOf62 O (zC (sl sr) (zP (zB (sL [6] O) (zA (zF (ret_one O (Ab (i:=0) (cs:=AC (a.x-b.x)++AC (a.y-b.y)) O O isAgg62 sizeOf62 O) (λw hw=>⟨by rw [aE],hw.out⟩)))))))))))
theorem N0 (x y k:Rat) (bk:Nat) (hs:Sz x+Sz k<=137438953472) (w:World) (hk:w.heap[bk]?=some (.cells (AC k).toArray 60 (0,0))):Calls prog 79 #[(aG (AC x)),(aG (AC y)),(pP bk 0)] w (Ac w (aG (AC (x*k)))):=by
 refine AV (args:=[(aG (AC x)),(aG (AC y)),(pP bk 0)]) func79 O O (leB O) (zI (sL [0,1,2] O) (q4 (BH (cs:=AC x) O λb1=>BH (cs:=AC y) O λb2=>al Cq O λb3=>q3 (sL [2,3,5] O) (Af 2 A9 O (st' (v:=(aG (AC k))) (F2 (vs:=AC k) O (λw' hw=>hw.oldCA jX (Fe hk)) isAgg60 sizeOf60 O) O ?_)))))
 have hz1:=Cm x k
 exact ck' call39 (Fl x k (by (try simp only [BN]);omega)) O (An O sizeOf60 O (oNl' (zB (sL [5] O) (zA (zF (ret_one O (Ab (i:=0) (cs:=AC (x*k)) O O isAgg60 sizeOf60 O) (λw hw=>⟨rfl,hw.out⟩)))))))
theorem M8 (a:Pt) (k:Rat) (bk:Nat) (hs:BO a+Sz k<=137438953472) (w:World) (hk:w.heap[bk]?=some (.cells (AC k).toArray 60 (0,0))):Calls prog 78 #[(aG (Ah a)),(aG (Ah a)),(Value.func (.func 79) #[] #[(pP bk 0)])] w (Ac w (aG (Ah (Bm a k)))):=by
 have p1:=Cr a
 have p2:=Ct a
 refine AV (args:=[(aG (Ah a)),(aG (Ah a)),(Value.func (.func 79) #[] #[(pP bk 0)])]) func78 O O (leB O) (zI (sL [0,1,2] O) (q4 (BH (cs:=Ah a) O λb1=>BH (cs:=Ah a) O λb2=>al Fg O λb3=>q6 (sL [2,3,4,6] O) (B9 (EV 5++[(6,true),(7,true),(8,true),(9,true),(10,true),(5,false),(11,false),(12,true),(13,false)]) (sl sr) (Bi O (Am (v:=(pP b1 0)) O (AA O underlying62 O sizeOf60 O) (Dz 1 (AC a.x) A9 O (Am (v:=(pP b2 0)) O (AA O underlying62 O sizeOf60 O) ?_))))))))
 refine Dz 0 (AC a.x) A9 O (Bi O (Am (v:=(pP b1 5)) O (AA O underlying62 O sizeOf60 O) (Dz 1 (AC a.y) A9 O (Am (v:=(pP b2 5)) O (AA O underlying62 O sizeOf60 O) (Dz 0 (AC a.y) A9 O (zD O (zd (v:=(aG (AC (a.x*k)))) (AG O) (JH (args:=[(aG (AC a.x)),(aG (AC a.x))]) (caps:=[(pP bk 0)]) (all:=[(aG (AC a.x)),(aG (AC a.x)),(pP bk 0)]) O O O call79) (λw hw=>N0 a.x a.x k bk Z w (hw.old jX hk)) O (leB O) (zC (sl sr) (zD O (zd (v:=(aG (AC (a.y*k)))) (AG O) (JH (args:=[(aG (AC a.y)),(aG (AC a.y))]) (caps:=[(pP bk 0)]) (all:=[(aG (AC a.y)),(aG (AC a.y)),(pP bk 0)]) O O O call79) (λw hw=>N0 a.y a.y k bk Z w (hw.old jX hk)) O (leB O) (zC (sl sr) ?_)))))))))))
 exact Am (v:=(aG (AC (a.x*k)++AC (a.y*k)))) O (AS (zs:=Ah (⟨0,0⟩:Pt)) (vs:=AC (a.x*k)++AC (a.y*k)) (pv:=[(0,(aG (AC (a.x*k)))),(1,(aG (AC (a.y*k))))]) (places:=[(0,5),(5,5)]) zeroValue62 underlying62 (λw=>by simp [sizeOf60]) O (CD (a.x*k) (a.y*k))) (zD O (An O sizeOf62 O (zC (sl sr) (zP (zB (sL [6] O) (zA (zF (ret_one O (Ab (i:=0) (cs:=AC (a.x*k)++AC (a.y*k)) O O isAgg62 sizeOf62 O) (λw hw=>⟨by rw [Un],hw.out⟩)))))))))
theorem On (a b:Pt) (hs:BO a+BO b<=68719476736) (w:World)  :Calls prog 36 #[(aG (Ah a)),(aG (Ah b))] w (Ac w (aG (Ah (a+b)))):=by
 refine AV (args:=[(aG (Ah a)),(aG (Ah b))]) func36 O O (leB O) (zI (sL [0,1] O) (q4 (BH (cs:=Ah a) O λb1=>BH (cs:=Ah b) O λb2=>al Fg O λb3=>q3 (sL [2,3,4] O) (Af 2 BJ O (Af 1 BJ O (ck' call78 (Pd a b Z) O (An O sizeOf62 O (oNl' ?_))))))))
 exact zB (sL [4] O) (zA (zF (ret_one O (Ab (i:=0) (cs:=Ah (a+b)) O O isAgg62 sizeOf62 O) (λw hw=>⟨rfl,hw.out⟩))))
theorem IE (a b:Pt) (hs:BO a+BO b<=68719476736) (w:World)  :Calls prog 38 #[(aG (Ah a)),(aG (Ah b))] w (Ac w (aG (Ah (a-b)))):=by
 refine AV (args:=[(aG (Ah a)),(aG (Ah b))]) func38 O O (leB O) (zI (sL [0,1] O) (q4 (BH (cs:=Ah a) O λb1=>BH (cs:=Ah b) O λb2=>al Fg O λb3=>q3 (sL [2,3,4] O) (Af 2 BJ O (Af 1 BJ O (ck' call78 (Pe a b Z) O (An O sizeOf62 O (oNl' ?_))))))))
 exact zB (sL [4] O) (zA (zF (ret_one O (Ab (i:=0) (cs:=Ah (a-b)) O O isAgg62 sizeOf62 O) (λw hw=>⟨rfl,hw.out⟩))))
theorem J0 (a:Pt) (k:Rat) (hs:BO a+Sz k<=137438953472) (w:World)  :Calls prog 37 #[(aG (Ah a)),(aG (AC k))] w (Ac w (aG (Ah (Bm a k)))):=by
 refine AV (args:=[(aG (Ah a)),(aG (AC k))]) func37 O O (leB O) (zI (sL [0,1] O) (q4 (BH (cs:=Ah a) O λb1=>BH (cs:=AC k) O λb2=>al Fg O λb3=>q3 (sL [2,3,4] O) (Af 2 BJ O (Af 2 BJ O (st' (v:=(Value.func (.func 79) #[] #[(pP b2 0)])) (FP (vs:=[]) (us:=[(pP b2 0)]) O O) O (CQ call78 (λw hw=>M8 a k b2 Z w (hw.get (i:=1) O)) O (An O sizeOf62 O ?_))))))))
 exact oNl' (zB (sL [4] O) (zA (zF (ret_one O (Ab (i:=0) (cs:=Ah (Bm a k)) O O isAgg62 sizeOf62 O) (λw hw=>⟨rfl,hw.out⟩)))))
theorem Uj (a b:Pt) (hs:BO a+BO b<=68719476736) (w:World)  :Calls prog 172 #[(aG (Ah a)),(aG (Ah b))] w (Ac w (aG (AC (BI a b)))):=by
 have p1:=Cr a
 have p2:=Ct a
 have p3:=Cr b
 have p4:=Ct b
 refine AV (args:=[(aG (Ah a)),(aG (Ah b))]) func172 O O (leB O) (zI (sL [0,1] O) (q4 (BH (cs:=Ah a) O λb1=>BH (cs:=Ah b) O λb2=>al Cq O λb3=>q6 (sL [2,3,4] O) (B9 (EV 4++[(5,true),(6,true),(7,true),(8,true),(4,false),(9,false),(10,false),(11,false)]) (sl sr) (Am (v:=(pP b1 0)) O (AA O underlying62 O sizeOf60 O) (Dz 1 (AC a.x) A9 O (Am (v:=(pP b2 5)) O (AA O underlying62 O sizeOf60 O) (Dz 0 (AC b.y) A9 O ?_))))))))
 refine Am (v:=(pP b1 5)) O (AA O underlying62 O sizeOf60 O) (Dz 1 (AC a.y) A9 O (Am (v:=(pP b2 0)) O (AA O underlying62 O sizeOf60 O) (Dz 0 (AC b.x) A9 O (zD O ?_))))
 have hz1:=Cm a.x b.y
 refine ck' call39 (Fl a.x b.y (by (try simp only [BN]);omega)) O (zC (sl sr) (zD O ?_))
 have hz2:=Cm a.y b.x
 refine ck' call39 (Fl a.y b.x (by (try simp only [BN]);omega)) O (zC (sl sr) (zD O ?_))
 have hz3:=Eq (a.x*b.y) (a.y*b.x)
 exact ck' call16 (G6 (a.x*b.y) (a.y*b.x) (by (try simp only [BN]);omega)) O (zC (sl sr) (zD O (An O sizeOf60 O (zC (sl sr) (zP (zB (sL [4] O) (zA (zF (ret_one O (Ab (i:=0) (cs:=AC ((a.x*b.y)-(a.y*b.x))) O O isAgg60 sizeOf60 O) (λw hw=>⟨rfl,hw.out⟩))))))))))
theorem Z2 (a b:Pt) (hs:BO a+BO b<=68719476736) (w:World)  :Calls prog 106 #[(aG (Ah a)),(aG (Ah b))] w (Ac w (aG (AC (C8 a b)))):=by
 have p1:=Cr a
 have p2:=Ct a
 have p3:=Cr b
 have p4:=Ct b
 refine AV (args:=[(aG (Ah a)),(aG (Ah b))]) func106 O O (leB O) (zI (sL [0,1] O) (q4 (BH (cs:=Ah a) O λb1=>BH (cs:=Ah b) O λb2=>al Cq O λb3=>q6 (sL [2,3,4] O) (B9 (EV 4++[(5,true),(6,true),(7,true),(8,true),(4,false),(9,false),(10,false),(11,false)]) (sl sr) (Am (v:=(pP b1 0)) O (AA O underlying62 O sizeOf60 O) (Dz 1 (AC a.x) A9 O (Am (v:=(pP b2 0)) O (AA O underlying62 O sizeOf60 O) (Dz 0 (AC b.x) A9 O ?_))))))))
 refine Am (v:=(pP b1 5)) O (AA O underlying62 O sizeOf60 O) (Dz 1 (AC a.y) A9 O (Am (v:=(pP b2 5)) O (AA O underlying62 O sizeOf60 O) (Dz 0 (AC b.y) A9 O (zD O ?_))))
 have hz1:=Cm a.x b.x
 refine ck' call39 (Fl a.x b.x (by (try simp only [BN]);omega)) O (zC (sl sr) (zD O ?_))
 have hz2:=Cm a.y b.y
 refine ck' call39 (Fl a.y b.y (by (try simp only [BN]);omega)) O (zC (sl sr) (zD O ?_))
 have hz3:=Ds (a.x*b.x) (a.y*b.y)
 exact ck' call31 (G5 (a.x*b.x) (a.y*b.y) (by (try simp only [BN]);omega)) O (zC (sl sr) (zD O (An O sizeOf60 O (zC (sl sr) (zP (zB (sL [4] O) (zA (zF (ret_one O (Ab (i:=0) (cs:=AC ((a.x*b.x)+(a.y*b.y))) O O isAgg60 sizeOf60 O) (λw hw=>⟨rfl,hw.out⟩))))))))))
theorem Rs (a b:Pt) (hs:BO a+BO b<=17179869184) (w:World)  :Calls prog 57 #[(aG (Ah a)),(aG (Ah b))] w (Ac w (aG (AC (C8 (b-a) (b-a))))):=by
 refine AV (args:=[(aG (Ah a)),(aG (Ah b))]) func57 O O (leB O) (zI (sL [0,1] O) (q4 (BH (cs:=Ah a) O λb1=>BH (cs:=Ah b) O λb2=>al Cq O λb3=>q3 (sL [2,3,4] O) (Af 1 BJ O (Af 2 BJ O ?_)))))
 have hz1:=Bo b a
 refine ck' call38 (IE b a Z) O (al Fg O λb4=>An O sizeOf62 O (q3 (sL [4,5] O) (Af 0 BJ O (Af 0 BJ O ?_))))
 have hz2:=Gw (b-a) (b-a)
 exact ck' call106 (Z2 (b-a) (b-a) Z) O (DK O sizeOf60 O (oNl' (zB (sL [4,5] O) (zA (zF (ret_one O (Ab (i:=1) (cs:=AC (C8 (b-a) (b-a))) O O isAgg60 sizeOf60 O) (λw hw=>⟨rfl,hw.out⟩)))))))
theorem JI (x y:Int) (h1:-9223372036854775808<=x) (h2:x<9223372036854775808) (h3:-9223372036854775808<=y) (h4:y<9223372036854775808) (w:World)  :Calls prog 13 #[(vI x),(vI y)] w (Ac w (aG (Ah (⟨((x:Int):Rat),((y:Int):Rat)⟩:Pt)))):=by
 refine AV (args:=[(vI x),(vI y)]) func13 O O (leB O) (zI (sL [0,1] O) (q4 (al Fg O λb1=>oNl' (q2 (AK O (ck' call17 (FK x Z Z) O (AK O (ck' call17 (FK y Z Z) O (st' (v:=(aG (AC ((x:Int):Rat)++AC ((y:Int):Rat)))) (AS (zs:=Ah (⟨0,0⟩:Pt)) (vs:=AC ((x:Int):Rat)++AC ((y:Int):Rat)) (pv:=[(0,(aG (AC ((x:Int):Rat)))),(1,(aG (AC ((y:Int):Rat))))]) (places:=[(0,5),(5,5)]) zeroValue62 underlying62 (λw=>by simp [sizeOf60]) O (CD ((x:Int):Rat) ((y:Int):Rat))) O (An O sizeOf62 O ?_))))))))))
 exact oNl' (zB (sL [4] O) (zA (zF (ret_one O (Ab (i:=0) (cs:=AC ((x:Int):Rat)++AC ((y:Int):Rat)) O O isAgg62 sizeOf62 O) (λw hw=>⟨by rw [dE],hw.out⟩)))))
end
end Go.Proofs.YtcpkbjjmcleplaaGreatDoor
