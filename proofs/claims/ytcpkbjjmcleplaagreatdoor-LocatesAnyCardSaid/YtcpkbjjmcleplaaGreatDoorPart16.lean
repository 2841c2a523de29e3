import Derived.Test.YtcpkbjjmcleplaaGreatDoorPart15
namespace Go.Proofs.YtcpkbjjmcleplaaGreatDoor
open Go Go.RowKit Go.Proofs.Tryz
open Go.Value renaming slice→qz,bool→qa
set_option linter.unusedVariables false
set_option linter.unusedSimpArgs false
section
set_option maxRecDepth 100000
theorem Dy (x0:Int) (x1:Nat):Instr.fill ([(0,3),(3,2)].toArray[·]?) (AB (0:Rat)).toArray [(0,.agg (Ax x0).toArray),(1,.agg (AT x1).toArray)]=some (Ax x0++AT x1).toArray:=by kernel_rfl
theorem Hn (n:Int) (d:Nat) (hn:nw n.natAbs<=1099511627776) (hd:nw d<=1099511627776) (hd0:d≠0) (w:World)  :Calls prog 64 #[(aG (Ax n)),(aG (AT d))] w (AY w (aG (AB (mkRat n d)))):=by
 have hg:Nat.gcd n.natAbs d≠0:=λh=>hd0 (Nat.eq_zero_of_gcd_eq_zero_right h)
 have hgw:nw (Nat.gcd n.natAbs d)<=nw d:=Ct (Nat.gcd_le_right _ (Nat.pos_of_ne_zero hd0))
 have hqw:nw (d/Nat.gcd n.natAbs d)<=nw d:=Ct (Nat.div_le_self _ _)
 have h1w:=JR
 refine AS (args:=[(aG (Ax n)),(aG (AT d))]) func64 O O (leB O) (zG (sL [0,1] O) (q4 (A9 (cs:=Ax n) O λb1=>A9 (cs:=AT d) O λb2=>al CZ O λb3=>q6 (sL [2,3,4] O) (rN [(0,true),(2,true),(1,false),(3,false)] [⟨4,5,54,AT 0⟩] [(5,false)] sr jV (λ_ _ d _ _ h=>by cases d<;>exact h) (FY O O Gt O (Fj)) O (EI 2 DZ O (EI 1 B4 O (ze O λEF EL=>ck' call66 (Ni n) O ?_)))))))
 refine zd sr O (ze O λEF EL=>ck' call113 (Zp n.natAbs d Z Z) O (zd sr O (zm λb4=>zD O (Am O sizeOf54 O (zC (sl sr) (zP (zB (sL [2,3,4,5] O) (q1 (rN [(0,true),(2,true),(1,false),(3,false),(4,true),(5,true),(6,true),(7,true)] [⟨8,6,54,AT 0⟩,⟨9,7,54,AT 0⟩] [(10,false),(11,false),(12,true)] sr jV (λ_ _ d _ _ h=>by cases d<;>exact h) (FY O O Gt O (FY O O Gt O (Fj))) O ?_)))))))))
 refine EI 3 DZ O (EI 0 B4 O (ze O λEF EL=>ck' call66 (Ni n) O (zd sr O (ze O λEF EL=>ck' call114 (Pr n.natAbs (Nat.gcd n.natAbs d) Z Z Z) O (zd sr O (J1 O (GI O (AH (v:=(aG (AT (n.natAbs/(Nat.gcd n.natAbs d))))) O O) O (GI O (AH (v:=(aG (AT (n.natAbs%(Nat.gcd n.natAbs d))))) O O) O (GI O (AH (v:=(qa true)) O O) O ?_)))))))))
 refine BU.news2 λb5 b6=>zD O (Am O sizeOf54 O (zC (sl (sl sr)) (zD O (DG O sizeOf54 O (zC (sl (sl sr)) (pS' O (zP (zB (sL [2,3,4,5,6] O) (q2 (Ah 4 B4 O ?_))))))))))
 refine Ah 2 B4 O (ck' call114 (Pr d (Nat.gcd n.natAbs d) Z Z Z) O (AL O (st' (AH (v:=(aG (AT (d/(Nat.gcd n.natAbs d))))) O O) O (st' (AH (v:=(aG (AT (d%(Nat.gcd n.natAbs d))))) O O) O (st' (AH (v:=(qa true)) O O) O (al Gt O λb7=>al Gt O λb8=>DG O sizeOf54 O (Am O sizeOf54 O (asg' O (q6 (sL [2,3,4,5,6,9] O) ?_)))))))))
 refine rC [(0,true),(1,false),(2,false),(3,true),(4,true),(5,true)] 6 [] sr (sk (sl sr)) jV (λ_ _ d _ _ h=>by cases d<;>exact h) (vE (v:=(aG (AT (d/(Nat.gcd n.natAbs d))))) O (AW (i:=1) (vs:=AT (d/(Nat.gcd n.natAbs d))) O O B4.a B4.s O O) O (yV O (ck' call76 (KP 1 Z) O (yN sr (yV O (ck' call115 (Py (d/(Nat.gcd n.natAbs d)) 1 Z Z) O (yN sr (vM O O O (vE O (AH (v:=(aG (AT ((d/(Nat.gcd n.natAbs d))-1)))) O O) O (vE O (AH (v:=(qa (decide (1<=d/(Nat.gcd n.natAbs d))))) O O) O (yp O ?_)))))))))))
 refine DG O sizeOf54 O (zC (sk (sl sr)) (zP (zB (sL [2,3,4,5,6,9] O) (q1 (B8 [(0,true),(3,true),(5,true),(1,false),(2,true),(4,false),(6,true),(7,false)] (sk (sk (sk (sk (sk (sl sr)))))) (Bv 6 DZ O (Bv 2 B4 O (Bv 1 B4 O (zD O (ck' call112 (K0 n) O (zC (sk (sk (sk (sk (sk (sl sr)))))) ?_)))))))))))
 exact Ao O (Ag (c:=(decide (n.sign<(0:Int)))) O O O) (zD O (ck' call65 (En (decide (n.sign<(0:Int))) (n.natAbs/(Nat.gcd n.natAbs d))) O (zC (sk (sk (sk (sk (sk (sl sr)))))) (Ao (v:=(aG (Ax (EB (decide (n.sign<(0:Int))) (n.natAbs/(Nat.gcd n.natAbs d)))++AT ((d/(Nat.gcd n.natAbs d))-1)))) O (AR (zs:=AB (0:Rat)) (vs:=Ax (EB (decide (n.sign<(0:Int))) (n.natAbs/(Nat.gcd n.natAbs d)))++AT ((d/(Nat.gcd n.natAbs d))-1)) (pv:=[(0,(aG (Ax (EB (decide (n.sign<(0:Int))) (n.natAbs/(Nat.gcd n.natAbs d)))))),(1,(aG (AT ((d/(Nat.gcd n.natAbs d))-1))))]) (places:=[(0,3),(3,2)]) zeroValue60 underlying60 (λw=>by simp [sizeOf54,sizeOf58]) O (Dy (EB (decide (n.sign<(0:Int))) (n.natAbs/(Nat.gcd n.natAbs d))) ((d/(Nat.gcd n.natAbs d))-1))) (zD O (EV 5 (off:=0) (vs:=Ax (EB (decide (n.sign<(0:Int))) (n.natAbs/(Nat.gcd n.natAbs d)))++AT ((d/(Nat.gcd n.natAbs d))-1)) (cs':=Ax (EB (decide (n.sign<(0:Int))) (n.natAbs/(Nat.gcd n.natAbs d)))++AT ((d/(Nat.gcd n.natAbs d))-1)) (AJ O) O sizeOf60 O (zC (sk (sk (sk (sk (sk (sl sr)))))) (zP (zB (sL [2,3,4,5,6,9] O) (zA (zF (ret_one O (Aa (i:=5) (cs:=Ax (EB (decide (n.sign<(0:Int))) (n.natAbs/(Nat.gcd n.natAbs d)))++AT ((d/(Nat.gcd n.natAbs d))-1)) O O isAgg60 sizeOf60 O) (λw hw=>⟨by rw [Jr,Nn hd0,Rr hd0],hw.out⟩)))))))))))))
theorem H8 (x0:Int):Instr.fill ([(0,3),(3,2)].toArray[·]?) (AB (0:Rat)).toArray [(0,.agg (Ax x0).toArray)]=some (Ax x0++AT ((0:Rat).den-1)).toArray:=by kernel_rfl
theorem L0 (n:Int) (w:World)  :Calls prog 33 #[(aG (Ax n))] w (AY w (aG (AB ((n:Int):Rat)))):=by
 refine AS (args:=[(aG (Ax n))]) func33 O O (leB O) (zG (sL [0] O) (q4 (A9 (cs:=Ax n) O λb1=>al CZ O λb2=>q3 (sL [1,2] O) (Ah 1 DZ O (st' (v:=(aG (Ax n++AT ((0:Rat).den-1)))) (AR (zs:=AB (0:Rat)) (vs:=Ax n++AT ((0:Rat).den-1)) (pv:=[(0,(aG (Ax n)))]) (places:=[(0,3),(3,2)]) zeroValue60 underlying60 (λw=>by simp [sizeOf54,sizeOf58]) O (H8 n)) O (Am O sizeOf60 O (oNl' (zB (sL [2] O) (zA ?_)))))))))
 exact zF (ret_one O (Aa (i:=0) (cs:=Ax n++AT ((0:Rat).den-1)) O O isAgg60 sizeOf60 O) (λw hw=>⟨rfl,hw.out⟩))
theorem MT  :Instr.fill ([(0,1),(1,1)].toArray[·]?) (AT 0).toArray []=some (AT 0).toArray:=by kernel_rfl
theorem F2 (a:Rat) (w:World)  :Calls prog 46 #[(aG (AB a))] w (AY w (qa (decide (a.den-1=0)))):=by
 refine AS (args:=[(aG (AB a))]) func46 O O (leB O) (zG (sL [0] O) (q4 (A9 (cs:=AB a) O λb1=>asg' O (q3 (sL [1,2] O) (st' (v:=(pP b1 3)) (AA O underlying60 O sizeOf54 O) O (Br 0 (AT (a.den-1)) B4 O (st' (v:=(aG (AT 0))) (AR (zs:=AT 0) (vs:=AT 0) (pv:=[]) (places:=[(0,1),(1,1)]) zeroValue54 underlying54 (λw=>by simp [sizeOf9,sizeOf52]) O (MT )) O (st' (Cg (c:=(decide (a.den-1=0))) O O eqGuardType54 (Hi 9998 (a.den-1) 0)) O (asg' O (oNl' ?_))))))))))
 exact zB (sL [2] O) (zA (zF (ret_one O (rd_tmp (v:=(qa (decide (a.den-1=0)))) O) (λw hw=>⟨rfl,hw.out⟩))))
theorem den_ok (a:Rat) (ha:nw a.den<=1099511627776) (w:World)  :Calls prog 49 #[(aG (AB a))] w (AY w (aG (AT a.den))):=by
 have h1w:=JR
 have h2w:=Ct (Nat.sub_le a.den 1)
 refine AS (args:=[(aG (AB a))]) func49 O O (leB O) (zG (sL [0] O) (q4 (A9 (cs:=AB a) O λb1=>al Gt O λb2=>q6 (sL [1,2] O) (B8 [(0,true),(1,true),(2,false),(3,false),(4,false)] (sl sr) (Ao (v:=(pP b1 3)) O (AA O underlying60 O sizeOf54 O) (Dd 0 (AT (a.den-1)) B4 O (zD O (ck' call76 (KP 1 Z) O (zC (sl sr) ?_)))))))))
 exact zD O (ck' call92 (UH (a.den-1) 1 Z Z) O (zC (sl sr) (zD O (Am O sizeOf54 O (zC (sl sr) (zP (zB (sL [2] O) (zA (zF (ret_one O (Aa (i:=0) (cs:=AT ((a.den-1)+1)) O O isAgg54 sizeOf54 O) (λw hw=>⟨by rw [Nat.sub_add_cancel a.den_pos],hw.out⟩)))))))))))
theorem Hq (a:Rat) (ha:nw a.den<=1099511627776) (w:World)  :Calls prog 73 #[(aG (AB a))] w (AY w (aG (Ax ((a.den:Nat):Int)))):=by
 refine AS (args:=[(aG (AB a))]) func73 O O (leB O) (zG (sL [0] O) (q4 (A9 (cs:=AB a) O λb1=>al KB O λb2=>q3 (sL [1,2] O) (Ah 1 Ay O (ck' call49 (den_ok a Z) O (ck' call65 (En false a.den) O (Am O sizeOf58 O (oNl' (zB (sL [2] O) ?_)))))))))
 exact zA (zF (ret_one O (Aa (i:=0) (cs:=Ax (EB false a.den)) O O isAgg58 sizeOf58 O) (λw hw=>⟨rfl,hw.out⟩)))
theorem Dq (a:Rat) (w:World)  :Calls prog 32 #[(aG (AB a))] w (AY w (aG (AB (-a)))):=by
 refine AS (args:=[(aG (AB a))]) func32 O O (leB O) (zG (sL [0] O) (q4 (A9 (cs:=AB a) O λb1=>al CZ O λb2=>q6 (sL [1,2] O) (B8 [(0,true),(1,true),(3,true),(4,true),(2,false),(5,true),(6,false)] (sl sr) (Ao (v:=(pP b1 0)) O (AA O underlying60 O sizeOf58 O) (Dd 0 (Ax a.num) DZ O (Ao (v:=(pP b1 3)) O (AA O underlying60 O sizeOf54 O) (Dd 0 (AT (a.den-1)) B4 O (zD O ?_)))))))))
 exact ck' call75 (Rm a.num) O (zC (sl sr) (Ao (v:=(aG (Ax (-a.num)++AT (a.den-1)))) O (AR (zs:=AB (0:Rat)) (vs:=Ax (-a.num)++AT (a.den-1)) (pv:=[(0,(aG (Ax (-a.num)))),(1,(aG (AT (a.den-1))))]) (places:=[(0,3),(3,2)]) zeroValue60 underlying60 (λw=>by simp [sizeOf54,sizeOf58]) O (Dy (-a.num) (a.den-1))) (zD O (Am O sizeOf60 O (zC (sl sr) (zP (zB (sL [2] O) (zA (zF (ret_one O (Aa (i:=0) (cs:=Ax (-a.num)++AT (a.den-1)) O O isAgg60 sizeOf60 O) (λw hw=>⟨by rw [Jr,Rat.neg_num,Rat.neg_den],hw.out⟩)))))))))))
theorem DQ (a:Rat) (w:World)  :Calls prog 63 #[(aG (AB a))] w (AY w (vI a.num.sign)):=by
 refine AS (args:=[(aG (AB a))]) func63 O O (leB O) (zG (sL [0] O) (q4 (A9 (cs:=AB a) O λb1=>asg' O (q3 (sL [1,2] O) (st' (v:=(pP b1 0)) (AA O underlying60 O sizeOf58 O) O (Br 0 (Ax a.num) DZ O (ck' call112 (K0 a.num) O (asg' O (oNl' (zB (sL [2] O) ?_))))))))))
 exact zA (zF (ret_one O (rd_tmp (v:=(vI a.num.sign)) O) (λw hw=>⟨rfl,hw.out⟩)))
theorem KM (a b:Rat) (hs:Sz a+Sz b<=549755813888) (w:World)  :Calls prog 43 #[(aG (AB a)),(aG (AB b))] w (AY w (vI (BK a b))):=by
 have s1:=Cz a
 have s2:=Cc a
 have s3:=Cz b
 have s4:=Cc b
 have s5:=CQ a b
 have s6:=CQ b a
 have s7:=GW a b
 have s8:=HR a b
 have s9:=D5 a.num b.num
 have s10:=D5 (a.num*((b.den:Nat):Int)) (b.num*((a.den:Nat):Int))
 have hda:=a.den_nz
 have hdb:=b.den_nz
 have hdab:a.den*b.den≠0:=Nat.mul_ne_zero hda hdb
 refine AS (args:=[(aG (AB a)),(aG (AB b))]) func43 O O (leB O) (zG (sL [0,1] O) (q4 (A9 (cs:=AB a) O λb1=>A9 (cs:=AB b) O λb2=>asg' O (q6 (sL [2,3,4] O) (q4 (st' (v:=(pP b1 3)) (AA O underlying60 O sizeOf54 O) O (Br 1 (AT (a.den-1)) B4 O (st' (v:=(pP b2 3)) (AA O underlying60 O sizeOf54 O) O (Br 0 (AT (b.den-1)) B4 O ?_)))))))))
 refine st' (Cg (c:=(decide (a.den-1=b.den-1))) O O eqGuardType54 (Hi 9998 (a.den-1) (b.den-1))) O (oNl' (zB (sL [2,3,4,9] O) (zA ?_)))
 refine zK O (λhc0=>?_) (λhc0=>?_)
 ·replace hc0:=xR hc0
  have he:=Si hc0
  exact q4 (st' (v:=(pP b1 0)) (AA O underlying60 O sizeOf58 O) O (Br 1 (Ax a.num) DZ O (st' (v:=(pP b2 0)) (AA O underlying60 O sizeOf58 O) O (Br 0 (Ax b.num) DZ O (ck' call82 (Rl a.num b.num (by first|omega|(simp only [Int.natAbs_neg,Aq,Int.natAbs_natCast];omega)) (by first|omega|(simp only [Int.natAbs_neg,Aq,Int.natAbs_natCast];omega))) O (asg' O (oNl' (zB (sL [2,3,4] O) (zA (zF (zH (ret_one O (rd_tmp (v:=(vI ((a.num-b.num).sign))) O) (λw hw=>⟨by rw [he],hw.out⟩)))))))))))))
 ·replace hc0:=xQ hc0
  have he:=H7 a b
  refine zI (q1 (B8 [(0,true),(1,true),(2,true),(5,true),(6,true),(7,true),(3,false),(4,false),(8,false),(9,false),(10,false),(11,true)] sr (Ao (v:=(pP b1 0)) O (AA O underlying60 O sizeOf58 O) (Dd 1 (Ax a.num) DZ O (Bv 0 Ay O (Ao (v:=(pP b2 0)) O (AA O underlying60 O sizeOf58 O) (Dd 0 (Ax b.num) DZ O (Bv 1 Ay O (zD O (ck' call73 (Hq b Z) O (zC sr ?_)))))))))))
  refine zD O (ck' call72 (Hk a.num ((b.den:Nat):Int) (by first|omega|(simp only [Int.natAbs_neg,Aq,Int.natAbs_natCast];omega)) (by first|omega|(simp only [Int.natAbs_neg,Aq,Int.natAbs_natCast];omega))) O (zC sr (zD O (ck' call73 (Hq a Z) O (zC sr (zD O (ck' call72 (Hk b.num ((a.den:Nat):Int) (by first|omega|(simp only [Int.natAbs_neg,Aq,Int.natAbs_natCast];omega)) (by first|omega|(simp only [Int.natAbs_neg,Aq,Int.natAbs_natCast];omega))) O (zC sr (zD O (ck' call82 (Rl (a.num*((b.den:Nat):Int)) (b.num*((a.den:Nat):Int)) (by first|omega|(simp only [Int.natAbs_neg,Aq,Int.natAbs_natCast];omega)) (by first|omega|(simp only [Int.natAbs_neg,Aq,Int.natAbs_natCast];omega))) O (zC sr ?_)))))))))))
  exact pS' O (zP (zB (sL [2,3,4] O) (zA (zF (ret_one O (rd_tmp (v:=(vI (((a.num*((b.den:Nat):Int))-(b.num*((a.den:Nat):Int))).sign))) O) (λw hw=>⟨by rw [he],hw.out⟩))))))
theorem Ga (a b:Rat) (hs:Sz a+Sz b<=549755813888) (w:World)  :Calls prog 31 #[(aG (AB a)),(aG (AB b))] w (AY w (aG (AB (a+b)))):=by
 have s1:=Cz a
 have s2:=Cc a
 have s3:=Cz b
 have s4:=Cc b
 have s5:=CQ a b
 have s6:=CQ b a
 have s7:=GW a b
 have s8:=HR a b
 have s9:=D5 a.num b.num
 have s10:=D5 (a.num*((b.den:Nat):Int)) (b.num*((a.den:Nat):Int))
 have hda:=a.den_nz
 have hdb:=b.den_nz
 have hdab:a.den*b.den≠0:=Nat.mul_ne_zero hda hdb
 refine AS (args:=[(aG (AB a)),(aG (AB b))]) func31 O O (leB O) (zG (sL [0,1] O) (q4 (A9 (cs:=AB a) O λb1=>A9 (cs:=AB b) O λb2=>al CZ O λb3=>q6 (sL [2,3,4] O) (zN (q4 (Ah 2 Ay O (ck' call46 (F2 a) O (AL O ?_))))))))
 refine zg (FM:=[(2,(pP b1 0)),(3,(pP b2 0)),(4,(pP b3 0)),(6,(aG (AB a))),(7,(qa (decide (a.den-1=0)))),(8,(qa (decide (a.den-1=0)))),(11,(qa ((decide (a.den-1=0))&&(decide (b.den-1=0)))))]) (LM:=[AQ b3 60 (AB (0:Rat)),AQ b2 60 (AB b),AQ b1 60 (AB a)]) 3 ?_ ?_
 ·rcases xO (decide (a.den-1=0)) with hg1|hg1
  ·refine zJ (k:=8) (u:=qa true) O (by rw [hg1]) ?_
   have hg1':=xR hg1
   exact BN (v:=(aG (AB b))) O (AW (i:=1) (vs:=AB b) O O Ay.a Ay.s O O) (zc (v:=(qa (decide (b.den-1=0)))) (AE O) (Ac (args:=[(aG (AB b))]) O O call46) (λw hw=>F2 b w) O (leB O) (st' (v:=(qa (decide (b.den-1=0)))) (ex_pick_true O O) O (oNl' (zS CK (xP _)))))
  ·refine zJ (k:=8) (u:=qa false) O (by rw [hg1]) ?_
   have hg1':=xQ hg1
   exact BF O (BF O (st' (v:=(qa false)) (AN O O) O (oNl' (zS CK (xP _)))))
 refine asg' O (oNl' (zB (sL [2,3,4,5] O) (zA ?_)))
 refine zK O (λhc0=>?_) (λhc0=>?_)
 ·simp only [jK] at hc0
  have he:=Sd hc0.1 hc0.2
  refine q4 (st' (v:=(pP b1 0)) (AA O underlying60 O sizeOf58 O) O (Br 2 (Ax a.num) DZ O (st' (v:=(pP b2 0)) (AA O underlying60 O sizeOf58 O) O (Br 1 (Ax b.num) DZ O (ck' call71 (Nj a.num b.num (by first|omega|(simp only [Int.natAbs_neg,Aq,Int.natAbs_natCast];omega)) (by first|omega|(simp only [Int.natAbs_neg,Aq,Int.natAbs_natCast];omega))) O (ck' call33 (L0 (a.num+b.num)) O (Am O sizeOf60 O (oNl' (zB (sL [2,3,4] O) (zA (zF ?_)))))))))))
  exact zT (zH (ret_one O (Aa (i:=0) (cs:=AB ((a.num+b.num:Int):Rat)) O O isAgg60 sizeOf60 O) (λw hw=>⟨by rw [he],hw.out⟩)))
 ·simp only [jK] at hc0
  have he:=Hg a b
  refine q4 (st' (v:=(pP b1 3)) (AA O underlying60 O sizeOf54 O) O (Br 2 (AT (a.den-1)) B4 O (st' (v:=(pP b2 3)) (AA O underlying60 O sizeOf54 O) O (Br 1 (AT (b.den-1)) B4 O (st' (Cg (c:=(decide (a.den-1=b.den-1))) O O eqGuardType54 (Hi 9998 (a.den-1) (b.den-1))) O (asg' O (oNl' (zB (sL [2,3,4,18] O) (zA ?_)))))))))
  refine zK O (λhc1=>?_) (λhc1=>?_)
  ·replace hc1:=xR hc1
   have he:=Ud hc1
   refine zV (B8 (Ed 4++[(5,true),(4,false),(6,false),(7,false),(8,false)]) (sl sr) (Ao (v:=(pP b1 0)) O (AA O underlying60 O sizeOf58 O) (Dd 1 (Ax a.num) DZ O (Ao (v:=(pP b2 0)) O (AA O underlying60 O sizeOf58 O) (Dd 0 (Ax b.num) DZ O (Bv 1 Ay O (zD O (ck' call71 (Nj a.num b.num (by first|omega|(simp only [Int.natAbs_neg,Aq,Int.natAbs_natCast];omega)) (by first|omega|(simp only [Int.natAbs_neg,Aq,Int.natAbs_natCast];omega))) O (zC (sl sr) (zD O (ck' call49 (den_ok a Z) O ?_)))))))))))
   refine zC (sl sr) (zD O (ck' call64 (Hn (a.num+b.num) a.den Z Z (by first|omega|assumption)) O (zC (sl sr) (zD O (Am O sizeOf60 O (zC (sl sr) (zP (zB (sL [2,3,4] O) (zA (zF (zT ?_)))))))))))
   exact zH (ret_one O (Aa (i:=0) (cs:=AB (mkRat (a.num+b.num) a.den)) O O isAgg60 sizeOf60 O) (λw hw=>⟨by rw [he],hw.out⟩))
  ·replace hc1:=xQ hc1
   refine zI (zM (q1 (B8 [(0,true),(1,true),(2,true),(5,true),(6,true),(7,true),(11,true),(13,true),(3,false),(4,false),(8,false),(9,false),(10,false),(12,false),(14,false),(15,false),(16,false),(17,false)] (sl sr) (Ao (v:=(pP b1 0)) O (AA O underlying60 O sizeOf58 O) (Dd 1 (Ax a.num) DZ O (Bv 0 Ay O (Ao (v:=(pP b2 0)) O (AA O underlying60 O sizeOf58 O) (Dd 0 (Ax b.num) DZ O (Bv 1 Ay O (Bv 1 Ay O (Bv 0 Ay O ?_)))))))))))
   refine zD O (ck' call73 (Hq b Z) O (zC (sl sr) (zD O (ck' call72 (Hk a.num ((b.den:Nat):Int) (by first|omega|(simp only [Int.natAbs_neg,Aq,Int.natAbs_natCast];omega)) (by first|omega|(simp only [Int.natAbs_neg,Aq,Int.natAbs_natCast];omega))) O (zC (sl sr) (zD O (ck' call73 (Hq a Z) O (zC (sl sr) (zD O (ck' call72 (Hk b.num ((a.den:Nat):Int) (by first|omega|(simp only [Int.natAbs_neg,Aq,Int.natAbs_natCast];omega)) (by first|omega|(simp only [Int.natAbs_neg,Aq,Int.natAbs_natCast];omega))) O (zC (sl sr) ?_)))))))))))
   refine zD O (ck' call71 (Nj (a.num*((b.den:Nat):Int)) (b.num*((a.den:Nat):Int)) (by first|omega|(simp only [Int.natAbs_neg,Aq,Int.natAbs_natCast];omega)) (by first|omega|(simp only [Int.natAbs_neg,Aq,Int.natAbs_natCast];omega))) O (zC (sl sr) (zD O (ck' call49 (den_ok a Z) O (zC (sl sr) (zD O (ck' call49 (den_ok b Z) O (zC (sl sr) (zD O (ck' call74 (Pw a.den b.den Z Z) O (zC (sl sr) ?_)))))))))))
   exact zD O (ck' call64 (Hn ((a.num*((b.den:Nat):Int))+(b.num*((a.den:Nat):Int))) (a.den*b.den) Z Z (by first|omega|assumption)) O (zC (sl sr) (zD O (Am O sizeOf60 O (zC (sl sr) (zP (zB (sL [2,3,4] O) (zA (zF (ret_one O (Aa (i:=0) (cs:=AB (mkRat ((a.num*((b.den:Nat):Int))+(b.num*((a.den:Nat):Int))) (a.den*b.den))) O O isAgg60 sizeOf60 O) (λw hw=>⟨by rw [he],hw.out⟩)))))))))))
theorem Gb (a b:Rat) (hs:Sz a+Sz b<=549755813888) (w:World)  :Calls prog 16 #[(aG (AB a)),(aG (AB b))] w (AY w (aG (AB (a-b)))):=by
 refine AS (args:=[(aG (AB a)),(aG (AB b))]) func16 O O (leB O) (zG (sL [0,1] O) (q4 (A9 (cs:=AB a) O λb1=>A9 (cs:=AB b) O λb2=>al CZ O λb3=>q6 (sL [2,3,4] O) (B8 [(0,true),(1,true),(2,false),(3,false),(4,false)] (sl sr) (Bv 1 Ay O (Bv 0 Ay O (zD O (ck' call32 (Dq b) O ?_))))))))
 refine zC (sl sr) (zD O ?_)
 have hz1:=DY a (-b)
 exact ck' call31 (Ga a (-b) (by (try simp only [BE]);omega)) O (zC (sl sr) (zD O (Am O sizeOf60 O (zC (sl sr) (zP (zB (sL [4] O) (zA (zF (ret_one O (Aa (i:=0) (cs:=AB (a+(-b))) O O isAgg60 sizeOf60 O) (λw hw=>⟨by rw [Rat.sub_eq_add_neg],hw.out⟩))))))))))
theorem E_ (a b:Rat) (hs:Sz a+Sz b<=549755813888) (w:World)  :Calls prog 39 #[(aG (AB a)),(aG (AB b))] w (AY w (aG (AB (a*b)))):=by
 have s1:=Cz a
 have s2:=Cc a
 have s3:=Cz b
 have s4:=Cc b
 have s5:=CQ a b
 have s6:=CQ b a
 have s7:=GW a b
 have s8:=HR a b
 have s9:=D5 a.num b.num
 have s10:=D5 (a.num*((b.den:Nat):Int)) (b.num*((a.den:Nat):Int))
 have hda:=a.den_nz
 have hdb:=b.den_nz
 have hdab:a.den*b.den≠0:=Nat.mul_ne_zero hda hdb
 refine AS (args:=[(aG (AB a)),(aG (AB b))]) func39 O O (leB O) (zG (sL [0,1] O) (q4 (A9 (cs:=AB a) O λb1=>A9 (cs:=AB b) O λb2=>al CZ O λb3=>q6 (sL [2,3,4] O) (q4 (Ah 2 Ay O (ck' call46 (F2 a) O (AL O ?_)))))))
 refine zg (FM:=[(2,(pP b1 0)),(3,(pP b2 0)),(4,(pP b3 0)),(5,(aG (AB a))),(6,(qa (decide (a.den-1=0)))),(7,(qa (decide (a.den-1=0)))),(10,(qa ((decide (a.den-1=0))&&(decide (b.den-1=0)))))]) (LM:=[AQ b3 60 (AB (0:Rat)),AQ b2 60 (AB b),AQ b1 60 (AB a)]) 3 ?_ ?_
 ·rcases xO (decide (a.den-1=0)) with hg1|hg1
  ·refine zJ (k:=7) (u:=qa true) O (by rw [hg1]) ?_
   have hg1':=xR hg1
   exact BN (v:=(aG (AB b))) O (AW (i:=1) (vs:=AB b) O O Ay.a Ay.s O O) (zc (v:=(qa (decide (b.den-1=0)))) (AE O) (Ac (args:=[(aG (AB b))]) O O call46) (λw hw=>F2 b w) O (leB O) (st' (v:=(qa (decide (b.den-1=0)))) (ex_pick_true O O) O (oNl' (zS CK (xP _)))))
  ·refine zJ (k:=7) (u:=qa false) O (by rw [hg1]) ?_
   have hg1':=xQ hg1
   exact BF O (BF O (st' (v:=(qa false)) (AN O O) O (oNl' (zS CK (xP _)))))
 refine oNl' (zB (sL [2,3,4,10] O) (zA ?_))
 refine zK O (λhc0=>?_) (λhc0=>?_)
 ·simp only [jK] at hc0
  have he:=TM hc0.1 hc0.2
  refine q4 (st' (v:=(pP b1 0)) (AA O underlying60 O sizeOf58 O) O (Br 2 (Ax a.num) DZ O (st' (v:=(pP b2 0)) (AA O underlying60 O sizeOf58 O) O (Br 1 (Ax b.num) DZ O (ck' call72 (Hk a.num b.num (by first|omega|(simp only [Int.natAbs_neg,Aq,Int.natAbs_natCast];omega)) (by first|omega|(simp only [Int.natAbs_neg,Aq,Int.natAbs_natCast];omega))) O (ck' call33 (L0 (a.num*b.num)) O (Am O sizeOf60 O (oNl' (zB (sL [2,3,4] O) (zA (zF ?_)))))))))))
  exact zH (ret_one O (Aa (i:=0) (cs:=AB ((a.num*b.num:Int):Rat)) O O isAgg60 sizeOf60 O) (λw hw=>⟨by rw [he],hw.out⟩))
 ·simp only [jK] at hc0
  have he:=JN a b
  refine zI (q1 (B8 (Ed 4++[(5,true),(7,true),(4,false),(6,false),(8,false),(9,false),(10,false),(11,false)]) (sl sr) (Ao (v:=(pP b1 0)) O (AA O underlying60 O sizeOf58 O) (Dd 1 (Ax a.num) DZ O (Ao (v:=(pP b2 0)) O (AA O underlying60 O sizeOf58 O) (Dd 0 (Ax b.num) DZ O (Bv 1 Ay O (Bv 0 Ay O (zD O (ck' call72 (Hk a.num b.num (by first|omega|(simp only [Int.natAbs_neg,Aq,Int.natAbs_natCast];omega)) (by first|omega|(simp only [Int.natAbs_neg,Aq,Int.natAbs_natCast];omega))) O (zC (sl sr) ?_)))))))))))
  refine zD O (ck' call49 (den_ok a Z) O (zC (sl sr) (zD O (ck' call49 (den_ok b Z) O (zC (sl sr) (zD O (ck' call74 (Pw a.den b.den Z Z) O (zC (sl sr) (zD O (ck' call64 (Hn (a.num*b.num) (a.den*b.den) Z Z (by first|omega|assumption)) O (zC (sl sr) ?_)))))))))))
  exact zD O (Am O sizeOf60 O (zC (sl sr) (zP (zB (sL [2,3,4] O) (zA (zF (ret_one O (Aa (i:=0) (cs:=AB (mkRat (a.num*b.num) (a.den*b.den))) O O isAgg60 sizeOf60 O) (λw hw=>⟨by rw [he],hw.out⟩))))))))
theorem IY (a b:Rat) (hs:Sz a+Sz b<=549755813888) (hb:b≠0) (w:World)  :Calls prog 28 #[(aG (AB a)),(aG (AB b))] w (AY w (Value.tuple #[(aG (AB (a/b))),(vI 0)])):=by
 have s1:=Cz a
 have s2:=Cc a
 have s3:=Cz b
 have s4:=Cc b
 have s5:=CQ a b
 have s6:=CQ b a
 have s7:=GW a b
 have s8:=HR a b
 have s9:=D5 a.num b.num
 have s10:=D5 (a.num*((b.den:Nat):Int)) (b.num*((a.den:Nat):Int))
 have hda:=a.den_nz
 have hdb:=b.den_nz
 have hdab:a.den*b.den≠0:=Nat.mul_ne_zero hda hdb
 have hbn:b.num≠0:=λe=>hb (Rat.num_eq_zero.1 e)
 have hbs:b.num.sign≠0:=λe=>hbn (Int.sign_eq_zero_iff_zero.1 e)
 have hmi:nw (EB (decide (b.num.sign<(0:Int))) b.den).natAbs=nw b.den:=by rw [Aq]
 have hinv:=JJ hb
 have hsi:=Pz hb
 rw [<-hinv] at hsi
 refine AS (args:=[(aG (AB a)),(aG (AB b))]) func28 O O (leB O) (zG (sL [0,1] O) (q4 (A9 (cs:=AB a) O λb1=>A9 (cs:=AB b) O λb2=>al CZ O λb3=>asg' O (q6 (sL [2,3,4,5] O) (q4 (Ah 1 Ay O (ck' call63 (DQ b) O (st' (Az (c:=(decide (b.num.sign=(0:Int)))) O O O) O ?_))))))))
 refine oNl' (zB (sL [2,3,4,5,9] O) (zA ?_))
 refine zK O (λhc0=>?_) (λhc0=>?_)
 ·replace hc0:=xR hc0
  exact absurd hc0 hbs
 ·replace hc0:=xQ hc0
  refine zI (q1 (rN [(0,true),(3,true),(6,true),(7,true),(1,false),(2,true),(4,false),(5,false),(8,false),(9,false)] [⟨10,6,60,AB (0:Rat)⟩] [(11,false)] sr jV (λ_ _ d _ _ h=>by cases d<;>exact h) (FY O O CZ O (Fj)) O (EI 1 Ay O (EI 1 Ay O (GI (v:=(pP b2 0)) O (AA O underlying60 O sizeOf58 O) O (SS 1 (Ax b.num) DZ O (ze O λEF EL=>ck' call63 (DQ b) O (zd sr O (GI O (Ag (c:=(decide (b.num.sign<(0:Int)))) O O O) O (ze O λEF EL=>?_))))))))))
  refine ck' call49 (den_ok b Z) O (zd sr O (ze O λEF EL=>ck' call65 (En (decide (b.num.sign<(0:Int))) b.den) O (zd sr O (ze O λEF EL=>ck' call66 (Ni b.num) O (zd sr O (ze O λEF EL=>ck' call64 (Hn (EB (decide (b.num.sign<(0:Int))) b.den) b.num.natAbs Z Z (by first|omega|assumption)) O (zd sr O (zm λb4=>?_))))))))
  refine zD O (Am O sizeOf60 O (zC (sl sr) (zP (zB (sL [2,3,4,5,6] O) (q2 (Ah 3 Ay O (Ah 0 Ay O ?_)))))))
  have hz1:=CU a (mkRat (EB (decide (b.num.sign<(0:Int))) b.den) b.num.natAbs)
  exact ck' call39 (E_ a (mkRat (EB (decide (b.num.sign<(0:Int))) b.den) b.num.natAbs) (by (try simp only [BE]);omega)) O (DG O sizeOf60 O (asg' O (oNl' (zB (sL [3,4,5,6] O) (zA (zF (Bf O (Aa (i:=1) (cs:=AB (a*(mkRat (EB (decide (b.num.sign<(0:Int))) b.den) b.num.natAbs))) O O isAgg60 sizeOf60 O) (rd_tmp (v:=(vI 0)) O) (λw hw=>⟨by rw [hinv,Rat.div_def],hw.out⟩))))))))
theorem MU  :Instr.fill ([(0,3),(3,2)].toArray[·]?) (AB (0:Rat)).toArray []=some (AB (0:Rat)).toArray:=by kernel_rfl
theorem Ov (a:Rat) (w:World)  :Calls prog 28 #[(aG (AB a)),(aG (AB (0:Rat)))] w (AY w (Value.tuple #[(aG (AB (0:Rat))),(vI 5)])):=by
 refine AS (args:=[(aG (AB a)),(aG (AB (0:Rat)))]) func28 O O (leB O) (zG (sL [0,1] O) (q4 (A9 (cs:=AB a) O λb1=>A9 (cs:=AB (0:Rat)) O λb2=>al CZ O λb3=>asg' O (q6 (sL [2,3,4,5] O) (q4 (Ah 1 Ay O (ck' call63 (DQ (0:Rat)) O (st' (Az (c:=(decide (((0:Rat).num.sign)=(0:Int)))) O O O) O ?_))))))))
 refine oNl' (zB (sL [2,3,4,5,9] O) (zA ?_))
 refine zK O (λhc0=>?_) (λhc0=>?_)
 ·replace hc0:=xR hc0
  exact q4 (st' (v:=(aG (AB (0:Rat)))) (AR (zs:=AB (0:Rat)) (vs:=AB (0:Rat)) (pv:=[]) (places:=[(0,3),(3,2)]) zeroValue60 underlying60 (λw=>by simp [sizeOf54,sizeOf58]) O (MU )) O (Am O sizeOf60 O (asg' O (oNl' (zB (sL [2,3,4,5] O) (zA (zF (zH (Bf O (Aa (i:=0) (cs:=AB (0:Rat)) O O isAgg60 sizeOf60 O) (rd_tmp (v:=(vI 5)) O) (λw hw=>⟨rfl,hw.out⟩))))))))))
 ·replace hc0:=xQ hc0
  exact absurd O hc0
theorem Eo (z:Int) (hz:-9223372036854775808<=z) (hz2:z<9223372036854775808) (w:World)  :Calls prog 17 #[(vI z)] w (AY w (aG (AB ((z:Int):Rat)))):=by
 refine AS (args:=[(vI z)]) func17 O O (leB O) (zG (sL [0] O) (q4 (al CZ O λb1=>oNl' (q2 (AL O (ck' call34 (aJ z Z Z) O (ck' call33 (L0 z) O (Am O sizeOf60 O (oNl' (zB (sL [2] O) ?_))))))))))
 exact zA (zF (ret_one O (Aa (i:=0) (cs:=AB ((z:Int):Rat)) O O isAgg60 sizeOf60 O) (λw hw=>⟨rfl,hw.out⟩)))
end
section
instance:Add Pt:=⟨λa b=>⟨a.x+b.x,a.y+b.y⟩⟩
instance:Sub Pt:=⟨λa b=>⟨a.x-b.x,a.y-b.y⟩⟩
def Bg (a:Pt) (k:Rat):Pt:=⟨a.x*k,a.y*k⟩
def A8 (a b:Pt):Rat:=a.x*b.y-a.y*b.x
def Cq (a b:Pt):Rat:=a.x*b.x+a.y*b.y
def AF (a b c:Pt):Rat:=A8 (b-a) (c-a)
def BD (p:Pt):Nat:=max (Sz p.x) (Sz p.y)
theorem Ca (p:Pt):Sz p.x<=BD p:=Nat.le_max_left ..
theorem Cb (p:Pt):Sz p.y<=BD p:=Nat.le_max_right ..
theorem NK {p:Pt} {k:Nat} (h1:Sz p.x<=k) (h2:Sz p.y<=k):BD p<=k:=Nat.max_le.2 ⟨h1,h2⟩
theorem GP (a b:Pt):BD (a+b)<=BD a+BD b+1:=by
  have h1:=Ca a;have h2:=Cb a;have h3:=Ca b;have h4:=Cb b
  refine NK ?_ ?_
  · exact xK (DY a.x b.x) Z
  · exact xK (DY a.y b.y) Z
theorem Bi (a b:Pt):BD (a-b)<=BD a+BD b+1:=by
  have h1:=Ca a;have h2:=Cb a;have h3:=Ca b;have h4:=Cb b
  refine NK ?_ ?_
  · exact xK (EK a.x b.x) Z
  · exact xK (EK a.y b.y) Z
theorem Ef (a:Pt) (k:Rat):BD (Bg a k)<=BD a+Sz k:=by
  have h1:=Ca a;have h2:=Cb a
  refine NK ?_ ?_
  · exact xK (CU a.x k) Z
  · exact xK (CU a.y k) Z
theorem Eq (a b:Pt):Sz (A8 a b)<=2*BD a+2*BD b+1:=by
  have h1:=Ca a;have h2:=Cb a;have h3:=Ca b;have h4:=Cb b
  have h5:=CU a.x b.y;have h6:=CU a.y b.x
  exact xK (EK _ _) Z
theorem GR (a b:Pt):Sz (Cq a b)<=2*BD a+2*BD b+1:=by
  have h1:=Ca a;have h2:=Cb a;have h3:=Ca b;have h4:=Cb b
  have h5:=CU a.x b.x;have h6:=CU a.y b.y
  exact xK (DY _ _) Z
theorem EM (a b c:Pt):Sz (AF a b c)<=4*BD a+2*BD b+2*BD c+5:=by
  have h1:=Bi b a;have h2:=Bi c a
  exact xK (Eq _ _) Z
theorem XU:Sz (1/2:Rat)<=1:=by decide +kernel
theorem H3 {z:Int} (h1:-9223372036854775808<=z) (h2:z<9223372036854775808):Sz ((z:Int):Rat)<=2:=ZT (Ii (by show z.natAbs<_;omega)) (by show nw 1<=2;rw [JR];omega)
theorem Yg (a b:Pt):Ae (a+b)=AB (a.x+b.x)++AB (a.y+b.y):=rfl
theorem Yh (a b:Pt):Ae (a-b)=AB (a.x-b.x)++AB (a.y-b.y):=rfl
theorem TV (a:Pt) (k:Rat):Ae (Bg a k)=AB (a.x*k)++AB (a.y*k):=rfl
theorem ao (x y:Rat):Ae ⟨x,y⟩=AB x++AB y:=rfl
section
variable {P:Program} {Q:Exit->Act->World->Prop} {n:Nat} {F:List (Nat×Value)} {w0:Av} {L:List As} {c:Code}
def IQ (P:Program) (c:Code) (Q:Exit->Act->World->Prop) (k n:Nat) (F:List (Nat×Value)) (w0:Av) (L:List As):Prop:=∀a w,CP n a F->A6 w0 w L->Code.rounds P c Q k a w
theorem yB (k:Nat) (h:IQ P c Q k n F w0 L):OkC P (.loop c) Q n F w0 L:=λa w ha hw=>wp_loop_rounds k (h a w ha hw)
theorem zj {k:Nat} (h:OkC P c (Exit.then (Code.rounds P c Q k) Q) n F w0 L):IQ P c Q (k+1) n F w0 L:=λa w ha hw=>by
  rw [rounds_succ];exact h a w ha hw
theorem z7 {k:Nat} (h:IQ P c Q k n F w0 L):OkQ (Exit.then (Code.rounds P c Q k) Q) .normal n F w0 L:=h
end
end
section
set_option maxRecDepth 100000
theorem B0 (x0:Rat) (x1:Rat):Instr.fill ([(0,5),(5,5)].toArray[·]?) (Ae (⟨0,0⟩:Pt)).toArray [(0,.agg (AB x0).toArray),(1,.agg (AB x1).toArray)]=some (AB x0++AB x1).toArray:=by kernel_rfl
theorem OV (a b:Pt) (hs:BD a+BD b<=68719476736) (w:World)  :Calls prog 78 #[(aG (Ae a)),(aG (Ae b)),(Value.func (.func 31) #[] #[])] w (AY w (aG (Ae (a+b)))):=by
 have p1:=Ca a
 have p2:=Cb a
 have p3:=Ca b
 have p4:=Cb b
 refine AS (args:=[(aG (Ae a)),(aG (Ae b)),(Value.func (.func 31) #[] #[])]) func78 O O (leB O) (zG (sL [0,1,2] O) (q4 (A9 (cs:=Ae a) O λb1=>A9 (cs:=Ae b) O λb2=>al E6 O λb3=>q6 (sL [2,3,4,6] O) (B8 (Ed 5++[(6,true),(7,true),(8,true),(9,true),(10,true),(5,false),(11,false),(12,true),(13,false)]) (sl sr) (Bq O (Ao (v:=(pP b1 0)) O (AA O underlying62 O sizeOf60 O) (Dd 1 (AB a.x) Ay O (Ao (v:=(pP b2 0)) O (AA O underlying62 O sizeOf60 O) ?_))))))))
 refine Dd 0 (AB b.x) Ay O (Bq O (Ao (v:=(pP b1 5)) O (AA O underlying62 O sizeOf60 O) (Dd 1 (AB a.y) Ay O (Ao (v:=(pP b2 5)) O (AA O underlying62 O sizeOf60 O) (Dd 0 (AB b.y) Ay O (zD O ?_))))))
 have hz1:=DY a.x b.x
 refine ck' call31 (Ga a.x b.x (by (try simp only [BE]);omega)) O (zC (sl sr) (zD O ?_))
 have hz2:=DY a.y b.y
 exact ck' call31 (Ga a.y b.y (by (try simp only [BE]);omega)) O (zC (sl sr) (Ao (v:=(aG (AB (a.x+b.x)++AB (a.y+b.y)))) O (AR (zs:=Ae (⟨0,0⟩:Pt)) (vs:=AB (a.x+b.x)++AB (a.y+b.y)) (pv:=[(0,(aG (AB (a.x+b.x)))),(1,(aG (AB (a.y+b.y))))]) (places:=[(0,5),(5,5)]) zeroValue62 underlying62 (λw=>by simp [sizeOf60]) O (B0 (a.x+b.x) (a.y+b.y))) (zD O (Am O sizeOf62 O (zC (sl sr) (zP (zB (sL [6] O) (zA (zF (ret_one O (Aa (i:=0) (cs:=AB (a.x+b.x)++AB (a.y+b.y)) O O isAgg62 sizeOf62 O) (λw hw=>⟨by rw [Yg],hw.out⟩)))))))))))
theorem OW (a b:Pt) (hs:BD a+BD b<=68719476736) (w:World)  :Calls prog 78 #[(aG (Ae a)),(aG (Ae b)),(Value.func (.func 16) #[] #[])] w (AY w (aG (Ae (a-b)))):=by
 have p1:=Ca a
 have p2:=Cb a
 have p3:=Ca b
 have p4:=Cb b
 refine AS (args:=[(aG (Ae a)),(aG (Ae b)),(Value.func (.func 16) #[] #[])]) func78 O O (leB O) (zG (sL [0,1,2] O) (q4 (A9 (cs:=Ae a) O λb1=>A9 (cs:=Ae b) O λb2=>al E6 O λb3=>q6 (sL [2,3,4,6] O) (B8 (Ed 5++[(6,true),(7,true),(8,true),(9,true),(10,true),(5,false),(11,false),(12,true),(13,false)]) (sl sr) (Bq O (Ao (v:=(pP b1 0)) O (AA O underlying62 O sizeOf60 O) (Dd 1 (AB a.x) Ay O (Ao (v:=(pP b2 0)) O (AA O underlying62 O sizeOf60 O) ?_))))))))
 refine Dd 0 (AB b.x) Ay O (Bq O (Ao (v:=(pP b1 5)) O (AA O underlying62 O sizeOf60 O) (Dd 1 (AB a.y) Ay O (Ao (v:=(pP b2 5)) O (AA O underlying62 O sizeOf60 O) (Dd 0 (AB b.y) Ay O (zD O ?_))))))
 have hz1:=EK a.x b.x
 refine ck' call16 (Gb a.x b.x (by (try simp only [BE]);omega)) O (zC (sl sr) (zD O ?_))
 have hz2:=EK a.y b.y
 exact ck' call16 (Gb a.y b.y (by (try simp only [BE]);omega)) O (zC (sl sr) (Ao (v:=(aG (AB (a.x-b.x)++AB (a.y-b.y)))) O (AR (zs:=Ae (⟨0,0⟩:Pt)) (vs:=AB (a.x-b.x)++AB (a.y-b.y)) (pv:=[(0,(aG (AB (a.x-b.x)))),(1,(aG (AB (a.y-b.y))))]) (places:=[(0,5),(5,5)]) zeroValue62 underlying62 (λw=>by simp [sizeOf60]) O (B0 (a.x-b.x) (a.y-b.y))) (zD O (Am O sizeOf62 O (zC (sl sr) (zP (zB (sL [6] O) (zA (zF (ret_one O (Aa (i:=0) (cs:=AB (a.x-b.x)++AB (a.y-b.y)) O O isAgg62 sizeOf62 O) (λw hw=>⟨by rw [Yh],hw.out⟩)))))))))))
theorem M8 (x y k:Rat) (bk:Nat) (hs:Sz x+Sz k<=137438953472) (w:World) (hk:w.heap[bk]?=some (.cells (AB k).toArray 60 (0,0))):Calls prog 79 #[(aG (AB x)),(aG (AB y)),(pP bk 0)] w (AY w (aG (AB (x*k)))):=by
 refine AS (args:=[(aG (AB x)),(aG (AB y)),(pP bk 0)]) func79 O O (leB O) (zG (sL [0,1,2] O) (q4 (A9 (cs:=AB x) O λb1=>A9 (cs:=AB y) O λb2=>al CZ O λb3=>q3 (sL [2,3,5] O) (Ah 2 Ay O (st' (v:=(aG (AB k))) (FQ (vs:=AB k) O (λw' hw=>hw.oldCA jX (E3 hk)) isAgg60 sizeOf60 O) O ?_)))))
 have hz1:=CU x k
 exact ck' call39 (E_ x k (by (try simp only [BE]);omega)) O (Am O sizeOf60 O (oNl' (zB (sL [5] O) (zA (zF (ret_one O (Aa (i:=0) (cs:=AB (x*k)) O O isAgg60 sizeOf60 O) (λw hw=>⟨rfl,hw.out⟩)))))))
theorem MD (a:Pt) (k:Rat) (bk:Nat) (hs:BD a+Sz k<=137438953472) (w:World) (hk:w.heap[bk]?=some (.cells (AB k).toArray 60 (0,0))):Calls prog 78 #[(aG (Ae a)),(aG (Ae a)),(Value.func (.func 79) #[] #[(pP bk 0)])] w (AY w (aG (Ae (Bg a k)))):=by
 have p1:=Ca a
 have p2:=Cb a
 refine AS (args:=[(aG (Ae a)),(aG (Ae a)),(Value.func (.func 79) #[] #[(pP bk 0)])]) func78 O O (leB O) (zG (sL [0,1,2] O) (q4 (A9 (cs:=Ae a) O λb1=>A9 (cs:=Ae a) O λb2=>al E6 O λb3=>q6 (sL [2,3,4,6] O) (B8 (Ed 5++[(6,true),(7,true),(8,true),(9,true),(10,true),(5,false),(11,false),(12,true),(13,false)]) (sl sr) (Bq O (Ao (v:=(pP b1 0)) O (AA O underlying62 O sizeOf60 O) (Dd 1 (AB a.x) Ay O (Ao (v:=(pP b2 0)) O (AA O underlying62 O sizeOf60 O) ?_))))))))
 refine Dd 0 (AB a.x) Ay O (Bq O (Ao (v:=(pP b1 5)) O (AA O underlying62 O sizeOf60 O) (Dd 1 (AB a.y) Ay O (Ao (v:=(pP b2 5)) O (AA O underlying62 O sizeOf60 O) (Dd 0 (AB a.y) Ay O (zD O (zc (v:=(aG (AB (a.x*k)))) (AJ O) (Ik (args:=[(aG (AB a.x)),(aG (AB a.x))]) (caps:=[(pP bk 0)]) (all:=[(aG (AB a.x)),(aG (AB a.x)),(pP bk 0)]) O O O call79) (λw hw=>M8 a.x a.x k bk Z w (hw.old jX hk)) O (leB O) (zC (sl sr) (zD O (zc (v:=(aG (AB (a.y*k)))) (AJ O) (Ik (args:=[(aG (AB a.y)),(aG (AB a.y))]) (caps:=[(pP bk 0)]) (all:=[(aG (AB a.y)),(aG (AB a.y)),(pP bk 0)]) O O O call79) (λw hw=>M8 a.y a.y k bk Z w (hw.old jX hk)) O (leB O) (zC (sl sr) ?_)))))))))))
 exact Ao (v:=(aG (AB (a.x*k)++AB (a.y*k)))) O (AR (zs:=Ae (⟨0,0⟩:Pt)) (vs:=AB (a.x*k)++AB (a.y*k)) (pv:=[(0,(aG (AB (a.x*k)))),(1,(aG (AB (a.y*k))))]) (places:=[(0,5),(5,5)]) zeroValue62 underlying62 (λw=>by simp [sizeOf60]) O (B0 (a.x*k) (a.y*k))) (zD O (Am O sizeOf62 O (zC (sl sr) (zP (zB (sL [6] O) (zA (zF (ret_one O (Aa (i:=0) (cs:=AB (a.x*k)++AB (a.y*k)) O O isAgg62 sizeOf62 O) (λw hw=>⟨by rw [TV],hw.out⟩)))))))))
theorem Nq (a b:Pt) (hs:BD a+BD b<=68719476736) (w:World)  :Calls prog 36 #[(aG (Ae a)),(aG (Ae b))] w (AY w (aG (Ae (a+b)))):=by
 refine AS (args:=[(aG (Ae a)),(aG (Ae b))]) func36 O O (leB O) (zG (sL [0,1] O) (q4 (A9 (cs:=Ae a) O λb1=>A9 (cs:=Ae b) O λb2=>al E6 O λb3=>q3 (sL [2,3,4] O) (Ah 2 A_ O (Ah 1 A_ O (ck' call78 (OV a b Z) O (Am O sizeOf62 O (oNl' ?_))))))))
 exact zB (sL [4] O) (zA (zF (ret_one O (Aa (i:=0) (cs:=Ae (a+b)) O O isAgg62 sizeOf62 O) (λw hw=>⟨rfl,hw.out⟩))))
theorem Ho (a b:Pt) (hs:BD a+BD b<=68719476736) (w:World)  :Calls prog 38 #[(aG (Ae a)),(aG (Ae b))] w (AY w (aG (Ae (a-b)))):=by
 refine AS (args:=[(aG (Ae a)),(aG (Ae b))]) func38 O O (leB O) (zG (sL [0,1] O) (q4 (A9 (cs:=Ae a) O λb1=>A9 (cs:=Ae b) O λb2=>al E6 O λb3=>q3 (sL [2,3,4] O) (Ah 2 A_ O (Ah 1 A_ O (ck' call78 (OW a b Z) O (Am O sizeOf62 O (oNl' ?_))))))))
 exact zB (sL [4] O) (zA (zF (ret_one O (Aa (i:=0) (cs:=Ae (a-b)) O O isAgg62 sizeOf62 O) (λw hw=>⟨rfl,hw.out⟩))))
theorem JS (a:Pt) (k:Rat) (hs:BD a+Sz k<=137438953472) (w:World)  :Calls prog 37 #[(aG (Ae a)),(aG (AB k))] w (AY w (aG (Ae (Bg a k)))):=by
 refine AS (args:=[(aG (Ae a)),(aG (AB k))]) func37 O O (leB O) (zG (sL [0,1] O) (q4 (A9 (cs:=Ae a) O λb1=>A9 (cs:=AB k) O λb2=>al E6 O λb3=>q3 (sL [2,3,4] O) (Ah 2 A_ O (Ah 2 A_ O (st' (v:=(Value.func (.func 79) #[] #[(pP b2 0)])) (Er (vs:=[]) (us:=[(pP b2 0)]) O O) O (CC call78 (λw hw=>MD a k b2 Z w (hw.get (i:=1) O)) O (Am O sizeOf62 O ?_))))))))
 exact oNl' (zB (sL [4] O) (zA (zF (ret_one O (Aa (i:=0) (cs:=Ae (Bg a k)) O O isAgg62 sizeOf62 O) (λw hw=>⟨rfl,hw.out⟩)))))
theorem TR (a b:Pt) (hs:BD a+BD b<=68719476736) (w:World)  :Calls prog 172 #[(aG (Ae a)),(aG (Ae b))] w (AY w (aG (AB (A8 a b)))):=by
 have p1:=Ca a
 have p2:=Cb a
 have p3:=Ca b
 have p4:=Cb b
 refine AS (args:=[(aG (Ae a)),(aG (Ae b))]) func172 O O (leB O) (zG (sL [0,1] O) (q4 (A9 (cs:=Ae a) O λb1=>A9 (cs:=Ae b) O λb2=>al CZ O λb3=>q6 (sL [2,3,4] O) (B8 (Ed 4++[(5,true),(6,true),(7,true),(8,true),(4,false),(9,false),(10,false),(11,false)]) (sl sr) (Ao (v:=(pP b1 0)) O (AA O underlying62 O sizeOf60 O) (Dd 1 (AB a.x) Ay O (Ao (v:=(pP b2 5)) O (AA O underlying62 O sizeOf60 O) (Dd 0 (AB b.y) Ay O ?_))))))))
 refine Ao (v:=(pP b1 5)) O (AA O underlying62 O sizeOf60 O) (Dd 1 (AB a.y) Ay O (Ao (v:=(pP b2 0)) O (AA O underlying62 O sizeOf60 O) (Dd 0 (AB b.x) Ay O (zD O ?_))))
 have hz1:=CU a.x b.y
 refine ck' call39 (E_ a.x b.y (by (try simp only [BE]);omega)) O (zC (sl sr) (zD O ?_))
 have hz2:=CU a.y b.x
 refine ck' call39 (E_ a.y b.x (by (try simp only [BE]);omega)) O (zC (sl sr) (zD O ?_))
 have hz3:=EK (a.x*b.y) (a.y*b.x)
 exact ck' call16 (Gb (a.x*b.y) (a.y*b.x) (by (try simp only [BE]);omega)) O (zC (sl sr) (zD O (Am O sizeOf60 O (zC (sl sr) (zP (zB (sL [4] O) (zA (zF (ret_one O (Aa (i:=0) (cs:=AB ((a.x*b.y)-(a.y*b.x))) O O isAgg60 sizeOf60 O) (λw hw=>⟨rfl,hw.out⟩))))))))))
theorem YW (a b:Pt) (hs:BD a+BD b<=68719476736) (w:World)  :Calls prog 106 #[(aG (Ae a)),(aG (Ae b))] w (AY w (aG (AB (Cq a b)))):=by
 have p1:=Ca a
 have p2:=Cb a
 have p3:=Ca b
 have p4:=Cb b
 refine AS (args:=[(aG (Ae a)),(aG (Ae b))]) func106 O O (leB O) (zG (sL [0,1] O) (q4 (A9 (cs:=Ae a) O λb1=>A9 (cs:=Ae b) O λb2=>al CZ O λb3=>q6 (sL [2,3,4] O) (B8 (Ed 4++[(5,true),(6,true),(7,true),(8,true),(4,false),(9,false),(10,false),(11,false)]) (sl sr) (Ao (v:=(pP b1 0)) O (AA O underlying62 O sizeOf60 O) (Dd 1 (AB a.x) Ay O (Ao (v:=(pP b2 0)) O (AA O underlying62 O sizeOf60 O) (Dd 0 (AB b.x) Ay O ?_))))))))
 refine Ao (v:=(pP b1 5)) O (AA O underlying62 O sizeOf60 O) (Dd 1 (AB a.y) Ay O (Ao (v:=(pP b2 5)) O (AA O underlying62 O sizeOf60 O) (Dd 0 (AB b.y) Ay O (zD O ?_))))
 have hz1:=CU a.x b.x
 refine ck' call39 (E_ a.x b.x (by (try simp only [BE]);omega)) O (zC (sl sr) (zD O ?_))
 have hz2:=CU a.y b.y
 refine ck' call39 (E_ a.y b.y (by (try simp only [BE]);omega)) O (zC (sl sr) (zD O ?_))
 have hz3:=DY (a.x*b.x) (a.y*b.y)
 exact ck' call31 (Ga (a.x*b.x) (a.y*b.y) (by (try simp only [BE]);omega)) O (zC (sl sr) (zD O (Am O sizeOf60 O (zC (sl sr) (zP (zB (sL [4] O) (zA (zF (ret_one O (Aa (i:=0) (cs:=AB ((a.x*b.x)+(a.y*b.y))) O O isAgg60 sizeOf60 O) (λw hw=>⟨rfl,hw.out⟩))))))))))
theorem Qh (a b:Pt) (hs:BD a+BD b<=17179869184) (w:World)  :Calls prog 57 #[(aG (Ae a)),(aG (Ae b))] w (AY w (aG (AB (Cq (b-a) (b-a))))):=by
 refine AS (args:=[(aG (Ae a)),(aG (Ae b))]) func57 O O (leB O) (zG (sL [0,1] O) (q4 (A9 (cs:=Ae a) O λb1=>A9 (cs:=Ae b) O λb2=>al CZ O λb3=>q3 (sL [2,3,4] O) (Ah 1 A_ O (Ah 2 A_ O ?_)))))
 have hz1:=Bi b a
 refine ck' call38 (Ho b a Z) O (al E6 O λb4=>Am O sizeOf62 O (q3 (sL [4,5] O) (Ah 0 A_ O (Ah 0 A_ O ?_))))
 have hz2:=GR (b-a) (b-a)
 exact ck' call106 (YW (b-a) (b-a) Z) O (DG O sizeOf60 O (oNl' (zB (sL [4,5] O) (zA (zF (ret_one O (Aa (i:=1) (cs:=AB (Cq (b-a) (b-a))) O O isAgg60 sizeOf60 O) (λw hw=>⟨rfl,hw.out⟩)))))))
theorem Il (x y:Int) (h1:-9223372036854775808<=x) (h2:x<9223372036854775808) (h3:-9223372036854775808<=y) (h4:y<9223372036854775808) (w:World)  :Calls prog 13 #[(vI x),(vI y)] w (AY w (aG (Ae (⟨((x:Int):Rat),((y:Int):Rat)⟩:Pt)))):=by
 refine AS (args:=[(vI x),(vI y)]) func13 O O (leB O) (zG (sL [0,1] O) (q4 (al E6 O λb1=>oNl' (q2 (AL O (ck' call17 (Eo x Z Z) O (AL O (ck' call17 (Eo y Z Z) O (st' (v:=(aG (AB ((x:Int):Rat)++AB ((y:Int):Rat)))) (AR (zs:=Ae (⟨0,0⟩:Pt)) (vs:=AB ((x:Int):Rat)++AB ((y:Int):Rat)) (pv:=[(0,(aG (AB ((x:Int):Rat)))),(1,(aG (AB ((y:Int):Rat))))]) (places:=[(0,5),(5,5)]) zeroValue62 underlying62 (λw=>by simp [sizeOf60]) O (B0 ((x:Int):Rat) ((y:Int):Rat))) O (Am O sizeOf62 O ?_))))))))))
 exact oNl' (zB (sL [4] O) (zA (zF (ret_one O (Aa (i:=0) (cs:=AB ((x:Int):Rat)++AB ((y:Int):Rat)) O O isAgg62 sizeOf62 O) (λw hw=>⟨by rw [ao],hw.out⟩)))))
end
end Go.Proofs.YtcpkbjjmcleplaaGreatDoor
