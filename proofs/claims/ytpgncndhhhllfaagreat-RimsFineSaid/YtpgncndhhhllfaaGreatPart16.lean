import Derived.ChangeKeysEq
import Derived.Test.YtpgncndhhhllfaaGreatRows
import Derived.Test.YtpgncndhhhllfaaGreatPart03
import Derived.Test.YtpgncndhhhllfaaGreatPart06
import Derived.Test.YtpgncndhhhllfaaGreatPart12
import Derived.Test.YtpgncndhhhllfaaGreatPart15
namespace Go.Proofs.YtpgncndhhhllfaaGreat
open Go Go.RowKit Go.Proofs.Tryz
set_option linter.unusedVariables false
set_option linter.unusedSimpArgs false
section
set_option maxRecDepth 100000
theorem FQ (x0:Int) (x1:Nat):Instr.fill ([(0,3),(3,2)].toArray[·]?) (BM (0:Rat)).toArray [(0,.agg (Bi x0).toArray),(1,.agg (Ag x1).toArray)]=some (Bi x0++Ag x1).toArray:=by kernel_rfl
theorem MV (n:Int) (d:Nat) (hn:nw n.natAbs<=1099511627776) (hd:nw d<=1099511627776) (hd0:d≠0) (w:World)  :Calls prog 92 #[(aG (Bi n)),(aG (Ag d))] w (A9 w (aG (BM (mkRat n d)))):=by
 have hg:Nat.gcd n.natAbs d≠0:=λh=>hd0 (Nat.eq_zero_of_gcd_eq_zero_right h)
 have hgw:nw (Nat.gcd n.natAbs d)<=nw d:=Cu (Nat.gcd_le_right _ (Nat.pos_of_ne_zero hd0))
 have hqw:nw (d/Nat.gcd n.natAbs d)<=nw d:=Cu (Nat.div_le_self _ _)
 have h1w:=Ii
 refine Aq (args:=[(aG (Bi n)),(aG (Ag d))]) func92 O O (Ad O) (AE.subF (sL [0,1] O) (q4 (Ca (cs:=Bi n) O λb1=>Ca (cs:=Ag d) O λb2=>al Na O λb3=>q6 (sL [2,3,4] O) (rN [(0,true),(2,true),(1,false),(3,false)] [⟨4,5,58,Ag 0⟩] [(5,false)] sr (by kernel_rfl) (λ_ _ d _ _ h=>by cases d<;>exact h) (Ta O O GS O (WX)) O (Yw 2 Hw O (Yw 1 Cq O (DL.imp O λEF EL=>ck' call94 (NQ n) O ?_)))))))
 refine DL.back0 sr O (DL.imp O λEF EL=>ck' call111 (ZK n.natAbs d Z Z) O (DL.back0 sr O (DL.news1 λb4=>OkE.imp O (BN O sizeOf58 O (OkE.back (sl sr) (OkE.nil (OkQ.subF (sL [2,3,4,5] O) (q1 (rN [(0,true),(2,true),(1,false),(3,false),(4,true),(5,true),(6,true),(7,true)] [⟨8,6,58,Ag 0⟩,⟨9,7,58,Ag 0⟩] [(10,false),(11,false),(12,true)] sr (by kernel_rfl) (λ_ _ d _ _ h=>by cases d<;>exact h) (Ta O O GS O (Ta O O GS O (WX))) O ?_)))))))))
 refine Yw 3 Hw O (Yw 0 Cq O (DL.imp O λEF EL=>ck' call94 (NQ n) O (DL.back0 sr O (DL.imp O λEF EL=>ck' call112 (QE n.natAbs (Nat.gcd n.natAbs d) Z Z Z) O (DL.back0 sr O (ci O (TM O (Ab (v:=(aG (Ag (n.natAbs/(Nat.gcd n.natAbs d))))) O O) O (TM O (Ab (v:=(aG (Ag (n.natAbs%(Nat.gcd n.natAbs d))))) O O) O (TM O (Ab (v:=(Value.bool true)) O O) O ?_)))))))))
 refine DL.news2 λb5 b6=>OkE.imp O (BN O sizeOf58 O (OkE.back (sl (sl sr)) (OkE.imp O (Ed O sizeOf58 O (OkE.back (sl (sl sr)) (pS' O (OkE.nil (OkQ.subF (sL [2,3,4,5,6] O) (q2 (BF 4 Cq O ?_))))))))))
 refine BF 2 Cq O (ck' call112 (QE d (Nat.gcd n.natAbs d) Z Z Z) O (AM O (AJ (Ab (v:=(aG (Ag (d/(Nat.gcd n.natAbs d))))) O O) O (AJ (Ab (v:=(aG (Ag (d%(Nat.gcd n.natAbs d))))) O O) O (AJ (Ab (v:=(Value.bool true)) O O) O (al GS O λb7=>al GS O λb8=>Ed O sizeOf58 O (BN O sizeOf58 O (AI O (q6 (sL [2,3,4,5,6,9] O) ?_)))))))))
 refine rC [(0,true),(1,false),(2,false),(3,true),(4,true),(5,true)] 6 [] sr (sk (sl sr)) (by kernel_rfl) (λ_ _ d _ _ h=>by cases d<;>exact h) (vE (v:=(aG (Ag (d/(Nat.gcd n.natAbs d))))) O (BB (i:=1) (vs:=Ag (d/(Nat.gcd n.natAbs d))) O O Cq.a Cq.s O O) O (Cj.imp O (ck' call90 (Jy 1 Z) O (Cj.back sr (Cj.imp O (ck' call113 (Zg (d/(Nat.gcd n.natAbs d)) 1 Z Z) O (Cj.back sr (vM O O O (vE O (Ab (v:=(aG (Ag ((d/(Nat.gcd n.natAbs d))-1)))) O O) O (vE O (Ab (v:=(Value.bool (decide (1<=d/(Nat.gcd n.natAbs d))))) O O) O (Cj.cut O ?_)))))))))))
 refine Ed O sizeOf58 O (OkE.back (sk (sl sr)) (OkE.nil (OkQ.subF (sL [2,3,4,5,6,9] O) (q1 (Ck [(0,true),(3,true),(5,true),(1,false),(2,true),(4,false),(6,true),(7,false)] (sk (sk (sk (sk (sk (sl sr)))))) (G6 6 Hw O (G6 2 Cq O (G6 1 Cq O (OkE.imp O (ck' call110 (Oe n) O (OkE.back (sk (sk (sk (sk (sk (sl sr)))))) ?_)))))))))))
 exact Ao O (Ac (c:=(decide (n.sign<(0:Int)))) O O O) (OkE.imp O (ck' call89 (H4 (decide (n.sign<(0:Int))) (n.natAbs/(Nat.gcd n.natAbs d))) O (OkE.back (sk (sk (sk (sk (sk (sl sr)))))) (Ao (v:=(aG (Bi (E_ (decide (n.sign<(0:Int))) (n.natAbs/(Nat.gcd n.natAbs d)))++Ag ((d/(Nat.gcd n.natAbs d))-1)))) O (AY (zs:=BM (0:Rat)) (vs:=Bi (E_ (decide (n.sign<(0:Int))) (n.natAbs/(Nat.gcd n.natAbs d)))++Ag ((d/(Nat.gcd n.natAbs d))-1)) (pv:=[(0,(aG (Bi (E_ (decide (n.sign<(0:Int))) (n.natAbs/(Nat.gcd n.natAbs d)))))),(1,(aG (Ag ((d/(Nat.gcd n.natAbs d))-1))))]) (places:=[(0,3),(3,2)]) zeroValue64 underlying64 (λw=>by simp [sizeOf58,sizeOf62]) O (FQ (E_ (decide (n.sign<(0:Int))) (n.natAbs/(Nat.gcd n.natAbs d))) ((d/(Nat.gcd n.natAbs d))-1))) (OkE.imp O (F2 5 (off:=0) (vs:=Bi (E_ (decide (n.sign<(0:Int))) (n.natAbs/(Nat.gcd n.natAbs d)))++Ag ((d/(Nat.gcd n.natAbs d))-1)) (cs':=Bi (E_ (decide (n.sign<(0:Int))) (n.natAbs/(Nat.gcd n.natAbs d)))++Ag ((d/(Nat.gcd n.natAbs d))-1)) (AP O) O sizeOf64 O (OkE.back (sk (sk (sk (sk (sk (sl sr)))))) (OkE.nil (OkQ.subF (sL [2,3,4,5,6,9] O) (OkQ.then_ (AE.ret (AV O (BP (i:=5) (cs:=Bi (E_ (decide (n.sign<(0:Int))) (n.natAbs/(Nat.gcd n.natAbs d)))++Ag ((d/(Nat.gcd n.natAbs d))-1)) O O isAgg64 sizeOf64 O) (λw hw=>⟨by rw [OQ,R8 hd0,Q7 hd0],hw.out⟩)))))))))))))
theorem HJ (x0:Int):Instr.fill ([(0,3),(3,2)].toArray[·]?) (BM (0:Rat)).toArray [(0,.agg (Bi x0).toArray)]=some (Bi x0++Ag ((0:Rat).den-1)).toArray:=by kernel_rfl
theorem Np (n:Int) (w:World)  :Calls prog 65 #[(aG (Bi n))] w (A9 w (aG (BM ((n:Int):Rat)))):=by
 refine Aq (args:=[(aG (Bi n))]) func65 O O (Ad O) (AE.subF (sL [0] O) (q4 (Ca (cs:=Bi n) O λb1=>al Na O λb2=>q3 (sL [1,2] O) (BF 1 Hw O (AJ (v:=(aG (Bi n++Ag ((0:Rat).den-1)))) (AY (zs:=BM (0:Rat)) (vs:=Bi n++Ag ((0:Rat).den-1)) (pv:=[(0,(aG (Bi n)))]) (places:=[(0,3),(3,2)]) zeroValue64 underlying64 (λw=>by simp [sizeOf58,sizeOf62]) O (HJ n)) O (BN O sizeOf64 O (AC.nil (OkQ.subF (sL [2] O) (OkQ.then_ ?_)))))))))
 exact AE.ret (AV O (BP (i:=0) (cs:=Bi n++Ag ((0:Rat).den-1)) O O isAgg64 sizeOf64 O) (λw hw=>⟨rfl,hw.out⟩))
theorem LS  :Instr.fill ([(0,1),(1,1)].toArray[·]?) (Ag 0).toArray []=some (Ag 0).toArray:=by kernel_rfl
theorem N1 (a:Rat) (w:World)  :Calls prog 115 #[(aG (BM a))] w (A9 w (Value.bool (decide (a.den-1=0)))):=by
 refine Aq (args:=[(aG (BM a))]) func115 O O (Ad O) (AE.subF (sL [0] O) (q4 (Ca (cs:=BM a) O λb1=>AI O (q3 (sL [1,2] O) (AJ (v:=(pP b1 3)) (AB O underlying64 O sizeOf58 O) O (Pi 0 (Ag (a.den-1)) Cq O (AJ (v:=(aG (Ag 0))) (AY (zs:=Ag 0) (vs:=Ag 0) (pv:=[]) (places:=[(0,1),(1,1)]) zeroValue58 underlying58 (λw=>by simp [sizeOf9,sizeOf56]) O (LS )) O (AJ (DK (c:=(decide (a.den-1=0))) O O eqGuardType58 (Mw 9998 (a.den-1) 0)) O (AI O (AC.nil ?_))))))))))
 exact OkQ.subF (sL [2] O) (OkQ.then_ (AE.ret (AV O (Ah (v:=(Value.bool (decide (a.den-1=0)))) O) (λw hw=>⟨rfl,hw.out⟩))))
theorem QK (a:Rat) (ha:nw a.den<=1099511627776) (w:World)  :Calls prog 93 #[(aG (BM a))] w (A9 w (aG (Ag a.den))):=by
 have h1w:=Ii
 have h2w:=Cu (Nat.sub_le a.den 1)
 refine Aq (args:=[(aG (BM a))]) func93 O O (Ad O) (AE.subF (sL [0] O) (q4 (Ca (cs:=BM a) O λb1=>al GS O λb2=>q6 (sL [1,2] O) (Ck [(0,true),(1,true),(2,false),(3,false),(4,false)] (sl sr) (Ao (v:=(pP b1 3)) O (AB O underlying64 O sizeOf58 O) (Tu 0 (Ag (a.den-1)) Cq O (OkE.imp O (ck' call90 (Jy 1 Z) O (OkE.back (sl sr) ?_)))))))))
 exact OkE.imp O (ck' call114 (aE (a.den-1) 1 Z Z) O (OkE.back (sl sr) (OkE.imp O (BN O sizeOf58 O (OkE.back (sl sr) (OkE.nil (OkQ.subF (sL [2] O) (OkQ.then_ (AE.ret (AV O (BP (i:=0) (cs:=Ag ((a.den-1)+1)) O O isAgg58 sizeOf58 O) (λw hw=>⟨by rw [Nat.sub_add_cancel a.den_pos],hw.out⟩)))))))))))
theorem Oq (a:Rat) (w:World)  :Calls prog 91 #[(aG (BM a))] w (A9 w (vI a.num.sign)):=by
 refine Aq (args:=[(aG (BM a))]) func91 O O (Ad O) (AE.subF (sL [0] O) (q4 (Ca (cs:=BM a) O λb1=>AI O (q3 (sL [1,2] O) (AJ (v:=(pP b1 0)) (AB O underlying64 O sizeOf62 O) O (Pi 0 (Bi a.num) Hw O (ck' call110 (Oe a.num) O (AI O (AC.nil (OkQ.subF (sL [2] O) ?_))))))))))
 exact OkQ.then_ (AE.ret (AV O (Ah (v:=(vI a.num.sign)) O) (λw hw=>⟨rfl,hw.out⟩)))
theorem X4 (a b:Rat) (hs:Sz a+Sz b<=549755813888) (w:World)  :Calls prog 95 #[(aG (BM a)),(aG (BM b))] w (A9 w (aG (BM (a*b)))):=by
 have s1:=D_ a
 have s2:=Dd a
 have s3:=D_ b
 have s4:=Dd b
 have s5:=EI a b
 have s6:=EI b a
 have s7:=Ko a b
 have s8:=Kf a b
 have s9:=Gu a.num b.num
 have s10:=Gu (a.num*((b.den:Nat):Int)) (b.num*((a.den:Nat):Int))
 have hda:=a.den_nz
 have hdb:=b.den_nz
 have hdab:a.den*b.den≠0:=Nat.mul_ne_zero hda hdb
 refine Aq (args:=[(aG (BM a)),(aG (BM b))]) func95 O O (Ad O) (AE.subF (sL [0,1] O) (q4 (Ca (cs:=BM a) O λb1=>Ca (cs:=BM b) O λb2=>al Na O λb3=>q6 (sL [2,3,4] O) (q4 (BF 2 Kj O (ck' call115 (N1 a) O (AM O ?_)))))))
 refine AC.mid (FM:=[(2,(pP b1 0)),(3,(pP b2 0)),(4,(pP b3 0)),(5,(aG (BM a))),(6,(Value.bool (decide (a.den-1=0)))),(7,(Value.bool (decide (a.den-1=0)))),(10,(Value.bool ((decide (a.den-1=0))&&(decide (b.den-1=0)))))]) (LM:=[Af b3 64 (BM (0:Rat)),Af b2 64 (BM b),Af b1 64 (BM a)]) 3 ?_ ?_
 ·rcases Bool.eq_false_or_eq_true (decide (a.den-1=0)) with hg1|hg1
  ·skip
   refine AC.retell (k:=7) (u:=Value.bool true) O (by rw [hg1]) ?_
   have hg1':=hg1
   replace hg1':=of_decide_eq_true hg1'
   exact AC.step (v:=(aG (BM b))) (AA O) (BB (i:=1) (vs:=BM b) O O Kj.a Kj.s O O) O (Ad O) (AC.call (v:=(Value.bool (decide (b.den-1=0)))) (AA O) (A_ (args:=[(aG (BM b))]) O O call115) (λw hw=>N1 b w) O (Ad O) (AJ (v:=(Value.bool (decide (b.den-1=0)))) (AW O O) O (AC.nil (OkQ.mid (sS O (sS O (sS O (sS O (sS O (sS (by first|rfl|(rw [hg1];rfl)|rw [hg1]) (sS (by first|rfl|(rw [hg1];rfl)|rw [hg1]) (sN)))))))) (List.Sublist.refl _)))))
  ·skip
   refine AC.retell (k:=7) (u:=Value.bool false) O (by rw [hg1]) ?_
   have hg1':=hg1
   replace hg1':=of_decide_eq_false hg1'
   exact AC.skip (AH O) O (Ad O) (AC.skip (AH O) O (Ad O) (AJ (v:=(Value.bool false)) (AT O O) O (AC.nil (OkQ.mid (sS O (sS O (sS O (sS O (sS O (sS (by first|rfl|(rw [hg1];rfl)|rw [hg1]) (sS (by first|rfl|(rw [hg1];rfl)|rw [hg1]) (sN)))))))) (List.Sublist.refl _)))))
 refine AC.nil (OkQ.subF (sL [2,3,4,10] O) (OkQ.then_ ?_))
 refine AE.cond O (λhc0=>?_) (λhc0=>?_)
 ·simp only [Bool.and_eq_true,Bool.or_eq_true,Bool.and_eq_false_iff,Bool.or_eq_false_iff,Bool.not_eq_true',Bool.not_eq_false',decide_eq_true_eq,decide_eq_false_iff_not] at hc0
  have he:=TI hc0.1 hc0.2
  refine q4 (AJ (v:=(pP b1 0)) (AB O underlying64 O sizeOf62 O) O (Pi 2 (Bi a.num) Hw O (AJ (v:=(pP b2 0)) (AB O underlying64 O sizeOf62 O) O (Pi 1 (Bi b.num) Hw O (ck' call116 (RJ a.num b.num (by first|omega|(simp only [Int.natAbs_neg,B5,Int.natAbs_natCast];omega)) (by first|omega|(simp only [Int.natAbs_neg,B5,Int.natAbs_natCast];omega))) O (ck' call65 (Np (a.num*b.num)) O (BN O sizeOf64 O (AC.nil (OkQ.subF (sL [2,3,4] O) (OkQ.then_ (AE.ret ?_)))))))))))
  exact OkQ.then_ret (AV O (BP (i:=0) (cs:=BM ((a.num*b.num:Int):Rat)) O O isAgg64 sizeOf64 O) (λw hw=>⟨by rw [he],hw.out⟩))
 ·simp only [Bool.and_eq_true,Bool.or_eq_true,Bool.and_eq_false_iff,Bool.or_eq_false_iff,Bool.not_eq_true',Bool.not_eq_false',decide_eq_true_eq,decide_eq_false_iff_not] at hc0
  have he:=Iq a b
  refine AE.skip (q1 (Ck [(0,true),(1,true),(2,true),(3,true),(5,true),(7,true),(4,false),(6,false),(8,false),(9,false),(10,false),(11,false)] (sl sr) (Ao (v:=(pP b1 0)) O (AB O underlying64 O sizeOf62 O) (Tu 1 (Bi a.num) Hw O (Ao (v:=(pP b2 0)) O (AB O underlying64 O sizeOf62 O) (Tu 0 (Bi b.num) Hw O (G6 1 Kj O (G6 0 Kj O (OkE.imp O (ck' call116 (RJ a.num b.num (by first|omega|(simp only [Int.natAbs_neg,B5,Int.natAbs_natCast];omega)) (by first|omega|(simp only [Int.natAbs_neg,B5,Int.natAbs_natCast];omega))) O (OkE.back (sl sr) ?_)))))))))))
  refine OkE.imp O (ck' call93 (QK a Z) O (OkE.back (sl sr) (OkE.imp O (ck' call93 (QK b Z) O (OkE.back (sl sr) (OkE.imp O (ck' call117 (WL a.den b.den Z Z) O (OkE.back (sl sr) (OkE.imp O (ck' call92 (MV (a.num*b.num) (a.den*b.den) Z Z (by first|omega|assumption)) O (OkE.back (sl sr) ?_)))))))))))
  exact OkE.imp O (BN O sizeOf64 O (OkE.back (sl sr) (OkE.nil (OkQ.subF (sL [2,3,4] O) (OkQ.then_ (AE.ret (AV O (BP (i:=0) (cs:=BM (mkRat (a.num*b.num) (a.den*b.den))) O O isAgg64 sizeOf64 O) (λw hw=>⟨by rw [he],hw.out⟩))))))))
theorem YK (a b:Rat) (hs:Sz a+Sz b<=549755813888) (hb:b≠0) (w:World)  :Calls prog 67 #[(aG (BM a)),(aG (BM b))] w (A9 w (Value.tuple #[(aG (BM (a/b))),(vI 0)])):=by
 have s1:=D_ a
 have s2:=Dd a
 have s3:=D_ b
 have s4:=Dd b
 have s5:=EI a b
 have s6:=EI b a
 have s7:=Ko a b
 have s8:=Kf a b
 have s9:=Gu a.num b.num
 have s10:=Gu (a.num*((b.den:Nat):Int)) (b.num*((a.den:Nat):Int))
 have hda:=a.den_nz
 have hdb:=b.den_nz
 have hdab:a.den*b.den≠0:=Nat.mul_ne_zero hda hdb
 have hbn:b.num≠0:=λe=>hb (Rat.num_eq_zero.1 e)
 have hbs:b.num.sign≠0:=λe=>hbn (Int.sign_eq_zero_iff_zero.1 e)
 have hmi:nw (E_ (decide (b.num.sign<(0:Int))) b.den).natAbs=nw b.den:=by rw [B5]
 have hinv:=Ij hb
 have hsi:=Pv hb
 rw [<-hinv] at hsi
 refine Aq (args:=[(aG (BM a)),(aG (BM b))]) func67 O O (Ad O) (AE.subF (sL [0,1] O) (q4 (Ca (cs:=BM a) O λb1=>Ca (cs:=BM b) O λb2=>al Na O λb3=>AI O (q6 (sL [2,3,4,5] O) (q4 (BF 1 Kj O (ck' call91 (Oq b) O (AJ (BQ (c:=(decide (b.num.sign=(0:Int)))) O O O) O ?_))))))))
 refine AC.nil (OkQ.subF (sL [2,3,4,5,9] O) (OkQ.then_ ?_))
 refine AE.cond O (λhc0=>?_) (λhc0=>?_)
 ·replace hc0:=of_decide_eq_true hc0
  exact absurd hc0 hbs
 ·replace hc0:=of_decide_eq_false hc0
  refine AE.skip (q1 (rN [(0,true),(3,true),(6,true),(7,true),(1,false),(2,true),(4,false),(5,false),(8,false),(9,false)] [⟨10,6,64,BM (0:Rat)⟩] [(11,false)] sr (by kernel_rfl) (λ_ _ d _ _ h=>by cases d<;>exact h) (Ta O O Na O (WX)) O (Yw 1 Kj O (Yw 1 Kj O (TM (v:=(pP b2 0)) O (AB O underlying64 O sizeOf62 O) O (eg 1 (Bi b.num) Hw O (DL.imp O λEF EL=>ck' call91 (Oq b) O (DL.back0 sr O (TM O (Ac (c:=(decide (b.num.sign<(0:Int)))) O O O) O (DL.imp O λEF EL=>?_))))))))))
  refine ck' call93 (QK b Z) O (DL.back0 sr O (DL.imp O λEF EL=>ck' call89 (H4 (decide (b.num.sign<(0:Int))) b.den) O (DL.back0 sr O (DL.imp O λEF EL=>ck' call94 (NQ b.num) O (DL.back0 sr O (DL.imp O λEF EL=>ck' call92 (MV (E_ (decide (b.num.sign<(0:Int))) b.den) b.num.natAbs Z Z (by first|omega|assumption)) O (DL.back0 sr O (DL.news1 λb4=>?_))))))))
  refine OkE.imp O (BN O sizeOf64 O (OkE.back (sl sr) (OkE.nil (OkQ.subF (sL [2,3,4,5,6] O) (q2 (BF 3 Kj O (BF 0 Kj O ?_)))))))
  have hz1:=P7 a (mkRat (E_ (decide (b.num.sign<(0:Int))) b.den) b.num.natAbs)
  exact ck' call95 (X4 a (mkRat (E_ (decide (b.num.sign<(0:Int))) b.den) b.num.natAbs) (by (try simp only [Qb]);omega)) O (Ed O sizeOf64 O (AI O (AC.nil (OkQ.subF (sL [3,4,5,6] O) (OkQ.then_ (AE.ret (CH O (BP (i:=1) (cs:=BM (a*(mkRat (E_ (decide (b.num.sign<(0:Int))) b.den) b.num.natAbs))) O O isAgg64 sizeOf64 O) (Ah (v:=(vI 0)) O) (λw hw=>⟨by rw [hinv,Rat.div_def],hw.out⟩))))))))
theorem Jf (z:Int) (hz:-9223372036854775808<=z) (hz2:z<9223372036854775808) (w:World)  :Calls prog 50 #[(vI z)] w (A9 w (aG (BM ((z:Int):Rat)))):=by
 refine Aq (args:=[(vI z)]) func50 O O (Ad O) (AE.subF (sL [0] O) (q4 (al Na O λb1=>AC.nil (q2 (AM O (ck' call66 (Z7 z Z Z) O (ck' call65 (Np z) O (BN O sizeOf64 O (AC.nil (OkQ.subF (sL [2] O) ?_))))))))))
 exact OkQ.then_ (AE.ret (AV O (BP (i:=0) (cs:=BM ((z:Int):Rat)) O O isAgg64 sizeOf64 O) (λw hw=>⟨rfl,hw.out⟩)))
end
section
instance:Add Pt:=⟨λa b=>⟨a.x+b.x,a.y+b.y⟩⟩
instance:Sub Pt:=⟨λa b=>⟨a.x-b.x,a.y-b.y⟩⟩
def Y5 (a:Pt) (k:Rat):Pt:=⟨a.x*k,a.y*k⟩
def HM (a b:Pt):Rat:=a.x*b.y-a.y*b.x
def E2 (a b c:Pt):Rat:=HM (b-a) (c-a)
def dI (p:Pt):Nat:=max (Sz p.x) (Sz p.y)
theorem ZD {p:Pt} {k:Nat} (h1:Sz p.x<=k) (h2:Sz p.y<=k):dI p<=k:=Nat.max_le.2 ⟨h1,h2⟩
theorem Ia {z:Int} (h1:-9223372036854775808<=z) (h2:z<9223372036854775808):Sz ((z:Int):Rat)<=2:=Ys (Kc (by show z.natAbs<_;omega)) (by show nw 1<=2;rw [Ii];omega)
theorem Zo (x y:Rat):Bf ⟨x,y⟩=BM x++BM y:=rfl
section
variable {P:Program} {Q:Exit->Act->World->Prop} {n:Nat} {F:List (Nat×Value)} {w0:BL} {L:List As} {c:Code}
def Fr (P:Program) (c:Code) (Q:Exit->Act->World->Prop) (k n:Nat) (F:List (Nat×Value)) (w0:BL) (L:List As):Prop:=∀a w,C2 n a F->BS w0 w L->Code.rounds P c Q k a w
theorem AE.unroll (k:Nat) (h:Fr P c Q k n F w0 L):AE P (.loop c) Q n F w0 L:=λa w ha hw=>wp_loop_rounds k (h a w ha hw)
theorem Fr.step {k:Nat} (h:AE P c (Exit.then (Code.rounds P c Q k) Q) n F w0 L):Fr P c Q (k+1) n F w0 L:=λa w ha hw=>by
  rw [rounds_succ];exact h a w ha hw
theorem OkQ.again {k:Nat} (h:Fr P c Q k n F w0 L):OkQ (Exit.then (Code.rounds P c Q k) Q) .normal n F w0 L:=h
end
end
section
set_option maxRecDepth 100000
theorem Eo (x0:Rat) (x1:Rat):Instr.fill ([(0,5),(5,5)].toArray[·]?) (Bf (⟨0,0⟩:Pt)).toArray [(0,.agg (BM x0).toArray),(1,.agg (BM x1).toArray)]=some (BM x0++BM x1).toArray:=by kernel_rfl
theorem Gw (x y:Int) (h1:-9223372036854775808<=x) (h2:x<9223372036854775808) (h3:-9223372036854775808<=y) (h4:y<9223372036854775808) (w:World)  :Calls prog 29 #[(vI x),(vI y)] w (A9 w (aG (Bf (⟨((x:Int):Rat),((y:Int):Rat)⟩:Pt)))):=by
 refine Aq (args:=[(vI x),(vI y)]) func29 O O (Ad O) (AE.subF (sL [0,1] O) (q4 (al bW O λb1=>AC.nil (q2 (AM O (ck' call50 (Jf x Z Z) O (AM O (ck' call50 (Jf y Z Z) O (AJ (v:=(aG (BM ((x:Int):Rat)++BM ((y:Int):Rat)))) (AY (zs:=Bf (⟨0,0⟩:Pt)) (vs:=BM ((x:Int):Rat)++BM ((y:Int):Rat)) (pv:=[(0,(aG (BM ((x:Int):Rat)))),(1,(aG (BM ((y:Int):Rat))))]) (places:=[(0,5),(5,5)]) zeroValue66 underlying66 (λw=>by simp [sizeOf64]) O (Eo ((x:Int):Rat) ((y:Int):Rat))) O (BN O sizeOf66 O ?_))))))))))
 exact AC.nil (OkQ.subF (sL [4] O) (OkQ.then_ (AE.ret (AV O (BP (i:=0) (cs:=BM ((x:Int):Rat)++BM ((y:Int):Rat)) O O isAgg66 sizeOf66 O) (λw hw=>⟨by rw [Zo],hw.out⟩)))))
end
section
set_option maxRecDepth 100000
theorem aU (x y:Int) (h1:-9223372036854775808<=x) (h2:x<9223372036854775808) (h3:-9223372036854775808<=y) (h4:y<9223372036854775808) (hy:y≠0) (w:World)  :Calls prog 51 #[(vI x),(vI y)] w (A9 w (Value.tuple #[(aG (BM (((x:Int):Rat)/((y:Int):Rat)))),(vI 0)])):=by
 have hb:((y:Int):Rat)≠0:=λe=>hy (by exact_mod_cast e)
 have s1:=Ia h1 h2
 have s2:=Ia h3 h4
 refine Aq (args:=[(vI x),(vI y)]) func51 O O (Ad O) (AE.subF (sL [0,1] O) (q4 (al Na O λb1=>AI O (AC.nil (q2 (AM O (ck' call50 (Jf x Z Z) O (AM O (ck' call50 (Jf y Z Z) O ?_)))))))))
 have hz1:=QV (a:=((x:Int):Rat)) (b:=((y:Int):Rat)) (by assumption)
 exact ck' call67 (YK ((x:Int):Rat) ((y:Int):Rat) Z (by assumption)) O (AJ (Ab (v:=(aG (BM (((x:Int):Rat)/((y:Int):Rat))))) O O) O (AJ (Ab (v:=(vI 0)) O O) O (BN O sizeOf64 O (AI O (AC.nil (OkQ.subF (sL [4,5] O) (OkQ.then_ (AE.ret (CH O (BP (i:=0) (cs:=BM (((x:Int):Rat)/((y:Int):Rat))) O O isAgg64 sizeOf64 O) (Ah (v:=(vI 0)) O) (λw hw=>⟨rfl,hw.out⟩))))))))))
end
section
set_option maxRecDepth 100000
end

section
set_option maxRecDepth 100000
end
section
set_option maxRecDepth 100000
end
section
set_option maxRecDepth 100000
end
section
set_option maxRecDepth 100000
end
section
section
variable {P:Program} {n:Nat} {F:List (Nat×Value)} {w0:BL} {L:List As} {v:Value} {x:Operand} {d:Option Tmp} {t:TypeId} {p:String} {af:Array Edge} {g:Option (Nat×Bool)}
end
end
section
set_option maxRecDepth 100000
end
section
set_option maxRecDepth 100000
end
section
set_option maxRecDepth 100000
end
section
set_option maxRecDepth 100000
end
section
set_option maxRecDepth 100000
end
section
set_option maxRecDepth 100000
end
section
section
variable {P:Program} {n:Nat} {F:List (Nat×Value)} {w0:BL} {L:List As} {v:Value} {x lo hi:Operand} {d:Option Tmp} {t:TypeId} {p:String} {af:Array Edge} {g:Option (Nat×Bool)}
end
end
section
set_option maxRecDepth 100000
end
theorem Hn (a b c:Pt):E2 a b c=(b.x-a.x)*(c.y-a.y)-(b.y-a.y)*(c.x-a.x):=rfl
theorem Ma (a b:Pt):HM a b=a.x*b.y-a.y*b.x:=rfl
theorem Hm (a b c:Pt):E2 b c a=E2 a b c:=by simp only [Hn];grind
section
instance:DecidableEq Pt:=λa b=>decidable_of_iff (a.x=b.x/\a.y=b.y) ⟨λh=>Pt.ext h.1 h.2,λh=>h▸⟨rfl,rfl⟩⟩
section
variable {P:Program}
def XK (P:Program) (D:Nat) (e:TypeId) (c:Nat) (xs ys:List Value) (is:List Nat) (b:Bool):Prop:=∀w,(Go.Op.eqItems D e c xs.toArray ys.toArray is).run P w=.ok b w
theorem XK.nil {D c:Nat} {e:TypeId} {xs ys:List Value}:XK P D e c xs ys [] true:=λw=>rfl
theorem IK.array {D n c:Nat} {T e:TypeId} {xs ys:List Value} {b:Bool} (hu:P.underlying T=some (.array n e)) (hi:∃i,P.info? e=some i) (hc:P.cellsOf e=c) (h:XK P D e c xs ys (List.range n) b) :
    IK P (D+1) T (.agg xs.toArray) (.agg ys.toArray) b:=λw=>by
  obtain ⟨i,hi⟩:=hi
  rw [Go.run_equalIn_array w D xs.toArray ys.toArray hu hi,hc]
  exact h w
end
section
variable {P:Program} {n:Nat} {F:List (Nat×Value)} {w0:BL} {L:List As} {x y:Operand} {d:Option Tmp} {t:TypeId} {p:String} {af:Array Edge} {g:Option (Nat×Bool)}
end
end
section
structure QD where
  n:Int
  d:Nat
structure PD where
  x:QD
  y:QD
def Qj (q:QD):List Value:=[.int .i64 q.n,.int .u32 (q.d:Nat)]
def aO (p:PD):List Value:=Qj p.x++Qj p.y
def QD.ok (q:QD):Prop := -9223372036854775808<=q.n/\q.n<9223372036854775808/\q.d<4294967296
def PD.ok (p:PD):Prop:=p.x.ok/\p.y.ok
def Jr (q:QD):Rat:=((q.n:Int):Rat)/(((max q.d 1:Nat):Int):Rat)
def EQ (p:PD):Pt:=⟨Jr p.x,Jr p.y⟩
theorem UF {q:QD} (h:q.ok):Sz (Jr q)<=4:=by
  obtain ⟨h1,h2,h3⟩:=h
  have s1:=Ia h1 h2
  have s2:=Ia (z:=((max q.d 1:Nat):Int)) Z Z
  have hb:(((max q.d 1:Nat):Int):Rat)≠0:=λe=>by
    have:((max q.d 1:Nat):Int)=0:=by exact_mod_cast e
    omega
  have:=QV (a:=((q.n:Int):Rat)) hb
  unfold Jr
  omega
theorem T7 {p:PD} (h:p.ok):dI (EQ p)<=4:=ZD (UF h.1) (UF h.2)
section
variable {P:Program} {w:World} {r:Reach} {base:Nat}
end
section
variable {P:Program} {w:World} {r:Reach} {base:Nat} {t:TypeId} {v:Value} {ts:List TypeId}
end
end
section
def rowsL {α:Type} (enc:α->List Value) (xs:List α):List Value:=xs.flatMap enc
section
variable {α:Type} {enc:α->List Value} {z:Nat}
theorem BJ (xs ys:List α):rowsL enc (xs++ys)=rowsL enc xs++rowsL enc ys:=by simp [rowsL]
theorem Al (h:∀x,(enc x).length=z) (xs:List α):(rowsL enc xs).length=xs.length*z:=by
  induction xs with
  | nil=>simp [rowsL]
  | cons x r ih =>
    have e:rowsL enc (x::r)=enc x++rowsL enc r:=rfl
    rw [e,List.length_append,ih,h,List.length_cons,Nat.add_mul];omega
theorem BD (h:∀x,(enc x).length=z) (d:α):∀(xs:List α) (j:Nat),j<xs.length->((rowsL enc xs).drop (j*z)).take z=enc (xs.getD j d)
  | x::r,0,_=>by
    have e:rowsL enc (x::r)=enc x++rowsL enc r:=rfl
    rw [e,Nat.zero_mul,List.drop_zero,List.take_append_of_le_length (by rw [h];exact Nat.le_refl _),List.take_of_length_le (by rw [h];exact Nat.le_refl _)];rfl
  | x::r,j+1,hj=>by
    have e:rowsL enc (x::r)=enc x++rowsL enc r:=rfl
    rw [e,show (j+1)*z=(enc x).length+j*z by rw [h,Nat.add_mul];omega,List.drop_append,List.drop_of_length_le Z,Nat.add_sub_cancel_left,List.nil_append,BD h d r j (by simpa using hj)];rfl
end
structure RX (cs:List Value) (n:Nat) where
  p:Option Addr
  c:Nat
  ok:Aw p n c
@[reducible] def RX.val {cs:List Value} {n:Nat} (a:RX cs n):Value:=.slice a.p n a.c
@[reducible] def RX.row {cs:List Value} {n:Nat} (a:RX cs n):As:=AK a.p cs
instance {cs:List Value} {n:Nat}:Cf (RX cs n):=⟨λa=>.slice a.p n a.c,λa=>[AK a.p cs],λa y hy=>by rcases List.mem_singleton.1 hy with rfl;rfl⟩
theorem Wf {S:Nat->Prop} {W w:World} {L:List As} (hw:BS ⟨W,none⟩ w L) (i:Nat) {p:Option Addr} {T:TypeId} {z n c:Nat} {cs:List Value} (hi:L[i]?=some (rowW p T z n c cs)) (ho:OwnOk p n c) (hl:cs.length=n*z) {v:Value} (hv:v=.slice p n c):Am (RX cs n) S W (.returned v) w:=by
  have hb:=hw.newRow hi
  refine ⟨⟨p,c,ho.row⟩,by rw [hv];rfl,hw.out,λy hy=>?_⟩
  rcases List.mem_singleton.1 hy with rfl
  refine ⟨λd e=>?_,λd e=>.inl (hb d e)⟩
  obtain ⟨_,o,ho2,hp⟩:=hw.2.1 _ (List.mem_of_getElem? hi) d e
  exact ⟨o,ho2,CL ho hl hp⟩
def Cb (xs:List Nat):List Value:=xs.map λx=>Value.int .u8 (x:Nat)
theorem VZ {xs:List Nat} {j:Nat} (h:j<xs.length):(Cb xs)[j*1]?=some (.int .u8 ((xs.getD j 0:Nat):Int)):=by rw [Nat.mul_one];simp [Cb,h]
structure MQ where
  nx:Nat
  ny:Nat
  cs:List Nat
  p:Option Addr
  cap:Nat
  a:Int
  b:Int
  c:Int
  d:Int
  den:Nat
  fst:Nat
  hx:nx<256
  hy:ny<256
  ha:-128<=a/\a<=127
  hb:-128<=b/\b<=127
  hc:-128<=c/\c<=127
  hd:-128<=d/\d<=127
  hden:den<256
  hfst:fst<256
  hcs:∀x∈cs,x<256
  ok:Aw p cs.length cap
def Df (m:MQ):List Value:=[.int .u8 m.nx,.int .u8 m.ny,.slice m.p m.cs.length m.cap,.int .i8 m.a,.int .i8 m.b,.int .i8 m.c,.int .i8 m.d,.int .u8 m.den,.int .u8 m.fst]
instance:Cf MQ:=⟨λm=>aG (Df m),λm=>[AK m.p (Cb m.cs)],λa y hy=>by rcases List.mem_singleton.1 hy with rfl;rfl⟩
theorem NL {a b:Nat} (h:a<256):IntKind.u8.wrap ((a:Int).tdiv (b:Int))=((a/b:Nat):Int):=by
  have:a/b<=a:=Nat.div_le_self _ _
  rw [<-Int.ofNat_tdiv]
  generalize a/b=q at *
  exact NF Z Z
theorem R0 {a b:Nat} (h:a+b<256):IntKind.u8.wrap ((a:Int)+(b:Int))=((a+b:Nat):Int):=by rw [NF Z Z];omega
abbrev P2:=Nat×Nat
def Cl (nx way i:Nat):List (P2×P2×P2) :=
  let x:=2*(i%nx);let y:=2*(i/nx)
  if way<3\/(way=7/\i=0) then [((x,y),(x+2,y),(x+2,y+2)),((x,y),(x+2,y+2),(x,y+2))]
  else if way<5 then [((x,y),(x+2,y),(x,y+2)),((x+2,y),(x+2,y+2),(x,y+2))]
  else if way<7 then [((x,y),(x+2,y),(x+1,y+1)),((x+2,y),(x+2,y+2),(x+1,y+1)),((x+2,y+2),(x,y+2),(x+1,y+1)),((x,y+2),(x,y),(x+1,y+1))] else []
def DV (p q r:P2):Int:=((q.1:Int)-p.1)*((r.2:Int)-p.2)-((q.2:Int)-p.2)*((r.1:Int)-p.1)
def Rl (t:P2×P2×P2):Prop:=0<DV t.1 t.2.1 t.2.2/\(t.1.1<=6/\t.1.2<=6)/\(t.2.1.1<=6/\t.2.1.2<=6)/\(t.2.2.1<=6/\t.2.2.2<=6)
theorem Vp {nx ny way i:Nat} (hx:nx<=3) (hy:ny<=3) (hi:i<nx*ny):∀t∈Cl nx way i,Rl t:=by
  have h1:i%nx<=2:=by
    have:nx≠0:=λe=>by subst e;omega
    have:=Nat.mod_lt i (show 0<nx by omega)
    omega
  have h2:i/nx<=2:=by
    have:i/nx<ny:=Nat.div_lt_of_lt_mul (by rwa [Nat.mul_comm] at hi ⊢)
    omega
  intro t ht
  unfold Cl at ht
  generalize i%nx=u at *
  generalize i/nx=v at *
  have key:∀t:P2×P2×P2,t∈[((2*u,2*v),(2*u+2,2*v),(2*u+2,2*v+2)),((2*u,2*v),(2*u+2,2*v+2),(2*u,2*v+2)),((2*u,2*v),(2*u+2,2*v),(2*u,2*v+2)),((2*u+2,2*v),(2*u+2,2*v+2),(2*u,2*v+2)),
      ((2*u,2*v),(2*u+2,2*v),(2*u+1,2*v+1)),((2*u+2,2*v),(2*u+2,2*v+2),(2*u+1,2*v+1)),((2*u+2,2*v+2),(2*u,2*v+2),(2*u+1,2*v+1)),((2*u,2*v+2),(2*u,2*v),(2*u+1,2*v+1))]->Rl t:=by
    intro t ht
    simp only [List.mem_cons,List.not_mem_nil,or_false] at ht
    rcases ht with rfl|rfl|rfl|rfl|rfl|rfl|rfl|rfl<;>refine ⟨?_,⟨?_,?_⟩,⟨?_,?_⟩,?_,?_⟩<;>dsimp only [DV]<;>first|omega|grind
  refine key t ?_
  simp only at ht
  split at ht
  · simp only [List.mem_cons,List.not_mem_nil,or_false] at ht ⊢;rcases ht with h|h<;>simp [h]
  · split at ht
    · simp only [List.mem_cons,List.not_mem_nil,or_false] at ht ⊢;rcases ht with h|h<;>simp [h]
    · split at ht
      · simp only [List.mem_cons,List.not_mem_nil,or_false] at ht ⊢;rcases ht with h|h|h|h<;>simp [h]
      · cases ht
theorem SR (nx way i:Nat):(Cl nx way i).length<=4:=by
  unfold Cl;simp only;split
  · simp
  · split
    · simp
    · split<;>simp
theorem No (nx way:Nat) (h:way<8):Cl nx way 0≠[]:=by
  unfold Cl;simp only;split
  · simp
  · split
    · simp
    · split
      · simp
      · rename_i h1 h2 h3;simp only [and_true,not_or] at h1;omega
section
variable {nx way i u v:Nat}
theorem YE (hu:u=i%nx) (hv:v=i/nx) (h:way<3\/(way=7/\i=0)):Cl nx way i=[((2*u,2*v),(2*u+2,2*v),(2*u+2,2*v+2)),((2*u,2*v),(2*u+2,2*v+2),(2*u,2*v+2))]:=by
  subst hu;subst hv;exact if_pos h
theorem X5 (hu:u=i%nx) (hv:v=i/nx) (h0:¬(way<3\/(way=7/\i=0))) (h:way<5):Cl nx way i=[((2*u,2*v),(2*u+2,2*v),(2*u,2*v+2)),((2*u+2,2*v),(2*u+2,2*v+2),(2*u,2*v+2))]:=by
  subst hu;subst hv;exact (if_neg h0).trans (if_pos h)
theorem YC (hu:u=i%nx) (hv:v=i/nx) (h0:¬(way<3\/(way=7/\i=0))) (h1:¬way<5) (h:way<7):Cl nx way i=[((2*u,2*v),(2*u+2,2*v),(2*u+1,2*v+1)),((2*u+2,2*v),(2*u+2,2*v+2),(2*u+1,2*v+1)),((2*u+2,2*v+2),(2*u,2*v+2),(2*u+1,2*v+1)),((2*u,2*v+2),(2*u,2*v),(2*u+1,2*v+1))]:=by
  subst hu;subst hv;exact (if_neg h0).trans ((if_neg h1).trans (if_pos h))
theorem X_ (h0:¬(way<3\/(way=7/\i=0))) (h1:¬way<5) (h:¬way<7):Cl nx way i=[]:=(if_neg h0).trans ((if_neg h1).trans (if_neg h))
end
def Ap (p:P2):List Value:=[vN p.1,vN p.2]
theorem C0 (p:P2):(Ap p).length=2:=rfl
def BC (t:P2×P2×P2):List Value:=Ap t.1++Ap t.2.1++Ap t.2.2
theorem Fd (t:P2×P2×P2):(BC t).length=6:=rfl
def AZ (t:Tq3):List Value:=[vN t.1,vN t.2.1,vN t.2.2]
theorem Aa (t:Tq3):(AZ t).length=3:=rfl
def CF (z:Int×Int):List Value:=[.int .i64 z.1,.int .i64 z.2]
theorem EP (z:Int×Int):(CF z).length=2:=rfl
def G4 (m:MQ) (i:Nat):Nat:=if 0<m.cs.length then m.cs.getD (i%m.cs.length) 0%8 else 0
theorem Q4 (m:MQ) (i:Nat):G4 m i<8:=by unfold G4;split<;>omega
def Hz (m:MQ):Nat:=1+m.nx%3
def Ub (m:MQ):Nat:=1+m.ny%3
def D9 (m:MQ):Nat->List (P2×P2×P2)
  | 0=>[]
  | i+1=>D9 m i++Cl (Hz m) (G4 m i) i
def BK (m:MQ):List (P2×P2×P2):=D9 m (Hz m*Ub m)
theorem LH (m:MQ):1<=Hz m/\Hz m<=3:=by unfold Hz;omega
theorem J7 (m:MQ):1<=Ub m/\Ub m<=3:=by unfold Ub;omega
theorem HV (m:MQ):∀i,(D9 m i).length<=4*i
  | 0=>Nat.le_refl _
  | i+1=>by
    have h1:=HV m i
    have h2:=SR (Hz m) (G4 m i) i
    show (D9 m i++Cl (Hz m) (G4 m i) i).length<=_
    rw [List.length_append];omega
theorem Lp (m:MQ):∀i,i<=Hz m*Ub m->∀t∈D9 m i,Rl t
  | 0,_,t,ht=>by cases ht
  | i+1,hi,t,ht=>by
    rcases List.mem_append.1 ht with h|h
    · exact Lp m i Z t h
    · exact Vp (LH m).2 (J7 m).2 Z t h
theorem L_ (m:MQ):∀i,1<=i->D9 m i≠[]
  | 1,_=>by
    show []++Cl (Hz m) (G4 m 0) 0≠[]
    rw [List.nil_append];exact No _ _ (Q4 m 0)
  | i+2,_=>λe=>L_ m (i+1) Z (List.append_eq_nil_iff.1 e).1
theorem TZ (m:MQ):BK m≠[]:=L_ m _ (Nat.mul_pos (LH m).1 (J7 m).1)
theorem Ih (m:MQ):∀t∈BK m,Rl t:=Lp m _ (Nat.le_refl _)
theorem JG (m:MQ):Hz m*Ub m<=9:=Nat.mul_le_mul (LH m).2 (J7 m).2
theorem Fh (m:MQ):(BK m).length<=36:=by
  have h1:=HV m (Hz m*Ub m)
  have h2:=JG m
  unfold BK;omega
theorem C4 {a b:Int} {k:Int} (ha:-3<=a/\a<=3) (hb:-k<=b/\b<=k):-(3*k)<=a*b/\a*b<=3*k:=by
  obtain ⟨h3,h4⟩:=ha
  have e:a = -3\/a = -2\/a = -1\/a=0\/a=1\/a=2\/a=3:=by omega
  rcases e with rfl|rfl|rfl|rfl|rfl|rfl|rfl<;>omega
def Wr (k:Int×Int×Int×Int):List Value:=[.int .i64 k.1,.int .i64 k.2.1,.int .i64 k.2.2.1,.int .i64 k.2.2.2]
structure Dl where
  a:Int
  b:Int
  c:Int
  d:Int
def Dl.det (k:Dl):Int:=k.a*k.d-k.b*k.c
structure Dl.Ok (k:Dl):Prop where
  a:-3<=k.a/\k.a<=3
  b:-3<=k.b/\k.b<=3
  c:-3<=k.c/\k.c<=3
  d:-3<=k.d/\k.d<=3
  pos:0<k.det
def Dl.at_ (k:Dl) (p:P2):Int×Int:=(k.a*p.1+k.b*p.2,k.c*p.1+k.d*p.2)
def G5 (a b c d:Int):Dl :=
  let k:Dl:=⟨a.tmod 4,b.tmod 4,c.tmod 4,d.tmod 4⟩
  if k.det=0 then ⟨1,0,0,1⟩ else if k.det<0 then ⟨k.a,k.b,-k.c,-k.d⟩ else k
theorem Iy (a:Int):-3<=a.tmod 4/\a.tmod 4<=3:=by
  have h:=Int.tmod_eq_emod (a:=a) (b:=4)
  have h1:=Int.emod_nonneg a (show (4:Int)≠0 by decide)
  have h2:=Int.emod_lt_of_pos a (show (0:Int)<4 by decide)
  rw [h]
  split<;>omega
theorem NA {a b c d A B C D:Int} (hA:A=a.tmod 4) (hB:B=b.tmod 4) (hC:C=c.tmod 4) (hD:D=d.tmod 4) (h:A*D-B*C=0):G5 a b c d=⟨1,0,0,1⟩:=by
  subst hA;subst hB;subst hC;subst hD;exact if_pos h
theorem Nd {a b c d A B C D:Int} (hA:A=a.tmod 4) (hB:B=b.tmod 4) (hC:C=c.tmod 4) (hD:D=d.tmod 4) (h:A*D-B*C<0):G5 a b c d=⟨A,B,-C,-D⟩:=by
  subst hA;subst hB;subst hC;subst hD;exact (if_neg (λe:a.tmod 4*d.tmod 4-b.tmod 4*c.tmod 4=0=>by rw [e] at h;omega)).trans (if_pos h)
theorem Ml {a b c d A B C D:Int} (hA:A=a.tmod 4) (hB:B=b.tmod 4) (hC:C=c.tmod 4) (hD:D=d.tmod 4) (h0:¬A*D-B*C=0) (h:¬A*D-B*C<0):G5 a b c d=⟨A,B,C,D⟩:=by
  subst hA;subst hB;subst hC;subst hD;exact (if_neg h0).trans (if_neg h)
theorem H1 (a b c d:Int):(G5 a b c d).Ok:=by
  have ha:=Iy a;have hb:=Iy b;have hc:=Iy c;have hd:=Iy d
  unfold G5
  generalize a.tmod 4=a' at *
  generalize b.tmod 4=b' at *
  generalize c.tmod 4=c' at *
  generalize d.tmod 4=d' at *
  show (if a'*d'-b'*c'=0 then (⟨1,0,0,1⟩:Dl) else if a'*d'-b'*c'<0 then ⟨a',b',-c',-d'⟩ else ⟨a',b',c',d'⟩).Ok
  by_cases h0:a'*d'-b'*c'=0
  · rw [if_pos h0];exact ⟨by decide,by decide,by decide,by decide,by decide⟩
  · rw [if_neg h0]
    by_cases h:a'*d'-b'*c'<0
    · rw [if_pos h];exact ⟨ha,hb,by dsimp only;omega,by dsimp only;omega,by show 0<a' * -d'-b' * -c';rw [Int.mul_neg,Int.mul_neg];omega⟩
    · rw [if_neg h];exact ⟨ha,hb,hc,hd,by show 0<a'*d'-b'*c';omega⟩
theorem Vt {k:Dl} (h:k.Ok) {p:P2} (hp:p.1<=6/\p.2<=6):(-36<=(k.at_ p).1/\(k.at_ p).1<=36) /\ -36<=(k.at_ p).2/\(k.at_ p).2<=36:=by
  obtain ⟨x,y⟩:=p
  have key:∀(z:Int) (n:Nat),-3<=z/\z<=3->n<=6 -> -18<=z*n/\z*n<=18:=λz n h1 h2=>by
    obtain ⟨h3,h4⟩:=h1
    have e:z = -3\/z = -2\/z = -1\/z=0\/z=1\/z=2\/z=3:=by omega
    rcases e with rfl|rfl|rfl|rfl|rfl|rfl|rfl<;>omega
  have h1:=key k.a x h.a hp.1;have h2:=key k.b y h.b hp.2;have h3:=key k.c x h.c hp.1;have h4:=key k.d y h.d hp.2
  simp only [Dl.at_]
  exact ⟨⟨Z,Z⟩,Z,Z⟩
def Wb (k:Dl) (den:Nat) (p:P2):PD:=⟨⟨(k.at_ p).1,den⟩,⟨(k.at_ p).2,den⟩⟩
theorem XV {k:Dl} (h:k.Ok) (den:Nat) {p q r:P2} (ht:0<DV p q r):0<E2 (EQ (Wb k den p)) (EQ (Wb k den q)) (EQ (Wb k den r)):=by
  have hD:0<(((max den 1:Nat):Int):Rat):=by exact_mod_cast (show (0:Int)<((max den 1:Nat):Int) by omega)
  have e:E2 (EQ (Wb k den p)) (EQ (Wb k den q)) (EQ (Wb k den r))=((k.det*DV p q r:Int):Rat)*((((max den 1:Nat):Int):Rat)⁻¹*(((max den 1:Nat):Int):Rat)⁻¹):=by
    simp only [Hn,EQ,Wb,Jr,Dl.at_,Dl.det,DV,Rat.div_def,Rat.intCast_add,Rat.intCast_mul,Rat.intCast_sub]
    generalize (((max den 1:Nat):Int):Rat)⁻¹=D
    grind
  rw [e]
  have h1:0<k.det*DV p q r:=Int.mul_pos h.pos ht
  have h2:(0:Rat)<((k.det*DV p q r:Int):Rat):=by exact_mod_cast h1
  have h3:=Rat.inv_pos.2 hD
  exact Rat.mul_pos h2 (Rat.mul_pos h3 h3)
end
end Go.Proofs.YtpgncndhhhllfaaGreat
