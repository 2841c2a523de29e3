import Derived.ChangeKeysEq
import Derived.Test.YtpgncndhhhllfaaGreatRows
import Derived.Test.YtpgncndhhhllfaaGreatPart03
import Derived.Test.YtpgncndhhhllfaaGreatPart06
import Derived.Test.YtpgncndhhhllfaaGreatPart12
import Derived.Test.YtpgncndhhhllfaaGreatPart15
namespace Go.Proofs.YtpgncndhhhllfaaGreat
open Go Go.RowKit Go.Proofs.Tryz
set_option linter.unusedVariables false
set_option linter.unusedSimpArgs false
section
set_option maxRecDepth 100000
theorem En (x0:Int) (x1:Nat):Instr.fill ([(0,3),(3,2)].toArray[·]?) (BB (0:Rat)).toArray [(0,.agg (Be x0).toArray),(1,.agg (Ae x1).toArray)]=some (Be x0++Ae x1).toArray:=by kernel_rfl
theorem LJ (n:Int) (d:Nat) (hn:nw n.natAbs<=1099511627776) (hd:nw d<=1099511627776) (hd0:d≠0) (w:World)  :Calls prog 92 #[(aG (Be n)),(aG (Ae d))] w (Ak w (aG (BB (mkRat n d)))):=by
 have hg:Nat.gcd n.natAbs d≠0:=λh=>hd0 (Nat.eq_zero_of_gcd_eq_zero_right h)
 have hgw:nw (Nat.gcd n.natAbs d)<=nw d:=Ck (Nat.gcd_le_right _ (Nat.pos_of_ne_zero hd0))
 have hqw:nw (d/Nat.gcd n.natAbs d)<=nw d:=Ck (Nat.div_le_self _ _)
 have h1w:=IC
 refine An (args:=[(aG (Be n)),(aG (Ae d))]) func92 O O (AV O) (AE.subF (sL [0,1] O) (q4 (B0 (cs:=Be n) O λb1=>B0 (cs:=Ae d) O λb2=>al Lw O λb3=>q6 (sL [2,3,4] O) (rN [(0,true),(2,true),(1,false),(3,false)] [⟨4,5,58,Ae 0⟩] [(5,false)] sr (by kernel_rfl) (λ_ _ d _ _ h=>by cases d<;>exact h) (OW O O GH O (Q7)) O (XR 2 Hh O (XR 1 Cl O (Ci.imp O λEF EL=>ck' call94 (L9 n) O ?_)))))))
 refine Ci.back0 sr O (Ci.imp O λEF EL=>ck' call111 (Xg n.natAbs d Z Z) O (Ci.back0 sr O (Ci.news1 λb4=>OkE.imp O (BP O sizeOf58 O (OkE.back (sl sr) (OkE.nil (OkQ.subF (sL [2,3,4,5] O) (q1 (rN [(0,true),(2,true),(1,false),(3,false),(4,true),(5,true),(6,true),(7,true)] [⟨8,6,58,Ae 0⟩,⟨9,7,58,Ae 0⟩] [(10,false),(11,false),(12,true)] sr (by kernel_rfl) (λ_ _ d _ _ h=>by cases d<;>exact h) (OW O O GH O (OW O O GH O (Q7))) O ?_)))))))))
 refine XR 3 Hh O (XR 0 Cl O (Ci.imp O λEF EL=>ck' call94 (L9 n) O (Ci.back0 sr O (Ci.imp O λEF EL=>ck' call112 (On n.natAbs (Nat.gcd n.natAbs d) Z Z Z) O (Ci.back0 sr O (aJ O (OI O (AX (v:=(aG (Ae (n.natAbs/(Nat.gcd n.natAbs d))))) O O) O (OI O (AX (v:=(aG (Ae (n.natAbs%(Nat.gcd n.natAbs d))))) O O) O (OI O (AX (v:=(Value.bool true)) O O) O ?_)))))))))
 refine Ci.news2 λb5 b6=>OkE.imp O (BP O sizeOf58 O (OkE.back (sl (sl sr)) (OkE.imp O (Ed O sizeOf58 O (OkE.back (sl (sl sr)) (pS' O (OkE.nil (OkQ.subF (sL [2,3,4,5,6] O) (q2 (BC 4 Cl O ?_))))))))))
 refine BC 2 Cl O (ck' call112 (On d (Nat.gcd n.natAbs d) Z Z Z) O (AM O (AK (AX (v:=(aG (Ae (d/(Nat.gcd n.natAbs d))))) O O) O (AK (AX (v:=(aG (Ae (d%(Nat.gcd n.natAbs d))))) O O) O (AK (AX (v:=(Value.bool true)) O O) O (al GH O λb7=>al GH O λb8=>Ed O sizeOf58 O (BP O sizeOf58 O (AI O (q6 (sL [2,3,4,5,6,9] O) ?_)))))))))
 refine rC [(0,true),(1,false),(2,false),(3,true),(4,true),(5,true)] 6 [] sr (sk (sl sr)) (by kernel_rfl) (λ_ _ d _ _ h=>by cases d<;>exact h) (vE (v:=(aG (Ae (d/(Nat.gcd n.natAbs d))))) O (BK (i:=1) (vs:=Ae (d/(Nat.gcd n.natAbs d))) O O Cl.a Cl.s O O) O (Dc.imp O (ck' call90 (I3 1 Z) O (Dc.back sr (Dc.imp O (ck' call113 (X_ (d/(Nat.gcd n.natAbs d)) 1 Z Z) O (Dc.back sr (vM O O O (vE O (AX (v:=(aG (Ae ((d/(Nat.gcd n.natAbs d))-1)))) O O) O (vE O (AX (v:=(Value.bool (decide (1<=d/(Nat.gcd n.natAbs d))))) O O) O (Dc.cut O ?_)))))))))))
 refine Ed O sizeOf58 O (OkE.back (sk (sl sr)) (OkE.nil (OkQ.subF (sL [2,3,4,5,6,9] O) (q1 (Cu [(0,true),(3,true),(5,true),(1,false),(2,true),(4,false),(6,true),(7,false)] (sk (sk (sk (sk (sk (sl sr)))))) (Gx 6 Hh O (Gx 2 Cl O (Gx 1 Cl O (OkE.imp O (ck' call110 (N6 n) O (OkE.back (sk (sk (sk (sk (sk (sl sr)))))) ?_)))))))))))
 exact Av O (Ad (c:=(decide (n.sign<(0:Int)))) O O O) (OkE.imp O (ck' call89 (HM (decide (n.sign<(0:Int))) (n.natAbs/(Nat.gcd n.natAbs d))) O (OkE.back (sk (sk (sk (sk (sk (sl sr)))))) (Av (v:=(aG (Be (Eg (decide (n.sign<(0:Int))) (n.natAbs/(Nat.gcd n.natAbs d)))++Ae ((d/(Nat.gcd n.natAbs d))-1)))) O (Aa (zs:=BB (0:Rat)) (vs:=Be (Eg (decide (n.sign<(0:Int))) (n.natAbs/(Nat.gcd n.natAbs d)))++Ae ((d/(Nat.gcd n.natAbs d))-1)) (pv:=[(0,(aG (Be (Eg (decide (n.sign<(0:Int))) (n.natAbs/(Nat.gcd n.natAbs d)))))),(1,(aG (Ae ((d/(Nat.gcd n.natAbs d))-1))))]) (places:=[(0,3),(3,2)]) zeroValue64 underlying64 (λw=>by simp [sizeOf58,sizeOf62]) O (En (Eg (decide (n.sign<(0:Int))) (n.natAbs/(Nat.gcd n.natAbs d))) ((d/(Nat.gcd n.natAbs d))-1))) (OkE.imp O (JZ 5 (off:=0) (vs:=Be (Eg (decide (n.sign<(0:Int))) (n.natAbs/(Nat.gcd n.natAbs d)))++Ae ((d/(Nat.gcd n.natAbs d))-1)) (cs':=Be (Eg (decide (n.sign<(0:Int))) (n.natAbs/(Nat.gcd n.natAbs d)))++Ae ((d/(Nat.gcd n.natAbs d))-1)) (AT O) O sizeOf64 O (OkE.back (sk (sk (sk (sk (sk (sl sr)))))) (OkE.nil (OkQ.subF (sL [2,3,4,5,6,9] O) (OkQ.then_ (AE.ret (AS O (BH (i:=5) (cs:=Be (Eg (decide (n.sign<(0:Int))) (n.natAbs/(Nat.gcd n.natAbs d)))++Ae ((d/(Nat.gcd n.natAbs d))-1)) O O isAgg64 sizeOf64 O) (λw hw=>⟨by rw [Nn,Qo hd0,QS hd0],hw.out⟩)))))))))))))
theorem G7 (x0:Int):Instr.fill ([(0,3),(3,2)].toArray[·]?) (BB (0:Rat)).toArray [(0,.agg (Be x0).toArray)]=some (Be x0++Ae ((0:Rat).den-1)).toArray:=by kernel_rfl
theorem NA (n:Int) (w:World)  :Calls prog 65 #[(aG (Be n))] w (Ak w (aG (BB ((n:Int):Rat)))):=by
 refine An (args:=[(aG (Be n))]) func65 O O (AV O) (AE.subF (sL [0] O) (q4 (B0 (cs:=Be n) O λb1=>al Lw O λb2=>q3 (sL [1,2] O) (BC 1 Hh O (AK (v:=(aG (Be n++Ae ((0:Rat).den-1)))) (Aa (zs:=BB (0:Rat)) (vs:=Be n++Ae ((0:Rat).den-1)) (pv:=[(0,(aG (Be n)))]) (places:=[(0,3),(3,2)]) zeroValue64 underlying64 (λw=>by simp [sizeOf58,sizeOf62]) O (G7 n)) O (BP O sizeOf64 O (AC.nil (OkQ.subF (sL [2] O) (OkQ.then_ ?_)))))))))
 exact AE.ret (AS O (BH (i:=0) (cs:=Be n++Ae ((0:Rat).den-1)) O O isAgg64 sizeOf64 O) (λw hw=>⟨rfl,hw.out⟩))
theorem Kk  :Instr.fill ([(0,1),(1,1)].toArray[·]?) (Ae 0).toArray []=some (Ae 0).toArray:=by kernel_rfl
theorem NU (a:Rat) (w:World)  :Calls prog 115 #[(aG (BB a))] w (Ak w (Value.bool (decide (a.den-1=0)))):=by
 refine An (args:=[(aG (BB a))]) func115 O O (AV O) (AE.subF (sL [0] O) (q4 (B0 (cs:=BB a) O λb1=>AI O (q3 (sL [1,2] O) (AK (v:=(pP b1 3)) (AB O underlying64 O sizeOf58 O) O (OZ 0 (Ae (a.den-1)) Cl O (AK (v:=(aG (Ae 0))) (Aa (zs:=Ae 0) (vs:=Ae 0) (pv:=[]) (places:=[(0,1),(1,1)]) zeroValue58 underlying58 (λw=>by simp [sizeOf9,sizeOf56]) O (Kk )) O (AK (ET (c:=(decide (a.den-1=0))) O O eqGuardType58 (L6 9998 (a.den-1) 0)) O (AI O (AC.nil ?_))))))))))
 exact OkQ.subF (sL [2] O) (OkQ.then_ (AE.ret (AS O (AZ (v:=(Value.bool (decide (a.den-1=0)))) O) (λw hw=>⟨rfl,hw.out⟩))))
theorem Oz (a:Rat) (ha:nw a.den<=1099511627776) (w:World)  :Calls prog 93 #[(aG (BB a))] w (Ak w (aG (Ae a.den))):=by
 have h1w:=IC
 have h2w:=Ck (Nat.sub_le a.den 1)
 refine An (args:=[(aG (BB a))]) func93 O O (AV O) (AE.subF (sL [0] O) (q4 (B0 (cs:=BB a) O λb1=>al GH O λb2=>q6 (sL [1,2] O) (Cu [(0,true),(1,true),(2,false),(3,false),(4,false)] (sl sr) (Av (v:=(pP b1 3)) O (AB O underlying64 O sizeOf58 O) (Uz 0 (Ae (a.den-1)) Cl O (OkE.imp O (ck' call90 (I3 1 Z) O (OkE.back (sl sr) ?_)))))))))
 exact OkE.imp O (ck' call114 (YS (a.den-1) 1 Z Z) O (OkE.back (sl sr) (OkE.imp O (BP O sizeOf58 O (OkE.back (sl sr) (OkE.nil (OkQ.subF (sL [2] O) (OkQ.then_ (AE.ret (AS O (BH (i:=0) (cs:=Ae ((a.den-1)+1)) O O isAgg58 sizeOf58 O) (λw hw=>⟨by rw [Nat.sub_add_cancel a.den_pos],hw.out⟩)))))))))))
theorem Nd (a:Rat) (w:World)  :Calls prog 91 #[(aG (BB a))] w (Ak w (vI a.num.sign)):=by
 refine An (args:=[(aG (BB a))]) func91 O O (AV O) (AE.subF (sL [0] O) (q4 (B0 (cs:=BB a) O λb1=>AI O (q3 (sL [1,2] O) (AK (v:=(pP b1 0)) (AB O underlying64 O sizeOf62 O) O (OZ 0 (Be a.num) Hh O (ck' call110 (N6 a.num) O (AI O (AC.nil (OkQ.subF (sL [2] O) ?_))))))))))
 exact OkQ.then_ (AE.ret (AS O (AZ (v:=(vI a.num.sign)) O) (λw hw=>⟨rfl,hw.out⟩)))
theorem WP (a b:Rat) (hs:Sz a+Sz b<=549755813888) (w:World)  :Calls prog 95 #[(aG (BB a)),(aG (BB b))] w (Ak w (aG (BB (a*b)))):=by
 have s1:=Df a
 have s2:=DE a
 have s3:=Df b
 have s4:=DE b
 have s5:=Dt a b
 have s6:=Dt b a
 have s7:=J7 a b
 have s8:=Jz a b
 have s9:=GQ a.num b.num
 have s10:=GQ (a.num*((b.den:Nat):Int)) (b.num*((a.den:Nat):Int))
 have hda:=a.den_nz
 have hdb:=b.den_nz
 have hdab:a.den*b.den≠0:=Nat.mul_ne_zero hda hdb
 refine An (args:=[(aG (BB a)),(aG (BB b))]) func95 O O (AV O) (AE.subF (sL [0,1] O) (q4 (B0 (cs:=BB a) O λb1=>B0 (cs:=BB b) O λb2=>al Lw O λb3=>q6 (sL [2,3,4] O) (q4 (BC 2 J0 O (ck' call115 (NU a) O (AM O ?_)))))))
 refine AC.mid (FM:=[(2,(pP b1 0)),(3,(pP b2 0)),(4,(pP b3 0)),(5,(aG (BB a))),(6,(Value.bool (decide (a.den-1=0)))),(7,(Value.bool (decide (a.den-1=0)))),(10,(Value.bool ((decide (a.den-1=0))&&(decide (b.den-1=0)))))]) (LM:=[Ah b3 64 (BB (0:Rat)),Ah b2 64 (BB b),Ah b1 64 (BB a)]) 3 ?_ ?_
 ·rcases Bool.eq_false_or_eq_true (decide (a.den-1=0)) with hg1|hg1
  ·skip
   refine AC.retell (k:=7) (u:=Value.bool true) O (by rw [hg1]) ?_
   have hg1':=hg1
   replace hg1':=of_decide_eq_true hg1'
   exact AC.step (v:=(aG (BB b))) (AA O) (BK (i:=1) (vs:=BB b) O O J0.a J0.s O O) O (AV O) (AC.call (v:=(Value.bool (decide (b.den-1=0)))) (AA O) (Aw (args:=[(aG (BB b))]) O O call115) (λw hw=>NU b w) O (AV O) (AK (v:=(Value.bool (decide (b.den-1=0)))) (AR O O) O (AC.nil (OkQ.mid (sS O (sS O (sS O (sS O (sS O (sS (by first|rfl|(rw [hg1];rfl)|rw [hg1]) (sS (by first|rfl|(rw [hg1];rfl)|rw [hg1]) (sN)))))))) (List.Sublist.refl _)))))
  ·skip
   refine AC.retell (k:=7) (u:=Value.bool false) O (by rw [hg1]) ?_
   have hg1':=hg1
   replace hg1':=of_decide_eq_false hg1'
   exact AC.skip (AD O) O (AV O) (AC.skip (AD O) O (AV O) (AK (v:=(Value.bool false)) (AO O O) O (AC.nil (OkQ.mid (sS O (sS O (sS O (sS O (sS O (sS (by first|rfl|(rw [hg1];rfl)|rw [hg1]) (sS (by first|rfl|(rw [hg1];rfl)|rw [hg1]) (sN)))))))) (List.Sublist.refl _)))))
 refine AC.nil (OkQ.subF (sL [2,3,4,10] O) (OkQ.then_ ?_))
 refine AE.cond O (λhc0=>?_) (λhc0=>?_)
 ·simp only [Bool.and_eq_true,Bool.or_eq_true,Bool.and_eq_false_iff,Bool.or_eq_false_iff,Bool.not_eq_true',Bool.not_eq_false',decide_eq_true_eq,decide_eq_false_iff_not] at hc0
  have he:=Rh hc0.1 hc0.2
  refine q4 (AK (v:=(pP b1 0)) (AB O underlying64 O sizeOf62 O) O (OZ 2 (Be a.num) Hh O (AK (v:=(pP b2 0)) (AB O underlying64 O sizeOf62 O) O (OZ 1 (Be b.num) Hh O (ck' call116 (Qj a.num b.num (by first|omega|(simp only [Int.natAbs_neg,By,Int.natAbs_natCast];omega)) (by first|omega|(simp only [Int.natAbs_neg,By,Int.natAbs_natCast];omega))) O (ck' call65 (NA (a.num*b.num)) O (BP O sizeOf64 O (AC.nil (OkQ.subF (sL [2,3,4] O) (OkQ.then_ (AE.ret ?_)))))))))))
  exact OkQ.then_ret (AS O (BH (i:=0) (cs:=BB ((a.num*b.num:Int):Rat)) O O isAgg64 sizeOf64 O) (λw hw=>⟨by rw [he],hw.out⟩))
 ·simp only [Bool.and_eq_true,Bool.or_eq_true,Bool.and_eq_false_iff,Bool.or_eq_false_iff,Bool.not_eq_true',Bool.not_eq_false',decide_eq_true_eq,decide_eq_false_iff_not] at hc0
  have he:=H3 a b
  refine AE.skip (q1 (Cu [(0,true),(1,true),(2,true),(3,true),(5,true),(7,true),(4,false),(6,false),(8,false),(9,false),(10,false),(11,false)] (sl sr) (Av (v:=(pP b1 0)) O (AB O underlying64 O sizeOf62 O) (Uz 1 (Be a.num) Hh O (Av (v:=(pP b2 0)) O (AB O underlying64 O sizeOf62 O) (Uz 0 (Be b.num) Hh O (Gx 1 J0 O (Gx 0 J0 O (OkE.imp O (ck' call116 (Qj a.num b.num (by first|omega|(simp only [Int.natAbs_neg,By,Int.natAbs_natCast];omega)) (by first|omega|(simp only [Int.natAbs_neg,By,Int.natAbs_natCast];omega))) O (OkE.back (sl sr) ?_)))))))))))
  refine OkE.imp O (ck' call93 (Oz a Z) O (OkE.back (sl sr) (OkE.imp O (ck' call93 (Oz b Z) O (OkE.back (sl sr) (OkE.imp O (ck' call117 (Uc a.den b.den Z Z) O (OkE.back (sl sr) (OkE.imp O (ck' call92 (LJ (a.num*b.num) (a.den*b.den) Z Z (by first|omega|assumption)) O (OkE.back (sl sr) ?_)))))))))))
  exact OkE.imp O (BP O sizeOf64 O (OkE.back (sl sr) (OkE.nil (OkQ.subF (sL [2,3,4] O) (OkQ.then_ (AE.ret (AS O (BH (i:=0) (cs:=BB (mkRat (a.num*b.num) (a.den*b.den))) O O isAgg64 sizeOf64 O) (λw hw=>⟨by rw [he],hw.out⟩))))))))
theorem Vj (a b:Rat) (hs:Sz a+Sz b<=549755813888) (hb:b≠0) (w:World)  :Calls prog 67 #[(aG (BB a)),(aG (BB b))] w (Ak w (Value.tuple #[(aG (BB (a/b))),(vI 0)])):=by
 have s1:=Df a
 have s2:=DE a
 have s3:=Df b
 have s4:=DE b
 have s5:=Dt a b
 have s6:=Dt b a
 have s7:=J7 a b
 have s8:=Jz a b
 have s9:=GQ a.num b.num
 have s10:=GQ (a.num*((b.den:Nat):Int)) (b.num*((a.den:Nat):Int))
 have hda:=a.den_nz
 have hdb:=b.den_nz
 have hdab:a.den*b.den≠0:=Nat.mul_ne_zero hda hdb
 have hbn:b.num≠0:=λe=>hb (Rat.num_eq_zero.1 e)
 have hbs:b.num.sign≠0:=λe=>hbn (Int.sign_eq_zero_iff_zero.1 e)
 have hmi:nw (Eg (decide (b.num.sign<(0:Int))) b.den).natAbs=nw b.den:=by rw [By]
 have hinv:=IH hb
 have hsi:=OT hb
 rw [<-hinv] at hsi
 refine An (args:=[(aG (BB a)),(aG (BB b))]) func67 O O (AV O) (AE.subF (sL [0,1] O) (q4 (B0 (cs:=BB a) O λb1=>B0 (cs:=BB b) O λb2=>al Lw O λb3=>AI O (q6 (sL [2,3,4,5] O) (q4 (BC 1 J0 O (ck' call91 (Nd b) O (AK (BA (c:=(decide (b.num.sign=(0:Int)))) O O O) O ?_))))))))
 refine AC.nil (OkQ.subF (sL [2,3,4,5,9] O) (OkQ.then_ ?_))
 refine AE.cond O (λhc0=>?_) (λhc0=>?_)
 ·replace hc0:=of_decide_eq_true hc0
  exact absurd hc0 hbs
 ·replace hc0:=of_decide_eq_false hc0
  refine AE.skip (q1 (rN [(0,true),(3,true),(6,true),(7,true),(1,false),(2,true),(4,false),(5,false),(8,false),(9,false)] [⟨10,6,64,BB (0:Rat)⟩] [(11,false)] sr (by kernel_rfl) (λ_ _ d _ _ h=>by cases d<;>exact h) (OW O O Lw O (Q7)) O (XR 1 J0 O (XR 1 J0 O (OI (v:=(pP b2 0)) O (AB O underlying64 O sizeOf62 O) O (cQ 1 (Be b.num) Hh O (Ci.imp O λEF EL=>ck' call91 (Nd b) O (Ci.back0 sr O (OI O (Ad (c:=(decide (b.num.sign<(0:Int)))) O O O) O (Ci.imp O λEF EL=>?_))))))))))
  refine ck' call93 (Oz b Z) O (Ci.back0 sr O (Ci.imp O λEF EL=>ck' call89 (HM (decide (b.num.sign<(0:Int))) b.den) O (Ci.back0 sr O (Ci.imp O λEF EL=>ck' call94 (L9 b.num) O (Ci.back0 sr O (Ci.imp O λEF EL=>ck' call92 (LJ (Eg (decide (b.num.sign<(0:Int))) b.den) b.num.natAbs Z Z (by first|omega|assumption)) O (Ci.back0 sr O (Ci.news1 λb4=>?_))))))))
  refine OkE.imp O (BP O sizeOf64 O (OkE.back (sl sr) (OkE.nil (OkQ.subF (sL [2,3,4,5,6] O) (q2 (BC 3 J0 O (BC 0 J0 O ?_)))))))
  have hz1:=OP a (mkRat (Eg (decide (b.num.sign<(0:Int))) b.den) b.num.natAbs)
  exact ck' call95 (WP a (mkRat (Eg (decide (b.num.sign<(0:Int))) b.den) b.num.natAbs) (by (try simp only [OQ]);omega)) O (Ed O sizeOf64 O (AI O (AC.nil (OkQ.subF (sL [3,4,5,6] O) (OkQ.then_ (AE.ret (Bo O (BH (i:=1) (cs:=BB (a*(mkRat (Eg (decide (b.num.sign<(0:Int))) b.den) b.num.natAbs))) O O isAgg64 sizeOf64 O) (AZ (v:=(vI 0)) O) (λw hw=>⟨by rw [hinv,Rat.div_def],hw.out⟩))))))))
theorem JJ (z:Int) (hz:-9223372036854775808<=z) (hz2:z<9223372036854775808) (w:World)  :Calls prog 50 #[(vI z)] w (Ak w (aG (BB ((z:Int):Rat)))):=by
 refine An (args:=[(vI z)]) func50 O O (AV O) (AE.subF (sL [0] O) (q4 (al Lw O λb1=>AC.nil (q2 (AM O (ck' call66 (YZ z Z Z) O (ck' call65 (NA z) O (BP O sizeOf64 O (AC.nil (OkQ.subF (sL [2] O) ?_))))))))))
 exact OkQ.then_ (AE.ret (AS O (BH (i:=0) (cs:=BB ((z:Int):Rat)) O O isAgg64 sizeOf64 O) (λw hw=>⟨rfl,hw.out⟩)))
end
section
instance:Add Pt:=⟨λa b=>⟨a.x+b.x,a.y+b.y⟩⟩
instance:Sub Pt:=⟨λa b=>⟨a.x-b.x,a.y-b.y⟩⟩
def Y1 (a:Pt) (k:Rat):Pt:=⟨a.x*k,a.y*k⟩
def YL (a b:Pt):Rat:=a.x*b.y-a.y*b.x
def Jy (a b c:Pt):Rat:=YL (b-a) (c-a)
def cO (p:Pt):Nat:=max (Sz p.x) (Sz p.y)
theorem MK {z:Int} (h1:-9223372036854775808<=z) (h2:z<9223372036854775808):Sz ((z:Int):Rat)<=2:=XZ (JX (by show z.natAbs<_;omega)) (by show nw 1<=2;rw [IC];omega)
theorem Xy (x y:Rat):CG ⟨x,y⟩=BB x++BB y:=rfl
section
variable {P:Program} {Q:Exit->Act->World->Prop} {n:Nat} {F:List (Nat×Value)} {w0:BE} {L:List As} {c:Code}
def FF (P:Program) (c:Code) (Q:Exit->Act->World->Prop) (k n:Nat) (F:List (Nat×Value)) (w0:BE) (L:List As):Prop:=∀a w,Cp n a F->BM w0 w L->Code.rounds P c Q k a w
theorem AE.unroll (k:Nat) (h:FF P c Q k n F w0 L):AE P (.loop c) Q n F w0 L:=λa w ha hw=>wp_loop_rounds k (h a w ha hw)
theorem FF.step {k:Nat} (h:AE P c (Exit.then (Code.rounds P c Q k) Q) n F w0 L):FF P c Q (k+1) n F w0 L:=λa w ha hw=>by
  rw [rounds_succ];exact h a w ha hw
theorem OkQ.again {k:Nat} (h:FF P c Q k n F w0 L):OkQ (Exit.then (Code.rounds P c Q k) Q) .normal n F w0 L:=h
end
end
section
set_option maxRecDepth 100000
theorem EW (x0:Rat) (x1:Rat):Instr.fill ([(0,5),(5,5)].toArray[·]?) (CG (⟨0,0⟩:Pt)).toArray [(0,.agg (BB x0).toArray),(1,.agg (BB x1).toArray)]=some (BB x0++BB x1).toArray:=by kernel_rfl
theorem GS (x y:Int) (h1:-9223372036854775808<=x) (h2:x<9223372036854775808) (h3:-9223372036854775808<=y) (h4:y<9223372036854775808) (w:World)  :Calls prog 29 #[(vI x),(vI y)] w (Ak w (aG (CG (⟨((x:Int):Rat),((y:Int):Rat)⟩:Pt)))):=by
 refine An (args:=[(vI x),(vI y)]) func29 O O (AV O) (AE.subF (sL [0,1] O) (q4 (al ZZ O λb1=>AC.nil (q2 (AM O (ck' call50 (JJ x Z Z) O (AM O (ck' call50 (JJ y Z Z) O (AK (v:=(aG (BB ((x:Int):Rat)++BB ((y:Int):Rat)))) (Aa (zs:=CG (⟨0,0⟩:Pt)) (vs:=BB ((x:Int):Rat)++BB ((y:Int):Rat)) (pv:=[(0,(aG (BB ((x:Int):Rat)))),(1,(aG (BB ((y:Int):Rat))))]) (places:=[(0,5),(5,5)]) zeroValue66 underlying66 (λw=>by simp [sizeOf64]) O (EW ((x:Int):Rat) ((y:Int):Rat))) O (BP O sizeOf66 O ?_))))))))))
 exact AC.nil (OkQ.subF (sL [4] O) (OkQ.then_ (AE.ret (AS O (BH (i:=0) (cs:=BB ((x:Int):Rat)++BB ((y:Int):Rat)) O O isAgg66 sizeOf66 O) (λw hw=>⟨by rw [Xy],hw.out⟩)))))
end
section
set_option maxRecDepth 100000
theorem Xp (x y:Int) (h1:-9223372036854775808<=x) (h2:x<9223372036854775808) (h3:-9223372036854775808<=y) (h4:y<9223372036854775808) (hy:y≠0) (w:World)  :Calls prog 51 #[(vI x),(vI y)] w (Ak w (Value.tuple #[(aG (BB (((x:Int):Rat)/((y:Int):Rat)))),(vI 0)])):=by
 have hb:((y:Int):Rat)≠0:=λe=>hy (by exact_mod_cast e)
 have s1:=MK h1 h2
 have s2:=MK h3 h4
 refine An (args:=[(vI x),(vI y)]) func51 O O (AV O) (AE.subF (sL [0,1] O) (q4 (al Lw O λb1=>AI O (AC.nil (q2 (AM O (ck' call50 (JJ x Z Z) O (AM O (ck' call50 (JJ y Z Z) O ?_)))))))))
 have hz1:=Sf (a:=((x:Int):Rat)) (b:=((y:Int):Rat)) (by assumption)
 exact ck' call67 (Vj ((x:Int):Rat) ((y:Int):Rat) Z (by assumption)) O (AK (AX (v:=(aG (BB (((x:Int):Rat)/((y:Int):Rat))))) O O) O (AK (AX (v:=(vI 0)) O O) O (BP O sizeOf64 O (AI O (AC.nil (OkQ.subF (sL [4,5] O) (OkQ.then_ (AE.ret (Bo O (BH (i:=0) (cs:=BB (((x:Int):Rat)/((y:Int):Rat))) O O isAgg64 sizeOf64 O) (AZ (v:=(vI 0)) O) (λw hw=>⟨rfl,hw.out⟩))))))))))
end
section
set_option maxRecDepth 100000
end

section
set_option maxRecDepth 100000
end
section
set_option maxRecDepth 100000
end
section
set_option maxRecDepth 100000
end
section
set_option maxRecDepth 100000
end
section
section
variable {P:Program} {n:Nat} {F:List (Nat×Value)} {w0:BE} {L:List As} {v:Value} {x:Operand} {d:Option Tmp} {t:TypeId} {p:String} {af:Array Edge} {g:Option (Nat×Bool)}
end
end
section
set_option maxRecDepth 100000
end
section
set_option maxRecDepth 100000
end
section
set_option maxRecDepth 100000
end
section
set_option maxRecDepth 100000
end
section
set_option maxRecDepth 100000
end
section
set_option maxRecDepth 100000
end
section
section
variable {P:Program} {n:Nat} {F:List (Nat×Value)} {w0:BE} {L:List As} {v:Value} {x lo hi:Operand} {d:Option Tmp} {t:TypeId} {p:String} {af:Array Edge} {g:Option (Nat×Bool)}
end
end
section
set_option maxRecDepth 100000
end

section
instance:DecidableEq Pt:=λa b=>decidable_of_iff (a.x=b.x/\a.y=b.y) ⟨λh=>Pt.ext h.1 h.2,λh=>h▸⟨rfl,rfl⟩⟩
section
variable {P:Program}
end
section
variable {P:Program} {n:Nat} {F:List (Nat×Value)} {w0:BE} {L:List As} {x y:Operand} {d:Option Tmp} {t:TypeId} {p:String} {af:Array Edge} {g:Option (Nat×Bool)}
end
end
section
structure QD where
  n:Int
  d:Nat
structure PD where
  x:QD
  y:QD
def HZ (q:QD):List Value:=[.int .i64 q.n,.int .u32 (q.d:Nat)]
def Gj (p:PD):List Value:=HZ p.x++HZ p.y
def QD.ok (q:QD):Prop := -9223372036854775808<=q.n/\q.n<9223372036854775808/\q.d<4294967296
def PD.ok (p:PD):Prop:=p.x.ok/\p.y.ok
def Lb (q:QD):Rat:=((q.n:Int):Rat)/(((max q.d 1:Nat):Int):Rat)
def HB (p:PD):Pt:=⟨Lb p.x,Lb p.y⟩
section
variable {P:Program} {w:World} {r:Reach} {base:Nat}
end
theorem WF {n:Int} (h:IntKind.i64.has n):-9223372036854775808<=n/\n<9223372036854775808:=by
  simp only [IntKind.has,IntKind.min,IntKind.max,IntKind.bits,IntKind.signed] at h;simp at h;omega
theorem Ws {n:Int} (h:IntKind.u32.has n):0<=n/\n<4294967296:=by
  simp only [IntKind.has,IntKind.min,IntKind.max,IntKind.bits,IntKind.signed] at h;simp at h;omega
section
variable {P:Program} {w:World} {r:Reach} {base:Nat} {t:TypeId} {v:Value} {ts:List TypeId}
end
end
section
def rowsL {α:Type} (enc:α->List Value) (xs:List α):List Value:=xs.flatMap enc
section
variable {α:Type} {enc:α->List Value} {z:Nat}
theorem Bk (xs ys:List α):rowsL enc (xs++ys)=rowsL enc xs++rowsL enc ys:=by simp [rowsL]
theorem A6 (h:∀x,(enc x).length=z) (xs:List α):(rowsL enc xs).length=xs.length*z:=by
  induction xs with
  | nil=>simp [rowsL]
  | cons x r ih =>
    have e:rowsL enc (x::r)=enc x++rowsL enc r:=rfl
    rw [e,List.length_append,ih,h,List.length_cons,Nat.add_mul];omega
theorem A8 (h:∀x,(enc x).length=z) (d:α):∀(xs:List α) (j:Nat),j<xs.length->((rowsL enc xs).drop (j*z)).take z=enc (xs.getD j d)
  | x::r,0,_=>by
    have e:rowsL enc (x::r)=enc x++rowsL enc r:=rfl
    rw [e,Nat.zero_mul,List.drop_zero,List.take_append_of_le_length (by rw [h];exact Nat.le_refl _),List.take_of_length_le (by rw [h];exact Nat.le_refl _)];rfl
  | x::r,j+1,hj=>by
    have e:rowsL enc (x::r)=enc x++rowsL enc r:=rfl
    rw [e,show (j+1)*z=(enc x).length+j*z by rw [h,Nat.add_mul];omega,List.drop_append,List.drop_of_length_le Z,Nat.add_sub_cancel_left,List.nil_append,A8 h d r j (by simpa using hj)];rfl
end
structure RX (cs:List Value) (n:Nat) where
  p:Option Addr
  c:Nat
  ok:Ar p n c
@[reducible] def RX.val {cs:List Value} {n:Nat} (a:RX cs n):Value:=.slice a.p n a.c
@[reducible] def RX.row {cs:List Value} {n:Nat} (a:RX cs n):As:=AJ a.p cs
instance {cs:List Value} {n:Nat}:CO (RX cs n):=⟨λa=>.slice a.p n a.c,λa=>[AJ a.p cs],λa y hy=>by rcases List.mem_singleton.1 hy with rfl;rfl⟩
theorem XA {S:Nat->Prop} {W w:World} {L:List As} (hw:BM ⟨W,none⟩ w L) (i:Nat) {p:Option Addr} {T:TypeId} {z n c:Nat} {cs:List Value} (hi:L[i]?=some (rowW p T z n c cs)) (ho:OwnOk p n c) (hl:cs.length=n*z) {v:Value} (hv:v=.slice p n c):Al (RX cs n) S W (.returned v) w:=by
  have hb:=hw.newRow hi
  refine ⟨⟨p,c,ho.row⟩,by rw [hv];rfl,hw.out,λy hy=>?_⟩
  rcases List.mem_singleton.1 hy with rfl
  refine ⟨λd e=>?_,λd e=>.inl (hb d e)⟩
  obtain ⟨_,o,ho2,hp⟩:=hw.2.1 _ (List.mem_of_getElem? hi) d e
  exact ⟨o,ho2,B_ ho hl hp⟩
def ao (xs:List Nat):List Value:=xs.map λx=>Value.int .u8 (x:Nat)
structure MQ where
  nx:Nat
  ny:Nat
  cs:List Nat
  p:Option Addr
  cap:Nat
  a:Int
  b:Int
  c:Int
  d:Int
  den:Nat
  fst:Nat
  hx:nx<256
  hy:ny<256
  ha:-128<=a/\a<=127
  hb:-128<=b/\b<=127
  hc:-128<=c/\c<=127
  hd:-128<=d/\d<=127
  hden:den<256
  hfst:fst<256
  hcs:∀x∈cs,x<256
  ok:Ar p cs.length cap
def cf (m:MQ):List Value:=[.int .u8 m.nx,.int .u8 m.ny,.slice m.p m.cs.length m.cap,.int .i8 m.a,.int .i8 m.b,.int .i8 m.c,.int .i8 m.d,.int .u8 m.den,.int .u8 m.fst]
instance:CO MQ:=⟨λm=>aG (cf m),λm=>[AJ m.p (ao m.cs)],λa y hy=>by rcases List.mem_singleton.1 hy with rfl;rfl⟩
abbrev P2:=Nat×Nat
def ZW (nx way i:Nat):List (P2×P2×P2) :=
  let x:=2*(i%nx);let y:=2*(i/nx)
  if way<3\/(way=7/\i=0) then [((x,y),(x+2,y),(x+2,y+2)),((x,y),(x+2,y+2),(x,y+2))]
  else if way<5 then [((x,y),(x+2,y),(x,y+2)),((x+2,y),(x+2,y+2),(x,y+2))]
  else if way<7 then [((x,y),(x+2,y),(x+1,y+1)),((x+2,y),(x+2,y+2),(x+1,y+1)),((x+2,y+2),(x,y+2),(x+1,y+1)),((x,y+2),(x,y),(x+1,y+1))] else []
section
variable {nx way i u v:Nat}
end
def Bh (p:P2):List Value:=[vN p.1,vN p.2]
def Am (t:Tq3):List Value:=[vN t.1,vN t.2.1,vN t.2.2]
theorem Af (t:Tq3):(Am t).length=3:=rfl
def bG (z:Int×Int):List Value:=[.int .i64 z.1,.int .i64 z.2]
def ay (m:MQ) (i:Nat):Nat:=if 0<m.cs.length then m.cs.getD (i%m.cs.length) 0%8 else 0
def br (m:MQ):Nat:=1+m.nx%3
def cL (m:MQ):Nat:=1+m.ny%3
def T7 (m:MQ):Nat->List (P2×P2×P2)
  | 0=>[]
  | i+1=>T7 m i++ZW (br m) (ay m i) i
def Ly (m:MQ):List (P2×P2×P2):=T7 m (br m*cL m)
structure PT where
  a:Int
  b:Int
  c:Int
  d:Int
def PT.det (k:PT):Int:=k.a*k.d-k.b*k.c
def PT.at_ (k:PT) (p:P2):Int×Int:=(k.a*p.1+k.b*p.2,k.c*p.1+k.d*p.2)
def bO (a b c d:Int):PT :=
  let k:PT:=⟨a.tmod 4,b.tmod 4,c.tmod 4,d.tmod 4⟩
  if k.det=0 then ⟨1,0,0,1⟩ else if k.det<0 then ⟨k.a,k.b,-k.c,-k.d⟩ else k
end
section
set_option maxRecDepth 100000
end
section
section
variable {P:Program}
end
def comp (c:P2×P2×P2) (k:Nat):P2:=if k=0 then c.1 else if k=1 then c.2.1 else c.2.2
def a0 (m:MQ) (t k:Nat):Nat:=(k+m.fst+t*(m.fst/3))%3
def Fd (m:MQ) (t k:Nat):P2:=comp ((Ly m).getD t ((0,0),(0,0),(0,0))) (a0 m t k)
structure ZE (m:MQ) (pl:List P2) (n:Tq3) (t:Nat):Prop where
  a:n.1<pl.length/\pl.getD n.1 (0,0)=Fd m t 0
  b:n.2.1<pl.length/\pl.getD n.2.1 (0,0)=Fd m t 1
  c:n.2.2<pl.length/\pl.getD n.2.2 (0,0)=Fd m t 2
def MC (pl:List P2) (p:P2):List P2×Nat:=if p∈pl then (pl,pl.idxOf p) else (pl++[p],pl.length)
def Y6 (m:MQ):Nat->List P2×List (Tq3)
  | 0=>([],[])
  | i+1=>((MC (MC (MC (Y6 m i).1 (Fd m i 0)).1 (Fd m i 1)).1 (Fd m i 2)).1,
      (Y6 m i).2++[((MC (Y6 m i).1 (Fd m i 0)).2,(MC (MC (Y6 m i).1 (Fd m i 0)).1 (Fd m i 1)).2,(MC (MC (MC (Y6 m i).1 (Fd m i 0)).1 (Fd m i 1)).1 (Fd m i 2)).2)])
structure Yy (m:MQ) (i:Nat) (pl:List P2) (ts:List (Tq3)):Prop where
  tl:ts.length=i
  pll:pl.length<=3*i
  at_:∀j,j<i->ZE m pl (ts.getD j (0,0,0)) j
  Jb:∀p∈pl,p.1<=6/\p.2<=6
  used:∀a,a<pl.length->∃j,j<i/\((ts.getD j (0,0,0)).1=a\/(ts.getD j (0,0,0)).2.1=a\/(ts.getD j (0,0,0)).2.2=a)
  fn:(pl,ts)=Y6 m i
def bB (pl:List P2):Prop:=∀a b,a<pl.length->b<pl.length->pl.getD a (0,0)=pl.getD b (0,0)->a=b
def mapM (m:MQ):PT:=bO m.a m.b m.c m.d
def D7 (t:Tq3) (x:Nat):Bool:=decide (t.1=x)||decide (t.2.1=x)||decide (t.2.2=x)
def ax (m:MQ) (a b:Nat):Tq3:=(a,b,(a+3*b+m.fst)%5)
def Zb (ts:List (Tq3)) (a b:Nat):Nat->Nat
  | 0=>0
  | i+1=>Zb ts a b i+(if D7 (ts.getD i (0,0,0)) a=true/\D7 (ts.getD i (0,0,0)) b=true then 1 else 0)
def ZH (m:MQ) (ts:List (Tq3)) (a:Nat):Nat->List (Tq3)
  | 0=>[]
  | j+1=>ZH m ts a j++(if Zb ts a (a+1+j) ts.length=1 then [ax m a (a+1+j)] else [])
def Ok (m:MQ) (ts:List (Tq3)) (N:Nat):Nat->List (Tq3)
  | 0=>[]
  | a+1=>Ok m ts N a++ZH m ts a (N-(a+1))
theorem Rw {l:List (Tq3)} {j:Nat} (h:j<l.length):l.take (j+1)=l.take j++[l.getD j (0,0,0)]:=by
  rw [List.take_add_one,List.getD,List.getElem?_eq_getElem h];rfl
structure WM (m:MQ) where
  pl:List P2
  ts:List (Tq3)
  ss:List (Tq3)
  inv:Yy m (Ly m).length pl ts
  dst:bB pl
  sl:ss.length<=108*108
  sd:ss=Ok m ts pl.length pl.length
  a:RX (rowsL bG (pl.map λp=>(mapM m).at_ p)) pl.length
  b:RX (rowsL Am ts) ts.length
  c:RX (rowsL Am ss) ss.length
def cC {m:MQ} (x:WM m):List Value:=[x.a.val,x.b.val,x.c.val]
theorem Z2 {m:MQ} {x:WM m} {y:As} (hy:y∈[x.a.row,x.b.row,x.c.row]):y.ro=true:=by
  simp only [List.mem_cons,List.not_mem_nil,or_false] at hy
  rcases hy with rfl|rfl|rfl<;>rfl
instance {m:MQ}:CO (WM m):=⟨λx=>aG (cC x),λx=>[x.a.row,x.b.row,x.c.row],λx y hy=>Z2 hy⟩
theorem DS {S:Nat->Prop} {W w:World} {L:List As} (hw:BM ⟨W,none⟩ w L) (i:Nat) {p:Option Addr} {T:TypeId} {z n c:Nat} {cs:List Value} (hi:L[i]?=some (rowW p T z n c cs)) (ho:OwnOk p n c) (hl:cs.length=n*z):Holds w (AJ p cs)/\∀b,(AJ p cs).foot=some b->W.heap.size<=b\/S b:=by
  have hb:=hw.newRow hi
  refine ⟨λd e=>?_,λd e=>.inl (hb d e)⟩
  obtain ⟨_,o,ho2,hp⟩:=hw.2.1 _ (List.mem_of_getElem? hi) d e
  exact ⟨o,ho2,B_ ho hl hp⟩
section
variable {P:Program} {ops:Array Oper} {rest:List Oper} {Q:Exit->Act->World->Prop} {n d:Nat} {F:List (Nat×Value)} {w0:BE} {S:Nat->Prop} {L:List As} {t:TypeId} {p:String} {af:Array Edge} {y:Operand} {f:FuncId} {xs:List Operand} {args:List Value} {ts:Array TypeId}
theorem cX {cs:List Value} {k:Nat} (hc:∀args w,(callFunc f args).run P w=.ok (.enter f args) w) (h:∀w,BM w0 w L->Calls P f args.toArray w (Al (RX cs k) (SL w0 S L) w))
    (hf:evF F y=some (.func (.func f) #[] #[])) (hargs:xs.map (evF F)=args.map some) (hd:Nat.ble (d+1) n=true) (next:∀a:RX cs k,At w0 S a->AC P ops rest Q n ((d,.slice a.p k a.c)::F) w0 (AJ a.p cs::L)) :
    AC P ops (⟨some d,.call { callee:=.value y,args:=xs.toArray,argTypes:=ts },t,p,af,none⟩::rest) Q n F w0 L:=AC.callR hc h hf hargs hd next
end
def Zt (p:Option Addr) (T:TypeId) (z n c:Nat) (cs:List Value):As:=⟨p.map (·.block),(rowW p T z n c cs).P,true⟩
structure cB (m:MQ) where
  x:WM m
  ob:OwnOk x.b.p x.ts.length x.b.c
def aj {m:MQ} (y:cB m):As:=Zt y.x.b.p 68 3 y.x.ts.length y.x.b.c (rowsL Am y.x.ts)
instance {m:MQ}:CO (cB m):=⟨λy=>aG (cC y.x),λy=>[y.x.a.row,y.x.b.row,y.x.c.row,aj y],λx y hy=>by
  simp only [List.mem_cons,List.not_mem_nil,or_false] at hy
  rcases hy with rfl|rfl|rfl|rfl<;>rfl⟩
end
section
set_option maxRecDepth 100000
theorem ZR:ElemT prog 28 68 3 24:=⟨underlying28,Co (by kernel_rfl)⟩
theorem El (t:Tq3) (x:Nat) (w:World)  :Calls prog 33 #[(aG (Am t)),(vN x)] w (Ak w (Value.bool (D7 t x))):=by
 refine An (args:=[(aG (Am t)),(vN x)]) func33 O O (AV O) (AE.subF (sL [0,1] O) (q4 (B0 (cs:=Am t) O λb1=>AI O (q3 (sL [1,2,4] O) (AK (v:=(pP b1 0)) (AG (j:=0) O O underlying68 sizeOf3 O (by decide) O) O (BL 0 (vN t.1) BR O (AM O (AK (BA (c:=(decide (t.1=x))) O O (KW (a:=t.1) (b:=x))) O (AM O ?_)))))))))
 refine AC.mid (FM:=[(1,(vN x)),(2,(pP b1 0)),(4,(Value.bool false)),(5,(pP b1 0)),(6,(vN t.1)),(7,(vN x)),(8,(Value.bool (decide (t.1=x)))),(9,(Value.bool (decide (t.1=x)))),(14,(Value.bool ((decide (t.1=x))||(decide (t.2.1=x)))))]) (LM:=[Ah b1 68 (Am t)]) 5 ?_ ?_
 ·rcases Bool.eq_false_or_eq_true (decide (t.1=x)) with hg1|hg1
  ·skip
   refine AC.retell (k:=9) (u:=Value.bool true) O (by rw [hg1]) ?_
   have hg1':=hg1
   replace hg1':=of_decide_eq_true hg1'
   exact AC.skip (AD O) O (AV O) (AC.skip (AD O) O (AV O) (AC.skip (AD O) O (AV O) (AC.skip (AD O) O (AV O) (AK (v:=(Value.bool true)) (AR O O) O (AC.nil (OkQ.mid (sS O (sS O (sS O (sS O (sS O (sS O (sS O (sS (by first|rfl|(rw [hg1];rfl)|rw [hg1]) (sS (by first|rfl|(rw [hg1];rfl)|rw [hg1]) (sN)))))))))) (List.Sublist.refl _)))))))
  ·skip
   refine AC.retell (k:=9) (u:=Value.bool false) O (by rw [hg1]) ?_
   have hg1':=hg1
   replace hg1':=of_decide_eq_false hg1'
   exact AC.step (v:=(pP b1 1)) (AA O) (AG (j:=1) O O underlying68 sizeOf3 O (by decide) O) O (AV O) (AC.step (v:=(vN t.2.1)) (AA O) (AN (i:=0) (v:=(vN t.2.1)) O O BR.a O) O (AV O) (AC.step (v:=(vN x)) (AA O) (AW O) O (AV O) (AC.step (v:=(Value.bool (decide (t.2.1=x)))) (AA O) (BA (c:=(decide (t.2.1=x))) O O (KW (a:=t.2.1) (b:=x))) O (AV O) (AK (v:=(Value.bool (decide (t.2.1=x)))) (AO O O) O (AC.nil (OkQ.mid (sS O (sS O (sS O (sS O (sS O (sS O (sS O (sS (by first|rfl|(rw [hg1];rfl)|rw [hg1]) (sS (by first|rfl|(rw [hg1];rfl)|rw [hg1]) (sN)))))))))) (List.Sublist.refl _)))))))
 refine AM O ?_
 refine AC.mid (FM:=[(1,(vN x)),(2,(pP b1 0)),(4,(Value.bool false)),(5,(pP b1 0)),(6,(vN t.1)),(7,(vN x)),(8,(Value.bool (decide (t.1=x)))),(9,(Value.bool (decide (t.1=x)))),(14,(Value.bool ((decide (t.1=x))||(decide (t.2.1=x))))),(15,(Value.bool ((decide (t.1=x))||(decide (t.2.1=x))))),(20,(Value.bool (((decide (t.1=x))||(decide (t.2.1=x)))||(decide (t.2.2=x)))))]) (LM:=[Ah b1 68 (Am t)]) 5 ?_ ?_
 ·rcases Bool.eq_false_or_eq_true ((decide (t.1=x))||(decide (t.2.1=x))) with hg2|hg2
  ·skip
   refine AC.retell (k:=15) (u:=Value.bool true) O (by rw [hg2]) ?_
   have hg2':=hg2
   simp only [Bool.and_eq_true,Bool.or_eq_true,Bool.and_eq_false_iff,Bool.or_eq_false_iff,Bool.not_eq_true',Bool.not_eq_false',decide_eq_true_eq,decide_eq_false_iff_not] at hg2'
   exact AC.skip (AD O) O (AV O) (AC.skip (AD O) O (AV O) (AC.skip (AD O) O (AV O) (AC.skip (AD O) O (AV O) (AK (v:=(Value.bool true)) (AR O O) O (AC.nil (OkQ.mid (sS O (sS O (sS O (sS O (sS O (sS O (sS O (sS O (sS O (sS (by first|rfl|(rw [hg2];rfl)|rw [hg2]) (sS (by first|rfl|(rw [hg2];rfl)|rw [hg2]) (sN)))))))))))) (List.Sublist.refl _)))))))
  ·skip
   refine AC.retell (k:=15) (u:=Value.bool false) O (by rw [hg2]) ?_
   have hg2':=hg2
   simp only [Bool.and_eq_true,Bool.or_eq_true,Bool.and_eq_false_iff,Bool.or_eq_false_iff,Bool.not_eq_true',Bool.not_eq_false',decide_eq_true_eq,decide_eq_false_iff_not] at hg2'
   exact AC.step (v:=(pP b1 2)) (AA O) (AG (j:=2) O O underlying68 sizeOf3 O (by decide) O) O (AV O) (AC.step (v:=(vN t.2.2)) (AA O) (AN (i:=0) (v:=(vN t.2.2)) O O BR.a O) O (AV O) (AC.step (v:=(vN x)) (AA O) (AW O) O (AV O) (AC.step (v:=(Value.bool (decide (t.2.2=x)))) (AA O) (BA (c:=(decide (t.2.2=x))) O O (KW (a:=t.2.2) (b:=x))) O (AV O) (AK (v:=(Value.bool (decide (t.2.2=x)))) (AO O O) O (AC.nil (OkQ.mid (sS O (sS O (sS O (sS O (sS O (sS O (sS O (sS O (sS O (sS (by first|rfl|(rw [hg2];rfl)|rw [hg2]) (sS (by first|rfl|(rw [hg2];rfl)|rw [hg2]) (sN)))))))))))) (List.Sublist.refl _)))))))
 exact AI O (AC.nil (OkQ.subF (sL [4] O) (OkQ.then_ (AE.ret (AS O (AZ (v:=(Value.bool (((decide (t.1=x))||(decide (t.2.1=x)))||(decide (t.2.2=x))))) O) (λw hw=>⟨by first|rfl|simp [D7,Bool.or_assoc],hw.out⟩))))))
end
end Go.Proofs.YtpgncndhhhllfaaGreat
