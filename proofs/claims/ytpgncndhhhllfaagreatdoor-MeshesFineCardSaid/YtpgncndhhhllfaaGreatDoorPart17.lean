import Derived.Test.YtpgncndhhhllfaaGreatDoorPart03
import Derived.Test.YtpgncndhhhllfaaGreatDoorPart16
namespace Go.Proofs.YtpgncndhhhllfaaGreatDoor
open Go Go.RowKit Go.Proofs.Tryz
set_option linter.unusedVariables false
set_option linter.unusedSimpArgs false
section
set_option maxRecDepth 100000
theorem DR (x0:Rat) (x1:Rat):Instr.fill ([(0,5),(5,5)].toArray[·]?) (Am (⟨0,0⟩:Pt)).toArray [(0,.agg (AO x0).toArray),(1,.agg (AO x1).toArray)]=some (AO x0++AO x1).toArray:=by kernel_rfl
theorem OV (a b:Pt) (hs:B_ a+B_ b<=68719476736) (w:World)  :Calls prog 204 #[(aG (Am a)),(aG (Am b)),(Value.func (.func 233) #[] #[])] w (An w (aG (Am (a-b)))):=by
 have p1:=Ez a
 have p2:=E1 a
 have p3:=Ez b
 have p4:=E1 b
 refine Af (args:=[(aG (Am a)),(aG (Am b)),(Value.func (.func 233) #[] #[])]) func204 O O (AT O) (AF.subF (sL [0,1,2] O) (q4 (BU (cs:=Am a) O λb1=>BU (cs:=Am b) O λb2=>al E8 O λb3=>?_)))
 refine q6 (sL [2,3,4,6] O) (Cd [(0,true),(1,true),(2,true),(3,true),(4,true),(6,true),(7,true),(8,true),(9,true),(10,true),(5,false),(11,false),(12,true),(13,false)] (sl sr) (Bb O (Aq (v:=(pP b1 0)) O (AA O underlying51 O sizeOf48 O) (Ff 1 (AO a.x) Bp O (Aq (v:=(pP b2 0)) O (AA O underlying51 O sizeOf48 O) ?_)))))
 refine Ff 0 (AO b.x) Bp O (Bb O (Aq (v:=(pP b1 5)) O (AA O underlying51 O sizeOf48 O) (Ff 1 (AO a.y) Bp O (Aq (v:=(pP b2 5)) O (AA O underlying51 O sizeOf48 O) (Ff 0 (AO b.y) Bp O ?_)))))
 refine OkE.imp O ?_
 have hz1:=GL a.x b.x
 refine ck' call233 (NR a.x b.x (by (try simp only [C5]);omega)) O (OkE.back (sl sr) (OkE.imp O ?_))
 have hz2:=GL a.y b.y
 refine ck' call233 (NR a.y b.y (by (try simp only [C5]);omega)) O (OkE.back (sl sr) (Aq (v:=(aG (AO (a.x-b.x)++AO (a.y-b.y)))) O (AV (zs:=Am (⟨0,0⟩:Pt)) (vs:=AO (a.x-b.x)++AO (a.y-b.y)) (pv:=[(0,(aG (AO (a.x-b.x)))),(1,(aG (AO (a.y-b.y))))]) (places:=[(0,5),(5,5)]) zeroValue51 underlying51 (λw=>by simp [sizeOf48]) O (DR (a.x-b.x) (a.y-b.y))) (OkE.imp O (A8 O sizeOf51 O (OkE.back (sl sr) ?_)))))
 exact OkE.nil (AC.subF (sL [6] O) (AC.then_ (AF.ret (AI O (Ap (i:=0) (cs:=AO (a.x-b.x)++AO (a.y-b.y)) O O isAgg51 sizeOf51 O) (λw hw=>⟨by rw [Xh],hw.out⟩)))))
theorem Jz (a b:Pt) (hs:B_ a+B_ b<=68719476736) (w:World)  :Calls prog 181 #[(aG (Am a)),(aG (Am b))] w (An w (aG (Am (a-b)))):=by
 refine Af (args:=[(aG (Am a)),(aG (Am b))]) func181 O O (AT O) (AF.subF (sL [0,1] O) (q4 (BU (cs:=Am a) O λb1=>BU (cs:=Am b) O λb2=>al E8 O λb3=>?_)))
 refine q3 (sL [2,3,4] O) (BD 2 BO O (BD 1 BO O (ck' call204 (OV a b Z) O (A8 O sizeOf51 O (AE.nil ?_)))))
 exact AC.subF (sL [4] O) (AC.then_ (AF.ret (AI O (Ap (i:=0) (cs:=Am (a-b)) O O isAgg51 sizeOf51 O) (λw hw=>⟨rfl,hw.out⟩))))
theorem L8 (a b:Pt) (hs:B_ a+B_ b<=68719476736) (w:World)  :Calls prog 180 #[(aG (Am a)),(aG (Am b))] w (An w (aG (AO (E_ a b)))):=by
 have p1:=Ez a
 have p2:=E1 a
 have p3:=Ez b
 have p4:=E1 b
 refine Af (args:=[(aG (Am a)),(aG (Am b))]) func180 O O (AT O) (AF.subF (sL [0,1] O) (q4 (BU (cs:=Am a) O λb1=>BU (cs:=Am b) O λb2=>al Eb O λb3=>?_)))
 refine q6 (sL [2,3,4] O) (Cd [(0,true),(1,true),(2,true),(3,true),(5,true),(6,true),(7,true),(8,true),(4,false),(9,false),(10,false),(11,false)] (sl sr) (Aq (v:=(pP b1 0)) O (AA O underlying51 O sizeOf48 O) (Ff 1 (AO a.x) Bp O (Aq (v:=(pP b2 5)) O (AA O underlying51 O sizeOf48 O) (Ff 0 (AO b.y) Bp O ?_)))))
 refine Aq (v:=(pP b1 5)) O (AA O underlying51 O sizeOf48 O) (Ff 1 (AO a.y) Bp O (Aq (v:=(pP b2 0)) O (AA O underlying51 O sizeOf48 O) (Ff 0 (AO b.x) Bp O (OkE.imp O ?_))))
 have hz1:=EK a.x b.y
 refine ck' call192 (KE a.x b.y (by (try simp only [C5]);omega)) O (OkE.back (sl sr) (OkE.imp O ?_))
 have hz2:=EK a.y b.x
 refine ck' call192 (KE a.y b.x (by (try simp only [C5]);omega)) O (OkE.back (sl sr) (OkE.imp O ?_))
 have hz3:=GL (a.x*b.y) (a.y*b.x)
 refine ck' call233 (NR (a.x*b.y) (a.y*b.x) (by (try simp only [C5]);omega)) O (OkE.back (sl sr) (OkE.imp O (A8 O sizeOf48 O (OkE.back (sl sr) (OkE.nil ?_)))))
 exact AC.subF (sL [4] O) (AC.then_ (AF.ret (AI O (Ap (i:=0) (cs:=AO ((a.x*b.y)-(a.y*b.x))) O O isAgg48 sizeOf48 O) (λw hw=>⟨rfl,hw.out⟩))))
theorem IC (a b c:Pt) (hs:B_ a+B_ b+B_ c<=17179869184) (w:World)  :Calls prog 121 #[(aG (Am a)),(aG (Am b)),(aG (Am c))] w (An w (vI ((AX a b c).num.sign))):=by
 refine Af (args:=[(aG (Am a)),(aG (Am b)),(aG (Am c))]) func121 O O (AT O) (AF.subF (sL [0,1,2] O) (q4 (BU (cs:=Am a) O λb1=>BU (cs:=Am b) O λb2=>BU (cs:=Am c) O λb3=>?_)))
 refine asg' O (q6 (sL [3,4,5,6] O) (Cd [(0,true),(1,true),(3,true),(4,true),(2,false),(5,false),(6,false),(7,false),(8,true)] sr (Da 1 BO O (Da 2 BO O (Da 0 BO O ?_)))))
 refine Da 2 BO O (OkE.imp O ?_)
 have hz1:=FH b a
 refine ck' call181 (Jz b a Z) O (OkE.back sr (OkE.imp O ?_))
 have hz2:=FH c a
 refine ck' call181 (Jz c a Z) O (OkE.back sr (OkE.imp O ?_))
 have hz3:=IP (b-a) (c-a)
 refine ck' call180 (L8 (b-a) (c-a) Z) O (OkE.back sr (OkE.imp O (ck' call179 (E7 (E_ (b-a) (c-a))) O (OkE.back sr (pS' O ?_)))))
 exact OkE.nil (AC.subF (sL [6] O) (AC.then_ (AF.ret (AI O (AY (v:=(vI ((E_ (b-a) (c-a)).num.sign))) O) (λw hw=>⟨rfl,hw.out⟩)))))
theorem Jp (x y:Int) (h1:-9223372036854775808<=x) (h2:x<9223372036854775808) (h3:-9223372036854775808<=y) (h4:y<9223372036854775808) (w:World)  :Calls prog 36 #[(vI x),(vI y)] w (An w (aG (Am (⟨((x:Int):Rat),((y:Int):Rat)⟩:Pt)))):=by
 refine Af (args:=[(vI x),(vI y)]) func36 O O (AT O) (AF.subF (sL [0,1] O) (q4 (al E8 O λb1=>AE.nil (q2 ?_))))
 refine AM O (ck' call15 (Jx x Z Z) O (AM O (ck' call15 (Jx y Z Z) O (AH (v:=(aG (AO ((x:Int):Rat)++AO ((y:Int):Rat)))) (AV (zs:=Am (⟨0,0⟩:Pt)) (vs:=AO ((x:Int):Rat)++AO ((y:Int):Rat)) (pv:=[(0,(aG (AO ((x:Int):Rat)))),(1,(aG (AO ((y:Int):Rat))))]) (places:=[(0,5),(5,5)]) zeroValue51 underlying51 (λw=>by simp [sizeOf48]) O (DR ((x:Int):Rat) ((y:Int):Rat))) O (A8 O sizeOf51 O ?_)))))
 exact AE.nil (AC.subF (sL [4] O) (AC.then_ (AF.ret (AI O (Ap (i:=0) (cs:=AO ((x:Int):Rat)++AO ((y:Int):Rat)) O O isAgg51 sizeOf51 O) (λw hw=>⟨by rw [Zn],hw.out⟩)))))
end
section
set_option maxRecDepth 100000
theorem WE (x y:Int) (h1:-9223372036854775808<=x) (h2:x<9223372036854775808) (h3:-9223372036854775808<=y) (h4:y<9223372036854775808) (hy:y≠0) (w:World)  :Calls prog 166 #[(vI x),(vI y)] w (An w (Value.tuple #[(aG (AO (((x:Int):Rat)/((y:Int):Rat)))),(vI 0)])):=by
 have hb:((y:Int):Rat)≠0:=λe=>hy (by exact_mod_cast e)
 have s1:=Ht h1 h2
 have s2:=Ht h3 h4
 refine Af (args:=[(vI x),(vI y)]) func166 O O (AT O) (AF.subF (sL [0,1] O) (q4 (al Eb O λb1=>asg' O (AE.nil ?_))))
 refine q2 (AM O (ck' call15 (Jx x Z Z) O (AM O (ck' call15 (Jx y Z Z) O ?_))))
 have hz1:=It (a:=((x:Int):Rat)) (b:=((y:Int):Rat)) (by assumption)
 refine ck' call217 (J8 ((x:Int):Rat) ((y:Int):Rat) Z (by assumption)) O (AH (Aa (v:=(aG (AO (((x:Int):Rat)/((y:Int):Rat))))) O O) O (AH (Aa (v:=(vI 0)) O O) O (A8 O sizeOf48 O (asg' O (AE.nil ?_)))))
 exact AC.subF (sL [4,5] O) (AC.then_ (AF.ret (Cp O (Ap (i:=0) (cs:=AO (((x:Int):Rat)/((y:Int):Rat))) O O isAgg48 sizeOf48 O) (AY (v:=(vI 0)) O) (λw hw=>⟨rfl,hw.out⟩))))
theorem UW (x:Rat) (hs:Sz x<=137438953472) (w:World)  :Calls prog 136 #[(aG (AO x))] w (An w (aG (AO (x*(1/2))))):=by
 have sh:=Rc
 refine Af (args:=[(aG (AO x))]) func136 O O (AT O) (AF.subF (sL [0] O) (q4 (BU (cs:=AO x) O λb1=>al Eb O λb2=>q3 (sL [1,2] O) ?_)))
 refine ck' call166 (WE (1:Int) (2:Int) Z Z Z Z Z) O (AM O (AH (Aa (v:=(aG (AO (((1:Int):Rat)/((2:Int):Rat))))) O O) O (AE.retell (k:=7) (u:=(aG (AO ((1:Rat)/2)))) O (by rw [YK]) (AH (Aa (v:=(vI 0)) O O) O (al Eb O λb3=>?_)))))
 refine A8 O sizeOf48 O (asg' O (q3 (sL [1,2,3] O) (BD 2 Bp O (BD 0 Bp O ?_))))
 have hz1:=EK x ((1:Rat)/2)
 exact ck' call192 (KE x ((1:Rat)/2) (by (try simp only [C5]);omega)) O (Cm O sizeOf48 O (AE.nil (AC.subF (sL [2,3] O) (AC.then_ (AF.ret (AI O (Ap (i:=1) (cs:=AO (x*((1:Rat)/2))) O O isAgg48 sizeOf48 O) (λw hw=>⟨rfl,hw.out⟩)))))))
theorem Dw (a b c:Pt) (hs:B_ a+B_ b+B_ c<=8589934592) (w:World)  :Calls prog 137 #[(aG (Am a)),(aG (Am b)),(aG (Am c))] w (An w (aG (AO (AX a b c)))):=by
 refine Af (args:=[(aG (Am a)),(aG (Am b)),(aG (Am c))]) func137 O O (AT O) (AF.subF (sL [0,1,2] O) (q4 (BU (cs:=Am a) O λb1=>BU (cs:=Am b) O λb2=>BU (cs:=Am c) O λb3=>?_)))
 refine al Eb O λb4=>q6 (sL [3,4,5,6] O) (Cd [(0,true),(1,true),(3,true),(4,true),(2,false),(5,false),(6,false),(7,false)] (sl sr) (Da 1 BO O (Da 2 BO O (Da 0 BO O ?_))))
 refine Da 2 BO O (OkE.imp O ?_)
 have hz1:=FH b a
 refine ck' call181 (Jz b a Z) O (OkE.back (sl sr) (OkE.imp O ?_))
 have hz2:=FH c a
 refine ck' call181 (Jz c a Z) O (OkE.back (sl sr) (OkE.imp O ?_))
 have hz3:=IP (b-a) (c-a)
 refine ck' call180 (L8 (b-a) (c-a) Z) O (OkE.back (sl sr) (OkE.imp O (A8 O sizeOf48 O (OkE.back (sl sr) (OkE.nil ?_)))))
 exact AC.subF (sL [6] O) (AC.then_ (AF.ret (AI O (Ap (i:=0) (cs:=AO (E_ (b-a) (c-a))) O O isAgg48 sizeOf48 O) (λw hw=>⟨rfl,hw.out⟩))))
theorem Yi (a b c:Pt) (hs:B_ a+B_ b+B_ c<=8589934592) (w:World)  :Calls prog 77 #[(aG (Am a)),(aG (Am b)),(aG (Am c))] w (An w (aG (AO (AX a b c*(1/2))))):=by
 refine Af (args:=[(aG (Am a)),(aG (Am b)),(aG (Am c))]) func77 O O (AT O) (AF.subF (sL [0,1,2] O) (q4 (BU (cs:=Am a) O λb1=>BU (cs:=Am b) O λb2=>BU (cs:=Am c) O λb3=>?_)))
 refine al Eb O λb4=>q3 (sL [3,4,5,6] O) (BD 3 BO O (BD 2 BO O (BD 1 BO O ?_)))
 have hz1:=Dl a b c
 refine ck' call137 (Dw a b c Z) O ?_
 have hz2:=EK (AX a b c) (1/2)
 exact ck' call136 (UW (AX a b c) Z) O (A8 O sizeOf48 O (AE.nil (AC.subF (sL [6] O) (AC.then_ (AF.ret (AI O (Ap (i:=0) (cs:=AO ((AX a b c)*(1/2))) O O isAgg48 sizeOf48 O) (λw hw=>⟨rfl,hw.out⟩)))))))
end
section
set_option maxRecDepth 100000
theorem CV (x0:Rat) (x1:Rat) (x2:Rat):Instr.fill (λi=>some (i*5,5)) (AO (0:Rat)++AO (0:Rat)++AO (0:Rat)).toArray [(0,.agg (AO x0).toArray),(1,.agg (AO x1).toArray),(2,.agg (AO x2).toArray)]=some (AO x0++AO x1++AO x2).toArray:=by kernel_rfl
theorem W6 (a b c p:Pt) (hs:B_ a+B_ b+B_ c+B_ p<=268435456) (h:AX a b c≠0) (w:World)  :Calls prog 187 #[(aG (Am a)),(aG (Am b)),(aG (Am c)),(aG (Am p))] w (An w (Value.tuple #[(aG (AO (AX p b c/AX a b c)++AO (AX a p c/AX a b c)++AO (AX a b p/AX a b c))),(vI 0)])):=by
 refine Af (args:=[(aG (Am a)),(aG (Am b)),(aG (Am c)),(aG (Am p))]) func187 O O (AT O) (AF.subF (sL [0,1,2,3] O) (q4 (BU (cs:=Am a) O λb1=>BU (cs:=Am b) O λb2=>BU (cs:=Am c) O λb3=>?_)))
 refine BU (cs:=Am p) O λb4=>al MO O λb5=>asg' O (q3 (sL [4,5,6,7,8,9] O) (BD 4 BO O (BD 3 BO O ?_)))
 refine BD 2 BO O ?_
 have hz1:=Dl a b c
 refine ck' call137 (Dw a b c Z) O (al Eb O λb6=>A8 O sizeOf48 O (q6 (sL [4,5,6,7,8,9,10] O) (rN [(0,true),(1,true),(2,true),(4,true),(5,true),(6,true),(8,true),(9,true),(10,true),(3,false),(7,false),(11,false),(12,true)] [⟨13,11,268,AO (0:Rat)++AO (0:Rat)++AO (0:Rat)⟩] [(14,false)] sr (by kernel_rfl) (λ_ _ d _ _ h=>by cases d<;>exact h) (HV O O MO O (JV)) O (Ia 2 BO O ?_))))
 refine Ia 4 BO O (Ia 3 BO O (Ia 5 BO O (Ia 2 BO O (Ia 3 BO O (Ia 5 BO O ?_)))))
 refine Ia 4 BO O (Ia 2 BO O (Ci.imp O λEF EL=>?_))
 have hz2:=Dl p b c
 refine ck' call137 (Dw p b c Z) O (Ci.back0 sr O (Ci.imp O λEF EL=>?_))
 have hz3:=Dl a p c
 refine ck' call137 (Dw a p c Z) O (Ci.back0 sr O (Ci.imp O λEF EL=>?_))
 have hz4:=Dl a b p
 refine ck' call137 (Dw a b p Z) O (Ci.back0 sr O (Hq (v:=(aG (AO (AX p b c)++AO (AX a p c)++AO (AX a b p)))) O (A6 (zs:=AO (0:Rat)++AO (0:Rat)++AO (0:Rat)) (vs:=AO (AX p b c)++AO (AX a p c)++AO (AX a b p)) (pv:=[(0,(aG (AO (AX p b c)))),(1,(aG (AO (AX a p c)))),(2,(aG (AO (AX a b p))))]) zeroValue268 underlying268 sizeOf48 O (CV (AX p b c) (AX a p c) (AX a b p))) O (Ci.news1 λb7=>OkE.imp O (A8 O sizeOf268 O ?_))))
 refine OkE.back (sl sr) (OkE.nil (AC.subF (sL [4,5,6,8,9,10,11] O) (q1 (q4 (AM O ?_)))))
 refine AE.nil (AC.then_ (AF.block (AF.unroll 5 (FP.step (q4 ?_)))))
 refine AH (Ae (c:=true) O O (by decide)) O (AE.nil (q1 (AF.cond_true O (AF.skip (q1 ?_)))))
 refine AF.block (q4 (AM O (asg' O (q6 (sL [4,5,6,8,9,10,11,32,12] O) (rN [(0,true),(1,true),(2,true),(3,true),(4,false),(5,true),(6,true),(7,true)] [⟨8,13,48,AO (0:Rat)⟩] [(9,false),(10,true)] sr (by kernel_rfl) (λ_ _ d _ _ h=>by cases d<;>exact h) (HV O O Eb O (JV)) O ?_)))))
 refine Pf O (Hq (v:=(pP b7 0)) O (AD (j:=0) O O underlying268 sizeOf48 O (by decide) O) O (U6 0 (AO (AX p b c)) Bp O (Ia 1 Bp O (Ci.imp O λEF EL=>?_))))
 have hz5:=It (a:=AX p b c) (b:=AX a b c) (by assumption)
 refine ck' call217 (J8 (AX p b c) (AX a b c) Z (by assumption)) O (Ci.back0 sr O (Pf O (Hq O (Aa (v:=(aG (AO ((AX p b c)/(AX a b c))))) O O) O (Hq O (Aa (v:=(vI 0)) O O) O (Ci.news1 λb8=>?_)))))
 refine OkE.imp O (A8 O sizeOf48 O (OkE.back (sl sr) (pS' O (OkE.nil (AC.subF (sL [4,5,6,8,9,10,11,32,12,13,14] O) ?_)))))
 refine q1 (q4 (AM O (AH (Bx (c:=false) O O (by decide)) O (AE.nil (AC.subF (sL [4,5,6,8,9,10,11,32,12,13,44] O) ?_)))))
 refine AC.then_ (AF.cond_false O (AF.skip (AC.then_ (AF.region (AM O ?_)))))
 refine BD 0 Bp O (AH (v:=(pP b7 0)) (AD (j:=0) O O underlying268 sizeOf48 O (by decide) O) O (Eg 1 (off:=0) (vs:=AO ((AX p b c)/(AX a b c))) (cs':=AO ((AX p b c)/(AX a b c))++AO (AX a p c)++AO (AX a b p)) (AS O) O sizeOf48 O (AE.nil (AC.subF (sL [4,5,6,8,9,10,11,32,12,13] O) (AC.in_normal ?_)))))
 refine AC.then_ (AF.region (AH (AW (c:=(1:Int)) O O (by decide)) O (AM O (AE.nil (AC.subF (sL [4,5,6,8,9,10,11,32,12,13] O) ?_)))))
 refine AC.again (FP.step (q4 (AH (Ae (c:=true) O O (by decide)) O (AE.nil (q1 ?_)))))
 refine AF.cond_true O (AF.skip (q1 (AF.block (q4 (AM O ?_)))))
 refine asg' O (q6 (sL [4,5,6,8,9,10,11,32,12,13] O) (AF.subF (sL [4,5,6,8,9,10,11,32,12] O) (rN [(0,true),(1,true),(2,true),(3,true),(4,false),(5,true),(6,true),(7,true)] [⟨8,13,48,AO (0:Rat)⟩] [(9,false),(10,true)] sr (by kernel_rfl) (λ_ _ d _ _ h=>by cases d<;>exact h) (HV O O Eb O (JV)) O (Pf O (Hq (v:=(pP b7 5)) O (AD (j:=1) O O underlying268 sizeOf48 O (by decide) O) O ?_)))))
 refine U6 1 (AO (AX a p c)) Bp O (Ia 2 Bp O (Ci.imp O λEF EL=>?_))
 have hz6:=It (a:=AX a p c) (b:=AX a b c) (by assumption)
 refine ck' call217 (J8 (AX a p c) (AX a b c) Z (by assumption)) O (Ci.back0 sr O (Pf O (Hq O (Aa (v:=(aG (AO ((AX a p c)/(AX a b c))))) O O) O (Hq O (Aa (v:=(vI 0)) O O) O (Ci.news1 λb9=>?_)))))
 refine OkE.imp O (A8 O sizeOf48 O (OkE.back (sl sr) (pS' O (OkE.nil (AC.subF (sL [4,5,6,8,9,10,11,32,12,13,14] O) ?_)))))
 refine q1 (q4 (AM O (AH (Bx (c:=false) O O (by decide)) O (AE.nil (AC.subF (sL [4,5,6,8,9,10,11,32,12,13,44] O) ?_)))))
 refine AC.then_ (AF.cond_false O (AF.skip (AC.then_ (AF.region (AM O ?_)))))
 refine BD 0 Bp O (AH (v:=(pP b7 5)) (AD (j:=1) O O underlying268 sizeOf48 O (by decide) O) O (Eg 2 (off:=5) (vs:=AO ((AX a p c)/(AX a b c))) (cs':=AO ((AX p b c)/(AX a b c))++AO ((AX a p c)/(AX a b c))++AO (AX a b p)) (AS O) O sizeOf48 O (AE.nil (AC.subF (sL [4,5,6,8,9,10,11,32,12,13] O) (AC.in_normal ?_)))))
 refine AC.then_ (AF.region (AH (AW (c:=(2:Int)) O O (by decide)) O (AM O (AE.nil (AC.subF (sL [4,5,6,8,9,10,11,32,12,13] O) ?_)))))
 refine AC.again (FP.step (q4 (AH (Ae (c:=true) O O (by decide)) O (AE.nil (q1 ?_)))))
 refine AF.cond_true O (AF.skip (q1 (AF.block (q4 (AM O ?_)))))
 refine asg' O (q6 (sL [4,5,6,8,9,10,11,32,12,13] O) (AF.subF (sL [4,5,6,8,9,10,11,32,12] O) (rN [(0,true),(1,true),(2,true),(3,true),(4,false),(5,true),(6,true),(7,true)] [⟨8,13,48,AO (0:Rat)⟩] [(9,false),(10,true)] sr (by kernel_rfl) (λ_ _ d _ _ h=>by cases d<;>exact h) (HV O O Eb O (JV)) O (Pf O (Hq (v:=(pP b7 10)) O (AD (j:=2) O O underlying268 sizeOf48 O (by decide) O) O ?_)))))
 refine U6 2 (AO (AX a b p)) Bp O (Ia 3 Bp O (Ci.imp O λEF EL=>?_))
 have hz7:=It (a:=AX a b p) (b:=AX a b c) (by assumption)
 refine ck' call217 (J8 (AX a b p) (AX a b c) Z (by assumption)) O (Ci.back0 sr O (Pf O (Hq O (Aa (v:=(aG (AO ((AX a b p)/(AX a b c))))) O O) O (Hq O (Aa (v:=(vI 0)) O O) O (Ci.news1 λb10=>?_)))))
 refine OkE.imp O (A8 O sizeOf48 O (OkE.back (sl sr) (pS' O (OkE.nil (AC.subF (sL [4,5,6,8,9,10,11,32,12,13,14] O) ?_)))))
 refine q1 (q4 (AM O (AH (Bx (c:=false) O O (by decide)) O (AE.nil (AC.subF (sL [4,5,6,8,9,10,11,32,12,13,44] O) ?_)))))
 refine AC.then_ (AF.cond_false O (AF.skip (AC.then_ (AF.region (AM O ?_)))))
 refine BD 0 Bp O (AH (v:=(pP b7 10)) (AD (j:=2) O O underlying268 sizeOf48 O (by decide) O) O (Eg 3 (off:=10) (vs:=AO ((AX a b p)/(AX a b c))) (cs':=AO ((AX p b c)/(AX a b c))++AO ((AX a p c)/(AX a b c))++AO ((AX a b p)/(AX a b c))) (AS O) O sizeOf48 O (AE.nil (AC.subF (sL [4,5,6,8,9,10,11,32,12,13] O) (AC.in_normal ?_)))))
 refine AC.then_ (AF.region (AH (AW (c:=(3:Int)) O O (by decide)) O (AM O (AE.nil (AC.subF (sL [4,5,6,8,9,10,11,32,12,13] O) ?_)))))
 refine AC.again (FP.step (q4 (AH (Ae (c:=false) O O (by decide)) O (AE.nil (q1 ?_)))))
 refine AF.cond_false O (AF.exit (AC.then_exit (AC.then_exit (AC.in_exit (q2 ?_)))))
 refine BD 3 bP O (Eg 5 (off:=0) (vs:=AO ((AX p b c)/(AX a b c))++AO ((AX a p c)/(AX a b c))++AO ((AX a b p)/(AX a b c))) (cs':=AO ((AX p b c)/(AX a b c))++AO ((AX a p c)/(AX a b c))++AO ((AX a b p)/(AX a b c))) (AS O) O sizeOf268 O (asg' O (AE.nil (AC.subF (sL [4,5,6,8,9,10,11,32,12,13] O) (AC.then_ ?_)))))
 exact AF.ret (Cp O (Ap (i:=5) (cs:=AO ((AX p b c)/(AX a b c))++AO ((AX a p c)/(AX a b c))++AO ((AX a b p)/(AX a b c))) O O isAgg268 sizeOf268 O) (AY (v:=(vI 0)) O) (λw hw=>⟨rfl,hw.out⟩))
theorem LC  :Instr.fill (λi=>some (i*5,5)) (AO (0:Rat)++AO (0:Rat)++AO (0:Rat)).toArray []=some (AO (0:Rat)++AO (0:Rat)++AO (0:Rat)).toArray:=by kernel_rfl
theorem VW (a b c p:Pt) (hs:B_ a+B_ b+B_ c+B_ p<=268435456) (h:AX a b c=0) (w:World)  :Calls prog 187 #[(aG (Am a)),(aG (Am b)),(aG (Am c)),(aG (Am p))] w (An w (Value.tuple #[(aG (AO (0:Rat)++AO (0:Rat)++AO (0:Rat))),(vI 1)])):=by
 refine Af (args:=[(aG (Am a)),(aG (Am b)),(aG (Am c)),(aG (Am p))]) func187 O O (AT O) (AF.subF (sL [0,1,2,3] O) (q4 (BU (cs:=Am a) O λb1=>BU (cs:=Am b) O λb2=>BU (cs:=Am c) O λb3=>?_)))
 refine BU (cs:=Am p) O λb4=>al MO O λb5=>asg' O (q3 (sL [4,5,6,7,8,9] O) (BD 4 BO O (BD 3 BO O ?_)))
 refine BD 2 BO O ?_
 have hz1:=Dl a b c
 refine ck' call137 (Dw a b c Z) O (al Eb O λb6=>A8 O sizeOf48 O (q6 (sL [4,5,6,7,8,9,10] O) (rN [(0,true),(1,true),(2,true),(4,true),(5,true),(6,true),(8,true),(9,true),(10,true),(3,false),(7,false),(11,false),(12,true)] [⟨13,11,268,AO (0:Rat)++AO (0:Rat)++AO (0:Rat)⟩] [(14,false)] sr (by kernel_rfl) (λ_ _ d _ _ h=>by cases d<;>exact h) (HV O O MO O (JV)) O (Ia 2 BO O ?_))))
 refine Ia 4 BO O (Ia 3 BO O (Ia 5 BO O (Ia 2 BO O (Ia 3 BO O (Ia 5 BO O ?_)))))
 refine Ia 4 BO O (Ia 2 BO O (Ci.imp O λEF EL=>?_))
 have hz2:=Dl p b c
 refine ck' call137 (Dw p b c Z) O (Ci.back0 sr O (Ci.imp O λEF EL=>?_))
 have hz3:=Dl a p c
 refine ck' call137 (Dw a p c Z) O (Ci.back0 sr O (Ci.imp O λEF EL=>?_))
 have hz4:=Dl a b p
 refine ck' call137 (Dw a b p Z) O (Ci.back0 sr O (Hq (v:=(aG (AO (AX p b c)++AO (AX a p c)++AO (AX a b p)))) O (A6 (zs:=AO (0:Rat)++AO (0:Rat)++AO (0:Rat)) (vs:=AO (AX p b c)++AO (AX a p c)++AO (AX a b p)) (pv:=[(0,(aG (AO (AX p b c)))),(1,(aG (AO (AX a p c)))),(2,(aG (AO (AX a b p))))]) zeroValue268 underlying268 sizeOf48 O (CV (AX p b c) (AX a p c) (AX a b p))) O (Ci.news1 λb7=>OkE.imp O (A8 O sizeOf268 O ?_))))
 refine OkE.back (sl sr) (OkE.nil (AC.subF (sL [4,5,6,8,9,10,11] O) (q1 (q4 (AM O ?_)))))
 refine AE.nil (AC.then_ (AF.block (AF.unroll 5 (FP.step (q4 ?_)))))
 refine AH (Ae (c:=true) O O (by decide)) O (AE.nil (q1 (AF.cond_true O (AF.skip (q1 ?_)))))
 refine AF.block (q4 (AM O (asg' O (q6 (sL [4,5,6,8,9,10,11,32,12] O) (rN [(0,true),(1,true),(2,true),(3,true),(4,false),(5,true),(6,true),(7,true)] [⟨8,13,48,AO (0:Rat)⟩] [(9,false),(10,true)] sr (by kernel_rfl) (λ_ _ d _ _ h=>by cases d<;>exact h) (HV O O Eb O (JV)) O ?_)))))
 refine Pf O (Hq (v:=(pP b7 0)) O (AD (j:=0) O O underlying268 sizeOf48 O (by decide) O) O (U6 0 (AO (AX p b c)) Bp O (Ia 1 Bp O (Ci.imp O λEF EL=>Cj (args:=[(aG (AO (AX p b c))),(aG (AO (AX a b c)))]) (v:=(Value.tuple #[(aG (AO (0:Rat))),(vI 5)])) call217 (λw hw=>(by rw [h];exact V5 _ w)) O ?_))))
 refine Ci.back0 sr O (Pf O (Hq O (Aa (v:=(aG (AO (0:Rat)))) O O) O (Hq O (Aa (v:=(vI 5)) O O) O (Ci.news1 λb8=>OkE.imp O ?_))))
 refine A8 O sizeOf48 O (OkE.back (sl sr) (pS' O (OkE.nil (AC.subF (sL [4,5,6,8,9,10,11,32,12,13,14] O) (q1 ?_)))))
 refine q4 (AM O (AH (Bx (c:=true) O O (by decide)) O (AE.nil (AC.subF (sL [4,5,6,8,9,10,11,32,12,13,44] O) (AC.then_ ?_)))))
 refine AF.cond_true O (q4 (AH (v:=(aG (AO (0:Rat)++AO (0:Rat)++AO (0:Rat)))) (A6 (zs:=AO (0:Rat)++AO (0:Rat)++AO (0:Rat)) (vs:=AO (0:Rat)++AO (0:Rat)++AO (0:Rat)) (pv:=[]) zeroValue268 underlying268 sizeOf48 O (LC )) O (JP O sizeOf268 O (asg' O (AE.nil ?_)))))
 refine AC.subF (sL [4,5,6,8,9,10,11,32,12,13] O) (AC.then_ (AF.ret (AC.then_ret (AC.in_ret (AC.then_ret ?_)))))
 exact AC.then_ret (AC.in_ret (AC.then_ret (Cp O (Ap (i:=3) (cs:=AO (0:Rat)++AO (0:Rat)++AO (0:Rat)) O O isAgg268 sizeOf268 O) (AY (v:=(vI 1)) O) (λw hw=>⟨rfl,hw.out⟩))))
end
def zq (q:Rat):Nat:=if q.num.sign=0 then 1 else 0
def GP (x y z:Rat):Nat:=if x.num.sign = -1\/y.num.sign = -1\/z.num.sign = -1 then 0 else 1+zq x+zq y+zq z
theorem P8 {x y z:Rat} (h:x.num.sign = -1):GP x y z=0:=if_pos (.inl h)
theorem PY {x y z:Rat} (h:y.num.sign = -1):GP x y z=0:=if_pos (.inr (.inl h))
theorem QZ {x y z:Rat} (h:z.num.sign = -1):GP x y z=0:=if_pos (.inr (.inr h))
theorem WU {x y z:Rat} (h1:¬x.num.sign = -1) (h2:¬y.num.sign = -1) (h3:¬z.num.sign = -1):GP x y z=1+zq x+zq y+zq z:=if_neg (by simp [h1,h2,h3])
theorem Pc {x:Rat} (h:x.num.sign=0):zq x=1:=if_pos h
theorem Nm {x:Rat} (h:¬x.num.sign=0):zq x=0:=if_neg h
theorem VJ (x:Rat):zq x<=1:=by unfold zq;split<;>omega
section
set_option maxRecDepth 100000
end
section
set_option maxRecDepth 100000
end
section
set_option maxRecDepth 100000
set_option maxHeartbeats 2000000 in
theorem Vx (a b c p:Pt) (hs:B_ a+B_ b+B_ c+B_ p<=268435456) (h:AX a b c≠0) (w:World)  :Calls prog 129 #[(aG (Am a)),(aG (Am b)),(aG (Am c)),(aG (Am p))] w (An w (vN (GP (AX p b c/AX a b c) (AX a p c/AX a b c) (AX a b p/AX a b c)))):=by
 obtain ⟨l0,hl0⟩:∃l,l=AX p b c/AX a b c:=⟨_,rfl⟩
 obtain ⟨l1,hl1⟩:∃l,l=AX a p c/AX a b c:=⟨_,rfl⟩
 obtain ⟨l2,hl2⟩:∃l,l=AX a b p/AX a b c:=⟨_,rfl⟩
 refine Af (args:=[(aG (Am a)),(aG (Am b)),(aG (Am c)),(aG (Am p))]) func129 O O (AT O) (AF.subF (sL [0,1,2,3] O) (q4 (BU (cs:=Am a) O λb1=>BU (cs:=Am b) O λb2=>BU (cs:=Am c) O λb3=>?_)))
 refine BU (cs:=Am p) O λb4=>asg' O (q3 (sL [4,5,6,7,8] O) (BD 3 BO O (BD 2 BO O (BD 1 BO O ?_))))
 refine BD 0 BO O (Cj (args:=[(aG (Am a)),(aG (Am b)),(aG (Am c)),(aG (Am p))]) (v:=(Value.tuple #[(aG (AO l0++AO l1++AO l2)),(vI 0)])) call187 (λw hw=>(by rw [hl0,hl1,hl2];exact W6 a b c p Z h w)) O (AM O (AH (Aa (v:=(aG (AO l0++AO l1++AO l2))) O O) O (AH (Aa (v:=(vI 0)) O O) O (al MO O λb5=>?_)))))
 refine A8 O sizeOf268 O (asg' O (q6 (sL [8,9,10] O) (q4 (AM O (AH (Bx (c:=false) O O (by decide)) O ?_)))))
 refine AE.nil (AC.subF (sL [8,9,22] O) (AC.then_ (AF.cond_false O (AF.skip (q2 ?_)))))
 refine asg' O (q6 (sL [8,9,11] O) (q4 (AM O (AE.nil (AC.then_ ?_)))))
 refine AF.block (AF.unroll 5 (FP.step (q4 (AH (Ae (c:=true) O O (by decide)) O (AE.nil ?_)))))
 refine q1 (AF.cond_true O (AF.skip (q1 (AF.block (q4 ?_)))))
 refine AM O (asg' O (q3 (sL [8,9,11,23,12] O) (AM O (AH (v:=(pP b5 0)) (AD (j:=0) O O underlying268 sizeOf48 O (by decide) O) O (Cy 0 (AO l0) Bp O ?_)))))
 refine ck' call179 (E7 l0) O (AE.nil (AC.subF (sL [8,9,11,23,29] O) (AC.then_ ?_)))
 refine AF.jn1 (tg λ(pl0:Nat)=>pl0=1+zq l0/\¬l0.num.sign = -1) (tg λ(pl0:Nat)=>[(9,(pP b5 0)),(23,(vI 0)),(11,(vN pl0))]) (tg λ(pl0:Nat)=>[Ag b5 268 (AO l0++AO l1++AO l2),Ag b4 51 (Am p),Ag b3 51 (Am c),Ag b2 51 (Am b),Ag b1 51 (Am a)]) ?_ ?_
 ·skip
  refine AF.block (q4 (AH (BL (c:=(decide (l0.num.sign=(-1:Int)))) O O O) O (asg' O (AE.nil (AC.subF (sL [8,9,11,23,29,30] O) ?_)))))
  refine AC.then_ ?_
  refine AF.cond O (λhc2=>?_) (λhc2=>?_)
  ·replace hc2:=of_decide_eq_true hc2
   have hz:=P8 (x:=l0) (y:=l1) (z:=l2) hc2
   refine q4 (asg' O (AE.nil (AC.then_ (AF.ret (AC.in_ret ?_)))))
   exact AC.join1_ret (AC.in_ret (AC.then_ret (AC.then_ret (AC.in_ret (AC.then_ret (AI O (AY (v:=(vI 0)) O) (λw hw=>⟨by rw [<-hl0,<-hl1,<-hl2,hz];rfl,hw.out⟩)))))))
  ·replace hc2:=of_decide_eq_false hc2
   refine q4 (AH (BL (c:=(decide (l0.num.sign=(0:Int)))) O O O) O (asg' O (AE.nil (AC.subF (sL [8,9,11,23,29,32] O) (AC.then_ ?_)))))
   refine AF.cond O (λhc3=>?_) (λhc3=>?_)
   ·replace hc3:=of_decide_eq_true hc3
    refine AF.region (AM O (AH (AW (c:=(2:Int)) O O (by decide)) O (asg' O (AE.nil (AC.subF (sL [8,9,11,23,29] O) ?_)))))
    exact AC.in_normal (AC.join1 2 (⟨by simp [Pc hc3],hc2⟩) (sF O) sr)
   ·replace hc3:=of_decide_eq_false hc3
    exact AF.skip (AC.in_normal (AC.join1 1 (⟨by simp [Nm hc3],hc2⟩) (sF O) sr))
 ·intro pl0 hJ
  obtain ⟨e0,n0⟩:=hJ
  have zz0:=VJ l0
  refine AC.in_normal (AC.then_ (AF.region (AH (AW (c:=(1:Int)) O O (by decide)) O (AM O (AE.nil ?_)))))
  refine AC.subF (sL [9,23,11] O) (AC.again (FP.step (q4 (AH (Ae (c:=true) O O (by decide)) O (AE.nil ?_)))))
  refine q1 (AF.cond_true O (AF.skip (q1 (AF.block (q4 ?_)))))
  refine AM O (asg' O (q3 (sL [9,23,11,12] O) (AM O (AH (v:=(pP b5 5)) (AD (j:=1) O O underlying268 sizeOf48 O (by decide) O) O (Cy 0 (AO l1) Bp O ?_)))))
  refine ck' call179 (E7 l1) O (AE.nil (AC.subF (sL [9,23,11,29] O) (AC.then_ ?_)))
  refine AF.jn1 (tg λ(pl1:Nat)=>pl1=pl0+zq l1/\¬l1.num.sign = -1) (tg λ(pl1:Nat)=>[(9,(pP b5 0)),(23,(vI 1)),(11,(vN pl1))]) (tg λ(pl1:Nat)=>[Ag b5 268 (AO l0++AO l1++AO l2),Ag b4 51 (Am p),Ag b3 51 (Am c),Ag b2 51 (Am b),Ag b1 51 (Am a)]) ?_ ?_
  ·skip
   refine AF.block (q4 (AH (BL (c:=(decide (l1.num.sign=(-1:Int)))) O O O) O (asg' O (AE.nil (AC.subF (sL [9,23,11,29,30] O) ?_)))))
   refine AC.then_ ?_
   refine AF.cond O (λhc2=>?_) (λhc2=>?_)
   ·replace hc2:=of_decide_eq_true hc2
    have hz:=PY (x:=l0) (y:=l1) (z:=l2) hc2
    refine q4 (asg' O (AE.nil (AC.then_ (AF.ret (AC.in_ret ?_)))))
    exact AC.join1_ret (AC.in_ret (AC.then_ret (AC.then_ret (AC.in_ret (AC.then_ret (AI O (AY (v:=(vI 0)) O) (λw hw=>⟨by rw [<-hl0,<-hl1,<-hl2,hz];rfl,hw.out⟩)))))))
   ·replace hc2:=of_decide_eq_false hc2
    refine q4 (AH (BL (c:=(decide (l1.num.sign=(0:Int)))) O O O) O (asg' O (AE.nil (AC.subF (sL [9,23,11,29,32] O) (AC.then_ ?_)))))
    refine AF.cond O (λhc3=>?_) (λhc3=>?_)
    ·replace hc3:=of_decide_eq_true hc3
     refine AF.region (AM O (AH (AW (c:=((pl0+1:Nat):Int)) O O (AU (a:=pl0) (b:=1) Z)) O (asg' O (AE.nil (AC.subF (sL [9,23,11,29] O) ?_)))))
     exact AC.in_normal (AC.join1 (pl0+1) (⟨by simp [Pc hc3],hc2⟩) (sF O) sr)
    ·replace hc3:=of_decide_eq_false hc3
     exact AF.skip (AC.in_normal (AC.join1 pl0 (⟨by simp [Nm hc3],hc2⟩) (sF O) sr))
  ·intro pl1 hJ
   obtain ⟨e1,n1⟩:=hJ
   have zz1:=VJ l1
   refine AC.in_normal (AC.then_ (AF.region (AH (AW (c:=(2:Int)) O O (by decide)) O (AM O (AE.nil ?_)))))
   refine AC.subF (sL [9,23,11] O) (AC.again (FP.step (q4 (AH (Ae (c:=true) O O (by decide)) O (AE.nil ?_)))))
   refine q1 (AF.cond_true O (AF.skip (q1 (AF.block (q4 ?_)))))
   refine AM O (asg' O (q3 (sL [9,23,11,12] O) (AM O (AH (v:=(pP b5 10)) (AD (j:=2) O O underlying268 sizeOf48 O (by decide) O) O (Cy 0 (AO l2) Bp O ?_)))))
   refine ck' call179 (E7 l2) O (AE.nil (AC.subF (sL [9,23,11,29] O) (AC.then_ ?_)))
   refine AF.jn1 (tg λ(pl2:Nat)=>pl2=pl1+zq l2/\¬l2.num.sign = -1) (tg λ(pl2:Nat)=>[(9,(pP b5 0)),(23,(vI 2)),(11,(vN pl2))]) (tg λ(pl2:Nat)=>[Ag b5 268 (AO l0++AO l1++AO l2),Ag b4 51 (Am p),Ag b3 51 (Am c),Ag b2 51 (Am b),Ag b1 51 (Am a)]) ?_ ?_
   ·skip
    refine AF.block (q4 (AH (BL (c:=(decide (l2.num.sign=(-1:Int)))) O O O) O (asg' O (AE.nil (AC.subF (sL [9,23,11,29,30] O) ?_)))))
    refine AC.then_ ?_
    refine AF.cond O (λhc2=>?_) (λhc2=>?_)
    ·replace hc2:=of_decide_eq_true hc2
     have hz:=QZ (x:=l0) (y:=l1) (z:=l2) hc2
     refine q4 (asg' O (AE.nil (AC.then_ (AF.ret (AC.in_ret ?_)))))
     exact AC.join1_ret (AC.in_ret (AC.then_ret (AC.then_ret (AC.in_ret (AC.then_ret (AI O (AY (v:=(vI 0)) O) (λw hw=>⟨by rw [<-hl0,<-hl1,<-hl2,hz];rfl,hw.out⟩)))))))
    ·replace hc2:=of_decide_eq_false hc2
     refine q4 (AH (BL (c:=(decide (l2.num.sign=(0:Int)))) O O O) O (asg' O (AE.nil (AC.subF (sL [9,23,11,29,32] O) (AC.then_ ?_)))))
     refine AF.cond O (λhc3=>?_) (λhc3=>?_)
     ·replace hc3:=of_decide_eq_true hc3
      refine AF.region (AM O (AH (AW (c:=((pl1+1:Nat):Int)) O O (AU (a:=pl1) (b:=1) Z)) O (asg' O (AE.nil (AC.subF (sL [9,23,11,29] O) ?_)))))
      exact AC.in_normal (AC.join1 (pl1+1) (⟨by simp [Pc hc3],hc2⟩) (sF O) sr)
     ·replace hc3:=of_decide_eq_false hc3
      exact AF.skip (AC.in_normal (AC.join1 pl1 (⟨by simp [Nm hc3],hc2⟩) (sF O) sr))
   ·intro pl2 hJ
    obtain ⟨e2,n2⟩:=hJ
    have zz2:=VJ l2
    refine AC.in_normal (AC.then_ (AF.region (AH (AW (c:=(3:Int)) O O (by decide)) O (AM O (AE.nil ?_)))))
    refine AC.subF (sL [9,23,11] O) (AC.again (FP.step (q4 (AH (Ae (c:=false) O O (by decide)) O (AE.nil ?_)))))
    refine q1 (AF.cond_false O (AF.exit (AC.then_exit (AC.then_exit (AC.in_exit ?_)))))
    refine q2 (AM O (asg' O (AE.nil (AC.subF (sL [9,23,11,8] O) (AC.then_ ?_)))))
    exact AF.ret (AI O (AY (v:=(vN pl2)) O) (λw hw=>⟨by rw [<-hl0,<-hl1,<-hl2,WU n0 n1 n2,e2,e1,e0],hw.out⟩))
theorem SI (a b c p:Pt) (hs:B_ a+B_ b+B_ c+B_ p<=268435456) (h:AX a b c=0) (w:World)  :Calls prog 129 #[(aG (Am a)),(aG (Am b)),(aG (Am c)),(aG (Am p))] w (An w (vI 0)):=by
 refine Af (args:=[(aG (Am a)),(aG (Am b)),(aG (Am c)),(aG (Am p))]) func129 O O (AT O) (AF.subF (sL [0,1,2,3] O) (q4 (BU (cs:=Am a) O λb1=>BU (cs:=Am b) O λb2=>BU (cs:=Am c) O λb3=>?_)))
 refine BU (cs:=Am p) O λb4=>asg' O (q3 (sL [4,5,6,7,8] O) (BD 3 BO O (BD 2 BO O (BD 1 BO O ?_))))
 refine BD 0 BO O (ck' call187 (VW a b c p Z h) O (AM O (AH (Aa (v:=(aG (AO (0:Rat)++AO (0:Rat)++AO (0:Rat)))) O O) O (AH (Aa (v:=(vI 1)) O O) O (al MO O λb5=>?_)))))
 refine A8 O sizeOf268 O (asg' O (q6 (sL [8,9,10] O) (q4 (AM O (AH (Bx (c:=true) O O (by decide)) O ?_)))))
 refine AE.nil (AC.subF (sL [8,9,22] O) (AC.then_ (AF.cond_true O (q4 (asg' O ?_)))))
 exact AE.nil (AC.subF (sL [8,9] O) (AC.then_ (AF.ret (AC.then_ret (AI O (AY (v:=(vI 0)) O) (λw hw=>⟨rfl,hw.out⟩))))))
end
section
set_option maxRecDepth 100000
end
section
section
variable {P:Program} {n:Nat} {F:List (Nat×Value)} {w0:BJ} {L:List As} {v:Value} {x:Operand} {d:Option Tmp} {t:TypeId} {p:String} {af:Array Edge} {g:Option (Nat×Bool)}
theorem D0 {tx e:TypeId} {b len k:Nat} (hx:evF F x=some (.pointer (some ⟨b,0,none⟩))) (hu:P.underlying tx=some (.array len e)) (hs:∀w,(sizeOf e).run P w=.ok k w) (h0:0<len) :
    Ex P n F w0 L ⟨d,.slice tx x none none none,t,p,af,g⟩ (.slice (some ⟨b,0,none⟩) len len):=λA w ha _=>by
  have e1:¬len=0:=by omega
  simp [execOp,ha.ev hx,Instr.sliceAt,run_underlying hu,Instr.sureAddr,Instr.sliceBounds,Instr.sliceBound,hs,e1,Addr.add_lit]
end
end
section
set_option maxRecDepth 100000
end
section
set_option maxRecDepth 100000
end
section
set_option maxRecDepth 100000
end
section
set_option maxRecDepth 100000
end
section
set_option maxRecDepth 100000
end
section
set_option maxRecDepth 100000
end
section
section
variable {P:Program} {n:Nat} {F:List (Nat×Value)} {w0:BJ} {L:List As} {v:Value} {x lo hi:Operand} {d:Option Tmp} {t:TypeId} {p:String} {af:Array Edge} {g:Option (Nat×Bool)}
theorem Jh {s r:ByteArray} {ki kj:IntKind} {i j:Nat} {tx:TypeId} (hx:evF F x=some (.string s)) (hl:evF F lo=some (.int ki (i:Nat))) (hh:evF F hi=some (.int kj (j:Nat))) (hu:P.underlying tx=some .string) (h1:i<=j) (h2:j<=s.size) (hr:s.extract i j=r) :
    Ex P n F w0 L ⟨d,.slice tx x (some lo) (some hi) none,t,p,af,g⟩ (.string r):=λA w ha _=>by
  subst hr
  simp only [execOp,ha.ev hx,Instr.sliceAt,run_underlying hu,Instr.slice,Option.map_some,Option.map_none,ha.ev hl,ha.ev hh,Instr.sliceBounds,Instr.sliceBound,asIntOf,Sem.run_bind,Result.andThen_ok,Sem.run_pure]
  simp [h1,h2]
end
def Ic (n:Nat):ByteArray:=⟨#[UInt8.ofNat (48+n)]⟩
theorem Z6 {s:ByteArray} (h:((List.range 10).all λn=>(s.extract n (n+1)).data.toList == (Ic n).data.toList)=true) {n:Nat} (hn:n<10):s.extract n (n+1)=Ic n:=by
  have h1:=List.all_eq_true.1 h n (List.mem_range.2 hn)
  have h2:(s.extract n (n+1)).data.toList=(Ic n).data.toList:=by simpa using h1
  cases hA:s.extract n (n+1) with|mk da=>cases hB:Ic n with|mk db =>
    rw [hA,hB] at h2
    congr 1
    exact Array.toList_inj.1 h2
def E5 (z:Int):ByteArray:=if z<0 then ⟨#[45]⟩++Ic z.natAbs else Ic z.natAbs
def Rp (q:Rat):ByteArray:=if q.den-1=0 then E5 q.num else E5 q.num++⟨#[47]⟩++Ic q.den
theorem N6 (n:Nat):(Ic n).size=1:=rfl
theorem Qq (z:Int):(E5 z).size<=2:=by
  unfold E5
  split
  · rw [ByteArray.size_append];exact Nat.le_refl 2
  · exact Nat.le_succ 1
end
end Go.Proofs.YtpgncndhhhllfaaGreatDoor
