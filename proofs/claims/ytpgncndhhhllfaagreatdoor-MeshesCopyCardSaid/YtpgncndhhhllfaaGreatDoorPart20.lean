import Derived.Test.YtpgncndhhhllfaaGreatDoorPart06
import Derived.Test.YtpgncndhhhllfaaGreatDoorPart19
namespace Go.Proofs.YtpgncndhhhllfaaGreatDoor
open Go Go.RowKit Go.Proofs.Tryz
set_option linter.unusedVariables false
set_option linter.unusedSimpArgs false
section
instance:Add Pt:=⟨λa b=>⟨a.x+b.x,a.y+b.y⟩⟩
instance:Sub Pt:=⟨λa b=>⟨a.x-b.x,a.y-b.y⟩⟩
def VS (a:Pt) (k:Rat):Pt:=⟨a.x*k,a.y*k⟩
def HY (a b:Pt):Rat:=a.x*b.y-a.y*b.x
def Am (a b c:Pt):Rat:=HY (b-a) (c-a)
def B3 (p:Pt):Nat:=max (Sz p.x) (Sz p.y)
theorem FR (p:Pt):Sz p.x<=B3 p:=Nat.le_max_left ..
theorem Fp (p:Pt):Sz p.y<=B3 p:=Nat.le_max_right ..
theorem Su {p:Pt} {k:Nat} (h1:Sz p.x<=k) (h2:Sz p.y<=k):B3 p<=k:=Nat.max_le.2 ⟨h1,h2⟩
theorem GG (a b:Pt):B3 (a-b)<=B3 a+B3 b+1:=by
  have h1:=FR a;have h2:=Fp a;have h3:=FR b;have h4:=Fp b
  refine Su ?_ ?_
  · exact Nat.le_trans (HQ a.x b.x) (by omega)
  · exact Nat.le_trans (HQ a.y b.y) (by omega)
theorem Ih (a b:Pt):Sz (HY a b)<=2*B3 a+2*B3 b+1:=by
  have h1:=FR a;have h2:=Fp a;have h3:=FR b;have h4:=Fp b
  have h5:=EJ a.x b.y;have h6:=EJ a.y b.x
  exact Nat.le_trans (HQ _ _) (by omega)
theorem DO (a b c:Pt):Sz (Am a b c)<=4*B3 a+2*B3 b+2*B3 c+5:=by
  have h1:=GG b a;have h2:=GG c a
  exact Nat.le_trans (Ih _ _) (by omega)
theorem Ou:Sz (1/2:Rat)<=1:=by decide +kernel
theorem Tt:((1:Int):Rat)/((2:Int):Rat)=1/2:=by decide +kernel
theorem Ge {z:Int} (h1:-9223372036854775808<=z) (h2:z<9223372036854775808):Sz ((z:Int):Rat)<=2:=Ut (HJ (by show z.natAbs<_;omega)) (by show nw 1<=2;rw [HW];omega)
theorem Tq (a b:Pt):Af (a-b)=AN (a.x-b.x)++AN (a.y-b.y):=rfl
theorem Vu (x y:Rat):Af ⟨x,y⟩=AN x++AN y:=rfl
section
variable {P:Program} {Q:Exit->Act->World->Prop} {n:Nat} {F:List (Nat×Value)} {w0:A_} {L:List As} {c:Code}
def FY (P:Program) (c:Code) (Q:Exit->Act->World->Prop) (k n:Nat) (F:List (Nat×Value)) (w0:A_) (L:List As):Prop:=∀a w,CG n a F->BE w0 w L->Code.rounds P c Q k a w
theorem AE.unroll (k:Nat) (h:FY P c Q k n F w0 L):AE P (.loop c) Q n F w0 L:=λa w ha hw=>wp_loop_rounds k (h a w ha hw)
theorem FY.step {k:Nat} (h:AE P c (Exit.then (Code.rounds P c Q k) Q) n F w0 L):FY P c Q (k+1) n F w0 L:=λa w ha hw=>by
  rw [rounds_succ];exact h a w ha hw
theorem AC.again {k:Nat} (h:FY P c Q k n F w0 L):AC (Exit.then (Code.rounds P c Q k) Q) .normal n F w0 L:=h
end
end
section
set_option maxRecDepth 100000
theorem Co (x0:Rat) (x1:Rat):Instr.fill ([(0,5),(5,5)].toArray[·]?) (Af (⟨0,0⟩:Pt)).toArray [(0,.agg (AN x0).toArray),(1,.agg (AN x1).toArray)]=some (AN x0++AN x1).toArray:=by kernel_rfl
theorem L_ (a b:Pt) (hs:B3 a+B3 b<=68719476736) (w:World)  :Calls Tryz.prog 204 #[(aG (Af a)),(aG (Af b)),(Value.func (.func 233) #[] #[])] w (Al w (aG (Af (a-b)))):=by
 have p1:=FR a
 have p2:=Fp a
 have p3:=FR b
 have p4:=Fp b
 refine Aa (args:=[(aG (Af a)),(aG (Af b)),(Value.func (.func 233) #[] #[])]) Tryz.func204 rfl rfl (AV rfl) (AE.subF (sL [0,1,2] rfl) (q4 (BU (cs:=Af a) rfl λb1=>BU (cs:=Af b) rfl λb2=>al G8 rfl λb3=>?_)))
 refine q6 (sL [2,3,4,6] rfl) (CS [(0,true),(1,true),(2,true),(3,true),(4,true),(6,true),(7,true),(8,true),(9,true),(10,true),(5,false),(11,false),(12,true),(13,false)] (sl sr) (BT rfl (Ap (v:=(pP b1 0)) rfl (AA rfl Tryz.underlying51 rfl Tryz.sizeOf48 rfl) (GP 1 (AN a.x) Bf rfl (Ap (v:=(pP b2 0)) rfl (AA rfl Tryz.underlying51 rfl Tryz.sizeOf48 rfl) ?_)))))
 refine GP 0 (AN b.x) Bf rfl (BT rfl (Ap (v:=(pP b1 5)) rfl (AA rfl Tryz.underlying51 rfl Tryz.sizeOf48 rfl) (GP 1 (AN a.y) Bf rfl (Ap (v:=(pP b2 5)) rfl (AA rfl Tryz.underlying51 rfl Tryz.sizeOf48 rfl) (GP 0 (AN b.y) Bf rfl ?_)))))
 refine OkE.imp rfl ?_
 have hz1:=HQ a.x b.x
 refine ck' Tryz.call233 (LH a.x b.x (by (try simp only [D0]);omega)) rfl (OkE.back (sl sr) (OkE.imp rfl ?_))
 have hz2:=HQ a.y b.y
 refine ck' Tryz.call233 (LH a.y b.y (by (try simp only [D0]);omega)) rfl (OkE.back (sl sr) (Ap (v:=(aG (AN (a.x-b.x)++AN (a.y-b.y)))) rfl (AU (zs:=Af (⟨0,0⟩:Pt)) (vs:=AN (a.x-b.x)++AN (a.y-b.y)) (pv:=[(0,(aG (AN (a.x-b.x)))),(1,(aG (AN (a.y-b.y))))]) (places:=[(0,5),(5,5)]) Tryz.zeroValue51 Tryz.underlying51 (λw=>by simp [Tryz.sizeOf48]) rfl (Co (a.x-b.x) (a.y-b.y))) (OkE.imp rfl (A8 rfl Tryz.sizeOf51 rfl (OkE.back (sl sr) ?_)))))
 exact OkE.nil (AC.subF (sL [6] rfl) (AC.then_ (AE.ret (AJ rfl (Au (i:=0) (cs:=AN (a.x-b.x)++AN (a.y-b.y)) rfl rfl Tryz.isAgg51 Tryz.sizeOf51 rfl) (λw hw=>⟨by rw [Tq],hw.out⟩)))))
theorem IW (a b:Pt) (hs:B3 a+B3 b<=68719476736) (w:World)  :Calls Tryz.prog 181 #[(aG (Af a)),(aG (Af b))] w (Al w (aG (Af (a-b)))):=by
 refine Aa (args:=[(aG (Af a)),(aG (Af b))]) Tryz.func181 rfl rfl (AV rfl) (AE.subF (sL [0,1] rfl) (q4 (BU (cs:=Af a) rfl λb1=>BU (cs:=Af b) rfl λb2=>al G8 rfl λb3=>?_)))
 refine q3 (sL [2,3,4] rfl) (BG 2 BM rfl (BG 1 BM rfl (ck' Tryz.call204 (L_ a b (by omega)) rfl (A8 rfl Tryz.sizeOf51 rfl (AD.nil ?_)))))
 exact AC.subF (sL [4] rfl) (AC.then_ (AE.ret (AJ rfl (Au (i:=0) (cs:=Af (a-b)) rfl rfl Tryz.isAgg51 Tryz.sizeOf51 rfl) (λw hw=>⟨rfl,hw.out⟩))))
theorem J5 (a b:Pt) (hs:B3 a+B3 b<=68719476736) (w:World)  :Calls Tryz.prog 180 #[(aG (Af a)),(aG (Af b))] w (Al w (aG (AN (HY a b)))):=by
 have p1:=FR a
 have p2:=Fp a
 have p3:=FR b
 have p4:=Fp b
 refine Aa (args:=[(aG (Af a)),(aG (Af b))]) Tryz.func180 rfl rfl (AV rfl) (AE.subF (sL [0,1] rfl) (q4 (BU (cs:=Af a) rfl λb1=>BU (cs:=Af b) rfl λb2=>al Dr rfl λb3=>?_)))
 refine q6 (sL [2,3,4] rfl) (CS [(0,true),(1,true),(2,true),(3,true),(5,true),(6,true),(7,true),(8,true),(4,false),(9,false),(10,false),(11,false)] (sl sr) (Ap (v:=(pP b1 0)) rfl (AA rfl Tryz.underlying51 rfl Tryz.sizeOf48 rfl) (GP 1 (AN a.x) Bf rfl (Ap (v:=(pP b2 5)) rfl (AA rfl Tryz.underlying51 rfl Tryz.sizeOf48 rfl) (GP 0 (AN b.y) Bf rfl ?_)))))
 refine Ap (v:=(pP b1 5)) rfl (AA rfl Tryz.underlying51 rfl Tryz.sizeOf48 rfl) (GP 1 (AN a.y) Bf rfl (Ap (v:=(pP b2 0)) rfl (AA rfl Tryz.underlying51 rfl Tryz.sizeOf48 rfl) (GP 0 (AN b.x) Bf rfl (OkE.imp rfl ?_))))
 have hz1:=EJ a.x b.y
 refine ck' Tryz.call192 (IL a.x b.y (by (try simp only [D0]);omega)) rfl (OkE.back (sl sr) (OkE.imp rfl ?_))
 have hz2:=EJ a.y b.x
 refine ck' Tryz.call192 (IL a.y b.x (by (try simp only [D0]);omega)) rfl (OkE.back (sl sr) (OkE.imp rfl ?_))
 have hz3:=HQ (a.x*b.y) (a.y*b.x)
 refine ck' Tryz.call233 (LH (a.x*b.y) (a.y*b.x) (by (try simp only [D0]);omega)) rfl (OkE.back (sl sr) (OkE.imp rfl (A8 rfl Tryz.sizeOf48 rfl (OkE.back (sl sr) (OkE.nil ?_)))))
 exact AC.subF (sL [4] rfl) (AC.then_ (AE.ret (AJ rfl (Au (i:=0) (cs:=AN ((a.x*b.y)-(a.y*b.x))) rfl rfl Tryz.isAgg48 Tryz.sizeOf48 rfl) (λw hw=>⟨rfl,hw.out⟩))))
theorem Gz (a b c:Pt) (hs:B3 a+B3 b+B3 c<=17179869184) (w:World)  :Calls Tryz.prog 121 #[(aG (Af a)),(aG (Af b)),(aG (Af c))] w (Al w (vI ((Am a b c).num.sign))):=by
 refine Aa (args:=[(aG (Af a)),(aG (Af b)),(aG (Af c))]) Tryz.func121 rfl rfl (AV rfl) (AE.subF (sL [0,1,2] rfl) (q4 (BU (cs:=Af a) rfl λb1=>BU (cs:=Af b) rfl λb2=>BU (cs:=Af c) rfl λb3=>?_)))
 refine asg' rfl (q6 (sL [3,4,5,6] rfl) (CS [(0,true),(1,true),(3,true),(4,true),(2,false),(5,false),(6,false),(7,false),(8,true)] sr (Df 1 BM rfl (Df 2 BM rfl (Df 0 BM rfl ?_)))))
 refine Df 2 BM rfl (OkE.imp rfl ?_)
 have hz1:=GG b a
 refine ck' Tryz.call181 (IW b a (by omega)) rfl (OkE.back sr (OkE.imp rfl ?_))
 have hz2:=GG c a
 refine ck' Tryz.call181 (IW c a (by omega)) rfl (OkE.back sr (OkE.imp rfl ?_))
 have hz3:=Ih (b-a) (c-a)
 refine ck' Tryz.call180 (J5 (b-a) (c-a) (by omega)) rfl (OkE.back sr (OkE.imp rfl (ck' Tryz.call179 (EI (HY (b-a) (c-a))) rfl (OkE.back sr (pS' rfl ?_)))))
 exact OkE.nil (AC.subF (sL [6] rfl) (AC.then_ (AE.ret (AJ rfl (AS (v:=(vI ((HY (b-a) (c-a)).num.sign))) rfl) (λw hw=>⟨rfl,hw.out⟩)))))
theorem IQ (x y:Int) (h1:-9223372036854775808<=x) (h2:x<9223372036854775808) (h3:-9223372036854775808<=y) (h4:y<9223372036854775808) (w:World)  :Calls Tryz.prog 36 #[(vI x),(vI y)] w (Al w (aG (Af (⟨((x:Int):Rat),((y:Int):Rat)⟩:Pt)))):=by
 refine Aa (args:=[(vI x),(vI y)]) Tryz.func36 rfl rfl (AV rfl) (AE.subF (sL [0,1] rfl) (q4 (al G8 rfl λb1=>AD.nil (q2 ?_))))
 refine AQ rfl (ck' Tryz.call15 (HA x (by omega) (by omega)) rfl (AQ rfl (ck' Tryz.call15 (HA y (by omega) (by omega)) rfl (AK (v:=(aG (AN ((x:Int):Rat)++AN ((y:Int):Rat)))) (AU (zs:=Af (⟨0,0⟩:Pt)) (vs:=AN ((x:Int):Rat)++AN ((y:Int):Rat)) (pv:=[(0,(aG (AN ((x:Int):Rat)))),(1,(aG (AN ((y:Int):Rat))))]) (places:=[(0,5),(5,5)]) Tryz.zeroValue51 Tryz.underlying51 (λw=>by simp [Tryz.sizeOf48]) rfl (Co ((x:Int):Rat) ((y:Int):Rat))) rfl (A8 rfl Tryz.sizeOf51 rfl ?_)))))
 exact AD.nil (AC.subF (sL [4] rfl) (AC.then_ (AE.ret (AJ rfl (Au (i:=0) (cs:=AN ((x:Int):Rat)++AN ((y:Int):Rat)) rfl rfl Tryz.isAgg51 Tryz.sizeOf51 rfl) (λw hw=>⟨by rw [Vu],hw.out⟩)))))
end
section
set_option maxRecDepth 100000
theorem R2 (x y:Int) (h1:-9223372036854775808<=x) (h2:x<9223372036854775808) (h3:-9223372036854775808<=y) (h4:y<9223372036854775808) (hy:y≠0) (w:World)  :Calls Tryz.prog 166 #[(vI x),(vI y)] w (Al w (Value.tuple #[(aG (AN (((x:Int):Rat)/((y:Int):Rat)))),(vI 0)])):=by
 have hb:((y:Int):Rat)≠0:=λe=>hy (by exact_mod_cast e)
 have s1:=Ge h1 h2
 have s2:=Ge h3 h4
 refine Aa (args:=[(vI x),(vI y)]) Tryz.func166 rfl rfl (AV rfl) (AE.subF (sL [0,1] rfl) (q4 (al Dr rfl λb1=>asg' rfl (AD.nil ?_))))
 refine q2 (AQ rfl (ck' Tryz.call15 (HA x (by omega) (by omega)) rfl (AQ rfl (ck' Tryz.call15 (HA y (by omega) (by omega)) rfl ?_))))
 have hz1:=Hn (a:=((x:Int):Rat)) (b:=((y:Int):Rat)) (by assumption)
 refine ck' Tryz.call217 (Ia ((x:Int):Rat) ((y:Int):Rat) (by omega) (by assumption)) rfl (AK (AZ (v:=(aG (AN (((x:Int):Rat)/((y:Int):Rat))))) rfl rfl) rfl (AK (AZ (v:=(vI 0)) rfl rfl) rfl (A8 rfl Tryz.sizeOf48 rfl (asg' rfl (AD.nil ?_)))))
 exact AC.subF (sL [4,5] rfl) (AC.then_ (AE.ret (CO rfl (Au (i:=0) (cs:=AN (((x:Int):Rat)/((y:Int):Rat))) rfl rfl Tryz.isAgg48 Tryz.sizeOf48 rfl) (AS (v:=(vI 0)) rfl) (λw hw=>⟨rfl,hw.out⟩))))
theorem Sx (x:Rat) (hs:Sz x<=137438953472) (w:World)  :Calls Tryz.prog 136 #[(aG (AN x))] w (Al w (aG (AN (x*(1/2))))):=by
 have sh:=Ou
 refine Aa (args:=[(aG (AN x))]) Tryz.func136 rfl rfl (AV rfl) (AE.subF (sL [0] rfl) (q4 (BU (cs:=AN x) rfl λb1=>al Dr rfl λb2=>q3 (sL [1,2] rfl) ?_)))
 refine ck' Tryz.call166 (R2 (1:Int) (2:Int) (by omega) (by omega) (by omega) (by omega) (by omega)) rfl (AQ rfl (AK (AZ (v:=(aG (AN (((1:Int):Rat)/((2:Int):Rat))))) rfl rfl) rfl (AD.retell (k:=7) (u:=(aG (AN ((1:Rat)/2)))) rfl (by rw [Tt]) (AK (AZ (v:=(vI 0)) rfl rfl) rfl (al Dr rfl λb3=>?_)))))
 refine A8 rfl Tryz.sizeOf48 rfl (asg' rfl (q3 (sL [1,2,3] rfl) (BG 2 Bf rfl (BG 0 Bf rfl ?_))))
 have hz1:=EJ x ((1:Rat)/2)
 exact ck' Tryz.call192 (IL x ((1:Rat)/2) (by (try simp only [D0]);omega)) rfl (C6 rfl Tryz.sizeOf48 rfl (AD.nil (AC.subF (sL [2,3] rfl) (AC.then_ (AE.ret (AJ rfl (Au (i:=1) (cs:=AN (x*((1:Rat)/2))) rfl rfl Tryz.isAgg48 Tryz.sizeOf48 rfl) (λw hw=>⟨rfl,hw.out⟩)))))))
theorem DS (a b c:Pt) (hs:B3 a+B3 b+B3 c<=8589934592) (w:World)  :Calls Tryz.prog 137 #[(aG (Af a)),(aG (Af b)),(aG (Af c))] w (Al w (aG (AN (Am a b c)))):=by
 refine Aa (args:=[(aG (Af a)),(aG (Af b)),(aG (Af c))]) Tryz.func137 rfl rfl (AV rfl) (AE.subF (sL [0,1,2] rfl) (q4 (BU (cs:=Af a) rfl λb1=>BU (cs:=Af b) rfl λb2=>BU (cs:=Af c) rfl λb3=>?_)))
 refine al Dr rfl λb4=>q6 (sL [3,4,5,6] rfl) (CS [(0,true),(1,true),(3,true),(4,true),(2,false),(5,false),(6,false),(7,false)] (sl sr) (Df 1 BM rfl (Df 2 BM rfl (Df 0 BM rfl ?_))))
 refine Df 2 BM rfl (OkE.imp rfl ?_)
 have hz1:=GG b a
 refine ck' Tryz.call181 (IW b a (by omega)) rfl (OkE.back (sl sr) (OkE.imp rfl ?_))
 have hz2:=GG c a
 refine ck' Tryz.call181 (IW c a (by omega)) rfl (OkE.back (sl sr) (OkE.imp rfl ?_))
 have hz3:=Ih (b-a) (c-a)
 refine ck' Tryz.call180 (J5 (b-a) (c-a) (by omega)) rfl (OkE.back (sl sr) (OkE.imp rfl (A8 rfl Tryz.sizeOf48 rfl (OkE.back (sl sr) (OkE.nil ?_)))))
 exact AC.subF (sL [6] rfl) (AC.then_ (AE.ret (AJ rfl (Au (i:=0) (cs:=AN (HY (b-a) (c-a))) rfl rfl Tryz.isAgg48 Tryz.sizeOf48 rfl) (λw hw=>⟨rfl,hw.out⟩))))
theorem UB (a b c:Pt) (hs:B3 a+B3 b+B3 c<=8589934592) (w:World)  :Calls Tryz.prog 77 #[(aG (Af a)),(aG (Af b)),(aG (Af c))] w (Al w (aG (AN (Am a b c*(1/2))))):=by
 refine Aa (args:=[(aG (Af a)),(aG (Af b)),(aG (Af c))]) Tryz.func77 rfl rfl (AV rfl) (AE.subF (sL [0,1,2] rfl) (q4 (BU (cs:=Af a) rfl λb1=>BU (cs:=Af b) rfl λb2=>BU (cs:=Af c) rfl λb3=>?_)))
 refine al Dr rfl λb4=>q3 (sL [3,4,5,6] rfl) (BG 3 BM rfl (BG 2 BM rfl (BG 1 BM rfl ?_)))
 have hz1:=DO a b c
 refine ck' Tryz.call137 (DS a b c (by omega)) rfl ?_
 have hz2:=EJ (Am a b c) (1/2)
 exact ck' Tryz.call136 (Sx (Am a b c) (by omega)) rfl (A8 rfl Tryz.sizeOf48 rfl (AD.nil (AC.subF (sL [6] rfl) (AC.then_ (AE.ret (AJ rfl (Au (i:=0) (cs:=AN ((Am a b c)*(1/2))) rfl rfl Tryz.isAgg48 Tryz.sizeOf48 rfl) (λw hw=>⟨rfl,hw.out⟩)))))))
end
section
set_option maxRecDepth 100000
theorem CD (x0:Rat) (x1:Rat) (x2:Rat):Instr.fill (λi=>some (i*5,5)) (AN (0:Rat)++AN (0:Rat)++AN (0:Rat)).toArray [(0,.agg (AN x0).toArray),(1,.agg (AN x1).toArray),(2,.agg (AN x2).toArray)]=some (AN x0++AN x1++AN x2).toArray:=by kernel_rfl
theorem UU (a b c p:Pt) (hs:B3 a+B3 b+B3 c+B3 p<=268435456) (h:Am a b c≠0) (w:World)  :Calls Tryz.prog 187 #[(aG (Af a)),(aG (Af b)),(aG (Af c)),(aG (Af p))] w (Al w (Value.tuple #[(aG (AN (Am p b c/Am a b c)++AN (Am a p c/Am a b c)++AN (Am a b p/Am a b c))),(vI 0)])):=by
 refine Aa (args:=[(aG (Af a)),(aG (Af b)),(aG (Af c)),(aG (Af p))]) Tryz.func187 rfl rfl (AV rfl) (AE.subF (sL [0,1,2,3] rfl) (q4 (BU (cs:=Af a) rfl λb1=>BU (cs:=Af b) rfl λb2=>BU (cs:=Af c) rfl λb3=>?_)))
 refine BU (cs:=Af p) rfl λb4=>al Jy rfl λb5=>asg' rfl (q3 (sL [4,5,6,7,8,9] rfl) (BG 4 BM rfl (BG 3 BM rfl ?_)))
 refine BG 2 BM rfl ?_
 have hz1:=DO a b c
 refine ck' Tryz.call137 (DS a b c (by omega)) rfl (al Dr rfl λb6=>A8 rfl Tryz.sizeOf48 rfl (q6 (sL [4,5,6,7,8,9,10] rfl) (rN [(0,true),(1,true),(2,true),(4,true),(5,true),(6,true),(8,true),(9,true),(10,true),(3,false),(7,false),(11,false),(12,true)] [⟨13,11,268,AN (0:Rat)++AN (0:Rat)++AN (0:Rat)⟩] [(14,false)] sr (by kernel_rfl) (λ_ _ d _ _ h=>by cases d<;>exact h) (Fc rfl rfl Jy rfl (Ht)) rfl (HO 2 BM rfl ?_))))
 refine HO 4 BM rfl (HO 3 BM rfl (HO 5 BM rfl (HO 2 BM rfl (HO 3 BM rfl (HO 5 BM rfl ?_)))))
 refine HO 4 BM rfl (HO 2 BM rfl (Bz.imp rfl λEF EL=>?_))
 have hz2:=DO p b c
 refine ck' Tryz.call137 (DS p b c (by omega)) rfl (Bz.back0 sr rfl (Bz.imp rfl λEF EL=>?_))
 have hz3:=DO a p c
 refine ck' Tryz.call137 (DS a p c (by omega)) rfl (Bz.back0 sr rfl (Bz.imp rfl λEF EL=>?_))
 have hz4:=DO a b p
 refine ck' Tryz.call137 (DS a b p (by omega)) rfl (Bz.back0 sr rfl (F8 (v:=(aG (AN (Am p b c)++AN (Am a p c)++AN (Am a b p)))) rfl (Bx (zs:=AN (0:Rat)++AN (0:Rat)++AN (0:Rat)) (vs:=AN (Am p b c)++AN (Am a p c)++AN (Am a b p)) (pv:=[(0,(aG (AN (Am p b c)))),(1,(aG (AN (Am a p c)))),(2,(aG (AN (Am a b p))))]) Tryz.zeroValue268 Tryz.underlying268 Tryz.sizeOf48 rfl (CD (Am p b c) (Am a p c) (Am a b p))) rfl (Bz.news1 λb7=>OkE.imp rfl (A8 rfl Tryz.sizeOf268 rfl ?_))))
 refine OkE.back (sl sr) (OkE.nil (AC.subF (sL [4,5,6,8,9,10,11] rfl) (q1 (q4 (AQ rfl ?_)))))
 refine AD.nil (AC.then_ (AE.block (AE.unroll 5 (FY.step (q4 ?_)))))
 refine AK (Ai (c:=true) rfl rfl (by decide)) rfl (AD.nil (q1 (AE.cond_true rfl (AE.skip (q1 ?_)))))
 refine AE.block (q4 (AQ rfl (asg' rfl (q6 (sL [4,5,6,8,9,10,11,32,12] rfl) (rN [(0,true),(1,true),(2,true),(3,true),(4,false),(5,true),(6,true),(7,true)] [⟨8,13,48,AN (0:Rat)⟩] [(9,false),(10,true)] sr (by kernel_rfl) (λ_ _ d _ _ h=>by cases d<;>exact h) (Fc rfl rfl Dr rfl (Ht)) rfl ?_)))))
 refine NH rfl (F8 (v:=(pP b7 0)) rfl (AI (j:=0) rfl rfl Tryz.underlying268 Tryz.sizeOf48 rfl (by decide) rfl) rfl (SR 0 (AN (Am p b c)) Bf rfl (HO 1 Bf rfl (Bz.imp rfl λEF EL=>?_))))
 have hz5:=Hn (a:=Am p b c) (b:=Am a b c) (by assumption)
 refine ck' Tryz.call217 (Ia (Am p b c) (Am a b c) (by omega) (by assumption)) rfl (Bz.back0 sr rfl (NH rfl (F8 rfl (AZ (v:=(aG (AN ((Am p b c)/(Am a b c))))) rfl rfl) rfl (F8 rfl (AZ (v:=(vI 0)) rfl rfl) rfl (Bz.news1 λb8=>?_)))))
 refine OkE.imp rfl (A8 rfl Tryz.sizeOf48 rfl (OkE.back (sl sr) (pS' rfl (OkE.nil (AC.subF (sL [4,5,6,8,9,10,11,32,12,13,14] rfl) ?_)))))
 refine q1 (q4 (AQ rfl (AK (Bk (c:=false) rfl rfl (by decide)) rfl (AD.nil (AC.subF (sL [4,5,6,8,9,10,11,32,12,13,44] rfl) ?_)))))
 refine AC.then_ (AE.cond_false rfl (AE.skip (AC.then_ (AE.region (AQ rfl ?_)))))
 refine BG 0 Bf rfl (AK (v:=(pP b7 0)) (AI (j:=0) rfl rfl Tryz.underlying268 Tryz.sizeOf48 rfl (by decide) rfl) rfl (Hp 1 (off:=0) (vs:=AN ((Am p b c)/(Am a b c))) (cs':=AN ((Am p b c)/(Am a b c))++AN (Am a p c)++AN (Am a b p)) (AW rfl) rfl Tryz.sizeOf48 rfl (AD.nil (AC.subF (sL [4,5,6,8,9,10,11,32,12,13] rfl) (AC.in_normal ?_)))))
 refine AC.then_ (AE.region (AK (Ac (c:=(1:Int)) rfl rfl (by decide)) rfl (AQ rfl (AD.nil (AC.subF (sL [4,5,6,8,9,10,11,32,12,13] rfl) ?_)))))
 refine AC.again (FY.step (q4 (AK (Ai (c:=true) rfl rfl (by decide)) rfl (AD.nil (q1 ?_)))))
 refine AE.cond_true rfl (AE.skip (q1 (AE.block (q4 (AQ rfl ?_)))))
 refine asg' rfl (q6 (sL [4,5,6,8,9,10,11,32,12,13] rfl) (AE.subF (sL [4,5,6,8,9,10,11,32,12] rfl) (rN [(0,true),(1,true),(2,true),(3,true),(4,false),(5,true),(6,true),(7,true)] [⟨8,13,48,AN (0:Rat)⟩] [(9,false),(10,true)] sr (by kernel_rfl) (λ_ _ d _ _ h=>by cases d<;>exact h) (Fc rfl rfl Dr rfl (Ht)) rfl (NH rfl (F8 (v:=(pP b7 5)) rfl (AI (j:=1) rfl rfl Tryz.underlying268 Tryz.sizeOf48 rfl (by decide) rfl) rfl ?_)))))
 refine SR 1 (AN (Am a p c)) Bf rfl (HO 2 Bf rfl (Bz.imp rfl λEF EL=>?_))
 have hz6:=Hn (a:=Am a p c) (b:=Am a b c) (by assumption)
 refine ck' Tryz.call217 (Ia (Am a p c) (Am a b c) (by omega) (by assumption)) rfl (Bz.back0 sr rfl (NH rfl (F8 rfl (AZ (v:=(aG (AN ((Am a p c)/(Am a b c))))) rfl rfl) rfl (F8 rfl (AZ (v:=(vI 0)) rfl rfl) rfl (Bz.news1 λb9=>?_)))))
 refine OkE.imp rfl (A8 rfl Tryz.sizeOf48 rfl (OkE.back (sl sr) (pS' rfl (OkE.nil (AC.subF (sL [4,5,6,8,9,10,11,32,12,13,14] rfl) ?_)))))
 refine q1 (q4 (AQ rfl (AK (Bk (c:=false) rfl rfl (by decide)) rfl (AD.nil (AC.subF (sL [4,5,6,8,9,10,11,32,12,13,44] rfl) ?_)))))
 refine AC.then_ (AE.cond_false rfl (AE.skip (AC.then_ (AE.region (AQ rfl ?_)))))
 refine BG 0 Bf rfl (AK (v:=(pP b7 5)) (AI (j:=1) rfl rfl Tryz.underlying268 Tryz.sizeOf48 rfl (by decide) rfl) rfl (Hp 2 (off:=5) (vs:=AN ((Am a p c)/(Am a b c))) (cs':=AN ((Am p b c)/(Am a b c))++AN ((Am a p c)/(Am a b c))++AN (Am a b p)) (AW rfl) rfl Tryz.sizeOf48 rfl (AD.nil (AC.subF (sL [4,5,6,8,9,10,11,32,12,13] rfl) (AC.in_normal ?_)))))
 refine AC.then_ (AE.region (AK (Ac (c:=(2:Int)) rfl rfl (by decide)) rfl (AQ rfl (AD.nil (AC.subF (sL [4,5,6,8,9,10,11,32,12,13] rfl) ?_)))))
 refine AC.again (FY.step (q4 (AK (Ai (c:=true) rfl rfl (by decide)) rfl (AD.nil (q1 ?_)))))
 refine AE.cond_true rfl (AE.skip (q1 (AE.block (q4 (AQ rfl ?_)))))
 refine asg' rfl (q6 (sL [4,5,6,8,9,10,11,32,12,13] rfl) (AE.subF (sL [4,5,6,8,9,10,11,32,12] rfl) (rN [(0,true),(1,true),(2,true),(3,true),(4,false),(5,true),(6,true),(7,true)] [⟨8,13,48,AN (0:Rat)⟩] [(9,false),(10,true)] sr (by kernel_rfl) (λ_ _ d _ _ h=>by cases d<;>exact h) (Fc rfl rfl Dr rfl (Ht)) rfl (NH rfl (F8 (v:=(pP b7 10)) rfl (AI (j:=2) rfl rfl Tryz.underlying268 Tryz.sizeOf48 rfl (by decide) rfl) rfl ?_)))))
 refine SR 2 (AN (Am a b p)) Bf rfl (HO 3 Bf rfl (Bz.imp rfl λEF EL=>?_))
 have hz7:=Hn (a:=Am a b p) (b:=Am a b c) (by assumption)
 refine ck' Tryz.call217 (Ia (Am a b p) (Am a b c) (by omega) (by assumption)) rfl (Bz.back0 sr rfl (NH rfl (F8 rfl (AZ (v:=(aG (AN ((Am a b p)/(Am a b c))))) rfl rfl) rfl (F8 rfl (AZ (v:=(vI 0)) rfl rfl) rfl (Bz.news1 λb10=>?_)))))
 refine OkE.imp rfl (A8 rfl Tryz.sizeOf48 rfl (OkE.back (sl sr) (pS' rfl (OkE.nil (AC.subF (sL [4,5,6,8,9,10,11,32,12,13,14] rfl) ?_)))))
 refine q1 (q4 (AQ rfl (AK (Bk (c:=false) rfl rfl (by decide)) rfl (AD.nil (AC.subF (sL [4,5,6,8,9,10,11,32,12,13,44] rfl) ?_)))))
 refine AC.then_ (AE.cond_false rfl (AE.skip (AC.then_ (AE.region (AQ rfl ?_)))))
 refine BG 0 Bf rfl (AK (v:=(pP b7 10)) (AI (j:=2) rfl rfl Tryz.underlying268 Tryz.sizeOf48 rfl (by decide) rfl) rfl (Hp 3 (off:=10) (vs:=AN ((Am a b p)/(Am a b c))) (cs':=AN ((Am p b c)/(Am a b c))++AN ((Am a p c)/(Am a b c))++AN ((Am a b p)/(Am a b c))) (AW rfl) rfl Tryz.sizeOf48 rfl (AD.nil (AC.subF (sL [4,5,6,8,9,10,11,32,12,13] rfl) (AC.in_normal ?_)))))
 refine AC.then_ (AE.region (AK (Ac (c:=(3:Int)) rfl rfl (by decide)) rfl (AQ rfl (AD.nil (AC.subF (sL [4,5,6,8,9,10,11,32,12,13] rfl) ?_)))))
 refine AC.again (FY.step (q4 (AK (Ai (c:=false) rfl rfl (by decide)) rfl (AD.nil (q1 ?_)))))
 refine AE.cond_false rfl (AE.exit (AC.then_exit (AC.then_exit (AC.in_exit (q2 ?_)))))
 refine BG 3 Wz rfl (Hp 5 (off:=0) (vs:=AN ((Am p b c)/(Am a b c))++AN ((Am a p c)/(Am a b c))++AN ((Am a b p)/(Am a b c))) (cs':=AN ((Am p b c)/(Am a b c))++AN ((Am a p c)/(Am a b c))++AN ((Am a b p)/(Am a b c))) (AW rfl) rfl Tryz.sizeOf268 rfl (asg' rfl (AD.nil (AC.subF (sL [4,5,6,8,9,10,11,32,12,13] rfl) (AC.then_ ?_)))))
 exact AE.ret (CO rfl (Au (i:=5) (cs:=AN ((Am p b c)/(Am a b c))++AN ((Am a p c)/(Am a b c))++AN ((Am a b p)/(Am a b c))) rfl rfl Tryz.isAgg268 Tryz.sizeOf268 rfl) (AS (v:=(vI 0)) rfl) (λw hw=>⟨rfl,hw.out⟩))
theorem Ic  :Instr.fill (λi=>some (i*5,5)) (AN (0:Rat)++AN (0:Rat)++AN (0:Rat)).toArray []=some (AN (0:Rat)++AN (0:Rat)++AN (0:Rat)).toArray:=by kernel_rfl
theorem R3 (a b c p:Pt) (hs:B3 a+B3 b+B3 c+B3 p<=268435456) (h:Am a b c=0) (w:World)  :Calls Tryz.prog 187 #[(aG (Af a)),(aG (Af b)),(aG (Af c)),(aG (Af p))] w (Al w (Value.tuple #[(aG (AN (0:Rat)++AN (0:Rat)++AN (0:Rat))),(vI 1)])):=by
 refine Aa (args:=[(aG (Af a)),(aG (Af b)),(aG (Af c)),(aG (Af p))]) Tryz.func187 rfl rfl (AV rfl) (AE.subF (sL [0,1,2,3] rfl) (q4 (BU (cs:=Af a) rfl λb1=>BU (cs:=Af b) rfl λb2=>BU (cs:=Af c) rfl λb3=>?_)))
 refine BU (cs:=Af p) rfl λb4=>al Jy rfl λb5=>asg' rfl (q3 (sL [4,5,6,7,8,9] rfl) (BG 4 BM rfl (BG 3 BM rfl ?_)))
 refine BG 2 BM rfl ?_
 have hz1:=DO a b c
 refine ck' Tryz.call137 (DS a b c (by omega)) rfl (al Dr rfl λb6=>A8 rfl Tryz.sizeOf48 rfl (q6 (sL [4,5,6,7,8,9,10] rfl) (rN [(0,true),(1,true),(2,true),(4,true),(5,true),(6,true),(8,true),(9,true),(10,true),(3,false),(7,false),(11,false),(12,true)] [⟨13,11,268,AN (0:Rat)++AN (0:Rat)++AN (0:Rat)⟩] [(14,false)] sr (by kernel_rfl) (λ_ _ d _ _ h=>by cases d<;>exact h) (Fc rfl rfl Jy rfl (Ht)) rfl (HO 2 BM rfl ?_))))
 refine HO 4 BM rfl (HO 3 BM rfl (HO 5 BM rfl (HO 2 BM rfl (HO 3 BM rfl (HO 5 BM rfl ?_)))))
 refine HO 4 BM rfl (HO 2 BM rfl (Bz.imp rfl λEF EL=>?_))
 have hz2:=DO p b c
 refine ck' Tryz.call137 (DS p b c (by omega)) rfl (Bz.back0 sr rfl (Bz.imp rfl λEF EL=>?_))
 have hz3:=DO a p c
 refine ck' Tryz.call137 (DS a p c (by omega)) rfl (Bz.back0 sr rfl (Bz.imp rfl λEF EL=>?_))
 have hz4:=DO a b p
 refine ck' Tryz.call137 (DS a b p (by omega)) rfl (Bz.back0 sr rfl (F8 (v:=(aG (AN (Am p b c)++AN (Am a p c)++AN (Am a b p)))) rfl (Bx (zs:=AN (0:Rat)++AN (0:Rat)++AN (0:Rat)) (vs:=AN (Am p b c)++AN (Am a p c)++AN (Am a b p)) (pv:=[(0,(aG (AN (Am p b c)))),(1,(aG (AN (Am a p c)))),(2,(aG (AN (Am a b p))))]) Tryz.zeroValue268 Tryz.underlying268 Tryz.sizeOf48 rfl (CD (Am p b c) (Am a p c) (Am a b p))) rfl (Bz.news1 λb7=>OkE.imp rfl (A8 rfl Tryz.sizeOf268 rfl ?_))))
 refine OkE.back (sl sr) (OkE.nil (AC.subF (sL [4,5,6,8,9,10,11] rfl) (q1 (q4 (AQ rfl ?_)))))
 refine AD.nil (AC.then_ (AE.block (AE.unroll 5 (FY.step (q4 ?_)))))
 refine AK (Ai (c:=true) rfl rfl (by decide)) rfl (AD.nil (q1 (AE.cond_true rfl (AE.skip (q1 ?_)))))
 refine AE.block (q4 (AQ rfl (asg' rfl (q6 (sL [4,5,6,8,9,10,11,32,12] rfl) (rN [(0,true),(1,true),(2,true),(3,true),(4,false),(5,true),(6,true),(7,true)] [⟨8,13,48,AN (0:Rat)⟩] [(9,false),(10,true)] sr (by kernel_rfl) (λ_ _ d _ _ h=>by cases d<;>exact h) (Fc rfl rfl Dr rfl (Ht)) rfl ?_)))))
 refine NH rfl (F8 (v:=(pP b7 0)) rfl (AI (j:=0) rfl rfl Tryz.underlying268 Tryz.sizeOf48 rfl (by decide) rfl) rfl (SR 0 (AN (Am p b c)) Bf rfl (HO 1 Bf rfl (Bz.imp rfl λEF EL=>CN (args:=[(aG (AN (Am p b c))),(aG (AN (Am a b c)))]) (v:=(Value.tuple #[(aG (AN (0:Rat))),(vI 5)])) Tryz.call217 (λw hw=>(by rw [h];exact SI _ w)) rfl ?_))))
 refine Bz.back0 sr rfl (NH rfl (F8 rfl (AZ (v:=(aG (AN (0:Rat)))) rfl rfl) rfl (F8 rfl (AZ (v:=(vI 5)) rfl rfl) rfl (Bz.news1 λb8=>OkE.imp rfl ?_))))
 refine A8 rfl Tryz.sizeOf48 rfl (OkE.back (sl sr) (pS' rfl (OkE.nil (AC.subF (sL [4,5,6,8,9,10,11,32,12,13,14] rfl) (q1 ?_)))))
 refine q4 (AQ rfl (AK (Bk (c:=true) rfl rfl (by decide)) rfl (AD.nil (AC.subF (sL [4,5,6,8,9,10,11,32,12,13,44] rfl) (AC.then_ ?_)))))
 refine AE.cond_true rfl (q4 (AK (v:=(aG (AN (0:Rat)++AN (0:Rat)++AN (0:Rat)))) (Bx (zs:=AN (0:Rat)++AN (0:Rat)++AN (0:Rat)) (vs:=AN (0:Rat)++AN (0:Rat)++AN (0:Rat)) (pv:=[]) Tryz.zeroValue268 Tryz.underlying268 Tryz.sizeOf48 rfl (Ic )) rfl (H8 rfl Tryz.sizeOf268 rfl (asg' rfl (AD.nil ?_)))))
 refine AC.subF (sL [4,5,6,8,9,10,11,32,12,13] rfl) (AC.then_ (AE.ret (AC.then_ret (AC.in_ret (AC.then_ret ?_)))))
 exact AC.then_ret (AC.in_ret (AC.then_ret (CO rfl (Au (i:=3) (cs:=AN (0:Rat)++AN (0:Rat)++AN (0:Rat)) rfl rfl Tryz.isAgg268 Tryz.sizeOf268 rfl) (AS (v:=(vI 1)) rfl) (λw hw=>⟨rfl,hw.out⟩))))
end
def zq (q:Rat):Nat:=if q.num.sign=0 then 1 else 0
def Hf (x y z:Rat):Nat:=if x.num.sign = -1\/y.num.sign = -1\/z.num.sign = -1 then 0 else 1+zq x+zq y+zq z
theorem N7 {x y z:Rat} (h:x.num.sign = -1):Hf x y z=0:=if_pos (.inl h)
theorem NN {x y z:Rat} (h:y.num.sign = -1):Hf x y z=0:=if_pos (.inr (.inl h))
theorem Mv {x y z:Rat} (h:z.num.sign = -1):Hf x y z=0:=if_pos (.inr (.inr h))
theorem R8 {x y z:Rat} (h1:¬x.num.sign = -1) (h2:¬y.num.sign = -1) (h3:¬z.num.sign = -1):Hf x y z=1+zq x+zq y+zq z:=if_neg (by simp [h1,h2,h3])
theorem NU {x:Rat} (h:x.num.sign=0):zq x=1:=if_pos h
theorem KZ {x:Rat} (h:¬x.num.sign=0):zq x=0:=if_neg h
theorem RB (x:Rat):zq x<=1:=by unfold zq;split<;>omega
section
set_option maxRecDepth 100000
end
section
set_option maxRecDepth 100000
end
section
set_option maxRecDepth 100000
set_option maxHeartbeats 2000000 in
theorem Rz (a b c p:Pt) (hs:B3 a+B3 b+B3 c+B3 p<=268435456) (h:Am a b c≠0) (w:World)  :Calls Tryz.prog 129 #[(aG (Af a)),(aG (Af b)),(aG (Af c)),(aG (Af p))] w (Al w (vN (Hf (Am p b c/Am a b c) (Am a p c/Am a b c) (Am a b p/Am a b c)))):=by
 obtain ⟨l0,hl0⟩:∃l,l=Am p b c/Am a b c:=⟨_,rfl⟩
 obtain ⟨l1,hl1⟩:∃l,l=Am a p c/Am a b c:=⟨_,rfl⟩
 obtain ⟨l2,hl2⟩:∃l,l=Am a b p/Am a b c:=⟨_,rfl⟩
 refine Aa (args:=[(aG (Af a)),(aG (Af b)),(aG (Af c)),(aG (Af p))]) Tryz.func129 rfl rfl (AV rfl) (AE.subF (sL [0,1,2,3] rfl) (q4 (BU (cs:=Af a) rfl λb1=>BU (cs:=Af b) rfl λb2=>BU (cs:=Af c) rfl λb3=>?_)))
 refine BU (cs:=Af p) rfl λb4=>asg' rfl (q3 (sL [4,5,6,7,8] rfl) (BG 3 BM rfl (BG 2 BM rfl (BG 1 BM rfl ?_))))
 refine BG 0 BM rfl (CN (args:=[(aG (Af a)),(aG (Af b)),(aG (Af c)),(aG (Af p))]) (v:=(Value.tuple #[(aG (AN l0++AN l1++AN l2)),(vI 0)])) Tryz.call187 (λw hw=>(by rw [hl0,hl1,hl2];exact UU a b c p (by omega) h w)) rfl (AQ rfl (AK (AZ (v:=(aG (AN l0++AN l1++AN l2))) rfl rfl) rfl (AK (AZ (v:=(vI 0)) rfl rfl) rfl (al Jy rfl λb5=>?_)))))
 refine A8 rfl Tryz.sizeOf268 rfl (asg' rfl (q6 (sL [8,9,10] rfl) (q4 (AQ rfl (AK (Bk (c:=false) rfl rfl (by decide)) rfl ?_)))))
 refine AD.nil (AC.subF (sL [8,9,22] rfl) (AC.then_ (AE.cond_false rfl (AE.skip (q2 ?_)))))
 refine asg' rfl (q6 (sL [8,9,11] rfl) (q4 (AQ rfl (AD.nil (AC.then_ ?_)))))
 refine AE.block (AE.unroll 5 (FY.step (q4 (AK (Ai (c:=true) rfl rfl (by decide)) rfl (AD.nil ?_)))))
 refine q1 (AE.cond_true rfl (AE.skip (q1 (AE.block (q4 ?_)))))
 refine AQ rfl (asg' rfl (q3 (sL [8,9,11,23,12] rfl) (AQ rfl (AK (v:=(pP b5 0)) (AI (j:=0) rfl rfl Tryz.underlying268 Tryz.sizeOf48 rfl (by decide) rfl) rfl (Cf 0 (AN l0) Bf rfl ?_)))))
 refine ck' Tryz.call179 (EI l0) rfl (AD.nil (AC.subF (sL [8,9,11,23,29] rfl) (AC.then_ ?_)))
 refine AE.jn1 (tg λ(pl0:Nat)=>pl0=1+zq l0/\¬l0.num.sign = -1) (tg λ(pl0:Nat)=>[(9,(pP b5 0)),(23,(vI 0)),(11,(vN pl0))]) (tg λ(pl0:Nat)=>[Ad b5 268 (AN l0++AN l1++AN l2),Ad b4 51 (Af p),Ad b3 51 (Af c),Ad b2 51 (Af b),Ad b1 51 (Af a)]) ?_ ?_
 ·skip
  refine AE.block (q4 (AK (BR (c:=(decide (l0.num.sign=(-1:Int)))) rfl rfl rfl) rfl (asg' rfl (AD.nil (AC.subF (sL [8,9,11,23,29,30] rfl) ?_)))))
  refine AC.then_ ?_
  refine AE.cond rfl (λhc2=>?_) (λhc2=>?_)
  ·replace hc2:=of_decide_eq_true hc2
   have hz:=N7 (x:=l0) (y:=l1) (z:=l2) hc2
   refine q4 (asg' rfl (AD.nil (AC.then_ (AE.ret (AC.in_ret ?_)))))
   exact AC.join1_ret (AC.in_ret (AC.then_ret (AC.then_ret (AC.in_ret (AC.then_ret (AJ rfl (AS (v:=(vI 0)) rfl) (λw hw=>⟨by rw [<-hl0,<-hl1,<-hl2,hz];rfl,hw.out⟩)))))))
  ·replace hc2:=of_decide_eq_false hc2
   refine q4 (AK (BR (c:=(decide (l0.num.sign=(0:Int)))) rfl rfl rfl) rfl (asg' rfl (AD.nil (AC.subF (sL [8,9,11,23,29,32] rfl) (AC.then_ ?_)))))
   refine AE.cond rfl (λhc3=>?_) (λhc3=>?_)
   ·replace hc3:=of_decide_eq_true hc3
    refine AE.region (AQ rfl (AK (Ac (c:=(2:Int)) rfl rfl (by decide)) rfl (asg' rfl (AD.nil (AC.subF (sL [8,9,11,23,29] rfl) ?_)))))
    exact AC.in_normal (AC.join1 2 (⟨by simp [NU hc3],hc2⟩) (sF rfl) sr)
   ·replace hc3:=of_decide_eq_false hc3
    exact AE.skip (AC.in_normal (AC.join1 1 (⟨by simp [KZ hc3],hc2⟩) (sF rfl) sr))
 ·intro pl0 hJ
  obtain ⟨e0,n0⟩:=hJ
  have zz0:=RB l0
  refine AC.in_normal (AC.then_ (AE.region (AK (Ac (c:=(1:Int)) rfl rfl (by decide)) rfl (AQ rfl (AD.nil ?_)))))
  refine AC.subF (sL [9,23,11] rfl) (AC.again (FY.step (q4 (AK (Ai (c:=true) rfl rfl (by decide)) rfl (AD.nil ?_)))))
  refine q1 (AE.cond_true rfl (AE.skip (q1 (AE.block (q4 ?_)))))
  refine AQ rfl (asg' rfl (q3 (sL [9,23,11,12] rfl) (AQ rfl (AK (v:=(pP b5 5)) (AI (j:=1) rfl rfl Tryz.underlying268 Tryz.sizeOf48 rfl (by decide) rfl) rfl (Cf 0 (AN l1) Bf rfl ?_)))))
  refine ck' Tryz.call179 (EI l1) rfl (AD.nil (AC.subF (sL [9,23,11,29] rfl) (AC.then_ ?_)))
  refine AE.jn1 (tg λ(pl1:Nat)=>pl1=pl0+zq l1/\¬l1.num.sign = -1) (tg λ(pl1:Nat)=>[(9,(pP b5 0)),(23,(vI 1)),(11,(vN pl1))]) (tg λ(pl1:Nat)=>[Ad b5 268 (AN l0++AN l1++AN l2),Ad b4 51 (Af p),Ad b3 51 (Af c),Ad b2 51 (Af b),Ad b1 51 (Af a)]) ?_ ?_
  ·skip
   refine AE.block (q4 (AK (BR (c:=(decide (l1.num.sign=(-1:Int)))) rfl rfl rfl) rfl (asg' rfl (AD.nil (AC.subF (sL [9,23,11,29,30] rfl) ?_)))))
   refine AC.then_ ?_
   refine AE.cond rfl (λhc2=>?_) (λhc2=>?_)
   ·replace hc2:=of_decide_eq_true hc2
    have hz:=NN (x:=l0) (y:=l1) (z:=l2) hc2
    refine q4 (asg' rfl (AD.nil (AC.then_ (AE.ret (AC.in_ret ?_)))))
    exact AC.join1_ret (AC.in_ret (AC.then_ret (AC.then_ret (AC.in_ret (AC.then_ret (AJ rfl (AS (v:=(vI 0)) rfl) (λw hw=>⟨by rw [<-hl0,<-hl1,<-hl2,hz];rfl,hw.out⟩)))))))
   ·replace hc2:=of_decide_eq_false hc2
    refine q4 (AK (BR (c:=(decide (l1.num.sign=(0:Int)))) rfl rfl rfl) rfl (asg' rfl (AD.nil (AC.subF (sL [9,23,11,29,32] rfl) (AC.then_ ?_)))))
    refine AE.cond rfl (λhc3=>?_) (λhc3=>?_)
    ·replace hc3:=of_decide_eq_true hc3
     refine AE.region (AQ rfl (AK (Ac (c:=((pl0+1:Nat):Int)) rfl rfl (Ae (a:=pl0) (b:=1) (by omega))) rfl (asg' rfl (AD.nil (AC.subF (sL [9,23,11,29] rfl) ?_)))))
     exact AC.in_normal (AC.join1 (pl0+1) (⟨by simp [NU hc3],hc2⟩) (sF rfl) sr)
    ·replace hc3:=of_decide_eq_false hc3
     exact AE.skip (AC.in_normal (AC.join1 pl0 (⟨by simp [KZ hc3],hc2⟩) (sF rfl) sr))
  ·intro pl1 hJ
   obtain ⟨e1,n1⟩:=hJ
   have zz1:=RB l1
   refine AC.in_normal (AC.then_ (AE.region (AK (Ac (c:=(2:Int)) rfl rfl (by decide)) rfl (AQ rfl (AD.nil ?_)))))
   refine AC.subF (sL [9,23,11] rfl) (AC.again (FY.step (q4 (AK (Ai (c:=true) rfl rfl (by decide)) rfl (AD.nil ?_)))))
   refine q1 (AE.cond_true rfl (AE.skip (q1 (AE.block (q4 ?_)))))
   refine AQ rfl (asg' rfl (q3 (sL [9,23,11,12] rfl) (AQ rfl (AK (v:=(pP b5 10)) (AI (j:=2) rfl rfl Tryz.underlying268 Tryz.sizeOf48 rfl (by decide) rfl) rfl (Cf 0 (AN l2) Bf rfl ?_)))))
   refine ck' Tryz.call179 (EI l2) rfl (AD.nil (AC.subF (sL [9,23,11,29] rfl) (AC.then_ ?_)))
   refine AE.jn1 (tg λ(pl2:Nat)=>pl2=pl1+zq l2/\¬l2.num.sign = -1) (tg λ(pl2:Nat)=>[(9,(pP b5 0)),(23,(vI 2)),(11,(vN pl2))]) (tg λ(pl2:Nat)=>[Ad b5 268 (AN l0++AN l1++AN l2),Ad b4 51 (Af p),Ad b3 51 (Af c),Ad b2 51 (Af b),Ad b1 51 (Af a)]) ?_ ?_
   ·skip
    refine AE.block (q4 (AK (BR (c:=(decide (l2.num.sign=(-1:Int)))) rfl rfl rfl) rfl (asg' rfl (AD.nil (AC.subF (sL [9,23,11,29,30] rfl) ?_)))))
    refine AC.then_ ?_
    refine AE.cond rfl (λhc2=>?_) (λhc2=>?_)
    ·replace hc2:=of_decide_eq_true hc2
     have hz:=Mv (x:=l0) (y:=l1) (z:=l2) hc2
     refine q4 (asg' rfl (AD.nil (AC.then_ (AE.ret (AC.in_ret ?_)))))
     exact AC.join1_ret (AC.in_ret (AC.then_ret (AC.then_ret (AC.in_ret (AC.then_ret (AJ rfl (AS (v:=(vI 0)) rfl) (λw hw=>⟨by rw [<-hl0,<-hl1,<-hl2,hz];rfl,hw.out⟩)))))))
    ·replace hc2:=of_decide_eq_false hc2
     refine q4 (AK (BR (c:=(decide (l2.num.sign=(0:Int)))) rfl rfl rfl) rfl (asg' rfl (AD.nil (AC.subF (sL [9,23,11,29,32] rfl) (AC.then_ ?_)))))
     refine AE.cond rfl (λhc3=>?_) (λhc3=>?_)
     ·replace hc3:=of_decide_eq_true hc3
      refine AE.region (AQ rfl (AK (Ac (c:=((pl1+1:Nat):Int)) rfl rfl (Ae (a:=pl1) (b:=1) (by omega))) rfl (asg' rfl (AD.nil (AC.subF (sL [9,23,11,29] rfl) ?_)))))
      exact AC.in_normal (AC.join1 (pl1+1) (⟨by simp [NU hc3],hc2⟩) (sF rfl) sr)
     ·replace hc3:=of_decide_eq_false hc3
      exact AE.skip (AC.in_normal (AC.join1 pl1 (⟨by simp [KZ hc3],hc2⟩) (sF rfl) sr))
   ·intro pl2 hJ
    obtain ⟨e2,n2⟩:=hJ
    have zz2:=RB l2
    refine AC.in_normal (AC.then_ (AE.region (AK (Ac (c:=(3:Int)) rfl rfl (by decide)) rfl (AQ rfl (AD.nil ?_)))))
    refine AC.subF (sL [9,23,11] rfl) (AC.again (FY.step (q4 (AK (Ai (c:=false) rfl rfl (by decide)) rfl (AD.nil ?_)))))
    refine q1 (AE.cond_false rfl (AE.exit (AC.then_exit (AC.then_exit (AC.in_exit ?_)))))
    refine q2 (AQ rfl (asg' rfl (AD.nil (AC.subF (sL [9,23,11,8] rfl) (AC.then_ ?_)))))
    exact AE.ret (AJ rfl (AS (v:=(vN pl2)) rfl) (λw hw=>⟨by rw [<-hl0,<-hl1,<-hl2,R8 n0 n1 n2,e2,e1,e0],hw.out⟩))
theorem Pj (a b c p:Pt) (hs:B3 a+B3 b+B3 c+B3 p<=268435456) (h:Am a b c=0) (w:World)  :Calls Tryz.prog 129 #[(aG (Af a)),(aG (Af b)),(aG (Af c)),(aG (Af p))] w (Al w (vI 0)):=by
 refine Aa (args:=[(aG (Af a)),(aG (Af b)),(aG (Af c)),(aG (Af p))]) Tryz.func129 rfl rfl (AV rfl) (AE.subF (sL [0,1,2,3] rfl) (q4 (BU (cs:=Af a) rfl λb1=>BU (cs:=Af b) rfl λb2=>BU (cs:=Af c) rfl λb3=>?_)))
 refine BU (cs:=Af p) rfl λb4=>asg' rfl (q3 (sL [4,5,6,7,8] rfl) (BG 3 BM rfl (BG 2 BM rfl (BG 1 BM rfl ?_))))
 refine BG 0 BM rfl (ck' Tryz.call187 (R3 a b c p (by omega) h) rfl (AQ rfl (AK (AZ (v:=(aG (AN (0:Rat)++AN (0:Rat)++AN (0:Rat)))) rfl rfl) rfl (AK (AZ (v:=(vI 1)) rfl rfl) rfl (al Jy rfl λb5=>?_)))))
 refine A8 rfl Tryz.sizeOf268 rfl (asg' rfl (q6 (sL [8,9,10] rfl) (q4 (AQ rfl (AK (Bk (c:=true) rfl rfl (by decide)) rfl ?_)))))
 refine AD.nil (AC.subF (sL [8,9,22] rfl) (AC.then_ (AE.cond_true rfl (q4 (asg' rfl ?_)))))
 exact AD.nil (AC.subF (sL [8,9] rfl) (AC.then_ (AE.ret (AC.then_ret (AJ rfl (AS (v:=(vI 0)) rfl) (λw hw=>⟨rfl,hw.out⟩))))))
end
section
set_option maxRecDepth 100000
end
section
section
variable {P:Program} {n:Nat} {F:List (Nat×Value)} {w0:A_} {L:List As} {v:Value} {x:Operand} {d:Option Tmp} {t:TypeId} {p:String} {af:Array Edge} {g:Option (Nat×Bool)}
theorem EV {tx e:TypeId} {b len k:Nat} (hx:evF F x=some (.pointer (some ⟨b,0,none⟩))) (hu:P.underlying tx=some (.array len e)) (hs:∀w,(sizeOf e).run P w=.ok k w) (h0:0<len) :
    Ex P n F w0 L ⟨d,.slice tx x none none none,t,p,af,g⟩ (.slice (some ⟨b,0,none⟩) len len):=λA w ha _=>by
  have e1:¬len=0:=by omega
  simp [execOp,ha.ev hx,Instr.sliceAt,run_underlying hu,Instr.sureAddr,Instr.sliceBounds,Instr.sliceBound,hs,e1,Addr.add_lit]
end
end
section
set_option maxRecDepth 100000
end
section
set_option maxRecDepth 100000
end
section
set_option maxRecDepth 100000
end
section
set_option maxRecDepth 100000
end
section
set_option maxRecDepth 100000
end
section
set_option maxRecDepth 100000
end
end Go.Proofs.YtpgncndhhhllfaaGreatDoor
