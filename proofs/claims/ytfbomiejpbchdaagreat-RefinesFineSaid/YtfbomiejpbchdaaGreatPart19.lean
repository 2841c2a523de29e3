import Derived.Test.YtfbomiejpbchdaaGreatPart06
import Derived.Test.YtfbomiejpbchdaaGreatPart18
namespace Go.Proofs.YtfbomiejpbchdaaGreat
open Go Go.RowKit
set_option linter.unusedVariables false
set_option linter.unusedSimpArgs false
section
instance:Add Pt:=⟨λa b=>⟨a.x+b.x,a.y+b.y⟩⟩
instance:Sub Pt:=⟨λa b=>⟨a.x-b.x,a.y-b.y⟩⟩
def CS (a:Pt) (k:Rat):Pt:=⟨a.x*k,a.y*k⟩
def Ih (a b:Pt):Rat:=a.x*b.y-a.y*b.x
def Bx (a b:Pt):Rat:=a.x*b.x+a.y*b.y
def AQ (a b c:Pt):Rat:=Ih (b-a) (c-a)
def Bo (p:Pt):Nat:=max (Sz p.x) (Sz p.y)
theorem Dp (p:Pt):Sz p.x<=Bo p:=Nat.le_max_left ..
theorem Dm (p:Pt):Sz p.y<=Bo p:=Nat.le_max_right ..
theorem MZ {p:Pt} {k:Nat} (h1:Sz p.x<=k) (h2:Sz p.y<=k):Bo p<=k:=Nat.max_le.2 ⟨h1,h2⟩
theorem NF (a b:Pt):Bo (a+b)<=Bo a+Bo b+1:=by
  have h1:=Dp a;have h2:=Dm a;have h3:=Dp b;have h4:=Dm b
  refine MZ ?_ ?_
  · exact Nat.le_trans (GE a.x b.x) (by omega)
  · exact Nat.le_trans (GE a.y b.y) (by omega)
theorem DN (a b:Pt):Bo (a-b)<=Bo a+Bo b+1:=by
  have h1:=Dp a;have h2:=Dm a;have h3:=Dp b;have h4:=Dm b
  refine MZ ?_ ?_
  · exact Nat.le_trans (IX a.x b.x) (by omega)
  · exact Nat.le_trans (IX a.y b.y) (by omega)
theorem IV (a:Pt) (k:Rat):Bo (CS a k)<=Bo a+Sz k:=by
  have h1:=Dp a;have h2:=Dm a
  refine MZ ?_ ?_
  · exact Nat.le_trans (Cl a.x k) (by omega)
  · exact Nat.le_trans (Cl a.y k) (by omega)
theorem Kr (a b:Pt):Sz (Ih a b)<=2*Bo a+2*Bo b+1:=by
  have h1:=Dp a;have h2:=Dm a;have h3:=Dp b;have h4:=Dm b
  have h5:=Cl a.x b.y;have h6:=Cl a.y b.x
  exact Nat.le_trans (IX _ _) (by omega)
theorem HV (a b:Pt):Sz (Bx a b)<=2*Bo a+2*Bo b+1:=by
  have h1:=Dp a;have h2:=Dm a;have h3:=Dp b;have h4:=Dm b
  have h5:=Cl a.x b.x;have h6:=Cl a.y b.y
  exact Nat.le_trans (GE _ _) (by omega)
theorem C_ (a b c:Pt):Sz (AQ a b c)<=4*Bo a+2*Bo b+2*Bo c+5:=by
  have h1:=DN b a;have h2:=DN c a
  exact Nat.le_trans (Kr _ _) (by omega)
theorem Jc:Sz (1/2:Rat)<=1:=by decide +kernel
theorem P_:((1:Int):Rat)/((2:Int):Rat)=1/2:=by decide +kernel
theorem KH {z:Int} (h1:-9223372036854775808<=z) (h2:z<9223372036854775808):Sz ((z:Int):Rat)<=2:=XJ (KN (by show z.natAbs<_;omega)) (by show nw 1<=2;rw [J4];omega)
theorem XE (a b:Pt):Ae (a+b)=AD (a.x+b.x)++AD (a.y+b.y):=rfl
theorem Vw (a b:Pt):Ae (a-b)=AD (a.x-b.x)++AD (a.y-b.y):=rfl
theorem Rm (a:Pt) (k:Rat):Ae (CS a k)=AD (a.x*k)++AD (a.y*k):=rfl
theorem Xh (x y:Rat):Ae ⟨x,y⟩=AD x++AD y:=rfl
section
variable {P:Program} {Q:Exit->Act->World->Prop} {n:Nat} {F:List (Nat×Value)} {w0:BP} {L:List As} {c:Code}
def Dr (P:Program) (c:Code) (Q:Exit->Act->World->Prop) (k n:Nat) (F:List (Nat×Value)) (w0:BP) (L:List As):Prop:=∀a w,Cd n a F->BR w0 w L->Code.rounds P c Q k a w
theorem AG.unroll (k:Nat) (h:Dr P c Q k n F w0 L):AG P (.loop c) Q n F w0 L:=λa w ha hw=>wp_loop_rounds k (h a w ha hw)
theorem Dr.step {k:Nat} (h:AG P c (Exit.then (Code.rounds P c Q k) Q) n F w0 L):Dr P c Q (k+1) n F w0 L:=λa w ha hw=>by
  rw [rounds_succ];exact h a w ha hw
theorem AC.again {k:Nat} (h:Dr P c Q k n F w0 L):AC (Exit.then (Code.rounds P c Q k) Q) .normal n F w0 L:=h
end
end
section
set_option maxRecDepth 100000
theorem By (x0:Rat) (x1:Rat):Instr.fill ([(0,5),(5,5)].toArray[·]?) (Ae (⟨0,0⟩:Pt)).toArray [(0,.agg (AD x0).toArray),(1,.agg (AD x1).toArray)]=some (AD x0++AD x1).toArray:=by kernel_rfl
theorem OT (a b:Pt) (hs:Bo a+Bo b<=68719476736) (w:World)  :Calls Tryz.prog 156 #[(aG (Ae a)),(aG (Ae b)),(Value.func (.func 29) #[] #[])] w (Am w (aG (Ae (a+b)))):=by
 have p1:=Dp a
 have p2:=Dm a
 have p3:=Dp b
 have p4:=Dm b
 refine Ac (args:=[(aG (Ae a)),(aG (Ae b)),(Value.func (.func 29) #[] #[])]) Tryz.func156 rfl rfl (Ad rfl) (AG.subF (sL [0,1,2] rfl) (q4 (Bl (cs:=Ae a) rfl λb1=>Bl (cs:=Ae b) rfl λb2=>al EM rfl λb3=>?_)))
 refine q6 (sL [2,3,4,6] rfl) (Cq [(0,true),(1,true),(2,true),(3,true),(4,true),(6,true),(7,true),(8,true),(9,true),(10,true),(5,false),(11,false),(12,true),(13,false)] (sl sr) (Bc rfl (Av (v:=(pP b1 0)) rfl (AA rfl Tryz.underlying55 rfl Tryz.sizeOf53 rfl) (Fk 1 (AD a.x) BO rfl (Av (v:=(pP b2 0)) rfl (AA rfl Tryz.underlying55 rfl Tryz.sizeOf53 rfl) ?_)))))
 refine Fk 0 (AD b.x) BO rfl (Bc rfl (Av (v:=(pP b1 5)) rfl (AA rfl Tryz.underlying55 rfl Tryz.sizeOf53 rfl) (Fk 1 (AD a.y) BO rfl (Av (v:=(pP b2 5)) rfl (AA rfl Tryz.underlying55 rfl Tryz.sizeOf53 rfl) (Fk 0 (AD b.y) BO rfl ?_)))))
 refine AS.imp rfl ?_
 have hz1:=GE a.x b.x
 refine BU Tryz.call29 (H8 a.x b.x (by (try simp only [DS]);omega)) rfl (AS.back (sl sr) (AS.imp rfl ?_))
 have hz2:=GE a.y b.y
 refine BU Tryz.call29 (H8 a.y b.y (by (try simp only [DS]);omega)) rfl (AS.back (sl sr) (Av (v:=(aG (AD (a.x+b.x)++AD (a.y+b.y)))) rfl (AY (zs:=Ae (⟨0,0⟩:Pt)) (vs:=AD (a.x+b.x)++AD (a.y+b.y)) (pv:=[(0,(aG (AD (a.x+b.x)))),(1,(aG (AD (a.y+b.y))))]) (places:=[(0,5),(5,5)]) Tryz.zeroValue55 Tryz.underlying55 (λw=>by simp [Tryz.sizeOf53]) rfl (By (a.x+b.x) (a.y+b.y))) (AS.imp rfl (Ap rfl Tryz.sizeOf55 rfl (AS.back (sl sr) ?_)))))
 exact AS.nil (AC.subF (sL [6] rfl) (AC.then_ (AG.ret (AR rfl (Ay (i:=0) (cs:=AD (a.x+b.x)++AD (a.y+b.y)) rfl rfl Tryz.isAgg55 Tryz.sizeOf55 rfl) (λw hw=>⟨by rw [XE],hw.out⟩)))))
theorem N5 (a b:Pt) (hs:Bo a+Bo b<=68719476736) (w:World)  :Calls Tryz.prog 156 #[(aG (Ae a)),(aG (Ae b)),(Value.func (.func 111) #[] #[])] w (Am w (aG (Ae (a-b)))):=by
 have p1:=Dp a
 have p2:=Dm a
 have p3:=Dp b
 have p4:=Dm b
 refine Ac (args:=[(aG (Ae a)),(aG (Ae b)),(Value.func (.func 111) #[] #[])]) Tryz.func156 rfl rfl (Ad rfl) (AG.subF (sL [0,1,2] rfl) (q4 (Bl (cs:=Ae a) rfl λb1=>Bl (cs:=Ae b) rfl λb2=>al EM rfl λb3=>?_)))
 refine q6 (sL [2,3,4,6] rfl) (Cq [(0,true),(1,true),(2,true),(3,true),(4,true),(6,true),(7,true),(8,true),(9,true),(10,true),(5,false),(11,false),(12,true),(13,false)] (sl sr) (Bc rfl (Av (v:=(pP b1 0)) rfl (AA rfl Tryz.underlying55 rfl Tryz.sizeOf53 rfl) (Fk 1 (AD a.x) BO rfl (Av (v:=(pP b2 0)) rfl (AA rfl Tryz.underlying55 rfl Tryz.sizeOf53 rfl) ?_)))))
 refine Fk 0 (AD b.x) BO rfl (Bc rfl (Av (v:=(pP b1 5)) rfl (AA rfl Tryz.underlying55 rfl Tryz.sizeOf53 rfl) (Fk 1 (AD a.y) BO rfl (Av (v:=(pP b2 5)) rfl (AA rfl Tryz.underlying55 rfl Tryz.sizeOf53 rfl) (Fk 0 (AD b.y) BO rfl ?_)))))
 refine AS.imp rfl ?_
 have hz1:=IX a.x b.x
 refine BU Tryz.call111 (NB a.x b.x (by (try simp only [DS]);omega)) rfl (AS.back (sl sr) (AS.imp rfl ?_))
 have hz2:=IX a.y b.y
 refine BU Tryz.call111 (NB a.y b.y (by (try simp only [DS]);omega)) rfl (AS.back (sl sr) (Av (v:=(aG (AD (a.x-b.x)++AD (a.y-b.y)))) rfl (AY (zs:=Ae (⟨0,0⟩:Pt)) (vs:=AD (a.x-b.x)++AD (a.y-b.y)) (pv:=[(0,(aG (AD (a.x-b.x)))),(1,(aG (AD (a.y-b.y))))]) (places:=[(0,5),(5,5)]) Tryz.zeroValue55 Tryz.underlying55 (λw=>by simp [Tryz.sizeOf53]) rfl (By (a.x-b.x) (a.y-b.y))) (AS.imp rfl (Ap rfl Tryz.sizeOf55 rfl (AS.back (sl sr) ?_)))))
 exact AS.nil (AC.subF (sL [6] rfl) (AC.then_ (AG.ret (AR rfl (Ay (i:=0) (cs:=AD (a.x-b.x)++AD (a.y-b.y)) rfl rfl Tryz.isAgg55 Tryz.sizeOf55 rfl) (λw hw=>⟨by rw [Vw],hw.out⟩)))))
theorem MR (x y k:Rat) (bk:Nat) (hs:Sz x+Sz k<=137438953472) (w:World) (hk:w.heap[bk]?=some (.cells (AD k).toArray 53 (0,0))):Calls Tryz.prog 214 #[(aG (AD x)),(aG (AD y)),(pP bk 0)] w (Am w (aG (AD (x*k)))):=by
 refine Ac (args:=[(aG (AD x)),(aG (AD y)),(pP bk 0)]) Tryz.func214 rfl rfl (Ad rfl) (AG.subF (sL [0,1,2] rfl) (q4 (Bl (cs:=AD x) rfl λb1=>Bl (cs:=AD y) rfl λb2=>al Dk rfl λb3=>?_)))
 refine q3 (sL [2,3,5] rfl) (A7 2 BO rfl (AJ (v:=(aG (AD k))) (FG (vs:=AD k) rfl (λw' hw=>hw.oldCA (by simp) (Ei hk)) Tryz.isAgg53 Tryz.sizeOf53 rfl) rfl ?_))
 have hz1:=Cl x k
 exact BU Tryz.call24 (FX x k (by (try simp only [DS]);omega)) rfl (Ap rfl Tryz.sizeOf53 rfl (AF.nil (AC.subF (sL [5] rfl) (AC.then_ (AG.ret (AR rfl (Ay (i:=0) (cs:=AD (x*k)) rfl rfl Tryz.isAgg53 Tryz.sizeOf53 rfl) (λw hw=>⟨rfl,hw.out⟩)))))))
theorem LX (a:Pt) (k:Rat) (bk:Nat) (hs:Bo a+Sz k<=137438953472) (w:World) (hk:w.heap[bk]?=some (.cells (AD k).toArray 53 (0,0))):Calls Tryz.prog 156 #[(aG (Ae a)),(aG (Ae a)),(Value.func (.func 214) #[] #[(pP bk 0)])] w (Am w (aG (Ae (CS a k)))):=by
 have p1:=Dp a
 have p2:=Dm a
 refine Ac (args:=[(aG (Ae a)),(aG (Ae a)),(Value.func (.func 214) #[] #[(pP bk 0)])]) Tryz.func156 rfl rfl (Ad rfl) (AG.subF (sL [0,1,2] rfl) (q4 (Bl (cs:=Ae a) rfl λb1=>Bl (cs:=Ae a) rfl λb2=>al EM rfl λb3=>?_)))
 refine q6 (sL [2,3,4,6] rfl) (Cq [(0,true),(1,true),(2,true),(3,true),(4,true),(6,true),(7,true),(8,true),(9,true),(10,true),(5,false),(11,false),(12,true),(13,false)] (sl sr) (Bc rfl (Av (v:=(pP b1 0)) rfl (AA rfl Tryz.underlying55 rfl Tryz.sizeOf53 rfl) (Fk 1 (AD a.x) BO rfl (Av (v:=(pP b2 0)) rfl (AA rfl Tryz.underlying55 rfl Tryz.sizeOf53 rfl) ?_)))))
 refine Fk 0 (AD a.x) BO rfl (Bc rfl (Av (v:=(pP b1 5)) rfl (AA rfl Tryz.underlying55 rfl Tryz.sizeOf53 rfl) (Fk 1 (AD a.y) BO rfl (Av (v:=(pP b2 5)) rfl (AA rfl Tryz.underlying55 rfl Tryz.sizeOf53 rfl) (Fk 0 (AD a.y) BO rfl ?_)))))
 refine AS.imp rfl (AF.call (v:=(aG (AD (a.x*k)))) (AN rfl) (F9 (args:=[(aG (AD a.x)),(aG (AD a.x))]) (caps:=[(pP bk 0)]) (all:=[(aG (AD a.x)),(aG (AD a.x)),(pP bk 0)]) rfl rfl rfl Tryz.call214) (λw hw=>MR a.x a.x k bk (by omega) w (hw.old (by simp) hk)) rfl (Ad rfl) (AS.back (sl sr) (AS.imp rfl (AF.call (v:=(aG (AD (a.y*k)))) (AN rfl) (F9 (args:=[(aG (AD a.y)),(aG (AD a.y))]) (caps:=[(pP bk 0)]) (all:=[(aG (AD a.y)),(aG (AD a.y)),(pP bk 0)]) rfl rfl rfl Tryz.call214) (λw hw=>MR a.y a.y k bk (by omega) w (hw.old (by simp) hk)) rfl (Ad rfl) (AS.back (sl sr) ?_)))))
 refine Av (v:=(aG (AD (a.x*k)++AD (a.y*k)))) rfl (AY (zs:=Ae (⟨0,0⟩:Pt)) (vs:=AD (a.x*k)++AD (a.y*k)) (pv:=[(0,(aG (AD (a.x*k)))),(1,(aG (AD (a.y*k))))]) (places:=[(0,5),(5,5)]) Tryz.zeroValue55 Tryz.underlying55 (λw=>by simp [Tryz.sizeOf53]) rfl (By (a.x*k) (a.y*k))) (AS.imp rfl (Ap rfl Tryz.sizeOf55 rfl (AS.back (sl sr) (AS.nil (AC.subF (sL [6] rfl) ?_)))))
 exact AC.then_ (AG.ret (AR rfl (Ay (i:=0) (cs:=AD (a.x*k)++AD (a.y*k)) rfl rfl Tryz.isAgg55 Tryz.sizeOf55 rfl) (λw hw=>⟨by rw [Rm],hw.out⟩)))
theorem WL (a b:Pt) (hs:Bo a+Bo b<=68719476736) (w:World)  :Calls Tryz.prog 173 #[(aG (Ae a)),(aG (Ae b))] w (Am w (aG (Ae (a+b)))):=by
 refine Ac (args:=[(aG (Ae a)),(aG (Ae b))]) Tryz.func173 rfl rfl (Ad rfl) (AG.subF (sL [0,1] rfl) (q4 (Bl (cs:=Ae a) rfl λb1=>Bl (cs:=Ae b) rfl λb2=>al EM rfl λb3=>?_)))
 refine q3 (sL [2,3,4] rfl) (A7 2 BC rfl (A7 1 BC rfl (BU Tryz.call156 (OT a b (by omega)) rfl (Ap rfl Tryz.sizeOf55 rfl (AF.nil ?_)))))
 exact AC.subF (sL [4] rfl) (AC.then_ (AG.ret (AR rfl (Ay (i:=0) (cs:=Ae (a+b)) rfl rfl Tryz.isAgg55 Tryz.sizeOf55 rfl) (λw hw=>⟨rfl,hw.out⟩))))
theorem Hv (a b:Pt) (hs:Bo a+Bo b<=68719476736) (w:World)  :Calls Tryz.prog 92 #[(aG (Ae a)),(aG (Ae b))] w (Am w (aG (Ae (a-b)))):=by
 refine Ac (args:=[(aG (Ae a)),(aG (Ae b))]) Tryz.func92 rfl rfl (Ad rfl) (AG.subF (sL [0,1] rfl) (q4 (Bl (cs:=Ae a) rfl λb1=>Bl (cs:=Ae b) rfl λb2=>al EM rfl λb3=>?_)))
 refine q3 (sL [2,3,4] rfl) (A7 2 BC rfl (A7 1 BC rfl (BU Tryz.call156 (N5 a b (by omega)) rfl (Ap rfl Tryz.sizeOf55 rfl (AF.nil ?_)))))
 exact AC.subF (sL [4] rfl) (AC.then_ (AG.ret (AR rfl (Ay (i:=0) (cs:=Ae (a-b)) rfl rfl Tryz.isAgg55 Tryz.sizeOf55 rfl) (λw hw=>⟨rfl,hw.out⟩))))
theorem Rh (a:Pt) (k:Rat) (hs:Bo a+Sz k<=137438953472) (w:World)  :Calls Tryz.prog 172 #[(aG (Ae a)),(aG (AD k))] w (Am w (aG (Ae (CS a k)))):=by
 refine Ac (args:=[(aG (Ae a)),(aG (AD k))]) Tryz.func172 rfl rfl (Ad rfl) (AG.subF (sL [0,1] rfl) (q4 (Bl (cs:=Ae a) rfl λb1=>Bl (cs:=AD k) rfl λb2=>al EM rfl λb3=>?_)))
 refine q3 (sL [2,3,4] rfl) (A7 2 BC rfl (A7 2 BC rfl (AJ (v:=(Value.func (.func 214) #[] #[(pP b2 0)])) (EO (vs:=[]) (us:=[(pP b2 0)]) rfl rfl) rfl (Ey Tryz.call156 (λw hw=>LX a k b2 (by omega) w (hw.get (i:=1) rfl)) rfl (Ap rfl Tryz.sizeOf55 rfl ?_)))))
 exact AF.nil (AC.subF (sL [4] rfl) (AC.then_ (AG.ret (AR rfl (Ay (i:=0) (cs:=Ae (CS a k)) rfl rfl Tryz.isAgg55 Tryz.sizeOf55 rfl) (λw hw=>⟨rfl,hw.out⟩)))))
theorem MC (a b:Pt) (hs:Bo a+Bo b<=68719476736) (w:World)  :Calls Tryz.prog 43 #[(aG (Ae a)),(aG (Ae b))] w (Am w (aG (AD (Ih a b)))):=by
 have p1:=Dp a
 have p2:=Dm a
 have p3:=Dp b
 have p4:=Dm b
 refine Ac (args:=[(aG (Ae a)),(aG (Ae b))]) Tryz.func43 rfl rfl (Ad rfl) (AG.subF (sL [0,1] rfl) (q4 (Bl (cs:=Ae a) rfl λb1=>Bl (cs:=Ae b) rfl λb2=>al Dk rfl λb3=>?_)))
 refine q6 (sL [2,3,4] rfl) (Cq [(0,true),(1,true),(2,true),(3,true),(5,true),(6,true),(7,true),(8,true),(4,false),(9,false),(10,false),(11,false)] (sl sr) (Av (v:=(pP b1 0)) rfl (AA rfl Tryz.underlying55 rfl Tryz.sizeOf53 rfl) (Fk 1 (AD a.x) BO rfl (Av (v:=(pP b2 5)) rfl (AA rfl Tryz.underlying55 rfl Tryz.sizeOf53 rfl) (Fk 0 (AD b.y) BO rfl ?_)))))
 refine Av (v:=(pP b1 5)) rfl (AA rfl Tryz.underlying55 rfl Tryz.sizeOf53 rfl) (Fk 1 (AD a.y) BO rfl (Av (v:=(pP b2 0)) rfl (AA rfl Tryz.underlying55 rfl Tryz.sizeOf53 rfl) (Fk 0 (AD b.x) BO rfl (AS.imp rfl ?_))))
 have hz1:=Cl a.x b.y
 refine BU Tryz.call24 (FX a.x b.y (by (try simp only [DS]);omega)) rfl (AS.back (sl sr) (AS.imp rfl ?_))
 have hz2:=Cl a.y b.x
 refine BU Tryz.call24 (FX a.y b.x (by (try simp only [DS]);omega)) rfl (AS.back (sl sr) (AS.imp rfl ?_))
 have hz3:=IX (a.x*b.y) (a.y*b.x)
 refine BU Tryz.call111 (NB (a.x*b.y) (a.y*b.x) (by (try simp only [DS]);omega)) rfl (AS.back (sl sr) (AS.imp rfl (Ap rfl Tryz.sizeOf53 rfl (AS.back (sl sr) (AS.nil ?_)))))
 exact AC.subF (sL [4] rfl) (AC.then_ (AG.ret (AR rfl (Ay (i:=0) (cs:=AD ((a.x*b.y)-(a.y*b.x))) rfl rfl Tryz.isAgg53 Tryz.sizeOf53 rfl) (λw hw=>⟨rfl,hw.out⟩))))
theorem Vi (a b:Pt) (hs:Bo a+Bo b<=68719476736) (w:World)  :Calls Tryz.prog 93 #[(aG (Ae a)),(aG (Ae b))] w (Am w (aG (AD (Bx a b)))):=by
 have p1:=Dp a
 have p2:=Dm a
 have p3:=Dp b
 have p4:=Dm b
 refine Ac (args:=[(aG (Ae a)),(aG (Ae b))]) Tryz.func93 rfl rfl (Ad rfl) (AG.subF (sL [0,1] rfl) (q4 (Bl (cs:=Ae a) rfl λb1=>Bl (cs:=Ae b) rfl λb2=>al Dk rfl λb3=>?_)))
 refine q6 (sL [2,3,4] rfl) (Cq [(0,true),(1,true),(2,true),(3,true),(5,true),(6,true),(7,true),(8,true),(4,false),(9,false),(10,false),(11,false)] (sl sr) (Av (v:=(pP b1 0)) rfl (AA rfl Tryz.underlying55 rfl Tryz.sizeOf53 rfl) (Fk 1 (AD a.x) BO rfl (Av (v:=(pP b2 0)) rfl (AA rfl Tryz.underlying55 rfl Tryz.sizeOf53 rfl) (Fk 0 (AD b.x) BO rfl ?_)))))
 refine Av (v:=(pP b1 5)) rfl (AA rfl Tryz.underlying55 rfl Tryz.sizeOf53 rfl) (Fk 1 (AD a.y) BO rfl (Av (v:=(pP b2 5)) rfl (AA rfl Tryz.underlying55 rfl Tryz.sizeOf53 rfl) (Fk 0 (AD b.y) BO rfl (AS.imp rfl ?_))))
 have hz1:=Cl a.x b.x
 refine BU Tryz.call24 (FX a.x b.x (by (try simp only [DS]);omega)) rfl (AS.back (sl sr) (AS.imp rfl ?_))
 have hz2:=Cl a.y b.y
 refine BU Tryz.call24 (FX a.y b.y (by (try simp only [DS]);omega)) rfl (AS.back (sl sr) (AS.imp rfl ?_))
 have hz3:=GE (a.x*b.x) (a.y*b.y)
 refine BU Tryz.call29 (H8 (a.x*b.x) (a.y*b.y) (by (try simp only [DS]);omega)) rfl (AS.back (sl sr) (AS.imp rfl (Ap rfl Tryz.sizeOf53 rfl (AS.back (sl sr) (AS.nil ?_)))))
 exact AC.subF (sL [4] rfl) (AC.then_ (AG.ret (AR rfl (Ay (i:=0) (cs:=AD ((a.x*b.x)+(a.y*b.y))) rfl rfl Tryz.isAgg53 Tryz.sizeOf53 rfl) (λw hw=>⟨rfl,hw.out⟩))))
theorem Ns (a b c:Pt) (hs:Bo a+Bo b+Bo c<=17179869184) (w:World)  :Calls Tryz.prog 52 #[(aG (Ae a)),(aG (Ae b)),(aG (Ae c))] w (Am w (vI ((AQ a b c).num.sign))):=by
 refine Ac (args:=[(aG (Ae a)),(aG (Ae b)),(aG (Ae c))]) Tryz.func52 rfl rfl (Ad rfl) (AG.subF (sL [0,1,2] rfl) (q4 (Bl (cs:=Ae a) rfl λb1=>Bl (cs:=Ae b) rfl λb2=>Bl (cs:=Ae c) rfl λb3=>?_)))
 refine AK rfl (q6 (sL [3,4,5,6] rfl) (Cq [(0,true),(1,true),(3,true),(4,true),(2,false),(5,false),(6,false),(7,false),(8,true)] sr (Fz 1 BC rfl (Fz 2 BC rfl (Fz 0 BC rfl ?_)))))
 refine Fz 2 BC rfl (AS.imp rfl ?_)
 have hz1:=DN b a
 refine BU Tryz.call92 (Hv b a (by omega)) rfl (AS.back sr (AS.imp rfl ?_))
 have hz2:=DN c a
 refine BU Tryz.call92 (Hv c a (by omega)) rfl (AS.back sr (AS.imp rfl ?_))
 have hz3:=Kr (b-a) (c-a)
 refine BU Tryz.call43 (MC (b-a) (c-a) (by omega)) rfl (AS.back sr (AS.imp rfl (BU Tryz.call63 (EQ (Ih (b-a) (c-a))) rfl (AS.back sr (FO rfl ?_)))))
 exact AS.nil (AC.subF (sL [6] rfl) (AC.then_ (AG.ret (AR rfl (Ai (v:=(vI ((Ih (b-a) (c-a)).num.sign))) rfl) (λw hw=>⟨rfl,hw.out⟩)))))
theorem He (a b:Pt) (hs:Bo a+Bo b<=17179869184) (w:World)  :Calls Tryz.prog 32 #[(aG (Ae a)),(aG (Ae b))] w (Am w (aG (AD (Bx (b-a) (b-a))))):=by
 refine Ac (args:=[(aG (Ae a)),(aG (Ae b))]) Tryz.func32 rfl rfl (Ad rfl) (AG.subF (sL [0,1] rfl) (q4 (Bl (cs:=Ae a) rfl λb1=>Bl (cs:=Ae b) rfl λb2=>al Dk rfl λb3=>?_)))
 refine q3 (sL [2,3,4] rfl) (A7 1 BC rfl (A7 2 BC rfl ?_))
 have hz1:=DN b a
 refine BU Tryz.call92 (Hv b a (by omega)) rfl (al EM rfl λb4=>Ap rfl Tryz.sizeOf55 rfl (q3 (sL [4,5] rfl) (A7 0 BC rfl (A7 0 BC rfl ?_))))
 have hz2:=HV (b-a) (b-a)
 exact BU Tryz.call93 (Vi (b-a) (b-a) (by omega)) rfl (Cr rfl Tryz.sizeOf53 rfl (AF.nil (AC.subF (sL [4,5] rfl) (AC.then_ (AG.ret (AR rfl (Ay (i:=1) (cs:=AD (Bx (b-a) (b-a))) rfl rfl Tryz.isAgg53 Tryz.sizeOf53 rfl) (λw hw=>⟨rfl,hw.out⟩)))))))
theorem G_ (x y:Int) (h1:-9223372036854775808<=x) (h2:x<9223372036854775808) (h3:-9223372036854775808<=y) (h4:y<9223372036854775808) (w:World)  :Calls Tryz.prog 56 #[(vI x),(vI y)] w (Am w (aG (Ae (⟨((x:Int):Rat),((y:Int):Rat)⟩:Pt)))):=by
 refine Ac (args:=[(vI x),(vI y)]) Tryz.func56 rfl rfl (Ad rfl) (AG.subF (sL [0,1] rfl) (q4 (al EM rfl λb1=>AF.nil (q2 ?_))))
 refine AO rfl (BU Tryz.call25 (IG x (by omega) (by omega)) rfl (AO rfl (BU Tryz.call25 (IG y (by omega) (by omega)) rfl (AJ (v:=(aG (AD ((x:Int):Rat)++AD ((y:Int):Rat)))) (AY (zs:=Ae (⟨0,0⟩:Pt)) (vs:=AD ((x:Int):Rat)++AD ((y:Int):Rat)) (pv:=[(0,(aG (AD ((x:Int):Rat)))),(1,(aG (AD ((y:Int):Rat))))]) (places:=[(0,5),(5,5)]) Tryz.zeroValue55 Tryz.underlying55 (λw=>by simp [Tryz.sizeOf53]) rfl (By ((x:Int):Rat) ((y:Int):Rat))) rfl (Ap rfl Tryz.sizeOf55 rfl ?_)))))
 exact AF.nil (AC.subF (sL [4] rfl) (AC.then_ (AG.ret (AR rfl (Ay (i:=0) (cs:=AD ((x:Int):Rat)++AD ((y:Int):Rat)) rfl rfl Tryz.isAgg55 Tryz.sizeOf55 rfl) (λw hw=>⟨by rw [Xh],hw.out⟩)))))
end
section
set_option maxRecDepth 100000
theorem Po (x y:Int) (h1:-9223372036854775808<=x) (h2:x<9223372036854775808) (h3:-9223372036854775808<=y) (h4:y<9223372036854775808) (hy:y≠0) (w:World)  :Calls Tryz.prog 152 #[(vI x),(vI y)] w (Am w (Value.tuple #[(aG (AD (((x:Int):Rat)/((y:Int):Rat)))),(vI 0)])):=by
 have hb:((y:Int):Rat)≠0:=λe=>hy (by exact_mod_cast e)
 have s1:=KH h1 h2
 have s2:=KH h3 h4
 refine Ac (args:=[(vI x),(vI y)]) Tryz.func152 rfl rfl (Ad rfl) (AG.subF (sL [0,1] rfl) (q4 (al Dk rfl λb1=>AK rfl (AF.nil ?_))))
 refine q2 (AO rfl (BU Tryz.call25 (IG x (by omega) (by omega)) rfl (AO rfl (BU Tryz.call25 (IG y (by omega) (by omega)) rfl ?_))))
 have hz1:=Ho (a:=((x:Int):Rat)) (b:=((y:Int):Rat)) (by assumption)
 refine BU Tryz.call66 (G3 ((x:Int):Rat) ((y:Int):Rat) (by omega) (by assumption)) rfl (AJ (AT (v:=(aG (AD (((x:Int):Rat)/((y:Int):Rat))))) rfl rfl) rfl (AJ (AT (v:=(vI 0)) rfl rfl) rfl (Ap rfl Tryz.sizeOf53 rfl (AK rfl (AF.nil ?_)))))
 exact AC.subF (sL [4,5] rfl) (AC.then_ (AG.ret (Ct rfl (Ay (i:=0) (cs:=AD (((x:Int):Rat)/((y:Int):Rat))) rfl rfl Tryz.isAgg53 Tryz.sizeOf53 rfl) (Ai (v:=(vI 0)) rfl) (λw hw=>⟨rfl,hw.out⟩))))
theorem SZ  (w:World)  :Calls Tryz.prog 174 #[] w (Am w (aG (AD ((1:Rat)/2)))):=by
 refine Ac (args:=[]) Tryz.func174 rfl rfl (Ad rfl) (AG.subF sN (q4 (al Dk rfl λb1=>AF.nil (q2 ?_))))
 refine BU Tryz.call152 (Po (1:Int) (2:Int) (by omega) (by omega) (by omega) (by omega) (by omega)) rfl (AO rfl (AJ (AT (v:=(aG (AD (((1:Int):Rat)/((2:Int):Rat))))) rfl rfl) rfl (AF.retell (k:=5) (u:=(aG (AD ((1:Rat)/2)))) rfl (by rw [P_]) (AJ (AT (v:=(vI 0)) rfl rfl) rfl (al Dk rfl λb2=>?_)))))
 refine Ap rfl Tryz.sizeOf53 rfl (AK rfl (q3 (sL [0,1] rfl) (A7 0 BO rfl (Cr rfl Tryz.sizeOf53 rfl (AF.nil ?_)))))
 exact AC.subF (sL [0,1] rfl) (AC.then_ (AG.ret (AR rfl (Ay (i:=1) (cs:=AD ((1:Rat)/2)) rfl rfl Tryz.isAgg53 Tryz.sizeOf53 rfl) (λw hw=>⟨rfl,hw.out⟩))))
theorem Vq (a b:Pt) (hs:Bo a+Bo b<=17179869184) (w:World)  :Calls Tryz.prog 121 #[(aG (Ae a)),(aG (Ae b))] w (Am w (aG (Ae (CS (a+b) (1/2))))):=by
 have sh:=Jc
 refine Ac (args:=[(aG (Ae a)),(aG (Ae b))]) Tryz.func121 rfl rfl (Ad rfl) (AG.subF (sL [0,1] rfl) (q4 (Bl (cs:=Ae a) rfl λb1=>Bl (cs:=Ae b) rfl λb2=>al EM rfl λb3=>?_)))
 refine q3 (sL [2,3,4] rfl) (A7 2 BC rfl (A7 1 BC rfl ?_))
 have hz1:=NF a b
 refine BU Tryz.call173 (WL a b (by omega)) rfl (BU Tryz.call174 (SZ) rfl ?_)
 have hz2:=IV (a+b) ((1:Rat)/2)
 exact BU Tryz.call172 (Rh (a+b) ((1:Rat)/2) (by omega)) rfl (Ap rfl Tryz.sizeOf55 rfl (AF.nil (AC.subF (sL [4] rfl) (AC.then_ (AG.ret (AR rfl (Ay (i:=0) (cs:=Ae (CS (a+b) ((1:Rat)/2))) rfl rfl Tryz.isAgg55 Tryz.sizeOf55 rfl) (λw hw=>⟨rfl,hw.out⟩)))))))
theorem S5 (x:Rat) (hs:Sz x<=137438953472) (w:World)  :Calls Tryz.prog 74 #[(aG (AD x))] w (Am w (aG (AD (x*(1/2))))):=by
 have sh:=Jc
 refine Ac (args:=[(aG (AD x))]) Tryz.func74 rfl rfl (Ad rfl) (AG.subF (sL [0] rfl) (q4 (Bl (cs:=AD x) rfl λb1=>al Dk rfl λb2=>q3 (sL [1,2] rfl) ?_)))
 refine BU Tryz.call152 (Po (1:Int) (2:Int) (by omega) (by omega) (by omega) (by omega) (by omega)) rfl (AO rfl (AJ (AT (v:=(aG (AD (((1:Int):Rat)/((2:Int):Rat))))) rfl rfl) rfl (AF.retell (k:=7) (u:=(aG (AD ((1:Rat)/2)))) rfl (by rw [P_]) (AJ (AT (v:=(vI 0)) rfl rfl) rfl (al Dk rfl λb3=>?_)))))
 refine Ap rfl Tryz.sizeOf53 rfl (AK rfl (q3 (sL [1,2,3] rfl) (A7 2 BO rfl (A7 0 BO rfl ?_))))
 have hz1:=Cl x ((1:Rat)/2)
 exact BU Tryz.call24 (FX x ((1:Rat)/2) (by (try simp only [DS]);omega)) rfl (Cr rfl Tryz.sizeOf53 rfl (AF.nil (AC.subF (sL [2,3] rfl) (AC.then_ (AG.ret (AR rfl (Ay (i:=1) (cs:=AD (x*((1:Rat)/2))) rfl rfl Tryz.isAgg53 Tryz.sizeOf53 rfl) (λw hw=>⟨rfl,hw.out⟩)))))))
theorem DW (a b c:Pt) (hs:Bo a+Bo b+Bo c<=8589934592) (w:World)  :Calls Tryz.prog 64 #[(aG (Ae a)),(aG (Ae b)),(aG (Ae c))] w (Am w (aG (AD (AQ a b c)))):=by
 refine Ac (args:=[(aG (Ae a)),(aG (Ae b)),(aG (Ae c))]) Tryz.func64 rfl rfl (Ad rfl) (AG.subF (sL [0,1,2] rfl) (q4 (Bl (cs:=Ae a) rfl λb1=>Bl (cs:=Ae b) rfl λb2=>Bl (cs:=Ae c) rfl λb3=>?_)))
 refine al Dk rfl λb4=>q6 (sL [3,4,5,6] rfl) (Cq [(0,true),(1,true),(3,true),(4,true),(2,false),(5,false),(6,false),(7,false)] (sl sr) (Fz 1 BC rfl (Fz 2 BC rfl (Fz 0 BC rfl ?_))))
 refine Fz 2 BC rfl (AS.imp rfl ?_)
 have hz1:=DN b a
 refine BU Tryz.call92 (Hv b a (by omega)) rfl (AS.back (sl sr) (AS.imp rfl ?_))
 have hz2:=DN c a
 refine BU Tryz.call92 (Hv c a (by omega)) rfl (AS.back (sl sr) (AS.imp rfl ?_))
 have hz3:=Kr (b-a) (c-a)
 refine BU Tryz.call43 (MC (b-a) (c-a) (by omega)) rfl (AS.back (sl sr) (AS.imp rfl (Ap rfl Tryz.sizeOf53 rfl (AS.back (sl sr) (AS.nil ?_)))))
 exact AC.subF (sL [6] rfl) (AC.then_ (AG.ret (AR rfl (Ay (i:=0) (cs:=AD (Ih (b-a) (c-a))) rfl rfl Tryz.isAgg53 Tryz.sizeOf53 rfl) (λw hw=>⟨rfl,hw.out⟩))))
theorem Ms (a b c:Pt) (hs:Bo a+Bo b+Bo c<=8589934592) (w:World)  :Calls Tryz.prog 26 #[(aG (Ae a)),(aG (Ae b)),(aG (Ae c))] w (Am w (aG (AD (AQ a b c*(1/2))))):=by
 refine Ac (args:=[(aG (Ae a)),(aG (Ae b)),(aG (Ae c))]) Tryz.func26 rfl rfl (Ad rfl) (AG.subF (sL [0,1,2] rfl) (q4 (Bl (cs:=Ae a) rfl λb1=>Bl (cs:=Ae b) rfl λb2=>Bl (cs:=Ae c) rfl λb3=>?_)))
 refine al Dk rfl λb4=>q3 (sL [3,4,5,6] rfl) (A7 3 BC rfl (A7 2 BC rfl (A7 1 BC rfl ?_)))
 have hz1:=C_ a b c
 refine BU Tryz.call64 (DW a b c (by omega)) rfl ?_
 have hz2:=Cl (AQ a b c) (1/2)
 exact BU Tryz.call74 (S5 (AQ a b c) (by omega)) rfl (Ap rfl Tryz.sizeOf53 rfl (AF.nil (AC.subF (sL [6] rfl) (AC.then_ (AG.ret (AR rfl (Ay (i:=0) (cs:=AD ((AQ a b c)*(1/2))) rfl rfl Tryz.isAgg53 Tryz.sizeOf53 rfl) (λw hw=>⟨rfl,hw.out⟩)))))))
end
section
set_option maxRecDepth 100000
theorem CR (x0:Rat) (x1:Rat) (x2:Rat):Instr.fill (λi=>some (i*5,5)) (AD (0:Rat)++AD (0:Rat)++AD (0:Rat)).toArray [(0,.agg (AD x0).toArray),(1,.agg (AD x1).toArray),(2,.agg (AD x2).toArray)]=some (AD x0++AD x1++AD x2).toArray:=by kernel_rfl
theorem WX (a b c p:Pt) (hs:Bo a+Bo b+Bo c+Bo p<=268435456) (h:AQ a b c≠0) (w:World)  :Calls Tryz.prog 62 #[(aG (Ae a)),(aG (Ae b)),(aG (Ae c)),(aG (Ae p))] w (Am w (Value.tuple #[(aG (AD (AQ p b c/AQ a b c)++AD (AQ a p c/AQ a b c)++AD (AQ a b p/AQ a b c))),(vI 0)])):=by
 refine Ac (args:=[(aG (Ae a)),(aG (Ae b)),(aG (Ae c)),(aG (Ae p))]) Tryz.func62 rfl rfl (Ad rfl) (AG.subF (sL [0,1,2,3] rfl) (q4 (Bl (cs:=Ae a) rfl λb1=>Bl (cs:=Ae b) rfl λb2=>Bl (cs:=Ae c) rfl λb3=>?_)))
 refine Bl (cs:=Ae p) rfl λb4=>al K5 rfl λb5=>AK rfl (q3 (sL [4,5,6,7,8,9] rfl) (A7 4 BC rfl (A7 3 BC rfl ?_)))
 refine A7 2 BC rfl ?_
 have hz1:=C_ a b c
 refine BU Tryz.call64 (DW a b c (by omega)) rfl (al Dk rfl λb6=>Ap rfl Tryz.sizeOf53 rfl (q6 (sL [4,5,6,7,8,9,10] rfl) (rN [(0,true),(1,true),(2,true),(4,true),(5,true),(6,true),(8,true),(9,true),(10,true),(3,false),(7,false),(11,false),(12,true)] [⟨13,11,123,AD (0:Rat)++AD (0:Rat)++AD (0:Rat)⟩] [(14,false)] sr (by kernel_rfl) (λ_ _ d _ _ h=>by cases d<;>exact h) (Fs rfl rfl K5 rfl (H2)) rfl (Gp 2 BC rfl ?_))))
 refine Gp 4 BC rfl (Gp 3 BC rfl (Gp 5 BC rfl (Gp 2 BC rfl (Gp 3 BC rfl (Gp 5 BC rfl ?_)))))
 refine Gp 4 BC rfl (Gp 2 BC rfl (CH.imp rfl λEF EL=>?_))
 have hz2:=C_ p b c
 refine BU Tryz.call64 (DW p b c (by omega)) rfl (CH.back0 sr rfl (CH.imp rfl λEF EL=>?_))
 have hz3:=C_ a p c
 refine BU Tryz.call64 (DW a p c (by omega)) rfl (CH.back0 sr rfl (CH.imp rfl λEF EL=>?_))
 have hz4:=C_ a b p
 refine BU Tryz.call64 (DW a b p (by omega)) rfl (CH.back0 sr rfl (Gb (v:=(aG (AD (AQ p b c)++AD (AQ a p c)++AD (AQ a b p)))) rfl (An (zs:=AD (0:Rat)++AD (0:Rat)++AD (0:Rat)) (vs:=AD (AQ p b c)++AD (AQ a p c)++AD (AQ a b p)) (pv:=[(0,(aG (AD (AQ p b c)))),(1,(aG (AD (AQ a p c)))),(2,(aG (AD (AQ a b p))))]) Tryz.zeroValue123 Tryz.underlying123 Tryz.sizeOf53 rfl (CR (AQ p b c) (AQ a p c) (AQ a b p))) rfl (CH.news1 λb7=>AS.imp rfl (Ap rfl Tryz.sizeOf123 rfl ?_))))
 refine AS.back (sl sr) (AS.nil (AC.subF (sL [4,5,6,8,9,10,11] rfl) (q1 (q4 (AO rfl ?_)))))
 refine AF.nil (AC.then_ (AG.block (AG.unroll 5 (Dr.step (q4 ?_)))))
 refine AJ (Af (c:=true) rfl rfl (by decide)) rfl (AF.nil (q1 (AG.cond_true rfl (AG.skip (q1 ?_)))))
 refine AG.block (q4 (AO rfl (AK rfl (q6 (sL [4,5,6,8,9,10,11,32,12] rfl) (rN [(0,true),(1,true),(2,true),(3,true),(4,false),(5,true),(6,true),(7,true)] [⟨8,13,53,AD (0:Rat)⟩] [(9,false),(10,true)] sr (by kernel_rfl) (λ_ _ d _ _ h=>by cases d<;>exact h) (Fs rfl rfl Dk rfl (H2)) rfl ?_)))))
 refine Nd rfl (Gb (v:=(pP b7 0)) rfl (AE (j:=0) rfl rfl Tryz.underlying123 Tryz.sizeOf53 rfl (by decide) rfl) rfl (SK 0 (AD (AQ p b c)) BO rfl (Gp 1 BO rfl (CH.imp rfl λEF EL=>?_))))
 have hz5:=Ho (a:=AQ p b c) (b:=AQ a b c) (by assumption)
 refine BU Tryz.call66 (G3 (AQ p b c) (AQ a b c) (by omega) (by assumption)) rfl (CH.back0 sr rfl (Nd rfl (Gb rfl (AT (v:=(aG (AD ((AQ p b c)/(AQ a b c))))) rfl rfl) rfl (Gb rfl (AT (v:=(vI 0)) rfl rfl) rfl (CH.news1 λb8=>?_)))))
 refine AS.imp rfl (Ap rfl Tryz.sizeOf53 rfl (AS.back (sl sr) (FO rfl (AS.nil (AC.subF (sL [4,5,6,8,9,10,11,32,12,13,14] rfl) ?_)))))
 refine q1 (q4 (AO rfl (AJ (B8 (c:=false) rfl rfl (by decide)) rfl (AF.nil (AC.subF (sL [4,5,6,8,9,10,11,32,12,13,44] rfl) ?_)))))
 refine AC.then_ (AG.cond_false rfl (AG.skip (AC.then_ (AG.region (AO rfl ?_)))))
 refine A7 0 BO rfl (AJ (v:=(pP b7 0)) (AE (j:=0) rfl rfl Tryz.underlying123 Tryz.sizeOf53 rfl (by decide) rfl) rfl (GK 1 (off:=0) (vs:=AD ((AQ p b c)/(AQ a b c))) (cs':=AD ((AQ p b c)/(AQ a b c))++AD (AQ a p c)++AD (AQ a b p)) (AN rfl) rfl Tryz.sizeOf53 rfl (AF.nil (AC.subF (sL [4,5,6,8,9,10,11,32,12,13] rfl) (AC.in_normal ?_)))))
 refine AC.then_ (AG.region (AJ (AX (c:=(1:Int)) rfl rfl (by decide)) rfl (AO rfl (AF.nil (AC.subF (sL [4,5,6,8,9,10,11,32,12,13] rfl) ?_)))))
 refine AC.again (Dr.step (q4 (AJ (Af (c:=true) rfl rfl (by decide)) rfl (AF.nil (q1 ?_)))))
 refine AG.cond_true rfl (AG.skip (q1 (AG.block (q4 (AO rfl ?_)))))
 refine AK rfl (q6 (sL [4,5,6,8,9,10,11,32,12,13] rfl) (AG.subF (sL [4,5,6,8,9,10,11,32,12] rfl) (rN [(0,true),(1,true),(2,true),(3,true),(4,false),(5,true),(6,true),(7,true)] [⟨8,13,53,AD (0:Rat)⟩] [(9,false),(10,true)] sr (by kernel_rfl) (λ_ _ d _ _ h=>by cases d<;>exact h) (Fs rfl rfl Dk rfl (H2)) rfl (Nd rfl (Gb (v:=(pP b7 5)) rfl (AE (j:=1) rfl rfl Tryz.underlying123 Tryz.sizeOf53 rfl (by decide) rfl) rfl ?_)))))
 refine SK 1 (AD (AQ a p c)) BO rfl (Gp 2 BO rfl (CH.imp rfl λEF EL=>?_))
 have hz6:=Ho (a:=AQ a p c) (b:=AQ a b c) (by assumption)
 refine BU Tryz.call66 (G3 (AQ a p c) (AQ a b c) (by omega) (by assumption)) rfl (CH.back0 sr rfl (Nd rfl (Gb rfl (AT (v:=(aG (AD ((AQ a p c)/(AQ a b c))))) rfl rfl) rfl (Gb rfl (AT (v:=(vI 0)) rfl rfl) rfl (CH.news1 λb9=>?_)))))
 refine AS.imp rfl (Ap rfl Tryz.sizeOf53 rfl (AS.back (sl sr) (FO rfl (AS.nil (AC.subF (sL [4,5,6,8,9,10,11,32,12,13,14] rfl) ?_)))))
 refine q1 (q4 (AO rfl (AJ (B8 (c:=false) rfl rfl (by decide)) rfl (AF.nil (AC.subF (sL [4,5,6,8,9,10,11,32,12,13,44] rfl) ?_)))))
 refine AC.then_ (AG.cond_false rfl (AG.skip (AC.then_ (AG.region (AO rfl ?_)))))
 refine A7 0 BO rfl (AJ (v:=(pP b7 5)) (AE (j:=1) rfl rfl Tryz.underlying123 Tryz.sizeOf53 rfl (by decide) rfl) rfl (GK 2 (off:=5) (vs:=AD ((AQ a p c)/(AQ a b c))) (cs':=AD ((AQ p b c)/(AQ a b c))++AD ((AQ a p c)/(AQ a b c))++AD (AQ a b p)) (AN rfl) rfl Tryz.sizeOf53 rfl (AF.nil (AC.subF (sL [4,5,6,8,9,10,11,32,12,13] rfl) (AC.in_normal ?_)))))
 refine AC.then_ (AG.region (AJ (AX (c:=(2:Int)) rfl rfl (by decide)) rfl (AO rfl (AF.nil (AC.subF (sL [4,5,6,8,9,10,11,32,12,13] rfl) ?_)))))
 refine AC.again (Dr.step (q4 (AJ (Af (c:=true) rfl rfl (by decide)) rfl (AF.nil (q1 ?_)))))
 refine AG.cond_true rfl (AG.skip (q1 (AG.block (q4 (AO rfl ?_)))))
 refine AK rfl (q6 (sL [4,5,6,8,9,10,11,32,12,13] rfl) (AG.subF (sL [4,5,6,8,9,10,11,32,12] rfl) (rN [(0,true),(1,true),(2,true),(3,true),(4,false),(5,true),(6,true),(7,true)] [⟨8,13,53,AD (0:Rat)⟩] [(9,false),(10,true)] sr (by kernel_rfl) (λ_ _ d _ _ h=>by cases d<;>exact h) (Fs rfl rfl Dk rfl (H2)) rfl (Nd rfl (Gb (v:=(pP b7 10)) rfl (AE (j:=2) rfl rfl Tryz.underlying123 Tryz.sizeOf53 rfl (by decide) rfl) rfl ?_)))))
 refine SK 2 (AD (AQ a b p)) BO rfl (Gp 3 BO rfl (CH.imp rfl λEF EL=>?_))
 have hz7:=Ho (a:=AQ a b p) (b:=AQ a b c) (by assumption)
 refine BU Tryz.call66 (G3 (AQ a b p) (AQ a b c) (by omega) (by assumption)) rfl (CH.back0 sr rfl (Nd rfl (Gb rfl (AT (v:=(aG (AD ((AQ a b p)/(AQ a b c))))) rfl rfl) rfl (Gb rfl (AT (v:=(vI 0)) rfl rfl) rfl (CH.news1 λb10=>?_)))))
 refine AS.imp rfl (Ap rfl Tryz.sizeOf53 rfl (AS.back (sl sr) (FO rfl (AS.nil (AC.subF (sL [4,5,6,8,9,10,11,32,12,13,14] rfl) ?_)))))
 refine q1 (q4 (AO rfl (AJ (B8 (c:=false) rfl rfl (by decide)) rfl (AF.nil (AC.subF (sL [4,5,6,8,9,10,11,32,12,13,44] rfl) ?_)))))
 refine AC.then_ (AG.cond_false rfl (AG.skip (AC.then_ (AG.region (AO rfl ?_)))))
 refine A7 0 BO rfl (AJ (v:=(pP b7 10)) (AE (j:=2) rfl rfl Tryz.underlying123 Tryz.sizeOf53 rfl (by decide) rfl) rfl (GK 3 (off:=10) (vs:=AD ((AQ a b p)/(AQ a b c))) (cs':=AD ((AQ p b c)/(AQ a b c))++AD ((AQ a p c)/(AQ a b c))++AD ((AQ a b p)/(AQ a b c))) (AN rfl) rfl Tryz.sizeOf53 rfl (AF.nil (AC.subF (sL [4,5,6,8,9,10,11,32,12,13] rfl) (AC.in_normal ?_)))))
 refine AC.then_ (AG.region (AJ (AX (c:=(3:Int)) rfl rfl (by decide)) rfl (AO rfl (AF.nil (AC.subF (sL [4,5,6,8,9,10,11,32,12,13] rfl) ?_)))))
 refine AC.again (Dr.step (q4 (AJ (Af (c:=false) rfl rfl (by decide)) rfl (AF.nil (q1 ?_)))))
 refine AG.cond_false rfl (AG.exit (AC.then_exit (AC.then_exit (AC.in_exit (q2 ?_)))))
 refine A7 3 Y3 rfl (GK 5 (off:=0) (vs:=AD ((AQ p b c)/(AQ a b c))++AD ((AQ a p c)/(AQ a b c))++AD ((AQ a b p)/(AQ a b c))) (cs':=AD ((AQ p b c)/(AQ a b c))++AD ((AQ a p c)/(AQ a b c))++AD ((AQ a b p)/(AQ a b c))) (AN rfl) rfl Tryz.sizeOf123 rfl (AK rfl (AF.nil (AC.subF (sL [4,5,6,8,9,10,11,32,12,13] rfl) (AC.then_ ?_)))))
 exact AG.ret (Ct rfl (Ay (i:=5) (cs:=AD ((AQ p b c)/(AQ a b c))++AD ((AQ a p c)/(AQ a b c))++AD ((AQ a b p)/(AQ a b c))) rfl rfl Tryz.isAgg123 Tryz.sizeOf123 rfl) (Ai (v:=(vI 0)) rfl) (λw hw=>⟨rfl,hw.out⟩))
theorem K1  :Instr.fill (λi=>some (i*5,5)) (AD (0:Rat)++AD (0:Rat)++AD (0:Rat)).toArray []=some (AD (0:Rat)++AD (0:Rat)++AD (0:Rat)).toArray:=by kernel_rfl
theorem Tt (a b c p:Pt) (hs:Bo a+Bo b+Bo c+Bo p<=268435456) (h:AQ a b c=0) (w:World)  :Calls Tryz.prog 62 #[(aG (Ae a)),(aG (Ae b)),(aG (Ae c)),(aG (Ae p))] w (Am w (Value.tuple #[(aG (AD (0:Rat)++AD (0:Rat)++AD (0:Rat))),(vI 1)])):=by
 refine Ac (args:=[(aG (Ae a)),(aG (Ae b)),(aG (Ae c)),(aG (Ae p))]) Tryz.func62 rfl rfl (Ad rfl) (AG.subF (sL [0,1,2,3] rfl) (q4 (Bl (cs:=Ae a) rfl λb1=>Bl (cs:=Ae b) rfl λb2=>Bl (cs:=Ae c) rfl λb3=>?_)))
 refine Bl (cs:=Ae p) rfl λb4=>al K5 rfl λb5=>AK rfl (q3 (sL [4,5,6,7,8,9] rfl) (A7 4 BC rfl (A7 3 BC rfl ?_)))
 refine A7 2 BC rfl ?_
 have hz1:=C_ a b c
 refine BU Tryz.call64 (DW a b c (by omega)) rfl (al Dk rfl λb6=>Ap rfl Tryz.sizeOf53 rfl (q6 (sL [4,5,6,7,8,9,10] rfl) (rN [(0,true),(1,true),(2,true),(4,true),(5,true),(6,true),(8,true),(9,true),(10,true),(3,false),(7,false),(11,false),(12,true)] [⟨13,11,123,AD (0:Rat)++AD (0:Rat)++AD (0:Rat)⟩] [(14,false)] sr (by kernel_rfl) (λ_ _ d _ _ h=>by cases d<;>exact h) (Fs rfl rfl K5 rfl (H2)) rfl (Gp 2 BC rfl ?_))))
 refine Gp 4 BC rfl (Gp 3 BC rfl (Gp 5 BC rfl (Gp 2 BC rfl (Gp 3 BC rfl (Gp 5 BC rfl ?_)))))
 refine Gp 4 BC rfl (Gp 2 BC rfl (CH.imp rfl λEF EL=>?_))
 have hz2:=C_ p b c
 refine BU Tryz.call64 (DW p b c (by omega)) rfl (CH.back0 sr rfl (CH.imp rfl λEF EL=>?_))
 have hz3:=C_ a p c
 refine BU Tryz.call64 (DW a p c (by omega)) rfl (CH.back0 sr rfl (CH.imp rfl λEF EL=>?_))
 have hz4:=C_ a b p
 refine BU Tryz.call64 (DW a b p (by omega)) rfl (CH.back0 sr rfl (Gb (v:=(aG (AD (AQ p b c)++AD (AQ a p c)++AD (AQ a b p)))) rfl (An (zs:=AD (0:Rat)++AD (0:Rat)++AD (0:Rat)) (vs:=AD (AQ p b c)++AD (AQ a p c)++AD (AQ a b p)) (pv:=[(0,(aG (AD (AQ p b c)))),(1,(aG (AD (AQ a p c)))),(2,(aG (AD (AQ a b p))))]) Tryz.zeroValue123 Tryz.underlying123 Tryz.sizeOf53 rfl (CR (AQ p b c) (AQ a p c) (AQ a b p))) rfl (CH.news1 λb7=>AS.imp rfl (Ap rfl Tryz.sizeOf123 rfl ?_))))
 refine AS.back (sl sr) (AS.nil (AC.subF (sL [4,5,6,8,9,10,11] rfl) (q1 (q4 (AO rfl ?_)))))
 refine AF.nil (AC.then_ (AG.block (AG.unroll 5 (Dr.step (q4 ?_)))))
 refine AJ (Af (c:=true) rfl rfl (by decide)) rfl (AF.nil (q1 (AG.cond_true rfl (AG.skip (q1 ?_)))))
 refine AG.block (q4 (AO rfl (AK rfl (q6 (sL [4,5,6,8,9,10,11,32,12] rfl) (rN [(0,true),(1,true),(2,true),(3,true),(4,false),(5,true),(6,true),(7,true)] [⟨8,13,53,AD (0:Rat)⟩] [(9,false),(10,true)] sr (by kernel_rfl) (λ_ _ d _ _ h=>by cases d<;>exact h) (Fs rfl rfl Dk rfl (H2)) rfl ?_)))))
 refine Nd rfl (Gb (v:=(pP b7 0)) rfl (AE (j:=0) rfl rfl Tryz.underlying123 Tryz.sizeOf53 rfl (by decide) rfl) rfl (SK 0 (AD (AQ p b c)) BO rfl (Gp 1 BO rfl (CH.imp rfl λEF EL=>Ey (args:=[(aG (AD (AQ p b c))),(aG (AD (AQ a b c)))]) (v:=(Value.tuple #[(aG (AD (0:Rat))),(vI 5)])) Tryz.call66 (λw hw=>(by rw [h];exact TO _ w)) rfl ?_))))
 refine CH.back0 sr rfl (Nd rfl (Gb rfl (AT (v:=(aG (AD (0:Rat)))) rfl rfl) rfl (Gb rfl (AT (v:=(vI 5)) rfl rfl) rfl (CH.news1 λb8=>AS.imp rfl ?_))))
 refine Ap rfl Tryz.sizeOf53 rfl (AS.back (sl sr) (FO rfl (AS.nil (AC.subF (sL [4,5,6,8,9,10,11,32,12,13,14] rfl) (q1 ?_)))))
 refine q4 (AO rfl (AJ (B8 (c:=true) rfl rfl (by decide)) rfl (AF.nil (AC.subF (sL [4,5,6,8,9,10,11,32,12,13,44] rfl) (AC.then_ ?_)))))
 refine AG.cond_true rfl (q4 (AJ (v:=(aG (AD (0:Rat)++AD (0:Rat)++AD (0:Rat)))) (An (zs:=AD (0:Rat)++AD (0:Rat)++AD (0:Rat)) (vs:=AD (0:Rat)++AD (0:Rat)++AD (0:Rat)) (pv:=[]) Tryz.zeroValue123 Tryz.underlying123 Tryz.sizeOf53 rfl (K1 )) rfl (KM rfl Tryz.sizeOf123 rfl (AK rfl (AF.nil ?_)))))
 refine AC.subF (sL [4,5,6,8,9,10,11,32,12,13] rfl) (AC.then_ (AG.ret (AC.then_ret (AC.in_ret (AC.then_ret ?_)))))
 exact AC.then_ret (AC.in_ret (AC.then_ret (Ct rfl (Ay (i:=3) (cs:=AD (0:Rat)++AD (0:Rat)++AD (0:Rat)) rfl rfl Tryz.isAgg123 Tryz.sizeOf123 rfl) (Ai (v:=(vI 1)) rfl) (λw hw=>⟨rfl,hw.out⟩))))
end
theorem WT {q:Rat} (h:q≠0):q.num.sign≠0:=λe=>h (Rat.num_eq_zero.1 (Int.sign_eq_zero_iff_zero.1 e))
def zq (q:Rat):Nat:=if q.num.sign=0 then 1 else 0
def F7 (x y z:Rat):Nat:=if x.num.sign = -1\/y.num.sign = -1\/z.num.sign = -1 then 0 else 1+zq x+zq y+zq z
theorem O6 {x y z:Rat} (h:x.num.sign = -1):F7 x y z=0:=if_pos (.inl h)
theorem Pg {x y z:Rat} (h:y.num.sign = -1):F7 x y z=0:=if_pos (.inr (.inl h))
theorem Ot {x y z:Rat} (h:z.num.sign = -1):F7 x y z=0:=if_pos (.inr (.inr h))
theorem S3 {x y z:Rat} (h1:¬x.num.sign = -1) (h2:¬y.num.sign = -1) (h3:¬z.num.sign = -1):F7 x y z=1+zq x+zq y+zq z:=if_neg (by simp [h1,h2,h3])
theorem PS {x:Rat} (h:x.num.sign=0):zq x=1:=if_pos h
theorem NP {x:Rat} (h:¬x.num.sign=0):zq x=0:=if_neg h
theorem Tj (x:Rat):zq x<=1:=by unfold zq;split<;>omega
section
set_option maxRecDepth 100000
end
section
set_option maxRecDepth 100000
end
end Go.Proofs.YtfbomiejpbchdaaGreat
