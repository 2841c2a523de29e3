import Derived.ChangeKeysEq
import Derived.Test.YtfbomiejpbchdaaGreatRows
import Derived.Test.YtfbomiejpbchdaaGreatPart06
import Derived.Test.YtfbomiejpbchdaaGreatPart08
import Derived.Test.YtfbomiejpbchdaaGreatPart18
namespace Go.Proofs.YtfbomiejpbchdaaGreat
open Go Go.RowKit
set_option linter.unusedVariables false
set_option linter.unusedSimpArgs false
section
set_option maxRecDepth 100000
theorem Bs (x0:Rat) (x1:Rat):Instr.fill ([(0,5),(5,5)].toArray[·]?) (An (⟨0,0⟩:Pt)).toArray [(0,.agg (AW x0).toArray),(1,.agg (AW x1).toArray)]=some (AW x0++AW x1).toArray:=by kernel_rfl
theorem NP (a b:Pt) (hs:DT a+DT b<=68719476736) (w:World)  :Calls Tryz.prog 156 #[(aG (An a)),(aG (An b)),(Value.func (.func 29) #[] #[])] w (Ax w (aG (An (a+b)))):=by
 have p1:=EK a
 have p2:=EI a
 have p3:=EK b
 have p4:=EI b
 refine Ad (args:=[(aG (An a)),(aG (An b)),(Value.func (.func 29) #[] #[])]) Tryz.func156 rfl rfl (Af rfl) (AE.subF (sL [0,1,2] rfl) (q4 (CB (cs:=An a) rfl λb1=>CB (cs:=An b) rfl λb2=>al HK rfl λb3=>?_)))
 refine q6 (sL [2,3,4,6] rfl) (C7 [(0,true),(1,true),(2,true),(3,true),(4,true),(6,true),(7,true),(8,true),(9,true),(10,true),(5,false),(11,false),(12,true),(13,false)] (sl sr) (Bl rfl (Au (v:=(pP b1 0)) rfl (AA rfl Tryz.underlying55 rfl Tryz.sizeOf53 rfl) (Gt 1 (AW a.x) CQ rfl (Au (v:=(pP b2 0)) rfl (AA rfl Tryz.underlying55 rfl Tryz.sizeOf53 rfl) ?_)))))
 refine Gt 0 (AW b.x) CQ rfl (Bl rfl (Au (v:=(pP b1 5)) rfl (AA rfl Tryz.underlying55 rfl Tryz.sizeOf53 rfl) (Gt 1 (AW a.y) CQ rfl (Au (v:=(pP b2 5)) rfl (AA rfl Tryz.underlying55 rfl Tryz.sizeOf53 rfl) (Gt 0 (AW b.y) CQ rfl ?_)))))
 refine AP.imp rfl ?_
 have hz1:=IJ a.x b.x
 refine BY Tryz.call29 (MC a.x b.x (by (try simp only [Eh]);omega)) rfl (AP.back (sl sr) (AP.imp rfl ?_))
 have hz2:=IJ a.y b.y
 refine BY Tryz.call29 (MC a.y b.y (by (try simp only [Eh]);omega)) rfl (AP.back (sl sr) (Au (v:=(aG (AW (a.x+b.x)++AW (a.y+b.y)))) rfl (AS (zs:=An (⟨0,0⟩:Pt)) (vs:=AW (a.x+b.x)++AW (a.y+b.y)) (pv:=[(0,(aG (AW (a.x+b.x)))),(1,(aG (AW (a.y+b.y))))]) (places:=[(0,5),(5,5)]) Tryz.zeroValue55 Tryz.underlying55 (λw=>by simp [Tryz.sizeOf53]) rfl (Bs (a.x+b.x) (a.y+b.y))) (AP.imp rfl (A6 rfl Tryz.sizeOf55 rfl (AP.back (sl sr) ?_)))))
 exact AP.nil (AC.subF (sL [6] rfl) (AC.then_ (AE.ret (AU rfl (Ay (i:=0) (cs:=AW (a.x+b.x)++AW (a.y+b.y)) rfl rfl Tryz.isAgg55 Tryz.sizeOf55 rfl) (λw hw=>⟨by rw [Vj],hw.out⟩)))))
theorem M8 (a b:Pt) (hs:DT a+DT b<=68719476736) (w:World)  :Calls Tryz.prog 156 #[(aG (An a)),(aG (An b)),(Value.func (.func 111) #[] #[])] w (Ax w (aG (An (a-b)))):=by
 have p1:=EK a
 have p2:=EI a
 have p3:=EK b
 have p4:=EI b
 refine Ad (args:=[(aG (An a)),(aG (An b)),(Value.func (.func 111) #[] #[])]) Tryz.func156 rfl rfl (Af rfl) (AE.subF (sL [0,1,2] rfl) (q4 (CB (cs:=An a) rfl λb1=>CB (cs:=An b) rfl λb2=>al HK rfl λb3=>?_)))
 refine q6 (sL [2,3,4,6] rfl) (C7 [(0,true),(1,true),(2,true),(3,true),(4,true),(6,true),(7,true),(8,true),(9,true),(10,true),(5,false),(11,false),(12,true),(13,false)] (sl sr) (Bl rfl (Au (v:=(pP b1 0)) rfl (AA rfl Tryz.underlying55 rfl Tryz.sizeOf53 rfl) (Gt 1 (AW a.x) CQ rfl (Au (v:=(pP b2 0)) rfl (AA rfl Tryz.underlying55 rfl Tryz.sizeOf53 rfl) ?_)))))
 refine Gt 0 (AW b.x) CQ rfl (Bl rfl (Au (v:=(pP b1 5)) rfl (AA rfl Tryz.underlying55 rfl Tryz.sizeOf53 rfl) (Gt 1 (AW a.y) CQ rfl (Au (v:=(pP b2 5)) rfl (AA rfl Tryz.underlying55 rfl Tryz.sizeOf53 rfl) (Gt 0 (AW b.y) CQ rfl ?_)))))
 refine AP.imp rfl ?_
 have hz1:=II a.x b.x
 refine BY Tryz.call111 (Mt a.x b.x (by (try simp only [Eh]);omega)) rfl (AP.back (sl sr) (AP.imp rfl ?_))
 have hz2:=II a.y b.y
 refine BY Tryz.call111 (Mt a.y b.y (by (try simp only [Eh]);omega)) rfl (AP.back (sl sr) (Au (v:=(aG (AW (a.x-b.x)++AW (a.y-b.y)))) rfl (AS (zs:=An (⟨0,0⟩:Pt)) (vs:=AW (a.x-b.x)++AW (a.y-b.y)) (pv:=[(0,(aG (AW (a.x-b.x)))),(1,(aG (AW (a.y-b.y))))]) (places:=[(0,5),(5,5)]) Tryz.zeroValue55 Tryz.underlying55 (λw=>by simp [Tryz.sizeOf53]) rfl (Bs (a.x-b.x) (a.y-b.y))) (AP.imp rfl (A6 rfl Tryz.sizeOf55 rfl (AP.back (sl sr) ?_)))))
 exact AP.nil (AC.subF (sL [6] rfl) (AC.then_ (AE.ret (AU rfl (Ay (i:=0) (cs:=AW (a.x-b.x)++AW (a.y-b.y)) rfl rfl Tryz.isAgg55 Tryz.sizeOf55 rfl) (λw hw=>⟨by rw [UQ],hw.out⟩)))))
theorem LC (x y k:Rat) (bk:Nat) (hs:Sz x+Sz k<=137438953472) (w:World) (hk:w.heap[bk]?=some (.cells (AW k).toArray 53 (0,0))):Calls Tryz.prog 214 #[(aG (AW x)),(aG (AW y)),(pP bk 0)] w (Ax w (aG (AW (x*k)))):=by
 refine Ad (args:=[(aG (AW x)),(aG (AW y)),(pP bk 0)]) Tryz.func214 rfl rfl (Af rfl) (AE.subF (sL [0,1,2] rfl) (q4 (CB (cs:=AW x) rfl λb1=>CB (cs:=AW y) rfl λb2=>al Gr rfl λb3=>?_)))
 refine q3 (sL [2,3,5] rfl) (BF 2 CQ rfl (AH (v:=(aG (AW k))) (Es (vs:=AW k) rfl (λw' hw=>hw.oldCA (by simp) (EB hk)) Tryz.isAgg53 Tryz.sizeOf53 rfl) rfl ?_))
 have hz1:=FY x k
 exact BY Tryz.call24 (JF x k (by (try simp only [Eh]);omega)) rfl (A6 rfl Tryz.sizeOf53 rfl (AD.nil (AC.subF (sL [5] rfl) (AC.then_ (AE.ret (AU rfl (Ay (i:=0) (cs:=AW (x*k)) rfl rfl Tryz.isAgg53 Tryz.sizeOf53 rfl) (λw hw=>⟨rfl,hw.out⟩)))))))
theorem Ky (a:Pt) (k:Rat) (bk:Nat) (hs:DT a+Sz k<=137438953472) (w:World) (hk:w.heap[bk]?=some (.cells (AW k).toArray 53 (0,0))):Calls Tryz.prog 156 #[(aG (An a)),(aG (An a)),(Value.func (.func 214) #[] #[(pP bk 0)])] w (Ax w (aG (An (B7 a k)))):=by
 have p1:=EK a
 have p2:=EI a
 refine Ad (args:=[(aG (An a)),(aG (An a)),(Value.func (.func 214) #[] #[(pP bk 0)])]) Tryz.func156 rfl rfl (Af rfl) (AE.subF (sL [0,1,2] rfl) (q4 (CB (cs:=An a) rfl λb1=>CB (cs:=An a) rfl λb2=>al HK rfl λb3=>?_)))
 refine q6 (sL [2,3,4,6] rfl) (C7 [(0,true),(1,true),(2,true),(3,true),(4,true),(6,true),(7,true),(8,true),(9,true),(10,true),(5,false),(11,false),(12,true),(13,false)] (sl sr) (Bl rfl (Au (v:=(pP b1 0)) rfl (AA rfl Tryz.underlying55 rfl Tryz.sizeOf53 rfl) (Gt 1 (AW a.x) CQ rfl (Au (v:=(pP b2 0)) rfl (AA rfl Tryz.underlying55 rfl Tryz.sizeOf53 rfl) ?_)))))
 refine Gt 0 (AW a.x) CQ rfl (Bl rfl (Au (v:=(pP b1 5)) rfl (AA rfl Tryz.underlying55 rfl Tryz.sizeOf53 rfl) (Gt 1 (AW a.y) CQ rfl (Au (v:=(pP b2 5)) rfl (AA rfl Tryz.underlying55 rfl Tryz.sizeOf53 rfl) (Gt 0 (AW a.y) CQ rfl ?_)))))
 refine AP.imp rfl (AD.call (v:=(aG (AW (a.x*k)))) (AN rfl) (I_ (args:=[(aG (AW a.x)),(aG (AW a.x))]) (caps:=[(pP bk 0)]) (all:=[(aG (AW a.x)),(aG (AW a.x)),(pP bk 0)]) rfl rfl rfl Tryz.call214) (λw hw=>LC a.x a.x k bk (by omega) w (hw.old (by simp) hk)) rfl (Af rfl) (AP.back (sl sr) (AP.imp rfl (AD.call (v:=(aG (AW (a.y*k)))) (AN rfl) (I_ (args:=[(aG (AW a.y)),(aG (AW a.y))]) (caps:=[(pP bk 0)]) (all:=[(aG (AW a.y)),(aG (AW a.y)),(pP bk 0)]) rfl rfl rfl Tryz.call214) (λw hw=>LC a.y a.y k bk (by omega) w (hw.old (by simp) hk)) rfl (Af rfl) (AP.back (sl sr) ?_)))))
 refine Au (v:=(aG (AW (a.x*k)++AW (a.y*k)))) rfl (AS (zs:=An (⟨0,0⟩:Pt)) (vs:=AW (a.x*k)++AW (a.y*k)) (pv:=[(0,(aG (AW (a.x*k)))),(1,(aG (AW (a.y*k))))]) (places:=[(0,5),(5,5)]) Tryz.zeroValue55 Tryz.underlying55 (λw=>by simp [Tryz.sizeOf53]) rfl (Bs (a.x*k) (a.y*k))) (AP.imp rfl (A6 rfl Tryz.sizeOf55 rfl (AP.back (sl sr) (AP.nil (AC.subF (sL [6] rfl) ?_)))))
 exact AC.then_ (AE.ret (AU rfl (Ay (i:=0) (cs:=AW (a.x*k)++AW (a.y*k)) rfl rfl Tryz.isAgg55 Tryz.sizeOf55 rfl) (λw hw=>⟨by rw [QN],hw.out⟩)))
theorem VC (a b:Pt) (hs:DT a+DT b<=68719476736) (w:World)  :Calls Tryz.prog 173 #[(aG (An a)),(aG (An b))] w (Ax w (aG (An (a+b)))):=by
 refine Ad (args:=[(aG (An a)),(aG (An b))]) Tryz.func173 rfl rfl (Af rfl) (AE.subF (sL [0,1] rfl) (q4 (CB (cs:=An a) rfl λb1=>CB (cs:=An b) rfl λb2=>al HK rfl λb3=>?_)))
 refine q3 (sL [2,3,4] rfl) (BF 2 BM rfl (BF 1 BM rfl (BY Tryz.call156 (NP a b (by omega)) rfl (A6 rfl Tryz.sizeOf55 rfl (AD.nil ?_)))))
 exact AC.subF (sL [4] rfl) (AC.then_ (AE.ret (AU rfl (Ay (i:=0) (cs:=An (a+b)) rfl rfl Tryz.isAgg55 Tryz.sizeOf55 rfl) (λw hw=>⟨rfl,hw.out⟩))))
theorem PP (a b:Pt) (hs:DT a+DT b<=68719476736) (w:World)  :Calls Tryz.prog 92 #[(aG (An a)),(aG (An b))] w (Ax w (aG (An (a-b)))):=by
 refine Ad (args:=[(aG (An a)),(aG (An b))]) Tryz.func92 rfl rfl (Af rfl) (AE.subF (sL [0,1] rfl) (q4 (CB (cs:=An a) rfl λb1=>CB (cs:=An b) rfl λb2=>al HK rfl λb3=>?_)))
 refine q3 (sL [2,3,4] rfl) (BF 2 BM rfl (BF 1 BM rfl (BY Tryz.call156 (M8 a b (by omega)) rfl (A6 rfl Tryz.sizeOf55 rfl (AD.nil ?_)))))
 exact AC.subF (sL [4] rfl) (AC.then_ (AE.ret (AU rfl (Ay (i:=0) (cs:=An (a-b)) rfl rfl Tryz.isAgg55 Tryz.sizeOf55 rfl) (λw hw=>⟨rfl,hw.out⟩))))
theorem RN (a:Pt) (k:Rat) (hs:DT a+Sz k<=137438953472) (w:World)  :Calls Tryz.prog 172 #[(aG (An a)),(aG (AW k))] w (Ax w (aG (An (B7 a k)))):=by
 refine Ad (args:=[(aG (An a)),(aG (AW k))]) Tryz.func172 rfl rfl (Af rfl) (AE.subF (sL [0,1] rfl) (q4 (CB (cs:=An a) rfl λb1=>CB (cs:=AW k) rfl λb2=>al HK rfl λb3=>?_)))
 refine q3 (sL [2,3,4] rfl) (BF 2 BM rfl (BF 2 BM rfl (AH (v:=(Value.func (.func 214) #[] #[(pP b2 0)])) (Ii (vs:=[]) (us:=[(pP b2 0)]) rfl rfl) rfl (IC Tryz.call156 (λw hw=>Ky a k b2 (by omega) w (hw.get (i:=1) rfl)) rfl (A6 rfl Tryz.sizeOf55 rfl ?_)))))
 exact AD.nil (AC.subF (sL [4] rfl) (AC.then_ (AE.ret (AU rfl (Ay (i:=0) (cs:=An (B7 a k)) rfl rfl Tryz.isAgg55 Tryz.sizeOf55 rfl) (λw hw=>⟨rfl,hw.out⟩)))))
theorem Qs (a b:Pt) (hs:DT a+DT b<=68719476736) (w:World)  :Calls Tryz.prog 43 #[(aG (An a)),(aG (An b))] w (Ax w (aG (AW (KZ a b)))):=by
 have p1:=EK a
 have p2:=EI a
 have p3:=EK b
 have p4:=EI b
 refine Ad (args:=[(aG (An a)),(aG (An b))]) Tryz.func43 rfl rfl (Af rfl) (AE.subF (sL [0,1] rfl) (q4 (CB (cs:=An a) rfl λb1=>CB (cs:=An b) rfl λb2=>al Gr rfl λb3=>?_)))
 refine q6 (sL [2,3,4] rfl) (C7 [(0,true),(1,true),(2,true),(3,true),(5,true),(6,true),(7,true),(8,true),(4,false),(9,false),(10,false),(11,false)] (sl sr) (Au (v:=(pP b1 0)) rfl (AA rfl Tryz.underlying55 rfl Tryz.sizeOf53 rfl) (Gt 1 (AW a.x) CQ rfl (Au (v:=(pP b2 5)) rfl (AA rfl Tryz.underlying55 rfl Tryz.sizeOf53 rfl) (Gt 0 (AW b.y) CQ rfl ?_)))))
 refine Au (v:=(pP b1 5)) rfl (AA rfl Tryz.underlying55 rfl Tryz.sizeOf53 rfl) (Gt 1 (AW a.y) CQ rfl (Au (v:=(pP b2 0)) rfl (AA rfl Tryz.underlying55 rfl Tryz.sizeOf53 rfl) (Gt 0 (AW b.x) CQ rfl (AP.imp rfl ?_))))
 have hz1:=FY a.x b.y
 refine BY Tryz.call24 (JF a.x b.y (by (try simp only [Eh]);omega)) rfl (AP.back (sl sr) (AP.imp rfl ?_))
 have hz2:=FY a.y b.x
 refine BY Tryz.call24 (JF a.y b.x (by (try simp only [Eh]);omega)) rfl (AP.back (sl sr) (AP.imp rfl ?_))
 have hz3:=II (a.x*b.y) (a.y*b.x)
 refine BY Tryz.call111 (Mt (a.x*b.y) (a.y*b.x) (by (try simp only [Eh]);omega)) rfl (AP.back (sl sr) (AP.imp rfl (A6 rfl Tryz.sizeOf53 rfl (AP.back (sl sr) (AP.nil ?_)))))
 exact AC.subF (sL [4] rfl) (AC.then_ (AE.ret (AU rfl (Ay (i:=0) (cs:=AW ((a.x*b.y)-(a.y*b.x))) rfl rfl Tryz.isAgg53 Tryz.sizeOf53 rfl) (λw hw=>⟨rfl,hw.out⟩))))
theorem HW (a b c:Pt) (hs:DT a+DT b+DT c<=17179869184) (w:World)  :Calls Tryz.prog 52 #[(aG (An a)),(aG (An b)),(aG (An c))] w (Ax w (vI ((B9 a b c).num.sign))):=by
 refine Ad (args:=[(aG (An a)),(aG (An b)),(aG (An c))]) Tryz.func52 rfl rfl (Af rfl) (AE.subF (sL [0,1,2] rfl) (q4 (CB (cs:=An a) rfl λb1=>CB (cs:=An b) rfl λb2=>CB (cs:=An c) rfl λb3=>?_)))
 refine AL rfl (q6 (sL [3,4,5,6] rfl) (C7 [(0,true),(1,true),(3,true),(4,true),(2,false),(5,false),(6,false),(7,false),(8,true)] sr (Db 1 BM rfl (Db 2 BM rfl (Db 0 BM rfl ?_)))))
 refine Db 2 BM rfl (AP.imp rfl ?_)
 have hz1:=Pg b a
 refine BY Tryz.call92 (PP b a (by omega)) rfl (AP.back sr (AP.imp rfl ?_))
 have hz2:=Pg c a
 refine BY Tryz.call92 (PP c a (by omega)) rfl (AP.back sr (AP.imp rfl ?_))
 have hz3:=Rz (b-a) (c-a)
 refine BY Tryz.call43 (Qs (b-a) (c-a) (by omega)) rfl (AP.back sr (AP.imp rfl (BY Tryz.call63 (JX (KZ (b-a) (c-a))) rfl (AP.back sr (E5 rfl ?_)))))
 exact AP.nil (AC.subF (sL [6] rfl) (AC.then_ (AE.ret (AU rfl (Am (v:=(vI ((KZ (b-a) (c-a)).num.sign))) rfl) (λw hw=>⟨rfl,hw.out⟩)))))
theorem Gc (x y:Int) (h1:-9223372036854775808<=x) (h2:x<9223372036854775808) (h3:-9223372036854775808<=y) (h4:y<9223372036854775808) (w:World)  :Calls Tryz.prog 56 #[(vI x),(vI y)] w (Ax w (aG (An (⟨((x:Int):Rat),((y:Int):Rat)⟩:Pt)))):=by
 refine Ad (args:=[(vI x),(vI y)]) Tryz.func56 rfl rfl (Af rfl) (AE.subF (sL [0,1] rfl) (q4 (al HK rfl λb1=>AD.nil (q2 ?_))))
 refine AO rfl (BY Tryz.call25 (I3 x (by omega) (by omega)) rfl (AO rfl (BY Tryz.call25 (I3 y (by omega) (by omega)) rfl (AH (v:=(aG (AW ((x:Int):Rat)++AW ((y:Int):Rat)))) (AS (zs:=An (⟨0,0⟩:Pt)) (vs:=AW ((x:Int):Rat)++AW ((y:Int):Rat)) (pv:=[(0,(aG (AW ((x:Int):Rat)))),(1,(aG (AW ((y:Int):Rat))))]) (places:=[(0,5),(5,5)]) Tryz.zeroValue55 Tryz.underlying55 (λw=>by simp [Tryz.sizeOf53]) rfl (Bs ((x:Int):Rat) ((y:Int):Rat))) rfl (A6 rfl Tryz.sizeOf55 rfl ?_)))))
 exact AD.nil (AC.subF (sL [4] rfl) (AC.then_ (AE.ret (AU rfl (Ay (i:=0) (cs:=AW ((x:Int):Rat)++AW ((y:Int):Rat)) rfl rfl Tryz.isAgg55 Tryz.sizeOf55 rfl) (λw hw=>⟨by rw [Wn],hw.out⟩)))))
end
section
set_option maxRecDepth 100000
theorem Rg (x y:Int) (h1:-9223372036854775808<=x) (h2:x<9223372036854775808) (h3:-9223372036854775808<=y) (h4:y<9223372036854775808) (hy:y≠0) (w:World)  :Calls Tryz.prog 152 #[(vI x),(vI y)] w (Ax w (Value.tuple #[(aG (AW (((x:Int):Rat)/((y:Int):Rat)))),(vI 0)])):=by
 have hb:((y:Int):Rat)≠0:=λe=>hy (by exact_mod_cast e)
 have s1:=Mw h1 h2
 have s2:=Mw h3 h4
 refine Ad (args:=[(vI x),(vI y)]) Tryz.func152 rfl rfl (Af rfl) (AE.subF (sL [0,1] rfl) (q4 (al Gr rfl λb1=>AL rfl (AD.nil ?_))))
 refine q2 (AO rfl (BY Tryz.call25 (I3 x (by omega) (by omega)) rfl (AO rfl (BY Tryz.call25 (I3 y (by omega) (by omega)) rfl ?_))))
 have hz1:=SQ (a:=((x:Int):Rat)) (b:=((y:Int):Rat)) (by assumption)
 refine BY Tryz.call66 (VX ((x:Int):Rat) ((y:Int):Rat) (by omega) (by assumption)) rfl (AH (AY (v:=(aG (AW (((x:Int):Rat)/((y:Int):Rat))))) rfl rfl) rfl (AH (AY (v:=(vI 0)) rfl rfl) rfl (A6 rfl Tryz.sizeOf53 rfl (AL rfl (AD.nil ?_)))))
 exact AC.subF (sL [4,5] rfl) (AC.then_ (AE.ret (DM rfl (Ay (i:=0) (cs:=AW (((x:Int):Rat)/((y:Int):Rat))) rfl rfl Tryz.isAgg53 Tryz.sizeOf53 rfl) (Am (v:=(vI 0)) rfl) (λw hw=>⟨rfl,hw.out⟩))))
theorem S8  (w:World)  :Calls Tryz.prog 174 #[] w (Ax w (aG (AW ((1:Rat)/2)))):=by
 refine Ad (args:=[]) Tryz.func174 rfl rfl (Af rfl) (AE.subF sN (q4 (al Gr rfl λb1=>AD.nil (q2 ?_))))
 refine BY Tryz.call152 (Rg (1:Int) (2:Int) (by omega) (by omega) (by omega) (by omega) (by omega)) rfl (AO rfl (AH (AY (v:=(aG (AW (((1:Int):Rat)/((2:Int):Rat))))) rfl rfl) rfl (AD.retell (k:=5) (u:=(aG (AW ((1:Rat)/2)))) rfl (by rw [VF]) (AH (AY (v:=(vI 0)) rfl rfl) rfl (al Gr rfl λb2=>?_)))))
 refine A6 rfl Tryz.sizeOf53 rfl (AL rfl (q3 (sL [0,1] rfl) (BF 0 CQ rfl (DU rfl Tryz.sizeOf53 rfl (AD.nil ?_)))))
 exact AC.subF (sL [0,1] rfl) (AC.then_ (AE.ret (AU rfl (Ay (i:=1) (cs:=AW ((1:Rat)/2)) rfl rfl Tryz.isAgg53 Tryz.sizeOf53 rfl) (λw hw=>⟨rfl,hw.out⟩))))
theorem VM (a b:Pt) (hs:DT a+DT b<=17179869184) (w:World)  :Calls Tryz.prog 121 #[(aG (An a)),(aG (An b))] w (Ax w (aG (An (B7 (a+b) (1/2))))):=by
 have sh:=Up
 refine Ad (args:=[(aG (An a)),(aG (An b))]) Tryz.func121 rfl rfl (Af rfl) (AE.subF (sL [0,1] rfl) (q4 (CB (cs:=An a) rfl λb1=>CB (cs:=An b) rfl λb2=>al HK rfl λb3=>?_)))
 refine q3 (sL [2,3,4] rfl) (BF 2 BM rfl (BF 1 BM rfl ?_))
 have hz1:=L9 a b
 refine BY Tryz.call173 (VC a b (by omega)) rfl (BY Tryz.call174 (S8) rfl ?_)
 have hz2:=IG (a+b) ((1:Rat)/2)
 exact BY Tryz.call172 (RN (a+b) ((1:Rat)/2) (by omega)) rfl (A6 rfl Tryz.sizeOf55 rfl (AD.nil (AC.subF (sL [4] rfl) (AC.then_ (AE.ret (AU rfl (Ay (i:=0) (cs:=An (B7 (a+b) ((1:Rat)/2))) rfl rfl Tryz.isAgg55 Tryz.sizeOf55 rfl) (λw hw=>⟨rfl,hw.out⟩)))))))
end
section
set_option maxRecDepth 100000
end

section
set_option maxRecDepth 100000
end
section
set_option maxRecDepth 100000
end
section
set_option maxRecDepth 100000
end
section
set_option maxRecDepth 100000
end
section
section
variable {P:Program} {n:Nat} {F:List (Nat×Value)} {w0:BJ} {L:List As} {v:Value} {x:Operand} {d:Option Tmp} {t:TypeId} {p:String} {af:Array Edge} {g:Option (Nat×Bool)}
end
end
section
set_option maxRecDepth 100000
end
section
set_option maxRecDepth 100000
end
section
set_option maxRecDepth 100000
end
section
set_option maxRecDepth 100000
end
section
set_option maxRecDepth 100000
end
section
set_option maxRecDepth 100000
end
section
section
variable {P:Program} {n:Nat} {F:List (Nat×Value)} {w0:BJ} {L:List As} {v:Value} {x lo hi:Operand} {d:Option Tmp} {t:TypeId} {p:String} {af:Array Edge} {g:Option (Nat×Bool)}
end
end
section
set_option maxRecDepth 100000
end
theorem JW (a b:Pt):(a+b).x=a.x+b.x:=rfl
theorem KP (a b:Pt):(a+b).y=a.y+b.y:=rfl
theorem Fk (a:Pt) (k:Rat):(B7 a k).x=a.x*k:=rfl
theorem Fd (a:Pt) (k:Rat):(B7 a k).y=a.y*k:=rfl
theorem CG (a b c:Pt):B9 a b c=(b.x-a.x)*(c.y-a.y)-(b.y-a.y)*(c.x-a.x):=rfl
theorem Kl {q:Rat} (h:q=0):q.num.sign=0:=by subst h;rfl
theorem CE (a b c:Pt):B9 b c a=B9 a b c:=by simp only [CG];grind
section
theorem U8 (a b:Int):(decide (a.natAbs=b.natAbs)&&((decide (a<0) == decide (b<0))&&true))=decide (a=b):=by
  by_cases e:a=b
  · subst e;simp
  · rw [decide_eq_false e]
    by_cases h1:a<0<;>by_cases h2:b<0<;>simp [h1,h2]<;>omega
theorem VH (D:Nat) (a b:Int):Et Tryz.prog (D+4) 51 (.agg (BB a).toArray) (.agg (BB b).toArray) (decide (a=b)):=by
  rw [<-U8]
  exact Et.struct Tryz.underlying51 Tryz.stoodInHeld51 (IK.agg (us:=AV a.natAbs) (bs:=AV b.natAbs) (by decide) Tryz.isAgg49 Tryz.sizeOf49 rfl rfl (Nm D _ _) (IK.one (by decide) Tryz.isAgg4 rfl rfl (Et.bool Tryz.underlying4) IK.nil))
theorem SJ (a b:Rat):(decide (a.num=b.num)&&(decide (a.den-1=b.den-1)&&true))=decide (a=b):=by
  by_cases e:a=b
  · subst e;simp
  · rw [decide_eq_false e]
    have h1:=a.den_pos
    have h2:=b.den_pos
    simp only [Bool.and_true,Bool.and_eq_false_iff,decide_eq_false_iff_not]
    apply Classical.byContradiction
    intro h
    refine e (Rat.ext ?_ ?_)
    · exact Classical.byContradiction λk=>h (.inl k)
    · exact Classical.byContradiction λk=>h (.inr (by omega))
theorem N6 (D:Nat) (a b:Rat):Et Tryz.prog (D+5) 53 (.agg (AW a).toArray) (.agg (AW b).toArray) (decide (a=b)):=by
  rw [<-SJ]
  exact Et.struct Tryz.underlying53 Tryz.stoodInHeld53 (IK.agg (us:=BB a.num) (bs:=BB b.num) (by decide) Tryz.isAgg51 Tryz.sizeOf51 rfl rfl (VH D _ _) (IK.agg (us:=AV (a.den-1)) (bs:=AV (b.den-1)) (by decide) Tryz.isAgg47 Tryz.sizeOf47 rfl rfl (Ge (D+2) _ _) IK.nil))
instance:DecidableEq Pt:=λa b=>decidable_of_iff (a.x=b.x/\a.y=b.y) ⟨λh=>Pt.ext h.1 h.2,λh=>h▸⟨rfl,rfl⟩⟩
theorem Wq (a b:Pt):(decide (a.x=b.x)&&(decide (a.y=b.y)&&true))=decide (a=b):=by
  by_cases e:a=b
  · subst e;simp
  · rw [decide_eq_false e]
    simp only [Bool.and_true,Bool.and_eq_false_iff,decide_eq_false_iff_not]
    apply Classical.byContradiction
    intro h
    refine e (Pt.ext ?_ ?_)
    · exact Classical.byContradiction λk=>h (.inl k)
    · exact Classical.byContradiction λk=>h (.inr k)
theorem Wf (D:Nat) (a b:Pt):Et Tryz.prog (D+6) 55 (.agg (An a).toArray) (.agg (An b).toArray) (decide (a=b)):=by
  rw [<-Wq]
  exact Et.struct Tryz.underlying55 Tryz.stoodInHeld55 (IK.agg (us:=AW a.x) (bs:=AW b.x) (by decide) Tryz.isAgg53 Tryz.sizeOf53 rfl rfl (N6 D _ _) (IK.agg (us:=AW a.y) (bs:=AW b.y) (by decide) Tryz.isAgg53 Tryz.sizeOf53 rfl rfl (N6 D _ _) IK.nil))
section
variable {P:Program}
def OE (P:Program) (D:Nat) (e:TypeId) (c:Nat) (xs ys:List Value) (is:List Nat) (b:Bool):Prop:=∀w,(Go.Op.eqItems D e c xs.toArray ys.toArray is).run P w=.ok b w
theorem OE.nil {D c:Nat} {e:TypeId} {xs ys:List Value}:OE P D e c xs ys [] true:=λw=>rfl
theorem OE.cons {D c i:Nat} {e:TypeId} {is:List Nat} {xs ys us bs:List Value} {r s:Bool} (hg:∀w,(isAgg e).run P w=.ok true w) (hs:∀w,(sizeOf e).run P w=.ok c w)
    (ha:(xs.drop (i*c)).take c=us) (hb:(ys.drop (i*c)).take c=bs) (h:Et P D e (.agg us.toArray) (.agg bs.toArray) r) (h2:OE P D e c xs ys is s):OE P D e c xs ys (i::is) (r&&s):=λw=>by
  have ex:∀l:List Value,l.toArray.extract (i*c) (i*c+c)=((l.drop (i*c)).take c).toArray:=λl=>by simp [List.extract_eq_take_drop]
  have e1:(part e xs.toArray (i*c)).run P w=.ok (.agg us.toArray) w:=by simp [part,hg,hs,ex,ha]
  have e2:(part e ys.toArray (i*c)).run P w=.ok (.agg bs.toArray) w:=by simp [part,hg,hs,ex,hb]
  simp only [Go.Op.eqItems,Sem.run_bind,e1,e2,Result.andThen_ok,h w]
  cases r
  · simp
  · simp [h2 w]
theorem Et.array {D n c:Nat} {T e:TypeId} {xs ys:List Value} {b:Bool} (hu:P.underlying T=some (.array n e)) (hi:∃i,P.info? e=some i) (hc:P.cellsOf e=c) (h:OE P D e c xs ys (List.range n) b) :
    Et P (D+1) T (.agg xs.toArray) (.agg ys.toArray) b:=λw=>by
  obtain ⟨i,hi⟩:=hi
  rw [Go.run_equalIn_array w D xs.toArray ys.toArray hu hi,hc]
  exact h w
end
theorem J5 (D:Nat) {a b:Pt} (h:a=b):Et Tryz.prog (D+6) 55 (.agg (An a).toArray) (.agg (An b).toArray) true:=by
  have:=Wf D a b;rwa [decide_eq_true h] at this
section
variable {P:Program} {n:Nat} {F:List (Nat×Value)} {w0:BJ} {L:List As} {x y:Operand} {d:Option Tmp} {t:TypeId} {p:String} {af:Array Edge} {g:Option (Nat×Bool)}
end
end
section
structure QD where
  n:Int
  d:Nat
structure PD where
  x:QD
  y:QD
def W7 (q:QD):List Value:=[.int .i64 q.n,.int .u32 (q.d:Nat)]
def YG (p:PD):List Value:=W7 p.x++W7 p.y
def QD.ok (q:QD):Prop := -9223372036854775808<=q.n/\q.n<9223372036854775808/\q.d<4294967296
def PD.ok (p:PD):Prop:=p.x.ok/\p.y.ok
def M1 (q:QD):Rat:=((q.n:Int):Rat)/(((max q.d 1:Nat):Int):Rat)
def DY (p:PD):Pt:=⟨M1 p.x,M1 p.y⟩
theorem S3 {q:QD} (h:q.ok):Sz (M1 q)<=4:=by
  obtain ⟨h1,h2,h3⟩:=h
  have s1:=Mw h1 h2
  have s2:=Mw (z:=((max q.d 1:Nat):Int)) (by omega) (by omega)
  have hb:(((max q.d 1:Nat):Int):Rat)≠0:=λe=>by
    have:((max q.d 1:Nat):Int)=0:=by exact_mod_cast e
    omega
  have:=SQ (a:=((q.n:Int):Rat)) hb
  unfold M1
  omega
theorem Se {p:PD} (h:p.ok):DT (DY p)<=4:=L3 (S3 h.1) (S3 h.2)
section
variable {P:Program} {w:World} {r:Reach} {base:Nat}
end
section
variable {P:Program} {w:World} {r:Reach} {base:Nat} {t:TypeId} {v:Value} {ts:List TypeId}
end
end
section
def rowsL {α:Type} (enc:α->List Value) (xs:List α):List Value:=xs.flatMap enc
section
variable {α:Type} {enc:α->List Value} {z:Nat}
theorem BN (xs ys:List α):rowsL enc (xs++ys)=rowsL enc xs++rowsL enc ys:=by simp [rowsL]
theorem Aj (h:∀x,(enc x).length=z) (xs:List α):(rowsL enc xs).length=xs.length*z:=by
  induction xs with
  | nil=>simp [rowsL]
  | cons x r ih =>
    have e:rowsL enc (x::r)=enc x++rowsL enc r:=rfl
    rw [e,List.length_append,ih,h,List.length_cons,Nat.add_mul];omega
theorem A7 (h:∀x,(enc x).length=z) (d:α):∀(xs:List α) (j:Nat),j<xs.length->((rowsL enc xs).drop (j*z)).take z=enc (xs.getD j d)
  | x::r,0,_=>by
    have e:rowsL enc (x::r)=enc x++rowsL enc r:=rfl
    rw [e,Nat.zero_mul,List.drop_zero,List.take_append_of_le_length (by rw [h];exact Nat.le_refl _),List.take_of_length_le (by rw [h];exact Nat.le_refl _)];rfl
  | x::r,j+1,hj=>by
    have e:rowsL enc (x::r)=enc x++rowsL enc r:=rfl
    rw [e,show (j+1)*z=(enc x).length+j*z by rw [h,Nat.add_mul];omega,List.drop_append,List.drop_of_length_le (by omega),Nat.add_sub_cancel_left,List.nil_append,A7 h d r j (by simpa using hj)];rfl
end
structure RX (cs:List Value) (n:Nat) where
  p:Option Addr
  c:Nat
  ok:BL p n c
@[reducible] def RX.val {cs:List Value} {n:Nat} (a:RX cs n):Value:=.slice a.p n a.c
@[reducible] def RX.row {cs:List Value} {n:Nat} (a:RX cs n):As:=AX a.p cs
instance {cs:List Value} {n:Nat}:Dx (RX cs n):=⟨λa=>.slice a.p n a.c,λa=>[AX a.p cs],λa y hy=>by rcases List.mem_singleton.1 hy with rfl;rfl⟩
theorem YN {S:Nat->Prop} {W w:World} {L:List As} (hw:BK ⟨W,none⟩ w L) (i:Nat) {p:Option Addr} {T:TypeId} {z n c:Nat} {cs:List Value} (hi:L[i]?=some (rowW p T z n c cs)) (ho:OwnOk p n c) (hl:cs.length=n*z) {v:Value} (hv:v=.slice p n c):Bc (RX cs n) S W (.returned v) w:=by
  have hb:=hw.newRow hi
  refine ⟨⟨p,c,ho.row⟩,by rw [hv];rfl,hw.out,λy hy=>?_⟩
  rcases List.mem_singleton.1 hy with rfl
  refine ⟨λd e=>?_,λd e=>.inl (hb d e)⟩
  obtain ⟨_,o,ho2,hp⟩:=hw.2.1 _ (List.mem_of_getElem? hi) d e
  exact ⟨o,ho2,Cl ho hl hp⟩
def Cp (xs:List Nat):List Value:=xs.map λx=>Value.int .u8 (x:Nat)
theorem Rh {xs:List Nat} {j:Nat} (h:j<xs.length):(Cp xs)[j*1]?=some (.int .u8 ((xs.getD j 0:Nat):Int)):=by rw [Nat.mul_one];simp [Cp,h]
structure MQ where
  nx:Nat
  ny:Nat
  cs:List Nat
  p:Option Addr
  cap:Nat
  a:Int
  b:Int
  c:Int
  d:Int
  den:Nat
  fst:Nat
  hx:nx<256
  hy:ny<256
  ha:-128<=a/\a<=127
  hb:-128<=b/\b<=127
  hc:-128<=c/\c<=127
  hd:-128<=d/\d<=127
  hden:den<256
  hfst:fst<256
  hcs:∀x∈cs,x<256
  ok:BL p cs.length cap
def EJ (m:MQ):List Value:=[.int .u8 m.nx,.int .u8 m.ny,.slice m.p m.cs.length m.cap,.int .i8 m.a,.int .i8 m.b,.int .i8 m.c,.int .i8 m.d,.int .u8 m.den,.int .u8 m.fst]
instance:Dx MQ:=⟨λm=>aG (EJ m),λm=>[AX m.p (Cp m.cs)],λa y hy=>by rcases List.mem_singleton.1 hy with rfl;rfl⟩
theorem MO {a b:Nat} (h:a<256):IntKind.u8.wrap ((a:Int).tdiv (b:Int))=((a/b:Nat):Int):=by
  have:a/b<=a:=Nat.div_le_self _ _
  rw [<-Int.ofNat_tdiv]
  generalize a/b=q at *
  exact MY (by omega) (by omega)
theorem Uj {a b:Nat} (h:a+b<256):IntKind.u8.wrap ((a:Int)+(b:Int))=((a+b:Nat):Int):=by rw [MY (by omega) (by omega)];omega
abbrev P2:=Nat×Nat
def Ce (nx way i:Nat):List (P2×P2×P2) :=
  let x:=2*(i%nx);let y:=2*(i/nx)
  if way<3\/(way=7/\i=0) then [((x,y),(x+2,y),(x+2,y+2)),((x,y),(x+2,y+2),(x,y+2))]
  else if way<5 then [((x,y),(x+2,y),(x,y+2)),((x+2,y),(x+2,y+2),(x,y+2))]
  else if way<7 then [((x,y),(x+2,y),(x+1,y+1)),((x+2,y),(x+2,y+2),(x+1,y+1)),((x+2,y+2),(x,y+2),(x+1,y+1)),((x,y+2),(x,y),(x+1,y+1))] else []
def DH (p q r:P2):Int:=((q.1:Int)-p.1)*((r.2:Int)-p.2)-((q.2:Int)-p.2)*((r.1:Int)-p.1)
def Pl (t:P2×P2×P2):Prop:=0<DH t.1 t.2.1 t.2.2/\(t.1.1<=6/\t.1.2<=6)/\(t.2.1.1<=6/\t.2.1.2<=6)/\(t.2.2.1<=6/\t.2.2.2<=6)
theorem T9 {nx ny way i:Nat} (hx:nx<=3) (hy:ny<=3) (hi:i<nx*ny):∀t∈Ce nx way i,Pl t:=by
  have h1:i%nx<=2:=by
    have:nx≠0:=λe=>by subst e;omega
    have:=Nat.mod_lt i (show 0<nx by omega)
    omega
  have h2:i/nx<=2:=by
    have:i/nx<ny:=Nat.div_lt_of_lt_mul (by rwa [Nat.mul_comm] at hi ⊢)
    omega
  intro t ht
  unfold Ce at ht
  generalize i%nx=u at *
  generalize i/nx=v at *
  have key:∀t:P2×P2×P2,t∈[((2*u,2*v),(2*u+2,2*v),(2*u+2,2*v+2)),((2*u,2*v),(2*u+2,2*v+2),(2*u,2*v+2)),((2*u,2*v),(2*u+2,2*v),(2*u,2*v+2)),((2*u+2,2*v),(2*u+2,2*v+2),(2*u,2*v+2)),
      ((2*u,2*v),(2*u+2,2*v),(2*u+1,2*v+1)),((2*u+2,2*v),(2*u+2,2*v+2),(2*u+1,2*v+1)),((2*u+2,2*v+2),(2*u,2*v+2),(2*u+1,2*v+1)),((2*u,2*v+2),(2*u,2*v),(2*u+1,2*v+1))]->Pl t:=by
    intro t ht
    simp only [List.mem_cons,List.not_mem_nil,or_false] at ht
    rcases ht with rfl|rfl|rfl|rfl|rfl|rfl|rfl|rfl<;>refine ⟨?_,⟨?_,?_⟩,⟨?_,?_⟩,?_,?_⟩<;>dsimp only [DH]<;>first|omega|grind
  refine key t ?_
  simp only at ht
  split at ht
  · simp only [List.mem_cons,List.not_mem_nil,or_false] at ht ⊢;rcases ht with h|h<;>simp [h]
  · split at ht
    · simp only [List.mem_cons,List.not_mem_nil,or_false] at ht ⊢;rcases ht with h|h<;>simp [h]
    · split at ht
      · simp only [List.mem_cons,List.not_mem_nil,or_false] at ht ⊢;rcases ht with h|h|h|h<;>simp [h]
      · cases ht
theorem Q4 (nx way i:Nat):(Ce nx way i).length<=4:=by
  unfold Ce;simp only;split
  · simp
  · split
    · simp
    · split<;>simp
theorem NJ (nx way:Nat) (h:way<8):Ce nx way 0≠[]:=by
  unfold Ce;simp only;split
  · simp
  · split
    · simp
    · split
      · simp
      · rename_i h1 h2 h3;simp only [and_true,not_or] at h1;omega
section
variable {nx way i u v:Nat}
theorem U4 (hu:u=i%nx) (hv:v=i/nx) (h:way<3\/(way=7/\i=0)):Ce nx way i=[((2*u,2*v),(2*u+2,2*v),(2*u+2,2*v+2)),((2*u,2*v),(2*u+2,2*v+2),(2*u,2*v+2))]:=by
  subst hu;subst hv;exact if_pos h
theorem Ur (hu:u=i%nx) (hv:v=i/nx) (h0:¬(way<3\/(way=7/\i=0))) (h:way<5):Ce nx way i=[((2*u,2*v),(2*u+2,2*v),(2*u,2*v+2)),((2*u+2,2*v),(2*u+2,2*v+2),(2*u,2*v+2))]:=by
  subst hu;subst hv;exact (if_neg h0).trans (if_pos h)
theorem VQ (hu:u=i%nx) (hv:v=i/nx) (h0:¬(way<3\/(way=7/\i=0))) (h1:¬way<5) (h:way<7):Ce nx way i=[((2*u,2*v),(2*u+2,2*v),(2*u+1,2*v+1)),((2*u+2,2*v),(2*u+2,2*v+2),(2*u+1,2*v+1)),((2*u+2,2*v+2),(2*u,2*v+2),(2*u+1,2*v+1)),((2*u,2*v+2),(2*u,2*v),(2*u+1,2*v+1))]:=by
  subst hu;subst hv;exact (if_neg h0).trans ((if_neg h1).trans (if_pos h))
theorem VA (h0:¬(way<3\/(way=7/\i=0))) (h1:¬way<5) (h:¬way<7):Ce nx way i=[]:=(if_neg h0).trans ((if_neg h1).trans (if_neg h))
end
def Aw (p:P2):List Value:=[vN p.1,vN p.2]
theorem Cn (p:P2):(Aw p).length=2:=rfl
def A9 (t:P2×P2×P2):List Value:=Aw t.1++Aw t.2.1++Aw t.2.2
theorem FU (t:P2×P2×P2):(A9 t).length=6:=rfl
def Ai (t:Nat×Nat×Nat):List Value:=[vN t.1,vN t.2.1,vN t.2.2]
theorem Aq (t:Nat×Nat×Nat):(Ai t).length=3:=rfl
def CO (z:Int×Int):List Value:=[.int .i64 z.1,.int .i64 z.2]
theorem FL (z:Int×Int):(CO z).length=2:=rfl
def Fz (m:MQ) (i:Nat):Nat:=if 0<m.cs.length then m.cs.getD (i%m.cs.length) 0%8 else 0
theorem Pd (m:MQ) (i:Nat):Fz m i<8:=by unfold Fz;split<;>omega
def FV (m:MQ):Nat:=1+m.nx%3
def Qu (m:MQ):Nat:=1+m.ny%3
def Dm (m:MQ):Nat->List (P2×P2×P2)
  | 0=>[]
  | i+1=>Dm m i++Ce (FV m) (Fz m i) i
def BA (m:MQ):List (P2×P2×P2):=Dm m (FV m*Qu m)
theorem IZ (m:MQ):1<=FV m/\FV m<=3:=by unfold FV;omega
theorem IF (m:MQ):1<=Qu m/\Qu m<=3:=by unfold Qu;omega
theorem HA (m:MQ):∀i,(Dm m i).length<=4*i
  | 0=>Nat.le_refl _
  | i+1=>by
    have h1:=HA m i
    have h2:=Q4 (FV m) (Fz m i) i
    show (Dm m i++Ce (FV m) (Fz m i) i).length<=_
    rw [List.length_append];omega
theorem LK (m:MQ):∀i,i<=FV m*Qu m->∀t∈Dm m i,Pl t
  | 0,_,t,ht=>by cases ht
  | i+1,hi,t,ht=>by
    rcases List.mem_append.1 ht with h|h
    · exact LK m i (by omega) t h
    · exact T9 (IZ m).2 (IF m).2 (by omega) t h
theorem LN (m:MQ):∀i,1<=i->Dm m i≠[]
  | 1,_=>by
    show []++Ce (FV m) (Fz m 0) 0≠[]
    rw [List.nil_append];exact NJ _ _ (Pd m 0)
  | i+2,_=>λe=>LN m (i+1) (by omega) (List.append_eq_nil_iff.1 e).1
theorem RM (m:MQ):BA m≠[]:=LN m _ (Nat.mul_pos (IZ m).1 (IF m).1)
theorem H8 (m:MQ):∀t∈BA m,Pl t:=LK m _ (Nat.le_refl _)
theorem Io (m:MQ):FV m*Qu m<=9:=Nat.mul_le_mul (IZ m).2 (IF m).2
theorem Gz (m:MQ):(BA m).length<=36:=by
  have h1:=HA m (FV m*Qu m)
  have h2:=Io m
  unfold BA;omega
theorem Cv {a b:Int} {k:Int} (ha:-3<=a/\a<=3) (hb:-k<=b/\b<=k):-(3*k)<=a*b/\a*b<=3*k:=by
  obtain ⟨h3,h4⟩:=ha
  have e:a = -3\/a = -2\/a = -1\/a=0\/a=1\/a=2\/a=3:=by omega
  rcases e with rfl|rfl|rfl|rfl|rfl|rfl|rfl<;>omega
def UG (k:Int×Int×Int×Int):List Value:=[.int .i64 k.1,.int .i64 k.2.1,.int .i64 k.2.2.1,.int .i64 k.2.2.2]
structure Cw where
  a:Int
  b:Int
  c:Int
  d:Int
def Cw.det (k:Cw):Int:=k.a*k.d-k.b*k.c
structure Cw.Ok (k:Cw):Prop where
  a:-3<=k.a/\k.a<=3
  b:-3<=k.b/\k.b<=3
  c:-3<=k.c/\k.c<=3
  d:-3<=k.d/\k.d<=3
  pos:0<k.det
def Cw.at_ (k:Cw) (p:P2):Int×Int:=(k.a*p.1+k.b*p.2,k.c*p.1+k.d*p.2)
def F_ (a b c d:Int):Cw :=
  let k:Cw:=⟨a.tmod 4,b.tmod 4,c.tmod 4,d.tmod 4⟩
  if k.det=0 then ⟨1,0,0,1⟩ else if k.det<0 then ⟨k.a,k.b,-k.c,-k.d⟩ else k
theorem Ij (a:Int):-3<=a.tmod 4/\a.tmod 4<=3:=by
  have h:=Int.tmod_eq_emod (a:=a) (b:=4)
  have h1:=Int.emod_nonneg a (show (4:Int)≠0 by decide)
  have h2:=Int.emod_lt_of_pos a (show (0:Int)<4 by decide)
  rw [h]
  split<;>omega
theorem MW {a b c d A B C D:Int} (hA:A=a.tmod 4) (hB:B=b.tmod 4) (hC:C=c.tmod 4) (hD:D=d.tmod 4) (h:A*D-B*C=0):F_ a b c d=⟨1,0,0,1⟩:=by
  subst hA;subst hB;subst hC;subst hD;exact if_pos h
theorem MR {a b c d A B C D:Int} (hA:A=a.tmod 4) (hB:B=b.tmod 4) (hC:C=c.tmod 4) (hD:D=d.tmod 4) (h:A*D-B*C<0):F_ a b c d=⟨A,B,-C,-D⟩:=by
  subst hA;subst hB;subst hC;subst hD;exact (if_neg (λe:a.tmod 4*d.tmod 4-b.tmod 4*c.tmod 4=0=>by rw [e] at h;omega)).trans (if_pos h)
theorem MD {a b c d A B C D:Int} (hA:A=a.tmod 4) (hB:B=b.tmod 4) (hC:C=c.tmod 4) (hD:D=d.tmod 4) (h0:¬A*D-B*C=0) (h:¬A*D-B*C<0):F_ a b c d=⟨A,B,C,D⟩:=by
  subst hA;subst hB;subst hC;subst hD;exact (if_neg h0).trans (if_neg h)
theorem Fi (a b c d:Int):(F_ a b c d).Ok:=by
  have ha:=Ij a;have hb:=Ij b;have hc:=Ij c;have hd:=Ij d
  unfold F_
  generalize a.tmod 4=a' at *
  generalize b.tmod 4=b' at *
  generalize c.tmod 4=c' at *
  generalize d.tmod 4=d' at *
  show (if a'*d'-b'*c'=0 then (⟨1,0,0,1⟩:Cw) else if a'*d'-b'*c'<0 then ⟨a',b',-c',-d'⟩ else ⟨a',b',c',d'⟩).Ok
  by_cases h0:a'*d'-b'*c'=0
  · rw [if_pos h0];exact ⟨by decide,by decide,by decide,by decide,by decide⟩
  · rw [if_neg h0]
    by_cases h:a'*d'-b'*c'<0
    · rw [if_pos h];exact ⟨ha,hb,by dsimp only;omega,by dsimp only;omega,by show 0<a' * -d'-b' * -c';rw [Int.mul_neg,Int.mul_neg];omega⟩
    · rw [if_neg h];exact ⟨ha,hb,hc,hd,by show 0<a'*d'-b'*c';omega⟩
theorem Rb {k:Cw} (h:k.Ok) {p:P2} (hp:p.1<=6/\p.2<=6):(-36<=(k.at_ p).1/\(k.at_ p).1<=36) /\ -36<=(k.at_ p).2/\(k.at_ p).2<=36:=by
  obtain ⟨x,y⟩:=p
  have key:∀(z:Int) (n:Nat),-3<=z/\z<=3->n<=6 -> -18<=z*n/\z*n<=18:=λz n h1 h2=>by
    obtain ⟨h3,h4⟩:=h1
    have e:z = -3\/z = -2\/z = -1\/z=0\/z=1\/z=2\/z=3:=by omega
    rcases e with rfl|rfl|rfl|rfl|rfl|rfl|rfl<;>omega
  have h1:=key k.a x h.a hp.1;have h2:=key k.b y h.b hp.2;have h3:=key k.c x h.c hp.1;have h4:=key k.d y h.d hp.2
  simp only [Cw.at_]
  exact ⟨⟨by omega,by omega⟩,by omega,by omega⟩
def M4 (k:Cw) (den:Nat) (p:P2):PD:=⟨⟨(k.at_ p).1,den⟩,⟨(k.at_ p).2,den⟩⟩
theorem UM {k:Cw} (h:k.Ok) (den:Nat) {p q r:P2} (ht:0<DH p q r):0<B9 (DY (M4 k den p)) (DY (M4 k den q)) (DY (M4 k den r)):=by
  have hD:0<(((max den 1:Nat):Int):Rat):=by exact_mod_cast (show (0:Int)<((max den 1:Nat):Int) by omega)
  have e:B9 (DY (M4 k den p)) (DY (M4 k den q)) (DY (M4 k den r))=((k.det*DH p q r:Int):Rat)*((((max den 1:Nat):Int):Rat)⁻¹*(((max den 1:Nat):Int):Rat)⁻¹):=by
    simp only [CG,DY,M4,M1,Cw.at_,Cw.det,DH,Rat.div_def,Rat.intCast_add,Rat.intCast_mul,Rat.intCast_sub]
    generalize (((max den 1:Nat):Int):Rat)⁻¹=D
    grind
  rw [e]
  have h1:0<k.det*DH p q r:=Int.mul_pos h.pos ht
  have h2:(0:Rat)<((k.det*DH p q r:Int):Rat):=by exact_mod_cast h1
  have h3:=Rat.inv_pos.2 hD
  exact Rat.mul_pos h2 (Rat.mul_pos h3 h3)
end
end Go.Proofs.YtfbomiejpbchdaaGreat
