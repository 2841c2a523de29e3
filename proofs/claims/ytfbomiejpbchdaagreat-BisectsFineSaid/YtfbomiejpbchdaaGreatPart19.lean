import Derived.Test.YtfbomiejpbchdaaGreatPart06
import Derived.Test.YtfbomiejpbchdaaGreatPart18
namespace Go.Proofs.YtfbomiejpbchdaaGreat
open Go Go.RowKit Go.Proofs.Tryz
set_option linter.unusedVariables false
set_option linter.unusedSimpArgs false
section
set_option maxRecDepth 100000
theorem B7 (x0:Rat) (x1:Rat):Instr.fill ([(0,5),(5,5)].toArray[·]?) (Aj (⟨0,0⟩:Pt)).toArray [(0,.agg (AH x0).toArray),(1,.agg (AH x1).toArray)]=some (AH x0++AH x1).toArray:=by kernel_rfl
theorem OM (a b:Pt) (hs:B5 a+B5 b<=68719476736) (w:World)  :Calls prog 156 #[(aG (Aj a)),(aG (Aj b)),(Value.func (.func 29) #[] #[])] w (Av w (aG (Aj (a+b)))):=by
 have p1:=Es a
 have p2:=Ey a
 have p3:=Es b
 have p4:=Ey b
 refine Ag (args:=[(aG (Aj a)),(aG (Aj b)),(Value.func (.func 29) #[] #[])]) func156 O O (Ab O) (AF.subF (sL [0,1,2] O) (q4 (Bo (cs:=Aj a) O λb1=>Bo (cs:=Aj b) O λb2=>al Dq O λb3=>?_)))
 refine q6 (sL [2,3,4,6] O) (Cu [(0,true),(1,true),(2,true),(3,true),(4,true),(6,true),(7,true),(8,true),(9,true),(10,true),(5,false),(11,false),(12,true),(13,false)] (sl sr) (Bf O (Ax (v:=(pP b1 0)) O (AA O underlying55 O sizeOf53 O) (HU 1 (AH a.x) BP O (Ax (v:=(pP b2 0)) O (AA O underlying55 O sizeOf53 O) ?_)))))
 refine HU 0 (AH b.x) BP O (Bf O (Ax (v:=(pP b1 5)) O (AA O underlying55 O sizeOf53 O) (HU 1 (AH a.y) BP O (Ax (v:=(pP b2 5)) O (AA O underlying55 O sizeOf53 O) (HU 0 (AH b.y) BP O ?_)))))
 refine AV.imp O ?_
 have hz1:=FS a.x b.x
 refine BW call29 (Fi a.x b.x (by (try simp only [Dc]);omega)) O (AV.back (sl sr) (AV.imp O ?_))
 have hz2:=FS a.y b.y
 refine BW call29 (Fi a.y b.y (by (try simp only [Dc]);omega)) O (AV.back (sl sr) (Ax (v:=(aG (AH (a.x+b.x)++AH (a.y+b.y)))) O (Ad (zs:=Aj (⟨0,0⟩:Pt)) (vs:=AH (a.x+b.x)++AH (a.y+b.y)) (pv:=[(0,(aG (AH (a.x+b.x)))),(1,(aG (AH (a.y+b.y))))]) (places:=[(0,5),(5,5)]) zeroValue55 underlying55 (λw=>by simp [sizeOf53]) O (B7 (a.x+b.x) (a.y+b.y))) (AV.imp O (Aq O sizeOf55 O (AV.back (sl sr) ?_)))))
 exact AV.nil (AC.subF (sL [6] O) (AC.then_ (AF.ret (AT O (A7 (i:=0) (cs:=AH (a.x+b.x)++AH (a.y+b.y)) O O isAgg55 sizeOf55 O) (λw hw=>⟨by rw [XK],hw.out⟩)))))
theorem Of (a b:Pt) (hs:B5 a+B5 b<=68719476736) (w:World)  :Calls prog 156 #[(aG (Aj a)),(aG (Aj b)),(Value.func (.func 111) #[] #[])] w (Av w (aG (Aj (a-b)))):=by
 have p1:=Es a
 have p2:=Ey a
 have p3:=Es b
 have p4:=Ey b
 refine Ag (args:=[(aG (Aj a)),(aG (Aj b)),(Value.func (.func 111) #[] #[])]) func156 O O (Ab O) (AF.subF (sL [0,1,2] O) (q4 (Bo (cs:=Aj a) O λb1=>Bo (cs:=Aj b) O λb2=>al Dq O λb3=>?_)))
 refine q6 (sL [2,3,4,6] O) (Cu [(0,true),(1,true),(2,true),(3,true),(4,true),(6,true),(7,true),(8,true),(9,true),(10,true),(5,false),(11,false),(12,true),(13,false)] (sl sr) (Bf O (Ax (v:=(pP b1 0)) O (AA O underlying55 O sizeOf53 O) (HU 1 (AH a.x) BP O (Ax (v:=(pP b2 0)) O (AA O underlying55 O sizeOf53 O) ?_)))))
 refine HU 0 (AH b.x) BP O (Bf O (Ax (v:=(pP b1 5)) O (AA O underlying55 O sizeOf53 O) (HU 1 (AH a.y) BP O (Ax (v:=(pP b2 5)) O (AA O underlying55 O sizeOf53 O) (HU 0 (AH b.y) BP O ?_)))))
 refine AV.imp O ?_
 have hz1:=Iu a.x b.x
 refine BW call111 (No a.x b.x (by (try simp only [Dc]);omega)) O (AV.back (sl sr) (AV.imp O ?_))
 have hz2:=Iu a.y b.y
 refine BW call111 (No a.y b.y (by (try simp only [Dc]);omega)) O (AV.back (sl sr) (Ax (v:=(aG (AH (a.x-b.x)++AH (a.y-b.y)))) O (Ad (zs:=Aj (⟨0,0⟩:Pt)) (vs:=AH (a.x-b.x)++AH (a.y-b.y)) (pv:=[(0,(aG (AH (a.x-b.x)))),(1,(aG (AH (a.y-b.y))))]) (places:=[(0,5),(5,5)]) zeroValue55 underlying55 (λw=>by simp [sizeOf53]) O (B7 (a.x-b.x) (a.y-b.y))) (AV.imp O (Aq O sizeOf55 O (AV.back (sl sr) ?_)))))
 exact AV.nil (AC.subF (sL [6] O) (AC.then_ (AF.ret (AT O (A7 (i:=0) (cs:=AH (a.x-b.x)++AH (a.y-b.y)) O O isAgg55 sizeOf55 O) (λw hw=>⟨by rw [Ws],hw.out⟩)))))
theorem Ml (x y k:Rat) (bk:Nat) (hs:Sz x+Sz k<=137438953472) (w:World) (hk:w.heap[bk]?=some (.cells (AH k).toArray 53 (0,0))):Calls prog 214 #[(aG (AH x)),(aG (AH y)),(pP bk 0)] w (Av w (aG (AH (x*k)))):=by
 refine Ag (args:=[(aG (AH x)),(aG (AH y)),(pP bk 0)]) func214 O O (Ab O) (AF.subF (sL [0,1,2] O) (q4 (Bo (cs:=AH x) O λb1=>Bo (cs:=AH y) O λb2=>al DL O λb3=>?_)))
 refine q3 (sL [2,3,5] O) (A6 2 BP O (AI (v:=(aG (AH k))) (FQ (vs:=AH k) O (λw' hw=>hw.oldCA (by simp) (Ei hk)) isAgg53 sizeOf53 O) O ?_))
 have hz1:=DM x k
 exact BW call24 (IG x k (by (try simp only [Dc]);omega)) O (Aq O sizeOf53 O (AE.nil (AC.subF (sL [5] O) (AC.then_ (AF.ret (AT O (A7 (i:=0) (cs:=AH (x*k)) O O isAgg53 sizeOf53 O) (λw hw=>⟨rfl,hw.out⟩)))))))
theorem Lg (a:Pt) (k:Rat) (bk:Nat) (hs:B5 a+Sz k<=137438953472) (w:World) (hk:w.heap[bk]?=some (.cells (AH k).toArray 53 (0,0))):Calls prog 156 #[(aG (Aj a)),(aG (Aj a)),(Value.func (.func 214) #[] #[(pP bk 0)])] w (Av w (aG (Aj (Cb a k)))):=by
 have p1:=Es a
 have p2:=Ey a
 refine Ag (args:=[(aG (Aj a)),(aG (Aj a)),(Value.func (.func 214) #[] #[(pP bk 0)])]) func156 O O (Ab O) (AF.subF (sL [0,1,2] O) (q4 (Bo (cs:=Aj a) O λb1=>Bo (cs:=Aj a) O λb2=>al Dq O λb3=>?_)))
 refine q6 (sL [2,3,4,6] O) (Cu [(0,true),(1,true),(2,true),(3,true),(4,true),(6,true),(7,true),(8,true),(9,true),(10,true),(5,false),(11,false),(12,true),(13,false)] (sl sr) (Bf O (Ax (v:=(pP b1 0)) O (AA O underlying55 O sizeOf53 O) (HU 1 (AH a.x) BP O (Ax (v:=(pP b2 0)) O (AA O underlying55 O sizeOf53 O) ?_)))))
 refine HU 0 (AH a.x) BP O (Bf O (Ax (v:=(pP b1 5)) O (AA O underlying55 O sizeOf53 O) (HU 1 (AH a.y) BP O (Ax (v:=(pP b2 5)) O (AA O underlying55 O sizeOf53 O) (HU 0 (AH a.y) BP O ?_)))))
 refine AV.imp O (AE.call (v:=(aG (AH (a.x*k)))) (AM O) (Dy (args:=[(aG (AH a.x)),(aG (AH a.x))]) (caps:=[(pP bk 0)]) (all:=[(aG (AH a.x)),(aG (AH a.x)),(pP bk 0)]) O O O call214) (λw hw=>Ml a.x a.x k bk Z w (hw.old (by simp) hk)) O (Ab O) (AV.back (sl sr) (AV.imp O (AE.call (v:=(aG (AH (a.y*k)))) (AM O) (Dy (args:=[(aG (AH a.y)),(aG (AH a.y))]) (caps:=[(pP bk 0)]) (all:=[(aG (AH a.y)),(aG (AH a.y)),(pP bk 0)]) O O O call214) (λw hw=>Ml a.y a.y k bk Z w (hw.old (by simp) hk)) O (Ab O) (AV.back (sl sr) ?_)))))
 refine Ax (v:=(aG (AH (a.x*k)++AH (a.y*k)))) O (Ad (zs:=Aj (⟨0,0⟩:Pt)) (vs:=AH (a.x*k)++AH (a.y*k)) (pv:=[(0,(aG (AH (a.x*k)))),(1,(aG (AH (a.y*k))))]) (places:=[(0,5),(5,5)]) zeroValue55 underlying55 (λw=>by simp [sizeOf53]) O (B7 (a.x*k) (a.y*k))) (AV.imp O (Aq O sizeOf55 O (AV.back (sl sr) (AV.nil (AC.subF (sL [6] O) ?_)))))
 exact AC.then_ (AF.ret (AT O (A7 (i:=0) (cs:=AH (a.x*k)++AH (a.y*k)) O O isAgg55 sizeOf55 O) (λw hw=>⟨by rw [Ru],hw.out⟩)))
theorem V9 (a b:Pt) (hs:B5 a+B5 b<=68719476736) (w:World)  :Calls prog 173 #[(aG (Aj a)),(aG (Aj b))] w (Av w (aG (Aj (a+b)))):=by
 refine Ag (args:=[(aG (Aj a)),(aG (Aj b))]) func173 O O (Ab O) (AF.subF (sL [0,1] O) (q4 (Bo (cs:=Aj a) O λb1=>Bo (cs:=Aj b) O λb2=>al Dq O λb3=>?_)))
 refine q3 (sL [2,3,4] O) (A6 2 BG O (A6 1 BG O (BW call156 (OM a b Z) O (Aq O sizeOf55 O (AE.nil ?_)))))
 exact AC.subF (sL [4] O) (AC.then_ (AF.ret (AT O (A7 (i:=0) (cs:=Aj (a+b)) O O isAgg55 sizeOf55 O) (λw hw=>⟨rfl,hw.out⟩))))
theorem Jm (a b:Pt) (hs:B5 a+B5 b<=68719476736) (w:World)  :Calls prog 92 #[(aG (Aj a)),(aG (Aj b))] w (Av w (aG (Aj (a-b)))):=by
 refine Ag (args:=[(aG (Aj a)),(aG (Aj b))]) func92 O O (Ab O) (AF.subF (sL [0,1] O) (q4 (Bo (cs:=Aj a) O λb1=>Bo (cs:=Aj b) O λb2=>al Dq O λb3=>?_)))
 refine q3 (sL [2,3,4] O) (A6 2 BG O (A6 1 BG O (BW call156 (Of a b Z) O (Aq O sizeOf55 O (AE.nil ?_)))))
 exact AC.subF (sL [4] O) (AC.then_ (AF.ret (AT O (A7 (i:=0) (cs:=Aj (a-b)) O O isAgg55 sizeOf55 O) (λw hw=>⟨rfl,hw.out⟩))))
theorem Rf (a:Pt) (k:Rat) (hs:B5 a+Sz k<=137438953472) (w:World)  :Calls prog 172 #[(aG (Aj a)),(aG (AH k))] w (Av w (aG (Aj (Cb a k)))):=by
 refine Ag (args:=[(aG (Aj a)),(aG (AH k))]) func172 O O (Ab O) (AF.subF (sL [0,1] O) (q4 (Bo (cs:=Aj a) O λb1=>Bo (cs:=AH k) O λb2=>al Dq O λb3=>?_)))
 refine q3 (sL [2,3,4] O) (A6 2 BG O (A6 2 BG O (AI (v:=(Value.func (.func 214) #[] #[(pP b2 0)])) (DS (vs:=[]) (us:=[(pP b2 0)]) O O) O (Ew call156 (λw hw=>Lg a k b2 Z w (hw.get (i:=1) O)) O (Aq O sizeOf55 O ?_)))))
 exact AE.nil (AC.subF (sL [4] O) (AC.then_ (AF.ret (AT O (A7 (i:=0) (cs:=Aj (Cb a k)) O O isAgg55 sizeOf55 O) (λw hw=>⟨rfl,hw.out⟩)))))
theorem Mu (a b:Pt) (hs:B5 a+B5 b<=68719476736) (w:World)  :Calls prog 43 #[(aG (Aj a)),(aG (Aj b))] w (Av w (aG (AH (In a b)))):=by
 have p1:=Es a
 have p2:=Ey a
 have p3:=Es b
 have p4:=Ey b
 refine Ag (args:=[(aG (Aj a)),(aG (Aj b))]) func43 O O (Ab O) (AF.subF (sL [0,1] O) (q4 (Bo (cs:=Aj a) O λb1=>Bo (cs:=Aj b) O λb2=>al DL O λb3=>?_)))
 refine q6 (sL [2,3,4] O) (Cu [(0,true),(1,true),(2,true),(3,true),(5,true),(6,true),(7,true),(8,true),(4,false),(9,false),(10,false),(11,false)] (sl sr) (Ax (v:=(pP b1 0)) O (AA O underlying55 O sizeOf53 O) (HU 1 (AH a.x) BP O (Ax (v:=(pP b2 5)) O (AA O underlying55 O sizeOf53 O) (HU 0 (AH b.y) BP O ?_)))))
 refine Ax (v:=(pP b1 5)) O (AA O underlying55 O sizeOf53 O) (HU 1 (AH a.y) BP O (Ax (v:=(pP b2 0)) O (AA O underlying55 O sizeOf53 O) (HU 0 (AH b.x) BP O (AV.imp O ?_))))
 have hz1:=DM a.x b.y
 refine BW call24 (IG a.x b.y (by (try simp only [Dc]);omega)) O (AV.back (sl sr) (AV.imp O ?_))
 have hz2:=DM a.y b.x
 refine BW call24 (IG a.y b.x (by (try simp only [Dc]);omega)) O (AV.back (sl sr) (AV.imp O ?_))
 have hz3:=Iu (a.x*b.y) (a.y*b.x)
 refine BW call111 (No (a.x*b.y) (a.y*b.x) (by (try simp only [Dc]);omega)) O (AV.back (sl sr) (AV.imp O (Aq O sizeOf53 O (AV.back (sl sr) (AV.nil ?_)))))
 exact AC.subF (sL [4] O) (AC.then_ (AF.ret (AT O (A7 (i:=0) (cs:=AH ((a.x*b.y)-(a.y*b.x))) O O isAgg53 sizeOf53 O) (λw hw=>⟨rfl,hw.out⟩))))
theorem ON (a b c:Pt) (hs:B5 a+B5 b+B5 c<=17179869184) (w:World)  :Calls prog 52 #[(aG (Aj a)),(aG (Aj b)),(aG (Aj c))] w (Av w (vI ((AJ a b c).num.sign))):=by
 refine Ag (args:=[(aG (Aj a)),(aG (Aj b)),(aG (Aj c))]) func52 O O (Ab O) (AF.subF (sL [0,1,2] O) (q4 (Bo (cs:=Aj a) O λb1=>Bo (cs:=Aj b) O λb2=>Bo (cs:=Aj c) O λb3=>?_)))
 refine AO O (q6 (sL [3,4,5,6] O) (Cu [(0,true),(1,true),(3,true),(4,true),(2,false),(5,false),(6,false),(7,false),(8,true)] sr (EW 1 BG O (EW 2 BG O (EW 0 BG O ?_)))))
 refine EW 2 BG O (AV.imp O ?_)
 have hz1:=HL b a
 refine BW call92 (Jm b a Z) O (AV.back sr (AV.imp O ?_))
 have hz2:=HL c a
 refine BW call92 (Jm c a Z) O (AV.back sr (AV.imp O ?_))
 have hz3:=KZ (b-a) (c-a)
 refine BW call43 (Mu (b-a) (c-a) Z) O (AV.back sr (AV.imp O (BW call63 (FX (In (b-a) (c-a))) O (AV.back sr (Ev O ?_)))))
 exact AV.nil (AC.subF (sL [6] O) (AC.then_ (AF.ret (AT O (Ak (v:=(vI ((In (b-a) (c-a)).num.sign))) O) (λw hw=>⟨rfl,hw.out⟩)))))
theorem Jq (x y:Int) (h1:-9223372036854775808<=x) (h2:x<9223372036854775808) (h3:-9223372036854775808<=y) (h4:y<9223372036854775808) (w:World)  :Calls prog 56 #[(vI x),(vI y)] w (Av w (aG (Aj (⟨((x:Int):Rat),((y:Int):Rat)⟩:Pt)))):=by
 refine Ag (args:=[(vI x),(vI y)]) func56 O O (Ab O) (AF.subF (sL [0,1] O) (q4 (al Dq O λb1=>AE.nil (q2 ?_))))
 refine AR O (BW call25 (J3 x Z Z) O (AR O (BW call25 (J3 y Z Z) O (AI (v:=(aG (AH ((x:Int):Rat)++AH ((y:Int):Rat)))) (Ad (zs:=Aj (⟨0,0⟩:Pt)) (vs:=AH ((x:Int):Rat)++AH ((y:Int):Rat)) (pv:=[(0,(aG (AH ((x:Int):Rat)))),(1,(aG (AH ((y:Int):Rat))))]) (places:=[(0,5),(5,5)]) zeroValue55 underlying55 (λw=>by simp [sizeOf53]) O (B7 ((x:Int):Rat) ((y:Int):Rat))) O (Aq O sizeOf55 O ?_)))))
 exact AE.nil (AC.subF (sL [4] O) (AC.then_ (AF.ret (AT O (A7 (i:=0) (cs:=AH ((x:Int):Rat)++AH ((y:Int):Rat)) O O isAgg55 sizeOf55 O) (λw hw=>⟨by rw [Yb],hw.out⟩)))))
end
section
set_option maxRecDepth 100000
theorem PT (x y:Int) (h1:-9223372036854775808<=x) (h2:x<9223372036854775808) (h3:-9223372036854775808<=y) (h4:y<9223372036854775808) (hy:y≠0) (w:World)  :Calls prog 152 #[(vI x),(vI y)] w (Av w (Value.tuple #[(aG (AH (((x:Int):Rat)/((y:Int):Rat)))),(vI 0)])):=by
 have hb:((y:Int):Rat)≠0:=λe=>hy (by exact_mod_cast e)
 have s1:=M9 h1 h2
 have s2:=M9 h3 h4
 refine Ag (args:=[(vI x),(vI y)]) func152 O O (Ab O) (AF.subF (sL [0,1] O) (q4 (al DL O λb1=>AO O (AE.nil ?_))))
 refine q2 (AR O (BW call25 (J3 x Z Z) O (AR O (BW call25 (J3 y Z Z) O ?_))))
 have hz1:=LZ (a:=((x:Int):Rat)) (b:=((y:Int):Rat)) (by assumption)
 refine BW call66 (Jp ((x:Int):Rat) ((y:Int):Rat) Z (by assumption)) O (AI (AU (v:=(aG (AH (((x:Int):Rat)/((y:Int):Rat))))) O O) O (AI (AU (v:=(vI 0)) O O) O (Aq O sizeOf53 O (AO O (AE.nil ?_)))))
 exact AC.subF (sL [4,5] O) (AC.then_ (AF.ret (DF O (A7 (i:=0) (cs:=AH (((x:Int):Rat)/((y:Int):Rat))) O O isAgg53 sizeOf53 O) (Ak (v:=(vI 0)) O) (λw hw=>⟨rfl,hw.out⟩))))
theorem S0  (w:World)  :Calls prog 174 #[] w (Av w (aG (AH ((1:Rat)/2)))):=by
 refine Ag (args:=[]) func174 O O (Ab O) (AF.subF sN (q4 (al DL O λb1=>AE.nil (q2 ?_))))
 refine BW call152 (PT (1:Int) (2:Int) Z Z Z Z Z) O (AR O (AI (AU (v:=(aG (AH (((1:Int):Rat)/((2:Int):Rat))))) O O) O (AE.retell (k:=5) (u:=(aG (AH ((1:Rat)/2)))) O (by rw [Ql]) (AI (AU (v:=(vI 0)) O O) O (al DL O λb2=>?_)))))
 refine Aq O sizeOf53 O (AO O (q3 (sL [0,1] O) (A6 0 BP O (Cq O sizeOf53 O (AE.nil ?_)))))
 exact AC.subF (sL [0,1] O) (AC.then_ (AF.ret (AT O (A7 (i:=1) (cs:=AH ((1:Rat)/2)) O O isAgg53 sizeOf53 O) (λw hw=>⟨rfl,hw.out⟩))))
theorem WN (a b:Pt) (hs:B5 a+B5 b<=17179869184) (w:World)  :Calls prog 121 #[(aG (Aj a)),(aG (Aj b))] w (Av w (aG (Aj (Cb (a+b) (1/2))))):=by
 have sh:=Jz
 refine Ag (args:=[(aG (Aj a)),(aG (Aj b))]) func121 O O (Ab O) (AF.subF (sL [0,1] O) (q4 (Bo (cs:=Aj a) O λb1=>Bo (cs:=Aj b) O λb2=>al Dq O λb3=>?_)))
 refine q3 (sL [2,3,4] O) (A6 2 BG O (A6 1 BG O ?_))
 have hz1:=Na a b
 refine BW call173 (V9 a b Z) O (BW call174 (S0) O ?_)
 have hz2:=Id (a+b) ((1:Rat)/2)
 exact BW call172 (Rf (a+b) ((1:Rat)/2) Z) O (Aq O sizeOf55 O (AE.nil (AC.subF (sL [4] O) (AC.then_ (AF.ret (AT O (A7 (i:=0) (cs:=Aj (Cb (a+b) ((1:Rat)/2))) O O isAgg55 sizeOf55 O) (λw hw=>⟨rfl,hw.out⟩)))))))
theorem UC (x:Rat) (hs:Sz x<=137438953472) (w:World)  :Calls prog 74 #[(aG (AH x))] w (Av w (aG (AH (x*(1/2))))):=by
 have sh:=Jz
 refine Ag (args:=[(aG (AH x))]) func74 O O (Ab O) (AF.subF (sL [0] O) (q4 (Bo (cs:=AH x) O λb1=>al DL O λb2=>q3 (sL [1,2] O) ?_)))
 refine BW call152 (PT (1:Int) (2:Int) Z Z Z Z Z) O (AR O (AI (AU (v:=(aG (AH (((1:Int):Rat)/((2:Int):Rat))))) O O) O (AE.retell (k:=7) (u:=(aG (AH ((1:Rat)/2)))) O (by rw [Ql]) (AI (AU (v:=(vI 0)) O O) O (al DL O λb3=>?_)))))
 refine Aq O sizeOf53 O (AO O (q3 (sL [1,2,3] O) (A6 2 BP O (A6 0 BP O ?_))))
 have hz1:=DM x ((1:Rat)/2)
 exact BW call24 (IG x ((1:Rat)/2) (by (try simp only [Dc]);omega)) O (Cq O sizeOf53 O (AE.nil (AC.subF (sL [2,3] O) (AC.then_ (AF.ret (AT O (A7 (i:=1) (cs:=AH (x*((1:Rat)/2))) O O isAgg53 sizeOf53 O) (λw hw=>⟨rfl,hw.out⟩)))))))
theorem D7 (a b c:Pt) (hs:B5 a+B5 b+B5 c<=8589934592) (w:World)  :Calls prog 64 #[(aG (Aj a)),(aG (Aj b)),(aG (Aj c))] w (Av w (aG (AH (AJ a b c)))):=by
 refine Ag (args:=[(aG (Aj a)),(aG (Aj b)),(aG (Aj c))]) func64 O O (Ab O) (AF.subF (sL [0,1,2] O) (q4 (Bo (cs:=Aj a) O λb1=>Bo (cs:=Aj b) O λb2=>Bo (cs:=Aj c) O λb3=>?_)))
 refine al DL O λb4=>q6 (sL [3,4,5,6] O) (Cu [(0,true),(1,true),(3,true),(4,true),(2,false),(5,false),(6,false),(7,false)] (sl sr) (EW 1 BG O (EW 2 BG O (EW 0 BG O ?_))))
 refine EW 2 BG O (AV.imp O ?_)
 have hz1:=HL b a
 refine BW call92 (Jm b a Z) O (AV.back (sl sr) (AV.imp O ?_))
 have hz2:=HL c a
 refine BW call92 (Jm c a Z) O (AV.back (sl sr) (AV.imp O ?_))
 have hz3:=KZ (b-a) (c-a)
 refine BW call43 (Mu (b-a) (c-a) Z) O (AV.back (sl sr) (AV.imp O (Aq O sizeOf53 O (AV.back (sl sr) (AV.nil ?_)))))
 exact AC.subF (sL [6] O) (AC.then_ (AF.ret (AT O (A7 (i:=0) (cs:=AH (In (b-a) (c-a))) O O isAgg53 sizeOf53 O) (λw hw=>⟨rfl,hw.out⟩))))
theorem IR (a b c:Pt) (hs:B5 a+B5 b+B5 c<=8589934592) (w:World)  :Calls prog 26 #[(aG (Aj a)),(aG (Aj b)),(aG (Aj c))] w (Av w (aG (AH (AJ a b c*(1/2))))):=by
 refine Ag (args:=[(aG (Aj a)),(aG (Aj b)),(aG (Aj c))]) func26 O O (Ab O) (AF.subF (sL [0,1,2] O) (q4 (Bo (cs:=Aj a) O λb1=>Bo (cs:=Aj b) O λb2=>Bo (cs:=Aj c) O λb3=>?_)))
 refine al DL O λb4=>q3 (sL [3,4,5,6] O) (A6 3 BG O (A6 2 BG O (A6 1 BG O ?_)))
 have hz1:=C1 a b c
 refine BW call64 (D7 a b c Z) O ?_
 have hz2:=DM (AJ a b c) (1/2)
 exact BW call74 (UC (AJ a b c) Z) O (Aq O sizeOf53 O (AE.nil (AC.subF (sL [6] O) (AC.then_ (AF.ret (AT O (A7 (i:=0) (cs:=AH ((AJ a b c)*(1/2))) O O isAgg53 sizeOf53 O) (λw hw=>⟨rfl,hw.out⟩)))))))
end
section
set_option maxRecDepth 100000
theorem Ca (x0:Rat) (x1:Rat) (x2:Rat):Instr.fill (λi=>some (i*5,5)) (AH (0:Rat)++AH (0:Rat)++AH (0:Rat)).toArray [(0,.agg (AH x0).toArray),(1,.agg (AH x1).toArray),(2,.agg (AH x2).toArray)]=some (AH x0++AH x1++AH x2).toArray:=by kernel_rfl
theorem Vi (a b c p:Pt) (hs:B5 a+B5 b+B5 c+B5 p<=268435456) (h:AJ a b c≠0) (w:World)  :Calls prog 62 #[(aG (Aj a)),(aG (Aj b)),(aG (Aj c)),(aG (Aj p))] w (Av w (Value.tuple #[(aG (AH (AJ p b c/AJ a b c)++AH (AJ a p c/AJ a b c)++AH (AJ a b p/AJ a b c))),(vI 0)])):=by
 refine Ag (args:=[(aG (Aj a)),(aG (Aj b)),(aG (Aj c)),(aG (Aj p))]) func62 O O (Ab O) (AF.subF (sL [0,1,2,3] O) (q4 (Bo (cs:=Aj a) O λb1=>Bo (cs:=Aj b) O λb2=>Bo (cs:=Aj c) O λb3=>?_)))
 refine Bo (cs:=Aj p) O λb4=>al L9 O λb5=>AO O (q3 (sL [4,5,6,7,8,9] O) (A6 4 BG O (A6 3 BG O ?_)))
 refine A6 2 BG O ?_
 have hz1:=C1 a b c
 refine BW call64 (D7 a b c Z) O (al DL O λb6=>Aq O sizeOf53 O (q6 (sL [4,5,6,7,8,9,10] O) (rN [(0,true),(1,true),(2,true),(4,true),(5,true),(6,true),(8,true),(9,true),(10,true),(3,false),(7,false),(11,false),(12,true)] [⟨13,11,123,AH (0:Rat)++AH (0:Rat)++AH (0:Rat)⟩] [(14,false)] sr (by kernel_rfl) (λ_ _ d _ _ h=>by cases d<;>exact h) (Fb O O L9 O (IU)) O (H0 2 BG O ?_))))
 refine H0 4 BG O (H0 3 BG O (H0 5 BG O (H0 2 BG O (H0 3 BG O (H0 5 BG O ?_)))))
 refine H0 4 BG O (H0 2 BG O (CS.imp O λEF EL=>?_))
 have hz2:=C1 p b c
 refine BW call64 (D7 p b c Z) O (CS.back0 sr O (CS.imp O λEF EL=>?_))
 have hz3:=C1 a p c
 refine BW call64 (D7 a p c Z) O (CS.back0 sr O (CS.imp O λEF EL=>?_))
 have hz4:=C1 a b p
 refine BW call64 (D7 a b p Z) O (CS.back0 sr O (GA (v:=(aG (AH (AJ p b c)++AH (AJ a p c)++AH (AJ a b p)))) O (Ao (zs:=AH (0:Rat)++AH (0:Rat)++AH (0:Rat)) (vs:=AH (AJ p b c)++AH (AJ a p c)++AH (AJ a b p)) (pv:=[(0,(aG (AH (AJ p b c)))),(1,(aG (AH (AJ a p c)))),(2,(aG (AH (AJ a b p))))]) zeroValue123 underlying123 sizeOf53 O (Ca (AJ p b c) (AJ a p c) (AJ a b p))) O (CS.news1 λb7=>AV.imp O (Aq O sizeOf123 O ?_))))
 refine AV.back (sl sr) (AV.nil (AC.subF (sL [4,5,6,8,9,10,11] O) (q1 (q4 (AR O ?_)))))
 refine AE.nil (AC.then_ (AF.block (AF.unroll 5 (GC.step (q4 ?_)))))
 refine AI (Am (c:=true) O O (by decide)) O (AE.nil (q1 (AF.cond_true O (AF.skip (q1 ?_)))))
 refine AF.block (q4 (AR O (AO O (q6 (sL [4,5,6,8,9,10,11,32,12] O) (rN [(0,true),(1,true),(2,true),(3,true),(4,false),(5,true),(6,true),(7,true)] [⟨8,13,53,AH (0:Rat)⟩] [(9,false),(10,true)] sr (by kernel_rfl) (λ_ _ d _ _ h=>by cases d<;>exact h) (Fb O O DL O (IU)) O ?_)))))
 refine Ll O (GA (v:=(pP b7 0)) O (AD (j:=0) O O underlying123 sizeOf53 O (by decide) O) O (VE 0 (AH (AJ p b c)) BP O (H0 1 BP O (CS.imp O λEF EL=>?_))))
 have hz5:=LZ (a:=AJ p b c) (b:=AJ a b c) (by assumption)
 refine BW call66 (Jp (AJ p b c) (AJ a b c) Z (by assumption)) O (CS.back0 sr O (Ll O (GA O (AU (v:=(aG (AH ((AJ p b c)/(AJ a b c))))) O O) O (GA O (AU (v:=(vI 0)) O O) O (CS.news1 λb8=>?_)))))
 refine AV.imp O (Aq O sizeOf53 O (AV.back (sl sr) (Ev O (AV.nil (AC.subF (sL [4,5,6,8,9,10,11,32,12,13,14] O) ?_)))))
 refine q1 (q4 (AR O (AI (CL (c:=false) O O (by decide)) O (AE.nil (AC.subF (sL [4,5,6,8,9,10,11,32,12,13,44] O) ?_)))))
 refine AC.then_ (AF.cond_false O (AF.skip (AC.then_ (AF.region (AR O ?_)))))
 refine A6 0 BP O (AI (v:=(pP b7 0)) (AD (j:=0) O O underlying123 sizeOf53 O (by decide) O) O (Eu 1 (off:=0) (vs:=AH ((AJ p b c)/(AJ a b c))) (cs':=AH ((AJ p b c)/(AJ a b c))++AH (AJ a p c)++AH (AJ a b p)) (AM O) O sizeOf53 O (AE.nil (AC.subF (sL [4,5,6,8,9,10,11,32,12,13] O) (AC.in_normal ?_)))))
 refine AC.then_ (AF.region (AI (AY (c:=(1:Int)) O O (by decide)) O (AR O (AE.nil (AC.subF (sL [4,5,6,8,9,10,11,32,12,13] O) ?_)))))
 refine AC.again (GC.step (q4 (AI (Am (c:=true) O O (by decide)) O (AE.nil (q1 ?_)))))
 refine AF.cond_true O (AF.skip (q1 (AF.block (q4 (AR O ?_)))))
 refine AO O (q6 (sL [4,5,6,8,9,10,11,32,12,13] O) (AF.subF (sL [4,5,6,8,9,10,11,32,12] O) (rN [(0,true),(1,true),(2,true),(3,true),(4,false),(5,true),(6,true),(7,true)] [⟨8,13,53,AH (0:Rat)⟩] [(9,false),(10,true)] sr (by kernel_rfl) (λ_ _ d _ _ h=>by cases d<;>exact h) (Fb O O DL O (IU)) O (Ll O (GA (v:=(pP b7 5)) O (AD (j:=1) O O underlying123 sizeOf53 O (by decide) O) O ?_)))))
 refine VE 1 (AH (AJ a p c)) BP O (H0 2 BP O (CS.imp O λEF EL=>?_))
 have hz6:=LZ (a:=AJ a p c) (b:=AJ a b c) (by assumption)
 refine BW call66 (Jp (AJ a p c) (AJ a b c) Z (by assumption)) O (CS.back0 sr O (Ll O (GA O (AU (v:=(aG (AH ((AJ a p c)/(AJ a b c))))) O O) O (GA O (AU (v:=(vI 0)) O O) O (CS.news1 λb9=>?_)))))
 refine AV.imp O (Aq O sizeOf53 O (AV.back (sl sr) (Ev O (AV.nil (AC.subF (sL [4,5,6,8,9,10,11,32,12,13,14] O) ?_)))))
 refine q1 (q4 (AR O (AI (CL (c:=false) O O (by decide)) O (AE.nil (AC.subF (sL [4,5,6,8,9,10,11,32,12,13,44] O) ?_)))))
 refine AC.then_ (AF.cond_false O (AF.skip (AC.then_ (AF.region (AR O ?_)))))
 refine A6 0 BP O (AI (v:=(pP b7 5)) (AD (j:=1) O O underlying123 sizeOf53 O (by decide) O) O (Eu 2 (off:=5) (vs:=AH ((AJ a p c)/(AJ a b c))) (cs':=AH ((AJ p b c)/(AJ a b c))++AH ((AJ a p c)/(AJ a b c))++AH (AJ a b p)) (AM O) O sizeOf53 O (AE.nil (AC.subF (sL [4,5,6,8,9,10,11,32,12,13] O) (AC.in_normal ?_)))))
 refine AC.then_ (AF.region (AI (AY (c:=(2:Int)) O O (by decide)) O (AR O (AE.nil (AC.subF (sL [4,5,6,8,9,10,11,32,12,13] O) ?_)))))
 refine AC.again (GC.step (q4 (AI (Am (c:=true) O O (by decide)) O (AE.nil (q1 ?_)))))
 refine AF.cond_true O (AF.skip (q1 (AF.block (q4 (AR O ?_)))))
 refine AO O (q6 (sL [4,5,6,8,9,10,11,32,12,13] O) (AF.subF (sL [4,5,6,8,9,10,11,32,12] O) (rN [(0,true),(1,true),(2,true),(3,true),(4,false),(5,true),(6,true),(7,true)] [⟨8,13,53,AH (0:Rat)⟩] [(9,false),(10,true)] sr (by kernel_rfl) (λ_ _ d _ _ h=>by cases d<;>exact h) (Fb O O DL O (IU)) O (Ll O (GA (v:=(pP b7 10)) O (AD (j:=2) O O underlying123 sizeOf53 O (by decide) O) O ?_)))))
 refine VE 2 (AH (AJ a b p)) BP O (H0 3 BP O (CS.imp O λEF EL=>?_))
 have hz7:=LZ (a:=AJ a b p) (b:=AJ a b c) (by assumption)
 refine BW call66 (Jp (AJ a b p) (AJ a b c) Z (by assumption)) O (CS.back0 sr O (Ll O (GA O (AU (v:=(aG (AH ((AJ a b p)/(AJ a b c))))) O O) O (GA O (AU (v:=(vI 0)) O O) O (CS.news1 λb10=>?_)))))
 refine AV.imp O (Aq O sizeOf53 O (AV.back (sl sr) (Ev O (AV.nil (AC.subF (sL [4,5,6,8,9,10,11,32,12,13,14] O) ?_)))))
 refine q1 (q4 (AR O (AI (CL (c:=false) O O (by decide)) O (AE.nil (AC.subF (sL [4,5,6,8,9,10,11,32,12,13,44] O) ?_)))))
 refine AC.then_ (AF.cond_false O (AF.skip (AC.then_ (AF.region (AR O ?_)))))
 refine A6 0 BP O (AI (v:=(pP b7 10)) (AD (j:=2) O O underlying123 sizeOf53 O (by decide) O) O (Eu 3 (off:=10) (vs:=AH ((AJ a b p)/(AJ a b c))) (cs':=AH ((AJ p b c)/(AJ a b c))++AH ((AJ a p c)/(AJ a b c))++AH ((AJ a b p)/(AJ a b c))) (AM O) O sizeOf53 O (AE.nil (AC.subF (sL [4,5,6,8,9,10,11,32,12,13] O) (AC.in_normal ?_)))))
 refine AC.then_ (AF.region (AI (AY (c:=(3:Int)) O O (by decide)) O (AR O (AE.nil (AC.subF (sL [4,5,6,8,9,10,11,32,12,13] O) ?_)))))
 refine AC.again (GC.step (q4 (AI (Am (c:=false) O O (by decide)) O (AE.nil (q1 ?_)))))
 refine AF.cond_false O (AF.exit (AC.then_exit (AC.then_exit (AC.in_exit (q2 ?_)))))
 refine A6 3 Y9 O (Eu 5 (off:=0) (vs:=AH ((AJ p b c)/(AJ a b c))++AH ((AJ a p c)/(AJ a b c))++AH ((AJ a b p)/(AJ a b c))) (cs':=AH ((AJ p b c)/(AJ a b c))++AH ((AJ a p c)/(AJ a b c))++AH ((AJ a b p)/(AJ a b c))) (AM O) O sizeOf123 O (AO O (AE.nil (AC.subF (sL [4,5,6,8,9,10,11,32,12,13] O) (AC.then_ ?_)))))
 exact AF.ret (DF O (A7 (i:=5) (cs:=AH ((AJ p b c)/(AJ a b c))++AH ((AJ a p c)/(AJ a b c))++AH ((AJ a b p)/(AJ a b c))) O O isAgg123 sizeOf123 O) (Ak (v:=(vI 0)) O) (λw hw=>⟨rfl,hw.out⟩))
theorem Kn  :Instr.fill (λi=>some (i*5,5)) (AH (0:Rat)++AH (0:Rat)++AH (0:Rat)).toArray []=some (AH (0:Rat)++AH (0:Rat)++AH (0:Rat)).toArray:=by kernel_rfl
theorem UA (a b c p:Pt) (hs:B5 a+B5 b+B5 c+B5 p<=268435456) (h:AJ a b c=0) (w:World)  :Calls prog 62 #[(aG (Aj a)),(aG (Aj b)),(aG (Aj c)),(aG (Aj p))] w (Av w (Value.tuple #[(aG (AH (0:Rat)++AH (0:Rat)++AH (0:Rat))),(vI 1)])):=by
 refine Ag (args:=[(aG (Aj a)),(aG (Aj b)),(aG (Aj c)),(aG (Aj p))]) func62 O O (Ab O) (AF.subF (sL [0,1,2,3] O) (q4 (Bo (cs:=Aj a) O λb1=>Bo (cs:=Aj b) O λb2=>Bo (cs:=Aj c) O λb3=>?_)))
 refine Bo (cs:=Aj p) O λb4=>al L9 O λb5=>AO O (q3 (sL [4,5,6,7,8,9] O) (A6 4 BG O (A6 3 BG O ?_)))
 refine A6 2 BG O ?_
 have hz1:=C1 a b c
 refine BW call64 (D7 a b c Z) O (al DL O λb6=>Aq O sizeOf53 O (q6 (sL [4,5,6,7,8,9,10] O) (rN [(0,true),(1,true),(2,true),(4,true),(5,true),(6,true),(8,true),(9,true),(10,true),(3,false),(7,false),(11,false),(12,true)] [⟨13,11,123,AH (0:Rat)++AH (0:Rat)++AH (0:Rat)⟩] [(14,false)] sr (by kernel_rfl) (λ_ _ d _ _ h=>by cases d<;>exact h) (Fb O O L9 O (IU)) O (H0 2 BG O ?_))))
 refine H0 4 BG O (H0 3 BG O (H0 5 BG O (H0 2 BG O (H0 3 BG O (H0 5 BG O ?_)))))
 refine H0 4 BG O (H0 2 BG O (CS.imp O λEF EL=>?_))
 have hz2:=C1 p b c
 refine BW call64 (D7 p b c Z) O (CS.back0 sr O (CS.imp O λEF EL=>?_))
 have hz3:=C1 a p c
 refine BW call64 (D7 a p c Z) O (CS.back0 sr O (CS.imp O λEF EL=>?_))
 have hz4:=C1 a b p
 refine BW call64 (D7 a b p Z) O (CS.back0 sr O (GA (v:=(aG (AH (AJ p b c)++AH (AJ a p c)++AH (AJ a b p)))) O (Ao (zs:=AH (0:Rat)++AH (0:Rat)++AH (0:Rat)) (vs:=AH (AJ p b c)++AH (AJ a p c)++AH (AJ a b p)) (pv:=[(0,(aG (AH (AJ p b c)))),(1,(aG (AH (AJ a p c)))),(2,(aG (AH (AJ a b p))))]) zeroValue123 underlying123 sizeOf53 O (Ca (AJ p b c) (AJ a p c) (AJ a b p))) O (CS.news1 λb7=>AV.imp O (Aq O sizeOf123 O ?_))))
 refine AV.back (sl sr) (AV.nil (AC.subF (sL [4,5,6,8,9,10,11] O) (q1 (q4 (AR O ?_)))))
 refine AE.nil (AC.then_ (AF.block (AF.unroll 5 (GC.step (q4 ?_)))))
 refine AI (Am (c:=true) O O (by decide)) O (AE.nil (q1 (AF.cond_true O (AF.skip (q1 ?_)))))
 refine AF.block (q4 (AR O (AO O (q6 (sL [4,5,6,8,9,10,11,32,12] O) (rN [(0,true),(1,true),(2,true),(3,true),(4,false),(5,true),(6,true),(7,true)] [⟨8,13,53,AH (0:Rat)⟩] [(9,false),(10,true)] sr (by kernel_rfl) (λ_ _ d _ _ h=>by cases d<;>exact h) (Fb O O DL O (IU)) O ?_)))))
 refine Ll O (GA (v:=(pP b7 0)) O (AD (j:=0) O O underlying123 sizeOf53 O (by decide) O) O (VE 0 (AH (AJ p b c)) BP O (H0 1 BP O (CS.imp O λEF EL=>Ew (args:=[(aG (AH (AJ p b c))),(aG (AH (AJ a b c)))]) (v:=(Value.tuple #[(aG (AH (0:Rat))),(vI 5)])) call66 (λw hw=>(by rw [h];exact TM _ w)) O ?_))))
 refine CS.back0 sr O (Ll O (GA O (AU (v:=(aG (AH (0:Rat)))) O O) O (GA O (AU (v:=(vI 5)) O O) O (CS.news1 λb8=>AV.imp O ?_))))
 refine Aq O sizeOf53 O (AV.back (sl sr) (Ev O (AV.nil (AC.subF (sL [4,5,6,8,9,10,11,32,12,13,14] O) (q1 ?_)))))
 refine q4 (AR O (AI (CL (c:=true) O O (by decide)) O (AE.nil (AC.subF (sL [4,5,6,8,9,10,11,32,12,13,44] O) (AC.then_ ?_)))))
 refine AF.cond_true O (q4 (AI (v:=(aG (AH (0:Rat)++AH (0:Rat)++AH (0:Rat)))) (Ao (zs:=AH (0:Rat)++AH (0:Rat)++AH (0:Rat)) (vs:=AH (0:Rat)++AH (0:Rat)++AH (0:Rat)) (pv:=[]) zeroValue123 underlying123 sizeOf53 O (Kn )) O (Ka O sizeOf123 O (AO O (AE.nil ?_)))))
 refine AC.subF (sL [4,5,6,8,9,10,11,32,12,13] O) (AC.then_ (AF.ret (AC.then_ret (AC.in_ret (AC.then_ret ?_)))))
 exact AC.then_ret (AC.in_ret (AC.then_ret (DF O (A7 (i:=3) (cs:=AH (0:Rat)++AH (0:Rat)++AH (0:Rat)) O O isAgg123 sizeOf123 O) (Ak (v:=(vI 1)) O) (λw hw=>⟨rfl,hw.out⟩))))
end
def zq (q:Rat):Nat:=if q.num.sign=0 then 1 else 0
def GG (x y z:Rat):Nat:=if x.num.sign = -1\/y.num.sign = -1\/z.num.sign = -1 then 0 else 1+zq x+zq y+zq z
theorem Pb {x y z:Rat} (h:x.num.sign = -1):GG x y z=0:=if_pos (.inl h)
theorem PK {x y z:Rat} (h:y.num.sign = -1):GG x y z=0:=if_pos (.inr (.inl h))
theorem PU {x y z:Rat} (h:z.num.sign = -1):GG x y z=0:=if_pos (.inr (.inr h))
theorem Tj {x y z:Rat} (h1:¬x.num.sign = -1) (h2:¬y.num.sign = -1) (h3:¬z.num.sign = -1):GG x y z=1+zq x+zq y+zq z:=if_neg (by simp [h1,h2,h3])
theorem O3 {x:Rat} (h:x.num.sign=0):zq x=1:=if_pos h
theorem Nq {x:Rat} (h:¬x.num.sign=0):zq x=0:=if_neg h
theorem To (x:Rat):zq x<=1:=by unfold zq;split<;>omega
section
set_option maxRecDepth 100000
end
section
set_option maxRecDepth 100000
end
section
set_option maxRecDepth 100000
set_option maxHeartbeats 2000000 in
theorem U8 (a b c p:Pt) (hs:B5 a+B5 b+B5 c+B5 p<=268435456) (h:AJ a b c≠0) (w:World)  :Calls prog 22 #[(aG (Aj a)),(aG (Aj b)),(aG (Aj c)),(aG (Aj p))] w (Av w (vN (GG (AJ p b c/AJ a b c) (AJ a p c/AJ a b c) (AJ a b p/AJ a b c)))):=by
 obtain ⟨l0,hl0⟩:∃l,l=AJ p b c/AJ a b c:=⟨_,rfl⟩
 obtain ⟨l1,hl1⟩:∃l,l=AJ a p c/AJ a b c:=⟨_,rfl⟩
 obtain ⟨l2,hl2⟩:∃l,l=AJ a b p/AJ a b c:=⟨_,rfl⟩
 refine Ag (args:=[(aG (Aj a)),(aG (Aj b)),(aG (Aj c)),(aG (Aj p))]) func22 O O (Ab O) (AF.subF (sL [0,1,2,3] O) (q4 (Bo (cs:=Aj a) O λb1=>Bo (cs:=Aj b) O λb2=>Bo (cs:=Aj c) O λb3=>?_)))
 refine Bo (cs:=Aj p) O λb4=>AO O (q3 (sL [4,5,6,7,8] O) (A6 3 BG O (A6 2 BG O (A6 1 BG O ?_))))
 refine A6 0 BG O (Ew (args:=[(aG (Aj a)),(aG (Aj b)),(aG (Aj c)),(aG (Aj p))]) (v:=(Value.tuple #[(aG (AH l0++AH l1++AH l2)),(vI 0)])) call62 (λw hw=>(by rw [hl0,hl1,hl2];exact Vi a b c p Z h w)) O (AR O (AI (AU (v:=(aG (AH l0++AH l1++AH l2))) O O) O (AI (AU (v:=(vI 0)) O O) O (al L9 O λb5=>?_)))))
 refine Aq O sizeOf123 O (AO O (q6 (sL [8,9,10] O) (q4 (AR O (AI (CL (c:=false) O O (by decide)) O ?_)))))
 refine AE.nil (AC.subF (sL [8,9,22] O) (AC.then_ (AF.cond_false O (AF.skip (q2 ?_)))))
 refine AO O (q6 (sL [8,9,11] O) (q4 (AR O (AE.nil (AC.then_ ?_)))))
 refine AF.block (AF.unroll 5 (GC.step (q4 (AI (Am (c:=true) O O (by decide)) O (AE.nil ?_)))))
 refine q1 (AF.cond_true O (AF.skip (q1 (AF.block (q4 ?_)))))
 refine AR O (AO O (q3 (sL [8,9,11,23,12] O) (AR O (AI (v:=(pP b5 0)) (AD (j:=0) O O underlying123 sizeOf53 O (by decide) O) O (EX 0 (AH l0) BP O ?_)))))
 refine BW call63 (FX l0) O (AE.nil (AC.subF (sL [8,9,11,23,29] O) (AC.then_ ?_)))
 refine AF.jn1 (tg λ(pl0:Nat)=>pl0=1+zq l0/\¬l0.num.sign = -1) (tg λ(pl0:Nat)=>[(9,(pP b5 0)),(23,(vI 0)),(11,(vN pl0))]) (tg λ(pl0:Nat)=>[Af b5 123 (AH l0++AH l1++AH l2),Af b4 55 (Aj p),Af b3 55 (Aj c),Af b2 55 (Aj b),Af b1 55 (Aj a)]) ?_ ?_
 ·skip
  refine AF.block (q4 (AI (BS (c:=(decide (l0.num.sign=(-1:Int)))) O O O) O (AO O (AE.nil (AC.subF (sL [8,9,11,23,29,30] O) ?_)))))
  refine AC.then_ ?_
  refine AF.cond O (λhc2=>?_) (λhc2=>?_)
  ·replace hc2:=of_decide_eq_true hc2
   have hz:=Pb (x:=l0) (y:=l1) (z:=l2) hc2
   refine q4 (AO O (AE.nil (AC.then_ (AF.ret (AC.in_ret ?_)))))
   exact AC.join1_ret (AC.in_ret (AC.then_ret (AC.then_ret (AC.in_ret (AC.then_ret (AT O (Ak (v:=(vI 0)) O) (λw hw=>⟨by rw [<-hl0,<-hl1,<-hl2,hz];rfl,hw.out⟩)))))))
  ·replace hc2:=of_decide_eq_false hc2
   refine q4 (AI (BS (c:=(decide (l0.num.sign=(0:Int)))) O O O) O (AO O (AE.nil (AC.subF (sL [8,9,11,23,29,32] O) (AC.then_ ?_)))))
   refine AF.cond O (λhc3=>?_) (λhc3=>?_)
   ·replace hc3:=of_decide_eq_true hc3
    refine AF.region (AR O (AI (AY (c:=(2:Int)) O O (by decide)) O (AO O (AE.nil (AC.subF (sL [8,9,11,23,29] O) ?_)))))
    exact AC.in_normal (AC.join1 2 (⟨by simp [O3 hc3],hc2⟩) (sF O) sr)
   ·replace hc3:=of_decide_eq_false hc3
    exact AF.skip (AC.in_normal (AC.join1 1 (⟨by simp [Nq hc3],hc2⟩) (sF O) sr))
 ·intro pl0 hJ
  obtain ⟨e0,n0⟩:=hJ
  have zz0:=To l0
  refine AC.in_normal (AC.then_ (AF.region (AI (AY (c:=(1:Int)) O O (by decide)) O (AR O (AE.nil ?_)))))
  refine AC.subF (sL [9,23,11] O) (AC.again (GC.step (q4 (AI (Am (c:=true) O O (by decide)) O (AE.nil ?_)))))
  refine q1 (AF.cond_true O (AF.skip (q1 (AF.block (q4 ?_)))))
  refine AR O (AO O (q3 (sL [9,23,11,12] O) (AR O (AI (v:=(pP b5 5)) (AD (j:=1) O O underlying123 sizeOf53 O (by decide) O) O (EX 0 (AH l1) BP O ?_)))))
  refine BW call63 (FX l1) O (AE.nil (AC.subF (sL [9,23,11,29] O) (AC.then_ ?_)))
  refine AF.jn1 (tg λ(pl1:Nat)=>pl1=pl0+zq l1/\¬l1.num.sign = -1) (tg λ(pl1:Nat)=>[(9,(pP b5 0)),(23,(vI 1)),(11,(vN pl1))]) (tg λ(pl1:Nat)=>[Af b5 123 (AH l0++AH l1++AH l2),Af b4 55 (Aj p),Af b3 55 (Aj c),Af b2 55 (Aj b),Af b1 55 (Aj a)]) ?_ ?_
  ·skip
   refine AF.block (q4 (AI (BS (c:=(decide (l1.num.sign=(-1:Int)))) O O O) O (AO O (AE.nil (AC.subF (sL [9,23,11,29,30] O) ?_)))))
   refine AC.then_ ?_
   refine AF.cond O (λhc2=>?_) (λhc2=>?_)
   ·replace hc2:=of_decide_eq_true hc2
    have hz:=PK (x:=l0) (y:=l1) (z:=l2) hc2
    refine q4 (AO O (AE.nil (AC.then_ (AF.ret (AC.in_ret ?_)))))
    exact AC.join1_ret (AC.in_ret (AC.then_ret (AC.then_ret (AC.in_ret (AC.then_ret (AT O (Ak (v:=(vI 0)) O) (λw hw=>⟨by rw [<-hl0,<-hl1,<-hl2,hz];rfl,hw.out⟩)))))))
   ·replace hc2:=of_decide_eq_false hc2
    refine q4 (AI (BS (c:=(decide (l1.num.sign=(0:Int)))) O O O) O (AO O (AE.nil (AC.subF (sL [9,23,11,29,32] O) (AC.then_ ?_)))))
    refine AF.cond O (λhc3=>?_) (λhc3=>?_)
    ·replace hc3:=of_decide_eq_true hc3
     refine AF.region (AR O (AI (AY (c:=((pl0+1:Nat):Int)) O O (AX (a:=pl0) (b:=1) Z)) O (AO O (AE.nil (AC.subF (sL [9,23,11,29] O) ?_)))))
     exact AC.in_normal (AC.join1 (pl0+1) (⟨by simp [O3 hc3],hc2⟩) (sF O) sr)
    ·replace hc3:=of_decide_eq_false hc3
     exact AF.skip (AC.in_normal (AC.join1 pl0 (⟨by simp [Nq hc3],hc2⟩) (sF O) sr))
  ·intro pl1 hJ
   obtain ⟨e1,n1⟩:=hJ
   have zz1:=To l1
   refine AC.in_normal (AC.then_ (AF.region (AI (AY (c:=(2:Int)) O O (by decide)) O (AR O (AE.nil ?_)))))
   refine AC.subF (sL [9,23,11] O) (AC.again (GC.step (q4 (AI (Am (c:=true) O O (by decide)) O (AE.nil ?_)))))
   refine q1 (AF.cond_true O (AF.skip (q1 (AF.block (q4 ?_)))))
   refine AR O (AO O (q3 (sL [9,23,11,12] O) (AR O (AI (v:=(pP b5 10)) (AD (j:=2) O O underlying123 sizeOf53 O (by decide) O) O (EX 0 (AH l2) BP O ?_)))))
   refine BW call63 (FX l2) O (AE.nil (AC.subF (sL [9,23,11,29] O) (AC.then_ ?_)))
   refine AF.jn1 (tg λ(pl2:Nat)=>pl2=pl1+zq l2/\¬l2.num.sign = -1) (tg λ(pl2:Nat)=>[(9,(pP b5 0)),(23,(vI 2)),(11,(vN pl2))]) (tg λ(pl2:Nat)=>[Af b5 123 (AH l0++AH l1++AH l2),Af b4 55 (Aj p),Af b3 55 (Aj c),Af b2 55 (Aj b),Af b1 55 (Aj a)]) ?_ ?_
   ·skip
    refine AF.block (q4 (AI (BS (c:=(decide (l2.num.sign=(-1:Int)))) O O O) O (AO O (AE.nil (AC.subF (sL [9,23,11,29,30] O) ?_)))))
    refine AC.then_ ?_
    refine AF.cond O (λhc2=>?_) (λhc2=>?_)
    ·replace hc2:=of_decide_eq_true hc2
     have hz:=PU (x:=l0) (y:=l1) (z:=l2) hc2
     refine q4 (AO O (AE.nil (AC.then_ (AF.ret (AC.in_ret ?_)))))
     exact AC.join1_ret (AC.in_ret (AC.then_ret (AC.then_ret (AC.in_ret (AC.then_ret (AT O (Ak (v:=(vI 0)) O) (λw hw=>⟨by rw [<-hl0,<-hl1,<-hl2,hz];rfl,hw.out⟩)))))))
    ·replace hc2:=of_decide_eq_false hc2
     refine q4 (AI (BS (c:=(decide (l2.num.sign=(0:Int)))) O O O) O (AO O (AE.nil (AC.subF (sL [9,23,11,29,32] O) (AC.then_ ?_)))))
     refine AF.cond O (λhc3=>?_) (λhc3=>?_)
     ·replace hc3:=of_decide_eq_true hc3
      refine AF.region (AR O (AI (AY (c:=((pl1+1:Nat):Int)) O O (AX (a:=pl1) (b:=1) Z)) O (AO O (AE.nil (AC.subF (sL [9,23,11,29] O) ?_)))))
      exact AC.in_normal (AC.join1 (pl1+1) (⟨by simp [O3 hc3],hc2⟩) (sF O) sr)
     ·replace hc3:=of_decide_eq_false hc3
      exact AF.skip (AC.in_normal (AC.join1 pl1 (⟨by simp [Nq hc3],hc2⟩) (sF O) sr))
   ·intro pl2 hJ
    obtain ⟨e2,n2⟩:=hJ
    have zz2:=To l2
    refine AC.in_normal (AC.then_ (AF.region (AI (AY (c:=(3:Int)) O O (by decide)) O (AR O (AE.nil ?_)))))
    refine AC.subF (sL [9,23,11] O) (AC.again (GC.step (q4 (AI (Am (c:=false) O O (by decide)) O (AE.nil ?_)))))
    refine q1 (AF.cond_false O (AF.exit (AC.then_exit (AC.then_exit (AC.in_exit ?_)))))
    refine q2 (AR O (AO O (AE.nil (AC.subF (sL [9,23,11,8] O) (AC.then_ ?_)))))
    exact AF.ret (AT O (Ak (v:=(vN pl2)) O) (λw hw=>⟨by rw [<-hl0,<-hl1,<-hl2,Tj n0 n1 n2,e2,e1,e0],hw.out⟩))
theorem Rk (a b c p:Pt) (hs:B5 a+B5 b+B5 c+B5 p<=268435456) (h:AJ a b c=0) (w:World)  :Calls prog 22 #[(aG (Aj a)),(aG (Aj b)),(aG (Aj c)),(aG (Aj p))] w (Av w (vI 0)):=by
 refine Ag (args:=[(aG (Aj a)),(aG (Aj b)),(aG (Aj c)),(aG (Aj p))]) func22 O O (Ab O) (AF.subF (sL [0,1,2,3] O) (q4 (Bo (cs:=Aj a) O λb1=>Bo (cs:=Aj b) O λb2=>Bo (cs:=Aj c) O λb3=>?_)))
 refine Bo (cs:=Aj p) O λb4=>AO O (q3 (sL [4,5,6,7,8] O) (A6 3 BG O (A6 2 BG O (A6 1 BG O ?_))))
 refine A6 0 BG O (BW call62 (UA a b c p Z h) O (AR O (AI (AU (v:=(aG (AH (0:Rat)++AH (0:Rat)++AH (0:Rat)))) O O) O (AI (AU (v:=(vI 1)) O O) O (al L9 O λb5=>?_)))))
 refine Aq O sizeOf123 O (AO O (q6 (sL [8,9,10] O) (q4 (AR O (AI (CL (c:=true) O O (by decide)) O ?_)))))
 refine AE.nil (AC.subF (sL [8,9,22] O) (AC.then_ (AF.cond_true O (q4 (AO O ?_)))))
 exact AE.nil (AC.subF (sL [8,9] O) (AC.then_ (AF.ret (AC.then_ret (AT O (Ak (v:=(vI 0)) O) (λw hw=>⟨rfl,hw.out⟩))))))
end
section
set_option maxRecDepth 100000
end
section
section
variable {P:Program} {n:Nat} {F:List (Nat×Value)} {w0:BM} {L:List As} {v:Value} {x:Operand} {d:Option Tmp} {t:TypeId} {p:String} {af:Array Edge} {g:Option (Nat×Bool)}
theorem FW {tx e:TypeId} {b len k:Nat} (hx:evF F x=some (.pointer (some ⟨b,0,none⟩))) (hu:P.underlying tx=some (.array len e)) (hs:∀w,(sizeOf e).run P w=.ok k w) (h0:0<len) :
    Ex P n F w0 L ⟨d,.slice tx x none none none,t,p,af,g⟩ (.slice (some ⟨b,0,none⟩) len len):=λA w ha _=>by
  have e1:¬len=0:=by omega
  simp [execOp,ha.ev hx,Instr.sliceAt,run_underlying hu,Instr.sureAddr,Instr.sliceBounds,Instr.sliceBound,hs,e1,Addr.add_lit]
end
end
section
set_option maxRecDepth 100000
end
end Go.Proofs.YtfbomiejpbchdaaGreat
