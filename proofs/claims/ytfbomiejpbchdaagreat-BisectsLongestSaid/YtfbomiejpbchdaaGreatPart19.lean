import Derived.Test.YtfbomiejpbchdaaGreatPart06
import Derived.Test.YtfbomiejpbchdaaGreatPart18
namespace Go.Proofs.YtfbomiejpbchdaaGreat
open Go Go.RowKit Go.Proofs.Tryz
set_option linter.unusedVariables false
set_option linter.unusedSimpArgs false
section
set_option maxRecDepth 100000
theorem B0 (x0:Rat) (x1:Rat):Instr.fill ([(0,5),(5,5)].toArray[·]?) (Am (⟨0,0⟩:Pt)).toArray [(0,.agg (AJ x0).toArray),(1,.agg (AJ x1).toArray)]=some (AJ x0++AJ x1).toArray:=by kernel_rfl
theorem Nj (a b:Pt) (hs:B5 a+B5 b<=68719476736) (w:World)  :Calls prog 156 #[(aG (Am a)),(aG (Am b)),(Value.func (.func 29) #[] #[])] w (Aq w (aG (Am (a+b)))):=by
 have p1:=Dm a
 have p2:=Dn a
 have p3:=Dm b
 have p4:=Dn b
 refine Ae (args:=[(aG (Am a)),(aG (Am b)),(Value.func (.func 29) #[] #[])]) func156 O O (Ac O) (AF.subF (sL [0,1,2] O) (q4 (Bg (cs:=Am a) O λb1=>Bg (cs:=Am b) O λb2=>al E3 O λb3=>?_)))
 refine q6 (sL [2,3,4,6] O) (Cm [(0,true),(1,true),(2,true),(3,true),(4,true),(6,true),(7,true),(8,true),(9,true),(10,true),(5,false),(11,false),(12,true),(13,false)] (sl sr) (Bc O (Au (v:=(pP b1 0)) O (AA O underlying55 O sizeOf53 O) (GL 1 (AJ a.x) Bm O (Au (v:=(pP b2 0)) O (AA O underlying55 O sizeOf53 O) ?_)))))
 refine GL 0 (AJ b.x) Bm O (Bc O (Au (v:=(pP b1 5)) O (AA O underlying55 O sizeOf53 O) (GL 1 (AJ a.y) Bm O (Au (v:=(pP b2 5)) O (AA O underlying55 O sizeOf53 O) (GL 0 (AJ b.y) Bm O ?_)))))
 refine AT.imp O ?_
 have hz1:=Gh a.x b.x
 refine BR call29 (Jp a.x b.x (by (try simp only [Dv]);omega)) O (AT.back (sl sr) (AT.imp O ?_))
 have hz2:=Gh a.y b.y
 refine BR call29 (Jp a.y b.y (by (try simp only [Dv]);omega)) O (AT.back (sl sr) (Au (v:=(aG (AJ (a.x+b.x)++AJ (a.y+b.y)))) O (Ad (zs:=Am (⟨0,0⟩:Pt)) (vs:=AJ (a.x+b.x)++AJ (a.y+b.y)) (pv:=[(0,(aG (AJ (a.x+b.x)))),(1,(aG (AJ (a.y+b.y))))]) (places:=[(0,5),(5,5)]) zeroValue55 underlying55 (λw=>by simp [sizeOf53]) O (B0 (a.x+b.x) (a.y+b.y))) (AT.imp O (Aw O sizeOf55 O (AT.back (sl sr) ?_)))))
 exact AT.nil (AD.subF (sL [6] O) (AD.then_ (AF.ret (AR O (Az (i:=0) (cs:=AJ (a.x+b.x)++AJ (a.y+b.y)) O O isAgg55 sizeOf55 O) (λw hw=>⟨by rw [Wn],hw.out⟩)))))
theorem N9 (a b:Pt) (hs:B5 a+B5 b<=68719476736) (w:World)  :Calls prog 156 #[(aG (Am a)),(aG (Am b)),(Value.func (.func 111) #[] #[])] w (Aq w (aG (Am (a-b)))):=by
 have p1:=Dm a
 have p2:=Dn a
 have p3:=Dm b
 have p4:=Dn b
 refine Ae (args:=[(aG (Am a)),(aG (Am b)),(Value.func (.func 111) #[] #[])]) func156 O O (Ac O) (AF.subF (sL [0,1,2] O) (q4 (Bg (cs:=Am a) O λb1=>Bg (cs:=Am b) O λb2=>al E3 O λb3=>?_)))
 refine q6 (sL [2,3,4,6] O) (Cm [(0,true),(1,true),(2,true),(3,true),(4,true),(6,true),(7,true),(8,true),(9,true),(10,true),(5,false),(11,false),(12,true),(13,false)] (sl sr) (Bc O (Au (v:=(pP b1 0)) O (AA O underlying55 O sizeOf53 O) (GL 1 (AJ a.x) Bm O (Au (v:=(pP b2 0)) O (AA O underlying55 O sizeOf53 O) ?_)))))
 refine GL 0 (AJ b.x) Bm O (Bc O (Au (v:=(pP b1 5)) O (AA O underlying55 O sizeOf53 O) (GL 1 (AJ a.y) Bm O (Au (v:=(pP b2 5)) O (AA O underlying55 O sizeOf53 O) (GL 0 (AJ b.y) Bm O ?_)))))
 refine AT.imp O ?_
 have hz1:=Il a.x b.x
 refine BR call111 (Me a.x b.x (by (try simp only [Dv]);omega)) O (AT.back (sl sr) (AT.imp O ?_))
 have hz2:=Il a.y b.y
 refine BR call111 (Me a.y b.y (by (try simp only [Dv]);omega)) O (AT.back (sl sr) (Au (v:=(aG (AJ (a.x-b.x)++AJ (a.y-b.y)))) O (Ad (zs:=Am (⟨0,0⟩:Pt)) (vs:=AJ (a.x-b.x)++AJ (a.y-b.y)) (pv:=[(0,(aG (AJ (a.x-b.x)))),(1,(aG (AJ (a.y-b.y))))]) (places:=[(0,5),(5,5)]) zeroValue55 underlying55 (λw=>by simp [sizeOf53]) O (B0 (a.x-b.x) (a.y-b.y))) (AT.imp O (Aw O sizeOf55 O (AT.back (sl sr) ?_)))))
 exact AT.nil (AD.subF (sL [6] O) (AD.then_ (AF.ret (AR O (Az (i:=0) (cs:=AJ (a.x-b.x)++AJ (a.y-b.y)) O O isAgg55 sizeOf55 O) (λw hw=>⟨by rw [Wf],hw.out⟩)))))
theorem MK (x y k:Rat) (bk:Nat) (hs:Sz x+Sz k<=137438953472) (w:World) (hk:w.heap[bk]?=some (.cells (AJ k).toArray 53 (0,0))):Calls prog 214 #[(aG (AJ x)),(aG (AJ y)),(pP bk 0)] w (Aq w (aG (AJ (x*k)))):=by
 refine Ae (args:=[(aG (AJ x)),(aG (AJ y)),(pP bk 0)]) func214 O O (Ac O) (AF.subF (sL [0,1,2] O) (q4 (Bg (cs:=AJ x) O λb1=>Bg (cs:=AJ y) O λb2=>al D4 O λb3=>?_)))
 refine q3 (sL [2,3,5] O) (BA 2 Bm O (AH (v:=(aG (AJ k))) (E8 (vs:=AJ k) O (λw' hw=>hw.oldCA (by simp) (EX hk)) isAgg53 sizeOf53 O) O ?_))
 have hz1:=D9 x k
 exact BR call24 (G7 x k (by (try simp only [Dv]);omega)) O (Aw O sizeOf53 O (AE.nil (AD.subF (sL [5] O) (AD.then_ (AF.ret (AR O (Az (i:=0) (cs:=AJ (x*k)) O O isAgg53 sizeOf53 O) (λw hw=>⟨rfl,hw.out⟩)))))))
theorem LS (a:Pt) (k:Rat) (bk:Nat) (hs:B5 a+Sz k<=137438953472) (w:World) (hk:w.heap[bk]?=some (.cells (AJ k).toArray 53 (0,0))):Calls prog 156 #[(aG (Am a)),(aG (Am a)),(Value.func (.func 214) #[] #[(pP bk 0)])] w (Aq w (aG (Am (Cp a k)))):=by
 have p1:=Dm a
 have p2:=Dn a
 refine Ae (args:=[(aG (Am a)),(aG (Am a)),(Value.func (.func 214) #[] #[(pP bk 0)])]) func156 O O (Ac O) (AF.subF (sL [0,1,2] O) (q4 (Bg (cs:=Am a) O λb1=>Bg (cs:=Am a) O λb2=>al E3 O λb3=>?_)))
 refine q6 (sL [2,3,4,6] O) (Cm [(0,true),(1,true),(2,true),(3,true),(4,true),(6,true),(7,true),(8,true),(9,true),(10,true),(5,false),(11,false),(12,true),(13,false)] (sl sr) (Bc O (Au (v:=(pP b1 0)) O (AA O underlying55 O sizeOf53 O) (GL 1 (AJ a.x) Bm O (Au (v:=(pP b2 0)) O (AA O underlying55 O sizeOf53 O) ?_)))))
 refine GL 0 (AJ a.x) Bm O (Bc O (Au (v:=(pP b1 5)) O (AA O underlying55 O sizeOf53 O) (GL 1 (AJ a.y) Bm O (Au (v:=(pP b2 5)) O (AA O underlying55 O sizeOf53 O) (GL 0 (AJ a.y) Bm O ?_)))))
 refine AT.imp O (AE.call (v:=(aG (AJ (a.x*k)))) (AK O) (Cg (args:=[(aG (AJ a.x)),(aG (AJ a.x))]) (caps:=[(pP bk 0)]) (all:=[(aG (AJ a.x)),(aG (AJ a.x)),(pP bk 0)]) O O O call214) (λw hw=>MK a.x a.x k bk Z w (hw.old (by simp) hk)) O (Ac O) (AT.back (sl sr) (AT.imp O (AE.call (v:=(aG (AJ (a.y*k)))) (AK O) (Cg (args:=[(aG (AJ a.y)),(aG (AJ a.y))]) (caps:=[(pP bk 0)]) (all:=[(aG (AJ a.y)),(aG (AJ a.y)),(pP bk 0)]) O O O call214) (λw hw=>MK a.y a.y k bk Z w (hw.old (by simp) hk)) O (Ac O) (AT.back (sl sr) ?_)))))
 refine Au (v:=(aG (AJ (a.x*k)++AJ (a.y*k)))) O (Ad (zs:=Am (⟨0,0⟩:Pt)) (vs:=AJ (a.x*k)++AJ (a.y*k)) (pv:=[(0,(aG (AJ (a.x*k)))),(1,(aG (AJ (a.y*k))))]) (places:=[(0,5),(5,5)]) zeroValue55 underlying55 (λw=>by simp [sizeOf53]) O (B0 (a.x*k) (a.y*k))) (AT.imp O (Aw O sizeOf55 O (AT.back (sl sr) (AT.nil (AD.subF (sL [6] O) ?_)))))
 exact AD.then_ (AF.ret (AR O (Az (i:=0) (cs:=AJ (a.x*k)++AJ (a.y*k)) O O isAgg55 sizeOf55 O) (λw hw=>⟨by rw [RG],hw.out⟩)))
theorem XA (a b:Pt) (hs:B5 a+B5 b<=68719476736) (w:World)  :Calls prog 173 #[(aG (Am a)),(aG (Am b))] w (Aq w (aG (Am (a+b)))):=by
 refine Ae (args:=[(aG (Am a)),(aG (Am b))]) func173 O O (Ac O) (AF.subF (sL [0,1] O) (q4 (Bg (cs:=Am a) O λb1=>Bg (cs:=Am b) O λb2=>al E3 O λb3=>?_)))
 refine q3 (sL [2,3,4] O) (BA 2 BQ O (BA 1 BQ O (BR call156 (Nj a b Z) O (Aw O sizeOf55 O (AE.nil ?_)))))
 exact AD.subF (sL [4] O) (AD.then_ (AF.ret (AR O (Az (i:=0) (cs:=Am (a+b)) O O isAgg55 sizeOf55 O) (λw hw=>⟨rfl,hw.out⟩))))
theorem Hz (a b:Pt) (hs:B5 a+B5 b<=68719476736) (w:World)  :Calls prog 92 #[(aG (Am a)),(aG (Am b))] w (Aq w (aG (Am (a-b)))):=by
 refine Ae (args:=[(aG (Am a)),(aG (Am b))]) func92 O O (Ac O) (AF.subF (sL [0,1] O) (q4 (Bg (cs:=Am a) O λb1=>Bg (cs:=Am b) O λb2=>al E3 O λb3=>?_)))
 refine q3 (sL [2,3,4] O) (BA 2 BQ O (BA 1 BQ O (BR call156 (N9 a b Z) O (Aw O sizeOf55 O (AE.nil ?_)))))
 exact AD.subF (sL [4] O) (AD.then_ (AF.ret (AR O (Az (i:=0) (cs:=Am (a-b)) O O isAgg55 sizeOf55 O) (λw hw=>⟨rfl,hw.out⟩))))
theorem RR (a:Pt) (k:Rat) (hs:B5 a+Sz k<=137438953472) (w:World)  :Calls prog 172 #[(aG (Am a)),(aG (AJ k))] w (Aq w (aG (Am (Cp a k)))):=by
 refine Ae (args:=[(aG (Am a)),(aG (AJ k))]) func172 O O (Ac O) (AF.subF (sL [0,1] O) (q4 (Bg (cs:=Am a) O λb1=>Bg (cs:=AJ k) O λb2=>al E3 O λb3=>?_)))
 refine q3 (sL [2,3,4] O) (BA 2 BQ O (BA 2 BQ O (AH (v:=(Value.func (.func 214) #[] #[(pP b2 0)])) (Cu (vs:=[]) (us:=[(pP b2 0)]) O O) O (Ee call156 (λw hw=>LS a k b2 Z w (hw.get (i:=1) O)) O (Aw O sizeOf55 O ?_)))))
 exact AE.nil (AD.subF (sL [4] O) (AD.then_ (AF.ret (AR O (Az (i:=0) (cs:=Am (Cp a k)) O O isAgg55 sizeOf55 O) (λw hw=>⟨rfl,hw.out⟩)))))
theorem ME (a b:Pt) (hs:B5 a+B5 b<=68719476736) (w:World)  :Calls prog 43 #[(aG (Am a)),(aG (Am b))] w (Aq w (aG (AJ (Ih a b)))):=by
 have p1:=Dm a
 have p2:=Dn a
 have p3:=Dm b
 have p4:=Dn b
 refine Ae (args:=[(aG (Am a)),(aG (Am b))]) func43 O O (Ac O) (AF.subF (sL [0,1] O) (q4 (Bg (cs:=Am a) O λb1=>Bg (cs:=Am b) O λb2=>al D4 O λb3=>?_)))
 refine q6 (sL [2,3,4] O) (Cm [(0,true),(1,true),(2,true),(3,true),(5,true),(6,true),(7,true),(8,true),(4,false),(9,false),(10,false),(11,false)] (sl sr) (Au (v:=(pP b1 0)) O (AA O underlying55 O sizeOf53 O) (GL 1 (AJ a.x) Bm O (Au (v:=(pP b2 5)) O (AA O underlying55 O sizeOf53 O) (GL 0 (AJ b.y) Bm O ?_)))))
 refine Au (v:=(pP b1 5)) O (AA O underlying55 O sizeOf53 O) (GL 1 (AJ a.y) Bm O (Au (v:=(pP b2 0)) O (AA O underlying55 O sizeOf53 O) (GL 0 (AJ b.x) Bm O (AT.imp O ?_))))
 have hz1:=D9 a.x b.y
 refine BR call24 (G7 a.x b.y (by (try simp only [Dv]);omega)) O (AT.back (sl sr) (AT.imp O ?_))
 have hz2:=D9 a.y b.x
 refine BR call24 (G7 a.y b.x (by (try simp only [Dv]);omega)) O (AT.back (sl sr) (AT.imp O ?_))
 have hz3:=Il (a.x*b.y) (a.y*b.x)
 refine BR call111 (Me (a.x*b.y) (a.y*b.x) (by (try simp only [Dv]);omega)) O (AT.back (sl sr) (AT.imp O (Aw O sizeOf53 O (AT.back (sl sr) (AT.nil ?_)))))
 exact AD.subF (sL [4] O) (AD.then_ (AF.ret (AR O (Az (i:=0) (cs:=AJ ((a.x*b.y)-(a.y*b.x))) O O isAgg53 sizeOf53 O) (λw hw=>⟨rfl,hw.out⟩))))
theorem VR (a b:Pt) (hs:B5 a+B5 b<=68719476736) (w:World)  :Calls prog 93 #[(aG (Am a)),(aG (Am b))] w (Aq w (aG (AJ (D6 a b)))):=by
 have p1:=Dm a
 have p2:=Dn a
 have p3:=Dm b
 have p4:=Dn b
 refine Ae (args:=[(aG (Am a)),(aG (Am b))]) func93 O O (Ac O) (AF.subF (sL [0,1] O) (q4 (Bg (cs:=Am a) O λb1=>Bg (cs:=Am b) O λb2=>al D4 O λb3=>?_)))
 refine q6 (sL [2,3,4] O) (Cm [(0,true),(1,true),(2,true),(3,true),(5,true),(6,true),(7,true),(8,true),(4,false),(9,false),(10,false),(11,false)] (sl sr) (Au (v:=(pP b1 0)) O (AA O underlying55 O sizeOf53 O) (GL 1 (AJ a.x) Bm O (Au (v:=(pP b2 0)) O (AA O underlying55 O sizeOf53 O) (GL 0 (AJ b.x) Bm O ?_)))))
 refine Au (v:=(pP b1 5)) O (AA O underlying55 O sizeOf53 O) (GL 1 (AJ a.y) Bm O (Au (v:=(pP b2 5)) O (AA O underlying55 O sizeOf53 O) (GL 0 (AJ b.y) Bm O (AT.imp O ?_))))
 have hz1:=D9 a.x b.x
 refine BR call24 (G7 a.x b.x (by (try simp only [Dv]);omega)) O (AT.back (sl sr) (AT.imp O ?_))
 have hz2:=D9 a.y b.y
 refine BR call24 (G7 a.y b.y (by (try simp only [Dv]);omega)) O (AT.back (sl sr) (AT.imp O ?_))
 have hz3:=Gh (a.x*b.x) (a.y*b.y)
 refine BR call29 (Jp (a.x*b.x) (a.y*b.y) (by (try simp only [Dv]);omega)) O (AT.back (sl sr) (AT.imp O (Aw O sizeOf53 O (AT.back (sl sr) (AT.nil ?_)))))
 exact AD.subF (sL [4] O) (AD.then_ (AF.ret (AR O (Az (i:=0) (cs:=AJ ((a.x*b.x)+(a.y*b.y))) O O isAgg53 sizeOf53 O) (λw hw=>⟨rfl,hw.out⟩))))
theorem OI (a b c:Pt) (hs:B5 a+B5 b+B5 c<=17179869184) (w:World)  :Calls prog 52 #[(aG (Am a)),(aG (Am b)),(aG (Am c))] w (Aq w (vI ((AU a b c).num.sign))):=by
 refine Ae (args:=[(aG (Am a)),(aG (Am b)),(aG (Am c))]) func52 O O (Ac O) (AF.subF (sL [0,1,2] O) (q4 (Bg (cs:=Am a) O λb1=>Bg (cs:=Am b) O λb2=>Bg (cs:=Am c) O λb3=>?_)))
 refine AL O (q6 (sL [3,4,5,6] O) (Cm [(0,true),(1,true),(3,true),(4,true),(2,false),(5,false),(6,false),(7,false),(8,true)] sr (En 1 BQ O (En 2 BQ O (En 0 BQ O ?_)))))
 refine En 2 BQ O (AT.imp O ?_)
 have hz1:=Di b a
 refine BR call92 (Hz b a Z) O (AT.back sr (AT.imp O ?_))
 have hz2:=Di c a
 refine BR call92 (Hz c a Z) O (AT.back sr (AT.imp O ?_))
 have hz3:=KD (b-a) (c-a)
 refine BR call43 (ME (b-a) (c-a) Z) O (AT.back sr (AT.imp O (BR call63 (FB (Ih (b-a) (c-a))) O (AT.back sr (Eg O ?_)))))
 exact AT.nil (AD.subF (sL [6] O) (AD.then_ (AF.ret (AR O (Ai (v:=(vI ((Ih (b-a) (c-a)).num.sign))) O) (λw hw=>⟨rfl,hw.out⟩)))))
theorem Fr (a b:Pt) (hs:B5 a+B5 b<=17179869184) (w:World)  :Calls prog 32 #[(aG (Am a)),(aG (Am b))] w (Aq w (aG (AJ (D6 (b-a) (b-a))))):=by
 refine Ae (args:=[(aG (Am a)),(aG (Am b))]) func32 O O (Ac O) (AF.subF (sL [0,1] O) (q4 (Bg (cs:=Am a) O λb1=>Bg (cs:=Am b) O λb2=>al D4 O λb3=>?_)))
 refine q3 (sL [2,3,4] O) (BA 1 BQ O (BA 2 BQ O ?_))
 have hz1:=Di b a
 refine BR call92 (Hz b a Z) O (al E3 O λb4=>Aw O sizeOf55 O (q3 (sL [4,5] O) (BA 0 BQ O (BA 0 BQ O ?_))))
 have hz2:=Ii (b-a) (b-a)
 exact BR call93 (VR (b-a) (b-a) Z) O (DP O sizeOf53 O (AE.nil (AD.subF (sL [4,5] O) (AD.then_ (AF.ret (AR O (Az (i:=1) (cs:=AJ (D6 (b-a) (b-a))) O O isAgg53 sizeOf53 O) (λw hw=>⟨rfl,hw.out⟩)))))))
theorem JV (x y:Int) (h1:-9223372036854775808<=x) (h2:x<9223372036854775808) (h3:-9223372036854775808<=y) (h4:y<9223372036854775808) (w:World)  :Calls prog 56 #[(vI x),(vI y)] w (Aq w (aG (Am (⟨((x:Int):Rat),((y:Int):Rat)⟩:Pt)))):=by
 refine Ae (args:=[(vI x),(vI y)]) func56 O O (Ac O) (AF.subF (sL [0,1] O) (q4 (al E3 O λb1=>AE.nil (q2 ?_))))
 refine AS O (BR call25 (Ja x Z Z) O (AS O (BR call25 (Ja y Z Z) O (AH (v:=(aG (AJ ((x:Int):Rat)++AJ ((y:Int):Rat)))) (Ad (zs:=Am (⟨0,0⟩:Pt)) (vs:=AJ ((x:Int):Rat)++AJ ((y:Int):Rat)) (pv:=[(0,(aG (AJ ((x:Int):Rat)))),(1,(aG (AJ ((y:Int):Rat))))]) (places:=[(0,5),(5,5)]) zeroValue55 underlying55 (λw=>by simp [sizeOf53]) O (B0 ((x:Int):Rat) ((y:Int):Rat))) O (Aw O sizeOf55 O ?_)))))
 exact AE.nil (AD.subF (sL [4] O) (AD.then_ (AF.ret (AR O (Az (i:=0) (cs:=AJ ((x:Int):Rat)++AJ ((y:Int):Rat)) O O isAgg55 sizeOf55 O) (λw hw=>⟨by rw [Xh],hw.out⟩)))))
end
section
set_option maxRecDepth 100000
theorem SO (x y:Int) (h1:-9223372036854775808<=x) (h2:x<9223372036854775808) (h3:-9223372036854775808<=y) (h4:y<9223372036854775808) (hy:y≠0) (w:World)  :Calls prog 152 #[(vI x),(vI y)] w (Aq w (Value.tuple #[(aG (AJ (((x:Int):Rat)/((y:Int):Rat)))),(vI 0)])):=by
 have hb:((y:Int):Rat)≠0:=λe=>hy (by exact_mod_cast e)
 have s1:=Md h1 h2
 have s2:=Md h3 h4
 refine Ae (args:=[(vI x),(vI y)]) func152 O O (Ac O) (AF.subF (sL [0,1] O) (q4 (al D4 O λb1=>AL O (AE.nil ?_))))
 refine q2 (AS O (BR call25 (Ja x Z Z) O (AS O (BR call25 (Ja y Z Z) O ?_))))
 have hz1:=Jz (a:=((x:Int):Rat)) (b:=((y:Int):Rat)) (by assumption)
 refine BR call66 (Ju ((x:Int):Rat) ((y:Int):Rat) Z (by assumption)) O (AH (AZ (v:=(aG (AJ (((x:Int):Rat)/((y:Int):Rat))))) O O) O (AH (AZ (v:=(vI 0)) O O) O (Aw O sizeOf53 O (AL O (AE.nil ?_)))))
 exact AD.subF (sL [4,5] O) (AD.then_ (AF.ret (C9 O (Az (i:=0) (cs:=AJ (((x:Int):Rat)/((y:Int):Rat))) O O isAgg53 sizeOf53 O) (Ai (v:=(vI 0)) O) (λw hw=>⟨rfl,hw.out⟩))))
theorem T8  (w:World)  :Calls prog 174 #[] w (Aq w (aG (AJ ((1:Rat)/2)))):=by
 refine Ae (args:=[]) func174 O O (Ac O) (AF.subF sN (q4 (al D4 O λb1=>AE.nil (q2 ?_))))
 refine BR call152 (SO (1:Int) (2:Int) Z Z Z Z Z) O (AS O (AH (AZ (v:=(aG (AJ (((1:Int):Rat)/((2:Int):Rat))))) O O) O (AE.retell (k:=5) (u:=(aG (AJ ((1:Rat)/2)))) O (by rw [Vi]) (AH (AZ (v:=(vI 0)) O O) O (al D4 O λb2=>?_)))))
 refine Aw O sizeOf53 O (AL O (q3 (sL [0,1] O) (BA 0 Bm O (DP O sizeOf53 O (AE.nil ?_)))))
 exact AD.subF (sL [0,1] O) (AD.then_ (AF.ret (AR O (Az (i:=1) (cs:=AJ ((1:Rat)/2)) O O isAgg53 sizeOf53 O) (λw hw=>⟨rfl,hw.out⟩))))
theorem Vj (a b:Pt) (hs:B5 a+B5 b<=17179869184) (w:World)  :Calls prog 121 #[(aG (Am a)),(aG (Am b))] w (Aq w (aG (Am (Cp (a+b) (1/2))))):=by
 have sh:=VY
 refine Ae (args:=[(aG (Am a)),(aG (Am b))]) func121 O O (Ac O) (AF.subF (sL [0,1] O) (q4 (Bg (cs:=Am a) O λb1=>Bg (cs:=Am b) O λb2=>al E3 O λb3=>?_)))
 refine q3 (sL [2,3,4] O) (BA 2 BQ O (BA 1 BQ O ?_))
 have hz1:=Ps a b
 refine BR call173 (XA a b Z) O (BR call174 (T8) O ?_)
 have hz2:=Lg (a+b) ((1:Rat)/2)
 exact BR call172 (RR (a+b) ((1:Rat)/2) Z) O (Aw O sizeOf55 O (AE.nil (AD.subF (sL [4] O) (AD.then_ (AF.ret (AR O (Az (i:=0) (cs:=Am (Cp (a+b) ((1:Rat)/2))) O O isAgg55 sizeOf55 O) (λw hw=>⟨rfl,hw.out⟩)))))))
theorem EN (a b c:Pt) (hs:B5 a+B5 b+B5 c<=8589934592) (w:World)  :Calls prog 64 #[(aG (Am a)),(aG (Am b)),(aG (Am c))] w (Aq w (aG (AJ (AU a b c)))):=by
 refine Ae (args:=[(aG (Am a)),(aG (Am b)),(aG (Am c))]) func64 O O (Ac O) (AF.subF (sL [0,1,2] O) (q4 (Bg (cs:=Am a) O λb1=>Bg (cs:=Am b) O λb2=>Bg (cs:=Am c) O λb3=>?_)))
 refine al D4 O λb4=>q6 (sL [3,4,5,6] O) (Cm [(0,true),(1,true),(3,true),(4,true),(2,false),(5,false),(6,false),(7,false)] (sl sr) (En 1 BQ O (En 2 BQ O (En 0 BQ O ?_))))
 refine En 2 BQ O (AT.imp O ?_)
 have hz1:=Di b a
 refine BR call92 (Hz b a Z) O (AT.back (sl sr) (AT.imp O ?_))
 have hz2:=Di c a
 refine BR call92 (Hz c a Z) O (AT.back (sl sr) (AT.imp O ?_))
 have hz3:=KD (b-a) (c-a)
 refine BR call43 (ME (b-a) (c-a) Z) O (AT.back (sl sr) (AT.imp O (Aw O sizeOf53 O (AT.back (sl sr) (AT.nil ?_)))))
 exact AD.subF (sL [6] O) (AD.then_ (AF.ret (AR O (Az (i:=0) (cs:=AJ (Ih (b-a) (c-a))) O O isAgg53 sizeOf53 O) (λw hw=>⟨rfl,hw.out⟩))))
end
section
set_option maxRecDepth 100000
theorem CR (x0:Rat) (x1:Rat) (x2:Rat):Instr.fill (λi=>some (i*5,5)) (AJ (0:Rat)++AJ (0:Rat)++AJ (0:Rat)).toArray [(0,.agg (AJ x0).toArray),(1,.agg (AJ x1).toArray),(2,.agg (AJ x2).toArray)]=some (AJ x0++AJ x1++AJ x2).toArray:=by kernel_rfl
theorem WA (a b c p:Pt) (hs:B5 a+B5 b+B5 c+B5 p<=268435456) (h:AU a b c≠0) (w:World)  :Calls prog 62 #[(aG (Am a)),(aG (Am b)),(aG (Am c)),(aG (Am p))] w (Aq w (Value.tuple #[(aG (AJ (AU p b c/AU a b c)++AJ (AU a p c/AU a b c)++AJ (AU a b p/AU a b c))),(vI 0)])):=by
 refine Ae (args:=[(aG (Am a)),(aG (Am b)),(aG (Am c)),(aG (Am p))]) func62 O O (Ac O) (AF.subF (sL [0,1,2,3] O) (q4 (Bg (cs:=Am a) O λb1=>Bg (cs:=Am b) O λb2=>Bg (cs:=Am c) O λb3=>?_)))
 refine Bg (cs:=Am p) O λb4=>al MC O λb5=>AL O (q3 (sL [4,5,6,7,8,9] O) (BA 4 BQ O (BA 3 BQ O ?_)))
 refine BA 2 BQ O ?_
 have hz1:=FS a b c
 refine BR call64 (EN a b c Z) O (al D4 O λb6=>Aw O sizeOf53 O (q6 (sL [4,5,6,7,8,9,10] O) (rN [(0,true),(1,true),(2,true),(4,true),(5,true),(6,true),(8,true),(9,true),(10,true),(3,false),(7,false),(11,false),(12,true)] [⟨13,11,123,AJ (0:Rat)++AJ (0:Rat)++AJ (0:Rat)⟩] [(14,false)] sr (by kernel_rfl) (λ_ _ d _ _ h=>by cases d<;>exact h) (HG O O MC O (JL)) O (IL 2 BQ O ?_))))
 refine IL 4 BQ O (IL 3 BQ O (IL 5 BQ O (IL 2 BQ O (IL 3 BQ O (IL 5 BQ O ?_)))))
 refine IL 4 BQ O (IL 2 BQ O (CY.imp O λEF EL=>?_))
 have hz2:=FS p b c
 refine BR call64 (EN p b c Z) O (CY.back0 sr O (CY.imp O λEF EL=>?_))
 have hz3:=FS a p c
 refine BR call64 (EN a p c Z) O (CY.back0 sr O (CY.imp O λEF EL=>?_))
 have hz4:=FS a b p
 refine BR call64 (EN a b p Z) O (CY.back0 sr O (HZ (v:=(aG (AJ (AU p b c)++AJ (AU a p c)++AJ (AU a b p)))) O (Al (zs:=AJ (0:Rat)++AJ (0:Rat)++AJ (0:Rat)) (vs:=AJ (AU p b c)++AJ (AU a p c)++AJ (AU a b p)) (pv:=[(0,(aG (AJ (AU p b c)))),(1,(aG (AJ (AU a p c)))),(2,(aG (AJ (AU a b p))))]) zeroValue123 underlying123 sizeOf53 O (CR (AU p b c) (AU a p c) (AU a b p))) O (CY.news1 λb7=>AT.imp O (Aw O sizeOf123 O ?_))))
 refine AT.back (sl sr) (AT.nil (AD.subF (sL [4,5,6,8,9,10,11] O) (q1 (q4 (AS O ?_)))))
 refine AE.nil (AD.then_ (AF.block (AF.unroll 5 (FO.step (q4 ?_)))))
 refine AH (Ak (c:=true) O O (by decide)) O (AE.nil (q1 (AF.cond_true O (AF.skip (q1 ?_)))))
 refine AF.block (q4 (AS O (AL O (q6 (sL [4,5,6,8,9,10,11,32,12] O) (rN [(0,true),(1,true),(2,true),(3,true),(4,false),(5,true),(6,true),(7,true)] [⟨8,13,53,AJ (0:Rat)⟩] [(9,false),(10,true)] sr (by kernel_rfl) (λ_ _ d _ _ h=>by cases d<;>exact h) (HG O O D4 O (JL)) O ?_)))))
 refine O3 O (HZ (v:=(pP b7 0)) O (AC (j:=0) O O underlying123 sizeOf53 O (by decide) O) O (SM 0 (AJ (AU p b c)) Bm O (IL 1 Bm O (CY.imp O λEF EL=>?_))))
 have hz5:=Jz (a:=AU p b c) (b:=AU a b c) (by assumption)
 refine BR call66 (Ju (AU p b c) (AU a b c) Z (by assumption)) O (CY.back0 sr O (O3 O (HZ O (AZ (v:=(aG (AJ ((AU p b c)/(AU a b c))))) O O) O (HZ O (AZ (v:=(vI 0)) O O) O (CY.news1 λb8=>?_)))))
 refine AT.imp O (Aw O sizeOf53 O (AT.back (sl sr) (Eg O (AT.nil (AD.subF (sL [4,5,6,8,9,10,11,32,12,13,14] O) ?_)))))
 refine q1 (q4 (AS O (AH (CB (c:=false) O O (by decide)) O (AE.nil (AD.subF (sL [4,5,6,8,9,10,11,32,12,13,44] O) ?_)))))
 refine AD.then_ (AF.cond_false O (AF.skip (AD.then_ (AF.region (AS O ?_)))))
 refine BA 0 Bm O (AH (v:=(pP b7 0)) (AC (j:=0) O O underlying123 sizeOf53 O (by decide) O) O (EW 1 (off:=0) (vs:=AJ ((AU p b c)/(AU a b c))) (cs':=AJ ((AU p b c)/(AU a b c))++AJ (AU a p c)++AJ (AU a b p)) (AK O) O sizeOf53 O (AE.nil (AD.subF (sL [4,5,6,8,9,10,11,32,12,13] O) (AD.in_normal ?_)))))
 refine AD.then_ (AF.region (AH (AW (c:=(1:Int)) O O (by decide)) O (AS O (AE.nil (AD.subF (sL [4,5,6,8,9,10,11,32,12,13] O) ?_)))))
 refine AD.again (FO.step (q4 (AH (Ak (c:=true) O O (by decide)) O (AE.nil (q1 ?_)))))
 refine AF.cond_true O (AF.skip (q1 (AF.block (q4 (AS O ?_)))))
 refine AL O (q6 (sL [4,5,6,8,9,10,11,32,12,13] O) (AF.subF (sL [4,5,6,8,9,10,11,32,12] O) (rN [(0,true),(1,true),(2,true),(3,true),(4,false),(5,true),(6,true),(7,true)] [⟨8,13,53,AJ (0:Rat)⟩] [(9,false),(10,true)] sr (by kernel_rfl) (λ_ _ d _ _ h=>by cases d<;>exact h) (HG O O D4 O (JL)) O (O3 O (HZ (v:=(pP b7 5)) O (AC (j:=1) O O underlying123 sizeOf53 O (by decide) O) O ?_)))))
 refine SM 1 (AJ (AU a p c)) Bm O (IL 2 Bm O (CY.imp O λEF EL=>?_))
 have hz6:=Jz (a:=AU a p c) (b:=AU a b c) (by assumption)
 refine BR call66 (Ju (AU a p c) (AU a b c) Z (by assumption)) O (CY.back0 sr O (O3 O (HZ O (AZ (v:=(aG (AJ ((AU a p c)/(AU a b c))))) O O) O (HZ O (AZ (v:=(vI 0)) O O) O (CY.news1 λb9=>?_)))))
 refine AT.imp O (Aw O sizeOf53 O (AT.back (sl sr) (Eg O (AT.nil (AD.subF (sL [4,5,6,8,9,10,11,32,12,13,14] O) ?_)))))
 refine q1 (q4 (AS O (AH (CB (c:=false) O O (by decide)) O (AE.nil (AD.subF (sL [4,5,6,8,9,10,11,32,12,13,44] O) ?_)))))
 refine AD.then_ (AF.cond_false O (AF.skip (AD.then_ (AF.region (AS O ?_)))))
 refine BA 0 Bm O (AH (v:=(pP b7 5)) (AC (j:=1) O O underlying123 sizeOf53 O (by decide) O) O (EW 2 (off:=5) (vs:=AJ ((AU a p c)/(AU a b c))) (cs':=AJ ((AU p b c)/(AU a b c))++AJ ((AU a p c)/(AU a b c))++AJ (AU a b p)) (AK O) O sizeOf53 O (AE.nil (AD.subF (sL [4,5,6,8,9,10,11,32,12,13] O) (AD.in_normal ?_)))))
 refine AD.then_ (AF.region (AH (AW (c:=(2:Int)) O O (by decide)) O (AS O (AE.nil (AD.subF (sL [4,5,6,8,9,10,11,32,12,13] O) ?_)))))
 refine AD.again (FO.step (q4 (AH (Ak (c:=true) O O (by decide)) O (AE.nil (q1 ?_)))))
 refine AF.cond_true O (AF.skip (q1 (AF.block (q4 (AS O ?_)))))
 refine AL O (q6 (sL [4,5,6,8,9,10,11,32,12,13] O) (AF.subF (sL [4,5,6,8,9,10,11,32,12] O) (rN [(0,true),(1,true),(2,true),(3,true),(4,false),(5,true),(6,true),(7,true)] [⟨8,13,53,AJ (0:Rat)⟩] [(9,false),(10,true)] sr (by kernel_rfl) (λ_ _ d _ _ h=>by cases d<;>exact h) (HG O O D4 O (JL)) O (O3 O (HZ (v:=(pP b7 10)) O (AC (j:=2) O O underlying123 sizeOf53 O (by decide) O) O ?_)))))
 refine SM 2 (AJ (AU a b p)) Bm O (IL 3 Bm O (CY.imp O λEF EL=>?_))
 have hz7:=Jz (a:=AU a b p) (b:=AU a b c) (by assumption)
 refine BR call66 (Ju (AU a b p) (AU a b c) Z (by assumption)) O (CY.back0 sr O (O3 O (HZ O (AZ (v:=(aG (AJ ((AU a b p)/(AU a b c))))) O O) O (HZ O (AZ (v:=(vI 0)) O O) O (CY.news1 λb10=>?_)))))
 refine AT.imp O (Aw O sizeOf53 O (AT.back (sl sr) (Eg O (AT.nil (AD.subF (sL [4,5,6,8,9,10,11,32,12,13,14] O) ?_)))))
 refine q1 (q4 (AS O (AH (CB (c:=false) O O (by decide)) O (AE.nil (AD.subF (sL [4,5,6,8,9,10,11,32,12,13,44] O) ?_)))))
 refine AD.then_ (AF.cond_false O (AF.skip (AD.then_ (AF.region (AS O ?_)))))
 refine BA 0 Bm O (AH (v:=(pP b7 10)) (AC (j:=2) O O underlying123 sizeOf53 O (by decide) O) O (EW 3 (off:=10) (vs:=AJ ((AU a b p)/(AU a b c))) (cs':=AJ ((AU p b c)/(AU a b c))++AJ ((AU a p c)/(AU a b c))++AJ ((AU a b p)/(AU a b c))) (AK O) O sizeOf53 O (AE.nil (AD.subF (sL [4,5,6,8,9,10,11,32,12,13] O) (AD.in_normal ?_)))))
 refine AD.then_ (AF.region (AH (AW (c:=(3:Int)) O O (by decide)) O (AS O (AE.nil (AD.subF (sL [4,5,6,8,9,10,11,32,12,13] O) ?_)))))
 refine AD.again (FO.step (q4 (AH (Ak (c:=false) O O (by decide)) O (AE.nil (q1 ?_)))))
 refine AF.cond_false O (AF.exit (AD.then_exit (AD.then_exit (AD.in_exit (q2 ?_)))))
 refine BA 3 ZC O (EW 5 (off:=0) (vs:=AJ ((AU p b c)/(AU a b c))++AJ ((AU a p c)/(AU a b c))++AJ ((AU a b p)/(AU a b c))) (cs':=AJ ((AU p b c)/(AU a b c))++AJ ((AU a p c)/(AU a b c))++AJ ((AU a b p)/(AU a b c))) (AK O) O sizeOf123 O (AL O (AE.nil (AD.subF (sL [4,5,6,8,9,10,11,32,12,13] O) (AD.then_ ?_)))))
 exact AF.ret (C9 O (Az (i:=5) (cs:=AJ ((AU p b c)/(AU a b c))++AJ ((AU a p c)/(AU a b c))++AJ ((AU a b p)/(AU a b c))) O O isAgg123 sizeOf123 O) (Ai (v:=(vI 0)) O) (λw hw=>⟨rfl,hw.out⟩))
theorem K9  :Instr.fill (λi=>some (i*5,5)) (AJ (0:Rat)++AJ (0:Rat)++AJ (0:Rat)).toArray []=some (AJ (0:Rat)++AJ (0:Rat)++AJ (0:Rat)).toArray:=by kernel_rfl
theorem To (a b c p:Pt) (hs:B5 a+B5 b+B5 c+B5 p<=268435456) (h:AU a b c=0) (w:World)  :Calls prog 62 #[(aG (Am a)),(aG (Am b)),(aG (Am c)),(aG (Am p))] w (Aq w (Value.tuple #[(aG (AJ (0:Rat)++AJ (0:Rat)++AJ (0:Rat))),(vI 1)])):=by
 refine Ae (args:=[(aG (Am a)),(aG (Am b)),(aG (Am c)),(aG (Am p))]) func62 O O (Ac O) (AF.subF (sL [0,1,2,3] O) (q4 (Bg (cs:=Am a) O λb1=>Bg (cs:=Am b) O λb2=>Bg (cs:=Am c) O λb3=>?_)))
 refine Bg (cs:=Am p) O λb4=>al MC O λb5=>AL O (q3 (sL [4,5,6,7,8,9] O) (BA 4 BQ O (BA 3 BQ O ?_)))
 refine BA 2 BQ O ?_
 have hz1:=FS a b c
 refine BR call64 (EN a b c Z) O (al D4 O λb6=>Aw O sizeOf53 O (q6 (sL [4,5,6,7,8,9,10] O) (rN [(0,true),(1,true),(2,true),(4,true),(5,true),(6,true),(8,true),(9,true),(10,true),(3,false),(7,false),(11,false),(12,true)] [⟨13,11,123,AJ (0:Rat)++AJ (0:Rat)++AJ (0:Rat)⟩] [(14,false)] sr (by kernel_rfl) (λ_ _ d _ _ h=>by cases d<;>exact h) (HG O O MC O (JL)) O (IL 2 BQ O ?_))))
 refine IL 4 BQ O (IL 3 BQ O (IL 5 BQ O (IL 2 BQ O (IL 3 BQ O (IL 5 BQ O ?_)))))
 refine IL 4 BQ O (IL 2 BQ O (CY.imp O λEF EL=>?_))
 have hz2:=FS p b c
 refine BR call64 (EN p b c Z) O (CY.back0 sr O (CY.imp O λEF EL=>?_))
 have hz3:=FS a p c
 refine BR call64 (EN a p c Z) O (CY.back0 sr O (CY.imp O λEF EL=>?_))
 have hz4:=FS a b p
 refine BR call64 (EN a b p Z) O (CY.back0 sr O (HZ (v:=(aG (AJ (AU p b c)++AJ (AU a p c)++AJ (AU a b p)))) O (Al (zs:=AJ (0:Rat)++AJ (0:Rat)++AJ (0:Rat)) (vs:=AJ (AU p b c)++AJ (AU a p c)++AJ (AU a b p)) (pv:=[(0,(aG (AJ (AU p b c)))),(1,(aG (AJ (AU a p c)))),(2,(aG (AJ (AU a b p))))]) zeroValue123 underlying123 sizeOf53 O (CR (AU p b c) (AU a p c) (AU a b p))) O (CY.news1 λb7=>AT.imp O (Aw O sizeOf123 O ?_))))
 refine AT.back (sl sr) (AT.nil (AD.subF (sL [4,5,6,8,9,10,11] O) (q1 (q4 (AS O ?_)))))
 refine AE.nil (AD.then_ (AF.block (AF.unroll 5 (FO.step (q4 ?_)))))
 refine AH (Ak (c:=true) O O (by decide)) O (AE.nil (q1 (AF.cond_true O (AF.skip (q1 ?_)))))
 refine AF.block (q4 (AS O (AL O (q6 (sL [4,5,6,8,9,10,11,32,12] O) (rN [(0,true),(1,true),(2,true),(3,true),(4,false),(5,true),(6,true),(7,true)] [⟨8,13,53,AJ (0:Rat)⟩] [(9,false),(10,true)] sr (by kernel_rfl) (λ_ _ d _ _ h=>by cases d<;>exact h) (HG O O D4 O (JL)) O ?_)))))
 refine O3 O (HZ (v:=(pP b7 0)) O (AC (j:=0) O O underlying123 sizeOf53 O (by decide) O) O (SM 0 (AJ (AU p b c)) Bm O (IL 1 Bm O (CY.imp O λEF EL=>Ee (args:=[(aG (AJ (AU p b c))),(aG (AJ (AU a b c)))]) (v:=(Value.tuple #[(aG (AJ (0:Rat))),(vI 5)])) call66 (λw hw=>(by rw [h];exact S8 _ w)) O ?_))))
 refine CY.back0 sr O (O3 O (HZ O (AZ (v:=(aG (AJ (0:Rat)))) O O) O (HZ O (AZ (v:=(vI 5)) O O) O (CY.news1 λb8=>AT.imp O ?_))))
 refine Aw O sizeOf53 O (AT.back (sl sr) (Eg O (AT.nil (AD.subF (sL [4,5,6,8,9,10,11,32,12,13,14] O) (q1 ?_)))))
 refine q4 (AS O (AH (CB (c:=true) O O (by decide)) O (AE.nil (AD.subF (sL [4,5,6,8,9,10,11,32,12,13,44] O) (AD.then_ ?_)))))
 refine AF.cond_true O (q4 (AH (v:=(aG (AJ (0:Rat)++AJ (0:Rat)++AJ (0:Rat)))) (Al (zs:=AJ (0:Rat)++AJ (0:Rat)++AJ (0:Rat)) (vs:=AJ (0:Rat)++AJ (0:Rat)++AJ (0:Rat)) (pv:=[]) zeroValue123 underlying123 sizeOf53 O (K9 )) O (IF O sizeOf123 O (AL O (AE.nil ?_)))))
 refine AD.subF (sL [4,5,6,8,9,10,11,32,12,13] O) (AD.then_ (AF.ret (AD.then_ret (AD.in_ret (AD.then_ret ?_)))))
 exact AD.then_ret (AD.in_ret (AD.then_ret (C9 O (Az (i:=3) (cs:=AJ (0:Rat)++AJ (0:Rat)++AJ (0:Rat)) O O isAgg123 sizeOf123 O) (Ai (v:=(vI 1)) O) (λw hw=>⟨rfl,hw.out⟩))))
end
def zq (q:Rat):Nat:=if q.num.sign=0 then 1 else 0
def F0 (x y z:Rat):Nat:=if x.num.sign = -1\/y.num.sign = -1\/z.num.sign = -1 then 0 else 1+zq x+zq y+zq z
theorem PY {x y z:Rat} (h:x.num.sign = -1):F0 x y z=0:=if_pos (.inl h)
theorem PL {x y z:Rat} (h:y.num.sign = -1):F0 x y z=0:=if_pos (.inr (.inl h))
theorem PP {x y z:Rat} (h:z.num.sign = -1):F0 x y z=0:=if_pos (.inr (.inr h))
theorem U5 {x y z:Rat} (h1:¬x.num.sign = -1) (h2:¬y.num.sign = -1) (h3:¬z.num.sign = -1):F0 x y z=1+zq x+zq y+zq z:=if_neg (by simp [h1,h2,h3])
theorem Pn {x:Rat} (h:x.num.sign=0):zq x=1:=if_pos h
theorem ND {x:Rat} (h:¬x.num.sign=0):zq x=0:=if_neg h
theorem Sg (x:Rat):zq x<=1:=by unfold zq;split<;>omega
section
set_option maxRecDepth 100000
end
section
set_option maxRecDepth 100000
end
section
set_option maxRecDepth 100000
set_option maxHeartbeats 2000000 in
theorem SI (a b c p:Pt) (hs:B5 a+B5 b+B5 c+B5 p<=268435456) (h:AU a b c≠0) (w:World)  :Calls prog 22 #[(aG (Am a)),(aG (Am b)),(aG (Am c)),(aG (Am p))] w (Aq w (vN (F0 (AU p b c/AU a b c) (AU a p c/AU a b c) (AU a b p/AU a b c)))):=by
 obtain ⟨l0,hl0⟩:∃l,l=AU p b c/AU a b c:=⟨_,rfl⟩
 obtain ⟨l1,hl1⟩:∃l,l=AU a p c/AU a b c:=⟨_,rfl⟩
 obtain ⟨l2,hl2⟩:∃l,l=AU a b p/AU a b c:=⟨_,rfl⟩
 refine Ae (args:=[(aG (Am a)),(aG (Am b)),(aG (Am c)),(aG (Am p))]) func22 O O (Ac O) (AF.subF (sL [0,1,2,3] O) (q4 (Bg (cs:=Am a) O λb1=>Bg (cs:=Am b) O λb2=>Bg (cs:=Am c) O λb3=>?_)))
 refine Bg (cs:=Am p) O λb4=>AL O (q3 (sL [4,5,6,7,8] O) (BA 3 BQ O (BA 2 BQ O (BA 1 BQ O ?_))))
 refine BA 0 BQ O (Ee (args:=[(aG (Am a)),(aG (Am b)),(aG (Am c)),(aG (Am p))]) (v:=(Value.tuple #[(aG (AJ l0++AJ l1++AJ l2)),(vI 0)])) call62 (λw hw=>(by rw [hl0,hl1,hl2];exact WA a b c p Z h w)) O (AS O (AH (AZ (v:=(aG (AJ l0++AJ l1++AJ l2))) O O) O (AH (AZ (v:=(vI 0)) O O) O (al MC O λb5=>?_)))))
 refine Aw O sizeOf123 O (AL O (q6 (sL [8,9,10] O) (q4 (AS O (AH (CB (c:=false) O O (by decide)) O ?_)))))
 refine AE.nil (AD.subF (sL [8,9,22] O) (AD.then_ (AF.cond_false O (AF.skip (q2 ?_)))))
 refine AL O (q6 (sL [8,9,11] O) (q4 (AS O (AE.nil (AD.then_ ?_)))))
 refine AF.block (AF.unroll 5 (FO.step (q4 (AH (Ak (c:=true) O O (by decide)) O (AE.nil ?_)))))
 refine q1 (AF.cond_true O (AF.skip (q1 (AF.block (q4 ?_)))))
 refine AS O (AL O (q3 (sL [8,9,11,23,12] O) (AS O (AH (v:=(pP b5 0)) (AC (j:=0) O O underlying123 sizeOf53 O (by decide) O) O (EP 0 (AJ l0) Bm O ?_)))))
 refine BR call63 (FB l0) O (AE.nil (AD.subF (sL [8,9,11,23,29] O) (AD.then_ ?_)))
 refine AF.jn1 (tg λ(pl0:Nat)=>pl0=1+zq l0/\¬l0.num.sign = -1) (tg λ(pl0:Nat)=>[(9,(pP b5 0)),(23,(vI 0)),(11,(vN pl0))]) (tg λ(pl0:Nat)=>[Ag b5 123 (AJ l0++AJ l1++AJ l2),Ag b4 55 (Am p),Ag b3 55 (Am c),Ag b2 55 (Am b),Ag b1 55 (Am a)]) ?_ ?_
 ·skip
  refine AF.block (q4 (AH (BY (c:=(decide (l0.num.sign=(-1:Int)))) O O O) O (AL O (AE.nil (AD.subF (sL [8,9,11,23,29,30] O) ?_)))))
  refine AD.then_ ?_
  refine AF.cond O (λhc2=>?_) (λhc2=>?_)
  ·replace hc2:=of_decide_eq_true hc2
   have hz:=PY (x:=l0) (y:=l1) (z:=l2) hc2
   refine q4 (AL O (AE.nil (AD.then_ (AF.ret (AD.in_ret ?_)))))
   exact AD.join1_ret (AD.in_ret (AD.then_ret (AD.then_ret (AD.in_ret (AD.then_ret (AR O (Ai (v:=(vI 0)) O) (λw hw=>⟨by rw [<-hl0,<-hl1,<-hl2,hz];rfl,hw.out⟩)))))))
  ·replace hc2:=of_decide_eq_false hc2
   refine q4 (AH (BY (c:=(decide (l0.num.sign=(0:Int)))) O O O) O (AL O (AE.nil (AD.subF (sL [8,9,11,23,29,32] O) (AD.then_ ?_)))))
   refine AF.cond O (λhc3=>?_) (λhc3=>?_)
   ·replace hc3:=of_decide_eq_true hc3
    refine AF.region (AS O (AH (AW (c:=(2:Int)) O O (by decide)) O (AL O (AE.nil (AD.subF (sL [8,9,11,23,29] O) ?_)))))
    exact AD.in_normal (AD.join1 2 (⟨by simp [Pn hc3],hc2⟩) (sF O) sr)
   ·replace hc3:=of_decide_eq_false hc3
    exact AF.skip (AD.in_normal (AD.join1 1 (⟨by simp [ND hc3],hc2⟩) (sF O) sr))
 ·intro pl0 hJ
  obtain ⟨e0,n0⟩:=hJ
  have zz0:=Sg l0
  refine AD.in_normal (AD.then_ (AF.region (AH (AW (c:=(1:Int)) O O (by decide)) O (AS O (AE.nil ?_)))))
  refine AD.subF (sL [9,23,11] O) (AD.again (FO.step (q4 (AH (Ak (c:=true) O O (by decide)) O (AE.nil ?_)))))
  refine q1 (AF.cond_true O (AF.skip (q1 (AF.block (q4 ?_)))))
  refine AS O (AL O (q3 (sL [9,23,11,12] O) (AS O (AH (v:=(pP b5 5)) (AC (j:=1) O O underlying123 sizeOf53 O (by decide) O) O (EP 0 (AJ l1) Bm O ?_)))))
  refine BR call63 (FB l1) O (AE.nil (AD.subF (sL [9,23,11,29] O) (AD.then_ ?_)))
  refine AF.jn1 (tg λ(pl1:Nat)=>pl1=pl0+zq l1/\¬l1.num.sign = -1) (tg λ(pl1:Nat)=>[(9,(pP b5 0)),(23,(vI 1)),(11,(vN pl1))]) (tg λ(pl1:Nat)=>[Ag b5 123 (AJ l0++AJ l1++AJ l2),Ag b4 55 (Am p),Ag b3 55 (Am c),Ag b2 55 (Am b),Ag b1 55 (Am a)]) ?_ ?_
  ·skip
   refine AF.block (q4 (AH (BY (c:=(decide (l1.num.sign=(-1:Int)))) O O O) O (AL O (AE.nil (AD.subF (sL [9,23,11,29,30] O) ?_)))))
   refine AD.then_ ?_
   refine AF.cond O (λhc2=>?_) (λhc2=>?_)
   ·replace hc2:=of_decide_eq_true hc2
    have hz:=PL (x:=l0) (y:=l1) (z:=l2) hc2
    refine q4 (AL O (AE.nil (AD.then_ (AF.ret (AD.in_ret ?_)))))
    exact AD.join1_ret (AD.in_ret (AD.then_ret (AD.then_ret (AD.in_ret (AD.then_ret (AR O (Ai (v:=(vI 0)) O) (λw hw=>⟨by rw [<-hl0,<-hl1,<-hl2,hz];rfl,hw.out⟩)))))))
   ·replace hc2:=of_decide_eq_false hc2
    refine q4 (AH (BY (c:=(decide (l1.num.sign=(0:Int)))) O O O) O (AL O (AE.nil (AD.subF (sL [9,23,11,29,32] O) (AD.then_ ?_)))))
    refine AF.cond O (λhc3=>?_) (λhc3=>?_)
    ·replace hc3:=of_decide_eq_true hc3
     refine AF.region (AS O (AH (AW (c:=((pl0+1:Nat):Int)) O O (AX (a:=pl0) (b:=1) Z)) O (AL O (AE.nil (AD.subF (sL [9,23,11,29] O) ?_)))))
     exact AD.in_normal (AD.join1 (pl0+1) (⟨by simp [Pn hc3],hc2⟩) (sF O) sr)
    ·replace hc3:=of_decide_eq_false hc3
     exact AF.skip (AD.in_normal (AD.join1 pl0 (⟨by simp [ND hc3],hc2⟩) (sF O) sr))
  ·intro pl1 hJ
   obtain ⟨e1,n1⟩:=hJ
   have zz1:=Sg l1
   refine AD.in_normal (AD.then_ (AF.region (AH (AW (c:=(2:Int)) O O (by decide)) O (AS O (AE.nil ?_)))))
   refine AD.subF (sL [9,23,11] O) (AD.again (FO.step (q4 (AH (Ak (c:=true) O O (by decide)) O (AE.nil ?_)))))
   refine q1 (AF.cond_true O (AF.skip (q1 (AF.block (q4 ?_)))))
   refine AS O (AL O (q3 (sL [9,23,11,12] O) (AS O (AH (v:=(pP b5 10)) (AC (j:=2) O O underlying123 sizeOf53 O (by decide) O) O (EP 0 (AJ l2) Bm O ?_)))))
   refine BR call63 (FB l2) O (AE.nil (AD.subF (sL [9,23,11,29] O) (AD.then_ ?_)))
   refine AF.jn1 (tg λ(pl2:Nat)=>pl2=pl1+zq l2/\¬l2.num.sign = -1) (tg λ(pl2:Nat)=>[(9,(pP b5 0)),(23,(vI 2)),(11,(vN pl2))]) (tg λ(pl2:Nat)=>[Ag b5 123 (AJ l0++AJ l1++AJ l2),Ag b4 55 (Am p),Ag b3 55 (Am c),Ag b2 55 (Am b),Ag b1 55 (Am a)]) ?_ ?_
   ·skip
    refine AF.block (q4 (AH (BY (c:=(decide (l2.num.sign=(-1:Int)))) O O O) O (AL O (AE.nil (AD.subF (sL [9,23,11,29,30] O) ?_)))))
    refine AD.then_ ?_
    refine AF.cond O (λhc2=>?_) (λhc2=>?_)
    ·replace hc2:=of_decide_eq_true hc2
     have hz:=PP (x:=l0) (y:=l1) (z:=l2) hc2
     refine q4 (AL O (AE.nil (AD.then_ (AF.ret (AD.in_ret ?_)))))
     exact AD.join1_ret (AD.in_ret (AD.then_ret (AD.then_ret (AD.in_ret (AD.then_ret (AR O (Ai (v:=(vI 0)) O) (λw hw=>⟨by rw [<-hl0,<-hl1,<-hl2,hz];rfl,hw.out⟩)))))))
    ·replace hc2:=of_decide_eq_false hc2
     refine q4 (AH (BY (c:=(decide (l2.num.sign=(0:Int)))) O O O) O (AL O (AE.nil (AD.subF (sL [9,23,11,29,32] O) (AD.then_ ?_)))))
     refine AF.cond O (λhc3=>?_) (λhc3=>?_)
     ·replace hc3:=of_decide_eq_true hc3
      refine AF.region (AS O (AH (AW (c:=((pl1+1:Nat):Int)) O O (AX (a:=pl1) (b:=1) Z)) O (AL O (AE.nil (AD.subF (sL [9,23,11,29] O) ?_)))))
      exact AD.in_normal (AD.join1 (pl1+1) (⟨by simp [Pn hc3],hc2⟩) (sF O) sr)
     ·replace hc3:=of_decide_eq_false hc3
      exact AF.skip (AD.in_normal (AD.join1 pl1 (⟨by simp [ND hc3],hc2⟩) (sF O) sr))
   ·intro pl2 hJ
    obtain ⟨e2,n2⟩:=hJ
    have zz2:=Sg l2
    refine AD.in_normal (AD.then_ (AF.region (AH (AW (c:=(3:Int)) O O (by decide)) O (AS O (AE.nil ?_)))))
    refine AD.subF (sL [9,23,11] O) (AD.again (FO.step (q4 (AH (Ak (c:=false) O O (by decide)) O (AE.nil ?_)))))
    refine q1 (AF.cond_false O (AF.exit (AD.then_exit (AD.then_exit (AD.in_exit ?_)))))
    refine q2 (AS O (AL O (AE.nil (AD.subF (sL [9,23,11,8] O) (AD.then_ ?_)))))
    exact AF.ret (AR O (Ai (v:=(vN pl2)) O) (λw hw=>⟨by rw [<-hl0,<-hl1,<-hl2,U5 n0 n1 n2,e2,e1,e0],hw.out⟩))
theorem Rv (a b c p:Pt) (hs:B5 a+B5 b+B5 c+B5 p<=268435456) (h:AU a b c=0) (w:World)  :Calls prog 22 #[(aG (Am a)),(aG (Am b)),(aG (Am c)),(aG (Am p))] w (Aq w (vI 0)):=by
 refine Ae (args:=[(aG (Am a)),(aG (Am b)),(aG (Am c)),(aG (Am p))]) func22 O O (Ac O) (AF.subF (sL [0,1,2,3] O) (q4 (Bg (cs:=Am a) O λb1=>Bg (cs:=Am b) O λb2=>Bg (cs:=Am c) O λb3=>?_)))
 refine Bg (cs:=Am p) O λb4=>AL O (q3 (sL [4,5,6,7,8] O) (BA 3 BQ O (BA 2 BQ O (BA 1 BQ O ?_))))
 refine BA 0 BQ O (BR call62 (To a b c p Z h) O (AS O (AH (AZ (v:=(aG (AJ (0:Rat)++AJ (0:Rat)++AJ (0:Rat)))) O O) O (AH (AZ (v:=(vI 1)) O O) O (al MC O λb5=>?_)))))
 refine Aw O sizeOf123 O (AL O (q6 (sL [8,9,10] O) (q4 (AS O (AH (CB (c:=true) O O (by decide)) O ?_)))))
 refine AE.nil (AD.subF (sL [8,9,22] O) (AD.then_ (AF.cond_true O (q4 (AL O ?_)))))
 exact AE.nil (AD.subF (sL [8,9] O) (AD.then_ (AF.ret (AD.then_ret (AR O (Ai (v:=(vI 0)) O) (λw hw=>⟨rfl,hw.out⟩))))))
end
section
set_option maxRecDepth 100000
end
end Go.Proofs.YtfbomiejpbchdaaGreat
