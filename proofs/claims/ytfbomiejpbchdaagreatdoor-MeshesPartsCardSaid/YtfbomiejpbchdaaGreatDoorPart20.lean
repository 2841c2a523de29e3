import Derived.Test.YtfbomiejpbchdaaGreatDoorPart06
import Derived.Test.YtfbomiejpbchdaaGreatDoorPart19
namespace Go.Proofs.YtfbomiejpbchdaaGreatDoor
open Go Go.RowKit Go.Proofs.Tryz
set_option linter.unusedVariables false
set_option linter.unusedSimpArgs false
section
set_option maxRecDepth 100000
theorem Cq (x0:Rat) (x1:Rat):Instr.fill ([(0,5),(5,5)].toArray[·]?) (Ah (⟨0,0⟩:Pt)).toArray [(0,.agg (AJ x0).toArray),(1,.agg (AJ x1).toArray)]=some (AJ x0++AJ x1).toArray:=by kernel_rfl
theorem Ly (a b:Pt) (hs:B4 a+B4 b<=68719476736) (w:World)  :Calls prog 152 #[(aG (Ah a)),(aG (Ah b)),(Value.func (.func 58) #[] #[])] w (Al w (aG (Ah (a-b)))):=by
 have p1:=F_ a
 have p2:=F5 a
 have p3:=F_ b
 have p4:=F5 b
 refine Ac (args:=[(aG (Ah a)),(aG (Ah b)),(Value.func (.func 58) #[] #[])]) func152 O O (Ad O) (AF.subF (sL [0,1,2] O) (q4 (Bi (cs:=Ah a) O λb1=>Bi (cs:=Ah b) O λb2=>al E7 O λb3=>?_)))
 refine q6 (sL [2,3,4,6] O) (C2 [(0,true),(1,true),(2,true),(3,true),(4,true),(6,true),(7,true),(8,true),(9,true),(10,true),(5,false),(11,false),(12,true),(13,false)] (sl sr) (Bm O (Ay (v:=(pP b1 0)) O (AA O underlying63 O sizeOf61 O) (HW 1 (AJ a.x) Bg O (Ay (v:=(pP b2 0)) O (AA O underlying63 O sizeOf61 O) ?_)))))
 refine HW 0 (AJ b.x) Bg O (Bm O (Ay (v:=(pP b1 5)) O (AA O underlying63 O sizeOf61 O) (HW 1 (AJ a.y) Bg O (Ay (v:=(pP b2 5)) O (AA O underlying63 O sizeOf61 O) (HW 0 (AJ b.y) Bg O ?_)))))
 refine AS.imp O ?_
 have hz1:=HR a.x b.x
 refine BS call58 (KD a.x b.x (by (try simp only [Ek]);omega)) O (AS.back (sl sr) (AS.imp O ?_))
 have hz2:=HR a.y b.y
 refine BS call58 (KD a.y b.y (by (try simp only [Ek]);omega)) O (AS.back (sl sr) (Ay (v:=(aG (AJ (a.x-b.x)++AJ (a.y-b.y)))) O (AV (zs:=Ah (⟨0,0⟩:Pt)) (vs:=AJ (a.x-b.x)++AJ (a.y-b.y)) (pv:=[(0,(aG (AJ (a.x-b.x)))),(1,(aG (AJ (a.y-b.y))))]) (places:=[(0,5),(5,5)]) zeroValue63 underlying63 (λw=>by simp [sizeOf61]) O (Cq (a.x-b.x) (a.y-b.y))) (AS.imp O (Av O sizeOf63 O (AS.back (sl sr) ?_)))))
 exact AS.nil (AC.subF (sL [6] O) (AC.then_ (AF.ret (AN O (A7 (i:=0) (cs:=AJ (a.x-b.x)++AJ (a.y-b.y)) O O isAgg63 sizeOf63 O) (λw hw=>⟨by rw [SB],hw.out⟩)))))
theorem H6 (a b:Pt) (hs:B4 a+B4 b<=68719476736) (w:World)  :Calls prog 116 #[(aG (Ah a)),(aG (Ah b))] w (Al w (aG (Ah (a-b)))):=by
 refine Ac (args:=[(aG (Ah a)),(aG (Ah b))]) func116 O O (Ad O) (AF.subF (sL [0,1] O) (q4 (Bi (cs:=Ah a) O λb1=>Bi (cs:=Ah b) O λb2=>al E7 O λb3=>?_)))
 refine q3 (sL [2,3,4] O) (BA 2 BM O (BA 1 BM O (BS call152 (Ly a b Z) O (Av O sizeOf63 O (AE.nil ?_)))))
 exact AC.subF (sL [4] O) (AC.then_ (AF.ret (AN O (A7 (i:=0) (cs:=Ah (a-b)) O O isAgg63 sizeOf63 O) (λw hw=>⟨rfl,hw.out⟩))))
theorem J1 (a b:Pt) (hs:B4 a+B4 b<=68719476736) (w:World)  :Calls prog 18 #[(aG (Ah a)),(aG (Ah b))] w (Al w (aG (AJ (HU a b)))):=by
 have p1:=F_ a
 have p2:=F5 a
 have p3:=F_ b
 have p4:=F5 b
 refine Ac (args:=[(aG (Ah a)),(aG (Ah b))]) func18 O O (Ad O) (AF.subF (sL [0,1] O) (q4 (Bi (cs:=Ah a) O λb1=>Bi (cs:=Ah b) O λb2=>al Df O λb3=>?_)))
 refine q6 (sL [2,3,4] O) (C2 [(0,true),(1,true),(2,true),(3,true),(5,true),(6,true),(7,true),(8,true),(4,false),(9,false),(10,false),(11,false)] (sl sr) (Ay (v:=(pP b1 0)) O (AA O underlying63 O sizeOf61 O) (HW 1 (AJ a.x) Bg O (Ay (v:=(pP b2 5)) O (AA O underlying63 O sizeOf61 O) (HW 0 (AJ b.y) Bg O ?_)))))
 refine Ay (v:=(pP b1 5)) O (AA O underlying63 O sizeOf61 O) (HW 1 (AJ a.y) Bg O (Ay (v:=(pP b2 0)) O (AA O underlying63 O sizeOf61 O) (HW 0 (AJ b.x) Bg O (AS.imp O ?_))))
 have hz1:=Dd a.x b.y
 refine BS call26 (Gl a.x b.y (by (try simp only [Ek]);omega)) O (AS.back (sl sr) (AS.imp O ?_))
 have hz2:=Dd a.y b.x
 refine BS call26 (Gl a.y b.x (by (try simp only [Ek]);omega)) O (AS.back (sl sr) (AS.imp O ?_))
 have hz3:=HR (a.x*b.y) (a.y*b.x)
 refine BS call58 (KD (a.x*b.y) (a.y*b.x) (by (try simp only [Ek]);omega)) O (AS.back (sl sr) (AS.imp O (Av O sizeOf61 O (AS.back (sl sr) (AS.nil ?_)))))
 exact AC.subF (sL [4] O) (AC.then_ (AF.ret (AN O (A7 (i:=0) (cs:=AJ ((a.x*b.y)-(a.y*b.x))) O O isAgg61 sizeOf61 O) (λw hw=>⟨rfl,hw.out⟩))))
theorem Gq (a b c:Pt) (hs:B4 a+B4 b+B4 c<=17179869184) (w:World)  :Calls prog 117 #[(aG (Ah a)),(aG (Ah b)),(aG (Ah c))] w (Al w (vI ((Aa a b c).num.sign))):=by
 refine Ac (args:=[(aG (Ah a)),(aG (Ah b)),(aG (Ah c))]) func117 O O (Ad O) (AF.subF (sL [0,1,2] O) (q4 (Bi (cs:=Ah a) O λb1=>Bi (cs:=Ah b) O λb2=>Bi (cs:=Ah c) O λb3=>?_)))
 refine AK O (q6 (sL [3,4,5,6] O) (C2 [(0,true),(1,true),(3,true),(4,true),(2,false),(5,false),(6,false),(7,false),(8,true)] sr (EH 1 BM O (EH 2 BM O (EH 0 BM O ?_)))))
 refine EH 2 BM O (AS.imp O ?_)
 have hz1:=F0 b a
 refine BS call116 (H6 b a Z) O (AS.back sr (AS.imp O ?_))
 have hz2:=F0 c a
 refine BS call116 (H6 c a Z) O (AS.back sr (AS.imp O ?_))
 have hz3:=JC (b-a) (c-a)
 refine BS call18 (J1 (b-a) (c-a) Z) O (AS.back sr (AS.imp O (BS call20 (EM (HU (b-a) (c-a))) O (AS.back sr (EW O ?_)))))
 exact AS.nil (AC.subF (sL [6] O) (AC.then_ (AF.ret (AN O (Ab (v:=(vI ((HU (b-a) (c-a)).num.sign))) O) (λw hw=>⟨rfl,hw.out⟩)))))
theorem H1 (x y:Int) (h1:-9223372036854775808<=x) (h2:x<9223372036854775808) (h3:-9223372036854775808<=y) (h4:y<9223372036854775808) (w:World)  :Calls prog 31 #[(vI x),(vI y)] w (Al w (aG (Ah (⟨((x:Int):Rat),((y:Int):Rat)⟩:Pt)))):=by
 refine Ac (args:=[(vI x),(vI y)]) func31 O O (Ad O) (AF.subF (sL [0,1] O) (q4 (al E7 O λb1=>AE.nil (q2 ?_))))
 refine AO O (BS call27 (G3 x Z Z) O (AO O (BS call27 (G3 y Z Z) O (AH (v:=(aG (AJ ((x:Int):Rat)++AJ ((y:Int):Rat)))) (AV (zs:=Ah (⟨0,0⟩:Pt)) (vs:=AJ ((x:Int):Rat)++AJ ((y:Int):Rat)) (pv:=[(0,(aG (AJ ((x:Int):Rat)))),(1,(aG (AJ ((y:Int):Rat))))]) (places:=[(0,5),(5,5)]) zeroValue63 underlying63 (λw=>by simp [sizeOf61]) O (Cq ((x:Int):Rat) ((y:Int):Rat))) O (Av O sizeOf63 O ?_)))))
 exact AE.nil (AC.subF (sL [4] O) (AC.then_ (AF.ret (AN O (A7 (i:=0) (cs:=AJ ((x:Int):Rat)++AJ ((y:Int):Rat)) O O isAgg63 sizeOf63 O) (λw hw=>⟨by rw [Ty],hw.out⟩)))))
end
section
set_option maxRecDepth 100000
theorem Qx (x y:Int) (h1:-9223372036854775808<=x) (h2:x<9223372036854775808) (h3:-9223372036854775808<=y) (h4:y<9223372036854775808) (hy:y≠0) (w:World)  :Calls prog 115 #[(vI x),(vI y)] w (Al w (Value.tuple #[(aG (AJ (((x:Int):Rat)/((y:Int):Rat)))),(vI 0)])):=by
 have hb:((y:Int):Rat)≠0:=λe=>hy (by exact_mod_cast e)
 have s1:=Io h1 h2
 have s2:=Io h3 h4
 refine Ac (args:=[(vI x),(vI y)]) func115 O O (Ad O) (AF.subF (sL [0,1] O) (q4 (al Df O λb1=>AK O (AE.nil ?_))))
 refine q2 (AO O (BS call27 (G3 x Z Z) O (AO O (BS call27 (G3 y Z Z) O ?_))))
 have hz1:=Ib (a:=((x:Int):Rat)) (b:=((y:Int):Rat)) (by assumption)
 refine BS call114 (H4 ((x:Int):Rat) ((y:Int):Rat) Z (by assumption)) O (AH (AX (v:=(aG (AJ (((x:Int):Rat)/((y:Int):Rat))))) O O) O (AH (AX (v:=(vI 0)) O O) O (Av O sizeOf61 O (AK O (AE.nil ?_)))))
 exact AC.subF (sL [4,5] O) (AC.then_ (AF.ret (Ch O (A7 (i:=0) (cs:=AJ (((x:Int):Rat)/((y:Int):Rat))) O O isAgg61 sizeOf61 O) (Ab (v:=(vI 0)) O) (λw hw=>⟨rfl,hw.out⟩))))
theorem P1 (x:Rat) (hs:Sz x<=137438953472) (w:World)  :Calls prog 65 #[(aG (AJ x))] w (Al w (aG (AJ (x*(1/2))))):=by
 have sh:=Kw
 refine Ac (args:=[(aG (AJ x))]) func65 O O (Ad O) (AF.subF (sL [0] O) (q4 (Bi (cs:=AJ x) O λb1=>al Df O λb2=>q3 (sL [1,2] O) ?_)))
 refine BS call115 (Qx (1:Int) (2:Int) Z Z Z Z Z) O (AO O (AH (AX (v:=(aG (AJ (((1:Int):Rat)/((2:Int):Rat))))) O O) O (AE.retell (k:=7) (u:=(aG (AJ ((1:Rat)/2)))) O (by rw [Ss]) (AH (AX (v:=(vI 0)) O O) O (al Df O λb3=>?_)))))
 refine Av O sizeOf61 O (AK O (q3 (sL [1,2,3] O) (BA 2 Bg O (BA 0 Bg O ?_))))
 have hz1:=Dd x ((1:Rat)/2)
 exact BS call26 (Gl x ((1:Rat)/2) (by (try simp only [Ek]);omega)) O (Ci O sizeOf61 O (AE.nil (AC.subF (sL [2,3] O) (AC.then_ (AF.ret (AN O (A7 (i:=1) (cs:=AJ (x*((1:Rat)/2))) O O isAgg61 sizeOf61 O) (λw hw=>⟨rfl,hw.out⟩)))))))
theorem DS (a b c:Pt) (hs:B4 a+B4 b+B4 c<=8589934592) (w:World)  :Calls prog 66 #[(aG (Ah a)),(aG (Ah b)),(aG (Ah c))] w (Al w (aG (AJ (Aa a b c)))):=by
 refine Ac (args:=[(aG (Ah a)),(aG (Ah b)),(aG (Ah c))]) func66 O O (Ad O) (AF.subF (sL [0,1,2] O) (q4 (Bi (cs:=Ah a) O λb1=>Bi (cs:=Ah b) O λb2=>Bi (cs:=Ah c) O λb3=>?_)))
 refine al Df O λb4=>q6 (sL [3,4,5,6] O) (C2 [(0,true),(1,true),(3,true),(4,true),(2,false),(5,false),(6,false),(7,false)] (sl sr) (EH 1 BM O (EH 2 BM O (EH 0 BM O ?_))))
 refine EH 2 BM O (AS.imp O ?_)
 have hz1:=F0 b a
 refine BS call116 (H6 b a Z) O (AS.back (sl sr) (AS.imp O ?_))
 have hz2:=F0 c a
 refine BS call116 (H6 c a Z) O (AS.back (sl sr) (AS.imp O ?_))
 have hz3:=JC (b-a) (c-a)
 refine BS call18 (J1 (b-a) (c-a) Z) O (AS.back (sl sr) (AS.imp O (Av O sizeOf61 O (AS.back (sl sr) (AS.nil ?_)))))
 exact AC.subF (sL [6] O) (AC.then_ (AF.ret (AN O (A7 (i:=0) (cs:=AJ (HU (b-a) (c-a))) O O isAgg61 sizeOf61 O) (λw hw=>⟨rfl,hw.out⟩))))
theorem Kp (a b c:Pt) (hs:B4 a+B4 b+B4 c<=8589934592) (w:World)  :Calls prog 25 #[(aG (Ah a)),(aG (Ah b)),(aG (Ah c))] w (Al w (aG (AJ (Aa a b c*(1/2))))):=by
 refine Ac (args:=[(aG (Ah a)),(aG (Ah b)),(aG (Ah c))]) func25 O O (Ad O) (AF.subF (sL [0,1,2] O) (q4 (Bi (cs:=Ah a) O λb1=>Bi (cs:=Ah b) O λb2=>Bi (cs:=Ah c) O λb3=>?_)))
 refine al Df O λb4=>q3 (sL [3,4,5,6] O) (BA 3 BM O (BA 2 BM O (BA 1 BM O ?_)))
 have hz1:=Cz a b c
 refine BS call66 (DS a b c Z) O ?_
 have hz2:=Dd (Aa a b c) (1/2)
 exact BS call65 (P1 (Aa a b c) Z) O (Av O sizeOf61 O (AE.nil (AC.subF (sL [6] O) (AC.then_ (AF.ret (AN O (A7 (i:=0) (cs:=AJ ((Aa a b c)*(1/2))) O O isAgg61 sizeOf61 O) (λw hw=>⟨rfl,hw.out⟩)))))))
end
section
set_option maxRecDepth 100000
theorem CC (x0:Rat) (x1:Rat) (x2:Rat):Instr.fill (λi=>some (i*5,5)) (AJ (0:Rat)++AJ (0:Rat)++AJ (0:Rat)).toArray [(0,.agg (AJ x0).toArray),(1,.agg (AJ x1).toArray),(2,.agg (AJ x2).toArray)]=some (AJ x0++AJ x1++AJ x2).toArray:=by kernel_rfl
theorem SY (a b c p:Pt) (hs:B4 a+B4 b+B4 c+B4 p<=268435456) (h:Aa a b c≠0) (w:World)  :Calls prog 64 #[(aG (Ah a)),(aG (Ah b)),(aG (Ah c)),(aG (Ah p))] w (Al w (Value.tuple #[(aG (AJ (Aa p b c/Aa a b c)++AJ (Aa a p c/Aa a b c)++AJ (Aa a b p/Aa a b c))),(vI 0)])):=by
 refine Ac (args:=[(aG (Ah a)),(aG (Ah b)),(aG (Ah c)),(aG (Ah p))]) func64 O O (Ad O) (AF.subF (sL [0,1,2,3] O) (q4 (Bi (cs:=Ah a) O λb1=>Bi (cs:=Ah b) O λb2=>Bi (cs:=Ah c) O λb3=>?_)))
 refine Bi (cs:=Ah p) O λb4=>al Js O λb5=>AK O (q3 (sL [4,5,6,7,8,9] O) (BA 4 BM O (BA 3 BM O ?_)))
 refine BA 2 BM O ?_
 have hz1:=Cz a b c
 refine BS call66 (DS a b c Z) O (al Df O λb6=>Av O sizeOf61 O (q6 (sL [4,5,6,7,8,9,10] O) (rN [(0,true),(1,true),(2,true),(4,true),(5,true),(6,true),(8,true),(9,true),(10,true),(3,false),(7,false),(11,false),(12,true)] [⟨13,11,136,AJ (0:Rat)++AJ (0:Rat)++AJ (0:Rat)⟩] [(14,false)] sr (by kernel_rfl) (λ_ _ d _ _ h=>by cases d<;>exact h) (EV O O Js O (Gn)) O (GZ 2 BM O ?_))))
 refine GZ 4 BM O (GZ 3 BM O (GZ 5 BM O (GZ 2 BM O (GZ 3 BM O (GZ 5 BM O ?_)))))
 refine GZ 4 BM O (GZ 2 BM O (B6.imp O λEF EL=>?_))
 have hz2:=Cz p b c
 refine BS call66 (DS p b c Z) O (B6.back0 sr O (B6.imp O λEF EL=>?_))
 have hz3:=Cz a p c
 refine BS call66 (DS a p c Z) O (B6.back0 sr O (B6.imp O λEF EL=>?_))
 have hz4:=Cz a b p
 refine BS call66 (DS a b p Z) O (B6.back0 sr O (E1 (v:=(aG (AJ (Aa p b c)++AJ (Aa a p c)++AJ (Aa a b p)))) O (Aq (zs:=AJ (0:Rat)++AJ (0:Rat)++AJ (0:Rat)) (vs:=AJ (Aa p b c)++AJ (Aa a p c)++AJ (Aa a b p)) (pv:=[(0,(aG (AJ (Aa p b c)))),(1,(aG (AJ (Aa a p c)))),(2,(aG (AJ (Aa a b p))))]) zeroValue136 underlying136 sizeOf61 O (CC (Aa p b c) (Aa a p c) (Aa a b p))) O (B6.news1 λb7=>AS.imp O (Av O sizeOf136 O ?_))))
 refine AS.back (sl sr) (AS.nil (AC.subF (sL [4,5,6,8,9,10,11] O) (q1 (q4 (AO O ?_)))))
 refine AE.nil (AC.then_ (AF.block (AF.unroll 5 (Eb.step (q4 ?_)))))
 refine AH (Af (c:=true) O O (by decide)) O (AE.nil (q1 (AF.cond_true O (AF.skip (q1 ?_)))))
 refine AF.block (q4 (AO O (AK O (q6 (sL [4,5,6,8,9,10,11,32,12] O) (rN [(0,true),(1,true),(2,true),(3,true),(4,false),(5,true),(6,true),(7,true)] [⟨8,13,61,AJ (0:Rat)⟩] [(9,false),(10,true)] sr (by kernel_rfl) (λ_ _ d _ _ h=>by cases d<;>exact h) (EV O O Df O (Gn)) O ?_)))))
 refine JW O (E1 (v:=(pP b7 0)) O (AD (j:=0) O O underlying136 sizeOf61 O (by decide) O) O (QE 0 (AJ (Aa p b c)) Bg O (GZ 1 Bg O (B6.imp O λEF EL=>?_))))
 have hz5:=Ib (a:=Aa p b c) (b:=Aa a b c) (by assumption)
 refine BS call114 (H4 (Aa p b c) (Aa a b c) Z (by assumption)) O (B6.back0 sr O (JW O (E1 O (AX (v:=(aG (AJ ((Aa p b c)/(Aa a b c))))) O O) O (E1 O (AX (v:=(vI 0)) O O) O (B6.news1 λb8=>?_)))))
 refine AS.imp O (Av O sizeOf61 O (AS.back (sl sr) (EW O (AS.nil (AC.subF (sL [4,5,6,8,9,10,11,32,12,13,14] O) ?_)))))
 refine q1 (q4 (AO O (AH (CS (c:=false) O O (by decide)) O (AE.nil (AC.subF (sL [4,5,6,8,9,10,11,32,12,13,44] O) ?_)))))
 refine AC.then_ (AF.cond_false O (AF.skip (AC.then_ (AF.region (AO O ?_)))))
 refine BA 0 Bg O (AH (v:=(pP b7 0)) (AD (j:=0) O O underlying136 sizeOf61 O (by decide) O) O (Fc 1 (off:=0) (vs:=AJ ((Aa p b c)/(Aa a b c))) (cs':=AJ ((Aa p b c)/(Aa a b c))++AJ (Aa a p c)++AJ (Aa a b p)) (AP O) O sizeOf61 O (AE.nil (AC.subF (sL [4,5,6,8,9,10,11,32,12,13] O) (AC.in_normal ?_)))))
 refine AC.then_ (AF.region (AH (AW (c:=(1:Int)) O O (by decide)) O (AO O (AE.nil (AC.subF (sL [4,5,6,8,9,10,11,32,12,13] O) ?_)))))
 refine AC.again (Eb.step (q4 (AH (Af (c:=true) O O (by decide)) O (AE.nil (q1 ?_)))))
 refine AF.cond_true O (AF.skip (q1 (AF.block (q4 (AO O ?_)))))
 refine AK O (q6 (sL [4,5,6,8,9,10,11,32,12,13] O) (AF.subF (sL [4,5,6,8,9,10,11,32,12] O) (rN [(0,true),(1,true),(2,true),(3,true),(4,false),(5,true),(6,true),(7,true)] [⟨8,13,61,AJ (0:Rat)⟩] [(9,false),(10,true)] sr (by kernel_rfl) (λ_ _ d _ _ h=>by cases d<;>exact h) (EV O O Df O (Gn)) O (JW O (E1 (v:=(pP b7 5)) O (AD (j:=1) O O underlying136 sizeOf61 O (by decide) O) O ?_)))))
 refine QE 1 (AJ (Aa a p c)) Bg O (GZ 2 Bg O (B6.imp O λEF EL=>?_))
 have hz6:=Ib (a:=Aa a p c) (b:=Aa a b c) (by assumption)
 refine BS call114 (H4 (Aa a p c) (Aa a b c) Z (by assumption)) O (B6.back0 sr O (JW O (E1 O (AX (v:=(aG (AJ ((Aa a p c)/(Aa a b c))))) O O) O (E1 O (AX (v:=(vI 0)) O O) O (B6.news1 λb9=>?_)))))
 refine AS.imp O (Av O sizeOf61 O (AS.back (sl sr) (EW O (AS.nil (AC.subF (sL [4,5,6,8,9,10,11,32,12,13,14] O) ?_)))))
 refine q1 (q4 (AO O (AH (CS (c:=false) O O (by decide)) O (AE.nil (AC.subF (sL [4,5,6,8,9,10,11,32,12,13,44] O) ?_)))))
 refine AC.then_ (AF.cond_false O (AF.skip (AC.then_ (AF.region (AO O ?_)))))
 refine BA 0 Bg O (AH (v:=(pP b7 5)) (AD (j:=1) O O underlying136 sizeOf61 O (by decide) O) O (Fc 2 (off:=5) (vs:=AJ ((Aa a p c)/(Aa a b c))) (cs':=AJ ((Aa p b c)/(Aa a b c))++AJ ((Aa a p c)/(Aa a b c))++AJ (Aa a b p)) (AP O) O sizeOf61 O (AE.nil (AC.subF (sL [4,5,6,8,9,10,11,32,12,13] O) (AC.in_normal ?_)))))
 refine AC.then_ (AF.region (AH (AW (c:=(2:Int)) O O (by decide)) O (AO O (AE.nil (AC.subF (sL [4,5,6,8,9,10,11,32,12,13] O) ?_)))))
 refine AC.again (Eb.step (q4 (AH (Af (c:=true) O O (by decide)) O (AE.nil (q1 ?_)))))
 refine AF.cond_true O (AF.skip (q1 (AF.block (q4 (AO O ?_)))))
 refine AK O (q6 (sL [4,5,6,8,9,10,11,32,12,13] O) (AF.subF (sL [4,5,6,8,9,10,11,32,12] O) (rN [(0,true),(1,true),(2,true),(3,true),(4,false),(5,true),(6,true),(7,true)] [⟨8,13,61,AJ (0:Rat)⟩] [(9,false),(10,true)] sr (by kernel_rfl) (λ_ _ d _ _ h=>by cases d<;>exact h) (EV O O Df O (Gn)) O (JW O (E1 (v:=(pP b7 10)) O (AD (j:=2) O O underlying136 sizeOf61 O (by decide) O) O ?_)))))
 refine QE 2 (AJ (Aa a b p)) Bg O (GZ 3 Bg O (B6.imp O λEF EL=>?_))
 have hz7:=Ib (a:=Aa a b p) (b:=Aa a b c) (by assumption)
 refine BS call114 (H4 (Aa a b p) (Aa a b c) Z (by assumption)) O (B6.back0 sr O (JW O (E1 O (AX (v:=(aG (AJ ((Aa a b p)/(Aa a b c))))) O O) O (E1 O (AX (v:=(vI 0)) O O) O (B6.news1 λb10=>?_)))))
 refine AS.imp O (Av O sizeOf61 O (AS.back (sl sr) (EW O (AS.nil (AC.subF (sL [4,5,6,8,9,10,11,32,12,13,14] O) ?_)))))
 refine q1 (q4 (AO O (AH (CS (c:=false) O O (by decide)) O (AE.nil (AC.subF (sL [4,5,6,8,9,10,11,32,12,13,44] O) ?_)))))
 refine AC.then_ (AF.cond_false O (AF.skip (AC.then_ (AF.region (AO O ?_)))))
 refine BA 0 Bg O (AH (v:=(pP b7 10)) (AD (j:=2) O O underlying136 sizeOf61 O (by decide) O) O (Fc 3 (off:=10) (vs:=AJ ((Aa a b p)/(Aa a b c))) (cs':=AJ ((Aa p b c)/(Aa a b c))++AJ ((Aa a p c)/(Aa a b c))++AJ ((Aa a b p)/(Aa a b c))) (AP O) O sizeOf61 O (AE.nil (AC.subF (sL [4,5,6,8,9,10,11,32,12,13] O) (AC.in_normal ?_)))))
 refine AC.then_ (AF.region (AH (AW (c:=(3:Int)) O O (by decide)) O (AO O (AE.nil (AC.subF (sL [4,5,6,8,9,10,11,32,12,13] O) ?_)))))
 refine AC.again (Eb.step (q4 (AH (Af (c:=false) O O (by decide)) O (AE.nil (q1 ?_)))))
 refine AF.cond_false O (AF.exit (AC.then_exit (AC.then_exit (AC.in_exit (q2 ?_)))))
 refine BA 3 Ub O (Fc 5 (off:=0) (vs:=AJ ((Aa p b c)/(Aa a b c))++AJ ((Aa a p c)/(Aa a b c))++AJ ((Aa a b p)/(Aa a b c))) (cs':=AJ ((Aa p b c)/(Aa a b c))++AJ ((Aa a p c)/(Aa a b c))++AJ ((Aa a b p)/(Aa a b c))) (AP O) O sizeOf136 O (AK O (AE.nil (AC.subF (sL [4,5,6,8,9,10,11,32,12,13] O) (AC.then_ ?_)))))
 exact AF.ret (Ch O (A7 (i:=5) (cs:=AJ ((Aa p b c)/(Aa a b c))++AJ ((Aa a p c)/(Aa a b c))++AJ ((Aa a b p)/(Aa a b c))) O O isAgg136 sizeOf136 O) (Ab (v:=(vI 0)) O) (λw hw=>⟨rfl,hw.out⟩))
theorem JE  :Instr.fill (λi=>some (i*5,5)) (AJ (0:Rat)++AJ (0:Rat)++AJ (0:Rat)).toArray []=some (AJ (0:Rat)++AJ (0:Rat)++AJ (0:Rat)).toArray:=by kernel_rfl
theorem QK (a b c p:Pt) (hs:B4 a+B4 b+B4 c+B4 p<=268435456) (h:Aa a b c=0) (w:World)  :Calls prog 64 #[(aG (Ah a)),(aG (Ah b)),(aG (Ah c)),(aG (Ah p))] w (Al w (Value.tuple #[(aG (AJ (0:Rat)++AJ (0:Rat)++AJ (0:Rat))),(vI 1)])):=by
 refine Ac (args:=[(aG (Ah a)),(aG (Ah b)),(aG (Ah c)),(aG (Ah p))]) func64 O O (Ad O) (AF.subF (sL [0,1,2,3] O) (q4 (Bi (cs:=Ah a) O λb1=>Bi (cs:=Ah b) O λb2=>Bi (cs:=Ah c) O λb3=>?_)))
 refine Bi (cs:=Ah p) O λb4=>al Js O λb5=>AK O (q3 (sL [4,5,6,7,8,9] O) (BA 4 BM O (BA 3 BM O ?_)))
 refine BA 2 BM O ?_
 have hz1:=Cz a b c
 refine BS call66 (DS a b c Z) O (al Df O λb6=>Av O sizeOf61 O (q6 (sL [4,5,6,7,8,9,10] O) (rN [(0,true),(1,true),(2,true),(4,true),(5,true),(6,true),(8,true),(9,true),(10,true),(3,false),(7,false),(11,false),(12,true)] [⟨13,11,136,AJ (0:Rat)++AJ (0:Rat)++AJ (0:Rat)⟩] [(14,false)] sr (by kernel_rfl) (λ_ _ d _ _ h=>by cases d<;>exact h) (EV O O Js O (Gn)) O (GZ 2 BM O ?_))))
 refine GZ 4 BM O (GZ 3 BM O (GZ 5 BM O (GZ 2 BM O (GZ 3 BM O (GZ 5 BM O ?_)))))
 refine GZ 4 BM O (GZ 2 BM O (B6.imp O λEF EL=>?_))
 have hz2:=Cz p b c
 refine BS call66 (DS p b c Z) O (B6.back0 sr O (B6.imp O λEF EL=>?_))
 have hz3:=Cz a p c
 refine BS call66 (DS a p c Z) O (B6.back0 sr O (B6.imp O λEF EL=>?_))
 have hz4:=Cz a b p
 refine BS call66 (DS a b p Z) O (B6.back0 sr O (E1 (v:=(aG (AJ (Aa p b c)++AJ (Aa a p c)++AJ (Aa a b p)))) O (Aq (zs:=AJ (0:Rat)++AJ (0:Rat)++AJ (0:Rat)) (vs:=AJ (Aa p b c)++AJ (Aa a p c)++AJ (Aa a b p)) (pv:=[(0,(aG (AJ (Aa p b c)))),(1,(aG (AJ (Aa a p c)))),(2,(aG (AJ (Aa a b p))))]) zeroValue136 underlying136 sizeOf61 O (CC (Aa p b c) (Aa a p c) (Aa a b p))) O (B6.news1 λb7=>AS.imp O (Av O sizeOf136 O ?_))))
 refine AS.back (sl sr) (AS.nil (AC.subF (sL [4,5,6,8,9,10,11] O) (q1 (q4 (AO O ?_)))))
 refine AE.nil (AC.then_ (AF.block (AF.unroll 5 (Eb.step (q4 ?_)))))
 refine AH (Af (c:=true) O O (by decide)) O (AE.nil (q1 (AF.cond_true O (AF.skip (q1 ?_)))))
 refine AF.block (q4 (AO O (AK O (q6 (sL [4,5,6,8,9,10,11,32,12] O) (rN [(0,true),(1,true),(2,true),(3,true),(4,false),(5,true),(6,true),(7,true)] [⟨8,13,61,AJ (0:Rat)⟩] [(9,false),(10,true)] sr (by kernel_rfl) (λ_ _ d _ _ h=>by cases d<;>exact h) (EV O O Df O (Gn)) O ?_)))))
 refine JW O (E1 (v:=(pP b7 0)) O (AD (j:=0) O O underlying136 sizeOf61 O (by decide) O) O (QE 0 (AJ (Aa p b c)) Bg O (GZ 1 Bg O (B6.imp O λEF EL=>D1 (args:=[(aG (AJ (Aa p b c))),(aG (AJ (Aa a b c)))]) (v:=(Value.tuple #[(aG (AJ (0:Rat))),(vI 5)])) call114 (λw hw=>(by rw [h];exact P3 _ w)) O ?_))))
 refine B6.back0 sr O (JW O (E1 O (AX (v:=(aG (AJ (0:Rat)))) O O) O (E1 O (AX (v:=(vI 5)) O O) O (B6.news1 λb8=>AS.imp O ?_))))
 refine Av O sizeOf61 O (AS.back (sl sr) (EW O (AS.nil (AC.subF (sL [4,5,6,8,9,10,11,32,12,13,14] O) (q1 ?_)))))
 refine q4 (AO O (AH (CS (c:=true) O O (by decide)) O (AE.nil (AC.subF (sL [4,5,6,8,9,10,11,32,12,13,44] O) (AC.then_ ?_)))))
 refine AF.cond_true O (q4 (AH (v:=(aG (AJ (0:Rat)++AJ (0:Rat)++AJ (0:Rat)))) (Aq (zs:=AJ (0:Rat)++AJ (0:Rat)++AJ (0:Rat)) (vs:=AJ (0:Rat)++AJ (0:Rat)++AJ (0:Rat)) (pv:=[]) zeroValue136 underlying136 sizeOf61 O (JE )) O (I_ O sizeOf136 O (AK O (AE.nil ?_)))))
 refine AC.subF (sL [4,5,6,8,9,10,11,32,12,13] O) (AC.then_ (AF.ret (AC.then_ret (AC.in_ret (AC.then_ret ?_)))))
 exact AC.then_ret (AC.in_ret (AC.then_ret (Ch O (A7 (i:=3) (cs:=AJ (0:Rat)++AJ (0:Rat)++AJ (0:Rat)) O O isAgg136 sizeOf136 O) (Ab (v:=(vI 1)) O) (λw hw=>⟨rfl,hw.out⟩))))
end
def zq (q:Rat):Nat:=if q.num.sign=0 then 1 else 0
def Dt (x y z:Rat):Nat:=if x.num.sign = -1\/y.num.sign = -1\/z.num.sign = -1 then 0 else 1+zq x+zq y+zq z
theorem Mr {x y z:Rat} (h:x.num.sign = -1):Dt x y z=0:=if_pos (.inl h)
theorem Mz {x y z:Rat} (h:y.num.sign = -1):Dt x y z=0:=if_pos (.inr (.inl h))
theorem Ma {x y z:Rat} (h:z.num.sign = -1):Dt x y z=0:=if_pos (.inr (.inr h))
theorem RI {x y z:Rat} (h1:¬x.num.sign = -1) (h2:¬y.num.sign = -1) (h3:¬z.num.sign = -1):Dt x y z=1+zq x+zq y+zq z:=if_neg (by simp [h1,h2,h3])
theorem M4 {x:Rat} (h:x.num.sign=0):zq x=1:=if_pos h
theorem Ke {x:Rat} (h:¬x.num.sign=0):zq x=0:=if_neg h
theorem RW (x:Rat):zq x<=1:=by unfold zq;split<;>omega
section
set_option maxRecDepth 100000
end
section
set_option maxRecDepth 100000
end
section
set_option maxRecDepth 100000
set_option maxHeartbeats 2000000 in
theorem QV (a b c p:Pt) (hs:B4 a+B4 b+B4 c+B4 p<=268435456) (h:Aa a b c≠0) (w:World)  :Calls prog 24 #[(aG (Ah a)),(aG (Ah b)),(aG (Ah c)),(aG (Ah p))] w (Al w (vN (Dt (Aa p b c/Aa a b c) (Aa a p c/Aa a b c) (Aa a b p/Aa a b c)))):=by
 obtain ⟨l0,hl0⟩:∃l,l=Aa p b c/Aa a b c:=⟨_,rfl⟩
 obtain ⟨l1,hl1⟩:∃l,l=Aa a p c/Aa a b c:=⟨_,rfl⟩
 obtain ⟨l2,hl2⟩:∃l,l=Aa a b p/Aa a b c:=⟨_,rfl⟩
 refine Ac (args:=[(aG (Ah a)),(aG (Ah b)),(aG (Ah c)),(aG (Ah p))]) func24 O O (Ad O) (AF.subF (sL [0,1,2,3] O) (q4 (Bi (cs:=Ah a) O λb1=>Bi (cs:=Ah b) O λb2=>Bi (cs:=Ah c) O λb3=>?_)))
 refine Bi (cs:=Ah p) O λb4=>AK O (q3 (sL [4,5,6,7,8] O) (BA 3 BM O (BA 2 BM O (BA 1 BM O ?_))))
 refine BA 0 BM O (D1 (args:=[(aG (Ah a)),(aG (Ah b)),(aG (Ah c)),(aG (Ah p))]) (v:=(Value.tuple #[(aG (AJ l0++AJ l1++AJ l2)),(vI 0)])) call64 (λw hw=>(by rw [hl0,hl1,hl2];exact SY a b c p Z h w)) O (AO O (AH (AX (v:=(aG (AJ l0++AJ l1++AJ l2))) O O) O (AH (AX (v:=(vI 0)) O O) O (al Js O λb5=>?_)))))
 refine Av O sizeOf136 O (AK O (q6 (sL [8,9,10] O) (q4 (AO O (AH (CS (c:=false) O O (by decide)) O ?_)))))
 refine AE.nil (AC.subF (sL [8,9,22] O) (AC.then_ (AF.cond_false O (AF.skip (q2 ?_)))))
 refine AK O (q6 (sL [8,9,11] O) (q4 (AO O (AE.nil (AC.then_ ?_)))))
 refine AF.block (AF.unroll 5 (Eb.step (q4 (AH (Af (c:=true) O O (by decide)) O (AE.nil ?_)))))
 refine q1 (AF.cond_true O (AF.skip (q1 (AF.block (q4 ?_)))))
 refine AO O (AK O (q3 (sL [8,9,11,23,12] O) (AO O (AH (v:=(pP b5 0)) (AD (j:=0) O O underlying136 sizeOf61 O (by decide) O) O (DU 0 (AJ l0) Bg O ?_)))))
 refine BS call20 (EM l0) O (AE.nil (AC.subF (sL [8,9,11,23,29] O) (AC.then_ ?_)))
 refine AF.jn1 (tg λ(pl0:Nat)=>pl0=1+zq l0/\¬l0.num.sign = -1) (tg λ(pl0:Nat)=>[(9,(pP b5 0)),(23,(vI 0)),(11,(vN pl0))]) (tg λ(pl0:Nat)=>[Ae b5 136 (AJ l0++AJ l1++AJ l2),Ae b4 63 (Ah p),Ae b3 63 (Ah c),Ae b2 63 (Ah b),Ae b1 63 (Ah a)]) ?_ ?_
 ·skip
  refine AF.block (q4 (AH (BQ (c:=(decide (l0.num.sign=(-1:Int)))) O O O) O (AK O (AE.nil (AC.subF (sL [8,9,11,23,29,30] O) ?_)))))
  refine AC.then_ ?_
  refine AF.cond O (λhc2=>?_) (λhc2=>?_)
  ·replace hc2:=of_decide_eq_true hc2
   have hz:=Mr (x:=l0) (y:=l1) (z:=l2) hc2
   refine q4 (AK O (AE.nil (AC.then_ (AF.ret (AC.in_ret ?_)))))
   exact AC.join1_ret (AC.in_ret (AC.then_ret (AC.then_ret (AC.in_ret (AC.then_ret (AN O (Ab (v:=(vI 0)) O) (λw hw=>⟨by rw [<-hl0,<-hl1,<-hl2,hz];rfl,hw.out⟩)))))))
  ·replace hc2:=of_decide_eq_false hc2
   refine q4 (AH (BQ (c:=(decide (l0.num.sign=(0:Int)))) O O O) O (AK O (AE.nil (AC.subF (sL [8,9,11,23,29,32] O) (AC.then_ ?_)))))
   refine AF.cond O (λhc3=>?_) (λhc3=>?_)
   ·replace hc3:=of_decide_eq_true hc3
    refine AF.region (AO O (AH (AW (c:=(2:Int)) O O (by decide)) O (AK O (AE.nil (AC.subF (sL [8,9,11,23,29] O) ?_)))))
    exact AC.in_normal (AC.join1 2 (⟨by simp [M4 hc3],hc2⟩) (sF O) sr)
   ·replace hc3:=of_decide_eq_false hc3
    exact AF.skip (AC.in_normal (AC.join1 1 (⟨by simp [Ke hc3],hc2⟩) (sF O) sr))
 ·intro pl0 hJ
  obtain ⟨e0,n0⟩:=hJ
  have zz0:=RW l0
  refine AC.in_normal (AC.then_ (AF.region (AH (AW (c:=(1:Int)) O O (by decide)) O (AO O (AE.nil ?_)))))
  refine AC.subF (sL [9,23,11] O) (AC.again (Eb.step (q4 (AH (Af (c:=true) O O (by decide)) O (AE.nil ?_)))))
  refine q1 (AF.cond_true O (AF.skip (q1 (AF.block (q4 ?_)))))
  refine AO O (AK O (q3 (sL [9,23,11,12] O) (AO O (AH (v:=(pP b5 5)) (AD (j:=1) O O underlying136 sizeOf61 O (by decide) O) O (DU 0 (AJ l1) Bg O ?_)))))
  refine BS call20 (EM l1) O (AE.nil (AC.subF (sL [9,23,11,29] O) (AC.then_ ?_)))
  refine AF.jn1 (tg λ(pl1:Nat)=>pl1=pl0+zq l1/\¬l1.num.sign = -1) (tg λ(pl1:Nat)=>[(9,(pP b5 0)),(23,(vI 1)),(11,(vN pl1))]) (tg λ(pl1:Nat)=>[Ae b5 136 (AJ l0++AJ l1++AJ l2),Ae b4 63 (Ah p),Ae b3 63 (Ah c),Ae b2 63 (Ah b),Ae b1 63 (Ah a)]) ?_ ?_
  ·skip
   refine AF.block (q4 (AH (BQ (c:=(decide (l1.num.sign=(-1:Int)))) O O O) O (AK O (AE.nil (AC.subF (sL [9,23,11,29,30] O) ?_)))))
   refine AC.then_ ?_
   refine AF.cond O (λhc2=>?_) (λhc2=>?_)
   ·replace hc2:=of_decide_eq_true hc2
    have hz:=Mz (x:=l0) (y:=l1) (z:=l2) hc2
    refine q4 (AK O (AE.nil (AC.then_ (AF.ret (AC.in_ret ?_)))))
    exact AC.join1_ret (AC.in_ret (AC.then_ret (AC.then_ret (AC.in_ret (AC.then_ret (AN O (Ab (v:=(vI 0)) O) (λw hw=>⟨by rw [<-hl0,<-hl1,<-hl2,hz];rfl,hw.out⟩)))))))
   ·replace hc2:=of_decide_eq_false hc2
    refine q4 (AH (BQ (c:=(decide (l1.num.sign=(0:Int)))) O O O) O (AK O (AE.nil (AC.subF (sL [9,23,11,29,32] O) (AC.then_ ?_)))))
    refine AF.cond O (λhc3=>?_) (λhc3=>?_)
    ·replace hc3:=of_decide_eq_true hc3
     refine AF.region (AO O (AH (AW (c:=((pl0+1:Nat):Int)) O O (AZ (a:=pl0) (b:=1) Z)) O (AK O (AE.nil (AC.subF (sL [9,23,11,29] O) ?_)))))
     exact AC.in_normal (AC.join1 (pl0+1) (⟨by simp [M4 hc3],hc2⟩) (sF O) sr)
    ·replace hc3:=of_decide_eq_false hc3
     exact AF.skip (AC.in_normal (AC.join1 pl0 (⟨by simp [Ke hc3],hc2⟩) (sF O) sr))
  ·intro pl1 hJ
   obtain ⟨e1,n1⟩:=hJ
   have zz1:=RW l1
   refine AC.in_normal (AC.then_ (AF.region (AH (AW (c:=(2:Int)) O O (by decide)) O (AO O (AE.nil ?_)))))
   refine AC.subF (sL [9,23,11] O) (AC.again (Eb.step (q4 (AH (Af (c:=true) O O (by decide)) O (AE.nil ?_)))))
   refine q1 (AF.cond_true O (AF.skip (q1 (AF.block (q4 ?_)))))
   refine AO O (AK O (q3 (sL [9,23,11,12] O) (AO O (AH (v:=(pP b5 10)) (AD (j:=2) O O underlying136 sizeOf61 O (by decide) O) O (DU 0 (AJ l2) Bg O ?_)))))
   refine BS call20 (EM l2) O (AE.nil (AC.subF (sL [9,23,11,29] O) (AC.then_ ?_)))
   refine AF.jn1 (tg λ(pl2:Nat)=>pl2=pl1+zq l2/\¬l2.num.sign = -1) (tg λ(pl2:Nat)=>[(9,(pP b5 0)),(23,(vI 2)),(11,(vN pl2))]) (tg λ(pl2:Nat)=>[Ae b5 136 (AJ l0++AJ l1++AJ l2),Ae b4 63 (Ah p),Ae b3 63 (Ah c),Ae b2 63 (Ah b),Ae b1 63 (Ah a)]) ?_ ?_
   ·skip
    refine AF.block (q4 (AH (BQ (c:=(decide (l2.num.sign=(-1:Int)))) O O O) O (AK O (AE.nil (AC.subF (sL [9,23,11,29,30] O) ?_)))))
    refine AC.then_ ?_
    refine AF.cond O (λhc2=>?_) (λhc2=>?_)
    ·replace hc2:=of_decide_eq_true hc2
     have hz:=Ma (x:=l0) (y:=l1) (z:=l2) hc2
     refine q4 (AK O (AE.nil (AC.then_ (AF.ret (AC.in_ret ?_)))))
     exact AC.join1_ret (AC.in_ret (AC.then_ret (AC.then_ret (AC.in_ret (AC.then_ret (AN O (Ab (v:=(vI 0)) O) (λw hw=>⟨by rw [<-hl0,<-hl1,<-hl2,hz];rfl,hw.out⟩)))))))
    ·replace hc2:=of_decide_eq_false hc2
     refine q4 (AH (BQ (c:=(decide (l2.num.sign=(0:Int)))) O O O) O (AK O (AE.nil (AC.subF (sL [9,23,11,29,32] O) (AC.then_ ?_)))))
     refine AF.cond O (λhc3=>?_) (λhc3=>?_)
     ·replace hc3:=of_decide_eq_true hc3
      refine AF.region (AO O (AH (AW (c:=((pl1+1:Nat):Int)) O O (AZ (a:=pl1) (b:=1) Z)) O (AK O (AE.nil (AC.subF (sL [9,23,11,29] O) ?_)))))
      exact AC.in_normal (AC.join1 (pl1+1) (⟨by simp [M4 hc3],hc2⟩) (sF O) sr)
     ·replace hc3:=of_decide_eq_false hc3
      exact AF.skip (AC.in_normal (AC.join1 pl1 (⟨by simp [Ke hc3],hc2⟩) (sF O) sr))
   ·intro pl2 hJ
    obtain ⟨e2,n2⟩:=hJ
    have zz2:=RW l2
    refine AC.in_normal (AC.then_ (AF.region (AH (AW (c:=(3:Int)) O O (by decide)) O (AO O (AE.nil ?_)))))
    refine AC.subF (sL [9,23,11] O) (AC.again (Eb.step (q4 (AH (Af (c:=false) O O (by decide)) O (AE.nil ?_)))))
    refine q1 (AF.cond_false O (AF.exit (AC.then_exit (AC.then_exit (AC.in_exit ?_)))))
    refine q2 (AO O (AK O (AE.nil (AC.subF (sL [9,23,11,8] O) (AC.then_ ?_)))))
    exact AF.ret (AN O (Ab (v:=(vN pl2)) O) (λw hw=>⟨by rw [<-hl0,<-hl1,<-hl2,RI n0 n1 n2,e2,e1,e0],hw.out⟩))
theorem OB (a b c p:Pt) (hs:B4 a+B4 b+B4 c+B4 p<=268435456) (h:Aa a b c=0) (w:World)  :Calls prog 24 #[(aG (Ah a)),(aG (Ah b)),(aG (Ah c)),(aG (Ah p))] w (Al w (vI 0)):=by
 refine Ac (args:=[(aG (Ah a)),(aG (Ah b)),(aG (Ah c)),(aG (Ah p))]) func24 O O (Ad O) (AF.subF (sL [0,1,2,3] O) (q4 (Bi (cs:=Ah a) O λb1=>Bi (cs:=Ah b) O λb2=>Bi (cs:=Ah c) O λb3=>?_)))
 refine Bi (cs:=Ah p) O λb4=>AK O (q3 (sL [4,5,6,7,8] O) (BA 3 BM O (BA 2 BM O (BA 1 BM O ?_))))
 refine BA 0 BM O (BS call64 (QK a b c p Z h) O (AO O (AH (AX (v:=(aG (AJ (0:Rat)++AJ (0:Rat)++AJ (0:Rat)))) O O) O (AH (AX (v:=(vI 1)) O O) O (al Js O λb5=>?_)))))
 refine Av O sizeOf136 O (AK O (q6 (sL [8,9,10] O) (q4 (AO O (AH (CS (c:=true) O O (by decide)) O ?_)))))
 refine AE.nil (AC.subF (sL [8,9,22] O) (AC.then_ (AF.cond_true O (q4 (AK O ?_)))))
 exact AE.nil (AC.subF (sL [8,9] O) (AC.then_ (AF.ret (AC.then_ret (AN O (Ab (v:=(vI 0)) O) (λw hw=>⟨rfl,hw.out⟩))))))
end
section
set_option maxRecDepth 100000
end
section
section
variable {P:Program} {n:Nat} {F:List (Nat×Value)} {w0:BH} {L:List As} {v:Value} {x:Operand} {d:Option Tmp} {t:TypeId} {p:String} {af:Array Edge} {g:Option (Nat×Bool)}
theorem DT {tx e:TypeId} {b len k:Nat} (hx:evF F x=some (.pointer (some ⟨b,0,none⟩))) (hu:P.underlying tx=some (.array len e)) (hs:∀w,(sizeOf e).run P w=.ok k w) (h0:0<len) :
    Ex P n F w0 L ⟨d,.slice tx x none none none,t,p,af,g⟩ (.slice (some ⟨b,0,none⟩) len len):=λA w ha _=>by
  have e1:¬len=0:=by omega
  simp [execOp,ha.ev hx,Instr.sliceAt,run_underlying hu,Instr.sureAddr,Instr.sliceBounds,Instr.sliceBound,hs,e1,Addr.add_lit]
end
end
section
set_option maxRecDepth 100000
end
section
set_option maxRecDepth 100000
end
section
set_option maxRecDepth 100000
end
section
set_option maxRecDepth 100000
end
section
set_option maxRecDepth 100000
end
section
set_option maxRecDepth 100000
end
section
section
variable {P:Program} {n:Nat} {F:List (Nat×Value)} {w0:BH} {L:List As} {v:Value} {x lo hi:Operand} {d:Option Tmp} {t:TypeId} {p:String} {af:Array Edge} {g:Option (Nat×Bool)}
theorem Hv {s r:ByteArray} {ki kj:IntKind} {i j:Nat} {tx:TypeId} (hx:evF F x=some (.string s)) (hl:evF F lo=some (.int ki (i:Nat))) (hh:evF F hi=some (.int kj (j:Nat))) (hu:P.underlying tx=some .string) (h1:i<=j) (h2:j<=s.size) (hr:s.extract i j=r) :
    Ex P n F w0 L ⟨d,.slice tx x (some lo) (some hi) none,t,p,af,g⟩ (.string r):=λA w ha _=>by
  subst hr
  simp only [execOp,ha.ev hx,Instr.sliceAt,run_underlying hu,Instr.slice,Option.map_some,Option.map_none,ha.ev hl,ha.ev hh,Instr.sliceBounds,Instr.sliceBound,asIntOf,Sem.run_bind,Result.andThen_ok,Sem.run_pure]
  simp [h1,h2]
end
def HM (n:Nat):ByteArray:=⟨#[UInt8.ofNat (48+n)]⟩
theorem UO {s:ByteArray} (h:((List.range 10).all λn=>(s.extract n (n+1)).data.toList == (HM n).data.toList)=true) {n:Nat} (hn:n<10):s.extract n (n+1)=HM n:=by
  have h1:=List.all_eq_true.1 h n (List.mem_range.2 hn)
  have h2:(s.extract n (n+1)).data.toList=(HM n).data.toList:=by simpa using h1
  cases hA:s.extract n (n+1) with|mk da=>cases hB:HM n with|mk db =>
    rw [hA,hB] at h2
    congr 1
    exact Array.toList_inj.1 h2
def ER (z:Int):ByteArray:=if z<0 then ⟨#[45]⟩++HM z.natAbs else HM z.natAbs
def Nn (q:Rat):ByteArray:=if q.den-1=0 then ER q.num else ER q.num++⟨#[47]⟩++HM q.den
theorem LZ (n:Nat):(HM n).size=1:=rfl
theorem ML (z:Int):(ER z).size<=2:=by
  unfold ER
  split
  · rw [ByteArray.size_append];exact Nat.le_refl 2
  · exact Nat.le_succ 1
end
end Go.Proofs.YtfbomiejpbchdaaGreatDoor
