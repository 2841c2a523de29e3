import Derived.Test.YtfbomiejpbchdaaGreatDoorPart06
import Derived.Test.YtfbomiejpbchdaaGreatDoorPart19
namespace Go.Proofs.YtfbomiejpbchdaaGreatDoor
open Go Go.RowKit Go.Proofs.Tryz
set_option linter.unusedVariables false
set_option linter.unusedSimpArgs false
section
set_option maxRecDepth 100000
theorem Cr (x0:Rat) (x1:Rat):Instr.fill ([(0,5),(5,5)].toArray[·]?) (Aj (⟨0,0⟩:Pt)).toArray [(0,.agg (AI x0).toArray),(1,.agg (AI x1).toArray)]=some (AI x0++AI x1).toArray:=by kernel_rfl
theorem Ls (a b:Pt) (hs:B8 a+B8 b<=68719476736) (w:World)  :Calls prog 152 #[(aG (Aj a)),(aG (Aj b)),(Value.func (.func 58) #[] #[])] w (Am w (aG (Aj (a-b)))):=by
 have p1:=GC a
 have p2:=GB a
 have p3:=GC b
 have p4:=GB b
 refine Ac (args:=[(aG (Aj a)),(aG (Aj b)),(Value.func (.func 58) #[] #[])]) func152 O O (Ab O) (AF.subF (sL [0,1,2] O) (q4 (Bq (cs:=Aj a) O λb1=>Bq (cs:=Aj b) O λb2=>al F6 O λb3=>?_)))
 refine q6 (sL [2,3,4,6] O) (C4 [(0,true),(1,true),(2,true),(3,true),(4,true),(6,true),(7,true),(8,true),(9,true),(10,true),(5,false),(11,false),(12,true),(13,false)] (sl sr) (Bo O (Ay (v:=(pP b1 0)) O (AA O underlying63 O sizeOf61 O) (Hr 1 (AI a.x) Bh O (Ay (v:=(pP b2 0)) O (AA O underlying63 O sizeOf61 O) ?_)))))
 refine Hr 0 (AI b.x) Bh O (Bo O (Ay (v:=(pP b1 5)) O (AA O underlying63 O sizeOf61 O) (Hr 1 (AI a.y) Bh O (Ay (v:=(pP b2 5)) O (AA O underlying63 O sizeOf61 O) (Hr 0 (AI b.y) Bh O ?_)))))
 refine AS.imp O ?_
 have hz1:=HV a.x b.x
 refine BV call58 (Ks a.x b.x (by (try simp only [Dw]);omega)) O (AS.back (sl sr) (AS.imp O ?_))
 have hz2:=HV a.y b.y
 refine BV call58 (Ks a.y b.y (by (try simp only [Dw]);omega)) O (AS.back (sl sr) (Ay (v:=(aG (AI (a.x-b.x)++AI (a.y-b.y)))) O (AV (zs:=Aj (⟨0,0⟩:Pt)) (vs:=AI (a.x-b.x)++AI (a.y-b.y)) (pv:=[(0,(aG (AI (a.x-b.x)))),(1,(aG (AI (a.y-b.y))))]) (places:=[(0,5),(5,5)]) zeroValue63 underlying63 (λw=>by simp [sizeOf61]) O (Cr (a.x-b.x) (a.y-b.y))) (AS.imp O (Au O sizeOf63 O (AS.back (sl sr) ?_)))))
 exact AS.nil (AD.subF (sL [6] O) (AD.then_ (AF.ret (AP O (A8 (i:=0) (cs:=AI (a.x-b.x)++AI (a.y-b.y)) O O isAgg63 sizeOf63 O) (λw hw=>⟨by rw [SD],hw.out⟩)))))
theorem IF (a b:Pt) (hs:B8 a+B8 b<=68719476736) (w:World)  :Calls prog 116 #[(aG (Aj a)),(aG (Aj b))] w (Am w (aG (Aj (a-b)))):=by
 refine Ac (args:=[(aG (Aj a)),(aG (Aj b))]) func116 O O (Ab O) (AF.subF (sL [0,1] O) (q4 (Bq (cs:=Aj a) O λb1=>Bq (cs:=Aj b) O λb2=>al F6 O λb3=>?_)))
 refine q3 (sL [2,3,4] O) (BD 2 BQ O (BD 1 BQ O (BV call152 (Ls a b Z) O (Au O sizeOf63 O (AE.nil ?_)))))
 exact AD.subF (sL [4] O) (AD.then_ (AF.ret (AP O (A8 (i:=0) (cs:=Aj (a-b)) O O isAgg63 sizeOf63 O) (λw hw=>⟨rfl,hw.out⟩))))
theorem F0 (a b:Pt) (hs:B8 a+B8 b<=68719476736) (w:World)  :Calls prog 18 #[(aG (Aj a)),(aG (Aj b))] w (Am w (aG (AI (Ca a b)))):=by
 have p1:=GC a
 have p2:=GB a
 have p3:=GC b
 have p4:=GB b
 refine Ac (args:=[(aG (Aj a)),(aG (Aj b))]) func18 O O (Ab O) (AF.subF (sL [0,1] O) (q4 (Bq (cs:=Aj a) O λb1=>Bq (cs:=Aj b) O λb2=>al Dc O λb3=>?_)))
 refine q6 (sL [2,3,4] O) (C4 [(0,true),(1,true),(2,true),(3,true),(5,true),(6,true),(7,true),(8,true),(4,false),(9,false),(10,false),(11,false)] (sl sr) (Ay (v:=(pP b1 0)) O (AA O underlying63 O sizeOf61 O) (Hr 1 (AI a.x) Bh O (Ay (v:=(pP b2 5)) O (AA O underlying63 O sizeOf61 O) (Hr 0 (AI b.y) Bh O ?_)))))
 refine Ay (v:=(pP b1 5)) O (AA O underlying63 O sizeOf61 O) (Hr 1 (AI a.y) Bh O (Ay (v:=(pP b2 0)) O (AA O underlying63 O sizeOf61 O) (Hr 0 (AI b.x) Bh O (AS.imp O ?_))))
 have hz1:=Ef a.x b.y
 refine BV call26 (IH a.x b.y (by (try simp only [Dw]);omega)) O (AS.back (sl sr) (AS.imp O ?_))
 have hz2:=Ef a.y b.x
 refine BV call26 (IH a.y b.x (by (try simp only [Dw]);omega)) O (AS.back (sl sr) (AS.imp O ?_))
 have hz3:=HV (a.x*b.y) (a.y*b.x)
 refine BV call58 (Ks (a.x*b.y) (a.y*b.x) (by (try simp only [Dw]);omega)) O (AS.back (sl sr) (AS.imp O (Au O sizeOf61 O (AS.back (sl sr) (AS.nil ?_)))))
 exact AD.subF (sL [4] O) (AD.then_ (AF.ret (AP O (A8 (i:=0) (cs:=AI ((a.x*b.y)-(a.y*b.x))) O O isAgg61 sizeOf61 O) (λw hw=>⟨rfl,hw.out⟩))))
theorem Gs (a b c:Pt) (hs:B8 a+B8 b+B8 c<=17179869184) (w:World)  :Calls prog 117 #[(aG (Aj a)),(aG (Aj b)),(aG (Aj c))] w (Am w (vI ((Ag a b c).num.sign))):=by
 refine Ac (args:=[(aG (Aj a)),(aG (Aj b)),(aG (Aj c))]) func117 O O (Ab O) (AF.subF (sL [0,1,2] O) (q4 (Bq (cs:=Aj a) O λb1=>Bq (cs:=Aj b) O λb2=>Bq (cs:=Aj c) O λb3=>?_)))
 refine AK O (q6 (sL [3,4,5,6] O) (C4 [(0,true),(1,true),(3,true),(4,true),(2,false),(5,false),(6,false),(7,false),(8,true)] sr (Es 1 BQ O (Es 2 BQ O (Es 0 BQ O ?_)))))
 refine Es 2 BQ O (AS.imp O ?_)
 have hz1:=F2 b a
 refine BV call116 (IF b a Z) O (AS.back sr (AS.imp O ?_))
 have hz2:=F2 c a
 refine BV call116 (IF c a Z) O (AS.back sr (AS.imp O ?_))
 have hz3:=Et (b-a) (c-a)
 refine BV call18 (F0 (b-a) (c-a) Z) O (AS.back sr (AS.imp O (BV call20 (Dr (Ca (b-a) (c-a))) O (AS.back sr (EZ O ?_)))))
 exact AS.nil (AD.subF (sL [6] O) (AD.then_ (AF.ret (AP O (Ad (v:=(vI ((Ca (b-a) (c-a)).num.sign))) O) (λw hw=>⟨rfl,hw.out⟩)))))
theorem ID (x y:Int) (h1:-9223372036854775808<=x) (h2:x<9223372036854775808) (h3:-9223372036854775808<=y) (h4:y<9223372036854775808) (w:World)  :Calls prog 31 #[(vI x),(vI y)] w (Am w (aG (Aj (⟨((x:Int):Rat),((y:Int):Rat)⟩:Pt)))):=by
 refine Ac (args:=[(vI x),(vI y)]) func31 O O (Ab O) (AF.subF (sL [0,1] O) (q4 (al F6 O λb1=>AE.nil (q2 ?_))))
 refine AO O (BV call27 (IP x Z Z) O (AO O (BV call27 (IP y Z Z) O (AG (v:=(aG (AI ((x:Int):Rat)++AI ((y:Int):Rat)))) (AV (zs:=Aj (⟨0,0⟩:Pt)) (vs:=AI ((x:Int):Rat)++AI ((y:Int):Rat)) (pv:=[(0,(aG (AI ((x:Int):Rat)))),(1,(aG (AI ((y:Int):Rat))))]) (places:=[(0,5),(5,5)]) zeroValue63 underlying63 (λw=>by simp [sizeOf61]) O (Cr ((x:Int):Rat) ((y:Int):Rat))) O (Au O sizeOf63 O ?_)))))
 exact AE.nil (AD.subF (sL [4] O) (AD.then_ (AF.ret (AP O (A8 (i:=0) (cs:=AI ((x:Int):Rat)++AI ((y:Int):Rat)) O O isAgg63 sizeOf63 O) (λw hw=>⟨by rw [Up],hw.out⟩)))))
end
section
set_option maxRecDepth 100000
theorem RL (x y:Int) (h1:-9223372036854775808<=x) (h2:x<9223372036854775808) (h3:-9223372036854775808<=y) (h4:y<9223372036854775808) (hy:y≠0) (w:World)  :Calls prog 115 #[(vI x),(vI y)] w (Am w (Value.tuple #[(aG (AI (((x:Int):Rat)/((y:Int):Rat)))),(vI 0)])):=by
 have hb:((y:Int):Rat)≠0:=λe=>hy (by exact_mod_cast e)
 have s1:=K3 h1 h2
 have s2:=K3 h3 h4
 refine Ac (args:=[(vI x),(vI y)]) func115 O O (Ab O) (AF.subF (sL [0,1] O) (q4 (al Dc O λb1=>AK O (AE.nil ?_))))
 refine q2 (AO O (BV call27 (IP x Z Z) O (AO O (BV call27 (IP y Z Z) O ?_))))
 have hz1:=JW (a:=((x:Int):Rat)) (b:=((y:Int):Rat)) (by assumption)
 refine BV call114 (IT ((x:Int):Rat) ((y:Int):Rat) Z (by assumption)) O (AG (AZ (v:=(aG (AI (((x:Int):Rat)/((y:Int):Rat))))) O O) O (AG (AZ (v:=(vI 0)) O O) O (Au O sizeOf61 O (AK O (AE.nil ?_)))))
 exact AD.subF (sL [4,5] O) (AD.then_ (AF.ret (Cm O (A8 (i:=0) (cs:=AI (((x:Int):Rat)/((y:Int):Rat))) O O isAgg61 sizeOf61 O) (Ad (v:=(vI 0)) O) (λw hw=>⟨rfl,hw.out⟩))))
theorem Q7 (x:Rat) (hs:Sz x<=137438953472) (w:World)  :Calls prog 65 #[(aG (AI x))] w (Am w (aG (AI (x*(1/2))))):=by
 have sh:=Nx
 refine Ac (args:=[(aG (AI x))]) func65 O O (Ab O) (AF.subF (sL [0] O) (q4 (Bq (cs:=AI x) O λb1=>al Dc O λb2=>q3 (sL [1,2] O) ?_)))
 refine BV call115 (RL (1:Int) (2:Int) Z Z Z Z Z) O (AO O (AG (AZ (v:=(aG (AI (((1:Int):Rat)/((2:Int):Rat))))) O O) O (AE.retell (k:=7) (u:=(aG (AI ((1:Rat)/2)))) O (by rw [TN]) (AG (AZ (v:=(vI 0)) O O) O (al Dc O λb3=>?_)))))
 refine Au O sizeOf61 O (AK O (q3 (sL [1,2,3] O) (BD 2 Bh O (BD 0 Bh O ?_))))
 have hz1:=Ef x ((1:Rat)/2)
 exact BV call26 (IH x ((1:Rat)/2) (by (try simp only [Dw]);omega)) O (C3 O sizeOf61 O (AE.nil (AD.subF (sL [2,3] O) (AD.then_ (AF.ret (AP O (A8 (i:=1) (cs:=AI (x*((1:Rat)/2))) O O isAgg61 sizeOf61 O) (λw hw=>⟨rfl,hw.out⟩)))))))
theorem DU (a b c:Pt) (hs:B8 a+B8 b+B8 c<=8589934592) (w:World)  :Calls prog 66 #[(aG (Aj a)),(aG (Aj b)),(aG (Aj c))] w (Am w (aG (AI (Ag a b c)))):=by
 refine Ac (args:=[(aG (Aj a)),(aG (Aj b)),(aG (Aj c))]) func66 O O (Ab O) (AF.subF (sL [0,1,2] O) (q4 (Bq (cs:=Aj a) O λb1=>Bq (cs:=Aj b) O λb2=>Bq (cs:=Aj c) O λb3=>?_)))
 refine al Dc O λb4=>q6 (sL [3,4,5,6] O) (C4 [(0,true),(1,true),(3,true),(4,true),(2,false),(5,false),(6,false),(7,false)] (sl sr) (Es 1 BQ O (Es 2 BQ O (Es 0 BQ O ?_))))
 refine Es 2 BQ O (AS.imp O ?_)
 have hz1:=F2 b a
 refine BV call116 (IF b a Z) O (AS.back (sl sr) (AS.imp O ?_))
 have hz2:=F2 c a
 refine BV call116 (IF c a Z) O (AS.back (sl sr) (AS.imp O ?_))
 have hz3:=Et (b-a) (c-a)
 refine BV call18 (F0 (b-a) (c-a) Z) O (AS.back (sl sr) (AS.imp O (Au O sizeOf61 O (AS.back (sl sr) (AS.nil ?_)))))
 exact AD.subF (sL [6] O) (AD.then_ (AF.ret (AP O (A8 (i:=0) (cs:=AI (Ca (b-a) (c-a))) O O isAgg61 sizeOf61 O) (λw hw=>⟨rfl,hw.out⟩))))
theorem Sj (a b c:Pt) (hs:B8 a+B8 b+B8 c<=8589934592) (w:World)  :Calls prog 25 #[(aG (Aj a)),(aG (Aj b)),(aG (Aj c))] w (Am w (aG (AI (Ag a b c*(1/2))))):=by
 refine Ac (args:=[(aG (Aj a)),(aG (Aj b)),(aG (Aj c))]) func25 O O (Ab O) (AF.subF (sL [0,1,2] O) (q4 (Bq (cs:=Aj a) O λb1=>Bq (cs:=Aj b) O λb2=>Bq (cs:=Aj c) O λb3=>?_)))
 refine al Dc O λb4=>q3 (sL [3,4,5,6] O) (BD 3 BQ O (BD 2 BQ O (BD 1 BQ O ?_)))
 have hz1:=DM a b c
 refine BV call66 (DU a b c Z) O ?_
 have hz2:=Ef (Ag a b c) (1/2)
 exact BV call65 (Q7 (Ag a b c) Z) O (Au O sizeOf61 O (AE.nil (AD.subF (sL [6] O) (AD.then_ (AF.ret (AP O (A8 (i:=0) (cs:=AI ((Ag a b c)*(1/2))) O O isAgg61 sizeOf61 O) (λw hw=>⟨rfl,hw.out⟩)))))))
end
section
set_option maxRecDepth 100000
theorem CI (x0:Rat) (x1:Rat) (x2:Rat):Instr.fill (λi=>some (i*5,5)) (AI (0:Rat)++AI (0:Rat)++AI (0:Rat)).toArray [(0,.agg (AI x0).toArray),(1,.agg (AI x1).toArray),(2,.agg (AI x2).toArray)]=some (AI x0++AI x1++AI x2).toArray:=by kernel_rfl
theorem Td (a b c p:Pt) (hs:B8 a+B8 b+B8 c+B8 p<=268435456) (h:Ag a b c≠0) (w:World)  :Calls prog 64 #[(aG (Aj a)),(aG (Aj b)),(aG (Aj c)),(aG (Aj p))] w (Am w (Value.tuple #[(aG (AI (Ag p b c/Ag a b c)++AI (Ag a p c/Ag a b c)++AI (Ag a b p/Ag a b c))),(vI 0)])):=by
 refine Ac (args:=[(aG (Aj a)),(aG (Aj b)),(aG (Aj c)),(aG (Aj p))]) func64 O O (Ab O) (AF.subF (sL [0,1,2,3] O) (q4 (Bq (cs:=Aj a) O λb1=>Bq (cs:=Aj b) O λb2=>Bq (cs:=Aj c) O λb3=>?_)))
 refine Bq (cs:=Aj p) O λb4=>al J9 O λb5=>AK O (q3 (sL [4,5,6,7,8,9] O) (BD 4 BQ O (BD 3 BQ O ?_)))
 refine BD 2 BQ O ?_
 have hz1:=DM a b c
 refine BV call66 (DU a b c Z) O (al Dc O λb6=>Au O sizeOf61 O (q6 (sL [4,5,6,7,8,9,10] O) (rN [(0,true),(1,true),(2,true),(4,true),(5,true),(6,true),(8,true),(9,true),(10,true),(3,false),(7,false),(11,false),(12,true)] [⟨13,11,136,AI (0:Rat)++AI (0:Rat)++AI (0:Rat)⟩] [(14,false)] sr (by kernel_rfl) (λ_ _ d _ _ h=>by cases d<;>exact h) (GA O O J9 O (Hz)) O (HF 2 BQ O ?_))))
 refine HF 4 BQ O (HF 3 BQ O (HF 5 BQ O (HF 2 BQ O (HF 3 BQ O (HF 5 BQ O ?_)))))
 refine HF 4 BQ O (HF 2 BQ O (CJ.imp O λEF EL=>?_))
 have hz2:=DM p b c
 refine BV call66 (DU p b c Z) O (CJ.back0 sr O (CJ.imp O λEF EL=>?_))
 have hz3:=DM a p c
 refine BV call66 (DU a p c Z) O (CJ.back0 sr O (CJ.imp O λEF EL=>?_))
 have hz4:=DM a b p
 refine BV call66 (DU a b p Z) O (CJ.back0 sr O (Gd (v:=(aG (AI (Ag p b c)++AI (Ag a p c)++AI (Ag a b p)))) O (Ap (zs:=AI (0:Rat)++AI (0:Rat)++AI (0:Rat)) (vs:=AI (Ag p b c)++AI (Ag a p c)++AI (Ag a b p)) (pv:=[(0,(aG (AI (Ag p b c)))),(1,(aG (AI (Ag a p c)))),(2,(aG (AI (Ag a b p))))]) zeroValue136 underlying136 sizeOf61 O (CI (Ag p b c) (Ag a p c) (Ag a b p))) O (CJ.news1 λb7=>AS.imp O (Au O sizeOf136 O ?_))))
 refine AS.back (sl sr) (AS.nil (AD.subF (sL [4,5,6,8,9,10,11] O) (q1 (q4 (AO O ?_)))))
 refine AE.nil (AD.then_ (AF.block (AF.unroll 5 (E3.step (q4 ?_)))))
 refine AG (Af (c:=true) O O (by decide)) O (AE.nil (q1 (AF.cond_true O (AF.skip (q1 ?_)))))
 refine AF.block (q4 (AO O (AK O (q6 (sL [4,5,6,8,9,10,11,32,12] O) (rN [(0,true),(1,true),(2,true),(3,true),(4,false),(5,true),(6,true),(7,true)] [⟨8,13,61,AI (0:Rat)⟩] [(9,false),(10,true)] sr (by kernel_rfl) (λ_ _ d _ _ h=>by cases d<;>exact h) (GA O O Dc O (Hz)) O ?_)))))
 refine M9 O (Gd (v:=(pP b7 0)) O (AC (j:=0) O O underlying136 sizeOf61 O (by decide) O) O (QS 0 (AI (Ag p b c)) Bh O (HF 1 Bh O (CJ.imp O λEF EL=>?_))))
 have hz5:=JW (a:=Ag p b c) (b:=Ag a b c) (by assumption)
 refine BV call114 (IT (Ag p b c) (Ag a b c) Z (by assumption)) O (CJ.back0 sr O (M9 O (Gd O (AZ (v:=(aG (AI ((Ag p b c)/(Ag a b c))))) O O) O (Gd O (AZ (v:=(vI 0)) O O) O (CJ.news1 λb8=>?_)))))
 refine AS.imp O (Au O sizeOf61 O (AS.back (sl sr) (EZ O (AS.nil (AD.subF (sL [4,5,6,8,9,10,11,32,12,13,14] O) ?_)))))
 refine q1 (q4 (AO O (AG (CL (c:=false) O O (by decide)) O (AE.nil (AD.subF (sL [4,5,6,8,9,10,11,32,12,13,44] O) ?_)))))
 refine AD.then_ (AF.cond_false O (AF.skip (AD.then_ (AF.region (AO O ?_)))))
 refine BD 0 Bh O (AG (v:=(pP b7 0)) (AC (j:=0) O O underlying136 sizeOf61 O (by decide) O) O (F_ 1 (off:=0) (vs:=AI ((Ag p b c)/(Ag a b c))) (cs':=AI ((Ag p b c)/(Ag a b c))++AI (Ag a p c)++AI (Ag a b p)) (AQ O) O sizeOf61 O (AE.nil (AD.subF (sL [4,5,6,8,9,10,11,32,12,13] O) (AD.in_normal ?_)))))
 refine AD.then_ (AF.region (AG (AX (c:=(1:Int)) O O (by decide)) O (AO O (AE.nil (AD.subF (sL [4,5,6,8,9,10,11,32,12,13] O) ?_)))))
 refine AD.again (E3.step (q4 (AG (Af (c:=true) O O (by decide)) O (AE.nil (q1 ?_)))))
 refine AF.cond_true O (AF.skip (q1 (AF.block (q4 (AO O ?_)))))
 refine AK O (q6 (sL [4,5,6,8,9,10,11,32,12,13] O) (AF.subF (sL [4,5,6,8,9,10,11,32,12] O) (rN [(0,true),(1,true),(2,true),(3,true),(4,false),(5,true),(6,true),(7,true)] [⟨8,13,61,AI (0:Rat)⟩] [(9,false),(10,true)] sr (by kernel_rfl) (λ_ _ d _ _ h=>by cases d<;>exact h) (GA O O Dc O (Hz)) O (M9 O (Gd (v:=(pP b7 5)) O (AC (j:=1) O O underlying136 sizeOf61 O (by decide) O) O ?_)))))
 refine QS 1 (AI (Ag a p c)) Bh O (HF 2 Bh O (CJ.imp O λEF EL=>?_))
 have hz6:=JW (a:=Ag a p c) (b:=Ag a b c) (by assumption)
 refine BV call114 (IT (Ag a p c) (Ag a b c) Z (by assumption)) O (CJ.back0 sr O (M9 O (Gd O (AZ (v:=(aG (AI ((Ag a p c)/(Ag a b c))))) O O) O (Gd O (AZ (v:=(vI 0)) O O) O (CJ.news1 λb9=>?_)))))
 refine AS.imp O (Au O sizeOf61 O (AS.back (sl sr) (EZ O (AS.nil (AD.subF (sL [4,5,6,8,9,10,11,32,12,13,14] O) ?_)))))
 refine q1 (q4 (AO O (AG (CL (c:=false) O O (by decide)) O (AE.nil (AD.subF (sL [4,5,6,8,9,10,11,32,12,13,44] O) ?_)))))
 refine AD.then_ (AF.cond_false O (AF.skip (AD.then_ (AF.region (AO O ?_)))))
 refine BD 0 Bh O (AG (v:=(pP b7 5)) (AC (j:=1) O O underlying136 sizeOf61 O (by decide) O) O (F_ 2 (off:=5) (vs:=AI ((Ag a p c)/(Ag a b c))) (cs':=AI ((Ag p b c)/(Ag a b c))++AI ((Ag a p c)/(Ag a b c))++AI (Ag a b p)) (AQ O) O sizeOf61 O (AE.nil (AD.subF (sL [4,5,6,8,9,10,11,32,12,13] O) (AD.in_normal ?_)))))
 refine AD.then_ (AF.region (AG (AX (c:=(2:Int)) O O (by decide)) O (AO O (AE.nil (AD.subF (sL [4,5,6,8,9,10,11,32,12,13] O) ?_)))))
 refine AD.again (E3.step (q4 (AG (Af (c:=true) O O (by decide)) O (AE.nil (q1 ?_)))))
 refine AF.cond_true O (AF.skip (q1 (AF.block (q4 (AO O ?_)))))
 refine AK O (q6 (sL [4,5,6,8,9,10,11,32,12,13] O) (AF.subF (sL [4,5,6,8,9,10,11,32,12] O) (rN [(0,true),(1,true),(2,true),(3,true),(4,false),(5,true),(6,true),(7,true)] [⟨8,13,61,AI (0:Rat)⟩] [(9,false),(10,true)] sr (by kernel_rfl) (λ_ _ d _ _ h=>by cases d<;>exact h) (GA O O Dc O (Hz)) O (M9 O (Gd (v:=(pP b7 10)) O (AC (j:=2) O O underlying136 sizeOf61 O (by decide) O) O ?_)))))
 refine QS 2 (AI (Ag a b p)) Bh O (HF 3 Bh O (CJ.imp O λEF EL=>?_))
 have hz7:=JW (a:=Ag a b p) (b:=Ag a b c) (by assumption)
 refine BV call114 (IT (Ag a b p) (Ag a b c) Z (by assumption)) O (CJ.back0 sr O (M9 O (Gd O (AZ (v:=(aG (AI ((Ag a b p)/(Ag a b c))))) O O) O (Gd O (AZ (v:=(vI 0)) O O) O (CJ.news1 λb10=>?_)))))
 refine AS.imp O (Au O sizeOf61 O (AS.back (sl sr) (EZ O (AS.nil (AD.subF (sL [4,5,6,8,9,10,11,32,12,13,14] O) ?_)))))
 refine q1 (q4 (AO O (AG (CL (c:=false) O O (by decide)) O (AE.nil (AD.subF (sL [4,5,6,8,9,10,11,32,12,13,44] O) ?_)))))
 refine AD.then_ (AF.cond_false O (AF.skip (AD.then_ (AF.region (AO O ?_)))))
 refine BD 0 Bh O (AG (v:=(pP b7 10)) (AC (j:=2) O O underlying136 sizeOf61 O (by decide) O) O (F_ 3 (off:=10) (vs:=AI ((Ag a b p)/(Ag a b c))) (cs':=AI ((Ag p b c)/(Ag a b c))++AI ((Ag a p c)/(Ag a b c))++AI ((Ag a b p)/(Ag a b c))) (AQ O) O sizeOf61 O (AE.nil (AD.subF (sL [4,5,6,8,9,10,11,32,12,13] O) (AD.in_normal ?_)))))
 refine AD.then_ (AF.region (AG (AX (c:=(3:Int)) O O (by decide)) O (AO O (AE.nil (AD.subF (sL [4,5,6,8,9,10,11,32,12,13] O) ?_)))))
 refine AD.again (E3.step (q4 (AG (Af (c:=false) O O (by decide)) O (AE.nil (q1 ?_)))))
 refine AF.cond_false O (AF.exit (AD.then_exit (AD.then_exit (AD.in_exit (q2 ?_)))))
 refine BD 3 VU O (F_ 5 (off:=0) (vs:=AI ((Ag p b c)/(Ag a b c))++AI ((Ag a p c)/(Ag a b c))++AI ((Ag a b p)/(Ag a b c))) (cs':=AI ((Ag p b c)/(Ag a b c))++AI ((Ag a p c)/(Ag a b c))++AI ((Ag a b p)/(Ag a b c))) (AQ O) O sizeOf136 O (AK O (AE.nil (AD.subF (sL [4,5,6,8,9,10,11,32,12,13] O) (AD.then_ ?_)))))
 exact AF.ret (Cm O (A8 (i:=5) (cs:=AI ((Ag p b c)/(Ag a b c))++AI ((Ag a p c)/(Ag a b c))++AI ((Ag a b p)/(Ag a b c))) O O isAgg136 sizeOf136 O) (Ad (v:=(vI 0)) O) (λw hw=>⟨rfl,hw.out⟩))
theorem Iq  :Instr.fill (λi=>some (i*5,5)) (AI (0:Rat)++AI (0:Rat)++AI (0:Rat)).toArray []=some (AI (0:Rat)++AI (0:Rat)++AI (0:Rat)).toArray:=by kernel_rfl
theorem Pb (a b c p:Pt) (hs:B8 a+B8 b+B8 c+B8 p<=268435456) (h:Ag a b c=0) (w:World)  :Calls prog 64 #[(aG (Aj a)),(aG (Aj b)),(aG (Aj c)),(aG (Aj p))] w (Am w (Value.tuple #[(aG (AI (0:Rat)++AI (0:Rat)++AI (0:Rat))),(vI 1)])):=by
 refine Ac (args:=[(aG (Aj a)),(aG (Aj b)),(aG (Aj c)),(aG (Aj p))]) func64 O O (Ab O) (AF.subF (sL [0,1,2,3] O) (q4 (Bq (cs:=Aj a) O λb1=>Bq (cs:=Aj b) O λb2=>Bq (cs:=Aj c) O λb3=>?_)))
 refine Bq (cs:=Aj p) O λb4=>al J9 O λb5=>AK O (q3 (sL [4,5,6,7,8,9] O) (BD 4 BQ O (BD 3 BQ O ?_)))
 refine BD 2 BQ O ?_
 have hz1:=DM a b c
 refine BV call66 (DU a b c Z) O (al Dc O λb6=>Au O sizeOf61 O (q6 (sL [4,5,6,7,8,9,10] O) (rN [(0,true),(1,true),(2,true),(4,true),(5,true),(6,true),(8,true),(9,true),(10,true),(3,false),(7,false),(11,false),(12,true)] [⟨13,11,136,AI (0:Rat)++AI (0:Rat)++AI (0:Rat)⟩] [(14,false)] sr (by kernel_rfl) (λ_ _ d _ _ h=>by cases d<;>exact h) (GA O O J9 O (Hz)) O (HF 2 BQ O ?_))))
 refine HF 4 BQ O (HF 3 BQ O (HF 5 BQ O (HF 2 BQ O (HF 3 BQ O (HF 5 BQ O ?_)))))
 refine HF 4 BQ O (HF 2 BQ O (CJ.imp O λEF EL=>?_))
 have hz2:=DM p b c
 refine BV call66 (DU p b c Z) O (CJ.back0 sr O (CJ.imp O λEF EL=>?_))
 have hz3:=DM a p c
 refine BV call66 (DU a p c Z) O (CJ.back0 sr O (CJ.imp O λEF EL=>?_))
 have hz4:=DM a b p
 refine BV call66 (DU a b p Z) O (CJ.back0 sr O (Gd (v:=(aG (AI (Ag p b c)++AI (Ag a p c)++AI (Ag a b p)))) O (Ap (zs:=AI (0:Rat)++AI (0:Rat)++AI (0:Rat)) (vs:=AI (Ag p b c)++AI (Ag a p c)++AI (Ag a b p)) (pv:=[(0,(aG (AI (Ag p b c)))),(1,(aG (AI (Ag a p c)))),(2,(aG (AI (Ag a b p))))]) zeroValue136 underlying136 sizeOf61 O (CI (Ag p b c) (Ag a p c) (Ag a b p))) O (CJ.news1 λb7=>AS.imp O (Au O sizeOf136 O ?_))))
 refine AS.back (sl sr) (AS.nil (AD.subF (sL [4,5,6,8,9,10,11] O) (q1 (q4 (AO O ?_)))))
 refine AE.nil (AD.then_ (AF.block (AF.unroll 5 (E3.step (q4 ?_)))))
 refine AG (Af (c:=true) O O (by decide)) O (AE.nil (q1 (AF.cond_true O (AF.skip (q1 ?_)))))
 refine AF.block (q4 (AO O (AK O (q6 (sL [4,5,6,8,9,10,11,32,12] O) (rN [(0,true),(1,true),(2,true),(3,true),(4,false),(5,true),(6,true),(7,true)] [⟨8,13,61,AI (0:Rat)⟩] [(9,false),(10,true)] sr (by kernel_rfl) (λ_ _ d _ _ h=>by cases d<;>exact h) (GA O O Dc O (Hz)) O ?_)))))
 refine M9 O (Gd (v:=(pP b7 0)) O (AC (j:=0) O O underlying136 sizeOf61 O (by decide) O) O (QS 0 (AI (Ag p b c)) Bh O (HF 1 Bh O (CJ.imp O λEF EL=>ET (args:=[(aG (AI (Ag p b c))),(aG (AI (Ag a b c)))]) (v:=(Value.tuple #[(aG (AI (0:Rat))),(vI 5)])) call114 (λw hw=>(by rw [h];exact Qw _ w)) O ?_))))
 refine CJ.back0 sr O (M9 O (Gd O (AZ (v:=(aG (AI (0:Rat)))) O O) O (Gd O (AZ (v:=(vI 5)) O O) O (CJ.news1 λb8=>AS.imp O ?_))))
 refine Au O sizeOf61 O (AS.back (sl sr) (EZ O (AS.nil (AD.subF (sL [4,5,6,8,9,10,11,32,12,13,14] O) (q1 ?_)))))
 refine q4 (AO O (AG (CL (c:=true) O O (by decide)) O (AE.nil (AD.subF (sL [4,5,6,8,9,10,11,32,12,13,44] O) (AD.then_ ?_)))))
 refine AF.cond_true O (q4 (AG (v:=(aG (AI (0:Rat)++AI (0:Rat)++AI (0:Rat)))) (Ap (zs:=AI (0:Rat)++AI (0:Rat)++AI (0:Rat)) (vs:=AI (0:Rat)++AI (0:Rat)++AI (0:Rat)) (pv:=[]) zeroValue136 underlying136 sizeOf61 O (Iq )) O (Is O sizeOf136 O (AK O (AE.nil ?_)))))
 refine AD.subF (sL [4,5,6,8,9,10,11,32,12,13] O) (AD.then_ (AF.ret (AD.then_ret (AD.in_ret (AD.then_ret ?_)))))
 exact AD.then_ret (AD.in_ret (AD.then_ret (Cm O (A8 (i:=3) (cs:=AI (0:Rat)++AI (0:Rat)++AI (0:Rat)) O O isAgg136 sizeOf136 O) (Ad (v:=(vI 1)) O) (λw hw=>⟨rfl,hw.out⟩))))
end
def zq (q:Rat):Nat:=if q.num.sign=0 then 1 else 0
def Hf (x y z:Rat):Nat:=if x.num.sign = -1\/y.num.sign = -1\/z.num.sign = -1 then 0 else 1+zq x+zq y+zq z
theorem M7 {x y z:Rat} (h:x.num.sign = -1):Hf x y z=0:=if_pos (.inl h)
theorem Mn {x y z:Rat} (h:y.num.sign = -1):Hf x y z=0:=if_pos (.inr (.inl h))
theorem Ma {x y z:Rat} (h:z.num.sign = -1):Hf x y z=0:=if_pos (.inr (.inr h))
theorem RC {x y z:Rat} (h1:¬x.num.sign = -1) (h2:¬y.num.sign = -1) (h3:¬z.num.sign = -1):Hf x y z=1+zq x+zq y+zq z:=if_neg (by simp [h1,h2,h3])
theorem NW {x:Rat} (h:x.num.sign=0):zq x=1:=if_pos h
theorem Kz {x:Rat} (h:¬x.num.sign=0):zq x=0:=if_neg h
theorem QC (x:Rat):zq x<=1:=by unfold zq;split<;>omega
section
set_option maxRecDepth 100000
end
section
set_option maxRecDepth 100000
end
section
set_option maxRecDepth 100000
set_option maxHeartbeats 2000000 in
theorem RS (a b c p:Pt) (hs:B8 a+B8 b+B8 c+B8 p<=268435456) (h:Ag a b c≠0) (w:World)  :Calls prog 24 #[(aG (Aj a)),(aG (Aj b)),(aG (Aj c)),(aG (Aj p))] w (Am w (vN (Hf (Ag p b c/Ag a b c) (Ag a p c/Ag a b c) (Ag a b p/Ag a b c)))):=by
 obtain ⟨l0,hl0⟩:∃l,l=Ag p b c/Ag a b c:=⟨_,rfl⟩
 obtain ⟨l1,hl1⟩:∃l,l=Ag a p c/Ag a b c:=⟨_,rfl⟩
 obtain ⟨l2,hl2⟩:∃l,l=Ag a b p/Ag a b c:=⟨_,rfl⟩
 refine Ac (args:=[(aG (Aj a)),(aG (Aj b)),(aG (Aj c)),(aG (Aj p))]) func24 O O (Ab O) (AF.subF (sL [0,1,2,3] O) (q4 (Bq (cs:=Aj a) O λb1=>Bq (cs:=Aj b) O λb2=>Bq (cs:=Aj c) O λb3=>?_)))
 refine Bq (cs:=Aj p) O λb4=>AK O (q3 (sL [4,5,6,7,8] O) (BD 3 BQ O (BD 2 BQ O (BD 1 BQ O ?_))))
 refine BD 0 BQ O (ET (args:=[(aG (Aj a)),(aG (Aj b)),(aG (Aj c)),(aG (Aj p))]) (v:=(Value.tuple #[(aG (AI l0++AI l1++AI l2)),(vI 0)])) call64 (λw hw=>(by rw [hl0,hl1,hl2];exact Td a b c p Z h w)) O (AO O (AG (AZ (v:=(aG (AI l0++AI l1++AI l2))) O O) O (AG (AZ (v:=(vI 0)) O O) O (al J9 O λb5=>?_)))))
 refine Au O sizeOf136 O (AK O (q6 (sL [8,9,10] O) (q4 (AO O (AG (CL (c:=false) O O (by decide)) O ?_)))))
 refine AE.nil (AD.subF (sL [8,9,22] O) (AD.then_ (AF.cond_false O (AF.skip (q2 ?_)))))
 refine AK O (q6 (sL [8,9,11] O) (q4 (AO O (AE.nil (AD.then_ ?_)))))
 refine AF.block (AF.unroll 5 (E3.step (q4 (AG (Af (c:=true) O O (by decide)) O (AE.nil ?_)))))
 refine q1 (AF.cond_true O (AF.skip (q1 (AF.block (q4 ?_)))))
 refine AO O (AK O (q3 (sL [8,9,11,23,12] O) (AO O (AG (v:=(pP b5 0)) (AC (j:=0) O O underlying136 sizeOf61 O (by decide) O) O (DJ 0 (AI l0) Bh O ?_)))))
 refine BV call20 (Dr l0) O (AE.nil (AD.subF (sL [8,9,11,23,29] O) (AD.then_ ?_)))
 refine AF.jn1 (tg λ(pl0:Nat)=>pl0=1+zq l0/\¬l0.num.sign = -1) (tg λ(pl0:Nat)=>[(9,(pP b5 0)),(23,(vI 0)),(11,(vN pl0))]) (tg λ(pl0:Nat)=>[Ae b5 136 (AI l0++AI l1++AI l2),Ae b4 63 (Aj p),Ae b3 63 (Aj c),Ae b2 63 (Aj b),Ae b1 63 (Aj a)]) ?_ ?_
 ·skip
  refine AF.block (q4 (AG (BU (c:=(decide (l0.num.sign=(-1:Int)))) O O O) O (AK O (AE.nil (AD.subF (sL [8,9,11,23,29,30] O) ?_)))))
  refine AD.then_ ?_
  refine AF.cond O (λhc2=>?_) (λhc2=>?_)
  ·replace hc2:=of_decide_eq_true hc2
   have hz:=M7 (x:=l0) (y:=l1) (z:=l2) hc2
   refine q4 (AK O (AE.nil (AD.then_ (AF.ret (AD.in_ret ?_)))))
   exact AD.join1_ret (AD.in_ret (AD.then_ret (AD.then_ret (AD.in_ret (AD.then_ret (AP O (Ad (v:=(vI 0)) O) (λw hw=>⟨by rw [<-hl0,<-hl1,<-hl2,hz];rfl,hw.out⟩)))))))
  ·replace hc2:=of_decide_eq_false hc2
   refine q4 (AG (BU (c:=(decide (l0.num.sign=(0:Int)))) O O O) O (AK O (AE.nil (AD.subF (sL [8,9,11,23,29,32] O) (AD.then_ ?_)))))
   refine AF.cond O (λhc3=>?_) (λhc3=>?_)
   ·replace hc3:=of_decide_eq_true hc3
    refine AF.region (AO O (AG (AX (c:=(2:Int)) O O (by decide)) O (AK O (AE.nil (AD.subF (sL [8,9,11,23,29] O) ?_)))))
    exact AD.in_normal (AD.join1 2 (⟨by simp [NW hc3],hc2⟩) (sF O) sr)
   ·replace hc3:=of_decide_eq_false hc3
    exact AF.skip (AD.in_normal (AD.join1 1 (⟨by simp [Kz hc3],hc2⟩) (sF O) sr))
 ·intro pl0 hJ
  obtain ⟨e0,n0⟩:=hJ
  have zz0:=QC l0
  refine AD.in_normal (AD.then_ (AF.region (AG (AX (c:=(1:Int)) O O (by decide)) O (AO O (AE.nil ?_)))))
  refine AD.subF (sL [9,23,11] O) (AD.again (E3.step (q4 (AG (Af (c:=true) O O (by decide)) O (AE.nil ?_)))))
  refine q1 (AF.cond_true O (AF.skip (q1 (AF.block (q4 ?_)))))
  refine AO O (AK O (q3 (sL [9,23,11,12] O) (AO O (AG (v:=(pP b5 5)) (AC (j:=1) O O underlying136 sizeOf61 O (by decide) O) O (DJ 0 (AI l1) Bh O ?_)))))
  refine BV call20 (Dr l1) O (AE.nil (AD.subF (sL [9,23,11,29] O) (AD.then_ ?_)))
  refine AF.jn1 (tg λ(pl1:Nat)=>pl1=pl0+zq l1/\¬l1.num.sign = -1) (tg λ(pl1:Nat)=>[(9,(pP b5 0)),(23,(vI 1)),(11,(vN pl1))]) (tg λ(pl1:Nat)=>[Ae b5 136 (AI l0++AI l1++AI l2),Ae b4 63 (Aj p),Ae b3 63 (Aj c),Ae b2 63 (Aj b),Ae b1 63 (Aj a)]) ?_ ?_
  ·skip
   refine AF.block (q4 (AG (BU (c:=(decide (l1.num.sign=(-1:Int)))) O O O) O (AK O (AE.nil (AD.subF (sL [9,23,11,29,30] O) ?_)))))
   refine AD.then_ ?_
   refine AF.cond O (λhc2=>?_) (λhc2=>?_)
   ·replace hc2:=of_decide_eq_true hc2
    have hz:=Mn (x:=l0) (y:=l1) (z:=l2) hc2
    refine q4 (AK O (AE.nil (AD.then_ (AF.ret (AD.in_ret ?_)))))
    exact AD.join1_ret (AD.in_ret (AD.then_ret (AD.then_ret (AD.in_ret (AD.then_ret (AP O (Ad (v:=(vI 0)) O) (λw hw=>⟨by rw [<-hl0,<-hl1,<-hl2,hz];rfl,hw.out⟩)))))))
   ·replace hc2:=of_decide_eq_false hc2
    refine q4 (AG (BU (c:=(decide (l1.num.sign=(0:Int)))) O O O) O (AK O (AE.nil (AD.subF (sL [9,23,11,29,32] O) (AD.then_ ?_)))))
    refine AF.cond O (λhc3=>?_) (λhc3=>?_)
    ·replace hc3:=of_decide_eq_true hc3
     refine AF.region (AO O (AG (AX (c:=((pl0+1:Nat):Int)) O O (AY (a:=pl0) (b:=1) Z)) O (AK O (AE.nil (AD.subF (sL [9,23,11,29] O) ?_)))))
     exact AD.in_normal (AD.join1 (pl0+1) (⟨by simp [NW hc3],hc2⟩) (sF O) sr)
    ·replace hc3:=of_decide_eq_false hc3
     exact AF.skip (AD.in_normal (AD.join1 pl0 (⟨by simp [Kz hc3],hc2⟩) (sF O) sr))
  ·intro pl1 hJ
   obtain ⟨e1,n1⟩:=hJ
   have zz1:=QC l1
   refine AD.in_normal (AD.then_ (AF.region (AG (AX (c:=(2:Int)) O O (by decide)) O (AO O (AE.nil ?_)))))
   refine AD.subF (sL [9,23,11] O) (AD.again (E3.step (q4 (AG (Af (c:=true) O O (by decide)) O (AE.nil ?_)))))
   refine q1 (AF.cond_true O (AF.skip (q1 (AF.block (q4 ?_)))))
   refine AO O (AK O (q3 (sL [9,23,11,12] O) (AO O (AG (v:=(pP b5 10)) (AC (j:=2) O O underlying136 sizeOf61 O (by decide) O) O (DJ 0 (AI l2) Bh O ?_)))))
   refine BV call20 (Dr l2) O (AE.nil (AD.subF (sL [9,23,11,29] O) (AD.then_ ?_)))
   refine AF.jn1 (tg λ(pl2:Nat)=>pl2=pl1+zq l2/\¬l2.num.sign = -1) (tg λ(pl2:Nat)=>[(9,(pP b5 0)),(23,(vI 2)),(11,(vN pl2))]) (tg λ(pl2:Nat)=>[Ae b5 136 (AI l0++AI l1++AI l2),Ae b4 63 (Aj p),Ae b3 63 (Aj c),Ae b2 63 (Aj b),Ae b1 63 (Aj a)]) ?_ ?_
   ·skip
    refine AF.block (q4 (AG (BU (c:=(decide (l2.num.sign=(-1:Int)))) O O O) O (AK O (AE.nil (AD.subF (sL [9,23,11,29,30] O) ?_)))))
    refine AD.then_ ?_
    refine AF.cond O (λhc2=>?_) (λhc2=>?_)
    ·replace hc2:=of_decide_eq_true hc2
     have hz:=Ma (x:=l0) (y:=l1) (z:=l2) hc2
     refine q4 (AK O (AE.nil (AD.then_ (AF.ret (AD.in_ret ?_)))))
     exact AD.join1_ret (AD.in_ret (AD.then_ret (AD.then_ret (AD.in_ret (AD.then_ret (AP O (Ad (v:=(vI 0)) O) (λw hw=>⟨by rw [<-hl0,<-hl1,<-hl2,hz];rfl,hw.out⟩)))))))
    ·replace hc2:=of_decide_eq_false hc2
     refine q4 (AG (BU (c:=(decide (l2.num.sign=(0:Int)))) O O O) O (AK O (AE.nil (AD.subF (sL [9,23,11,29,32] O) (AD.then_ ?_)))))
     refine AF.cond O (λhc3=>?_) (λhc3=>?_)
     ·replace hc3:=of_decide_eq_true hc3
      refine AF.region (AO O (AG (AX (c:=((pl1+1:Nat):Int)) O O (AY (a:=pl1) (b:=1) Z)) O (AK O (AE.nil (AD.subF (sL [9,23,11,29] O) ?_)))))
      exact AD.in_normal (AD.join1 (pl1+1) (⟨by simp [NW hc3],hc2⟩) (sF O) sr)
     ·replace hc3:=of_decide_eq_false hc3
      exact AF.skip (AD.in_normal (AD.join1 pl1 (⟨by simp [Kz hc3],hc2⟩) (sF O) sr))
   ·intro pl2 hJ
    obtain ⟨e2,n2⟩:=hJ
    have zz2:=QC l2
    refine AD.in_normal (AD.then_ (AF.region (AG (AX (c:=(3:Int)) O O (by decide)) O (AO O (AE.nil ?_)))))
    refine AD.subF (sL [9,23,11] O) (AD.again (E3.step (q4 (AG (Af (c:=false) O O (by decide)) O (AE.nil ?_)))))
    refine q1 (AF.cond_false O (AF.exit (AD.then_exit (AD.then_exit (AD.in_exit ?_)))))
    refine q2 (AO O (AK O (AE.nil (AD.subF (sL [9,23,11,8] O) (AD.then_ ?_)))))
    exact AF.ret (AP O (Ad (v:=(vN pl2)) O) (λw hw=>⟨by rw [<-hl0,<-hl1,<-hl2,RC n0 n1 n2,e2,e1,e0],hw.out⟩))
theorem Of (a b c p:Pt) (hs:B8 a+B8 b+B8 c+B8 p<=268435456) (h:Ag a b c=0) (w:World)  :Calls prog 24 #[(aG (Aj a)),(aG (Aj b)),(aG (Aj c)),(aG (Aj p))] w (Am w (vI 0)):=by
 refine Ac (args:=[(aG (Aj a)),(aG (Aj b)),(aG (Aj c)),(aG (Aj p))]) func24 O O (Ab O) (AF.subF (sL [0,1,2,3] O) (q4 (Bq (cs:=Aj a) O λb1=>Bq (cs:=Aj b) O λb2=>Bq (cs:=Aj c) O λb3=>?_)))
 refine Bq (cs:=Aj p) O λb4=>AK O (q3 (sL [4,5,6,7,8] O) (BD 3 BQ O (BD 2 BQ O (BD 1 BQ O ?_))))
 refine BD 0 BQ O (BV call64 (Pb a b c p Z h) O (AO O (AG (AZ (v:=(aG (AI (0:Rat)++AI (0:Rat)++AI (0:Rat)))) O O) O (AG (AZ (v:=(vI 1)) O O) O (al J9 O λb5=>?_)))))
 refine Au O sizeOf136 O (AK O (q6 (sL [8,9,10] O) (q4 (AO O (AG (CL (c:=true) O O (by decide)) O ?_)))))
 refine AE.nil (AD.subF (sL [8,9,22] O) (AD.then_ (AF.cond_true O (q4 (AK O ?_)))))
 exact AE.nil (AD.subF (sL [8,9] O) (AD.then_ (AF.ret (AD.then_ret (AP O (Ad (v:=(vI 0)) O) (λw hw=>⟨rfl,hw.out⟩))))))
end
section
set_option maxRecDepth 100000
end
section
section
variable {P:Program} {n:Nat} {F:List (Nat×Value)} {w0:BL} {L:List As} {v:Value} {x:Operand} {d:Option Tmp} {t:TypeId} {p:String} {af:Array Edge} {g:Option (Nat×Bool)}
theorem EM {tx e:TypeId} {b len k:Nat} (hx:evF F x=some (.pointer (some ⟨b,0,none⟩))) (hu:P.underlying tx=some (.array len e)) (hs:∀w,(sizeOf e).run P w=.ok k w) (h0:0<len) :
    Ex P n F w0 L ⟨d,.slice tx x none none none,t,p,af,g⟩ (.slice (some ⟨b,0,none⟩) len len):=λA w ha _=>by
  have e1:¬len=0:=by omega
  simp [execOp,ha.ev hx,Instr.sliceAt,run_underlying hu,Instr.sureAddr,Instr.sliceBounds,Instr.sliceBound,hs,e1,Addr.add_lit]
end
end
section
set_option maxRecDepth 100000
end
section
set_option maxRecDepth 100000
end
section
set_option maxRecDepth 100000
end
section
set_option maxRecDepth 100000
end
section
set_option maxRecDepth 100000
end
section
set_option maxRecDepth 100000
end
section
section
variable {P:Program} {n:Nat} {F:List (Nat×Value)} {w0:BL} {L:List As} {v:Value} {x lo hi:Operand} {d:Option Tmp} {t:TypeId} {p:String} {af:Array Edge} {g:Option (Nat×Bool)}
theorem H3 {s r:ByteArray} {ki kj:IntKind} {i j:Nat} {tx:TypeId} (hx:evF F x=some (.string s)) (hl:evF F lo=some (.int ki (i:Nat))) (hh:evF F hi=some (.int kj (j:Nat))) (hu:P.underlying tx=some .string) (h1:i<=j) (h2:j<=s.size) (hr:s.extract i j=r) :
    Ex P n F w0 L ⟨d,.slice tx x (some lo) (some hi) none,t,p,af,g⟩ (.string r):=λA w ha _=>by
  subst hr
  simp only [execOp,ha.ev hx,Instr.sliceAt,run_underlying hu,Instr.slice,Option.map_some,Option.map_none,ha.ev hl,ha.ev hh,Instr.sliceBounds,Instr.sliceBound,asIntOf,Sem.run_bind,Result.andThen_ok,Sem.run_pure]
  simp [h1,h2]
end
def HZ (n:Nat):ByteArray:=⟨#[UInt8.ofNat (48+n)]⟩
theorem UE {s:ByteArray} (h:((List.range 10).all λn=>(s.extract n (n+1)).data.toList == (HZ n).data.toList)=true) {n:Nat} (hn:n<10):s.extract n (n+1)=HZ n:=by
  have h1:=List.all_eq_true.1 h n (List.mem_range.2 hn)
  have h2:(s.extract n (n+1)).data.toList=(HZ n).data.toList:=by simpa using h1
  cases hA:s.extract n (n+1) with|mk da=>cases hB:HZ n with|mk db =>
    rw [hA,hB] at h2
    congr 1
    exact Array.toList_inj.1 h2
def EH (z:Int):ByteArray:=if z<0 then ⟨#[45]⟩++HZ z.natAbs else HZ z.natAbs
def Nt (q:Rat):ByteArray:=if q.den-1=0 then EH q.num else EH q.num++⟨#[47]⟩++HZ q.den
theorem ME (n:Nat):(HZ n).size=1:=rfl
theorem Mx (z:Int):(EH z).size<=2:=by
  unfold EH
  split
  · rw [ByteArray.size_append];exact Nat.le_refl 2
  · exact Nat.le_succ 1
end
end Go.Proofs.YtfbomiejpbchdaaGreatDoor
