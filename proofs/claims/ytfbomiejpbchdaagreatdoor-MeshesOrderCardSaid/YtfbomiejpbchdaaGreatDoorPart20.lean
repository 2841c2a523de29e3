import Derived.Test.YtfbomiejpbchdaaGreatDoorPart06
import Derived.Test.YtfbomiejpbchdaaGreatDoorPart19
namespace Go.Proofs.YtfbomiejpbchdaaGreatDoor
open Go Go.RowKit Go.Proofs.Tryz
set_option linter.unusedVariables false
set_option linter.unusedSimpArgs false
section
set_option maxRecDepth 100000
theorem C0 (x0:Rat) (x1:Rat):Instr.fill ([(0,5),(5,5)].toArray[·]?) (Aj (⟨0,0⟩:Pt)).toArray [(0,.agg (AK x0).toArray),(1,.agg (AK x1).toArray)]=some (AK x0++AK x1).toArray:=by kernel_rfl
theorem M8 (a b:Pt) (hs:CG a+CG b<=68719476736) (w:World)  :Calls prog 152 #[(aG (Aj a)),(aG (Aj b)),(Value.func (.func 58) #[] #[])] w (Ak w (aG (Aj (a-b)))):=by
 have p1:=Gn a
 have p2:=Gi a
 have p3:=Gn b
 have p4:=Gi b
 refine Ab (args:=[(aG (Aj a)),(aG (Aj b)),(Value.func (.func 58) #[] #[])]) func152 O O (Ad O) (AF.subF (sL [0,1,2] O) (q4 (Bk (cs:=Aj a) O λb1=>Bk (cs:=Aj b) O λb2=>al HL O λb3=>?_)))
 refine q6 (sL [2,3,4,6] O) (DA [(0,true),(1,true),(2,true),(3,true),(4,true),(6,true),(7,true),(8,true),(9,true),(10,true),(5,false),(11,false),(12,true),(13,false)] (sl sr) (Bp O (Aw (v:=(pP b1 0)) O (AA O underlying63 O sizeOf61 O) (IM 1 (AK a.x) Br O (Aw (v:=(pP b2 0)) O (AA O underlying63 O sizeOf61 O) ?_)))))
 refine IM 0 (AK b.x) Br O (Bp O (Aw (v:=(pP b1 5)) O (AA O underlying63 O sizeOf61 O) (IM 1 (AK a.y) Br O (Aw (v:=(pP b2 5)) O (AA O underlying63 O sizeOf61 O) (IM 0 (AK b.y) Br O ?_)))))
 refine AS.imp O ?_
 have hz1:=Hr a.x b.x
 refine BS call58 (La a.x b.x (by (try simp only [FV]);omega)) O (AS.back (sl sr) (AS.imp O ?_))
 have hz2:=Hr a.y b.y
 refine BS call58 (La a.y b.y (by (try simp only [FV]);omega)) O (AS.back (sl sr) (Aw (v:=(aG (AK (a.x-b.x)++AK (a.y-b.y)))) O (AT (zs:=Aj (⟨0,0⟩:Pt)) (vs:=AK (a.x-b.x)++AK (a.y-b.y)) (pv:=[(0,(aG (AK (a.x-b.x)))),(1,(aG (AK (a.y-b.y))))]) (places:=[(0,5),(5,5)]) zeroValue63 underlying63 (λw=>by simp [sizeOf61]) O (C0 (a.x-b.x) (a.y-b.y))) (AS.imp O (Aq O sizeOf63 O (AS.back (sl sr) ?_)))))
 exact AS.nil (AD.subF (sL [6] O) (AD.then_ (AF.ret (AN O (A7 (i:=0) (cs:=AK (a.x-b.x)++AK (a.y-b.y)) O O isAgg63 sizeOf63 O) (λw hw=>⟨by rw [U9],hw.out⟩)))))
theorem Iq (a b:Pt) (hs:CG a+CG b<=68719476736) (w:World)  :Calls prog 116 #[(aG (Aj a)),(aG (Aj b))] w (Ak w (aG (Aj (a-b)))):=by
 refine Ab (args:=[(aG (Aj a)),(aG (Aj b))]) func116 O O (Ad O) (AF.subF (sL [0,1] O) (q4 (Bk (cs:=Aj a) O λb1=>Bk (cs:=Aj b) O λb2=>al HL O λb3=>?_)))
 refine q3 (sL [2,3,4] O) (BE 2 BR O (BE 1 BR O (BS call152 (M8 a b Z) O (Aq O sizeOf63 O (AE.nil ?_)))))
 exact AD.subF (sL [4] O) (AD.then_ (AF.ret (AN O (A7 (i:=0) (cs:=Aj (a-b)) O O isAgg63 sizeOf63 O) (λw hw=>⟨rfl,hw.out⟩))))
theorem LU (a b:Pt) (hs:CG a+CG b<=68719476736) (w:World)  :Calls prog 18 #[(aG (Aj a)),(aG (Aj b))] w (Ak w (aG (AK (H9 a b)))):=by
 have p1:=Gn a
 have p2:=Gi a
 have p3:=Gn b
 have p4:=Gi b
 refine Ab (args:=[(aG (Aj a)),(aG (Aj b))]) func18 O O (Ad O) (AF.subF (sL [0,1] O) (q4 (Bk (cs:=Aj a) O λb1=>Bk (cs:=Aj b) O λb2=>al Dv O λb3=>?_)))
 refine q6 (sL [2,3,4] O) (DA [(0,true),(1,true),(2,true),(3,true),(5,true),(6,true),(7,true),(8,true),(4,false),(9,false),(10,false),(11,false)] (sl sr) (Aw (v:=(pP b1 0)) O (AA O underlying63 O sizeOf61 O) (IM 1 (AK a.x) Br O (Aw (v:=(pP b2 5)) O (AA O underlying63 O sizeOf61 O) (IM 0 (AK b.y) Br O ?_)))))
 refine Aw (v:=(pP b1 5)) O (AA O underlying63 O sizeOf61 O) (IM 1 (AK a.y) Br O (Aw (v:=(pP b2 0)) O (AA O underlying63 O sizeOf61 O) (IM 0 (AK b.x) Br O (AS.imp O ?_))))
 have hz1:=E5 a.x b.y
 refine BS call26 (I_ a.x b.y (by (try simp only [FV]);omega)) O (AS.back (sl sr) (AS.imp O ?_))
 have hz2:=E5 a.y b.x
 refine BS call26 (I_ a.y b.x (by (try simp only [FV]);omega)) O (AS.back (sl sr) (AS.imp O ?_))
 have hz3:=Hr (a.x*b.y) (a.y*b.x)
 refine BS call58 (La (a.x*b.y) (a.y*b.x) (by (try simp only [FV]);omega)) O (AS.back (sl sr) (AS.imp O (Aq O sizeOf61 O (AS.back (sl sr) (AS.nil ?_)))))
 exact AD.subF (sL [4] O) (AD.then_ (AF.ret (AN O (A7 (i:=0) (cs:=AK ((a.x*b.y)-(a.y*b.x))) O O isAgg61 sizeOf61 O) (λw hw=>⟨rfl,hw.out⟩))))
theorem HR (a b c:Pt) (hs:CG a+CG b+CG c<=17179869184) (w:World)  :Calls prog 117 #[(aG (Aj a)),(aG (Aj b)),(aG (Aj c))] w (Ak w (vI ((AO a b c).num.sign))):=by
 refine Ab (args:=[(aG (Aj a)),(aG (Aj b)),(aG (Aj c))]) func117 O O (Ad O) (AF.subF (sL [0,1,2] O) (q4 (Bk (cs:=Aj a) O λb1=>Bk (cs:=Aj b) O λb2=>Bk (cs:=Aj c) O λb3=>?_)))
 refine AJ O (q6 (sL [3,4,5,6] O) (DA [(0,true),(1,true),(3,true),(4,true),(2,false),(5,false),(6,false),(7,false),(8,true)] sr (E7 1 BR O (E7 2 BR O (E7 0 BR O ?_)))))
 refine E7 2 BR O (AS.imp O ?_)
 have hz1:=GN b a
 refine BS call116 (Iq b a Z) O (AS.back sr (AS.imp O ?_))
 have hz2:=GN c a
 refine BS call116 (Iq c a Z) O (AS.back sr (AS.imp O ?_))
 have hz3:=KH (b-a) (c-a)
 refine BS call18 (LU (b-a) (c-a) Z) O (AS.back sr (AS.imp O (BS call20 (Ee (H9 (b-a) (c-a))) O (AS.back sr (Ez O ?_)))))
 exact AS.nil (AD.subF (sL [6] O) (AD.then_ (AF.ret (AN O (Ac (v:=(vI ((H9 (b-a) (c-a)).num.sign))) O) (λw hw=>⟨rfl,hw.out⟩)))))
theorem I5 (x y:Int) (h1:-9223372036854775808<=x) (h2:x<9223372036854775808) (h3:-9223372036854775808<=y) (h4:y<9223372036854775808) (w:World)  :Calls prog 31 #[(vI x),(vI y)] w (Ak w (aG (Aj (⟨((x:Int):Rat),((y:Int):Rat)⟩:Pt)))):=by
 refine Ab (args:=[(vI x),(vI y)]) func31 O O (Ad O) (AF.subF (sL [0,1] O) (q4 (al HL O λb1=>AE.nil (q2 ?_))))
 refine AP O (BS call27 (JB x Z Z) O (AP O (BS call27 (JB y Z Z) O (AH (v:=(aG (AK ((x:Int):Rat)++AK ((y:Int):Rat)))) (AT (zs:=Aj (⟨0,0⟩:Pt)) (vs:=AK ((x:Int):Rat)++AK ((y:Int):Rat)) (pv:=[(0,(aG (AK ((x:Int):Rat)))),(1,(aG (AK ((y:Int):Rat))))]) (places:=[(0,5),(5,5)]) zeroValue63 underlying63 (λw=>by simp [sizeOf61]) O (C0 ((x:Int):Rat) ((y:Int):Rat))) O (Aq O sizeOf63 O ?_)))))
 exact AE.nil (AD.subF (sL [4] O) (AD.then_ (AF.ret (AN O (A7 (i:=0) (cs:=AK ((x:Int):Rat)++AK ((y:Int):Rat)) O O isAgg63 sizeOf63 O) (λw hw=>⟨by rw [Wf],hw.out⟩)))))
end
section
set_option maxRecDepth 100000
theorem Te (x y:Int) (h1:-9223372036854775808<=x) (h2:x<9223372036854775808) (h3:-9223372036854775808<=y) (h4:y<9223372036854775808) (hy:y≠0) (w:World)  :Calls prog 115 #[(vI x),(vI y)] w (Ak w (Value.tuple #[(aG (AK (((x:Int):Rat)/((y:Int):Rat)))),(vI 0)])):=by
 have hb:((y:Int):Rat)≠0:=λe=>hy (by exact_mod_cast e)
 have s1:=Lw h1 h2
 have s2:=Lw h3 h4
 refine Ab (args:=[(vI x),(vI y)]) func115 O O (Ad O) (AF.subF (sL [0,1] O) (q4 (al Dv O λb1=>AJ O (AE.nil ?_))))
 refine q2 (AP O (BS call27 (JB x Z Z) O (AP O (BS call27 (JB y Z Z) O ?_))))
 have hz1:=JQ (a:=((x:Int):Rat)) (b:=((y:Int):Rat)) (by assumption)
 refine BS call114 (JA ((x:Int):Rat) ((y:Int):Rat) Z (by assumption)) O (AH (Aa (v:=(aG (AK (((x:Int):Rat)/((y:Int):Rat))))) O O) O (AH (Aa (v:=(vI 0)) O O) O (Aq O sizeOf61 O (AJ O (AE.nil ?_)))))
 exact AD.subF (sL [4,5] O) (AD.then_ (AF.ret (Cq O (A7 (i:=0) (cs:=AK (((x:Int):Rat)/((y:Int):Rat))) O O isAgg61 sizeOf61 O) (Ac (v:=(vI 0)) O) (λw hw=>⟨rfl,hw.out⟩))))
theorem Rj (x:Rat) (hs:Sz x<=137438953472) (w:World)  :Calls prog 65 #[(aG (AK x))] w (Ak w (aG (AK (x*(1/2))))):=by
 have sh:=Ot
 refine Ab (args:=[(aG (AK x))]) func65 O O (Ad O) (AF.subF (sL [0] O) (q4 (Bk (cs:=AK x) O λb1=>al Dv O λb2=>q3 (sL [1,2] O) ?_)))
 refine BS call115 (Te (1:Int) (2:Int) Z Z Z Z Z) O (AP O (AH (Aa (v:=(aG (AK (((1:Int):Rat)/((2:Int):Rat))))) O O) O (AE.retell (k:=7) (u:=(aG (AK ((1:Rat)/2)))) O (by rw [Ue]) (AH (Aa (v:=(vI 0)) O O) O (al Dv O λb3=>?_)))))
 refine Aq O sizeOf61 O (AJ O (q3 (sL [1,2,3] O) (BE 2 Br O (BE 0 Br O ?_))))
 have hz1:=E5 x ((1:Rat)/2)
 exact BS call26 (I_ x ((1:Rat)/2) (by (try simp only [FV]);omega)) O (C9 O sizeOf61 O (AE.nil (AD.subF (sL [2,3] O) (AD.then_ (AF.ret (AN O (A7 (i:=1) (cs:=AK (x*((1:Rat)/2))) O O isAgg61 sizeOf61 O) (λw hw=>⟨rfl,hw.out⟩)))))))
theorem Da (a b c:Pt) (hs:CG a+CG b+CG c<=8589934592) (w:World)  :Calls prog 66 #[(aG (Aj a)),(aG (Aj b)),(aG (Aj c))] w (Ak w (aG (AK (AO a b c)))):=by
 refine Ab (args:=[(aG (Aj a)),(aG (Aj b)),(aG (Aj c))]) func66 O O (Ad O) (AF.subF (sL [0,1,2] O) (q4 (Bk (cs:=Aj a) O λb1=>Bk (cs:=Aj b) O λb2=>Bk (cs:=Aj c) O λb3=>?_)))
 refine al Dv O λb4=>q6 (sL [3,4,5,6] O) (DA [(0,true),(1,true),(3,true),(4,true),(2,false),(5,false),(6,false),(7,false)] (sl sr) (E7 1 BR O (E7 2 BR O (E7 0 BR O ?_))))
 refine E7 2 BR O (AS.imp O ?_)
 have hz1:=GN b a
 refine BS call116 (Iq b a Z) O (AS.back (sl sr) (AS.imp O ?_))
 have hz2:=GN c a
 refine BS call116 (Iq c a Z) O (AS.back (sl sr) (AS.imp O ?_))
 have hz3:=KH (b-a) (c-a)
 refine BS call18 (LU (b-a) (c-a) Z) O (AS.back (sl sr) (AS.imp O (Aq O sizeOf61 O (AS.back (sl sr) (AS.nil ?_)))))
 exact AD.subF (sL [6] O) (AD.then_ (AF.ret (AN O (A7 (i:=0) (cs:=AK (H9 (b-a) (c-a))) O O isAgg61 sizeOf61 O) (λw hw=>⟨rfl,hw.out⟩))))
theorem Ua (a b c:Pt) (hs:CG a+CG b+CG c<=8589934592) (w:World)  :Calls prog 25 #[(aG (Aj a)),(aG (Aj b)),(aG (Aj c))] w (Ak w (aG (AK (AO a b c*(1/2))))):=by
 refine Ab (args:=[(aG (Aj a)),(aG (Aj b)),(aG (Aj c))]) func25 O O (Ad O) (AF.subF (sL [0,1,2] O) (q4 (Bk (cs:=Aj a) O λb1=>Bk (cs:=Aj b) O λb2=>Bk (cs:=Aj c) O λb3=>?_)))
 refine al Dv O λb4=>q3 (sL [3,4,5,6] O) (BE 3 BR O (BE 2 BR O (BE 1 BR O ?_)))
 have hz1:=DW a b c
 refine BS call66 (Da a b c Z) O ?_
 have hz2:=E5 (AO a b c) (1/2)
 exact BS call65 (Rj (AO a b c) Z) O (Aq O sizeOf61 O (AE.nil (AD.subF (sL [6] O) (AD.then_ (AF.ret (AN O (A7 (i:=0) (cs:=AK ((AO a b c)*(1/2))) O O isAgg61 sizeOf61 O) (λw hw=>⟨rfl,hw.out⟩)))))))
end
section
set_option maxRecDepth 100000
theorem CN (x0:Rat) (x1:Rat) (x2:Rat):Instr.fill (λi=>some (i*5,5)) (AK (0:Rat)++AK (0:Rat)++AK (0:Rat)).toArray [(0,.agg (AK x0).toArray),(1,.agg (AK x1).toArray),(2,.agg (AK x2).toArray)]=some (AK x0++AK x1++AK x2).toArray:=by kernel_rfl
theorem Tw (a b c p:Pt) (hs:CG a+CG b+CG c+CG p<=268435456) (h:AO a b c≠0) (w:World)  :Calls prog 64 #[(aG (Aj a)),(aG (Aj b)),(aG (Aj c)),(aG (Aj p))] w (Ak w (Value.tuple #[(aG (AK (AO p b c/AO a b c)++AK (AO a p c/AO a b c)++AK (AO a b p/AO a b c))),(vI 0)])):=by
 refine Ab (args:=[(aG (Aj a)),(aG (Aj b)),(aG (Aj c)),(aG (Aj p))]) func64 O O (Ad O) (AF.subF (sL [0,1,2,3] O) (q4 (Bk (cs:=Aj a) O λb1=>Bk (cs:=Aj b) O λb2=>Bk (cs:=Aj c) O λb3=>?_)))
 refine Bk (cs:=Aj p) O λb4=>al LS O λb5=>AJ O (q3 (sL [4,5,6,7,8,9] O) (BE 4 BR O (BE 3 BR O ?_)))
 refine BE 2 BR O ?_
 have hz1:=DW a b c
 refine BS call66 (Da a b c Z) O (al Dv O λb6=>Aq O sizeOf61 O (q6 (sL [4,5,6,7,8,9,10] O) (rN [(0,true),(1,true),(2,true),(4,true),(5,true),(6,true),(8,true),(9,true),(10,true),(3,false),(7,false),(11,false),(12,true)] [⟨13,11,136,AK (0:Rat)++AK (0:Rat)++AK (0:Rat)⟩] [(14,false)] sr (by kernel_rfl) (λ_ _ d _ _ h=>by cases d<;>exact h) (Gg O O LS O (Ig)) O (Ho 2 BR O ?_))))
 refine Ho 4 BR O (Ho 3 BR O (Ho 5 BR O (Ho 2 BR O (Ho 3 BR O (Ho 5 BR O ?_)))))
 refine Ho 4 BR O (Ho 2 BR O (CO.imp O λEF EL=>?_))
 have hz2:=DW p b c
 refine BS call66 (Da p b c Z) O (CO.back0 sr O (CO.imp O λEF EL=>?_))
 have hz3:=DW a p c
 refine BS call66 (Da a p c Z) O (CO.back0 sr O (CO.imp O λEF EL=>?_))
 have hz4:=DW a b p
 refine BS call66 (Da a b p Z) O (CO.back0 sr O (HA (v:=(aG (AK (AO p b c)++AK (AO a p c)++AK (AO a b p)))) O (Ao (zs:=AK (0:Rat)++AK (0:Rat)++AK (0:Rat)) (vs:=AK (AO p b c)++AK (AO a p c)++AK (AO a b p)) (pv:=[(0,(aG (AK (AO p b c)))),(1,(aG (AK (AO a p c)))),(2,(aG (AK (AO a b p))))]) zeroValue136 underlying136 sizeOf61 O (CN (AO p b c) (AO a p c) (AO a b p))) O (CO.news1 λb7=>AS.imp O (Aq O sizeOf136 O ?_))))
 refine AS.back (sl sr) (AS.nil (AD.subF (sL [4,5,6,8,9,10,11] O) (q1 (q4 (AP O ?_)))))
 refine AE.nil (AD.then_ (AF.block (AF.unroll 5 (FL.step (q4 ?_)))))
 refine AH (Af (c:=true) O O (by decide)) O (AE.nil (q1 (AF.cond_true O (AF.skip (q1 ?_)))))
 refine AF.block (q4 (AP O (AJ O (q6 (sL [4,5,6,8,9,10,11,32,12] O) (rN [(0,true),(1,true),(2,true),(3,true),(4,false),(5,true),(6,true),(7,true)] [⟨8,13,61,AK (0:Rat)⟩] [(9,false),(10,true)] sr (by kernel_rfl) (λ_ _ d _ _ h=>by cases d<;>exact h) (Gg O O Dv O (Ig)) O ?_)))))
 refine Nq O (HA (v:=(pP b7 0)) O (AC (j:=0) O O underlying136 sizeOf61 O (by decide) O) O (SC 0 (AK (AO p b c)) Br O (Ho 1 Br O (CO.imp O λEF EL=>?_))))
 have hz5:=JQ (a:=AO p b c) (b:=AO a b c) (by assumption)
 refine BS call114 (JA (AO p b c) (AO a b c) Z (by assumption)) O (CO.back0 sr O (Nq O (HA O (Aa (v:=(aG (AK ((AO p b c)/(AO a b c))))) O O) O (HA O (Aa (v:=(vI 0)) O O) O (CO.news1 λb8=>?_)))))
 refine AS.imp O (Aq O sizeOf61 O (AS.back (sl sr) (Ez O (AS.nil (AD.subF (sL [4,5,6,8,9,10,11,32,12,13,14] O) ?_)))))
 refine q1 (q4 (AP O (AH (CP (c:=false) O O (by decide)) O (AE.nil (AD.subF (sL [4,5,6,8,9,10,11,32,12,13,44] O) ?_)))))
 refine AD.then_ (AF.cond_false O (AF.skip (AD.then_ (AF.region (AP O ?_)))))
 refine BE 0 Br O (AH (v:=(pP b7 0)) (AC (j:=0) O O underlying136 sizeOf61 O (by decide) O) O (GP 1 (off:=0) (vs:=AK ((AO p b c)/(AO a b c))) (cs':=AK ((AO p b c)/(AO a b c))++AK (AO a p c)++AK (AO a b p)) (AQ O) O sizeOf61 O (AE.nil (AD.subF (sL [4,5,6,8,9,10,11,32,12,13] O) (AD.in_normal ?_)))))
 refine AD.then_ (AF.region (AH (AX (c:=(1:Int)) O O (by decide)) O (AP O (AE.nil (AD.subF (sL [4,5,6,8,9,10,11,32,12,13] O) ?_)))))
 refine AD.again (FL.step (q4 (AH (Af (c:=true) O O (by decide)) O (AE.nil (q1 ?_)))))
 refine AF.cond_true O (AF.skip (q1 (AF.block (q4 (AP O ?_)))))
 refine AJ O (q6 (sL [4,5,6,8,9,10,11,32,12,13] O) (AF.subF (sL [4,5,6,8,9,10,11,32,12] O) (rN [(0,true),(1,true),(2,true),(3,true),(4,false),(5,true),(6,true),(7,true)] [⟨8,13,61,AK (0:Rat)⟩] [(9,false),(10,true)] sr (by kernel_rfl) (λ_ _ d _ _ h=>by cases d<;>exact h) (Gg O O Dv O (Ig)) O (Nq O (HA (v:=(pP b7 5)) O (AC (j:=1) O O underlying136 sizeOf61 O (by decide) O) O ?_)))))
 refine SC 1 (AK (AO a p c)) Br O (Ho 2 Br O (CO.imp O λEF EL=>?_))
 have hz6:=JQ (a:=AO a p c) (b:=AO a b c) (by assumption)
 refine BS call114 (JA (AO a p c) (AO a b c) Z (by assumption)) O (CO.back0 sr O (Nq O (HA O (Aa (v:=(aG (AK ((AO a p c)/(AO a b c))))) O O) O (HA O (Aa (v:=(vI 0)) O O) O (CO.news1 λb9=>?_)))))
 refine AS.imp O (Aq O sizeOf61 O (AS.back (sl sr) (Ez O (AS.nil (AD.subF (sL [4,5,6,8,9,10,11,32,12,13,14] O) ?_)))))
 refine q1 (q4 (AP O (AH (CP (c:=false) O O (by decide)) O (AE.nil (AD.subF (sL [4,5,6,8,9,10,11,32,12,13,44] O) ?_)))))
 refine AD.then_ (AF.cond_false O (AF.skip (AD.then_ (AF.region (AP O ?_)))))
 refine BE 0 Br O (AH (v:=(pP b7 5)) (AC (j:=1) O O underlying136 sizeOf61 O (by decide) O) O (GP 2 (off:=5) (vs:=AK ((AO a p c)/(AO a b c))) (cs':=AK ((AO p b c)/(AO a b c))++AK ((AO a p c)/(AO a b c))++AK (AO a b p)) (AQ O) O sizeOf61 O (AE.nil (AD.subF (sL [4,5,6,8,9,10,11,32,12,13] O) (AD.in_normal ?_)))))
 refine AD.then_ (AF.region (AH (AX (c:=(2:Int)) O O (by decide)) O (AP O (AE.nil (AD.subF (sL [4,5,6,8,9,10,11,32,12,13] O) ?_)))))
 refine AD.again (FL.step (q4 (AH (Af (c:=true) O O (by decide)) O (AE.nil (q1 ?_)))))
 refine AF.cond_true O (AF.skip (q1 (AF.block (q4 (AP O ?_)))))
 refine AJ O (q6 (sL [4,5,6,8,9,10,11,32,12,13] O) (AF.subF (sL [4,5,6,8,9,10,11,32,12] O) (rN [(0,true),(1,true),(2,true),(3,true),(4,false),(5,true),(6,true),(7,true)] [⟨8,13,61,AK (0:Rat)⟩] [(9,false),(10,true)] sr (by kernel_rfl) (λ_ _ d _ _ h=>by cases d<;>exact h) (Gg O O Dv O (Ig)) O (Nq O (HA (v:=(pP b7 10)) O (AC (j:=2) O O underlying136 sizeOf61 O (by decide) O) O ?_)))))
 refine SC 2 (AK (AO a b p)) Br O (Ho 3 Br O (CO.imp O λEF EL=>?_))
 have hz7:=JQ (a:=AO a b p) (b:=AO a b c) (by assumption)
 refine BS call114 (JA (AO a b p) (AO a b c) Z (by assumption)) O (CO.back0 sr O (Nq O (HA O (Aa (v:=(aG (AK ((AO a b p)/(AO a b c))))) O O) O (HA O (Aa (v:=(vI 0)) O O) O (CO.news1 λb10=>?_)))))
 refine AS.imp O (Aq O sizeOf61 O (AS.back (sl sr) (Ez O (AS.nil (AD.subF (sL [4,5,6,8,9,10,11,32,12,13,14] O) ?_)))))
 refine q1 (q4 (AP O (AH (CP (c:=false) O O (by decide)) O (AE.nil (AD.subF (sL [4,5,6,8,9,10,11,32,12,13,44] O) ?_)))))
 refine AD.then_ (AF.cond_false O (AF.skip (AD.then_ (AF.region (AP O ?_)))))
 refine BE 0 Br O (AH (v:=(pP b7 10)) (AC (j:=2) O O underlying136 sizeOf61 O (by decide) O) O (GP 3 (off:=10) (vs:=AK ((AO a b p)/(AO a b c))) (cs':=AK ((AO p b c)/(AO a b c))++AK ((AO a p c)/(AO a b c))++AK ((AO a b p)/(AO a b c))) (AQ O) O sizeOf61 O (AE.nil (AD.subF (sL [4,5,6,8,9,10,11,32,12,13] O) (AD.in_normal ?_)))))
 refine AD.then_ (AF.region (AH (AX (c:=(3:Int)) O O (by decide)) O (AP O (AE.nil (AD.subF (sL [4,5,6,8,9,10,11,32,12,13] O) ?_)))))
 refine AD.again (FL.step (q4 (AH (Af (c:=false) O O (by decide)) O (AE.nil (q1 ?_)))))
 refine AF.cond_false O (AF.exit (AD.then_exit (AD.then_exit (AD.in_exit (q2 ?_)))))
 refine BE 3 XE O (GP 5 (off:=0) (vs:=AK ((AO p b c)/(AO a b c))++AK ((AO a p c)/(AO a b c))++AK ((AO a b p)/(AO a b c))) (cs':=AK ((AO p b c)/(AO a b c))++AK ((AO a p c)/(AO a b c))++AK ((AO a b p)/(AO a b c))) (AQ O) O sizeOf136 O (AJ O (AE.nil (AD.subF (sL [4,5,6,8,9,10,11,32,12,13] O) (AD.then_ ?_)))))
 exact AF.ret (Cq O (A7 (i:=5) (cs:=AK ((AO p b c)/(AO a b c))++AK ((AO a p c)/(AO a b c))++AK ((AO a b p)/(AO a b c))) O O isAgg136 sizeOf136 O) (Ac (v:=(vI 0)) O) (λw hw=>⟨rfl,hw.out⟩))
theorem Jn  :Instr.fill (λi=>some (i*5,5)) (AK (0:Rat)++AK (0:Rat)++AK (0:Rat)).toArray []=some (AK (0:Rat)++AK (0:Rat)++AK (0:Rat)).toArray:=by kernel_rfl
theorem SA (a b c p:Pt) (hs:CG a+CG b+CG c+CG p<=268435456) (h:AO a b c=0) (w:World)  :Calls prog 64 #[(aG (Aj a)),(aG (Aj b)),(aG (Aj c)),(aG (Aj p))] w (Ak w (Value.tuple #[(aG (AK (0:Rat)++AK (0:Rat)++AK (0:Rat))),(vI 1)])):=by
 refine Ab (args:=[(aG (Aj a)),(aG (Aj b)),(aG (Aj c)),(aG (Aj p))]) func64 O O (Ad O) (AF.subF (sL [0,1,2,3] O) (q4 (Bk (cs:=Aj a) O λb1=>Bk (cs:=Aj b) O λb2=>Bk (cs:=Aj c) O λb3=>?_)))
 refine Bk (cs:=Aj p) O λb4=>al LS O λb5=>AJ O (q3 (sL [4,5,6,7,8,9] O) (BE 4 BR O (BE 3 BR O ?_)))
 refine BE 2 BR O ?_
 have hz1:=DW a b c
 refine BS call66 (Da a b c Z) O (al Dv O λb6=>Aq O sizeOf61 O (q6 (sL [4,5,6,7,8,9,10] O) (rN [(0,true),(1,true),(2,true),(4,true),(5,true),(6,true),(8,true),(9,true),(10,true),(3,false),(7,false),(11,false),(12,true)] [⟨13,11,136,AK (0:Rat)++AK (0:Rat)++AK (0:Rat)⟩] [(14,false)] sr (by kernel_rfl) (λ_ _ d _ _ h=>by cases d<;>exact h) (Gg O O LS O (Ig)) O (Ho 2 BR O ?_))))
 refine Ho 4 BR O (Ho 3 BR O (Ho 5 BR O (Ho 2 BR O (Ho 3 BR O (Ho 5 BR O ?_)))))
 refine Ho 4 BR O (Ho 2 BR O (CO.imp O λEF EL=>?_))
 have hz2:=DW p b c
 refine BS call66 (Da p b c Z) O (CO.back0 sr O (CO.imp O λEF EL=>?_))
 have hz3:=DW a p c
 refine BS call66 (Da a p c Z) O (CO.back0 sr O (CO.imp O λEF EL=>?_))
 have hz4:=DW a b p
 refine BS call66 (Da a b p Z) O (CO.back0 sr O (HA (v:=(aG (AK (AO p b c)++AK (AO a p c)++AK (AO a b p)))) O (Ao (zs:=AK (0:Rat)++AK (0:Rat)++AK (0:Rat)) (vs:=AK (AO p b c)++AK (AO a p c)++AK (AO a b p)) (pv:=[(0,(aG (AK (AO p b c)))),(1,(aG (AK (AO a p c)))),(2,(aG (AK (AO a b p))))]) zeroValue136 underlying136 sizeOf61 O (CN (AO p b c) (AO a p c) (AO a b p))) O (CO.news1 λb7=>AS.imp O (Aq O sizeOf136 O ?_))))
 refine AS.back (sl sr) (AS.nil (AD.subF (sL [4,5,6,8,9,10,11] O) (q1 (q4 (AP O ?_)))))
 refine AE.nil (AD.then_ (AF.block (AF.unroll 5 (FL.step (q4 ?_)))))
 refine AH (Af (c:=true) O O (by decide)) O (AE.nil (q1 (AF.cond_true O (AF.skip (q1 ?_)))))
 refine AF.block (q4 (AP O (AJ O (q6 (sL [4,5,6,8,9,10,11,32,12] O) (rN [(0,true),(1,true),(2,true),(3,true),(4,false),(5,true),(6,true),(7,true)] [⟨8,13,61,AK (0:Rat)⟩] [(9,false),(10,true)] sr (by kernel_rfl) (λ_ _ d _ _ h=>by cases d<;>exact h) (Gg O O Dv O (Ig)) O ?_)))))
 refine Nq O (HA (v:=(pP b7 0)) O (AC (j:=0) O O underlying136 sizeOf61 O (by decide) O) O (SC 0 (AK (AO p b c)) Br O (Ho 1 Br O (CO.imp O λEF EL=>Ef (args:=[(aG (AK (AO p b c))),(aG (AK (AO a b c)))]) (v:=(Value.tuple #[(aG (AK (0:Rat))),(vI 5)])) call114 (λw hw=>(by rw [h];exact SG _ w)) O ?_))))
 refine CO.back0 sr O (Nq O (HA O (Aa (v:=(aG (AK (0:Rat)))) O O) O (HA O (Aa (v:=(vI 5)) O O) O (CO.news1 λb8=>AS.imp O ?_))))
 refine Aq O sizeOf61 O (AS.back (sl sr) (Ez O (AS.nil (AD.subF (sL [4,5,6,8,9,10,11,32,12,13,14] O) (q1 ?_)))))
 refine q4 (AP O (AH (CP (c:=true) O O (by decide)) O (AE.nil (AD.subF (sL [4,5,6,8,9,10,11,32,12,13,44] O) (AD.then_ ?_)))))
 refine AF.cond_true O (q4 (AH (v:=(aG (AK (0:Rat)++AK (0:Rat)++AK (0:Rat)))) (Ao (zs:=AK (0:Rat)++AK (0:Rat)++AK (0:Rat)) (vs:=AK (0:Rat)++AK (0:Rat)++AK (0:Rat)) (pv:=[]) zeroValue136 underlying136 sizeOf61 O (Jn )) O (IJ O sizeOf136 O (AJ O (AE.nil ?_)))))
 refine AD.subF (sL [4,5,6,8,9,10,11,32,12,13] O) (AD.then_ (AF.ret (AD.then_ret (AD.in_ret (AD.then_ret ?_)))))
 exact AD.then_ret (AD.in_ret (AD.then_ret (Cq O (A7 (i:=3) (cs:=AK (0:Rat)++AK (0:Rat)++AK (0:Rat)) O O isAgg136 sizeOf136 O) (Ac (v:=(vI 1)) O) (λw hw=>⟨rfl,hw.out⟩))))
end
def zq (q:Rat):Nat:=if q.num.sign=0 then 1 else 0
def D9 (x y z:Rat):Nat:=if x.num.sign = -1\/y.num.sign = -1\/z.num.sign = -1 then 0 else 1+zq x+zq y+zq z
theorem Nk {x y z:Rat} (h:x.num.sign = -1):D9 x y z=0:=if_pos (.inl h)
theorem OV {x y z:Rat} (h:y.num.sign = -1):D9 x y z=0:=if_pos (.inr (.inl h))
theorem OU {x y z:Rat} (h:z.num.sign = -1):D9 x y z=0:=if_pos (.inr (.inr h))
theorem RC {x y z:Rat} (h1:¬x.num.sign = -1) (h2:¬y.num.sign = -1) (h3:¬z.num.sign = -1):D9 x y z=1+zq x+zq y+zq z:=if_neg (by simp [h1,h2,h3])
theorem ON {x:Rat} (h:x.num.sign=0):zq x=1:=if_pos h
theorem ML {x:Rat} (h:¬x.num.sign=0):zq x=0:=if_neg h
theorem SQ (x:Rat):zq x<=1:=by unfold zq;split<;>omega
section
set_option maxRecDepth 100000
end
section
set_option maxRecDepth 100000
end
section
set_option maxRecDepth 100000
set_option maxHeartbeats 2000000 in
theorem Td (a b c p:Pt) (hs:CG a+CG b+CG c+CG p<=268435456) (h:AO a b c≠0) (w:World)  :Calls prog 24 #[(aG (Aj a)),(aG (Aj b)),(aG (Aj c)),(aG (Aj p))] w (Ak w (vN (D9 (AO p b c/AO a b c) (AO a p c/AO a b c) (AO a b p/AO a b c)))):=by
 obtain ⟨l0,hl0⟩:∃l,l=AO p b c/AO a b c:=⟨_,rfl⟩
 obtain ⟨l1,hl1⟩:∃l,l=AO a p c/AO a b c:=⟨_,rfl⟩
 obtain ⟨l2,hl2⟩:∃l,l=AO a b p/AO a b c:=⟨_,rfl⟩
 refine Ab (args:=[(aG (Aj a)),(aG (Aj b)),(aG (Aj c)),(aG (Aj p))]) func24 O O (Ad O) (AF.subF (sL [0,1,2,3] O) (q4 (Bk (cs:=Aj a) O λb1=>Bk (cs:=Aj b) O λb2=>Bk (cs:=Aj c) O λb3=>?_)))
 refine Bk (cs:=Aj p) O λb4=>AJ O (q3 (sL [4,5,6,7,8] O) (BE 3 BR O (BE 2 BR O (BE 1 BR O ?_))))
 refine BE 0 BR O (Ef (args:=[(aG (Aj a)),(aG (Aj b)),(aG (Aj c)),(aG (Aj p))]) (v:=(Value.tuple #[(aG (AK l0++AK l1++AK l2)),(vI 0)])) call64 (λw hw=>(by rw [hl0,hl1,hl2];exact Tw a b c p Z h w)) O (AP O (AH (Aa (v:=(aG (AK l0++AK l1++AK l2))) O O) O (AH (Aa (v:=(vI 0)) O O) O (al LS O λb5=>?_)))))
 refine Aq O sizeOf136 O (AJ O (q6 (sL [8,9,10] O) (q4 (AP O (AH (CP (c:=false) O O (by decide)) O ?_)))))
 refine AE.nil (AD.subF (sL [8,9,22] O) (AD.then_ (AF.cond_false O (AF.skip (q2 ?_)))))
 refine AJ O (q6 (sL [8,9,11] O) (q4 (AP O (AE.nil (AD.then_ ?_)))))
 refine AF.block (AF.unroll 5 (FL.step (q4 (AH (Af (c:=true) O O (by decide)) O (AE.nil ?_)))))
 refine q1 (AF.cond_true O (AF.skip (q1 (AF.block (q4 ?_)))))
 refine AP O (AJ O (q3 (sL [8,9,11,23,12] O) (AP O (AH (v:=(pP b5 0)) (AC (j:=0) O O underlying136 sizeOf61 O (by decide) O) O (DT 0 (AK l0) Br O ?_)))))
 refine BS call20 (Ee l0) O (AE.nil (AD.subF (sL [8,9,11,23,29] O) (AD.then_ ?_)))
 refine AF.jn1 (tg λ(pl0:Nat)=>pl0=1+zq l0/\¬l0.num.sign = -1) (tg λ(pl0:Nat)=>[(9,(pP b5 0)),(23,(vI 0)),(11,(vN pl0))]) (tg λ(pl0:Nat)=>[Ae b5 136 (AK l0++AK l1++AK l2),Ae b4 63 (Aj p),Ae b3 63 (Aj c),Ae b2 63 (Aj b),Ae b1 63 (Aj a)]) ?_ ?_
 ·skip
  refine AF.block (q4 (AH (BZ (c:=(decide (l0.num.sign=(-1:Int)))) O O O) O (AJ O (AE.nil (AD.subF (sL [8,9,11,23,29,30] O) ?_)))))
  refine AD.then_ ?_
  refine AF.cond O (λhc2=>?_) (λhc2=>?_)
  ·replace hc2:=of_decide_eq_true hc2
   have hz:=Nk (x:=l0) (y:=l1) (z:=l2) hc2
   refine q4 (AJ O (AE.nil (AD.then_ (AF.ret (AD.in_ret ?_)))))
   exact AD.join1_ret (AD.in_ret (AD.then_ret (AD.then_ret (AD.in_ret (AD.then_ret (AN O (Ac (v:=(vI 0)) O) (λw hw=>⟨by rw [<-hl0,<-hl1,<-hl2,hz];rfl,hw.out⟩)))))))
  ·replace hc2:=of_decide_eq_false hc2
   refine q4 (AH (BZ (c:=(decide (l0.num.sign=(0:Int)))) O O O) O (AJ O (AE.nil (AD.subF (sL [8,9,11,23,29,32] O) (AD.then_ ?_)))))
   refine AF.cond O (λhc3=>?_) (λhc3=>?_)
   ·replace hc3:=of_decide_eq_true hc3
    refine AF.region (AP O (AH (AX (c:=(2:Int)) O O (by decide)) O (AJ O (AE.nil (AD.subF (sL [8,9,11,23,29] O) ?_)))))
    exact AD.in_normal (AD.join1 2 (⟨by simp [ON hc3],hc2⟩) (sF O) sr)
   ·replace hc3:=of_decide_eq_false hc3
    exact AF.skip (AD.in_normal (AD.join1 1 (⟨by simp [ML hc3],hc2⟩) (sF O) sr))
 ·intro pl0 hJ
  obtain ⟨e0,n0⟩:=hJ
  have zz0:=SQ l0
  refine AD.in_normal (AD.then_ (AF.region (AH (AX (c:=(1:Int)) O O (by decide)) O (AP O (AE.nil ?_)))))
  refine AD.subF (sL [9,23,11] O) (AD.again (FL.step (q4 (AH (Af (c:=true) O O (by decide)) O (AE.nil ?_)))))
  refine q1 (AF.cond_true O (AF.skip (q1 (AF.block (q4 ?_)))))
  refine AP O (AJ O (q3 (sL [9,23,11,12] O) (AP O (AH (v:=(pP b5 5)) (AC (j:=1) O O underlying136 sizeOf61 O (by decide) O) O (DT 0 (AK l1) Br O ?_)))))
  refine BS call20 (Ee l1) O (AE.nil (AD.subF (sL [9,23,11,29] O) (AD.then_ ?_)))
  refine AF.jn1 (tg λ(pl1:Nat)=>pl1=pl0+zq l1/\¬l1.num.sign = -1) (tg λ(pl1:Nat)=>[(9,(pP b5 0)),(23,(vI 1)),(11,(vN pl1))]) (tg λ(pl1:Nat)=>[Ae b5 136 (AK l0++AK l1++AK l2),Ae b4 63 (Aj p),Ae b3 63 (Aj c),Ae b2 63 (Aj b),Ae b1 63 (Aj a)]) ?_ ?_
  ·skip
   refine AF.block (q4 (AH (BZ (c:=(decide (l1.num.sign=(-1:Int)))) O O O) O (AJ O (AE.nil (AD.subF (sL [9,23,11,29,30] O) ?_)))))
   refine AD.then_ ?_
   refine AF.cond O (λhc2=>?_) (λhc2=>?_)
   ·replace hc2:=of_decide_eq_true hc2
    have hz:=OV (x:=l0) (y:=l1) (z:=l2) hc2
    refine q4 (AJ O (AE.nil (AD.then_ (AF.ret (AD.in_ret ?_)))))
    exact AD.join1_ret (AD.in_ret (AD.then_ret (AD.then_ret (AD.in_ret (AD.then_ret (AN O (Ac (v:=(vI 0)) O) (λw hw=>⟨by rw [<-hl0,<-hl1,<-hl2,hz];rfl,hw.out⟩)))))))
   ·replace hc2:=of_decide_eq_false hc2
    refine q4 (AH (BZ (c:=(decide (l1.num.sign=(0:Int)))) O O O) O (AJ O (AE.nil (AD.subF (sL [9,23,11,29,32] O) (AD.then_ ?_)))))
    refine AF.cond O (λhc3=>?_) (λhc3=>?_)
    ·replace hc3:=of_decide_eq_true hc3
     refine AF.region (AP O (AH (AX (c:=((pl0+1:Nat):Int)) O O (AZ (a:=pl0) (b:=1) Z)) O (AJ O (AE.nil (AD.subF (sL [9,23,11,29] O) ?_)))))
     exact AD.in_normal (AD.join1 (pl0+1) (⟨by simp [ON hc3],hc2⟩) (sF O) sr)
    ·replace hc3:=of_decide_eq_false hc3
     exact AF.skip (AD.in_normal (AD.join1 pl0 (⟨by simp [ML hc3],hc2⟩) (sF O) sr))
  ·intro pl1 hJ
   obtain ⟨e1,n1⟩:=hJ
   have zz1:=SQ l1
   refine AD.in_normal (AD.then_ (AF.region (AH (AX (c:=(2:Int)) O O (by decide)) O (AP O (AE.nil ?_)))))
   refine AD.subF (sL [9,23,11] O) (AD.again (FL.step (q4 (AH (Af (c:=true) O O (by decide)) O (AE.nil ?_)))))
   refine q1 (AF.cond_true O (AF.skip (q1 (AF.block (q4 ?_)))))
   refine AP O (AJ O (q3 (sL [9,23,11,12] O) (AP O (AH (v:=(pP b5 10)) (AC (j:=2) O O underlying136 sizeOf61 O (by decide) O) O (DT 0 (AK l2) Br O ?_)))))
   refine BS call20 (Ee l2) O (AE.nil (AD.subF (sL [9,23,11,29] O) (AD.then_ ?_)))
   refine AF.jn1 (tg λ(pl2:Nat)=>pl2=pl1+zq l2/\¬l2.num.sign = -1) (tg λ(pl2:Nat)=>[(9,(pP b5 0)),(23,(vI 2)),(11,(vN pl2))]) (tg λ(pl2:Nat)=>[Ae b5 136 (AK l0++AK l1++AK l2),Ae b4 63 (Aj p),Ae b3 63 (Aj c),Ae b2 63 (Aj b),Ae b1 63 (Aj a)]) ?_ ?_
   ·skip
    refine AF.block (q4 (AH (BZ (c:=(decide (l2.num.sign=(-1:Int)))) O O O) O (AJ O (AE.nil (AD.subF (sL [9,23,11,29,30] O) ?_)))))
    refine AD.then_ ?_
    refine AF.cond O (λhc2=>?_) (λhc2=>?_)
    ·replace hc2:=of_decide_eq_true hc2
     have hz:=OU (x:=l0) (y:=l1) (z:=l2) hc2
     refine q4 (AJ O (AE.nil (AD.then_ (AF.ret (AD.in_ret ?_)))))
     exact AD.join1_ret (AD.in_ret (AD.then_ret (AD.then_ret (AD.in_ret (AD.then_ret (AN O (Ac (v:=(vI 0)) O) (λw hw=>⟨by rw [<-hl0,<-hl1,<-hl2,hz];rfl,hw.out⟩)))))))
    ·replace hc2:=of_decide_eq_false hc2
     refine q4 (AH (BZ (c:=(decide (l2.num.sign=(0:Int)))) O O O) O (AJ O (AE.nil (AD.subF (sL [9,23,11,29,32] O) (AD.then_ ?_)))))
     refine AF.cond O (λhc3=>?_) (λhc3=>?_)
     ·replace hc3:=of_decide_eq_true hc3
      refine AF.region (AP O (AH (AX (c:=((pl1+1:Nat):Int)) O O (AZ (a:=pl1) (b:=1) Z)) O (AJ O (AE.nil (AD.subF (sL [9,23,11,29] O) ?_)))))
      exact AD.in_normal (AD.join1 (pl1+1) (⟨by simp [ON hc3],hc2⟩) (sF O) sr)
     ·replace hc3:=of_decide_eq_false hc3
      exact AF.skip (AD.in_normal (AD.join1 pl1 (⟨by simp [ML hc3],hc2⟩) (sF O) sr))
   ·intro pl2 hJ
    obtain ⟨e2,n2⟩:=hJ
    have zz2:=SQ l2
    refine AD.in_normal (AD.then_ (AF.region (AH (AX (c:=(3:Int)) O O (by decide)) O (AP O (AE.nil ?_)))))
    refine AD.subF (sL [9,23,11] O) (AD.again (FL.step (q4 (AH (Af (c:=false) O O (by decide)) O (AE.nil ?_)))))
    refine q1 (AF.cond_false O (AF.exit (AD.then_exit (AD.then_exit (AD.in_exit ?_)))))
    refine q2 (AP O (AJ O (AE.nil (AD.subF (sL [9,23,11,8] O) (AD.then_ ?_)))))
    exact AF.ret (AN O (Ac (v:=(vN pl2)) O) (λw hw=>⟨by rw [<-hl0,<-hl1,<-hl2,RC n0 n1 n2,e2,e1,e0],hw.out⟩))
theorem Qg (a b c p:Pt) (hs:CG a+CG b+CG c+CG p<=268435456) (h:AO a b c=0) (w:World)  :Calls prog 24 #[(aG (Aj a)),(aG (Aj b)),(aG (Aj c)),(aG (Aj p))] w (Ak w (vI 0)):=by
 refine Ab (args:=[(aG (Aj a)),(aG (Aj b)),(aG (Aj c)),(aG (Aj p))]) func24 O O (Ad O) (AF.subF (sL [0,1,2,3] O) (q4 (Bk (cs:=Aj a) O λb1=>Bk (cs:=Aj b) O λb2=>Bk (cs:=Aj c) O λb3=>?_)))
 refine Bk (cs:=Aj p) O λb4=>AJ O (q3 (sL [4,5,6,7,8] O) (BE 3 BR O (BE 2 BR O (BE 1 BR O ?_))))
 refine BE 0 BR O (BS call64 (SA a b c p Z h) O (AP O (AH (Aa (v:=(aG (AK (0:Rat)++AK (0:Rat)++AK (0:Rat)))) O O) O (AH (Aa (v:=(vI 1)) O O) O (al LS O λb5=>?_)))))
 refine Aq O sizeOf136 O (AJ O (q6 (sL [8,9,10] O) (q4 (AP O (AH (CP (c:=true) O O (by decide)) O ?_)))))
 refine AE.nil (AD.subF (sL [8,9,22] O) (AD.then_ (AF.cond_true O (q4 (AJ O ?_)))))
 exact AE.nil (AD.subF (sL [8,9] O) (AD.then_ (AF.ret (AD.then_ret (AN O (Ac (v:=(vI 0)) O) (λw hw=>⟨rfl,hw.out⟩))))))
end
section
set_option maxRecDepth 100000
end
section
section
variable {P:Program} {n:Nat} {F:List (Nat×Value)} {w0:BK} {L:List As} {v:Value} {x:Operand} {d:Option Tmp} {t:TypeId} {p:String} {af:Array Edge} {g:Option (Nat×Bool)}
theorem ET {tx e:TypeId} {b len k:Nat} (hx:evF F x=some (.pointer (some ⟨b,0,none⟩))) (hu:P.underlying tx=some (.array len e)) (hs:∀w,(sizeOf e).run P w=.ok k w) (h0:0<len) :
    Ex P n F w0 L ⟨d,.slice tx x none none none,t,p,af,g⟩ (.slice (some ⟨b,0,none⟩) len len):=λA w ha _=>by
  have e1:¬len=0:=by omega
  simp [execOp,ha.ev hx,Instr.sliceAt,run_underlying hu,Instr.sureAddr,Instr.sliceBounds,Instr.sliceBound,hs,e1,Addr.add_lit]
end
end
section
set_option maxRecDepth 100000
end
section
set_option maxRecDepth 100000
end
section
set_option maxRecDepth 100000
end
section
set_option maxRecDepth 100000
end
section
set_option maxRecDepth 100000
end
section
set_option maxRecDepth 100000
end
section
section
variable {P:Program} {n:Nat} {F:List (Nat×Value)} {w0:BK} {L:List As} {v:Value} {x lo hi:Operand} {d:Option Tmp} {t:TypeId} {p:String} {af:Array Edge} {g:Option (Nat×Bool)}
theorem Io {s r:ByteArray} {ki kj:IntKind} {i j:Nat} {tx:TypeId} (hx:evF F x=some (.string s)) (hl:evF F lo=some (.int ki (i:Nat))) (hh:evF F hi=some (.int kj (j:Nat))) (hu:P.underlying tx=some .string) (h1:i<=j) (h2:j<=s.size) (hr:s.extract i j=r) :
    Ex P n F w0 L ⟨d,.slice tx x (some lo) (some hi) none,t,p,af,g⟩ (.string r):=λA w ha _=>by
  subst hr
  simp only [execOp,ha.ev hx,Instr.sliceAt,run_underlying hu,Instr.slice,Option.map_some,Option.map_none,ha.ev hl,ha.ev hh,Instr.sliceBounds,Instr.sliceBound,asIntOf,Sem.run_bind,Result.andThen_ok,Sem.run_pure]
  simp [h1,h2]
end
def H0 (n:Nat):ByteArray:=⟨#[UInt8.ofNat (48+n)]⟩
theorem WY {s:ByteArray} (h:((List.range 10).all λn=>(s.extract n (n+1)).data.toList == (H0 n).data.toList)=true) {n:Nat} (hn:n<10):s.extract n (n+1)=H0 n:=by
  have h1:=List.all_eq_true.1 h n (List.mem_range.2 hn)
  have h2:(s.extract n (n+1)).data.toList=(H0 n).data.toList:=by simpa using h1
  cases hA:s.extract n (n+1) with|mk da=>cases hB:H0 n with|mk db =>
    rw [hA,hB] at h2
    congr 1
    exact Array.toList_inj.1 h2
def Eb (z:Int):ByteArray:=if z<0 then ⟨#[45]⟩++H0 z.natAbs else H0 z.natAbs
def PZ (q:Rat):ByteArray:=if q.den-1=0 then Eb q.num else Eb q.num++⟨#[47]⟩++H0 q.den
theorem Ma (n:Nat):(H0 n).size=1:=rfl
theorem OZ (z:Int):(Eb z).size<=2:=by
  unfold Eb
  split
  · rw [ByteArray.size_append];exact Nat.le_refl 2
  · exact Nat.le_succ 1
end
end Go.Proofs.YtfbomiejpbchdaaGreatDoor
