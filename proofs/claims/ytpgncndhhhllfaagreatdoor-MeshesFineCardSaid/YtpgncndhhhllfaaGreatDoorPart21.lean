import Derived.Test.YtpgncndhhhllfaaGreatDoorPart03
import Derived.Test.YtpgncndhhhllfaaGreatDoorPart12
import Derived.Test.YtpgncndhhhllfaaGreatDoorPart19
import Derived.Test.YtpgncndhhhllfaaGreatDoorPart20
namespace Go.Proofs.YtpgncndhhhllfaaGreatDoor
open Go Go.RowKit Go.Proofs.Tryz
set_option linter.unusedVariables false
set_option linter.unusedSimpArgs false
section
set_option maxRecDepth 100000
theorem UB:ElemT prog 197 158 2 16:=⟨underlying197,DA (by kernel_rfl)⟩
theorem bT:ElemT prog 23 53 3 24:=⟨underlying23,DA (by kernel_rfl)⟩
theorem Uq:ElemT prog 135 139 2 16:=⟨underlying135,DA (by kernel_rfl)⟩
theorem Pz (t:Nat×Nat×Nat) (x:Nat) (w:World)  :Calls prog 84 #[(aG (Ai t)),(vN x)] w (An w (Value.bool (EQ t x))):=by
 refine Af (args:=[(aG (Ai t)),(vN x)]) func84 O O (AT O) (AF.subF (sL [0,1] O) (q4 (BU (cs:=Ai t) O λb1=>asg' O (q3 (sL [1,2,4] O) ?_))))
 refine AH (v:=(pP b1 0)) (AD (j:=0) O O underlying53 sizeOf3 O (by decide) O) O (BA 0 (vN t.1) Bj O (AM O (AH (BL (c:=(decide (t.1=x))) O O (Iv (a:=t.1) (b:=x))) O (AM O ?_))))
 refine AE.mid (FM:=[(1,(vN x)),(2,(pP b1 0)),(4,(Value.bool false)),(5,(pP b1 0)),(6,(vN t.1)),(7,(vN x)),(8,(Value.bool (decide (t.1=x)))),(9,(Value.bool (decide (t.1=x)))),(14,(Value.bool ((decide (t.1=x))||(decide (t.2.1=x)))))]) (LM:=[Ag b1 53 (Ai t)]) 5 ?_ ?_
 ·rcases Bool.eq_false_or_eq_true (decide (t.1=x)) with hg1|hg1
  ·skip
   refine AE.retell (k:=9) (u:=Value.bool true) O (by rw [hg1]) ?_
   have hg1':=hg1
   replace hg1':=of_decide_eq_true hg1'
   exact AE.skip (AJ O) O (AT O) (AE.skip (AJ O) O (AT O) (AE.skip (AJ O) O (AT O) (AE.skip (AJ O) O (AT O) (AH (v:=(Value.bool true)) (Ac O O) O (AE.nil (AC.mid (sS O (sS O (sS O (sS O (sS O (sS O (sS O (sS (by first|rfl|(rw [hg1];rfl)|rw [hg1]) (sS (by first|rfl|(rw [hg1];rfl)|rw [hg1]) (sN)))))))))) (List.Sublist.refl _)))))))
  ·skip
   refine AE.retell (k:=9) (u:=Value.bool false) O (by rw [hg1]) ?_
   have hg1':=hg1
   replace hg1':=of_decide_eq_false hg1'
   exact AE.step (v:=(pP b1 1)) (AB O) (AD (j:=1) O O underlying53 sizeOf3 O (by decide) O) O (AT O) (AE.step (v:=(vN t.2.1)) (AB O) (AK (i:=0) (v:=(vN t.2.1)) O O Bj.a O) O (AT O) (AE.step (v:=(vN x)) (AB O) (Al O) O (AT O) (AE.step (v:=(Value.bool (decide (t.2.1=x)))) (AB O) (BL (c:=(decide (t.2.1=x))) O O (Iv (a:=t.2.1) (b:=x))) O (AT O) (AH (v:=(Value.bool (decide (t.2.1=x)))) (AP O O) O (AE.nil (AC.mid (sS O (sS O (sS O (sS O (sS O (sS O (sS O (sS (by first|rfl|(rw [hg1];rfl)|rw [hg1]) (sS (by first|rfl|(rw [hg1];rfl)|rw [hg1]) (sN)))))))))) (List.Sublist.refl _)))))))
 refine AM O ?_
 refine AE.mid (FM:=[(1,(vN x)),(2,(pP b1 0)),(4,(Value.bool false)),(5,(pP b1 0)),(6,(vN t.1)),(7,(vN x)),(8,(Value.bool (decide (t.1=x)))),(9,(Value.bool (decide (t.1=x)))),(14,(Value.bool ((decide (t.1=x))||(decide (t.2.1=x))))),(15,(Value.bool ((decide (t.1=x))||(decide (t.2.1=x))))),(20,(Value.bool (((decide (t.1=x))||(decide (t.2.1=x)))||(decide (t.2.2=x)))))]) (LM:=[Ag b1 53 (Ai t)]) 5 ?_ ?_
 ·rcases Bool.eq_false_or_eq_true ((decide (t.1=x))||(decide (t.2.1=x))) with hg2|hg2
  ·skip
   refine AE.retell (k:=15) (u:=Value.bool true) O (by rw [hg2]) ?_
   have hg2':=hg2
   simp only [Bool.and_eq_true,Bool.or_eq_true,Bool.and_eq_false_iff,Bool.or_eq_false_iff,Bool.not_eq_true',Bool.not_eq_false',decide_eq_true_eq,decide_eq_false_iff_not] at hg2'
   exact AE.skip (AJ O) O (AT O) (AE.skip (AJ O) O (AT O) (AE.skip (AJ O) O (AT O) (AE.skip (AJ O) O (AT O) (AH (v:=(Value.bool true)) (Ac O O) O (AE.nil (AC.mid (sS O (sS O (sS O (sS O (sS O (sS O (sS O (sS O (sS O (sS (by first|rfl|(rw [hg2];rfl)|rw [hg2]) (sS (by first|rfl|(rw [hg2];rfl)|rw [hg2]) (sN)))))))))))) (List.Sublist.refl _)))))))
  ·skip
   refine AE.retell (k:=15) (u:=Value.bool false) O (by rw [hg2]) ?_
   have hg2':=hg2
   simp only [Bool.and_eq_true,Bool.or_eq_true,Bool.and_eq_false_iff,Bool.or_eq_false_iff,Bool.not_eq_true',Bool.not_eq_false',decide_eq_true_eq,decide_eq_false_iff_not] at hg2'
   exact AE.step (v:=(pP b1 2)) (AB O) (AD (j:=2) O O underlying53 sizeOf3 O (by decide) O) O (AT O) (AE.step (v:=(vN t.2.2)) (AB O) (AK (i:=0) (v:=(vN t.2.2)) O O Bj.a O) O (AT O) (AE.step (v:=(vN x)) (AB O) (Al O) O (AT O) (AE.step (v:=(Value.bool (decide (t.2.2=x)))) (AB O) (BL (c:=(decide (t.2.2=x))) O O (Iv (a:=t.2.2) (b:=x))) O (AT O) (AH (v:=(Value.bool (decide (t.2.2=x)))) (AP O O) O (AE.nil (AC.mid (sS O (sS O (sS O (sS O (sS O (sS O (sS O (sS O (sS O (sS (by first|rfl|(rw [hg2];rfl)|rw [hg2]) (sS (by first|rfl|(rw [hg2];rfl)|rw [hg2]) (sN)))))))))))) (List.Sublist.refl _)))))))
 exact asg' O (AE.nil (AC.subF (sL [4] O) (AC.then_ (AF.ret (AI O (AY (v:=(Value.bool (((decide (t.1=x))||(decide (t.2.1=x)))||(decide (t.2.2=x))))) O) (λw hw=>⟨by first|rfl|simp [EQ,Bool.or_assoc],hw.out⟩))))))
theorem Ej (x0:P2):Instr.fill (λi=>some (i*2,2)) ((Array.range (1*2)).map ((Value.agg (BH ((0,0):P2)).toArray).cells[·%(Value.agg (BH ((0,0):P2)).toArray).cells.size]!)) [(0,.agg (BH x0).toArray)]=some (BH x0).toArray:=by kernel_rfl
theorem Ei (x0:Int×Int):Instr.fill (λi=>some (i*2,2)) ((Array.range (1*2)).map ((Value.agg (CG ((0,0):Int×Int)).toArray).cells[·%(Value.agg (CG ((0,0):Int×Int)).toArray).cells.size]!)) [(0,.agg (CG x0).toArray)]=some (CG x0).toArray:=by kernel_rfl
theorem Gu (x0:Nat×Nat×Nat):Instr.fill (λi=>some (i*3,3)) ((Array.range (1*3)).map ((Value.agg (Ai ((0,0,0):Nat×Nat×Nat)).toArray).cells[·%(Value.agg (Ai ((0,0,0):Nat×Nat×Nat)).toArray).cells.size]!)) [(0,.agg (Ai x0).toArray)]=some (Ai x0).toArray:=by kernel_rfl
theorem LH (x0 x1 x2:Nat):Instr.fill (λi=>some (i*1,1)) (Ai ((0,0,0):Nat×Nat×Nat)).toArray [(0,vN x0),(1,vN x1),(2,vN x2)]=some (Ai (x0,x1,x2)).toArray:=by kernel_rfl
set_option maxHeartbeats 2000000 in
theorem LF (m:MQ) (w:World) {S:Nat->Prop} (hm:Ro S w m):Calls prog 67 #[(aG (DZ m))] w (Aw (ZB m) (λ_=>False) w):=by
 have hf:=m.hfst
 have hf3:m.fst/3<=85:=by omega
 have lm:=Cl (W:=w) hm
 refine Ah (args:=[(aG (DZ m))]) (L:=[AQ m.p (CF m.cs)]) func67 O O (AT O) (Ed hm Ax) (AF.subF (sL [0] O) (q4 (BU (cs:=DZ m) O λb1=>al RU O λb2=>q3 (sL [1,2] O) ?_)))
 refine al RU O λb3=>AE.nilRow 139 2 (AE.nilRow 53 3 (AE.nilRow 53 3 (AE.nil (q2 ?_))))
 refine asg' O (AE.nilRow 158 2 (AE.nil (q2 (BD 6 K4 O (cX (S:=S) (cs:=rowsL BI (BE m)) (k:=(BE m).length) (args:=[(aG (DZ m))]) call119 (λw hw=>SW m w (inS hw 7 O lm)) O O O λgc lgc=>?_)))))
 refine asg' O (q6 (sL [1,2,3,4,5] O) (q4 (asg' O (AE.nil (AC.then_ ?_)))))
 refine AF.block ?_
 refine AF.lp5 (tg λ(i:Nat) (s:WS) (p3:Option Addr) (c3:Nat) (ts:List (Nat×Nat×Nat))=>i<=(BE m).length/\WS.Ok s/\OwnOk p3 ts.length c3/\Nb m i (WS.pl s) ts) (tg λ(i:Nat) (s:WS) (p3:Option Addr) (c3:Nat) (ts:List (Nat×Nat×Nat))=>[(1,(pP b1 0)),(2,(pP b2 0)),(3,(pP b3 0)),(5,(Value.slice gc.p ((BE m).length) gc.c)),(6,(vN i)),(4,(Value.slice s.p1 s.pl.length s.c1))]) (tg λ(i:Nat) (s:WS) (p3:Option Addr) (c3:Nat) (ts:List (Nat×Nat×Nat))=>[AQ gc.p (rowsL BI (BE m)),rowW s.p1 158 2 s.pl.length s.c1 (rowsL BH s.pl),rowW none 53 3 0 0 (rowsL Ai ([])),rowW p3 53 3 ts.length c3 (rowsL Ai ts),rowW s.p2 139 2 s.pl.length s.c2 (rowsL CG (s.pts m)),Ag b3 137 ([(Value.slice s.p2 s.pl.length s.c2),(Value.slice p3 ts.length c3),(Value.slice none 0 0)]),Ag b2 137 ([(Value.slice none 0 0),(Value.slice none 0 0),(Value.slice none 0 0)]),Ag b1 66 (DZ m),AQ m.p (CF m.cs)]) (tg λ(i:Nat) (s:WS) (p3:Option Addr) (c3:Nat) (ts:List (Nat×Nat×Nat))=>(BE m).length-i) 0 (WS.mk [] none 0 none 0) none 0 ([]:List (Nat×Nat×Nat)) (⟨Nat.zero_le _,⟨OwnOk.none,OwnOk.none,(λp hp=>by cases hp),XW⟩,OwnOk.none,bW m⟩) (sF O) sr (λi s p3 c3 ts hJ=>?_)
 obtain ⟨hi,hs,h3,hv⟩:=hJ
 have hpl:=hv.pll
 have htl:=hv.tl
 have hcl:=GI m
 refine AF.seq (q4 (AM O (AM O (AH (v:=(vN ((BE m).length))) (AG O underlying198) O (AH (Ae (c:=(decide (i<((BE m).length)))) O O (CL (a:=i) (b:=(BE m).length))) O ?_)))))
 refine AE.nil (AC.subF (sL [1,2,3,5,6,4,21] O) (AC.then_ ?_))
 refine AF.cond O (λhc0=>?_) (λhc0=>?_)
 ·replace hc0:=of_decide_eq_true hc0
  refine AF.skip (q1 (AF.block (q4 (al L1 O λb4=>AE.nil ?_))))
  refine q1 (q4 (asg' O (AE.nil (AC.then_ (AF.block ?_)))))
  refine AF.unroll 4 (FP.step (AF.seq (q4 (AM O (AH (Ae (c:=true) O O (by decide)) O ?_)))))
  refine AE.nil (AC.subF (sL [1,2,3,5,6,4,7,8,25] O) (AC.then_ (AF.cond_true O (AF.skip (q1 ?_)))))
  refine AF.block (AF.seq (Cd [(0,true),(1,true),(2,true),(3,true),(4,true),(5,true),(6,true),(7,true),(8,true),(9,true),(10,true),(11,true),(12,true),(13,true),(14,true),(15,true),(16,true),(17,true),(18,false),(19,false)] sr (Bb O (Bb O (Bb O ?_)))))
  refine Aq (v:=(pP b1 8)) O (AA O underlying66 O sizeOf5 O) (Bd 8 (vK .u8 m.fst) Tc O (Aq O (Ay (c:=((m.fst:Nat):Int)) O underlying5 underlying3 (B4 Z)) (Aq O (AW (c:=((0+m.fst:Nat):Int)) O O (AU (a:=0) (b:=m.fst) Z)) (Bb O (Aq (v:=(pP b1 8)) O (AA O underlying66 O sizeOf5 O) ?_)))))
  refine Bd 8 (vK .u8 m.fst) Tc O (Aq O (Dp (c:=((m.fst/3:Nat):Int)) O O Z (M8 (a:=m.fst) (b:=3) Z)) (Aq O (Ay (c:=((m.fst/3:Nat):Int)) O underlying5 underlying3 (B4 Z)) ?_))
  have hmul:i*(m.fst/3)<=36*85:=Nat.mul_le_mul Z hf3
  refine Aq O (Br (c:=((i*(m.fst/3):Nat):Int)) O O (Cv (a:=i) (b:=m.fst/3) Z)) (Aq O (AW (c:=(((0+m.fst)+(i*(m.fst/3)):Nat):Int)) O O (AU (a:=0+m.fst) (b:=i*(m.fst/3)) Z)) ?_)
  obtain ⟨r9,hr9⟩:∃r,r=I0 m i 0:=⟨_,rfl⟩
  have hr3:r9<3:=by rw [hr9];exact Nat.mod_lt _ (by decide)
  refine Aq O (Bs (c:=((r9:Nat):Int)) O O (by decide) (by rw [hr9];exact Gh (a:=0+m.fst+i*(m.fst/3)) (b:=3))) (Aq (v:=(pP (pB gc.p) (pO gc.p+i*6))) O (AN (j:=i) O O gc.ok underlying198 sizeOf200 O Z) (Aq (v:=(pP (pB gc.p) (pO gc.p+(i*6+r9*2)))) O (AD (j:=r9) O O underlying200 sizeOf158 O hr3 (Nat.add_assoc _ _ _)) (Aq (v:=(aG (BH (Ar m i 0)))) O (AZ (vs:=BH (Ar m i 0)) (i:=1) O O (BF.ne gc.ok Z) Bq (I7 _ i r9 Z hr3 _ O _ (by rw [hr9];rfl)) O) (OkE.imp O (al JL O λb5=>?_)))))
  refine OkE.back (sl sr) (OkE.imp O (A8 O sizeOf158 O (OkE.back (sl sr) (OkE.nil (AC.subF (sL [1,2,3,5,6,4,7,8,9] O) ?_)))))
  refine q2 (asg' O (AE.nil (q1 (q4 (asg' O ?_)))))
  refine AE.nil (AC.then_ (AF.block ?_))
  refine AF.lp2 (tg λ(k:Nat) (a:Int)=>k<=s.pl.length/\((a = -1/\∀j,j<k->s.pl.getD j (0,0)≠Ar m i 0)\/0<=a/\a<(k:Int)/\s.pl.getD (Int.toNat a) (0,0)=Ar m i 0)) (tg λ(k:Nat) (a:Int)=>[(1,(pP b1 0)),(2,(pP b2 0)),(3,(pP b3 0)),(5,(Value.slice gc.p ((BE m).length) gc.c)),(6,(vN i)),(4,(Value.slice s.p1 s.pl.length s.c1)),(7,(pP b4 0)),(8,(vI 0)),(9,(pP b5 0)),(11,(vN k)),(10,(vI a))]) (tg λ(k:Nat) (a:Int)=>[Ag b5 158 (BH (Ar m i 0)),Ag b4 53 (Ai ((0,0,0):Nat×Nat×Nat)),AQ gc.p (rowsL BI (BE m)),rowW s.p1 158 2 s.pl.length s.c1 (rowsL BH s.pl),rowW none 53 3 0 0 (rowsL Ai ([])),rowW p3 53 3 ts.length c3 (rowsL Ai ts),rowW s.p2 139 2 s.pl.length s.c2 (rowsL CG (s.pts m)),Ag b3 137 ([(Value.slice s.p2 s.pl.length s.c2),(Value.slice p3 ts.length c3),(Value.slice none 0 0)]),Ag b2 137 ([(Value.slice none 0 0),(Value.slice none 0 0),(Value.slice none 0 0)]),Ag b1 66 (DZ m),AQ m.p (CF m.cs)]) (tg λ(k:Nat) (a:Int)=>s.pl.length-k) 0 (-1:Int) (⟨Nat.zero_le _,.inl ⟨rfl,λj hj=>absurd hj (Nat.not_lt_zero _)⟩⟩) (sF O) sr (λk a hJ=>?_)
  obtain ⟨hk,ha⟩:=hJ
  refine AF.seq (q4 (AM O (AM O (AH (v:=(vN s.pl.length)) (AG O underlying197) O (AH (Ae (c:=(decide (k<s.pl.length))) O O (CL (a:=k) (b:=s.pl.length))) O ?_)))))
  refine AE.nil (AC.subF (sL [1,2,3,5,6,4,7,8,9,11,10,49] O) (AC.then_ ?_))
  refine AF.cond O (λhc2=>?_) (λhc2=>?_)
  ·replace hc2:=of_decide_eq_true hc2
   refine AF.skip (q1 (AF.block (AF.seq (Cd [(0,true),(1,true),(2,true),(3,true),(4,true),(5,true)] sr (Bb O ?_)))))
   refine Bb O (Aq (v:=(pP (pB s.p1) (pO s.p1+k*2))) O (AN (j:=k) O O hs.o1.row underlying197 sizeOf158 O Z) (Aq (v:=(aG (BH (s.pl.getD k ((0,0):P2))))) O (Cx (vs:=BH (s.pl.getD k ((0,0):P2))) (i:=3) O O hs.o1 (Ak C9 _) (BF.ne hs.o1.row Z) Bq (A7 C9 _ _ _ Z) (C9 _)) (Da 0 Bq O (Aq O (CJ (c:=decide (s.pl.getD k ((0,0):P2)=(Ar m i 0))) O O eqGuardType158 (Np 9998 (s.pl.getD k ((0,0):P2)) (Ar m i 0))) (OkE.nil ?_)))))
   refine AC.subF (sL [1,2,3,5,6,4,7,8,9,11,10,57] O) (AC.then_ ?_)
   refine AF.cond O (λhc3=>?_) (λhc3=>?_)
   ·replace hc3:=of_decide_eq_true hc3
    refine AF.region (AM O (asg' O (AE.nil (AC.subF (sL [1,2,3,5,6,4,7,8,9,11,10] O) (AC.in_normal ?_)))))
    refine AC.then_ (AF.region (AM O (AH (AW (c:=((k+1:Nat):Int)) O O (AU (a:=k) (b:=1) Z)) O (asg' O (AE.nil ?_)))))
    exact AC.subF (sL [1,2,3,5,6,4,7,8,9,11,10] O) (AC.round2 (k+1) (k:Int) (⟨Z,.inr ⟨Z,Z,by simpa using hc3⟩⟩) Z (sF O) sr)
   ·replace hc3:=of_decide_eq_false hc3
    refine AF.skip (AC.in_normal (AC.then_ (AF.region (AM O (AH (AW (c:=((k+1:Nat):Int)) O O (AU (a:=k) (b:=1) Z)) O ?_)))))
    exact asg' O (AE.nil (AC.subF (sL [1,2,3,5,6,4,7,8,9,11,10] O) (AC.round2 (k+1) a (⟨Z,ha.elim (λh=>.inl ⟨h.1,λj hj=>by rcases Nat.lt_or_ge j k with h1|h1;exact h.2 j h1;(obtain rfl:j=k:=by omega);simpa using hc3⟩) (λh=>.inr ⟨h.1,Z,h.2.2⟩)⟩) Z (sF O) sr)))
  ·replace hc2:=of_decide_eq_false hc2
   refine AF.exit (AC.then_exit (AC.round2_exit (AC.in_exit (q1 (q4 ?_)))))
   refine AM O (AH (Ae (c:=(decide (a<(0:Int)))) O O O) O (AE.nil (AC.subF (sL [1,2,3,5,6,4,7,8,9,11,10,60] O) (AC.then_ ?_))))
   refine AF.jn2 (tg λ(s1:WS) (n1:Nat)=>WS.Ok s1/\GQ s.pl (WS.pl s1)/\(WS.pl s1).length<=s.pl.length+1/\n1<(WS.pl s1).length/\(WS.pl s1).getD n1 (0,0)=Ar m i 0/\(∀a,a<(WS.pl s1).length->a<s.pl.length\/a=n1)/\(WS.pl s1,n1)=GC s.pl (Ar m i 0)) (tg λ(s1:WS) (n1:Nat)=>[(1,(pP b1 0)),(2,(pP b2 0)),(3,(pP b3 0)),(5,(Value.slice gc.p ((BE m).length) gc.c)),(6,(vN i)),(7,(pP b4 0)),(8,(vI 0)),(10,(vN n1)),(4,(Value.slice s1.p1 s1.pl.length s1.c1))]) (tg λ(s1:WS) (n1:Nat)=>[Ag b5 158 (BH (Ar m i 0)),Ag b4 53 (Ai ((0,0,0):Nat×Nat×Nat)),AQ gc.p (rowsL BI (BE m)),rowW s1.p1 158 2 s1.pl.length s1.c1 (rowsL BH s1.pl),rowW none 53 3 0 0 (rowsL Ai ([])),rowW p3 53 3 ts.length c3 (rowsL Ai ts),rowW s1.p2 139 2 s1.pl.length s1.c2 (rowsL CG (s1.pts m)),Ag b3 137 ([(Value.slice s1.p2 s1.pl.length s1.c2),(Value.slice p3 ts.length c3),(Value.slice none 0 0)]),Ag b2 137 ([(Value.slice none 0 0),(Value.slice none 0 0),(Value.slice none 0 0)]),Ag b1 66 (DZ m),AQ m.p (CF m.cs)]) ?_ ?_
   ·skip
    refine AF.cond O (λhc4=>?_) (λhc4=>?_)
    ·replace hc4:=of_decide_eq_true hc4
     refine q4 (AM O (AH (v:=(vN s.pl.length)) (AG O underlying197) O (asg' O (q3 (sL [1,2,3,5,6,4,7,8,9,11,10] O) (AM O ?_)))))
     refine BD 0 Bq O (AE.openV (V:=λb6=>(Value.slice (some ⟨b6,0,none⟩) 1 1)) (T:=158) (cs:=BH (Ar m i 0)) (AS O) (Av (z:=.agg (BH ((0,0):P2)).toArray) (cs:=BH (Ar m i 0)) (pv:=[(0,(aG (BH (Ar m i 0))))]) underlying197 sizeOf158 zeroValue158 (by decide) (by decide) O (Ej (Ar m i 0))) O (AT O) λb6=>AE.appendAt 4 (j:=0) (cs2:=rowsL BH (s.pl++[(Ar m i 0)])) UB O hs.o1 (Ak C9 _) O O O O O (by decide) (Hx Z) Z (by rw [BP];rfl) O λp_1 c_1 ho_1 hne_1=>asg' O (AE.nil (AC.subF (sL [1,2,3,5,6,4,7,8,9,11,10] O) ?_)))
     refine AC.then_ (rC [(0,true),(1,true),(2,true),(3,true),(4,false),(5,false),(6,false),(7,true)] 8 [] (sk (sk (sk (sk (sk (sk (sk (sl sr)))))))) (sk (sk (sk (sk (sk (sk (sk (sl sr)))))))) (by kernel_rfl) (λ_ _ d _ _ h=>by cases d<;>exact h) (vE (v:=(pP b3 0)) O (AA O underlying137 O sizeOf135 O) O (vE O (AK (i:=7) (v:=(Value.slice s.p2 s.pl.length s.c2)) O O II.a O) O (vE (v:=(aG (DZ m))) O (Aj (i:=9) (vs:=DZ m) O O K4.a K4.s O O) O (vE (v:=(aG (BH (Ar m i 0)))) O (Aj (i:=1) (vs:=BH (Ar m i 0)) O O Bq.a Bq.s O O) O ?_)))))
     refine CK.imp O (Cj call120 (λw hw=>Ie m (Ar m i 0) (EH Z) w (inS hw 11 O lm)) O (CK.back (sk (sk (sk (sk (sk (sk (sk (sl sr)))))))) (CK.imp O (AE.openV (V:=λb7=>(Value.slice (some ⟨b7,0,none⟩) 1 1)) (T:=139) (cs:=CG ((mapM m).at_ (Ar m i 0))) (AS O) (Av (z:=.agg (CG ((0,0):Int×Int)).toArray) (cs:=CG ((mapM m).at_ (Ar m i 0))) (pv:=[(0,(aG (CG ((mapM m).at_ (Ar m i 0)))))]) underlying135 sizeOf139 zeroValue139 (by decide) (by decide) O (Ei ((mapM m).at_ (Ar m i 0)))) O (AT O) λb7=>CK.back (sl (sk (sk (sk (sk (sk (sk (sk (sl sr))))))))) ?_))))
     refine CK.imp O (AE.appendAt 8 (j:=0) (cs2:=rowsL CG ((s.pts m)++[((mapM m).at_ (Ar m i 0))])) Uq O hs.o2 (by rw [Ak EX];simp [WS.pts]) O O O O O (by decide) (Hx Z) Z (by rw [BP];rfl) O λp_2 c_2 ho_2 hne_2=>CK.back (sl (sk (sk (sk (sk (sk (sk (sk (sl sr))))))))) (vE (v:=(pP b3 0)) O (AA O underlying137 O sizeOf135 O) O (CK.cut O (Eg 9 (off:=0) (vs:=[(Value.slice p_2 (s.pl.length+1) c_2)]) (cs':=[(Value.slice p_2 (s.pl.length+1) c_2),(Value.slice p3 ts.length c3),(Value.slice none 0 0)]) (AS O) O sizeOf135 O ?_))))
     refine OkE.back (sl (sk (sk (sk (sk (sk (sk (sk (sl (sl sr)))))))))) (OkE.nil (AC.subF (sL [1,2,3,5,6,4,7,8,9,11,10] O) ?_))
     rw [show s.pl.length+1=(s.pl++[Ar m i 0]).length by simp]
     rw [show s.pts m++[(mapM m).at_ (Ar m i 0)]=WS.pts (WS.mk (s.pl++[Ar m i 0]) p_1 c_1 p_2 c_2) m by simp [WS.pts]]
     exact AC.join2 (WS.mk (s.pl++[Ar m i 0]) p_1 c_1 p_2 c_2) s.pl.length (⟨⟨(by simpa using ho_1),(by simpa using ho_2),λp hp=>(List.mem_append.1 hp).elim (hs.small p) (λe=>by rw [List.mem_singleton.1 e];exact EH Z),KP hs.dst (λj hj=>(ha.elim id (λh=>absurd h.1 Z)).2 j Z)⟩,GQ.snoc _ _,by simp,by simp,DU _ _,λa ha=>by simp only [List.length_append,List.length_singleton] at ha;omega,Km λj hj=>(ha.elim id (λh=>absurd h.1 Z)).2 j Z⟩) (sF O) (sl (sl sr))
    ·replace hc4:=of_decide_eq_false hc4
     refine AF.retell (k:=10) (u:=(vN a.toNat)) O (by show Value.int _ _=Value.int _ _;congr 1;omega) (AF.skip ?_)
     obtain ⟨ha1,ha2,ha3⟩:=ha.resolve_left (λh=>by have:=h.1;omega)
     exact AC.join2 s a.toNat (⟨hs,GQ.refl _,Z,Z,ha3,(λa ha=>.inl ha),Ld hs.dst Z ha3⟩) (sF O) sr
   ·intro s1 n1 hJ
    obtain ⟨hs1,hm1,hl1,hn1,hg1,hu1,hf1⟩:=hJ
    refine AC.then_ (AF.region (AM O (AM O (AH (v:=(pP b4 0)) (AD (j:=0) O O underlying53 sizeOf3 O (by decide) O) O (Eg 1 (off:=0) (vs:=[(vN n1)]) (cs':=[(vN n1),(vI 0),(vI 0)]) (AS O) O sizeOf3 O ?_)))))
    refine AE.nil (AC.subF (sL [1,2,3,5,6,7,8,10,4] O) (AC.in_normal (AC.then_ (AF.region (AM O ?_)))))
    refine AH (AW (c:=(1:Int)) O O (by decide)) O (asg' O (AE.nil (AC.subF (sL [1,2,3,5,6,7,8,10,4] O) (AC.again (FP.step ?_)))))
    refine AF.seq (q4 (AM O (AH (Ae (c:=true) O O (by decide)) O (AE.nil (AC.subF (sL [1,2,3,5,6,7,8,10,4,25] O) ?_)))))
    refine AC.then_ (AF.cond_true O (AF.skip (q1 (AF.block (AF.seq ?_)))))
    refine Cd [(0,true),(1,true),(2,true),(3,true),(4,true),(5,true),(6,true),(7,true),(8,true),(9,true),(10,true),(11,true),(12,true),(13,true),(14,true),(15,true),(16,true),(17,true),(18,false),(19,false)] sr (Bb O (Bb O (Bb O (Aq (v:=(pP b1 8)) O (AA O underlying66 O sizeOf5 O) (Bd 9 (vK .u8 m.fst) Tc O ?_)))))
    refine Aq O (Ay (c:=((m.fst:Nat):Int)) O underlying5 underlying3 (B4 Z)) (Aq O (AW (c:=((1+m.fst:Nat):Int)) O O (AU (a:=1) (b:=m.fst) Z)) (Bb O (Aq (v:=(pP b1 8)) O (AA O underlying66 O sizeOf5 O) (Bd 9 (vK .u8 m.fst) Tc O (Aq O (Dp (c:=((m.fst/3:Nat):Int)) O O Z (M8 (a:=m.fst) (b:=3) Z)) ?_)))))
    refine Aq O (Ay (c:=((m.fst/3:Nat):Int)) O underlying5 underlying3 (B4 Z)) ?_
    have hmul:i*(m.fst/3)<=36*85:=Nat.mul_le_mul Z hf3
    refine Aq O (Br (c:=((i*(m.fst/3):Nat):Int)) O O (Cv (a:=i) (b:=m.fst/3) Z)) (Aq O (AW (c:=(((1+m.fst)+(i*(m.fst/3)):Nat):Int)) O O (AU (a:=1+m.fst) (b:=i*(m.fst/3)) Z)) ?_)
    obtain ⟨r9,hr9⟩:∃r,r=I0 m i 1:=⟨_,rfl⟩
    have hr3:r9<3:=by rw [hr9];exact Nat.mod_lt _ (by decide)
    refine Aq O (Bs (c:=((r9:Nat):Int)) O O (by decide) (by rw [hr9];exact Gh (a:=1+m.fst+i*(m.fst/3)) (b:=3))) (Aq (v:=(pP (pB gc.p) (pO gc.p+i*6))) O (AN (j:=i) O O gc.ok underlying198 sizeOf200 O Z) (Aq (v:=(pP (pB gc.p) (pO gc.p+(i*6+r9*2)))) O (AD (j:=r9) O O underlying200 sizeOf158 O hr3 (Nat.add_assoc _ _ _)) (Aq (v:=(aG (BH (Ar m i 1)))) O (AZ (vs:=BH (Ar m i 1)) (i:=2) O O (BF.ne gc.ok Z) Bq (I7 _ i r9 Z hr3 _ O _ (by rw [hr9];rfl)) O) (OkE.imp O (al JL O λb6=>?_)))))
    refine OkE.back (sl sr) (OkE.imp O (A8 O sizeOf158 O (OkE.back (sl sr) (OkE.nil (AC.subF (sL [1,2,3,5,6,7,8,10,4,9] O) ?_)))))
    refine q2 (asg' O (AE.nil (q1 (q4 (asg' O ?_)))))
    refine AE.nil (AC.then_ (AF.block ?_))
    refine AF.lp2 (tg λ(k:Nat) (a:Int)=>k<=s1.pl.length/\((a = -1/\∀j,j<k->s1.pl.getD j (0,0)≠Ar m i 1)\/0<=a/\a<(k:Int)/\s1.pl.getD (Int.toNat a) (0,0)=Ar m i 1)) (tg λ(k:Nat) (a:Int)=>[(1,(pP b1 0)),(2,(pP b2 0)),(3,(pP b3 0)),(5,(Value.slice gc.p ((BE m).length) gc.c)),(6,(vN i)),(7,(pP b4 0)),(8,(vI 1)),(4,(Value.slice s1.p1 s1.pl.length s1.c1)),(9,(pP b6 0)),(11,(vN k)),(10,(vI a))]) (tg λ(k:Nat) (a:Int)=>[Ag b6 158 (BH (Ar m i 1)),Ag b5 158 (BH (Ar m i 0)),Ag b4 53 ([(vN n1),(vI 0),(vI 0)]),AQ gc.p (rowsL BI (BE m)),rowW s1.p1 158 2 s1.pl.length s1.c1 (rowsL BH s1.pl),rowW none 53 3 0 0 (rowsL Ai ([])),rowW p3 53 3 ts.length c3 (rowsL Ai ts),rowW s1.p2 139 2 s1.pl.length s1.c2 (rowsL CG (s1.pts m)),Ag b3 137 ([(Value.slice s1.p2 s1.pl.length s1.c2),(Value.slice p3 ts.length c3),(Value.slice none 0 0)]),Ag b2 137 ([(Value.slice none 0 0),(Value.slice none 0 0),(Value.slice none 0 0)]),Ag b1 66 (DZ m),AQ m.p (CF m.cs)]) (tg λ(k:Nat) (a:Int)=>s1.pl.length-k) 0 (-1:Int) (⟨Nat.zero_le _,.inl ⟨rfl,λj hj=>absurd hj (Nat.not_lt_zero _)⟩⟩) (sF O) sr (λk a hJ=>?_)
    obtain ⟨hk,ha⟩:=hJ
    refine AF.seq (q4 (AM O (AM O (AH (v:=(vN s1.pl.length)) (AG O underlying197) O (AH (Ae (c:=(decide (k<s1.pl.length))) O O (CL (a:=k) (b:=s1.pl.length))) O ?_)))))
    refine AE.nil (AC.subF (sL [1,2,3,5,6,7,8,4,9,11,10,49] O) (AC.then_ ?_))
    refine AF.cond O (λhc2=>?_) (λhc2=>?_)
    ·replace hc2:=of_decide_eq_true hc2
     refine AF.skip (q1 (AF.block (AF.seq (Cd [(0,true),(1,true),(2,true),(3,true),(4,true),(5,true)] sr (Bb O ?_)))))
     refine Bb O (Aq (v:=(pP (pB s1.p1) (pO s1.p1+k*2))) O (AN (j:=k) O O hs1.o1.row underlying197 sizeOf158 O Z) (Aq (v:=(aG (BH (s1.pl.getD k ((0,0):P2))))) O (Cx (vs:=BH (s1.pl.getD k ((0,0):P2))) (i:=4) O O hs1.o1 (Ak C9 _) (BF.ne hs1.o1.row Z) Bq (A7 C9 _ _ _ Z) (C9 _)) (Da 0 Bq O (Aq O (CJ (c:=decide (s1.pl.getD k ((0,0):P2)=(Ar m i 1))) O O eqGuardType158 (Np 9998 (s1.pl.getD k ((0,0):P2)) (Ar m i 1))) (OkE.nil ?_)))))
     refine AC.subF (sL [1,2,3,5,6,7,8,4,9,11,10,57] O) (AC.then_ ?_)
     refine AF.cond O (λhc3=>?_) (λhc3=>?_)
     ·replace hc3:=of_decide_eq_true hc3
      refine AF.region (AM O (asg' O (AE.nil (AC.subF (sL [1,2,3,5,6,7,8,4,9,11,10] O) (AC.in_normal ?_)))))
      refine AC.then_ (AF.region (AM O (AH (AW (c:=((k+1:Nat):Int)) O O (AU (a:=k) (b:=1) Z)) O (asg' O (AE.nil ?_)))))
      exact AC.subF (sL [1,2,3,5,6,7,8,4,9,11,10] O) (AC.round2 (k+1) (k:Int) (⟨Z,.inr ⟨Z,Z,by simpa using hc3⟩⟩) Z (sF O) sr)
     ·replace hc3:=of_decide_eq_false hc3
      refine AF.skip (AC.in_normal (AC.then_ (AF.region (AM O (AH (AW (c:=((k+1:Nat):Int)) O O (AU (a:=k) (b:=1) Z)) O ?_)))))
      exact asg' O (AE.nil (AC.subF (sL [1,2,3,5,6,7,8,4,9,11,10] O) (AC.round2 (k+1) a (⟨Z,ha.elim (λh=>.inl ⟨h.1,λj hj=>by rcases Nat.lt_or_ge j k with h1|h1;exact h.2 j h1;(obtain rfl:j=k:=by omega);simpa using hc3⟩) (λh=>.inr ⟨h.1,Z,h.2.2⟩)⟩) Z (sF O) sr)))
    ·replace hc2:=of_decide_eq_false hc2
     refine AF.exit (AC.then_exit (AC.round2_exit (AC.in_exit (q1 (q4 ?_)))))
     refine AM O (AH (Ae (c:=(decide (a<(0:Int)))) O O O) O (AE.nil (AC.subF (sL [1,2,3,5,6,7,8,4,9,11,10,60] O) (AC.then_ ?_))))
     refine AF.jn2 (tg λ(s2:WS) (n2:Nat)=>WS.Ok s2/\GQ s1.pl (WS.pl s2)/\(WS.pl s2).length<=s1.pl.length+1/\n2<(WS.pl s2).length/\(WS.pl s2).getD n2 (0,0)=Ar m i 1/\(∀a,a<(WS.pl s2).length->a<s1.pl.length\/a=n2)/\(WS.pl s2,n2)=GC s1.pl (Ar m i 1)) (tg λ(s2:WS) (n2:Nat)=>[(1,(pP b1 0)),(2,(pP b2 0)),(3,(pP b3 0)),(5,(Value.slice gc.p ((BE m).length) gc.c)),(6,(vN i)),(7,(pP b4 0)),(8,(vI 1)),(10,(vN n2)),(4,(Value.slice s2.p1 s2.pl.length s2.c1))]) (tg λ(s2:WS) (n2:Nat)=>[Ag b6 158 (BH (Ar m i 1)),Ag b5 158 (BH (Ar m i 0)),Ag b4 53 ([(vN n1),(vI 0),(vI 0)]),AQ gc.p (rowsL BI (BE m)),rowW s2.p1 158 2 s2.pl.length s2.c1 (rowsL BH s2.pl),rowW none 53 3 0 0 (rowsL Ai ([])),rowW p3 53 3 ts.length c3 (rowsL Ai ts),rowW s2.p2 139 2 s2.pl.length s2.c2 (rowsL CG (s2.pts m)),Ag b3 137 ([(Value.slice s2.p2 s2.pl.length s2.c2),(Value.slice p3 ts.length c3),(Value.slice none 0 0)]),Ag b2 137 ([(Value.slice none 0 0),(Value.slice none 0 0),(Value.slice none 0 0)]),Ag b1 66 (DZ m),AQ m.p (CF m.cs)]) ?_ ?_
     ·skip
      refine AF.cond O (λhc4=>?_) (λhc4=>?_)
      ·replace hc4:=of_decide_eq_true hc4
       refine q4 (AM O (AH (v:=(vN s1.pl.length)) (AG O underlying197) O (asg' O (q3 (sL [1,2,3,5,6,7,8,4,9,11,10] O) (AM O ?_)))))
       refine BD 0 Bq O (AE.openV (V:=λb7=>(Value.slice (some ⟨b7,0,none⟩) 1 1)) (T:=158) (cs:=BH (Ar m i 1)) (AS O) (Av (z:=.agg (BH ((0,0):P2)).toArray) (cs:=BH (Ar m i 1)) (pv:=[(0,(aG (BH (Ar m i 1))))]) underlying197 sizeOf158 zeroValue158 (by decide) (by decide) O (Ej (Ar m i 1))) O (AT O) λb7=>AE.appendAt 5 (j:=0) (cs2:=rowsL BH (s1.pl++[(Ar m i 1)])) UB O hs1.o1 (Ak C9 _) O O O O O (by decide) (Hx Z) Z (by rw [BP];rfl) O λp_3 c_3 ho_3 hne_3=>asg' O (AE.nil (AC.subF (sL [1,2,3,5,6,7,8,4,9,11,10] O) ?_)))
       refine AC.then_ (rC [(0,true),(1,true),(2,true),(3,true),(4,false),(5,false),(6,false),(7,true)] 8 [] (sk (sk (sk (sk (sk (sk (sk (sk (sl sr))))))))) (sk (sk (sk (sk (sk (sk (sk (sk (sl sr))))))))) (by kernel_rfl) (λ_ _ d _ _ h=>by cases d<;>exact h) (vE (v:=(pP b3 0)) O (AA O underlying137 O sizeOf135 O) O (vE O (AK (i:=8) (v:=(Value.slice s1.p2 s1.pl.length s1.c2)) O O II.a O) O (vE (v:=(aG (DZ m))) O (Aj (i:=10) (vs:=DZ m) O O K4.a K4.s O O) O (vE (v:=(aG (BH (Ar m i 1)))) O (Aj (i:=1) (vs:=BH (Ar m i 1)) O O Bq.a Bq.s O O) O ?_)))))
       refine CK.imp O (Cj call120 (λw hw=>Ie m (Ar m i 1) (EH Z) w (inS hw 12 O lm)) O (CK.back (sk (sk (sk (sk (sk (sk (sk (sk (sl sr))))))))) (CK.imp O (AE.openV (V:=λb8=>(Value.slice (some ⟨b8,0,none⟩) 1 1)) (T:=139) (cs:=CG ((mapM m).at_ (Ar m i 1))) (AS O) (Av (z:=.agg (CG ((0,0):Int×Int)).toArray) (cs:=CG ((mapM m).at_ (Ar m i 1))) (pv:=[(0,(aG (CG ((mapM m).at_ (Ar m i 1)))))]) underlying135 sizeOf139 zeroValue139 (by decide) (by decide) O (Ei ((mapM m).at_ (Ar m i 1)))) O (AT O) λb8=>CK.back (sl (sk (sk (sk (sk (sk (sk (sk (sk (sl sr)))))))))) ?_))))
       refine CK.imp O (AE.appendAt 9 (j:=0) (cs2:=rowsL CG ((s1.pts m)++[((mapM m).at_ (Ar m i 1))])) Uq O hs1.o2 (by rw [Ak EX];simp [WS.pts]) O O O O O (by decide) (Hx Z) Z (by rw [BP];rfl) O λp_4 c_4 ho_4 hne_4=>CK.back (sl (sk (sk (sk (sk (sk (sk (sk (sk (sl sr)))))))))) (vE (v:=(pP b3 0)) O (AA O underlying137 O sizeOf135 O) O (CK.cut O (Eg 10 (off:=0) (vs:=[(Value.slice p_4 (s1.pl.length+1) c_4)]) (cs':=[(Value.slice p_4 (s1.pl.length+1) c_4),(Value.slice p3 ts.length c3),(Value.slice none 0 0)]) (AS O) O sizeOf135 O ?_))))
       refine OkE.back (sl (sk (sk (sk (sk (sk (sk (sk (sk (sl (sl sr))))))))))) (OkE.nil (AC.subF (sL [1,2,3,5,6,7,8,4,9,11,10] O) ?_))
       rw [show s1.pl.length+1=(s1.pl++[Ar m i 1]).length by simp]
       rw [show s1.pts m++[(mapM m).at_ (Ar m i 1)]=WS.pts (WS.mk (s1.pl++[Ar m i 1]) p_3 c_3 p_4 c_4) m by simp [WS.pts]]
       exact AC.join2 (WS.mk (s1.pl++[Ar m i 1]) p_3 c_3 p_4 c_4) s1.pl.length (⟨⟨(by simpa using ho_3),(by simpa using ho_4),λp hp=>(List.mem_append.1 hp).elim (hs1.small p) (λe=>by rw [List.mem_singleton.1 e];exact EH Z),KP hs1.dst (λj hj=>(ha.elim id (λh=>absurd h.1 Z)).2 j Z)⟩,GQ.snoc _ _,by simp,by simp,DU _ _,λa ha=>by simp only [List.length_append,List.length_singleton] at ha;omega,Km λj hj=>(ha.elim id (λh=>absurd h.1 Z)).2 j Z⟩) (sF O) (sl (sl sr))
      ·replace hc4:=of_decide_eq_false hc4
       refine AF.retell (k:=10) (u:=(vN a.toNat)) O (by show Value.int _ _=Value.int _ _;congr 1;omega) (AF.skip ?_)
       obtain ⟨ha1,ha2,ha3⟩:=ha.resolve_left (λh=>by have:=h.1;omega)
       exact AC.join2 s1 a.toNat (⟨hs1,GQ.refl _,Z,Z,ha3,(λa ha=>.inl ha),Ld hs1.dst Z ha3⟩) (sF O) sr
     ·intro s2 n2 hJ
      obtain ⟨hs2,hm2,hl2,hn2,hg2,hu2,hf2⟩:=hJ
      refine AC.then_ (AF.region (AM O (AM O (AH (v:=(pP b4 1)) (AD (j:=1) O O underlying53 sizeOf3 O (by decide) O) O (Eg 2 (off:=1) (vs:=[(vN n2)]) (cs':=[(vN n1),(vN n2),(vI 0)]) (AS O) O sizeOf3 O ?_)))))
      refine AE.nil (AC.subF (sL [1,2,3,5,6,7,8,10,4] O) (AC.in_normal (AC.then_ (AF.region (AM O ?_)))))
      refine AH (AW (c:=(2:Int)) O O (by decide)) O (asg' O (AE.nil (AC.subF (sL [1,2,3,5,6,7,8,10,4] O) (AC.again (FP.step ?_)))))
      refine AF.seq (q4 (AM O (AH (Ae (c:=true) O O (by decide)) O (AE.nil (AC.subF (sL [1,2,3,5,6,7,8,10,4,25] O) ?_)))))
      refine AC.then_ (AF.cond_true O (AF.skip (q1 (AF.block (AF.seq ?_)))))
      refine Cd [(0,true),(1,true),(2,true),(3,true),(4,true),(5,true),(6,true),(7,true),(8,true),(9,true),(10,true),(11,true),(12,true),(13,true),(14,true),(15,true),(16,true),(17,true),(18,false),(19,false)] sr (Bb O (Bb O (Bb O (Aq (v:=(pP b1 8)) O (AA O underlying66 O sizeOf5 O) (Bd 10 (vK .u8 m.fst) Tc O ?_)))))
      refine Aq O (Ay (c:=((m.fst:Nat):Int)) O underlying5 underlying3 (B4 Z)) (Aq O (AW (c:=((2+m.fst:Nat):Int)) O O (AU (a:=2) (b:=m.fst) Z)) (Bb O (Aq (v:=(pP b1 8)) O (AA O underlying66 O sizeOf5 O) (Bd 10 (vK .u8 m.fst) Tc O (Aq O (Dp (c:=((m.fst/3:Nat):Int)) O O Z (M8 (a:=m.fst) (b:=3) Z)) ?_)))))
      refine Aq O (Ay (c:=((m.fst/3:Nat):Int)) O underlying5 underlying3 (B4 Z)) ?_
      have hmul:i*(m.fst/3)<=36*85:=Nat.mul_le_mul Z hf3
      refine Aq O (Br (c:=((i*(m.fst/3):Nat):Int)) O O (Cv (a:=i) (b:=m.fst/3) Z)) (Aq O (AW (c:=(((2+m.fst)+(i*(m.fst/3)):Nat):Int)) O O (AU (a:=2+m.fst) (b:=i*(m.fst/3)) Z)) ?_)
      obtain ⟨r9,hr9⟩:∃r,r=I0 m i 2:=⟨_,rfl⟩
      have hr3:r9<3:=by rw [hr9];exact Nat.mod_lt _ (by decide)
      refine Aq O (Bs (c:=((r9:Nat):Int)) O O (by decide) (by rw [hr9];exact Gh (a:=2+m.fst+i*(m.fst/3)) (b:=3))) (Aq (v:=(pP (pB gc.p) (pO gc.p+i*6))) O (AN (j:=i) O O gc.ok underlying198 sizeOf200 O Z) (Aq (v:=(pP (pB gc.p) (pO gc.p+(i*6+r9*2)))) O (AD (j:=r9) O O underlying200 sizeOf158 O hr3 (Nat.add_assoc _ _ _)) (Aq (v:=(aG (BH (Ar m i 2)))) O (AZ (vs:=BH (Ar m i 2)) (i:=3) O O (BF.ne gc.ok Z) Bq (I7 _ i r9 Z hr3 _ O _ (by rw [hr9];rfl)) O) (OkE.imp O (al JL O λb7=>?_)))))
      refine OkE.back (sl sr) (OkE.imp O (A8 O sizeOf158 O (OkE.back (sl sr) (OkE.nil (AC.subF (sL [1,2,3,5,6,7,8,10,4,9] O) ?_)))))
      refine q2 (asg' O (AE.nil (q1 (q4 (asg' O ?_)))))
      refine AE.nil (AC.then_ (AF.block ?_))
      refine AF.lp2 (tg λ(k:Nat) (a:Int)=>k<=s2.pl.length/\((a = -1/\∀j,j<k->s2.pl.getD j (0,0)≠Ar m i 2)\/0<=a/\a<(k:Int)/\s2.pl.getD (Int.toNat a) (0,0)=Ar m i 2)) (tg λ(k:Nat) (a:Int)=>[(1,(pP b1 0)),(2,(pP b2 0)),(3,(pP b3 0)),(5,(Value.slice gc.p ((BE m).length) gc.c)),(6,(vN i)),(7,(pP b4 0)),(8,(vI 2)),(4,(Value.slice s2.p1 s2.pl.length s2.c1)),(9,(pP b7 0)),(11,(vN k)),(10,(vI a))]) (tg λ(k:Nat) (a:Int)=>[Ag b7 158 (BH (Ar m i 2)),Ag b6 158 (BH (Ar m i 1)),Ag b5 158 (BH (Ar m i 0)),Ag b4 53 ([(vN n1),(vN n2),(vI 0)]),AQ gc.p (rowsL BI (BE m)),rowW s2.p1 158 2 s2.pl.length s2.c1 (rowsL BH s2.pl),rowW none 53 3 0 0 (rowsL Ai ([])),rowW p3 53 3 ts.length c3 (rowsL Ai ts),rowW s2.p2 139 2 s2.pl.length s2.c2 (rowsL CG (s2.pts m)),Ag b3 137 ([(Value.slice s2.p2 s2.pl.length s2.c2),(Value.slice p3 ts.length c3),(Value.slice none 0 0)]),Ag b2 137 ([(Value.slice none 0 0),(Value.slice none 0 0),(Value.slice none 0 0)]),Ag b1 66 (DZ m),AQ m.p (CF m.cs)]) (tg λ(k:Nat) (a:Int)=>s2.pl.length-k) 0 (-1:Int) (⟨Nat.zero_le _,.inl ⟨rfl,λj hj=>absurd hj (Nat.not_lt_zero _)⟩⟩) (sF O) sr (λk a hJ=>?_)
      obtain ⟨hk,ha⟩:=hJ
      refine AF.seq (q4 (AM O (AM O (AH (v:=(vN s2.pl.length)) (AG O underlying197) O (AH (Ae (c:=(decide (k<s2.pl.length))) O O (CL (a:=k) (b:=s2.pl.length))) O ?_)))))
      refine AE.nil (AC.subF (sL [1,2,3,5,6,7,8,4,9,11,10,49] O) (AC.then_ ?_))
      refine AF.cond O (λhc2=>?_) (λhc2=>?_)
      ·replace hc2:=of_decide_eq_true hc2
       refine AF.skip (q1 (AF.block (AF.seq (Cd [(0,true),(1,true),(2,true),(3,true),(4,true),(5,true)] sr (Bb O ?_)))))
       refine Bb O (Aq (v:=(pP (pB s2.p1) (pO s2.p1+k*2))) O (AN (j:=k) O O hs2.o1.row underlying197 sizeOf158 O Z) (Aq (v:=(aG (BH (s2.pl.getD k ((0,0):P2))))) O (Cx (vs:=BH (s2.pl.getD k ((0,0):P2))) (i:=5) O O hs2.o1 (Ak C9 _) (BF.ne hs2.o1.row Z) Bq (A7 C9 _ _ _ Z) (C9 _)) (Da 0 Bq O (Aq O (CJ (c:=decide (s2.pl.getD k ((0,0):P2)=(Ar m i 2))) O O eqGuardType158 (Np 9998 (s2.pl.getD k ((0,0):P2)) (Ar m i 2))) (OkE.nil ?_)))))
       refine AC.subF (sL [1,2,3,5,6,7,8,4,9,11,10,57] O) (AC.then_ ?_)
       refine AF.cond O (λhc3=>?_) (λhc3=>?_)
       ·replace hc3:=of_decide_eq_true hc3
        refine AF.region (AM O (asg' O (AE.nil (AC.subF (sL [1,2,3,5,6,7,8,4,9,11,10] O) (AC.in_normal ?_)))))
        refine AC.then_ (AF.region (AM O (AH (AW (c:=((k+1:Nat):Int)) O O (AU (a:=k) (b:=1) Z)) O (asg' O (AE.nil ?_)))))
        exact AC.subF (sL [1,2,3,5,6,7,8,4,9,11,10] O) (AC.round2 (k+1) (k:Int) (⟨Z,.inr ⟨Z,Z,by simpa using hc3⟩⟩) Z (sF O) sr)
       ·replace hc3:=of_decide_eq_false hc3
        refine AF.skip (AC.in_normal (AC.then_ (AF.region (AM O (AH (AW (c:=((k+1:Nat):Int)) O O (AU (a:=k) (b:=1) Z)) O ?_)))))
        exact asg' O (AE.nil (AC.subF (sL [1,2,3,5,6,7,8,4,9,11,10] O) (AC.round2 (k+1) a (⟨Z,ha.elim (λh=>.inl ⟨h.1,λj hj=>by rcases Nat.lt_or_ge j k with h1|h1;exact h.2 j h1;(obtain rfl:j=k:=by omega);simpa using hc3⟩) (λh=>.inr ⟨h.1,Z,h.2.2⟩)⟩) Z (sF O) sr)))
      ·replace hc2:=of_decide_eq_false hc2
       refine AF.exit (AC.then_exit (AC.round2_exit (AC.in_exit (q1 (q4 ?_)))))
       refine AM O (AH (Ae (c:=(decide (a<(0:Int)))) O O O) O (AE.nil (AC.subF (sL [1,2,3,5,6,7,8,4,9,11,10,60] O) (AC.then_ ?_))))
       refine AF.jn2 (tg λ(s3:WS) (n3:Nat)=>WS.Ok s3/\GQ s2.pl (WS.pl s3)/\(WS.pl s3).length<=s2.pl.length+1/\n3<(WS.pl s3).length/\(WS.pl s3).getD n3 (0,0)=Ar m i 2/\(∀a,a<(WS.pl s3).length->a<s2.pl.length\/a=n3)/\(WS.pl s3,n3)=GC s2.pl (Ar m i 2)) (tg λ(s3:WS) (n3:Nat)=>[(1,(pP b1 0)),(2,(pP b2 0)),(3,(pP b3 0)),(5,(Value.slice gc.p ((BE m).length) gc.c)),(6,(vN i)),(7,(pP b4 0)),(8,(vI 2)),(10,(vN n3)),(4,(Value.slice s3.p1 s3.pl.length s3.c1))]) (tg λ(s3:WS) (n3:Nat)=>[Ag b7 158 (BH (Ar m i 2)),Ag b6 158 (BH (Ar m i 1)),Ag b5 158 (BH (Ar m i 0)),Ag b4 53 ([(vN n1),(vN n2),(vI 0)]),AQ gc.p (rowsL BI (BE m)),rowW s3.p1 158 2 s3.pl.length s3.c1 (rowsL BH s3.pl),rowW none 53 3 0 0 (rowsL Ai ([])),rowW p3 53 3 ts.length c3 (rowsL Ai ts),rowW s3.p2 139 2 s3.pl.length s3.c2 (rowsL CG (s3.pts m)),Ag b3 137 ([(Value.slice s3.p2 s3.pl.length s3.c2),(Value.slice p3 ts.length c3),(Value.slice none 0 0)]),Ag b2 137 ([(Value.slice none 0 0),(Value.slice none 0 0),(Value.slice none 0 0)]),Ag b1 66 (DZ m),AQ m.p (CF m.cs)]) ?_ ?_
       ·skip
        refine AF.cond O (λhc4=>?_) (λhc4=>?_)
        ·replace hc4:=of_decide_eq_true hc4
         refine q4 (AM O (AH (v:=(vN s2.pl.length)) (AG O underlying197) O (asg' O (q3 (sL [1,2,3,5,6,7,8,4,9,11,10] O) (AM O ?_)))))
         refine BD 0 Bq O (AE.openV (V:=λb8=>(Value.slice (some ⟨b8,0,none⟩) 1 1)) (T:=158) (cs:=BH (Ar m i 2)) (AS O) (Av (z:=.agg (BH ((0,0):P2)).toArray) (cs:=BH (Ar m i 2)) (pv:=[(0,(aG (BH (Ar m i 2))))]) underlying197 sizeOf158 zeroValue158 (by decide) (by decide) O (Ej (Ar m i 2))) O (AT O) λb8=>AE.appendAt 6 (j:=0) (cs2:=rowsL BH (s2.pl++[(Ar m i 2)])) UB O hs2.o1 (Ak C9 _) O O O O O (by decide) (Hx Z) Z (by rw [BP];rfl) O λp_5 c_5 ho_5 hne_5=>asg' O (AE.nil (AC.subF (sL [1,2,3,5,6,7,8,4,9,11,10] O) ?_)))
         refine AC.then_ (rC [(0,true),(1,true),(2,true),(3,true),(4,false),(5,false),(6,false),(7,true)] 8 [] (sk (sk (sk (sk (sk (sk (sk (sk (sk (sl sr)))))))))) (sk (sk (sk (sk (sk (sk (sk (sk (sk (sl sr)))))))))) (by kernel_rfl) (λ_ _ d _ _ h=>by cases d<;>exact h) (vE (v:=(pP b3 0)) O (AA O underlying137 O sizeOf135 O) O (vE O (AK (i:=9) (v:=(Value.slice s2.p2 s2.pl.length s2.c2)) O O II.a O) O (vE (v:=(aG (DZ m))) O (Aj (i:=11) (vs:=DZ m) O O K4.a K4.s O O) O (vE (v:=(aG (BH (Ar m i 2)))) O (Aj (i:=1) (vs:=BH (Ar m i 2)) O O Bq.a Bq.s O O) O ?_)))))
         refine CK.imp O (Cj call120 (λw hw=>Ie m (Ar m i 2) (EH Z) w (inS hw 13 O lm)) O (CK.back (sk (sk (sk (sk (sk (sk (sk (sk (sk (sl sr)))))))))) (CK.imp O (AE.openV (V:=λb9=>(Value.slice (some ⟨b9,0,none⟩) 1 1)) (T:=139) (cs:=CG ((mapM m).at_ (Ar m i 2))) (AS O) (Av (z:=.agg (CG ((0,0):Int×Int)).toArray) (cs:=CG ((mapM m).at_ (Ar m i 2))) (pv:=[(0,(aG (CG ((mapM m).at_ (Ar m i 2)))))]) underlying135 sizeOf139 zeroValue139 (by decide) (by decide) O (Ei ((mapM m).at_ (Ar m i 2)))) O (AT O) λb9=>CK.back (sl (sk (sk (sk (sk (sk (sk (sk (sk (sk (sl sr))))))))))) ?_))))
         refine CK.imp O (AE.appendAt 10 (j:=0) (cs2:=rowsL CG ((s2.pts m)++[((mapM m).at_ (Ar m i 2))])) Uq O hs2.o2 (by rw [Ak EX];simp [WS.pts]) O O O O O (by decide) (Hx Z) Z (by rw [BP];rfl) O λp_6 c_6 ho_6 hne_6=>CK.back (sl (sk (sk (sk (sk (sk (sk (sk (sk (sk (sl sr))))))))))) (vE (v:=(pP b3 0)) O (AA O underlying137 O sizeOf135 O) O (CK.cut O (Eg 11 (off:=0) (vs:=[(Value.slice p_6 (s2.pl.length+1) c_6)]) (cs':=[(Value.slice p_6 (s2.pl.length+1) c_6),(Value.slice p3 ts.length c3),(Value.slice none 0 0)]) (AS O) O sizeOf135 O ?_))))
         refine OkE.back (sl (sk (sk (sk (sk (sk (sk (sk (sk (sk (sl (sl sr)))))))))))) (OkE.nil (AC.subF (sL [1,2,3,5,6,7,8,4,9,11,10] O) ?_))
         rw [show s2.pl.length+1=(s2.pl++[Ar m i 2]).length by simp]
         rw [show s2.pts m++[(mapM m).at_ (Ar m i 2)]=WS.pts (WS.mk (s2.pl++[Ar m i 2]) p_5 c_5 p_6 c_6) m by simp [WS.pts]]
         exact AC.join2 (WS.mk (s2.pl++[Ar m i 2]) p_5 c_5 p_6 c_6) s2.pl.length (⟨⟨(by simpa using ho_5),(by simpa using ho_6),λp hp=>(List.mem_append.1 hp).elim (hs2.small p) (λe=>by rw [List.mem_singleton.1 e];exact EH Z),KP hs2.dst (λj hj=>(ha.elim id (λh=>absurd h.1 Z)).2 j Z)⟩,GQ.snoc _ _,by simp,by simp,DU _ _,λa ha=>by simp only [List.length_append,List.length_singleton] at ha;omega,Km λj hj=>(ha.elim id (λh=>absurd h.1 Z)).2 j Z⟩) (sF O) (sl (sl sr))
        ·replace hc4:=of_decide_eq_false hc4
         refine AF.retell (k:=10) (u:=(vN a.toNat)) O (by show Value.int _ _=Value.int _ _;congr 1;omega) (AF.skip ?_)
         obtain ⟨ha1,ha2,ha3⟩:=ha.resolve_left (λh=>by have:=h.1;omega)
         exact AC.join2 s2 a.toNat (⟨hs2,GQ.refl _,Z,Z,ha3,(λa ha=>.inl ha),Ld hs2.dst Z ha3⟩) (sF O) sr
       ·intro s3 n3 hJ
        obtain ⟨hs3,hm3,hl3,hn3,hg3,hu3,hf3⟩:=hJ
        refine AC.then_ (AF.region (AM O (AM O (AH (v:=(pP b4 2)) (AD (j:=2) O O underlying53 sizeOf3 O (by decide) O) O (Eg 3 (off:=2) (vs:=[(vN n3)]) (cs':=[(vN n1),(vN n2),(vN n3)]) (AS O) O sizeOf3 O ?_)))))
        refine AE.nil (AC.subF (sL [1,2,3,5,6,7,8,10,4] O) (AC.in_normal (AC.then_ (AF.region (AM O ?_)))))
        refine AH (AW (c:=(3:Int)) O O (by decide)) O (asg' O (AE.nil (AC.subF (sL [1,2,3,5,6,7,8,10,4] O) (AC.again (FP.step ?_)))))
        refine AF.seq (q4 (AM O (AH (Ae (c:=false) O O (by decide)) O (AE.nil (AC.subF (sL [1,2,3,5,6,7,8,10,4,25] O) ?_)))))
        refine AC.then_ (AF.cond_false O (AF.exit (AC.then_exit (AC.then_exit (AC.in_exit ?_)))))
        refine AC.then_ (AF.region (AH (v:=(pP b3 1)) (AA O underlying137 O sizeOf23 O) O (BA 9 (Value.slice p3 ts.length c3) CP O (BD 3 Gf O (AE.openV (V:=λb8=>(Value.slice (some ⟨b8,0,none⟩) 1 1)) (T:=53) (cs:=Ai (n1,n2,n3)) (AS O) (Av (z:=.agg (Ai ((0,0,0):Nat×Nat×Nat)).toArray) (cs:=Ai (n1,n2,n3)) (pv:=[(0,(aG ([(vN n1),(vN n2),(vN n3)])))]) underlying23 sizeOf53 zeroValue53 (by decide) (by decide) O (Gu (n1,n2,n3))) O (AT O) λb8=>?_)))))
        refine AE.appendAt 8 (j:=0) (cs2:=rowsL Ai (ts++[(n1,n2,n3)])) bT O h3 (Ak Az _) O O O O O (by decide) (Hx Z) Z (by rw [BP];rfl) O λp_7 c_7 ho_7 hne_7=>AH (v:=(pP b3 1)) (AA O underlying137 O sizeOf23 O) O (Eg 10 (off:=1) (vs:=[(Value.slice p_7 (ts.length+1) c_7)]) (cs':=[(Value.slice s3.p2 s3.pl.length s3.c2),(Value.slice p_7 (ts.length+1) c_7),(Value.slice none 0 0)]) (AS O) O sizeOf23 O (AE.nil (AC.subF (sL [1,2,3,5,6,7,8,10,4] O) (AC.in_normal ?_))))
        refine AC.then_ (AF.region (AM O (AH (AW (c:=((i+1:Nat):Int)) O O (AU (a:=i) (b:=1) Z)) O (asg' O (AE.nil ?_)))))
        refine AC.subF (sL [1,2,3,5,6,7,8,10,4] O) ?_
        rw [show ts.length+1=(ts++[(n1,n2,n3)]).length by simp]
        exact AC.round5 (i+1) s3 p_7 c_7 (ts++[(n1,n2,n3)]) (⟨Z,hs3,(by simpa using ho_7),hv.step ((hm1.trans hm2).trans hm3) Z hs3.small ⟨⟨by show n1<_;have:=hm2.1;have:=hm3.1;omega,(hm3.2 _ (by have:=hm2.1;omega)).trans ((hm2.2 _ Z).trans hg1)⟩,⟨by show n2<_;have:=hm3.1;omega,(hm3.2 _ Z).trans hg2⟩,⟨by show n3<_;omega,hg3⟩⟩ (λa ha=>by rcases hu3 a ha with h|h;(rcases hu2 a h with h|h;(rcases hu1 a h with h|h;exact .inl h;exact .inr (.inl h.symm));exact .inr (.inr (.inl h.symm)));exact .inr (.inr (.inr h.symm))) (Wl hv.fn hf1 hf2 hf3)⟩) Z (sF O) (sl (sl (sl (sl (sl sr)))))
 ·replace hc0:=of_decide_eq_false hc0
  have hi9:i=(BE m).length:=by omega
  rw [hi9] at hv
  refine AF.exit (AC.then_exit (AC.round5_exit (AC.in_exit (q1 (q4 ?_)))))
  refine asg' O (AE.nil (AC.then_ (AF.block ?_)))
  refine AF.lp4 (tg λ(ai:Nat) (p4:Option Addr) (c4:Nat) (ss:List (Nat×Nat×Nat))=>ai<=s.pl.length/\OwnOk p4 ss.length c4/\ss.length<=ai*108/\ss=E3 m ts s.pl.length ai) (tg λ(ai:Nat) (p4:Option Addr) (c4:Nat) (ss:List (Nat×Nat×Nat))=>[(1,(pP b1 0)),(2,(pP b2 0)),(3,(pP b3 0)),(4,(Value.slice s.p1 s.pl.length s.c1)),(12,(vN ai))]) (tg λ(ai:Nat) (p4:Option Addr) (c4:Nat) (ss:List (Nat×Nat×Nat))=>[AQ gc.p (rowsL BI (BE m)),rowW s.p1 158 2 s.pl.length s.c1 (rowsL BH s.pl),rowW p4 53 3 ss.length c4 (rowsL Ai ss),rowW p3 53 3 ts.length c3 (rowsL Ai ts),rowW s.p2 139 2 s.pl.length s.c2 (rowsL CG (s.pts m)),Ag b3 137 ([(Value.slice s.p2 s.pl.length s.c2),(Value.slice p3 ts.length c3),(Value.slice p4 ss.length c4)]),Ag b2 137 ([(Value.slice none 0 0),(Value.slice none 0 0),(Value.slice none 0 0)]),Ag b1 66 (DZ m),AQ m.p (CF m.cs)]) (tg λ(ai:Nat) (p4:Option Addr) (c4:Nat) (ss:List (Nat×Nat×Nat))=>s.pl.length-ai) 0 none 0 ([]:List (Nat×Nat×Nat)) (⟨Nat.zero_le _,OwnOk.none,by simp,rfl⟩) (sF O) sr (λai p4 c4 ss hJ=>?_)
  obtain ⟨hai,h4,hsl,hsd⟩:=hJ
  refine AF.seq (q4 (AM O (AM O (AH (v:=(vN s.pl.length)) (AG O underlying197) O (AH (Ae (c:=(decide (ai<s.pl.length))) O O (CL (a:=ai) (b:=s.pl.length))) O ?_)))))
  refine AE.nil (AC.subF (sL [1,2,3,4,12,87] O) (AC.then_ ?_))
  refine AF.cond O (λhc5=>?_) (λhc5=>?_)
  ·replace hc5:=of_decide_eq_true hc5
   refine AF.skip (q1 (AF.block (q4 (AM O (AH (AW (c:=((ai+1:Nat):Int)) O O (AU (a:=ai) (b:=1) Z)) O ?_)))))
   refine asg' O (AE.nil (AC.subF (sL [1,2,3,4,12,13] O) (AC.then_ (AF.block ?_))))
   refine AF.lp4 (tg λ(bi:Nat) (p5:Option Addr) (c5:Nat) (sq9:List (Nat×Nat×Nat))=>bi<=s.pl.length/\ai+1<=bi/\OwnOk p5 sq9.length c5/\sq9.length<=ai*108+bi/\sq9=E3 m ts s.pl.length ai++JZ m ts ai (bi-(ai+1))) (tg λ(bi:Nat) (p5:Option Addr) (c5:Nat) (sq9:List (Nat×Nat×Nat))=>[(1,(pP b1 0)),(2,(pP b2 0)),(3,(pP b3 0)),(4,(Value.slice s.p1 s.pl.length s.c1)),(12,(vN ai)),(13,(vN bi))]) (tg λ(bi:Nat) (p5:Option Addr) (c5:Nat) (sq9:List (Nat×Nat×Nat))=>[AQ gc.p (rowsL BI (BE m)),rowW s.p1 158 2 s.pl.length s.c1 (rowsL BH s.pl),rowW p5 53 3 sq9.length c5 (rowsL Ai sq9),rowW p3 53 3 ts.length c3 (rowsL Ai ts),rowW s.p2 139 2 s.pl.length s.c2 (rowsL CG (s.pts m)),Ag b3 137 ([(Value.slice s.p2 s.pl.length s.c2),(Value.slice p3 ts.length c3),(Value.slice p5 sq9.length c5)]),Ag b2 137 ([(Value.slice none 0 0),(Value.slice none 0 0),(Value.slice none 0 0)]),Ag b1 66 (DZ m),AQ m.p (CF m.cs)]) (tg λ(bi:Nat) (p5:Option Addr) (c5:Nat) (sq9:List (Nat×Nat×Nat))=>s.pl.length-bi) (ai+1) p4 c4 ss (⟨Z,Nat.le_refl _,h4,Z,by rw [hsd,Nat.sub_self];exact (List.append_nil _).symm⟩) (sF O) sr (λbi p5 c5 sq9 hJ=>?_)
   obtain ⟨hbi,hba,h5,hsr,hsq⟩:=hJ
   refine AF.seq (q4 (AM O (AM O (AH (v:=(vN s.pl.length)) (AG O underlying197) O (AH (Ae (c:=(decide (bi<s.pl.length))) O O (CL (a:=bi) (b:=s.pl.length))) O ?_)))))
   refine AE.nil (AC.subF (sL [1,2,3,4,12,13,95] O) (AC.then_ ?_))
   refine AF.cond O (λhc6=>?_) (λhc6=>?_)
   ·replace hc6:=of_decide_eq_true hc6
    refine AF.skip (q1 (AF.block (q4 (asg' O (AE.nil ?_)))))
    refine q1 (q4 (asg' O (AE.nil (AC.then_ (AF.block ?_)))))
    refine AF.lp2 (tg λ(ti:Nat) (cn:Nat)=>ti<=ts.length/\cn<=ti/\cn=Hl ts ai bi ti) (tg λ(ti:Nat) (cn:Nat)=>[(1,(pP b1 0)),(2,(pP b2 0)),(3,(pP b3 0)),(4,(Value.slice s.p1 s.pl.length s.c1)),(12,(vN ai)),(13,(vN bi)),(15,(vN ti)),(14,(vN cn))]) (tg λ(ti:Nat) (cn:Nat)=>[AQ gc.p (rowsL BI (BE m)),rowW s.p1 158 2 s.pl.length s.c1 (rowsL BH s.pl),rowW p5 53 3 sq9.length c5 (rowsL Ai sq9),rowW p3 53 3 ts.length c3 (rowsL Ai ts),rowW s.p2 139 2 s.pl.length s.c2 (rowsL CG (s.pts m)),Ag b3 137 ([(Value.slice s.p2 s.pl.length s.c2),(Value.slice p3 ts.length c3),(Value.slice p5 sq9.length c5)]),Ag b2 137 ([(Value.slice none 0 0),(Value.slice none 0 0),(Value.slice none 0 0)]),Ag b1 66 (DZ m),AQ m.p (CF m.cs)]) (tg λ(ti:Nat) (cn:Nat)=>ts.length-ti) 0 0 (⟨Nat.zero_le _,Nat.le_refl _,rfl⟩) (sF O) sr (λti cn hJ=>?_)
    obtain ⟨hti,hcn,hcw⟩:=hJ
    refine AF.seq (q4 (AM O (AH (v:=(pP b3 1)) (AA O underlying137 O sizeOf23 O) O (BA 5 (Value.slice p3 ts.length c3) CP O (AH (v:=(vN ts.length)) (AG O underlying23) O ?_)))))
    refine AH (Ae (c:=(decide (ti<ts.length))) O O (CL (a:=ti) (b:=ts.length))) O (AE.nil (AC.subF (sL [1,2,3,4,12,13,15,14,102] O) (AC.then_ ?_)))
    refine AF.cond O (λhc7=>?_) (λhc7=>?_)
    ·replace hc7:=of_decide_eq_true hc7
     refine AF.skip (q1 (AF.block (q4 (AH (v:=(pP b3 1)) (AA O underlying137 O sizeOf23 O) O (BA 5 (Value.slice p3 ts.length c3) CP O ?_)))))
     refine AM O (AH (v:=(pP (pB p3) (pO p3+ti*3))) (AN (j:=ti) O O h3.row underlying23 sizeOf53 O Z) O (AH (v:=(aG (Ai (ts.getD ti ((0,0,0):Nat×Nat×Nat))))) (Cx (vs:=Ai (ts.getD ti ((0,0,0):Nat×Nat×Nat))) (i:=3) O O h3 (Ak Az _) (BF.ne h3.row Z) Gf (A7 Az _ _ _ Z) (Az _)) O (AM O (ck' call84 (Pz (ts.getD ti ((0,0,0):Nat×Nat×Nat)) ai) O (AM O ?_)))))
     refine AE.mid (FM:=[(1,(pP b1 0)),(2,(pP b2 0)),(3,(pP b3 0)),(4,(Value.slice s.p1 s.pl.length s.c1)),(12,(vN ai)),(13,(vN bi)),(15,(vN ti)),(14,(vN cn)),(105,(pP b3 1)),(106,(Value.slice p3 ts.length c3)),(107,(vN ti)),(108,(pP (pB p3) (pO p3+ti*3))),(109,(aG (Ai (ts.getD ti ((0,0,0):Nat×Nat×Nat))))),(110,(vN ai)),(111,(Value.bool (EQ (ts.getD ti ((0,0,0):Nat×Nat×Nat)) ai))),(112,(Value.bool (EQ (ts.getD ti ((0,0,0):Nat×Nat×Nat)) ai))),(120,(Value.bool ((EQ (ts.getD ti ((0,0,0):Nat×Nat×Nat)) ai)&&(EQ (ts.getD ti ((0,0,0):Nat×Nat×Nat)) bi))))]) (LM:=[AQ gc.p (rowsL BI (BE m)),rowW s.p1 158 2 s.pl.length s.c1 (rowsL BH s.pl),rowW p5 53 3 sq9.length c5 (rowsL Ai sq9),rowW p3 53 3 ts.length c3 (rowsL Ai ts),rowW s.p2 139 2 s.pl.length s.c2 (rowsL CG (s.pts m)),Ag b3 137 ([(Value.slice s.p2 s.pl.length s.c2),(Value.slice p3 ts.length c3),(Value.slice p5 sq9.length c5)]),Ag b2 137 ([(Value.slice none 0 0),(Value.slice none 0 0),(Value.slice none 0 0)]),Ag b1 66 (DZ m),AQ m.p (CF m.cs)]) 8 ?_ ?_
     ·rcases Bool.eq_false_or_eq_true (EQ (ts.getD ti ((0,0,0):Nat×Nat×Nat)) ai) with hg1|hg1
      ·skip
       refine AE.retell (k:=112) (u:=Value.bool true) O (by rw [hg1]) ?_
       have hg1':=hg1
       skip
       refine AE.step (v:=(pP b3 1)) (AB O) (AA O underlying137 O sizeOf23 O) O (AT O) (AE.step (v:=(Value.slice p3 ts.length c3)) (AB O) (AK (i:=5) (v:=(Value.slice p3 ts.length c3)) O O CP.a O) O (AT O) (AE.step (v:=(vN ti)) (AB O) (Al O) O (AT O) (AE.step (v:=(pP (pB p3) (pO p3+ti*3))) (AB O) (AN (j:=ti) O O h3.row underlying23 sizeOf53 O Z) O (AT O) (AE.step (v:=(aG (Ai (ts.getD ti ((0,0,0):Nat×Nat×Nat))))) (AB O) (Cx (vs:=Ai (ts.getD ti ((0,0,0):Nat×Nat×Nat))) (i:=3) O O h3 (Ak Az _) (BF.ne h3.row Z) Gf (A7 Az _ _ _ Z) (Az _)) O (AT O) (AE.step (v:=(vN bi)) (AB O) (Al O) O (AT O) ?_)))))
       exact AE.call (v:=(Value.bool (EQ (ts.getD ti ((0,0,0):Nat×Nat×Nat)) bi))) (AB O) (Ao (args:=[(aG (Ai (ts.getD ti ((0,0,0):Nat×Nat×Nat)))),(vN bi)]) O O call84) (λw hw=>Pz (ts.getD ti ((0,0,0):Nat×Nat×Nat)) bi w) O (AT O) (AH (v:=(Value.bool (EQ (ts.getD ti ((0,0,0):Nat×Nat×Nat)) bi))) (Ac O O) O (AE.nil (AC.mid (sS O (sS O (sS O (sS O (sS O (sS O (sS O (sS O (sS O (sS O (sS O (sS O (sS O (sS O (sS O (sS (by first|rfl|(rw [hg1];rfl)|rw [hg1]) (sS (by first|rfl|(rw [hg1];rfl)|rw [hg1]) (sN)))))))))))))))))) (List.Sublist.refl _))))
      ·skip
       refine AE.retell (k:=112) (u:=Value.bool false) O (by rw [hg1]) ?_
       have hg1':=hg1
       skip
       refine AE.skip (AJ O) O (AT O) (AE.skip (AJ O) O (AT O) (AE.skip (AJ O) O (AT O) (AE.skip (AJ O) O (AT O) (AE.skip (AJ O) O (AT O) (AE.skip (AJ O) O (AT O) ?_)))))
       exact AE.skip (AJ O) O (AT O) (AH (v:=(Value.bool false)) (AP O O) O (AE.nil (AC.mid (sS O (sS O (sS O (sS O (sS O (sS O (sS O (sS O (sS O (sS O (sS O (sS O (sS O (sS O (sS O (sS (by first|rfl|(rw [hg1];rfl)|rw [hg1]) (sS (by first|rfl|(rw [hg1];rfl)|rw [hg1]) (sN)))))))))))))))))) (List.Sublist.refl _))))
     refine AE.nil (AC.subF (sL [1,2,3,4,12,13,15,14,120] O) (AC.then_ ?_))
     refine AF.cond O (λhc8=>?_) (λhc8=>?_)
     ·simp only [Bool.and_eq_true,Bool.or_eq_true,Bool.and_eq_false_iff,Bool.or_eq_false_iff,Bool.not_eq_true',Bool.not_eq_false',decide_eq_true_eq,decide_eq_false_iff_not] at hc8
      refine AF.region (AM O (AH (AW (c:=((cn+1:Nat):Int)) O O (AU (a:=cn) (b:=1) Z)) O (asg' O (AE.nil (AC.subF (sL [1,2,3,4,12,13,15,14] O) ?_)))))
      refine AC.in_normal (AC.then_ (AF.region (AM O (AH (AW (c:=((ti+1:Nat):Int)) O O (AU (a:=ti) (b:=1) Z)) O (asg' O ?_)))))
      exact AE.nil (AC.subF (sL [1,2,3,4,12,13,15,14] O) (AC.round2 (ti+1) (cn+1) (⟨Z,Z,by rw [hcw];exact (Vm hc8).symm⟩) Z (sF O) sr))
     ·simp only [Bool.and_eq_true,Bool.or_eq_true,Bool.and_eq_false_iff,Bool.or_eq_false_iff,Bool.not_eq_true',Bool.not_eq_false',decide_eq_true_eq,decide_eq_false_iff_not] at hc8
      refine AF.skip (AC.in_normal (AC.then_ (AF.region (AM O (AH (AW (c:=((ti+1:Nat):Int)) O O (AU (a:=ti) (b:=1) Z)) O ?_)))))
      exact asg' O (AE.nil (AC.subF (sL [1,2,3,4,12,13,15,14] O) (AC.round2 (ti+1) cn (⟨Z,Z,by rw [hcw];exact (XM hc8).symm⟩) Z (sF O) sr)))
    ·replace hc7:=of_decide_eq_false hc7
     have hte:ti=ts.length:=by omega
     rw [hte] at hcw
     refine AF.exit (AC.then_exit (AC.round2_exit (AC.in_exit (q2 (AM O ?_)))))
     refine AH (BL (c:=(decide (cn=1))) O O (Iv (a:=cn) (b:=1))) O (AE.nil (AC.subF (sL [1,2,3,4,12,13,15,14,124] O) (AC.then_ ?_)))
     refine AF.cond O (λhc9=>?_) (λhc9=>?_)
     ·replace hc9:=of_decide_eq_true hc9
      refine AF.region (AH (v:=(pP b3 2)) (AA O underlying137 O sizeOf23 O) O (BA 5 (Value.slice p5 sq9.length c5) CP O (AM O (AM O (AM O ?_)))))
      refine AM O (AH (Br (c:=((3*bi:Nat):Int)) O O (Cv (a:=3) (b:=bi) Z)) O (AH (AW (c:=((ai+(3*bi):Nat):Int)) O O (AU (a:=ai) (b:=3*bi) Z)) O (AH (v:=(pP b1 8)) (AA O underlying66 O sizeOf5 O) O (BA 7 (vK .u8 m.fst) Tc O (AH (Ay (c:=((m.fst:Nat):Int)) O underlying5 underlying3 (B4 Z)) O ?_)))))
      refine AH (AW (c:=(((ai+(3*bi))+m.fst:Nat):Int)) O O (AU (a:=ai+(3*bi)) (b:=m.fst) Z)) O (AH (Bs (c:=((((ai+(3*bi))+m.fst)%5:Nat):Int)) O O Z (Gh (a:=(ai+(3*bi))+m.fst) (b:=5))) O (AH (v:=(aG (Ai (ai,bi,((ai+(3*bi))+m.fst)%5)))) (A6 (zs:=Ai ((0,0,0):Nat×Nat×Nat)) (vs:=Ai (ai,bi,((ai+(3*bi))+m.fst)%5)) (pv:=[(0,(vN ai)),(1,(vN bi)),(2,(vN (((ai+(3*bi))+m.fst)%5)))]) zeroValue53 underlying53 sizeOf3 O (LH ai bi (((ai+(3*bi))+m.fst)%5))) O (AE.openV (V:=λb4=>(Value.slice (some ⟨b4,0,none⟩) 1 1)) (T:=53) (cs:=Ai (ai,bi,((ai+(3*bi))+m.fst)%5)) (AS O) (Av (z:=.agg (Ai ((0,0,0):Nat×Nat×Nat)).toArray) (cs:=Ai (ai,bi,((ai+(3*bi))+m.fst)%5)) (pv:=[(0,(aG (Ai (ai,bi,((ai+(3*bi))+m.fst)%5))))]) underlying23 sizeOf53 zeroValue53 (by decide) (by decide) O (Gu (ai,bi,((ai+(3*bi))+m.fst)%5))) O (AT O) λb4=>AE.appendAt 3 (j:=0) (cs2:=rowsL Ai (sq9++[(ai,bi,((ai+(3*bi))+m.fst)%5)])) bT O h5 (Ak Az _) O O O O O (by decide) (Hx Z) Z (by rw [BP];rfl) O λp_8 c_8 ho_8 hne_8=>AH (v:=(pP b3 2)) (AA O underlying137 O sizeOf23 O) O ?_)))
      refine Eg 6 (off:=2) (vs:=[(Value.slice p_8 (sq9.length+1) c_8)]) (cs':=[(Value.slice s.p2 s.pl.length s.c2),(Value.slice p3 ts.length c3),(Value.slice p_8 (sq9.length+1) c_8)]) (AS O) O sizeOf23 O (AE.nil (AC.subF (sL [1,2,3,4,12,13,15,14] O) (AC.in_normal (AC.then_ (AF.region ?_)))))
      refine AM O (AH (AW (c:=((bi+1:Nat):Int)) O O (AU (a:=bi) (b:=1) Z)) O (asg' O (AE.nil (AC.subF (sL [1,2,3,4,12,13,15,14] O) ?_))))
      rw [show sq9.length+1=(sq9++[(ai,bi,((ai+(3*bi))+m.fst)%5)]).length by simp]
      exact AC.round4 (bi+1) p_8 c_8 (sq9++[(ai,bi,((ai+(3*bi))+m.fst)%5)]) (⟨Z,Z,(by simpa using ho_8),by rw [List.length_append];simp only [List.length_singleton];omega,(by rw [hsq];exact We Z (by rw [<-hcw,hc9]))⟩) Z (sF O) (sl sr)
     ·replace hc9:=of_decide_eq_false hc9
      refine AF.skip (AC.in_normal (AC.then_ (AF.region (AM O (AH (AW (c:=((bi+1:Nat):Int)) O O (AU (a:=bi) (b:=1) Z)) O ?_)))))
      exact asg' O (AE.nil (AC.subF (sL [1,2,3,4,12,13,15,14] O) (AC.round4 (bi+1) p5 c5 sq9 (⟨Z,Z,h5,Z,(by rw [hsq];exact Ya Z (by rw [<-hcw];exact hc9))⟩) Z (sF O) sr)))
   ·replace hc6:=of_decide_eq_false hc6
    refine AF.exit (AC.then_exit (AC.round4_exit (AC.in_exit (AC.in_normal (AC.then_ ?_)))))
    exact AF.region (AM O (AH (AW (c:=((ai+1:Nat):Int)) O O (AU (a:=ai) (b:=1) Z)) O (asg' O (AE.nil (AC.subF (sL [1,2,3,4,12,13] O) (AC.round4 (ai+1) p5 c5 sq9 (⟨Z,h5,Z,by rw [hsq,show bi=s.pl.length by omega];rfl⟩) Z (sF O) sr))))))
  ·replace hc5:=of_decide_eq_false hc5
   refine AF.exit (AC.then_exit (AC.round4_exit (AC.in_exit (q2 (BD 5 ae O ?_)))))
   exact Eg 6 (off:=0) (vs:=[(Value.slice s.p2 s.pl.length s.c2),(Value.slice p3 ts.length c3),(Value.slice p4 ss.length c4)]) (cs':=[(Value.slice s.p2 s.pl.length s.c2),(Value.slice p3 ts.length c3),(Value.slice p4 ss.length c4)]) (AS O) O sizeOf137 O (AE.nil (AC.subF (sL [1,2,3,4,12] O) (AC.then_ (AF.ret (AI O (Ap (i:=6) (cs:=[(Value.slice s.p2 s.pl.length s.c2),(Value.slice p3 ts.length c3),(Value.slice p4 ss.length c4)]) O O isAgg137 sizeOf137 O) (λw hw=>(av hw (WM.mk s.pl ts ss hv hs.dst Z (by rw [hsd,show ai=s.pl.length by omega]) ⟨s.p2,s.c2,hs.o2.row⟩ ⟨p3,c3,h3.row⟩ ⟨p4,c4,h4.row⟩) h3 3 O (FR (S:=λ_=>False) hw 4 O hs.o2 (by rw [Ak EX];simp [WS.pts])) (FR (S:=λ_=>False) hw 3 O h3 (Ak Az _)) (FR (S:=λ_=>False) hw 2 O h4 (Ak Az _)) O)))))))
theorem S1 (m:MQ) (w:World) {S:Nat->Prop} (hm:Ro S w m):Calls prog 67 #[(aG (DZ m))] w (Aw (WM m) S w):=(LF m w hm).mono λe w1 h=>h.ofWMF
end
end Go.Proofs.YtpgncndhhhllfaaGreatDoor
