import Derived.Test.YtfbomiejpbchdaaGreatPart06
import Derived.Test.YtfbomiejpbchdaaGreatPart14
import Derived.Test.YtfbomiejpbchdaaGreatPart21
import Derived.Test.YtfbomiejpbchdaaGreatPart22
namespace Go.Proofs.YtfbomiejpbchdaaGreat
open Go Go.RowKit Go.Proofs.Tryz
set_option linter.unusedVariables false
set_option linter.unusedSimpArgs false
section
set_option maxRecDepth 100000
theorem Th:ElemT prog 186 111 2 16:=⟨underlying186,EU (by kernel_rfl)⟩
theorem NF:ElemT prog 28 76 3 24:=⟨underlying28,EU (by kernel_rfl)⟩
theorem Xv:ElemT prog 97 102 2 16:=⟨underlying97,EU (by kernel_rfl)⟩
theorem U0 (t:Nat×Nat×Nat) (x:Nat) (w:World)  :Calls prog 114 #[(aG (Af t)),(vN x)] w (Aq w (Value.bool (GN t x))):=by
 refine Ae (args:=[(aG (Af t)),(vN x)]) func114 O O (Ac O) (AF.subF (sL [0,1] O) (q4 (Bg (cs:=Af t) O λb1=>AL O (q3 (sL [1,2,4] O) ?_))))
 refine AH (v:=(pP b1 0)) (AC (j:=0) O O underlying76 sizeOf3 O (by decide) O) O (BJ 0 (vN t.1) Bn O (AS O (AH (BY (c:=(decide (t.1=x))) O O (Oa (a:=t.1) (b:=x))) O (AS O ?_))))
 refine AE.mid (FM:=[(1,(vN x)),(2,(pP b1 0)),(4,(Value.bool false)),(5,(pP b1 0)),(6,(vN t.1)),(7,(vN x)),(8,(Value.bool (decide (t.1=x)))),(9,(Value.bool (decide (t.1=x)))),(14,(Value.bool ((decide (t.1=x))||(decide (t.2.1=x)))))]) (LM:=[Ag b1 76 (Af t)]) 5 ?_ ?_
 ·rcases Bool.eq_false_or_eq_true (decide (t.1=x)) with hg1|hg1
  ·skip
   refine AE.retell (k:=9) (u:=Value.bool true) O (by rw [hg1]) ?_
   have hg1':=hg1
   replace hg1':=of_decide_eq_true hg1'
   exact AE.skip (AN O) O (Ac O) (AE.skip (AN O) O (Ac O) (AE.skip (AN O) O (Ac O) (AE.skip (AN O) O (Ac O) (AH (v:=(Value.bool true)) (Aj O O) O (AE.nil (AD.mid (sS O (sS O (sS O (sS O (sS O (sS O (sS O (sS (by first|rfl|(rw [hg1];rfl)|rw [hg1]) (sS (by first|rfl|(rw [hg1];rfl)|rw [hg1]) (sN)))))))))) (List.Sublist.refl _)))))))
  ·skip
   refine AE.retell (k:=9) (u:=Value.bool false) O (by rw [hg1]) ?_
   have hg1':=hg1
   replace hg1':=of_decide_eq_false hg1'
   exact AE.step (v:=(pP b1 1)) (AB O) (AC (j:=1) O O underlying76 sizeOf3 O (by decide) O) O (Ac O) (AE.step (v:=(vN t.2.1)) (AB O) (AI (i:=0) (v:=(vN t.2.1)) O O Bn.a O) O (Ac O) (AE.step (v:=(vN x)) (AB O) (BK O) O (Ac O) (AE.step (v:=(Value.bool (decide (t.2.1=x)))) (AB O) (BY (c:=(decide (t.2.1=x))) O O (Oa (a:=t.2.1) (b:=x))) O (Ac O) (AH (v:=(Value.bool (decide (t.2.1=x)))) (AV O O) O (AE.nil (AD.mid (sS O (sS O (sS O (sS O (sS O (sS O (sS O (sS (by first|rfl|(rw [hg1];rfl)|rw [hg1]) (sS (by first|rfl|(rw [hg1];rfl)|rw [hg1]) (sN)))))))))) (List.Sublist.refl _)))))))
 refine AS O ?_
 refine AE.mid (FM:=[(1,(vN x)),(2,(pP b1 0)),(4,(Value.bool false)),(5,(pP b1 0)),(6,(vN t.1)),(7,(vN x)),(8,(Value.bool (decide (t.1=x)))),(9,(Value.bool (decide (t.1=x)))),(14,(Value.bool ((decide (t.1=x))||(decide (t.2.1=x))))),(15,(Value.bool ((decide (t.1=x))||(decide (t.2.1=x))))),(20,(Value.bool (((decide (t.1=x))||(decide (t.2.1=x)))||(decide (t.2.2=x)))))]) (LM:=[Ag b1 76 (Af t)]) 5 ?_ ?_
 ·rcases Bool.eq_false_or_eq_true ((decide (t.1=x))||(decide (t.2.1=x))) with hg2|hg2
  ·skip
   refine AE.retell (k:=15) (u:=Value.bool true) O (by rw [hg2]) ?_
   have hg2':=hg2
   simp only [Bool.and_eq_true,Bool.or_eq_true,Bool.and_eq_false_iff,Bool.or_eq_false_iff,Bool.not_eq_true',Bool.not_eq_false',decide_eq_true_eq,decide_eq_false_iff_not] at hg2'
   exact AE.skip (AN O) O (Ac O) (AE.skip (AN O) O (Ac O) (AE.skip (AN O) O (Ac O) (AE.skip (AN O) O (Ac O) (AH (v:=(Value.bool true)) (Aj O O) O (AE.nil (AD.mid (sS O (sS O (sS O (sS O (sS O (sS O (sS O (sS O (sS O (sS (by first|rfl|(rw [hg2];rfl)|rw [hg2]) (sS (by first|rfl|(rw [hg2];rfl)|rw [hg2]) (sN)))))))))))) (List.Sublist.refl _)))))))
  ·skip
   refine AE.retell (k:=15) (u:=Value.bool false) O (by rw [hg2]) ?_
   have hg2':=hg2
   simp only [Bool.and_eq_true,Bool.or_eq_true,Bool.and_eq_false_iff,Bool.or_eq_false_iff,Bool.not_eq_true',Bool.not_eq_false',decide_eq_true_eq,decide_eq_false_iff_not] at hg2'
   exact AE.step (v:=(pP b1 2)) (AB O) (AC (j:=2) O O underlying76 sizeOf3 O (by decide) O) O (Ac O) (AE.step (v:=(vN t.2.2)) (AB O) (AI (i:=0) (v:=(vN t.2.2)) O O Bn.a O) O (Ac O) (AE.step (v:=(vN x)) (AB O) (BK O) O (Ac O) (AE.step (v:=(Value.bool (decide (t.2.2=x)))) (AB O) (BY (c:=(decide (t.2.2=x))) O O (Oa (a:=t.2.2) (b:=x))) O (Ac O) (AH (v:=(Value.bool (decide (t.2.2=x)))) (AV O O) O (AE.nil (AD.mid (sS O (sS O (sS O (sS O (sS O (sS O (sS O (sS O (sS O (sS (by first|rfl|(rw [hg2];rfl)|rw [hg2]) (sS (by first|rfl|(rw [hg2];rfl)|rw [hg2]) (sN)))))))))))) (List.Sublist.refl _)))))))
 exact AL O (AE.nil (AD.subF (sL [4] O) (AD.then_ (AF.ret (AR O (Ai (v:=(Value.bool (((decide (t.1=x))||(decide (t.2.1=x)))||(decide (t.2.2=x))))) O) (λw hw=>⟨by first|rfl|simp [GN,Bool.or_assoc],hw.out⟩))))))
theorem Ed (x0:P2):Instr.fill (λi=>some (i*2,2)) ((Array.range (1*2)).map ((Value.agg (Ay ((0,0):P2)).toArray).cells[·%(Value.agg (Ay ((0,0):P2)).toArray).cells.size]!)) [(0,.agg (Ay x0).toArray)]=some (Ay x0).toArray:=by kernel_rfl
theorem EY (x0:Int×Int):Instr.fill (λi=>some (i*2,2)) ((Array.range (1*2)).map ((Value.agg (CU ((0,0):Int×Int)).toArray).cells[·%(Value.agg (CU ((0,0):Int×Int)).toArray).cells.size]!)) [(0,.agg (CU x0).toArray)]=some (CU x0).toArray:=by kernel_rfl
theorem GU (x0:Nat×Nat×Nat):Instr.fill (λi=>some (i*3,3)) ((Array.range (1*3)).map ((Value.agg (Af ((0,0,0):Nat×Nat×Nat)).toArray).cells[·%(Value.agg (Af ((0,0,0):Nat×Nat×Nat)).toArray).cells.size]!)) [(0,.agg (Af x0).toArray)]=some (Af x0).toArray:=by kernel_rfl
theorem Ko (x0 x1 x2:Nat):Instr.fill (λi=>some (i*1,1)) (Af ((0,0,0):Nat×Nat×Nat)).toArray [(0,vN x0),(1,vN x1),(2,vN x2)]=some (Af (x0,x1,x2)).toArray:=by kernel_rfl
set_option maxHeartbeats 2000000 in
theorem O7 (m:MQ) (w:World) {S:Nat->Prop} (hm:Ro S w m):Calls prog 44 #[(aG (Er m))] w (BV (YF m) (λ_=>False) w):=by
 have hf:=m.hfst
 have hf3:m.fst/3<=85:=by omega
 have lm:=DU (W:=w) hm
 refine A6 (args:=[(aG (Er m))]) (L:=[AY m.p (DA m.cs)]) func44 O O (Ac O) (DV hm BN) (AF.subF (sL [0] O) (q4 (Bg (cs:=Er m) O λb1=>al YJ O λb2=>q3 (sL [1,2] O) ?_)))
 refine al YJ O λb3=>AE.nilRow 102 2 (AE.nilRow 76 3 (AE.nilRow 76 3 (AE.nil (q2 ?_))))
 refine AL O (AE.nilRow 111 2 (AE.nil (q2 (BA 6 NQ O (cX (S:=S) (cs:=rowsL BE (BD m)) (k:=(BD m).length) (args:=[(aG (Er m))]) call112 (λw hw=>RN m w (Cq hw 7 O lm)) O O O λgc lgc=>?_)))))
 refine AL O (q6 (sL [1,2,3,4,5] O) (q4 (AL O (AE.nil (AD.then_ ?_)))))
 refine AF.block ?_
 refine AF.lp5 (tg λ(i:Nat) (s:WS) (p3:Option Addr) (c3:Nat) (ts:List (Nat×Nat×Nat))=>i<=(BD m).length/\WS.Ok s/\OwnOk p3 ts.length c3/\Mj m i (WS.pl s) ts) (tg λ(i:Nat) (s:WS) (p3:Option Addr) (c3:Nat) (ts:List (Nat×Nat×Nat))=>[(1,(pP b1 0)),(2,(pP b2 0)),(3,(pP b3 0)),(5,(Value.slice gc.p ((BD m).length) gc.c)),(6,(vN i)),(4,(Value.slice s.p1 s.pl.length s.c1))]) (tg λ(i:Nat) (s:WS) (p3:Option Addr) (c3:Nat) (ts:List (Nat×Nat×Nat))=>[AY gc.p (rowsL BE (BD m)),rowW s.p1 111 2 s.pl.length s.c1 (rowsL Ay s.pl),rowW none 76 3 0 0 (rowsL Af ([])),rowW p3 76 3 ts.length c3 (rowsL Af ts),rowW s.p2 102 2 s.pl.length s.c2 (rowsL CU (s.pts m)),Ag b3 99 ([(Value.slice s.p2 s.pl.length s.c2),(Value.slice p3 ts.length c3),(Value.slice none 0 0)]),Ag b2 99 ([(Value.slice none 0 0),(Value.slice none 0 0),(Value.slice none 0 0)]),Ag b1 26 (Er m),AY m.p (DA m.cs)]) (tg λ(i:Nat) (s:WS) (p3:Option Addr) (c3:Nat) (ts:List (Nat×Nat×Nat))=>(BD m).length-i) 0 (WS.mk [] none 0 none 0) none 0 ([]:List (Nat×Nat×Nat)) (⟨Nat.zero_le _,⟨OwnOk.none,OwnOk.none,(λp hp=>by cases hp),VS⟩,OwnOk.none,Yr m⟩) (sF O) sr (λi s p3 c3 ts hJ=>?_)
 obtain ⟨hi,hs,h3,hv⟩:=hJ
 have hpl:=hv.pll
 have htl:=hv.tl
 have hcl:=Hp m
 refine AF.seq (q4 (AS O (AS O (AH (v:=(vN ((BD m).length))) (AG O underlying187) O (AH (Ak (c:=(decide (i<((BD m).length)))) O O (C1 (a:=i) (b:=(BD m).length))) O ?_)))))
 refine AE.nil (AD.subF (sL [1,2,3,5,6,4,21] O) (AD.then_ ?_))
 refine AF.cond O (λhc0=>?_) (λhc0=>?_)
 ·replace hc0:=of_decide_eq_true hc0
  refine AF.skip (q1 (AF.block (q4 (al J3 O λb4=>AE.nil ?_))))
  refine q1 (q4 (AL O (AE.nil (AD.then_ (AF.block ?_)))))
  refine AF.unroll 4 (FO.step (AF.seq (q4 (AS O (AH (Ak (c:=true) O O (by decide)) O ?_)))))
  refine AE.nil (AD.subF (sL [1,2,3,5,6,4,7,8,25] O) (AD.then_ (AF.cond_true O (AF.skip (q1 ?_)))))
  refine AF.block (AF.seq (Cm [(0,true),(1,true),(2,true),(3,true),(4,true),(5,true),(6,true),(7,true),(8,true),(9,true),(10,true),(11,true),(12,true),(13,true),(14,true),(15,true),(16,true),(17,true),(18,false),(19,false)] sr (Bc O (Bc O (Bc O ?_)))))
  refine Au (v:=(pP b1 8)) O (AA O underlying26 O sizeOf5 O) (Be 8 (vK .u8 m.fst) Sy O (Au O (A8 (c:=((m.fst:Nat):Int)) O underlying5 underlying3 (CZ Z)) (Au O (AW (c:=((0+m.fst:Nat):Int)) O O (AX (a:=0) (b:=m.fst) Z)) (Bc O (Au (v:=(pP b1 8)) O (AA O underlying26 O sizeOf5 O) ?_)))))
  refine Be 8 (vK .u8 m.fst) Sy O (Au O (Gr (c:=((m.fst/3:Nat):Int)) O O Z (MY (a:=m.fst) (b:=3) Z)) (Au O (A8 (c:=((m.fst/3:Nat):Int)) O underlying5 underlying3 (CZ Z)) ?_))
  have hmul:i*(m.fst/3)<=36*85:=Nat.mul_le_mul Z hf3
  refine Au O (B3 (c:=((i*(m.fst/3):Nat):Int)) O O (DC (a:=i) (b:=m.fst/3) Z)) (Au O (AW (c:=(((0+m.fst)+(i*(m.fst/3)):Nat):Int)) O O (AX (a:=0+m.fst) (b:=i*(m.fst/3)) Z)) ?_)
  obtain ⟨r9,hr9⟩:∃r,r=Ij m i 0:=⟨_,rfl⟩
  have hr3:r9<3:=by rw [hr9];exact Nat.mod_lt _ (by decide)
  refine Au O (By (c:=((r9:Nat):Int)) O O (by decide) (by rw [hr9];exact Gd (a:=0+m.fst+i*(m.fst/3)) (b:=3))) (Au (v:=(pP (pB gc.p) (pO gc.p+i*6))) O (AQ (j:=i) O O gc.ok underlying187 sizeOf189 O Z) (Au (v:=(pP (pB gc.p) (pO gc.p+(i*6+r9*2)))) O (AC (j:=r9) O O underlying189 sizeOf111 O hr3 (Nat.add_assoc _ _ _)) (Au (v:=(aG (Ay (Ax m i 0)))) O (AO (vs:=Ay (Ax m i 0)) (i:=1) O O (BI.ne gc.ok Z) Bt (Ib _ i r9 Z hr3 _ O _ (by rw [hr9];rfl)) O) (AT.imp O (al I8 O λb5=>?_)))))
  refine AT.back (sl sr) (AT.imp O (Aw O sizeOf111 O (AT.back (sl sr) (AT.nil (AD.subF (sL [1,2,3,5,6,4,7,8,9] O) ?_)))))
  refine q2 (AL O (AE.nil (q1 (q4 (AL O ?_)))))
  refine AE.nil (AD.then_ (AF.block ?_))
  refine AF.lp2 (tg λ(k:Nat) (a:Int)=>k<=s.pl.length/\((a = -1/\∀j,j<k->s.pl.getD j (0,0)≠Ax m i 0)\/0<=a/\a<(k:Int)/\s.pl.getD (Int.toNat a) (0,0)=Ax m i 0)) (tg λ(k:Nat) (a:Int)=>[(1,(pP b1 0)),(2,(pP b2 0)),(3,(pP b3 0)),(5,(Value.slice gc.p ((BD m).length) gc.c)),(6,(vN i)),(4,(Value.slice s.p1 s.pl.length s.c1)),(7,(pP b4 0)),(8,(vI 0)),(9,(pP b5 0)),(11,(vN k)),(10,(vI a))]) (tg λ(k:Nat) (a:Int)=>[Ag b5 111 (Ay (Ax m i 0)),Ag b4 76 (Af ((0,0,0):Nat×Nat×Nat)),AY gc.p (rowsL BE (BD m)),rowW s.p1 111 2 s.pl.length s.c1 (rowsL Ay s.pl),rowW none 76 3 0 0 (rowsL Af ([])),rowW p3 76 3 ts.length c3 (rowsL Af ts),rowW s.p2 102 2 s.pl.length s.c2 (rowsL CU (s.pts m)),Ag b3 99 ([(Value.slice s.p2 s.pl.length s.c2),(Value.slice p3 ts.length c3),(Value.slice none 0 0)]),Ag b2 99 ([(Value.slice none 0 0),(Value.slice none 0 0),(Value.slice none 0 0)]),Ag b1 26 (Er m),AY m.p (DA m.cs)]) (tg λ(k:Nat) (a:Int)=>s.pl.length-k) 0 (-1:Int) (⟨Nat.zero_le _,.inl ⟨rfl,λj hj=>absurd hj (Nat.not_lt_zero _)⟩⟩) (sF O) sr (λk a hJ=>?_)
  obtain ⟨hk,ha⟩:=hJ
  refine AF.seq (q4 (AS O (AS O (AH (v:=(vN s.pl.length)) (AG O underlying186) O (AH (Ak (c:=(decide (k<s.pl.length))) O O (C1 (a:=k) (b:=s.pl.length))) O ?_)))))
  refine AE.nil (AD.subF (sL [1,2,3,5,6,4,7,8,9,11,10,49] O) (AD.then_ ?_))
  refine AF.cond O (λhc2=>?_) (λhc2=>?_)
  ·replace hc2:=of_decide_eq_true hc2
   refine AF.skip (q1 (AF.block (AF.seq (Cm [(0,true),(1,true),(2,true),(3,true),(4,true),(5,true)] sr (Bc O ?_)))))
   refine Bc O (Au (v:=(pP (pB s.p1) (pO s.p1+k*2))) O (AQ (j:=k) O O hs.o1.row underlying186 sizeOf111 O Z) (Au (v:=(aG (Ay (s.pl.getD k ((0,0):P2))))) O (CC (vs:=Ay (s.pl.getD k ((0,0):P2))) (i:=3) O O hs.o1 (Aa C4 _) (BI.ne hs.o1.row Z) Bt (An C4 _ _ _ Z) (C4 _)) (En 0 Bt O (Au O (Bd (c:=decide (s.pl.getD k ((0,0):P2)=(Ax m i 0))) O O eqGuardType111 (M4 9998 (s.pl.getD k ((0,0):P2)) (Ax m i 0))) (AT.nil ?_)))))
   refine AD.subF (sL [1,2,3,5,6,4,7,8,9,11,10,57] O) (AD.then_ ?_)
   refine AF.cond O (λhc3=>?_) (λhc3=>?_)
   ·replace hc3:=of_decide_eq_true hc3
    refine AF.region (AS O (AL O (AE.nil (AD.subF (sL [1,2,3,5,6,4,7,8,9,11,10] O) (AD.in_normal ?_)))))
    refine AD.then_ (AF.region (AS O (AH (AW (c:=((k+1:Nat):Int)) O O (AX (a:=k) (b:=1) Z)) O (AL O (AE.nil ?_)))))
    exact AD.subF (sL [1,2,3,5,6,4,7,8,9,11,10] O) (AD.round2 (k+1) (k:Int) (⟨Z,.inr ⟨Z,Z,by simpa using hc3⟩⟩) Z (sF O) sr)
   ·replace hc3:=of_decide_eq_false hc3
    refine AF.skip (AD.in_normal (AD.then_ (AF.region (AS O (AH (AW (c:=((k+1:Nat):Int)) O O (AX (a:=k) (b:=1) Z)) O ?_)))))
    exact AL O (AE.nil (AD.subF (sL [1,2,3,5,6,4,7,8,9,11,10] O) (AD.round2 (k+1) a (⟨Z,ha.elim (λh=>.inl ⟨h.1,λj hj=>by rcases Nat.lt_or_ge j k with h1|h1;exact h.2 j h1;(obtain rfl:j=k:=by omega);simpa using hc3⟩) (λh=>.inr ⟨h.1,Z,h.2.2⟩)⟩) Z (sF O) sr)))
  ·replace hc2:=of_decide_eq_false hc2
   refine AF.exit (AD.then_exit (AD.round2_exit (AD.in_exit (q1 (q4 ?_)))))
   refine AS O (AH (Ak (c:=(decide (a<(0:Int)))) O O O) O (AE.nil (AD.subF (sL [1,2,3,5,6,4,7,8,9,11,10,60] O) (AD.then_ ?_))))
   refine AF.jn2 (tg λ(s1:WS) (n1:Nat)=>WS.Ok s1/\Fv s.pl (WS.pl s1)/\(WS.pl s1).length<=s.pl.length+1/\n1<(WS.pl s1).length/\(WS.pl s1).getD n1 (0,0)=Ax m i 0/\∀a,a<(WS.pl s1).length->a<s.pl.length\/a=n1) (tg λ(s1:WS) (n1:Nat)=>[(1,(pP b1 0)),(2,(pP b2 0)),(3,(pP b3 0)),(5,(Value.slice gc.p ((BD m).length) gc.c)),(6,(vN i)),(7,(pP b4 0)),(8,(vI 0)),(10,(vN n1)),(4,(Value.slice s1.p1 s1.pl.length s1.c1))]) (tg λ(s1:WS) (n1:Nat)=>[Ag b5 111 (Ay (Ax m i 0)),Ag b4 76 (Af ((0,0,0):Nat×Nat×Nat)),AY gc.p (rowsL BE (BD m)),rowW s1.p1 111 2 s1.pl.length s1.c1 (rowsL Ay s1.pl),rowW none 76 3 0 0 (rowsL Af ([])),rowW p3 76 3 ts.length c3 (rowsL Af ts),rowW s1.p2 102 2 s1.pl.length s1.c2 (rowsL CU (s1.pts m)),Ag b3 99 ([(Value.slice s1.p2 s1.pl.length s1.c2),(Value.slice p3 ts.length c3),(Value.slice none 0 0)]),Ag b2 99 ([(Value.slice none 0 0),(Value.slice none 0 0),(Value.slice none 0 0)]),Ag b1 26 (Er m),AY m.p (DA m.cs)]) ?_ ?_
   ·skip
    refine AF.cond O (λhc4=>?_) (λhc4=>?_)
    ·replace hc4:=of_decide_eq_true hc4
     refine q4 (AS O (AH (v:=(vN s.pl.length)) (AG O underlying186) O (AL O (q3 (sL [1,2,3,5,6,4,7,8,9,11,10] O) (AS O ?_)))))
     refine BA 0 Bt O (AE.openV (V:=λb6=>(Value.slice (some ⟨b6,0,none⟩) 1 1)) (T:=111) (cs:=Ay (Ax m i 0)) (AK O) (Ar (z:=.agg (Ay ((0,0):P2)).toArray) (cs:=Ay (Ax m i 0)) (pv:=[(0,(aG (Ay (Ax m i 0))))]) underlying186 sizeOf111 zeroValue111 (by decide) (by decide) O (Ed (Ax m i 0))) O (Ac O) λb6=>AE.appendAt 4 (j:=0) (cs2:=rowsL Ay (s.pl++[(Ax m i 0)])) Th O hs.o1 (Aa C4 _) O O O O O (by decide) (Ga Z) Z (by rw [BO];rfl) O λp_1 c_1 ho_1 hne_1=>AL O (AE.nil (AD.subF (sL [1,2,3,5,6,4,7,8,9,11,10] O) ?_)))
     refine AD.then_ (rC [(0,true),(1,true),(2,true),(3,true),(4,false),(5,false),(6,false),(7,true)] 8 [] (sk (sk (sk (sk (sk (sk (sk (sl sr)))))))) (sk (sk (sk (sk (sk (sk (sk (sl sr)))))))) (by kernel_rfl) (λ_ _ d _ _ h=>by cases d<;>exact h) (vE (v:=(pP b3 0)) O (AA O underlying99 O sizeOf97 O) O (vE O (AI (i:=7) (v:=(Value.slice s.p2 s.pl.length s.c2)) O O RB.a O) O (vE (v:=(aG (Er m))) O (A7 (i:=9) (vs:=Er m) O O NQ.a NQ.s O O) O (vE (v:=(aG (Ay (Ax m i 0)))) O (A7 (i:=1) (vs:=Ay (Ax m i 0)) O O Bt.a Bt.s O O) O ?_)))))
     refine Bu.imp O (Ee call113 (λw hw=>Ic m (Ax m i 0) (EB Z) w (Cq hw 11 O lm)) O (Bu.back (sk (sk (sk (sk (sk (sk (sk (sl sr)))))))) (Bu.imp O (AE.openV (V:=λb7=>(Value.slice (some ⟨b7,0,none⟩) 1 1)) (T:=102) (cs:=CU ((mapM m).at_ (Ax m i 0))) (AK O) (Ar (z:=.agg (CU ((0,0):Int×Int)).toArray) (cs:=CU ((mapM m).at_ (Ax m i 0))) (pv:=[(0,(aG (CU ((mapM m).at_ (Ax m i 0)))))]) underlying97 sizeOf102 zeroValue102 (by decide) (by decide) O (EY ((mapM m).at_ (Ax m i 0)))) O (Ac O) λb7=>Bu.back (sl (sk (sk (sk (sk (sk (sk (sk (sl sr))))))))) ?_))))
     refine Bu.imp O (AE.appendAt 8 (j:=0) (cs2:=rowsL CU ((s.pts m)++[((mapM m).at_ (Ax m i 0))])) Xv O hs.o2 (by rw [Aa Fo];simp [WS.pts]) O O O O O (by decide) (Ga Z) Z (by rw [BO];rfl) O λp_2 c_2 ho_2 hne_2=>Bu.back (sl (sk (sk (sk (sk (sk (sk (sk (sl sr))))))))) (vE (v:=(pP b3 0)) O (AA O underlying99 O sizeOf97 O) O (Bu.cut O (EW 9 (off:=0) (vs:=[(Value.slice p_2 (s.pl.length+1) c_2)]) (cs':=[(Value.slice p_2 (s.pl.length+1) c_2),(Value.slice p3 ts.length c3),(Value.slice none 0 0)]) (AK O) O sizeOf97 O ?_))))
     refine AT.back (sl (sk (sk (sk (sk (sk (sk (sk (sl (sl sr)))))))))) (AT.nil (AD.subF (sL [1,2,3,5,6,4,7,8,9,11,10] O) ?_))
     rw [show s.pl.length+1=(s.pl++[Ax m i 0]).length by simp]
     rw [show s.pts m++[(mapM m).at_ (Ax m i 0)]=WS.pts (WS.mk (s.pl++[Ax m i 0]) p_1 c_1 p_2 c_2) m by simp [WS.pts]]
     exact AD.join2 (WS.mk (s.pl++[Ax m i 0]) p_1 c_1 p_2 c_2) s.pl.length (⟨⟨(by simpa using ho_1),(by simpa using ho_2),λp hp=>(List.mem_append.1 hp).elim (hs.small p) (λe=>by rw [List.mem_singleton.1 e];exact EB Z),Kj hs.dst (λj hj=>(ha.elim id (λh=>absurd h.1 Z)).2 j Z)⟩,Fv.snoc _ _,by simp,by simp,DM _ _,λa ha=>by simp only [List.length_append,List.length_singleton] at ha;omega⟩) (sF O) (sl (sl sr))
    ·replace hc4:=of_decide_eq_false hc4
     refine AF.retell (k:=10) (u:=(vN a.toNat)) O (by show Value.int _ _=Value.int _ _;congr 1;omega) (AF.skip ?_)
     obtain ⟨ha1,ha2,ha3⟩:=ha.resolve_left (λh=>by have:=h.1;omega)
     exact AD.join2 s a.toNat (⟨hs,Fv.refl _,Z,Z,ha3,λa ha=>.inl ha⟩) (sF O) sr
   ·intro s1 n1 hJ
    obtain ⟨hs1,hm1,hl1,hn1,hg1,hu1⟩:=hJ
    refine AD.then_ (AF.region (AS O (AS O (AH (v:=(pP b4 0)) (AC (j:=0) O O underlying76 sizeOf3 O (by decide) O) O (EW 1 (off:=0) (vs:=[(vN n1)]) (cs':=[(vN n1),(vI 0),(vI 0)]) (AK O) O sizeOf3 O ?_)))))
    refine AE.nil (AD.subF (sL [1,2,3,5,6,7,8,10,4] O) (AD.in_normal (AD.then_ (AF.region (AS O ?_)))))
    refine AH (AW (c:=(1:Int)) O O (by decide)) O (AL O (AE.nil (AD.subF (sL [1,2,3,5,6,7,8,10,4] O) (AD.again (FO.step ?_)))))
    refine AF.seq (q4 (AS O (AH (Ak (c:=true) O O (by decide)) O (AE.nil (AD.subF (sL [1,2,3,5,6,7,8,10,4,25] O) ?_)))))
    refine AD.then_ (AF.cond_true O (AF.skip (q1 (AF.block (AF.seq ?_)))))
    refine Cm [(0,true),(1,true),(2,true),(3,true),(4,true),(5,true),(6,true),(7,true),(8,true),(9,true),(10,true),(11,true),(12,true),(13,true),(14,true),(15,true),(16,true),(17,true),(18,false),(19,false)] sr (Bc O (Bc O (Bc O (Au (v:=(pP b1 8)) O (AA O underlying26 O sizeOf5 O) (Be 9 (vK .u8 m.fst) Sy O ?_)))))
    refine Au O (A8 (c:=((m.fst:Nat):Int)) O underlying5 underlying3 (CZ Z)) (Au O (AW (c:=((1+m.fst:Nat):Int)) O O (AX (a:=1) (b:=m.fst) Z)) (Bc O (Au (v:=(pP b1 8)) O (AA O underlying26 O sizeOf5 O) (Be 9 (vK .u8 m.fst) Sy O (Au O (Gr (c:=((m.fst/3:Nat):Int)) O O Z (MY (a:=m.fst) (b:=3) Z)) ?_)))))
    refine Au O (A8 (c:=((m.fst/3:Nat):Int)) O underlying5 underlying3 (CZ Z)) ?_
    have hmul:i*(m.fst/3)<=36*85:=Nat.mul_le_mul Z hf3
    refine Au O (B3 (c:=((i*(m.fst/3):Nat):Int)) O O (DC (a:=i) (b:=m.fst/3) Z)) (Au O (AW (c:=(((1+m.fst)+(i*(m.fst/3)):Nat):Int)) O O (AX (a:=1+m.fst) (b:=i*(m.fst/3)) Z)) ?_)
    obtain ⟨r9,hr9⟩:∃r,r=Ij m i 1:=⟨_,rfl⟩
    have hr3:r9<3:=by rw [hr9];exact Nat.mod_lt _ (by decide)
    refine Au O (By (c:=((r9:Nat):Int)) O O (by decide) (by rw [hr9];exact Gd (a:=1+m.fst+i*(m.fst/3)) (b:=3))) (Au (v:=(pP (pB gc.p) (pO gc.p+i*6))) O (AQ (j:=i) O O gc.ok underlying187 sizeOf189 O Z) (Au (v:=(pP (pB gc.p) (pO gc.p+(i*6+r9*2)))) O (AC (j:=r9) O O underlying189 sizeOf111 O hr3 (Nat.add_assoc _ _ _)) (Au (v:=(aG (Ay (Ax m i 1)))) O (AO (vs:=Ay (Ax m i 1)) (i:=2) O O (BI.ne gc.ok Z) Bt (Ib _ i r9 Z hr3 _ O _ (by rw [hr9];rfl)) O) (AT.imp O (al I8 O λb6=>?_)))))
    refine AT.back (sl sr) (AT.imp O (Aw O sizeOf111 O (AT.back (sl sr) (AT.nil (AD.subF (sL [1,2,3,5,6,7,8,10,4,9] O) ?_)))))
    refine q2 (AL O (AE.nil (q1 (q4 (AL O ?_)))))
    refine AE.nil (AD.then_ (AF.block ?_))
    refine AF.lp2 (tg λ(k:Nat) (a:Int)=>k<=s1.pl.length/\((a = -1/\∀j,j<k->s1.pl.getD j (0,0)≠Ax m i 1)\/0<=a/\a<(k:Int)/\s1.pl.getD (Int.toNat a) (0,0)=Ax m i 1)) (tg λ(k:Nat) (a:Int)=>[(1,(pP b1 0)),(2,(pP b2 0)),(3,(pP b3 0)),(5,(Value.slice gc.p ((BD m).length) gc.c)),(6,(vN i)),(7,(pP b4 0)),(8,(vI 1)),(4,(Value.slice s1.p1 s1.pl.length s1.c1)),(9,(pP b6 0)),(11,(vN k)),(10,(vI a))]) (tg λ(k:Nat) (a:Int)=>[Ag b6 111 (Ay (Ax m i 1)),Ag b5 111 (Ay (Ax m i 0)),Ag b4 76 ([(vN n1),(vI 0),(vI 0)]),AY gc.p (rowsL BE (BD m)),rowW s1.p1 111 2 s1.pl.length s1.c1 (rowsL Ay s1.pl),rowW none 76 3 0 0 (rowsL Af ([])),rowW p3 76 3 ts.length c3 (rowsL Af ts),rowW s1.p2 102 2 s1.pl.length s1.c2 (rowsL CU (s1.pts m)),Ag b3 99 ([(Value.slice s1.p2 s1.pl.length s1.c2),(Value.slice p3 ts.length c3),(Value.slice none 0 0)]),Ag b2 99 ([(Value.slice none 0 0),(Value.slice none 0 0),(Value.slice none 0 0)]),Ag b1 26 (Er m),AY m.p (DA m.cs)]) (tg λ(k:Nat) (a:Int)=>s1.pl.length-k) 0 (-1:Int) (⟨Nat.zero_le _,.inl ⟨rfl,λj hj=>absurd hj (Nat.not_lt_zero _)⟩⟩) (sF O) sr (λk a hJ=>?_)
    obtain ⟨hk,ha⟩:=hJ
    refine AF.seq (q4 (AS O (AS O (AH (v:=(vN s1.pl.length)) (AG O underlying186) O (AH (Ak (c:=(decide (k<s1.pl.length))) O O (C1 (a:=k) (b:=s1.pl.length))) O ?_)))))
    refine AE.nil (AD.subF (sL [1,2,3,5,6,7,8,4,9,11,10,49] O) (AD.then_ ?_))
    refine AF.cond O (λhc2=>?_) (λhc2=>?_)
    ·replace hc2:=of_decide_eq_true hc2
     refine AF.skip (q1 (AF.block (AF.seq (Cm [(0,true),(1,true),(2,true),(3,true),(4,true),(5,true)] sr (Bc O ?_)))))
     refine Bc O (Au (v:=(pP (pB s1.p1) (pO s1.p1+k*2))) O (AQ (j:=k) O O hs1.o1.row underlying186 sizeOf111 O Z) (Au (v:=(aG (Ay (s1.pl.getD k ((0,0):P2))))) O (CC (vs:=Ay (s1.pl.getD k ((0,0):P2))) (i:=4) O O hs1.o1 (Aa C4 _) (BI.ne hs1.o1.row Z) Bt (An C4 _ _ _ Z) (C4 _)) (En 0 Bt O (Au O (Bd (c:=decide (s1.pl.getD k ((0,0):P2)=(Ax m i 1))) O O eqGuardType111 (M4 9998 (s1.pl.getD k ((0,0):P2)) (Ax m i 1))) (AT.nil ?_)))))
     refine AD.subF (sL [1,2,3,5,6,7,8,4,9,11,10,57] O) (AD.then_ ?_)
     refine AF.cond O (λhc3=>?_) (λhc3=>?_)
     ·replace hc3:=of_decide_eq_true hc3
      refine AF.region (AS O (AL O (AE.nil (AD.subF (sL [1,2,3,5,6,7,8,4,9,11,10] O) (AD.in_normal ?_)))))
      refine AD.then_ (AF.region (AS O (AH (AW (c:=((k+1:Nat):Int)) O O (AX (a:=k) (b:=1) Z)) O (AL O (AE.nil ?_)))))
      exact AD.subF (sL [1,2,3,5,6,7,8,4,9,11,10] O) (AD.round2 (k+1) (k:Int) (⟨Z,.inr ⟨Z,Z,by simpa using hc3⟩⟩) Z (sF O) sr)
     ·replace hc3:=of_decide_eq_false hc3
      refine AF.skip (AD.in_normal (AD.then_ (AF.region (AS O (AH (AW (c:=((k+1:Nat):Int)) O O (AX (a:=k) (b:=1) Z)) O ?_)))))
      exact AL O (AE.nil (AD.subF (sL [1,2,3,5,6,7,8,4,9,11,10] O) (AD.round2 (k+1) a (⟨Z,ha.elim (λh=>.inl ⟨h.1,λj hj=>by rcases Nat.lt_or_ge j k with h1|h1;exact h.2 j h1;(obtain rfl:j=k:=by omega);simpa using hc3⟩) (λh=>.inr ⟨h.1,Z,h.2.2⟩)⟩) Z (sF O) sr)))
    ·replace hc2:=of_decide_eq_false hc2
     refine AF.exit (AD.then_exit (AD.round2_exit (AD.in_exit (q1 (q4 ?_)))))
     refine AS O (AH (Ak (c:=(decide (a<(0:Int)))) O O O) O (AE.nil (AD.subF (sL [1,2,3,5,6,7,8,4,9,11,10,60] O) (AD.then_ ?_))))
     refine AF.jn2 (tg λ(s2:WS) (n2:Nat)=>WS.Ok s2/\Fv s1.pl (WS.pl s2)/\(WS.pl s2).length<=s1.pl.length+1/\n2<(WS.pl s2).length/\(WS.pl s2).getD n2 (0,0)=Ax m i 1/\∀a,a<(WS.pl s2).length->a<s1.pl.length\/a=n2) (tg λ(s2:WS) (n2:Nat)=>[(1,(pP b1 0)),(2,(pP b2 0)),(3,(pP b3 0)),(5,(Value.slice gc.p ((BD m).length) gc.c)),(6,(vN i)),(7,(pP b4 0)),(8,(vI 1)),(10,(vN n2)),(4,(Value.slice s2.p1 s2.pl.length s2.c1))]) (tg λ(s2:WS) (n2:Nat)=>[Ag b6 111 (Ay (Ax m i 1)),Ag b5 111 (Ay (Ax m i 0)),Ag b4 76 ([(vN n1),(vI 0),(vI 0)]),AY gc.p (rowsL BE (BD m)),rowW s2.p1 111 2 s2.pl.length s2.c1 (rowsL Ay s2.pl),rowW none 76 3 0 0 (rowsL Af ([])),rowW p3 76 3 ts.length c3 (rowsL Af ts),rowW s2.p2 102 2 s2.pl.length s2.c2 (rowsL CU (s2.pts m)),Ag b3 99 ([(Value.slice s2.p2 s2.pl.length s2.c2),(Value.slice p3 ts.length c3),(Value.slice none 0 0)]),Ag b2 99 ([(Value.slice none 0 0),(Value.slice none 0 0),(Value.slice none 0 0)]),Ag b1 26 (Er m),AY m.p (DA m.cs)]) ?_ ?_
     ·skip
      refine AF.cond O (λhc4=>?_) (λhc4=>?_)
      ·replace hc4:=of_decide_eq_true hc4
       refine q4 (AS O (AH (v:=(vN s1.pl.length)) (AG O underlying186) O (AL O (q3 (sL [1,2,3,5,6,7,8,4,9,11,10] O) (AS O ?_)))))
       refine BA 0 Bt O (AE.openV (V:=λb7=>(Value.slice (some ⟨b7,0,none⟩) 1 1)) (T:=111) (cs:=Ay (Ax m i 1)) (AK O) (Ar (z:=.agg (Ay ((0,0):P2)).toArray) (cs:=Ay (Ax m i 1)) (pv:=[(0,(aG (Ay (Ax m i 1))))]) underlying186 sizeOf111 zeroValue111 (by decide) (by decide) O (Ed (Ax m i 1))) O (Ac O) λb7=>AE.appendAt 5 (j:=0) (cs2:=rowsL Ay (s1.pl++[(Ax m i 1)])) Th O hs1.o1 (Aa C4 _) O O O O O (by decide) (Ga Z) Z (by rw [BO];rfl) O λp_3 c_3 ho_3 hne_3=>AL O (AE.nil (AD.subF (sL [1,2,3,5,6,7,8,4,9,11,10] O) ?_)))
       refine AD.then_ (rC [(0,true),(1,true),(2,true),(3,true),(4,false),(5,false),(6,false),(7,true)] 8 [] (sk (sk (sk (sk (sk (sk (sk (sk (sl sr))))))))) (sk (sk (sk (sk (sk (sk (sk (sk (sl sr))))))))) (by kernel_rfl) (λ_ _ d _ _ h=>by cases d<;>exact h) (vE (v:=(pP b3 0)) O (AA O underlying99 O sizeOf97 O) O (vE O (AI (i:=8) (v:=(Value.slice s1.p2 s1.pl.length s1.c2)) O O RB.a O) O (vE (v:=(aG (Er m))) O (A7 (i:=10) (vs:=Er m) O O NQ.a NQ.s O O) O (vE (v:=(aG (Ay (Ax m i 1)))) O (A7 (i:=1) (vs:=Ay (Ax m i 1)) O O Bt.a Bt.s O O) O ?_)))))
       refine Bu.imp O (Ee call113 (λw hw=>Ic m (Ax m i 1) (EB Z) w (Cq hw 12 O lm)) O (Bu.back (sk (sk (sk (sk (sk (sk (sk (sk (sl sr))))))))) (Bu.imp O (AE.openV (V:=λb8=>(Value.slice (some ⟨b8,0,none⟩) 1 1)) (T:=102) (cs:=CU ((mapM m).at_ (Ax m i 1))) (AK O) (Ar (z:=.agg (CU ((0,0):Int×Int)).toArray) (cs:=CU ((mapM m).at_ (Ax m i 1))) (pv:=[(0,(aG (CU ((mapM m).at_ (Ax m i 1)))))]) underlying97 sizeOf102 zeroValue102 (by decide) (by decide) O (EY ((mapM m).at_ (Ax m i 1)))) O (Ac O) λb8=>Bu.back (sl (sk (sk (sk (sk (sk (sk (sk (sk (sl sr)))))))))) ?_))))
       refine Bu.imp O (AE.appendAt 9 (j:=0) (cs2:=rowsL CU ((s1.pts m)++[((mapM m).at_ (Ax m i 1))])) Xv O hs1.o2 (by rw [Aa Fo];simp [WS.pts]) O O O O O (by decide) (Ga Z) Z (by rw [BO];rfl) O λp_4 c_4 ho_4 hne_4=>Bu.back (sl (sk (sk (sk (sk (sk (sk (sk (sk (sl sr)))))))))) (vE (v:=(pP b3 0)) O (AA O underlying99 O sizeOf97 O) O (Bu.cut O (EW 10 (off:=0) (vs:=[(Value.slice p_4 (s1.pl.length+1) c_4)]) (cs':=[(Value.slice p_4 (s1.pl.length+1) c_4),(Value.slice p3 ts.length c3),(Value.slice none 0 0)]) (AK O) O sizeOf97 O ?_))))
       refine AT.back (sl (sk (sk (sk (sk (sk (sk (sk (sk (sl (sl sr))))))))))) (AT.nil (AD.subF (sL [1,2,3,5,6,7,8,4,9,11,10] O) ?_))
       rw [show s1.pl.length+1=(s1.pl++[Ax m i 1]).length by simp]
       rw [show s1.pts m++[(mapM m).at_ (Ax m i 1)]=WS.pts (WS.mk (s1.pl++[Ax m i 1]) p_3 c_3 p_4 c_4) m by simp [WS.pts]]
       exact AD.join2 (WS.mk (s1.pl++[Ax m i 1]) p_3 c_3 p_4 c_4) s1.pl.length (⟨⟨(by simpa using ho_3),(by simpa using ho_4),λp hp=>(List.mem_append.1 hp).elim (hs1.small p) (λe=>by rw [List.mem_singleton.1 e];exact EB Z),Kj hs1.dst (λj hj=>(ha.elim id (λh=>absurd h.1 Z)).2 j Z)⟩,Fv.snoc _ _,by simp,by simp,DM _ _,λa ha=>by simp only [List.length_append,List.length_singleton] at ha;omega⟩) (sF O) (sl (sl sr))
      ·replace hc4:=of_decide_eq_false hc4
       refine AF.retell (k:=10) (u:=(vN a.toNat)) O (by show Value.int _ _=Value.int _ _;congr 1;omega) (AF.skip ?_)
       obtain ⟨ha1,ha2,ha3⟩:=ha.resolve_left (λh=>by have:=h.1;omega)
       exact AD.join2 s1 a.toNat (⟨hs1,Fv.refl _,Z,Z,ha3,λa ha=>.inl ha⟩) (sF O) sr
     ·intro s2 n2 hJ
      obtain ⟨hs2,hm2,hl2,hn2,hg2,hu2⟩:=hJ
      refine AD.then_ (AF.region (AS O (AS O (AH (v:=(pP b4 1)) (AC (j:=1) O O underlying76 sizeOf3 O (by decide) O) O (EW 2 (off:=1) (vs:=[(vN n2)]) (cs':=[(vN n1),(vN n2),(vI 0)]) (AK O) O sizeOf3 O ?_)))))
      refine AE.nil (AD.subF (sL [1,2,3,5,6,7,8,10,4] O) (AD.in_normal (AD.then_ (AF.region (AS O ?_)))))
      refine AH (AW (c:=(2:Int)) O O (by decide)) O (AL O (AE.nil (AD.subF (sL [1,2,3,5,6,7,8,10,4] O) (AD.again (FO.step ?_)))))
      refine AF.seq (q4 (AS O (AH (Ak (c:=true) O O (by decide)) O (AE.nil (AD.subF (sL [1,2,3,5,6,7,8,10,4,25] O) ?_)))))
      refine AD.then_ (AF.cond_true O (AF.skip (q1 (AF.block (AF.seq ?_)))))
      refine Cm [(0,true),(1,true),(2,true),(3,true),(4,true),(5,true),(6,true),(7,true),(8,true),(9,true),(10,true),(11,true),(12,true),(13,true),(14,true),(15,true),(16,true),(17,true),(18,false),(19,false)] sr (Bc O (Bc O (Bc O (Au (v:=(pP b1 8)) O (AA O underlying26 O sizeOf5 O) (Be 10 (vK .u8 m.fst) Sy O ?_)))))
      refine Au O (A8 (c:=((m.fst:Nat):Int)) O underlying5 underlying3 (CZ Z)) (Au O (AW (c:=((2+m.fst:Nat):Int)) O O (AX (a:=2) (b:=m.fst) Z)) (Bc O (Au (v:=(pP b1 8)) O (AA O underlying26 O sizeOf5 O) (Be 10 (vK .u8 m.fst) Sy O (Au O (Gr (c:=((m.fst/3:Nat):Int)) O O Z (MY (a:=m.fst) (b:=3) Z)) ?_)))))
      refine Au O (A8 (c:=((m.fst/3:Nat):Int)) O underlying5 underlying3 (CZ Z)) ?_
      have hmul:i*(m.fst/3)<=36*85:=Nat.mul_le_mul Z hf3
      refine Au O (B3 (c:=((i*(m.fst/3):Nat):Int)) O O (DC (a:=i) (b:=m.fst/3) Z)) (Au O (AW (c:=(((2+m.fst)+(i*(m.fst/3)):Nat):Int)) O O (AX (a:=2+m.fst) (b:=i*(m.fst/3)) Z)) ?_)
      obtain ⟨r9,hr9⟩:∃r,r=Ij m i 2:=⟨_,rfl⟩
      have hr3:r9<3:=by rw [hr9];exact Nat.mod_lt _ (by decide)
      refine Au O (By (c:=((r9:Nat):Int)) O O (by decide) (by rw [hr9];exact Gd (a:=2+m.fst+i*(m.fst/3)) (b:=3))) (Au (v:=(pP (pB gc.p) (pO gc.p+i*6))) O (AQ (j:=i) O O gc.ok underlying187 sizeOf189 O Z) (Au (v:=(pP (pB gc.p) (pO gc.p+(i*6+r9*2)))) O (AC (j:=r9) O O underlying189 sizeOf111 O hr3 (Nat.add_assoc _ _ _)) (Au (v:=(aG (Ay (Ax m i 2)))) O (AO (vs:=Ay (Ax m i 2)) (i:=3) O O (BI.ne gc.ok Z) Bt (Ib _ i r9 Z hr3 _ O _ (by rw [hr9];rfl)) O) (AT.imp O (al I8 O λb7=>?_)))))
      refine AT.back (sl sr) (AT.imp O (Aw O sizeOf111 O (AT.back (sl sr) (AT.nil (AD.subF (sL [1,2,3,5,6,7,8,10,4,9] O) ?_)))))
      refine q2 (AL O (AE.nil (q1 (q4 (AL O ?_)))))
      refine AE.nil (AD.then_ (AF.block ?_))
      refine AF.lp2 (tg λ(k:Nat) (a:Int)=>k<=s2.pl.length/\((a = -1/\∀j,j<k->s2.pl.getD j (0,0)≠Ax m i 2)\/0<=a/\a<(k:Int)/\s2.pl.getD (Int.toNat a) (0,0)=Ax m i 2)) (tg λ(k:Nat) (a:Int)=>[(1,(pP b1 0)),(2,(pP b2 0)),(3,(pP b3 0)),(5,(Value.slice gc.p ((BD m).length) gc.c)),(6,(vN i)),(7,(pP b4 0)),(8,(vI 2)),(4,(Value.slice s2.p1 s2.pl.length s2.c1)),(9,(pP b7 0)),(11,(vN k)),(10,(vI a))]) (tg λ(k:Nat) (a:Int)=>[Ag b7 111 (Ay (Ax m i 2)),Ag b6 111 (Ay (Ax m i 1)),Ag b5 111 (Ay (Ax m i 0)),Ag b4 76 ([(vN n1),(vN n2),(vI 0)]),AY gc.p (rowsL BE (BD m)),rowW s2.p1 111 2 s2.pl.length s2.c1 (rowsL Ay s2.pl),rowW none 76 3 0 0 (rowsL Af ([])),rowW p3 76 3 ts.length c3 (rowsL Af ts),rowW s2.p2 102 2 s2.pl.length s2.c2 (rowsL CU (s2.pts m)),Ag b3 99 ([(Value.slice s2.p2 s2.pl.length s2.c2),(Value.slice p3 ts.length c3),(Value.slice none 0 0)]),Ag b2 99 ([(Value.slice none 0 0),(Value.slice none 0 0),(Value.slice none 0 0)]),Ag b1 26 (Er m),AY m.p (DA m.cs)]) (tg λ(k:Nat) (a:Int)=>s2.pl.length-k) 0 (-1:Int) (⟨Nat.zero_le _,.inl ⟨rfl,λj hj=>absurd hj (Nat.not_lt_zero _)⟩⟩) (sF O) sr (λk a hJ=>?_)
      obtain ⟨hk,ha⟩:=hJ
      refine AF.seq (q4 (AS O (AS O (AH (v:=(vN s2.pl.length)) (AG O underlying186) O (AH (Ak (c:=(decide (k<s2.pl.length))) O O (C1 (a:=k) (b:=s2.pl.length))) O ?_)))))
      refine AE.nil (AD.subF (sL [1,2,3,5,6,7,8,4,9,11,10,49] O) (AD.then_ ?_))
      refine AF.cond O (λhc2=>?_) (λhc2=>?_)
      ·replace hc2:=of_decide_eq_true hc2
       refine AF.skip (q1 (AF.block (AF.seq (Cm [(0,true),(1,true),(2,true),(3,true),(4,true),(5,true)] sr (Bc O ?_)))))
       refine Bc O (Au (v:=(pP (pB s2.p1) (pO s2.p1+k*2))) O (AQ (j:=k) O O hs2.o1.row underlying186 sizeOf111 O Z) (Au (v:=(aG (Ay (s2.pl.getD k ((0,0):P2))))) O (CC (vs:=Ay (s2.pl.getD k ((0,0):P2))) (i:=5) O O hs2.o1 (Aa C4 _) (BI.ne hs2.o1.row Z) Bt (An C4 _ _ _ Z) (C4 _)) (En 0 Bt O (Au O (Bd (c:=decide (s2.pl.getD k ((0,0):P2)=(Ax m i 2))) O O eqGuardType111 (M4 9998 (s2.pl.getD k ((0,0):P2)) (Ax m i 2))) (AT.nil ?_)))))
       refine AD.subF (sL [1,2,3,5,6,7,8,4,9,11,10,57] O) (AD.then_ ?_)
       refine AF.cond O (λhc3=>?_) (λhc3=>?_)
       ·replace hc3:=of_decide_eq_true hc3
        refine AF.region (AS O (AL O (AE.nil (AD.subF (sL [1,2,3,5,6,7,8,4,9,11,10] O) (AD.in_normal ?_)))))
        refine AD.then_ (AF.region (AS O (AH (AW (c:=((k+1:Nat):Int)) O O (AX (a:=k) (b:=1) Z)) O (AL O (AE.nil ?_)))))
        exact AD.subF (sL [1,2,3,5,6,7,8,4,9,11,10] O) (AD.round2 (k+1) (k:Int) (⟨Z,.inr ⟨Z,Z,by simpa using hc3⟩⟩) Z (sF O) sr)
       ·replace hc3:=of_decide_eq_false hc3
        refine AF.skip (AD.in_normal (AD.then_ (AF.region (AS O (AH (AW (c:=((k+1:Nat):Int)) O O (AX (a:=k) (b:=1) Z)) O ?_)))))
        exact AL O (AE.nil (AD.subF (sL [1,2,3,5,6,7,8,4,9,11,10] O) (AD.round2 (k+1) a (⟨Z,ha.elim (λh=>.inl ⟨h.1,λj hj=>by rcases Nat.lt_or_ge j k with h1|h1;exact h.2 j h1;(obtain rfl:j=k:=by omega);simpa using hc3⟩) (λh=>.inr ⟨h.1,Z,h.2.2⟩)⟩) Z (sF O) sr)))
      ·replace hc2:=of_decide_eq_false hc2
       refine AF.exit (AD.then_exit (AD.round2_exit (AD.in_exit (q1 (q4 ?_)))))
       refine AS O (AH (Ak (c:=(decide (a<(0:Int)))) O O O) O (AE.nil (AD.subF (sL [1,2,3,5,6,7,8,4,9,11,10,60] O) (AD.then_ ?_))))
       refine AF.jn2 (tg λ(s3:WS) (n3:Nat)=>WS.Ok s3/\Fv s2.pl (WS.pl s3)/\(WS.pl s3).length<=s2.pl.length+1/\n3<(WS.pl s3).length/\(WS.pl s3).getD n3 (0,0)=Ax m i 2/\∀a,a<(WS.pl s3).length->a<s2.pl.length\/a=n3) (tg λ(s3:WS) (n3:Nat)=>[(1,(pP b1 0)),(2,(pP b2 0)),(3,(pP b3 0)),(5,(Value.slice gc.p ((BD m).length) gc.c)),(6,(vN i)),(7,(pP b4 0)),(8,(vI 2)),(10,(vN n3)),(4,(Value.slice s3.p1 s3.pl.length s3.c1))]) (tg λ(s3:WS) (n3:Nat)=>[Ag b7 111 (Ay (Ax m i 2)),Ag b6 111 (Ay (Ax m i 1)),Ag b5 111 (Ay (Ax m i 0)),Ag b4 76 ([(vN n1),(vN n2),(vI 0)]),AY gc.p (rowsL BE (BD m)),rowW s3.p1 111 2 s3.pl.length s3.c1 (rowsL Ay s3.pl),rowW none 76 3 0 0 (rowsL Af ([])),rowW p3 76 3 ts.length c3 (rowsL Af ts),rowW s3.p2 102 2 s3.pl.length s3.c2 (rowsL CU (s3.pts m)),Ag b3 99 ([(Value.slice s3.p2 s3.pl.length s3.c2),(Value.slice p3 ts.length c3),(Value.slice none 0 0)]),Ag b2 99 ([(Value.slice none 0 0),(Value.slice none 0 0),(Value.slice none 0 0)]),Ag b1 26 (Er m),AY m.p (DA m.cs)]) ?_ ?_
       ·skip
        refine AF.cond O (λhc4=>?_) (λhc4=>?_)
        ·replace hc4:=of_decide_eq_true hc4
         refine q4 (AS O (AH (v:=(vN s2.pl.length)) (AG O underlying186) O (AL O (q3 (sL [1,2,3,5,6,7,8,4,9,11,10] O) (AS O ?_)))))
         refine BA 0 Bt O (AE.openV (V:=λb8=>(Value.slice (some ⟨b8,0,none⟩) 1 1)) (T:=111) (cs:=Ay (Ax m i 2)) (AK O) (Ar (z:=.agg (Ay ((0,0):P2)).toArray) (cs:=Ay (Ax m i 2)) (pv:=[(0,(aG (Ay (Ax m i 2))))]) underlying186 sizeOf111 zeroValue111 (by decide) (by decide) O (Ed (Ax m i 2))) O (Ac O) λb8=>AE.appendAt 6 (j:=0) (cs2:=rowsL Ay (s2.pl++[(Ax m i 2)])) Th O hs2.o1 (Aa C4 _) O O O O O (by decide) (Ga Z) Z (by rw [BO];rfl) O λp_5 c_5 ho_5 hne_5=>AL O (AE.nil (AD.subF (sL [1,2,3,5,6,7,8,4,9,11,10] O) ?_)))
         refine AD.then_ (rC [(0,true),(1,true),(2,true),(3,true),(4,false),(5,false),(6,false),(7,true)] 8 [] (sk (sk (sk (sk (sk (sk (sk (sk (sk (sl sr)))))))))) (sk (sk (sk (sk (sk (sk (sk (sk (sk (sl sr)))))))))) (by kernel_rfl) (λ_ _ d _ _ h=>by cases d<;>exact h) (vE (v:=(pP b3 0)) O (AA O underlying99 O sizeOf97 O) O (vE O (AI (i:=9) (v:=(Value.slice s2.p2 s2.pl.length s2.c2)) O O RB.a O) O (vE (v:=(aG (Er m))) O (A7 (i:=11) (vs:=Er m) O O NQ.a NQ.s O O) O (vE (v:=(aG (Ay (Ax m i 2)))) O (A7 (i:=1) (vs:=Ay (Ax m i 2)) O O Bt.a Bt.s O O) O ?_)))))
         refine Bu.imp O (Ee call113 (λw hw=>Ic m (Ax m i 2) (EB Z) w (Cq hw 13 O lm)) O (Bu.back (sk (sk (sk (sk (sk (sk (sk (sk (sk (sl sr)))))))))) (Bu.imp O (AE.openV (V:=λb9=>(Value.slice (some ⟨b9,0,none⟩) 1 1)) (T:=102) (cs:=CU ((mapM m).at_ (Ax m i 2))) (AK O) (Ar (z:=.agg (CU ((0,0):Int×Int)).toArray) (cs:=CU ((mapM m).at_ (Ax m i 2))) (pv:=[(0,(aG (CU ((mapM m).at_ (Ax m i 2)))))]) underlying97 sizeOf102 zeroValue102 (by decide) (by decide) O (EY ((mapM m).at_ (Ax m i 2)))) O (Ac O) λb9=>Bu.back (sl (sk (sk (sk (sk (sk (sk (sk (sk (sk (sl sr))))))))))) ?_))))
         refine Bu.imp O (AE.appendAt 10 (j:=0) (cs2:=rowsL CU ((s2.pts m)++[((mapM m).at_ (Ax m i 2))])) Xv O hs2.o2 (by rw [Aa Fo];simp [WS.pts]) O O O O O (by decide) (Ga Z) Z (by rw [BO];rfl) O λp_6 c_6 ho_6 hne_6=>Bu.back (sl (sk (sk (sk (sk (sk (sk (sk (sk (sk (sl sr))))))))))) (vE (v:=(pP b3 0)) O (AA O underlying99 O sizeOf97 O) O (Bu.cut O (EW 11 (off:=0) (vs:=[(Value.slice p_6 (s2.pl.length+1) c_6)]) (cs':=[(Value.slice p_6 (s2.pl.length+1) c_6),(Value.slice p3 ts.length c3),(Value.slice none 0 0)]) (AK O) O sizeOf97 O ?_))))
         refine AT.back (sl (sk (sk (sk (sk (sk (sk (sk (sk (sk (sl (sl sr)))))))))))) (AT.nil (AD.subF (sL [1,2,3,5,6,7,8,4,9,11,10] O) ?_))
         rw [show s2.pl.length+1=(s2.pl++[Ax m i 2]).length by simp]
         rw [show s2.pts m++[(mapM m).at_ (Ax m i 2)]=WS.pts (WS.mk (s2.pl++[Ax m i 2]) p_5 c_5 p_6 c_6) m by simp [WS.pts]]
         exact AD.join2 (WS.mk (s2.pl++[Ax m i 2]) p_5 c_5 p_6 c_6) s2.pl.length (⟨⟨(by simpa using ho_5),(by simpa using ho_6),λp hp=>(List.mem_append.1 hp).elim (hs2.small p) (λe=>by rw [List.mem_singleton.1 e];exact EB Z),Kj hs2.dst (λj hj=>(ha.elim id (λh=>absurd h.1 Z)).2 j Z)⟩,Fv.snoc _ _,by simp,by simp,DM _ _,λa ha=>by simp only [List.length_append,List.length_singleton] at ha;omega⟩) (sF O) (sl (sl sr))
        ·replace hc4:=of_decide_eq_false hc4
         refine AF.retell (k:=10) (u:=(vN a.toNat)) O (by show Value.int _ _=Value.int _ _;congr 1;omega) (AF.skip ?_)
         obtain ⟨ha1,ha2,ha3⟩:=ha.resolve_left (λh=>by have:=h.1;omega)
         exact AD.join2 s2 a.toNat (⟨hs2,Fv.refl _,Z,Z,ha3,λa ha=>.inl ha⟩) (sF O) sr
       ·intro s3 n3 hJ
        obtain ⟨hs3,hm3,hl3,hn3,hg3,hu3⟩:=hJ
        refine AD.then_ (AF.region (AS O (AS O (AH (v:=(pP b4 2)) (AC (j:=2) O O underlying76 sizeOf3 O (by decide) O) O (EW 3 (off:=2) (vs:=[(vN n3)]) (cs':=[(vN n1),(vN n2),(vN n3)]) (AK O) O sizeOf3 O ?_)))))
        refine AE.nil (AD.subF (sL [1,2,3,5,6,7,8,10,4] O) (AD.in_normal (AD.then_ (AF.region (AS O ?_)))))
        refine AH (AW (c:=(3:Int)) O O (by decide)) O (AL O (AE.nil (AD.subF (sL [1,2,3,5,6,7,8,10,4] O) (AD.again (FO.step ?_)))))
        refine AF.seq (q4 (AS O (AH (Ak (c:=false) O O (by decide)) O (AE.nil (AD.subF (sL [1,2,3,5,6,7,8,10,4,25] O) ?_)))))
        refine AD.then_ (AF.cond_false O (AF.exit (AD.then_exit (AD.then_exit (AD.in_exit ?_)))))
        refine AD.then_ (AF.region (AH (v:=(pP b3 1)) (AA O underlying99 O sizeOf28 O) O (BJ 9 (Value.slice p3 ts.length c3) B4 O (BA 3 Cr O (AE.openV (V:=λb8=>(Value.slice (some ⟨b8,0,none⟩) 1 1)) (T:=76) (cs:=Af (n1,n2,n3)) (AK O) (Ar (z:=.agg (Af ((0,0,0):Nat×Nat×Nat)).toArray) (cs:=Af (n1,n2,n3)) (pv:=[(0,(aG ([(vN n1),(vN n2),(vN n3)])))]) underlying28 sizeOf76 zeroValue76 (by decide) (by decide) O (GU (n1,n2,n3))) O (Ac O) λb8=>?_)))))
        refine AE.appendAt 8 (j:=0) (cs2:=rowsL Af (ts++[(n1,n2,n3)])) NF O h3 (Aa Ah _) O O O O O (by decide) (Ga Z) Z (by rw [BO];rfl) O λp_7 c_7 ho_7 hne_7=>AH (v:=(pP b3 1)) (AA O underlying99 O sizeOf28 O) O (EW 10 (off:=1) (vs:=[(Value.slice p_7 (ts.length+1) c_7)]) (cs':=[(Value.slice s3.p2 s3.pl.length s3.c2),(Value.slice p_7 (ts.length+1) c_7),(Value.slice none 0 0)]) (AK O) O sizeOf28 O (AE.nil (AD.subF (sL [1,2,3,5,6,7,8,10,4] O) (AD.in_normal ?_))))
        refine AD.then_ (AF.region (AS O (AH (AW (c:=((i+1:Nat):Int)) O O (AX (a:=i) (b:=1) Z)) O (AL O (AE.nil ?_)))))
        refine AD.subF (sL [1,2,3,5,6,7,8,10,4] O) ?_
        rw [show ts.length+1=(ts++[(n1,n2,n3)]).length by simp]
        exact AD.round5 (i+1) s3 p_7 c_7 (ts++[(n1,n2,n3)]) (⟨Z,hs3,(by simpa using ho_7),hv.step ((hm1.trans hm2).trans hm3) Z hs3.small ⟨⟨by show n1<_;have:=hm2.1;have:=hm3.1;omega,(hm3.2 _ (by have:=hm2.1;omega)).trans ((hm2.2 _ Z).trans hg1)⟩,⟨by show n2<_;have:=hm3.1;omega,(hm3.2 _ Z).trans hg2⟩,⟨by show n3<_;omega,hg3⟩⟩ (λa ha=>by rcases hu3 a ha with h|h;(rcases hu2 a h with h|h;(rcases hu1 a h with h|h;exact .inl h;exact .inr (.inl h.symm));exact .inr (.inr (.inl h.symm)));exact .inr (.inr (.inr h.symm)))⟩) Z (sF O) (sl (sl (sl (sl (sl sr)))))
 ·replace hc0:=of_decide_eq_false hc0
  have hi9:i=(BD m).length:=by omega
  rw [hi9] at hv
  refine AF.exit (AD.then_exit (AD.round5_exit (AD.in_exit (q1 (q4 ?_)))))
  refine AL O (AE.nil (AD.then_ (AF.block ?_)))
  refine AF.lp4 (tg λ(ai:Nat) (p4:Option Addr) (c4:Nat) (ss:List (Nat×Nat×Nat))=>ai<=s.pl.length/\OwnOk p4 ss.length c4/\ss.length<=ai*108/\ss=FC m ts s.pl.length ai) (tg λ(ai:Nat) (p4:Option Addr) (c4:Nat) (ss:List (Nat×Nat×Nat))=>[(1,(pP b1 0)),(2,(pP b2 0)),(3,(pP b3 0)),(4,(Value.slice s.p1 s.pl.length s.c1)),(12,(vN ai))]) (tg λ(ai:Nat) (p4:Option Addr) (c4:Nat) (ss:List (Nat×Nat×Nat))=>[AY gc.p (rowsL BE (BD m)),rowW s.p1 111 2 s.pl.length s.c1 (rowsL Ay s.pl),rowW p4 76 3 ss.length c4 (rowsL Af ss),rowW p3 76 3 ts.length c3 (rowsL Af ts),rowW s.p2 102 2 s.pl.length s.c2 (rowsL CU (s.pts m)),Ag b3 99 ([(Value.slice s.p2 s.pl.length s.c2),(Value.slice p3 ts.length c3),(Value.slice p4 ss.length c4)]),Ag b2 99 ([(Value.slice none 0 0),(Value.slice none 0 0),(Value.slice none 0 0)]),Ag b1 26 (Er m),AY m.p (DA m.cs)]) (tg λ(ai:Nat) (p4:Option Addr) (c4:Nat) (ss:List (Nat×Nat×Nat))=>s.pl.length-ai) 0 none 0 ([]:List (Nat×Nat×Nat)) (⟨Nat.zero_le _,OwnOk.none,by simp,rfl⟩) (sF O) sr (λai p4 c4 ss hJ=>?_)
  obtain ⟨hai,h4,hsl,hsd⟩:=hJ
  refine AF.seq (q4 (AS O (AS O (AH (v:=(vN s.pl.length)) (AG O underlying186) O (AH (Ak (c:=(decide (ai<s.pl.length))) O O (C1 (a:=ai) (b:=s.pl.length))) O ?_)))))
  refine AE.nil (AD.subF (sL [1,2,3,4,12,87] O) (AD.then_ ?_))
  refine AF.cond O (λhc5=>?_) (λhc5=>?_)
  ·replace hc5:=of_decide_eq_true hc5
   refine AF.skip (q1 (AF.block (q4 (AS O (AH (AW (c:=((ai+1:Nat):Int)) O O (AX (a:=ai) (b:=1) Z)) O ?_)))))
   refine AL O (AE.nil (AD.subF (sL [1,2,3,4,12,13] O) (AD.then_ (AF.block ?_))))
   refine AF.lp4 (tg λ(bi:Nat) (p5:Option Addr) (c5:Nat) (sq9:List (Nat×Nat×Nat))=>bi<=s.pl.length/\ai+1<=bi/\OwnOk p5 sq9.length c5/\sq9.length<=ai*108+bi/\sq9=FC m ts s.pl.length ai++JF m ts ai (bi-(ai+1))) (tg λ(bi:Nat) (p5:Option Addr) (c5:Nat) (sq9:List (Nat×Nat×Nat))=>[(1,(pP b1 0)),(2,(pP b2 0)),(3,(pP b3 0)),(4,(Value.slice s.p1 s.pl.length s.c1)),(12,(vN ai)),(13,(vN bi))]) (tg λ(bi:Nat) (p5:Option Addr) (c5:Nat) (sq9:List (Nat×Nat×Nat))=>[AY gc.p (rowsL BE (BD m)),rowW s.p1 111 2 s.pl.length s.c1 (rowsL Ay s.pl),rowW p5 76 3 sq9.length c5 (rowsL Af sq9),rowW p3 76 3 ts.length c3 (rowsL Af ts),rowW s.p2 102 2 s.pl.length s.c2 (rowsL CU (s.pts m)),Ag b3 99 ([(Value.slice s.p2 s.pl.length s.c2),(Value.slice p3 ts.length c3),(Value.slice p5 sq9.length c5)]),Ag b2 99 ([(Value.slice none 0 0),(Value.slice none 0 0),(Value.slice none 0 0)]),Ag b1 26 (Er m),AY m.p (DA m.cs)]) (tg λ(bi:Nat) (p5:Option Addr) (c5:Nat) (sq9:List (Nat×Nat×Nat))=>s.pl.length-bi) (ai+1) p4 c4 ss (⟨Z,Nat.le_refl _,h4,Z,by rw [hsd,Nat.sub_self];exact (List.append_nil _).symm⟩) (sF O) sr (λbi p5 c5 sq9 hJ=>?_)
   obtain ⟨hbi,hba,h5,hsr,hsq⟩:=hJ
   refine AF.seq (q4 (AS O (AS O (AH (v:=(vN s.pl.length)) (AG O underlying186) O (AH (Ak (c:=(decide (bi<s.pl.length))) O O (C1 (a:=bi) (b:=s.pl.length))) O ?_)))))
   refine AE.nil (AD.subF (sL [1,2,3,4,12,13,95] O) (AD.then_ ?_))
   refine AF.cond O (λhc6=>?_) (λhc6=>?_)
   ·replace hc6:=of_decide_eq_true hc6
    refine AF.skip (q1 (AF.block (q4 (AL O (AE.nil ?_)))))
    refine q1 (q4 (AL O (AE.nil (AD.then_ (AF.block ?_)))))
    refine AF.lp2 (tg λ(ti:Nat) (cn:Nat)=>ti<=ts.length/\cn<=ti/\cn=HV ts ai bi ti) (tg λ(ti:Nat) (cn:Nat)=>[(1,(pP b1 0)),(2,(pP b2 0)),(3,(pP b3 0)),(4,(Value.slice s.p1 s.pl.length s.c1)),(12,(vN ai)),(13,(vN bi)),(15,(vN ti)),(14,(vN cn))]) (tg λ(ti:Nat) (cn:Nat)=>[AY gc.p (rowsL BE (BD m)),rowW s.p1 111 2 s.pl.length s.c1 (rowsL Ay s.pl),rowW p5 76 3 sq9.length c5 (rowsL Af sq9),rowW p3 76 3 ts.length c3 (rowsL Af ts),rowW s.p2 102 2 s.pl.length s.c2 (rowsL CU (s.pts m)),Ag b3 99 ([(Value.slice s.p2 s.pl.length s.c2),(Value.slice p3 ts.length c3),(Value.slice p5 sq9.length c5)]),Ag b2 99 ([(Value.slice none 0 0),(Value.slice none 0 0),(Value.slice none 0 0)]),Ag b1 26 (Er m),AY m.p (DA m.cs)]) (tg λ(ti:Nat) (cn:Nat)=>ts.length-ti) 0 0 (⟨Nat.zero_le _,Nat.le_refl _,rfl⟩) (sF O) sr (λti cn hJ=>?_)
    obtain ⟨hti,hcn,hcw⟩:=hJ
    refine AF.seq (q4 (AS O (AH (v:=(pP b3 1)) (AA O underlying99 O sizeOf28 O) O (BJ 5 (Value.slice p3 ts.length c3) B4 O (AH (v:=(vN ts.length)) (AG O underlying28) O ?_)))))
    refine AH (Ak (c:=(decide (ti<ts.length))) O O (C1 (a:=ti) (b:=ts.length))) O (AE.nil (AD.subF (sL [1,2,3,4,12,13,15,14,102] O) (AD.then_ ?_)))
    refine AF.cond O (λhc7=>?_) (λhc7=>?_)
    ·replace hc7:=of_decide_eq_true hc7
     refine AF.skip (q1 (AF.block (q4 (AH (v:=(pP b3 1)) (AA O underlying99 O sizeOf28 O) O (BJ 5 (Value.slice p3 ts.length c3) B4 O ?_)))))
     refine AS O (AH (v:=(pP (pB p3) (pO p3+ti*3))) (AQ (j:=ti) O O h3.row underlying28 sizeOf76 O Z) O (AH (v:=(aG (Af (ts.getD ti ((0,0,0):Nat×Nat×Nat))))) (CC (vs:=Af (ts.getD ti ((0,0,0):Nat×Nat×Nat))) (i:=3) O O h3 (Aa Ah _) (BI.ne h3.row Z) Cr (An Ah _ _ _ Z) (Ah _)) O (AS O (BR call114 (U0 (ts.getD ti ((0,0,0):Nat×Nat×Nat)) ai) O (AS O ?_)))))
     refine AE.mid (FM:=[(1,(pP b1 0)),(2,(pP b2 0)),(3,(pP b3 0)),(4,(Value.slice s.p1 s.pl.length s.c1)),(12,(vN ai)),(13,(vN bi)),(15,(vN ti)),(14,(vN cn)),(105,(pP b3 1)),(106,(Value.slice p3 ts.length c3)),(107,(vN ti)),(108,(pP (pB p3) (pO p3+ti*3))),(109,(aG (Af (ts.getD ti ((0,0,0):Nat×Nat×Nat))))),(110,(vN ai)),(111,(Value.bool (GN (ts.getD ti ((0,0,0):Nat×Nat×Nat)) ai))),(112,(Value.bool (GN (ts.getD ti ((0,0,0):Nat×Nat×Nat)) ai))),(120,(Value.bool ((GN (ts.getD ti ((0,0,0):Nat×Nat×Nat)) ai)&&(GN (ts.getD ti ((0,0,0):Nat×Nat×Nat)) bi))))]) (LM:=[AY gc.p (rowsL BE (BD m)),rowW s.p1 111 2 s.pl.length s.c1 (rowsL Ay s.pl),rowW p5 76 3 sq9.length c5 (rowsL Af sq9),rowW p3 76 3 ts.length c3 (rowsL Af ts),rowW s.p2 102 2 s.pl.length s.c2 (rowsL CU (s.pts m)),Ag b3 99 ([(Value.slice s.p2 s.pl.length s.c2),(Value.slice p3 ts.length c3),(Value.slice p5 sq9.length c5)]),Ag b2 99 ([(Value.slice none 0 0),(Value.slice none 0 0),(Value.slice none 0 0)]),Ag b1 26 (Er m),AY m.p (DA m.cs)]) 8 ?_ ?_
     ·rcases Bool.eq_false_or_eq_true (GN (ts.getD ti ((0,0,0):Nat×Nat×Nat)) ai) with hg1|hg1
      ·skip
       refine AE.retell (k:=112) (u:=Value.bool true) O (by rw [hg1]) ?_
       have hg1':=hg1
       skip
       refine AE.step (v:=(pP b3 1)) (AB O) (AA O underlying99 O sizeOf28 O) O (Ac O) (AE.step (v:=(Value.slice p3 ts.length c3)) (AB O) (AI (i:=5) (v:=(Value.slice p3 ts.length c3)) O O B4.a O) O (Ac O) (AE.step (v:=(vN ti)) (AB O) (BK O) O (Ac O) (AE.step (v:=(pP (pB p3) (pO p3+ti*3))) (AB O) (AQ (j:=ti) O O h3.row underlying28 sizeOf76 O Z) O (Ac O) (AE.step (v:=(aG (Af (ts.getD ti ((0,0,0):Nat×Nat×Nat))))) (AB O) (CC (vs:=Af (ts.getD ti ((0,0,0):Nat×Nat×Nat))) (i:=3) O O h3 (Aa Ah _) (BI.ne h3.row Z) Cr (An Ah _ _ _ Z) (Ah _)) O (Ac O) (AE.step (v:=(vN bi)) (AB O) (BK O) O (Ac O) ?_)))))
       exact AE.call (v:=(Value.bool (GN (ts.getD ti ((0,0,0):Nat×Nat×Nat)) bi))) (AB O) (A_ (args:=[(aG (Af (ts.getD ti ((0,0,0):Nat×Nat×Nat)))),(vN bi)]) O O call114) (λw hw=>U0 (ts.getD ti ((0,0,0):Nat×Nat×Nat)) bi w) O (Ac O) (AH (v:=(Value.bool (GN (ts.getD ti ((0,0,0):Nat×Nat×Nat)) bi))) (Aj O O) O (AE.nil (AD.mid (sS O (sS O (sS O (sS O (sS O (sS O (sS O (sS O (sS O (sS O (sS O (sS O (sS O (sS O (sS O (sS (by first|rfl|(rw [hg1];rfl)|rw [hg1]) (sS (by first|rfl|(rw [hg1];rfl)|rw [hg1]) (sN)))))))))))))))))) (List.Sublist.refl _))))
      ·skip
       refine AE.retell (k:=112) (u:=Value.bool false) O (by rw [hg1]) ?_
       have hg1':=hg1
       skip
       refine AE.skip (AN O) O (Ac O) (AE.skip (AN O) O (Ac O) (AE.skip (AN O) O (Ac O) (AE.skip (AN O) O (Ac O) (AE.skip (AN O) O (Ac O) (AE.skip (AN O) O (Ac O) ?_)))))
       exact AE.skip (AN O) O (Ac O) (AH (v:=(Value.bool false)) (AV O O) O (AE.nil (AD.mid (sS O (sS O (sS O (sS O (sS O (sS O (sS O (sS O (sS O (sS O (sS O (sS O (sS O (sS O (sS O (sS (by first|rfl|(rw [hg1];rfl)|rw [hg1]) (sS (by first|rfl|(rw [hg1];rfl)|rw [hg1]) (sN)))))))))))))))))) (List.Sublist.refl _))))
     refine AE.nil (AD.subF (sL [1,2,3,4,12,13,15,14,120] O) (AD.then_ ?_))
     refine AF.cond O (λhc8=>?_) (λhc8=>?_)
     ·simp only [Bool.and_eq_true,Bool.or_eq_true,Bool.and_eq_false_iff,Bool.or_eq_false_iff,Bool.not_eq_true',Bool.not_eq_false',decide_eq_true_eq,decide_eq_false_iff_not] at hc8
      refine AF.region (AS O (AH (AW (c:=((cn+1:Nat):Int)) O O (AX (a:=cn) (b:=1) Z)) O (AL O (AE.nil (AD.subF (sL [1,2,3,4,12,13,15,14] O) ?_)))))
      refine AD.in_normal (AD.then_ (AF.region (AS O (AH (AW (c:=((ti+1:Nat):Int)) O O (AX (a:=ti) (b:=1) Z)) O (AL O ?_)))))
      exact AE.nil (AD.subF (sL [1,2,3,4,12,13,15,14] O) (AD.round2 (ti+1) (cn+1) (⟨Z,Z,by rw [hcw];exact (SW hc8).symm⟩) Z (sF O) sr))
     ·simp only [Bool.and_eq_true,Bool.or_eq_true,Bool.and_eq_false_iff,Bool.or_eq_false_iff,Bool.not_eq_true',Bool.not_eq_false',decide_eq_true_eq,decide_eq_false_iff_not] at hc8
      refine AF.skip (AD.in_normal (AD.then_ (AF.region (AS O (AH (AW (c:=((ti+1:Nat):Int)) O O (AX (a:=ti) (b:=1) Z)) O ?_)))))
      exact AL O (AE.nil (AD.subF (sL [1,2,3,4,12,13,15,14] O) (AD.round2 (ti+1) cn (⟨Z,Z,by rw [hcw];exact (VW hc8).symm⟩) Z (sF O) sr)))
    ·replace hc7:=of_decide_eq_false hc7
     have hte:ti=ts.length:=by omega
     rw [hte] at hcw
     refine AF.exit (AD.then_exit (AD.round2_exit (AD.in_exit (q2 (AS O ?_)))))
     refine AH (BY (c:=(decide (cn=1))) O O (Oa (a:=cn) (b:=1))) O (AE.nil (AD.subF (sL [1,2,3,4,12,13,15,14,124] O) (AD.then_ ?_)))
     refine AF.cond O (λhc9=>?_) (λhc9=>?_)
     ·replace hc9:=of_decide_eq_true hc9
      refine AF.region (AH (v:=(pP b3 2)) (AA O underlying99 O sizeOf28 O) O (BJ 5 (Value.slice p5 sq9.length c5) B4 O (AS O (AS O (AS O ?_)))))
      refine AS O (AH (B3 (c:=((3*bi:Nat):Int)) O O (DC (a:=3) (b:=bi) Z)) O (AH (AW (c:=((ai+(3*bi):Nat):Int)) O O (AX (a:=ai) (b:=3*bi) Z)) O (AH (v:=(pP b1 8)) (AA O underlying26 O sizeOf5 O) O (BJ 7 (vK .u8 m.fst) Sy O (AH (A8 (c:=((m.fst:Nat):Int)) O underlying5 underlying3 (CZ Z)) O ?_)))))
      refine AH (AW (c:=(((ai+(3*bi))+m.fst:Nat):Int)) O O (AX (a:=ai+(3*bi)) (b:=m.fst) Z)) O (AH (By (c:=((((ai+(3*bi))+m.fst)%5:Nat):Int)) O O Z (Gd (a:=(ai+(3*bi))+m.fst) (b:=5))) O (AH (v:=(aG (Af (ai,bi,((ai+(3*bi))+m.fst)%5)))) (Al (zs:=Af ((0,0,0):Nat×Nat×Nat)) (vs:=Af (ai,bi,((ai+(3*bi))+m.fst)%5)) (pv:=[(0,(vN ai)),(1,(vN bi)),(2,(vN (((ai+(3*bi))+m.fst)%5)))]) zeroValue76 underlying76 sizeOf3 O (Ko ai bi (((ai+(3*bi))+m.fst)%5))) O (AE.openV (V:=λb4=>(Value.slice (some ⟨b4,0,none⟩) 1 1)) (T:=76) (cs:=Af (ai,bi,((ai+(3*bi))+m.fst)%5)) (AK O) (Ar (z:=.agg (Af ((0,0,0):Nat×Nat×Nat)).toArray) (cs:=Af (ai,bi,((ai+(3*bi))+m.fst)%5)) (pv:=[(0,(aG (Af (ai,bi,((ai+(3*bi))+m.fst)%5))))]) underlying28 sizeOf76 zeroValue76 (by decide) (by decide) O (GU (ai,bi,((ai+(3*bi))+m.fst)%5))) O (Ac O) λb4=>AE.appendAt 3 (j:=0) (cs2:=rowsL Af (sq9++[(ai,bi,((ai+(3*bi))+m.fst)%5)])) NF O h5 (Aa Ah _) O O O O O (by decide) (Ga Z) Z (by rw [BO];rfl) O λp_8 c_8 ho_8 hne_8=>AH (v:=(pP b3 2)) (AA O underlying99 O sizeOf28 O) O ?_)))
      refine EW 6 (off:=2) (vs:=[(Value.slice p_8 (sq9.length+1) c_8)]) (cs':=[(Value.slice s.p2 s.pl.length s.c2),(Value.slice p3 ts.length c3),(Value.slice p_8 (sq9.length+1) c_8)]) (AK O) O sizeOf28 O (AE.nil (AD.subF (sL [1,2,3,4,12,13,15,14] O) (AD.in_normal (AD.then_ (AF.region ?_)))))
      refine AS O (AH (AW (c:=((bi+1:Nat):Int)) O O (AX (a:=bi) (b:=1) Z)) O (AL O (AE.nil (AD.subF (sL [1,2,3,4,12,13,15,14] O) ?_))))
      rw [show sq9.length+1=(sq9++[(ai,bi,((ai+(3*bi))+m.fst)%5)]).length by simp]
      exact AD.round4 (bi+1) p_8 c_8 (sq9++[(ai,bi,((ai+(3*bi))+m.fst)%5)]) (⟨Z,Z,(by simpa using ho_8),by rw [List.length_append];simp only [List.length_singleton];omega,(by rw [hsq];exact TA Z (by rw [<-hcw,hc9]))⟩) Z (sF O) (sl sr)
     ·replace hc9:=of_decide_eq_false hc9
      refine AF.skip (AD.in_normal (AD.then_ (AF.region (AS O (AH (AW (c:=((bi+1:Nat):Int)) O O (AX (a:=bi) (b:=1) Z)) O ?_)))))
      exact AL O (AE.nil (AD.subF (sL [1,2,3,4,12,13,15,14] O) (AD.round4 (bi+1) p5 c5 sq9 (⟨Z,Z,h5,Z,(by rw [hsq];exact VQ Z (by rw [<-hcw];exact hc9))⟩) Z (sF O) sr)))
   ·replace hc6:=of_decide_eq_false hc6
    refine AF.exit (AD.then_exit (AD.round4_exit (AD.in_exit (AD.in_normal (AD.then_ ?_)))))
    exact AF.region (AS O (AH (AW (c:=((ai+1:Nat):Int)) O O (AX (a:=ai) (b:=1) Z)) O (AL O (AE.nil (AD.subF (sL [1,2,3,4,12,13] O) (AD.round4 (ai+1) p5 c5 sq9 (⟨Z,h5,Z,by rw [hsq,show bi=s.pl.length by omega];rfl⟩) Z (sF O) sr))))))
  ·replace hc5:=of_decide_eq_false hc5
   refine AF.exit (AD.then_exit (AD.round4_exit (AD.in_exit (q2 (BA 5 Zt O ?_)))))
   exact EW 6 (off:=0) (vs:=[(Value.slice s.p2 s.pl.length s.c2),(Value.slice p3 ts.length c3),(Value.slice p4 ss.length c4)]) (cs':=[(Value.slice s.p2 s.pl.length s.c2),(Value.slice p3 ts.length c3),(Value.slice p4 ss.length c4)]) (AK O) O sizeOf99 O (AE.nil (AD.subF (sL [1,2,3,4,12] O) (AD.then_ (AF.ret (AR O (Az (i:=6) (cs:=[(Value.slice s.p2 s.pl.length s.c2),(Value.slice p3 ts.length c3),(Value.slice p4 ss.length c4)]) O O isAgg99 sizeOf99 O) (λw hw=>(ZE hw (WM.mk s.pl ts ss hv hs.dst Z (by rw [hsd,show ai=s.pl.length by omega]) ⟨s.p2,s.c2,hs.o2.row⟩ ⟨p3,c3,h3.row⟩ ⟨p4,c4,h4.row⟩) h3 3 O (Ef (S:=λ_=>False) hw 4 O hs.o2 (by rw [Aa Fo];simp [WS.pts])) (Ef (S:=λ_=>False) hw 3 O h3 (Aa Ah _)) (Ef (S:=λ_=>False) hw 2 O h4 (Aa Ah _)) O)))))))
end
end Go.Proofs.YtfbomiejpbchdaaGreat
