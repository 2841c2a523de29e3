import Derived.Test.YtfbomiejpbchdaaGreatPart06
import Derived.Test.YtfbomiejpbchdaaGreatPart14
import Derived.Test.YtfbomiejpbchdaaGreatPart20
import Derived.Test.YtfbomiejpbchdaaGreatPart21
namespace Go.Proofs.YtfbomiejpbchdaaGreat
open Go Go.RowKit
set_option linter.unusedVariables false
set_option linter.unusedSimpArgs false
section
set_option maxRecDepth 100000
theorem R3:ElemT Tryz.prog 186 111 2 16:=⟨Tryz.underlying186,D9 (by kernel_rfl)⟩
theorem Sk:ElemT Tryz.prog 28 76 3 24:=⟨Tryz.underlying28,D9 (by kernel_rfl)⟩
theorem XD:ElemT Tryz.prog 97 102 2 16:=⟨Tryz.underlying97,D9 (by kernel_rfl)⟩
theorem R8 (t:Nat×Nat×Nat) (x:Nat) (w:World)  :Calls Tryz.prog 114 #[(aG (Ai t)),(vN x)] w (Ax w (Value.bool (F0 t x))):=by
 refine Ad (args:=[(aG (Ai t)),(vN x)]) Tryz.func114 rfl rfl (Af rfl) (AE.subF (sL [0,1] rfl) (q4 (CB (cs:=Ai t) rfl λb1=>AL rfl (q3 (sL [1,2,4] rfl) ?_))))
 refine AH (v:=(pP b1 0)) (AG (j:=0) rfl rfl Tryz.underlying76 Tryz.sizeOf3 rfl (by decide) rfl) rfl (BI 0 (vN t.1) B_ rfl (AO rfl (AH (Bp (c:=(decide (t.1=x))) rfl rfl (Pm (a:=t.1) (b:=x))) rfl (AO rfl ?_))))
 refine AD.mid (FM:=[(1,(vN x)),(2,(pP b1 0)),(4,(Value.bool false)),(5,(pP b1 0)),(6,(vN t.1)),(7,(vN x)),(8,(Value.bool (decide (t.1=x)))),(9,(Value.bool (decide (t.1=x)))),(14,(Value.bool ((decide (t.1=x))||(decide (t.2.1=x)))))]) (LM:=[Ac b1 76 (Ai t)]) 5 ?_ ?_
 ·rcases Bool.eq_false_or_eq_true (decide (t.1=x)) with hg1|hg1
  ·skip
   refine AD.retell (k:=9) (u:=Value.bool true) rfl (by rw [hg1]) ?_
   have hg1':=hg1
   replace hg1':=of_decide_eq_true hg1'
   exact AD.skip (AM rfl) rfl (Af rfl) (AD.skip (AM rfl) rfl (Af rfl) (AD.skip (AM rfl) rfl (Af rfl) (AD.skip (AM rfl) rfl (Af rfl) (AH (v:=(Value.bool true)) (Ae rfl rfl) rfl (AD.nil (AC.mid (sS rfl (sS rfl (sS rfl (sS rfl (sS rfl (sS rfl (sS rfl (sS (by first|rfl|(rw [hg1];rfl)|rw [hg1]) (sS (by first|rfl|(rw [hg1];rfl)|rw [hg1]) (sN)))))))))) (List.Sublist.refl _)))))))
  ·skip
   refine AD.retell (k:=9) (u:=Value.bool false) rfl (by rw [hg1]) ?_
   have hg1':=hg1
   replace hg1':=of_decide_eq_false hg1'
   exact AD.step (v:=(pP b1 1)) (AB rfl) (AG (j:=1) rfl rfl Tryz.underlying76 Tryz.sizeOf3 rfl (by decide) rfl) rfl (Af rfl) (AD.step (v:=(vN t.2.1)) (AB rfl) (AK (i:=0) (v:=(vN t.2.1)) rfl rfl B_.a rfl) rfl (Af rfl) (AD.step (v:=(vN x)) (AB rfl) (BU rfl) rfl (Af rfl) (AD.step (v:=(Value.bool (decide (t.2.1=x)))) (AB rfl) (Bp (c:=(decide (t.2.1=x))) rfl rfl (Pm (a:=t.2.1) (b:=x))) rfl (Af rfl) (AH (v:=(Value.bool (decide (t.2.1=x)))) (Aa rfl rfl) rfl (AD.nil (AC.mid (sS rfl (sS rfl (sS rfl (sS rfl (sS rfl (sS rfl (sS rfl (sS (by first|rfl|(rw [hg1];rfl)|rw [hg1]) (sS (by first|rfl|(rw [hg1];rfl)|rw [hg1]) (sN)))))))))) (List.Sublist.refl _)))))))
 refine AO rfl ?_
 refine AD.mid (FM:=[(1,(vN x)),(2,(pP b1 0)),(4,(Value.bool false)),(5,(pP b1 0)),(6,(vN t.1)),(7,(vN x)),(8,(Value.bool (decide (t.1=x)))),(9,(Value.bool (decide (t.1=x)))),(14,(Value.bool ((decide (t.1=x))||(decide (t.2.1=x))))),(15,(Value.bool ((decide (t.1=x))||(decide (t.2.1=x))))),(20,(Value.bool (((decide (t.1=x))||(decide (t.2.1=x)))||(decide (t.2.2=x)))))]) (LM:=[Ac b1 76 (Ai t)]) 5 ?_ ?_
 ·rcases Bool.eq_false_or_eq_true ((decide (t.1=x))||(decide (t.2.1=x))) with hg2|hg2
  ·skip
   refine AD.retell (k:=15) (u:=Value.bool true) rfl (by rw [hg2]) ?_
   have hg2':=hg2
   simp only [Bool.and_eq_true,Bool.or_eq_true,Bool.and_eq_false_iff,Bool.or_eq_false_iff,Bool.not_eq_true',Bool.not_eq_false',decide_eq_true_eq,decide_eq_false_iff_not] at hg2'
   exact AD.skip (AM rfl) rfl (Af rfl) (AD.skip (AM rfl) rfl (Af rfl) (AD.skip (AM rfl) rfl (Af rfl) (AD.skip (AM rfl) rfl (Af rfl) (AH (v:=(Value.bool true)) (Ae rfl rfl) rfl (AD.nil (AC.mid (sS rfl (sS rfl (sS rfl (sS rfl (sS rfl (sS rfl (sS rfl (sS rfl (sS rfl (sS (by first|rfl|(rw [hg2];rfl)|rw [hg2]) (sS (by first|rfl|(rw [hg2];rfl)|rw [hg2]) (sN)))))))))))) (List.Sublist.refl _)))))))
  ·skip
   refine AD.retell (k:=15) (u:=Value.bool false) rfl (by rw [hg2]) ?_
   have hg2':=hg2
   simp only [Bool.and_eq_true,Bool.or_eq_true,Bool.and_eq_false_iff,Bool.or_eq_false_iff,Bool.not_eq_true',Bool.not_eq_false',decide_eq_true_eq,decide_eq_false_iff_not] at hg2'
   exact AD.step (v:=(pP b1 2)) (AB rfl) (AG (j:=2) rfl rfl Tryz.underlying76 Tryz.sizeOf3 rfl (by decide) rfl) rfl (Af rfl) (AD.step (v:=(vN t.2.2)) (AB rfl) (AK (i:=0) (v:=(vN t.2.2)) rfl rfl B_.a rfl) rfl (Af rfl) (AD.step (v:=(vN x)) (AB rfl) (BU rfl) rfl (Af rfl) (AD.step (v:=(Value.bool (decide (t.2.2=x)))) (AB rfl) (Bp (c:=(decide (t.2.2=x))) rfl rfl (Pm (a:=t.2.2) (b:=x))) rfl (Af rfl) (AH (v:=(Value.bool (decide (t.2.2=x)))) (Aa rfl rfl) rfl (AD.nil (AC.mid (sS rfl (sS rfl (sS rfl (sS rfl (sS rfl (sS rfl (sS rfl (sS rfl (sS rfl (sS (by first|rfl|(rw [hg2];rfl)|rw [hg2]) (sS (by first|rfl|(rw [hg2];rfl)|rw [hg2]) (sN)))))))))))) (List.Sublist.refl _)))))))
 exact AL rfl (AD.nil (AC.subF (sL [4] rfl) (AC.then_ (AE.ret (AU rfl (Am (v:=(Value.bool (((decide (t.1=x))||(decide (t.2.1=x)))||(decide (t.2.2=x))))) rfl) (λw hw=>⟨by first|rfl|simp [F0,Bool.or_assoc],hw.out⟩))))))
theorem EG (x0:P2):Instr.fill (λi=>some (i*2,2)) ((Array.range (1*2)).map ((Value.agg (Aw ((0,0):P2)).toArray).cells[·%(Value.agg (Aw ((0,0):P2)).toArray).cells.size]!)) [(0,.agg (Aw x0).toArray)]=some (Aw x0).toArray:=by kernel_rfl
theorem EA (x0:Int×Int):Instr.fill (λi=>some (i*2,2)) ((Array.range (1*2)).map ((Value.agg (CO ((0,0):Int×Int)).toArray).cells[·%(Value.agg (CO ((0,0):Int×Int)).toArray).cells.size]!)) [(0,.agg (CO x0).toArray)]=some (CO x0).toArray:=by kernel_rfl
theorem GM (x0:Nat×Nat×Nat):Instr.fill (λi=>some (i*3,3)) ((Array.range (1*3)).map ((Value.agg (Ai ((0,0,0):Nat×Nat×Nat)).toArray).cells[·%(Value.agg (Ai ((0,0,0):Nat×Nat×Nat)).toArray).cells.size]!)) [(0,.agg (Ai x0).toArray)]=some (Ai x0).toArray:=by kernel_rfl
theorem J_ (x0 x1 x2:Nat):Instr.fill (λi=>some (i*1,1)) (Ai ((0,0,0):Nat×Nat×Nat)).toArray [(0,vN x0),(1,vN x1),(2,vN x2)]=some (Ai (x0,x1,x2)).toArray:=by kernel_rfl
set_option maxHeartbeats 2000000 in
theorem Ou (m:MQ) (w:World) {S:Nat->Prop} (hm:Ro S w m):Calls Tryz.prog 44 #[(aG (EJ m))] w (Bc (WJ m) (λ_=>False) w):=by
 have hf:=m.hfst
 have hf3:m.fst/3<=85:=by omega
 have lm:=H0 (W:=w) hm
 refine BQ (args:=[(aG (EJ m))]) (L:=[AX m.p (Cp m.cs)]) Tryz.func44 rfl rfl (Af rfl) (Hy hm Bo) (AE.subF (sL [0] rfl) (q4 (CB (cs:=EJ m) rfl λb1=>al W2 rfl λb2=>q3 (sL [1,2] rfl) ?_)))
 refine al W2 rfl λb3=>AD.nilRow 102 2 (AD.nilRow 76 3 (AD.nilRow 76 3 (AD.nil (q2 ?_))))
 refine AL rfl (AD.nilRow 111 2 (AD.nil (q2 (BF 6 Mr rfl (cX (S:=S) (cs:=rowsL A9 (BA m)) (k:=(BA m).length) (args:=[(aG (EJ m))]) Tryz.call112 (λw hw=>Qg m w (Eu hw 7 rfl lm)) rfl rfl rfl λgc lgc=>?_)))))
 refine AL rfl (q6 (sL [1,2,3,4,5] rfl) (q4 (AL rfl (AD.nil (AC.then_ ?_)))))
 refine AE.block ?_
 refine AE.lp5 (tg λ(i:Nat) (s:WS) (p3:Option Addr) (c3:Nat) (ts:List (Nat×Nat×Nat))=>i<=(BA m).length/\WS.Ok s/\OwnOk p3 ts.length c3/\Lz m i (WS.pl s) ts) (tg λ(i:Nat) (s:WS) (p3:Option Addr) (c3:Nat) (ts:List (Nat×Nat×Nat))=>[(1,(pP b1 0)),(2,(pP b2 0)),(3,(pP b3 0)),(5,(Value.slice gc.p ((BA m).length) gc.c)),(6,(vN i)),(4,(Value.slice s.p1 s.pl.length s.c1))]) (tg λ(i:Nat) (s:WS) (p3:Option Addr) (c3:Nat) (ts:List (Nat×Nat×Nat))=>[AX gc.p (rowsL A9 (BA m)),rowW s.p1 111 2 s.pl.length s.c1 (rowsL Aw s.pl),rowW none 76 3 0 0 (rowsL Ai ([])),rowW p3 76 3 ts.length c3 (rowsL Ai ts),rowW s.p2 102 2 s.pl.length s.c2 (rowsL CO (s.pts m)),Ac b3 99 ([(Value.slice s.p2 s.pl.length s.c2),(Value.slice p3 ts.length c3),(Value.slice none 0 0)]),Ac b2 99 ([(Value.slice none 0 0),(Value.slice none 0 0),(Value.slice none 0 0)]),Ac b1 26 (EJ m),AX m.p (Cp m.cs)]) (tg λ(i:Nat) (s:WS) (p3:Option Addr) (c3:Nat) (ts:List (Nat×Nat×Nat))=>(BA m).length-i) 0 (WS.mk [] none 0 none 0) none 0 ([]:List (Nat×Nat×Nat)) (⟨Nat.zero_le _,⟨OwnOk.none,OwnOk.none,(λp hp=>by cases hp),VD⟩,OwnOk.none,XP m⟩) (sF rfl) sr (λi s p3 c3 ts hJ=>?_)
 obtain ⟨hi,hs,h3,hv⟩:=hJ
 have hpl:=hv.pll
 have htl:=hv.tl
 have hcl:=Gz m
 refine AE.seq (q4 (AO rfl (AO rfl (AH (v:=(vN ((BA m).length))) (AF rfl Tryz.underlying187) rfl (AH (Ag (c:=(decide (i<((BA m).length)))) rfl rfl (DA (a:=i) (b:=(BA m).length))) rfl ?_)))))
 refine AD.nil (AC.subF (sL [1,2,3,5,6,4,21] rfl) (AC.then_ ?_))
 refine AE.cond rfl (λhc0=>?_) (λhc0=>?_)
 ·replace hc0:=of_decide_eq_true hc0
  refine AE.skip (q1 (AE.block (q4 (al QZ rfl λb4=>AD.nil ?_))))
  refine q1 (q4 (AL rfl (AD.nil (AC.then_ (AE.block ?_)))))
  refine AE.unroll 4 (F1.step (AE.seq (q4 (AO rfl (AH (Ag (c:=true) rfl rfl (by decide)) rfl ?_)))))
  refine AD.nil (AC.subF (sL [1,2,3,5,6,4,7,8,25] rfl) (AC.then_ (AE.cond_true rfl (AE.skip (q1 ?_)))))
  refine AE.block (AE.seq (C7 [(0,true),(1,true),(2,true),(3,true),(4,true),(5,true),(6,true),(7,true),(8,true),(9,true),(10,true),(11,true),(12,true),(13,true),(14,true),(15,true),(16,true),(17,true),(18,false),(19,false)] sr (Bl rfl (Bl rfl (Bl rfl ?_)))))
  refine Au (v:=(pP b1 8)) rfl (AA rfl Tryz.underlying26 rfl Tryz.sizeOf5 rfl) (Bk 8 (vK .u8 m.fst) TH rfl (Au rfl (Ar (c:=((m.fst:Nat):Int)) rfl Tryz.underlying5 Tryz.underlying3 (CU (by omega))) (Au rfl (AT (c:=((0+m.fst:Nat):Int)) rfl rfl (AR (a:=0) (b:=m.fst) (by omega))) (Bl rfl (Au (v:=(pP b1 8)) rfl (AA rfl Tryz.underlying26 rfl Tryz.sizeOf5 rfl) ?_)))))
  refine Bk 8 (vK .u8 m.fst) TH rfl (Au rfl (GV (c:=((m.fst/3:Nat):Int)) rfl rfl (by omega) (MO (a:=m.fst) (b:=3) (by omega))) (Au rfl (Ar (c:=((m.fst/3:Nat):Int)) rfl Tryz.underlying5 Tryz.underlying3 (CU (by omega))) ?_))
  have hmul:i*(m.fst/3)<=36*85:=Nat.mul_le_mul (by omega) hf3
  refine Au rfl (BZ (c:=((i*(m.fst/3):Nat):Int)) rfl rfl (Bq (a:=i) (b:=m.fst/3) (by omega))) (Au rfl (AT (c:=(((0+m.fst)+(i*(m.fst/3)):Nat):Int)) rfl rfl (AR (a:=0+m.fst) (b:=i*(m.fst/3)) (by omega))) ?_)
  obtain ⟨r9,hr9⟩:∃r,r=Gs m i 0:=⟨_,rfl⟩
  have hr3:r9<3:=by rw [hr9];exact Nat.mod_lt _ (by decide)
  refine Au rfl (CN (c:=((r9:Nat):Int)) rfl rfl (by decide) (by rw [hr9];exact IS (a:=0+m.fst+i*(m.fst/3)) (b:=3))) (Au (v:=(pP (pB gc.p) (pO gc.p+i*6))) rfl (AQ (j:=i) rfl rfl gc.ok Tryz.underlying187 Tryz.sizeOf189 rfl (by omega)) (Au (v:=(pP (pB gc.p) (pO gc.p+(i*6+r9*2)))) rfl (AG (j:=r9) rfl rfl Tryz.underlying189 Tryz.sizeOf111 rfl hr3 (Nat.add_assoc _ _ _)) (Au (v:=(aG (Aw (Ao m i 0)))) rfl (AZ (vs:=Aw (Ao m i 0)) (i:=1) rfl rfl (BL.ne gc.ok (by omega)) Bm (IV _ i r9 (by omega) hr3 _ rfl _ (by rw [hr9];rfl)) rfl) (AP.imp rfl (al Id rfl λb5=>?_)))))
  refine AP.back (sl sr) (AP.imp rfl (A6 rfl Tryz.sizeOf111 rfl (AP.back (sl sr) (AP.nil (AC.subF (sL [1,2,3,5,6,4,7,8,9] rfl) ?_)))))
  refine q2 (AL rfl (AD.nil (q1 (q4 (AL rfl ?_)))))
  refine AD.nil (AC.then_ (AE.block ?_))
  refine AE.lp2 (tg λ(k:Nat) (a:Int)=>k<=s.pl.length/\((a = -1/\∀j,j<k->s.pl.getD j (0,0)≠Ao m i 0)\/0<=a/\a<(k:Int)/\s.pl.getD (Int.toNat a) (0,0)=Ao m i 0)) (tg λ(k:Nat) (a:Int)=>[(1,(pP b1 0)),(2,(pP b2 0)),(3,(pP b3 0)),(5,(Value.slice gc.p ((BA m).length) gc.c)),(6,(vN i)),(4,(Value.slice s.p1 s.pl.length s.c1)),(7,(pP b4 0)),(8,(vI 0)),(9,(pP b5 0)),(11,(vN k)),(10,(vI a))]) (tg λ(k:Nat) (a:Int)=>[Ac b5 111 (Aw (Ao m i 0)),Ac b4 76 (Ai ((0,0,0):Nat×Nat×Nat)),AX gc.p (rowsL A9 (BA m)),rowW s.p1 111 2 s.pl.length s.c1 (rowsL Aw s.pl),rowW none 76 3 0 0 (rowsL Ai ([])),rowW p3 76 3 ts.length c3 (rowsL Ai ts),rowW s.p2 102 2 s.pl.length s.c2 (rowsL CO (s.pts m)),Ac b3 99 ([(Value.slice s.p2 s.pl.length s.c2),(Value.slice p3 ts.length c3),(Value.slice none 0 0)]),Ac b2 99 ([(Value.slice none 0 0),(Value.slice none 0 0),(Value.slice none 0 0)]),Ac b1 26 (EJ m),AX m.p (Cp m.cs)]) (tg λ(k:Nat) (a:Int)=>s.pl.length-k) 0 (-1:Int) (⟨Nat.zero_le _,.inl ⟨rfl,λj hj=>absurd hj (Nat.not_lt_zero _)⟩⟩) (sF rfl) sr (λk a hJ=>?_)
  obtain ⟨hk,ha⟩:=hJ
  refine AE.seq (q4 (AO rfl (AO rfl (AH (v:=(vN s.pl.length)) (AF rfl Tryz.underlying186) rfl (AH (Ag (c:=(decide (k<s.pl.length))) rfl rfl (DA (a:=k) (b:=s.pl.length))) rfl ?_)))))
  refine AD.nil (AC.subF (sL [1,2,3,5,6,4,7,8,9,11,10,49] rfl) (AC.then_ ?_))
  refine AE.cond rfl (λhc2=>?_) (λhc2=>?_)
  ·replace hc2:=of_decide_eq_true hc2
   refine AE.skip (q1 (AE.block (AE.seq (C7 [(0,true),(1,true),(2,true),(3,true),(4,true),(5,true)] sr (Bl rfl ?_)))))
   refine Bl rfl (Au (v:=(pP (pB s.p1) (pO s.p1+k*2))) rfl (AQ (j:=k) rfl rfl hs.o1.row Tryz.underlying186 Tryz.sizeOf111 rfl (by omega)) (Au (v:=(aG (Aw (s.pl.getD k ((0,0):P2))))) rfl (CJ (vs:=Aw (s.pl.getD k ((0,0):P2))) (i:=3) rfl rfl hs.o1 (Aj Cn _) (BL.ne hs.o1.row (by omega)) Bm (A7 Cn _ _ _ (by omega)) (Cn _)) (Db 0 Bm rfl (Au rfl (Be (c:=decide (s.pl.getD k ((0,0):P2)=(Ao m i 0))) rfl rfl Tryz.eqGuardType111 (Mk 9998 (s.pl.getD k ((0,0):P2)) (Ao m i 0))) (AP.nil ?_)))))
   refine AC.subF (sL [1,2,3,5,6,4,7,8,9,11,10,57] rfl) (AC.then_ ?_)
   refine AE.cond rfl (λhc3=>?_) (λhc3=>?_)
   ·replace hc3:=of_decide_eq_true hc3
    refine AE.region (AO rfl (AL rfl (AD.nil (AC.subF (sL [1,2,3,5,6,4,7,8,9,11,10] rfl) (AC.in_normal ?_)))))
    refine AC.then_ (AE.region (AO rfl (AH (AT (c:=((k+1:Nat):Int)) rfl rfl (AR (a:=k) (b:=1) (by omega))) rfl (AL rfl (AD.nil ?_)))))
    exact AC.subF (sL [1,2,3,5,6,4,7,8,9,11,10] rfl) (AC.round2 (k+1) (k:Int) (⟨by omega,.inr ⟨by omega,by omega,by simpa using hc3⟩⟩) (by omega) (sF rfl) sr)
   ·replace hc3:=of_decide_eq_false hc3
    refine AE.skip (AC.in_normal (AC.then_ (AE.region (AO rfl (AH (AT (c:=((k+1:Nat):Int)) rfl rfl (AR (a:=k) (b:=1) (by omega))) rfl ?_)))))
    exact AL rfl (AD.nil (AC.subF (sL [1,2,3,5,6,4,7,8,9,11,10] rfl) (AC.round2 (k+1) a (⟨by omega,ha.elim (λh=>.inl ⟨h.1,λj hj=>by rcases Nat.lt_or_ge j k with h1|h1;exact h.2 j h1;(obtain rfl:j=k:=by omega);simpa using hc3⟩) (λh=>.inr ⟨h.1,by omega,h.2.2⟩)⟩) (by omega) (sF rfl) sr)))
  ·replace hc2:=of_decide_eq_false hc2
   refine AE.exit (AC.then_exit (AC.round2_exit (AC.in_exit (q1 (q4 ?_)))))
   refine AO rfl (AH (Ag (c:=(decide (a<(0:Int)))) rfl rfl rfl) rfl (AD.nil (AC.subF (sL [1,2,3,5,6,4,7,8,9,11,10,60] rfl) (AC.then_ ?_))))
   refine AE.jn2 (tg λ(s1:WS) (n1:Nat)=>WS.Ok s1/\Ff s.pl (WS.pl s1)/\(WS.pl s1).length<=s.pl.length+1/\n1<(WS.pl s1).length/\(WS.pl s1).getD n1 (0,0)=Ao m i 0/\∀a,a<(WS.pl s1).length->a<s.pl.length\/a=n1) (tg λ(s1:WS) (n1:Nat)=>[(1,(pP b1 0)),(2,(pP b2 0)),(3,(pP b3 0)),(5,(Value.slice gc.p ((BA m).length) gc.c)),(6,(vN i)),(7,(pP b4 0)),(8,(vI 0)),(10,(vN n1)),(4,(Value.slice s1.p1 s1.pl.length s1.c1))]) (tg λ(s1:WS) (n1:Nat)=>[Ac b5 111 (Aw (Ao m i 0)),Ac b4 76 (Ai ((0,0,0):Nat×Nat×Nat)),AX gc.p (rowsL A9 (BA m)),rowW s1.p1 111 2 s1.pl.length s1.c1 (rowsL Aw s1.pl),rowW none 76 3 0 0 (rowsL Ai ([])),rowW p3 76 3 ts.length c3 (rowsL Ai ts),rowW s1.p2 102 2 s1.pl.length s1.c2 (rowsL CO (s1.pts m)),Ac b3 99 ([(Value.slice s1.p2 s1.pl.length s1.c2),(Value.slice p3 ts.length c3),(Value.slice none 0 0)]),Ac b2 99 ([(Value.slice none 0 0),(Value.slice none 0 0),(Value.slice none 0 0)]),Ac b1 26 (EJ m),AX m.p (Cp m.cs)]) ?_ ?_
   ·skip
    refine AE.cond rfl (λhc4=>?_) (λhc4=>?_)
    ·replace hc4:=of_decide_eq_true hc4
     refine q4 (AO rfl (AH (v:=(vN s.pl.length)) (AF rfl Tryz.underlying186) rfl (AL rfl (q3 (sL [1,2,3,5,6,4,7,8,9,11,10] rfl) (AO rfl ?_)))))
     refine BF 0 Bm rfl (AD.openV (V:=λb6=>(Value.slice (some ⟨b6,0,none⟩) 1 1)) (T:=111) (cs:=Aw (Ao m i 0)) (AN rfl) (Ah (z:=.agg (Aw ((0,0):P2)).toArray) (cs:=Aw (Ao m i 0)) (pv:=[(0,(aG (Aw (Ao m i 0))))]) Tryz.underlying186 Tryz.sizeOf111 Tryz.zeroValue111 (by decide) (by decide) rfl (EG (Ao m i 0))) rfl (Af rfl) λb6=>AD.appendAt 4 (j:=0) (cs2:=rowsL Aw (s.pl++[(Ao m i 0)])) R3 rfl hs.o1 (Aj Cn _) rfl rfl rfl rfl rfl (by decide) (HM (by omega)) (by omega) (by rw [BN];rfl) rfl λp_1 c_1 ho_1 hne_1=>AL rfl (AD.nil (AC.subF (sL [1,2,3,5,6,4,7,8,9,11,10] rfl) ?_)))
     refine AC.then_ (rC [(0,true),(1,true),(2,true),(3,true),(4,false),(5,false),(6,false),(7,true)] 8 [] (sk (sk (sk (sk (sk (sk (sk (sl sr)))))))) (sk (sk (sk (sk (sk (sk (sk (sl sr)))))))) (by kernel_rfl) (λ_ _ d _ _ h=>by cases d<;>exact h) (vE (v:=(pP b3 0)) rfl (AA rfl Tryz.underlying99 rfl Tryz.sizeOf97 rfl) rfl (vE rfl (AK (i:=7) (v:=(Value.slice s.p2 s.pl.length s.c2)) rfl rfl QX.a rfl) rfl (vE (v:=(aG (EJ m))) rfl (Ak (i:=9) (vs:=EJ m) rfl rfl Mr.a Mr.s rfl rfl) rfl (vE (v:=(aG (Aw (Ao m i 0)))) rfl (Ak (i:=1) (vs:=Aw (Ao m i 0)) rfl rfl Bm.a Bm.s rfl rfl) rfl ?_)))))
     refine Cg.imp rfl (IC Tryz.call113 (λw hw=>IP m (Ao m i 0) (Du (by omega)) w (Eu hw 11 rfl lm)) rfl (Cg.back (sk (sk (sk (sk (sk (sk (sk (sl sr)))))))) (Cg.imp rfl (AD.openV (V:=λb7=>(Value.slice (some ⟨b7,0,none⟩) 1 1)) (T:=102) (cs:=CO ((mapM m).at_ (Ao m i 0))) (AN rfl) (Ah (z:=.agg (CO ((0,0):Int×Int)).toArray) (cs:=CO ((mapM m).at_ (Ao m i 0))) (pv:=[(0,(aG (CO ((mapM m).at_ (Ao m i 0)))))]) Tryz.underlying97 Tryz.sizeOf102 Tryz.zeroValue102 (by decide) (by decide) rfl (EA ((mapM m).at_ (Ao m i 0)))) rfl (Af rfl) λb7=>Cg.back (sl (sk (sk (sk (sk (sk (sk (sk (sl sr))))))))) ?_))))
     refine Cg.imp rfl (AD.appendAt 8 (j:=0) (cs2:=rowsL CO ((s.pts m)++[((mapM m).at_ (Ao m i 0))])) XD rfl hs.o2 (by rw [Aj FL];simp [WS.pts]) rfl rfl rfl rfl rfl (by decide) (HM (by omega)) (by omega) (by rw [BN];rfl) rfl λp_2 c_2 ho_2 hne_2=>Cg.back (sl (sk (sk (sk (sk (sk (sk (sk (sl sr))))))))) (vE (v:=(pP b3 0)) rfl (AA rfl Tryz.underlying99 rfl Tryz.sizeOf97 rfl) rfl (Cg.cut rfl (Gn 9 (off:=0) (vs:=[(Value.slice p_2 (s.pl.length+1) c_2)]) (cs':=[(Value.slice p_2 (s.pl.length+1) c_2),(Value.slice p3 ts.length c3),(Value.slice none 0 0)]) (AN rfl) rfl Tryz.sizeOf97 rfl ?_))))
     refine AP.back (sl (sk (sk (sk (sk (sk (sk (sk (sl (sl sr)))))))))) (AP.nil (AC.subF (sL [1,2,3,5,6,4,7,8,9,11,10] rfl) ?_))
     rw [show s.pl.length+1=(s.pl++[Ao m i 0]).length by simp]
     rw [show s.pts m++[(mapM m).at_ (Ao m i 0)]=WS.pts (WS.mk (s.pl++[Ao m i 0]) p_1 c_1 p_2 c_2) m by simp [WS.pts]]
     exact AC.join2 (WS.mk (s.pl++[Ao m i 0]) p_1 c_1 p_2 c_2) s.pl.length (⟨⟨(by simpa using ho_1),(by simpa using ho_2),λp hp=>(List.mem_append.1 hp).elim (hs.small p) (λe=>by rw [List.mem_singleton.1 e];exact Du (by omega)),Km hs.dst (λj hj=>(ha.elim id (λh=>absurd h.1 (by omega))).2 j (by omega))⟩,Ff.snoc _ _,by simp,by simp,C6 _ _,λa ha=>by simp only [List.length_append,List.length_singleton] at ha;omega⟩) (sF rfl) (sl (sl sr))
    ·replace hc4:=of_decide_eq_false hc4
     refine AE.retell (k:=10) (u:=(vN a.toNat)) rfl (by show Value.int _ _=Value.int _ _;congr 1;omega) (AE.skip ?_)
     obtain ⟨ha1,ha2,ha3⟩:=ha.resolve_left (λh=>by have:=h.1;omega)
     exact AC.join2 s a.toNat (⟨hs,Ff.refl _,by omega,by omega,ha3,λa ha=>.inl ha⟩) (sF rfl) sr
   ·intro s1 n1 hJ
    obtain ⟨hs1,hm1,hl1,hn1,hg1,hu1⟩:=hJ
    refine AC.then_ (AE.region (AO rfl (AO rfl (AH (v:=(pP b4 0)) (AG (j:=0) rfl rfl Tryz.underlying76 Tryz.sizeOf3 rfl (by decide) rfl) rfl (Gn 1 (off:=0) (vs:=[(vN n1)]) (cs':=[(vN n1),(vI 0),(vI 0)]) (AN rfl) rfl Tryz.sizeOf3 rfl ?_)))))
    refine AD.nil (AC.subF (sL [1,2,3,5,6,7,8,10,4] rfl) (AC.in_normal (AC.then_ (AE.region (AO rfl ?_)))))
    refine AH (AT (c:=(1:Int)) rfl rfl (by decide)) rfl (AL rfl (AD.nil (AC.subF (sL [1,2,3,5,6,7,8,10,4] rfl) (AC.again (F1.step ?_)))))
    refine AE.seq (q4 (AO rfl (AH (Ag (c:=true) rfl rfl (by decide)) rfl (AD.nil (AC.subF (sL [1,2,3,5,6,7,8,10,4,25] rfl) ?_)))))
    refine AC.then_ (AE.cond_true rfl (AE.skip (q1 (AE.block (AE.seq ?_)))))
    refine C7 [(0,true),(1,true),(2,true),(3,true),(4,true),(5,true),(6,true),(7,true),(8,true),(9,true),(10,true),(11,true),(12,true),(13,true),(14,true),(15,true),(16,true),(17,true),(18,false),(19,false)] sr (Bl rfl (Bl rfl (Bl rfl (Au (v:=(pP b1 8)) rfl (AA rfl Tryz.underlying26 rfl Tryz.sizeOf5 rfl) (Bk 9 (vK .u8 m.fst) TH rfl ?_)))))
    refine Au rfl (Ar (c:=((m.fst:Nat):Int)) rfl Tryz.underlying5 Tryz.underlying3 (CU (by omega))) (Au rfl (AT (c:=((1+m.fst:Nat):Int)) rfl rfl (AR (a:=1) (b:=m.fst) (by omega))) (Bl rfl (Au (v:=(pP b1 8)) rfl (AA rfl Tryz.underlying26 rfl Tryz.sizeOf5 rfl) (Bk 9 (vK .u8 m.fst) TH rfl (Au rfl (GV (c:=((m.fst/3:Nat):Int)) rfl rfl (by omega) (MO (a:=m.fst) (b:=3) (by omega))) ?_)))))
    refine Au rfl (Ar (c:=((m.fst/3:Nat):Int)) rfl Tryz.underlying5 Tryz.underlying3 (CU (by omega))) ?_
    have hmul:i*(m.fst/3)<=36*85:=Nat.mul_le_mul (by omega) hf3
    refine Au rfl (BZ (c:=((i*(m.fst/3):Nat):Int)) rfl rfl (Bq (a:=i) (b:=m.fst/3) (by omega))) (Au rfl (AT (c:=(((1+m.fst)+(i*(m.fst/3)):Nat):Int)) rfl rfl (AR (a:=1+m.fst) (b:=i*(m.fst/3)) (by omega))) ?_)
    obtain ⟨r9,hr9⟩:∃r,r=Gs m i 1:=⟨_,rfl⟩
    have hr3:r9<3:=by rw [hr9];exact Nat.mod_lt _ (by decide)
    refine Au rfl (CN (c:=((r9:Nat):Int)) rfl rfl (by decide) (by rw [hr9];exact IS (a:=1+m.fst+i*(m.fst/3)) (b:=3))) (Au (v:=(pP (pB gc.p) (pO gc.p+i*6))) rfl (AQ (j:=i) rfl rfl gc.ok Tryz.underlying187 Tryz.sizeOf189 rfl (by omega)) (Au (v:=(pP (pB gc.p) (pO gc.p+(i*6+r9*2)))) rfl (AG (j:=r9) rfl rfl Tryz.underlying189 Tryz.sizeOf111 rfl hr3 (Nat.add_assoc _ _ _)) (Au (v:=(aG (Aw (Ao m i 1)))) rfl (AZ (vs:=Aw (Ao m i 1)) (i:=2) rfl rfl (BL.ne gc.ok (by omega)) Bm (IV _ i r9 (by omega) hr3 _ rfl _ (by rw [hr9];rfl)) rfl) (AP.imp rfl (al Id rfl λb6=>?_)))))
    refine AP.back (sl sr) (AP.imp rfl (A6 rfl Tryz.sizeOf111 rfl (AP.back (sl sr) (AP.nil (AC.subF (sL [1,2,3,5,6,7,8,10,4,9] rfl) ?_)))))
    refine q2 (AL rfl (AD.nil (q1 (q4 (AL rfl ?_)))))
    refine AD.nil (AC.then_ (AE.block ?_))
    refine AE.lp2 (tg λ(k:Nat) (a:Int)=>k<=s1.pl.length/\((a = -1/\∀j,j<k->s1.pl.getD j (0,0)≠Ao m i 1)\/0<=a/\a<(k:Int)/\s1.pl.getD (Int.toNat a) (0,0)=Ao m i 1)) (tg λ(k:Nat) (a:Int)=>[(1,(pP b1 0)),(2,(pP b2 0)),(3,(pP b3 0)),(5,(Value.slice gc.p ((BA m).length) gc.c)),(6,(vN i)),(7,(pP b4 0)),(8,(vI 1)),(4,(Value.slice s1.p1 s1.pl.length s1.c1)),(9,(pP b6 0)),(11,(vN k)),(10,(vI a))]) (tg λ(k:Nat) (a:Int)=>[Ac b6 111 (Aw (Ao m i 1)),Ac b5 111 (Aw (Ao m i 0)),Ac b4 76 ([(vN n1),(vI 0),(vI 0)]),AX gc.p (rowsL A9 (BA m)),rowW s1.p1 111 2 s1.pl.length s1.c1 (rowsL Aw s1.pl),rowW none 76 3 0 0 (rowsL Ai ([])),rowW p3 76 3 ts.length c3 (rowsL Ai ts),rowW s1.p2 102 2 s1.pl.length s1.c2 (rowsL CO (s1.pts m)),Ac b3 99 ([(Value.slice s1.p2 s1.pl.length s1.c2),(Value.slice p3 ts.length c3),(Value.slice none 0 0)]),Ac b2 99 ([(Value.slice none 0 0),(Value.slice none 0 0),(Value.slice none 0 0)]),Ac b1 26 (EJ m),AX m.p (Cp m.cs)]) (tg λ(k:Nat) (a:Int)=>s1.pl.length-k) 0 (-1:Int) (⟨Nat.zero_le _,.inl ⟨rfl,λj hj=>absurd hj (Nat.not_lt_zero _)⟩⟩) (sF rfl) sr (λk a hJ=>?_)
    obtain ⟨hk,ha⟩:=hJ
    refine AE.seq (q4 (AO rfl (AO rfl (AH (v:=(vN s1.pl.length)) (AF rfl Tryz.underlying186) rfl (AH (Ag (c:=(decide (k<s1.pl.length))) rfl rfl (DA (a:=k) (b:=s1.pl.length))) rfl ?_)))))
    refine AD.nil (AC.subF (sL [1,2,3,5,6,7,8,4,9,11,10,49] rfl) (AC.then_ ?_))
    refine AE.cond rfl (λhc2=>?_) (λhc2=>?_)
    ·replace hc2:=of_decide_eq_true hc2
     refine AE.skip (q1 (AE.block (AE.seq (C7 [(0,true),(1,true),(2,true),(3,true),(4,true),(5,true)] sr (Bl rfl ?_)))))
     refine Bl rfl (Au (v:=(pP (pB s1.p1) (pO s1.p1+k*2))) rfl (AQ (j:=k) rfl rfl hs1.o1.row Tryz.underlying186 Tryz.sizeOf111 rfl (by omega)) (Au (v:=(aG (Aw (s1.pl.getD k ((0,0):P2))))) rfl (CJ (vs:=Aw (s1.pl.getD k ((0,0):P2))) (i:=4) rfl rfl hs1.o1 (Aj Cn _) (BL.ne hs1.o1.row (by omega)) Bm (A7 Cn _ _ _ (by omega)) (Cn _)) (Db 0 Bm rfl (Au rfl (Be (c:=decide (s1.pl.getD k ((0,0):P2)=(Ao m i 1))) rfl rfl Tryz.eqGuardType111 (Mk 9998 (s1.pl.getD k ((0,0):P2)) (Ao m i 1))) (AP.nil ?_)))))
     refine AC.subF (sL [1,2,3,5,6,7,8,4,9,11,10,57] rfl) (AC.then_ ?_)
     refine AE.cond rfl (λhc3=>?_) (λhc3=>?_)
     ·replace hc3:=of_decide_eq_true hc3
      refine AE.region (AO rfl (AL rfl (AD.nil (AC.subF (sL [1,2,3,5,6,7,8,4,9,11,10] rfl) (AC.in_normal ?_)))))
      refine AC.then_ (AE.region (AO rfl (AH (AT (c:=((k+1:Nat):Int)) rfl rfl (AR (a:=k) (b:=1) (by omega))) rfl (AL rfl (AD.nil ?_)))))
      exact AC.subF (sL [1,2,3,5,6,7,8,4,9,11,10] rfl) (AC.round2 (k+1) (k:Int) (⟨by omega,.inr ⟨by omega,by omega,by simpa using hc3⟩⟩) (by omega) (sF rfl) sr)
     ·replace hc3:=of_decide_eq_false hc3
      refine AE.skip (AC.in_normal (AC.then_ (AE.region (AO rfl (AH (AT (c:=((k+1:Nat):Int)) rfl rfl (AR (a:=k) (b:=1) (by omega))) rfl ?_)))))
      exact AL rfl (AD.nil (AC.subF (sL [1,2,3,5,6,7,8,4,9,11,10] rfl) (AC.round2 (k+1) a (⟨by omega,ha.elim (λh=>.inl ⟨h.1,λj hj=>by rcases Nat.lt_or_ge j k with h1|h1;exact h.2 j h1;(obtain rfl:j=k:=by omega);simpa using hc3⟩) (λh=>.inr ⟨h.1,by omega,h.2.2⟩)⟩) (by omega) (sF rfl) sr)))
    ·replace hc2:=of_decide_eq_false hc2
     refine AE.exit (AC.then_exit (AC.round2_exit (AC.in_exit (q1 (q4 ?_)))))
     refine AO rfl (AH (Ag (c:=(decide (a<(0:Int)))) rfl rfl rfl) rfl (AD.nil (AC.subF (sL [1,2,3,5,6,7,8,4,9,11,10,60] rfl) (AC.then_ ?_))))
     refine AE.jn2 (tg λ(s2:WS) (n2:Nat)=>WS.Ok s2/\Ff s1.pl (WS.pl s2)/\(WS.pl s2).length<=s1.pl.length+1/\n2<(WS.pl s2).length/\(WS.pl s2).getD n2 (0,0)=Ao m i 1/\∀a,a<(WS.pl s2).length->a<s1.pl.length\/a=n2) (tg λ(s2:WS) (n2:Nat)=>[(1,(pP b1 0)),(2,(pP b2 0)),(3,(pP b3 0)),(5,(Value.slice gc.p ((BA m).length) gc.c)),(6,(vN i)),(7,(pP b4 0)),(8,(vI 1)),(10,(vN n2)),(4,(Value.slice s2.p1 s2.pl.length s2.c1))]) (tg λ(s2:WS) (n2:Nat)=>[Ac b6 111 (Aw (Ao m i 1)),Ac b5 111 (Aw (Ao m i 0)),Ac b4 76 ([(vN n1),(vI 0),(vI 0)]),AX gc.p (rowsL A9 (BA m)),rowW s2.p1 111 2 s2.pl.length s2.c1 (rowsL Aw s2.pl),rowW none 76 3 0 0 (rowsL Ai ([])),rowW p3 76 3 ts.length c3 (rowsL Ai ts),rowW s2.p2 102 2 s2.pl.length s2.c2 (rowsL CO (s2.pts m)),Ac b3 99 ([(Value.slice s2.p2 s2.pl.length s2.c2),(Value.slice p3 ts.length c3),(Value.slice none 0 0)]),Ac b2 99 ([(Value.slice none 0 0),(Value.slice none 0 0),(Value.slice none 0 0)]),Ac b1 26 (EJ m),AX m.p (Cp m.cs)]) ?_ ?_
     ·skip
      refine AE.cond rfl (λhc4=>?_) (λhc4=>?_)
      ·replace hc4:=of_decide_eq_true hc4
       refine q4 (AO rfl (AH (v:=(vN s1.pl.length)) (AF rfl Tryz.underlying186) rfl (AL rfl (q3 (sL [1,2,3,5,6,7,8,4,9,11,10] rfl) (AO rfl ?_)))))
       refine BF 0 Bm rfl (AD.openV (V:=λb7=>(Value.slice (some ⟨b7,0,none⟩) 1 1)) (T:=111) (cs:=Aw (Ao m i 1)) (AN rfl) (Ah (z:=.agg (Aw ((0,0):P2)).toArray) (cs:=Aw (Ao m i 1)) (pv:=[(0,(aG (Aw (Ao m i 1))))]) Tryz.underlying186 Tryz.sizeOf111 Tryz.zeroValue111 (by decide) (by decide) rfl (EG (Ao m i 1))) rfl (Af rfl) λb7=>AD.appendAt 5 (j:=0) (cs2:=rowsL Aw (s1.pl++[(Ao m i 1)])) R3 rfl hs1.o1 (Aj Cn _) rfl rfl rfl rfl rfl (by decide) (HM (by omega)) (by omega) (by rw [BN];rfl) rfl λp_3 c_3 ho_3 hne_3=>AL rfl (AD.nil (AC.subF (sL [1,2,3,5,6,7,8,4,9,11,10] rfl) ?_)))
       refine AC.then_ (rC [(0,true),(1,true),(2,true),(3,true),(4,false),(5,false),(6,false),(7,true)] 8 [] (sk (sk (sk (sk (sk (sk (sk (sk (sl sr))))))))) (sk (sk (sk (sk (sk (sk (sk (sk (sl sr))))))))) (by kernel_rfl) (λ_ _ d _ _ h=>by cases d<;>exact h) (vE (v:=(pP b3 0)) rfl (AA rfl Tryz.underlying99 rfl Tryz.sizeOf97 rfl) rfl (vE rfl (AK (i:=8) (v:=(Value.slice s1.p2 s1.pl.length s1.c2)) rfl rfl QX.a rfl) rfl (vE (v:=(aG (EJ m))) rfl (Ak (i:=10) (vs:=EJ m) rfl rfl Mr.a Mr.s rfl rfl) rfl (vE (v:=(aG (Aw (Ao m i 1)))) rfl (Ak (i:=1) (vs:=Aw (Ao m i 1)) rfl rfl Bm.a Bm.s rfl rfl) rfl ?_)))))
       refine Cg.imp rfl (IC Tryz.call113 (λw hw=>IP m (Ao m i 1) (Du (by omega)) w (Eu hw 12 rfl lm)) rfl (Cg.back (sk (sk (sk (sk (sk (sk (sk (sk (sl sr))))))))) (Cg.imp rfl (AD.openV (V:=λb8=>(Value.slice (some ⟨b8,0,none⟩) 1 1)) (T:=102) (cs:=CO ((mapM m).at_ (Ao m i 1))) (AN rfl) (Ah (z:=.agg (CO ((0,0):Int×Int)).toArray) (cs:=CO ((mapM m).at_ (Ao m i 1))) (pv:=[(0,(aG (CO ((mapM m).at_ (Ao m i 1)))))]) Tryz.underlying97 Tryz.sizeOf102 Tryz.zeroValue102 (by decide) (by decide) rfl (EA ((mapM m).at_ (Ao m i 1)))) rfl (Af rfl) λb8=>Cg.back (sl (sk (sk (sk (sk (sk (sk (sk (sk (sl sr)))))))))) ?_))))
       refine Cg.imp rfl (AD.appendAt 9 (j:=0) (cs2:=rowsL CO ((s1.pts m)++[((mapM m).at_ (Ao m i 1))])) XD rfl hs1.o2 (by rw [Aj FL];simp [WS.pts]) rfl rfl rfl rfl rfl (by decide) (HM (by omega)) (by omega) (by rw [BN];rfl) rfl λp_4 c_4 ho_4 hne_4=>Cg.back (sl (sk (sk (sk (sk (sk (sk (sk (sk (sl sr)))))))))) (vE (v:=(pP b3 0)) rfl (AA rfl Tryz.underlying99 rfl Tryz.sizeOf97 rfl) rfl (Cg.cut rfl (Gn 10 (off:=0) (vs:=[(Value.slice p_4 (s1.pl.length+1) c_4)]) (cs':=[(Value.slice p_4 (s1.pl.length+1) c_4),(Value.slice p3 ts.length c3),(Value.slice none 0 0)]) (AN rfl) rfl Tryz.sizeOf97 rfl ?_))))
       refine AP.back (sl (sk (sk (sk (sk (sk (sk (sk (sk (sl (sl sr))))))))))) (AP.nil (AC.subF (sL [1,2,3,5,6,7,8,4,9,11,10] rfl) ?_))
       rw [show s1.pl.length+1=(s1.pl++[Ao m i 1]).length by simp]
       rw [show s1.pts m++[(mapM m).at_ (Ao m i 1)]=WS.pts (WS.mk (s1.pl++[Ao m i 1]) p_3 c_3 p_4 c_4) m by simp [WS.pts]]
       exact AC.join2 (WS.mk (s1.pl++[Ao m i 1]) p_3 c_3 p_4 c_4) s1.pl.length (⟨⟨(by simpa using ho_3),(by simpa using ho_4),λp hp=>(List.mem_append.1 hp).elim (hs1.small p) (λe=>by rw [List.mem_singleton.1 e];exact Du (by omega)),Km hs1.dst (λj hj=>(ha.elim id (λh=>absurd h.1 (by omega))).2 j (by omega))⟩,Ff.snoc _ _,by simp,by simp,C6 _ _,λa ha=>by simp only [List.length_append,List.length_singleton] at ha;omega⟩) (sF rfl) (sl (sl sr))
      ·replace hc4:=of_decide_eq_false hc4
       refine AE.retell (k:=10) (u:=(vN a.toNat)) rfl (by show Value.int _ _=Value.int _ _;congr 1;omega) (AE.skip ?_)
       obtain ⟨ha1,ha2,ha3⟩:=ha.resolve_left (λh=>by have:=h.1;omega)
       exact AC.join2 s1 a.toNat (⟨hs1,Ff.refl _,by omega,by omega,ha3,λa ha=>.inl ha⟩) (sF rfl) sr
     ·intro s2 n2 hJ
      obtain ⟨hs2,hm2,hl2,hn2,hg2,hu2⟩:=hJ
      refine AC.then_ (AE.region (AO rfl (AO rfl (AH (v:=(pP b4 1)) (AG (j:=1) rfl rfl Tryz.underlying76 Tryz.sizeOf3 rfl (by decide) rfl) rfl (Gn 2 (off:=1) (vs:=[(vN n2)]) (cs':=[(vN n1),(vN n2),(vI 0)]) (AN rfl) rfl Tryz.sizeOf3 rfl ?_)))))
      refine AD.nil (AC.subF (sL [1,2,3,5,6,7,8,10,4] rfl) (AC.in_normal (AC.then_ (AE.region (AO rfl ?_)))))
      refine AH (AT (c:=(2:Int)) rfl rfl (by decide)) rfl (AL rfl (AD.nil (AC.subF (sL [1,2,3,5,6,7,8,10,4] rfl) (AC.again (F1.step ?_)))))
      refine AE.seq (q4 (AO rfl (AH (Ag (c:=true) rfl rfl (by decide)) rfl (AD.nil (AC.subF (sL [1,2,3,5,6,7,8,10,4,25] rfl) ?_)))))
      refine AC.then_ (AE.cond_true rfl (AE.skip (q1 (AE.block (AE.seq ?_)))))
      refine C7 [(0,true),(1,true),(2,true),(3,true),(4,true),(5,true),(6,true),(7,true),(8,true),(9,true),(10,true),(11,true),(12,true),(13,true),(14,true),(15,true),(16,true),(17,true),(18,false),(19,false)] sr (Bl rfl (Bl rfl (Bl rfl (Au (v:=(pP b1 8)) rfl (AA rfl Tryz.underlying26 rfl Tryz.sizeOf5 rfl) (Bk 10 (vK .u8 m.fst) TH rfl ?_)))))
      refine Au rfl (Ar (c:=((m.fst:Nat):Int)) rfl Tryz.underlying5 Tryz.underlying3 (CU (by omega))) (Au rfl (AT (c:=((2+m.fst:Nat):Int)) rfl rfl (AR (a:=2) (b:=m.fst) (by omega))) (Bl rfl (Au (v:=(pP b1 8)) rfl (AA rfl Tryz.underlying26 rfl Tryz.sizeOf5 rfl) (Bk 10 (vK .u8 m.fst) TH rfl (Au rfl (GV (c:=((m.fst/3:Nat):Int)) rfl rfl (by omega) (MO (a:=m.fst) (b:=3) (by omega))) ?_)))))
      refine Au rfl (Ar (c:=((m.fst/3:Nat):Int)) rfl Tryz.underlying5 Tryz.underlying3 (CU (by omega))) ?_
      have hmul:i*(m.fst/3)<=36*85:=Nat.mul_le_mul (by omega) hf3
      refine Au rfl (BZ (c:=((i*(m.fst/3):Nat):Int)) rfl rfl (Bq (a:=i) (b:=m.fst/3) (by omega))) (Au rfl (AT (c:=(((2+m.fst)+(i*(m.fst/3)):Nat):Int)) rfl rfl (AR (a:=2+m.fst) (b:=i*(m.fst/3)) (by omega))) ?_)
      obtain ⟨r9,hr9⟩:∃r,r=Gs m i 2:=⟨_,rfl⟩
      have hr3:r9<3:=by rw [hr9];exact Nat.mod_lt _ (by decide)
      refine Au rfl (CN (c:=((r9:Nat):Int)) rfl rfl (by decide) (by rw [hr9];exact IS (a:=2+m.fst+i*(m.fst/3)) (b:=3))) (Au (v:=(pP (pB gc.p) (pO gc.p+i*6))) rfl (AQ (j:=i) rfl rfl gc.ok Tryz.underlying187 Tryz.sizeOf189 rfl (by omega)) (Au (v:=(pP (pB gc.p) (pO gc.p+(i*6+r9*2)))) rfl (AG (j:=r9) rfl rfl Tryz.underlying189 Tryz.sizeOf111 rfl hr3 (Nat.add_assoc _ _ _)) (Au (v:=(aG (Aw (Ao m i 2)))) rfl (AZ (vs:=Aw (Ao m i 2)) (i:=3) rfl rfl (BL.ne gc.ok (by omega)) Bm (IV _ i r9 (by omega) hr3 _ rfl _ (by rw [hr9];rfl)) rfl) (AP.imp rfl (al Id rfl λb7=>?_)))))
      refine AP.back (sl sr) (AP.imp rfl (A6 rfl Tryz.sizeOf111 rfl (AP.back (sl sr) (AP.nil (AC.subF (sL [1,2,3,5,6,7,8,10,4,9] rfl) ?_)))))
      refine q2 (AL rfl (AD.nil (q1 (q4 (AL rfl ?_)))))
      refine AD.nil (AC.then_ (AE.block ?_))
      refine AE.lp2 (tg λ(k:Nat) (a:Int)=>k<=s2.pl.length/\((a = -1/\∀j,j<k->s2.pl.getD j (0,0)≠Ao m i 2)\/0<=a/\a<(k:Int)/\s2.pl.getD (Int.toNat a) (0,0)=Ao m i 2)) (tg λ(k:Nat) (a:Int)=>[(1,(pP b1 0)),(2,(pP b2 0)),(3,(pP b3 0)),(5,(Value.slice gc.p ((BA m).length) gc.c)),(6,(vN i)),(7,(pP b4 0)),(8,(vI 2)),(4,(Value.slice s2.p1 s2.pl.length s2.c1)),(9,(pP b7 0)),(11,(vN k)),(10,(vI a))]) (tg λ(k:Nat) (a:Int)=>[Ac b7 111 (Aw (Ao m i 2)),Ac b6 111 (Aw (Ao m i 1)),Ac b5 111 (Aw (Ao m i 0)),Ac b4 76 ([(vN n1),(vN n2),(vI 0)]),AX gc.p (rowsL A9 (BA m)),rowW s2.p1 111 2 s2.pl.length s2.c1 (rowsL Aw s2.pl),rowW none 76 3 0 0 (rowsL Ai ([])),rowW p3 76 3 ts.length c3 (rowsL Ai ts),rowW s2.p2 102 2 s2.pl.length s2.c2 (rowsL CO (s2.pts m)),Ac b3 99 ([(Value.slice s2.p2 s2.pl.length s2.c2),(Value.slice p3 ts.length c3),(Value.slice none 0 0)]),Ac b2 99 ([(Value.slice none 0 0),(Value.slice none 0 0),(Value.slice none 0 0)]),Ac b1 26 (EJ m),AX m.p (Cp m.cs)]) (tg λ(k:Nat) (a:Int)=>s2.pl.length-k) 0 (-1:Int) (⟨Nat.zero_le _,.inl ⟨rfl,λj hj=>absurd hj (Nat.not_lt_zero _)⟩⟩) (sF rfl) sr (λk a hJ=>?_)
      obtain ⟨hk,ha⟩:=hJ
      refine AE.seq (q4 (AO rfl (AO rfl (AH (v:=(vN s2.pl.length)) (AF rfl Tryz.underlying186) rfl (AH (Ag (c:=(decide (k<s2.pl.length))) rfl rfl (DA (a:=k) (b:=s2.pl.length))) rfl ?_)))))
      refine AD.nil (AC.subF (sL [1,2,3,5,6,7,8,4,9,11,10,49] rfl) (AC.then_ ?_))
      refine AE.cond rfl (λhc2=>?_) (λhc2=>?_)
      ·replace hc2:=of_decide_eq_true hc2
       refine AE.skip (q1 (AE.block (AE.seq (C7 [(0,true),(1,true),(2,true),(3,true),(4,true),(5,true)] sr (Bl rfl ?_)))))
       refine Bl rfl (Au (v:=(pP (pB s2.p1) (pO s2.p1+k*2))) rfl (AQ (j:=k) rfl rfl hs2.o1.row Tryz.underlying186 Tryz.sizeOf111 rfl (by omega)) (Au (v:=(aG (Aw (s2.pl.getD k ((0,0):P2))))) rfl (CJ (vs:=Aw (s2.pl.getD k ((0,0):P2))) (i:=5) rfl rfl hs2.o1 (Aj Cn _) (BL.ne hs2.o1.row (by omega)) Bm (A7 Cn _ _ _ (by omega)) (Cn _)) (Db 0 Bm rfl (Au rfl (Be (c:=decide (s2.pl.getD k ((0,0):P2)=(Ao m i 2))) rfl rfl Tryz.eqGuardType111 (Mk 9998 (s2.pl.getD k ((0,0):P2)) (Ao m i 2))) (AP.nil ?_)))))
       refine AC.subF (sL [1,2,3,5,6,7,8,4,9,11,10,57] rfl) (AC.then_ ?_)
       refine AE.cond rfl (λhc3=>?_) (λhc3=>?_)
       ·replace hc3:=of_decide_eq_true hc3
        refine AE.region (AO rfl (AL rfl (AD.nil (AC.subF (sL [1,2,3,5,6,7,8,4,9,11,10] rfl) (AC.in_normal ?_)))))
        refine AC.then_ (AE.region (AO rfl (AH (AT (c:=((k+1:Nat):Int)) rfl rfl (AR (a:=k) (b:=1) (by omega))) rfl (AL rfl (AD.nil ?_)))))
        exact AC.subF (sL [1,2,3,5,6,7,8,4,9,11,10] rfl) (AC.round2 (k+1) (k:Int) (⟨by omega,.inr ⟨by omega,by omega,by simpa using hc3⟩⟩) (by omega) (sF rfl) sr)
       ·replace hc3:=of_decide_eq_false hc3
        refine AE.skip (AC.in_normal (AC.then_ (AE.region (AO rfl (AH (AT (c:=((k+1:Nat):Int)) rfl rfl (AR (a:=k) (b:=1) (by omega))) rfl ?_)))))
        exact AL rfl (AD.nil (AC.subF (sL [1,2,3,5,6,7,8,4,9,11,10] rfl) (AC.round2 (k+1) a (⟨by omega,ha.elim (λh=>.inl ⟨h.1,λj hj=>by rcases Nat.lt_or_ge j k with h1|h1;exact h.2 j h1;(obtain rfl:j=k:=by omega);simpa using hc3⟩) (λh=>.inr ⟨h.1,by omega,h.2.2⟩)⟩) (by omega) (sF rfl) sr)))
      ·replace hc2:=of_decide_eq_false hc2
       refine AE.exit (AC.then_exit (AC.round2_exit (AC.in_exit (q1 (q4 ?_)))))
       refine AO rfl (AH (Ag (c:=(decide (a<(0:Int)))) rfl rfl rfl) rfl (AD.nil (AC.subF (sL [1,2,3,5,6,7,8,4,9,11,10,60] rfl) (AC.then_ ?_))))
       refine AE.jn2 (tg λ(s3:WS) (n3:Nat)=>WS.Ok s3/\Ff s2.pl (WS.pl s3)/\(WS.pl s3).length<=s2.pl.length+1/\n3<(WS.pl s3).length/\(WS.pl s3).getD n3 (0,0)=Ao m i 2/\∀a,a<(WS.pl s3).length->a<s2.pl.length\/a=n3) (tg λ(s3:WS) (n3:Nat)=>[(1,(pP b1 0)),(2,(pP b2 0)),(3,(pP b3 0)),(5,(Value.slice gc.p ((BA m).length) gc.c)),(6,(vN i)),(7,(pP b4 0)),(8,(vI 2)),(10,(vN n3)),(4,(Value.slice s3.p1 s3.pl.length s3.c1))]) (tg λ(s3:WS) (n3:Nat)=>[Ac b7 111 (Aw (Ao m i 2)),Ac b6 111 (Aw (Ao m i 1)),Ac b5 111 (Aw (Ao m i 0)),Ac b4 76 ([(vN n1),(vN n2),(vI 0)]),AX gc.p (rowsL A9 (BA m)),rowW s3.p1 111 2 s3.pl.length s3.c1 (rowsL Aw s3.pl),rowW none 76 3 0 0 (rowsL Ai ([])),rowW p3 76 3 ts.length c3 (rowsL Ai ts),rowW s3.p2 102 2 s3.pl.length s3.c2 (rowsL CO (s3.pts m)),Ac b3 99 ([(Value.slice s3.p2 s3.pl.length s3.c2),(Value.slice p3 ts.length c3),(Value.slice none 0 0)]),Ac b2 99 ([(Value.slice none 0 0),(Value.slice none 0 0),(Value.slice none 0 0)]),Ac b1 26 (EJ m),AX m.p (Cp m.cs)]) ?_ ?_
       ·skip
        refine AE.cond rfl (λhc4=>?_) (λhc4=>?_)
        ·replace hc4:=of_decide_eq_true hc4
         refine q4 (AO rfl (AH (v:=(vN s2.pl.length)) (AF rfl Tryz.underlying186) rfl (AL rfl (q3 (sL [1,2,3,5,6,7,8,4,9,11,10] rfl) (AO rfl ?_)))))
         refine BF 0 Bm rfl (AD.openV (V:=λb8=>(Value.slice (some ⟨b8,0,none⟩) 1 1)) (T:=111) (cs:=Aw (Ao m i 2)) (AN rfl) (Ah (z:=.agg (Aw ((0,0):P2)).toArray) (cs:=Aw (Ao m i 2)) (pv:=[(0,(aG (Aw (Ao m i 2))))]) Tryz.underlying186 Tryz.sizeOf111 Tryz.zeroValue111 (by decide) (by decide) rfl (EG (Ao m i 2))) rfl (Af rfl) λb8=>AD.appendAt 6 (j:=0) (cs2:=rowsL Aw (s2.pl++[(Ao m i 2)])) R3 rfl hs2.o1 (Aj Cn _) rfl rfl rfl rfl rfl (by decide) (HM (by omega)) (by omega) (by rw [BN];rfl) rfl λp_5 c_5 ho_5 hne_5=>AL rfl (AD.nil (AC.subF (sL [1,2,3,5,6,7,8,4,9,11,10] rfl) ?_)))
         refine AC.then_ (rC [(0,true),(1,true),(2,true),(3,true),(4,false),(5,false),(6,false),(7,true)] 8 [] (sk (sk (sk (sk (sk (sk (sk (sk (sk (sl sr)))))))))) (sk (sk (sk (sk (sk (sk (sk (sk (sk (sl sr)))))))))) (by kernel_rfl) (λ_ _ d _ _ h=>by cases d<;>exact h) (vE (v:=(pP b3 0)) rfl (AA rfl Tryz.underlying99 rfl Tryz.sizeOf97 rfl) rfl (vE rfl (AK (i:=9) (v:=(Value.slice s2.p2 s2.pl.length s2.c2)) rfl rfl QX.a rfl) rfl (vE (v:=(aG (EJ m))) rfl (Ak (i:=11) (vs:=EJ m) rfl rfl Mr.a Mr.s rfl rfl) rfl (vE (v:=(aG (Aw (Ao m i 2)))) rfl (Ak (i:=1) (vs:=Aw (Ao m i 2)) rfl rfl Bm.a Bm.s rfl rfl) rfl ?_)))))
         refine Cg.imp rfl (IC Tryz.call113 (λw hw=>IP m (Ao m i 2) (Du (by omega)) w (Eu hw 13 rfl lm)) rfl (Cg.back (sk (sk (sk (sk (sk (sk (sk (sk (sk (sl sr)))))))))) (Cg.imp rfl (AD.openV (V:=λb9=>(Value.slice (some ⟨b9,0,none⟩) 1 1)) (T:=102) (cs:=CO ((mapM m).at_ (Ao m i 2))) (AN rfl) (Ah (z:=.agg (CO ((0,0):Int×Int)).toArray) (cs:=CO ((mapM m).at_ (Ao m i 2))) (pv:=[(0,(aG (CO ((mapM m).at_ (Ao m i 2)))))]) Tryz.underlying97 Tryz.sizeOf102 Tryz.zeroValue102 (by decide) (by decide) rfl (EA ((mapM m).at_ (Ao m i 2)))) rfl (Af rfl) λb9=>Cg.back (sl (sk (sk (sk (sk (sk (sk (sk (sk (sk (sl sr))))))))))) ?_))))
         refine Cg.imp rfl (AD.appendAt 10 (j:=0) (cs2:=rowsL CO ((s2.pts m)++[((mapM m).at_ (Ao m i 2))])) XD rfl hs2.o2 (by rw [Aj FL];simp [WS.pts]) rfl rfl rfl rfl rfl (by decide) (HM (by omega)) (by omega) (by rw [BN];rfl) rfl λp_6 c_6 ho_6 hne_6=>Cg.back (sl (sk (sk (sk (sk (sk (sk (sk (sk (sk (sl sr))))))))))) (vE (v:=(pP b3 0)) rfl (AA rfl Tryz.underlying99 rfl Tryz.sizeOf97 rfl) rfl (Cg.cut rfl (Gn 11 (off:=0) (vs:=[(Value.slice p_6 (s2.pl.length+1) c_6)]) (cs':=[(Value.slice p_6 (s2.pl.length+1) c_6),(Value.slice p3 ts.length c3),(Value.slice none 0 0)]) (AN rfl) rfl Tryz.sizeOf97 rfl ?_))))
         refine AP.back (sl (sk (sk (sk (sk (sk (sk (sk (sk (sk (sl (sl sr)))))))))))) (AP.nil (AC.subF (sL [1,2,3,5,6,7,8,4,9,11,10] rfl) ?_))
         rw [show s2.pl.length+1=(s2.pl++[Ao m i 2]).length by simp]
         rw [show s2.pts m++[(mapM m).at_ (Ao m i 2)]=WS.pts (WS.mk (s2.pl++[Ao m i 2]) p_5 c_5 p_6 c_6) m by simp [WS.pts]]
         exact AC.join2 (WS.mk (s2.pl++[Ao m i 2]) p_5 c_5 p_6 c_6) s2.pl.length (⟨⟨(by simpa using ho_5),(by simpa using ho_6),λp hp=>(List.mem_append.1 hp).elim (hs2.small p) (λe=>by rw [List.mem_singleton.1 e];exact Du (by omega)),Km hs2.dst (λj hj=>(ha.elim id (λh=>absurd h.1 (by omega))).2 j (by omega))⟩,Ff.snoc _ _,by simp,by simp,C6 _ _,λa ha=>by simp only [List.length_append,List.length_singleton] at ha;omega⟩) (sF rfl) (sl (sl sr))
        ·replace hc4:=of_decide_eq_false hc4
         refine AE.retell (k:=10) (u:=(vN a.toNat)) rfl (by show Value.int _ _=Value.int _ _;congr 1;omega) (AE.skip ?_)
         obtain ⟨ha1,ha2,ha3⟩:=ha.resolve_left (λh=>by have:=h.1;omega)
         exact AC.join2 s2 a.toNat (⟨hs2,Ff.refl _,by omega,by omega,ha3,λa ha=>.inl ha⟩) (sF rfl) sr
       ·intro s3 n3 hJ
        obtain ⟨hs3,hm3,hl3,hn3,hg3,hu3⟩:=hJ
        refine AC.then_ (AE.region (AO rfl (AO rfl (AH (v:=(pP b4 2)) (AG (j:=2) rfl rfl Tryz.underlying76 Tryz.sizeOf3 rfl (by decide) rfl) rfl (Gn 3 (off:=2) (vs:=[(vN n3)]) (cs':=[(vN n1),(vN n2),(vN n3)]) (AN rfl) rfl Tryz.sizeOf3 rfl ?_)))))
        refine AD.nil (AC.subF (sL [1,2,3,5,6,7,8,10,4] rfl) (AC.in_normal (AC.then_ (AE.region (AO rfl ?_)))))
        refine AH (AT (c:=(3:Int)) rfl rfl (by decide)) rfl (AL rfl (AD.nil (AC.subF (sL [1,2,3,5,6,7,8,10,4] rfl) (AC.again (F1.step ?_)))))
        refine AE.seq (q4 (AO rfl (AH (Ag (c:=false) rfl rfl (by decide)) rfl (AD.nil (AC.subF (sL [1,2,3,5,6,7,8,10,4,25] rfl) ?_)))))
        refine AC.then_ (AE.cond_false rfl (AE.exit (AC.then_exit (AC.then_exit (AC.in_exit ?_)))))
        refine AC.then_ (AE.region (AH (v:=(pP b3 1)) (AA rfl Tryz.underlying99 rfl Tryz.sizeOf28 rfl) rfl (BI 9 (Value.slice p3 ts.length c3) Di rfl (BF 3 Hs rfl (AD.openV (V:=λb8=>(Value.slice (some ⟨b8,0,none⟩) 1 1)) (T:=76) (cs:=Ai (n1,n2,n3)) (AN rfl) (Ah (z:=.agg (Ai ((0,0,0):Nat×Nat×Nat)).toArray) (cs:=Ai (n1,n2,n3)) (pv:=[(0,(aG ([(vN n1),(vN n2),(vN n3)])))]) Tryz.underlying28 Tryz.sizeOf76 Tryz.zeroValue76 (by decide) (by decide) rfl (GM (n1,n2,n3))) rfl (Af rfl) λb8=>?_)))))
        refine AD.appendAt 8 (j:=0) (cs2:=rowsL Ai (ts++[(n1,n2,n3)])) Sk rfl h3 (Aj Aq _) rfl rfl rfl rfl rfl (by decide) (HM (by omega)) (by omega) (by rw [BN];rfl) rfl λp_7 c_7 ho_7 hne_7=>AH (v:=(pP b3 1)) (AA rfl Tryz.underlying99 rfl Tryz.sizeOf28 rfl) rfl (Gn 10 (off:=1) (vs:=[(Value.slice p_7 (ts.length+1) c_7)]) (cs':=[(Value.slice s3.p2 s3.pl.length s3.c2),(Value.slice p_7 (ts.length+1) c_7),(Value.slice none 0 0)]) (AN rfl) rfl Tryz.sizeOf28 rfl (AD.nil (AC.subF (sL [1,2,3,5,6,7,8,10,4] rfl) (AC.in_normal ?_))))
        refine AC.then_ (AE.region (AO rfl (AH (AT (c:=((i+1:Nat):Int)) rfl rfl (AR (a:=i) (b:=1) (by omega))) rfl (AL rfl (AD.nil ?_)))))
        refine AC.subF (sL [1,2,3,5,6,7,8,10,4] rfl) ?_
        rw [show ts.length+1=(ts++[(n1,n2,n3)]).length by simp]
        exact AC.round5 (i+1) s3 p_7 c_7 (ts++[(n1,n2,n3)]) (⟨by omega,hs3,(by simpa using ho_7),hv.step ((hm1.trans hm2).trans hm3) (by omega) hs3.small ⟨⟨by show n1<_;have:=hm2.1;have:=hm3.1;omega,(hm3.2 _ (by have:=hm2.1;omega)).trans ((hm2.2 _ (by omega)).trans hg1)⟩,⟨by show n2<_;have:=hm3.1;omega,(hm3.2 _ (by omega)).trans hg2⟩,⟨by show n3<_;omega,hg3⟩⟩ (λa ha=>by rcases hu3 a ha with h|h;(rcases hu2 a h with h|h;(rcases hu1 a h with h|h;exact .inl h;exact .inr (.inl h.symm));exact .inr (.inr (.inl h.symm)));exact .inr (.inr (.inr h.symm)))⟩) (by omega) (sF rfl) (sl (sl (sl (sl (sl sr)))))
 ·replace hc0:=of_decide_eq_false hc0
  have hi9:i=(BA m).length:=by omega
  rw [hi9] at hv
  refine AE.exit (AC.then_exit (AC.round5_exit (AC.in_exit (q1 (q4 ?_)))))
  refine AL rfl (AD.nil (AC.then_ (AE.block ?_)))
  refine AE.lp4 (tg λ(ai:Nat) (p4:Option Addr) (c4:Nat) (ss:List (Nat×Nat×Nat))=>ai<=s.pl.length/\OwnOk p4 ss.length c4/\ss.length<=ai*108/\ss=E9 m ts s.pl.length ai) (tg λ(ai:Nat) (p4:Option Addr) (c4:Nat) (ss:List (Nat×Nat×Nat))=>[(1,(pP b1 0)),(2,(pP b2 0)),(3,(pP b3 0)),(4,(Value.slice s.p1 s.pl.length s.c1)),(12,(vN ai))]) (tg λ(ai:Nat) (p4:Option Addr) (c4:Nat) (ss:List (Nat×Nat×Nat))=>[AX gc.p (rowsL A9 (BA m)),rowW s.p1 111 2 s.pl.length s.c1 (rowsL Aw s.pl),rowW p4 76 3 ss.length c4 (rowsL Ai ss),rowW p3 76 3 ts.length c3 (rowsL Ai ts),rowW s.p2 102 2 s.pl.length s.c2 (rowsL CO (s.pts m)),Ac b3 99 ([(Value.slice s.p2 s.pl.length s.c2),(Value.slice p3 ts.length c3),(Value.slice p4 ss.length c4)]),Ac b2 99 ([(Value.slice none 0 0),(Value.slice none 0 0),(Value.slice none 0 0)]),Ac b1 26 (EJ m),AX m.p (Cp m.cs)]) (tg λ(ai:Nat) (p4:Option Addr) (c4:Nat) (ss:List (Nat×Nat×Nat))=>s.pl.length-ai) 0 none 0 ([]:List (Nat×Nat×Nat)) (⟨Nat.zero_le _,OwnOk.none,by simp,rfl⟩) (sF rfl) sr (λai p4 c4 ss hJ=>?_)
  obtain ⟨hai,h4,hsl,hsd⟩:=hJ
  refine AE.seq (q4 (AO rfl (AO rfl (AH (v:=(vN s.pl.length)) (AF rfl Tryz.underlying186) rfl (AH (Ag (c:=(decide (ai<s.pl.length))) rfl rfl (DA (a:=ai) (b:=s.pl.length))) rfl ?_)))))
  refine AD.nil (AC.subF (sL [1,2,3,4,12,87] rfl) (AC.then_ ?_))
  refine AE.cond rfl (λhc5=>?_) (λhc5=>?_)
  ·replace hc5:=of_decide_eq_true hc5
   refine AE.skip (q1 (AE.block (q4 (AO rfl (AH (AT (c:=((ai+1:Nat):Int)) rfl rfl (AR (a:=ai) (b:=1) (by omega))) rfl ?_)))))
   refine AL rfl (AD.nil (AC.subF (sL [1,2,3,4,12,13] rfl) (AC.then_ (AE.block ?_))))
   refine AE.lp4 (tg λ(bi:Nat) (p5:Option Addr) (c5:Nat) (sq9:List (Nat×Nat×Nat))=>bi<=s.pl.length/\ai+1<=bi/\OwnOk p5 sq9.length c5/\sq9.length<=ai*108+bi/\sq9=E9 m ts s.pl.length ai++Iw m ts ai (bi-(ai+1))) (tg λ(bi:Nat) (p5:Option Addr) (c5:Nat) (sq9:List (Nat×Nat×Nat))=>[(1,(pP b1 0)),(2,(pP b2 0)),(3,(pP b3 0)),(4,(Value.slice s.p1 s.pl.length s.c1)),(12,(vN ai)),(13,(vN bi))]) (tg λ(bi:Nat) (p5:Option Addr) (c5:Nat) (sq9:List (Nat×Nat×Nat))=>[AX gc.p (rowsL A9 (BA m)),rowW s.p1 111 2 s.pl.length s.c1 (rowsL Aw s.pl),rowW p5 76 3 sq9.length c5 (rowsL Ai sq9),rowW p3 76 3 ts.length c3 (rowsL Ai ts),rowW s.p2 102 2 s.pl.length s.c2 (rowsL CO (s.pts m)),Ac b3 99 ([(Value.slice s.p2 s.pl.length s.c2),(Value.slice p3 ts.length c3),(Value.slice p5 sq9.length c5)]),Ac b2 99 ([(Value.slice none 0 0),(Value.slice none 0 0),(Value.slice none 0 0)]),Ac b1 26 (EJ m),AX m.p (Cp m.cs)]) (tg λ(bi:Nat) (p5:Option Addr) (c5:Nat) (sq9:List (Nat×Nat×Nat))=>s.pl.length-bi) (ai+1) p4 c4 ss (⟨by omega,Nat.le_refl _,h4,by omega,by rw [hsd,Nat.sub_self];exact (List.append_nil _).symm⟩) (sF rfl) sr (λbi p5 c5 sq9 hJ=>?_)
   obtain ⟨hbi,hba,h5,hsr,hsq⟩:=hJ
   refine AE.seq (q4 (AO rfl (AO rfl (AH (v:=(vN s.pl.length)) (AF rfl Tryz.underlying186) rfl (AH (Ag (c:=(decide (bi<s.pl.length))) rfl rfl (DA (a:=bi) (b:=s.pl.length))) rfl ?_)))))
   refine AD.nil (AC.subF (sL [1,2,3,4,12,13,95] rfl) (AC.then_ ?_))
   refine AE.cond rfl (λhc6=>?_) (λhc6=>?_)
   ·replace hc6:=of_decide_eq_true hc6
    refine AE.skip (q1 (AE.block (q4 (AL rfl (AD.nil ?_)))))
    refine q1 (q4 (AL rfl (AD.nil (AC.then_ (AE.block ?_)))))
    refine AE.lp2 (tg λ(ti:Nat) (cn:Nat)=>ti<=ts.length/\cn<=ti/\cn=HN ts ai bi ti) (tg λ(ti:Nat) (cn:Nat)=>[(1,(pP b1 0)),(2,(pP b2 0)),(3,(pP b3 0)),(4,(Value.slice s.p1 s.pl.length s.c1)),(12,(vN ai)),(13,(vN bi)),(15,(vN ti)),(14,(vN cn))]) (tg λ(ti:Nat) (cn:Nat)=>[AX gc.p (rowsL A9 (BA m)),rowW s.p1 111 2 s.pl.length s.c1 (rowsL Aw s.pl),rowW p5 76 3 sq9.length c5 (rowsL Ai sq9),rowW p3 76 3 ts.length c3 (rowsL Ai ts),rowW s.p2 102 2 s.pl.length s.c2 (rowsL CO (s.pts m)),Ac b3 99 ([(Value.slice s.p2 s.pl.length s.c2),(Value.slice p3 ts.length c3),(Value.slice p5 sq9.length c5)]),Ac b2 99 ([(Value.slice none 0 0),(Value.slice none 0 0),(Value.slice none 0 0)]),Ac b1 26 (EJ m),AX m.p (Cp m.cs)]) (tg λ(ti:Nat) (cn:Nat)=>ts.length-ti) 0 0 (⟨Nat.zero_le _,Nat.le_refl _,rfl⟩) (sF rfl) sr (λti cn hJ=>?_)
    obtain ⟨hti,hcn,hcw⟩:=hJ
    refine AE.seq (q4 (AO rfl (AH (v:=(pP b3 1)) (AA rfl Tryz.underlying99 rfl Tryz.sizeOf28 rfl) rfl (BI 5 (Value.slice p3 ts.length c3) Di rfl (AH (v:=(vN ts.length)) (AF rfl Tryz.underlying28) rfl ?_)))))
    refine AH (Ag (c:=(decide (ti<ts.length))) rfl rfl (DA (a:=ti) (b:=ts.length))) rfl (AD.nil (AC.subF (sL [1,2,3,4,12,13,15,14,102] rfl) (AC.then_ ?_)))
    refine AE.cond rfl (λhc7=>?_) (λhc7=>?_)
    ·replace hc7:=of_decide_eq_true hc7
     refine AE.skip (q1 (AE.block (q4 (AH (v:=(pP b3 1)) (AA rfl Tryz.underlying99 rfl Tryz.sizeOf28 rfl) rfl (BI 5 (Value.slice p3 ts.length c3) Di rfl ?_)))))
     refine AO rfl (AH (v:=(pP (pB p3) (pO p3+ti*3))) (AQ (j:=ti) rfl rfl h3.row Tryz.underlying28 Tryz.sizeOf76 rfl (by omega)) rfl (AH (v:=(aG (Ai (ts.getD ti ((0,0,0):Nat×Nat×Nat))))) (CJ (vs:=Ai (ts.getD ti ((0,0,0):Nat×Nat×Nat))) (i:=3) rfl rfl h3 (Aj Aq _) (BL.ne h3.row (by omega)) Hs (A7 Aq _ _ _ (by omega)) (Aq _)) rfl (AO rfl (BY Tryz.call114 (R8 (ts.getD ti ((0,0,0):Nat×Nat×Nat)) ai) rfl (AO rfl ?_)))))
     refine AD.mid (FM:=[(1,(pP b1 0)),(2,(pP b2 0)),(3,(pP b3 0)),(4,(Value.slice s.p1 s.pl.length s.c1)),(12,(vN ai)),(13,(vN bi)),(15,(vN ti)),(14,(vN cn)),(105,(pP b3 1)),(106,(Value.slice p3 ts.length c3)),(107,(vN ti)),(108,(pP (pB p3) (pO p3+ti*3))),(109,(aG (Ai (ts.getD ti ((0,0,0):Nat×Nat×Nat))))),(110,(vN ai)),(111,(Value.bool (F0 (ts.getD ti ((0,0,0):Nat×Nat×Nat)) ai))),(112,(Value.bool (F0 (ts.getD ti ((0,0,0):Nat×Nat×Nat)) ai))),(120,(Value.bool ((F0 (ts.getD ti ((0,0,0):Nat×Nat×Nat)) ai)&&(F0 (ts.getD ti ((0,0,0):Nat×Nat×Nat)) bi))))]) (LM:=[AX gc.p (rowsL A9 (BA m)),rowW s.p1 111 2 s.pl.length s.c1 (rowsL Aw s.pl),rowW p5 76 3 sq9.length c5 (rowsL Ai sq9),rowW p3 76 3 ts.length c3 (rowsL Ai ts),rowW s.p2 102 2 s.pl.length s.c2 (rowsL CO (s.pts m)),Ac b3 99 ([(Value.slice s.p2 s.pl.length s.c2),(Value.slice p3 ts.length c3),(Value.slice p5 sq9.length c5)]),Ac b2 99 ([(Value.slice none 0 0),(Value.slice none 0 0),(Value.slice none 0 0)]),Ac b1 26 (EJ m),AX m.p (Cp m.cs)]) 8 ?_ ?_
     ·rcases Bool.eq_false_or_eq_true (F0 (ts.getD ti ((0,0,0):Nat×Nat×Nat)) ai) with hg1|hg1
      ·skip
       refine AD.retell (k:=112) (u:=Value.bool true) rfl (by rw [hg1]) ?_
       have hg1':=hg1
       skip
       refine AD.step (v:=(pP b3 1)) (AB rfl) (AA rfl Tryz.underlying99 rfl Tryz.sizeOf28 rfl) rfl (Af rfl) (AD.step (v:=(Value.slice p3 ts.length c3)) (AB rfl) (AK (i:=5) (v:=(Value.slice p3 ts.length c3)) rfl rfl Di.a rfl) rfl (Af rfl) (AD.step (v:=(vN ti)) (AB rfl) (BU rfl) rfl (Af rfl) (AD.step (v:=(pP (pB p3) (pO p3+ti*3))) (AB rfl) (AQ (j:=ti) rfl rfl h3.row Tryz.underlying28 Tryz.sizeOf76 rfl (by omega)) rfl (Af rfl) (AD.step (v:=(aG (Ai (ts.getD ti ((0,0,0):Nat×Nat×Nat))))) (AB rfl) (CJ (vs:=Ai (ts.getD ti ((0,0,0):Nat×Nat×Nat))) (i:=3) rfl rfl h3 (Aj Aq _) (BL.ne h3.row (by omega)) Hs (A7 Aq _ _ _ (by omega)) (Aq _)) rfl (Af rfl) (AD.step (v:=(vN bi)) (AB rfl) (BU rfl) rfl (Af rfl) ?_)))))
       exact AD.call (v:=(Value.bool (F0 (ts.getD ti ((0,0,0):Nat×Nat×Nat)) bi))) (AB rfl) (A8 (args:=[(aG (Ai (ts.getD ti ((0,0,0):Nat×Nat×Nat)))),(vN bi)]) rfl rfl Tryz.call114) (λw hw=>R8 (ts.getD ti ((0,0,0):Nat×Nat×Nat)) bi w) rfl (Af rfl) (AH (v:=(Value.bool (F0 (ts.getD ti ((0,0,0):Nat×Nat×Nat)) bi))) (Ae rfl rfl) rfl (AD.nil (AC.mid (sS rfl (sS rfl (sS rfl (sS rfl (sS rfl (sS rfl (sS rfl (sS rfl (sS rfl (sS rfl (sS rfl (sS rfl (sS rfl (sS rfl (sS rfl (sS (by first|rfl|(rw [hg1];rfl)|rw [hg1]) (sS (by first|rfl|(rw [hg1];rfl)|rw [hg1]) (sN)))))))))))))))))) (List.Sublist.refl _))))
      ·skip
       refine AD.retell (k:=112) (u:=Value.bool false) rfl (by rw [hg1]) ?_
       have hg1':=hg1
       skip
       refine AD.skip (AM rfl) rfl (Af rfl) (AD.skip (AM rfl) rfl (Af rfl) (AD.skip (AM rfl) rfl (Af rfl) (AD.skip (AM rfl) rfl (Af rfl) (AD.skip (AM rfl) rfl (Af rfl) (AD.skip (AM rfl) rfl (Af rfl) ?_)))))
       exact AD.skip (AM rfl) rfl (Af rfl) (AH (v:=(Value.bool false)) (Aa rfl rfl) rfl (AD.nil (AC.mid (sS rfl (sS rfl (sS rfl (sS rfl (sS rfl (sS rfl (sS rfl (sS rfl (sS rfl (sS rfl (sS rfl (sS rfl (sS rfl (sS rfl (sS rfl (sS (by first|rfl|(rw [hg1];rfl)|rw [hg1]) (sS (by first|rfl|(rw [hg1];rfl)|rw [hg1]) (sN)))))))))))))))))) (List.Sublist.refl _))))
     refine AD.nil (AC.subF (sL [1,2,3,4,12,13,15,14,120] rfl) (AC.then_ ?_))
     refine AE.cond rfl (λhc8=>?_) (λhc8=>?_)
     ·simp only [Bool.and_eq_true,Bool.or_eq_true,Bool.and_eq_false_iff,Bool.or_eq_false_iff,Bool.not_eq_true',Bool.not_eq_false',decide_eq_true_eq,decide_eq_false_iff_not] at hc8
      refine AE.region (AO rfl (AH (AT (c:=((cn+1:Nat):Int)) rfl rfl (AR (a:=cn) (b:=1) (by omega))) rfl (AL rfl (AD.nil (AC.subF (sL [1,2,3,4,12,13,15,14] rfl) ?_)))))
      refine AC.in_normal (AC.then_ (AE.region (AO rfl (AH (AT (c:=((ti+1:Nat):Int)) rfl rfl (AR (a:=ti) (b:=1) (by omega))) rfl (AL rfl ?_)))))
      exact AD.nil (AC.subF (sL [1,2,3,4,12,13,15,14] rfl) (AC.round2 (ti+1) (cn+1) (⟨by omega,by omega,by rw [hcw];exact (Sd hc8).symm⟩) (by omega) (sF rfl) sr))
     ·simp only [Bool.and_eq_true,Bool.or_eq_true,Bool.and_eq_false_iff,Bool.or_eq_false_iff,Bool.not_eq_true',Bool.not_eq_false',decide_eq_true_eq,decide_eq_false_iff_not] at hc8
      refine AE.skip (AC.in_normal (AC.then_ (AE.region (AO rfl (AH (AT (c:=((ti+1:Nat):Int)) rfl rfl (AR (a:=ti) (b:=1) (by omega))) rfl ?_)))))
      exact AL rfl (AD.nil (AC.subF (sL [1,2,3,4,12,13,15,14] rfl) (AC.round2 (ti+1) cn (⟨by omega,by omega,by rw [hcw];exact (UN hc8).symm⟩) (by omega) (sF rfl) sr)))
    ·replace hc7:=of_decide_eq_false hc7
     have hte:ti=ts.length:=by omega
     rw [hte] at hcw
     refine AE.exit (AC.then_exit (AC.round2_exit (AC.in_exit (q2 (AO rfl ?_)))))
     refine AH (Bp (c:=(decide (cn=1))) rfl rfl (Pm (a:=cn) (b:=1))) rfl (AD.nil (AC.subF (sL [1,2,3,4,12,13,15,14,124] rfl) (AC.then_ ?_)))
     refine AE.cond rfl (λhc9=>?_) (λhc9=>?_)
     ·replace hc9:=of_decide_eq_true hc9
      refine AE.region (AH (v:=(pP b3 2)) (AA rfl Tryz.underlying99 rfl Tryz.sizeOf28 rfl) rfl (BI 5 (Value.slice p5 sq9.length c5) Di rfl (AO rfl (AO rfl (AO rfl ?_)))))
      refine AO rfl (AH (BZ (c:=((3*bi:Nat):Int)) rfl rfl (Bq (a:=3) (b:=bi) (by omega))) rfl (AH (AT (c:=((ai+(3*bi):Nat):Int)) rfl rfl (AR (a:=ai) (b:=3*bi) (by omega))) rfl (AH (v:=(pP b1 8)) (AA rfl Tryz.underlying26 rfl Tryz.sizeOf5 rfl) rfl (BI 7 (vK .u8 m.fst) TH rfl (AH (Ar (c:=((m.fst:Nat):Int)) rfl Tryz.underlying5 Tryz.underlying3 (CU (by omega))) rfl ?_)))))
      refine AH (AT (c:=(((ai+(3*bi))+m.fst:Nat):Int)) rfl rfl (AR (a:=ai+(3*bi)) (b:=m.fst) (by omega))) rfl (AH (CN (c:=((((ai+(3*bi))+m.fst)%5:Nat):Int)) rfl rfl (by omega) (IS (a:=(ai+(3*bi))+m.fst) (b:=5))) rfl (AH (v:=(aG (Ai (ai,bi,((ai+(3*bi))+m.fst)%5)))) (Ap (zs:=Ai ((0,0,0):Nat×Nat×Nat)) (vs:=Ai (ai,bi,((ai+(3*bi))+m.fst)%5)) (pv:=[(0,(vN ai)),(1,(vN bi)),(2,(vN (((ai+(3*bi))+m.fst)%5)))]) Tryz.zeroValue76 Tryz.underlying76 Tryz.sizeOf3 rfl (J_ ai bi (((ai+(3*bi))+m.fst)%5))) rfl (AD.openV (V:=λb4=>(Value.slice (some ⟨b4,0,none⟩) 1 1)) (T:=76) (cs:=Ai (ai,bi,((ai+(3*bi))+m.fst)%5)) (AN rfl) (Ah (z:=.agg (Ai ((0,0,0):Nat×Nat×Nat)).toArray) (cs:=Ai (ai,bi,((ai+(3*bi))+m.fst)%5)) (pv:=[(0,(aG (Ai (ai,bi,((ai+(3*bi))+m.fst)%5))))]) Tryz.underlying28 Tryz.sizeOf76 Tryz.zeroValue76 (by decide) (by decide) rfl (GM (ai,bi,((ai+(3*bi))+m.fst)%5))) rfl (Af rfl) λb4=>AD.appendAt 3 (j:=0) (cs2:=rowsL Ai (sq9++[(ai,bi,((ai+(3*bi))+m.fst)%5)])) Sk rfl h5 (Aj Aq _) rfl rfl rfl rfl rfl (by decide) (HM (by omega)) (by omega) (by rw [BN];rfl) rfl λp_8 c_8 ho_8 hne_8=>AH (v:=(pP b3 2)) (AA rfl Tryz.underlying99 rfl Tryz.sizeOf28 rfl) rfl ?_)))
      refine Gn 6 (off:=2) (vs:=[(Value.slice p_8 (sq9.length+1) c_8)]) (cs':=[(Value.slice s.p2 s.pl.length s.c2),(Value.slice p3 ts.length c3),(Value.slice p_8 (sq9.length+1) c_8)]) (AN rfl) rfl Tryz.sizeOf28 rfl (AD.nil (AC.subF (sL [1,2,3,4,12,13,15,14] rfl) (AC.in_normal (AC.then_ (AE.region ?_)))))
      refine AO rfl (AH (AT (c:=((bi+1:Nat):Int)) rfl rfl (AR (a:=bi) (b:=1) (by omega))) rfl (AL rfl (AD.nil (AC.subF (sL [1,2,3,4,12,13,15,14] rfl) ?_))))
      rw [show sq9.length+1=(sq9++[(ai,bi,((ai+(3*bi))+m.fst)%5)]).length by simp]
      exact AC.round4 (bi+1) p_8 c_8 (sq9++[(ai,bi,((ai+(3*bi))+m.fst)%5)]) (⟨by omega,by omega,(by simpa using ho_8),by rw [List.length_append];simp only [List.length_singleton];omega,(by rw [hsq];exact Rc (by omega) (by rw [<-hcw,hc9]))⟩) (by omega) (sF rfl) (sl sr)
     ·replace hc9:=of_decide_eq_false hc9
      refine AE.skip (AC.in_normal (AC.then_ (AE.region (AO rfl (AH (AT (c:=((bi+1:Nat):Int)) rfl rfl (AR (a:=bi) (b:=1) (by omega))) rfl ?_)))))
      exact AL rfl (AD.nil (AC.subF (sL [1,2,3,4,12,13,15,14] rfl) (AC.round4 (bi+1) p5 c5 sq9 (⟨by omega,by omega,h5,by omega,(by rw [hsq];exact Vs (by omega) (by rw [<-hcw];exact hc9))⟩) (by omega) (sF rfl) sr)))
   ·replace hc6:=of_decide_eq_false hc6
    refine AE.exit (AC.then_exit (AC.round4_exit (AC.in_exit (AC.in_normal (AC.then_ ?_)))))
    exact AE.region (AO rfl (AH (AT (c:=((ai+1:Nat):Int)) rfl rfl (AR (a:=ai) (b:=1) (by omega))) rfl (AL rfl (AD.nil (AC.subF (sL [1,2,3,4,12,13] rfl) (AC.round4 (ai+1) p5 c5 sq9 (⟨by omega,h5,by omega,by rw [hsq,show bi=s.pl.length by omega];rfl⟩) (by omega) (sF rfl) sr))))))
  ·replace hc5:=of_decide_eq_false hc5
   refine AE.exit (AC.then_exit (AC.round4_exit (AC.in_exit (q2 (BF 5 YO rfl ?_)))))
   exact Gn 6 (off:=0) (vs:=[(Value.slice s.p2 s.pl.length s.c2),(Value.slice p3 ts.length c3),(Value.slice p4 ss.length c4)]) (cs':=[(Value.slice s.p2 s.pl.length s.c2),(Value.slice p3 ts.length c3),(Value.slice p4 ss.length c4)]) (AN rfl) rfl Tryz.sizeOf99 rfl (AD.nil (AC.subF (sL [1,2,3,4,12] rfl) (AC.then_ (AE.ret (AU rfl (Ay (i:=6) (cs:=[(Value.slice s.p2 s.pl.length s.c2),(Value.slice p3 ts.length c3),(Value.slice p4 ss.length c4)]) rfl rfl Tryz.isAgg99 Tryz.sizeOf99 rfl) (λw hw=>(Xt hw (WM.mk s.pl ts ss hv hs.dst (by omega) (by rw [hsd,show ai=s.pl.length by omega]) ⟨s.p2,s.c2,hs.o2.row⟩ ⟨p3,c3,h3.row⟩ ⟨p4,c4,h4.row⟩) h3 3 rfl (EN (S:=λ_=>False) hw 4 rfl hs.o2 (by rw [Aj FL];simp [WS.pts])) (EN (S:=λ_=>False) hw 3 rfl h3 (Aj Aq _)) (EN (S:=λ_=>False) hw 2 rfl h4 (Aj Aq _)) rfl)))))))
end
end Go.Proofs.YtfbomiejpbchdaaGreat
