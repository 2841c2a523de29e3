import Derived.Test.YtfbomiejpbchdaaGreatPart06
import Derived.Test.YtfbomiejpbchdaaGreatPart14
import Derived.Test.YtfbomiejpbchdaaGreatPart23
import Derived.Test.YtfbomiejpbchdaaGreatPart24
namespace Go.Proofs.YtfbomiejpbchdaaGreat
open Go Go.RowKit
set_option linter.unusedVariables false
set_option linter.unusedSimpArgs false
section
set_option maxRecDepth 100000
theorem S0:ElemT Tryz.prog 186 111 2 16:=⟨Tryz.underlying186,EX (by kernel_rfl)⟩
theorem Sh:ElemT Tryz.prog 28 76 3 24:=⟨Tryz.underlying28,EX (by kernel_rfl)⟩
theorem Xn:ElemT Tryz.prog 97 102 2 16:=⟨Tryz.underlying97,EX (by kernel_rfl)⟩
theorem Uo (t:Nat×Nat×Nat) (x:Nat) (w:World)  :Calls Tryz.prog 114 #[(aG (Al t)),(vN x)] w (Am w (Value.bool (GW t x))):=by
 refine Ac (args:=[(aG (Al t)),(vN x)]) Tryz.func114 rfl rfl (Ad rfl) (AG.subF (sL [0,1] rfl) (q4 (Bl (cs:=Al t) rfl λb1=>AK rfl (q3 (sL [1,2,4] rfl) ?_))))
 refine AJ (v:=(pP b1 0)) (AE (j:=0) rfl rfl Tryz.underlying76 Tryz.sizeOf3 rfl (by decide) rfl) rfl (BL 0 (vN t.1) B4 rfl (AO rfl (AJ (Be (c:=(decide (t.1=x))) rfl rfl (Og (a:=t.1) (b:=x))) rfl (AO rfl ?_))))
 refine AF.mid (FM:=[(1,(vN x)),(2,(pP b1 0)),(4,(Value.bool false)),(5,(pP b1 0)),(6,(vN t.1)),(7,(vN x)),(8,(Value.bool (decide (t.1=x)))),(9,(Value.bool (decide (t.1=x)))),(14,(Value.bool ((decide (t.1=x))||(decide (t.2.1=x)))))]) (LM:=[Ah b1 76 (Al t)]) 5 ?_ ?_
 ·rcases Bool.eq_false_or_eq_true (decide (t.1=x)) with hg1|hg1
  ·skip
   refine AF.retell (k:=9) (u:=Value.bool true) rfl (by rw [hg1]) ?_
   have hg1':=hg1
   replace hg1':=of_decide_eq_true hg1'
   exact AF.skip (AP rfl) rfl (Ad rfl) (AF.skip (AP rfl) rfl (Ad rfl) (AF.skip (AP rfl) rfl (Ad rfl) (AF.skip (AP rfl) rfl (Ad rfl) (AJ (v:=(Value.bool true)) (Aj rfl rfl) rfl (AF.nil (AC.mid (sS rfl (sS rfl (sS rfl (sS rfl (sS rfl (sS rfl (sS rfl (sS (by first|rfl|(rw [hg1];rfl)|rw [hg1]) (sS (by first|rfl|(rw [hg1];rfl)|rw [hg1]) (sN)))))))))) (List.Sublist.refl _)))))))
  ·skip
   refine AF.retell (k:=9) (u:=Value.bool false) rfl (by rw [hg1]) ?_
   have hg1':=hg1
   replace hg1':=of_decide_eq_false hg1'
   exact AF.step (v:=(pP b1 1)) (AB rfl) (AE (j:=1) rfl rfl Tryz.underlying76 Tryz.sizeOf3 rfl (by decide) rfl) rfl (Ad rfl) (AF.step (v:=(vN t.2.1)) (AB rfl) (AM (i:=0) (v:=(vN t.2.1)) rfl rfl B4.a rfl) rfl (Ad rfl) (AF.step (v:=(vN x)) (AB rfl) (A9 rfl) rfl (Ad rfl) (AF.step (v:=(Value.bool (decide (t.2.1=x)))) (AB rfl) (Be (c:=(decide (t.2.1=x))) rfl rfl (Og (a:=t.2.1) (b:=x))) rfl (Ad rfl) (AJ (v:=(Value.bool (decide (t.2.1=x)))) (AV rfl rfl) rfl (AF.nil (AC.mid (sS rfl (sS rfl (sS rfl (sS rfl (sS rfl (sS rfl (sS rfl (sS (by first|rfl|(rw [hg1];rfl)|rw [hg1]) (sS (by first|rfl|(rw [hg1];rfl)|rw [hg1]) (sN)))))))))) (List.Sublist.refl _)))))))
 refine AO rfl ?_
 refine AF.mid (FM:=[(1,(vN x)),(2,(pP b1 0)),(4,(Value.bool false)),(5,(pP b1 0)),(6,(vN t.1)),(7,(vN x)),(8,(Value.bool (decide (t.1=x)))),(9,(Value.bool (decide (t.1=x)))),(14,(Value.bool ((decide (t.1=x))||(decide (t.2.1=x))))),(15,(Value.bool ((decide (t.1=x))||(decide (t.2.1=x))))),(20,(Value.bool (((decide (t.1=x))||(decide (t.2.1=x)))||(decide (t.2.2=x)))))]) (LM:=[Ah b1 76 (Al t)]) 5 ?_ ?_
 ·rcases Bool.eq_false_or_eq_true ((decide (t.1=x))||(decide (t.2.1=x))) with hg2|hg2
  ·skip
   refine AF.retell (k:=15) (u:=Value.bool true) rfl (by rw [hg2]) ?_
   have hg2':=hg2
   simp only [Bool.and_eq_true,Bool.or_eq_true,Bool.and_eq_false_iff,Bool.or_eq_false_iff,Bool.not_eq_true',Bool.not_eq_false',decide_eq_true_eq,decide_eq_false_iff_not] at hg2'
   exact AF.skip (AP rfl) rfl (Ad rfl) (AF.skip (AP rfl) rfl (Ad rfl) (AF.skip (AP rfl) rfl (Ad rfl) (AF.skip (AP rfl) rfl (Ad rfl) (AJ (v:=(Value.bool true)) (Aj rfl rfl) rfl (AF.nil (AC.mid (sS rfl (sS rfl (sS rfl (sS rfl (sS rfl (sS rfl (sS rfl (sS rfl (sS rfl (sS (by first|rfl|(rw [hg2];rfl)|rw [hg2]) (sS (by first|rfl|(rw [hg2];rfl)|rw [hg2]) (sN)))))))))))) (List.Sublist.refl _)))))))
  ·skip
   refine AF.retell (k:=15) (u:=Value.bool false) rfl (by rw [hg2]) ?_
   have hg2':=hg2
   simp only [Bool.and_eq_true,Bool.or_eq_true,Bool.and_eq_false_iff,Bool.or_eq_false_iff,Bool.not_eq_true',Bool.not_eq_false',decide_eq_true_eq,decide_eq_false_iff_not] at hg2'
   exact AF.step (v:=(pP b1 2)) (AB rfl) (AE (j:=2) rfl rfl Tryz.underlying76 Tryz.sizeOf3 rfl (by decide) rfl) rfl (Ad rfl) (AF.step (v:=(vN t.2.2)) (AB rfl) (AM (i:=0) (v:=(vN t.2.2)) rfl rfl B4.a rfl) rfl (Ad rfl) (AF.step (v:=(vN x)) (AB rfl) (A9 rfl) rfl (Ad rfl) (AF.step (v:=(Value.bool (decide (t.2.2=x)))) (AB rfl) (Be (c:=(decide (t.2.2=x))) rfl rfl (Og (a:=t.2.2) (b:=x))) rfl (Ad rfl) (AJ (v:=(Value.bool (decide (t.2.2=x)))) (AV rfl rfl) rfl (AF.nil (AC.mid (sS rfl (sS rfl (sS rfl (sS rfl (sS rfl (sS rfl (sS rfl (sS rfl (sS rfl (sS (by first|rfl|(rw [hg2];rfl)|rw [hg2]) (sS (by first|rfl|(rw [hg2];rfl)|rw [hg2]) (sN)))))))))))) (List.Sublist.refl _)))))))
 exact AK rfl (AF.nil (AC.subF (sL [4] rfl) (AC.then_ (AG.ret (AR rfl (Ai (v:=(Value.bool (((decide (t.1=x))||(decide (t.2.1=x)))||(decide (t.2.2=x))))) rfl) (λw hw=>⟨by first|rfl|simp [GW,Bool.or_assoc],hw.out⟩))))))
theorem Eg (x0:P2):Instr.fill (λi=>some (i*2,2)) ((Array.range (1*2)).map ((Value.agg (A_ ((0,0):P2)).toArray).cells[·%(Value.agg (A_ ((0,0):P2)).toArray).cells.size]!)) [(0,.agg (A_ x0).toArray)]=some (A_ x0).toArray:=by kernel_rfl
theorem El (x0:Int×Int):Instr.fill (λi=>some (i*2,2)) ((Array.range (1*2)).map ((Value.agg (CT ((0,0):Int×Int)).toArray).cells[·%(Value.agg (CT ((0,0):Int×Int)).toArray).cells.size]!)) [(0,.agg (CT x0).toArray)]=some (CT x0).toArray:=by kernel_rfl
theorem Gd (x0:Nat×Nat×Nat):Instr.fill (λi=>some (i*3,3)) ((Array.range (1*3)).map ((Value.agg (Al ((0,0,0):Nat×Nat×Nat)).toArray).cells[·%(Value.agg (Al ((0,0,0):Nat×Nat×Nat)).toArray).cells.size]!)) [(0,.agg (Al x0).toArray)]=some (Al x0).toArray:=by kernel_rfl
theorem LC (x0 x1 x2:Nat):Instr.fill (λi=>some (i*1,1)) (Al ((0,0,0):Nat×Nat×Nat)).toArray [(0,vN x0),(1,vN x1),(2,vN x2)]=some (Al (x0,x1,x2)).toArray:=by kernel_rfl
set_option maxHeartbeats 2000000 in
theorem Pr (m:MQ) (w:World) {S:Nat->Prop} (hm:Ro S w m):Calls Tryz.prog 44 #[(aG (Eu m))] w (Bp (Xr m) (λ_=>False) w):=by
 have hf:=m.hfst
 have hf3:m.fst/3<=85:=by omega
 have lm:=FS (W:=w) hm
 refine BH (args:=[(aG (Eu m))]) (L:=[Ag m.p (C8 m.cs)]) Tryz.func44 rfl rfl (Ad rfl) (FP hm BY) (AG.subF (sL [0] rfl) (q4 (Bl (cs:=Eu m) rfl λb1=>al Xx rfl λb2=>q3 (sL [1,2] rfl) ?_)))
 refine al Xx rfl λb3=>AF.nilRow 102 2 (AF.nilRow 76 3 (AF.nilRow 76 3 (AF.nil (q2 ?_))))
 refine AK rfl (AF.nilRow 111 2 (AF.nil (q2 (A7 6 NG rfl (cX (S:=S) (cs:=rowsL BF (BD m)) (k:=(BD m).length) (args:=[(aG (Eu m))]) Tryz.call112 (λw hw=>RE m w (Dn hw 7 rfl lm)) rfl rfl rfl λgc lgc=>?_)))))
 refine AK rfl (q6 (sL [1,2,3,4,5] rfl) (q4 (AK rfl (AF.nil (AC.then_ ?_)))))
 refine AG.block ?_
 refine AG.lp5 (tg λ(i:Nat) (s:WS) (p3:Option Addr) (c3:Nat) (ts:List (Nat×Nat×Nat))=>i<=(BD m).length/\WS.Ok s/\OwnOk p3 ts.length c3/\M0 m i (WS.pl s) ts) (tg λ(i:Nat) (s:WS) (p3:Option Addr) (c3:Nat) (ts:List (Nat×Nat×Nat))=>[(1,(pP b1 0)),(2,(pP b2 0)),(3,(pP b3 0)),(5,(Value.slice gc.p ((BD m).length) gc.c)),(6,(vN i)),(4,(Value.slice s.p1 s.pl.length s.c1))]) (tg λ(i:Nat) (s:WS) (p3:Option Addr) (c3:Nat) (ts:List (Nat×Nat×Nat))=>[Ag gc.p (rowsL BF (BD m)),rowW s.p1 111 2 s.pl.length s.c1 (rowsL A_ s.pl),rowW none 76 3 0 0 (rowsL Al ([])),rowW p3 76 3 ts.length c3 (rowsL Al ts),rowW s.p2 102 2 s.pl.length s.c2 (rowsL CT (s.pts m)),Ah b3 99 ([(Value.slice s.p2 s.pl.length s.c2),(Value.slice p3 ts.length c3),(Value.slice none 0 0)]),Ah b2 99 ([(Value.slice none 0 0),(Value.slice none 0 0),(Value.slice none 0 0)]),Ah b1 26 (Eu m),Ag m.p (C8 m.cs)]) (tg λ(i:Nat) (s:WS) (p3:Option Addr) (c3:Nat) (ts:List (Nat×Nat×Nat))=>(BD m).length-i) 0 (WS.mk [] none 0 none 0) none 0 ([]:List (Nat×Nat×Nat)) (⟨Nat.zero_le _,⟨OwnOk.none,OwnOk.none,(λp hp=>by cases hp),Wf⟩,OwnOk.none,Y1 m⟩) (sF rfl) sr (λi s p3 c3 ts hJ=>?_)
 obtain ⟨hi,hs,h3,hv⟩:=hJ
 have hpl:=hv.pll
 have htl:=hv.tl
 have hcl:=Hj m
 refine AG.seq (q4 (AO rfl (AO rfl (AJ (v:=(vN ((BD m).length))) (AI rfl Tryz.underlying187) rfl (AJ (Af (c:=(decide (i<((BD m).length)))) rfl rfl (DL (a:=i) (b:=(BD m).length))) rfl ?_)))))
 refine AF.nil (AC.subF (sL [1,2,3,5,6,4,21] rfl) (AC.then_ ?_))
 refine AG.cond rfl (λhc0=>?_) (λhc0=>?_)
 ·replace hc0:=of_decide_eq_true hc0
  refine AG.skip (q1 (AG.block (q4 (al ON rfl λb4=>AF.nil ?_))))
  refine q1 (q4 (AK rfl (AF.nil (AC.then_ (AG.block ?_)))))
  refine AG.unroll 4 (Dr.step (AG.seq (q4 (AO rfl (AJ (Af (c:=true) rfl rfl (by decide)) rfl ?_)))))
  refine AF.nil (AC.subF (sL [1,2,3,5,6,4,7,8,25] rfl) (AC.then_ (AG.cond_true rfl (AG.skip (q1 ?_)))))
  refine AG.block (AG.seq (Cq [(0,true),(1,true),(2,true),(3,true),(4,true),(5,true),(6,true),(7,true),(8,true),(9,true),(10,true),(11,true),(12,true),(13,true),(14,true),(15,true),(16,true),(17,true),(18,false),(19,false)] sr (Bc rfl (Bc rfl (Bc rfl ?_)))))
  refine Av (v:=(pP b1 8)) rfl (AA rfl Tryz.underlying26 rfl Tryz.sizeOf5 rfl) (Bg 8 (vK .u8 m.fst) Tn rfl (Av rfl (Az (c:=((m.fst:Nat):Int)) rfl Tryz.underlying5 Tryz.underlying3 (CZ (by omega))) (Av rfl (AX (c:=((0+m.fst:Nat):Int)) rfl rfl (Ab (a:=0) (b:=m.fst) (by omega))) (Bc rfl (Av (v:=(pP b1 8)) rfl (AA rfl Tryz.underlying26 rfl Tryz.sizeOf5 rfl) ?_)))))
  refine Bg 8 (vK .u8 m.fst) Tn rfl (Av rfl (GH (c:=((m.fst/3:Nat):Int)) rfl rfl (by omega) (NM (a:=m.fst) (b:=3) (by omega))) (Av rfl (Az (c:=((m.fst/3:Nat):Int)) rfl Tryz.underlying5 Tryz.underlying3 (CZ (by omega))) ?_))
  have hmul:i*(m.fst/3)<=36*85:=Nat.mul_le_mul (by omega) hf3
  refine Av rfl (Bq (c:=((i*(m.fst/3):Nat):Int)) rfl rfl (Ca (a:=i) (b:=m.fst/3) (by omega))) (Av rfl (AX (c:=(((0+m.fst)+(i*(m.fst/3)):Nat):Int)) rfl rfl (Ab (a:=0+m.fst) (b:=i*(m.fst/3)) (by omega))) ?_)
  obtain ⟨r9,hr9⟩:∃r,r=Iq m i 0:=⟨_,rfl⟩
  have hr3:r9<3:=by rw [hr9];exact Nat.mod_lt _ (by decide)
  refine Av rfl (CF (c:=((r9:Nat):Int)) rfl rfl (by decide) (by rw [hr9];exact Ie (a:=0+m.fst+i*(m.fst/3)) (b:=3))) (Av (v:=(pP (pB gc.p) (pO gc.p+i*6))) rfl (AW (j:=i) rfl rfl gc.ok Tryz.underlying187 Tryz.sizeOf189 rfl (by omega)) (Av (v:=(pP (pB gc.p) (pO gc.p+(i*6+r9*2)))) rfl (AE (j:=r9) rfl rfl Tryz.underlying189 Tryz.sizeOf111 rfl hr3 (Nat.add_assoc _ _ _)) (Av (v:=(aG (A_ (Ax m i 0)))) rfl (AU (vs:=A_ (Ax m i 0)) (i:=1) rfl rfl (BQ.ne gc.ok (by omega)) Bs (Iu _ i r9 (by omega) hr3 _ rfl _ (by rw [hr9];rfl)) rfl) (AS.imp rfl (al JJ rfl λb5=>?_)))))
  refine AS.back (sl sr) (AS.imp rfl (Ap rfl Tryz.sizeOf111 rfl (AS.back (sl sr) (AS.nil (AC.subF (sL [1,2,3,5,6,4,7,8,9] rfl) ?_)))))
  refine q2 (AK rfl (AF.nil (q1 (q4 (AK rfl ?_)))))
  refine AF.nil (AC.then_ (AG.block ?_))
  refine AG.lp2 (tg λ(k:Nat) (a:Int)=>k<=s.pl.length/\((a = -1/\∀j,j<k->s.pl.getD j (0,0)≠Ax m i 0)\/0<=a/\a<(k:Int)/\s.pl.getD (Int.toNat a) (0,0)=Ax m i 0)) (tg λ(k:Nat) (a:Int)=>[(1,(pP b1 0)),(2,(pP b2 0)),(3,(pP b3 0)),(5,(Value.slice gc.p ((BD m).length) gc.c)),(6,(vN i)),(4,(Value.slice s.p1 s.pl.length s.c1)),(7,(pP b4 0)),(8,(vI 0)),(9,(pP b5 0)),(11,(vN k)),(10,(vI a))]) (tg λ(k:Nat) (a:Int)=>[Ah b5 111 (A_ (Ax m i 0)),Ah b4 76 (Al ((0,0,0):Nat×Nat×Nat)),Ag gc.p (rowsL BF (BD m)),rowW s.p1 111 2 s.pl.length s.c1 (rowsL A_ s.pl),rowW none 76 3 0 0 (rowsL Al ([])),rowW p3 76 3 ts.length c3 (rowsL Al ts),rowW s.p2 102 2 s.pl.length s.c2 (rowsL CT (s.pts m)),Ah b3 99 ([(Value.slice s.p2 s.pl.length s.c2),(Value.slice p3 ts.length c3),(Value.slice none 0 0)]),Ah b2 99 ([(Value.slice none 0 0),(Value.slice none 0 0),(Value.slice none 0 0)]),Ah b1 26 (Eu m),Ag m.p (C8 m.cs)]) (tg λ(k:Nat) (a:Int)=>s.pl.length-k) 0 (-1:Int) (⟨Nat.zero_le _,.inl ⟨rfl,λj hj=>absurd hj (Nat.not_lt_zero _)⟩⟩) (sF rfl) sr (λk a hJ=>?_)
  obtain ⟨hk,ha⟩:=hJ
  refine AG.seq (q4 (AO rfl (AO rfl (AJ (v:=(vN s.pl.length)) (AI rfl Tryz.underlying186) rfl (AJ (Af (c:=(decide (k<s.pl.length))) rfl rfl (DL (a:=k) (b:=s.pl.length))) rfl ?_)))))
  refine AF.nil (AC.subF (sL [1,2,3,5,6,4,7,8,9,11,10,49] rfl) (AC.then_ ?_))
  refine AG.cond rfl (λhc2=>?_) (λhc2=>?_)
  ·replace hc2:=of_decide_eq_true hc2
   refine AG.skip (q1 (AG.block (AG.seq (Cq [(0,true),(1,true),(2,true),(3,true),(4,true),(5,true)] sr (Bc rfl ?_)))))
   refine Bc rfl (Av (v:=(pP (pB s.p1) (pO s.p1+k*2))) rfl (AW (j:=k) rfl rfl hs.o1.row Tryz.underlying186 Tryz.sizeOf111 rfl (by omega)) (Av (v:=(aG (A_ (s.pl.getD k ((0,0):P2))))) rfl (CO (vs:=A_ (s.pl.getD k ((0,0):P2))) (i:=3) rfl rfl hs.o1 (Ak C3 _) (BQ.ne hs.o1.row (by omega)) Bs (Au C3 _ _ _ (by omega)) (C3 _)) (Fz 0 Bs rfl (Av rfl (Bj (c:=decide (s.pl.getD k ((0,0):P2)=(Ax m i 0))) rfl rfl Tryz.eqGuardType111 (NJ 9998 (s.pl.getD k ((0,0):P2)) (Ax m i 0))) (AS.nil ?_)))))
   refine AC.subF (sL [1,2,3,5,6,4,7,8,9,11,10,57] rfl) (AC.then_ ?_)
   refine AG.cond rfl (λhc3=>?_) (λhc3=>?_)
   ·replace hc3:=of_decide_eq_true hc3
    refine AG.region (AO rfl (AK rfl (AF.nil (AC.subF (sL [1,2,3,5,6,4,7,8,9,11,10] rfl) (AC.in_normal ?_)))))
    refine AC.then_ (AG.region (AO rfl (AJ (AX (c:=((k+1:Nat):Int)) rfl rfl (Ab (a:=k) (b:=1) (by omega))) rfl (AK rfl (AF.nil ?_)))))
    exact AC.subF (sL [1,2,3,5,6,4,7,8,9,11,10] rfl) (AC.round2 (k+1) (k:Int) (⟨by omega,.inr ⟨by omega,by omega,by simpa using hc3⟩⟩) (by omega) (sF rfl) sr)
   ·replace hc3:=of_decide_eq_false hc3
    refine AG.skip (AC.in_normal (AC.then_ (AG.region (AO rfl (AJ (AX (c:=((k+1:Nat):Int)) rfl rfl (Ab (a:=k) (b:=1) (by omega))) rfl ?_)))))
    exact AK rfl (AF.nil (AC.subF (sL [1,2,3,5,6,4,7,8,9,11,10] rfl) (AC.round2 (k+1) a (⟨by omega,ha.elim (λh=>.inl ⟨h.1,λj hj=>by rcases Nat.lt_or_ge j k with h1|h1;exact h.2 j h1;(obtain rfl:j=k:=by omega);simpa using hc3⟩) (λh=>.inr ⟨h.1,by omega,h.2.2⟩)⟩) (by omega) (sF rfl) sr)))
  ·replace hc2:=of_decide_eq_false hc2
   refine AG.exit (AC.then_exit (AC.round2_exit (AC.in_exit (q1 (q4 ?_)))))
   refine AO rfl (AJ (Af (c:=(decide (a<(0:Int)))) rfl rfl rfl) rfl (AF.nil (AC.subF (sL [1,2,3,5,6,4,7,8,9,11,10,60] rfl) (AC.then_ ?_))))
   refine AG.jn2 (tg λ(s1:WS) (n1:Nat)=>WS.Ok s1/\F1 s.pl (WS.pl s1)/\(WS.pl s1).length<=s.pl.length+1/\n1<(WS.pl s1).length/\(WS.pl s1).getD n1 (0,0)=Ax m i 0/\∀a,a<(WS.pl s1).length->a<s.pl.length\/a=n1) (tg λ(s1:WS) (n1:Nat)=>[(1,(pP b1 0)),(2,(pP b2 0)),(3,(pP b3 0)),(5,(Value.slice gc.p ((BD m).length) gc.c)),(6,(vN i)),(7,(pP b4 0)),(8,(vI 0)),(10,(vN n1)),(4,(Value.slice s1.p1 s1.pl.length s1.c1))]) (tg λ(s1:WS) (n1:Nat)=>[Ah b5 111 (A_ (Ax m i 0)),Ah b4 76 (Al ((0,0,0):Nat×Nat×Nat)),Ag gc.p (rowsL BF (BD m)),rowW s1.p1 111 2 s1.pl.length s1.c1 (rowsL A_ s1.pl),rowW none 76 3 0 0 (rowsL Al ([])),rowW p3 76 3 ts.length c3 (rowsL Al ts),rowW s1.p2 102 2 s1.pl.length s1.c2 (rowsL CT (s1.pts m)),Ah b3 99 ([(Value.slice s1.p2 s1.pl.length s1.c2),(Value.slice p3 ts.length c3),(Value.slice none 0 0)]),Ah b2 99 ([(Value.slice none 0 0),(Value.slice none 0 0),(Value.slice none 0 0)]),Ah b1 26 (Eu m),Ag m.p (C8 m.cs)]) ?_ ?_
   ·skip
    refine AG.cond rfl (λhc4=>?_) (λhc4=>?_)
    ·replace hc4:=of_decide_eq_true hc4
     refine q4 (AO rfl (AJ (v:=(vN s.pl.length)) (AI rfl Tryz.underlying186) rfl (AK rfl (q3 (sL [1,2,3,5,6,4,7,8,9,11,10] rfl) (AO rfl ?_)))))
     refine A7 0 Bs rfl (AF.openV (V:=λb6=>(Value.slice (some ⟨b6,0,none⟩) 1 1)) (T:=111) (cs:=A_ (Ax m i 0)) (AN rfl) (BE (z:=.agg (A_ ((0,0):P2)).toArray) (cs:=A_ (Ax m i 0)) (pv:=[(0,(aG (A_ (Ax m i 0))))]) Tryz.underlying186 Tryz.sizeOf111 Tryz.zeroValue111 (by decide) (by decide) rfl (Eg (Ax m i 0))) rfl (Ad rfl) λb6=>AF.appendAt 4 (j:=0) (cs2:=rowsL A_ (s.pl++[(Ax m i 0)])) S0 rfl hs.o1 (Ak C3 _) rfl rfl rfl rfl rfl (by decide) (Kq (by omega)) (by omega) (by rw [BW];rfl) rfl λp_1 c_1 ho_1 hne_1=>AK rfl (AF.nil (AC.subF (sL [1,2,3,5,6,4,7,8,9,11,10] rfl) ?_)))
     refine AC.then_ (rC [(0,true),(1,true),(2,true),(3,true),(4,false),(5,false),(6,false),(7,true)] 8 [] (sk (sk (sk (sk (sk (sk (sk (sl sr)))))))) (sk (sk (sk (sk (sk (sk (sk (sl sr)))))))) (by kernel_rfl) (λ_ _ d _ _ h=>by cases d<;>exact h) (vE (v:=(pP b3 0)) rfl (AA rfl Tryz.underlying99 rfl Tryz.sizeOf97 rfl) rfl (vE rfl (AM (i:=7) (v:=(Value.slice s.p2 s.pl.length s.c2)) rfl rfl RG.a rfl) rfl (vE (v:=(aG (Eu m))) rfl (Aa (i:=9) (vs:=Eu m) rfl rfl NG.a NG.s rfl rfl) rfl (vE (v:=(aG (A_ (Ax m i 0)))) rfl (Aa (i:=1) (vs:=A_ (Ax m i 0)) rfl rfl Bs.a Bs.s rfl rfl) rfl ?_)))))
     refine Cc.imp rfl (Ey Tryz.call113 (λw hw=>Ik m (Ax m i 0) (EC (by omega)) w (Dn hw 11 rfl lm)) rfl (Cc.back (sk (sk (sk (sk (sk (sk (sk (sl sr)))))))) (Cc.imp rfl (AF.openV (V:=λb7=>(Value.slice (some ⟨b7,0,none⟩) 1 1)) (T:=102) (cs:=CT ((mapM m).at_ (Ax m i 0))) (AN rfl) (BE (z:=.agg (CT ((0,0):Int×Int)).toArray) (cs:=CT ((mapM m).at_ (Ax m i 0))) (pv:=[(0,(aG (CT ((mapM m).at_ (Ax m i 0)))))]) Tryz.underlying97 Tryz.sizeOf102 Tryz.zeroValue102 (by decide) (by decide) rfl (El ((mapM m).at_ (Ax m i 0)))) rfl (Ad rfl) λb7=>Cc.back (sl (sk (sk (sk (sk (sk (sk (sk (sl sr))))))))) ?_))))
     refine Cc.imp rfl (AF.appendAt 8 (j:=0) (cs2:=rowsL CT ((s.pts m)++[((mapM m).at_ (Ax m i 0))])) Xn rfl hs.o2 (by rw [Ak Fu];simp [WS.pts]) rfl rfl rfl rfl rfl (by decide) (Kq (by omega)) (by omega) (by rw [BW];rfl) rfl λp_2 c_2 ho_2 hne_2=>Cc.back (sl (sk (sk (sk (sk (sk (sk (sk (sl sr))))))))) (vE (v:=(pP b3 0)) rfl (AA rfl Tryz.underlying99 rfl Tryz.sizeOf97 rfl) rfl (Cc.cut rfl (GK 9 (off:=0) (vs:=[(Value.slice p_2 (s.pl.length+1) c_2)]) (cs':=[(Value.slice p_2 (s.pl.length+1) c_2),(Value.slice p3 ts.length c3),(Value.slice none 0 0)]) (AN rfl) rfl Tryz.sizeOf97 rfl ?_))))
     refine AS.back (sl (sk (sk (sk (sk (sk (sk (sk (sl (sl sr)))))))))) (AS.nil (AC.subF (sL [1,2,3,5,6,4,7,8,9,11,10] rfl) ?_))
     rw [show s.pl.length+1=(s.pl++[Ax m i 0]).length by simp]
     rw [show s.pts m++[(mapM m).at_ (Ax m i 0)]=WS.pts (WS.mk (s.pl++[Ax m i 0]) p_1 c_1 p_2 c_2) m by simp [WS.pts]]
     exact AC.join2 (WS.mk (s.pl++[Ax m i 0]) p_1 c_1 p_2 c_2) s.pl.length (⟨⟨(by simpa using ho_1),(by simpa using ho_2),λp hp=>(List.mem_append.1 hp).elim (hs.small p) (λe=>by rw [List.mem_singleton.1 e];exact EC (by omega)),K7 hs.dst (λj hj=>(ha.elim id (λh=>absurd h.1 (by omega))).2 j (by omega))⟩,F1.snoc _ _,by simp,by simp,DJ _ _,λa ha=>by simp only [List.length_append,List.length_singleton] at ha;omega⟩) (sF rfl) (sl (sl sr))
    ·replace hc4:=of_decide_eq_false hc4
     refine AG.retell (k:=10) (u:=(vN a.toNat)) rfl (by show Value.int _ _=Value.int _ _;congr 1;omega) (AG.skip ?_)
     obtain ⟨ha1,ha2,ha3⟩:=ha.resolve_left (λh=>by have:=h.1;omega)
     exact AC.join2 s a.toNat (⟨hs,F1.refl _,by omega,by omega,ha3,λa ha=>.inl ha⟩) (sF rfl) sr
   ·intro s1 n1 hJ
    obtain ⟨hs1,hm1,hl1,hn1,hg1,hu1⟩:=hJ
    refine AC.then_ (AG.region (AO rfl (AO rfl (AJ (v:=(pP b4 0)) (AE (j:=0) rfl rfl Tryz.underlying76 Tryz.sizeOf3 rfl (by decide) rfl) rfl (GK 1 (off:=0) (vs:=[(vN n1)]) (cs':=[(vN n1),(vI 0),(vI 0)]) (AN rfl) rfl Tryz.sizeOf3 rfl ?_)))))
    refine AF.nil (AC.subF (sL [1,2,3,5,6,7,8,10,4] rfl) (AC.in_normal (AC.then_ (AG.region (AO rfl ?_)))))
    refine AJ (AX (c:=(1:Int)) rfl rfl (by decide)) rfl (AK rfl (AF.nil (AC.subF (sL [1,2,3,5,6,7,8,10,4] rfl) (AC.again (Dr.step ?_)))))
    refine AG.seq (q4 (AO rfl (AJ (Af (c:=true) rfl rfl (by decide)) rfl (AF.nil (AC.subF (sL [1,2,3,5,6,7,8,10,4,25] rfl) ?_)))))
    refine AC.then_ (AG.cond_true rfl (AG.skip (q1 (AG.block (AG.seq ?_)))))
    refine Cq [(0,true),(1,true),(2,true),(3,true),(4,true),(5,true),(6,true),(7,true),(8,true),(9,true),(10,true),(11,true),(12,true),(13,true),(14,true),(15,true),(16,true),(17,true),(18,false),(19,false)] sr (Bc rfl (Bc rfl (Bc rfl (Av (v:=(pP b1 8)) rfl (AA rfl Tryz.underlying26 rfl Tryz.sizeOf5 rfl) (Bg 9 (vK .u8 m.fst) Tn rfl ?_)))))
    refine Av rfl (Az (c:=((m.fst:Nat):Int)) rfl Tryz.underlying5 Tryz.underlying3 (CZ (by omega))) (Av rfl (AX (c:=((1+m.fst:Nat):Int)) rfl rfl (Ab (a:=1) (b:=m.fst) (by omega))) (Bc rfl (Av (v:=(pP b1 8)) rfl (AA rfl Tryz.underlying26 rfl Tryz.sizeOf5 rfl) (Bg 9 (vK .u8 m.fst) Tn rfl (Av rfl (GH (c:=((m.fst/3:Nat):Int)) rfl rfl (by omega) (NM (a:=m.fst) (b:=3) (by omega))) ?_)))))
    refine Av rfl (Az (c:=((m.fst/3:Nat):Int)) rfl Tryz.underlying5 Tryz.underlying3 (CZ (by omega))) ?_
    have hmul:i*(m.fst/3)<=36*85:=Nat.mul_le_mul (by omega) hf3
    refine Av rfl (Bq (c:=((i*(m.fst/3):Nat):Int)) rfl rfl (Ca (a:=i) (b:=m.fst/3) (by omega))) (Av rfl (AX (c:=(((1+m.fst)+(i*(m.fst/3)):Nat):Int)) rfl rfl (Ab (a:=1+m.fst) (b:=i*(m.fst/3)) (by omega))) ?_)
    obtain ⟨r9,hr9⟩:∃r,r=Iq m i 1:=⟨_,rfl⟩
    have hr3:r9<3:=by rw [hr9];exact Nat.mod_lt _ (by decide)
    refine Av rfl (CF (c:=((r9:Nat):Int)) rfl rfl (by decide) (by rw [hr9];exact Ie (a:=1+m.fst+i*(m.fst/3)) (b:=3))) (Av (v:=(pP (pB gc.p) (pO gc.p+i*6))) rfl (AW (j:=i) rfl rfl gc.ok Tryz.underlying187 Tryz.sizeOf189 rfl (by omega)) (Av (v:=(pP (pB gc.p) (pO gc.p+(i*6+r9*2)))) rfl (AE (j:=r9) rfl rfl Tryz.underlying189 Tryz.sizeOf111 rfl hr3 (Nat.add_assoc _ _ _)) (Av (v:=(aG (A_ (Ax m i 1)))) rfl (AU (vs:=A_ (Ax m i 1)) (i:=2) rfl rfl (BQ.ne gc.ok (by omega)) Bs (Iu _ i r9 (by omega) hr3 _ rfl _ (by rw [hr9];rfl)) rfl) (AS.imp rfl (al JJ rfl λb6=>?_)))))
    refine AS.back (sl sr) (AS.imp rfl (Ap rfl Tryz.sizeOf111 rfl (AS.back (sl sr) (AS.nil (AC.subF (sL [1,2,3,5,6,7,8,10,4,9] rfl) ?_)))))
    refine q2 (AK rfl (AF.nil (q1 (q4 (AK rfl ?_)))))
    refine AF.nil (AC.then_ (AG.block ?_))
    refine AG.lp2 (tg λ(k:Nat) (a:Int)=>k<=s1.pl.length/\((a = -1/\∀j,j<k->s1.pl.getD j (0,0)≠Ax m i 1)\/0<=a/\a<(k:Int)/\s1.pl.getD (Int.toNat a) (0,0)=Ax m i 1)) (tg λ(k:Nat) (a:Int)=>[(1,(pP b1 0)),(2,(pP b2 0)),(3,(pP b3 0)),(5,(Value.slice gc.p ((BD m).length) gc.c)),(6,(vN i)),(7,(pP b4 0)),(8,(vI 1)),(4,(Value.slice s1.p1 s1.pl.length s1.c1)),(9,(pP b6 0)),(11,(vN k)),(10,(vI a))]) (tg λ(k:Nat) (a:Int)=>[Ah b6 111 (A_ (Ax m i 1)),Ah b5 111 (A_ (Ax m i 0)),Ah b4 76 ([(vN n1),(vI 0),(vI 0)]),Ag gc.p (rowsL BF (BD m)),rowW s1.p1 111 2 s1.pl.length s1.c1 (rowsL A_ s1.pl),rowW none 76 3 0 0 (rowsL Al ([])),rowW p3 76 3 ts.length c3 (rowsL Al ts),rowW s1.p2 102 2 s1.pl.length s1.c2 (rowsL CT (s1.pts m)),Ah b3 99 ([(Value.slice s1.p2 s1.pl.length s1.c2),(Value.slice p3 ts.length c3),(Value.slice none 0 0)]),Ah b2 99 ([(Value.slice none 0 0),(Value.slice none 0 0),(Value.slice none 0 0)]),Ah b1 26 (Eu m),Ag m.p (C8 m.cs)]) (tg λ(k:Nat) (a:Int)=>s1.pl.length-k) 0 (-1:Int) (⟨Nat.zero_le _,.inl ⟨rfl,λj hj=>absurd hj (Nat.not_lt_zero _)⟩⟩) (sF rfl) sr (λk a hJ=>?_)
    obtain ⟨hk,ha⟩:=hJ
    refine AG.seq (q4 (AO rfl (AO rfl (AJ (v:=(vN s1.pl.length)) (AI rfl Tryz.underlying186) rfl (AJ (Af (c:=(decide (k<s1.pl.length))) rfl rfl (DL (a:=k) (b:=s1.pl.length))) rfl ?_)))))
    refine AF.nil (AC.subF (sL [1,2,3,5,6,7,8,4,9,11,10,49] rfl) (AC.then_ ?_))
    refine AG.cond rfl (λhc2=>?_) (λhc2=>?_)
    ·replace hc2:=of_decide_eq_true hc2
     refine AG.skip (q1 (AG.block (AG.seq (Cq [(0,true),(1,true),(2,true),(3,true),(4,true),(5,true)] sr (Bc rfl ?_)))))
     refine Bc rfl (Av (v:=(pP (pB s1.p1) (pO s1.p1+k*2))) rfl (AW (j:=k) rfl rfl hs1.o1.row Tryz.underlying186 Tryz.sizeOf111 rfl (by omega)) (Av (v:=(aG (A_ (s1.pl.getD k ((0,0):P2))))) rfl (CO (vs:=A_ (s1.pl.getD k ((0,0):P2))) (i:=4) rfl rfl hs1.o1 (Ak C3 _) (BQ.ne hs1.o1.row (by omega)) Bs (Au C3 _ _ _ (by omega)) (C3 _)) (Fz 0 Bs rfl (Av rfl (Bj (c:=decide (s1.pl.getD k ((0,0):P2)=(Ax m i 1))) rfl rfl Tryz.eqGuardType111 (NJ 9998 (s1.pl.getD k ((0,0):P2)) (Ax m i 1))) (AS.nil ?_)))))
     refine AC.subF (sL [1,2,3,5,6,7,8,4,9,11,10,57] rfl) (AC.then_ ?_)
     refine AG.cond rfl (λhc3=>?_) (λhc3=>?_)
     ·replace hc3:=of_decide_eq_true hc3
      refine AG.region (AO rfl (AK rfl (AF.nil (AC.subF (sL [1,2,3,5,6,7,8,4,9,11,10] rfl) (AC.in_normal ?_)))))
      refine AC.then_ (AG.region (AO rfl (AJ (AX (c:=((k+1:Nat):Int)) rfl rfl (Ab (a:=k) (b:=1) (by omega))) rfl (AK rfl (AF.nil ?_)))))
      exact AC.subF (sL [1,2,3,5,6,7,8,4,9,11,10] rfl) (AC.round2 (k+1) (k:Int) (⟨by omega,.inr ⟨by omega,by omega,by simpa using hc3⟩⟩) (by omega) (sF rfl) sr)
     ·replace hc3:=of_decide_eq_false hc3
      refine AG.skip (AC.in_normal (AC.then_ (AG.region (AO rfl (AJ (AX (c:=((k+1:Nat):Int)) rfl rfl (Ab (a:=k) (b:=1) (by omega))) rfl ?_)))))
      exact AK rfl (AF.nil (AC.subF (sL [1,2,3,5,6,7,8,4,9,11,10] rfl) (AC.round2 (k+1) a (⟨by omega,ha.elim (λh=>.inl ⟨h.1,λj hj=>by rcases Nat.lt_or_ge j k with h1|h1;exact h.2 j h1;(obtain rfl:j=k:=by omega);simpa using hc3⟩) (λh=>.inr ⟨h.1,by omega,h.2.2⟩)⟩) (by omega) (sF rfl) sr)))
    ·replace hc2:=of_decide_eq_false hc2
     refine AG.exit (AC.then_exit (AC.round2_exit (AC.in_exit (q1 (q4 ?_)))))
     refine AO rfl (AJ (Af (c:=(decide (a<(0:Int)))) rfl rfl rfl) rfl (AF.nil (AC.subF (sL [1,2,3,5,6,7,8,4,9,11,10,60] rfl) (AC.then_ ?_))))
     refine AG.jn2 (tg λ(s2:WS) (n2:Nat)=>WS.Ok s2/\F1 s1.pl (WS.pl s2)/\(WS.pl s2).length<=s1.pl.length+1/\n2<(WS.pl s2).length/\(WS.pl s2).getD n2 (0,0)=Ax m i 1/\∀a,a<(WS.pl s2).length->a<s1.pl.length\/a=n2) (tg λ(s2:WS) (n2:Nat)=>[(1,(pP b1 0)),(2,(pP b2 0)),(3,(pP b3 0)),(5,(Value.slice gc.p ((BD m).length) gc.c)),(6,(vN i)),(7,(pP b4 0)),(8,(vI 1)),(10,(vN n2)),(4,(Value.slice s2.p1 s2.pl.length s2.c1))]) (tg λ(s2:WS) (n2:Nat)=>[Ah b6 111 (A_ (Ax m i 1)),Ah b5 111 (A_ (Ax m i 0)),Ah b4 76 ([(vN n1),(vI 0),(vI 0)]),Ag gc.p (rowsL BF (BD m)),rowW s2.p1 111 2 s2.pl.length s2.c1 (rowsL A_ s2.pl),rowW none 76 3 0 0 (rowsL Al ([])),rowW p3 76 3 ts.length c3 (rowsL Al ts),rowW s2.p2 102 2 s2.pl.length s2.c2 (rowsL CT (s2.pts m)),Ah b3 99 ([(Value.slice s2.p2 s2.pl.length s2.c2),(Value.slice p3 ts.length c3),(Value.slice none 0 0)]),Ah b2 99 ([(Value.slice none 0 0),(Value.slice none 0 0),(Value.slice none 0 0)]),Ah b1 26 (Eu m),Ag m.p (C8 m.cs)]) ?_ ?_
     ·skip
      refine AG.cond rfl (λhc4=>?_) (λhc4=>?_)
      ·replace hc4:=of_decide_eq_true hc4
       refine q4 (AO rfl (AJ (v:=(vN s1.pl.length)) (AI rfl Tryz.underlying186) rfl (AK rfl (q3 (sL [1,2,3,5,6,7,8,4,9,11,10] rfl) (AO rfl ?_)))))
       refine A7 0 Bs rfl (AF.openV (V:=λb7=>(Value.slice (some ⟨b7,0,none⟩) 1 1)) (T:=111) (cs:=A_ (Ax m i 1)) (AN rfl) (BE (z:=.agg (A_ ((0,0):P2)).toArray) (cs:=A_ (Ax m i 1)) (pv:=[(0,(aG (A_ (Ax m i 1))))]) Tryz.underlying186 Tryz.sizeOf111 Tryz.zeroValue111 (by decide) (by decide) rfl (Eg (Ax m i 1))) rfl (Ad rfl) λb7=>AF.appendAt 5 (j:=0) (cs2:=rowsL A_ (s1.pl++[(Ax m i 1)])) S0 rfl hs1.o1 (Ak C3 _) rfl rfl rfl rfl rfl (by decide) (Kq (by omega)) (by omega) (by rw [BW];rfl) rfl λp_3 c_3 ho_3 hne_3=>AK rfl (AF.nil (AC.subF (sL [1,2,3,5,6,7,8,4,9,11,10] rfl) ?_)))
       refine AC.then_ (rC [(0,true),(1,true),(2,true),(3,true),(4,false),(5,false),(6,false),(7,true)] 8 [] (sk (sk (sk (sk (sk (sk (sk (sk (sl sr))))))))) (sk (sk (sk (sk (sk (sk (sk (sk (sl sr))))))))) (by kernel_rfl) (λ_ _ d _ _ h=>by cases d<;>exact h) (vE (v:=(pP b3 0)) rfl (AA rfl Tryz.underlying99 rfl Tryz.sizeOf97 rfl) rfl (vE rfl (AM (i:=8) (v:=(Value.slice s1.p2 s1.pl.length s1.c2)) rfl rfl RG.a rfl) rfl (vE (v:=(aG (Eu m))) rfl (Aa (i:=10) (vs:=Eu m) rfl rfl NG.a NG.s rfl rfl) rfl (vE (v:=(aG (A_ (Ax m i 1)))) rfl (Aa (i:=1) (vs:=A_ (Ax m i 1)) rfl rfl Bs.a Bs.s rfl rfl) rfl ?_)))))
       refine Cc.imp rfl (Ey Tryz.call113 (λw hw=>Ik m (Ax m i 1) (EC (by omega)) w (Dn hw 12 rfl lm)) rfl (Cc.back (sk (sk (sk (sk (sk (sk (sk (sk (sl sr))))))))) (Cc.imp rfl (AF.openV (V:=λb8=>(Value.slice (some ⟨b8,0,none⟩) 1 1)) (T:=102) (cs:=CT ((mapM m).at_ (Ax m i 1))) (AN rfl) (BE (z:=.agg (CT ((0,0):Int×Int)).toArray) (cs:=CT ((mapM m).at_ (Ax m i 1))) (pv:=[(0,(aG (CT ((mapM m).at_ (Ax m i 1)))))]) Tryz.underlying97 Tryz.sizeOf102 Tryz.zeroValue102 (by decide) (by decide) rfl (El ((mapM m).at_ (Ax m i 1)))) rfl (Ad rfl) λb8=>Cc.back (sl (sk (sk (sk (sk (sk (sk (sk (sk (sl sr)))))))))) ?_))))
       refine Cc.imp rfl (AF.appendAt 9 (j:=0) (cs2:=rowsL CT ((s1.pts m)++[((mapM m).at_ (Ax m i 1))])) Xn rfl hs1.o2 (by rw [Ak Fu];simp [WS.pts]) rfl rfl rfl rfl rfl (by decide) (Kq (by omega)) (by omega) (by rw [BW];rfl) rfl λp_4 c_4 ho_4 hne_4=>Cc.back (sl (sk (sk (sk (sk (sk (sk (sk (sk (sl sr)))))))))) (vE (v:=(pP b3 0)) rfl (AA rfl Tryz.underlying99 rfl Tryz.sizeOf97 rfl) rfl (Cc.cut rfl (GK 10 (off:=0) (vs:=[(Value.slice p_4 (s1.pl.length+1) c_4)]) (cs':=[(Value.slice p_4 (s1.pl.length+1) c_4),(Value.slice p3 ts.length c3),(Value.slice none 0 0)]) (AN rfl) rfl Tryz.sizeOf97 rfl ?_))))
       refine AS.back (sl (sk (sk (sk (sk (sk (sk (sk (sk (sl (sl sr))))))))))) (AS.nil (AC.subF (sL [1,2,3,5,6,7,8,4,9,11,10] rfl) ?_))
       rw [show s1.pl.length+1=(s1.pl++[Ax m i 1]).length by simp]
       rw [show s1.pts m++[(mapM m).at_ (Ax m i 1)]=WS.pts (WS.mk (s1.pl++[Ax m i 1]) p_3 c_3 p_4 c_4) m by simp [WS.pts]]
       exact AC.join2 (WS.mk (s1.pl++[Ax m i 1]) p_3 c_3 p_4 c_4) s1.pl.length (⟨⟨(by simpa using ho_3),(by simpa using ho_4),λp hp=>(List.mem_append.1 hp).elim (hs1.small p) (λe=>by rw [List.mem_singleton.1 e];exact EC (by omega)),K7 hs1.dst (λj hj=>(ha.elim id (λh=>absurd h.1 (by omega))).2 j (by omega))⟩,F1.snoc _ _,by simp,by simp,DJ _ _,λa ha=>by simp only [List.length_append,List.length_singleton] at ha;omega⟩) (sF rfl) (sl (sl sr))
      ·replace hc4:=of_decide_eq_false hc4
       refine AG.retell (k:=10) (u:=(vN a.toNat)) rfl (by show Value.int _ _=Value.int _ _;congr 1;omega) (AG.skip ?_)
       obtain ⟨ha1,ha2,ha3⟩:=ha.resolve_left (λh=>by have:=h.1;omega)
       exact AC.join2 s1 a.toNat (⟨hs1,F1.refl _,by omega,by omega,ha3,λa ha=>.inl ha⟩) (sF rfl) sr
     ·intro s2 n2 hJ
      obtain ⟨hs2,hm2,hl2,hn2,hg2,hu2⟩:=hJ
      refine AC.then_ (AG.region (AO rfl (AO rfl (AJ (v:=(pP b4 1)) (AE (j:=1) rfl rfl Tryz.underlying76 Tryz.sizeOf3 rfl (by decide) rfl) rfl (GK 2 (off:=1) (vs:=[(vN n2)]) (cs':=[(vN n1),(vN n2),(vI 0)]) (AN rfl) rfl Tryz.sizeOf3 rfl ?_)))))
      refine AF.nil (AC.subF (sL [1,2,3,5,6,7,8,10,4] rfl) (AC.in_normal (AC.then_ (AG.region (AO rfl ?_)))))
      refine AJ (AX (c:=(2:Int)) rfl rfl (by decide)) rfl (AK rfl (AF.nil (AC.subF (sL [1,2,3,5,6,7,8,10,4] rfl) (AC.again (Dr.step ?_)))))
      refine AG.seq (q4 (AO rfl (AJ (Af (c:=true) rfl rfl (by decide)) rfl (AF.nil (AC.subF (sL [1,2,3,5,6,7,8,10,4,25] rfl) ?_)))))
      refine AC.then_ (AG.cond_true rfl (AG.skip (q1 (AG.block (AG.seq ?_)))))
      refine Cq [(0,true),(1,true),(2,true),(3,true),(4,true),(5,true),(6,true),(7,true),(8,true),(9,true),(10,true),(11,true),(12,true),(13,true),(14,true),(15,true),(16,true),(17,true),(18,false),(19,false)] sr (Bc rfl (Bc rfl (Bc rfl (Av (v:=(pP b1 8)) rfl (AA rfl Tryz.underlying26 rfl Tryz.sizeOf5 rfl) (Bg 10 (vK .u8 m.fst) Tn rfl ?_)))))
      refine Av rfl (Az (c:=((m.fst:Nat):Int)) rfl Tryz.underlying5 Tryz.underlying3 (CZ (by omega))) (Av rfl (AX (c:=((2+m.fst:Nat):Int)) rfl rfl (Ab (a:=2) (b:=m.fst) (by omega))) (Bc rfl (Av (v:=(pP b1 8)) rfl (AA rfl Tryz.underlying26 rfl Tryz.sizeOf5 rfl) (Bg 10 (vK .u8 m.fst) Tn rfl (Av rfl (GH (c:=((m.fst/3:Nat):Int)) rfl rfl (by omega) (NM (a:=m.fst) (b:=3) (by omega))) ?_)))))
      refine Av rfl (Az (c:=((m.fst/3:Nat):Int)) rfl Tryz.underlying5 Tryz.underlying3 (CZ (by omega))) ?_
      have hmul:i*(m.fst/3)<=36*85:=Nat.mul_le_mul (by omega) hf3
      refine Av rfl (Bq (c:=((i*(m.fst/3):Nat):Int)) rfl rfl (Ca (a:=i) (b:=m.fst/3) (by omega))) (Av rfl (AX (c:=(((2+m.fst)+(i*(m.fst/3)):Nat):Int)) rfl rfl (Ab (a:=2+m.fst) (b:=i*(m.fst/3)) (by omega))) ?_)
      obtain ⟨r9,hr9⟩:∃r,r=Iq m i 2:=⟨_,rfl⟩
      have hr3:r9<3:=by rw [hr9];exact Nat.mod_lt _ (by decide)
      refine Av rfl (CF (c:=((r9:Nat):Int)) rfl rfl (by decide) (by rw [hr9];exact Ie (a:=2+m.fst+i*(m.fst/3)) (b:=3))) (Av (v:=(pP (pB gc.p) (pO gc.p+i*6))) rfl (AW (j:=i) rfl rfl gc.ok Tryz.underlying187 Tryz.sizeOf189 rfl (by omega)) (Av (v:=(pP (pB gc.p) (pO gc.p+(i*6+r9*2)))) rfl (AE (j:=r9) rfl rfl Tryz.underlying189 Tryz.sizeOf111 rfl hr3 (Nat.add_assoc _ _ _)) (Av (v:=(aG (A_ (Ax m i 2)))) rfl (AU (vs:=A_ (Ax m i 2)) (i:=3) rfl rfl (BQ.ne gc.ok (by omega)) Bs (Iu _ i r9 (by omega) hr3 _ rfl _ (by rw [hr9];rfl)) rfl) (AS.imp rfl (al JJ rfl λb7=>?_)))))
      refine AS.back (sl sr) (AS.imp rfl (Ap rfl Tryz.sizeOf111 rfl (AS.back (sl sr) (AS.nil (AC.subF (sL [1,2,3,5,6,7,8,10,4,9] rfl) ?_)))))
      refine q2 (AK rfl (AF.nil (q1 (q4 (AK rfl ?_)))))
      refine AF.nil (AC.then_ (AG.block ?_))
      refine AG.lp2 (tg λ(k:Nat) (a:Int)=>k<=s2.pl.length/\((a = -1/\∀j,j<k->s2.pl.getD j (0,0)≠Ax m i 2)\/0<=a/\a<(k:Int)/\s2.pl.getD (Int.toNat a) (0,0)=Ax m i 2)) (tg λ(k:Nat) (a:Int)=>[(1,(pP b1 0)),(2,(pP b2 0)),(3,(pP b3 0)),(5,(Value.slice gc.p ((BD m).length) gc.c)),(6,(vN i)),(7,(pP b4 0)),(8,(vI 2)),(4,(Value.slice s2.p1 s2.pl.length s2.c1)),(9,(pP b7 0)),(11,(vN k)),(10,(vI a))]) (tg λ(k:Nat) (a:Int)=>[Ah b7 111 (A_ (Ax m i 2)),Ah b6 111 (A_ (Ax m i 1)),Ah b5 111 (A_ (Ax m i 0)),Ah b4 76 ([(vN n1),(vN n2),(vI 0)]),Ag gc.p (rowsL BF (BD m)),rowW s2.p1 111 2 s2.pl.length s2.c1 (rowsL A_ s2.pl),rowW none 76 3 0 0 (rowsL Al ([])),rowW p3 76 3 ts.length c3 (rowsL Al ts),rowW s2.p2 102 2 s2.pl.length s2.c2 (rowsL CT (s2.pts m)),Ah b3 99 ([(Value.slice s2.p2 s2.pl.length s2.c2),(Value.slice p3 ts.length c3),(Value.slice none 0 0)]),Ah b2 99 ([(Value.slice none 0 0),(Value.slice none 0 0),(Value.slice none 0 0)]),Ah b1 26 (Eu m),Ag m.p (C8 m.cs)]) (tg λ(k:Nat) (a:Int)=>s2.pl.length-k) 0 (-1:Int) (⟨Nat.zero_le _,.inl ⟨rfl,λj hj=>absurd hj (Nat.not_lt_zero _)⟩⟩) (sF rfl) sr (λk a hJ=>?_)
      obtain ⟨hk,ha⟩:=hJ
      refine AG.seq (q4 (AO rfl (AO rfl (AJ (v:=(vN s2.pl.length)) (AI rfl Tryz.underlying186) rfl (AJ (Af (c:=(decide (k<s2.pl.length))) rfl rfl (DL (a:=k) (b:=s2.pl.length))) rfl ?_)))))
      refine AF.nil (AC.subF (sL [1,2,3,5,6,7,8,4,9,11,10,49] rfl) (AC.then_ ?_))
      refine AG.cond rfl (λhc2=>?_) (λhc2=>?_)
      ·replace hc2:=of_decide_eq_true hc2
       refine AG.skip (q1 (AG.block (AG.seq (Cq [(0,true),(1,true),(2,true),(3,true),(4,true),(5,true)] sr (Bc rfl ?_)))))
       refine Bc rfl (Av (v:=(pP (pB s2.p1) (pO s2.p1+k*2))) rfl (AW (j:=k) rfl rfl hs2.o1.row Tryz.underlying186 Tryz.sizeOf111 rfl (by omega)) (Av (v:=(aG (A_ (s2.pl.getD k ((0,0):P2))))) rfl (CO (vs:=A_ (s2.pl.getD k ((0,0):P2))) (i:=5) rfl rfl hs2.o1 (Ak C3 _) (BQ.ne hs2.o1.row (by omega)) Bs (Au C3 _ _ _ (by omega)) (C3 _)) (Fz 0 Bs rfl (Av rfl (Bj (c:=decide (s2.pl.getD k ((0,0):P2)=(Ax m i 2))) rfl rfl Tryz.eqGuardType111 (NJ 9998 (s2.pl.getD k ((0,0):P2)) (Ax m i 2))) (AS.nil ?_)))))
       refine AC.subF (sL [1,2,3,5,6,7,8,4,9,11,10,57] rfl) (AC.then_ ?_)
       refine AG.cond rfl (λhc3=>?_) (λhc3=>?_)
       ·replace hc3:=of_decide_eq_true hc3
        refine AG.region (AO rfl (AK rfl (AF.nil (AC.subF (sL [1,2,3,5,6,7,8,4,9,11,10] rfl) (AC.in_normal ?_)))))
        refine AC.then_ (AG.region (AO rfl (AJ (AX (c:=((k+1:Nat):Int)) rfl rfl (Ab (a:=k) (b:=1) (by omega))) rfl (AK rfl (AF.nil ?_)))))
        exact AC.subF (sL [1,2,3,5,6,7,8,4,9,11,10] rfl) (AC.round2 (k+1) (k:Int) (⟨by omega,.inr ⟨by omega,by omega,by simpa using hc3⟩⟩) (by omega) (sF rfl) sr)
       ·replace hc3:=of_decide_eq_false hc3
        refine AG.skip (AC.in_normal (AC.then_ (AG.region (AO rfl (AJ (AX (c:=((k+1:Nat):Int)) rfl rfl (Ab (a:=k) (b:=1) (by omega))) rfl ?_)))))
        exact AK rfl (AF.nil (AC.subF (sL [1,2,3,5,6,7,8,4,9,11,10] rfl) (AC.round2 (k+1) a (⟨by omega,ha.elim (λh=>.inl ⟨h.1,λj hj=>by rcases Nat.lt_or_ge j k with h1|h1;exact h.2 j h1;(obtain rfl:j=k:=by omega);simpa using hc3⟩) (λh=>.inr ⟨h.1,by omega,h.2.2⟩)⟩) (by omega) (sF rfl) sr)))
      ·replace hc2:=of_decide_eq_false hc2
       refine AG.exit (AC.then_exit (AC.round2_exit (AC.in_exit (q1 (q4 ?_)))))
       refine AO rfl (AJ (Af (c:=(decide (a<(0:Int)))) rfl rfl rfl) rfl (AF.nil (AC.subF (sL [1,2,3,5,6,7,8,4,9,11,10,60] rfl) (AC.then_ ?_))))
       refine AG.jn2 (tg λ(s3:WS) (n3:Nat)=>WS.Ok s3/\F1 s2.pl (WS.pl s3)/\(WS.pl s3).length<=s2.pl.length+1/\n3<(WS.pl s3).length/\(WS.pl s3).getD n3 (0,0)=Ax m i 2/\∀a,a<(WS.pl s3).length->a<s2.pl.length\/a=n3) (tg λ(s3:WS) (n3:Nat)=>[(1,(pP b1 0)),(2,(pP b2 0)),(3,(pP b3 0)),(5,(Value.slice gc.p ((BD m).length) gc.c)),(6,(vN i)),(7,(pP b4 0)),(8,(vI 2)),(10,(vN n3)),(4,(Value.slice s3.p1 s3.pl.length s3.c1))]) (tg λ(s3:WS) (n3:Nat)=>[Ah b7 111 (A_ (Ax m i 2)),Ah b6 111 (A_ (Ax m i 1)),Ah b5 111 (A_ (Ax m i 0)),Ah b4 76 ([(vN n1),(vN n2),(vI 0)]),Ag gc.p (rowsL BF (BD m)),rowW s3.p1 111 2 s3.pl.length s3.c1 (rowsL A_ s3.pl),rowW none 76 3 0 0 (rowsL Al ([])),rowW p3 76 3 ts.length c3 (rowsL Al ts),rowW s3.p2 102 2 s3.pl.length s3.c2 (rowsL CT (s3.pts m)),Ah b3 99 ([(Value.slice s3.p2 s3.pl.length s3.c2),(Value.slice p3 ts.length c3),(Value.slice none 0 0)]),Ah b2 99 ([(Value.slice none 0 0),(Value.slice none 0 0),(Value.slice none 0 0)]),Ah b1 26 (Eu m),Ag m.p (C8 m.cs)]) ?_ ?_
       ·skip
        refine AG.cond rfl (λhc4=>?_) (λhc4=>?_)
        ·replace hc4:=of_decide_eq_true hc4
         refine q4 (AO rfl (AJ (v:=(vN s2.pl.length)) (AI rfl Tryz.underlying186) rfl (AK rfl (q3 (sL [1,2,3,5,6,7,8,4,9,11,10] rfl) (AO rfl ?_)))))
         refine A7 0 Bs rfl (AF.openV (V:=λb8=>(Value.slice (some ⟨b8,0,none⟩) 1 1)) (T:=111) (cs:=A_ (Ax m i 2)) (AN rfl) (BE (z:=.agg (A_ ((0,0):P2)).toArray) (cs:=A_ (Ax m i 2)) (pv:=[(0,(aG (A_ (Ax m i 2))))]) Tryz.underlying186 Tryz.sizeOf111 Tryz.zeroValue111 (by decide) (by decide) rfl (Eg (Ax m i 2))) rfl (Ad rfl) λb8=>AF.appendAt 6 (j:=0) (cs2:=rowsL A_ (s2.pl++[(Ax m i 2)])) S0 rfl hs2.o1 (Ak C3 _) rfl rfl rfl rfl rfl (by decide) (Kq (by omega)) (by omega) (by rw [BW];rfl) rfl λp_5 c_5 ho_5 hne_5=>AK rfl (AF.nil (AC.subF (sL [1,2,3,5,6,7,8,4,9,11,10] rfl) ?_)))
         refine AC.then_ (rC [(0,true),(1,true),(2,true),(3,true),(4,false),(5,false),(6,false),(7,true)] 8 [] (sk (sk (sk (sk (sk (sk (sk (sk (sk (sl sr)))))))))) (sk (sk (sk (sk (sk (sk (sk (sk (sk (sl sr)))))))))) (by kernel_rfl) (λ_ _ d _ _ h=>by cases d<;>exact h) (vE (v:=(pP b3 0)) rfl (AA rfl Tryz.underlying99 rfl Tryz.sizeOf97 rfl) rfl (vE rfl (AM (i:=9) (v:=(Value.slice s2.p2 s2.pl.length s2.c2)) rfl rfl RG.a rfl) rfl (vE (v:=(aG (Eu m))) rfl (Aa (i:=11) (vs:=Eu m) rfl rfl NG.a NG.s rfl rfl) rfl (vE (v:=(aG (A_ (Ax m i 2)))) rfl (Aa (i:=1) (vs:=A_ (Ax m i 2)) rfl rfl Bs.a Bs.s rfl rfl) rfl ?_)))))
         refine Cc.imp rfl (Ey Tryz.call113 (λw hw=>Ik m (Ax m i 2) (EC (by omega)) w (Dn hw 13 rfl lm)) rfl (Cc.back (sk (sk (sk (sk (sk (sk (sk (sk (sk (sl sr)))))))))) (Cc.imp rfl (AF.openV (V:=λb9=>(Value.slice (some ⟨b9,0,none⟩) 1 1)) (T:=102) (cs:=CT ((mapM m).at_ (Ax m i 2))) (AN rfl) (BE (z:=.agg (CT ((0,0):Int×Int)).toArray) (cs:=CT ((mapM m).at_ (Ax m i 2))) (pv:=[(0,(aG (CT ((mapM m).at_ (Ax m i 2)))))]) Tryz.underlying97 Tryz.sizeOf102 Tryz.zeroValue102 (by decide) (by decide) rfl (El ((mapM m).at_ (Ax m i 2)))) rfl (Ad rfl) λb9=>Cc.back (sl (sk (sk (sk (sk (sk (sk (sk (sk (sk (sl sr))))))))))) ?_))))
         refine Cc.imp rfl (AF.appendAt 10 (j:=0) (cs2:=rowsL CT ((s2.pts m)++[((mapM m).at_ (Ax m i 2))])) Xn rfl hs2.o2 (by rw [Ak Fu];simp [WS.pts]) rfl rfl rfl rfl rfl (by decide) (Kq (by omega)) (by omega) (by rw [BW];rfl) rfl λp_6 c_6 ho_6 hne_6=>Cc.back (sl (sk (sk (sk (sk (sk (sk (sk (sk (sk (sl sr))))))))))) (vE (v:=(pP b3 0)) rfl (AA rfl Tryz.underlying99 rfl Tryz.sizeOf97 rfl) rfl (Cc.cut rfl (GK 11 (off:=0) (vs:=[(Value.slice p_6 (s2.pl.length+1) c_6)]) (cs':=[(Value.slice p_6 (s2.pl.length+1) c_6),(Value.slice p3 ts.length c3),(Value.slice none 0 0)]) (AN rfl) rfl Tryz.sizeOf97 rfl ?_))))
         refine AS.back (sl (sk (sk (sk (sk (sk (sk (sk (sk (sk (sl (sl sr)))))))))))) (AS.nil (AC.subF (sL [1,2,3,5,6,7,8,4,9,11,10] rfl) ?_))
         rw [show s2.pl.length+1=(s2.pl++[Ax m i 2]).length by simp]
         rw [show s2.pts m++[(mapM m).at_ (Ax m i 2)]=WS.pts (WS.mk (s2.pl++[Ax m i 2]) p_5 c_5 p_6 c_6) m by simp [WS.pts]]
         exact AC.join2 (WS.mk (s2.pl++[Ax m i 2]) p_5 c_5 p_6 c_6) s2.pl.length (⟨⟨(by simpa using ho_5),(by simpa using ho_6),λp hp=>(List.mem_append.1 hp).elim (hs2.small p) (λe=>by rw [List.mem_singleton.1 e];exact EC (by omega)),K7 hs2.dst (λj hj=>(ha.elim id (λh=>absurd h.1 (by omega))).2 j (by omega))⟩,F1.snoc _ _,by simp,by simp,DJ _ _,λa ha=>by simp only [List.length_append,List.length_singleton] at ha;omega⟩) (sF rfl) (sl (sl sr))
        ·replace hc4:=of_decide_eq_false hc4
         refine AG.retell (k:=10) (u:=(vN a.toNat)) rfl (by show Value.int _ _=Value.int _ _;congr 1;omega) (AG.skip ?_)
         obtain ⟨ha1,ha2,ha3⟩:=ha.resolve_left (λh=>by have:=h.1;omega)
         exact AC.join2 s2 a.toNat (⟨hs2,F1.refl _,by omega,by omega,ha3,λa ha=>.inl ha⟩) (sF rfl) sr
       ·intro s3 n3 hJ
        obtain ⟨hs3,hm3,hl3,hn3,hg3,hu3⟩:=hJ
        refine AC.then_ (AG.region (AO rfl (AO rfl (AJ (v:=(pP b4 2)) (AE (j:=2) rfl rfl Tryz.underlying76 Tryz.sizeOf3 rfl (by decide) rfl) rfl (GK 3 (off:=2) (vs:=[(vN n3)]) (cs':=[(vN n1),(vN n2),(vN n3)]) (AN rfl) rfl Tryz.sizeOf3 rfl ?_)))))
        refine AF.nil (AC.subF (sL [1,2,3,5,6,7,8,10,4] rfl) (AC.in_normal (AC.then_ (AG.region (AO rfl ?_)))))
        refine AJ (AX (c:=(3:Int)) rfl rfl (by decide)) rfl (AK rfl (AF.nil (AC.subF (sL [1,2,3,5,6,7,8,10,4] rfl) (AC.again (Dr.step ?_)))))
        refine AG.seq (q4 (AO rfl (AJ (Af (c:=false) rfl rfl (by decide)) rfl (AF.nil (AC.subF (sL [1,2,3,5,6,7,8,10,4,25] rfl) ?_)))))
        refine AC.then_ (AG.cond_false rfl (AG.exit (AC.then_exit (AC.then_exit (AC.in_exit ?_)))))
        refine AC.then_ (AG.region (AJ (v:=(pP b3 1)) (AA rfl Tryz.underlying99 rfl Tryz.sizeOf28 rfl) rfl (BL 9 (Value.slice p3 ts.length c3) Dc rfl (A7 3 Ip rfl (AF.openV (V:=λb8=>(Value.slice (some ⟨b8,0,none⟩) 1 1)) (T:=76) (cs:=Al (n1,n2,n3)) (AN rfl) (BE (z:=.agg (Al ((0,0,0):Nat×Nat×Nat)).toArray) (cs:=Al (n1,n2,n3)) (pv:=[(0,(aG ([(vN n1),(vN n2),(vN n3)])))]) Tryz.underlying28 Tryz.sizeOf76 Tryz.zeroValue76 (by decide) (by decide) rfl (Gd (n1,n2,n3))) rfl (Ad rfl) λb8=>?_)))))
        refine AF.appendAt 8 (j:=0) (cs2:=rowsL Al (ts++[(n1,n2,n3)])) Sh rfl h3 (Ak A6 _) rfl rfl rfl rfl rfl (by decide) (Kq (by omega)) (by omega) (by rw [BW];rfl) rfl λp_7 c_7 ho_7 hne_7=>AJ (v:=(pP b3 1)) (AA rfl Tryz.underlying99 rfl Tryz.sizeOf28 rfl) rfl (GK 10 (off:=1) (vs:=[(Value.slice p_7 (ts.length+1) c_7)]) (cs':=[(Value.slice s3.p2 s3.pl.length s3.c2),(Value.slice p_7 (ts.length+1) c_7),(Value.slice none 0 0)]) (AN rfl) rfl Tryz.sizeOf28 rfl (AF.nil (AC.subF (sL [1,2,3,5,6,7,8,10,4] rfl) (AC.in_normal ?_))))
        refine AC.then_ (AG.region (AO rfl (AJ (AX (c:=((i+1:Nat):Int)) rfl rfl (Ab (a:=i) (b:=1) (by omega))) rfl (AK rfl (AF.nil ?_)))))
        refine AC.subF (sL [1,2,3,5,6,7,8,10,4] rfl) ?_
        rw [show ts.length+1=(ts++[(n1,n2,n3)]).length by simp]
        exact AC.round5 (i+1) s3 p_7 c_7 (ts++[(n1,n2,n3)]) (⟨by omega,hs3,(by simpa using ho_7),hv.step ((hm1.trans hm2).trans hm3) (by omega) hs3.small ⟨⟨by show n1<_;have:=hm2.1;have:=hm3.1;omega,(hm3.2 _ (by have:=hm2.1;omega)).trans ((hm2.2 _ (by omega)).trans hg1)⟩,⟨by show n2<_;have:=hm3.1;omega,(hm3.2 _ (by omega)).trans hg2⟩,⟨by show n3<_;omega,hg3⟩⟩ (λa ha=>by rcases hu3 a ha with h|h;(rcases hu2 a h with h|h;(rcases hu1 a h with h|h;exact .inl h;exact .inr (.inl h.symm));exact .inr (.inr (.inl h.symm)));exact .inr (.inr (.inr h.symm)))⟩) (by omega) (sF rfl) (sl (sl (sl (sl (sl sr)))))
 ·replace hc0:=of_decide_eq_false hc0
  have hi9:i=(BD m).length:=by omega
  rw [hi9] at hv
  refine AG.exit (AC.then_exit (AC.round5_exit (AC.in_exit (q1 (q4 ?_)))))
  refine AK rfl (AF.nil (AC.then_ (AG.block ?_)))
  refine AG.lp4 (tg λ(ai:Nat) (p4:Option Addr) (c4:Nat) (ss:List (Nat×Nat×Nat))=>ai<=s.pl.length/\OwnOk p4 ss.length c4/\ss.length<=ai*108/\ss=Du m ts s.pl.length ai) (tg λ(ai:Nat) (p4:Option Addr) (c4:Nat) (ss:List (Nat×Nat×Nat))=>[(1,(pP b1 0)),(2,(pP b2 0)),(3,(pP b3 0)),(4,(Value.slice s.p1 s.pl.length s.c1)),(12,(vN ai))]) (tg λ(ai:Nat) (p4:Option Addr) (c4:Nat) (ss:List (Nat×Nat×Nat))=>[Ag gc.p (rowsL BF (BD m)),rowW s.p1 111 2 s.pl.length s.c1 (rowsL A_ s.pl),rowW p4 76 3 ss.length c4 (rowsL Al ss),rowW p3 76 3 ts.length c3 (rowsL Al ts),rowW s.p2 102 2 s.pl.length s.c2 (rowsL CT (s.pts m)),Ah b3 99 ([(Value.slice s.p2 s.pl.length s.c2),(Value.slice p3 ts.length c3),(Value.slice p4 ss.length c4)]),Ah b2 99 ([(Value.slice none 0 0),(Value.slice none 0 0),(Value.slice none 0 0)]),Ah b1 26 (Eu m),Ag m.p (C8 m.cs)]) (tg λ(ai:Nat) (p4:Option Addr) (c4:Nat) (ss:List (Nat×Nat×Nat))=>s.pl.length-ai) 0 none 0 ([]:List (Nat×Nat×Nat)) (⟨Nat.zero_le _,OwnOk.none,by simp,rfl⟩) (sF rfl) sr (λai p4 c4 ss hJ=>?_)
  obtain ⟨hai,h4,hsl,hsd⟩:=hJ
  refine AG.seq (q4 (AO rfl (AO rfl (AJ (v:=(vN s.pl.length)) (AI rfl Tryz.underlying186) rfl (AJ (Af (c:=(decide (ai<s.pl.length))) rfl rfl (DL (a:=ai) (b:=s.pl.length))) rfl ?_)))))
  refine AF.nil (AC.subF (sL [1,2,3,4,12,87] rfl) (AC.then_ ?_))
  refine AG.cond rfl (λhc5=>?_) (λhc5=>?_)
  ·replace hc5:=of_decide_eq_true hc5
   refine AG.skip (q1 (AG.block (q4 (AO rfl (AJ (AX (c:=((ai+1:Nat):Int)) rfl rfl (Ab (a:=ai) (b:=1) (by omega))) rfl ?_)))))
   refine AK rfl (AF.nil (AC.subF (sL [1,2,3,4,12,13] rfl) (AC.then_ (AG.block ?_))))
   refine AG.lp4 (tg λ(bi:Nat) (p5:Option Addr) (c5:Nat) (sq9:List (Nat×Nat×Nat))=>bi<=s.pl.length/\ai+1<=bi/\OwnOk p5 sq9.length c5/\sq9.length<=ai*108+bi/\sq9=Du m ts s.pl.length ai++JM m ts ai (bi-(ai+1))) (tg λ(bi:Nat) (p5:Option Addr) (c5:Nat) (sq9:List (Nat×Nat×Nat))=>[(1,(pP b1 0)),(2,(pP b2 0)),(3,(pP b3 0)),(4,(Value.slice s.p1 s.pl.length s.c1)),(12,(vN ai)),(13,(vN bi))]) (tg λ(bi:Nat) (p5:Option Addr) (c5:Nat) (sq9:List (Nat×Nat×Nat))=>[Ag gc.p (rowsL BF (BD m)),rowW s.p1 111 2 s.pl.length s.c1 (rowsL A_ s.pl),rowW p5 76 3 sq9.length c5 (rowsL Al sq9),rowW p3 76 3 ts.length c3 (rowsL Al ts),rowW s.p2 102 2 s.pl.length s.c2 (rowsL CT (s.pts m)),Ah b3 99 ([(Value.slice s.p2 s.pl.length s.c2),(Value.slice p3 ts.length c3),(Value.slice p5 sq9.length c5)]),Ah b2 99 ([(Value.slice none 0 0),(Value.slice none 0 0),(Value.slice none 0 0)]),Ah b1 26 (Eu m),Ag m.p (C8 m.cs)]) (tg λ(bi:Nat) (p5:Option Addr) (c5:Nat) (sq9:List (Nat×Nat×Nat))=>s.pl.length-bi) (ai+1) p4 c4 ss (⟨by omega,Nat.le_refl _,h4,by omega,by rw [hsd,Nat.sub_self];exact (List.append_nil _).symm⟩) (sF rfl) sr (λbi p5 c5 sq9 hJ=>?_)
   obtain ⟨hbi,hba,h5,hsr,hsq⟩:=hJ
   refine AG.seq (q4 (AO rfl (AO rfl (AJ (v:=(vN s.pl.length)) (AI rfl Tryz.underlying186) rfl (AJ (Af (c:=(decide (bi<s.pl.length))) rfl rfl (DL (a:=bi) (b:=s.pl.length))) rfl ?_)))))
   refine AF.nil (AC.subF (sL [1,2,3,4,12,13,95] rfl) (AC.then_ ?_))
   refine AG.cond rfl (λhc6=>?_) (λhc6=>?_)
   ·replace hc6:=of_decide_eq_true hc6
    refine AG.skip (q1 (AG.block (q4 (AK rfl (AF.nil ?_)))))
    refine q1 (q4 (AK rfl (AF.nil (AC.then_ (AG.block ?_)))))
    refine AG.lp2 (tg λ(ti:Nat) (cn:Nat)=>ti<=ts.length/\cn<=ti/\cn=IB ts ai bi ti) (tg λ(ti:Nat) (cn:Nat)=>[(1,(pP b1 0)),(2,(pP b2 0)),(3,(pP b3 0)),(4,(Value.slice s.p1 s.pl.length s.c1)),(12,(vN ai)),(13,(vN bi)),(15,(vN ti)),(14,(vN cn))]) (tg λ(ti:Nat) (cn:Nat)=>[Ag gc.p (rowsL BF (BD m)),rowW s.p1 111 2 s.pl.length s.c1 (rowsL A_ s.pl),rowW p5 76 3 sq9.length c5 (rowsL Al sq9),rowW p3 76 3 ts.length c3 (rowsL Al ts),rowW s.p2 102 2 s.pl.length s.c2 (rowsL CT (s.pts m)),Ah b3 99 ([(Value.slice s.p2 s.pl.length s.c2),(Value.slice p3 ts.length c3),(Value.slice p5 sq9.length c5)]),Ah b2 99 ([(Value.slice none 0 0),(Value.slice none 0 0),(Value.slice none 0 0)]),Ah b1 26 (Eu m),Ag m.p (C8 m.cs)]) (tg λ(ti:Nat) (cn:Nat)=>ts.length-ti) 0 0 (⟨Nat.zero_le _,Nat.le_refl _,rfl⟩) (sF rfl) sr (λti cn hJ=>?_)
    obtain ⟨hti,hcn,hcw⟩:=hJ
    refine AG.seq (q4 (AO rfl (AJ (v:=(pP b3 1)) (AA rfl Tryz.underlying99 rfl Tryz.sizeOf28 rfl) rfl (BL 5 (Value.slice p3 ts.length c3) Dc rfl (AJ (v:=(vN ts.length)) (AI rfl Tryz.underlying28) rfl ?_)))))
    refine AJ (Af (c:=(decide (ti<ts.length))) rfl rfl (DL (a:=ti) (b:=ts.length))) rfl (AF.nil (AC.subF (sL [1,2,3,4,12,13,15,14,102] rfl) (AC.then_ ?_)))
    refine AG.cond rfl (λhc7=>?_) (λhc7=>?_)
    ·replace hc7:=of_decide_eq_true hc7
     refine AG.skip (q1 (AG.block (q4 (AJ (v:=(pP b3 1)) (AA rfl Tryz.underlying99 rfl Tryz.sizeOf28 rfl) rfl (BL 5 (Value.slice p3 ts.length c3) Dc rfl ?_)))))
     refine AO rfl (AJ (v:=(pP (pB p3) (pO p3+ti*3))) (AW (j:=ti) rfl rfl h3.row Tryz.underlying28 Tryz.sizeOf76 rfl (by omega)) rfl (AJ (v:=(aG (Al (ts.getD ti ((0,0,0):Nat×Nat×Nat))))) (CO (vs:=Al (ts.getD ti ((0,0,0):Nat×Nat×Nat))) (i:=3) rfl rfl h3 (Ak A6 _) (BQ.ne h3.row (by omega)) Ip (Au A6 _ _ _ (by omega)) (A6 _)) rfl (AO rfl (BU Tryz.call114 (Uo (ts.getD ti ((0,0,0):Nat×Nat×Nat)) ai) rfl (AO rfl ?_)))))
     refine AF.mid (FM:=[(1,(pP b1 0)),(2,(pP b2 0)),(3,(pP b3 0)),(4,(Value.slice s.p1 s.pl.length s.c1)),(12,(vN ai)),(13,(vN bi)),(15,(vN ti)),(14,(vN cn)),(105,(pP b3 1)),(106,(Value.slice p3 ts.length c3)),(107,(vN ti)),(108,(pP (pB p3) (pO p3+ti*3))),(109,(aG (Al (ts.getD ti ((0,0,0):Nat×Nat×Nat))))),(110,(vN ai)),(111,(Value.bool (GW (ts.getD ti ((0,0,0):Nat×Nat×Nat)) ai))),(112,(Value.bool (GW (ts.getD ti ((0,0,0):Nat×Nat×Nat)) ai))),(120,(Value.bool ((GW (ts.getD ti ((0,0,0):Nat×Nat×Nat)) ai)&&(GW (ts.getD ti ((0,0,0):Nat×Nat×Nat)) bi))))]) (LM:=[Ag gc.p (rowsL BF (BD m)),rowW s.p1 111 2 s.pl.length s.c1 (rowsL A_ s.pl),rowW p5 76 3 sq9.length c5 (rowsL Al sq9),rowW p3 76 3 ts.length c3 (rowsL Al ts),rowW s.p2 102 2 s.pl.length s.c2 (rowsL CT (s.pts m)),Ah b3 99 ([(Value.slice s.p2 s.pl.length s.c2),(Value.slice p3 ts.length c3),(Value.slice p5 sq9.length c5)]),Ah b2 99 ([(Value.slice none 0 0),(Value.slice none 0 0),(Value.slice none 0 0)]),Ah b1 26 (Eu m),Ag m.p (C8 m.cs)]) 8 ?_ ?_
     ·rcases Bool.eq_false_or_eq_true (GW (ts.getD ti ((0,0,0):Nat×Nat×Nat)) ai) with hg1|hg1
      ·skip
       refine AF.retell (k:=112) (u:=Value.bool true) rfl (by rw [hg1]) ?_
       have hg1':=hg1
       skip
       refine AF.step (v:=(pP b3 1)) (AB rfl) (AA rfl Tryz.underlying99 rfl Tryz.sizeOf28 rfl) rfl (Ad rfl) (AF.step (v:=(Value.slice p3 ts.length c3)) (AB rfl) (AM (i:=5) (v:=(Value.slice p3 ts.length c3)) rfl rfl Dc.a rfl) rfl (Ad rfl) (AF.step (v:=(vN ti)) (AB rfl) (A9 rfl) rfl (Ad rfl) (AF.step (v:=(pP (pB p3) (pO p3+ti*3))) (AB rfl) (AW (j:=ti) rfl rfl h3.row Tryz.underlying28 Tryz.sizeOf76 rfl (by omega)) rfl (Ad rfl) (AF.step (v:=(aG (Al (ts.getD ti ((0,0,0):Nat×Nat×Nat))))) (AB rfl) (CO (vs:=Al (ts.getD ti ((0,0,0):Nat×Nat×Nat))) (i:=3) rfl rfl h3 (Ak A6 _) (BQ.ne h3.row (by omega)) Ip (Au A6 _ _ _ (by omega)) (A6 _)) rfl (Ad rfl) (AF.step (v:=(vN bi)) (AB rfl) (A9 rfl) rfl (Ad rfl) ?_)))))
       exact AF.call (v:=(Value.bool (GW (ts.getD ti ((0,0,0):Nat×Nat×Nat)) bi))) (AB rfl) (Aq (args:=[(aG (Al (ts.getD ti ((0,0,0):Nat×Nat×Nat)))),(vN bi)]) rfl rfl Tryz.call114) (λw hw=>Uo (ts.getD ti ((0,0,0):Nat×Nat×Nat)) bi w) rfl (Ad rfl) (AJ (v:=(Value.bool (GW (ts.getD ti ((0,0,0):Nat×Nat×Nat)) bi))) (Aj rfl rfl) rfl (AF.nil (AC.mid (sS rfl (sS rfl (sS rfl (sS rfl (sS rfl (sS rfl (sS rfl (sS rfl (sS rfl (sS rfl (sS rfl (sS rfl (sS rfl (sS rfl (sS rfl (sS (by first|rfl|(rw [hg1];rfl)|rw [hg1]) (sS (by first|rfl|(rw [hg1];rfl)|rw [hg1]) (sN)))))))))))))))))) (List.Sublist.refl _))))
      ·skip
       refine AF.retell (k:=112) (u:=Value.bool false) rfl (by rw [hg1]) ?_
       have hg1':=hg1
       skip
       refine AF.skip (AP rfl) rfl (Ad rfl) (AF.skip (AP rfl) rfl (Ad rfl) (AF.skip (AP rfl) rfl (Ad rfl) (AF.skip (AP rfl) rfl (Ad rfl) (AF.skip (AP rfl) rfl (Ad rfl) (AF.skip (AP rfl) rfl (Ad rfl) ?_)))))
       exact AF.skip (AP rfl) rfl (Ad rfl) (AJ (v:=(Value.bool false)) (AV rfl rfl) rfl (AF.nil (AC.mid (sS rfl (sS rfl (sS rfl (sS rfl (sS rfl (sS rfl (sS rfl (sS rfl (sS rfl (sS rfl (sS rfl (sS rfl (sS rfl (sS rfl (sS rfl (sS (by first|rfl|(rw [hg1];rfl)|rw [hg1]) (sS (by first|rfl|(rw [hg1];rfl)|rw [hg1]) (sN)))))))))))))))))) (List.Sublist.refl _))))
     refine AF.nil (AC.subF (sL [1,2,3,4,12,13,15,14,120] rfl) (AC.then_ ?_))
     refine AG.cond rfl (λhc8=>?_) (λhc8=>?_)
     ·simp only [Bool.and_eq_true,Bool.or_eq_true,Bool.and_eq_false_iff,Bool.or_eq_false_iff,Bool.not_eq_true',Bool.not_eq_false',decide_eq_true_eq,decide_eq_false_iff_not] at hc8
      refine AG.region (AO rfl (AJ (AX (c:=((cn+1:Nat):Int)) rfl rfl (Ab (a:=cn) (b:=1) (by omega))) rfl (AK rfl (AF.nil (AC.subF (sL [1,2,3,4,12,13,15,14] rfl) ?_)))))
      refine AC.in_normal (AC.then_ (AG.region (AO rfl (AJ (AX (c:=((ti+1:Nat):Int)) rfl rfl (Ab (a:=ti) (b:=1) (by omega))) rfl (AK rfl ?_)))))
      exact AF.nil (AC.subF (sL [1,2,3,4,12,13,15,14] rfl) (AC.round2 (ti+1) (cn+1) (⟨by omega,by omega,by rw [hcw];exact (UI hc8).symm⟩) (by omega) (sF rfl) sr))
     ·simp only [Bool.and_eq_true,Bool.or_eq_true,Bool.and_eq_false_iff,Bool.or_eq_false_iff,Bool.not_eq_true',Bool.not_eq_false',decide_eq_true_eq,decide_eq_false_iff_not] at hc8
      refine AG.skip (AC.in_normal (AC.then_ (AG.region (AO rfl (AJ (AX (c:=((ti+1:Nat):Int)) rfl rfl (Ab (a:=ti) (b:=1) (by omega))) rfl ?_)))))
      exact AK rfl (AF.nil (AC.subF (sL [1,2,3,4,12,13,15,14] rfl) (AC.round2 (ti+1) cn (⟨by omega,by omega,by rw [hcw];exact (Ww hc8).symm⟩) (by omega) (sF rfl) sr)))
    ·replace hc7:=of_decide_eq_false hc7
     have hte:ti=ts.length:=by omega
     rw [hte] at hcw
     refine AG.exit (AC.then_exit (AC.round2_exit (AC.in_exit (q2 (AO rfl ?_)))))
     refine AJ (Be (c:=(decide (cn=1))) rfl rfl (Og (a:=cn) (b:=1))) rfl (AF.nil (AC.subF (sL [1,2,3,4,12,13,15,14,124] rfl) (AC.then_ ?_)))
     refine AG.cond rfl (λhc9=>?_) (λhc9=>?_)
     ·replace hc9:=of_decide_eq_true hc9
      refine AG.region (AJ (v:=(pP b3 2)) (AA rfl Tryz.underlying99 rfl Tryz.sizeOf28 rfl) rfl (BL 5 (Value.slice p5 sq9.length c5) Dc rfl (AO rfl (AO rfl (AO rfl ?_)))))
      refine AO rfl (AJ (Bq (c:=((3*bi:Nat):Int)) rfl rfl (Ca (a:=3) (b:=bi) (by omega))) rfl (AJ (AX (c:=((ai+(3*bi):Nat):Int)) rfl rfl (Ab (a:=ai) (b:=3*bi) (by omega))) rfl (AJ (v:=(pP b1 8)) (AA rfl Tryz.underlying26 rfl Tryz.sizeOf5 rfl) rfl (BL 7 (vK .u8 m.fst) Tn rfl (AJ (Az (c:=((m.fst:Nat):Int)) rfl Tryz.underlying5 Tryz.underlying3 (CZ (by omega))) rfl ?_)))))
      refine AJ (AX (c:=(((ai+(3*bi))+m.fst:Nat):Int)) rfl rfl (Ab (a:=ai+(3*bi)) (b:=m.fst) (by omega))) rfl (AJ (CF (c:=((((ai+(3*bi))+m.fst)%5:Nat):Int)) rfl rfl (by omega) (Ie (a:=(ai+(3*bi))+m.fst) (b:=5))) rfl (AJ (v:=(aG (Al (ai,bi,((ai+(3*bi))+m.fst)%5)))) (An (zs:=Al ((0,0,0):Nat×Nat×Nat)) (vs:=Al (ai,bi,((ai+(3*bi))+m.fst)%5)) (pv:=[(0,(vN ai)),(1,(vN bi)),(2,(vN (((ai+(3*bi))+m.fst)%5)))]) Tryz.zeroValue76 Tryz.underlying76 Tryz.sizeOf3 rfl (LC ai bi (((ai+(3*bi))+m.fst)%5))) rfl (AF.openV (V:=λb4=>(Value.slice (some ⟨b4,0,none⟩) 1 1)) (T:=76) (cs:=Al (ai,bi,((ai+(3*bi))+m.fst)%5)) (AN rfl) (BE (z:=.agg (Al ((0,0,0):Nat×Nat×Nat)).toArray) (cs:=Al (ai,bi,((ai+(3*bi))+m.fst)%5)) (pv:=[(0,(aG (Al (ai,bi,((ai+(3*bi))+m.fst)%5))))]) Tryz.underlying28 Tryz.sizeOf76 Tryz.zeroValue76 (by decide) (by decide) rfl (Gd (ai,bi,((ai+(3*bi))+m.fst)%5))) rfl (Ad rfl) λb4=>AF.appendAt 3 (j:=0) (cs2:=rowsL Al (sq9++[(ai,bi,((ai+(3*bi))+m.fst)%5)])) Sh rfl h5 (Ak A6 _) rfl rfl rfl rfl rfl (by decide) (Kq (by omega)) (by omega) (by rw [BW];rfl) rfl λp_8 c_8 ho_8 hne_8=>AJ (v:=(pP b3 2)) (AA rfl Tryz.underlying99 rfl Tryz.sizeOf28 rfl) rfl ?_)))
      refine GK 6 (off:=2) (vs:=[(Value.slice p_8 (sq9.length+1) c_8)]) (cs':=[(Value.slice s.p2 s.pl.length s.c2),(Value.slice p3 ts.length c3),(Value.slice p_8 (sq9.length+1) c_8)]) (AN rfl) rfl Tryz.sizeOf28 rfl (AF.nil (AC.subF (sL [1,2,3,4,12,13,15,14] rfl) (AC.in_normal (AC.then_ (AG.region ?_)))))
      refine AO rfl (AJ (AX (c:=((bi+1:Nat):Int)) rfl rfl (Ab (a:=bi) (b:=1) (by omega))) rfl (AK rfl (AF.nil (AC.subF (sL [1,2,3,4,12,13,15,14] rfl) ?_))))
      rw [show sq9.length+1=(sq9++[(ai,bi,((ai+(3*bi))+m.fst)%5)]).length by simp]
      exact AC.round4 (bi+1) p_8 c_8 (sq9++[(ai,bi,((ai+(3*bi))+m.fst)%5)]) (⟨by omega,by omega,(by simpa using ho_8),by rw [List.length_append];simp only [List.length_singleton];omega,(by rw [hsq];exact Ub (by omega) (by rw [<-hcw,hc9]))⟩) (by omega) (sF rfl) (sl sr)
     ·replace hc9:=of_decide_eq_false hc9
      refine AG.skip (AC.in_normal (AC.then_ (AG.region (AO rfl (AJ (AX (c:=((bi+1:Nat):Int)) rfl rfl (Ab (a:=bi) (b:=1) (by omega))) rfl ?_)))))
      exact AK rfl (AF.nil (AC.subF (sL [1,2,3,4,12,13,15,14] rfl) (AC.round4 (bi+1) p5 c5 sq9 (⟨by omega,by omega,h5,by omega,(by rw [hsq];exact Wz (by omega) (by rw [<-hcw];exact hc9))⟩) (by omega) (sF rfl) sr)))
   ·replace hc6:=of_decide_eq_false hc6
    refine AG.exit (AC.then_exit (AC.round4_exit (AC.in_exit (AC.in_normal (AC.then_ ?_)))))
    exact AG.region (AO rfl (AJ (AX (c:=((ai+1:Nat):Int)) rfl rfl (Ab (a:=ai) (b:=1) (by omega))) rfl (AK rfl (AF.nil (AC.subF (sL [1,2,3,4,12,13] rfl) (AC.round4 (ai+1) p5 c5 sq9 (⟨by omega,h5,by omega,by rw [hsq,show bi=s.pl.length by omega];rfl⟩) (by omega) (sF rfl) sr))))))
  ·replace hc5:=of_decide_eq_false hc5
   refine AG.exit (AC.then_exit (AC.round4_exit (AC.in_exit (q2 (A7 5 ZY rfl ?_)))))
   exact GK 6 (off:=0) (vs:=[(Value.slice s.p2 s.pl.length s.c2),(Value.slice p3 ts.length c3),(Value.slice p4 ss.length c4)]) (cs':=[(Value.slice s.p2 s.pl.length s.c2),(Value.slice p3 ts.length c3),(Value.slice p4 ss.length c4)]) (AN rfl) rfl Tryz.sizeOf99 rfl (AF.nil (AC.subF (sL [1,2,3,4,12] rfl) (AC.then_ (AG.ret (AR rfl (Ay (i:=6) (cs:=[(Value.slice s.p2 s.pl.length s.c2),(Value.slice p3 ts.length c3),(Value.slice p4 ss.length c4)]) rfl rfl Tryz.isAgg99 Tryz.sizeOf99 rfl) (λw hw=>(Y5 hw (WM.mk s.pl ts ss hv hs.dst (by omega) (by rw [hsd,show ai=s.pl.length by omega]) ⟨s.p2,s.c2,hs.o2.row⟩ ⟨p3,c3,h3.row⟩ ⟨p4,c4,h4.row⟩) h3 3 rfl (Fa (S:=λ_=>False) hw 4 rfl hs.o2 (by rw [Ak Fu];simp [WS.pts])) (Fa (S:=λ_=>False) hw 3 rfl h3 (Ak A6 _)) (Fa (S:=λ_=>False) hw 2 rfl h4 (Ak A6 _)) rfl)))))))
end
end Go.Proofs.YtfbomiejpbchdaaGreat
