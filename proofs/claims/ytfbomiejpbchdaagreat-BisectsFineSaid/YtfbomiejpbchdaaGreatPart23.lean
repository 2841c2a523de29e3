import Derived.Test.YtfbomiejpbchdaaGreatPart06
import Derived.Test.YtfbomiejpbchdaaGreatPart14
import Derived.Test.YtfbomiejpbchdaaGreatPart21
import Derived.Test.YtfbomiejpbchdaaGreatPart22
namespace Go.Proofs.YtfbomiejpbchdaaGreat
open Go Go.RowKit Go.Proofs.Tryz
set_option linter.unusedVariables false
set_option linter.unusedSimpArgs false
section
set_option maxRecDepth 100000
theorem Uk:ElemT prog 186 111 2 16:=⟨underlying186,Eb (by kernel_rfl)⟩
theorem Ns:ElemT prog 28 76 3 24:=⟨underlying28,Eb (by kernel_rfl)⟩
theorem YS:ElemT prog 97 102 2 16:=⟨underlying97,Eb (by kernel_rfl)⟩
theorem TL (t:Nat×Nat×Nat) (x:Nat) (w:World)  :Calls prog 114 #[(aG (An t)),(vN x)] w (Av w (Value.bool (Gf t x))):=by
 refine Ag (args:=[(aG (An t)),(vN x)]) func114 O O (Ab O) (AF.subF (sL [0,1] O) (q4 (Bo (cs:=An t) O λb1=>AO O (q3 (sL [1,2,4] O) ?_))))
 refine AI (v:=(pP b1 0)) (AD (j:=0) O O underlying76 sizeOf3 O (by decide) O) O (BK 0 (vN t.1) Bm O (AR O (AI (BS (c:=(decide (t.1=x))) O O (Ot (a:=t.1) (b:=x))) O (AR O ?_))))
 refine AE.mid (FM:=[(1,(vN x)),(2,(pP b1 0)),(4,(Value.bool false)),(5,(pP b1 0)),(6,(vN t.1)),(7,(vN x)),(8,(Value.bool (decide (t.1=x)))),(9,(Value.bool (decide (t.1=x)))),(14,(Value.bool ((decide (t.1=x))||(decide (t.2.1=x)))))]) (LM:=[Af b1 76 (An t)]) 5 ?_ ?_
 ·rcases Bool.eq_false_or_eq_true (decide (t.1=x)) with hg1|hg1
  ·skip
   refine AE.retell (k:=9) (u:=Value.bool true) O (by rw [hg1]) ?_
   have hg1':=hg1
   replace hg1':=of_decide_eq_true hg1'
   exact AE.skip (AL O) O (Ab O) (AE.skip (AL O) O (Ab O) (AE.skip (AL O) O (Ab O) (AE.skip (AL O) O (Ab O) (AI (v:=(Value.bool true)) (Ah O O) O (AE.nil (AC.mid (sS O (sS O (sS O (sS O (sS O (sS O (sS O (sS (by first|rfl|(rw [hg1];rfl)|rw [hg1]) (sS (by first|rfl|(rw [hg1];rfl)|rw [hg1]) (sN)))))))))) (List.Sublist.refl _)))))))
  ·skip
   refine AE.retell (k:=9) (u:=Value.bool false) O (by rw [hg1]) ?_
   have hg1':=hg1
   replace hg1':=of_decide_eq_false hg1'
   exact AE.step (v:=(pP b1 1)) (AB O) (AD (j:=1) O O underlying76 sizeOf3 O (by decide) O) O (Ab O) (AE.step (v:=(vN t.2.1)) (AB O) (AK (i:=0) (v:=(vN t.2.1)) O O Bm.a O) O (Ab O) (AE.step (v:=(vN x)) (AB O) (BA O) O (Ab O) (AE.step (v:=(Value.bool (decide (t.2.1=x)))) (AB O) (BS (c:=(decide (t.2.1=x))) O O (Ot (a:=t.2.1) (b:=x))) O (Ab O) (AI (v:=(Value.bool (decide (t.2.1=x)))) (AS O O) O (AE.nil (AC.mid (sS O (sS O (sS O (sS O (sS O (sS O (sS O (sS (by first|rfl|(rw [hg1];rfl)|rw [hg1]) (sS (by first|rfl|(rw [hg1];rfl)|rw [hg1]) (sN)))))))))) (List.Sublist.refl _)))))))
 refine AR O ?_
 refine AE.mid (FM:=[(1,(vN x)),(2,(pP b1 0)),(4,(Value.bool false)),(5,(pP b1 0)),(6,(vN t.1)),(7,(vN x)),(8,(Value.bool (decide (t.1=x)))),(9,(Value.bool (decide (t.1=x)))),(14,(Value.bool ((decide (t.1=x))||(decide (t.2.1=x))))),(15,(Value.bool ((decide (t.1=x))||(decide (t.2.1=x))))),(20,(Value.bool (((decide (t.1=x))||(decide (t.2.1=x)))||(decide (t.2.2=x)))))]) (LM:=[Af b1 76 (An t)]) 5 ?_ ?_
 ·rcases Bool.eq_false_or_eq_true ((decide (t.1=x))||(decide (t.2.1=x))) with hg2|hg2
  ·skip
   refine AE.retell (k:=15) (u:=Value.bool true) O (by rw [hg2]) ?_
   have hg2':=hg2
   simp only [Bool.and_eq_true,Bool.or_eq_true,Bool.and_eq_false_iff,Bool.or_eq_false_iff,Bool.not_eq_true',Bool.not_eq_false',decide_eq_true_eq,decide_eq_false_iff_not] at hg2'
   exact AE.skip (AL O) O (Ab O) (AE.skip (AL O) O (Ab O) (AE.skip (AL O) O (Ab O) (AE.skip (AL O) O (Ab O) (AI (v:=(Value.bool true)) (Ah O O) O (AE.nil (AC.mid (sS O (sS O (sS O (sS O (sS O (sS O (sS O (sS O (sS O (sS (by first|rfl|(rw [hg2];rfl)|rw [hg2]) (sS (by first|rfl|(rw [hg2];rfl)|rw [hg2]) (sN)))))))))))) (List.Sublist.refl _)))))))
  ·skip
   refine AE.retell (k:=15) (u:=Value.bool false) O (by rw [hg2]) ?_
   have hg2':=hg2
   simp only [Bool.and_eq_true,Bool.or_eq_true,Bool.and_eq_false_iff,Bool.or_eq_false_iff,Bool.not_eq_true',Bool.not_eq_false',decide_eq_true_eq,decide_eq_false_iff_not] at hg2'
   exact AE.step (v:=(pP b1 2)) (AB O) (AD (j:=2) O O underlying76 sizeOf3 O (by decide) O) O (Ab O) (AE.step (v:=(vN t.2.2)) (AB O) (AK (i:=0) (v:=(vN t.2.2)) O O Bm.a O) O (Ab O) (AE.step (v:=(vN x)) (AB O) (BA O) O (Ab O) (AE.step (v:=(Value.bool (decide (t.2.2=x)))) (AB O) (BS (c:=(decide (t.2.2=x))) O O (Ot (a:=t.2.2) (b:=x))) O (Ab O) (AI (v:=(Value.bool (decide (t.2.2=x)))) (AS O O) O (AE.nil (AC.mid (sS O (sS O (sS O (sS O (sS O (sS O (sS O (sS O (sS O (sS (by first|rfl|(rw [hg2];rfl)|rw [hg2]) (sS (by first|rfl|(rw [hg2];rfl)|rw [hg2]) (sN)))))))))))) (List.Sublist.refl _)))))))
 exact AO O (AE.nil (AC.subF (sL [4] O) (AC.then_ (AF.ret (AT O (Ak (v:=(Value.bool (((decide (t.1=x))||(decide (t.2.1=x)))||(decide (t.2.2=x))))) O) (λw hw=>⟨by first|rfl|simp [Gf,Bool.or_assoc],hw.out⟩))))))
theorem El (x0:P2):Instr.fill (λi=>some (i*2,2)) ((Array.range (1*2)).map ((Value.agg (Az ((0,0):P2)).toArray).cells[·%(Value.agg (Az ((0,0):P2)).toArray).cells.size]!)) [(0,.agg (Az x0).toArray)]=some (Az x0).toArray:=by kernel_rfl
theorem Er (x0:Int×Int):Instr.fill (λi=>some (i*2,2)) ((Array.range (1*2)).map ((Value.agg (CZ ((0,0):Int×Int)).toArray).cells[·%(Value.agg (CZ ((0,0):Int×Int)).toArray).cells.size]!)) [(0,.agg (CZ x0).toArray)]=some (CZ x0).toArray:=by kernel_rfl
theorem Gr (x0:Nat×Nat×Nat):Instr.fill (λi=>some (i*3,3)) ((Array.range (1*3)).map ((Value.agg (An ((0,0,0):Nat×Nat×Nat)).toArray).cells[·%(Value.agg (An ((0,0,0):Nat×Nat×Nat)).toArray).cells.size]!)) [(0,.agg (An x0).toArray)]=some (An x0).toArray:=by kernel_rfl
theorem KF (x0 x1 x2:Nat):Instr.fill (λi=>some (i*1,1)) (An ((0,0,0):Nat×Nat×Nat)).toArray [(0,vN x0),(1,vN x1),(2,vN x2)]=some (An (x0,x1,x2)).toArray:=by kernel_rfl
set_option maxHeartbeats 2000000 in
theorem PB (m:MQ) (w:World) {S:Nat->Prop} (hm:Ro S w m):Calls prog 44 #[(aG (Ek m))] w (Bb (YE m) (λ_=>False) w):=by
 have hf:=m.hfst
 have hf3:m.fst/3<=85:=by omega
 have lm:=EA (W:=w) hm
 refine BF (args:=[(aG (Ek m))]) (L:=[AZ m.p (Cc m.cs)]) func44 O O (Ab O) (EB hm BR) (AF.subF (sL [0] O) (q4 (Bo (cs:=Ek m) O λb1=>al Xe O λb2=>q3 (sL [1,2] O) ?_)))
 refine al Xe O λb3=>AE.nilRow 102 2 (AE.nilRow 76 3 (AE.nilRow 76 3 (AE.nil (q2 ?_))))
 refine AO O (AE.nilRow 111 2 (AE.nil (q2 (A6 6 NY O (cX (S:=S) (cs:=rowsL BH (BD m)) (k:=(BD m).length) (args:=[(aG (Ek m))]) call112 (λw hw=>SN m w (DB hw 7 O lm)) O O O λgc lgc=>?_)))))
 refine AO O (q6 (sL [1,2,3,4,5] O) (q4 (AO O (AE.nil (AC.then_ ?_)))))
 refine AF.block ?_
 refine AF.lp5 (tg λ(i:Nat) (s:WS) (p3:Option Addr) (c3:Nat) (ts:List (Nat×Nat×Nat))=>i<=(BD m).length/\WS.Ok s/\OwnOk p3 ts.length c3/\NH m i (WS.pl s) ts) (tg λ(i:Nat) (s:WS) (p3:Option Addr) (c3:Nat) (ts:List (Nat×Nat×Nat))=>[(1,(pP b1 0)),(2,(pP b2 0)),(3,(pP b3 0)),(5,(Value.slice gc.p ((BD m).length) gc.c)),(6,(vN i)),(4,(Value.slice s.p1 s.pl.length s.c1))]) (tg λ(i:Nat) (s:WS) (p3:Option Addr) (c3:Nat) (ts:List (Nat×Nat×Nat))=>[AZ gc.p (rowsL BH (BD m)),rowW s.p1 111 2 s.pl.length s.c1 (rowsL Az s.pl),rowW none 76 3 0 0 (rowsL An ([])),rowW p3 76 3 ts.length c3 (rowsL An ts),rowW s.p2 102 2 s.pl.length s.c2 (rowsL CZ (s.pts m)),Af b3 99 ([(Value.slice s.p2 s.pl.length s.c2),(Value.slice p3 ts.length c3),(Value.slice none 0 0)]),Af b2 99 ([(Value.slice none 0 0),(Value.slice none 0 0),(Value.slice none 0 0)]),Af b1 26 (Ek m),AZ m.p (Cc m.cs)]) (tg λ(i:Nat) (s:WS) (p3:Option Addr) (c3:Nat) (ts:List (Nat×Nat×Nat))=>(BD m).length-i) 0 (WS.mk [] none 0 none 0) none 0 ([]:List (Nat×Nat×Nat)) (⟨Nat.zero_le _,⟨OwnOk.none,OwnOk.none,(λp hp=>by cases hp),We⟩,OwnOk.none,ZB m⟩) (sF O) sr (λi s p3 c3 ts hJ=>?_)
 obtain ⟨hi,hs,h3,hv⟩:=hJ
 have hpl:=hv.pll
 have htl:=hv.tl
 have hcl:=Hl m
 refine AF.seq (q4 (AR O (AR O (AI (v:=(vN ((BD m).length))) (AG O underlying187) O (AI (Am (c:=(decide (i<((BD m).length)))) O O (C6 (a:=i) (b:=(BD m).length))) O ?_)))))
 refine AE.nil (AC.subF (sL [1,2,3,5,6,4,21] O) (AC.then_ ?_))
 refine AF.cond O (λhc0=>?_) (λhc0=>?_)
 ·replace hc0:=of_decide_eq_true hc0
  refine AF.skip (q1 (AF.block (q4 (al Nc O λb4=>AE.nil ?_))))
  refine q1 (q4 (AO O (AE.nil (AC.then_ (AF.block ?_)))))
  refine AF.unroll 4 (GC.step (AF.seq (q4 (AR O (AI (Am (c:=true) O O (by decide)) O ?_)))))
  refine AE.nil (AC.subF (sL [1,2,3,5,6,4,7,8,25] O) (AC.then_ (AF.cond_true O (AF.skip (q1 ?_)))))
  refine AF.block (AF.seq (Cu [(0,true),(1,true),(2,true),(3,true),(4,true),(5,true),(6,true),(7,true),(8,true),(9,true),(10,true),(11,true),(12,true),(13,true),(14,true),(15,true),(16,true),(17,true),(18,false),(19,false)] sr (Bf O (Bf O (Bf O ?_)))))
  refine Ax (v:=(pP b1 8)) O (AA O underlying26 O sizeOf5 O) (Bj 8 (vK .u8 m.fst) SY O (Ax O (A9 (c:=((m.fst:Nat):Int)) O underlying5 underlying3 (CW Z)) (Ax O (AY (c:=((0+m.fst:Nat):Int)) O O (AX (a:=0) (b:=m.fst) Z)) (Bf O (Ax (v:=(pP b1 8)) O (AA O underlying26 O sizeOf5 O) ?_)))))
  refine Bj 8 (vK .u8 m.fst) SY O (Ax O (G3 (c:=((m.fst/3:Nat):Int)) O O Z (NL (a:=m.fst) (b:=3) Z)) (Ax O (A9 (c:=((m.fst/3:Nat):Int)) O underlying5 underlying3 (CW Z)) ?_))
  have hmul:i*(m.fst/3)<=36*85:=Nat.mul_le_mul Z hf3
  refine Ax O (B6 (c:=((i*(m.fst/3):Nat):Int)) O O (DO (a:=i) (b:=m.fst/3) Z)) (Ax O (AY (c:=(((0+m.fst)+(i*(m.fst/3)):Nat):Int)) O O (AX (a:=0+m.fst) (b:=i*(m.fst/3)) Z)) ?_)
  obtain ⟨r9,hr9⟩:∃r,r=I3 m i 0:=⟨_,rfl⟩
  have hr3:r9<3:=by rw [hr9];exact Nat.mod_lt _ (by decide)
  refine Ax O (CC (c:=((r9:Nat):Int)) O O (by decide) (by rw [hr9];exact H2 (a:=0+m.fst+i*(m.fst/3)) (b:=3))) (Ax (v:=(pP (pB gc.p) (pO gc.p+i*6))) O (AQ (j:=i) O O gc.ok underlying187 sizeOf189 O Z) (Ax (v:=(pP (pB gc.p) (pO gc.p+(i*6+r9*2)))) O (AD (j:=r9) O O underlying189 sizeOf111 O hr3 (Nat.add_assoc _ _ _)) (Ax (v:=(aG (Az (Ay m i 0)))) O (AW (vs:=Az (Ay m i 0)) (i:=1) O O (BQ.ne gc.ok Z) By (Ig _ i r9 Z hr3 _ O _ (by rw [hr9];rfl)) O) (AV.imp O (al JE O λb5=>?_)))))
  refine AV.back (sl sr) (AV.imp O (Aq O sizeOf111 O (AV.back (sl sr) (AV.nil (AC.subF (sL [1,2,3,5,6,4,7,8,9] O) ?_)))))
  refine q2 (AO O (AE.nil (q1 (q4 (AO O ?_)))))
  refine AE.nil (AC.then_ (AF.block ?_))
  refine AF.lp2 (tg λ(k:Nat) (a:Int)=>k<=s.pl.length/\((a = -1/\∀j,j<k->s.pl.getD j (0,0)≠Ay m i 0)\/0<=a/\a<(k:Int)/\s.pl.getD (Int.toNat a) (0,0)=Ay m i 0)) (tg λ(k:Nat) (a:Int)=>[(1,(pP b1 0)),(2,(pP b2 0)),(3,(pP b3 0)),(5,(Value.slice gc.p ((BD m).length) gc.c)),(6,(vN i)),(4,(Value.slice s.p1 s.pl.length s.c1)),(7,(pP b4 0)),(8,(vI 0)),(9,(pP b5 0)),(11,(vN k)),(10,(vI a))]) (tg λ(k:Nat) (a:Int)=>[Af b5 111 (Az (Ay m i 0)),Af b4 76 (An ((0,0,0):Nat×Nat×Nat)),AZ gc.p (rowsL BH (BD m)),rowW s.p1 111 2 s.pl.length s.c1 (rowsL Az s.pl),rowW none 76 3 0 0 (rowsL An ([])),rowW p3 76 3 ts.length c3 (rowsL An ts),rowW s.p2 102 2 s.pl.length s.c2 (rowsL CZ (s.pts m)),Af b3 99 ([(Value.slice s.p2 s.pl.length s.c2),(Value.slice p3 ts.length c3),(Value.slice none 0 0)]),Af b2 99 ([(Value.slice none 0 0),(Value.slice none 0 0),(Value.slice none 0 0)]),Af b1 26 (Ek m),AZ m.p (Cc m.cs)]) (tg λ(k:Nat) (a:Int)=>s.pl.length-k) 0 (-1:Int) (⟨Nat.zero_le _,.inl ⟨rfl,λj hj=>absurd hj (Nat.not_lt_zero _)⟩⟩) (sF O) sr (λk a hJ=>?_)
  obtain ⟨hk,ha⟩:=hJ
  refine AF.seq (q4 (AR O (AR O (AI (v:=(vN s.pl.length)) (AG O underlying186) O (AI (Am (c:=(decide (k<s.pl.length))) O O (C6 (a:=k) (b:=s.pl.length))) O ?_)))))
  refine AE.nil (AC.subF (sL [1,2,3,5,6,4,7,8,9,11,10,49] O) (AC.then_ ?_))
  refine AF.cond O (λhc2=>?_) (λhc2=>?_)
  ·replace hc2:=of_decide_eq_true hc2
   refine AF.skip (q1 (AF.block (AF.seq (Cu [(0,true),(1,true),(2,true),(3,true),(4,true),(5,true)] sr (Bf O ?_)))))
   refine Bf O (Ax (v:=(pP (pB s.p1) (pO s.p1+k*2))) O (AQ (j:=k) O O hs.o1.row underlying186 sizeOf111 O Z) (Ax (v:=(aG (Az (s.pl.getD k ((0,0):P2))))) O (CV (vs:=Az (s.pl.getD k ((0,0):P2))) (i:=3) O O hs.o1 (Al C5 _) (BQ.ne hs.o1.row Z) By (Aw C5 _ _ _ Z) (C5 _)) (EW 0 By O (Ax O (Bt (c:=decide (s.pl.getD k ((0,0):P2)=(Ay m i 0))) O O eqGuardType111 (NG 9998 (s.pl.getD k ((0,0):P2)) (Ay m i 0))) (AV.nil ?_)))))
   refine AC.subF (sL [1,2,3,5,6,4,7,8,9,11,10,57] O) (AC.then_ ?_)
   refine AF.cond O (λhc3=>?_) (λhc3=>?_)
   ·replace hc3:=of_decide_eq_true hc3
    refine AF.region (AR O (AO O (AE.nil (AC.subF (sL [1,2,3,5,6,4,7,8,9,11,10] O) (AC.in_normal ?_)))))
    refine AC.then_ (AF.region (AR O (AI (AY (c:=((k+1:Nat):Int)) O O (AX (a:=k) (b:=1) Z)) O (AO O (AE.nil ?_)))))
    exact AC.subF (sL [1,2,3,5,6,4,7,8,9,11,10] O) (AC.round2 (k+1) (k:Int) (⟨Z,.inr ⟨Z,Z,by simpa using hc3⟩⟩) Z (sF O) sr)
   ·replace hc3:=of_decide_eq_false hc3
    refine AF.skip (AC.in_normal (AC.then_ (AF.region (AR O (AI (AY (c:=((k+1:Nat):Int)) O O (AX (a:=k) (b:=1) Z)) O ?_)))))
    exact AO O (AE.nil (AC.subF (sL [1,2,3,5,6,4,7,8,9,11,10] O) (AC.round2 (k+1) a (⟨Z,ha.elim (λh=>.inl ⟨h.1,λj hj=>by rcases Nat.lt_or_ge j k with h1|h1;exact h.2 j h1;(obtain rfl:j=k:=by omega);simpa using hc3⟩) (λh=>.inr ⟨h.1,Z,h.2.2⟩)⟩) Z (sF O) sr)))
  ·replace hc2:=of_decide_eq_false hc2
   refine AF.exit (AC.then_exit (AC.round2_exit (AC.in_exit (q1 (q4 ?_)))))
   refine AR O (AI (Am (c:=(decide (a<(0:Int)))) O O O) O (AE.nil (AC.subF (sL [1,2,3,5,6,4,7,8,9,11,10,60] O) (AC.then_ ?_))))
   refine AF.jn2 (tg λ(s1:WS) (n1:Nat)=>WS.Ok s1/\GP s.pl (WS.pl s1)/\(WS.pl s1).length<=s.pl.length+1/\n1<(WS.pl s1).length/\(WS.pl s1).getD n1 (0,0)=Ay m i 0/\∀a,a<(WS.pl s1).length->a<s.pl.length\/a=n1) (tg λ(s1:WS) (n1:Nat)=>[(1,(pP b1 0)),(2,(pP b2 0)),(3,(pP b3 0)),(5,(Value.slice gc.p ((BD m).length) gc.c)),(6,(vN i)),(7,(pP b4 0)),(8,(vI 0)),(10,(vN n1)),(4,(Value.slice s1.p1 s1.pl.length s1.c1))]) (tg λ(s1:WS) (n1:Nat)=>[Af b5 111 (Az (Ay m i 0)),Af b4 76 (An ((0,0,0):Nat×Nat×Nat)),AZ gc.p (rowsL BH (BD m)),rowW s1.p1 111 2 s1.pl.length s1.c1 (rowsL Az s1.pl),rowW none 76 3 0 0 (rowsL An ([])),rowW p3 76 3 ts.length c3 (rowsL An ts),rowW s1.p2 102 2 s1.pl.length s1.c2 (rowsL CZ (s1.pts m)),Af b3 99 ([(Value.slice s1.p2 s1.pl.length s1.c2),(Value.slice p3 ts.length c3),(Value.slice none 0 0)]),Af b2 99 ([(Value.slice none 0 0),(Value.slice none 0 0),(Value.slice none 0 0)]),Af b1 26 (Ek m),AZ m.p (Cc m.cs)]) ?_ ?_
   ·skip
    refine AF.cond O (λhc4=>?_) (λhc4=>?_)
    ·replace hc4:=of_decide_eq_true hc4
     refine q4 (AR O (AI (v:=(vN s.pl.length)) (AG O underlying186) O (AO O (q3 (sL [1,2,3,5,6,4,7,8,9,11,10] O) (AR O ?_)))))
     refine A6 0 By O (AE.openV (V:=λb6=>(Value.slice (some ⟨b6,0,none⟩) 1 1)) (T:=111) (cs:=Az (Ay m i 0)) (AM O) (Ap (z:=.agg (Az ((0,0):P2)).toArray) (cs:=Az (Ay m i 0)) (pv:=[(0,(aG (Az (Ay m i 0))))]) underlying186 sizeOf111 zeroValue111 (by decide) (by decide) O (El (Ay m i 0))) O (Ab O) λb6=>AE.appendAt 4 (j:=0) (cs2:=rowsL Az (s.pl++[(Ay m i 0)])) Uk O hs.o1 (Al C5 _) O O O O O (by decide) (Gt Z) Z (by rw [BN];rfl) O λp_1 c_1 ho_1 hne_1=>AO O (AE.nil (AC.subF (sL [1,2,3,5,6,4,7,8,9,11,10] O) ?_)))
     refine AC.then_ (rC [(0,true),(1,true),(2,true),(3,true),(4,false),(5,false),(6,false),(7,true)] 8 [] (sk (sk (sk (sk (sk (sk (sk (sl sr)))))))) (sk (sk (sk (sk (sk (sk (sk (sl sr)))))))) (by kernel_rfl) (λ_ _ d _ _ h=>by cases d<;>exact h) (vE (v:=(pP b3 0)) O (AA O underlying99 O sizeOf97 O) O (vE O (AK (i:=7) (v:=(Value.slice s.p2 s.pl.length s.c2)) O O SR.a O) O (vE (v:=(aG (Ek m))) O (Ac (i:=9) (vs:=Ek m) O O NY.a NY.s O O) O (vE (v:=(aG (Az (Ay m i 0)))) O (Ac (i:=1) (vs:=Az (Ay m i 0)) O O By.a By.s O O) O ?_)))))
     refine Bu.imp O (Ew call113 (λw hw=>Ip m (Ay m i 0) (EG Z) w (DB hw 11 O lm)) O (Bu.back (sk (sk (sk (sk (sk (sk (sk (sl sr)))))))) (Bu.imp O (AE.openV (V:=λb7=>(Value.slice (some ⟨b7,0,none⟩) 1 1)) (T:=102) (cs:=CZ ((mapM m).at_ (Ay m i 0))) (AM O) (Ap (z:=.agg (CZ ((0,0):Int×Int)).toArray) (cs:=CZ ((mapM m).at_ (Ay m i 0))) (pv:=[(0,(aG (CZ ((mapM m).at_ (Ay m i 0)))))]) underlying97 sizeOf102 zeroValue102 (by decide) (by decide) O (Er ((mapM m).at_ (Ay m i 0)))) O (Ab O) λb7=>Bu.back (sl (sk (sk (sk (sk (sk (sk (sk (sl sr))))))))) ?_))))
     refine Bu.imp O (AE.appendAt 8 (j:=0) (cs2:=rowsL CZ ((s.pts m)++[((mapM m).at_ (Ay m i 0))])) YS O hs.o2 (by rw [Al F_];simp [WS.pts]) O O O O O (by decide) (Gt Z) Z (by rw [BN];rfl) O λp_2 c_2 ho_2 hne_2=>Bu.back (sl (sk (sk (sk (sk (sk (sk (sk (sl sr))))))))) (vE (v:=(pP b3 0)) O (AA O underlying99 O sizeOf97 O) O (Bu.cut O (Eu 9 (off:=0) (vs:=[(Value.slice p_2 (s.pl.length+1) c_2)]) (cs':=[(Value.slice p_2 (s.pl.length+1) c_2),(Value.slice p3 ts.length c3),(Value.slice none 0 0)]) (AM O) O sizeOf97 O ?_))))
     refine AV.back (sl (sk (sk (sk (sk (sk (sk (sk (sl (sl sr)))))))))) (AV.nil (AC.subF (sL [1,2,3,5,6,4,7,8,9,11,10] O) ?_))
     rw [show s.pl.length+1=(s.pl++[Ay m i 0]).length by simp]
     rw [show s.pts m++[(mapM m).at_ (Ay m i 0)]=WS.pts (WS.mk (s.pl++[Ay m i 0]) p_1 c_1 p_2 c_2) m by simp [WS.pts]]
     exact AC.join2 (WS.mk (s.pl++[Ay m i 0]) p_1 c_1 p_2 c_2) s.pl.length (⟨⟨(by simpa using ho_1),(by simpa using ho_2),λp hp=>(List.mem_append.1 hp).elim (hs.small p) (λe=>by rw [List.mem_singleton.1 e];exact EG Z),KQ hs.dst (λj hj=>(ha.elim id (λh=>absurd h.1 Z)).2 j Z)⟩,GP.snoc _ _,by simp,by simp,DJ _ _,λa ha=>by simp only [List.length_append,List.length_singleton] at ha;omega⟩) (sF O) (sl (sl sr))
    ·replace hc4:=of_decide_eq_false hc4
     refine AF.retell (k:=10) (u:=(vN a.toNat)) O (by show Value.int _ _=Value.int _ _;congr 1;omega) (AF.skip ?_)
     obtain ⟨ha1,ha2,ha3⟩:=ha.resolve_left (λh=>by have:=h.1;omega)
     exact AC.join2 s a.toNat (⟨hs,GP.refl _,Z,Z,ha3,λa ha=>.inl ha⟩) (sF O) sr
   ·intro s1 n1 hJ
    obtain ⟨hs1,hm1,hl1,hn1,hg1,hu1⟩:=hJ
    refine AC.then_ (AF.region (AR O (AR O (AI (v:=(pP b4 0)) (AD (j:=0) O O underlying76 sizeOf3 O (by decide) O) O (Eu 1 (off:=0) (vs:=[(vN n1)]) (cs':=[(vN n1),(vI 0),(vI 0)]) (AM O) O sizeOf3 O ?_)))))
    refine AE.nil (AC.subF (sL [1,2,3,5,6,7,8,10,4] O) (AC.in_normal (AC.then_ (AF.region (AR O ?_)))))
    refine AI (AY (c:=(1:Int)) O O (by decide)) O (AO O (AE.nil (AC.subF (sL [1,2,3,5,6,7,8,10,4] O) (AC.again (GC.step ?_)))))
    refine AF.seq (q4 (AR O (AI (Am (c:=true) O O (by decide)) O (AE.nil (AC.subF (sL [1,2,3,5,6,7,8,10,4,25] O) ?_)))))
    refine AC.then_ (AF.cond_true O (AF.skip (q1 (AF.block (AF.seq ?_)))))
    refine Cu [(0,true),(1,true),(2,true),(3,true),(4,true),(5,true),(6,true),(7,true),(8,true),(9,true),(10,true),(11,true),(12,true),(13,true),(14,true),(15,true),(16,true),(17,true),(18,false),(19,false)] sr (Bf O (Bf O (Bf O (Ax (v:=(pP b1 8)) O (AA O underlying26 O sizeOf5 O) (Bj 9 (vK .u8 m.fst) SY O ?_)))))
    refine Ax O (A9 (c:=((m.fst:Nat):Int)) O underlying5 underlying3 (CW Z)) (Ax O (AY (c:=((1+m.fst:Nat):Int)) O O (AX (a:=1) (b:=m.fst) Z)) (Bf O (Ax (v:=(pP b1 8)) O (AA O underlying26 O sizeOf5 O) (Bj 9 (vK .u8 m.fst) SY O (Ax O (G3 (c:=((m.fst/3:Nat):Int)) O O Z (NL (a:=m.fst) (b:=3) Z)) ?_)))))
    refine Ax O (A9 (c:=((m.fst/3:Nat):Int)) O underlying5 underlying3 (CW Z)) ?_
    have hmul:i*(m.fst/3)<=36*85:=Nat.mul_le_mul Z hf3
    refine Ax O (B6 (c:=((i*(m.fst/3):Nat):Int)) O O (DO (a:=i) (b:=m.fst/3) Z)) (Ax O (AY (c:=(((1+m.fst)+(i*(m.fst/3)):Nat):Int)) O O (AX (a:=1+m.fst) (b:=i*(m.fst/3)) Z)) ?_)
    obtain ⟨r9,hr9⟩:∃r,r=I3 m i 1:=⟨_,rfl⟩
    have hr3:r9<3:=by rw [hr9];exact Nat.mod_lt _ (by decide)
    refine Ax O (CC (c:=((r9:Nat):Int)) O O (by decide) (by rw [hr9];exact H2 (a:=1+m.fst+i*(m.fst/3)) (b:=3))) (Ax (v:=(pP (pB gc.p) (pO gc.p+i*6))) O (AQ (j:=i) O O gc.ok underlying187 sizeOf189 O Z) (Ax (v:=(pP (pB gc.p) (pO gc.p+(i*6+r9*2)))) O (AD (j:=r9) O O underlying189 sizeOf111 O hr3 (Nat.add_assoc _ _ _)) (Ax (v:=(aG (Az (Ay m i 1)))) O (AW (vs:=Az (Ay m i 1)) (i:=2) O O (BQ.ne gc.ok Z) By (Ig _ i r9 Z hr3 _ O _ (by rw [hr9];rfl)) O) (AV.imp O (al JE O λb6=>?_)))))
    refine AV.back (sl sr) (AV.imp O (Aq O sizeOf111 O (AV.back (sl sr) (AV.nil (AC.subF (sL [1,2,3,5,6,7,8,10,4,9] O) ?_)))))
    refine q2 (AO O (AE.nil (q1 (q4 (AO O ?_)))))
    refine AE.nil (AC.then_ (AF.block ?_))
    refine AF.lp2 (tg λ(k:Nat) (a:Int)=>k<=s1.pl.length/\((a = -1/\∀j,j<k->s1.pl.getD j (0,0)≠Ay m i 1)\/0<=a/\a<(k:Int)/\s1.pl.getD (Int.toNat a) (0,0)=Ay m i 1)) (tg λ(k:Nat) (a:Int)=>[(1,(pP b1 0)),(2,(pP b2 0)),(3,(pP b3 0)),(5,(Value.slice gc.p ((BD m).length) gc.c)),(6,(vN i)),(7,(pP b4 0)),(8,(vI 1)),(4,(Value.slice s1.p1 s1.pl.length s1.c1)),(9,(pP b6 0)),(11,(vN k)),(10,(vI a))]) (tg λ(k:Nat) (a:Int)=>[Af b6 111 (Az (Ay m i 1)),Af b5 111 (Az (Ay m i 0)),Af b4 76 ([(vN n1),(vI 0),(vI 0)]),AZ gc.p (rowsL BH (BD m)),rowW s1.p1 111 2 s1.pl.length s1.c1 (rowsL Az s1.pl),rowW none 76 3 0 0 (rowsL An ([])),rowW p3 76 3 ts.length c3 (rowsL An ts),rowW s1.p2 102 2 s1.pl.length s1.c2 (rowsL CZ (s1.pts m)),Af b3 99 ([(Value.slice s1.p2 s1.pl.length s1.c2),(Value.slice p3 ts.length c3),(Value.slice none 0 0)]),Af b2 99 ([(Value.slice none 0 0),(Value.slice none 0 0),(Value.slice none 0 0)]),Af b1 26 (Ek m),AZ m.p (Cc m.cs)]) (tg λ(k:Nat) (a:Int)=>s1.pl.length-k) 0 (-1:Int) (⟨Nat.zero_le _,.inl ⟨rfl,λj hj=>absurd hj (Nat.not_lt_zero _)⟩⟩) (sF O) sr (λk a hJ=>?_)
    obtain ⟨hk,ha⟩:=hJ
    refine AF.seq (q4 (AR O (AR O (AI (v:=(vN s1.pl.length)) (AG O underlying186) O (AI (Am (c:=(decide (k<s1.pl.length))) O O (C6 (a:=k) (b:=s1.pl.length))) O ?_)))))
    refine AE.nil (AC.subF (sL [1,2,3,5,6,7,8,4,9,11,10,49] O) (AC.then_ ?_))
    refine AF.cond O (λhc2=>?_) (λhc2=>?_)
    ·replace hc2:=of_decide_eq_true hc2
     refine AF.skip (q1 (AF.block (AF.seq (Cu [(0,true),(1,true),(2,true),(3,true),(4,true),(5,true)] sr (Bf O ?_)))))
     refine Bf O (Ax (v:=(pP (pB s1.p1) (pO s1.p1+k*2))) O (AQ (j:=k) O O hs1.o1.row underlying186 sizeOf111 O Z) (Ax (v:=(aG (Az (s1.pl.getD k ((0,0):P2))))) O (CV (vs:=Az (s1.pl.getD k ((0,0):P2))) (i:=4) O O hs1.o1 (Al C5 _) (BQ.ne hs1.o1.row Z) By (Aw C5 _ _ _ Z) (C5 _)) (EW 0 By O (Ax O (Bt (c:=decide (s1.pl.getD k ((0,0):P2)=(Ay m i 1))) O O eqGuardType111 (NG 9998 (s1.pl.getD k ((0,0):P2)) (Ay m i 1))) (AV.nil ?_)))))
     refine AC.subF (sL [1,2,3,5,6,7,8,4,9,11,10,57] O) (AC.then_ ?_)
     refine AF.cond O (λhc3=>?_) (λhc3=>?_)
     ·replace hc3:=of_decide_eq_true hc3
      refine AF.region (AR O (AO O (AE.nil (AC.subF (sL [1,2,3,5,6,7,8,4,9,11,10] O) (AC.in_normal ?_)))))
      refine AC.then_ (AF.region (AR O (AI (AY (c:=((k+1:Nat):Int)) O O (AX (a:=k) (b:=1) Z)) O (AO O (AE.nil ?_)))))
      exact AC.subF (sL [1,2,3,5,6,7,8,4,9,11,10] O) (AC.round2 (k+1) (k:Int) (⟨Z,.inr ⟨Z,Z,by simpa using hc3⟩⟩) Z (sF O) sr)
     ·replace hc3:=of_decide_eq_false hc3
      refine AF.skip (AC.in_normal (AC.then_ (AF.region (AR O (AI (AY (c:=((k+1:Nat):Int)) O O (AX (a:=k) (b:=1) Z)) O ?_)))))
      exact AO O (AE.nil (AC.subF (sL [1,2,3,5,6,7,8,4,9,11,10] O) (AC.round2 (k+1) a (⟨Z,ha.elim (λh=>.inl ⟨h.1,λj hj=>by rcases Nat.lt_or_ge j k with h1|h1;exact h.2 j h1;(obtain rfl:j=k:=by omega);simpa using hc3⟩) (λh=>.inr ⟨h.1,Z,h.2.2⟩)⟩) Z (sF O) sr)))
    ·replace hc2:=of_decide_eq_false hc2
     refine AF.exit (AC.then_exit (AC.round2_exit (AC.in_exit (q1 (q4 ?_)))))
     refine AR O (AI (Am (c:=(decide (a<(0:Int)))) O O O) O (AE.nil (AC.subF (sL [1,2,3,5,6,7,8,4,9,11,10,60] O) (AC.then_ ?_))))
     refine AF.jn2 (tg λ(s2:WS) (n2:Nat)=>WS.Ok s2/\GP s1.pl (WS.pl s2)/\(WS.pl s2).length<=s1.pl.length+1/\n2<(WS.pl s2).length/\(WS.pl s2).getD n2 (0,0)=Ay m i 1/\∀a,a<(WS.pl s2).length->a<s1.pl.length\/a=n2) (tg λ(s2:WS) (n2:Nat)=>[(1,(pP b1 0)),(2,(pP b2 0)),(3,(pP b3 0)),(5,(Value.slice gc.p ((BD m).length) gc.c)),(6,(vN i)),(7,(pP b4 0)),(8,(vI 1)),(10,(vN n2)),(4,(Value.slice s2.p1 s2.pl.length s2.c1))]) (tg λ(s2:WS) (n2:Nat)=>[Af b6 111 (Az (Ay m i 1)),Af b5 111 (Az (Ay m i 0)),Af b4 76 ([(vN n1),(vI 0),(vI 0)]),AZ gc.p (rowsL BH (BD m)),rowW s2.p1 111 2 s2.pl.length s2.c1 (rowsL Az s2.pl),rowW none 76 3 0 0 (rowsL An ([])),rowW p3 76 3 ts.length c3 (rowsL An ts),rowW s2.p2 102 2 s2.pl.length s2.c2 (rowsL CZ (s2.pts m)),Af b3 99 ([(Value.slice s2.p2 s2.pl.length s2.c2),(Value.slice p3 ts.length c3),(Value.slice none 0 0)]),Af b2 99 ([(Value.slice none 0 0),(Value.slice none 0 0),(Value.slice none 0 0)]),Af b1 26 (Ek m),AZ m.p (Cc m.cs)]) ?_ ?_
     ·skip
      refine AF.cond O (λhc4=>?_) (λhc4=>?_)
      ·replace hc4:=of_decide_eq_true hc4
       refine q4 (AR O (AI (v:=(vN s1.pl.length)) (AG O underlying186) O (AO O (q3 (sL [1,2,3,5,6,7,8,4,9,11,10] O) (AR O ?_)))))
       refine A6 0 By O (AE.openV (V:=λb7=>(Value.slice (some ⟨b7,0,none⟩) 1 1)) (T:=111) (cs:=Az (Ay m i 1)) (AM O) (Ap (z:=.agg (Az ((0,0):P2)).toArray) (cs:=Az (Ay m i 1)) (pv:=[(0,(aG (Az (Ay m i 1))))]) underlying186 sizeOf111 zeroValue111 (by decide) (by decide) O (El (Ay m i 1))) O (Ab O) λb7=>AE.appendAt 5 (j:=0) (cs2:=rowsL Az (s1.pl++[(Ay m i 1)])) Uk O hs1.o1 (Al C5 _) O O O O O (by decide) (Gt Z) Z (by rw [BN];rfl) O λp_3 c_3 ho_3 hne_3=>AO O (AE.nil (AC.subF (sL [1,2,3,5,6,7,8,4,9,11,10] O) ?_)))
       refine AC.then_ (rC [(0,true),(1,true),(2,true),(3,true),(4,false),(5,false),(6,false),(7,true)] 8 [] (sk (sk (sk (sk (sk (sk (sk (sk (sl sr))))))))) (sk (sk (sk (sk (sk (sk (sk (sk (sl sr))))))))) (by kernel_rfl) (λ_ _ d _ _ h=>by cases d<;>exact h) (vE (v:=(pP b3 0)) O (AA O underlying99 O sizeOf97 O) O (vE O (AK (i:=8) (v:=(Value.slice s1.p2 s1.pl.length s1.c2)) O O SR.a O) O (vE (v:=(aG (Ek m))) O (Ac (i:=10) (vs:=Ek m) O O NY.a NY.s O O) O (vE (v:=(aG (Az (Ay m i 1)))) O (Ac (i:=1) (vs:=Az (Ay m i 1)) O O By.a By.s O O) O ?_)))))
       refine Bu.imp O (Ew call113 (λw hw=>Ip m (Ay m i 1) (EG Z) w (DB hw 12 O lm)) O (Bu.back (sk (sk (sk (sk (sk (sk (sk (sk (sl sr))))))))) (Bu.imp O (AE.openV (V:=λb8=>(Value.slice (some ⟨b8,0,none⟩) 1 1)) (T:=102) (cs:=CZ ((mapM m).at_ (Ay m i 1))) (AM O) (Ap (z:=.agg (CZ ((0,0):Int×Int)).toArray) (cs:=CZ ((mapM m).at_ (Ay m i 1))) (pv:=[(0,(aG (CZ ((mapM m).at_ (Ay m i 1)))))]) underlying97 sizeOf102 zeroValue102 (by decide) (by decide) O (Er ((mapM m).at_ (Ay m i 1)))) O (Ab O) λb8=>Bu.back (sl (sk (sk (sk (sk (sk (sk (sk (sk (sl sr)))))))))) ?_))))
       refine Bu.imp O (AE.appendAt 9 (j:=0) (cs2:=rowsL CZ ((s1.pts m)++[((mapM m).at_ (Ay m i 1))])) YS O hs1.o2 (by rw [Al F_];simp [WS.pts]) O O O O O (by decide) (Gt Z) Z (by rw [BN];rfl) O λp_4 c_4 ho_4 hne_4=>Bu.back (sl (sk (sk (sk (sk (sk (sk (sk (sk (sl sr)))))))))) (vE (v:=(pP b3 0)) O (AA O underlying99 O sizeOf97 O) O (Bu.cut O (Eu 10 (off:=0) (vs:=[(Value.slice p_4 (s1.pl.length+1) c_4)]) (cs':=[(Value.slice p_4 (s1.pl.length+1) c_4),(Value.slice p3 ts.length c3),(Value.slice none 0 0)]) (AM O) O sizeOf97 O ?_))))
       refine AV.back (sl (sk (sk (sk (sk (sk (sk (sk (sk (sl (sl sr))))))))))) (AV.nil (AC.subF (sL [1,2,3,5,6,7,8,4,9,11,10] O) ?_))
       rw [show s1.pl.length+1=(s1.pl++[Ay m i 1]).length by simp]
       rw [show s1.pts m++[(mapM m).at_ (Ay m i 1)]=WS.pts (WS.mk (s1.pl++[Ay m i 1]) p_3 c_3 p_4 c_4) m by simp [WS.pts]]
       exact AC.join2 (WS.mk (s1.pl++[Ay m i 1]) p_3 c_3 p_4 c_4) s1.pl.length (⟨⟨(by simpa using ho_3),(by simpa using ho_4),λp hp=>(List.mem_append.1 hp).elim (hs1.small p) (λe=>by rw [List.mem_singleton.1 e];exact EG Z),KQ hs1.dst (λj hj=>(ha.elim id (λh=>absurd h.1 Z)).2 j Z)⟩,GP.snoc _ _,by simp,by simp,DJ _ _,λa ha=>by simp only [List.length_append,List.length_singleton] at ha;omega⟩) (sF O) (sl (sl sr))
      ·replace hc4:=of_decide_eq_false hc4
       refine AF.retell (k:=10) (u:=(vN a.toNat)) O (by show Value.int _ _=Value.int _ _;congr 1;omega) (AF.skip ?_)
       obtain ⟨ha1,ha2,ha3⟩:=ha.resolve_left (λh=>by have:=h.1;omega)
       exact AC.join2 s1 a.toNat (⟨hs1,GP.refl _,Z,Z,ha3,λa ha=>.inl ha⟩) (sF O) sr
     ·intro s2 n2 hJ
      obtain ⟨hs2,hm2,hl2,hn2,hg2,hu2⟩:=hJ
      refine AC.then_ (AF.region (AR O (AR O (AI (v:=(pP b4 1)) (AD (j:=1) O O underlying76 sizeOf3 O (by decide) O) O (Eu 2 (off:=1) (vs:=[(vN n2)]) (cs':=[(vN n1),(vN n2),(vI 0)]) (AM O) O sizeOf3 O ?_)))))
      refine AE.nil (AC.subF (sL [1,2,3,5,6,7,8,10,4] O) (AC.in_normal (AC.then_ (AF.region (AR O ?_)))))
      refine AI (AY (c:=(2:Int)) O O (by decide)) O (AO O (AE.nil (AC.subF (sL [1,2,3,5,6,7,8,10,4] O) (AC.again (GC.step ?_)))))
      refine AF.seq (q4 (AR O (AI (Am (c:=true) O O (by decide)) O (AE.nil (AC.subF (sL [1,2,3,5,6,7,8,10,4,25] O) ?_)))))
      refine AC.then_ (AF.cond_true O (AF.skip (q1 (AF.block (AF.seq ?_)))))
      refine Cu [(0,true),(1,true),(2,true),(3,true),(4,true),(5,true),(6,true),(7,true),(8,true),(9,true),(10,true),(11,true),(12,true),(13,true),(14,true),(15,true),(16,true),(17,true),(18,false),(19,false)] sr (Bf O (Bf O (Bf O (Ax (v:=(pP b1 8)) O (AA O underlying26 O sizeOf5 O) (Bj 10 (vK .u8 m.fst) SY O ?_)))))
      refine Ax O (A9 (c:=((m.fst:Nat):Int)) O underlying5 underlying3 (CW Z)) (Ax O (AY (c:=((2+m.fst:Nat):Int)) O O (AX (a:=2) (b:=m.fst) Z)) (Bf O (Ax (v:=(pP b1 8)) O (AA O underlying26 O sizeOf5 O) (Bj 10 (vK .u8 m.fst) SY O (Ax O (G3 (c:=((m.fst/3:Nat):Int)) O O Z (NL (a:=m.fst) (b:=3) Z)) ?_)))))
      refine Ax O (A9 (c:=((m.fst/3:Nat):Int)) O underlying5 underlying3 (CW Z)) ?_
      have hmul:i*(m.fst/3)<=36*85:=Nat.mul_le_mul Z hf3
      refine Ax O (B6 (c:=((i*(m.fst/3):Nat):Int)) O O (DO (a:=i) (b:=m.fst/3) Z)) (Ax O (AY (c:=(((2+m.fst)+(i*(m.fst/3)):Nat):Int)) O O (AX (a:=2+m.fst) (b:=i*(m.fst/3)) Z)) ?_)
      obtain ⟨r9,hr9⟩:∃r,r=I3 m i 2:=⟨_,rfl⟩
      have hr3:r9<3:=by rw [hr9];exact Nat.mod_lt _ (by decide)
      refine Ax O (CC (c:=((r9:Nat):Int)) O O (by decide) (by rw [hr9];exact H2 (a:=2+m.fst+i*(m.fst/3)) (b:=3))) (Ax (v:=(pP (pB gc.p) (pO gc.p+i*6))) O (AQ (j:=i) O O gc.ok underlying187 sizeOf189 O Z) (Ax (v:=(pP (pB gc.p) (pO gc.p+(i*6+r9*2)))) O (AD (j:=r9) O O underlying189 sizeOf111 O hr3 (Nat.add_assoc _ _ _)) (Ax (v:=(aG (Az (Ay m i 2)))) O (AW (vs:=Az (Ay m i 2)) (i:=3) O O (BQ.ne gc.ok Z) By (Ig _ i r9 Z hr3 _ O _ (by rw [hr9];rfl)) O) (AV.imp O (al JE O λb7=>?_)))))
      refine AV.back (sl sr) (AV.imp O (Aq O sizeOf111 O (AV.back (sl sr) (AV.nil (AC.subF (sL [1,2,3,5,6,7,8,10,4,9] O) ?_)))))
      refine q2 (AO O (AE.nil (q1 (q4 (AO O ?_)))))
      refine AE.nil (AC.then_ (AF.block ?_))
      refine AF.lp2 (tg λ(k:Nat) (a:Int)=>k<=s2.pl.length/\((a = -1/\∀j,j<k->s2.pl.getD j (0,0)≠Ay m i 2)\/0<=a/\a<(k:Int)/\s2.pl.getD (Int.toNat a) (0,0)=Ay m i 2)) (tg λ(k:Nat) (a:Int)=>[(1,(pP b1 0)),(2,(pP b2 0)),(3,(pP b3 0)),(5,(Value.slice gc.p ((BD m).length) gc.c)),(6,(vN i)),(7,(pP b4 0)),(8,(vI 2)),(4,(Value.slice s2.p1 s2.pl.length s2.c1)),(9,(pP b7 0)),(11,(vN k)),(10,(vI a))]) (tg λ(k:Nat) (a:Int)=>[Af b7 111 (Az (Ay m i 2)),Af b6 111 (Az (Ay m i 1)),Af b5 111 (Az (Ay m i 0)),Af b4 76 ([(vN n1),(vN n2),(vI 0)]),AZ gc.p (rowsL BH (BD m)),rowW s2.p1 111 2 s2.pl.length s2.c1 (rowsL Az s2.pl),rowW none 76 3 0 0 (rowsL An ([])),rowW p3 76 3 ts.length c3 (rowsL An ts),rowW s2.p2 102 2 s2.pl.length s2.c2 (rowsL CZ (s2.pts m)),Af b3 99 ([(Value.slice s2.p2 s2.pl.length s2.c2),(Value.slice p3 ts.length c3),(Value.slice none 0 0)]),Af b2 99 ([(Value.slice none 0 0),(Value.slice none 0 0),(Value.slice none 0 0)]),Af b1 26 (Ek m),AZ m.p (Cc m.cs)]) (tg λ(k:Nat) (a:Int)=>s2.pl.length-k) 0 (-1:Int) (⟨Nat.zero_le _,.inl ⟨rfl,λj hj=>absurd hj (Nat.not_lt_zero _)⟩⟩) (sF O) sr (λk a hJ=>?_)
      obtain ⟨hk,ha⟩:=hJ
      refine AF.seq (q4 (AR O (AR O (AI (v:=(vN s2.pl.length)) (AG O underlying186) O (AI (Am (c:=(decide (k<s2.pl.length))) O O (C6 (a:=k) (b:=s2.pl.length))) O ?_)))))
      refine AE.nil (AC.subF (sL [1,2,3,5,6,7,8,4,9,11,10,49] O) (AC.then_ ?_))
      refine AF.cond O (λhc2=>?_) (λhc2=>?_)
      ·replace hc2:=of_decide_eq_true hc2
       refine AF.skip (q1 (AF.block (AF.seq (Cu [(0,true),(1,true),(2,true),(3,true),(4,true),(5,true)] sr (Bf O ?_)))))
       refine Bf O (Ax (v:=(pP (pB s2.p1) (pO s2.p1+k*2))) O (AQ (j:=k) O O hs2.o1.row underlying186 sizeOf111 O Z) (Ax (v:=(aG (Az (s2.pl.getD k ((0,0):P2))))) O (CV (vs:=Az (s2.pl.getD k ((0,0):P2))) (i:=5) O O hs2.o1 (Al C5 _) (BQ.ne hs2.o1.row Z) By (Aw C5 _ _ _ Z) (C5 _)) (EW 0 By O (Ax O (Bt (c:=decide (s2.pl.getD k ((0,0):P2)=(Ay m i 2))) O O eqGuardType111 (NG 9998 (s2.pl.getD k ((0,0):P2)) (Ay m i 2))) (AV.nil ?_)))))
       refine AC.subF (sL [1,2,3,5,6,7,8,4,9,11,10,57] O) (AC.then_ ?_)
       refine AF.cond O (λhc3=>?_) (λhc3=>?_)
       ·replace hc3:=of_decide_eq_true hc3
        refine AF.region (AR O (AO O (AE.nil (AC.subF (sL [1,2,3,5,6,7,8,4,9,11,10] O) (AC.in_normal ?_)))))
        refine AC.then_ (AF.region (AR O (AI (AY (c:=((k+1:Nat):Int)) O O (AX (a:=k) (b:=1) Z)) O (AO O (AE.nil ?_)))))
        exact AC.subF (sL [1,2,3,5,6,7,8,4,9,11,10] O) (AC.round2 (k+1) (k:Int) (⟨Z,.inr ⟨Z,Z,by simpa using hc3⟩⟩) Z (sF O) sr)
       ·replace hc3:=of_decide_eq_false hc3
        refine AF.skip (AC.in_normal (AC.then_ (AF.region (AR O (AI (AY (c:=((k+1:Nat):Int)) O O (AX (a:=k) (b:=1) Z)) O ?_)))))
        exact AO O (AE.nil (AC.subF (sL [1,2,3,5,6,7,8,4,9,11,10] O) (AC.round2 (k+1) a (⟨Z,ha.elim (λh=>.inl ⟨h.1,λj hj=>by rcases Nat.lt_or_ge j k with h1|h1;exact h.2 j h1;(obtain rfl:j=k:=by omega);simpa using hc3⟩) (λh=>.inr ⟨h.1,Z,h.2.2⟩)⟩) Z (sF O) sr)))
      ·replace hc2:=of_decide_eq_false hc2
       refine AF.exit (AC.then_exit (AC.round2_exit (AC.in_exit (q1 (q4 ?_)))))
       refine AR O (AI (Am (c:=(decide (a<(0:Int)))) O O O) O (AE.nil (AC.subF (sL [1,2,3,5,6,7,8,4,9,11,10,60] O) (AC.then_ ?_))))
       refine AF.jn2 (tg λ(s3:WS) (n3:Nat)=>WS.Ok s3/\GP s2.pl (WS.pl s3)/\(WS.pl s3).length<=s2.pl.length+1/\n3<(WS.pl s3).length/\(WS.pl s3).getD n3 (0,0)=Ay m i 2/\∀a,a<(WS.pl s3).length->a<s2.pl.length\/a=n3) (tg λ(s3:WS) (n3:Nat)=>[(1,(pP b1 0)),(2,(pP b2 0)),(3,(pP b3 0)),(5,(Value.slice gc.p ((BD m).length) gc.c)),(6,(vN i)),(7,(pP b4 0)),(8,(vI 2)),(10,(vN n3)),(4,(Value.slice s3.p1 s3.pl.length s3.c1))]) (tg λ(s3:WS) (n3:Nat)=>[Af b7 111 (Az (Ay m i 2)),Af b6 111 (Az (Ay m i 1)),Af b5 111 (Az (Ay m i 0)),Af b4 76 ([(vN n1),(vN n2),(vI 0)]),AZ gc.p (rowsL BH (BD m)),rowW s3.p1 111 2 s3.pl.length s3.c1 (rowsL Az s3.pl),rowW none 76 3 0 0 (rowsL An ([])),rowW p3 76 3 ts.length c3 (rowsL An ts),rowW s3.p2 102 2 s3.pl.length s3.c2 (rowsL CZ (s3.pts m)),Af b3 99 ([(Value.slice s3.p2 s3.pl.length s3.c2),(Value.slice p3 ts.length c3),(Value.slice none 0 0)]),Af b2 99 ([(Value.slice none 0 0),(Value.slice none 0 0),(Value.slice none 0 0)]),Af b1 26 (Ek m),AZ m.p (Cc m.cs)]) ?_ ?_
       ·skip
        refine AF.cond O (λhc4=>?_) (λhc4=>?_)
        ·replace hc4:=of_decide_eq_true hc4
         refine q4 (AR O (AI (v:=(vN s2.pl.length)) (AG O underlying186) O (AO O (q3 (sL [1,2,3,5,6,7,8,4,9,11,10] O) (AR O ?_)))))
         refine A6 0 By O (AE.openV (V:=λb8=>(Value.slice (some ⟨b8,0,none⟩) 1 1)) (T:=111) (cs:=Az (Ay m i 2)) (AM O) (Ap (z:=.agg (Az ((0,0):P2)).toArray) (cs:=Az (Ay m i 2)) (pv:=[(0,(aG (Az (Ay m i 2))))]) underlying186 sizeOf111 zeroValue111 (by decide) (by decide) O (El (Ay m i 2))) O (Ab O) λb8=>AE.appendAt 6 (j:=0) (cs2:=rowsL Az (s2.pl++[(Ay m i 2)])) Uk O hs2.o1 (Al C5 _) O O O O O (by decide) (Gt Z) Z (by rw [BN];rfl) O λp_5 c_5 ho_5 hne_5=>AO O (AE.nil (AC.subF (sL [1,2,3,5,6,7,8,4,9,11,10] O) ?_)))
         refine AC.then_ (rC [(0,true),(1,true),(2,true),(3,true),(4,false),(5,false),(6,false),(7,true)] 8 [] (sk (sk (sk (sk (sk (sk (sk (sk (sk (sl sr)))))))))) (sk (sk (sk (sk (sk (sk (sk (sk (sk (sl sr)))))))))) (by kernel_rfl) (λ_ _ d _ _ h=>by cases d<;>exact h) (vE (v:=(pP b3 0)) O (AA O underlying99 O sizeOf97 O) O (vE O (AK (i:=9) (v:=(Value.slice s2.p2 s2.pl.length s2.c2)) O O SR.a O) O (vE (v:=(aG (Ek m))) O (Ac (i:=11) (vs:=Ek m) O O NY.a NY.s O O) O (vE (v:=(aG (Az (Ay m i 2)))) O (Ac (i:=1) (vs:=Az (Ay m i 2)) O O By.a By.s O O) O ?_)))))
         refine Bu.imp O (Ew call113 (λw hw=>Ip m (Ay m i 2) (EG Z) w (DB hw 13 O lm)) O (Bu.back (sk (sk (sk (sk (sk (sk (sk (sk (sk (sl sr)))))))))) (Bu.imp O (AE.openV (V:=λb9=>(Value.slice (some ⟨b9,0,none⟩) 1 1)) (T:=102) (cs:=CZ ((mapM m).at_ (Ay m i 2))) (AM O) (Ap (z:=.agg (CZ ((0,0):Int×Int)).toArray) (cs:=CZ ((mapM m).at_ (Ay m i 2))) (pv:=[(0,(aG (CZ ((mapM m).at_ (Ay m i 2)))))]) underlying97 sizeOf102 zeroValue102 (by decide) (by decide) O (Er ((mapM m).at_ (Ay m i 2)))) O (Ab O) λb9=>Bu.back (sl (sk (sk (sk (sk (sk (sk (sk (sk (sk (sl sr))))))))))) ?_))))
         refine Bu.imp O (AE.appendAt 10 (j:=0) (cs2:=rowsL CZ ((s2.pts m)++[((mapM m).at_ (Ay m i 2))])) YS O hs2.o2 (by rw [Al F_];simp [WS.pts]) O O O O O (by decide) (Gt Z) Z (by rw [BN];rfl) O λp_6 c_6 ho_6 hne_6=>Bu.back (sl (sk (sk (sk (sk (sk (sk (sk (sk (sk (sl sr))))))))))) (vE (v:=(pP b3 0)) O (AA O underlying99 O sizeOf97 O) O (Bu.cut O (Eu 11 (off:=0) (vs:=[(Value.slice p_6 (s2.pl.length+1) c_6)]) (cs':=[(Value.slice p_6 (s2.pl.length+1) c_6),(Value.slice p3 ts.length c3),(Value.slice none 0 0)]) (AM O) O sizeOf97 O ?_))))
         refine AV.back (sl (sk (sk (sk (sk (sk (sk (sk (sk (sk (sl (sl sr)))))))))))) (AV.nil (AC.subF (sL [1,2,3,5,6,7,8,4,9,11,10] O) ?_))
         rw [show s2.pl.length+1=(s2.pl++[Ay m i 2]).length by simp]
         rw [show s2.pts m++[(mapM m).at_ (Ay m i 2)]=WS.pts (WS.mk (s2.pl++[Ay m i 2]) p_5 c_5 p_6 c_6) m by simp [WS.pts]]
         exact AC.join2 (WS.mk (s2.pl++[Ay m i 2]) p_5 c_5 p_6 c_6) s2.pl.length (⟨⟨(by simpa using ho_5),(by simpa using ho_6),λp hp=>(List.mem_append.1 hp).elim (hs2.small p) (λe=>by rw [List.mem_singleton.1 e];exact EG Z),KQ hs2.dst (λj hj=>(ha.elim id (λh=>absurd h.1 Z)).2 j Z)⟩,GP.snoc _ _,by simp,by simp,DJ _ _,λa ha=>by simp only [List.length_append,List.length_singleton] at ha;omega⟩) (sF O) (sl (sl sr))
        ·replace hc4:=of_decide_eq_false hc4
         refine AF.retell (k:=10) (u:=(vN a.toNat)) O (by show Value.int _ _=Value.int _ _;congr 1;omega) (AF.skip ?_)
         obtain ⟨ha1,ha2,ha3⟩:=ha.resolve_left (λh=>by have:=h.1;omega)
         exact AC.join2 s2 a.toNat (⟨hs2,GP.refl _,Z,Z,ha3,λa ha=>.inl ha⟩) (sF O) sr
       ·intro s3 n3 hJ
        obtain ⟨hs3,hm3,hl3,hn3,hg3,hu3⟩:=hJ
        refine AC.then_ (AF.region (AR O (AR O (AI (v:=(pP b4 2)) (AD (j:=2) O O underlying76 sizeOf3 O (by decide) O) O (Eu 3 (off:=2) (vs:=[(vN n3)]) (cs':=[(vN n1),(vN n2),(vN n3)]) (AM O) O sizeOf3 O ?_)))))
        refine AE.nil (AC.subF (sL [1,2,3,5,6,7,8,10,4] O) (AC.in_normal (AC.then_ (AF.region (AR O ?_)))))
        refine AI (AY (c:=(3:Int)) O O (by decide)) O (AO O (AE.nil (AC.subF (sL [1,2,3,5,6,7,8,10,4] O) (AC.again (GC.step ?_)))))
        refine AF.seq (q4 (AR O (AI (Am (c:=false) O O (by decide)) O (AE.nil (AC.subF (sL [1,2,3,5,6,7,8,10,4,25] O) ?_)))))
        refine AC.then_ (AF.cond_false O (AF.exit (AC.then_exit (AC.then_exit (AC.in_exit ?_)))))
        refine AC.then_ (AF.region (AI (v:=(pP b3 1)) (AA O underlying99 O sizeOf28 O) O (BK 9 (Value.slice p3 ts.length c3) CR O (A6 3 Ej O (AE.openV (V:=λb8=>(Value.slice (some ⟨b8,0,none⟩) 1 1)) (T:=76) (cs:=An (n1,n2,n3)) (AM O) (Ap (z:=.agg (An ((0,0,0):Nat×Nat×Nat)).toArray) (cs:=An (n1,n2,n3)) (pv:=[(0,(aG ([(vN n1),(vN n2),(vN n3)])))]) underlying28 sizeOf76 zeroValue76 (by decide) (by decide) O (Gr (n1,n2,n3))) O (Ab O) λb8=>?_)))))
        refine AE.appendAt 8 (j:=0) (cs2:=rowsL An (ts++[(n1,n2,n3)])) Ns O h3 (Al Ar _) O O O O O (by decide) (Gt Z) Z (by rw [BN];rfl) O λp_7 c_7 ho_7 hne_7=>AI (v:=(pP b3 1)) (AA O underlying99 O sizeOf28 O) O (Eu 10 (off:=1) (vs:=[(Value.slice p_7 (ts.length+1) c_7)]) (cs':=[(Value.slice s3.p2 s3.pl.length s3.c2),(Value.slice p_7 (ts.length+1) c_7),(Value.slice none 0 0)]) (AM O) O sizeOf28 O (AE.nil (AC.subF (sL [1,2,3,5,6,7,8,10,4] O) (AC.in_normal ?_))))
        refine AC.then_ (AF.region (AR O (AI (AY (c:=((i+1:Nat):Int)) O O (AX (a:=i) (b:=1) Z)) O (AO O (AE.nil ?_)))))
        refine AC.subF (sL [1,2,3,5,6,7,8,10,4] O) ?_
        rw [show ts.length+1=(ts++[(n1,n2,n3)]).length by simp]
        exact AC.round5 (i+1) s3 p_7 c_7 (ts++[(n1,n2,n3)]) (⟨Z,hs3,(by simpa using ho_7),hv.step ((hm1.trans hm2).trans hm3) Z hs3.small ⟨⟨by show n1<_;have:=hm2.1;have:=hm3.1;omega,(hm3.2 _ (by have:=hm2.1;omega)).trans ((hm2.2 _ Z).trans hg1)⟩,⟨by show n2<_;have:=hm3.1;omega,(hm3.2 _ Z).trans hg2⟩,⟨by show n3<_;omega,hg3⟩⟩ (λa ha=>by rcases hu3 a ha with h|h;(rcases hu2 a h with h|h;(rcases hu1 a h with h|h;exact .inl h;exact .inr (.inl h.symm));exact .inr (.inr (.inl h.symm)));exact .inr (.inr (.inr h.symm)))⟩) Z (sF O) (sl (sl (sl (sl (sl sr)))))
 ·replace hc0:=of_decide_eq_false hc0
  have hi9:i=(BD m).length:=by omega
  rw [hi9] at hv
  refine AF.exit (AC.then_exit (AC.round5_exit (AC.in_exit (q1 (q4 ?_)))))
  refine AO O (AE.nil (AC.then_ (AF.block ?_)))
  refine AF.lp4 (tg λ(ai:Nat) (p4:Option Addr) (c4:Nat) (ss:List (Nat×Nat×Nat))=>ai<=s.pl.length/\OwnOk p4 ss.length c4/\ss.length<=ai*108/\ss=Fs m ts s.pl.length ai) (tg λ(ai:Nat) (p4:Option Addr) (c4:Nat) (ss:List (Nat×Nat×Nat))=>[(1,(pP b1 0)),(2,(pP b2 0)),(3,(pP b3 0)),(4,(Value.slice s.p1 s.pl.length s.c1)),(12,(vN ai))]) (tg λ(ai:Nat) (p4:Option Addr) (c4:Nat) (ss:List (Nat×Nat×Nat))=>[AZ gc.p (rowsL BH (BD m)),rowW s.p1 111 2 s.pl.length s.c1 (rowsL Az s.pl),rowW p4 76 3 ss.length c4 (rowsL An ss),rowW p3 76 3 ts.length c3 (rowsL An ts),rowW s.p2 102 2 s.pl.length s.c2 (rowsL CZ (s.pts m)),Af b3 99 ([(Value.slice s.p2 s.pl.length s.c2),(Value.slice p3 ts.length c3),(Value.slice p4 ss.length c4)]),Af b2 99 ([(Value.slice none 0 0),(Value.slice none 0 0),(Value.slice none 0 0)]),Af b1 26 (Ek m),AZ m.p (Cc m.cs)]) (tg λ(ai:Nat) (p4:Option Addr) (c4:Nat) (ss:List (Nat×Nat×Nat))=>s.pl.length-ai) 0 none 0 ([]:List (Nat×Nat×Nat)) (⟨Nat.zero_le _,OwnOk.none,by simp,rfl⟩) (sF O) sr (λai p4 c4 ss hJ=>?_)
  obtain ⟨hai,h4,hsl,hsd⟩:=hJ
  refine AF.seq (q4 (AR O (AR O (AI (v:=(vN s.pl.length)) (AG O underlying186) O (AI (Am (c:=(decide (ai<s.pl.length))) O O (C6 (a:=ai) (b:=s.pl.length))) O ?_)))))
  refine AE.nil (AC.subF (sL [1,2,3,4,12,87] O) (AC.then_ ?_))
  refine AF.cond O (λhc5=>?_) (λhc5=>?_)
  ·replace hc5:=of_decide_eq_true hc5
   refine AF.skip (q1 (AF.block (q4 (AR O (AI (AY (c:=((ai+1:Nat):Int)) O O (AX (a:=ai) (b:=1) Z)) O ?_)))))
   refine AO O (AE.nil (AC.subF (sL [1,2,3,4,12,13] O) (AC.then_ (AF.block ?_))))
   refine AF.lp4 (tg λ(bi:Nat) (p5:Option Addr) (c5:Nat) (sq9:List (Nat×Nat×Nat))=>bi<=s.pl.length/\ai+1<=bi/\OwnOk p5 sq9.length c5/\sq9.length<=ai*108+bi/\sq9=Fs m ts s.pl.length ai++JW m ts ai (bi-(ai+1))) (tg λ(bi:Nat) (p5:Option Addr) (c5:Nat) (sq9:List (Nat×Nat×Nat))=>[(1,(pP b1 0)),(2,(pP b2 0)),(3,(pP b3 0)),(4,(Value.slice s.p1 s.pl.length s.c1)),(12,(vN ai)),(13,(vN bi))]) (tg λ(bi:Nat) (p5:Option Addr) (c5:Nat) (sq9:List (Nat×Nat×Nat))=>[AZ gc.p (rowsL BH (BD m)),rowW s.p1 111 2 s.pl.length s.c1 (rowsL Az s.pl),rowW p5 76 3 sq9.length c5 (rowsL An sq9),rowW p3 76 3 ts.length c3 (rowsL An ts),rowW s.p2 102 2 s.pl.length s.c2 (rowsL CZ (s.pts m)),Af b3 99 ([(Value.slice s.p2 s.pl.length s.c2),(Value.slice p3 ts.length c3),(Value.slice p5 sq9.length c5)]),Af b2 99 ([(Value.slice none 0 0),(Value.slice none 0 0),(Value.slice none 0 0)]),Af b1 26 (Ek m),AZ m.p (Cc m.cs)]) (tg λ(bi:Nat) (p5:Option Addr) (c5:Nat) (sq9:List (Nat×Nat×Nat))=>s.pl.length-bi) (ai+1) p4 c4 ss (⟨Z,Nat.le_refl _,h4,Z,by rw [hsd,Nat.sub_self];exact (List.append_nil _).symm⟩) (sF O) sr (λbi p5 c5 sq9 hJ=>?_)
   obtain ⟨hbi,hba,h5,hsr,hsq⟩:=hJ
   refine AF.seq (q4 (AR O (AR O (AI (v:=(vN s.pl.length)) (AG O underlying186) O (AI (Am (c:=(decide (bi<s.pl.length))) O O (C6 (a:=bi) (b:=s.pl.length))) O ?_)))))
   refine AE.nil (AC.subF (sL [1,2,3,4,12,13,95] O) (AC.then_ ?_))
   refine AF.cond O (λhc6=>?_) (λhc6=>?_)
   ·replace hc6:=of_decide_eq_true hc6
    refine AF.skip (q1 (AF.block (q4 (AO O (AE.nil ?_)))))
    refine q1 (q4 (AO O (AE.nil (AC.then_ (AF.block ?_)))))
    refine AF.lp2 (tg λ(ti:Nat) (cn:Nat)=>ti<=ts.length/\cn<=ti/\cn=IQ ts ai bi ti) (tg λ(ti:Nat) (cn:Nat)=>[(1,(pP b1 0)),(2,(pP b2 0)),(3,(pP b3 0)),(4,(Value.slice s.p1 s.pl.length s.c1)),(12,(vN ai)),(13,(vN bi)),(15,(vN ti)),(14,(vN cn))]) (tg λ(ti:Nat) (cn:Nat)=>[AZ gc.p (rowsL BH (BD m)),rowW s.p1 111 2 s.pl.length s.c1 (rowsL Az s.pl),rowW p5 76 3 sq9.length c5 (rowsL An sq9),rowW p3 76 3 ts.length c3 (rowsL An ts),rowW s.p2 102 2 s.pl.length s.c2 (rowsL CZ (s.pts m)),Af b3 99 ([(Value.slice s.p2 s.pl.length s.c2),(Value.slice p3 ts.length c3),(Value.slice p5 sq9.length c5)]),Af b2 99 ([(Value.slice none 0 0),(Value.slice none 0 0),(Value.slice none 0 0)]),Af b1 26 (Ek m),AZ m.p (Cc m.cs)]) (tg λ(ti:Nat) (cn:Nat)=>ts.length-ti) 0 0 (⟨Nat.zero_le _,Nat.le_refl _,rfl⟩) (sF O) sr (λti cn hJ=>?_)
    obtain ⟨hti,hcn,hcw⟩:=hJ
    refine AF.seq (q4 (AR O (AI (v:=(pP b3 1)) (AA O underlying99 O sizeOf28 O) O (BK 5 (Value.slice p3 ts.length c3) CR O (AI (v:=(vN ts.length)) (AG O underlying28) O ?_)))))
    refine AI (Am (c:=(decide (ti<ts.length))) O O (C6 (a:=ti) (b:=ts.length))) O (AE.nil (AC.subF (sL [1,2,3,4,12,13,15,14,102] O) (AC.then_ ?_)))
    refine AF.cond O (λhc7=>?_) (λhc7=>?_)
    ·replace hc7:=of_decide_eq_true hc7
     refine AF.skip (q1 (AF.block (q4 (AI (v:=(pP b3 1)) (AA O underlying99 O sizeOf28 O) O (BK 5 (Value.slice p3 ts.length c3) CR O ?_)))))
     refine AR O (AI (v:=(pP (pB p3) (pO p3+ti*3))) (AQ (j:=ti) O O h3.row underlying28 sizeOf76 O Z) O (AI (v:=(aG (An (ts.getD ti ((0,0,0):Nat×Nat×Nat))))) (CV (vs:=An (ts.getD ti ((0,0,0):Nat×Nat×Nat))) (i:=3) O O h3 (Al Ar _) (BQ.ne h3.row Z) Ej (Aw Ar _ _ _ Z) (Ar _)) O (AR O (BW call114 (TL (ts.getD ti ((0,0,0):Nat×Nat×Nat)) ai) O (AR O ?_)))))
     refine AE.mid (FM:=[(1,(pP b1 0)),(2,(pP b2 0)),(3,(pP b3 0)),(4,(Value.slice s.p1 s.pl.length s.c1)),(12,(vN ai)),(13,(vN bi)),(15,(vN ti)),(14,(vN cn)),(105,(pP b3 1)),(106,(Value.slice p3 ts.length c3)),(107,(vN ti)),(108,(pP (pB p3) (pO p3+ti*3))),(109,(aG (An (ts.getD ti ((0,0,0):Nat×Nat×Nat))))),(110,(vN ai)),(111,(Value.bool (Gf (ts.getD ti ((0,0,0):Nat×Nat×Nat)) ai))),(112,(Value.bool (Gf (ts.getD ti ((0,0,0):Nat×Nat×Nat)) ai))),(120,(Value.bool ((Gf (ts.getD ti ((0,0,0):Nat×Nat×Nat)) ai)&&(Gf (ts.getD ti ((0,0,0):Nat×Nat×Nat)) bi))))]) (LM:=[AZ gc.p (rowsL BH (BD m)),rowW s.p1 111 2 s.pl.length s.c1 (rowsL Az s.pl),rowW p5 76 3 sq9.length c5 (rowsL An sq9),rowW p3 76 3 ts.length c3 (rowsL An ts),rowW s.p2 102 2 s.pl.length s.c2 (rowsL CZ (s.pts m)),Af b3 99 ([(Value.slice s.p2 s.pl.length s.c2),(Value.slice p3 ts.length c3),(Value.slice p5 sq9.length c5)]),Af b2 99 ([(Value.slice none 0 0),(Value.slice none 0 0),(Value.slice none 0 0)]),Af b1 26 (Ek m),AZ m.p (Cc m.cs)]) 8 ?_ ?_
     ·rcases Bool.eq_false_or_eq_true (Gf (ts.getD ti ((0,0,0):Nat×Nat×Nat)) ai) with hg1|hg1
      ·skip
       refine AE.retell (k:=112) (u:=Value.bool true) O (by rw [hg1]) ?_
       have hg1':=hg1
       skip
       refine AE.step (v:=(pP b3 1)) (AB O) (AA O underlying99 O sizeOf28 O) O (Ab O) (AE.step (v:=(Value.slice p3 ts.length c3)) (AB O) (AK (i:=5) (v:=(Value.slice p3 ts.length c3)) O O CR.a O) O (Ab O) (AE.step (v:=(vN ti)) (AB O) (BA O) O (Ab O) (AE.step (v:=(pP (pB p3) (pO p3+ti*3))) (AB O) (AQ (j:=ti) O O h3.row underlying28 sizeOf76 O Z) O (Ab O) (AE.step (v:=(aG (An (ts.getD ti ((0,0,0):Nat×Nat×Nat))))) (AB O) (CV (vs:=An (ts.getD ti ((0,0,0):Nat×Nat×Nat))) (i:=3) O O h3 (Al Ar _) (BQ.ne h3.row Z) Ej (Aw Ar _ _ _ Z) (Ar _)) O (Ab O) (AE.step (v:=(vN bi)) (AB O) (BA O) O (Ab O) ?_)))))
       exact AE.call (v:=(Value.bool (Gf (ts.getD ti ((0,0,0):Nat×Nat×Nat)) bi))) (AB O) (A8 (args:=[(aG (An (ts.getD ti ((0,0,0):Nat×Nat×Nat)))),(vN bi)]) O O call114) (λw hw=>TL (ts.getD ti ((0,0,0):Nat×Nat×Nat)) bi w) O (Ab O) (AI (v:=(Value.bool (Gf (ts.getD ti ((0,0,0):Nat×Nat×Nat)) bi))) (Ah O O) O (AE.nil (AC.mid (sS O (sS O (sS O (sS O (sS O (sS O (sS O (sS O (sS O (sS O (sS O (sS O (sS O (sS O (sS O (sS (by first|rfl|(rw [hg1];rfl)|rw [hg1]) (sS (by first|rfl|(rw [hg1];rfl)|rw [hg1]) (sN)))))))))))))))))) (List.Sublist.refl _))))
      ·skip
       refine AE.retell (k:=112) (u:=Value.bool false) O (by rw [hg1]) ?_
       have hg1':=hg1
       skip
       refine AE.skip (AL O) O (Ab O) (AE.skip (AL O) O (Ab O) (AE.skip (AL O) O (Ab O) (AE.skip (AL O) O (Ab O) (AE.skip (AL O) O (Ab O) (AE.skip (AL O) O (Ab O) ?_)))))
       exact AE.skip (AL O) O (Ab O) (AI (v:=(Value.bool false)) (AS O O) O (AE.nil (AC.mid (sS O (sS O (sS O (sS O (sS O (sS O (sS O (sS O (sS O (sS O (sS O (sS O (sS O (sS O (sS O (sS (by first|rfl|(rw [hg1];rfl)|rw [hg1]) (sS (by first|rfl|(rw [hg1];rfl)|rw [hg1]) (sN)))))))))))))))))) (List.Sublist.refl _))))
     refine AE.nil (AC.subF (sL [1,2,3,4,12,13,15,14,120] O) (AC.then_ ?_))
     refine AF.cond O (λhc8=>?_) (λhc8=>?_)
     ·simp only [Bool.and_eq_true,Bool.or_eq_true,Bool.and_eq_false_iff,Bool.or_eq_false_iff,Bool.not_eq_true',Bool.not_eq_false',decide_eq_true_eq,decide_eq_false_iff_not] at hc8
      refine AF.region (AR O (AI (AY (c:=((cn+1:Nat):Int)) O O (AX (a:=cn) (b:=1) Z)) O (AO O (AE.nil (AC.subF (sL [1,2,3,4,12,13,15,14] O) ?_)))))
      refine AC.in_normal (AC.then_ (AF.region (AR O (AI (AY (c:=((ti+1:Nat):Int)) O O (AX (a:=ti) (b:=1) Z)) O (AO O ?_)))))
      exact AE.nil (AC.subF (sL [1,2,3,4,12,13,15,14] O) (AC.round2 (ti+1) (cn+1) (⟨Z,Z,by rw [hcw];exact (UQ hc8).symm⟩) Z (sF O) sr))
     ·simp only [Bool.and_eq_true,Bool.or_eq_true,Bool.and_eq_false_iff,Bool.or_eq_false_iff,Bool.not_eq_true',Bool.not_eq_false',decide_eq_true_eq,decide_eq_false_iff_not] at hc8
      refine AF.skip (AC.in_normal (AC.then_ (AF.region (AR O (AI (AY (c:=((ti+1:Nat):Int)) O O (AX (a:=ti) (b:=1) Z)) O ?_)))))
      exact AO O (AE.nil (AC.subF (sL [1,2,3,4,12,13,15,14] O) (AC.round2 (ti+1) cn (⟨Z,Z,by rw [hcw];exact (Wo hc8).symm⟩) Z (sF O) sr)))
    ·replace hc7:=of_decide_eq_false hc7
     have hte:ti=ts.length:=by omega
     rw [hte] at hcw
     refine AF.exit (AC.then_exit (AC.round2_exit (AC.in_exit (q2 (AR O ?_)))))
     refine AI (BS (c:=(decide (cn=1))) O O (Ot (a:=cn) (b:=1))) O (AE.nil (AC.subF (sL [1,2,3,4,12,13,15,14,124] O) (AC.then_ ?_)))
     refine AF.cond O (λhc9=>?_) (λhc9=>?_)
     ·replace hc9:=of_decide_eq_true hc9
      refine AF.region (AI (v:=(pP b3 2)) (AA O underlying99 O sizeOf28 O) O (BK 5 (Value.slice p5 sq9.length c5) CR O (AR O (AR O (AR O ?_)))))
      refine AR O (AI (B6 (c:=((3*bi:Nat):Int)) O O (DO (a:=3) (b:=bi) Z)) O (AI (AY (c:=((ai+(3*bi):Nat):Int)) O O (AX (a:=ai) (b:=3*bi) Z)) O (AI (v:=(pP b1 8)) (AA O underlying26 O sizeOf5 O) O (BK 7 (vK .u8 m.fst) SY O (AI (A9 (c:=((m.fst:Nat):Int)) O underlying5 underlying3 (CW Z)) O ?_)))))
      refine AI (AY (c:=(((ai+(3*bi))+m.fst:Nat):Int)) O O (AX (a:=ai+(3*bi)) (b:=m.fst) Z)) O (AI (CC (c:=((((ai+(3*bi))+m.fst)%5:Nat):Int)) O O Z (H2 (a:=(ai+(3*bi))+m.fst) (b:=5))) O (AI (v:=(aG (An (ai,bi,((ai+(3*bi))+m.fst)%5)))) (Ao (zs:=An ((0,0,0):Nat×Nat×Nat)) (vs:=An (ai,bi,((ai+(3*bi))+m.fst)%5)) (pv:=[(0,(vN ai)),(1,(vN bi)),(2,(vN (((ai+(3*bi))+m.fst)%5)))]) zeroValue76 underlying76 sizeOf3 O (KF ai bi (((ai+(3*bi))+m.fst)%5))) O (AE.openV (V:=λb4=>(Value.slice (some ⟨b4,0,none⟩) 1 1)) (T:=76) (cs:=An (ai,bi,((ai+(3*bi))+m.fst)%5)) (AM O) (Ap (z:=.agg (An ((0,0,0):Nat×Nat×Nat)).toArray) (cs:=An (ai,bi,((ai+(3*bi))+m.fst)%5)) (pv:=[(0,(aG (An (ai,bi,((ai+(3*bi))+m.fst)%5))))]) underlying28 sizeOf76 zeroValue76 (by decide) (by decide) O (Gr (ai,bi,((ai+(3*bi))+m.fst)%5))) O (Ab O) λb4=>AE.appendAt 3 (j:=0) (cs2:=rowsL An (sq9++[(ai,bi,((ai+(3*bi))+m.fst)%5)])) Ns O h5 (Al Ar _) O O O O O (by decide) (Gt Z) Z (by rw [BN];rfl) O λp_8 c_8 ho_8 hne_8=>AI (v:=(pP b3 2)) (AA O underlying99 O sizeOf28 O) O ?_)))
      refine Eu 6 (off:=2) (vs:=[(Value.slice p_8 (sq9.length+1) c_8)]) (cs':=[(Value.slice s.p2 s.pl.length s.c2),(Value.slice p3 ts.length c3),(Value.slice p_8 (sq9.length+1) c_8)]) (AM O) O sizeOf28 O (AE.nil (AC.subF (sL [1,2,3,4,12,13,15,14] O) (AC.in_normal (AC.then_ (AF.region ?_)))))
      refine AR O (AI (AY (c:=((bi+1:Nat):Int)) O O (AX (a:=bi) (b:=1) Z)) O (AO O (AE.nil (AC.subF (sL [1,2,3,4,12,13,15,14] O) ?_))))
      rw [show sq9.length+1=(sq9++[(ai,bi,((ai+(3*bi))+m.fst)%5)]).length by simp]
      exact AC.round4 (bi+1) p_8 c_8 (sq9++[(ai,bi,((ai+(3*bi))+m.fst)%5)]) (⟨Z,Z,(by simpa using ho_8),by rw [List.length_append];simp only [List.length_singleton];omega,(by rw [hsq];exact Uw Z (by rw [<-hcw,hc9]))⟩) Z (sF O) (sl sr)
     ·replace hc9:=of_decide_eq_false hc9
      refine AF.skip (AC.in_normal (AC.then_ (AF.region (AR O (AI (AY (c:=((bi+1:Nat):Int)) O O (AX (a:=bi) (b:=1) Z)) O ?_)))))
      exact AO O (AE.nil (AC.subF (sL [1,2,3,4,12,13,15,14] O) (AC.round4 (bi+1) p5 c5 sq9 (⟨Z,Z,h5,Z,(by rw [hsq];exact W9 Z (by rw [<-hcw];exact hc9))⟩) Z (sF O) sr)))
   ·replace hc6:=of_decide_eq_false hc6
    refine AF.exit (AC.then_exit (AC.round4_exit (AC.in_exit (AC.in_normal (AC.then_ ?_)))))
    exact AF.region (AR O (AI (AY (c:=((ai+1:Nat):Int)) O O (AX (a:=ai) (b:=1) Z)) O (AO O (AE.nil (AC.subF (sL [1,2,3,4,12,13] O) (AC.round4 (ai+1) p5 c5 sq9 (⟨Z,h5,Z,by rw [hsq,show bi=s.pl.length by omega];rfl⟩) Z (sF O) sr))))))
  ·replace hc5:=of_decide_eq_false hc5
   refine AF.exit (AC.then_exit (AC.round4_exit (AC.in_exit (q2 (A6 5 aE O ?_)))))
   exact Eu 6 (off:=0) (vs:=[(Value.slice s.p2 s.pl.length s.c2),(Value.slice p3 ts.length c3),(Value.slice p4 ss.length c4)]) (cs':=[(Value.slice s.p2 s.pl.length s.c2),(Value.slice p3 ts.length c3),(Value.slice p4 ss.length c4)]) (AM O) O sizeOf99 O (AE.nil (AC.subF (sL [1,2,3,4,12] O) (AC.then_ (AF.ret (AT O (A7 (i:=6) (cs:=[(Value.slice s.p2 s.pl.length s.c2),(Value.slice p3 ts.length c3),(Value.slice p4 ss.length c4)]) O O isAgg99 sizeOf99 O) (λw hw=>(Ze hw (WM.mk s.pl ts ss hv hs.dst Z (by rw [hsd,show ai=s.pl.length by omega]) ⟨s.p2,s.c2,hs.o2.row⟩ ⟨p3,c3,h3.row⟩ ⟨p4,c4,h4.row⟩) h3 3 O (Fh (S:=λ_=>False) hw 4 O hs.o2 (by rw [Al F_];simp [WS.pts])) (Fh (S:=λ_=>False) hw 3 O h3 (Al Ar _)) (Fh (S:=λ_=>False) hw 2 O h4 (Al Ar _)) O)))))))
end
end Go.Proofs.YtfbomiejpbchdaaGreat
