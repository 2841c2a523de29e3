import Derived.Test.YtfbomiejpbchdaaGreatDoorPart06
import Derived.Test.YtfbomiejpbchdaaGreatDoorPart15
import Derived.Test.YtfbomiejpbchdaaGreatDoorPart22
import Derived.Test.YtfbomiejpbchdaaGreatDoorPart24
namespace Go.Proofs.YtfbomiejpbchdaaGreatDoor
open Go Go.RowKit Go.Proofs.Tryz
set_option linter.unusedVariables false
set_option linter.unusedSimpArgs false
section
set_option maxRecDepth 100000
theorem Qs:ElemT prog 158 147 2 16:=⟨underlying158,Dm (by kernel_rfl)⟩
theorem Uo:ElemT prog 23 79 3 24:=⟨underlying23,Dm (by kernel_rfl)⟩
theorem Q1:ElemT prog 117 121 2 16:=⟨underlying117,Dm (by kernel_rfl)⟩
theorem Pw (t:Nat×Nat×Nat) (x:Nat) (w:World)  :Calls prog 89 #[(aG (An t)),(vN x)] w (Al w (Value.bool (GK t x))):=by
 refine Ac (args:=[(aG (An t)),(vN x)]) func89 O O (Ad O) (AF.subF (sL [0,1] O) (q4 (Bi (cs:=An t) O λb1=>AK O (q3 (sL [1,2,4] O) ?_))))
 refine AH (v:=(pP b1 0)) (AD (j:=0) O O underlying79 sizeOf3 O (by decide) O) O (BJ 0 (vN t.1) Bx O (AO O (AH (BQ (c:=(decide (t.1=x))) O O (L9 (a:=t.1) (b:=x))) O (AO O ?_))))
 refine AE.mid (FM:=[(1,(vN x)),(2,(pP b1 0)),(4,(Value.bool false)),(5,(pP b1 0)),(6,(vN t.1)),(7,(vN x)),(8,(Value.bool (decide (t.1=x)))),(9,(Value.bool (decide (t.1=x)))),(14,(Value.bool ((decide (t.1=x))||(decide (t.2.1=x)))))]) (LM:=[Ae b1 79 (An t)]) 5 ?_ ?_
 ·rcases Bool.eq_false_or_eq_true (decide (t.1=x)) with hg1|hg1
  ·skip
   refine AE.retell (k:=9) (u:=Value.bool true) O (by rw [hg1]) ?_
   have hg1':=hg1
   replace hg1':=of_decide_eq_true hg1'
   exact AE.skip (AQ O) O (Ad O) (AE.skip (AQ O) O (Ad O) (AE.skip (AQ O) O (Ad O) (AE.skip (AQ O) O (Ad O) (AH (v:=(Value.bool true)) (Ai O O) O (AE.nil (AC.mid (sS O (sS O (sS O (sS O (sS O (sS O (sS O (sS (by first|rfl|(rw [hg1];rfl)|rw [hg1]) (sS (by first|rfl|(rw [hg1];rfl)|rw [hg1]) (sN)))))))))) (List.Sublist.refl _)))))))
  ·skip
   refine AE.retell (k:=9) (u:=Value.bool false) O (by rw [hg1]) ?_
   have hg1':=hg1
   replace hg1':=of_decide_eq_false hg1'
   exact AE.step (v:=(pP b1 1)) (AB O) (AD (j:=1) O O underlying79 sizeOf3 O (by decide) O) O (Ad O) (AE.step (v:=(vN t.2.1)) (AB O) (AM (i:=0) (v:=(vN t.2.1)) O O Bx.a O) O (Ad O) (AE.step (v:=(vN x)) (AB O) (BB O) O (Ad O) (AE.step (v:=(Value.bool (decide (t.2.1=x)))) (AB O) (BQ (c:=(decide (t.2.1=x))) O O (L9 (a:=t.2.1) (b:=x))) O (Ad O) (AH (v:=(Value.bool (decide (t.2.1=x)))) (AY O O) O (AE.nil (AC.mid (sS O (sS O (sS O (sS O (sS O (sS O (sS O (sS (by first|rfl|(rw [hg1];rfl)|rw [hg1]) (sS (by first|rfl|(rw [hg1];rfl)|rw [hg1]) (sN)))))))))) (List.Sublist.refl _)))))))
 refine AO O ?_
 refine AE.mid (FM:=[(1,(vN x)),(2,(pP b1 0)),(4,(Value.bool false)),(5,(pP b1 0)),(6,(vN t.1)),(7,(vN x)),(8,(Value.bool (decide (t.1=x)))),(9,(Value.bool (decide (t.1=x)))),(14,(Value.bool ((decide (t.1=x))||(decide (t.2.1=x))))),(15,(Value.bool ((decide (t.1=x))||(decide (t.2.1=x))))),(20,(Value.bool (((decide (t.1=x))||(decide (t.2.1=x)))||(decide (t.2.2=x)))))]) (LM:=[Ae b1 79 (An t)]) 5 ?_ ?_
 ·rcases Bool.eq_false_or_eq_true ((decide (t.1=x))||(decide (t.2.1=x))) with hg2|hg2
  ·skip
   refine AE.retell (k:=15) (u:=Value.bool true) O (by rw [hg2]) ?_
   have hg2':=hg2
   simp only [Bool.and_eq_true,Bool.or_eq_true,Bool.and_eq_false_iff,Bool.or_eq_false_iff,Bool.not_eq_true',Bool.not_eq_false',decide_eq_true_eq,decide_eq_false_iff_not] at hg2'
   exact AE.skip (AQ O) O (Ad O) (AE.skip (AQ O) O (Ad O) (AE.skip (AQ O) O (Ad O) (AE.skip (AQ O) O (Ad O) (AH (v:=(Value.bool true)) (Ai O O) O (AE.nil (AC.mid (sS O (sS O (sS O (sS O (sS O (sS O (sS O (sS O (sS O (sS (by first|rfl|(rw [hg2];rfl)|rw [hg2]) (sS (by first|rfl|(rw [hg2];rfl)|rw [hg2]) (sN)))))))))))) (List.Sublist.refl _)))))))
  ·skip
   refine AE.retell (k:=15) (u:=Value.bool false) O (by rw [hg2]) ?_
   have hg2':=hg2
   simp only [Bool.and_eq_true,Bool.or_eq_true,Bool.and_eq_false_iff,Bool.or_eq_false_iff,Bool.not_eq_true',Bool.not_eq_false',decide_eq_true_eq,decide_eq_false_iff_not] at hg2'
   exact AE.step (v:=(pP b1 2)) (AB O) (AD (j:=2) O O underlying79 sizeOf3 O (by decide) O) O (Ad O) (AE.step (v:=(vN t.2.2)) (AB O) (AM (i:=0) (v:=(vN t.2.2)) O O Bx.a O) O (Ad O) (AE.step (v:=(vN x)) (AB O) (BB O) O (Ad O) (AE.step (v:=(Value.bool (decide (t.2.2=x)))) (AB O) (BQ (c:=(decide (t.2.2=x))) O O (L9 (a:=t.2.2) (b:=x))) O (Ad O) (AH (v:=(Value.bool (decide (t.2.2=x)))) (AY O O) O (AE.nil (AC.mid (sS O (sS O (sS O (sS O (sS O (sS O (sS O (sS O (sS O (sS (by first|rfl|(rw [hg2];rfl)|rw [hg2]) (sS (by first|rfl|(rw [hg2];rfl)|rw [hg2]) (sN)))))))))))) (List.Sublist.refl _)))))))
 exact AK O (AE.nil (AC.subF (sL [4] O) (AC.then_ (AF.ret (AN O (Ab (v:=(Value.bool (((decide (t.1=x))||(decide (t.2.1=x)))||(decide (t.2.2=x))))) O) (λw hw=>⟨by first|rfl|simp [GK,Bool.or_assoc],hw.out⟩))))))
theorem Dv (x0:P2):Instr.fill (λi=>some (i*2,2)) ((Array.range (1*2)).map ((Value.agg (A6 ((0,0):P2)).toArray).cells[·%(Value.agg (A6 ((0,0):P2)).toArray).cells.size]!)) [(0,.agg (A6 x0).toArray)]=some (A6 x0).toArray:=by kernel_rfl
theorem D0 (x0:Int×Int):Instr.fill (λi=>some (i*2,2)) ((Array.range (1*2)).map ((Value.agg (CD ((0,0):Int×Int)).toArray).cells[·%(Value.agg (CD ((0,0):Int×Int)).toArray).cells.size]!)) [(0,.agg (CD x0).toArray)]=some (CD x0).toArray:=by kernel_rfl
theorem Fj (x0:Nat×Nat×Nat):Instr.fill (λi=>some (i*3,3)) ((Array.range (1*3)).map ((Value.agg (An ((0,0,0):Nat×Nat×Nat)).toArray).cells[·%(Value.agg (An ((0,0,0):Nat×Nat×Nat)).toArray).cells.size]!)) [(0,.agg (An x0).toArray)]=some (An x0).toArray:=by kernel_rfl
theorem IP (x0 x1 x2:Nat):Instr.fill (λi=>some (i*1,1)) (An ((0,0,0):Nat×Nat×Nat)).toArray [(0,vN x0),(1,vN x1),(2,vN x2)]=some (An (x0,x1,x2)).toArray:=by kernel_rfl
set_option maxHeartbeats 2000000 in
theorem M_ (m:MQ) (w:World) {S:Nat->Prop} (hm:Ro S w m):Calls prog 47 #[(aG (D5 m))] w (B3 (Tt m) (λ_=>False) w):=by
 have hf:=m.hfst
 have hf3:m.fst/3<=85:=by omega
 have lm:=En (W:=w) hm
 refine BC (args:=[(aG (D5 m))]) (L:=[Ag m.p (Cg m.cs)]) func47 O O (Ad O) (Eo hm BR) (AF.subF (sL [0] O) (q4 (Bi (cs:=D5 m) O λb1=>al Pa O λb2=>q3 (sL [1,2] O) ?_)))
 refine al Pa O λb3=>AE.nilRow 121 2 (AE.nilRow 79 3 (AE.nilRow 79 3 (AE.nil (q2 ?_))))
 refine AK O (AE.nilRow 147 2 (AE.nil (q2 (BA 6 K4 O (cX (S:=S) (cs:=rowsL A9 (BL m)) (k:=(BL m).length) (args:=[(aG (D5 m))]) call87 (λw hw=>N4 m w (Dz hw 7 O lm)) O O O λgc lgc=>?_)))))
 refine AK O (q6 (sL [1,2,3,4,5] O) (q4 (AK O (AE.nil (AC.then_ ?_)))))
 refine AF.block ?_
 refine AF.lp5 (tg λ(i:Nat) (s:WS) (p3:Option Addr) (c3:Nat) (ts:List (Nat×Nat×Nat))=>i<=(BL m).length/\WS.Ok s/\OwnOk p3 ts.length c3/\KG m i (WS.pl s) ts) (tg λ(i:Nat) (s:WS) (p3:Option Addr) (c3:Nat) (ts:List (Nat×Nat×Nat))=>[(1,(pP b1 0)),(2,(pP b2 0)),(3,(pP b3 0)),(5,(Value.slice gc.p ((BL m).length) gc.c)),(6,(vN i)),(4,(Value.slice s.p1 s.pl.length s.c1))]) (tg λ(i:Nat) (s:WS) (p3:Option Addr) (c3:Nat) (ts:List (Nat×Nat×Nat))=>[Ag gc.p (rowsL A9 (BL m)),rowW s.p1 147 2 s.pl.length s.c1 (rowsL A6 s.pl),rowW none 79 3 0 0 (rowsL An ([])),rowW p3 79 3 ts.length c3 (rowsL An ts),rowW s.p2 121 2 s.pl.length s.c2 (rowsL CD (s.pts m)),Ae b3 119 ([(Value.slice s.p2 s.pl.length s.c2),(Value.slice p3 ts.length c3),(Value.slice none 0 0)]),Ae b2 119 ([(Value.slice none 0 0),(Value.slice none 0 0),(Value.slice none 0 0)]),Ae b1 50 (D5 m),Ag m.p (Cg m.cs)]) (tg λ(i:Nat) (s:WS) (p3:Option Addr) (c3:Nat) (ts:List (Nat×Nat×Nat))=>(BL m).length-i) 0 (WS.mk [] none 0 none 0) none 0 ([]:List (Nat×Nat×Nat)) (⟨Nat.zero_le _,⟨OwnOk.none,OwnOk.none,(λp hp=>by cases hp),SW⟩,OwnOk.none,Ua m⟩) (sF O) sr (λi s p3 c3 ts hJ=>?_)
 obtain ⟨hi,hs,h3,hv⟩:=hJ
 have hpl:=hv.pll
 have htl:=hv.tl
 have hcl:=GC m
 refine AF.seq (q4 (AO O (AO O (AH (v:=(vN ((BL m).length))) (AG O underlying159) O (AH (Af (c:=(decide (i<((BL m).length)))) O O (C1 (a:=i) (b:=(BL m).length))) O ?_)))))
 refine AE.nil (AC.subF (sL [1,2,3,5,6,4,21] O) (AC.then_ ?_))
 refine AF.cond O (λhc0=>?_) (λhc0=>?_)
 ·replace hc0:=of_decide_eq_true hc0
  refine AF.skip (q1 (AF.block (q4 (al KN O λb4=>AE.nil ?_))))
  refine q1 (q4 (AK O (AE.nil (AC.then_ (AF.block ?_)))))
  refine AF.unroll 4 (Eb.step (AF.seq (q4 (AO O (AH (Af (c:=true) O O (by decide)) O ?_)))))
  refine AE.nil (AC.subF (sL [1,2,3,5,6,4,7,8,25] O) (AC.then_ (AF.cond_true O (AF.skip (q1 ?_)))))
  refine AF.block (AF.seq (C2 [(0,true),(1,true),(2,true),(3,true),(4,true),(5,true),(6,true),(7,true),(8,true),(9,true),(10,true),(11,true),(12,true),(13,true),(14,true),(15,true),(16,true),(17,true),(18,false),(19,false)] sr (Bm O (Bm O (Bm O ?_)))))
  refine Ay (v:=(pP b1 8)) O (AA O underlying50 O sizeOf5 O) (Bl 8 (vK .u8 m.fst) RD O (Ay O (Au (c:=((m.fst:Nat):Int)) O underlying5 underlying3 (CB Z)) (Ay O (AW (c:=((0+m.fst:Nat):Int)) O O (AZ (a:=0) (b:=m.fst) Z)) (Bm O (Ay (v:=(pP b1 8)) O (AA O underlying50 O sizeOf5 O) ?_)))))
  refine Bl 8 (vK .u8 m.fst) RD O (Ay O (Fq (c:=((m.fst/3:Nat):Int)) O O Z (Ks (a:=m.fst) (b:=3) Z)) (Ay O (Au (c:=((m.fst/3:Nat):Int)) O underlying5 underlying3 (CB Z)) ?_))
  have hmul:i*(m.fst/3)<=36*85:=Nat.mul_le_mul Z hf3
  refine Ay O (Bk (c:=((i*(m.fst/3):Nat):Int)) O O (Cc (a:=i) (b:=m.fst/3) Z)) (Ay O (AW (c:=(((0+m.fst)+(i*(m.fst/3)):Nat):Int)) O O (AZ (a:=0+m.fst) (b:=i*(m.fst/3)) Z)) ?_)
  obtain ⟨r9,hr9⟩:∃r,r=Oy m i 0:=⟨_,rfl⟩
  have hr3:r9<3:=by rw [hr9];exact Nat.mod_lt _ (by decide)
  refine Ay O (Bz (c:=((r9:Nat):Int)) O O (by decide) (by rw [hr9];exact HF (a:=0+m.fst+i*(m.fst/3)) (b:=3))) (Ay (v:=(pP (pB gc.p) (pO gc.p+i*6))) O (AR (j:=i) O O gc.ok underlying159 sizeOf161 O Z) (Ay (v:=(pP (pB gc.p) (pO gc.p+(i*6+r9*2)))) O (AD (j:=r9) O O underlying161 sizeOf147 O hr3 (Nat.add_assoc _ _ _)) (Ay (v:=(aG (A6 (Ap m i 0)))) O (AU (vs:=A6 (Ap m i 0)) (i:=1) O O (BO.ne gc.ok Z) Bh (G9 _ i r9 Z hr3 _ O _ (by rw [hr9];rfl)) O) (AS.imp O (al Hb O λb5=>?_)))))
  refine AS.back (sl sr) (AS.imp O (Av O sizeOf147 O (AS.back (sl sr) (AS.nil (AC.subF (sL [1,2,3,5,6,4,7,8,9] O) ?_)))))
  refine q2 (AK O (AE.nil (q1 (q4 (AK O ?_)))))
  refine AE.nil (AC.then_ (AF.block ?_))
  refine AF.lp2 (tg λ(k:Nat) (a:Int)=>k<=s.pl.length/\((a = -1/\∀j,j<k->s.pl.getD j (0,0)≠Ap m i 0)\/0<=a/\a<(k:Int)/\s.pl.getD (Int.toNat a) (0,0)=Ap m i 0)) (tg λ(k:Nat) (a:Int)=>[(1,(pP b1 0)),(2,(pP b2 0)),(3,(pP b3 0)),(5,(Value.slice gc.p ((BL m).length) gc.c)),(6,(vN i)),(4,(Value.slice s.p1 s.pl.length s.c1)),(7,(pP b4 0)),(8,(vI 0)),(9,(pP b5 0)),(11,(vN k)),(10,(vI a))]) (tg λ(k:Nat) (a:Int)=>[Ae b5 147 (A6 (Ap m i 0)),Ae b4 79 (An ((0,0,0):Nat×Nat×Nat)),Ag gc.p (rowsL A9 (BL m)),rowW s.p1 147 2 s.pl.length s.c1 (rowsL A6 s.pl),rowW none 79 3 0 0 (rowsL An ([])),rowW p3 79 3 ts.length c3 (rowsL An ts),rowW s.p2 121 2 s.pl.length s.c2 (rowsL CD (s.pts m)),Ae b3 119 ([(Value.slice s.p2 s.pl.length s.c2),(Value.slice p3 ts.length c3),(Value.slice none 0 0)]),Ae b2 119 ([(Value.slice none 0 0),(Value.slice none 0 0),(Value.slice none 0 0)]),Ae b1 50 (D5 m),Ag m.p (Cg m.cs)]) (tg λ(k:Nat) (a:Int)=>s.pl.length-k) 0 (-1:Int) (⟨Nat.zero_le _,.inl ⟨rfl,λj hj=>absurd hj (Nat.not_lt_zero _)⟩⟩) (sF O) sr (λk a hJ=>?_)
  obtain ⟨hk,ha⟩:=hJ
  refine AF.seq (q4 (AO O (AO O (AH (v:=(vN s.pl.length)) (AG O underlying158) O (AH (Af (c:=(decide (k<s.pl.length))) O O (C1 (a:=k) (b:=s.pl.length))) O ?_)))))
  refine AE.nil (AC.subF (sL [1,2,3,5,6,4,7,8,9,11,10,49] O) (AC.then_ ?_))
  refine AF.cond O (λhc2=>?_) (λhc2=>?_)
  ·replace hc2:=of_decide_eq_true hc2
   refine AF.skip (q1 (AF.block (AF.seq (C2 [(0,true),(1,true),(2,true),(3,true),(4,true),(5,true)] sr (Bm O ?_)))))
   refine Bm O (Ay (v:=(pP (pB s.p1) (pO s.p1+k*2))) O (AR (j:=k) O O hs.o1.row underlying158 sizeOf147 O Z) (Ay (v:=(aG (A6 (s.pl.getD k ((0,0):P2))))) O (CR (vs:=A6 (s.pl.getD k ((0,0):P2))) (i:=3) O O hs.o1 (Am CZ _) (BO.ne hs.o1.row Z) Bh (Ar CZ _ _ _ Z) (CZ _)) (EH 0 Bh O (Ay O (Bq (c:=decide (s.pl.getD k ((0,0):P2)=(Ap m i 0))) O O eqGuardType147 (Kx 9998 (s.pl.getD k ((0,0):P2)) (Ap m i 0))) (AS.nil ?_)))))
   refine AC.subF (sL [1,2,3,5,6,4,7,8,9,11,10,57] O) (AC.then_ ?_)
   refine AF.cond O (λhc3=>?_) (λhc3=>?_)
   ·replace hc3:=of_decide_eq_true hc3
    refine AF.region (AO O (AK O (AE.nil (AC.subF (sL [1,2,3,5,6,4,7,8,9,11,10] O) (AC.in_normal ?_)))))
    refine AC.then_ (AF.region (AO O (AH (AW (c:=((k+1:Nat):Int)) O O (AZ (a:=k) (b:=1) Z)) O (AK O (AE.nil ?_)))))
    exact AC.subF (sL [1,2,3,5,6,4,7,8,9,11,10] O) (AC.round2 (k+1) (k:Int) (⟨Z,.inr ⟨Z,Z,by simpa using hc3⟩⟩) Z (sF O) sr)
   ·replace hc3:=of_decide_eq_false hc3
    refine AF.skip (AC.in_normal (AC.then_ (AF.region (AO O (AH (AW (c:=((k+1:Nat):Int)) O O (AZ (a:=k) (b:=1) Z)) O ?_)))))
    exact AK O (AE.nil (AC.subF (sL [1,2,3,5,6,4,7,8,9,11,10] O) (AC.round2 (k+1) a (⟨Z,ha.elim (λh=>.inl ⟨h.1,λj hj=>by rcases Nat.lt_or_ge j k with h1|h1;exact h.2 j h1;(obtain rfl:j=k:=by omega);simpa using hc3⟩) (λh=>.inr ⟨h.1,Z,h.2.2⟩)⟩) Z (sF O) sr)))
  ·replace hc2:=of_decide_eq_false hc2
   refine AF.exit (AC.then_exit (AC.round2_exit (AC.in_exit (q1 (q4 ?_)))))
   refine AO O (AH (Af (c:=(decide (a<(0:Int)))) O O O) O (AE.nil (AC.subF (sL [1,2,3,5,6,4,7,8,9,11,10,60] O) (AC.then_ ?_))))
   refine AF.jn2 (tg λ(s1:WS) (n1:Nat)=>WS.Ok s1/\FD s.pl (WS.pl s1)/\(WS.pl s1).length<=s.pl.length+1/\n1<(WS.pl s1).length/\(WS.pl s1).getD n1 (0,0)=Ap m i 0/\∀a,a<(WS.pl s1).length->a<s.pl.length\/a=n1) (tg λ(s1:WS) (n1:Nat)=>[(1,(pP b1 0)),(2,(pP b2 0)),(3,(pP b3 0)),(5,(Value.slice gc.p ((BL m).length) gc.c)),(6,(vN i)),(7,(pP b4 0)),(8,(vI 0)),(10,(vN n1)),(4,(Value.slice s1.p1 s1.pl.length s1.c1))]) (tg λ(s1:WS) (n1:Nat)=>[Ae b5 147 (A6 (Ap m i 0)),Ae b4 79 (An ((0,0,0):Nat×Nat×Nat)),Ag gc.p (rowsL A9 (BL m)),rowW s1.p1 147 2 s1.pl.length s1.c1 (rowsL A6 s1.pl),rowW none 79 3 0 0 (rowsL An ([])),rowW p3 79 3 ts.length c3 (rowsL An ts),rowW s1.p2 121 2 s1.pl.length s1.c2 (rowsL CD (s1.pts m)),Ae b3 119 ([(Value.slice s1.p2 s1.pl.length s1.c2),(Value.slice p3 ts.length c3),(Value.slice none 0 0)]),Ae b2 119 ([(Value.slice none 0 0),(Value.slice none 0 0),(Value.slice none 0 0)]),Ae b1 50 (D5 m),Ag m.p (Cg m.cs)]) ?_ ?_
   ·skip
    refine AF.cond O (λhc4=>?_) (λhc4=>?_)
    ·replace hc4:=of_decide_eq_true hc4
     refine q4 (AO O (AH (v:=(vN s.pl.length)) (AG O underlying158) O (AK O (q3 (sL [1,2,3,5,6,4,7,8,9,11,10] O) (AO O ?_)))))
     refine BA 0 Bh O (AE.openV (V:=λb6=>(Value.slice (some ⟨b6,0,none⟩) 1 1)) (T:=147) (cs:=A6 (Ap m i 0)) (AP O) (A_ (z:=.agg (A6 ((0,0):P2)).toArray) (cs:=A6 (Ap m i 0)) (pv:=[(0,(aG (A6 (Ap m i 0))))]) underlying158 sizeOf147 zeroValue147 (by decide) (by decide) O (Dv (Ap m i 0))) O (Ad O) λb6=>AE.appendAt 4 (j:=0) (cs2:=rowsL A6 (s.pl++[(Ap m i 0)])) Qs O hs.o1 (Am CZ _) O O O O O (by decide) (Jc Z) Z (by rw [BW];rfl) O λp_1 c_1 ho_1 hne_1=>AK O (AE.nil (AC.subF (sL [1,2,3,5,6,4,7,8,9,11,10] O) ?_)))
     refine AC.then_ (rC [(0,true),(1,true),(2,true),(3,true),(4,false),(5,false),(6,false),(7,true)] 8 [] (sk (sk (sk (sk (sk (sk (sk (sl sr)))))))) (sk (sk (sk (sk (sk (sk (sk (sl sr)))))))) (by kernel_rfl) (λ_ _ d _ _ h=>by cases d<;>exact h) (vE (v:=(pP b3 0)) O (AA O underlying119 O sizeOf117 O) O (vE O (AM (i:=7) (v:=(Value.slice s.p2 s.pl.length s.c2)) O O Jy.a O) O (vE (v:=(aG (D5 m))) O (Ak (i:=9) (vs:=D5 m) O O K4.a K4.s O O) O (vE (v:=(aG (A6 (Ap m i 0)))) O (Ak (i:=1) (vs:=A6 (Ap m i 0)) O O Bh.a Bh.s O O) O ?_)))))
     refine CG.imp O (D1 call88 (λw hw=>HL m (Ap m i 0) (Dh Z) w (Dz hw 11 O lm)) O (CG.back (sk (sk (sk (sk (sk (sk (sk (sl sr)))))))) (CG.imp O (AE.openV (V:=λb7=>(Value.slice (some ⟨b7,0,none⟩) 1 1)) (T:=121) (cs:=CD ((mapM m).at_ (Ap m i 0))) (AP O) (A_ (z:=.agg (CD ((0,0):Int×Int)).toArray) (cs:=CD ((mapM m).at_ (Ap m i 0))) (pv:=[(0,(aG (CD ((mapM m).at_ (Ap m i 0)))))]) underlying117 sizeOf121 zeroValue121 (by decide) (by decide) O (D0 ((mapM m).at_ (Ap m i 0)))) O (Ad O) λb7=>CG.back (sl (sk (sk (sk (sk (sk (sk (sk (sl sr))))))))) ?_))))
     refine CG.imp O (AE.appendAt 8 (j:=0) (cs2:=rowsL CD ((s.pts m)++[((mapM m).at_ (Ap m i 0))])) Q1 O hs.o2 (by rw [Am Ew];simp [WS.pts]) O O O O O (by decide) (Jc Z) Z (by rw [BW];rfl) O λp_2 c_2 ho_2 hne_2=>CG.back (sl (sk (sk (sk (sk (sk (sk (sk (sl sr))))))))) (vE (v:=(pP b3 0)) O (AA O underlying119 O sizeOf117 O) O (CG.cut O (Fc 9 (off:=0) (vs:=[(Value.slice p_2 (s.pl.length+1) c_2)]) (cs':=[(Value.slice p_2 (s.pl.length+1) c_2),(Value.slice p3 ts.length c3),(Value.slice none 0 0)]) (AP O) O sizeOf117 O ?_))))
     refine AS.back (sl (sk (sk (sk (sk (sk (sk (sk (sl (sl sr)))))))))) (AS.nil (AC.subF (sL [1,2,3,5,6,4,7,8,9,11,10] O) ?_))
     rw [show s.pl.length+1=(s.pl++[Ap m i 0]).length by simp]
     rw [show s.pts m++[(mapM m).at_ (Ap m i 0)]=WS.pts (WS.mk (s.pl++[Ap m i 0]) p_1 c_1 p_2 c_2) m by simp [WS.pts]]
     exact AC.join2 (WS.mk (s.pl++[Ap m i 0]) p_1 c_1 p_2 c_2) s.pl.length (⟨⟨(by simpa using ho_1),(by simpa using ho_2),λp hp=>(List.mem_append.1 hp).elim (hs.small p) (λe=>by rw [List.mem_singleton.1 e];exact Dh Z),Is hs.dst (λj hj=>(ha.elim id (λh=>absurd h.1 Z)).2 j Z)⟩,FD.snoc _ _,by simp,by simp,Cr _ _,λa ha=>by simp only [List.length_append,List.length_singleton] at ha;omega⟩) (sF O) (sl (sl sr))
    ·replace hc4:=of_decide_eq_false hc4
     refine AF.retell (k:=10) (u:=(vN a.toNat)) O (by show Value.int _ _=Value.int _ _;congr 1;omega) (AF.skip ?_)
     obtain ⟨ha1,ha2,ha3⟩:=ha.resolve_left (λh=>by have:=h.1;omega)
     exact AC.join2 s a.toNat (⟨hs,FD.refl _,Z,Z,ha3,λa ha=>.inl ha⟩) (sF O) sr
   ·intro s1 n1 hJ
    obtain ⟨hs1,hm1,hl1,hn1,hg1,hu1⟩:=hJ
    refine AC.then_ (AF.region (AO O (AO O (AH (v:=(pP b4 0)) (AD (j:=0) O O underlying79 sizeOf3 O (by decide) O) O (Fc 1 (off:=0) (vs:=[(vN n1)]) (cs':=[(vN n1),(vI 0),(vI 0)]) (AP O) O sizeOf3 O ?_)))))
    refine AE.nil (AC.subF (sL [1,2,3,5,6,7,8,10,4] O) (AC.in_normal (AC.then_ (AF.region (AO O ?_)))))
    refine AH (AW (c:=(1:Int)) O O (by decide)) O (AK O (AE.nil (AC.subF (sL [1,2,3,5,6,7,8,10,4] O) (AC.again (Eb.step ?_)))))
    refine AF.seq (q4 (AO O (AH (Af (c:=true) O O (by decide)) O (AE.nil (AC.subF (sL [1,2,3,5,6,7,8,10,4,25] O) ?_)))))
    refine AC.then_ (AF.cond_true O (AF.skip (q1 (AF.block (AF.seq ?_)))))
    refine C2 [(0,true),(1,true),(2,true),(3,true),(4,true),(5,true),(6,true),(7,true),(8,true),(9,true),(10,true),(11,true),(12,true),(13,true),(14,true),(15,true),(16,true),(17,true),(18,false),(19,false)] sr (Bm O (Bm O (Bm O (Ay (v:=(pP b1 8)) O (AA O underlying50 O sizeOf5 O) (Bl 9 (vK .u8 m.fst) RD O ?_)))))
    refine Ay O (Au (c:=((m.fst:Nat):Int)) O underlying5 underlying3 (CB Z)) (Ay O (AW (c:=((1+m.fst:Nat):Int)) O O (AZ (a:=1) (b:=m.fst) Z)) (Bm O (Ay (v:=(pP b1 8)) O (AA O underlying50 O sizeOf5 O) (Bl 9 (vK .u8 m.fst) RD O (Ay O (Fq (c:=((m.fst/3:Nat):Int)) O O Z (Ks (a:=m.fst) (b:=3) Z)) ?_)))))
    refine Ay O (Au (c:=((m.fst/3:Nat):Int)) O underlying5 underlying3 (CB Z)) ?_
    have hmul:i*(m.fst/3)<=36*85:=Nat.mul_le_mul Z hf3
    refine Ay O (Bk (c:=((i*(m.fst/3):Nat):Int)) O O (Cc (a:=i) (b:=m.fst/3) Z)) (Ay O (AW (c:=(((1+m.fst)+(i*(m.fst/3)):Nat):Int)) O O (AZ (a:=1+m.fst) (b:=i*(m.fst/3)) Z)) ?_)
    obtain ⟨r9,hr9⟩:∃r,r=Oy m i 1:=⟨_,rfl⟩
    have hr3:r9<3:=by rw [hr9];exact Nat.mod_lt _ (by decide)
    refine Ay O (Bz (c:=((r9:Nat):Int)) O O (by decide) (by rw [hr9];exact HF (a:=1+m.fst+i*(m.fst/3)) (b:=3))) (Ay (v:=(pP (pB gc.p) (pO gc.p+i*6))) O (AR (j:=i) O O gc.ok underlying159 sizeOf161 O Z) (Ay (v:=(pP (pB gc.p) (pO gc.p+(i*6+r9*2)))) O (AD (j:=r9) O O underlying161 sizeOf147 O hr3 (Nat.add_assoc _ _ _)) (Ay (v:=(aG (A6 (Ap m i 1)))) O (AU (vs:=A6 (Ap m i 1)) (i:=2) O O (BO.ne gc.ok Z) Bh (G9 _ i r9 Z hr3 _ O _ (by rw [hr9];rfl)) O) (AS.imp O (al Hb O λb6=>?_)))))
    refine AS.back (sl sr) (AS.imp O (Av O sizeOf147 O (AS.back (sl sr) (AS.nil (AC.subF (sL [1,2,3,5,6,7,8,10,4,9] O) ?_)))))
    refine q2 (AK O (AE.nil (q1 (q4 (AK O ?_)))))
    refine AE.nil (AC.then_ (AF.block ?_))
    refine AF.lp2 (tg λ(k:Nat) (a:Int)=>k<=s1.pl.length/\((a = -1/\∀j,j<k->s1.pl.getD j (0,0)≠Ap m i 1)\/0<=a/\a<(k:Int)/\s1.pl.getD (Int.toNat a) (0,0)=Ap m i 1)) (tg λ(k:Nat) (a:Int)=>[(1,(pP b1 0)),(2,(pP b2 0)),(3,(pP b3 0)),(5,(Value.slice gc.p ((BL m).length) gc.c)),(6,(vN i)),(7,(pP b4 0)),(8,(vI 1)),(4,(Value.slice s1.p1 s1.pl.length s1.c1)),(9,(pP b6 0)),(11,(vN k)),(10,(vI a))]) (tg λ(k:Nat) (a:Int)=>[Ae b6 147 (A6 (Ap m i 1)),Ae b5 147 (A6 (Ap m i 0)),Ae b4 79 ([(vN n1),(vI 0),(vI 0)]),Ag gc.p (rowsL A9 (BL m)),rowW s1.p1 147 2 s1.pl.length s1.c1 (rowsL A6 s1.pl),rowW none 79 3 0 0 (rowsL An ([])),rowW p3 79 3 ts.length c3 (rowsL An ts),rowW s1.p2 121 2 s1.pl.length s1.c2 (rowsL CD (s1.pts m)),Ae b3 119 ([(Value.slice s1.p2 s1.pl.length s1.c2),(Value.slice p3 ts.length c3),(Value.slice none 0 0)]),Ae b2 119 ([(Value.slice none 0 0),(Value.slice none 0 0),(Value.slice none 0 0)]),Ae b1 50 (D5 m),Ag m.p (Cg m.cs)]) (tg λ(k:Nat) (a:Int)=>s1.pl.length-k) 0 (-1:Int) (⟨Nat.zero_le _,.inl ⟨rfl,λj hj=>absurd hj (Nat.not_lt_zero _)⟩⟩) (sF O) sr (λk a hJ=>?_)
    obtain ⟨hk,ha⟩:=hJ
    refine AF.seq (q4 (AO O (AO O (AH (v:=(vN s1.pl.length)) (AG O underlying158) O (AH (Af (c:=(decide (k<s1.pl.length))) O O (C1 (a:=k) (b:=s1.pl.length))) O ?_)))))
    refine AE.nil (AC.subF (sL [1,2,3,5,6,7,8,4,9,11,10,49] O) (AC.then_ ?_))
    refine AF.cond O (λhc2=>?_) (λhc2=>?_)
    ·replace hc2:=of_decide_eq_true hc2
     refine AF.skip (q1 (AF.block (AF.seq (C2 [(0,true),(1,true),(2,true),(3,true),(4,true),(5,true)] sr (Bm O ?_)))))
     refine Bm O (Ay (v:=(pP (pB s1.p1) (pO s1.p1+k*2))) O (AR (j:=k) O O hs1.o1.row underlying158 sizeOf147 O Z) (Ay (v:=(aG (A6 (s1.pl.getD k ((0,0):P2))))) O (CR (vs:=A6 (s1.pl.getD k ((0,0):P2))) (i:=4) O O hs1.o1 (Am CZ _) (BO.ne hs1.o1.row Z) Bh (Ar CZ _ _ _ Z) (CZ _)) (EH 0 Bh O (Ay O (Bq (c:=decide (s1.pl.getD k ((0,0):P2)=(Ap m i 1))) O O eqGuardType147 (Kx 9998 (s1.pl.getD k ((0,0):P2)) (Ap m i 1))) (AS.nil ?_)))))
     refine AC.subF (sL [1,2,3,5,6,7,8,4,9,11,10,57] O) (AC.then_ ?_)
     refine AF.cond O (λhc3=>?_) (λhc3=>?_)
     ·replace hc3:=of_decide_eq_true hc3
      refine AF.region (AO O (AK O (AE.nil (AC.subF (sL [1,2,3,5,6,7,8,4,9,11,10] O) (AC.in_normal ?_)))))
      refine AC.then_ (AF.region (AO O (AH (AW (c:=((k+1:Nat):Int)) O O (AZ (a:=k) (b:=1) Z)) O (AK O (AE.nil ?_)))))
      exact AC.subF (sL [1,2,3,5,6,7,8,4,9,11,10] O) (AC.round2 (k+1) (k:Int) (⟨Z,.inr ⟨Z,Z,by simpa using hc3⟩⟩) Z (sF O) sr)
     ·replace hc3:=of_decide_eq_false hc3
      refine AF.skip (AC.in_normal (AC.then_ (AF.region (AO O (AH (AW (c:=((k+1:Nat):Int)) O O (AZ (a:=k) (b:=1) Z)) O ?_)))))
      exact AK O (AE.nil (AC.subF (sL [1,2,3,5,6,7,8,4,9,11,10] O) (AC.round2 (k+1) a (⟨Z,ha.elim (λh=>.inl ⟨h.1,λj hj=>by rcases Nat.lt_or_ge j k with h1|h1;exact h.2 j h1;(obtain rfl:j=k:=by omega);simpa using hc3⟩) (λh=>.inr ⟨h.1,Z,h.2.2⟩)⟩) Z (sF O) sr)))
    ·replace hc2:=of_decide_eq_false hc2
     refine AF.exit (AC.then_exit (AC.round2_exit (AC.in_exit (q1 (q4 ?_)))))
     refine AO O (AH (Af (c:=(decide (a<(0:Int)))) O O O) O (AE.nil (AC.subF (sL [1,2,3,5,6,7,8,4,9,11,10,60] O) (AC.then_ ?_))))
     refine AF.jn2 (tg λ(s2:WS) (n2:Nat)=>WS.Ok s2/\FD s1.pl (WS.pl s2)/\(WS.pl s2).length<=s1.pl.length+1/\n2<(WS.pl s2).length/\(WS.pl s2).getD n2 (0,0)=Ap m i 1/\∀a,a<(WS.pl s2).length->a<s1.pl.length\/a=n2) (tg λ(s2:WS) (n2:Nat)=>[(1,(pP b1 0)),(2,(pP b2 0)),(3,(pP b3 0)),(5,(Value.slice gc.p ((BL m).length) gc.c)),(6,(vN i)),(7,(pP b4 0)),(8,(vI 1)),(10,(vN n2)),(4,(Value.slice s2.p1 s2.pl.length s2.c1))]) (tg λ(s2:WS) (n2:Nat)=>[Ae b6 147 (A6 (Ap m i 1)),Ae b5 147 (A6 (Ap m i 0)),Ae b4 79 ([(vN n1),(vI 0),(vI 0)]),Ag gc.p (rowsL A9 (BL m)),rowW s2.p1 147 2 s2.pl.length s2.c1 (rowsL A6 s2.pl),rowW none 79 3 0 0 (rowsL An ([])),rowW p3 79 3 ts.length c3 (rowsL An ts),rowW s2.p2 121 2 s2.pl.length s2.c2 (rowsL CD (s2.pts m)),Ae b3 119 ([(Value.slice s2.p2 s2.pl.length s2.c2),(Value.slice p3 ts.length c3),(Value.slice none 0 0)]),Ae b2 119 ([(Value.slice none 0 0),(Value.slice none 0 0),(Value.slice none 0 0)]),Ae b1 50 (D5 m),Ag m.p (Cg m.cs)]) ?_ ?_
     ·skip
      refine AF.cond O (λhc4=>?_) (λhc4=>?_)
      ·replace hc4:=of_decide_eq_true hc4
       refine q4 (AO O (AH (v:=(vN s1.pl.length)) (AG O underlying158) O (AK O (q3 (sL [1,2,3,5,6,7,8,4,9,11,10] O) (AO O ?_)))))
       refine BA 0 Bh O (AE.openV (V:=λb7=>(Value.slice (some ⟨b7,0,none⟩) 1 1)) (T:=147) (cs:=A6 (Ap m i 1)) (AP O) (A_ (z:=.agg (A6 ((0,0):P2)).toArray) (cs:=A6 (Ap m i 1)) (pv:=[(0,(aG (A6 (Ap m i 1))))]) underlying158 sizeOf147 zeroValue147 (by decide) (by decide) O (Dv (Ap m i 1))) O (Ad O) λb7=>AE.appendAt 5 (j:=0) (cs2:=rowsL A6 (s1.pl++[(Ap m i 1)])) Qs O hs1.o1 (Am CZ _) O O O O O (by decide) (Jc Z) Z (by rw [BW];rfl) O λp_3 c_3 ho_3 hne_3=>AK O (AE.nil (AC.subF (sL [1,2,3,5,6,7,8,4,9,11,10] O) ?_)))
       refine AC.then_ (rC [(0,true),(1,true),(2,true),(3,true),(4,false),(5,false),(6,false),(7,true)] 8 [] (sk (sk (sk (sk (sk (sk (sk (sk (sl sr))))))))) (sk (sk (sk (sk (sk (sk (sk (sk (sl sr))))))))) (by kernel_rfl) (λ_ _ d _ _ h=>by cases d<;>exact h) (vE (v:=(pP b3 0)) O (AA O underlying119 O sizeOf117 O) O (vE O (AM (i:=8) (v:=(Value.slice s1.p2 s1.pl.length s1.c2)) O O Jy.a O) O (vE (v:=(aG (D5 m))) O (Ak (i:=10) (vs:=D5 m) O O K4.a K4.s O O) O (vE (v:=(aG (A6 (Ap m i 1)))) O (Ak (i:=1) (vs:=A6 (Ap m i 1)) O O Bh.a Bh.s O O) O ?_)))))
       refine CG.imp O (D1 call88 (λw hw=>HL m (Ap m i 1) (Dh Z) w (Dz hw 12 O lm)) O (CG.back (sk (sk (sk (sk (sk (sk (sk (sk (sl sr))))))))) (CG.imp O (AE.openV (V:=λb8=>(Value.slice (some ⟨b8,0,none⟩) 1 1)) (T:=121) (cs:=CD ((mapM m).at_ (Ap m i 1))) (AP O) (A_ (z:=.agg (CD ((0,0):Int×Int)).toArray) (cs:=CD ((mapM m).at_ (Ap m i 1))) (pv:=[(0,(aG (CD ((mapM m).at_ (Ap m i 1)))))]) underlying117 sizeOf121 zeroValue121 (by decide) (by decide) O (D0 ((mapM m).at_ (Ap m i 1)))) O (Ad O) λb8=>CG.back (sl (sk (sk (sk (sk (sk (sk (sk (sk (sl sr)))))))))) ?_))))
       refine CG.imp O (AE.appendAt 9 (j:=0) (cs2:=rowsL CD ((s1.pts m)++[((mapM m).at_ (Ap m i 1))])) Q1 O hs1.o2 (by rw [Am Ew];simp [WS.pts]) O O O O O (by decide) (Jc Z) Z (by rw [BW];rfl) O λp_4 c_4 ho_4 hne_4=>CG.back (sl (sk (sk (sk (sk (sk (sk (sk (sk (sl sr)))))))))) (vE (v:=(pP b3 0)) O (AA O underlying119 O sizeOf117 O) O (CG.cut O (Fc 10 (off:=0) (vs:=[(Value.slice p_4 (s1.pl.length+1) c_4)]) (cs':=[(Value.slice p_4 (s1.pl.length+1) c_4),(Value.slice p3 ts.length c3),(Value.slice none 0 0)]) (AP O) O sizeOf117 O ?_))))
       refine AS.back (sl (sk (sk (sk (sk (sk (sk (sk (sk (sl (sl sr))))))))))) (AS.nil (AC.subF (sL [1,2,3,5,6,7,8,4,9,11,10] O) ?_))
       rw [show s1.pl.length+1=(s1.pl++[Ap m i 1]).length by simp]
       rw [show s1.pts m++[(mapM m).at_ (Ap m i 1)]=WS.pts (WS.mk (s1.pl++[Ap m i 1]) p_3 c_3 p_4 c_4) m by simp [WS.pts]]
       exact AC.join2 (WS.mk (s1.pl++[Ap m i 1]) p_3 c_3 p_4 c_4) s1.pl.length (⟨⟨(by simpa using ho_3),(by simpa using ho_4),λp hp=>(List.mem_append.1 hp).elim (hs1.small p) (λe=>by rw [List.mem_singleton.1 e];exact Dh Z),Is hs1.dst (λj hj=>(ha.elim id (λh=>absurd h.1 Z)).2 j Z)⟩,FD.snoc _ _,by simp,by simp,Cr _ _,λa ha=>by simp only [List.length_append,List.length_singleton] at ha;omega⟩) (sF O) (sl (sl sr))
      ·replace hc4:=of_decide_eq_false hc4
       refine AF.retell (k:=10) (u:=(vN a.toNat)) O (by show Value.int _ _=Value.int _ _;congr 1;omega) (AF.skip ?_)
       obtain ⟨ha1,ha2,ha3⟩:=ha.resolve_left (λh=>by have:=h.1;omega)
       exact AC.join2 s1 a.toNat (⟨hs1,FD.refl _,Z,Z,ha3,λa ha=>.inl ha⟩) (sF O) sr
     ·intro s2 n2 hJ
      obtain ⟨hs2,hm2,hl2,hn2,hg2,hu2⟩:=hJ
      refine AC.then_ (AF.region (AO O (AO O (AH (v:=(pP b4 1)) (AD (j:=1) O O underlying79 sizeOf3 O (by decide) O) O (Fc 2 (off:=1) (vs:=[(vN n2)]) (cs':=[(vN n1),(vN n2),(vI 0)]) (AP O) O sizeOf3 O ?_)))))
      refine AE.nil (AC.subF (sL [1,2,3,5,6,7,8,10,4] O) (AC.in_normal (AC.then_ (AF.region (AO O ?_)))))
      refine AH (AW (c:=(2:Int)) O O (by decide)) O (AK O (AE.nil (AC.subF (sL [1,2,3,5,6,7,8,10,4] O) (AC.again (Eb.step ?_)))))
      refine AF.seq (q4 (AO O (AH (Af (c:=true) O O (by decide)) O (AE.nil (AC.subF (sL [1,2,3,5,6,7,8,10,4,25] O) ?_)))))
      refine AC.then_ (AF.cond_true O (AF.skip (q1 (AF.block (AF.seq ?_)))))
      refine C2 [(0,true),(1,true),(2,true),(3,true),(4,true),(5,true),(6,true),(7,true),(8,true),(9,true),(10,true),(11,true),(12,true),(13,true),(14,true),(15,true),(16,true),(17,true),(18,false),(19,false)] sr (Bm O (Bm O (Bm O (Ay (v:=(pP b1 8)) O (AA O underlying50 O sizeOf5 O) (Bl 10 (vK .u8 m.fst) RD O ?_)))))
      refine Ay O (Au (c:=((m.fst:Nat):Int)) O underlying5 underlying3 (CB Z)) (Ay O (AW (c:=((2+m.fst:Nat):Int)) O O (AZ (a:=2) (b:=m.fst) Z)) (Bm O (Ay (v:=(pP b1 8)) O (AA O underlying50 O sizeOf5 O) (Bl 10 (vK .u8 m.fst) RD O (Ay O (Fq (c:=((m.fst/3:Nat):Int)) O O Z (Ks (a:=m.fst) (b:=3) Z)) ?_)))))
      refine Ay O (Au (c:=((m.fst/3:Nat):Int)) O underlying5 underlying3 (CB Z)) ?_
      have hmul:i*(m.fst/3)<=36*85:=Nat.mul_le_mul Z hf3
      refine Ay O (Bk (c:=((i*(m.fst/3):Nat):Int)) O O (Cc (a:=i) (b:=m.fst/3) Z)) (Ay O (AW (c:=(((2+m.fst)+(i*(m.fst/3)):Nat):Int)) O O (AZ (a:=2+m.fst) (b:=i*(m.fst/3)) Z)) ?_)
      obtain ⟨r9,hr9⟩:∃r,r=Oy m i 2:=⟨_,rfl⟩
      have hr3:r9<3:=by rw [hr9];exact Nat.mod_lt _ (by decide)
      refine Ay O (Bz (c:=((r9:Nat):Int)) O O (by decide) (by rw [hr9];exact HF (a:=2+m.fst+i*(m.fst/3)) (b:=3))) (Ay (v:=(pP (pB gc.p) (pO gc.p+i*6))) O (AR (j:=i) O O gc.ok underlying159 sizeOf161 O Z) (Ay (v:=(pP (pB gc.p) (pO gc.p+(i*6+r9*2)))) O (AD (j:=r9) O O underlying161 sizeOf147 O hr3 (Nat.add_assoc _ _ _)) (Ay (v:=(aG (A6 (Ap m i 2)))) O (AU (vs:=A6 (Ap m i 2)) (i:=3) O O (BO.ne gc.ok Z) Bh (G9 _ i r9 Z hr3 _ O _ (by rw [hr9];rfl)) O) (AS.imp O (al Hb O λb7=>?_)))))
      refine AS.back (sl sr) (AS.imp O (Av O sizeOf147 O (AS.back (sl sr) (AS.nil (AC.subF (sL [1,2,3,5,6,7,8,10,4,9] O) ?_)))))
      refine q2 (AK O (AE.nil (q1 (q4 (AK O ?_)))))
      refine AE.nil (AC.then_ (AF.block ?_))
      refine AF.lp2 (tg λ(k:Nat) (a:Int)=>k<=s2.pl.length/\((a = -1/\∀j,j<k->s2.pl.getD j (0,0)≠Ap m i 2)\/0<=a/\a<(k:Int)/\s2.pl.getD (Int.toNat a) (0,0)=Ap m i 2)) (tg λ(k:Nat) (a:Int)=>[(1,(pP b1 0)),(2,(pP b2 0)),(3,(pP b3 0)),(5,(Value.slice gc.p ((BL m).length) gc.c)),(6,(vN i)),(7,(pP b4 0)),(8,(vI 2)),(4,(Value.slice s2.p1 s2.pl.length s2.c1)),(9,(pP b7 0)),(11,(vN k)),(10,(vI a))]) (tg λ(k:Nat) (a:Int)=>[Ae b7 147 (A6 (Ap m i 2)),Ae b6 147 (A6 (Ap m i 1)),Ae b5 147 (A6 (Ap m i 0)),Ae b4 79 ([(vN n1),(vN n2),(vI 0)]),Ag gc.p (rowsL A9 (BL m)),rowW s2.p1 147 2 s2.pl.length s2.c1 (rowsL A6 s2.pl),rowW none 79 3 0 0 (rowsL An ([])),rowW p3 79 3 ts.length c3 (rowsL An ts),rowW s2.p2 121 2 s2.pl.length s2.c2 (rowsL CD (s2.pts m)),Ae b3 119 ([(Value.slice s2.p2 s2.pl.length s2.c2),(Value.slice p3 ts.length c3),(Value.slice none 0 0)]),Ae b2 119 ([(Value.slice none 0 0),(Value.slice none 0 0),(Value.slice none 0 0)]),Ae b1 50 (D5 m),Ag m.p (Cg m.cs)]) (tg λ(k:Nat) (a:Int)=>s2.pl.length-k) 0 (-1:Int) (⟨Nat.zero_le _,.inl ⟨rfl,λj hj=>absurd hj (Nat.not_lt_zero _)⟩⟩) (sF O) sr (λk a hJ=>?_)
      obtain ⟨hk,ha⟩:=hJ
      refine AF.seq (q4 (AO O (AO O (AH (v:=(vN s2.pl.length)) (AG O underlying158) O (AH (Af (c:=(decide (k<s2.pl.length))) O O (C1 (a:=k) (b:=s2.pl.length))) O ?_)))))
      refine AE.nil (AC.subF (sL [1,2,3,5,6,7,8,4,9,11,10,49] O) (AC.then_ ?_))
      refine AF.cond O (λhc2=>?_) (λhc2=>?_)
      ·replace hc2:=of_decide_eq_true hc2
       refine AF.skip (q1 (AF.block (AF.seq (C2 [(0,true),(1,true),(2,true),(3,true),(4,true),(5,true)] sr (Bm O ?_)))))
       refine Bm O (Ay (v:=(pP (pB s2.p1) (pO s2.p1+k*2))) O (AR (j:=k) O O hs2.o1.row underlying158 sizeOf147 O Z) (Ay (v:=(aG (A6 (s2.pl.getD k ((0,0):P2))))) O (CR (vs:=A6 (s2.pl.getD k ((0,0):P2))) (i:=5) O O hs2.o1 (Am CZ _) (BO.ne hs2.o1.row Z) Bh (Ar CZ _ _ _ Z) (CZ _)) (EH 0 Bh O (Ay O (Bq (c:=decide (s2.pl.getD k ((0,0):P2)=(Ap m i 2))) O O eqGuardType147 (Kx 9998 (s2.pl.getD k ((0,0):P2)) (Ap m i 2))) (AS.nil ?_)))))
       refine AC.subF (sL [1,2,3,5,6,7,8,4,9,11,10,57] O) (AC.then_ ?_)
       refine AF.cond O (λhc3=>?_) (λhc3=>?_)
       ·replace hc3:=of_decide_eq_true hc3
        refine AF.region (AO O (AK O (AE.nil (AC.subF (sL [1,2,3,5,6,7,8,4,9,11,10] O) (AC.in_normal ?_)))))
        refine AC.then_ (AF.region (AO O (AH (AW (c:=((k+1:Nat):Int)) O O (AZ (a:=k) (b:=1) Z)) O (AK O (AE.nil ?_)))))
        exact AC.subF (sL [1,2,3,5,6,7,8,4,9,11,10] O) (AC.round2 (k+1) (k:Int) (⟨Z,.inr ⟨Z,Z,by simpa using hc3⟩⟩) Z (sF O) sr)
       ·replace hc3:=of_decide_eq_false hc3
        refine AF.skip (AC.in_normal (AC.then_ (AF.region (AO O (AH (AW (c:=((k+1:Nat):Int)) O O (AZ (a:=k) (b:=1) Z)) O ?_)))))
        exact AK O (AE.nil (AC.subF (sL [1,2,3,5,6,7,8,4,9,11,10] O) (AC.round2 (k+1) a (⟨Z,ha.elim (λh=>.inl ⟨h.1,λj hj=>by rcases Nat.lt_or_ge j k with h1|h1;exact h.2 j h1;(obtain rfl:j=k:=by omega);simpa using hc3⟩) (λh=>.inr ⟨h.1,Z,h.2.2⟩)⟩) Z (sF O) sr)))
      ·replace hc2:=of_decide_eq_false hc2
       refine AF.exit (AC.then_exit (AC.round2_exit (AC.in_exit (q1 (q4 ?_)))))
       refine AO O (AH (Af (c:=(decide (a<(0:Int)))) O O O) O (AE.nil (AC.subF (sL [1,2,3,5,6,7,8,4,9,11,10,60] O) (AC.then_ ?_))))
       refine AF.jn2 (tg λ(s3:WS) (n3:Nat)=>WS.Ok s3/\FD s2.pl (WS.pl s3)/\(WS.pl s3).length<=s2.pl.length+1/\n3<(WS.pl s3).length/\(WS.pl s3).getD n3 (0,0)=Ap m i 2/\∀a,a<(WS.pl s3).length->a<s2.pl.length\/a=n3) (tg λ(s3:WS) (n3:Nat)=>[(1,(pP b1 0)),(2,(pP b2 0)),(3,(pP b3 0)),(5,(Value.slice gc.p ((BL m).length) gc.c)),(6,(vN i)),(7,(pP b4 0)),(8,(vI 2)),(10,(vN n3)),(4,(Value.slice s3.p1 s3.pl.length s3.c1))]) (tg λ(s3:WS) (n3:Nat)=>[Ae b7 147 (A6 (Ap m i 2)),Ae b6 147 (A6 (Ap m i 1)),Ae b5 147 (A6 (Ap m i 0)),Ae b4 79 ([(vN n1),(vN n2),(vI 0)]),Ag gc.p (rowsL A9 (BL m)),rowW s3.p1 147 2 s3.pl.length s3.c1 (rowsL A6 s3.pl),rowW none 79 3 0 0 (rowsL An ([])),rowW p3 79 3 ts.length c3 (rowsL An ts),rowW s3.p2 121 2 s3.pl.length s3.c2 (rowsL CD (s3.pts m)),Ae b3 119 ([(Value.slice s3.p2 s3.pl.length s3.c2),(Value.slice p3 ts.length c3),(Value.slice none 0 0)]),Ae b2 119 ([(Value.slice none 0 0),(Value.slice none 0 0),(Value.slice none 0 0)]),Ae b1 50 (D5 m),Ag m.p (Cg m.cs)]) ?_ ?_
       ·skip
        refine AF.cond O (λhc4=>?_) (λhc4=>?_)
        ·replace hc4:=of_decide_eq_true hc4
         refine q4 (AO O (AH (v:=(vN s2.pl.length)) (AG O underlying158) O (AK O (q3 (sL [1,2,3,5,6,7,8,4,9,11,10] O) (AO O ?_)))))
         refine BA 0 Bh O (AE.openV (V:=λb8=>(Value.slice (some ⟨b8,0,none⟩) 1 1)) (T:=147) (cs:=A6 (Ap m i 2)) (AP O) (A_ (z:=.agg (A6 ((0,0):P2)).toArray) (cs:=A6 (Ap m i 2)) (pv:=[(0,(aG (A6 (Ap m i 2))))]) underlying158 sizeOf147 zeroValue147 (by decide) (by decide) O (Dv (Ap m i 2))) O (Ad O) λb8=>AE.appendAt 6 (j:=0) (cs2:=rowsL A6 (s2.pl++[(Ap m i 2)])) Qs O hs2.o1 (Am CZ _) O O O O O (by decide) (Jc Z) Z (by rw [BW];rfl) O λp_5 c_5 ho_5 hne_5=>AK O (AE.nil (AC.subF (sL [1,2,3,5,6,7,8,4,9,11,10] O) ?_)))
         refine AC.then_ (rC [(0,true),(1,true),(2,true),(3,true),(4,false),(5,false),(6,false),(7,true)] 8 [] (sk (sk (sk (sk (sk (sk (sk (sk (sk (sl sr)))))))))) (sk (sk (sk (sk (sk (sk (sk (sk (sk (sl sr)))))))))) (by kernel_rfl) (λ_ _ d _ _ h=>by cases d<;>exact h) (vE (v:=(pP b3 0)) O (AA O underlying119 O sizeOf117 O) O (vE O (AM (i:=9) (v:=(Value.slice s2.p2 s2.pl.length s2.c2)) O O Jy.a O) O (vE (v:=(aG (D5 m))) O (Ak (i:=11) (vs:=D5 m) O O K4.a K4.s O O) O (vE (v:=(aG (A6 (Ap m i 2)))) O (Ak (i:=1) (vs:=A6 (Ap m i 2)) O O Bh.a Bh.s O O) O ?_)))))
         refine CG.imp O (D1 call88 (λw hw=>HL m (Ap m i 2) (Dh Z) w (Dz hw 13 O lm)) O (CG.back (sk (sk (sk (sk (sk (sk (sk (sk (sk (sl sr)))))))))) (CG.imp O (AE.openV (V:=λb9=>(Value.slice (some ⟨b9,0,none⟩) 1 1)) (T:=121) (cs:=CD ((mapM m).at_ (Ap m i 2))) (AP O) (A_ (z:=.agg (CD ((0,0):Int×Int)).toArray) (cs:=CD ((mapM m).at_ (Ap m i 2))) (pv:=[(0,(aG (CD ((mapM m).at_ (Ap m i 2)))))]) underlying117 sizeOf121 zeroValue121 (by decide) (by decide) O (D0 ((mapM m).at_ (Ap m i 2)))) O (Ad O) λb9=>CG.back (sl (sk (sk (sk (sk (sk (sk (sk (sk (sk (sl sr))))))))))) ?_))))
         refine CG.imp O (AE.appendAt 10 (j:=0) (cs2:=rowsL CD ((s2.pts m)++[((mapM m).at_ (Ap m i 2))])) Q1 O hs2.o2 (by rw [Am Ew];simp [WS.pts]) O O O O O (by decide) (Jc Z) Z (by rw [BW];rfl) O λp_6 c_6 ho_6 hne_6=>CG.back (sl (sk (sk (sk (sk (sk (sk (sk (sk (sk (sl sr))))))))))) (vE (v:=(pP b3 0)) O (AA O underlying119 O sizeOf117 O) O (CG.cut O (Fc 11 (off:=0) (vs:=[(Value.slice p_6 (s2.pl.length+1) c_6)]) (cs':=[(Value.slice p_6 (s2.pl.length+1) c_6),(Value.slice p3 ts.length c3),(Value.slice none 0 0)]) (AP O) O sizeOf117 O ?_))))
         refine AS.back (sl (sk (sk (sk (sk (sk (sk (sk (sk (sk (sl (sl sr)))))))))))) (AS.nil (AC.subF (sL [1,2,3,5,6,7,8,4,9,11,10] O) ?_))
         rw [show s2.pl.length+1=(s2.pl++[Ap m i 2]).length by simp]
         rw [show s2.pts m++[(mapM m).at_ (Ap m i 2)]=WS.pts (WS.mk (s2.pl++[Ap m i 2]) p_5 c_5 p_6 c_6) m by simp [WS.pts]]
         exact AC.join2 (WS.mk (s2.pl++[Ap m i 2]) p_5 c_5 p_6 c_6) s2.pl.length (⟨⟨(by simpa using ho_5),(by simpa using ho_6),λp hp=>(List.mem_append.1 hp).elim (hs2.small p) (λe=>by rw [List.mem_singleton.1 e];exact Dh Z),Is hs2.dst (λj hj=>(ha.elim id (λh=>absurd h.1 Z)).2 j Z)⟩,FD.snoc _ _,by simp,by simp,Cr _ _,λa ha=>by simp only [List.length_append,List.length_singleton] at ha;omega⟩) (sF O) (sl (sl sr))
        ·replace hc4:=of_decide_eq_false hc4
         refine AF.retell (k:=10) (u:=(vN a.toNat)) O (by show Value.int _ _=Value.int _ _;congr 1;omega) (AF.skip ?_)
         obtain ⟨ha1,ha2,ha3⟩:=ha.resolve_left (λh=>by have:=h.1;omega)
         exact AC.join2 s2 a.toNat (⟨hs2,FD.refl _,Z,Z,ha3,λa ha=>.inl ha⟩) (sF O) sr
       ·intro s3 n3 hJ
        obtain ⟨hs3,hm3,hl3,hn3,hg3,hu3⟩:=hJ
        refine AC.then_ (AF.region (AO O (AO O (AH (v:=(pP b4 2)) (AD (j:=2) O O underlying79 sizeOf3 O (by decide) O) O (Fc 3 (off:=2) (vs:=[(vN n3)]) (cs':=[(vN n1),(vN n2),(vN n3)]) (AP O) O sizeOf3 O ?_)))))
        refine AE.nil (AC.subF (sL [1,2,3,5,6,7,8,10,4] O) (AC.in_normal (AC.then_ (AF.region (AO O ?_)))))
        refine AH (AW (c:=(3:Int)) O O (by decide)) O (AK O (AE.nil (AC.subF (sL [1,2,3,5,6,7,8,10,4] O) (AC.again (Eb.step ?_)))))
        refine AF.seq (q4 (AO O (AH (Af (c:=false) O O (by decide)) O (AE.nil (AC.subF (sL [1,2,3,5,6,7,8,10,4,25] O) ?_)))))
        refine AC.then_ (AF.cond_false O (AF.exit (AC.then_exit (AC.then_exit (AC.in_exit ?_)))))
        refine AC.then_ (AF.region (AH (v:=(pP b3 1)) (AA O underlying119 O sizeOf23 O) O (BJ 9 (Value.slice p3 ts.length c3) DV O (BA 3 H0 O (AE.openV (V:=λb8=>(Value.slice (some ⟨b8,0,none⟩) 1 1)) (T:=79) (cs:=An (n1,n2,n3)) (AP O) (A_ (z:=.agg (An ((0,0,0):Nat×Nat×Nat)).toArray) (cs:=An (n1,n2,n3)) (pv:=[(0,(aG ([(vN n1),(vN n2),(vN n3)])))]) underlying23 sizeOf79 zeroValue79 (by decide) (by decide) O (Fj (n1,n2,n3))) O (Ad O) λb8=>?_)))))
        refine AE.appendAt 8 (j:=0) (cs2:=rowsL An (ts++[(n1,n2,n3)])) Uo O h3 (Am BI _) O O O O O (by decide) (Jc Z) Z (by rw [BW];rfl) O λp_7 c_7 ho_7 hne_7=>AH (v:=(pP b3 1)) (AA O underlying119 O sizeOf23 O) O (Fc 10 (off:=1) (vs:=[(Value.slice p_7 (ts.length+1) c_7)]) (cs':=[(Value.slice s3.p2 s3.pl.length s3.c2),(Value.slice p_7 (ts.length+1) c_7),(Value.slice none 0 0)]) (AP O) O sizeOf23 O (AE.nil (AC.subF (sL [1,2,3,5,6,7,8,10,4] O) (AC.in_normal ?_))))
        refine AC.then_ (AF.region (AO O (AH (AW (c:=((i+1:Nat):Int)) O O (AZ (a:=i) (b:=1) Z)) O (AK O (AE.nil ?_)))))
        refine AC.subF (sL [1,2,3,5,6,7,8,10,4] O) ?_
        rw [show ts.length+1=(ts++[(n1,n2,n3)]).length by simp]
        exact AC.round5 (i+1) s3 p_7 c_7 (ts++[(n1,n2,n3)]) (⟨Z,hs3,(by simpa using ho_7),hv.step ((hm1.trans hm2).trans hm3) Z hs3.small ⟨⟨by show n1<_;have:=hm2.1;have:=hm3.1;omega,(hm3.2 _ (by have:=hm2.1;omega)).trans ((hm2.2 _ Z).trans hg1)⟩,⟨by show n2<_;have:=hm3.1;omega,(hm3.2 _ Z).trans hg2⟩,⟨by show n3<_;omega,hg3⟩⟩ (λa ha=>by rcases hu3 a ha with h|h;(rcases hu2 a h with h|h;(rcases hu1 a h with h|h;exact .inl h;exact .inr (.inl h.symm));exact .inr (.inr (.inl h.symm)));exact .inr (.inr (.inr h.symm)))⟩) Z (sF O) (sl (sl (sl (sl (sl sr)))))
 ·replace hc0:=of_decide_eq_false hc0
  have hi9:i=(BL m).length:=by omega
  rw [hi9] at hv
  refine AF.exit (AC.then_exit (AC.round5_exit (AC.in_exit (q1 (q4 ?_)))))
  refine AK O (AE.nil (AC.then_ (AF.block ?_)))
  refine AF.lp4 (tg λ(ai:Nat) (p4:Option Addr) (c4:Nat) (ss:List (Nat×Nat×Nat))=>ai<=s.pl.length/\OwnOk p4 ss.length c4/\ss.length<=ai*108/\ss=JD m ts s.pl.length ai) (tg λ(ai:Nat) (p4:Option Addr) (c4:Nat) (ss:List (Nat×Nat×Nat))=>[(1,(pP b1 0)),(2,(pP b2 0)),(3,(pP b3 0)),(4,(Value.slice s.p1 s.pl.length s.c1)),(12,(vN ai))]) (tg λ(ai:Nat) (p4:Option Addr) (c4:Nat) (ss:List (Nat×Nat×Nat))=>[Ag gc.p (rowsL A9 (BL m)),rowW s.p1 147 2 s.pl.length s.c1 (rowsL A6 s.pl),rowW p4 79 3 ss.length c4 (rowsL An ss),rowW p3 79 3 ts.length c3 (rowsL An ts),rowW s.p2 121 2 s.pl.length s.c2 (rowsL CD (s.pts m)),Ae b3 119 ([(Value.slice s.p2 s.pl.length s.c2),(Value.slice p3 ts.length c3),(Value.slice p4 ss.length c4)]),Ae b2 119 ([(Value.slice none 0 0),(Value.slice none 0 0),(Value.slice none 0 0)]),Ae b1 50 (D5 m),Ag m.p (Cg m.cs)]) (tg λ(ai:Nat) (p4:Option Addr) (c4:Nat) (ss:List (Nat×Nat×Nat))=>s.pl.length-ai) 0 none 0 ([]:List (Nat×Nat×Nat)) (⟨Nat.zero_le _,OwnOk.none,by simp,rfl⟩) (sF O) sr (λai p4 c4 ss hJ=>?_)
  obtain ⟨hai,h4,hsl,hsd⟩:=hJ
  refine AF.seq (q4 (AO O (AO O (AH (v:=(vN s.pl.length)) (AG O underlying158) O (AH (Af (c:=(decide (ai<s.pl.length))) O O (C1 (a:=ai) (b:=s.pl.length))) O ?_)))))
  refine AE.nil (AC.subF (sL [1,2,3,4,12,87] O) (AC.then_ ?_))
  refine AF.cond O (λhc5=>?_) (λhc5=>?_)
  ·replace hc5:=of_decide_eq_true hc5
   refine AF.skip (q1 (AF.block (q4 (AO O (AH (AW (c:=((ai+1:Nat):Int)) O O (AZ (a:=ai) (b:=1) Z)) O ?_)))))
   refine AK O (AE.nil (AC.subF (sL [1,2,3,4,12,13] O) (AC.then_ (AF.block ?_))))
   refine AF.lp4 (tg λ(bi:Nat) (p5:Option Addr) (c5:Nat) (sq9:List (Nat×Nat×Nat))=>bi<=s.pl.length/\ai+1<=bi/\OwnOk p5 sq9.length c5/\sq9.length<=ai*108+bi/\sq9=JD m ts s.pl.length ai++Mx m ts ai (bi-(ai+1))) (tg λ(bi:Nat) (p5:Option Addr) (c5:Nat) (sq9:List (Nat×Nat×Nat))=>[(1,(pP b1 0)),(2,(pP b2 0)),(3,(pP b3 0)),(4,(Value.slice s.p1 s.pl.length s.c1)),(12,(vN ai)),(13,(vN bi))]) (tg λ(bi:Nat) (p5:Option Addr) (c5:Nat) (sq9:List (Nat×Nat×Nat))=>[Ag gc.p (rowsL A9 (BL m)),rowW s.p1 147 2 s.pl.length s.c1 (rowsL A6 s.pl),rowW p5 79 3 sq9.length c5 (rowsL An sq9),rowW p3 79 3 ts.length c3 (rowsL An ts),rowW s.p2 121 2 s.pl.length s.c2 (rowsL CD (s.pts m)),Ae b3 119 ([(Value.slice s.p2 s.pl.length s.c2),(Value.slice p3 ts.length c3),(Value.slice p5 sq9.length c5)]),Ae b2 119 ([(Value.slice none 0 0),(Value.slice none 0 0),(Value.slice none 0 0)]),Ae b1 50 (D5 m),Ag m.p (Cg m.cs)]) (tg λ(bi:Nat) (p5:Option Addr) (c5:Nat) (sq9:List (Nat×Nat×Nat))=>s.pl.length-bi) (ai+1) p4 c4 ss (⟨Z,Nat.le_refl _,h4,Z,by rw [hsd,Nat.sub_self];exact (List.append_nil _).symm⟩) (sF O) sr (λbi p5 c5 sq9 hJ=>?_)
   obtain ⟨hbi,hba,h5,hsr,hsq⟩:=hJ
   refine AF.seq (q4 (AO O (AO O (AH (v:=(vN s.pl.length)) (AG O underlying158) O (AH (Af (c:=(decide (bi<s.pl.length))) O O (C1 (a:=bi) (b:=s.pl.length))) O ?_)))))
   refine AE.nil (AC.subF (sL [1,2,3,4,12,13,95] O) (AC.then_ ?_))
   refine AF.cond O (λhc6=>?_) (λhc6=>?_)
   ·replace hc6:=of_decide_eq_true hc6
    refine AF.skip (q1 (AF.block (q4 (AK O (AE.nil ?_)))))
    refine q1 (q4 (AK O (AE.nil (AC.then_ (AF.block ?_)))))
    refine AF.lp2 (tg λ(ti:Nat) (cn:Nat)=>ti<=ts.length/\cn<=ti/\cn=KR ts ai bi ti) (tg λ(ti:Nat) (cn:Nat)=>[(1,(pP b1 0)),(2,(pP b2 0)),(3,(pP b3 0)),(4,(Value.slice s.p1 s.pl.length s.c1)),(12,(vN ai)),(13,(vN bi)),(15,(vN ti)),(14,(vN cn))]) (tg λ(ti:Nat) (cn:Nat)=>[Ag gc.p (rowsL A9 (BL m)),rowW s.p1 147 2 s.pl.length s.c1 (rowsL A6 s.pl),rowW p5 79 3 sq9.length c5 (rowsL An sq9),rowW p3 79 3 ts.length c3 (rowsL An ts),rowW s.p2 121 2 s.pl.length s.c2 (rowsL CD (s.pts m)),Ae b3 119 ([(Value.slice s.p2 s.pl.length s.c2),(Value.slice p3 ts.length c3),(Value.slice p5 sq9.length c5)]),Ae b2 119 ([(Value.slice none 0 0),(Value.slice none 0 0),(Value.slice none 0 0)]),Ae b1 50 (D5 m),Ag m.p (Cg m.cs)]) (tg λ(ti:Nat) (cn:Nat)=>ts.length-ti) 0 0 (⟨Nat.zero_le _,Nat.le_refl _,rfl⟩) (sF O) sr (λti cn hJ=>?_)
    obtain ⟨hti,hcn,hcw⟩:=hJ
    refine AF.seq (q4 (AO O (AH (v:=(pP b3 1)) (AA O underlying119 O sizeOf23 O) O (BJ 5 (Value.slice p3 ts.length c3) DV O (AH (v:=(vN ts.length)) (AG O underlying23) O ?_)))))
    refine AH (Af (c:=(decide (ti<ts.length))) O O (C1 (a:=ti) (b:=ts.length))) O (AE.nil (AC.subF (sL [1,2,3,4,12,13,15,14,102] O) (AC.then_ ?_)))
    refine AF.cond O (λhc7=>?_) (λhc7=>?_)
    ·replace hc7:=of_decide_eq_true hc7
     refine AF.skip (q1 (AF.block (q4 (AH (v:=(pP b3 1)) (AA O underlying119 O sizeOf23 O) O (BJ 5 (Value.slice p3 ts.length c3) DV O ?_)))))
     refine AO O (AH (v:=(pP (pB p3) (pO p3+ti*3))) (AR (j:=ti) O O h3.row underlying23 sizeOf79 O Z) O (AH (v:=(aG (An (ts.getD ti ((0,0,0):Nat×Nat×Nat))))) (CR (vs:=An (ts.getD ti ((0,0,0):Nat×Nat×Nat))) (i:=3) O O h3 (Am BI _) (BO.ne h3.row Z) H0 (Ar BI _ _ _ Z) (BI _)) O (AO O (BS call89 (Pw (ts.getD ti ((0,0,0):Nat×Nat×Nat)) ai) O (AO O ?_)))))
     refine AE.mid (FM:=[(1,(pP b1 0)),(2,(pP b2 0)),(3,(pP b3 0)),(4,(Value.slice s.p1 s.pl.length s.c1)),(12,(vN ai)),(13,(vN bi)),(15,(vN ti)),(14,(vN cn)),(105,(pP b3 1)),(106,(Value.slice p3 ts.length c3)),(107,(vN ti)),(108,(pP (pB p3) (pO p3+ti*3))),(109,(aG (An (ts.getD ti ((0,0,0):Nat×Nat×Nat))))),(110,(vN ai)),(111,(Value.bool (GK (ts.getD ti ((0,0,0):Nat×Nat×Nat)) ai))),(112,(Value.bool (GK (ts.getD ti ((0,0,0):Nat×Nat×Nat)) ai))),(120,(Value.bool ((GK (ts.getD ti ((0,0,0):Nat×Nat×Nat)) ai)&&(GK (ts.getD ti ((0,0,0):Nat×Nat×Nat)) bi))))]) (LM:=[Ag gc.p (rowsL A9 (BL m)),rowW s.p1 147 2 s.pl.length s.c1 (rowsL A6 s.pl),rowW p5 79 3 sq9.length c5 (rowsL An sq9),rowW p3 79 3 ts.length c3 (rowsL An ts),rowW s.p2 121 2 s.pl.length s.c2 (rowsL CD (s.pts m)),Ae b3 119 ([(Value.slice s.p2 s.pl.length s.c2),(Value.slice p3 ts.length c3),(Value.slice p5 sq9.length c5)]),Ae b2 119 ([(Value.slice none 0 0),(Value.slice none 0 0),(Value.slice none 0 0)]),Ae b1 50 (D5 m),Ag m.p (Cg m.cs)]) 8 ?_ ?_
     ·rcases Bool.eq_false_or_eq_true (GK (ts.getD ti ((0,0,0):Nat×Nat×Nat)) ai) with hg1|hg1
      ·skip
       refine AE.retell (k:=112) (u:=Value.bool true) O (by rw [hg1]) ?_
       have hg1':=hg1
       skip
       refine AE.step (v:=(pP b3 1)) (AB O) (AA O underlying119 O sizeOf23 O) O (Ad O) (AE.step (v:=(Value.slice p3 ts.length c3)) (AB O) (AM (i:=5) (v:=(Value.slice p3 ts.length c3)) O O DV.a O) O (Ad O) (AE.step (v:=(vN ti)) (AB O) (BB O) O (Ad O) (AE.step (v:=(pP (pB p3) (pO p3+ti*3))) (AB O) (AR (j:=ti) O O h3.row underlying23 sizeOf79 O Z) O (Ad O) (AE.step (v:=(aG (An (ts.getD ti ((0,0,0):Nat×Nat×Nat))))) (AB O) (CR (vs:=An (ts.getD ti ((0,0,0):Nat×Nat×Nat))) (i:=3) O O h3 (Am BI _) (BO.ne h3.row Z) H0 (Ar BI _ _ _ Z) (BI _)) O (Ad O) (AE.step (v:=(vN bi)) (AB O) (BB O) O (Ad O) ?_)))))
       exact AE.call (v:=(Value.bool (GK (ts.getD ti ((0,0,0):Nat×Nat×Nat)) bi))) (AB O) (Ao (args:=[(aG (An (ts.getD ti ((0,0,0):Nat×Nat×Nat)))),(vN bi)]) O O call89) (λw hw=>Pw (ts.getD ti ((0,0,0):Nat×Nat×Nat)) bi w) O (Ad O) (AH (v:=(Value.bool (GK (ts.getD ti ((0,0,0):Nat×Nat×Nat)) bi))) (Ai O O) O (AE.nil (AC.mid (sS O (sS O (sS O (sS O (sS O (sS O (sS O (sS O (sS O (sS O (sS O (sS O (sS O (sS O (sS O (sS (by first|rfl|(rw [hg1];rfl)|rw [hg1]) (sS (by first|rfl|(rw [hg1];rfl)|rw [hg1]) (sN)))))))))))))))))) (List.Sublist.refl _))))
      ·skip
       refine AE.retell (k:=112) (u:=Value.bool false) O (by rw [hg1]) ?_
       have hg1':=hg1
       skip
       refine AE.skip (AQ O) O (Ad O) (AE.skip (AQ O) O (Ad O) (AE.skip (AQ O) O (Ad O) (AE.skip (AQ O) O (Ad O) (AE.skip (AQ O) O (Ad O) (AE.skip (AQ O) O (Ad O) ?_)))))
       exact AE.skip (AQ O) O (Ad O) (AH (v:=(Value.bool false)) (AY O O) O (AE.nil (AC.mid (sS O (sS O (sS O (sS O (sS O (sS O (sS O (sS O (sS O (sS O (sS O (sS O (sS O (sS O (sS O (sS (by first|rfl|(rw [hg1];rfl)|rw [hg1]) (sS (by first|rfl|(rw [hg1];rfl)|rw [hg1]) (sN)))))))))))))))))) (List.Sublist.refl _))))
     refine AE.nil (AC.subF (sL [1,2,3,4,12,13,15,14,120] O) (AC.then_ ?_))
     refine AF.cond O (λhc8=>?_) (λhc8=>?_)
     ·simp only [Bool.and_eq_true,Bool.or_eq_true,Bool.and_eq_false_iff,Bool.or_eq_false_iff,Bool.not_eq_true',Bool.not_eq_false',decide_eq_true_eq,decide_eq_false_iff_not] at hc8
      refine AF.region (AO O (AH (AW (c:=((cn+1:Nat):Int)) O O (AZ (a:=cn) (b:=1) Z)) O (AK O (AE.nil (AC.subF (sL [1,2,3,4,12,13,15,14] O) ?_)))))
      refine AC.in_normal (AC.then_ (AF.region (AO O (AH (AW (c:=((ti+1:Nat):Int)) O O (AZ (a:=ti) (b:=1) Z)) O (AK O ?_)))))
      exact AE.nil (AC.subF (sL [1,2,3,4,12,13,15,14] O) (AC.round2 (ti+1) (cn+1) (⟨Z,Z,by rw [hcw];exact (Qg hc8).symm⟩) Z (sF O) sr))
     ·simp only [Bool.and_eq_true,Bool.or_eq_true,Bool.and_eq_false_iff,Bool.or_eq_false_iff,Bool.not_eq_true',Bool.not_eq_false',decide_eq_true_eq,decide_eq_false_iff_not] at hc8
      refine AF.skip (AC.in_normal (AC.then_ (AF.region (AO O (AH (AW (c:=((ti+1:Nat):Int)) O O (AZ (a:=ti) (b:=1) Z)) O ?_)))))
      exact AK O (AE.nil (AC.subF (sL [1,2,3,4,12,13,15,14] O) (AC.round2 (ti+1) cn (⟨Z,Z,by rw [hcw];exact (S4 hc8).symm⟩) Z (sF O) sr)))
    ·replace hc7:=of_decide_eq_false hc7
     have hte:ti=ts.length:=by omega
     rw [hte] at hcw
     refine AF.exit (AC.then_exit (AC.round2_exit (AC.in_exit (q2 (AO O ?_)))))
     refine AH (BQ (c:=(decide (cn=1))) O O (L9 (a:=cn) (b:=1))) O (AE.nil (AC.subF (sL [1,2,3,4,12,13,15,14,124] O) (AC.then_ ?_)))
     refine AF.cond O (λhc9=>?_) (λhc9=>?_)
     ·replace hc9:=of_decide_eq_true hc9
      refine AF.region (AH (v:=(pP b3 2)) (AA O underlying119 O sizeOf23 O) O (BJ 5 (Value.slice p5 sq9.length c5) DV O (AO O (AO O (AO O ?_)))))
      refine AO O (AH (Bk (c:=((3*bi:Nat):Int)) O O (Cc (a:=3) (b:=bi) Z)) O (AH (AW (c:=((ai+(3*bi):Nat):Int)) O O (AZ (a:=ai) (b:=3*bi) Z)) O (AH (v:=(pP b1 8)) (AA O underlying50 O sizeOf5 O) O (BJ 7 (vK .u8 m.fst) RD O (AH (Au (c:=((m.fst:Nat):Int)) O underlying5 underlying3 (CB Z)) O ?_)))))
      refine AH (AW (c:=(((ai+(3*bi))+m.fst:Nat):Int)) O O (AZ (a:=ai+(3*bi)) (b:=m.fst) Z)) O (AH (Bz (c:=((((ai+(3*bi))+m.fst)%5:Nat):Int)) O O Z (HF (a:=(ai+(3*bi))+m.fst) (b:=5))) O (AH (v:=(aG (An (ai,bi,((ai+(3*bi))+m.fst)%5)))) (Aq (zs:=An ((0,0,0):Nat×Nat×Nat)) (vs:=An (ai,bi,((ai+(3*bi))+m.fst)%5)) (pv:=[(0,(vN ai)),(1,(vN bi)),(2,(vN (((ai+(3*bi))+m.fst)%5)))]) zeroValue79 underlying79 sizeOf3 O (IP ai bi (((ai+(3*bi))+m.fst)%5))) O (AE.openV (V:=λb4=>(Value.slice (some ⟨b4,0,none⟩) 1 1)) (T:=79) (cs:=An (ai,bi,((ai+(3*bi))+m.fst)%5)) (AP O) (A_ (z:=.agg (An ((0,0,0):Nat×Nat×Nat)).toArray) (cs:=An (ai,bi,((ai+(3*bi))+m.fst)%5)) (pv:=[(0,(aG (An (ai,bi,((ai+(3*bi))+m.fst)%5))))]) underlying23 sizeOf79 zeroValue79 (by decide) (by decide) O (Fj (ai,bi,((ai+(3*bi))+m.fst)%5))) O (Ad O) λb4=>AE.appendAt 3 (j:=0) (cs2:=rowsL An (sq9++[(ai,bi,((ai+(3*bi))+m.fst)%5)])) Uo O h5 (Am BI _) O O O O O (by decide) (Jc Z) Z (by rw [BW];rfl) O λp_8 c_8 ho_8 hne_8=>AH (v:=(pP b3 2)) (AA O underlying119 O sizeOf23 O) O ?_)))
      refine Fc 6 (off:=2) (vs:=[(Value.slice p_8 (sq9.length+1) c_8)]) (cs':=[(Value.slice s.p2 s.pl.length s.c2),(Value.slice p3 ts.length c3),(Value.slice p_8 (sq9.length+1) c_8)]) (AP O) O sizeOf23 O (AE.nil (AC.subF (sL [1,2,3,4,12,13,15,14] O) (AC.in_normal (AC.then_ (AF.region ?_)))))
      refine AO O (AH (AW (c:=((bi+1:Nat):Int)) O O (AZ (a:=bi) (b:=1) Z)) O (AK O (AE.nil (AC.subF (sL [1,2,3,4,12,13,15,14] O) ?_))))
      rw [show sq9.length+1=(sq9++[(ai,bi,((ai+(3*bi))+m.fst)%5)]).length by simp]
      exact AC.round4 (bi+1) p_8 c_8 (sq9++[(ai,bi,((ai+(3*bi))+m.fst)%5)]) (⟨Z,Z,(by simpa using ho_8),by rw [List.length_append];simp only [List.length_singleton];omega,(by rw [hsq];exact P6 Z (by rw [<-hcw,hc9]))⟩) Z (sF O) (sl sr)
     ·replace hc9:=of_decide_eq_false hc9
      refine AF.skip (AC.in_normal (AC.then_ (AF.region (AO O (AH (AW (c:=((bi+1:Nat):Int)) O O (AZ (a:=bi) (b:=1) Z)) O ?_)))))
      exact AK O (AE.nil (AC.subF (sL [1,2,3,4,12,13,15,14] O) (AC.round4 (bi+1) p5 c5 sq9 (⟨Z,Z,h5,Z,(by rw [hsq];exact TK Z (by rw [<-hcw];exact hc9))⟩) Z (sF O) sr)))
   ·replace hc6:=of_decide_eq_false hc6
    refine AF.exit (AC.then_exit (AC.round4_exit (AC.in_exit (AC.in_normal (AC.then_ ?_)))))
    exact AF.region (AO O (AH (AW (c:=((ai+1:Nat):Int)) O O (AZ (a:=ai) (b:=1) Z)) O (AK O (AE.nil (AC.subF (sL [1,2,3,4,12,13] O) (AC.round4 (ai+1) p5 c5 sq9 (⟨Z,h5,Z,by rw [hsq,show bi=s.pl.length by omega];rfl⟩) Z (sF O) sr))))))
  ·replace hc5:=of_decide_eq_false hc5
   refine AF.exit (AC.then_exit (AC.round4_exit (AC.in_exit (q2 (BA 5 U6 O ?_)))))
   exact Fc 6 (off:=0) (vs:=[(Value.slice s.p2 s.pl.length s.c2),(Value.slice p3 ts.length c3),(Value.slice p4 ss.length c4)]) (cs':=[(Value.slice s.p2 s.pl.length s.c2),(Value.slice p3 ts.length c3),(Value.slice p4 ss.length c4)]) (AP O) O sizeOf119 O (AE.nil (AC.subF (sL [1,2,3,4,12] O) (AC.then_ (AF.ret (AN O (A7 (i:=6) (cs:=[(Value.slice s.p2 s.pl.length s.c2),(Value.slice p3 ts.length c3),(Value.slice p4 ss.length c4)]) O O isAgg119 sizeOf119 O) (λw hw=>(U9 hw (WM.mk s.pl ts ss hv hs.dst Z (by rw [hsd,show ai=s.pl.length by omega]) ⟨s.p2,s.c2,hs.o2.row⟩ ⟨p3,c3,h3.row⟩ ⟨p4,c4,h4.row⟩) h3 3 O (Gp (S:=λ_=>False) hw 4 O hs.o2 (by rw [Am Ew];simp [WS.pts])) (Gp (S:=λ_=>False) hw 3 O h3 (Am BI _)) (Gp (S:=λ_=>False) hw 2 O h4 (Am BI _)) O)))))))
end
end Go.Proofs.YtfbomiejpbchdaaGreatDoor
