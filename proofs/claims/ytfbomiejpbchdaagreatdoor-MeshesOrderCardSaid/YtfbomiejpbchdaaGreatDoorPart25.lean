import Derived.Test.YtfbomiejpbchdaaGreatDoorPart06
import Derived.Test.YtfbomiejpbchdaaGreatDoorPart15
import Derived.Test.YtfbomiejpbchdaaGreatDoorPart22
import Derived.Test.YtfbomiejpbchdaaGreatDoorPart24
namespace Go.Proofs.YtfbomiejpbchdaaGreatDoor
open Go Go.RowKit Go.Proofs.Tryz
set_option linter.unusedVariables false
set_option linter.unusedSimpArgs false
section
set_option maxRecDepth 100000
theorem TI:ElemT prog 158 147 2 16:=⟨underlying158,EU (by kernel_rfl)⟩
theorem SB:ElemT prog 23 79 3 24:=⟨underlying23,EU (by kernel_rfl)⟩
theorem RE:ElemT prog 117 121 2 16:=⟨underlying117,EU (by kernel_rfl)⟩
theorem R0 (t:Nat×Nat×Nat) (x:Nat) (w:World)  :Calls prog 89 #[(aG (Am t)),(vN x)] w (Ak w (Value.bool (Fs t x))):=by
 refine Ab (args:=[(aG (Am t)),(vN x)]) func89 O O (Ad O) (AF.subF (sL [0,1] O) (q4 (Bk (cs:=Am t) O λb1=>AJ O (q3 (sL [1,2,4] O) ?_))))
 refine AH (v:=(pP b1 0)) (AC (j:=0) O O underlying79 sizeOf3 O (by decide) O) O (BN 0 (vN t.1) B7 O (AP O (AH (BZ (c:=(decide (t.1=x))) O O (NU (a:=t.1) (b:=x))) O (AP O ?_))))
 refine AE.mid (FM:=[(1,(vN x)),(2,(pP b1 0)),(4,(Value.bool false)),(5,(pP b1 0)),(6,(vN t.1)),(7,(vN x)),(8,(Value.bool (decide (t.1=x)))),(9,(Value.bool (decide (t.1=x)))),(14,(Value.bool ((decide (t.1=x))||(decide (t.2.1=x)))))]) (LM:=[Ae b1 79 (Am t)]) 5 ?_ ?_
 ·rcases Bool.eq_false_or_eq_true (decide (t.1=x)) with hg1|hg1
  ·skip
   refine AE.retell (k:=9) (u:=Value.bool true) O (by rw [hg1]) ?_
   have hg1':=hg1
   replace hg1':=of_decide_eq_true hg1'
   exact AE.skip (AV O) O (Ad O) (AE.skip (AV O) O (Ad O) (AE.skip (AV O) O (Ad O) (AE.skip (AV O) O (Ad O) (AH (v:=(Value.bool true)) (Al O O) O (AE.nil (AD.mid (sS O (sS O (sS O (sS O (sS O (sS O (sS O (sS (by first|rfl|(rw [hg1];rfl)|rw [hg1]) (sS (by first|rfl|(rw [hg1];rfl)|rw [hg1]) (sN)))))))))) (List.Sublist.refl _)))))))
  ·skip
   refine AE.retell (k:=9) (u:=Value.bool false) O (by rw [hg1]) ?_
   have hg1':=hg1
   replace hg1':=of_decide_eq_false hg1'
   exact AE.step (v:=(pP b1 1)) (AB O) (AC (j:=1) O O underlying79 sizeOf3 O (by decide) O) O (Ad O) (AE.step (v:=(vN t.2.1)) (AB O) (AM (i:=0) (v:=(vN t.2.1)) O O B7.a O) O (Ad O) (AE.step (v:=(vN x)) (AB O) (BA O) O (Ad O) (AE.step (v:=(Value.bool (decide (t.2.1=x)))) (AB O) (BZ (c:=(decide (t.2.1=x))) O O (NU (a:=t.2.1) (b:=x))) O (Ad O) (AH (v:=(Value.bool (decide (t.2.1=x)))) (AW O O) O (AE.nil (AD.mid (sS O (sS O (sS O (sS O (sS O (sS O (sS O (sS (by first|rfl|(rw [hg1];rfl)|rw [hg1]) (sS (by first|rfl|(rw [hg1];rfl)|rw [hg1]) (sN)))))))))) (List.Sublist.refl _)))))))
 refine AP O ?_
 refine AE.mid (FM:=[(1,(vN x)),(2,(pP b1 0)),(4,(Value.bool false)),(5,(pP b1 0)),(6,(vN t.1)),(7,(vN x)),(8,(Value.bool (decide (t.1=x)))),(9,(Value.bool (decide (t.1=x)))),(14,(Value.bool ((decide (t.1=x))||(decide (t.2.1=x))))),(15,(Value.bool ((decide (t.1=x))||(decide (t.2.1=x))))),(20,(Value.bool (((decide (t.1=x))||(decide (t.2.1=x)))||(decide (t.2.2=x)))))]) (LM:=[Ae b1 79 (Am t)]) 5 ?_ ?_
 ·rcases Bool.eq_false_or_eq_true ((decide (t.1=x))||(decide (t.2.1=x))) with hg2|hg2
  ·skip
   refine AE.retell (k:=15) (u:=Value.bool true) O (by rw [hg2]) ?_
   have hg2':=hg2
   simp only [Bool.and_eq_true,Bool.or_eq_true,Bool.and_eq_false_iff,Bool.or_eq_false_iff,Bool.not_eq_true',Bool.not_eq_false',decide_eq_true_eq,decide_eq_false_iff_not] at hg2'
   exact AE.skip (AV O) O (Ad O) (AE.skip (AV O) O (Ad O) (AE.skip (AV O) O (Ad O) (AE.skip (AV O) O (Ad O) (AH (v:=(Value.bool true)) (Al O O) O (AE.nil (AD.mid (sS O (sS O (sS O (sS O (sS O (sS O (sS O (sS O (sS O (sS (by first|rfl|(rw [hg2];rfl)|rw [hg2]) (sS (by first|rfl|(rw [hg2];rfl)|rw [hg2]) (sN)))))))))))) (List.Sublist.refl _)))))))
  ·skip
   refine AE.retell (k:=15) (u:=Value.bool false) O (by rw [hg2]) ?_
   have hg2':=hg2
   simp only [Bool.and_eq_true,Bool.or_eq_true,Bool.and_eq_false_iff,Bool.or_eq_false_iff,Bool.not_eq_true',Bool.not_eq_false',decide_eq_true_eq,decide_eq_false_iff_not] at hg2'
   exact AE.step (v:=(pP b1 2)) (AB O) (AC (j:=2) O O underlying79 sizeOf3 O (by decide) O) O (Ad O) (AE.step (v:=(vN t.2.2)) (AB O) (AM (i:=0) (v:=(vN t.2.2)) O O B7.a O) O (Ad O) (AE.step (v:=(vN x)) (AB O) (BA O) O (Ad O) (AE.step (v:=(Value.bool (decide (t.2.2=x)))) (AB O) (BZ (c:=(decide (t.2.2=x))) O O (NU (a:=t.2.2) (b:=x))) O (Ad O) (AH (v:=(Value.bool (decide (t.2.2=x)))) (AW O O) O (AE.nil (AD.mid (sS O (sS O (sS O (sS O (sS O (sS O (sS O (sS O (sS O (sS (by first|rfl|(rw [hg2];rfl)|rw [hg2]) (sS (by first|rfl|(rw [hg2];rfl)|rw [hg2]) (sN)))))))))))) (List.Sublist.refl _)))))))
 exact AJ O (AE.nil (AD.subF (sL [4] O) (AD.then_ (AF.ret (AN O (Ac (v:=(Value.bool (((decide (t.1=x))||(decide (t.2.1=x)))||(decide (t.2.2=x))))) O) (λw hw=>⟨by first|rfl|simp [Fs,Bool.or_assoc],hw.out⟩))))))
theorem D6 (x0:P2):Instr.fill (λi=>some (i*2,2)) ((Array.range (1*2)).map ((Value.agg (A8 ((0,0):P2)).toArray).cells[·%(Value.agg (A8 ((0,0):P2)).toArray).cells.size]!)) [(0,.agg (A8 x0).toArray)]=some (A8 x0).toArray:=by kernel_rfl
theorem D7 (x0:Int×Int):Instr.fill (λi=>some (i*2,2)) ((Array.range (1*2)).map ((Value.agg (CK ((0,0):Int×Int)).toArray).cells[·%(Value.agg (CK ((0,0):Int×Int)).toArray).cells.size]!)) [(0,.agg (CK x0).toArray)]=some (CK x0).toArray:=by kernel_rfl
theorem GC (x0:Nat×Nat×Nat):Instr.fill (λi=>some (i*3,3)) ((Array.range (1*3)).map ((Value.agg (Am ((0,0,0):Nat×Nat×Nat)).toArray).cells[·%(Value.agg (Am ((0,0,0):Nat×Nat×Nat)).toArray).cells.size]!)) [(0,.agg (Am x0).toArray)]=some (Am x0).toArray:=by kernel_rfl
theorem J8 (x0 x1 x2:Nat):Instr.fill (λi=>some (i*1,1)) (Am ((0,0,0):Nat×Nat×Nat)).toArray [(0,vN x0),(1,vN x1),(2,vN x2)]=some (Am (x0,x1,x2)).toArray:=by kernel_rfl
set_option maxHeartbeats 2000000 in
theorem OE (m:MQ) (w:World) {S:Nat->Prop} (hm:Ro S w m):Calls prog 47 #[(aG (EE m))] w (CF (Vj m) (λ_=>False) w):=by
 have hf:=m.hfst
 have hf3:m.fst/3<=85:=by omega
 have lm:=Ep (W:=w) hm
 refine BF (args:=[(aG (EE m))]) (L:=[Ah m.p (Cl m.cs)]) func47 O O (Ad O) (En hm BQ) (AF.subF (sL [0] O) (q4 (Bk (cs:=EE m) O λb1=>al St O λb2=>q3 (sL [1,2] O) ?_)))
 refine al St O λb3=>AE.nilRow 121 2 (AE.nilRow 79 3 (AE.nilRow 79 3 (AE.nil (q2 ?_))))
 refine AJ O (AE.nilRow 147 2 (AE.nil (q2 (BE 6 L2 O (cX (S:=S) (cs:=rowsL A_ (Az m)) (k:=(Az m).length) (args:=[(aG (EE m))]) call87 (λw hw=>Qd m w (D_ hw 7 O lm)) O O O λgc lgc=>?_)))))
 refine AJ O (q6 (sL [1,2,3,4,5] O) (q4 (AJ O (AE.nil (AD.then_ ?_)))))
 refine AF.block ?_
 refine AF.lp5 (tg λ(i:Nat) (s:WS) (p3:Option Addr) (c3:Nat) (ts:List (Nat×Nat×Nat))=>i<=(Az m).length/\WS.Ok s/\OwnOk p3 ts.length c3/\Lz m i (WS.pl s) ts) (tg λ(i:Nat) (s:WS) (p3:Option Addr) (c3:Nat) (ts:List (Nat×Nat×Nat))=>[(1,(pP b1 0)),(2,(pP b2 0)),(3,(pP b3 0)),(5,(Value.slice gc.p ((Az m).length) gc.c)),(6,(vN i)),(4,(Value.slice s.p1 s.pl.length s.c1))]) (tg λ(i:Nat) (s:WS) (p3:Option Addr) (c3:Nat) (ts:List (Nat×Nat×Nat))=>[Ah gc.p (rowsL A_ (Az m)),rowW s.p1 147 2 s.pl.length s.c1 (rowsL A8 s.pl),rowW none 79 3 0 0 (rowsL Am ([])),rowW p3 79 3 ts.length c3 (rowsL Am ts),rowW s.p2 121 2 s.pl.length s.c2 (rowsL CK (s.pts m)),Ae b3 119 ([(Value.slice s.p2 s.pl.length s.c2),(Value.slice p3 ts.length c3),(Value.slice none 0 0)]),Ae b2 119 ([(Value.slice none 0 0),(Value.slice none 0 0),(Value.slice none 0 0)]),Ae b1 50 (EE m),Ah m.p (Cl m.cs)]) (tg λ(i:Nat) (s:WS) (p3:Option Addr) (c3:Nat) (ts:List (Nat×Nat×Nat))=>(Az m).length-i) 0 (WS.mk [] none 0 none 0) none 0 ([]:List (Nat×Nat×Nat)) (⟨Nat.zero_le _,⟨OwnOk.none,OwnOk.none,(λp hp=>by cases hp),VO⟩,OwnOk.none,XC m⟩) (sF O) sr (λi s p3 c3 ts hJ=>?_)
 obtain ⟨hi,hs,h3,hv⟩:=hJ
 have hpl:=hv.pll
 have htl:=hv.tl
 have hcl:=HE m
 refine AF.seq (q4 (AP O (AP O (AH (v:=(vN ((Az m).length))) (AG O underlying159) O (AH (Af (c:=(decide (i<((Az m).length)))) O O (DB (a:=i) (b:=(Az m).length))) O ?_)))))
 refine AE.nil (AD.subF (sL [1,2,3,5,6,4,21] O) (AD.then_ ?_))
 refine AF.cond O (λhc0=>?_) (λhc0=>?_)
 ·replace hc0:=of_decide_eq_true hc0
  refine AF.skip (q1 (AF.block (q4 (al Lp O λb4=>AE.nil ?_))))
  refine q1 (q4 (AJ O (AE.nil (AD.then_ (AF.block ?_)))))
  refine AF.unroll 4 (FL.step (AF.seq (q4 (AP O (AH (Af (c:=true) O O (by decide)) O ?_)))))
  refine AE.nil (AD.subF (sL [1,2,3,5,6,4,7,8,25] O) (AD.then_ (AF.cond_true O (AF.skip (q1 ?_)))))
  refine AF.block (AF.seq (DA [(0,true),(1,true),(2,true),(3,true),(4,true),(5,true),(6,true),(7,true),(8,true),(9,true),(10,true),(11,true),(12,true),(13,true),(14,true),(15,true),(16,true),(17,true),(18,false),(19,false)] sr (Bp O (Bp O (Bp O ?_)))))
  refine Aw (v:=(pP b1 8)) O (AA O underlying50 O sizeOf5 O) (Bi 8 (vK .u8 m.fst) SV O (Aw O (Ap (c:=((m.fst:Nat):Int)) O underlying5 underlying3 (Bv Z)) (Aw O (AX (c:=((0+m.fst:Nat):Int)) O O (AZ (a:=0) (b:=m.fst) Z)) (Bp O (Aw (v:=(pP b1 8)) O (AA O underlying50 O sizeOf5 O) ?_)))))
  refine Bi 8 (vK .u8 m.fst) SV O (Aw O (Fv (c:=((m.fst/3:Nat):Int)) O O Z (Lg (a:=m.fst) (b:=3) Z)) (Aw O (Ap (c:=((m.fst/3:Nat):Int)) O underlying5 underlying3 (Bv Z)) ?_))
  have hmul:i*(m.fst/3)<=36*85:=Nat.mul_le_mul Z hf3
  refine Aw O (Bq (c:=((i*(m.fst/3):Nat):Int)) O O (C5 (a:=i) (b:=m.fst/3) Z)) (Aw O (AX (c:=(((0+m.fst)+(i*(m.fst/3)):Nat):Int)) O O (AZ (a:=0+m.fst) (b:=i*(m.fst/3)) Z)) ?_)
  obtain ⟨r9,hr9⟩:∃r,r=H2 m i 0:=⟨_,rfl⟩
  have hr3:r9<3:=by rw [hr9];exact Nat.mod_lt _ (by decide)
  refine Aw O (Bo (c:=((r9:Nat):Int)) O O (by decide) (by rw [hr9];exact GF (a:=0+m.fst+i*(m.fst/3)) (b:=3))) (Aw (v:=(pP (pB gc.p) (pO gc.p+i*6))) O (AR (j:=i) O O gc.ok underlying159 sizeOf161 O Z) (Aw (v:=(pP (pB gc.p) (pO gc.p+(i*6+r9*2)))) O (AC (j:=r9) O O underlying161 sizeOf147 O hr3 (Nat.add_assoc _ _ _)) (Aw (v:=(aG (A8 (An m i 0)))) O (AY (vs:=A8 (An m i 0)) (i:=1) O O (BL.ne gc.ok Z) Bj (H3 _ i r9 Z hr3 _ O _ (by rw [hr9];rfl)) O) (AS.imp O (al IT O λb5=>?_)))))
  refine AS.back (sl sr) (AS.imp O (Aq O sizeOf147 O (AS.back (sl sr) (AS.nil (AD.subF (sL [1,2,3,5,6,4,7,8,9] O) ?_)))))
  refine q2 (AJ O (AE.nil (q1 (q4 (AJ O ?_)))))
  refine AE.nil (AD.then_ (AF.block ?_))
  refine AF.lp2 (tg λ(k:Nat) (a:Int)=>k<=s.pl.length/\((a = -1/\∀j,j<k->s.pl.getD j (0,0)≠An m i 0)\/0<=a/\a<(k:Int)/\s.pl.getD (Int.toNat a) (0,0)=An m i 0)) (tg λ(k:Nat) (a:Int)=>[(1,(pP b1 0)),(2,(pP b2 0)),(3,(pP b3 0)),(5,(Value.slice gc.p ((Az m).length) gc.c)),(6,(vN i)),(4,(Value.slice s.p1 s.pl.length s.c1)),(7,(pP b4 0)),(8,(vI 0)),(9,(pP b5 0)),(11,(vN k)),(10,(vI a))]) (tg λ(k:Nat) (a:Int)=>[Ae b5 147 (A8 (An m i 0)),Ae b4 79 (Am ((0,0,0):Nat×Nat×Nat)),Ah gc.p (rowsL A_ (Az m)),rowW s.p1 147 2 s.pl.length s.c1 (rowsL A8 s.pl),rowW none 79 3 0 0 (rowsL Am ([])),rowW p3 79 3 ts.length c3 (rowsL Am ts),rowW s.p2 121 2 s.pl.length s.c2 (rowsL CK (s.pts m)),Ae b3 119 ([(Value.slice s.p2 s.pl.length s.c2),(Value.slice p3 ts.length c3),(Value.slice none 0 0)]),Ae b2 119 ([(Value.slice none 0 0),(Value.slice none 0 0),(Value.slice none 0 0)]),Ae b1 50 (EE m),Ah m.p (Cl m.cs)]) (tg λ(k:Nat) (a:Int)=>s.pl.length-k) 0 (-1:Int) (⟨Nat.zero_le _,.inl ⟨rfl,λj hj=>absurd hj (Nat.not_lt_zero _)⟩⟩) (sF O) sr (λk a hJ=>?_)
  obtain ⟨hk,ha⟩:=hJ
  refine AF.seq (q4 (AP O (AP O (AH (v:=(vN s.pl.length)) (AG O underlying158) O (AH (Af (c:=(decide (k<s.pl.length))) O O (DB (a:=k) (b:=s.pl.length))) O ?_)))))
  refine AE.nil (AD.subF (sL [1,2,3,5,6,4,7,8,9,11,10,49] O) (AD.then_ ?_))
  refine AF.cond O (λhc2=>?_) (λhc2=>?_)
  ·replace hc2:=of_decide_eq_true hc2
   refine AF.skip (q1 (AF.block (AF.seq (DA [(0,true),(1,true),(2,true),(3,true),(4,true),(5,true)] sr (Bp O ?_)))))
   refine Bp O (Aw (v:=(pP (pB s.p1) (pO s.p1+k*2))) O (AR (j:=k) O O hs.o1.row underlying158 sizeOf147 O Z) (Aw (v:=(aG (A8 (s.pl.getD k ((0,0):P2))))) O (CI (vs:=A8 (s.pl.getD k ((0,0):P2))) (i:=3) O O hs.o1 (Ag Ce _) (BL.ne hs.o1.row Z) Bj (Ar Ce _ _ _ Z) (Ce _)) (E7 0 Bj O (Aw O (CB (c:=decide (s.pl.getD k ((0,0):P2)=(An m i 0))) O O eqGuardType147 (MS 9998 (s.pl.getD k ((0,0):P2)) (An m i 0))) (AS.nil ?_)))))
   refine AD.subF (sL [1,2,3,5,6,4,7,8,9,11,10,57] O) (AD.then_ ?_)
   refine AF.cond O (λhc3=>?_) (λhc3=>?_)
   ·replace hc3:=of_decide_eq_true hc3
    refine AF.region (AP O (AJ O (AE.nil (AD.subF (sL [1,2,3,5,6,4,7,8,9,11,10] O) (AD.in_normal ?_)))))
    refine AD.then_ (AF.region (AP O (AH (AX (c:=((k+1:Nat):Int)) O O (AZ (a:=k) (b:=1) Z)) O (AJ O (AE.nil ?_)))))
    exact AD.subF (sL [1,2,3,5,6,4,7,8,9,11,10] O) (AD.round2 (k+1) (k:Int) (⟨Z,.inr ⟨Z,Z,by simpa using hc3⟩⟩) Z (sF O) sr)
   ·replace hc3:=of_decide_eq_false hc3
    refine AF.skip (AD.in_normal (AD.then_ (AF.region (AP O (AH (AX (c:=((k+1:Nat):Int)) O O (AZ (a:=k) (b:=1) Z)) O ?_)))))
    exact AJ O (AE.nil (AD.subF (sL [1,2,3,5,6,4,7,8,9,11,10] O) (AD.round2 (k+1) a (⟨Z,ha.elim (λh=>.inl ⟨h.1,λj hj=>by rcases Nat.lt_or_ge j k with h1|h1;exact h.2 j h1;(obtain rfl:j=k:=by omega);simpa using hc3⟩) (λh=>.inr ⟨h.1,Z,h.2.2⟩)⟩) Z (sF O) sr)))
  ·replace hc2:=of_decide_eq_false hc2
   refine AF.exit (AD.then_exit (AD.round2_exit (AD.in_exit (q1 (q4 ?_)))))
   refine AP O (AH (Af (c:=(decide (a<(0:Int)))) O O O) O (AE.nil (AD.subF (sL [1,2,3,5,6,4,7,8,9,11,10,60] O) (AD.then_ ?_))))
   refine AF.jn2 (tg λ(s1:WS) (n1:Nat)=>WS.Ok s1/\FO s.pl (WS.pl s1)/\(WS.pl s1).length<=s.pl.length+1/\n1<(WS.pl s1).length/\(WS.pl s1).getD n1 (0,0)=An m i 0/\∀a,a<(WS.pl s1).length->a<s.pl.length\/a=n1) (tg λ(s1:WS) (n1:Nat)=>[(1,(pP b1 0)),(2,(pP b2 0)),(3,(pP b3 0)),(5,(Value.slice gc.p ((Az m).length) gc.c)),(6,(vN i)),(7,(pP b4 0)),(8,(vI 0)),(10,(vN n1)),(4,(Value.slice s1.p1 s1.pl.length s1.c1))]) (tg λ(s1:WS) (n1:Nat)=>[Ae b5 147 (A8 (An m i 0)),Ae b4 79 (Am ((0,0,0):Nat×Nat×Nat)),Ah gc.p (rowsL A_ (Az m)),rowW s1.p1 147 2 s1.pl.length s1.c1 (rowsL A8 s1.pl),rowW none 79 3 0 0 (rowsL Am ([])),rowW p3 79 3 ts.length c3 (rowsL Am ts),rowW s1.p2 121 2 s1.pl.length s1.c2 (rowsL CK (s1.pts m)),Ae b3 119 ([(Value.slice s1.p2 s1.pl.length s1.c2),(Value.slice p3 ts.length c3),(Value.slice none 0 0)]),Ae b2 119 ([(Value.slice none 0 0),(Value.slice none 0 0),(Value.slice none 0 0)]),Ae b1 50 (EE m),Ah m.p (Cl m.cs)]) ?_ ?_
   ·skip
    refine AF.cond O (λhc4=>?_) (λhc4=>?_)
    ·replace hc4:=of_decide_eq_true hc4
     refine q4 (AP O (AH (v:=(vN s.pl.length)) (AG O underlying158) O (AJ O (q3 (sL [1,2,3,5,6,4,7,8,9,11,10] O) (AP O ?_)))))
     refine BE 0 Bj O (AE.openV (V:=λb6=>(Value.slice (some ⟨b6,0,none⟩) 1 1)) (T:=147) (cs:=A8 (An m i 0)) (AQ O) (BD (z:=.agg (A8 ((0,0):P2)).toArray) (cs:=A8 (An m i 0)) (pv:=[(0,(aG (A8 (An m i 0))))]) underlying158 sizeOf147 zeroValue147 (by decide) (by decide) O (D6 (An m i 0))) O (Ad O) λb6=>AE.appendAt 4 (j:=0) (cs2:=rowsL A8 (s.pl++[(An m i 0)])) TI O hs.o1 (Ag Ce _) O O O O O (by decide) (JH Z) Z (by rw [BT];rfl) O λp_1 c_1 ho_1 hne_1=>AJ O (AE.nil (AD.subF (sL [1,2,3,5,6,4,7,8,9,11,10] O) ?_)))
     refine AD.then_ (rC [(0,true),(1,true),(2,true),(3,true),(4,false),(5,false),(6,false),(7,true)] 8 [] (sk (sk (sk (sk (sk (sk (sk (sl sr)))))))) (sk (sk (sk (sk (sk (sk (sk (sl sr)))))))) (by kernel_rfl) (λ_ _ d _ _ h=>by cases d<;>exact h) (vE (v:=(pP b3 0)) O (AA O underlying119 O sizeOf117 O) O (vE O (AM (i:=7) (v:=(Value.slice s.p2 s.pl.length s.c2)) O O K6.a O) O (vE (v:=(aG (EE m))) O (A6 (i:=9) (vs:=EE m) O O L2.a L2.s O O) O (vE (v:=(aG (A8 (An m i 0)))) O (A6 (i:=1) (vs:=A8 (An m i 0)) O O Bj.a Bj.s O O) O ?_)))))
     refine CZ.imp O (Ef call88 (λw hw=>Hs m (An m i 0) (Dq Z) w (D_ hw 11 O lm)) O (CZ.back (sk (sk (sk (sk (sk (sk (sk (sl sr)))))))) (CZ.imp O (AE.openV (V:=λb7=>(Value.slice (some ⟨b7,0,none⟩) 1 1)) (T:=121) (cs:=CK ((mapM m).at_ (An m i 0))) (AQ O) (BD (z:=.agg (CK ((0,0):Int×Int)).toArray) (cs:=CK ((mapM m).at_ (An m i 0))) (pv:=[(0,(aG (CK ((mapM m).at_ (An m i 0)))))]) underlying117 sizeOf121 zeroValue121 (by decide) (by decide) O (D7 ((mapM m).at_ (An m i 0)))) O (Ad O) λb7=>CZ.back (sl (sk (sk (sk (sk (sk (sk (sk (sl sr))))))))) ?_))))
     refine CZ.imp O (AE.appendAt 8 (j:=0) (cs2:=rowsL CK ((s.pts m)++[((mapM m).at_ (An m i 0))])) RE O hs.o2 (by rw [Ag E_];simp [WS.pts]) O O O O O (by decide) (JH Z) Z (by rw [BT];rfl) O λp_2 c_2 ho_2 hne_2=>CZ.back (sl (sk (sk (sk (sk (sk (sk (sk (sl sr))))))))) (vE (v:=(pP b3 0)) O (AA O underlying119 O sizeOf117 O) O (CZ.cut O (GP 9 (off:=0) (vs:=[(Value.slice p_2 (s.pl.length+1) c_2)]) (cs':=[(Value.slice p_2 (s.pl.length+1) c_2),(Value.slice p3 ts.length c3),(Value.slice none 0 0)]) (AQ O) O sizeOf117 O ?_))))
     refine AS.back (sl (sk (sk (sk (sk (sk (sk (sk (sl (sl sr)))))))))) (AS.nil (AD.subF (sL [1,2,3,5,6,4,7,8,9,11,10] O) ?_))
     rw [show s.pl.length+1=(s.pl++[An m i 0]).length by simp]
     rw [show s.pts m++[(mapM m).at_ (An m i 0)]=WS.pts (WS.mk (s.pl++[An m i 0]) p_1 c_1 p_2 c_2) m by simp [WS.pts]]
     exact AD.join2 (WS.mk (s.pl++[An m i 0]) p_1 c_1 p_2 c_2) s.pl.length (⟨⟨(by simpa using ho_1),(by simpa using ho_2),λp hp=>(List.mem_append.1 hp).elim (hs.small p) (λe=>by rw [List.mem_singleton.1 e];exact Dq Z),JY hs.dst (λj hj=>(ha.elim id (λh=>absurd h.1 Z)).2 j Z)⟩,FO.snoc _ _,by simp,by simp,C4 _ _,λa ha=>by simp only [List.length_append,List.length_singleton] at ha;omega⟩) (sF O) (sl (sl sr))
    ·replace hc4:=of_decide_eq_false hc4
     refine AF.retell (k:=10) (u:=(vN a.toNat)) O (by show Value.int _ _=Value.int _ _;congr 1;omega) (AF.skip ?_)
     obtain ⟨ha1,ha2,ha3⟩:=ha.resolve_left (λh=>by have:=h.1;omega)
     exact AD.join2 s a.toNat (⟨hs,FO.refl _,Z,Z,ha3,λa ha=>.inl ha⟩) (sF O) sr
   ·intro s1 n1 hJ
    obtain ⟨hs1,hm1,hl1,hn1,hg1,hu1⟩:=hJ
    refine AD.then_ (AF.region (AP O (AP O (AH (v:=(pP b4 0)) (AC (j:=0) O O underlying79 sizeOf3 O (by decide) O) O (GP 1 (off:=0) (vs:=[(vN n1)]) (cs':=[(vN n1),(vI 0),(vI 0)]) (AQ O) O sizeOf3 O ?_)))))
    refine AE.nil (AD.subF (sL [1,2,3,5,6,7,8,10,4] O) (AD.in_normal (AD.then_ (AF.region (AP O ?_)))))
    refine AH (AX (c:=(1:Int)) O O (by decide)) O (AJ O (AE.nil (AD.subF (sL [1,2,3,5,6,7,8,10,4] O) (AD.again (FL.step ?_)))))
    refine AF.seq (q4 (AP O (AH (Af (c:=true) O O (by decide)) O (AE.nil (AD.subF (sL [1,2,3,5,6,7,8,10,4,25] O) ?_)))))
    refine AD.then_ (AF.cond_true O (AF.skip (q1 (AF.block (AF.seq ?_)))))
    refine DA [(0,true),(1,true),(2,true),(3,true),(4,true),(5,true),(6,true),(7,true),(8,true),(9,true),(10,true),(11,true),(12,true),(13,true),(14,true),(15,true),(16,true),(17,true),(18,false),(19,false)] sr (Bp O (Bp O (Bp O (Aw (v:=(pP b1 8)) O (AA O underlying50 O sizeOf5 O) (Bi 9 (vK .u8 m.fst) SV O ?_)))))
    refine Aw O (Ap (c:=((m.fst:Nat):Int)) O underlying5 underlying3 (Bv Z)) (Aw O (AX (c:=((1+m.fst:Nat):Int)) O O (AZ (a:=1) (b:=m.fst) Z)) (Bp O (Aw (v:=(pP b1 8)) O (AA O underlying50 O sizeOf5 O) (Bi 9 (vK .u8 m.fst) SV O (Aw O (Fv (c:=((m.fst/3:Nat):Int)) O O Z (Lg (a:=m.fst) (b:=3) Z)) ?_)))))
    refine Aw O (Ap (c:=((m.fst/3:Nat):Int)) O underlying5 underlying3 (Bv Z)) ?_
    have hmul:i*(m.fst/3)<=36*85:=Nat.mul_le_mul Z hf3
    refine Aw O (Bq (c:=((i*(m.fst/3):Nat):Int)) O O (C5 (a:=i) (b:=m.fst/3) Z)) (Aw O (AX (c:=(((1+m.fst)+(i*(m.fst/3)):Nat):Int)) O O (AZ (a:=1+m.fst) (b:=i*(m.fst/3)) Z)) ?_)
    obtain ⟨r9,hr9⟩:∃r,r=H2 m i 1:=⟨_,rfl⟩
    have hr3:r9<3:=by rw [hr9];exact Nat.mod_lt _ (by decide)
    refine Aw O (Bo (c:=((r9:Nat):Int)) O O (by decide) (by rw [hr9];exact GF (a:=1+m.fst+i*(m.fst/3)) (b:=3))) (Aw (v:=(pP (pB gc.p) (pO gc.p+i*6))) O (AR (j:=i) O O gc.ok underlying159 sizeOf161 O Z) (Aw (v:=(pP (pB gc.p) (pO gc.p+(i*6+r9*2)))) O (AC (j:=r9) O O underlying161 sizeOf147 O hr3 (Nat.add_assoc _ _ _)) (Aw (v:=(aG (A8 (An m i 1)))) O (AY (vs:=A8 (An m i 1)) (i:=2) O O (BL.ne gc.ok Z) Bj (H3 _ i r9 Z hr3 _ O _ (by rw [hr9];rfl)) O) (AS.imp O (al IT O λb6=>?_)))))
    refine AS.back (sl sr) (AS.imp O (Aq O sizeOf147 O (AS.back (sl sr) (AS.nil (AD.subF (sL [1,2,3,5,6,7,8,10,4,9] O) ?_)))))
    refine q2 (AJ O (AE.nil (q1 (q4 (AJ O ?_)))))
    refine AE.nil (AD.then_ (AF.block ?_))
    refine AF.lp2 (tg λ(k:Nat) (a:Int)=>k<=s1.pl.length/\((a = -1/\∀j,j<k->s1.pl.getD j (0,0)≠An m i 1)\/0<=a/\a<(k:Int)/\s1.pl.getD (Int.toNat a) (0,0)=An m i 1)) (tg λ(k:Nat) (a:Int)=>[(1,(pP b1 0)),(2,(pP b2 0)),(3,(pP b3 0)),(5,(Value.slice gc.p ((Az m).length) gc.c)),(6,(vN i)),(7,(pP b4 0)),(8,(vI 1)),(4,(Value.slice s1.p1 s1.pl.length s1.c1)),(9,(pP b6 0)),(11,(vN k)),(10,(vI a))]) (tg λ(k:Nat) (a:Int)=>[Ae b6 147 (A8 (An m i 1)),Ae b5 147 (A8 (An m i 0)),Ae b4 79 ([(vN n1),(vI 0),(vI 0)]),Ah gc.p (rowsL A_ (Az m)),rowW s1.p1 147 2 s1.pl.length s1.c1 (rowsL A8 s1.pl),rowW none 79 3 0 0 (rowsL Am ([])),rowW p3 79 3 ts.length c3 (rowsL Am ts),rowW s1.p2 121 2 s1.pl.length s1.c2 (rowsL CK (s1.pts m)),Ae b3 119 ([(Value.slice s1.p2 s1.pl.length s1.c2),(Value.slice p3 ts.length c3),(Value.slice none 0 0)]),Ae b2 119 ([(Value.slice none 0 0),(Value.slice none 0 0),(Value.slice none 0 0)]),Ae b1 50 (EE m),Ah m.p (Cl m.cs)]) (tg λ(k:Nat) (a:Int)=>s1.pl.length-k) 0 (-1:Int) (⟨Nat.zero_le _,.inl ⟨rfl,λj hj=>absurd hj (Nat.not_lt_zero _)⟩⟩) (sF O) sr (λk a hJ=>?_)
    obtain ⟨hk,ha⟩:=hJ
    refine AF.seq (q4 (AP O (AP O (AH (v:=(vN s1.pl.length)) (AG O underlying158) O (AH (Af (c:=(decide (k<s1.pl.length))) O O (DB (a:=k) (b:=s1.pl.length))) O ?_)))))
    refine AE.nil (AD.subF (sL [1,2,3,5,6,7,8,4,9,11,10,49] O) (AD.then_ ?_))
    refine AF.cond O (λhc2=>?_) (λhc2=>?_)
    ·replace hc2:=of_decide_eq_true hc2
     refine AF.skip (q1 (AF.block (AF.seq (DA [(0,true),(1,true),(2,true),(3,true),(4,true),(5,true)] sr (Bp O ?_)))))
     refine Bp O (Aw (v:=(pP (pB s1.p1) (pO s1.p1+k*2))) O (AR (j:=k) O O hs1.o1.row underlying158 sizeOf147 O Z) (Aw (v:=(aG (A8 (s1.pl.getD k ((0,0):P2))))) O (CI (vs:=A8 (s1.pl.getD k ((0,0):P2))) (i:=4) O O hs1.o1 (Ag Ce _) (BL.ne hs1.o1.row Z) Bj (Ar Ce _ _ _ Z) (Ce _)) (E7 0 Bj O (Aw O (CB (c:=decide (s1.pl.getD k ((0,0):P2)=(An m i 1))) O O eqGuardType147 (MS 9998 (s1.pl.getD k ((0,0):P2)) (An m i 1))) (AS.nil ?_)))))
     refine AD.subF (sL [1,2,3,5,6,7,8,4,9,11,10,57] O) (AD.then_ ?_)
     refine AF.cond O (λhc3=>?_) (λhc3=>?_)
     ·replace hc3:=of_decide_eq_true hc3
      refine AF.region (AP O (AJ O (AE.nil (AD.subF (sL [1,2,3,5,6,7,8,4,9,11,10] O) (AD.in_normal ?_)))))
      refine AD.then_ (AF.region (AP O (AH (AX (c:=((k+1:Nat):Int)) O O (AZ (a:=k) (b:=1) Z)) O (AJ O (AE.nil ?_)))))
      exact AD.subF (sL [1,2,3,5,6,7,8,4,9,11,10] O) (AD.round2 (k+1) (k:Int) (⟨Z,.inr ⟨Z,Z,by simpa using hc3⟩⟩) Z (sF O) sr)
     ·replace hc3:=of_decide_eq_false hc3
      refine AF.skip (AD.in_normal (AD.then_ (AF.region (AP O (AH (AX (c:=((k+1:Nat):Int)) O O (AZ (a:=k) (b:=1) Z)) O ?_)))))
      exact AJ O (AE.nil (AD.subF (sL [1,2,3,5,6,7,8,4,9,11,10] O) (AD.round2 (k+1) a (⟨Z,ha.elim (λh=>.inl ⟨h.1,λj hj=>by rcases Nat.lt_or_ge j k with h1|h1;exact h.2 j h1;(obtain rfl:j=k:=by omega);simpa using hc3⟩) (λh=>.inr ⟨h.1,Z,h.2.2⟩)⟩) Z (sF O) sr)))
    ·replace hc2:=of_decide_eq_false hc2
     refine AF.exit (AD.then_exit (AD.round2_exit (AD.in_exit (q1 (q4 ?_)))))
     refine AP O (AH (Af (c:=(decide (a<(0:Int)))) O O O) O (AE.nil (AD.subF (sL [1,2,3,5,6,7,8,4,9,11,10,60] O) (AD.then_ ?_))))
     refine AF.jn2 (tg λ(s2:WS) (n2:Nat)=>WS.Ok s2/\FO s1.pl (WS.pl s2)/\(WS.pl s2).length<=s1.pl.length+1/\n2<(WS.pl s2).length/\(WS.pl s2).getD n2 (0,0)=An m i 1/\∀a,a<(WS.pl s2).length->a<s1.pl.length\/a=n2) (tg λ(s2:WS) (n2:Nat)=>[(1,(pP b1 0)),(2,(pP b2 0)),(3,(pP b3 0)),(5,(Value.slice gc.p ((Az m).length) gc.c)),(6,(vN i)),(7,(pP b4 0)),(8,(vI 1)),(10,(vN n2)),(4,(Value.slice s2.p1 s2.pl.length s2.c1))]) (tg λ(s2:WS) (n2:Nat)=>[Ae b6 147 (A8 (An m i 1)),Ae b5 147 (A8 (An m i 0)),Ae b4 79 ([(vN n1),(vI 0),(vI 0)]),Ah gc.p (rowsL A_ (Az m)),rowW s2.p1 147 2 s2.pl.length s2.c1 (rowsL A8 s2.pl),rowW none 79 3 0 0 (rowsL Am ([])),rowW p3 79 3 ts.length c3 (rowsL Am ts),rowW s2.p2 121 2 s2.pl.length s2.c2 (rowsL CK (s2.pts m)),Ae b3 119 ([(Value.slice s2.p2 s2.pl.length s2.c2),(Value.slice p3 ts.length c3),(Value.slice none 0 0)]),Ae b2 119 ([(Value.slice none 0 0),(Value.slice none 0 0),(Value.slice none 0 0)]),Ae b1 50 (EE m),Ah m.p (Cl m.cs)]) ?_ ?_
     ·skip
      refine AF.cond O (λhc4=>?_) (λhc4=>?_)
      ·replace hc4:=of_decide_eq_true hc4
       refine q4 (AP O (AH (v:=(vN s1.pl.length)) (AG O underlying158) O (AJ O (q3 (sL [1,2,3,5,6,7,8,4,9,11,10] O) (AP O ?_)))))
       refine BE 0 Bj O (AE.openV (V:=λb7=>(Value.slice (some ⟨b7,0,none⟩) 1 1)) (T:=147) (cs:=A8 (An m i 1)) (AQ O) (BD (z:=.agg (A8 ((0,0):P2)).toArray) (cs:=A8 (An m i 1)) (pv:=[(0,(aG (A8 (An m i 1))))]) underlying158 sizeOf147 zeroValue147 (by decide) (by decide) O (D6 (An m i 1))) O (Ad O) λb7=>AE.appendAt 5 (j:=0) (cs2:=rowsL A8 (s1.pl++[(An m i 1)])) TI O hs1.o1 (Ag Ce _) O O O O O (by decide) (JH Z) Z (by rw [BT];rfl) O λp_3 c_3 ho_3 hne_3=>AJ O (AE.nil (AD.subF (sL [1,2,3,5,6,7,8,4,9,11,10] O) ?_)))
       refine AD.then_ (rC [(0,true),(1,true),(2,true),(3,true),(4,false),(5,false),(6,false),(7,true)] 8 [] (sk (sk (sk (sk (sk (sk (sk (sk (sl sr))))))))) (sk (sk (sk (sk (sk (sk (sk (sk (sl sr))))))))) (by kernel_rfl) (λ_ _ d _ _ h=>by cases d<;>exact h) (vE (v:=(pP b3 0)) O (AA O underlying119 O sizeOf117 O) O (vE O (AM (i:=8) (v:=(Value.slice s1.p2 s1.pl.length s1.c2)) O O K6.a O) O (vE (v:=(aG (EE m))) O (A6 (i:=10) (vs:=EE m) O O L2.a L2.s O O) O (vE (v:=(aG (A8 (An m i 1)))) O (A6 (i:=1) (vs:=A8 (An m i 1)) O O Bj.a Bj.s O O) O ?_)))))
       refine CZ.imp O (Ef call88 (λw hw=>Hs m (An m i 1) (Dq Z) w (D_ hw 12 O lm)) O (CZ.back (sk (sk (sk (sk (sk (sk (sk (sk (sl sr))))))))) (CZ.imp O (AE.openV (V:=λb8=>(Value.slice (some ⟨b8,0,none⟩) 1 1)) (T:=121) (cs:=CK ((mapM m).at_ (An m i 1))) (AQ O) (BD (z:=.agg (CK ((0,0):Int×Int)).toArray) (cs:=CK ((mapM m).at_ (An m i 1))) (pv:=[(0,(aG (CK ((mapM m).at_ (An m i 1)))))]) underlying117 sizeOf121 zeroValue121 (by decide) (by decide) O (D7 ((mapM m).at_ (An m i 1)))) O (Ad O) λb8=>CZ.back (sl (sk (sk (sk (sk (sk (sk (sk (sk (sl sr)))))))))) ?_))))
       refine CZ.imp O (AE.appendAt 9 (j:=0) (cs2:=rowsL CK ((s1.pts m)++[((mapM m).at_ (An m i 1))])) RE O hs1.o2 (by rw [Ag E_];simp [WS.pts]) O O O O O (by decide) (JH Z) Z (by rw [BT];rfl) O λp_4 c_4 ho_4 hne_4=>CZ.back (sl (sk (sk (sk (sk (sk (sk (sk (sk (sl sr)))))))))) (vE (v:=(pP b3 0)) O (AA O underlying119 O sizeOf117 O) O (CZ.cut O (GP 10 (off:=0) (vs:=[(Value.slice p_4 (s1.pl.length+1) c_4)]) (cs':=[(Value.slice p_4 (s1.pl.length+1) c_4),(Value.slice p3 ts.length c3),(Value.slice none 0 0)]) (AQ O) O sizeOf117 O ?_))))
       refine AS.back (sl (sk (sk (sk (sk (sk (sk (sk (sk (sl (sl sr))))))))))) (AS.nil (AD.subF (sL [1,2,3,5,6,7,8,4,9,11,10] O) ?_))
       rw [show s1.pl.length+1=(s1.pl++[An m i 1]).length by simp]
       rw [show s1.pts m++[(mapM m).at_ (An m i 1)]=WS.pts (WS.mk (s1.pl++[An m i 1]) p_3 c_3 p_4 c_4) m by simp [WS.pts]]
       exact AD.join2 (WS.mk (s1.pl++[An m i 1]) p_3 c_3 p_4 c_4) s1.pl.length (⟨⟨(by simpa using ho_3),(by simpa using ho_4),λp hp=>(List.mem_append.1 hp).elim (hs1.small p) (λe=>by rw [List.mem_singleton.1 e];exact Dq Z),JY hs1.dst (λj hj=>(ha.elim id (λh=>absurd h.1 Z)).2 j Z)⟩,FO.snoc _ _,by simp,by simp,C4 _ _,λa ha=>by simp only [List.length_append,List.length_singleton] at ha;omega⟩) (sF O) (sl (sl sr))
      ·replace hc4:=of_decide_eq_false hc4
       refine AF.retell (k:=10) (u:=(vN a.toNat)) O (by show Value.int _ _=Value.int _ _;congr 1;omega) (AF.skip ?_)
       obtain ⟨ha1,ha2,ha3⟩:=ha.resolve_left (λh=>by have:=h.1;omega)
       exact AD.join2 s1 a.toNat (⟨hs1,FO.refl _,Z,Z,ha3,λa ha=>.inl ha⟩) (sF O) sr
     ·intro s2 n2 hJ
      obtain ⟨hs2,hm2,hl2,hn2,hg2,hu2⟩:=hJ
      refine AD.then_ (AF.region (AP O (AP O (AH (v:=(pP b4 1)) (AC (j:=1) O O underlying79 sizeOf3 O (by decide) O) O (GP 2 (off:=1) (vs:=[(vN n2)]) (cs':=[(vN n1),(vN n2),(vI 0)]) (AQ O) O sizeOf3 O ?_)))))
      refine AE.nil (AD.subF (sL [1,2,3,5,6,7,8,10,4] O) (AD.in_normal (AD.then_ (AF.region (AP O ?_)))))
      refine AH (AX (c:=(2:Int)) O O (by decide)) O (AJ O (AE.nil (AD.subF (sL [1,2,3,5,6,7,8,10,4] O) (AD.again (FL.step ?_)))))
      refine AF.seq (q4 (AP O (AH (Af (c:=true) O O (by decide)) O (AE.nil (AD.subF (sL [1,2,3,5,6,7,8,10,4,25] O) ?_)))))
      refine AD.then_ (AF.cond_true O (AF.skip (q1 (AF.block (AF.seq ?_)))))
      refine DA [(0,true),(1,true),(2,true),(3,true),(4,true),(5,true),(6,true),(7,true),(8,true),(9,true),(10,true),(11,true),(12,true),(13,true),(14,true),(15,true),(16,true),(17,true),(18,false),(19,false)] sr (Bp O (Bp O (Bp O (Aw (v:=(pP b1 8)) O (AA O underlying50 O sizeOf5 O) (Bi 10 (vK .u8 m.fst) SV O ?_)))))
      refine Aw O (Ap (c:=((m.fst:Nat):Int)) O underlying5 underlying3 (Bv Z)) (Aw O (AX (c:=((2+m.fst:Nat):Int)) O O (AZ (a:=2) (b:=m.fst) Z)) (Bp O (Aw (v:=(pP b1 8)) O (AA O underlying50 O sizeOf5 O) (Bi 10 (vK .u8 m.fst) SV O (Aw O (Fv (c:=((m.fst/3:Nat):Int)) O O Z (Lg (a:=m.fst) (b:=3) Z)) ?_)))))
      refine Aw O (Ap (c:=((m.fst/3:Nat):Int)) O underlying5 underlying3 (Bv Z)) ?_
      have hmul:i*(m.fst/3)<=36*85:=Nat.mul_le_mul Z hf3
      refine Aw O (Bq (c:=((i*(m.fst/3):Nat):Int)) O O (C5 (a:=i) (b:=m.fst/3) Z)) (Aw O (AX (c:=(((2+m.fst)+(i*(m.fst/3)):Nat):Int)) O O (AZ (a:=2+m.fst) (b:=i*(m.fst/3)) Z)) ?_)
      obtain ⟨r9,hr9⟩:∃r,r=H2 m i 2:=⟨_,rfl⟩
      have hr3:r9<3:=by rw [hr9];exact Nat.mod_lt _ (by decide)
      refine Aw O (Bo (c:=((r9:Nat):Int)) O O (by decide) (by rw [hr9];exact GF (a:=2+m.fst+i*(m.fst/3)) (b:=3))) (Aw (v:=(pP (pB gc.p) (pO gc.p+i*6))) O (AR (j:=i) O O gc.ok underlying159 sizeOf161 O Z) (Aw (v:=(pP (pB gc.p) (pO gc.p+(i*6+r9*2)))) O (AC (j:=r9) O O underlying161 sizeOf147 O hr3 (Nat.add_assoc _ _ _)) (Aw (v:=(aG (A8 (An m i 2)))) O (AY (vs:=A8 (An m i 2)) (i:=3) O O (BL.ne gc.ok Z) Bj (H3 _ i r9 Z hr3 _ O _ (by rw [hr9];rfl)) O) (AS.imp O (al IT O λb7=>?_)))))
      refine AS.back (sl sr) (AS.imp O (Aq O sizeOf147 O (AS.back (sl sr) (AS.nil (AD.subF (sL [1,2,3,5,6,7,8,10,4,9] O) ?_)))))
      refine q2 (AJ O (AE.nil (q1 (q4 (AJ O ?_)))))
      refine AE.nil (AD.then_ (AF.block ?_))
      refine AF.lp2 (tg λ(k:Nat) (a:Int)=>k<=s2.pl.length/\((a = -1/\∀j,j<k->s2.pl.getD j (0,0)≠An m i 2)\/0<=a/\a<(k:Int)/\s2.pl.getD (Int.toNat a) (0,0)=An m i 2)) (tg λ(k:Nat) (a:Int)=>[(1,(pP b1 0)),(2,(pP b2 0)),(3,(pP b3 0)),(5,(Value.slice gc.p ((Az m).length) gc.c)),(6,(vN i)),(7,(pP b4 0)),(8,(vI 2)),(4,(Value.slice s2.p1 s2.pl.length s2.c1)),(9,(pP b7 0)),(11,(vN k)),(10,(vI a))]) (tg λ(k:Nat) (a:Int)=>[Ae b7 147 (A8 (An m i 2)),Ae b6 147 (A8 (An m i 1)),Ae b5 147 (A8 (An m i 0)),Ae b4 79 ([(vN n1),(vN n2),(vI 0)]),Ah gc.p (rowsL A_ (Az m)),rowW s2.p1 147 2 s2.pl.length s2.c1 (rowsL A8 s2.pl),rowW none 79 3 0 0 (rowsL Am ([])),rowW p3 79 3 ts.length c3 (rowsL Am ts),rowW s2.p2 121 2 s2.pl.length s2.c2 (rowsL CK (s2.pts m)),Ae b3 119 ([(Value.slice s2.p2 s2.pl.length s2.c2),(Value.slice p3 ts.length c3),(Value.slice none 0 0)]),Ae b2 119 ([(Value.slice none 0 0),(Value.slice none 0 0),(Value.slice none 0 0)]),Ae b1 50 (EE m),Ah m.p (Cl m.cs)]) (tg λ(k:Nat) (a:Int)=>s2.pl.length-k) 0 (-1:Int) (⟨Nat.zero_le _,.inl ⟨rfl,λj hj=>absurd hj (Nat.not_lt_zero _)⟩⟩) (sF O) sr (λk a hJ=>?_)
      obtain ⟨hk,ha⟩:=hJ
      refine AF.seq (q4 (AP O (AP O (AH (v:=(vN s2.pl.length)) (AG O underlying158) O (AH (Af (c:=(decide (k<s2.pl.length))) O O (DB (a:=k) (b:=s2.pl.length))) O ?_)))))
      refine AE.nil (AD.subF (sL [1,2,3,5,6,7,8,4,9,11,10,49] O) (AD.then_ ?_))
      refine AF.cond O (λhc2=>?_) (λhc2=>?_)
      ·replace hc2:=of_decide_eq_true hc2
       refine AF.skip (q1 (AF.block (AF.seq (DA [(0,true),(1,true),(2,true),(3,true),(4,true),(5,true)] sr (Bp O ?_)))))
       refine Bp O (Aw (v:=(pP (pB s2.p1) (pO s2.p1+k*2))) O (AR (j:=k) O O hs2.o1.row underlying158 sizeOf147 O Z) (Aw (v:=(aG (A8 (s2.pl.getD k ((0,0):P2))))) O (CI (vs:=A8 (s2.pl.getD k ((0,0):P2))) (i:=5) O O hs2.o1 (Ag Ce _) (BL.ne hs2.o1.row Z) Bj (Ar Ce _ _ _ Z) (Ce _)) (E7 0 Bj O (Aw O (CB (c:=decide (s2.pl.getD k ((0,0):P2)=(An m i 2))) O O eqGuardType147 (MS 9998 (s2.pl.getD k ((0,0):P2)) (An m i 2))) (AS.nil ?_)))))
       refine AD.subF (sL [1,2,3,5,6,7,8,4,9,11,10,57] O) (AD.then_ ?_)
       refine AF.cond O (λhc3=>?_) (λhc3=>?_)
       ·replace hc3:=of_decide_eq_true hc3
        refine AF.region (AP O (AJ O (AE.nil (AD.subF (sL [1,2,3,5,6,7,8,4,9,11,10] O) (AD.in_normal ?_)))))
        refine AD.then_ (AF.region (AP O (AH (AX (c:=((k+1:Nat):Int)) O O (AZ (a:=k) (b:=1) Z)) O (AJ O (AE.nil ?_)))))
        exact AD.subF (sL [1,2,3,5,6,7,8,4,9,11,10] O) (AD.round2 (k+1) (k:Int) (⟨Z,.inr ⟨Z,Z,by simpa using hc3⟩⟩) Z (sF O) sr)
       ·replace hc3:=of_decide_eq_false hc3
        refine AF.skip (AD.in_normal (AD.then_ (AF.region (AP O (AH (AX (c:=((k+1:Nat):Int)) O O (AZ (a:=k) (b:=1) Z)) O ?_)))))
        exact AJ O (AE.nil (AD.subF (sL [1,2,3,5,6,7,8,4,9,11,10] O) (AD.round2 (k+1) a (⟨Z,ha.elim (λh=>.inl ⟨h.1,λj hj=>by rcases Nat.lt_or_ge j k with h1|h1;exact h.2 j h1;(obtain rfl:j=k:=by omega);simpa using hc3⟩) (λh=>.inr ⟨h.1,Z,h.2.2⟩)⟩) Z (sF O) sr)))
      ·replace hc2:=of_decide_eq_false hc2
       refine AF.exit (AD.then_exit (AD.round2_exit (AD.in_exit (q1 (q4 ?_)))))
       refine AP O (AH (Af (c:=(decide (a<(0:Int)))) O O O) O (AE.nil (AD.subF (sL [1,2,3,5,6,7,8,4,9,11,10,60] O) (AD.then_ ?_))))
       refine AF.jn2 (tg λ(s3:WS) (n3:Nat)=>WS.Ok s3/\FO s2.pl (WS.pl s3)/\(WS.pl s3).length<=s2.pl.length+1/\n3<(WS.pl s3).length/\(WS.pl s3).getD n3 (0,0)=An m i 2/\∀a,a<(WS.pl s3).length->a<s2.pl.length\/a=n3) (tg λ(s3:WS) (n3:Nat)=>[(1,(pP b1 0)),(2,(pP b2 0)),(3,(pP b3 0)),(5,(Value.slice gc.p ((Az m).length) gc.c)),(6,(vN i)),(7,(pP b4 0)),(8,(vI 2)),(10,(vN n3)),(4,(Value.slice s3.p1 s3.pl.length s3.c1))]) (tg λ(s3:WS) (n3:Nat)=>[Ae b7 147 (A8 (An m i 2)),Ae b6 147 (A8 (An m i 1)),Ae b5 147 (A8 (An m i 0)),Ae b4 79 ([(vN n1),(vN n2),(vI 0)]),Ah gc.p (rowsL A_ (Az m)),rowW s3.p1 147 2 s3.pl.length s3.c1 (rowsL A8 s3.pl),rowW none 79 3 0 0 (rowsL Am ([])),rowW p3 79 3 ts.length c3 (rowsL Am ts),rowW s3.p2 121 2 s3.pl.length s3.c2 (rowsL CK (s3.pts m)),Ae b3 119 ([(Value.slice s3.p2 s3.pl.length s3.c2),(Value.slice p3 ts.length c3),(Value.slice none 0 0)]),Ae b2 119 ([(Value.slice none 0 0),(Value.slice none 0 0),(Value.slice none 0 0)]),Ae b1 50 (EE m),Ah m.p (Cl m.cs)]) ?_ ?_
       ·skip
        refine AF.cond O (λhc4=>?_) (λhc4=>?_)
        ·replace hc4:=of_decide_eq_true hc4
         refine q4 (AP O (AH (v:=(vN s2.pl.length)) (AG O underlying158) O (AJ O (q3 (sL [1,2,3,5,6,7,8,4,9,11,10] O) (AP O ?_)))))
         refine BE 0 Bj O (AE.openV (V:=λb8=>(Value.slice (some ⟨b8,0,none⟩) 1 1)) (T:=147) (cs:=A8 (An m i 2)) (AQ O) (BD (z:=.agg (A8 ((0,0):P2)).toArray) (cs:=A8 (An m i 2)) (pv:=[(0,(aG (A8 (An m i 2))))]) underlying158 sizeOf147 zeroValue147 (by decide) (by decide) O (D6 (An m i 2))) O (Ad O) λb8=>AE.appendAt 6 (j:=0) (cs2:=rowsL A8 (s2.pl++[(An m i 2)])) TI O hs2.o1 (Ag Ce _) O O O O O (by decide) (JH Z) Z (by rw [BT];rfl) O λp_5 c_5 ho_5 hne_5=>AJ O (AE.nil (AD.subF (sL [1,2,3,5,6,7,8,4,9,11,10] O) ?_)))
         refine AD.then_ (rC [(0,true),(1,true),(2,true),(3,true),(4,false),(5,false),(6,false),(7,true)] 8 [] (sk (sk (sk (sk (sk (sk (sk (sk (sk (sl sr)))))))))) (sk (sk (sk (sk (sk (sk (sk (sk (sk (sl sr)))))))))) (by kernel_rfl) (λ_ _ d _ _ h=>by cases d<;>exact h) (vE (v:=(pP b3 0)) O (AA O underlying119 O sizeOf117 O) O (vE O (AM (i:=9) (v:=(Value.slice s2.p2 s2.pl.length s2.c2)) O O K6.a O) O (vE (v:=(aG (EE m))) O (A6 (i:=11) (vs:=EE m) O O L2.a L2.s O O) O (vE (v:=(aG (A8 (An m i 2)))) O (A6 (i:=1) (vs:=A8 (An m i 2)) O O Bj.a Bj.s O O) O ?_)))))
         refine CZ.imp O (Ef call88 (λw hw=>Hs m (An m i 2) (Dq Z) w (D_ hw 13 O lm)) O (CZ.back (sk (sk (sk (sk (sk (sk (sk (sk (sk (sl sr)))))))))) (CZ.imp O (AE.openV (V:=λb9=>(Value.slice (some ⟨b9,0,none⟩) 1 1)) (T:=121) (cs:=CK ((mapM m).at_ (An m i 2))) (AQ O) (BD (z:=.agg (CK ((0,0):Int×Int)).toArray) (cs:=CK ((mapM m).at_ (An m i 2))) (pv:=[(0,(aG (CK ((mapM m).at_ (An m i 2)))))]) underlying117 sizeOf121 zeroValue121 (by decide) (by decide) O (D7 ((mapM m).at_ (An m i 2)))) O (Ad O) λb9=>CZ.back (sl (sk (sk (sk (sk (sk (sk (sk (sk (sk (sl sr))))))))))) ?_))))
         refine CZ.imp O (AE.appendAt 10 (j:=0) (cs2:=rowsL CK ((s2.pts m)++[((mapM m).at_ (An m i 2))])) RE O hs2.o2 (by rw [Ag E_];simp [WS.pts]) O O O O O (by decide) (JH Z) Z (by rw [BT];rfl) O λp_6 c_6 ho_6 hne_6=>CZ.back (sl (sk (sk (sk (sk (sk (sk (sk (sk (sk (sl sr))))))))))) (vE (v:=(pP b3 0)) O (AA O underlying119 O sizeOf117 O) O (CZ.cut O (GP 11 (off:=0) (vs:=[(Value.slice p_6 (s2.pl.length+1) c_6)]) (cs':=[(Value.slice p_6 (s2.pl.length+1) c_6),(Value.slice p3 ts.length c3),(Value.slice none 0 0)]) (AQ O) O sizeOf117 O ?_))))
         refine AS.back (sl (sk (sk (sk (sk (sk (sk (sk (sk (sk (sl (sl sr)))))))))))) (AS.nil (AD.subF (sL [1,2,3,5,6,7,8,4,9,11,10] O) ?_))
         rw [show s2.pl.length+1=(s2.pl++[An m i 2]).length by simp]
         rw [show s2.pts m++[(mapM m).at_ (An m i 2)]=WS.pts (WS.mk (s2.pl++[An m i 2]) p_5 c_5 p_6 c_6) m by simp [WS.pts]]
         exact AD.join2 (WS.mk (s2.pl++[An m i 2]) p_5 c_5 p_6 c_6) s2.pl.length (⟨⟨(by simpa using ho_5),(by simpa using ho_6),λp hp=>(List.mem_append.1 hp).elim (hs2.small p) (λe=>by rw [List.mem_singleton.1 e];exact Dq Z),JY hs2.dst (λj hj=>(ha.elim id (λh=>absurd h.1 Z)).2 j Z)⟩,FO.snoc _ _,by simp,by simp,C4 _ _,λa ha=>by simp only [List.length_append,List.length_singleton] at ha;omega⟩) (sF O) (sl (sl sr))
        ·replace hc4:=of_decide_eq_false hc4
         refine AF.retell (k:=10) (u:=(vN a.toNat)) O (by show Value.int _ _=Value.int _ _;congr 1;omega) (AF.skip ?_)
         obtain ⟨ha1,ha2,ha3⟩:=ha.resolve_left (λh=>by have:=h.1;omega)
         exact AD.join2 s2 a.toNat (⟨hs2,FO.refl _,Z,Z,ha3,λa ha=>.inl ha⟩) (sF O) sr
       ·intro s3 n3 hJ
        obtain ⟨hs3,hm3,hl3,hn3,hg3,hu3⟩:=hJ
        refine AD.then_ (AF.region (AP O (AP O (AH (v:=(pP b4 2)) (AC (j:=2) O O underlying79 sizeOf3 O (by decide) O) O (GP 3 (off:=2) (vs:=[(vN n3)]) (cs':=[(vN n1),(vN n2),(vN n3)]) (AQ O) O sizeOf3 O ?_)))))
        refine AE.nil (AD.subF (sL [1,2,3,5,6,7,8,10,4] O) (AD.in_normal (AD.then_ (AF.region (AP O ?_)))))
        refine AH (AX (c:=(3:Int)) O O (by decide)) O (AJ O (AE.nil (AD.subF (sL [1,2,3,5,6,7,8,10,4] O) (AD.again (FL.step ?_)))))
        refine AF.seq (q4 (AP O (AH (Af (c:=false) O O (by decide)) O (AE.nil (AD.subF (sL [1,2,3,5,6,7,8,10,4,25] O) ?_)))))
        refine AD.then_ (AF.cond_false O (AF.exit (AD.then_exit (AD.then_exit (AD.in_exit ?_)))))
        refine AD.then_ (AF.region (AH (v:=(pP b3 1)) (AA O underlying119 O sizeOf23 O) O (BN 9 (Value.slice p3 ts.length c3) C_ O (BE 3 Ie O (AE.openV (V:=λb8=>(Value.slice (some ⟨b8,0,none⟩) 1 1)) (T:=79) (cs:=Am (n1,n2,n3)) (AQ O) (BD (z:=.agg (Am ((0,0,0):Nat×Nat×Nat)).toArray) (cs:=Am (n1,n2,n3)) (pv:=[(0,(aG ([(vN n1),(vN n2),(vN n3)])))]) underlying23 sizeOf79 zeroValue79 (by decide) (by decide) O (GC (n1,n2,n3))) O (Ad O) λb8=>?_)))))
        refine AE.appendAt 8 (j:=0) (cs2:=rowsL Am (ts++[(n1,n2,n3)])) SB O h3 (Ag BC _) O O O O O (by decide) (JH Z) Z (by rw [BT];rfl) O λp_7 c_7 ho_7 hne_7=>AH (v:=(pP b3 1)) (AA O underlying119 O sizeOf23 O) O (GP 10 (off:=1) (vs:=[(Value.slice p_7 (ts.length+1) c_7)]) (cs':=[(Value.slice s3.p2 s3.pl.length s3.c2),(Value.slice p_7 (ts.length+1) c_7),(Value.slice none 0 0)]) (AQ O) O sizeOf23 O (AE.nil (AD.subF (sL [1,2,3,5,6,7,8,10,4] O) (AD.in_normal ?_))))
        refine AD.then_ (AF.region (AP O (AH (AX (c:=((i+1:Nat):Int)) O O (AZ (a:=i) (b:=1) Z)) O (AJ O (AE.nil ?_)))))
        refine AD.subF (sL [1,2,3,5,6,7,8,10,4] O) ?_
        rw [show ts.length+1=(ts++[(n1,n2,n3)]).length by simp]
        exact AD.round5 (i+1) s3 p_7 c_7 (ts++[(n1,n2,n3)]) (⟨Z,hs3,(by simpa using ho_7),hv.step ((hm1.trans hm2).trans hm3) Z hs3.small ⟨⟨by show n1<_;have:=hm2.1;have:=hm3.1;omega,(hm3.2 _ (by have:=hm2.1;omega)).trans ((hm2.2 _ Z).trans hg1)⟩,⟨by show n2<_;have:=hm3.1;omega,(hm3.2 _ Z).trans hg2⟩,⟨by show n3<_;omega,hg3⟩⟩ (λa ha=>by rcases hu3 a ha with h|h;(rcases hu2 a h with h|h;(rcases hu1 a h with h|h;exact .inl h;exact .inr (.inl h.symm));exact .inr (.inr (.inl h.symm)));exact .inr (.inr (.inr h.symm)))⟩) Z (sF O) (sl (sl (sl (sl (sl sr)))))
 ·replace hc0:=of_decide_eq_false hc0
  have hi9:i=(Az m).length:=by omega
  rw [hi9] at hv
  refine AF.exit (AD.then_exit (AD.round5_exit (AD.in_exit (q1 (q4 ?_)))))
  refine AJ O (AE.nil (AD.then_ (AF.block ?_)))
  refine AF.lp4 (tg λ(ai:Nat) (p4:Option Addr) (c4:Nat) (ss:List (Nat×Nat×Nat))=>ai<=s.pl.length/\OwnOk p4 ss.length c4/\ss.length<=ai*108/\ss=EX m ts s.pl.length ai) (tg λ(ai:Nat) (p4:Option Addr) (c4:Nat) (ss:List (Nat×Nat×Nat))=>[(1,(pP b1 0)),(2,(pP b2 0)),(3,(pP b3 0)),(4,(Value.slice s.p1 s.pl.length s.c1)),(12,(vN ai))]) (tg λ(ai:Nat) (p4:Option Addr) (c4:Nat) (ss:List (Nat×Nat×Nat))=>[Ah gc.p (rowsL A_ (Az m)),rowW s.p1 147 2 s.pl.length s.c1 (rowsL A8 s.pl),rowW p4 79 3 ss.length c4 (rowsL Am ss),rowW p3 79 3 ts.length c3 (rowsL Am ts),rowW s.p2 121 2 s.pl.length s.c2 (rowsL CK (s.pts m)),Ae b3 119 ([(Value.slice s.p2 s.pl.length s.c2),(Value.slice p3 ts.length c3),(Value.slice p4 ss.length c4)]),Ae b2 119 ([(Value.slice none 0 0),(Value.slice none 0 0),(Value.slice none 0 0)]),Ae b1 50 (EE m),Ah m.p (Cl m.cs)]) (tg λ(ai:Nat) (p4:Option Addr) (c4:Nat) (ss:List (Nat×Nat×Nat))=>s.pl.length-ai) 0 none 0 ([]:List (Nat×Nat×Nat)) (⟨Nat.zero_le _,OwnOk.none,by simp,rfl⟩) (sF O) sr (λai p4 c4 ss hJ=>?_)
  obtain ⟨hai,h4,hsl,hsd⟩:=hJ
  refine AF.seq (q4 (AP O (AP O (AH (v:=(vN s.pl.length)) (AG O underlying158) O (AH (Af (c:=(decide (ai<s.pl.length))) O O (DB (a:=ai) (b:=s.pl.length))) O ?_)))))
  refine AE.nil (AD.subF (sL [1,2,3,4,12,87] O) (AD.then_ ?_))
  refine AF.cond O (λhc5=>?_) (λhc5=>?_)
  ·replace hc5:=of_decide_eq_true hc5
   refine AF.skip (q1 (AF.block (q4 (AP O (AH (AX (c:=((ai+1:Nat):Int)) O O (AZ (a:=ai) (b:=1) Z)) O ?_)))))
   refine AJ O (AE.nil (AD.subF (sL [1,2,3,4,12,13] O) (AD.then_ (AF.block ?_))))
   refine AF.lp4 (tg λ(bi:Nat) (p5:Option Addr) (c5:Nat) (sq9:List (Nat×Nat×Nat))=>bi<=s.pl.length/\ai+1<=bi/\OwnOk p5 sq9.length c5/\sq9.length<=ai*108+bi/\sq9=EX m ts s.pl.length ai++Id m ts ai (bi-(ai+1))) (tg λ(bi:Nat) (p5:Option Addr) (c5:Nat) (sq9:List (Nat×Nat×Nat))=>[(1,(pP b1 0)),(2,(pP b2 0)),(3,(pP b3 0)),(4,(Value.slice s.p1 s.pl.length s.c1)),(12,(vN ai)),(13,(vN bi))]) (tg λ(bi:Nat) (p5:Option Addr) (c5:Nat) (sq9:List (Nat×Nat×Nat))=>[Ah gc.p (rowsL A_ (Az m)),rowW s.p1 147 2 s.pl.length s.c1 (rowsL A8 s.pl),rowW p5 79 3 sq9.length c5 (rowsL Am sq9),rowW p3 79 3 ts.length c3 (rowsL Am ts),rowW s.p2 121 2 s.pl.length s.c2 (rowsL CK (s.pts m)),Ae b3 119 ([(Value.slice s.p2 s.pl.length s.c2),(Value.slice p3 ts.length c3),(Value.slice p5 sq9.length c5)]),Ae b2 119 ([(Value.slice none 0 0),(Value.slice none 0 0),(Value.slice none 0 0)]),Ae b1 50 (EE m),Ah m.p (Cl m.cs)]) (tg λ(bi:Nat) (p5:Option Addr) (c5:Nat) (sq9:List (Nat×Nat×Nat))=>s.pl.length-bi) (ai+1) p4 c4 ss (⟨Z,Nat.le_refl _,h4,Z,by rw [hsd,Nat.sub_self];exact (List.append_nil _).symm⟩) (sF O) sr (λbi p5 c5 sq9 hJ=>?_)
   obtain ⟨hbi,hba,h5,hsr,hsq⟩:=hJ
   refine AF.seq (q4 (AP O (AP O (AH (v:=(vN s.pl.length)) (AG O underlying158) O (AH (Af (c:=(decide (bi<s.pl.length))) O O (DB (a:=bi) (b:=s.pl.length))) O ?_)))))
   refine AE.nil (AD.subF (sL [1,2,3,4,12,13,95] O) (AD.then_ ?_))
   refine AF.cond O (λhc6=>?_) (λhc6=>?_)
   ·replace hc6:=of_decide_eq_true hc6
    refine AF.skip (q1 (AF.block (q4 (AJ O (AE.nil ?_)))))
    refine q1 (q4 (AJ O (AE.nil (AD.then_ (AF.block ?_)))))
    refine AF.lp2 (tg λ(ti:Nat) (cn:Nat)=>ti<=ts.length/\cn<=ti/\cn=G_ ts ai bi ti) (tg λ(ti:Nat) (cn:Nat)=>[(1,(pP b1 0)),(2,(pP b2 0)),(3,(pP b3 0)),(4,(Value.slice s.p1 s.pl.length s.c1)),(12,(vN ai)),(13,(vN bi)),(15,(vN ti)),(14,(vN cn))]) (tg λ(ti:Nat) (cn:Nat)=>[Ah gc.p (rowsL A_ (Az m)),rowW s.p1 147 2 s.pl.length s.c1 (rowsL A8 s.pl),rowW p5 79 3 sq9.length c5 (rowsL Am sq9),rowW p3 79 3 ts.length c3 (rowsL Am ts),rowW s.p2 121 2 s.pl.length s.c2 (rowsL CK (s.pts m)),Ae b3 119 ([(Value.slice s.p2 s.pl.length s.c2),(Value.slice p3 ts.length c3),(Value.slice p5 sq9.length c5)]),Ae b2 119 ([(Value.slice none 0 0),(Value.slice none 0 0),(Value.slice none 0 0)]),Ae b1 50 (EE m),Ah m.p (Cl m.cs)]) (tg λ(ti:Nat) (cn:Nat)=>ts.length-ti) 0 0 (⟨Nat.zero_le _,Nat.le_refl _,rfl⟩) (sF O) sr (λti cn hJ=>?_)
    obtain ⟨hti,hcn,hcw⟩:=hJ
    refine AF.seq (q4 (AP O (AH (v:=(pP b3 1)) (AA O underlying119 O sizeOf23 O) O (BN 5 (Value.slice p3 ts.length c3) C_ O (AH (v:=(vN ts.length)) (AG O underlying23) O ?_)))))
    refine AH (Af (c:=(decide (ti<ts.length))) O O (DB (a:=ti) (b:=ts.length))) O (AE.nil (AD.subF (sL [1,2,3,4,12,13,15,14,102] O) (AD.then_ ?_)))
    refine AF.cond O (λhc7=>?_) (λhc7=>?_)
    ·replace hc7:=of_decide_eq_true hc7
     refine AF.skip (q1 (AF.block (q4 (AH (v:=(pP b3 1)) (AA O underlying119 O sizeOf23 O) O (BN 5 (Value.slice p3 ts.length c3) C_ O ?_)))))
     refine AP O (AH (v:=(pP (pB p3) (pO p3+ti*3))) (AR (j:=ti) O O h3.row underlying23 sizeOf79 O Z) O (AH (v:=(aG (Am (ts.getD ti ((0,0,0):Nat×Nat×Nat))))) (CI (vs:=Am (ts.getD ti ((0,0,0):Nat×Nat×Nat))) (i:=3) O O h3 (Ag BC _) (BL.ne h3.row Z) Ie (Ar BC _ _ _ Z) (BC _)) O (AP O (BS call89 (R0 (ts.getD ti ((0,0,0):Nat×Nat×Nat)) ai) O (AP O ?_)))))
     refine AE.mid (FM:=[(1,(pP b1 0)),(2,(pP b2 0)),(3,(pP b3 0)),(4,(Value.slice s.p1 s.pl.length s.c1)),(12,(vN ai)),(13,(vN bi)),(15,(vN ti)),(14,(vN cn)),(105,(pP b3 1)),(106,(Value.slice p3 ts.length c3)),(107,(vN ti)),(108,(pP (pB p3) (pO p3+ti*3))),(109,(aG (Am (ts.getD ti ((0,0,0):Nat×Nat×Nat))))),(110,(vN ai)),(111,(Value.bool (Fs (ts.getD ti ((0,0,0):Nat×Nat×Nat)) ai))),(112,(Value.bool (Fs (ts.getD ti ((0,0,0):Nat×Nat×Nat)) ai))),(120,(Value.bool ((Fs (ts.getD ti ((0,0,0):Nat×Nat×Nat)) ai)&&(Fs (ts.getD ti ((0,0,0):Nat×Nat×Nat)) bi))))]) (LM:=[Ah gc.p (rowsL A_ (Az m)),rowW s.p1 147 2 s.pl.length s.c1 (rowsL A8 s.pl),rowW p5 79 3 sq9.length c5 (rowsL Am sq9),rowW p3 79 3 ts.length c3 (rowsL Am ts),rowW s.p2 121 2 s.pl.length s.c2 (rowsL CK (s.pts m)),Ae b3 119 ([(Value.slice s.p2 s.pl.length s.c2),(Value.slice p3 ts.length c3),(Value.slice p5 sq9.length c5)]),Ae b2 119 ([(Value.slice none 0 0),(Value.slice none 0 0),(Value.slice none 0 0)]),Ae b1 50 (EE m),Ah m.p (Cl m.cs)]) 8 ?_ ?_
     ·rcases Bool.eq_false_or_eq_true (Fs (ts.getD ti ((0,0,0):Nat×Nat×Nat)) ai) with hg1|hg1
      ·skip
       refine AE.retell (k:=112) (u:=Value.bool true) O (by rw [hg1]) ?_
       have hg1':=hg1
       skip
       refine AE.step (v:=(pP b3 1)) (AB O) (AA O underlying119 O sizeOf23 O) O (Ad O) (AE.step (v:=(Value.slice p3 ts.length c3)) (AB O) (AM (i:=5) (v:=(Value.slice p3 ts.length c3)) O O C_.a O) O (Ad O) (AE.step (v:=(vN ti)) (AB O) (BA O) O (Ad O) (AE.step (v:=(pP (pB p3) (pO p3+ti*3))) (AB O) (AR (j:=ti) O O h3.row underlying23 sizeOf79 O Z) O (Ad O) (AE.step (v:=(aG (Am (ts.getD ti ((0,0,0):Nat×Nat×Nat))))) (AB O) (CI (vs:=Am (ts.getD ti ((0,0,0):Nat×Nat×Nat))) (i:=3) O O h3 (Ag BC _) (BL.ne h3.row Z) Ie (Ar BC _ _ _ Z) (BC _)) O (Ad O) (AE.step (v:=(vN bi)) (AB O) (BA O) O (Ad O) ?_)))))
       exact AE.call (v:=(Value.bool (Fs (ts.getD ti ((0,0,0):Nat×Nat×Nat)) bi))) (AB O) (Ax (args:=[(aG (Am (ts.getD ti ((0,0,0):Nat×Nat×Nat)))),(vN bi)]) O O call89) (λw hw=>R0 (ts.getD ti ((0,0,0):Nat×Nat×Nat)) bi w) O (Ad O) (AH (v:=(Value.bool (Fs (ts.getD ti ((0,0,0):Nat×Nat×Nat)) bi))) (Al O O) O (AE.nil (AD.mid (sS O (sS O (sS O (sS O (sS O (sS O (sS O (sS O (sS O (sS O (sS O (sS O (sS O (sS O (sS O (sS (by first|rfl|(rw [hg1];rfl)|rw [hg1]) (sS (by first|rfl|(rw [hg1];rfl)|rw [hg1]) (sN)))))))))))))))))) (List.Sublist.refl _))))
      ·skip
       refine AE.retell (k:=112) (u:=Value.bool false) O (by rw [hg1]) ?_
       have hg1':=hg1
       skip
       refine AE.skip (AV O) O (Ad O) (AE.skip (AV O) O (Ad O) (AE.skip (AV O) O (Ad O) (AE.skip (AV O) O (Ad O) (AE.skip (AV O) O (Ad O) (AE.skip (AV O) O (Ad O) ?_)))))
       exact AE.skip (AV O) O (Ad O) (AH (v:=(Value.bool false)) (AW O O) O (AE.nil (AD.mid (sS O (sS O (sS O (sS O (sS O (sS O (sS O (sS O (sS O (sS O (sS O (sS O (sS O (sS O (sS O (sS (by first|rfl|(rw [hg1];rfl)|rw [hg1]) (sS (by first|rfl|(rw [hg1];rfl)|rw [hg1]) (sN)))))))))))))))))) (List.Sublist.refl _))))
     refine AE.nil (AD.subF (sL [1,2,3,4,12,13,15,14,120] O) (AD.then_ ?_))
     refine AF.cond O (λhc8=>?_) (λhc8=>?_)
     ·simp only [Bool.and_eq_true,Bool.or_eq_true,Bool.and_eq_false_iff,Bool.or_eq_false_iff,Bool.not_eq_true',Bool.not_eq_false',decide_eq_true_eq,decide_eq_false_iff_not] at hc8
      refine AF.region (AP O (AH (AX (c:=((cn+1:Nat):Int)) O O (AZ (a:=cn) (b:=1) Z)) O (AJ O (AE.nil (AD.subF (sL [1,2,3,4,12,13,15,14] O) ?_)))))
      refine AD.in_normal (AD.then_ (AF.region (AP O (AH (AX (c:=((ti+1:Nat):Int)) O O (AZ (a:=ti) (b:=1) Z)) O (AJ O ?_)))))
      exact AE.nil (AD.subF (sL [1,2,3,4,12,13,15,14] O) (AD.round2 (ti+1) (cn+1) (⟨Z,Z,by rw [hcw];exact (Q_ hc8).symm⟩) Z (sF O) sr))
     ·simp only [Bool.and_eq_true,Bool.or_eq_true,Bool.and_eq_false_iff,Bool.or_eq_false_iff,Bool.not_eq_true',Bool.not_eq_false',decide_eq_true_eq,decide_eq_false_iff_not] at hc8
      refine AF.skip (AD.in_normal (AD.then_ (AF.region (AP O (AH (AX (c:=((ti+1:Nat):Int)) O O (AZ (a:=ti) (b:=1) Z)) O ?_)))))
      exact AJ O (AE.nil (AD.subF (sL [1,2,3,4,12,13,15,14] O) (AD.round2 (ti+1) cn (⟨Z,Z,by rw [hcw];exact (Uh hc8).symm⟩) Z (sF O) sr)))
    ·replace hc7:=of_decide_eq_false hc7
     have hte:ti=ts.length:=by omega
     rw [hte] at hcw
     refine AF.exit (AD.then_exit (AD.round2_exit (AD.in_exit (q2 (AP O ?_)))))
     refine AH (BZ (c:=(decide (cn=1))) O O (NU (a:=cn) (b:=1))) O (AE.nil (AD.subF (sL [1,2,3,4,12,13,15,14,124] O) (AD.then_ ?_)))
     refine AF.cond O (λhc9=>?_) (λhc9=>?_)
     ·replace hc9:=of_decide_eq_true hc9
      refine AF.region (AH (v:=(pP b3 2)) (AA O underlying119 O sizeOf23 O) O (BN 5 (Value.slice p5 sq9.length c5) C_ O (AP O (AP O (AP O ?_)))))
      refine AP O (AH (Bq (c:=((3*bi:Nat):Int)) O O (C5 (a:=3) (b:=bi) Z)) O (AH (AX (c:=((ai+(3*bi):Nat):Int)) O O (AZ (a:=ai) (b:=3*bi) Z)) O (AH (v:=(pP b1 8)) (AA O underlying50 O sizeOf5 O) O (BN 7 (vK .u8 m.fst) SV O (AH (Ap (c:=((m.fst:Nat):Int)) O underlying5 underlying3 (Bv Z)) O ?_)))))
      refine AH (AX (c:=(((ai+(3*bi))+m.fst:Nat):Int)) O O (AZ (a:=ai+(3*bi)) (b:=m.fst) Z)) O (AH (Bo (c:=((((ai+(3*bi))+m.fst)%5:Nat):Int)) O O Z (GF (a:=(ai+(3*bi))+m.fst) (b:=5))) O (AH (v:=(aG (Am (ai,bi,((ai+(3*bi))+m.fst)%5)))) (Ao (zs:=Am ((0,0,0):Nat×Nat×Nat)) (vs:=Am (ai,bi,((ai+(3*bi))+m.fst)%5)) (pv:=[(0,(vN ai)),(1,(vN bi)),(2,(vN (((ai+(3*bi))+m.fst)%5)))]) zeroValue79 underlying79 sizeOf3 O (J8 ai bi (((ai+(3*bi))+m.fst)%5))) O (AE.openV (V:=λb4=>(Value.slice (some ⟨b4,0,none⟩) 1 1)) (T:=79) (cs:=Am (ai,bi,((ai+(3*bi))+m.fst)%5)) (AQ O) (BD (z:=.agg (Am ((0,0,0):Nat×Nat×Nat)).toArray) (cs:=Am (ai,bi,((ai+(3*bi))+m.fst)%5)) (pv:=[(0,(aG (Am (ai,bi,((ai+(3*bi))+m.fst)%5))))]) underlying23 sizeOf79 zeroValue79 (by decide) (by decide) O (GC (ai,bi,((ai+(3*bi))+m.fst)%5))) O (Ad O) λb4=>AE.appendAt 3 (j:=0) (cs2:=rowsL Am (sq9++[(ai,bi,((ai+(3*bi))+m.fst)%5)])) SB O h5 (Ag BC _) O O O O O (by decide) (JH Z) Z (by rw [BT];rfl) O λp_8 c_8 ho_8 hne_8=>AH (v:=(pP b3 2)) (AA O underlying119 O sizeOf23 O) O ?_)))
      refine GP 6 (off:=2) (vs:=[(Value.slice p_8 (sq9.length+1) c_8)]) (cs':=[(Value.slice s.p2 s.pl.length s.c2),(Value.slice p3 ts.length c3),(Value.slice p_8 (sq9.length+1) c_8)]) (AQ O) O sizeOf23 O (AE.nil (AD.subF (sL [1,2,3,4,12,13,15,14] O) (AD.in_normal (AD.then_ (AF.region ?_)))))
      refine AP O (AH (AX (c:=((bi+1:Nat):Int)) O O (AZ (a:=bi) (b:=1) Z)) O (AJ O (AE.nil (AD.subF (sL [1,2,3,4,12,13,15,14] O) ?_))))
      rw [show sq9.length+1=(sq9++[(ai,bi,((ai+(3*bi))+m.fst)%5)]).length by simp]
      exact AD.round4 (bi+1) p_8 c_8 (sq9++[(ai,bi,((ai+(3*bi))+m.fst)%5)]) (⟨Z,Z,(by simpa using ho_8),by rw [List.length_append];simp only [List.length_singleton];omega,(by rw [hsq];exact SU Z (by rw [<-hcw,hc9]))⟩) Z (sF O) (sl sr)
     ·replace hc9:=of_decide_eq_false hc9
      refine AF.skip (AD.in_normal (AD.then_ (AF.region (AP O (AH (AX (c:=((bi+1:Nat):Int)) O O (AZ (a:=bi) (b:=1) Z)) O ?_)))))
      exact AJ O (AE.nil (AD.subF (sL [1,2,3,4,12,13,15,14] O) (AD.round4 (bi+1) p5 c5 sq9 (⟨Z,Z,h5,Z,(by rw [hsq];exact UU Z (by rw [<-hcw];exact hc9))⟩) Z (sF O) sr)))
   ·replace hc6:=of_decide_eq_false hc6
    refine AF.exit (AD.then_exit (AD.round4_exit (AD.in_exit (AD.in_normal (AD.then_ ?_)))))
    exact AF.region (AP O (AH (AX (c:=((ai+1:Nat):Int)) O O (AZ (a:=ai) (b:=1) Z)) O (AJ O (AE.nil (AD.subF (sL [1,2,3,4,12,13] O) (AD.round4 (ai+1) p5 c5 sq9 (⟨Z,h5,Z,by rw [hsq,show bi=s.pl.length by omega];rfl⟩) Z (sF O) sr))))))
  ·replace hc5:=of_decide_eq_false hc5
   refine AF.exit (AD.then_exit (AD.round4_exit (AD.in_exit (q2 (BE 5 XK O ?_)))))
   exact GP 6 (off:=0) (vs:=[(Value.slice s.p2 s.pl.length s.c2),(Value.slice p3 ts.length c3),(Value.slice p4 ss.length c4)]) (cs':=[(Value.slice s.p2 s.pl.length s.c2),(Value.slice p3 ts.length c3),(Value.slice p4 ss.length c4)]) (AQ O) O sizeOf119 O (AE.nil (AD.subF (sL [1,2,3,4,12] O) (AD.then_ (AF.ret (AN O (A7 (i:=6) (cs:=[(Value.slice s.p2 s.pl.length s.c2),(Value.slice p3 ts.length c3),(Value.slice p4 ss.length c4)]) O O isAgg119 sizeOf119 O) (λw hw=>(W9 hw (WM.mk s.pl ts ss hv hs.dst Z (by rw [hsd,show ai=s.pl.length by omega]) ⟨s.p2,s.c2,hs.o2.row⟩ ⟨p3,c3,h3.row⟩ ⟨p4,c4,h4.row⟩) h3 3 O (HI (S:=λ_=>False) hw 4 O hs.o2 (by rw [Ag E_];simp [WS.pts])) (HI (S:=λ_=>False) hw 3 O h3 (Ag BC _)) (HI (S:=λ_=>False) hw 2 O h4 (Ag BC _)) O)))))))
end
end Go.Proofs.YtfbomiejpbchdaaGreatDoor
