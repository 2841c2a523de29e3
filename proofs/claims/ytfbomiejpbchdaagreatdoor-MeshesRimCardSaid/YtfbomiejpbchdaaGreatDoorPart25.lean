import Derived.Test.YtfbomiejpbchdaaGreatDoorPart06
import Derived.Test.YtfbomiejpbchdaaGreatDoorPart15
import Derived.Test.YtfbomiejpbchdaaGreatDoorPart21
import Derived.Test.YtfbomiejpbchdaaGreatDoorPart24
namespace Go.Proofs.YtfbomiejpbchdaaGreatDoor
open Go Go.RowKit Go.Proofs.Tryz
set_option linter.unusedVariables false
set_option linter.unusedSimpArgs false
section
set_option maxRecDepth 100000
theorem QE:ElemT prog 158 147 2 16:=⟨underlying158,EE (by kernel_rfl)⟩
theorem U4:ElemT prog 23 79 3 24:=⟨underlying23,EE (by kernel_rfl)⟩
theorem Qp:ElemT prog 117 121 2 16:=⟨underlying117,EE (by kernel_rfl)⟩
theorem QG (t:Nat×Nat×Nat) (x:Nat) (w:World)  :Calls prog 89 #[(aG (Av t)),(vN x)] w (Am w (Value.bool (FQ t x))):=by
 refine Ac (args:=[(aG (Av t)),(vN x)]) func89 O O (Ab O) (AF.subF (sL [0,1] O) (q4 (Bq (cs:=Av t) O λb1=>AK O (q3 (sL [1,2,4] O) ?_))))
 refine AG (v:=(pP b1 0)) (AC (j:=0) O O underlying79 sizeOf3 O (by decide) O) O (BO 0 (vN t.1) Bs O (AO O (AG (BU (c:=(decide (t.1=x))) O O (MY (a:=t.1) (b:=x))) O (AO O ?_))))
 refine AE.mid (FM:=[(1,(vN x)),(2,(pP b1 0)),(4,(Value.bool false)),(5,(pP b1 0)),(6,(vN t.1)),(7,(vN x)),(8,(Value.bool (decide (t.1=x)))),(9,(Value.bool (decide (t.1=x)))),(14,(Value.bool ((decide (t.1=x))||(decide (t.2.1=x)))))]) (LM:=[Ae b1 79 (Av t)]) 5 ?_ ?_
 ·rcases Bool.eq_false_or_eq_true (decide (t.1=x)) with hg1|hg1
  ·skip
   refine AE.retell (k:=9) (u:=Value.bool true) O (by rw [hg1]) ?_
   have hg1':=hg1
   replace hg1':=of_decide_eq_true hg1'
   exact AE.skip (AR O) O (Ab O) (AE.skip (AR O) O (Ab O) (AE.skip (AR O) O (Ab O) (AE.skip (AR O) O (Ab O) (AG (v:=(Value.bool true)) (Ah O O) O (AE.nil (AD.mid (sS O (sS O (sS O (sS O (sS O (sS O (sS O (sS (by first|rfl|(rw [hg1];rfl)|rw [hg1]) (sS (by first|rfl|(rw [hg1];rfl)|rw [hg1]) (sN)))))))))) (List.Sublist.refl _)))))))
  ·skip
   refine AE.retell (k:=9) (u:=Value.bool false) O (by rw [hg1]) ?_
   have hg1':=hg1
   replace hg1':=of_decide_eq_false hg1'
   exact AE.step (v:=(pP b1 1)) (AB O) (AC (j:=1) O O underlying79 sizeOf3 O (by decide) O) O (Ab O) (AE.step (v:=(vN t.2.1)) (AB O) (AM (i:=0) (v:=(vN t.2.1)) O O Bs.a O) O (Ab O) (AE.step (v:=(vN x)) (AB O) (Az O) O (Ab O) (AE.step (v:=(Value.bool (decide (t.2.1=x)))) (AB O) (BU (c:=(decide (t.2.1=x))) O O (MY (a:=t.2.1) (b:=x))) O (Ab O) (AG (v:=(Value.bool (decide (t.2.1=x)))) (AU O O) O (AE.nil (AD.mid (sS O (sS O (sS O (sS O (sS O (sS O (sS O (sS (by first|rfl|(rw [hg1];rfl)|rw [hg1]) (sS (by first|rfl|(rw [hg1];rfl)|rw [hg1]) (sN)))))))))) (List.Sublist.refl _)))))))
 refine AO O ?_
 refine AE.mid (FM:=[(1,(vN x)),(2,(pP b1 0)),(4,(Value.bool false)),(5,(pP b1 0)),(6,(vN t.1)),(7,(vN x)),(8,(Value.bool (decide (t.1=x)))),(9,(Value.bool (decide (t.1=x)))),(14,(Value.bool ((decide (t.1=x))||(decide (t.2.1=x))))),(15,(Value.bool ((decide (t.1=x))||(decide (t.2.1=x))))),(20,(Value.bool (((decide (t.1=x))||(decide (t.2.1=x)))||(decide (t.2.2=x)))))]) (LM:=[Ae b1 79 (Av t)]) 5 ?_ ?_
 ·rcases Bool.eq_false_or_eq_true ((decide (t.1=x))||(decide (t.2.1=x))) with hg2|hg2
  ·skip
   refine AE.retell (k:=15) (u:=Value.bool true) O (by rw [hg2]) ?_
   have hg2':=hg2
   simp only [Bool.and_eq_true,Bool.or_eq_true,Bool.and_eq_false_iff,Bool.or_eq_false_iff,Bool.not_eq_true',Bool.not_eq_false',decide_eq_true_eq,decide_eq_false_iff_not] at hg2'
   exact AE.skip (AR O) O (Ab O) (AE.skip (AR O) O (Ab O) (AE.skip (AR O) O (Ab O) (AE.skip (AR O) O (Ab O) (AG (v:=(Value.bool true)) (Ah O O) O (AE.nil (AD.mid (sS O (sS O (sS O (sS O (sS O (sS O (sS O (sS O (sS O (sS (by first|rfl|(rw [hg2];rfl)|rw [hg2]) (sS (by first|rfl|(rw [hg2];rfl)|rw [hg2]) (sN)))))))))))) (List.Sublist.refl _)))))))
  ·skip
   refine AE.retell (k:=15) (u:=Value.bool false) O (by rw [hg2]) ?_
   have hg2':=hg2
   simp only [Bool.and_eq_true,Bool.or_eq_true,Bool.and_eq_false_iff,Bool.or_eq_false_iff,Bool.not_eq_true',Bool.not_eq_false',decide_eq_true_eq,decide_eq_false_iff_not] at hg2'
   exact AE.step (v:=(pP b1 2)) (AB O) (AC (j:=2) O O underlying79 sizeOf3 O (by decide) O) O (Ab O) (AE.step (v:=(vN t.2.2)) (AB O) (AM (i:=0) (v:=(vN t.2.2)) O O Bs.a O) O (Ab O) (AE.step (v:=(vN x)) (AB O) (Az O) O (Ab O) (AE.step (v:=(Value.bool (decide (t.2.2=x)))) (AB O) (BU (c:=(decide (t.2.2=x))) O O (MY (a:=t.2.2) (b:=x))) O (Ab O) (AG (v:=(Value.bool (decide (t.2.2=x)))) (AU O O) O (AE.nil (AD.mid (sS O (sS O (sS O (sS O (sS O (sS O (sS O (sS O (sS O (sS (by first|rfl|(rw [hg2];rfl)|rw [hg2]) (sS (by first|rfl|(rw [hg2];rfl)|rw [hg2]) (sN)))))))))))) (List.Sublist.refl _)))))))
 exact AK O (AE.nil (AD.subF (sL [4] O) (AD.then_ (AF.ret (AP O (Ad (v:=(Value.bool (((decide (t.1=x))||(decide (t.2.1=x)))||(decide (t.2.2=x))))) O) (λw hw=>⟨by first|rfl|simp [FQ,Bool.or_assoc],hw.out⟩))))))
theorem D0 (x0:P2):Instr.fill (λi=>some (i*2,2)) ((Array.range (1*2)).map ((Value.agg (A7 ((0,0):P2)).toArray).cells[·%(Value.agg (A7 ((0,0):P2)).toArray).cells.size]!)) [(0,.agg (A7 x0).toArray)]=some (A7 x0).toArray:=by kernel_rfl
theorem Dx (x0:Int×Int):Instr.fill (λi=>some (i*2,2)) ((Array.range (1*2)).map ((Value.agg (CH ((0,0):Int×Int)).toArray).cells[·%(Value.agg (CH ((0,0):Int×Int)).toArray).cells.size]!)) [(0,.agg (CH x0).toArray)]=some (CH x0).toArray:=by kernel_rfl
theorem Fo (x0:Nat×Nat×Nat):Instr.fill (λi=>some (i*3,3)) ((Array.range (1*3)).map ((Value.agg (Av ((0,0,0):Nat×Nat×Nat)).toArray).cells[·%(Value.agg (Av ((0,0,0):Nat×Nat×Nat)).toArray).cells.size]!)) [(0,.agg (Av x0).toArray)]=some (Av x0).toArray:=by kernel_rfl
theorem JO (x0 x1 x2:Nat):Instr.fill (λi=>some (i*1,1)) (Av ((0,0,0):Nat×Nat×Nat)).toArray [(0,vN x0),(1,vN x1),(2,vN x2)]=some (Av (x0,x1,x2)).toArray:=by kernel_rfl
set_option maxHeartbeats 2000000 in
theorem M6 (m:MQ) (w:World) {S:Nat->Prop} (hm:Ro S w m):Calls prog 47 #[(aG (EA m))] w (B_ (UG m) (λ_=>False) w):=by
 have hf:=m.hfst
 have hf3:m.fst/3<=85:=by omega
 have lm:=Er (W:=w) hm
 refine BI (args:=[(aG (EA m))]) (L:=[Ai m.p (Co m.cs)]) func47 O O (Ab O) (En hm BW) (AF.subF (sL [0] O) (q4 (Bq (cs:=EA m) O λb1=>al Qv O λb2=>q3 (sL [1,2] O) ?_)))
 refine al Qv O λb3=>AE.nilRow 121 2 (AE.nilRow 79 3 (AE.nilRow 79 3 (AE.nil (q2 ?_))))
 refine AK O (AE.nilRow 147 2 (AE.nil (q2 (BD 6 LG O (cX (S:=S) (cs:=rowsL A_ (BF m)) (k:=(BF m).length) (args:=[(aG (EA m))]) call87 (λw hw=>PB m w (ER hw 7 O lm)) O O O λgc lgc=>?_)))))
 refine AK O (q6 (sL [1,2,3,4,5] O) (q4 (AK O (AE.nil (AD.then_ ?_)))))
 refine AF.block ?_
 refine AF.lp5 (tg λ(i:Nat) (s:WS) (p3:Option Addr) (c3:Nat) (ts:List (Nat×Nat×Nat))=>i<=(BF m).length/\WS.Ok s/\OwnOk p3 ts.length c3/\Kw m i (WS.pl s) ts) (tg λ(i:Nat) (s:WS) (p3:Option Addr) (c3:Nat) (ts:List (Nat×Nat×Nat))=>[(1,(pP b1 0)),(2,(pP b2 0)),(3,(pP b3 0)),(5,(Value.slice gc.p ((BF m).length) gc.c)),(6,(vN i)),(4,(Value.slice s.p1 s.pl.length s.c1))]) (tg λ(i:Nat) (s:WS) (p3:Option Addr) (c3:Nat) (ts:List (Nat×Nat×Nat))=>[Ai gc.p (rowsL A_ (BF m)),rowW s.p1 147 2 s.pl.length s.c1 (rowsL A7 s.pl),rowW none 79 3 0 0 (rowsL Av ([])),rowW p3 79 3 ts.length c3 (rowsL Av ts),rowW s.p2 121 2 s.pl.length s.c2 (rowsL CH (s.pts m)),Ae b3 119 ([(Value.slice s.p2 s.pl.length s.c2),(Value.slice p3 ts.length c3),(Value.slice none 0 0)]),Ae b2 119 ([(Value.slice none 0 0),(Value.slice none 0 0),(Value.slice none 0 0)]),Ae b1 50 (EA m),Ai m.p (Co m.cs)]) (tg λ(i:Nat) (s:WS) (p3:Option Addr) (c3:Nat) (ts:List (Nat×Nat×Nat))=>(BF m).length-i) 0 (WS.mk [] none 0 none 0) none 0 ([]:List (Nat×Nat×Nat)) (⟨Nat.zero_le _,⟨OwnOk.none,OwnOk.none,(λp hp=>by cases hp),S5⟩,OwnOk.none,VN m⟩) (sF O) sr (λi s p3 c3 ts hJ=>?_)
 obtain ⟨hi,hs,h3,hv⟩:=hJ
 have hpl:=hv.pll
 have htl:=hv.tl
 have hcl:=GR m
 refine AF.seq (q4 (AO O (AO O (AG (v:=(vN ((BF m).length))) (AH O underlying159) O (AG (Af (c:=(decide (i<((BF m).length)))) O O (C6 (a:=i) (b:=(BF m).length))) O ?_)))))
 refine AE.nil (AD.subF (sL [1,2,3,5,6,4,21] O) (AD.then_ ?_))
 refine AF.cond O (λhc0=>?_) (λhc0=>?_)
 ·replace hc0:=of_decide_eq_true hc0
  refine AF.skip (q1 (AF.block (q4 (al Lu O λb4=>AE.nil ?_))))
  refine q1 (q4 (AK O (AE.nil (AD.then_ (AF.block ?_)))))
  refine AF.unroll 4 (E3.step (AF.seq (q4 (AO O (AG (Af (c:=true) O O (by decide)) O ?_)))))
  refine AE.nil (AD.subF (sL [1,2,3,5,6,4,7,8,25] O) (AD.then_ (AF.cond_true O (AF.skip (q1 ?_)))))
  refine AF.block (AF.seq (C4 [(0,true),(1,true),(2,true),(3,true),(4,true),(5,true),(6,true),(7,true),(8,true),(9,true),(10,true),(11,true),(12,true),(13,true),(14,true),(15,true),(16,true),(17,true),(18,false),(19,false)] sr (Bo O (Bo O (Bo O ?_)))))
  refine Ay (v:=(pP b1 8)) O (AA O underlying50 O sizeOf5 O) (Bn 8 (vK .u8 m.fst) QY O (Ay O (Aq (c:=((m.fst:Nat):Int)) O underlying5 underlying3 (CC Z)) (Ay O (AX (c:=((0+m.fst:Nat):Int)) O O (AY (a:=0) (b:=m.fst) Z)) (Bo O (Ay (v:=(pP b1 8)) O (AA O underlying50 O sizeOf5 O) ?_)))))
  refine Bn 8 (vK .u8 m.fst) QY O (Ay O (Fh (c:=((m.fst/3:Nat):Int)) O O Z (LS (a:=m.fst) (b:=3) Z)) (Ay O (Aq (c:=((m.fst/3:Nat):Int)) O underlying5 underlying3 (CC Z)) ?_))
  have hmul:i*(m.fst/3)<=36*85:=Nat.mul_le_mul Z hf3
  refine Ay O (Br (c:=((i*(m.fst/3):Nat):Int)) O O (Cd (a:=i) (b:=m.fst/3) Z)) (Ay O (AX (c:=(((0+m.fst)+(i*(m.fst/3)):Nat):Int)) O O (AY (a:=0+m.fst) (b:=i*(m.fst/3)) Z)) ?_)
  obtain ⟨r9,hr9⟩:∃r,r=Jk m i 0:=⟨_,rfl⟩
  have hr3:r9<3:=by rw [hr9];exact Nat.mod_lt _ (by decide)
  refine Ay O (B6 (c:=((r9:Nat):Int)) O O (by decide) (by rw [hr9];exact HH (a:=0+m.fst+i*(m.fst/3)) (b:=3))) (Ay (v:=(pP (pB gc.p) (pO gc.p+i*6))) O (AN (j:=i) O O gc.ok underlying159 sizeOf161 O Z) (Ay (v:=(pP (pB gc.p) (pO gc.p+(i*6+r9*2)))) O (AC (j:=r9) O O underlying161 sizeOf147 O hr3 (Nat.add_assoc _ _ _)) (Ay (v:=(aG (A7 (Ao m i 0)))) O (AW (vs:=A7 (Ao m i 0)) (i:=1) O O (BB.ne gc.ok Z) Bl (HU _ i r9 Z hr3 _ O _ (by rw [hr9];rfl)) O) (AS.imp O (al Hw O λb5=>?_)))))
  refine AS.back (sl sr) (AS.imp O (Au O sizeOf147 O (AS.back (sl sr) (AS.nil (AD.subF (sL [1,2,3,5,6,4,7,8,9] O) ?_)))))
  refine q2 (AK O (AE.nil (q1 (q4 (AK O ?_)))))
  refine AE.nil (AD.then_ (AF.block ?_))
  refine AF.lp2 (tg λ(k:Nat) (a:Int)=>k<=s.pl.length/\((a = -1/\∀j,j<k->s.pl.getD j (0,0)≠Ao m i 0)\/0<=a/\a<(k:Int)/\s.pl.getD (Int.toNat a) (0,0)=Ao m i 0)) (tg λ(k:Nat) (a:Int)=>[(1,(pP b1 0)),(2,(pP b2 0)),(3,(pP b3 0)),(5,(Value.slice gc.p ((BF m).length) gc.c)),(6,(vN i)),(4,(Value.slice s.p1 s.pl.length s.c1)),(7,(pP b4 0)),(8,(vI 0)),(9,(pP b5 0)),(11,(vN k)),(10,(vI a))]) (tg λ(k:Nat) (a:Int)=>[Ae b5 147 (A7 (Ao m i 0)),Ae b4 79 (Av ((0,0,0):Nat×Nat×Nat)),Ai gc.p (rowsL A_ (BF m)),rowW s.p1 147 2 s.pl.length s.c1 (rowsL A7 s.pl),rowW none 79 3 0 0 (rowsL Av ([])),rowW p3 79 3 ts.length c3 (rowsL Av ts),rowW s.p2 121 2 s.pl.length s.c2 (rowsL CH (s.pts m)),Ae b3 119 ([(Value.slice s.p2 s.pl.length s.c2),(Value.slice p3 ts.length c3),(Value.slice none 0 0)]),Ae b2 119 ([(Value.slice none 0 0),(Value.slice none 0 0),(Value.slice none 0 0)]),Ae b1 50 (EA m),Ai m.p (Co m.cs)]) (tg λ(k:Nat) (a:Int)=>s.pl.length-k) 0 (-1:Int) (⟨Nat.zero_le _,.inl ⟨rfl,λj hj=>absurd hj (Nat.not_lt_zero _)⟩⟩) (sF O) sr (λk a hJ=>?_)
  obtain ⟨hk,ha⟩:=hJ
  refine AF.seq (q4 (AO O (AO O (AG (v:=(vN s.pl.length)) (AH O underlying158) O (AG (Af (c:=(decide (k<s.pl.length))) O O (C6 (a:=k) (b:=s.pl.length))) O ?_)))))
  refine AE.nil (AD.subF (sL [1,2,3,5,6,4,7,8,9,11,10,49] O) (AD.then_ ?_))
  refine AF.cond O (λhc2=>?_) (λhc2=>?_)
  ·replace hc2:=of_decide_eq_true hc2
   refine AF.skip (q1 (AF.block (AF.seq (C4 [(0,true),(1,true),(2,true),(3,true),(4,true),(5,true)] sr (Bo O ?_)))))
   refine Bo O (Ay (v:=(pP (pB s.p1) (pO s.p1+k*2))) O (AN (j:=k) O O hs.o1.row underlying158 sizeOf147 O Z) (Ay (v:=(aG (A7 (s.pl.getD k ((0,0):P2))))) O (CW (vs:=A7 (s.pl.getD k ((0,0):P2))) (i:=3) O O hs.o1 (An Cg _) (BB.ne hs.o1.row Z) Bl (Ar Cg _ _ _ Z) (Cg _)) (Es 0 Bl O (Ay O (Bx (c:=decide (s.pl.getD k ((0,0):P2)=(Ao m i 0))) O O eqGuardType147 (Kf 9998 (s.pl.getD k ((0,0):P2)) (Ao m i 0))) (AS.nil ?_)))))
   refine AD.subF (sL [1,2,3,5,6,4,7,8,9,11,10,57] O) (AD.then_ ?_)
   refine AF.cond O (λhc3=>?_) (λhc3=>?_)
   ·replace hc3:=of_decide_eq_true hc3
    refine AF.region (AO O (AK O (AE.nil (AD.subF (sL [1,2,3,5,6,4,7,8,9,11,10] O) (AD.in_normal ?_)))))
    refine AD.then_ (AF.region (AO O (AG (AX (c:=((k+1:Nat):Int)) O O (AY (a:=k) (b:=1) Z)) O (AK O (AE.nil ?_)))))
    exact AD.subF (sL [1,2,3,5,6,4,7,8,9,11,10] O) (AD.round2 (k+1) (k:Int) (⟨Z,.inr ⟨Z,Z,by simpa using hc3⟩⟩) Z (sF O) sr)
   ·replace hc3:=of_decide_eq_false hc3
    refine AF.skip (AD.in_normal (AD.then_ (AF.region (AO O (AG (AX (c:=((k+1:Nat):Int)) O O (AY (a:=k) (b:=1) Z)) O ?_)))))
    exact AK O (AE.nil (AD.subF (sL [1,2,3,5,6,4,7,8,9,11,10] O) (AD.round2 (k+1) a (⟨Z,ha.elim (λh=>.inl ⟨h.1,λj hj=>by rcases Nat.lt_or_ge j k with h1|h1;exact h.2 j h1;(obtain rfl:j=k:=by omega);simpa using hc3⟩) (λh=>.inr ⟨h.1,Z,h.2.2⟩)⟩) Z (sF O) sr)))
  ·replace hc2:=of_decide_eq_false hc2
   refine AF.exit (AD.then_exit (AD.round2_exit (AD.in_exit (q1 (q4 ?_)))))
   refine AO O (AG (Af (c:=(decide (a<(0:Int)))) O O O) O (AE.nil (AD.subF (sL [1,2,3,5,6,4,7,8,9,11,10,60] O) (AD.then_ ?_))))
   refine AF.jn2 (tg λ(s1:WS) (n1:Nat)=>WS.Ok s1/\FB s.pl (WS.pl s1)/\(WS.pl s1).length<=s.pl.length+1/\n1<(WS.pl s1).length/\(WS.pl s1).getD n1 (0,0)=Ao m i 0/\∀a,a<(WS.pl s1).length->a<s.pl.length\/a=n1) (tg λ(s1:WS) (n1:Nat)=>[(1,(pP b1 0)),(2,(pP b2 0)),(3,(pP b3 0)),(5,(Value.slice gc.p ((BF m).length) gc.c)),(6,(vN i)),(7,(pP b4 0)),(8,(vI 0)),(10,(vN n1)),(4,(Value.slice s1.p1 s1.pl.length s1.c1))]) (tg λ(s1:WS) (n1:Nat)=>[Ae b5 147 (A7 (Ao m i 0)),Ae b4 79 (Av ((0,0,0):Nat×Nat×Nat)),Ai gc.p (rowsL A_ (BF m)),rowW s1.p1 147 2 s1.pl.length s1.c1 (rowsL A7 s1.pl),rowW none 79 3 0 0 (rowsL Av ([])),rowW p3 79 3 ts.length c3 (rowsL Av ts),rowW s1.p2 121 2 s1.pl.length s1.c2 (rowsL CH (s1.pts m)),Ae b3 119 ([(Value.slice s1.p2 s1.pl.length s1.c2),(Value.slice p3 ts.length c3),(Value.slice none 0 0)]),Ae b2 119 ([(Value.slice none 0 0),(Value.slice none 0 0),(Value.slice none 0 0)]),Ae b1 50 (EA m),Ai m.p (Co m.cs)]) ?_ ?_
   ·skip
    refine AF.cond O (λhc4=>?_) (λhc4=>?_)
    ·replace hc4:=of_decide_eq_true hc4
     refine q4 (AO O (AG (v:=(vN s.pl.length)) (AH O underlying158) O (AK O (q3 (sL [1,2,3,5,6,4,7,8,9,11,10] O) (AO O ?_)))))
     refine BD 0 Bl O (AE.openV (V:=λb6=>(Value.slice (some ⟨b6,0,none⟩) 1 1)) (T:=147) (cs:=A7 (Ao m i 0)) (AQ O) (BA (z:=.agg (A7 ((0,0):P2)).toArray) (cs:=A7 (Ao m i 0)) (pv:=[(0,(aG (A7 (Ao m i 0))))]) underlying158 sizeOf147 zeroValue147 (by decide) (by decide) O (D0 (Ao m i 0))) O (Ab O) λb6=>AE.appendAt 4 (j:=0) (cs2:=rowsL A7 (s.pl++[(Ao m i 0)])) QE O hs.o1 (An Cg _) O O O O O (by decide) (Ka Z) Z (by rw [Bb];rfl) O λp_1 c_1 ho_1 hne_1=>AK O (AE.nil (AD.subF (sL [1,2,3,5,6,4,7,8,9,11,10] O) ?_)))
     refine AD.then_ (rC [(0,true),(1,true),(2,true),(3,true),(4,false),(5,false),(6,false),(7,true)] 8 [] (sk (sk (sk (sk (sk (sk (sk (sl sr)))))))) (sk (sk (sk (sk (sk (sk (sk (sl sr)))))))) (by kernel_rfl) (λ_ _ d _ _ h=>by cases d<;>exact h) (vE (v:=(pP b3 0)) O (AA O underlying119 O sizeOf117 O) O (vE O (AM (i:=7) (v:=(Value.slice s.p2 s.pl.length s.c2)) O O KL.a O) O (vE (v:=(aG (EA m))) O (Al (i:=9) (vs:=EA m) O O LG.a LG.s O O) O (vE (v:=(aG (A7 (Ao m i 0)))) O (Al (i:=1) (vs:=A7 (Ao m i 0)) O O Bl.a Bl.s O O) O ?_)))))
     refine CK.imp O (ET call88 (λw hw=>Hg m (Ao m i 0) (Dg Z) w (ER hw 11 O lm)) O (CK.back (sk (sk (sk (sk (sk (sk (sk (sl sr)))))))) (CK.imp O (AE.openV (V:=λb7=>(Value.slice (some ⟨b7,0,none⟩) 1 1)) (T:=121) (cs:=CH ((mapM m).at_ (Ao m i 0))) (AQ O) (BA (z:=.agg (CH ((0,0):Int×Int)).toArray) (cs:=CH ((mapM m).at_ (Ao m i 0))) (pv:=[(0,(aG (CH ((mapM m).at_ (Ao m i 0)))))]) underlying117 sizeOf121 zeroValue121 (by decide) (by decide) O (Dx ((mapM m).at_ (Ao m i 0)))) O (Ab O) λb7=>CK.back (sl (sk (sk (sk (sk (sk (sk (sk (sl sr))))))))) ?_))))
     refine CK.imp O (AE.appendAt 8 (j:=0) (cs2:=rowsL CH ((s.pts m)++[((mapM m).at_ (Ao m i 0))])) Qp O hs.o2 (by rw [An Ew];simp [WS.pts]) O O O O O (by decide) (Ka Z) Z (by rw [Bb];rfl) O λp_2 c_2 ho_2 hne_2=>CK.back (sl (sk (sk (sk (sk (sk (sk (sk (sl sr))))))))) (vE (v:=(pP b3 0)) O (AA O underlying119 O sizeOf117 O) O (CK.cut O (F_ 9 (off:=0) (vs:=[(Value.slice p_2 (s.pl.length+1) c_2)]) (cs':=[(Value.slice p_2 (s.pl.length+1) c_2),(Value.slice p3 ts.length c3),(Value.slice none 0 0)]) (AQ O) O sizeOf117 O ?_))))
     refine AS.back (sl (sk (sk (sk (sk (sk (sk (sk (sl (sl sr)))))))))) (AS.nil (AD.subF (sL [1,2,3,5,6,4,7,8,9,11,10] O) ?_))
     rw [show s.pl.length+1=(s.pl++[Ao m i 0]).length by simp]
     rw [show s.pts m++[(mapM m).at_ (Ao m i 0)]=WS.pts (WS.mk (s.pl++[Ao m i 0]) p_1 c_1 p_2 c_2) m by simp [WS.pts]]
     exact AD.join2 (WS.mk (s.pl++[Ao m i 0]) p_1 c_1 p_2 c_2) s.pl.length (⟨⟨(by simpa using ho_1),(by simpa using ho_2),λp hp=>(List.mem_append.1 hp).elim (hs.small p) (λe=>by rw [List.mem_singleton.1 e];exact Dg Z),Il hs.dst (λj hj=>(ha.elim id (λh=>absurd h.1 Z)).2 j Z)⟩,FB.snoc _ _,by simp,by simp,C0 _ _,λa ha=>by simp only [List.length_append,List.length_singleton] at ha;omega⟩) (sF O) (sl (sl sr))
    ·replace hc4:=of_decide_eq_false hc4
     refine AF.retell (k:=10) (u:=(vN a.toNat)) O (by show Value.int _ _=Value.int _ _;congr 1;omega) (AF.skip ?_)
     obtain ⟨ha1,ha2,ha3⟩:=ha.resolve_left (λh=>by have:=h.1;omega)
     exact AD.join2 s a.toNat (⟨hs,FB.refl _,Z,Z,ha3,λa ha=>.inl ha⟩) (sF O) sr
   ·intro s1 n1 hJ
    obtain ⟨hs1,hm1,hl1,hn1,hg1,hu1⟩:=hJ
    refine AD.then_ (AF.region (AO O (AO O (AG (v:=(pP b4 0)) (AC (j:=0) O O underlying79 sizeOf3 O (by decide) O) O (F_ 1 (off:=0) (vs:=[(vN n1)]) (cs':=[(vN n1),(vI 0),(vI 0)]) (AQ O) O sizeOf3 O ?_)))))
    refine AE.nil (AD.subF (sL [1,2,3,5,6,7,8,10,4] O) (AD.in_normal (AD.then_ (AF.region (AO O ?_)))))
    refine AG (AX (c:=(1:Int)) O O (by decide)) O (AK O (AE.nil (AD.subF (sL [1,2,3,5,6,7,8,10,4] O) (AD.again (E3.step ?_)))))
    refine AF.seq (q4 (AO O (AG (Af (c:=true) O O (by decide)) O (AE.nil (AD.subF (sL [1,2,3,5,6,7,8,10,4,25] O) ?_)))))
    refine AD.then_ (AF.cond_true O (AF.skip (q1 (AF.block (AF.seq ?_)))))
    refine C4 [(0,true),(1,true),(2,true),(3,true),(4,true),(5,true),(6,true),(7,true),(8,true),(9,true),(10,true),(11,true),(12,true),(13,true),(14,true),(15,true),(16,true),(17,true),(18,false),(19,false)] sr (Bo O (Bo O (Bo O (Ay (v:=(pP b1 8)) O (AA O underlying50 O sizeOf5 O) (Bn 9 (vK .u8 m.fst) QY O ?_)))))
    refine Ay O (Aq (c:=((m.fst:Nat):Int)) O underlying5 underlying3 (CC Z)) (Ay O (AX (c:=((1+m.fst:Nat):Int)) O O (AY (a:=1) (b:=m.fst) Z)) (Bo O (Ay (v:=(pP b1 8)) O (AA O underlying50 O sizeOf5 O) (Bn 9 (vK .u8 m.fst) QY O (Ay O (Fh (c:=((m.fst/3:Nat):Int)) O O Z (LS (a:=m.fst) (b:=3) Z)) ?_)))))
    refine Ay O (Aq (c:=((m.fst/3:Nat):Int)) O underlying5 underlying3 (CC Z)) ?_
    have hmul:i*(m.fst/3)<=36*85:=Nat.mul_le_mul Z hf3
    refine Ay O (Br (c:=((i*(m.fst/3):Nat):Int)) O O (Cd (a:=i) (b:=m.fst/3) Z)) (Ay O (AX (c:=(((1+m.fst)+(i*(m.fst/3)):Nat):Int)) O O (AY (a:=1+m.fst) (b:=i*(m.fst/3)) Z)) ?_)
    obtain ⟨r9,hr9⟩:∃r,r=Jk m i 1:=⟨_,rfl⟩
    have hr3:r9<3:=by rw [hr9];exact Nat.mod_lt _ (by decide)
    refine Ay O (B6 (c:=((r9:Nat):Int)) O O (by decide) (by rw [hr9];exact HH (a:=1+m.fst+i*(m.fst/3)) (b:=3))) (Ay (v:=(pP (pB gc.p) (pO gc.p+i*6))) O (AN (j:=i) O O gc.ok underlying159 sizeOf161 O Z) (Ay (v:=(pP (pB gc.p) (pO gc.p+(i*6+r9*2)))) O (AC (j:=r9) O O underlying161 sizeOf147 O hr3 (Nat.add_assoc _ _ _)) (Ay (v:=(aG (A7 (Ao m i 1)))) O (AW (vs:=A7 (Ao m i 1)) (i:=2) O O (BB.ne gc.ok Z) Bl (HU _ i r9 Z hr3 _ O _ (by rw [hr9];rfl)) O) (AS.imp O (al Hw O λb6=>?_)))))
    refine AS.back (sl sr) (AS.imp O (Au O sizeOf147 O (AS.back (sl sr) (AS.nil (AD.subF (sL [1,2,3,5,6,7,8,10,4,9] O) ?_)))))
    refine q2 (AK O (AE.nil (q1 (q4 (AK O ?_)))))
    refine AE.nil (AD.then_ (AF.block ?_))
    refine AF.lp2 (tg λ(k:Nat) (a:Int)=>k<=s1.pl.length/\((a = -1/\∀j,j<k->s1.pl.getD j (0,0)≠Ao m i 1)\/0<=a/\a<(k:Int)/\s1.pl.getD (Int.toNat a) (0,0)=Ao m i 1)) (tg λ(k:Nat) (a:Int)=>[(1,(pP b1 0)),(2,(pP b2 0)),(3,(pP b3 0)),(5,(Value.slice gc.p ((BF m).length) gc.c)),(6,(vN i)),(7,(pP b4 0)),(8,(vI 1)),(4,(Value.slice s1.p1 s1.pl.length s1.c1)),(9,(pP b6 0)),(11,(vN k)),(10,(vI a))]) (tg λ(k:Nat) (a:Int)=>[Ae b6 147 (A7 (Ao m i 1)),Ae b5 147 (A7 (Ao m i 0)),Ae b4 79 ([(vN n1),(vI 0),(vI 0)]),Ai gc.p (rowsL A_ (BF m)),rowW s1.p1 147 2 s1.pl.length s1.c1 (rowsL A7 s1.pl),rowW none 79 3 0 0 (rowsL Av ([])),rowW p3 79 3 ts.length c3 (rowsL Av ts),rowW s1.p2 121 2 s1.pl.length s1.c2 (rowsL CH (s1.pts m)),Ae b3 119 ([(Value.slice s1.p2 s1.pl.length s1.c2),(Value.slice p3 ts.length c3),(Value.slice none 0 0)]),Ae b2 119 ([(Value.slice none 0 0),(Value.slice none 0 0),(Value.slice none 0 0)]),Ae b1 50 (EA m),Ai m.p (Co m.cs)]) (tg λ(k:Nat) (a:Int)=>s1.pl.length-k) 0 (-1:Int) (⟨Nat.zero_le _,.inl ⟨rfl,λj hj=>absurd hj (Nat.not_lt_zero _)⟩⟩) (sF O) sr (λk a hJ=>?_)
    obtain ⟨hk,ha⟩:=hJ
    refine AF.seq (q4 (AO O (AO O (AG (v:=(vN s1.pl.length)) (AH O underlying158) O (AG (Af (c:=(decide (k<s1.pl.length))) O O (C6 (a:=k) (b:=s1.pl.length))) O ?_)))))
    refine AE.nil (AD.subF (sL [1,2,3,5,6,7,8,4,9,11,10,49] O) (AD.then_ ?_))
    refine AF.cond O (λhc2=>?_) (λhc2=>?_)
    ·replace hc2:=of_decide_eq_true hc2
     refine AF.skip (q1 (AF.block (AF.seq (C4 [(0,true),(1,true),(2,true),(3,true),(4,true),(5,true)] sr (Bo O ?_)))))
     refine Bo O (Ay (v:=(pP (pB s1.p1) (pO s1.p1+k*2))) O (AN (j:=k) O O hs1.o1.row underlying158 sizeOf147 O Z) (Ay (v:=(aG (A7 (s1.pl.getD k ((0,0):P2))))) O (CW (vs:=A7 (s1.pl.getD k ((0,0):P2))) (i:=4) O O hs1.o1 (An Cg _) (BB.ne hs1.o1.row Z) Bl (Ar Cg _ _ _ Z) (Cg _)) (Es 0 Bl O (Ay O (Bx (c:=decide (s1.pl.getD k ((0,0):P2)=(Ao m i 1))) O O eqGuardType147 (Kf 9998 (s1.pl.getD k ((0,0):P2)) (Ao m i 1))) (AS.nil ?_)))))
     refine AD.subF (sL [1,2,3,5,6,7,8,4,9,11,10,57] O) (AD.then_ ?_)
     refine AF.cond O (λhc3=>?_) (λhc3=>?_)
     ·replace hc3:=of_decide_eq_true hc3
      refine AF.region (AO O (AK O (AE.nil (AD.subF (sL [1,2,3,5,6,7,8,4,9,11,10] O) (AD.in_normal ?_)))))
      refine AD.then_ (AF.region (AO O (AG (AX (c:=((k+1:Nat):Int)) O O (AY (a:=k) (b:=1) Z)) O (AK O (AE.nil ?_)))))
      exact AD.subF (sL [1,2,3,5,6,7,8,4,9,11,10] O) (AD.round2 (k+1) (k:Int) (⟨Z,.inr ⟨Z,Z,by simpa using hc3⟩⟩) Z (sF O) sr)
     ·replace hc3:=of_decide_eq_false hc3
      refine AF.skip (AD.in_normal (AD.then_ (AF.region (AO O (AG (AX (c:=((k+1:Nat):Int)) O O (AY (a:=k) (b:=1) Z)) O ?_)))))
      exact AK O (AE.nil (AD.subF (sL [1,2,3,5,6,7,8,4,9,11,10] O) (AD.round2 (k+1) a (⟨Z,ha.elim (λh=>.inl ⟨h.1,λj hj=>by rcases Nat.lt_or_ge j k with h1|h1;exact h.2 j h1;(obtain rfl:j=k:=by omega);simpa using hc3⟩) (λh=>.inr ⟨h.1,Z,h.2.2⟩)⟩) Z (sF O) sr)))
    ·replace hc2:=of_decide_eq_false hc2
     refine AF.exit (AD.then_exit (AD.round2_exit (AD.in_exit (q1 (q4 ?_)))))
     refine AO O (AG (Af (c:=(decide (a<(0:Int)))) O O O) O (AE.nil (AD.subF (sL [1,2,3,5,6,7,8,4,9,11,10,60] O) (AD.then_ ?_))))
     refine AF.jn2 (tg λ(s2:WS) (n2:Nat)=>WS.Ok s2/\FB s1.pl (WS.pl s2)/\(WS.pl s2).length<=s1.pl.length+1/\n2<(WS.pl s2).length/\(WS.pl s2).getD n2 (0,0)=Ao m i 1/\∀a,a<(WS.pl s2).length->a<s1.pl.length\/a=n2) (tg λ(s2:WS) (n2:Nat)=>[(1,(pP b1 0)),(2,(pP b2 0)),(3,(pP b3 0)),(5,(Value.slice gc.p ((BF m).length) gc.c)),(6,(vN i)),(7,(pP b4 0)),(8,(vI 1)),(10,(vN n2)),(4,(Value.slice s2.p1 s2.pl.length s2.c1))]) (tg λ(s2:WS) (n2:Nat)=>[Ae b6 147 (A7 (Ao m i 1)),Ae b5 147 (A7 (Ao m i 0)),Ae b4 79 ([(vN n1),(vI 0),(vI 0)]),Ai gc.p (rowsL A_ (BF m)),rowW s2.p1 147 2 s2.pl.length s2.c1 (rowsL A7 s2.pl),rowW none 79 3 0 0 (rowsL Av ([])),rowW p3 79 3 ts.length c3 (rowsL Av ts),rowW s2.p2 121 2 s2.pl.length s2.c2 (rowsL CH (s2.pts m)),Ae b3 119 ([(Value.slice s2.p2 s2.pl.length s2.c2),(Value.slice p3 ts.length c3),(Value.slice none 0 0)]),Ae b2 119 ([(Value.slice none 0 0),(Value.slice none 0 0),(Value.slice none 0 0)]),Ae b1 50 (EA m),Ai m.p (Co m.cs)]) ?_ ?_
     ·skip
      refine AF.cond O (λhc4=>?_) (λhc4=>?_)
      ·replace hc4:=of_decide_eq_true hc4
       refine q4 (AO O (AG (v:=(vN s1.pl.length)) (AH O underlying158) O (AK O (q3 (sL [1,2,3,5,6,7,8,4,9,11,10] O) (AO O ?_)))))
       refine BD 0 Bl O (AE.openV (V:=λb7=>(Value.slice (some ⟨b7,0,none⟩) 1 1)) (T:=147) (cs:=A7 (Ao m i 1)) (AQ O) (BA (z:=.agg (A7 ((0,0):P2)).toArray) (cs:=A7 (Ao m i 1)) (pv:=[(0,(aG (A7 (Ao m i 1))))]) underlying158 sizeOf147 zeroValue147 (by decide) (by decide) O (D0 (Ao m i 1))) O (Ab O) λb7=>AE.appendAt 5 (j:=0) (cs2:=rowsL A7 (s1.pl++[(Ao m i 1)])) QE O hs1.o1 (An Cg _) O O O O O (by decide) (Ka Z) Z (by rw [Bb];rfl) O λp_3 c_3 ho_3 hne_3=>AK O (AE.nil (AD.subF (sL [1,2,3,5,6,7,8,4,9,11,10] O) ?_)))
       refine AD.then_ (rC [(0,true),(1,true),(2,true),(3,true),(4,false),(5,false),(6,false),(7,true)] 8 [] (sk (sk (sk (sk (sk (sk (sk (sk (sl sr))))))))) (sk (sk (sk (sk (sk (sk (sk (sk (sl sr))))))))) (by kernel_rfl) (λ_ _ d _ _ h=>by cases d<;>exact h) (vE (v:=(pP b3 0)) O (AA O underlying119 O sizeOf117 O) O (vE O (AM (i:=8) (v:=(Value.slice s1.p2 s1.pl.length s1.c2)) O O KL.a O) O (vE (v:=(aG (EA m))) O (Al (i:=10) (vs:=EA m) O O LG.a LG.s O O) O (vE (v:=(aG (A7 (Ao m i 1)))) O (Al (i:=1) (vs:=A7 (Ao m i 1)) O O Bl.a Bl.s O O) O ?_)))))
       refine CK.imp O (ET call88 (λw hw=>Hg m (Ao m i 1) (Dg Z) w (ER hw 12 O lm)) O (CK.back (sk (sk (sk (sk (sk (sk (sk (sk (sl sr))))))))) (CK.imp O (AE.openV (V:=λb8=>(Value.slice (some ⟨b8,0,none⟩) 1 1)) (T:=121) (cs:=CH ((mapM m).at_ (Ao m i 1))) (AQ O) (BA (z:=.agg (CH ((0,0):Int×Int)).toArray) (cs:=CH ((mapM m).at_ (Ao m i 1))) (pv:=[(0,(aG (CH ((mapM m).at_ (Ao m i 1)))))]) underlying117 sizeOf121 zeroValue121 (by decide) (by decide) O (Dx ((mapM m).at_ (Ao m i 1)))) O (Ab O) λb8=>CK.back (sl (sk (sk (sk (sk (sk (sk (sk (sk (sl sr)))))))))) ?_))))
       refine CK.imp O (AE.appendAt 9 (j:=0) (cs2:=rowsL CH ((s1.pts m)++[((mapM m).at_ (Ao m i 1))])) Qp O hs1.o2 (by rw [An Ew];simp [WS.pts]) O O O O O (by decide) (Ka Z) Z (by rw [Bb];rfl) O λp_4 c_4 ho_4 hne_4=>CK.back (sl (sk (sk (sk (sk (sk (sk (sk (sk (sl sr)))))))))) (vE (v:=(pP b3 0)) O (AA O underlying119 O sizeOf117 O) O (CK.cut O (F_ 10 (off:=0) (vs:=[(Value.slice p_4 (s1.pl.length+1) c_4)]) (cs':=[(Value.slice p_4 (s1.pl.length+1) c_4),(Value.slice p3 ts.length c3),(Value.slice none 0 0)]) (AQ O) O sizeOf117 O ?_))))
       refine AS.back (sl (sk (sk (sk (sk (sk (sk (sk (sk (sl (sl sr))))))))))) (AS.nil (AD.subF (sL [1,2,3,5,6,7,8,4,9,11,10] O) ?_))
       rw [show s1.pl.length+1=(s1.pl++[Ao m i 1]).length by simp]
       rw [show s1.pts m++[(mapM m).at_ (Ao m i 1)]=WS.pts (WS.mk (s1.pl++[Ao m i 1]) p_3 c_3 p_4 c_4) m by simp [WS.pts]]
       exact AD.join2 (WS.mk (s1.pl++[Ao m i 1]) p_3 c_3 p_4 c_4) s1.pl.length (⟨⟨(by simpa using ho_3),(by simpa using ho_4),λp hp=>(List.mem_append.1 hp).elim (hs1.small p) (λe=>by rw [List.mem_singleton.1 e];exact Dg Z),Il hs1.dst (λj hj=>(ha.elim id (λh=>absurd h.1 Z)).2 j Z)⟩,FB.snoc _ _,by simp,by simp,C0 _ _,λa ha=>by simp only [List.length_append,List.length_singleton] at ha;omega⟩) (sF O) (sl (sl sr))
      ·replace hc4:=of_decide_eq_false hc4
       refine AF.retell (k:=10) (u:=(vN a.toNat)) O (by show Value.int _ _=Value.int _ _;congr 1;omega) (AF.skip ?_)
       obtain ⟨ha1,ha2,ha3⟩:=ha.resolve_left (λh=>by have:=h.1;omega)
       exact AD.join2 s1 a.toNat (⟨hs1,FB.refl _,Z,Z,ha3,λa ha=>.inl ha⟩) (sF O) sr
     ·intro s2 n2 hJ
      obtain ⟨hs2,hm2,hl2,hn2,hg2,hu2⟩:=hJ
      refine AD.then_ (AF.region (AO O (AO O (AG (v:=(pP b4 1)) (AC (j:=1) O O underlying79 sizeOf3 O (by decide) O) O (F_ 2 (off:=1) (vs:=[(vN n2)]) (cs':=[(vN n1),(vN n2),(vI 0)]) (AQ O) O sizeOf3 O ?_)))))
      refine AE.nil (AD.subF (sL [1,2,3,5,6,7,8,10,4] O) (AD.in_normal (AD.then_ (AF.region (AO O ?_)))))
      refine AG (AX (c:=(2:Int)) O O (by decide)) O (AK O (AE.nil (AD.subF (sL [1,2,3,5,6,7,8,10,4] O) (AD.again (E3.step ?_)))))
      refine AF.seq (q4 (AO O (AG (Af (c:=true) O O (by decide)) O (AE.nil (AD.subF (sL [1,2,3,5,6,7,8,10,4,25] O) ?_)))))
      refine AD.then_ (AF.cond_true O (AF.skip (q1 (AF.block (AF.seq ?_)))))
      refine C4 [(0,true),(1,true),(2,true),(3,true),(4,true),(5,true),(6,true),(7,true),(8,true),(9,true),(10,true),(11,true),(12,true),(13,true),(14,true),(15,true),(16,true),(17,true),(18,false),(19,false)] sr (Bo O (Bo O (Bo O (Ay (v:=(pP b1 8)) O (AA O underlying50 O sizeOf5 O) (Bn 10 (vK .u8 m.fst) QY O ?_)))))
      refine Ay O (Aq (c:=((m.fst:Nat):Int)) O underlying5 underlying3 (CC Z)) (Ay O (AX (c:=((2+m.fst:Nat):Int)) O O (AY (a:=2) (b:=m.fst) Z)) (Bo O (Ay (v:=(pP b1 8)) O (AA O underlying50 O sizeOf5 O) (Bn 10 (vK .u8 m.fst) QY O (Ay O (Fh (c:=((m.fst/3:Nat):Int)) O O Z (LS (a:=m.fst) (b:=3) Z)) ?_)))))
      refine Ay O (Aq (c:=((m.fst/3:Nat):Int)) O underlying5 underlying3 (CC Z)) ?_
      have hmul:i*(m.fst/3)<=36*85:=Nat.mul_le_mul Z hf3
      refine Ay O (Br (c:=((i*(m.fst/3):Nat):Int)) O O (Cd (a:=i) (b:=m.fst/3) Z)) (Ay O (AX (c:=(((2+m.fst)+(i*(m.fst/3)):Nat):Int)) O O (AY (a:=2+m.fst) (b:=i*(m.fst/3)) Z)) ?_)
      obtain ⟨r9,hr9⟩:∃r,r=Jk m i 2:=⟨_,rfl⟩
      have hr3:r9<3:=by rw [hr9];exact Nat.mod_lt _ (by decide)
      refine Ay O (B6 (c:=((r9:Nat):Int)) O O (by decide) (by rw [hr9];exact HH (a:=2+m.fst+i*(m.fst/3)) (b:=3))) (Ay (v:=(pP (pB gc.p) (pO gc.p+i*6))) O (AN (j:=i) O O gc.ok underlying159 sizeOf161 O Z) (Ay (v:=(pP (pB gc.p) (pO gc.p+(i*6+r9*2)))) O (AC (j:=r9) O O underlying161 sizeOf147 O hr3 (Nat.add_assoc _ _ _)) (Ay (v:=(aG (A7 (Ao m i 2)))) O (AW (vs:=A7 (Ao m i 2)) (i:=3) O O (BB.ne gc.ok Z) Bl (HU _ i r9 Z hr3 _ O _ (by rw [hr9];rfl)) O) (AS.imp O (al Hw O λb7=>?_)))))
      refine AS.back (sl sr) (AS.imp O (Au O sizeOf147 O (AS.back (sl sr) (AS.nil (AD.subF (sL [1,2,3,5,6,7,8,10,4,9] O) ?_)))))
      refine q2 (AK O (AE.nil (q1 (q4 (AK O ?_)))))
      refine AE.nil (AD.then_ (AF.block ?_))
      refine AF.lp2 (tg λ(k:Nat) (a:Int)=>k<=s2.pl.length/\((a = -1/\∀j,j<k->s2.pl.getD j (0,0)≠Ao m i 2)\/0<=a/\a<(k:Int)/\s2.pl.getD (Int.toNat a) (0,0)=Ao m i 2)) (tg λ(k:Nat) (a:Int)=>[(1,(pP b1 0)),(2,(pP b2 0)),(3,(pP b3 0)),(5,(Value.slice gc.p ((BF m).length) gc.c)),(6,(vN i)),(7,(pP b4 0)),(8,(vI 2)),(4,(Value.slice s2.p1 s2.pl.length s2.c1)),(9,(pP b7 0)),(11,(vN k)),(10,(vI a))]) (tg λ(k:Nat) (a:Int)=>[Ae b7 147 (A7 (Ao m i 2)),Ae b6 147 (A7 (Ao m i 1)),Ae b5 147 (A7 (Ao m i 0)),Ae b4 79 ([(vN n1),(vN n2),(vI 0)]),Ai gc.p (rowsL A_ (BF m)),rowW s2.p1 147 2 s2.pl.length s2.c1 (rowsL A7 s2.pl),rowW none 79 3 0 0 (rowsL Av ([])),rowW p3 79 3 ts.length c3 (rowsL Av ts),rowW s2.p2 121 2 s2.pl.length s2.c2 (rowsL CH (s2.pts m)),Ae b3 119 ([(Value.slice s2.p2 s2.pl.length s2.c2),(Value.slice p3 ts.length c3),(Value.slice none 0 0)]),Ae b2 119 ([(Value.slice none 0 0),(Value.slice none 0 0),(Value.slice none 0 0)]),Ae b1 50 (EA m),Ai m.p (Co m.cs)]) (tg λ(k:Nat) (a:Int)=>s2.pl.length-k) 0 (-1:Int) (⟨Nat.zero_le _,.inl ⟨rfl,λj hj=>absurd hj (Nat.not_lt_zero _)⟩⟩) (sF O) sr (λk a hJ=>?_)
      obtain ⟨hk,ha⟩:=hJ
      refine AF.seq (q4 (AO O (AO O (AG (v:=(vN s2.pl.length)) (AH O underlying158) O (AG (Af (c:=(decide (k<s2.pl.length))) O O (C6 (a:=k) (b:=s2.pl.length))) O ?_)))))
      refine AE.nil (AD.subF (sL [1,2,3,5,6,7,8,4,9,11,10,49] O) (AD.then_ ?_))
      refine AF.cond O (λhc2=>?_) (λhc2=>?_)
      ·replace hc2:=of_decide_eq_true hc2
       refine AF.skip (q1 (AF.block (AF.seq (C4 [(0,true),(1,true),(2,true),(3,true),(4,true),(5,true)] sr (Bo O ?_)))))
       refine Bo O (Ay (v:=(pP (pB s2.p1) (pO s2.p1+k*2))) O (AN (j:=k) O O hs2.o1.row underlying158 sizeOf147 O Z) (Ay (v:=(aG (A7 (s2.pl.getD k ((0,0):P2))))) O (CW (vs:=A7 (s2.pl.getD k ((0,0):P2))) (i:=5) O O hs2.o1 (An Cg _) (BB.ne hs2.o1.row Z) Bl (Ar Cg _ _ _ Z) (Cg _)) (Es 0 Bl O (Ay O (Bx (c:=decide (s2.pl.getD k ((0,0):P2)=(Ao m i 2))) O O eqGuardType147 (Kf 9998 (s2.pl.getD k ((0,0):P2)) (Ao m i 2))) (AS.nil ?_)))))
       refine AD.subF (sL [1,2,3,5,6,7,8,4,9,11,10,57] O) (AD.then_ ?_)
       refine AF.cond O (λhc3=>?_) (λhc3=>?_)
       ·replace hc3:=of_decide_eq_true hc3
        refine AF.region (AO O (AK O (AE.nil (AD.subF (sL [1,2,3,5,6,7,8,4,9,11,10] O) (AD.in_normal ?_)))))
        refine AD.then_ (AF.region (AO O (AG (AX (c:=((k+1:Nat):Int)) O O (AY (a:=k) (b:=1) Z)) O (AK O (AE.nil ?_)))))
        exact AD.subF (sL [1,2,3,5,6,7,8,4,9,11,10] O) (AD.round2 (k+1) (k:Int) (⟨Z,.inr ⟨Z,Z,by simpa using hc3⟩⟩) Z (sF O) sr)
       ·replace hc3:=of_decide_eq_false hc3
        refine AF.skip (AD.in_normal (AD.then_ (AF.region (AO O (AG (AX (c:=((k+1:Nat):Int)) O O (AY (a:=k) (b:=1) Z)) O ?_)))))
        exact AK O (AE.nil (AD.subF (sL [1,2,3,5,6,7,8,4,9,11,10] O) (AD.round2 (k+1) a (⟨Z,ha.elim (λh=>.inl ⟨h.1,λj hj=>by rcases Nat.lt_or_ge j k with h1|h1;exact h.2 j h1;(obtain rfl:j=k:=by omega);simpa using hc3⟩) (λh=>.inr ⟨h.1,Z,h.2.2⟩)⟩) Z (sF O) sr)))
      ·replace hc2:=of_decide_eq_false hc2
       refine AF.exit (AD.then_exit (AD.round2_exit (AD.in_exit (q1 (q4 ?_)))))
       refine AO O (AG (Af (c:=(decide (a<(0:Int)))) O O O) O (AE.nil (AD.subF (sL [1,2,3,5,6,7,8,4,9,11,10,60] O) (AD.then_ ?_))))
       refine AF.jn2 (tg λ(s3:WS) (n3:Nat)=>WS.Ok s3/\FB s2.pl (WS.pl s3)/\(WS.pl s3).length<=s2.pl.length+1/\n3<(WS.pl s3).length/\(WS.pl s3).getD n3 (0,0)=Ao m i 2/\∀a,a<(WS.pl s3).length->a<s2.pl.length\/a=n3) (tg λ(s3:WS) (n3:Nat)=>[(1,(pP b1 0)),(2,(pP b2 0)),(3,(pP b3 0)),(5,(Value.slice gc.p ((BF m).length) gc.c)),(6,(vN i)),(7,(pP b4 0)),(8,(vI 2)),(10,(vN n3)),(4,(Value.slice s3.p1 s3.pl.length s3.c1))]) (tg λ(s3:WS) (n3:Nat)=>[Ae b7 147 (A7 (Ao m i 2)),Ae b6 147 (A7 (Ao m i 1)),Ae b5 147 (A7 (Ao m i 0)),Ae b4 79 ([(vN n1),(vN n2),(vI 0)]),Ai gc.p (rowsL A_ (BF m)),rowW s3.p1 147 2 s3.pl.length s3.c1 (rowsL A7 s3.pl),rowW none 79 3 0 0 (rowsL Av ([])),rowW p3 79 3 ts.length c3 (rowsL Av ts),rowW s3.p2 121 2 s3.pl.length s3.c2 (rowsL CH (s3.pts m)),Ae b3 119 ([(Value.slice s3.p2 s3.pl.length s3.c2),(Value.slice p3 ts.length c3),(Value.slice none 0 0)]),Ae b2 119 ([(Value.slice none 0 0),(Value.slice none 0 0),(Value.slice none 0 0)]),Ae b1 50 (EA m),Ai m.p (Co m.cs)]) ?_ ?_
       ·skip
        refine AF.cond O (λhc4=>?_) (λhc4=>?_)
        ·replace hc4:=of_decide_eq_true hc4
         refine q4 (AO O (AG (v:=(vN s2.pl.length)) (AH O underlying158) O (AK O (q3 (sL [1,2,3,5,6,7,8,4,9,11,10] O) (AO O ?_)))))
         refine BD 0 Bl O (AE.openV (V:=λb8=>(Value.slice (some ⟨b8,0,none⟩) 1 1)) (T:=147) (cs:=A7 (Ao m i 2)) (AQ O) (BA (z:=.agg (A7 ((0,0):P2)).toArray) (cs:=A7 (Ao m i 2)) (pv:=[(0,(aG (A7 (Ao m i 2))))]) underlying158 sizeOf147 zeroValue147 (by decide) (by decide) O (D0 (Ao m i 2))) O (Ab O) λb8=>AE.appendAt 6 (j:=0) (cs2:=rowsL A7 (s2.pl++[(Ao m i 2)])) QE O hs2.o1 (An Cg _) O O O O O (by decide) (Ka Z) Z (by rw [Bb];rfl) O λp_5 c_5 ho_5 hne_5=>AK O (AE.nil (AD.subF (sL [1,2,3,5,6,7,8,4,9,11,10] O) ?_)))
         refine AD.then_ (rC [(0,true),(1,true),(2,true),(3,true),(4,false),(5,false),(6,false),(7,true)] 8 [] (sk (sk (sk (sk (sk (sk (sk (sk (sk (sl sr)))))))))) (sk (sk (sk (sk (sk (sk (sk (sk (sk (sl sr)))))))))) (by kernel_rfl) (λ_ _ d _ _ h=>by cases d<;>exact h) (vE (v:=(pP b3 0)) O (AA O underlying119 O sizeOf117 O) O (vE O (AM (i:=9) (v:=(Value.slice s2.p2 s2.pl.length s2.c2)) O O KL.a O) O (vE (v:=(aG (EA m))) O (Al (i:=11) (vs:=EA m) O O LG.a LG.s O O) O (vE (v:=(aG (A7 (Ao m i 2)))) O (Al (i:=1) (vs:=A7 (Ao m i 2)) O O Bl.a Bl.s O O) O ?_)))))
         refine CK.imp O (ET call88 (λw hw=>Hg m (Ao m i 2) (Dg Z) w (ER hw 13 O lm)) O (CK.back (sk (sk (sk (sk (sk (sk (sk (sk (sk (sl sr)))))))))) (CK.imp O (AE.openV (V:=λb9=>(Value.slice (some ⟨b9,0,none⟩) 1 1)) (T:=121) (cs:=CH ((mapM m).at_ (Ao m i 2))) (AQ O) (BA (z:=.agg (CH ((0,0):Int×Int)).toArray) (cs:=CH ((mapM m).at_ (Ao m i 2))) (pv:=[(0,(aG (CH ((mapM m).at_ (Ao m i 2)))))]) underlying117 sizeOf121 zeroValue121 (by decide) (by decide) O (Dx ((mapM m).at_ (Ao m i 2)))) O (Ab O) λb9=>CK.back (sl (sk (sk (sk (sk (sk (sk (sk (sk (sk (sl sr))))))))))) ?_))))
         refine CK.imp O (AE.appendAt 10 (j:=0) (cs2:=rowsL CH ((s2.pts m)++[((mapM m).at_ (Ao m i 2))])) Qp O hs2.o2 (by rw [An Ew];simp [WS.pts]) O O O O O (by decide) (Ka Z) Z (by rw [Bb];rfl) O λp_6 c_6 ho_6 hne_6=>CK.back (sl (sk (sk (sk (sk (sk (sk (sk (sk (sk (sl sr))))))))))) (vE (v:=(pP b3 0)) O (AA O underlying119 O sizeOf117 O) O (CK.cut O (F_ 11 (off:=0) (vs:=[(Value.slice p_6 (s2.pl.length+1) c_6)]) (cs':=[(Value.slice p_6 (s2.pl.length+1) c_6),(Value.slice p3 ts.length c3),(Value.slice none 0 0)]) (AQ O) O sizeOf117 O ?_))))
         refine AS.back (sl (sk (sk (sk (sk (sk (sk (sk (sk (sk (sl (sl sr)))))))))))) (AS.nil (AD.subF (sL [1,2,3,5,6,7,8,4,9,11,10] O) ?_))
         rw [show s2.pl.length+1=(s2.pl++[Ao m i 2]).length by simp]
         rw [show s2.pts m++[(mapM m).at_ (Ao m i 2)]=WS.pts (WS.mk (s2.pl++[Ao m i 2]) p_5 c_5 p_6 c_6) m by simp [WS.pts]]
         exact AD.join2 (WS.mk (s2.pl++[Ao m i 2]) p_5 c_5 p_6 c_6) s2.pl.length (⟨⟨(by simpa using ho_5),(by simpa using ho_6),λp hp=>(List.mem_append.1 hp).elim (hs2.small p) (λe=>by rw [List.mem_singleton.1 e];exact Dg Z),Il hs2.dst (λj hj=>(ha.elim id (λh=>absurd h.1 Z)).2 j Z)⟩,FB.snoc _ _,by simp,by simp,C0 _ _,λa ha=>by simp only [List.length_append,List.length_singleton] at ha;omega⟩) (sF O) (sl (sl sr))
        ·replace hc4:=of_decide_eq_false hc4
         refine AF.retell (k:=10) (u:=(vN a.toNat)) O (by show Value.int _ _=Value.int _ _;congr 1;omega) (AF.skip ?_)
         obtain ⟨ha1,ha2,ha3⟩:=ha.resolve_left (λh=>by have:=h.1;omega)
         exact AD.join2 s2 a.toNat (⟨hs2,FB.refl _,Z,Z,ha3,λa ha=>.inl ha⟩) (sF O) sr
       ·intro s3 n3 hJ
        obtain ⟨hs3,hm3,hl3,hn3,hg3,hu3⟩:=hJ
        refine AD.then_ (AF.region (AO O (AO O (AG (v:=(pP b4 2)) (AC (j:=2) O O underlying79 sizeOf3 O (by decide) O) O (F_ 3 (off:=2) (vs:=[(vN n3)]) (cs':=[(vN n1),(vN n2),(vN n3)]) (AQ O) O sizeOf3 O ?_)))))
        refine AE.nil (AD.subF (sL [1,2,3,5,6,7,8,10,4] O) (AD.in_normal (AD.then_ (AF.region (AO O ?_)))))
        refine AG (AX (c:=(3:Int)) O O (by decide)) O (AK O (AE.nil (AD.subF (sL [1,2,3,5,6,7,8,10,4] O) (AD.again (E3.step ?_)))))
        refine AF.seq (q4 (AO O (AG (Af (c:=false) O O (by decide)) O (AE.nil (AD.subF (sL [1,2,3,5,6,7,8,10,4,25] O) ?_)))))
        refine AD.then_ (AF.cond_false O (AF.exit (AD.then_exit (AD.then_exit (AD.in_exit ?_)))))
        refine AD.then_ (AF.region (AG (v:=(pP b3 1)) (AA O underlying119 O sizeOf23 O) O (BO 9 (Value.slice p3 ts.length c3) Dn O (BD 3 JB O (AE.openV (V:=λb8=>(Value.slice (some ⟨b8,0,none⟩) 1 1)) (T:=79) (cs:=Av (n1,n2,n3)) (AQ O) (BA (z:=.agg (Av ((0,0,0):Nat×Nat×Nat)).toArray) (cs:=Av (n1,n2,n3)) (pv:=[(0,(aG ([(vN n1),(vN n2),(vN n3)])))]) underlying23 sizeOf79 zeroValue79 (by decide) (by decide) O (Fo (n1,n2,n3))) O (Ab O) λb8=>?_)))))
        refine AE.appendAt 8 (j:=0) (cs2:=rowsL Av (ts++[(n1,n2,n3)])) U4 O h3 (An BK _) O O O O O (by decide) (Ka Z) Z (by rw [Bb];rfl) O λp_7 c_7 ho_7 hne_7=>AG (v:=(pP b3 1)) (AA O underlying119 O sizeOf23 O) O (F_ 10 (off:=1) (vs:=[(Value.slice p_7 (ts.length+1) c_7)]) (cs':=[(Value.slice s3.p2 s3.pl.length s3.c2),(Value.slice p_7 (ts.length+1) c_7),(Value.slice none 0 0)]) (AQ O) O sizeOf23 O (AE.nil (AD.subF (sL [1,2,3,5,6,7,8,10,4] O) (AD.in_normal ?_))))
        refine AD.then_ (AF.region (AO O (AG (AX (c:=((i+1:Nat):Int)) O O (AY (a:=i) (b:=1) Z)) O (AK O (AE.nil ?_)))))
        refine AD.subF (sL [1,2,3,5,6,7,8,10,4] O) ?_
        rw [show ts.length+1=(ts++[(n1,n2,n3)]).length by simp]
        exact AD.round5 (i+1) s3 p_7 c_7 (ts++[(n1,n2,n3)]) (⟨Z,hs3,(by simpa using ho_7),hv.step ((hm1.trans hm2).trans hm3) Z hs3.small ⟨⟨by show n1<_;have:=hm2.1;have:=hm3.1;omega,(hm3.2 _ (by have:=hm2.1;omega)).trans ((hm2.2 _ Z).trans hg1)⟩,⟨by show n2<_;have:=hm3.1;omega,(hm3.2 _ Z).trans hg2⟩,⟨by show n3<_;omega,hg3⟩⟩ (λa ha=>by rcases hu3 a ha with h|h;(rcases hu2 a h with h|h;(rcases hu1 a h with h|h;exact .inl h;exact .inr (.inl h.symm));exact .inr (.inr (.inl h.symm)));exact .inr (.inr (.inr h.symm)))⟩) Z (sF O) (sl (sl (sl (sl (sl sr)))))
 ·replace hc0:=of_decide_eq_false hc0
  have hi9:i=(BF m).length:=by omega
  rw [hi9] at hv
  refine AF.exit (AD.then_exit (AD.round5_exit (AD.in_exit (q1 (q4 ?_)))))
  refine AK O (AE.nil (AD.then_ (AF.block ?_)))
  refine AF.lp4 (tg λ(ai:Nat) (p4:Option Addr) (c4:Nat) (ss:List (Nat×Nat×Nat))=>ai<=s.pl.length/\OwnOk p4 ss.length c4/\ss.length<=ai*108/\ss=EQ m ts s.pl.length ai) (tg λ(ai:Nat) (p4:Option Addr) (c4:Nat) (ss:List (Nat×Nat×Nat))=>[(1,(pP b1 0)),(2,(pP b2 0)),(3,(pP b3 0)),(4,(Value.slice s.p1 s.pl.length s.c1)),(12,(vN ai))]) (tg λ(ai:Nat) (p4:Option Addr) (c4:Nat) (ss:List (Nat×Nat×Nat))=>[Ai gc.p (rowsL A_ (BF m)),rowW s.p1 147 2 s.pl.length s.c1 (rowsL A7 s.pl),rowW p4 79 3 ss.length c4 (rowsL Av ss),rowW p3 79 3 ts.length c3 (rowsL Av ts),rowW s.p2 121 2 s.pl.length s.c2 (rowsL CH (s.pts m)),Ae b3 119 ([(Value.slice s.p2 s.pl.length s.c2),(Value.slice p3 ts.length c3),(Value.slice p4 ss.length c4)]),Ae b2 119 ([(Value.slice none 0 0),(Value.slice none 0 0),(Value.slice none 0 0)]),Ae b1 50 (EA m),Ai m.p (Co m.cs)]) (tg λ(ai:Nat) (p4:Option Addr) (c4:Nat) (ss:List (Nat×Nat×Nat))=>s.pl.length-ai) 0 none 0 ([]:List (Nat×Nat×Nat)) (⟨Nat.zero_le _,OwnOk.none,by simp,rfl⟩) (sF O) sr (λai p4 c4 ss hJ=>?_)
  obtain ⟨hai,h4,hsl,hsd⟩:=hJ
  refine AF.seq (q4 (AO O (AO O (AG (v:=(vN s.pl.length)) (AH O underlying158) O (AG (Af (c:=(decide (ai<s.pl.length))) O O (C6 (a:=ai) (b:=s.pl.length))) O ?_)))))
  refine AE.nil (AD.subF (sL [1,2,3,4,12,87] O) (AD.then_ ?_))
  refine AF.cond O (λhc5=>?_) (λhc5=>?_)
  ·replace hc5:=of_decide_eq_true hc5
   refine AF.skip (q1 (AF.block (q4 (AO O (AG (AX (c:=((ai+1:Nat):Int)) O O (AY (a:=ai) (b:=1) Z)) O ?_)))))
   refine AK O (AE.nil (AD.subF (sL [1,2,3,4,12,13] O) (AD.then_ (AF.block ?_))))
   refine AF.lp4 (tg λ(bi:Nat) (p5:Option Addr) (c5:Nat) (sq9:List (Nat×Nat×Nat))=>bi<=s.pl.length/\ai+1<=bi/\OwnOk p5 sq9.length c5/\sq9.length<=ai*108+bi/\sq9=EQ m ts s.pl.length ai++H4 m ts ai (bi-(ai+1))) (tg λ(bi:Nat) (p5:Option Addr) (c5:Nat) (sq9:List (Nat×Nat×Nat))=>[(1,(pP b1 0)),(2,(pP b2 0)),(3,(pP b3 0)),(4,(Value.slice s.p1 s.pl.length s.c1)),(12,(vN ai)),(13,(vN bi))]) (tg λ(bi:Nat) (p5:Option Addr) (c5:Nat) (sq9:List (Nat×Nat×Nat))=>[Ai gc.p (rowsL A_ (BF m)),rowW s.p1 147 2 s.pl.length s.c1 (rowsL A7 s.pl),rowW p5 79 3 sq9.length c5 (rowsL Av sq9),rowW p3 79 3 ts.length c3 (rowsL Av ts),rowW s.p2 121 2 s.pl.length s.c2 (rowsL CH (s.pts m)),Ae b3 119 ([(Value.slice s.p2 s.pl.length s.c2),(Value.slice p3 ts.length c3),(Value.slice p5 sq9.length c5)]),Ae b2 119 ([(Value.slice none 0 0),(Value.slice none 0 0),(Value.slice none 0 0)]),Ae b1 50 (EA m),Ai m.p (Co m.cs)]) (tg λ(bi:Nat) (p5:Option Addr) (c5:Nat) (sq9:List (Nat×Nat×Nat))=>s.pl.length-bi) (ai+1) p4 c4 ss (⟨Z,Nat.le_refl _,h4,Z,by rw [hsd,Nat.sub_self];exact (List.append_nil _).symm⟩) (sF O) sr (λbi p5 c5 sq9 hJ=>?_)
   obtain ⟨hbi,hba,h5,hsr,hsq⟩:=hJ
   refine AF.seq (q4 (AO O (AO O (AG (v:=(vN s.pl.length)) (AH O underlying158) O (AG (Af (c:=(decide (bi<s.pl.length))) O O (C6 (a:=bi) (b:=s.pl.length))) O ?_)))))
   refine AE.nil (AD.subF (sL [1,2,3,4,12,13,95] O) (AD.then_ ?_))
   refine AF.cond O (λhc6=>?_) (λhc6=>?_)
   ·replace hc6:=of_decide_eq_true hc6
    refine AF.skip (q1 (AF.block (q4 (AK O (AE.nil ?_)))))
    refine q1 (q4 (AK O (AE.nil (AD.then_ (AF.block ?_)))))
    refine AF.lp2 (tg λ(ti:Nat) (cn:Nat)=>ti<=ts.length/\cn<=ti/\cn=GT ts ai bi ti) (tg λ(ti:Nat) (cn:Nat)=>[(1,(pP b1 0)),(2,(pP b2 0)),(3,(pP b3 0)),(4,(Value.slice s.p1 s.pl.length s.c1)),(12,(vN ai)),(13,(vN bi)),(15,(vN ti)),(14,(vN cn))]) (tg λ(ti:Nat) (cn:Nat)=>[Ai gc.p (rowsL A_ (BF m)),rowW s.p1 147 2 s.pl.length s.c1 (rowsL A7 s.pl),rowW p5 79 3 sq9.length c5 (rowsL Av sq9),rowW p3 79 3 ts.length c3 (rowsL Av ts),rowW s.p2 121 2 s.pl.length s.c2 (rowsL CH (s.pts m)),Ae b3 119 ([(Value.slice s.p2 s.pl.length s.c2),(Value.slice p3 ts.length c3),(Value.slice p5 sq9.length c5)]),Ae b2 119 ([(Value.slice none 0 0),(Value.slice none 0 0),(Value.slice none 0 0)]),Ae b1 50 (EA m),Ai m.p (Co m.cs)]) (tg λ(ti:Nat) (cn:Nat)=>ts.length-ti) 0 0 (⟨Nat.zero_le _,Nat.le_refl _,rfl⟩) (sF O) sr (λti cn hJ=>?_)
    obtain ⟨hti,hcn,hcw⟩:=hJ
    refine AF.seq (q4 (AO O (AG (v:=(pP b3 1)) (AA O underlying119 O sizeOf23 O) O (BO 5 (Value.slice p3 ts.length c3) Dn O (AG (v:=(vN ts.length)) (AH O underlying23) O ?_)))))
    refine AG (Af (c:=(decide (ti<ts.length))) O O (C6 (a:=ti) (b:=ts.length))) O (AE.nil (AD.subF (sL [1,2,3,4,12,13,15,14,102] O) (AD.then_ ?_)))
    refine AF.cond O (λhc7=>?_) (λhc7=>?_)
    ·replace hc7:=of_decide_eq_true hc7
     refine AF.skip (q1 (AF.block (q4 (AG (v:=(pP b3 1)) (AA O underlying119 O sizeOf23 O) O (BO 5 (Value.slice p3 ts.length c3) Dn O ?_)))))
     refine AO O (AG (v:=(pP (pB p3) (pO p3+ti*3))) (AN (j:=ti) O O h3.row underlying23 sizeOf79 O Z) O (AG (v:=(aG (Av (ts.getD ti ((0,0,0):Nat×Nat×Nat))))) (CW (vs:=Av (ts.getD ti ((0,0,0):Nat×Nat×Nat))) (i:=3) O O h3 (An BK _) (BB.ne h3.row Z) JB (Ar BK _ _ _ Z) (BK _)) O (AO O (BV call89 (QG (ts.getD ti ((0,0,0):Nat×Nat×Nat)) ai) O (AO O ?_)))))
     refine AE.mid (FM:=[(1,(pP b1 0)),(2,(pP b2 0)),(3,(pP b3 0)),(4,(Value.slice s.p1 s.pl.length s.c1)),(12,(vN ai)),(13,(vN bi)),(15,(vN ti)),(14,(vN cn)),(105,(pP b3 1)),(106,(Value.slice p3 ts.length c3)),(107,(vN ti)),(108,(pP (pB p3) (pO p3+ti*3))),(109,(aG (Av (ts.getD ti ((0,0,0):Nat×Nat×Nat))))),(110,(vN ai)),(111,(Value.bool (FQ (ts.getD ti ((0,0,0):Nat×Nat×Nat)) ai))),(112,(Value.bool (FQ (ts.getD ti ((0,0,0):Nat×Nat×Nat)) ai))),(120,(Value.bool ((FQ (ts.getD ti ((0,0,0):Nat×Nat×Nat)) ai)&&(FQ (ts.getD ti ((0,0,0):Nat×Nat×Nat)) bi))))]) (LM:=[Ai gc.p (rowsL A_ (BF m)),rowW s.p1 147 2 s.pl.length s.c1 (rowsL A7 s.pl),rowW p5 79 3 sq9.length c5 (rowsL Av sq9),rowW p3 79 3 ts.length c3 (rowsL Av ts),rowW s.p2 121 2 s.pl.length s.c2 (rowsL CH (s.pts m)),Ae b3 119 ([(Value.slice s.p2 s.pl.length s.c2),(Value.slice p3 ts.length c3),(Value.slice p5 sq9.length c5)]),Ae b2 119 ([(Value.slice none 0 0),(Value.slice none 0 0),(Value.slice none 0 0)]),Ae b1 50 (EA m),Ai m.p (Co m.cs)]) 8 ?_ ?_
     ·rcases Bool.eq_false_or_eq_true (FQ (ts.getD ti ((0,0,0):Nat×Nat×Nat)) ai) with hg1|hg1
      ·skip
       refine AE.retell (k:=112) (u:=Value.bool true) O (by rw [hg1]) ?_
       have hg1':=hg1
       skip
       refine AE.step (v:=(pP b3 1)) (AB O) (AA O underlying119 O sizeOf23 O) O (Ab O) (AE.step (v:=(Value.slice p3 ts.length c3)) (AB O) (AM (i:=5) (v:=(Value.slice p3 ts.length c3)) O O Dn.a O) O (Ab O) (AE.step (v:=(vN ti)) (AB O) (Az O) O (Ab O) (AE.step (v:=(pP (pB p3) (pO p3+ti*3))) (AB O) (AN (j:=ti) O O h3.row underlying23 sizeOf79 O Z) O (Ab O) (AE.step (v:=(aG (Av (ts.getD ti ((0,0,0):Nat×Nat×Nat))))) (AB O) (CW (vs:=Av (ts.getD ti ((0,0,0):Nat×Nat×Nat))) (i:=3) O O h3 (An BK _) (BB.ne h3.row Z) JB (Ar BK _ _ _ Z) (BK _)) O (Ab O) (AE.step (v:=(vN bi)) (AB O) (Az O) O (Ab O) ?_)))))
       exact AE.call (v:=(Value.bool (FQ (ts.getD ti ((0,0,0):Nat×Nat×Nat)) bi))) (AB O) (Aw (args:=[(aG (Av (ts.getD ti ((0,0,0):Nat×Nat×Nat)))),(vN bi)]) O O call89) (λw hw=>QG (ts.getD ti ((0,0,0):Nat×Nat×Nat)) bi w) O (Ab O) (AG (v:=(Value.bool (FQ (ts.getD ti ((0,0,0):Nat×Nat×Nat)) bi))) (Ah O O) O (AE.nil (AD.mid (sS O (sS O (sS O (sS O (sS O (sS O (sS O (sS O (sS O (sS O (sS O (sS O (sS O (sS O (sS O (sS (by first|rfl|(rw [hg1];rfl)|rw [hg1]) (sS (by first|rfl|(rw [hg1];rfl)|rw [hg1]) (sN)))))))))))))))))) (List.Sublist.refl _))))
      ·skip
       refine AE.retell (k:=112) (u:=Value.bool false) O (by rw [hg1]) ?_
       have hg1':=hg1
       skip
       refine AE.skip (AR O) O (Ab O) (AE.skip (AR O) O (Ab O) (AE.skip (AR O) O (Ab O) (AE.skip (AR O) O (Ab O) (AE.skip (AR O) O (Ab O) (AE.skip (AR O) O (Ab O) ?_)))))
       exact AE.skip (AR O) O (Ab O) (AG (v:=(Value.bool false)) (AU O O) O (AE.nil (AD.mid (sS O (sS O (sS O (sS O (sS O (sS O (sS O (sS O (sS O (sS O (sS O (sS O (sS O (sS O (sS O (sS (by first|rfl|(rw [hg1];rfl)|rw [hg1]) (sS (by first|rfl|(rw [hg1];rfl)|rw [hg1]) (sN)))))))))))))))))) (List.Sublist.refl _))))
     refine AE.nil (AD.subF (sL [1,2,3,4,12,13,15,14,120] O) (AD.then_ ?_))
     refine AF.cond O (λhc8=>?_) (λhc8=>?_)
     ·simp only [Bool.and_eq_true,Bool.or_eq_true,Bool.and_eq_false_iff,Bool.or_eq_false_iff,Bool.not_eq_true',Bool.not_eq_false',decide_eq_true_eq,decide_eq_false_iff_not] at hc8
      refine AF.region (AO O (AG (AX (c:=((cn+1:Nat):Int)) O O (AY (a:=cn) (b:=1) Z)) O (AK O (AE.nil (AD.subF (sL [1,2,3,4,12,13,15,14] O) ?_)))))
      refine AD.in_normal (AD.then_ (AF.region (AO O (AG (AX (c:=((ti+1:Nat):Int)) O O (AY (a:=ti) (b:=1) Z)) O (AK O ?_)))))
      exact AE.nil (AD.subF (sL [1,2,3,4,12,13,15,14] O) (AD.round2 (ti+1) (cn+1) (⟨Z,Z,by rw [hcw];exact (RI hc8).symm⟩) Z (sF O) sr))
     ·simp only [Bool.and_eq_true,Bool.or_eq_true,Bool.and_eq_false_iff,Bool.or_eq_false_iff,Bool.not_eq_true',Bool.not_eq_false',decide_eq_true_eq,decide_eq_false_iff_not] at hc8
      refine AF.skip (AD.in_normal (AD.then_ (AF.region (AO O (AG (AX (c:=((ti+1:Nat):Int)) O O (AY (a:=ti) (b:=1) Z)) O ?_)))))
      exact AK O (AE.nil (AD.subF (sL [1,2,3,4,12,13,15,14] O) (AD.round2 (ti+1) cn (⟨Z,Z,by rw [hcw];exact (S7 hc8).symm⟩) Z (sF O) sr)))
    ·replace hc7:=of_decide_eq_false hc7
     have hte:ti=ts.length:=by omega
     rw [hte] at hcw
     refine AF.exit (AD.then_exit (AD.round2_exit (AD.in_exit (q2 (AO O ?_)))))
     refine AG (BU (c:=(decide (cn=1))) O O (MY (a:=cn) (b:=1))) O (AE.nil (AD.subF (sL [1,2,3,4,12,13,15,14,124] O) (AD.then_ ?_)))
     refine AF.cond O (λhc9=>?_) (λhc9=>?_)
     ·replace hc9:=of_decide_eq_true hc9
      refine AF.region (AG (v:=(pP b3 2)) (AA O underlying119 O sizeOf23 O) O (BO 5 (Value.slice p5 sq9.length c5) Dn O (AO O (AO O (AO O ?_)))))
      refine AO O (AG (Br (c:=((3*bi:Nat):Int)) O O (Cd (a:=3) (b:=bi) Z)) O (AG (AX (c:=((ai+(3*bi):Nat):Int)) O O (AY (a:=ai) (b:=3*bi) Z)) O (AG (v:=(pP b1 8)) (AA O underlying50 O sizeOf5 O) O (BO 7 (vK .u8 m.fst) QY O (AG (Aq (c:=((m.fst:Nat):Int)) O underlying5 underlying3 (CC Z)) O ?_)))))
      refine AG (AX (c:=(((ai+(3*bi))+m.fst:Nat):Int)) O O (AY (a:=ai+(3*bi)) (b:=m.fst) Z)) O (AG (B6 (c:=((((ai+(3*bi))+m.fst)%5:Nat):Int)) O O Z (HH (a:=(ai+(3*bi))+m.fst) (b:=5))) O (AG (v:=(aG (Av (ai,bi,((ai+(3*bi))+m.fst)%5)))) (Ap (zs:=Av ((0,0,0):Nat×Nat×Nat)) (vs:=Av (ai,bi,((ai+(3*bi))+m.fst)%5)) (pv:=[(0,(vN ai)),(1,(vN bi)),(2,(vN (((ai+(3*bi))+m.fst)%5)))]) zeroValue79 underlying79 sizeOf3 O (JO ai bi (((ai+(3*bi))+m.fst)%5))) O (AE.openV (V:=λb4=>(Value.slice (some ⟨b4,0,none⟩) 1 1)) (T:=79) (cs:=Av (ai,bi,((ai+(3*bi))+m.fst)%5)) (AQ O) (BA (z:=.agg (Av ((0,0,0):Nat×Nat×Nat)).toArray) (cs:=Av (ai,bi,((ai+(3*bi))+m.fst)%5)) (pv:=[(0,(aG (Av (ai,bi,((ai+(3*bi))+m.fst)%5))))]) underlying23 sizeOf79 zeroValue79 (by decide) (by decide) O (Fo (ai,bi,((ai+(3*bi))+m.fst)%5))) O (Ab O) λb4=>AE.appendAt 3 (j:=0) (cs2:=rowsL Av (sq9++[(ai,bi,((ai+(3*bi))+m.fst)%5)])) U4 O h5 (An BK _) O O O O O (by decide) (Ka Z) Z (by rw [Bb];rfl) O λp_8 c_8 ho_8 hne_8=>AG (v:=(pP b3 2)) (AA O underlying119 O sizeOf23 O) O ?_)))
      refine F_ 6 (off:=2) (vs:=[(Value.slice p_8 (sq9.length+1) c_8)]) (cs':=[(Value.slice s.p2 s.pl.length s.c2),(Value.slice p3 ts.length c3),(Value.slice p_8 (sq9.length+1) c_8)]) (AQ O) O sizeOf23 O (AE.nil (AD.subF (sL [1,2,3,4,12,13,15,14] O) (AD.in_normal (AD.then_ (AF.region ?_)))))
      refine AO O (AG (AX (c:=((bi+1:Nat):Int)) O O (AY (a:=bi) (b:=1) Z)) O (AK O (AE.nil (AD.subF (sL [1,2,3,4,12,13,15,14] O) ?_))))
      rw [show sq9.length+1=(sq9++[(ai,bi,((ai+(3*bi))+m.fst)%5)]).length by simp]
      exact AD.round4 (bi+1) p_8 c_8 (sq9++[(ai,bi,((ai+(3*bi))+m.fst)%5)]) (⟨Z,Z,(by simpa using ho_8),by rw [List.length_append];simp only [List.length_singleton];omega,(by rw [hsq];exact Rq Z (by rw [<-hcw,hc9]))⟩) Z (sF O) (sl sr)
     ·replace hc9:=of_decide_eq_false hc9
      refine AF.skip (AD.in_normal (AD.then_ (AF.region (AO O (AG (AX (c:=((bi+1:Nat):Int)) O O (AY (a:=bi) (b:=1) Z)) O ?_)))))
      exact AK O (AE.nil (AD.subF (sL [1,2,3,4,12,13,15,14] O) (AD.round4 (bi+1) p5 c5 sq9 (⟨Z,Z,h5,Z,(by rw [hsq];exact ST Z (by rw [<-hcw];exact hc9))⟩) Z (sF O) sr)))
   ·replace hc6:=of_decide_eq_false hc6
    refine AF.exit (AD.then_exit (AD.round4_exit (AD.in_exit (AD.in_normal (AD.then_ ?_)))))
    exact AF.region (AO O (AG (AX (c:=((ai+1:Nat):Int)) O O (AY (a:=ai) (b:=1) Z)) O (AK O (AE.nil (AD.subF (sL [1,2,3,4,12,13] O) (AD.round4 (ai+1) p5 c5 sq9 (⟨Z,h5,Z,by rw [hsq,show bi=s.pl.length by omega];rfl⟩) Z (sF O) sr))))))
  ·replace hc5:=of_decide_eq_false hc5
   refine AF.exit (AD.then_exit (AD.round4_exit (AD.in_exit (q2 (BD 5 Ux O ?_)))))
   exact F_ 6 (off:=0) (vs:=[(Value.slice s.p2 s.pl.length s.c2),(Value.slice p3 ts.length c3),(Value.slice p4 ss.length c4)]) (cs':=[(Value.slice s.p2 s.pl.length s.c2),(Value.slice p3 ts.length c3),(Value.slice p4 ss.length c4)]) (AQ O) O sizeOf119 O (AE.nil (AD.subF (sL [1,2,3,4,12] O) (AD.then_ (AF.ret (AP O (A8 (i:=6) (cs:=[(Value.slice s.p2 s.pl.length s.c2),(Value.slice p3 ts.length c3),(Value.slice p4 ss.length c4)]) O O isAgg119 sizeOf119 O) (λw hw=>(U_ hw (WM.mk s.pl ts ss hv hs.dst Z (by rw [hsd,show ai=s.pl.length by omega]) ⟨s.p2,s.c2,hs.o2.row⟩ ⟨p3,c3,h3.row⟩ ⟨p4,c4,h4.row⟩) h3 3 O (Gk (S:=λ_=>False) hw 4 O hs.o2 (by rw [An Ew];simp [WS.pts])) (Gk (S:=λ_=>False) hw 3 O h3 (An BK _)) (Gk (S:=λ_=>False) hw 2 O h4 (An BK _)) O)))))))
end
end Go.Proofs.YtfbomiejpbchdaaGreatDoor
