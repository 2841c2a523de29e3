import Derived.Test.YtfbomiejpbchdaaGreatDoorPart06
import Derived.Test.YtfbomiejpbchdaaGreatDoorPart09
import Derived.Test.YtfbomiejpbchdaaGreatDoorPart21
namespace Go.Proofs.YtfbomiejpbchdaaGreatDoor
open Go Go.RowKit Go.Proofs.Tryz
set_option linter.unusedVariables false
set_option linter.unusedSimpArgs false
section
set_option maxRecDepth 100000
theorem Px:ElemT prog 159 161 6 48:=⟨underlying159,Dm (by kernel_rfl)⟩
theorem Cb (x0 x1:Nat):Instr.fill (λi=>some (i*1,1)) (A6 ((0,0):P2)).toArray [(0,vN x0),(1,vN x1)]=some (A6 (x0,x1)).toArray:=by kernel_rfl
theorem Bn (x0 x1 x2:P2):Instr.fill (λi=>some (i*2,2)) (A9 (((0,0),(0,0),(0,0)):P2×P2×P2)).toArray [(0,.agg (A6 x0).toArray),(1,.agg (A6 x1).toArray),(2,.agg (A6 x2).toArray)]=some (A9 (x0,x1,x2)).toArray:=by kernel_rfl
theorem FK (x0 x1:P2×P2×P2):Instr.fill (λi=>some (i*6,6)) ((Array.range (2*6)).map ((Value.agg (A9 (((0,0),(0,0),(0,0)):P2×P2×P2)).toArray).cells[·%(Value.agg (A9 (((0,0),(0,0),(0,0)):P2×P2×P2)).toArray).cells.size]!)) [(0,.agg (A9 x0).toArray),(1,.agg (A9 x1).toArray)]=some (A9 x0++A9 x1).toArray:=by kernel_rfl
theorem Hu (x0 x1 x2 x3:P2×P2×P2):Instr.fill (λi=>some (i*6,6)) ((Array.range (4*6)).map ((Value.agg (A9 (((0,0),(0,0),(0,0)):P2×P2×P2)).toArray).cells[·%(Value.agg (A9 (((0,0),(0,0),(0,0)):P2×P2×P2)).toArray).cells.size]!)) [(0,.agg (A9 x0).toArray),(1,.agg (A9 x1).toArray),(2,.agg (A9 x2).toArray),(3,.agg (A9 x3).toArray)]=some (A9 x0++A9 x1++A9 x2++A9 x3).toArray:=by kernel_rfl
set_option maxHeartbeats 1000000 in
theorem N4 (m:MQ) (w:World) {S:Nat->Prop} (hm:Ro S w m):Calls prog 87 #[(aG (D5 m))] w (B3 (RX (rowsL A9 (BL m)) (BL m).length) S w):=by
 obtain ⟨X,hX⟩:∃X,X=LC m:=⟨_,rfl⟩
 obtain ⟨Y,hY⟩:∃Y,Y=SU m:=⟨_,rfl⟩
 have hx1:=Kr m
 have hy1:=K2 m
 have hxy:=Hj m
 rw [<-hX] at hx1 hxy
 rw [<-hY] at hy1 hxy
 have lm:=En (W:=w) hm
 refine BC (args:=[(aG (D5 m))]) (L:=[Ag m.p (Cg m.cs)]) func87 O O (Ad O) (Eo hm BR) (AF.subF (sL [0] O) (q4 (Bi (cs:=D5 m) O λb1=>AK O (q3 (sL [1,2] O) ?_))))
 refine AH (v:=(pP b1 0)) (AA O underlying50 O sizeOf5 O) O (BJ 0 (vK .u8 m.nx) RD O (AH (Bz (c:=((m.nx%3:Nat):Int)) O O Z (HF (a:=m.nx) (b:=3))) O (AH (Au (c:=((m.nx%3:Nat):Int)) O underlying5 underlying3 (CB Z)) O (AH (AW (c:=((1+(m.nx%3):Nat):Int)) O O (AZ (a:=1) (b:=m.nx%3) Z)) O (AE.retell (k:=19) (u:=(vN X)) O (by rw [hX];rfl) ?_)))))
 refine AK O (q3 (sL [1,2,3] O) (AH (v:=(pP b1 1)) (AA O underlying50 O sizeOf5 O) O (BJ 0 (vK .u8 m.ny) RD O (AH (Bz (c:=((m.ny%3:Nat):Int)) O O Z (HF (a:=m.ny) (b:=3))) O (AH (Au (c:=((m.ny%3:Nat):Int)) O underlying5 underlying3 (CB Z)) O ?_)))))
 refine AH (AW (c:=((1+(m.ny%3):Nat):Int)) O O (AZ (a:=1) (b:=m.ny%3) Z)) O (AE.retell (k:=24) (u:=(vN Y)) O (by rw [hY];rfl) (AK O (q3 (sL [1,2,3,4] O) (AK O (AE.nilRow 161 6 ?_)))))
 refine AE.nil (q1 (q4 (AK O (AE.nil (AC.then_ ?_)))))
 refine AF.block ?_
 refine AF.lp4 (tg λ(i:Nat) (p:Option Addr) (c:Nat) (out:List (P2×P2×P2))=>i<=X*Y/\OwnOk p out.length c/\out=Dg m i) (tg λ(i:Nat) (p:Option Addr) (c:Nat) (out:List (P2×P2×P2))=>[(1,(pP b1 0)),(2,(Value.slice none 0 0)),(3,(vN X)),(4,(vN Y)),(6,(vN i)),(5,(Value.slice p out.length c))]) (tg λ(i:Nat) (p:Option Addr) (c:Nat) (out:List (P2×P2×P2))=>[rowW p 161 6 out.length c (rowsL A9 out),Ae b1 50 (D5 m),Ag m.p (Cg m.cs)]) (tg λ(i:Nat) (p:Option Addr) (c:Nat) (out:List (P2×P2×P2))=>X*Y-i) 0 none 0 ([]:List (P2×P2×P2)) (⟨Z,OwnOk.none,rfl⟩) (sF O) sr (λi p c out hJ=>?_)
 obtain ⟨hi,ho,hout⟩:=hJ
 have hlen:=GS m i
 rw [<-hout] at hlen
 refine AF.seq (q4 (AO O (AO O (AO O (AH (Bk (c:=((X*Y:Nat):Int)) O O (Cc (a:=X) (b:=Y) (by exact Nat.lt_of_le_of_lt hxy (by decide)))) O ?_)))))
 refine AH (Af (c:=(decide (i<(X*Y)))) O O (C1 (a:=i) (b:=X*Y))) O (AE.nil (AC.subF (sL [1,2,3,4,6,5,29] O) (AC.then_ ?_)))
 refine AF.cond O (λhc0=>?_) (λhc0=>?_)
 ·replace hc0:=of_decide_eq_true hc0
  refine AF.skip (q1 (AF.block (q4 (AK O (AE.nil ?_)))))
  refine q1 (q4 (AH (v:=(pP b1 2)) (AA O underlying50 O sizeOf46 O) O (BJ 1 (Value.slice m.p m.cs.length m.cap) UP O (AH (v:=(vN m.cs.length)) (AG O underlying46) O (AH (CW (c:=(decide (0<m.cs.length))) O O (C1 (a:=0) (b:=m.cs.length))) O ?_)))))
  refine AE.nil (AC.subF (sL [1,2,3,4,6,5,7,35] O) (AC.then_ ?_))
  refine AF.jn1 (tg λ(wy:Nat)=>wy=G4 m i) (tg λ(wy:Nat)=>[(1,(pP b1 0)),(2,(Value.slice none 0 0)),(3,(vN X)),(4,(vN Y)),(6,(vN i)),(5,(Value.slice p out.length c)),(7,(vK .u8 wy))]) (tg λ(wy:Nat)=>[rowW p 161 6 out.length c (rowsL A9 out),Ae b1 50 (D5 m),Ag m.p (Cg m.cs)]) ?_ ?_
  ·skip
   refine AF.cond O (λhc1=>?_) (λhc1=>?_)
   ·replace hc1:=of_decide_eq_true hc1
    refine C2 [(0,true),(1,true),(2,true),(3,true),(4,true),(5,true),(6,true),(7,true),(8,true),(9,true),(10,true)] sr (Ay (v:=(pP b1 2)) O (AA O underlying50 O sizeOf46 O) (Bl 1 (Value.slice m.p m.cs.length m.cap) UP O (Bm O (Ay (v:=(pP b1 2)) O (AA O underlying50 O sizeOf46 O) (Bl 1 (Value.slice m.p m.cs.length m.cap) UP O ?_)))))
    refine Ay (v:=(vN m.cs.length)) O (AG O underlying46) (Ay O (Bz (c:=((i%m.cs.length:Nat):Int)) O O Z (HF (a:=i) (b:=m.cs.length))) (Ay (v:=(pP (pB m.p) (pO m.p+(i%m.cs.length)*1))) O (AR (j:=i%m.cs.length) O O m.ok underlying46 sizeOf5 O (by exact Nat.mod_lt _ hc1)) (Ay O (Ax (v:=(vK .u8 (m.cs.getD (i%m.cs.length) 0))) (i:=2) O O (m.ok.ne (by first|exact Nat.mod_lt i hc1|exact hc1)) RD (QM (by first|exact Nat.mod_lt i hc1|exact hc1))) (Ay O (Bz (c:=(((m.cs.getD (i%m.cs.length) 0)%8:Nat):Int)) O O Z (HF (a:=m.cs.getD (i%m.cs.length) 0) (b:=8))) (EW O ?_)))))
    exact AS.nil (AC.subF (sL [1,2,3,4,6,5,7] O) (AC.join1 ((m.cs.getD (i%m.cs.length) 0)%8) (by unfold G4;first|rw [if_pos hc1]|rw [if_neg hc1]) (sF O) sr))
   ·replace hc1:=of_decide_eq_false hc1
    exact AF.skip (AC.join1 0 (by unfold G4;first|rw [if_pos hc1]|rw [if_neg hc1]) (sF O) sr)
  ·intro wy hJ
   have hw:=hJ
   have hw8:=Nj m i
   rw [<-hw] at hw8
   refine q2 (AO O (AO O ?_))
   obtain ⟨u,hu⟩:∃u,u=i%X:=⟨_,rfl⟩
   have hu2:u<X:=by rw [hu];exact Nat.mod_lt _ Z
   refine AH (Bz (c:=((u:Nat):Int)) O O Z (by rw [hu];exact HF (a:=i) (b:=X))) O (AH (Bk (c:=((2*u:Nat):Int)) O O (Cc (a:=2) (b:=u) Z)) O (AK O (q3 (sL [1,2,3,4,6,5,7,8] O) (AO O (AO O ?_)))))
   obtain ⟨v,hv⟩:∃v,v=i/X:=⟨_,rfl⟩
   have hv2:v<=9:=by rw [hv];exact Nat.le_trans (Nat.div_le_self _ _) Z
   refine AH (Fq (c:=((v:Nat):Int)) O O Z (by rw [hv];exact L4 (a:=i) (b:=X) Z)) O (AH (Bk (c:=((2*v:Nat):Int)) O O (Cc (a:=2) (b:=v) Z)) O (AK O (q3 (sL [1,2,3,4,6,5,7,8,9] O) (AO O (AO O ?_)))))
   refine AH (v:=(aG (A6 (2*u,2*v)))) (Aq (zs:=A6 ((0,0):P2)) (vs:=A6 (2*u,2*v)) (pv:=[(0,(vN (2*u))),(1,(vN (2*v)))]) zeroValue147 underlying147 sizeOf3 O (Cb (2*u) (2*v))) O (al Hb O λb2=>Av O sizeOf147 O (q3 (sL [1,2,3,4,6,5,7,8,9,10] O) (AO O (AH (AW (c:=(((2*u)+2:Nat):Int)) O O (AZ (a:=2*u) (b:=2) Z)) O ?_))))
   refine AO O (AH (v:=(aG (A6 ((2*u)+2,2*v)))) (Aq (zs:=A6 ((0,0):P2)) (vs:=A6 ((2*u)+2,2*v)) (pv:=[(0,(vN ((2*u)+2))),(1,(vN (2*v)))]) zeroValue147 underlying147 sizeOf3 O (Cb ((2*u)+2) (2*v))) O (al Hb O λb3=>Av O sizeOf147 O (q3 (sL [1,2,3,4,6,5,7,8,9,10,11] O) (AO O ?_))))
   refine AH (AW (c:=(((2*u)+2:Nat):Int)) O O (AZ (a:=2*u) (b:=2) Z)) O (AO O (AH (AW (c:=(((2*v)+2:Nat):Int)) O O (AZ (a:=2*v) (b:=2) Z)) O (AH (v:=(aG (A6 ((2*u)+2,(2*v)+2)))) (Aq (zs:=A6 ((0,0):P2)) (vs:=A6 ((2*u)+2,(2*v)+2)) (pv:=[(0,(vN ((2*u)+2))),(1,(vN ((2*v)+2)))]) zeroValue147 underlying147 sizeOf3 O (Cb ((2*u)+2) ((2*v)+2))) O (al Hb O λb4=>Av O sizeOf147 O ?_))))
   refine q3 (sL [1,2,3,4,6,5,7,8,9,10,11,12] O) (AO O (AO O (AH (AW (c:=(((2*v)+2:Nat):Int)) O O (AZ (a:=2*v) (b:=2) Z)) O (AH (v:=(aG (A6 (2*u,(2*v)+2)))) (Aq (zs:=A6 ((0,0):P2)) (vs:=A6 (2*u,(2*v)+2)) (pv:=[(0,(vN (2*u))),(1,(vN ((2*v)+2)))]) zeroValue147 underlying147 sizeOf3 O (Cb (2*u) ((2*v)+2))) O (al Hb O λb5=>?_)))))
   refine Av O sizeOf147 O (q3 (sL [1,2,3,4,6,5,7,8,9,10,11,12,13] O) (AO O (AH (AW (c:=(((2*u)+1:Nat):Int)) O O (AZ (a:=2*u) (b:=1) Z)) O (AO O (AH (AW (c:=(((2*v)+1:Nat):Int)) O O (AZ (a:=2*v) (b:=1) Z)) O ?_)))))
   refine AH (v:=(aG (A6 ((2*u)+1,(2*v)+1)))) (Aq (zs:=A6 ((0,0):P2)) (vs:=A6 ((2*u)+1,(2*v)+1)) (pv:=[(0,(vN ((2*u)+1))),(1,(vN ((2*v)+1)))]) zeroValue147 underlying147 sizeOf3 O (Cb ((2*u)+1) ((2*v)+1))) O (al Hb O λb6=>Av O sizeOf147 O (AE.nil (AC.subF (sL [1,2,3,4,6,5,7,8,9,10,11,12,13,14] O) (AC.then_ ?_))))
   refine AF.block (q4 (AO O (AH (Af (c:=(decide (wy<3))) O O (C1 (a:=wy) (b:=3))) O (AO O ?_))))
   refine AE.mid (FM:=[(1,(pP b1 0)),(2,(Value.slice none 0 0)),(3,(vN X)),(4,(vN Y)),(6,(vN i)),(5,(Value.slice p out.length c)),(7,(vK .u8 wy)),(8,(vN (2*u))),(9,(vN (2*v))),(10,(pP b2 0)),(11,(pP b3 0)),(12,(pP b4 0)),(13,(pP b5 0)),(14,(pP b6 0)),(76,(vK .u8 wy)),(77,(Value.bool (decide (wy<3)))),(78,(Value.bool (decide (wy<3)))),(85,(Value.bool ((decide (wy<3))||((decide (wy=7))&&(decide (i=0))))))]) (LM:=[Ae b6 147 (A6 ((2*u)+1,(2*v)+1)),Ae b5 147 (A6 (2*u,(2*v)+2)),Ae b4 147 (A6 ((2*u)+2,(2*v)+2)),Ae b3 147 (A6 ((2*u)+2,2*v)),Ae b2 147 (A6 (2*u,2*v)),rowW p 161 6 out.length c (rowsL A9 out),Ae b1 50 (D5 m),Ag m.p (Cg m.cs)]) 7 ?_ ?_
   ·rcases Bool.eq_false_or_eq_true (decide (wy<3)) with hg1|hg1
    ·skip
     refine AE.retell (k:=78) (u:=Value.bool true) O (by rw [hg1]) ?_
     have hg1':=hg1
     replace hg1':=of_decide_eq_true hg1'
     refine AE.skip (AQ O) O (Ad O) (AE.skip (AQ O) O (Ad O) (AE.skip (AQ O) O (Ad O) (AE.skip (LE O O O) O (Ad O) (AE.skip (LE O O O) O (Ad O) (AE.skip (AQ O) O (Ad O) ?_)))))
     exact AH (v:=(Value.bool true)) (Ai O O) O (AE.nil (AC.mid (sS O (sS O (sS O (sS O (sS O (sS O (sS O (sS O (sS O (sS O (sS O (sS O (sS O (sS O (sS O (sS O (sS (by first|rfl|(rw [hg1];rfl)|rw [hg1]) (sS (by first|rfl|(rw [hg1];rfl)|rw [hg1]) (sN))))))))))))))))))) (List.Sublist.refl _)))
    ·skip
     refine AE.retell (k:=78) (u:=Value.bool false) O (by rw [hg1]) ?_
     have hg1':=hg1
     replace hg1':=of_decide_eq_false hg1'
     refine AE.step (v:=(vK .u8 wy)) (AB O) (BB O) O (Ad O) (AE.step (v:=(Value.bool (decide (wy=7)))) (AB O) (BQ (c:=(decide (wy=7))) O O (L9 (a:=wy) (b:=7))) O (Ad O) (AE.step (v:=(Value.bool (decide (wy=7)))) (AB O) (BB O) O (Ad O) ?_))
     refine AE.mid (FM:=[(1,(pP b1 0)),(2,(Value.slice none 0 0)),(3,(vN X)),(4,(vN Y)),(6,(vN i)),(5,(Value.slice p out.length c)),(7,(vK .u8 wy)),(8,(vN (2*u))),(9,(vN (2*v))),(10,(pP b2 0)),(11,(pP b3 0)),(12,(pP b4 0)),(13,(pP b5 0)),(14,(pP b6 0)),(76,(vK .u8 wy)),(77,(Value.bool (decide (wy<3)))),(78,(Value.bool false)),(79,(vK .u8 wy)),(80,(Value.bool (decide (wy=7)))),(81,(Value.bool (decide (wy=7)))),(84,(Value.bool ((decide (wy=7))&&(decide (i=0)))))]) (LM:=[Ae b6 147 (A6 ((2*u)+1,(2*v)+1)),Ae b5 147 (A6 (2*u,(2*v)+2)),Ae b4 147 (A6 ((2*u)+2,(2*v)+2)),Ae b3 147 (A6 ((2*u)+2,2*v)),Ae b2 147 (A6 (2*u,2*v)),rowW p 161 6 out.length c (rowsL A9 out),Ae b1 50 (D5 m),Ag m.p (Cg m.cs)]) 3 ?_ ?_
     ·rcases Bool.eq_false_or_eq_true (decide (wy=7)) with hg2|hg2
      ·skip
       refine AE.retell (k:=81) (u:=Value.bool true) O (by rw [hg2]) ?_
       have hg2':=hg2
       replace hg2':=of_decide_eq_true hg2'
       exact AE.step (v:=(vN i)) (AB O) (BB O) O (Ad O) (AE.step (v:=(Value.bool (decide (i=0)))) (AB O) (BQ (c:=(decide (i=0))) O O (L9 (a:=i) (b:=0))) O (Ad O) (AE.step (v:=(Value.bool (decide (i=0)))) (AB O) (Ai O O) O (Ad O) (AE.nil (AC.mid (sS O (sS O (sS O (sS O (sS O (sS O (sS O (sS O (sS O (sS O (sS O (sS O (sS O (sS O (sS O (sS O (sS O (sS O (sS O (sS (by first|rfl|(rw [hg2];rfl)|rw [hg2]) (sS (by first|rfl|(rw [hg2];rfl)|rw [hg2]) (sN)))))))))))))))))))))) (List.Sublist.refl _)))))
      ·skip
       refine AE.retell (k:=81) (u:=Value.bool false) O (by rw [hg2]) ?_
       have hg2':=hg2
       replace hg2':=of_decide_eq_false hg2'
       exact AE.skip (AQ O) O (Ad O) (AE.skip (AQ O) O (Ad O) (AE.step (v:=(Value.bool false)) (AB O) (AY O O) O (Ad O) (AE.nil (AC.mid (sS O (sS O (sS O (sS O (sS O (sS O (sS O (sS O (sS O (sS O (sS O (sS O (sS O (sS O (sS O (sS O (sS O (sS O (sS O (sS (by first|rfl|(rw [hg2];rfl)|rw [hg2]) (sS (by first|rfl|(rw [hg2];rfl)|rw [hg2]) (sN)))))))))))))))))))))) (List.Sublist.refl _)))))
     exact AH (v:=(Value.bool ((decide (wy=7))&&(decide (i=0))))) (AY O O) O (AE.nil (AC.mid (sS O (sS O (sS O (sS O (sS O (sS O (sS O (sS O (sS O (sS O (sS O (sS O (sS O (sS O (sS O (sS O (sS (by first|rfl|(rw [hg1];rfl)|rw [hg1]) (sS (by first|rfl|(rw [hg1];rfl)|rw [hg1]) (sN))))))))))))))))))) (List.Sublist.refl _)))
   refine AK O (AE.nil (AC.subF (sL [1,2,3,4,6,5,7,8,9,10,11,12,13,14,75] O) (AC.then_ ?_)))
   refine AF.cond O (λhc2=>?_) (λhc2=>?_)
   ·simp only [Bool.and_eq_true,Bool.or_eq_true,Bool.and_eq_false_iff,Bool.or_eq_false_iff,Bool.not_eq_true',Bool.not_eq_false',decide_eq_true_eq,decide_eq_false_iff_not] at hc2
    have hcell:=Ru hu hv (way:=wy) (by simpa using hc2)
    refine AF.region (AO O (BA 4 Bh O (BA 3 Bh O (BA 2 Bh O (AH (v:=(aG (A9 ((2*u,2*v),((2*u)+2,2*v),((2*u)+2,(2*v)+2))))) (Aq (zs:=A9 (((0,0),(0,0),(0,0)):P2×P2×P2)) (vs:=A9 ((2*u,2*v),((2*u)+2,2*v),((2*u)+2,(2*v)+2))) (pv:=[(0,(aG (A6 (2*u,2*v)))),(1,(aG (A6 ((2*u)+2,2*v)))),(2,(aG (A6 ((2*u)+2,(2*v)+2))))]) zeroValue161 underlying161 sizeOf147 O (Bn (2*u,2*v) ((2*u)+2,2*v) ((2*u)+2,(2*v)+2))) O ?_)))))
    refine BA 4 Bh O (BA 2 Bh O (BA 1 Bh O (AH (v:=(aG (A9 ((2*u,2*v),((2*u)+2,(2*v)+2),(2*u,(2*v)+2))))) (Aq (zs:=A9 (((0,0),(0,0),(0,0)):P2×P2×P2)) (vs:=A9 ((2*u,2*v),((2*u)+2,(2*v)+2),(2*u,(2*v)+2))) (pv:=[(0,(aG (A6 (2*u,2*v)))),(1,(aG (A6 ((2*u)+2,(2*v)+2)))),(2,(aG (A6 (2*u,(2*v)+2))))]) zeroValue161 underlying161 sizeOf147 O (Bn (2*u,2*v) ((2*u)+2,(2*v)+2) (2*u,(2*v)+2))) O (AE.openV (V:=λb7=>(Value.slice (some ⟨b7,0,none⟩) 2 2)) (T:=161) (cs:=A9 ((2*u,2*v),((2*u)+2,2*v),((2*u)+2,(2*v)+2))++A9 ((2*u,2*v),((2*u)+2,(2*v)+2),(2*u,(2*v)+2))) (AP O) (A_ (z:=.agg (A9 (((0,0),(0,0),(0,0)):P2×P2×P2)).toArray) (cs:=A9 ((2*u,2*v),((2*u)+2,2*v),((2*u)+2,(2*v)+2))++A9 ((2*u,2*v),((2*u)+2,(2*v)+2),(2*u,(2*v)+2))) (pv:=[(0,(aG (A9 ((2*u,2*v),((2*u)+2,2*v),((2*u)+2,(2*v)+2))))),(1,(aG (A9 ((2*u,2*v),((2*u)+2,(2*v)+2),(2*u,(2*v)+2)))))]) underlying159 sizeOf161 zeroValue161 (by decide) (by decide) O (FK ((2*u,2*v),((2*u)+2,2*v),((2*u)+2,(2*v)+2)) ((2*u,2*v),((2*u)+2,(2*v)+2),(2*u,(2*v)+2)))) O (Ad O) λb7=>AE.appendAt 6 (j:=0) (cs2:=rowsL A9 (out++[((2*u,2*v),((2*u)+2,2*v),((2*u)+2,(2*v)+2)),((2*u,2*v),((2*u)+2,(2*v)+2),(2*u,(2*v)+2))])) Px O ho (Am Es _) O O O O O (by decide) (Jc Z) Z (by rw [BW];rfl) O λp_1 c_1 ho_1 hne_1=>?_))))
    refine AK O (AE.nil (AC.subF (sL [1,2,3,4,6,5,7,8,9,10,11,12,13,14] O) (AC.in_normal (AC.in_normal (AC.then_ ?_)))))
    refine AF.region (AO O (AH (AW (c:=((i+1:Nat):Int)) O O (AZ (a:=i) (b:=1) Z)) O (AK O (AE.nil (AC.subF (sL [1,2,3,4,6,5,7,8,9,10,11,12,13,14] O) ?_)))))
    rw [show out.length+2=(out++[((2*u,2*v),((2*u)+2,2*v),((2*u)+2,(2*v)+2)),((2*u,2*v),((2*u)+2,(2*v)+2),(2*u,(2*v)+2))]).length by simp]
    exact AC.round4 (i+1) p_1 c_1 (out++[((2*u,2*v),((2*u)+2,2*v),((2*u)+2,(2*v)+2)),((2*u,2*v),((2*u)+2,(2*v)+2),(2*u,(2*v)+2))]) (⟨Z,(by simpa using ho_1),by rw [hout];show _=Dg m i++CY (LC m) (G4 m i) i;rw [<-hX,<-hw,hcell]⟩) Z (sF O) (sl (sl (sl (sl (sl (sl sr))))))
   ·simp only [Bool.and_eq_true,Bool.or_eq_true,Bool.and_eq_false_iff,Bool.or_eq_false_iff,Bool.not_eq_true',Bool.not_eq_false',decide_eq_true_eq,decide_eq_false_iff_not] at hc2
    have h20:¬(wy<3\/(wy=7/\i=0)):=by simp at hc2;omega
    refine q4 (AO O (AH (Af (c:=(decide (wy<5))) O O (C1 (a:=wy) (b:=5))) O (AK O (AE.nil (AC.subF (sL [1,2,3,4,6,5,7,8,9,10,11,12,13,14,97] O) ?_)))))
    refine AC.then_ ?_
    refine AF.cond O (λhc3=>?_) (λhc3=>?_)
    ·replace hc3:=of_decide_eq_true hc3
     have hcell:=TA hu hv h20 (by simpa using hc3)
     refine AF.region (AO O (BA 4 Bh O (BA 3 Bh O (BA 1 Bh O (AH (v:=(aG (A9 ((2*u,2*v),((2*u)+2,2*v),(2*u,(2*v)+2))))) (Aq (zs:=A9 (((0,0),(0,0),(0,0)):P2×P2×P2)) (vs:=A9 ((2*u,2*v),((2*u)+2,2*v),(2*u,(2*v)+2))) (pv:=[(0,(aG (A6 (2*u,2*v)))),(1,(aG (A6 ((2*u)+2,2*v)))),(2,(aG (A6 (2*u,(2*v)+2))))]) zeroValue161 underlying161 sizeOf147 O (Bn (2*u,2*v) ((2*u)+2,2*v) (2*u,(2*v)+2))) O ?_)))))
     refine BA 3 Bh O (BA 2 Bh O (BA 1 Bh O (AH (v:=(aG (A9 (((2*u)+2,2*v),((2*u)+2,(2*v)+2),(2*u,(2*v)+2))))) (Aq (zs:=A9 (((0,0),(0,0),(0,0)):P2×P2×P2)) (vs:=A9 (((2*u)+2,2*v),((2*u)+2,(2*v)+2),(2*u,(2*v)+2))) (pv:=[(0,(aG (A6 ((2*u)+2,2*v)))),(1,(aG (A6 ((2*u)+2,(2*v)+2)))),(2,(aG (A6 (2*u,(2*v)+2))))]) zeroValue161 underlying161 sizeOf147 O (Bn ((2*u)+2,2*v) ((2*u)+2,(2*v)+2) (2*u,(2*v)+2))) O (AE.openV (V:=λb7=>(Value.slice (some ⟨b7,0,none⟩) 2 2)) (T:=161) (cs:=A9 ((2*u,2*v),((2*u)+2,2*v),(2*u,(2*v)+2))++A9 (((2*u)+2,2*v),((2*u)+2,(2*v)+2),(2*u,(2*v)+2))) (AP O) (A_ (z:=.agg (A9 (((0,0),(0,0),(0,0)):P2×P2×P2)).toArray) (cs:=A9 ((2*u,2*v),((2*u)+2,2*v),(2*u,(2*v)+2))++A9 (((2*u)+2,2*v),((2*u)+2,(2*v)+2),(2*u,(2*v)+2))) (pv:=[(0,(aG (A9 ((2*u,2*v),((2*u)+2,2*v),(2*u,(2*v)+2))))),(1,(aG (A9 (((2*u)+2,2*v),((2*u)+2,(2*v)+2),(2*u,(2*v)+2)))))]) underlying159 sizeOf161 zeroValue161 (by decide) (by decide) O (FK ((2*u,2*v),((2*u)+2,2*v),(2*u,(2*v)+2)) (((2*u)+2,2*v),((2*u)+2,(2*v)+2),(2*u,(2*v)+2)))) O (Ad O) λb7=>AE.appendAt 6 (j:=0) (cs2:=rowsL A9 (out++[((2*u,2*v),((2*u)+2,2*v),(2*u,(2*v)+2)),(((2*u)+2,2*v),((2*u)+2,(2*v)+2),(2*u,(2*v)+2))])) Px O ho (Am Es _) O O O O O (by decide) (Jc Z) Z (by rw [BW];rfl) O λp_2 c_2 ho_2 hne_2=>?_))))
     refine AK O (AE.nil (AC.subF (sL [1,2,3,4,6,5,7,8,9,10,11,12,13,14] O) (AC.in_normal (AC.in_normal (AC.then_ ?_)))))
     refine AF.region (AO O (AH (AW (c:=((i+1:Nat):Int)) O O (AZ (a:=i) (b:=1) Z)) O (AK O (AE.nil (AC.subF (sL [1,2,3,4,6,5,7,8,9,10,11,12,13,14] O) ?_)))))
     rw [show out.length+2=(out++[((2*u,2*v),((2*u)+2,2*v),(2*u,(2*v)+2)),(((2*u)+2,2*v),((2*u)+2,(2*v)+2),(2*u,(2*v)+2))]).length by simp]
     exact AC.round4 (i+1) p_2 c_2 (out++[((2*u,2*v),((2*u)+2,2*v),(2*u,(2*v)+2)),(((2*u)+2,2*v),((2*u)+2,(2*v)+2),(2*u,(2*v)+2))]) (⟨Z,(by simpa using ho_2),by rw [hout];show _=Dg m i++CY (LC m) (G4 m i) i;rw [<-hX,<-hw,hcell]⟩) Z (sF O) (sl (sl (sl (sl (sl (sl sr))))))
    ·replace hc3:=of_decide_eq_false hc3
     have h30:¬wy<5:=by simpa using hc3
     refine q4 (AO O (AH (Af (c:=(decide (wy<7))) O O (C1 (a:=wy) (b:=7))) O (AK O (AE.nil (AC.subF (sL [1,2,3,4,6,5,7,8,9,10,11,12,13,14,111] O) ?_)))))
     refine AC.then_ ?_
     refine AF.cond O (λhc4=>?_) (λhc4=>?_)
     ·replace hc4:=of_decide_eq_true hc4
      have hcell:=Sk hu hv h20 h30 (by simpa using hc4)
      refine AF.region (AO O (BA 4 Bh O (BA 3 Bh O (BA 0 Bh O (AH (v:=(aG (A9 ((2*u,2*v),((2*u)+2,2*v),((2*u)+1,(2*v)+1))))) (Aq (zs:=A9 (((0,0),(0,0),(0,0)):P2×P2×P2)) (vs:=A9 ((2*u,2*v),((2*u)+2,2*v),((2*u)+1,(2*v)+1))) (pv:=[(0,(aG (A6 (2*u,2*v)))),(1,(aG (A6 ((2*u)+2,2*v)))),(2,(aG (A6 ((2*u)+1,(2*v)+1))))]) zeroValue161 underlying161 sizeOf147 O (Bn (2*u,2*v) ((2*u)+2,2*v) ((2*u)+1,(2*v)+1))) O ?_)))))
      refine BA 3 Bh O (BA 2 Bh O (BA 0 Bh O (AH (v:=(aG (A9 (((2*u)+2,2*v),((2*u)+2,(2*v)+2),((2*u)+1,(2*v)+1))))) (Aq (zs:=A9 (((0,0),(0,0),(0,0)):P2×P2×P2)) (vs:=A9 (((2*u)+2,2*v),((2*u)+2,(2*v)+2),((2*u)+1,(2*v)+1))) (pv:=[(0,(aG (A6 ((2*u)+2,2*v)))),(1,(aG (A6 ((2*u)+2,(2*v)+2)))),(2,(aG (A6 ((2*u)+1,(2*v)+1))))]) zeroValue161 underlying161 sizeOf147 O (Bn ((2*u)+2,2*v) ((2*u)+2,(2*v)+2) ((2*u)+1,(2*v)+1))) O (BA 2 Bh O (BA 1 Bh O ?_)))))
      refine BA 0 Bh O (AH (v:=(aG (A9 (((2*u)+2,(2*v)+2),(2*u,(2*v)+2),((2*u)+1,(2*v)+1))))) (Aq (zs:=A9 (((0,0),(0,0),(0,0)):P2×P2×P2)) (vs:=A9 (((2*u)+2,(2*v)+2),(2*u,(2*v)+2),((2*u)+1,(2*v)+1))) (pv:=[(0,(aG (A6 ((2*u)+2,(2*v)+2)))),(1,(aG (A6 (2*u,(2*v)+2)))),(2,(aG (A6 ((2*u)+1,(2*v)+1))))]) zeroValue161 underlying161 sizeOf147 O (Bn ((2*u)+2,(2*v)+2) (2*u,(2*v)+2) ((2*u)+1,(2*v)+1))) O (BA 1 Bh O (BA 4 Bh O (BA 0 Bh O (AH (v:=(aG (A9 ((2*u,(2*v)+2),(2*u,2*v),((2*u)+1,(2*v)+1))))) (Aq (zs:=A9 (((0,0),(0,0),(0,0)):P2×P2×P2)) (vs:=A9 ((2*u,(2*v)+2),(2*u,2*v),((2*u)+1,(2*v)+1))) (pv:=[(0,(aG (A6 (2*u,(2*v)+2)))),(1,(aG (A6 (2*u,2*v)))),(2,(aG (A6 ((2*u)+1,(2*v)+1))))]) zeroValue161 underlying161 sizeOf147 O (Bn (2*u,(2*v)+2) (2*u,2*v) ((2*u)+1,(2*v)+1))) O ?_)))))
      refine AE.openV (V:=λb7=>(Value.slice (some ⟨b7,0,none⟩) 4 4)) (T:=161) (cs:=A9 ((2*u,2*v),((2*u)+2,2*v),((2*u)+1,(2*v)+1))++A9 (((2*u)+2,2*v),((2*u)+2,(2*v)+2),((2*u)+1,(2*v)+1))++A9 (((2*u)+2,(2*v)+2),(2*u,(2*v)+2),((2*u)+1,(2*v)+1))++A9 ((2*u,(2*v)+2),(2*u,2*v),((2*u)+1,(2*v)+1))) (AP O) (A_ (z:=.agg (A9 (((0,0),(0,0),(0,0)):P2×P2×P2)).toArray) (cs:=A9 ((2*u,2*v),((2*u)+2,2*v),((2*u)+1,(2*v)+1))++A9 (((2*u)+2,2*v),((2*u)+2,(2*v)+2),((2*u)+1,(2*v)+1))++A9 (((2*u)+2,(2*v)+2),(2*u,(2*v)+2),((2*u)+1,(2*v)+1))++A9 ((2*u,(2*v)+2),(2*u,2*v),((2*u)+1,(2*v)+1))) (pv:=[(0,(aG (A9 ((2*u,2*v),((2*u)+2,2*v),((2*u)+1,(2*v)+1))))),(1,(aG (A9 (((2*u)+2,2*v),((2*u)+2,(2*v)+2),((2*u)+1,(2*v)+1))))),(2,(aG (A9 (((2*u)+2,(2*v)+2),(2*u,(2*v)+2),((2*u)+1,(2*v)+1))))),(3,(aG (A9 ((2*u,(2*v)+2),(2*u,2*v),((2*u)+1,(2*v)+1)))))]) underlying159 sizeOf161 zeroValue161 (by decide) (by decide) O (Hu ((2*u,2*v),((2*u)+2,2*v),((2*u)+1,(2*v)+1)) (((2*u)+2,2*v),((2*u)+2,(2*v)+2),((2*u)+1,(2*v)+1)) (((2*u)+2,(2*v)+2),(2*u,(2*v)+2),((2*u)+1,(2*v)+1)) ((2*u,(2*v)+2),(2*u,2*v),((2*u)+1,(2*v)+1)))) O (Ad O) λb7=>AE.appendAt 6 (j:=0) (cs2:=rowsL A9 (out++[((2*u,2*v),((2*u)+2,2*v),((2*u)+1,(2*v)+1)),(((2*u)+2,2*v),((2*u)+2,(2*v)+2),((2*u)+1,(2*v)+1)),(((2*u)+2,(2*v)+2),(2*u,(2*v)+2),((2*u)+1,(2*v)+1)),((2*u,(2*v)+2),(2*u,2*v),((2*u)+1,(2*v)+1))])) Px O ho (Am Es _) O O O O O (by decide) (Jc Z) Z (by rw [BW];rfl) O λp_3 c_3 ho_3 hne_3=>AK O (AE.nil (AC.subF (sL [1,2,3,4,6,5,7,8,9,10,11,12,13,14] O) (AC.in_normal ?_)))
      refine AC.in_normal (AC.then_ (AF.region (AO O (AH (AW (c:=((i+1:Nat):Int)) O O (AZ (a:=i) (b:=1) Z)) O (AK O ?_)))))
      refine AE.nil (AC.subF (sL [1,2,3,4,6,5,7,8,9,10,11,12,13,14] O) ?_)
      rw [show out.length+4=(out++[((2*u,2*v),((2*u)+2,2*v),((2*u)+1,(2*v)+1)),(((2*u)+2,2*v),((2*u)+2,(2*v)+2),((2*u)+1,(2*v)+1)),(((2*u)+2,(2*v)+2),(2*u,(2*v)+2),((2*u)+1,(2*v)+1)),((2*u,(2*v)+2),(2*u,2*v),((2*u)+1,(2*v)+1))]).length by simp]
      exact AC.round4 (i+1) p_3 c_3 (out++[((2*u,2*v),((2*u)+2,2*v),((2*u)+1,(2*v)+1)),(((2*u)+2,2*v),((2*u)+2,(2*v)+2),((2*u)+1,(2*v)+1)),(((2*u)+2,(2*v)+2),(2*u,(2*v)+2),((2*u)+1,(2*v)+1)),((2*u,(2*v)+2),(2*u,2*v),((2*u)+1,(2*v)+1))]) (⟨Z,(by simpa using ho_3),by rw [hout];show _=Dg m i++CY (LC m) (G4 m i) i;rw [<-hX,<-hw,hcell]⟩) Z (sF O) (sl (sl (sl (sl (sl (sl sr))))))
     ·replace hc4:=of_decide_eq_false hc4
      have hcell:CY X wy i=[]:=S9 h20 h30 (by simpa using hc4)
      refine AF.skip (AC.in_normal (AC.in_normal (AC.then_ (AF.region (AO O ?_)))))
      exact AH (AW (c:=((i+1:Nat):Int)) O O (AZ (a:=i) (b:=1) Z)) O (AK O (AE.nil (AC.subF (sL [1,2,3,4,6,5,7,8,9,10,11,12,13,14] O) (AC.round4 (i+1) p c out (⟨Z,(by simpa using ho),by rw [hout];show _=Dg m i++CY (LC m) (G4 m i) i;rw [<-hX,<-hw,hcell];simp⟩) Z (sF O) (sl (sl (sl (sl (sl sr)))))))))
 ·replace hc0:=of_decide_eq_false hc0
  have hfin:out=BL m:=by rw [hout];unfold BL;rw [<-hX,<-hY,show i=X*Y by omega]
  refine AF.exit (AC.then_exit (AC.round4_exit (AC.in_exit (q2 (AO O ?_)))))
  exact AK O (AE.nil (AC.subF (sL [1,2,3,4,6,5] O) (AC.then_ (AF.ret (AN O (Ab (v:=(Value.slice p out.length c)) O) (λw hw=>(by rw [<-hfin];exact Vu hw 0 O ho (Am Es _) O)))))))
theorem FN (x0 x1 x2 x3:Int):Instr.fill (λi=>some (i*1,1)) (Rn ((0,0,0,0):Int×Int×Int×Int)).toArray [(0,.int .i64 x0),(1,.int .i64 x1),(2,.int .i64 x2),(3,.int .i64 x3)]=some (Rn (x0,x1,x2,x3)).toArray:=by kernel_rfl
theorem FO (x0 x1:Int):Instr.fill (λi=>some (i*1,1)) (CD ((0,0):Int×Int)).toArray [(0,.int .i64 x0),(1,.int .i64 x1)]=some (CD (x0,x1)).toArray:=by kernel_rfl
theorem HL (m:MQ) (p:P2) (hp:p.1<=6/\p.2<=6) (w:World) {S:Nat->Prop} (hm:Ro S w m):Calls prog 88 #[(aG (D5 m)),(aG (A6 p))] w (Al w (aG (CD ((F3 m.a m.b m.c m.d).at_ p)))):=by
 obtain ⟨A,hA⟩:∃A,A=m.a.tmod 4:=⟨_,rfl⟩
 obtain ⟨B,hB⟩:∃A,A=m.b.tmod 4:=⟨_,rfl⟩
 obtain ⟨C,hC⟩:∃A,A=m.c.tmod 4:=⟨_,rfl⟩
 obtain ⟨D,hD⟩:∃A,A=m.d.tmod 4:=⟨_,rfl⟩
 have kA:=Hi m.a
 have kB:=Hi m.b
 have kC:=Hi m.c
 have kD:=Hi m.d
 rw [<-hA] at kA
 rw [<-hB] at kB
 rw [<-hC] at kC
 rw [<-hD] at kD
 have e1:=Cd kA (k:=3) kD
 have e2:=Cd kB (k:=3) kC
 have lm:=En (W:=w) hm
 refine BC (args:=[(aG (D5 m)),(aG (A6 p))]) (L:=[Ag m.p (Cg m.cs)]) func88 O O (Ad O) (Eo hm BR) (AF.subF (sL [0,1] O) (q4 (Bi (cs:=D5 m) O λb1=>Bi (cs:=A6 p) O λb2=>al Ux O λb3=>?_)))
 refine q3 (sL [2,3,4] O) (AH (v:=(pP b1 3)) (AA O underlying50 O sizeOf48 O) O (AH (v:=(pP b1 3)) (AD (j:=0) O O underlying48 sizeOf47 O (by decide) O) O (BJ 2 (Value.int .i8 m.a) TC O (AH (Bz (c:=A) O O (by decide) hA.symm) O (AH (Au (c:=A) O underlying47 underlying2 (BK Z Z)) O ?_)))))
 refine AH (v:=(pP b1 3)) (AA O underlying50 O sizeOf48 O) O (AH (v:=(pP b1 4)) (AD (j:=1) O O underlying48 sizeOf47 O (by decide) O) O (BJ 2 (Value.int .i8 m.b) TC O (AH (Bz (c:=B) O O (by decide) hB.symm) O (AH (Au (c:=B) O underlying47 underlying2 (BK Z Z)) O (AH (v:=(pP b1 3)) (AA O underlying50 O sizeOf48 O) O ?_)))))
 refine AH (v:=(pP b1 5)) (AD (j:=2) O O underlying48 sizeOf47 O (by decide) O) O (BJ 2 (Value.int .i8 m.c) TC O (AH (Bz (c:=C) O O (by decide) hC.symm) O (AH (Au (c:=C) O underlying47 underlying2 (BK Z Z)) O (AH (v:=(pP b1 3)) (AA O underlying50 O sizeOf48 O) O (AH (v:=(pP b1 6)) (AD (j:=3) O O underlying48 sizeOf47 O (by decide) O) O ?_)))))
 refine BJ 2 (Value.int .i8 m.d) TC O (AH (Bz (c:=D) O O (by decide) hD.symm) O (AH (Au (c:=D) O underlying47 underlying2 (BK Z Z)) O (AH (v:=(aG (Rn (A,B,C,D)))) (Aq (zs:=Rn ((0,0,0,0):Int×Int×Int×Int)) (vs:=Rn (A,B,C,D)) (pv:=[(0,(vI A)),(1,(vI B)),(2,(vI C)),(3,(vI D))]) zeroValue212 underlying212 sizeOf2 O (FN A B C D)) O (al U5 O λb4=>Av O sizeOf212 O ?_))))
 refine q3 (sL [3,4,5] O) (AH (v:=(pP b4 0)) (AD (j:=0) O O underlying212 sizeOf2 O (by decide) O) O (BJ 0 (vI A) Ka O (AH (v:=(pP b4 3)) (AD (j:=3) O O underlying212 sizeOf2 O (by decide) O) O (BJ 0 (vI D) Ka O (AH (Bk (c:=(A*D)) O O (BK Z Z)) O ?_)))))
 refine AH (v:=(pP b4 1)) (AD (j:=1) O O underlying212 sizeOf2 O (by decide) O) O (BJ 0 (vI B) Ka O (AH (v:=(pP b4 2)) (AD (j:=2) O O underlying212 sizeOf2 O (by decide) O) O (BJ 0 (vI C) Ka O (AH (Bk (c:=(B*C)) O O (BK Z Z)) O (AH (Bo (c:=(A*D-B*C)) O O (BK Z Z)) O ?_)))))
 refine AK O (q6 (sL [3,4,5,6] O) (q4 (AO O (AH (BQ (c:=(decide ((A*D-B*C)=(0:Int)))) O O O) O (AE.nil ?_)))))
 refine AC.subF (sL [3,4,5,6,42] O) (AC.then_ ?_)
 refine AF.cond O (λhc0=>?_) (λhc0=>?_)
 ·replace hc0:=of_decide_eq_true hc0
  have hz0:=hc0
  refine AF.region (AH (v:=(aG (Rn ((1:Int),(0:Int),(0:Int),(1:Int))))) (Aq (zs:=Rn ((0,0,0,0):Int×Int×Int×Int)) (vs:=Rn ((1:Int),(0:Int),(0:Int),(1:Int))) (pv:=[(0,(vI 1)),(1,(vI 0)),(2,(vI 0)),(3,(vI 1))]) zeroValue212 underlying212 sizeOf2 O (FN (1:Int) (0:Int) (0:Int) (1:Int))) O (Av O sizeOf212 O (q6 (sL [3,4,5,6] O) (q4 (AO O ?_)))))
  refine AH (Af (c:=(decide ((A*D-B*C)<(0:Int)))) O O O) O (AE.nil (AC.subF (sL [3,4,5,6,45] O) (AC.then_ ?_)))
  refine AF.jn1 (tg λ(K:DR)=>K=F3 m.a m.b m.c m.d) (tg λ(K:DR)=>[(3,(pP b2 0)),(4,(pP b3 0)),(5,(pP b4 0))]) (tg λ(K:DR)=>[Ae b4 212 (Rn (K.a,K.b,K.c,K.d)),Ae b3 121 (CD ((0,0):Int×Int)),Ae b2 147 (A6 p),Ae b1 50 (D5 m),Ag m.p (Cg m.cs)]) ?_ ?_
  ·skip
   refine AF.cond O (λhc1=>?_) (λhc1=>?_)
   ·replace hc1:=of_decide_eq_true hc1
    refine q4 (AH (v:=(pP b4 2)) (AD (j:=2) O O underlying212 sizeOf2 O (by decide) O) O (BJ 0 (vI (0:Int)) Ka O (AH (IW (c:=(-C)) O (by first|(exfalso;omega)|(rw [Int.zero_sub];exact BK Z Z))) O (AH (v:=(pP b4 2)) (AD (j:=2) O O underlying212 sizeOf2 O (by decide) O) O (Fc 0 (off:=2) (vs:=[(vI (-C))]) (cs':=[(vI (1:Int)),(vI (0:Int)),(vI (-C)),(vI (1:Int))]) (AP O) O sizeOf2 O ?_)))))
    refine AE.nil (AC.subF (sL [3,4,5,6] O) (AC.then_ (AF.region (AH (v:=(pP b4 3)) (AD (j:=3) O O underlying212 sizeOf2 O (by decide) O) O (BJ 0 (vI (1:Int)) Ka O ?_)))))
    exact AH (IW (c:=(-D)) O (by first|(exfalso;omega)|(rw [Int.zero_sub];exact BK Z Z))) O (AH (v:=(pP b4 3)) (AD (j:=3) O O underlying212 sizeOf2 O (by decide) O) O (Fc 0 (off:=3) (vs:=[(vI (-D))]) (cs':=[(vI (1:Int)),(vI (0:Int)),(vI (-C)),(vI (-D))]) (AP O) O sizeOf2 O (AE.nil (AC.subF (sL [3,4,5,6] O) (AC.join1 (DR.mk (1:Int) (0:Int) (-C) (-D)) ((by first|(exfalso;omega)|exact (Kb hA hB hC hD hz0).symm|exact (KI hA hB hC hD hc1).symm|exact (KP hA hB hC hD hz0 hc1).symm)) (sF O) sr)))))
   ·replace hc1:=of_decide_eq_false hc1
    exact AF.skip (AC.join1 (DR.mk (1:Int) (0:Int) (0:Int) (1:Int)) ((by first|(exfalso;omega)|exact (Kb hA hB hC hD hz0).symm|exact (KI hA hB hC hD hc1).symm|exact (KP hA hB hC hD hz0 hc1).symm)) (sF O) sr)
  ·intro K hJ
   have hK:=hJ
   have kk:=Gc m.a m.b m.c m.d
   rw [<-hK] at kk
   have qz0:=Cd kk.a (k:=6) (b:=(p.1:Int)) Z
   have qz1:=Cd kk.b (k:=6) (b:=(p.2:Int)) Z
   have qz2:=Cd kk.c (k:=6) (b:=(p.1:Int)) Z
   have qz3:=Cd kk.d (k:=6) (b:=(p.2:Int)) Z
   refine q2 (AH (v:=(pP b2 0)) (AD (j:=0) O O underlying147 sizeOf3 O (by decide) O) O (BJ 2 (vN p.1) Bx O (AK O (q3 (sL [3,4,5,7] O) (AH (v:=(pP b2 1)) (AD (j:=1) O O underlying147 sizeOf3 O (by decide) O) O ?_)))))
   refine BJ 2 (vN p.2) Bx O (AK O (q3 (sL [3,4,5,7,8] O) (AH (v:=(pP b4 0)) (AD (j:=0) O O underlying212 sizeOf2 O (by decide) O) O (BJ 0 (vI K.a) Ka O (AO O ?_)))))
   refine AH (Bk (c:=(K.a*(p.1:Int))) O O (BK Z Z)) O (AH (v:=(pP b4 1)) (AD (j:=1) O O underlying212 sizeOf2 O (by decide) O) O (BJ 0 (vI K.b) Ka O (AO O (AH (Bk (c:=(K.b*(p.2:Int))) O O (BK Z Z)) O (AH (AW (c:=(K.a*(p.1:Int)+K.b*(p.2:Int))) O O (BK Z Z)) O ?_)))))
   refine AH (v:=(pP b4 2)) (AD (j:=2) O O underlying212 sizeOf2 O (by decide) O) O (BJ 0 (vI K.c) Ka O (AO O (AH (Bk (c:=(K.c*(p.1:Int))) O O (BK Z Z)) O (AH (v:=(pP b4 3)) (AD (j:=3) O O underlying212 sizeOf2 O (by decide) O) O (BJ 0 (vI K.d) Ka O ?_)))))
   refine AO O (AH (Bk (c:=(K.d*(p.2:Int))) O O (BK Z Z)) O (AH (AW (c:=(K.c*(p.1:Int)+K.d*(p.2:Int))) O O (BK Z Z)) O (AH (v:=(aG (CD (K.a*(p.1:Int)+K.b*(p.2:Int),K.c*(p.1:Int)+K.d*(p.2:Int))))) (Aq (zs:=CD ((0,0):Int×Int)) (vs:=CD (K.a*(p.1:Int)+K.b*(p.2:Int),K.c*(p.1:Int)+K.d*(p.2:Int))) (pv:=[(0,(vI (K.a*(p.1:Int)+K.b*(p.2:Int)))),(1,(vI (K.c*(p.1:Int)+K.d*(p.2:Int))))]) zeroValue121 underlying121 sizeOf2 O (FO (K.a*(p.1:Int)+K.b*(p.2:Int)) (K.c*(p.1:Int)+K.d*(p.2:Int)))) O (Ci O sizeOf121 O (AE.nil ?_)))))
   exact AC.subF (sL [3,4,5] O) (AC.then_ (AF.ret (AN O (A7 (i:=1) (cs:=CD (K.a*(p.1:Int)+K.b*(p.2:Int),K.c*(p.1:Int)+K.d*(p.2:Int))) O O isAgg121 sizeOf121 O) (λw hw=>⟨by rw [<-hK];rfl,hw.out⟩))))
 ·replace hc0:=of_decide_eq_false hc0
  have hz0:=hc0
  refine AF.skip (q1 (q4 (AO O (AH (Af (c:=(decide ((A*D-B*C)<(0:Int)))) O O O) O (AE.nil ?_)))))
  refine AC.subF (sL [3,4,5,6,45] O) (AC.then_ ?_)
  refine AF.jn1 (tg λ(K:DR)=>K=F3 m.a m.b m.c m.d) (tg λ(K:DR)=>[(3,(pP b2 0)),(4,(pP b3 0)),(5,(pP b4 0))]) (tg λ(K:DR)=>[Ae b4 212 (Rn (K.a,K.b,K.c,K.d)),Ae b3 121 (CD ((0,0):Int×Int)),Ae b2 147 (A6 p),Ae b1 50 (D5 m),Ag m.p (Cg m.cs)]) ?_ ?_
  ·skip
   refine AF.cond O (λhc1=>?_) (λhc1=>?_)
   ·replace hc1:=of_decide_eq_true hc1
    refine q4 (AH (v:=(pP b4 2)) (AD (j:=2) O O underlying212 sizeOf2 O (by decide) O) O (BJ 0 (vI C) Ka O (AH (IW (c:=(-C)) O (by first|(exfalso;omega)|(rw [Int.zero_sub];exact BK Z Z))) O (AH (v:=(pP b4 2)) (AD (j:=2) O O underlying212 sizeOf2 O (by decide) O) O (Fc 0 (off:=2) (vs:=[(vI (-C))]) (cs':=[(vI A),(vI B),(vI (-C)),(vI D)]) (AP O) O sizeOf2 O ?_)))))
    refine AE.nil (AC.subF (sL [3,4,5,6] O) (AC.then_ (AF.region (AH (v:=(pP b4 3)) (AD (j:=3) O O underlying212 sizeOf2 O (by decide) O) O (BJ 0 (vI D) Ka O ?_)))))
    exact AH (IW (c:=(-D)) O (by first|(exfalso;omega)|(rw [Int.zero_sub];exact BK Z Z))) O (AH (v:=(pP b4 3)) (AD (j:=3) O O underlying212 sizeOf2 O (by decide) O) O (Fc 0 (off:=3) (vs:=[(vI (-D))]) (cs':=[(vI A),(vI B),(vI (-C)),(vI (-D))]) (AP O) O sizeOf2 O (AE.nil (AC.subF (sL [3,4,5,6] O) (AC.join1 (DR.mk A B (-C) (-D)) ((by first|(exfalso;omega)|exact (Kb hA hB hC hD hz0).symm|exact (KI hA hB hC hD hc1).symm|exact (KP hA hB hC hD hz0 hc1).symm)) (sF O) sr)))))
   ·replace hc1:=of_decide_eq_false hc1
    exact AF.skip (AC.join1 (DR.mk A B C D) ((by first|(exfalso;omega)|exact (Kb hA hB hC hD hz0).symm|exact (KI hA hB hC hD hc1).symm|exact (KP hA hB hC hD hz0 hc1).symm)) (sF O) sr)
  ·intro K hJ
   have hK:=hJ
   have kk:=Gc m.a m.b m.c m.d
   rw [<-hK] at kk
   have qz0:=Cd kk.a (k:=6) (b:=(p.1:Int)) Z
   have qz1:=Cd kk.b (k:=6) (b:=(p.2:Int)) Z
   have qz2:=Cd kk.c (k:=6) (b:=(p.1:Int)) Z
   have qz3:=Cd kk.d (k:=6) (b:=(p.2:Int)) Z
   refine q2 (AH (v:=(pP b2 0)) (AD (j:=0) O O underlying147 sizeOf3 O (by decide) O) O (BJ 2 (vN p.1) Bx O (AK O (q3 (sL [3,4,5,7] O) (AH (v:=(pP b2 1)) (AD (j:=1) O O underlying147 sizeOf3 O (by decide) O) O ?_)))))
   refine BJ 2 (vN p.2) Bx O (AK O (q3 (sL [3,4,5,7,8] O) (AH (v:=(pP b4 0)) (AD (j:=0) O O underlying212 sizeOf2 O (by decide) O) O (BJ 0 (vI K.a) Ka O (AO O ?_)))))
   refine AH (Bk (c:=(K.a*(p.1:Int))) O O (BK Z Z)) O (AH (v:=(pP b4 1)) (AD (j:=1) O O underlying212 sizeOf2 O (by decide) O) O (BJ 0 (vI K.b) Ka O (AO O (AH (Bk (c:=(K.b*(p.2:Int))) O O (BK Z Z)) O (AH (AW (c:=(K.a*(p.1:Int)+K.b*(p.2:Int))) O O (BK Z Z)) O ?_)))))
   refine AH (v:=(pP b4 2)) (AD (j:=2) O O underlying212 sizeOf2 O (by decide) O) O (BJ 0 (vI K.c) Ka O (AO O (AH (Bk (c:=(K.c*(p.1:Int))) O O (BK Z Z)) O (AH (v:=(pP b4 3)) (AD (j:=3) O O underlying212 sizeOf2 O (by decide) O) O (BJ 0 (vI K.d) Ka O ?_)))))
   refine AO O (AH (Bk (c:=(K.d*(p.2:Int))) O O (BK Z Z)) O (AH (AW (c:=(K.c*(p.1:Int)+K.d*(p.2:Int))) O O (BK Z Z)) O (AH (v:=(aG (CD (K.a*(p.1:Int)+K.b*(p.2:Int),K.c*(p.1:Int)+K.d*(p.2:Int))))) (Aq (zs:=CD ((0,0):Int×Int)) (vs:=CD (K.a*(p.1:Int)+K.b*(p.2:Int),K.c*(p.1:Int)+K.d*(p.2:Int))) (pv:=[(0,(vI (K.a*(p.1:Int)+K.b*(p.2:Int)))),(1,(vI (K.c*(p.1:Int)+K.d*(p.2:Int))))]) zeroValue121 underlying121 sizeOf2 O (FO (K.a*(p.1:Int)+K.b*(p.2:Int)) (K.c*(p.1:Int)+K.d*(p.2:Int)))) O (Ci O sizeOf121 O (AE.nil ?_)))))
   exact AC.subF (sL [3,4,5] O) (AC.then_ (AF.ret (AN O (A7 (i:=1) (cs:=CD (K.a*(p.1:Int)+K.b*(p.2:Int),K.c*(p.1:Int)+K.d*(p.2:Int))) O O isAgg121 sizeOf121 O) (λw hw=>⟨by rw [<-hK];rfl,hw.out⟩))))
end
end Go.Proofs.YtfbomiejpbchdaaGreatDoor
