import Derived.Test.YtfbomiejpbchdaaGreatDoorPart06
import Derived.Test.YtfbomiejpbchdaaGreatDoorPart09
import Derived.Test.YtfbomiejpbchdaaGreatDoorPart21
namespace Go.Proofs.YtfbomiejpbchdaaGreatDoor
open Go Go.RowKit Go.Proofs.Tryz
set_option linter.unusedVariables false
set_option linter.unusedSimpArgs false
section
set_option maxRecDepth 100000
theorem Q7:ElemT prog 159 161 6 48:=⟨underlying159,EU (by kernel_rfl)⟩
theorem Ch (x0 x1:Nat):Instr.fill (λi=>some (i*1,1)) (A8 ((0,0):P2)).toArray [(0,vN x0),(1,vN x1)]=some (A8 (x0,x1)).toArray:=by kernel_rfl
theorem Bs (x0 x1 x2:P2):Instr.fill (λi=>some (i*2,2)) (A_ (((0,0),(0,0),(0,0)):P2×P2×P2)).toArray [(0,.agg (A8 x0).toArray),(1,.agg (A8 x1).toArray),(2,.agg (A8 x2).toArray)]=some (A_ (x0,x1,x2)).toArray:=by kernel_rfl
theorem Fj (x0 x1:P2×P2×P2):Instr.fill (λi=>some (i*6,6)) ((Array.range (2*6)).map ((Value.agg (A_ (((0,0),(0,0),(0,0)):P2×P2×P2)).toArray).cells[·%(Value.agg (A_ (((0,0),(0,0),(0,0)):P2×P2×P2)).toArray).cells.size]!)) [(0,.agg (A_ x0).toArray),(1,.agg (A_ x1).toArray)]=some (A_ x0++A_ x1).toArray:=by kernel_rfl
theorem Ik (x0 x1 x2 x3:P2×P2×P2):Instr.fill (λi=>some (i*6,6)) ((Array.range (4*6)).map ((Value.agg (A_ (((0,0),(0,0),(0,0)):P2×P2×P2)).toArray).cells[·%(Value.agg (A_ (((0,0),(0,0),(0,0)):P2×P2×P2)).toArray).cells.size]!)) [(0,.agg (A_ x0).toArray),(1,.agg (A_ x1).toArray),(2,.agg (A_ x2).toArray),(3,.agg (A_ x3).toArray)]=some (A_ x0++A_ x1++A_ x2++A_ x3).toArray:=by kernel_rfl
set_option maxHeartbeats 1000000 in
theorem Qd (m:MQ) (w:World) {S:Nat->Prop} (hm:Ro S w m):Calls prog 87 #[(aG (EE m))] w (CF (RX (rowsL A_ (Az m)) (Az m).length) S w):=by
 obtain ⟨X,hX⟩:∃X,X=FN m:=⟨_,rfl⟩
 obtain ⟨Y,hY⟩:∃Y,Y=P_ m:=⟨_,rfl⟩
 have hx1:=Hy m
 have hy1:=H5 m
 have hxy:=IV m
 rw [<-hX] at hx1 hxy
 rw [<-hY] at hy1 hxy
 have lm:=Ep (W:=w) hm
 refine BF (args:=[(aG (EE m))]) (L:=[Ah m.p (Cl m.cs)]) func87 O O (Ad O) (En hm BQ) (AF.subF (sL [0] O) (q4 (Bk (cs:=EE m) O λb1=>AJ O (q3 (sL [1,2] O) ?_))))
 refine AH (v:=(pP b1 0)) (AA O underlying50 O sizeOf5 O) O (BN 0 (vK .u8 m.nx) SV O (AH (Bo (c:=((m.nx%3:Nat):Int)) O O Z (GF (a:=m.nx) (b:=3))) O (AH (Ap (c:=((m.nx%3:Nat):Int)) O underlying5 underlying3 (Bv Z)) O (AH (AX (c:=((1+(m.nx%3):Nat):Int)) O O (AZ (a:=1) (b:=m.nx%3) Z)) O (AE.retell (k:=19) (u:=(vN X)) O (by rw [hX];rfl) ?_)))))
 refine AJ O (q3 (sL [1,2,3] O) (AH (v:=(pP b1 1)) (AA O underlying50 O sizeOf5 O) O (BN 0 (vK .u8 m.ny) SV O (AH (Bo (c:=((m.ny%3:Nat):Int)) O O Z (GF (a:=m.ny) (b:=3))) O (AH (Ap (c:=((m.ny%3:Nat):Int)) O underlying5 underlying3 (Bv Z)) O ?_)))))
 refine AH (AX (c:=((1+(m.ny%3):Nat):Int)) O O (AZ (a:=1) (b:=m.ny%3) Z)) O (AE.retell (k:=24) (u:=(vN Y)) O (by rw [hY];rfl) (AJ O (q3 (sL [1,2,3,4] O) (AJ O (AE.nilRow 161 6 ?_)))))
 refine AE.nil (q1 (q4 (AJ O (AE.nil (AD.then_ ?_)))))
 refine AF.block ?_
 refine AF.lp4 (tg λ(i:Nat) (p:Option Addr) (c:Nat) (out:List (P2×P2×P2))=>i<=X*Y/\OwnOk p out.length c/\out=Dk m i) (tg λ(i:Nat) (p:Option Addr) (c:Nat) (out:List (P2×P2×P2))=>[(1,(pP b1 0)),(2,(Value.slice none 0 0)),(3,(vN X)),(4,(vN Y)),(6,(vN i)),(5,(Value.slice p out.length c))]) (tg λ(i:Nat) (p:Option Addr) (c:Nat) (out:List (P2×P2×P2))=>[rowW p 161 6 out.length c (rowsL A_ out),Ae b1 50 (EE m),Ah m.p (Cl m.cs)]) (tg λ(i:Nat) (p:Option Addr) (c:Nat) (out:List (P2×P2×P2))=>X*Y-i) 0 none 0 ([]:List (P2×P2×P2)) (⟨Z,OwnOk.none,rfl⟩) (sF O) sr (λi p c out hJ=>?_)
 obtain ⟨hi,ho,hout⟩:=hJ
 have hlen:=G9 m i
 rw [<-hout] at hlen
 refine AF.seq (q4 (AP O (AP O (AP O (AH (Bq (c:=((X*Y:Nat):Int)) O O (C5 (a:=X) (b:=Y) (by exact Nat.lt_of_le_of_lt hxy (by decide)))) O ?_)))))
 refine AH (Af (c:=(decide (i<(X*Y)))) O O (DB (a:=i) (b:=X*Y))) O (AE.nil (AD.subF (sL [1,2,3,4,6,5,29] O) (AD.then_ ?_)))
 refine AF.cond O (λhc0=>?_) (λhc0=>?_)
 ·replace hc0:=of_decide_eq_true hc0
  refine AF.skip (q1 (AF.block (q4 (AJ O (AE.nil ?_)))))
  refine q1 (q4 (AH (v:=(pP b1 2)) (AA O underlying50 O sizeOf46 O) O (BN 1 (Value.slice m.p m.cs.length m.cap) Vq O (AH (v:=(vN m.cs.length)) (AG O underlying46) O (AH (Cx (c:=(decide (0<m.cs.length))) O O (DB (a:=0) (b:=m.cs.length))) O ?_)))))
  refine AE.nil (AD.subF (sL [1,2,3,4,6,5,7,35] O) (AD.then_ ?_))
  refine AF.jn1 (tg λ(wy:Nat)=>wy=Fm m i) (tg λ(wy:Nat)=>[(1,(pP b1 0)),(2,(Value.slice none 0 0)),(3,(vN X)),(4,(vN Y)),(6,(vN i)),(5,(Value.slice p out.length c)),(7,(vK .u8 wy))]) (tg λ(wy:Nat)=>[rowW p 161 6 out.length c (rowsL A_ out),Ae b1 50 (EE m),Ah m.p (Cl m.cs)]) ?_ ?_
  ·skip
   refine AF.cond O (λhc1=>?_) (λhc1=>?_)
   ·replace hc1:=of_decide_eq_true hc1
    refine DA [(0,true),(1,true),(2,true),(3,true),(4,true),(5,true),(6,true),(7,true),(8,true),(9,true),(10,true)] sr (Aw (v:=(pP b1 2)) O (AA O underlying50 O sizeOf46 O) (Bi 1 (Value.slice m.p m.cs.length m.cap) Vq O (Bp O (Aw (v:=(pP b1 2)) O (AA O underlying50 O sizeOf46 O) (Bi 1 (Value.slice m.p m.cs.length m.cap) Vq O ?_)))))
    refine Aw (v:=(vN m.cs.length)) O (AG O underlying46) (Aw O (Bo (c:=((i%m.cs.length:Nat):Int)) O O Z (GF (a:=i) (b:=m.cs.length))) (Aw (v:=(pP (pB m.p) (pO m.p+(i%m.cs.length)*1))) O (AR (j:=i%m.cs.length) O O m.ok underlying46 sizeOf5 O (by exact Nat.mod_lt _ hc1)) (Aw O (Av (v:=(vK .u8 (m.cs.getD (i%m.cs.length) 0))) (i:=2) O O (m.ok.ne (by first|exact Nat.mod_lt i hc1|exact hc1)) SV (Ss (by first|exact Nat.mod_lt i hc1|exact hc1))) (Aw O (Bo (c:=(((m.cs.getD (i%m.cs.length) 0)%8:Nat):Int)) O O Z (GF (a:=m.cs.getD (i%m.cs.length) 0) (b:=8))) (Ez O ?_)))))
    exact AS.nil (AD.subF (sL [1,2,3,4,6,5,7] O) (AD.join1 ((m.cs.getD (i%m.cs.length) 0)%8) (by unfold Fm;first|rw [if_pos hc1]|rw [if_neg hc1]) (sF O) sr))
   ·replace hc1:=of_decide_eq_false hc1
    exact AF.skip (AD.join1 0 (by unfold Fm;first|rw [if_pos hc1]|rw [if_neg hc1]) (sF O) sr)
  ·intro wy hJ
   have hw:=hJ
   have hw8:=O4 m i
   rw [<-hw] at hw8
   refine q2 (AP O (AP O ?_))
   obtain ⟨u,hu⟩:∃u,u=i%X:=⟨_,rfl⟩
   have hu2:u<X:=by rw [hu];exact Nat.mod_lt _ Z
   refine AH (Bo (c:=((u:Nat):Int)) O O Z (by rw [hu];exact GF (a:=i) (b:=X))) O (AH (Bq (c:=((2*u:Nat):Int)) O O (C5 (a:=2) (b:=u) Z)) O (AJ O (q3 (sL [1,2,3,4,6,5,7,8] O) (AP O (AP O ?_)))))
   obtain ⟨v,hv⟩:∃v,v=i/X:=⟨_,rfl⟩
   have hv2:v<=9:=by rw [hv];exact Nat.le_trans (Nat.div_le_self _ _) Z
   refine AH (Fv (c:=((v:Nat):Int)) O O Z (by rw [hv];exact Mh (a:=i) (b:=X) Z)) O (AH (Bq (c:=((2*v:Nat):Int)) O O (C5 (a:=2) (b:=v) Z)) O (AJ O (q3 (sL [1,2,3,4,6,5,7,8,9] O) (AP O (AP O ?_)))))
   refine AH (v:=(aG (A8 (2*u,2*v)))) (Ao (zs:=A8 ((0,0):P2)) (vs:=A8 (2*u,2*v)) (pv:=[(0,(vN (2*u))),(1,(vN (2*v)))]) zeroValue147 underlying147 sizeOf3 O (Ch (2*u) (2*v))) O (al IT O λb2=>Aq O sizeOf147 O (q3 (sL [1,2,3,4,6,5,7,8,9,10] O) (AP O (AH (AX (c:=(((2*u)+2:Nat):Int)) O O (AZ (a:=2*u) (b:=2) Z)) O ?_))))
   refine AP O (AH (v:=(aG (A8 ((2*u)+2,2*v)))) (Ao (zs:=A8 ((0,0):P2)) (vs:=A8 ((2*u)+2,2*v)) (pv:=[(0,(vN ((2*u)+2))),(1,(vN (2*v)))]) zeroValue147 underlying147 sizeOf3 O (Ch ((2*u)+2) (2*v))) O (al IT O λb3=>Aq O sizeOf147 O (q3 (sL [1,2,3,4,6,5,7,8,9,10,11] O) (AP O ?_))))
   refine AH (AX (c:=(((2*u)+2:Nat):Int)) O O (AZ (a:=2*u) (b:=2) Z)) O (AP O (AH (AX (c:=(((2*v)+2:Nat):Int)) O O (AZ (a:=2*v) (b:=2) Z)) O (AH (v:=(aG (A8 ((2*u)+2,(2*v)+2)))) (Ao (zs:=A8 ((0,0):P2)) (vs:=A8 ((2*u)+2,(2*v)+2)) (pv:=[(0,(vN ((2*u)+2))),(1,(vN ((2*v)+2)))]) zeroValue147 underlying147 sizeOf3 O (Ch ((2*u)+2) ((2*v)+2))) O (al IT O λb4=>Aq O sizeOf147 O ?_))))
   refine q3 (sL [1,2,3,4,6,5,7,8,9,10,11,12] O) (AP O (AP O (AH (AX (c:=(((2*v)+2:Nat):Int)) O O (AZ (a:=2*v) (b:=2) Z)) O (AH (v:=(aG (A8 (2*u,(2*v)+2)))) (Ao (zs:=A8 ((0,0):P2)) (vs:=A8 (2*u,(2*v)+2)) (pv:=[(0,(vN (2*u))),(1,(vN ((2*v)+2)))]) zeroValue147 underlying147 sizeOf3 O (Ch (2*u) ((2*v)+2))) O (al IT O λb5=>?_)))))
   refine Aq O sizeOf147 O (q3 (sL [1,2,3,4,6,5,7,8,9,10,11,12,13] O) (AP O (AH (AX (c:=(((2*u)+1:Nat):Int)) O O (AZ (a:=2*u) (b:=1) Z)) O (AP O (AH (AX (c:=(((2*v)+1:Nat):Int)) O O (AZ (a:=2*v) (b:=1) Z)) O ?_)))))
   refine AH (v:=(aG (A8 ((2*u)+1,(2*v)+1)))) (Ao (zs:=A8 ((0,0):P2)) (vs:=A8 ((2*u)+1,(2*v)+1)) (pv:=[(0,(vN ((2*u)+1))),(1,(vN ((2*v)+1)))]) zeroValue147 underlying147 sizeOf3 O (Ch ((2*u)+1) ((2*v)+1))) O (al IT O λb6=>Aq O sizeOf147 O (AE.nil (AD.subF (sL [1,2,3,4,6,5,7,8,9,10,11,12,13,14] O) (AD.then_ ?_))))
   refine AF.block (q4 (AP O (AH (Af (c:=(decide (wy<3))) O O (DB (a:=wy) (b:=3))) O (AP O ?_))))
   refine AE.mid (FM:=[(1,(pP b1 0)),(2,(Value.slice none 0 0)),(3,(vN X)),(4,(vN Y)),(6,(vN i)),(5,(Value.slice p out.length c)),(7,(vK .u8 wy)),(8,(vN (2*u))),(9,(vN (2*v))),(10,(pP b2 0)),(11,(pP b3 0)),(12,(pP b4 0)),(13,(pP b5 0)),(14,(pP b6 0)),(76,(vK .u8 wy)),(77,(Value.bool (decide (wy<3)))),(78,(Value.bool (decide (wy<3)))),(85,(Value.bool ((decide (wy<3))||((decide (wy=7))&&(decide (i=0))))))]) (LM:=[Ae b6 147 (A8 ((2*u)+1,(2*v)+1)),Ae b5 147 (A8 (2*u,(2*v)+2)),Ae b4 147 (A8 ((2*u)+2,(2*v)+2)),Ae b3 147 (A8 ((2*u)+2,2*v)),Ae b2 147 (A8 (2*u,2*v)),rowW p 161 6 out.length c (rowsL A_ out),Ae b1 50 (EE m),Ah m.p (Cl m.cs)]) 7 ?_ ?_
   ·rcases Bool.eq_false_or_eq_true (decide (wy<3)) with hg1|hg1
    ·skip
     refine AE.retell (k:=78) (u:=Value.bool true) O (by rw [hg1]) ?_
     have hg1':=hg1
     replace hg1':=of_decide_eq_true hg1'
     refine AE.skip (AV O) O (Ad O) (AE.skip (AV O) O (Ad O) (AE.skip (AV O) O (Ad O) (AE.skip (Mc O O O) O (Ad O) (AE.skip (Mc O O O) O (Ad O) (AE.skip (AV O) O (Ad O) ?_)))))
     exact AH (v:=(Value.bool true)) (Al O O) O (AE.nil (AD.mid (sS O (sS O (sS O (sS O (sS O (sS O (sS O (sS O (sS O (sS O (sS O (sS O (sS O (sS O (sS O (sS O (sS (by first|rfl|(rw [hg1];rfl)|rw [hg1]) (sS (by first|rfl|(rw [hg1];rfl)|rw [hg1]) (sN))))))))))))))))))) (List.Sublist.refl _)))
    ·skip
     refine AE.retell (k:=78) (u:=Value.bool false) O (by rw [hg1]) ?_
     have hg1':=hg1
     replace hg1':=of_decide_eq_false hg1'
     refine AE.step (v:=(vK .u8 wy)) (AB O) (BA O) O (Ad O) (AE.step (v:=(Value.bool (decide (wy=7)))) (AB O) (BZ (c:=(decide (wy=7))) O O (NU (a:=wy) (b:=7))) O (Ad O) (AE.step (v:=(Value.bool (decide (wy=7)))) (AB O) (BA O) O (Ad O) ?_))
     refine AE.mid (FM:=[(1,(pP b1 0)),(2,(Value.slice none 0 0)),(3,(vN X)),(4,(vN Y)),(6,(vN i)),(5,(Value.slice p out.length c)),(7,(vK .u8 wy)),(8,(vN (2*u))),(9,(vN (2*v))),(10,(pP b2 0)),(11,(pP b3 0)),(12,(pP b4 0)),(13,(pP b5 0)),(14,(pP b6 0)),(76,(vK .u8 wy)),(77,(Value.bool (decide (wy<3)))),(78,(Value.bool false)),(79,(vK .u8 wy)),(80,(Value.bool (decide (wy=7)))),(81,(Value.bool (decide (wy=7)))),(84,(Value.bool ((decide (wy=7))&&(decide (i=0)))))]) (LM:=[Ae b6 147 (A8 ((2*u)+1,(2*v)+1)),Ae b5 147 (A8 (2*u,(2*v)+2)),Ae b4 147 (A8 ((2*u)+2,(2*v)+2)),Ae b3 147 (A8 ((2*u)+2,2*v)),Ae b2 147 (A8 (2*u,2*v)),rowW p 161 6 out.length c (rowsL A_ out),Ae b1 50 (EE m),Ah m.p (Cl m.cs)]) 3 ?_ ?_
     ·rcases Bool.eq_false_or_eq_true (decide (wy=7)) with hg2|hg2
      ·skip
       refine AE.retell (k:=81) (u:=Value.bool true) O (by rw [hg2]) ?_
       have hg2':=hg2
       replace hg2':=of_decide_eq_true hg2'
       exact AE.step (v:=(vN i)) (AB O) (BA O) O (Ad O) (AE.step (v:=(Value.bool (decide (i=0)))) (AB O) (BZ (c:=(decide (i=0))) O O (NU (a:=i) (b:=0))) O (Ad O) (AE.step (v:=(Value.bool (decide (i=0)))) (AB O) (Al O O) O (Ad O) (AE.nil (AD.mid (sS O (sS O (sS O (sS O (sS O (sS O (sS O (sS O (sS O (sS O (sS O (sS O (sS O (sS O (sS O (sS O (sS O (sS O (sS O (sS (by first|rfl|(rw [hg2];rfl)|rw [hg2]) (sS (by first|rfl|(rw [hg2];rfl)|rw [hg2]) (sN)))))))))))))))))))))) (List.Sublist.refl _)))))
      ·skip
       refine AE.retell (k:=81) (u:=Value.bool false) O (by rw [hg2]) ?_
       have hg2':=hg2
       replace hg2':=of_decide_eq_false hg2'
       exact AE.skip (AV O) O (Ad O) (AE.skip (AV O) O (Ad O) (AE.step (v:=(Value.bool false)) (AB O) (AW O O) O (Ad O) (AE.nil (AD.mid (sS O (sS O (sS O (sS O (sS O (sS O (sS O (sS O (sS O (sS O (sS O (sS O (sS O (sS O (sS O (sS O (sS O (sS O (sS O (sS (by first|rfl|(rw [hg2];rfl)|rw [hg2]) (sS (by first|rfl|(rw [hg2];rfl)|rw [hg2]) (sN)))))))))))))))))))))) (List.Sublist.refl _)))))
     exact AH (v:=(Value.bool ((decide (wy=7))&&(decide (i=0))))) (AW O O) O (AE.nil (AD.mid (sS O (sS O (sS O (sS O (sS O (sS O (sS O (sS O (sS O (sS O (sS O (sS O (sS O (sS O (sS O (sS O (sS (by first|rfl|(rw [hg1];rfl)|rw [hg1]) (sS (by first|rfl|(rw [hg1];rfl)|rw [hg1]) (sN))))))))))))))))))) (List.Sublist.refl _)))
   refine AJ O (AE.nil (AD.subF (sL [1,2,3,4,6,5,7,8,9,10,11,12,13,14,75] O) (AD.then_ ?_)))
   refine AF.cond O (λhc2=>?_) (λhc2=>?_)
   ·simp only [Bool.and_eq_true,Bool.or_eq_true,Bool.and_eq_false_iff,Bool.or_eq_false_iff,Bool.not_eq_true',Bool.not_eq_false',decide_eq_true_eq,decide_eq_false_iff_not] at hc2
    have hcell:=T_ hu hv (way:=wy) (by simpa using hc2)
    refine AF.region (AP O (BE 4 Bj O (BE 3 Bj O (BE 2 Bj O (AH (v:=(aG (A_ ((2*u,2*v),((2*u)+2,2*v),((2*u)+2,(2*v)+2))))) (Ao (zs:=A_ (((0,0),(0,0),(0,0)):P2×P2×P2)) (vs:=A_ ((2*u,2*v),((2*u)+2,2*v),((2*u)+2,(2*v)+2))) (pv:=[(0,(aG (A8 (2*u,2*v)))),(1,(aG (A8 ((2*u)+2,2*v)))),(2,(aG (A8 ((2*u)+2,(2*v)+2))))]) zeroValue161 underlying161 sizeOf147 O (Bs (2*u,2*v) ((2*u)+2,2*v) ((2*u)+2,(2*v)+2))) O ?_)))))
    refine BE 4 Bj O (BE 2 Bj O (BE 1 Bj O (AH (v:=(aG (A_ ((2*u,2*v),((2*u)+2,(2*v)+2),(2*u,(2*v)+2))))) (Ao (zs:=A_ (((0,0),(0,0),(0,0)):P2×P2×P2)) (vs:=A_ ((2*u,2*v),((2*u)+2,(2*v)+2),(2*u,(2*v)+2))) (pv:=[(0,(aG (A8 (2*u,2*v)))),(1,(aG (A8 ((2*u)+2,(2*v)+2)))),(2,(aG (A8 (2*u,(2*v)+2))))]) zeroValue161 underlying161 sizeOf147 O (Bs (2*u,2*v) ((2*u)+2,(2*v)+2) (2*u,(2*v)+2))) O (AE.openV (V:=λb7=>(Value.slice (some ⟨b7,0,none⟩) 2 2)) (T:=161) (cs:=A_ ((2*u,2*v),((2*u)+2,2*v),((2*u)+2,(2*v)+2))++A_ ((2*u,2*v),((2*u)+2,(2*v)+2),(2*u,(2*v)+2))) (AQ O) (BD (z:=.agg (A_ (((0,0),(0,0),(0,0)):P2×P2×P2)).toArray) (cs:=A_ ((2*u,2*v),((2*u)+2,2*v),((2*u)+2,(2*v)+2))++A_ ((2*u,2*v),((2*u)+2,(2*v)+2),(2*u,(2*v)+2))) (pv:=[(0,(aG (A_ ((2*u,2*v),((2*u)+2,2*v),((2*u)+2,(2*v)+2))))),(1,(aG (A_ ((2*u,2*v),((2*u)+2,(2*v)+2),(2*u,(2*v)+2)))))]) underlying159 sizeOf161 zeroValue161 (by decide) (by decide) O (Fj ((2*u,2*v),((2*u)+2,2*v),((2*u)+2,(2*v)+2)) ((2*u,2*v),((2*u)+2,(2*v)+2),(2*u,(2*v)+2)))) O (Ad O) λb7=>AE.appendAt 6 (j:=0) (cs2:=rowsL A_ (out++[((2*u,2*v),((2*u)+2,2*v),((2*u)+2,(2*v)+2)),((2*u,2*v),((2*u)+2,(2*v)+2),(2*u,(2*v)+2))])) Q7 O ho (Ag FB _) O O O O O (by decide) (JH Z) Z (by rw [BT];rfl) O λp_1 c_1 ho_1 hne_1=>?_))))
    refine AJ O (AE.nil (AD.subF (sL [1,2,3,4,6,5,7,8,9,10,11,12,13,14] O) (AD.in_normal (AD.in_normal (AD.then_ ?_)))))
    refine AF.region (AP O (AH (AX (c:=((i+1:Nat):Int)) O O (AZ (a:=i) (b:=1) Z)) O (AJ O (AE.nil (AD.subF (sL [1,2,3,4,6,5,7,8,9,10,11,12,13,14] O) ?_)))))
    rw [show out.length+2=(out++[((2*u,2*v),((2*u)+2,2*v),((2*u)+2,(2*v)+2)),((2*u,2*v),((2*u)+2,(2*v)+2),(2*u,(2*v)+2))]).length by simp]
    exact AD.round4 (i+1) p_1 c_1 (out++[((2*u,2*v),((2*u)+2,2*v),((2*u)+2,(2*v)+2)),((2*u,2*v),((2*u)+2,(2*v)+2),(2*u,(2*v)+2))]) (⟨Z,(by simpa using ho_1),by rw [hout];show _=Dk m i++CY (FN m) (Fm m i) i;rw [<-hX,<-hw,hcell]⟩) Z (sF O) (sl (sl (sl (sl (sl (sl sr))))))
   ·simp only [Bool.and_eq_true,Bool.or_eq_true,Bool.and_eq_false_iff,Bool.or_eq_false_iff,Bool.not_eq_true',Bool.not_eq_false',decide_eq_true_eq,decide_eq_false_iff_not] at hc2
    have h20:¬(wy<3\/(wy=7/\i=0)):=by simp at hc2;omega
    refine q4 (AP O (AH (Af (c:=(decide (wy<5))) O O (DB (a:=wy) (b:=5))) O (AJ O (AE.nil (AD.subF (sL [1,2,3,4,6,5,7,8,9,10,11,12,13,14,97] O) ?_)))))
    refine AD.then_ ?_
    refine AF.cond O (λhc3=>?_) (λhc3=>?_)
    ·replace hc3:=of_decide_eq_true hc3
     have hcell:=VJ hu hv h20 (by simpa using hc3)
     refine AF.region (AP O (BE 4 Bj O (BE 3 Bj O (BE 1 Bj O (AH (v:=(aG (A_ ((2*u,2*v),((2*u)+2,2*v),(2*u,(2*v)+2))))) (Ao (zs:=A_ (((0,0),(0,0),(0,0)):P2×P2×P2)) (vs:=A_ ((2*u,2*v),((2*u)+2,2*v),(2*u,(2*v)+2))) (pv:=[(0,(aG (A8 (2*u,2*v)))),(1,(aG (A8 ((2*u)+2,2*v)))),(2,(aG (A8 (2*u,(2*v)+2))))]) zeroValue161 underlying161 sizeOf147 O (Bs (2*u,2*v) ((2*u)+2,2*v) (2*u,(2*v)+2))) O ?_)))))
     refine BE 3 Bj O (BE 2 Bj O (BE 1 Bj O (AH (v:=(aG (A_ (((2*u)+2,2*v),((2*u)+2,(2*v)+2),(2*u,(2*v)+2))))) (Ao (zs:=A_ (((0,0),(0,0),(0,0)):P2×P2×P2)) (vs:=A_ (((2*u)+2,2*v),((2*u)+2,(2*v)+2),(2*u,(2*v)+2))) (pv:=[(0,(aG (A8 ((2*u)+2,2*v)))),(1,(aG (A8 ((2*u)+2,(2*v)+2)))),(2,(aG (A8 (2*u,(2*v)+2))))]) zeroValue161 underlying161 sizeOf147 O (Bs ((2*u)+2,2*v) ((2*u)+2,(2*v)+2) (2*u,(2*v)+2))) O (AE.openV (V:=λb7=>(Value.slice (some ⟨b7,0,none⟩) 2 2)) (T:=161) (cs:=A_ ((2*u,2*v),((2*u)+2,2*v),(2*u,(2*v)+2))++A_ (((2*u)+2,2*v),((2*u)+2,(2*v)+2),(2*u,(2*v)+2))) (AQ O) (BD (z:=.agg (A_ (((0,0),(0,0),(0,0)):P2×P2×P2)).toArray) (cs:=A_ ((2*u,2*v),((2*u)+2,2*v),(2*u,(2*v)+2))++A_ (((2*u)+2,2*v),((2*u)+2,(2*v)+2),(2*u,(2*v)+2))) (pv:=[(0,(aG (A_ ((2*u,2*v),((2*u)+2,2*v),(2*u,(2*v)+2))))),(1,(aG (A_ (((2*u)+2,2*v),((2*u)+2,(2*v)+2),(2*u,(2*v)+2)))))]) underlying159 sizeOf161 zeroValue161 (by decide) (by decide) O (Fj ((2*u,2*v),((2*u)+2,2*v),(2*u,(2*v)+2)) (((2*u)+2,2*v),((2*u)+2,(2*v)+2),(2*u,(2*v)+2)))) O (Ad O) λb7=>AE.appendAt 6 (j:=0) (cs2:=rowsL A_ (out++[((2*u,2*v),((2*u)+2,2*v),(2*u,(2*v)+2)),(((2*u)+2,2*v),((2*u)+2,(2*v)+2),(2*u,(2*v)+2))])) Q7 O ho (Ag FB _) O O O O O (by decide) (JH Z) Z (by rw [BT];rfl) O λp_2 c_2 ho_2 hne_2=>?_))))
     refine AJ O (AE.nil (AD.subF (sL [1,2,3,4,6,5,7,8,9,10,11,12,13,14] O) (AD.in_normal (AD.in_normal (AD.then_ ?_)))))
     refine AF.region (AP O (AH (AX (c:=((i+1:Nat):Int)) O O (AZ (a:=i) (b:=1) Z)) O (AJ O (AE.nil (AD.subF (sL [1,2,3,4,6,5,7,8,9,10,11,12,13,14] O) ?_)))))
     rw [show out.length+2=(out++[((2*u,2*v),((2*u)+2,2*v),(2*u,(2*v)+2)),(((2*u)+2,2*v),((2*u)+2,(2*v)+2),(2*u,(2*v)+2))]).length by simp]
     exact AD.round4 (i+1) p_2 c_2 (out++[((2*u,2*v),((2*u)+2,2*v),(2*u,(2*v)+2)),(((2*u)+2,2*v),((2*u)+2,(2*v)+2),(2*u,(2*v)+2))]) (⟨Z,(by simpa using ho_2),by rw [hout];show _=Dk m i++CY (FN m) (Fm m i) i;rw [<-hX,<-hw,hcell]⟩) Z (sF O) (sl (sl (sl (sl (sl (sl sr))))))
    ·replace hc3:=of_decide_eq_false hc3
     have h30:¬wy<5:=by simpa using hc3
     refine q4 (AP O (AH (Af (c:=(decide (wy<7))) O O (DB (a:=wy) (b:=7))) O (AJ O (AE.nil (AD.subF (sL [1,2,3,4,6,5,7,8,9,10,11,12,13,14,111] O) ?_)))))
     refine AD.then_ ?_
     refine AF.cond O (λhc4=>?_) (λhc4=>?_)
     ·replace hc4:=of_decide_eq_true hc4
      have hcell:=UI hu hv h20 h30 (by simpa using hc4)
      refine AF.region (AP O (BE 4 Bj O (BE 3 Bj O (BE 0 Bj O (AH (v:=(aG (A_ ((2*u,2*v),((2*u)+2,2*v),((2*u)+1,(2*v)+1))))) (Ao (zs:=A_ (((0,0),(0,0),(0,0)):P2×P2×P2)) (vs:=A_ ((2*u,2*v),((2*u)+2,2*v),((2*u)+1,(2*v)+1))) (pv:=[(0,(aG (A8 (2*u,2*v)))),(1,(aG (A8 ((2*u)+2,2*v)))),(2,(aG (A8 ((2*u)+1,(2*v)+1))))]) zeroValue161 underlying161 sizeOf147 O (Bs (2*u,2*v) ((2*u)+2,2*v) ((2*u)+1,(2*v)+1))) O ?_)))))
      refine BE 3 Bj O (BE 2 Bj O (BE 0 Bj O (AH (v:=(aG (A_ (((2*u)+2,2*v),((2*u)+2,(2*v)+2),((2*u)+1,(2*v)+1))))) (Ao (zs:=A_ (((0,0),(0,0),(0,0)):P2×P2×P2)) (vs:=A_ (((2*u)+2,2*v),((2*u)+2,(2*v)+2),((2*u)+1,(2*v)+1))) (pv:=[(0,(aG (A8 ((2*u)+2,2*v)))),(1,(aG (A8 ((2*u)+2,(2*v)+2)))),(2,(aG (A8 ((2*u)+1,(2*v)+1))))]) zeroValue161 underlying161 sizeOf147 O (Bs ((2*u)+2,2*v) ((2*u)+2,(2*v)+2) ((2*u)+1,(2*v)+1))) O (BE 2 Bj O (BE 1 Bj O ?_)))))
      refine BE 0 Bj O (AH (v:=(aG (A_ (((2*u)+2,(2*v)+2),(2*u,(2*v)+2),((2*u)+1,(2*v)+1))))) (Ao (zs:=A_ (((0,0),(0,0),(0,0)):P2×P2×P2)) (vs:=A_ (((2*u)+2,(2*v)+2),(2*u,(2*v)+2),((2*u)+1,(2*v)+1))) (pv:=[(0,(aG (A8 ((2*u)+2,(2*v)+2)))),(1,(aG (A8 (2*u,(2*v)+2)))),(2,(aG (A8 ((2*u)+1,(2*v)+1))))]) zeroValue161 underlying161 sizeOf147 O (Bs ((2*u)+2,(2*v)+2) (2*u,(2*v)+2) ((2*u)+1,(2*v)+1))) O (BE 1 Bj O (BE 4 Bj O (BE 0 Bj O (AH (v:=(aG (A_ ((2*u,(2*v)+2),(2*u,2*v),((2*u)+1,(2*v)+1))))) (Ao (zs:=A_ (((0,0),(0,0),(0,0)):P2×P2×P2)) (vs:=A_ ((2*u,(2*v)+2),(2*u,2*v),((2*u)+1,(2*v)+1))) (pv:=[(0,(aG (A8 (2*u,(2*v)+2)))),(1,(aG (A8 (2*u,2*v)))),(2,(aG (A8 ((2*u)+1,(2*v)+1))))]) zeroValue161 underlying161 sizeOf147 O (Bs (2*u,(2*v)+2) (2*u,2*v) ((2*u)+1,(2*v)+1))) O ?_)))))
      refine AE.openV (V:=λb7=>(Value.slice (some ⟨b7,0,none⟩) 4 4)) (T:=161) (cs:=A_ ((2*u,2*v),((2*u)+2,2*v),((2*u)+1,(2*v)+1))++A_ (((2*u)+2,2*v),((2*u)+2,(2*v)+2),((2*u)+1,(2*v)+1))++A_ (((2*u)+2,(2*v)+2),(2*u,(2*v)+2),((2*u)+1,(2*v)+1))++A_ ((2*u,(2*v)+2),(2*u,2*v),((2*u)+1,(2*v)+1))) (AQ O) (BD (z:=.agg (A_ (((0,0),(0,0),(0,0)):P2×P2×P2)).toArray) (cs:=A_ ((2*u,2*v),((2*u)+2,2*v),((2*u)+1,(2*v)+1))++A_ (((2*u)+2,2*v),((2*u)+2,(2*v)+2),((2*u)+1,(2*v)+1))++A_ (((2*u)+2,(2*v)+2),(2*u,(2*v)+2),((2*u)+1,(2*v)+1))++A_ ((2*u,(2*v)+2),(2*u,2*v),((2*u)+1,(2*v)+1))) (pv:=[(0,(aG (A_ ((2*u,2*v),((2*u)+2,2*v),((2*u)+1,(2*v)+1))))),(1,(aG (A_ (((2*u)+2,2*v),((2*u)+2,(2*v)+2),((2*u)+1,(2*v)+1))))),(2,(aG (A_ (((2*u)+2,(2*v)+2),(2*u,(2*v)+2),((2*u)+1,(2*v)+1))))),(3,(aG (A_ ((2*u,(2*v)+2),(2*u,2*v),((2*u)+1,(2*v)+1)))))]) underlying159 sizeOf161 zeroValue161 (by decide) (by decide) O (Ik ((2*u,2*v),((2*u)+2,2*v),((2*u)+1,(2*v)+1)) (((2*u)+2,2*v),((2*u)+2,(2*v)+2),((2*u)+1,(2*v)+1)) (((2*u)+2,(2*v)+2),(2*u,(2*v)+2),((2*u)+1,(2*v)+1)) ((2*u,(2*v)+2),(2*u,2*v),((2*u)+1,(2*v)+1)))) O (Ad O) λb7=>AE.appendAt 6 (j:=0) (cs2:=rowsL A_ (out++[((2*u,2*v),((2*u)+2,2*v),((2*u)+1,(2*v)+1)),(((2*u)+2,2*v),((2*u)+2,(2*v)+2),((2*u)+1,(2*v)+1)),(((2*u)+2,(2*v)+2),(2*u,(2*v)+2),((2*u)+1,(2*v)+1)),((2*u,(2*v)+2),(2*u,2*v),((2*u)+1,(2*v)+1))])) Q7 O ho (Ag FB _) O O O O O (by decide) (JH Z) Z (by rw [BT];rfl) O λp_3 c_3 ho_3 hne_3=>AJ O (AE.nil (AD.subF (sL [1,2,3,4,6,5,7,8,9,10,11,12,13,14] O) (AD.in_normal ?_)))
      refine AD.in_normal (AD.then_ (AF.region (AP O (AH (AX (c:=((i+1:Nat):Int)) O O (AZ (a:=i) (b:=1) Z)) O (AJ O ?_)))))
      refine AE.nil (AD.subF (sL [1,2,3,4,6,5,7,8,9,10,11,12,13,14] O) ?_)
      rw [show out.length+4=(out++[((2*u,2*v),((2*u)+2,2*v),((2*u)+1,(2*v)+1)),(((2*u)+2,2*v),((2*u)+2,(2*v)+2),((2*u)+1,(2*v)+1)),(((2*u)+2,(2*v)+2),(2*u,(2*v)+2),((2*u)+1,(2*v)+1)),((2*u,(2*v)+2),(2*u,2*v),((2*u)+1,(2*v)+1))]).length by simp]
      exact AD.round4 (i+1) p_3 c_3 (out++[((2*u,2*v),((2*u)+2,2*v),((2*u)+1,(2*v)+1)),(((2*u)+2,2*v),((2*u)+2,(2*v)+2),((2*u)+1,(2*v)+1)),(((2*u)+2,(2*v)+2),(2*u,(2*v)+2),((2*u)+1,(2*v)+1)),((2*u,(2*v)+2),(2*u,2*v),((2*u)+1,(2*v)+1))]) (⟨Z,(by simpa using ho_3),by rw [hout];show _=Dk m i++CY (FN m) (Fm m i) i;rw [<-hX,<-hw,hcell]⟩) Z (sF O) (sl (sl (sl (sl (sl (sl sr))))))
     ·replace hc4:=of_decide_eq_false hc4
      have hcell:CY X wy i=[]:=VG h20 h30 (by simpa using hc4)
      refine AF.skip (AD.in_normal (AD.in_normal (AD.then_ (AF.region (AP O ?_)))))
      exact AH (AX (c:=((i+1:Nat):Int)) O O (AZ (a:=i) (b:=1) Z)) O (AJ O (AE.nil (AD.subF (sL [1,2,3,4,6,5,7,8,9,10,11,12,13,14] O) (AD.round4 (i+1) p c out (⟨Z,(by simpa using ho),by rw [hout];show _=Dk m i++CY (FN m) (Fm m i) i;rw [<-hX,<-hw,hcell];simp⟩) Z (sF O) (sl (sl (sl (sl (sl sr)))))))))
 ·replace hc0:=of_decide_eq_false hc0
  have hfin:out=Az m:=by rw [hout];unfold Az;rw [<-hX,<-hY,show i=X*Y by omega]
  refine AF.exit (AD.then_exit (AD.round4_exit (AD.in_exit (q2 (AP O ?_)))))
  exact AJ O (AE.nil (AD.subF (sL [1,2,3,4,6,5] O) (AD.then_ (AF.ret (AN O (Ac (v:=(Value.slice p out.length c)) O) (λw hw=>(by rw [<-hfin];exact X_ hw 0 O ho (Ag FB _) O)))))))
theorem Fk (x0 x1 x2 x3:Int):Instr.fill (λi=>some (i*1,1)) (Tj ((0,0,0,0):Int×Int×Int×Int)).toArray [(0,.int .i64 x0),(1,.int .i64 x1),(2,.int .i64 x2),(3,.int .i64 x3)]=some (Tj (x0,x1,x2,x3)).toArray:=by kernel_rfl
theorem Fl (x0 x1:Int):Instr.fill (λi=>some (i*1,1)) (CK ((0,0):Int×Int)).toArray [(0,.int .i64 x0),(1,.int .i64 x1)]=some (CK (x0,x1)).toArray:=by kernel_rfl
theorem Hs (m:MQ) (p:P2) (hp:p.1<=6/\p.2<=6) (w:World) {S:Nat->Prop} (hm:Ro S w m):Calls prog 88 #[(aG (EE m)),(aG (A8 p))] w (Ak w (aG (CK ((Fp m.a m.b m.c m.d).at_ p)))):=by
 obtain ⟨A,hA⟩:∃A,A=m.a.tmod 4:=⟨_,rfl⟩
 obtain ⟨B,hB⟩:∃A,A=m.b.tmod 4:=⟨_,rfl⟩
 obtain ⟨C,hC⟩:∃A,A=m.c.tmod 4:=⟨_,rfl⟩
 obtain ⟨D,hD⟩:∃A,A=m.d.tmod 4:=⟨_,rfl⟩
 have kA:=Ib m.a
 have kB:=Ib m.b
 have kC:=Ib m.c
 have kD:=Ib m.d
 rw [<-hA] at kA
 rw [<-hB] at kB
 rw [<-hC] at kC
 rw [<-hD] at kD
 have e1:=Ck kA (k:=3) kD
 have e2:=Ck kB (k:=3) kC
 have lm:=Ep (W:=w) hm
 refine BF (args:=[(aG (EE m)),(aG (A8 p))]) (L:=[Ah m.p (Cl m.cs)]) func88 O O (Ad O) (En hm BQ) (AF.subF (sL [0,1] O) (q4 (Bk (cs:=EE m) O λb1=>Bk (cs:=A8 p) O λb2=>al XQ O λb3=>?_)))
 refine q3 (sL [2,3,4] O) (AH (v:=(pP b1 3)) (AA O underlying50 O sizeOf48 O) O (AH (v:=(pP b1 3)) (AC (j:=0) O O underlying48 sizeOf47 O (by decide) O) O (BN 2 (Value.int .i8 m.a) Tr O (AH (Bo (c:=A) O O (by decide) hA.symm) O (AH (Ap (c:=A) O underlying47 underlying2 (BM Z Z)) O ?_)))))
 refine AH (v:=(pP b1 3)) (AA O underlying50 O sizeOf48 O) O (AH (v:=(pP b1 4)) (AC (j:=1) O O underlying48 sizeOf47 O (by decide) O) O (BN 2 (Value.int .i8 m.b) Tr O (AH (Bo (c:=B) O O (by decide) hB.symm) O (AH (Ap (c:=B) O underlying47 underlying2 (BM Z Z)) O (AH (v:=(pP b1 3)) (AA O underlying50 O sizeOf48 O) O ?_)))))
 refine AH (v:=(pP b1 5)) (AC (j:=2) O O underlying48 sizeOf47 O (by decide) O) O (BN 2 (Value.int .i8 m.c) Tr O (AH (Bo (c:=C) O O (by decide) hC.symm) O (AH (Ap (c:=C) O underlying47 underlying2 (BM Z Z)) O (AH (v:=(pP b1 3)) (AA O underlying50 O sizeOf48 O) O (AH (v:=(pP b1 6)) (AC (j:=3) O O underlying48 sizeOf47 O (by decide) O) O ?_)))))
 refine BN 2 (Value.int .i8 m.d) Tr O (AH (Bo (c:=D) O O (by decide) hD.symm) O (AH (Ap (c:=D) O underlying47 underlying2 (BM Z Z)) O (AH (v:=(aG (Tj (A,B,C,D)))) (Ao (zs:=Tj ((0,0,0,0):Int×Int×Int×Int)) (vs:=Tj (A,B,C,D)) (pv:=[(0,(vI A)),(1,(vI B)),(2,(vI C)),(3,(vI D))]) zeroValue212 underlying212 sizeOf2 O (Fk A B C D)) O (al Wu O λb4=>Aq O sizeOf212 O ?_))))
 refine q3 (sL [3,4,5] O) (AH (v:=(pP b4 0)) (AC (j:=0) O O underlying212 sizeOf2 O (by decide) O) O (BN 0 (vI A) Li O (AH (v:=(pP b4 3)) (AC (j:=3) O O underlying212 sizeOf2 O (by decide) O) O (BN 0 (vI D) Li O (AH (Bq (c:=(A*D)) O O (BM Z Z)) O ?_)))))
 refine AH (v:=(pP b4 1)) (AC (j:=1) O O underlying212 sizeOf2 O (by decide) O) O (BN 0 (vI B) Li O (AH (v:=(pP b4 2)) (AC (j:=2) O O underlying212 sizeOf2 O (by decide) O) O (BN 0 (vI C) Li O (AH (Bq (c:=(B*C)) O O (BM Z Z)) O (AH (By (c:=(A*D-B*C)) O O (BM Z Z)) O ?_)))))
 refine AJ O (q6 (sL [3,4,5,6] O) (q4 (AP O (AH (BZ (c:=(decide ((A*D-B*C)=(0:Int)))) O O O) O (AE.nil ?_)))))
 refine AD.subF (sL [3,4,5,6,42] O) (AD.then_ ?_)
 refine AF.cond O (λhc0=>?_) (λhc0=>?_)
 ·replace hc0:=of_decide_eq_true hc0
  have hz0:=hc0
  refine AF.region (AH (v:=(aG (Tj ((1:Int),(0:Int),(0:Int),(1:Int))))) (Ao (zs:=Tj ((0,0,0,0):Int×Int×Int×Int)) (vs:=Tj ((1:Int),(0:Int),(0:Int),(1:Int))) (pv:=[(0,(vI 1)),(1,(vI 0)),(2,(vI 0)),(3,(vI 1))]) zeroValue212 underlying212 sizeOf2 O (Fk (1:Int) (0:Int) (0:Int) (1:Int))) O (Aq O sizeOf212 O (q6 (sL [3,4,5,6] O) (q4 (AP O ?_)))))
  refine AH (Af (c:=(decide ((A*D-B*C)<(0:Int)))) O O O) O (AE.nil (AD.subF (sL [3,4,5,6,45] O) (AD.then_ ?_)))
  refine AF.jn1 (tg λ(K:Cr)=>K=Fp m.a m.b m.c m.d) (tg λ(K:Cr)=>[(3,(pP b2 0)),(4,(pP b3 0)),(5,(pP b4 0))]) (tg λ(K:Cr)=>[Ae b4 212 (Tj (K.a,K.b,K.c,K.d)),Ae b3 121 (CK ((0,0):Int×Int)),Ae b2 147 (A8 p),Ae b1 50 (EE m),Ah m.p (Cl m.cs)]) ?_ ?_
  ·skip
   refine AF.cond O (λhc1=>?_) (λhc1=>?_)
   ·replace hc1:=of_decide_eq_true hc1
    refine q4 (AH (v:=(pP b4 2)) (AC (j:=2) O O underlying212 sizeOf2 O (by decide) O) O (BN 0 (vI (0:Int)) Li O (AH (Ja (c:=(-C)) O (by first|(exfalso;omega)|(rw [Int.zero_sub];exact BM Z Z))) O (AH (v:=(pP b4 2)) (AC (j:=2) O O underlying212 sizeOf2 O (by decide) O) O (GP 0 (off:=2) (vs:=[(vI (-C))]) (cs':=[(vI (1:Int)),(vI (0:Int)),(vI (-C)),(vI (1:Int))]) (AQ O) O sizeOf2 O ?_)))))
    refine AE.nil (AD.subF (sL [3,4,5,6] O) (AD.then_ (AF.region (AH (v:=(pP b4 3)) (AC (j:=3) O O underlying212 sizeOf2 O (by decide) O) O (BN 0 (vI (1:Int)) Li O ?_)))))
    exact AH (Ja (c:=(-D)) O (by first|(exfalso;omega)|(rw [Int.zero_sub];exact BM Z Z))) O (AH (v:=(pP b4 3)) (AC (j:=3) O O underlying212 sizeOf2 O (by decide) O) O (GP 0 (off:=3) (vs:=[(vI (-D))]) (cs':=[(vI (1:Int)),(vI (0:Int)),(vI (-C)),(vI (-D))]) (AQ O) O sizeOf2 O (AE.nil (AD.subF (sL [3,4,5,6] O) (AD.join1 (Cr.mk (1:Int) (0:Int) (-C) (-D)) ((by first|(exfalso;omega)|exact (MU hA hB hC hD hz0).symm|exact (MC hA hB hC hD hc1).symm|exact (MK hA hB hC hD hz0 hc1).symm)) (sF O) sr)))))
   ·replace hc1:=of_decide_eq_false hc1
    exact AF.skip (AD.join1 (Cr.mk (1:Int) (0:Int) (0:Int) (1:Int)) ((by first|(exfalso;omega)|exact (MU hA hB hC hD hz0).symm|exact (MC hA hB hC hD hc1).symm|exact (MK hA hB hC hD hz0 hc1).symm)) (sF O) sr)
  ·intro K hJ
   have hK:=hJ
   have kk:=El m.a m.b m.c m.d
   rw [<-hK] at kk
   have qz0:=Ck kk.a (k:=6) (b:=(p.1:Int)) Z
   have qz1:=Ck kk.b (k:=6) (b:=(p.2:Int)) Z
   have qz2:=Ck kk.c (k:=6) (b:=(p.1:Int)) Z
   have qz3:=Ck kk.d (k:=6) (b:=(p.2:Int)) Z
   refine q2 (AH (v:=(pP b2 0)) (AC (j:=0) O O underlying147 sizeOf3 O (by decide) O) O (BN 2 (vN p.1) B7 O (AJ O (q3 (sL [3,4,5,7] O) (AH (v:=(pP b2 1)) (AC (j:=1) O O underlying147 sizeOf3 O (by decide) O) O ?_)))))
   refine BN 2 (vN p.2) B7 O (AJ O (q3 (sL [3,4,5,7,8] O) (AH (v:=(pP b4 0)) (AC (j:=0) O O underlying212 sizeOf2 O (by decide) O) O (BN 0 (vI K.a) Li O (AP O ?_)))))
   refine AH (Bq (c:=(K.a*(p.1:Int))) O O (BM Z Z)) O (AH (v:=(pP b4 1)) (AC (j:=1) O O underlying212 sizeOf2 O (by decide) O) O (BN 0 (vI K.b) Li O (AP O (AH (Bq (c:=(K.b*(p.2:Int))) O O (BM Z Z)) O (AH (AX (c:=(K.a*(p.1:Int)+K.b*(p.2:Int))) O O (BM Z Z)) O ?_)))))
   refine AH (v:=(pP b4 2)) (AC (j:=2) O O underlying212 sizeOf2 O (by decide) O) O (BN 0 (vI K.c) Li O (AP O (AH (Bq (c:=(K.c*(p.1:Int))) O O (BM Z Z)) O (AH (v:=(pP b4 3)) (AC (j:=3) O O underlying212 sizeOf2 O (by decide) O) O (BN 0 (vI K.d) Li O ?_)))))
   refine AP O (AH (Bq (c:=(K.d*(p.2:Int))) O O (BM Z Z)) O (AH (AX (c:=(K.c*(p.1:Int)+K.d*(p.2:Int))) O O (BM Z Z)) O (AH (v:=(aG (CK (K.a*(p.1:Int)+K.b*(p.2:Int),K.c*(p.1:Int)+K.d*(p.2:Int))))) (Ao (zs:=CK ((0,0):Int×Int)) (vs:=CK (K.a*(p.1:Int)+K.b*(p.2:Int),K.c*(p.1:Int)+K.d*(p.2:Int))) (pv:=[(0,(vI (K.a*(p.1:Int)+K.b*(p.2:Int)))),(1,(vI (K.c*(p.1:Int)+K.d*(p.2:Int))))]) zeroValue121 underlying121 sizeOf2 O (Fl (K.a*(p.1:Int)+K.b*(p.2:Int)) (K.c*(p.1:Int)+K.d*(p.2:Int)))) O (C9 O sizeOf121 O (AE.nil ?_)))))
   exact AD.subF (sL [3,4,5] O) (AD.then_ (AF.ret (AN O (A7 (i:=1) (cs:=CK (K.a*(p.1:Int)+K.b*(p.2:Int),K.c*(p.1:Int)+K.d*(p.2:Int))) O O isAgg121 sizeOf121 O) (λw hw=>⟨by rw [<-hK];rfl,hw.out⟩))))
 ·replace hc0:=of_decide_eq_false hc0
  have hz0:=hc0
  refine AF.skip (q1 (q4 (AP O (AH (Af (c:=(decide ((A*D-B*C)<(0:Int)))) O O O) O (AE.nil ?_)))))
  refine AD.subF (sL [3,4,5,6,45] O) (AD.then_ ?_)
  refine AF.jn1 (tg λ(K:Cr)=>K=Fp m.a m.b m.c m.d) (tg λ(K:Cr)=>[(3,(pP b2 0)),(4,(pP b3 0)),(5,(pP b4 0))]) (tg λ(K:Cr)=>[Ae b4 212 (Tj (K.a,K.b,K.c,K.d)),Ae b3 121 (CK ((0,0):Int×Int)),Ae b2 147 (A8 p),Ae b1 50 (EE m),Ah m.p (Cl m.cs)]) ?_ ?_
  ·skip
   refine AF.cond O (λhc1=>?_) (λhc1=>?_)
   ·replace hc1:=of_decide_eq_true hc1
    refine q4 (AH (v:=(pP b4 2)) (AC (j:=2) O O underlying212 sizeOf2 O (by decide) O) O (BN 0 (vI C) Li O (AH (Ja (c:=(-C)) O (by first|(exfalso;omega)|(rw [Int.zero_sub];exact BM Z Z))) O (AH (v:=(pP b4 2)) (AC (j:=2) O O underlying212 sizeOf2 O (by decide) O) O (GP 0 (off:=2) (vs:=[(vI (-C))]) (cs':=[(vI A),(vI B),(vI (-C)),(vI D)]) (AQ O) O sizeOf2 O ?_)))))
    refine AE.nil (AD.subF (sL [3,4,5,6] O) (AD.then_ (AF.region (AH (v:=(pP b4 3)) (AC (j:=3) O O underlying212 sizeOf2 O (by decide) O) O (BN 0 (vI D) Li O ?_)))))
    exact AH (Ja (c:=(-D)) O (by first|(exfalso;omega)|(rw [Int.zero_sub];exact BM Z Z))) O (AH (v:=(pP b4 3)) (AC (j:=3) O O underlying212 sizeOf2 O (by decide) O) O (GP 0 (off:=3) (vs:=[(vI (-D))]) (cs':=[(vI A),(vI B),(vI (-C)),(vI (-D))]) (AQ O) O sizeOf2 O (AE.nil (AD.subF (sL [3,4,5,6] O) (AD.join1 (Cr.mk A B (-C) (-D)) ((by first|(exfalso;omega)|exact (MU hA hB hC hD hz0).symm|exact (MC hA hB hC hD hc1).symm|exact (MK hA hB hC hD hz0 hc1).symm)) (sF O) sr)))))
   ·replace hc1:=of_decide_eq_false hc1
    exact AF.skip (AD.join1 (Cr.mk A B C D) ((by first|(exfalso;omega)|exact (MU hA hB hC hD hz0).symm|exact (MC hA hB hC hD hc1).symm|exact (MK hA hB hC hD hz0 hc1).symm)) (sF O) sr)
  ·intro K hJ
   have hK:=hJ
   have kk:=El m.a m.b m.c m.d
   rw [<-hK] at kk
   have qz0:=Ck kk.a (k:=6) (b:=(p.1:Int)) Z
   have qz1:=Ck kk.b (k:=6) (b:=(p.2:Int)) Z
   have qz2:=Ck kk.c (k:=6) (b:=(p.1:Int)) Z
   have qz3:=Ck kk.d (k:=6) (b:=(p.2:Int)) Z
   refine q2 (AH (v:=(pP b2 0)) (AC (j:=0) O O underlying147 sizeOf3 O (by decide) O) O (BN 2 (vN p.1) B7 O (AJ O (q3 (sL [3,4,5,7] O) (AH (v:=(pP b2 1)) (AC (j:=1) O O underlying147 sizeOf3 O (by decide) O) O ?_)))))
   refine BN 2 (vN p.2) B7 O (AJ O (q3 (sL [3,4,5,7,8] O) (AH (v:=(pP b4 0)) (AC (j:=0) O O underlying212 sizeOf2 O (by decide) O) O (BN 0 (vI K.a) Li O (AP O ?_)))))
   refine AH (Bq (c:=(K.a*(p.1:Int))) O O (BM Z Z)) O (AH (v:=(pP b4 1)) (AC (j:=1) O O underlying212 sizeOf2 O (by decide) O) O (BN 0 (vI K.b) Li O (AP O (AH (Bq (c:=(K.b*(p.2:Int))) O O (BM Z Z)) O (AH (AX (c:=(K.a*(p.1:Int)+K.b*(p.2:Int))) O O (BM Z Z)) O ?_)))))
   refine AH (v:=(pP b4 2)) (AC (j:=2) O O underlying212 sizeOf2 O (by decide) O) O (BN 0 (vI K.c) Li O (AP O (AH (Bq (c:=(K.c*(p.1:Int))) O O (BM Z Z)) O (AH (v:=(pP b4 3)) (AC (j:=3) O O underlying212 sizeOf2 O (by decide) O) O (BN 0 (vI K.d) Li O ?_)))))
   refine AP O (AH (Bq (c:=(K.d*(p.2:Int))) O O (BM Z Z)) O (AH (AX (c:=(K.c*(p.1:Int)+K.d*(p.2:Int))) O O (BM Z Z)) O (AH (v:=(aG (CK (K.a*(p.1:Int)+K.b*(p.2:Int),K.c*(p.1:Int)+K.d*(p.2:Int))))) (Ao (zs:=CK ((0,0):Int×Int)) (vs:=CK (K.a*(p.1:Int)+K.b*(p.2:Int),K.c*(p.1:Int)+K.d*(p.2:Int))) (pv:=[(0,(vI (K.a*(p.1:Int)+K.b*(p.2:Int)))),(1,(vI (K.c*(p.1:Int)+K.d*(p.2:Int))))]) zeroValue121 underlying121 sizeOf2 O (Fl (K.a*(p.1:Int)+K.b*(p.2:Int)) (K.c*(p.1:Int)+K.d*(p.2:Int)))) O (C9 O sizeOf121 O (AE.nil ?_)))))
   exact AD.subF (sL [3,4,5] O) (AD.then_ (AF.ret (AN O (A7 (i:=1) (cs:=CK (K.a*(p.1:Int)+K.b*(p.2:Int),K.c*(p.1:Int)+K.d*(p.2:Int))) O O isAgg121 sizeOf121 O) (λw hw=>⟨by rw [<-hK];rfl,hw.out⟩))))
end
end Go.Proofs.YtfbomiejpbchdaaGreatDoor
