import Derived.Test.YtfbomiejpbchdaaGreatPart06
import Derived.Test.YtfbomiejpbchdaaGreatPart08
import Derived.Test.YtfbomiejpbchdaaGreatPart20
namespace Go.Proofs.YtfbomiejpbchdaaGreat
open Go Go.RowKit Go.Proofs.Tryz
set_option linter.unusedVariables false
set_option linter.unusedSimpArgs false
section
set_option maxRecDepth 100000
theorem TH:ElemT prog 187 189 6 48:=⟨underlying187,Eb (by kernel_rfl)⟩
theorem C7 (x0 x1:Nat):Instr.fill (λi=>some (i*1,1)) (Az ((0,0):P2)).toArray [(0,vN x0),(1,vN x1)]=some (Az (x0,x1)).toArray:=by kernel_rfl
theorem B8 (x0 x1 x2:P2):Instr.fill (λi=>some (i*2,2)) (BH (((0,0),(0,0),(0,0)):P2×P2×P2)).toArray [(0,.agg (Az x0).toArray),(1,.agg (Az x1).toArray),(2,.agg (Az x2).toArray)]=some (BH (x0,x1,x2)).toArray:=by kernel_rfl
theorem Ga (x0 x1:P2×P2×P2):Instr.fill (λi=>some (i*6,6)) ((Array.range (2*6)).map ((Value.agg (BH (((0,0),(0,0),(0,0)):P2×P2×P2)).toArray).cells[·%(Value.agg (BH (((0,0),(0,0),(0,0)):P2×P2×P2)).toArray).cells.size]!)) [(0,.agg (BH x0).toArray),(1,.agg (BH x1).toArray)]=some (BH x0++BH x1).toArray:=by kernel_rfl
theorem JY (x0 x1 x2 x3:P2×P2×P2):Instr.fill (λi=>some (i*6,6)) ((Array.range (4*6)).map ((Value.agg (BH (((0,0),(0,0),(0,0)):P2×P2×P2)).toArray).cells[·%(Value.agg (BH (((0,0),(0,0),(0,0)):P2×P2×P2)).toArray).cells.size]!)) [(0,.agg (BH x0).toArray),(1,.agg (BH x1).toArray),(2,.agg (BH x2).toArray),(3,.agg (BH x3).toArray)]=some (BH x0++BH x1++BH x2++BH x3).toArray:=by kernel_rfl
set_option maxHeartbeats 1000000 in
theorem SN (m:MQ) (w:World) {S:Nat->Prop} (hm:Ro S w m):Calls prog 112 #[(aG (Ek m))] w (Bb (RX (rowsL BH (BD m)) (BD m).length) S w):=by
 obtain ⟨X,hX⟩:∃X,X=GD m:=⟨_,rfl⟩
 obtain ⟨Y,hY⟩:∃Y,Y=Rm m:=⟨_,rfl⟩
 have hx1:=I6 m
 have hy1:=Ie m
 have hxy:=JB m
 rw [<-hX] at hx1 hxy
 rw [<-hY] at hy1 hxy
 have lm:=EA (W:=w) hm
 refine BF (args:=[(aG (Ek m))]) (L:=[AZ m.p (Cc m.cs)]) func112 O O (Ab O) (EB hm BR) (AF.subF (sL [0] O) (q4 (Bo (cs:=Ek m) O λb1=>AO O (q3 (sL [1,2] O) ?_))))
 refine AI (v:=(pP b1 0)) (AA O underlying26 O sizeOf5 O) O (BK 0 (vK .u8 m.nx) SY O (AI (CC (c:=((m.nx%3:Nat):Int)) O O Z (H2 (a:=m.nx) (b:=3))) O (AI (A9 (c:=((m.nx%3:Nat):Int)) O underlying5 underlying3 (CW Z)) O (AI (AY (c:=((1+(m.nx%3):Nat):Int)) O O (AX (a:=1) (b:=m.nx%3) Z)) O (AE.retell (k:=19) (u:=(vN X)) O (by rw [hX];rfl) ?_)))))
 refine AO O (q3 (sL [1,2,3] O) (AI (v:=(pP b1 1)) (AA O underlying26 O sizeOf5 O) O (BK 0 (vK .u8 m.ny) SY O (AI (CC (c:=((m.ny%3:Nat):Int)) O O Z (H2 (a:=m.ny) (b:=3))) O (AI (A9 (c:=((m.ny%3:Nat):Int)) O underlying5 underlying3 (CW Z)) O ?_)))))
 refine AI (AY (c:=((1+(m.ny%3):Nat):Int)) O O (AX (a:=1) (b:=m.ny%3) Z)) O (AE.retell (k:=24) (u:=(vN Y)) O (by rw [hY];rfl) (AO O (q3 (sL [1,2,3,4] O) (AO O (AE.nilRow 189 6 ?_)))))
 refine AE.nil (q1 (q4 (AO O (AE.nil (AC.then_ ?_)))))
 refine AF.block ?_
 refine AF.lp4 (tg λ(i:Nat) (p:Option Addr) (c:Nat) (out:List (P2×P2×P2))=>i<=X*Y/\OwnOk p out.length c/\out=EN m i) (tg λ(i:Nat) (p:Option Addr) (c:Nat) (out:List (P2×P2×P2))=>[(1,(pP b1 0)),(2,(Value.slice none 0 0)),(3,(vN X)),(4,(vN Y)),(6,(vN i)),(5,(Value.slice p out.length c))]) (tg λ(i:Nat) (p:Option Addr) (c:Nat) (out:List (P2×P2×P2))=>[rowW p 189 6 out.length c (rowsL BH out),Af b1 26 (Ek m),AZ m.p (Cc m.cs)]) (tg λ(i:Nat) (p:Option Addr) (c:Nat) (out:List (P2×P2×P2))=>X*Y-i) 0 none 0 ([]:List (P2×P2×P2)) (⟨Z,OwnOk.none,rfl⟩) (sF O) sr (λi p c out hJ=>?_)
 obtain ⟨hi,ho,hout⟩:=hJ
 have hlen:=Hn m i
 rw [<-hout] at hlen
 refine AF.seq (q4 (AR O (AR O (AR O (AI (B6 (c:=((X*Y:Nat):Int)) O O (DO (a:=X) (b:=Y) (by exact Nat.lt_of_le_of_lt hxy (by decide)))) O ?_)))))
 refine AI (Am (c:=(decide (i<(X*Y)))) O O (C6 (a:=i) (b:=X*Y))) O (AE.nil (AC.subF (sL [1,2,3,4,6,5,29] O) (AC.then_ ?_)))
 refine AF.cond O (λhc0=>?_) (λhc0=>?_)
 ·replace hc0:=of_decide_eq_true hc0
  refine AF.skip (q1 (AF.block (q4 (AO O (AE.nil ?_)))))
  refine q1 (q4 (AI (v:=(pP b1 2)) (AA O underlying26 O sizeOf22 O) O (BK 1 (Value.slice m.p m.cs.length m.cap) YZ O (AI (v:=(vN m.cs.length)) (AG O underlying22) O (AI (Cj (c:=(decide (0<m.cs.length))) O O (C6 (a:=0) (b:=m.cs.length))) O ?_)))))
  refine AE.nil (AC.subF (sL [1,2,3,4,6,5,7,35] O) (AC.then_ ?_))
  refine AF.jn1 (tg λ(wy:Nat)=>wy=Gh m i) (tg λ(wy:Nat)=>[(1,(pP b1 0)),(2,(Value.slice none 0 0)),(3,(vN X)),(4,(vN Y)),(6,(vN i)),(5,(Value.slice p out.length c)),(7,(vK .u8 wy))]) (tg λ(wy:Nat)=>[rowW p 189 6 out.length c (rowsL BH out),Af b1 26 (Ek m),AZ m.p (Cc m.cs)]) ?_ ?_
  ·skip
   refine AF.cond O (λhc1=>?_) (λhc1=>?_)
   ·replace hc1:=of_decide_eq_true hc1
    refine Cu [(0,true),(1,true),(2,true),(3,true),(4,true),(5,true),(6,true),(7,true),(8,true),(9,true),(10,true)] sr (Ax (v:=(pP b1 2)) O (AA O underlying26 O sizeOf22 O) (Bj 1 (Value.slice m.p m.cs.length m.cap) YZ O (Bf O (Ax (v:=(pP b1 2)) O (AA O underlying26 O sizeOf22 O) (Bj 1 (Value.slice m.p m.cs.length m.cap) YZ O ?_)))))
    refine Ax (v:=(vN m.cs.length)) O (AG O underlying22) (Ax O (CC (c:=((i%m.cs.length:Nat):Int)) O O Z (H2 (a:=i) (b:=m.cs.length))) (Ax (v:=(pP (pB m.p) (pO m.p+(i%m.cs.length)*1))) O (AQ (j:=i%m.cs.length) O O m.ok underlying22 sizeOf5 O (by exact Nat.mod_lt _ hc1)) (Ax O (Ai (v:=(vK .u8 (m.cs.getD (i%m.cs.length) 0))) (i:=2) O O (m.ok.ne (by first|exact Nat.mod_lt i hc1|exact hc1)) SY (OY (by first|exact Nat.mod_lt i hc1|exact hc1))) (Ax O (CC (c:=(((m.cs.getD (i%m.cs.length) 0)%8:Nat):Int)) O O Z (H2 (a:=m.cs.getD (i%m.cs.length) 0) (b:=8))) (Ev O ?_)))))
    exact AV.nil (AC.subF (sL [1,2,3,4,6,5,7] O) (AC.join1 ((m.cs.getD (i%m.cs.length) 0)%8) (by unfold Gh;first|rw [if_pos hc1]|rw [if_neg hc1]) (sF O) sr))
   ·replace hc1:=of_decide_eq_false hc1
    exact AF.skip (AC.join1 0 (by unfold Gh;first|rw [if_pos hc1]|rw [if_neg hc1]) (sF O) sr)
  ·intro wy hJ
   have hw:=hJ
   have hw8:=QY m i
   rw [<-hw] at hw8
   refine q2 (AR O (AR O ?_))
   obtain ⟨u,hu⟩:∃u,u=i%X:=⟨_,rfl⟩
   have hu2:u<X:=by rw [hu];exact Nat.mod_lt _ Z
   refine AI (CC (c:=((u:Nat):Int)) O O Z (by rw [hu];exact H2 (a:=i) (b:=X))) O (AI (B6 (c:=((2*u:Nat):Int)) O O (DO (a:=2) (b:=u) Z)) O (AO O (q3 (sL [1,2,3,4,6,5,7,8] O) (AR O (AR O ?_)))))
   obtain ⟨v,hv⟩:∃v,v=i/X:=⟨_,rfl⟩
   have hv2:v<=9:=by rw [hv];exact Nat.le_trans (Nat.div_le_self _ _) Z
   refine AI (G3 (c:=((v:Nat):Int)) O O Z (by rw [hv];exact OU (a:=i) (b:=X) Z)) O (AI (B6 (c:=((2*v:Nat):Int)) O O (DO (a:=2) (b:=v) Z)) O (AO O (q3 (sL [1,2,3,4,6,5,7,8,9] O) (AR O (AR O ?_)))))
   refine AI (v:=(aG (Az (2*u,2*v)))) (Ao (zs:=Az ((0,0):P2)) (vs:=Az (2*u,2*v)) (pv:=[(0,(vN (2*u))),(1,(vN (2*v)))]) zeroValue111 underlying111 sizeOf3 O (C7 (2*u) (2*v))) O (al JE O λb2=>Aq O sizeOf111 O (q3 (sL [1,2,3,4,6,5,7,8,9,10] O) (AR O (AI (AY (c:=(((2*u)+2:Nat):Int)) O O (AX (a:=2*u) (b:=2) Z)) O ?_))))
   refine AR O (AI (v:=(aG (Az ((2*u)+2,2*v)))) (Ao (zs:=Az ((0,0):P2)) (vs:=Az ((2*u)+2,2*v)) (pv:=[(0,(vN ((2*u)+2))),(1,(vN (2*v)))]) zeroValue111 underlying111 sizeOf3 O (C7 ((2*u)+2) (2*v))) O (al JE O λb3=>Aq O sizeOf111 O (q3 (sL [1,2,3,4,6,5,7,8,9,10,11] O) (AR O ?_))))
   refine AI (AY (c:=(((2*u)+2:Nat):Int)) O O (AX (a:=2*u) (b:=2) Z)) O (AR O (AI (AY (c:=(((2*v)+2:Nat):Int)) O O (AX (a:=2*v) (b:=2) Z)) O (AI (v:=(aG (Az ((2*u)+2,(2*v)+2)))) (Ao (zs:=Az ((0,0):P2)) (vs:=Az ((2*u)+2,(2*v)+2)) (pv:=[(0,(vN ((2*u)+2))),(1,(vN ((2*v)+2)))]) zeroValue111 underlying111 sizeOf3 O (C7 ((2*u)+2) ((2*v)+2))) O (al JE O λb4=>Aq O sizeOf111 O ?_))))
   refine q3 (sL [1,2,3,4,6,5,7,8,9,10,11,12] O) (AR O (AR O (AI (AY (c:=(((2*v)+2:Nat):Int)) O O (AX (a:=2*v) (b:=2) Z)) O (AI (v:=(aG (Az (2*u,(2*v)+2)))) (Ao (zs:=Az ((0,0):P2)) (vs:=Az (2*u,(2*v)+2)) (pv:=[(0,(vN (2*u))),(1,(vN ((2*v)+2)))]) zeroValue111 underlying111 sizeOf3 O (C7 (2*u) ((2*v)+2))) O (al JE O λb5=>?_)))))
   refine Aq O sizeOf111 O (q3 (sL [1,2,3,4,6,5,7,8,9,10,11,12,13] O) (AR O (AI (AY (c:=(((2*u)+1:Nat):Int)) O O (AX (a:=2*u) (b:=1) Z)) O (AR O (AI (AY (c:=(((2*v)+1:Nat):Int)) O O (AX (a:=2*v) (b:=1) Z)) O ?_)))))
   refine AI (v:=(aG (Az ((2*u)+1,(2*v)+1)))) (Ao (zs:=Az ((0,0):P2)) (vs:=Az ((2*u)+1,(2*v)+1)) (pv:=[(0,(vN ((2*u)+1))),(1,(vN ((2*v)+1)))]) zeroValue111 underlying111 sizeOf3 O (C7 ((2*u)+1) ((2*v)+1))) O (al JE O λb6=>Aq O sizeOf111 O (AE.nil (AC.subF (sL [1,2,3,4,6,5,7,8,9,10,11,12,13,14] O) (AC.then_ ?_))))
   refine AF.block (q4 (AR O (AI (Am (c:=(decide (wy<3))) O O (C6 (a:=wy) (b:=3))) O (AR O ?_))))
   refine AE.mid (FM:=[(1,(pP b1 0)),(2,(Value.slice none 0 0)),(3,(vN X)),(4,(vN Y)),(6,(vN i)),(5,(Value.slice p out.length c)),(7,(vK .u8 wy)),(8,(vN (2*u))),(9,(vN (2*v))),(10,(pP b2 0)),(11,(pP b3 0)),(12,(pP b4 0)),(13,(pP b5 0)),(14,(pP b6 0)),(76,(vK .u8 wy)),(77,(Value.bool (decide (wy<3)))),(78,(Value.bool (decide (wy<3)))),(85,(Value.bool ((decide (wy<3))||((decide (wy=7))&&(decide (i=0))))))]) (LM:=[Af b6 111 (Az ((2*u)+1,(2*v)+1)),Af b5 111 (Az (2*u,(2*v)+2)),Af b4 111 (Az ((2*u)+2,(2*v)+2)),Af b3 111 (Az ((2*u)+2,2*v)),Af b2 111 (Az (2*u,2*v)),rowW p 189 6 out.length c (rowsL BH out),Af b1 26 (Ek m),AZ m.p (Cc m.cs)]) 7 ?_ ?_
   ·rcases Bool.eq_false_or_eq_true (decide (wy<3)) with hg1|hg1
    ·skip
     refine AE.retell (k:=78) (u:=Value.bool true) O (by rw [hg1]) ?_
     have hg1':=hg1
     replace hg1':=of_decide_eq_true hg1'
     refine AE.skip (AL O) O (Ab O) (AE.skip (AL O) O (Ab O) (AE.skip (AL O) O (Ab O) (AE.skip (Oi O O O) O (Ab O) (AE.skip (Oi O O O) O (Ab O) (AE.skip (AL O) O (Ab O) ?_)))))
     exact AI (v:=(Value.bool true)) (Ah O O) O (AE.nil (AC.mid (sS O (sS O (sS O (sS O (sS O (sS O (sS O (sS O (sS O (sS O (sS O (sS O (sS O (sS O (sS O (sS O (sS (by first|rfl|(rw [hg1];rfl)|rw [hg1]) (sS (by first|rfl|(rw [hg1];rfl)|rw [hg1]) (sN))))))))))))))))))) (List.Sublist.refl _)))
    ·skip
     refine AE.retell (k:=78) (u:=Value.bool false) O (by rw [hg1]) ?_
     have hg1':=hg1
     replace hg1':=of_decide_eq_false hg1'
     refine AE.step (v:=(vK .u8 wy)) (AB O) (BA O) O (Ab O) (AE.step (v:=(Value.bool (decide (wy=7)))) (AB O) (BS (c:=(decide (wy=7))) O O (Ot (a:=wy) (b:=7))) O (Ab O) (AE.step (v:=(Value.bool (decide (wy=7)))) (AB O) (BA O) O (Ab O) ?_))
     refine AE.mid (FM:=[(1,(pP b1 0)),(2,(Value.slice none 0 0)),(3,(vN X)),(4,(vN Y)),(6,(vN i)),(5,(Value.slice p out.length c)),(7,(vK .u8 wy)),(8,(vN (2*u))),(9,(vN (2*v))),(10,(pP b2 0)),(11,(pP b3 0)),(12,(pP b4 0)),(13,(pP b5 0)),(14,(pP b6 0)),(76,(vK .u8 wy)),(77,(Value.bool (decide (wy<3)))),(78,(Value.bool false)),(79,(vK .u8 wy)),(80,(Value.bool (decide (wy=7)))),(81,(Value.bool (decide (wy=7)))),(84,(Value.bool ((decide (wy=7))&&(decide (i=0)))))]) (LM:=[Af b6 111 (Az ((2*u)+1,(2*v)+1)),Af b5 111 (Az (2*u,(2*v)+2)),Af b4 111 (Az ((2*u)+2,(2*v)+2)),Af b3 111 (Az ((2*u)+2,2*v)),Af b2 111 (Az (2*u,2*v)),rowW p 189 6 out.length c (rowsL BH out),Af b1 26 (Ek m),AZ m.p (Cc m.cs)]) 3 ?_ ?_
     ·rcases Bool.eq_false_or_eq_true (decide (wy=7)) with hg2|hg2
      ·skip
       refine AE.retell (k:=81) (u:=Value.bool true) O (by rw [hg2]) ?_
       have hg2':=hg2
       replace hg2':=of_decide_eq_true hg2'
       exact AE.step (v:=(vN i)) (AB O) (BA O) O (Ab O) (AE.step (v:=(Value.bool (decide (i=0)))) (AB O) (BS (c:=(decide (i=0))) O O (Ot (a:=i) (b:=0))) O (Ab O) (AE.step (v:=(Value.bool (decide (i=0)))) (AB O) (Ah O O) O (Ab O) (AE.nil (AC.mid (sS O (sS O (sS O (sS O (sS O (sS O (sS O (sS O (sS O (sS O (sS O (sS O (sS O (sS O (sS O (sS O (sS O (sS O (sS O (sS (by first|rfl|(rw [hg2];rfl)|rw [hg2]) (sS (by first|rfl|(rw [hg2];rfl)|rw [hg2]) (sN)))))))))))))))))))))) (List.Sublist.refl _)))))
      ·skip
       refine AE.retell (k:=81) (u:=Value.bool false) O (by rw [hg2]) ?_
       have hg2':=hg2
       replace hg2':=of_decide_eq_false hg2'
       exact AE.skip (AL O) O (Ab O) (AE.skip (AL O) O (Ab O) (AE.step (v:=(Value.bool false)) (AB O) (AS O O) O (Ab O) (AE.nil (AC.mid (sS O (sS O (sS O (sS O (sS O (sS O (sS O (sS O (sS O (sS O (sS O (sS O (sS O (sS O (sS O (sS O (sS O (sS O (sS O (sS (by first|rfl|(rw [hg2];rfl)|rw [hg2]) (sS (by first|rfl|(rw [hg2];rfl)|rw [hg2]) (sN)))))))))))))))))))))) (List.Sublist.refl _)))))
     exact AI (v:=(Value.bool ((decide (wy=7))&&(decide (i=0))))) (AS O O) O (AE.nil (AC.mid (sS O (sS O (sS O (sS O (sS O (sS O (sS O (sS O (sS O (sS O (sS O (sS O (sS O (sS O (sS O (sS O (sS (by first|rfl|(rw [hg1];rfl)|rw [hg1]) (sS (by first|rfl|(rw [hg1];rfl)|rw [hg1]) (sN))))))))))))))))))) (List.Sublist.refl _)))
   refine AO O (AE.nil (AC.subF (sL [1,2,3,4,6,5,7,8,9,10,11,12,13,14,75] O) (AC.then_ ?_)))
   refine AF.cond O (λhc2=>?_) (λhc2=>?_)
   ·simp only [Bool.and_eq_true,Bool.or_eq_true,Bool.and_eq_false_iff,Bool.or_eq_false_iff,Bool.not_eq_true',Bool.not_eq_false',decide_eq_true_eq,decide_eq_false_iff_not] at hc2
    have hcell:=WE hu hv (way:=wy) (by simpa using hc2)
    refine AF.region (AR O (A6 4 By O (A6 3 By O (A6 2 By O (AI (v:=(aG (BH ((2*u,2*v),((2*u)+2,2*v),((2*u)+2,(2*v)+2))))) (Ao (zs:=BH (((0,0),(0,0),(0,0)):P2×P2×P2)) (vs:=BH ((2*u,2*v),((2*u)+2,2*v),((2*u)+2,(2*v)+2))) (pv:=[(0,(aG (Az (2*u,2*v)))),(1,(aG (Az ((2*u)+2,2*v)))),(2,(aG (Az ((2*u)+2,(2*v)+2))))]) zeroValue189 underlying189 sizeOf111 O (B8 (2*u,2*v) ((2*u)+2,2*v) ((2*u)+2,(2*v)+2))) O ?_)))))
    refine A6 4 By O (A6 2 By O (A6 1 By O (AI (v:=(aG (BH ((2*u,2*v),((2*u)+2,(2*v)+2),(2*u,(2*v)+2))))) (Ao (zs:=BH (((0,0),(0,0),(0,0)):P2×P2×P2)) (vs:=BH ((2*u,2*v),((2*u)+2,(2*v)+2),(2*u,(2*v)+2))) (pv:=[(0,(aG (Az (2*u,2*v)))),(1,(aG (Az ((2*u)+2,(2*v)+2)))),(2,(aG (Az (2*u,(2*v)+2))))]) zeroValue189 underlying189 sizeOf111 O (B8 (2*u,2*v) ((2*u)+2,(2*v)+2) (2*u,(2*v)+2))) O (AE.openV (V:=λb7=>(Value.slice (some ⟨b7,0,none⟩) 2 2)) (T:=189) (cs:=BH ((2*u,2*v),((2*u)+2,2*v),((2*u)+2,(2*v)+2))++BH ((2*u,2*v),((2*u)+2,(2*v)+2),(2*u,(2*v)+2))) (AM O) (Ap (z:=.agg (BH (((0,0),(0,0),(0,0)):P2×P2×P2)).toArray) (cs:=BH ((2*u,2*v),((2*u)+2,2*v),((2*u)+2,(2*v)+2))++BH ((2*u,2*v),((2*u)+2,(2*v)+2),(2*u,(2*v)+2))) (pv:=[(0,(aG (BH ((2*u,2*v),((2*u)+2,2*v),((2*u)+2,(2*v)+2))))),(1,(aG (BH ((2*u,2*v),((2*u)+2,(2*v)+2),(2*u,(2*v)+2)))))]) underlying187 sizeOf189 zeroValue189 (by decide) (by decide) O (Ga ((2*u,2*v),((2*u)+2,2*v),((2*u)+2,(2*v)+2)) ((2*u,2*v),((2*u)+2,(2*v)+2),(2*u,(2*v)+2)))) O (Ab O) λb7=>AE.appendAt 6 (j:=0) (cs2:=rowsL BH (out++[((2*u,2*v),((2*u)+2,2*v),((2*u)+2,(2*v)+2)),((2*u,2*v),((2*u)+2,(2*v)+2),(2*u,(2*v)+2))])) TH O ho (Al F4 _) O O O O O (by decide) (Gt Z) Z (by rw [BN];rfl) O λp_1 c_1 ho_1 hne_1=>?_))))
    refine AO O (AE.nil (AC.subF (sL [1,2,3,4,6,5,7,8,9,10,11,12,13,14] O) (AC.in_normal (AC.in_normal (AC.then_ ?_)))))
    refine AF.region (AR O (AI (AY (c:=((i+1:Nat):Int)) O O (AX (a:=i) (b:=1) Z)) O (AO O (AE.nil (AC.subF (sL [1,2,3,4,6,5,7,8,9,10,11,12,13,14] O) ?_)))))
    rw [show out.length+2=(out++[((2*u,2*v),((2*u)+2,2*v),((2*u)+2,(2*v)+2)),((2*u,2*v),((2*u)+2,(2*v)+2),(2*u,(2*v)+2))]).length by simp]
    exact AC.round4 (i+1) p_1 c_1 (out++[((2*u,2*v),((2*u)+2,2*v),((2*u)+2,(2*v)+2)),((2*u,2*v),((2*u)+2,(2*v)+2),(2*u,(2*v)+2))]) (⟨Z,(by simpa using ho_1),by rw [hout];show _=EN m i++Cp (GD m) (Gh m i) i;rw [<-hX,<-hw,hcell]⟩) Z (sF O) (sl (sl (sl (sl (sl (sl sr))))))
   ·simp only [Bool.and_eq_true,Bool.or_eq_true,Bool.and_eq_false_iff,Bool.or_eq_false_iff,Bool.not_eq_true',Bool.not_eq_false',decide_eq_true_eq,decide_eq_false_iff_not] at hc2
    have h20:¬(wy<3\/(wy=7/\i=0)):=by simp at hc2;omega
    refine q4 (AR O (AI (Am (c:=(decide (wy<5))) O O (C6 (a:=wy) (b:=5))) O (AO O (AE.nil (AC.subF (sL [1,2,3,4,6,5,7,8,9,10,11,12,13,14,97] O) ?_)))))
    refine AC.then_ ?_
    refine AF.cond O (λhc3=>?_) (λhc3=>?_)
    ·replace hc3:=of_decide_eq_true hc3
     have hcell:=Wm hu hv h20 (by simpa using hc3)
     refine AF.region (AR O (A6 4 By O (A6 3 By O (A6 1 By O (AI (v:=(aG (BH ((2*u,2*v),((2*u)+2,2*v),(2*u,(2*v)+2))))) (Ao (zs:=BH (((0,0),(0,0),(0,0)):P2×P2×P2)) (vs:=BH ((2*u,2*v),((2*u)+2,2*v),(2*u,(2*v)+2))) (pv:=[(0,(aG (Az (2*u,2*v)))),(1,(aG (Az ((2*u)+2,2*v)))),(2,(aG (Az (2*u,(2*v)+2))))]) zeroValue189 underlying189 sizeOf111 O (B8 (2*u,2*v) ((2*u)+2,2*v) (2*u,(2*v)+2))) O ?_)))))
     refine A6 3 By O (A6 2 By O (A6 1 By O (AI (v:=(aG (BH (((2*u)+2,2*v),((2*u)+2,(2*v)+2),(2*u,(2*v)+2))))) (Ao (zs:=BH (((0,0),(0,0),(0,0)):P2×P2×P2)) (vs:=BH (((2*u)+2,2*v),((2*u)+2,(2*v)+2),(2*u,(2*v)+2))) (pv:=[(0,(aG (Az ((2*u)+2,2*v)))),(1,(aG (Az ((2*u)+2,(2*v)+2)))),(2,(aG (Az (2*u,(2*v)+2))))]) zeroValue189 underlying189 sizeOf111 O (B8 ((2*u)+2,2*v) ((2*u)+2,(2*v)+2) (2*u,(2*v)+2))) O (AE.openV (V:=λb7=>(Value.slice (some ⟨b7,0,none⟩) 2 2)) (T:=189) (cs:=BH ((2*u,2*v),((2*u)+2,2*v),(2*u,(2*v)+2))++BH (((2*u)+2,2*v),((2*u)+2,(2*v)+2),(2*u,(2*v)+2))) (AM O) (Ap (z:=.agg (BH (((0,0),(0,0),(0,0)):P2×P2×P2)).toArray) (cs:=BH ((2*u,2*v),((2*u)+2,2*v),(2*u,(2*v)+2))++BH (((2*u)+2,2*v),((2*u)+2,(2*v)+2),(2*u,(2*v)+2))) (pv:=[(0,(aG (BH ((2*u,2*v),((2*u)+2,2*v),(2*u,(2*v)+2))))),(1,(aG (BH (((2*u)+2,2*v),((2*u)+2,(2*v)+2),(2*u,(2*v)+2)))))]) underlying187 sizeOf189 zeroValue189 (by decide) (by decide) O (Ga ((2*u,2*v),((2*u)+2,2*v),(2*u,(2*v)+2)) (((2*u)+2,2*v),((2*u)+2,(2*v)+2),(2*u,(2*v)+2)))) O (Ab O) λb7=>AE.appendAt 6 (j:=0) (cs2:=rowsL BH (out++[((2*u,2*v),((2*u)+2,2*v),(2*u,(2*v)+2)),(((2*u)+2,2*v),((2*u)+2,(2*v)+2),(2*u,(2*v)+2))])) TH O ho (Al F4 _) O O O O O (by decide) (Gt Z) Z (by rw [BN];rfl) O λp_2 c_2 ho_2 hne_2=>?_))))
     refine AO O (AE.nil (AC.subF (sL [1,2,3,4,6,5,7,8,9,10,11,12,13,14] O) (AC.in_normal (AC.in_normal (AC.then_ ?_)))))
     refine AF.region (AR O (AI (AY (c:=((i+1:Nat):Int)) O O (AX (a:=i) (b:=1) Z)) O (AO O (AE.nil (AC.subF (sL [1,2,3,4,6,5,7,8,9,10,11,12,13,14] O) ?_)))))
     rw [show out.length+2=(out++[((2*u,2*v),((2*u)+2,2*v),(2*u,(2*v)+2)),(((2*u)+2,2*v),((2*u)+2,(2*v)+2),(2*u,(2*v)+2))]).length by simp]
     exact AC.round4 (i+1) p_2 c_2 (out++[((2*u,2*v),((2*u)+2,2*v),(2*u,(2*v)+2)),(((2*u)+2,2*v),((2*u)+2,(2*v)+2),(2*u,(2*v)+2))]) (⟨Z,(by simpa using ho_2),by rw [hout];show _=EN m i++Cp (GD m) (Gh m i) i;rw [<-hX,<-hw,hcell]⟩) Z (sF O) (sl (sl (sl (sl (sl (sl sr))))))
    ·replace hc3:=of_decide_eq_false hc3
     have h30:¬wy<5:=by simpa using hc3
     refine q4 (AR O (AI (Am (c:=(decide (wy<7))) O O (C6 (a:=wy) (b:=7))) O (AO O (AE.nil (AC.subF (sL [1,2,3,4,6,5,7,8,9,10,11,12,13,14,111] O) ?_)))))
     refine AC.then_ ?_
     refine AF.cond O (λhc4=>?_) (λhc4=>?_)
     ·replace hc4:=of_decide_eq_true hc4
      have hcell:=V4 hu hv h20 h30 (by simpa using hc4)
      refine AF.region (AR O (A6 4 By O (A6 3 By O (A6 0 By O (AI (v:=(aG (BH ((2*u,2*v),((2*u)+2,2*v),((2*u)+1,(2*v)+1))))) (Ao (zs:=BH (((0,0),(0,0),(0,0)):P2×P2×P2)) (vs:=BH ((2*u,2*v),((2*u)+2,2*v),((2*u)+1,(2*v)+1))) (pv:=[(0,(aG (Az (2*u,2*v)))),(1,(aG (Az ((2*u)+2,2*v)))),(2,(aG (Az ((2*u)+1,(2*v)+1))))]) zeroValue189 underlying189 sizeOf111 O (B8 (2*u,2*v) ((2*u)+2,2*v) ((2*u)+1,(2*v)+1))) O ?_)))))
      refine A6 3 By O (A6 2 By O (A6 0 By O (AI (v:=(aG (BH (((2*u)+2,2*v),((2*u)+2,(2*v)+2),((2*u)+1,(2*v)+1))))) (Ao (zs:=BH (((0,0),(0,0),(0,0)):P2×P2×P2)) (vs:=BH (((2*u)+2,2*v),((2*u)+2,(2*v)+2),((2*u)+1,(2*v)+1))) (pv:=[(0,(aG (Az ((2*u)+2,2*v)))),(1,(aG (Az ((2*u)+2,(2*v)+2)))),(2,(aG (Az ((2*u)+1,(2*v)+1))))]) zeroValue189 underlying189 sizeOf111 O (B8 ((2*u)+2,2*v) ((2*u)+2,(2*v)+2) ((2*u)+1,(2*v)+1))) O (A6 2 By O (A6 1 By O ?_)))))
      refine A6 0 By O (AI (v:=(aG (BH (((2*u)+2,(2*v)+2),(2*u,(2*v)+2),((2*u)+1,(2*v)+1))))) (Ao (zs:=BH (((0,0),(0,0),(0,0)):P2×P2×P2)) (vs:=BH (((2*u)+2,(2*v)+2),(2*u,(2*v)+2),((2*u)+1,(2*v)+1))) (pv:=[(0,(aG (Az ((2*u)+2,(2*v)+2)))),(1,(aG (Az (2*u,(2*v)+2)))),(2,(aG (Az ((2*u)+1,(2*v)+1))))]) zeroValue189 underlying189 sizeOf111 O (B8 ((2*u)+2,(2*v)+2) (2*u,(2*v)+2) ((2*u)+1,(2*v)+1))) O (A6 1 By O (A6 4 By O (A6 0 By O (AI (v:=(aG (BH ((2*u,(2*v)+2),(2*u,2*v),((2*u)+1,(2*v)+1))))) (Ao (zs:=BH (((0,0),(0,0),(0,0)):P2×P2×P2)) (vs:=BH ((2*u,(2*v)+2),(2*u,2*v),((2*u)+1,(2*v)+1))) (pv:=[(0,(aG (Az (2*u,(2*v)+2)))),(1,(aG (Az (2*u,2*v)))),(2,(aG (Az ((2*u)+1,(2*v)+1))))]) zeroValue189 underlying189 sizeOf111 O (B8 (2*u,(2*v)+2) (2*u,2*v) ((2*u)+1,(2*v)+1))) O ?_)))))
      refine AE.openV (V:=λb7=>(Value.slice (some ⟨b7,0,none⟩) 4 4)) (T:=189) (cs:=BH ((2*u,2*v),((2*u)+2,2*v),((2*u)+1,(2*v)+1))++BH (((2*u)+2,2*v),((2*u)+2,(2*v)+2),((2*u)+1,(2*v)+1))++BH (((2*u)+2,(2*v)+2),(2*u,(2*v)+2),((2*u)+1,(2*v)+1))++BH ((2*u,(2*v)+2),(2*u,2*v),((2*u)+1,(2*v)+1))) (AM O) (Ap (z:=.agg (BH (((0,0),(0,0),(0,0)):P2×P2×P2)).toArray) (cs:=BH ((2*u,2*v),((2*u)+2,2*v),((2*u)+1,(2*v)+1))++BH (((2*u)+2,2*v),((2*u)+2,(2*v)+2),((2*u)+1,(2*v)+1))++BH (((2*u)+2,(2*v)+2),(2*u,(2*v)+2),((2*u)+1,(2*v)+1))++BH ((2*u,(2*v)+2),(2*u,2*v),((2*u)+1,(2*v)+1))) (pv:=[(0,(aG (BH ((2*u,2*v),((2*u)+2,2*v),((2*u)+1,(2*v)+1))))),(1,(aG (BH (((2*u)+2,2*v),((2*u)+2,(2*v)+2),((2*u)+1,(2*v)+1))))),(2,(aG (BH (((2*u)+2,(2*v)+2),(2*u,(2*v)+2),((2*u)+1,(2*v)+1))))),(3,(aG (BH ((2*u,(2*v)+2),(2*u,2*v),((2*u)+1,(2*v)+1)))))]) underlying187 sizeOf189 zeroValue189 (by decide) (by decide) O (JY ((2*u,2*v),((2*u)+2,2*v),((2*u)+1,(2*v)+1)) (((2*u)+2,2*v),((2*u)+2,(2*v)+2),((2*u)+1,(2*v)+1)) (((2*u)+2,(2*v)+2),(2*u,(2*v)+2),((2*u)+1,(2*v)+1)) ((2*u,(2*v)+2),(2*u,2*v),((2*u)+1,(2*v)+1)))) O (Ab O) λb7=>AE.appendAt 6 (j:=0) (cs2:=rowsL BH (out++[((2*u,2*v),((2*u)+2,2*v),((2*u)+1,(2*v)+1)),(((2*u)+2,2*v),((2*u)+2,(2*v)+2),((2*u)+1,(2*v)+1)),(((2*u)+2,(2*v)+2),(2*u,(2*v)+2),((2*u)+1,(2*v)+1)),((2*u,(2*v)+2),(2*u,2*v),((2*u)+1,(2*v)+1))])) TH O ho (Al F4 _) O O O O O (by decide) (Gt Z) Z (by rw [BN];rfl) O λp_3 c_3 ho_3 hne_3=>AO O (AE.nil (AC.subF (sL [1,2,3,4,6,5,7,8,9,10,11,12,13,14] O) (AC.in_normal ?_)))
      refine AC.in_normal (AC.then_ (AF.region (AR O (AI (AY (c:=((i+1:Nat):Int)) O O (AX (a:=i) (b:=1) Z)) O (AO O ?_)))))
      refine AE.nil (AC.subF (sL [1,2,3,4,6,5,7,8,9,10,11,12,13,14] O) ?_)
      rw [show out.length+4=(out++[((2*u,2*v),((2*u)+2,2*v),((2*u)+1,(2*v)+1)),(((2*u)+2,2*v),((2*u)+2,(2*v)+2),((2*u)+1,(2*v)+1)),(((2*u)+2,(2*v)+2),(2*u,(2*v)+2),((2*u)+1,(2*v)+1)),((2*u,(2*v)+2),(2*u,2*v),((2*u)+1,(2*v)+1))]).length by simp]
      exact AC.round4 (i+1) p_3 c_3 (out++[((2*u,2*v),((2*u)+2,2*v),((2*u)+1,(2*v)+1)),(((2*u)+2,2*v),((2*u)+2,(2*v)+2),((2*u)+1,(2*v)+1)),(((2*u)+2,(2*v)+2),(2*u,(2*v)+2),((2*u)+1,(2*v)+1)),((2*u,(2*v)+2),(2*u,2*v),((2*u)+1,(2*v)+1))]) (⟨Z,(by simpa using ho_3),by rw [hout];show _=EN m i++Cp (GD m) (Gh m i) i;rw [<-hX,<-hw,hcell]⟩) Z (sF O) (sl (sl (sl (sl (sl (sl sr))))))
     ·replace hc4:=of_decide_eq_false hc4
      have hcell:Cp X wy i=[]:=W6 h20 h30 (by simpa using hc4)
      refine AF.skip (AC.in_normal (AC.in_normal (AC.then_ (AF.region (AR O ?_)))))
      exact AI (AY (c:=((i+1:Nat):Int)) O O (AX (a:=i) (b:=1) Z)) O (AO O (AE.nil (AC.subF (sL [1,2,3,4,6,5,7,8,9,10,11,12,13,14] O) (AC.round4 (i+1) p c out (⟨Z,(by simpa using ho),by rw [hout];show _=EN m i++Cp (GD m) (Gh m i) i;rw [<-hX,<-hw,hcell];simp⟩) Z (sF O) (sl (sl (sl (sl (sl sr)))))))))
 ·replace hc0:=of_decide_eq_false hc0
  have hfin:out=BD m:=by rw [hout];unfold BD;rw [<-hX,<-hY,show i=X*Y by omega]
  refine AF.exit (AC.then_exit (AC.round4_exit (AC.in_exit (q2 (AR O ?_)))))
  exact AO O (AE.nil (AC.subF (sL [1,2,3,4,6,5] O) (AC.then_ (AF.ret (AT O (Ak (v:=(Value.slice p out.length c)) O) (λw hw=>(by rw [<-hfin];exact aQ hw 0 O ho (Al F4 _) O)))))))
theorem Gc (x0 x1 x2 x3:Int):Instr.fill (λi=>some (i*1,1)) (VU ((0,0,0,0):Int×Int×Int×Int)).toArray [(0,.int .i64 x0),(1,.int .i64 x1),(2,.int .i64 x2),(3,.int .i64 x3)]=some (VU (x0,x1,x2,x3)).toArray:=by kernel_rfl
theorem Ge (x0 x1:Int):Instr.fill (λi=>some (i*1,1)) (CZ ((0,0):Int×Int)).toArray [(0,.int .i64 x0),(1,.int .i64 x1)]=some (CZ (x0,x1)).toArray:=by kernel_rfl
theorem Ip (m:MQ) (p:P2) (hp:p.1<=6/\p.2<=6) (w:World) {S:Nat->Prop} (hm:Ro S w m):Calls prog 113 #[(aG (Ek m)),(aG (Az p))] w (Av w (aG (CZ ((Gi m.a m.b m.c m.d).at_ p)))):=by
 obtain ⟨A,hA⟩:∃A,A=m.a.tmod 4:=⟨_,rfl⟩
 obtain ⟨B,hB⟩:∃A,A=m.b.tmod 4:=⟨_,rfl⟩
 obtain ⟨C,hC⟩:∃A,A=m.c.tmod 4:=⟨_,rfl⟩
 obtain ⟨D,hD⟩:∃A,A=m.d.tmod 4:=⟨_,rfl⟩
 have kA:=JO m.a
 have kB:=JO m.b
 have kC:=JO m.c
 have kD:=JO m.d
 rw [<-hA] at kA
 rw [<-hB] at kB
 rw [<-hC] at kC
 rw [<-hD] at kD
 have e1:=C_ kA (k:=3) kD
 have e2:=C_ kB (k:=3) kC
 have lm:=EA (W:=w) hm
 refine BF (args:=[(aG (Ek m)),(aG (Az p))]) (L:=[AZ m.p (Cc m.cs)]) func113 O O (Ab O) (EB hm BR) (AF.subF (sL [0,1] O) (q4 (Bo (cs:=Ek m) O λb1=>Bo (cs:=Az p) O λb2=>al Za O λb3=>?_)))
 refine q3 (sL [2,3,4] O) (AI (v:=(pP b1 3)) (AA O underlying26 O sizeOf24 O) O (AI (v:=(pP b1 3)) (AD (j:=0) O O underlying24 sizeOf23 O (by decide) O) O (BK 2 (Value.int .i8 m.a) XD O (AI (CC (c:=A) O O (by decide) hA.symm) O (AI (A9 (c:=A) O underlying23 underlying2 (BL Z Z)) O ?_)))))
 refine AI (v:=(pP b1 3)) (AA O underlying26 O sizeOf24 O) O (AI (v:=(pP b1 4)) (AD (j:=1) O O underlying24 sizeOf23 O (by decide) O) O (BK 2 (Value.int .i8 m.b) XD O (AI (CC (c:=B) O O (by decide) hB.symm) O (AI (A9 (c:=B) O underlying23 underlying2 (BL Z Z)) O (AI (v:=(pP b1 3)) (AA O underlying26 O sizeOf24 O) O ?_)))))
 refine AI (v:=(pP b1 5)) (AD (j:=2) O O underlying24 sizeOf23 O (by decide) O) O (BK 2 (Value.int .i8 m.c) XD O (AI (CC (c:=C) O O (by decide) hC.symm) O (AI (A9 (c:=C) O underlying23 underlying2 (BL Z Z)) O (AI (v:=(pP b1 3)) (AA O underlying26 O sizeOf24 O) O (AI (v:=(pP b1 6)) (AD (j:=3) O O underlying24 sizeOf23 O (by decide) O) O ?_)))))
 refine BK 2 (Value.int .i8 m.d) XD O (AI (CC (c:=D) O O (by decide) hD.symm) O (AI (A9 (c:=D) O underlying23 underlying2 (BL Z Z)) O (AI (v:=(aG (VU (A,B,C,D)))) (Ao (zs:=VU ((0,0,0,0):Int×Int×Int×Int)) (vs:=VU (A,B,C,D)) (pv:=[(0,(vI A)),(1,(vI B)),(2,(vI C)),(3,(vI D))]) zeroValue246 underlying246 sizeOf2 O (Gc A B C D)) O (al Zj O λb4=>Aq O sizeOf246 O ?_))))
 refine q3 (sL [3,4,5] O) (AI (v:=(pP b4 0)) (AD (j:=0) O O underlying246 sizeOf2 O (by decide) O) O (BK 0 (vI A) NA O (AI (v:=(pP b4 3)) (AD (j:=3) O O underlying246 sizeOf2 O (by decide) O) O (BK 0 (vI D) NA O (AI (B6 (c:=(A*D)) O O (BL Z Z)) O ?_)))))
 refine AI (v:=(pP b4 1)) (AD (j:=1) O O underlying246 sizeOf2 O (by decide) O) O (BK 0 (vI B) NA O (AI (v:=(pP b4 2)) (AD (j:=2) O O underlying246 sizeOf2 O (by decide) O) O (BK 0 (vI C) NA O (AI (B6 (c:=(B*C)) O O (BL Z Z)) O (AI (Br (c:=(A*D-B*C)) O O (BL Z Z)) O ?_)))))
 refine AO O (q6 (sL [3,4,5,6] O) (q4 (AR O (AI (BS (c:=(decide ((A*D-B*C)=(0:Int)))) O O O) O (AE.nil ?_)))))
 refine AC.subF (sL [3,4,5,6,42] O) (AC.then_ ?_)
 refine AF.cond O (λhc0=>?_) (λhc0=>?_)
 ·replace hc0:=of_decide_eq_true hc0
  have hz0:=hc0
  refine AF.region (AI (v:=(aG (VU ((1:Int),(0:Int),(0:Int),(1:Int))))) (Ao (zs:=VU ((0,0,0,0):Int×Int×Int×Int)) (vs:=VU ((1:Int),(0:Int),(0:Int),(1:Int))) (pv:=[(0,(vI 1)),(1,(vI 0)),(2,(vI 0)),(3,(vI 1))]) zeroValue246 underlying246 sizeOf2 O (Gc (1:Int) (0:Int) (0:Int) (1:Int))) O (Aq O sizeOf246 O (q6 (sL [3,4,5,6] O) (q4 (AR O ?_)))))
  refine AI (Am (c:=(decide ((A*D-B*C)<(0:Int)))) O O O) O (AE.nil (AC.subF (sL [3,4,5,6,45] O) (AC.then_ ?_)))
  refine AF.jn1 (tg λ(K:DG)=>K=Gi m.a m.b m.c m.d) (tg λ(K:DG)=>[(3,(pP b2 0)),(4,(pP b3 0)),(5,(pP b4 0))]) (tg λ(K:DG)=>[Af b4 246 (VU (K.a,K.b,K.c,K.d)),Af b3 102 (CZ ((0,0):Int×Int)),Af b2 111 (Az p),Af b1 26 (Ek m),AZ m.p (Cc m.cs)]) ?_ ?_
  ·skip
   refine AF.cond O (λhc1=>?_) (λhc1=>?_)
   ·replace hc1:=of_decide_eq_true hc1
    refine q4 (AI (v:=(pP b4 2)) (AD (j:=2) O O underlying246 sizeOf2 O (by decide) O) O (BK 0 (vI (0:Int)) NA O (AI (KY (c:=(-C)) O (by first|(exfalso;omega)|(rw [Int.zero_sub];exact BL Z Z))) O (AI (v:=(pP b4 2)) (AD (j:=2) O O underlying246 sizeOf2 O (by decide) O) O (Eu 0 (off:=2) (vs:=[(vI (-C))]) (cs':=[(vI (1:Int)),(vI (0:Int)),(vI (-C)),(vI (1:Int))]) (AM O) O sizeOf2 O ?_)))))
    refine AE.nil (AC.subF (sL [3,4,5,6] O) (AC.then_ (AF.region (AI (v:=(pP b4 3)) (AD (j:=3) O O underlying246 sizeOf2 O (by decide) O) O (BK 0 (vI (1:Int)) NA O ?_)))))
    exact AI (KY (c:=(-D)) O (by first|(exfalso;omega)|(rw [Int.zero_sub];exact BL Z Z))) O (AI (v:=(pP b4 3)) (AD (j:=3) O O underlying246 sizeOf2 O (by decide) O) O (Eu 0 (off:=3) (vs:=[(vI (-D))]) (cs':=[(vI (1:Int)),(vI (0:Int)),(vI (-C)),(vI (-D))]) (AM O) O sizeOf2 O (AE.nil (AC.subF (sL [3,4,5,6] O) (AC.join1 (DG.mk (1:Int) (0:Int) (-C) (-D)) ((by first|(exfalso;omega)|exact (NK hA hB hC hD hz0).symm|exact (M1 hA hB hC hD hc1).symm|exact (Mz hA hB hC hD hz0 hc1).symm)) (sF O) sr)))))
   ·replace hc1:=of_decide_eq_false hc1
    exact AF.skip (AC.join1 (DG.mk (1:Int) (0:Int) (0:Int) (1:Int)) ((by first|(exfalso;omega)|exact (NK hA hB hC hD hz0).symm|exact (M1 hA hB hC hD hc1).symm|exact (Mz hA hB hC hD hz0 hc1).symm)) (sF O) sr)
  ·intro K hJ
   have hK:=hJ
   have kk:=Fm m.a m.b m.c m.d
   rw [<-hK] at kk
   have qz0:=C_ kk.a (k:=6) (b:=(p.1:Int)) Z
   have qz1:=C_ kk.b (k:=6) (b:=(p.2:Int)) Z
   have qz2:=C_ kk.c (k:=6) (b:=(p.1:Int)) Z
   have qz3:=C_ kk.d (k:=6) (b:=(p.2:Int)) Z
   refine q2 (AI (v:=(pP b2 0)) (AD (j:=0) O O underlying111 sizeOf3 O (by decide) O) O (BK 2 (vN p.1) Bm O (AO O (q3 (sL [3,4,5,7] O) (AI (v:=(pP b2 1)) (AD (j:=1) O O underlying111 sizeOf3 O (by decide) O) O ?_)))))
   refine BK 2 (vN p.2) Bm O (AO O (q3 (sL [3,4,5,7,8] O) (AI (v:=(pP b4 0)) (AD (j:=0) O O underlying246 sizeOf2 O (by decide) O) O (BK 0 (vI K.a) NA O (AR O ?_)))))
   refine AI (B6 (c:=(K.a*(p.1:Int))) O O (BL Z Z)) O (AI (v:=(pP b4 1)) (AD (j:=1) O O underlying246 sizeOf2 O (by decide) O) O (BK 0 (vI K.b) NA O (AR O (AI (B6 (c:=(K.b*(p.2:Int))) O O (BL Z Z)) O (AI (AY (c:=(K.a*(p.1:Int)+K.b*(p.2:Int))) O O (BL Z Z)) O ?_)))))
   refine AI (v:=(pP b4 2)) (AD (j:=2) O O underlying246 sizeOf2 O (by decide) O) O (BK 0 (vI K.c) NA O (AR O (AI (B6 (c:=(K.c*(p.1:Int))) O O (BL Z Z)) O (AI (v:=(pP b4 3)) (AD (j:=3) O O underlying246 sizeOf2 O (by decide) O) O (BK 0 (vI K.d) NA O ?_)))))
   refine AR O (AI (B6 (c:=(K.d*(p.2:Int))) O O (BL Z Z)) O (AI (AY (c:=(K.c*(p.1:Int)+K.d*(p.2:Int))) O O (BL Z Z)) O (AI (v:=(aG (CZ (K.a*(p.1:Int)+K.b*(p.2:Int),K.c*(p.1:Int)+K.d*(p.2:Int))))) (Ao (zs:=CZ ((0,0):Int×Int)) (vs:=CZ (K.a*(p.1:Int)+K.b*(p.2:Int),K.c*(p.1:Int)+K.d*(p.2:Int))) (pv:=[(0,(vI (K.a*(p.1:Int)+K.b*(p.2:Int)))),(1,(vI (K.c*(p.1:Int)+K.d*(p.2:Int))))]) zeroValue102 underlying102 sizeOf2 O (Ge (K.a*(p.1:Int)+K.b*(p.2:Int)) (K.c*(p.1:Int)+K.d*(p.2:Int)))) O (Cq O sizeOf102 O (AE.nil ?_)))))
   exact AC.subF (sL [3,4,5] O) (AC.then_ (AF.ret (AT O (A7 (i:=1) (cs:=CZ (K.a*(p.1:Int)+K.b*(p.2:Int),K.c*(p.1:Int)+K.d*(p.2:Int))) O O isAgg102 sizeOf102 O) (λw hw=>⟨by rw [<-hK];rfl,hw.out⟩))))
 ·replace hc0:=of_decide_eq_false hc0
  have hz0:=hc0
  refine AF.skip (q1 (q4 (AR O (AI (Am (c:=(decide ((A*D-B*C)<(0:Int)))) O O O) O (AE.nil ?_)))))
  refine AC.subF (sL [3,4,5,6,45] O) (AC.then_ ?_)
  refine AF.jn1 (tg λ(K:DG)=>K=Gi m.a m.b m.c m.d) (tg λ(K:DG)=>[(3,(pP b2 0)),(4,(pP b3 0)),(5,(pP b4 0))]) (tg λ(K:DG)=>[Af b4 246 (VU (K.a,K.b,K.c,K.d)),Af b3 102 (CZ ((0,0):Int×Int)),Af b2 111 (Az p),Af b1 26 (Ek m),AZ m.p (Cc m.cs)]) ?_ ?_
  ·skip
   refine AF.cond O (λhc1=>?_) (λhc1=>?_)
   ·replace hc1:=of_decide_eq_true hc1
    refine q4 (AI (v:=(pP b4 2)) (AD (j:=2) O O underlying246 sizeOf2 O (by decide) O) O (BK 0 (vI C) NA O (AI (KY (c:=(-C)) O (by first|(exfalso;omega)|(rw [Int.zero_sub];exact BL Z Z))) O (AI (v:=(pP b4 2)) (AD (j:=2) O O underlying246 sizeOf2 O (by decide) O) O (Eu 0 (off:=2) (vs:=[(vI (-C))]) (cs':=[(vI A),(vI B),(vI (-C)),(vI D)]) (AM O) O sizeOf2 O ?_)))))
    refine AE.nil (AC.subF (sL [3,4,5,6] O) (AC.then_ (AF.region (AI (v:=(pP b4 3)) (AD (j:=3) O O underlying246 sizeOf2 O (by decide) O) O (BK 0 (vI D) NA O ?_)))))
    exact AI (KY (c:=(-D)) O (by first|(exfalso;omega)|(rw [Int.zero_sub];exact BL Z Z))) O (AI (v:=(pP b4 3)) (AD (j:=3) O O underlying246 sizeOf2 O (by decide) O) O (Eu 0 (off:=3) (vs:=[(vI (-D))]) (cs':=[(vI A),(vI B),(vI (-C)),(vI (-D))]) (AM O) O sizeOf2 O (AE.nil (AC.subF (sL [3,4,5,6] O) (AC.join1 (DG.mk A B (-C) (-D)) ((by first|(exfalso;omega)|exact (NK hA hB hC hD hz0).symm|exact (M1 hA hB hC hD hc1).symm|exact (Mz hA hB hC hD hz0 hc1).symm)) (sF O) sr)))))
   ·replace hc1:=of_decide_eq_false hc1
    exact AF.skip (AC.join1 (DG.mk A B C D) ((by first|(exfalso;omega)|exact (NK hA hB hC hD hz0).symm|exact (M1 hA hB hC hD hc1).symm|exact (Mz hA hB hC hD hz0 hc1).symm)) (sF O) sr)
  ·intro K hJ
   have hK:=hJ
   have kk:=Fm m.a m.b m.c m.d
   rw [<-hK] at kk
   have qz0:=C_ kk.a (k:=6) (b:=(p.1:Int)) Z
   have qz1:=C_ kk.b (k:=6) (b:=(p.2:Int)) Z
   have qz2:=C_ kk.c (k:=6) (b:=(p.1:Int)) Z
   have qz3:=C_ kk.d (k:=6) (b:=(p.2:Int)) Z
   refine q2 (AI (v:=(pP b2 0)) (AD (j:=0) O O underlying111 sizeOf3 O (by decide) O) O (BK 2 (vN p.1) Bm O (AO O (q3 (sL [3,4,5,7] O) (AI (v:=(pP b2 1)) (AD (j:=1) O O underlying111 sizeOf3 O (by decide) O) O ?_)))))
   refine BK 2 (vN p.2) Bm O (AO O (q3 (sL [3,4,5,7,8] O) (AI (v:=(pP b4 0)) (AD (j:=0) O O underlying246 sizeOf2 O (by decide) O) O (BK 0 (vI K.a) NA O (AR O ?_)))))
   refine AI (B6 (c:=(K.a*(p.1:Int))) O O (BL Z Z)) O (AI (v:=(pP b4 1)) (AD (j:=1) O O underlying246 sizeOf2 O (by decide) O) O (BK 0 (vI K.b) NA O (AR O (AI (B6 (c:=(K.b*(p.2:Int))) O O (BL Z Z)) O (AI (AY (c:=(K.a*(p.1:Int)+K.b*(p.2:Int))) O O (BL Z Z)) O ?_)))))
   refine AI (v:=(pP b4 2)) (AD (j:=2) O O underlying246 sizeOf2 O (by decide) O) O (BK 0 (vI K.c) NA O (AR O (AI (B6 (c:=(K.c*(p.1:Int))) O O (BL Z Z)) O (AI (v:=(pP b4 3)) (AD (j:=3) O O underlying246 sizeOf2 O (by decide) O) O (BK 0 (vI K.d) NA O ?_)))))
   refine AR O (AI (B6 (c:=(K.d*(p.2:Int))) O O (BL Z Z)) O (AI (AY (c:=(K.c*(p.1:Int)+K.d*(p.2:Int))) O O (BL Z Z)) O (AI (v:=(aG (CZ (K.a*(p.1:Int)+K.b*(p.2:Int),K.c*(p.1:Int)+K.d*(p.2:Int))))) (Ao (zs:=CZ ((0,0):Int×Int)) (vs:=CZ (K.a*(p.1:Int)+K.b*(p.2:Int),K.c*(p.1:Int)+K.d*(p.2:Int))) (pv:=[(0,(vI (K.a*(p.1:Int)+K.b*(p.2:Int)))),(1,(vI (K.c*(p.1:Int)+K.d*(p.2:Int))))]) zeroValue102 underlying102 sizeOf2 O (Ge (K.a*(p.1:Int)+K.b*(p.2:Int)) (K.c*(p.1:Int)+K.d*(p.2:Int)))) O (Cq O sizeOf102 O (AE.nil ?_)))))
   exact AC.subF (sL [3,4,5] O) (AC.then_ (AF.ret (AT O (A7 (i:=1) (cs:=CZ (K.a*(p.1:Int)+K.b*(p.2:Int),K.c*(p.1:Int)+K.d*(p.2:Int))) O O isAgg102 sizeOf102 O) (λw hw=>⟨by rw [<-hK];rfl,hw.out⟩))))
end
end Go.Proofs.YtfbomiejpbchdaaGreat
