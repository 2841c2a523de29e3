import Derived.Test.YtfbomiejpbchdaaGreatPart06
import Derived.Test.YtfbomiejpbchdaaGreatPart08
import Derived.Test.YtfbomiejpbchdaaGreatPart19
namespace Go.Proofs.YtfbomiejpbchdaaGreat
open Go Go.RowKit
set_option linter.unusedVariables false
set_option linter.unusedSimpArgs false
section
set_option maxRecDepth 100000
theorem TJ:ElemT Tryz.prog 187 189 6 48:=⟨Tryz.underlying187,D9 (by kernel_rfl)⟩
theorem Cq (x0 x1:Nat):Instr.fill (λi=>some (i*1,1)) (Aw ((0,0):P2)).toArray [(0,vN x0),(1,vN x1)]=some (Aw (x0,x1)).toArray:=by kernel_rfl
theorem Bt (x0 x1 x2:P2):Instr.fill (λi=>some (i*2,2)) (A9 (((0,0),(0,0),(0,0)):P2×P2×P2)).toArray [(0,.agg (Aw x0).toArray),(1,.agg (Aw x1).toArray),(2,.agg (Aw x2).toArray)]=some (A9 (x0,x1,x2)).toArray:=by kernel_rfl
theorem Fy (x0 x1:P2×P2×P2):Instr.fill (λi=>some (i*6,6)) ((Array.range (2*6)).map ((Value.agg (A9 (((0,0),(0,0),(0,0)):P2×P2×P2)).toArray).cells[·%(Value.agg (A9 (((0,0),(0,0),(0,0)):P2×P2×P2)).toArray).cells.size]!)) [(0,.agg (A9 x0).toArray),(1,.agg (A9 x1).toArray)]=some (A9 x0++A9 x1).toArray:=by kernel_rfl
theorem Is (x0 x1 x2 x3:P2×P2×P2):Instr.fill (λi=>some (i*6,6)) ((Array.range (4*6)).map ((Value.agg (A9 (((0,0),(0,0),(0,0)):P2×P2×P2)).toArray).cells[·%(Value.agg (A9 (((0,0),(0,0),(0,0)):P2×P2×P2)).toArray).cells.size]!)) [(0,.agg (A9 x0).toArray),(1,.agg (A9 x1).toArray),(2,.agg (A9 x2).toArray),(3,.agg (A9 x3).toArray)]=some (A9 x0++A9 x1++A9 x2++A9 x3).toArray:=by kernel_rfl
set_option maxHeartbeats 1000000 in
theorem Qg (m:MQ) (w:World) {S:Nat->Prop} (hm:Ro S w m):Calls Tryz.prog 112 #[(aG (EJ m))] w (Bc (RX (rowsL A9 (BA m)) (BA m).length) S w):=by
 obtain ⟨X,hX⟩:∃X,X=FV m:=⟨_,rfl⟩
 obtain ⟨Y,hY⟩:∃Y,Y=Qu m:=⟨_,rfl⟩
 have hx1:=IZ m
 have hy1:=IF m
 have hxy:=Io m
 rw [<-hX] at hx1 hxy
 rw [<-hY] at hy1 hxy
 have lm:=H0 (W:=w) hm
 refine BQ (args:=[(aG (EJ m))]) (L:=[AX m.p (Cp m.cs)]) Tryz.func112 rfl rfl (Af rfl) (Hy hm Bo) (AE.subF (sL [0] rfl) (q4 (CB (cs:=EJ m) rfl λb1=>AL rfl (q3 (sL [1,2] rfl) ?_))))
 refine AH (v:=(pP b1 0)) (AA rfl Tryz.underlying26 rfl Tryz.sizeOf5 rfl) rfl (BI 0 (vK .u8 m.nx) TH rfl (AH (CN (c:=((m.nx%3:Nat):Int)) rfl rfl (by omega) (IS (a:=m.nx) (b:=3))) rfl (AH (Ar (c:=((m.nx%3:Nat):Int)) rfl Tryz.underlying5 Tryz.underlying3 (CU (by omega))) rfl (AH (AT (c:=((1+(m.nx%3):Nat):Int)) rfl rfl (AR (a:=1) (b:=m.nx%3) (by omega))) rfl (AD.retell (k:=19) (u:=(vN X)) rfl (by rw [hX];rfl) ?_)))))
 refine AL rfl (q3 (sL [1,2,3] rfl) (AH (v:=(pP b1 1)) (AA rfl Tryz.underlying26 rfl Tryz.sizeOf5 rfl) rfl (BI 0 (vK .u8 m.ny) TH rfl (AH (CN (c:=((m.ny%3:Nat):Int)) rfl rfl (by omega) (IS (a:=m.ny) (b:=3))) rfl (AH (Ar (c:=((m.ny%3:Nat):Int)) rfl Tryz.underlying5 Tryz.underlying3 (CU (by omega))) rfl ?_)))))
 refine AH (AT (c:=((1+(m.ny%3):Nat):Int)) rfl rfl (AR (a:=1) (b:=m.ny%3) (by omega))) rfl (AD.retell (k:=24) (u:=(vN Y)) rfl (by rw [hY];rfl) (AL rfl (q3 (sL [1,2,3,4] rfl) (AL rfl (AD.nilRow 189 6 ?_)))))
 refine AD.nil (q1 (q4 (AL rfl (AD.nil (AC.then_ ?_)))))
 refine AE.block ?_
 refine AE.lp4 (tg λ(i:Nat) (p:Option Addr) (c:Nat) (out:List (P2×P2×P2))=>i<=X*Y/\OwnOk p out.length c/\out=Dm m i) (tg λ(i:Nat) (p:Option Addr) (c:Nat) (out:List (P2×P2×P2))=>[(1,(pP b1 0)),(2,(Value.slice none 0 0)),(3,(vN X)),(4,(vN Y)),(6,(vN i)),(5,(Value.slice p out.length c))]) (tg λ(i:Nat) (p:Option Addr) (c:Nat) (out:List (P2×P2×P2))=>[rowW p 189 6 out.length c (rowsL A9 out),Ac b1 26 (EJ m),AX m.p (Cp m.cs)]) (tg λ(i:Nat) (p:Option Addr) (c:Nat) (out:List (P2×P2×P2))=>X*Y-i) 0 none 0 ([]:List (P2×P2×P2)) (⟨by omega,OwnOk.none,rfl⟩) (sF rfl) sr (λi p c out hJ=>?_)
 obtain ⟨hi,ho,hout⟩:=hJ
 have hlen:=HA m i
 rw [<-hout] at hlen
 refine AE.seq (q4 (AO rfl (AO rfl (AO rfl (AH (BZ (c:=((X*Y:Nat):Int)) rfl rfl (Bq (a:=X) (b:=Y) (by exact Nat.lt_of_le_of_lt hxy (by decide)))) rfl ?_)))))
 refine AH (Ag (c:=(decide (i<(X*Y)))) rfl rfl (DA (a:=i) (b:=X*Y))) rfl (AD.nil (AC.subF (sL [1,2,3,4,6,5,29] rfl) (AC.then_ ?_)))
 refine AE.cond rfl (λhc0=>?_) (λhc0=>?_)
 ·replace hc0:=of_decide_eq_true hc0
  refine AE.skip (q1 (AE.block (q4 (AL rfl (AD.nil ?_)))))
  refine q1 (q4 (AH (v:=(pP b1 2)) (AA rfl Tryz.underlying26 rfl Tryz.sizeOf22 rfl) rfl (BI 1 (Value.slice m.p m.cs.length m.cap) WL rfl (AH (v:=(vN m.cs.length)) (AF rfl Tryz.underlying22) rfl (AH (Eb (c:=(decide (0<m.cs.length))) rfl rfl (DA (a:=0) (b:=m.cs.length))) rfl ?_)))))
  refine AD.nil (AC.subF (sL [1,2,3,4,6,5,7,35] rfl) (AC.then_ ?_))
  refine AE.jn1 (tg λ(wy:Nat)=>wy=Fz m i) (tg λ(wy:Nat)=>[(1,(pP b1 0)),(2,(Value.slice none 0 0)),(3,(vN X)),(4,(vN Y)),(6,(vN i)),(5,(Value.slice p out.length c)),(7,(vK .u8 wy))]) (tg λ(wy:Nat)=>[rowW p 189 6 out.length c (rowsL A9 out),Ac b1 26 (EJ m),AX m.p (Cp m.cs)]) ?_ ?_
  ·skip
   refine AE.cond rfl (λhc1=>?_) (λhc1=>?_)
   ·replace hc1:=of_decide_eq_true hc1
    refine C7 [(0,true),(1,true),(2,true),(3,true),(4,true),(5,true),(6,true),(7,true),(8,true),(9,true),(10,true)] sr (Au (v:=(pP b1 2)) rfl (AA rfl Tryz.underlying26 rfl Tryz.sizeOf22 rfl) (Bk 1 (Value.slice m.p m.cs.length m.cap) WL rfl (Bl rfl (Au (v:=(pP b1 2)) rfl (AA rfl Tryz.underlying26 rfl Tryz.sizeOf22 rfl) (Bk 1 (Value.slice m.p m.cs.length m.cap) WL rfl ?_)))))
    refine Au (v:=(vN m.cs.length)) rfl (AF rfl Tryz.underlying22) (Au rfl (CN (c:=((i%m.cs.length:Nat):Int)) rfl rfl (by omega) (IS (a:=i) (b:=m.cs.length))) (Au (v:=(pP (pB m.p) (pO m.p+(i%m.cs.length)*1))) rfl (AQ (j:=i%m.cs.length) rfl rfl m.ok Tryz.underlying22 Tryz.sizeOf5 rfl (by exact Nat.mod_lt _ hc1)) (Au rfl (BD (v:=(vK .u8 (m.cs.getD (i%m.cs.length) 0))) (i:=2) rfl rfl (m.ok.ne (by first|exact Nat.mod_lt i hc1|exact hc1)) TH (Rh (by first|exact Nat.mod_lt i hc1|exact hc1))) (Au rfl (CN (c:=(((m.cs.getD (i%m.cs.length) 0)%8:Nat):Int)) rfl rfl (by omega) (IS (a:=m.cs.getD (i%m.cs.length) 0) (b:=8))) (E5 rfl ?_)))))
    exact AP.nil (AC.subF (sL [1,2,3,4,6,5,7] rfl) (AC.join1 ((m.cs.getD (i%m.cs.length) 0)%8) (by unfold Fz;first|rw [if_pos hc1]|rw [if_neg hc1]) (sF rfl) sr))
   ·replace hc1:=of_decide_eq_false hc1
    exact AE.skip (AC.join1 0 (by unfold Fz;first|rw [if_pos hc1]|rw [if_neg hc1]) (sF rfl) sr)
  ·intro wy hJ
   have hw:=hJ
   have hw8:=Pd m i
   rw [<-hw] at hw8
   refine q2 (AO rfl (AO rfl ?_))
   obtain ⟨u,hu⟩:∃u,u=i%X:=⟨_,rfl⟩
   have hu2:u<X:=by rw [hu];exact Nat.mod_lt _ (by omega)
   refine AH (CN (c:=((u:Nat):Int)) rfl rfl (by omega) (by rw [hu];exact IS (a:=i) (b:=X))) rfl (AH (BZ (c:=((2*u:Nat):Int)) rfl rfl (Bq (a:=2) (b:=u) (by omega))) rfl (AL rfl (q3 (sL [1,2,3,4,6,5,7,8] rfl) (AO rfl (AO rfl ?_)))))
   obtain ⟨v,hv⟩:∃v,v=i/X:=⟨_,rfl⟩
   have hv2:v<=9:=by rw [hv];exact Nat.le_trans (Nat.div_le_self _ _) (by omega)
   refine AH (GV (c:=((v:Nat):Int)) rfl rfl (by omega) (by rw [hv];exact NS (a:=i) (b:=X) (by omega))) rfl (AH (BZ (c:=((2*v:Nat):Int)) rfl rfl (Bq (a:=2) (b:=v) (by omega))) rfl (AL rfl (q3 (sL [1,2,3,4,6,5,7,8,9] rfl) (AO rfl (AO rfl ?_)))))
   refine AH (v:=(aG (Aw (2*u,2*v)))) (Ap (zs:=Aw ((0,0):P2)) (vs:=Aw (2*u,2*v)) (pv:=[(0,(vN (2*u))),(1,(vN (2*v)))]) Tryz.zeroValue111 Tryz.underlying111 Tryz.sizeOf3 rfl (Cq (2*u) (2*v))) rfl (al Id rfl λb2=>A6 rfl Tryz.sizeOf111 rfl (q3 (sL [1,2,3,4,6,5,7,8,9,10] rfl) (AO rfl (AH (AT (c:=(((2*u)+2:Nat):Int)) rfl rfl (AR (a:=2*u) (b:=2) (by omega))) rfl ?_))))
   refine AO rfl (AH (v:=(aG (Aw ((2*u)+2,2*v)))) (Ap (zs:=Aw ((0,0):P2)) (vs:=Aw ((2*u)+2,2*v)) (pv:=[(0,(vN ((2*u)+2))),(1,(vN (2*v)))]) Tryz.zeroValue111 Tryz.underlying111 Tryz.sizeOf3 rfl (Cq ((2*u)+2) (2*v))) rfl (al Id rfl λb3=>A6 rfl Tryz.sizeOf111 rfl (q3 (sL [1,2,3,4,6,5,7,8,9,10,11] rfl) (AO rfl ?_))))
   refine AH (AT (c:=(((2*u)+2:Nat):Int)) rfl rfl (AR (a:=2*u) (b:=2) (by omega))) rfl (AO rfl (AH (AT (c:=(((2*v)+2:Nat):Int)) rfl rfl (AR (a:=2*v) (b:=2) (by omega))) rfl (AH (v:=(aG (Aw ((2*u)+2,(2*v)+2)))) (Ap (zs:=Aw ((0,0):P2)) (vs:=Aw ((2*u)+2,(2*v)+2)) (pv:=[(0,(vN ((2*u)+2))),(1,(vN ((2*v)+2)))]) Tryz.zeroValue111 Tryz.underlying111 Tryz.sizeOf3 rfl (Cq ((2*u)+2) ((2*v)+2))) rfl (al Id rfl λb4=>A6 rfl Tryz.sizeOf111 rfl ?_))))
   refine q3 (sL [1,2,3,4,6,5,7,8,9,10,11,12] rfl) (AO rfl (AO rfl (AH (AT (c:=(((2*v)+2:Nat):Int)) rfl rfl (AR (a:=2*v) (b:=2) (by omega))) rfl (AH (v:=(aG (Aw (2*u,(2*v)+2)))) (Ap (zs:=Aw ((0,0):P2)) (vs:=Aw (2*u,(2*v)+2)) (pv:=[(0,(vN (2*u))),(1,(vN ((2*v)+2)))]) Tryz.zeroValue111 Tryz.underlying111 Tryz.sizeOf3 rfl (Cq (2*u) ((2*v)+2))) rfl (al Id rfl λb5=>?_)))))
   refine A6 rfl Tryz.sizeOf111 rfl (q3 (sL [1,2,3,4,6,5,7,8,9,10,11,12,13] rfl) (AO rfl (AH (AT (c:=(((2*u)+1:Nat):Int)) rfl rfl (AR (a:=2*u) (b:=1) (by omega))) rfl (AO rfl (AH (AT (c:=(((2*v)+1:Nat):Int)) rfl rfl (AR (a:=2*v) (b:=1) (by omega))) rfl ?_)))))
   refine AH (v:=(aG (Aw ((2*u)+1,(2*v)+1)))) (Ap (zs:=Aw ((0,0):P2)) (vs:=Aw ((2*u)+1,(2*v)+1)) (pv:=[(0,(vN ((2*u)+1))),(1,(vN ((2*v)+1)))]) Tryz.zeroValue111 Tryz.underlying111 Tryz.sizeOf3 rfl (Cq ((2*u)+1) ((2*v)+1))) rfl (al Id rfl λb6=>A6 rfl Tryz.sizeOf111 rfl (AD.nil (AC.subF (sL [1,2,3,4,6,5,7,8,9,10,11,12,13,14] rfl) (AC.then_ ?_))))
   refine AE.block (q4 (AO rfl (AH (Ag (c:=(decide (wy<3))) rfl rfl (DA (a:=wy) (b:=3))) rfl (AO rfl ?_))))
   refine AD.mid (FM:=[(1,(pP b1 0)),(2,(Value.slice none 0 0)),(3,(vN X)),(4,(vN Y)),(6,(vN i)),(5,(Value.slice p out.length c)),(7,(vK .u8 wy)),(8,(vN (2*u))),(9,(vN (2*v))),(10,(pP b2 0)),(11,(pP b3 0)),(12,(pP b4 0)),(13,(pP b5 0)),(14,(pP b6 0)),(76,(vK .u8 wy)),(77,(Value.bool (decide (wy<3)))),(78,(Value.bool (decide (wy<3)))),(85,(Value.bool ((decide (wy<3))||((decide (wy=7))&&(decide (i=0))))))]) (LM:=[Ac b6 111 (Aw ((2*u)+1,(2*v)+1)),Ac b5 111 (Aw (2*u,(2*v)+2)),Ac b4 111 (Aw ((2*u)+2,(2*v)+2)),Ac b3 111 (Aw ((2*u)+2,2*v)),Ac b2 111 (Aw (2*u,2*v)),rowW p 189 6 out.length c (rowsL A9 out),Ac b1 26 (EJ m),AX m.p (Cp m.cs)]) 7 ?_ ?_
   ·rcases Bool.eq_false_or_eq_true (decide (wy<3)) with hg1|hg1
    ·skip
     refine AD.retell (k:=78) (u:=Value.bool true) rfl (by rw [hg1]) ?_
     have hg1':=hg1
     replace hg1':=of_decide_eq_true hg1'
     refine AD.skip (AM rfl) rfl (Af rfl) (AD.skip (AM rfl) rfl (Af rfl) (AD.skip (AM rfl) rfl (Af rfl) (AD.skip (Np rfl rfl rfl) rfl (Af rfl) (AD.skip (Np rfl rfl rfl) rfl (Af rfl) (AD.skip (AM rfl) rfl (Af rfl) ?_)))))
     exact AH (v:=(Value.bool true)) (Ae rfl rfl) rfl (AD.nil (AC.mid (sS rfl (sS rfl (sS rfl (sS rfl (sS rfl (sS rfl (sS rfl (sS rfl (sS rfl (sS rfl (sS rfl (sS rfl (sS rfl (sS rfl (sS rfl (sS rfl (sS (by first|rfl|(rw [hg1];rfl)|rw [hg1]) (sS (by first|rfl|(rw [hg1];rfl)|rw [hg1]) (sN))))))))))))))))))) (List.Sublist.refl _)))
    ·skip
     refine AD.retell (k:=78) (u:=Value.bool false) rfl (by rw [hg1]) ?_
     have hg1':=hg1
     replace hg1':=of_decide_eq_false hg1'
     refine AD.step (v:=(vK .u8 wy)) (AB rfl) (BU rfl) rfl (Af rfl) (AD.step (v:=(Value.bool (decide (wy=7)))) (AB rfl) (Bp (c:=(decide (wy=7))) rfl rfl (Pm (a:=wy) (b:=7))) rfl (Af rfl) (AD.step (v:=(Value.bool (decide (wy=7)))) (AB rfl) (BU rfl) rfl (Af rfl) ?_))
     refine AD.mid (FM:=[(1,(pP b1 0)),(2,(Value.slice none 0 0)),(3,(vN X)),(4,(vN Y)),(6,(vN i)),(5,(Value.slice p out.length c)),(7,(vK .u8 wy)),(8,(vN (2*u))),(9,(vN (2*v))),(10,(pP b2 0)),(11,(pP b3 0)),(12,(pP b4 0)),(13,(pP b5 0)),(14,(pP b6 0)),(76,(vK .u8 wy)),(77,(Value.bool (decide (wy<3)))),(78,(Value.bool false)),(79,(vK .u8 wy)),(80,(Value.bool (decide (wy=7)))),(81,(Value.bool (decide (wy=7)))),(84,(Value.bool ((decide (wy=7))&&(decide (i=0)))))]) (LM:=[Ac b6 111 (Aw ((2*u)+1,(2*v)+1)),Ac b5 111 (Aw (2*u,(2*v)+2)),Ac b4 111 (Aw ((2*u)+2,(2*v)+2)),Ac b3 111 (Aw ((2*u)+2,2*v)),Ac b2 111 (Aw (2*u,2*v)),rowW p 189 6 out.length c (rowsL A9 out),Ac b1 26 (EJ m),AX m.p (Cp m.cs)]) 3 ?_ ?_
     ·rcases Bool.eq_false_or_eq_true (decide (wy=7)) with hg2|hg2
      ·skip
       refine AD.retell (k:=81) (u:=Value.bool true) rfl (by rw [hg2]) ?_
       have hg2':=hg2
       replace hg2':=of_decide_eq_true hg2'
       exact AD.step (v:=(vN i)) (AB rfl) (BU rfl) rfl (Af rfl) (AD.step (v:=(Value.bool (decide (i=0)))) (AB rfl) (Bp (c:=(decide (i=0))) rfl rfl (Pm (a:=i) (b:=0))) rfl (Af rfl) (AD.step (v:=(Value.bool (decide (i=0)))) (AB rfl) (Ae rfl rfl) rfl (Af rfl) (AD.nil (AC.mid (sS rfl (sS rfl (sS rfl (sS rfl (sS rfl (sS rfl (sS rfl (sS rfl (sS rfl (sS rfl (sS rfl (sS rfl (sS rfl (sS rfl (sS rfl (sS rfl (sS rfl (sS rfl (sS rfl (sS (by first|rfl|(rw [hg2];rfl)|rw [hg2]) (sS (by first|rfl|(rw [hg2];rfl)|rw [hg2]) (sN)))))))))))))))))))))) (List.Sublist.refl _)))))
      ·skip
       refine AD.retell (k:=81) (u:=Value.bool false) rfl (by rw [hg2]) ?_
       have hg2':=hg2
       replace hg2':=of_decide_eq_false hg2'
       exact AD.skip (AM rfl) rfl (Af rfl) (AD.skip (AM rfl) rfl (Af rfl) (AD.step (v:=(Value.bool false)) (AB rfl) (Aa rfl rfl) rfl (Af rfl) (AD.nil (AC.mid (sS rfl (sS rfl (sS rfl (sS rfl (sS rfl (sS rfl (sS rfl (sS rfl (sS rfl (sS rfl (sS rfl (sS rfl (sS rfl (sS rfl (sS rfl (sS rfl (sS rfl (sS rfl (sS rfl (sS (by first|rfl|(rw [hg2];rfl)|rw [hg2]) (sS (by first|rfl|(rw [hg2];rfl)|rw [hg2]) (sN)))))))))))))))))))))) (List.Sublist.refl _)))))
     exact AH (v:=(Value.bool ((decide (wy=7))&&(decide (i=0))))) (Aa rfl rfl) rfl (AD.nil (AC.mid (sS rfl (sS rfl (sS rfl (sS rfl (sS rfl (sS rfl (sS rfl (sS rfl (sS rfl (sS rfl (sS rfl (sS rfl (sS rfl (sS rfl (sS rfl (sS rfl (sS (by first|rfl|(rw [hg1];rfl)|rw [hg1]) (sS (by first|rfl|(rw [hg1];rfl)|rw [hg1]) (sN))))))))))))))))))) (List.Sublist.refl _)))
   refine AL rfl (AD.nil (AC.subF (sL [1,2,3,4,6,5,7,8,9,10,11,12,13,14,75] rfl) (AC.then_ ?_)))
   refine AE.cond rfl (λhc2=>?_) (λhc2=>?_)
   ·simp only [Bool.and_eq_true,Bool.or_eq_true,Bool.and_eq_false_iff,Bool.or_eq_false_iff,Bool.not_eq_true',Bool.not_eq_false',decide_eq_true_eq,decide_eq_false_iff_not] at hc2
    have hcell:=U4 hu hv (way:=wy) (by simpa using hc2)
    refine AE.region (AO rfl (BF 4 Bm rfl (BF 3 Bm rfl (BF 2 Bm rfl (AH (v:=(aG (A9 ((2*u,2*v),((2*u)+2,2*v),((2*u)+2,(2*v)+2))))) (Ap (zs:=A9 (((0,0),(0,0),(0,0)):P2×P2×P2)) (vs:=A9 ((2*u,2*v),((2*u)+2,2*v),((2*u)+2,(2*v)+2))) (pv:=[(0,(aG (Aw (2*u,2*v)))),(1,(aG (Aw ((2*u)+2,2*v)))),(2,(aG (Aw ((2*u)+2,(2*v)+2))))]) Tryz.zeroValue189 Tryz.underlying189 Tryz.sizeOf111 rfl (Bt (2*u,2*v) ((2*u)+2,2*v) ((2*u)+2,(2*v)+2))) rfl ?_)))))
    refine BF 4 Bm rfl (BF 2 Bm rfl (BF 1 Bm rfl (AH (v:=(aG (A9 ((2*u,2*v),((2*u)+2,(2*v)+2),(2*u,(2*v)+2))))) (Ap (zs:=A9 (((0,0),(0,0),(0,0)):P2×P2×P2)) (vs:=A9 ((2*u,2*v),((2*u)+2,(2*v)+2),(2*u,(2*v)+2))) (pv:=[(0,(aG (Aw (2*u,2*v)))),(1,(aG (Aw ((2*u)+2,(2*v)+2)))),(2,(aG (Aw (2*u,(2*v)+2))))]) Tryz.zeroValue189 Tryz.underlying189 Tryz.sizeOf111 rfl (Bt (2*u,2*v) ((2*u)+2,(2*v)+2) (2*u,(2*v)+2))) rfl (AD.openV (V:=λb7=>(Value.slice (some ⟨b7,0,none⟩) 2 2)) (T:=189) (cs:=A9 ((2*u,2*v),((2*u)+2,2*v),((2*u)+2,(2*v)+2))++A9 ((2*u,2*v),((2*u)+2,(2*v)+2),(2*u,(2*v)+2))) (AN rfl) (Ah (z:=.agg (A9 (((0,0),(0,0),(0,0)):P2×P2×P2)).toArray) (cs:=A9 ((2*u,2*v),((2*u)+2,2*v),((2*u)+2,(2*v)+2))++A9 ((2*u,2*v),((2*u)+2,(2*v)+2),(2*u,(2*v)+2))) (pv:=[(0,(aG (A9 ((2*u,2*v),((2*u)+2,2*v),((2*u)+2,(2*v)+2))))),(1,(aG (A9 ((2*u,2*v),((2*u)+2,(2*v)+2),(2*u,(2*v)+2)))))]) Tryz.underlying187 Tryz.sizeOf189 Tryz.zeroValue189 (by decide) (by decide) rfl (Fy ((2*u,2*v),((2*u)+2,2*v),((2*u)+2,(2*v)+2)) ((2*u,2*v),((2*u)+2,(2*v)+2),(2*u,(2*v)+2)))) rfl (Af rfl) λb7=>AD.appendAt 6 (j:=0) (cs2:=rowsL A9 (out++[((2*u,2*v),((2*u)+2,2*v),((2*u)+2,(2*v)+2)),((2*u,2*v),((2*u)+2,(2*v)+2),(2*u,(2*v)+2))])) TJ rfl ho (Aj FU _) rfl rfl rfl rfl rfl (by decide) (HM (by omega)) (by omega) (by rw [BN];rfl) rfl λp_1 c_1 ho_1 hne_1=>?_))))
    refine AL rfl (AD.nil (AC.subF (sL [1,2,3,4,6,5,7,8,9,10,11,12,13,14] rfl) (AC.in_normal (AC.in_normal (AC.then_ ?_)))))
    refine AE.region (AO rfl (AH (AT (c:=((i+1:Nat):Int)) rfl rfl (AR (a:=i) (b:=1) (by omega))) rfl (AL rfl (AD.nil (AC.subF (sL [1,2,3,4,6,5,7,8,9,10,11,12,13,14] rfl) ?_)))))
    rw [show out.length+2=(out++[((2*u,2*v),((2*u)+2,2*v),((2*u)+2,(2*v)+2)),((2*u,2*v),((2*u)+2,(2*v)+2),(2*u,(2*v)+2))]).length by simp]
    exact AC.round4 (i+1) p_1 c_1 (out++[((2*u,2*v),((2*u)+2,2*v),((2*u)+2,(2*v)+2)),((2*u,2*v),((2*u)+2,(2*v)+2),(2*u,(2*v)+2))]) (⟨by omega,(by simpa using ho_1),by rw [hout];show _=Dm m i++Ce (FV m) (Fz m i) i;rw [<-hX,<-hw,hcell]⟩) (by omega) (sF rfl) (sl (sl (sl (sl (sl (sl sr))))))
   ·simp only [Bool.and_eq_true,Bool.or_eq_true,Bool.and_eq_false_iff,Bool.or_eq_false_iff,Bool.not_eq_true',Bool.not_eq_false',decide_eq_true_eq,decide_eq_false_iff_not] at hc2
    have h20:¬(wy<3\/(wy=7/\i=0)):=by simp at hc2;omega
    refine q4 (AO rfl (AH (Ag (c:=(decide (wy<5))) rfl rfl (DA (a:=wy) (b:=5))) rfl (AL rfl (AD.nil (AC.subF (sL [1,2,3,4,6,5,7,8,9,10,11,12,13,14,97] rfl) ?_)))))
    refine AC.then_ ?_
    refine AE.cond rfl (λhc3=>?_) (λhc3=>?_)
    ·replace hc3:=of_decide_eq_true hc3
     have hcell:=Ur hu hv h20 (by simpa using hc3)
     refine AE.region (AO rfl (BF 4 Bm rfl (BF 3 Bm rfl (BF 1 Bm rfl (AH (v:=(aG (A9 ((2*u,2*v),((2*u)+2,2*v),(2*u,(2*v)+2))))) (Ap (zs:=A9 (((0,0),(0,0),(0,0)):P2×P2×P2)) (vs:=A9 ((2*u,2*v),((2*u)+2,2*v),(2*u,(2*v)+2))) (pv:=[(0,(aG (Aw (2*u,2*v)))),(1,(aG (Aw ((2*u)+2,2*v)))),(2,(aG (Aw (2*u,(2*v)+2))))]) Tryz.zeroValue189 Tryz.underlying189 Tryz.sizeOf111 rfl (Bt (2*u,2*v) ((2*u)+2,2*v) (2*u,(2*v)+2))) rfl ?_)))))
     refine BF 3 Bm rfl (BF 2 Bm rfl (BF 1 Bm rfl (AH (v:=(aG (A9 (((2*u)+2,2*v),((2*u)+2,(2*v)+2),(2*u,(2*v)+2))))) (Ap (zs:=A9 (((0,0),(0,0),(0,0)):P2×P2×P2)) (vs:=A9 (((2*u)+2,2*v),((2*u)+2,(2*v)+2),(2*u,(2*v)+2))) (pv:=[(0,(aG (Aw ((2*u)+2,2*v)))),(1,(aG (Aw ((2*u)+2,(2*v)+2)))),(2,(aG (Aw (2*u,(2*v)+2))))]) Tryz.zeroValue189 Tryz.underlying189 Tryz.sizeOf111 rfl (Bt ((2*u)+2,2*v) ((2*u)+2,(2*v)+2) (2*u,(2*v)+2))) rfl (AD.openV (V:=λb7=>(Value.slice (some ⟨b7,0,none⟩) 2 2)) (T:=189) (cs:=A9 ((2*u,2*v),((2*u)+2,2*v),(2*u,(2*v)+2))++A9 (((2*u)+2,2*v),((2*u)+2,(2*v)+2),(2*u,(2*v)+2))) (AN rfl) (Ah (z:=.agg (A9 (((0,0),(0,0),(0,0)):P2×P2×P2)).toArray) (cs:=A9 ((2*u,2*v),((2*u)+2,2*v),(2*u,(2*v)+2))++A9 (((2*u)+2,2*v),((2*u)+2,(2*v)+2),(2*u,(2*v)+2))) (pv:=[(0,(aG (A9 ((2*u,2*v),((2*u)+2,2*v),(2*u,(2*v)+2))))),(1,(aG (A9 (((2*u)+2,2*v),((2*u)+2,(2*v)+2),(2*u,(2*v)+2)))))]) Tryz.underlying187 Tryz.sizeOf189 Tryz.zeroValue189 (by decide) (by decide) rfl (Fy ((2*u,2*v),((2*u)+2,2*v),(2*u,(2*v)+2)) (((2*u)+2,2*v),((2*u)+2,(2*v)+2),(2*u,(2*v)+2)))) rfl (Af rfl) λb7=>AD.appendAt 6 (j:=0) (cs2:=rowsL A9 (out++[((2*u,2*v),((2*u)+2,2*v),(2*u,(2*v)+2)),(((2*u)+2,2*v),((2*u)+2,(2*v)+2),(2*u,(2*v)+2))])) TJ rfl ho (Aj FU _) rfl rfl rfl rfl rfl (by decide) (HM (by omega)) (by omega) (by rw [BN];rfl) rfl λp_2 c_2 ho_2 hne_2=>?_))))
     refine AL rfl (AD.nil (AC.subF (sL [1,2,3,4,6,5,7,8,9,10,11,12,13,14] rfl) (AC.in_normal (AC.in_normal (AC.then_ ?_)))))
     refine AE.region (AO rfl (AH (AT (c:=((i+1:Nat):Int)) rfl rfl (AR (a:=i) (b:=1) (by omega))) rfl (AL rfl (AD.nil (AC.subF (sL [1,2,3,4,6,5,7,8,9,10,11,12,13,14] rfl) ?_)))))
     rw [show out.length+2=(out++[((2*u,2*v),((2*u)+2,2*v),(2*u,(2*v)+2)),(((2*u)+2,2*v),((2*u)+2,(2*v)+2),(2*u,(2*v)+2))]).length by simp]
     exact AC.round4 (i+1) p_2 c_2 (out++[((2*u,2*v),((2*u)+2,2*v),(2*u,(2*v)+2)),(((2*u)+2,2*v),((2*u)+2,(2*v)+2),(2*u,(2*v)+2))]) (⟨by omega,(by simpa using ho_2),by rw [hout];show _=Dm m i++Ce (FV m) (Fz m i) i;rw [<-hX,<-hw,hcell]⟩) (by omega) (sF rfl) (sl (sl (sl (sl (sl (sl sr))))))
    ·replace hc3:=of_decide_eq_false hc3
     have h30:¬wy<5:=by simpa using hc3
     refine q4 (AO rfl (AH (Ag (c:=(decide (wy<7))) rfl rfl (DA (a:=wy) (b:=7))) rfl (AL rfl (AD.nil (AC.subF (sL [1,2,3,4,6,5,7,8,9,10,11,12,13,14,111] rfl) ?_)))))
     refine AC.then_ ?_
     refine AE.cond rfl (λhc4=>?_) (λhc4=>?_)
     ·replace hc4:=of_decide_eq_true hc4
      have hcell:=VQ hu hv h20 h30 (by simpa using hc4)
      refine AE.region (AO rfl (BF 4 Bm rfl (BF 3 Bm rfl (BF 0 Bm rfl (AH (v:=(aG (A9 ((2*u,2*v),((2*u)+2,2*v),((2*u)+1,(2*v)+1))))) (Ap (zs:=A9 (((0,0),(0,0),(0,0)):P2×P2×P2)) (vs:=A9 ((2*u,2*v),((2*u)+2,2*v),((2*u)+1,(2*v)+1))) (pv:=[(0,(aG (Aw (2*u,2*v)))),(1,(aG (Aw ((2*u)+2,2*v)))),(2,(aG (Aw ((2*u)+1,(2*v)+1))))]) Tryz.zeroValue189 Tryz.underlying189 Tryz.sizeOf111 rfl (Bt (2*u,2*v) ((2*u)+2,2*v) ((2*u)+1,(2*v)+1))) rfl ?_)))))
      refine BF 3 Bm rfl (BF 2 Bm rfl (BF 0 Bm rfl (AH (v:=(aG (A9 (((2*u)+2,2*v),((2*u)+2,(2*v)+2),((2*u)+1,(2*v)+1))))) (Ap (zs:=A9 (((0,0),(0,0),(0,0)):P2×P2×P2)) (vs:=A9 (((2*u)+2,2*v),((2*u)+2,(2*v)+2),((2*u)+1,(2*v)+1))) (pv:=[(0,(aG (Aw ((2*u)+2,2*v)))),(1,(aG (Aw ((2*u)+2,(2*v)+2)))),(2,(aG (Aw ((2*u)+1,(2*v)+1))))]) Tryz.zeroValue189 Tryz.underlying189 Tryz.sizeOf111 rfl (Bt ((2*u)+2,2*v) ((2*u)+2,(2*v)+2) ((2*u)+1,(2*v)+1))) rfl (BF 2 Bm rfl (BF 1 Bm rfl ?_)))))
      refine BF 0 Bm rfl (AH (v:=(aG (A9 (((2*u)+2,(2*v)+2),(2*u,(2*v)+2),((2*u)+1,(2*v)+1))))) (Ap (zs:=A9 (((0,0),(0,0),(0,0)):P2×P2×P2)) (vs:=A9 (((2*u)+2,(2*v)+2),(2*u,(2*v)+2),((2*u)+1,(2*v)+1))) (pv:=[(0,(aG (Aw ((2*u)+2,(2*v)+2)))),(1,(aG (Aw (2*u,(2*v)+2)))),(2,(aG (Aw ((2*u)+1,(2*v)+1))))]) Tryz.zeroValue189 Tryz.underlying189 Tryz.sizeOf111 rfl (Bt ((2*u)+2,(2*v)+2) (2*u,(2*v)+2) ((2*u)+1,(2*v)+1))) rfl (BF 1 Bm rfl (BF 4 Bm rfl (BF 0 Bm rfl (AH (v:=(aG (A9 ((2*u,(2*v)+2),(2*u,2*v),((2*u)+1,(2*v)+1))))) (Ap (zs:=A9 (((0,0),(0,0),(0,0)):P2×P2×P2)) (vs:=A9 ((2*u,(2*v)+2),(2*u,2*v),((2*u)+1,(2*v)+1))) (pv:=[(0,(aG (Aw (2*u,(2*v)+2)))),(1,(aG (Aw (2*u,2*v)))),(2,(aG (Aw ((2*u)+1,(2*v)+1))))]) Tryz.zeroValue189 Tryz.underlying189 Tryz.sizeOf111 rfl (Bt (2*u,(2*v)+2) (2*u,2*v) ((2*u)+1,(2*v)+1))) rfl ?_)))))
      refine AD.openV (V:=λb7=>(Value.slice (some ⟨b7,0,none⟩) 4 4)) (T:=189) (cs:=A9 ((2*u,2*v),((2*u)+2,2*v),((2*u)+1,(2*v)+1))++A9 (((2*u)+2,2*v),((2*u)+2,(2*v)+2),((2*u)+1,(2*v)+1))++A9 (((2*u)+2,(2*v)+2),(2*u,(2*v)+2),((2*u)+1,(2*v)+1))++A9 ((2*u,(2*v)+2),(2*u,2*v),((2*u)+1,(2*v)+1))) (AN rfl) (Ah (z:=.agg (A9 (((0,0),(0,0),(0,0)):P2×P2×P2)).toArray) (cs:=A9 ((2*u,2*v),((2*u)+2,2*v),((2*u)+1,(2*v)+1))++A9 (((2*u)+2,2*v),((2*u)+2,(2*v)+2),((2*u)+1,(2*v)+1))++A9 (((2*u)+2,(2*v)+2),(2*u,(2*v)+2),((2*u)+1,(2*v)+1))++A9 ((2*u,(2*v)+2),(2*u,2*v),((2*u)+1,(2*v)+1))) (pv:=[(0,(aG (A9 ((2*u,2*v),((2*u)+2,2*v),((2*u)+1,(2*v)+1))))),(1,(aG (A9 (((2*u)+2,2*v),((2*u)+2,(2*v)+2),((2*u)+1,(2*v)+1))))),(2,(aG (A9 (((2*u)+2,(2*v)+2),(2*u,(2*v)+2),((2*u)+1,(2*v)+1))))),(3,(aG (A9 ((2*u,(2*v)+2),(2*u,2*v),((2*u)+1,(2*v)+1)))))]) Tryz.underlying187 Tryz.sizeOf189 Tryz.zeroValue189 (by decide) (by decide) rfl (Is ((2*u,2*v),((2*u)+2,2*v),((2*u)+1,(2*v)+1)) (((2*u)+2,2*v),((2*u)+2,(2*v)+2),((2*u)+1,(2*v)+1)) (((2*u)+2,(2*v)+2),(2*u,(2*v)+2),((2*u)+1,(2*v)+1)) ((2*u,(2*v)+2),(2*u,2*v),((2*u)+1,(2*v)+1)))) rfl (Af rfl) λb7=>AD.appendAt 6 (j:=0) (cs2:=rowsL A9 (out++[((2*u,2*v),((2*u)+2,2*v),((2*u)+1,(2*v)+1)),(((2*u)+2,2*v),((2*u)+2,(2*v)+2),((2*u)+1,(2*v)+1)),(((2*u)+2,(2*v)+2),(2*u,(2*v)+2),((2*u)+1,(2*v)+1)),((2*u,(2*v)+2),(2*u,2*v),((2*u)+1,(2*v)+1))])) TJ rfl ho (Aj FU _) rfl rfl rfl rfl rfl (by decide) (HM (by omega)) (by omega) (by rw [BN];rfl) rfl λp_3 c_3 ho_3 hne_3=>AL rfl (AD.nil (AC.subF (sL [1,2,3,4,6,5,7,8,9,10,11,12,13,14] rfl) (AC.in_normal ?_)))
      refine AC.in_normal (AC.then_ (AE.region (AO rfl (AH (AT (c:=((i+1:Nat):Int)) rfl rfl (AR (a:=i) (b:=1) (by omega))) rfl (AL rfl ?_)))))
      refine AD.nil (AC.subF (sL [1,2,3,4,6,5,7,8,9,10,11,12,13,14] rfl) ?_)
      rw [show out.length+4=(out++[((2*u,2*v),((2*u)+2,2*v),((2*u)+1,(2*v)+1)),(((2*u)+2,2*v),((2*u)+2,(2*v)+2),((2*u)+1,(2*v)+1)),(((2*u)+2,(2*v)+2),(2*u,(2*v)+2),((2*u)+1,(2*v)+1)),((2*u,(2*v)+2),(2*u,2*v),((2*u)+1,(2*v)+1))]).length by simp]
      exact AC.round4 (i+1) p_3 c_3 (out++[((2*u,2*v),((2*u)+2,2*v),((2*u)+1,(2*v)+1)),(((2*u)+2,2*v),((2*u)+2,(2*v)+2),((2*u)+1,(2*v)+1)),(((2*u)+2,(2*v)+2),(2*u,(2*v)+2),((2*u)+1,(2*v)+1)),((2*u,(2*v)+2),(2*u,2*v),((2*u)+1,(2*v)+1))]) (⟨by omega,(by simpa using ho_3),by rw [hout];show _=Dm m i++Ce (FV m) (Fz m i) i;rw [<-hX,<-hw,hcell]⟩) (by omega) (sF rfl) (sl (sl (sl (sl (sl (sl sr))))))
     ·replace hc4:=of_decide_eq_false hc4
      have hcell:Ce X wy i=[]:=VA h20 h30 (by simpa using hc4)
      refine AE.skip (AC.in_normal (AC.in_normal (AC.then_ (AE.region (AO rfl ?_)))))
      exact AH (AT (c:=((i+1:Nat):Int)) rfl rfl (AR (a:=i) (b:=1) (by omega))) rfl (AL rfl (AD.nil (AC.subF (sL [1,2,3,4,6,5,7,8,9,10,11,12,13,14] rfl) (AC.round4 (i+1) p c out (⟨by omega,(by simpa using ho),by rw [hout];show _=Dm m i++Ce (FV m) (Fz m i) i;rw [<-hX,<-hw,hcell];simp⟩) (by omega) (sF rfl) (sl (sl (sl (sl (sl sr)))))))))
 ·replace hc0:=of_decide_eq_false hc0
  have hfin:out=BA m:=by rw [hout];unfold BA;rw [<-hX,<-hY,show i=X*Y by omega]
  refine AE.exit (AC.then_exit (AC.round4_exit (AC.in_exit (q2 (AO rfl ?_)))))
  exact AL rfl (AD.nil (AC.subF (sL [1,2,3,4,6,5] rfl) (AC.then_ (AE.ret (AU rfl (Am (v:=(Value.slice p out.length c)) rfl) (λw hw=>(by rw [<-hfin];exact YN hw 0 rfl ho (Aj FU _) rfl)))))))
theorem Fv (x0 x1 x2 x3:Int):Instr.fill (λi=>some (i*1,1)) (UG ((0,0,0,0):Int×Int×Int×Int)).toArray [(0,.int .i64 x0),(1,.int .i64 x1),(2,.int .i64 x2),(3,.int .i64 x3)]=some (UG (x0,x1,x2,x3)).toArray:=by kernel_rfl
theorem Fu (x0 x1:Int):Instr.fill (λi=>some (i*1,1)) (CO ((0,0):Int×Int)).toArray [(0,.int .i64 x0),(1,.int .i64 x1)]=some (CO (x0,x1)).toArray:=by kernel_rfl
theorem IP (m:MQ) (p:P2) (hp:p.1<=6/\p.2<=6) (w:World) {S:Nat->Prop} (hm:Ro S w m):Calls Tryz.prog 113 #[(aG (EJ m)),(aG (Aw p))] w (Ax w (aG (CO ((F_ m.a m.b m.c m.d).at_ p)))):=by
 obtain ⟨A,hA⟩:∃A,A=m.a.tmod 4:=⟨_,rfl⟩
 obtain ⟨B,hB⟩:∃A,A=m.b.tmod 4:=⟨_,rfl⟩
 obtain ⟨C,hC⟩:∃A,A=m.c.tmod 4:=⟨_,rfl⟩
 obtain ⟨D,hD⟩:∃A,A=m.d.tmod 4:=⟨_,rfl⟩
 have kA:=Ij m.a
 have kB:=Ij m.b
 have kC:=Ij m.c
 have kD:=Ij m.d
 rw [<-hA] at kA
 rw [<-hB] at kB
 rw [<-hC] at kC
 rw [<-hD] at kD
 have e1:=Cv kA (k:=3) kD
 have e2:=Cv kB (k:=3) kC
 have lm:=H0 (W:=w) hm
 refine BQ (args:=[(aG (EJ m)),(aG (Aw p))]) (L:=[AX m.p (Cp m.cs)]) Tryz.func113 rfl rfl (Af rfl) (Hy hm Bo) (AE.subF (sL [0,1] rfl) (q4 (CB (cs:=EJ m) rfl λb1=>CB (cs:=Aw p) rfl λb2=>al XN rfl λb3=>?_)))
 refine q3 (sL [2,3,4] rfl) (AH (v:=(pP b1 3)) (AA rfl Tryz.underlying26 rfl Tryz.sizeOf24 rfl) rfl (AH (v:=(pP b1 3)) (AG (j:=0) rfl rfl Tryz.underlying24 Tryz.sizeOf23 rfl (by decide) rfl) rfl (BI 2 (Value.int .i8 m.a) Uz rfl (AH (CN (c:=A) rfl rfl (by decide) hA.symm) rfl (AH (Ar (c:=A) rfl Tryz.underlying23 Tryz.underlying2 (BE (by omega) (by omega))) rfl ?_)))))
 refine AH (v:=(pP b1 3)) (AA rfl Tryz.underlying26 rfl Tryz.sizeOf24 rfl) rfl (AH (v:=(pP b1 4)) (AG (j:=1) rfl rfl Tryz.underlying24 Tryz.sizeOf23 rfl (by decide) rfl) rfl (BI 2 (Value.int .i8 m.b) Uz rfl (AH (CN (c:=B) rfl rfl (by decide) hB.symm) rfl (AH (Ar (c:=B) rfl Tryz.underlying23 Tryz.underlying2 (BE (by omega) (by omega))) rfl (AH (v:=(pP b1 3)) (AA rfl Tryz.underlying26 rfl Tryz.sizeOf24 rfl) rfl ?_)))))
 refine AH (v:=(pP b1 5)) (AG (j:=2) rfl rfl Tryz.underlying24 Tryz.sizeOf23 rfl (by decide) rfl) rfl (BI 2 (Value.int .i8 m.c) Uz rfl (AH (CN (c:=C) rfl rfl (by decide) hC.symm) rfl (AH (Ar (c:=C) rfl Tryz.underlying23 Tryz.underlying2 (BE (by omega) (by omega))) rfl (AH (v:=(pP b1 3)) (AA rfl Tryz.underlying26 rfl Tryz.sizeOf24 rfl) rfl (AH (v:=(pP b1 6)) (AG (j:=3) rfl rfl Tryz.underlying24 Tryz.sizeOf23 rfl (by decide) rfl) rfl ?_)))))
 refine BI 2 (Value.int .i8 m.d) Uz rfl (AH (CN (c:=D) rfl rfl (by decide) hD.symm) rfl (AH (Ar (c:=D) rfl Tryz.underlying23 Tryz.underlying2 (BE (by omega) (by omega))) rfl (AH (v:=(aG (UG (A,B,C,D)))) (Ap (zs:=UG ((0,0,0,0):Int×Int×Int×Int)) (vs:=UG (A,B,C,D)) (pv:=[(0,(vI A)),(1,(vI B)),(2,(vI C)),(3,(vI D))]) Tryz.zeroValue246 Tryz.underlying246 Tryz.sizeOf2 rfl (Fv A B C D)) rfl (al XO rfl λb4=>A6 rfl Tryz.sizeOf246 rfl ?_))))
 refine q3 (sL [3,4,5] rfl) (AH (v:=(pP b4 0)) (AG (j:=0) rfl rfl Tryz.underlying246 Tryz.sizeOf2 rfl (by decide) rfl) rfl (BI 0 (vI A) Mf rfl (AH (v:=(pP b4 3)) (AG (j:=3) rfl rfl Tryz.underlying246 Tryz.sizeOf2 rfl (by decide) rfl) rfl (BI 0 (vI D) Mf rfl (AH (BZ (c:=(A*D)) rfl rfl (BE (by omega) (by omega))) rfl ?_)))))
 refine AH (v:=(pP b4 1)) (AG (j:=1) rfl rfl Tryz.underlying246 Tryz.sizeOf2 rfl (by decide) rfl) rfl (BI 0 (vI B) Mf rfl (AH (v:=(pP b4 2)) (AG (j:=2) rfl rfl Tryz.underlying246 Tryz.sizeOf2 rfl (by decide) rfl) rfl (BI 0 (vI C) Mf rfl (AH (BZ (c:=(B*C)) rfl rfl (BE (by omega) (by omega))) rfl (AH (Bf (c:=(A*D-B*C)) rfl rfl (BE (by omega) (by omega))) rfl ?_)))))
 refine AL rfl (q6 (sL [3,4,5,6] rfl) (q4 (AO rfl (AH (Bp (c:=(decide ((A*D-B*C)=(0:Int)))) rfl rfl rfl) rfl (AD.nil ?_)))))
 refine AC.subF (sL [3,4,5,6,42] rfl) (AC.then_ ?_)
 refine AE.cond rfl (λhc0=>?_) (λhc0=>?_)
 ·replace hc0:=of_decide_eq_true hc0
  have hz0:=hc0
  refine AE.region (AH (v:=(aG (UG ((1:Int),(0:Int),(0:Int),(1:Int))))) (Ap (zs:=UG ((0,0,0,0):Int×Int×Int×Int)) (vs:=UG ((1:Int),(0:Int),(0:Int),(1:Int))) (pv:=[(0,(vI 1)),(1,(vI 0)),(2,(vI 0)),(3,(vI 1))]) Tryz.zeroValue246 Tryz.underlying246 Tryz.sizeOf2 rfl (Fv (1:Int) (0:Int) (0:Int) (1:Int))) rfl (A6 rfl Tryz.sizeOf246 rfl (q6 (sL [3,4,5,6] rfl) (q4 (AO rfl ?_)))))
  refine AH (Ag (c:=(decide ((A*D-B*C)<(0:Int)))) rfl rfl rfl) rfl (AD.nil (AC.subF (sL [3,4,5,6,45] rfl) (AC.then_ ?_)))
  refine AE.jn1 (tg λ(K:Cw)=>K=F_ m.a m.b m.c m.d) (tg λ(K:Cw)=>[(3,(pP b2 0)),(4,(pP b3 0)),(5,(pP b4 0))]) (tg λ(K:Cw)=>[Ac b4 246 (UG (K.a,K.b,K.c,K.d)),Ac b3 102 (CO ((0,0):Int×Int)),Ac b2 111 (Aw p),Ac b1 26 (EJ m),AX m.p (Cp m.cs)]) ?_ ?_
  ·skip
   refine AE.cond rfl (λhc1=>?_) (λhc1=>?_)
   ·replace hc1:=of_decide_eq_true hc1
    refine q4 (AH (v:=(pP b4 2)) (AG (j:=2) rfl rfl Tryz.underlying246 Tryz.sizeOf2 rfl (by decide) rfl) rfl (BI 0 (vI (0:Int)) Mf rfl (AH (Jv (c:=(-C)) rfl (by first|(exfalso;omega)|(rw [Int.zero_sub];exact BE (by omega) (by omega)))) rfl (AH (v:=(pP b4 2)) (AG (j:=2) rfl rfl Tryz.underlying246 Tryz.sizeOf2 rfl (by decide) rfl) rfl (Gn 0 (off:=2) (vs:=[(vI (-C))]) (cs':=[(vI (1:Int)),(vI (0:Int)),(vI (-C)),(vI (1:Int))]) (AN rfl) rfl Tryz.sizeOf2 rfl ?_)))))
    refine AD.nil (AC.subF (sL [3,4,5,6] rfl) (AC.then_ (AE.region (AH (v:=(pP b4 3)) (AG (j:=3) rfl rfl Tryz.underlying246 Tryz.sizeOf2 rfl (by decide) rfl) rfl (BI 0 (vI (1:Int)) Mf rfl ?_)))))
    exact AH (Jv (c:=(-D)) rfl (by first|(exfalso;omega)|(rw [Int.zero_sub];exact BE (by omega) (by omega)))) rfl (AH (v:=(pP b4 3)) (AG (j:=3) rfl rfl Tryz.underlying246 Tryz.sizeOf2 rfl (by decide) rfl) rfl (Gn 0 (off:=3) (vs:=[(vI (-D))]) (cs':=[(vI (1:Int)),(vI (0:Int)),(vI (-C)),(vI (-D))]) (AN rfl) rfl Tryz.sizeOf2 rfl (AD.nil (AC.subF (sL [3,4,5,6] rfl) (AC.join1 (Cw.mk (1:Int) (0:Int) (-C) (-D)) ((by first|(exfalso;omega)|exact (MW hA hB hC hD hz0).symm|exact (MR hA hB hC hD hc1).symm|exact (MD hA hB hC hD hz0 hc1).symm)) (sF rfl) sr)))))
   ·replace hc1:=of_decide_eq_false hc1
    exact AE.skip (AC.join1 (Cw.mk (1:Int) (0:Int) (0:Int) (1:Int)) ((by first|(exfalso;omega)|exact (MW hA hB hC hD hz0).symm|exact (MR hA hB hC hD hc1).symm|exact (MD hA hB hC hD hz0 hc1).symm)) (sF rfl) sr)
  ·intro K hJ
   have hK:=hJ
   have kk:=Fi m.a m.b m.c m.d
   rw [<-hK] at kk
   have qz0:=Cv kk.a (k:=6) (b:=(p.1:Int)) (by omega)
   have qz1:=Cv kk.b (k:=6) (b:=(p.2:Int)) (by omega)
   have qz2:=Cv kk.c (k:=6) (b:=(p.1:Int)) (by omega)
   have qz3:=Cv kk.d (k:=6) (b:=(p.2:Int)) (by omega)
   refine q2 (AH (v:=(pP b2 0)) (AG (j:=0) rfl rfl Tryz.underlying111 Tryz.sizeOf3 rfl (by decide) rfl) rfl (BI 2 (vN p.1) B_ rfl (AL rfl (q3 (sL [3,4,5,7] rfl) (AH (v:=(pP b2 1)) (AG (j:=1) rfl rfl Tryz.underlying111 Tryz.sizeOf3 rfl (by decide) rfl) rfl ?_)))))
   refine BI 2 (vN p.2) B_ rfl (AL rfl (q3 (sL [3,4,5,7,8] rfl) (AH (v:=(pP b4 0)) (AG (j:=0) rfl rfl Tryz.underlying246 Tryz.sizeOf2 rfl (by decide) rfl) rfl (BI 0 (vI K.a) Mf rfl (AO rfl ?_)))))
   refine AH (BZ (c:=(K.a*(p.1:Int))) rfl rfl (BE (by omega) (by omega))) rfl (AH (v:=(pP b4 1)) (AG (j:=1) rfl rfl Tryz.underlying246 Tryz.sizeOf2 rfl (by decide) rfl) rfl (BI 0 (vI K.b) Mf rfl (AO rfl (AH (BZ (c:=(K.b*(p.2:Int))) rfl rfl (BE (by omega) (by omega))) rfl (AH (AT (c:=(K.a*(p.1:Int)+K.b*(p.2:Int))) rfl rfl (BE (by omega) (by omega))) rfl ?_)))))
   refine AH (v:=(pP b4 2)) (AG (j:=2) rfl rfl Tryz.underlying246 Tryz.sizeOf2 rfl (by decide) rfl) rfl (BI 0 (vI K.c) Mf rfl (AO rfl (AH (BZ (c:=(K.c*(p.1:Int))) rfl rfl (BE (by omega) (by omega))) rfl (AH (v:=(pP b4 3)) (AG (j:=3) rfl rfl Tryz.underlying246 Tryz.sizeOf2 rfl (by decide) rfl) rfl (BI 0 (vI K.d) Mf rfl ?_)))))
   refine AO rfl (AH (BZ (c:=(K.d*(p.2:Int))) rfl rfl (BE (by omega) (by omega))) rfl (AH (AT (c:=(K.c*(p.1:Int)+K.d*(p.2:Int))) rfl rfl (BE (by omega) (by omega))) rfl (AH (v:=(aG (CO (K.a*(p.1:Int)+K.b*(p.2:Int),K.c*(p.1:Int)+K.d*(p.2:Int))))) (Ap (zs:=CO ((0,0):Int×Int)) (vs:=CO (K.a*(p.1:Int)+K.b*(p.2:Int),K.c*(p.1:Int)+K.d*(p.2:Int))) (pv:=[(0,(vI (K.a*(p.1:Int)+K.b*(p.2:Int)))),(1,(vI (K.c*(p.1:Int)+K.d*(p.2:Int))))]) Tryz.zeroValue102 Tryz.underlying102 Tryz.sizeOf2 rfl (Fu (K.a*(p.1:Int)+K.b*(p.2:Int)) (K.c*(p.1:Int)+K.d*(p.2:Int)))) rfl (DU rfl Tryz.sizeOf102 rfl (AD.nil ?_)))))
   exact AC.subF (sL [3,4,5] rfl) (AC.then_ (AE.ret (AU rfl (Ay (i:=1) (cs:=CO (K.a*(p.1:Int)+K.b*(p.2:Int),K.c*(p.1:Int)+K.d*(p.2:Int))) rfl rfl Tryz.isAgg102 Tryz.sizeOf102 rfl) (λw hw=>⟨by rw [<-hK];rfl,hw.out⟩))))
 ·replace hc0:=of_decide_eq_false hc0
  have hz0:=hc0
  refine AE.skip (q1 (q4 (AO rfl (AH (Ag (c:=(decide ((A*D-B*C)<(0:Int)))) rfl rfl rfl) rfl (AD.nil ?_)))))
  refine AC.subF (sL [3,4,5,6,45] rfl) (AC.then_ ?_)
  refine AE.jn1 (tg λ(K:Cw)=>K=F_ m.a m.b m.c m.d) (tg λ(K:Cw)=>[(3,(pP b2 0)),(4,(pP b3 0)),(5,(pP b4 0))]) (tg λ(K:Cw)=>[Ac b4 246 (UG (K.a,K.b,K.c,K.d)),Ac b3 102 (CO ((0,0):Int×Int)),Ac b2 111 (Aw p),Ac b1 26 (EJ m),AX m.p (Cp m.cs)]) ?_ ?_
  ·skip
   refine AE.cond rfl (λhc1=>?_) (λhc1=>?_)
   ·replace hc1:=of_decide_eq_true hc1
    refine q4 (AH (v:=(pP b4 2)) (AG (j:=2) rfl rfl Tryz.underlying246 Tryz.sizeOf2 rfl (by decide) rfl) rfl (BI 0 (vI C) Mf rfl (AH (Jv (c:=(-C)) rfl (by first|(exfalso;omega)|(rw [Int.zero_sub];exact BE (by omega) (by omega)))) rfl (AH (v:=(pP b4 2)) (AG (j:=2) rfl rfl Tryz.underlying246 Tryz.sizeOf2 rfl (by decide) rfl) rfl (Gn 0 (off:=2) (vs:=[(vI (-C))]) (cs':=[(vI A),(vI B),(vI (-C)),(vI D)]) (AN rfl) rfl Tryz.sizeOf2 rfl ?_)))))
    refine AD.nil (AC.subF (sL [3,4,5,6] rfl) (AC.then_ (AE.region (AH (v:=(pP b4 3)) (AG (j:=3) rfl rfl Tryz.underlying246 Tryz.sizeOf2 rfl (by decide) rfl) rfl (BI 0 (vI D) Mf rfl ?_)))))
    exact AH (Jv (c:=(-D)) rfl (by first|(exfalso;omega)|(rw [Int.zero_sub];exact BE (by omega) (by omega)))) rfl (AH (v:=(pP b4 3)) (AG (j:=3) rfl rfl Tryz.underlying246 Tryz.sizeOf2 rfl (by decide) rfl) rfl (Gn 0 (off:=3) (vs:=[(vI (-D))]) (cs':=[(vI A),(vI B),(vI (-C)),(vI (-D))]) (AN rfl) rfl Tryz.sizeOf2 rfl (AD.nil (AC.subF (sL [3,4,5,6] rfl) (AC.join1 (Cw.mk A B (-C) (-D)) ((by first|(exfalso;omega)|exact (MW hA hB hC hD hz0).symm|exact (MR hA hB hC hD hc1).symm|exact (MD hA hB hC hD hz0 hc1).symm)) (sF rfl) sr)))))
   ·replace hc1:=of_decide_eq_false hc1
    exact AE.skip (AC.join1 (Cw.mk A B C D) ((by first|(exfalso;omega)|exact (MW hA hB hC hD hz0).symm|exact (MR hA hB hC hD hc1).symm|exact (MD hA hB hC hD hz0 hc1).symm)) (sF rfl) sr)
  ·intro K hJ
   have hK:=hJ
   have kk:=Fi m.a m.b m.c m.d
   rw [<-hK] at kk
   have qz0:=Cv kk.a (k:=6) (b:=(p.1:Int)) (by omega)
   have qz1:=Cv kk.b (k:=6) (b:=(p.2:Int)) (by omega)
   have qz2:=Cv kk.c (k:=6) (b:=(p.1:Int)) (by omega)
   have qz3:=Cv kk.d (k:=6) (b:=(p.2:Int)) (by omega)
   refine q2 (AH (v:=(pP b2 0)) (AG (j:=0) rfl rfl Tryz.underlying111 Tryz.sizeOf3 rfl (by decide) rfl) rfl (BI 2 (vN p.1) B_ rfl (AL rfl (q3 (sL [3,4,5,7] rfl) (AH (v:=(pP b2 1)) (AG (j:=1) rfl rfl Tryz.underlying111 Tryz.sizeOf3 rfl (by decide) rfl) rfl ?_)))))
   refine BI 2 (vN p.2) B_ rfl (AL rfl (q3 (sL [3,4,5,7,8] rfl) (AH (v:=(pP b4 0)) (AG (j:=0) rfl rfl Tryz.underlying246 Tryz.sizeOf2 rfl (by decide) rfl) rfl (BI 0 (vI K.a) Mf rfl (AO rfl ?_)))))
   refine AH (BZ (c:=(K.a*(p.1:Int))) rfl rfl (BE (by omega) (by omega))) rfl (AH (v:=(pP b4 1)) (AG (j:=1) rfl rfl Tryz.underlying246 Tryz.sizeOf2 rfl (by decide) rfl) rfl (BI 0 (vI K.b) Mf rfl (AO rfl (AH (BZ (c:=(K.b*(p.2:Int))) rfl rfl (BE (by omega) (by omega))) rfl (AH (AT (c:=(K.a*(p.1:Int)+K.b*(p.2:Int))) rfl rfl (BE (by omega) (by omega))) rfl ?_)))))
   refine AH (v:=(pP b4 2)) (AG (j:=2) rfl rfl Tryz.underlying246 Tryz.sizeOf2 rfl (by decide) rfl) rfl (BI 0 (vI K.c) Mf rfl (AO rfl (AH (BZ (c:=(K.c*(p.1:Int))) rfl rfl (BE (by omega) (by omega))) rfl (AH (v:=(pP b4 3)) (AG (j:=3) rfl rfl Tryz.underlying246 Tryz.sizeOf2 rfl (by decide) rfl) rfl (BI 0 (vI K.d) Mf rfl ?_)))))
   refine AO rfl (AH (BZ (c:=(K.d*(p.2:Int))) rfl rfl (BE (by omega) (by omega))) rfl (AH (AT (c:=(K.c*(p.1:Int)+K.d*(p.2:Int))) rfl rfl (BE (by omega) (by omega))) rfl (AH (v:=(aG (CO (K.a*(p.1:Int)+K.b*(p.2:Int),K.c*(p.1:Int)+K.d*(p.2:Int))))) (Ap (zs:=CO ((0,0):Int×Int)) (vs:=CO (K.a*(p.1:Int)+K.b*(p.2:Int),K.c*(p.1:Int)+K.d*(p.2:Int))) (pv:=[(0,(vI (K.a*(p.1:Int)+K.b*(p.2:Int)))),(1,(vI (K.c*(p.1:Int)+K.d*(p.2:Int))))]) Tryz.zeroValue102 Tryz.underlying102 Tryz.sizeOf2 rfl (Fu (K.a*(p.1:Int)+K.b*(p.2:Int)) (K.c*(p.1:Int)+K.d*(p.2:Int)))) rfl (DU rfl Tryz.sizeOf102 rfl (AD.nil ?_)))))
   exact AC.subF (sL [3,4,5] rfl) (AC.then_ (AE.ret (AU rfl (Ay (i:=1) (cs:=CO (K.a*(p.1:Int)+K.b*(p.2:Int),K.c*(p.1:Int)+K.d*(p.2:Int))) rfl rfl Tryz.isAgg102 Tryz.sizeOf102 rfl) (λw hw=>⟨by rw [<-hK];rfl,hw.out⟩))))
end
end Go.Proofs.YtfbomiejpbchdaaGreat
