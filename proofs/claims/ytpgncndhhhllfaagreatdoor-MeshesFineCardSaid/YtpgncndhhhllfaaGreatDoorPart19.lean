import Derived.Test.YtpgncndhhhllfaaGreatDoorPart03
import Derived.Test.YtpgncndhhhllfaaGreatDoorPart06
import Derived.Test.YtpgncndhhhllfaaGreatDoorPart18
namespace Go.Proofs.YtpgncndhhhllfaaGreatDoor
open Go Go.RowKit Go.Proofs.Tryz
set_option linter.unusedVariables false
set_option linter.unusedSimpArgs false
section
set_option maxRecDepth 100000
theorem UM:ElemT prog 198 200 6 48:=⟨underlying198,DA (by kernel_rfl)⟩
theorem C7 (x0 x1:Nat):Instr.fill (λi=>some (i*1,1)) (BH ((0,0):P2)).toArray [(0,vN x0),(1,vN x1)]=some (BH (x0,x1)).toArray:=by kernel_rfl
theorem B6 (x0 x1 x2:P2):Instr.fill (λi=>some (i*2,2)) (BI (((0,0),(0,0),(0,0)):P2×P2×P2)).toArray [(0,.agg (BH x0).toArray),(1,.agg (BH x1).toArray),(2,.agg (BH x2).toArray)]=some (BI (x0,x1,x2)).toArray:=by kernel_rfl
theorem GV (x0 x1:P2×P2×P2):Instr.fill (λi=>some (i*6,6)) ((Array.range (2*6)).map ((Value.agg (BI (((0,0),(0,0),(0,0)):P2×P2×P2)).toArray).cells[·%(Value.agg (BI (((0,0),(0,0),(0,0)):P2×P2×P2)).toArray).cells.size]!)) [(0,.agg (BI x0).toArray),(1,.agg (BI x1).toArray)]=some (BI x0++BI x1).toArray:=by kernel_rfl
theorem JX (x0 x1 x2 x3:P2×P2×P2):Instr.fill (λi=>some (i*6,6)) ((Array.range (4*6)).map ((Value.agg (BI (((0,0),(0,0),(0,0)):P2×P2×P2)).toArray).cells[·%(Value.agg (BI (((0,0),(0,0),(0,0)):P2×P2×P2)).toArray).cells.size]!)) [(0,.agg (BI x0).toArray),(1,.agg (BI x1).toArray),(2,.agg (BI x2).toArray),(3,.agg (BI x3).toArray)]=some (BI x0++BI x1++BI x2++BI x3).toArray:=by kernel_rfl
set_option maxHeartbeats 1000000 in
theorem SW (m:MQ) (w:World) {S:Nat->Prop} (hm:Ro S w m):Calls prog 119 #[(aG (DZ m))] w (Aw (RX (rowsL BI (BE m)) (BE m).length) S w):=by
 obtain ⟨X,hX⟩:∃X,X=F0 m:=⟨_,rfl⟩
 obtain ⟨Y,hY⟩:∃Y,Y=SP m:=⟨_,rfl⟩
 have hx1:=Iq m
 have hy1:=Ig m
 have hxy:=JD m
 rw [<-hX] at hx1 hxy
 rw [<-hY] at hy1 hxy
 have lm:=Cl (W:=w) hm
 refine Ah (args:=[(aG (DZ m))]) (L:=[AQ m.p (CF m.cs)]) func119 O O (AT O) (Ed hm Ax) (AF.subF (sL [0] O) (q4 (BU (cs:=DZ m) O λb1=>asg' O (q3 (sL [1,2] O) ?_))))
 refine AH (v:=(pP b1 0)) (AA O underlying66 O sizeOf5 O) O (BA 0 (vK .u8 m.nx) Tc O (AH (Bs (c:=((m.nx%3:Nat):Int)) O O Z (Gh (a:=m.nx) (b:=3))) O (AH (Ay (c:=((m.nx%3:Nat):Int)) O underlying5 underlying3 (B4 Z)) O (AH (AW (c:=((1+(m.nx%3):Nat):Int)) O O (AU (a:=1) (b:=m.nx%3) Z)) O (AE.retell (k:=19) (u:=(vN X)) O (by rw [hX];rfl) ?_)))))
 refine asg' O (q3 (sL [1,2,3] O) (AH (v:=(pP b1 1)) (AA O underlying66 O sizeOf5 O) O (BA 0 (vK .u8 m.ny) Tc O (AH (Bs (c:=((m.ny%3:Nat):Int)) O O Z (Gh (a:=m.ny) (b:=3))) O (AH (Ay (c:=((m.ny%3:Nat):Int)) O underlying5 underlying3 (B4 Z)) O ?_)))))
 refine AH (AW (c:=((1+(m.ny%3):Nat):Int)) O O (AU (a:=1) (b:=m.ny%3) Z)) O (AE.retell (k:=24) (u:=(vN Y)) O (by rw [hY];rfl) (asg' O (q3 (sL [1,2,3,4] O) (asg' O (AE.nilRow 200 6 ?_)))))
 refine AE.nil (q1 (q4 (asg' O (AE.nil (AC.then_ ?_)))))
 refine AF.block ?_
 refine AF.lp4 (tg λ(i:Nat) (p:Option Addr) (c:Nat) (out:List (P2×P2×P2))=>i<=X*Y/\OwnOk p out.length c/\out=EP m i) (tg λ(i:Nat) (p:Option Addr) (c:Nat) (out:List (P2×P2×P2))=>[(1,(pP b1 0)),(2,(Value.slice none 0 0)),(3,(vN X)),(4,(vN Y)),(6,(vN i)),(5,(Value.slice p out.length c))]) (tg λ(i:Nat) (p:Option Addr) (c:Nat) (out:List (P2×P2×P2))=>[rowW p 200 6 out.length c (rowsL BI out),Ag b1 66 (DZ m),AQ m.p (CF m.cs)]) (tg λ(i:Nat) (p:Option Addr) (c:Nat) (out:List (P2×P2×P2))=>X*Y-i) 0 none 0 ([]:List (P2×P2×P2)) (⟨Z,OwnOk.none,rfl⟩) (sF O) sr (λi p c out hJ=>?_)
 obtain ⟨hi,ho,hout⟩:=hJ
 have hlen:=Hp m i
 rw [<-hout] at hlen
 refine AF.seq (q4 (AM O (AM O (AM O (AH (Br (c:=((X*Y:Nat):Int)) O O (Cv (a:=X) (b:=Y) (by exact Nat.lt_of_le_of_lt hxy (by decide)))) O ?_)))))
 refine AH (Ae (c:=(decide (i<(X*Y)))) O O (CL (a:=i) (b:=X*Y))) O (AE.nil (AC.subF (sL [1,2,3,4,6,5,29] O) (AC.then_ ?_)))
 refine AF.cond O (λhc0=>?_) (λhc0=>?_)
 ·replace hc0:=of_decide_eq_true hc0
  refine AF.skip (q1 (AF.block (q4 (asg' O (AE.nil ?_)))))
  refine q1 (q4 (AH (v:=(pP b1 2)) (AA O underlying66 O sizeOf62 O) O (BA 1 (Value.slice m.p m.cs.length m.cap) ZT O (AH (v:=(vN m.cs.length)) (AG O underlying62) O (AH (B3 (c:=(decide (0<m.cs.length))) O O (CL (a:=0) (b:=m.cs.length))) O ?_)))))
  refine AE.nil (AC.subF (sL [1,2,3,4,6,5,7,35] O) (AC.then_ ?_))
  refine AF.jn1 (tg λ(wy:Nat)=>wy=Gg m i) (tg λ(wy:Nat)=>[(1,(pP b1 0)),(2,(Value.slice none 0 0)),(3,(vN X)),(4,(vN Y)),(6,(vN i)),(5,(Value.slice p out.length c)),(7,(vK .u8 wy))]) (tg λ(wy:Nat)=>[rowW p 200 6 out.length c (rowsL BI out),Ag b1 66 (DZ m),AQ m.p (CF m.cs)]) ?_ ?_
  ·skip
   refine AF.cond O (λhc1=>?_) (λhc1=>?_)
   ·replace hc1:=of_decide_eq_true hc1
    refine Cd [(0,true),(1,true),(2,true),(3,true),(4,true),(5,true),(6,true),(7,true),(8,true),(9,true),(10,true)] sr (Aq (v:=(pP b1 2)) O (AA O underlying66 O sizeOf62 O) (Bd 1 (Value.slice m.p m.cs.length m.cap) ZT O (Bb O (Aq (v:=(pP b1 2)) O (AA O underlying66 O sizeOf62 O) (Bd 1 (Value.slice m.p m.cs.length m.cap) ZT O ?_)))))
    refine Aq (v:=(vN m.cs.length)) O (AG O underlying62) (Aq O (Bs (c:=((i%m.cs.length:Nat):Int)) O O Z (Gh (a:=i) (b:=m.cs.length))) (Aq (v:=(pP (pB m.p) (pO m.p+(i%m.cs.length)*1))) O (AN (j:=i%m.cs.length) O O m.ok underlying62 sizeOf5 O (by exact Nat.mod_lt _ hc1)) (Aq O (Ad (v:=(vK .u8 (m.cs.getD (i%m.cs.length) 0))) (i:=2) O O (m.ok.ne (by first|exact Nat.mod_lt i hc1|exact hc1)) Tc (UV (by first|exact Nat.mod_lt i hc1|exact hc1))) (Aq O (Bs (c:=(((m.cs.getD (i%m.cs.length) 0)%8:Nat):Int)) O O Z (Gh (a:=m.cs.getD (i%m.cs.length) 0) (b:=8))) (pS' O ?_)))))
    exact OkE.nil (AC.subF (sL [1,2,3,4,6,5,7] O) (AC.join1 ((m.cs.getD (i%m.cs.length) 0)%8) (by unfold Gg;first|rw [if_pos hc1]|rw [if_neg hc1]) (sF O) sr))
   ·replace hc1:=of_decide_eq_false hc1
    exact AF.skip (AC.join1 0 (by unfold Gg;first|rw [if_pos hc1]|rw [if_neg hc1]) (sF O) sr)
  ·intro wy hJ
   have hw:=hJ
   have hw8:=Ra m i
   rw [<-hw] at hw8
   refine q2 (AM O (AM O ?_))
   obtain ⟨u,hu⟩:∃u,u=i%X:=⟨_,rfl⟩
   have hu2:u<X:=by rw [hu];exact Nat.mod_lt _ Z
   refine AH (Bs (c:=((u:Nat):Int)) O O Z (by rw [hu];exact Gh (a:=i) (b:=X))) O (AH (Br (c:=((2*u:Nat):Int)) O O (Cv (a:=2) (b:=u) Z)) O (asg' O (q3 (sL [1,2,3,4,6,5,7,8] O) (AM O (AM O ?_)))))
   obtain ⟨v,hv⟩:∃v,v=i/X:=⟨_,rfl⟩
   have hv2:v<=9:=by rw [hv];exact Nat.le_trans (Nat.div_le_self _ _) Z
   refine AH (Dp (c:=((v:Nat):Int)) O O Z (by rw [hv];exact Ec (a:=i) (b:=X) Z)) O (AH (Br (c:=((2*v:Nat):Int)) O O (Cv (a:=2) (b:=v) Z)) O (asg' O (q3 (sL [1,2,3,4,6,5,7,8,9] O) (AM O (AM O ?_)))))
   refine AH (v:=(aG (BH (2*u,2*v)))) (A6 (zs:=BH ((0,0):P2)) (vs:=BH (2*u,2*v)) (pv:=[(0,(vN (2*u))),(1,(vN (2*v)))]) zeroValue158 underlying158 sizeOf3 O (C7 (2*u) (2*v))) O (al JL O λb2=>A8 O sizeOf158 O (q3 (sL [1,2,3,4,6,5,7,8,9,10] O) (AM O (AH (AW (c:=(((2*u)+2:Nat):Int)) O O (AU (a:=2*u) (b:=2) Z)) O ?_))))
   refine AM O (AH (v:=(aG (BH ((2*u)+2,2*v)))) (A6 (zs:=BH ((0,0):P2)) (vs:=BH ((2*u)+2,2*v)) (pv:=[(0,(vN ((2*u)+2))),(1,(vN (2*v)))]) zeroValue158 underlying158 sizeOf3 O (C7 ((2*u)+2) (2*v))) O (al JL O λb3=>A8 O sizeOf158 O (q3 (sL [1,2,3,4,6,5,7,8,9,10,11] O) (AM O ?_))))
   refine AH (AW (c:=(((2*u)+2:Nat):Int)) O O (AU (a:=2*u) (b:=2) Z)) O (AM O (AH (AW (c:=(((2*v)+2:Nat):Int)) O O (AU (a:=2*v) (b:=2) Z)) O (AH (v:=(aG (BH ((2*u)+2,(2*v)+2)))) (A6 (zs:=BH ((0,0):P2)) (vs:=BH ((2*u)+2,(2*v)+2)) (pv:=[(0,(vN ((2*u)+2))),(1,(vN ((2*v)+2)))]) zeroValue158 underlying158 sizeOf3 O (C7 ((2*u)+2) ((2*v)+2))) O (al JL O λb4=>A8 O sizeOf158 O ?_))))
   refine q3 (sL [1,2,3,4,6,5,7,8,9,10,11,12] O) (AM O (AM O (AH (AW (c:=(((2*v)+2:Nat):Int)) O O (AU (a:=2*v) (b:=2) Z)) O (AH (v:=(aG (BH (2*u,(2*v)+2)))) (A6 (zs:=BH ((0,0):P2)) (vs:=BH (2*u,(2*v)+2)) (pv:=[(0,(vN (2*u))),(1,(vN ((2*v)+2)))]) zeroValue158 underlying158 sizeOf3 O (C7 (2*u) ((2*v)+2))) O (al JL O λb5=>?_)))))
   refine A8 O sizeOf158 O (q3 (sL [1,2,3,4,6,5,7,8,9,10,11,12,13] O) (AM O (AH (AW (c:=(((2*u)+1:Nat):Int)) O O (AU (a:=2*u) (b:=1) Z)) O (AM O (AH (AW (c:=(((2*v)+1:Nat):Int)) O O (AU (a:=2*v) (b:=1) Z)) O ?_)))))
   refine AH (v:=(aG (BH ((2*u)+1,(2*v)+1)))) (A6 (zs:=BH ((0,0):P2)) (vs:=BH ((2*u)+1,(2*v)+1)) (pv:=[(0,(vN ((2*u)+1))),(1,(vN ((2*v)+1)))]) zeroValue158 underlying158 sizeOf3 O (C7 ((2*u)+1) ((2*v)+1))) O (al JL O λb6=>A8 O sizeOf158 O (AE.nil (AC.subF (sL [1,2,3,4,6,5,7,8,9,10,11,12,13,14] O) (AC.then_ ?_))))
   refine AF.block (q4 (AM O (AH (Ae (c:=(decide (wy<3))) O O (CL (a:=wy) (b:=3))) O (AM O ?_))))
   refine AE.mid (FM:=[(1,(pP b1 0)),(2,(Value.slice none 0 0)),(3,(vN X)),(4,(vN Y)),(6,(vN i)),(5,(Value.slice p out.length c)),(7,(vK .u8 wy)),(8,(vN (2*u))),(9,(vN (2*v))),(10,(pP b2 0)),(11,(pP b3 0)),(12,(pP b4 0)),(13,(pP b5 0)),(14,(pP b6 0)),(76,(vK .u8 wy)),(77,(Value.bool (decide (wy<3)))),(78,(Value.bool (decide (wy<3)))),(85,(Value.bool ((decide (wy<3))||((decide (wy=7))&&(decide (i=0))))))]) (LM:=[Ag b6 158 (BH ((2*u)+1,(2*v)+1)),Ag b5 158 (BH (2*u,(2*v)+2)),Ag b4 158 (BH ((2*u)+2,(2*v)+2)),Ag b3 158 (BH ((2*u)+2,2*v)),Ag b2 158 (BH (2*u,2*v)),rowW p 200 6 out.length c (rowsL BI out),Ag b1 66 (DZ m),AQ m.p (CF m.cs)]) 7 ?_ ?_
   ·rcases Bool.eq_false_or_eq_true (decide (wy<3)) with hg1|hg1
    ·skip
     refine AE.retell (k:=78) (u:=Value.bool true) O (by rw [hg1]) ?_
     have hg1':=hg1
     replace hg1':=of_decide_eq_true hg1'
     refine AE.skip (AJ O) O (AT O) (AE.skip (AJ O) O (AT O) (AE.skip (AJ O) O (AT O) (AE.skip (C8 O O O) O (AT O) (AE.skip (C8 O O O) O (AT O) (AE.skip (AJ O) O (AT O) ?_)))))
     exact AH (v:=(Value.bool true)) (Ac O O) O (AE.nil (AC.mid (sS O (sS O (sS O (sS O (sS O (sS O (sS O (sS O (sS O (sS O (sS O (sS O (sS O (sS O (sS O (sS O (sS (by first|rfl|(rw [hg1];rfl)|rw [hg1]) (sS (by first|rfl|(rw [hg1];rfl)|rw [hg1]) (sN))))))))))))))))))) (List.Sublist.refl _)))
    ·skip
     refine AE.retell (k:=78) (u:=Value.bool false) O (by rw [hg1]) ?_
     have hg1':=hg1
     replace hg1':=of_decide_eq_false hg1'
     refine AE.step (v:=(vK .u8 wy)) (AB O) (Al O) O (AT O) (AE.step (v:=(Value.bool (decide (wy=7)))) (AB O) (BL (c:=(decide (wy=7))) O O (Iv (a:=wy) (b:=7))) O (AT O) (AE.step (v:=(Value.bool (decide (wy=7)))) (AB O) (Al O) O (AT O) ?_))
     refine AE.mid (FM:=[(1,(pP b1 0)),(2,(Value.slice none 0 0)),(3,(vN X)),(4,(vN Y)),(6,(vN i)),(5,(Value.slice p out.length c)),(7,(vK .u8 wy)),(8,(vN (2*u))),(9,(vN (2*v))),(10,(pP b2 0)),(11,(pP b3 0)),(12,(pP b4 0)),(13,(pP b5 0)),(14,(pP b6 0)),(76,(vK .u8 wy)),(77,(Value.bool (decide (wy<3)))),(78,(Value.bool false)),(79,(vK .u8 wy)),(80,(Value.bool (decide (wy=7)))),(81,(Value.bool (decide (wy=7)))),(84,(Value.bool ((decide (wy=7))&&(decide (i=0)))))]) (LM:=[Ag b6 158 (BH ((2*u)+1,(2*v)+1)),Ag b5 158 (BH (2*u,(2*v)+2)),Ag b4 158 (BH ((2*u)+2,(2*v)+2)),Ag b3 158 (BH ((2*u)+2,2*v)),Ag b2 158 (BH (2*u,2*v)),rowW p 200 6 out.length c (rowsL BI out),Ag b1 66 (DZ m),AQ m.p (CF m.cs)]) 3 ?_ ?_
     ·rcases Bool.eq_false_or_eq_true (decide (wy=7)) with hg2|hg2
      ·skip
       refine AE.retell (k:=81) (u:=Value.bool true) O (by rw [hg2]) ?_
       have hg2':=hg2
       replace hg2':=of_decide_eq_true hg2'
       exact AE.step (v:=(vN i)) (AB O) (Al O) O (AT O) (AE.step (v:=(Value.bool (decide (i=0)))) (AB O) (BL (c:=(decide (i=0))) O O (Iv (a:=i) (b:=0))) O (AT O) (AE.step (v:=(Value.bool (decide (i=0)))) (AB O) (Ac O O) O (AT O) (AE.nil (AC.mid (sS O (sS O (sS O (sS O (sS O (sS O (sS O (sS O (sS O (sS O (sS O (sS O (sS O (sS O (sS O (sS O (sS O (sS O (sS O (sS (by first|rfl|(rw [hg2];rfl)|rw [hg2]) (sS (by first|rfl|(rw [hg2];rfl)|rw [hg2]) (sN)))))))))))))))))))))) (List.Sublist.refl _)))))
      ·skip
       refine AE.retell (k:=81) (u:=Value.bool false) O (by rw [hg2]) ?_
       have hg2':=hg2
       replace hg2':=of_decide_eq_false hg2'
       exact AE.skip (AJ O) O (AT O) (AE.skip (AJ O) O (AT O) (AE.step (v:=(Value.bool false)) (AB O) (AP O O) O (AT O) (AE.nil (AC.mid (sS O (sS O (sS O (sS O (sS O (sS O (sS O (sS O (sS O (sS O (sS O (sS O (sS O (sS O (sS O (sS O (sS O (sS O (sS O (sS (by first|rfl|(rw [hg2];rfl)|rw [hg2]) (sS (by first|rfl|(rw [hg2];rfl)|rw [hg2]) (sN)))))))))))))))))))))) (List.Sublist.refl _)))))
     exact AH (v:=(Value.bool ((decide (wy=7))&&(decide (i=0))))) (AP O O) O (AE.nil (AC.mid (sS O (sS O (sS O (sS O (sS O (sS O (sS O (sS O (sS O (sS O (sS O (sS O (sS O (sS O (sS O (sS O (sS (by first|rfl|(rw [hg1];rfl)|rw [hg1]) (sS (by first|rfl|(rw [hg1];rfl)|rw [hg1]) (sN))))))))))))))))))) (List.Sublist.refl _)))
   refine asg' O (AE.nil (AC.subF (sL [1,2,3,4,6,5,7,8,9,10,11,12,13,14,75] O) (AC.then_ ?_)))
   refine AF.cond O (λhc2=>?_) (λhc2=>?_)
   ·simp only [Bool.and_eq_true,Bool.or_eq_true,Bool.and_eq_false_iff,Bool.or_eq_false_iff,Bool.not_eq_true',Bool.not_eq_false',decide_eq_true_eq,decide_eq_false_iff_not] at hc2
    have hcell:=Yf hu hv (way:=wy) (by simpa using hc2)
    refine AF.region (AM O (BD 4 Bq O (BD 3 Bq O (BD 2 Bq O (AH (v:=(aG (BI ((2*u,2*v),((2*u)+2,2*v),((2*u)+2,(2*v)+2))))) (A6 (zs:=BI (((0,0),(0,0),(0,0)):P2×P2×P2)) (vs:=BI ((2*u,2*v),((2*u)+2,2*v),((2*u)+2,(2*v)+2))) (pv:=[(0,(aG (BH (2*u,2*v)))),(1,(aG (BH ((2*u)+2,2*v)))),(2,(aG (BH ((2*u)+2,(2*v)+2))))]) zeroValue200 underlying200 sizeOf158 O (B6 (2*u,2*v) ((2*u)+2,2*v) ((2*u)+2,(2*v)+2))) O ?_)))))
    refine BD 4 Bq O (BD 2 Bq O (BD 1 Bq O (AH (v:=(aG (BI ((2*u,2*v),((2*u)+2,(2*v)+2),(2*u,(2*v)+2))))) (A6 (zs:=BI (((0,0),(0,0),(0,0)):P2×P2×P2)) (vs:=BI ((2*u,2*v),((2*u)+2,(2*v)+2),(2*u,(2*v)+2))) (pv:=[(0,(aG (BH (2*u,2*v)))),(1,(aG (BH ((2*u)+2,(2*v)+2)))),(2,(aG (BH (2*u,(2*v)+2))))]) zeroValue200 underlying200 sizeOf158 O (B6 (2*u,2*v) ((2*u)+2,(2*v)+2) (2*u,(2*v)+2))) O (AE.openV (V:=λb7=>(Value.slice (some ⟨b7,0,none⟩) 2 2)) (T:=200) (cs:=BI ((2*u,2*v),((2*u)+2,2*v),((2*u)+2,(2*v)+2))++BI ((2*u,2*v),((2*u)+2,(2*v)+2),(2*u,(2*v)+2))) (AS O) (Av (z:=.agg (BI (((0,0),(0,0),(0,0)):P2×P2×P2)).toArray) (cs:=BI ((2*u,2*v),((2*u)+2,2*v),((2*u)+2,(2*v)+2))++BI ((2*u,2*v),((2*u)+2,(2*v)+2),(2*u,(2*v)+2))) (pv:=[(0,(aG (BI ((2*u,2*v),((2*u)+2,2*v),((2*u)+2,(2*v)+2))))),(1,(aG (BI ((2*u,2*v),((2*u)+2,(2*v)+2),(2*u,(2*v)+2)))))]) underlying198 sizeOf200 zeroValue200 (by decide) (by decide) O (GV ((2*u,2*v),((2*u)+2,2*v),((2*u)+2,(2*v)+2)) ((2*u,2*v),((2*u)+2,(2*v)+2),(2*u,(2*v)+2)))) O (AT O) λb7=>AE.appendAt 6 (j:=0) (cs2:=rowsL BI (out++[((2*u,2*v),((2*u)+2,2*v),((2*u)+2,(2*v)+2)),((2*u,2*v),((2*u)+2,(2*v)+2),(2*u,(2*v)+2))])) UM O ho (Ak Fk _) O O O O O (by decide) (Hx Z) Z (by rw [BP];rfl) O λp_1 c_1 ho_1 hne_1=>?_))))
    refine asg' O (AE.nil (AC.subF (sL [1,2,3,4,6,5,7,8,9,10,11,12,13,14] O) (AC.in_normal (AC.in_normal (AC.then_ ?_)))))
    refine AF.region (AM O (AH (AW (c:=((i+1:Nat):Int)) O O (AU (a:=i) (b:=1) Z)) O (asg' O (AE.nil (AC.subF (sL [1,2,3,4,6,5,7,8,9,10,11,12,13,14] O) ?_)))))
    rw [show out.length+2=(out++[((2*u,2*v),((2*u)+2,2*v),((2*u)+2,(2*v)+2)),((2*u,2*v),((2*u)+2,(2*v)+2),(2*u,(2*v)+2))]).length by simp]
    exact AC.round4 (i+1) p_1 c_1 (out++[((2*u,2*v),((2*u)+2,2*v),((2*u)+2,(2*v)+2)),((2*u,2*v),((2*u)+2,(2*v)+2),(2*u,(2*v)+2))]) (⟨Z,(by simpa using ho_1),by rw [hout];show _=EP m i++Cu (F0 m) (Gg m i) i;rw [<-hX,<-hw,hcell]⟩) Z (sF O) (sl (sl (sl (sl (sl (sl sr))))))
   ·simp only [Bool.and_eq_true,Bool.or_eq_true,Bool.and_eq_false_iff,Bool.or_eq_false_iff,Bool.not_eq_true',Bool.not_eq_false',decide_eq_true_eq,decide_eq_false_iff_not] at hc2
    have h20:¬(wy<3\/(wy=7/\i=0)):=by simp at hc2;omega
    refine q4 (AM O (AH (Ae (c:=(decide (wy<5))) O O (CL (a:=wy) (b:=5))) O (asg' O (AE.nil (AC.subF (sL [1,2,3,4,6,5,7,8,9,10,11,12,13,14,97] O) ?_)))))
    refine AC.then_ ?_
    refine AF.cond O (λhc3=>?_) (λhc3=>?_)
    ·replace hc3:=of_decide_eq_true hc3
     have hcell:=XJ hu hv h20 (by simpa using hc3)
     refine AF.region (AM O (BD 4 Bq O (BD 3 Bq O (BD 1 Bq O (AH (v:=(aG (BI ((2*u,2*v),((2*u)+2,2*v),(2*u,(2*v)+2))))) (A6 (zs:=BI (((0,0),(0,0),(0,0)):P2×P2×P2)) (vs:=BI ((2*u,2*v),((2*u)+2,2*v),(2*u,(2*v)+2))) (pv:=[(0,(aG (BH (2*u,2*v)))),(1,(aG (BH ((2*u)+2,2*v)))),(2,(aG (BH (2*u,(2*v)+2))))]) zeroValue200 underlying200 sizeOf158 O (B6 (2*u,2*v) ((2*u)+2,2*v) (2*u,(2*v)+2))) O ?_)))))
     refine BD 3 Bq O (BD 2 Bq O (BD 1 Bq O (AH (v:=(aG (BI (((2*u)+2,2*v),((2*u)+2,(2*v)+2),(2*u,(2*v)+2))))) (A6 (zs:=BI (((0,0),(0,0),(0,0)):P2×P2×P2)) (vs:=BI (((2*u)+2,2*v),((2*u)+2,(2*v)+2),(2*u,(2*v)+2))) (pv:=[(0,(aG (BH ((2*u)+2,2*v)))),(1,(aG (BH ((2*u)+2,(2*v)+2)))),(2,(aG (BH (2*u,(2*v)+2))))]) zeroValue200 underlying200 sizeOf158 O (B6 ((2*u)+2,2*v) ((2*u)+2,(2*v)+2) (2*u,(2*v)+2))) O (AE.openV (V:=λb7=>(Value.slice (some ⟨b7,0,none⟩) 2 2)) (T:=200) (cs:=BI ((2*u,2*v),((2*u)+2,2*v),(2*u,(2*v)+2))++BI (((2*u)+2,2*v),((2*u)+2,(2*v)+2),(2*u,(2*v)+2))) (AS O) (Av (z:=.agg (BI (((0,0),(0,0),(0,0)):P2×P2×P2)).toArray) (cs:=BI ((2*u,2*v),((2*u)+2,2*v),(2*u,(2*v)+2))++BI (((2*u)+2,2*v),((2*u)+2,(2*v)+2),(2*u,(2*v)+2))) (pv:=[(0,(aG (BI ((2*u,2*v),((2*u)+2,2*v),(2*u,(2*v)+2))))),(1,(aG (BI (((2*u)+2,2*v),((2*u)+2,(2*v)+2),(2*u,(2*v)+2)))))]) underlying198 sizeOf200 zeroValue200 (by decide) (by decide) O (GV ((2*u,2*v),((2*u)+2,2*v),(2*u,(2*v)+2)) (((2*u)+2,2*v),((2*u)+2,(2*v)+2),(2*u,(2*v)+2)))) O (AT O) λb7=>AE.appendAt 6 (j:=0) (cs2:=rowsL BI (out++[((2*u,2*v),((2*u)+2,2*v),(2*u,(2*v)+2)),(((2*u)+2,2*v),((2*u)+2,(2*v)+2),(2*u,(2*v)+2))])) UM O ho (Ak Fk _) O O O O O (by decide) (Hx Z) Z (by rw [BP];rfl) O λp_2 c_2 ho_2 hne_2=>?_))))
     refine asg' O (AE.nil (AC.subF (sL [1,2,3,4,6,5,7,8,9,10,11,12,13,14] O) (AC.in_normal (AC.in_normal (AC.then_ ?_)))))
     refine AF.region (AM O (AH (AW (c:=((i+1:Nat):Int)) O O (AU (a:=i) (b:=1) Z)) O (asg' O (AE.nil (AC.subF (sL [1,2,3,4,6,5,7,8,9,10,11,12,13,14] O) ?_)))))
     rw [show out.length+2=(out++[((2*u,2*v),((2*u)+2,2*v),(2*u,(2*v)+2)),(((2*u)+2,2*v),((2*u)+2,(2*v)+2),(2*u,(2*v)+2))]).length by simp]
     exact AC.round4 (i+1) p_2 c_2 (out++[((2*u,2*v),((2*u)+2,2*v),(2*u,(2*v)+2)),(((2*u)+2,2*v),((2*u)+2,(2*v)+2),(2*u,(2*v)+2))]) (⟨Z,(by simpa using ho_2),by rw [hout];show _=EP m i++Cu (F0 m) (Gg m i) i;rw [<-hX,<-hw,hcell]⟩) Z (sF O) (sl (sl (sl (sl (sl (sl sr))))))
    ·replace hc3:=of_decide_eq_false hc3
     have h30:¬wy<5:=by simpa using hc3
     refine q4 (AM O (AH (Ae (c:=(decide (wy<7))) O O (CL (a:=wy) (b:=7))) O (asg' O (AE.nil (AC.subF (sL [1,2,3,4,6,5,7,8,9,10,11,12,13,14,111] O) ?_)))))
     refine AC.then_ ?_
     refine AF.cond O (λhc4=>?_) (λhc4=>?_)
     ·replace hc4:=of_decide_eq_true hc4
      have hcell:=XP hu hv h20 h30 (by simpa using hc4)
      refine AF.region (AM O (BD 4 Bq O (BD 3 Bq O (BD 0 Bq O (AH (v:=(aG (BI ((2*u,2*v),((2*u)+2,2*v),((2*u)+1,(2*v)+1))))) (A6 (zs:=BI (((0,0),(0,0),(0,0)):P2×P2×P2)) (vs:=BI ((2*u,2*v),((2*u)+2,2*v),((2*u)+1,(2*v)+1))) (pv:=[(0,(aG (BH (2*u,2*v)))),(1,(aG (BH ((2*u)+2,2*v)))),(2,(aG (BH ((2*u)+1,(2*v)+1))))]) zeroValue200 underlying200 sizeOf158 O (B6 (2*u,2*v) ((2*u)+2,2*v) ((2*u)+1,(2*v)+1))) O ?_)))))
      refine BD 3 Bq O (BD 2 Bq O (BD 0 Bq O (AH (v:=(aG (BI (((2*u)+2,2*v),((2*u)+2,(2*v)+2),((2*u)+1,(2*v)+1))))) (A6 (zs:=BI (((0,0),(0,0),(0,0)):P2×P2×P2)) (vs:=BI (((2*u)+2,2*v),((2*u)+2,(2*v)+2),((2*u)+1,(2*v)+1))) (pv:=[(0,(aG (BH ((2*u)+2,2*v)))),(1,(aG (BH ((2*u)+2,(2*v)+2)))),(2,(aG (BH ((2*u)+1,(2*v)+1))))]) zeroValue200 underlying200 sizeOf158 O (B6 ((2*u)+2,2*v) ((2*u)+2,(2*v)+2) ((2*u)+1,(2*v)+1))) O (BD 2 Bq O (BD 1 Bq O ?_)))))
      refine BD 0 Bq O (AH (v:=(aG (BI (((2*u)+2,(2*v)+2),(2*u,(2*v)+2),((2*u)+1,(2*v)+1))))) (A6 (zs:=BI (((0,0),(0,0),(0,0)):P2×P2×P2)) (vs:=BI (((2*u)+2,(2*v)+2),(2*u,(2*v)+2),((2*u)+1,(2*v)+1))) (pv:=[(0,(aG (BH ((2*u)+2,(2*v)+2)))),(1,(aG (BH (2*u,(2*v)+2)))),(2,(aG (BH ((2*u)+1,(2*v)+1))))]) zeroValue200 underlying200 sizeOf158 O (B6 ((2*u)+2,(2*v)+2) (2*u,(2*v)+2) ((2*u)+1,(2*v)+1))) O (BD 1 Bq O (BD 4 Bq O (BD 0 Bq O (AH (v:=(aG (BI ((2*u,(2*v)+2),(2*u,2*v),((2*u)+1,(2*v)+1))))) (A6 (zs:=BI (((0,0),(0,0),(0,0)):P2×P2×P2)) (vs:=BI ((2*u,(2*v)+2),(2*u,2*v),((2*u)+1,(2*v)+1))) (pv:=[(0,(aG (BH (2*u,(2*v)+2)))),(1,(aG (BH (2*u,2*v)))),(2,(aG (BH ((2*u)+1,(2*v)+1))))]) zeroValue200 underlying200 sizeOf158 O (B6 (2*u,(2*v)+2) (2*u,2*v) ((2*u)+1,(2*v)+1))) O ?_)))))
      refine AE.openV (V:=λb7=>(Value.slice (some ⟨b7,0,none⟩) 4 4)) (T:=200) (cs:=BI ((2*u,2*v),((2*u)+2,2*v),((2*u)+1,(2*v)+1))++BI (((2*u)+2,2*v),((2*u)+2,(2*v)+2),((2*u)+1,(2*v)+1))++BI (((2*u)+2,(2*v)+2),(2*u,(2*v)+2),((2*u)+1,(2*v)+1))++BI ((2*u,(2*v)+2),(2*u,2*v),((2*u)+1,(2*v)+1))) (AS O) (Av (z:=.agg (BI (((0,0),(0,0),(0,0)):P2×P2×P2)).toArray) (cs:=BI ((2*u,2*v),((2*u)+2,2*v),((2*u)+1,(2*v)+1))++BI (((2*u)+2,2*v),((2*u)+2,(2*v)+2),((2*u)+1,(2*v)+1))++BI (((2*u)+2,(2*v)+2),(2*u,(2*v)+2),((2*u)+1,(2*v)+1))++BI ((2*u,(2*v)+2),(2*u,2*v),((2*u)+1,(2*v)+1))) (pv:=[(0,(aG (BI ((2*u,2*v),((2*u)+2,2*v),((2*u)+1,(2*v)+1))))),(1,(aG (BI (((2*u)+2,2*v),((2*u)+2,(2*v)+2),((2*u)+1,(2*v)+1))))),(2,(aG (BI (((2*u)+2,(2*v)+2),(2*u,(2*v)+2),((2*u)+1,(2*v)+1))))),(3,(aG (BI ((2*u,(2*v)+2),(2*u,2*v),((2*u)+1,(2*v)+1)))))]) underlying198 sizeOf200 zeroValue200 (by decide) (by decide) O (JX ((2*u,2*v),((2*u)+2,2*v),((2*u)+1,(2*v)+1)) (((2*u)+2,2*v),((2*u)+2,(2*v)+2),((2*u)+1,(2*v)+1)) (((2*u)+2,(2*v)+2),(2*u,(2*v)+2),((2*u)+1,(2*v)+1)) ((2*u,(2*v)+2),(2*u,2*v),((2*u)+1,(2*v)+1)))) O (AT O) λb7=>AE.appendAt 6 (j:=0) (cs2:=rowsL BI (out++[((2*u,2*v),((2*u)+2,2*v),((2*u)+1,(2*v)+1)),(((2*u)+2,2*v),((2*u)+2,(2*v)+2),((2*u)+1,(2*v)+1)),(((2*u)+2,(2*v)+2),(2*u,(2*v)+2),((2*u)+1,(2*v)+1)),((2*u,(2*v)+2),(2*u,2*v),((2*u)+1,(2*v)+1))])) UM O ho (Ak Fk _) O O O O O (by decide) (Hx Z) Z (by rw [BP];rfl) O λp_3 c_3 ho_3 hne_3=>asg' O (AE.nil (AC.subF (sL [1,2,3,4,6,5,7,8,9,10,11,12,13,14] O) (AC.in_normal ?_)))
      refine AC.in_normal (AC.then_ (AF.region (AM O (AH (AW (c:=((i+1:Nat):Int)) O O (AU (a:=i) (b:=1) Z)) O (asg' O ?_)))))
      refine AE.nil (AC.subF (sL [1,2,3,4,6,5,7,8,9,10,11,12,13,14] O) ?_)
      rw [show out.length+4=(out++[((2*u,2*v),((2*u)+2,2*v),((2*u)+1,(2*v)+1)),(((2*u)+2,2*v),((2*u)+2,(2*v)+2),((2*u)+1,(2*v)+1)),(((2*u)+2,(2*v)+2),(2*u,(2*v)+2),((2*u)+1,(2*v)+1)),((2*u,(2*v)+2),(2*u,2*v),((2*u)+1,(2*v)+1))]).length by simp]
      exact AC.round4 (i+1) p_3 c_3 (out++[((2*u,2*v),((2*u)+2,2*v),((2*u)+1,(2*v)+1)),(((2*u)+2,2*v),((2*u)+2,(2*v)+2),((2*u)+1,(2*v)+1)),(((2*u)+2,(2*v)+2),(2*u,(2*v)+2),((2*u)+1,(2*v)+1)),((2*u,(2*v)+2),(2*u,2*v),((2*u)+1,(2*v)+1))]) (⟨Z,(by simpa using ho_3),by rw [hout];show _=EP m i++Cu (F0 m) (Gg m i) i;rw [<-hX,<-hw,hcell]⟩) Z (sF O) (sl (sl (sl (sl (sl (sl sr))))))
     ·replace hc4:=of_decide_eq_false hc4
      have hcell:Cu X wy i=[]:=XQ h20 h30 (by simpa using hc4)
      refine AF.skip (AC.in_normal (AC.in_normal (AC.then_ (AF.region (AM O ?_)))))
      exact AH (AW (c:=((i+1:Nat):Int)) O O (AU (a:=i) (b:=1) Z)) O (asg' O (AE.nil (AC.subF (sL [1,2,3,4,6,5,7,8,9,10,11,12,13,14] O) (AC.round4 (i+1) p c out (⟨Z,(by simpa using ho),by rw [hout];show _=EP m i++Cu (F0 m) (Gg m i) i;rw [<-hX,<-hw,hcell];simp⟩) Z (sF O) (sl (sl (sl (sl (sl sr)))))))))
 ·replace hc0:=of_decide_eq_false hc0
  have hfin:out=BE m:=by rw [hout];unfold BE;rw [<-hX,<-hY,show i=X*Y by omega]
  refine AF.exit (AC.then_exit (AC.round4_exit (AC.in_exit (q2 (AM O ?_)))))
  exact asg' O (AE.nil (AC.subF (sL [1,2,3,4,6,5] O) (AC.then_ (AF.ret (AI O (AY (v:=(Value.slice p out.length c)) O) (λw hw=>(by rw [<-hfin];exact YS hw 0 O ho (Ak Fk _) O)))))))
theorem GY (x0 x1 x2 x3:Int):Instr.fill (λi=>some (i*1,1)) (Wp ((0,0,0,0):Int×Int×Int×Int)).toArray [(0,.int .i64 x0),(1,.int .i64 x1),(2,.int .i64 x2),(3,.int .i64 x3)]=some (Wp (x0,x1,x2,x3)).toArray:=by kernel_rfl
theorem GW (x0 x1:Int):Instr.fill (λi=>some (i*1,1)) (CG ((0,0):Int×Int)).toArray [(0,.int .i64 x0),(1,.int .i64 x1)]=some (CG (x0,x1)).toArray:=by kernel_rfl
theorem Ie (m:MQ) (p:P2) (hp:p.1<=6/\p.2<=6) (w:World) {S:Nat->Prop} (hm:Ro S w m):Calls prog 120 #[(aG (DZ m)),(aG (BH p))] w (An w (aG (CG ((F8 m.a m.b m.c m.d).at_ p)))):=by
 obtain ⟨A,hA⟩:∃A,A=m.a.tmod 4:=⟨_,rfl⟩
 obtain ⟨B,hB⟩:∃A,A=m.b.tmod 4:=⟨_,rfl⟩
 obtain ⟨C,hC⟩:∃A,A=m.c.tmod 4:=⟨_,rfl⟩
 obtain ⟨D,hD⟩:∃A,A=m.d.tmod 4:=⟨_,rfl⟩
 have kA:=JN m.a
 have kB:=JN m.b
 have kC:=JN m.c
 have kD:=JN m.d
 rw [<-hA] at kA
 rw [<-hB] at kB
 rw [<-hC] at kC
 rw [<-hD] at kD
 have e1:=DD kA (k:=3) kD
 have e2:=DD kB (k:=3) kC
 have lm:=Cl (W:=w) hm
 refine Ah (args:=[(aG (DZ m)),(aG (BH p))]) (L:=[AQ m.p (CF m.cs)]) func120 O O (AT O) (Ed hm Ax) (AF.subF (sL [0,1] O) (q4 (BU (cs:=DZ m) O λb1=>BU (cs:=BH p) O λb2=>al bC O λb3=>?_)))
 refine q3 (sL [2,3,4] O) (AH (v:=(pP b1 3)) (AA O underlying66 O sizeOf64 O) O (AH (v:=(pP b1 3)) (AD (j:=0) O O underlying64 sizeOf63 O (by decide) O) O (BA 2 (Value.int .i8 m.a) YX O (AH (Bs (c:=A) O O (by decide) hA.symm) O (AH (Ay (c:=A) O underlying63 underlying2 (A_ Z Z)) O ?_)))))
 refine AH (v:=(pP b1 3)) (AA O underlying66 O sizeOf64 O) O (AH (v:=(pP b1 4)) (AD (j:=1) O O underlying64 sizeOf63 O (by decide) O) O (BA 2 (Value.int .i8 m.b) YX O (AH (Bs (c:=B) O O (by decide) hB.symm) O (AH (Ay (c:=B) O underlying63 underlying2 (A_ Z Z)) O (AH (v:=(pP b1 3)) (AA O underlying66 O sizeOf64 O) O ?_)))))
 refine AH (v:=(pP b1 5)) (AD (j:=2) O O underlying64 sizeOf63 O (by decide) O) O (BA 2 (Value.int .i8 m.c) YX O (AH (Bs (c:=C) O O (by decide) hC.symm) O (AH (Ay (c:=C) O underlying63 underlying2 (A_ Z Z)) O (AH (v:=(pP b1 3)) (AA O underlying66 O sizeOf64 O) O (AH (v:=(pP b1 6)) (AD (j:=3) O O underlying64 sizeOf63 O (by decide) O) O ?_)))))
 refine BA 2 (Value.int .i8 m.d) YX O (AH (Bs (c:=D) O O (by decide) hD.symm) O (AH (Ay (c:=D) O underlying63 underlying2 (A_ Z Z)) O (AH (v:=(aG (Wp (A,B,C,D)))) (A6 (zs:=Wp ((0,0,0,0):Int×Int×Int×Int)) (vs:=Wp (A,B,C,D)) (pv:=[(0,(vI A)),(1,(vI B)),(2,(vI C)),(3,(vI D))]) zeroValue260 underlying260 sizeOf2 O (GY A B C D)) O (al bB O λb4=>A8 O sizeOf260 O ?_))))
 refine q3 (sL [3,4,5] O) (AH (v:=(pP b4 0)) (AD (j:=0) O O underlying260 sizeOf2 O (by decide) O) O (BA 0 (vI A) Lh O (AH (v:=(pP b4 3)) (AD (j:=3) O O underlying260 sizeOf2 O (by decide) O) O (BA 0 (vI D) Lh O (AH (Br (c:=(A*D)) O O (A_ Z Z)) O ?_)))))
 refine AH (v:=(pP b4 1)) (AD (j:=1) O O underlying260 sizeOf2 O (by decide) O) O (BA 0 (vI B) Lh O (AH (v:=(pP b4 2)) (AD (j:=2) O O underlying260 sizeOf2 O (by decide) O) O (BA 0 (vI C) Lh O (AH (Br (c:=(B*C)) O O (A_ Z Z)) O (AH (BW (c:=(A*D-B*C)) O O (A_ Z Z)) O ?_)))))
 refine asg' O (q6 (sL [3,4,5,6] O) (q4 (AM O (AH (BL (c:=(decide ((A*D-B*C)=(0:Int)))) O O O) O (AE.nil ?_)))))
 refine AC.subF (sL [3,4,5,6,42] O) (AC.then_ ?_)
 refine AF.cond O (λhc0=>?_) (λhc0=>?_)
 ·replace hc0:=of_decide_eq_true hc0
  have hz0:=hc0
  refine AF.region (AH (v:=(aG (Wp ((1:Int),(0:Int),(0:Int),(1:Int))))) (A6 (zs:=Wp ((0,0,0,0):Int×Int×Int×Int)) (vs:=Wp ((1:Int),(0:Int),(0:Int),(1:Int))) (pv:=[(0,(vI 1)),(1,(vI 0)),(2,(vI 0)),(3,(vI 1))]) zeroValue260 underlying260 sizeOf2 O (GY (1:Int) (0:Int) (0:Int) (1:Int))) O (A8 O sizeOf260 O (q6 (sL [3,4,5,6] O) (q4 (AM O ?_)))))
  refine AH (Ae (c:=(decide ((A*D-B*C)<(0:Int)))) O O O) O (AE.nil (AC.subF (sL [3,4,5,6,45] O) (AC.then_ ?_)))
  refine AF.jn1 (tg λ(K:DH)=>K=F8 m.a m.b m.c m.d) (tg λ(K:DH)=>[(3,(pP b2 0)),(4,(pP b3 0)),(5,(pP b4 0))]) (tg λ(K:DH)=>[Ag b4 260 (Wp (K.a,K.b,K.c,K.d)),Ag b3 139 (CG ((0,0):Int×Int)),Ag b2 158 (BH p),Ag b1 66 (DZ m),AQ m.p (CF m.cs)]) ?_ ?_
  ·skip
   refine AF.cond O (λhc1=>?_) (λhc1=>?_)
   ·replace hc1:=of_decide_eq_true hc1
    refine q4 (AH (v:=(pP b4 2)) (AD (j:=2) O O underlying260 sizeOf2 O (by decide) O) O (BA 0 (vI (0:Int)) Lh O (AH (I1 (c:=(-C)) O (by first|(exfalso;omega)|(rw [Int.zero_sub];exact A_ Z Z))) O (AH (v:=(pP b4 2)) (AD (j:=2) O O underlying260 sizeOf2 O (by decide) O) O (Eg 0 (off:=2) (vs:=[(vI (-C))]) (cs':=[(vI (1:Int)),(vI (0:Int)),(vI (-C)),(vI (1:Int))]) (AS O) O sizeOf2 O ?_)))))
    refine AE.nil (AC.subF (sL [3,4,5,6] O) (AC.then_ (AF.region (AH (v:=(pP b4 3)) (AD (j:=3) O O underlying260 sizeOf2 O (by decide) O) O (BA 0 (vI (1:Int)) Lh O ?_)))))
    exact AH (I1 (c:=(-D)) O (by first|(exfalso;omega)|(rw [Int.zero_sub];exact A_ Z Z))) O (AH (v:=(pP b4 3)) (AD (j:=3) O O underlying260 sizeOf2 O (by decide) O) O (Eg 0 (off:=3) (vs:=[(vI (-D))]) (cs':=[(vI (1:Int)),(vI (0:Int)),(vI (-C)),(vI (-D))]) (AS O) O sizeOf2 O (AE.nil (AC.subF (sL [3,4,5,6] O) (AC.join1 (DH.mk (1:Int) (0:Int) (-C) (-D)) ((by first|(exfalso;omega)|exact (Nu hA hB hC hD hz0).symm|exact (No hA hB hC hD hc1).symm|exact (Mv hA hB hC hD hz0 hc1).symm)) (sF O) sr)))))
   ·replace hc1:=of_decide_eq_false hc1
    exact AF.skip (AC.join1 (DH.mk (1:Int) (0:Int) (0:Int) (1:Int)) ((by first|(exfalso;omega)|exact (Nu hA hB hC hD hz0).symm|exact (No hA hB hC hD hc1).symm|exact (Mv hA hB hC hD hz0 hc1).symm)) (sF O) sr)
  ·intro K hJ
   have hK:=hJ
   have kk:=Em m.a m.b m.c m.d
   rw [<-hK] at kk
   have qz0:=DD kk.a (k:=6) (b:=(p.1:Int)) Z
   have qz1:=DD kk.b (k:=6) (b:=(p.2:Int)) Z
   have qz2:=DD kk.c (k:=6) (b:=(p.1:Int)) Z
   have qz3:=DD kk.d (k:=6) (b:=(p.2:Int)) Z
   refine q2 (AH (v:=(pP b2 0)) (AD (j:=0) O O underlying158 sizeOf3 O (by decide) O) O (BA 2 (vN p.1) Bj O (asg' O (q3 (sL [3,4,5,7] O) (AH (v:=(pP b2 1)) (AD (j:=1) O O underlying158 sizeOf3 O (by decide) O) O ?_)))))
   refine BA 2 (vN p.2) Bj O (asg' O (q3 (sL [3,4,5,7,8] O) (AH (v:=(pP b4 0)) (AD (j:=0) O O underlying260 sizeOf2 O (by decide) O) O (BA 0 (vI K.a) Lh O (AM O ?_)))))
   refine AH (Br (c:=(K.a*(p.1:Int))) O O (A_ Z Z)) O (AH (v:=(pP b4 1)) (AD (j:=1) O O underlying260 sizeOf2 O (by decide) O) O (BA 0 (vI K.b) Lh O (AM O (AH (Br (c:=(K.b*(p.2:Int))) O O (A_ Z Z)) O (AH (AW (c:=(K.a*(p.1:Int)+K.b*(p.2:Int))) O O (A_ Z Z)) O ?_)))))
   refine AH (v:=(pP b4 2)) (AD (j:=2) O O underlying260 sizeOf2 O (by decide) O) O (BA 0 (vI K.c) Lh O (AM O (AH (Br (c:=(K.c*(p.1:Int))) O O (A_ Z Z)) O (AH (v:=(pP b4 3)) (AD (j:=3) O O underlying260 sizeOf2 O (by decide) O) O (BA 0 (vI K.d) Lh O ?_)))))
   refine AM O (AH (Br (c:=(K.d*(p.2:Int))) O O (A_ Z Z)) O (AH (AW (c:=(K.c*(p.1:Int)+K.d*(p.2:Int))) O O (A_ Z Z)) O (AH (v:=(aG (CG (K.a*(p.1:Int)+K.b*(p.2:Int),K.c*(p.1:Int)+K.d*(p.2:Int))))) (A6 (zs:=CG ((0,0):Int×Int)) (vs:=CG (K.a*(p.1:Int)+K.b*(p.2:Int),K.c*(p.1:Int)+K.d*(p.2:Int))) (pv:=[(0,(vI (K.a*(p.1:Int)+K.b*(p.2:Int)))),(1,(vI (K.c*(p.1:Int)+K.d*(p.2:Int))))]) zeroValue139 underlying139 sizeOf2 O (GW (K.a*(p.1:Int)+K.b*(p.2:Int)) (K.c*(p.1:Int)+K.d*(p.2:Int)))) O (Cm O sizeOf139 O (AE.nil ?_)))))
   exact AC.subF (sL [3,4,5] O) (AC.then_ (AF.ret (AI O (Ap (i:=1) (cs:=CG (K.a*(p.1:Int)+K.b*(p.2:Int),K.c*(p.1:Int)+K.d*(p.2:Int))) O O isAgg139 sizeOf139 O) (λw hw=>⟨by rw [<-hK];rfl,hw.out⟩))))
 ·replace hc0:=of_decide_eq_false hc0
  have hz0:=hc0
  refine AF.skip (q1 (q4 (AM O (AH (Ae (c:=(decide ((A*D-B*C)<(0:Int)))) O O O) O (AE.nil ?_)))))
  refine AC.subF (sL [3,4,5,6,45] O) (AC.then_ ?_)
  refine AF.jn1 (tg λ(K:DH)=>K=F8 m.a m.b m.c m.d) (tg λ(K:DH)=>[(3,(pP b2 0)),(4,(pP b3 0)),(5,(pP b4 0))]) (tg λ(K:DH)=>[Ag b4 260 (Wp (K.a,K.b,K.c,K.d)),Ag b3 139 (CG ((0,0):Int×Int)),Ag b2 158 (BH p),Ag b1 66 (DZ m),AQ m.p (CF m.cs)]) ?_ ?_
  ·skip
   refine AF.cond O (λhc1=>?_) (λhc1=>?_)
   ·replace hc1:=of_decide_eq_true hc1
    refine q4 (AH (v:=(pP b4 2)) (AD (j:=2) O O underlying260 sizeOf2 O (by decide) O) O (BA 0 (vI C) Lh O (AH (I1 (c:=(-C)) O (by first|(exfalso;omega)|(rw [Int.zero_sub];exact A_ Z Z))) O (AH (v:=(pP b4 2)) (AD (j:=2) O O underlying260 sizeOf2 O (by decide) O) O (Eg 0 (off:=2) (vs:=[(vI (-C))]) (cs':=[(vI A),(vI B),(vI (-C)),(vI D)]) (AS O) O sizeOf2 O ?_)))))
    refine AE.nil (AC.subF (sL [3,4,5,6] O) (AC.then_ (AF.region (AH (v:=(pP b4 3)) (AD (j:=3) O O underlying260 sizeOf2 O (by decide) O) O (BA 0 (vI D) Lh O ?_)))))
    exact AH (I1 (c:=(-D)) O (by first|(exfalso;omega)|(rw [Int.zero_sub];exact A_ Z Z))) O (AH (v:=(pP b4 3)) (AD (j:=3) O O underlying260 sizeOf2 O (by decide) O) O (Eg 0 (off:=3) (vs:=[(vI (-D))]) (cs':=[(vI A),(vI B),(vI (-C)),(vI (-D))]) (AS O) O sizeOf2 O (AE.nil (AC.subF (sL [3,4,5,6] O) (AC.join1 (DH.mk A B (-C) (-D)) ((by first|(exfalso;omega)|exact (Nu hA hB hC hD hz0).symm|exact (No hA hB hC hD hc1).symm|exact (Mv hA hB hC hD hz0 hc1).symm)) (sF O) sr)))))
   ·replace hc1:=of_decide_eq_false hc1
    exact AF.skip (AC.join1 (DH.mk A B C D) ((by first|(exfalso;omega)|exact (Nu hA hB hC hD hz0).symm|exact (No hA hB hC hD hc1).symm|exact (Mv hA hB hC hD hz0 hc1).symm)) (sF O) sr)
  ·intro K hJ
   have hK:=hJ
   have kk:=Em m.a m.b m.c m.d
   rw [<-hK] at kk
   have qz0:=DD kk.a (k:=6) (b:=(p.1:Int)) Z
   have qz1:=DD kk.b (k:=6) (b:=(p.2:Int)) Z
   have qz2:=DD kk.c (k:=6) (b:=(p.1:Int)) Z
   have qz3:=DD kk.d (k:=6) (b:=(p.2:Int)) Z
   refine q2 (AH (v:=(pP b2 0)) (AD (j:=0) O O underlying158 sizeOf3 O (by decide) O) O (BA 2 (vN p.1) Bj O (asg' O (q3 (sL [3,4,5,7] O) (AH (v:=(pP b2 1)) (AD (j:=1) O O underlying158 sizeOf3 O (by decide) O) O ?_)))))
   refine BA 2 (vN p.2) Bj O (asg' O (q3 (sL [3,4,5,7,8] O) (AH (v:=(pP b4 0)) (AD (j:=0) O O underlying260 sizeOf2 O (by decide) O) O (BA 0 (vI K.a) Lh O (AM O ?_)))))
   refine AH (Br (c:=(K.a*(p.1:Int))) O O (A_ Z Z)) O (AH (v:=(pP b4 1)) (AD (j:=1) O O underlying260 sizeOf2 O (by decide) O) O (BA 0 (vI K.b) Lh O (AM O (AH (Br (c:=(K.b*(p.2:Int))) O O (A_ Z Z)) O (AH (AW (c:=(K.a*(p.1:Int)+K.b*(p.2:Int))) O O (A_ Z Z)) O ?_)))))
   refine AH (v:=(pP b4 2)) (AD (j:=2) O O underlying260 sizeOf2 O (by decide) O) O (BA 0 (vI K.c) Lh O (AM O (AH (Br (c:=(K.c*(p.1:Int))) O O (A_ Z Z)) O (AH (v:=(pP b4 3)) (AD (j:=3) O O underlying260 sizeOf2 O (by decide) O) O (BA 0 (vI K.d) Lh O ?_)))))
   refine AM O (AH (Br (c:=(K.d*(p.2:Int))) O O (A_ Z Z)) O (AH (AW (c:=(K.c*(p.1:Int)+K.d*(p.2:Int))) O O (A_ Z Z)) O (AH (v:=(aG (CG (K.a*(p.1:Int)+K.b*(p.2:Int),K.c*(p.1:Int)+K.d*(p.2:Int))))) (A6 (zs:=CG ((0,0):Int×Int)) (vs:=CG (K.a*(p.1:Int)+K.b*(p.2:Int),K.c*(p.1:Int)+K.d*(p.2:Int))) (pv:=[(0,(vI (K.a*(p.1:Int)+K.b*(p.2:Int)))),(1,(vI (K.c*(p.1:Int)+K.d*(p.2:Int))))]) zeroValue139 underlying139 sizeOf2 O (GW (K.a*(p.1:Int)+K.b*(p.2:Int)) (K.c*(p.1:Int)+K.d*(p.2:Int)))) O (Cm O sizeOf139 O (AE.nil ?_)))))
   exact AC.subF (sL [3,4,5] O) (AC.then_ (AF.ret (AI O (Ap (i:=1) (cs:=CG (K.a*(p.1:Int)+K.b*(p.2:Int),K.c*(p.1:Int)+K.d*(p.2:Int))) O O isAgg139 sizeOf139 O) (λw hw=>⟨by rw [<-hK];rfl,hw.out⟩))))
end
end Go.Proofs.YtpgncndhhhllfaaGreatDoor
