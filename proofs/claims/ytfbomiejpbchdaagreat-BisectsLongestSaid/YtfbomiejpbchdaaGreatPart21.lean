import Derived.Test.YtfbomiejpbchdaaGreatPart06
import Derived.Test.YtfbomiejpbchdaaGreatPart08
import Derived.Test.YtfbomiejpbchdaaGreatPart20
namespace Go.Proofs.YtfbomiejpbchdaaGreat
open Go Go.RowKit Go.Proofs.Tryz
set_option linter.unusedVariables false
set_option linter.unusedSimpArgs false
section
set_option maxRecDepth 100000
theorem SV:ElemT prog 187 189 6 48:=⟨underlying187,EU (by kernel_rfl)⟩
theorem C5 (x0 x1:Nat):Instr.fill (λi=>some (i*1,1)) (Ay ((0,0):P2)).toArray [(0,vN x0),(1,vN x1)]=some (Ay (x0,x1)).toArray:=by kernel_rfl
theorem B8 (x0 x1 x2:P2):Instr.fill (λi=>some (i*2,2)) (BE (((0,0),(0,0),(0,0)):P2×P2×P2)).toArray [(0,.agg (Ay x0).toArray),(1,.agg (Ay x1).toArray),(2,.agg (Ay x2).toArray)]=some (BE (x0,x1,x2)).toArray:=by kernel_rfl
theorem GH (x0 x1:P2×P2×P2):Instr.fill (λi=>some (i*6,6)) ((Array.range (2*6)).map ((Value.agg (BE (((0,0),(0,0),(0,0)):P2×P2×P2)).toArray).cells[·%(Value.agg (BE (((0,0),(0,0),(0,0)):P2×P2×P2)).toArray).cells.size]!)) [(0,.agg (BE x0).toArray),(1,.agg (BE x1).toArray)]=some (BE x0++BE x1).toArray:=by kernel_rfl
theorem JI (x0 x1 x2 x3:P2×P2×P2):Instr.fill (λi=>some (i*6,6)) ((Array.range (4*6)).map ((Value.agg (BE (((0,0),(0,0),(0,0)):P2×P2×P2)).toArray).cells[·%(Value.agg (BE (((0,0),(0,0),(0,0)):P2×P2×P2)).toArray).cells.size]!)) [(0,.agg (BE x0).toArray),(1,.agg (BE x1).toArray),(2,.agg (BE x2).toArray),(3,.agg (BE x3).toArray)]=some (BE x0++BE x1++BE x2++BE x3).toArray:=by kernel_rfl
set_option maxHeartbeats 1000000 in
theorem RN (m:MQ) (w:World) {S:Nat->Prop} (hm:Ro S w m):Calls prog 112 #[(aG (Er m))] w (BV (RX (rowsL BE (BD m)) (BD m).length) S w):=by
 obtain ⟨X,hX⟩:∃X,X=Fq m:=⟨_,rfl⟩
 obtain ⟨Y,hY⟩:∃Y,Y=R_ m:=⟨_,rfl⟩
 have hx1:=IX m
 have hy1:=Ig m
 have hxy:=I9 m
 rw [<-hX] at hx1 hxy
 rw [<-hY] at hy1 hxy
 have lm:=DU (W:=w) hm
 refine A6 (args:=[(aG (Er m))]) (L:=[AY m.p (DA m.cs)]) func112 O O (Ac O) (DV hm BN) (AF.subF (sL [0] O) (q4 (Bg (cs:=Er m) O λb1=>AL O (q3 (sL [1,2] O) ?_))))
 refine AH (v:=(pP b1 0)) (AA O underlying26 O sizeOf5 O) O (BJ 0 (vK .u8 m.nx) Sy O (AH (By (c:=((m.nx%3:Nat):Int)) O O Z (Gd (a:=m.nx) (b:=3))) O (AH (A8 (c:=((m.nx%3:Nat):Int)) O underlying5 underlying3 (CZ Z)) O (AH (AW (c:=((1+(m.nx%3):Nat):Int)) O O (AX (a:=1) (b:=m.nx%3) Z)) O (AE.retell (k:=19) (u:=(vN X)) O (by rw [hX];rfl) ?_)))))
 refine AL O (q3 (sL [1,2,3] O) (AH (v:=(pP b1 1)) (AA O underlying26 O sizeOf5 O) O (BJ 0 (vK .u8 m.ny) Sy O (AH (By (c:=((m.ny%3:Nat):Int)) O O Z (Gd (a:=m.ny) (b:=3))) O (AH (A8 (c:=((m.ny%3:Nat):Int)) O underlying5 underlying3 (CZ Z)) O ?_)))))
 refine AH (AW (c:=((1+(m.ny%3):Nat):Int)) O O (AX (a:=1) (b:=m.ny%3) Z)) O (AE.retell (k:=24) (u:=(vN Y)) O (by rw [hY];rfl) (AL O (q3 (sL [1,2,3,4] O) (AL O (AE.nilRow 189 6 ?_)))))
 refine AE.nil (q1 (q4 (AL O (AE.nil (AD.then_ ?_)))))
 refine AF.block ?_
 refine AF.lp4 (tg λ(i:Nat) (p:Option Addr) (c:Nat) (out:List (P2×P2×P2))=>i<=X*Y/\OwnOk p out.length c/\out=EC m i) (tg λ(i:Nat) (p:Option Addr) (c:Nat) (out:List (P2×P2×P2))=>[(1,(pP b1 0)),(2,(Value.slice none 0 0)),(3,(vN X)),(4,(vN Y)),(6,(vN i)),(5,(Value.slice p out.length c))]) (tg λ(i:Nat) (p:Option Addr) (c:Nat) (out:List (P2×P2×P2))=>[rowW p 189 6 out.length c (rowsL BE out),Ag b1 26 (Er m),AY m.p (DA m.cs)]) (tg λ(i:Nat) (p:Option Addr) (c:Nat) (out:List (P2×P2×P2))=>X*Y-i) 0 none 0 ([]:List (P2×P2×P2)) (⟨Z,OwnOk.none,rfl⟩) (sF O) sr (λi p c out hJ=>?_)
 obtain ⟨hi,ho,hout⟩:=hJ
 have hlen:=HU m i
 rw [<-hout] at hlen
 refine AF.seq (q4 (AS O (AS O (AS O (AH (B3 (c:=((X*Y:Nat):Int)) O O (DC (a:=X) (b:=Y) (by exact Nat.lt_of_le_of_lt hxy (by decide)))) O ?_)))))
 refine AH (Ak (c:=(decide (i<(X*Y)))) O O (C1 (a:=i) (b:=X*Y))) O (AE.nil (AD.subF (sL [1,2,3,4,6,5,29] O) (AD.then_ ?_)))
 refine AF.cond O (λhc0=>?_) (λhc0=>?_)
 ·replace hc0:=of_decide_eq_true hc0
  refine AF.skip (q1 (AF.block (q4 (AL O (AE.nil ?_)))))
  refine q1 (q4 (AH (v:=(pP b1 2)) (AA O underlying26 O sizeOf22 O) O (BJ 1 (Value.slice m.p m.cs.length m.cap) XU O (AH (v:=(vN m.cs.length)) (AG O underlying22) O (AH (CW (c:=(decide (0<m.cs.length))) O O (C1 (a:=0) (b:=m.cs.length))) O ?_)))))
  refine AE.nil (AD.subF (sL [1,2,3,4,6,5,7,35] O) (AD.then_ ?_))
  refine AF.jn1 (tg λ(wy:Nat)=>wy=GK m i) (tg λ(wy:Nat)=>[(1,(pP b1 0)),(2,(Value.slice none 0 0)),(3,(vN X)),(4,(vN Y)),(6,(vN i)),(5,(Value.slice p out.length c)),(7,(vK .u8 wy))]) (tg λ(wy:Nat)=>[rowW p 189 6 out.length c (rowsL BE out),Ag b1 26 (Er m),AY m.p (DA m.cs)]) ?_ ?_
  ·skip
   refine AF.cond O (λhc1=>?_) (λhc1=>?_)
   ·replace hc1:=of_decide_eq_true hc1
    refine Cm [(0,true),(1,true),(2,true),(3,true),(4,true),(5,true),(6,true),(7,true),(8,true),(9,true),(10,true)] sr (Au (v:=(pP b1 2)) O (AA O underlying26 O sizeOf22 O) (Be 1 (Value.slice m.p m.cs.length m.cap) XU O (Bc O (Au (v:=(pP b1 2)) O (AA O underlying26 O sizeOf22 O) (Be 1 (Value.slice m.p m.cs.length m.cap) XU O ?_)))))
    refine Au (v:=(vN m.cs.length)) O (AG O underlying22) (Au O (By (c:=((i%m.cs.length:Nat):Int)) O O Z (Gd (a:=i) (b:=m.cs.length))) (Au (v:=(pP (pB m.p) (pO m.p+(i%m.cs.length)*1))) O (AQ (j:=i%m.cs.length) O O m.ok underlying22 sizeOf5 O (by exact Nat.mod_lt _ hc1)) (Au O (Ap (v:=(vK .u8 (m.cs.getD (i%m.cs.length) 0))) (i:=2) O O (m.ok.ne (by first|exact Nat.mod_lt i hc1|exact hc1)) Sy (SQ (by first|exact Nat.mod_lt i hc1|exact hc1))) (Au O (By (c:=(((m.cs.getD (i%m.cs.length) 0)%8:Nat):Int)) O O Z (Gd (a:=m.cs.getD (i%m.cs.length) 0) (b:=8))) (Eg O ?_)))))
    exact AT.nil (AD.subF (sL [1,2,3,4,6,5,7] O) (AD.join1 ((m.cs.getD (i%m.cs.length) 0)%8) (by unfold GK;first|rw [if_pos hc1]|rw [if_neg hc1]) (sF O) sr))
   ·replace hc1:=of_decide_eq_false hc1
    exact AF.skip (AD.join1 0 (by unfold GK;first|rw [if_pos hc1]|rw [if_neg hc1]) (sF O) sr)
  ·intro wy hJ
   have hw:=hJ
   have hw8:=QJ m i
   rw [<-hw] at hw8
   refine q2 (AS O (AS O ?_))
   obtain ⟨u,hu⟩:∃u,u=i%X:=⟨_,rfl⟩
   have hu2:u<X:=by rw [hu];exact Nat.mod_lt _ Z
   refine AH (By (c:=((u:Nat):Int)) O O Z (by rw [hu];exact Gd (a:=i) (b:=X))) O (AH (B3 (c:=((2*u:Nat):Int)) O O (DC (a:=2) (b:=u) Z)) O (AL O (q3 (sL [1,2,3,4,6,5,7,8] O) (AS O (AS O ?_)))))
   obtain ⟨v,hv⟩:∃v,v=i/X:=⟨_,rfl⟩
   have hv2:v<=9:=by rw [hv];exact Nat.le_trans (Nat.div_le_self _ _) Z
   refine AH (Gr (c:=((v:Nat):Int)) O O Z (by rw [hv];exact ON (a:=i) (b:=X) Z)) O (AH (B3 (c:=((2*v:Nat):Int)) O O (DC (a:=2) (b:=v) Z)) O (AL O (q3 (sL [1,2,3,4,6,5,7,8,9] O) (AS O (AS O ?_)))))
   refine AH (v:=(aG (Ay (2*u,2*v)))) (Al (zs:=Ay ((0,0):P2)) (vs:=Ay (2*u,2*v)) (pv:=[(0,(vN (2*u))),(1,(vN (2*v)))]) zeroValue111 underlying111 sizeOf3 O (C5 (2*u) (2*v))) O (al I8 O λb2=>Aw O sizeOf111 O (q3 (sL [1,2,3,4,6,5,7,8,9,10] O) (AS O (AH (AW (c:=(((2*u)+2:Nat):Int)) O O (AX (a:=2*u) (b:=2) Z)) O ?_))))
   refine AS O (AH (v:=(aG (Ay ((2*u)+2,2*v)))) (Al (zs:=Ay ((0,0):P2)) (vs:=Ay ((2*u)+2,2*v)) (pv:=[(0,(vN ((2*u)+2))),(1,(vN (2*v)))]) zeroValue111 underlying111 sizeOf3 O (C5 ((2*u)+2) (2*v))) O (al I8 O λb3=>Aw O sizeOf111 O (q3 (sL [1,2,3,4,6,5,7,8,9,10,11] O) (AS O ?_))))
   refine AH (AW (c:=(((2*u)+2:Nat):Int)) O O (AX (a:=2*u) (b:=2) Z)) O (AS O (AH (AW (c:=(((2*v)+2:Nat):Int)) O O (AX (a:=2*v) (b:=2) Z)) O (AH (v:=(aG (Ay ((2*u)+2,(2*v)+2)))) (Al (zs:=Ay ((0,0):P2)) (vs:=Ay ((2*u)+2,(2*v)+2)) (pv:=[(0,(vN ((2*u)+2))),(1,(vN ((2*v)+2)))]) zeroValue111 underlying111 sizeOf3 O (C5 ((2*u)+2) ((2*v)+2))) O (al I8 O λb4=>Aw O sizeOf111 O ?_))))
   refine q3 (sL [1,2,3,4,6,5,7,8,9,10,11,12] O) (AS O (AS O (AH (AW (c:=(((2*v)+2:Nat):Int)) O O (AX (a:=2*v) (b:=2) Z)) O (AH (v:=(aG (Ay (2*u,(2*v)+2)))) (Al (zs:=Ay ((0,0):P2)) (vs:=Ay (2*u,(2*v)+2)) (pv:=[(0,(vN (2*u))),(1,(vN ((2*v)+2)))]) zeroValue111 underlying111 sizeOf3 O (C5 (2*u) ((2*v)+2))) O (al I8 O λb5=>?_)))))
   refine Aw O sizeOf111 O (q3 (sL [1,2,3,4,6,5,7,8,9,10,11,12,13] O) (AS O (AH (AW (c:=(((2*u)+1:Nat):Int)) O O (AX (a:=2*u) (b:=1) Z)) O (AS O (AH (AW (c:=(((2*v)+1:Nat):Int)) O O (AX (a:=2*v) (b:=1) Z)) O ?_)))))
   refine AH (v:=(aG (Ay ((2*u)+1,(2*v)+1)))) (Al (zs:=Ay ((0,0):P2)) (vs:=Ay ((2*u)+1,(2*v)+1)) (pv:=[(0,(vN ((2*u)+1))),(1,(vN ((2*v)+1)))]) zeroValue111 underlying111 sizeOf3 O (C5 ((2*u)+1) ((2*v)+1))) O (al I8 O λb6=>Aw O sizeOf111 O (AE.nil (AD.subF (sL [1,2,3,4,6,5,7,8,9,10,11,12,13,14] O) (AD.then_ ?_))))
   refine AF.block (q4 (AS O (AH (Ak (c:=(decide (wy<3))) O O (C1 (a:=wy) (b:=3))) O (AS O ?_))))
   refine AE.mid (FM:=[(1,(pP b1 0)),(2,(Value.slice none 0 0)),(3,(vN X)),(4,(vN Y)),(6,(vN i)),(5,(Value.slice p out.length c)),(7,(vK .u8 wy)),(8,(vN (2*u))),(9,(vN (2*v))),(10,(pP b2 0)),(11,(pP b3 0)),(12,(pP b4 0)),(13,(pP b5 0)),(14,(pP b6 0)),(76,(vK .u8 wy)),(77,(Value.bool (decide (wy<3)))),(78,(Value.bool (decide (wy<3)))),(85,(Value.bool ((decide (wy<3))||((decide (wy=7))&&(decide (i=0))))))]) (LM:=[Ag b6 111 (Ay ((2*u)+1,(2*v)+1)),Ag b5 111 (Ay (2*u,(2*v)+2)),Ag b4 111 (Ay ((2*u)+2,(2*v)+2)),Ag b3 111 (Ay ((2*u)+2,2*v)),Ag b2 111 (Ay (2*u,2*v)),rowW p 189 6 out.length c (rowsL BE out),Ag b1 26 (Er m),AY m.p (DA m.cs)]) 7 ?_ ?_
   ·rcases Bool.eq_false_or_eq_true (decide (wy<3)) with hg1|hg1
    ·skip
     refine AE.retell (k:=78) (u:=Value.bool true) O (by rw [hg1]) ?_
     have hg1':=hg1
     replace hg1':=of_decide_eq_true hg1'
     refine AE.skip (AN O) O (Ac O) (AE.skip (AN O) O (Ac O) (AE.skip (AN O) O (Ac O) (AE.skip (Nl O O O) O (Ac O) (AE.skip (Nl O O O) O (Ac O) (AE.skip (AN O) O (Ac O) ?_)))))
     exact AH (v:=(Value.bool true)) (Aj O O) O (AE.nil (AD.mid (sS O (sS O (sS O (sS O (sS O (sS O (sS O (sS O (sS O (sS O (sS O (sS O (sS O (sS O (sS O (sS O (sS (by first|rfl|(rw [hg1];rfl)|rw [hg1]) (sS (by first|rfl|(rw [hg1];rfl)|rw [hg1]) (sN))))))))))))))))))) (List.Sublist.refl _)))
    ·skip
     refine AE.retell (k:=78) (u:=Value.bool false) O (by rw [hg1]) ?_
     have hg1':=hg1
     replace hg1':=of_decide_eq_false hg1'
     refine AE.step (v:=(vK .u8 wy)) (AB O) (BK O) O (Ac O) (AE.step (v:=(Value.bool (decide (wy=7)))) (AB O) (BY (c:=(decide (wy=7))) O O (Oa (a:=wy) (b:=7))) O (Ac O) (AE.step (v:=(Value.bool (decide (wy=7)))) (AB O) (BK O) O (Ac O) ?_))
     refine AE.mid (FM:=[(1,(pP b1 0)),(2,(Value.slice none 0 0)),(3,(vN X)),(4,(vN Y)),(6,(vN i)),(5,(Value.slice p out.length c)),(7,(vK .u8 wy)),(8,(vN (2*u))),(9,(vN (2*v))),(10,(pP b2 0)),(11,(pP b3 0)),(12,(pP b4 0)),(13,(pP b5 0)),(14,(pP b6 0)),(76,(vK .u8 wy)),(77,(Value.bool (decide (wy<3)))),(78,(Value.bool false)),(79,(vK .u8 wy)),(80,(Value.bool (decide (wy=7)))),(81,(Value.bool (decide (wy=7)))),(84,(Value.bool ((decide (wy=7))&&(decide (i=0)))))]) (LM:=[Ag b6 111 (Ay ((2*u)+1,(2*v)+1)),Ag b5 111 (Ay (2*u,(2*v)+2)),Ag b4 111 (Ay ((2*u)+2,(2*v)+2)),Ag b3 111 (Ay ((2*u)+2,2*v)),Ag b2 111 (Ay (2*u,2*v)),rowW p 189 6 out.length c (rowsL BE out),Ag b1 26 (Er m),AY m.p (DA m.cs)]) 3 ?_ ?_
     ·rcases Bool.eq_false_or_eq_true (decide (wy=7)) with hg2|hg2
      ·skip
       refine AE.retell (k:=81) (u:=Value.bool true) O (by rw [hg2]) ?_
       have hg2':=hg2
       replace hg2':=of_decide_eq_true hg2'
       exact AE.step (v:=(vN i)) (AB O) (BK O) O (Ac O) (AE.step (v:=(Value.bool (decide (i=0)))) (AB O) (BY (c:=(decide (i=0))) O O (Oa (a:=i) (b:=0))) O (Ac O) (AE.step (v:=(Value.bool (decide (i=0)))) (AB O) (Aj O O) O (Ac O) (AE.nil (AD.mid (sS O (sS O (sS O (sS O (sS O (sS O (sS O (sS O (sS O (sS O (sS O (sS O (sS O (sS O (sS O (sS O (sS O (sS O (sS O (sS (by first|rfl|(rw [hg2];rfl)|rw [hg2]) (sS (by first|rfl|(rw [hg2];rfl)|rw [hg2]) (sN)))))))))))))))))))))) (List.Sublist.refl _)))))
      ·skip
       refine AE.retell (k:=81) (u:=Value.bool false) O (by rw [hg2]) ?_
       have hg2':=hg2
       replace hg2':=of_decide_eq_false hg2'
       exact AE.skip (AN O) O (Ac O) (AE.skip (AN O) O (Ac O) (AE.step (v:=(Value.bool false)) (AB O) (AV O O) O (Ac O) (AE.nil (AD.mid (sS O (sS O (sS O (sS O (sS O (sS O (sS O (sS O (sS O (sS O (sS O (sS O (sS O (sS O (sS O (sS O (sS O (sS O (sS O (sS (by first|rfl|(rw [hg2];rfl)|rw [hg2]) (sS (by first|rfl|(rw [hg2];rfl)|rw [hg2]) (sN)))))))))))))))))))))) (List.Sublist.refl _)))))
     exact AH (v:=(Value.bool ((decide (wy=7))&&(decide (i=0))))) (AV O O) O (AE.nil (AD.mid (sS O (sS O (sS O (sS O (sS O (sS O (sS O (sS O (sS O (sS O (sS O (sS O (sS O (sS O (sS O (sS O (sS (by first|rfl|(rw [hg1];rfl)|rw [hg1]) (sS (by first|rfl|(rw [hg1];rfl)|rw [hg1]) (sN))))))))))))))))))) (List.Sublist.refl _)))
   refine AL O (AE.nil (AD.subF (sL [1,2,3,4,6,5,7,8,9,10,11,12,13,14,75] O) (AD.then_ ?_)))
   refine AF.cond O (λhc2=>?_) (λhc2=>?_)
   ·simp only [Bool.and_eq_true,Bool.or_eq_true,Bool.and_eq_false_iff,Bool.or_eq_false_iff,Bool.not_eq_true',Bool.not_eq_false',decide_eq_true_eq,decide_eq_false_iff_not] at hc2
    have hcell:=WQ hu hv (way:=wy) (by simpa using hc2)
    refine AF.region (AS O (BA 4 Bt O (BA 3 Bt O (BA 2 Bt O (AH (v:=(aG (BE ((2*u,2*v),((2*u)+2,2*v),((2*u)+2,(2*v)+2))))) (Al (zs:=BE (((0,0),(0,0),(0,0)):P2×P2×P2)) (vs:=BE ((2*u,2*v),((2*u)+2,2*v),((2*u)+2,(2*v)+2))) (pv:=[(0,(aG (Ay (2*u,2*v)))),(1,(aG (Ay ((2*u)+2,2*v)))),(2,(aG (Ay ((2*u)+2,(2*v)+2))))]) zeroValue189 underlying189 sizeOf111 O (B8 (2*u,2*v) ((2*u)+2,2*v) ((2*u)+2,(2*v)+2))) O ?_)))))
    refine BA 4 Bt O (BA 2 Bt O (BA 1 Bt O (AH (v:=(aG (BE ((2*u,2*v),((2*u)+2,(2*v)+2),(2*u,(2*v)+2))))) (Al (zs:=BE (((0,0),(0,0),(0,0)):P2×P2×P2)) (vs:=BE ((2*u,2*v),((2*u)+2,(2*v)+2),(2*u,(2*v)+2))) (pv:=[(0,(aG (Ay (2*u,2*v)))),(1,(aG (Ay ((2*u)+2,(2*v)+2)))),(2,(aG (Ay (2*u,(2*v)+2))))]) zeroValue189 underlying189 sizeOf111 O (B8 (2*u,2*v) ((2*u)+2,(2*v)+2) (2*u,(2*v)+2))) O (AE.openV (V:=λb7=>(Value.slice (some ⟨b7,0,none⟩) 2 2)) (T:=189) (cs:=BE ((2*u,2*v),((2*u)+2,2*v),((2*u)+2,(2*v)+2))++BE ((2*u,2*v),((2*u)+2,(2*v)+2),(2*u,(2*v)+2))) (AK O) (Ar (z:=.agg (BE (((0,0),(0,0),(0,0)):P2×P2×P2)).toArray) (cs:=BE ((2*u,2*v),((2*u)+2,2*v),((2*u)+2,(2*v)+2))++BE ((2*u,2*v),((2*u)+2,(2*v)+2),(2*u,(2*v)+2))) (pv:=[(0,(aG (BE ((2*u,2*v),((2*u)+2,2*v),((2*u)+2,(2*v)+2))))),(1,(aG (BE ((2*u,2*v),((2*u)+2,(2*v)+2),(2*u,(2*v)+2)))))]) underlying187 sizeOf189 zeroValue189 (by decide) (by decide) O (GH ((2*u,2*v),((2*u)+2,2*v),((2*u)+2,(2*v)+2)) ((2*u,2*v),((2*u)+2,(2*v)+2),(2*u,(2*v)+2)))) O (Ac O) λb7=>AE.appendAt 6 (j:=0) (cs2:=rowsL BE (out++[((2*u,2*v),((2*u)+2,2*v),((2*u)+2,(2*v)+2)),((2*u,2*v),((2*u)+2,(2*v)+2),(2*u,(2*v)+2))])) SV O ho (Aa Ff _) O O O O O (by decide) (Ga Z) Z (by rw [BO];rfl) O λp_1 c_1 ho_1 hne_1=>?_))))
    refine AL O (AE.nil (AD.subF (sL [1,2,3,4,6,5,7,8,9,10,11,12,13,14] O) (AD.in_normal (AD.in_normal (AD.then_ ?_)))))
    refine AF.region (AS O (AH (AW (c:=((i+1:Nat):Int)) O O (AX (a:=i) (b:=1) Z)) O (AL O (AE.nil (AD.subF (sL [1,2,3,4,6,5,7,8,9,10,11,12,13,14] O) ?_)))))
    rw [show out.length+2=(out++[((2*u,2*v),((2*u)+2,2*v),((2*u)+2,(2*v)+2)),((2*u,2*v),((2*u)+2,(2*v)+2),(2*u,(2*v)+2))]).length by simp]
    exact AD.round4 (i+1) p_1 c_1 (out++[((2*u,2*v),((2*u)+2,2*v),((2*u)+2,(2*v)+2)),((2*u,2*v),((2*u)+2,(2*v)+2),(2*u,(2*v)+2))]) (⟨Z,(by simpa using ho_1),by rw [hout];show _=EC m i++Cn (Fq m) (GK m i) i;rw [<-hX,<-hw,hcell]⟩) Z (sF O) (sl (sl (sl (sl (sl (sl sr))))))
   ·simp only [Bool.and_eq_true,Bool.or_eq_true,Bool.and_eq_false_iff,Bool.or_eq_false_iff,Bool.not_eq_true',Bool.not_eq_false',decide_eq_true_eq,decide_eq_false_iff_not] at hc2
    have h20:¬(wy<3\/(wy=7/\i=0)):=by simp at hc2;omega
    refine q4 (AS O (AH (Ak (c:=(decide (wy<5))) O O (C1 (a:=wy) (b:=5))) O (AL O (AE.nil (AD.subF (sL [1,2,3,4,6,5,7,8,9,10,11,12,13,14,97] O) ?_)))))
    refine AD.then_ ?_
    refine AF.cond O (λhc3=>?_) (λhc3=>?_)
    ·replace hc3:=of_decide_eq_true hc3
     have hcell:=WR hu hv h20 (by simpa using hc3)
     refine AF.region (AS O (BA 4 Bt O (BA 3 Bt O (BA 1 Bt O (AH (v:=(aG (BE ((2*u,2*v),((2*u)+2,2*v),(2*u,(2*v)+2))))) (Al (zs:=BE (((0,0),(0,0),(0,0)):P2×P2×P2)) (vs:=BE ((2*u,2*v),((2*u)+2,2*v),(2*u,(2*v)+2))) (pv:=[(0,(aG (Ay (2*u,2*v)))),(1,(aG (Ay ((2*u)+2,2*v)))),(2,(aG (Ay (2*u,(2*v)+2))))]) zeroValue189 underlying189 sizeOf111 O (B8 (2*u,2*v) ((2*u)+2,2*v) (2*u,(2*v)+2))) O ?_)))))
     refine BA 3 Bt O (BA 2 Bt O (BA 1 Bt O (AH (v:=(aG (BE (((2*u)+2,2*v),((2*u)+2,(2*v)+2),(2*u,(2*v)+2))))) (Al (zs:=BE (((0,0),(0,0),(0,0)):P2×P2×P2)) (vs:=BE (((2*u)+2,2*v),((2*u)+2,(2*v)+2),(2*u,(2*v)+2))) (pv:=[(0,(aG (Ay ((2*u)+2,2*v)))),(1,(aG (Ay ((2*u)+2,(2*v)+2)))),(2,(aG (Ay (2*u,(2*v)+2))))]) zeroValue189 underlying189 sizeOf111 O (B8 ((2*u)+2,2*v) ((2*u)+2,(2*v)+2) (2*u,(2*v)+2))) O (AE.openV (V:=λb7=>(Value.slice (some ⟨b7,0,none⟩) 2 2)) (T:=189) (cs:=BE ((2*u,2*v),((2*u)+2,2*v),(2*u,(2*v)+2))++BE (((2*u)+2,2*v),((2*u)+2,(2*v)+2),(2*u,(2*v)+2))) (AK O) (Ar (z:=.agg (BE (((0,0),(0,0),(0,0)):P2×P2×P2)).toArray) (cs:=BE ((2*u,2*v),((2*u)+2,2*v),(2*u,(2*v)+2))++BE (((2*u)+2,2*v),((2*u)+2,(2*v)+2),(2*u,(2*v)+2))) (pv:=[(0,(aG (BE ((2*u,2*v),((2*u)+2,2*v),(2*u,(2*v)+2))))),(1,(aG (BE (((2*u)+2,2*v),((2*u)+2,(2*v)+2),(2*u,(2*v)+2)))))]) underlying187 sizeOf189 zeroValue189 (by decide) (by decide) O (GH ((2*u,2*v),((2*u)+2,2*v),(2*u,(2*v)+2)) (((2*u)+2,2*v),((2*u)+2,(2*v)+2),(2*u,(2*v)+2)))) O (Ac O) λb7=>AE.appendAt 6 (j:=0) (cs2:=rowsL BE (out++[((2*u,2*v),((2*u)+2,2*v),(2*u,(2*v)+2)),(((2*u)+2,2*v),((2*u)+2,(2*v)+2),(2*u,(2*v)+2))])) SV O ho (Aa Ff _) O O O O O (by decide) (Ga Z) Z (by rw [BO];rfl) O λp_2 c_2 ho_2 hne_2=>?_))))
     refine AL O (AE.nil (AD.subF (sL [1,2,3,4,6,5,7,8,9,10,11,12,13,14] O) (AD.in_normal (AD.in_normal (AD.then_ ?_)))))
     refine AF.region (AS O (AH (AW (c:=((i+1:Nat):Int)) O O (AX (a:=i) (b:=1) Z)) O (AL O (AE.nil (AD.subF (sL [1,2,3,4,6,5,7,8,9,10,11,12,13,14] O) ?_)))))
     rw [show out.length+2=(out++[((2*u,2*v),((2*u)+2,2*v),(2*u,(2*v)+2)),(((2*u)+2,2*v),((2*u)+2,(2*v)+2),(2*u,(2*v)+2))]).length by simp]
     exact AD.round4 (i+1) p_2 c_2 (out++[((2*u,2*v),((2*u)+2,2*v),(2*u,(2*v)+2)),(((2*u)+2,2*v),((2*u)+2,(2*v)+2),(2*u,(2*v)+2))]) (⟨Z,(by simpa using ho_2),by rw [hout];show _=EC m i++Cn (Fq m) (GK m i) i;rw [<-hX,<-hw,hcell]⟩) Z (sF O) (sl (sl (sl (sl (sl (sl sr))))))
    ·replace hc3:=of_decide_eq_false hc3
     have h30:¬wy<5:=by simpa using hc3
     refine q4 (AS O (AH (Ak (c:=(decide (wy<7))) O O (C1 (a:=wy) (b:=7))) O (AL O (AE.nil (AD.subF (sL [1,2,3,4,6,5,7,8,9,10,11,12,13,14,111] O) ?_)))))
     refine AD.then_ ?_
     refine AF.cond O (λhc4=>?_) (λhc4=>?_)
     ·replace hc4:=of_decide_eq_true hc4
      have hcell:=VO hu hv h20 h30 (by simpa using hc4)
      refine AF.region (AS O (BA 4 Bt O (BA 3 Bt O (BA 0 Bt O (AH (v:=(aG (BE ((2*u,2*v),((2*u)+2,2*v),((2*u)+1,(2*v)+1))))) (Al (zs:=BE (((0,0),(0,0),(0,0)):P2×P2×P2)) (vs:=BE ((2*u,2*v),((2*u)+2,2*v),((2*u)+1,(2*v)+1))) (pv:=[(0,(aG (Ay (2*u,2*v)))),(1,(aG (Ay ((2*u)+2,2*v)))),(2,(aG (Ay ((2*u)+1,(2*v)+1))))]) zeroValue189 underlying189 sizeOf111 O (B8 (2*u,2*v) ((2*u)+2,2*v) ((2*u)+1,(2*v)+1))) O ?_)))))
      refine BA 3 Bt O (BA 2 Bt O (BA 0 Bt O (AH (v:=(aG (BE (((2*u)+2,2*v),((2*u)+2,(2*v)+2),((2*u)+1,(2*v)+1))))) (Al (zs:=BE (((0,0),(0,0),(0,0)):P2×P2×P2)) (vs:=BE (((2*u)+2,2*v),((2*u)+2,(2*v)+2),((2*u)+1,(2*v)+1))) (pv:=[(0,(aG (Ay ((2*u)+2,2*v)))),(1,(aG (Ay ((2*u)+2,(2*v)+2)))),(2,(aG (Ay ((2*u)+1,(2*v)+1))))]) zeroValue189 underlying189 sizeOf111 O (B8 ((2*u)+2,2*v) ((2*u)+2,(2*v)+2) ((2*u)+1,(2*v)+1))) O (BA 2 Bt O (BA 1 Bt O ?_)))))
      refine BA 0 Bt O (AH (v:=(aG (BE (((2*u)+2,(2*v)+2),(2*u,(2*v)+2),((2*u)+1,(2*v)+1))))) (Al (zs:=BE (((0,0),(0,0),(0,0)):P2×P2×P2)) (vs:=BE (((2*u)+2,(2*v)+2),(2*u,(2*v)+2),((2*u)+1,(2*v)+1))) (pv:=[(0,(aG (Ay ((2*u)+2,(2*v)+2)))),(1,(aG (Ay (2*u,(2*v)+2)))),(2,(aG (Ay ((2*u)+1,(2*v)+1))))]) zeroValue189 underlying189 sizeOf111 O (B8 ((2*u)+2,(2*v)+2) (2*u,(2*v)+2) ((2*u)+1,(2*v)+1))) O (BA 1 Bt O (BA 4 Bt O (BA 0 Bt O (AH (v:=(aG (BE ((2*u,(2*v)+2),(2*u,2*v),((2*u)+1,(2*v)+1))))) (Al (zs:=BE (((0,0),(0,0),(0,0)):P2×P2×P2)) (vs:=BE ((2*u,(2*v)+2),(2*u,2*v),((2*u)+1,(2*v)+1))) (pv:=[(0,(aG (Ay (2*u,(2*v)+2)))),(1,(aG (Ay (2*u,2*v)))),(2,(aG (Ay ((2*u)+1,(2*v)+1))))]) zeroValue189 underlying189 sizeOf111 O (B8 (2*u,(2*v)+2) (2*u,2*v) ((2*u)+1,(2*v)+1))) O ?_)))))
      refine AE.openV (V:=λb7=>(Value.slice (some ⟨b7,0,none⟩) 4 4)) (T:=189) (cs:=BE ((2*u,2*v),((2*u)+2,2*v),((2*u)+1,(2*v)+1))++BE (((2*u)+2,2*v),((2*u)+2,(2*v)+2),((2*u)+1,(2*v)+1))++BE (((2*u)+2,(2*v)+2),(2*u,(2*v)+2),((2*u)+1,(2*v)+1))++BE ((2*u,(2*v)+2),(2*u,2*v),((2*u)+1,(2*v)+1))) (AK O) (Ar (z:=.agg (BE (((0,0),(0,0),(0,0)):P2×P2×P2)).toArray) (cs:=BE ((2*u,2*v),((2*u)+2,2*v),((2*u)+1,(2*v)+1))++BE (((2*u)+2,2*v),((2*u)+2,(2*v)+2),((2*u)+1,(2*v)+1))++BE (((2*u)+2,(2*v)+2),(2*u,(2*v)+2),((2*u)+1,(2*v)+1))++BE ((2*u,(2*v)+2),(2*u,2*v),((2*u)+1,(2*v)+1))) (pv:=[(0,(aG (BE ((2*u,2*v),((2*u)+2,2*v),((2*u)+1,(2*v)+1))))),(1,(aG (BE (((2*u)+2,2*v),((2*u)+2,(2*v)+2),((2*u)+1,(2*v)+1))))),(2,(aG (BE (((2*u)+2,(2*v)+2),(2*u,(2*v)+2),((2*u)+1,(2*v)+1))))),(3,(aG (BE ((2*u,(2*v)+2),(2*u,2*v),((2*u)+1,(2*v)+1)))))]) underlying187 sizeOf189 zeroValue189 (by decide) (by decide) O (JI ((2*u,2*v),((2*u)+2,2*v),((2*u)+1,(2*v)+1)) (((2*u)+2,2*v),((2*u)+2,(2*v)+2),((2*u)+1,(2*v)+1)) (((2*u)+2,(2*v)+2),(2*u,(2*v)+2),((2*u)+1,(2*v)+1)) ((2*u,(2*v)+2),(2*u,2*v),((2*u)+1,(2*v)+1)))) O (Ac O) λb7=>AE.appendAt 6 (j:=0) (cs2:=rowsL BE (out++[((2*u,2*v),((2*u)+2,2*v),((2*u)+1,(2*v)+1)),(((2*u)+2,2*v),((2*u)+2,(2*v)+2),((2*u)+1,(2*v)+1)),(((2*u)+2,(2*v)+2),(2*u,(2*v)+2),((2*u)+1,(2*v)+1)),((2*u,(2*v)+2),(2*u,2*v),((2*u)+1,(2*v)+1))])) SV O ho (Aa Ff _) O O O O O (by decide) (Ga Z) Z (by rw [BO];rfl) O λp_3 c_3 ho_3 hne_3=>AL O (AE.nil (AD.subF (sL [1,2,3,4,6,5,7,8,9,10,11,12,13,14] O) (AD.in_normal ?_)))
      refine AD.in_normal (AD.then_ (AF.region (AS O (AH (AW (c:=((i+1:Nat):Int)) O O (AX (a:=i) (b:=1) Z)) O (AL O ?_)))))
      refine AE.nil (AD.subF (sL [1,2,3,4,6,5,7,8,9,10,11,12,13,14] O) ?_)
      rw [show out.length+4=(out++[((2*u,2*v),((2*u)+2,2*v),((2*u)+1,(2*v)+1)),(((2*u)+2,2*v),((2*u)+2,(2*v)+2),((2*u)+1,(2*v)+1)),(((2*u)+2,(2*v)+2),(2*u,(2*v)+2),((2*u)+1,(2*v)+1)),((2*u,(2*v)+2),(2*u,2*v),((2*u)+1,(2*v)+1))]).length by simp]
      exact AD.round4 (i+1) p_3 c_3 (out++[((2*u,2*v),((2*u)+2,2*v),((2*u)+1,(2*v)+1)),(((2*u)+2,2*v),((2*u)+2,(2*v)+2),((2*u)+1,(2*v)+1)),(((2*u)+2,(2*v)+2),(2*u,(2*v)+2),((2*u)+1,(2*v)+1)),((2*u,(2*v)+2),(2*u,2*v),((2*u)+1,(2*v)+1))]) (⟨Z,(by simpa using ho_3),by rw [hout];show _=EC m i++Cn (Fq m) (GK m i) i;rw [<-hX,<-hw,hcell]⟩) Z (sF O) (sl (sl (sl (sl (sl (sl sr))))))
     ·replace hc4:=of_decide_eq_false hc4
      have hcell:Cn X wy i=[]:=Va h20 h30 (by simpa using hc4)
      refine AF.skip (AD.in_normal (AD.in_normal (AD.then_ (AF.region (AS O ?_)))))
      exact AH (AW (c:=((i+1:Nat):Int)) O O (AX (a:=i) (b:=1) Z)) O (AL O (AE.nil (AD.subF (sL [1,2,3,4,6,5,7,8,9,10,11,12,13,14] O) (AD.round4 (i+1) p c out (⟨Z,(by simpa using ho),by rw [hout];show _=EC m i++Cn (Fq m) (GK m i) i;rw [<-hX,<-hw,hcell];simp⟩) Z (sF O) (sl (sl (sl (sl (sl sr)))))))))
 ·replace hc0:=of_decide_eq_false hc0
  have hfin:out=BD m:=by rw [hout];unfold BD;rw [<-hX,<-hY,show i=X*Y by omega]
  refine AF.exit (AD.then_exit (AD.round4_exit (AD.in_exit (q2 (AS O ?_)))))
  exact AL O (AE.nil (AD.subF (sL [1,2,3,4,6,5] O) (AD.then_ (AF.ret (AR O (Ai (v:=(Value.slice p out.length c)) O) (λw hw=>(by rw [<-hfin];exact Zl hw 0 O ho (Aa Ff _) O)))))))
theorem GI (x0 x1 x2 x3:Int):Instr.fill (λi=>some (i*1,1)) (VH ((0,0,0,0):Int×Int×Int×Int)).toArray [(0,.int .i64 x0),(1,.int .i64 x1),(2,.int .i64 x2),(3,.int .i64 x3)]=some (VH (x0,x1,x2,x3)).toArray:=by kernel_rfl
theorem GJ (x0 x1:Int):Instr.fill (λi=>some (i*1,1)) (CU ((0,0):Int×Int)).toArray [(0,.int .i64 x0),(1,.int .i64 x1)]=some (CU (x0,x1)).toArray:=by kernel_rfl
theorem Ic (m:MQ) (p:P2) (hp:p.1<=6/\p.2<=6) (w:World) {S:Nat->Prop} (hm:Ro S w m):Calls prog 113 #[(aG (Er m)),(aG (Ay p))] w (Aq w (aG (CU ((GP m.a m.b m.c m.d).at_ p)))):=by
 obtain ⟨A,hA⟩:∃A,A=m.a.tmod 4:=⟨_,rfl⟩
 obtain ⟨B,hB⟩:∃A,A=m.b.tmod 4:=⟨_,rfl⟩
 obtain ⟨C,hC⟩:∃A,A=m.c.tmod 4:=⟨_,rfl⟩
 obtain ⟨D,hD⟩:∃A,A=m.d.tmod 4:=⟨_,rfl⟩
 have kA:=I_ m.a
 have kB:=I_ m.b
 have kC:=I_ m.c
 have kD:=I_ m.d
 rw [<-hA] at kA
 rw [<-hB] at kB
 rw [<-hC] at kC
 rw [<-hD] at kD
 have e1:=C7 kA (k:=3) kD
 have e2:=C7 kB (k:=3) kC
 have lm:=DU (W:=w) hm
 refine A6 (args:=[(aG (Er m)),(aG (Ay p))]) (L:=[AY m.p (DA m.cs)]) func113 O O (Ac O) (DV hm BN) (AF.subF (sL [0,1] O) (q4 (Bg (cs:=Er m) O λb1=>Bg (cs:=Ay p) O λb2=>al ZS O λb3=>?_)))
 refine q3 (sL [2,3,4] O) (AH (v:=(pP b1 3)) (AA O underlying26 O sizeOf24 O) O (AH (v:=(pP b1 3)) (AC (j:=0) O O underlying24 sizeOf23 O (by decide) O) O (BJ 2 (Value.int .i8 m.a) WO O (AH (By (c:=A) O O (by decide) hA.symm) O (AH (A8 (c:=A) O underlying23 underlying2 (BL Z Z)) O ?_)))))
 refine AH (v:=(pP b1 3)) (AA O underlying26 O sizeOf24 O) O (AH (v:=(pP b1 4)) (AC (j:=1) O O underlying24 sizeOf23 O (by decide) O) O (BJ 2 (Value.int .i8 m.b) WO O (AH (By (c:=B) O O (by decide) hB.symm) O (AH (A8 (c:=B) O underlying23 underlying2 (BL Z Z)) O (AH (v:=(pP b1 3)) (AA O underlying26 O sizeOf24 O) O ?_)))))
 refine AH (v:=(pP b1 5)) (AC (j:=2) O O underlying24 sizeOf23 O (by decide) O) O (BJ 2 (Value.int .i8 m.c) WO O (AH (By (c:=C) O O (by decide) hC.symm) O (AH (A8 (c:=C) O underlying23 underlying2 (BL Z Z)) O (AH (v:=(pP b1 3)) (AA O underlying26 O sizeOf24 O) O (AH (v:=(pP b1 6)) (AC (j:=3) O O underlying24 sizeOf23 O (by decide) O) O ?_)))))
 refine BJ 2 (Value.int .i8 m.d) WO O (AH (By (c:=D) O O (by decide) hD.symm) O (AH (A8 (c:=D) O underlying23 underlying2 (BL Z Z)) O (AH (v:=(aG (VH (A,B,C,D)))) (Al (zs:=VH ((0,0,0,0):Int×Int×Int×Int)) (vs:=VH (A,B,C,D)) (pv:=[(0,(vI A)),(1,(vI B)),(2,(vI C)),(3,(vI D))]) zeroValue246 underlying246 sizeOf2 O (GI A B C D)) O (al ZD O λb4=>Aw O sizeOf246 O ?_))))
 refine q3 (sL [3,4,5] O) (AH (v:=(pP b4 0)) (AC (j:=0) O O underlying246 sizeOf2 O (by decide) O) O (BJ 0 (vI A) M9 O (AH (v:=(pP b4 3)) (AC (j:=3) O O underlying246 sizeOf2 O (by decide) O) O (BJ 0 (vI D) M9 O (AH (B3 (c:=(A*D)) O O (BL Z Z)) O ?_)))))
 refine AH (v:=(pP b4 1)) (AC (j:=1) O O underlying246 sizeOf2 O (by decide) O) O (BJ 0 (vI B) M9 O (AH (v:=(pP b4 2)) (AC (j:=2) O O underlying246 sizeOf2 O (by decide) O) O (BJ 0 (vI C) M9 O (AH (B3 (c:=(B*C)) O O (BL Z Z)) O (AH (Bq (c:=(A*D-B*C)) O O (BL Z Z)) O ?_)))))
 refine AL O (q6 (sL [3,4,5,6] O) (q4 (AS O (AH (BY (c:=(decide ((A*D-B*C)=(0:Int)))) O O O) O (AE.nil ?_)))))
 refine AD.subF (sL [3,4,5,6,42] O) (AD.then_ ?_)
 refine AF.cond O (λhc0=>?_) (λhc0=>?_)
 ·replace hc0:=of_decide_eq_true hc0
  have hz0:=hc0
  refine AF.region (AH (v:=(aG (VH ((1:Int),(0:Int),(0:Int),(1:Int))))) (Al (zs:=VH ((0,0,0,0):Int×Int×Int×Int)) (vs:=VH ((1:Int),(0:Int),(0:Int),(1:Int))) (pv:=[(0,(vI 1)),(1,(vI 0)),(2,(vI 0)),(3,(vI 1))]) zeroValue246 underlying246 sizeOf2 O (GI (1:Int) (0:Int) (0:Int) (1:Int))) O (Aw O sizeOf246 O (q6 (sL [3,4,5,6] O) (q4 (AS O ?_)))))
  refine AH (Ak (c:=(decide ((A*D-B*C)<(0:Int)))) O O O) O (AE.nil (AD.subF (sL [3,4,5,6,45] O) (AD.then_ ?_)))
  refine AF.jn1 (tg λ(K:DB)=>K=GP m.a m.b m.c m.d) (tg λ(K:DB)=>[(3,(pP b2 0)),(4,(pP b3 0)),(5,(pP b4 0))]) (tg λ(K:DB)=>[Ag b4 246 (VH (K.a,K.b,K.c,K.d)),Ag b3 102 (CU ((0,0):Int×Int)),Ag b2 111 (Ay p),Ag b1 26 (Er m),AY m.p (DA m.cs)]) ?_ ?_
  ·skip
   refine AF.cond O (λhc1=>?_) (λhc1=>?_)
   ·replace hc1:=of_decide_eq_true hc1
    refine q4 (AH (v:=(pP b4 2)) (AC (j:=2) O O underlying246 sizeOf2 O (by decide) O) O (BJ 0 (vI (0:Int)) M9 O (AH (Kt (c:=(-C)) O (by first|(exfalso;omega)|(rw [Int.zero_sub];exact BL Z Z))) O (AH (v:=(pP b4 2)) (AC (j:=2) O O underlying246 sizeOf2 O (by decide) O) O (EW 0 (off:=2) (vs:=[(vI (-C))]) (cs':=[(vI (1:Int)),(vI (0:Int)),(vI (-C)),(vI (1:Int))]) (AK O) O sizeOf2 O ?_)))))
    refine AE.nil (AD.subF (sL [3,4,5,6] O) (AD.then_ (AF.region (AH (v:=(pP b4 3)) (AC (j:=3) O O underlying246 sizeOf2 O (by decide) O) O (BJ 0 (vI (1:Int)) M9 O ?_)))))
    exact AH (Kt (c:=(-D)) O (by first|(exfalso;omega)|(rw [Int.zero_sub];exact BL Z Z))) O (AH (v:=(pP b4 3)) (AC (j:=3) O O underlying246 sizeOf2 O (by decide) O) O (EW 0 (off:=3) (vs:=[(vI (-D))]) (cs':=[(vI (1:Int)),(vI (0:Int)),(vI (-C)),(vI (-D))]) (AK O) O sizeOf2 O (AE.nil (AD.subF (sL [3,4,5,6] O) (AD.join1 (DB.mk (1:Int) (0:Int) (-C) (-D)) ((by first|(exfalso;omega)|exact (M8 hA hB hC hD hz0).symm|exact (M1 hA hB hC hD hc1).symm|exact (NK hA hB hC hD hz0 hc1).symm)) (sF O) sr)))))
   ·replace hc1:=of_decide_eq_false hc1
    exact AF.skip (AD.join1 (DB.mk (1:Int) (0:Int) (0:Int) (1:Int)) ((by first|(exfalso;omega)|exact (M8 hA hB hC hD hz0).symm|exact (M1 hA hB hC hD hc1).symm|exact (NK hA hB hC hD hz0 hc1).symm)) (sF O) sr)
  ·intro K hJ
   have hK:=hJ
   have kk:=FK m.a m.b m.c m.d
   rw [<-hK] at kk
   have qz0:=C7 kk.a (k:=6) (b:=(p.1:Int)) Z
   have qz1:=C7 kk.b (k:=6) (b:=(p.2:Int)) Z
   have qz2:=C7 kk.c (k:=6) (b:=(p.1:Int)) Z
   have qz3:=C7 kk.d (k:=6) (b:=(p.2:Int)) Z
   refine q2 (AH (v:=(pP b2 0)) (AC (j:=0) O O underlying111 sizeOf3 O (by decide) O) O (BJ 2 (vN p.1) Bn O (AL O (q3 (sL [3,4,5,7] O) (AH (v:=(pP b2 1)) (AC (j:=1) O O underlying111 sizeOf3 O (by decide) O) O ?_)))))
   refine BJ 2 (vN p.2) Bn O (AL O (q3 (sL [3,4,5,7,8] O) (AH (v:=(pP b4 0)) (AC (j:=0) O O underlying246 sizeOf2 O (by decide) O) O (BJ 0 (vI K.a) M9 O (AS O ?_)))))
   refine AH (B3 (c:=(K.a*(p.1:Int))) O O (BL Z Z)) O (AH (v:=(pP b4 1)) (AC (j:=1) O O underlying246 sizeOf2 O (by decide) O) O (BJ 0 (vI K.b) M9 O (AS O (AH (B3 (c:=(K.b*(p.2:Int))) O O (BL Z Z)) O (AH (AW (c:=(K.a*(p.1:Int)+K.b*(p.2:Int))) O O (BL Z Z)) O ?_)))))
   refine AH (v:=(pP b4 2)) (AC (j:=2) O O underlying246 sizeOf2 O (by decide) O) O (BJ 0 (vI K.c) M9 O (AS O (AH (B3 (c:=(K.c*(p.1:Int))) O O (BL Z Z)) O (AH (v:=(pP b4 3)) (AC (j:=3) O O underlying246 sizeOf2 O (by decide) O) O (BJ 0 (vI K.d) M9 O ?_)))))
   refine AS O (AH (B3 (c:=(K.d*(p.2:Int))) O O (BL Z Z)) O (AH (AW (c:=(K.c*(p.1:Int)+K.d*(p.2:Int))) O O (BL Z Z)) O (AH (v:=(aG (CU (K.a*(p.1:Int)+K.b*(p.2:Int),K.c*(p.1:Int)+K.d*(p.2:Int))))) (Al (zs:=CU ((0,0):Int×Int)) (vs:=CU (K.a*(p.1:Int)+K.b*(p.2:Int),K.c*(p.1:Int)+K.d*(p.2:Int))) (pv:=[(0,(vI (K.a*(p.1:Int)+K.b*(p.2:Int)))),(1,(vI (K.c*(p.1:Int)+K.d*(p.2:Int))))]) zeroValue102 underlying102 sizeOf2 O (GJ (K.a*(p.1:Int)+K.b*(p.2:Int)) (K.c*(p.1:Int)+K.d*(p.2:Int)))) O (DP O sizeOf102 O (AE.nil ?_)))))
   exact AD.subF (sL [3,4,5] O) (AD.then_ (AF.ret (AR O (Az (i:=1) (cs:=CU (K.a*(p.1:Int)+K.b*(p.2:Int),K.c*(p.1:Int)+K.d*(p.2:Int))) O O isAgg102 sizeOf102 O) (λw hw=>⟨by rw [<-hK];rfl,hw.out⟩))))
 ·replace hc0:=of_decide_eq_false hc0
  have hz0:=hc0
  refine AF.skip (q1 (q4 (AS O (AH (Ak (c:=(decide ((A*D-B*C)<(0:Int)))) O O O) O (AE.nil ?_)))))
  refine AD.subF (sL [3,4,5,6,45] O) (AD.then_ ?_)
  refine AF.jn1 (tg λ(K:DB)=>K=GP m.a m.b m.c m.d) (tg λ(K:DB)=>[(3,(pP b2 0)),(4,(pP b3 0)),(5,(pP b4 0))]) (tg λ(K:DB)=>[Ag b4 246 (VH (K.a,K.b,K.c,K.d)),Ag b3 102 (CU ((0,0):Int×Int)),Ag b2 111 (Ay p),Ag b1 26 (Er m),AY m.p (DA m.cs)]) ?_ ?_
  ·skip
   refine AF.cond O (λhc1=>?_) (λhc1=>?_)
   ·replace hc1:=of_decide_eq_true hc1
    refine q4 (AH (v:=(pP b4 2)) (AC (j:=2) O O underlying246 sizeOf2 O (by decide) O) O (BJ 0 (vI C) M9 O (AH (Kt (c:=(-C)) O (by first|(exfalso;omega)|(rw [Int.zero_sub];exact BL Z Z))) O (AH (v:=(pP b4 2)) (AC (j:=2) O O underlying246 sizeOf2 O (by decide) O) O (EW 0 (off:=2) (vs:=[(vI (-C))]) (cs':=[(vI A),(vI B),(vI (-C)),(vI D)]) (AK O) O sizeOf2 O ?_)))))
    refine AE.nil (AD.subF (sL [3,4,5,6] O) (AD.then_ (AF.region (AH (v:=(pP b4 3)) (AC (j:=3) O O underlying246 sizeOf2 O (by decide) O) O (BJ 0 (vI D) M9 O ?_)))))
    exact AH (Kt (c:=(-D)) O (by first|(exfalso;omega)|(rw [Int.zero_sub];exact BL Z Z))) O (AH (v:=(pP b4 3)) (AC (j:=3) O O underlying246 sizeOf2 O (by decide) O) O (EW 0 (off:=3) (vs:=[(vI (-D))]) (cs':=[(vI A),(vI B),(vI (-C)),(vI (-D))]) (AK O) O sizeOf2 O (AE.nil (AD.subF (sL [3,4,5,6] O) (AD.join1 (DB.mk A B (-C) (-D)) ((by first|(exfalso;omega)|exact (M8 hA hB hC hD hz0).symm|exact (M1 hA hB hC hD hc1).symm|exact (NK hA hB hC hD hz0 hc1).symm)) (sF O) sr)))))
   ·replace hc1:=of_decide_eq_false hc1
    exact AF.skip (AD.join1 (DB.mk A B C D) ((by first|(exfalso;omega)|exact (M8 hA hB hC hD hz0).symm|exact (M1 hA hB hC hD hc1).symm|exact (NK hA hB hC hD hz0 hc1).symm)) (sF O) sr)
  ·intro K hJ
   have hK:=hJ
   have kk:=FK m.a m.b m.c m.d
   rw [<-hK] at kk
   have qz0:=C7 kk.a (k:=6) (b:=(p.1:Int)) Z
   have qz1:=C7 kk.b (k:=6) (b:=(p.2:Int)) Z
   have qz2:=C7 kk.c (k:=6) (b:=(p.1:Int)) Z
   have qz3:=C7 kk.d (k:=6) (b:=(p.2:Int)) Z
   refine q2 (AH (v:=(pP b2 0)) (AC (j:=0) O O underlying111 sizeOf3 O (by decide) O) O (BJ 2 (vN p.1) Bn O (AL O (q3 (sL [3,4,5,7] O) (AH (v:=(pP b2 1)) (AC (j:=1) O O underlying111 sizeOf3 O (by decide) O) O ?_)))))
   refine BJ 2 (vN p.2) Bn O (AL O (q3 (sL [3,4,5,7,8] O) (AH (v:=(pP b4 0)) (AC (j:=0) O O underlying246 sizeOf2 O (by decide) O) O (BJ 0 (vI K.a) M9 O (AS O ?_)))))
   refine AH (B3 (c:=(K.a*(p.1:Int))) O O (BL Z Z)) O (AH (v:=(pP b4 1)) (AC (j:=1) O O underlying246 sizeOf2 O (by decide) O) O (BJ 0 (vI K.b) M9 O (AS O (AH (B3 (c:=(K.b*(p.2:Int))) O O (BL Z Z)) O (AH (AW (c:=(K.a*(p.1:Int)+K.b*(p.2:Int))) O O (BL Z Z)) O ?_)))))
   refine AH (v:=(pP b4 2)) (AC (j:=2) O O underlying246 sizeOf2 O (by decide) O) O (BJ 0 (vI K.c) M9 O (AS O (AH (B3 (c:=(K.c*(p.1:Int))) O O (BL Z Z)) O (AH (v:=(pP b4 3)) (AC (j:=3) O O underlying246 sizeOf2 O (by decide) O) O (BJ 0 (vI K.d) M9 O ?_)))))
   refine AS O (AH (B3 (c:=(K.d*(p.2:Int))) O O (BL Z Z)) O (AH (AW (c:=(K.c*(p.1:Int)+K.d*(p.2:Int))) O O (BL Z Z)) O (AH (v:=(aG (CU (K.a*(p.1:Int)+K.b*(p.2:Int),K.c*(p.1:Int)+K.d*(p.2:Int))))) (Al (zs:=CU ((0,0):Int×Int)) (vs:=CU (K.a*(p.1:Int)+K.b*(p.2:Int),K.c*(p.1:Int)+K.d*(p.2:Int))) (pv:=[(0,(vI (K.a*(p.1:Int)+K.b*(p.2:Int)))),(1,(vI (K.c*(p.1:Int)+K.d*(p.2:Int))))]) zeroValue102 underlying102 sizeOf2 O (GJ (K.a*(p.1:Int)+K.b*(p.2:Int)) (K.c*(p.1:Int)+K.d*(p.2:Int)))) O (DP O sizeOf102 O (AE.nil ?_)))))
   exact AD.subF (sL [3,4,5] O) (AD.then_ (AF.ret (AR O (Az (i:=1) (cs:=CU (K.a*(p.1:Int)+K.b*(p.2:Int),K.c*(p.1:Int)+K.d*(p.2:Int))) O O isAgg102 sizeOf102 O) (λw hw=>⟨by rw [<-hK];rfl,hw.out⟩))))
end
end Go.Proofs.YtfbomiejpbchdaaGreat
