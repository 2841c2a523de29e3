import Derived.Test.YtfbomiejpbchdaaGreatDoorPart06
import Derived.Test.YtfbomiejpbchdaaGreatDoorPart09
import Derived.Test.YtfbomiejpbchdaaGreatDoorPart21
namespace Go.Proofs.YtfbomiejpbchdaaGreatDoor
open Go Go.RowKit Go.Proofs.Tryz
set_option linter.unusedVariables false
set_option linter.unusedSimpArgs false
section
set_option maxRecDepth 100000
theorem QB:ElemT prog 159 161 6 48:=⟨underlying159,EE (by kernel_rfl)⟩
theorem Ce (x0 x1:Nat):Instr.fill (λi=>some (i*1,1)) (A7 ((0,0):P2)).toArray [(0,vN x0),(1,vN x1)]=some (A7 (x0,x1)).toArray:=by kernel_rfl
theorem Bt (x0 x1 x2:P2):Instr.fill (λi=>some (i*2,2)) (A_ (((0,0),(0,0),(0,0)):P2×P2×P2)).toArray [(0,.agg (A7 x0).toArray),(1,.agg (A7 x1).toArray),(2,.agg (A7 x2).toArray)]=some (A_ (x0,x1,x2)).toArray:=by kernel_rfl
theorem FO (x0 x1:P2×P2×P2):Instr.fill (λi=>some (i*6,6)) ((Array.range (2*6)).map ((Value.agg (A_ (((0,0),(0,0),(0,0)):P2×P2×P2)).toArray).cells[·%(Value.agg (A_ (((0,0),(0,0),(0,0)):P2×P2×P2)).toArray).cells.size]!)) [(0,.agg (A_ x0).toArray),(1,.agg (A_ x1).toArray)]=some (A_ x0++A_ x1).toArray:=by kernel_rfl
theorem H_ (x0 x1 x2 x3:P2×P2×P2):Instr.fill (λi=>some (i*6,6)) ((Array.range (4*6)).map ((Value.agg (A_ (((0,0),(0,0),(0,0)):P2×P2×P2)).toArray).cells[·%(Value.agg (A_ (((0,0),(0,0),(0,0)):P2×P2×P2)).toArray).cells.size]!)) [(0,.agg (A_ x0).toArray),(1,.agg (A_ x1).toArray),(2,.agg (A_ x2).toArray),(3,.agg (A_ x3).toArray)]=some (A_ x0++A_ x1++A_ x2++A_ x3).toArray:=by kernel_rfl
set_option maxHeartbeats 1000000 in
theorem PB (m:MQ) (w:World) {S:Nat->Prop} (hm:Ro S w m):Calls prog 87 #[(aG (EA m))] w (B_ (RX (rowsL A_ (BF m)) (BF m).length) S w):=by
 obtain ⟨X,hX⟩:∃X,X=Gw m:=⟨_,rfl⟩
 obtain ⟨Y,hY⟩:∃Y,Y=RD m:=⟨_,rfl⟩
 have hx1:=JI m
 have hy1:=If m
 have hxy:=Ht m
 rw [<-hX] at hx1 hxy
 rw [<-hY] at hy1 hxy
 have lm:=Er (W:=w) hm
 refine BI (args:=[(aG (EA m))]) (L:=[Ai m.p (Co m.cs)]) func87 O O (Ab O) (En hm BW) (AF.subF (sL [0] O) (q4 (Bq (cs:=EA m) O λb1=>AK O (q3 (sL [1,2] O) ?_))))
 refine AG (v:=(pP b1 0)) (AA O underlying50 O sizeOf5 O) O (BO 0 (vK .u8 m.nx) QY O (AG (B6 (c:=((m.nx%3:Nat):Int)) O O Z (HH (a:=m.nx) (b:=3))) O (AG (Aq (c:=((m.nx%3:Nat):Int)) O underlying5 underlying3 (CC Z)) O (AG (AX (c:=((1+(m.nx%3):Nat):Int)) O O (AY (a:=1) (b:=m.nx%3) Z)) O (AE.retell (k:=19) (u:=(vN X)) O (by rw [hX];rfl) ?_)))))
 refine AK O (q3 (sL [1,2,3] O) (AG (v:=(pP b1 1)) (AA O underlying50 O sizeOf5 O) O (BO 0 (vK .u8 m.ny) QY O (AG (B6 (c:=((m.ny%3:Nat):Int)) O O Z (HH (a:=m.ny) (b:=3))) O (AG (Aq (c:=((m.ny%3:Nat):Int)) O underlying5 underlying3 (CC Z)) O ?_)))))
 refine AG (AX (c:=((1+(m.ny%3):Nat):Int)) O O (AY (a:=1) (b:=m.ny%3) Z)) O (AE.retell (k:=24) (u:=(vN Y)) O (by rw [hY];rfl) (AK O (q3 (sL [1,2,3,4] O) (AK O (AE.nilRow 161 6 ?_)))))
 refine AE.nil (q1 (q4 (AK O (AE.nil (AD.then_ ?_)))))
 refine AF.block ?_
 refine AF.lp4 (tg λ(i:Nat) (p:Option Addr) (c:Nat) (out:List (P2×P2×P2))=>i<=X*Y/\OwnOk p out.length c/\out=Dj m i) (tg λ(i:Nat) (p:Option Addr) (c:Nat) (out:List (P2×P2×P2))=>[(1,(pP b1 0)),(2,(Value.slice none 0 0)),(3,(vN X)),(4,(vN Y)),(6,(vN i)),(5,(Value.slice p out.length c))]) (tg λ(i:Nat) (p:Option Addr) (c:Nat) (out:List (P2×P2×P2))=>[rowW p 161 6 out.length c (rowsL A_ out),Ae b1 50 (EA m),Ai m.p (Co m.cs)]) (tg λ(i:Nat) (p:Option Addr) (c:Nat) (out:List (P2×P2×P2))=>X*Y-i) 0 none 0 ([]:List (P2×P2×P2)) (⟨Z,OwnOk.none,rfl⟩) (sF O) sr (λi p c out hJ=>?_)
 obtain ⟨hi,ho,hout⟩:=hJ
 have hlen:=GS m i
 rw [<-hout] at hlen
 refine AF.seq (q4 (AO O (AO O (AO O (AG (Br (c:=((X*Y:Nat):Int)) O O (Cd (a:=X) (b:=Y) (by exact Nat.lt_of_le_of_lt hxy (by decide)))) O ?_)))))
 refine AG (Af (c:=(decide (i<(X*Y)))) O O (C6 (a:=i) (b:=X*Y))) O (AE.nil (AD.subF (sL [1,2,3,4,6,5,29] O) (AD.then_ ?_)))
 refine AF.cond O (λhc0=>?_) (λhc0=>?_)
 ·replace hc0:=of_decide_eq_true hc0
  refine AF.skip (q1 (AF.block (q4 (AK O (AE.nil ?_)))))
  refine q1 (q4 (AG (v:=(pP b1 2)) (AA O underlying50 O sizeOf46 O) O (BO 1 (Value.slice m.p m.cs.length m.cap) T7 O (AG (v:=(vN m.cs.length)) (AH O underlying46) O (AG (Cx (c:=(decide (0<m.cs.length))) O O (C6 (a:=0) (b:=m.cs.length))) O ?_)))))
  refine AE.nil (AD.subF (sL [1,2,3,4,6,5,7,35] O) (AD.then_ ?_))
  refine AF.jn1 (tg λ(wy:Nat)=>wy=F8 m i) (tg λ(wy:Nat)=>[(1,(pP b1 0)),(2,(Value.slice none 0 0)),(3,(vN X)),(4,(vN Y)),(6,(vN i)),(5,(Value.slice p out.length c)),(7,(vK .u8 wy))]) (tg λ(wy:Nat)=>[rowW p 161 6 out.length c (rowsL A_ out),Ae b1 50 (EA m),Ai m.p (Co m.cs)]) ?_ ?_
  ·skip
   refine AF.cond O (λhc1=>?_) (λhc1=>?_)
   ·replace hc1:=of_decide_eq_true hc1
    refine C4 [(0,true),(1,true),(2,true),(3,true),(4,true),(5,true),(6,true),(7,true),(8,true),(9,true),(10,true)] sr (Ay (v:=(pP b1 2)) O (AA O underlying50 O sizeOf46 O) (Bn 1 (Value.slice m.p m.cs.length m.cap) T7 O (Bo O (Ay (v:=(pP b1 2)) O (AA O underlying50 O sizeOf46 O) (Bn 1 (Value.slice m.p m.cs.length m.cap) T7 O ?_)))))
    refine Ay (v:=(vN m.cs.length)) O (AH O underlying46) (Ay O (B6 (c:=((i%m.cs.length:Nat):Int)) O O Z (HH (a:=i) (b:=m.cs.length))) (Ay (v:=(pP (pB m.p) (pO m.p+(i%m.cs.length)*1))) O (AN (j:=i%m.cs.length) O O m.ok underlying46 sizeOf5 O (by exact Nat.mod_lt _ hc1)) (Ay O (Aa (v:=(vK .u8 (m.cs.getD (i%m.cs.length) 0))) (i:=2) O O (m.ok.ne (by first|exact Nat.mod_lt i hc1|exact hc1)) QY (P_ (by first|exact Nat.mod_lt i hc1|exact hc1))) (Ay O (B6 (c:=(((m.cs.getD (i%m.cs.length) 0)%8:Nat):Int)) O O Z (HH (a:=m.cs.getD (i%m.cs.length) 0) (b:=8))) (EZ O ?_)))))
    exact AS.nil (AD.subF (sL [1,2,3,4,6,5,7] O) (AD.join1 ((m.cs.getD (i%m.cs.length) 0)%8) (by unfold F8;first|rw [if_pos hc1]|rw [if_neg hc1]) (sF O) sr))
   ·replace hc1:=of_decide_eq_false hc1
    exact AF.skip (AD.join1 0 (by unfold F8;first|rw [if_pos hc1]|rw [if_neg hc1]) (sF O) sr)
  ·intro wy hJ
   have hw:=hJ
   have hw8:=OC m i
   rw [<-hw] at hw8
   refine q2 (AO O (AO O ?_))
   obtain ⟨u,hu⟩:∃u,u=i%X:=⟨_,rfl⟩
   have hu2:u<X:=by rw [hu];exact Nat.mod_lt _ Z
   refine AG (B6 (c:=((u:Nat):Int)) O O Z (by rw [hu];exact HH (a:=i) (b:=X))) O (AG (Br (c:=((2*u:Nat):Int)) O O (Cd (a:=2) (b:=u) Z)) O (AK O (q3 (sL [1,2,3,4,6,5,7,8] O) (AO O (AO O ?_)))))
   obtain ⟨v,hv⟩:∃v,v=i/X:=⟨_,rfl⟩
   have hv2:v<=9:=by rw [hv];exact Nat.le_trans (Nat.div_le_self _ _) Z
   refine AG (Fh (c:=((v:Nat):Int)) O O Z (by rw [hv];exact ML (a:=i) (b:=X) Z)) O (AG (Br (c:=((2*v:Nat):Int)) O O (Cd (a:=2) (b:=v) Z)) O (AK O (q3 (sL [1,2,3,4,6,5,7,8,9] O) (AO O (AO O ?_)))))
   refine AG (v:=(aG (A7 (2*u,2*v)))) (Ap (zs:=A7 ((0,0):P2)) (vs:=A7 (2*u,2*v)) (pv:=[(0,(vN (2*u))),(1,(vN (2*v)))]) zeroValue147 underlying147 sizeOf3 O (Ce (2*u) (2*v))) O (al Hw O λb2=>Au O sizeOf147 O (q3 (sL [1,2,3,4,6,5,7,8,9,10] O) (AO O (AG (AX (c:=(((2*u)+2:Nat):Int)) O O (AY (a:=2*u) (b:=2) Z)) O ?_))))
   refine AO O (AG (v:=(aG (A7 ((2*u)+2,2*v)))) (Ap (zs:=A7 ((0,0):P2)) (vs:=A7 ((2*u)+2,2*v)) (pv:=[(0,(vN ((2*u)+2))),(1,(vN (2*v)))]) zeroValue147 underlying147 sizeOf3 O (Ce ((2*u)+2) (2*v))) O (al Hw O λb3=>Au O sizeOf147 O (q3 (sL [1,2,3,4,6,5,7,8,9,10,11] O) (AO O ?_))))
   refine AG (AX (c:=(((2*u)+2:Nat):Int)) O O (AY (a:=2*u) (b:=2) Z)) O (AO O (AG (AX (c:=(((2*v)+2:Nat):Int)) O O (AY (a:=2*v) (b:=2) Z)) O (AG (v:=(aG (A7 ((2*u)+2,(2*v)+2)))) (Ap (zs:=A7 ((0,0):P2)) (vs:=A7 ((2*u)+2,(2*v)+2)) (pv:=[(0,(vN ((2*u)+2))),(1,(vN ((2*v)+2)))]) zeroValue147 underlying147 sizeOf3 O (Ce ((2*u)+2) ((2*v)+2))) O (al Hw O λb4=>Au O sizeOf147 O ?_))))
   refine q3 (sL [1,2,3,4,6,5,7,8,9,10,11,12] O) (AO O (AO O (AG (AX (c:=(((2*v)+2:Nat):Int)) O O (AY (a:=2*v) (b:=2) Z)) O (AG (v:=(aG (A7 (2*u,(2*v)+2)))) (Ap (zs:=A7 ((0,0):P2)) (vs:=A7 (2*u,(2*v)+2)) (pv:=[(0,(vN (2*u))),(1,(vN ((2*v)+2)))]) zeroValue147 underlying147 sizeOf3 O (Ce (2*u) ((2*v)+2))) O (al Hw O λb5=>?_)))))
   refine Au O sizeOf147 O (q3 (sL [1,2,3,4,6,5,7,8,9,10,11,12,13] O) (AO O (AG (AX (c:=(((2*u)+1:Nat):Int)) O O (AY (a:=2*u) (b:=1) Z)) O (AO O (AG (AX (c:=(((2*v)+1:Nat):Int)) O O (AY (a:=2*v) (b:=1) Z)) O ?_)))))
   refine AG (v:=(aG (A7 ((2*u)+1,(2*v)+1)))) (Ap (zs:=A7 ((0,0):P2)) (vs:=A7 ((2*u)+1,(2*v)+1)) (pv:=[(0,(vN ((2*u)+1))),(1,(vN ((2*v)+1)))]) zeroValue147 underlying147 sizeOf3 O (Ce ((2*u)+1) ((2*v)+1))) O (al Hw O λb6=>Au O sizeOf147 O (AE.nil (AD.subF (sL [1,2,3,4,6,5,7,8,9,10,11,12,13,14] O) (AD.then_ ?_))))
   refine AF.block (q4 (AO O (AG (Af (c:=(decide (wy<3))) O O (C6 (a:=wy) (b:=3))) O (AO O ?_))))
   refine AE.mid (FM:=[(1,(pP b1 0)),(2,(Value.slice none 0 0)),(3,(vN X)),(4,(vN Y)),(6,(vN i)),(5,(Value.slice p out.length c)),(7,(vK .u8 wy)),(8,(vN (2*u))),(9,(vN (2*v))),(10,(pP b2 0)),(11,(pP b3 0)),(12,(pP b4 0)),(13,(pP b5 0)),(14,(pP b6 0)),(76,(vK .u8 wy)),(77,(Value.bool (decide (wy<3)))),(78,(Value.bool (decide (wy<3)))),(85,(Value.bool ((decide (wy<3))||((decide (wy=7))&&(decide (i=0))))))]) (LM:=[Ae b6 147 (A7 ((2*u)+1,(2*v)+1)),Ae b5 147 (A7 (2*u,(2*v)+2)),Ae b4 147 (A7 ((2*u)+2,(2*v)+2)),Ae b3 147 (A7 ((2*u)+2,2*v)),Ae b2 147 (A7 (2*u,2*v)),rowW p 161 6 out.length c (rowsL A_ out),Ae b1 50 (EA m),Ai m.p (Co m.cs)]) 7 ?_ ?_
   ·rcases Bool.eq_false_or_eq_true (decide (wy<3)) with hg1|hg1
    ·skip
     refine AE.retell (k:=78) (u:=Value.bool true) O (by rw [hg1]) ?_
     have hg1':=hg1
     replace hg1':=of_decide_eq_true hg1'
     refine AE.skip (AR O) O (Ab O) (AE.skip (AR O) O (Ab O) (AE.skip (AR O) O (Ab O) (AE.skip (L3 O O O) O (Ab O) (AE.skip (L3 O O O) O (Ab O) (AE.skip (AR O) O (Ab O) ?_)))))
     exact AG (v:=(Value.bool true)) (Ah O O) O (AE.nil (AD.mid (sS O (sS O (sS O (sS O (sS O (sS O (sS O (sS O (sS O (sS O (sS O (sS O (sS O (sS O (sS O (sS O (sS (by first|rfl|(rw [hg1];rfl)|rw [hg1]) (sS (by first|rfl|(rw [hg1];rfl)|rw [hg1]) (sN))))))))))))))))))) (List.Sublist.refl _)))
    ·skip
     refine AE.retell (k:=78) (u:=Value.bool false) O (by rw [hg1]) ?_
     have hg1':=hg1
     replace hg1':=of_decide_eq_false hg1'
     refine AE.step (v:=(vK .u8 wy)) (AB O) (Az O) O (Ab O) (AE.step (v:=(Value.bool (decide (wy=7)))) (AB O) (BU (c:=(decide (wy=7))) O O (MY (a:=wy) (b:=7))) O (Ab O) (AE.step (v:=(Value.bool (decide (wy=7)))) (AB O) (Az O) O (Ab O) ?_))
     refine AE.mid (FM:=[(1,(pP b1 0)),(2,(Value.slice none 0 0)),(3,(vN X)),(4,(vN Y)),(6,(vN i)),(5,(Value.slice p out.length c)),(7,(vK .u8 wy)),(8,(vN (2*u))),(9,(vN (2*v))),(10,(pP b2 0)),(11,(pP b3 0)),(12,(pP b4 0)),(13,(pP b5 0)),(14,(pP b6 0)),(76,(vK .u8 wy)),(77,(Value.bool (decide (wy<3)))),(78,(Value.bool false)),(79,(vK .u8 wy)),(80,(Value.bool (decide (wy=7)))),(81,(Value.bool (decide (wy=7)))),(84,(Value.bool ((decide (wy=7))&&(decide (i=0)))))]) (LM:=[Ae b6 147 (A7 ((2*u)+1,(2*v)+1)),Ae b5 147 (A7 (2*u,(2*v)+2)),Ae b4 147 (A7 ((2*u)+2,(2*v)+2)),Ae b3 147 (A7 ((2*u)+2,2*v)),Ae b2 147 (A7 (2*u,2*v)),rowW p 161 6 out.length c (rowsL A_ out),Ae b1 50 (EA m),Ai m.p (Co m.cs)]) 3 ?_ ?_
     ·rcases Bool.eq_false_or_eq_true (decide (wy=7)) with hg2|hg2
      ·skip
       refine AE.retell (k:=81) (u:=Value.bool true) O (by rw [hg2]) ?_
       have hg2':=hg2
       replace hg2':=of_decide_eq_true hg2'
       exact AE.step (v:=(vN i)) (AB O) (Az O) O (Ab O) (AE.step (v:=(Value.bool (decide (i=0)))) (AB O) (BU (c:=(decide (i=0))) O O (MY (a:=i) (b:=0))) O (Ab O) (AE.step (v:=(Value.bool (decide (i=0)))) (AB O) (Ah O O) O (Ab O) (AE.nil (AD.mid (sS O (sS O (sS O (sS O (sS O (sS O (sS O (sS O (sS O (sS O (sS O (sS O (sS O (sS O (sS O (sS O (sS O (sS O (sS O (sS (by first|rfl|(rw [hg2];rfl)|rw [hg2]) (sS (by first|rfl|(rw [hg2];rfl)|rw [hg2]) (sN)))))))))))))))))))))) (List.Sublist.refl _)))))
      ·skip
       refine AE.retell (k:=81) (u:=Value.bool false) O (by rw [hg2]) ?_
       have hg2':=hg2
       replace hg2':=of_decide_eq_false hg2'
       exact AE.skip (AR O) O (Ab O) (AE.skip (AR O) O (Ab O) (AE.step (v:=(Value.bool false)) (AB O) (AU O O) O (Ab O) (AE.nil (AD.mid (sS O (sS O (sS O (sS O (sS O (sS O (sS O (sS O (sS O (sS O (sS O (sS O (sS O (sS O (sS O (sS O (sS O (sS O (sS O (sS (by first|rfl|(rw [hg2];rfl)|rw [hg2]) (sS (by first|rfl|(rw [hg2];rfl)|rw [hg2]) (sN)))))))))))))))))))))) (List.Sublist.refl _)))))
     exact AG (v:=(Value.bool ((decide (wy=7))&&(decide (i=0))))) (AU O O) O (AE.nil (AD.mid (sS O (sS O (sS O (sS O (sS O (sS O (sS O (sS O (sS O (sS O (sS O (sS O (sS O (sS O (sS O (sS O (sS (by first|rfl|(rw [hg1];rfl)|rw [hg1]) (sS (by first|rfl|(rw [hg1];rfl)|rw [hg1]) (sN))))))))))))))))))) (List.Sublist.refl _)))
   refine AK O (AE.nil (AD.subF (sL [1,2,3,4,6,5,7,8,9,10,11,12,13,14,75] O) (AD.then_ ?_)))
   refine AF.cond O (λhc2=>?_) (λhc2=>?_)
   ·simp only [Bool.and_eq_true,Bool.or_eq_true,Bool.and_eq_false_iff,Bool.or_eq_false_iff,Bool.not_eq_true',Bool.not_eq_false',decide_eq_true_eq,decide_eq_false_iff_not] at hc2
    have hcell:=TG hu hv (way:=wy) (by simpa using hc2)
    refine AF.region (AO O (BD 4 Bl O (BD 3 Bl O (BD 2 Bl O (AG (v:=(aG (A_ ((2*u,2*v),((2*u)+2,2*v),((2*u)+2,(2*v)+2))))) (Ap (zs:=A_ (((0,0),(0,0),(0,0)):P2×P2×P2)) (vs:=A_ ((2*u,2*v),((2*u)+2,2*v),((2*u)+2,(2*v)+2))) (pv:=[(0,(aG (A7 (2*u,2*v)))),(1,(aG (A7 ((2*u)+2,2*v)))),(2,(aG (A7 ((2*u)+2,(2*v)+2))))]) zeroValue161 underlying161 sizeOf147 O (Bt (2*u,2*v) ((2*u)+2,2*v) ((2*u)+2,(2*v)+2))) O ?_)))))
    refine BD 4 Bl O (BD 2 Bl O (BD 1 Bl O (AG (v:=(aG (A_ ((2*u,2*v),((2*u)+2,(2*v)+2),(2*u,(2*v)+2))))) (Ap (zs:=A_ (((0,0),(0,0),(0,0)):P2×P2×P2)) (vs:=A_ ((2*u,2*v),((2*u)+2,(2*v)+2),(2*u,(2*v)+2))) (pv:=[(0,(aG (A7 (2*u,2*v)))),(1,(aG (A7 ((2*u)+2,(2*v)+2)))),(2,(aG (A7 (2*u,(2*v)+2))))]) zeroValue161 underlying161 sizeOf147 O (Bt (2*u,2*v) ((2*u)+2,(2*v)+2) (2*u,(2*v)+2))) O (AE.openV (V:=λb7=>(Value.slice (some ⟨b7,0,none⟩) 2 2)) (T:=161) (cs:=A_ ((2*u,2*v),((2*u)+2,2*v),((2*u)+2,(2*v)+2))++A_ ((2*u,2*v),((2*u)+2,(2*v)+2),(2*u,(2*v)+2))) (AQ O) (BA (z:=.agg (A_ (((0,0),(0,0),(0,0)):P2×P2×P2)).toArray) (cs:=A_ ((2*u,2*v),((2*u)+2,2*v),((2*u)+2,(2*v)+2))++A_ ((2*u,2*v),((2*u)+2,(2*v)+2),(2*u,(2*v)+2))) (pv:=[(0,(aG (A_ ((2*u,2*v),((2*u)+2,2*v),((2*u)+2,(2*v)+2))))),(1,(aG (A_ ((2*u,2*v),((2*u)+2,(2*v)+2),(2*u,(2*v)+2)))))]) underlying159 sizeOf161 zeroValue161 (by decide) (by decide) O (FO ((2*u,2*v),((2*u)+2,2*v),((2*u)+2,(2*v)+2)) ((2*u,2*v),((2*u)+2,(2*v)+2),(2*u,(2*v)+2)))) O (Ab O) λb7=>AE.appendAt 6 (j:=0) (cs2:=rowsL A_ (out++[((2*u,2*v),((2*u)+2,2*v),((2*u)+2,(2*v)+2)),((2*u,2*v),((2*u)+2,(2*v)+2),(2*u,(2*v)+2))])) QB O ho (An Eo _) O O O O O (by decide) (Ka Z) Z (by rw [Bb];rfl) O λp_1 c_1 ho_1 hne_1=>?_))))
    refine AK O (AE.nil (AD.subF (sL [1,2,3,4,6,5,7,8,9,10,11,12,13,14] O) (AD.in_normal (AD.in_normal (AD.then_ ?_)))))
    refine AF.region (AO O (AG (AX (c:=((i+1:Nat):Int)) O O (AY (a:=i) (b:=1) Z)) O (AK O (AE.nil (AD.subF (sL [1,2,3,4,6,5,7,8,9,10,11,12,13,14] O) ?_)))))
    rw [show out.length+2=(out++[((2*u,2*v),((2*u)+2,2*v),((2*u)+2,(2*v)+2)),((2*u,2*v),((2*u)+2,(2*v)+2),(2*u,(2*v)+2))]).length by simp]
    exact AD.round4 (i+1) p_1 c_1 (out++[((2*u,2*v),((2*u)+2,2*v),((2*u)+2,(2*v)+2)),((2*u,2*v),((2*u)+2,(2*v)+2),(2*u,(2*v)+2))]) (⟨Z,(by simpa using ho_1),by rw [hout];show _=Dj m i++CX (Gw m) (F8 m i) i;rw [<-hX,<-hw,hcell]⟩) Z (sF O) (sl (sl (sl (sl (sl (sl sr))))))
   ·simp only [Bool.and_eq_true,Bool.or_eq_true,Bool.and_eq_false_iff,Bool.or_eq_false_iff,Bool.not_eq_true',Bool.not_eq_false',decide_eq_true_eq,decide_eq_false_iff_not] at hc2
    have h20:¬(wy<3\/(wy=7/\i=0)):=by simp at hc2;omega
    refine q4 (AO O (AG (Af (c:=(decide (wy<5))) O O (C6 (a:=wy) (b:=5))) O (AK O (AE.nil (AD.subF (sL [1,2,3,4,6,5,7,8,9,10,11,12,13,14,97] O) ?_)))))
    refine AD.then_ ?_
    refine AF.cond O (λhc3=>?_) (λhc3=>?_)
    ·replace hc3:=of_decide_eq_true hc3
     have hcell:=SC hu hv h20 (by simpa using hc3)
     refine AF.region (AO O (BD 4 Bl O (BD 3 Bl O (BD 1 Bl O (AG (v:=(aG (A_ ((2*u,2*v),((2*u)+2,2*v),(2*u,(2*v)+2))))) (Ap (zs:=A_ (((0,0),(0,0),(0,0)):P2×P2×P2)) (vs:=A_ ((2*u,2*v),((2*u)+2,2*v),(2*u,(2*v)+2))) (pv:=[(0,(aG (A7 (2*u,2*v)))),(1,(aG (A7 ((2*u)+2,2*v)))),(2,(aG (A7 (2*u,(2*v)+2))))]) zeroValue161 underlying161 sizeOf147 O (Bt (2*u,2*v) ((2*u)+2,2*v) (2*u,(2*v)+2))) O ?_)))))
     refine BD 3 Bl O (BD 2 Bl O (BD 1 Bl O (AG (v:=(aG (A_ (((2*u)+2,2*v),((2*u)+2,(2*v)+2),(2*u,(2*v)+2))))) (Ap (zs:=A_ (((0,0),(0,0),(0,0)):P2×P2×P2)) (vs:=A_ (((2*u)+2,2*v),((2*u)+2,(2*v)+2),(2*u,(2*v)+2))) (pv:=[(0,(aG (A7 ((2*u)+2,2*v)))),(1,(aG (A7 ((2*u)+2,(2*v)+2)))),(2,(aG (A7 (2*u,(2*v)+2))))]) zeroValue161 underlying161 sizeOf147 O (Bt ((2*u)+2,2*v) ((2*u)+2,(2*v)+2) (2*u,(2*v)+2))) O (AE.openV (V:=λb7=>(Value.slice (some ⟨b7,0,none⟩) 2 2)) (T:=161) (cs:=A_ ((2*u,2*v),((2*u)+2,2*v),(2*u,(2*v)+2))++A_ (((2*u)+2,2*v),((2*u)+2,(2*v)+2),(2*u,(2*v)+2))) (AQ O) (BA (z:=.agg (A_ (((0,0),(0,0),(0,0)):P2×P2×P2)).toArray) (cs:=A_ ((2*u,2*v),((2*u)+2,2*v),(2*u,(2*v)+2))++A_ (((2*u)+2,2*v),((2*u)+2,(2*v)+2),(2*u,(2*v)+2))) (pv:=[(0,(aG (A_ ((2*u,2*v),((2*u)+2,2*v),(2*u,(2*v)+2))))),(1,(aG (A_ (((2*u)+2,2*v),((2*u)+2,(2*v)+2),(2*u,(2*v)+2)))))]) underlying159 sizeOf161 zeroValue161 (by decide) (by decide) O (FO ((2*u,2*v),((2*u)+2,2*v),(2*u,(2*v)+2)) (((2*u)+2,2*v),((2*u)+2,(2*v)+2),(2*u,(2*v)+2)))) O (Ab O) λb7=>AE.appendAt 6 (j:=0) (cs2:=rowsL A_ (out++[((2*u,2*v),((2*u)+2,2*v),(2*u,(2*v)+2)),(((2*u)+2,2*v),((2*u)+2,(2*v)+2),(2*u,(2*v)+2))])) QB O ho (An Eo _) O O O O O (by decide) (Ka Z) Z (by rw [Bb];rfl) O λp_2 c_2 ho_2 hne_2=>?_))))
     refine AK O (AE.nil (AD.subF (sL [1,2,3,4,6,5,7,8,9,10,11,12,13,14] O) (AD.in_normal (AD.in_normal (AD.then_ ?_)))))
     refine AF.region (AO O (AG (AX (c:=((i+1:Nat):Int)) O O (AY (a:=i) (b:=1) Z)) O (AK O (AE.nil (AD.subF (sL [1,2,3,4,6,5,7,8,9,10,11,12,13,14] O) ?_)))))
     rw [show out.length+2=(out++[((2*u,2*v),((2*u)+2,2*v),(2*u,(2*v)+2)),(((2*u)+2,2*v),((2*u)+2,(2*v)+2),(2*u,(2*v)+2))]).length by simp]
     exact AD.round4 (i+1) p_2 c_2 (out++[((2*u,2*v),((2*u)+2,2*v),(2*u,(2*v)+2)),(((2*u)+2,2*v),((2*u)+2,(2*v)+2),(2*u,(2*v)+2))]) (⟨Z,(by simpa using ho_2),by rw [hout];show _=Dj m i++CX (Gw m) (F8 m i) i;rw [<-hX,<-hw,hcell]⟩) Z (sF O) (sl (sl (sl (sl (sl (sl sr))))))
    ·replace hc3:=of_decide_eq_false hc3
     have h30:¬wy<5:=by simpa using hc3
     refine q4 (AO O (AG (Af (c:=(decide (wy<7))) O O (C6 (a:=wy) (b:=7))) O (AK O (AE.nil (AD.subF (sL [1,2,3,4,6,5,7,8,9,10,11,12,13,14,111] O) ?_)))))
     refine AD.then_ ?_
     refine AF.cond O (λhc4=>?_) (λhc4=>?_)
     ·replace hc4:=of_decide_eq_true hc4
      have hcell:=TT hu hv h20 h30 (by simpa using hc4)
      refine AF.region (AO O (BD 4 Bl O (BD 3 Bl O (BD 0 Bl O (AG (v:=(aG (A_ ((2*u,2*v),((2*u)+2,2*v),((2*u)+1,(2*v)+1))))) (Ap (zs:=A_ (((0,0),(0,0),(0,0)):P2×P2×P2)) (vs:=A_ ((2*u,2*v),((2*u)+2,2*v),((2*u)+1,(2*v)+1))) (pv:=[(0,(aG (A7 (2*u,2*v)))),(1,(aG (A7 ((2*u)+2,2*v)))),(2,(aG (A7 ((2*u)+1,(2*v)+1))))]) zeroValue161 underlying161 sizeOf147 O (Bt (2*u,2*v) ((2*u)+2,2*v) ((2*u)+1,(2*v)+1))) O ?_)))))
      refine BD 3 Bl O (BD 2 Bl O (BD 0 Bl O (AG (v:=(aG (A_ (((2*u)+2,2*v),((2*u)+2,(2*v)+2),((2*u)+1,(2*v)+1))))) (Ap (zs:=A_ (((0,0),(0,0),(0,0)):P2×P2×P2)) (vs:=A_ (((2*u)+2,2*v),((2*u)+2,(2*v)+2),((2*u)+1,(2*v)+1))) (pv:=[(0,(aG (A7 ((2*u)+2,2*v)))),(1,(aG (A7 ((2*u)+2,(2*v)+2)))),(2,(aG (A7 ((2*u)+1,(2*v)+1))))]) zeroValue161 underlying161 sizeOf147 O (Bt ((2*u)+2,2*v) ((2*u)+2,(2*v)+2) ((2*u)+1,(2*v)+1))) O (BD 2 Bl O (BD 1 Bl O ?_)))))
      refine BD 0 Bl O (AG (v:=(aG (A_ (((2*u)+2,(2*v)+2),(2*u,(2*v)+2),((2*u)+1,(2*v)+1))))) (Ap (zs:=A_ (((0,0),(0,0),(0,0)):P2×P2×P2)) (vs:=A_ (((2*u)+2,(2*v)+2),(2*u,(2*v)+2),((2*u)+1,(2*v)+1))) (pv:=[(0,(aG (A7 ((2*u)+2,(2*v)+2)))),(1,(aG (A7 (2*u,(2*v)+2)))),(2,(aG (A7 ((2*u)+1,(2*v)+1))))]) zeroValue161 underlying161 sizeOf147 O (Bt ((2*u)+2,(2*v)+2) (2*u,(2*v)+2) ((2*u)+1,(2*v)+1))) O (BD 1 Bl O (BD 4 Bl O (BD 0 Bl O (AG (v:=(aG (A_ ((2*u,(2*v)+2),(2*u,2*v),((2*u)+1,(2*v)+1))))) (Ap (zs:=A_ (((0,0),(0,0),(0,0)):P2×P2×P2)) (vs:=A_ ((2*u,(2*v)+2),(2*u,2*v),((2*u)+1,(2*v)+1))) (pv:=[(0,(aG (A7 (2*u,(2*v)+2)))),(1,(aG (A7 (2*u,2*v)))),(2,(aG (A7 ((2*u)+1,(2*v)+1))))]) zeroValue161 underlying161 sizeOf147 O (Bt (2*u,(2*v)+2) (2*u,2*v) ((2*u)+1,(2*v)+1))) O ?_)))))
      refine AE.openV (V:=λb7=>(Value.slice (some ⟨b7,0,none⟩) 4 4)) (T:=161) (cs:=A_ ((2*u,2*v),((2*u)+2,2*v),((2*u)+1,(2*v)+1))++A_ (((2*u)+2,2*v),((2*u)+2,(2*v)+2),((2*u)+1,(2*v)+1))++A_ (((2*u)+2,(2*v)+2),(2*u,(2*v)+2),((2*u)+1,(2*v)+1))++A_ ((2*u,(2*v)+2),(2*u,2*v),((2*u)+1,(2*v)+1))) (AQ O) (BA (z:=.agg (A_ (((0,0),(0,0),(0,0)):P2×P2×P2)).toArray) (cs:=A_ ((2*u,2*v),((2*u)+2,2*v),((2*u)+1,(2*v)+1))++A_ (((2*u)+2,2*v),((2*u)+2,(2*v)+2),((2*u)+1,(2*v)+1))++A_ (((2*u)+2,(2*v)+2),(2*u,(2*v)+2),((2*u)+1,(2*v)+1))++A_ ((2*u,(2*v)+2),(2*u,2*v),((2*u)+1,(2*v)+1))) (pv:=[(0,(aG (A_ ((2*u,2*v),((2*u)+2,2*v),((2*u)+1,(2*v)+1))))),(1,(aG (A_ (((2*u)+2,2*v),((2*u)+2,(2*v)+2),((2*u)+1,(2*v)+1))))),(2,(aG (A_ (((2*u)+2,(2*v)+2),(2*u,(2*v)+2),((2*u)+1,(2*v)+1))))),(3,(aG (A_ ((2*u,(2*v)+2),(2*u,2*v),((2*u)+1,(2*v)+1)))))]) underlying159 sizeOf161 zeroValue161 (by decide) (by decide) O (H_ ((2*u,2*v),((2*u)+2,2*v),((2*u)+1,(2*v)+1)) (((2*u)+2,2*v),((2*u)+2,(2*v)+2),((2*u)+1,(2*v)+1)) (((2*u)+2,(2*v)+2),(2*u,(2*v)+2),((2*u)+1,(2*v)+1)) ((2*u,(2*v)+2),(2*u,2*v),((2*u)+1,(2*v)+1)))) O (Ab O) λb7=>AE.appendAt 6 (j:=0) (cs2:=rowsL A_ (out++[((2*u,2*v),((2*u)+2,2*v),((2*u)+1,(2*v)+1)),(((2*u)+2,2*v),((2*u)+2,(2*v)+2),((2*u)+1,(2*v)+1)),(((2*u)+2,(2*v)+2),(2*u,(2*v)+2),((2*u)+1,(2*v)+1)),((2*u,(2*v)+2),(2*u,2*v),((2*u)+1,(2*v)+1))])) QB O ho (An Eo _) O O O O O (by decide) (Ka Z) Z (by rw [Bb];rfl) O λp_3 c_3 ho_3 hne_3=>AK O (AE.nil (AD.subF (sL [1,2,3,4,6,5,7,8,9,10,11,12,13,14] O) (AD.in_normal ?_)))
      refine AD.in_normal (AD.then_ (AF.region (AO O (AG (AX (c:=((i+1:Nat):Int)) O O (AY (a:=i) (b:=1) Z)) O (AK O ?_)))))
      refine AE.nil (AD.subF (sL [1,2,3,4,6,5,7,8,9,10,11,12,13,14] O) ?_)
      rw [show out.length+4=(out++[((2*u,2*v),((2*u)+2,2*v),((2*u)+1,(2*v)+1)),(((2*u)+2,2*v),((2*u)+2,(2*v)+2),((2*u)+1,(2*v)+1)),(((2*u)+2,(2*v)+2),(2*u,(2*v)+2),((2*u)+1,(2*v)+1)),((2*u,(2*v)+2),(2*u,2*v),((2*u)+1,(2*v)+1))]).length by simp]
      exact AD.round4 (i+1) p_3 c_3 (out++[((2*u,2*v),((2*u)+2,2*v),((2*u)+1,(2*v)+1)),(((2*u)+2,2*v),((2*u)+2,(2*v)+2),((2*u)+1,(2*v)+1)),(((2*u)+2,(2*v)+2),(2*u,(2*v)+2),((2*u)+1,(2*v)+1)),((2*u,(2*v)+2),(2*u,2*v),((2*u)+1,(2*v)+1))]) (⟨Z,(by simpa using ho_3),by rw [hout];show _=Dj m i++CX (Gw m) (F8 m i) i;rw [<-hX,<-hw,hcell]⟩) Z (sF O) (sl (sl (sl (sl (sl (sl sr))))))
     ·replace hc4:=of_decide_eq_false hc4
      have hcell:CX X wy i=[]:=SE h20 h30 (by simpa using hc4)
      refine AF.skip (AD.in_normal (AD.in_normal (AD.then_ (AF.region (AO O ?_)))))
      exact AG (AX (c:=((i+1:Nat):Int)) O O (AY (a:=i) (b:=1) Z)) O (AK O (AE.nil (AD.subF (sL [1,2,3,4,6,5,7,8,9,10,11,12,13,14] O) (AD.round4 (i+1) p c out (⟨Z,(by simpa using ho),by rw [hout];show _=Dj m i++CX (Gw m) (F8 m i) i;rw [<-hX,<-hw,hcell];simp⟩) Z (sF O) (sl (sl (sl (sl (sl sr)))))))))
 ·replace hc0:=of_decide_eq_false hc0
  have hfin:out=BF m:=by rw [hout];unfold BF;rw [<-hX,<-hY,show i=X*Y by omega]
  refine AF.exit (AD.then_exit (AD.round4_exit (AD.in_exit (q2 (AO O ?_)))))
  exact AK O (AE.nil (AD.subF (sL [1,2,3,4,6,5] O) (AD.then_ (AF.ret (AP O (Ad (v:=(Value.slice p out.length c)) O) (λw hw=>(by rw [<-hfin];exact WJ hw 0 O ho (An Eo _) O)))))))
theorem FK (x0 x1 x2 x3:Int):Instr.fill (λi=>some (i*1,1)) (R0 ((0,0,0,0):Int×Int×Int×Int)).toArray [(0,.int .i64 x0),(1,.int .i64 x1),(2,.int .i64 x2),(3,.int .i64 x3)]=some (R0 (x0,x1,x2,x3)).toArray:=by kernel_rfl
theorem FL (x0 x1:Int):Instr.fill (λi=>some (i*1,1)) (CH ((0,0):Int×Int)).toArray [(0,.int .i64 x0),(1,.int .i64 x1)]=some (CH (x0,x1)).toArray:=by kernel_rfl
theorem Hg (m:MQ) (p:P2) (hp:p.1<=6/\p.2<=6) (w:World) {S:Nat->Prop} (hm:Ro S w m):Calls prog 88 #[(aG (EA m)),(aG (A7 p))] w (Am w (aG (CH ((F9 m.a m.b m.c m.d).at_ p)))):=by
 obtain ⟨A,hA⟩:∃A,A=m.a.tmod 4:=⟨_,rfl⟩
 obtain ⟨B,hB⟩:∃A,A=m.b.tmod 4:=⟨_,rfl⟩
 obtain ⟨C,hC⟩:∃A,A=m.c.tmod 4:=⟨_,rfl⟩
 obtain ⟨D,hD⟩:∃A,A=m.d.tmod 4:=⟨_,rfl⟩
 have kA:=Hk m.a
 have kB:=Hk m.b
 have kC:=Hk m.c
 have kD:=Hk m.d
 rw [<-hA] at kA
 rw [<-hB] at kB
 rw [<-hC] at kC
 rw [<-hD] at kD
 have e1:=Ci kA (k:=3) kD
 have e2:=Ci kB (k:=3) kC
 have lm:=Er (W:=w) hm
 refine BI (args:=[(aG (EA m)),(aG (A7 p))]) (L:=[Ai m.p (Co m.cs)]) func88 O O (Ab O) (En hm BW) (AF.subF (sL [0,1] O) (q4 (Bq (cs:=EA m) O λb1=>Bq (cs:=A7 p) O λb2=>al VT O λb3=>?_)))
 refine q3 (sL [2,3,4] O) (AG (v:=(pP b1 3)) (AA O underlying50 O sizeOf48 O) O (AG (v:=(pP b1 3)) (AC (j:=0) O O underlying48 sizeOf47 O (by decide) O) O (BO 2 (Value.int .i8 m.a) TL O (AG (B6 (c:=A) O O (by decide) hA.symm) O (AG (Aq (c:=A) O underlying47 underlying2 (BM Z Z)) O ?_)))))
 refine AG (v:=(pP b1 3)) (AA O underlying50 O sizeOf48 O) O (AG (v:=(pP b1 4)) (AC (j:=1) O O underlying48 sizeOf47 O (by decide) O) O (BO 2 (Value.int .i8 m.b) TL O (AG (B6 (c:=B) O O (by decide) hB.symm) O (AG (Aq (c:=B) O underlying47 underlying2 (BM Z Z)) O (AG (v:=(pP b1 3)) (AA O underlying50 O sizeOf48 O) O ?_)))))
 refine AG (v:=(pP b1 5)) (AC (j:=2) O O underlying48 sizeOf47 O (by decide) O) O (BO 2 (Value.int .i8 m.c) TL O (AG (B6 (c:=C) O O (by decide) hC.symm) O (AG (Aq (c:=C) O underlying47 underlying2 (BM Z Z)) O (AG (v:=(pP b1 3)) (AA O underlying50 O sizeOf48 O) O (AG (v:=(pP b1 6)) (AC (j:=3) O O underlying48 sizeOf47 O (by decide) O) O ?_)))))
 refine BO 2 (Value.int .i8 m.d) TL O (AG (B6 (c:=D) O O (by decide) hD.symm) O (AG (Aq (c:=D) O underlying47 underlying2 (BM Z Z)) O (AG (v:=(aG (R0 (A,B,C,D)))) (Ap (zs:=R0 ((0,0,0,0):Int×Int×Int×Int)) (vs:=R0 (A,B,C,D)) (pv:=[(0,(vI A)),(1,(vI B)),(2,(vI C)),(3,(vI D))]) zeroValue212 underlying212 sizeOf2 O (FK A B C D)) O (al U7 O λb4=>Au O sizeOf212 O ?_))))
 refine q3 (sL [3,4,5] O) (AG (v:=(pP b4 0)) (AC (j:=0) O O underlying212 sizeOf2 O (by decide) O) O (BO 0 (vI A) Ky O (AG (v:=(pP b4 3)) (AC (j:=3) O O underlying212 sizeOf2 O (by decide) O) O (BO 0 (vI D) Ky O (AG (Br (c:=(A*D)) O O (BM Z Z)) O ?_)))))
 refine AG (v:=(pP b4 1)) (AC (j:=1) O O underlying212 sizeOf2 O (by decide) O) O (BO 0 (vI B) Ky O (AG (v:=(pP b4 2)) (AC (j:=2) O O underlying212 sizeOf2 O (by decide) O) O (BO 0 (vI C) Ky O (AG (Br (c:=(B*C)) O O (BM Z Z)) O (AG (Bz (c:=(A*D-B*C)) O O (BM Z Z)) O ?_)))))
 refine AK O (q6 (sL [3,4,5,6] O) (q4 (AO O (AG (BU (c:=(decide ((A*D-B*C)=(0:Int)))) O O O) O (AE.nil ?_)))))
 refine AD.subF (sL [3,4,5,6,42] O) (AD.then_ ?_)
 refine AF.cond O (λhc0=>?_) (λhc0=>?_)
 ·replace hc0:=of_decide_eq_true hc0
  have hz0:=hc0
  refine AF.region (AG (v:=(aG (R0 ((1:Int),(0:Int),(0:Int),(1:Int))))) (Ap (zs:=R0 ((0,0,0,0):Int×Int×Int×Int)) (vs:=R0 ((1:Int),(0:Int),(0:Int),(1:Int))) (pv:=[(0,(vI 1)),(1,(vI 0)),(2,(vI 0)),(3,(vI 1))]) zeroValue212 underlying212 sizeOf2 O (FK (1:Int) (0:Int) (0:Int) (1:Int))) O (Au O sizeOf212 O (q6 (sL [3,4,5,6] O) (q4 (AO O ?_)))))
  refine AG (Af (c:=(decide ((A*D-B*C)<(0:Int)))) O O O) O (AE.nil (AD.subF (sL [3,4,5,6,45] O) (AD.then_ ?_)))
  refine AF.jn1 (tg λ(K:DR)=>K=F9 m.a m.b m.c m.d) (tg λ(K:DR)=>[(3,(pP b2 0)),(4,(pP b3 0)),(5,(pP b4 0))]) (tg λ(K:DR)=>[Ae b4 212 (R0 (K.a,K.b,K.c,K.d)),Ae b3 121 (CH ((0,0):Int×Int)),Ae b2 147 (A7 p),Ae b1 50 (EA m),Ai m.p (Co m.cs)]) ?_ ?_
  ·skip
   refine AF.cond O (λhc1=>?_) (λhc1=>?_)
   ·replace hc1:=of_decide_eq_true hc1
    refine q4 (AG (v:=(pP b4 2)) (AC (j:=2) O O underlying212 sizeOf2 O (by decide) O) O (BO 0 (vI (0:Int)) Ky O (AG (JN (c:=(-C)) O (by first|(exfalso;omega)|(rw [Int.zero_sub];exact BM Z Z))) O (AG (v:=(pP b4 2)) (AC (j:=2) O O underlying212 sizeOf2 O (by decide) O) O (F_ 0 (off:=2) (vs:=[(vI (-C))]) (cs':=[(vI (1:Int)),(vI (0:Int)),(vI (-C)),(vI (1:Int))]) (AQ O) O sizeOf2 O ?_)))))
    refine AE.nil (AD.subF (sL [3,4,5,6] O) (AD.then_ (AF.region (AG (v:=(pP b4 3)) (AC (j:=3) O O underlying212 sizeOf2 O (by decide) O) O (BO 0 (vI (1:Int)) Ky O ?_)))))
    exact AG (JN (c:=(-D)) O (by first|(exfalso;omega)|(rw [Int.zero_sub];exact BM Z Z))) O (AG (v:=(pP b4 3)) (AC (j:=3) O O underlying212 sizeOf2 O (by decide) O) O (F_ 0 (off:=3) (vs:=[(vI (-D))]) (cs':=[(vI (1:Int)),(vI (0:Int)),(vI (-C)),(vI (-D))]) (AQ O) O sizeOf2 O (AE.nil (AD.subF (sL [3,4,5,6] O) (AD.join1 (DR.mk (1:Int) (0:Int) (-C) (-D)) ((by first|(exfalso;omega)|exact (LD hA hB hC hD hz0).symm|exact (LC hA hB hC hD hc1).symm|exact (LT hA hB hC hD hz0 hc1).symm)) (sF O) sr)))))
   ·replace hc1:=of_decide_eq_false hc1
    exact AF.skip (AD.join1 (DR.mk (1:Int) (0:Int) (0:Int) (1:Int)) ((by first|(exfalso;omega)|exact (LD hA hB hC hD hz0).symm|exact (LC hA hB hC hD hc1).symm|exact (LT hA hB hC hD hz0 hc1).symm)) (sF O) sr)
  ·intro K hJ
   have hK:=hJ
   have kk:=G_ m.a m.b m.c m.d
   rw [<-hK] at kk
   have qz0:=Ci kk.a (k:=6) (b:=(p.1:Int)) Z
   have qz1:=Ci kk.b (k:=6) (b:=(p.2:Int)) Z
   have qz2:=Ci kk.c (k:=6) (b:=(p.1:Int)) Z
   have qz3:=Ci kk.d (k:=6) (b:=(p.2:Int)) Z
   refine q2 (AG (v:=(pP b2 0)) (AC (j:=0) O O underlying147 sizeOf3 O (by decide) O) O (BO 2 (vN p.1) Bs O (AK O (q3 (sL [3,4,5,7] O) (AG (v:=(pP b2 1)) (AC (j:=1) O O underlying147 sizeOf3 O (by decide) O) O ?_)))))
   refine BO 2 (vN p.2) Bs O (AK O (q3 (sL [3,4,5,7,8] O) (AG (v:=(pP b4 0)) (AC (j:=0) O O underlying212 sizeOf2 O (by decide) O) O (BO 0 (vI K.a) Ky O (AO O ?_)))))
   refine AG (Br (c:=(K.a*(p.1:Int))) O O (BM Z Z)) O (AG (v:=(pP b4 1)) (AC (j:=1) O O underlying212 sizeOf2 O (by decide) O) O (BO 0 (vI K.b) Ky O (AO O (AG (Br (c:=(K.b*(p.2:Int))) O O (BM Z Z)) O (AG (AX (c:=(K.a*(p.1:Int)+K.b*(p.2:Int))) O O (BM Z Z)) O ?_)))))
   refine AG (v:=(pP b4 2)) (AC (j:=2) O O underlying212 sizeOf2 O (by decide) O) O (BO 0 (vI K.c) Ky O (AO O (AG (Br (c:=(K.c*(p.1:Int))) O O (BM Z Z)) O (AG (v:=(pP b4 3)) (AC (j:=3) O O underlying212 sizeOf2 O (by decide) O) O (BO 0 (vI K.d) Ky O ?_)))))
   refine AO O (AG (Br (c:=(K.d*(p.2:Int))) O O (BM Z Z)) O (AG (AX (c:=(K.c*(p.1:Int)+K.d*(p.2:Int))) O O (BM Z Z)) O (AG (v:=(aG (CH (K.a*(p.1:Int)+K.b*(p.2:Int),K.c*(p.1:Int)+K.d*(p.2:Int))))) (Ap (zs:=CH ((0,0):Int×Int)) (vs:=CH (K.a*(p.1:Int)+K.b*(p.2:Int),K.c*(p.1:Int)+K.d*(p.2:Int))) (pv:=[(0,(vI (K.a*(p.1:Int)+K.b*(p.2:Int)))),(1,(vI (K.c*(p.1:Int)+K.d*(p.2:Int))))]) zeroValue121 underlying121 sizeOf2 O (FL (K.a*(p.1:Int)+K.b*(p.2:Int)) (K.c*(p.1:Int)+K.d*(p.2:Int)))) O (C3 O sizeOf121 O (AE.nil ?_)))))
   exact AD.subF (sL [3,4,5] O) (AD.then_ (AF.ret (AP O (A8 (i:=1) (cs:=CH (K.a*(p.1:Int)+K.b*(p.2:Int),K.c*(p.1:Int)+K.d*(p.2:Int))) O O isAgg121 sizeOf121 O) (λw hw=>⟨by rw [<-hK];rfl,hw.out⟩))))
 ·replace hc0:=of_decide_eq_false hc0
  have hz0:=hc0
  refine AF.skip (q1 (q4 (AO O (AG (Af (c:=(decide ((A*D-B*C)<(0:Int)))) O O O) O (AE.nil ?_)))))
  refine AD.subF (sL [3,4,5,6,45] O) (AD.then_ ?_)
  refine AF.jn1 (tg λ(K:DR)=>K=F9 m.a m.b m.c m.d) (tg λ(K:DR)=>[(3,(pP b2 0)),(4,(pP b3 0)),(5,(pP b4 0))]) (tg λ(K:DR)=>[Ae b4 212 (R0 (K.a,K.b,K.c,K.d)),Ae b3 121 (CH ((0,0):Int×Int)),Ae b2 147 (A7 p),Ae b1 50 (EA m),Ai m.p (Co m.cs)]) ?_ ?_
  ·skip
   refine AF.cond O (λhc1=>?_) (λhc1=>?_)
   ·replace hc1:=of_decide_eq_true hc1
    refine q4 (AG (v:=(pP b4 2)) (AC (j:=2) O O underlying212 sizeOf2 O (by decide) O) O (BO 0 (vI C) Ky O (AG (JN (c:=(-C)) O (by first|(exfalso;omega)|(rw [Int.zero_sub];exact BM Z Z))) O (AG (v:=(pP b4 2)) (AC (j:=2) O O underlying212 sizeOf2 O (by decide) O) O (F_ 0 (off:=2) (vs:=[(vI (-C))]) (cs':=[(vI A),(vI B),(vI (-C)),(vI D)]) (AQ O) O sizeOf2 O ?_)))))
    refine AE.nil (AD.subF (sL [3,4,5,6] O) (AD.then_ (AF.region (AG (v:=(pP b4 3)) (AC (j:=3) O O underlying212 sizeOf2 O (by decide) O) O (BO 0 (vI D) Ky O ?_)))))
    exact AG (JN (c:=(-D)) O (by first|(exfalso;omega)|(rw [Int.zero_sub];exact BM Z Z))) O (AG (v:=(pP b4 3)) (AC (j:=3) O O underlying212 sizeOf2 O (by decide) O) O (F_ 0 (off:=3) (vs:=[(vI (-D))]) (cs':=[(vI A),(vI B),(vI (-C)),(vI (-D))]) (AQ O) O sizeOf2 O (AE.nil (AD.subF (sL [3,4,5,6] O) (AD.join1 (DR.mk A B (-C) (-D)) ((by first|(exfalso;omega)|exact (LD hA hB hC hD hz0).symm|exact (LC hA hB hC hD hc1).symm|exact (LT hA hB hC hD hz0 hc1).symm)) (sF O) sr)))))
   ·replace hc1:=of_decide_eq_false hc1
    exact AF.skip (AD.join1 (DR.mk A B C D) ((by first|(exfalso;omega)|exact (LD hA hB hC hD hz0).symm|exact (LC hA hB hC hD hc1).symm|exact (LT hA hB hC hD hz0 hc1).symm)) (sF O) sr)
  ·intro K hJ
   have hK:=hJ
   have kk:=G_ m.a m.b m.c m.d
   rw [<-hK] at kk
   have qz0:=Ci kk.a (k:=6) (b:=(p.1:Int)) Z
   have qz1:=Ci kk.b (k:=6) (b:=(p.2:Int)) Z
   have qz2:=Ci kk.c (k:=6) (b:=(p.1:Int)) Z
   have qz3:=Ci kk.d (k:=6) (b:=(p.2:Int)) Z
   refine q2 (AG (v:=(pP b2 0)) (AC (j:=0) O O underlying147 sizeOf3 O (by decide) O) O (BO 2 (vN p.1) Bs O (AK O (q3 (sL [3,4,5,7] O) (AG (v:=(pP b2 1)) (AC (j:=1) O O underlying147 sizeOf3 O (by decide) O) O ?_)))))
   refine BO 2 (vN p.2) Bs O (AK O (q3 (sL [3,4,5,7,8] O) (AG (v:=(pP b4 0)) (AC (j:=0) O O underlying212 sizeOf2 O (by decide) O) O (BO 0 (vI K.a) Ky O (AO O ?_)))))
   refine AG (Br (c:=(K.a*(p.1:Int))) O O (BM Z Z)) O (AG (v:=(pP b4 1)) (AC (j:=1) O O underlying212 sizeOf2 O (by decide) O) O (BO 0 (vI K.b) Ky O (AO O (AG (Br (c:=(K.b*(p.2:Int))) O O (BM Z Z)) O (AG (AX (c:=(K.a*(p.1:Int)+K.b*(p.2:Int))) O O (BM Z Z)) O ?_)))))
   refine AG (v:=(pP b4 2)) (AC (j:=2) O O underlying212 sizeOf2 O (by decide) O) O (BO 0 (vI K.c) Ky O (AO O (AG (Br (c:=(K.c*(p.1:Int))) O O (BM Z Z)) O (AG (v:=(pP b4 3)) (AC (j:=3) O O underlying212 sizeOf2 O (by decide) O) O (BO 0 (vI K.d) Ky O ?_)))))
   refine AO O (AG (Br (c:=(K.d*(p.2:Int))) O O (BM Z Z)) O (AG (AX (c:=(K.c*(p.1:Int)+K.d*(p.2:Int))) O O (BM Z Z)) O (AG (v:=(aG (CH (K.a*(p.1:Int)+K.b*(p.2:Int),K.c*(p.1:Int)+K.d*(p.2:Int))))) (Ap (zs:=CH ((0,0):Int×Int)) (vs:=CH (K.a*(p.1:Int)+K.b*(p.2:Int),K.c*(p.1:Int)+K.d*(p.2:Int))) (pv:=[(0,(vI (K.a*(p.1:Int)+K.b*(p.2:Int)))),(1,(vI (K.c*(p.1:Int)+K.d*(p.2:Int))))]) zeroValue121 underlying121 sizeOf2 O (FL (K.a*(p.1:Int)+K.b*(p.2:Int)) (K.c*(p.1:Int)+K.d*(p.2:Int)))) O (C3 O sizeOf121 O (AE.nil ?_)))))
   exact AD.subF (sL [3,4,5] O) (AD.then_ (AF.ret (AP O (A8 (i:=1) (cs:=CH (K.a*(p.1:Int)+K.b*(p.2:Int),K.c*(p.1:Int)+K.d*(p.2:Int))) O O isAgg121 sizeOf121 O) (λw hw=>⟨by rw [<-hK];rfl,hw.out⟩))))
end
end Go.Proofs.YtfbomiejpbchdaaGreatDoor
