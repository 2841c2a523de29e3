import Derived.Test.YtbfdamnfcmefmaaGreatDoorPend16
namespace Go.Proofs.YtbfdamnfcmefmaaGreatDoor
open Go Go.RowKit Go.Proofs.Tryz
open Go.Value renaming slice→qz,bool→qa
set_option linter.unusedVariables false
set_option linter.unusedSimpArgs false
section
set_option maxRecDepth 100000
theorem Wm:ElemT prog 153 155 6 48:=⟨underlying153,FC jV⟩
theorem DP (x0 x1:Nat):Instr.fill (λi=>some (i*1,1)) (Ay ((0,0):P2)).toArray [(0,vN x0),(1,vN x1)]=some (Ay (x0,x1)).toArray:=by kernel_rfl
theorem By (x0 x1 x2:P2):Instr.fill (λi=>some (i*2,2)) (A7 (((0,0),(0,0),(0,0)):P2×P2×P2)).toArray [(0,.agg (Ay x0).toArray),(1,.agg (Ay x1).toArray),(2,.agg (Ay x2).toArray)]=some (A7 (x0,x1,x2)).toArray:=by kernel_rfl
theorem GZ (x0 x1:P2×P2×P2):Instr.fill (λi=>some (i*6,6)) ((Array.range (2*6)).map ((Value.agg (A7 (((0,0),(0,0),(0,0)):P2×P2×P2)).toArray).cells[·%(Value.agg (A7 (((0,0),(0,0),(0,0)):P2×P2×P2)).toArray).cells.size]!)) [(0,.agg (A7 x0).toArray),(1,.agg (A7 x1).toArray)]=some (A7 x0++A7 x1).toArray:=by kernel_rfl
theorem J2 (x0 x1 x2 x3:P2×P2×P2):Instr.fill (λi=>some (i*6,6)) ((Array.range (4*6)).map ((Value.agg (A7 (((0,0),(0,0),(0,0)):P2×P2×P2)).toArray).cells[·%(Value.agg (A7 (((0,0),(0,0),(0,0)):P2×P2×P2)).toArray).cells.size]!)) [(0,.agg (A7 x0).toArray),(1,.agg (A7 x1).toArray),(2,.agg (A7 x2).toArray),(3,.agg (A7 x3).toArray)]=some (A7 x0++A7 x1++A7 x2++A7 x3).toArray:=by kernel_rfl
set_option maxHeartbeats 1000000 in
theorem Su (m:MQ) (w:World) {S:Nat->Prop} (hm:Ro S w m):Calls prog 81 #[(aG (E2 m))] w (BP (RX (rowsL A7 (Aw m)) (Aw m).length) S w):=by
 obtain ⟨X,hX⟩:∃X,X=GA m:=⟨_,rfl⟩
 obtain ⟨Y,hY⟩:∃Y,Y=S4 m:=⟨_,rfl⟩
 have hx1:=JB m
 have hy1:=JC m
 have hxy:=JY m
 rw [<-hX] at hx1 hxy
 rw [<-hY] at hy1 hxy
 have lm:=DT (W:=w) hm
 refine Ag (args:=[(aG (E2 m))]) (L:=[AN m.p (DC m.cs)]) func81 O O (A_ O) (DU hm Az) (zM (sL [0] O) (q4 (BV (cs:=E2 m) O λb1=>asg' O (q3 (sL [1,2] O) (AD (v:=(pP b1 0)) (AA O underlying26 O sizeOf5 O) O (BG 0 (vK .u8 m.nx) Wo O (AD (CE (c:=((m.nx%3:Nat):Int)) O O Z (JH (a:=m.nx) (b:=3))) O (AD (Aq (c:=((m.nx%3:Nat):Int)) O underlying5 underlying3 (CP Z)) O (AD (AS (c:=((1+(m.nx%3):Nat):Int)) O O (AV (a:=1) (b:=m.nx%3) Z)) O (zL (k:=19) (u:=(vN X)) O (by rw [hX];rfl) ?_))))))))))
 refine asg' O (q3 (sL [1,2,3] O) (AD (v:=(pP b1 1)) (AA O underlying26 O sizeOf5 O) O (BG 0 (vK .u8 m.ny) Wo O (AD (CE (c:=((m.ny%3:Nat):Int)) O O Z (JH (a:=m.ny) (b:=3))) O (AD (Aq (c:=((m.ny%3:Nat):Int)) O underlying5 underlying3 (CP Z)) O (AD (AS (c:=((1+(m.ny%3):Nat):Int)) O O (AV (a:=1) (b:=m.ny%3) Z)) O (zL (k:=24) (u:=(vN Y)) O (by rw [hY];rfl) (asg' O (q3 (sL [1,2,3,4] O) (asg' O (z6 155 6 ?_)))))))))))
 refine oNl' (q1 (q4 (asg' O (oNl' (zA (zI ?_))))))
 refine yR (tg λ(i:Nat) (p:Option Addr) (c:Nat) (out:List (P2×P2×P2))=>i<=X*Y/\OwnOk p out.length c/\out=EG m i) (tg λ(i:Nat) (p:Option Addr) (c:Nat) (out:List (P2×P2×P2))=>[(1,(pP b1 0)),(2,jj),(3,(vN X)),(4,(vN Y)),(6,(vN i)),(5,(qz p out.length c))]) (tg λ(i:Nat) (p:Option Addr) (c:Nat) (out:List (P2×P2×P2))=>[rowW p 155 6 out.length c (rowsL A7 out),AY b1 26 (E2 m),AN m.p (DC m.cs)]) (tg λ(i:Nat) (p:Option Addr) (c:Nat) (out:List (P2×P2×P2))=>X*Y-i) 0 none 0 ([]:List (P2×P2×P2)) (⟨Z,OwnOk.none,rfl⟩) (sF O) sr (λi p c out hJ=>?_)
 obtain ⟨hi,ho,hout⟩:=hJ
 have hlen:=Hs m i
 rw [<-hout] at hlen
 refine zX (q4 (AL O (AL O (AL O (AD (Bo (c:=((X*Y:Nat):Int)) O O (Cr (a:=X) (b:=Y) (by exact Nat.lt_of_le_of_lt hxy jY))) O (AD (Ab (c:=(decide (i<(X*Y)))) O O (DA (a:=i) (b:=X*Y))) O (oNl' (zB (sL [1,2,3,4,6,5,29] O) (zA ?_)))))))))
 refine zK O (λhc0=>?_) (λhc0=>?_)
 ·replace hc0:=xT hc0
  refine zC (q1 (zI (q4 (asg' O (oNl' (q1 (q4 (AD (v:=(pP b1 2)) (AA O underlying26 O sizeOf22 O) O (BG 1 (qz m.p m.cs.length m.cap) bC O (AD (v:=(vN m.cs.length)) (AE O underlying22) O (AD (Da (c:=(decide (0<m.cs.length))) O O (DA (a:=0) (b:=m.cs.length))) O ?_)))))))))))
  refine oNl' (zB (sL [1,2,3,4,6,5,7,35] O) (zA ?_))
  refine yG (tg λ(wy:Nat)=>wy=Gg m i) (tg λ(wy:Nat)=>[(1,(pP b1 0)),(2,jj),(3,(vN X)),(4,(vN Y)),(6,(vN i)),(5,(qz p out.length c)),(7,(vK .u8 wy))]) (tg λ(wy:Nat)=>[rowW p 155 6 out.length c (rowsL A7 out),AY b1 26 (E2 m),AN m.p (DC m.cs)]) ?_ ?_
  ·refine zK O (λhc1=>?_) (λhc1=>?_)
   ·replace hc1:=xT hc1
    refine C8 (El 11) sr (Al (v:=(pP b1 2)) O (AA O underlying26 O sizeOf22 O) (BQ 1 (qz m.p m.cs.length m.cap) bC O (Bp O (Al (v:=(pP b1 2)) O (AA O underlying26 O sizeOf22 O) (BQ 1 (qz m.p m.cs.length m.cap) bC O (Al (v:=(vN m.cs.length)) O (AE O underlying22) (Al O (CE (c:=((i%m.cs.length:Nat):Int)) O O Z (JH (a:=i) (b:=m.cs.length))) (Al (v:=(pP (pB m.p) (pO m.p+(i%m.cs.length)*1))) O (AO (j:=i%m.cs.length) O O m.ok underlying22 sizeOf5 O (by exact Nat.mod_lt _ hc1)) (Al O (BA (v:=(vK .u8 (m.cs.getD (i%m.cs.length) 0))) (i:=2) O O (m.ok.ne (by first|exact Nat.mod_lt i hc1|exact hc1)) Wo (UX (by first|exact Nat.mod_lt i hc1|exact hc1))) (Al O (CE (c:=(((m.cs.getD (i%m.cs.length) 0)%8:Nat):Int)) O O Z (JH (a:=m.cs.getD (i%m.cs.length) 0) (b:=8))) (pS' O ?_)))))))))))
    exact zQ (zB (sL [1,2,3,4,6,5,7] O) (zh ((m.cs.getD (i%m.cs.length) 0)%8) (by unfold Gg;first|rw [if_pos hc1]|rw [if_neg hc1]) (sF O) sr))
   ·replace hc1:=xS hc1
    exact zC (zh 0 (by unfold Gg;first|rw [if_pos hc1]|rw [if_neg hc1]) (sF O) sr)
  ·intro wy hJ
   have hw:=hJ
   have hw8:=R_ m i
   rw [<-hw] at hw8
   refine q2 (AL O (AL O ?_))
   obtain ⟨u,hu⟩:∃u,u=i%X:=⟨_,rfl⟩
   have hu2:u<X:=by rw [hu];exact Nat.mod_lt _ Z
   refine AD (CE (c:=((u:Nat):Int)) O O Z (by rw [hu];exact JH (a:=i) (b:=X))) O (AD (Bo (c:=((2*u:Nat):Int)) O O (Cr (a:=2) (b:=u) Z)) O (asg' O (q3 (sL [1,2,3,4,6,5,7,8] O) (AL O (AL O ?_)))))
   obtain ⟨v,hv⟩:∃v,v=i/X:=⟨_,rfl⟩
   have hv2:v<=9:=by rw [hv];exact xM (Nat.div_le_self _ _) Z
   refine AD (Gn (c:=((v:Nat):Int)) O O Z (by rw [hv];exact PU (a:=i) (b:=X) Z)) O (AD (Bo (c:=((2*v:Nat):Int)) O O (Cr (a:=2) (b:=v) Z)) O (asg' O (q3 (sL [1,2,3,4,6,5,7,8,9] O) (AL O (AL O (AD (v:=(aG (Ay (2*u,2*v)))) (Ao (zs:=Ay ((0,0):P2)) (vs:=Ay (2*u,2*v)) (pv:=[(0,(vN (2*u))),(1,(vN (2*v)))]) zeroValue72 underlying72 sizeOf3 O (DP (2*u) (2*v))) O (al Pe O λb2=>Ah O sizeOf72 O (q3 (sL [1,2,3,4,6,5,7,8,9,10] O) (AL O (AD (AS (c:=(((2*u)+2:Nat):Int)) O O (AV (a:=2*u) (b:=2) Z)) O ?_))))))))))
   refine AL O (AD (v:=(aG (Ay ((2*u)+2,2*v)))) (Ao (zs:=Ay ((0,0):P2)) (vs:=Ay ((2*u)+2,2*v)) (pv:=[(0,(vN ((2*u)+2))),(1,(vN (2*v)))]) zeroValue72 underlying72 sizeOf3 O (DP ((2*u)+2) (2*v))) O (al Pe O λb3=>Ah O sizeOf72 O (q3 (sL [1,2,3,4,6,5,7,8,9,10,11] O) (AL O (AD (AS (c:=(((2*u)+2:Nat):Int)) O O (AV (a:=2*u) (b:=2) Z)) O (AL O (AD (AS (c:=(((2*v)+2:Nat):Int)) O O (AV (a:=2*v) (b:=2) Z)) O (AD (v:=(aG (Ay ((2*u)+2,(2*v)+2)))) (Ao (zs:=Ay ((0,0):P2)) (vs:=Ay ((2*u)+2,(2*v)+2)) (pv:=[(0,(vN ((2*u)+2))),(1,(vN ((2*v)+2)))]) zeroValue72 underlying72 sizeOf3 O (DP ((2*u)+2) ((2*v)+2))) O (al Pe O λb4=>Ah O sizeOf72 O ?_)))))))))
   refine q3 (sL [1,2,3,4,6,5,7,8,9,10,11,12] O) (AL O (AL O (AD (AS (c:=(((2*v)+2:Nat):Int)) O O (AV (a:=2*v) (b:=2) Z)) O (AD (v:=(aG (Ay (2*u,(2*v)+2)))) (Ao (zs:=Ay ((0,0):P2)) (vs:=Ay (2*u,(2*v)+2)) (pv:=[(0,(vN (2*u))),(1,(vN ((2*v)+2)))]) zeroValue72 underlying72 sizeOf3 O (DP (2*u) ((2*v)+2))) O (al Pe O λb5=>Ah O sizeOf72 O (q3 (sL [1,2,3,4,6,5,7,8,9,10,11,12,13] O) (AL O (AD (AS (c:=(((2*u)+1:Nat):Int)) O O (AV (a:=2*u) (b:=1) Z)) O (AL O (AD (AS (c:=(((2*v)+1:Nat):Int)) O O (AV (a:=2*v) (b:=1) Z)) O ?_))))))))))
   refine AD (v:=(aG (Ay ((2*u)+1,(2*v)+1)))) (Ao (zs:=Ay ((0,0):P2)) (vs:=Ay ((2*u)+1,(2*v)+1)) (pv:=[(0,(vN ((2*u)+1))),(1,(vN ((2*v)+1)))]) zeroValue72 underlying72 sizeOf3 O (DP ((2*u)+1) ((2*v)+1))) O (al Pe O λb6=>Ah O sizeOf72 O (oNl' (zB (sL [1,2,3,4,6,5,7,8,9,10,11,12,13,14] O) (zA (zI (q4 (AL O (AD (Ab (c:=(decide (wy<3))) O O (DA (a:=wy) (b:=3))) O (AL O ?_)))))))))
   refine zi (FM:=[(1,(pP b1 0)),(2,jj),(3,(vN X)),(4,(vN Y)),(6,(vN i)),(5,(qz p out.length c)),(7,(vK .u8 wy)),(8,(vN (2*u))),(9,(vN (2*v))),(10,(pP b2 0)),(11,(pP b3 0)),(12,(pP b4 0)),(13,(pP b5 0)),(14,(pP b6 0)),(76,(vK .u8 wy)),(77,(qa (decide (wy<3)))),(78,(qa (decide (wy<3)))),(85,(qa ((decide (wy<3))||((decide (wy=7))&&(decide (i=0))))))]) (LM:=[AY b6 72 (Ay ((2*u)+1,(2*v)+1)),AY b5 72 (Ay (2*u,(2*v)+2)),AY b4 72 (Ay ((2*u)+2,(2*v)+2)),AY b3 72 (Ay ((2*u)+2,2*v)),AY b2 72 (Ay (2*u,2*v)),rowW p 155 6 out.length c (rowsL A7 out),AY b1 26 (E2 m),AN m.p (DC m.cs)]) 7 ?_ ?_
   ·rcases xQ (decide (wy<3)) with hg1|hg1
    ·refine zL (k:=78) (u:=qa true) O (by rw [hg1]) ?_
     have hg1':=xT hg1
     exact BT O (BT O (BT O (yq (Pn O O O) O (A_ O) (yq (Pn O O O) O (A_ O) (BT O (AD (v:=(qa true)) (AX O O) O (oNl' (zT Cd (xR _)))))))))
    ·refine zL (k:=78) (u:=qa false) O (by rw [hg1]) ?_
     have hg1':=xS hg1
     refine Gq O (BI (v:=(qa (decide (wy=7)))) O (BM (c:=(decide (wy=7))) O O (O5 (a:=wy) (b:=7))) (Gq O ?_))
     refine zi (FM:=[(1,(pP b1 0)),(2,jj),(3,(vN X)),(4,(vN Y)),(6,(vN i)),(5,(qz p out.length c)),(7,(vK .u8 wy)),(8,(vN (2*u))),(9,(vN (2*v))),(10,(pP b2 0)),(11,(pP b3 0)),(12,(pP b4 0)),(13,(pP b5 0)),(14,(pP b6 0)),(76,(vK .u8 wy)),(77,(qa (decide (wy<3)))),(78,(qa false)),(79,(vK .u8 wy)),(80,(qa (decide (wy=7)))),(81,(qa (decide (wy=7)))),(84,(qa ((decide (wy=7))&&(decide (i=0)))))]) (LM:=[AY b6 72 (Ay ((2*u)+1,(2*v)+1)),AY b5 72 (Ay (2*u,(2*v)+2)),AY b4 72 (Ay ((2*u)+2,(2*v)+2)),AY b3 72 (Ay ((2*u)+2,2*v)),AY b2 72 (Ay (2*u,2*v)),rowW p 155 6 out.length c (rowsL A7 out),AY b1 26 (E2 m),AN m.p (DC m.cs)]) 3 ?_ ?_
     ·rcases xQ (decide (wy=7)) with hg2|hg2
      ·refine zL (k:=81) (u:=qa true) O (by rw [hg2]) ?_
       have hg2':=xT hg2
       exact Gq O (BI (v:=(qa (decide (i=0)))) O (BM (c:=(decide (i=0))) O O (O5 (a:=i) (b:=0))) (BI (v:=(qa (decide (i=0)))) O (AX O O) (oNl' (zT It (xR _)))))
      ·refine zL (k:=81) (u:=qa false) O (by rw [hg2]) ?_
       have hg2':=xS hg2
       exact BT O (BT O (BI (v:=(qa false)) O (AP O O) (oNl' (zT It (xR _)))))
     exact AD (v:=(qa ((decide (wy=7))&&(decide (i=0))))) (AP O O) O (oNl' (zT Cd (xR _)))
   refine asg' O (oNl' (zB (sL [1,2,3,4,6,5,7,8,9,10,11,12,13,14,75] O) (zA ?_)))
   refine zK O (λhc2=>?_) (λhc2=>?_)
   ·simp only [jK] at hc2
    have hcell:=Xc hu hv (way:=wy) (by simpa using hc2)
    refine zH (AL O (Ak 4 Cl O (Ak 3 Cl O (Ak 2 Cl O (AD (v:=(aG (A7 ((2*u,2*v),((2*u)+2,2*v),((2*u)+2,(2*v)+2))))) (Ao (zs:=A7 (((0,0),(0,0),(0,0)):P2×P2×P2)) (vs:=A7 ((2*u,2*v),((2*u)+2,2*v),((2*u)+2,(2*v)+2))) (pv:=[(0,(aG (Ay (2*u,2*v)))),(1,(aG (Ay ((2*u)+2,2*v)))),(2,(aG (Ay ((2*u)+2,(2*v)+2))))]) zeroValue155 underlying155 sizeOf72 O (By (2*u,2*v) ((2*u)+2,2*v) ((2*u)+2,(2*v)+2))) O (Ak 4 Cl O (Ak 2 Cl O (Ak 1 Cl O (AD (v:=(aG (A7 ((2*u,2*v),((2*u)+2,(2*v)+2),(2*u,(2*v)+2))))) (Ao (zs:=A7 (((0,0),(0,0),(0,0)):P2×P2×P2)) (vs:=A7 ((2*u,2*v),((2*u)+2,(2*v)+2),(2*u,(2*v)+2))) (pv:=[(0,(aG (Ay (2*u,2*v)))),(1,(aG (Ay ((2*u)+2,(2*v)+2)))),(2,(aG (Ay (2*u,(2*v)+2))))]) zeroValue155 underlying155 sizeOf72 O (By (2*u,2*v) ((2*u)+2,(2*v)+2) (2*u,(2*v)+2))) O (ze (V:=λb7=>(qz (jk b7) 2 2)) (T:=155) (cs:=A7 ((2*u,2*v),((2*u)+2,2*v),((2*u)+2,(2*v)+2))++A7 ((2*u,2*v),((2*u)+2,(2*v)+2),(2*u,(2*v)+2))) (AI O) (Ax (z:=.agg (A7 (((0,0),(0,0),(0,0)):P2×P2×P2)).toArray) (cs:=A7 ((2*u,2*v),((2*u)+2,2*v),((2*u)+2,(2*v)+2))++A7 ((2*u,2*v),((2*u)+2,(2*v)+2),(2*u,(2*v)+2))) (pv:=[(0,(aG (A7 ((2*u,2*v),((2*u)+2,2*v),((2*u)+2,(2*v)+2))))),(1,(aG (A7 ((2*u,2*v),((2*u)+2,(2*v)+2),(2*u,(2*v)+2)))))]) underlying153 sizeOf155 zeroValue155 jY jY O (GZ ((2*u,2*v),((2*u)+2,2*v),((2*u)+2,(2*v)+2)) ((2*u,2*v),((2*u)+2,(2*v)+2),(2*u,(2*v)+2)))) O (A_ O) λb7=>zw 6 (j:=0) (cs2:=rowsL A7 (out++[((2*u,2*v),((2*u)+2,2*v),((2*u)+2,(2*v)+2)),((2*u,2*v),((2*u)+2,(2*v)+2),(2*u,(2*v)+2))])) Wm O ho (AZ F8 _) O O O O O jY (Ma Z) Z (by rw [Bb];rfl) O λp_1 c_1 ho_1 hne_1=>?_))))))))))
    refine asg' O (oNl' (zB (sL [1,2,3,4,6,5,7,8,9,10,11,12,13,14] O) (zF (zF (zA (zH (AL O (AD (AS (c:=((i+1:Nat):Int)) O O (AV (a:=i) (b:=1) Z)) O (asg' O (oNl' (zB (sL [1,2,3,4,6,5,7,8,9,10,11,12,13,14] O) ?_)))))))))))
    rw [show out.length+2=(out++[((2*u,2*v),((2*u)+2,2*v),((2*u)+2,(2*v)+2)),((2*u,2*v),((2*u)+2,(2*v)+2),(2*u,(2*v)+2))]).length by simp]
    exact z8 (i+1) p_1 c_1 (out++[((2*u,2*v),((2*u)+2,2*v),((2*u)+2,(2*v)+2)),((2*u,2*v),((2*u)+2,(2*v)+2),(2*u,(2*v)+2))]) (⟨Z,(by simpa using ho_1),by rw [hout];show _=EG m i++Co (GA m) (Gg m i) i;rw [<-hX,<-hw,hcell]⟩) Z (sF O) (sl (sl (sl (sl (sl (sl sr))))))
   ·simp only [jK] at hc2
    have h20:¬(wy<3\/(wy=7/\i=0)):=by simp at hc2;omega
    refine q4 (AL O (AD (Ab (c:=(decide (wy<5))) O O (DA (a:=wy) (b:=5))) O (asg' O (oNl' (zB (sL [1,2,3,4,6,5,7,8,9,10,11,12,13,14,97] O) (zA ?_))))))
    refine zK O (λhc3=>?_) (λhc3=>?_)
    ·replace hc3:=xT hc3
     have hcell:=Xd hu hv h20 (by simpa using hc3)
     refine zH (AL O (Ak 4 Cl O (Ak 3 Cl O (Ak 1 Cl O (AD (v:=(aG (A7 ((2*u,2*v),((2*u)+2,2*v),(2*u,(2*v)+2))))) (Ao (zs:=A7 (((0,0),(0,0),(0,0)):P2×P2×P2)) (vs:=A7 ((2*u,2*v),((2*u)+2,2*v),(2*u,(2*v)+2))) (pv:=[(0,(aG (Ay (2*u,2*v)))),(1,(aG (Ay ((2*u)+2,2*v)))),(2,(aG (Ay (2*u,(2*v)+2))))]) zeroValue155 underlying155 sizeOf72 O (By (2*u,2*v) ((2*u)+2,2*v) (2*u,(2*v)+2))) O (Ak 3 Cl O (Ak 2 Cl O (Ak 1 Cl O (AD (v:=(aG (A7 (((2*u)+2,2*v),((2*u)+2,(2*v)+2),(2*u,(2*v)+2))))) (Ao (zs:=A7 (((0,0),(0,0),(0,0)):P2×P2×P2)) (vs:=A7 (((2*u)+2,2*v),((2*u)+2,(2*v)+2),(2*u,(2*v)+2))) (pv:=[(0,(aG (Ay ((2*u)+2,2*v)))),(1,(aG (Ay ((2*u)+2,(2*v)+2)))),(2,(aG (Ay (2*u,(2*v)+2))))]) zeroValue155 underlying155 sizeOf72 O (By ((2*u)+2,2*v) ((2*u)+2,(2*v)+2) (2*u,(2*v)+2))) O (ze (V:=λb7=>(qz (jk b7) 2 2)) (T:=155) (cs:=A7 ((2*u,2*v),((2*u)+2,2*v),(2*u,(2*v)+2))++A7 (((2*u)+2,2*v),((2*u)+2,(2*v)+2),(2*u,(2*v)+2))) (AI O) (Ax (z:=.agg (A7 (((0,0),(0,0),(0,0)):P2×P2×P2)).toArray) (cs:=A7 ((2*u,2*v),((2*u)+2,2*v),(2*u,(2*v)+2))++A7 (((2*u)+2,2*v),((2*u)+2,(2*v)+2),(2*u,(2*v)+2))) (pv:=[(0,(aG (A7 ((2*u,2*v),((2*u)+2,2*v),(2*u,(2*v)+2))))),(1,(aG (A7 (((2*u)+2,2*v),((2*u)+2,(2*v)+2),(2*u,(2*v)+2)))))]) underlying153 sizeOf155 zeroValue155 jY jY O (GZ ((2*u,2*v),((2*u)+2,2*v),(2*u,(2*v)+2)) (((2*u)+2,2*v),((2*u)+2,(2*v)+2),(2*u,(2*v)+2)))) O (A_ O) λb7=>zw 6 (j:=0) (cs2:=rowsL A7 (out++[((2*u,2*v),((2*u)+2,2*v),(2*u,(2*v)+2)),(((2*u)+2,2*v),((2*u)+2,(2*v)+2),(2*u,(2*v)+2))])) Wm O ho (AZ F8 _) O O O O O jY (Ma Z) Z (by rw [Bb];rfl) O λp_2 c_2 ho_2 hne_2=>?_))))))))))
     refine asg' O (oNl' (zB (sL [1,2,3,4,6,5,7,8,9,10,11,12,13,14] O) (zF (zF (zA (zH (AL O (AD (AS (c:=((i+1:Nat):Int)) O O (AV (a:=i) (b:=1) Z)) O (asg' O (oNl' (zB (sL [1,2,3,4,6,5,7,8,9,10,11,12,13,14] O) ?_)))))))))))
     rw [show out.length+2=(out++[((2*u,2*v),((2*u)+2,2*v),(2*u,(2*v)+2)),(((2*u)+2,2*v),((2*u)+2,(2*v)+2),(2*u,(2*v)+2))]).length by simp]
     exact z8 (i+1) p_2 c_2 (out++[((2*u,2*v),((2*u)+2,2*v),(2*u,(2*v)+2)),(((2*u)+2,2*v),((2*u)+2,(2*v)+2),(2*u,(2*v)+2))]) (⟨Z,(by simpa using ho_2),by rw [hout];show _=EG m i++Co (GA m) (Gg m i) i;rw [<-hX,<-hw,hcell]⟩) Z (sF O) (sl (sl (sl (sl (sl (sl sr))))))
    ·replace hc3:=xS hc3
     have h30:¬wy<5:=by simpa using hc3
     refine q4 (AL O (AD (Ab (c:=(decide (wy<7))) O O (DA (a:=wy) (b:=7))) O (asg' O (oNl' (zB (sL [1,2,3,4,6,5,7,8,9,10,11,12,13,14,111] O) (zA ?_))))))
     refine zK O (λhc4=>?_) (λhc4=>?_)
     ·replace hc4:=xT hc4
      have hcell:=Xe hu hv h20 h30 (by simpa using hc4)
      refine zH (AL O (Ak 4 Cl O (Ak 3 Cl O (Ak 0 Cl O (AD (v:=(aG (A7 ((2*u,2*v),((2*u)+2,2*v),((2*u)+1,(2*v)+1))))) (Ao (zs:=A7 (((0,0),(0,0),(0,0)):P2×P2×P2)) (vs:=A7 ((2*u,2*v),((2*u)+2,2*v),((2*u)+1,(2*v)+1))) (pv:=[(0,(aG (Ay (2*u,2*v)))),(1,(aG (Ay ((2*u)+2,2*v)))),(2,(aG (Ay ((2*u)+1,(2*v)+1))))]) zeroValue155 underlying155 sizeOf72 O (By (2*u,2*v) ((2*u)+2,2*v) ((2*u)+1,(2*v)+1))) O (Ak 3 Cl O (Ak 2 Cl O (Ak 0 Cl O (AD (v:=(aG (A7 (((2*u)+2,2*v),((2*u)+2,(2*v)+2),((2*u)+1,(2*v)+1))))) (Ao (zs:=A7 (((0,0),(0,0),(0,0)):P2×P2×P2)) (vs:=A7 (((2*u)+2,2*v),((2*u)+2,(2*v)+2),((2*u)+1,(2*v)+1))) (pv:=[(0,(aG (Ay ((2*u)+2,2*v)))),(1,(aG (Ay ((2*u)+2,(2*v)+2)))),(2,(aG (Ay ((2*u)+1,(2*v)+1))))]) zeroValue155 underlying155 sizeOf72 O (By ((2*u)+2,2*v) ((2*u)+2,(2*v)+2) ((2*u)+1,(2*v)+1))) O (Ak 2 Cl O (Ak 1 Cl O ?_)))))))))))
      refine Ak 0 Cl O (AD (v:=(aG (A7 (((2*u)+2,(2*v)+2),(2*u,(2*v)+2),((2*u)+1,(2*v)+1))))) (Ao (zs:=A7 (((0,0),(0,0),(0,0)):P2×P2×P2)) (vs:=A7 (((2*u)+2,(2*v)+2),(2*u,(2*v)+2),((2*u)+1,(2*v)+1))) (pv:=[(0,(aG (Ay ((2*u)+2,(2*v)+2)))),(1,(aG (Ay (2*u,(2*v)+2)))),(2,(aG (Ay ((2*u)+1,(2*v)+1))))]) zeroValue155 underlying155 sizeOf72 O (By ((2*u)+2,(2*v)+2) (2*u,(2*v)+2) ((2*u)+1,(2*v)+1))) O (Ak 1 Cl O (Ak 4 Cl O (Ak 0 Cl O (AD (v:=(aG (A7 ((2*u,(2*v)+2),(2*u,2*v),((2*u)+1,(2*v)+1))))) (Ao (zs:=A7 (((0,0),(0,0),(0,0)):P2×P2×P2)) (vs:=A7 ((2*u,(2*v)+2),(2*u,2*v),((2*u)+1,(2*v)+1))) (pv:=[(0,(aG (Ay (2*u,(2*v)+2)))),(1,(aG (Ay (2*u,2*v)))),(2,(aG (Ay ((2*u)+1,(2*v)+1))))]) zeroValue155 underlying155 sizeOf72 O (By (2*u,(2*v)+2) (2*u,2*v) ((2*u)+1,(2*v)+1))) O (ze (V:=λb7=>(qz (jk b7) 4 4)) (T:=155) (cs:=A7 ((2*u,2*v),((2*u)+2,2*v),((2*u)+1,(2*v)+1))++A7 (((2*u)+2,2*v),((2*u)+2,(2*v)+2),((2*u)+1,(2*v)+1))++A7 (((2*u)+2,(2*v)+2),(2*u,(2*v)+2),((2*u)+1,(2*v)+1))++A7 ((2*u,(2*v)+2),(2*u,2*v),((2*u)+1,(2*v)+1))) (AI O) (Ax (z:=.agg (A7 (((0,0),(0,0),(0,0)):P2×P2×P2)).toArray) (cs:=A7 ((2*u,2*v),((2*u)+2,2*v),((2*u)+1,(2*v)+1))++A7 (((2*u)+2,2*v),((2*u)+2,(2*v)+2),((2*u)+1,(2*v)+1))++A7 (((2*u)+2,(2*v)+2),(2*u,(2*v)+2),((2*u)+1,(2*v)+1))++A7 ((2*u,(2*v)+2),(2*u,2*v),((2*u)+1,(2*v)+1))) (pv:=[(0,(aG (A7 ((2*u,2*v),((2*u)+2,2*v),((2*u)+1,(2*v)+1))))),(1,(aG (A7 (((2*u)+2,2*v),((2*u)+2,(2*v)+2),((2*u)+1,(2*v)+1))))),(2,(aG (A7 (((2*u)+2,(2*v)+2),(2*u,(2*v)+2),((2*u)+1,(2*v)+1))))),(3,(aG (A7 ((2*u,(2*v)+2),(2*u,2*v),((2*u)+1,(2*v)+1)))))]) underlying153 sizeOf155 zeroValue155 jY jY O (J2 ((2*u,2*v),((2*u)+2,2*v),((2*u)+1,(2*v)+1)) (((2*u)+2,2*v),((2*u)+2,(2*v)+2),((2*u)+1,(2*v)+1)) (((2*u)+2,(2*v)+2),(2*u,(2*v)+2),((2*u)+1,(2*v)+1)) ((2*u,(2*v)+2),(2*u,2*v),((2*u)+1,(2*v)+1)))) O (A_ O) λb7=>zw 6 (j:=0) (cs2:=rowsL A7 (out++[((2*u,2*v),((2*u)+2,2*v),((2*u)+1,(2*v)+1)),(((2*u)+2,2*v),((2*u)+2,(2*v)+2),((2*u)+1,(2*v)+1)),(((2*u)+2,(2*v)+2),(2*u,(2*v)+2),((2*u)+1,(2*v)+1)),((2*u,(2*v)+2),(2*u,2*v),((2*u)+1,(2*v)+1))])) Wm O ho (AZ F8 _) O O O O O jY (Ma Z) Z (by rw [Bb];rfl) O λp_3 c_3 ho_3 hne_3=>asg' O (oNl' (zB (sL [1,2,3,4,6,5,7,8,9,10,11,12,13,14] O) (zF ?_)))))))))
      refine zF (zA (zH (AL O (AD (AS (c:=((i+1:Nat):Int)) O O (AV (a:=i) (b:=1) Z)) O (asg' O (oNl' (zB (sL [1,2,3,4,6,5,7,8,9,10,11,12,13,14] O) ?_)))))))
      rw [show out.length+4=(out++[((2*u,2*v),((2*u)+2,2*v),((2*u)+1,(2*v)+1)),(((2*u)+2,2*v),((2*u)+2,(2*v)+2),((2*u)+1,(2*v)+1)),(((2*u)+2,(2*v)+2),(2*u,(2*v)+2),((2*u)+1,(2*v)+1)),((2*u,(2*v)+2),(2*u,2*v),((2*u)+1,(2*v)+1))]).length by simp]
      exact z8 (i+1) p_3 c_3 (out++[((2*u,2*v),((2*u)+2,2*v),((2*u)+1,(2*v)+1)),(((2*u)+2,2*v),((2*u)+2,(2*v)+2),((2*u)+1,(2*v)+1)),(((2*u)+2,(2*v)+2),(2*u,(2*v)+2),((2*u)+1,(2*v)+1)),((2*u,(2*v)+2),(2*u,2*v),((2*u)+1,(2*v)+1))]) (⟨Z,(by simpa using ho_3),by rw [hout];show _=EG m i++Co (GA m) (Gg m i) i;rw [<-hX,<-hw,hcell]⟩) Z (sF O) (sl (sl (sl (sl (sl (sl sr))))))
     ·replace hc4:=xS hc4
      have hcell:Co X wy i=[]:=Xf h20 h30 (by simpa using hc4)
      exact zC (zF (zF (zA (zH (AL O (AD (AS (c:=((i+1:Nat):Int)) O O (AV (a:=i) (b:=1) Z)) O (asg' O (oNl' (zB (sL [1,2,3,4,6,5,7,8,9,10,11,12,13,14] O) (z8 (i+1) p c out (⟨Z,(by simpa using ho),by rw [hout];show _=EG m i++Co (GA m) (Gg m i) i;rw [<-hX,<-hw,hcell];simp⟩) Z (sF O) (sl (sl (sl (sl (sl sr)))))))))))))))
 ·replace hc0:=xS hc0
  have hfin:out=Aw m:=by rw [hout];unfold Aw;rw [<-hX,<-hY,show i=X*Y by omega]
  exact zU (zO (yC (zP (q2 (AL O (asg' O (oNl' (zB (sL [1,2,3,4,6,5] O) (zA (zG (ret_one O (rd_tmp (v:=(qz p out.length c)) O) (λw hw=>(by rw [<-hfin];exact eD hw 0 O ho (AZ F8 _) O)))))))))))))
theorem GY (x0 x1 x2 x3:Int):Instr.fill (λi=>some (i*1,1)) (XC ((0,0,0,0):Int×Int×Int×Int)).toArray [(0,.int .i64 x0),(1,.int .i64 x1),(2,.int .i64 x2),(3,.int .i64 x3)]=some (XC (x0,x1,x2,x3)).toArray:=by kernel_rfl
theorem G7 (x0 x1:Int):Instr.fill (λi=>some (i*1,1)) (CT ((0,0):Int×Int)).toArray [(0,.int .i64 x0),(1,.int .i64 x1)]=some (CT (x0,x1)).toArray:=by kernel_rfl
theorem I6 (m:MQ) (p:P2) (hp:p.1<=6/\p.2<=6) (w:World) {S:Nat->Prop} (hm:Ro S w m):Calls prog 82 #[(aG (E2 m)),(aG (Ay p))] w (Ac w (aG (CT ((Gd m.a m.b m.c m.d).at_ p)))):=by
 obtain ⟨A,hA⟩:∃A,A=m.a.tmod 4:=⟨_,rfl⟩
 obtain ⟨B,hB⟩:∃A,A=m.b.tmod 4:=⟨_,rfl⟩
 obtain ⟨C,hC⟩:∃A,A=m.c.tmod 4:=⟨_,rfl⟩
 obtain ⟨D,hD⟩:∃A,A=m.d.tmod 4:=⟨_,rfl⟩
 have kA:=Jo m.a
 have kB:=Jo m.b
 have kC:=Jo m.c
 have kD:=Jo m.d
 rw [<-hA] at kA
 rw [<-hB] at kB
 rw [<-hC] at kC
 rw [<-hD] at kD
 have e1:=C7 kA (k:=3) kD
 have e2:=C7 kB (k:=3) kC
 have lm:=DT (W:=w) hm
 refine Ag (args:=[(aG (E2 m)),(aG (Ay p))]) (L:=[AN m.p (DC m.cs)]) func82 O O (A_ O) (DU hm Az) (zM (sL [0,1] O) (q4 (BV (cs:=E2 m) O λb1=>BV (cs:=Ay p) O λb2=>al eR O λb3=>q3 (sL [2,3,4] O) (AD (v:=(pP b1 3)) (AA O underlying26 O sizeOf24 O) O (AD (v:=(pP b1 3)) (AB (j:=0) O O underlying24 sizeOf23 O jY O) O (BG 2 (Value.int .i8 m.a) Y_ O (AD (CE (c:=A) O O jY hA.symm) O (AD (Aq (c:=A) O underlying23 underlying2 (BJ Z Z)) O ?_))))))))
 refine AD (v:=(pP b1 3)) (AA O underlying26 O sizeOf24 O) O (AD (v:=(pP b1 4)) (AB (j:=1) O O underlying24 sizeOf23 O jY O) O (BG 2 (Value.int .i8 m.b) Y_ O (AD (CE (c:=B) O O jY hB.symm) O (AD (Aq (c:=B) O underlying23 underlying2 (BJ Z Z)) O (AD (v:=(pP b1 3)) (AA O underlying26 O sizeOf24 O) O (AD (v:=(pP b1 5)) (AB (j:=2) O O underlying24 sizeOf23 O jY O) O (BG 2 (Value.int .i8 m.c) Y_ O (AD (CE (c:=C) O O jY hC.symm) O (AD (Aq (c:=C) O underlying23 underlying2 (BJ Z Z)) O (AD (v:=(pP b1 3)) (AA O underlying26 O sizeOf24 O) O (AD (v:=(pP b1 6)) (AB (j:=3) O O underlying24 sizeOf23 O jY O) O ?_)))))))))))
 refine BG 2 (Value.int .i8 m.d) Y_ O (AD (CE (c:=D) O O jY hD.symm) O (AD (Aq (c:=D) O underlying23 underlying2 (BJ Z Z)) O (AD (v:=(aG (XC (A,B,C,D)))) (Ao (zs:=XC ((0,0,0,0):Int×Int×Int×Int)) (vs:=XC (A,B,C,D)) (pv:=[(0,(vI A)),(1,(vI B)),(2,(vI C)),(3,(vI D))]) zeroValue210 underlying210 sizeOf2 O (GY A B C D)) O (al cm O λb4=>Ah O sizeOf210 O (q3 (sL [3,4,5] O) (AD (v:=(pP b4 0)) (AB (j:=0) O O underlying210 sizeOf2 O jY O) O (BG 0 (vI A) OO O (AD (v:=(pP b4 3)) (AB (j:=3) O O underlying210 sizeOf2 O jY O) O (BG 0 (vI D) OO O (AD (Bo (c:=(A*D)) O O (BJ Z Z)) O ?_))))))))))
 refine AD (v:=(pP b4 1)) (AB (j:=1) O O underlying210 sizeOf2 O jY O) O (BG 0 (vI B) OO O (AD (v:=(pP b4 2)) (AB (j:=2) O O underlying210 sizeOf2 O jY O) O (BG 0 (vI C) OO O (AD (Bo (c:=(B*C)) O O (BJ Z Z)) O (AD (Bt (c:=(A*D-B*C)) O O (BJ Z Z)) O (asg' O (q6 (sL [3,4,5,6] O) (q4 (AL O (AD (BM (c:=(decide ((A*D-B*C)=(0:Int)))) O O O) O (oNl' ?_)))))))))))
 refine zB (sL [3,4,5,6,42] O) (zA ?_)
 refine zK O (λhc0=>?_) (λhc0=>?_)
 ·replace hc0:=xT hc0
  have hz0:=hc0
  refine zH (AD (v:=(aG (XC ((1:Int),(0:Int),(0:Int),(1:Int))))) (Ao (zs:=XC ((0,0,0,0):Int×Int×Int×Int)) (vs:=XC ((1:Int),(0:Int),(0:Int),(1:Int))) (pv:=[(0,(vI 1)),(1,(vI 0)),(2,(vI 0)),(3,(vI 1))]) zeroValue210 underlying210 sizeOf2 O (GY (1:Int) (0:Int) (0:Int) (1:Int))) O (Ah O sizeOf210 O (q6 (sL [3,4,5,6] O) (q4 (AL O (AD (Ab (c:=(decide ((A*D-B*C)<(0:Int)))) O O O) O (oNl' (zB (sL [3,4,5,6,45] O) (zA ?_)))))))))
  refine yG (tg λ(K:DB)=>K=Gd m.a m.b m.c m.d) (tg λ(K:DB)=>[(3,(pP b2 0)),(4,(pP b3 0)),(5,(pP b4 0))]) (tg λ(K:DB)=>[AY b4 210 (XC (K.a,K.b,K.c,K.d)),AY b3 90 (CT ((0,0):Int×Int)),AY b2 72 (Ay p),AY b1 26 (E2 m),AN m.p (DC m.cs)]) ?_ ?_
  ·refine zK O (λhc1=>?_) (λhc1=>?_)
   ·replace hc1:=xT hc1
    refine q4 (AD (v:=(pP b4 2)) (AB (j:=2) O O underlying210 sizeOf2 O jY O) O (BG 0 (vI (0:Int)) OO O (AD (K2 (c:=(-C)) O (by first|(exfalso;omega)|(rw [Int.zero_sub];exact BJ Z Z))) O (AD (v:=(pP b4 2)) (AB (j:=2) O O underlying210 sizeOf2 O jY O) O (Fj 0 (off:=2) (vs:=[(vI (-C))]) (cs':=[(vI (1:Int)),(vI (0:Int)),(vI (-C)),(vI (1:Int))]) (AI O) O sizeOf2 O (oNl' (zB (sL [3,4,5,6] O) (zA (zH (AD (v:=(pP b4 3)) (AB (j:=3) O O underlying210 sizeOf2 O jY O) O (BG 0 (vI (1:Int)) OO O ?_)))))))))))
    exact AD (K2 (c:=(-D)) O (by first|(exfalso;omega)|(rw [Int.zero_sub];exact BJ Z Z))) O (AD (v:=(pP b4 3)) (AB (j:=3) O O underlying210 sizeOf2 O jY O) O (Fj 0 (off:=3) (vs:=[(vI (-D))]) (cs':=[(vI (1:Int)),(vI (0:Int)),(vI (-C)),(vI (-D))]) (AI O) O sizeOf2 O (oNl' (zB (sL [3,4,5,6] O) (zh (DB.mk (1:Int) (0:Int) (-C) (-D)) ((by first|(exfalso;omega)|exact (N9 hA hB hC hD hz0).symm|exact (N7 hA hB hC hD hc1).symm|exact (N8 hA hB hC hD hz0 hc1).symm)) (sF O) sr)))))
   ·replace hc1:=xS hc1
    exact zC (zh (DB.mk (1:Int) (0:Int) (0:Int) (1:Int)) ((by first|(exfalso;omega)|exact (N9 hA hB hC hD hz0).symm|exact (N7 hA hB hC hD hc1).symm|exact (N8 hA hB hC hD hz0 hc1).symm)) (sF O) sr)
  ·intro K hJ
   have hK:=hJ
   have kk:=Fe m.a m.b m.c m.d
   rw [<-hK] at kk
   have qz0:=C7 kk.a (k:=6) (b:=(p.1:Int)) Z
   have qz1:=C7 kk.b (k:=6) (b:=(p.2:Int)) Z
   have qz2:=C7 kk.c (k:=6) (b:=(p.1:Int)) Z
   have qz3:=C7 kk.d (k:=6) (b:=(p.2:Int)) Z
   refine q2 (AD (v:=(pP b2 0)) (AB (j:=0) O O underlying72 sizeOf3 O jY O) O (BG 2 (vN p.1) Bk O (asg' O (q3 (sL [3,4,5,7] O) (AD (v:=(pP b2 1)) (AB (j:=1) O O underlying72 sizeOf3 O jY O) O (BG 2 (vN p.2) Bk O (asg' O (q3 (sL [3,4,5,7,8] O) (AD (v:=(pP b4 0)) (AB (j:=0) O O underlying210 sizeOf2 O jY O) O (BG 0 (vI K.a) OO O (AL O ?_)))))))))))
   refine AD (Bo (c:=(K.a*(p.1:Int))) O O (BJ Z Z)) O (AD (v:=(pP b4 1)) (AB (j:=1) O O underlying210 sizeOf2 O jY O) O (BG 0 (vI K.b) OO O (AL O (AD (Bo (c:=(K.b*(p.2:Int))) O O (BJ Z Z)) O (AD (AS (c:=(K.a*(p.1:Int)+K.b*(p.2:Int))) O O (BJ Z Z)) O (AD (v:=(pP b4 2)) (AB (j:=2) O O underlying210 sizeOf2 O jY O) O (BG 0 (vI K.c) OO O (AL O (AD (Bo (c:=(K.c*(p.1:Int))) O O (BJ Z Z)) O (AD (v:=(pP b4 3)) (AB (j:=3) O O underlying210 sizeOf2 O jY O) O (BG 0 (vI K.d) OO O ?_)))))))))))
   exact AL O (AD (Bo (c:=(K.d*(p.2:Int))) O O (BJ Z Z)) O (AD (AS (c:=(K.c*(p.1:Int)+K.d*(p.2:Int))) O O (BJ Z Z)) O (AD (v:=(aG (CT (K.a*(p.1:Int)+K.b*(p.2:Int),K.c*(p.1:Int)+K.d*(p.2:Int))))) (Ao (zs:=CT ((0,0):Int×Int)) (vs:=CT (K.a*(p.1:Int)+K.b*(p.2:Int),K.c*(p.1:Int)+K.d*(p.2:Int))) (pv:=[(0,(vI (K.a*(p.1:Int)+K.b*(p.2:Int)))),(1,(vI (K.c*(p.1:Int)+K.d*(p.2:Int))))]) zeroValue90 underlying90 sizeOf2 O (G7 (K.a*(p.1:Int)+K.b*(p.2:Int)) (K.c*(p.1:Int)+K.d*(p.2:Int)))) O (CM O sizeOf90 O (oNl' (zB (sL [3,4,5] O) (zA (zG (ret_one O (An (i:=1) (cs:=CT (K.a*(p.1:Int)+K.b*(p.2:Int),K.c*(p.1:Int)+K.d*(p.2:Int))) O O isAgg90 sizeOf90 O) (λw hw=>⟨by rw [<-hK];rfl,hw.out⟩))))))))))
 ·replace hc0:=xS hc0
  have hz0:=hc0
  refine zC (q1 (q4 (AL O (AD (Ab (c:=(decide ((A*D-B*C)<(0:Int)))) O O O) O (oNl' (zB (sL [3,4,5,6,45] O) (zA ?_)))))))
  refine yG (tg λ(K:DB)=>K=Gd m.a m.b m.c m.d) (tg λ(K:DB)=>[(3,(pP b2 0)),(4,(pP b3 0)),(5,(pP b4 0))]) (tg λ(K:DB)=>[AY b4 210 (XC (K.a,K.b,K.c,K.d)),AY b3 90 (CT ((0,0):Int×Int)),AY b2 72 (Ay p),AY b1 26 (E2 m),AN m.p (DC m.cs)]) ?_ ?_
  ·refine zK O (λhc1=>?_) (λhc1=>?_)
   ·replace hc1:=xT hc1
    refine q4 (AD (v:=(pP b4 2)) (AB (j:=2) O O underlying210 sizeOf2 O jY O) O (BG 0 (vI C) OO O (AD (K2 (c:=(-C)) O (by first|(exfalso;omega)|(rw [Int.zero_sub];exact BJ Z Z))) O (AD (v:=(pP b4 2)) (AB (j:=2) O O underlying210 sizeOf2 O jY O) O (Fj 0 (off:=2) (vs:=[(vI (-C))]) (cs':=[(vI A),(vI B),(vI (-C)),(vI D)]) (AI O) O sizeOf2 O (oNl' (zB (sL [3,4,5,6] O) (zA (zH (AD (v:=(pP b4 3)) (AB (j:=3) O O underlying210 sizeOf2 O jY O) O (BG 0 (vI D) OO O ?_)))))))))))
    exact AD (K2 (c:=(-D)) O (by first|(exfalso;omega)|(rw [Int.zero_sub];exact BJ Z Z))) O (AD (v:=(pP b4 3)) (AB (j:=3) O O underlying210 sizeOf2 O jY O) O (Fj 0 (off:=3) (vs:=[(vI (-D))]) (cs':=[(vI A),(vI B),(vI (-C)),(vI (-D))]) (AI O) O sizeOf2 O (oNl' (zB (sL [3,4,5,6] O) (zh (DB.mk A B (-C) (-D)) ((by first|(exfalso;omega)|exact (N9 hA hB hC hD hz0).symm|exact (N7 hA hB hC hD hc1).symm|exact (N8 hA hB hC hD hz0 hc1).symm)) (sF O) sr)))))
   ·replace hc1:=xS hc1
    exact zC (zh (DB.mk A B C D) ((by first|(exfalso;omega)|exact (N9 hA hB hC hD hz0).symm|exact (N7 hA hB hC hD hc1).symm|exact (N8 hA hB hC hD hz0 hc1).symm)) (sF O) sr)
  ·intro K hJ
   have hK:=hJ
   have kk:=Fe m.a m.b m.c m.d
   rw [<-hK] at kk
   have qz0:=C7 kk.a (k:=6) (b:=(p.1:Int)) Z
   have qz1:=C7 kk.b (k:=6) (b:=(p.2:Int)) Z
   have qz2:=C7 kk.c (k:=6) (b:=(p.1:Int)) Z
   have qz3:=C7 kk.d (k:=6) (b:=(p.2:Int)) Z
   refine q2 (AD (v:=(pP b2 0)) (AB (j:=0) O O underlying72 sizeOf3 O jY O) O (BG 2 (vN p.1) Bk O (asg' O (q3 (sL [3,4,5,7] O) (AD (v:=(pP b2 1)) (AB (j:=1) O O underlying72 sizeOf3 O jY O) O (BG 2 (vN p.2) Bk O (asg' O (q3 (sL [3,4,5,7,8] O) (AD (v:=(pP b4 0)) (AB (j:=0) O O underlying210 sizeOf2 O jY O) O (BG 0 (vI K.a) OO O (AL O ?_)))))))))))
   refine AD (Bo (c:=(K.a*(p.1:Int))) O O (BJ Z Z)) O (AD (v:=(pP b4 1)) (AB (j:=1) O O underlying210 sizeOf2 O jY O) O (BG 0 (vI K.b) OO O (AL O (AD (Bo (c:=(K.b*(p.2:Int))) O O (BJ Z Z)) O (AD (AS (c:=(K.a*(p.1:Int)+K.b*(p.2:Int))) O O (BJ Z Z)) O (AD (v:=(pP b4 2)) (AB (j:=2) O O underlying210 sizeOf2 O jY O) O (BG 0 (vI K.c) OO O (AL O (AD (Bo (c:=(K.c*(p.1:Int))) O O (BJ Z Z)) O (AD (v:=(pP b4 3)) (AB (j:=3) O O underlying210 sizeOf2 O jY O) O (BG 0 (vI K.d) OO O ?_)))))))))))
   exact AL O (AD (Bo (c:=(K.d*(p.2:Int))) O O (BJ Z Z)) O (AD (AS (c:=(K.c*(p.1:Int)+K.d*(p.2:Int))) O O (BJ Z Z)) O (AD (v:=(aG (CT (K.a*(p.1:Int)+K.b*(p.2:Int),K.c*(p.1:Int)+K.d*(p.2:Int))))) (Ao (zs:=CT ((0,0):Int×Int)) (vs:=CT (K.a*(p.1:Int)+K.b*(p.2:Int),K.c*(p.1:Int)+K.d*(p.2:Int))) (pv:=[(0,(vI (K.a*(p.1:Int)+K.b*(p.2:Int)))),(1,(vI (K.c*(p.1:Int)+K.d*(p.2:Int))))]) zeroValue90 underlying90 sizeOf2 O (G7 (K.a*(p.1:Int)+K.b*(p.2:Int)) (K.c*(p.1:Int)+K.d*(p.2:Int)))) O (CM O sizeOf90 O (oNl' (zB (sL [3,4,5] O) (zA (zG (ret_one O (An (i:=1) (cs:=CT (K.a*(p.1:Int)+K.b*(p.2:Int),K.c*(p.1:Int)+K.d*(p.2:Int))) O O isAgg90 sizeOf90 O) (λw hw=>⟨by rw [<-hK];rfl,hw.out⟩))))))))))
end
end Go.Proofs.YtbfdamnfcmefmaaGreatDoor
