import Derived.Test.YtbfdamnfcmefmaaGreatDoorPart16
namespace Go.Proofs.YtbfdamnfcmefmaaGreatDoor
open Go Go.RowKit Go.Proofs.Tryz
open Go.Value renaming slice→qz,bool→qa
set_option linter.unusedVariables false
set_option linter.unusedSimpArgs false
section
set_option maxRecDepth 100000
theorem Wi:ElemT prog 153 155 6 48:=⟨underlying153,FC jV⟩
theorem DW (x0 x1:Nat):Instr.fill (λi=>some (i*1,1)) (Ay ((0,0):P2)).toArray [(0,vN x0),(1,vN x1)]=some (Ay (x0,x1)).toArray:=by kernel_rfl
theorem B4 (x0 x1 x2:P2):Instr.fill (λi=>some (i*2,2)) (A9 (((0,0),(0,0),(0,0)):P2×P2×P2)).toArray [(0,.agg (Ay x0).toArray),(1,.agg (Ay x1).toArray),(2,.agg (Ay x2).toArray)]=some (A9 (x0,x1,x2)).toArray:=by kernel_rfl
theorem Ge (x0 x1:P2×P2×P2):Instr.fill (λi=>some (i*6,6)) ((Array.range (2*6)).map ((Value.agg (A9 (((0,0),(0,0),(0,0)):P2×P2×P2)).toArray).cells[·%(Value.agg (A9 (((0,0),(0,0),(0,0)):P2×P2×P2)).toArray).cells.size]!)) [(0,.agg (A9 x0).toArray),(1,.agg (A9 x1).toArray)]=some (A9 x0++A9 x1).toArray:=by kernel_rfl
theorem J_ (x0 x1 x2 x3:P2×P2×P2):Instr.fill (λi=>some (i*6,6)) ((Array.range (4*6)).map ((Value.agg (A9 (((0,0),(0,0),(0,0)):P2×P2×P2)).toArray).cells[·%(Value.agg (A9 (((0,0),(0,0),(0,0)):P2×P2×P2)).toArray).cells.size]!)) [(0,.agg (A9 x0).toArray),(1,.agg (A9 x1).toArray),(2,.agg (A9 x2).toArray),(3,.agg (A9 x3).toArray)]=some (A9 x0++A9 x1++A9 x2++A9 x3).toArray:=by kernel_rfl
set_option maxHeartbeats 1000000 in
theorem Sv (m:MQ) (w:World) {S:Nat->Prop} (hm:Ro S w m):Calls prog 81 #[(aG (Ef m))] w (BS (RX (rowsL A9 (A6 m)) (A6 m).length) S w):=by
 obtain ⟨X,hX⟩:∃X,X=GD m:=⟨_,rfl⟩
 obtain ⟨Y,hY⟩:∃Y,Y=S6 m:=⟨_,rfl⟩
 have hx1:=JK m
 have hy1:=JL m
 have hxy:=Jg m
 rw [<-hX] at hx1 hxy
 rw [<-hY] at hy1 hxy
 have lm:=Db (W:=w) hm
 refine Ak (args:=[(aG (Ef m))]) (L:=[AP m.p (Ct m.cs)]) func81 O O (BE O) (De hm A_) (zM (sL [0] O) (q4 (BZ (cs:=Ef m) O λb1=>asg' O (q3 (sL [1,2] O) (AC (v:=(pP b1 0)) (AA O underlying26 O sizeOf5 O) O (BA 0 (vK .u8 m.nx) Wl O (AC (B7 (c:=((m.nx%3:Nat):Int)) O O Z (IE (a:=m.nx) (b:=3))) O (AC (Ar (c:=((m.nx%3:Nat):Int)) O underlying5 underlying3 (CC Z)) O (AC (AR (c:=((1+(m.nx%3):Nat):Int)) O O (AS (a:=1) (b:=m.nx%3) Z)) O (zK (k:=19) (u:=(vN X)) O (by rw [hX];rfl) ?_))))))))))
 refine asg' O (q3 (sL [1,2,3] O) (AC (v:=(pP b1 1)) (AA O underlying26 O sizeOf5 O) O (BA 0 (vK .u8 m.ny) Wl O (AC (B7 (c:=((m.ny%3:Nat):Int)) O O Z (IE (a:=m.ny) (b:=3))) O (AC (Ar (c:=((m.ny%3:Nat):Int)) O underlying5 underlying3 (CC Z)) O (AC (AR (c:=((1+(m.ny%3):Nat):Int)) O O (AS (a:=1) (b:=m.ny%3) Z)) O (zK (k:=24) (u:=(vN Y)) O (by rw [hY];rfl) (asg' O (q3 (sL [1,2,3,4] O) (asg' O (zy 155 6 ?_)))))))))))
 refine oNl' (q1 (q4 (asg' O (oNl' (zA (zI ?_))))))
 refine yR (tg λ(i:Nat) (p:Option Addr) (c:Nat) (out:List (P2×P2×P2))=>i<=X*Y/\OwnOk p out.length c/\out=EI m i) (tg λ(i:Nat) (p:Option Addr) (c:Nat) (out:List (P2×P2×P2))=>[(1,(pP b1 0)),(2,jj),(3,(vN X)),(4,(vN Y)),(6,(vN i)),(5,(qz p out.length c))]) (tg λ(i:Nat) (p:Option Addr) (c:Nat) (out:List (P2×P2×P2))=>[rowW p 155 6 out.length c (rowsL A9 out),AX b1 26 (Ef m),AP m.p (Ct m.cs)]) (tg λ(i:Nat) (p:Option Addr) (c:Nat) (out:List (P2×P2×P2))=>X*Y-i) 0 none 0 ([]:List (P2×P2×P2)) (⟨Z,OwnOk.none,rfl⟩) (sF O) sr (λi p c out hJ=>?_)
 obtain ⟨hi,ho,hout⟩:=hJ
 have hlen:=Hy m i
 rw [<-hout] at hlen
 refine zY (q4 (AM O (AM O (AM O (AC (Bv (c:=((X*Y:Nat):Int)) O O (DO (a:=X) (b:=Y) (by exact Nat.lt_of_le_of_lt hxy jY))) O (AC (Aa (c:=(decide (i<(X*Y)))) O O (DF (a:=i) (b:=X*Y))) O (oNl' (zB (sL [1,2,3,4,6,5,29] O) (zA ?_)))))))))
 refine zL O (λhc0=>?_) (λhc0=>?_)
 ·replace hc0:=xU hc0
  refine zC (q1 (zI (q4 (asg' O (oNl' (q1 (q4 (AC (v:=(pP b1 2)) (AA O underlying26 O sizeOf22 O) O (BA 1 (qz m.p m.cs.length m.cap) ap O (AC (v:=(vN m.cs.length)) (AE O underlying22) O (AC (D6 (c:=(decide (0<m.cs.length))) O O (DF (a:=0) (b:=m.cs.length))) O ?_)))))))))))
  refine oNl' (zB (sL [1,2,3,4,6,5,7,35] O) (zA ?_))
  refine yF (tg λ(wy:Nat)=>wy=Gm m i) (tg λ(wy:Nat)=>[(1,(pP b1 0)),(2,jj),(3,(vN X)),(4,(vN Y)),(6,(vN i)),(5,(qz p out.length c)),(7,(vK .u8 wy))]) (tg λ(wy:Nat)=>[rowW p 155 6 out.length c (rowsL A9 out),AX b1 26 (Ef m),AP m.p (Ct m.cs)]) ?_ ?_
  ·refine zL O (λhc1=>?_) (λhc1=>?_)
   ·replace hc1:=xU hc1
    refine C_ (Ek 11) sr (Aj (v:=(pP b1 2)) O (AA O underlying26 O sizeOf22 O) (BK 1 (qz m.p m.cs.length m.cap) ap O (Bx O (Aj (v:=(pP b1 2)) O (AA O underlying26 O sizeOf22 O) (BK 1 (qz m.p m.cs.length m.cap) ap O (Aj (v:=(vN m.cs.length)) O (AE O underlying22) (Aj O (B7 (c:=((i%m.cs.length:Nat):Int)) O O Z (IE (a:=i) (b:=m.cs.length))) (Aj (v:=(pP (pB m.p) (pO m.p+(i%m.cs.length)*1))) O (AO (j:=i%m.cs.length) O O m.ok underlying22 sizeOf5 O (by exact Nat.mod_lt _ hc1)) (Aj O (Au (v:=(vK .u8 (m.cs.getD (i%m.cs.length) 0))) (i:=2) O O (m.ok.ne (by first|exact Nat.mod_lt i hc1|exact hc1)) Wl (UU (by first|exact Nat.mod_lt i hc1|exact hc1))) (Aj O (B7 (c:=(((m.cs.getD (i%m.cs.length) 0)%8:Nat):Int)) O O Z (IE (a:=m.cs.getD (i%m.cs.length) 0) (b:=8))) (pS' O ?_)))))))))))
    exact zQ (zB (sL [1,2,3,4,6,5,7] O) (zj ((m.cs.getD (i%m.cs.length) 0)%8) (by unfold Gm;first|rw [if_pos hc1]|rw [if_neg hc1]) (sF O) sr))
   ·replace hc1:=xT hc1
    exact zC (zj 0 (by unfold Gm;first|rw [if_pos hc1]|rw [if_neg hc1]) (sF O) sr)
  ·intro wy hJ
   have hw:=hJ
   have hw8:=SB m i
   rw [<-hw] at hw8
   refine q2 (AM O (AM O ?_))
   obtain ⟨u,hu⟩:∃u,u=i%X:=⟨_,rfl⟩
   have hu2:u<X:=by rw [hu];exact Nat.mod_lt _ Z
   refine AC (B7 (c:=((u:Nat):Int)) O O Z (by rw [hu];exact IE (a:=i) (b:=X))) O (AC (Bv (c:=((2*u:Nat):Int)) O O (DO (a:=2) (b:=u) Z)) O (asg' O (q3 (sL [1,2,3,4,6,5,7,8] O) (AM O (AM O ?_)))))
   obtain ⟨v,hv⟩:∃v,v=i/X:=⟨_,rfl⟩
   have hv2:v<=9:=by rw [hv];exact xN (Nat.div_le_self _ _) Z
   refine AC (Gu (c:=((v:Nat):Int)) O O Z (by rw [hv];exact PU (a:=i) (b:=X) Z)) O (AC (Bv (c:=((2*v:Nat):Int)) O O (DO (a:=2) (b:=v) Z)) O (asg' O (q3 (sL [1,2,3,4,6,5,7,8,9] O) (AM O (AM O (AC (v:=(aG (Ay (2*u,2*v)))) (Af (zs:=Ay ((0,0):P2)) (vs:=Ay (2*u,2*v)) (pv:=[(0,(vN (2*u))),(1,(vN (2*v)))]) zeroValue72 underlying72 sizeOf3 O (DW (2*u) (2*v))) O (al OT O λb2=>Ah O sizeOf72 O (q3 (sL [1,2,3,4,6,5,7,8,9,10] O) (AM O (AC (AR (c:=(((2*u)+2:Nat):Int)) O O (AS (a:=2*u) (b:=2) Z)) O ?_))))))))))
   refine AM O (AC (v:=(aG (Ay ((2*u)+2,2*v)))) (Af (zs:=Ay ((0,0):P2)) (vs:=Ay ((2*u)+2,2*v)) (pv:=[(0,(vN ((2*u)+2))),(1,(vN (2*v)))]) zeroValue72 underlying72 sizeOf3 O (DW ((2*u)+2) (2*v))) O (al OT O λb3=>Ah O sizeOf72 O (q3 (sL [1,2,3,4,6,5,7,8,9,10,11] O) (AM O (AC (AR (c:=(((2*u)+2:Nat):Int)) O O (AS (a:=2*u) (b:=2) Z)) O (AM O (AC (AR (c:=(((2*v)+2:Nat):Int)) O O (AS (a:=2*v) (b:=2) Z)) O (AC (v:=(aG (Ay ((2*u)+2,(2*v)+2)))) (Af (zs:=Ay ((0,0):P2)) (vs:=Ay ((2*u)+2,(2*v)+2)) (pv:=[(0,(vN ((2*u)+2))),(1,(vN ((2*v)+2)))]) zeroValue72 underlying72 sizeOf3 O (DW ((2*u)+2) ((2*v)+2))) O (al OT O λb4=>Ah O sizeOf72 O ?_)))))))))
   refine q3 (sL [1,2,3,4,6,5,7,8,9,10,11,12] O) (AM O (AM O (AC (AR (c:=(((2*v)+2:Nat):Int)) O O (AS (a:=2*v) (b:=2) Z)) O (AC (v:=(aG (Ay (2*u,(2*v)+2)))) (Af (zs:=Ay ((0,0):P2)) (vs:=Ay (2*u,(2*v)+2)) (pv:=[(0,(vN (2*u))),(1,(vN ((2*v)+2)))]) zeroValue72 underlying72 sizeOf3 O (DW (2*u) ((2*v)+2))) O (al OT O λb5=>Ah O sizeOf72 O (q3 (sL [1,2,3,4,6,5,7,8,9,10,11,12,13] O) (AM O (AC (AR (c:=(((2*u)+1:Nat):Int)) O O (AS (a:=2*u) (b:=1) Z)) O (AM O (AC (AR (c:=(((2*v)+1:Nat):Int)) O O (AS (a:=2*v) (b:=1) Z)) O ?_))))))))))
   refine AC (v:=(aG (Ay ((2*u)+1,(2*v)+1)))) (Af (zs:=Ay ((0,0):P2)) (vs:=Ay ((2*u)+1,(2*v)+1)) (pv:=[(0,(vN ((2*u)+1))),(1,(vN ((2*v)+1)))]) zeroValue72 underlying72 sizeOf3 O (DW ((2*u)+1) ((2*v)+1))) O (al OT O λb6=>Ah O sizeOf72 O (oNl' (zB (sL [1,2,3,4,6,5,7,8,9,10,11,12,13,14] O) (zA (zI (q4 (AM O (AC (Aa (c:=(decide (wy<3))) O O (DF (a:=wy) (b:=3))) O (AM O ?_)))))))))
   refine zi (FM:=[(1,(pP b1 0)),(2,jj),(3,(vN X)),(4,(vN Y)),(6,(vN i)),(5,(qz p out.length c)),(7,(vK .u8 wy)),(8,(vN (2*u))),(9,(vN (2*v))),(10,(pP b2 0)),(11,(pP b3 0)),(12,(pP b4 0)),(13,(pP b5 0)),(14,(pP b6 0)),(76,(vK .u8 wy)),(77,(qa (decide (wy<3)))),(78,(qa (decide (wy<3)))),(85,(qa ((decide (wy<3))||((decide (wy=7))&&(decide (i=0))))))]) (LM:=[AX b6 72 (Ay ((2*u)+1,(2*v)+1)),AX b5 72 (Ay (2*u,(2*v)+2)),AX b4 72 (Ay ((2*u)+2,(2*v)+2)),AX b3 72 (Ay ((2*u)+2,2*v)),AX b2 72 (Ay (2*u,2*v)),rowW p 155 6 out.length c (rowsL A9 out),AX b1 26 (Ef m),AP m.p (Ct m.cs)]) 7 ?_ ?_
   ·rcases xR (decide (wy<3)) with hg1|hg1
    ·refine zK (k:=78) (u:=qa true) O (by rw [hg1]) ?_
     have hg1':=xU hg1
     exact BD O (BD O (BD O (yP (GC O O O) O (BE O) (yP (GC O O O) O (BE O) (BD O (AC (v:=(qa true)) (AQ O O) O (oNl' (zT Cc (xS _)))))))))
    ·refine zK (k:=78) (u:=qa false) O (by rw [hg1]) ?_
     have hg1':=xT hg1
     refine F0 O (Av (v:=(qa (decide (wy=7)))) O (BM (c:=(decide (wy=7))) O O (Mz (a:=wy) (b:=7))) (F0 O ?_))
     refine zi (FM:=[(1,(pP b1 0)),(2,jj),(3,(vN X)),(4,(vN Y)),(6,(vN i)),(5,(qz p out.length c)),(7,(vK .u8 wy)),(8,(vN (2*u))),(9,(vN (2*v))),(10,(pP b2 0)),(11,(pP b3 0)),(12,(pP b4 0)),(13,(pP b5 0)),(14,(pP b6 0)),(76,(vK .u8 wy)),(77,(qa (decide (wy<3)))),(78,(qa false)),(79,(vK .u8 wy)),(80,(qa (decide (wy=7)))),(81,(qa (decide (wy=7)))),(84,(qa ((decide (wy=7))&&(decide (i=0)))))]) (LM:=[AX b6 72 (Ay ((2*u)+1,(2*v)+1)),AX b5 72 (Ay (2*u,(2*v)+2)),AX b4 72 (Ay ((2*u)+2,(2*v)+2)),AX b3 72 (Ay ((2*u)+2,2*v)),AX b2 72 (Ay (2*u,2*v)),rowW p 155 6 out.length c (rowsL A9 out),AX b1 26 (Ef m),AP m.p (Ct m.cs)]) 3 ?_ ?_
     ·rcases xR (decide (wy=7)) with hg2|hg2
      ·refine zK (k:=81) (u:=qa true) O (by rw [hg2]) ?_
       have hg2':=xU hg2
       exact F0 O (Av (v:=(qa (decide (i=0)))) O (BM (c:=(decide (i=0))) O O (Mz (a:=i) (b:=0))) (Av (v:=(qa (decide (i=0)))) O (AQ O O) (oNl' (zT Hl (xS _)))))
      ·refine zK (k:=81) (u:=qa false) O (by rw [hg2]) ?_
       have hg2':=xT hg2
       exact BD O (BD O (Av (v:=(qa false)) O (AL O O) (oNl' (zT Hl (xS _)))))
     exact AC (v:=(qa ((decide (wy=7))&&(decide (i=0))))) (AL O O) O (oNl' (zT Cc (xS _)))
   refine asg' O (oNl' (zB (sL [1,2,3,4,6,5,7,8,9,10,11,12,13,14,75] O) (zA ?_)))
   refine zL O (λhc2=>?_) (λhc2=>?_)
   ·simp only [jK] at hc2
    have hcell:=XW hu hv (way:=wy) (by simpa using hc2)
    refine zD (AM O (Ai 4 Cp O (Ai 3 Cp O (Ai 2 Cp O (AC (v:=(aG (A9 ((2*u,2*v),((2*u)+2,2*v),((2*u)+2,(2*v)+2))))) (Af (zs:=A9 (((0,0),(0,0),(0,0)):P2×P2×P2)) (vs:=A9 ((2*u,2*v),((2*u)+2,2*v),((2*u)+2,(2*v)+2))) (pv:=[(0,(aG (Ay (2*u,2*v)))),(1,(aG (Ay ((2*u)+2,2*v)))),(2,(aG (Ay ((2*u)+2,(2*v)+2))))]) zeroValue155 underlying155 sizeOf72 O (B4 (2*u,2*v) ((2*u)+2,2*v) ((2*u)+2,(2*v)+2))) O (Ai 4 Cp O (Ai 2 Cp O (Ai 1 Cp O (AC (v:=(aG (A9 ((2*u,2*v),((2*u)+2,(2*v)+2),(2*u,(2*v)+2))))) (Af (zs:=A9 (((0,0),(0,0),(0,0)):P2×P2×P2)) (vs:=A9 ((2*u,2*v),((2*u)+2,(2*v)+2),(2*u,(2*v)+2))) (pv:=[(0,(aG (Ay (2*u,2*v)))),(1,(aG (Ay ((2*u)+2,(2*v)+2)))),(2,(aG (Ay (2*u,(2*v)+2))))]) zeroValue155 underlying155 sizeOf72 O (B4 (2*u,2*v) ((2*u)+2,(2*v)+2) (2*u,(2*v)+2))) O (ze (V:=λb7=>(qz (jk b7) 2 2)) (T:=155) (cs:=A9 ((2*u,2*v),((2*u)+2,2*v),((2*u)+2,(2*v)+2))++A9 ((2*u,2*v),((2*u)+2,(2*v)+2),(2*u,(2*v)+2))) (AK O) (A7 (z:=.agg (A9 (((0,0),(0,0),(0,0)):P2×P2×P2)).toArray) (cs:=A9 ((2*u,2*v),((2*u)+2,2*v),((2*u)+2,(2*v)+2))++A9 ((2*u,2*v),((2*u)+2,(2*v)+2),(2*u,(2*v)+2))) (pv:=[(0,(aG (A9 ((2*u,2*v),((2*u)+2,2*v),((2*u)+2,(2*v)+2))))),(1,(aG (A9 ((2*u,2*v),((2*u)+2,(2*v)+2),(2*u,(2*v)+2)))))]) underlying153 sizeOf155 zeroValue155 jY jY O (Ge ((2*u,2*v),((2*u)+2,2*v),((2*u)+2,(2*v)+2)) ((2*u,2*v),((2*u)+2,(2*v)+2),(2*u,(2*v)+2)))) O (BE O) λb7=>zu 6 (j:=0) (cs2:=rowsL A9 (out++[((2*u,2*v),((2*u)+2,2*v),((2*u)+2,(2*v)+2)),((2*u,2*v),((2*u)+2,(2*v)+2),(2*u,(2*v)+2))])) Wi O ho (Ac F_ _) O O O O O jY (Mb Z) Z (by rw [Ba];rfl) O λp_1 c_1 ho_1 hne_1=>?_))))))))))
    refine asg' O (oNl' (zB (sL [1,2,3,4,6,5,7,8,9,10,11,12,13,14] O) (zF (zF (zA (zD (AM O (AC (AR (c:=((i+1:Nat):Int)) O O (AS (a:=i) (b:=1) Z)) O (asg' O (oNl' (zB (sL [1,2,3,4,6,5,7,8,9,10,11,12,13,14] O) ?_)))))))))))
    rw [show out.length+2=(out++[((2*u,2*v),((2*u)+2,2*v),((2*u)+2,(2*v)+2)),((2*u,2*v),((2*u)+2,(2*v)+2),(2*u,(2*v)+2))]).length by simp]
    exact z7 (i+1) p_1 c_1 (out++[((2*u,2*v),((2*u)+2,2*v),((2*u)+2,(2*v)+2)),((2*u,2*v),((2*u)+2,(2*v)+2),(2*u,(2*v)+2))]) (⟨Z,(by simpa using ho_1),by rw [hout];show _=EI m i++Cu (GD m) (Gm m i) i;rw [<-hX,<-hw,hcell]⟩) Z (sF O) (sl (sl (sl (sl (sl (sl sr))))))
   ·simp only [jK] at hc2
    have h20:¬(wy<3\/(wy=7/\i=0)):=by simp at hc2;omega
    refine q4 (AM O (AC (Aa (c:=(decide (wy<5))) O O (DF (a:=wy) (b:=5))) O (asg' O (oNl' (zB (sL [1,2,3,4,6,5,7,8,9,10,11,12,13,14,97] O) (zA ?_))))))
    refine zL O (λhc3=>?_) (λhc3=>?_)
    ·replace hc3:=xU hc3
     have hcell:=XX hu hv h20 (by simpa using hc3)
     refine zD (AM O (Ai 4 Cp O (Ai 3 Cp O (Ai 1 Cp O (AC (v:=(aG (A9 ((2*u,2*v),((2*u)+2,2*v),(2*u,(2*v)+2))))) (Af (zs:=A9 (((0,0),(0,0),(0,0)):P2×P2×P2)) (vs:=A9 ((2*u,2*v),((2*u)+2,2*v),(2*u,(2*v)+2))) (pv:=[(0,(aG (Ay (2*u,2*v)))),(1,(aG (Ay ((2*u)+2,2*v)))),(2,(aG (Ay (2*u,(2*v)+2))))]) zeroValue155 underlying155 sizeOf72 O (B4 (2*u,2*v) ((2*u)+2,2*v) (2*u,(2*v)+2))) O (Ai 3 Cp O (Ai 2 Cp O (Ai 1 Cp O (AC (v:=(aG (A9 (((2*u)+2,2*v),((2*u)+2,(2*v)+2),(2*u,(2*v)+2))))) (Af (zs:=A9 (((0,0),(0,0),(0,0)):P2×P2×P2)) (vs:=A9 (((2*u)+2,2*v),((2*u)+2,(2*v)+2),(2*u,(2*v)+2))) (pv:=[(0,(aG (Ay ((2*u)+2,2*v)))),(1,(aG (Ay ((2*u)+2,(2*v)+2)))),(2,(aG (Ay (2*u,(2*v)+2))))]) zeroValue155 underlying155 sizeOf72 O (B4 ((2*u)+2,2*v) ((2*u)+2,(2*v)+2) (2*u,(2*v)+2))) O (ze (V:=λb7=>(qz (jk b7) 2 2)) (T:=155) (cs:=A9 ((2*u,2*v),((2*u)+2,2*v),(2*u,(2*v)+2))++A9 (((2*u)+2,2*v),((2*u)+2,(2*v)+2),(2*u,(2*v)+2))) (AK O) (A7 (z:=.agg (A9 (((0,0),(0,0),(0,0)):P2×P2×P2)).toArray) (cs:=A9 ((2*u,2*v),((2*u)+2,2*v),(2*u,(2*v)+2))++A9 (((2*u)+2,2*v),((2*u)+2,(2*v)+2),(2*u,(2*v)+2))) (pv:=[(0,(aG (A9 ((2*u,2*v),((2*u)+2,2*v),(2*u,(2*v)+2))))),(1,(aG (A9 (((2*u)+2,2*v),((2*u)+2,(2*v)+2),(2*u,(2*v)+2)))))]) underlying153 sizeOf155 zeroValue155 jY jY O (Ge ((2*u,2*v),((2*u)+2,2*v),(2*u,(2*v)+2)) (((2*u)+2,2*v),((2*u)+2,(2*v)+2),(2*u,(2*v)+2)))) O (BE O) λb7=>zu 6 (j:=0) (cs2:=rowsL A9 (out++[((2*u,2*v),((2*u)+2,2*v),(2*u,(2*v)+2)),(((2*u)+2,2*v),((2*u)+2,(2*v)+2),(2*u,(2*v)+2))])) Wi O ho (Ac F_ _) O O O O O jY (Mb Z) Z (by rw [Ba];rfl) O λp_2 c_2 ho_2 hne_2=>?_))))))))))
     refine asg' O (oNl' (zB (sL [1,2,3,4,6,5,7,8,9,10,11,12,13,14] O) (zF (zF (zA (zD (AM O (AC (AR (c:=((i+1:Nat):Int)) O O (AS (a:=i) (b:=1) Z)) O (asg' O (oNl' (zB (sL [1,2,3,4,6,5,7,8,9,10,11,12,13,14] O) ?_)))))))))))
     rw [show out.length+2=(out++[((2*u,2*v),((2*u)+2,2*v),(2*u,(2*v)+2)),(((2*u)+2,2*v),((2*u)+2,(2*v)+2),(2*u,(2*v)+2))]).length by simp]
     exact z7 (i+1) p_2 c_2 (out++[((2*u,2*v),((2*u)+2,2*v),(2*u,(2*v)+2)),(((2*u)+2,2*v),((2*u)+2,(2*v)+2),(2*u,(2*v)+2))]) (⟨Z,(by simpa using ho_2),by rw [hout];show _=EI m i++Cu (GD m) (Gm m i) i;rw [<-hX,<-hw,hcell]⟩) Z (sF O) (sl (sl (sl (sl (sl (sl sr))))))
    ·replace hc3:=xT hc3
     have h30:¬wy<5:=by simpa using hc3
     refine q4 (AM O (AC (Aa (c:=(decide (wy<7))) O O (DF (a:=wy) (b:=7))) O (asg' O (oNl' (zB (sL [1,2,3,4,6,5,7,8,9,10,11,12,13,14,111] O) (zA ?_))))))
     refine zL O (λhc4=>?_) (λhc4=>?_)
     ·replace hc4:=xU hc4
      have hcell:=XY hu hv h20 h30 (by simpa using hc4)
      refine zD (AM O (Ai 4 Cp O (Ai 3 Cp O (Ai 0 Cp O (AC (v:=(aG (A9 ((2*u,2*v),((2*u)+2,2*v),((2*u)+1,(2*v)+1))))) (Af (zs:=A9 (((0,0),(0,0),(0,0)):P2×P2×P2)) (vs:=A9 ((2*u,2*v),((2*u)+2,2*v),((2*u)+1,(2*v)+1))) (pv:=[(0,(aG (Ay (2*u,2*v)))),(1,(aG (Ay ((2*u)+2,2*v)))),(2,(aG (Ay ((2*u)+1,(2*v)+1))))]) zeroValue155 underlying155 sizeOf72 O (B4 (2*u,2*v) ((2*u)+2,2*v) ((2*u)+1,(2*v)+1))) O (Ai 3 Cp O (Ai 2 Cp O (Ai 0 Cp O (AC (v:=(aG (A9 (((2*u)+2,2*v),((2*u)+2,(2*v)+2),((2*u)+1,(2*v)+1))))) (Af (zs:=A9 (((0,0),(0,0),(0,0)):P2×P2×P2)) (vs:=A9 (((2*u)+2,2*v),((2*u)+2,(2*v)+2),((2*u)+1,(2*v)+1))) (pv:=[(0,(aG (Ay ((2*u)+2,2*v)))),(1,(aG (Ay ((2*u)+2,(2*v)+2)))),(2,(aG (Ay ((2*u)+1,(2*v)+1))))]) zeroValue155 underlying155 sizeOf72 O (B4 ((2*u)+2,2*v) ((2*u)+2,(2*v)+2) ((2*u)+1,(2*v)+1))) O (Ai 2 Cp O (Ai 1 Cp O ?_)))))))))))
      refine Ai 0 Cp O (AC (v:=(aG (A9 (((2*u)+2,(2*v)+2),(2*u,(2*v)+2),((2*u)+1,(2*v)+1))))) (Af (zs:=A9 (((0,0),(0,0),(0,0)):P2×P2×P2)) (vs:=A9 (((2*u)+2,(2*v)+2),(2*u,(2*v)+2),((2*u)+1,(2*v)+1))) (pv:=[(0,(aG (Ay ((2*u)+2,(2*v)+2)))),(1,(aG (Ay (2*u,(2*v)+2)))),(2,(aG (Ay ((2*u)+1,(2*v)+1))))]) zeroValue155 underlying155 sizeOf72 O (B4 ((2*u)+2,(2*v)+2) (2*u,(2*v)+2) ((2*u)+1,(2*v)+1))) O (Ai 1 Cp O (Ai 4 Cp O (Ai 0 Cp O (AC (v:=(aG (A9 ((2*u,(2*v)+2),(2*u,2*v),((2*u)+1,(2*v)+1))))) (Af (zs:=A9 (((0,0),(0,0),(0,0)):P2×P2×P2)) (vs:=A9 ((2*u,(2*v)+2),(2*u,2*v),((2*u)+1,(2*v)+1))) (pv:=[(0,(aG (Ay (2*u,(2*v)+2)))),(1,(aG (Ay (2*u,2*v)))),(2,(aG (Ay ((2*u)+1,(2*v)+1))))]) zeroValue155 underlying155 sizeOf72 O (B4 (2*u,(2*v)+2) (2*u,2*v) ((2*u)+1,(2*v)+1))) O (ze (V:=λb7=>(qz (jk b7) 4 4)) (T:=155) (cs:=A9 ((2*u,2*v),((2*u)+2,2*v),((2*u)+1,(2*v)+1))++A9 (((2*u)+2,2*v),((2*u)+2,(2*v)+2),((2*u)+1,(2*v)+1))++A9 (((2*u)+2,(2*v)+2),(2*u,(2*v)+2),((2*u)+1,(2*v)+1))++A9 ((2*u,(2*v)+2),(2*u,2*v),((2*u)+1,(2*v)+1))) (AK O) (A7 (z:=.agg (A9 (((0,0),(0,0),(0,0)):P2×P2×P2)).toArray) (cs:=A9 ((2*u,2*v),((2*u)+2,2*v),((2*u)+1,(2*v)+1))++A9 (((2*u)+2,2*v),((2*u)+2,(2*v)+2),((2*u)+1,(2*v)+1))++A9 (((2*u)+2,(2*v)+2),(2*u,(2*v)+2),((2*u)+1,(2*v)+1))++A9 ((2*u,(2*v)+2),(2*u,2*v),((2*u)+1,(2*v)+1))) (pv:=[(0,(aG (A9 ((2*u,2*v),((2*u)+2,2*v),((2*u)+1,(2*v)+1))))),(1,(aG (A9 (((2*u)+2,2*v),((2*u)+2,(2*v)+2),((2*u)+1,(2*v)+1))))),(2,(aG (A9 (((2*u)+2,(2*v)+2),(2*u,(2*v)+2),((2*u)+1,(2*v)+1))))),(3,(aG (A9 ((2*u,(2*v)+2),(2*u,2*v),((2*u)+1,(2*v)+1)))))]) underlying153 sizeOf155 zeroValue155 jY jY O (J_ ((2*u,2*v),((2*u)+2,2*v),((2*u)+1,(2*v)+1)) (((2*u)+2,2*v),((2*u)+2,(2*v)+2),((2*u)+1,(2*v)+1)) (((2*u)+2,(2*v)+2),(2*u,(2*v)+2),((2*u)+1,(2*v)+1)) ((2*u,(2*v)+2),(2*u,2*v),((2*u)+1,(2*v)+1)))) O (BE O) λb7=>zu 6 (j:=0) (cs2:=rowsL A9 (out++[((2*u,2*v),((2*u)+2,2*v),((2*u)+1,(2*v)+1)),(((2*u)+2,2*v),((2*u)+2,(2*v)+2),((2*u)+1,(2*v)+1)),(((2*u)+2,(2*v)+2),(2*u,(2*v)+2),((2*u)+1,(2*v)+1)),((2*u,(2*v)+2),(2*u,2*v),((2*u)+1,(2*v)+1))])) Wi O ho (Ac F_ _) O O O O O jY (Mb Z) Z (by rw [Ba];rfl) O λp_3 c_3 ho_3 hne_3=>asg' O (oNl' (zB (sL [1,2,3,4,6,5,7,8,9,10,11,12,13,14] O) (zF ?_)))))))))
      refine zF (zA (zD (AM O (AC (AR (c:=((i+1:Nat):Int)) O O (AS (a:=i) (b:=1) Z)) O (asg' O (oNl' (zB (sL [1,2,3,4,6,5,7,8,9,10,11,12,13,14] O) ?_)))))))
      rw [show out.length+4=(out++[((2*u,2*v),((2*u)+2,2*v),((2*u)+1,(2*v)+1)),(((2*u)+2,2*v),((2*u)+2,(2*v)+2),((2*u)+1,(2*v)+1)),(((2*u)+2,(2*v)+2),(2*u,(2*v)+2),((2*u)+1,(2*v)+1)),((2*u,(2*v)+2),(2*u,2*v),((2*u)+1,(2*v)+1))]).length by simp]
      exact z7 (i+1) p_3 c_3 (out++[((2*u,2*v),((2*u)+2,2*v),((2*u)+1,(2*v)+1)),(((2*u)+2,2*v),((2*u)+2,(2*v)+2),((2*u)+1,(2*v)+1)),(((2*u)+2,(2*v)+2),(2*u,(2*v)+2),((2*u)+1,(2*v)+1)),((2*u,(2*v)+2),(2*u,2*v),((2*u)+1,(2*v)+1))]) (⟨Z,(by simpa using ho_3),by rw [hout];show _=EI m i++Cu (GD m) (Gm m i) i;rw [<-hX,<-hw,hcell]⟩) Z (sF O) (sl (sl (sl (sl (sl (sl sr))))))
     ·replace hc4:=xT hc4
      have hcell:Cu X wy i=[]:=XZ h20 h30 (by simpa using hc4)
      exact zC (zF (zF (zA (zD (AM O (AC (AR (c:=((i+1:Nat):Int)) O O (AS (a:=i) (b:=1) Z)) O (asg' O (oNl' (zB (sL [1,2,3,4,6,5,7,8,9,10,11,12,13,14] O) (z7 (i+1) p c out (⟨Z,(by simpa using ho),by rw [hout];show _=EI m i++Cu (GD m) (Gm m i) i;rw [<-hX,<-hw,hcell];simp⟩) Z (sF O) (sl (sl (sl (sl (sl sr)))))))))))))))
 ·replace hc0:=xT hc0
  have hfin:out=A6 m:=by rw [hout];unfold A6;rw [<-hX,<-hY,show i=X*Y by omega]
  exact zU (zO (yB (zR (q2 (AM O (asg' O (oNl' (zB (sL [1,2,3,4,6,5] O) (zA (zH (ret_one O (rd_tmp (v:=(qz p out.length c)) O) (λw hw=>(by rw [<-hfin];exact dp hw 0 O ho (Ac F_ _) O)))))))))))))
theorem Gd (x0 x1 x2 x3:Int):Instr.fill (λi=>some (i*1,1)) (W9 ((0,0,0,0):Int×Int×Int×Int)).toArray [(0,.int .i64 x0),(1,.int .i64 x1),(2,.int .i64 x2),(3,.int .i64 x3)]=some (W9 (x0,x1,x2,x3)).toArray:=by kernel_rfl
theorem HA (x0 x1:Int):Instr.fill (λi=>some (i*1,1)) (CZ ((0,0):Int×Int)).toArray [(0,.int .i64 x0),(1,.int .i64 x1)]=some (CZ (x0,x1)).toArray:=by kernel_rfl
theorem JG (m:MQ) (p:P2) (hp:p.1<=6/\p.2<=6) (w:World) {S:Nat->Prop} (hm:Ro S w m):Calls prog 82 #[(aG (Ef m)),(aG (Ay p))] w (Ag w (aG (CZ ((Gj m.a m.b m.c m.d).at_ p)))):=by
 obtain ⟨A,hA⟩:∃A,A=m.a.tmod 4:=⟨_,rfl⟩
 obtain ⟨B,hB⟩:∃A,A=m.b.tmod 4:=⟨_,rfl⟩
 obtain ⟨C,hC⟩:∃A,A=m.c.tmod 4:=⟨_,rfl⟩
 obtain ⟨D,hD⟩:∃A,A=m.d.tmod 4:=⟨_,rfl⟩
 have kA:=Jw m.a
 have kB:=Jw m.b
 have kC:=Jw m.c
 have kD:=Jw m.d
 rw [<-hA] at kA
 rw [<-hB] at kB
 rw [<-hC] at kC
 rw [<-hD] at kD
 have e1:=DB kA (k:=3) kD
 have e2:=DB kB (k:=3) kC
 have lm:=Db (W:=w) hm
 refine Ak (args:=[(aG (Ef m)),(aG (Ay p))]) (L:=[AP m.p (Ct m.cs)]) func82 O O (BE O) (De hm A_) (zM (sL [0,1] O) (q4 (BZ (cs:=Ef m) O λb1=>BZ (cs:=Ay p) O λb2=>al eG O λb3=>q3 (sL [2,3,4] O) (AC (v:=(pP b1 3)) (AA O underlying26 O sizeOf24 O) O (AC (v:=(pP b1 3)) (AB (j:=0) O O underlying24 sizeOf23 O jY O) O (BA 2 (Value.int .i8 m.a) Y2 O (AC (B7 (c:=A) O O jY hA.symm) O (AC (Ar (c:=A) O underlying23 underlying2 (BL Z Z)) O ?_))))))))
 refine AC (v:=(pP b1 3)) (AA O underlying26 O sizeOf24 O) O (AC (v:=(pP b1 4)) (AB (j:=1) O O underlying24 sizeOf23 O jY O) O (BA 2 (Value.int .i8 m.b) Y2 O (AC (B7 (c:=B) O O jY hB.symm) O (AC (Ar (c:=B) O underlying23 underlying2 (BL Z Z)) O (AC (v:=(pP b1 3)) (AA O underlying26 O sizeOf24 O) O (AC (v:=(pP b1 5)) (AB (j:=2) O O underlying24 sizeOf23 O jY O) O (BA 2 (Value.int .i8 m.c) Y2 O (AC (B7 (c:=C) O O jY hC.symm) O (AC (Ar (c:=C) O underlying23 underlying2 (BL Z Z)) O (AC (v:=(pP b1 3)) (AA O underlying26 O sizeOf24 O) O (AC (v:=(pP b1 6)) (AB (j:=3) O O underlying24 sizeOf23 O jY O) O ?_)))))))))))
 refine BA 2 (Value.int .i8 m.d) Y2 O (AC (B7 (c:=D) O O jY hD.symm) O (AC (Ar (c:=D) O underlying23 underlying2 (BL Z Z)) O (AC (v:=(aG (W9 (A,B,C,D)))) (Af (zs:=W9 ((0,0,0,0):Int×Int×Int×Int)) (vs:=W9 (A,B,C,D)) (pv:=[(0,(vI A)),(1,(vI B)),(2,(vI C)),(3,(vI D))]) zeroValue210 underlying210 sizeOf2 O (Gd A B C D)) O (al cU O λb4=>Ah O sizeOf210 O (q3 (sL [3,4,5] O) (AC (v:=(pP b4 0)) (AB (j:=0) O O underlying210 sizeOf2 O jY O) O (BA 0 (vI A) OS O (AC (v:=(pP b4 3)) (AB (j:=3) O O underlying210 sizeOf2 O jY O) O (BA 0 (vI D) OS O (AC (Bv (c:=(A*D)) O O (BL Z Z)) O ?_))))))))))
 refine AC (v:=(pP b4 1)) (AB (j:=1) O O underlying210 sizeOf2 O jY O) O (BA 0 (vI B) OS O (AC (v:=(pP b4 2)) (AB (j:=2) O O underlying210 sizeOf2 O jY O) O (BA 0 (vI C) OS O (AC (Bv (c:=(B*C)) O O (BL Z Z)) O (AC (Bp (c:=(A*D-B*C)) O O (BL Z Z)) O (asg' O (q6 (sL [3,4,5,6] O) (q4 (AM O (AC (BM (c:=(decide ((A*D-B*C)=(0:Int)))) O O O) O (oNl' ?_)))))))))))
 refine zB (sL [3,4,5,6,42] O) (zA ?_)
 refine zL O (λhc0=>?_) (λhc0=>?_)
 ·replace hc0:=xU hc0
  have hz0:=hc0
  refine zD (AC (v:=(aG (W9 ((1:Int),(0:Int),(0:Int),(1:Int))))) (Af (zs:=W9 ((0,0,0,0):Int×Int×Int×Int)) (vs:=W9 ((1:Int),(0:Int),(0:Int),(1:Int))) (pv:=[(0,(vI 1)),(1,(vI 0)),(2,(vI 0)),(3,(vI 1))]) zeroValue210 underlying210 sizeOf2 O (Gd (1:Int) (0:Int) (0:Int) (1:Int))) O (Ah O sizeOf210 O (q6 (sL [3,4,5,6] O) (q4 (AM O (AC (Aa (c:=(decide ((A*D-B*C)<(0:Int)))) O O O) O (oNl' (zB (sL [3,4,5,6,45] O) (zA ?_)))))))))
  refine yF (tg λ(K:DG)=>K=Gj m.a m.b m.c m.d) (tg λ(K:DG)=>[(3,(pP b2 0)),(4,(pP b3 0)),(5,(pP b4 0))]) (tg λ(K:DG)=>[AX b4 210 (W9 (K.a,K.b,K.c,K.d)),AX b3 90 (CZ ((0,0):Int×Int)),AX b2 72 (Ay p),AX b1 26 (Ef m),AP m.p (Ct m.cs)]) ?_ ?_
  ·refine zL O (λhc1=>?_) (λhc1=>?_)
   ·replace hc1:=xU hc1
    refine q4 (AC (v:=(pP b4 2)) (AB (j:=2) O O underlying210 sizeOf2 O jY O) O (BA 0 (vI (0:Int)) OS O (AC (K6 (c:=(-C)) O (by first|(exfalso;omega)|(rw [Int.zero_sub];exact BL Z Z))) O (AC (v:=(pP b4 2)) (AB (j:=2) O O underlying210 sizeOf2 O jY O) O (Fm 0 (off:=2) (vs:=[(vI (-C))]) (cs':=[(vI (1:Int)),(vI (0:Int)),(vI (-C)),(vI (1:Int))]) (AK O) O sizeOf2 O (oNl' (zB (sL [3,4,5,6] O) (zA (zD (AC (v:=(pP b4 3)) (AB (j:=3) O O underlying210 sizeOf2 O jY O) O (BA 0 (vI (1:Int)) OS O ?_)))))))))))
    exact AC (K6 (c:=(-D)) O (by first|(exfalso;omega)|(rw [Int.zero_sub];exact BL Z Z))) O (AC (v:=(pP b4 3)) (AB (j:=3) O O underlying210 sizeOf2 O jY O) O (Fm 0 (off:=3) (vs:=[(vI (-D))]) (cs':=[(vI (1:Int)),(vI (0:Int)),(vI (-C)),(vI (-D))]) (AK O) O sizeOf2 O (oNl' (zB (sL [3,4,5,6] O) (zj (DG.mk (1:Int) (0:Int) (-C) (-D)) ((by first|(exfalso;omega)|exact (OC hA hB hC hD hz0).symm|exact (OA hA hB hC hD hc1).symm|exact (OB hA hB hC hD hz0 hc1).symm)) (sF O) sr)))))
   ·replace hc1:=xT hc1
    exact zC (zj (DG.mk (1:Int) (0:Int) (0:Int) (1:Int)) ((by first|(exfalso;omega)|exact (OC hA hB hC hD hz0).symm|exact (OA hA hB hC hD hc1).symm|exact (OB hA hB hC hD hz0 hc1).symm)) (sF O) sr)
  ·intro K hJ
   have hK:=hJ
   have kk:=Fc m.a m.b m.c m.d
   rw [<-hK] at kk
   have qz0:=DB kk.a (k:=6) (b:=(p.1:Int)) Z
   have qz1:=DB kk.b (k:=6) (b:=(p.2:Int)) Z
   have qz2:=DB kk.c (k:=6) (b:=(p.1:Int)) Z
   have qz3:=DB kk.d (k:=6) (b:=(p.2:Int)) Z
   refine q2 (AC (v:=(pP b2 0)) (AB (j:=0) O O underlying72 sizeOf3 O jY O) O (BA 2 (vN p.1) BP O (asg' O (q3 (sL [3,4,5,7] O) (AC (v:=(pP b2 1)) (AB (j:=1) O O underlying72 sizeOf3 O jY O) O (BA 2 (vN p.2) BP O (asg' O (q3 (sL [3,4,5,7,8] O) (AC (v:=(pP b4 0)) (AB (j:=0) O O underlying210 sizeOf2 O jY O) O (BA 0 (vI K.a) OS O (AM O ?_)))))))))))
   refine AC (Bv (c:=(K.a*(p.1:Int))) O O (BL Z Z)) O (AC (v:=(pP b4 1)) (AB (j:=1) O O underlying210 sizeOf2 O jY O) O (BA 0 (vI K.b) OS O (AM O (AC (Bv (c:=(K.b*(p.2:Int))) O O (BL Z Z)) O (AC (AR (c:=(K.a*(p.1:Int)+K.b*(p.2:Int))) O O (BL Z Z)) O (AC (v:=(pP b4 2)) (AB (j:=2) O O underlying210 sizeOf2 O jY O) O (BA 0 (vI K.c) OS O (AM O (AC (Bv (c:=(K.c*(p.1:Int))) O O (BL Z Z)) O (AC (v:=(pP b4 3)) (AB (j:=3) O O underlying210 sizeOf2 O jY O) O (BA 0 (vI K.d) OS O ?_)))))))))))
   exact AM O (AC (Bv (c:=(K.d*(p.2:Int))) O O (BL Z Z)) O (AC (AR (c:=(K.c*(p.1:Int)+K.d*(p.2:Int))) O O (BL Z Z)) O (AC (v:=(aG (CZ (K.a*(p.1:Int)+K.b*(p.2:Int),K.c*(p.1:Int)+K.d*(p.2:Int))))) (Af (zs:=CZ ((0,0):Int×Int)) (vs:=CZ (K.a*(p.1:Int)+K.b*(p.2:Int),K.c*(p.1:Int)+K.d*(p.2:Int))) (pv:=[(0,(vI (K.a*(p.1:Int)+K.b*(p.2:Int)))),(1,(vI (K.c*(p.1:Int)+K.d*(p.2:Int))))]) zeroValue90 underlying90 sizeOf2 O (HA (K.a*(p.1:Int)+K.b*(p.2:Int)) (K.c*(p.1:Int)+K.d*(p.2:Int)))) O (CS O sizeOf90 O (oNl' (zB (sL [3,4,5] O) (zA (zH (ret_one O (Ap (i:=1) (cs:=CZ (K.a*(p.1:Int)+K.b*(p.2:Int),K.c*(p.1:Int)+K.d*(p.2:Int))) O O isAgg90 sizeOf90 O) (λw hw=>⟨by rw [<-hK];rfl,hw.out⟩))))))))))
 ·replace hc0:=xT hc0
  have hz0:=hc0
  refine zC (q1 (q4 (AM O (AC (Aa (c:=(decide ((A*D-B*C)<(0:Int)))) O O O) O (oNl' (zB (sL [3,4,5,6,45] O) (zA ?_)))))))
  refine yF (tg λ(K:DG)=>K=Gj m.a m.b m.c m.d) (tg λ(K:DG)=>[(3,(pP b2 0)),(4,(pP b3 0)),(5,(pP b4 0))]) (tg λ(K:DG)=>[AX b4 210 (W9 (K.a,K.b,K.c,K.d)),AX b3 90 (CZ ((0,0):Int×Int)),AX b2 72 (Ay p),AX b1 26 (Ef m),AP m.p (Ct m.cs)]) ?_ ?_
  ·refine zL O (λhc1=>?_) (λhc1=>?_)
   ·replace hc1:=xU hc1
    refine q4 (AC (v:=(pP b4 2)) (AB (j:=2) O O underlying210 sizeOf2 O jY O) O (BA 0 (vI C) OS O (AC (K6 (c:=(-C)) O (by first|(exfalso;omega)|(rw [Int.zero_sub];exact BL Z Z))) O (AC (v:=(pP b4 2)) (AB (j:=2) O O underlying210 sizeOf2 O jY O) O (Fm 0 (off:=2) (vs:=[(vI (-C))]) (cs':=[(vI A),(vI B),(vI (-C)),(vI D)]) (AK O) O sizeOf2 O (oNl' (zB (sL [3,4,5,6] O) (zA (zD (AC (v:=(pP b4 3)) (AB (j:=3) O O underlying210 sizeOf2 O jY O) O (BA 0 (vI D) OS O ?_)))))))))))
    exact AC (K6 (c:=(-D)) O (by first|(exfalso;omega)|(rw [Int.zero_sub];exact BL Z Z))) O (AC (v:=(pP b4 3)) (AB (j:=3) O O underlying210 sizeOf2 O jY O) O (Fm 0 (off:=3) (vs:=[(vI (-D))]) (cs':=[(vI A),(vI B),(vI (-C)),(vI (-D))]) (AK O) O sizeOf2 O (oNl' (zB (sL [3,4,5,6] O) (zj (DG.mk A B (-C) (-D)) ((by first|(exfalso;omega)|exact (OC hA hB hC hD hz0).symm|exact (OA hA hB hC hD hc1).symm|exact (OB hA hB hC hD hz0 hc1).symm)) (sF O) sr)))))
   ·replace hc1:=xT hc1
    exact zC (zj (DG.mk A B C D) ((by first|(exfalso;omega)|exact (OC hA hB hC hD hz0).symm|exact (OA hA hB hC hD hc1).symm|exact (OB hA hB hC hD hz0 hc1).symm)) (sF O) sr)
  ·intro K hJ
   have hK:=hJ
   have kk:=Fc m.a m.b m.c m.d
   rw [<-hK] at kk
   have qz0:=DB kk.a (k:=6) (b:=(p.1:Int)) Z
   have qz1:=DB kk.b (k:=6) (b:=(p.2:Int)) Z
   have qz2:=DB kk.c (k:=6) (b:=(p.1:Int)) Z
   have qz3:=DB kk.d (k:=6) (b:=(p.2:Int)) Z
   refine q2 (AC (v:=(pP b2 0)) (AB (j:=0) O O underlying72 sizeOf3 O jY O) O (BA 2 (vN p.1) BP O (asg' O (q3 (sL [3,4,5,7] O) (AC (v:=(pP b2 1)) (AB (j:=1) O O underlying72 sizeOf3 O jY O) O (BA 2 (vN p.2) BP O (asg' O (q3 (sL [3,4,5,7,8] O) (AC (v:=(pP b4 0)) (AB (j:=0) O O underlying210 sizeOf2 O jY O) O (BA 0 (vI K.a) OS O (AM O ?_)))))))))))
   refine AC (Bv (c:=(K.a*(p.1:Int))) O O (BL Z Z)) O (AC (v:=(pP b4 1)) (AB (j:=1) O O underlying210 sizeOf2 O jY O) O (BA 0 (vI K.b) OS O (AM O (AC (Bv (c:=(K.b*(p.2:Int))) O O (BL Z Z)) O (AC (AR (c:=(K.a*(p.1:Int)+K.b*(p.2:Int))) O O (BL Z Z)) O (AC (v:=(pP b4 2)) (AB (j:=2) O O underlying210 sizeOf2 O jY O) O (BA 0 (vI K.c) OS O (AM O (AC (Bv (c:=(K.c*(p.1:Int))) O O (BL Z Z)) O (AC (v:=(pP b4 3)) (AB (j:=3) O O underlying210 sizeOf2 O jY O) O (BA 0 (vI K.d) OS O ?_)))))))))))
   exact AM O (AC (Bv (c:=(K.d*(p.2:Int))) O O (BL Z Z)) O (AC (AR (c:=(K.c*(p.1:Int)+K.d*(p.2:Int))) O O (BL Z Z)) O (AC (v:=(aG (CZ (K.a*(p.1:Int)+K.b*(p.2:Int),K.c*(p.1:Int)+K.d*(p.2:Int))))) (Af (zs:=CZ ((0,0):Int×Int)) (vs:=CZ (K.a*(p.1:Int)+K.b*(p.2:Int),K.c*(p.1:Int)+K.d*(p.2:Int))) (pv:=[(0,(vI (K.a*(p.1:Int)+K.b*(p.2:Int)))),(1,(vI (K.c*(p.1:Int)+K.d*(p.2:Int))))]) zeroValue90 underlying90 sizeOf2 O (HA (K.a*(p.1:Int)+K.b*(p.2:Int)) (K.c*(p.1:Int)+K.d*(p.2:Int)))) O (CS O sizeOf90 O (oNl' (zB (sL [3,4,5] O) (zA (zH (ret_one O (Ap (i:=1) (cs:=CZ (K.a*(p.1:Int)+K.b*(p.2:Int),K.c*(p.1:Int)+K.d*(p.2:Int))) O O isAgg90 sizeOf90 O) (λw hw=>⟨by rw [<-hK];rfl,hw.out⟩))))))))))
end
end Go.Proofs.YtbfdamnfcmefmaaGreatDoor
