import Derived.Test.YtcpkbjjmcleplaaGreatDoorPart18
namespace Go.Proofs.YtcpkbjjmcleplaaGreatDoor
open Go Go.RowKit Go.Proofs.Tryz
open Go.Value renaming slice→qz,bool→qa
set_option linter.unusedVariables false
set_option linter.unusedSimpArgs false
section
set_option maxRecDepth 100000
theorem X6:ElemT prog 139 142 6 48:=⟨underlying139,Cx jV⟩
theorem Dm (x0 x1:Nat):Instr.fill (λi=>some (i*1,1)) (BD ((0,0):P2)).toArray [(0,vN x0),(1,vN x1)]=some (BD (x0,x1)).toArray:=by kernel_rfl
theorem CI (x0 x1 x2:P2):Instr.fill (λi=>some (i*2,2)) (BA (((0,0),(0,0),(0,0)):P2×P2×P2)).toArray [(0,.agg (BD x0).toArray),(1,.agg (BD x1).toArray),(2,.agg (BD x2).toArray)]=some (BA (x0,x1,x2)).toArray:=by kernel_rfl
theorem HY (x0 x1:P2×P2×P2):Instr.fill (λi=>some (i*6,6)) ((Array.range (2*6)).map ((Value.agg (BA (((0,0),(0,0),(0,0)):P2×P2×P2)).toArray).cells[·%(Value.agg (BA (((0,0),(0,0),(0,0)):P2×P2×P2)).toArray).cells.size]!)) [(0,.agg (BA x0).toArray),(1,.agg (BA x1).toArray)]=some (BA x0++BA x1).toArray:=by kernel_rfl
theorem Kq (x0 x1 x2 x3:P2×P2×P2):Instr.fill (λi=>some (i*6,6)) ((Array.range (4*6)).map ((Value.agg (BA (((0,0),(0,0),(0,0)):P2×P2×P2)).toArray).cells[·%(Value.agg (BA (((0,0),(0,0),(0,0)):P2×P2×P2)).toArray).cells.size]!)) [(0,.agg (BA x0).toArray),(1,.agg (BA x1).toArray),(2,.agg (BA x2).toArray),(3,.agg (BA x3).toArray)]=some (BA x0++BA x1++BA x2++BA x3).toArray:=by kernel_rfl
set_option maxHeartbeats 1000000 in
theorem Ub (m:MQ) (w:World) {S:Nat->Prop} (hm:Ro S w m):Calls prog 60 #[(aG (Em m))] w (Aj (RX (rowsL BA (BT m)) (BT m).length) S w):=by
 obtain ⟨X,hX⟩:∃X,X=PO m:=⟨_,rfl⟩
 obtain ⟨Y,hY⟩:∃Y,Y=Zz m:=⟨_,rfl⟩
 have hx1:=Ol m
 have hy1:=Om m
 have hxy:=KH m
 rw [<-hX] at hx1 hxy
 rw [<-hY] at hy1 hxy
 have lm:=Bx (W:=w) hm
 refine AZ (args:=[(aG (Em m))]) (L:=[AI m.p (C7 m.cs)]) func60 O O (leB O) (GT hm Ao) (zI (sL [0] O) (q4 (BH (cs:=Em m) O λb1=>asg' O (q3 (sL [1,2] O) (st' (v:=(pP b1 0)) (AA O underlying49 O sizeOf5 O) O (BL 0 (vK .u8 m.nx) VT O (st' (Cz (c:=((m.nx%3:Nat):Int)) O O Z (HD (a:=m.nx) (b:=3))) O (st' (Al (c:=((m.nx%3:Nat):Int)) O underlying5 underlying3 (B6 Z)) O (st' (AX (c:=((1+(m.nx%3):Nat):Int)) O O (AU (a:=1) (b:=m.nx%3) Z)) O (zN (k:=19) (u:=(vN X)) O (by rw [hX];rfl) ?_))))))))))
 refine asg' O (q3 (sL [1,2,3] O) (st' (v:=(pP b1 1)) (AA O underlying49 O sizeOf5 O) O (BL 0 (vK .u8 m.ny) VT O (st' (Cz (c:=((m.ny%3:Nat):Int)) O O Z (HD (a:=m.ny) (b:=3))) O (st' (Al (c:=((m.ny%3:Nat):Int)) O underlying5 underlying3 (B6 Z)) O (st' (AX (c:=((1+(m.ny%3):Nat):Int)) O O (AU (a:=1) (b:=m.ny%3) Z)) O (zN (k:=24) (u:=(vN Y)) O (by rw [hY];rfl) (asg' O (q3 (sL [1,2,3,4] O) (asg' O (zm 142 6 ?_)))))))))))
 refine oNl' (q1 (q4 (asg' O (oNl' (zA (zM ?_))))))
 refine yX (tg λ(i:Nat) (p:Option Addr) (c:Nat) (out:List (P2×P2×P2))=>i<=X*Y/\OwnOk p out.length c/\out=E9 m i) (tg λ(i:Nat) (p:Option Addr) (c:Nat) (out:List (P2×P2×P2))=>[(1,(pP b1 0)),(2,jj),(3,(vN X)),(4,(vN Y)),(6,(vN i)),(5,(qz p out.length c))]) (tg λ(i:Nat) (p:Option Addr) (c:Nat) (out:List (P2×P2×P2))=>[rowW p 142 6 out.length c (rowsL BA out),AO b1 49 (Em m),AI m.p (C7 m.cs)]) (tg λ(i:Nat) (p:Option Addr) (c:Nat) (out:List (P2×P2×P2))=>X*Y-i) 0 none 0 ([]:List (P2×P2×P2)) (⟨Z,OwnOk.none,rfl⟩) (sF O) sr (λi p c out hJ=>?_)
 obtain ⟨hi,ho,hout⟩:=hJ
 have hlen:=Ic m i
 rw [<-hout] at hlen
 refine zS (q4 (AK O (AK O (AK O (st' (B5 (c:=((X*Y:Nat):Int)) O O (DT (a:=X) (b:=Y) (by exact Nat.lt_of_le_of_lt hxy jY))) O (st' (Aa (c:=(decide (i<(X*Y)))) O O (DE (a:=i) (b:=X*Y))) O (oNl' (zB (sL [1,2,3,4,6,5,29] O) (zA ?_)))))))))
 refine zK O (λhc0=>?_) (λhc0=>?_)
 ·replace hc0:=xR hc0
  refine zG (q1 (zM (q4 (asg' O (oNl' (q1 (q4 (st' (v:=(pP b1 2)) (AA O underlying49 O sizeOf45 O) O (BL 1 (qz m.p m.cs.length m.cap) dY O (st' (v:=(vN m.cs.length)) (AD O underlying45) O (st' (CC (c:=(decide (0<m.cs.length))) O O (DE (a:=0) (b:=m.cs.length))) O ?_)))))))))))
  refine oNl' (zB (sL [1,2,3,4,6,5,7,35] O) (zA ?_))
  refine yL (tg λ(wy:Nat)=>wy=Jd m i) (tg λ(wy:Nat)=>[(1,(pP b1 0)),(2,jj),(3,(vN X)),(4,(vN Y)),(6,(vN i)),(5,(qz p out.length c)),(7,(vK .u8 wy))]) (tg λ(wy:Nat)=>[rowW p 142 6 out.length c (rowsL BA out),AO b1 49 (Em m),AI m.p (C7 m.cs)]) ?_ ?_
  ·refine zK O (λhc1=>?_) (λhc1=>?_)
   ·replace hc1:=xR hc1
    refine B9 (EV 11) sr (Am (v:=(pP b1 2)) O (AA O underlying49 O sizeOf45 O) (CL 1 (qz m.p m.cs.length m.cap) dY O (Bi O (Am (v:=(pP b1 2)) O (AA O underlying49 O sizeOf45 O) (CL 1 (qz m.p m.cs.length m.cap) dY O (Am (v:=(vN m.cs.length)) O (AD O underlying45) (Am O (Cz (c:=((i%m.cs.length:Nat):Int)) O O Z (HD (a:=i) (b:=m.cs.length))) (Am (v:=(pP (pB m.p) (pO m.p+(i%m.cs.length)*1))) O (AQ (j:=i%m.cs.length) O O m.ok underlying45 sizeOf5 O (by exact Nat.mod_lt _ hc1)) (Am O (Ad (v:=(vK .u8 (m.cs.getD (i%m.cs.length) 0))) (i:=2) O O (m.ok.ne (by first|exact Nat.mod_lt i hc1|exact hc1)) VT (Vy (by first|exact Nat.mod_lt i hc1|exact hc1))) (Am O (Cz (c:=(((m.cs.getD (i%m.cs.length) 0)%8:Nat):Int)) O O Z (HD (a:=m.cs.getD (i%m.cs.length) 0) (b:=8))) (pS' O ?_)))))))))))
    exact zP (zB (sL [1,2,3,4,6,5,7] O) (zk ((m.cs.getD (i%m.cs.length) 0)%8) (by unfold Jd;first|rw [if_pos hc1]|rw [if_neg hc1]) (sF O) sr))
   ·replace hc1:=xQ hc1
    exact zG (zk 0 (by unfold Jd;first|rw [if_pos hc1]|rw [if_neg hc1]) (sF O) sr)
  ·intro wy hJ
   have hw:=hJ
   have hw8:=Tc m i
   rw [<-hw] at hw8
   refine q2 (AK O (AK O ?_))
   obtain ⟨u,hu⟩:∃u,u=i%X:=⟨_,rfl⟩
   have hu2:u<X:=by rw [hu];exact Nat.mod_lt _ Z
   refine st' (Cz (c:=((u:Nat):Int)) O O Z (by rw [hu];exact HD (a:=i) (b:=X))) O (st' (B5 (c:=((2*u:Nat):Int)) O O (DT (a:=2) (b:=u) Z)) O (asg' O (q3 (sL [1,2,3,4,6,5,7,8] O) (AK O (AK O ?_)))))
   obtain ⟨v,hv⟩:∃v,v=i/X:=⟨_,rfl⟩
   have hv2:v<=9:=by rw [hv];exact xK (Nat.div_le_self _ _) Z
   refine st' (Ec (c:=((v:Nat):Int)) O O Z (by rw [hv];exact FW (a:=i) (b:=X) Z)) O (st' (B5 (c:=((2*v:Nat):Int)) O O (DT (a:=2) (b:=v) Z)) O (asg' O (q3 (sL [1,2,3,4,6,5,7,8,9] O) (AK O (AK O (st' (v:=(aG (BD (2*u,2*v)))) (Az (zs:=BD ((0,0):P2)) (vs:=BD (2*u,2*v)) (pv:=[(0,(vN (2*u))),(1,(vN (2*v)))]) zeroValue141 underlying141 sizeOf3 O (Dm (2*u) (2*v))) O (al KZ O λb2=>An O sizeOf141 O (q3 (sL [1,2,3,4,6,5,7,8,9,10] O) (AK O (st' (AX (c:=(((2*u)+2:Nat):Int)) O O (AU (a:=2*u) (b:=2) Z)) O ?_))))))))))
   refine AK O (st' (v:=(aG (BD ((2*u)+2,2*v)))) (Az (zs:=BD ((0,0):P2)) (vs:=BD ((2*u)+2,2*v)) (pv:=[(0,(vN ((2*u)+2))),(1,(vN (2*v)))]) zeroValue141 underlying141 sizeOf3 O (Dm ((2*u)+2) (2*v))) O (al KZ O λb3=>An O sizeOf141 O (q3 (sL [1,2,3,4,6,5,7,8,9,10,11] O) (AK O (st' (AX (c:=(((2*u)+2:Nat):Int)) O O (AU (a:=2*u) (b:=2) Z)) O (AK O (st' (AX (c:=(((2*v)+2:Nat):Int)) O O (AU (a:=2*v) (b:=2) Z)) O (st' (v:=(aG (BD ((2*u)+2,(2*v)+2)))) (Az (zs:=BD ((0,0):P2)) (vs:=BD ((2*u)+2,(2*v)+2)) (pv:=[(0,(vN ((2*u)+2))),(1,(vN ((2*v)+2)))]) zeroValue141 underlying141 sizeOf3 O (Dm ((2*u)+2) ((2*v)+2))) O (al KZ O λb4=>An O sizeOf141 O ?_)))))))))
   refine q3 (sL [1,2,3,4,6,5,7,8,9,10,11,12] O) (AK O (AK O (st' (AX (c:=(((2*v)+2:Nat):Int)) O O (AU (a:=2*v) (b:=2) Z)) O (st' (v:=(aG (BD (2*u,(2*v)+2)))) (Az (zs:=BD ((0,0):P2)) (vs:=BD (2*u,(2*v)+2)) (pv:=[(0,(vN (2*u))),(1,(vN ((2*v)+2)))]) zeroValue141 underlying141 sizeOf3 O (Dm (2*u) ((2*v)+2))) O (al KZ O λb5=>An O sizeOf141 O (q3 (sL [1,2,3,4,6,5,7,8,9,10,11,12,13] O) (AK O (st' (AX (c:=(((2*u)+1:Nat):Int)) O O (AU (a:=2*u) (b:=1) Z)) O (AK O (st' (AX (c:=(((2*v)+1:Nat):Int)) O O (AU (a:=2*v) (b:=1) Z)) O ?_))))))))))
   refine st' (v:=(aG (BD ((2*u)+1,(2*v)+1)))) (Az (zs:=BD ((0,0):P2)) (vs:=BD ((2*u)+1,(2*v)+1)) (pv:=[(0,(vN ((2*u)+1))),(1,(vN ((2*v)+1)))]) zeroValue141 underlying141 sizeOf3 O (Dm ((2*u)+1) ((2*v)+1))) O (al KZ O λb6=>An O sizeOf141 O (oNl' (zB (sL [1,2,3,4,6,5,7,8,9,10,11,12,13,14] O) (zA (zM (q4 (AK O (st' (Aa (c:=(decide (wy<3))) O O (DE (a:=wy) (b:=3))) O (AK O ?_)))))))))
   refine zg (FM:=[(1,(pP b1 0)),(2,jj),(3,(vN X)),(4,(vN Y)),(6,(vN i)),(5,(qz p out.length c)),(7,(vK .u8 wy)),(8,(vN (2*u))),(9,(vN (2*v))),(10,(pP b2 0)),(11,(pP b3 0)),(12,(pP b4 0)),(13,(pP b5 0)),(14,(pP b6 0)),(76,(vK .u8 wy)),(77,(qa (decide (wy<3)))),(78,(qa (decide (wy<3)))),(85,(qa ((decide (wy<3))||((decide (wy=7))&&(decide (i=0))))))]) (LM:=[AO b6 141 (BD ((2*u)+1,(2*v)+1)),AO b5 141 (BD (2*u,(2*v)+2)),AO b4 141 (BD ((2*u)+2,(2*v)+2)),AO b3 141 (BD ((2*u)+2,2*v)),AO b2 141 (BD (2*u,2*v)),rowW p 142 6 out.length c (rowsL BA out),AO b1 49 (Em m),AI m.p (C7 m.cs)]) 7 ?_ ?_
   ·rcases xO (decide (wy<3)) with hg1|hg1
    ·refine zN (k:=78) (u:=qa true) O (by rw [hg1]) ?_
     have hg1':=xR hg1
     exact BP O (BP O (BP O (yN (EW O O O) O (leB O) (yN (EW O O O) O (leB O) (BP O (st' (v:=(qa true)) (ex_pick_true O O) O (oNl' (zT CT (xP _)))))))))
    ·refine zN (k:=78) (u:=qa false) O (by rw [hg1]) ?_
     have hg1':=xQ hg1
     refine FR O (BV (v:=(qa (decide (wy=7)))) O (Au (c:=(decide (wy=7))) O O (K0 (a:=wy) (b:=7))) (FR O ?_))
     refine zg (FM:=[(1,(pP b1 0)),(2,jj),(3,(vN X)),(4,(vN Y)),(6,(vN i)),(5,(qz p out.length c)),(7,(vK .u8 wy)),(8,(vN (2*u))),(9,(vN (2*v))),(10,(pP b2 0)),(11,(pP b3 0)),(12,(pP b4 0)),(13,(pP b5 0)),(14,(pP b6 0)),(76,(vK .u8 wy)),(77,(qa (decide (wy<3)))),(78,(qa false)),(79,(vK .u8 wy)),(80,(qa (decide (wy=7)))),(81,(qa (decide (wy=7)))),(84,(qa ((decide (wy=7))&&(decide (i=0)))))]) (LM:=[AO b6 141 (BD ((2*u)+1,(2*v)+1)),AO b5 141 (BD (2*u,(2*v)+2)),AO b4 141 (BD ((2*u)+2,(2*v)+2)),AO b3 141 (BD ((2*u)+2,2*v)),AO b2 141 (BD (2*u,2*v)),rowW p 142 6 out.length c (rowsL BA out),AO b1 49 (Em m),AI m.p (C7 m.cs)]) 3 ?_ ?_
     ·rcases xO (decide (wy=7)) with hg2|hg2
      ·refine zN (k:=81) (u:=qa true) O (by rw [hg2]) ?_
       have hg2':=xR hg2
       exact FR O (BV (v:=(qa (decide (i=0)))) O (Au (c:=(decide (i=0))) O O (K0 (a:=i) (b:=0))) (BV (v:=(qa (decide (i=0)))) O (ex_pick_true O O) (oNl' (zT IQ (xP _)))))
      ·refine zN (k:=81) (u:=qa false) O (by rw [hg2]) ?_
       have hg2':=xQ hg2
       exact BP O (BP O (BV (v:=(qa false)) O (AN O O) (oNl' (zT IQ (xP _)))))
     exact st' (v:=(qa ((decide (wy=7))&&(decide (i=0))))) (AN O O) O (oNl' (zT CT (xP _)))
   refine asg' O (oNl' (zB (sL [1,2,3,4,6,5,7,8,9,10,11,12,13,14,75] O) (zA ?_)))
   refine zK O (λhc2=>?_) (λhc2=>?_)
   ·simp only [jK] at hc2
    have hcell:=Yq hu hv (way:=wy) (by simpa using hc2)
    refine zH (AK O (Af 4 B4 O (Af 3 B4 O (Af 2 B4 O (st' (v:=(aG (BA ((2*u,2*v),((2*u)+2,2*v),((2*u)+2,(2*v)+2))))) (Az (zs:=BA (((0,0),(0,0),(0,0)):P2×P2×P2)) (vs:=BA ((2*u,2*v),((2*u)+2,2*v),((2*u)+2,(2*v)+2))) (pv:=[(0,(aG (BD (2*u,2*v)))),(1,(aG (BD ((2*u)+2,2*v)))),(2,(aG (BD ((2*u)+2,(2*v)+2))))]) zeroValue142 underlying142 sizeOf141 O (CI (2*u,2*v) ((2*u)+2,2*v) ((2*u)+2,(2*v)+2))) O (Af 4 B4 O (Af 2 B4 O (Af 1 B4 O (st' (v:=(aG (BA ((2*u,2*v),((2*u)+2,(2*v)+2),(2*u,(2*v)+2))))) (Az (zs:=BA (((0,0),(0,0),(0,0)):P2×P2×P2)) (vs:=BA ((2*u,2*v),((2*u)+2,(2*v)+2),(2*u,(2*v)+2))) (pv:=[(0,(aG (BD (2*u,2*v)))),(1,(aG (BD ((2*u)+2,(2*v)+2)))),(2,(aG (BD (2*u,(2*v)+2))))]) zeroValue142 underlying142 sizeOf141 O (CI (2*u,2*v) ((2*u)+2,(2*v)+2) (2*u,(2*v)+2))) O (zZ (V:=λb7=>(qz (jk b7) 2 2)) (T:=142) (cs:=BA ((2*u,2*v),((2*u)+2,2*v),((2*u)+2,(2*v)+2))++BA ((2*u,2*v),((2*u)+2,(2*v)+2),(2*u,(2*v)+2))) (AG O) (Ai (z:=.agg (BA (((0,0),(0,0),(0,0)):P2×P2×P2)).toArray) (cs:=BA ((2*u,2*v),((2*u)+2,2*v),((2*u)+2,(2*v)+2))++BA ((2*u,2*v),((2*u)+2,(2*v)+2),(2*u,(2*v)+2))) (pv:=[(0,(aG (BA ((2*u,2*v),((2*u)+2,2*v),((2*u)+2,(2*v)+2))))),(1,(aG (BA ((2*u,2*v),((2*u)+2,(2*v)+2),(2*u,(2*v)+2)))))]) underlying139 sizeOf142 zeroValue142 jY jY O (HY ((2*u,2*v),((2*u)+2,2*v),((2*u)+2,(2*v)+2)) ((2*u,2*v),((2*u)+2,(2*v)+2),(2*u,(2*v)+2)))) O (leB O) λb7=>zj 6 (j:=0) (cs2:=rowsL BA (out++[((2*u,2*v),((2*u)+2,2*v),((2*u)+2,(2*v)+2)),((2*u,2*v),((2*u)+2,(2*v)+2),(2*u,(2*v)+2))])) X6 O ho (AT Gk _) O O O O O jY (GC Z) Z (by rw [Aw];rfl) O λp_1 c_1 ho_1 hne_1=>?_))))))))))
    refine asg' O (oNl' (zB (sL [1,2,3,4,6,5,7,8,9,10,11,12,13,14] O) (zJ (zJ (zA (zH (AK O (st' (AX (c:=((i+1:Nat):Int)) O O (AU (a:=i) (b:=1) Z)) O (asg' O (oNl' (zB (sL [1,2,3,4,6,5,7,8,9,10,11,12,13,14] O) ?_)))))))))))
    rw [show out.length+2=(out++[((2*u,2*v),((2*u)+2,2*v),((2*u)+2,(2*v)+2)),((2*u,2*v),((2*u)+2,(2*v)+2),(2*u,(2*v)+2))]).length by simp]
    exact zr (i+1) p_1 c_1 (out++[((2*u,2*v),((2*u)+2,2*v),((2*u)+2,(2*v)+2)),((2*u,2*v),((2*u)+2,(2*v)+2),(2*u,(2*v)+2))]) (⟨Z,(by simpa using ho_1),by rw [hout];show _=E9 m i++Df (PO m) (Jd m i) i;rw [<-hX,<-hw,hcell]⟩) Z (sF O) (sl (sl (sl (sl (sl (sl sr))))))
   ·simp only [jK] at hc2
    have h20:¬(wy<3\/(wy=7/\i=0)):=by simp at hc2;omega
    refine q4 (AK O (st' (Aa (c:=(decide (wy<5))) O O (DE (a:=wy) (b:=5))) O (asg' O (oNl' (zB (sL [1,2,3,4,6,5,7,8,9,10,11,12,13,14,97] O) (zA ?_))))))
    refine zK O (λhc3=>?_) (λhc3=>?_)
    ·replace hc3:=xR hc3
     have hcell:=Yr hu hv h20 (by simpa using hc3)
     refine zH (AK O (Af 4 B4 O (Af 3 B4 O (Af 1 B4 O (st' (v:=(aG (BA ((2*u,2*v),((2*u)+2,2*v),(2*u,(2*v)+2))))) (Az (zs:=BA (((0,0),(0,0),(0,0)):P2×P2×P2)) (vs:=BA ((2*u,2*v),((2*u)+2,2*v),(2*u,(2*v)+2))) (pv:=[(0,(aG (BD (2*u,2*v)))),(1,(aG (BD ((2*u)+2,2*v)))),(2,(aG (BD (2*u,(2*v)+2))))]) zeroValue142 underlying142 sizeOf141 O (CI (2*u,2*v) ((2*u)+2,2*v) (2*u,(2*v)+2))) O (Af 3 B4 O (Af 2 B4 O (Af 1 B4 O (st' (v:=(aG (BA (((2*u)+2,2*v),((2*u)+2,(2*v)+2),(2*u,(2*v)+2))))) (Az (zs:=BA (((0,0),(0,0),(0,0)):P2×P2×P2)) (vs:=BA (((2*u)+2,2*v),((2*u)+2,(2*v)+2),(2*u,(2*v)+2))) (pv:=[(0,(aG (BD ((2*u)+2,2*v)))),(1,(aG (BD ((2*u)+2,(2*v)+2)))),(2,(aG (BD (2*u,(2*v)+2))))]) zeroValue142 underlying142 sizeOf141 O (CI ((2*u)+2,2*v) ((2*u)+2,(2*v)+2) (2*u,(2*v)+2))) O (zZ (V:=λb7=>(qz (jk b7) 2 2)) (T:=142) (cs:=BA ((2*u,2*v),((2*u)+2,2*v),(2*u,(2*v)+2))++BA (((2*u)+2,2*v),((2*u)+2,(2*v)+2),(2*u,(2*v)+2))) (AG O) (Ai (z:=.agg (BA (((0,0),(0,0),(0,0)):P2×P2×P2)).toArray) (cs:=BA ((2*u,2*v),((2*u)+2,2*v),(2*u,(2*v)+2))++BA (((2*u)+2,2*v),((2*u)+2,(2*v)+2),(2*u,(2*v)+2))) (pv:=[(0,(aG (BA ((2*u,2*v),((2*u)+2,2*v),(2*u,(2*v)+2))))),(1,(aG (BA (((2*u)+2,2*v),((2*u)+2,(2*v)+2),(2*u,(2*v)+2)))))]) underlying139 sizeOf142 zeroValue142 jY jY O (HY ((2*u,2*v),((2*u)+2,2*v),(2*u,(2*v)+2)) (((2*u)+2,2*v),((2*u)+2,(2*v)+2),(2*u,(2*v)+2)))) O (leB O) λb7=>zj 6 (j:=0) (cs2:=rowsL BA (out++[((2*u,2*v),((2*u)+2,2*v),(2*u,(2*v)+2)),(((2*u)+2,2*v),((2*u)+2,(2*v)+2),(2*u,(2*v)+2))])) X6 O ho (AT Gk _) O O O O O jY (GC Z) Z (by rw [Aw];rfl) O λp_2 c_2 ho_2 hne_2=>?_))))))))))
     refine asg' O (oNl' (zB (sL [1,2,3,4,6,5,7,8,9,10,11,12,13,14] O) (zJ (zJ (zA (zH (AK O (st' (AX (c:=((i+1:Nat):Int)) O O (AU (a:=i) (b:=1) Z)) O (asg' O (oNl' (zB (sL [1,2,3,4,6,5,7,8,9,10,11,12,13,14] O) ?_)))))))))))
     rw [show out.length+2=(out++[((2*u,2*v),((2*u)+2,2*v),(2*u,(2*v)+2)),(((2*u)+2,2*v),((2*u)+2,(2*v)+2),(2*u,(2*v)+2))]).length by simp]
     exact zr (i+1) p_2 c_2 (out++[((2*u,2*v),((2*u)+2,2*v),(2*u,(2*v)+2)),(((2*u)+2,2*v),((2*u)+2,(2*v)+2),(2*u,(2*v)+2))]) (⟨Z,(by simpa using ho_2),by rw [hout];show _=E9 m i++Df (PO m) (Jd m i) i;rw [<-hX,<-hw,hcell]⟩) Z (sF O) (sl (sl (sl (sl (sl (sl sr))))))
    ·replace hc3:=xQ hc3
     have h30:¬wy<5:=by simpa using hc3
     refine q4 (AK O (st' (Aa (c:=(decide (wy<7))) O O (DE (a:=wy) (b:=7))) O (asg' O (oNl' (zB (sL [1,2,3,4,6,5,7,8,9,10,11,12,13,14,111] O) (zA ?_))))))
     refine zK O (λhc4=>?_) (λhc4=>?_)
     ·replace hc4:=xR hc4
      have hcell:=Ys hu hv h20 h30 (by simpa using hc4)
      refine zH (AK O (Af 4 B4 O (Af 3 B4 O (Af 0 B4 O (st' (v:=(aG (BA ((2*u,2*v),((2*u)+2,2*v),((2*u)+1,(2*v)+1))))) (Az (zs:=BA (((0,0),(0,0),(0,0)):P2×P2×P2)) (vs:=BA ((2*u,2*v),((2*u)+2,2*v),((2*u)+1,(2*v)+1))) (pv:=[(0,(aG (BD (2*u,2*v)))),(1,(aG (BD ((2*u)+2,2*v)))),(2,(aG (BD ((2*u)+1,(2*v)+1))))]) zeroValue142 underlying142 sizeOf141 O (CI (2*u,2*v) ((2*u)+2,2*v) ((2*u)+1,(2*v)+1))) O (Af 3 B4 O (Af 2 B4 O (Af 0 B4 O (st' (v:=(aG (BA (((2*u)+2,2*v),((2*u)+2,(2*v)+2),((2*u)+1,(2*v)+1))))) (Az (zs:=BA (((0,0),(0,0),(0,0)):P2×P2×P2)) (vs:=BA (((2*u)+2,2*v),((2*u)+2,(2*v)+2),((2*u)+1,(2*v)+1))) (pv:=[(0,(aG (BD ((2*u)+2,2*v)))),(1,(aG (BD ((2*u)+2,(2*v)+2)))),(2,(aG (BD ((2*u)+1,(2*v)+1))))]) zeroValue142 underlying142 sizeOf141 O (CI ((2*u)+2,2*v) ((2*u)+2,(2*v)+2) ((2*u)+1,(2*v)+1))) O (Af 2 B4 O (Af 1 B4 O ?_)))))))))))
      refine Af 0 B4 O (st' (v:=(aG (BA (((2*u)+2,(2*v)+2),(2*u,(2*v)+2),((2*u)+1,(2*v)+1))))) (Az (zs:=BA (((0,0),(0,0),(0,0)):P2×P2×P2)) (vs:=BA (((2*u)+2,(2*v)+2),(2*u,(2*v)+2),((2*u)+1,(2*v)+1))) (pv:=[(0,(aG (BD ((2*u)+2,(2*v)+2)))),(1,(aG (BD (2*u,(2*v)+2)))),(2,(aG (BD ((2*u)+1,(2*v)+1))))]) zeroValue142 underlying142 sizeOf141 O (CI ((2*u)+2,(2*v)+2) (2*u,(2*v)+2) ((2*u)+1,(2*v)+1))) O (Af 1 B4 O (Af 4 B4 O (Af 0 B4 O (st' (v:=(aG (BA ((2*u,(2*v)+2),(2*u,2*v),((2*u)+1,(2*v)+1))))) (Az (zs:=BA (((0,0),(0,0),(0,0)):P2×P2×P2)) (vs:=BA ((2*u,(2*v)+2),(2*u,2*v),((2*u)+1,(2*v)+1))) (pv:=[(0,(aG (BD (2*u,(2*v)+2)))),(1,(aG (BD (2*u,2*v)))),(2,(aG (BD ((2*u)+1,(2*v)+1))))]) zeroValue142 underlying142 sizeOf141 O (CI (2*u,(2*v)+2) (2*u,2*v) ((2*u)+1,(2*v)+1))) O (zZ (V:=λb7=>(qz (jk b7) 4 4)) (T:=142) (cs:=BA ((2*u,2*v),((2*u)+2,2*v),((2*u)+1,(2*v)+1))++BA (((2*u)+2,2*v),((2*u)+2,(2*v)+2),((2*u)+1,(2*v)+1))++BA (((2*u)+2,(2*v)+2),(2*u,(2*v)+2),((2*u)+1,(2*v)+1))++BA ((2*u,(2*v)+2),(2*u,2*v),((2*u)+1,(2*v)+1))) (AG O) (Ai (z:=.agg (BA (((0,0),(0,0),(0,0)):P2×P2×P2)).toArray) (cs:=BA ((2*u,2*v),((2*u)+2,2*v),((2*u)+1,(2*v)+1))++BA (((2*u)+2,2*v),((2*u)+2,(2*v)+2),((2*u)+1,(2*v)+1))++BA (((2*u)+2,(2*v)+2),(2*u,(2*v)+2),((2*u)+1,(2*v)+1))++BA ((2*u,(2*v)+2),(2*u,2*v),((2*u)+1,(2*v)+1))) (pv:=[(0,(aG (BA ((2*u,2*v),((2*u)+2,2*v),((2*u)+1,(2*v)+1))))),(1,(aG (BA (((2*u)+2,2*v),((2*u)+2,(2*v)+2),((2*u)+1,(2*v)+1))))),(2,(aG (BA (((2*u)+2,(2*v)+2),(2*u,(2*v)+2),((2*u)+1,(2*v)+1))))),(3,(aG (BA ((2*u,(2*v)+2),(2*u,2*v),((2*u)+1,(2*v)+1)))))]) underlying139 sizeOf142 zeroValue142 jY jY O (Kq ((2*u,2*v),((2*u)+2,2*v),((2*u)+1,(2*v)+1)) (((2*u)+2,2*v),((2*u)+2,(2*v)+2),((2*u)+1,(2*v)+1)) (((2*u)+2,(2*v)+2),(2*u,(2*v)+2),((2*u)+1,(2*v)+1)) ((2*u,(2*v)+2),(2*u,2*v),((2*u)+1,(2*v)+1)))) O (leB O) λb7=>zj 6 (j:=0) (cs2:=rowsL BA (out++[((2*u,2*v),((2*u)+2,2*v),((2*u)+1,(2*v)+1)),(((2*u)+2,2*v),((2*u)+2,(2*v)+2),((2*u)+1,(2*v)+1)),(((2*u)+2,(2*v)+2),(2*u,(2*v)+2),((2*u)+1,(2*v)+1)),((2*u,(2*v)+2),(2*u,2*v),((2*u)+1,(2*v)+1))])) X6 O ho (AT Gk _) O O O O O jY (GC Z) Z (by rw [Aw];rfl) O λp_3 c_3 ho_3 hne_3=>asg' O (oNl' (zB (sL [1,2,3,4,6,5,7,8,9,10,11,12,13,14] O) (zJ ?_)))))))))
      refine zJ (zA (zH (AK O (st' (AX (c:=((i+1:Nat):Int)) O O (AU (a:=i) (b:=1) Z)) O (asg' O (oNl' (zB (sL [1,2,3,4,6,5,7,8,9,10,11,12,13,14] O) ?_)))))))
      rw [show out.length+4=(out++[((2*u,2*v),((2*u)+2,2*v),((2*u)+1,(2*v)+1)),(((2*u)+2,2*v),((2*u)+2,(2*v)+2),((2*u)+1,(2*v)+1)),(((2*u)+2,(2*v)+2),(2*u,(2*v)+2),((2*u)+1,(2*v)+1)),((2*u,(2*v)+2),(2*u,2*v),((2*u)+1,(2*v)+1))]).length by simp]
      exact zr (i+1) p_3 c_3 (out++[((2*u,2*v),((2*u)+2,2*v),((2*u)+1,(2*v)+1)),(((2*u)+2,2*v),((2*u)+2,(2*v)+2),((2*u)+1,(2*v)+1)),(((2*u)+2,(2*v)+2),(2*u,(2*v)+2),((2*u)+1,(2*v)+1)),((2*u,(2*v)+2),(2*u,2*v),((2*u)+1,(2*v)+1))]) (⟨Z,(by simpa using ho_3),by rw [hout];show _=E9 m i++Df (PO m) (Jd m i) i;rw [<-hX,<-hw,hcell]⟩) Z (sF O) (sl (sl (sl (sl (sl (sl sr))))))
     ·replace hc4:=xQ hc4
      have hcell:Df X wy i=[]:=Yt h20 h30 (by simpa using hc4)
      exact zG (zJ (zJ (zA (zH (AK O (st' (AX (c:=((i+1:Nat):Int)) O O (AU (a:=i) (b:=1) Z)) O (asg' O (oNl' (zB (sL [1,2,3,4,6,5,7,8,9,10,11,12,13,14] O) (zr (i+1) p c out (⟨Z,(by simpa using ho),by rw [hout];show _=E9 m i++Df (PO m) (Jd m i) i;rw [<-hX,<-hw,hcell];simp⟩) Z (sF O) (sl (sl (sl (sl (sl sr)))))))))))))))
 ·replace hc0:=xQ hc0
  have hfin:out=BT m:=by rw [hout];unfold BT;rw [<-hX,<-hY,show i=X*Y by omega]
  exact zW (zO (z7 (zR (q2 (AK O (asg' O (oNl' (zB (sL [1,2,3,4,6,5] O) (zA (zF (ret_one O (rd_tmp (v:=(qz p out.length c)) O) (λw hw=>(by rw [<-hfin];exact gr hw 0 O ho (AT Gk _) O)))))))))))))
theorem HX (x0 x1 x2 x3:Int):Instr.fill (λi=>some (i*1,1)) (YW ((0,0,0,0):Int×Int×Int×Int)).toArray [(0,.int .i64 x0),(1,.int .i64 x1),(2,.int .i64 x2),(3,.int .i64 x3)]=some (YW (x0,x1,x2,x3)).toArray:=by kernel_rfl
theorem HW (x0 x1:Int):Instr.fill (λi=>some (i*1,1)) (CZ ((0,0):Int×Int)).toArray [(0,.int .i64 x0),(1,.int .i64 x1)]=some (CZ (x0,x1)).toArray:=by kernel_rfl
theorem Ju (m:MQ) (p:P2) (hp:p.1<=6/\p.2<=6) (w:World) {S:Nat->Prop} (hm:Ro S w m):Calls prog 61 #[(aG (Em m)),(aG (BD p))] w (Ac w (aG (CZ ((IP m.a m.b m.c m.d).at_ p)))):=by
 obtain ⟨A,hA⟩:∃A,A=m.a.tmod 4:=⟨_,rfl⟩
 obtain ⟨B,hB⟩:∃A,A=m.b.tmod 4:=⟨_,rfl⟩
 obtain ⟨C,hC⟩:∃A,A=m.c.tmod 4:=⟨_,rfl⟩
 obtain ⟨D,hD⟩:∃A,A=m.d.tmod 4:=⟨_,rfl⟩
 have kA:=Ka m.a
 have kB:=Ka m.b
 have kC:=Ka m.c
 have kD:=Ka m.d
 rw [<-hA] at kA
 rw [<-hB] at kB
 rw [<-hC] at kC
 rw [<-hD] at kD
 have e1:=Dq kA (k:=3) kD
 have e2:=Dq kB (k:=3) kC
 have lm:=Bx (W:=w) hm
 refine AZ (args:=[(aG (Em m)),(aG (BD p))]) (L:=[AI m.p (C7 m.cs)]) func61 O O (leB O) (GT hm Ao) (zI (sL [0,1] O) (q4 (BH (cs:=Em m) O λb1=>BH (cs:=BD p) O λb2=>al fg O λb3=>q3 (sL [2,3,4] O) (st' (v:=(pP b1 3)) (AA O underlying49 O sizeOf47 O) O (st' (v:=(pP b1 3)) (AB (j:=0) O O underlying47 sizeOf46 O jY O) O (BL 2 (Value.int .i8 m.a) aw O (st' (Cz (c:=A) O O jY hA.symm) O (st' (Al (c:=A) O underlying46 underlying2 (A6 Z Z)) O ?_))))))))
 refine st' (v:=(pP b1 3)) (AA O underlying49 O sizeOf47 O) O (st' (v:=(pP b1 4)) (AB (j:=1) O O underlying47 sizeOf46 O jY O) O (BL 2 (Value.int .i8 m.b) aw O (st' (Cz (c:=B) O O jY hB.symm) O (st' (Al (c:=B) O underlying46 underlying2 (A6 Z Z)) O (st' (v:=(pP b1 3)) (AA O underlying49 O sizeOf47 O) O (st' (v:=(pP b1 5)) (AB (j:=2) O O underlying47 sizeOf46 O jY O) O (BL 2 (Value.int .i8 m.c) aw O (st' (Cz (c:=C) O O jY hC.symm) O (st' (Al (c:=C) O underlying46 underlying2 (A6 Z Z)) O (st' (v:=(pP b1 3)) (AA O underlying49 O sizeOf47 O) O (st' (v:=(pP b1 6)) (AB (j:=3) O O underlying47 sizeOf46 O jY O) O ?_)))))))))))
 refine BL 2 (Value.int .i8 m.d) aw O (st' (Cz (c:=D) O O jY hD.symm) O (st' (Al (c:=D) O underlying46 underlying2 (A6 Z Z)) O (st' (v:=(aG (YW (A,B,C,D)))) (Az (zs:=YW ((0,0,0,0):Int×Int×Int×Int)) (vs:=YW (A,B,C,D)) (pv:=[(0,(vI A)),(1,(vI B)),(2,(vI C)),(3,(vI D))]) zeroValue195 underlying195 sizeOf2 O (HX A B C D)) O (al fh O λb4=>An O sizeOf195 O (q3 (sL [3,4,5] O) (st' (v:=(pP b4 0)) (AB (j:=0) O O underlying195 sizeOf2 O jY O) O (BL 0 (vI A) M6 O (st' (v:=(pP b4 3)) (AB (j:=3) O O underlying195 sizeOf2 O jY O) O (BL 0 (vI D) M6 O (st' (B5 (c:=(A*D)) O O (A6 Z Z)) O ?_))))))))))
 refine st' (v:=(pP b4 1)) (AB (j:=1) O O underlying195 sizeOf2 O jY O) O (BL 0 (vI B) M6 O (st' (v:=(pP b4 2)) (AB (j:=2) O O underlying195 sizeOf2 O jY O) O (BL 0 (vI C) M6 O (st' (B5 (c:=(B*C)) O O (A6 Z Z)) O (st' (BY (c:=(A*D-B*C)) O O (A6 Z Z)) O (asg' O (q6 (sL [3,4,5,6] O) (q4 (AK O (st' (Au (c:=(decide ((A*D-B*C)=(0:Int)))) O O O) O (oNl' ?_)))))))))))
 refine zB (sL [3,4,5,6,42] O) (zA ?_)
 refine zK O (λhc0=>?_) (λhc0=>?_)
 ·replace hc0:=xR hc0
  have hz0:=hc0
  refine zH (st' (v:=(aG (YW ((1:Int),(0:Int),(0:Int),(1:Int))))) (Az (zs:=YW ((0,0,0,0):Int×Int×Int×Int)) (vs:=YW ((1:Int),(0:Int),(0:Int),(1:Int))) (pv:=[(0,(vI 1)),(1,(vI 0)),(2,(vI 0)),(3,(vI 1))]) zeroValue195 underlying195 sizeOf2 O (HX (1:Int) (0:Int) (0:Int) (1:Int))) O (An O sizeOf195 O (q6 (sL [3,4,5,6] O) (q4 (AK O (st' (Aa (c:=(decide ((A*D-B*C)<(0:Int)))) O O O) O (oNl' (zB (sL [3,4,5,6,45] O) (zA ?_)))))))))
  refine yL (tg λ(K:Ep)=>K=IP m.a m.b m.c m.d) (tg λ(K:Ep)=>[(3,(pP b2 0)),(4,(pP b3 0)),(5,(pP b4 0))]) (tg λ(K:Ep)=>[AO b4 195 (YW (K.a,K.b,K.c,K.d)),AO b3 102 (CZ ((0,0):Int×Int)),AO b2 141 (BD p),AO b1 49 (Em m),AI m.p (C7 m.cs)]) ?_ ?_
  ·refine zK O (λhc1=>?_) (λhc1=>?_)
   ·replace hc1:=xR hc1
    refine q4 (st' (v:=(pP b4 2)) (AB (j:=2) O O underlying195 sizeOf2 O jY O) O (BL 0 (vI (0:Int)) M6 O (st' (Jo (c:=(-C)) O (by first|(exfalso;omega)|(rw [Int.zero_sub];exact A6 Z Z))) O (st' (v:=(pP b4 2)) (AB (j:=2) O O underlying195 sizeOf2 O jY O) O (Dt 0 (off:=2) (vs:=[(vI (-C))]) (cs':=[(vI (1:Int)),(vI (0:Int)),(vI (-C)),(vI (1:Int))]) (AG O) O sizeOf2 O (oNl' (zB (sL [3,4,5,6] O) (zA (zH (st' (v:=(pP b4 3)) (AB (j:=3) O O underlying195 sizeOf2 O jY O) O (BL 0 (vI (1:Int)) M6 O ?_)))))))))))
    exact st' (Jo (c:=(-D)) O (by first|(exfalso;omega)|(rw [Int.zero_sub];exact A6 Z Z))) O (st' (v:=(pP b4 3)) (AB (j:=3) O O underlying195 sizeOf2 O jY O) O (Dt 0 (off:=3) (vs:=[(vI (-D))]) (cs':=[(vI (1:Int)),(vI (0:Int)),(vI (-C)),(vI (-D))]) (AG O) O sizeOf2 O (oNl' (zB (sL [3,4,5,6] O) (zk (Ep.mk (1:Int) (0:Int) (-C) (-D)) ((by first|(exfalso;omega)|exact (Oh hA hB hC hD hz0).symm|exact (Of hA hB hC hD hc1).symm|exact (Og hA hB hC hD hz0 hc1).symm)) (sF O) sr)))))
   ·replace hc1:=xQ hc1
    exact zG (zk (Ep.mk (1:Int) (0:Int) (0:Int) (1:Int)) ((by first|(exfalso;omega)|exact (Oh hA hB hC hD hz0).symm|exact (Of hA hB hC hD hc1).symm|exact (Og hA hB hC hD hz0 hc1).symm)) (sF O) sr)
  ·intro K hJ
   have hK:=hJ
   have kk:=JA m.a m.b m.c m.d
   rw [<-hK] at kk
   have qz0:=Dq kk.a (k:=6) (b:=(p.1:Int)) Z
   have qz1:=Dq kk.b (k:=6) (b:=(p.2:Int)) Z
   have qz2:=Dq kk.c (k:=6) (b:=(p.1:Int)) Z
   have qz3:=Dq kk.d (k:=6) (b:=(p.2:Int)) Z
   refine q2 (st' (v:=(pP b2 0)) (AB (j:=0) O O underlying141 sizeOf3 O jY O) O (BL 2 (vN p.1) Dc O (asg' O (q3 (sL [3,4,5,7] O) (st' (v:=(pP b2 1)) (AB (j:=1) O O underlying141 sizeOf3 O jY O) O (BL 2 (vN p.2) Dc O (asg' O (q3 (sL [3,4,5,7,8] O) (st' (v:=(pP b4 0)) (AB (j:=0) O O underlying195 sizeOf2 O jY O) O (BL 0 (vI K.a) M6 O (AK O ?_)))))))))))
   refine st' (B5 (c:=(K.a*(p.1:Int))) O O (A6 Z Z)) O (st' (v:=(pP b4 1)) (AB (j:=1) O O underlying195 sizeOf2 O jY O) O (BL 0 (vI K.b) M6 O (AK O (st' (B5 (c:=(K.b*(p.2:Int))) O O (A6 Z Z)) O (st' (AX (c:=(K.a*(p.1:Int)+K.b*(p.2:Int))) O O (A6 Z Z)) O (st' (v:=(pP b4 2)) (AB (j:=2) O O underlying195 sizeOf2 O jY O) O (BL 0 (vI K.c) M6 O (AK O (st' (B5 (c:=(K.c*(p.1:Int))) O O (A6 Z Z)) O (st' (v:=(pP b4 3)) (AB (j:=3) O O underlying195 sizeOf2 O jY O) O (BL 0 (vI K.d) M6 O ?_)))))))))))
   exact AK O (st' (B5 (c:=(K.d*(p.2:Int))) O O (A6 Z Z)) O (st' (AX (c:=(K.c*(p.1:Int)+K.d*(p.2:Int))) O O (A6 Z Z)) O (st' (v:=(aG (CZ (K.a*(p.1:Int)+K.b*(p.2:Int),K.c*(p.1:Int)+K.d*(p.2:Int))))) (Az (zs:=CZ ((0,0):Int×Int)) (vs:=CZ (K.a*(p.1:Int)+K.b*(p.2:Int),K.c*(p.1:Int)+K.d*(p.2:Int))) (pv:=[(0,(vI (K.a*(p.1:Int)+K.b*(p.2:Int)))),(1,(vI (K.c*(p.1:Int)+K.d*(p.2:Int))))]) zeroValue102 underlying102 sizeOf2 O (HW (K.a*(p.1:Int)+K.b*(p.2:Int)) (K.c*(p.1:Int)+K.d*(p.2:Int)))) O (DK O sizeOf102 O (oNl' (zB (sL [3,4,5] O) (zA (zF (ret_one O (Ab (i:=1) (cs:=CZ (K.a*(p.1:Int)+K.b*(p.2:Int),K.c*(p.1:Int)+K.d*(p.2:Int))) O O isAgg102 sizeOf102 O) (λw hw=>⟨by rw [<-hK];rfl,hw.out⟩))))))))))
 ·replace hc0:=xQ hc0
  have hz0:=hc0
  refine zG (q1 (q4 (AK O (st' (Aa (c:=(decide ((A*D-B*C)<(0:Int)))) O O O) O (oNl' (zB (sL [3,4,5,6,45] O) (zA ?_)))))))
  refine yL (tg λ(K:Ep)=>K=IP m.a m.b m.c m.d) (tg λ(K:Ep)=>[(3,(pP b2 0)),(4,(pP b3 0)),(5,(pP b4 0))]) (tg λ(K:Ep)=>[AO b4 195 (YW (K.a,K.b,K.c,K.d)),AO b3 102 (CZ ((0,0):Int×Int)),AO b2 141 (BD p),AO b1 49 (Em m),AI m.p (C7 m.cs)]) ?_ ?_
  ·refine zK O (λhc1=>?_) (λhc1=>?_)
   ·replace hc1:=xR hc1
    refine q4 (st' (v:=(pP b4 2)) (AB (j:=2) O O underlying195 sizeOf2 O jY O) O (BL 0 (vI C) M6 O (st' (Jo (c:=(-C)) O (by first|(exfalso;omega)|(rw [Int.zero_sub];exact A6 Z Z))) O (st' (v:=(pP b4 2)) (AB (j:=2) O O underlying195 sizeOf2 O jY O) O (Dt 0 (off:=2) (vs:=[(vI (-C))]) (cs':=[(vI A),(vI B),(vI (-C)),(vI D)]) (AG O) O sizeOf2 O (oNl' (zB (sL [3,4,5,6] O) (zA (zH (st' (v:=(pP b4 3)) (AB (j:=3) O O underlying195 sizeOf2 O jY O) O (BL 0 (vI D) M6 O ?_)))))))))))
    exact st' (Jo (c:=(-D)) O (by first|(exfalso;omega)|(rw [Int.zero_sub];exact A6 Z Z))) O (st' (v:=(pP b4 3)) (AB (j:=3) O O underlying195 sizeOf2 O jY O) O (Dt 0 (off:=3) (vs:=[(vI (-D))]) (cs':=[(vI A),(vI B),(vI (-C)),(vI (-D))]) (AG O) O sizeOf2 O (oNl' (zB (sL [3,4,5,6] O) (zk (Ep.mk A B (-C) (-D)) ((by first|(exfalso;omega)|exact (Oh hA hB hC hD hz0).symm|exact (Of hA hB hC hD hc1).symm|exact (Og hA hB hC hD hz0 hc1).symm)) (sF O) sr)))))
   ·replace hc1:=xQ hc1
    exact zG (zk (Ep.mk A B C D) ((by first|(exfalso;omega)|exact (Oh hA hB hC hD hz0).symm|exact (Of hA hB hC hD hc1).symm|exact (Og hA hB hC hD hz0 hc1).symm)) (sF O) sr)
  ·intro K hJ
   have hK:=hJ
   have kk:=JA m.a m.b m.c m.d
   rw [<-hK] at kk
   have qz0:=Dq kk.a (k:=6) (b:=(p.1:Int)) Z
   have qz1:=Dq kk.b (k:=6) (b:=(p.2:Int)) Z
   have qz2:=Dq kk.c (k:=6) (b:=(p.1:Int)) Z
   have qz3:=Dq kk.d (k:=6) (b:=(p.2:Int)) Z
   refine q2 (st' (v:=(pP b2 0)) (AB (j:=0) O O underlying141 sizeOf3 O jY O) O (BL 2 (vN p.1) Dc O (asg' O (q3 (sL [3,4,5,7] O) (st' (v:=(pP b2 1)) (AB (j:=1) O O underlying141 sizeOf3 O jY O) O (BL 2 (vN p.2) Dc O (asg' O (q3 (sL [3,4,5,7,8] O) (st' (v:=(pP b4 0)) (AB (j:=0) O O underlying195 sizeOf2 O jY O) O (BL 0 (vI K.a) M6 O (AK O ?_)))))))))))
   refine st' (B5 (c:=(K.a*(p.1:Int))) O O (A6 Z Z)) O (st' (v:=(pP b4 1)) (AB (j:=1) O O underlying195 sizeOf2 O jY O) O (BL 0 (vI K.b) M6 O (AK O (st' (B5 (c:=(K.b*(p.2:Int))) O O (A6 Z Z)) O (st' (AX (c:=(K.a*(p.1:Int)+K.b*(p.2:Int))) O O (A6 Z Z)) O (st' (v:=(pP b4 2)) (AB (j:=2) O O underlying195 sizeOf2 O jY O) O (BL 0 (vI K.c) M6 O (AK O (st' (B5 (c:=(K.c*(p.1:Int))) O O (A6 Z Z)) O (st' (v:=(pP b4 3)) (AB (j:=3) O O underlying195 sizeOf2 O jY O) O (BL 0 (vI K.d) M6 O ?_)))))))))))
   exact AK O (st' (B5 (c:=(K.d*(p.2:Int))) O O (A6 Z Z)) O (st' (AX (c:=(K.c*(p.1:Int)+K.d*(p.2:Int))) O O (A6 Z Z)) O (st' (v:=(aG (CZ (K.a*(p.1:Int)+K.b*(p.2:Int),K.c*(p.1:Int)+K.d*(p.2:Int))))) (Az (zs:=CZ ((0,0):Int×Int)) (vs:=CZ (K.a*(p.1:Int)+K.b*(p.2:Int),K.c*(p.1:Int)+K.d*(p.2:Int))) (pv:=[(0,(vI (K.a*(p.1:Int)+K.b*(p.2:Int)))),(1,(vI (K.c*(p.1:Int)+K.d*(p.2:Int))))]) zeroValue102 underlying102 sizeOf2 O (HW (K.a*(p.1:Int)+K.b*(p.2:Int)) (K.c*(p.1:Int)+K.d*(p.2:Int)))) O (DK O sizeOf102 O (oNl' (zB (sL [3,4,5] O) (zA (zF (ret_one O (Ab (i:=1) (cs:=CZ (K.a*(p.1:Int)+K.b*(p.2:Int),K.c*(p.1:Int)+K.d*(p.2:Int))) O O isAgg102 sizeOf102 O) (λw hw=>⟨by rw [<-hK];rfl,hw.out⟩))))))))))
end
end Go.Proofs.YtcpkbjjmcleplaaGreatDoor
