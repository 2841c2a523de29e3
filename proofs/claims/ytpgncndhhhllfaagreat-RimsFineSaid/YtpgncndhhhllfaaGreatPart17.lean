import Derived.Test.YtpgncndhhhllfaaGreatPart03
import Derived.Test.YtpgncndhhhllfaaGreatPart06
import Derived.Test.YtpgncndhhhllfaaGreatPart16
namespace Go.Proofs.YtpgncndhhhllfaaGreat
open Go Go.RowKit Go.Proofs.Tryz
set_option linter.unusedVariables false
set_option linter.unusedSimpArgs false
section
set_option maxRecDepth 100000
theorem V2:ElemT prog 105 108 6 48:=⟨underlying105,CR (by kernel_rfl)⟩
theorem Cx (x0 x1:Nat):Instr.fill (λi=>some (i*1,1)) (Ap ((0,0):P2)).toArray [(0,vN x0),(1,vN x1)]=some (Ap (x0,x1)).toArray:=by kernel_rfl
theorem B3 (x0 x1 x2:P2):Instr.fill (λi=>some (i*2,2)) (BC (((0,0),(0,0),(0,0)):P2×P2×P2)).toArray [(0,.agg (Ap x0).toArray),(1,.agg (Ap x1).toArray),(2,.agg (Ap x2).toArray)]=some (BC (x0,x1,x2)).toArray:=by kernel_rfl
theorem F5 (x0 x1:P2×P2×P2):Instr.fill (λi=>some (i*6,6)) ((Array.range (2*6)).map ((Value.agg (BC (((0,0),(0,0),(0,0)):P2×P2×P2)).toArray).cells[·%(Value.agg (BC (((0,0),(0,0),(0,0)):P2×P2×P2)).toArray).cells.size]!)) [(0,.agg (BC x0).toArray),(1,.agg (BC x1).toArray)]=some (BC x0++BC x1).toArray:=by kernel_rfl
theorem JZ (x0 x1 x2 x3:P2×P2×P2):Instr.fill (λi=>some (i*6,6)) ((Array.range (4*6)).map ((Value.agg (BC (((0,0),(0,0),(0,0)):P2×P2×P2)).toArray).cells[·%(Value.agg (BC (((0,0),(0,0),(0,0)):P2×P2×P2)).toArray).cells.size]!)) [(0,.agg (BC x0).toArray),(1,.agg (BC x1).toArray),(2,.agg (BC x2).toArray),(3,.agg (BC x3).toArray)]=some (BC x0++BC x1++BC x2++BC x3).toArray:=by kernel_rfl
set_option maxHeartbeats 1000000 in
theorem SW (m:MQ) (w:World) {S:Nat->Prop} (hm:Ro S w m):Calls prog 31 #[(aG (Df m))] w (Am (RX (rowsL BC (BK m)) (BK m).length) S w):=by
 obtain ⟨X,hX⟩:∃X,X=Hz m:=⟨_,rfl⟩
 obtain ⟨Y,hY⟩:∃Y,Y=Ub m:=⟨_,rfl⟩
 have hx1:=LH m
 have hy1:=J7 m
 have hxy:=JG m
 rw [<-hX] at hx1 hxy
 rw [<-hY] at hy1 hxy
 have lm:=Dk (W:=w) hm
 refine An (args:=[(aG (Df m))]) (L:=[AK m.p (Cb m.cs)]) func31 O O (Ad O) (E3 hm BA) (AE.subF (sL [0] O) (q4 (Ca (cs:=Df m) O λb1=>AI O (q3 (sL [1,2] O) (AJ (v:=(pP b1 0)) (AB O underlying26 O sizeOf5 O) O (BE 0 (vK .u8 m.nx) Ti O (AJ (Bg (c:=((m.nx%3:Nat):Int)) O O Z (F3 (a:=m.nx) (b:=3))) O (AJ (Ax (c:=((m.nx%3:Nat):Int)) O underlying5 underlying3 (CI Z)) O (AJ (AQ (c:=((1+(m.nx%3):Nat):Int)) O O (AN (a:=1) (b:=m.nx%3) Z)) O (AC.retell (k:=19) (u:=(vN X)) O (by rw [hX];rfl) ?_))))))))))
 refine AI O (q3 (sL [1,2,3] O) (AJ (v:=(pP b1 1)) (AB O underlying26 O sizeOf5 O) O (BE 0 (vK .u8 m.ny) Ti O (AJ (Bg (c:=((m.ny%3:Nat):Int)) O O Z (F3 (a:=m.ny) (b:=3))) O (AJ (Ax (c:=((m.ny%3:Nat):Int)) O underlying5 underlying3 (CI Z)) O (AJ (AQ (c:=((1+(m.ny%3):Nat):Int)) O O (AN (a:=1) (b:=m.ny%3) Z)) O (AC.retell (k:=24) (u:=(vN Y)) O (by rw [hY];rfl) (AI O (q3 (sL [1,2,3,4] O) (AI O (AC.nilRow 108 6 ?_)))))))))))
 refine AC.nil (q1 (q4 (AI O (AC.nil (OkQ.then_ (AE.block ?_))))))
 refine AE.lp4 (tg λ(i:Nat) (p:Option Addr) (c:Nat) (out:List (P2×P2×P2))=>i<=X*Y/\OwnOk p out.length c/\out=D9 m i) (tg λ(i:Nat) (p:Option Addr) (c:Nat) (out:List (P2×P2×P2))=>[(1,(pP b1 0)),(2,(Value.slice none 0 0)),(3,(vN X)),(4,(vN Y)),(6,(vN i)),(5,(Value.slice p out.length c))]) (tg λ(i:Nat) (p:Option Addr) (c:Nat) (out:List (P2×P2×P2))=>[rowW p 108 6 out.length c (rowsL BC out),Af b1 26 (Df m),AK m.p (Cb m.cs)]) (tg λ(i:Nat) (p:Option Addr) (c:Nat) (out:List (P2×P2×P2))=>X*Y-i) 0 none 0 ([]:List (P2×P2×P2)) (⟨Z,OwnOk.none,rfl⟩) (sF O) sr (λi p c out hJ=>?_)
 obtain ⟨hi,ho,hout⟩:=hJ
 have hlen:=HV m i
 rw [<-hout] at hlen
 refine AE.seq (q4 (AM O (AM O (AM O (AJ (Bs (c:=((X*Y:Nat):Int)) O O (Cm (a:=X) (b:=Y) (by exact Nat.lt_of_le_of_lt hxy (by decide)))) O (AJ (Ac (c:=(decide (i<(X*Y)))) O O (CD (a:=i) (b:=X*Y))) O (AC.nil (OkQ.subF (sL [1,2,3,4,6,5,29] O) (OkQ.then_ ?_)))))))))
 refine AE.cond O (λhc0=>?_) (λhc0=>?_)
 ·replace hc0:=of_decide_eq_true hc0
  refine AE.skip (q1 (AE.block (q4 (AI O (AC.nil (q1 (q4 (AJ (v:=(pP b1 2)) (AB O underlying26 O sizeOf22 O) O (BE 1 (Value.slice m.p m.cs.length m.cap) Zl O (AJ (v:=(vN m.cs.length)) (AF O underlying22) O (AJ (CY (c:=(decide (0<m.cs.length))) O O (CD (a:=0) (b:=m.cs.length))) O ?_)))))))))))
  refine AC.nil (OkQ.subF (sL [1,2,3,4,6,5,7,35] O) (OkQ.then_ ?_))
  refine AE.jn1 (tg λ(wy:Nat)=>wy=G4 m i) (tg λ(wy:Nat)=>[(1,(pP b1 0)),(2,(Value.slice none 0 0)),(3,(vN X)),(4,(vN Y)),(6,(vN i)),(5,(Value.slice p out.length c)),(7,(vK .u8 wy))]) (tg λ(wy:Nat)=>[rowW p 108 6 out.length c (rowsL BC out),Af b1 26 (Df m),AK m.p (Cb m.cs)]) ?_ ?_
  ·skip
   refine AE.cond O (λhc1=>?_) (λhc1=>?_)
   ·replace hc1:=of_decide_eq_true hc1
    refine Ck [(0,true),(1,true),(2,true),(3,true),(4,true),(5,true),(6,true),(7,true),(8,true),(9,true),(10,true)] sr (Ao (v:=(pP b1 2)) O (AB O underlying26 O sizeOf22 O) (Bk 1 (Value.slice m.p m.cs.length m.cap) Zl O (BT O (Ao (v:=(pP b1 2)) O (AB O underlying26 O sizeOf22 O) (Bk 1 (Value.slice m.p m.cs.length m.cap) Zl O (Ao (v:=(vN m.cs.length)) O (AF O underlying22) (Ao O (Bg (c:=((i%m.cs.length:Nat):Int)) O O Z (F3 (a:=i) (b:=m.cs.length))) (Ao (v:=(pP (pB m.p) (pO m.p+(i%m.cs.length)*1))) O (AG (j:=i%m.cs.length) O O m.ok underlying22 sizeOf5 O (by exact Nat.mod_lt _ hc1)) (Ao O (AL (v:=(vK .u8 (m.cs.getD (i%m.cs.length) 0))) (i:=2) O O (m.ok.ne (by first|exact Nat.mod_lt i hc1|exact hc1)) Ti (VZ (by first|exact Nat.mod_lt i hc1|exact hc1))) (Ao O (Bg (c:=(((m.cs.getD (i%m.cs.length) 0)%8:Nat):Int)) O O Z (F3 (a:=m.cs.getD (i%m.cs.length) 0) (b:=8))) (pS' O ?_)))))))))))
    exact OkE.nil (OkQ.subF (sL [1,2,3,4,6,5,7] O) (OkQ.join1 ((m.cs.getD (i%m.cs.length) 0)%8) (by unfold G4;first|rw [if_pos hc1]|rw [if_neg hc1]) (sF O) sr))
   ·replace hc1:=of_decide_eq_false hc1
    exact AE.skip (OkQ.join1 0 (by unfold G4;first|rw [if_pos hc1]|rw [if_neg hc1]) (sF O) sr)
  ·intro wy hJ
   have hw:=hJ
   have hw8:=Q4 m i
   rw [<-hw] at hw8
   refine q2 (AM O (AM O ?_))
   obtain ⟨u,hu⟩:∃u,u=i%X:=⟨_,rfl⟩
   have hu2:u<X:=by rw [hu];exact Nat.mod_lt _ Z
   refine AJ (Bg (c:=((u:Nat):Int)) O O Z (by rw [hu];exact F3 (a:=i) (b:=X))) O (AJ (Bs (c:=((2*u:Nat):Int)) O O (Cm (a:=2) (b:=u) Z)) O (AI O (q3 (sL [1,2,3,4,6,5,7,8] O) (AM O (AM O ?_)))))
   obtain ⟨v,hv⟩:∃v,v=i/X:=⟨_,rfl⟩
   have hv2:v<=9:=by rw [hv];exact Nat.le_trans (Nat.div_le_self _ _) Z
   refine AJ (Dm (c:=((v:Nat):Int)) O O Z (by rw [hv];exact E5 (a:=i) (b:=X) Z)) O (AJ (Bs (c:=((2*v:Nat):Int)) O O (Cm (a:=2) (b:=v) Z)) O (AI O (q3 (sL [1,2,3,4,6,5,7,8,9] O) (AM O (AM O (AJ (v:=(aG (Ap (2*u,2*v)))) (Ar (zs:=Ap ((0,0):P2)) (vs:=Ap (2*u,2*v)) (pv:=[(0,(vN (2*u))),(1,(vN (2*v)))]) zeroValue107 underlying107 sizeOf3 O (Cx (2*u) (2*v))) O (al I3 O λb2=>BN O sizeOf107 O (q3 (sL [1,2,3,4,6,5,7,8,9,10] O) (AM O (AJ (AQ (c:=(((2*u)+2:Nat):Int)) O O (AN (a:=2*u) (b:=2) Z)) O ?_))))))))))
   refine AM O (AJ (v:=(aG (Ap ((2*u)+2,2*v)))) (Ar (zs:=Ap ((0,0):P2)) (vs:=Ap ((2*u)+2,2*v)) (pv:=[(0,(vN ((2*u)+2))),(1,(vN (2*v)))]) zeroValue107 underlying107 sizeOf3 O (Cx ((2*u)+2) (2*v))) O (al I3 O λb3=>BN O sizeOf107 O (q3 (sL [1,2,3,4,6,5,7,8,9,10,11] O) (AM O (AJ (AQ (c:=(((2*u)+2:Nat):Int)) O O (AN (a:=2*u) (b:=2) Z)) O (AM O (AJ (AQ (c:=(((2*v)+2:Nat):Int)) O O (AN (a:=2*v) (b:=2) Z)) O (AJ (v:=(aG (Ap ((2*u)+2,(2*v)+2)))) (Ar (zs:=Ap ((0,0):P2)) (vs:=Ap ((2*u)+2,(2*v)+2)) (pv:=[(0,(vN ((2*u)+2))),(1,(vN ((2*v)+2)))]) zeroValue107 underlying107 sizeOf3 O (Cx ((2*u)+2) ((2*v)+2))) O (al I3 O λb4=>BN O sizeOf107 O ?_)))))))))
   refine q3 (sL [1,2,3,4,6,5,7,8,9,10,11,12] O) (AM O (AM O (AJ (AQ (c:=(((2*v)+2:Nat):Int)) O O (AN (a:=2*v) (b:=2) Z)) O (AJ (v:=(aG (Ap (2*u,(2*v)+2)))) (Ar (zs:=Ap ((0,0):P2)) (vs:=Ap (2*u,(2*v)+2)) (pv:=[(0,(vN (2*u))),(1,(vN ((2*v)+2)))]) zeroValue107 underlying107 sizeOf3 O (Cx (2*u) ((2*v)+2))) O (al I3 O λb5=>BN O sizeOf107 O (q3 (sL [1,2,3,4,6,5,7,8,9,10,11,12,13] O) (AM O (AJ (AQ (c:=(((2*u)+1:Nat):Int)) O O (AN (a:=2*u) (b:=1) Z)) O (AM O (AJ (AQ (c:=(((2*v)+1:Nat):Int)) O O (AN (a:=2*v) (b:=1) Z)) O ?_))))))))))
   refine AJ (v:=(aG (Ap ((2*u)+1,(2*v)+1)))) (Ar (zs:=Ap ((0,0):P2)) (vs:=Ap ((2*u)+1,(2*v)+1)) (pv:=[(0,(vN ((2*u)+1))),(1,(vN ((2*v)+1)))]) zeroValue107 underlying107 sizeOf3 O (Cx ((2*u)+1) ((2*v)+1))) O (al I3 O λb6=>BN O sizeOf107 O (AC.nil (OkQ.subF (sL [1,2,3,4,6,5,7,8,9,10,11,12,13,14] O) (OkQ.then_ (AE.block (q4 (AM O (AJ (Ac (c:=(decide (wy<3))) O O (CD (a:=wy) (b:=3))) O (AM O ?_)))))))))
   refine AC.mid (FM:=[(1,(pP b1 0)),(2,(Value.slice none 0 0)),(3,(vN X)),(4,(vN Y)),(6,(vN i)),(5,(Value.slice p out.length c)),(7,(vK .u8 wy)),(8,(vN (2*u))),(9,(vN (2*v))),(10,(pP b2 0)),(11,(pP b3 0)),(12,(pP b4 0)),(13,(pP b5 0)),(14,(pP b6 0)),(76,(vK .u8 wy)),(77,(Value.bool (decide (wy<3)))),(78,(Value.bool (decide (wy<3)))),(85,(Value.bool ((decide (wy<3))||((decide (wy=7))&&(decide (i=0))))))]) (LM:=[Af b6 107 (Ap ((2*u)+1,(2*v)+1)),Af b5 107 (Ap (2*u,(2*v)+2)),Af b4 107 (Ap ((2*u)+2,(2*v)+2)),Af b3 107 (Ap ((2*u)+2,2*v)),Af b2 107 (Ap (2*u,2*v)),rowW p 108 6 out.length c (rowsL BC out),Af b1 26 (Df m),AK m.p (Cb m.cs)]) 7 ?_ ?_
   ·rcases Bool.eq_false_or_eq_true (decide (wy<3)) with hg1|hg1
    ·skip
     refine AC.retell (k:=78) (u:=Value.bool true) O (by rw [hg1]) ?_
     have hg1':=hg1
     replace hg1':=of_decide_eq_true hg1'
     exact AC.skip (AH O) O (Ad O) (AC.skip (AH O) O (Ad O) (AC.skip (AH O) O (Ad O) (AC.skip (Aj O O O) O (Ad O) (AC.skip (Aj O O O) O (Ad O) (AC.skip (AH O) O (Ad O) (AJ (v:=(Value.bool true)) (AW O O) O (AC.nil (OkQ.mid (sS O (sS O (sS O (sS O (sS O (sS O (sS O (sS O (sS O (sS O (sS O (sS O (sS O (sS O (sS O (sS O (sS (by first|rfl|(rw [hg1];rfl)|rw [hg1]) (sS (by first|rfl|(rw [hg1];rfl)|rw [hg1]) (sN))))))))))))))))))) (List.Sublist.refl _)))))))))
    ·skip
     refine AC.retell (k:=78) (u:=Value.bool false) O (by rw [hg1]) ?_
     have hg1':=hg1
     replace hg1':=of_decide_eq_false hg1'
     refine AC.step (v:=(vK .u8 wy)) (AA O) (AU O) O (Ad O) (AC.step (v:=(Value.bool (decide (wy=7)))) (AA O) (BQ (c:=(decide (wy=7))) O O (JC (a:=wy) (b:=7))) O (Ad O) (AC.step (v:=(Value.bool (decide (wy=7)))) (AA O) (AU O) O (Ad O) ?_))
     refine AC.mid (FM:=[(1,(pP b1 0)),(2,(Value.slice none 0 0)),(3,(vN X)),(4,(vN Y)),(6,(vN i)),(5,(Value.slice p out.length c)),(7,(vK .u8 wy)),(8,(vN (2*u))),(9,(vN (2*v))),(10,(pP b2 0)),(11,(pP b3 0)),(12,(pP b4 0)),(13,(pP b5 0)),(14,(pP b6 0)),(76,(vK .u8 wy)),(77,(Value.bool (decide (wy<3)))),(78,(Value.bool false)),(79,(vK .u8 wy)),(80,(Value.bool (decide (wy=7)))),(81,(Value.bool (decide (wy=7)))),(84,(Value.bool ((decide (wy=7))&&(decide (i=0)))))]) (LM:=[Af b6 107 (Ap ((2*u)+1,(2*v)+1)),Af b5 107 (Ap (2*u,(2*v)+2)),Af b4 107 (Ap ((2*u)+2,(2*v)+2)),Af b3 107 (Ap ((2*u)+2,2*v)),Af b2 107 (Ap (2*u,2*v)),rowW p 108 6 out.length c (rowsL BC out),Af b1 26 (Df m),AK m.p (Cb m.cs)]) 3 ?_ ?_
     ·rcases Bool.eq_false_or_eq_true (decide (wy=7)) with hg2|hg2
      ·skip
       refine AC.retell (k:=81) (u:=Value.bool true) O (by rw [hg2]) ?_
       have hg2':=hg2
       replace hg2':=of_decide_eq_true hg2'
       exact AC.step (v:=(vN i)) (AA O) (AU O) O (Ad O) (AC.step (v:=(Value.bool (decide (i=0)))) (AA O) (BQ (c:=(decide (i=0))) O O (JC (a:=i) (b:=0))) O (Ad O) (AC.step (v:=(Value.bool (decide (i=0)))) (AA O) (AW O O) O (Ad O) (AC.nil (OkQ.mid (sS O (sS O (sS O (sS O (sS O (sS O (sS O (sS O (sS O (sS O (sS O (sS O (sS O (sS O (sS O (sS O (sS O (sS O (sS O (sS (by first|rfl|(rw [hg2];rfl)|rw [hg2]) (sS (by first|rfl|(rw [hg2];rfl)|rw [hg2]) (sN)))))))))))))))))))))) (List.Sublist.refl _)))))
      ·skip
       refine AC.retell (k:=81) (u:=Value.bool false) O (by rw [hg2]) ?_
       have hg2':=hg2
       replace hg2':=of_decide_eq_false hg2'
       exact AC.skip (AH O) O (Ad O) (AC.skip (AH O) O (Ad O) (AC.step (v:=(Value.bool false)) (AA O) (AT O O) O (Ad O) (AC.nil (OkQ.mid (sS O (sS O (sS O (sS O (sS O (sS O (sS O (sS O (sS O (sS O (sS O (sS O (sS O (sS O (sS O (sS O (sS O (sS O (sS O (sS (by first|rfl|(rw [hg2];rfl)|rw [hg2]) (sS (by first|rfl|(rw [hg2];rfl)|rw [hg2]) (sN)))))))))))))))))))))) (List.Sublist.refl _)))))
     exact AJ (v:=(Value.bool ((decide (wy=7))&&(decide (i=0))))) (AT O O) O (AC.nil (OkQ.mid (sS O (sS O (sS O (sS O (sS O (sS O (sS O (sS O (sS O (sS O (sS O (sS O (sS O (sS O (sS O (sS O (sS (by first|rfl|(rw [hg1];rfl)|rw [hg1]) (sS (by first|rfl|(rw [hg1];rfl)|rw [hg1]) (sN))))))))))))))))))) (List.Sublist.refl _)))
   refine AI O (AC.nil (OkQ.subF (sL [1,2,3,4,6,5,7,8,9,10,11,12,13,14,75] O) (OkQ.then_ ?_)))
   refine AE.cond O (λhc2=>?_) (λhc2=>?_)
   ·simp only [Bool.and_eq_true,Bool.or_eq_true,Bool.and_eq_false_iff,Bool.or_eq_false_iff,Bool.not_eq_true',Bool.not_eq_false',decide_eq_true_eq,decide_eq_false_iff_not] at hc2
    have hcell:=YE hu hv (way:=wy) (by simpa using hc2)
    refine AE.region (AM O (BF 4 Bq O (BF 3 Bq O (BF 2 Bq O (AJ (v:=(aG (BC ((2*u,2*v),((2*u)+2,2*v),((2*u)+2,(2*v)+2))))) (Ar (zs:=BC (((0,0),(0,0),(0,0)):P2×P2×P2)) (vs:=BC ((2*u,2*v),((2*u)+2,2*v),((2*u)+2,(2*v)+2))) (pv:=[(0,(aG (Ap (2*u,2*v)))),(1,(aG (Ap ((2*u)+2,2*v)))),(2,(aG (Ap ((2*u)+2,(2*v)+2))))]) zeroValue108 underlying108 sizeOf107 O (B3 (2*u,2*v) ((2*u)+2,2*v) ((2*u)+2,(2*v)+2))) O (BF 4 Bq O (BF 2 Bq O (BF 1 Bq O (AJ (v:=(aG (BC ((2*u,2*v),((2*u)+2,(2*v)+2),(2*u,(2*v)+2))))) (Ar (zs:=BC (((0,0),(0,0),(0,0)):P2×P2×P2)) (vs:=BC ((2*u,2*v),((2*u)+2,(2*v)+2),(2*u,(2*v)+2))) (pv:=[(0,(aG (Ap (2*u,2*v)))),(1,(aG (Ap ((2*u)+2,(2*v)+2)))),(2,(aG (Ap (2*u,(2*v)+2))))]) zeroValue108 underlying108 sizeOf107 O (B3 (2*u,2*v) ((2*u)+2,(2*v)+2) (2*u,(2*v)+2))) O (AC.openV (V:=λb7=>(Value.slice (some ⟨b7,0,none⟩) 2 2)) (T:=108) (cs:=BC ((2*u,2*v),((2*u)+2,2*v),((2*u)+2,(2*v)+2))++BC ((2*u,2*v),((2*u)+2,(2*v)+2),(2*u,(2*v)+2))) (AP O) (Ai (z:=.agg (BC (((0,0),(0,0),(0,0)):P2×P2×P2)).toArray) (cs:=BC ((2*u,2*v),((2*u)+2,2*v),((2*u)+2,(2*v)+2))++BC ((2*u,2*v),((2*u)+2,(2*v)+2),(2*u,(2*v)+2))) (pv:=[(0,(aG (BC ((2*u,2*v),((2*u)+2,2*v),((2*u)+2,(2*v)+2))))),(1,(aG (BC ((2*u,2*v),((2*u)+2,(2*v)+2),(2*u,(2*v)+2)))))]) underlying105 sizeOf108 zeroValue108 (by decide) (by decide) O (F5 ((2*u,2*v),((2*u)+2,2*v),((2*u)+2,(2*v)+2)) ((2*u,2*v),((2*u)+2,(2*v)+2),(2*u,(2*v)+2)))) O (Ad O) λb7=>AC.appendAt 6 (j:=0) (cs2:=rowsL BC (out++[((2*u,2*v),((2*u)+2,2*v),((2*u)+2,(2*v)+2)),((2*u,2*v),((2*u)+2,(2*v)+2),(2*u,(2*v)+2))])) V2 O ho (Al Fd _) O O O O O (by decide) (FE Z) Z (by rw [BJ];rfl) O λp_1 c_1 ho_1 hne_1=>?_))))))))))
    refine AI O (AC.nil (OkQ.subF (sL [1,2,3,4,6,5,7,8,9,10,11,12,13,14] O) (OkQ.in_normal (OkQ.in_normal (OkQ.then_ (AE.region (AM O (AJ (AQ (c:=((i+1:Nat):Int)) O O (AN (a:=i) (b:=1) Z)) O (AI O (AC.nil (OkQ.subF (sL [1,2,3,4,6,5,7,8,9,10,11,12,13,14] O) ?_)))))))))))
    rw [show out.length+2=(out++[((2*u,2*v),((2*u)+2,2*v),((2*u)+2,(2*v)+2)),((2*u,2*v),((2*u)+2,(2*v)+2),(2*u,(2*v)+2))]).length by simp]
    exact OkQ.round4 (i+1) p_1 c_1 (out++[((2*u,2*v),((2*u)+2,2*v),((2*u)+2,(2*v)+2)),((2*u,2*v),((2*u)+2,(2*v)+2),(2*u,(2*v)+2))]) (⟨Z,(by simpa using ho_1),by rw [hout];show _=D9 m i++Cl (Hz m) (G4 m i) i;rw [<-hX,<-hw,hcell]⟩) Z (sF O) (sl (sl (sl (sl (sl (sl sr))))))
   ·simp only [Bool.and_eq_true,Bool.or_eq_true,Bool.and_eq_false_iff,Bool.or_eq_false_iff,Bool.not_eq_true',Bool.not_eq_false',decide_eq_true_eq,decide_eq_false_iff_not] at hc2
    have h20:¬(wy<3\/(wy=7/\i=0)):=by simp at hc2;omega
    refine q4 (AM O (AJ (Ac (c:=(decide (wy<5))) O O (CD (a:=wy) (b:=5))) O (AI O (AC.nil (OkQ.subF (sL [1,2,3,4,6,5,7,8,9,10,11,12,13,14,97] O) (OkQ.then_ ?_))))))
    refine AE.cond O (λhc3=>?_) (λhc3=>?_)
    ·replace hc3:=of_decide_eq_true hc3
     have hcell:=X5 hu hv h20 (by simpa using hc3)
     refine AE.region (AM O (BF 4 Bq O (BF 3 Bq O (BF 1 Bq O (AJ (v:=(aG (BC ((2*u,2*v),((2*u)+2,2*v),(2*u,(2*v)+2))))) (Ar (zs:=BC (((0,0),(0,0),(0,0)):P2×P2×P2)) (vs:=BC ((2*u,2*v),((2*u)+2,2*v),(2*u,(2*v)+2))) (pv:=[(0,(aG (Ap (2*u,2*v)))),(1,(aG (Ap ((2*u)+2,2*v)))),(2,(aG (Ap (2*u,(2*v)+2))))]) zeroValue108 underlying108 sizeOf107 O (B3 (2*u,2*v) ((2*u)+2,2*v) (2*u,(2*v)+2))) O (BF 3 Bq O (BF 2 Bq O (BF 1 Bq O (AJ (v:=(aG (BC (((2*u)+2,2*v),((2*u)+2,(2*v)+2),(2*u,(2*v)+2))))) (Ar (zs:=BC (((0,0),(0,0),(0,0)):P2×P2×P2)) (vs:=BC (((2*u)+2,2*v),((2*u)+2,(2*v)+2),(2*u,(2*v)+2))) (pv:=[(0,(aG (Ap ((2*u)+2,2*v)))),(1,(aG (Ap ((2*u)+2,(2*v)+2)))),(2,(aG (Ap (2*u,(2*v)+2))))]) zeroValue108 underlying108 sizeOf107 O (B3 ((2*u)+2,2*v) ((2*u)+2,(2*v)+2) (2*u,(2*v)+2))) O (AC.openV (V:=λb7=>(Value.slice (some ⟨b7,0,none⟩) 2 2)) (T:=108) (cs:=BC ((2*u,2*v),((2*u)+2,2*v),(2*u,(2*v)+2))++BC (((2*u)+2,2*v),((2*u)+2,(2*v)+2),(2*u,(2*v)+2))) (AP O) (Ai (z:=.agg (BC (((0,0),(0,0),(0,0)):P2×P2×P2)).toArray) (cs:=BC ((2*u,2*v),((2*u)+2,2*v),(2*u,(2*v)+2))++BC (((2*u)+2,2*v),((2*u)+2,(2*v)+2),(2*u,(2*v)+2))) (pv:=[(0,(aG (BC ((2*u,2*v),((2*u)+2,2*v),(2*u,(2*v)+2))))),(1,(aG (BC (((2*u)+2,2*v),((2*u)+2,(2*v)+2),(2*u,(2*v)+2)))))]) underlying105 sizeOf108 zeroValue108 (by decide) (by decide) O (F5 ((2*u,2*v),((2*u)+2,2*v),(2*u,(2*v)+2)) (((2*u)+2,2*v),((2*u)+2,(2*v)+2),(2*u,(2*v)+2)))) O (Ad O) λb7=>AC.appendAt 6 (j:=0) (cs2:=rowsL BC (out++[((2*u,2*v),((2*u)+2,2*v),(2*u,(2*v)+2)),(((2*u)+2,2*v),((2*u)+2,(2*v)+2),(2*u,(2*v)+2))])) V2 O ho (Al Fd _) O O O O O (by decide) (FE Z) Z (by rw [BJ];rfl) O λp_2 c_2 ho_2 hne_2=>?_))))))))))
     refine AI O (AC.nil (OkQ.subF (sL [1,2,3,4,6,5,7,8,9,10,11,12,13,14] O) (OkQ.in_normal (OkQ.in_normal (OkQ.then_ (AE.region (AM O (AJ (AQ (c:=((i+1:Nat):Int)) O O (AN (a:=i) (b:=1) Z)) O (AI O (AC.nil (OkQ.subF (sL [1,2,3,4,6,5,7,8,9,10,11,12,13,14] O) ?_)))))))))))
     rw [show out.length+2=(out++[((2*u,2*v),((2*u)+2,2*v),(2*u,(2*v)+2)),(((2*u)+2,2*v),((2*u)+2,(2*v)+2),(2*u,(2*v)+2))]).length by simp]
     exact OkQ.round4 (i+1) p_2 c_2 (out++[((2*u,2*v),((2*u)+2,2*v),(2*u,(2*v)+2)),(((2*u)+2,2*v),((2*u)+2,(2*v)+2),(2*u,(2*v)+2))]) (⟨Z,(by simpa using ho_2),by rw [hout];show _=D9 m i++Cl (Hz m) (G4 m i) i;rw [<-hX,<-hw,hcell]⟩) Z (sF O) (sl (sl (sl (sl (sl (sl sr))))))
    ·replace hc3:=of_decide_eq_false hc3
     have h30:¬wy<5:=by simpa using hc3
     refine q4 (AM O (AJ (Ac (c:=(decide (wy<7))) O O (CD (a:=wy) (b:=7))) O (AI O (AC.nil (OkQ.subF (sL [1,2,3,4,6,5,7,8,9,10,11,12,13,14,111] O) (OkQ.then_ ?_))))))
     refine AE.cond O (λhc4=>?_) (λhc4=>?_)
     ·replace hc4:=of_decide_eq_true hc4
      have hcell:=YC hu hv h20 h30 (by simpa using hc4)
      refine AE.region (AM O (BF 4 Bq O (BF 3 Bq O (BF 0 Bq O (AJ (v:=(aG (BC ((2*u,2*v),((2*u)+2,2*v),((2*u)+1,(2*v)+1))))) (Ar (zs:=BC (((0,0),(0,0),(0,0)):P2×P2×P2)) (vs:=BC ((2*u,2*v),((2*u)+2,2*v),((2*u)+1,(2*v)+1))) (pv:=[(0,(aG (Ap (2*u,2*v)))),(1,(aG (Ap ((2*u)+2,2*v)))),(2,(aG (Ap ((2*u)+1,(2*v)+1))))]) zeroValue108 underlying108 sizeOf107 O (B3 (2*u,2*v) ((2*u)+2,2*v) ((2*u)+1,(2*v)+1))) O (BF 3 Bq O (BF 2 Bq O (BF 0 Bq O (AJ (v:=(aG (BC (((2*u)+2,2*v),((2*u)+2,(2*v)+2),((2*u)+1,(2*v)+1))))) (Ar (zs:=BC (((0,0),(0,0),(0,0)):P2×P2×P2)) (vs:=BC (((2*u)+2,2*v),((2*u)+2,(2*v)+2),((2*u)+1,(2*v)+1))) (pv:=[(0,(aG (Ap ((2*u)+2,2*v)))),(1,(aG (Ap ((2*u)+2,(2*v)+2)))),(2,(aG (Ap ((2*u)+1,(2*v)+1))))]) zeroValue108 underlying108 sizeOf107 O (B3 ((2*u)+2,2*v) ((2*u)+2,(2*v)+2) ((2*u)+1,(2*v)+1))) O (BF 2 Bq O (BF 1 Bq O ?_)))))))))))
      refine BF 0 Bq O (AJ (v:=(aG (BC (((2*u)+2,(2*v)+2),(2*u,(2*v)+2),((2*u)+1,(2*v)+1))))) (Ar (zs:=BC (((0,0),(0,0),(0,0)):P2×P2×P2)) (vs:=BC (((2*u)+2,(2*v)+2),(2*u,(2*v)+2),((2*u)+1,(2*v)+1))) (pv:=[(0,(aG (Ap ((2*u)+2,(2*v)+2)))),(1,(aG (Ap (2*u,(2*v)+2)))),(2,(aG (Ap ((2*u)+1,(2*v)+1))))]) zeroValue108 underlying108 sizeOf107 O (B3 ((2*u)+2,(2*v)+2) (2*u,(2*v)+2) ((2*u)+1,(2*v)+1))) O (BF 1 Bq O (BF 4 Bq O (BF 0 Bq O (AJ (v:=(aG (BC ((2*u,(2*v)+2),(2*u,2*v),((2*u)+1,(2*v)+1))))) (Ar (zs:=BC (((0,0),(0,0),(0,0)):P2×P2×P2)) (vs:=BC ((2*u,(2*v)+2),(2*u,2*v),((2*u)+1,(2*v)+1))) (pv:=[(0,(aG (Ap (2*u,(2*v)+2)))),(1,(aG (Ap (2*u,2*v)))),(2,(aG (Ap ((2*u)+1,(2*v)+1))))]) zeroValue108 underlying108 sizeOf107 O (B3 (2*u,(2*v)+2) (2*u,2*v) ((2*u)+1,(2*v)+1))) O (AC.openV (V:=λb7=>(Value.slice (some ⟨b7,0,none⟩) 4 4)) (T:=108) (cs:=BC ((2*u,2*v),((2*u)+2,2*v),((2*u)+1,(2*v)+1))++BC (((2*u)+2,2*v),((2*u)+2,(2*v)+2),((2*u)+1,(2*v)+1))++BC (((2*u)+2,(2*v)+2),(2*u,(2*v)+2),((2*u)+1,(2*v)+1))++BC ((2*u,(2*v)+2),(2*u,2*v),((2*u)+1,(2*v)+1))) (AP O) (Ai (z:=.agg (BC (((0,0),(0,0),(0,0)):P2×P2×P2)).toArray) (cs:=BC ((2*u,2*v),((2*u)+2,2*v),((2*u)+1,(2*v)+1))++BC (((2*u)+2,2*v),((2*u)+2,(2*v)+2),((2*u)+1,(2*v)+1))++BC (((2*u)+2,(2*v)+2),(2*u,(2*v)+2),((2*u)+1,(2*v)+1))++BC ((2*u,(2*v)+2),(2*u,2*v),((2*u)+1,(2*v)+1))) (pv:=[(0,(aG (BC ((2*u,2*v),((2*u)+2,2*v),((2*u)+1,(2*v)+1))))),(1,(aG (BC (((2*u)+2,2*v),((2*u)+2,(2*v)+2),((2*u)+1,(2*v)+1))))),(2,(aG (BC (((2*u)+2,(2*v)+2),(2*u,(2*v)+2),((2*u)+1,(2*v)+1))))),(3,(aG (BC ((2*u,(2*v)+2),(2*u,2*v),((2*u)+1,(2*v)+1)))))]) underlying105 sizeOf108 zeroValue108 (by decide) (by decide) O (JZ ((2*u,2*v),((2*u)+2,2*v),((2*u)+1,(2*v)+1)) (((2*u)+2,2*v),((2*u)+2,(2*v)+2),((2*u)+1,(2*v)+1)) (((2*u)+2,(2*v)+2),(2*u,(2*v)+2),((2*u)+1,(2*v)+1)) ((2*u,(2*v)+2),(2*u,2*v),((2*u)+1,(2*v)+1)))) O (Ad O) λb7=>AC.appendAt 6 (j:=0) (cs2:=rowsL BC (out++[((2*u,2*v),((2*u)+2,2*v),((2*u)+1,(2*v)+1)),(((2*u)+2,2*v),((2*u)+2,(2*v)+2),((2*u)+1,(2*v)+1)),(((2*u)+2,(2*v)+2),(2*u,(2*v)+2),((2*u)+1,(2*v)+1)),((2*u,(2*v)+2),(2*u,2*v),((2*u)+1,(2*v)+1))])) V2 O ho (Al Fd _) O O O O O (by decide) (FE Z) Z (by rw [BJ];rfl) O λp_3 c_3 ho_3 hne_3=>AI O (AC.nil (OkQ.subF (sL [1,2,3,4,6,5,7,8,9,10,11,12,13,14] O) (OkQ.in_normal ?_)))))))))
      refine OkQ.in_normal (OkQ.then_ (AE.region (AM O (AJ (AQ (c:=((i+1:Nat):Int)) O O (AN (a:=i) (b:=1) Z)) O (AI O (AC.nil (OkQ.subF (sL [1,2,3,4,6,5,7,8,9,10,11,12,13,14] O) ?_)))))))
      rw [show out.length+4=(out++[((2*u,2*v),((2*u)+2,2*v),((2*u)+1,(2*v)+1)),(((2*u)+2,2*v),((2*u)+2,(2*v)+2),((2*u)+1,(2*v)+1)),(((2*u)+2,(2*v)+2),(2*u,(2*v)+2),((2*u)+1,(2*v)+1)),((2*u,(2*v)+2),(2*u,2*v),((2*u)+1,(2*v)+1))]).length by simp]
      exact OkQ.round4 (i+1) p_3 c_3 (out++[((2*u,2*v),((2*u)+2,2*v),((2*u)+1,(2*v)+1)),(((2*u)+2,2*v),((2*u)+2,(2*v)+2),((2*u)+1,(2*v)+1)),(((2*u)+2,(2*v)+2),(2*u,(2*v)+2),((2*u)+1,(2*v)+1)),((2*u,(2*v)+2),(2*u,2*v),((2*u)+1,(2*v)+1))]) (⟨Z,(by simpa using ho_3),by rw [hout];show _=D9 m i++Cl (Hz m) (G4 m i) i;rw [<-hX,<-hw,hcell]⟩) Z (sF O) (sl (sl (sl (sl (sl (sl sr))))))
     ·replace hc4:=of_decide_eq_false hc4
      have hcell:Cl X wy i=[]:=X_ h20 h30 (by simpa using hc4)
      exact AE.skip (OkQ.in_normal (OkQ.in_normal (OkQ.then_ (AE.region (AM O (AJ (AQ (c:=((i+1:Nat):Int)) O O (AN (a:=i) (b:=1) Z)) O (AI O (AC.nil (OkQ.subF (sL [1,2,3,4,6,5,7,8,9,10,11,12,13,14] O) (OkQ.round4 (i+1) p c out (⟨Z,(by simpa using ho),by rw [hout];show _=D9 m i++Cl (Hz m) (G4 m i) i;rw [<-hX,<-hw,hcell];simp⟩) Z (sF O) (sl (sl (sl (sl (sl sr)))))))))))))))
 ·replace hc0:=of_decide_eq_false hc0
  have hfin:out=BK m:=by rw [hout];unfold BK;rw [<-hX,<-hY,show i=X*Y by omega]
  exact AE.exit (OkQ.then_exit (OkQ.round4_exit (OkQ.in_exit (q2 (AM O (AI O (AC.nil (OkQ.subF (sL [1,2,3,4,6,5] O) (OkQ.then_ (AE.ret (AV O (Ah (v:=(Value.slice p out.length c)) O) (λw hw=>(by rw [<-hfin];exact Wf hw 0 O ho (Al Fd _) O)))))))))))))
theorem F_ (x0 x1 x2 x3:Int):Instr.fill (λi=>some (i*1,1)) (Wr ((0,0,0,0):Int×Int×Int×Int)).toArray [(0,.int .i64 x0),(1,.int .i64 x1),(2,.int .i64 x2),(3,.int .i64 x3)]=some (Wr (x0,x1,x2,x3)).toArray:=by kernel_rfl
theorem GT (x0 x1:Int):Instr.fill (λi=>some (i*1,1)) (CF ((0,0):Int×Int)).toArray [(0,.int .i64 x0),(1,.int .i64 x1)]=some (CF (x0,x1)).toArray:=by kernel_rfl
theorem It (m:MQ) (p:P2) (hp:p.1<=6/\p.2<=6) (w:World) {S:Nat->Prop} (hm:Ro S w m):Calls prog 32 #[(aG (Df m)),(aG (Ap p))] w (A9 w (aG (CF ((G5 m.a m.b m.c m.d).at_ p)))):=by
 obtain ⟨A,hA⟩:∃A,A=m.a.tmod 4:=⟨_,rfl⟩
 obtain ⟨B,hB⟩:∃A,A=m.b.tmod 4:=⟨_,rfl⟩
 obtain ⟨C,hC⟩:∃A,A=m.c.tmod 4:=⟨_,rfl⟩
 obtain ⟨D,hD⟩:∃A,A=m.d.tmod 4:=⟨_,rfl⟩
 have kA:=Iy m.a
 have kB:=Iy m.b
 have kC:=Iy m.c
 have kD:=Iy m.d
 rw [<-hA] at kA
 rw [<-hB] at kB
 rw [<-hC] at kC
 rw [<-hD] at kD
 have e1:=C4 kA (k:=3) kD
 have e2:=C4 kB (k:=3) kC
 have lm:=Dk (W:=w) hm
 refine An (args:=[(aG (Df m)),(aG (Ap p))]) (L:=[AK m.p (Cb m.cs)]) func32 O O (Ad O) (E3 hm BA) (AE.subF (sL [0,1] O) (q4 (Ca (cs:=Df m) O λb1=>Ca (cs:=Ap p) O λb2=>al dt O λb3=>q3 (sL [2,3,4] O) (AJ (v:=(pP b1 3)) (AB O underlying26 O sizeOf24 O) O (AJ (v:=(pP b1 3)) (AD (j:=0) O O underlying24 sizeOf23 O (by decide) O) O (BE 2 (Value.int .i8 m.a) Xq O (AJ (Bg (c:=A) O O (by decide) hA.symm) O (AJ (Ax (c:=A) O underlying23 underlying2 (Ay Z Z)) O ?_))))))))
 refine AJ (v:=(pP b1 3)) (AB O underlying26 O sizeOf24 O) O (AJ (v:=(pP b1 4)) (AD (j:=1) O O underlying24 sizeOf23 O (by decide) O) O (BE 2 (Value.int .i8 m.b) Xq O (AJ (Bg (c:=B) O O (by decide) hB.symm) O (AJ (Ax (c:=B) O underlying23 underlying2 (Ay Z Z)) O (AJ (v:=(pP b1 3)) (AB O underlying26 O sizeOf24 O) O (AJ (v:=(pP b1 5)) (AD (j:=2) O O underlying24 sizeOf23 O (by decide) O) O (BE 2 (Value.int .i8 m.c) Xq O (AJ (Bg (c:=C) O O (by decide) hC.symm) O (AJ (Ax (c:=C) O underlying23 underlying2 (Ay Z Z)) O (AJ (v:=(pP b1 3)) (AB O underlying26 O sizeOf24 O) O (AJ (v:=(pP b1 6)) (AD (j:=3) O O underlying24 sizeOf23 O (by decide) O) O ?_)))))))))))
 refine BE 2 (Value.int .i8 m.d) Xq O (AJ (Bg (c:=D) O O (by decide) hD.symm) O (AJ (Ax (c:=D) O underlying23 underlying2 (Ay Z Z)) O (AJ (v:=(aG (Wr (A,B,C,D)))) (Ar (zs:=Wr ((0,0,0,0):Int×Int×Int×Int)) (vs:=Wr (A,B,C,D)) (pv:=[(0,(vI A)),(1,(vI B)),(2,(vI C)),(3,(vI D))]) zeroValue132 underlying132 sizeOf2 O (F_ A B C D)) O (al bD O λb4=>BN O sizeOf132 O (q3 (sL [3,4,5] O) (AJ (v:=(pP b4 0)) (AD (j:=0) O O underlying132 sizeOf2 O (by decide) O) O (BE 0 (vI A) LO O (AJ (v:=(pP b4 3)) (AD (j:=3) O O underlying132 sizeOf2 O (by decide) O) O (BE 0 (vI D) LO O (AJ (Bs (c:=(A*D)) O O (Ay Z Z)) O ?_))))))))))
 refine AJ (v:=(pP b4 1)) (AD (j:=1) O O underlying132 sizeOf2 O (by decide) O) O (BE 0 (vI B) LO O (AJ (v:=(pP b4 2)) (AD (j:=2) O O underlying132 sizeOf2 O (by decide) O) O (BE 0 (vI C) LO O (AJ (Bs (c:=(B*C)) O O (Ay Z Z)) O (AJ (BU (c:=(A*D-B*C)) O O (Ay Z Z)) O (AI O (q6 (sL [3,4,5,6] O) (q4 (AM O (AJ (BQ (c:=(decide ((A*D-B*C)=(0:Int)))) O O O) O (AC.nil ?_)))))))))))
 refine OkQ.subF (sL [3,4,5,6,42] O) (OkQ.then_ ?_)
 refine AE.cond O (λhc0=>?_) (λhc0=>?_)
 ·replace hc0:=of_decide_eq_true hc0
  have hz0:=hc0
  refine AE.region (AJ (v:=(aG (Wr ((1:Int),(0:Int),(0:Int),(1:Int))))) (Ar (zs:=Wr ((0,0,0,0):Int×Int×Int×Int)) (vs:=Wr ((1:Int),(0:Int),(0:Int),(1:Int))) (pv:=[(0,(vI 1)),(1,(vI 0)),(2,(vI 0)),(3,(vI 1))]) zeroValue132 underlying132 sizeOf2 O (F_ (1:Int) (0:Int) (0:Int) (1:Int))) O (BN O sizeOf132 O (q6 (sL [3,4,5,6] O) (q4 (AM O (AJ (Ac (c:=(decide ((A*D-B*C)<(0:Int)))) O O O) O (AC.nil (OkQ.subF (sL [3,4,5,6,45] O) (OkQ.then_ ?_)))))))))
  refine AE.jn1 (tg λ(K:Dl)=>K=G5 m.a m.b m.c m.d) (tg λ(K:Dl)=>[(3,(pP b2 0)),(4,(pP b3 0)),(5,(pP b4 0))]) (tg λ(K:Dl)=>[Af b4 132 (Wr (K.a,K.b,K.c,K.d)),Af b3 51 (CF ((0,0):Int×Int)),Af b2 107 (Ap p),Af b1 26 (Df m),AK m.p (Cb m.cs)]) ?_ ?_
  ·skip
   refine AE.cond O (λhc1=>?_) (λhc1=>?_)
   ·replace hc1:=of_decide_eq_true hc1
    refine q4 (AJ (v:=(pP b4 2)) (AD (j:=2) O O underlying132 sizeOf2 O (by decide) O) O (BE 0 (vI (0:Int)) LO O (AJ (Ig (c:=(-C)) O (by first|(exfalso;omega)|(rw [Int.zero_sub];exact Ay Z Z))) O (AJ (v:=(pP b4 2)) (AD (j:=2) O O underlying132 sizeOf2 O (by decide) O) O (F2 0 (off:=2) (vs:=[(vI (-C))]) (cs':=[(vI (1:Int)),(vI (0:Int)),(vI (-C)),(vI (1:Int))]) (AP O) O sizeOf2 O (AC.nil (OkQ.subF (sL [3,4,5,6] O) (OkQ.then_ (AE.region (AJ (v:=(pP b4 3)) (AD (j:=3) O O underlying132 sizeOf2 O (by decide) O) O (BE 0 (vI (1:Int)) LO O ?_)))))))))))
    exact AJ (Ig (c:=(-D)) O (by first|(exfalso;omega)|(rw [Int.zero_sub];exact Ay Z Z))) O (AJ (v:=(pP b4 3)) (AD (j:=3) O O underlying132 sizeOf2 O (by decide) O) O (F2 0 (off:=3) (vs:=[(vI (-D))]) (cs':=[(vI (1:Int)),(vI (0:Int)),(vI (-C)),(vI (-D))]) (AP O) O sizeOf2 O (AC.nil (OkQ.subF (sL [3,4,5,6] O) (OkQ.join1 (Dl.mk (1:Int) (0:Int) (-C) (-D)) ((by first|(exfalso;omega)|exact (NA hA hB hC hD hz0).symm|exact (Nd hA hB hC hD hc1).symm|exact (Ml hA hB hC hD hz0 hc1).symm)) (sF O) sr)))))
   ·replace hc1:=of_decide_eq_false hc1
    exact AE.skip (OkQ.join1 (Dl.mk (1:Int) (0:Int) (0:Int) (1:Int)) ((by first|(exfalso;omega)|exact (NA hA hB hC hD hz0).symm|exact (Nd hA hB hC hD hc1).symm|exact (Ml hA hB hC hD hz0 hc1).symm)) (sF O) sr)
  ·intro K hJ
   have hK:=hJ
   have kk:=H1 m.a m.b m.c m.d
   rw [<-hK] at kk
   have qz0:=C4 kk.a (k:=6) (b:=(p.1:Int)) Z
   have qz1:=C4 kk.b (k:=6) (b:=(p.2:Int)) Z
   have qz2:=C4 kk.c (k:=6) (b:=(p.1:Int)) Z
   have qz3:=C4 kk.d (k:=6) (b:=(p.2:Int)) Z
   refine q2 (AJ (v:=(pP b2 0)) (AD (j:=0) O O underlying107 sizeOf3 O (by decide) O) O (BE 2 (vN p.1) BY O (AI O (q3 (sL [3,4,5,7] O) (AJ (v:=(pP b2 1)) (AD (j:=1) O O underlying107 sizeOf3 O (by decide) O) O (BE 2 (vN p.2) BY O (AI O (q3 (sL [3,4,5,7,8] O) (AJ (v:=(pP b4 0)) (AD (j:=0) O O underlying132 sizeOf2 O (by decide) O) O (BE 0 (vI K.a) LO O (AM O ?_)))))))))))
   refine AJ (Bs (c:=(K.a*(p.1:Int))) O O (Ay Z Z)) O (AJ (v:=(pP b4 1)) (AD (j:=1) O O underlying132 sizeOf2 O (by decide) O) O (BE 0 (vI K.b) LO O (AM O (AJ (Bs (c:=(K.b*(p.2:Int))) O O (Ay Z Z)) O (AJ (AQ (c:=(K.a*(p.1:Int)+K.b*(p.2:Int))) O O (Ay Z Z)) O (AJ (v:=(pP b4 2)) (AD (j:=2) O O underlying132 sizeOf2 O (by decide) O) O (BE 0 (vI K.c) LO O (AM O (AJ (Bs (c:=(K.c*(p.1:Int))) O O (Ay Z Z)) O (AJ (v:=(pP b4 3)) (AD (j:=3) O O underlying132 sizeOf2 O (by decide) O) O (BE 0 (vI K.d) LO O ?_)))))))))))
   exact AM O (AJ (Bs (c:=(K.d*(p.2:Int))) O O (Ay Z Z)) O (AJ (AQ (c:=(K.c*(p.1:Int)+K.d*(p.2:Int))) O O (Ay Z Z)) O (AJ (v:=(aG (CF (K.a*(p.1:Int)+K.b*(p.2:Int),K.c*(p.1:Int)+K.d*(p.2:Int))))) (Ar (zs:=CF ((0,0):Int×Int)) (vs:=CF (K.a*(p.1:Int)+K.b*(p.2:Int),K.c*(p.1:Int)+K.d*(p.2:Int))) (pv:=[(0,(vI (K.a*(p.1:Int)+K.b*(p.2:Int)))),(1,(vI (K.c*(p.1:Int)+K.d*(p.2:Int))))]) zeroValue51 underlying51 sizeOf2 O (GT (K.a*(p.1:Int)+K.b*(p.2:Int)) (K.c*(p.1:Int)+K.d*(p.2:Int)))) O (Ed O sizeOf51 O (AC.nil (OkQ.subF (sL [3,4,5] O) (OkQ.then_ (AE.ret (AV O (BP (i:=1) (cs:=CF (K.a*(p.1:Int)+K.b*(p.2:Int),K.c*(p.1:Int)+K.d*(p.2:Int))) O O isAgg51 sizeOf51 O) (λw hw=>⟨by rw [<-hK];rfl,hw.out⟩))))))))))
 ·replace hc0:=of_decide_eq_false hc0
  have hz0:=hc0
  refine AE.skip (q1 (q4 (AM O (AJ (Ac (c:=(decide ((A*D-B*C)<(0:Int)))) O O O) O (AC.nil (OkQ.subF (sL [3,4,5,6,45] O) (OkQ.then_ ?_)))))))
  refine AE.jn1 (tg λ(K:Dl)=>K=G5 m.a m.b m.c m.d) (tg λ(K:Dl)=>[(3,(pP b2 0)),(4,(pP b3 0)),(5,(pP b4 0))]) (tg λ(K:Dl)=>[Af b4 132 (Wr (K.a,K.b,K.c,K.d)),Af b3 51 (CF ((0,0):Int×Int)),Af b2 107 (Ap p),Af b1 26 (Df m),AK m.p (Cb m.cs)]) ?_ ?_
  ·skip
   refine AE.cond O (λhc1=>?_) (λhc1=>?_)
   ·replace hc1:=of_decide_eq_true hc1
    refine q4 (AJ (v:=(pP b4 2)) (AD (j:=2) O O underlying132 sizeOf2 O (by decide) O) O (BE 0 (vI C) LO O (AJ (Ig (c:=(-C)) O (by first|(exfalso;omega)|(rw [Int.zero_sub];exact Ay Z Z))) O (AJ (v:=(pP b4 2)) (AD (j:=2) O O underlying132 sizeOf2 O (by decide) O) O (F2 0 (off:=2) (vs:=[(vI (-C))]) (cs':=[(vI A),(vI B),(vI (-C)),(vI D)]) (AP O) O sizeOf2 O (AC.nil (OkQ.subF (sL [3,4,5,6] O) (OkQ.then_ (AE.region (AJ (v:=(pP b4 3)) (AD (j:=3) O O underlying132 sizeOf2 O (by decide) O) O (BE 0 (vI D) LO O ?_)))))))))))
    exact AJ (Ig (c:=(-D)) O (by first|(exfalso;omega)|(rw [Int.zero_sub];exact Ay Z Z))) O (AJ (v:=(pP b4 3)) (AD (j:=3) O O underlying132 sizeOf2 O (by decide) O) O (F2 0 (off:=3) (vs:=[(vI (-D))]) (cs':=[(vI A),(vI B),(vI (-C)),(vI (-D))]) (AP O) O sizeOf2 O (AC.nil (OkQ.subF (sL [3,4,5,6] O) (OkQ.join1 (Dl.mk A B (-C) (-D)) ((by first|(exfalso;omega)|exact (NA hA hB hC hD hz0).symm|exact (Nd hA hB hC hD hc1).symm|exact (Ml hA hB hC hD hz0 hc1).symm)) (sF O) sr)))))
   ·replace hc1:=of_decide_eq_false hc1
    exact AE.skip (OkQ.join1 (Dl.mk A B C D) ((by first|(exfalso;omega)|exact (NA hA hB hC hD hz0).symm|exact (Nd hA hB hC hD hc1).symm|exact (Ml hA hB hC hD hz0 hc1).symm)) (sF O) sr)
  ·intro K hJ
   have hK:=hJ
   have kk:=H1 m.a m.b m.c m.d
   rw [<-hK] at kk
   have qz0:=C4 kk.a (k:=6) (b:=(p.1:Int)) Z
   have qz1:=C4 kk.b (k:=6) (b:=(p.2:Int)) Z
   have qz2:=C4 kk.c (k:=6) (b:=(p.1:Int)) Z
   have qz3:=C4 kk.d (k:=6) (b:=(p.2:Int)) Z
   refine q2 (AJ (v:=(pP b2 0)) (AD (j:=0) O O underlying107 sizeOf3 O (by decide) O) O (BE 2 (vN p.1) BY O (AI O (q3 (sL [3,4,5,7] O) (AJ (v:=(pP b2 1)) (AD (j:=1) O O underlying107 sizeOf3 O (by decide) O) O (BE 2 (vN p.2) BY O (AI O (q3 (sL [3,4,5,7,8] O) (AJ (v:=(pP b4 0)) (AD (j:=0) O O underlying132 sizeOf2 O (by decide) O) O (BE 0 (vI K.a) LO O (AM O ?_)))))))))))
   refine AJ (Bs (c:=(K.a*(p.1:Int))) O O (Ay Z Z)) O (AJ (v:=(pP b4 1)) (AD (j:=1) O O underlying132 sizeOf2 O (by decide) O) O (BE 0 (vI K.b) LO O (AM O (AJ (Bs (c:=(K.b*(p.2:Int))) O O (Ay Z Z)) O (AJ (AQ (c:=(K.a*(p.1:Int)+K.b*(p.2:Int))) O O (Ay Z Z)) O (AJ (v:=(pP b4 2)) (AD (j:=2) O O underlying132 sizeOf2 O (by decide) O) O (BE 0 (vI K.c) LO O (AM O (AJ (Bs (c:=(K.c*(p.1:Int))) O O (Ay Z Z)) O (AJ (v:=(pP b4 3)) (AD (j:=3) O O underlying132 sizeOf2 O (by decide) O) O (BE 0 (vI K.d) LO O ?_)))))))))))
   exact AM O (AJ (Bs (c:=(K.d*(p.2:Int))) O O (Ay Z Z)) O (AJ (AQ (c:=(K.c*(p.1:Int)+K.d*(p.2:Int))) O O (Ay Z Z)) O (AJ (v:=(aG (CF (K.a*(p.1:Int)+K.b*(p.2:Int),K.c*(p.1:Int)+K.d*(p.2:Int))))) (Ar (zs:=CF ((0,0):Int×Int)) (vs:=CF (K.a*(p.1:Int)+K.b*(p.2:Int),K.c*(p.1:Int)+K.d*(p.2:Int))) (pv:=[(0,(vI (K.a*(p.1:Int)+K.b*(p.2:Int)))),(1,(vI (K.c*(p.1:Int)+K.d*(p.2:Int))))]) zeroValue51 underlying51 sizeOf2 O (GT (K.a*(p.1:Int)+K.b*(p.2:Int)) (K.c*(p.1:Int)+K.d*(p.2:Int)))) O (Ed O sizeOf51 O (AC.nil (OkQ.subF (sL [3,4,5] O) (OkQ.then_ (AE.ret (AV O (BP (i:=1) (cs:=CF (K.a*(p.1:Int)+K.b*(p.2:Int),K.c*(p.1:Int)+K.d*(p.2:Int))) O O isAgg51 sizeOf51 O) (λw hw=>⟨by rw [<-hK];rfl,hw.out⟩))))))))))
end
end Go.Proofs.YtpgncndhhhllfaaGreat
