import Derived.Test.YtfbomiejpbchdaaGreatPart06
import Derived.Test.YtfbomiejpbchdaaGreatPart08
import Derived.Test.YtfbomiejpbchdaaGreatPart22
namespace Go.Proofs.YtfbomiejpbchdaaGreat
open Go Go.RowKit
set_option linter.unusedVariables false
set_option linter.unusedSimpArgs false
section
set_option maxRecDepth 100000
theorem Si:ElemT Tryz.prog 187 189 6 48:=⟨Tryz.underlying187,EX (by kernel_rfl)⟩
theorem C1 (x0 x1:Nat):Instr.fill (λi=>some (i*1,1)) (A_ ((0,0):P2)).toArray [(0,vN x0),(1,vN x1)]=some (A_ (x0,x1)).toArray:=by kernel_rfl
theorem Bz (x0 x1 x2:P2):Instr.fill (λi=>some (i*2,2)) (BF (((0,0),(0,0),(0,0)):P2×P2×P2)).toArray [(0,.agg (A_ x0).toArray),(1,.agg (A_ x1).toArray),(2,.agg (A_ x2).toArray)]=some (BF (x0,x1,x2)).toArray:=by kernel_rfl
theorem GU (x0 x1:P2×P2×P2):Instr.fill (λi=>some (i*6,6)) ((Array.range (2*6)).map ((Value.agg (BF (((0,0),(0,0),(0,0)):P2×P2×P2)).toArray).cells[·%(Value.agg (BF (((0,0),(0,0),(0,0)):P2×P2×P2)).toArray).cells.size]!)) [(0,.agg (BF x0).toArray),(1,.agg (BF x1).toArray)]=some (BF x0++BF x1).toArray:=by kernel_rfl
theorem JU (x0 x1 x2 x3:P2×P2×P2):Instr.fill (λi=>some (i*6,6)) ((Array.range (4*6)).map ((Value.agg (BF (((0,0),(0,0),(0,0)):P2×P2×P2)).toArray).cells[·%(Value.agg (BF (((0,0),(0,0),(0,0)):P2×P2×P2)).toArray).cells.size]!)) [(0,.agg (BF x0).toArray),(1,.agg (BF x1).toArray),(2,.agg (BF x2).toArray),(3,.agg (BF x3).toArray)]=some (BF x0++BF x1++BF x2++BF x3).toArray:=by kernel_rfl
set_option maxHeartbeats 1000000 in
theorem RE (m:MQ) (w:World) {S:Nat->Prop} (hm:Ro S w m):Calls Tryz.prog 112 #[(aG (Eu m))] w (Bp (RX (rowsL BF (BD m)) (BD m).length) S w):=by
 obtain ⟨X,hX⟩:∃X,X=Fy m:=⟨_,rfl⟩
 obtain ⟨Y,hY⟩:∃Y,Y=Rk m:=⟨_,rfl⟩
 have hx1:=Iz m
 have hy1:=In m
 have hxy:=I9 m
 rw [<-hX] at hx1 hxy
 rw [<-hY] at hy1 hxy
 have lm:=FS (W:=w) hm
 refine BH (args:=[(aG (Eu m))]) (L:=[Ag m.p (C8 m.cs)]) Tryz.func112 rfl rfl (Ad rfl) (FP hm BY) (AG.subF (sL [0] rfl) (q4 (Bl (cs:=Eu m) rfl λb1=>AK rfl (q3 (sL [1,2] rfl) ?_))))
 refine AJ (v:=(pP b1 0)) (AA rfl Tryz.underlying26 rfl Tryz.sizeOf5 rfl) rfl (BL 0 (vK .u8 m.nx) Tn rfl (AJ (CF (c:=((m.nx%3:Nat):Int)) rfl rfl (by omega) (Ie (a:=m.nx) (b:=3))) rfl (AJ (Az (c:=((m.nx%3:Nat):Int)) rfl Tryz.underlying5 Tryz.underlying3 (CZ (by omega))) rfl (AJ (AX (c:=((1+(m.nx%3):Nat):Int)) rfl rfl (Ab (a:=1) (b:=m.nx%3) (by omega))) rfl (AF.retell (k:=19) (u:=(vN X)) rfl (by rw [hX];rfl) ?_)))))
 refine AK rfl (q3 (sL [1,2,3] rfl) (AJ (v:=(pP b1 1)) (AA rfl Tryz.underlying26 rfl Tryz.sizeOf5 rfl) rfl (BL 0 (vK .u8 m.ny) Tn rfl (AJ (CF (c:=((m.ny%3:Nat):Int)) rfl rfl (by omega) (Ie (a:=m.ny) (b:=3))) rfl (AJ (Az (c:=((m.ny%3:Nat):Int)) rfl Tryz.underlying5 Tryz.underlying3 (CZ (by omega))) rfl ?_)))))
 refine AJ (AX (c:=((1+(m.ny%3):Nat):Int)) rfl rfl (Ab (a:=1) (b:=m.ny%3) (by omega))) rfl (AF.retell (k:=24) (u:=(vN Y)) rfl (by rw [hY];rfl) (AK rfl (q3 (sL [1,2,3,4] rfl) (AK rfl (AF.nilRow 189 6 ?_)))))
 refine AF.nil (q1 (q4 (AK rfl (AF.nil (AC.then_ ?_)))))
 refine AG.block ?_
 refine AG.lp4 (tg λ(i:Nat) (p:Option Addr) (c:Nat) (out:List (P2×P2×P2))=>i<=X*Y/\OwnOk p out.length c/\out=EE m i) (tg λ(i:Nat) (p:Option Addr) (c:Nat) (out:List (P2×P2×P2))=>[(1,(pP b1 0)),(2,(Value.slice none 0 0)),(3,(vN X)),(4,(vN Y)),(6,(vN i)),(5,(Value.slice p out.length c))]) (tg λ(i:Nat) (p:Option Addr) (c:Nat) (out:List (P2×P2×P2))=>[rowW p 189 6 out.length c (rowsL BF out),Ah b1 26 (Eu m),Ag m.p (C8 m.cs)]) (tg λ(i:Nat) (p:Option Addr) (c:Nat) (out:List (P2×P2×P2))=>X*Y-i) 0 none 0 ([]:List (P2×P2×P2)) (⟨by omega,OwnOk.none,rfl⟩) (sF rfl) sr (λi p c out hJ=>?_)
 obtain ⟨hi,ho,hout⟩:=hJ
 have hlen:=Hn m i
 rw [<-hout] at hlen
 refine AG.seq (q4 (AO rfl (AO rfl (AO rfl (AJ (Bq (c:=((X*Y:Nat):Int)) rfl rfl (Ca (a:=X) (b:=Y) (by exact Nat.lt_of_le_of_lt hxy (by decide)))) rfl ?_)))))
 refine AJ (Af (c:=(decide (i<(X*Y)))) rfl rfl (DL (a:=i) (b:=X*Y))) rfl (AF.nil (AC.subF (sL [1,2,3,4,6,5,29] rfl) (AC.then_ ?_)))
 refine AG.cond rfl (λhc0=>?_) (λhc0=>?_)
 ·replace hc0:=of_decide_eq_true hc0
  refine AG.skip (q1 (AG.block (q4 (AK rfl (AF.nil ?_)))))
  refine q1 (q4 (AJ (v:=(pP b1 2)) (AA rfl Tryz.underlying26 rfl Tryz.sizeOf22 rfl) rfl (BL 1 (Value.slice m.p m.cs.length m.cap) X2 rfl (AJ (v:=(vN m.cs.length)) (AI rfl Tryz.underlying22) rfl (AJ (CK (c:=(decide (0<m.cs.length))) rfl rfl (DL (a:=0) (b:=m.cs.length))) rfl ?_)))))
  refine AF.nil (AC.subF (sL [1,2,3,4,6,5,7,35] rfl) (AC.then_ ?_))
  refine AG.jn1 (tg λ(wy:Nat)=>wy=GY m i) (tg λ(wy:Nat)=>[(1,(pP b1 0)),(2,(Value.slice none 0 0)),(3,(vN X)),(4,(vN Y)),(6,(vN i)),(5,(Value.slice p out.length c)),(7,(vK .u8 wy))]) (tg λ(wy:Nat)=>[rowW p 189 6 out.length c (rowsL BF out),Ah b1 26 (Eu m),Ag m.p (C8 m.cs)]) ?_ ?_
  ·skip
   refine AG.cond rfl (λhc1=>?_) (λhc1=>?_)
   ·replace hc1:=of_decide_eq_true hc1
    refine Cq [(0,true),(1,true),(2,true),(3,true),(4,true),(5,true),(6,true),(7,true),(8,true),(9,true),(10,true)] sr (Av (v:=(pP b1 2)) rfl (AA rfl Tryz.underlying26 rfl Tryz.sizeOf22 rfl) (Bg 1 (Value.slice m.p m.cs.length m.cap) X2 rfl (Bc rfl (Av (v:=(pP b1 2)) rfl (AA rfl Tryz.underlying26 rfl Tryz.sizeOf22 rfl) (Bg 1 (Value.slice m.p m.cs.length m.cap) X2 rfl ?_)))))
    refine Av (v:=(vN m.cs.length)) rfl (AI rfl Tryz.underlying22) (Av rfl (CF (c:=((i%m.cs.length:Nat):Int)) rfl rfl (by omega) (Ie (a:=i) (b:=m.cs.length))) (Av (v:=(pP (pB m.p) (pO m.p+(i%m.cs.length)*1))) rfl (AW (j:=i%m.cs.length) rfl rfl m.ok Tryz.underlying22 Tryz.sizeOf5 rfl (by exact Nat.mod_lt _ hc1)) (Av rfl (BK (v:=(vK .u8 (m.cs.getD (i%m.cs.length) 0))) (i:=2) rfl rfl (m.ok.ne (by first|exact Nat.mod_lt i hc1|exact hc1)) Tn (Sr (by first|exact Nat.mod_lt i hc1|exact hc1))) (Av rfl (CF (c:=(((m.cs.getD (i%m.cs.length) 0)%8:Nat):Int)) rfl rfl (by omega) (Ie (a:=m.cs.getD (i%m.cs.length) 0) (b:=8))) (FO rfl ?_)))))
    exact AS.nil (AC.subF (sL [1,2,3,4,6,5,7] rfl) (AC.join1 ((m.cs.getD (i%m.cs.length) 0)%8) (by unfold GY;first|rw [if_pos hc1]|rw [if_neg hc1]) (sF rfl) sr))
   ·replace hc1:=of_decide_eq_false hc1
    exact AG.skip (AC.join1 0 (by unfold GY;first|rw [if_pos hc1]|rw [if_neg hc1]) (sF rfl) sr)
  ·intro wy hJ
   have hw:=hJ
   have hw8:=Qd m i
   rw [<-hw] at hw8
   refine q2 (AO rfl (AO rfl ?_))
   obtain ⟨u,hu⟩:∃u,u=i%X:=⟨_,rfl⟩
   have hu2:u<X:=by rw [hu];exact Nat.mod_lt _ (by omega)
   refine AJ (CF (c:=((u:Nat):Int)) rfl rfl (by omega) (by rw [hu];exact Ie (a:=i) (b:=X))) rfl (AJ (Bq (c:=((2*u:Nat):Int)) rfl rfl (Ca (a:=2) (b:=u) (by omega))) rfl (AK rfl (q3 (sL [1,2,3,4,6,5,7,8] rfl) (AO rfl (AO rfl ?_)))))
   obtain ⟨v,hv⟩:∃v,v=i/X:=⟨_,rfl⟩
   have hv2:v<=9:=by rw [hv];exact Nat.le_trans (Nat.div_le_self _ _) (by omega)
   refine AJ (GH (c:=((v:Nat):Int)) rfl rfl (by omega) (by rw [hv];exact KB (a:=i) (b:=X) (by omega))) rfl (AJ (Bq (c:=((2*v:Nat):Int)) rfl rfl (Ca (a:=2) (b:=v) (by omega))) rfl (AK rfl (q3 (sL [1,2,3,4,6,5,7,8,9] rfl) (AO rfl (AO rfl ?_)))))
   refine AJ (v:=(aG (A_ (2*u,2*v)))) (An (zs:=A_ ((0,0):P2)) (vs:=A_ (2*u,2*v)) (pv:=[(0,(vN (2*u))),(1,(vN (2*v)))]) Tryz.zeroValue111 Tryz.underlying111 Tryz.sizeOf3 rfl (C1 (2*u) (2*v))) rfl (al JJ rfl λb2=>Ap rfl Tryz.sizeOf111 rfl (q3 (sL [1,2,3,4,6,5,7,8,9,10] rfl) (AO rfl (AJ (AX (c:=(((2*u)+2:Nat):Int)) rfl rfl (Ab (a:=2*u) (b:=2) (by omega))) rfl ?_))))
   refine AO rfl (AJ (v:=(aG (A_ ((2*u)+2,2*v)))) (An (zs:=A_ ((0,0):P2)) (vs:=A_ ((2*u)+2,2*v)) (pv:=[(0,(vN ((2*u)+2))),(1,(vN (2*v)))]) Tryz.zeroValue111 Tryz.underlying111 Tryz.sizeOf3 rfl (C1 ((2*u)+2) (2*v))) rfl (al JJ rfl λb3=>Ap rfl Tryz.sizeOf111 rfl (q3 (sL [1,2,3,4,6,5,7,8,9,10,11] rfl) (AO rfl ?_))))
   refine AJ (AX (c:=(((2*u)+2:Nat):Int)) rfl rfl (Ab (a:=2*u) (b:=2) (by omega))) rfl (AO rfl (AJ (AX (c:=(((2*v)+2:Nat):Int)) rfl rfl (Ab (a:=2*v) (b:=2) (by omega))) rfl (AJ (v:=(aG (A_ ((2*u)+2,(2*v)+2)))) (An (zs:=A_ ((0,0):P2)) (vs:=A_ ((2*u)+2,(2*v)+2)) (pv:=[(0,(vN ((2*u)+2))),(1,(vN ((2*v)+2)))]) Tryz.zeroValue111 Tryz.underlying111 Tryz.sizeOf3 rfl (C1 ((2*u)+2) ((2*v)+2))) rfl (al JJ rfl λb4=>Ap rfl Tryz.sizeOf111 rfl ?_))))
   refine q3 (sL [1,2,3,4,6,5,7,8,9,10,11,12] rfl) (AO rfl (AO rfl (AJ (AX (c:=(((2*v)+2:Nat):Int)) rfl rfl (Ab (a:=2*v) (b:=2) (by omega))) rfl (AJ (v:=(aG (A_ (2*u,(2*v)+2)))) (An (zs:=A_ ((0,0):P2)) (vs:=A_ (2*u,(2*v)+2)) (pv:=[(0,(vN (2*u))),(1,(vN ((2*v)+2)))]) Tryz.zeroValue111 Tryz.underlying111 Tryz.sizeOf3 rfl (C1 (2*u) ((2*v)+2))) rfl (al JJ rfl λb5=>?_)))))
   refine Ap rfl Tryz.sizeOf111 rfl (q3 (sL [1,2,3,4,6,5,7,8,9,10,11,12,13] rfl) (AO rfl (AJ (AX (c:=(((2*u)+1:Nat):Int)) rfl rfl (Ab (a:=2*u) (b:=1) (by omega))) rfl (AO rfl (AJ (AX (c:=(((2*v)+1:Nat):Int)) rfl rfl (Ab (a:=2*v) (b:=1) (by omega))) rfl ?_)))))
   refine AJ (v:=(aG (A_ ((2*u)+1,(2*v)+1)))) (An (zs:=A_ ((0,0):P2)) (vs:=A_ ((2*u)+1,(2*v)+1)) (pv:=[(0,(vN ((2*u)+1))),(1,(vN ((2*v)+1)))]) Tryz.zeroValue111 Tryz.underlying111 Tryz.sizeOf3 rfl (C1 ((2*u)+1) ((2*v)+1))) rfl (al JJ rfl λb6=>Ap rfl Tryz.sizeOf111 rfl (AF.nil (AC.subF (sL [1,2,3,4,6,5,7,8,9,10,11,12,13,14] rfl) (AC.then_ ?_))))
   refine AG.block (q4 (AO rfl (AJ (Af (c:=(decide (wy<3))) rfl rfl (DL (a:=wy) (b:=3))) rfl (AO rfl ?_))))
   refine AF.mid (FM:=[(1,(pP b1 0)),(2,(Value.slice none 0 0)),(3,(vN X)),(4,(vN Y)),(6,(vN i)),(5,(Value.slice p out.length c)),(7,(vK .u8 wy)),(8,(vN (2*u))),(9,(vN (2*v))),(10,(pP b2 0)),(11,(pP b3 0)),(12,(pP b4 0)),(13,(pP b5 0)),(14,(pP b6 0)),(76,(vK .u8 wy)),(77,(Value.bool (decide (wy<3)))),(78,(Value.bool (decide (wy<3)))),(85,(Value.bool ((decide (wy<3))||((decide (wy=7))&&(decide (i=0))))))]) (LM:=[Ah b6 111 (A_ ((2*u)+1,(2*v)+1)),Ah b5 111 (A_ (2*u,(2*v)+2)),Ah b4 111 (A_ ((2*u)+2,(2*v)+2)),Ah b3 111 (A_ ((2*u)+2,2*v)),Ah b2 111 (A_ (2*u,2*v)),rowW p 189 6 out.length c (rowsL BF out),Ah b1 26 (Eu m),Ag m.p (C8 m.cs)]) 7 ?_ ?_
   ·rcases Bool.eq_false_or_eq_true (decide (wy<3)) with hg1|hg1
    ·skip
     refine AF.retell (k:=78) (u:=Value.bool true) rfl (by rw [hg1]) ?_
     have hg1':=hg1
     replace hg1':=of_decide_eq_true hg1'
     refine AF.skip (AP rfl) rfl (Ad rfl) (AF.skip (AP rfl) rfl (Ad rfl) (AF.skip (AP rfl) rfl (Ad rfl) (AF.skip (Nr rfl rfl rfl) rfl (Ad rfl) (AF.skip (Nr rfl rfl rfl) rfl (Ad rfl) (AF.skip (AP rfl) rfl (Ad rfl) ?_)))))
     exact AJ (v:=(Value.bool true)) (Aj rfl rfl) rfl (AF.nil (AC.mid (sS rfl (sS rfl (sS rfl (sS rfl (sS rfl (sS rfl (sS rfl (sS rfl (sS rfl (sS rfl (sS rfl (sS rfl (sS rfl (sS rfl (sS rfl (sS rfl (sS (by first|rfl|(rw [hg1];rfl)|rw [hg1]) (sS (by first|rfl|(rw [hg1];rfl)|rw [hg1]) (sN))))))))))))))))))) (List.Sublist.refl _)))
    ·skip
     refine AF.retell (k:=78) (u:=Value.bool false) rfl (by rw [hg1]) ?_
     have hg1':=hg1
     replace hg1':=of_decide_eq_false hg1'
     refine AF.step (v:=(vK .u8 wy)) (AB rfl) (A9 rfl) rfl (Ad rfl) (AF.step (v:=(Value.bool (decide (wy=7)))) (AB rfl) (Be (c:=(decide (wy=7))) rfl rfl (Og (a:=wy) (b:=7))) rfl (Ad rfl) (AF.step (v:=(Value.bool (decide (wy=7)))) (AB rfl) (A9 rfl) rfl (Ad rfl) ?_))
     refine AF.mid (FM:=[(1,(pP b1 0)),(2,(Value.slice none 0 0)),(3,(vN X)),(4,(vN Y)),(6,(vN i)),(5,(Value.slice p out.length c)),(7,(vK .u8 wy)),(8,(vN (2*u))),(9,(vN (2*v))),(10,(pP b2 0)),(11,(pP b3 0)),(12,(pP b4 0)),(13,(pP b5 0)),(14,(pP b6 0)),(76,(vK .u8 wy)),(77,(Value.bool (decide (wy<3)))),(78,(Value.bool false)),(79,(vK .u8 wy)),(80,(Value.bool (decide (wy=7)))),(81,(Value.bool (decide (wy=7)))),(84,(Value.bool ((decide (wy=7))&&(decide (i=0)))))]) (LM:=[Ah b6 111 (A_ ((2*u)+1,(2*v)+1)),Ah b5 111 (A_ (2*u,(2*v)+2)),Ah b4 111 (A_ ((2*u)+2,(2*v)+2)),Ah b3 111 (A_ ((2*u)+2,2*v)),Ah b2 111 (A_ (2*u,2*v)),rowW p 189 6 out.length c (rowsL BF out),Ah b1 26 (Eu m),Ag m.p (C8 m.cs)]) 3 ?_ ?_
     ·rcases Bool.eq_false_or_eq_true (decide (wy=7)) with hg2|hg2
      ·skip
       refine AF.retell (k:=81) (u:=Value.bool true) rfl (by rw [hg2]) ?_
       have hg2':=hg2
       replace hg2':=of_decide_eq_true hg2'
       exact AF.step (v:=(vN i)) (AB rfl) (A9 rfl) rfl (Ad rfl) (AF.step (v:=(Value.bool (decide (i=0)))) (AB rfl) (Be (c:=(decide (i=0))) rfl rfl (Og (a:=i) (b:=0))) rfl (Ad rfl) (AF.step (v:=(Value.bool (decide (i=0)))) (AB rfl) (Aj rfl rfl) rfl (Ad rfl) (AF.nil (AC.mid (sS rfl (sS rfl (sS rfl (sS rfl (sS rfl (sS rfl (sS rfl (sS rfl (sS rfl (sS rfl (sS rfl (sS rfl (sS rfl (sS rfl (sS rfl (sS rfl (sS rfl (sS rfl (sS rfl (sS (by first|rfl|(rw [hg2];rfl)|rw [hg2]) (sS (by first|rfl|(rw [hg2];rfl)|rw [hg2]) (sN)))))))))))))))))))))) (List.Sublist.refl _)))))
      ·skip
       refine AF.retell (k:=81) (u:=Value.bool false) rfl (by rw [hg2]) ?_
       have hg2':=hg2
       replace hg2':=of_decide_eq_false hg2'
       exact AF.skip (AP rfl) rfl (Ad rfl) (AF.skip (AP rfl) rfl (Ad rfl) (AF.step (v:=(Value.bool false)) (AB rfl) (AV rfl rfl) rfl (Ad rfl) (AF.nil (AC.mid (sS rfl (sS rfl (sS rfl (sS rfl (sS rfl (sS rfl (sS rfl (sS rfl (sS rfl (sS rfl (sS rfl (sS rfl (sS rfl (sS rfl (sS rfl (sS rfl (sS rfl (sS rfl (sS rfl (sS (by first|rfl|(rw [hg2];rfl)|rw [hg2]) (sS (by first|rfl|(rw [hg2];rfl)|rw [hg2]) (sN)))))))))))))))))))))) (List.Sublist.refl _)))))
     exact AJ (v:=(Value.bool ((decide (wy=7))&&(decide (i=0))))) (AV rfl rfl) rfl (AF.nil (AC.mid (sS rfl (sS rfl (sS rfl (sS rfl (sS rfl (sS rfl (sS rfl (sS rfl (sS rfl (sS rfl (sS rfl (sS rfl (sS rfl (sS rfl (sS rfl (sS rfl (sS (by first|rfl|(rw [hg1];rfl)|rw [hg1]) (sS (by first|rfl|(rw [hg1];rfl)|rw [hg1]) (sN))))))))))))))))))) (List.Sublist.refl _)))
   refine AK rfl (AF.nil (AC.subF (sL [1,2,3,4,6,5,7,8,9,10,11,12,13,14,75] rfl) (AC.then_ ?_)))
   refine AG.cond rfl (λhc2=>?_) (λhc2=>?_)
   ·simp only [Bool.and_eq_true,Bool.or_eq_true,Bool.and_eq_false_iff,Bool.or_eq_false_iff,Bool.not_eq_true',Bool.not_eq_false',decide_eq_true_eq,decide_eq_false_iff_not] at hc2
    have hcell:=W7 hu hv (way:=wy) (by simpa using hc2)
    refine AG.region (AO rfl (A7 4 Bs rfl (A7 3 Bs rfl (A7 2 Bs rfl (AJ (v:=(aG (BF ((2*u,2*v),((2*u)+2,2*v),((2*u)+2,(2*v)+2))))) (An (zs:=BF (((0,0),(0,0),(0,0)):P2×P2×P2)) (vs:=BF ((2*u,2*v),((2*u)+2,2*v),((2*u)+2,(2*v)+2))) (pv:=[(0,(aG (A_ (2*u,2*v)))),(1,(aG (A_ ((2*u)+2,2*v)))),(2,(aG (A_ ((2*u)+2,(2*v)+2))))]) Tryz.zeroValue189 Tryz.underlying189 Tryz.sizeOf111 rfl (Bz (2*u,2*v) ((2*u)+2,2*v) ((2*u)+2,(2*v)+2))) rfl ?_)))))
    refine A7 4 Bs rfl (A7 2 Bs rfl (A7 1 Bs rfl (AJ (v:=(aG (BF ((2*u,2*v),((2*u)+2,(2*v)+2),(2*u,(2*v)+2))))) (An (zs:=BF (((0,0),(0,0),(0,0)):P2×P2×P2)) (vs:=BF ((2*u,2*v),((2*u)+2,(2*v)+2),(2*u,(2*v)+2))) (pv:=[(0,(aG (A_ (2*u,2*v)))),(1,(aG (A_ ((2*u)+2,(2*v)+2)))),(2,(aG (A_ (2*u,(2*v)+2))))]) Tryz.zeroValue189 Tryz.underlying189 Tryz.sizeOf111 rfl (Bz (2*u,2*v) ((2*u)+2,(2*v)+2) (2*u,(2*v)+2))) rfl (AF.openV (V:=λb7=>(Value.slice (some ⟨b7,0,none⟩) 2 2)) (T:=189) (cs:=BF ((2*u,2*v),((2*u)+2,2*v),((2*u)+2,(2*v)+2))++BF ((2*u,2*v),((2*u)+2,(2*v)+2),(2*u,(2*v)+2))) (AN rfl) (BE (z:=.agg (BF (((0,0),(0,0),(0,0)):P2×P2×P2)).toArray) (cs:=BF ((2*u,2*v),((2*u)+2,2*v),((2*u)+2,(2*v)+2))++BF ((2*u,2*v),((2*u)+2,(2*v)+2),(2*u,(2*v)+2))) (pv:=[(0,(aG (BF ((2*u,2*v),((2*u)+2,2*v),((2*u)+2,(2*v)+2))))),(1,(aG (BF ((2*u,2*v),((2*u)+2,(2*v)+2),(2*u,(2*v)+2)))))]) Tryz.underlying187 Tryz.sizeOf189 Tryz.zeroValue189 (by decide) (by decide) rfl (GU ((2*u,2*v),((2*u)+2,2*v),((2*u)+2,(2*v)+2)) ((2*u,2*v),((2*u)+2,(2*v)+2),(2*u,(2*v)+2)))) rfl (Ad rfl) λb7=>AF.appendAt 6 (j:=0) (cs2:=rowsL BF (out++[((2*u,2*v),((2*u)+2,2*v),((2*u)+2,(2*v)+2)),((2*u,2*v),((2*u)+2,(2*v)+2),(2*u,(2*v)+2))])) Si rfl ho (Ak Fj _) rfl rfl rfl rfl rfl (by decide) (Kq (by omega)) (by omega) (by rw [BW];rfl) rfl λp_1 c_1 ho_1 hne_1=>?_))))
    refine AK rfl (AF.nil (AC.subF (sL [1,2,3,4,6,5,7,8,9,10,11,12,13,14] rfl) (AC.in_normal (AC.in_normal (AC.then_ ?_)))))
    refine AG.region (AO rfl (AJ (AX (c:=((i+1:Nat):Int)) rfl rfl (Ab (a:=i) (b:=1) (by omega))) rfl (AK rfl (AF.nil (AC.subF (sL [1,2,3,4,6,5,7,8,9,10,11,12,13,14] rfl) ?_)))))
    rw [show out.length+2=(out++[((2*u,2*v),((2*u)+2,2*v),((2*u)+2,(2*v)+2)),((2*u,2*v),((2*u)+2,(2*v)+2),(2*u,(2*v)+2))]).length by simp]
    exact AC.round4 (i+1) p_1 c_1 (out++[((2*u,2*v),((2*u)+2,2*v),((2*u)+2,(2*v)+2)),((2*u,2*v),((2*u)+2,(2*v)+2),(2*u,(2*v)+2))]) (⟨by omega,(by simpa using ho_1),by rw [hout];show _=EE m i++Co (Fy m) (GY m i) i;rw [<-hX,<-hw,hcell]⟩) (by omega) (sF rfl) (sl (sl (sl (sl (sl (sl sr))))))
   ·simp only [Bool.and_eq_true,Bool.or_eq_true,Bool.and_eq_false_iff,Bool.or_eq_false_iff,Bool.not_eq_true',Bool.not_eq_false',decide_eq_true_eq,decide_eq_false_iff_not] at hc2
    have h20:¬(wy<3\/(wy=7/\i=0)):=by simp at hc2;omega
    refine q4 (AO rfl (AJ (Af (c:=(decide (wy<5))) rfl rfl (DL (a:=wy) (b:=5))) rfl (AK rfl (AF.nil (AC.subF (sL [1,2,3,4,6,5,7,8,9,10,11,12,13,14,97] rfl) ?_)))))
    refine AC.then_ ?_
    refine AG.cond rfl (λhc3=>?_) (λhc3=>?_)
    ·replace hc3:=of_decide_eq_true hc3
     have hcell:=WN hu hv h20 (by simpa using hc3)
     refine AG.region (AO rfl (A7 4 Bs rfl (A7 3 Bs rfl (A7 1 Bs rfl (AJ (v:=(aG (BF ((2*u,2*v),((2*u)+2,2*v),(2*u,(2*v)+2))))) (An (zs:=BF (((0,0),(0,0),(0,0)):P2×P2×P2)) (vs:=BF ((2*u,2*v),((2*u)+2,2*v),(2*u,(2*v)+2))) (pv:=[(0,(aG (A_ (2*u,2*v)))),(1,(aG (A_ ((2*u)+2,2*v)))),(2,(aG (A_ (2*u,(2*v)+2))))]) Tryz.zeroValue189 Tryz.underlying189 Tryz.sizeOf111 rfl (Bz (2*u,2*v) ((2*u)+2,2*v) (2*u,(2*v)+2))) rfl ?_)))))
     refine A7 3 Bs rfl (A7 2 Bs rfl (A7 1 Bs rfl (AJ (v:=(aG (BF (((2*u)+2,2*v),((2*u)+2,(2*v)+2),(2*u,(2*v)+2))))) (An (zs:=BF (((0,0),(0,0),(0,0)):P2×P2×P2)) (vs:=BF (((2*u)+2,2*v),((2*u)+2,(2*v)+2),(2*u,(2*v)+2))) (pv:=[(0,(aG (A_ ((2*u)+2,2*v)))),(1,(aG (A_ ((2*u)+2,(2*v)+2)))),(2,(aG (A_ (2*u,(2*v)+2))))]) Tryz.zeroValue189 Tryz.underlying189 Tryz.sizeOf111 rfl (Bz ((2*u)+2,2*v) ((2*u)+2,(2*v)+2) (2*u,(2*v)+2))) rfl (AF.openV (V:=λb7=>(Value.slice (some ⟨b7,0,none⟩) 2 2)) (T:=189) (cs:=BF ((2*u,2*v),((2*u)+2,2*v),(2*u,(2*v)+2))++BF (((2*u)+2,2*v),((2*u)+2,(2*v)+2),(2*u,(2*v)+2))) (AN rfl) (BE (z:=.agg (BF (((0,0),(0,0),(0,0)):P2×P2×P2)).toArray) (cs:=BF ((2*u,2*v),((2*u)+2,2*v),(2*u,(2*v)+2))++BF (((2*u)+2,2*v),((2*u)+2,(2*v)+2),(2*u,(2*v)+2))) (pv:=[(0,(aG (BF ((2*u,2*v),((2*u)+2,2*v),(2*u,(2*v)+2))))),(1,(aG (BF (((2*u)+2,2*v),((2*u)+2,(2*v)+2),(2*u,(2*v)+2)))))]) Tryz.underlying187 Tryz.sizeOf189 Tryz.zeroValue189 (by decide) (by decide) rfl (GU ((2*u,2*v),((2*u)+2,2*v),(2*u,(2*v)+2)) (((2*u)+2,2*v),((2*u)+2,(2*v)+2),(2*u,(2*v)+2)))) rfl (Ad rfl) λb7=>AF.appendAt 6 (j:=0) (cs2:=rowsL BF (out++[((2*u,2*v),((2*u)+2,2*v),(2*u,(2*v)+2)),(((2*u)+2,2*v),((2*u)+2,(2*v)+2),(2*u,(2*v)+2))])) Si rfl ho (Ak Fj _) rfl rfl rfl rfl rfl (by decide) (Kq (by omega)) (by omega) (by rw [BW];rfl) rfl λp_2 c_2 ho_2 hne_2=>?_))))
     refine AK rfl (AF.nil (AC.subF (sL [1,2,3,4,6,5,7,8,9,10,11,12,13,14] rfl) (AC.in_normal (AC.in_normal (AC.then_ ?_)))))
     refine AG.region (AO rfl (AJ (AX (c:=((i+1:Nat):Int)) rfl rfl (Ab (a:=i) (b:=1) (by omega))) rfl (AK rfl (AF.nil (AC.subF (sL [1,2,3,4,6,5,7,8,9,10,11,12,13,14] rfl) ?_)))))
     rw [show out.length+2=(out++[((2*u,2*v),((2*u)+2,2*v),(2*u,(2*v)+2)),(((2*u)+2,2*v),((2*u)+2,(2*v)+2),(2*u,(2*v)+2))]).length by simp]
     exact AC.round4 (i+1) p_2 c_2 (out++[((2*u,2*v),((2*u)+2,2*v),(2*u,(2*v)+2)),(((2*u)+2,2*v),((2*u)+2,(2*v)+2),(2*u,(2*v)+2))]) (⟨by omega,(by simpa using ho_2),by rw [hout];show _=EE m i++Co (Fy m) (GY m i) i;rw [<-hX,<-hw,hcell]⟩) (by omega) (sF rfl) (sl (sl (sl (sl (sl (sl sr))))))
    ·replace hc3:=of_decide_eq_false hc3
     have h30:¬wy<5:=by simpa using hc3
     refine q4 (AO rfl (AJ (Af (c:=(decide (wy<7))) rfl rfl (DL (a:=wy) (b:=7))) rfl (AK rfl (AF.nil (AC.subF (sL [1,2,3,4,6,5,7,8,9,10,11,12,13,14,111] rfl) ?_)))))
     refine AC.then_ ?_
     refine AG.cond rfl (λhc4=>?_) (λhc4=>?_)
     ·replace hc4:=of_decide_eq_true hc4
      have hcell:=VR hu hv h20 h30 (by simpa using hc4)
      refine AG.region (AO rfl (A7 4 Bs rfl (A7 3 Bs rfl (A7 0 Bs rfl (AJ (v:=(aG (BF ((2*u,2*v),((2*u)+2,2*v),((2*u)+1,(2*v)+1))))) (An (zs:=BF (((0,0),(0,0),(0,0)):P2×P2×P2)) (vs:=BF ((2*u,2*v),((2*u)+2,2*v),((2*u)+1,(2*v)+1))) (pv:=[(0,(aG (A_ (2*u,2*v)))),(1,(aG (A_ ((2*u)+2,2*v)))),(2,(aG (A_ ((2*u)+1,(2*v)+1))))]) Tryz.zeroValue189 Tryz.underlying189 Tryz.sizeOf111 rfl (Bz (2*u,2*v) ((2*u)+2,2*v) ((2*u)+1,(2*v)+1))) rfl ?_)))))
      refine A7 3 Bs rfl (A7 2 Bs rfl (A7 0 Bs rfl (AJ (v:=(aG (BF (((2*u)+2,2*v),((2*u)+2,(2*v)+2),((2*u)+1,(2*v)+1))))) (An (zs:=BF (((0,0),(0,0),(0,0)):P2×P2×P2)) (vs:=BF (((2*u)+2,2*v),((2*u)+2,(2*v)+2),((2*u)+1,(2*v)+1))) (pv:=[(0,(aG (A_ ((2*u)+2,2*v)))),(1,(aG (A_ ((2*u)+2,(2*v)+2)))),(2,(aG (A_ ((2*u)+1,(2*v)+1))))]) Tryz.zeroValue189 Tryz.underlying189 Tryz.sizeOf111 rfl (Bz ((2*u)+2,2*v) ((2*u)+2,(2*v)+2) ((2*u)+1,(2*v)+1))) rfl (A7 2 Bs rfl (A7 1 Bs rfl ?_)))))
      refine A7 0 Bs rfl (AJ (v:=(aG (BF (((2*u)+2,(2*v)+2),(2*u,(2*v)+2),((2*u)+1,(2*v)+1))))) (An (zs:=BF (((0,0),(0,0),(0,0)):P2×P2×P2)) (vs:=BF (((2*u)+2,(2*v)+2),(2*u,(2*v)+2),((2*u)+1,(2*v)+1))) (pv:=[(0,(aG (A_ ((2*u)+2,(2*v)+2)))),(1,(aG (A_ (2*u,(2*v)+2)))),(2,(aG (A_ ((2*u)+1,(2*v)+1))))]) Tryz.zeroValue189 Tryz.underlying189 Tryz.sizeOf111 rfl (Bz ((2*u)+2,(2*v)+2) (2*u,(2*v)+2) ((2*u)+1,(2*v)+1))) rfl (A7 1 Bs rfl (A7 4 Bs rfl (A7 0 Bs rfl (AJ (v:=(aG (BF ((2*u,(2*v)+2),(2*u,2*v),((2*u)+1,(2*v)+1))))) (An (zs:=BF (((0,0),(0,0),(0,0)):P2×P2×P2)) (vs:=BF ((2*u,(2*v)+2),(2*u,2*v),((2*u)+1,(2*v)+1))) (pv:=[(0,(aG (A_ (2*u,(2*v)+2)))),(1,(aG (A_ (2*u,2*v)))),(2,(aG (A_ ((2*u)+1,(2*v)+1))))]) Tryz.zeroValue189 Tryz.underlying189 Tryz.sizeOf111 rfl (Bz (2*u,(2*v)+2) (2*u,2*v) ((2*u)+1,(2*v)+1))) rfl ?_)))))
      refine AF.openV (V:=λb7=>(Value.slice (some ⟨b7,0,none⟩) 4 4)) (T:=189) (cs:=BF ((2*u,2*v),((2*u)+2,2*v),((2*u)+1,(2*v)+1))++BF (((2*u)+2,2*v),((2*u)+2,(2*v)+2),((2*u)+1,(2*v)+1))++BF (((2*u)+2,(2*v)+2),(2*u,(2*v)+2),((2*u)+1,(2*v)+1))++BF ((2*u,(2*v)+2),(2*u,2*v),((2*u)+1,(2*v)+1))) (AN rfl) (BE (z:=.agg (BF (((0,0),(0,0),(0,0)):P2×P2×P2)).toArray) (cs:=BF ((2*u,2*v),((2*u)+2,2*v),((2*u)+1,(2*v)+1))++BF (((2*u)+2,2*v),((2*u)+2,(2*v)+2),((2*u)+1,(2*v)+1))++BF (((2*u)+2,(2*v)+2),(2*u,(2*v)+2),((2*u)+1,(2*v)+1))++BF ((2*u,(2*v)+2),(2*u,2*v),((2*u)+1,(2*v)+1))) (pv:=[(0,(aG (BF ((2*u,2*v),((2*u)+2,2*v),((2*u)+1,(2*v)+1))))),(1,(aG (BF (((2*u)+2,2*v),((2*u)+2,(2*v)+2),((2*u)+1,(2*v)+1))))),(2,(aG (BF (((2*u)+2,(2*v)+2),(2*u,(2*v)+2),((2*u)+1,(2*v)+1))))),(3,(aG (BF ((2*u,(2*v)+2),(2*u,2*v),((2*u)+1,(2*v)+1)))))]) Tryz.underlying187 Tryz.sizeOf189 Tryz.zeroValue189 (by decide) (by decide) rfl (JU ((2*u,2*v),((2*u)+2,2*v),((2*u)+1,(2*v)+1)) (((2*u)+2,2*v),((2*u)+2,(2*v)+2),((2*u)+1,(2*v)+1)) (((2*u)+2,(2*v)+2),(2*u,(2*v)+2),((2*u)+1,(2*v)+1)) ((2*u,(2*v)+2),(2*u,2*v),((2*u)+1,(2*v)+1)))) rfl (Ad rfl) λb7=>AF.appendAt 6 (j:=0) (cs2:=rowsL BF (out++[((2*u,2*v),((2*u)+2,2*v),((2*u)+1,(2*v)+1)),(((2*u)+2,2*v),((2*u)+2,(2*v)+2),((2*u)+1,(2*v)+1)),(((2*u)+2,(2*v)+2),(2*u,(2*v)+2),((2*u)+1,(2*v)+1)),((2*u,(2*v)+2),(2*u,2*v),((2*u)+1,(2*v)+1))])) Si rfl ho (Ak Fj _) rfl rfl rfl rfl rfl (by decide) (Kq (by omega)) (by omega) (by rw [BW];rfl) rfl λp_3 c_3 ho_3 hne_3=>AK rfl (AF.nil (AC.subF (sL [1,2,3,4,6,5,7,8,9,10,11,12,13,14] rfl) (AC.in_normal ?_)))
      refine AC.in_normal (AC.then_ (AG.region (AO rfl (AJ (AX (c:=((i+1:Nat):Int)) rfl rfl (Ab (a:=i) (b:=1) (by omega))) rfl (AK rfl ?_)))))
      refine AF.nil (AC.subF (sL [1,2,3,4,6,5,7,8,9,10,11,12,13,14] rfl) ?_)
      rw [show out.length+4=(out++[((2*u,2*v),((2*u)+2,2*v),((2*u)+1,(2*v)+1)),(((2*u)+2,2*v),((2*u)+2,(2*v)+2),((2*u)+1,(2*v)+1)),(((2*u)+2,(2*v)+2),(2*u,(2*v)+2),((2*u)+1,(2*v)+1)),((2*u,(2*v)+2),(2*u,2*v),((2*u)+1,(2*v)+1))]).length by simp]
      exact AC.round4 (i+1) p_3 c_3 (out++[((2*u,2*v),((2*u)+2,2*v),((2*u)+1,(2*v)+1)),(((2*u)+2,2*v),((2*u)+2,(2*v)+2),((2*u)+1,(2*v)+1)),(((2*u)+2,(2*v)+2),(2*u,(2*v)+2),((2*u)+1,(2*v)+1)),((2*u,(2*v)+2),(2*u,2*v),((2*u)+1,(2*v)+1))]) (⟨by omega,(by simpa using ho_3),by rw [hout];show _=EE m i++Co (Fy m) (GY m i) i;rw [<-hX,<-hw,hcell]⟩) (by omega) (sF rfl) (sl (sl (sl (sl (sl (sl sr))))))
     ·replace hc4:=of_decide_eq_false hc4
      have hcell:Co X wy i=[]:=Vn h20 h30 (by simpa using hc4)
      refine AG.skip (AC.in_normal (AC.in_normal (AC.then_ (AG.region (AO rfl ?_)))))
      exact AJ (AX (c:=((i+1:Nat):Int)) rfl rfl (Ab (a:=i) (b:=1) (by omega))) rfl (AK rfl (AF.nil (AC.subF (sL [1,2,3,4,6,5,7,8,9,10,11,12,13,14] rfl) (AC.round4 (i+1) p c out (⟨by omega,(by simpa using ho),by rw [hout];show _=EE m i++Co (Fy m) (GY m i) i;rw [<-hX,<-hw,hcell];simp⟩) (by omega) (sF rfl) (sl (sl (sl (sl (sl sr)))))))))
 ·replace hc0:=of_decide_eq_false hc0
  have hfin:out=BD m:=by rw [hout];unfold BD;rw [<-hX,<-hY,show i=X*Y by omega]
  refine AG.exit (AC.then_exit (AC.round4_exit (AC.in_exit (q2 (AO rfl ?_)))))
  exact AK rfl (AF.nil (AC.subF (sL [1,2,3,4,6,5] rfl) (AC.then_ (AG.ret (AR rfl (Ai (v:=(Value.slice p out.length c)) rfl) (λw hw=>(by rw [<-hfin];exact Zj hw 0 rfl ho (Ak Fj _) rfl)))))))
theorem GT (x0 x1 x2 x3:Int):Instr.fill (λi=>some (i*1,1)) (VM ((0,0,0,0):Int×Int×Int×Int)).toArray [(0,.int .i64 x0),(1,.int .i64 x1),(2,.int .i64 x2),(3,.int .i64 x3)]=some (VM (x0,x1,x2,x3)).toArray:=by kernel_rfl
theorem GR (x0 x1:Int):Instr.fill (λi=>some (i*1,1)) (CT ((0,0):Int×Int)).toArray [(0,.int .i64 x0),(1,.int .i64 x1)]=some (CT (x0,x1)).toArray:=by kernel_rfl
theorem Ik (m:MQ) (p:P2) (hp:p.1<=6/\p.2<=6) (w:World) {S:Nat->Prop} (hm:Ro S w m):Calls Tryz.prog 113 #[(aG (Eu m)),(aG (A_ p))] w (Am w (aG (CT ((GX m.a m.b m.c m.d).at_ p)))):=by
 obtain ⟨A,hA⟩:∃A,A=m.a.tmod 4:=⟨_,rfl⟩
 obtain ⟨B,hB⟩:∃A,A=m.b.tmod 4:=⟨_,rfl⟩
 obtain ⟨C,hC⟩:∃A,A=m.c.tmod 4:=⟨_,rfl⟩
 obtain ⟨D,hD⟩:∃A,A=m.d.tmod 4:=⟨_,rfl⟩
 have kA:=I6 m.a
 have kB:=I6 m.b
 have kC:=I6 m.c
 have kD:=I6 m.d
 rw [<-hA] at kA
 rw [<-hB] at kB
 rw [<-hC] at kC
 rw [<-hD] at kD
 have e1:=C6 kA (k:=3) kD
 have e2:=C6 kB (k:=3) kC
 have lm:=FS (W:=w) hm
 refine BH (args:=[(aG (Eu m)),(aG (A_ p))]) (L:=[Ag m.p (C8 m.cs)]) Tryz.func113 rfl rfl (Ad rfl) (FP hm BY) (AG.subF (sL [0,1] rfl) (q4 (Bl (cs:=Eu m) rfl λb1=>Bl (cs:=A_ p) rfl λb2=>al Yk rfl λb3=>?_)))
 refine q3 (sL [2,3,4] rfl) (AJ (v:=(pP b1 3)) (AA rfl Tryz.underlying26 rfl Tryz.sizeOf24 rfl) rfl (AJ (v:=(pP b1 3)) (AE (j:=0) rfl rfl Tryz.underlying24 Tryz.sizeOf23 rfl (by decide) rfl) rfl (BL 2 (Value.int .i8 m.a) Wv rfl (AJ (CF (c:=A) rfl rfl (by decide) hA.symm) rfl (AJ (Az (c:=A) rfl Tryz.underlying23 Tryz.underlying2 (BN (by omega) (by omega))) rfl ?_)))))
 refine AJ (v:=(pP b1 3)) (AA rfl Tryz.underlying26 rfl Tryz.sizeOf24 rfl) rfl (AJ (v:=(pP b1 4)) (AE (j:=1) rfl rfl Tryz.underlying24 Tryz.sizeOf23 rfl (by decide) rfl) rfl (BL 2 (Value.int .i8 m.b) Wv rfl (AJ (CF (c:=B) rfl rfl (by decide) hB.symm) rfl (AJ (Az (c:=B) rfl Tryz.underlying23 Tryz.underlying2 (BN (by omega) (by omega))) rfl (AJ (v:=(pP b1 3)) (AA rfl Tryz.underlying26 rfl Tryz.sizeOf24 rfl) rfl ?_)))))
 refine AJ (v:=(pP b1 5)) (AE (j:=2) rfl rfl Tryz.underlying24 Tryz.sizeOf23 rfl (by decide) rfl) rfl (BL 2 (Value.int .i8 m.c) Wv rfl (AJ (CF (c:=C) rfl rfl (by decide) hC.symm) rfl (AJ (Az (c:=C) rfl Tryz.underlying23 Tryz.underlying2 (BN (by omega) (by omega))) rfl (AJ (v:=(pP b1 3)) (AA rfl Tryz.underlying26 rfl Tryz.sizeOf24 rfl) rfl (AJ (v:=(pP b1 6)) (AE (j:=3) rfl rfl Tryz.underlying24 Tryz.sizeOf23 rfl (by decide) rfl) rfl ?_)))))
 refine BL 2 (Value.int .i8 m.d) Wv rfl (AJ (CF (c:=D) rfl rfl (by decide) hD.symm) rfl (AJ (Az (c:=D) rfl Tryz.underlying23 Tryz.underlying2 (BN (by omega) (by omega))) rfl (AJ (v:=(aG (VM (A,B,C,D)))) (An (zs:=VM ((0,0,0,0):Int×Int×Int×Int)) (vs:=VM (A,B,C,D)) (pv:=[(0,(vI A)),(1,(vI B)),(2,(vI C)),(3,(vI D))]) Tryz.zeroValue246 Tryz.underlying246 Tryz.sizeOf2 rfl (GT A B C D)) rfl (al ZC rfl λb4=>Ap rfl Tryz.sizeOf246 rfl ?_))))
 refine q3 (sL [3,4,5] rfl) (AJ (v:=(pP b4 0)) (AE (j:=0) rfl rfl Tryz.underlying246 Tryz.sizeOf2 rfl (by decide) rfl) rfl (BL 0 (vI A) My rfl (AJ (v:=(pP b4 3)) (AE (j:=3) rfl rfl Tryz.underlying246 Tryz.sizeOf2 rfl (by decide) rfl) rfl (BL 0 (vI D) My rfl (AJ (Bq (c:=(A*D)) rfl rfl (BN (by omega) (by omega))) rfl ?_)))))
 refine AJ (v:=(pP b4 1)) (AE (j:=1) rfl rfl Tryz.underlying246 Tryz.sizeOf2 rfl (by decide) rfl) rfl (BL 0 (vI B) My rfl (AJ (v:=(pP b4 2)) (AE (j:=2) rfl rfl Tryz.underlying246 Tryz.sizeOf2 rfl (by decide) rfl) rfl (BL 0 (vI C) My rfl (AJ (Bq (c:=(B*C)) rfl rfl (BN (by omega) (by omega))) rfl (AJ (BS (c:=(A*D-B*C)) rfl rfl (BN (by omega) (by omega))) rfl ?_)))))
 refine AK rfl (q6 (sL [3,4,5,6] rfl) (q4 (AO rfl (AJ (Be (c:=(decide ((A*D-B*C)=(0:Int)))) rfl rfl rfl) rfl (AF.nil ?_)))))
 refine AC.subF (sL [3,4,5,6,42] rfl) (AC.then_ ?_)
 refine AG.cond rfl (λhc0=>?_) (λhc0=>?_)
 ·replace hc0:=of_decide_eq_true hc0
  have hz0:=hc0
  refine AG.region (AJ (v:=(aG (VM ((1:Int),(0:Int),(0:Int),(1:Int))))) (An (zs:=VM ((0,0,0,0):Int×Int×Int×Int)) (vs:=VM ((1:Int),(0:Int),(0:Int),(1:Int))) (pv:=[(0,(vI 1)),(1,(vI 0)),(2,(vI 0)),(3,(vI 1))]) Tryz.zeroValue246 Tryz.underlying246 Tryz.sizeOf2 rfl (GT (1:Int) (0:Int) (0:Int) (1:Int))) rfl (Ap rfl Tryz.sizeOf246 rfl (q6 (sL [3,4,5,6] rfl) (q4 (AO rfl ?_)))))
  refine AJ (Af (c:=(decide ((A*D-B*C)<(0:Int)))) rfl rfl rfl) rfl (AF.nil (AC.subF (sL [3,4,5,6,45] rfl) (AC.then_ ?_)))
  refine AG.jn1 (tg λ(K:DA)=>K=GX m.a m.b m.c m.d) (tg λ(K:DA)=>[(3,(pP b2 0)),(4,(pP b3 0)),(5,(pP b4 0))]) (tg λ(K:DA)=>[Ah b4 246 (VM (K.a,K.b,K.c,K.d)),Ah b3 102 (CT ((0,0):Int×Int)),Ah b2 111 (A_ p),Ah b1 26 (Eu m),Ag m.p (C8 m.cs)]) ?_ ?_
  ·skip
   refine AG.cond rfl (λhc1=>?_) (λhc1=>?_)
   ·replace hc1:=of_decide_eq_true hc1
    refine q4 (AJ (v:=(pP b4 2)) (AE (j:=2) rfl rfl Tryz.underlying246 Tryz.sizeOf2 rfl (by decide) rfl) rfl (BL 0 (vI (0:Int)) My rfl (AJ (Kb (c:=(-C)) rfl (by first|(exfalso;omega)|(rw [Int.zero_sub];exact BN (by omega) (by omega)))) rfl (AJ (v:=(pP b4 2)) (AE (j:=2) rfl rfl Tryz.underlying246 Tryz.sizeOf2 rfl (by decide) rfl) rfl (GK 0 (off:=2) (vs:=[(vI (-C))]) (cs':=[(vI (1:Int)),(vI (0:Int)),(vI (-C)),(vI (1:Int))]) (AN rfl) rfl Tryz.sizeOf2 rfl ?_)))))
    refine AF.nil (AC.subF (sL [3,4,5,6] rfl) (AC.then_ (AG.region (AJ (v:=(pP b4 3)) (AE (j:=3) rfl rfl Tryz.underlying246 Tryz.sizeOf2 rfl (by decide) rfl) rfl (BL 0 (vI (1:Int)) My rfl ?_)))))
    exact AJ (Kb (c:=(-D)) rfl (by first|(exfalso;omega)|(rw [Int.zero_sub];exact BN (by omega) (by omega)))) rfl (AJ (v:=(pP b4 3)) (AE (j:=3) rfl rfl Tryz.underlying246 Tryz.sizeOf2 rfl (by decide) rfl) rfl (GK 0 (off:=3) (vs:=[(vI (-D))]) (cs':=[(vI (1:Int)),(vI (0:Int)),(vI (-C)),(vI (-D))]) (AN rfl) rfl Tryz.sizeOf2 rfl (AF.nil (AC.subF (sL [3,4,5,6] rfl) (AC.join1 (DA.mk (1:Int) (0:Int) (-C) (-D)) ((by first|(exfalso;omega)|exact (NN hA hB hC hD hz0).symm|exact (NT hA hB hC hD hc1).symm|exact (Mt hA hB hC hD hz0 hc1).symm)) (sF rfl) sr)))))
   ·replace hc1:=of_decide_eq_false hc1
    exact AG.skip (AC.join1 (DA.mk (1:Int) (0:Int) (0:Int) (1:Int)) ((by first|(exfalso;omega)|exact (NN hA hB hC hD hz0).symm|exact (NT hA hB hC hD hc1).symm|exact (Mt hA hB hC hD hz0 hc1).symm)) (sF rfl) sr)
  ·intro K hJ
   have hK:=hJ
   have kk:=Fb m.a m.b m.c m.d
   rw [<-hK] at kk
   have qz0:=C6 kk.a (k:=6) (b:=(p.1:Int)) (by omega)
   have qz1:=C6 kk.b (k:=6) (b:=(p.2:Int)) (by omega)
   have qz2:=C6 kk.c (k:=6) (b:=(p.1:Int)) (by omega)
   have qz3:=C6 kk.d (k:=6) (b:=(p.2:Int)) (by omega)
   refine q2 (AJ (v:=(pP b2 0)) (AE (j:=0) rfl rfl Tryz.underlying111 Tryz.sizeOf3 rfl (by decide) rfl) rfl (BL 2 (vN p.1) B4 rfl (AK rfl (q3 (sL [3,4,5,7] rfl) (AJ (v:=(pP b2 1)) (AE (j:=1) rfl rfl Tryz.underlying111 Tryz.sizeOf3 rfl (by decide) rfl) rfl ?_)))))
   refine BL 2 (vN p.2) B4 rfl (AK rfl (q3 (sL [3,4,5,7,8] rfl) (AJ (v:=(pP b4 0)) (AE (j:=0) rfl rfl Tryz.underlying246 Tryz.sizeOf2 rfl (by decide) rfl) rfl (BL 0 (vI K.a) My rfl (AO rfl ?_)))))
   refine AJ (Bq (c:=(K.a*(p.1:Int))) rfl rfl (BN (by omega) (by omega))) rfl (AJ (v:=(pP b4 1)) (AE (j:=1) rfl rfl Tryz.underlying246 Tryz.sizeOf2 rfl (by decide) rfl) rfl (BL 0 (vI K.b) My rfl (AO rfl (AJ (Bq (c:=(K.b*(p.2:Int))) rfl rfl (BN (by omega) (by omega))) rfl (AJ (AX (c:=(K.a*(p.1:Int)+K.b*(p.2:Int))) rfl rfl (BN (by omega) (by omega))) rfl ?_)))))
   refine AJ (v:=(pP b4 2)) (AE (j:=2) rfl rfl Tryz.underlying246 Tryz.sizeOf2 rfl (by decide) rfl) rfl (BL 0 (vI K.c) My rfl (AO rfl (AJ (Bq (c:=(K.c*(p.1:Int))) rfl rfl (BN (by omega) (by omega))) rfl (AJ (v:=(pP b4 3)) (AE (j:=3) rfl rfl Tryz.underlying246 Tryz.sizeOf2 rfl (by decide) rfl) rfl (BL 0 (vI K.d) My rfl ?_)))))
   refine AO rfl (AJ (Bq (c:=(K.d*(p.2:Int))) rfl rfl (BN (by omega) (by omega))) rfl (AJ (AX (c:=(K.c*(p.1:Int)+K.d*(p.2:Int))) rfl rfl (BN (by omega) (by omega))) rfl (AJ (v:=(aG (CT (K.a*(p.1:Int)+K.b*(p.2:Int),K.c*(p.1:Int)+K.d*(p.2:Int))))) (An (zs:=CT ((0,0):Int×Int)) (vs:=CT (K.a*(p.1:Int)+K.b*(p.2:Int),K.c*(p.1:Int)+K.d*(p.2:Int))) (pv:=[(0,(vI (K.a*(p.1:Int)+K.b*(p.2:Int)))),(1,(vI (K.c*(p.1:Int)+K.d*(p.2:Int))))]) Tryz.zeroValue102 Tryz.underlying102 Tryz.sizeOf2 rfl (GR (K.a*(p.1:Int)+K.b*(p.2:Int)) (K.c*(p.1:Int)+K.d*(p.2:Int)))) rfl (Cr rfl Tryz.sizeOf102 rfl (AF.nil ?_)))))
   exact AC.subF (sL [3,4,5] rfl) (AC.then_ (AG.ret (AR rfl (Ay (i:=1) (cs:=CT (K.a*(p.1:Int)+K.b*(p.2:Int),K.c*(p.1:Int)+K.d*(p.2:Int))) rfl rfl Tryz.isAgg102 Tryz.sizeOf102 rfl) (λw hw=>⟨by rw [<-hK];rfl,hw.out⟩))))
 ·replace hc0:=of_decide_eq_false hc0
  have hz0:=hc0
  refine AG.skip (q1 (q4 (AO rfl (AJ (Af (c:=(decide ((A*D-B*C)<(0:Int)))) rfl rfl rfl) rfl (AF.nil ?_)))))
  refine AC.subF (sL [3,4,5,6,45] rfl) (AC.then_ ?_)
  refine AG.jn1 (tg λ(K:DA)=>K=GX m.a m.b m.c m.d) (tg λ(K:DA)=>[(3,(pP b2 0)),(4,(pP b3 0)),(5,(pP b4 0))]) (tg λ(K:DA)=>[Ah b4 246 (VM (K.a,K.b,K.c,K.d)),Ah b3 102 (CT ((0,0):Int×Int)),Ah b2 111 (A_ p),Ah b1 26 (Eu m),Ag m.p (C8 m.cs)]) ?_ ?_
  ·skip
   refine AG.cond rfl (λhc1=>?_) (λhc1=>?_)
   ·replace hc1:=of_decide_eq_true hc1
    refine q4 (AJ (v:=(pP b4 2)) (AE (j:=2) rfl rfl Tryz.underlying246 Tryz.sizeOf2 rfl (by decide) rfl) rfl (BL 0 (vI C) My rfl (AJ (Kb (c:=(-C)) rfl (by first|(exfalso;omega)|(rw [Int.zero_sub];exact BN (by omega) (by omega)))) rfl (AJ (v:=(pP b4 2)) (AE (j:=2) rfl rfl Tryz.underlying246 Tryz.sizeOf2 rfl (by decide) rfl) rfl (GK 0 (off:=2) (vs:=[(vI (-C))]) (cs':=[(vI A),(vI B),(vI (-C)),(vI D)]) (AN rfl) rfl Tryz.sizeOf2 rfl ?_)))))
    refine AF.nil (AC.subF (sL [3,4,5,6] rfl) (AC.then_ (AG.region (AJ (v:=(pP b4 3)) (AE (j:=3) rfl rfl Tryz.underlying246 Tryz.sizeOf2 rfl (by decide) rfl) rfl (BL 0 (vI D) My rfl ?_)))))
    exact AJ (Kb (c:=(-D)) rfl (by first|(exfalso;omega)|(rw [Int.zero_sub];exact BN (by omega) (by omega)))) rfl (AJ (v:=(pP b4 3)) (AE (j:=3) rfl rfl Tryz.underlying246 Tryz.sizeOf2 rfl (by decide) rfl) rfl (GK 0 (off:=3) (vs:=[(vI (-D))]) (cs':=[(vI A),(vI B),(vI (-C)),(vI (-D))]) (AN rfl) rfl Tryz.sizeOf2 rfl (AF.nil (AC.subF (sL [3,4,5,6] rfl) (AC.join1 (DA.mk A B (-C) (-D)) ((by first|(exfalso;omega)|exact (NN hA hB hC hD hz0).symm|exact (NT hA hB hC hD hc1).symm|exact (Mt hA hB hC hD hz0 hc1).symm)) (sF rfl) sr)))))
   ·replace hc1:=of_decide_eq_false hc1
    exact AG.skip (AC.join1 (DA.mk A B C D) ((by first|(exfalso;omega)|exact (NN hA hB hC hD hz0).symm|exact (NT hA hB hC hD hc1).symm|exact (Mt hA hB hC hD hz0 hc1).symm)) (sF rfl) sr)
  ·intro K hJ
   have hK:=hJ
   have kk:=Fb m.a m.b m.c m.d
   rw [<-hK] at kk
   have qz0:=C6 kk.a (k:=6) (b:=(p.1:Int)) (by omega)
   have qz1:=C6 kk.b (k:=6) (b:=(p.2:Int)) (by omega)
   have qz2:=C6 kk.c (k:=6) (b:=(p.1:Int)) (by omega)
   have qz3:=C6 kk.d (k:=6) (b:=(p.2:Int)) (by omega)
   refine q2 (AJ (v:=(pP b2 0)) (AE (j:=0) rfl rfl Tryz.underlying111 Tryz.sizeOf3 rfl (by decide) rfl) rfl (BL 2 (vN p.1) B4 rfl (AK rfl (q3 (sL [3,4,5,7] rfl) (AJ (v:=(pP b2 1)) (AE (j:=1) rfl rfl Tryz.underlying111 Tryz.sizeOf3 rfl (by decide) rfl) rfl ?_)))))
   refine BL 2 (vN p.2) B4 rfl (AK rfl (q3 (sL [3,4,5,7,8] rfl) (AJ (v:=(pP b4 0)) (AE (j:=0) rfl rfl Tryz.underlying246 Tryz.sizeOf2 rfl (by decide) rfl) rfl (BL 0 (vI K.a) My rfl (AO rfl ?_)))))
   refine AJ (Bq (c:=(K.a*(p.1:Int))) rfl rfl (BN (by omega) (by omega))) rfl (AJ (v:=(pP b4 1)) (AE (j:=1) rfl rfl Tryz.underlying246 Tryz.sizeOf2 rfl (by decide) rfl) rfl (BL 0 (vI K.b) My rfl (AO rfl (AJ (Bq (c:=(K.b*(p.2:Int))) rfl rfl (BN (by omega) (by omega))) rfl (AJ (AX (c:=(K.a*(p.1:Int)+K.b*(p.2:Int))) rfl rfl (BN (by omega) (by omega))) rfl ?_)))))
   refine AJ (v:=(pP b4 2)) (AE (j:=2) rfl rfl Tryz.underlying246 Tryz.sizeOf2 rfl (by decide) rfl) rfl (BL 0 (vI K.c) My rfl (AO rfl (AJ (Bq (c:=(K.c*(p.1:Int))) rfl rfl (BN (by omega) (by omega))) rfl (AJ (v:=(pP b4 3)) (AE (j:=3) rfl rfl Tryz.underlying246 Tryz.sizeOf2 rfl (by decide) rfl) rfl (BL 0 (vI K.d) My rfl ?_)))))
   refine AO rfl (AJ (Bq (c:=(K.d*(p.2:Int))) rfl rfl (BN (by omega) (by omega))) rfl (AJ (AX (c:=(K.c*(p.1:Int)+K.d*(p.2:Int))) rfl rfl (BN (by omega) (by omega))) rfl (AJ (v:=(aG (CT (K.a*(p.1:Int)+K.b*(p.2:Int),K.c*(p.1:Int)+K.d*(p.2:Int))))) (An (zs:=CT ((0,0):Int×Int)) (vs:=CT (K.a*(p.1:Int)+K.b*(p.2:Int),K.c*(p.1:Int)+K.d*(p.2:Int))) (pv:=[(0,(vI (K.a*(p.1:Int)+K.b*(p.2:Int)))),(1,(vI (K.c*(p.1:Int)+K.d*(p.2:Int))))]) Tryz.zeroValue102 Tryz.underlying102 Tryz.sizeOf2 rfl (GR (K.a*(p.1:Int)+K.b*(p.2:Int)) (K.c*(p.1:Int)+K.d*(p.2:Int)))) rfl (Cr rfl Tryz.sizeOf102 rfl (AF.nil ?_)))))
   exact AC.subF (sL [3,4,5] rfl) (AC.then_ (AG.ret (AR rfl (Ay (i:=1) (cs:=CT (K.a*(p.1:Int)+K.b*(p.2:Int),K.c*(p.1:Int)+K.d*(p.2:Int))) rfl rfl Tryz.isAgg102 Tryz.sizeOf102 rfl) (λw hw=>⟨by rw [<-hK];rfl,hw.out⟩))))
end
end Go.Proofs.YtfbomiejpbchdaaGreat
