import Derived.Test.YtfbomiejpbchdaaGreatPart06
import Derived.Test.YtfbomiejpbchdaaGreatPart10
namespace Go.Proofs.YtfbomiejpbchdaaGreat
open Go Go.RowKit
set_option linter.unusedVariables false
set_option linter.unusedSimpArgs false
section
set_option maxRecDepth 100000
theorem Ry (a b:Nat) (ha:nw a<=1099511627776) (hb:nw b<=1099511627776) (w:World)  :Calls Tryz.prog 194 #[(aG (AV a)),(aG (AV b))] w (Ax w (vI (FK a b))):=by
 refine Ad (args:=[(aG (AV a)),(aG (AV b))]) Tryz.func194 rfl rfl (Af rfl) (AE.subF (sL [0,1] rfl) (q4 (CB (cs:=AV a) rfl λb1=>CB (cs:=AV b) rfl λb2=>AL rfl ?_)))
 refine q6 (sL [2,3,4] rfl) (q4 (AH (v:=(pP b1 1)) (AA rfl Tryz.underlying47 rfl Tryz.sizeOf9 rfl) rfl (BI 1 (Value.string (Bh a)) TK rfl (AH (B3 (c:=(decide (a<18446744073709551616))) rfl rfl Ck) rfl (AO rfl ?_)))))
 refine AD.mid (FM:=[(2,(pP b1 0)),(3,(pP b2 0)),(4,(vI 0)),(5,(pP b1 1)),(6,(Value.string (Bh a))),(7,(Value.bool (decide (a<18446744073709551616)))),(8,(Value.bool (decide (a<18446744073709551616)))),(12,(Value.bool ((decide (a<18446744073709551616))&&(decide (b<18446744073709551616)))))]) (LM:=[Ac b2 47 (AV b),Ac b1 47 (AV a)]) 4 ?_ ?_
 ·rcases Bool.eq_false_or_eq_true (decide (a<18446744073709551616)) with hg1|hg1
  ·skip
   refine AD.retell (k:=8) (u:=Value.bool true) rfl (by rw [hg1]) ?_
   have hg1':=hg1
   replace hg1':=of_decide_eq_true hg1'
   exact AD.step (v:=(pP b2 1)) (AB rfl) (AA rfl Tryz.underlying47 rfl Tryz.sizeOf9 rfl) rfl (Af rfl) (AD.step (v:=(Value.string (Bh b))) (AB rfl) (AK (i:=0) (v:=(Value.string (Bh b))) rfl rfl TK.a rfl) rfl (Af rfl) (AD.step (v:=(Value.bool (decide (b<18446744073709551616)))) (AB rfl) (B3 (c:=(decide (b<18446744073709551616))) rfl rfl Ck) rfl (Af rfl) (AH (v:=(Value.bool (decide (b<18446744073709551616)))) (Ae rfl rfl) rfl (AD.nil (AC.mid (sS rfl (sS rfl (sS rfl (sS rfl (sS rfl (sS rfl (sS (by first|rfl|(rw [hg1];rfl)|rw [hg1]) (sS (by first|rfl|(rw [hg1];rfl)|rw [hg1]) (sN))))))))) (List.Sublist.refl _))))))
  ·skip
   refine AD.retell (k:=8) (u:=Value.bool false) rfl (by rw [hg1]) ?_
   have hg1':=hg1
   replace hg1':=of_decide_eq_false hg1'
   exact AD.skip (AM rfl) rfl (Af rfl) (AD.skip (AM rfl) rfl (Af rfl) (AD.skip (AM rfl) rfl (Af rfl) (AH (v:=(Value.bool false)) (Aa rfl rfl) rfl (AD.nil (AC.mid (sS rfl (sS rfl (sS rfl (sS rfl (sS rfl (sS rfl (sS (by first|rfl|(rw [hg1];rfl)|rw [hg1]) (sS (by first|rfl|(rw [hg1];rfl)|rw [hg1]) (sN))))))))) (List.Sublist.refl _))))))
 refine AD.nil (AC.subF (sL [2,3,4,12] rfl) (AC.then_ ?_))
 refine AE.jn0 (tg True) (tg [(2,(pP b1 0)),(3,(pP b2 0))]) (tg [Ac b2 47 (AV b),Ac b1 47 (AV a)]) ?_ ?_
 ·skip
  refine AE.cond rfl (λhc0=>?_) (λhc0=>?_)
  ·simp only [Bool.and_eq_true,Bool.or_eq_true,Bool.and_eq_false_iff,Bool.or_eq_false_iff,Bool.not_eq_true',Bool.not_eq_false',decide_eq_true_eq,decide_eq_false_iff_not] at hc0
   refine AE.seq (AE.block (q4 (AH (v:=(pP b1 0)) (AA rfl Tryz.underlying47 rfl Tryz.sizeOf45 rfl) rfl (BI 1 (vK .u64 (Bw a)) Gq rfl (AD.retell (k:=15) (u:=(vK .u64 a)) rfl (by rw [Bg hc0.1]) ?_)))))
   refine AH (v:=(pP b2 0)) (AA rfl Tryz.underlying47 rfl Tryz.sizeOf45 rfl) rfl (BI 0 (vK .u64 (Bw b)) Gq rfl (AD.retell (k:=17) (u:=(vK .u64 b)) rfl (by rw [Bg hc0.2]) (AH (Ag (c:=(decide (a<b))) rfl rfl (DA (a:=a) (b:=b))) rfl (AL rfl (AD.nil ?_)))))
   refine AC.subF (sL [2,3,4,13] rfl) (AC.then_ ?_)
   refine AE.cond rfl (λhc1=>?_) (λhc1=>?_)
   ·replace hc1:=of_decide_eq_true hc1
    have hz:FK a b = -1:=if_pos hc1
    refine q4 (AL rfl (AD.nil (AC.then_ (AE.ret (AC.in_ret ?_)))))
    exact AC.then_ret (AC.join0_ret (AC.then_ret (AU rfl (Am (v:=(vI (-1:Int))) rfl) (λw hw=>⟨by rw [hz],hw.out⟩))))
   ·replace hc1:=of_decide_eq_false hc1
    refine q4 (AH (v:=(pP b1 0)) (AA rfl Tryz.underlying47 rfl Tryz.sizeOf45 rfl) rfl (BI 1 (vK .u64 (Bw a)) Gq rfl (AD.retell (k:=21) (u:=(vK .u64 a)) rfl (by rw [Bg hc0.1]) (AH (v:=(pP b2 0)) (AA rfl Tryz.underlying47 rfl Tryz.sizeOf45 rfl) rfl (BI 0 (vK .u64 (Bw b)) Gq rfl ?_)))))
    refine AD.retell (k:=23) (u:=(vK .u64 b)) rfl (by rw [Bg hc0.2]) (AH (Eb (c:=(decide (b<a))) rfl rfl (DA (a:=b) (b:=a))) rfl (AL rfl (AD.nil (AC.subF (sL [2,3,4,19] rfl) (AC.then_ ?_)))))
    refine AE.cond rfl (λhc2=>?_) (λhc2=>?_)
    ·replace hc2:=of_decide_eq_true hc2
     have hz:FK a b=1:=by unfold FK;rw [if_neg (by omega),if_neg (by omega)]
     refine q4 (AL rfl (AD.nil (AC.then_ (AE.ret (AC.in_ret ?_)))))
     exact AC.then_ret (AC.join0_ret (AC.then_ret (AU rfl (Am (v:=(vI 1)) rfl) (λw hw=>⟨by rw [hz],hw.out⟩))))
    ·replace hc2:=of_decide_eq_false hc2
     have hz:FK a b=0:=Pp.2 (by omega)
     refine AE.skip (AC.in_normal (q2 (AL rfl (AD.nil (AC.then_ ?_)))))
     exact AE.ret (AC.join0_ret (AC.then_ret (AU rfl (Am (v:=(vI 0)) rfl) (λw hw=>⟨by rw [hz],hw.out⟩))))
  ·simp only [Bool.and_eq_true,Bool.or_eq_true,Bool.and_eq_false_iff,Bool.or_eq_false_iff,Bool.not_eq_true',Bool.not_eq_false',decide_eq_true_eq,decide_eq_false_iff_not] at hc0
   exact AE.skip (AC.join0  (trivial) (sF rfl) sr)
 ·intro hJ
  refine q1 (C7 [(0,true),(2,true),(1,false),(3,false),(4,false),(5,true)] sr (Db 1 B6 rfl (Db 0 B6 rfl (AP.imp rfl (AD.callB (V:=λb3=>(Value.slice (some ⟨b3,0,none⟩) (nw a) ((Av a).length))) (T:=101) (cs:=Al (Av a)) (AN rfl) (A8 (args:=[(aG (AV a))]) rfl rfl Tryz.call150) (λw hw=>C3 a (by omega) w) rfl (Af rfl) λb3=>?_)))))
  refine AP.back (sl sr) (AP.imp rfl (AD.callB (V:=λb4=>(Value.slice (some ⟨b4,0,none⟩) (nw b) ((Av b).length))) (T:=101) (cs:=Al (Av b)) (AN rfl) (A8 (args:=[(aG (AV b))]) rfl rfl Tryz.call150) (λw hw=>C3 b (by omega) w) rfl (Af rfl) λb4=>AP.back (sl (sl sr)) (AP.imp rfl (IC Tryz.call237 (λw hw=>WC a b _ _ _ _ (by omega) (by omega) w (hw.get (i:=1) rfl) (hw.get (i:=0) rfl)) rfl ?_))))
  exact AP.back (sl (sl sr)) (E5 rfl (AP.nil (AC.subF (sL [2,3,4] rfl) (AC.then_ (AE.ret (AU rfl (Am (v:=(vI (FK a b))) rfl) (λw hw=>⟨rfl,hw.out⟩)))))))
theorem SO (a b:Nat) (ha:nw a<=1099511627776) (hb:nw b<=1099511627776) (w:World)  :Calls Tryz.prog 151 #[(aG (AV a)),(aG (AV b))] w (Ax w (aG (AV (a+b)))):=by
 have hla:=CK a
 have hlb:=CK b
 refine Ad (args:=[(aG (AV a)),(aG (AV b))]) Tryz.func151 rfl rfl (Af rfl) (AE.subF (sL [0,1] rfl) (q4 (CB (cs:=AV a) rfl λb1=>CB (cs:=AV b) rfl λb2=>al Fg rfl λb3=>?_)))
 refine q6 (sL [2,3,4] rfl) (q4 (AH (v:=(pP b1 1)) (AA rfl Tryz.underlying47 rfl Tryz.sizeOf9 rfl) rfl (BI 2 (Value.string (Bh a)) TK rfl (AH (B3 (c:=(decide (a<18446744073709551616))) rfl rfl Ck) rfl (AO rfl ?_)))))
 refine AD.mid (FM:=[(2,(pP b1 0)),(3,(pP b2 0)),(4,(pP b3 0)),(13,(pP b1 1)),(14,(Value.string (Bh a))),(15,(Value.bool (decide (a<18446744073709551616)))),(16,(Value.bool (decide (a<18446744073709551616)))),(20,(Value.bool ((decide (a<18446744073709551616))&&(decide (b<18446744073709551616)))))]) (LM:=[Ac b3 47 (AV 0),Ac b2 47 (AV b),Ac b1 47 (AV a)]) 4 ?_ ?_
 ·rcases Bool.eq_false_or_eq_true (decide (a<18446744073709551616)) with hg1|hg1
  ·skip
   refine AD.retell (k:=16) (u:=Value.bool true) rfl (by rw [hg1]) ?_
   have hg1':=hg1
   replace hg1':=of_decide_eq_true hg1'
   exact AD.step (v:=(pP b2 1)) (AB rfl) (AA rfl Tryz.underlying47 rfl Tryz.sizeOf9 rfl) rfl (Af rfl) (AD.step (v:=(Value.string (Bh b))) (AB rfl) (AK (i:=1) (v:=(Value.string (Bh b))) rfl rfl TK.a rfl) rfl (Af rfl) (AD.step (v:=(Value.bool (decide (b<18446744073709551616)))) (AB rfl) (B3 (c:=(decide (b<18446744073709551616))) rfl rfl Ck) rfl (Af rfl) (AH (v:=(Value.bool (decide (b<18446744073709551616)))) (Ae rfl rfl) rfl (AD.nil (AC.mid (sS rfl (sS rfl (sS rfl (sS rfl (sS rfl (sS rfl (sS (by first|rfl|(rw [hg1];rfl)|rw [hg1]) (sS (by first|rfl|(rw [hg1];rfl)|rw [hg1]) (sN))))))))) (List.Sublist.refl _))))))
  ·skip
   refine AD.retell (k:=16) (u:=Value.bool false) rfl (by rw [hg1]) ?_
   have hg1':=hg1
   replace hg1':=of_decide_eq_false hg1'
   exact AD.skip (AM rfl) rfl (Af rfl) (AD.skip (AM rfl) rfl (Af rfl) (AD.skip (AM rfl) rfl (Af rfl) (AH (v:=(Value.bool false)) (Aa rfl rfl) rfl (AD.nil (AC.mid (sS rfl (sS rfl (sS rfl (sS rfl (sS rfl (sS rfl (sS (by first|rfl|(rw [hg1];rfl)|rw [hg1]) (sS (by first|rfl|(rw [hg1];rfl)|rw [hg1]) (sN))))))))) (List.Sublist.refl _))))))
 refine AD.nil (AC.subF (sL [2,3,4,20] rfl) (AC.then_ ?_))
 refine AE.jn0 (tg True) (tg [(2,(pP b1 0)),(3,(pP b2 0)),(4,(pP b3 0))]) (tg [Ac b3 47 (AV 0),Ac b2 47 (AV b),Ac b1 47 (AV a)]) ?_ ?_
 ·skip
  refine AE.cond rfl (λhc0=>?_) (λhc0=>?_)
  ·simp only [Bool.and_eq_true,Bool.or_eq_true,Bool.and_eq_false_iff,Bool.or_eq_false_iff,Bool.not_eq_true',Bool.not_eq_false',decide_eq_true_eq,decide_eq_false_iff_not] at hc0
   refine q4 (AH (v:=(pP b1 0)) (AA rfl Tryz.underlying47 rfl Tryz.sizeOf45 rfl) rfl (BI 2 (vK .u64 (Bw a)) Gq rfl (AD.retell (k:=23) (u:=(vK .u64 a)) rfl (by rw [Bg hc0.1]) (AH (v:=(pP b2 0)) (AA rfl Tryz.underlying47 rfl Tryz.sizeOf45 rfl) rfl (BI 1 (vK .u64 (Bw b)) Gq rfl ?_)))))
   refine AD.retell (k:=25) (u:=(vK .u64 b)) rfl (by rw [Bg hc0.2]) (AH (v:=(Value.tuple #[(vK .u64 ((a+b+0)%18446744073709551616)),(vK .u64 ((a+b+0)/18446744073709551616))])) (QG (args:=[(vK .u64 a),(vK .u64 b),(Value.int .u64 (0:Int))]) rfl rfl (λw=>Qb Tryz.func199 (by kernel_rfl) (by kernel_rfl) (by kernel_rfl) (by kernel_rfl) a b 0 (by omega) w)) rfl (AO rfl (AH (AY (v:=(vK .u64 ((a+b+0)%18446744073709551616))) rfl rfl) rfl (AH (AY (v:=(vK .u64 ((a+b+0)/18446744073709551616))) rfl rfl) rfl (AL rfl ?_)))))
   refine AL rfl (q3 (sL [2,3,4,5,6] rfl) (AO rfl (AH (Bp (c:=(decide (((a+b+0)/18446744073709551616)=0))) rfl rfl (Pm (a:=(a+b+0)/18446744073709551616) (b:=0))) rfl (AD.nil (AC.subF (sL [2,3,4,5,30] rfl) ?_)))))
   refine AC.then_ ?_
   refine AE.cond rfl (λhc1=>?_) (λhc1=>?_)
   ·replace hc1:=of_decide_eq_true hc1
    refine q4 (AO rfl (AH (v:=(aG ([(vK .u64 ((a+b+0)%18446744073709551616)),(Value.string (Bh 0))]))) (AS (zs:=AV 0) (vs:=[(vK .u64 ((a+b+0)%18446744073709551616)),(Value.string (Bh 0))]) (pv:=[(0,(vK .u64 ((a+b+0)%18446744073709551616)))]) (places:=[(0,1),(1,1)]) Tryz.zeroValue47 Tryz.underlying47 (λw=>by simp [Tryz.sizeOf9,Tryz.sizeOf45]) rfl rfl) rfl (AD.retell (k:=32) (u:=(aG (AV (a+b)))) rfl (by rw [DQ (by omega),show (a+b+0)%18446744073709551616=a+b by omega];rfl) (A6 rfl Tryz.sizeOf47 rfl (AD.nil ?_)))))
    exact AC.subF (sL [2,3,4] rfl) (AC.then_ (AE.ret (AC.join0_ret (AC.then_ret (AU rfl (Ay (i:=0) (cs:=AV (a+b)) rfl rfl Tryz.isAgg47 Tryz.sizeOf47 rfl) (λw hw=>⟨rfl,hw.out⟩))))))
   ·replace hc1:=of_decide_eq_false hc1
    exact AE.skip (AC.join0  (trivial) (sF rfl) sr)
  ·simp only [Bool.and_eq_true,Bool.or_eq_true,Bool.and_eq_false_iff,Bool.or_eq_false_iff,Bool.not_eq_true',Bool.not_eq_false',decide_eq_true_eq,decide_eq_false_iff_not] at hc0
   exact AE.skip (AC.join0  (trivial) (sF rfl) sr)
 ·intro hJ
  refine q1 (C7 [(0,true),(2,true),(1,false),(3,false),(4,true),(5,true)] sr (Db 2 B6 rfl (Db 1 B6 rfl (AP.imp rfl (AD.callB (V:=λb4=>(Value.slice (some ⟨b4,0,none⟩) (nw a) ((Av a).length))) (T:=101) (cs:=Al (Av a)) (AN rfl) (A8 (args:=[(aG (AV a))]) rfl rfl Tryz.call150) (λw hw=>C3 a (by omega) w) rfl (Af rfl) λb4=>?_)))))
  refine AP.back (sl sr) (AP.imp rfl (AD.callB (V:=λb5=>(Value.slice (some ⟨b5,0,none⟩) (nw b) ((Av b).length))) (T:=101) (cs:=Al (Av b)) (AN rfl) (A8 (args:=[(aG (AV b))]) rfl rfl Tryz.call150) (λw hw=>C3 b (by omega) w) rfl (Af rfl) λb5=>AP.back (sl (sl sr)) (E5 rfl (E5 rfl ?_))))
  refine AP.nil (AC.subF (sL [2,3,4,7,8] rfl) (q1 (q4 (AO rfl (AH (v:=(vN (nw a))) (AF rfl Tryz.underlying232) rfl ?_)))))
  refine AO rfl (AH (v:=(vN (nw b))) (AF rfl Tryz.underlying232) rfl (AH (Ag (c:=(decide ((nw a)<(nw b)))) rfl rfl (DA (a:=nw a) (b:=nw b))) rfl (AD.nil (AC.subF (sL [2,3,4,7,8,41] rfl) (AC.then_ ?_)))))
  refine AE.cond rfl (λhc2=>?_) (λhc2=>?_)
  ·replace hc2:=of_decide_eq_true hc2
   refine AE.region (AO rfl (AO rfl (AL rfl (AL rfl (q3 (sL [2,3,4,7,8] rfl) ?_)))))
   refine AO rfl (AH (v:=(vN (nw b))) (AF rfl Tryz.underlying232) rfl (AH (AT (c:=(((nw b)+1:Nat):Int)) rfl rfl (AR (a:=nw b) (b:=1) (by omega))) rfl (AD.openV (V:=λb6=>(Value.slice (some ⟨b6,0,none⟩) ((nw b)+1) ((nw b)+1))) (T:=101) (cs:=Al (List.replicate ((nw b)+1) 0)) (AN rfl) (Cy (m:=(nw b)+1) (c:=(nw b)+1) rfl rfl (by omega) (by omega)) rfl (Af rfl) λb6=>AL rfl (q3 (sL [2,3,4,7,8,9] rfl) ?_))))
   refine AO rfl (AO rfl (AD.copy_u32 (i:=0) (j:=1) (ns:=Al (AJ b)) (cs':=Al (AJ b++(List.replicate (nw b+1) 0).drop (AJ b).length)) (L':=[Ac b6 101 (Al (AJ b++(List.replicate (nw b+1) 0).drop (AJ b).length)),Ac b5 101 (Al (Av b)),Ac b4 101 (Al (Av a)),Ac b3 47 (AV 0),Ac b2 47 (AV b),Ac b1 47 (AV a)]) rfl (AN rfl) rfl rfl rfl rfl (by rw [Ly,Hr]) (BO _) (N8 _) (by omega) (by rw [BO];simp;try omega) (Nb _ _) rfl (Af rfl) (q3 (sL [2,3,4,7,8,9] rfl) (AL rfl (AD.nil ?_)))))
   refine q1 (q4 (AO rfl (AH (v:=(vN ((nw b)+1))) (AF rfl Tryz.underlying232) rfl (AO rfl (AD.nil ?_)))))
   refine AC.subF (sL [2,3,4,7,8,9,10,52,53] rfl) (AC.then_ (AE.block ?_))
   refine AE.lp3 (tg λ(i:Nat) (os:List Nat) (c:Nat)=>i<=nw b+1/\os.length=nw b+1/\W32 os/\c<=1/\val os+c*4294967296^i=b+val ((AJ a).take i)) (tg λ(i:Nat) (os:List Nat) (c:Nat)=>[(4,(pP b3 0)),(8,(Value.slice (some ⟨b4,0,none⟩) (nw a) ((Av a).length))),(9,(Value.slice (some ⟨b6,0,none⟩) ((nw b)+1) ((nw b)+1))),(52,(vN ((nw b)+1))),(53,(vN i)),(10,(vK .u32 c))]) (tg λ(i:Nat) (os:List Nat) (c:Nat)=>[Ac b6 101 (Al os),Ac b5 101 (Al (Av b)),Ac b4 101 (Al (Av a)),Ac b3 47 (AV 0),Ac b2 47 (AV b),Ac b1 47 (AV a)]) (tg λ(i:Nat) (os:List Nat) (c:Nat)=>nw b+1-i) 0 (AJ b++(List.replicate (nw b+1) 0).drop (AJ b).length) 0 (⟨Nat.zero_le _,(FF b 1).1,(FF b 1).2.1,by omega,by rw [(FF b 1).2.2];simp [val]⟩) (sF rfl) sr (λi os c hJ=>?_)
   obtain ⟨hi,hl,hw32,hcc,hv⟩:=hJ
   refine q4 (AH (Ag (c:=(decide (i<((nw b)+1)))) rfl rfl (DA (a:=i) (b:=(nw b)+1))) rfl (AD.nil (q1 ?_)))
   refine AE.cond rfl (λhc3=>?_) (λhc3=>?_)
   ·replace hc3:=of_decide_eq_true hc3
    refine AE.skip (q1 (AE.block (q4 (AO rfl (AL rfl ?_)))))
    refine q3 (sL [4,8,9,52,53,10,11] rfl) (AL rfl (AD.nil (q1 (q4 (AO rfl ?_)))))
    refine AO rfl (AH (v:=(vN (nw a))) (AF rfl Tryz.underlying232) rfl (AH (Ag (c:=(decide (i<(nw a)))) rfl rfl (DA (a:=i) (b:=nw a))) rfl (AD.nil (AC.subF (sL [4,8,9,52,53,10,11,12,59] rfl) (AC.then_ ?_)))))
    refine AE.jn0 (tg True) (tg [(4,(pP b3 0)),(8,(Value.slice (some ⟨b4,0,none⟩) (nw a) ((Av a).length))),(9,(Value.slice (some ⟨b6,0,none⟩) ((nw b)+1) ((nw b)+1))),(52,(vN ((nw b)+1))),(53,(vN i)),(10,(vK .u32 c)),(11,(vN i)),(12,(vK .u32 ((AJ a).getD i 0)))]) (tg [Ac b6 101 (Al os),Ac b5 101 (Al (Av b)),Ac b4 101 (Al (Av a)),Ac b3 47 (AV 0),Ac b2 47 (AV b),Ac b1 47 (AV a)]) ?_ ?_
    ·skip
     refine AE.cond rfl (λhc4=>?_) (λhc4=>?_)
     ·replace hc4:=of_decide_eq_true hc4
      refine AE.region (AO rfl (AO rfl (AH (v:=(pP b4 i)) (AI (j:=i) rfl rfl Tryz.underlying232 Tryz.sizeOf101 rfl (by omega) (by simp)) rfl ?_)))
      have hx1:(Av a).getD i 0<4294967296:=W32.getD (CL a) i
      exact AH (AK (i:=2) (v:=(vK .u32 ((Av a).getD i 0))) rfl rfl Tryz.isAgg101 (BH (xs:=Av a) (j:=i) (by omega))) rfl (AD.retell (k:=63) (u:=(vK .u32 ((AJ a).getD i 0))) rfl (by rw [DJ hc4]) (AL rfl (AD.nil (AC.subF (sL [4,8,9,52,53,10,11,12] rfl) (AC.join0  (trivial) (sF rfl) sr)))))
     ·replace hc4:=of_decide_eq_false hc4
      exact AE.skip (AC.retell (k:=12) (u:=Value.int .u32 (((AJ a).getD i 0:Nat):Int)) rfl (by rw [EC hc4];rfl) (AC.join0  (trivial) (sF rfl) sr))
    ·intro hJ
     refine AC.then_ (AE.region (AO rfl (AO rfl (AO rfl (AO rfl ?_)))))
     refine AH (v:=(pP b6 i)) (AI (j:=i) rfl rfl Tryz.underlying232 Tryz.sizeOf101 rfl (by omega) (by simp)) rfl ?_
     have hx2:os.getD i 0<4294967296:=W32.getD hw32 i
     refine AH (AK (i:=0) (v:=(vK .u32 (os.getD i 0))) rfl rfl Tryz.isAgg101 (BH (xs:=os) (j:=i) (by omega))) rfl (AO rfl (AO rfl ?_))
     have hya:=(Bn a).getD i
     have hyb:=(Bn b).getD i
     refine BY Tryz.call200 (JZ (os.getD i 0) ((AJ a).getD i 0) c (by omega) (by omega) (by omega)) rfl (AO rfl (AH (AY (v:=(vK .u32 (((os.getD i 0)+((AJ a).getD i 0)+c)%4294967296))) rfl rfl) rfl (AH (AY (v:=(vK .u32 (((os.getD i 0)+((AJ a).getD i 0)+c)/4294967296))) rfl rfl) rfl (AH (v:=(pP b6 i)) (AI (j:=i) rfl rfl Tryz.underlying232 Tryz.sizeOf101 rfl (by omega) (by simp)) rfl (AD.store' (i:=0) (off:=i) (vs:=[(vK .u32 (((os.getD i 0)+((AJ a).getD i 0)+c)%4294967296))]) (cs':=Al (os.set i (((os.getD i 0)+((AJ a).getD i 0)+c)%4294967296))) (L':=[Ac b6 101 (Al (os.set i (((os.getD i 0)+((AJ a).getD i 0)+c)%4294967296))),Ac b5 101 (Al (Av b)),Ac b4 101 (Al (Av a)),Ac b3 47 (AV 0),Ac b2 47 (AV b),Ac b1 47 (AV a)]) (AN rfl) rfl rfl rfl rfl rfl Tryz.sizeOf101 rfl (Cc (BO _) (by omega)) (CD (by omega)) rfl ?_)))))
     refine AL rfl (AD.nil (AC.subF (sL [4,8,9,52,53,10,11,12] rfl) (AC.in_normal (AC.then_ (AE.region ?_)))))
     exact AH (AT (c:=((i+1:Nat):Int)) rfl rfl (AR (a:=i) (b:=1) (by omega))) rfl (AO rfl (AD.nil (AC.subF (sL [4,8,9,52,53,10,11,12] rfl) (AC.round3 (i+1) (os.set i ((os.getD i 0+(AJ a).getD i 0+c)%4294967296)) ((os.getD i 0+(AJ a).getD i 0+c)/4294967296) (⟨by omega,by rw [List.length_set];exact hl,W32.set hw32 (by omega) i,by omega,NU hl hc3 hv⟩) (by omega) (sF rfl) sr))))
   ·replace hc3:=of_decide_eq_false hc3
    refine AE.exit (AC.then_exit (AC.round3_exit (AC.in_exit (q2 (AO rfl ?_)))))
    refine IC Tryz.call149 (λw hw=>Ig _ ((nw b)+1) ((nw b)+1) os hw32 (by first|omega|(rw [rowN_length];omega)|simp|(simp;omega)) (by first|omega|simp|(simp;omega)) (by first|omega|simp|(simp;omega)) w (hw.get (i:=0) rfl)) rfl (AD.retell (k:=79) (u:=(aG (AV (a+b)))) rfl (by rw [List.take_of_length_le (show os.length<=nw b+1 by omega),N7 (X:=b) (Y:=a) (c:=c) (i:=i) hl hw32 (by omega) (TP (by omega)) (by rw [hv,C5 (by omega)]),Nat.add_comm]) (Nz rfl Tryz.sizeOf47 rfl (AD.nil (AC.subF (sL [4,8,9,52,53,10] rfl) (AC.then_ ?_)))))
    exact AE.ret (AU rfl (Ay (i:=3) (cs:=AV (a+b)) rfl rfl Tryz.isAgg47 Tryz.sizeOf47 rfl) (λw hw=>⟨rfl,hw.out⟩))
  ·replace hc2:=of_decide_eq_false hc2
   refine AE.skip (q2 (AO rfl (AH (v:=(vN (nw a))) (AF rfl Tryz.underlying232) rfl (AH (AT (c:=(((nw a)+1:Nat):Int)) rfl rfl (AR (a:=nw a) (b:=1) (by omega))) rfl (AD.openV (V:=λb6=>(Value.slice (some ⟨b6,0,none⟩) ((nw a)+1) ((nw a)+1))) (T:=101) (cs:=Al (List.replicate ((nw a)+1) 0)) (AN rfl) (Cy (m:=(nw a)+1) (c:=(nw a)+1) rfl rfl (by omega) (by omega)) rfl (Af rfl) λb6=>?_)))))
   refine AL rfl (q3 (sL [2,3,4,7,8,9] rfl) (AO rfl (AO rfl (AD.copy_u32 (i:=0) (j:=2) (ns:=Al (AJ a)) (cs':=Al (AJ a++(List.replicate (nw a+1) 0).drop (AJ a).length)) (L':=[Ac b6 101 (Al (AJ a++(List.replicate (nw a+1) 0).drop (AJ a).length)),Ac b5 101 (Al (Av b)),Ac b4 101 (Al (Av a)),Ac b3 47 (AV 0),Ac b2 47 (AV b),Ac b1 47 (AV a)]) rfl (AN rfl) rfl rfl rfl rfl (by rw [Ly,Hr]) (BO _) (N8 _) (by omega) (by rw [BO];simp;try omega) (Nb _ _) rfl (Af rfl) (q3 (sL [2,3,4,7,8,9] rfl) ?_)))))
   refine AL rfl (AD.nil (q1 (q4 (AO rfl (AH (v:=(vN ((nw a)+1))) (AF rfl Tryz.underlying232) rfl ?_)))))
   refine AO rfl (AD.nil (AC.subF (sL [2,3,4,7,8,9,10,52,53] rfl) (AC.then_ (AE.block ?_))))
   refine AE.lp3 (tg λ(i:Nat) (os:List Nat) (c:Nat)=>i<=nw a+1/\os.length=nw a+1/\W32 os/\c<=1/\val os+c*4294967296^i=a+val ((AJ b).take i)) (tg λ(i:Nat) (os:List Nat) (c:Nat)=>[(4,(pP b3 0)),(8,(Value.slice (some ⟨b5,0,none⟩) (nw b) ((Av b).length))),(9,(Value.slice (some ⟨b6,0,none⟩) ((nw a)+1) ((nw a)+1))),(52,(vN ((nw a)+1))),(53,(vN i)),(10,(vK .u32 c))]) (tg λ(i:Nat) (os:List Nat) (c:Nat)=>[Ac b6 101 (Al os),Ac b5 101 (Al (Av b)),Ac b4 101 (Al (Av a)),Ac b3 47 (AV 0),Ac b2 47 (AV b),Ac b1 47 (AV a)]) (tg λ(i:Nat) (os:List Nat) (c:Nat)=>nw a+1-i) 0 (AJ a++(List.replicate (nw a+1) 0).drop (AJ a).length) 0 (⟨Nat.zero_le _,(FF a 1).1,(FF a 1).2.1,by omega,by rw [(FF a 1).2.2];simp [val]⟩) (sF rfl) sr (λi os c hJ=>?_)
   obtain ⟨hi,hl,hw32,hcc,hv⟩:=hJ
   refine q4 (AH (Ag (c:=(decide (i<((nw a)+1)))) rfl rfl (DA (a:=i) (b:=(nw a)+1))) rfl (AD.nil (q1 ?_)))
   refine AE.cond rfl (λhc3=>?_) (λhc3=>?_)
   ·replace hc3:=of_decide_eq_true hc3
    refine AE.skip (q1 (AE.block (q4 (AO rfl (AL rfl ?_)))))
    refine q3 (sL [4,8,9,52,53,10,11] rfl) (AL rfl (AD.nil (q1 (q4 (AO rfl ?_)))))
    refine AO rfl (AH (v:=(vN (nw b))) (AF rfl Tryz.underlying232) rfl (AH (Ag (c:=(decide (i<(nw b)))) rfl rfl (DA (a:=i) (b:=nw b))) rfl (AD.nil (AC.subF (sL [4,8,9,52,53,10,11,12,59] rfl) (AC.then_ ?_)))))
    refine AE.jn0 (tg True) (tg [(4,(pP b3 0)),(8,(Value.slice (some ⟨b5,0,none⟩) (nw b) ((Av b).length))),(9,(Value.slice (some ⟨b6,0,none⟩) ((nw a)+1) ((nw a)+1))),(52,(vN ((nw a)+1))),(53,(vN i)),(10,(vK .u32 c)),(11,(vN i)),(12,(vK .u32 ((AJ b).getD i 0)))]) (tg [Ac b6 101 (Al os),Ac b5 101 (Al (Av b)),Ac b4 101 (Al (Av a)),Ac b3 47 (AV 0),Ac b2 47 (AV b),Ac b1 47 (AV a)]) ?_ ?_
    ·skip
     refine AE.cond rfl (λhc4=>?_) (λhc4=>?_)
     ·replace hc4:=of_decide_eq_true hc4
      refine AE.region (AO rfl (AO rfl (AH (v:=(pP b5 i)) (AI (j:=i) rfl rfl Tryz.underlying232 Tryz.sizeOf101 rfl (by omega) (by simp)) rfl ?_)))
      have hx3:(Av b).getD i 0<4294967296:=W32.getD (CL b) i
      exact AH (AK (i:=1) (v:=(vK .u32 ((Av b).getD i 0))) rfl rfl Tryz.isAgg101 (BH (xs:=Av b) (j:=i) (by omega))) rfl (AD.retell (k:=63) (u:=(vK .u32 ((AJ b).getD i 0))) rfl (by rw [DJ hc4]) (AL rfl (AD.nil (AC.subF (sL [4,8,9,52,53,10,11,12] rfl) (AC.join0  (trivial) (sF rfl) sr)))))
     ·replace hc4:=of_decide_eq_false hc4
      exact AE.skip (AC.retell (k:=12) (u:=Value.int .u32 (((AJ b).getD i 0:Nat):Int)) rfl (by rw [EC hc4];rfl) (AC.join0  (trivial) (sF rfl) sr))
    ·intro hJ
     refine AC.then_ (AE.region (AO rfl (AO rfl (AO rfl (AO rfl ?_)))))
     refine AH (v:=(pP b6 i)) (AI (j:=i) rfl rfl Tryz.underlying232 Tryz.sizeOf101 rfl (by omega) (by simp)) rfl ?_
     have hx4:os.getD i 0<4294967296:=W32.getD hw32 i
     refine AH (AK (i:=0) (v:=(vK .u32 (os.getD i 0))) rfl rfl Tryz.isAgg101 (BH (xs:=os) (j:=i) (by omega))) rfl (AO rfl (AO rfl ?_))
     have hya:=(Bn a).getD i
     have hyb:=(Bn b).getD i
     refine BY Tryz.call200 (JZ (os.getD i 0) ((AJ b).getD i 0) c (by omega) (by omega) (by omega)) rfl (AO rfl (AH (AY (v:=(vK .u32 (((os.getD i 0)+((AJ b).getD i 0)+c)%4294967296))) rfl rfl) rfl (AH (AY (v:=(vK .u32 (((os.getD i 0)+((AJ b).getD i 0)+c)/4294967296))) rfl rfl) rfl (AH (v:=(pP b6 i)) (AI (j:=i) rfl rfl Tryz.underlying232 Tryz.sizeOf101 rfl (by omega) (by simp)) rfl (AD.store' (i:=0) (off:=i) (vs:=[(vK .u32 (((os.getD i 0)+((AJ b).getD i 0)+c)%4294967296))]) (cs':=Al (os.set i (((os.getD i 0)+((AJ b).getD i 0)+c)%4294967296))) (L':=[Ac b6 101 (Al (os.set i (((os.getD i 0)+((AJ b).getD i 0)+c)%4294967296))),Ac b5 101 (Al (Av b)),Ac b4 101 (Al (Av a)),Ac b3 47 (AV 0),Ac b2 47 (AV b),Ac b1 47 (AV a)]) (AN rfl) rfl rfl rfl rfl rfl Tryz.sizeOf101 rfl (Cc (BO _) (by omega)) (CD (by omega)) rfl ?_)))))
     refine AL rfl (AD.nil (AC.subF (sL [4,8,9,52,53,10,11,12] rfl) (AC.in_normal (AC.then_ (AE.region ?_)))))
     exact AH (AT (c:=((i+1:Nat):Int)) rfl rfl (AR (a:=i) (b:=1) (by omega))) rfl (AO rfl (AD.nil (AC.subF (sL [4,8,9,52,53,10,11,12] rfl) (AC.round3 (i+1) (os.set i ((os.getD i 0+(AJ b).getD i 0+c)%4294967296)) ((os.getD i 0+(AJ b).getD i 0+c)/4294967296) (⟨by omega,by rw [List.length_set];exact hl,W32.set hw32 (by omega) i,by omega,NU hl hc3 hv⟩) (by omega) (sF rfl) sr))))
   ·replace hc3:=of_decide_eq_false hc3
    refine AE.exit (AC.then_exit (AC.round3_exit (AC.in_exit (q2 (AO rfl ?_)))))
    refine IC Tryz.call149 (λw hw=>Ig _ ((nw a)+1) ((nw a)+1) os hw32 (by first|omega|(rw [rowN_length];omega)|simp|(simp;omega)) (by first|omega|simp|(simp;omega)) (by first|omega|simp|(simp;omega)) w (hw.get (i:=0) rfl)) rfl (AD.retell (k:=79) (u:=(aG (AV (a+b)))) rfl (by rw [List.take_of_length_le (show os.length<=nw a+1 by omega),N7 (X:=a) (Y:=b) (c:=c) (i:=i) hl hw32 (by omega) (TP (by omega)) (by rw [hv,C5 (by omega)])]) (Nz rfl Tryz.sizeOf47 rfl (AD.nil (AC.subF (sL [4,8,9,52,53,10] rfl) (AC.then_ ?_)))))
    exact AE.ret (AU rfl (Ay (i:=3) (cs:=AV (a+b)) rfl rfl Tryz.isAgg47 Tryz.sizeOf47 rfl) (λw hw=>⟨rfl,hw.out⟩))
end
end Go.Proofs.YtfbomiejpbchdaaGreat
