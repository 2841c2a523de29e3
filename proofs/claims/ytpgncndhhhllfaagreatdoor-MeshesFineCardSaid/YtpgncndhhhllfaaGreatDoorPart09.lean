import Derived.Test.YtpgncndhhhllfaaGreatDoorPart03
import Derived.Test.YtpgncndhhhllfaaGreatDoorPart08
namespace Go.Proofs.YtpgncndhhhllfaaGreatDoor
open Go Go.RowKit Go.Proofs.Tryz
set_option linter.unusedVariables false
set_option linter.unusedSimpArgs false
section
set_option maxRecDepth 100000
theorem UQ (a b:Nat) (ha:nw a<=1099511627776) (hb:nw b<=1099511627776) (w:World)  :Calls prog 168 #[(aG (Ab a)),(aG (Ab b))] w (An w (vI (DL a b))):=by
 refine Af (args:=[(aG (Ab a)),(aG (Ab b))]) func168 O O (AT O) (AF.subF (sL [0,1] O) (q4 (BU (cs:=Ab a) O λb1=>BU (cs:=Ab b) O λb2=>asg' O ?_)))
 refine q6 (sL [2,3,4] O) (q4 (AH (v:=(pP b1 1)) (AA O underlying42 O sizeOf9 O) O (BA 1 (Value.string (Bm a)) TQ O (AH (Bf (c:=(decide (a<18446744073709551616))) O O CY) O (AM O ?_)))))
 refine AE.mid (FM:=[(2,(pP b1 0)),(3,(pP b2 0)),(4,(vI 0)),(5,(pP b1 1)),(6,(Value.string (Bm a))),(7,(Value.bool (decide (a<18446744073709551616)))),(8,(Value.bool (decide (a<18446744073709551616)))),(12,(Value.bool ((decide (a<18446744073709551616))&&(decide (b<18446744073709551616)))))]) (LM:=[Ag b2 42 (Ab b),Ag b1 42 (Ab a)]) 4 ?_ ?_
 ·rcases Bool.eq_false_or_eq_true (decide (a<18446744073709551616)) with hg1|hg1
  ·skip
   refine AE.retell (k:=8) (u:=Value.bool true) O (by rw [hg1]) ?_
   have hg1':=hg1
   replace hg1':=of_decide_eq_true hg1'
   exact AE.step (v:=(pP b2 1)) (AB O) (AA O underlying42 O sizeOf9 O) O (AT O) (AE.step (v:=(Value.string (Bm b))) (AB O) (AK (i:=0) (v:=(Value.string (Bm b))) O O TQ.a O) O (AT O) (AE.step (v:=(Value.bool (decide (b<18446744073709551616)))) (AB O) (Bf (c:=(decide (b<18446744073709551616))) O O CY) O (AT O) (AH (v:=(Value.bool (decide (b<18446744073709551616)))) (Ac O O) O (AE.nil (AC.mid (sS O (sS O (sS O (sS O (sS O (sS O (sS (by first|rfl|(rw [hg1];rfl)|rw [hg1]) (sS (by first|rfl|(rw [hg1];rfl)|rw [hg1]) (sN))))))))) (List.Sublist.refl _))))))
  ·skip
   refine AE.retell (k:=8) (u:=Value.bool false) O (by rw [hg1]) ?_
   have hg1':=hg1
   replace hg1':=of_decide_eq_false hg1'
   exact AE.skip (AJ O) O (AT O) (AE.skip (AJ O) O (AT O) (AE.skip (AJ O) O (AT O) (AH (v:=(Value.bool false)) (AP O O) O (AE.nil (AC.mid (sS O (sS O (sS O (sS O (sS O (sS O (sS (by first|rfl|(rw [hg1];rfl)|rw [hg1]) (sS (by first|rfl|(rw [hg1];rfl)|rw [hg1]) (sN))))))))) (List.Sublist.refl _))))))
 refine AE.nil (AC.subF (sL [2,3,4,12] O) (AC.then_ ?_))
 refine AF.jn0 (tg True) (tg [(2,(pP b1 0)),(3,(pP b2 0))]) (tg [Ag b2 42 (Ab b),Ag b1 42 (Ab a)]) ?_ ?_
 ·skip
  refine AF.cond O (λhc0=>?_) (λhc0=>?_)
  ·simp only [Bool.and_eq_true,Bool.or_eq_true,Bool.and_eq_false_iff,Bool.or_eq_false_iff,Bool.not_eq_true',Bool.not_eq_false',decide_eq_true_eq,decide_eq_false_iff_not] at hc0
   refine AF.seq (AF.block (q4 (AH (v:=(pP b1 0)) (AA O underlying42 O sizeOf40 O) O (BA 1 (vK .u64 (B8 a)) Gd O (AE.retell (k:=15) (u:=(vK .u64 a)) O (by rw [Bh hc0.1]) ?_)))))
   refine AH (v:=(pP b2 0)) (AA O underlying42 O sizeOf40 O) O (BA 0 (vK .u64 (B8 b)) Gd O (AE.retell (k:=17) (u:=(vK .u64 b)) O (by rw [Bh hc0.2]) (AH (Ae (c:=(decide (a<b))) O O (CL (a:=a) (b:=b))) O (asg' O (AE.nil ?_)))))
   refine AC.subF (sL [2,3,4,13] O) (AC.then_ ?_)
   refine AF.cond O (λhc1=>?_) (λhc1=>?_)
   ·replace hc1:=of_decide_eq_true hc1
    have hz:DL a b = -1:=if_pos hc1
    refine q4 (asg' O (AE.nil (AC.then_ (AF.ret (AC.in_ret ?_)))))
    exact AC.then_ret (AC.join0_ret (AC.then_ret (AI O (AY (v:=(vI (-1:Int))) O) (λw hw=>⟨by rw [hz],hw.out⟩))))
   ·replace hc1:=of_decide_eq_false hc1
    refine q4 (AH (v:=(pP b1 0)) (AA O underlying42 O sizeOf40 O) O (BA 1 (vK .u64 (B8 a)) Gd O (AE.retell (k:=21) (u:=(vK .u64 a)) O (by rw [Bh hc0.1]) (AH (v:=(pP b2 0)) (AA O underlying42 O sizeOf40 O) O (BA 0 (vK .u64 (B8 b)) Gd O ?_)))))
    refine AE.retell (k:=23) (u:=(vK .u64 b)) O (by rw [Bh hc0.2]) (AH (B3 (c:=(decide (b<a))) O O (CL (a:=b) (b:=a))) O (asg' O (AE.nil (AC.subF (sL [2,3,4,19] O) (AC.then_ ?_)))))
    refine AF.cond O (λhc2=>?_) (λhc2=>?_)
    ·replace hc2:=of_decide_eq_true hc2
     have hz:DL a b=1:=by unfold DL;rw [if_neg Z,if_neg Z]
     refine q4 (asg' O (AE.nil (AC.then_ (AF.ret (AC.in_ret ?_)))))
     exact AC.then_ret (AC.join0_ret (AC.then_ret (AI O (AY (v:=(vI 1)) O) (λw hw=>⟨by rw [hz],hw.out⟩))))
    ·replace hc2:=of_decide_eq_false hc2
     have hz:DL a b=0:=NB.2 Z
     refine AF.skip (AC.in_normal (q2 (asg' O (AE.nil (AC.then_ ?_)))))
     exact AF.ret (AC.join0_ret (AC.then_ret (AI O (AY (v:=(vI 0)) O) (λw hw=>⟨by rw [hz],hw.out⟩))))
  ·simp only [Bool.and_eq_true,Bool.or_eq_true,Bool.and_eq_false_iff,Bool.or_eq_false_iff,Bool.not_eq_true',Bool.not_eq_false',decide_eq_true_eq,decide_eq_false_iff_not] at hc0
   exact AF.skip (AC.join0  (trivial) (sF O) sr)
 ·intro hJ
  refine q1 (Cd [(0,true),(2,true),(1,false),(3,false),(4,false),(5,true)] sr (Da 1 B7 O (Da 0 B7 O (OkE.imp O (AE.callB (V:=λb3=>(Value.slice (some ⟨b3,0,none⟩) (nw a) ((BC a).length))) (T:=97) (cs:=Au (BC a)) (AS O) (Ao (args:=[(aG (Ab a))]) O O call111) (λw hw=>DQ a Z w) O (AT O) λb3=>?_)))))
  refine OkE.back (sl sr) (OkE.imp O (AE.callB (V:=λb4=>(Value.slice (some ⟨b4,0,none⟩) (nw b) ((BC b).length))) (T:=97) (cs:=Au (BC b)) (AS O) (Ao (args:=[(aG (Ab b))]) O O call111) (λw hw=>DQ b Z w) O (AT O) λb4=>OkE.back (sl (sl sr)) (OkE.imp O (Cj call218 (λw hw=>Z7 a b _ _ _ _ Z Z w (hw.get (i:=1) O) (hw.get (i:=0) O)) O ?_))))
  exact OkE.back (sl (sl sr)) (pS' O (OkE.nil (AC.subF (sL [2,3,4] O) (AC.then_ (AF.ret (AI O (AY (v:=(vI (DL a b))) O) (λw hw=>⟨rfl,hw.out⟩)))))))
theorem UP (a b:Nat) (ha:nw a<=1099511627776) (hb:nw b<=1099511627776) (w:World)  :Calls prog 107 #[(aG (Ab a)),(aG (Ab b))] w (An w (aG (Ab (a+b)))):=by
 have hla:=CR a
 have hlb:=CR b
 refine Af (args:=[(aG (Ab a)),(aG (Ab b))]) func107 O O (AT O) (AF.subF (sL [0,1] O) (q4 (BU (cs:=Ab a) O λb1=>BU (cs:=Ab b) O λb2=>al F5 O λb3=>?_)))
 refine q6 (sL [2,3,4] O) (q4 (AH (v:=(pP b1 1)) (AA O underlying42 O sizeOf9 O) O (BA 2 (Value.string (Bm a)) TQ O (AH (Bf (c:=(decide (a<18446744073709551616))) O O CY) O (AM O ?_)))))
 refine AE.mid (FM:=[(2,(pP b1 0)),(3,(pP b2 0)),(4,(pP b3 0)),(13,(pP b1 1)),(14,(Value.string (Bm a))),(15,(Value.bool (decide (a<18446744073709551616)))),(16,(Value.bool (decide (a<18446744073709551616)))),(20,(Value.bool ((decide (a<18446744073709551616))&&(decide (b<18446744073709551616)))))]) (LM:=[Ag b3 42 (Ab 0),Ag b2 42 (Ab b),Ag b1 42 (Ab a)]) 4 ?_ ?_
 ·rcases Bool.eq_false_or_eq_true (decide (a<18446744073709551616)) with hg1|hg1
  ·skip
   refine AE.retell (k:=16) (u:=Value.bool true) O (by rw [hg1]) ?_
   have hg1':=hg1
   replace hg1':=of_decide_eq_true hg1'
   exact AE.step (v:=(pP b2 1)) (AB O) (AA O underlying42 O sizeOf9 O) O (AT O) (AE.step (v:=(Value.string (Bm b))) (AB O) (AK (i:=1) (v:=(Value.string (Bm b))) O O TQ.a O) O (AT O) (AE.step (v:=(Value.bool (decide (b<18446744073709551616)))) (AB O) (Bf (c:=(decide (b<18446744073709551616))) O O CY) O (AT O) (AH (v:=(Value.bool (decide (b<18446744073709551616)))) (Ac O O) O (AE.nil (AC.mid (sS O (sS O (sS O (sS O (sS O (sS O (sS (by first|rfl|(rw [hg1];rfl)|rw [hg1]) (sS (by first|rfl|(rw [hg1];rfl)|rw [hg1]) (sN))))))))) (List.Sublist.refl _))))))
  ·skip
   refine AE.retell (k:=16) (u:=Value.bool false) O (by rw [hg1]) ?_
   have hg1':=hg1
   replace hg1':=of_decide_eq_false hg1'
   exact AE.skip (AJ O) O (AT O) (AE.skip (AJ O) O (AT O) (AE.skip (AJ O) O (AT O) (AH (v:=(Value.bool false)) (AP O O) O (AE.nil (AC.mid (sS O (sS O (sS O (sS O (sS O (sS O (sS (by first|rfl|(rw [hg1];rfl)|rw [hg1]) (sS (by first|rfl|(rw [hg1];rfl)|rw [hg1]) (sN))))))))) (List.Sublist.refl _))))))
 refine AE.nil (AC.subF (sL [2,3,4,20] O) (AC.then_ ?_))
 refine AF.jn0 (tg True) (tg [(2,(pP b1 0)),(3,(pP b2 0)),(4,(pP b3 0))]) (tg [Ag b3 42 (Ab 0),Ag b2 42 (Ab b),Ag b1 42 (Ab a)]) ?_ ?_
 ·skip
  refine AF.cond O (λhc0=>?_) (λhc0=>?_)
  ·simp only [Bool.and_eq_true,Bool.or_eq_true,Bool.and_eq_false_iff,Bool.or_eq_false_iff,Bool.not_eq_true',Bool.not_eq_false',decide_eq_true_eq,decide_eq_false_iff_not] at hc0
   refine q4 (AH (v:=(pP b1 0)) (AA O underlying42 O sizeOf40 O) O (BA 2 (vK .u64 (B8 a)) Gd O (AE.retell (k:=23) (u:=(vK .u64 a)) O (by rw [Bh hc0.1]) (AH (v:=(pP b2 0)) (AA O underlying42 O sizeOf40 O) O (BA 1 (vK .u64 (B8 b)) Gd O ?_)))))
   refine AE.retell (k:=25) (u:=(vK .u64 b)) O (by rw [Bh hc0.2]) (AH (v:=(Value.tuple #[(vK .u64 ((a+b+0)%18446744073709551616)),(vK .u64 ((a+b+0)/18446744073709551616))])) (TR (args:=[(vK .u64 a),(vK .u64 b),(Value.int .u64 (0:Int))]) O O (λw=>Sw func172 (by kernel_rfl) (by kernel_rfl) (by kernel_rfl) (by kernel_rfl) a b 0 Z w)) O (AM O (AH (Aa (v:=(vK .u64 ((a+b+0)%18446744073709551616))) O O) O (AH (Aa (v:=(vK .u64 ((a+b+0)/18446744073709551616))) O O) O (asg' O ?_)))))
   refine asg' O (q3 (sL [2,3,4,5,6] O) (AM O (AH (BL (c:=(decide (((a+b+0)/18446744073709551616)=0))) O O (Iv (a:=(a+b+0)/18446744073709551616) (b:=0))) O (AE.nil (AC.subF (sL [2,3,4,5,30] O) ?_)))))
   refine AC.then_ ?_
   refine AF.cond O (λhc1=>?_) (λhc1=>?_)
   ·replace hc1:=of_decide_eq_true hc1
    refine q4 (AM O (AH (v:=(aG ([(vK .u64 ((a+b+0)%18446744073709551616)),(Value.string (Bm 0))]))) (AV (zs:=Ab 0) (vs:=[(vK .u64 ((a+b+0)%18446744073709551616)),(Value.string (Bm 0))]) (pv:=[(0,(vK .u64 ((a+b+0)%18446744073709551616)))]) (places:=[(0,1),(1,1)]) zeroValue42 underlying42 (λw=>by simp [sizeOf9,sizeOf40]) O O) O (AE.retell (k:=32) (u:=(aG (Ab (a+b)))) O (by rw [Do Z,show (a+b+0)%18446744073709551616=a+b by omega];rfl) (A8 O sizeOf42 O (AE.nil ?_)))))
    exact AC.subF (sL [2,3,4] O) (AC.then_ (AF.ret (AC.join0_ret (AC.then_ret (AI O (Ap (i:=0) (cs:=Ab (a+b)) O O isAgg42 sizeOf42 O) (λw hw=>⟨rfl,hw.out⟩))))))
   ·replace hc1:=of_decide_eq_false hc1
    exact AF.skip (AC.join0  (trivial) (sF O) sr)
  ·simp only [Bool.and_eq_true,Bool.or_eq_true,Bool.and_eq_false_iff,Bool.or_eq_false_iff,Bool.not_eq_true',Bool.not_eq_false',decide_eq_true_eq,decide_eq_false_iff_not] at hc0
   exact AF.skip (AC.join0  (trivial) (sF O) sr)
 ·intro hJ
  refine q1 (Cd [(0,true),(2,true),(1,false),(3,false),(4,true),(5,true)] sr (Da 2 B7 O (Da 1 B7 O (OkE.imp O (AE.callB (V:=λb4=>(Value.slice (some ⟨b4,0,none⟩) (nw a) ((BC a).length))) (T:=97) (cs:=Au (BC a)) (AS O) (Ao (args:=[(aG (Ab a))]) O O call111) (λw hw=>DQ a Z w) O (AT O) λb4=>?_)))))
  refine OkE.back (sl sr) (OkE.imp O (AE.callB (V:=λb5=>(Value.slice (some ⟨b5,0,none⟩) (nw b) ((BC b).length))) (T:=97) (cs:=Au (BC b)) (AS O) (Ao (args:=[(aG (Ab b))]) O O call111) (λw hw=>DQ b Z w) O (AT O) λb5=>OkE.back (sl (sl sr)) (pS' O (pS' O ?_))))
  refine OkE.nil (AC.subF (sL [2,3,4,7,8] O) (q1 (q4 (AM O (AH (v:=(vN (nw a))) (AG O underlying184) O ?_)))))
  refine AM O (AH (v:=(vN (nw b))) (AG O underlying184) O (AH (Ae (c:=(decide ((nw a)<(nw b)))) O O (CL (a:=nw a) (b:=nw b))) O (AE.nil (AC.subF (sL [2,3,4,7,8,41] O) (AC.then_ ?_)))))
  refine AF.cond O (λhc2=>?_) (λhc2=>?_)
  ·replace hc2:=of_decide_eq_true hc2
   refine AF.region (AM O (AM O (asg' O (asg' O (q3 (sL [2,3,4,7,8] O) ?_)))))
   refine AM O (AH (v:=(vN (nw b))) (AG O underlying184) O (AH (AW (c:=(((nw b)+1:Nat):Int)) O O (AU (a:=nw b) (b:=1) Z)) O (AE.openV (V:=λb6=>(Value.slice (some ⟨b6,0,none⟩) ((nw b)+1) ((nw b)+1))) (T:=97) (cs:=Au (List.replicate ((nw b)+1) 0)) (AS O) (DT (m:=(nw b)+1) (c:=(nw b)+1) O O Z Z) O (AT O) λb6=>asg' O (q3 (sL [2,3,4,7,8,9] O) ?_))))
   refine AM O (AM O (AE.copy_u32 (i:=0) (j:=1) (ns:=Au (AR b)) (cs':=Au (AR b++(List.replicate (nw b+1) 0).drop (AR b).length)) (L':=[Ag b6 97 (Au (AR b++(List.replicate (nw b+1) 0).drop (AR b).length)),Ag b5 97 (Au (BC b)),Ag b4 97 (Au (BC a)),Ag b3 42 (Ab 0),Ag b2 42 (Ab b),Ag b1 42 (Ab a)]) O (AS O) O O O O (by rw [MK,IJ]) (BS _) (Om _) Z (by rw [BS];simp;try omega) (OC _ _) O (AT O) (q3 (sL [2,3,4,7,8,9] O) (asg' O (AE.nil ?_)))))
   refine q1 (q4 (AM O (AH (v:=(vN ((nw b)+1))) (AG O underlying184) O (AM O (AE.nil ?_)))))
   refine AC.subF (sL [2,3,4,7,8,9,10,52,53] O) (AC.then_ (AF.block ?_))
   refine AF.lp3 (tg λ(i:Nat) (os:List Nat) (c:Nat)=>i<=nw b+1/\os.length=nw b+1/\W32 os/\c<=1/\val os+c*4294967296^i=b+val ((AR a).take i)) (tg λ(i:Nat) (os:List Nat) (c:Nat)=>[(4,(pP b3 0)),(8,(Value.slice (some ⟨b4,0,none⟩) (nw a) ((BC a).length))),(9,(Value.slice (some ⟨b6,0,none⟩) ((nw b)+1) ((nw b)+1))),(52,(vN ((nw b)+1))),(53,(vN i)),(10,(vK .u32 c))]) (tg λ(i:Nat) (os:List Nat) (c:Nat)=>[Ag b6 97 (Au os),Ag b5 97 (Au (BC b)),Ag b4 97 (Au (BC a)),Ag b3 42 (Ab 0),Ag b2 42 (Ab b),Ag b1 42 (Ab a)]) (tg λ(i:Nat) (os:List Nat) (c:Nat)=>nw b+1-i) 0 (AR b++(List.replicate (nw b+1) 0).drop (AR b).length) 0 (⟨Nat.zero_le _,(Fp b 1).1,(Fp b 1).2.1,Z,by rw [(Fp b 1).2.2];simp [val]⟩) (sF O) sr (λi os c hJ=>?_)
   obtain ⟨hi,hl,hw32,hcc,hv⟩:=hJ
   refine q4 (AH (Ae (c:=(decide (i<((nw b)+1)))) O O (CL (a:=i) (b:=(nw b)+1))) O (AE.nil (q1 ?_)))
   refine AF.cond O (λhc3=>?_) (λhc3=>?_)
   ·replace hc3:=of_decide_eq_true hc3
    refine AF.skip (q1 (AF.block (q4 (AM O (asg' O ?_)))))
    refine q3 (sL [4,8,9,52,53,10,11] O) (asg' O (AE.nil (q1 (q4 (AM O ?_)))))
    refine AM O (AH (v:=(vN (nw a))) (AG O underlying184) O (AH (Ae (c:=(decide (i<(nw a)))) O O (CL (a:=i) (b:=nw a))) O (AE.nil (AC.subF (sL [4,8,9,52,53,10,11,12,59] O) (AC.then_ ?_)))))
    refine AF.jn0 (tg True) (tg [(4,(pP b3 0)),(8,(Value.slice (some ⟨b4,0,none⟩) (nw a) ((BC a).length))),(9,(Value.slice (some ⟨b6,0,none⟩) ((nw b)+1) ((nw b)+1))),(52,(vN ((nw b)+1))),(53,(vN i)),(10,(vK .u32 c)),(11,(vN i)),(12,(vK .u32 ((AR a).getD i 0)))]) (tg [Ag b6 97 (Au os),Ag b5 97 (Au (BC b)),Ag b4 97 (Au (BC a)),Ag b3 42 (Ab 0),Ag b2 42 (Ab b),Ag b1 42 (Ab a)]) ?_ ?_
    ·skip
     refine AF.cond O (λhc4=>?_) (λhc4=>?_)
     ·replace hc4:=of_decide_eq_true hc4
      refine AF.region (AM O (AM O (AH (v:=(pP b4 i)) (AL (j:=i) O O underlying184 sizeOf97 O Z (by simp)) O ?_)))
      have hx1:(BC a).getD i 0<4294967296:=W32.getD (Cb a) i
      exact AH (AK (i:=2) (v:=(vK .u32 ((BC a).getD i 0))) O O isAgg97 (BK (xs:=BC a) (j:=i) Z)) O (AE.retell (k:=63) (u:=(vK .u32 ((AR a).getD i 0))) O (by rw [Dc hc4]) (asg' O (AE.nil (AC.subF (sL [4,8,9,52,53,10,11,12] O) (AC.join0  (trivial) (sF O) sr)))))
     ·replace hc4:=of_decide_eq_false hc4
      exact AF.skip (AC.retell (k:=12) (u:=Value.int .u32 (((AR a).getD i 0:Nat):Int)) O (by rw [Ee hc4];rfl) (AC.join0  (trivial) (sF O) sr))
    ·intro hJ
     refine AC.then_ (AF.region (AM O (AM O (AM O (AM O ?_)))))
     refine AH (v:=(pP b6 i)) (AL (j:=i) O O underlying184 sizeOf97 O Z (by simp)) O ?_
     have hx2:os.getD i 0<4294967296:=W32.getD hw32 i
     refine AH (AK (i:=0) (v:=(vK .u32 (os.getD i 0))) O O isAgg97 (BK (xs:=os) (j:=i) Z)) O (AM O (AM O ?_))
     have hya:=(Bu a).getD i
     have hyb:=(Bu b).getD i
     refine ck' call173 (Kc (os.getD i 0) ((AR a).getD i 0) c Z Z Z) O (AM O (AH (Aa (v:=(vK .u32 (((os.getD i 0)+((AR a).getD i 0)+c)%4294967296))) O O) O (AH (Aa (v:=(vK .u32 (((os.getD i 0)+((AR a).getD i 0)+c)/4294967296))) O O) O (AH (v:=(pP b6 i)) (AL (j:=i) O O underlying184 sizeOf97 O Z (by simp)) O (AE.store' (i:=0) (off:=i) (vs:=[(vK .u32 (((os.getD i 0)+((AR a).getD i 0)+c)%4294967296))]) (cs':=Au (os.set i (((os.getD i 0)+((AR a).getD i 0)+c)%4294967296))) (L':=[Ag b6 97 (Au (os.set i (((os.getD i 0)+((AR a).getD i 0)+c)%4294967296))),Ag b5 97 (Au (BC b)),Ag b4 97 (Au (BC a)),Ag b3 42 (Ab 0),Ag b2 42 (Ab b),Ag b1 42 (Ab a)]) (AS O) O O O O O sizeOf97 O (Cq (BS _) Z) (CN Z) O ?_)))))
     refine asg' O (AE.nil (AC.subF (sL [4,8,9,52,53,10,11,12] O) (AC.in_normal (AC.then_ (AF.region ?_)))))
     exact AH (AW (c:=((i+1:Nat):Int)) O O (AU (a:=i) (b:=1) Z)) O (AM O (AE.nil (AC.subF (sL [4,8,9,52,53,10,11,12] O) (AC.round3 (i+1) (os.set i ((os.getD i 0+(AR a).getD i 0+c)%4294967296)) ((os.getD i 0+(AR a).getD i 0+c)/4294967296) (⟨Z,by rw [List.length_set];exact hl,W32.set hw32 Z i,Z,PJ hl hc3 hv⟩) Z (sF O) sr))))
   ·replace hc3:=of_decide_eq_false hc3
    refine AF.exit (AC.then_exit (AC.round3_exit (AC.in_exit (q2 (AM O ?_)))))
    refine Cj call110 (λw hw=>JM _ ((nw b)+1) ((nw b)+1) os hw32 (by first|omega|(rw [rowN_length];omega)|simp|(simp;omega)) (by first|omega|simp|(simp;omega)) (by first|omega|simp|(simp;omega)) w (hw.get (i:=0) O)) O (AE.retell (k:=79) (u:=(aG (Ab (a+b)))) O (by rw [List.take_of_length_le (show os.length<=nw b+1 by omega),N8 (X:=b) (Y:=a) (c:=c) (i:=i) hl hw32 Z (Ue Z) (by rw [hv,DS Z]),Nat.add_comm]) (JP O sizeOf42 O (AE.nil (AC.subF (sL [4,8,9,52,53,10] O) (AC.then_ ?_)))))
    exact AF.ret (AI O (Ap (i:=3) (cs:=Ab (a+b)) O O isAgg42 sizeOf42 O) (λw hw=>⟨rfl,hw.out⟩))
  ·replace hc2:=of_decide_eq_false hc2
   refine AF.skip (q2 (AM O (AH (v:=(vN (nw a))) (AG O underlying184) O (AH (AW (c:=(((nw a)+1:Nat):Int)) O O (AU (a:=nw a) (b:=1) Z)) O (AE.openV (V:=λb6=>(Value.slice (some ⟨b6,0,none⟩) ((nw a)+1) ((nw a)+1))) (T:=97) (cs:=Au (List.replicate ((nw a)+1) 0)) (AS O) (DT (m:=(nw a)+1) (c:=(nw a)+1) O O Z Z) O (AT O) λb6=>?_)))))
   refine asg' O (q3 (sL [2,3,4,7,8,9] O) (AM O (AM O (AE.copy_u32 (i:=0) (j:=2) (ns:=Au (AR a)) (cs':=Au (AR a++(List.replicate (nw a+1) 0).drop (AR a).length)) (L':=[Ag b6 97 (Au (AR a++(List.replicate (nw a+1) 0).drop (AR a).length)),Ag b5 97 (Au (BC b)),Ag b4 97 (Au (BC a)),Ag b3 42 (Ab 0),Ag b2 42 (Ab b),Ag b1 42 (Ab a)]) O (AS O) O O O O (by rw [MK,IJ]) (BS _) (Om _) Z (by rw [BS];simp;try omega) (OC _ _) O (AT O) (q3 (sL [2,3,4,7,8,9] O) ?_)))))
   refine asg' O (AE.nil (q1 (q4 (AM O (AH (v:=(vN ((nw a)+1))) (AG O underlying184) O ?_)))))
   refine AM O (AE.nil (AC.subF (sL [2,3,4,7,8,9,10,52,53] O) (AC.then_ (AF.block ?_))))
   refine AF.lp3 (tg λ(i:Nat) (os:List Nat) (c:Nat)=>i<=nw a+1/\os.length=nw a+1/\W32 os/\c<=1/\val os+c*4294967296^i=a+val ((AR b).take i)) (tg λ(i:Nat) (os:List Nat) (c:Nat)=>[(4,(pP b3 0)),(8,(Value.slice (some ⟨b5,0,none⟩) (nw b) ((BC b).length))),(9,(Value.slice (some ⟨b6,0,none⟩) ((nw a)+1) ((nw a)+1))),(52,(vN ((nw a)+1))),(53,(vN i)),(10,(vK .u32 c))]) (tg λ(i:Nat) (os:List Nat) (c:Nat)=>[Ag b6 97 (Au os),Ag b5 97 (Au (BC b)),Ag b4 97 (Au (BC a)),Ag b3 42 (Ab 0),Ag b2 42 (Ab b),Ag b1 42 (Ab a)]) (tg λ(i:Nat) (os:List Nat) (c:Nat)=>nw a+1-i) 0 (AR a++(List.replicate (nw a+1) 0).drop (AR a).length) 0 (⟨Nat.zero_le _,(Fp a 1).1,(Fp a 1).2.1,Z,by rw [(Fp a 1).2.2];simp [val]⟩) (sF O) sr (λi os c hJ=>?_)
   obtain ⟨hi,hl,hw32,hcc,hv⟩:=hJ
   refine q4 (AH (Ae (c:=(decide (i<((nw a)+1)))) O O (CL (a:=i) (b:=(nw a)+1))) O (AE.nil (q1 ?_)))
   refine AF.cond O (λhc3=>?_) (λhc3=>?_)
   ·replace hc3:=of_decide_eq_true hc3
    refine AF.skip (q1 (AF.block (q4 (AM O (asg' O ?_)))))
    refine q3 (sL [4,8,9,52,53,10,11] O) (asg' O (AE.nil (q1 (q4 (AM O ?_)))))
    refine AM O (AH (v:=(vN (nw b))) (AG O underlying184) O (AH (Ae (c:=(decide (i<(nw b)))) O O (CL (a:=i) (b:=nw b))) O (AE.nil (AC.subF (sL [4,8,9,52,53,10,11,12,59] O) (AC.then_ ?_)))))
    refine AF.jn0 (tg True) (tg [(4,(pP b3 0)),(8,(Value.slice (some ⟨b5,0,none⟩) (nw b) ((BC b).length))),(9,(Value.slice (some ⟨b6,0,none⟩) ((nw a)+1) ((nw a)+1))),(52,(vN ((nw a)+1))),(53,(vN i)),(10,(vK .u32 c)),(11,(vN i)),(12,(vK .u32 ((AR b).getD i 0)))]) (tg [Ag b6 97 (Au os),Ag b5 97 (Au (BC b)),Ag b4 97 (Au (BC a)),Ag b3 42 (Ab 0),Ag b2 42 (Ab b),Ag b1 42 (Ab a)]) ?_ ?_
    ·skip
     refine AF.cond O (λhc4=>?_) (λhc4=>?_)
     ·replace hc4:=of_decide_eq_true hc4
      refine AF.region (AM O (AM O (AH (v:=(pP b5 i)) (AL (j:=i) O O underlying184 sizeOf97 O Z (by simp)) O ?_)))
      have hx3:(BC b).getD i 0<4294967296:=W32.getD (Cb b) i
      exact AH (AK (i:=1) (v:=(vK .u32 ((BC b).getD i 0))) O O isAgg97 (BK (xs:=BC b) (j:=i) Z)) O (AE.retell (k:=63) (u:=(vK .u32 ((AR b).getD i 0))) O (by rw [Dc hc4]) (asg' O (AE.nil (AC.subF (sL [4,8,9,52,53,10,11,12] O) (AC.join0  (trivial) (sF O) sr)))))
     ·replace hc4:=of_decide_eq_false hc4
      exact AF.skip (AC.retell (k:=12) (u:=Value.int .u32 (((AR b).getD i 0:Nat):Int)) O (by rw [Ee hc4];rfl) (AC.join0  (trivial) (sF O) sr))
    ·intro hJ
     refine AC.then_ (AF.region (AM O (AM O (AM O (AM O ?_)))))
     refine AH (v:=(pP b6 i)) (AL (j:=i) O O underlying184 sizeOf97 O Z (by simp)) O ?_
     have hx4:os.getD i 0<4294967296:=W32.getD hw32 i
     refine AH (AK (i:=0) (v:=(vK .u32 (os.getD i 0))) O O isAgg97 (BK (xs:=os) (j:=i) Z)) O (AM O (AM O ?_))
     have hya:=(Bu a).getD i
     have hyb:=(Bu b).getD i
     refine ck' call173 (Kc (os.getD i 0) ((AR b).getD i 0) c Z Z Z) O (AM O (AH (Aa (v:=(vK .u32 (((os.getD i 0)+((AR b).getD i 0)+c)%4294967296))) O O) O (AH (Aa (v:=(vK .u32 (((os.getD i 0)+((AR b).getD i 0)+c)/4294967296))) O O) O (AH (v:=(pP b6 i)) (AL (j:=i) O O underlying184 sizeOf97 O Z (by simp)) O (AE.store' (i:=0) (off:=i) (vs:=[(vK .u32 (((os.getD i 0)+((AR b).getD i 0)+c)%4294967296))]) (cs':=Au (os.set i (((os.getD i 0)+((AR b).getD i 0)+c)%4294967296))) (L':=[Ag b6 97 (Au (os.set i (((os.getD i 0)+((AR b).getD i 0)+c)%4294967296))),Ag b5 97 (Au (BC b)),Ag b4 97 (Au (BC a)),Ag b3 42 (Ab 0),Ag b2 42 (Ab b),Ag b1 42 (Ab a)]) (AS O) O O O O O sizeOf97 O (Cq (BS _) Z) (CN Z) O ?_)))))
     refine asg' O (AE.nil (AC.subF (sL [4,8,9,52,53,10,11,12] O) (AC.in_normal (AC.then_ (AF.region ?_)))))
     exact AH (AW (c:=((i+1:Nat):Int)) O O (AU (a:=i) (b:=1) Z)) O (AM O (AE.nil (AC.subF (sL [4,8,9,52,53,10,11,12] O) (AC.round3 (i+1) (os.set i ((os.getD i 0+(AR b).getD i 0+c)%4294967296)) ((os.getD i 0+(AR b).getD i 0+c)/4294967296) (⟨Z,by rw [List.length_set];exact hl,W32.set hw32 Z i,Z,PJ hl hc3 hv⟩) Z (sF O) sr))))
   ·replace hc3:=of_decide_eq_false hc3
    refine AF.exit (AC.then_exit (AC.round3_exit (AC.in_exit (q2 (AM O ?_)))))
    refine Cj call110 (λw hw=>JM _ ((nw a)+1) ((nw a)+1) os hw32 (by first|omega|(rw [rowN_length];omega)|simp|(simp;omega)) (by first|omega|simp|(simp;omega)) (by first|omega|simp|(simp;omega)) w (hw.get (i:=0) O)) O (AE.retell (k:=79) (u:=(aG (Ab (a+b)))) O (by rw [List.take_of_length_le (show os.length<=nw a+1 by omega),N8 (X:=a) (Y:=b) (c:=c) (i:=i) hl hw32 Z (Ue Z) (by rw [hv,DS Z])]) (JP O sizeOf42 O (AE.nil (AC.subF (sL [4,8,9,52,53,10] O) (AC.then_ ?_)))))
    exact AF.ret (AI O (Ap (i:=3) (cs:=Ab (a+b)) O O isAgg42 sizeOf42 O) (λw hw=>⟨rfl,hw.out⟩))
end
end Go.Proofs.YtpgncndhhhllfaaGreatDoor
