import Derived.Test.YtpgncndhhhllfaaGreatDoorPart06
import Derived.Test.YtpgncndhhhllfaaGreatDoorPart11
namespace Go.Proofs.YtpgncndhhhllfaaGreatDoor
open Go Go.RowKit Go.Proofs.Tryz
set_option linter.unusedVariables false
set_option linter.unusedSimpArgs false
section
set_option maxRecDepth 100000
theorem TU (a b:Nat) (ha:nw a<=1099511627776) (hb:nw b<=1099511627776) (w:World)  :Calls Tryz.prog 168 #[(aG (Aa a)),(aG (Aa b))] w (An w (vI (Cy a b))):=by
 refine Ag (args:=[(aG (Aa a)),(aG (Aa b))]) Tryz.func168 rfl rfl (AY rfl) (AF.subF (sL [0,1] rfl) (q4 (B9 (cs:=Aa a) rfl λb1=>B9 (cs:=Aa b) rfl λb2=>asg' rfl ?_)))
 refine q6 (sL [2,3,4] rfl) (q4 (AH (v:=(pP b1 1)) (AA rfl Tryz.underlying42 rfl Tryz.sizeOf9 rfl) rfl (BD 1 (Value.string (BW a)) RJ rfl (AH (Ba (c:=(decide (a<18446744073709551616))) rfl rfl CI) rfl (AJ rfl ?_)))))
 refine AD.mid (FM:=[(2,(pP b1 0)),(3,(pP b2 0)),(4,(vI 0)),(5,(pP b1 1)),(6,(Value.string (BW a))),(7,(Value.bool (decide (a<18446744073709551616)))),(8,(Value.bool (decide (a<18446744073709551616)))),(12,(Value.bool ((decide (a<18446744073709551616))&&(decide (b<18446744073709551616)))))]) (LM:=[Ab b2 42 (Aa b),Ab b1 42 (Aa a)]) 4 ?_ ?_
 ·rcases Bool.eq_false_or_eq_true (decide (a<18446744073709551616)) with hg1|hg1
  ·skip
   refine AD.retell (k:=8) (u:=Value.bool true) rfl (by rw [hg1]) ?_
   have hg1':=hg1
   replace hg1':=of_decide_eq_true hg1'
   exact AD.step (v:=(pP b2 1)) (AB rfl) (AA rfl Tryz.underlying42 rfl Tryz.sizeOf9 rfl) rfl (AY rfl) (AD.step (v:=(Value.string (BW b))) (AB rfl) (AP (i:=0) (v:=(Value.string (BW b))) rfl rfl RJ.a rfl) rfl (AY rfl) (AD.step (v:=(Value.bool (decide (b<18446744073709551616)))) (AB rfl) (Ba (c:=(decide (b<18446744073709551616))) rfl rfl CI) rfl (AY rfl) (AH (v:=(Value.bool (decide (b<18446744073709551616)))) (AT rfl rfl) rfl (AD.nil (AC.mid (sS rfl (sS rfl (sS rfl (sS rfl (sS rfl (sS rfl (sS (by first|rfl|(rw [hg1];rfl)|rw [hg1]) (sS (by first|rfl|(rw [hg1];rfl)|rw [hg1]) (sN))))))))) (List.Sublist.refl _))))))
  ·skip
   refine AD.retell (k:=8) (u:=Value.bool false) rfl (by rw [hg1]) ?_
   have hg1':=hg1
   replace hg1':=of_decide_eq_false hg1'
   exact AD.skip (AG rfl) rfl (AY rfl) (AD.skip (AG rfl) rfl (AY rfl) (AD.skip (AG rfl) rfl (AY rfl) (AH (v:=(Value.bool false)) (AV rfl rfl) rfl (AD.nil (AC.mid (sS rfl (sS rfl (sS rfl (sS rfl (sS rfl (sS rfl (sS (by first|rfl|(rw [hg1];rfl)|rw [hg1]) (sS (by first|rfl|(rw [hg1];rfl)|rw [hg1]) (sN))))))))) (List.Sublist.refl _))))))
 refine AD.nil (AC.subF (sL [2,3,4,12] rfl) (AC.then_ ?_))
 refine AF.jn0 (tg True) (tg [(2,(pP b1 0)),(3,(pP b2 0))]) (tg [Ab b2 42 (Aa b),Ab b1 42 (Aa a)]) ?_ ?_
 ·skip
  refine AF.cond rfl (λhc0=>?_) (λhc0=>?_)
  ·simp only [Bool.and_eq_true,Bool.or_eq_true,Bool.and_eq_false_iff,Bool.or_eq_false_iff,Bool.not_eq_true',Bool.not_eq_false',decide_eq_true_eq,decide_eq_false_iff_not] at hc0
   refine AF.seq (AF.block (q4 (AH (v:=(pP b1 0)) (AA rfl Tryz.underlying42 rfl Tryz.sizeOf40 rfl) rfl (BD 1 (vK .u64 (Bq a)) F1 rfl (AD.retell (k:=15) (u:=(vK .u64 a)) rfl (by rw [BU hc0.1]) ?_)))))
   refine AH (v:=(pP b2 0)) (AA rfl Tryz.underlying42 rfl Tryz.sizeOf40 rfl) rfl (BD 0 (vK .u64 (Bq b)) F1 rfl (AD.retell (k:=17) (u:=(vK .u64 b)) rfl (by rw [BU hc0.2]) (AH (Ad (c:=(decide (a<b))) rfl rfl (CB (a:=a) (b:=b))) rfl (asg' rfl (AD.nil ?_)))))
   refine AC.subF (sL [2,3,4,13] rfl) (AC.then_ ?_)
   refine AF.cond rfl (λhc1=>?_) (λhc1=>?_)
   ·replace hc1:=of_decide_eq_true hc1
    have hz:Cy a b = -1:=if_pos hc1
    refine q4 (asg' rfl (AD.nil (AC.then_ (AF.ret (AC.in_ret ?_)))))
    exact AC.then_ret (AC.join0_ret (AC.then_ret (AN rfl (AQ (v:=(vI (-1:Int))) rfl) (λw hw=>⟨by rw [hz],hw.out⟩))))
   ·replace hc1:=of_decide_eq_false hc1
    refine q4 (AH (v:=(pP b1 0)) (AA rfl Tryz.underlying42 rfl Tryz.sizeOf40 rfl) rfl (BD 1 (vK .u64 (Bq a)) F1 rfl (AD.retell (k:=21) (u:=(vK .u64 a)) rfl (by rw [BU hc0.1]) (AH (v:=(pP b2 0)) (AA rfl Tryz.underlying42 rfl Tryz.sizeOf40 rfl) rfl (BD 0 (vK .u64 (Bq b)) F1 rfl ?_)))))
    refine AD.retell (k:=23) (u:=(vK .u64 b)) rfl (by rw [BU hc0.2]) (AH (Bg (c:=(decide (b<a))) rfl rfl (CB (a:=b) (b:=a))) rfl (asg' rfl (AD.nil (AC.subF (sL [2,3,4,19] rfl) (AC.then_ ?_)))))
    refine AF.cond rfl (λhc2=>?_) (λhc2=>?_)
    ·replace hc2:=of_decide_eq_true hc2
     have hz:Cy a b=1:=by unfold Cy;rw [if_neg (by omega),if_neg (by omega)]
     refine q4 (asg' rfl (AD.nil (AC.then_ (AF.ret (AC.in_ret ?_)))))
     exact AC.then_ret (AC.join0_ret (AC.then_ret (AN rfl (AQ (v:=(vI 1)) rfl) (λw hw=>⟨by rw [hz],hw.out⟩))))
    ·replace hc2:=of_decide_eq_false hc2
     have hz:Cy a b=0:=Li.2 (by omega)
     refine AF.skip (AC.in_normal (q2 (asg' rfl (AD.nil (AC.then_ ?_)))))
     exact AF.ret (AC.join0_ret (AC.then_ret (AN rfl (AQ (v:=(vI 0)) rfl) (λw hw=>⟨by rw [hz],hw.out⟩))))
  ·simp only [Bool.and_eq_true,Bool.or_eq_true,Bool.and_eq_false_iff,Bool.or_eq_false_iff,Bool.not_eq_true',Bool.not_eq_false',decide_eq_true_eq,decide_eq_false_iff_not] at hc0
   exact AF.skip (AC.join0  (trivial) (sF rfl) sr)
 ·intro hJ
  refine q1 (Cw [(0,true),(2,true),(1,false),(3,false),(4,false),(5,true)] sr (GO 1 CT rfl (GO 0 CT rfl (OkE.imp rfl (AD.callB (V:=λb3=>(Value.slice (some ⟨b3,0,none⟩) (nw a) ((Ao a).length))) (T:=97) (cs:=Aj (Ao a)) (AO rfl) (Ay (args:=[(aG (Aa a))]) rfl rfl Tryz.call111) (λw hw=>Cn a (by omega) w) rfl (AY rfl) λb3=>?_)))))
  refine OkE.back (sl sr) (OkE.imp rfl (AD.callB (V:=λb4=>(Value.slice (some ⟨b4,0,none⟩) (nw b) ((Ao b).length))) (T:=97) (cs:=Aj (Ao b)) (AO rfl) (Ay (args:=[(aG (Aa b))]) rfl rfl Tryz.call111) (λw hw=>Cn b (by omega) w) rfl (AY rfl) λb4=>OkE.back (sl (sl sr)) (OkE.imp rfl (DC Tryz.call218 (λw hw=>WL a b _ _ _ _ (by omega) (by omega) w (hw.get (i:=1) rfl) (hw.get (i:=0) rfl)) rfl ?_))))
  exact OkE.back (sl (sl sr)) (pS' rfl (OkE.nil (AC.subF (sL [2,3,4] rfl) (AC.then_ (AF.ret (AN rfl (AQ (v:=(vI (Cy a b))) rfl) (λw hw=>⟨rfl,hw.out⟩)))))))
theorem Vy (a b:Nat) (ha:nw a<=1099511627776) (hb:nw b<=1099511627776) (w:World)  :Calls Tryz.prog 107 #[(aG (Aa a)),(aG (Aa b))] w (An w (aG (Aa (a+b)))):=by
 have hla:=B5 a
 have hlb:=B5 b
 refine Ag (args:=[(aG (Aa a)),(aG (Aa b))]) Tryz.func107 rfl rfl (AY rfl) (AF.subF (sL [0,1] rfl) (q4 (B9 (cs:=Aa a) rfl λb1=>B9 (cs:=Aa b) rfl λb2=>al F3 rfl λb3=>?_)))
 refine q6 (sL [2,3,4] rfl) (q4 (AH (v:=(pP b1 1)) (AA rfl Tryz.underlying42 rfl Tryz.sizeOf9 rfl) rfl (BD 2 (Value.string (BW a)) RJ rfl (AH (Ba (c:=(decide (a<18446744073709551616))) rfl rfl CI) rfl (AJ rfl ?_)))))
 refine AD.mid (FM:=[(2,(pP b1 0)),(3,(pP b2 0)),(4,(pP b3 0)),(13,(pP b1 1)),(14,(Value.string (BW a))),(15,(Value.bool (decide (a<18446744073709551616)))),(16,(Value.bool (decide (a<18446744073709551616)))),(20,(Value.bool ((decide (a<18446744073709551616))&&(decide (b<18446744073709551616)))))]) (LM:=[Ab b3 42 (Aa 0),Ab b2 42 (Aa b),Ab b1 42 (Aa a)]) 4 ?_ ?_
 ·rcases Bool.eq_false_or_eq_true (decide (a<18446744073709551616)) with hg1|hg1
  ·skip
   refine AD.retell (k:=16) (u:=Value.bool true) rfl (by rw [hg1]) ?_
   have hg1':=hg1
   replace hg1':=of_decide_eq_true hg1'
   exact AD.step (v:=(pP b2 1)) (AB rfl) (AA rfl Tryz.underlying42 rfl Tryz.sizeOf9 rfl) rfl (AY rfl) (AD.step (v:=(Value.string (BW b))) (AB rfl) (AP (i:=1) (v:=(Value.string (BW b))) rfl rfl RJ.a rfl) rfl (AY rfl) (AD.step (v:=(Value.bool (decide (b<18446744073709551616)))) (AB rfl) (Ba (c:=(decide (b<18446744073709551616))) rfl rfl CI) rfl (AY rfl) (AH (v:=(Value.bool (decide (b<18446744073709551616)))) (AT rfl rfl) rfl (AD.nil (AC.mid (sS rfl (sS rfl (sS rfl (sS rfl (sS rfl (sS rfl (sS (by first|rfl|(rw [hg1];rfl)|rw [hg1]) (sS (by first|rfl|(rw [hg1];rfl)|rw [hg1]) (sN))))))))) (List.Sublist.refl _))))))
  ·skip
   refine AD.retell (k:=16) (u:=Value.bool false) rfl (by rw [hg1]) ?_
   have hg1':=hg1
   replace hg1':=of_decide_eq_false hg1'
   exact AD.skip (AG rfl) rfl (AY rfl) (AD.skip (AG rfl) rfl (AY rfl) (AD.skip (AG rfl) rfl (AY rfl) (AH (v:=(Value.bool false)) (AV rfl rfl) rfl (AD.nil (AC.mid (sS rfl (sS rfl (sS rfl (sS rfl (sS rfl (sS rfl (sS (by first|rfl|(rw [hg1];rfl)|rw [hg1]) (sS (by first|rfl|(rw [hg1];rfl)|rw [hg1]) (sN))))))))) (List.Sublist.refl _))))))
 refine AD.nil (AC.subF (sL [2,3,4,20] rfl) (AC.then_ ?_))
 refine AF.jn0 (tg True) (tg [(2,(pP b1 0)),(3,(pP b2 0)),(4,(pP b3 0))]) (tg [Ab b3 42 (Aa 0),Ab b2 42 (Aa b),Ab b1 42 (Aa a)]) ?_ ?_
 ·skip
  refine AF.cond rfl (λhc0=>?_) (λhc0=>?_)
  ·simp only [Bool.and_eq_true,Bool.or_eq_true,Bool.and_eq_false_iff,Bool.or_eq_false_iff,Bool.not_eq_true',Bool.not_eq_false',decide_eq_true_eq,decide_eq_false_iff_not] at hc0
   refine q4 (AH (v:=(pP b1 0)) (AA rfl Tryz.underlying42 rfl Tryz.sizeOf40 rfl) rfl (BD 2 (vK .u64 (Bq a)) F1 rfl (AD.retell (k:=23) (u:=(vK .u64 a)) rfl (by rw [BU hc0.1]) (AH (v:=(pP b2 0)) (AA rfl Tryz.underlying42 rfl Tryz.sizeOf40 rfl) rfl (BD 1 (vK .u64 (Bq b)) F1 rfl ?_)))))
   refine AD.retell (k:=25) (u:=(vK .u64 b)) rfl (by rw [BU hc0.2]) (AH (v:=(Value.tuple #[(vK .u64 ((a+b+0)%18446744073709551616)),(vK .u64 ((a+b+0)/18446744073709551616))])) (QK (args:=[(vK .u64 a),(vK .u64 b),(Value.int .u64 (0:Int))]) rfl rfl (λw=>Py Tryz.func172 (by kernel_rfl) (by kernel_rfl) (by kernel_rfl) (by kernel_rfl) a b 0 (by omega) w)) rfl (AJ rfl (AH (AS (v:=(vK .u64 ((a+b+0)%18446744073709551616))) rfl rfl) rfl (AH (AS (v:=(vK .u64 ((a+b+0)/18446744073709551616))) rfl rfl) rfl (asg' rfl ?_)))))
   refine asg' rfl (q3 (sL [2,3,4,5,6] rfl) (AJ rfl (AH (BJ (c:=(decide (((a+b+0)/18446744073709551616)=0))) rfl rfl (RG (a:=(a+b+0)/18446744073709551616) (b:=0))) rfl (AD.nil (AC.subF (sL [2,3,4,5,30] rfl) ?_)))))
   refine AC.then_ ?_
   refine AF.cond rfl (λhc1=>?_) (λhc1=>?_)
   ·replace hc1:=of_decide_eq_true hc1
    refine q4 (AJ rfl (AH (v:=(aG ([(vK .u64 ((a+b+0)%18446744073709551616)),(Value.string (BW 0))]))) (AU (zs:=Aa 0) (vs:=[(vK .u64 ((a+b+0)%18446744073709551616)),(Value.string (BW 0))]) (pv:=[(0,(vK .u64 ((a+b+0)%18446744073709551616)))]) (places:=[(0,1),(1,1)]) Tryz.zeroValue42 Tryz.underlying42 (λw=>by simp [Tryz.sizeOf9,Tryz.sizeOf40]) rfl rfl) rfl (AD.retell (k:=32) (u:=(aG (Aa (a+b)))) rfl (by rw [DB (by omega),show (a+b+0)%18446744073709551616=a+b by omega];rfl) (BC rfl Tryz.sizeOf42 rfl (AD.nil ?_)))))
    exact AC.subF (sL [2,3,4] rfl) (AC.then_ (AF.ret (AC.join0_ret (AC.then_ret (AN rfl (BB (i:=0) (cs:=Aa (a+b)) rfl rfl Tryz.isAgg42 Tryz.sizeOf42 rfl) (λw hw=>⟨rfl,hw.out⟩))))))
   ·replace hc1:=of_decide_eq_false hc1
    exact AF.skip (AC.join0  (trivial) (sF rfl) sr)
  ·simp only [Bool.and_eq_true,Bool.or_eq_true,Bool.and_eq_false_iff,Bool.or_eq_false_iff,Bool.not_eq_true',Bool.not_eq_false',decide_eq_true_eq,decide_eq_false_iff_not] at hc0
   exact AF.skip (AC.join0  (trivial) (sF rfl) sr)
 ·intro hJ
  refine q1 (Cw [(0,true),(2,true),(1,false),(3,false),(4,true),(5,true)] sr (GO 2 CT rfl (GO 1 CT rfl (OkE.imp rfl (AD.callB (V:=λb4=>(Value.slice (some ⟨b4,0,none⟩) (nw a) ((Ao a).length))) (T:=97) (cs:=Aj (Ao a)) (AO rfl) (Ay (args:=[(aG (Aa a))]) rfl rfl Tryz.call111) (λw hw=>Cn a (by omega) w) rfl (AY rfl) λb4=>?_)))))
  refine OkE.back (sl sr) (OkE.imp rfl (AD.callB (V:=λb5=>(Value.slice (some ⟨b5,0,none⟩) (nw b) ((Ao b).length))) (T:=97) (cs:=Aj (Ao b)) (AO rfl) (Ay (args:=[(aG (Aa b))]) rfl rfl Tryz.call111) (λw hw=>Cn b (by omega) w) rfl (AY rfl) λb5=>OkE.back (sl (sl sr)) (pS' rfl (pS' rfl ?_))))
  refine OkE.nil (AC.subF (sL [2,3,4,7,8] rfl) (q1 (q4 (AJ rfl (AH (v:=(vN (nw a))) (AE rfl Tryz.underlying184) rfl ?_)))))
  refine AJ rfl (AH (v:=(vN (nw b))) (AE rfl Tryz.underlying184) rfl (AH (Ad (c:=(decide ((nw a)<(nw b)))) rfl rfl (CB (a:=nw a) (b:=nw b))) rfl (AD.nil (AC.subF (sL [2,3,4,7,8,41] rfl) (AC.then_ ?_)))))
  refine AF.cond rfl (λhc2=>?_) (λhc2=>?_)
  ·replace hc2:=of_decide_eq_true hc2
   refine AF.region (AJ rfl (AJ rfl (asg' rfl (asg' rfl (q3 (sL [2,3,4,7,8] rfl) ?_)))))
   refine AJ rfl (AH (v:=(vN (nw b))) (AE rfl Tryz.underlying184) rfl (AH (AW (c:=(((nw b)+1:Nat):Int)) rfl rfl (AR (a:=nw b) (b:=1) (by omega))) rfl (AD.openV (V:=λb6=>(Value.slice (some ⟨b6,0,none⟩) ((nw b)+1) ((nw b)+1))) (T:=97) (cs:=Aj (List.replicate ((nw b)+1) 0)) (AO rfl) (Cp (m:=(nw b)+1) (c:=(nw b)+1) rfl rfl (by omega) (by omega)) rfl (AY rfl) λb6=>asg' rfl (q3 (sL [2,3,4,7,8,9] rfl) ?_))))
   refine AJ rfl (AJ rfl (AD.copy_u32 (i:=0) (j:=1) (ns:=Aj (AM b)) (cs':=Aj (AM b++(List.replicate (nw b+1) 0).drop (AM b).length)) (L':=[Ab b6 97 (Aj (AM b++(List.replicate (nw b+1) 0).drop (AM b).length)),Ab b5 97 (Aj (Ao b)),Ab b4 97 (Aj (Ao a)),Ab b3 42 (Aa 0),Ab b2 42 (Aa b),Ab b1 42 (Aa a)]) rfl (AO rfl) rfl rfl rfl rfl (by rw [Kf,Gw]) (BG _) (Mm _) (by omega) (by rw [BG];simp;try omega) (Mn _ _) rfl (AY rfl) (q3 (sL [2,3,4,7,8,9] rfl) (asg' rfl (AD.nil ?_)))))
   refine q1 (q4 (AJ rfl (AH (v:=(vN ((nw b)+1))) (AE rfl Tryz.underlying184) rfl (AJ rfl (AD.nil ?_)))))
   refine AC.subF (sL [2,3,4,7,8,9,10,52,53] rfl) (AC.then_ (AF.block ?_))
   refine AF.lp3 (tg λ(i:Nat) (os:List Nat) (c:Nat)=>i<=nw b+1/\os.length=nw b+1/\W32 os/\c<=1/\val os+c*4294967296^i=b+val ((AM a).take i)) (tg λ(i:Nat) (os:List Nat) (c:Nat)=>[(4,(pP b3 0)),(8,(Value.slice (some ⟨b4,0,none⟩) (nw a) ((Ao a).length))),(9,(Value.slice (some ⟨b6,0,none⟩) ((nw b)+1) ((nw b)+1))),(52,(vN ((nw b)+1))),(53,(vN i)),(10,(vK .u32 c))]) (tg λ(i:Nat) (os:List Nat) (c:Nat)=>[Ab b6 97 (Aj os),Ab b5 97 (Aj (Ao b)),Ab b4 97 (Aj (Ao a)),Ab b3 42 (Aa 0),Ab b2 42 (Aa b),Ab b1 42 (Aa a)]) (tg λ(i:Nat) (os:List Nat) (c:Nat)=>nw b+1-i) 0 (AM b++(List.replicate (nw b+1) 0).drop (AM b).length) 0 (⟨Nat.zero_le _,(Ew b 1).1,(Ew b 1).2.1,by omega,by rw [(Ew b 1).2.2];simp [val]⟩) (sF rfl) sr (λi os c hJ=>?_)
   obtain ⟨hi,hl,hw32,hcc,hv⟩:=hJ
   refine q4 (AH (Ad (c:=(decide (i<((nw b)+1)))) rfl rfl (CB (a:=i) (b:=(nw b)+1))) rfl (AD.nil (q1 ?_)))
   refine AF.cond rfl (λhc3=>?_) (λhc3=>?_)
   ·replace hc3:=of_decide_eq_true hc3
    refine AF.skip (q1 (AF.block (q4 (AJ rfl (asg' rfl ?_)))))
    refine q3 (sL [4,8,9,52,53,10,11] rfl) (asg' rfl (AD.nil (q1 (q4 (AJ rfl ?_)))))
    refine AJ rfl (AH (v:=(vN (nw a))) (AE rfl Tryz.underlying184) rfl (AH (Ad (c:=(decide (i<(nw a)))) rfl rfl (CB (a:=i) (b:=nw a))) rfl (AD.nil (AC.subF (sL [4,8,9,52,53,10,11,12,59] rfl) (AC.then_ ?_)))))
    refine AF.jn0 (tg True) (tg [(4,(pP b3 0)),(8,(Value.slice (some ⟨b4,0,none⟩) (nw a) ((Ao a).length))),(9,(Value.slice (some ⟨b6,0,none⟩) ((nw b)+1) ((nw b)+1))),(52,(vN ((nw b)+1))),(53,(vN i)),(10,(vK .u32 c)),(11,(vN i)),(12,(vK .u32 ((AM a).getD i 0)))]) (tg [Ab b6 97 (Aj os),Ab b5 97 (Aj (Ao b)),Ab b4 97 (Aj (Ao a)),Ab b3 42 (Aa 0),Ab b2 42 (Aa b),Ab b1 42 (Aa a)]) ?_ ?_
    ·skip
     refine AF.cond rfl (λhc4=>?_) (λhc4=>?_)
     ·replace hc4:=of_decide_eq_true hc4
      refine AF.region (AJ rfl (AJ rfl (AH (v:=(pP b4 i)) (AK (j:=i) rfl rfl Tryz.underlying184 Tryz.sizeOf97 rfl (by omega) (by simp)) rfl ?_)))
      have hx1:(Ao a).getD i 0<4294967296:=W32.getD (B6 a) i
      exact AH (AP (i:=2) (v:=(vK .u32 ((Ao a).getD i 0))) rfl rfl Tryz.isAgg97 (BA (xs:=Ao a) (j:=i) (by omega))) rfl (AD.retell (k:=63) (u:=(vK .u32 ((AM a).getD i 0))) rfl (by rw [C4 hc4]) (asg' rfl (AD.nil (AC.subF (sL [4,8,9,52,53,10,11,12] rfl) (AC.join0  (trivial) (sF rfl) sr)))))
     ·replace hc4:=of_decide_eq_false hc4
      exact AF.skip (AC.retell (k:=12) (u:=Value.int .u32 (((AM a).getD i 0:Nat):Int)) rfl (by rw [Dr hc4];rfl) (AC.join0  (trivial) (sF rfl) sr))
    ·intro hJ
     refine AC.then_ (AF.region (AJ rfl (AJ rfl (AJ rfl (AJ rfl ?_)))))
     refine AH (v:=(pP b6 i)) (AK (j:=i) rfl rfl Tryz.underlying184 Tryz.sizeOf97 rfl (by omega) (by simp)) rfl ?_
     have hx2:os.getD i 0<4294967296:=W32.getD hw32 i
     refine AH (AP (i:=0) (v:=(vK .u32 (os.getD i 0))) rfl rfl Tryz.isAgg97 (BA (xs:=os) (j:=i) (by omega))) rfl (AJ rfl (AJ rfl ?_))
     have hya:=(Bc a).getD i
     have hyb:=(Bc b).getD i
     refine ck' Tryz.call173 (Jt (os.getD i 0) ((AM a).getD i 0) c (by omega) (by omega) (by omega)) rfl (AJ rfl (AH (AS (v:=(vK .u32 (((os.getD i 0)+((AM a).getD i 0)+c)%4294967296))) rfl rfl) rfl (AH (AS (v:=(vK .u32 (((os.getD i 0)+((AM a).getD i 0)+c)/4294967296))) rfl rfl) rfl (AH (v:=(pP b6 i)) (AK (j:=i) rfl rfl Tryz.underlying184 Tryz.sizeOf97 rfl (by omega) (by simp)) rfl (AD.store' (i:=0) (off:=i) (vs:=[(vK .u32 (((os.getD i 0)+((AM a).getD i 0)+c)%4294967296))]) (cs':=Aj (os.set i (((os.getD i 0)+((AM a).getD i 0)+c)%4294967296))) (L':=[Ab b6 97 (Aj (os.set i (((os.getD i 0)+((AM a).getD i 0)+c)%4294967296))),Ab b5 97 (Aj (Ao b)),Ab b4 97 (Aj (Ao a)),Ab b3 42 (Aa 0),Ab b2 42 (Aa b),Ab b1 42 (Aa a)]) (AO rfl) rfl rfl rfl rfl rfl Tryz.sizeOf97 rfl (CP (BG _) (by omega)) (Bx (by omega)) rfl ?_)))))
     refine asg' rfl (AD.nil (AC.subF (sL [4,8,9,52,53,10,11,12] rfl) (AC.in_normal (AC.then_ (AF.region ?_)))))
     exact AH (AW (c:=((i+1:Nat):Int)) rfl rfl (AR (a:=i) (b:=1) (by omega))) rfl (AJ rfl (AD.nil (AC.subF (sL [4,8,9,52,53,10,11,12] rfl) (AC.round3 (i+1) (os.set i ((os.getD i 0+(AM a).getD i 0+c)%4294967296)) ((os.getD i 0+(AM a).getD i 0+c)/4294967296) (⟨by omega,by rw [List.length_set];exact hl,W32.set hw32 (by omega) i,by omega,Mw hl hc3 hv⟩) (by omega) (sF rfl) sr))))
   ·replace hc3:=of_decide_eq_false hc3
    refine AF.exit (AC.then_exit (AC.round3_exit (AC.in_exit (q2 (AJ rfl ?_)))))
    refine DC Tryz.call110 (λw hw=>H0 _ ((nw b)+1) ((nw b)+1) os hw32 (by first|omega|(rw [rowN_length];omega)|simp|(simp;omega)) (by first|omega|simp|(simp;omega)) (by first|omega|simp|(simp;omega)) w (hw.get (i:=0) rfl)) rfl (AD.retell (k:=79) (u:=(aG (Aa (a+b)))) rfl (by rw [List.take_of_length_le (show os.length<=nw b+1 by omega),Mh (X:=b) (Y:=a) (c:=c) (i:=i) hl hw32 (by omega) (Rt (by omega)) (by rw [hv,Cv (by omega)]),Nat.add_comm]) (Iu rfl Tryz.sizeOf42 rfl (AD.nil (AC.subF (sL [4,8,9,52,53,10] rfl) (AC.then_ ?_)))))
    exact AF.ret (AN rfl (BB (i:=3) (cs:=Aa (a+b)) rfl rfl Tryz.isAgg42 Tryz.sizeOf42 rfl) (λw hw=>⟨rfl,hw.out⟩))
  ·replace hc2:=of_decide_eq_false hc2
   refine AF.skip (q2 (AJ rfl (AH (v:=(vN (nw a))) (AE rfl Tryz.underlying184) rfl (AH (AW (c:=(((nw a)+1:Nat):Int)) rfl rfl (AR (a:=nw a) (b:=1) (by omega))) rfl (AD.openV (V:=λb6=>(Value.slice (some ⟨b6,0,none⟩) ((nw a)+1) ((nw a)+1))) (T:=97) (cs:=Aj (List.replicate ((nw a)+1) 0)) (AO rfl) (Cp (m:=(nw a)+1) (c:=(nw a)+1) rfl rfl (by omega) (by omega)) rfl (AY rfl) λb6=>?_)))))
   refine asg' rfl (q3 (sL [2,3,4,7,8,9] rfl) (AJ rfl (AJ rfl (AD.copy_u32 (i:=0) (j:=2) (ns:=Aj (AM a)) (cs':=Aj (AM a++(List.replicate (nw a+1) 0).drop (AM a).length)) (L':=[Ab b6 97 (Aj (AM a++(List.replicate (nw a+1) 0).drop (AM a).length)),Ab b5 97 (Aj (Ao b)),Ab b4 97 (Aj (Ao a)),Ab b3 42 (Aa 0),Ab b2 42 (Aa b),Ab b1 42 (Aa a)]) rfl (AO rfl) rfl rfl rfl rfl (by rw [Kf,Gw]) (BG _) (Mm _) (by omega) (by rw [BG];simp;try omega) (Mn _ _) rfl (AY rfl) (q3 (sL [2,3,4,7,8,9] rfl) ?_)))))
   refine asg' rfl (AD.nil (q1 (q4 (AJ rfl (AH (v:=(vN ((nw a)+1))) (AE rfl Tryz.underlying184) rfl ?_)))))
   refine AJ rfl (AD.nil (AC.subF (sL [2,3,4,7,8,9,10,52,53] rfl) (AC.then_ (AF.block ?_))))
   refine AF.lp3 (tg λ(i:Nat) (os:List Nat) (c:Nat)=>i<=nw a+1/\os.length=nw a+1/\W32 os/\c<=1/\val os+c*4294967296^i=a+val ((AM b).take i)) (tg λ(i:Nat) (os:List Nat) (c:Nat)=>[(4,(pP b3 0)),(8,(Value.slice (some ⟨b5,0,none⟩) (nw b) ((Ao b).length))),(9,(Value.slice (some ⟨b6,0,none⟩) ((nw a)+1) ((nw a)+1))),(52,(vN ((nw a)+1))),(53,(vN i)),(10,(vK .u32 c))]) (tg λ(i:Nat) (os:List Nat) (c:Nat)=>[Ab b6 97 (Aj os),Ab b5 97 (Aj (Ao b)),Ab b4 97 (Aj (Ao a)),Ab b3 42 (Aa 0),Ab b2 42 (Aa b),Ab b1 42 (Aa a)]) (tg λ(i:Nat) (os:List Nat) (c:Nat)=>nw a+1-i) 0 (AM a++(List.replicate (nw a+1) 0).drop (AM a).length) 0 (⟨Nat.zero_le _,(Ew a 1).1,(Ew a 1).2.1,by omega,by rw [(Ew a 1).2.2];simp [val]⟩) (sF rfl) sr (λi os c hJ=>?_)
   obtain ⟨hi,hl,hw32,hcc,hv⟩:=hJ
   refine q4 (AH (Ad (c:=(decide (i<((nw a)+1)))) rfl rfl (CB (a:=i) (b:=(nw a)+1))) rfl (AD.nil (q1 ?_)))
   refine AF.cond rfl (λhc3=>?_) (λhc3=>?_)
   ·replace hc3:=of_decide_eq_true hc3
    refine AF.skip (q1 (AF.block (q4 (AJ rfl (asg' rfl ?_)))))
    refine q3 (sL [4,8,9,52,53,10,11] rfl) (asg' rfl (AD.nil (q1 (q4 (AJ rfl ?_)))))
    refine AJ rfl (AH (v:=(vN (nw b))) (AE rfl Tryz.underlying184) rfl (AH (Ad (c:=(decide (i<(nw b)))) rfl rfl (CB (a:=i) (b:=nw b))) rfl (AD.nil (AC.subF (sL [4,8,9,52,53,10,11,12,59] rfl) (AC.then_ ?_)))))
    refine AF.jn0 (tg True) (tg [(4,(pP b3 0)),(8,(Value.slice (some ⟨b5,0,none⟩) (nw b) ((Ao b).length))),(9,(Value.slice (some ⟨b6,0,none⟩) ((nw a)+1) ((nw a)+1))),(52,(vN ((nw a)+1))),(53,(vN i)),(10,(vK .u32 c)),(11,(vN i)),(12,(vK .u32 ((AM b).getD i 0)))]) (tg [Ab b6 97 (Aj os),Ab b5 97 (Aj (Ao b)),Ab b4 97 (Aj (Ao a)),Ab b3 42 (Aa 0),Ab b2 42 (Aa b),Ab b1 42 (Aa a)]) ?_ ?_
    ·skip
     refine AF.cond rfl (λhc4=>?_) (λhc4=>?_)
     ·replace hc4:=of_decide_eq_true hc4
      refine AF.region (AJ rfl (AJ rfl (AH (v:=(pP b5 i)) (AK (j:=i) rfl rfl Tryz.underlying184 Tryz.sizeOf97 rfl (by omega) (by simp)) rfl ?_)))
      have hx3:(Ao b).getD i 0<4294967296:=W32.getD (B6 b) i
      exact AH (AP (i:=1) (v:=(vK .u32 ((Ao b).getD i 0))) rfl rfl Tryz.isAgg97 (BA (xs:=Ao b) (j:=i) (by omega))) rfl (AD.retell (k:=63) (u:=(vK .u32 ((AM b).getD i 0))) rfl (by rw [C4 hc4]) (asg' rfl (AD.nil (AC.subF (sL [4,8,9,52,53,10,11,12] rfl) (AC.join0  (trivial) (sF rfl) sr)))))
     ·replace hc4:=of_decide_eq_false hc4
      exact AF.skip (AC.retell (k:=12) (u:=Value.int .u32 (((AM b).getD i 0:Nat):Int)) rfl (by rw [Dr hc4];rfl) (AC.join0  (trivial) (sF rfl) sr))
    ·intro hJ
     refine AC.then_ (AF.region (AJ rfl (AJ rfl (AJ rfl (AJ rfl ?_)))))
     refine AH (v:=(pP b6 i)) (AK (j:=i) rfl rfl Tryz.underlying184 Tryz.sizeOf97 rfl (by omega) (by simp)) rfl ?_
     have hx4:os.getD i 0<4294967296:=W32.getD hw32 i
     refine AH (AP (i:=0) (v:=(vK .u32 (os.getD i 0))) rfl rfl Tryz.isAgg97 (BA (xs:=os) (j:=i) (by omega))) rfl (AJ rfl (AJ rfl ?_))
     have hya:=(Bc a).getD i
     have hyb:=(Bc b).getD i
     refine ck' Tryz.call173 (Jt (os.getD i 0) ((AM b).getD i 0) c (by omega) (by omega) (by omega)) rfl (AJ rfl (AH (AS (v:=(vK .u32 (((os.getD i 0)+((AM b).getD i 0)+c)%4294967296))) rfl rfl) rfl (AH (AS (v:=(vK .u32 (((os.getD i 0)+((AM b).getD i 0)+c)/4294967296))) rfl rfl) rfl (AH (v:=(pP b6 i)) (AK (j:=i) rfl rfl Tryz.underlying184 Tryz.sizeOf97 rfl (by omega) (by simp)) rfl (AD.store' (i:=0) (off:=i) (vs:=[(vK .u32 (((os.getD i 0)+((AM b).getD i 0)+c)%4294967296))]) (cs':=Aj (os.set i (((os.getD i 0)+((AM b).getD i 0)+c)%4294967296))) (L':=[Ab b6 97 (Aj (os.set i (((os.getD i 0)+((AM b).getD i 0)+c)%4294967296))),Ab b5 97 (Aj (Ao b)),Ab b4 97 (Aj (Ao a)),Ab b3 42 (Aa 0),Ab b2 42 (Aa b),Ab b1 42 (Aa a)]) (AO rfl) rfl rfl rfl rfl rfl Tryz.sizeOf97 rfl (CP (BG _) (by omega)) (Bx (by omega)) rfl ?_)))))
     refine asg' rfl (AD.nil (AC.subF (sL [4,8,9,52,53,10,11,12] rfl) (AC.in_normal (AC.then_ (AF.region ?_)))))
     exact AH (AW (c:=((i+1:Nat):Int)) rfl rfl (AR (a:=i) (b:=1) (by omega))) rfl (AJ rfl (AD.nil (AC.subF (sL [4,8,9,52,53,10,11,12] rfl) (AC.round3 (i+1) (os.set i ((os.getD i 0+(AM b).getD i 0+c)%4294967296)) ((os.getD i 0+(AM b).getD i 0+c)/4294967296) (⟨by omega,by rw [List.length_set];exact hl,W32.set hw32 (by omega) i,by omega,Mw hl hc3 hv⟩) (by omega) (sF rfl) sr))))
   ·replace hc3:=of_decide_eq_false hc3
    refine AF.exit (AC.then_exit (AC.round3_exit (AC.in_exit (q2 (AJ rfl ?_)))))
    refine DC Tryz.call110 (λw hw=>H0 _ ((nw a)+1) ((nw a)+1) os hw32 (by first|omega|(rw [rowN_length];omega)|simp|(simp;omega)) (by first|omega|simp|(simp;omega)) (by first|omega|simp|(simp;omega)) w (hw.get (i:=0) rfl)) rfl (AD.retell (k:=79) (u:=(aG (Aa (a+b)))) rfl (by rw [List.take_of_length_le (show os.length<=nw a+1 by omega),Mh (X:=a) (Y:=b) (c:=c) (i:=i) hl hw32 (by omega) (Rt (by omega)) (by rw [hv,Cv (by omega)])]) (Iu rfl Tryz.sizeOf42 rfl (AD.nil (AC.subF (sL [4,8,9,52,53,10] rfl) (AC.then_ ?_)))))
    exact AF.ret (AN rfl (BB (i:=3) (cs:=Aa (a+b)) rfl rfl Tryz.isAgg42 Tryz.sizeOf42 rfl) (λw hw=>⟨rfl,hw.out⟩))
end
end Go.Proofs.YtpgncndhhhllfaaGreatDoor
