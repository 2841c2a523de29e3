import Derived.Test.YtpgncndhhhllfaaGreatDoorPart06
import Derived.Test.YtpgncndhhhllfaaGreatDoorPart11
namespace Go.Proofs.YtpgncndhhhllfaaGreatDoor
open Go Go.RowKit Go.Proofs.Tryz
set_option linter.unusedVariables false
set_option linter.unusedSimpArgs false
section
set_option maxRecDepth 100000
theorem Sj (a b:Nat) (ha:nw a<=1099511627776) (hb:nw b<=1099511627776) (w:World)  :Calls Tryz.prog 168 #[(aG (AY a)),(aG (AY b))] w (Al w (vI (C0 a b))):=by
 refine Aa (args:=[(aG (AY a)),(aG (AY b))]) Tryz.func168 rfl rfl (AV rfl) (AE.subF (sL [0,1] rfl) (q4 (BU (cs:=AY a) rfl λb1=>BU (cs:=AY b) rfl λb2=>asg' rfl ?_)))
 refine q6 (sL [2,3,4] rfl) (q4 (AK (v:=(pP b1 1)) (AA rfl Tryz.underlying42 rfl Tryz.sizeOf9 rfl) rfl (BJ 1 (Value.string (Bc a)) Pg rfl (AK (BV (c:=(decide (a<18446744073709551616))) rfl rfl B_) rfl (AQ rfl ?_)))))
 refine AD.mid (FM:=[(2,(pP b1 0)),(3,(pP b2 0)),(4,(vI 0)),(5,(pP b1 1)),(6,(Value.string (Bc a))),(7,(Value.bool (decide (a<18446744073709551616)))),(8,(Value.bool (decide (a<18446744073709551616)))),(12,(Value.bool ((decide (a<18446744073709551616))&&(decide (b<18446744073709551616)))))]) (LM:=[Ad b2 42 (AY b),Ad b1 42 (AY a)]) 4 ?_ ?_
 ·rcases Bool.eq_false_or_eq_true (decide (a<18446744073709551616)) with hg1|hg1
  ·skip
   refine AD.retell (k:=8) (u:=Value.bool true) rfl (by rw [hg1]) ?_
   have hg1':=hg1
   replace hg1':=of_decide_eq_true hg1'
   exact AD.step (v:=(pP b2 1)) (AB rfl) (AA rfl Tryz.underlying42 rfl Tryz.sizeOf9 rfl) rfl (AV rfl) (AD.step (v:=(Value.string (Bc b))) (AB rfl) (AL (i:=0) (v:=(Value.string (Bc b))) rfl rfl Pg.a rfl) rfl (AV rfl) (AD.step (v:=(Value.bool (decide (b<18446744073709551616)))) (AB rfl) (BV (c:=(decide (b<18446744073709551616))) rfl rfl B_) rfl (AV rfl) (AK (v:=(Value.bool (decide (b<18446744073709551616)))) (AX rfl rfl) rfl (AD.nil (AC.mid (sS rfl (sS rfl (sS rfl (sS rfl (sS rfl (sS rfl (sS (by first|rfl|(rw [hg1];rfl)|rw [hg1]) (sS (by first|rfl|(rw [hg1];rfl)|rw [hg1]) (sN))))))))) (List.Sublist.refl _))))))
  ·skip
   refine AD.retell (k:=8) (u:=Value.bool false) rfl (by rw [hg1]) ?_
   have hg1':=hg1
   replace hg1':=of_decide_eq_false hg1'
   exact AD.skip (AH rfl) rfl (AV rfl) (AD.skip (AH rfl) rfl (AV rfl) (AD.skip (AH rfl) rfl (AV rfl) (AK (v:=(Value.bool false)) (AR rfl rfl) rfl (AD.nil (AC.mid (sS rfl (sS rfl (sS rfl (sS rfl (sS rfl (sS rfl (sS (by first|rfl|(rw [hg1];rfl)|rw [hg1]) (sS (by first|rfl|(rw [hg1];rfl)|rw [hg1]) (sN))))))))) (List.Sublist.refl _))))))
 refine AD.nil (AC.subF (sL [2,3,4,12] rfl) (AC.then_ ?_))
 refine AE.jn0 (tg True) (tg [(2,(pP b1 0)),(3,(pP b2 0))]) (tg [Ad b2 42 (AY b),Ad b1 42 (AY a)]) ?_ ?_
 ·skip
  refine AE.cond rfl (λhc0=>?_) (λhc0=>?_)
  ·simp only [Bool.and_eq_true,Bool.or_eq_true,Bool.and_eq_false_iff,Bool.or_eq_false_iff,Bool.not_eq_true',Bool.not_eq_false',decide_eq_true_eq,decide_eq_false_iff_not] at hc0
   refine AE.seq (AE.block (q4 (AK (v:=(pP b1 0)) (AA rfl Tryz.underlying42 rfl Tryz.sizeOf40 rfl) rfl (BJ 1 (vK .u64 (Bs a)) FV rfl (AD.retell (k:=15) (u:=(vK .u64 a)) rfl (by rw [BY hc0.1]) ?_)))))
   refine AK (v:=(pP b2 0)) (AA rfl Tryz.underlying42 rfl Tryz.sizeOf40 rfl) rfl (BJ 0 (vK .u64 (Bs b)) FV rfl (AD.retell (k:=17) (u:=(vK .u64 b)) rfl (by rw [BY hc0.2]) (AK (Ai (c:=(decide (a<b))) rfl rfl (CI (a:=a) (b:=b))) rfl (asg' rfl (AD.nil ?_)))))
   refine AC.subF (sL [2,3,4,13] rfl) (AC.then_ ?_)
   refine AE.cond rfl (λhc1=>?_) (λhc1=>?_)
   ·replace hc1:=of_decide_eq_true hc1
    have hz:C0 a b = -1:=if_pos hc1
    refine q4 (asg' rfl (AD.nil (AC.then_ (AE.ret (AC.in_ret ?_)))))
    exact AC.then_ret (AC.join0_ret (AC.then_ret (AJ rfl (AS (v:=(vI (-1:Int))) rfl) (λw hw=>⟨by rw [hz],hw.out⟩))))
   ·replace hc1:=of_decide_eq_false hc1
    refine q4 (AK (v:=(pP b1 0)) (AA rfl Tryz.underlying42 rfl Tryz.sizeOf40 rfl) rfl (BJ 1 (vK .u64 (Bs a)) FV rfl (AD.retell (k:=21) (u:=(vK .u64 a)) rfl (by rw [BY hc0.1]) (AK (v:=(pP b2 0)) (AA rfl Tryz.underlying42 rfl Tryz.sizeOf40 rfl) rfl (BJ 0 (vK .u64 (Bs b)) FV rfl ?_)))))
    refine AD.retell (k:=23) (u:=(vK .u64 b)) rfl (by rw [BY hc0.2]) (AK (Bb (c:=(decide (b<a))) rfl rfl (CI (a:=b) (b:=a))) rfl (asg' rfl (AD.nil (AC.subF (sL [2,3,4,19] rfl) (AC.then_ ?_)))))
    refine AE.cond rfl (λhc2=>?_) (λhc2=>?_)
    ·replace hc2:=of_decide_eq_true hc2
     have hz:C0 a b=1:=by unfold C0;rw [if_neg (by omega),if_neg (by omega)]
     refine q4 (asg' rfl (AD.nil (AC.then_ (AE.ret (AC.in_ret ?_)))))
     exact AC.then_ret (AC.join0_ret (AC.then_ret (AJ rfl (AS (v:=(vI 1)) rfl) (λw hw=>⟨by rw [hz],hw.out⟩))))
    ·replace hc2:=of_decide_eq_false hc2
     have hz:C0 a b=0:=Kz.2 (by omega)
     refine AE.skip (AC.in_normal (q2 (asg' rfl (AD.nil (AC.then_ ?_)))))
     exact AE.ret (AC.join0_ret (AC.then_ret (AJ rfl (AS (v:=(vI 0)) rfl) (λw hw=>⟨by rw [hz],hw.out⟩))))
  ·simp only [Bool.and_eq_true,Bool.or_eq_true,Bool.and_eq_false_iff,Bool.or_eq_false_iff,Bool.not_eq_true',Bool.not_eq_false',decide_eq_true_eq,decide_eq_false_iff_not] at hc0
   exact AE.skip (AC.join0  (trivial) (sF rfl) sr)
 ·intro hJ
  refine q1 (CS [(0,true),(2,true),(1,false),(3,false),(4,false),(5,true)] sr (Df 1 Br rfl (Df 0 Br rfl (OkE.imp rfl (AD.callB (V:=λb3=>(Value.slice (some ⟨b3,0,none⟩) (nw a) ((Ay a).length))) (T:=97) (cs:=Ao (Ay a)) (AW rfl) (An (args:=[(aG (AY a))]) rfl rfl Tryz.call111) (λw hw=>Cu a (by omega) w) rfl (AV rfl) λb3=>?_)))))
  refine OkE.back (sl sr) (OkE.imp rfl (AD.callB (V:=λb4=>(Value.slice (some ⟨b4,0,none⟩) (nw b) ((Ay b).length))) (T:=97) (cs:=Ao (Ay b)) (AW rfl) (An (args:=[(aG (AY b))]) rfl rfl Tryz.call111) (λw hw=>Cu b (by omega) w) rfl (AV rfl) λb4=>OkE.back (sl (sl sr)) (OkE.imp rfl (CN Tryz.call218 (λw hw=>VF a b _ _ _ _ (by omega) (by omega) w (hw.get (i:=1) rfl) (hw.get (i:=0) rfl)) rfl ?_))))
  exact OkE.back (sl (sl sr)) (pS' rfl (OkE.nil (AC.subF (sL [2,3,4] rfl) (AC.then_ (AE.ret (AJ rfl (AS (v:=(vI (C0 a b))) rfl) (λw hw=>⟨rfl,hw.out⟩)))))))
theorem Sa (a b:Nat) (ha:nw a<=1099511627776) (hb:nw b<=1099511627776) (w:World)  :Calls Tryz.prog 107 #[(aG (AY a)),(aG (AY b))] w (Al w (aG (AY (a+b)))):=by
 have hla:=B7 a
 have hlb:=B7 b
 refine Aa (args:=[(aG (AY a)),(aG (AY b))]) Tryz.func107 rfl rfl (AV rfl) (AE.subF (sL [0,1] rfl) (q4 (BU (cs:=AY a) rfl λb1=>BU (cs:=AY b) rfl λb2=>al E9 rfl λb3=>?_)))
 refine q6 (sL [2,3,4] rfl) (q4 (AK (v:=(pP b1 1)) (AA rfl Tryz.underlying42 rfl Tryz.sizeOf9 rfl) rfl (BJ 2 (Value.string (Bc a)) Pg rfl (AK (BV (c:=(decide (a<18446744073709551616))) rfl rfl B_) rfl (AQ rfl ?_)))))
 refine AD.mid (FM:=[(2,(pP b1 0)),(3,(pP b2 0)),(4,(pP b3 0)),(13,(pP b1 1)),(14,(Value.string (Bc a))),(15,(Value.bool (decide (a<18446744073709551616)))),(16,(Value.bool (decide (a<18446744073709551616)))),(20,(Value.bool ((decide (a<18446744073709551616))&&(decide (b<18446744073709551616)))))]) (LM:=[Ad b3 42 (AY 0),Ad b2 42 (AY b),Ad b1 42 (AY a)]) 4 ?_ ?_
 ·rcases Bool.eq_false_or_eq_true (decide (a<18446744073709551616)) with hg1|hg1
  ·skip
   refine AD.retell (k:=16) (u:=Value.bool true) rfl (by rw [hg1]) ?_
   have hg1':=hg1
   replace hg1':=of_decide_eq_true hg1'
   exact AD.step (v:=(pP b2 1)) (AB rfl) (AA rfl Tryz.underlying42 rfl Tryz.sizeOf9 rfl) rfl (AV rfl) (AD.step (v:=(Value.string (Bc b))) (AB rfl) (AL (i:=1) (v:=(Value.string (Bc b))) rfl rfl Pg.a rfl) rfl (AV rfl) (AD.step (v:=(Value.bool (decide (b<18446744073709551616)))) (AB rfl) (BV (c:=(decide (b<18446744073709551616))) rfl rfl B_) rfl (AV rfl) (AK (v:=(Value.bool (decide (b<18446744073709551616)))) (AX rfl rfl) rfl (AD.nil (AC.mid (sS rfl (sS rfl (sS rfl (sS rfl (sS rfl (sS rfl (sS (by first|rfl|(rw [hg1];rfl)|rw [hg1]) (sS (by first|rfl|(rw [hg1];rfl)|rw [hg1]) (sN))))))))) (List.Sublist.refl _))))))
  ·skip
   refine AD.retell (k:=16) (u:=Value.bool false) rfl (by rw [hg1]) ?_
   have hg1':=hg1
   replace hg1':=of_decide_eq_false hg1'
   exact AD.skip (AH rfl) rfl (AV rfl) (AD.skip (AH rfl) rfl (AV rfl) (AD.skip (AH rfl) rfl (AV rfl) (AK (v:=(Value.bool false)) (AR rfl rfl) rfl (AD.nil (AC.mid (sS rfl (sS rfl (sS rfl (sS rfl (sS rfl (sS rfl (sS (by first|rfl|(rw [hg1];rfl)|rw [hg1]) (sS (by first|rfl|(rw [hg1];rfl)|rw [hg1]) (sN))))))))) (List.Sublist.refl _))))))
 refine AD.nil (AC.subF (sL [2,3,4,20] rfl) (AC.then_ ?_))
 refine AE.jn0 (tg True) (tg [(2,(pP b1 0)),(3,(pP b2 0)),(4,(pP b3 0))]) (tg [Ad b3 42 (AY 0),Ad b2 42 (AY b),Ad b1 42 (AY a)]) ?_ ?_
 ·skip
  refine AE.cond rfl (λhc0=>?_) (λhc0=>?_)
  ·simp only [Bool.and_eq_true,Bool.or_eq_true,Bool.and_eq_false_iff,Bool.or_eq_false_iff,Bool.not_eq_true',Bool.not_eq_false',decide_eq_true_eq,decide_eq_false_iff_not] at hc0
   refine q4 (AK (v:=(pP b1 0)) (AA rfl Tryz.underlying42 rfl Tryz.sizeOf40 rfl) rfl (BJ 2 (vK .u64 (Bs a)) FV rfl (AD.retell (k:=23) (u:=(vK .u64 a)) rfl (by rw [BY hc0.1]) (AK (v:=(pP b2 0)) (AA rfl Tryz.underlying42 rfl Tryz.sizeOf40 rfl) rfl (BJ 1 (vK .u64 (Bs b)) FV rfl ?_)))))
   refine AD.retell (k:=25) (u:=(vK .u64 b)) rfl (by rw [BY hc0.2]) (AK (v:=(Value.tuple #[(vK .u64 ((a+b+0)%18446744073709551616)),(vK .u64 ((a+b+0)/18446744073709551616))])) (PJ (args:=[(vK .u64 a),(vK .u64 b),(Value.int .u64 (0:Int))]) rfl rfl (λw=>Po Tryz.func172 (by kernel_rfl) (by kernel_rfl) (by kernel_rfl) (by kernel_rfl) a b 0 (by omega) w)) rfl (AQ rfl (AK (AZ (v:=(vK .u64 ((a+b+0)%18446744073709551616))) rfl rfl) rfl (AK (AZ (v:=(vK .u64 ((a+b+0)/18446744073709551616))) rfl rfl) rfl (asg' rfl ?_)))))
   refine asg' rfl (q3 (sL [2,3,4,5,6] rfl) (AQ rfl (AK (BR (c:=(decide (((a+b+0)/18446744073709551616)=0))) rfl rfl (LX (a:=(a+b+0)/18446744073709551616) (b:=0))) rfl (AD.nil (AC.subF (sL [2,3,4,5,30] rfl) ?_)))))
   refine AC.then_ ?_
   refine AE.cond rfl (λhc1=>?_) (λhc1=>?_)
   ·replace hc1:=of_decide_eq_true hc1
    refine q4 (AQ rfl (AK (v:=(aG ([(vK .u64 ((a+b+0)%18446744073709551616)),(Value.string (Bc 0))]))) (AU (zs:=AY 0) (vs:=[(vK .u64 ((a+b+0)%18446744073709551616)),(Value.string (Bc 0))]) (pv:=[(0,(vK .u64 ((a+b+0)%18446744073709551616)))]) (places:=[(0,1),(1,1)]) Tryz.zeroValue42 Tryz.underlying42 (λw=>by simp [Tryz.sizeOf9,Tryz.sizeOf40]) rfl rfl) rfl (AD.retell (k:=32) (u:=(aG (AY (a+b)))) rfl (by rw [DE (by omega),show (a+b+0)%18446744073709551616=a+b by omega];rfl) (A8 rfl Tryz.sizeOf42 rfl (AD.nil ?_)))))
    exact AC.subF (sL [2,3,4] rfl) (AC.then_ (AE.ret (AC.join0_ret (AC.then_ret (AJ rfl (Au (i:=0) (cs:=AY (a+b)) rfl rfl Tryz.isAgg42 Tryz.sizeOf42 rfl) (λw hw=>⟨rfl,hw.out⟩))))))
   ·replace hc1:=of_decide_eq_false hc1
    exact AE.skip (AC.join0  (trivial) (sF rfl) sr)
  ·simp only [Bool.and_eq_true,Bool.or_eq_true,Bool.and_eq_false_iff,Bool.or_eq_false_iff,Bool.not_eq_true',Bool.not_eq_false',decide_eq_true_eq,decide_eq_false_iff_not] at hc0
   exact AE.skip (AC.join0  (trivial) (sF rfl) sr)
 ·intro hJ
  refine q1 (CS [(0,true),(2,true),(1,false),(3,false),(4,true),(5,true)] sr (Df 2 Br rfl (Df 1 Br rfl (OkE.imp rfl (AD.callB (V:=λb4=>(Value.slice (some ⟨b4,0,none⟩) (nw a) ((Ay a).length))) (T:=97) (cs:=Ao (Ay a)) (AW rfl) (An (args:=[(aG (AY a))]) rfl rfl Tryz.call111) (λw hw=>Cu a (by omega) w) rfl (AV rfl) λb4=>?_)))))
  refine OkE.back (sl sr) (OkE.imp rfl (AD.callB (V:=λb5=>(Value.slice (some ⟨b5,0,none⟩) (nw b) ((Ay b).length))) (T:=97) (cs:=Ao (Ay b)) (AW rfl) (An (args:=[(aG (AY b))]) rfl rfl Tryz.call111) (λw hw=>Cu b (by omega) w) rfl (AV rfl) λb5=>OkE.back (sl (sl sr)) (pS' rfl (pS' rfl ?_))))
  refine OkE.nil (AC.subF (sL [2,3,4,7,8] rfl) (q1 (q4 (AQ rfl (AK (v:=(vN (nw a))) (AF rfl Tryz.underlying184) rfl ?_)))))
  refine AQ rfl (AK (v:=(vN (nw b))) (AF rfl Tryz.underlying184) rfl (AK (Ai (c:=(decide ((nw a)<(nw b)))) rfl rfl (CI (a:=nw a) (b:=nw b))) rfl (AD.nil (AC.subF (sL [2,3,4,7,8,41] rfl) (AC.then_ ?_)))))
  refine AE.cond rfl (λhc2=>?_) (λhc2=>?_)
  ·replace hc2:=of_decide_eq_true hc2
   refine AE.region (AQ rfl (AQ rfl (asg' rfl (asg' rfl (q3 (sL [2,3,4,7,8] rfl) ?_)))))
   refine AQ rfl (AK (v:=(vN (nw b))) (AF rfl Tryz.underlying184) rfl (AK (Ac (c:=(((nw b)+1:Nat):Int)) rfl rfl (Ae (a:=nw b) (b:=1) (by omega))) rfl (AD.openV (V:=λb6=>(Value.slice (some ⟨b6,0,none⟩) ((nw b)+1) ((nw b)+1))) (T:=97) (cs:=Ao (List.replicate ((nw b)+1) 0)) (AW rfl) (Cp (m:=(nw b)+1) (c:=(nw b)+1) rfl rfl (by omega) (by omega)) rfl (AV rfl) λb6=>asg' rfl (q3 (sL [2,3,4,7,8,9] rfl) ?_))))
   refine AQ rfl (AQ rfl (AD.copy_u32 (i:=0) (j:=1) (ns:=Ao (AP b)) (cs':=Ao (AP b++(List.replicate (nw b+1) 0).drop (AP b).length)) (L':=[Ad b6 97 (Ao (AP b++(List.replicate (nw b+1) 0).drop (AP b).length)),Ad b5 97 (Ao (Ay b)),Ad b4 97 (Ao (Ay a)),Ad b3 42 (AY 0),Ad b2 42 (AY b),Ad b1 42 (AY a)]) rfl (AW rfl) rfl rfl rfl rfl (by rw [J6,G7]) (BL _) (MN _) (by omega) (by rw [BL];simp;try omega) (L7 _ _) rfl (AV rfl) (q3 (sL [2,3,4,7,8,9] rfl) (asg' rfl (AD.nil ?_)))))
   refine q1 (q4 (AQ rfl (AK (v:=(vN ((nw b)+1))) (AF rfl Tryz.underlying184) rfl (AQ rfl (AD.nil ?_)))))
   refine AC.subF (sL [2,3,4,7,8,9,10,52,53] rfl) (AC.then_ (AE.block ?_))
   refine AE.lp3 (tg λ(i:Nat) (os:List Nat) (c:Nat)=>i<=nw b+1/\os.length=nw b+1/\W32 os/\c<=1/\val os+c*4294967296^i=b+val ((AP a).take i)) (tg λ(i:Nat) (os:List Nat) (c:Nat)=>[(4,(pP b3 0)),(8,(Value.slice (some ⟨b4,0,none⟩) (nw a) ((Ay a).length))),(9,(Value.slice (some ⟨b6,0,none⟩) ((nw b)+1) ((nw b)+1))),(52,(vN ((nw b)+1))),(53,(vN i)),(10,(vK .u32 c))]) (tg λ(i:Nat) (os:List Nat) (c:Nat)=>[Ad b6 97 (Ao os),Ad b5 97 (Ao (Ay b)),Ad b4 97 (Ao (Ay a)),Ad b3 42 (AY 0),Ad b2 42 (AY b),Ad b1 42 (AY a)]) (tg λ(i:Nat) (os:List Nat) (c:Nat)=>nw b+1-i) 0 (AP b++(List.replicate (nw b+1) 0).drop (AP b).length) 0 (⟨Nat.zero_le _,(E1 b 1).1,(E1 b 1).2.1,by omega,by rw [(E1 b 1).2.2];simp [val]⟩) (sF rfl) sr (λi os c hJ=>?_)
   obtain ⟨hi,hl,hw32,hcc,hv⟩:=hJ
   refine q4 (AK (Ai (c:=(decide (i<((nw b)+1)))) rfl rfl (CI (a:=i) (b:=(nw b)+1))) rfl (AD.nil (q1 ?_)))
   refine AE.cond rfl (λhc3=>?_) (λhc3=>?_)
   ·replace hc3:=of_decide_eq_true hc3
    refine AE.skip (q1 (AE.block (q4 (AQ rfl (asg' rfl ?_)))))
    refine q3 (sL [4,8,9,52,53,10,11] rfl) (asg' rfl (AD.nil (q1 (q4 (AQ rfl ?_)))))
    refine AQ rfl (AK (v:=(vN (nw a))) (AF rfl Tryz.underlying184) rfl (AK (Ai (c:=(decide (i<(nw a)))) rfl rfl (CI (a:=i) (b:=nw a))) rfl (AD.nil (AC.subF (sL [4,8,9,52,53,10,11,12,59] rfl) (AC.then_ ?_)))))
    refine AE.jn0 (tg True) (tg [(4,(pP b3 0)),(8,(Value.slice (some ⟨b4,0,none⟩) (nw a) ((Ay a).length))),(9,(Value.slice (some ⟨b6,0,none⟩) ((nw b)+1) ((nw b)+1))),(52,(vN ((nw b)+1))),(53,(vN i)),(10,(vK .u32 c)),(11,(vN i)),(12,(vK .u32 ((AP a).getD i 0)))]) (tg [Ad b6 97 (Ao os),Ad b5 97 (Ao (Ay b)),Ad b4 97 (Ao (Ay a)),Ad b3 42 (AY 0),Ad b2 42 (AY b),Ad b1 42 (AY a)]) ?_ ?_
    ·skip
     refine AE.cond rfl (λhc4=>?_) (λhc4=>?_)
     ·replace hc4:=of_decide_eq_true hc4
      refine AE.region (AQ rfl (AQ rfl (AK (v:=(pP b4 i)) (AM (j:=i) rfl rfl Tryz.underlying184 Tryz.sizeOf97 rfl (by omega) (by simp)) rfl ?_)))
      have hx1:(Ay a).getD i 0<4294967296:=W32.getD (B9 a) i
      exact AK (AL (i:=2) (v:=(vK .u32 ((Ay a).getD i 0))) rfl rfl Tryz.isAgg97 (BD (xs:=Ay a) (j:=i) (by omega))) rfl (AD.retell (k:=63) (u:=(vK .u32 ((AP a).getD i 0))) rfl (by rw [C5 hc4]) (asg' rfl (AD.nil (AC.subF (sL [4,8,9,52,53,10,11,12] rfl) (AC.join0  (trivial) (sF rfl) sr)))))
     ·replace hc4:=of_decide_eq_false hc4
      exact AE.skip (AC.retell (k:=12) (u:=Value.int .u32 (((AP a).getD i 0:Nat):Int)) rfl (by rw [D4 hc4];rfl) (AC.join0  (trivial) (sF rfl) sr))
    ·intro hJ
     refine AC.then_ (AE.region (AQ rfl (AQ rfl (AQ rfl (AQ rfl ?_)))))
     refine AK (v:=(pP b6 i)) (AM (j:=i) rfl rfl Tryz.underlying184 Tryz.sizeOf97 rfl (by omega) (by simp)) rfl ?_
     have hx2:os.getD i 0<4294967296:=W32.getD hw32 i
     refine AK (AL (i:=0) (v:=(vK .u32 (os.getD i 0))) rfl rfl Tryz.isAgg97 (BD (xs:=os) (j:=i) (by omega))) rfl (AQ rfl (AQ rfl ?_))
     have hya:=(Bh a).getD i
     have hyb:=(Bh b).getD i
     refine ck' Tryz.call173 (JQ (os.getD i 0) ((AP a).getD i 0) c (by omega) (by omega) (by omega)) rfl (AQ rfl (AK (AZ (v:=(vK .u32 (((os.getD i 0)+((AP a).getD i 0)+c)%4294967296))) rfl rfl) rfl (AK (AZ (v:=(vK .u32 (((os.getD i 0)+((AP a).getD i 0)+c)/4294967296))) rfl rfl) rfl (AK (v:=(pP b6 i)) (AM (j:=i) rfl rfl Tryz.underlying184 Tryz.sizeOf97 rfl (by omega) (by simp)) rfl (AD.store' (i:=0) (off:=i) (vs:=[(vK .u32 (((os.getD i 0)+((AP a).getD i 0)+c)%4294967296))]) (cs':=Ao (os.set i (((os.getD i 0)+((AP a).getD i 0)+c)%4294967296))) (L':=[Ad b6 97 (Ao (os.set i (((os.getD i 0)+((AP a).getD i 0)+c)%4294967296))),Ad b5 97 (Ao (Ay b)),Ad b4 97 (Ao (Ay a)),Ad b3 42 (AY 0),Ad b2 42 (AY b),Ad b1 42 (AY a)]) (AW rfl) rfl rfl rfl rfl rfl Tryz.sizeOf97 rfl (CL (BL _) (by omega)) (B2 (by omega)) rfl ?_)))))
     refine asg' rfl (AD.nil (AC.subF (sL [4,8,9,52,53,10,11,12] rfl) (AC.in_normal (AC.then_ (AE.region ?_)))))
     exact AK (Ac (c:=((i+1:Nat):Int)) rfl rfl (Ae (a:=i) (b:=1) (by omega))) rfl (AQ rfl (AD.nil (AC.subF (sL [4,8,9,52,53,10,11,12] rfl) (AC.round3 (i+1) (os.set i ((os.getD i 0+(AP a).getD i 0+c)%4294967296)) ((os.getD i 0+(AP a).getD i 0+c)/4294967296) (⟨by omega,by rw [List.length_set];exact hl,W32.set hw32 (by omega) i,by omega,L5 hl hc3 hv⟩) (by omega) (sF rfl) sr))))
   ·replace hc3:=of_decide_eq_false hc3
    refine AE.exit (AC.then_exit (AC.round3_exit (AC.in_exit (q2 (AQ rfl ?_)))))
    refine CN Tryz.call110 (λw hw=>H6 _ ((nw b)+1) ((nw b)+1) os hw32 (by first|omega|(rw [rowN_length];omega)|simp|(simp;omega)) (by first|omega|simp|(simp;omega)) (by first|omega|simp|(simp;omega)) w (hw.get (i:=0) rfl)) rfl (AD.retell (k:=79) (u:=(aG (AY (a+b)))) rfl (by rw [List.take_of_length_le (show os.length<=nw b+1 by omega),MK (X:=b) (Y:=a) (c:=c) (i:=i) hl hw32 (by omega) (ST (by omega)) (by rw [hv,Cr (by omega)]),Nat.add_comm]) (H8 rfl Tryz.sizeOf42 rfl (AD.nil (AC.subF (sL [4,8,9,52,53,10] rfl) (AC.then_ ?_)))))
    exact AE.ret (AJ rfl (Au (i:=3) (cs:=AY (a+b)) rfl rfl Tryz.isAgg42 Tryz.sizeOf42 rfl) (λw hw=>⟨rfl,hw.out⟩))
  ·replace hc2:=of_decide_eq_false hc2
   refine AE.skip (q2 (AQ rfl (AK (v:=(vN (nw a))) (AF rfl Tryz.underlying184) rfl (AK (Ac (c:=(((nw a)+1:Nat):Int)) rfl rfl (Ae (a:=nw a) (b:=1) (by omega))) rfl (AD.openV (V:=λb6=>(Value.slice (some ⟨b6,0,none⟩) ((nw a)+1) ((nw a)+1))) (T:=97) (cs:=Ao (List.replicate ((nw a)+1) 0)) (AW rfl) (Cp (m:=(nw a)+1) (c:=(nw a)+1) rfl rfl (by omega) (by omega)) rfl (AV rfl) λb6=>?_)))))
   refine asg' rfl (q3 (sL [2,3,4,7,8,9] rfl) (AQ rfl (AQ rfl (AD.copy_u32 (i:=0) (j:=2) (ns:=Ao (AP a)) (cs':=Ao (AP a++(List.replicate (nw a+1) 0).drop (AP a).length)) (L':=[Ad b6 97 (Ao (AP a++(List.replicate (nw a+1) 0).drop (AP a).length)),Ad b5 97 (Ao (Ay b)),Ad b4 97 (Ao (Ay a)),Ad b3 42 (AY 0),Ad b2 42 (AY b),Ad b1 42 (AY a)]) rfl (AW rfl) rfl rfl rfl rfl (by rw [J6,G7]) (BL _) (MN _) (by omega) (by rw [BL];simp;try omega) (L7 _ _) rfl (AV rfl) (q3 (sL [2,3,4,7,8,9] rfl) ?_)))))
   refine asg' rfl (AD.nil (q1 (q4 (AQ rfl (AK (v:=(vN ((nw a)+1))) (AF rfl Tryz.underlying184) rfl ?_)))))
   refine AQ rfl (AD.nil (AC.subF (sL [2,3,4,7,8,9,10,52,53] rfl) (AC.then_ (AE.block ?_))))
   refine AE.lp3 (tg λ(i:Nat) (os:List Nat) (c:Nat)=>i<=nw a+1/\os.length=nw a+1/\W32 os/\c<=1/\val os+c*4294967296^i=a+val ((AP b).take i)) (tg λ(i:Nat) (os:List Nat) (c:Nat)=>[(4,(pP b3 0)),(8,(Value.slice (some ⟨b5,0,none⟩) (nw b) ((Ay b).length))),(9,(Value.slice (some ⟨b6,0,none⟩) ((nw a)+1) ((nw a)+1))),(52,(vN ((nw a)+1))),(53,(vN i)),(10,(vK .u32 c))]) (tg λ(i:Nat) (os:List Nat) (c:Nat)=>[Ad b6 97 (Ao os),Ad b5 97 (Ao (Ay b)),Ad b4 97 (Ao (Ay a)),Ad b3 42 (AY 0),Ad b2 42 (AY b),Ad b1 42 (AY a)]) (tg λ(i:Nat) (os:List Nat) (c:Nat)=>nw a+1-i) 0 (AP a++(List.replicate (nw a+1) 0).drop (AP a).length) 0 (⟨Nat.zero_le _,(E1 a 1).1,(E1 a 1).2.1,by omega,by rw [(E1 a 1).2.2];simp [val]⟩) (sF rfl) sr (λi os c hJ=>?_)
   obtain ⟨hi,hl,hw32,hcc,hv⟩:=hJ
   refine q4 (AK (Ai (c:=(decide (i<((nw a)+1)))) rfl rfl (CI (a:=i) (b:=(nw a)+1))) rfl (AD.nil (q1 ?_)))
   refine AE.cond rfl (λhc3=>?_) (λhc3=>?_)
   ·replace hc3:=of_decide_eq_true hc3
    refine AE.skip (q1 (AE.block (q4 (AQ rfl (asg' rfl ?_)))))
    refine q3 (sL [4,8,9,52,53,10,11] rfl) (asg' rfl (AD.nil (q1 (q4 (AQ rfl ?_)))))
    refine AQ rfl (AK (v:=(vN (nw b))) (AF rfl Tryz.underlying184) rfl (AK (Ai (c:=(decide (i<(nw b)))) rfl rfl (CI (a:=i) (b:=nw b))) rfl (AD.nil (AC.subF (sL [4,8,9,52,53,10,11,12,59] rfl) (AC.then_ ?_)))))
    refine AE.jn0 (tg True) (tg [(4,(pP b3 0)),(8,(Value.slice (some ⟨b5,0,none⟩) (nw b) ((Ay b).length))),(9,(Value.slice (some ⟨b6,0,none⟩) ((nw a)+1) ((nw a)+1))),(52,(vN ((nw a)+1))),(53,(vN i)),(10,(vK .u32 c)),(11,(vN i)),(12,(vK .u32 ((AP b).getD i 0)))]) (tg [Ad b6 97 (Ao os),Ad b5 97 (Ao (Ay b)),Ad b4 97 (Ao (Ay a)),Ad b3 42 (AY 0),Ad b2 42 (AY b),Ad b1 42 (AY a)]) ?_ ?_
    ·skip
     refine AE.cond rfl (λhc4=>?_) (λhc4=>?_)
     ·replace hc4:=of_decide_eq_true hc4
      refine AE.region (AQ rfl (AQ rfl (AK (v:=(pP b5 i)) (AM (j:=i) rfl rfl Tryz.underlying184 Tryz.sizeOf97 rfl (by omega) (by simp)) rfl ?_)))
      have hx3:(Ay b).getD i 0<4294967296:=W32.getD (B9 b) i
      exact AK (AL (i:=1) (v:=(vK .u32 ((Ay b).getD i 0))) rfl rfl Tryz.isAgg97 (BD (xs:=Ay b) (j:=i) (by omega))) rfl (AD.retell (k:=63) (u:=(vK .u32 ((AP b).getD i 0))) rfl (by rw [C5 hc4]) (asg' rfl (AD.nil (AC.subF (sL [4,8,9,52,53,10,11,12] rfl) (AC.join0  (trivial) (sF rfl) sr)))))
     ·replace hc4:=of_decide_eq_false hc4
      exact AE.skip (AC.retell (k:=12) (u:=Value.int .u32 (((AP b).getD i 0:Nat):Int)) rfl (by rw [D4 hc4];rfl) (AC.join0  (trivial) (sF rfl) sr))
    ·intro hJ
     refine AC.then_ (AE.region (AQ rfl (AQ rfl (AQ rfl (AQ rfl ?_)))))
     refine AK (v:=(pP b6 i)) (AM (j:=i) rfl rfl Tryz.underlying184 Tryz.sizeOf97 rfl (by omega) (by simp)) rfl ?_
     have hx4:os.getD i 0<4294967296:=W32.getD hw32 i
     refine AK (AL (i:=0) (v:=(vK .u32 (os.getD i 0))) rfl rfl Tryz.isAgg97 (BD (xs:=os) (j:=i) (by omega))) rfl (AQ rfl (AQ rfl ?_))
     have hya:=(Bh a).getD i
     have hyb:=(Bh b).getD i
     refine ck' Tryz.call173 (JQ (os.getD i 0) ((AP b).getD i 0) c (by omega) (by omega) (by omega)) rfl (AQ rfl (AK (AZ (v:=(vK .u32 (((os.getD i 0)+((AP b).getD i 0)+c)%4294967296))) rfl rfl) rfl (AK (AZ (v:=(vK .u32 (((os.getD i 0)+((AP b).getD i 0)+c)/4294967296))) rfl rfl) rfl (AK (v:=(pP b6 i)) (AM (j:=i) rfl rfl Tryz.underlying184 Tryz.sizeOf97 rfl (by omega) (by simp)) rfl (AD.store' (i:=0) (off:=i) (vs:=[(vK .u32 (((os.getD i 0)+((AP b).getD i 0)+c)%4294967296))]) (cs':=Ao (os.set i (((os.getD i 0)+((AP b).getD i 0)+c)%4294967296))) (L':=[Ad b6 97 (Ao (os.set i (((os.getD i 0)+((AP b).getD i 0)+c)%4294967296))),Ad b5 97 (Ao (Ay b)),Ad b4 97 (Ao (Ay a)),Ad b3 42 (AY 0),Ad b2 42 (AY b),Ad b1 42 (AY a)]) (AW rfl) rfl rfl rfl rfl rfl Tryz.sizeOf97 rfl (CL (BL _) (by omega)) (B2 (by omega)) rfl ?_)))))
     refine asg' rfl (AD.nil (AC.subF (sL [4,8,9,52,53,10,11,12] rfl) (AC.in_normal (AC.then_ (AE.region ?_)))))
     exact AK (Ac (c:=((i+1:Nat):Int)) rfl rfl (Ae (a:=i) (b:=1) (by omega))) rfl (AQ rfl (AD.nil (AC.subF (sL [4,8,9,52,53,10,11,12] rfl) (AC.round3 (i+1) (os.set i ((os.getD i 0+(AP b).getD i 0+c)%4294967296)) ((os.getD i 0+(AP b).getD i 0+c)/4294967296) (⟨by omega,by rw [List.length_set];exact hl,W32.set hw32 (by omega) i,by omega,L5 hl hc3 hv⟩) (by omega) (sF rfl) sr))))
   ·replace hc3:=of_decide_eq_false hc3
    refine AE.exit (AC.then_exit (AC.round3_exit (AC.in_exit (q2 (AQ rfl ?_)))))
    refine CN Tryz.call110 (λw hw=>H6 _ ((nw a)+1) ((nw a)+1) os hw32 (by first|omega|(rw [rowN_length];omega)|simp|(simp;omega)) (by first|omega|simp|(simp;omega)) (by first|omega|simp|(simp;omega)) w (hw.get (i:=0) rfl)) rfl (AD.retell (k:=79) (u:=(aG (AY (a+b)))) rfl (by rw [List.take_of_length_le (show os.length<=nw a+1 by omega),MK (X:=a) (Y:=b) (c:=c) (i:=i) hl hw32 (by omega) (ST (by omega)) (by rw [hv,Cr (by omega)])]) (H8 rfl Tryz.sizeOf42 rfl (AD.nil (AC.subF (sL [4,8,9,52,53,10] rfl) (AC.then_ ?_)))))
    exact AE.ret (AJ rfl (Au (i:=3) (cs:=AY (a+b)) rfl rfl Tryz.isAgg42 Tryz.sizeOf42 rfl) (λw hw=>⟨rfl,hw.out⟩))
end
end Go.Proofs.YtpgncndhhhllfaaGreatDoor
