import Derived.Test.YtfbomiejpbchdaaGreatPart06
import Derived.Test.YtfbomiejpbchdaaGreatPart10
namespace Go.Proofs.YtfbomiejpbchdaaGreat
open Go Go.RowKit
set_option linter.unusedVariables false
set_option linter.unusedSimpArgs false
section
set_option maxRecDepth 100000
theorem Sm (a b:Nat) (ha:nw a<=1099511627776) (hb:nw b<=1099511627776) (w:World)  :Calls Tryz.prog 194 #[(aG (AZ a)),(aG (AZ b))] w (Am w (vI (Ft a b))):=by
 refine Ac (args:=[(aG (AZ a)),(aG (AZ b))]) Tryz.func194 rfl rfl (Ad rfl) (AG.subF (sL [0,1] rfl) (q4 (Bl (cs:=AZ a) rfl λb1=>Bl (cs:=AZ b) rfl λb2=>AK rfl ?_)))
 refine q6 (sL [2,3,4] rfl) (q4 (AJ (v:=(pP b1 1)) (AA rfl Tryz.underlying47 rfl Tryz.sizeOf9 rfl) rfl (BL 1 (Value.string (Bn a)) UF rfl (AJ (CD (c:=(decide (a<18446744073709551616))) rfl rfl Cy) rfl (AO rfl ?_)))))
 refine AF.mid (FM:=[(2,(pP b1 0)),(3,(pP b2 0)),(4,(vI 0)),(5,(pP b1 1)),(6,(Value.string (Bn a))),(7,(Value.bool (decide (a<18446744073709551616)))),(8,(Value.bool (decide (a<18446744073709551616)))),(12,(Value.bool ((decide (a<18446744073709551616))&&(decide (b<18446744073709551616)))))]) (LM:=[Ah b2 47 (AZ b),Ah b1 47 (AZ a)]) 4 ?_ ?_
 ·rcases Bool.eq_false_or_eq_true (decide (a<18446744073709551616)) with hg1|hg1
  ·skip
   refine AF.retell (k:=8) (u:=Value.bool true) rfl (by rw [hg1]) ?_
   have hg1':=hg1
   replace hg1':=of_decide_eq_true hg1'
   exact AF.step (v:=(pP b2 1)) (AB rfl) (AA rfl Tryz.underlying47 rfl Tryz.sizeOf9 rfl) rfl (Ad rfl) (AF.step (v:=(Value.string (Bn b))) (AB rfl) (AM (i:=0) (v:=(Value.string (Bn b))) rfl rfl UF.a rfl) rfl (Ad rfl) (AF.step (v:=(Value.bool (decide (b<18446744073709551616)))) (AB rfl) (CD (c:=(decide (b<18446744073709551616))) rfl rfl Cy) rfl (Ad rfl) (AJ (v:=(Value.bool (decide (b<18446744073709551616)))) (Aj rfl rfl) rfl (AF.nil (AC.mid (sS rfl (sS rfl (sS rfl (sS rfl (sS rfl (sS rfl (sS (by first|rfl|(rw [hg1];rfl)|rw [hg1]) (sS (by first|rfl|(rw [hg1];rfl)|rw [hg1]) (sN))))))))) (List.Sublist.refl _))))))
  ·skip
   refine AF.retell (k:=8) (u:=Value.bool false) rfl (by rw [hg1]) ?_
   have hg1':=hg1
   replace hg1':=of_decide_eq_false hg1'
   exact AF.skip (AP rfl) rfl (Ad rfl) (AF.skip (AP rfl) rfl (Ad rfl) (AF.skip (AP rfl) rfl (Ad rfl) (AJ (v:=(Value.bool false)) (AV rfl rfl) rfl (AF.nil (AC.mid (sS rfl (sS rfl (sS rfl (sS rfl (sS rfl (sS rfl (sS (by first|rfl|(rw [hg1];rfl)|rw [hg1]) (sS (by first|rfl|(rw [hg1];rfl)|rw [hg1]) (sN))))))))) (List.Sublist.refl _))))))
 refine AF.nil (AC.subF (sL [2,3,4,12] rfl) (AC.then_ ?_))
 refine AG.jn0 (tg True) (tg [(2,(pP b1 0)),(3,(pP b2 0))]) (tg [Ah b2 47 (AZ b),Ah b1 47 (AZ a)]) ?_ ?_
 ·skip
  refine AG.cond rfl (λhc0=>?_) (λhc0=>?_)
  ·simp only [Bool.and_eq_true,Bool.or_eq_true,Bool.and_eq_false_iff,Bool.or_eq_false_iff,Bool.not_eq_true',Bool.not_eq_false',decide_eq_true_eq,decide_eq_false_iff_not] at hc0
   refine AG.seq (AG.block (q4 (AJ (v:=(pP b1 0)) (AA rfl Tryz.underlying47 rfl Tryz.sizeOf45 rfl) rfl (BL 1 (vK .u64 (CC a)) HL rfl (AF.retell (k:=15) (u:=(vK .u64 a)) rfl (by rw [Bm hc0.1]) ?_)))))
   refine AJ (v:=(pP b2 0)) (AA rfl Tryz.underlying47 rfl Tryz.sizeOf45 rfl) rfl (BL 0 (vK .u64 (CC b)) HL rfl (AF.retell (k:=17) (u:=(vK .u64 b)) rfl (by rw [Bm hc0.2]) (AJ (Af (c:=(decide (a<b))) rfl rfl (DL (a:=a) (b:=b))) rfl (AK rfl (AF.nil ?_)))))
   refine AC.subF (sL [2,3,4,13] rfl) (AC.then_ ?_)
   refine AG.cond rfl (λhc1=>?_) (λhc1=>?_)
   ·replace hc1:=of_decide_eq_true hc1
    have hz:Ft a b = -1:=if_pos hc1
    refine q4 (AK rfl (AF.nil (AC.then_ (AG.ret (AC.in_ret ?_)))))
    exact AC.then_ret (AC.join0_ret (AC.then_ret (AR rfl (Ai (v:=(vI (-1:Int))) rfl) (λw hw=>⟨by rw [hz],hw.out⟩))))
   ·replace hc1:=of_decide_eq_false hc1
    refine q4 (AJ (v:=(pP b1 0)) (AA rfl Tryz.underlying47 rfl Tryz.sizeOf45 rfl) rfl (BL 1 (vK .u64 (CC a)) HL rfl (AF.retell (k:=21) (u:=(vK .u64 a)) rfl (by rw [Bm hc0.1]) (AJ (v:=(pP b2 0)) (AA rfl Tryz.underlying47 rfl Tryz.sizeOf45 rfl) rfl (BL 0 (vK .u64 (CC b)) HL rfl ?_)))))
    refine AF.retell (k:=23) (u:=(vK .u64 b)) rfl (by rw [Bm hc0.2]) (AJ (CK (c:=(decide (b<a))) rfl rfl (DL (a:=b) (b:=a))) rfl (AK rfl (AF.nil (AC.subF (sL [2,3,4,19] rfl) (AC.then_ ?_)))))
    refine AG.cond rfl (λhc2=>?_) (λhc2=>?_)
    ·replace hc2:=of_decide_eq_true hc2
     have hz:Ft a b=1:=by unfold Ft;rw [if_neg (by omega),if_neg (by omega)]
     refine q4 (AK rfl (AF.nil (AC.then_ (AG.ret (AC.in_ret ?_)))))
     exact AC.then_ret (AC.join0_ret (AC.then_ret (AR rfl (Ai (v:=(vI 1)) rfl) (λw hw=>⟨by rw [hz],hw.out⟩))))
    ·replace hc2:=of_decide_eq_false hc2
     have hz:Ft a b=0:=QG.2 (by omega)
     refine AG.skip (AC.in_normal (q2 (AK rfl (AF.nil (AC.then_ ?_)))))
     exact AG.ret (AC.join0_ret (AC.then_ret (AR rfl (Ai (v:=(vI 0)) rfl) (λw hw=>⟨by rw [hz],hw.out⟩))))
  ·simp only [Bool.and_eq_true,Bool.or_eq_true,Bool.and_eq_false_iff,Bool.or_eq_false_iff,Bool.not_eq_true',Bool.not_eq_false',decide_eq_true_eq,decide_eq_false_iff_not] at hc0
   exact AG.skip (AC.join0  (trivial) (sF rfl) sr)
 ·intro hJ
  refine q1 (Cq [(0,true),(2,true),(1,false),(3,false),(4,false),(5,true)] sr (Fz 1 CE rfl (Fz 0 CE rfl (AS.imp rfl (AF.callB (V:=λb3=>(Value.slice (some ⟨b3,0,none⟩) (nw a) ((A8 a).length))) (T:=101) (cs:=Ao (A8 a)) (AN rfl) (Aq (args:=[(aG (AZ a))]) rfl rfl Tryz.call150) (λw hw=>DC a (by omega) w) rfl (Ad rfl) λb3=>?_)))))
  refine AS.back (sl sr) (AS.imp rfl (AF.callB (V:=λb4=>(Value.slice (some ⟨b4,0,none⟩) (nw b) ((A8 b).length))) (T:=101) (cs:=Ao (A8 b)) (AN rfl) (Aq (args:=[(aG (AZ b))]) rfl rfl Tryz.call150) (λw hw=>DC b (by omega) w) rfl (Ad rfl) λb4=>AS.back (sl (sl sr)) (AS.imp rfl (Ey Tryz.call237 (λw hw=>X7 a b _ _ _ _ (by omega) (by omega) w (hw.get (i:=1) rfl) (hw.get (i:=0) rfl)) rfl ?_))))
  exact AS.back (sl (sl sr)) (FO rfl (AS.nil (AC.subF (sL [2,3,4] rfl) (AC.then_ (AG.ret (AR rfl (Ai (v:=(vI (Ft a b))) rfl) (λw hw=>⟨rfl,hw.out⟩)))))))
theorem TF (a b:Nat) (ha:nw a<=1099511627776) (hb:nw b<=1099511627776) (w:World)  :Calls Tryz.prog 151 #[(aG (AZ a)),(aG (AZ b))] w (Am w (aG (AZ (a+b)))):=by
 have hla:=CN a
 have hlb:=CN b
 refine Ac (args:=[(aG (AZ a)),(aG (AZ b))]) Tryz.func151 rfl rfl (Ad rfl) (AG.subF (sL [0,1] rfl) (q4 (Bl (cs:=AZ a) rfl λb1=>Bl (cs:=AZ b) rfl λb2=>al GD rfl λb3=>?_)))
 refine q6 (sL [2,3,4] rfl) (q4 (AJ (v:=(pP b1 1)) (AA rfl Tryz.underlying47 rfl Tryz.sizeOf9 rfl) rfl (BL 2 (Value.string (Bn a)) UF rfl (AJ (CD (c:=(decide (a<18446744073709551616))) rfl rfl Cy) rfl (AO rfl ?_)))))
 refine AF.mid (FM:=[(2,(pP b1 0)),(3,(pP b2 0)),(4,(pP b3 0)),(13,(pP b1 1)),(14,(Value.string (Bn a))),(15,(Value.bool (decide (a<18446744073709551616)))),(16,(Value.bool (decide (a<18446744073709551616)))),(20,(Value.bool ((decide (a<18446744073709551616))&&(decide (b<18446744073709551616)))))]) (LM:=[Ah b3 47 (AZ 0),Ah b2 47 (AZ b),Ah b1 47 (AZ a)]) 4 ?_ ?_
 ·rcases Bool.eq_false_or_eq_true (decide (a<18446744073709551616)) with hg1|hg1
  ·skip
   refine AF.retell (k:=16) (u:=Value.bool true) rfl (by rw [hg1]) ?_
   have hg1':=hg1
   replace hg1':=of_decide_eq_true hg1'
   exact AF.step (v:=(pP b2 1)) (AB rfl) (AA rfl Tryz.underlying47 rfl Tryz.sizeOf9 rfl) rfl (Ad rfl) (AF.step (v:=(Value.string (Bn b))) (AB rfl) (AM (i:=1) (v:=(Value.string (Bn b))) rfl rfl UF.a rfl) rfl (Ad rfl) (AF.step (v:=(Value.bool (decide (b<18446744073709551616)))) (AB rfl) (CD (c:=(decide (b<18446744073709551616))) rfl rfl Cy) rfl (Ad rfl) (AJ (v:=(Value.bool (decide (b<18446744073709551616)))) (Aj rfl rfl) rfl (AF.nil (AC.mid (sS rfl (sS rfl (sS rfl (sS rfl (sS rfl (sS rfl (sS (by first|rfl|(rw [hg1];rfl)|rw [hg1]) (sS (by first|rfl|(rw [hg1];rfl)|rw [hg1]) (sN))))))))) (List.Sublist.refl _))))))
  ·skip
   refine AF.retell (k:=16) (u:=Value.bool false) rfl (by rw [hg1]) ?_
   have hg1':=hg1
   replace hg1':=of_decide_eq_false hg1'
   exact AF.skip (AP rfl) rfl (Ad rfl) (AF.skip (AP rfl) rfl (Ad rfl) (AF.skip (AP rfl) rfl (Ad rfl) (AJ (v:=(Value.bool false)) (AV rfl rfl) rfl (AF.nil (AC.mid (sS rfl (sS rfl (sS rfl (sS rfl (sS rfl (sS rfl (sS (by first|rfl|(rw [hg1];rfl)|rw [hg1]) (sS (by first|rfl|(rw [hg1];rfl)|rw [hg1]) (sN))))))))) (List.Sublist.refl _))))))
 refine AF.nil (AC.subF (sL [2,3,4,20] rfl) (AC.then_ ?_))
 refine AG.jn0 (tg True) (tg [(2,(pP b1 0)),(3,(pP b2 0)),(4,(pP b3 0))]) (tg [Ah b3 47 (AZ 0),Ah b2 47 (AZ b),Ah b1 47 (AZ a)]) ?_ ?_
 ·skip
  refine AG.cond rfl (λhc0=>?_) (λhc0=>?_)
  ·simp only [Bool.and_eq_true,Bool.or_eq_true,Bool.and_eq_false_iff,Bool.or_eq_false_iff,Bool.not_eq_true',Bool.not_eq_false',decide_eq_true_eq,decide_eq_false_iff_not] at hc0
   refine q4 (AJ (v:=(pP b1 0)) (AA rfl Tryz.underlying47 rfl Tryz.sizeOf45 rfl) rfl (BL 2 (vK .u64 (CC a)) HL rfl (AF.retell (k:=23) (u:=(vK .u64 a)) rfl (by rw [Bm hc0.1]) (AJ (v:=(pP b2 0)) (AA rfl Tryz.underlying47 rfl Tryz.sizeOf45 rfl) rfl (BL 1 (vK .u64 (CC b)) HL rfl ?_)))))
   refine AF.retell (k:=25) (u:=(vK .u64 b)) rfl (by rw [Bm hc0.2]) (AJ (v:=(Value.tuple #[(vK .u64 ((a+b+0)%18446744073709551616)),(vK .u64 ((a+b+0)/18446744073709551616))])) (Q5 (args:=[(vK .u64 a),(vK .u64 b),(Value.int .u64 (0:Int))]) rfl rfl (λw=>Rb Tryz.func199 (by kernel_rfl) (by kernel_rfl) (by kernel_rfl) (by kernel_rfl) a b 0 (by omega) w)) rfl (AO rfl (AJ (AT (v:=(vK .u64 ((a+b+0)%18446744073709551616))) rfl rfl) rfl (AJ (AT (v:=(vK .u64 ((a+b+0)/18446744073709551616))) rfl rfl) rfl (AK rfl ?_)))))
   refine AK rfl (q3 (sL [2,3,4,5,6] rfl) (AO rfl (AJ (Be (c:=(decide (((a+b+0)/18446744073709551616)=0))) rfl rfl (Og (a:=(a+b+0)/18446744073709551616) (b:=0))) rfl (AF.nil (AC.subF (sL [2,3,4,5,30] rfl) ?_)))))
   refine AC.then_ ?_
   refine AG.cond rfl (λhc1=>?_) (λhc1=>?_)
   ·replace hc1:=of_decide_eq_true hc1
    refine q4 (AO rfl (AJ (v:=(aG ([(vK .u64 ((a+b+0)%18446744073709551616)),(Value.string (Bn 0))]))) (AY (zs:=AZ 0) (vs:=[(vK .u64 ((a+b+0)%18446744073709551616)),(Value.string (Bn 0))]) (pv:=[(0,(vK .u64 ((a+b+0)%18446744073709551616)))]) (places:=[(0,1),(1,1)]) Tryz.zeroValue47 Tryz.underlying47 (λw=>by simp [Tryz.sizeOf9,Tryz.sizeOf45]) rfl rfl) rfl (AF.retell (k:=32) (u:=(aG (AZ (a+b)))) rfl (by rw [Dl (by omega),show (a+b+0)%18446744073709551616=a+b by omega];rfl) (Ap rfl Tryz.sizeOf47 rfl (AF.nil ?_)))))
    exact AC.subF (sL [2,3,4] rfl) (AC.then_ (AG.ret (AC.join0_ret (AC.then_ret (AR rfl (Ay (i:=0) (cs:=AZ (a+b)) rfl rfl Tryz.isAgg47 Tryz.sizeOf47 rfl) (λw hw=>⟨rfl,hw.out⟩))))))
   ·replace hc1:=of_decide_eq_false hc1
    exact AG.skip (AC.join0  (trivial) (sF rfl) sr)
  ·simp only [Bool.and_eq_true,Bool.or_eq_true,Bool.and_eq_false_iff,Bool.or_eq_false_iff,Bool.not_eq_true',Bool.not_eq_false',decide_eq_true_eq,decide_eq_false_iff_not] at hc0
   exact AG.skip (AC.join0  (trivial) (sF rfl) sr)
 ·intro hJ
  refine q1 (Cq [(0,true),(2,true),(1,false),(3,false),(4,true),(5,true)] sr (Fz 2 CE rfl (Fz 1 CE rfl (AS.imp rfl (AF.callB (V:=λb4=>(Value.slice (some ⟨b4,0,none⟩) (nw a) ((A8 a).length))) (T:=101) (cs:=Ao (A8 a)) (AN rfl) (Aq (args:=[(aG (AZ a))]) rfl rfl Tryz.call150) (λw hw=>DC a (by omega) w) rfl (Ad rfl) λb4=>?_)))))
  refine AS.back (sl sr) (AS.imp rfl (AF.callB (V:=λb5=>(Value.slice (some ⟨b5,0,none⟩) (nw b) ((A8 b).length))) (T:=101) (cs:=Ao (A8 b)) (AN rfl) (Aq (args:=[(aG (AZ b))]) rfl rfl Tryz.call150) (λw hw=>DC b (by omega) w) rfl (Ad rfl) λb5=>AS.back (sl (sl sr)) (FO rfl (FO rfl ?_))))
  refine AS.nil (AC.subF (sL [2,3,4,7,8] rfl) (q1 (q4 (AO rfl (AJ (v:=(vN (nw a))) (AI rfl Tryz.underlying232) rfl ?_)))))
  refine AO rfl (AJ (v:=(vN (nw b))) (AI rfl Tryz.underlying232) rfl (AJ (Af (c:=(decide ((nw a)<(nw b)))) rfl rfl (DL (a:=nw a) (b:=nw b))) rfl (AF.nil (AC.subF (sL [2,3,4,7,8,41] rfl) (AC.then_ ?_)))))
  refine AG.cond rfl (λhc2=>?_) (λhc2=>?_)
  ·replace hc2:=of_decide_eq_true hc2
   refine AG.region (AO rfl (AO rfl (AK rfl (AK rfl (q3 (sL [2,3,4,7,8] rfl) ?_)))))
   refine AO rfl (AJ (v:=(vN (nw b))) (AI rfl Tryz.underlying232) rfl (AJ (AX (c:=(((nw b)+1:Nat):Int)) rfl rfl (Ab (a:=nw b) (b:=1) (by omega))) rfl (AF.openV (V:=λb6=>(Value.slice (some ⟨b6,0,none⟩) ((nw b)+1) ((nw b)+1))) (T:=101) (cs:=Ao (List.replicate ((nw b)+1) 0)) (AN rfl) (DF (m:=(nw b)+1) (c:=(nw b)+1) rfl rfl (by omega) (by omega)) rfl (Ad rfl) λb6=>AK rfl (q3 (sL [2,3,4,7,8,9] rfl) ?_))))
   refine AO rfl (AO rfl (AF.copy_u32 (i:=0) (j:=1) (ns:=Ao (AL b)) (cs':=Ao (AL b++(List.replicate (nw b+1) 0).drop (AL b).length)) (L':=[Ah b6 101 (Ao (AL b++(List.replicate (nw b+1) 0).drop (AL b).length)),Ah b5 101 (Ao (A8 b)),Ah b4 101 (Ao (A8 a)),Ah b3 47 (AZ 0),Ah b2 47 (AZ b),Ah b1 47 (AZ a)]) rfl (AN rfl) rfl rfl rfl rfl (by rw [L8,IP]) (BV _) (Ny _) (by omega) (by rw [BV];simp;try omega) (OA _ _) rfl (Ad rfl) (q3 (sL [2,3,4,7,8,9] rfl) (AK rfl (AF.nil ?_)))))
   refine q1 (q4 (AO rfl (AJ (v:=(vN ((nw b)+1))) (AI rfl Tryz.underlying232) rfl (AO rfl (AF.nil ?_)))))
   refine AC.subF (sL [2,3,4,7,8,9,10,52,53] rfl) (AC.then_ (AG.block ?_))
   refine AG.lp3 (tg λ(i:Nat) (os:List Nat) (c:Nat)=>i<=nw b+1/\os.length=nw b+1/\W32 os/\c<=1/\val os+c*4294967296^i=b+val ((AL a).take i)) (tg λ(i:Nat) (os:List Nat) (c:Nat)=>[(4,(pP b3 0)),(8,(Value.slice (some ⟨b4,0,none⟩) (nw a) ((A8 a).length))),(9,(Value.slice (some ⟨b6,0,none⟩) ((nw b)+1) ((nw b)+1))),(52,(vN ((nw b)+1))),(53,(vN i)),(10,(vK .u32 c))]) (tg λ(i:Nat) (os:List Nat) (c:Nat)=>[Ah b6 101 (Ao os),Ah b5 101 (Ao (A8 b)),Ah b4 101 (Ao (A8 a)),Ah b3 47 (AZ 0),Ah b2 47 (AZ b),Ah b1 47 (AZ a)]) (tg λ(i:Nat) (os:List Nat) (c:Nat)=>nw b+1-i) 0 (AL b++(List.replicate (nw b+1) 0).drop (AL b).length) 0 (⟨Nat.zero_le _,(Fl b 1).1,(Fl b 1).2.1,by omega,by rw [(Fl b 1).2.2];simp [val]⟩) (sF rfl) sr (λi os c hJ=>?_)
   obtain ⟨hi,hl,hw32,hcc,hv⟩:=hJ
   refine q4 (AJ (Af (c:=(decide (i<((nw b)+1)))) rfl rfl (DL (a:=i) (b:=(nw b)+1))) rfl (AF.nil (q1 ?_)))
   refine AG.cond rfl (λhc3=>?_) (λhc3=>?_)
   ·replace hc3:=of_decide_eq_true hc3
    refine AG.skip (q1 (AG.block (q4 (AO rfl (AK rfl ?_)))))
    refine q3 (sL [4,8,9,52,53,10,11] rfl) (AK rfl (AF.nil (q1 (q4 (AO rfl ?_)))))
    refine AO rfl (AJ (v:=(vN (nw a))) (AI rfl Tryz.underlying232) rfl (AJ (Af (c:=(decide (i<(nw a)))) rfl rfl (DL (a:=i) (b:=nw a))) rfl (AF.nil (AC.subF (sL [4,8,9,52,53,10,11,12,59] rfl) (AC.then_ ?_)))))
    refine AG.jn0 (tg True) (tg [(4,(pP b3 0)),(8,(Value.slice (some ⟨b4,0,none⟩) (nw a) ((A8 a).length))),(9,(Value.slice (some ⟨b6,0,none⟩) ((nw b)+1) ((nw b)+1))),(52,(vN ((nw b)+1))),(53,(vN i)),(10,(vK .u32 c)),(11,(vN i)),(12,(vK .u32 ((AL a).getD i 0)))]) (tg [Ah b6 101 (Ao os),Ah b5 101 (Ao (A8 b)),Ah b4 101 (Ao (A8 a)),Ah b3 47 (AZ 0),Ah b2 47 (AZ b),Ah b1 47 (AZ a)]) ?_ ?_
    ·skip
     refine AG.cond rfl (λhc4=>?_) (λhc4=>?_)
     ·replace hc4:=of_decide_eq_true hc4
      refine AG.region (AO rfl (AO rfl (AJ (v:=(pP b4 i)) (AH (j:=i) rfl rfl Tryz.underlying232 Tryz.sizeOf101 rfl (by omega) (by simp)) rfl ?_)))
      have hx1:(A8 a).getD i 0<4294967296:=W32.getD (CU a) i
      exact AJ (AM (i:=2) (v:=(vK .u32 ((A8 a).getD i 0))) rfl rfl Tryz.isAgg101 (BM (xs:=A8 a) (j:=i) (by omega))) rfl (AF.retell (k:=63) (u:=(vK .u32 ((AL a).getD i 0))) rfl (by rw [Da hc4]) (AK rfl (AF.nil (AC.subF (sL [4,8,9,52,53,10,11,12] rfl) (AC.join0  (trivial) (sF rfl) sr)))))
     ·replace hc4:=of_decide_eq_false hc4
      exact AG.skip (AC.retell (k:=12) (u:=Value.int .u32 (((AL a).getD i 0:Nat):Int)) rfl (by rw [Ek hc4];rfl) (AC.join0  (trivial) (sF rfl) sr))
    ·intro hJ
     refine AC.then_ (AG.region (AO rfl (AO rfl (AO rfl (AO rfl ?_)))))
     refine AJ (v:=(pP b6 i)) (AH (j:=i) rfl rfl Tryz.underlying232 Tryz.sizeOf101 rfl (by omega) (by simp)) rfl ?_
     have hx2:os.getD i 0<4294967296:=W32.getD hw32 i
     refine AJ (AM (i:=0) (v:=(vK .u32 (os.getD i 0))) rfl rfl Tryz.isAgg101 (BM (xs:=os) (j:=i) (by omega))) rfl (AO rfl (AO rfl ?_))
     have hya:=(Bv a).getD i
     have hyb:=(Bv b).getD i
     refine BU Tryz.call200 (Kw (os.getD i 0) ((AL a).getD i 0) c (by omega) (by omega) (by omega)) rfl (AO rfl (AJ (AT (v:=(vK .u32 (((os.getD i 0)+((AL a).getD i 0)+c)%4294967296))) rfl rfl) rfl (AJ (AT (v:=(vK .u32 (((os.getD i 0)+((AL a).getD i 0)+c)/4294967296))) rfl rfl) rfl (AJ (v:=(pP b6 i)) (AH (j:=i) rfl rfl Tryz.underlying232 Tryz.sizeOf101 rfl (by omega) (by simp)) rfl (AF.store' (i:=0) (off:=i) (vs:=[(vK .u32 (((os.getD i 0)+((AL a).getD i 0)+c)%4294967296))]) (cs':=Ao (os.set i (((os.getD i 0)+((AL a).getD i 0)+c)%4294967296))) (L':=[Ah b6 101 (Ao (os.set i (((os.getD i 0)+((AL a).getD i 0)+c)%4294967296))),Ah b5 101 (Ao (A8 b)),Ah b4 101 (Ao (A8 a)),Ah b3 47 (AZ 0),Ah b2 47 (AZ b),Ah b1 47 (AZ a)]) (AN rfl) rfl rfl rfl rfl rfl Tryz.sizeOf101 rfl (Ch (BV _) (by omega)) (CI (by omega)) rfl ?_)))))
     refine AK rfl (AF.nil (AC.subF (sL [4,8,9,52,53,10,11,12] rfl) (AC.in_normal (AC.then_ (AG.region ?_)))))
     exact AJ (AX (c:=((i+1:Nat):Int)) rfl rfl (Ab (a:=i) (b:=1) (by omega))) rfl (AO rfl (AF.nil (AC.subF (sL [4,8,9,52,53,10,11,12] rfl) (AC.round3 (i+1) (os.set i ((os.getD i 0+(AL a).getD i 0+c)%4294967296)) ((os.getD i 0+(AL a).getD i 0+c)/4294967296) (⟨by omega,by rw [List.length_set];exact hl,W32.set hw32 (by omega) i,by omega,N8 hl hc3 hv⟩) (by omega) (sF rfl) sr))))
   ·replace hc3:=of_decide_eq_false hc3
    refine AG.exit (AC.then_exit (AC.round3_exit (AC.in_exit (q2 (AO rfl ?_)))))
    refine Ey Tryz.call149 (λw hw=>JH _ ((nw b)+1) ((nw b)+1) os hw32 (by first|omega|(rw [rowN_length];omega)|simp|(simp;omega)) (by first|omega|simp|(simp;omega)) (by first|omega|simp|(simp;omega)) w (hw.get (i:=0) rfl)) rfl (AF.retell (k:=79) (u:=(aG (AZ (a+b)))) rfl (by rw [List.take_of_length_le (show os.length<=nw b+1 by omega),OB (X:=b) (Y:=a) (c:=c) (i:=i) hl hw32 (by omega) (Ue (by omega)) (by rw [hv,DD (by omega)]),Nat.add_comm]) (KM rfl Tryz.sizeOf47 rfl (AF.nil (AC.subF (sL [4,8,9,52,53,10] rfl) (AC.then_ ?_)))))
    exact AG.ret (AR rfl (Ay (i:=3) (cs:=AZ (a+b)) rfl rfl Tryz.isAgg47 Tryz.sizeOf47 rfl) (λw hw=>⟨rfl,hw.out⟩))
  ·replace hc2:=of_decide_eq_false hc2
   refine AG.skip (q2 (AO rfl (AJ (v:=(vN (nw a))) (AI rfl Tryz.underlying232) rfl (AJ (AX (c:=(((nw a)+1:Nat):Int)) rfl rfl (Ab (a:=nw a) (b:=1) (by omega))) rfl (AF.openV (V:=λb6=>(Value.slice (some ⟨b6,0,none⟩) ((nw a)+1) ((nw a)+1))) (T:=101) (cs:=Ao (List.replicate ((nw a)+1) 0)) (AN rfl) (DF (m:=(nw a)+1) (c:=(nw a)+1) rfl rfl (by omega) (by omega)) rfl (Ad rfl) λb6=>?_)))))
   refine AK rfl (q3 (sL [2,3,4,7,8,9] rfl) (AO rfl (AO rfl (AF.copy_u32 (i:=0) (j:=2) (ns:=Ao (AL a)) (cs':=Ao (AL a++(List.replicate (nw a+1) 0).drop (AL a).length)) (L':=[Ah b6 101 (Ao (AL a++(List.replicate (nw a+1) 0).drop (AL a).length)),Ah b5 101 (Ao (A8 b)),Ah b4 101 (Ao (A8 a)),Ah b3 47 (AZ 0),Ah b2 47 (AZ b),Ah b1 47 (AZ a)]) rfl (AN rfl) rfl rfl rfl rfl (by rw [L8,IP]) (BV _) (Ny _) (by omega) (by rw [BV];simp;try omega) (OA _ _) rfl (Ad rfl) (q3 (sL [2,3,4,7,8,9] rfl) ?_)))))
   refine AK rfl (AF.nil (q1 (q4 (AO rfl (AJ (v:=(vN ((nw a)+1))) (AI rfl Tryz.underlying232) rfl ?_)))))
   refine AO rfl (AF.nil (AC.subF (sL [2,3,4,7,8,9,10,52,53] rfl) (AC.then_ (AG.block ?_))))
   refine AG.lp3 (tg λ(i:Nat) (os:List Nat) (c:Nat)=>i<=nw a+1/\os.length=nw a+1/\W32 os/\c<=1/\val os+c*4294967296^i=a+val ((AL b).take i)) (tg λ(i:Nat) (os:List Nat) (c:Nat)=>[(4,(pP b3 0)),(8,(Value.slice (some ⟨b5,0,none⟩) (nw b) ((A8 b).length))),(9,(Value.slice (some ⟨b6,0,none⟩) ((nw a)+1) ((nw a)+1))),(52,(vN ((nw a)+1))),(53,(vN i)),(10,(vK .u32 c))]) (tg λ(i:Nat) (os:List Nat) (c:Nat)=>[Ah b6 101 (Ao os),Ah b5 101 (Ao (A8 b)),Ah b4 101 (Ao (A8 a)),Ah b3 47 (AZ 0),Ah b2 47 (AZ b),Ah b1 47 (AZ a)]) (tg λ(i:Nat) (os:List Nat) (c:Nat)=>nw a+1-i) 0 (AL a++(List.replicate (nw a+1) 0).drop (AL a).length) 0 (⟨Nat.zero_le _,(Fl a 1).1,(Fl a 1).2.1,by omega,by rw [(Fl a 1).2.2];simp [val]⟩) (sF rfl) sr (λi os c hJ=>?_)
   obtain ⟨hi,hl,hw32,hcc,hv⟩:=hJ
   refine q4 (AJ (Af (c:=(decide (i<((nw a)+1)))) rfl rfl (DL (a:=i) (b:=(nw a)+1))) rfl (AF.nil (q1 ?_)))
   refine AG.cond rfl (λhc3=>?_) (λhc3=>?_)
   ·replace hc3:=of_decide_eq_true hc3
    refine AG.skip (q1 (AG.block (q4 (AO rfl (AK rfl ?_)))))
    refine q3 (sL [4,8,9,52,53,10,11] rfl) (AK rfl (AF.nil (q1 (q4 (AO rfl ?_)))))
    refine AO rfl (AJ (v:=(vN (nw b))) (AI rfl Tryz.underlying232) rfl (AJ (Af (c:=(decide (i<(nw b)))) rfl rfl (DL (a:=i) (b:=nw b))) rfl (AF.nil (AC.subF (sL [4,8,9,52,53,10,11,12,59] rfl) (AC.then_ ?_)))))
    refine AG.jn0 (tg True) (tg [(4,(pP b3 0)),(8,(Value.slice (some ⟨b5,0,none⟩) (nw b) ((A8 b).length))),(9,(Value.slice (some ⟨b6,0,none⟩) ((nw a)+1) ((nw a)+1))),(52,(vN ((nw a)+1))),(53,(vN i)),(10,(vK .u32 c)),(11,(vN i)),(12,(vK .u32 ((AL b).getD i 0)))]) (tg [Ah b6 101 (Ao os),Ah b5 101 (Ao (A8 b)),Ah b4 101 (Ao (A8 a)),Ah b3 47 (AZ 0),Ah b2 47 (AZ b),Ah b1 47 (AZ a)]) ?_ ?_
    ·skip
     refine AG.cond rfl (λhc4=>?_) (λhc4=>?_)
     ·replace hc4:=of_decide_eq_true hc4
      refine AG.region (AO rfl (AO rfl (AJ (v:=(pP b5 i)) (AH (j:=i) rfl rfl Tryz.underlying232 Tryz.sizeOf101 rfl (by omega) (by simp)) rfl ?_)))
      have hx3:(A8 b).getD i 0<4294967296:=W32.getD (CU b) i
      exact AJ (AM (i:=1) (v:=(vK .u32 ((A8 b).getD i 0))) rfl rfl Tryz.isAgg101 (BM (xs:=A8 b) (j:=i) (by omega))) rfl (AF.retell (k:=63) (u:=(vK .u32 ((AL b).getD i 0))) rfl (by rw [Da hc4]) (AK rfl (AF.nil (AC.subF (sL [4,8,9,52,53,10,11,12] rfl) (AC.join0  (trivial) (sF rfl) sr)))))
     ·replace hc4:=of_decide_eq_false hc4
      exact AG.skip (AC.retell (k:=12) (u:=Value.int .u32 (((AL b).getD i 0:Nat):Int)) rfl (by rw [Ek hc4];rfl) (AC.join0  (trivial) (sF rfl) sr))
    ·intro hJ
     refine AC.then_ (AG.region (AO rfl (AO rfl (AO rfl (AO rfl ?_)))))
     refine AJ (v:=(pP b6 i)) (AH (j:=i) rfl rfl Tryz.underlying232 Tryz.sizeOf101 rfl (by omega) (by simp)) rfl ?_
     have hx4:os.getD i 0<4294967296:=W32.getD hw32 i
     refine AJ (AM (i:=0) (v:=(vK .u32 (os.getD i 0))) rfl rfl Tryz.isAgg101 (BM (xs:=os) (j:=i) (by omega))) rfl (AO rfl (AO rfl ?_))
     have hya:=(Bv a).getD i
     have hyb:=(Bv b).getD i
     refine BU Tryz.call200 (Kw (os.getD i 0) ((AL b).getD i 0) c (by omega) (by omega) (by omega)) rfl (AO rfl (AJ (AT (v:=(vK .u32 (((os.getD i 0)+((AL b).getD i 0)+c)%4294967296))) rfl rfl) rfl (AJ (AT (v:=(vK .u32 (((os.getD i 0)+((AL b).getD i 0)+c)/4294967296))) rfl rfl) rfl (AJ (v:=(pP b6 i)) (AH (j:=i) rfl rfl Tryz.underlying232 Tryz.sizeOf101 rfl (by omega) (by simp)) rfl (AF.store' (i:=0) (off:=i) (vs:=[(vK .u32 (((os.getD i 0)+((AL b).getD i 0)+c)%4294967296))]) (cs':=Ao (os.set i (((os.getD i 0)+((AL b).getD i 0)+c)%4294967296))) (L':=[Ah b6 101 (Ao (os.set i (((os.getD i 0)+((AL b).getD i 0)+c)%4294967296))),Ah b5 101 (Ao (A8 b)),Ah b4 101 (Ao (A8 a)),Ah b3 47 (AZ 0),Ah b2 47 (AZ b),Ah b1 47 (AZ a)]) (AN rfl) rfl rfl rfl rfl rfl Tryz.sizeOf101 rfl (Ch (BV _) (by omega)) (CI (by omega)) rfl ?_)))))
     refine AK rfl (AF.nil (AC.subF (sL [4,8,9,52,53,10,11,12] rfl) (AC.in_normal (AC.then_ (AG.region ?_)))))
     exact AJ (AX (c:=((i+1:Nat):Int)) rfl rfl (Ab (a:=i) (b:=1) (by omega))) rfl (AO rfl (AF.nil (AC.subF (sL [4,8,9,52,53,10,11,12] rfl) (AC.round3 (i+1) (os.set i ((os.getD i 0+(AL b).getD i 0+c)%4294967296)) ((os.getD i 0+(AL b).getD i 0+c)/4294967296) (⟨by omega,by rw [List.length_set];exact hl,W32.set hw32 (by omega) i,by omega,N8 hl hc3 hv⟩) (by omega) (sF rfl) sr))))
   ·replace hc3:=of_decide_eq_false hc3
    refine AG.exit (AC.then_exit (AC.round3_exit (AC.in_exit (q2 (AO rfl ?_)))))
    refine Ey Tryz.call149 (λw hw=>JH _ ((nw a)+1) ((nw a)+1) os hw32 (by first|omega|(rw [rowN_length];omega)|simp|(simp;omega)) (by first|omega|simp|(simp;omega)) (by first|omega|simp|(simp;omega)) w (hw.get (i:=0) rfl)) rfl (AF.retell (k:=79) (u:=(aG (AZ (a+b)))) rfl (by rw [List.take_of_length_le (show os.length<=nw a+1 by omega),OB (X:=a) (Y:=b) (c:=c) (i:=i) hl hw32 (by omega) (Ue (by omega)) (by rw [hv,DD (by omega)])]) (KM rfl Tryz.sizeOf47 rfl (AF.nil (AC.subF (sL [4,8,9,52,53,10] rfl) (AC.then_ ?_)))))
    exact AG.ret (AR rfl (Ay (i:=3) (cs:=AZ (a+b)) rfl rfl Tryz.isAgg47 Tryz.sizeOf47 rfl) (λw hw=>⟨rfl,hw.out⟩))
end
end Go.Proofs.YtfbomiejpbchdaaGreat
