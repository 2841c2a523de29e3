import Derived.Test.YtpgncndhhhllfaaGreatPart03
import Derived.Test.YtpgncndhhhllfaaGreatPart08
namespace Go.Proofs.YtpgncndhhhllfaaGreat
open Go Go.RowKit Go.Proofs.Tryz
set_option linter.unusedVariables false
set_option linter.unusedSimpArgs false
section
set_option maxRecDepth 100000
theorem Um (a b:Nat) (ha:nw a<=1099511627776) (hb:nw b<=1099511627776) (w:World)  :Calls prog 137 #[(aG (Ae a)),(aG (Ae b))] w (Ak w (vI (C6 a b))):=by
 refine An (args:=[(aG (Ae a)),(aG (Ae b))]) func137 O O (AV O) (AE.subF (sL [0,1] O) (q4 (B0 (cs:=Ae a) O λb1=>B0 (cs:=Ae b) O λb2=>AI O (q6 (sL [2,3,4] O) (q4 (AK (v:=(pP b1 1)) (AB O underlying58 O sizeOf9 O) O (BL 1 (Value.string (Bi a)) U_ O (AK (B3 (c:=(decide (a<18446744073709551616))) O O Cf) O (AM O ?_)))))))))
 refine AC.mid (FM:=[(2,(pP b1 0)),(3,(pP b2 0)),(4,(vI 0)),(5,(pP b1 1)),(6,(Value.string (Bi a))),(7,(Value.bool (decide (a<18446744073709551616)))),(8,(Value.bool (decide (a<18446744073709551616)))),(12,(Value.bool ((decide (a<18446744073709551616))&&(decide (b<18446744073709551616)))))]) (LM:=[Ah b2 58 (Ae b),Ah b1 58 (Ae a)]) 4 ?_ ?_
 ·rcases Bool.eq_false_or_eq_true (decide (a<18446744073709551616)) with hg1|hg1
  ·skip
   refine AC.retell (k:=8) (u:=Value.bool true) O (by rw [hg1]) ?_
   have hg1':=hg1
   replace hg1':=of_decide_eq_true hg1'
   exact AC.step (v:=(pP b2 1)) (AA O) (AB O underlying58 O sizeOf9 O) O (AV O) (AC.step (v:=(Value.string (Bi b))) (AA O) (AN (i:=0) (v:=(Value.string (Bi b))) O O U_.a O) O (AV O) (AC.step (v:=(Value.bool (decide (b<18446744073709551616)))) (AA O) (B3 (c:=(decide (b<18446744073709551616))) O O Cf) O (AV O) (AK (v:=(Value.bool (decide (b<18446744073709551616)))) (AR O O) O (AC.nil (OkQ.mid (sS O (sS O (sS O (sS O (sS O (sS O (sS (by first|rfl|(rw [hg1];rfl)|rw [hg1]) (sS (by first|rfl|(rw [hg1];rfl)|rw [hg1]) (sN))))))))) (List.Sublist.refl _))))))
  ·skip
   refine AC.retell (k:=8) (u:=Value.bool false) O (by rw [hg1]) ?_
   have hg1':=hg1
   replace hg1':=of_decide_eq_false hg1'
   exact AC.skip (AD O) O (AV O) (AC.skip (AD O) O (AV O) (AC.skip (AD O) O (AV O) (AK (v:=(Value.bool false)) (AO O O) O (AC.nil (OkQ.mid (sS O (sS O (sS O (sS O (sS O (sS O (sS (by first|rfl|(rw [hg1];rfl)|rw [hg1]) (sS (by first|rfl|(rw [hg1];rfl)|rw [hg1]) (sN))))))))) (List.Sublist.refl _))))))
 refine AC.nil (OkQ.subF (sL [2,3,4,12] O) (OkQ.then_ ?_))
 refine AE.jn0 (tg True) (tg [(2,(pP b1 0)),(3,(pP b2 0))]) (tg [Ah b2 58 (Ae b),Ah b1 58 (Ae a)]) ?_ ?_
 ·skip
  refine AE.cond O (λhc0=>?_) (λhc0=>?_)
  ·simp only [Bool.and_eq_true,Bool.or_eq_true,Bool.and_eq_false_iff,Bool.or_eq_false_iff,Bool.not_eq_true',Bool.not_eq_false',decide_eq_true_eq,decide_eq_false_iff_not] at hc0
   refine AE.seq (AE.block (q4 (AK (v:=(pP b1 0)) (AB O underlying58 O sizeOf56 O) O (BL 1 (vK .u64 (B2 a)) Gg O (AC.retell (k:=15) (u:=(vK .u64 a)) O (by rw [Bf hc0.1]) (AK (v:=(pP b2 0)) (AB O underlying58 O sizeOf56 O) O (BL 0 (vK .u64 (B2 b)) Gg O (AC.retell (k:=17) (u:=(vK .u64 b)) O (by rw [Bf hc0.2]) (AK (Ad (c:=(decide (a<b))) O O (B7 (a:=a) (b:=b))) O (AI O (AC.nil ?_)))))))))))
   refine OkQ.subF (sL [2,3,4,13] O) (OkQ.then_ ?_)
   refine AE.cond O (λhc1=>?_) (λhc1=>?_)
   ·replace hc1:=of_decide_eq_true hc1
    have hz:C6 a b = -1:=if_pos hc1
    exact q4 (AI O (AC.nil (OkQ.then_ (AE.ret (OkQ.in_ret (OkQ.then_ret (OkQ.join0_ret (OkQ.then_ret (AS O (AZ (v:=(vI (-1:Int))) O) (λw hw=>⟨by rw [hz],hw.out⟩))))))))))
   ·replace hc1:=of_decide_eq_false hc1
    refine q4 (AK (v:=(pP b1 0)) (AB O underlying58 O sizeOf56 O) O (BL 1 (vK .u64 (B2 a)) Gg O (AC.retell (k:=21) (u:=(vK .u64 a)) O (by rw [Bf hc0.1]) (AK (v:=(pP b2 0)) (AB O underlying58 O sizeOf56 O) O (BL 0 (vK .u64 (B2 b)) Gg O (AC.retell (k:=23) (u:=(vK .u64 b)) O (by rw [Bf hc0.2]) (AK (CC (c:=(decide (b<a))) O O (B7 (a:=b) (b:=a))) O (AI O (AC.nil (OkQ.subF (sL [2,3,4,19] O) (OkQ.then_ ?_)))))))))))
    refine AE.cond O (λhc2=>?_) (λhc2=>?_)
    ·replace hc2:=of_decide_eq_true hc2
     have hz:C6 a b=1:=by unfold C6;rw [if_neg Z,if_neg Z]
     exact q4 (AI O (AC.nil (OkQ.then_ (AE.ret (OkQ.in_ret (OkQ.then_ret (OkQ.join0_ret (OkQ.then_ret (AS O (AZ (v:=(vI 1)) O) (λw hw=>⟨by rw [hz],hw.out⟩))))))))))
    ·replace hc2:=of_decide_eq_false hc2
     have hz:C6 a b=0:=Md.2 Z
     exact AE.skip (OkQ.in_normal (q2 (AI O (AC.nil (OkQ.then_ (AE.ret (OkQ.join0_ret (OkQ.then_ret (AS O (AZ (v:=(vI 0)) O) (λw hw=>⟨by rw [hz],hw.out⟩))))))))))
  ·simp only [Bool.and_eq_true,Bool.or_eq_true,Bool.and_eq_false_iff,Bool.or_eq_false_iff,Bool.not_eq_true',Bool.not_eq_false',decide_eq_true_eq,decide_eq_false_iff_not] at hc0
   exact AE.skip (OkQ.join0  (trivial) (sF O) sr)
 ·intro hJ
  refine q1 (Cu [(0,true),(2,true),(1,false),(3,false),(4,false),(5,true)] sr (Gx 1 Cl O (Gx 0 Cl O (OkE.imp O (AC.callB (V:=λb3=>(Value.slice (some ⟨b3,0,none⟩) (nw a) ((Ax a).length))) (T:=50) (cs:=Aq (Ax a)) (AT O) (Aw (args:=[(aG (Ae a))]) O O call138) (λw hw=>C2 a Z w) O (AV O) λb3=>OkE.back (sl sr) (OkE.imp O (AC.callB (V:=λb4=>(Value.slice (some ⟨b4,0,none⟩) (nw b) ((Ax b).length))) (T:=50) (cs:=Aq (Ax b)) (AT O) (Aw (args:=[(aG (Ae b))]) O O call138) (λw hw=>C2 b Z w) O (AV O) λb4=>OkE.back (sl (sl sr)) (OkE.imp O (Cc call155 (λw hw=>Xl a b _ _ _ _ Z Z w (hw.get (i:=1) O) (hw.get (i:=0) O)) O ?_)))))))))
  exact OkE.back (sl (sl sr)) (pS' O (OkE.nil (OkQ.subF (sL [2,3,4] O) (OkQ.then_ (AE.ret (AS O (AZ (v:=(vI (C6 a b))) O) (λw hw=>⟨rfl,hw.out⟩)))))))
theorem YS (a b:Nat) (ha:nw a<=1099511627776) (hb:nw b<=1099511627776) (w:World)  :Calls prog 114 #[(aG (Ae a)),(aG (Ae b))] w (Ak w (aG (Ae (a+b)))):=by
 have hla:=CE a
 have hlb:=CE b
 refine An (args:=[(aG (Ae a)),(aG (Ae b))]) func114 O O (AV O) (AE.subF (sL [0,1] O) (q4 (B0 (cs:=Ae a) O λb1=>B0 (cs:=Ae b) O λb2=>al GH O λb3=>q6 (sL [2,3,4] O) (q4 (AK (v:=(pP b1 1)) (AB O underlying58 O sizeOf9 O) O (BL 2 (Value.string (Bi a)) U_ O (AK (B3 (c:=(decide (a<18446744073709551616))) O O Cf) O (AM O ?_))))))))
 refine AC.mid (FM:=[(2,(pP b1 0)),(3,(pP b2 0)),(4,(pP b3 0)),(13,(pP b1 1)),(14,(Value.string (Bi a))),(15,(Value.bool (decide (a<18446744073709551616)))),(16,(Value.bool (decide (a<18446744073709551616)))),(20,(Value.bool ((decide (a<18446744073709551616))&&(decide (b<18446744073709551616)))))]) (LM:=[Ah b3 58 (Ae 0),Ah b2 58 (Ae b),Ah b1 58 (Ae a)]) 4 ?_ ?_
 ·rcases Bool.eq_false_or_eq_true (decide (a<18446744073709551616)) with hg1|hg1
  ·skip
   refine AC.retell (k:=16) (u:=Value.bool true) O (by rw [hg1]) ?_
   have hg1':=hg1
   replace hg1':=of_decide_eq_true hg1'
   exact AC.step (v:=(pP b2 1)) (AA O) (AB O underlying58 O sizeOf9 O) O (AV O) (AC.step (v:=(Value.string (Bi b))) (AA O) (AN (i:=1) (v:=(Value.string (Bi b))) O O U_.a O) O (AV O) (AC.step (v:=(Value.bool (decide (b<18446744073709551616)))) (AA O) (B3 (c:=(decide (b<18446744073709551616))) O O Cf) O (AV O) (AK (v:=(Value.bool (decide (b<18446744073709551616)))) (AR O O) O (AC.nil (OkQ.mid (sS O (sS O (sS O (sS O (sS O (sS O (sS (by first|rfl|(rw [hg1];rfl)|rw [hg1]) (sS (by first|rfl|(rw [hg1];rfl)|rw [hg1]) (sN))))))))) (List.Sublist.refl _))))))
  ·skip
   refine AC.retell (k:=16) (u:=Value.bool false) O (by rw [hg1]) ?_
   have hg1':=hg1
   replace hg1':=of_decide_eq_false hg1'
   exact AC.skip (AD O) O (AV O) (AC.skip (AD O) O (AV O) (AC.skip (AD O) O (AV O) (AK (v:=(Value.bool false)) (AO O O) O (AC.nil (OkQ.mid (sS O (sS O (sS O (sS O (sS O (sS O (sS (by first|rfl|(rw [hg1];rfl)|rw [hg1]) (sS (by first|rfl|(rw [hg1];rfl)|rw [hg1]) (sN))))))))) (List.Sublist.refl _))))))
 refine AC.nil (OkQ.subF (sL [2,3,4,20] O) (OkQ.then_ ?_))
 refine AE.jn0 (tg True) (tg [(2,(pP b1 0)),(3,(pP b2 0)),(4,(pP b3 0))]) (tg [Ah b3 58 (Ae 0),Ah b2 58 (Ae b),Ah b1 58 (Ae a)]) ?_ ?_
 ·skip
  refine AE.cond O (λhc0=>?_) (λhc0=>?_)
  ·simp only [Bool.and_eq_true,Bool.or_eq_true,Bool.and_eq_false_iff,Bool.or_eq_false_iff,Bool.not_eq_true',Bool.not_eq_false',decide_eq_true_eq,decide_eq_false_iff_not] at hc0
   refine q4 (AK (v:=(pP b1 0)) (AB O underlying58 O sizeOf56 O) O (BL 2 (vK .u64 (B2 a)) Gg O (AC.retell (k:=23) (u:=(vK .u64 a)) O (by rw [Bf hc0.1]) (AK (v:=(pP b2 0)) (AB O underlying58 O sizeOf56 O) O (BL 1 (vK .u64 (B2 b)) Gg O (AC.retell (k:=25) (u:=(vK .u64 b)) O (by rw [Bf hc0.2]) (AK (v:=(Value.tuple #[(vK .u64 ((a+b+0)%18446744073709551616)),(vK .u64 ((a+b+0)/18446744073709551616))])) (SK (args:=[(vK .u64 a),(vK .u64 b),(Value.int .u64 (0:Int))]) O O (λw=>Q9 func143 (by kernel_rfl) (by kernel_rfl) (by kernel_rfl) (by kernel_rfl) a b 0 Z w)) O (AM O (AK (AX (v:=(vK .u64 ((a+b+0)%18446744073709551616))) O O) O (AK (AX (v:=(vK .u64 ((a+b+0)/18446744073709551616))) O O) O (AI O ?_)))))))))))
   refine AI O (q3 (sL [2,3,4,5,6] O) (AM O (AK (BA (c:=(decide (((a+b+0)/18446744073709551616)=0))) O O (KW (a:=(a+b+0)/18446744073709551616) (b:=0))) O (AC.nil (OkQ.subF (sL [2,3,4,5,30] O) (OkQ.then_ ?_))))))
   refine AE.cond O (λhc1=>?_) (λhc1=>?_)
   ·replace hc1:=of_decide_eq_true hc1
    exact q4 (AM O (AK (v:=(aG ([(vK .u64 ((a+b+0)%18446744073709551616)),(Value.string (Bi 0))]))) (Aa (zs:=Ae 0) (vs:=[(vK .u64 ((a+b+0)%18446744073709551616)),(Value.string (Bi 0))]) (pv:=[(0,(vK .u64 ((a+b+0)%18446744073709551616)))]) (places:=[(0,1),(1,1)]) zeroValue58 underlying58 (λw=>by simp [sizeOf9,sizeOf56]) O O) O (AC.retell (k:=32) (u:=(aG (Ae (a+b)))) O (by rw [DF Z,show (a+b+0)%18446744073709551616=a+b by omega];rfl) (BP O sizeOf58 O (AC.nil (OkQ.subF (sL [2,3,4] O) (OkQ.then_ (AE.ret (OkQ.join0_ret (OkQ.then_ret (AS O (BH (i:=0) (cs:=Ae (a+b)) O O isAgg58 sizeOf58 O) (λw hw=>⟨rfl,hw.out⟩))))))))))))
   ·replace hc1:=of_decide_eq_false hc1
    exact AE.skip (OkQ.join0  (trivial) (sF O) sr)
  ·simp only [Bool.and_eq_true,Bool.or_eq_true,Bool.and_eq_false_iff,Bool.or_eq_false_iff,Bool.not_eq_true',Bool.not_eq_false',decide_eq_true_eq,decide_eq_false_iff_not] at hc0
   exact AE.skip (OkQ.join0  (trivial) (sF O) sr)
 ·intro hJ
  refine q1 (Cu [(0,true),(2,true),(1,false),(3,false),(4,true),(5,true)] sr (Gx 2 Cl O (Gx 1 Cl O (OkE.imp O (AC.callB (V:=λb4=>(Value.slice (some ⟨b4,0,none⟩) (nw a) ((Ax a).length))) (T:=50) (cs:=Aq (Ax a)) (AT O) (Aw (args:=[(aG (Ae a))]) O O call138) (λw hw=>C2 a Z w) O (AV O) λb4=>OkE.back (sl sr) (OkE.imp O (AC.callB (V:=λb5=>(Value.slice (some ⟨b5,0,none⟩) (nw b) ((Ax b).length))) (T:=50) (cs:=Aq (Ax b)) (AT O) (Aw (args:=[(aG (Ae b))]) O O call138) (λw hw=>C2 b Z w) O (AV O) λb5=>OkE.back (sl (sl sr)) (pS' O (pS' O ?_)))))))))
  refine OkE.nil (OkQ.subF (sL [2,3,4,7,8] O) (q1 (q4 (AM O (AK (v:=(vN (nw a))) (AF O underlying224) O (AM O (AK (v:=(vN (nw b))) (AF O underlying224) O (AK (Ad (c:=(decide ((nw a)<(nw b)))) O O (B7 (a:=nw a) (b:=nw b))) O (AC.nil (OkQ.subF (sL [2,3,4,7,8,41] O) (OkQ.then_ ?_)))))))))))
  refine AE.cond O (λhc2=>?_) (λhc2=>?_)
  ·replace hc2:=of_decide_eq_true hc2
   refine AE.region (AM O (AM O (AI O (AI O (q3 (sL [2,3,4,7,8] O) (AM O (AK (v:=(vN (nw b))) (AF O underlying224) O (AK (AY (c:=(((nw b)+1:Nat):Int)) O O (AU (a:=nw b) (b:=1) Z)) O (AC.openV (V:=λb6=>(Value.slice (some ⟨b6,0,none⟩) ((nw b)+1) ((nw b)+1))) (T:=50) (cs:=Aq (List.replicate ((nw b)+1) 0)) (AT O) (C1 (m:=(nw b)+1) (c:=(nw b)+1) O O Z Z) O (AV O) λb6=>AI O (q3 (sL [2,3,4,7,8,9] O) ?_))))))))))
   refine AM O (AM O (AC.copy_u32 (i:=0) (j:=1) (ns:=Aq (AQ b)) (cs':=Aq (AQ b++(List.replicate (nw b+1) 0).drop (AQ b).length)) (L':=[Ah b6 50 (Aq (AQ b++(List.replicate (nw b+1) 0).drop (AQ b).length)),Ah b5 50 (Aq (Ax b)),Ah b4 50 (Aq (Ax a)),Ah b3 58 (Ae 0),Ah b2 58 (Ae b),Ah b1 58 (Ae a)]) O (AT O) O O O O (by rw [La,Hs]) (BS _) (OE _) Z (by rw [BS];simp;try omega) (Nc _ _) O (AV O) (q3 (sL [2,3,4,7,8,9] O) (AI O (AC.nil (q1 (q4 (AM O (AK (v:=(vN ((nw b)+1))) (AF O underlying224) O (AM O (AC.nil ?_)))))))))))
   refine OkQ.subF (sL [2,3,4,7,8,9,10,52,53] O) (OkQ.then_ (AE.block ?_))
   refine AE.lp3 (tg λ(i:Nat) (os:List Nat) (c:Nat)=>i<=nw b+1/\os.length=nw b+1/\W32 os/\c<=1/\val os+c*4294967296^i=b+val ((AQ a).take i)) (tg λ(i:Nat) (os:List Nat) (c:Nat)=>[(4,(pP b3 0)),(8,(Value.slice (some ⟨b4,0,none⟩) (nw a) ((Ax a).length))),(9,(Value.slice (some ⟨b6,0,none⟩) ((nw b)+1) ((nw b)+1))),(52,(vN ((nw b)+1))),(53,(vN i)),(10,(vK .u32 c))]) (tg λ(i:Nat) (os:List Nat) (c:Nat)=>[Ah b6 50 (Aq os),Ah b5 50 (Aq (Ax b)),Ah b4 50 (Aq (Ax a)),Ah b3 58 (Ae 0),Ah b2 58 (Ae b),Ah b1 58 (Ae a)]) (tg λ(i:Nat) (os:List Nat) (c:Nat)=>nw b+1-i) 0 (AQ b++(List.replicate (nw b+1) 0).drop (AQ b).length) 0 (⟨Nat.zero_le _,(E1 b 1).1,(E1 b 1).2.1,Z,by rw [(E1 b 1).2.2];simp [val]⟩) (sF O) sr (λi os c hJ=>?_)
   obtain ⟨hi,hl,hw32,hcc,hv⟩:=hJ
   refine q4 (AK (Ad (c:=(decide (i<((nw b)+1)))) O O (B7 (a:=i) (b:=(nw b)+1))) O (AC.nil (q1 ?_)))
   refine AE.cond O (λhc3=>?_) (λhc3=>?_)
   ·replace hc3:=of_decide_eq_true hc3
    refine AE.skip (q1 (AE.block (q4 (AM O (AI O (q3 (sL [4,8,9,52,53,10,11] O) (AI O (AC.nil (q1 (q4 (AM O ?_)))))))))))
    refine AM O (AK (v:=(vN (nw a))) (AF O underlying224) O (AK (Ad (c:=(decide (i<(nw a)))) O O (B7 (a:=i) (b:=nw a))) O (AC.nil (OkQ.subF (sL [4,8,9,52,53,10,11,12,59] O) (OkQ.then_ ?_)))))
    refine AE.jn0 (tg True) (tg [(4,(pP b3 0)),(8,(Value.slice (some ⟨b4,0,none⟩) (nw a) ((Ax a).length))),(9,(Value.slice (some ⟨b6,0,none⟩) ((nw b)+1) ((nw b)+1))),(52,(vN ((nw b)+1))),(53,(vN i)),(10,(vK .u32 c)),(11,(vN i)),(12,(vK .u32 ((AQ a).getD i 0)))]) (tg [Ah b6 50 (Aq os),Ah b5 50 (Aq (Ax b)),Ah b4 50 (Aq (Ax a)),Ah b3 58 (Ae 0),Ah b2 58 (Ae b),Ah b1 58 (Ae a)]) ?_ ?_
    ·skip
     refine AE.cond O (λhc4=>?_) (λhc4=>?_)
     ·replace hc4:=of_decide_eq_true hc4
      refine AE.region (AM O (AM O (AK (v:=(pP b4 i)) (AP (j:=i) O O underlying224 sizeOf50 O Z (by simp)) O ?_)))
      have hx1:(Ax a).getD i 0<4294967296:=W32.getD (CJ a) i
      exact AK (AN (i:=2) (v:=(vK .u32 ((Ax a).getD i 0))) O O isAgg50 (BD (xs:=Ax a) (j:=i) Z)) O (AC.retell (k:=63) (u:=(vK .u32 ((AQ a).getD i 0))) O (by rw [DD hc4]) (AI O (AC.nil (OkQ.subF (sL [4,8,9,52,53,10,11,12] O) (OkQ.join0  (trivial) (sF O) sr)))))
     ·replace hc4:=of_decide_eq_false hc4
      exact AE.skip (OkQ.retell (k:=12) (u:=Value.int .u32 (((AQ a).getD i 0:Nat):Int)) O (by rw [Dz hc4];rfl) (OkQ.join0  (trivial) (sF O) sr))
    ·intro hJ
     refine OkQ.then_ (AE.region (AM O (AM O (AM O (AM O (AK (v:=(pP b6 i)) (AP (j:=i) O O underlying224 sizeOf50 O Z (by simp)) O ?_))))))
     have hx2:os.getD i 0<4294967296:=W32.getD hw32 i
     refine AK (AN (i:=0) (v:=(vK .u32 (os.getD i 0))) O O isAgg50 (BD (xs:=os) (j:=i) Z)) O (AM O (AM O ?_))
     have hya:=(Bn a).getD i
     have hyb:=(Bn b).getD i
     refine ck' call144 (KY (os.getD i 0) ((AQ a).getD i 0) c Z Z Z) O (AM O (AK (AX (v:=(vK .u32 (((os.getD i 0)+((AQ a).getD i 0)+c)%4294967296))) O O) O (AK (AX (v:=(vK .u32 (((os.getD i 0)+((AQ a).getD i 0)+c)/4294967296))) O O) O (AK (v:=(pP b6 i)) (AP (j:=i) O O underlying224 sizeOf50 O Z (by simp)) O (AC.store' (i:=0) (off:=i) (vs:=[(vK .u32 (((os.getD i 0)+((AQ a).getD i 0)+c)%4294967296))]) (cs':=Aq (os.set i (((os.getD i 0)+((AQ a).getD i 0)+c)%4294967296))) (L':=[Ah b6 50 (Aq (os.set i (((os.getD i 0)+((AQ a).getD i 0)+c)%4294967296))),Ah b5 50 (Aq (Ax b)),Ah b4 50 (Aq (Ax a)),Ah b3 58 (Ae 0),Ah b2 58 (Ae b),Ah b1 58 (Ae a)]) (AT O) O O O O O sizeOf50 O (CW (BS _) Z) (B9 Z) O (AI O (AC.nil (OkQ.subF (sL [4,8,9,52,53,10,11,12] O) (OkQ.in_normal (OkQ.then_ (AE.region ?_)))))))))))
     exact AK (AY (c:=((i+1:Nat):Int)) O O (AU (a:=i) (b:=1) Z)) O (AM O (AC.nil (OkQ.subF (sL [4,8,9,52,53,10,11,12] O) (OkQ.round3 (i+1) (os.set i ((os.getD i 0+(AQ a).getD i 0+c)%4294967296)) ((os.getD i 0+(AQ a).getD i 0+c)/4294967296) (⟨Z,by rw [List.length_set];exact hl,W32.set hw32 Z i,Z,Nm hl hc3 hv⟩) Z (sF O) sr))))
   ·replace hc3:=of_decide_eq_false hc3
    refine AE.exit (OkQ.then_exit (OkQ.round3_exit (OkQ.in_exit (q2 (AM O (Cc call140 (λw hw=>Ic _ ((nw b)+1) ((nw b)+1) os hw32 (by first|omega|(rw [rowN_length];omega)|simp|(simp;omega)) (by first|omega|simp|(simp;omega)) (by first|omega|simp|(simp;omega)) w (hw.get (i:=0) O)) O (AC.retell (k:=79) (u:=(aG (Ae (a+b)))) O (by rw [List.take_of_length_le (show os.length<=nw b+1 by omega),NG (X:=b) (Y:=a) (c:=c) (i:=i) hl hw32 Z (To Z) (by rw [hv,C3 Z]),Nat.add_comm]) (N8 O sizeOf58 O (AC.nil (OkQ.subF (sL [4,8,9,52,53,10] O) (OkQ.then_ ?_)))))))))))
    exact AE.ret (AS O (BH (i:=3) (cs:=Ae (a+b)) O O isAgg58 sizeOf58 O) (λw hw=>⟨rfl,hw.out⟩))
  ·replace hc2:=of_decide_eq_false hc2
   refine AE.skip (q2 (AM O (AK (v:=(vN (nw a))) (AF O underlying224) O (AK (AY (c:=(((nw a)+1:Nat):Int)) O O (AU (a:=nw a) (b:=1) Z)) O (AC.openV (V:=λb6=>(Value.slice (some ⟨b6,0,none⟩) ((nw a)+1) ((nw a)+1))) (T:=50) (cs:=Aq (List.replicate ((nw a)+1) 0)) (AT O) (C1 (m:=(nw a)+1) (c:=(nw a)+1) O O Z Z) O (AV O) λb6=>AI O (q3 (sL [2,3,4,7,8,9] O) (AM O (AM O (AC.copy_u32 (i:=0) (j:=2) (ns:=Aq (AQ a)) (cs':=Aq (AQ a++(List.replicate (nw a+1) 0).drop (AQ a).length)) (L':=[Ah b6 50 (Aq (AQ a++(List.replicate (nw a+1) 0).drop (AQ a).length)),Ah b5 50 (Aq (Ax b)),Ah b4 50 (Aq (Ax a)),Ah b3 58 (Ae 0),Ah b2 58 (Ae b),Ah b1 58 (Ae a)]) O (AT O) O O O O (by rw [La,Hs]) (BS _) (OE _) Z (by rw [BS];simp;try omega) (Nc _ _) O (AV O) (q3 (sL [2,3,4,7,8,9] O) ?_))))))))))
   refine AI O (AC.nil (q1 (q4 (AM O (AK (v:=(vN ((nw a)+1))) (AF O underlying224) O (AM O (AC.nil (OkQ.subF (sL [2,3,4,7,8,9,10,52,53] O) (OkQ.then_ (AE.block ?_))))))))))
   refine AE.lp3 (tg λ(i:Nat) (os:List Nat) (c:Nat)=>i<=nw a+1/\os.length=nw a+1/\W32 os/\c<=1/\val os+c*4294967296^i=a+val ((AQ b).take i)) (tg λ(i:Nat) (os:List Nat) (c:Nat)=>[(4,(pP b3 0)),(8,(Value.slice (some ⟨b5,0,none⟩) (nw b) ((Ax b).length))),(9,(Value.slice (some ⟨b6,0,none⟩) ((nw a)+1) ((nw a)+1))),(52,(vN ((nw a)+1))),(53,(vN i)),(10,(vK .u32 c))]) (tg λ(i:Nat) (os:List Nat) (c:Nat)=>[Ah b6 50 (Aq os),Ah b5 50 (Aq (Ax b)),Ah b4 50 (Aq (Ax a)),Ah b3 58 (Ae 0),Ah b2 58 (Ae b),Ah b1 58 (Ae a)]) (tg λ(i:Nat) (os:List Nat) (c:Nat)=>nw a+1-i) 0 (AQ a++(List.replicate (nw a+1) 0).drop (AQ a).length) 0 (⟨Nat.zero_le _,(E1 a 1).1,(E1 a 1).2.1,Z,by rw [(E1 a 1).2.2];simp [val]⟩) (sF O) sr (λi os c hJ=>?_)
   obtain ⟨hi,hl,hw32,hcc,hv⟩:=hJ
   refine q4 (AK (Ad (c:=(decide (i<((nw a)+1)))) O O (B7 (a:=i) (b:=(nw a)+1))) O (AC.nil (q1 ?_)))
   refine AE.cond O (λhc3=>?_) (λhc3=>?_)
   ·replace hc3:=of_decide_eq_true hc3
    refine AE.skip (q1 (AE.block (q4 (AM O (AI O (q3 (sL [4,8,9,52,53,10,11] O) (AI O (AC.nil (q1 (q4 (AM O ?_)))))))))))
    refine AM O (AK (v:=(vN (nw b))) (AF O underlying224) O (AK (Ad (c:=(decide (i<(nw b)))) O O (B7 (a:=i) (b:=nw b))) O (AC.nil (OkQ.subF (sL [4,8,9,52,53,10,11,12,59] O) (OkQ.then_ ?_)))))
    refine AE.jn0 (tg True) (tg [(4,(pP b3 0)),(8,(Value.slice (some ⟨b5,0,none⟩) (nw b) ((Ax b).length))),(9,(Value.slice (some ⟨b6,0,none⟩) ((nw a)+1) ((nw a)+1))),(52,(vN ((nw a)+1))),(53,(vN i)),(10,(vK .u32 c)),(11,(vN i)),(12,(vK .u32 ((AQ b).getD i 0)))]) (tg [Ah b6 50 (Aq os),Ah b5 50 (Aq (Ax b)),Ah b4 50 (Aq (Ax a)),Ah b3 58 (Ae 0),Ah b2 58 (Ae b),Ah b1 58 (Ae a)]) ?_ ?_
    ·skip
     refine AE.cond O (λhc4=>?_) (λhc4=>?_)
     ·replace hc4:=of_decide_eq_true hc4
      refine AE.region (AM O (AM O (AK (v:=(pP b5 i)) (AP (j:=i) O O underlying224 sizeOf50 O Z (by simp)) O ?_)))
      have hx3:(Ax b).getD i 0<4294967296:=W32.getD (CJ b) i
      exact AK (AN (i:=1) (v:=(vK .u32 ((Ax b).getD i 0))) O O isAgg50 (BD (xs:=Ax b) (j:=i) Z)) O (AC.retell (k:=63) (u:=(vK .u32 ((AQ b).getD i 0))) O (by rw [DD hc4]) (AI O (AC.nil (OkQ.subF (sL [4,8,9,52,53,10,11,12] O) (OkQ.join0  (trivial) (sF O) sr)))))
     ·replace hc4:=of_decide_eq_false hc4
      exact AE.skip (OkQ.retell (k:=12) (u:=Value.int .u32 (((AQ b).getD i 0:Nat):Int)) O (by rw [Dz hc4];rfl) (OkQ.join0  (trivial) (sF O) sr))
    ·intro hJ
     refine OkQ.then_ (AE.region (AM O (AM O (AM O (AM O (AK (v:=(pP b6 i)) (AP (j:=i) O O underlying224 sizeOf50 O Z (by simp)) O ?_))))))
     have hx4:os.getD i 0<4294967296:=W32.getD hw32 i
     refine AK (AN (i:=0) (v:=(vK .u32 (os.getD i 0))) O O isAgg50 (BD (xs:=os) (j:=i) Z)) O (AM O (AM O ?_))
     have hya:=(Bn a).getD i
     have hyb:=(Bn b).getD i
     refine ck' call144 (KY (os.getD i 0) ((AQ b).getD i 0) c Z Z Z) O (AM O (AK (AX (v:=(vK .u32 (((os.getD i 0)+((AQ b).getD i 0)+c)%4294967296))) O O) O (AK (AX (v:=(vK .u32 (((os.getD i 0)+((AQ b).getD i 0)+c)/4294967296))) O O) O (AK (v:=(pP b6 i)) (AP (j:=i) O O underlying224 sizeOf50 O Z (by simp)) O (AC.store' (i:=0) (off:=i) (vs:=[(vK .u32 (((os.getD i 0)+((AQ b).getD i 0)+c)%4294967296))]) (cs':=Aq (os.set i (((os.getD i 0)+((AQ b).getD i 0)+c)%4294967296))) (L':=[Ah b6 50 (Aq (os.set i (((os.getD i 0)+((AQ b).getD i 0)+c)%4294967296))),Ah b5 50 (Aq (Ax b)),Ah b4 50 (Aq (Ax a)),Ah b3 58 (Ae 0),Ah b2 58 (Ae b),Ah b1 58 (Ae a)]) (AT O) O O O O O sizeOf50 O (CW (BS _) Z) (B9 Z) O (AI O (AC.nil (OkQ.subF (sL [4,8,9,52,53,10,11,12] O) (OkQ.in_normal (OkQ.then_ (AE.region ?_)))))))))))
     exact AK (AY (c:=((i+1:Nat):Int)) O O (AU (a:=i) (b:=1) Z)) O (AM O (AC.nil (OkQ.subF (sL [4,8,9,52,53,10,11,12] O) (OkQ.round3 (i+1) (os.set i ((os.getD i 0+(AQ b).getD i 0+c)%4294967296)) ((os.getD i 0+(AQ b).getD i 0+c)/4294967296) (⟨Z,by rw [List.length_set];exact hl,W32.set hw32 Z i,Z,Nm hl hc3 hv⟩) Z (sF O) sr))))
   ·replace hc3:=of_decide_eq_false hc3
    refine AE.exit (OkQ.then_exit (OkQ.round3_exit (OkQ.in_exit (q2 (AM O (Cc call140 (λw hw=>Ic _ ((nw a)+1) ((nw a)+1) os hw32 (by first|omega|(rw [rowN_length];omega)|simp|(simp;omega)) (by first|omega|simp|(simp;omega)) (by first|omega|simp|(simp;omega)) w (hw.get (i:=0) O)) O (AC.retell (k:=79) (u:=(aG (Ae (a+b)))) O (by rw [List.take_of_length_le (show os.length<=nw a+1 by omega),NG (X:=a) (Y:=b) (c:=c) (i:=i) hl hw32 Z (To Z) (by rw [hv,C3 Z])]) (N8 O sizeOf58 O (AC.nil (OkQ.subF (sL [4,8,9,52,53,10] O) (OkQ.then_ ?_)))))))))))
    exact AE.ret (AS O (BH (i:=3) (cs:=Ae (a+b)) O O isAgg58 sizeOf58 O) (λw hw=>⟨rfl,hw.out⟩))
end
end Go.Proofs.YtpgncndhhhllfaaGreat
