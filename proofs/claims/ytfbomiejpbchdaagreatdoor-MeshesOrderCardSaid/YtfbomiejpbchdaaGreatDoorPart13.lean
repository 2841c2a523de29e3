import Derived.Test.YtfbomiejpbchdaaGreatDoorPart06
import Derived.Test.YtfbomiejpbchdaaGreatDoorPart12
namespace Go.Proofs.YtfbomiejpbchdaaGreatDoor
open Go Go.RowKit Go.Proofs.Tryz
set_option linter.unusedVariables false
set_option linter.unusedSimpArgs false
section
set_option maxRecDepth 100000
theorem KV  :Instr.fill ([(0,1),(1,1)].toArray[·]?) (AU 0).toArray []=some (AU 0).toArray:=by kernel_rfl
theorem Nd (a b:Nat) (ha:nw a<=1099511627776) (hb:nw b<=1099511627776) (w:World)  :Calls prog 101 #[(aG (AU a)),(aG (AU b))] w (Ak w (Value.tuple #[(aG (AU (a-b))),(Value.bool (decide (b<=a)))])):=by
 have hla:=CH a
 have hlb:=CH b
 have hpa:=U5 a
 refine Ab (args:=[(aG (AU a)),(aG (AU b))]) func101 O O (Ad O) (AF.subF (sL [0,1] O) (q4 (Bk (cs:=AU a) O λb1=>Bk (cs:=AU b) O λb2=>al FR O λb3=>?_)))
 refine AJ O (q6 (sL [2,3,4,5] O) (q4 (BE 2 Bz O (BE 1 Bz O (BS call139 (Sn a b Z Z) O ?_)))))
 refine AH (Af (c:=(decide ((E9 a b)<(0:Int)))) O O O) O (AE.nil (AD.subF (sL [2,3,4,5,14] O) (AD.then_ ?_)))
 refine AF.cond O (λhc0=>?_) (λhc0=>?_)
 ·replace hc0:=of_decide_eq_true hc0
  rw [I3] at hc0
  refine q4 (AH (v:=(aG (AU 0))) (AT (zs:=AU 0) (vs:=AU 0) (pv:=[]) (places:=[(0,1),(1,1)]) zeroValue55 underlying55 (λw=>by simp [sizeOf9,sizeOf53]) O (KV )) O (AE.retell (k:=15) (u:=(aG (AU (a-b)))) O (by rw [show a-b=0 by omega]) (Aq O sizeOf55 O (AJ O (AE.nil ?_)))))
  exact AD.subF (sL [2,3,4,5] O) (AD.then_ (AF.ret (AD.then_ret (Cq O (A7 (i:=0) (cs:=AU (a-b)) O O isAgg55 sizeOf55 O) (Ac (v:=(Value.bool false)) O) (λw hw=>⟨by rw [decide_eq_false (show ¬b<=a by omega)],hw.out⟩)))))
 ·replace hc0:=of_decide_eq_false hc0
  rw [I3] at hc0
  have hnb:nw b<=nw a:=DL Z
  refine AF.skip (q1 (q4 (AH (v:=(pP b1 1)) (AA O underlying55 O sizeOf9 O) O (BN 2 (Value.string (Bf a)) Qu O (AH (Bh (c:=(decide (a<18446744073709551616))) O O CT) O ?_)))))
  refine AE.nil (AD.subF (sL [2,3,4,5,18] O) (AD.then_ ?_))
  refine AF.cond O (λhc1=>?_) (λhc1=>?_)
  ·replace hc1:=of_decide_eq_true hc1
   refine q4 (AH (v:=(pP b1 0)) (AA O underlying55 O sizeOf53 O) O (BN 2 (vK .u64 (Bx a)) Fw O (AE.retell (k:=20) (u:=(vK .u64 a)) O (by rw [Be hc1]) (AH (v:=(pP b2 0)) (AA O underlying55 O sizeOf53 O) O (BN 1 (vK .u64 (Bx b)) Fw O ?_)))))
   refine AE.retell (k:=22) (u:=(vK .u64 b)) O (by rw [Be Z]) (AH (By (c:=((a-b:Nat):Int)) O O (HZ (a:=a) (b:=b) Z Z)) O (AH (v:=(aG ([(vK .u64 (a-b)),(Value.string (Bf 0))]))) (AT (zs:=AU 0) (vs:=[(vK .u64 (a-b)),(Value.string (Bf 0))]) (pv:=[(0,(vK .u64 (a-b)))]) (places:=[(0,1),(1,1)]) zeroValue55 underlying55 (λw=>by simp [sizeOf9,sizeOf53]) O O) O (AE.retell (k:=24) (u:=(aG (AU (a-b)))) O (by rw [DO Z];rfl) (Aq O sizeOf55 O (AJ O ?_)))))
   exact AE.nil (AD.subF (sL [2,3,4,5] O) (AD.then_ (AF.ret (AD.then_ret (Cq O (A7 (i:=0) (cs:=AU (a-b)) O O isAgg55 sizeOf55 O) (Ac (v:=(Value.bool true)) O) (λw hw=>⟨by rw [decide_eq_true (show b<=a by omega)],hw.out⟩))))))
  ·replace hc1:=of_decide_eq_false hc1
   have hpad:Au a=AL a:=if_neg hc1
   refine AF.skip (q1 (DA [(0,true),(2,true),(1,false),(3,false),(4,true),(5,true)] sr (E7 2 Bz O (E7 1 Bz O (AS.imp O ?_)))))
   refine AE.callB (V:=λb4=>(Value.slice (some ⟨b4,0,none⟩) (nw a) ((Au a).length))) (T:=83) (cs:=Ai (Au a)) (AQ O) (Ax (args:=[(aG (AU a))]) O O call108) (λw hw=>C3 a Z w) O (Ad O) λb4=>AS.back (sl sr) (AS.imp O (AE.callB (V:=λb5=>(Value.slice (some ⟨b5,0,none⟩) (nw b) ((Au b).length))) (T:=83) (cs:=Ai (Au b)) (AQ O) (Ax (args:=[(aG (AU b))]) O O call108) (λw hw=>C3 b Z w) O (Ad O) λb5=>AS.back (sl (sl sr)) (Ez O ?_)))
   refine Ez O (AS.nil (AD.subF (sL [2,3,4,5,6,7] O) (q2 (AJ O (AE.nil ?_)))))
   refine q1 (q4 (AP O (AH (v:=(vN (nw a))) (AG O underlying187) O (AP O (AE.nil ?_)))))
   refine AD.subF (sL [2,3,4,5,6,7,8,30,31] O) (AD.then_ (AF.block ?_))
   refine AF.lp3 (tg λ(i:Nat) (os:List Nat) (c:Nat)=>i<=nw a/\os.length=nw a/\W32 os/\c<=1/\val os+val ((AL b).take i)=a+c*4294967296^i) (tg λ(i:Nat) (os:List Nat) (c:Nat)=>[(4,(pP b3 0)),(5,(Value.bool false)),(6,(Value.slice (some ⟨b4,0,none⟩) (nw a) ((Au a).length))),(7,(Value.slice (some ⟨b5,0,none⟩) (nw b) ((Au b).length))),(30,(vN (nw a))),(31,(vN i)),(8,(vK .u32 c))]) (tg λ(i:Nat) (os:List Nat) (c:Nat)=>[Ae b5 83 (Ai (Au b)),Ae b4 83 (Ai os),Ae b3 55 (AU 0),Ae b2 55 (AU b),Ae b1 55 (AU a)]) (tg λ(i:Nat) (os:List Nat) (c:Nat)=>nw a-i) 0 (Au a) 0 (⟨Nat.zero_le _,by rw [hpad];rfl,CM a,Z,by rw [PV];simp [val]⟩) (sF O) sr (λi os c hJ=>?_)
   obtain ⟨hi,hl,hw32,hcc,hv⟩:=hJ
   refine q4 (AH (Af (c:=(decide (i<(nw a)))) O O (DB (a:=i) (b:=nw a))) O (AE.nil (q1 ?_)))
   refine AF.cond O (λhc2=>?_) (λhc2=>?_)
   ·replace hc2:=of_decide_eq_true hc2
    refine AF.skip (q1 (AF.block (q4 (AP O (AJ O ?_)))))
    refine q3 (sL [4,5,6,7,30,31,8,9] O) (AJ O (AE.nil (q1 (q4 (AP O ?_)))))
    refine AP O (AH (v:=(vN (nw b))) (AG O underlying187) O (AH (Af (c:=(decide (i<(nw b)))) O O (DB (a:=i) (b:=nw b))) O (AE.nil (AD.subF (sL [4,5,6,7,30,31,8,9,10,37] O) (AD.then_ ?_)))))
    refine AF.jn0 (tg True) (tg [(4,(pP b3 0)),(5,(Value.bool false)),(6,(Value.slice (some ⟨b4,0,none⟩) (nw a) ((Au a).length))),(7,(Value.slice (some ⟨b5,0,none⟩) (nw b) ((Au b).length))),(30,(vN (nw a))),(31,(vN i)),(8,(vK .u32 c)),(9,(vN i)),(10,(vK .u32 ((AL b).getD i 0)))]) (tg [Ae b5 83 (Ai (Au b)),Ae b4 83 (Ai os),Ae b3 55 (AU 0),Ae b2 55 (AU b),Ae b1 55 (AU a)]) ?_ ?_
    ·skip
     refine AF.cond O (λhc3=>?_) (λhc3=>?_)
     ·replace hc3:=of_decide_eq_true hc3
      refine AF.region (AP O (AP O (AH (v:=(pP b5 i)) (AI (j:=i) O O underlying187 sizeOf83 O Z (by simp)) O ?_)))
      have hx1:(Au b).getD i 0<4294967296:=W32.getD (CM b) i
      exact AH (AM (i:=0) (v:=(vK .u32 ((Au b).getD i 0))) O O isAgg83 (BI (xs:=Au b) (j:=i) Z)) O (AE.retell (k:=41) (u:=(vK .u32 ((AL b).getD i 0))) O (by rw [DI hc3]) (AJ O (AE.nil (AD.subF (sL [4,5,6,7,30,31,8,9,10] O) (AD.join0  (trivial) (sF O) sr)))))
     ·replace hc3:=of_decide_eq_false hc3
      exact AF.skip (AD.retell (k:=10) (u:=Value.int .u32 (((AL b).getD i 0:Nat):Int)) O (by rw [D1 hc3];rfl) (AD.join0  (trivial) (sF O) sr))
    ·intro hJ
     refine AD.then_ (AF.region (AP O (AP O (AP O (AP O ?_)))))
     refine AH (v:=(pP b4 i)) (AI (j:=i) O O underlying187 sizeOf83 O Z (by simp)) O ?_
     have hx2:os.getD i 0<4294967296:=W32.getD hw32 i
     refine AH (AM (i:=1) (v:=(vK .u32 (os.getD i 0))) O O isAgg83 (BI (xs:=os) (j:=i) Z)) O (AP O (AP O ?_))
     have hyb:=(Bm b).getD i
     refine BS call142 (Jm (os.getD i 0) ((AL b).getD i 0) c _ Z Z Z O) O (AP O (AH (Aa (v:=(vK .u32 (((os.getD i 0)+(4294967296-((AL b).getD i 0))+(4294967296-c))%4294967296))) O O) O (AH (Aa (v:=(vK .u32 (Ic (os.getD i 0) (((AL b).getD i 0)+c)))) O O) O (AH (v:=(pP b4 i)) (AI (j:=i) O O underlying187 sizeOf83 O Z (by simp)) O (AE.store' (i:=1) (off:=i) (vs:=[(vK .u32 (((os.getD i 0)+(4294967296-((AL b).getD i 0))+(4294967296-c))%4294967296))]) (cs':=Ai (os.set i (((os.getD i 0)+(4294967296-((AL b).getD i 0))+(4294967296-c))%4294967296))) (L':=[Ae b5 83 (Ai (Au b)),Ae b4 83 (Ai (os.set i (((os.getD i 0)+(4294967296-((AL b).getD i 0))+(4294967296-c))%4294967296))),Ae b3 55 (AU 0),Ae b2 55 (AU b),Ae b1 55 (AU a)]) (AQ O) O O O O O sizeOf83 O (CW (BP _) Z) (CC Z) O ?_)))))
     refine AJ O (AE.nil (AD.subF (sL [4,5,6,7,30,31,8,9,10] O) (AD.in_normal (AD.then_ (AF.region ?_)))))
     exact AH (AX (c:=((i+1:Nat):Int)) O O (AZ (a:=i) (b:=1) Z)) O (AP O (AE.nil (AD.subF (sL [4,5,6,7,30,31,8,9,10] O) (AD.round3 (i+1) (os.set i ((os.getD i 0+(4294967296-(AL b).getD i 0)+(4294967296-c))%4294967296)) (Ic (os.getD i 0) ((AL b).getD i 0+c)) (⟨Z,by rw [List.length_set];exact hl,W32.set hw32 Z i,Of _ _,RS hl hc2 hw32 (Bm b) hcc hv⟩) Z (sF O) sr))))
   ·replace hc2:=of_decide_eq_false hc2
    refine AF.exit (AD.then_exit (AD.round3_exit (AD.in_exit (q2 (AP O ?_)))))
    refine Ef call107 (λw hw=>IZ _ (nw a) ((Au a).length) os hw32 (by first|omega|(rw [rowN_length];omega)|simp|(simp;omega)) (by first|omega|simp|(simp;omega)) (by first|omega|simp|(simp;omega)) w (hw.get (i:=1) O)) O (AE.retell (k:=57) (u:=(aG (AU (a-b)))) O (by rw [List.take_of_length_le (show os.length<=nw a by omega),RK (X:=a) (Y:=b) (n:=nw a) (c:=c) (i:=i) hl hw32 Z Z (by rw [<-hv,Cz Z]) (Bw a)]) (Sy O sizeOf55 O (AJ O (AE.nil (AD.subF (sL [4,5,6,7,30,31,8] O) ?_)))))
    exact AD.then_ (AF.ret (Cq O (A7 (i:=2) (cs:=AU (a-b)) O O isAgg55 sizeOf55 O) (Ac (v:=(Value.bool true)) O) (λw hw=>⟨by rw [decide_eq_true (show b<=a by omega)],hw.out⟩)))
theorem OR (a b:Nat) (ha:nw a<=1099511627776) (hb:nw b<=1099511627776) (w:World)  :Calls prog 57 #[(aG (AU a)),(aG (AU b))] w (Ak w (aG (AU (a*b)))):=by
 have hla:=CH a
 have hlb:=CH b
 refine Ab (args:=[(aG (AU a)),(aG (AU b))]) func57 O O (Ad O) (AF.subF (sL [0,1] O) (q4 (Bk (cs:=AU a) O λb1=>Bk (cs:=AU b) O λb2=>al FR O λb3=>?_)))
 refine q6 (sL [2,3,4] O) (q4 (AH (v:=(pP b1 1)) (AA O underlying55 O sizeOf9 O) O (BN 2 (Value.string (Bf a)) Qu O (AH (Bh (c:=(decide (a<18446744073709551616))) O O CT) O (AP O ?_)))))
 refine AE.mid (FM:=[(2,(pP b1 0)),(3,(pP b2 0)),(4,(pP b3 0)),(15,(pP b1 1)),(16,(Value.string (Bf a))),(17,(Value.bool (decide (a<18446744073709551616)))),(18,(Value.bool (decide (a<18446744073709551616)))),(22,(Value.bool ((decide (a<18446744073709551616))&&(decide (b<18446744073709551616)))))]) (LM:=[Ae b3 55 (AU 0),Ae b2 55 (AU b),Ae b1 55 (AU a)]) 4 ?_ ?_
 ·rcases Bool.eq_false_or_eq_true (decide (a<18446744073709551616)) with hg1|hg1
  ·skip
   refine AE.retell (k:=18) (u:=Value.bool true) O (by rw [hg1]) ?_
   have hg1':=hg1
   replace hg1':=of_decide_eq_true hg1'
   exact AE.step (v:=(pP b2 1)) (AB O) (AA O underlying55 O sizeOf9 O) O (Ad O) (AE.step (v:=(Value.string (Bf b))) (AB O) (AM (i:=1) (v:=(Value.string (Bf b))) O O Qu.a O) O (Ad O) (AE.step (v:=(Value.bool (decide (b<18446744073709551616)))) (AB O) (Bh (c:=(decide (b<18446744073709551616))) O O CT) O (Ad O) (AH (v:=(Value.bool (decide (b<18446744073709551616)))) (Al O O) O (AE.nil (AD.mid (sS O (sS O (sS O (sS O (sS O (sS O (sS (by first|rfl|(rw [hg1];rfl)|rw [hg1]) (sS (by first|rfl|(rw [hg1];rfl)|rw [hg1]) (sN))))))))) (List.Sublist.refl _))))))
  ·skip
   refine AE.retell (k:=18) (u:=Value.bool false) O (by rw [hg1]) ?_
   have hg1':=hg1
   replace hg1':=of_decide_eq_false hg1'
   exact AE.skip (AV O) O (Ad O) (AE.skip (AV O) O (Ad O) (AE.skip (AV O) O (Ad O) (AH (v:=(Value.bool false)) (AW O O) O (AE.nil (AD.mid (sS O (sS O (sS O (sS O (sS O (sS O (sS (by first|rfl|(rw [hg1];rfl)|rw [hg1]) (sS (by first|rfl|(rw [hg1];rfl)|rw [hg1]) (sN))))))))) (List.Sublist.refl _))))))
 refine AE.nil (AD.subF (sL [2,3,4,22] O) (AD.then_ ?_))
 refine AF.cond O (λhc0=>?_) (λhc0=>?_)
 ·simp only [Bool.and_eq_true,Bool.or_eq_true,Bool.and_eq_false_iff,Bool.or_eq_false_iff,Bool.not_eq_true',Bool.not_eq_false',decide_eq_true_eq,decide_eq_false_iff_not] at hc0
  refine q4 (AH (v:=(pP b1 0)) (AA O underlying55 O sizeOf53 O) O (BN 2 (vK .u64 (Bx a)) Fw O (AE.retell (k:=25) (u:=(vK .u64 a)) O (by rw [Be hc0.1]) (AH (v:=(pP b2 0)) (AA O underlying55 O sizeOf53 O) O (BN 1 (vK .u64 (Bx b)) Fw O ?_)))))
  have hhi:a*b/18446744073709551616<18446744073709551616:=Nat.div_lt_of_lt_mul (Nat.mul_lt_mul'' hc0.1 hc0.2)
  refine AE.retell (k:=27) (u:=(vK .u64 b)) O (by rw [Be hc0.2]) (BS call106 (Rp a b Z Z) O (AP O (AH (Aa (v:=(vK .u64 (a*b/18446744073709551616))) O O) O (AH (Aa (v:=(vK .u64 (a*b%18446744073709551616))) O O) O (AJ O ?_)))))
  refine AJ O (q3 (sL [2,3,4,5,6] O) (AP O (AH (Ap (c:=(((a*b%18446744073709551616)%4294967296:Nat):Int)) O underlying53 underlying83 Dz) O (AP O (AH (Cc (s:=32) (c:=(((a*b%18446744073709551616)/4294967296:Nat):Int)) O O O (by decide) (FU (a:=a*b%18446744073709551616) (s:=32))) O ?_)))))
  refine AH (Ap (c:=(((a*b%18446744073709551616)/4294967296:Nat):Int)) O underlying53 underlying83 (CQ Z)) O (AP O (AH (Ap (c:=(((a*b/18446744073709551616)%4294967296:Nat):Int)) O underlying53 underlying83 Dz) O (AP O (AH (Cc (s:=32) (c:=(((a*b/18446744073709551616)/4294967296:Nat):Int)) O O O (by decide) (FU (a:=a*b/18446744073709551616) (s:=32))) O (AH (Ap (c:=(((a*b/18446744073709551616)/4294967296:Nat):Int)) O underlying53 underlying83 (CQ Z)) O ?_)))))
  refine AE.openV (V:=λb4=>(Value.slice (some ⟨b4,0,none⟩) 4 4)) (T:=83) (cs:=Ai ([(a*b%18446744073709551616)%4294967296,(a*b%18446744073709551616)/4294967296,(a*b/18446744073709551616)%4294967296,(a*b/18446744073709551616)/4294967296])) (AQ O) (BD (cs:=Ai ([(a*b%18446744073709551616)%4294967296,(a*b%18446744073709551616)/4294967296,(a*b/18446744073709551616)%4294967296,(a*b/18446744073709551616)/4294967296])) (pv:=[(0,(vK .u32 ((a*b%18446744073709551616)%4294967296))),(1,(vK .u32 ((a*b%18446744073709551616)/4294967296))),(2,(vK .u32 ((a*b/18446744073709551616)%4294967296))),(3,(vK .u32 ((a*b/18446744073709551616)/4294967296)))]) underlying187 sizeOf83 zeroValue83 (by decide) (by decide) O (by kernel_rfl)) O (Ad O) λb4=>Ef call107 (λw hw=>IZ _ 4 4 ([(a*b%18446744073709551616)%4294967296,(a*b%18446744073709551616)/4294967296,(a*b/18446744073709551616)%4294967296,(a*b/18446744073709551616)/4294967296]) (W32.cons Z (W32.cons Z (W32.cons Z (W32.cons Z (W32.nil))))) (by first|omega|(rw [rowN_length];omega)|simp|(simp;omega)) (by first|omega|simp|(simp;omega)) (by first|omega|simp|(simp;omega)) w (hw.get (i:=0) O)) O (AE.retell (k:=42) (u:=(aG (AU (a*b)))) O (by rw [show ∀x y z t:Nat,[x,y,z,t].take 4=[x,y,z,t] from λ_ _ _ _=>rfl,Vf Z hhi,show a*b%18446744073709551616+a*b/18446744073709551616*18446744073709551616=a*b by omega]) (C9 O sizeOf55 O (AE.nil (AD.subF (sL [2,3,4] O) ?_))))
  exact AD.then_ (AF.ret (AD.then_ret (AN O (A7 (i:=1) (cs:=AU (a*b)) O O isAgg55 sizeOf55 O) (λw hw=>⟨rfl,hw.out⟩))))
 ·simp only [Bool.and_eq_true,Bool.or_eq_true,Bool.and_eq_false_iff,Bool.or_eq_false_iff,Bool.not_eq_true',Bool.not_eq_false',decide_eq_true_eq,decide_eq_false_iff_not] at hc0
  refine AF.skip (q1 (DA [(0,true),(2,true),(1,false),(3,false),(4,true),(5,true)] sr (E7 2 Bz O (E7 1 Bz O (AS.imp O ?_)))))
  refine AE.callB (V:=λb4=>(Value.slice (some ⟨b4,0,none⟩) (nw a) ((Au a).length))) (T:=83) (cs:=Ai (Au a)) (AQ O) (Ax (args:=[(aG (AU a))]) O O call108) (λw hw=>C3 a Z w) O (Ad O) λb4=>AS.back (sl sr) (AS.imp O (AE.callB (V:=λb5=>(Value.slice (some ⟨b5,0,none⟩) (nw b) ((Au b).length))) (T:=83) (cs:=Ai (Au b)) (AQ O) (Ax (args:=[(aG (AU b))]) O O call108) (λw hw=>C3 b Z w) O (Ad O) λb5=>AS.back (sl (sl sr)) (Ez O ?_)))
  refine Ez O (AS.nil (AD.subF (sL [2,3,4,7,8] O) (q2 (AP O (AH (v:=(vN (nw a))) (AG O underlying187) O ?_)))))
  refine AP O (AH (v:=(vN (nw b))) (AG O underlying187) O (AH (AX (c:=(((nw a)+(nw b):Nat):Int)) O O (AZ (a:=nw a) (b:=nw b) Z)) O (AE.openV (V:=λb6=>(Value.slice (some ⟨b6,0,none⟩) ((nw a)+(nw b)) ((nw a)+(nw b)))) (T:=83) (cs:=Ai (List.replicate ((nw a)+(nw b)) 0)) (AQ O) (Cw (m:=(nw a)+(nw b)) (c:=(nw a)+(nw b)) O O Z Z) O (Ad O) λb6=>AJ O (q6 (sL [2,3,4,7,8,9] O) ?_))))
  refine q4 (AP O (AH (v:=(vN (nw a))) (AG O underlying187) O (AP O (AE.nil (AD.then_ ?_)))))
  refine AF.block ?_
  refine AF.lp2 (tg λ(i:Nat) (os:List Nat)=>i<=nw a/\os.length=nw a+nw b/\W32 os/\val os=val ((AL a).take i)*b) (tg λ(i:Nat) (os:List Nat)=>[(4,(pP b3 0)),(8,(Value.slice (some ⟨b5,0,none⟩) (nw b) ((Au b).length))),(9,(Value.slice (some ⟨b6,0,none⟩) ((nw a)+(nw b)) ((nw a)+(nw b)))),(53,(Value.slice (some ⟨b4,0,none⟩) (nw a) ((Au a).length))),(54,(vN (nw a))),(55,(vN i))]) (tg λ(i:Nat) (os:List Nat)=>[Ae b6 83 (Ai os),Ae b5 83 (Ai (Au b)),Ae b4 83 (Ai (Au a)),Ae b3 55 (AU 0),Ae b2 55 (AU b),Ae b1 55 (AU a)]) (tg λ(i:Nat) (os:List Nat)=>nw a-i) 0 (List.replicate (nw a+nw b) 0) (⟨Nat.zero_le _,by simp,W32.zeros _,by rw [Do];simp [val]⟩) (sF O) sr (λi os hJ=>?_)
  obtain ⟨hi,hl,hw32,hv⟩:=hJ
  refine q4 (AH (Af (c:=(decide (i<(nw a)))) O O (DB (a:=i) (b:=nw a))) O (AE.nil (q1 ?_)))
  refine AF.cond O (λhc1=>?_) (λhc1=>?_)
  ·replace hc1:=of_decide_eq_true hc1
   refine AF.skip (q1 (AF.block (q4 (AP O (AH (v:=(pP b4 i)) (AI (j:=i) O O underlying187 sizeOf83 O Z (by simp)) O ?_)))))
   have hx1:(Au a).getD i 0<4294967296:=W32.getD (CM a) i
   refine AH (AM (i:=2) (v:=(vK .u32 ((Au a).getD i 0))) O O isAgg83 (BI (xs:=Au a) (j:=i) Z)) O (AE.retell (k:=59) (u:=(vK .u32 ((AL a).getD i 0))) O (by rw [DI hc1]) (AJ O (AJ O (q3 (sL [4,8,9,53,54,55,10,11] O) (AJ O ?_)))))
   refine AE.nil (q1 (q4 (AP O (AH (v:=(vN (nw b))) (AG O underlying187) O (AP O ?_)))))
   refine AE.nil (AD.then_ (AF.block ?_))
   refine AF.lp3 (tg λ(k:Nat) (xs:List Nat) (c:Nat)=>k<=nw b/\xs.length=nw a+nw b/\W32 xs/\c<4294967296/\(∀j,i+nw b<=j->xs.getD j 0=0)/\val xs+c*4294967296^(i+k)=val ((AL a).take i)*b+(AL a).getD i 0*val ((AL b).take k)*4294967296^i) (tg λ(k:Nat) (xs:List Nat) (c:Nat)=>[(4,(pP b3 0)),(8,(Value.slice (some ⟨b5,0,none⟩) (nw b) ((Au b).length))),(9,(Value.slice (some ⟨b6,0,none⟩) ((nw a)+(nw b)) ((nw a)+(nw b)))),(53,(Value.slice (some ⟨b4,0,none⟩) (nw a) ((Au a).length))),(54,(vN (nw a))),(55,(vN i)),(10,(vN i)),(11,(vK .u32 ((AL a).getD i 0))),(60,(Value.slice (some ⟨b5,0,none⟩) (nw b) ((Au b).length))),(61,(vN (nw b))),(62,(vN k)),(12,(vK .u64 c))]) (tg λ(k:Nat) (xs:List Nat) (c:Nat)=>[Ae b6 83 (Ai xs),Ae b5 83 (Ai (Au b)),Ae b4 83 (Ai (Au a)),Ae b3 55 (AU 0),Ae b2 55 (AU b),Ae b1 55 (AU a)]) (tg λ(k:Nat) (xs:List Nat) (c:Nat)=>nw b-k) 0 os 0 (⟨Nat.zero_le _,hl,hw32,Z,Nr hv,by rw [hv];simp [val]⟩) (sF O) sr (λk xs c hJ=>?_)
   obtain ⟨hk,hl2,hw2,hcc,h02,hv2⟩:=hJ
   refine q4 (AH (Af (c:=(decide (k<(nw b)))) O O (DB (a:=k) (b:=nw b))) O (AE.nil (q1 ?_)))
   refine AF.cond O (λhc2=>?_) (λhc2=>?_)
   ·replace hc2:=of_decide_eq_true hc2
    refine AF.skip (q1 (AF.block (q4 (AP O (AH (v:=(pP b5 k)) (AI (j:=k) O O underlying187 sizeOf83 O Z (by simp)) O ?_)))))
    have hx2:(Au b).getD k 0<4294967296:=W32.getD (CM b) k
    refine AH (AM (i:=1) (v:=(vK .u32 ((Au b).getD k 0))) O O isAgg83 (BI (xs:=Au b) (j:=k) Z)) O (AE.retell (k:=66) (u:=(vK .u32 ((AL b).getD k 0))) O (by rw [DI hc2]) (AJ O (AJ O (q3 (sL [4,8,9,53,54,55,10,11,60,61,62,12,13,14] O) (AP O ?_)))))
    refine AP O ?_
    have hwa:=(Bm a).getD i
    have hwb:=(Bm b).getD k
    have hml:=KG hwa hwb
    refine AH (Ap (c:=(((AL a).getD i 0:Nat):Int)) O underlying83 underlying53 (BU Z)) O (AP O (AH (Ap (c:=(((AL b).getD k 0:Nat):Int)) O underlying83 underlying53 (BU Z)) O (AH (Bq (c:=((((AL a).getD i 0)*((AL b).getD k 0):Nat):Int)) O O (Ed (a:=(AL a).getD i 0) (b:=(AL b).getD k 0) Z)) O (AP O (AP O ?_)))))
    refine AP O (AH (AX (c:=((i+k:Nat):Int)) O O (AZ (a:=i) (b:=k) Z)) O (AH (v:=(pP b6 (i+k))) (AI (j:=i+k) O O underlying187 sizeOf83 O Z (by simp)) O ?_))
    have hx3:xs.getD (i+k) 0<4294967296:=W32.getD hw2 (i+k)
    refine AH (AM (i:=0) (v:=(vK .u32 (xs.getD (i+k) 0))) O O isAgg83 (BI (xs:=xs) (j:=(i+k)) Z)) O (AH (Ap (c:=((xs.getD (i+k) 0:Nat):Int)) O underlying83 underlying53 (BU Z)) O (AH (AX (c:=(((((AL a).getD i 0)*((AL b).getD k 0))+(xs.getD (i+k) 0):Nat):Int)) O O (DC (a:=((AL a).getD i 0)*((AL b).getD k 0)) (b:=xs.getD (i+k) 0) Z)) O (AH (AX (c:=((c+((((AL a).getD i 0)*((AL b).getD k 0))+(xs.getD (i+k) 0)):Nat):Int)) O O (DC (a:=c) (b:=(((AL a).getD i 0)*((AL b).getD k 0))+(xs.getD (i+k) 0)) Z)) O (AJ O (q3 (sL [4,8,9,53,54,55,10,11,60,61,62,12,13] O) ?_)))))
    refine AP O (AP O (AP O (AH (AX (c:=((i+k:Nat):Int)) O O (AZ (a:=i) (b:=k) Z)) O (AP O (AH (Ap (c:=(((c+((((AL a).getD i 0)*((AL b).getD k 0))+(xs.getD (i+k) 0)))%4294967296:Nat):Int)) O underlying53 underlying83 Dz) O ?_)))))
    refine AH (v:=(pP b6 (i+k))) (AI (j:=i+k) O O underlying187 sizeOf83 O Z (by simp)) O (AE.store' (i:=0) (off:=(i+k)) (vs:=[(vK .u32 ((c+((((AL a).getD i 0)*((AL b).getD k 0))+(xs.getD (i+k) 0)))%4294967296))]) (cs':=Ai (xs.set (i+k) ((c+((((AL a).getD i 0)*((AL b).getD k 0))+(xs.getD (i+k) 0)))%4294967296))) (L':=[Ae b6 83 (Ai (xs.set (i+k) ((c+((((AL a).getD i 0)*((AL b).getD k 0))+(xs.getD (i+k) 0)))%4294967296))),Ae b5 83 (Ai (Au b)),Ae b4 83 (Ai (Au a)),Ae b3 55 (AU 0),Ae b2 55 (AU b),Ae b1 55 (AU a)]) (AQ O) O O O O O sizeOf83 O (CW (BP _) Z) (CC Z) O (AE.nil (AD.subF (sL [4,8,9,53,54,55,10,11,60,61,62,12,13] O) (AD.then_ (AF.region ?_)))))
    refine AP O (AH (Cc (s:=32) (c:=(((c+((((AL a).getD i 0)*((AL b).getD k 0))+(xs.getD (i+k) 0)))/4294967296:Nat):Int)) O O O (by decide) (FU (a:=c+((((AL a).getD i 0)*((AL b).getD k 0))+(xs.getD (i+k) 0))) (s:=32))) O (AJ O (AE.nil (AD.subF (sL [4,8,9,53,54,55,10,11,60,61,62,12,13] O) (AD.in_normal ?_)))))
    exact AD.then_ (AF.region (AH (AX (c:=((k+1:Nat):Int)) O O (AZ (a:=k) (b:=1) Z)) O (AP O (AE.nil (AD.subF (sL [4,8,9,53,54,55,10,11,60,61,62,12,13] O) (AD.round3 (k+1) (xs.set (i+k) ((c+((AL a).getD i 0*(AL b).getD k 0+xs.getD (i+k) 0))%4294967296)) ((c+((AL a).getD i 0*(AL b).getD k 0+xs.getD (i+k) 0))/4294967296) (⟨Z,by rw [List.length_set];exact hl2,W32.set hw2 Z _,Z,E8 h02 Z,Q6 hl2 Z hv2⟩) Z (sF O) sr))))))
   ·replace hc2:=of_decide_eq_false hc2
    have hkn:k=nw b:=by omega
    have hbb:val ((AL b).take k)=b:=Cz Z
    rw [hbb] at hv2
    refine AF.exit (AD.then_exit (AD.round3_exit (AD.in_exit (AD.then_ (AF.region ?_)))))
    refine AP O (AP O (AP O (AH (v:=(vN (nw b))) (AG O underlying187) O (AH (AX (c:=((i+(nw b):Nat):Int)) O O (AZ (a:=i) (b:=nw b) Z)) O (AP O ?_)))))
    refine AH (Ap (c:=((c:Nat):Int)) O underlying53 underlying83 (CQ Z)) O (AH (v:=(pP b6 (i+(nw b)))) (AI (j:=i+(nw b)) O O underlying187 sizeOf83 O Z (by simp)) O (AE.store' (i:=0) (off:=(i+(nw b))) (vs:=[(vK .u32 c)]) (cs':=Ai (xs.set (i+(nw b)) c)) (L':=[Ae b6 83 (Ai (xs.set (i+(nw b)) c)),Ae b5 83 (Ai (Au b)),Ae b4 83 (Ai (Au a)),Ae b3 55 (AU 0),Ae b2 55 (AU b),Ae b1 55 (AU a)]) (AQ O) O O O O O sizeOf83 O (CW (BP _) Z) (CC Z) O (AE.nil (AD.subF (sL [4,8,9,53,54,55,10,11,60,61,62,12] O) (AD.in_normal ?_)))))
    exact AD.then_ (AF.region (AH (AX (c:=((i+1:Nat):Int)) O O (AZ (a:=i) (b:=1) Z)) O (AP O (AE.nil (AD.subF (sL [4,8,9,53,54,55,10,11,60,61,62,12] O) (AD.round2 (i+1) (xs.set (i+nw b) c) (⟨Z,by rw [List.length_set];exact hl2,W32.set hw2 hcc _,by rw [Hi hl2 Z (h02 _ (Nat.le_refl _)),<-UA,<-hv2,<-hkn]⟩) Z (sF O) sr))))))
  ·replace hc1:=of_decide_eq_false hc1
   refine AF.exit (AD.then_exit (AD.round2_exit (AD.in_exit (q2 (AP O ?_)))))
   refine Ef call107 (λw hw=>IZ _ ((nw a)+(nw b)) ((nw a)+(nw b)) os hw32 (by first|omega|(rw [rowN_length];omega)|simp|(simp;omega)) (by first|omega|simp|(simp;omega)) (by first|omega|simp|(simp;omega)) w (hw.get (i:=0) O)) O (AE.retell (k:=102) (u:=(aG (AU (a*b)))) O (by rw [List.take_of_length_le (show os.length<=nw a+nw b by omega),hv,Cz Z]) (IJ O sizeOf55 O (AE.nil (AD.subF (sL [4,8,9,53,54,55] O) (AD.then_ ?_)))))
   exact AF.ret (AN O (A7 (i:=3) (cs:=AU (a*b)) O O isAgg55 sizeOf55 O) (λw hw=>⟨rfl,hw.out⟩))
end
end Go.Proofs.YtfbomiejpbchdaaGreatDoor
