import Derived.Test.YtfbomiejpbchdaaGreatDoorPart06
import Derived.Test.YtfbomiejpbchdaaGreatDoorPart12
namespace Go.Proofs.YtfbomiejpbchdaaGreatDoor
open Go Go.RowKit Go.Proofs.Tryz
set_option linter.unusedVariables false
set_option linter.unusedSimpArgs false
section
set_option maxRecDepth 100000
theorem Jf  :Instr.fill ([(0,1),(1,1)].toArray[·]?) (AT 0).toArray []=some (AT 0).toArray:=by kernel_rfl
theorem Mw (a b:Nat) (ha:nw a<=1099511627776) (hb:nw b<=1099511627776) (w:World)  :Calls prog 101 #[(aG (AT a)),(aG (AT b))] w (Am w (Value.tuple #[(aG (AT (a-b))),(Value.bool (decide (b<=a)))])):=by
 have hla:=CD a
 have hlb:=CD b
 have hpa:=TA a
 refine Ac (args:=[(aG (AT a)),(aG (AT b))]) func101 O O (Ab O) (AF.subF (sL [0,1] O) (q4 (Bq (cs:=AT a) O λb1=>Bq (cs:=AT b) O λb2=>al E7 O λb3=>?_)))
 refine AK O (q6 (sL [2,3,4,5] O) (q4 (BD 2 Bv O (BD 1 Bv O (BV call139 (Q4 a b Z Z) O ?_)))))
 refine AG (Af (c:=(decide ((Ev a b)<(0:Int)))) O O O) O (AE.nil (AD.subF (sL [2,3,4,5,14] O) (AD.then_ ?_)))
 refine AF.cond O (λhc0=>?_) (λhc0=>?_)
 ·replace hc0:=of_decide_eq_true hc0
  rw [IV] at hc0
  refine q4 (AG (v:=(aG (AT 0))) (AV (zs:=AT 0) (vs:=AT 0) (pv:=[]) (places:=[(0,1),(1,1)]) zeroValue55 underlying55 (λw=>by simp [sizeOf9,sizeOf53]) O (Jf )) O (AE.retell (k:=15) (u:=(aG (AT (a-b)))) O (by rw [show a-b=0 by omega]) (Au O sizeOf55 O (AK O (AE.nil ?_)))))
  exact AD.subF (sL [2,3,4,5] O) (AD.then_ (AF.ret (AD.then_ret (Cm O (A8 (i:=0) (cs:=AT (a-b)) O O isAgg55 sizeOf55 O) (Ad (v:=(Value.bool false)) O) (λw hw=>⟨by rw [decide_eq_false (show ¬b<=a by omega)],hw.out⟩)))))
 ·replace hc0:=of_decide_eq_false hc0
  rw [IV] at hc0
  have hnb:nw b<=nw a:=DE Z
  refine AF.skip (q1 (q4 (AG (v:=(pP b1 1)) (AA O underlying55 O sizeOf9 O) O (BO 2 (Value.string (Bj a)) Pa O (AG (Bk (c:=(decide (a<18446744073709551616))) O O CR) O ?_)))))
  refine AE.nil (AD.subF (sL [2,3,4,5,18] O) (AD.then_ ?_))
  refine AF.cond O (λhc1=>?_) (λhc1=>?_)
  ·replace hc1:=of_decide_eq_true hc1
   refine q4 (AG (v:=(pP b1 0)) (AA O underlying55 O sizeOf53 O) O (BO 2 (vK .u64 (Bw a)) Fd O (AE.retell (k:=20) (u:=(vK .u64 a)) O (by rw [Bf hc1]) (AG (v:=(pP b2 0)) (AA O underlying55 O sizeOf53 O) O (BO 1 (vK .u64 (Bw b)) Fd O ?_)))))
   refine AE.retell (k:=22) (u:=(vK .u64 b)) O (by rw [Bf Z]) (AG (Bz (c:=((a-b:Nat):Int)) O O (Gp (a:=a) (b:=b) Z Z)) O (AG (v:=(aG ([(vK .u64 (a-b)),(Value.string (Bj 0))]))) (AV (zs:=AT 0) (vs:=[(vK .u64 (a-b)),(Value.string (Bj 0))]) (pv:=[(0,(vK .u64 (a-b)))]) (places:=[(0,1),(1,1)]) zeroValue55 underlying55 (λw=>by simp [sizeOf9,sizeOf53]) O O) O (AE.retell (k:=24) (u:=(aG (AT (a-b)))) O (by rw [DF Z];rfl) (Au O sizeOf55 O (AK O ?_)))))
   exact AE.nil (AD.subF (sL [2,3,4,5] O) (AD.then_ (AF.ret (AD.then_ret (Cm O (A8 (i:=0) (cs:=AT (a-b)) O O isAgg55 sizeOf55 O) (Ad (v:=(Value.bool true)) O) (λw hw=>⟨by rw [decide_eq_true (show b<=a by omega)],hw.out⟩))))))
  ·replace hc1:=of_decide_eq_false hc1
   have hpad:Ax a=AL a:=if_neg hc1
   refine AF.skip (q1 (C4 [(0,true),(2,true),(1,false),(3,false),(4,true),(5,true)] sr (Es 2 Bv O (Es 1 Bv O (AS.imp O ?_)))))
   refine AE.callB (V:=λb4=>(Value.slice (some ⟨b4,0,none⟩) (nw a) ((Ax a).length))) (T:=83) (cs:=Ak (Ax a)) (AQ O) (Aw (args:=[(aG (AT a))]) O O call108) (λw hw=>Cp a Z w) O (Ab O) λb4=>AS.back (sl sr) (AS.imp O (AE.callB (V:=λb5=>(Value.slice (some ⟨b5,0,none⟩) (nw b) ((Ax b).length))) (T:=83) (cs:=Ak (Ax b)) (AQ O) (Aw (args:=[(aG (AT b))]) O O call108) (λw hw=>Cp b Z w) O (Ab O) λb5=>AS.back (sl (sl sr)) (EZ O ?_)))
   refine EZ O (AS.nil (AD.subF (sL [2,3,4,5,6,7] O) (q2 (AK O (AE.nil ?_)))))
   refine q1 (q4 (AO O (AG (v:=(vN (nw a))) (AH O underlying187) O (AO O (AE.nil ?_)))))
   refine AD.subF (sL [2,3,4,5,6,7,8,30,31] O) (AD.then_ (AF.block ?_))
   refine AF.lp3 (tg λ(i:Nat) (os:List Nat) (c:Nat)=>i<=nw a/\os.length=nw a/\W32 os/\c<=1/\val os+val ((AL b).take i)=a+c*4294967296^i) (tg λ(i:Nat) (os:List Nat) (c:Nat)=>[(4,(pP b3 0)),(5,(Value.bool false)),(6,(Value.slice (some ⟨b4,0,none⟩) (nw a) ((Ax a).length))),(7,(Value.slice (some ⟨b5,0,none⟩) (nw b) ((Ax b).length))),(30,(vN (nw a))),(31,(vN i)),(8,(vK .u32 c))]) (tg λ(i:Nat) (os:List Nat) (c:Nat)=>[Ae b5 83 (Ak (Ax b)),Ae b4 83 (Ak os),Ae b3 55 (AT 0),Ae b2 55 (AT b),Ae b1 55 (AT a)]) (tg λ(i:Nat) (os:List Nat) (c:Nat)=>nw a-i) 0 (Ax a) 0 (⟨Nat.zero_le _,by rw [hpad];rfl,CE a,Z,by rw [OD];simp [val]⟩) (sF O) sr (λi os c hJ=>?_)
   obtain ⟨hi,hl,hw32,hcc,hv⟩:=hJ
   refine q4 (AG (Af (c:=(decide (i<(nw a)))) O O (C6 (a:=i) (b:=nw a))) O (AE.nil (q1 ?_)))
   refine AF.cond O (λhc2=>?_) (λhc2=>?_)
   ·replace hc2:=of_decide_eq_true hc2
    refine AF.skip (q1 (AF.block (q4 (AO O (AK O ?_)))))
    refine q3 (sL [4,5,6,7,30,31,8,9] O) (AK O (AE.nil (q1 (q4 (AO O ?_)))))
    refine AO O (AG (v:=(vN (nw b))) (AH O underlying187) O (AG (Af (c:=(decide (i<(nw b)))) O O (C6 (a:=i) (b:=nw b))) O (AE.nil (AD.subF (sL [4,5,6,7,30,31,8,9,10,37] O) (AD.then_ ?_)))))
    refine AF.jn0 (tg True) (tg [(4,(pP b3 0)),(5,(Value.bool false)),(6,(Value.slice (some ⟨b4,0,none⟩) (nw a) ((Ax a).length))),(7,(Value.slice (some ⟨b5,0,none⟩) (nw b) ((Ax b).length))),(30,(vN (nw a))),(31,(vN i)),(8,(vK .u32 c)),(9,(vN i)),(10,(vK .u32 ((AL b).getD i 0)))]) (tg [Ae b5 83 (Ak (Ax b)),Ae b4 83 (Ak os),Ae b3 55 (AT 0),Ae b2 55 (AT b),Ae b1 55 (AT a)]) ?_ ?_
    ·skip
     refine AF.cond O (λhc3=>?_) (λhc3=>?_)
     ·replace hc3:=of_decide_eq_true hc3
      refine AF.region (AO O (AO O (AG (v:=(pP b5 i)) (AJ (j:=i) O O underlying187 sizeOf83 O Z (by simp)) O ?_)))
      have hx1:(Ax b).getD i 0<4294967296:=W32.getD (CE b) i
      exact AG (AM (i:=0) (v:=(vK .u32 ((Ax b).getD i 0))) O O isAgg83 (BJ (xs:=Ax b) (j:=i) Z)) O (AE.retell (k:=41) (u:=(vK .u32 ((AL b).getD i 0))) O (by rw [DA hc3]) (AK O (AE.nil (AD.subF (sL [4,5,6,7,30,31,8,9,10] O) (AD.join0  (trivial) (sF O) sr)))))
     ·replace hc3:=of_decide_eq_false hc3
      exact AF.skip (AD.retell (k:=10) (u:=Value.int .u32 (((AL b).getD i 0:Nat):Int)) O (by rw [Du hc3];rfl) (AD.join0  (trivial) (sF O) sr))
    ·intro hJ
     refine AD.then_ (AF.region (AO O (AO O (AO O (AO O ?_)))))
     refine AG (v:=(pP b4 i)) (AJ (j:=i) O O underlying187 sizeOf83 O Z (by simp)) O ?_
     have hx2:os.getD i 0<4294967296:=W32.getD hw32 i
     refine AG (AM (i:=1) (v:=(vK .u32 (os.getD i 0))) O O isAgg83 (BJ (xs:=os) (j:=i) Z)) O (AO O (AO O ?_))
     have hyb:=(Bp b).getD i
     refine BV call142 (Ia (os.getD i 0) ((AL b).getD i 0) c _ Z Z Z O) O (AO O (AG (AZ (v:=(vK .u32 (((os.getD i 0)+(4294967296-((AL b).getD i 0))+(4294967296-c))%4294967296))) O O) O (AG (AZ (v:=(vK .u32 (Hj (os.getD i 0) (((AL b).getD i 0)+c)))) O O) O (AG (v:=(pP b4 i)) (AJ (j:=i) O O underlying187 sizeOf83 O Z (by simp)) O (AE.store' (i:=1) (off:=i) (vs:=[(vK .u32 (((os.getD i 0)+(4294967296-((AL b).getD i 0))+(4294967296-c))%4294967296))]) (cs':=Ak (os.set i (((os.getD i 0)+(4294967296-((AL b).getD i 0))+(4294967296-c))%4294967296))) (L':=[Ae b5 83 (Ak (Ax b)),Ae b4 83 (Ak (os.set i (((os.getD i 0)+(4294967296-((AL b).getD i 0))+(4294967296-c))%4294967296))),Ae b3 55 (AT 0),Ae b2 55 (AT b),Ae b1 55 (AT a)]) (AQ O) O O O O O sizeOf83 O (CU (BR _) Z) (B7 Z) O ?_)))))
     refine AK O (AE.nil (AD.subF (sL [4,5,6,7,30,31,8,9,10] O) (AD.in_normal (AD.then_ (AF.region ?_)))))
     exact AG (AX (c:=((i+1:Nat):Int)) O O (AY (a:=i) (b:=1) Z)) O (AO O (AE.nil (AD.subF (sL [4,5,6,7,30,31,8,9,10] O) (AD.round3 (i+1) (os.set i ((os.getD i 0+(4294967296-(AL b).getD i 0)+(4294967296-c))%4294967296)) (Hj (os.getD i 0) ((AL b).getD i 0+c)) (⟨Z,by rw [List.length_set];exact hl,W32.set hw32 Z i,NA _ _,P3 hl hc2 hw32 (Bp b) hcc hv⟩) Z (sF O) sr))))
   ·replace hc2:=of_decide_eq_false hc2
    refine AF.exit (AD.then_exit (AD.round3_exit (AD.in_exit (q2 (AO O ?_)))))
    refine ET call107 (λw hw=>Hy _ (nw a) ((Ax a).length) os hw32 (by first|omega|(rw [rowN_length];omega)|simp|(simp;omega)) (by first|omega|simp|(simp;omega)) (by first|omega|simp|(simp;omega)) w (hw.get (i:=1) O)) O (AE.retell (k:=57) (u:=(aG (AT (a-b)))) O (by rw [List.take_of_length_le (show os.length<=nw a by omega),Pp (X:=a) (Y:=b) (n:=nw a) (c:=c) (i:=i) hl hw32 Z Z (by rw [<-hv,Cu Z]) (Bu a)]) (Le O sizeOf55 O (AK O (AE.nil (AD.subF (sL [4,5,6,7,30,31,8] O) ?_)))))
    exact AD.then_ (AF.ret (Cm O (A8 (i:=2) (cs:=AT (a-b)) O O isAgg55 sizeOf55 O) (Ad (v:=(Value.bool true)) O) (λw hw=>⟨by rw [decide_eq_true (show b<=a by omega)],hw.out⟩)))
theorem M1 (a b:Nat) (ha:nw a<=1099511627776) (hb:nw b<=1099511627776) (w:World)  :Calls prog 57 #[(aG (AT a)),(aG (AT b))] w (Am w (aG (AT (a*b)))):=by
 have hla:=CD a
 have hlb:=CD b
 refine Ac (args:=[(aG (AT a)),(aG (AT b))]) func57 O O (Ab O) (AF.subF (sL [0,1] O) (q4 (Bq (cs:=AT a) O λb1=>Bq (cs:=AT b) O λb2=>al E7 O λb3=>?_)))
 refine q6 (sL [2,3,4] O) (q4 (AG (v:=(pP b1 1)) (AA O underlying55 O sizeOf9 O) O (BO 2 (Value.string (Bj a)) Pa O (AG (Bk (c:=(decide (a<18446744073709551616))) O O CR) O (AO O ?_)))))
 refine AE.mid (FM:=[(2,(pP b1 0)),(3,(pP b2 0)),(4,(pP b3 0)),(15,(pP b1 1)),(16,(Value.string (Bj a))),(17,(Value.bool (decide (a<18446744073709551616)))),(18,(Value.bool (decide (a<18446744073709551616)))),(22,(Value.bool ((decide (a<18446744073709551616))&&(decide (b<18446744073709551616)))))]) (LM:=[Ae b3 55 (AT 0),Ae b2 55 (AT b),Ae b1 55 (AT a)]) 4 ?_ ?_
 ·rcases Bool.eq_false_or_eq_true (decide (a<18446744073709551616)) with hg1|hg1
  ·skip
   refine AE.retell (k:=18) (u:=Value.bool true) O (by rw [hg1]) ?_
   have hg1':=hg1
   replace hg1':=of_decide_eq_true hg1'
   exact AE.step (v:=(pP b2 1)) (AB O) (AA O underlying55 O sizeOf9 O) O (Ab O) (AE.step (v:=(Value.string (Bj b))) (AB O) (AM (i:=1) (v:=(Value.string (Bj b))) O O Pa.a O) O (Ab O) (AE.step (v:=(Value.bool (decide (b<18446744073709551616)))) (AB O) (Bk (c:=(decide (b<18446744073709551616))) O O CR) O (Ab O) (AG (v:=(Value.bool (decide (b<18446744073709551616)))) (Ah O O) O (AE.nil (AD.mid (sS O (sS O (sS O (sS O (sS O (sS O (sS (by first|rfl|(rw [hg1];rfl)|rw [hg1]) (sS (by first|rfl|(rw [hg1];rfl)|rw [hg1]) (sN))))))))) (List.Sublist.refl _))))))
  ·skip
   refine AE.retell (k:=18) (u:=Value.bool false) O (by rw [hg1]) ?_
   have hg1':=hg1
   replace hg1':=of_decide_eq_false hg1'
   exact AE.skip (AR O) O (Ab O) (AE.skip (AR O) O (Ab O) (AE.skip (AR O) O (Ab O) (AG (v:=(Value.bool false)) (AU O O) O (AE.nil (AD.mid (sS O (sS O (sS O (sS O (sS O (sS O (sS (by first|rfl|(rw [hg1];rfl)|rw [hg1]) (sS (by first|rfl|(rw [hg1];rfl)|rw [hg1]) (sN))))))))) (List.Sublist.refl _))))))
 refine AE.nil (AD.subF (sL [2,3,4,22] O) (AD.then_ ?_))
 refine AF.cond O (λhc0=>?_) (λhc0=>?_)
 ·simp only [Bool.and_eq_true,Bool.or_eq_true,Bool.and_eq_false_iff,Bool.or_eq_false_iff,Bool.not_eq_true',Bool.not_eq_false',decide_eq_true_eq,decide_eq_false_iff_not] at hc0
  refine q4 (AG (v:=(pP b1 0)) (AA O underlying55 O sizeOf53 O) O (BO 2 (vK .u64 (Bw a)) Fd O (AE.retell (k:=25) (u:=(vK .u64 a)) O (by rw [Bf hc0.1]) (AG (v:=(pP b2 0)) (AA O underlying55 O sizeOf53 O) O (BO 1 (vK .u64 (Bw b)) Fd O ?_)))))
  have hhi:a*b/18446744073709551616<18446744073709551616:=Nat.div_lt_of_lt_mul (Nat.mul_lt_mul'' hc0.1 hc0.2)
  refine AE.retell (k:=27) (u:=(vK .u64 b)) O (by rw [Bf hc0.2]) (BV call106 (Pf a b Z Z) O (AO O (AG (AZ (v:=(vK .u64 (a*b/18446744073709551616))) O O) O (AG (AZ (v:=(vK .u64 (a*b%18446744073709551616))) O O) O (AK O ?_)))))
  refine AK O (q3 (sL [2,3,4,5,6] O) (AO O (AG (Aq (c:=(((a*b%18446744073709551616)%4294967296:Nat):Int)) O underlying53 underlying83 Dt) O (AO O (AG (CZ (s:=32) (c:=(((a*b%18446744073709551616)/4294967296:Nat):Int)) O O O (by decide) (FA (a:=a*b%18446744073709551616) (s:=32))) O ?_)))))
  refine AG (Aq (c:=(((a*b%18446744073709551616)/4294967296:Nat):Int)) O underlying53 underlying83 (CM Z)) O (AO O (AG (Aq (c:=(((a*b/18446744073709551616)%4294967296:Nat):Int)) O underlying53 underlying83 Dt) O (AO O (AG (CZ (s:=32) (c:=(((a*b/18446744073709551616)/4294967296:Nat):Int)) O O O (by decide) (FA (a:=a*b/18446744073709551616) (s:=32))) O (AG (Aq (c:=(((a*b/18446744073709551616)/4294967296:Nat):Int)) O underlying53 underlying83 (CM Z)) O ?_)))))
  refine AE.openV (V:=λb4=>(Value.slice (some ⟨b4,0,none⟩) 4 4)) (T:=83) (cs:=Ak ([(a*b%18446744073709551616)%4294967296,(a*b%18446744073709551616)/4294967296,(a*b/18446744073709551616)%4294967296,(a*b/18446744073709551616)/4294967296])) (AQ O) (BA (cs:=Ak ([(a*b%18446744073709551616)%4294967296,(a*b%18446744073709551616)/4294967296,(a*b/18446744073709551616)%4294967296,(a*b/18446744073709551616)/4294967296])) (pv:=[(0,(vK .u32 ((a*b%18446744073709551616)%4294967296))),(1,(vK .u32 ((a*b%18446744073709551616)/4294967296))),(2,(vK .u32 ((a*b/18446744073709551616)%4294967296))),(3,(vK .u32 ((a*b/18446744073709551616)/4294967296)))]) underlying187 sizeOf83 zeroValue83 (by decide) (by decide) O (by kernel_rfl)) O (Ab O) λb4=>ET call107 (λw hw=>Hy _ 4 4 ([(a*b%18446744073709551616)%4294967296,(a*b%18446744073709551616)/4294967296,(a*b/18446744073709551616)%4294967296,(a*b/18446744073709551616)/4294967296]) (W32.cons Z (W32.cons Z (W32.cons Z (W32.cons Z (W32.nil))))) (by first|omega|(rw [rowN_length];omega)|simp|(simp;omega)) (by first|omega|simp|(simp;omega)) (by first|omega|simp|(simp;omega)) w (hw.get (i:=0) O)) O (AE.retell (k:=42) (u:=(aG (AT (a*b)))) O (by rw [show ∀x y z t:Nat,[x,y,z,t].take 4=[x,y,z,t] from λ_ _ _ _=>rfl,Um Z hhi,show a*b%18446744073709551616+a*b/18446744073709551616*18446744073709551616=a*b by omega]) (C3 O sizeOf55 O (AE.nil (AD.subF (sL [2,3,4] O) ?_))))
  exact AD.then_ (AF.ret (AD.then_ret (AP O (A8 (i:=1) (cs:=AT (a*b)) O O isAgg55 sizeOf55 O) (λw hw=>⟨rfl,hw.out⟩))))
 ·simp only [Bool.and_eq_true,Bool.or_eq_true,Bool.and_eq_false_iff,Bool.or_eq_false_iff,Bool.not_eq_true',Bool.not_eq_false',decide_eq_true_eq,decide_eq_false_iff_not] at hc0
  refine AF.skip (q1 (C4 [(0,true),(2,true),(1,false),(3,false),(4,true),(5,true)] sr (Es 2 Bv O (Es 1 Bv O (AS.imp O ?_)))))
  refine AE.callB (V:=λb4=>(Value.slice (some ⟨b4,0,none⟩) (nw a) ((Ax a).length))) (T:=83) (cs:=Ak (Ax a)) (AQ O) (Aw (args:=[(aG (AT a))]) O O call108) (λw hw=>Cp a Z w) O (Ab O) λb4=>AS.back (sl sr) (AS.imp O (AE.callB (V:=λb5=>(Value.slice (some ⟨b5,0,none⟩) (nw b) ((Ax b).length))) (T:=83) (cs:=Ak (Ax b)) (AQ O) (Aw (args:=[(aG (AT b))]) O O call108) (λw hw=>Cp b Z w) O (Ab O) λb5=>AS.back (sl (sl sr)) (EZ O ?_)))
  refine EZ O (AS.nil (AD.subF (sL [2,3,4,7,8] O) (q2 (AO O (AG (v:=(vN (nw a))) (AH O underlying187) O ?_)))))
  refine AO O (AG (v:=(vN (nw b))) (AH O underlying187) O (AG (AX (c:=(((nw a)+(nw b):Nat):Int)) O O (AY (a:=nw a) (b:=nw b) Z)) O (AE.openV (V:=λb6=>(Value.slice (some ⟨b6,0,none⟩) ((nw a)+(nw b)) ((nw a)+(nw b)))) (T:=83) (cs:=Ak (List.replicate ((nw a)+(nw b)) 0)) (AQ O) (Cv (m:=(nw a)+(nw b)) (c:=(nw a)+(nw b)) O O Z Z) O (Ab O) λb6=>AK O (q6 (sL [2,3,4,7,8,9] O) ?_))))
  refine q4 (AO O (AG (v:=(vN (nw a))) (AH O underlying187) O (AO O (AE.nil (AD.then_ ?_)))))
  refine AF.block ?_
  refine AF.lp2 (tg λ(i:Nat) (os:List Nat)=>i<=nw a/\os.length=nw a+nw b/\W32 os/\val os=val ((AL a).take i)*b) (tg λ(i:Nat) (os:List Nat)=>[(4,(pP b3 0)),(8,(Value.slice (some ⟨b5,0,none⟩) (nw b) ((Ax b).length))),(9,(Value.slice (some ⟨b6,0,none⟩) ((nw a)+(nw b)) ((nw a)+(nw b)))),(53,(Value.slice (some ⟨b4,0,none⟩) (nw a) ((Ax a).length))),(54,(vN (nw a))),(55,(vN i))]) (tg λ(i:Nat) (os:List Nat)=>[Ae b6 83 (Ak os),Ae b5 83 (Ak (Ax b)),Ae b4 83 (Ak (Ax a)),Ae b3 55 (AT 0),Ae b2 55 (AT b),Ae b1 55 (AT a)]) (tg λ(i:Nat) (os:List Nat)=>nw a-i) 0 (List.replicate (nw a+nw b) 0) (⟨Nat.zero_le _,by simp,W32.zeros _,by rw [De];simp [val]⟩) (sF O) sr (λi os hJ=>?_)
  obtain ⟨hi,hl,hw32,hv⟩:=hJ
  refine q4 (AG (Af (c:=(decide (i<(nw a)))) O O (C6 (a:=i) (b:=nw a))) O (AE.nil (q1 ?_)))
  refine AF.cond O (λhc1=>?_) (λhc1=>?_)
  ·replace hc1:=of_decide_eq_true hc1
   refine AF.skip (q1 (AF.block (q4 (AO O (AG (v:=(pP b4 i)) (AJ (j:=i) O O underlying187 sizeOf83 O Z (by simp)) O ?_)))))
   have hx1:(Ax a).getD i 0<4294967296:=W32.getD (CE a) i
   refine AG (AM (i:=2) (v:=(vK .u32 ((Ax a).getD i 0))) O O isAgg83 (BJ (xs:=Ax a) (j:=i) Z)) O (AE.retell (k:=59) (u:=(vK .u32 ((AL a).getD i 0))) O (by rw [DA hc1]) (AK O (AK O (q3 (sL [4,8,9,53,54,55,10,11] O) (AK O ?_)))))
   refine AE.nil (q1 (q4 (AO O (AG (v:=(vN (nw b))) (AH O underlying187) O (AO O ?_)))))
   refine AE.nil (AD.then_ (AF.block ?_))
   refine AF.lp3 (tg λ(k:Nat) (xs:List Nat) (c:Nat)=>k<=nw b/\xs.length=nw a+nw b/\W32 xs/\c<4294967296/\(∀j,i+nw b<=j->xs.getD j 0=0)/\val xs+c*4294967296^(i+k)=val ((AL a).take i)*b+(AL a).getD i 0*val ((AL b).take k)*4294967296^i) (tg λ(k:Nat) (xs:List Nat) (c:Nat)=>[(4,(pP b3 0)),(8,(Value.slice (some ⟨b5,0,none⟩) (nw b) ((Ax b).length))),(9,(Value.slice (some ⟨b6,0,none⟩) ((nw a)+(nw b)) ((nw a)+(nw b)))),(53,(Value.slice (some ⟨b4,0,none⟩) (nw a) ((Ax a).length))),(54,(vN (nw a))),(55,(vN i)),(10,(vN i)),(11,(vK .u32 ((AL a).getD i 0))),(60,(Value.slice (some ⟨b5,0,none⟩) (nw b) ((Ax b).length))),(61,(vN (nw b))),(62,(vN k)),(12,(vK .u64 c))]) (tg λ(k:Nat) (xs:List Nat) (c:Nat)=>[Ae b6 83 (Ak xs),Ae b5 83 (Ak (Ax b)),Ae b4 83 (Ak (Ax a)),Ae b3 55 (AT 0),Ae b2 55 (AT b),Ae b1 55 (AT a)]) (tg λ(k:Nat) (xs:List Nat) (c:Nat)=>nw b-k) 0 os 0 (⟨Nat.zero_le _,hl,hw32,Z,Mv hv,by rw [hv];simp [val]⟩) (sF O) sr (λk xs c hJ=>?_)
   obtain ⟨hk,hl2,hw2,hcc,h02,hv2⟩:=hJ
   refine q4 (AG (Af (c:=(decide (k<(nw b)))) O O (C6 (a:=k) (b:=nw b))) O (AE.nil (q1 ?_)))
   refine AF.cond O (λhc2=>?_) (λhc2=>?_)
   ·replace hc2:=of_decide_eq_true hc2
    refine AF.skip (q1 (AF.block (q4 (AO O (AG (v:=(pP b5 k)) (AJ (j:=k) O O underlying187 sizeOf83 O Z (by simp)) O ?_)))))
    have hx2:(Ax b).getD k 0<4294967296:=W32.getD (CE b) k
    refine AG (AM (i:=1) (v:=(vK .u32 ((Ax b).getD k 0))) O O isAgg83 (BJ (xs:=Ax b) (j:=k) Z)) O (AE.retell (k:=66) (u:=(vK .u32 ((AL b).getD k 0))) O (by rw [DA hc2]) (AK O (AK O (q3 (sL [4,8,9,53,54,55,10,11,60,61,62,12,13,14] O) (AO O ?_)))))
    refine AO O ?_
    have hwa:=(Bp a).getD i
    have hwb:=(Bp b).getD k
    have hml:=Id hwa hwb
    refine AG (Aq (c:=(((AL a).getD i 0:Nat):Int)) O underlying83 underlying53 (BY Z)) O (AO O (AG (Aq (c:=(((AL b).getD k 0:Nat):Int)) O underlying83 underlying53 (BY Z)) O (AG (Br (c:=((((AL a).getD i 0)*((AL b).getD k 0):Nat):Int)) O O (EG (a:=(AL a).getD i 0) (b:=(AL b).getD k 0) Z)) O (AO O (AO O ?_)))))
    refine AO O (AG (AX (c:=((i+k:Nat):Int)) O O (AY (a:=i) (b:=k) Z)) O (AG (v:=(pP b6 (i+k))) (AJ (j:=i+k) O O underlying187 sizeOf83 O Z (by simp)) O ?_))
    have hx3:xs.getD (i+k) 0<4294967296:=W32.getD hw2 (i+k)
    refine AG (AM (i:=0) (v:=(vK .u32 (xs.getD (i+k) 0))) O O isAgg83 (BJ (xs:=xs) (j:=(i+k)) Z)) O (AG (Aq (c:=((xs.getD (i+k) 0:Nat):Int)) O underlying83 underlying53 (BY Z)) O (AG (AX (c:=(((((AL a).getD i 0)*((AL b).getD k 0))+(xs.getD (i+k) 0):Nat):Int)) O O (C7 (a:=((AL a).getD i 0)*((AL b).getD k 0)) (b:=xs.getD (i+k) 0) Z)) O (AG (AX (c:=((c+((((AL a).getD i 0)*((AL b).getD k 0))+(xs.getD (i+k) 0)):Nat):Int)) O O (C7 (a:=c) (b:=(((AL a).getD i 0)*((AL b).getD k 0))+(xs.getD (i+k) 0)) Z)) O (AK O (q3 (sL [4,8,9,53,54,55,10,11,60,61,62,12,13] O) ?_)))))
    refine AO O (AO O (AO O (AG (AX (c:=((i+k:Nat):Int)) O O (AY (a:=i) (b:=k) Z)) O (AO O (AG (Aq (c:=(((c+((((AL a).getD i 0)*((AL b).getD k 0))+(xs.getD (i+k) 0)))%4294967296:Nat):Int)) O underlying53 underlying83 Dt) O ?_)))))
    refine AG (v:=(pP b6 (i+k))) (AJ (j:=i+k) O O underlying187 sizeOf83 O Z (by simp)) O (AE.store' (i:=0) (off:=(i+k)) (vs:=[(vK .u32 ((c+((((AL a).getD i 0)*((AL b).getD k 0))+(xs.getD (i+k) 0)))%4294967296))]) (cs':=Ak (xs.set (i+k) ((c+((((AL a).getD i 0)*((AL b).getD k 0))+(xs.getD (i+k) 0)))%4294967296))) (L':=[Ae b6 83 (Ak (xs.set (i+k) ((c+((((AL a).getD i 0)*((AL b).getD k 0))+(xs.getD (i+k) 0)))%4294967296))),Ae b5 83 (Ak (Ax b)),Ae b4 83 (Ak (Ax a)),Ae b3 55 (AT 0),Ae b2 55 (AT b),Ae b1 55 (AT a)]) (AQ O) O O O O O sizeOf83 O (CU (BR _) Z) (B7 Z) O (AE.nil (AD.subF (sL [4,8,9,53,54,55,10,11,60,61,62,12,13] O) (AD.then_ (AF.region ?_)))))
    refine AO O (AG (CZ (s:=32) (c:=(((c+((((AL a).getD i 0)*((AL b).getD k 0))+(xs.getD (i+k) 0)))/4294967296:Nat):Int)) O O O (by decide) (FA (a:=c+((((AL a).getD i 0)*((AL b).getD k 0))+(xs.getD (i+k) 0))) (s:=32))) O (AK O (AE.nil (AD.subF (sL [4,8,9,53,54,55,10,11,60,61,62,12,13] O) (AD.in_normal ?_)))))
    exact AD.then_ (AF.region (AG (AX (c:=((k+1:Nat):Int)) O O (AY (a:=k) (b:=1) Z)) O (AO O (AE.nil (AD.subF (sL [4,8,9,53,54,55,10,11,60,61,62,12,13] O) (AD.round3 (k+1) (xs.set (i+k) ((c+((AL a).getD i 0*(AL b).getD k 0+xs.getD (i+k) 0))%4294967296)) ((c+((AL a).getD i 0*(AL b).getD k 0+xs.getD (i+k) 0))/4294967296) (⟨Z,by rw [List.length_set];exact hl2,W32.set hw2 Z _,Z,E1 h02 Z,Q_ hl2 Z hv2⟩) Z (sF O) sr))))))
   ·replace hc2:=of_decide_eq_false hc2
    have hkn:k=nw b:=by omega
    have hbb:val ((AL b).take k)=b:=Cu Z
    rw [hbb] at hv2
    refine AF.exit (AD.then_exit (AD.round3_exit (AD.in_exit (AD.then_ (AF.region ?_)))))
    refine AO O (AO O (AO O (AG (v:=(vN (nw b))) (AH O underlying187) O (AG (AX (c:=((i+(nw b):Nat):Int)) O O (AY (a:=i) (b:=nw b) Z)) O (AO O ?_)))))
    refine AG (Aq (c:=((c:Nat):Int)) O underlying53 underlying83 (CM Z)) O (AG (v:=(pP b6 (i+(nw b)))) (AJ (j:=i+(nw b)) O O underlying187 sizeOf83 O Z (by simp)) O (AE.store' (i:=0) (off:=(i+(nw b))) (vs:=[(vK .u32 c)]) (cs':=Ak (xs.set (i+(nw b)) c)) (L':=[Ae b6 83 (Ak (xs.set (i+(nw b)) c)),Ae b5 83 (Ak (Ax b)),Ae b4 83 (Ak (Ax a)),Ae b3 55 (AT 0),Ae b2 55 (AT b),Ae b1 55 (AT a)]) (AQ O) O O O O O sizeOf83 O (CU (BR _) Z) (B7 Z) O (AE.nil (AD.subF (sL [4,8,9,53,54,55,10,11,60,61,62,12] O) (AD.in_normal ?_)))))
    exact AD.then_ (AF.region (AG (AX (c:=((i+1:Nat):Int)) O O (AY (a:=i) (b:=1) Z)) O (AO O (AE.nil (AD.subF (sL [4,8,9,53,54,55,10,11,60,61,62,12] O) (AD.round2 (i+1) (xs.set (i+nw b) c) (⟨Z,by rw [List.length_set];exact hl2,W32.set hw2 hcc _,by rw [Gy hl2 Z (h02 _ (Nat.le_refl _)),<-Tb,<-hv2,<-hkn]⟩) Z (sF O) sr))))))
  ·replace hc1:=of_decide_eq_false hc1
   refine AF.exit (AD.then_exit (AD.round2_exit (AD.in_exit (q2 (AO O ?_)))))
   refine ET call107 (λw hw=>Hy _ ((nw a)+(nw b)) ((nw a)+(nw b)) os hw32 (by first|omega|(rw [rowN_length];omega)|simp|(simp;omega)) (by first|omega|simp|(simp;omega)) (by first|omega|simp|(simp;omega)) w (hw.get (i:=0) O)) O (AE.retell (k:=102) (u:=(aG (AT (a*b)))) O (by rw [List.take_of_length_le (show os.length<=nw a+nw b by omega),hv,Cu Z]) (Is O sizeOf55 O (AE.nil (AD.subF (sL [4,8,9,53,54,55] O) (AD.then_ ?_)))))
   exact AF.ret (AP O (A8 (i:=3) (cs:=AT (a*b)) O O isAgg55 sizeOf55 O) (λw hw=>⟨rfl,hw.out⟩))
end
end Go.Proofs.YtfbomiejpbchdaaGreatDoor
