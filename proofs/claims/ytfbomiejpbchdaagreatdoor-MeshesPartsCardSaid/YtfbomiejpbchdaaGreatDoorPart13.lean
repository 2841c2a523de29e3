import Derived.Test.YtfbomiejpbchdaaGreatDoorPart06
import Derived.Test.YtfbomiejpbchdaaGreatDoorPart12
namespace Go.Proofs.YtfbomiejpbchdaaGreatDoor
open Go Go.RowKit Go.Proofs.Tryz
set_option linter.unusedVariables false
set_option linter.unusedSimpArgs false
section
set_option maxRecDepth 100000
theorem JI  :Instr.fill ([(0,1),(1,1)].toArray[·]?) (AT 0).toArray []=some (AT 0).toArray:=by kernel_rfl
theorem NE (a b:Nat) (ha:nw a<=1099511627776) (hb:nw b<=1099511627776) (w:World)  :Calls prog 101 #[(aG (AT a)),(aG (AT b))] w (Al w (Value.tuple #[(aG (AT (a-b))),(Value.bool (decide (b<=a)))])):=by
 have hla:=B_ a
 have hlb:=B_ b
 have hpa:=S5 a
 refine Ac (args:=[(aG (AT a)),(aG (AT b))]) func101 O O (Ad O) (AF.subF (sL [0,1] O) (q4 (Bi (cs:=AT a) O λb1=>Bi (cs:=AT b) O λb2=>al FA O λb3=>?_)))
 refine AK O (q6 (sL [2,3,4,5] O) (q4 (BA 2 Br O (BA 1 Br O (BS call139 (Qq a b Z Z) O ?_)))))
 refine AH (Af (c:=(decide ((Ep a b)<(0:Int)))) O O O) O (AE.nil (AC.subF (sL [2,3,4,5,14] O) (AC.then_ ?_)))
 refine AF.cond O (λhc0=>?_) (λhc0=>?_)
 ·replace hc0:=of_decide_eq_true hc0
  rw [H_] at hc0
  refine q4 (AH (v:=(aG (AT 0))) (AV (zs:=AT 0) (vs:=AT 0) (pv:=[]) (places:=[(0,1),(1,1)]) zeroValue55 underlying55 (λw=>by simp [sizeOf9,sizeOf53]) O (JI )) O (AE.retell (k:=15) (u:=(aG (AT (a-b)))) O (by rw [show a-b=0 by omega]) (Av O sizeOf55 O (AK O (AE.nil ?_)))))
  exact AC.subF (sL [2,3,4,5] O) (AC.then_ (AF.ret (AC.then_ret (Ch O (A7 (i:=0) (cs:=AT (a-b)) O O isAgg55 sizeOf55 O) (Ab (v:=(Value.bool false)) O) (λw hw=>⟨by rw [decide_eq_false (show ¬b<=a by omega)],hw.out⟩)))))
 ·replace hc0:=of_decide_eq_false hc0
  rw [H_] at hc0
  have hnb:nw b<=nw a:=DA Z
  refine AF.skip (q1 (q4 (AH (v:=(pP b1 1)) (AA O underlying55 O sizeOf9 O) O (BJ 2 (Value.string (Be a)) PJ O (AH (Bf (c:=(decide (a<18446744073709551616))) O O CL) O ?_)))))
  refine AE.nil (AC.subF (sL [2,3,4,5,18] O) (AC.then_ ?_))
  refine AF.cond O (λhc1=>?_) (λhc1=>?_)
  ·replace hc1:=of_decide_eq_true hc1
   refine q4 (AH (v:=(pP b1 0)) (AA O underlying55 O sizeOf53 O) O (BJ 2 (vK .u64 (Bs a)) FX O (AE.retell (k:=20) (u:=(vK .u64 a)) O (by rw [Bc hc1]) (AH (v:=(pP b2 0)) (AA O underlying55 O sizeOf53 O) O (BJ 1 (vK .u64 (Bs b)) FX O ?_)))))
   refine AE.retell (k:=22) (u:=(vK .u64 b)) O (by rw [Bc Z]) (AH (Bo (c:=((a-b:Nat):Int)) O O (Gd (a:=a) (b:=b) Z Z)) O (AH (v:=(aG ([(vK .u64 (a-b)),(Value.string (Be 0))]))) (AV (zs:=AT 0) (vs:=[(vK .u64 (a-b)),(Value.string (Be 0))]) (pv:=[(0,(vK .u64 (a-b)))]) (places:=[(0,1),(1,1)]) zeroValue55 underlying55 (λw=>by simp [sizeOf9,sizeOf53]) O O) O (AE.retell (k:=24) (u:=(aG (AT (a-b)))) O (by rw [DD Z];rfl) (Av O sizeOf55 O (AK O ?_)))))
   exact AE.nil (AC.subF (sL [2,3,4,5] O) (AC.then_ (AF.ret (AC.then_ret (Ch O (A7 (i:=0) (cs:=AT (a-b)) O O isAgg55 sizeOf55 O) (Ab (v:=(Value.bool true)) O) (λw hw=>⟨by rw [decide_eq_true (show b<=a by omega)],hw.out⟩))))))
  ·replace hc1:=of_decide_eq_false hc1
   have hpad:Aw a=AL a:=if_neg hc1
   refine AF.skip (q1 (C2 [(0,true),(2,true),(1,false),(3,false),(4,true),(5,true)] sr (EH 2 Br O (EH 1 Br O (AS.imp O ?_)))))
   refine AE.callB (V:=λb4=>(Value.slice (some ⟨b4,0,none⟩) (nw a) ((Aw a).length))) (T:=83) (cs:=Aj (Aw a)) (AP O) (Ao (args:=[(aG (AT a))]) O O call108) (λw hw=>Cw a Z w) O (Ad O) λb4=>AS.back (sl sr) (AS.imp O (AE.callB (V:=λb5=>(Value.slice (some ⟨b5,0,none⟩) (nw b) ((Aw b).length))) (T:=83) (cs:=Aj (Aw b)) (AP O) (Ao (args:=[(aG (AT b))]) O O call108) (λw hw=>Cw b Z w) O (Ad O) λb5=>AS.back (sl (sl sr)) (EW O ?_)))
   refine EW O (AS.nil (AC.subF (sL [2,3,4,5,6,7] O) (q2 (AK O (AE.nil ?_)))))
   refine q1 (q4 (AO O (AH (v:=(vN (nw a))) (AG O underlying187) O (AO O (AE.nil ?_)))))
   refine AC.subF (sL [2,3,4,5,6,7,8,30,31] O) (AC.then_ (AF.block ?_))
   refine AF.lp3 (tg λ(i:Nat) (os:List Nat) (c:Nat)=>i<=nw a/\os.length=nw a/\W32 os/\c<=1/\val os+val ((AL b).take i)=a+c*4294967296^i) (tg λ(i:Nat) (os:List Nat) (c:Nat)=>[(4,(pP b3 0)),(5,(Value.bool false)),(6,(Value.slice (some ⟨b4,0,none⟩) (nw a) ((Aw a).length))),(7,(Value.slice (some ⟨b5,0,none⟩) (nw b) ((Aw b).length))),(30,(vN (nw a))),(31,(vN i)),(8,(vK .u32 c))]) (tg λ(i:Nat) (os:List Nat) (c:Nat)=>[Ae b5 83 (Aj (Aw b)),Ae b4 83 (Aj os),Ae b3 55 (AT 0),Ae b2 55 (AT b),Ae b1 55 (AT a)]) (tg λ(i:Nat) (os:List Nat) (c:Nat)=>nw a-i) 0 (Aw a) 0 (⟨Nat.zero_le _,by rw [hpad];rfl,CE a,Z,by rw [Np];simp [val]⟩) (sF O) sr (λi os c hJ=>?_)
   obtain ⟨hi,hl,hw32,hcc,hv⟩:=hJ
   refine q4 (AH (Af (c:=(decide (i<(nw a)))) O O (C1 (a:=i) (b:=nw a))) O (AE.nil (q1 ?_)))
   refine AF.cond O (λhc2=>?_) (λhc2=>?_)
   ·replace hc2:=of_decide_eq_true hc2
    refine AF.skip (q1 (AF.block (q4 (AO O (AK O ?_)))))
    refine q3 (sL [4,5,6,7,30,31,8,9] O) (AK O (AE.nil (q1 (q4 (AO O ?_)))))
    refine AO O (AH (v:=(vN (nw b))) (AG O underlying187) O (AH (Af (c:=(decide (i<(nw b)))) O O (C1 (a:=i) (b:=nw b))) O (AE.nil (AC.subF (sL [4,5,6,7,30,31,8,9,10,37] O) (AC.then_ ?_)))))
    refine AF.jn0 (tg True) (tg [(4,(pP b3 0)),(5,(Value.bool false)),(6,(Value.slice (some ⟨b4,0,none⟩) (nw a) ((Aw a).length))),(7,(Value.slice (some ⟨b5,0,none⟩) (nw b) ((Aw b).length))),(30,(vN (nw a))),(31,(vN i)),(8,(vK .u32 c)),(9,(vN i)),(10,(vK .u32 ((AL b).getD i 0)))]) (tg [Ae b5 83 (Aj (Aw b)),Ae b4 83 (Aj os),Ae b3 55 (AT 0),Ae b2 55 (AT b),Ae b1 55 (AT a)]) ?_ ?_
    ·skip
     refine AF.cond O (λhc3=>?_) (λhc3=>?_)
     ·replace hc3:=of_decide_eq_true hc3
      refine AF.region (AO O (AO O (AH (v:=(pP b5 i)) (AI (j:=i) O O underlying187 sizeOf83 O Z (by simp)) O ?_)))
      have hx1:(Aw b).getD i 0<4294967296:=W32.getD (CE b) i
      exact AH (AM (i:=0) (v:=(vK .u32 ((Aw b).getD i 0))) O O isAgg83 (BG (xs:=Aw b) (j:=i) Z)) O (AE.retell (k:=41) (u:=(vK .u32 ((AL b).getD i 0))) O (by rw [C4 hc3]) (AK O (AE.nil (AC.subF (sL [4,5,6,7,30,31,8,9,10] O) (AC.join0  (trivial) (sF O) sr)))))
     ·replace hc3:=of_decide_eq_false hc3
      exact AF.skip (AC.retell (k:=10) (u:=Value.int .u32 (((AL b).getD i 0:Nat):Int)) O (by rw [Du hc3];rfl) (AC.join0  (trivial) (sF O) sr))
    ·intro hJ
     refine AC.then_ (AF.region (AO O (AO O (AO O (AO O ?_)))))
     refine AH (v:=(pP b4 i)) (AI (j:=i) O O underlying187 sizeOf83 O Z (by simp)) O ?_
     have hx2:os.getD i 0<4294967296:=W32.getD hw32 i
     refine AH (AM (i:=1) (v:=(vK .u32 (os.getD i 0))) O O isAgg83 (BG (xs:=os) (j:=i) Z)) O (AO O (AO O ?_))
     have hyb:=(Bj b).getD i
     refine BS call142 (I6 (os.getD i 0) ((AL b).getD i 0) c _ Z Z Z O) O (AO O (AH (AX (v:=(vK .u32 (((os.getD i 0)+(4294967296-((AL b).getD i 0))+(4294967296-c))%4294967296))) O O) O (AH (AX (v:=(vK .u32 (HZ (os.getD i 0) (((AL b).getD i 0)+c)))) O O) O (AH (v:=(pP b4 i)) (AI (j:=i) O O underlying187 sizeOf83 O Z (by simp)) O (AE.store' (i:=1) (off:=i) (vs:=[(vK .u32 (((os.getD i 0)+(4294967296-((AL b).getD i 0))+(4294967296-c))%4294967296))]) (cs':=Aj (os.set i (((os.getD i 0)+(4294967296-((AL b).getD i 0))+(4294967296-c))%4294967296))) (L':=[Ae b5 83 (Aj (Aw b)),Ae b4 83 (Aj (os.set i (((os.getD i 0)+(4294967296-((AL b).getD i 0))+(4294967296-c))%4294967296))),Ae b3 55 (AT 0),Ae b2 55 (AT b),Ae b1 55 (AT a)]) (AP O) O O O O O sizeOf83 O (CP (BP _) Z) (B5 Z) O ?_)))))
     refine AK O (AE.nil (AC.subF (sL [4,5,6,7,30,31,8,9,10] O) (AC.in_normal (AC.then_ (AF.region ?_)))))
     exact AH (AW (c:=((i+1:Nat):Int)) O O (AZ (a:=i) (b:=1) Z)) O (AO O (AE.nil (AC.subF (sL [4,5,6,7,30,31,8,9,10] O) (AC.round3 (i+1) (os.set i ((os.getD i 0+(4294967296-(AL b).getD i 0)+(4294967296-c))%4294967296)) (HZ (os.getD i 0) ((AL b).getD i 0+c)) (⟨Z,by rw [List.length_set];exact hl,W32.set hw32 Z i,M2 _ _,Qj hl hc2 hw32 (Bj b) hcc hv⟩) Z (sF O) sr))))
   ·replace hc2:=of_decide_eq_false hc2
    refine AF.exit (AC.then_exit (AC.round3_exit (AC.in_exit (q2 (AO O ?_)))))
    refine D1 call107 (λw hw=>Hd _ (nw a) ((Aw a).length) os hw32 (by first|omega|(rw [rowN_length];omega)|simp|(simp;omega)) (by first|omega|simp|(simp;omega)) (by first|omega|simp|(simp;omega)) w (hw.get (i:=1) O)) O (AE.retell (k:=57) (u:=(aG (AT (a-b)))) O (by rw [List.take_of_length_le (show os.length<=nw a by omega),Pf (X:=a) (Y:=b) (n:=nw a) (c:=c) (i:=i) hl hw32 Z Z (by rw [<-hv,Cm Z]) (Bt a)]) (Lt O sizeOf55 O (AK O (AE.nil (AC.subF (sL [4,5,6,7,30,31,8] O) ?_)))))
    exact AC.then_ (AF.ret (Ch O (A7 (i:=2) (cs:=AT (a-b)) O O isAgg55 sizeOf55 O) (Ab (v:=(Value.bool true)) O) (λw hw=>⟨by rw [decide_eq_true (show b<=a by omega)],hw.out⟩)))
theorem M0 (a b:Nat) (ha:nw a<=1099511627776) (hb:nw b<=1099511627776) (w:World)  :Calls prog 57 #[(aG (AT a)),(aG (AT b))] w (Al w (aG (AT (a*b)))):=by
 have hla:=B_ a
 have hlb:=B_ b
 refine Ac (args:=[(aG (AT a)),(aG (AT b))]) func57 O O (Ad O) (AF.subF (sL [0,1] O) (q4 (Bi (cs:=AT a) O λb1=>Bi (cs:=AT b) O λb2=>al FA O λb3=>?_)))
 refine q6 (sL [2,3,4] O) (q4 (AH (v:=(pP b1 1)) (AA O underlying55 O sizeOf9 O) O (BJ 2 (Value.string (Be a)) PJ O (AH (Bf (c:=(decide (a<18446744073709551616))) O O CL) O (AO O ?_)))))
 refine AE.mid (FM:=[(2,(pP b1 0)),(3,(pP b2 0)),(4,(pP b3 0)),(15,(pP b1 1)),(16,(Value.string (Be a))),(17,(Value.bool (decide (a<18446744073709551616)))),(18,(Value.bool (decide (a<18446744073709551616)))),(22,(Value.bool ((decide (a<18446744073709551616))&&(decide (b<18446744073709551616)))))]) (LM:=[Ae b3 55 (AT 0),Ae b2 55 (AT b),Ae b1 55 (AT a)]) 4 ?_ ?_
 ·rcases Bool.eq_false_or_eq_true (decide (a<18446744073709551616)) with hg1|hg1
  ·skip
   refine AE.retell (k:=18) (u:=Value.bool true) O (by rw [hg1]) ?_
   have hg1':=hg1
   replace hg1':=of_decide_eq_true hg1'
   exact AE.step (v:=(pP b2 1)) (AB O) (AA O underlying55 O sizeOf9 O) O (Ad O) (AE.step (v:=(Value.string (Be b))) (AB O) (AM (i:=1) (v:=(Value.string (Be b))) O O PJ.a O) O (Ad O) (AE.step (v:=(Value.bool (decide (b<18446744073709551616)))) (AB O) (Bf (c:=(decide (b<18446744073709551616))) O O CL) O (Ad O) (AH (v:=(Value.bool (decide (b<18446744073709551616)))) (Ai O O) O (AE.nil (AC.mid (sS O (sS O (sS O (sS O (sS O (sS O (sS (by first|rfl|(rw [hg1];rfl)|rw [hg1]) (sS (by first|rfl|(rw [hg1];rfl)|rw [hg1]) (sN))))))))) (List.Sublist.refl _))))))
  ·skip
   refine AE.retell (k:=18) (u:=Value.bool false) O (by rw [hg1]) ?_
   have hg1':=hg1
   replace hg1':=of_decide_eq_false hg1'
   exact AE.skip (AQ O) O (Ad O) (AE.skip (AQ O) O (Ad O) (AE.skip (AQ O) O (Ad O) (AH (v:=(Value.bool false)) (AY O O) O (AE.nil (AC.mid (sS O (sS O (sS O (sS O (sS O (sS O (sS (by first|rfl|(rw [hg1];rfl)|rw [hg1]) (sS (by first|rfl|(rw [hg1];rfl)|rw [hg1]) (sN))))))))) (List.Sublist.refl _))))))
 refine AE.nil (AC.subF (sL [2,3,4,22] O) (AC.then_ ?_))
 refine AF.cond O (λhc0=>?_) (λhc0=>?_)
 ·simp only [Bool.and_eq_true,Bool.or_eq_true,Bool.and_eq_false_iff,Bool.or_eq_false_iff,Bool.not_eq_true',Bool.not_eq_false',decide_eq_true_eq,decide_eq_false_iff_not] at hc0
  refine q4 (AH (v:=(pP b1 0)) (AA O underlying55 O sizeOf53 O) O (BJ 2 (vK .u64 (Bs a)) FX O (AE.retell (k:=25) (u:=(vK .u64 a)) O (by rw [Bc hc0.1]) (AH (v:=(pP b2 0)) (AA O underlying55 O sizeOf53 O) O (BJ 1 (vK .u64 (Bs b)) FX O ?_)))))
  have hhi:a*b/18446744073709551616<18446744073709551616:=Nat.div_lt_of_lt_mul (Nat.mul_lt_mul'' hc0.1 hc0.2)
  refine AE.retell (k:=27) (u:=(vK .u64 b)) O (by rw [Bc hc0.2]) (BS call106 (PZ a b Z Z) O (AO O (AH (AX (v:=(vK .u64 (a*b/18446744073709551616))) O O) O (AH (AX (v:=(vK .u64 (a*b%18446744073709551616))) O O) O (AK O ?_)))))
  refine AK O (q3 (sL [2,3,4,5,6] O) (AO O (AH (Au (c:=(((a*b%18446744073709551616)%4294967296:Nat):Int)) O underlying53 underlying83 Dl) O (AO O (AH (CV (s:=32) (c:=(((a*b%18446744073709551616)/4294967296:Nat):Int)) O O O (by decide) (E9 (a:=a*b%18446744073709551616) (s:=32))) O ?_)))))
  refine AH (Au (c:=(((a*b%18446744073709551616)/4294967296:Nat):Int)) O underlying53 underlying83 (CI Z)) O (AO O (AH (Au (c:=(((a*b/18446744073709551616)%4294967296:Nat):Int)) O underlying53 underlying83 Dl) O (AO O (AH (CV (s:=32) (c:=(((a*b/18446744073709551616)/4294967296:Nat):Int)) O O O (by decide) (E9 (a:=a*b/18446744073709551616) (s:=32))) O (AH (Au (c:=(((a*b/18446744073709551616)/4294967296:Nat):Int)) O underlying53 underlying83 (CI Z)) O ?_)))))
  refine AE.openV (V:=λb4=>(Value.slice (some ⟨b4,0,none⟩) 4 4)) (T:=83) (cs:=Aj ([(a*b%18446744073709551616)%4294967296,(a*b%18446744073709551616)/4294967296,(a*b/18446744073709551616)%4294967296,(a*b/18446744073709551616)/4294967296])) (AP O) (A_ (cs:=Aj ([(a*b%18446744073709551616)%4294967296,(a*b%18446744073709551616)/4294967296,(a*b/18446744073709551616)%4294967296,(a*b/18446744073709551616)/4294967296])) (pv:=[(0,(vK .u32 ((a*b%18446744073709551616)%4294967296))),(1,(vK .u32 ((a*b%18446744073709551616)/4294967296))),(2,(vK .u32 ((a*b/18446744073709551616)%4294967296))),(3,(vK .u32 ((a*b/18446744073709551616)/4294967296)))]) underlying187 sizeOf83 zeroValue83 (by decide) (by decide) O (by kernel_rfl)) O (Ad O) λb4=>D1 call107 (λw hw=>Hd _ 4 4 ([(a*b%18446744073709551616)%4294967296,(a*b%18446744073709551616)/4294967296,(a*b/18446744073709551616)%4294967296,(a*b/18446744073709551616)/4294967296]) (W32.cons Z (W32.cons Z (W32.cons Z (W32.cons Z (W32.nil))))) (by first|omega|(rw [rowN_length];omega)|simp|(simp;omega)) (by first|omega|simp|(simp;omega)) (by first|omega|simp|(simp;omega)) w (hw.get (i:=0) O)) O (AE.retell (k:=42) (u:=(aG (AT (a*b)))) O (by rw [show ∀x y z t:Nat,[x,y,z,t].take 4=[x,y,z,t] from λ_ _ _ _=>rfl,UD Z hhi,show a*b%18446744073709551616+a*b/18446744073709551616*18446744073709551616=a*b by omega]) (Ci O sizeOf55 O (AE.nil (AC.subF (sL [2,3,4] O) ?_))))
  exact AC.then_ (AF.ret (AC.then_ret (AN O (A7 (i:=1) (cs:=AT (a*b)) O O isAgg55 sizeOf55 O) (λw hw=>⟨rfl,hw.out⟩))))
 ·simp only [Bool.and_eq_true,Bool.or_eq_true,Bool.and_eq_false_iff,Bool.or_eq_false_iff,Bool.not_eq_true',Bool.not_eq_false',decide_eq_true_eq,decide_eq_false_iff_not] at hc0
  refine AF.skip (q1 (C2 [(0,true),(2,true),(1,false),(3,false),(4,true),(5,true)] sr (EH 2 Br O (EH 1 Br O (AS.imp O ?_)))))
  refine AE.callB (V:=λb4=>(Value.slice (some ⟨b4,0,none⟩) (nw a) ((Aw a).length))) (T:=83) (cs:=Aj (Aw a)) (AP O) (Ao (args:=[(aG (AT a))]) O O call108) (λw hw=>Cw a Z w) O (Ad O) λb4=>AS.back (sl sr) (AS.imp O (AE.callB (V:=λb5=>(Value.slice (some ⟨b5,0,none⟩) (nw b) ((Aw b).length))) (T:=83) (cs:=Aj (Aw b)) (AP O) (Ao (args:=[(aG (AT b))]) O O call108) (λw hw=>Cw b Z w) O (Ad O) λb5=>AS.back (sl (sl sr)) (EW O ?_)))
  refine EW O (AS.nil (AC.subF (sL [2,3,4,7,8] O) (q2 (AO O (AH (v:=(vN (nw a))) (AG O underlying187) O ?_)))))
  refine AO O (AH (v:=(vN (nw b))) (AG O underlying187) O (AH (AW (c:=(((nw a)+(nw b):Nat):Int)) O O (AZ (a:=nw a) (b:=nw b) Z)) O (AE.openV (V:=λb6=>(Value.slice (some ⟨b6,0,none⟩) ((nw a)+(nw b)) ((nw a)+(nw b)))) (T:=83) (cs:=Aj (List.replicate ((nw a)+(nw b)) 0)) (AP O) (Cx (m:=(nw a)+(nw b)) (c:=(nw a)+(nw b)) O O Z Z) O (Ad O) λb6=>AK O (q6 (sL [2,3,4,7,8,9] O) ?_))))
  refine q4 (AO O (AH (v:=(vN (nw a))) (AG O underlying187) O (AO O (AE.nil (AC.then_ ?_)))))
  refine AF.block ?_
  refine AF.lp2 (tg λ(i:Nat) (os:List Nat)=>i<=nw a/\os.length=nw a+nw b/\W32 os/\val os=val ((AL a).take i)*b) (tg λ(i:Nat) (os:List Nat)=>[(4,(pP b3 0)),(8,(Value.slice (some ⟨b5,0,none⟩) (nw b) ((Aw b).length))),(9,(Value.slice (some ⟨b6,0,none⟩) ((nw a)+(nw b)) ((nw a)+(nw b)))),(53,(Value.slice (some ⟨b4,0,none⟩) (nw a) ((Aw a).length))),(54,(vN (nw a))),(55,(vN i))]) (tg λ(i:Nat) (os:List Nat)=>[Ae b6 83 (Aj os),Ae b5 83 (Aj (Aw b)),Ae b4 83 (Aj (Aw a)),Ae b3 55 (AT 0),Ae b2 55 (AT b),Ae b1 55 (AT a)]) (tg λ(i:Nat) (os:List Nat)=>nw a-i) 0 (List.replicate (nw a+nw b) 0) (⟨Nat.zero_le _,by simp,W32.zeros _,by rw [Di];simp [val]⟩) (sF O) sr (λi os hJ=>?_)
  obtain ⟨hi,hl,hw32,hv⟩:=hJ
  refine q4 (AH (Af (c:=(decide (i<(nw a)))) O O (C1 (a:=i) (b:=nw a))) O (AE.nil (q1 ?_)))
  refine AF.cond O (λhc1=>?_) (λhc1=>?_)
  ·replace hc1:=of_decide_eq_true hc1
   refine AF.skip (q1 (AF.block (q4 (AO O (AH (v:=(pP b4 i)) (AI (j:=i) O O underlying187 sizeOf83 O Z (by simp)) O ?_)))))
   have hx1:(Aw a).getD i 0<4294967296:=W32.getD (CE a) i
   refine AH (AM (i:=2) (v:=(vK .u32 ((Aw a).getD i 0))) O O isAgg83 (BG (xs:=Aw a) (j:=i) Z)) O (AE.retell (k:=59) (u:=(vK .u32 ((AL a).getD i 0))) O (by rw [C4 hc1]) (AK O (AK O (q3 (sL [4,8,9,53,54,55,10,11] O) (AK O ?_)))))
   refine AE.nil (q1 (q4 (AO O (AH (v:=(vN (nw b))) (AG O underlying187) O (AO O ?_)))))
   refine AE.nil (AC.then_ (AF.block ?_))
   refine AF.lp3 (tg λ(k:Nat) (xs:List Nat) (c:Nat)=>k<=nw b/\xs.length=nw a+nw b/\W32 xs/\c<4294967296/\(∀j,i+nw b<=j->xs.getD j 0=0)/\val xs+c*4294967296^(i+k)=val ((AL a).take i)*b+(AL a).getD i 0*val ((AL b).take k)*4294967296^i) (tg λ(k:Nat) (xs:List Nat) (c:Nat)=>[(4,(pP b3 0)),(8,(Value.slice (some ⟨b5,0,none⟩) (nw b) ((Aw b).length))),(9,(Value.slice (some ⟨b6,0,none⟩) ((nw a)+(nw b)) ((nw a)+(nw b)))),(53,(Value.slice (some ⟨b4,0,none⟩) (nw a) ((Aw a).length))),(54,(vN (nw a))),(55,(vN i)),(10,(vN i)),(11,(vK .u32 ((AL a).getD i 0))),(60,(Value.slice (some ⟨b5,0,none⟩) (nw b) ((Aw b).length))),(61,(vN (nw b))),(62,(vN k)),(12,(vK .u64 c))]) (tg λ(k:Nat) (xs:List Nat) (c:Nat)=>[Ae b6 83 (Aj xs),Ae b5 83 (Aj (Aw b)),Ae b4 83 (Aj (Aw a)),Ae b3 55 (AT 0),Ae b2 55 (AT b),Ae b1 55 (AT a)]) (tg λ(k:Nat) (xs:List Nat) (c:Nat)=>nw b-k) 0 os 0 (⟨Nat.zero_le _,hl,hw32,Z,Ml hv,by rw [hv];simp [val]⟩) (sF O) sr (λk xs c hJ=>?_)
   obtain ⟨hk,hl2,hw2,hcc,h02,hv2⟩:=hJ
   refine q4 (AH (Af (c:=(decide (k<(nw b)))) O O (C1 (a:=k) (b:=nw b))) O (AE.nil (q1 ?_)))
   refine AF.cond O (λhc2=>?_) (λhc2=>?_)
   ·replace hc2:=of_decide_eq_true hc2
    refine AF.skip (q1 (AF.block (q4 (AO O (AH (v:=(pP b5 k)) (AI (j:=k) O O underlying187 sizeOf83 O Z (by simp)) O ?_)))))
    have hx2:(Aw b).getD k 0<4294967296:=W32.getD (CE b) k
    refine AH (AM (i:=1) (v:=(vK .u32 ((Aw b).getD k 0))) O O isAgg83 (BG (xs:=Aw b) (j:=k) Z)) O (AE.retell (k:=66) (u:=(vK .u32 ((AL b).getD k 0))) O (by rw [C4 hc2]) (AK O (AK O (q3 (sL [4,8,9,53,54,55,10,11,60,61,62,12,13,14] O) (AO O ?_)))))
    refine AO O ?_
    have hwa:=(Bj a).getD i
    have hwb:=(Bj b).getD k
    have hml:=Ix hwa hwb
    refine AH (Au (c:=(((AL a).getD i 0:Nat):Int)) O underlying83 underlying53 (BT Z)) O (AO O (AH (Au (c:=(((AL b).getD k 0:Nat):Int)) O underlying83 underlying53 (BT Z)) O (AH (Bk (c:=((((AL a).getD i 0)*((AL b).getD k 0):Nat):Int)) O O (EO (a:=(AL a).getD i 0) (b:=(AL b).getD k 0) Z)) O (AO O (AO O ?_)))))
    refine AO O (AH (AW (c:=((i+k:Nat):Int)) O O (AZ (a:=i) (b:=k) Z)) O (AH (v:=(pP b6 (i+k))) (AI (j:=i+k) O O underlying187 sizeOf83 O Z (by simp)) O ?_))
    have hx3:xs.getD (i+k) 0<4294967296:=W32.getD hw2 (i+k)
    refine AH (AM (i:=0) (v:=(vK .u32 (xs.getD (i+k) 0))) O O isAgg83 (BG (xs:=xs) (j:=(i+k)) Z)) O (AH (Au (c:=((xs.getD (i+k) 0:Nat):Int)) O underlying83 underlying53 (BT Z)) O (AH (AW (c:=(((((AL a).getD i 0)*((AL b).getD k 0))+(xs.getD (i+k) 0):Nat):Int)) O O (C7 (a:=((AL a).getD i 0)*((AL b).getD k 0)) (b:=xs.getD (i+k) 0) Z)) O (AH (AW (c:=((c+((((AL a).getD i 0)*((AL b).getD k 0))+(xs.getD (i+k) 0)):Nat):Int)) O O (C7 (a:=c) (b:=(((AL a).getD i 0)*((AL b).getD k 0))+(xs.getD (i+k) 0)) Z)) O (AK O (q3 (sL [4,8,9,53,54,55,10,11,60,61,62,12,13] O) ?_)))))
    refine AO O (AO O (AO O (AH (AW (c:=((i+k:Nat):Int)) O O (AZ (a:=i) (b:=k) Z)) O (AO O (AH (Au (c:=(((c+((((AL a).getD i 0)*((AL b).getD k 0))+(xs.getD (i+k) 0)))%4294967296:Nat):Int)) O underlying53 underlying83 Dl) O ?_)))))
    refine AH (v:=(pP b6 (i+k))) (AI (j:=i+k) O O underlying187 sizeOf83 O Z (by simp)) O (AE.store' (i:=0) (off:=(i+k)) (vs:=[(vK .u32 ((c+((((AL a).getD i 0)*((AL b).getD k 0))+(xs.getD (i+k) 0)))%4294967296))]) (cs':=Aj (xs.set (i+k) ((c+((((AL a).getD i 0)*((AL b).getD k 0))+(xs.getD (i+k) 0)))%4294967296))) (L':=[Ae b6 83 (Aj (xs.set (i+k) ((c+((((AL a).getD i 0)*((AL b).getD k 0))+(xs.getD (i+k) 0)))%4294967296))),Ae b5 83 (Aj (Aw b)),Ae b4 83 (Aj (Aw a)),Ae b3 55 (AT 0),Ae b2 55 (AT b),Ae b1 55 (AT a)]) (AP O) O O O O O sizeOf83 O (CP (BP _) Z) (B5 Z) O (AE.nil (AC.subF (sL [4,8,9,53,54,55,10,11,60,61,62,12,13] O) (AC.then_ (AF.region ?_)))))
    refine AO O (AH (CV (s:=32) (c:=(((c+((((AL a).getD i 0)*((AL b).getD k 0))+(xs.getD (i+k) 0)))/4294967296:Nat):Int)) O O O (by decide) (E9 (a:=c+((((AL a).getD i 0)*((AL b).getD k 0))+(xs.getD (i+k) 0))) (s:=32))) O (AK O (AE.nil (AC.subF (sL [4,8,9,53,54,55,10,11,60,61,62,12,13] O) (AC.in_normal ?_)))))
    exact AC.then_ (AF.region (AH (AW (c:=((k+1:Nat):Int)) O O (AZ (a:=k) (b:=1) Z)) O (AO O (AE.nil (AC.subF (sL [4,8,9,53,54,55,10,11,60,61,62,12,13] O) (AC.round3 (k+1) (xs.set (i+k) ((c+((AL a).getD i 0*(AL b).getD k 0+xs.getD (i+k) 0))%4294967296)) ((c+((AL a).getD i 0*(AL b).getD k 0+xs.getD (i+k) 0))/4294967296) (⟨Z,by rw [List.length_set];exact hl2,W32.set hw2 Z _,Z,E2 h02 Z,QC hl2 Z hv2⟩) Z (sF O) sr))))))
   ·replace hc2:=of_decide_eq_false hc2
    have hkn:k=nw b:=by omega
    have hbb:val ((AL b).take k)=b:=Cm Z
    rw [hbb] at hv2
    refine AF.exit (AC.then_exit (AC.round3_exit (AC.in_exit (AC.then_ (AF.region ?_)))))
    refine AO O (AO O (AO O (AH (v:=(vN (nw b))) (AG O underlying187) O (AH (AW (c:=((i+(nw b):Nat):Int)) O O (AZ (a:=i) (b:=nw b) Z)) O (AO O ?_)))))
    refine AH (Au (c:=((c:Nat):Int)) O underlying53 underlying83 (CI Z)) O (AH (v:=(pP b6 (i+(nw b)))) (AI (j:=i+(nw b)) O O underlying187 sizeOf83 O Z (by simp)) O (AE.store' (i:=0) (off:=(i+(nw b))) (vs:=[(vK .u32 c)]) (cs':=Aj (xs.set (i+(nw b)) c)) (L':=[Ae b6 83 (Aj (xs.set (i+(nw b)) c)),Ae b5 83 (Aj (Aw b)),Ae b4 83 (Aj (Aw a)),Ae b3 55 (AT 0),Ae b2 55 (AT b),Ae b1 55 (AT a)]) (AP O) O O O O O sizeOf83 O (CP (BP _) Z) (B5 Z) O (AE.nil (AC.subF (sL [4,8,9,53,54,55,10,11,60,61,62,12] O) (AC.in_normal ?_)))))
    exact AC.then_ (AF.region (AH (AW (c:=((i+1:Nat):Int)) O O (AZ (a:=i) (b:=1) Z)) O (AO O (AE.nil (AC.subF (sL [4,8,9,53,54,55,10,11,60,61,62,12] O) (AC.round2 (i+1) (xs.set (i+nw b) c) (⟨Z,by rw [List.length_set];exact hl2,W32.set hw2 hcc _,by rw [G1 hl2 Z (h02 _ (Nat.le_refl _)),<-Sr,<-hv2,<-hkn]⟩) Z (sF O) sr))))))
  ·replace hc1:=of_decide_eq_false hc1
   refine AF.exit (AC.then_exit (AC.round2_exit (AC.in_exit (q2 (AO O ?_)))))
   refine D1 call107 (λw hw=>Hd _ ((nw a)+(nw b)) ((nw a)+(nw b)) os hw32 (by first|omega|(rw [rowN_length];omega)|simp|(simp;omega)) (by first|omega|simp|(simp;omega)) (by first|omega|simp|(simp;omega)) w (hw.get (i:=0) O)) O (AE.retell (k:=102) (u:=(aG (AT (a*b)))) O (by rw [List.take_of_length_le (show os.length<=nw a+nw b by omega),hv,Cm Z]) (I_ O sizeOf55 O (AE.nil (AC.subF (sL [4,8,9,53,54,55] O) (AC.then_ ?_)))))
   exact AF.ret (AN O (A7 (i:=3) (cs:=AT (a*b)) O O isAgg55 sizeOf55 O) (λw hw=>⟨rfl,hw.out⟩))
end
end Go.Proofs.YtfbomiejpbchdaaGreatDoor
