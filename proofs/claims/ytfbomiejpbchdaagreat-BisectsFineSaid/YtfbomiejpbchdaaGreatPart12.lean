import Derived.Test.YtfbomiejpbchdaaGreatPart06
import Derived.Test.YtfbomiejpbchdaaGreatPart11
namespace Go.Proofs.YtfbomiejpbchdaaGreat
open Go Go.RowKit Go.Proofs.Tryz
set_option linter.unusedVariables false
set_option linter.unusedSimpArgs false
section
set_option maxRecDepth 100000
theorem Lk  :Instr.fill ([(0,1),(1,1)].toArray[·]?) (Aa 0).toArray []=some (Aa 0).toArray:=by kernel_rfl
theorem Pw (a b:Nat) (ha:nw a<=1099511627776) (hb:nw b<=1099511627776) (w:World)  :Calls prog 146 #[(aG (Aa a)),(aG (Aa b))] w (Av w (Value.tuple #[(aG (Aa (a-b))),(Value.bool (decide (b<=a)))])):=by
 have hla:=CX a
 have hlb:=CX b
 have hpa:=WQ a
 refine Ag (args:=[(aG (Aa a)),(aG (Aa b))]) func146 O O (Ab O) (AF.subF (sL [0,1] O) (q4 (Bo (cs:=Aa a) O λb1=>Bo (cs:=Aa b) O λb2=>al GY O λb3=>?_)))
 refine AO O (q6 (sL [2,3,4,5] O) (q4 (A6 2 CK O (A6 1 CK O (BW call194 (UP a b Z Z) O ?_)))))
 refine AI (Am (c:=(decide ((Fy a b)<(0:Int)))) O O O) O (AE.nil (AC.subF (sL [2,3,4,5,14] O) (AC.then_ ?_)))
 refine AF.cond O (λhc0=>?_) (λhc0=>?_)
 ·replace hc0:=of_decide_eq_true hc0
  rw [J0] at hc0
  refine q4 (AI (v:=(aG (Aa 0))) (Ad (zs:=Aa 0) (vs:=Aa 0) (pv:=[]) (places:=[(0,1),(1,1)]) zeroValue47 underlying47 (λw=>by simp [sizeOf9,sizeOf45]) O (Lk )) O (AE.retell (k:=15) (u:=(aG (Aa (a-b)))) O (by rw [show a-b=0 by omega]) (Aq O sizeOf47 O (AO O (AE.nil ?_)))))
  exact AC.subF (sL [2,3,4,5] O) (AC.then_ (AF.ret (AC.then_ret (DF O (A7 (i:=0) (cs:=Aa (a-b)) O O isAgg47 sizeOf47 O) (Ak (v:=(Value.bool false)) O) (λw hw=>⟨by rw [decide_eq_false (show ¬b<=a by omega)],hw.out⟩)))))
 ·replace hc0:=of_decide_eq_false hc0
  rw [J0] at hc0
  have hnb:nw b<=nw a:=Dl Z
  refine AF.skip (q1 (q4 (AI (v:=(pP b1 1)) (AA O underlying47 O sizeOf9 O) O (BK 2 (Value.string (Bv a)) Sv O (AI (CG (c:=(decide (a<18446744073709551616))) O O Cx) O ?_)))))
  refine AE.nil (AC.subF (sL [2,3,4,5,18] O) (AC.then_ ?_))
  refine AF.cond O (λhc1=>?_) (λhc1=>?_)
  ·replace hc1:=of_decide_eq_true hc1
   refine q4 (AI (v:=(pP b1 0)) (AA O underlying47 O sizeOf45 O) O (BK 2 (vK .u64 (CJ a)) HV O (AE.retell (k:=20) (u:=(vK .u64 a)) O (by rw [Bs hc1]) (AI (v:=(pP b2 0)) (AA O underlying47 O sizeOf45 O) O (BK 1 (vK .u64 (CJ b)) HV O ?_)))))
   refine AE.retell (k:=22) (u:=(vK .u64 b)) O (by rw [Bs Z]) (AI (Br (c:=((a-b:Nat):Int)) O O (IK (a:=a) (b:=b) Z Z)) O (AI (v:=(aG ([(vK .u64 (a-b)),(Value.string (Bv 0))]))) (Ad (zs:=Aa 0) (vs:=[(vK .u64 (a-b)),(Value.string (Bv 0))]) (pv:=[(0,(vK .u64 (a-b)))]) (places:=[(0,1),(1,1)]) zeroValue47 underlying47 (λw=>by simp [sizeOf9,sizeOf45]) O O) O (AE.retell (k:=24) (u:=(aG (Aa (a-b)))) O (by rw [Dp Z];rfl) (Aq O sizeOf47 O (AO O ?_)))))
   exact AE.nil (AC.subF (sL [2,3,4,5] O) (AC.then_ (AF.ret (AC.then_ret (DF O (A7 (i:=0) (cs:=Aa (a-b)) O O isAgg47 sizeOf47 O) (Ak (v:=(Value.bool true)) O) (λw hw=>⟨by rw [decide_eq_true (show b<=a by omega)],hw.out⟩))))))
  ·replace hc1:=of_decide_eq_false hc1
   have hpad:A_ a=AP a:=if_neg hc1
   refine AF.skip (q1 (Cu [(0,true),(2,true),(1,false),(3,false),(4,true),(5,true)] sr (EW 2 CK O (EW 1 CK O (AV.imp O ?_)))))
   refine AE.callB (V:=λb4=>(Value.slice (some ⟨b4,0,none⟩) (nw a) ((A_ a).length))) (T:=101) (cs:=Au (A_ a)) (AM O) (A8 (args:=[(aG (Aa a))]) O O call150) (λw hw=>DV a Z w) O (Ab O) λb4=>AV.back (sl sr) (AV.imp O (AE.callB (V:=λb5=>(Value.slice (some ⟨b5,0,none⟩) (nw b) ((A_ b).length))) (T:=101) (cs:=Au (A_ b)) (AM O) (A8 (args:=[(aG (Aa b))]) O O call150) (λw hw=>DV b Z w) O (Ab O) λb5=>AV.back (sl (sl sr)) (Ev O ?_)))
   refine Ev O (AV.nil (AC.subF (sL [2,3,4,5,6,7] O) (q2 (AO O (AE.nil ?_)))))
   refine q1 (q4 (AR O (AI (v:=(vN (nw a))) (AG O underlying232) O (AR O (AE.nil ?_)))))
   refine AC.subF (sL [2,3,4,5,6,7,8,30,31] O) (AC.then_ (AF.block ?_))
   refine AF.lp3 (tg λ(i:Nat) (os:List Nat) (c:Nat)=>i<=nw a/\os.length=nw a/\W32 os/\c<=1/\val os+val ((AP b).take i)=a+c*4294967296^i) (tg λ(i:Nat) (os:List Nat) (c:Nat)=>[(4,(pP b3 0)),(5,(Value.bool false)),(6,(Value.slice (some ⟨b4,0,none⟩) (nw a) ((A_ a).length))),(7,(Value.slice (some ⟨b5,0,none⟩) (nw b) ((A_ b).length))),(30,(vN (nw a))),(31,(vN i)),(8,(vK .u32 c))]) (tg λ(i:Nat) (os:List Nat) (c:Nat)=>[Af b5 101 (Au (A_ b)),Af b4 101 (Au os),Af b3 47 (Aa 0),Af b2 47 (Aa b),Af b1 47 (Aa a)]) (tg λ(i:Nat) (os:List Nat) (c:Nat)=>nw a-i) 0 (A_ a) 0 (⟨Nat.zero_le _,by rw [hpad];rfl,CY a,Z,by rw [Qk];simp [val]⟩) (sF O) sr (λi os c hJ=>?_)
   obtain ⟨hi,hl,hw32,hcc,hv⟩:=hJ
   refine q4 (AI (Am (c:=(decide (i<(nw a)))) O O (C6 (a:=i) (b:=nw a))) O (AE.nil (q1 ?_)))
   refine AF.cond O (λhc2=>?_) (λhc2=>?_)
   ·replace hc2:=of_decide_eq_true hc2
    refine AF.skip (q1 (AF.block (q4 (AR O (AO O ?_)))))
    refine q3 (sL [4,5,6,7,30,31,8,9] O) (AO O (AE.nil (q1 (q4 (AR O ?_)))))
    refine AR O (AI (v:=(vN (nw b))) (AG O underlying232) O (AI (Am (c:=(decide (i<(nw b)))) O O (C6 (a:=i) (b:=nw b))) O (AE.nil (AC.subF (sL [4,5,6,7,30,31,8,9,10,37] O) (AC.then_ ?_)))))
    refine AF.jn0 (tg True) (tg [(4,(pP b3 0)),(5,(Value.bool false)),(6,(Value.slice (some ⟨b4,0,none⟩) (nw a) ((A_ a).length))),(7,(Value.slice (some ⟨b5,0,none⟩) (nw b) ((A_ b).length))),(30,(vN (nw a))),(31,(vN i)),(8,(vK .u32 c)),(9,(vN i)),(10,(vK .u32 ((AP b).getD i 0)))]) (tg [Af b5 101 (Au (A_ b)),Af b4 101 (Au os),Af b3 47 (Aa 0),Af b2 47 (Aa b),Af b1 47 (Aa a)]) ?_ ?_
    ·skip
     refine AF.cond O (λhc3=>?_) (λhc3=>?_)
     ·replace hc3:=of_decide_eq_true hc3
      refine AF.region (AR O (AR O (AI (v:=(pP b5 i)) (AN (j:=i) O O underlying232 sizeOf101 O Z (by simp)) O ?_)))
      have hx1:(A_ b).getD i 0<4294967296:=W32.getD (CY b) i
      exact AI (AK (i:=0) (v:=(vK .u32 ((A_ b).getD i 0))) O O isAgg101 (BO (xs:=A_ b) (j:=i) Z)) O (AE.retell (k:=41) (u:=(vK .u32 ((AP b).getD i 0))) O (by rw [Df hc3]) (AO O (AE.nil (AC.subF (sL [4,5,6,7,30,31,8,9,10] O) (AC.join0  (trivial) (sF O) sr)))))
     ·replace hc3:=of_decide_eq_false hc3
      exact AF.skip (AC.retell (k:=10) (u:=Value.int .u32 (((AP b).getD i 0:Nat):Int)) O (by rw [En hc3];rfl) (AC.join0  (trivial) (sF O) sr))
    ·intro hJ
     refine AC.then_ (AF.region (AR O (AR O (AR O (AR O ?_)))))
     refine AI (v:=(pP b4 i)) (AN (j:=i) O O underlying232 sizeOf101 O Z (by simp)) O ?_
     have hx2:os.getD i 0<4294967296:=W32.getD hw32 i
     refine AI (AK (i:=1) (v:=(vK .u32 (os.getD i 0))) O O isAgg101 (BO (xs:=os) (j:=i) Z)) O (AR O (AR O ?_))
     have hyb:=(Bz b).getD i
     refine BW call197 (KA (os.getD i 0) ((AP b).getD i 0) c _ Z Z Z O) O (AR O (AI (AU (v:=(vK .u32 (((os.getD i 0)+(4294967296-((AP b).getD i 0))+(4294967296-c))%4294967296))) O O) O (AI (AU (v:=(vK .u32 (I_ (os.getD i 0) (((AP b).getD i 0)+c)))) O O) O (AI (v:=(pP b4 i)) (AN (j:=i) O O underlying232 sizeOf101 O Z (by simp)) O (AE.store' (i:=1) (off:=i) (vs:=[(vK .u32 (((os.getD i 0)+(4294967296-((AP b).getD i 0))+(4294967296-c))%4294967296))]) (cs':=Au (os.set i (((os.getD i 0)+(4294967296-((AP b).getD i 0))+(4294967296-c))%4294967296))) (L':=[Af b5 101 (Au (A_ b)),Af b4 101 (Au (os.set i (((os.getD i 0)+(4294967296-((AP b).getD i 0))+(4294967296-c))%4294967296))),Af b3 47 (Aa 0),Af b2 47 (Aa b),Af b1 47 (Aa a)]) (AM O) O O O O O sizeOf101 O (Cm (BV _) Z) (CQ Z) O ?_)))))
     refine AO O (AE.nil (AC.subF (sL [4,5,6,7,30,31,8,9,10] O) (AC.in_normal (AC.then_ (AF.region ?_)))))
     exact AI (AY (c:=((i+1:Nat):Int)) O O (AX (a:=i) (b:=1) Z)) O (AR O (AE.nil (AC.subF (sL [4,5,6,7,30,31,8,9,10] O) (AC.round3 (i+1) (os.set i ((os.getD i 0+(4294967296-(AP b).getD i 0)+(4294967296-c))%4294967296)) (I_ (os.getD i 0) ((AP b).getD i 0+c)) (⟨Z,by rw [List.length_set];exact hl,W32.set hw32 Z i,QC _ _,TG hl hc2 hw32 (Bz b) hcc hv⟩) Z (sF O) sr))))
   ·replace hc2:=of_decide_eq_false hc2
    refine AF.exit (AC.then_exit (AC.round3_exit (AC.in_exit (q2 (AR O ?_)))))
    refine Ew call149 (λw hw=>JM _ (nw a) ((A_ a).length) os hw32 (by first|omega|(rw [rowN_length];omega)|simp|(simp;omega)) (by first|omega|simp|(simp;omega)) (by first|omega|simp|(simp;omega)) w (hw.get (i:=1) O)) O (AE.retell (k:=57) (u:=(aG (Aa (a-b)))) O (by rw [List.take_of_length_le (show os.length<=nw a by omega),So (X:=a) (Y:=b) (n:=nw a) (c:=c) (i:=i) hl hw32 Z Z (by rw [<-hv,DT Z]) (CE a)]) (Kz O sizeOf47 O (AO O (AE.nil (AC.subF (sL [4,5,6,7,30,31,8] O) ?_)))))
    exact AC.then_ (AF.ret (DF O (A7 (i:=2) (cs:=Aa (a-b)) O O isAgg47 sizeOf47 O) (Ak (v:=(Value.bool true)) O) (λw hw=>⟨by rw [decide_eq_true (show b<=a by omega)],hw.out⟩)))
theorem PM (a b:Nat) (ha:nw a<=1099511627776) (hb:nw b<=1099511627776) (w:World)  :Calls prog 71 #[(aG (Aa a)),(aG (Aa b))] w (Av w (aG (Aa (a*b)))):=by
 have hla:=CX a
 have hlb:=CX b
 refine Ag (args:=[(aG (Aa a)),(aG (Aa b))]) func71 O O (Ab O) (AF.subF (sL [0,1] O) (q4 (Bo (cs:=Aa a) O λb1=>Bo (cs:=Aa b) O λb2=>al GY O λb3=>?_)))
 refine q6 (sL [2,3,4] O) (q4 (AI (v:=(pP b1 1)) (AA O underlying47 O sizeOf9 O) O (BK 2 (Value.string (Bv a)) Sv O (AI (CG (c:=(decide (a<18446744073709551616))) O O Cx) O (AR O ?_)))))
 refine AE.mid (FM:=[(2,(pP b1 0)),(3,(pP b2 0)),(4,(pP b3 0)),(15,(pP b1 1)),(16,(Value.string (Bv a))),(17,(Value.bool (decide (a<18446744073709551616)))),(18,(Value.bool (decide (a<18446744073709551616)))),(22,(Value.bool ((decide (a<18446744073709551616))&&(decide (b<18446744073709551616)))))]) (LM:=[Af b3 47 (Aa 0),Af b2 47 (Aa b),Af b1 47 (Aa a)]) 4 ?_ ?_
 ·rcases Bool.eq_false_or_eq_true (decide (a<18446744073709551616)) with hg1|hg1
  ·skip
   refine AE.retell (k:=18) (u:=Value.bool true) O (by rw [hg1]) ?_
   have hg1':=hg1
   replace hg1':=of_decide_eq_true hg1'
   exact AE.step (v:=(pP b2 1)) (AB O) (AA O underlying47 O sizeOf9 O) O (Ab O) (AE.step (v:=(Value.string (Bv b))) (AB O) (AK (i:=1) (v:=(Value.string (Bv b))) O O Sv.a O) O (Ab O) (AE.step (v:=(Value.bool (decide (b<18446744073709551616)))) (AB O) (CG (c:=(decide (b<18446744073709551616))) O O Cx) O (Ab O) (AI (v:=(Value.bool (decide (b<18446744073709551616)))) (Ah O O) O (AE.nil (AC.mid (sS O (sS O (sS O (sS O (sS O (sS O (sS (by first|rfl|(rw [hg1];rfl)|rw [hg1]) (sS (by first|rfl|(rw [hg1];rfl)|rw [hg1]) (sN))))))))) (List.Sublist.refl _))))))
  ·skip
   refine AE.retell (k:=18) (u:=Value.bool false) O (by rw [hg1]) ?_
   have hg1':=hg1
   replace hg1':=of_decide_eq_false hg1'
   exact AE.skip (AL O) O (Ab O) (AE.skip (AL O) O (Ab O) (AE.skip (AL O) O (Ab O) (AI (v:=(Value.bool false)) (AS O O) O (AE.nil (AC.mid (sS O (sS O (sS O (sS O (sS O (sS O (sS (by first|rfl|(rw [hg1];rfl)|rw [hg1]) (sS (by first|rfl|(rw [hg1];rfl)|rw [hg1]) (sN))))))))) (List.Sublist.refl _))))))
 refine AE.nil (AC.subF (sL [2,3,4,22] O) (AC.then_ ?_))
 refine AF.cond O (λhc0=>?_) (λhc0=>?_)
 ·simp only [Bool.and_eq_true,Bool.or_eq_true,Bool.and_eq_false_iff,Bool.or_eq_false_iff,Bool.not_eq_true',Bool.not_eq_false',decide_eq_true_eq,decide_eq_false_iff_not] at hc0
  refine q4 (AI (v:=(pP b1 0)) (AA O underlying47 O sizeOf45 O) O (BK 2 (vK .u64 (CJ a)) HV O (AE.retell (k:=25) (u:=(vK .u64 a)) O (by rw [Bs hc0.1]) (AI (v:=(pP b2 0)) (AA O underlying47 O sizeOf45 O) O (BK 1 (vK .u64 (CJ b)) HV O ?_)))))
  have hhi:a*b/18446744073709551616<18446744073709551616:=Nat.div_lt_of_lt_mul (Nat.mul_lt_mul'' hc0.1 hc0.2)
  refine AE.retell (k:=27) (u:=(vK .u64 b)) O (by rw [Bs hc0.2]) (BW call148 (Uh a b Z Z) O (AR O (AI (AU (v:=(vK .u64 (a*b/18446744073709551616))) O O) O (AI (AU (v:=(vK .u64 (a*b%18446744073709551616))) O O) O (AO O ?_)))))
  refine AO O (q3 (sL [2,3,4,5,6] O) (AR O (AI (A9 (c:=(((a*b%18446744073709551616)%4294967296:Nat):Int)) O underlying45 underlying101 Ed) O (AR O (AI (Cw (s:=32) (c:=(((a*b%18446744073709551616)/4294967296:Nat):Int)) O O O (by decide) (GQ (a:=a*b%18446744073709551616) (s:=32))) O ?_)))))
  refine AI (A9 (c:=(((a*b%18446744073709551616)/4294967296:Nat):Int)) O underlying45 underlying101 (Cf Z)) O (AR O (AI (A9 (c:=(((a*b/18446744073709551616)%4294967296:Nat):Int)) O underlying45 underlying101 Ed) O (AR O (AI (Cw (s:=32) (c:=(((a*b/18446744073709551616)/4294967296:Nat):Int)) O O O (by decide) (GQ (a:=a*b/18446744073709551616) (s:=32))) O (AI (A9 (c:=(((a*b/18446744073709551616)/4294967296:Nat):Int)) O underlying45 underlying101 (Cf Z)) O ?_)))))
  refine AE.openV (V:=λb4=>(Value.slice (some ⟨b4,0,none⟩) 4 4)) (T:=101) (cs:=Au ([(a*b%18446744073709551616)%4294967296,(a*b%18446744073709551616)/4294967296,(a*b/18446744073709551616)%4294967296,(a*b/18446744073709551616)/4294967296])) (AM O) (Ap (cs:=Au ([(a*b%18446744073709551616)%4294967296,(a*b%18446744073709551616)/4294967296,(a*b/18446744073709551616)%4294967296,(a*b/18446744073709551616)/4294967296])) (pv:=[(0,(vK .u32 ((a*b%18446744073709551616)%4294967296))),(1,(vK .u32 ((a*b%18446744073709551616)/4294967296))),(2,(vK .u32 ((a*b/18446744073709551616)%4294967296))),(3,(vK .u32 ((a*b/18446744073709551616)/4294967296)))]) underlying232 sizeOf101 zeroValue101 (by decide) (by decide) O (by kernel_rfl)) O (Ab O) λb4=>Ew call149 (λw hw=>JM _ 4 4 ([(a*b%18446744073709551616)%4294967296,(a*b%18446744073709551616)/4294967296,(a*b/18446744073709551616)%4294967296,(a*b/18446744073709551616)/4294967296]) (W32.cons Z (W32.cons Z (W32.cons Z (W32.cons Z (W32.nil))))) (by first|omega|(rw [rowN_length];omega)|simp|(simp;omega)) (by first|omega|simp|(simp;omega)) (by first|omega|simp|(simp;omega)) w (hw.get (i:=0) O)) O (AE.retell (k:=42) (u:=(aG (Aa (a*b)))) O (by rw [show ∀x y z t:Nat,[x,y,z,t].take 4=[x,y,z,t] from λ_ _ _ _=>rfl,YO Z hhi,show a*b%18446744073709551616+a*b/18446744073709551616*18446744073709551616=a*b by omega]) (Cq O sizeOf47 O (AE.nil (AC.subF (sL [2,3,4] O) ?_))))
  exact AC.then_ (AF.ret (AC.then_ret (AT O (A7 (i:=1) (cs:=Aa (a*b)) O O isAgg47 sizeOf47 O) (λw hw=>⟨rfl,hw.out⟩))))
 ·simp only [Bool.and_eq_true,Bool.or_eq_true,Bool.and_eq_false_iff,Bool.or_eq_false_iff,Bool.not_eq_true',Bool.not_eq_false',decide_eq_true_eq,decide_eq_false_iff_not] at hc0
  refine AF.skip (q1 (Cu [(0,true),(2,true),(1,false),(3,false),(4,true),(5,true)] sr (EW 2 CK O (EW 1 CK O (AV.imp O ?_)))))
  refine AE.callB (V:=λb4=>(Value.slice (some ⟨b4,0,none⟩) (nw a) ((A_ a).length))) (T:=101) (cs:=Au (A_ a)) (AM O) (A8 (args:=[(aG (Aa a))]) O O call150) (λw hw=>DV a Z w) O (Ab O) λb4=>AV.back (sl sr) (AV.imp O (AE.callB (V:=λb5=>(Value.slice (some ⟨b5,0,none⟩) (nw b) ((A_ b).length))) (T:=101) (cs:=Au (A_ b)) (AM O) (A8 (args:=[(aG (Aa b))]) O O call150) (λw hw=>DV b Z w) O (Ab O) λb5=>AV.back (sl (sl sr)) (Ev O ?_)))
  refine Ev O (AV.nil (AC.subF (sL [2,3,4,7,8] O) (q2 (AR O (AI (v:=(vN (nw a))) (AG O underlying232) O ?_)))))
  refine AR O (AI (v:=(vN (nw b))) (AG O underlying232) O (AI (AY (c:=(((nw a)+(nw b):Nat):Int)) O O (AX (a:=nw a) (b:=nw b) Z)) O (AE.openV (V:=λb6=>(Value.slice (some ⟨b6,0,none⟩) ((nw a)+(nw b)) ((nw a)+(nw b)))) (T:=101) (cs:=Au (List.replicate ((nw a)+(nw b)) 0)) (AM O) (DW (m:=(nw a)+(nw b)) (c:=(nw a)+(nw b)) O O Z Z) O (Ab O) λb6=>AO O (q6 (sL [2,3,4,7,8,9] O) ?_))))
  refine q4 (AR O (AI (v:=(vN (nw a))) (AG O underlying232) O (AR O (AE.nil (AC.then_ ?_)))))
  refine AF.block ?_
  refine AF.lp2 (tg λ(i:Nat) (os:List Nat)=>i<=nw a/\os.length=nw a+nw b/\W32 os/\val os=val ((AP a).take i)*b) (tg λ(i:Nat) (os:List Nat)=>[(4,(pP b3 0)),(8,(Value.slice (some ⟨b5,0,none⟩) (nw b) ((A_ b).length))),(9,(Value.slice (some ⟨b6,0,none⟩) ((nw a)+(nw b)) ((nw a)+(nw b)))),(53,(Value.slice (some ⟨b4,0,none⟩) (nw a) ((A_ a).length))),(54,(vN (nw a))),(55,(vN i))]) (tg λ(i:Nat) (os:List Nat)=>[Af b6 101 (Au os),Af b5 101 (Au (A_ b)),Af b4 101 (Au (A_ a)),Af b3 47 (Aa 0),Af b2 47 (Aa b),Af b1 47 (Aa a)]) (tg λ(i:Nat) (os:List Nat)=>nw a-i) 0 (List.replicate (nw a+nw b) 0) (⟨Nat.zero_le _,by simp,W32.zeros _,by rw [ED];simp [val]⟩) (sF O) sr (λi os hJ=>?_)
  obtain ⟨hi,hl,hw32,hv⟩:=hJ
  refine q4 (AI (Am (c:=(decide (i<(nw a)))) O O (C6 (a:=i) (b:=nw a))) O (AE.nil (q1 ?_)))
  refine AF.cond O (λhc1=>?_) (λhc1=>?_)
  ·replace hc1:=of_decide_eq_true hc1
   refine AF.skip (q1 (AF.block (q4 (AR O (AI (v:=(pP b4 i)) (AN (j:=i) O O underlying232 sizeOf101 O Z (by simp)) O ?_)))))
   have hx1:(A_ a).getD i 0<4294967296:=W32.getD (CY a) i
   refine AI (AK (i:=2) (v:=(vK .u32 ((A_ a).getD i 0))) O O isAgg101 (BO (xs:=A_ a) (j:=i) Z)) O (AE.retell (k:=59) (u:=(vK .u32 ((AP a).getD i 0))) O (by rw [Df hc1]) (AO O (AO O (q3 (sL [4,8,9,53,54,55,10,11] O) (AO O ?_)))))
   refine AE.nil (q1 (q4 (AR O (AI (v:=(vN (nw b))) (AG O underlying232) O (AR O ?_)))))
   refine AE.nil (AC.then_ (AF.block ?_))
   refine AF.lp3 (tg λ(k:Nat) (xs:List Nat) (c:Nat)=>k<=nw b/\xs.length=nw a+nw b/\W32 xs/\c<4294967296/\(∀j,i+nw b<=j->xs.getD j 0=0)/\val xs+c*4294967296^(i+k)=val ((AP a).take i)*b+(AP a).getD i 0*val ((AP b).take k)*4294967296^i) (tg λ(k:Nat) (xs:List Nat) (c:Nat)=>[(4,(pP b3 0)),(8,(Value.slice (some ⟨b5,0,none⟩) (nw b) ((A_ b).length))),(9,(Value.slice (some ⟨b6,0,none⟩) ((nw a)+(nw b)) ((nw a)+(nw b)))),(53,(Value.slice (some ⟨b4,0,none⟩) (nw a) ((A_ a).length))),(54,(vN (nw a))),(55,(vN i)),(10,(vN i)),(11,(vK .u32 ((AP a).getD i 0))),(60,(Value.slice (some ⟨b5,0,none⟩) (nw b) ((A_ b).length))),(61,(vN (nw b))),(62,(vN k)),(12,(vK .u64 c))]) (tg λ(k:Nat) (xs:List Nat) (c:Nat)=>[Af b6 101 (Au xs),Af b5 101 (Au (A_ b)),Af b4 101 (Au (A_ a)),Af b3 47 (Aa 0),Af b2 47 (Aa b),Af b1 47 (Aa a)]) (tg λ(k:Nat) (xs:List Nat) (c:Nat)=>nw b-k) 0 os 0 (⟨Nat.zero_le _,hl,hw32,Z,PO hv,by rw [hv];simp [val]⟩) (sF O) sr (λk xs c hJ=>?_)
   obtain ⟨hk,hl2,hw2,hcc,h02,hv2⟩:=hJ
   refine q4 (AI (Am (c:=(decide (k<(nw b)))) O O (C6 (a:=k) (b:=nw b))) O (AE.nil (q1 ?_)))
   refine AF.cond O (λhc2=>?_) (λhc2=>?_)
   ·replace hc2:=of_decide_eq_true hc2
    refine AF.skip (q1 (AF.block (q4 (AR O (AI (v:=(pP b5 k)) (AN (j:=k) O O underlying232 sizeOf101 O Z (by simp)) O ?_)))))
    have hx2:(A_ b).getD k 0<4294967296:=W32.getD (CY b) k
    refine AI (AK (i:=1) (v:=(vK .u32 ((A_ b).getD k 0))) O O isAgg101 (BO (xs:=A_ b) (j:=k) Z)) O (AE.retell (k:=66) (u:=(vK .u32 ((AP b).getD k 0))) O (by rw [Df hc2]) (AO O (AO O (q3 (sL [4,8,9,53,54,55,10,11,60,61,62,12,13,14] O) (AR O ?_)))))
    refine AR O ?_
    have hwa:=(Bz a).getD i
    have hwb:=(Bz b).getD k
    have hml:=LX hwa hwb
    refine AI (A9 (c:=(((AP a).getD i 0:Nat):Int)) O underlying101 underlying45 (Bc Z)) O (AR O (AI (A9 (c:=(((AP b).getD k 0:Nat):Int)) O underlying101 underlying45 (Bc Z)) O (AI (B6 (c:=((((AP a).getD i 0)*((AP b).getD k 0):Nat):Int)) O O (FT (a:=(AP a).getD i 0) (b:=(AP b).getD k 0) Z)) O (AR O (AR O ?_)))))
    refine AR O (AI (AY (c:=((i+k:Nat):Int)) O O (AX (a:=i) (b:=k) Z)) O (AI (v:=(pP b6 (i+k))) (AN (j:=i+k) O O underlying232 sizeOf101 O Z (by simp)) O ?_))
    have hx3:xs.getD (i+k) 0<4294967296:=W32.getD hw2 (i+k)
    refine AI (AK (i:=0) (v:=(vK .u32 (xs.getD (i+k) 0))) O O isAgg101 (BO (xs:=xs) (j:=(i+k)) Z)) O (AI (A9 (c:=((xs.getD (i+k) 0:Nat):Int)) O underlying101 underlying45 (Bc Z)) O (AI (AY (c:=(((((AP a).getD i 0)*((AP b).getD k 0))+(xs.getD (i+k) 0):Nat):Int)) O O (Dd (a:=((AP a).getD i 0)*((AP b).getD k 0)) (b:=xs.getD (i+k) 0) Z)) O (AI (AY (c:=((c+((((AP a).getD i 0)*((AP b).getD k 0))+(xs.getD (i+k) 0)):Nat):Int)) O O (Dd (a:=c) (b:=(((AP a).getD i 0)*((AP b).getD k 0))+(xs.getD (i+k) 0)) Z)) O (AO O (q3 (sL [4,8,9,53,54,55,10,11,60,61,62,12,13] O) ?_)))))
    refine AR O (AR O (AR O (AI (AY (c:=((i+k:Nat):Int)) O O (AX (a:=i) (b:=k) Z)) O (AR O (AI (A9 (c:=(((c+((((AP a).getD i 0)*((AP b).getD k 0))+(xs.getD (i+k) 0)))%4294967296:Nat):Int)) O underlying45 underlying101 Ed) O ?_)))))
    refine AI (v:=(pP b6 (i+k))) (AN (j:=i+k) O O underlying232 sizeOf101 O Z (by simp)) O (AE.store' (i:=0) (off:=(i+k)) (vs:=[(vK .u32 ((c+((((AP a).getD i 0)*((AP b).getD k 0))+(xs.getD (i+k) 0)))%4294967296))]) (cs':=Au (xs.set (i+k) ((c+((((AP a).getD i 0)*((AP b).getD k 0))+(xs.getD (i+k) 0)))%4294967296))) (L':=[Af b6 101 (Au (xs.set (i+k) ((c+((((AP a).getD i 0)*((AP b).getD k 0))+(xs.getD (i+k) 0)))%4294967296))),Af b5 101 (Au (A_ b)),Af b4 101 (Au (A_ a)),Af b3 47 (Aa 0),Af b2 47 (Aa b),Af b1 47 (Aa a)]) (AM O) O O O O O sizeOf101 O (Cm (BV _) Z) (CQ Z) O (AE.nil (AC.subF (sL [4,8,9,53,54,55,10,11,60,61,62,12,13] O) (AC.then_ (AF.region ?_)))))
    refine AR O (AI (Cw (s:=32) (c:=(((c+((((AP a).getD i 0)*((AP b).getD k 0))+(xs.getD (i+k) 0)))/4294967296:Nat):Int)) O O O (by decide) (GQ (a:=c+((((AP a).getD i 0)*((AP b).getD k 0))+(xs.getD (i+k) 0))) (s:=32))) O (AO O (AE.nil (AC.subF (sL [4,8,9,53,54,55,10,11,60,61,62,12,13] O) (AC.in_normal ?_)))))
    exact AC.then_ (AF.region (AI (AY (c:=((k+1:Nat):Int)) O O (AX (a:=k) (b:=1) Z)) O (AR O (AE.nil (AC.subF (sL [4,8,9,53,54,55,10,11,60,61,62,12,13] O) (AC.round3 (k+1) (xs.set (i+k) ((c+((AP a).getD i 0*(AP b).getD k 0+xs.getD (i+k) 0))%4294967296)) ((c+((AP a).getD i 0*(AP b).getD k 0+xs.getD (i+k) 0))/4294967296) (⟨Z,by rw [List.length_set];exact hl2,W32.set hw2 Z _,Z,F1 h02 Z,S5 hl2 Z hv2⟩) Z (sF O) sr))))))
   ·replace hc2:=of_decide_eq_false hc2
    have hkn:k=nw b:=by omega
    have hbb:val ((AP b).take k)=b:=DT Z
    rw [hbb] at hv2
    refine AF.exit (AC.then_exit (AC.round3_exit (AC.in_exit (AC.then_ (AF.region ?_)))))
    refine AR O (AR O (AR O (AI (v:=(vN (nw b))) (AG O underlying232) O (AI (AY (c:=((i+(nw b):Nat):Int)) O O (AX (a:=i) (b:=nw b) Z)) O (AR O ?_)))))
    refine AI (A9 (c:=((c:Nat):Int)) O underlying45 underlying101 (Cf Z)) O (AI (v:=(pP b6 (i+(nw b)))) (AN (j:=i+(nw b)) O O underlying232 sizeOf101 O Z (by simp)) O (AE.store' (i:=0) (off:=(i+(nw b))) (vs:=[(vK .u32 c)]) (cs':=Au (xs.set (i+(nw b)) c)) (L':=[Af b6 101 (Au (xs.set (i+(nw b)) c)),Af b5 101 (Au (A_ b)),Af b4 101 (Au (A_ a)),Af b3 47 (Aa 0),Af b2 47 (Aa b),Af b1 47 (Aa a)]) (AM O) O O O O O sizeOf101 O (Cm (BV _) Z) (CQ Z) O (AE.nil (AC.subF (sL [4,8,9,53,54,55,10,11,60,61,62,12] O) (AC.in_normal ?_)))))
    exact AC.then_ (AF.region (AI (AY (c:=((i+1:Nat):Int)) O O (AX (a:=i) (b:=1) Z)) O (AR O (AE.nil (AC.subF (sL [4,8,9,53,54,55,10,11,60,61,62,12] O) (AC.round2 (i+1) (xs.set (i+nw b) c) (⟨Z,by rw [List.length_set];exact hl2,W32.set hw2 hcc _,by rw [IE hl2 Z (h02 _ (Nat.le_refl _)),<-Vb,<-hv2,<-hkn]⟩) Z (sF O) sr))))))
  ·replace hc1:=of_decide_eq_false hc1
   refine AF.exit (AC.then_exit (AC.round2_exit (AC.in_exit (q2 (AR O ?_)))))
   refine Ew call149 (λw hw=>JM _ ((nw a)+(nw b)) ((nw a)+(nw b)) os hw32 (by first|omega|(rw [rowN_length];omega)|simp|(simp;omega)) (by first|omega|simp|(simp;omega)) (by first|omega|simp|(simp;omega)) w (hw.get (i:=0) O)) O (AE.retell (k:=102) (u:=(aG (Aa (a*b)))) O (by rw [List.take_of_length_le (show os.length<=nw a+nw b by omega),hv,DT Z]) (Ka O sizeOf47 O (AE.nil (AC.subF (sL [4,8,9,53,54,55] O) (AC.then_ ?_)))))
   exact AF.ret (AT O (A7 (i:=3) (cs:=Aa (a*b)) O O isAgg47 sizeOf47 O) (λw hw=>⟨rfl,hw.out⟩))
end
end Go.Proofs.YtfbomiejpbchdaaGreat
