import Derived.Test.YtfbomiejpbchdaaGreatPart06
import Derived.Test.YtfbomiejpbchdaaGreatPart11
namespace Go.Proofs.YtfbomiejpbchdaaGreat
open Go Go.RowKit Go.Proofs.Tryz
set_option linter.unusedVariables false
set_option linter.unusedSimpArgs false
section
set_option maxRecDepth 100000
theorem LV  :Instr.fill ([(0,1),(1,1)].toArray[·]?) (Ab 0).toArray []=some (Ab 0).toArray:=by kernel_rfl
theorem Pg (a b:Nat) (ha:nw a<=1099511627776) (hb:nw b<=1099511627776) (w:World)  :Calls prog 146 #[(aG (Ab a)),(aG (Ab b))] w (Aq w (Value.tuple #[(aG (Ab (a-b))),(Value.bool (decide (b<=a)))])):=by
 have hla:=CQ a
 have hlb:=CQ b
 have hpa:=XC a
 refine Ae (args:=[(aG (Ab a)),(aG (Ab b))]) func146 O O (Ac O) (AF.subF (sL [0,1] O) (q4 (Bg (cs:=Ab a) O λb1=>Bg (cs:=Ab b) O λb2=>al F5 O λb3=>?_)))
 refine AL O (q6 (sL [2,3,4,5] O) (q4 (BA 2 CL O (BA 1 CL O (BR call194 (Ud a b Z Z) O ?_)))))
 refine AH (Ak (c:=(decide ((Fp a b)<(0:Int)))) O O O) O (AE.nil (AD.subF (sL [2,3,4,5,14] O) (AD.then_ ?_)))
 refine AF.cond O (λhc0=>?_) (λhc0=>?_)
 ·replace hc0:=of_decide_eq_true hc0
  rw [JW] at hc0
  refine q4 (AH (v:=(aG (Ab 0))) (Ad (zs:=Ab 0) (vs:=Ab 0) (pv:=[]) (places:=[(0,1),(1,1)]) zeroValue47 underlying47 (λw=>by simp [sizeOf9,sizeOf45]) O (LV )) O (AE.retell (k:=15) (u:=(aG (Ab (a-b)))) O (by rw [show a-b=0 by omega]) (Aw O sizeOf47 O (AL O (AE.nil ?_)))))
  exact AD.subF (sL [2,3,4,5] O) (AD.then_ (AF.ret (AD.then_ret (C9 O (Az (i:=0) (cs:=Ab (a-b)) O O isAgg47 sizeOf47 O) (Ai (v:=(Value.bool false)) O) (λw hw=>⟨by rw [decide_eq_false (show ¬b<=a by omega)],hw.out⟩)))))
 ·replace hc0:=of_decide_eq_false hc0
  rw [JW] at hc0
  have hnb:nw b<=nw a:=Dj Z
  refine AF.skip (q1 (q4 (AH (v:=(pP b1 1)) (AA O underlying47 O sizeOf9 O) O (BJ 2 (Value.string (Bp a)) SU O (AH (CJ (c:=(decide (a<18446744073709551616))) O O Cy) O ?_)))))
  refine AE.nil (AD.subF (sL [2,3,4,5,18] O) (AD.then_ ?_))
  refine AF.cond O (λhc1=>?_) (λhc1=>?_)
  ·replace hc1:=of_decide_eq_true hc1
   refine q4 (AH (v:=(pP b1 0)) (AA O underlying47 O sizeOf45 O) O (BJ 2 (vK .u64 (CK a)) HF O (AE.retell (k:=20) (u:=(vK .u64 a)) O (by rw [Bo hc1]) (AH (v:=(pP b2 0)) (AA O underlying47 O sizeOf45 O) O (BJ 1 (vK .u64 (CK b)) HF O ?_)))))
   refine AE.retell (k:=22) (u:=(vK .u64 b)) O (by rw [Bo Z]) (AH (Bq (c:=((a-b:Nat):Int)) O O (ID (a:=a) (b:=b) Z Z)) O (AH (v:=(aG ([(vK .u64 (a-b)),(Value.string (Bp 0))]))) (Ad (zs:=Ab 0) (vs:=[(vK .u64 (a-b)),(Value.string (Bp 0))]) (pv:=[(0,(vK .u64 (a-b)))]) (places:=[(0,1),(1,1)]) zeroValue47 underlying47 (λw=>by simp [sizeOf9,sizeOf45]) O O) O (AE.retell (k:=24) (u:=(aG (Ab (a-b)))) O (by rw [Dl Z];rfl) (Aw O sizeOf47 O (AL O ?_)))))
   exact AE.nil (AD.subF (sL [2,3,4,5] O) (AD.then_ (AF.ret (AD.then_ret (C9 O (Az (i:=0) (cs:=Ab (a-b)) O O isAgg47 sizeOf47 O) (Ai (v:=(Value.bool true)) O) (λw hw=>⟨by rw [decide_eq_true (show b<=a by omega)],hw.out⟩))))))
  ·replace hc1:=of_decide_eq_false hc1
   have hpad:A9 a=AP a:=if_neg hc1
   refine AF.skip (q1 (Cm [(0,true),(2,true),(1,false),(3,false),(4,true),(5,true)] sr (En 2 CL O (En 1 CL O (AT.imp O ?_)))))
   refine AE.callB (V:=λb4=>(Value.slice (some ⟨b4,0,none⟩) (nw a) ((A9 a).length))) (T:=101) (cs:=Av (A9 a)) (AK O) (A_ (args:=[(aG (Ab a))]) O O call150) (λw hw=>DD a Z w) O (Ac O) λb4=>AT.back (sl sr) (AT.imp O (AE.callB (V:=λb5=>(Value.slice (some ⟨b5,0,none⟩) (nw b) ((A9 b).length))) (T:=101) (cs:=Av (A9 b)) (AK O) (A_ (args:=[(aG (Ab b))]) O O call150) (λw hw=>DD b Z w) O (Ac O) λb5=>AT.back (sl (sl sr)) (Eg O ?_)))
   refine Eg O (AT.nil (AD.subF (sL [2,3,4,5,6,7] O) (q2 (AL O (AE.nil ?_)))))
   refine q1 (q4 (AS O (AH (v:=(vN (nw a))) (AG O underlying232) O (AS O (AE.nil ?_)))))
   refine AD.subF (sL [2,3,4,5,6,7,8,30,31] O) (AD.then_ (AF.block ?_))
   refine AF.lp3 (tg λ(i:Nat) (os:List Nat) (c:Nat)=>i<=nw a/\os.length=nw a/\W32 os/\c<=1/\val os+val ((AP b).take i)=a+c*4294967296^i) (tg λ(i:Nat) (os:List Nat) (c:Nat)=>[(4,(pP b3 0)),(5,(Value.bool false)),(6,(Value.slice (some ⟨b4,0,none⟩) (nw a) ((A9 a).length))),(7,(Value.slice (some ⟨b5,0,none⟩) (nw b) ((A9 b).length))),(30,(vN (nw a))),(31,(vN i)),(8,(vK .u32 c))]) (tg λ(i:Nat) (os:List Nat) (c:Nat)=>[Ag b5 101 (Av (A9 b)),Ag b4 101 (Av os),Ag b3 47 (Ab 0),Ag b2 47 (Ab b),Ag b1 47 (Ab a)]) (tg λ(i:Nat) (os:List Nat) (c:Nat)=>nw a-i) 0 (A9 a) 0 (⟨Nat.zero_le _,by rw [hpad];rfl,CT a,Z,by rw [QW];simp [val]⟩) (sF O) sr (λi os c hJ=>?_)
   obtain ⟨hi,hl,hw32,hcc,hv⟩:=hJ
   refine q4 (AH (Ak (c:=(decide (i<(nw a)))) O O (C1 (a:=i) (b:=nw a))) O (AE.nil (q1 ?_)))
   refine AF.cond O (λhc2=>?_) (λhc2=>?_)
   ·replace hc2:=of_decide_eq_true hc2
    refine AF.skip (q1 (AF.block (q4 (AS O (AL O ?_)))))
    refine q3 (sL [4,5,6,7,30,31,8,9] O) (AL O (AE.nil (q1 (q4 (AS O ?_)))))
    refine AS O (AH (v:=(vN (nw b))) (AG O underlying232) O (AH (Ak (c:=(decide (i<(nw b)))) O O (C1 (a:=i) (b:=nw b))) O (AE.nil (AD.subF (sL [4,5,6,7,30,31,8,9,10,37] O) (AD.then_ ?_)))))
    refine AF.jn0 (tg True) (tg [(4,(pP b3 0)),(5,(Value.bool false)),(6,(Value.slice (some ⟨b4,0,none⟩) (nw a) ((A9 a).length))),(7,(Value.slice (some ⟨b5,0,none⟩) (nw b) ((A9 b).length))),(30,(vN (nw a))),(31,(vN i)),(8,(vK .u32 c)),(9,(vN i)),(10,(vK .u32 ((AP b).getD i 0)))]) (tg [Ag b5 101 (Av (A9 b)),Ag b4 101 (Av os),Ag b3 47 (Ab 0),Ag b2 47 (Ab b),Ag b1 47 (Ab a)]) ?_ ?_
    ·skip
     refine AF.cond O (λhc3=>?_) (λhc3=>?_)
     ·replace hc3:=of_decide_eq_true hc3
      refine AF.region (AS O (AS O (AH (v:=(pP b5 i)) (AM (j:=i) O O underlying232 sizeOf101 O Z (by simp)) O ?_)))
      have hx1:(A9 b).getD i 0<4294967296:=W32.getD (CT b) i
      exact AH (AI (i:=0) (v:=(vK .u32 ((A9 b).getD i 0))) O O isAgg101 (BP (xs:=A9 b) (j:=i) Z)) O (AE.retell (k:=41) (u:=(vK .u32 ((AP b).getD i 0))) O (by rw [Dg hc3]) (AL O (AE.nil (AD.subF (sL [4,5,6,7,30,31,8,9,10] O) (AD.join0  (trivial) (sF O) sr)))))
     ·replace hc3:=of_decide_eq_false hc3
      exact AF.skip (AD.retell (k:=10) (u:=Value.int .u32 (((AP b).getD i 0:Nat):Int)) O (by rw [EZ hc3];rfl) (AD.join0  (trivial) (sF O) sr))
    ·intro hJ
     refine AD.then_ (AF.region (AS O (AS O (AS O (AS O ?_)))))
     refine AH (v:=(pP b4 i)) (AM (j:=i) O O underlying232 sizeOf101 O Z (by simp)) O ?_
     have hx2:os.getD i 0<4294967296:=W32.getD hw32 i
     refine AH (AI (i:=1) (v:=(vK .u32 (os.getD i 0))) O O isAgg101 (BP (xs:=os) (j:=i) Z)) O (AS O (AS O ?_))
     have hyb:=(Bw b).getD i
     refine BR call197 (J6 (os.getD i 0) ((AP b).getD i 0) c _ Z Z Z O) O (AS O (AH (AZ (v:=(vK .u32 (((os.getD i 0)+(4294967296-((AP b).getD i 0))+(4294967296-c))%4294967296))) O O) O (AH (AZ (v:=(vK .u32 (It (os.getD i 0) (((AP b).getD i 0)+c)))) O O) O (AH (v:=(pP b4 i)) (AM (j:=i) O O underlying232 sizeOf101 O Z (by simp)) O (AE.store' (i:=1) (off:=i) (vs:=[(vK .u32 (((os.getD i 0)+(4294967296-((AP b).getD i 0))+(4294967296-c))%4294967296))]) (cs':=Av (os.set i (((os.getD i 0)+(4294967296-((AP b).getD i 0))+(4294967296-c))%4294967296))) (L':=[Ag b5 101 (Av (A9 b)),Ag b4 101 (Av (os.set i (((os.getD i 0)+(4294967296-((AP b).getD i 0))+(4294967296-c))%4294967296))),Ag b3 47 (Ab 0),Ag b2 47 (Ab b),Ag b1 47 (Ab a)]) (AK O) O O O O O sizeOf101 O (Cl (BS _) Z) (CO Z) O ?_)))))
     refine AL O (AE.nil (AD.subF (sL [4,5,6,7,30,31,8,9,10] O) (AD.in_normal (AD.then_ (AF.region ?_)))))
     exact AH (AW (c:=((i+1:Nat):Int)) O O (AX (a:=i) (b:=1) Z)) O (AS O (AE.nil (AD.subF (sL [4,5,6,7,30,31,8,9,10] O) (AD.round3 (i+1) (os.set i ((os.getD i 0+(4294967296-(AP b).getD i 0)+(4294967296-c))%4294967296)) (It (os.getD i 0) ((AP b).getD i 0+c)) (⟨Z,by rw [List.length_set];exact hl,W32.set hw32 Z i,PH _ _,T9 hl hc2 hw32 (Bw b) hcc hv⟩) Z (sF O) sr))))
   ·replace hc2:=of_decide_eq_false hc2
    refine AF.exit (AD.then_exit (AD.round3_exit (AD.in_exit (q2 (AS O ?_)))))
    refine Ee call149 (λw hw=>Iz _ (nw a) ((A9 a).length) os hw32 (by first|omega|(rw [rowN_length];omega)|simp|(simp;omega)) (by first|omega|simp|(simp;omega)) (by first|omega|simp|(simp;omega)) w (hw.get (i:=1) O)) O (AE.retell (k:=57) (u:=(aG (Ab (a-b)))) O (by rw [List.take_of_length_le (show os.length<=nw a by omega),Um (X:=a) (Y:=b) (n:=nw a) (c:=c) (i:=i) hl hw32 Z Z (by rw [<-hv,DL Z]) (CG a)]) (QQ O sizeOf47 O (AL O (AE.nil (AD.subF (sL [4,5,6,7,30,31,8] O) ?_)))))
    exact AD.then_ (AF.ret (C9 O (Az (i:=2) (cs:=Ab (a-b)) O O isAgg47 sizeOf47 O) (Ai (v:=(Value.bool true)) O) (λw hw=>⟨by rw [decide_eq_true (show b<=a by omega)],hw.out⟩)))
theorem Oy (a b:Nat) (ha:nw a<=1099511627776) (hb:nw b<=1099511627776) (w:World)  :Calls prog 71 #[(aG (Ab a)),(aG (Ab b))] w (Aq w (aG (Ab (a*b)))):=by
 have hla:=CQ a
 have hlb:=CQ b
 refine Ae (args:=[(aG (Ab a)),(aG (Ab b))]) func71 O O (Ac O) (AF.subF (sL [0,1] O) (q4 (Bg (cs:=Ab a) O λb1=>Bg (cs:=Ab b) O λb2=>al F5 O λb3=>?_)))
 refine q6 (sL [2,3,4] O) (q4 (AH (v:=(pP b1 1)) (AA O underlying47 O sizeOf9 O) O (BJ 2 (Value.string (Bp a)) SU O (AH (CJ (c:=(decide (a<18446744073709551616))) O O Cy) O (AS O ?_)))))
 refine AE.mid (FM:=[(2,(pP b1 0)),(3,(pP b2 0)),(4,(pP b3 0)),(15,(pP b1 1)),(16,(Value.string (Bp a))),(17,(Value.bool (decide (a<18446744073709551616)))),(18,(Value.bool (decide (a<18446744073709551616)))),(22,(Value.bool ((decide (a<18446744073709551616))&&(decide (b<18446744073709551616)))))]) (LM:=[Ag b3 47 (Ab 0),Ag b2 47 (Ab b),Ag b1 47 (Ab a)]) 4 ?_ ?_
 ·rcases Bool.eq_false_or_eq_true (decide (a<18446744073709551616)) with hg1|hg1
  ·skip
   refine AE.retell (k:=18) (u:=Value.bool true) O (by rw [hg1]) ?_
   have hg1':=hg1
   replace hg1':=of_decide_eq_true hg1'
   exact AE.step (v:=(pP b2 1)) (AB O) (AA O underlying47 O sizeOf9 O) O (Ac O) (AE.step (v:=(Value.string (Bp b))) (AB O) (AI (i:=1) (v:=(Value.string (Bp b))) O O SU.a O) O (Ac O) (AE.step (v:=(Value.bool (decide (b<18446744073709551616)))) (AB O) (CJ (c:=(decide (b<18446744073709551616))) O O Cy) O (Ac O) (AH (v:=(Value.bool (decide (b<18446744073709551616)))) (Aj O O) O (AE.nil (AD.mid (sS O (sS O (sS O (sS O (sS O (sS O (sS (by first|rfl|(rw [hg1];rfl)|rw [hg1]) (sS (by first|rfl|(rw [hg1];rfl)|rw [hg1]) (sN))))))))) (List.Sublist.refl _))))))
  ·skip
   refine AE.retell (k:=18) (u:=Value.bool false) O (by rw [hg1]) ?_
   have hg1':=hg1
   replace hg1':=of_decide_eq_false hg1'
   exact AE.skip (AN O) O (Ac O) (AE.skip (AN O) O (Ac O) (AE.skip (AN O) O (Ac O) (AH (v:=(Value.bool false)) (AV O O) O (AE.nil (AD.mid (sS O (sS O (sS O (sS O (sS O (sS O (sS (by first|rfl|(rw [hg1];rfl)|rw [hg1]) (sS (by first|rfl|(rw [hg1];rfl)|rw [hg1]) (sN))))))))) (List.Sublist.refl _))))))
 refine AE.nil (AD.subF (sL [2,3,4,22] O) (AD.then_ ?_))
 refine AF.cond O (λhc0=>?_) (λhc0=>?_)
 ·simp only [Bool.and_eq_true,Bool.or_eq_true,Bool.and_eq_false_iff,Bool.or_eq_false_iff,Bool.not_eq_true',Bool.not_eq_false',decide_eq_true_eq,decide_eq_false_iff_not] at hc0
  refine q4 (AH (v:=(pP b1 0)) (AA O underlying47 O sizeOf45 O) O (BJ 2 (vK .u64 (CK a)) HF O (AE.retell (k:=25) (u:=(vK .u64 a)) O (by rw [Bo hc0.1]) (AH (v:=(pP b2 0)) (AA O underlying47 O sizeOf45 O) O (BJ 1 (vK .u64 (CK b)) HF O ?_)))))
  have hhi:a*b/18446744073709551616<18446744073709551616:=Nat.div_lt_of_lt_mul (Nat.mul_lt_mul'' hc0.1 hc0.2)
  refine AE.retell (k:=27) (u:=(vK .u64 b)) O (by rw [Bo hc0.2]) (BR call148 (Uz a b Z Z) O (AS O (AH (AZ (v:=(vK .u64 (a*b/18446744073709551616))) O O) O (AH (AZ (v:=(vK .u64 (a*b%18446744073709551616))) O O) O (AL O ?_)))))
  refine AL O (q3 (sL [2,3,4,5,6] O) (AS O (AH (A8 (c:=(((a*b%18446744073709551616)%4294967296:Nat):Int)) O underlying45 underlying101 ET) O (AS O (AH (C0 (s:=32) (c:=(((a*b%18446744073709551616)/4294967296:Nat):Int)) O O O (by decide) (F1 (a:=a*b%18446744073709551616) (s:=32))) O ?_)))))
  refine AH (A8 (c:=(((a*b%18446744073709551616)/4294967296:Nat):Int)) O underlying45 underlying101 (Ca Z)) O (AS O (AH (A8 (c:=(((a*b/18446744073709551616)%4294967296:Nat):Int)) O underlying45 underlying101 ET) O (AS O (AH (C0 (s:=32) (c:=(((a*b/18446744073709551616)/4294967296:Nat):Int)) O O O (by decide) (F1 (a:=a*b/18446744073709551616) (s:=32))) O (AH (A8 (c:=(((a*b/18446744073709551616)/4294967296:Nat):Int)) O underlying45 underlying101 (Ca Z)) O ?_)))))
  refine AE.openV (V:=λb4=>(Value.slice (some ⟨b4,0,none⟩) 4 4)) (T:=101) (cs:=Av ([(a*b%18446744073709551616)%4294967296,(a*b%18446744073709551616)/4294967296,(a*b/18446744073709551616)%4294967296,(a*b/18446744073709551616)/4294967296])) (AK O) (Ar (cs:=Av ([(a*b%18446744073709551616)%4294967296,(a*b%18446744073709551616)/4294967296,(a*b/18446744073709551616)%4294967296,(a*b/18446744073709551616)/4294967296])) (pv:=[(0,(vK .u32 ((a*b%18446744073709551616)%4294967296))),(1,(vK .u32 ((a*b%18446744073709551616)/4294967296))),(2,(vK .u32 ((a*b/18446744073709551616)%4294967296))),(3,(vK .u32 ((a*b/18446744073709551616)/4294967296)))]) underlying232 sizeOf101 zeroValue101 (by decide) (by decide) O (by kernel_rfl)) O (Ac O) λb4=>Ee call149 (λw hw=>Iz _ 4 4 ([(a*b%18446744073709551616)%4294967296,(a*b%18446744073709551616)/4294967296,(a*b/18446744073709551616)%4294967296,(a*b/18446744073709551616)/4294967296]) (W32.cons Z (W32.cons Z (W32.cons Z (W32.cons Z (W32.nil))))) (by first|omega|(rw [rowN_length];omega)|simp|(simp;omega)) (by first|omega|simp|(simp;omega)) (by first|omega|simp|(simp;omega)) w (hw.get (i:=0) O)) O (AE.retell (k:=42) (u:=(aG (Ab (a*b)))) O (by rw [show ∀x y z t:Nat,[x,y,z,t].take 4=[x,y,z,t] from λ_ _ _ _=>rfl,Yb Z hhi,show a*b%18446744073709551616+a*b/18446744073709551616*18446744073709551616=a*b by omega]) (DP O sizeOf47 O (AE.nil (AD.subF (sL [2,3,4] O) ?_))))
  exact AD.then_ (AF.ret (AD.then_ret (AR O (Az (i:=1) (cs:=Ab (a*b)) O O isAgg47 sizeOf47 O) (λw hw=>⟨rfl,hw.out⟩))))
 ·simp only [Bool.and_eq_true,Bool.or_eq_true,Bool.and_eq_false_iff,Bool.or_eq_false_iff,Bool.not_eq_true',Bool.not_eq_false',decide_eq_true_eq,decide_eq_false_iff_not] at hc0
  refine AF.skip (q1 (Cm [(0,true),(2,true),(1,false),(3,false),(4,true),(5,true)] sr (En 2 CL O (En 1 CL O (AT.imp O ?_)))))
  refine AE.callB (V:=λb4=>(Value.slice (some ⟨b4,0,none⟩) (nw a) ((A9 a).length))) (T:=101) (cs:=Av (A9 a)) (AK O) (A_ (args:=[(aG (Ab a))]) O O call150) (λw hw=>DD a Z w) O (Ac O) λb4=>AT.back (sl sr) (AT.imp O (AE.callB (V:=λb5=>(Value.slice (some ⟨b5,0,none⟩) (nw b) ((A9 b).length))) (T:=101) (cs:=Av (A9 b)) (AK O) (A_ (args:=[(aG (Ab b))]) O O call150) (λw hw=>DD b Z w) O (Ac O) λb5=>AT.back (sl (sl sr)) (Eg O ?_)))
  refine Eg O (AT.nil (AD.subF (sL [2,3,4,7,8] O) (q2 (AS O (AH (v:=(vN (nw a))) (AG O underlying232) O ?_)))))
  refine AS O (AH (v:=(vN (nw b))) (AG O underlying232) O (AH (AW (c:=(((nw a)+(nw b):Nat):Int)) O O (AX (a:=nw a) (b:=nw b) Z)) O (AE.openV (V:=λb6=>(Value.slice (some ⟨b6,0,none⟩) ((nw a)+(nw b)) ((nw a)+(nw b)))) (T:=101) (cs:=Av (List.replicate ((nw a)+(nw b)) 0)) (AK O) (DN (m:=(nw a)+(nw b)) (c:=(nw a)+(nw b)) O O Z Z) O (Ac O) λb6=>AL O (q6 (sL [2,3,4,7,8,9] O) ?_))))
  refine q4 (AS O (AH (v:=(vN (nw a))) (AG O underlying232) O (AS O (AE.nil (AD.then_ ?_)))))
  refine AF.block ?_
  refine AF.lp2 (tg λ(i:Nat) (os:List Nat)=>i<=nw a/\os.length=nw a+nw b/\W32 os/\val os=val ((AP a).take i)*b) (tg λ(i:Nat) (os:List Nat)=>[(4,(pP b3 0)),(8,(Value.slice (some ⟨b5,0,none⟩) (nw b) ((A9 b).length))),(9,(Value.slice (some ⟨b6,0,none⟩) ((nw a)+(nw b)) ((nw a)+(nw b)))),(53,(Value.slice (some ⟨b4,0,none⟩) (nw a) ((A9 a).length))),(54,(vN (nw a))),(55,(vN i))]) (tg λ(i:Nat) (os:List Nat)=>[Ag b6 101 (Av os),Ag b5 101 (Av (A9 b)),Ag b4 101 (Av (A9 a)),Ag b3 47 (Ab 0),Ag b2 47 (Ab b),Ag b1 47 (Ab a)]) (tg λ(i:Nat) (os:List Nat)=>nw a-i) 0 (List.replicate (nw a+nw b) 0) (⟨Nat.zero_le _,by simp,W32.zeros _,by rw [D7];simp [val]⟩) (sF O) sr (λi os hJ=>?_)
  obtain ⟨hi,hl,hw32,hv⟩:=hJ
  refine q4 (AH (Ak (c:=(decide (i<(nw a)))) O O (C1 (a:=i) (b:=nw a))) O (AE.nil (q1 ?_)))
  refine AF.cond O (λhc1=>?_) (λhc1=>?_)
  ·replace hc1:=of_decide_eq_true hc1
   refine AF.skip (q1 (AF.block (q4 (AS O (AH (v:=(pP b4 i)) (AM (j:=i) O O underlying232 sizeOf101 O Z (by simp)) O ?_)))))
   have hx1:(A9 a).getD i 0<4294967296:=W32.getD (CT a) i
   refine AH (AI (i:=2) (v:=(vK .u32 ((A9 a).getD i 0))) O O isAgg101 (BP (xs:=A9 a) (j:=i) Z)) O (AE.retell (k:=59) (u:=(vK .u32 ((AP a).getD i 0))) O (by rw [Dg hc1]) (AL O (AL O (q3 (sL [4,8,9,53,54,55,10,11] O) (AL O ?_)))))
   refine AE.nil (q1 (q4 (AS O (AH (v:=(vN (nw b))) (AG O underlying232) O (AS O ?_)))))
   refine AE.nil (AD.then_ (AF.block ?_))
   refine AF.lp3 (tg λ(k:Nat) (xs:List Nat) (c:Nat)=>k<=nw b/\xs.length=nw a+nw b/\W32 xs/\c<4294967296/\(∀j,i+nw b<=j->xs.getD j 0=0)/\val xs+c*4294967296^(i+k)=val ((AP a).take i)*b+(AP a).getD i 0*val ((AP b).take k)*4294967296^i) (tg λ(k:Nat) (xs:List Nat) (c:Nat)=>[(4,(pP b3 0)),(8,(Value.slice (some ⟨b5,0,none⟩) (nw b) ((A9 b).length))),(9,(Value.slice (some ⟨b6,0,none⟩) ((nw a)+(nw b)) ((nw a)+(nw b)))),(53,(Value.slice (some ⟨b4,0,none⟩) (nw a) ((A9 a).length))),(54,(vN (nw a))),(55,(vN i)),(10,(vN i)),(11,(vK .u32 ((AP a).getD i 0))),(60,(Value.slice (some ⟨b5,0,none⟩) (nw b) ((A9 b).length))),(61,(vN (nw b))),(62,(vN k)),(12,(vK .u64 c))]) (tg λ(k:Nat) (xs:List Nat) (c:Nat)=>[Ag b6 101 (Av xs),Ag b5 101 (Av (A9 b)),Ag b4 101 (Av (A9 a)),Ag b3 47 (Ab 0),Ag b2 47 (Ab b),Ag b1 47 (Ab a)]) (tg λ(k:Nat) (xs:List Nat) (c:Nat)=>nw b-k) 0 os 0 (⟨Nat.zero_le _,hl,hw32,Z,Pj hv,by rw [hv];simp [val]⟩) (sF O) sr (λk xs c hJ=>?_)
   obtain ⟨hk,hl2,hw2,hcc,h02,hv2⟩:=hJ
   refine q4 (AH (Ak (c:=(decide (k<(nw b)))) O O (C1 (a:=k) (b:=nw b))) O (AE.nil (q1 ?_)))
   refine AF.cond O (λhc2=>?_) (λhc2=>?_)
   ·replace hc2:=of_decide_eq_true hc2
    refine AF.skip (q1 (AF.block (q4 (AS O (AH (v:=(pP b5 k)) (AM (j:=k) O O underlying232 sizeOf101 O Z (by simp)) O ?_)))))
    have hx2:(A9 b).getD k 0<4294967296:=W32.getD (CT b) k
    refine AH (AI (i:=1) (v:=(vK .u32 ((A9 b).getD k 0))) O O isAgg101 (BP (xs:=A9 b) (j:=k) Z)) O (AE.retell (k:=66) (u:=(vK .u32 ((AP b).getD k 0))) O (by rw [Dg hc2]) (AL O (AL O (q3 (sL [4,8,9,53,54,55,10,11,60,61,62,12,13,14] O) (AS O ?_)))))
    refine AS O ?_
    have hwa:=(Bw a).getD i
    have hwb:=(Bw b).getD k
    have hml:=KJ hwa hwb
    refine AH (A8 (c:=(((AP a).getD i 0:Nat):Int)) O underlying101 underlying45 (BW Z)) O (AS O (AH (A8 (c:=(((AP b).getD k 0:Nat):Int)) O underlying101 underlying45 (BW Z)) O (AH (B3 (c:=((((AP a).getD i 0)*((AP b).getD k 0):Nat):Int)) O O (E1 (a:=(AP a).getD i 0) (b:=(AP b).getD k 0) Z)) O (AS O (AS O ?_)))))
    refine AS O (AH (AW (c:=((i+k:Nat):Int)) O O (AX (a:=i) (b:=k) Z)) O (AH (v:=(pP b6 (i+k))) (AM (j:=i+k) O O underlying232 sizeOf101 O Z (by simp)) O ?_))
    have hx3:xs.getD (i+k) 0<4294967296:=W32.getD hw2 (i+k)
    refine AH (AI (i:=0) (v:=(vK .u32 (xs.getD (i+k) 0))) O O isAgg101 (BP (xs:=xs) (j:=(i+k)) Z)) O (AH (A8 (c:=((xs.getD (i+k) 0:Nat):Int)) O underlying101 underlying45 (BW Z)) O (AH (AW (c:=(((((AP a).getD i 0)*((AP b).getD k 0))+(xs.getD (i+k) 0):Nat):Int)) O O (Dh (a:=((AP a).getD i 0)*((AP b).getD k 0)) (b:=xs.getD (i+k) 0) Z)) O (AH (AW (c:=((c+((((AP a).getD i 0)*((AP b).getD k 0))+(xs.getD (i+k) 0)):Nat):Int)) O O (Dh (a:=c) (b:=(((AP a).getD i 0)*((AP b).getD k 0))+(xs.getD (i+k) 0)) Z)) O (AL O (q3 (sL [4,8,9,53,54,55,10,11,60,61,62,12,13] O) ?_)))))
    refine AS O (AS O (AS O (AH (AW (c:=((i+k:Nat):Int)) O O (AX (a:=i) (b:=k) Z)) O (AS O (AH (A8 (c:=(((c+((((AP a).getD i 0)*((AP b).getD k 0))+(xs.getD (i+k) 0)))%4294967296:Nat):Int)) O underlying45 underlying101 ET) O ?_)))))
    refine AH (v:=(pP b6 (i+k))) (AM (j:=i+k) O O underlying232 sizeOf101 O Z (by simp)) O (AE.store' (i:=0) (off:=(i+k)) (vs:=[(vK .u32 ((c+((((AP a).getD i 0)*((AP b).getD k 0))+(xs.getD (i+k) 0)))%4294967296))]) (cs':=Av (xs.set (i+k) ((c+((((AP a).getD i 0)*((AP b).getD k 0))+(xs.getD (i+k) 0)))%4294967296))) (L':=[Ag b6 101 (Av (xs.set (i+k) ((c+((((AP a).getD i 0)*((AP b).getD k 0))+(xs.getD (i+k) 0)))%4294967296))),Ag b5 101 (Av (A9 b)),Ag b4 101 (Av (A9 a)),Ag b3 47 (Ab 0),Ag b2 47 (Ab b),Ag b1 47 (Ab a)]) (AK O) O O O O O sizeOf101 O (Cl (BS _) Z) (CO Z) O (AE.nil (AD.subF (sL [4,8,9,53,54,55,10,11,60,61,62,12,13] O) (AD.then_ (AF.region ?_)))))
    refine AS O (AH (C0 (s:=32) (c:=(((c+((((AP a).getD i 0)*((AP b).getD k 0))+(xs.getD (i+k) 0)))/4294967296:Nat):Int)) O O O (by decide) (F1 (a:=c+((((AP a).getD i 0)*((AP b).getD k 0))+(xs.getD (i+k) 0))) (s:=32))) O (AL O (AE.nil (AD.subF (sL [4,8,9,53,54,55,10,11,60,61,62,12,13] O) (AD.in_normal ?_)))))
    exact AD.then_ (AF.region (AH (AW (c:=((k+1:Nat):Int)) O O (AX (a:=k) (b:=1) Z)) O (AS O (AE.nil (AD.subF (sL [4,8,9,53,54,55,10,11,60,61,62,12,13] O) (AD.round3 (k+1) (xs.set (i+k) ((c+((AP a).getD i 0*(AP b).getD k 0+xs.getD (i+k) 0))%4294967296)) ((c+((AP a).getD i 0*(AP b).getD k 0+xs.getD (i+k) 0))/4294967296) (⟨Z,by rw [List.length_set];exact hl2,W32.set hw2 Z _,Z,Fj h02 Z,Ut hl2 Z hv2⟩) Z (sF O) sr))))))
   ·replace hc2:=of_decide_eq_false hc2
    have hkn:k=nw b:=by omega
    have hbb:val ((AP b).take k)=b:=DL Z
    rw [hbb] at hv2
    refine AF.exit (AD.then_exit (AD.round3_exit (AD.in_exit (AD.then_ (AF.region ?_)))))
    refine AS O (AS O (AS O (AH (v:=(vN (nw b))) (AG O underlying232) O (AH (AW (c:=((i+(nw b):Nat):Int)) O O (AX (a:=i) (b:=nw b) Z)) O (AS O ?_)))))
    refine AH (A8 (c:=((c:Nat):Int)) O underlying45 underlying101 (Ca Z)) O (AH (v:=(pP b6 (i+(nw b)))) (AM (j:=i+(nw b)) O O underlying232 sizeOf101 O Z (by simp)) O (AE.store' (i:=0) (off:=(i+(nw b))) (vs:=[(vK .u32 c)]) (cs':=Av (xs.set (i+(nw b)) c)) (L':=[Ag b6 101 (Av (xs.set (i+(nw b)) c)),Ag b5 101 (Av (A9 b)),Ag b4 101 (Av (A9 a)),Ag b3 47 (Ab 0),Ag b2 47 (Ab b),Ag b1 47 (Ab a)]) (AK O) O O O O O sizeOf101 O (Cl (BS _) Z) (CO Z) O (AE.nil (AD.subF (sL [4,8,9,53,54,55,10,11,60,61,62,12] O) (AD.in_normal ?_)))))
    exact AD.then_ (AF.region (AH (AW (c:=((i+1:Nat):Int)) O O (AX (a:=i) (b:=1) Z)) O (AS O (AE.nil (AD.subF (sL [4,8,9,53,54,55,10,11,60,61,62,12] O) (AD.round2 (i+1) (xs.set (i+nw b) c) (⟨Z,by rw [List.length_set];exact hl2,W32.set hw2 hcc _,by rw [Ht hl2 Z (h02 _ (Nat.le_refl _)),<-VP,<-hv2,<-hkn]⟩) Z (sF O) sr))))))
  ·replace hc1:=of_decide_eq_false hc1
   refine AF.exit (AD.then_exit (AD.round2_exit (AD.in_exit (q2 (AS O ?_)))))
   refine Ee call149 (λw hw=>Iz _ ((nw a)+(nw b)) ((nw a)+(nw b)) os hw32 (by first|omega|(rw [rowN_length];omega)|simp|(simp;omega)) (by first|omega|simp|(simp;omega)) (by first|omega|simp|(simp;omega)) w (hw.get (i:=0) O)) O (AE.retell (k:=102) (u:=(aG (Ab (a*b)))) O (by rw [List.take_of_length_le (show os.length<=nw a+nw b by omega),hv,DL Z]) (IF O sizeOf47 O (AE.nil (AD.subF (sL [4,8,9,53,54,55] O) (AD.then_ ?_)))))
   exact AF.ret (AR O (Az (i:=3) (cs:=Ab (a*b)) O O isAgg47 sizeOf47 O) (λw hw=>⟨rfl,hw.out⟩))
end
end Go.Proofs.YtfbomiejpbchdaaGreat
