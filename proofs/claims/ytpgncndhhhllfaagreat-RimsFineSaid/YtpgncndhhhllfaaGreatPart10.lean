import Derived.Test.YtpgncndhhhllfaaGreatPart03
import Derived.Test.YtpgncndhhhllfaaGreatPart09
namespace Go.Proofs.YtpgncndhhhllfaaGreat
open Go Go.RowKit Go.Proofs.Tryz
set_option linter.unusedVariables false
set_option linter.unusedSimpArgs false
section
set_option maxRecDepth 100000
theorem Le  :Instr.fill ([(0,1),(1,1)].toArray[·]?) (Ag 0).toArray []=some (Ag 0).toArray:=by kernel_rfl
theorem Zg (a b:Nat) (ha:nw a<=1099511627776) (hb:nw b<=1099511627776) (w:World)  :Calls prog 113 #[(aG (Ag a)),(aG (Ag b))] w (A9 w (Value.tuple #[(aG (Ag (a-b))),(Value.bool (decide (b<=a)))])):=by
 have hla:=CO a
 have hlb:=CO b
 have hpa:=W7 a
 refine Aq (args:=[(aG (Ag a)),(aG (Ag b))]) func113 O O (Ad O) (AE.subF (sL [0,1] O) (q4 (Ca (cs:=Ag a) O λb1=>Ca (cs:=Ag b) O λb2=>al GS O λb3=>AI O (q6 (sL [2,3,4,5] O) (q4 (BF 2 Cq O (BF 1 Cq O (ck' call137 (Ur a b Z Z) O ?_))))))))
 refine AJ (Ac (c:=(decide ((DP a b)<(0:Int)))) O O O) O (AC.nil (OkQ.subF (sL [2,3,4,5,14] O) (OkQ.then_ ?_)))
 refine AE.cond O (λhc0=>?_) (λhc0=>?_)
 ·replace hc0:=of_decide_eq_true hc0
  rw [Gr] at hc0
  exact q4 (AJ (v:=(aG (Ag 0))) (AY (zs:=Ag 0) (vs:=Ag 0) (pv:=[]) (places:=[(0,1),(1,1)]) zeroValue58 underlying58 (λw=>by simp [sizeOf9,sizeOf56]) O (Le )) O (AC.retell (k:=15) (u:=(aG (Ag (a-b)))) O (by rw [show a-b=0 by omega]) (BN O sizeOf58 O (AI O (AC.nil (OkQ.subF (sL [2,3,4,5] O) (OkQ.then_ (AE.ret (OkQ.then_ret (CH O (BP (i:=0) (cs:=Ag (a-b)) O O isAgg58 sizeOf58 O) (Ah (v:=(Value.bool false)) O) (λw hw=>⟨by rw [decide_eq_false (show ¬b<=a by omega)],hw.out⟩)))))))))))
 ·replace hc0:=of_decide_eq_false hc0
  rw [Gr] at hc0
  have hnb:nw b<=nw a:=Cu Z
  refine AE.skip (q1 (q4 (AJ (v:=(pP b1 1)) (AB O underlying58 O sizeOf9 O) O (BE 2 (Value.string (Bn a)) WU O (AJ (B_ (c:=(decide (a<18446744073709551616))) O O Cp) O (AC.nil (OkQ.subF (sL [2,3,4,5,18] O) (OkQ.then_ ?_))))))))
  refine AE.cond O (λhc1=>?_) (λhc1=>?_)
  ·replace hc1:=of_decide_eq_true hc1
   refine q4 (AJ (v:=(pP b1 0)) (AB O underlying58 O sizeOf56 O) O (BE 2 (vK .u64 (CC a)) G_ O (AC.retell (k:=20) (u:=(vK .u64 a)) O (by rw [Bm hc1]) (AJ (v:=(pP b2 0)) (AB O underlying58 O sizeOf56 O) O (BE 1 (vK .u64 (CC b)) G_ O (AC.retell (k:=22) (u:=(vK .u64 b)) O (by rw [Bm Z]) (AJ (BU (c:=((a-b:Nat):Int)) O O (Hr (a:=a) (b:=b) Z Z)) O (AJ (v:=(aG ([(vK .u64 (a-b)),(Value.string (Bn 0))]))) (AY (zs:=Ag 0) (vs:=[(vK .u64 (a-b)),(Value.string (Bn 0))]) (pv:=[(0,(vK .u64 (a-b)))]) (places:=[(0,1),(1,1)]) zeroValue58 underlying58 (λw=>by simp [sizeOf9,sizeOf56]) O O) O (AC.retell (k:=24) (u:=(aG (Ag (a-b)))) O (by rw [De Z];rfl) (BN O sizeOf58 O (AI O ?_)))))))))))
   exact AC.nil (OkQ.subF (sL [2,3,4,5] O) (OkQ.then_ (AE.ret (OkQ.then_ret (CH O (BP (i:=0) (cs:=Ag (a-b)) O O isAgg58 sizeOf58 O) (Ah (v:=(Value.bool true)) O) (λw hw=>⟨by rw [decide_eq_true (show b<=a by omega)],hw.out⟩))))))
  ·replace hc1:=of_decide_eq_false hc1
   have hpad:A8 a=AR a:=if_neg hc1
   refine AE.skip (q1 (Ck [(0,true),(2,true),(1,false),(3,false),(4,true),(5,true)] sr (G6 2 Cq O (G6 1 Cq O (OkE.imp O (AC.callB (V:=λb4=>(Value.slice (some ⟨b4,0,none⟩) (nw a) ((A8 a).length))) (T:=50) (cs:=Au (A8 a)) (AP O) (A_ (args:=[(aG (Ag a))]) O O call138) (λw hw=>DD a Z w) O (Ad O) λb4=>OkE.back (sl sr) (OkE.imp O (AC.callB (V:=λb5=>(Value.slice (some ⟨b5,0,none⟩) (nw b) ((A8 b).length))) (T:=50) (cs:=Au (A8 b)) (AP O) (A_ (args:=[(aG (Ag b))]) O O call138) (λw hw=>DD b Z w) O (Ad O) λb5=>OkE.back (sl (sl sr)) (pS' O ?_)))))))))
   refine pS' O (OkE.nil (OkQ.subF (sL [2,3,4,5,6,7] O) (q2 (AI O (AC.nil (q1 (q4 (AM O (AJ (v:=(vN (nw a))) (AF O underlying224) O (AM O (AC.nil ?_)))))))))))
   refine OkQ.subF (sL [2,3,4,5,6,7,8,30,31] O) (OkQ.then_ (AE.block ?_))
   refine AE.lp3 (tg λ(i:Nat) (os:List Nat) (c:Nat)=>i<=nw a/\os.length=nw a/\W32 os/\c<=1/\val os+val ((AR b).take i)=a+c*4294967296^i) (tg λ(i:Nat) (os:List Nat) (c:Nat)=>[(4,(pP b3 0)),(5,(Value.bool false)),(6,(Value.slice (some ⟨b4,0,none⟩) (nw a) ((A8 a).length))),(7,(Value.slice (some ⟨b5,0,none⟩) (nw b) ((A8 b).length))),(30,(vN (nw a))),(31,(vN i)),(8,(vK .u32 c))]) (tg λ(i:Nat) (os:List Nat) (c:Nat)=>[Af b5 50 (Au (A8 b)),Af b4 50 (Au os),Af b3 58 (Ag 0),Af b2 58 (Ag b),Af b1 58 (Ag a)]) (tg λ(i:Nat) (os:List Nat) (c:Nat)=>nw a-i) 0 (A8 a) 0 (⟨Nat.zero_le _,by rw [hpad];rfl,CS a,Z,by rw [Qq];simp [val]⟩) (sF O) sr (λi os c hJ=>?_)
   obtain ⟨hi,hl,hw32,hcc,hv⟩:=hJ
   refine q4 (AJ (Ac (c:=(decide (i<(nw a)))) O O (CD (a:=i) (b:=nw a))) O (AC.nil (q1 ?_)))
   refine AE.cond O (λhc2=>?_) (λhc2=>?_)
   ·replace hc2:=of_decide_eq_true hc2
    refine AE.skip (q1 (AE.block (q4 (AM O (AI O (q3 (sL [4,5,6,7,30,31,8,9] O) (AI O (AC.nil (q1 (q4 (AM O ?_)))))))))))
    refine AM O (AJ (v:=(vN (nw b))) (AF O underlying224) O (AJ (Ac (c:=(decide (i<(nw b)))) O O (CD (a:=i) (b:=nw b))) O (AC.nil (OkQ.subF (sL [4,5,6,7,30,31,8,9,10,37] O) (OkQ.then_ ?_)))))
    refine AE.jn0 (tg True) (tg [(4,(pP b3 0)),(5,(Value.bool false)),(6,(Value.slice (some ⟨b4,0,none⟩) (nw a) ((A8 a).length))),(7,(Value.slice (some ⟨b5,0,none⟩) (nw b) ((A8 b).length))),(30,(vN (nw a))),(31,(vN i)),(8,(vK .u32 c)),(9,(vN i)),(10,(vK .u32 ((AR b).getD i 0)))]) (tg [Af b5 50 (Au (A8 b)),Af b4 50 (Au os),Af b3 58 (Ag 0),Af b2 58 (Ag b),Af b1 58 (Ag a)]) ?_ ?_
    ·skip
     refine AE.cond O (λhc3=>?_) (λhc3=>?_)
     ·replace hc3:=of_decide_eq_true hc3
      refine AE.region (AM O (AM O (AJ (v:=(pP b5 i)) (AO (j:=i) O O underlying224 sizeOf50 O Z (by simp)) O ?_)))
      have hx1:(A8 b).getD i 0<4294967296:=W32.getD (CS b) i
      exact AJ (AS (i:=0) (v:=(vK .u32 ((A8 b).getD i 0))) O O isAgg50 (BO (xs:=A8 b) (j:=i) Z)) O (AC.retell (k:=41) (u:=(vK .u32 ((AR b).getD i 0))) O (by rw [DZ hc3]) (AI O (AC.nil (OkQ.subF (sL [4,5,6,7,30,31,8,9,10] O) (OkQ.join0  (trivial) (sF O) sr)))))
     ·replace hc3:=of_decide_eq_false hc3
      exact AE.skip (OkQ.retell (k:=10) (u:=Value.int .u32 (((AR b).getD i 0:Nat):Int)) O (by rw [EX hc3];rfl) (OkQ.join0  (trivial) (sF O) sr))
    ·intro hJ
     refine OkQ.then_ (AE.region (AM O (AM O (AM O (AM O (AJ (v:=(pP b4 i)) (AO (j:=i) O O underlying224 sizeOf50 O Z (by simp)) O ?_))))))
     have hx2:os.getD i 0<4294967296:=W32.getD hw32 i
     refine AJ (AS (i:=1) (v:=(vK .u32 (os.getD i 0))) O O isAgg50 (BO (xs:=os) (j:=i) Z)) O (AM O (AM O ?_))
     have hyb:=(Bv b).getD i
     refine ck' call142 (J8 (os.getD i 0) ((AR b).getD i 0) c _ Z Z Z O) O (AM O (AJ (Ab (v:=(vK .u32 (((os.getD i 0)+(4294967296-((AR b).getD i 0))+(4294967296-c))%4294967296))) O O) O (AJ (Ab (v:=(vK .u32 (JA (os.getD i 0) (((AR b).getD i 0)+c)))) O O) O (AJ (v:=(pP b4 i)) (AO (j:=i) O O underlying224 sizeOf50 O Z (by simp)) O (AC.store' (i:=1) (off:=i) (vs:=[(vK .u32 (((os.getD i 0)+(4294967296-((AR b).getD i 0))+(4294967296-c))%4294967296))]) (cs':=Au (os.set i (((os.getD i 0)+(4294967296-((AR b).getD i 0))+(4294967296-c))%4294967296))) (L':=[Af b5 50 (Au (A8 b)),Af b4 50 (Au (os.set i (((os.getD i 0)+(4294967296-((AR b).getD i 0))+(4294967296-c))%4294967296))),Af b3 58 (Ag 0),Af b2 58 (Ag b),Af b1 58 (Ag a)]) (AP O) O O O O O sizeOf50 O (Ch (BV _) Z) (CK Z) O (AI O (AC.nil (OkQ.subF (sL [4,5,6,7,30,31,8,9,10] O) (OkQ.in_normal (OkQ.then_ (AE.region ?_)))))))))))
     exact AJ (AQ (c:=((i+1:Nat):Int)) O O (AN (a:=i) (b:=1) Z)) O (AM O (AC.nil (OkQ.subF (sL [4,5,6,7,30,31,8,9,10] O) (OkQ.round3 (i+1) (os.set i ((os.getD i 0+(4294967296-(AR b).getD i 0)+(4294967296-c))%4294967296)) (JA (os.getD i 0) ((AR b).getD i 0+c)) (⟨Z,by rw [List.length_set];exact hl,W32.set hw32 Z i,Ps _ _,UP hl hc2 hw32 (Bv b) hcc hv⟩) Z (sF O) sr))))
   ·replace hc2:=of_decide_eq_false hc2
    refine AE.exit (OkQ.then_exit (OkQ.round3_exit (OkQ.in_exit (q2 (AM O (DS call140 (λw hw=>JH _ (nw a) ((A8 a).length) os hw32 (by first|omega|(rw [rowN_length];omega)|simp|(simp;omega)) (by first|omega|simp|(simp;omega)) (by first|omega|simp|(simp;omega)) w (hw.get (i:=1) O)) O (AC.retell (k:=57) (u:=(aG (Ag (a-b)))) O (by rw [List.take_of_length_le (show os.length<=nw a by omega),VS (X:=a) (Y:=b) (n:=nw a) (c:=c) (i:=i) hl hw32 Z Z (by rw [<-hv,DJ Z]) (Bz a)]) (Me O sizeOf58 O (AI O (AC.nil (OkQ.subF (sL [4,5,6,7,30,31,8] O) ?_)))))))))))
    exact OkQ.then_ (AE.ret (CH O (BP (i:=2) (cs:=Ag (a-b)) O O isAgg58 sizeOf58 O) (Ah (v:=(Value.bool true)) O) (λw hw=>⟨by rw [decide_eq_true (show b<=a by omega)],hw.out⟩)))
theorem WL (a b:Nat) (ha:nw a<=1099511627776) (hb:nw b<=1099511627776) (w:World)  :Calls prog 117 #[(aG (Ag a)),(aG (Ag b))] w (A9 w (aG (Ag (a*b)))):=by
 have hla:=CO a
 have hlb:=CO b
 refine Aq (args:=[(aG (Ag a)),(aG (Ag b))]) func117 O O (Ad O) (AE.subF (sL [0,1] O) (q4 (Ca (cs:=Ag a) O λb1=>Ca (cs:=Ag b) O λb2=>al GS O λb3=>q6 (sL [2,3,4] O) (q4 (AJ (v:=(pP b1 1)) (AB O underlying58 O sizeOf9 O) O (BE 2 (Value.string (Bn a)) WU O (AJ (B_ (c:=(decide (a<18446744073709551616))) O O Cp) O (AM O ?_))))))))
 refine AC.mid (FM:=[(2,(pP b1 0)),(3,(pP b2 0)),(4,(pP b3 0)),(15,(pP b1 1)),(16,(Value.string (Bn a))),(17,(Value.bool (decide (a<18446744073709551616)))),(18,(Value.bool (decide (a<18446744073709551616)))),(22,(Value.bool ((decide (a<18446744073709551616))&&(decide (b<18446744073709551616)))))]) (LM:=[Af b3 58 (Ag 0),Af b2 58 (Ag b),Af b1 58 (Ag a)]) 4 ?_ ?_
 ·rcases Bool.eq_false_or_eq_true (decide (a<18446744073709551616)) with hg1|hg1
  ·skip
   refine AC.retell (k:=18) (u:=Value.bool true) O (by rw [hg1]) ?_
   have hg1':=hg1
   replace hg1':=of_decide_eq_true hg1'
   exact AC.step (v:=(pP b2 1)) (AA O) (AB O underlying58 O sizeOf9 O) O (Ad O) (AC.step (v:=(Value.string (Bn b))) (AA O) (AS (i:=1) (v:=(Value.string (Bn b))) O O WU.a O) O (Ad O) (AC.step (v:=(Value.bool (decide (b<18446744073709551616)))) (AA O) (B_ (c:=(decide (b<18446744073709551616))) O O Cp) O (Ad O) (AJ (v:=(Value.bool (decide (b<18446744073709551616)))) (AW O O) O (AC.nil (OkQ.mid (sS O (sS O (sS O (sS O (sS O (sS O (sS (by first|rfl|(rw [hg1];rfl)|rw [hg1]) (sS (by first|rfl|(rw [hg1];rfl)|rw [hg1]) (sN))))))))) (List.Sublist.refl _))))))
  ·skip
   refine AC.retell (k:=18) (u:=Value.bool false) O (by rw [hg1]) ?_
   have hg1':=hg1
   replace hg1':=of_decide_eq_false hg1'
   exact AC.skip (AH O) O (Ad O) (AC.skip (AH O) O (Ad O) (AC.skip (AH O) O (Ad O) (AJ (v:=(Value.bool false)) (AT O O) O (AC.nil (OkQ.mid (sS O (sS O (sS O (sS O (sS O (sS O (sS (by first|rfl|(rw [hg1];rfl)|rw [hg1]) (sS (by first|rfl|(rw [hg1];rfl)|rw [hg1]) (sN))))))))) (List.Sublist.refl _))))))
 refine AC.nil (OkQ.subF (sL [2,3,4,22] O) (OkQ.then_ ?_))
 refine AE.cond O (λhc0=>?_) (λhc0=>?_)
 ·simp only [Bool.and_eq_true,Bool.or_eq_true,Bool.and_eq_false_iff,Bool.or_eq_false_iff,Bool.not_eq_true',Bool.not_eq_false',decide_eq_true_eq,decide_eq_false_iff_not] at hc0
  refine q4 (AJ (v:=(pP b1 0)) (AB O underlying58 O sizeOf56 O) O (BE 2 (vK .u64 (CC a)) G_ O (AC.retell (k:=25) (u:=(vK .u64 a)) O (by rw [Bm hc0.1]) (AJ (v:=(pP b2 0)) (AB O underlying58 O sizeOf56 O) O (BE 1 (vK .u64 (CC b)) G_ O ?_)))))
  have hhi:a*b/18446744073709551616<18446744073709551616:=Nat.div_lt_of_lt_mul (Nat.mul_lt_mul'' hc0.1 hc0.2)
  refine AC.retell (k:=27) (u:=(vK .u64 b)) O (by rw [Bm hc0.2]) (ck' call147 (V7 a b Z Z) O (AM O (AJ (Ab (v:=(vK .u64 (a*b/18446744073709551616))) O O) O (AJ (Ab (v:=(vK .u64 (a*b%18446744073709551616))) O O) O (AI O (AI O (q3 (sL [2,3,4,5,6] O) (AM O (AJ (Ax (c:=(((a*b%18446744073709551616)%4294967296:Nat):Int)) O underlying56 underlying50 EN) O (AM O (AJ (Ct (s:=32) (c:=(((a*b%18446744073709551616)/4294967296:Nat):Int)) O O O (by decide) (Fy (a:=a*b%18446744073709551616) (s:=32))) O ?_)))))))))))
  refine AJ (Ax (c:=(((a*b%18446744073709551616)/4294967296:Nat):Int)) O underlying56 underlying50 (CQ Z)) O (AM O (AJ (Ax (c:=(((a*b/18446744073709551616)%4294967296:Nat):Int)) O underlying56 underlying50 EN) O (AM O (AJ (Ct (s:=32) (c:=(((a*b/18446744073709551616)/4294967296:Nat):Int)) O O O (by decide) (Fy (a:=a*b/18446744073709551616) (s:=32))) O (AJ (Ax (c:=(((a*b/18446744073709551616)/4294967296:Nat):Int)) O underlying56 underlying50 (CQ Z)) O (AC.openV (V:=λb4=>(Value.slice (some ⟨b4,0,none⟩) 4 4)) (T:=50) (cs:=Au ([(a*b%18446744073709551616)%4294967296,(a*b%18446744073709551616)/4294967296,(a*b/18446744073709551616)%4294967296,(a*b/18446744073709551616)/4294967296])) (AP O) (Ai (cs:=Au ([(a*b%18446744073709551616)%4294967296,(a*b%18446744073709551616)/4294967296,(a*b/18446744073709551616)%4294967296,(a*b/18446744073709551616)/4294967296])) (pv:=[(0,(vK .u32 ((a*b%18446744073709551616)%4294967296))),(1,(vK .u32 ((a*b%18446744073709551616)/4294967296))),(2,(vK .u32 ((a*b/18446744073709551616)%4294967296))),(3,(vK .u32 ((a*b/18446744073709551616)/4294967296)))]) underlying224 sizeOf50 zeroValue50 (by decide) (by decide) O (by kernel_rfl)) O (Ad O) λb4=>DS call140 (λw hw=>JH _ 4 4 ([(a*b%18446744073709551616)%4294967296,(a*b%18446744073709551616)/4294967296,(a*b/18446744073709551616)%4294967296,(a*b/18446744073709551616)/4294967296]) (W32.cons Z (W32.cons Z (W32.cons Z (W32.cons Z (W32.nil))))) (by first|omega|(rw [rowN_length];omega)|simp|(simp;omega)) (by first|omega|simp|(simp;omega)) (by first|omega|simp|(simp;omega)) w (hw.get (i:=0) O)) O (AC.retell (k:=42) (u:=(aG (Ag (a*b)))) O (by rw [show ∀x y z t:Nat,[x,y,z,t].take 4=[x,y,z,t] from λ_ _ _ _=>rfl,Z_ Z hhi,show a*b%18446744073709551616+a*b/18446744073709551616*18446744073709551616=a*b by omega]) (Ed O sizeOf58 O (AC.nil (OkQ.subF (sL [2,3,4] O) ?_))))))))))
  exact OkQ.then_ (AE.ret (OkQ.then_ret (AV O (BP (i:=1) (cs:=Ag (a*b)) O O isAgg58 sizeOf58 O) (λw hw=>⟨rfl,hw.out⟩))))
 ·simp only [Bool.and_eq_true,Bool.or_eq_true,Bool.and_eq_false_iff,Bool.or_eq_false_iff,Bool.not_eq_true',Bool.not_eq_false',decide_eq_true_eq,decide_eq_false_iff_not] at hc0
  refine AE.skip (q1 (Ck [(0,true),(2,true),(1,false),(3,false),(4,true),(5,true)] sr (G6 2 Cq O (G6 1 Cq O (OkE.imp O (AC.callB (V:=λb4=>(Value.slice (some ⟨b4,0,none⟩) (nw a) ((A8 a).length))) (T:=50) (cs:=Au (A8 a)) (AP O) (A_ (args:=[(aG (Ag a))]) O O call138) (λw hw=>DD a Z w) O (Ad O) λb4=>OkE.back (sl sr) (OkE.imp O (AC.callB (V:=λb5=>(Value.slice (some ⟨b5,0,none⟩) (nw b) ((A8 b).length))) (T:=50) (cs:=Au (A8 b)) (AP O) (A_ (args:=[(aG (Ag b))]) O O call138) (λw hw=>DD b Z w) O (Ad O) λb5=>OkE.back (sl (sl sr)) (pS' O ?_)))))))))
  refine pS' O (OkE.nil (OkQ.subF (sL [2,3,4,7,8] O) (q2 (AM O (AJ (v:=(vN (nw a))) (AF O underlying224) O (AM O (AJ (v:=(vN (nw b))) (AF O underlying224) O (AJ (AQ (c:=(((nw a)+(nw b):Nat):Int)) O O (AN (a:=nw a) (b:=nw b) Z)) O (AC.openV (V:=λb6=>(Value.slice (some ⟨b6,0,none⟩) ((nw a)+(nw b)) ((nw a)+(nw b)))) (T:=50) (cs:=Au (List.replicate ((nw a)+(nw b)) 0)) (AP O) (DG (m:=(nw a)+(nw b)) (c:=(nw a)+(nw b)) O O Z Z) O (Ad O) λb6=>AI O (q6 (sL [2,3,4,7,8,9] O) ?_))))))))))
  refine q4 (AM O (AJ (v:=(vN (nw a))) (AF O underlying224) O (AM O (AC.nil (OkQ.then_ (AE.block ?_))))))
  refine AE.lp2 (tg λ(i:Nat) (os:List Nat)=>i<=nw a/\os.length=nw a+nw b/\W32 os/\val os=val ((AR a).take i)*b) (tg λ(i:Nat) (os:List Nat)=>[(4,(pP b3 0)),(8,(Value.slice (some ⟨b5,0,none⟩) (nw b) ((A8 b).length))),(9,(Value.slice (some ⟨b6,0,none⟩) ((nw a)+(nw b)) ((nw a)+(nw b)))),(53,(Value.slice (some ⟨b4,0,none⟩) (nw a) ((A8 a).length))),(54,(vN (nw a))),(55,(vN i))]) (tg λ(i:Nat) (os:List Nat)=>[Af b6 50 (Au os),Af b5 50 (Au (A8 b)),Af b4 50 (Au (A8 a)),Af b3 58 (Ag 0),Af b2 58 (Ag b),Af b1 58 (Ag a)]) (tg λ(i:Nat) (os:List Nat)=>nw a-i) 0 (List.replicate (nw a+nw b) 0) (⟨Nat.zero_le _,by simp,W32.zeros _,by rw [D5];simp [val]⟩) (sF O) sr (λi os hJ=>?_)
  obtain ⟨hi,hl,hw32,hv⟩:=hJ
  refine q4 (AJ (Ac (c:=(decide (i<(nw a)))) O O (CD (a:=i) (b:=nw a))) O (AC.nil (q1 ?_)))
  refine AE.cond O (λhc1=>?_) (λhc1=>?_)
  ·replace hc1:=of_decide_eq_true hc1
   refine AE.skip (q1 (AE.block (q4 (AM O (AJ (v:=(pP b4 i)) (AO (j:=i) O O underlying224 sizeOf50 O Z (by simp)) O ?_)))))
   have hx1:(A8 a).getD i 0<4294967296:=W32.getD (CS a) i
   refine AJ (AS (i:=2) (v:=(vK .u32 ((A8 a).getD i 0))) O O isAgg50 (BO (xs:=A8 a) (j:=i) Z)) O (AC.retell (k:=59) (u:=(vK .u32 ((AR a).getD i 0))) O (by rw [DZ hc1]) (AI O (AI O (q3 (sL [4,8,9,53,54,55,10,11] O) (AI O (AC.nil (q1 (q4 (AM O (AJ (v:=(vN (nw b))) (AF O underlying224) O (AM O ?_)))))))))))
   refine AC.nil (OkQ.then_ (AE.block ?_))
   refine AE.lp3 (tg λ(k:Nat) (xs:List Nat) (c:Nat)=>k<=nw b/\xs.length=nw a+nw b/\W32 xs/\c<4294967296/\(∀j,i+nw b<=j->xs.getD j 0=0)/\val xs+c*4294967296^(i+k)=val ((AR a).take i)*b+(AR a).getD i 0*val ((AR b).take k)*4294967296^i) (tg λ(k:Nat) (xs:List Nat) (c:Nat)=>[(4,(pP b3 0)),(8,(Value.slice (some ⟨b5,0,none⟩) (nw b) ((A8 b).length))),(9,(Value.slice (some ⟨b6,0,none⟩) ((nw a)+(nw b)) ((nw a)+(nw b)))),(53,(Value.slice (some ⟨b4,0,none⟩) (nw a) ((A8 a).length))),(54,(vN (nw a))),(55,(vN i)),(10,(vN i)),(11,(vK .u32 ((AR a).getD i 0))),(60,(Value.slice (some ⟨b5,0,none⟩) (nw b) ((A8 b).length))),(61,(vN (nw b))),(62,(vN k)),(12,(vK .u64 c))]) (tg λ(k:Nat) (xs:List Nat) (c:Nat)=>[Af b6 50 (Au xs),Af b5 50 (Au (A8 b)),Af b4 50 (Au (A8 a)),Af b3 58 (Ag 0),Af b2 58 (Ag b),Af b1 58 (Ag a)]) (tg λ(k:Nat) (xs:List Nat) (c:Nat)=>nw b-k) 0 os 0 (⟨Nat.zero_le _,hl,hw32,Z,QI hv,by rw [hv];simp [val]⟩) (sF O) sr (λk xs c hJ=>?_)
   obtain ⟨hk,hl2,hw2,hcc,h02,hv2⟩:=hJ
   refine q4 (AJ (Ac (c:=(decide (k<(nw b)))) O O (CD (a:=k) (b:=nw b))) O (AC.nil (q1 ?_)))
   refine AE.cond O (λhc2=>?_) (λhc2=>?_)
   ·replace hc2:=of_decide_eq_true hc2
    refine AE.skip (q1 (AE.block (q4 (AM O (AJ (v:=(pP b5 k)) (AO (j:=k) O O underlying224 sizeOf50 O Z (by simp)) O ?_)))))
    have hx2:(A8 b).getD k 0<4294967296:=W32.getD (CS b) k
    refine AJ (AS (i:=1) (v:=(vK .u32 ((A8 b).getD k 0))) O O isAgg50 (BO (xs:=A8 b) (j:=k) Z)) O (AC.retell (k:=66) (u:=(vK .u32 ((AR b).getD k 0))) O (by rw [DZ hc2]) (AI O (AI O (q3 (sL [4,8,9,53,54,55,10,11,60,61,62,12,13,14] O) (AM O (AM O ?_))))))
    have hwa:=(Bv a).getD i
    have hwb:=(Bv b).getD k
    have hml:=Kg hwa hwb
    refine AJ (Ax (c:=(((AR a).getD i 0:Nat):Int)) O underlying50 underlying56 (BW Z)) O (AM O (AJ (Ax (c:=(((AR b).getD k 0:Nat):Int)) O underlying50 underlying56 (BW Z)) O (AJ (Bs (c:=((((AR a).getD i 0)*((AR b).getD k 0):Nat):Int)) O O (Ev (a:=(AR a).getD i 0) (b:=(AR b).getD k 0) Z)) O (AM O (AM O (AM O (AJ (AQ (c:=((i+k:Nat):Int)) O O (AN (a:=i) (b:=k) Z)) O (AJ (v:=(pP b6 (i+k))) (AO (j:=i+k) O O underlying224 sizeOf50 O Z (by simp)) O ?_))))))))
    have hx3:xs.getD (i+k) 0<4294967296:=W32.getD hw2 (i+k)
    refine AJ (AS (i:=0) (v:=(vK .u32 (xs.getD (i+k) 0))) O O isAgg50 (BO (xs:=xs) (j:=(i+k)) Z)) O (AJ (Ax (c:=((xs.getD (i+k) 0:Nat):Int)) O underlying50 underlying56 (BW Z)) O (AJ (AQ (c:=(((((AR a).getD i 0)*((AR b).getD k 0))+(xs.getD (i+k) 0):Nat):Int)) O O (DU (a:=((AR a).getD i 0)*((AR b).getD k 0)) (b:=xs.getD (i+k) 0) Z)) O (AJ (AQ (c:=((c+((((AR a).getD i 0)*((AR b).getD k 0))+(xs.getD (i+k) 0)):Nat):Int)) O O (DU (a:=c) (b:=(((AR a).getD i 0)*((AR b).getD k 0))+(xs.getD (i+k) 0)) Z)) O (AI O (q3 (sL [4,8,9,53,54,55,10,11,60,61,62,12,13] O) (AM O (AM O (AM O (AJ (AQ (c:=((i+k:Nat):Int)) O O (AN (a:=i) (b:=k) Z)) O (AM O (AJ (Ax (c:=(((c+((((AR a).getD i 0)*((AR b).getD k 0))+(xs.getD (i+k) 0)))%4294967296:Nat):Int)) O underlying56 underlying50 EN) O ?_)))))))))))
    refine AJ (v:=(pP b6 (i+k))) (AO (j:=i+k) O O underlying224 sizeOf50 O Z (by simp)) O (AC.store' (i:=0) (off:=(i+k)) (vs:=[(vK .u32 ((c+((((AR a).getD i 0)*((AR b).getD k 0))+(xs.getD (i+k) 0)))%4294967296))]) (cs':=Au (xs.set (i+k) ((c+((((AR a).getD i 0)*((AR b).getD k 0))+(xs.getD (i+k) 0)))%4294967296))) (L':=[Af b6 50 (Au (xs.set (i+k) ((c+((((AR a).getD i 0)*((AR b).getD k 0))+(xs.getD (i+k) 0)))%4294967296))),Af b5 50 (Au (A8 b)),Af b4 50 (Au (A8 a)),Af b3 58 (Ag 0),Af b2 58 (Ag b),Af b1 58 (Ag a)]) (AP O) O O O O O sizeOf50 O (Ch (BV _) Z) (CK Z) O (AC.nil (OkQ.subF (sL [4,8,9,53,54,55,10,11,60,61,62,12,13] O) (OkQ.then_ (AE.region (AM O (AJ (Ct (s:=32) (c:=(((c+((((AR a).getD i 0)*((AR b).getD k 0))+(xs.getD (i+k) 0)))/4294967296:Nat):Int)) O O O (by decide) (Fy (a:=c+((((AR a).getD i 0)*((AR b).getD k 0))+(xs.getD (i+k) 0))) (s:=32))) O (AI O (AC.nil (OkQ.subF (sL [4,8,9,53,54,55,10,11,60,61,62,12,13] O) (OkQ.in_normal ?_)))))))))))
    exact OkQ.then_ (AE.region (AJ (AQ (c:=((k+1:Nat):Int)) O O (AN (a:=k) (b:=1) Z)) O (AM O (AC.nil (OkQ.subF (sL [4,8,9,53,54,55,10,11,60,61,62,12,13] O) (OkQ.round3 (k+1) (xs.set (i+k) ((c+((AR a).getD i 0*(AR b).getD k 0+xs.getD (i+k) 0))%4294967296)) ((c+((AR a).getD i 0*(AR b).getD k 0+xs.getD (i+k) 0))/4294967296) (⟨Z,by rw [List.length_set];exact hl2,W32.set hw2 Z _,Z,FT h02 Z,Vb hl2 Z hv2⟩) Z (sF O) sr))))))
   ·replace hc2:=of_decide_eq_false hc2
    have hkn:k=nw b:=by omega
    have hbb:val ((AR b).take k)=b:=DJ Z
    rw [hbb] at hv2
    refine AE.exit (OkQ.then_exit (OkQ.round3_exit (OkQ.in_exit (OkQ.then_ (AE.region (AM O (AM O (AM O (AJ (v:=(vN (nw b))) (AF O underlying224) O (AJ (AQ (c:=((i+(nw b):Nat):Int)) O O (AN (a:=i) (b:=nw b) Z)) O (AM O ?_)))))))))))
    exact AJ (Ax (c:=((c:Nat):Int)) O underlying56 underlying50 (CQ Z)) O (AJ (v:=(pP b6 (i+(nw b)))) (AO (j:=i+(nw b)) O O underlying224 sizeOf50 O Z (by simp)) O (AC.store' (i:=0) (off:=(i+(nw b))) (vs:=[(vK .u32 c)]) (cs':=Au (xs.set (i+(nw b)) c)) (L':=[Af b6 50 (Au (xs.set (i+(nw b)) c)),Af b5 50 (Au (A8 b)),Af b4 50 (Au (A8 a)),Af b3 58 (Ag 0),Af b2 58 (Ag b),Af b1 58 (Ag a)]) (AP O) O O O O O sizeOf50 O (Ch (BV _) Z) (CK Z) O (AC.nil (OkQ.subF (sL [4,8,9,53,54,55,10,11,60,61,62,12] O) (OkQ.in_normal (OkQ.then_ (AE.region (AJ (AQ (c:=((i+1:Nat):Int)) O O (AN (a:=i) (b:=1) Z)) O (AM O (AC.nil (OkQ.subF (sL [4,8,9,53,54,55,10,11,60,61,62,12] O) (OkQ.round2 (i+1) (xs.set (i+nw b) c) (⟨Z,by rw [List.length_set];exact hl2,W32.set hw2 hcc _,by rw [H2 hl2 Z (h02 _ (Nat.le_refl _)),<-Ya,<-hv2,<-hkn]⟩) Z (sF O) sr))))))))))))
  ·replace hc1:=of_decide_eq_false hc1
   refine AE.exit (OkQ.then_exit (OkQ.round2_exit (OkQ.in_exit (q2 (AM O (DS call140 (λw hw=>JH _ ((nw a)+(nw b)) ((nw a)+(nw b)) os hw32 (by first|omega|(rw [rowN_length];omega)|simp|(simp;omega)) (by first|omega|simp|(simp;omega)) (by first|omega|simp|(simp;omega)) w (hw.get (i:=0) O)) O (AC.retell (k:=102) (u:=(aG (Ag (a*b)))) O (by rw [List.take_of_length_le (show os.length<=nw a+nw b by omega),hv,DJ Z]) (Nx O sizeOf58 O (AC.nil (OkQ.subF (sL [4,8,9,53,54,55] O) (OkQ.then_ ?_)))))))))))
   exact AE.ret (AV O (BP (i:=3) (cs:=Ag (a*b)) O O isAgg58 sizeOf58 O) (λw hw=>⟨rfl,hw.out⟩))
end
end Go.Proofs.YtpgncndhhhllfaaGreat
