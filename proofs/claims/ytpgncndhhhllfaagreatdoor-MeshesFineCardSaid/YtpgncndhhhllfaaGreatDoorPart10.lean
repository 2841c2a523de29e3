import Derived.Test.YtpgncndhhhllfaaGreatDoorPart03
import Derived.Test.YtpgncndhhhllfaaGreatDoorPart09
namespace Go.Proofs.YtpgncndhhhllfaaGreatDoor
open Go Go.RowKit Go.Proofs.Tryz
set_option linter.unusedVariables false
set_option linter.unusedSimpArgs false
section
set_option maxRecDepth 100000
theorem Lp  :Instr.fill ([(0,1),(1,1)].toArray[·]?) (Ab 0).toArray []=some (Ab 0).toArray:=by kernel_rfl
theorem Qj (a b:Nat) (ha:nw a<=1099511627776) (hb:nw b<=1099511627776) (w:World)  :Calls prog 103 #[(aG (Ab a)),(aG (Ab b))] w (An w (Value.tuple #[(aG (Ab (a-b))),(Value.bool (decide (b<=a)))])):=by
 have hla:=CR a
 have hlb:=CR b
 have hpa:=YP a
 refine Af (args:=[(aG (Ab a)),(aG (Ab b))]) func103 O O (AT O) (AF.subF (sL [0,1] O) (q4 (BU (cs:=Ab a) O λb1=>BU (cs:=Ab b) O λb2=>al F5 O λb3=>?_)))
 refine asg' O (q6 (sL [2,3,4,5] O) (q4 (BD 2 B7 O (BD 1 B7 O (ck' call168 (UQ a b Z Z) O ?_)))))
 refine AH (Ae (c:=(decide ((DL a b)<(0:Int)))) O O O) O (AE.nil (AC.subF (sL [2,3,4,5,14] O) (AC.then_ ?_)))
 refine AF.cond O (λhc0=>?_) (λhc0=>?_)
 ·replace hc0:=of_decide_eq_true hc0
  rw [FF] at hc0
  refine q4 (AH (v:=(aG (Ab 0))) (AV (zs:=Ab 0) (vs:=Ab 0) (pv:=[]) (places:=[(0,1),(1,1)]) zeroValue42 underlying42 (λw=>by simp [sizeOf9,sizeOf40]) O (Lp )) O (AE.retell (k:=15) (u:=(aG (Ab (a-b)))) O (by rw [show a-b=0 by omega]) (A8 O sizeOf42 O (asg' O (AE.nil ?_)))))
  exact AC.subF (sL [2,3,4,5] O) (AC.then_ (AF.ret (AC.then_ret (Cp O (Ap (i:=0) (cs:=Ab (a-b)) O O isAgg42 sizeOf42 O) (AY (v:=(Value.bool false)) O) (λw hw=>⟨by rw [decide_eq_false (show ¬b<=a by omega)],hw.out⟩)))))
 ·replace hc0:=of_decide_eq_false hc0
  rw [FF] at hc0
  have hnb:nw b<=nw a:=C1 Z
  refine AF.skip (q1 (q4 (AH (v:=(pP b1 1)) (AA O underlying42 O sizeOf9 O) O (BA 2 (Value.string (Bm a)) TQ O (AH (Bf (c:=(decide (a<18446744073709551616))) O O CY) O ?_)))))
  refine AE.nil (AC.subF (sL [2,3,4,5,18] O) (AC.then_ ?_))
  refine AF.cond O (λhc1=>?_) (λhc1=>?_)
  ·replace hc1:=of_decide_eq_true hc1
   refine q4 (AH (v:=(pP b1 0)) (AA O underlying42 O sizeOf40 O) O (BA 2 (vK .u64 (B8 a)) Gd O (AE.retell (k:=20) (u:=(vK .u64 a)) O (by rw [Bh hc1]) (AH (v:=(pP b2 0)) (AA O underlying42 O sizeOf40 O) O (BA 1 (vK .u64 (B8 b)) Gd O ?_)))))
   refine AE.retell (k:=22) (u:=(vK .u64 b)) O (by rw [Bh Z]) (AH (BW (c:=((a-b:Nat):Int)) O O (IT (a:=a) (b:=b) Z Z)) O (AH (v:=(aG ([(vK .u64 (a-b)),(Value.string (Bm 0))]))) (AV (zs:=Ab 0) (vs:=[(vK .u64 (a-b)),(Value.string (Bm 0))]) (pv:=[(0,(vK .u64 (a-b)))]) (places:=[(0,1),(1,1)]) zeroValue42 underlying42 (λw=>by simp [sizeOf9,sizeOf40]) O O) O (AE.retell (k:=24) (u:=(aG (Ab (a-b)))) O (by rw [Do Z];rfl) (A8 O sizeOf42 O (asg' O ?_)))))
   exact AE.nil (AC.subF (sL [2,3,4,5] O) (AC.then_ (AF.ret (AC.then_ret (Cp O (Ap (i:=0) (cs:=Ab (a-b)) O O isAgg42 sizeOf42 O) (AY (v:=(Value.bool true)) O) (λw hw=>⟨by rw [decide_eq_true (show b<=a by omega)],hw.out⟩))))))
  ·replace hc1:=of_decide_eq_false hc1
   have hpad:BC a=AR a:=if_neg hc1
   refine AF.skip (q1 (Cd [(0,true),(2,true),(1,false),(3,false),(4,true),(5,true)] sr (Da 2 B7 O (Da 1 B7 O (OkE.imp O ?_)))))
   refine AE.callB (V:=λb4=>(Value.slice (some ⟨b4,0,none⟩) (nw a) ((BC a).length))) (T:=97) (cs:=Au (BC a)) (AS O) (Ao (args:=[(aG (Ab a))]) O O call111) (λw hw=>DQ a Z w) O (AT O) λb4=>OkE.back (sl sr) (OkE.imp O (AE.callB (V:=λb5=>(Value.slice (some ⟨b5,0,none⟩) (nw b) ((BC b).length))) (T:=97) (cs:=Au (BC b)) (AS O) (Ao (args:=[(aG (Ab b))]) O O call111) (λw hw=>DQ b Z w) O (AT O) λb5=>OkE.back (sl (sl sr)) (pS' O ?_)))
   refine pS' O (OkE.nil (AC.subF (sL [2,3,4,5,6,7] O) (q2 (asg' O (AE.nil ?_)))))
   refine q1 (q4 (AM O (AH (v:=(vN (nw a))) (AG O underlying184) O (AM O (AE.nil ?_)))))
   refine AC.subF (sL [2,3,4,5,6,7,8,30,31] O) (AC.then_ (AF.block ?_))
   refine AF.lp3 (tg λ(i:Nat) (os:List Nat) (c:Nat)=>i<=nw a/\os.length=nw a/\W32 os/\c<=1/\val os+val ((AR b).take i)=a+c*4294967296^i) (tg λ(i:Nat) (os:List Nat) (c:Nat)=>[(4,(pP b3 0)),(5,(Value.bool false)),(6,(Value.slice (some ⟨b4,0,none⟩) (nw a) ((BC a).length))),(7,(Value.slice (some ⟨b5,0,none⟩) (nw b) ((BC b).length))),(30,(vN (nw a))),(31,(vN i)),(8,(vK .u32 c))]) (tg λ(i:Nat) (os:List Nat) (c:Nat)=>[Ag b5 97 (Au (BC b)),Ag b4 97 (Au os),Ag b3 42 (Ab 0),Ag b2 42 (Ab b),Ag b1 42 (Ab a)]) (tg λ(i:Nat) (os:List Nat) (c:Nat)=>nw a-i) 0 (BC a) 0 (⟨Nat.zero_le _,by rw [hpad];rfl,Cb a,Z,by rw [R_];simp [val]⟩) (sF O) sr (λi os c hJ=>?_)
   obtain ⟨hi,hl,hw32,hcc,hv⟩:=hJ
   refine q4 (AH (Ae (c:=(decide (i<(nw a)))) O O (CL (a:=i) (b:=nw a))) O (AE.nil (q1 ?_)))
   refine AF.cond O (λhc2=>?_) (λhc2=>?_)
   ·replace hc2:=of_decide_eq_true hc2
    refine AF.skip (q1 (AF.block (q4 (AM O (asg' O ?_)))))
    refine q3 (sL [4,5,6,7,30,31,8,9] O) (asg' O (AE.nil (q1 (q4 (AM O ?_)))))
    refine AM O (AH (v:=(vN (nw b))) (AG O underlying184) O (AH (Ae (c:=(decide (i<(nw b)))) O O (CL (a:=i) (b:=nw b))) O (AE.nil (AC.subF (sL [4,5,6,7,30,31,8,9,10,37] O) (AC.then_ ?_)))))
    refine AF.jn0 (tg True) (tg [(4,(pP b3 0)),(5,(Value.bool false)),(6,(Value.slice (some ⟨b4,0,none⟩) (nw a) ((BC a).length))),(7,(Value.slice (some ⟨b5,0,none⟩) (nw b) ((BC b).length))),(30,(vN (nw a))),(31,(vN i)),(8,(vK .u32 c)),(9,(vN i)),(10,(vK .u32 ((AR b).getD i 0)))]) (tg [Ag b5 97 (Au (BC b)),Ag b4 97 (Au os),Ag b3 42 (Ab 0),Ag b2 42 (Ab b),Ag b1 42 (Ab a)]) ?_ ?_
    ·skip
     refine AF.cond O (λhc3=>?_) (λhc3=>?_)
     ·replace hc3:=of_decide_eq_true hc3
      refine AF.region (AM O (AM O (AH (v:=(pP b5 i)) (AL (j:=i) O O underlying184 sizeOf97 O Z (by simp)) O ?_)))
      have hx1:(BC b).getD i 0<4294967296:=W32.getD (Cb b) i
      exact AH (AK (i:=0) (v:=(vK .u32 ((BC b).getD i 0))) O O isAgg97 (BK (xs:=BC b) (j:=i) Z)) O (AE.retell (k:=41) (u:=(vK .u32 ((AR b).getD i 0))) O (by rw [Dc hc3]) (asg' O (AE.nil (AC.subF (sL [4,5,6,7,30,31,8,9,10] O) (AC.join0  (trivial) (sF O) sr)))))
     ·replace hc3:=of_decide_eq_false hc3
      exact AF.skip (AC.retell (k:=10) (u:=Value.int .u32 (((AR b).getD i 0:Nat):Int)) O (by rw [Ee hc3];rfl) (AC.join0  (trivial) (sF O) sr))
    ·intro hJ
     refine AC.then_ (AF.region (AM O (AM O (AM O (AM O ?_)))))
     refine AH (v:=(pP b4 i)) (AL (j:=i) O O underlying184 sizeOf97 O Z (by simp)) O ?_
     have hx2:os.getD i 0<4294967296:=W32.getD hw32 i
     refine AH (AK (i:=1) (v:=(vK .u32 (os.getD i 0))) O O isAgg97 (BK (xs:=os) (j:=i) Z)) O (AM O (AM O ?_))
     have hyb:=(Bu b).getD i
     refine ck' call170 (LQ (os.getD i 0) ((AR b).getD i 0) c _ Z Z Z O) O (AM O (AH (Aa (v:=(vK .u32 (((os.getD i 0)+(4294967296-((AR b).getD i 0))+(4294967296-c))%4294967296))) O O) O (AH (Aa (v:=(vK .u32 (JE (os.getD i 0) (((AR b).getD i 0)+c)))) O O) O (AH (v:=(pP b4 i)) (AL (j:=i) O O underlying184 sizeOf97 O Z (by simp)) O (AE.store' (i:=1) (off:=i) (vs:=[(vK .u32 (((os.getD i 0)+(4294967296-((AR b).getD i 0))+(4294967296-c))%4294967296))]) (cs':=Au (os.set i (((os.getD i 0)+(4294967296-((AR b).getD i 0))+(4294967296-c))%4294967296))) (L':=[Ag b5 97 (Au (BC b)),Ag b4 97 (Au (os.set i (((os.getD i 0)+(4294967296-((AR b).getD i 0))+(4294967296-c))%4294967296))),Ag b3 42 (Ab 0),Ag b2 42 (Ab b),Ag b1 42 (Ab a)]) (AS O) O O O O O sizeOf97 O (Cq (BS _) Z) (CN Z) O ?_)))))
     refine asg' O (AE.nil (AC.subF (sL [4,5,6,7,30,31,8,9,10] O) (AC.in_normal (AC.then_ (AF.region ?_)))))
     exact AH (AW (c:=((i+1:Nat):Int)) O O (AU (a:=i) (b:=1) Z)) O (AM O (AE.nil (AC.subF (sL [4,5,6,7,30,31,8,9,10] O) (AC.round3 (i+1) (os.set i ((os.getD i 0+(4294967296-(AR b).getD i 0)+(4294967296-c))%4294967296)) (JE (os.getD i 0) ((AR b).getD i 0+c)) (⟨Z,by rw [List.length_set];exact hl,W32.set hw32 Z i,Qi _ _,Us hl hc2 hw32 (Bu b) hcc hv⟩) Z (sF O) sr))))
   ·replace hc2:=of_decide_eq_false hc2
    refine AF.exit (AC.then_exit (AC.round3_exit (AC.in_exit (q2 (AM O ?_)))))
    refine Cj call110 (λw hw=>JM _ (nw a) ((BC a).length) os hw32 (by first|omega|(rw [rowN_length];omega)|simp|(simp;omega)) (by first|omega|simp|(simp;omega)) (by first|omega|simp|(simp;omega)) w (hw.get (i:=1) O)) O (AE.retell (k:=57) (u:=(aG (Ab (a-b)))) O (by rw [List.take_of_length_le (show os.length<=nw a by omega),VH (X:=a) (Y:=b) (n:=nw a) (c:=c) (i:=i) hl hw32 Z Z (by rw [<-hv,DS Z]) (Bt a)]) (FN O sizeOf42 O (asg' O (AE.nil (AC.subF (sL [4,5,6,7,30,31,8] O) ?_)))))
    exact AC.then_ (AF.ret (Cp O (Ap (i:=2) (cs:=Ab (a-b)) O O isAgg42 sizeOf42 O) (AY (v:=(Value.bool true)) O) (λw hw=>⟨by rw [decide_eq_true (show b<=a by omega)],hw.out⟩)))
theorem Pv (a b:Nat) (ha:nw a<=1099511627776) (hb:nw b<=1099511627776) (w:World)  :Calls prog 60 #[(aG (Ab a)),(aG (Ab b))] w (An w (aG (Ab (a*b)))):=by
 have hla:=CR a
 have hlb:=CR b
 refine Af (args:=[(aG (Ab a)),(aG (Ab b))]) func60 O O (AT O) (AF.subF (sL [0,1] O) (q4 (BU (cs:=Ab a) O λb1=>BU (cs:=Ab b) O λb2=>al F5 O λb3=>?_)))
 refine q6 (sL [2,3,4] O) (q4 (AH (v:=(pP b1 1)) (AA O underlying42 O sizeOf9 O) O (BA 2 (Value.string (Bm a)) TQ O (AH (Bf (c:=(decide (a<18446744073709551616))) O O CY) O (AM O ?_)))))
 refine AE.mid (FM:=[(2,(pP b1 0)),(3,(pP b2 0)),(4,(pP b3 0)),(15,(pP b1 1)),(16,(Value.string (Bm a))),(17,(Value.bool (decide (a<18446744073709551616)))),(18,(Value.bool (decide (a<18446744073709551616)))),(22,(Value.bool ((decide (a<18446744073709551616))&&(decide (b<18446744073709551616)))))]) (LM:=[Ag b3 42 (Ab 0),Ag b2 42 (Ab b),Ag b1 42 (Ab a)]) 4 ?_ ?_
 ·rcases Bool.eq_false_or_eq_true (decide (a<18446744073709551616)) with hg1|hg1
  ·skip
   refine AE.retell (k:=18) (u:=Value.bool true) O (by rw [hg1]) ?_
   have hg1':=hg1
   replace hg1':=of_decide_eq_true hg1'
   exact AE.step (v:=(pP b2 1)) (AB O) (AA O underlying42 O sizeOf9 O) O (AT O) (AE.step (v:=(Value.string (Bm b))) (AB O) (AK (i:=1) (v:=(Value.string (Bm b))) O O TQ.a O) O (AT O) (AE.step (v:=(Value.bool (decide (b<18446744073709551616)))) (AB O) (Bf (c:=(decide (b<18446744073709551616))) O O CY) O (AT O) (AH (v:=(Value.bool (decide (b<18446744073709551616)))) (Ac O O) O (AE.nil (AC.mid (sS O (sS O (sS O (sS O (sS O (sS O (sS (by first|rfl|(rw [hg1];rfl)|rw [hg1]) (sS (by first|rfl|(rw [hg1];rfl)|rw [hg1]) (sN))))))))) (List.Sublist.refl _))))))
  ·skip
   refine AE.retell (k:=18) (u:=Value.bool false) O (by rw [hg1]) ?_
   have hg1':=hg1
   replace hg1':=of_decide_eq_false hg1'
   exact AE.skip (AJ O) O (AT O) (AE.skip (AJ O) O (AT O) (AE.skip (AJ O) O (AT O) (AH (v:=(Value.bool false)) (AP O O) O (AE.nil (AC.mid (sS O (sS O (sS O (sS O (sS O (sS O (sS (by first|rfl|(rw [hg1];rfl)|rw [hg1]) (sS (by first|rfl|(rw [hg1];rfl)|rw [hg1]) (sN))))))))) (List.Sublist.refl _))))))
 refine AE.nil (AC.subF (sL [2,3,4,22] O) (AC.then_ ?_))
 refine AF.cond O (λhc0=>?_) (λhc0=>?_)
 ·simp only [Bool.and_eq_true,Bool.or_eq_true,Bool.and_eq_false_iff,Bool.or_eq_false_iff,Bool.not_eq_true',Bool.not_eq_false',decide_eq_true_eq,decide_eq_false_iff_not] at hc0
  refine q4 (AH (v:=(pP b1 0)) (AA O underlying42 O sizeOf40 O) O (BA 2 (vK .u64 (B8 a)) Gd O (AE.retell (k:=25) (u:=(vK .u64 a)) O (by rw [Bh hc0.1]) (AH (v:=(pP b2 0)) (AA O underlying42 O sizeOf40 O) O (BA 1 (vK .u64 (B8 b)) Gd O ?_)))))
  have hhi:a*b/18446744073709551616<18446744073709551616:=Nat.div_lt_of_lt_mul (Nat.mul_lt_mul'' hc0.1 hc0.2)
  refine AE.retell (k:=27) (u:=(vK .u64 b)) O (by rw [Bh hc0.2]) (ck' call109 (Ty a b Z Z) O (AM O (AH (Aa (v:=(vK .u64 (a*b/18446744073709551616))) O O) O (AH (Aa (v:=(vK .u64 (a*b%18446744073709551616))) O O) O (asg' O ?_)))))
  refine asg' O (q3 (sL [2,3,4,5,6] O) (AM O (AH (Ay (c:=(((a*b%18446744073709551616)%4294967296:Nat):Int)) O underlying40 underlying97 Ea) O (AM O (AH (C0 (s:=32) (c:=(((a*b%18446744073709551616)/4294967296:Nat):Int)) O O O (by decide) (GA (a:=a*b%18446744073709551616) (s:=32))) O ?_)))))
  refine AH (Ay (c:=(((a*b%18446744073709551616)/4294967296:Nat):Int)) O underlying40 underlying97 (CQ Z)) O (AM O (AH (Ay (c:=(((a*b/18446744073709551616)%4294967296:Nat):Int)) O underlying40 underlying97 Ea) O (AM O (AH (C0 (s:=32) (c:=(((a*b/18446744073709551616)/4294967296:Nat):Int)) O O O (by decide) (GA (a:=a*b/18446744073709551616) (s:=32))) O (AH (Ay (c:=(((a*b/18446744073709551616)/4294967296:Nat):Int)) O underlying40 underlying97 (CQ Z)) O ?_)))))
  refine AE.openV (V:=λb4=>(Value.slice (some ⟨b4,0,none⟩) 4 4)) (T:=97) (cs:=Au ([(a*b%18446744073709551616)%4294967296,(a*b%18446744073709551616)/4294967296,(a*b/18446744073709551616)%4294967296,(a*b/18446744073709551616)/4294967296])) (AS O) (Av (cs:=Au ([(a*b%18446744073709551616)%4294967296,(a*b%18446744073709551616)/4294967296,(a*b/18446744073709551616)%4294967296,(a*b/18446744073709551616)/4294967296])) (pv:=[(0,(vK .u32 ((a*b%18446744073709551616)%4294967296))),(1,(vK .u32 ((a*b%18446744073709551616)/4294967296))),(2,(vK .u32 ((a*b/18446744073709551616)%4294967296))),(3,(vK .u32 ((a*b/18446744073709551616)/4294967296)))]) underlying184 sizeOf97 zeroValue97 (by decide) (by decide) O (by kernel_rfl)) O (AT O) λb4=>Cj call110 (λw hw=>JM _ 4 4 ([(a*b%18446744073709551616)%4294967296,(a*b%18446744073709551616)/4294967296,(a*b/18446744073709551616)%4294967296,(a*b/18446744073709551616)/4294967296]) (W32.cons Z (W32.cons Z (W32.cons Z (W32.cons Z (W32.nil))))) (by first|omega|(rw [rowN_length];omega)|simp|(simp;omega)) (by first|omega|simp|(simp;omega)) (by first|omega|simp|(simp;omega)) w (hw.get (i:=0) O)) O (AE.retell (k:=42) (u:=(aG (Ab (a*b)))) O (by rw [show ∀x y z t:Nat,[x,y,z,t].take 4=[x,y,z,t] from λ_ _ _ _=>rfl,Zm Z hhi,show a*b%18446744073709551616+a*b/18446744073709551616*18446744073709551616=a*b by omega]) (Cm O sizeOf42 O (AE.nil (AC.subF (sL [2,3,4] O) ?_))))
  exact AC.then_ (AF.ret (AC.then_ret (AI O (Ap (i:=1) (cs:=Ab (a*b)) O O isAgg42 sizeOf42 O) (λw hw=>⟨rfl,hw.out⟩))))
 ·simp only [Bool.and_eq_true,Bool.or_eq_true,Bool.and_eq_false_iff,Bool.or_eq_false_iff,Bool.not_eq_true',Bool.not_eq_false',decide_eq_true_eq,decide_eq_false_iff_not] at hc0
  refine AF.skip (q1 (Cd [(0,true),(2,true),(1,false),(3,false),(4,true),(5,true)] sr (Da 2 B7 O (Da 1 B7 O (OkE.imp O ?_)))))
  refine AE.callB (V:=λb4=>(Value.slice (some ⟨b4,0,none⟩) (nw a) ((BC a).length))) (T:=97) (cs:=Au (BC a)) (AS O) (Ao (args:=[(aG (Ab a))]) O O call111) (λw hw=>DQ a Z w) O (AT O) λb4=>OkE.back (sl sr) (OkE.imp O (AE.callB (V:=λb5=>(Value.slice (some ⟨b5,0,none⟩) (nw b) ((BC b).length))) (T:=97) (cs:=Au (BC b)) (AS O) (Ao (args:=[(aG (Ab b))]) O O call111) (λw hw=>DQ b Z w) O (AT O) λb5=>OkE.back (sl (sl sr)) (pS' O ?_)))
  refine pS' O (OkE.nil (AC.subF (sL [2,3,4,7,8] O) (q2 (AM O (AH (v:=(vN (nw a))) (AG O underlying184) O ?_)))))
  refine AM O (AH (v:=(vN (nw b))) (AG O underlying184) O (AH (AW (c:=(((nw a)+(nw b):Nat):Int)) O O (AU (a:=nw a) (b:=nw b) Z)) O (AE.openV (V:=λb6=>(Value.slice (some ⟨b6,0,none⟩) ((nw a)+(nw b)) ((nw a)+(nw b)))) (T:=97) (cs:=Au (List.replicate ((nw a)+(nw b)) 0)) (AS O) (DT (m:=(nw a)+(nw b)) (c:=(nw a)+(nw b)) O O Z Z) O (AT O) λb6=>asg' O (q6 (sL [2,3,4,7,8,9] O) ?_))))
  refine q4 (AM O (AH (v:=(vN (nw a))) (AG O underlying184) O (AM O (AE.nil (AC.then_ ?_)))))
  refine AF.block ?_
  refine AF.lp2 (tg λ(i:Nat) (os:List Nat)=>i<=nw a/\os.length=nw a+nw b/\W32 os/\val os=val ((AR a).take i)*b) (tg λ(i:Nat) (os:List Nat)=>[(4,(pP b3 0)),(8,(Value.slice (some ⟨b5,0,none⟩) (nw b) ((BC b).length))),(9,(Value.slice (some ⟨b6,0,none⟩) ((nw a)+(nw b)) ((nw a)+(nw b)))),(53,(Value.slice (some ⟨b4,0,none⟩) (nw a) ((BC a).length))),(54,(vN (nw a))),(55,(vN i))]) (tg λ(i:Nat) (os:List Nat)=>[Ag b6 97 (Au os),Ag b5 97 (Au (BC b)),Ag b4 97 (Au (BC a)),Ag b3 42 (Ab 0),Ag b2 42 (Ab b),Ag b1 42 (Ab a)]) (tg λ(i:Nat) (os:List Nat)=>nw a-i) 0 (List.replicate (nw a+nw b) 0) (⟨Nat.zero_le _,by simp,W32.zeros _,by rw [EM];simp [val]⟩) (sF O) sr (λi os hJ=>?_)
  obtain ⟨hi,hl,hw32,hv⟩:=hJ
  refine q4 (AH (Ae (c:=(decide (i<(nw a)))) O O (CL (a:=i) (b:=nw a))) O (AE.nil (q1 ?_)))
  refine AF.cond O (λhc1=>?_) (λhc1=>?_)
  ·replace hc1:=of_decide_eq_true hc1
   refine AF.skip (q1 (AF.block (q4 (AM O (AH (v:=(pP b4 i)) (AL (j:=i) O O underlying184 sizeOf97 O Z (by simp)) O ?_)))))
   have hx1:(BC a).getD i 0<4294967296:=W32.getD (Cb a) i
   refine AH (AK (i:=2) (v:=(vK .u32 ((BC a).getD i 0))) O O isAgg97 (BK (xs:=BC a) (j:=i) Z)) O (AE.retell (k:=59) (u:=(vK .u32 ((AR a).getD i 0))) O (by rw [Dc hc1]) (asg' O (asg' O (q3 (sL [4,8,9,53,54,55,10,11] O) (asg' O ?_)))))
   refine AE.nil (q1 (q4 (AM O (AH (v:=(vN (nw b))) (AG O underlying184) O (AM O ?_)))))
   refine AE.nil (AC.then_ (AF.block ?_))
   refine AF.lp3 (tg λ(k:Nat) (xs:List Nat) (c:Nat)=>k<=nw b/\xs.length=nw a+nw b/\W32 xs/\c<4294967296/\(∀j,i+nw b<=j->xs.getD j 0=0)/\val xs+c*4294967296^(i+k)=val ((AR a).take i)*b+(AR a).getD i 0*val ((AR b).take k)*4294967296^i) (tg λ(k:Nat) (xs:List Nat) (c:Nat)=>[(4,(pP b3 0)),(8,(Value.slice (some ⟨b5,0,none⟩) (nw b) ((BC b).length))),(9,(Value.slice (some ⟨b6,0,none⟩) ((nw a)+(nw b)) ((nw a)+(nw b)))),(53,(Value.slice (some ⟨b4,0,none⟩) (nw a) ((BC a).length))),(54,(vN (nw a))),(55,(vN i)),(10,(vN i)),(11,(vK .u32 ((AR a).getD i 0))),(60,(Value.slice (some ⟨b5,0,none⟩) (nw b) ((BC b).length))),(61,(vN (nw b))),(62,(vN k)),(12,(vK .u64 c))]) (tg λ(k:Nat) (xs:List Nat) (c:Nat)=>[Ag b6 97 (Au xs),Ag b5 97 (Au (BC b)),Ag b4 97 (Au (BC a)),Ag b3 42 (Ab 0),Ag b2 42 (Ab b),Ag b1 42 (Ab a)]) (tg λ(k:Nat) (xs:List Nat) (c:Nat)=>nw b-k) 0 os 0 (⟨Nat.zero_le _,hl,hw32,Z,Pj hv,by rw [hv];simp [val]⟩) (sF O) sr (λk xs c hJ=>?_)
   obtain ⟨hk,hl2,hw2,hcc,h02,hv2⟩:=hJ
   refine q4 (AH (Ae (c:=(decide (k<(nw b)))) O O (CL (a:=k) (b:=nw b))) O (AE.nil (q1 ?_)))
   refine AF.cond O (λhc2=>?_) (λhc2=>?_)
   ·replace hc2:=of_decide_eq_true hc2
    refine AF.skip (q1 (AF.block (q4 (AM O (AH (v:=(pP b5 k)) (AL (j:=k) O O underlying184 sizeOf97 O Z (by simp)) O ?_)))))
    have hx2:(BC b).getD k 0<4294967296:=W32.getD (Cb b) k
    refine AH (AK (i:=1) (v:=(vK .u32 ((BC b).getD k 0))) O O isAgg97 (BK (xs:=BC b) (j:=k) Z)) O (AE.retell (k:=66) (u:=(vK .u32 ((AR b).getD k 0))) O (by rw [Dc hc2]) (asg' O (asg' O (q3 (sL [4,8,9,53,54,55,10,11,60,61,62,12,13,14] O) (AM O ?_)))))
    refine AM O ?_
    have hwa:=(Bu a).getD i
    have hwb:=(Bu b).getD k
    have hml:=Lb hwa hwb
    refine AH (Ay (c:=(((AR a).getD i 0:Nat):Int)) O underlying97 underlying40 (BR Z)) O (AM O (AH (Ay (c:=(((AR b).getD k 0:Nat):Int)) O underlying97 underlying40 (BR Z)) O (AH (Br (c:=((((AR a).getD i 0)*((AR b).getD k 0):Nat):Int)) O O (FA (a:=(AR a).getD i 0) (b:=(AR b).getD k 0) Z)) O (AM O (AM O ?_)))))
    refine AM O (AH (AW (c:=((i+k:Nat):Int)) O O (AU (a:=i) (b:=k) Z)) O (AH (v:=(pP b6 (i+k))) (AL (j:=i+k) O O underlying184 sizeOf97 O Z (by simp)) O ?_))
    have hx3:xs.getD (i+k) 0<4294967296:=W32.getD hw2 (i+k)
    refine AH (AK (i:=0) (v:=(vK .u32 (xs.getD (i+k) 0))) O O isAgg97 (BK (xs:=xs) (j:=(i+k)) Z)) O (AH (Ay (c:=((xs.getD (i+k) 0:Nat):Int)) O underlying97 underlying40 (BR Z)) O (AH (AW (c:=(((((AR a).getD i 0)*((AR b).getD k 0))+(xs.getD (i+k) 0):Nat):Int)) O O (Dd (a:=((AR a).getD i 0)*((AR b).getD k 0)) (b:=xs.getD (i+k) 0) Z)) O (AH (AW (c:=((c+((((AR a).getD i 0)*((AR b).getD k 0))+(xs.getD (i+k) 0)):Nat):Int)) O O (Dd (a:=c) (b:=(((AR a).getD i 0)*((AR b).getD k 0))+(xs.getD (i+k) 0)) Z)) O (asg' O (q3 (sL [4,8,9,53,54,55,10,11,60,61,62,12,13] O) ?_)))))
    refine AM O (AM O (AM O (AH (AW (c:=((i+k:Nat):Int)) O O (AU (a:=i) (b:=k) Z)) O (AM O (AH (Ay (c:=(((c+((((AR a).getD i 0)*((AR b).getD k 0))+(xs.getD (i+k) 0)))%4294967296:Nat):Int)) O underlying40 underlying97 Ea) O ?_)))))
    refine AH (v:=(pP b6 (i+k))) (AL (j:=i+k) O O underlying184 sizeOf97 O Z (by simp)) O (AE.store' (i:=0) (off:=(i+k)) (vs:=[(vK .u32 ((c+((((AR a).getD i 0)*((AR b).getD k 0))+(xs.getD (i+k) 0)))%4294967296))]) (cs':=Au (xs.set (i+k) ((c+((((AR a).getD i 0)*((AR b).getD k 0))+(xs.getD (i+k) 0)))%4294967296))) (L':=[Ag b6 97 (Au (xs.set (i+k) ((c+((((AR a).getD i 0)*((AR b).getD k 0))+(xs.getD (i+k) 0)))%4294967296))),Ag b5 97 (Au (BC b)),Ag b4 97 (Au (BC a)),Ag b3 42 (Ab 0),Ag b2 42 (Ab b),Ag b1 42 (Ab a)]) (AS O) O O O O O sizeOf97 O (Cq (BS _) Z) (CN Z) O (AE.nil (AC.subF (sL [4,8,9,53,54,55,10,11,60,61,62,12,13] O) (AC.then_ (AF.region ?_)))))
    refine AM O (AH (C0 (s:=32) (c:=(((c+((((AR a).getD i 0)*((AR b).getD k 0))+(xs.getD (i+k) 0)))/4294967296:Nat):Int)) O O O (by decide) (GA (a:=c+((((AR a).getD i 0)*((AR b).getD k 0))+(xs.getD (i+k) 0))) (s:=32))) O (asg' O (AE.nil (AC.subF (sL [4,8,9,53,54,55,10,11,60,61,62,12,13] O) (AC.in_normal ?_)))))
    exact AC.then_ (AF.region (AH (AW (c:=((k+1:Nat):Int)) O O (AU (a:=k) (b:=1) Z)) O (AM O (AE.nil (AC.subF (sL [4,8,9,53,54,55,10,11,60,61,62,12,13] O) (AC.round3 (k+1) (xs.set (i+k) ((c+((AR a).getD i 0*(AR b).getD k 0+xs.getD (i+k) 0))%4294967296)) ((c+((AR a).getD i 0*(AR b).getD k 0+xs.getD (i+k) 0))/4294967296) (⟨Z,by rw [List.length_set];exact hl2,W32.set hw2 Z _,Z,Fm h02 Z,WY hl2 Z hv2⟩) Z (sF O) sr))))))
   ·replace hc2:=of_decide_eq_false hc2
    have hkn:k=nw b:=by omega
    have hbb:val ((AR b).take k)=b:=DS Z
    rw [hbb] at hv2
    refine AF.exit (AC.then_exit (AC.round3_exit (AC.in_exit (AC.then_ (AF.region ?_)))))
    refine AM O (AM O (AM O (AH (v:=(vN (nw b))) (AG O underlying184) O (AH (AW (c:=((i+(nw b):Nat):Int)) O O (AU (a:=i) (b:=nw b) Z)) O (AM O ?_)))))
    refine AH (Ay (c:=((c:Nat):Int)) O underlying40 underlying97 (CQ Z)) O (AH (v:=(pP b6 (i+(nw b)))) (AL (j:=i+(nw b)) O O underlying184 sizeOf97 O Z (by simp)) O (AE.store' (i:=0) (off:=(i+(nw b))) (vs:=[(vK .u32 c)]) (cs':=Au (xs.set (i+(nw b)) c)) (L':=[Ag b6 97 (Au (xs.set (i+(nw b)) c)),Ag b5 97 (Au (BC b)),Ag b4 97 (Au (BC a)),Ag b3 42 (Ab 0),Ag b2 42 (Ab b),Ag b1 42 (Ab a)]) (AS O) O O O O O sizeOf97 O (Cq (BS _) Z) (CN Z) O (AE.nil (AC.subF (sL [4,8,9,53,54,55,10,11,60,61,62,12] O) (AC.in_normal ?_)))))
    exact AC.then_ (AF.region (AH (AW (c:=((i+1:Nat):Int)) O O (AU (a:=i) (b:=1) Z)) O (AM O (AE.nil (AC.subF (sL [4,8,9,53,54,55,10,11,60,61,62,12] O) (AC.round2 (i+1) (xs.set (i+nw b) c) (⟨Z,by rw [List.length_set];exact hl2,W32.set hw2 hcc _,by rw [Hz hl2 Z (h02 _ (Nat.le_refl _)),<-W2,<-hv2,<-hkn]⟩) Z (sF O) sr))))))
  ·replace hc1:=of_decide_eq_false hc1
   refine AF.exit (AC.then_exit (AC.round2_exit (AC.in_exit (q2 (AM O ?_)))))
   refine Cj call110 (λw hw=>JM _ ((nw a)+(nw b)) ((nw a)+(nw b)) os hw32 (by first|omega|(rw [rowN_length];omega)|simp|(simp;omega)) (by first|omega|simp|(simp;omega)) (by first|omega|simp|(simp;omega)) w (hw.get (i:=0) O)) O (AE.retell (k:=102) (u:=(aG (Ab (a*b)))) O (by rw [List.take_of_length_le (show os.length<=nw a+nw b by omega),hv,DS Z]) (JP O sizeOf42 O (AE.nil (AC.subF (sL [4,8,9,53,54,55] O) (AC.then_ ?_)))))
   exact AF.ret (AI O (Ap (i:=3) (cs:=Ab (a*b)) O O isAgg42 sizeOf42 O) (λw hw=>⟨rfl,hw.out⟩))
end
end Go.Proofs.YtpgncndhhhllfaaGreatDoor
