import Derived.Test.YtpgncndhhhllfaaGreatDoorPart06
import Derived.Test.YtpgncndhhhllfaaGreatDoorPart12
namespace Go.Proofs.YtpgncndhhhllfaaGreatDoor
open Go Go.RowKit Go.Proofs.Tryz
set_option linter.unusedVariables false
set_option linter.unusedSimpArgs false
section
set_option maxRecDepth 100000
theorem J0  :Instr.fill ([(0,1),(1,1)].toArray[·]?) (Aa 0).toArray []=some (Aa 0).toArray:=by kernel_rfl
theorem V2 (a b:Nat) (ha:nw a<=1099511627776) (hb:nw b<=1099511627776) (w:World)  :Calls Tryz.prog 103 #[(aG (Aa a)),(aG (Aa b))] w (An w (Value.tuple #[(aG (Aa (a-b))),(Value.bool (decide (b<=a)))])):=by
 have hla:=B5 a
 have hlb:=B5 b
 have hpa:=Ug a
 refine Ag (args:=[(aG (Aa a)),(aG (Aa b))]) Tryz.func103 rfl rfl (AY rfl) (AF.subF (sL [0,1] rfl) (q4 (B9 (cs:=Aa a) rfl λb1=>B9 (cs:=Aa b) rfl λb2=>al F3 rfl λb3=>?_)))
 refine asg' rfl (q6 (sL [2,3,4,5] rfl) (q4 (BF 2 CT rfl (BF 1 CT rfl (ck' Tryz.call168 (TU a b (by omega) (by omega)) rfl ?_)))))
 refine AH (Ad (c:=(decide ((Cy a b)<(0:Int)))) rfl rfl rfl) rfl (AD.nil (AC.subF (sL [2,3,4,5,14] rfl) (AC.then_ ?_)))
 refine AF.cond rfl (λhc0=>?_) (λhc0=>?_)
 ·replace hc0:=of_decide_eq_true hc0
  rw [GB] at hc0
  refine q4 (AH (v:=(aG (Aa 0))) (AU (zs:=Aa 0) (vs:=Aa 0) (pv:=[]) (places:=[(0,1),(1,1)]) Tryz.zeroValue42 Tryz.underlying42 (λw=>by simp [Tryz.sizeOf9,Tryz.sizeOf40]) rfl (J0 )) rfl (AD.retell (k:=15) (u:=(aG (Aa (a-b)))) rfl (by rw [show a-b=0 by omega]) (BC rfl Tryz.sizeOf42 rfl (asg' rfl (AD.nil ?_)))))
  exact AC.subF (sL [2,3,4,5] rfl) (AC.then_ (AF.ret (AC.then_ret (Br rfl (BB (i:=0) (cs:=Aa (a-b)) rfl rfl Tryz.isAgg42 Tryz.sizeOf42 rfl) (AQ (v:=(Value.bool false)) rfl) (λw hw=>⟨by rw [decide_eq_false (show ¬b<=a by omega)],hw.out⟩)))))
 ·replace hc0:=of_decide_eq_false hc0
  rw [GB] at hc0
  have hnb:nw b<=nw a:=Ca (by omega)
  refine AF.skip (q1 (q4 (AH (v:=(pP b1 1)) (AA rfl Tryz.underlying42 rfl Tryz.sizeOf9 rfl) rfl (BD 2 (Value.string (BW a)) RJ rfl (AH (Ba (c:=(decide (a<18446744073709551616))) rfl rfl CI) rfl ?_)))))
  refine AD.nil (AC.subF (sL [2,3,4,5,18] rfl) (AC.then_ ?_))
  refine AF.cond rfl (λhc1=>?_) (λhc1=>?_)
  ·replace hc1:=of_decide_eq_true hc1
   refine q4 (AH (v:=(pP b1 0)) (AA rfl Tryz.underlying42 rfl Tryz.sizeOf40 rfl) rfl (BD 2 (vK .u64 (Bq a)) F1 rfl (AD.retell (k:=20) (u:=(vK .u64 a)) rfl (by rw [BU hc1]) (AH (v:=(pP b2 0)) (AA rfl Tryz.underlying42 rfl Tryz.sizeOf40 rfl) rfl (BD 1 (vK .u64 (Bq b)) F1 rfl ?_)))))
   refine AD.retell (k:=22) (u:=(vK .u64 b)) rfl (by rw [BU (by omega)]) (AH (BL (c:=((a-b:Nat):Int)) rfl rfl (HM (a:=a) (b:=b) (by omega) (by omega))) rfl (AH (v:=(aG ([(vK .u64 (a-b)),(Value.string (BW 0))]))) (AU (zs:=Aa 0) (vs:=[(vK .u64 (a-b)),(Value.string (BW 0))]) (pv:=[(0,(vK .u64 (a-b)))]) (places:=[(0,1),(1,1)]) Tryz.zeroValue42 Tryz.underlying42 (λw=>by simp [Tryz.sizeOf9,Tryz.sizeOf40]) rfl rfl) rfl (AD.retell (k:=24) (u:=(aG (Aa (a-b)))) rfl (by rw [DB (by omega)];rfl) (BC rfl Tryz.sizeOf42 rfl (asg' rfl ?_)))))
   exact AD.nil (AC.subF (sL [2,3,4,5] rfl) (AC.then_ (AF.ret (AC.then_ret (Br rfl (BB (i:=0) (cs:=Aa (a-b)) rfl rfl Tryz.isAgg42 Tryz.sizeOf42 rfl) (AQ (v:=(Value.bool true)) rfl) (λw hw=>⟨by rw [decide_eq_true (show b<=a by omega)],hw.out⟩))))))
  ·replace hc1:=of_decide_eq_false hc1
   have hpad:Ao a=AM a:=if_neg hc1
   refine AF.skip (q1 (Cw [(0,true),(2,true),(1,false),(3,false),(4,true),(5,true)] sr (GO 2 CT rfl (GO 1 CT rfl (OkE.imp rfl ?_)))))
   refine AD.callB (V:=λb4=>(Value.slice (some ⟨b4,0,none⟩) (nw a) ((Ao a).length))) (T:=97) (cs:=Aj (Ao a)) (AO rfl) (Ay (args:=[(aG (Aa a))]) rfl rfl Tryz.call111) (λw hw=>Cn a (by omega) w) rfl (AY rfl) λb4=>OkE.back (sl sr) (OkE.imp rfl (AD.callB (V:=λb5=>(Value.slice (some ⟨b5,0,none⟩) (nw b) ((Ao b).length))) (T:=97) (cs:=Aj (Ao b)) (AO rfl) (Ay (args:=[(aG (Aa b))]) rfl rfl Tryz.call111) (λw hw=>Cn b (by omega) w) rfl (AY rfl) λb5=>OkE.back (sl (sl sr)) (pS' rfl ?_)))
   refine pS' rfl (OkE.nil (AC.subF (sL [2,3,4,5,6,7] rfl) (q2 (asg' rfl (AD.nil ?_)))))
   refine q1 (q4 (AJ rfl (AH (v:=(vN (nw a))) (AE rfl Tryz.underlying184) rfl (AJ rfl (AD.nil ?_)))))
   refine AC.subF (sL [2,3,4,5,6,7,8,30,31] rfl) (AC.then_ (AF.block ?_))
   refine AF.lp3 (tg λ(i:Nat) (os:List Nat) (c:Nat)=>i<=nw a/\os.length=nw a/\W32 os/\c<=1/\val os+val ((AM b).take i)=a+c*4294967296^i) (tg λ(i:Nat) (os:List Nat) (c:Nat)=>[(4,(pP b3 0)),(5,(Value.bool false)),(6,(Value.slice (some ⟨b4,0,none⟩) (nw a) ((Ao a).length))),(7,(Value.slice (some ⟨b5,0,none⟩) (nw b) ((Ao b).length))),(30,(vN (nw a))),(31,(vN i)),(8,(vK .u32 c))]) (tg λ(i:Nat) (os:List Nat) (c:Nat)=>[Ab b5 97 (Aj (Ao b)),Ab b4 97 (Aj os),Ab b3 42 (Aa 0),Ab b2 42 (Aa b),Ab b1 42 (Aa a)]) (tg λ(i:Nat) (os:List Nat) (c:Nat)=>nw a-i) 0 (Ao a) 0 (⟨Nat.zero_le _,by rw [hpad];rfl,B6 a,by omega,by rw [On];simp [val]⟩) (sF rfl) sr (λi os c hJ=>?_)
   obtain ⟨hi,hl,hw32,hcc,hv⟩:=hJ
   refine q4 (AH (Ad (c:=(decide (i<(nw a)))) rfl rfl (CB (a:=i) (b:=nw a))) rfl (AD.nil (q1 ?_)))
   refine AF.cond rfl (λhc2=>?_) (λhc2=>?_)
   ·replace hc2:=of_decide_eq_true hc2
    refine AF.skip (q1 (AF.block (q4 (AJ rfl (asg' rfl ?_)))))
    refine q3 (sL [4,5,6,7,30,31,8,9] rfl) (asg' rfl (AD.nil (q1 (q4 (AJ rfl ?_)))))
    refine AJ rfl (AH (v:=(vN (nw b))) (AE rfl Tryz.underlying184) rfl (AH (Ad (c:=(decide (i<(nw b)))) rfl rfl (CB (a:=i) (b:=nw b))) rfl (AD.nil (AC.subF (sL [4,5,6,7,30,31,8,9,10,37] rfl) (AC.then_ ?_)))))
    refine AF.jn0 (tg True) (tg [(4,(pP b3 0)),(5,(Value.bool false)),(6,(Value.slice (some ⟨b4,0,none⟩) (nw a) ((Ao a).length))),(7,(Value.slice (some ⟨b5,0,none⟩) (nw b) ((Ao b).length))),(30,(vN (nw a))),(31,(vN i)),(8,(vK .u32 c)),(9,(vN i)),(10,(vK .u32 ((AM b).getD i 0)))]) (tg [Ab b5 97 (Aj (Ao b)),Ab b4 97 (Aj os),Ab b3 42 (Aa 0),Ab b2 42 (Aa b),Ab b1 42 (Aa a)]) ?_ ?_
    ·skip
     refine AF.cond rfl (λhc3=>?_) (λhc3=>?_)
     ·replace hc3:=of_decide_eq_true hc3
      refine AF.region (AJ rfl (AJ rfl (AH (v:=(pP b5 i)) (AK (j:=i) rfl rfl Tryz.underlying184 Tryz.sizeOf97 rfl (by omega) (by simp)) rfl ?_)))
      have hx1:(Ao b).getD i 0<4294967296:=W32.getD (B6 b) i
      exact AH (AP (i:=0) (v:=(vK .u32 ((Ao b).getD i 0))) rfl rfl Tryz.isAgg97 (BA (xs:=Ao b) (j:=i) (by omega))) rfl (AD.retell (k:=41) (u:=(vK .u32 ((AM b).getD i 0))) rfl (by rw [C4 hc3]) (asg' rfl (AD.nil (AC.subF (sL [4,5,6,7,30,31,8,9,10] rfl) (AC.join0  (trivial) (sF rfl) sr)))))
     ·replace hc3:=of_decide_eq_false hc3
      exact AF.skip (AC.retell (k:=10) (u:=Value.int .u32 (((AM b).getD i 0:Nat):Int)) rfl (by rw [Dr hc3];rfl) (AC.join0  (trivial) (sF rfl) sr))
    ·intro hJ
     refine AC.then_ (AF.region (AJ rfl (AJ rfl (AJ rfl (AJ rfl ?_)))))
     refine AH (v:=(pP b4 i)) (AK (j:=i) rfl rfl Tryz.underlying184 Tryz.sizeOf97 rfl (by omega) (by simp)) rfl ?_
     have hx2:os.getD i 0<4294967296:=W32.getD hw32 i
     refine AH (AP (i:=1) (v:=(vK .u32 (os.getD i 0))) rfl rfl Tryz.isAgg97 (BA (xs:=os) (j:=i) (by omega))) rfl (AJ rfl (AJ rfl ?_))
     have hyb:=(Bc b).getD i
     refine ck' Tryz.call170 (I4 (os.getD i 0) ((AM b).getD i 0) c _ (by omega) (by omega) (by omega) rfl) rfl (AJ rfl (AH (AS (v:=(vK .u32 (((os.getD i 0)+(4294967296-((AM b).getD i 0))+(4294967296-c))%4294967296))) rfl rfl) rfl (AH (AS (v:=(vK .u32 (H1 (os.getD i 0) (((AM b).getD i 0)+c)))) rfl rfl) rfl (AH (v:=(pP b4 i)) (AK (j:=i) rfl rfl Tryz.underlying184 Tryz.sizeOf97 rfl (by omega) (by simp)) rfl (AD.store' (i:=1) (off:=i) (vs:=[(vK .u32 (((os.getD i 0)+(4294967296-((AM b).getD i 0))+(4294967296-c))%4294967296))]) (cs':=Aj (os.set i (((os.getD i 0)+(4294967296-((AM b).getD i 0))+(4294967296-c))%4294967296))) (L':=[Ab b5 97 (Aj (Ao b)),Ab b4 97 (Aj (os.set i (((os.getD i 0)+(4294967296-((AM b).getD i 0))+(4294967296-c))%4294967296))),Ab b3 42 (Aa 0),Ab b2 42 (Aa b),Ab b1 42 (Aa a)]) (AO rfl) rfl rfl rfl rfl rfl Tryz.sizeOf97 rfl (CP (BG _) (by omega)) (Bx (by omega)) rfl ?_)))))
     refine asg' rfl (AD.nil (AC.subF (sL [4,5,6,7,30,31,8,9,10] rfl) (AC.in_normal (AC.then_ (AF.region ?_)))))
     exact AH (AW (c:=((i+1:Nat):Int)) rfl rfl (AR (a:=i) (b:=1) (by omega))) rfl (AJ rfl (AD.nil (AC.subF (sL [4,5,6,7,30,31,8,9,10] rfl) (AC.round3 (i+1) (os.set i ((os.getD i 0+(4294967296-(AM b).getD i 0)+(4294967296-c))%4294967296)) (H1 (os.getD i 0) ((AM b).getD i 0+c)) (⟨by omega,by rw [List.length_set];exact hl,W32.set hw32 (by omega) i,N3 _ _,Sc hl hc2 hw32 (Bc b) hcc hv⟩) (by omega) (sF rfl) sr))))
   ·replace hc2:=of_decide_eq_false hc2
    refine AF.exit (AC.then_exit (AC.round3_exit (AC.in_exit (q2 (AJ rfl ?_)))))
    refine DC Tryz.call110 (λw hw=>H0 _ (nw a) ((Ao a).length) os hw32 (by first|omega|(rw [rowN_length];omega)|simp|(simp;omega)) (by first|omega|simp|(simp;omega)) (by first|omega|simp|(simp;omega)) w (hw.get (i:=1) rfl)) rfl (AD.retell (k:=57) (u:=(aG (Aa (a-b)))) rfl (by rw [List.take_of_length_le (show os.length<=nw a by omega),To (X:=a) (Y:=b) (n:=nw a) (c:=c) (i:=i) hl hw32 (by omega) (by omega) (by rw [<-hv,Cv (by omega)]) (Bb a)]) (Ks rfl Tryz.sizeOf42 rfl (asg' rfl (AD.nil (AC.subF (sL [4,5,6,7,30,31,8] rfl) ?_)))))
    exact AC.then_ (AF.ret (Br rfl (BB (i:=2) (cs:=Aa (a-b)) rfl rfl Tryz.isAgg42 Tryz.sizeOf42 rfl) (AQ (v:=(Value.bool true)) rfl) (λw hw=>⟨by rw [decide_eq_true (show b<=a by omega)],hw.out⟩)))
theorem RT (a b:Nat) (ha:nw a<=1099511627776) (hb:nw b<=1099511627776) (w:World)  :Calls Tryz.prog 60 #[(aG (Aa a)),(aG (Aa b))] w (An w (aG (Aa (a*b)))):=by
 have hla:=B5 a
 have hlb:=B5 b
 refine Ag (args:=[(aG (Aa a)),(aG (Aa b))]) Tryz.func60 rfl rfl (AY rfl) (AF.subF (sL [0,1] rfl) (q4 (B9 (cs:=Aa a) rfl λb1=>B9 (cs:=Aa b) rfl λb2=>al F3 rfl λb3=>?_)))
 refine q6 (sL [2,3,4] rfl) (q4 (AH (v:=(pP b1 1)) (AA rfl Tryz.underlying42 rfl Tryz.sizeOf9 rfl) rfl (BD 2 (Value.string (BW a)) RJ rfl (AH (Ba (c:=(decide (a<18446744073709551616))) rfl rfl CI) rfl (AJ rfl ?_)))))
 refine AD.mid (FM:=[(2,(pP b1 0)),(3,(pP b2 0)),(4,(pP b3 0)),(15,(pP b1 1)),(16,(Value.string (BW a))),(17,(Value.bool (decide (a<18446744073709551616)))),(18,(Value.bool (decide (a<18446744073709551616)))),(22,(Value.bool ((decide (a<18446744073709551616))&&(decide (b<18446744073709551616)))))]) (LM:=[Ab b3 42 (Aa 0),Ab b2 42 (Aa b),Ab b1 42 (Aa a)]) 4 ?_ ?_
 ·rcases Bool.eq_false_or_eq_true (decide (a<18446744073709551616)) with hg1|hg1
  ·skip
   refine AD.retell (k:=18) (u:=Value.bool true) rfl (by rw [hg1]) ?_
   have hg1':=hg1
   replace hg1':=of_decide_eq_true hg1'
   exact AD.step (v:=(pP b2 1)) (AB rfl) (AA rfl Tryz.underlying42 rfl Tryz.sizeOf9 rfl) rfl (AY rfl) (AD.step (v:=(Value.string (BW b))) (AB rfl) (AP (i:=1) (v:=(Value.string (BW b))) rfl rfl RJ.a rfl) rfl (AY rfl) (AD.step (v:=(Value.bool (decide (b<18446744073709551616)))) (AB rfl) (Ba (c:=(decide (b<18446744073709551616))) rfl rfl CI) rfl (AY rfl) (AH (v:=(Value.bool (decide (b<18446744073709551616)))) (AT rfl rfl) rfl (AD.nil (AC.mid (sS rfl (sS rfl (sS rfl (sS rfl (sS rfl (sS rfl (sS (by first|rfl|(rw [hg1];rfl)|rw [hg1]) (sS (by first|rfl|(rw [hg1];rfl)|rw [hg1]) (sN))))))))) (List.Sublist.refl _))))))
  ·skip
   refine AD.retell (k:=18) (u:=Value.bool false) rfl (by rw [hg1]) ?_
   have hg1':=hg1
   replace hg1':=of_decide_eq_false hg1'
   exact AD.skip (AG rfl) rfl (AY rfl) (AD.skip (AG rfl) rfl (AY rfl) (AD.skip (AG rfl) rfl (AY rfl) (AH (v:=(Value.bool false)) (AV rfl rfl) rfl (AD.nil (AC.mid (sS rfl (sS rfl (sS rfl (sS rfl (sS rfl (sS rfl (sS (by first|rfl|(rw [hg1];rfl)|rw [hg1]) (sS (by first|rfl|(rw [hg1];rfl)|rw [hg1]) (sN))))))))) (List.Sublist.refl _))))))
 refine AD.nil (AC.subF (sL [2,3,4,22] rfl) (AC.then_ ?_))
 refine AF.cond rfl (λhc0=>?_) (λhc0=>?_)
 ·simp only [Bool.and_eq_true,Bool.or_eq_true,Bool.and_eq_false_iff,Bool.or_eq_false_iff,Bool.not_eq_true',Bool.not_eq_false',decide_eq_true_eq,decide_eq_false_iff_not] at hc0
  refine q4 (AH (v:=(pP b1 0)) (AA rfl Tryz.underlying42 rfl Tryz.sizeOf40 rfl) rfl (BD 2 (vK .u64 (Bq a)) F1 rfl (AD.retell (k:=25) (u:=(vK .u64 a)) rfl (by rw [BU hc0.1]) (AH (v:=(pP b2 0)) (AA rfl Tryz.underlying42 rfl Tryz.sizeOf40 rfl) rfl (BD 1 (vK .u64 (Bq b)) F1 rfl ?_)))))
  have hhi:a*b/18446744073709551616<18446744073709551616:=Nat.div_lt_of_lt_mul (Nat.mul_lt_mul'' hc0.1 hc0.2)
  refine AD.retell (k:=27) (u:=(vK .u64 b)) rfl (by rw [BU hc0.2]) (ck' Tryz.call109 (S3 a b (by omega) (by omega)) rfl (AJ rfl (AH (AS (v:=(vK .u64 (a*b/18446744073709551616))) rfl rfl) rfl (AH (AS (v:=(vK .u64 (a*b%18446744073709551616))) rfl rfl) rfl (asg' rfl ?_)))))
  refine asg' rfl (q3 (sL [2,3,4,5,6] rfl) (AJ rfl (AH (Au (c:=(((a*b%18446744073709551616)%4294967296:Nat):Int)) rfl Tryz.underlying40 Tryz.underlying97 Dn) rfl (AJ rfl (AH (CZ (s:=32) (c:=(((a*b%18446744073709551616)/4294967296:Nat):Int)) rfl rfl rfl (by decide) (Fa (a:=a*b%18446744073709551616) (s:=32))) rfl ?_)))))
  refine AH (Au (c:=(((a*b%18446744073709551616)/4294967296:Nat):Int)) rfl Tryz.underlying40 Tryz.underlying97 (CQ (by omega))) rfl (AJ rfl (AH (Au (c:=(((a*b/18446744073709551616)%4294967296:Nat):Int)) rfl Tryz.underlying40 Tryz.underlying97 Dn) rfl (AJ rfl (AH (CZ (s:=32) (c:=(((a*b/18446744073709551616)/4294967296:Nat):Int)) rfl rfl rfl (by decide) (Fa (a:=a*b/18446744073709551616) (s:=32))) rfl (AH (Au (c:=(((a*b/18446744073709551616)/4294967296:Nat):Int)) rfl Tryz.underlying40 Tryz.underlying97 (CQ (by omega))) rfl ?_)))))
  refine AD.openV (V:=λb4=>(Value.slice (some ⟨b4,0,none⟩) 4 4)) (T:=97) (cs:=Aj ([(a*b%18446744073709551616)%4294967296,(a*b%18446744073709551616)/4294967296,(a*b/18446744073709551616)%4294967296,(a*b/18446744073709551616)/4294967296])) (AO rfl) (Am (cs:=Aj ([(a*b%18446744073709551616)%4294967296,(a*b%18446744073709551616)/4294967296,(a*b/18446744073709551616)%4294967296,(a*b/18446744073709551616)/4294967296])) (pv:=[(0,(vK .u32 ((a*b%18446744073709551616)%4294967296))),(1,(vK .u32 ((a*b%18446744073709551616)/4294967296))),(2,(vK .u32 ((a*b/18446744073709551616)%4294967296))),(3,(vK .u32 ((a*b/18446744073709551616)/4294967296)))]) Tryz.underlying184 Tryz.sizeOf97 Tryz.zeroValue97 (by decide) (by decide) rfl (by kernel_rfl)) rfl (AY rfl) λb4=>DC Tryz.call110 (λw hw=>H0 _ 4 4 ([(a*b%18446744073709551616)%4294967296,(a*b%18446744073709551616)/4294967296,(a*b/18446744073709551616)%4294967296,(a*b/18446744073709551616)/4294967296]) (W32.cons (by omega) (W32.cons (by omega) (W32.cons (by omega) (W32.cons (by omega) (W32.nil))))) (by first|omega|(rw [rowN_length];omega)|simp|(simp;omega)) (by first|omega|simp|(simp;omega)) (by first|omega|simp|(simp;omega)) w (hw.get (i:=0) rfl)) rfl (AD.retell (k:=42) (u:=(aG (Aa (a*b)))) rfl (by rw [show ∀x y z t:Nat,[x,y,z,t].take 4=[x,y,z,t] from λ_ _ _ _=>rfl,W8 (by omega) hhi,show a*b%18446744073709551616+a*b/18446744073709551616*18446744073709551616=a*b by omega]) (Ej rfl Tryz.sizeOf42 rfl (AD.nil (AC.subF (sL [2,3,4] rfl) ?_))))
  exact AC.then_ (AF.ret (AC.then_ret (AN rfl (BB (i:=1) (cs:=Aa (a*b)) rfl rfl Tryz.isAgg42 Tryz.sizeOf42 rfl) (λw hw=>⟨rfl,hw.out⟩))))
 ·simp only [Bool.and_eq_true,Bool.or_eq_true,Bool.and_eq_false_iff,Bool.or_eq_false_iff,Bool.not_eq_true',Bool.not_eq_false',decide_eq_true_eq,decide_eq_false_iff_not] at hc0
  refine AF.skip (q1 (Cw [(0,true),(2,true),(1,false),(3,false),(4,true),(5,true)] sr (GO 2 CT rfl (GO 1 CT rfl (OkE.imp rfl ?_)))))
  refine AD.callB (V:=λb4=>(Value.slice (some ⟨b4,0,none⟩) (nw a) ((Ao a).length))) (T:=97) (cs:=Aj (Ao a)) (AO rfl) (Ay (args:=[(aG (Aa a))]) rfl rfl Tryz.call111) (λw hw=>Cn a (by omega) w) rfl (AY rfl) λb4=>OkE.back (sl sr) (OkE.imp rfl (AD.callB (V:=λb5=>(Value.slice (some ⟨b5,0,none⟩) (nw b) ((Ao b).length))) (T:=97) (cs:=Aj (Ao b)) (AO rfl) (Ay (args:=[(aG (Aa b))]) rfl rfl Tryz.call111) (λw hw=>Cn b (by omega) w) rfl (AY rfl) λb5=>OkE.back (sl (sl sr)) (pS' rfl ?_)))
  refine pS' rfl (OkE.nil (AC.subF (sL [2,3,4,7,8] rfl) (q2 (AJ rfl (AH (v:=(vN (nw a))) (AE rfl Tryz.underlying184) rfl ?_)))))
  refine AJ rfl (AH (v:=(vN (nw b))) (AE rfl Tryz.underlying184) rfl (AH (AW (c:=(((nw a)+(nw b):Nat):Int)) rfl rfl (AR (a:=nw a) (b:=nw b) (by omega))) rfl (AD.openV (V:=λb6=>(Value.slice (some ⟨b6,0,none⟩) ((nw a)+(nw b)) ((nw a)+(nw b)))) (T:=97) (cs:=Aj (List.replicate ((nw a)+(nw b)) 0)) (AO rfl) (Cp (m:=(nw a)+(nw b)) (c:=(nw a)+(nw b)) rfl rfl (by omega) (by omega)) rfl (AY rfl) λb6=>asg' rfl (q6 (sL [2,3,4,7,8,9] rfl) ?_))))
  refine q4 (AJ rfl (AH (v:=(vN (nw a))) (AE rfl Tryz.underlying184) rfl (AJ rfl (AD.nil (AC.then_ ?_)))))
  refine AF.block ?_
  refine AF.lp2 (tg λ(i:Nat) (os:List Nat)=>i<=nw a/\os.length=nw a+nw b/\W32 os/\val os=val ((AM a).take i)*b) (tg λ(i:Nat) (os:List Nat)=>[(4,(pP b3 0)),(8,(Value.slice (some ⟨b5,0,none⟩) (nw b) ((Ao b).length))),(9,(Value.slice (some ⟨b6,0,none⟩) ((nw a)+(nw b)) ((nw a)+(nw b)))),(53,(Value.slice (some ⟨b4,0,none⟩) (nw a) ((Ao a).length))),(54,(vN (nw a))),(55,(vN i))]) (tg λ(i:Nat) (os:List Nat)=>[Ab b6 97 (Aj os),Ab b5 97 (Aj (Ao b)),Ab b4 97 (Aj (Ao a)),Ab b3 42 (Aa 0),Ab b2 42 (Aa b),Ab b1 42 (Aa a)]) (tg λ(i:Nat) (os:List Nat)=>nw a-i) 0 (List.replicate (nw a+nw b) 0) (⟨Nat.zero_le _,by simp,W32.zeros _,by rw [Df];simp [val]⟩) (sF rfl) sr (λi os hJ=>?_)
  obtain ⟨hi,hl,hw32,hv⟩:=hJ
  refine q4 (AH (Ad (c:=(decide (i<(nw a)))) rfl rfl (CB (a:=i) (b:=nw a))) rfl (AD.nil (q1 ?_)))
  refine AF.cond rfl (λhc1=>?_) (λhc1=>?_)
  ·replace hc1:=of_decide_eq_true hc1
   refine AF.skip (q1 (AF.block (q4 (AJ rfl (AH (v:=(pP b4 i)) (AK (j:=i) rfl rfl Tryz.underlying184 Tryz.sizeOf97 rfl (by omega) (by simp)) rfl ?_)))))
   have hx1:(Ao a).getD i 0<4294967296:=W32.getD (B6 a) i
   refine AH (AP (i:=2) (v:=(vK .u32 ((Ao a).getD i 0))) rfl rfl Tryz.isAgg97 (BA (xs:=Ao a) (j:=i) (by omega))) rfl (AD.retell (k:=59) (u:=(vK .u32 ((AM a).getD i 0))) rfl (by rw [C4 hc1]) (asg' rfl (asg' rfl (q3 (sL [4,8,9,53,54,55,10,11] rfl) (asg' rfl ?_)))))
   refine AD.nil (q1 (q4 (AJ rfl (AH (v:=(vN (nw b))) (AE rfl Tryz.underlying184) rfl (AJ rfl ?_)))))
   refine AD.nil (AC.then_ (AF.block ?_))
   refine AF.lp3 (tg λ(k:Nat) (xs:List Nat) (c:Nat)=>k<=nw b/\xs.length=nw a+nw b/\W32 xs/\c<4294967296/\(∀j,i+nw b<=j->xs.getD j 0=0)/\val xs+c*4294967296^(i+k)=val ((AM a).take i)*b+(AM a).getD i 0*val ((AM b).take k)*4294967296^i) (tg λ(k:Nat) (xs:List Nat) (c:Nat)=>[(4,(pP b3 0)),(8,(Value.slice (some ⟨b5,0,none⟩) (nw b) ((Ao b).length))),(9,(Value.slice (some ⟨b6,0,none⟩) ((nw a)+(nw b)) ((nw a)+(nw b)))),(53,(Value.slice (some ⟨b4,0,none⟩) (nw a) ((Ao a).length))),(54,(vN (nw a))),(55,(vN i)),(10,(vN i)),(11,(vK .u32 ((AM a).getD i 0))),(60,(Value.slice (some ⟨b5,0,none⟩) (nw b) ((Ao b).length))),(61,(vN (nw b))),(62,(vN k)),(12,(vK .u64 c))]) (tg λ(k:Nat) (xs:List Nat) (c:Nat)=>[Ab b6 97 (Aj xs),Ab b5 97 (Aj (Ao b)),Ab b4 97 (Aj (Ao a)),Ab b3 42 (Aa 0),Ab b2 42 (Aa b),Ab b1 42 (Aa a)]) (tg λ(k:Nat) (xs:List Nat) (c:Nat)=>nw b-k) 0 os 0 (⟨Nat.zero_le _,hl,hw32,by omega,OJ hv,by rw [hv];simp [val]⟩) (sF rfl) sr (λk xs c hJ=>?_)
   obtain ⟨hk,hl2,hw2,hcc,h02,hv2⟩:=hJ
   refine q4 (AH (Ad (c:=(decide (k<(nw b)))) rfl rfl (CB (a:=k) (b:=nw b))) rfl (AD.nil (q1 ?_)))
   refine AF.cond rfl (λhc2=>?_) (λhc2=>?_)
   ·replace hc2:=of_decide_eq_true hc2
    refine AF.skip (q1 (AF.block (q4 (AJ rfl (AH (v:=(pP b5 k)) (AK (j:=k) rfl rfl Tryz.underlying184 Tryz.sizeOf97 rfl (by omega) (by simp)) rfl ?_)))))
    have hx2:(Ao b).getD k 0<4294967296:=W32.getD (B6 b) k
    refine AH (AP (i:=1) (v:=(vK .u32 ((Ao b).getD k 0))) rfl rfl Tryz.isAgg97 (BA (xs:=Ao b) (j:=k) (by omega))) rfl (AD.retell (k:=66) (u:=(vK .u32 ((AM b).getD k 0))) rfl (by rw [C4 hc2]) (asg' rfl (asg' rfl (q3 (sL [4,8,9,53,54,55,10,11,60,61,62,12,13,14] rfl) (AJ rfl ?_)))))
    refine AJ rfl ?_
    have hwa:=(Bc a).getD i
    have hwb:=(Bc b).getD k
    have hml:=JO hwa hwb
    refine AH (Au (c:=(((AM a).getD i 0:Nat):Int)) rfl Tryz.underlying97 Tryz.underlying40 (BH (by omega))) rfl (AJ rfl (AH (Au (c:=(((AM b).getD k 0:Nat):Int)) rfl Tryz.underlying97 Tryz.underlying40 (BH (by omega))) rfl (AH (DH (c:=((((AM a).getD i 0)*((AM b).getD k 0):Nat):Int)) rfl rfl (EJ (a:=(AM a).getD i 0) (b:=(AM b).getD k 0) (by omega))) rfl (AJ rfl (AJ rfl ?_)))))
    refine AJ rfl (AH (AW (c:=((i+k:Nat):Int)) rfl rfl (AR (a:=i) (b:=k) (by omega))) rfl (AH (v:=(pP b6 (i+k))) (AK (j:=i+k) rfl rfl Tryz.underlying184 Tryz.sizeOf97 rfl (by omega) (by simp)) rfl ?_))
    have hx3:xs.getD (i+k) 0<4294967296:=W32.getD hw2 (i+k)
    refine AH (AP (i:=0) (v:=(vK .u32 (xs.getD (i+k) 0))) rfl rfl Tryz.isAgg97 (BA (xs:=xs) (j:=(i+k)) (by omega))) rfl (AH (Au (c:=((xs.getD (i+k) 0:Nat):Int)) rfl Tryz.underlying97 Tryz.underlying40 (BH (by omega))) rfl (AH (AW (c:=(((((AM a).getD i 0)*((AM b).getD k 0))+(xs.getD (i+k) 0):Nat):Int)) rfl rfl (C5 (a:=((AM a).getD i 0)*((AM b).getD k 0)) (b:=xs.getD (i+k) 0) (by omega))) rfl (AH (AW (c:=((c+((((AM a).getD i 0)*((AM b).getD k 0))+(xs.getD (i+k) 0)):Nat):Int)) rfl rfl (C5 (a:=c) (b:=(((AM a).getD i 0)*((AM b).getD k 0))+(xs.getD (i+k) 0)) (by omega))) rfl (asg' rfl (q3 (sL [4,8,9,53,54,55,10,11,60,61,62,12,13] rfl) ?_)))))
    refine AJ rfl (AJ rfl (AJ rfl (AH (AW (c:=((i+k:Nat):Int)) rfl rfl (AR (a:=i) (b:=k) (by omega))) rfl (AJ rfl (AH (Au (c:=(((c+((((AM a).getD i 0)*((AM b).getD k 0))+(xs.getD (i+k) 0)))%4294967296:Nat):Int)) rfl Tryz.underlying40 Tryz.underlying97 Dn) rfl ?_)))))
    refine AH (v:=(pP b6 (i+k))) (AK (j:=i+k) rfl rfl Tryz.underlying184 Tryz.sizeOf97 rfl (by omega) (by simp)) rfl (AD.store' (i:=0) (off:=(i+k)) (vs:=[(vK .u32 ((c+((((AM a).getD i 0)*((AM b).getD k 0))+(xs.getD (i+k) 0)))%4294967296))]) (cs':=Aj (xs.set (i+k) ((c+((((AM a).getD i 0)*((AM b).getD k 0))+(xs.getD (i+k) 0)))%4294967296))) (L':=[Ab b6 97 (Aj (xs.set (i+k) ((c+((((AM a).getD i 0)*((AM b).getD k 0))+(xs.getD (i+k) 0)))%4294967296))),Ab b5 97 (Aj (Ao b)),Ab b4 97 (Aj (Ao a)),Ab b3 42 (Aa 0),Ab b2 42 (Aa b),Ab b1 42 (Aa a)]) (AO rfl) rfl rfl rfl rfl rfl Tryz.sizeOf97 rfl (CP (BG _) (by omega)) (Bx (by omega)) rfl (AD.nil (AC.subF (sL [4,8,9,53,54,55,10,11,60,61,62,12,13] rfl) (AC.then_ (AF.region ?_)))))
    refine AJ rfl (AH (CZ (s:=32) (c:=(((c+((((AM a).getD i 0)*((AM b).getD k 0))+(xs.getD (i+k) 0)))/4294967296:Nat):Int)) rfl rfl rfl (by decide) (Fa (a:=c+((((AM a).getD i 0)*((AM b).getD k 0))+(xs.getD (i+k) 0))) (s:=32))) rfl (asg' rfl (AD.nil (AC.subF (sL [4,8,9,53,54,55,10,11,60,61,62,12,13] rfl) (AC.in_normal ?_)))))
    exact AC.then_ (AF.region (AH (AW (c:=((k+1:Nat):Int)) rfl rfl (AR (a:=k) (b:=1) (by omega))) rfl (AJ rfl (AD.nil (AC.subF (sL [4,8,9,53,54,55,10,11,60,61,62,12,13] rfl) (AC.round3 (k+1) (xs.set (i+k) ((c+((AM a).getD i 0*(AM b).getD k 0+xs.getD (i+k) 0))%4294967296)) ((c+((AM a).getD i 0*(AM b).getD k 0+xs.getD (i+k) 0))/4294967296) (⟨by omega,by rw [List.length_set];exact hl2,W32.set hw2 (by omega) _,by omega,E3 h02 (by omega),TH hl2 (by omega) hv2⟩) (by omega) (sF rfl) sr))))))
   ·replace hc2:=of_decide_eq_false hc2
    have hkn:k=nw b:=by omega
    have hbb:val ((AM b).take k)=b:=Cv (by omega)
    rw [hbb] at hv2
    refine AF.exit (AC.then_exit (AC.round3_exit (AC.in_exit (AC.then_ (AF.region ?_)))))
    refine AJ rfl (AJ rfl (AJ rfl (AH (v:=(vN (nw b))) (AE rfl Tryz.underlying184) rfl (AH (AW (c:=((i+(nw b):Nat):Int)) rfl rfl (AR (a:=i) (b:=nw b) (by omega))) rfl (AJ rfl ?_)))))
    refine AH (Au (c:=((c:Nat):Int)) rfl Tryz.underlying40 Tryz.underlying97 (CQ (by omega))) rfl (AH (v:=(pP b6 (i+(nw b)))) (AK (j:=i+(nw b)) rfl rfl Tryz.underlying184 Tryz.sizeOf97 rfl (by omega) (by simp)) rfl (AD.store' (i:=0) (off:=(i+(nw b))) (vs:=[(vK .u32 c)]) (cs':=Aj (xs.set (i+(nw b)) c)) (L':=[Ab b6 97 (Aj (xs.set (i+(nw b)) c)),Ab b5 97 (Aj (Ao b)),Ab b4 97 (Aj (Ao a)),Ab b3 42 (Aa 0),Ab b2 42 (Aa b),Ab b1 42 (Aa a)]) (AO rfl) rfl rfl rfl rfl rfl Tryz.sizeOf97 rfl (CP (BG _) (by omega)) (Bx (by omega)) rfl (AD.nil (AC.subF (sL [4,8,9,53,54,55,10,11,60,61,62,12] rfl) (AC.in_normal ?_)))))
    exact AC.then_ (AF.region (AH (AW (c:=((i+1:Nat):Int)) rfl rfl (AR (a:=i) (b:=1) (by omega))) rfl (AJ rfl (AD.nil (AC.subF (sL [4,8,9,53,54,55,10,11,60,61,62,12] rfl) (AC.round2 (i+1) (xs.set (i+nw b) c) (⟨by omega,by rw [List.length_set];exact hl2,W32.set hw2 hcc _,by rw [HI hl2 (by omega) (h02 _ (Nat.le_refl _)),<-UX,<-hv2,<-hkn]⟩) (by omega) (sF rfl) sr))))))
  ·replace hc1:=of_decide_eq_false hc1
   refine AF.exit (AC.then_exit (AC.round2_exit (AC.in_exit (q2 (AJ rfl ?_)))))
   refine DC Tryz.call110 (λw hw=>H0 _ ((nw a)+(nw b)) ((nw a)+(nw b)) os hw32 (by first|omega|(rw [rowN_length];omega)|simp|(simp;omega)) (by first|omega|simp|(simp;omega)) (by first|omega|simp|(simp;omega)) w (hw.get (i:=0) rfl)) rfl (AD.retell (k:=102) (u:=(aG (Aa (a*b)))) rfl (by rw [List.take_of_length_le (show os.length<=nw a+nw b by omega),hv,Cv (by omega)]) (Iu rfl Tryz.sizeOf42 rfl (AD.nil (AC.subF (sL [4,8,9,53,54,55] rfl) (AC.then_ ?_)))))
   exact AF.ret (AN rfl (BB (i:=3) (cs:=Aa (a*b)) rfl rfl Tryz.isAgg42 Tryz.sizeOf42 rfl) (λw hw=>⟨rfl,hw.out⟩))
end
end Go.Proofs.YtpgncndhhhllfaaGreatDoor
