import Derived.Test.YtpgncndhhhllfaaGreatDoorPart06
import Derived.Test.YtpgncndhhhllfaaGreatDoorPart12
namespace Go.Proofs.YtpgncndhhhllfaaGreatDoor
open Go Go.RowKit Go.Proofs.Tryz
set_option linter.unusedVariables false
set_option linter.unusedSimpArgs false
section
set_option maxRecDepth 100000
theorem Jk  :Instr.fill ([(0,1),(1,1)].toArray[·]?) (AY 0).toArray []=some (AY 0).toArray:=by kernel_rfl
theorem NP (a b:Nat) (ha:nw a<=1099511627776) (hb:nw b<=1099511627776) (w:World)  :Calls Tryz.prog 103 #[(aG (AY a)),(aG (AY b))] w (Al w (Value.tuple #[(aG (AY (a-b))),(Value.bool (decide (b<=a)))])):=by
 have hla:=B7 a
 have hlb:=B7 b
 have hpa:=UJ a
 refine Aa (args:=[(aG (AY a)),(aG (AY b))]) Tryz.func103 rfl rfl (AV rfl) (AE.subF (sL [0,1] rfl) (q4 (BU (cs:=AY a) rfl λb1=>BU (cs:=AY b) rfl λb2=>al E9 rfl λb3=>?_)))
 refine asg' rfl (q6 (sL [2,3,4,5] rfl) (q4 (BG 2 Br rfl (BG 1 Br rfl (ck' Tryz.call168 (Sj a b (by omega) (by omega)) rfl ?_)))))
 refine AK (Ai (c:=(decide ((C0 a b)<(0:Int)))) rfl rfl rfl) rfl (AD.nil (AC.subF (sL [2,3,4,5,14] rfl) (AC.then_ ?_)))
 refine AE.cond rfl (λhc0=>?_) (λhc0=>?_)
 ·replace hc0:=of_decide_eq_true hc0
  rw [GI] at hc0
  refine q4 (AK (v:=(aG (AY 0))) (AU (zs:=AY 0) (vs:=AY 0) (pv:=[]) (places:=[(0,1),(1,1)]) Tryz.zeroValue42 Tryz.underlying42 (λw=>by simp [Tryz.sizeOf9,Tryz.sizeOf40]) rfl (Jk )) rfl (AD.retell (k:=15) (u:=(aG (AY (a-b)))) rfl (by rw [show a-b=0 by omega]) (A8 rfl Tryz.sizeOf42 rfl (asg' rfl (AD.nil ?_)))))
  exact AC.subF (sL [2,3,4,5] rfl) (AC.then_ (AE.ret (AC.then_ret (CO rfl (Au (i:=0) (cs:=AY (a-b)) rfl rfl Tryz.isAgg42 Tryz.sizeOf42 rfl) (AS (v:=(Value.bool false)) rfl) (λw hw=>⟨by rw [decide_eq_false (show ¬b<=a by omega)],hw.out⟩)))))
 ·replace hc0:=of_decide_eq_false hc0
  rw [GI] at hc0
  have hnb:nw b<=nw a:=CY (by omega)
  refine AE.skip (q1 (q4 (AK (v:=(pP b1 1)) (AA rfl Tryz.underlying42 rfl Tryz.sizeOf9 rfl) rfl (BJ 2 (Value.string (Bc a)) Pg rfl (AK (BV (c:=(decide (a<18446744073709551616))) rfl rfl B_) rfl ?_)))))
  refine AD.nil (AC.subF (sL [2,3,4,5,18] rfl) (AC.then_ ?_))
  refine AE.cond rfl (λhc1=>?_) (λhc1=>?_)
  ·replace hc1:=of_decide_eq_true hc1
   refine q4 (AK (v:=(pP b1 0)) (AA rfl Tryz.underlying42 rfl Tryz.sizeOf40 rfl) rfl (BJ 2 (vK .u64 (Bs a)) FV rfl (AD.retell (k:=20) (u:=(vK .u64 a)) rfl (by rw [BY hc1]) (AK (v:=(pP b2 0)) (AA rfl Tryz.underlying42 rfl Tryz.sizeOf40 rfl) rfl (BJ 1 (vK .u64 (Bs b)) FV rfl ?_)))))
   refine AD.retell (k:=22) (u:=(vK .u64 b)) rfl (by rw [BY (by omega)]) (AK (BQ (c:=((a-b:Nat):Int)) rfl rfl (HB (a:=a) (b:=b) (by omega) (by omega))) rfl (AK (v:=(aG ([(vK .u64 (a-b)),(Value.string (Bc 0))]))) (AU (zs:=AY 0) (vs:=[(vK .u64 (a-b)),(Value.string (Bc 0))]) (pv:=[(0,(vK .u64 (a-b)))]) (places:=[(0,1),(1,1)]) Tryz.zeroValue42 Tryz.underlying42 (λw=>by simp [Tryz.sizeOf9,Tryz.sizeOf40]) rfl rfl) rfl (AD.retell (k:=24) (u:=(aG (AY (a-b)))) rfl (by rw [DE (by omega)];rfl) (A8 rfl Tryz.sizeOf42 rfl (asg' rfl ?_)))))
   exact AD.nil (AC.subF (sL [2,3,4,5] rfl) (AC.then_ (AE.ret (AC.then_ret (CO rfl (Au (i:=0) (cs:=AY (a-b)) rfl rfl Tryz.isAgg42 Tryz.sizeOf42 rfl) (AS (v:=(Value.bool true)) rfl) (λw hw=>⟨by rw [decide_eq_true (show b<=a by omega)],hw.out⟩))))))
  ·replace hc1:=of_decide_eq_false hc1
   have hpad:Ay a=AP a:=if_neg hc1
   refine AE.skip (q1 (CS [(0,true),(2,true),(1,false),(3,false),(4,true),(5,true)] sr (Df 2 Br rfl (Df 1 Br rfl (OkE.imp rfl ?_)))))
   refine AD.callB (V:=λb4=>(Value.slice (some ⟨b4,0,none⟩) (nw a) ((Ay a).length))) (T:=97) (cs:=Ao (Ay a)) (AW rfl) (An (args:=[(aG (AY a))]) rfl rfl Tryz.call111) (λw hw=>Cu a (by omega) w) rfl (AV rfl) λb4=>OkE.back (sl sr) (OkE.imp rfl (AD.callB (V:=λb5=>(Value.slice (some ⟨b5,0,none⟩) (nw b) ((Ay b).length))) (T:=97) (cs:=Ao (Ay b)) (AW rfl) (An (args:=[(aG (AY b))]) rfl rfl Tryz.call111) (λw hw=>Cu b (by omega) w) rfl (AV rfl) λb5=>OkE.back (sl (sl sr)) (pS' rfl ?_)))
   refine pS' rfl (OkE.nil (AC.subF (sL [2,3,4,5,6,7] rfl) (q2 (asg' rfl (AD.nil ?_)))))
   refine q1 (q4 (AQ rfl (AK (v:=(vN (nw a))) (AF rfl Tryz.underlying184) rfl (AQ rfl (AD.nil ?_)))))
   refine AC.subF (sL [2,3,4,5,6,7,8,30,31] rfl) (AC.then_ (AE.block ?_))
   refine AE.lp3 (tg λ(i:Nat) (os:List Nat) (c:Nat)=>i<=nw a/\os.length=nw a/\W32 os/\c<=1/\val os+val ((AP b).take i)=a+c*4294967296^i) (tg λ(i:Nat) (os:List Nat) (c:Nat)=>[(4,(pP b3 0)),(5,(Value.bool false)),(6,(Value.slice (some ⟨b4,0,none⟩) (nw a) ((Ay a).length))),(7,(Value.slice (some ⟨b5,0,none⟩) (nw b) ((Ay b).length))),(30,(vN (nw a))),(31,(vN i)),(8,(vK .u32 c))]) (tg λ(i:Nat) (os:List Nat) (c:Nat)=>[Ad b5 97 (Ao (Ay b)),Ad b4 97 (Ao os),Ad b3 42 (AY 0),Ad b2 42 (AY b),Ad b1 42 (AY a)]) (tg λ(i:Nat) (os:List Nat) (c:Nat)=>nw a-i) 0 (Ay a) 0 (⟨Nat.zero_le _,by rw [hpad];rfl,B9 a,by omega,by rw [O5];simp [val]⟩) (sF rfl) sr (λi os c hJ=>?_)
   obtain ⟨hi,hl,hw32,hcc,hv⟩:=hJ
   refine q4 (AK (Ai (c:=(decide (i<(nw a)))) rfl rfl (CI (a:=i) (b:=nw a))) rfl (AD.nil (q1 ?_)))
   refine AE.cond rfl (λhc2=>?_) (λhc2=>?_)
   ·replace hc2:=of_decide_eq_true hc2
    refine AE.skip (q1 (AE.block (q4 (AQ rfl (asg' rfl ?_)))))
    refine q3 (sL [4,5,6,7,30,31,8,9] rfl) (asg' rfl (AD.nil (q1 (q4 (AQ rfl ?_)))))
    refine AQ rfl (AK (v:=(vN (nw b))) (AF rfl Tryz.underlying184) rfl (AK (Ai (c:=(decide (i<(nw b)))) rfl rfl (CI (a:=i) (b:=nw b))) rfl (AD.nil (AC.subF (sL [4,5,6,7,30,31,8,9,10,37] rfl) (AC.then_ ?_)))))
    refine AE.jn0 (tg True) (tg [(4,(pP b3 0)),(5,(Value.bool false)),(6,(Value.slice (some ⟨b4,0,none⟩) (nw a) ((Ay a).length))),(7,(Value.slice (some ⟨b5,0,none⟩) (nw b) ((Ay b).length))),(30,(vN (nw a))),(31,(vN i)),(8,(vK .u32 c)),(9,(vN i)),(10,(vK .u32 ((AP b).getD i 0)))]) (tg [Ad b5 97 (Ao (Ay b)),Ad b4 97 (Ao os),Ad b3 42 (AY 0),Ad b2 42 (AY b),Ad b1 42 (AY a)]) ?_ ?_
    ·skip
     refine AE.cond rfl (λhc3=>?_) (λhc3=>?_)
     ·replace hc3:=of_decide_eq_true hc3
      refine AE.region (AQ rfl (AQ rfl (AK (v:=(pP b5 i)) (AM (j:=i) rfl rfl Tryz.underlying184 Tryz.sizeOf97 rfl (by omega) (by simp)) rfl ?_)))
      have hx1:(Ay b).getD i 0<4294967296:=W32.getD (B9 b) i
      exact AK (AL (i:=0) (v:=(vK .u32 ((Ay b).getD i 0))) rfl rfl Tryz.isAgg97 (BD (xs:=Ay b) (j:=i) (by omega))) rfl (AD.retell (k:=41) (u:=(vK .u32 ((AP b).getD i 0))) rfl (by rw [C5 hc3]) (asg' rfl (AD.nil (AC.subF (sL [4,5,6,7,30,31,8,9,10] rfl) (AC.join0  (trivial) (sF rfl) sr)))))
     ·replace hc3:=of_decide_eq_false hc3
      exact AE.skip (AC.retell (k:=10) (u:=Value.int .u32 (((AP b).getD i 0:Nat):Int)) rfl (by rw [D4 hc3];rfl) (AC.join0  (trivial) (sF rfl) sr))
    ·intro hJ
     refine AC.then_ (AE.region (AQ rfl (AQ rfl (AQ rfl (AQ rfl ?_)))))
     refine AK (v:=(pP b4 i)) (AM (j:=i) rfl rfl Tryz.underlying184 Tryz.sizeOf97 rfl (by omega) (by simp)) rfl ?_
     have hx2:os.getD i 0<4294967296:=W32.getD hw32 i
     refine AK (AL (i:=1) (v:=(vK .u32 (os.getD i 0))) rfl rfl Tryz.isAgg97 (BD (xs:=os) (j:=i) (by omega))) rfl (AQ rfl (AQ rfl ?_))
     have hyb:=(Bh b).getD i
     refine ck' Tryz.call170 (Iy (os.getD i 0) ((AP b).getD i 0) c _ (by omega) (by omega) (by omega) rfl) rfl (AQ rfl (AK (AZ (v:=(vK .u32 (((os.getD i 0)+(4294967296-((AP b).getD i 0))+(4294967296-c))%4294967296))) rfl rfl) rfl (AK (AZ (v:=(vK .u32 (Hu (os.getD i 0) (((AP b).getD i 0)+c)))) rfl rfl) rfl (AK (v:=(pP b4 i)) (AM (j:=i) rfl rfl Tryz.underlying184 Tryz.sizeOf97 rfl (by omega) (by simp)) rfl (AD.store' (i:=1) (off:=i) (vs:=[(vK .u32 (((os.getD i 0)+(4294967296-((AP b).getD i 0))+(4294967296-c))%4294967296))]) (cs':=Ao (os.set i (((os.getD i 0)+(4294967296-((AP b).getD i 0))+(4294967296-c))%4294967296))) (L':=[Ad b5 97 (Ao (Ay b)),Ad b4 97 (Ao (os.set i (((os.getD i 0)+(4294967296-((AP b).getD i 0))+(4294967296-c))%4294967296))),Ad b3 42 (AY 0),Ad b2 42 (AY b),Ad b1 42 (AY a)]) (AW rfl) rfl rfl rfl rfl rfl Tryz.sizeOf97 rfl (CL (BL _) (by omega)) (B2 (by omega)) rfl ?_)))))
     refine asg' rfl (AD.nil (AC.subF (sL [4,5,6,7,30,31,8,9,10] rfl) (AC.in_normal (AC.then_ (AE.region ?_)))))
     exact AK (Ac (c:=((i+1:Nat):Int)) rfl rfl (Ae (a:=i) (b:=1) (by omega))) rfl (AQ rfl (AD.nil (AC.subF (sL [4,5,6,7,30,31,8,9,10] rfl) (AC.round3 (i+1) (os.set i ((os.getD i 0+(4294967296-(AP b).getD i 0)+(4294967296-c))%4294967296)) (Hu (os.getD i 0) ((AP b).getD i 0+c)) (⟨by omega,by rw [List.length_set];exact hl,W32.set hw32 (by omega) i,Nu _ _,Qz hl hc2 hw32 (Bh b) hcc hv⟩) (by omega) (sF rfl) sr))))
   ·replace hc2:=of_decide_eq_false hc2
    refine AE.exit (AC.then_exit (AC.round3_exit (AC.in_exit (q2 (AQ rfl ?_)))))
    refine CN Tryz.call110 (λw hw=>H6 _ (nw a) ((Ay a).length) os hw32 (by first|omega|(rw [rowN_length];omega)|simp|(simp;omega)) (by first|omega|simp|(simp;omega)) (by first|omega|simp|(simp;omega)) w (hw.get (i:=1) rfl)) rfl (AD.retell (k:=57) (u:=(aG (AY (a-b)))) rfl (by rw [List.take_of_length_le (show os.length<=nw a by omega),RY (X:=a) (Y:=b) (n:=nw a) (c:=c) (i:=i) hl hw32 (by omega) (by omega) (by rw [<-hv,Cr (by omega)]) (Bg a)]) (I3 rfl Tryz.sizeOf42 rfl (asg' rfl (AD.nil (AC.subF (sL [4,5,6,7,30,31,8] rfl) ?_)))))
    exact AC.then_ (AE.ret (CO rfl (Au (i:=2) (cs:=AY (a-b)) rfl rfl Tryz.isAgg42 Tryz.sizeOf42 rfl) (AS (v:=(Value.bool true)) rfl) (λw hw=>⟨by rw [decide_eq_true (show b<=a by omega)],hw.out⟩)))
theorem NJ (a b:Nat) (ha:nw a<=1099511627776) (hb:nw b<=1099511627776) (w:World)  :Calls Tryz.prog 60 #[(aG (AY a)),(aG (AY b))] w (Al w (aG (AY (a*b)))):=by
 have hla:=B7 a
 have hlb:=B7 b
 refine Aa (args:=[(aG (AY a)),(aG (AY b))]) Tryz.func60 rfl rfl (AV rfl) (AE.subF (sL [0,1] rfl) (q4 (BU (cs:=AY a) rfl λb1=>BU (cs:=AY b) rfl λb2=>al E9 rfl λb3=>?_)))
 refine q6 (sL [2,3,4] rfl) (q4 (AK (v:=(pP b1 1)) (AA rfl Tryz.underlying42 rfl Tryz.sizeOf9 rfl) rfl (BJ 2 (Value.string (Bc a)) Pg rfl (AK (BV (c:=(decide (a<18446744073709551616))) rfl rfl B_) rfl (AQ rfl ?_)))))
 refine AD.mid (FM:=[(2,(pP b1 0)),(3,(pP b2 0)),(4,(pP b3 0)),(15,(pP b1 1)),(16,(Value.string (Bc a))),(17,(Value.bool (decide (a<18446744073709551616)))),(18,(Value.bool (decide (a<18446744073709551616)))),(22,(Value.bool ((decide (a<18446744073709551616))&&(decide (b<18446744073709551616)))))]) (LM:=[Ad b3 42 (AY 0),Ad b2 42 (AY b),Ad b1 42 (AY a)]) 4 ?_ ?_
 ·rcases Bool.eq_false_or_eq_true (decide (a<18446744073709551616)) with hg1|hg1
  ·skip
   refine AD.retell (k:=18) (u:=Value.bool true) rfl (by rw [hg1]) ?_
   have hg1':=hg1
   replace hg1':=of_decide_eq_true hg1'
   exact AD.step (v:=(pP b2 1)) (AB rfl) (AA rfl Tryz.underlying42 rfl Tryz.sizeOf9 rfl) rfl (AV rfl) (AD.step (v:=(Value.string (Bc b))) (AB rfl) (AL (i:=1) (v:=(Value.string (Bc b))) rfl rfl Pg.a rfl) rfl (AV rfl) (AD.step (v:=(Value.bool (decide (b<18446744073709551616)))) (AB rfl) (BV (c:=(decide (b<18446744073709551616))) rfl rfl B_) rfl (AV rfl) (AK (v:=(Value.bool (decide (b<18446744073709551616)))) (AX rfl rfl) rfl (AD.nil (AC.mid (sS rfl (sS rfl (sS rfl (sS rfl (sS rfl (sS rfl (sS (by first|rfl|(rw [hg1];rfl)|rw [hg1]) (sS (by first|rfl|(rw [hg1];rfl)|rw [hg1]) (sN))))))))) (List.Sublist.refl _))))))
  ·skip
   refine AD.retell (k:=18) (u:=Value.bool false) rfl (by rw [hg1]) ?_
   have hg1':=hg1
   replace hg1':=of_decide_eq_false hg1'
   exact AD.skip (AH rfl) rfl (AV rfl) (AD.skip (AH rfl) rfl (AV rfl) (AD.skip (AH rfl) rfl (AV rfl) (AK (v:=(Value.bool false)) (AR rfl rfl) rfl (AD.nil (AC.mid (sS rfl (sS rfl (sS rfl (sS rfl (sS rfl (sS rfl (sS (by first|rfl|(rw [hg1];rfl)|rw [hg1]) (sS (by first|rfl|(rw [hg1];rfl)|rw [hg1]) (sN))))))))) (List.Sublist.refl _))))))
 refine AD.nil (AC.subF (sL [2,3,4,22] rfl) (AC.then_ ?_))
 refine AE.cond rfl (λhc0=>?_) (λhc0=>?_)
 ·simp only [Bool.and_eq_true,Bool.or_eq_true,Bool.and_eq_false_iff,Bool.or_eq_false_iff,Bool.not_eq_true',Bool.not_eq_false',decide_eq_true_eq,decide_eq_false_iff_not] at hc0
  refine q4 (AK (v:=(pP b1 0)) (AA rfl Tryz.underlying42 rfl Tryz.sizeOf40 rfl) rfl (BJ 2 (vK .u64 (Bs a)) FV rfl (AD.retell (k:=25) (u:=(vK .u64 a)) rfl (by rw [BY hc0.1]) (AK (v:=(pP b2 0)) (AA rfl Tryz.underlying42 rfl Tryz.sizeOf40 rfl) rfl (BJ 1 (vK .u64 (Bs b)) FV rfl ?_)))))
  have hhi:a*b/18446744073709551616<18446744073709551616:=Nat.div_lt_of_lt_mul (Nat.mul_lt_mul'' hc0.1 hc0.2)
  refine AD.retell (k:=27) (u:=(vK .u64 b)) rfl (by rw [BY hc0.2]) (ck' Tryz.call109 (RV a b (by omega) (by omega)) rfl (AQ rfl (AK (AZ (v:=(vK .u64 (a*b/18446744073709551616))) rfl rfl) rfl (AK (AZ (v:=(vK .u64 (a*b%18446744073709551616))) rfl rfl) rfl (asg' rfl ?_)))))
  refine asg' rfl (q3 (sL [2,3,4,5,6] rfl) (AQ rfl (AK (A6 (c:=(((a*b%18446744073709551616)%4294967296:Nat):Int)) rfl Tryz.underlying40 Tryz.underlying97 Du) rfl (AQ rfl (AK (Cc (s:=32) (c:=(((a*b%18446744073709551616)/4294967296:Nat):Int)) rfl rfl rfl (by decide) (FA (a:=a*b%18446744073709551616) (s:=32))) rfl ?_)))))
  refine AK (A6 (c:=(((a*b%18446744073709551616)/4294967296:Nat):Int)) rfl Tryz.underlying40 Tryz.underlying97 (CR (by omega))) rfl (AQ rfl (AK (A6 (c:=(((a*b/18446744073709551616)%4294967296:Nat):Int)) rfl Tryz.underlying40 Tryz.underlying97 Du) rfl (AQ rfl (AK (Cc (s:=32) (c:=(((a*b/18446744073709551616)/4294967296:Nat):Int)) rfl rfl rfl (by decide) (FA (a:=a*b/18446744073709551616) (s:=32))) rfl (AK (A6 (c:=(((a*b/18446744073709551616)/4294967296:Nat):Int)) rfl Tryz.underlying40 Tryz.underlying97 (CR (by omega))) rfl ?_)))))
  refine AD.openV (V:=λb4=>(Value.slice (some ⟨b4,0,none⟩) 4 4)) (T:=97) (cs:=Ao ([(a*b%18446744073709551616)%4294967296,(a*b%18446744073709551616)/4294967296,(a*b/18446744073709551616)%4294967296,(a*b/18446744073709551616)/4294967296])) (AW rfl) (BI (cs:=Ao ([(a*b%18446744073709551616)%4294967296,(a*b%18446744073709551616)/4294967296,(a*b/18446744073709551616)%4294967296,(a*b/18446744073709551616)/4294967296])) (pv:=[(0,(vK .u32 ((a*b%18446744073709551616)%4294967296))),(1,(vK .u32 ((a*b%18446744073709551616)/4294967296))),(2,(vK .u32 ((a*b/18446744073709551616)%4294967296))),(3,(vK .u32 ((a*b/18446744073709551616)/4294967296)))]) Tryz.underlying184 Tryz.sizeOf97 Tryz.zeroValue97 (by decide) (by decide) rfl (by kernel_rfl)) rfl (AV rfl) λb4=>CN Tryz.call110 (λw hw=>H6 _ 4 4 ([(a*b%18446744073709551616)%4294967296,(a*b%18446744073709551616)/4294967296,(a*b/18446744073709551616)%4294967296,(a*b/18446744073709551616)/4294967296]) (W32.cons (by omega) (W32.cons (by omega) (W32.cons (by omega) (W32.cons (by omega) (W32.nil))))) (by first|omega|(rw [rowN_length];omega)|simp|(simp;omega)) (by first|omega|simp|(simp;omega)) (by first|omega|simp|(simp;omega)) w (hw.get (i:=0) rfl)) rfl (AD.retell (k:=42) (u:=(aG (AY (a*b)))) rfl (by rw [show ∀x y z t:Nat,[x,y,z,t].take 4=[x,y,z,t] from λ_ _ _ _=>rfl,WP (by omega) hhi,show a*b%18446744073709551616+a*b/18446744073709551616*18446744073709551616=a*b by omega]) (C6 rfl Tryz.sizeOf42 rfl (AD.nil (AC.subF (sL [2,3,4] rfl) ?_))))
  exact AC.then_ (AE.ret (AC.then_ret (AJ rfl (Au (i:=1) (cs:=AY (a*b)) rfl rfl Tryz.isAgg42 Tryz.sizeOf42 rfl) (λw hw=>⟨rfl,hw.out⟩))))
 ·simp only [Bool.and_eq_true,Bool.or_eq_true,Bool.and_eq_false_iff,Bool.or_eq_false_iff,Bool.not_eq_true',Bool.not_eq_false',decide_eq_true_eq,decide_eq_false_iff_not] at hc0
  refine AE.skip (q1 (CS [(0,true),(2,true),(1,false),(3,false),(4,true),(5,true)] sr (Df 2 Br rfl (Df 1 Br rfl (OkE.imp rfl ?_)))))
  refine AD.callB (V:=λb4=>(Value.slice (some ⟨b4,0,none⟩) (nw a) ((Ay a).length))) (T:=97) (cs:=Ao (Ay a)) (AW rfl) (An (args:=[(aG (AY a))]) rfl rfl Tryz.call111) (λw hw=>Cu a (by omega) w) rfl (AV rfl) λb4=>OkE.back (sl sr) (OkE.imp rfl (AD.callB (V:=λb5=>(Value.slice (some ⟨b5,0,none⟩) (nw b) ((Ay b).length))) (T:=97) (cs:=Ao (Ay b)) (AW rfl) (An (args:=[(aG (AY b))]) rfl rfl Tryz.call111) (λw hw=>Cu b (by omega) w) rfl (AV rfl) λb5=>OkE.back (sl (sl sr)) (pS' rfl ?_)))
  refine pS' rfl (OkE.nil (AC.subF (sL [2,3,4,7,8] rfl) (q2 (AQ rfl (AK (v:=(vN (nw a))) (AF rfl Tryz.underlying184) rfl ?_)))))
  refine AQ rfl (AK (v:=(vN (nw b))) (AF rfl Tryz.underlying184) rfl (AK (Ac (c:=(((nw a)+(nw b):Nat):Int)) rfl rfl (Ae (a:=nw a) (b:=nw b) (by omega))) rfl (AD.openV (V:=λb6=>(Value.slice (some ⟨b6,0,none⟩) ((nw a)+(nw b)) ((nw a)+(nw b)))) (T:=97) (cs:=Ao (List.replicate ((nw a)+(nw b)) 0)) (AW rfl) (Cp (m:=(nw a)+(nw b)) (c:=(nw a)+(nw b)) rfl rfl (by omega) (by omega)) rfl (AV rfl) λb6=>asg' rfl (q6 (sL [2,3,4,7,8,9] rfl) ?_))))
  refine q4 (AQ rfl (AK (v:=(vN (nw a))) (AF rfl Tryz.underlying184) rfl (AQ rfl (AD.nil (AC.then_ ?_)))))
  refine AE.block ?_
  refine AE.lp2 (tg λ(i:Nat) (os:List Nat)=>i<=nw a/\os.length=nw a+nw b/\W32 os/\val os=val ((AP a).take i)*b) (tg λ(i:Nat) (os:List Nat)=>[(4,(pP b3 0)),(8,(Value.slice (some ⟨b5,0,none⟩) (nw b) ((Ay b).length))),(9,(Value.slice (some ⟨b6,0,none⟩) ((nw a)+(nw b)) ((nw a)+(nw b)))),(53,(Value.slice (some ⟨b4,0,none⟩) (nw a) ((Ay a).length))),(54,(vN (nw a))),(55,(vN i))]) (tg λ(i:Nat) (os:List Nat)=>[Ad b6 97 (Ao os),Ad b5 97 (Ao (Ay b)),Ad b4 97 (Ao (Ay a)),Ad b3 42 (AY 0),Ad b2 42 (AY b),Ad b1 42 (AY a)]) (tg λ(i:Nat) (os:List Nat)=>nw a-i) 0 (List.replicate (nw a+nw b) 0) (⟨Nat.zero_le _,by simp,W32.zeros _,by rw [Dh];simp [val]⟩) (sF rfl) sr (λi os hJ=>?_)
  obtain ⟨hi,hl,hw32,hv⟩:=hJ
  refine q4 (AK (Ai (c:=(decide (i<(nw a)))) rfl rfl (CI (a:=i) (b:=nw a))) rfl (AD.nil (q1 ?_)))
  refine AE.cond rfl (λhc1=>?_) (λhc1=>?_)
  ·replace hc1:=of_decide_eq_true hc1
   refine AE.skip (q1 (AE.block (q4 (AQ rfl (AK (v:=(pP b4 i)) (AM (j:=i) rfl rfl Tryz.underlying184 Tryz.sizeOf97 rfl (by omega) (by simp)) rfl ?_)))))
   have hx1:(Ay a).getD i 0<4294967296:=W32.getD (B9 a) i
   refine AK (AL (i:=2) (v:=(vK .u32 ((Ay a).getD i 0))) rfl rfl Tryz.isAgg97 (BD (xs:=Ay a) (j:=i) (by omega))) rfl (AD.retell (k:=59) (u:=(vK .u32 ((AP a).getD i 0))) rfl (by rw [C5 hc1]) (asg' rfl (asg' rfl (q3 (sL [4,8,9,53,54,55,10,11] rfl) (asg' rfl ?_)))))
   refine AD.nil (q1 (q4 (AQ rfl (AK (v:=(vN (nw b))) (AF rfl Tryz.underlying184) rfl (AQ rfl ?_)))))
   refine AD.nil (AC.then_ (AE.block ?_))
   refine AE.lp3 (tg λ(k:Nat) (xs:List Nat) (c:Nat)=>k<=nw b/\xs.length=nw a+nw b/\W32 xs/\c<4294967296/\(∀j,i+nw b<=j->xs.getD j 0=0)/\val xs+c*4294967296^(i+k)=val ((AP a).take i)*b+(AP a).getD i 0*val ((AP b).take k)*4294967296^i) (tg λ(k:Nat) (xs:List Nat) (c:Nat)=>[(4,(pP b3 0)),(8,(Value.slice (some ⟨b5,0,none⟩) (nw b) ((Ay b).length))),(9,(Value.slice (some ⟨b6,0,none⟩) ((nw a)+(nw b)) ((nw a)+(nw b)))),(53,(Value.slice (some ⟨b4,0,none⟩) (nw a) ((Ay a).length))),(54,(vN (nw a))),(55,(vN i)),(10,(vN i)),(11,(vK .u32 ((AP a).getD i 0))),(60,(Value.slice (some ⟨b5,0,none⟩) (nw b) ((Ay b).length))),(61,(vN (nw b))),(62,(vN k)),(12,(vK .u64 c))]) (tg λ(k:Nat) (xs:List Nat) (c:Nat)=>[Ad b6 97 (Ao xs),Ad b5 97 (Ao (Ay b)),Ad b4 97 (Ao (Ay a)),Ad b3 42 (AY 0),Ad b2 42 (AY b),Ad b1 42 (AY a)]) (tg λ(k:Nat) (xs:List Nat) (c:Nat)=>nw b-k) 0 os 0 (⟨Nat.zero_le _,hl,hw32,by omega,Ms hv,by rw [hv];simp [val]⟩) (sF rfl) sr (λk xs c hJ=>?_)
   obtain ⟨hk,hl2,hw2,hcc,h02,hv2⟩:=hJ
   refine q4 (AK (Ai (c:=(decide (k<(nw b)))) rfl rfl (CI (a:=k) (b:=nw b))) rfl (AD.nil (q1 ?_)))
   refine AE.cond rfl (λhc2=>?_) (λhc2=>?_)
   ·replace hc2:=of_decide_eq_true hc2
    refine AE.skip (q1 (AE.block (q4 (AQ rfl (AK (v:=(pP b5 k)) (AM (j:=k) rfl rfl Tryz.underlying184 Tryz.sizeOf97 rfl (by omega) (by simp)) rfl ?_)))))
    have hx2:(Ay b).getD k 0<4294967296:=W32.getD (B9 b) k
    refine AK (AL (i:=1) (v:=(vK .u32 ((Ay b).getD k 0))) rfl rfl Tryz.isAgg97 (BD (xs:=Ay b) (j:=k) (by omega))) rfl (AD.retell (k:=66) (u:=(vK .u32 ((AP b).getD k 0))) rfl (by rw [C5 hc2]) (asg' rfl (asg' rfl (q3 (sL [4,8,9,53,54,55,10,11,60,61,62,12,13,14] rfl) (AQ rfl ?_)))))
    refine AQ rfl ?_
    have hwa:=(Bh a).getD i
    have hwb:=(Bh b).getD k
    have hml:=I2 hwa hwb
    refine AK (A6 (c:=(((AP a).getD i 0:Nat):Int)) rfl Tryz.underlying97 Tryz.underlying40 (BK (by omega))) rfl (AQ rfl (AK (A6 (c:=(((AP b).getD k 0:Nat):Int)) rfl Tryz.underlying97 Tryz.underlying40 (BK (by omega))) rfl (AK (DQ (c:=((((AP a).getD i 0)*((AP b).getD k 0):Nat):Int)) rfl rfl (ED (a:=(AP a).getD i 0) (b:=(AP b).getD k 0) (by omega))) rfl (AQ rfl (AQ rfl ?_)))))
    refine AQ rfl (AK (Ac (c:=((i+k:Nat):Int)) rfl rfl (Ae (a:=i) (b:=k) (by omega))) rfl (AK (v:=(pP b6 (i+k))) (AM (j:=i+k) rfl rfl Tryz.underlying184 Tryz.sizeOf97 rfl (by omega) (by simp)) rfl ?_))
    have hx3:xs.getD (i+k) 0<4294967296:=W32.getD hw2 (i+k)
    refine AK (AL (i:=0) (v:=(vK .u32 (xs.getD (i+k) 0))) rfl rfl Tryz.isAgg97 (BD (xs:=xs) (j:=(i+k)) (by omega))) rfl (AK (A6 (c:=((xs.getD (i+k) 0:Nat):Int)) rfl Tryz.underlying97 Tryz.underlying40 (BK (by omega))) rfl (AK (Ac (c:=(((((AP a).getD i 0)*((AP b).getD k 0))+(xs.getD (i+k) 0):Nat):Int)) rfl rfl (C9 (a:=((AP a).getD i 0)*((AP b).getD k 0)) (b:=xs.getD (i+k) 0) (by omega))) rfl (AK (Ac (c:=((c+((((AP a).getD i 0)*((AP b).getD k 0))+(xs.getD (i+k) 0)):Nat):Int)) rfl rfl (C9 (a:=c) (b:=(((AP a).getD i 0)*((AP b).getD k 0))+(xs.getD (i+k) 0)) (by omega))) rfl (asg' rfl (q3 (sL [4,8,9,53,54,55,10,11,60,61,62,12,13] rfl) ?_)))))
    refine AQ rfl (AQ rfl (AQ rfl (AK (Ac (c:=((i+k:Nat):Int)) rfl rfl (Ae (a:=i) (b:=k) (by omega))) rfl (AQ rfl (AK (A6 (c:=(((c+((((AP a).getD i 0)*((AP b).getD k 0))+(xs.getD (i+k) 0)))%4294967296:Nat):Int)) rfl Tryz.underlying40 Tryz.underlying97 Du) rfl ?_)))))
    refine AK (v:=(pP b6 (i+k))) (AM (j:=i+k) rfl rfl Tryz.underlying184 Tryz.sizeOf97 rfl (by omega) (by simp)) rfl (AD.store' (i:=0) (off:=(i+k)) (vs:=[(vK .u32 ((c+((((AP a).getD i 0)*((AP b).getD k 0))+(xs.getD (i+k) 0)))%4294967296))]) (cs':=Ao (xs.set (i+k) ((c+((((AP a).getD i 0)*((AP b).getD k 0))+(xs.getD (i+k) 0)))%4294967296))) (L':=[Ad b6 97 (Ao (xs.set (i+k) ((c+((((AP a).getD i 0)*((AP b).getD k 0))+(xs.getD (i+k) 0)))%4294967296))),Ad b5 97 (Ao (Ay b)),Ad b4 97 (Ao (Ay a)),Ad b3 42 (AY 0),Ad b2 42 (AY b),Ad b1 42 (AY a)]) (AW rfl) rfl rfl rfl rfl rfl Tryz.sizeOf97 rfl (CL (BL _) (by omega)) (B2 (by omega)) rfl (AD.nil (AC.subF (sL [4,8,9,53,54,55,10,11,60,61,62,12,13] rfl) (AC.then_ (AE.region ?_)))))
    refine AQ rfl (AK (Cc (s:=32) (c:=(((c+((((AP a).getD i 0)*((AP b).getD k 0))+(xs.getD (i+k) 0)))/4294967296:Nat):Int)) rfl rfl rfl (by decide) (FA (a:=c+((((AP a).getD i 0)*((AP b).getD k 0))+(xs.getD (i+k) 0))) (s:=32))) rfl (asg' rfl (AD.nil (AC.subF (sL [4,8,9,53,54,55,10,11,60,61,62,12,13] rfl) (AC.in_normal ?_)))))
    exact AC.then_ (AE.region (AK (Ac (c:=((k+1:Nat):Int)) rfl rfl (Ae (a:=k) (b:=1) (by omega))) rfl (AQ rfl (AD.nil (AC.subF (sL [4,8,9,53,54,55,10,11,60,61,62,12,13] rfl) (AC.round3 (k+1) (xs.set (i+k) ((c+((AP a).getD i 0*(AP b).getD k 0+xs.getD (i+k) 0))%4294967296)) ((c+((AP a).getD i 0*(AP b).getD k 0+xs.getD (i+k) 0))/4294967296) (⟨by omega,by rw [List.length_set];exact hl2,W32.set hw2 (by omega) _,by omega,Ey h02 (by omega),RQ hl2 (by omega) hv2⟩) (by omega) (sF rfl) sr))))))
   ·replace hc2:=of_decide_eq_false hc2
    have hkn:k=nw b:=by omega
    have hbb:val ((AP b).take k)=b:=Cr (by omega)
    rw [hbb] at hv2
    refine AE.exit (AC.then_exit (AC.round3_exit (AC.in_exit (AC.then_ (AE.region ?_)))))
    refine AQ rfl (AQ rfl (AQ rfl (AK (v:=(vN (nw b))) (AF rfl Tryz.underlying184) rfl (AK (Ac (c:=((i+(nw b):Nat):Int)) rfl rfl (Ae (a:=i) (b:=nw b) (by omega))) rfl (AQ rfl ?_)))))
    refine AK (A6 (c:=((c:Nat):Int)) rfl Tryz.underlying40 Tryz.underlying97 (CR (by omega))) rfl (AK (v:=(pP b6 (i+(nw b)))) (AM (j:=i+(nw b)) rfl rfl Tryz.underlying184 Tryz.sizeOf97 rfl (by omega) (by simp)) rfl (AD.store' (i:=0) (off:=(i+(nw b))) (vs:=[(vK .u32 c)]) (cs':=Ao (xs.set (i+(nw b)) c)) (L':=[Ad b6 97 (Ao (xs.set (i+(nw b)) c)),Ad b5 97 (Ao (Ay b)),Ad b4 97 (Ao (Ay a)),Ad b3 42 (AY 0),Ad b2 42 (AY b),Ad b1 42 (AY a)]) (AW rfl) rfl rfl rfl rfl rfl Tryz.sizeOf97 rfl (CL (BL _) (by omega)) (B2 (by omega)) rfl (AD.nil (AC.subF (sL [4,8,9,53,54,55,10,11,60,61,62,12] rfl) (AC.in_normal ?_)))))
    exact AC.then_ (AE.region (AK (Ac (c:=((i+1:Nat):Int)) rfl rfl (Ae (a:=i) (b:=1) (by omega))) rfl (AQ rfl (AD.nil (AC.subF (sL [4,8,9,53,54,55,10,11,60,61,62,12] rfl) (AC.round2 (i+1) (xs.set (i+nw b) c) (⟨by omega,by rw [List.length_set];exact hl2,W32.set hw2 hcc _,by rw [G0 hl2 (by omega) (h02 _ (Nat.le_refl _)),<-UP,<-hv2,<-hkn]⟩) (by omega) (sF rfl) sr))))))
  ·replace hc1:=of_decide_eq_false hc1
   refine AE.exit (AC.then_exit (AC.round2_exit (AC.in_exit (q2 (AQ rfl ?_)))))
   refine CN Tryz.call110 (λw hw=>H6 _ ((nw a)+(nw b)) ((nw a)+(nw b)) os hw32 (by first|omega|(rw [rowN_length];omega)|simp|(simp;omega)) (by first|omega|simp|(simp;omega)) (by first|omega|simp|(simp;omega)) w (hw.get (i:=0) rfl)) rfl (AD.retell (k:=102) (u:=(aG (AY (a*b)))) rfl (by rw [List.take_of_length_le (show os.length<=nw a+nw b by omega),hv,Cr (by omega)]) (H8 rfl Tryz.sizeOf42 rfl (AD.nil (AC.subF (sL [4,8,9,53,54,55] rfl) (AC.then_ ?_)))))
   exact AE.ret (AJ rfl (Au (i:=3) (cs:=AY (a*b)) rfl rfl Tryz.isAgg42 Tryz.sizeOf42 rfl) (λw hw=>⟨rfl,hw.out⟩))
end
end Go.Proofs.YtpgncndhhhllfaaGreatDoor
