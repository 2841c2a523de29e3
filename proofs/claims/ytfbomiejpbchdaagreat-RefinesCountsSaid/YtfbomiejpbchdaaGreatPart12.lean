import Derived.Test.YtfbomiejpbchdaaGreatPart06
import Derived.Test.YtfbomiejpbchdaaGreatPart11
namespace Go.Proofs.YtfbomiejpbchdaaGreat
open Go Go.RowKit
set_option linter.unusedVariables false
set_option linter.unusedSimpArgs false
section
set_option maxRecDepth 100000
theorem Kx  :Instr.fill ([(0,1),(1,1)].toArray[·]?) (AV 0).toArray []=some (AV 0).toArray:=by kernel_rfl
theorem Od (a b:Nat) (ha:nw a<=1099511627776) (hb:nw b<=1099511627776) (w:World)  :Calls Tryz.prog 146 #[(aG (AV a)),(aG (AV b))] w (Ax w (Value.tuple #[(aG (AV (a-b))),(Value.bool (decide (b<=a)))])):=by
 have hla:=CK a
 have hlb:=CK b
 have hpa:=UP a
 refine Ad (args:=[(aG (AV a)),(aG (AV b))]) Tryz.func146 rfl rfl (Af rfl) (AE.subF (sL [0,1] rfl) (q4 (CB (cs:=AV a) rfl λb1=>CB (cs:=AV b) rfl λb2=>al Fg rfl λb3=>?_)))
 refine AL rfl (q6 (sL [2,3,4,5] rfl) (q4 (BF 2 B6 rfl (BF 1 B6 rfl (BY Tryz.call194 (Ry a b (by omega) (by omega)) rfl ?_)))))
 refine AH (Ag (c:=(decide ((FK a b)<(0:Int)))) rfl rfl rfl) rfl (AD.nil (AC.subF (sL [2,3,4,5,14] rfl) (AC.then_ ?_)))
 refine AE.cond rfl (λhc0=>?_) (λhc0=>?_)
 ·replace hc0:=of_decide_eq_true hc0
  rw [JA] at hc0
  refine q4 (AH (v:=(aG (AV 0))) (AS (zs:=AV 0) (vs:=AV 0) (pv:=[]) (places:=[(0,1),(1,1)]) Tryz.zeroValue47 Tryz.underlying47 (λw=>by simp [Tryz.sizeOf9,Tryz.sizeOf45]) rfl (Kx )) rfl (AD.retell (k:=15) (u:=(aG (AV (a-b)))) rfl (by rw [show a-b=0 by omega]) (A6 rfl Tryz.sizeOf47 rfl (AL rfl (AD.nil ?_)))))
  exact AC.subF (sL [2,3,4,5] rfl) (AC.then_ (AE.ret (AC.then_ret (DM rfl (Ay (i:=0) (cs:=AV (a-b)) rfl rfl Tryz.isAgg47 Tryz.sizeOf47 rfl) (Am (v:=(Value.bool false)) rfl) (λw hw=>⟨by rw [decide_eq_false (show ¬b<=a by omega)],hw.out⟩)))))
 ·replace hc0:=of_decide_eq_false hc0
  rw [JA] at hc0
  have hnb:nw b<=nw a:=DL (by omega)
  refine AE.skip (q1 (q4 (AH (v:=(pP b1 1)) (AA rfl Tryz.underlying47 rfl Tryz.sizeOf9 rfl) rfl (BI 2 (Value.string (Bh a)) TK rfl (AH (B3 (c:=(decide (a<18446744073709551616))) rfl rfl Ck) rfl ?_)))))
  refine AD.nil (AC.subF (sL [2,3,4,5,18] rfl) (AC.then_ ?_))
  refine AE.cond rfl (λhc1=>?_) (λhc1=>?_)
  ·replace hc1:=of_decide_eq_true hc1
   refine q4 (AH (v:=(pP b1 0)) (AA rfl Tryz.underlying47 rfl Tryz.sizeOf45 rfl) rfl (BI 2 (vK .u64 (Bw a)) Gq rfl (AD.retell (k:=20) (u:=(vK .u64 a)) rfl (by rw [Bg hc1]) (AH (v:=(pP b2 0)) (AA rfl Tryz.underlying47 rfl Tryz.sizeOf45 rfl) rfl (BI 1 (vK .u64 (Bw b)) Gq rfl ?_)))))
   refine AD.retell (k:=22) (u:=(vK .u64 b)) rfl (by rw [Bg (by omega)]) (AH (Bf (c:=((a-b:Nat):Int)) rfl rfl (Hm (a:=a) (b:=b) (by omega) (by omega))) rfl (AH (v:=(aG ([(vK .u64 (a-b)),(Value.string (Bh 0))]))) (AS (zs:=AV 0) (vs:=[(vK .u64 (a-b)),(Value.string (Bh 0))]) (pv:=[(0,(vK .u64 (a-b)))]) (places:=[(0,1),(1,1)]) Tryz.zeroValue47 Tryz.underlying47 (λw=>by simp [Tryz.sizeOf9,Tryz.sizeOf45]) rfl rfl) rfl (AD.retell (k:=24) (u:=(aG (AV (a-b)))) rfl (by rw [DQ (by omega)];rfl) (A6 rfl Tryz.sizeOf47 rfl (AL rfl ?_)))))
   exact AD.nil (AC.subF (sL [2,3,4,5] rfl) (AC.then_ (AE.ret (AC.then_ret (DM rfl (Ay (i:=0) (cs:=AV (a-b)) rfl rfl Tryz.isAgg47 Tryz.sizeOf47 rfl) (Am (v:=(Value.bool true)) rfl) (λw hw=>⟨by rw [decide_eq_true (show b<=a by omega)],hw.out⟩))))))
  ·replace hc1:=of_decide_eq_false hc1
   have hpad:Av a=AJ a:=if_neg hc1
   refine AE.skip (q1 (C7 [(0,true),(2,true),(1,false),(3,false),(4,true),(5,true)] sr (Db 2 B6 rfl (Db 1 B6 rfl (AP.imp rfl ?_)))))
   refine AD.callB (V:=λb4=>(Value.slice (some ⟨b4,0,none⟩) (nw a) ((Av a).length))) (T:=101) (cs:=Al (Av a)) (AN rfl) (A8 (args:=[(aG (AV a))]) rfl rfl Tryz.call150) (λw hw=>C3 a (by omega) w) rfl (Af rfl) λb4=>AP.back (sl sr) (AP.imp rfl (AD.callB (V:=λb5=>(Value.slice (some ⟨b5,0,none⟩) (nw b) ((Av b).length))) (T:=101) (cs:=Al (Av b)) (AN rfl) (A8 (args:=[(aG (AV b))]) rfl rfl Tryz.call150) (λw hw=>C3 b (by omega) w) rfl (Af rfl) λb5=>AP.back (sl (sl sr)) (E5 rfl ?_)))
   refine E5 rfl (AP.nil (AC.subF (sL [2,3,4,5,6,7] rfl) (q2 (AL rfl (AD.nil ?_)))))
   refine q1 (q4 (AO rfl (AH (v:=(vN (nw a))) (AF rfl Tryz.underlying232) rfl (AO rfl (AD.nil ?_)))))
   refine AC.subF (sL [2,3,4,5,6,7,8,30,31] rfl) (AC.then_ (AE.block ?_))
   refine AE.lp3 (tg λ(i:Nat) (os:List Nat) (c:Nat)=>i<=nw a/\os.length=nw a/\W32 os/\c<=1/\val os+val ((AJ b).take i)=a+c*4294967296^i) (tg λ(i:Nat) (os:List Nat) (c:Nat)=>[(4,(pP b3 0)),(5,(Value.bool false)),(6,(Value.slice (some ⟨b4,0,none⟩) (nw a) ((Av a).length))),(7,(Value.slice (some ⟨b5,0,none⟩) (nw b) ((Av b).length))),(30,(vN (nw a))),(31,(vN i)),(8,(vK .u32 c))]) (tg λ(i:Nat) (os:List Nat) (c:Nat)=>[Ac b5 101 (Al (Av b)),Ac b4 101 (Al os),Ac b3 47 (AV 0),Ac b2 47 (AV b),Ac b1 47 (AV a)]) (tg λ(i:Nat) (os:List Nat) (c:Nat)=>nw a-i) 0 (Av a) 0 (⟨Nat.zero_le _,by rw [hpad];rfl,CL a,by omega,by rw [P6];simp [val]⟩) (sF rfl) sr (λi os c hJ=>?_)
   obtain ⟨hi,hl,hw32,hcc,hv⟩:=hJ
   refine q4 (AH (Ag (c:=(decide (i<(nw a)))) rfl rfl (DA (a:=i) (b:=nw a))) rfl (AD.nil (q1 ?_)))
   refine AE.cond rfl (λhc2=>?_) (λhc2=>?_)
   ·replace hc2:=of_decide_eq_true hc2
    refine AE.skip (q1 (AE.block (q4 (AO rfl (AL rfl ?_)))))
    refine q3 (sL [4,5,6,7,30,31,8,9] rfl) (AL rfl (AD.nil (q1 (q4 (AO rfl ?_)))))
    refine AO rfl (AH (v:=(vN (nw b))) (AF rfl Tryz.underlying232) rfl (AH (Ag (c:=(decide (i<(nw b)))) rfl rfl (DA (a:=i) (b:=nw b))) rfl (AD.nil (AC.subF (sL [4,5,6,7,30,31,8,9,10,37] rfl) (AC.then_ ?_)))))
    refine AE.jn0 (tg True) (tg [(4,(pP b3 0)),(5,(Value.bool false)),(6,(Value.slice (some ⟨b4,0,none⟩) (nw a) ((Av a).length))),(7,(Value.slice (some ⟨b5,0,none⟩) (nw b) ((Av b).length))),(30,(vN (nw a))),(31,(vN i)),(8,(vK .u32 c)),(9,(vN i)),(10,(vK .u32 ((AJ b).getD i 0)))]) (tg [Ac b5 101 (Al (Av b)),Ac b4 101 (Al os),Ac b3 47 (AV 0),Ac b2 47 (AV b),Ac b1 47 (AV a)]) ?_ ?_
    ·skip
     refine AE.cond rfl (λhc3=>?_) (λhc3=>?_)
     ·replace hc3:=of_decide_eq_true hc3
      refine AE.region (AO rfl (AO rfl (AH (v:=(pP b5 i)) (AI (j:=i) rfl rfl Tryz.underlying232 Tryz.sizeOf101 rfl (by omega) (by simp)) rfl ?_)))
      have hx1:(Av b).getD i 0<4294967296:=W32.getD (CL b) i
      exact AH (AK (i:=0) (v:=(vK .u32 ((Av b).getD i 0))) rfl rfl Tryz.isAgg101 (BH (xs:=Av b) (j:=i) (by omega))) rfl (AD.retell (k:=41) (u:=(vK .u32 ((AJ b).getD i 0))) rfl (by rw [DJ hc3]) (AL rfl (AD.nil (AC.subF (sL [4,5,6,7,30,31,8,9,10] rfl) (AC.join0  (trivial) (sF rfl) sr)))))
     ·replace hc3:=of_decide_eq_false hc3
      exact AE.skip (AC.retell (k:=10) (u:=Value.int .u32 (((AJ b).getD i 0:Nat):Int)) rfl (by rw [EC hc3];rfl) (AC.join0  (trivial) (sF rfl) sr))
    ·intro hJ
     refine AC.then_ (AE.region (AO rfl (AO rfl (AO rfl (AO rfl ?_)))))
     refine AH (v:=(pP b4 i)) (AI (j:=i) rfl rfl Tryz.underlying232 Tryz.sizeOf101 rfl (by omega) (by simp)) rfl ?_
     have hx2:os.getD i 0<4294967296:=W32.getD hw32 i
     refine AH (AK (i:=1) (v:=(vK .u32 (os.getD i 0))) rfl rfl Tryz.isAgg101 (BH (xs:=os) (j:=i) (by omega))) rfl (AO rfl (AO rfl ?_))
     have hyb:=(Bn b).getD i
     refine BY Tryz.call197 (Jz (os.getD i 0) ((AJ b).getD i 0) c _ (by omega) (by omega) (by omega) rfl) rfl (AO rfl (AH (AY (v:=(vK .u32 (((os.getD i 0)+(4294967296-((AJ b).getD i 0))+(4294967296-c))%4294967296))) rfl rfl) rfl (AH (AY (v:=(vK .u32 (Ih (os.getD i 0) (((AJ b).getD i 0)+c)))) rfl rfl) rfl (AH (v:=(pP b4 i)) (AI (j:=i) rfl rfl Tryz.underlying232 Tryz.sizeOf101 rfl (by omega) (by simp)) rfl (AD.store' (i:=1) (off:=i) (vs:=[(vK .u32 (((os.getD i 0)+(4294967296-((AJ b).getD i 0))+(4294967296-c))%4294967296))]) (cs':=Al (os.set i (((os.getD i 0)+(4294967296-((AJ b).getD i 0))+(4294967296-c))%4294967296))) (L':=[Ac b5 101 (Al (Av b)),Ac b4 101 (Al (os.set i (((os.getD i 0)+(4294967296-((AJ b).getD i 0))+(4294967296-c))%4294967296))),Ac b3 47 (AV 0),Ac b2 47 (AV b),Ac b1 47 (AV a)]) (AN rfl) rfl rfl rfl rfl rfl Tryz.sizeOf101 rfl (Cc (BO _) (by omega)) (CD (by omega)) rfl ?_)))))
     refine AL rfl (AD.nil (AC.subF (sL [4,5,6,7,30,31,8,9,10] rfl) (AC.in_normal (AC.then_ (AE.region ?_)))))
     exact AH (AT (c:=((i+1:Nat):Int)) rfl rfl (AR (a:=i) (b:=1) (by omega))) rfl (AO rfl (AD.nil (AC.subF (sL [4,5,6,7,30,31,8,9,10] rfl) (AC.round3 (i+1) (os.set i ((os.getD i 0+(4294967296-(AJ b).getD i 0)+(4294967296-c))%4294967296)) (Ih (os.getD i 0) ((AJ b).getD i 0+c)) (⟨by omega,by rw [List.length_set];exact hl,W32.set hw32 (by omega) i,PB _ _,Te hl hc2 hw32 (Bn b) hcc hv⟩) (by omega) (sF rfl) sr))))
   ·replace hc2:=of_decide_eq_false hc2
    refine AE.exit (AC.then_exit (AC.round3_exit (AC.in_exit (q2 (AO rfl ?_)))))
    refine IC Tryz.call149 (λw hw=>Ig _ (nw a) ((Av a).length) os hw32 (by first|omega|(rw [rowN_length];omega)|simp|(simp;omega)) (by first|omega|simp|(simp;omega)) (by first|omega|simp|(simp;omega)) w (hw.get (i:=1) rfl)) rfl (AD.retell (k:=57) (u:=(aG (AV (a-b)))) rfl (by rw [List.take_of_length_le (show os.length<=nw a by omega),Re (X:=a) (Y:=b) (n:=nw a) (c:=c) (i:=i) hl hw32 (by omega) (by omega) (by rw [<-hv,C5 (by omega)]) (Bv a)]) (Pb rfl Tryz.sizeOf47 rfl (AL rfl (AD.nil (AC.subF (sL [4,5,6,7,30,31,8] rfl) ?_)))))
    exact AC.then_ (AE.ret (DM rfl (Ay (i:=2) (cs:=AV (a-b)) rfl rfl Tryz.isAgg47 Tryz.sizeOf47 rfl) (Am (v:=(Value.bool true)) rfl) (λw hw=>⟨by rw [decide_eq_true (show b<=a by omega)],hw.out⟩)))
theorem OM (a b:Nat) (ha:nw a<=1099511627776) (hb:nw b<=1099511627776) (w:World)  :Calls Tryz.prog 71 #[(aG (AV a)),(aG (AV b))] w (Ax w (aG (AV (a*b)))):=by
 have hla:=CK a
 have hlb:=CK b
 refine Ad (args:=[(aG (AV a)),(aG (AV b))]) Tryz.func71 rfl rfl (Af rfl) (AE.subF (sL [0,1] rfl) (q4 (CB (cs:=AV a) rfl λb1=>CB (cs:=AV b) rfl λb2=>al Fg rfl λb3=>?_)))
 refine q6 (sL [2,3,4] rfl) (q4 (AH (v:=(pP b1 1)) (AA rfl Tryz.underlying47 rfl Tryz.sizeOf9 rfl) rfl (BI 2 (Value.string (Bh a)) TK rfl (AH (B3 (c:=(decide (a<18446744073709551616))) rfl rfl Ck) rfl (AO rfl ?_)))))
 refine AD.mid (FM:=[(2,(pP b1 0)),(3,(pP b2 0)),(4,(pP b3 0)),(15,(pP b1 1)),(16,(Value.string (Bh a))),(17,(Value.bool (decide (a<18446744073709551616)))),(18,(Value.bool (decide (a<18446744073709551616)))),(22,(Value.bool ((decide (a<18446744073709551616))&&(decide (b<18446744073709551616)))))]) (LM:=[Ac b3 47 (AV 0),Ac b2 47 (AV b),Ac b1 47 (AV a)]) 4 ?_ ?_
 ·rcases Bool.eq_false_or_eq_true (decide (a<18446744073709551616)) with hg1|hg1
  ·skip
   refine AD.retell (k:=18) (u:=Value.bool true) rfl (by rw [hg1]) ?_
   have hg1':=hg1
   replace hg1':=of_decide_eq_true hg1'
   exact AD.step (v:=(pP b2 1)) (AB rfl) (AA rfl Tryz.underlying47 rfl Tryz.sizeOf9 rfl) rfl (Af rfl) (AD.step (v:=(Value.string (Bh b))) (AB rfl) (AK (i:=1) (v:=(Value.string (Bh b))) rfl rfl TK.a rfl) rfl (Af rfl) (AD.step (v:=(Value.bool (decide (b<18446744073709551616)))) (AB rfl) (B3 (c:=(decide (b<18446744073709551616))) rfl rfl Ck) rfl (Af rfl) (AH (v:=(Value.bool (decide (b<18446744073709551616)))) (Ae rfl rfl) rfl (AD.nil (AC.mid (sS rfl (sS rfl (sS rfl (sS rfl (sS rfl (sS rfl (sS (by first|rfl|(rw [hg1];rfl)|rw [hg1]) (sS (by first|rfl|(rw [hg1];rfl)|rw [hg1]) (sN))))))))) (List.Sublist.refl _))))))
  ·skip
   refine AD.retell (k:=18) (u:=Value.bool false) rfl (by rw [hg1]) ?_
   have hg1':=hg1
   replace hg1':=of_decide_eq_false hg1'
   exact AD.skip (AM rfl) rfl (Af rfl) (AD.skip (AM rfl) rfl (Af rfl) (AD.skip (AM rfl) rfl (Af rfl) (AH (v:=(Value.bool false)) (Aa rfl rfl) rfl (AD.nil (AC.mid (sS rfl (sS rfl (sS rfl (sS rfl (sS rfl (sS rfl (sS (by first|rfl|(rw [hg1];rfl)|rw [hg1]) (sS (by first|rfl|(rw [hg1];rfl)|rw [hg1]) (sN))))))))) (List.Sublist.refl _))))))
 refine AD.nil (AC.subF (sL [2,3,4,22] rfl) (AC.then_ ?_))
 refine AE.cond rfl (λhc0=>?_) (λhc0=>?_)
 ·simp only [Bool.and_eq_true,Bool.or_eq_true,Bool.and_eq_false_iff,Bool.or_eq_false_iff,Bool.not_eq_true',Bool.not_eq_false',decide_eq_true_eq,decide_eq_false_iff_not] at hc0
  refine q4 (AH (v:=(pP b1 0)) (AA rfl Tryz.underlying47 rfl Tryz.sizeOf45 rfl) rfl (BI 2 (vK .u64 (Bw a)) Gq rfl (AD.retell (k:=25) (u:=(vK .u64 a)) rfl (by rw [Bg hc0.1]) (AH (v:=(pP b2 0)) (AA rfl Tryz.underlying47 rfl Tryz.sizeOf45 rfl) rfl (BI 1 (vK .u64 (Bw b)) Gq rfl ?_)))))
  have hhi:a*b/18446744073709551616<18446744073709551616:=Nat.div_lt_of_lt_mul (Nat.mul_lt_mul'' hc0.1 hc0.2)
  refine AD.retell (k:=27) (u:=(vK .u64 b)) rfl (by rw [Bg hc0.2]) (BY Tryz.call148 (Rv a b (by omega) (by omega)) rfl (AO rfl (AH (AY (v:=(vK .u64 (a*b/18446744073709551616))) rfl rfl) rfl (AH (AY (v:=(vK .u64 (a*b%18446744073709551616))) rfl rfl) rfl (AL rfl ?_)))))
  refine AL rfl (q3 (sL [2,3,4,5,6] rfl) (AO rfl (AH (Ar (c:=(((a*b%18446744073709551616)%4294967296:Nat):Int)) rfl Tryz.underlying45 Tryz.underlying101 D4) rfl (AO rfl (AH (Cj (s:=32) (c:=(((a*b%18446744073709551616)/4294967296:Nat):Int)) rfl rfl rfl (by decide) (Fa (a:=a*b%18446744073709551616) (s:=32))) rfl ?_)))))
  refine AH (Ar (c:=(((a*b%18446744073709551616)/4294967296:Nat):Int)) rfl Tryz.underlying45 Tryz.underlying101 (CS (by omega))) rfl (AO rfl (AH (Ar (c:=(((a*b/18446744073709551616)%4294967296:Nat):Int)) rfl Tryz.underlying45 Tryz.underlying101 D4) rfl (AO rfl (AH (Cj (s:=32) (c:=(((a*b/18446744073709551616)/4294967296:Nat):Int)) rfl rfl rfl (by decide) (Fa (a:=a*b/18446744073709551616) (s:=32))) rfl (AH (Ar (c:=(((a*b/18446744073709551616)/4294967296:Nat):Int)) rfl Tryz.underlying45 Tryz.underlying101 (CS (by omega))) rfl ?_)))))
  refine AD.openV (V:=λb4=>(Value.slice (some ⟨b4,0,none⟩) 4 4)) (T:=101) (cs:=Al ([(a*b%18446744073709551616)%4294967296,(a*b%18446744073709551616)/4294967296,(a*b/18446744073709551616)%4294967296,(a*b/18446744073709551616)/4294967296])) (AN rfl) (Ah (cs:=Al ([(a*b%18446744073709551616)%4294967296,(a*b%18446744073709551616)/4294967296,(a*b/18446744073709551616)%4294967296,(a*b/18446744073709551616)/4294967296])) (pv:=[(0,(vK .u32 ((a*b%18446744073709551616)%4294967296))),(1,(vK .u32 ((a*b%18446744073709551616)/4294967296))),(2,(vK .u32 ((a*b/18446744073709551616)%4294967296))),(3,(vK .u32 ((a*b/18446744073709551616)/4294967296)))]) Tryz.underlying232 Tryz.sizeOf101 Tryz.zeroValue101 (by decide) (by decide) rfl (by kernel_rfl)) rfl (Af rfl) λb4=>IC Tryz.call149 (λw hw=>Ig _ 4 4 ([(a*b%18446744073709551616)%4294967296,(a*b%18446744073709551616)/4294967296,(a*b/18446744073709551616)%4294967296,(a*b/18446744073709551616)/4294967296]) (W32.cons (by omega) (W32.cons (by omega) (W32.cons (by omega) (W32.cons (by omega) (W32.nil))))) (by first|omega|(rw [rowN_length];omega)|simp|(simp;omega)) (by first|omega|simp|(simp;omega)) (by first|omega|simp|(simp;omega)) w (hw.get (i:=0) rfl)) rfl (AD.retell (k:=42) (u:=(aG (AV (a*b)))) rfl (by rw [show ∀x y z t:Nat,[x,y,z,t].take 4=[x,y,z,t] from λ_ _ _ _=>rfl,WW (by omega) hhi,show a*b%18446744073709551616+a*b/18446744073709551616*18446744073709551616=a*b by omega]) (DU rfl Tryz.sizeOf47 rfl (AD.nil (AC.subF (sL [2,3,4] rfl) ?_))))
  exact AC.then_ (AE.ret (AC.then_ret (AU rfl (Ay (i:=1) (cs:=AV (a*b)) rfl rfl Tryz.isAgg47 Tryz.sizeOf47 rfl) (λw hw=>⟨rfl,hw.out⟩))))
 ·simp only [Bool.and_eq_true,Bool.or_eq_true,Bool.and_eq_false_iff,Bool.or_eq_false_iff,Bool.not_eq_true',Bool.not_eq_false',decide_eq_true_eq,decide_eq_false_iff_not] at hc0
  refine AE.skip (q1 (C7 [(0,true),(2,true),(1,false),(3,false),(4,true),(5,true)] sr (Db 2 B6 rfl (Db 1 B6 rfl (AP.imp rfl ?_)))))
  refine AD.callB (V:=λb4=>(Value.slice (some ⟨b4,0,none⟩) (nw a) ((Av a).length))) (T:=101) (cs:=Al (Av a)) (AN rfl) (A8 (args:=[(aG (AV a))]) rfl rfl Tryz.call150) (λw hw=>C3 a (by omega) w) rfl (Af rfl) λb4=>AP.back (sl sr) (AP.imp rfl (AD.callB (V:=λb5=>(Value.slice (some ⟨b5,0,none⟩) (nw b) ((Av b).length))) (T:=101) (cs:=Al (Av b)) (AN rfl) (A8 (args:=[(aG (AV b))]) rfl rfl Tryz.call150) (λw hw=>C3 b (by omega) w) rfl (Af rfl) λb5=>AP.back (sl (sl sr)) (E5 rfl ?_)))
  refine E5 rfl (AP.nil (AC.subF (sL [2,3,4,7,8] rfl) (q2 (AO rfl (AH (v:=(vN (nw a))) (AF rfl Tryz.underlying232) rfl ?_)))))
  refine AO rfl (AH (v:=(vN (nw b))) (AF rfl Tryz.underlying232) rfl (AH (AT (c:=(((nw a)+(nw b):Nat):Int)) rfl rfl (AR (a:=nw a) (b:=nw b) (by omega))) rfl (AD.openV (V:=λb6=>(Value.slice (some ⟨b6,0,none⟩) ((nw a)+(nw b)) ((nw a)+(nw b)))) (T:=101) (cs:=Al (List.replicate ((nw a)+(nw b)) 0)) (AN rfl) (Cy (m:=(nw a)+(nw b)) (c:=(nw a)+(nw b)) rfl rfl (by omega) (by omega)) rfl (Af rfl) λb6=>AL rfl (q6 (sL [2,3,4,7,8,9] rfl) ?_))))
  refine q4 (AO rfl (AH (v:=(vN (nw a))) (AF rfl Tryz.underlying232) rfl (AO rfl (AD.nil (AC.then_ ?_)))))
  refine AE.block ?_
  refine AE.lp2 (tg λ(i:Nat) (os:List Nat)=>i<=nw a/\os.length=nw a+nw b/\W32 os/\val os=val ((AJ a).take i)*b) (tg λ(i:Nat) (os:List Nat)=>[(4,(pP b3 0)),(8,(Value.slice (some ⟨b5,0,none⟩) (nw b) ((Av b).length))),(9,(Value.slice (some ⟨b6,0,none⟩) ((nw a)+(nw b)) ((nw a)+(nw b)))),(53,(Value.slice (some ⟨b4,0,none⟩) (nw a) ((Av a).length))),(54,(vN (nw a))),(55,(vN i))]) (tg λ(i:Nat) (os:List Nat)=>[Ac b6 101 (Al os),Ac b5 101 (Al (Av b)),Ac b4 101 (Al (Av a)),Ac b3 47 (AV 0),Ac b2 47 (AV b),Ac b1 47 (AV a)]) (tg λ(i:Nat) (os:List Nat)=>nw a-i) 0 (List.replicate (nw a+nw b) 0) (⟨Nat.zero_le _,by simp,W32.zeros _,by rw [Dt];simp [val]⟩) (sF rfl) sr (λi os hJ=>?_)
  obtain ⟨hi,hl,hw32,hv⟩:=hJ
  refine q4 (AH (Ag (c:=(decide (i<(nw a)))) rfl rfl (DA (a:=i) (b:=nw a))) rfl (AD.nil (q1 ?_)))
  refine AE.cond rfl (λhc1=>?_) (λhc1=>?_)
  ·replace hc1:=of_decide_eq_true hc1
   refine AE.skip (q1 (AE.block (q4 (AO rfl (AH (v:=(pP b4 i)) (AI (j:=i) rfl rfl Tryz.underlying232 Tryz.sizeOf101 rfl (by omega) (by simp)) rfl ?_)))))
   have hx1:(Av a).getD i 0<4294967296:=W32.getD (CL a) i
   refine AH (AK (i:=2) (v:=(vK .u32 ((Av a).getD i 0))) rfl rfl Tryz.isAgg101 (BH (xs:=Av a) (j:=i) (by omega))) rfl (AD.retell (k:=59) (u:=(vK .u32 ((AJ a).getD i 0))) rfl (by rw [DJ hc1]) (AL rfl (AL rfl (q3 (sL [4,8,9,53,54,55,10,11] rfl) (AL rfl ?_)))))
   refine AD.nil (q1 (q4 (AO rfl (AH (v:=(vN (nw b))) (AF rfl Tryz.underlying232) rfl (AO rfl ?_)))))
   refine AD.nil (AC.then_ (AE.block ?_))
   refine AE.lp3 (tg λ(k:Nat) (xs:List Nat) (c:Nat)=>k<=nw b/\xs.length=nw a+nw b/\W32 xs/\c<4294967296/\(∀j,i+nw b<=j->xs.getD j 0=0)/\val xs+c*4294967296^(i+k)=val ((AJ a).take i)*b+(AJ a).getD i 0*val ((AJ b).take k)*4294967296^i) (tg λ(k:Nat) (xs:List Nat) (c:Nat)=>[(4,(pP b3 0)),(8,(Value.slice (some ⟨b5,0,none⟩) (nw b) ((Av b).length))),(9,(Value.slice (some ⟨b6,0,none⟩) ((nw a)+(nw b)) ((nw a)+(nw b)))),(53,(Value.slice (some ⟨b4,0,none⟩) (nw a) ((Av a).length))),(54,(vN (nw a))),(55,(vN i)),(10,(vN i)),(11,(vK .u32 ((AJ a).getD i 0))),(60,(Value.slice (some ⟨b5,0,none⟩) (nw b) ((Av b).length))),(61,(vN (nw b))),(62,(vN k)),(12,(vK .u64 c))]) (tg λ(k:Nat) (xs:List Nat) (c:Nat)=>[Ac b6 101 (Al xs),Ac b5 101 (Al (Av b)),Ac b4 101 (Al (Av a)),Ac b3 47 (AV 0),Ac b2 47 (AV b),Ac b1 47 (AV a)]) (tg λ(k:Nat) (xs:List Nat) (c:Nat)=>nw b-k) 0 os 0 (⟨Nat.zero_le _,hl,hw32,by omega,Ot hv,by rw [hv];simp [val]⟩) (sF rfl) sr (λk xs c hJ=>?_)
   obtain ⟨hk,hl2,hw2,hcc,h02,hv2⟩:=hJ
   refine q4 (AH (Ag (c:=(decide (k<(nw b)))) rfl rfl (DA (a:=k) (b:=nw b))) rfl (AD.nil (q1 ?_)))
   refine AE.cond rfl (λhc2=>?_) (λhc2=>?_)
   ·replace hc2:=of_decide_eq_true hc2
    refine AE.skip (q1 (AE.block (q4 (AO rfl (AH (v:=(pP b5 k)) (AI (j:=k) rfl rfl Tryz.underlying232 Tryz.sizeOf101 rfl (by omega) (by simp)) rfl ?_)))))
    have hx2:(Av b).getD k 0<4294967296:=W32.getD (CL b) k
    refine AH (AK (i:=1) (v:=(vK .u32 ((Av b).getD k 0))) rfl rfl Tryz.isAgg101 (BH (xs:=Av b) (j:=k) (by omega))) rfl (AD.retell (k:=66) (u:=(vK .u32 ((AJ b).getD k 0))) rfl (by rw [DJ hc2]) (AL rfl (AL rfl (q3 (sL [4,8,9,53,54,55,10,11,60,61,62,12,13,14] rfl) (AO rfl ?_)))))
    refine AO rfl ?_
    have hwa:=(Bn a).getD i
    have hwb:=(Bn b).getD k
    have hml:=Jc hwa hwb
    refine AH (Ar (c:=(((AJ a).getD i 0:Nat):Int)) rfl Tryz.underlying101 Tryz.underlying45 (BS (by omega))) rfl (AO rfl (AH (Ar (c:=(((AJ b).getD k 0:Nat):Int)) rfl Tryz.underlying101 Tryz.underlying45 (BS (by omega))) rfl (AH (BZ (c:=((((AJ a).getD i 0)*((AJ b).getD k 0):Nat):Int)) rfl rfl (Eg (a:=(AJ a).getD i 0) (b:=(AJ b).getD k 0) (by omega))) rfl (AO rfl (AO rfl ?_)))))
    refine AO rfl (AH (AT (c:=((i+k:Nat):Int)) rfl rfl (AR (a:=i) (b:=k) (by omega))) rfl (AH (v:=(pP b6 (i+k))) (AI (j:=i+k) rfl rfl Tryz.underlying232 Tryz.sizeOf101 rfl (by omega) (by simp)) rfl ?_))
    have hx3:xs.getD (i+k) 0<4294967296:=W32.getD hw2 (i+k)
    refine AH (AK (i:=0) (v:=(vK .u32 (xs.getD (i+k) 0))) rfl rfl Tryz.isAgg101 (BH (xs:=xs) (j:=(i+k)) (by omega))) rfl (AH (Ar (c:=((xs.getD (i+k) 0:Nat):Int)) rfl Tryz.underlying101 Tryz.underlying45 (BS (by omega))) rfl (AH (AT (c:=(((((AJ a).getD i 0)*((AJ b).getD k 0))+(xs.getD (i+k) 0):Nat):Int)) rfl rfl (DC (a:=((AJ a).getD i 0)*((AJ b).getD k 0)) (b:=xs.getD (i+k) 0) (by omega))) rfl (AH (AT (c:=((c+((((AJ a).getD i 0)*((AJ b).getD k 0))+(xs.getD (i+k) 0)):Nat):Int)) rfl rfl (DC (a:=c) (b:=(((AJ a).getD i 0)*((AJ b).getD k 0))+(xs.getD (i+k) 0)) (by omega))) rfl (AL rfl (q3 (sL [4,8,9,53,54,55,10,11,60,61,62,12,13] rfl) ?_)))))
    refine AO rfl (AO rfl (AO rfl (AH (AT (c:=((i+k:Nat):Int)) rfl rfl (AR (a:=i) (b:=k) (by omega))) rfl (AO rfl (AH (Ar (c:=(((c+((((AJ a).getD i 0)*((AJ b).getD k 0))+(xs.getD (i+k) 0)))%4294967296:Nat):Int)) rfl Tryz.underlying45 Tryz.underlying101 D4) rfl ?_)))))
    refine AH (v:=(pP b6 (i+k))) (AI (j:=i+k) rfl rfl Tryz.underlying232 Tryz.sizeOf101 rfl (by omega) (by simp)) rfl (AD.store' (i:=0) (off:=(i+k)) (vs:=[(vK .u32 ((c+((((AJ a).getD i 0)*((AJ b).getD k 0))+(xs.getD (i+k) 0)))%4294967296))]) (cs':=Al (xs.set (i+k) ((c+((((AJ a).getD i 0)*((AJ b).getD k 0))+(xs.getD (i+k) 0)))%4294967296))) (L':=[Ac b6 101 (Al (xs.set (i+k) ((c+((((AJ a).getD i 0)*((AJ b).getD k 0))+(xs.getD (i+k) 0)))%4294967296))),Ac b5 101 (Al (Av b)),Ac b4 101 (Al (Av a)),Ac b3 47 (AV 0),Ac b2 47 (AV b),Ac b1 47 (AV a)]) (AN rfl) rfl rfl rfl rfl rfl Tryz.sizeOf101 rfl (Cc (BO _) (by omega)) (CD (by omega)) rfl (AD.nil (AC.subF (sL [4,8,9,53,54,55,10,11,60,61,62,12,13] rfl) (AC.then_ (AE.region ?_)))))
    refine AO rfl (AH (Cj (s:=32) (c:=(((c+((((AJ a).getD i 0)*((AJ b).getD k 0))+(xs.getD (i+k) 0)))/4294967296:Nat):Int)) rfl rfl rfl (by decide) (Fa (a:=c+((((AJ a).getD i 0)*((AJ b).getD k 0))+(xs.getD (i+k) 0))) (s:=32))) rfl (AL rfl (AD.nil (AC.subF (sL [4,8,9,53,54,55,10,11,60,61,62,12,13] rfl) (AC.in_normal ?_)))))
    exact AC.then_ (AE.region (AH (AT (c:=((k+1:Nat):Int)) rfl rfl (AR (a:=k) (b:=1) (by omega))) rfl (AO rfl (AD.nil (AC.subF (sL [4,8,9,53,54,55,10,11,60,61,62,12,13] rfl) (AC.round3 (k+1) (xs.set (i+k) ((c+((AJ a).getD i 0*(AJ b).getD k 0+xs.getD (i+k) 0))%4294967296)) ((c+((AJ a).getD i 0*(AJ b).getD k 0+xs.getD (i+k) 0))/4294967296) (⟨by omega,by rw [List.length_set];exact hl2,W32.set hw2 (by omega) _,by omega,FH h02 (by omega),SI hl2 (by omega) hv2⟩) (by omega) (sF rfl) sr))))))
   ·replace hc2:=of_decide_eq_false hc2
    have hkn:k=nw b:=by omega
    have hbb:val ((AJ b).take k)=b:=C5 (by omega)
    rw [hbb] at hv2
    refine AE.exit (AC.then_exit (AC.round3_exit (AC.in_exit (AC.then_ (AE.region ?_)))))
    refine AO rfl (AO rfl (AO rfl (AH (v:=(vN (nw b))) (AF rfl Tryz.underlying232) rfl (AH (AT (c:=((i+(nw b):Nat):Int)) rfl rfl (AR (a:=i) (b:=nw b) (by omega))) rfl (AO rfl ?_)))))
    refine AH (Ar (c:=((c:Nat):Int)) rfl Tryz.underlying45 Tryz.underlying101 (CS (by omega))) rfl (AH (v:=(pP b6 (i+(nw b)))) (AI (j:=i+(nw b)) rfl rfl Tryz.underlying232 Tryz.sizeOf101 rfl (by omega) (by simp)) rfl (AD.store' (i:=0) (off:=(i+(nw b))) (vs:=[(vK .u32 c)]) (cs':=Al (xs.set (i+(nw b)) c)) (L':=[Ac b6 101 (Al (xs.set (i+(nw b)) c)),Ac b5 101 (Al (Av b)),Ac b4 101 (Al (Av a)),Ac b3 47 (AV 0),Ac b2 47 (AV b),Ac b1 47 (AV a)]) (AN rfl) rfl rfl rfl rfl rfl Tryz.sizeOf101 rfl (Cc (BO _) (by omega)) (CD (by omega)) rfl (AD.nil (AC.subF (sL [4,8,9,53,54,55,10,11,60,61,62,12] rfl) (AC.in_normal ?_)))))
    exact AC.then_ (AE.region (AH (AT (c:=((i+1:Nat):Int)) rfl rfl (AR (a:=i) (b:=1) (by omega))) rfl (AO rfl (AD.nil (AC.subF (sL [4,8,9,53,54,55,10,11,60,61,62,12] rfl) (AC.round2 (i+1) (xs.set (i+nw b) c) (⟨by omega,by rw [List.length_set];exact hl2,W32.set hw2 hcc _,by rw [HS hl2 (by omega) (h02 _ (Nat.le_refl _)),<-U9,<-hv2,<-hkn]⟩) (by omega) (sF rfl) sr))))))
  ·replace hc1:=of_decide_eq_false hc1
   refine AE.exit (AC.then_exit (AC.round2_exit (AC.in_exit (q2 (AO rfl ?_)))))
   refine IC Tryz.call149 (λw hw=>Ig _ ((nw a)+(nw b)) ((nw a)+(nw b)) os hw32 (by first|omega|(rw [rowN_length];omega)|simp|(simp;omega)) (by first|omega|simp|(simp;omega)) (by first|omega|simp|(simp;omega)) w (hw.get (i:=0) rfl)) rfl (AD.retell (k:=102) (u:=(aG (AV (a*b)))) rfl (by rw [List.take_of_length_le (show os.length<=nw a+nw b by omega),hv,C5 (by omega)]) (Nz rfl Tryz.sizeOf47 rfl (AD.nil (AC.subF (sL [4,8,9,53,54,55] rfl) (AC.then_ ?_)))))
   exact AE.ret (AU rfl (Ay (i:=3) (cs:=AV (a*b)) rfl rfl Tryz.isAgg47 Tryz.sizeOf47 rfl) (λw hw=>⟨rfl,hw.out⟩))
end
end Go.Proofs.YtfbomiejpbchdaaGreat
