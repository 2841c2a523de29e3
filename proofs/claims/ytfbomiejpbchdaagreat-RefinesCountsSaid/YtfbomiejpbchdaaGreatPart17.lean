import Derived.Test.YtfbomiejpbchdaaGreatPart06
import Derived.Test.YtfbomiejpbchdaaGreatPart15
import Derived.Test.YtfbomiejpbchdaaGreatPart16
namespace Go.Proofs.YtfbomiejpbchdaaGreat
open Go Go.RowKit
set_option linter.unusedVariables false
set_option linter.unusedSimpArgs false
section
set_option maxRecDepth 100000
theorem FA {N v:Nat} (h:v<4294967296^N):val ((Cb N v).take N)=v:=by
 rw [List.take_of_length_le (by rw [Bd];exact Nat.le_refl _),Ee _ _ h]
theorem QA {a b:Nat} (hb:0<nw b) (h:nw b<=nw a):a/b<4294967296^(nw a+1-nw b):=by
 have h1:=Hg hb
 have h2:=Bv a
 rw [Nat.div_lt_iff_lt_mul (by have:=Nat.pow_pos (n:=nw b-1) (show 0<4294967296 by omega);omega)]
 have h3:4294967296^(nw a+1-nw b)*4294967296^(nw b-1)<=4294967296^(nw a+1-nw b)*b:=Nat.mul_le_mul_left _ h1
 rw [<-Nat.pow_add,show nw a+1-nw b+(nw b-1)=nw a by omega] at h3
 omega
theorem RA {a b:Nat}:a%b<4294967296^(nw a+1):=Nat.lt_of_le_of_lt (Nat.mod_le _ _) (Nat.lt_of_lt_of_le (Bv a) (Nat.pow_le_pow_right (by omega) (by omega)))
theorem O3 {b:Nat} (h:nw b=0):b=0:=by
 have:=Bv b
 rw [h] at this
 omega
theorem VB {b:Nat} (h:nw b=1):(Av b).getD 0 0=b/\b<4294967296:=by
 have h1:=Bv b
 rw [h] at h1
 refine ⟨?_,by omega⟩
 rw [DJ (by omega),G4,Nat.pow_zero,Nat.div_one,Nat.mod_eq_of_lt (by omega)]
theorem K5  :Instr.fill ([(0,1),(1,1)].toArray[·]?) (AV 0).toArray []=some (AV 0).toArray:=by kernel_rfl
theorem O0 (a b:Nat) (ha:nw a<=1099511627776) (hb:nw b<=1099511627776) (hb0:b≠0) (w:World)  :Calls Tryz.prog 145 #[(aG (AV a)),(aG (AV b))] w (Ax w (Value.tuple #[(aG (AV (a/b))),(aG (AV (a%b))),(Value.bool true)])):=by
 have hnb:nw b≠0:=λh=>hb0 (O3 h)
 have hla:=CK a
 have hlb:=CK b
 refine Ad (args:=[(aG (AV a)),(aG (AV b))]) Tryz.func145 rfl rfl (Af rfl) (AE.subF (sL [0,1] rfl) (q4 (CB (cs:=AV a) rfl λb1=>CB (cs:=AV b) rfl λb2=>al Fg rfl λb3=>?_)))
 refine al Fg rfl λb4=>AL rfl (q6 (sL [2,3,4,5,6] rfl) (AE.block (q4 (BF 2 B6 rfl ?_))))
 refine BY Tryz.call193 (PW b) rfl (AL rfl (AD.nil (AC.subF (sL [2,3,4,5,6,12] rfl) (AC.then_ ?_))))
 refine AE.cond rfl (λhc0=>?_) (λhc0=>?_)
 ·replace hc0:=of_decide_eq_true hc0
  exact absurd hc0 hb0
 ·replace hc0:=of_decide_eq_false hc0
  refine q4 (BF 3 B6 rfl (BF 2 B6 rfl (BY Tryz.call194 (Ry a b (by omega) (by omega)) rfl (AH (Ag (c:=(decide ((FK a b)<(0:Int)))) rfl rfl rfl) rfl (AL rfl ?_)))))
  refine AD.nil (AC.subF (sL [2,3,4,5,6,17] rfl) (AC.then_ ?_))
  refine AE.cond rfl (λhc1=>?_) (λhc1=>?_)
  ·replace hc1:=of_decide_eq_true hc1
   rw [JA] at hc1
   have e1:a/b=0:=Nat.div_eq_of_lt hc1
   have e2:a%b=a:=Nat.mod_eq_of_lt hc1
   refine AE.seq (C7 [(0,true),(1,true),(2,false),(3,false),(4,true)] (sl (sl sr)) (Au (v:=(aG (AV 0))) rfl (AS (zs:=AV 0) (vs:=AV 0) (pv:=[]) (places:=[(0,1),(1,1)]) Tryz.zeroValue47 Tryz.underlying47 (λw=>by simp [Tryz.sizeOf9,Tryz.sizeOf45]) rfl (K5 )) (Db 1 B6 rfl (AP.imp rfl (DU rfl Tryz.sizeOf47 rfl ?_)))))
   refine AP.back (sl (sl sr)) (AP.imp rfl (A6 rfl Tryz.sizeOf47 rfl (AP.back (sl (sl sr)) (E5 rfl (AP.nil ?_)))))
   exact AC.subF (sL [2,3,4,5,6] rfl) (AC.then_ (AE.ret (AC.in_ret (AC.then_ret (FQ rfl (Ay (i:=1) (cs:=AV 0) rfl rfl Tryz.isAgg47 Tryz.sizeOf47 rfl) (Ay (i:=0) (cs:=AV a) rfl rfl Tryz.isAgg47 Tryz.sizeOf47 rfl) (Am (v:=(Value.bool true)) rfl) (λw hw=>⟨by rw [e1,e2],hw.out⟩))))))
  ·replace hc1:=of_decide_eq_false hc1
   rw [JA] at hc1
   have hba:nw b<=nw a:=DL (by omega)
   refine q4 (AH (v:=(pP b1 1)) (AA rfl Tryz.underlying47 rfl Tryz.sizeOf9 rfl) rfl (BI 3 (Value.string (Bh a)) TK rfl (AH (B3 (c:=(decide (a<18446744073709551616))) rfl rfl Ck) rfl (AL rfl (AD.nil ?_)))))
   refine AC.subF (sL [2,3,4,5,6,24] rfl) (AC.then_ ?_)
   refine AE.cond rfl (λhc2=>?_) (λhc2=>?_)
   ·replace hc2:=of_decide_eq_true hc2
    have la:Bw a=a:=Bg hc2
    have lb:Bw b=b:=Bg (by omega)
    have q1:a/b<18446744073709551616:=Nat.lt_of_le_of_lt (Nat.div_le_self _ _) hc2
    have q2:a%b<18446744073709551616:=Nat.lt_of_le_of_lt (Nat.mod_le _ _) hc2
    refine AE.seq (C7 [(0,true),(1,true),(2,true),(3,true),(4,true),(5,true),(6,true),(7,true),(8,true),(9,true),(10,true),(11,true),(12,false),(13,false),(14,true)] (sl (sl sr)) (Au (v:=(pP b1 0)) rfl (AA rfl Tryz.underlying47 rfl Tryz.sizeOf45 rfl) (Bk 1 (vK .u64 (Bw a)) Gq rfl (Au (v:=(pP b2 0)) rfl (AA rfl Tryz.underlying47 rfl Tryz.sizeOf45 rfl) (Bk 0 (vK .u64 (Bw b)) Gq rfl ?_)))))
    refine Au rfl (GV (c:=(((Bw a)/(Bw b):Nat):Int)) rfl rfl (by omega) (J0 (a:=Bw a) (b:=Bw b) (by omega))) (Au (v:=(aG ([(vK .u64 ((Bw a)/(Bw b))),(Value.string (Bh 0))]))) rfl (AS (zs:=AV 0) (vs:=[(vK .u64 ((Bw a)/(Bw b))),(Value.string (Bh 0))]) (pv:=[(0,(vK .u64 ((Bw a)/(Bw b))))]) (places:=[(0,1),(1,1)]) Tryz.zeroValue47 Tryz.underlying47 (λw=>by simp [Tryz.sizeOf9,Tryz.sizeOf45]) rfl rfl) (Au (v:=(pP b1 0)) rfl (AA rfl Tryz.underlying47 rfl Tryz.sizeOf45 rfl) (Bk 1 (vK .u64 (Bw a)) Gq rfl (Au (v:=(pP b2 0)) rfl (AA rfl Tryz.underlying47 rfl Tryz.sizeOf45 rfl) (Bk 0 (vK .u64 (Bw b)) Gq rfl ?_)))))
    refine Au rfl (CN (c:=(((Bw a)%(Bw b):Nat):Int)) rfl rfl (by omega) (IS (a:=Bw a) (b:=Bw b))) (Au (v:=(aG ([(vK .u64 ((Bw a)%(Bw b))),(Value.string (Bh 0))]))) rfl (AS (zs:=AV 0) (vs:=[(vK .u64 ((Bw a)%(Bw b))),(Value.string (Bh 0))]) (pv:=[(0,(vK .u64 ((Bw a)%(Bw b))))]) (places:=[(0,1),(1,1)]) Tryz.zeroValue47 Tryz.underlying47 (λw=>by simp [Tryz.sizeOf9,Tryz.sizeOf45]) rfl rfl) (AP.imp rfl (DU rfl Tryz.sizeOf47 rfl (AP.back (sl (sl sr)) (AP.imp rfl ?_)))))
    refine A6 rfl Tryz.sizeOf47 rfl (AP.back (sl (sl sr)) (E5 rfl (AP.nil (AC.subF (sL [2,3,4,5,6] rfl) (AC.then_ ?_)))))
    exact AE.ret (AC.in_ret (AC.then_ret (FQ rfl (Ay (i:=1) (cs:=[(vK .u64 ((Bw a)/(Bw b))),(Value.string (Bh 0))]) rfl rfl Tryz.isAgg47 Tryz.sizeOf47 rfl) (Ay (i:=0) (cs:=[(vK .u64 ((Bw a)%(Bw b))),(Value.string (Bh 0))]) rfl rfl Tryz.isAgg47 Tryz.sizeOf47 rfl) (Am (v:=(Value.bool true)) rfl) (λw hw=>⟨by rw [DQ q1,DQ q2,la,lb];rfl,hw.out⟩))))
   ·replace hc2:=of_decide_eq_false hc2
    refine AE.skip (AC.in_normal (q2 (BF 2 B6 rfl (AD.callB (V:=λb5=>(Value.slice (some ⟨b5,0,none⟩) (nw b) ((Av b).length))) (T:=101) (cs:=Al (Av b)) (AN rfl) (A8 (args:=[(aG (AV b))]) rfl rfl Tryz.call150) (λw hw=>C3 b (by omega) w) rfl (Af rfl) λb5=>AL rfl ?_))))
    refine q6 (sL [2,3,4,5,6,7] rfl) (q4 (AO rfl (AH (v:=(vN (nw b))) (AF rfl Tryz.underlying232) rfl (AH (Bp (c:=(decide ((nw b)=1))) rfl rfl (Pm (a:=nw b) (b:=1))) rfl (AD.nil ?_)))))
    refine AC.subF (sL [2,3,4,5,6,7,44] rfl) (AC.then_ ?_)
    refine AE.cond rfl (λhc3=>?_) (λhc3=>?_)
    ·replace hc3:=of_decide_eq_true hc3
     obtain ⟨hy,hy2⟩:=VB hc3
     refine AE.seq (C7 [(0,true),(2,true),(3,true),(4,true),(1,false),(5,false),(6,true),(7,true),(8,true),(9,true),(10,true)] sr (Db 4 B6 rfl (Bl rfl (Au (v:=(pP b5 0)) rfl (AI (j:=0) rfl rfl Tryz.underlying232 Tryz.sizeOf101 rfl (by omega) rfl) ?_))))
     have hx1:(Av b).getD 0 0<4294967296:=W32.getD (CL b) 0
     refine Au rfl (AK (i:=0) (v:=(vK .u32 ((Av b).getD 0 0))) rfl rfl Tryz.isAgg101 (BH (xs:=Av b) (j:=0) (by omega))) (AP.imp rfl (AD.callB (V:=λb6=>(Value.slice (some ⟨b6,0,none⟩) (nw a) ((Av a).length))) (T:=101) (cs:=Al (Av a)) (AN rfl) (A8 (args:=[(aG (AV a))]) rfl rfl Tryz.call150) (λw hw=>C3 a (by omega) w) rfl (Af rfl) λb6=>AP.back (sl sr) (AP.imp rfl (AD.callB (V:=λb7=>(Value.tuple #[(Value.slice (some ⟨b7,0,none⟩) (nw a) (nw a)),(vK .u32 (a%((Av b).getD 0 0)))])) (T:=101) (cs:=Al (Cb (nw a) (a/((Av b).getD 0 0)))) (AN rfl) (A8 (args:=[(Value.slice (some ⟨b6,0,none⟩) (nw a) ((Av a).length)),(vK .u32 ((Av b).getD 0 0))]) rfl rfl Tryz.call195) (λw hw=>SN a ((Av b).getD 0 0) _ _ (by omega) (by omega) (by omega) w (hw.get (i:=0) rfl)) rfl (Af rfl) λb7=>?_))))
     refine AP.back (sl (sl sr)) (Bl rfl (Au rfl (AY (v:=(Value.slice (some ⟨b7,0,none⟩) (nw a) (nw a))) rfl rfl) (Au rfl (AY (v:=(vK .u32 (a%((Av b).getD 0 0)))) rfl rfl) (E5 rfl (E5 rfl ?_)))))
     refine AP.nil (AC.subF (sL [2,3,4,5,6,7,8,9] rfl) (q2 (AO rfl (IC Tryz.call149 (λw hw=>Ig _ (nw a) (nw a) (Cb (nw a) (a/((Av b).getD 0 0))) (Dd _ _) (by first|omega|(rw [Bd];omega)|simp|(simp;omega)) (by first|omega|simp|(simp;omega)) (by first|omega|simp|(simp;omega)) w (hw.get (i:=0) rfl)) rfl (AD.retell (k:=55) (u:=(aG (AV (a/b)))) rfl (by rw [hy,FA (Nat.lt_of_le_of_lt (Nat.div_le_self _ _) (Bv a))]) ?_)))))
     refine AO rfl ?_
     have hmb:a%(Av b).getD 0 0<4294967296:=by rw [hy];exact Nat.lt_of_lt_of_le (Nat.mod_lt _ (by omega)) (by omega)
     refine AH (Ar (c:=((a%((Av b).getD 0 0):Nat):Int)) rfl Tryz.underlying101 Tryz.underlying45 (BS (by omega))) rfl (AH (v:=(aG ([(vK .u64 (a%((Av b).getD 0 0))),(Value.string (Bh 0))]))) (AS (zs:=AV 0) (vs:=[(vK .u64 (a%((Av b).getD 0 0))),(Value.string (Bh 0))]) (pv:=[(0,(vK .u64 (a%((Av b).getD 0 0))))]) (places:=[(0,1),(1,1)]) Tryz.zeroValue47 Tryz.underlying47 (λw=>by simp [Tryz.sizeOf9,Tryz.sizeOf45]) rfl rfl) rfl (AD.retell (k:=58) (u:=(aG (AV (a%b)))) rfl (by rw [hy] at hmb ⊢;rw [DQ (by omega)];rfl) (Gn 4 (off:=0) (vs:=AV (a/b)) (cs':=AV (a/b)) (AN rfl) rfl Tryz.sizeOf47 rfl (Nz rfl Tryz.sizeOf47 rfl (AL rfl ?_)))))
     exact AD.nil (AC.subF (sL [2,3,4,5,6,7] rfl) (AC.then_ (AE.ret (AC.then_ret (FQ rfl (Ay (i:=4) (cs:=AV (a/b)) rfl rfl Tryz.isAgg47 Tryz.sizeOf47 rfl) (Ay (i:=3) (cs:=AV (a%b)) rfl rfl Tryz.isAgg47 Tryz.sizeOf47 rfl) (Am (v:=(Value.bool true)) rfl) (λw hw=>⟨rfl,hw.out⟩))))))
    ·replace hc3:=of_decide_eq_false hc3
     refine AE.skip (q2 (BF 4 B6 rfl (AD.callB (V:=λb6=>(Value.slice (some ⟨b6,0,none⟩) (nw a) ((Av a).length))) (T:=101) (cs:=Al (Av a)) (AN rfl) (A8 (args:=[(aG (AV a))]) rfl rfl Tryz.call150) (λw hw=>C3 a (by omega) w) rfl (Af rfl) λb6=>AO rfl (AD.callBB (V:=λb7 b8=>(Value.tuple #[(Value.slice (some ⟨b7,0,none⟩) (nw a+1-nw b) (nw a+1-nw b)),(Value.slice (some ⟨b8,0,none⟩) (nw a+1) (nw a+1))])) (T:=101) (cs:=Al (Cb (nw a+1-nw b) (a/b))) (T2:=101) (cs2:=Al (Cb (nw a+1) (a%b))) (AN rfl) (A8 (args:=[(Value.slice (some ⟨b6,0,none⟩) (nw a) ((Av a).length)),(Value.slice (some ⟨b5,0,none⟩) (nw b) ((Av b).length))]) rfl rfl Tryz.call196) (λw hw=>Us a b _ _ _ _ (by omega) (by omega) (by omega) w (hw.get (i:=0) rfl) (hw.get (i:=1) rfl)) rfl (Af rfl) λb7 b8=>?_))))
     refine AO rfl (AH (AY (v:=(Value.slice (some ⟨b7,0,none⟩) (nw a+1-nw b) (nw a+1-nw b))) rfl rfl) rfl (AH (AY (v:=(Value.slice (some ⟨b8,0,none⟩) (nw a+1) (nw a+1))) rfl rfl) rfl (AL rfl (AL rfl (q3 (sL [2,3,4,5,6,7,10,11] rfl) ?_)))))
     refine AO rfl (IC Tryz.call149 (λw hw=>Ig _ (nw a+1-nw b) (nw a+1-nw b) (Cb (nw a+1-nw b) (a/b)) (Dd _ _) (by first|omega|(rw [Bd];omega)|simp|(simp;omega)) (by first|omega|simp|(simp;omega)) (by first|omega|simp|(simp;omega)) w (hw.get (i:=0) rfl)) rfl (AD.retell (k:=67) (u:=(aG (AV (a/b)))) rfl (by rw [FA (QA (by omega) hba)]) (AO rfl (IC Tryz.call149 (λw hw=>Ig _ (nw a+1) (nw a+1) (Cb (nw a+1) (a%b)) (Dd _ _) (by first|omega|(rw [Bd];omega)|simp|(simp;omega)) (by first|omega|simp|(simp;omega)) (by first|omega|simp|(simp;omega)) w (hw.get (i:=1) rfl)) rfl (AD.retell (k:=69) (u:=(aG (AV (a%b)))) rfl (by rw [FA RA]) ?_)))))
     refine Gn 5 (off:=0) (vs:=AV (a/b)) (cs':=AV (a/b)) (AN rfl) rfl Tryz.sizeOf47 rfl (Gn 4 (off:=0) (vs:=AV (a%b)) (cs':=AV (a%b)) (AN rfl) rfl Tryz.sizeOf47 rfl (AL rfl (AD.nil (AC.subF (sL [2,3,4,5,6,7] rfl) (AC.then_ ?_)))))
     exact AE.ret (FQ rfl (Ay (i:=5) (cs:=AV (a/b)) rfl rfl Tryz.isAgg47 Tryz.sizeOf47 rfl) (Ay (i:=4) (cs:=AV (a%b)) rfl rfl Tryz.isAgg47 Tryz.sizeOf47 rfl) (Am (v:=(Value.bool true)) rfl) (λw hw=>⟨rfl,hw.out⟩))
theorem Ws (a b:Nat) (ha:nw a<=1099511627776) (hb:nw b<=1099511627776) (w:World)  :Calls Tryz.prog 144 #[(aG (AV a)),(aG (AV b))] w (Ax w (aG (AV (Nat.gcd a b)))):=by
 refine Ad (args:=[(aG (AV a)),(aG (AV b))]) Tryz.func144 rfl rfl (Af rfl) (AE.subF (sL [0,1] rfl) (q4 (CB (cs:=AV a) rfl λb1=>CB (cs:=AV b) rfl λb2=>al Fg rfl λb3=>?_)))
 refine q6 (sL [2,3,4] rfl) (AE.block ?_)
 refine AE.lp2 (tg λ(x:Nat) (y:Nat)=>Nat.gcd x y=Nat.gcd a b/\nw x<=1099511627776/\nw y<=1099511627776) (tg λ(x:Nat) (y:Nat)=>[(2,(pP b1 0)),(3,(pP b2 0)),(4,(pP b3 0))]) (tg λ(x:Nat) (y:Nat)=>[Ac b3 47 (AV 0),Ac b2 47 (AV y),Ac b1 47 (AV x)]) (tg λ(x:Nat) (y:Nat)=>y) a b (⟨rfl,ha,hb⟩) (sF rfl) sr (λx y hJ=>?_)
 obtain ⟨hg,hx,hy⟩:=hJ
 refine AE.seq (q4 (BF 1 B6 rfl (BY Tryz.call193 (PW y) rfl (AH (CR (c:=(!(decide (y=0)))) rfl rfl) rfl (AD.nil ?_)))))
 refine AC.subF (sL [2,3,4,10] rfl) (AC.then_ ?_)
 refine AE.cond rfl (λhc0=>?_) (λhc0=>?_)
 ·simp only [Bool.and_eq_true,Bool.or_eq_true,Bool.and_eq_false_iff,Bool.or_eq_false_iff,Bool.not_eq_true',Bool.not_eq_false',decide_eq_true_eq,decide_eq_false_iff_not] at hc0
  refine AE.skip (AC.then_ (AE.block (q4 (BF 2 B6 rfl (BF 1 B6 rfl ?_)))))
  refine BY Tryz.call145 (O0 x y (by omega) (by omega) (by omega)) rfl (AO rfl (AH (AY (v:=(aG (AV (x/y)))) rfl rfl) rfl (AH (AY (v:=(aG (AV (x%y)))) rfl rfl) rfl (AH (AY (v:=(Value.bool true)) rfl rfl) rfl (al Fg rfl λb4=>?_)))))
  refine al Fg rfl λb5=>DU rfl Tryz.sizeOf47 rfl (A6 rfl Tryz.sizeOf47 rfl (AL rfl (AD.nil (AC.subF (sL [2,3,4,6] rfl) ?_))))
  refine AC.then_ (C7 [(1,true),(0,false),(2,false),(3,false)] (sk (sk (sk (sl (sl sr))))) (Db 0 B6 rfl (AP.imp rfl (BF 3 B6 rfl (AP.back (sk (sk (sk (sl (sl sr))))) ?_)))))
  refine AP.imp rfl (Gn 4 (off:=0) (vs:=AV y) (cs':=AV y) (AN rfl) rfl Tryz.sizeOf47 rfl (AP.back (sk (sk (sk (sl (sl sr))))) (AP.imp rfl (Nz rfl Tryz.sizeOf47 rfl (AP.back (sk (sk (sk (sl (sl sr))))) ?_)))))
  exact AP.nil (AC.subF (sL [2,3,4,6] rfl) (AC.in_normal (AC.round2 y (x%y) (⟨by rw [<-hg,Nat.gcd_comm x y,Nat.gcd_rec y x,Nat.gcd_comm],hy,Nat.le_trans (DL (Nat.mod_le _ _)) hx⟩) (Nat.mod_lt _ (by omega)) (sF rfl) (sl (sl sr)))))
 ·simp only [Bool.and_eq_true,Bool.or_eq_true,Bool.and_eq_false_iff,Bool.or_eq_false_iff,Bool.not_eq_true',Bool.not_eq_false',decide_eq_true_eq,decide_eq_false_iff_not] at hc0
  have hy0:y=0:=by omega
  have hxg:x=Nat.gcd a b:=by rw [<-hg,hy0,Nat.gcd_zero_right]
  refine AE.exit (AC.then_exit (AC.round2_exit (AC.in_exit (q2 (BF 2 B6 rfl ?_)))))
  exact A6 rfl Tryz.sizeOf47 rfl (AD.nil (AC.subF (sL [2,3,4] rfl) (AC.then_ (AE.ret (AU rfl (Ay (i:=0) (cs:=AV x) rfl rfl Tryz.isAgg47 Tryz.sizeOf47 rfl) (λw hw=>⟨by rw [hxg],hw.out⟩))))))
end
def Ea (neg:Bool) (n:Nat):Int:=if neg then -(n:Int) else (n:Int)
theorem Tb (n:Nat):BB (Ea true n)=AV n++[.bool (!(decide (n=0)))]:=by
  simp only [BB,AV,Ea,if_true,Int.natAbs_neg,Int.natAbs_natCast,List.cons_append,List.nil_append]
  have e:decide (-(n:Int)<0)=!(decide (n=0)):=by
    by_cases h:n=0
    · subst h;rfl
    · simp [h];omega
  rw [e]
theorem SK (n:Nat):BB (Ea false n)=AV n++[.bool false]:=by
  simp only [BB,AV,Ea,Int.natAbs_natCast,List.cons_append,List.nil_append]
  have e:decide ((n:Int)<0)=false:=by simp
  simp [e]
theorem Nm (D a b:Nat):Et Tryz.prog (D+3) 49 (.agg (AV a).toArray) (.agg (AV b).toArray) (decide (a=b)):=by
  have h:=Et.struct (D:=D+2) (xs:=AV a) (ys:=AV b) Tryz.underlying49 Tryz.stoodInHeld49 (IK.agg (us:=AV a) (bs:=AV b) (by decide) Tryz.isAgg47 Tryz.sizeOf47 rfl rfl (Ge D a b) IK.nil)
  simpa using h
theorem Az (neg:Bool) (n:Nat):(Ea neg n).natAbs=n:=by cases neg<;>simp [Ea]
theorem VU (a:Int):Ea (!(decide (a<0))) a.natAbs = -a:=by
  unfold Ea
  by_cases h:a<0
  · simp [h];omega
  · simp [h];omega
theorem Vz (a b:Int):Ea (!(decide (a<0) == decide (b<0))) (a.natAbs*b.natAbs)=a*b:=by
  rw [<-Int.natAbs_mul]
  unfold Ea
  by_cases h:a<0<;>by_cases h':b<0
  · have:=Int.mul_pos_of_neg_of_neg h h';simp [h,h'];omega
  · have:a*b<=0:=Int.mul_nonpos_of_nonpos_of_nonneg (by omega) (by omega)
    simp [h,h'];omega
  · have:a*b<=0:=Int.mul_nonpos_of_nonneg_of_nonpos (by omega) (by omega)
    simp [h,h'];omega
  · have:0<=a*b:=Int.mul_nonneg (by omega) (by omega)
    simp [h,h'];omega
theorem MS {a b:Int} (h:(decide (a<0) == decide (b<0))=true):Ea (decide (a<0)) (a.natAbs+b.natAbs)=a+b:=by
  unfold Ea
  by_cases h1:a<0<;>by_cases h2:b<0<;>simp [h1,h2] at h ⊢<;>omega
theorem Og {a b:Int} (h:(decide (a<0) == decide (b<0))=false) (h3:b.natAbs<=a.natAbs):Ea (decide (a<0)) (a.natAbs-b.natAbs)=a+b:=by
  unfold Ea
  by_cases h1:a<0<;>by_cases h2:b<0<;>simp [h1,h2] at h ⊢<;>omega
theorem OG {a b:Int} (h:(decide (a<0) == decide (b<0))=false) (h3:¬b.natAbs<=a.natAbs):Ea (decide (b<0)) (b.natAbs-a.natAbs)=a+b:=by
  unfold Ea
  by_cases h1:a<0<;>by_cases h2:b<0<;>simp [h1,h2] at h ⊢<;>omega
theorem YP {z:Int} (h:z<0) (h2:-9223372036854775808<=z):IntKind.u64.wrap (-(IntKind.u64.wrap z))=((z.natAbs:Nat):Int):=by
  simp only [IntKind.wrap,IntKind.bits,IntKind.signed];simp;omega
theorem KU {z:Int} (h:z<0):Ea true z.natAbs=z:=by unfold Ea;simp;omega
theorem QJ {z:Int} (h:¬z<0):Ea false z.natAbs=z:=by unfold Ea;simp;omega
section
set_option maxRecDepth 100000
theorem K2  :Instr.fill ([(0,2)].toArray[·]?) (AV 0).toArray []=some (AV 0).toArray:=by kernel_rfl
theorem Hn (n:Nat) (w:World)  :Calls Tryz.prog 182 #[(aG (AV n))] w (Ax w (Value.bool (decide (n=0)))):=by
 refine Ad (args:=[(aG (AV n))]) Tryz.func182 rfl rfl (Af rfl) (AE.subF (sL [0] rfl) (q4 (CB (cs:=AV n) rfl λb1=>AL rfl (q3 (sL [1,2] rfl) ?_))))
 refine BF 0 Qr rfl (AH (v:=(aG (AV 0))) (AS (zs:=AV 0) (vs:=AV 0) (pv:=[]) (places:=[(0,2)]) Tryz.zeroValue49 Tryz.underlying49 (λw=>by simp [Tryz.sizeOf47]) rfl (K2 )) rfl (AH (Be (c:=(decide (n=0))) rfl rfl Tryz.eqGuardType49 (Nm 9997 n 0)) rfl (AL rfl (AD.nil (AC.subF (sL [2] rfl) ?_)))))
 exact AC.then_ (AE.ret (AU rfl (Am (v:=(Value.bool (decide (n=0)))) rfl) (λw hw=>⟨rfl,hw.out⟩)))
theorem Ei (x0:Nat):Instr.fill ([(0,2)].toArray[·]?) (AV 0).toArray [(0,.agg (AV x0).toArray)]=some (AV x0).toArray:=by kernel_rfl
theorem RG (n:Nat) (w:World)  :Calls Tryz.prog 140 #[(Value.bool true),(aG (AV n))] w (Ax w (aG (BB (Ea true n)))):=by
 refine Ad (args:=[(Value.bool true),(aG (AV n))]) Tryz.func140 rfl rfl (Af rfl) (AE.subF (sL [0,1] rfl) (q4 (CB (cs:=AV n) rfl λb1=>al It rfl λb2=>q3 (sL [0,3,4] rfl) ?_)))
 refine BF 1 B6 rfl (AH (v:=(aG (AV n))) (AS (zs:=AV 0) (vs:=AV n) (pv:=[(0,(aG (AV n)))]) (places:=[(0,2)]) Tryz.zeroValue49 Tryz.underlying49 (λw=>by simp [Tryz.sizeOf47]) rfl (Ei n)) rfl (al XK rfl λb3=>A6 rfl Tryz.sizeOf49 rfl (q6 (sL [0,4,5] rfl) (C7 [(0,true),(1,true),(2,true),(3,true),(4,false),(5,true),(6,true),(7,true),(8,false)] (sk (sl sr)) ?_))))
 refine Db 0 Qr rfl (Bl rfl (Bl rfl (AP.pas (v:=(aG (AV n))) rfl (AB rfl) (Ak (i:=0) (vs:=AV n) rfl rfl Qr.a Qr.s rfl rfl) rfl rfl (AP.imp rfl (AD.call (v:=(Value.bool (decide (n=0)))) (AB rfl) (A8 (args:=[(aG (AV n))]) rfl rfl Tryz.call182) (λw hw=>Hn n w) rfl (Af rfl) ?_)))))
 refine AP.back (sk (sl sr)) (AP.pas (v:=(Value.bool (!(decide (n=0))))) rfl (AB rfl) (CR (c:=(!(decide (n=0)))) rfl rfl) rfl rfl (Au (v:=(Value.bool (!(decide (n=0))))) rfl (Ae rfl rfl) (Au (v:=(aG (AV n++[(Value.bool (!(decide (n=0))))]))) rfl (AS (zs:=BB 0) (vs:=AV n++[(Value.bool (!(decide (n=0))))]) (pv:=[(0,(aG (AV n))),(1,(Value.bool (!(decide (n=0)))))]) (places:=[(0,2),(2,1)]) Tryz.zeroValue51 Tryz.underlying51 (λw=>by simp [Tryz.sizeOf4,Tryz.sizeOf49]) rfl rfl) (AP.imp rfl (DU rfl Tryz.sizeOf51 rfl ?_)))))
 exact AP.back (sk (sl sr)) (AP.nil (AC.subF (sL [4,5] rfl) (AC.then_ (AE.ret (AU rfl (Ay (i:=1) (cs:=AV n++[(Value.bool (!(decide (n=0))))]) rfl rfl Tryz.isAgg51 Tryz.sizeOf51 rfl) (λw hw=>⟨by rw [Tb],hw.out⟩))))))
theorem Oj (n:Nat) (w:World)  :Calls Tryz.prog 140 #[(Value.bool false),(aG (AV n))] w (Ax w (aG (BB (Ea false n)))):=by
 refine Ad (args:=[(Value.bool false),(aG (AV n))]) Tryz.func140 rfl rfl (Af rfl) (AE.subF (sL [0,1] rfl) (q4 (CB (cs:=AV n) rfl λb1=>al It rfl λb2=>q3 (sL [0,3,4] rfl) ?_)))
 refine BF 1 B6 rfl (AH (v:=(aG (AV n))) (AS (zs:=AV 0) (vs:=AV n) (pv:=[(0,(aG (AV n)))]) (places:=[(0,2)]) Tryz.zeroValue49 Tryz.underlying49 (λw=>by simp [Tryz.sizeOf47]) rfl (Ei n)) rfl (al XK rfl λb3=>A6 rfl Tryz.sizeOf49 rfl (q6 (sL [0,4,5] rfl) (C7 [(0,true),(1,true),(2,true),(3,true),(4,false),(5,true),(6,true),(7,true),(8,false)] (sk (sl sr)) ?_))))
 refine Db 0 Qr rfl (Bl rfl (Bl rfl (AP.skp rfl (AM rfl) rfl rfl (AP.imp rfl (AD.skip (AM rfl) rfl (Af rfl) ?_)))))
 refine AP.back (sk (sl sr)) (AP.skp rfl (AM rfl) rfl rfl (Au (v:=(Value.bool false)) rfl (Aa rfl rfl) (Au (v:=(aG (AV n++[(Value.bool false)]))) rfl (AS (zs:=BB 0) (vs:=AV n++[(Value.bool false)]) (pv:=[(0,(aG (AV n))),(1,(Value.bool false))]) (places:=[(0,2),(2,1)]) Tryz.zeroValue51 Tryz.underlying51 (λw=>by simp [Tryz.sizeOf4,Tryz.sizeOf49]) rfl rfl) (AP.imp rfl (DU rfl Tryz.sizeOf51 rfl ?_)))))
 exact AP.back (sk (sl sr)) (AP.nil (AC.subF (sL [4,5] rfl) (AC.then_ (AE.ret (AU rfl (Ay (i:=1) (cs:=AV n++[(Value.bool false)]) rfl rfl Tryz.isAgg51 Tryz.sizeOf51 rfl) (λw hw=>⟨by rw [SK],hw.out⟩))))))
theorem Dy (neg:Bool) (n:Nat) (w:World):Calls Tryz.prog 140 #[.bool neg,.agg (AV n).toArray] w (Ax w (.agg (BB (Ea neg n)).toArray)):=by
 cases neg
 ·exact Oj n w
 ·exact RG n w
theorem WR (z:Int) (hz:-9223372036854775808<=z) (hz2:z<9223372036854775808) (w:World)  :Calls Tryz.prog 73 #[(vI z)] w (Ax w (aG (BB z))):=by
 refine Ad (args:=[(vI z)]) Tryz.func73 rfl rfl (Af rfl) (AE.subF (sL [0] rfl) (q4 (al It rfl λb1=>AD.nil (q1 ?_))))
 refine q4 (AO rfl (AH (Ag (c:=(decide (z<(0:Int)))) rfl rfl rfl) rfl (AD.nil (AC.subF (sL [0,2,4] rfl) (AC.then_ ?_)))))
 refine AE.cond rfl (λhc0=>?_) (λhc0=>?_)
 ·replace hc0:=of_decide_eq_true hc0
  have he:=KU hc0
  refine q4 (AO rfl (AH (Ar (c:=(IntKind.u64.wrap z)) rfl Tryz.underlying2 Tryz.underlying45 (rfl)) rfl (AH (Jv (c:=((z.natAbs:Nat):Int)) rfl (by rw [Int.zero_sub];exact YP hc0 hz)) rfl (BY Tryz.call147 (JI z.natAbs (by omega)) rfl (BY Tryz.call140 (Dy true z.natAbs) rfl ?_)))))
  exact A6 rfl Tryz.sizeOf51 rfl (AD.nil (AC.subF (sL [0,2] rfl) (AC.then_ (AE.ret (AC.then_ret (AU rfl (Ay (i:=0) (cs:=BB (Ea true z.natAbs)) rfl rfl Tryz.isAgg51 Tryz.sizeOf51 rfl) (λw hw=>⟨by rw [he],hw.out⟩)))))))
 ·replace hc0:=of_decide_eq_false hc0
  have he:=QJ hc0
  refine AE.skip (q2 (AO rfl (AH (Ar (c:=((z.natAbs:Nat):Int)) rfl Tryz.underlying2 Tryz.underlying45 (by rw [Da (by omega) (by omega)];omega)) rfl (BY Tryz.call147 (JI z.natAbs (by omega)) rfl (BY Tryz.call140 (Dy false z.natAbs) rfl ?_)))))
  exact A6 rfl Tryz.sizeOf51 rfl (AD.nil (AC.subF (sL [0,2] rfl) (AC.then_ (AE.ret (AU rfl (Ay (i:=0) (cs:=BB (Ea false z.natAbs)) rfl rfl Tryz.isAgg51 Tryz.sizeOf51 rfl) (λw hw=>⟨by rw [he],hw.out⟩))))))
theorem MZ (a:Int) (w:World)  :Calls Tryz.prog 141 #[(aG (BB a))] w (Ax w (aG (AV a.natAbs))):=by
 refine Ad (args:=[(aG (BB a))]) Tryz.func141 rfl rfl (Af rfl) (AE.subF (sL [0] rfl) (q4 (CB (cs:=BB a) rfl λb1=>al Fg rfl λb2=>q3 (sL [1,2] rfl) ?_)))
 refine AH (v:=(pP b1 0)) (AA rfl Tryz.underlying51 rfl Tryz.sizeOf49 rfl) rfl (AH (v:=(pP b1 0)) (AA rfl Tryz.underlying49 rfl Tryz.sizeOf47 rfl) rfl (En 1 (AV a.natAbs) B6 rfl (A6 rfl Tryz.sizeOf47 rfl (AD.nil (AC.subF (sL [2] rfl) ?_)))))
 exact AC.then_ (AE.ret (AU rfl (Ay (i:=0) (cs:=AV a.natAbs) rfl rfl Tryz.isAgg47 Tryz.sizeOf47 rfl) (λw hw=>⟨rfl,hw.out⟩)))
theorem J1 (a:Int) (w:World)  :Calls Tryz.prog 137 #[(aG (BB a))] w (Ax w (vI a.sign)):=by
 refine Ad (args:=[(aG (BB a))]) Tryz.func137 rfl rfl (Af rfl) (AE.subF (sL [0] rfl) (q4 (CB (cs:=BB a) rfl λb1=>AL rfl (q6 (sL [1,2] rfl) ?_))))
 refine AE.block (q4 (AH (v:=(pP b1 0)) (AA rfl Tryz.underlying51 rfl Tryz.sizeOf49 rfl) rfl (En 0 (AV a.natAbs) Qr rfl (BY Tryz.call182 (Hn a.natAbs) rfl (AL rfl ?_)))))
 refine AD.nil (AC.subF (sL [1,2,3] rfl) (AC.then_ ?_))
 refine AE.cond rfl (λhc0=>?_) (λhc0=>?_)
 ·replace hc0:=of_decide_eq_true hc0
  have he:a.sign=0:=by rw [show a=0 by omega];rfl
  refine q4 (AL rfl (AD.nil (AC.then_ (AE.ret (AC.in_ret ?_)))))
  exact AC.then_ret (AU rfl (Am (v:=(vI 0)) rfl) (λw hw=>⟨by rw [he],hw.out⟩))
 ·replace hc0:=of_decide_eq_false hc0
  refine q4 (AH (v:=(pP b1 2)) (AA rfl Tryz.underlying51 rfl Tryz.sizeOf4 rfl) rfl (BI 0 (Value.bool (decide (a<0))) Va rfl (AL rfl (AD.nil (AC.subF (sL [1,2,7] rfl) ?_)))))
  refine AC.then_ ?_
  refine AE.cond rfl (λhc1=>?_) (λhc1=>?_)
  ·replace hc1:=of_decide_eq_true hc1
   have he:a.sign = -1:=Int.sign_eq_neg_one_of_neg hc1
   refine q4 (AL rfl (AD.nil (AC.then_ (AE.ret (AC.in_ret ?_)))))
   exact AC.then_ret (AU rfl (Am (v:=(vI (-1:Int))) rfl) (λw hw=>⟨by rw [he],hw.out⟩))
  ·replace hc1:=of_decide_eq_false hc1
   have he:a.sign=1:=Int.sign_eq_one_of_pos (by omega)
   refine AE.skip (AC.in_normal (q2 (AL rfl (AD.nil (AC.then_ ?_)))))
   exact AE.ret (AU rfl (Am (v:=(vI 1)) rfl) (λw hw=>⟨by rw [he],hw.out⟩))
theorem Pa (a:Int) (w:World)  :Calls Tryz.prog 201 #[(aG (BB a))] w (Ax w (aG (BB (-a)))):=by
 refine Ad (args:=[(aG (BB a))]) Tryz.func201 rfl rfl (Af rfl) (AE.subF (sL [0] rfl) (q4 (CB (cs:=BB a) rfl λb1=>al It rfl λb2=>q3 (sL [1,2] rfl) ?_)))
 refine AH (v:=(pP b1 2)) (AA rfl Tryz.underlying51 rfl Tryz.sizeOf4 rfl) rfl (BI 1 (Value.bool (decide (a<0))) Va rfl (AH (CR (c:=(!(decide (a<0)))) rfl rfl) rfl (AH (v:=(pP b1 0)) (AA rfl Tryz.underlying51 rfl Tryz.sizeOf49 rfl) rfl (AH (v:=(pP b1 0)) (AA rfl Tryz.underlying49 rfl Tryz.sizeOf47 rfl) rfl (En 1 (AV a.natAbs) B6 rfl ?_)))))
 exact BY Tryz.call140 (Dy (!(decide (a<0))) a.natAbs) rfl (A6 rfl Tryz.sizeOf51 rfl (AD.nil (AC.subF (sL [2] rfl) (AC.then_ (AE.ret (AU rfl (Ay (i:=0) (cs:=BB (Ea (!(decide (a<0))) a.natAbs)) rfl rfl Tryz.isAgg51 Tryz.sizeOf51 rfl) (λw hw=>⟨by rw [VU],hw.out⟩)))))))
theorem Ul (a b:Int) (ha:nw a.natAbs<=1099511627776) (hb:nw b.natAbs<=1099511627776) (w:World)  :Calls Tryz.prog 154 #[(aG (BB a)),(aG (BB b))] w (Ax w (aG (BB (a+b)))):=by
 refine Ad (args:=[(aG (BB a)),(aG (BB b))]) Tryz.func154 rfl rfl (Af rfl) (AE.subF (sL [0,1] rfl) (q4 (CB (cs:=BB a) rfl λb1=>CB (cs:=BB b) rfl λb2=>al It rfl λb3=>?_)))
 refine q6 (sL [2,3,4] rfl) (q4 (AH (v:=(pP b1 2)) (AA rfl Tryz.underlying51 rfl Tryz.sizeOf4 rfl) rfl (BI 2 (Value.bool (decide (a<0))) Va rfl (AH (v:=(pP b2 2)) (AA rfl Tryz.underlying51 rfl Tryz.sizeOf4 rfl) rfl (BI 1 (Value.bool (decide (b<0))) Va rfl ?_)))))
 refine AH (Ni (c:=(decide (a<0) == decide (b<0))) rfl rfl Tryz.underlying4 rfl) rfl (AD.nil (AC.subF (sL [2,3,4,13] rfl) (AC.then_ ?_)))
 refine AE.cond rfl (λhc0=>?_) (λhc0=>?_)
 ·skip
  have he:=MS hc0
  refine AE.seq (C7 [(0,true),(1,true),(2,true),(3,true),(4,true),(5,true),(6,true),(7,true),(8,false),(9,false),(10,false)] (sl sr) (Au (v:=(pP b1 2)) rfl (AA rfl Tryz.underlying51 rfl Tryz.sizeOf4 rfl) (Bk 1 (Value.bool (decide (a<0))) Va rfl (Au (v:=(pP b1 0)) rfl (AA rfl Tryz.underlying51 rfl Tryz.sizeOf49 rfl) (Au (v:=(pP b1 0)) rfl (AA rfl Tryz.underlying49 rfl Tryz.sizeOf47 rfl) ?_)))))
  refine Gt 1 (AV a.natAbs) B6 rfl (Au (v:=(pP b2 0)) rfl (AA rfl Tryz.underlying51 rfl Tryz.sizeOf49 rfl) (Au (v:=(pP b2 0)) rfl (AA rfl Tryz.underlying49 rfl Tryz.sizeOf47 rfl) (Gt 0 (AV b.natAbs) B6 rfl (AP.imp rfl (BY Tryz.call151 (SO a.natAbs b.natAbs (by omega) (by omega)) rfl ?_)))))
  refine AP.back (sl sr) (AP.imp rfl (BY Tryz.call140 (Dy (decide (a<0)) (a.natAbs+b.natAbs)) rfl (AP.back (sl sr) (AP.imp rfl (A6 rfl Tryz.sizeOf51 rfl ?_)))))
  exact AP.back (sl sr) (AP.nil (AC.subF (sL [2,3,4] rfl) (AC.then_ (AE.ret (AC.then_ret (AU rfl (Ay (i:=0) (cs:=BB (Ea (decide (a<0)) (a.natAbs+b.natAbs))) rfl rfl Tryz.isAgg51 Tryz.sizeOf51 rfl) (λw hw=>⟨by rw [he],hw.out⟩)))))))
 ·skip
  refine AE.skip (q1 (q4 (AH (v:=(pP b1 0)) (AA rfl Tryz.underlying51 rfl Tryz.sizeOf49 rfl) rfl (AH (v:=(pP b1 0)) (AA rfl Tryz.underlying49 rfl Tryz.sizeOf47 rfl) rfl (En 2 (AV a.natAbs) B6 rfl ?_)))))
  refine AH (v:=(pP b2 0)) (AA rfl Tryz.underlying51 rfl Tryz.sizeOf49 rfl) rfl (AH (v:=(pP b2 0)) (AA rfl Tryz.underlying49 rfl Tryz.sizeOf47 rfl) rfl (En 1 (AV b.natAbs) B6 rfl (BY Tryz.call146 (Od a.natAbs b.natAbs (by omega) (by omega)) rfl (AO rfl (AH (AY (v:=(aG (AV (a.natAbs-b.natAbs)))) rfl rfl) rfl ?_)))))
  refine AH (AY (v:=(Value.bool (decide (b.natAbs<=a.natAbs)))) rfl rfl) rfl (al Fg rfl λb4=>A6 rfl Tryz.sizeOf47 rfl (AL rfl (q3 (sL [2,3,4,5,6] rfl) (AO rfl ?_))))
  refine AD.nil (AC.subF (sL [2,3,4,5,34] rfl) (AC.then_ ?_))
  refine AE.cond rfl (λhc1=>?_) (λhc1=>?_)
  ·replace hc1:=of_decide_eq_true hc1
   have he:=Og hc0 hc1
   refine q4 (AH (v:=(pP b1 2)) (AA rfl Tryz.underlying51 rfl Tryz.sizeOf4 rfl) rfl (BI 3 (Value.bool (decide (a<0))) Va rfl (BF 0 B6 rfl (BY Tryz.call140 (Dy (decide (a<0)) (a.natAbs-b.natAbs)) rfl (DU rfl Tryz.sizeOf51 rfl ?_)))))
   exact AD.nil (AC.subF (sL [2,3,4,5] rfl) (AC.then_ (AE.ret (AC.then_ret (AU rfl (Ay (i:=1) (cs:=BB (Ea (decide (a<0)) (a.natAbs-b.natAbs))) rfl rfl Tryz.isAgg51 Tryz.sizeOf51 rfl) (λw hw=>⟨by rw [he],hw.out⟩))))))
  ·replace hc1:=of_decide_eq_false hc1
   have he:=OG hc0 hc1
   refine AE.skip (q2 (AH (v:=(pP b2 0)) (AA rfl Tryz.underlying51 rfl Tryz.sizeOf49 rfl) rfl (AH (v:=(pP b2 0)) (AA rfl Tryz.underlying49 rfl Tryz.sizeOf47 rfl) rfl (En 2 (AV b.natAbs) B6 rfl (AH (v:=(pP b1 0)) (AA rfl Tryz.underlying51 rfl Tryz.sizeOf49 rfl) rfl ?_)))))
   refine AH (v:=(pP b1 0)) (AA rfl Tryz.underlying49 rfl Tryz.sizeOf47 rfl) rfl (En 3 (AV a.natAbs) B6 rfl (BY Tryz.call146 (Od b.natAbs a.natAbs (by omega) (by omega)) rfl (AO rfl (AH (AY (v:=(aG (AV (b.natAbs-a.natAbs)))) rfl rfl) rfl (AH (AY (v:=(Value.bool (decide (a.natAbs<=b.natAbs)))) rfl rfl) rfl ?_)))))
   refine al Fg rfl λb5=>A6 rfl Tryz.sizeOf47 rfl (AL rfl (q3 (sL [2,3,4,5,7] rfl) (AH (v:=(pP b2 2)) (AA rfl Tryz.underlying51 rfl Tryz.sizeOf4 rfl) rfl (BI 3 (Value.bool (decide (b<0))) Va rfl ?_))))
   refine BF 0 B6 rfl (BY Tryz.call140 (Dy (decide (b<0)) (b.natAbs-a.natAbs)) rfl (Pb rfl Tryz.sizeOf51 rfl (AD.nil (AC.subF (sL [2,3,4,5,7] rfl) (AC.then_ ?_)))))
   exact AE.ret (AU rfl (Ay (i:=2) (cs:=BB (Ea (decide (b<0)) (b.natAbs-a.natAbs))) rfl rfl Tryz.isAgg51 Tryz.sizeOf51 rfl) (λw hw=>⟨by rw [he],hw.out⟩))
theorem Rr (a b:Int) (ha:nw a.natAbs<=1099511627776) (hb:nw b.natAbs<=1099511627776) (w:World)  :Calls Tryz.prog 143 #[(aG (BB a)),(aG (BB b))] w (Ax w (aG (BB (a*b)))):=by
 refine Ad (args:=[(aG (BB a)),(aG (BB b))]) Tryz.func143 rfl rfl (Af rfl) (AE.subF (sL [0,1] rfl) (q4 (CB (cs:=BB a) rfl λb1=>CB (cs:=BB b) rfl λb2=>al It rfl λb3=>?_)))
 refine q6 (sL [2,3,4] rfl) (C7 [(0,true),(1,true),(2,true),(3,true),(4,true),(5,true),(6,true),(7,true),(8,true),(9,true),(10,true),(11,false),(12,false),(13,false)] (sl sr) (Au (v:=(pP b1 2)) rfl (AA rfl Tryz.underlying51 rfl Tryz.sizeOf4 rfl) (Bk 1 (Value.bool (decide (a<0))) Va rfl (Au (v:=(pP b2 2)) rfl (AA rfl Tryz.underlying51 rfl Tryz.sizeOf4 rfl) (Bk 0 (Value.bool (decide (b<0))) Va rfl ?_)))))
 refine Au rfl (NK (c:=(!(decide (a<0) == decide (b<0)))) rfl rfl Tryz.underlying4 rfl) (Au (v:=(pP b1 0)) rfl (AA rfl Tryz.underlying51 rfl Tryz.sizeOf49 rfl) (Au (v:=(pP b1 0)) rfl (AA rfl Tryz.underlying49 rfl Tryz.sizeOf47 rfl) (Gt 1 (AV a.natAbs) B6 rfl (Au (v:=(pP b2 0)) rfl (AA rfl Tryz.underlying51 rfl Tryz.sizeOf49 rfl) (Au (v:=(pP b2 0)) rfl (AA rfl Tryz.underlying49 rfl Tryz.sizeOf47 rfl) ?_)))))
 refine Gt 0 (AV b.natAbs) B6 rfl (AP.imp rfl (BY Tryz.call71 (OM a.natAbs b.natAbs (by omega) (by omega)) rfl (AP.back (sl sr) (AP.imp rfl (BY Tryz.call140 (Dy (!(decide (a<0) == decide (b<0))) (a.natAbs*b.natAbs)) rfl ?_)))))
 refine AP.back (sl sr) (AP.imp rfl (A6 rfl Tryz.sizeOf51 rfl (AP.back (sl sr) (AP.nil (AC.subF (sL [4] rfl) ?_)))))
 exact AC.then_ (AE.ret (AU rfl (Ay (i:=0) (cs:=BB (Ea (!(decide (a<0) == decide (b<0))) (a.natAbs*b.natAbs))) rfl rfl Tryz.isAgg51 Tryz.sizeOf51 rfl) (λw hw=>⟨by rw [Vz],hw.out⟩)))
theorem HV (a b:Int) (ha:nw a.natAbs<=1099511627776) (hb:nw b.natAbs<=1099511627776) (w:World)  :Calls Tryz.prog 142 #[(Value.func (.func 154) #[] #[]),(aG (BB a)),(aG (BB b))] w (Ax w (aG (BB (a+b)))):=by
 refine Ad (args:=[(Value.func (.func 154) #[] #[]),(aG (BB a)),(aG (BB b))]) Tryz.func142 rfl rfl (Af rfl) (AE.subF (sL [0,1,2] rfl) (q4 (CB (cs:=BB a) rfl λb1=>CB (cs:=BB b) rfl λb2=>al It rfl λb3=>?_)))
 refine q3 (sL [0,4,5,6] rfl) (AO rfl (BF 2 DB rfl (BF 1 DB rfl (BY Tryz.call154 (Ul a b (by first|omega|(simp only [Int.natAbs_neg,Az,Int.natAbs_natCast];omega)) (by first|omega|(simp only [Int.natAbs_neg,Az,Int.natAbs_natCast];omega))) rfl (A6 rfl Tryz.sizeOf51 rfl ?_)))))
 exact AD.nil (AC.subF (sL [6] rfl) (AC.then_ (AE.ret (AU rfl (Ay (i:=0) (cs:=BB (a+b)) rfl rfl Tryz.isAgg51 Tryz.sizeOf51 rfl) (λw hw=>⟨rfl,hw.out⟩)))))
theorem K3 (a b:Int) (ha:nw a.natAbs<=1099511627776) (hb:nw b.natAbs<=1099511627776) (w:World)  :Calls Tryz.prog 142 #[(Value.func (.func 143) #[] #[]),(aG (BB a)),(aG (BB b))] w (Ax w (aG (BB (a*b)))):=by
 refine Ad (args:=[(Value.func (.func 143) #[] #[]),(aG (BB a)),(aG (BB b))]) Tryz.func142 rfl rfl (Af rfl) (AE.subF (sL [0,1,2] rfl) (q4 (CB (cs:=BB a) rfl λb1=>CB (cs:=BB b) rfl λb2=>al It rfl λb3=>?_)))
 refine q3 (sL [0,4,5,6] rfl) (AO rfl (BF 2 DB rfl (BF 1 DB rfl (BY Tryz.call143 (Rr a b (by first|omega|(simp only [Int.natAbs_neg,Az,Int.natAbs_natCast];omega)) (by first|omega|(simp only [Int.natAbs_neg,Az,Int.natAbs_natCast];omega))) rfl (A6 rfl Tryz.sizeOf51 rfl ?_)))))
 exact AD.nil (AC.subF (sL [6] rfl) (AC.then_ (AE.ret (AU rfl (Ay (i:=0) (cs:=BB (a*b)) rfl rfl Tryz.isAgg51 Tryz.sizeOf51 rfl) (λw hw=>⟨rfl,hw.out⟩)))))
theorem L6 (a b:Int) (ha:nw a.natAbs<=1099511627776) (hb:nw b.natAbs<=1099511627776) (w:World)  :Calls Tryz.prog 82 #[(aG (BB a)),(aG (BB b))] w (Ax w (aG (BB (a+b)))):=by
 refine Ad (args:=[(aG (BB a)),(aG (BB b))]) Tryz.func82 rfl rfl (Af rfl) (AE.subF (sL [0,1] rfl) (q4 (CB (cs:=BB a) rfl λb1=>CB (cs:=BB b) rfl λb2=>al It rfl λb3=>?_)))
 refine q3 (sL [2,3,4] rfl) (BF 2 DB rfl (BF 1 DB rfl (BY Tryz.call142 (HV a b (by first|omega|(simp only [Int.natAbs_neg,Az,Int.natAbs_natCast];omega)) (by first|omega|(simp only [Int.natAbs_neg,Az,Int.natAbs_natCast];omega))) rfl (A6 rfl Tryz.sizeOf51 rfl (AD.nil ?_)))))
 exact AC.subF (sL [4] rfl) (AC.then_ (AE.ret (AU rfl (Ay (i:=0) (cs:=BB (a+b)) rfl rfl Tryz.isAgg51 Tryz.sizeOf51 rfl) (λw hw=>⟨rfl,hw.out⟩))))
theorem V0 (a b:Int) (ha:nw a.natAbs<=1099511627776) (hb:nw b.natAbs<=1099511627776) (w:World)  :Calls Tryz.prog 157 #[(aG (BB a)),(aG (BB b))] w (Ax w (aG (BB (a-b)))):=by
 refine Ad (args:=[(aG (BB a)),(aG (BB b))]) Tryz.func157 rfl rfl (Af rfl) (AE.subF (sL [0,1] rfl) (q4 (CB (cs:=BB a) rfl λb1=>CB (cs:=BB b) rfl λb2=>al It rfl λb3=>?_)))
 refine q6 (sL [2,3,4] rfl) (C7 [(0,true),(1,true),(2,false),(3,false),(4,false)] (sl sr) (Db 1 DB rfl (Db 0 DB rfl (AP.imp rfl (BY Tryz.call201 (Pa b) rfl ?_)))))
 refine AP.back (sl sr) (AP.imp rfl (BY Tryz.call142 (HV a (-b) (by first|omega|(simp only [Int.natAbs_neg,Az,Int.natAbs_natCast];omega)) (by first|omega|(simp only [Int.natAbs_neg,Az,Int.natAbs_natCast];omega))) rfl (AP.back (sl sr) (AP.imp rfl (A6 rfl Tryz.sizeOf51 rfl ?_)))))
 exact AP.back (sl sr) (AP.nil (AC.subF (sL [4] rfl) (AC.then_ (AE.ret (AU rfl (Ay (i:=0) (cs:=BB (a+(-b))) rfl rfl Tryz.isAgg51 Tryz.sizeOf51 rfl) (λw hw=>⟨by rw [Int.sub_eq_add_neg],hw.out⟩))))))
theorem Gj (a b:Int) (ha:nw a.natAbs<=1099511627776) (hb:nw b.natAbs<=1099511627776) (w:World)  :Calls Tryz.prog 69 #[(aG (BB a)),(aG (BB b))] w (Ax w (aG (BB (a*b)))):=by
 refine Ad (args:=[(aG (BB a)),(aG (BB b))]) Tryz.func69 rfl rfl (Af rfl) (AE.subF (sL [0,1] rfl) (q4 (CB (cs:=BB a) rfl λb1=>CB (cs:=BB b) rfl λb2=>al It rfl λb3=>?_)))
 refine q3 (sL [2,3,4] rfl) (BF 2 DB rfl (BF 1 DB rfl (BY Tryz.call142 (K3 a b (by first|omega|(simp only [Int.natAbs_neg,Az,Int.natAbs_natCast];omega)) (by first|omega|(simp only [Int.natAbs_neg,Az,Int.natAbs_natCast];omega))) rfl (A6 rfl Tryz.sizeOf51 rfl (AD.nil ?_)))))
 exact AC.subF (sL [4] rfl) (AC.then_ (AE.ret (AU rfl (Ay (i:=0) (cs:=BB (a*b)) rfl rfl Tryz.isAgg51 Tryz.sizeOf51 rfl) (λw hw=>⟨rfl,hw.out⟩))))
theorem PO (a b:Int) (ha:nw a.natAbs<=1099511627776) (hb:nw b.natAbs<=1099511627776) (w:World)  :Calls Tryz.prog 94 #[(aG (BB a)),(aG (BB b))] w (Ax w (vI ((a-b).sign))):=by
 refine Ad (args:=[(aG (BB a)),(aG (BB b))]) Tryz.func94 rfl rfl (Af rfl) (AE.subF (sL [0,1] rfl) (q4 (CB (cs:=BB a) rfl λb1=>CB (cs:=BB b) rfl λb2=>AL rfl ?_)))
 refine q3 (sL [2,3,4] rfl) (BF 1 DB rfl (BF 0 DB rfl (BY Tryz.call157 (V0 a b (by first|omega|(simp only [Int.natAbs_neg,Az,Int.natAbs_natCast];omega)) (by first|omega|(simp only [Int.natAbs_neg,Az,Int.natAbs_natCast];omega))) rfl (BY Tryz.call137 (J1 (a-b)) rfl (AL rfl ?_)))))
 exact AD.nil (AC.subF (sL [4] rfl) (AC.then_ (AE.ret (AU rfl (Am (v:=(vI ((a-b).sign))) rfl) (λw hw=>⟨rfl,hw.out⟩)))))
end
end Go.Proofs.YtfbomiejpbchdaaGreat
