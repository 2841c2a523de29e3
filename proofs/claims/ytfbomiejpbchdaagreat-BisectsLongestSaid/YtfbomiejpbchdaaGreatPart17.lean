import Derived.Test.YtfbomiejpbchdaaGreatPart06
import Derived.Test.YtfbomiejpbchdaaGreatPart15
import Derived.Test.YtfbomiejpbchdaaGreatPart16
namespace Go.Proofs.YtfbomiejpbchdaaGreat
open Go Go.RowKit Go.Proofs.Tryz
set_option linter.unusedVariables false
set_option linter.unusedSimpArgs false
section
set_option maxRecDepth 100000
theorem FY {N v:Nat} (h:v<4294967296^N):val ((Cj N v).take N)=v:=by
 rw [List.take_of_length_le (by rw [Bj];exact Nat.le_refl _),E9 _ _ h]
theorem Rl {a b:Nat} (hb:0<nw b) (h:nw b<=nw a):a/b<4294967296^(nw a+1-nw b):=by
 have h1:=Hy hb
 have h2:=CG a
 rw [Nat.div_lt_iff_lt_mul (by have:=Nat.pow_pos (n:=nw b-1) (show 0<4294967296 by omega);omega)]
 have h3:4294967296^(nw a+1-nw b)*4294967296^(nw b-1)<=4294967296^(nw a+1-nw b)*b:=Nat.mul_le_mul_left _ h1
 rw [<-Nat.pow_add,show nw a+1-nw b+(nw b-1)=nw a by omega] at h3
 omega
theorem Rz {a b:Nat}:a%b<4294967296^(nw a+1):=Nat.lt_of_le_of_lt (Nat.mod_le _ _) (Nat.lt_of_lt_of_le (CG a) (Nat.pow_le_pow_right Z Z))
theorem PU {b:Nat} (h:nw b=0):b=0:=by
 have:=CG b
 rw [h] at this
 omega
theorem V6 {b:Nat} (h:nw b=1):(A9 b).getD 0 0=b/\b<4294967296:=by
 have h1:=CG b
 rw [h] at h1
 refine ⟨?_,Z⟩
 rw [Dg Z,Hg,Nat.pow_zero,Nat.div_one,Nat.mod_eq_of_lt Z]
theorem LU  :Instr.fill ([(0,1),(1,1)].toArray[·]?) (Ab 0).toArray []=some (Ab 0).toArray:=by kernel_rfl
theorem Pq (a b:Nat) (ha:nw a<=1099511627776) (hb:nw b<=1099511627776) (hb0:b≠0) (w:World)  :Calls prog 145 #[(aG (Ab a)),(aG (Ab b))] w (Aq w (Value.tuple #[(aG (Ab (a/b))),(aG (Ab (a%b))),(Value.bool true)])):=by
 have hnb:nw b≠0:=λh=>hb0 (PU h)
 have hla:=CQ a
 have hlb:=CQ b
 refine Ae (args:=[(aG (Ab a)),(aG (Ab b))]) func145 O O (Ac O) (AF.subF (sL [0,1] O) (q4 (Bg (cs:=Ab a) O λb1=>Bg (cs:=Ab b) O λb2=>al F5 O λb3=>?_)))
 refine al F5 O λb4=>AL O (q6 (sL [2,3,4,5,6] O) (AF.block (q4 (BA 2 CL O ?_))))
 refine BR call193 (QF b) O (AL O (AE.nil (AD.subF (sL [2,3,4,5,6,12] O) (AD.then_ ?_))))
 refine AF.cond O (λhc0=>?_) (λhc0=>?_)
 ·replace hc0:=of_decide_eq_true hc0
  exact absurd hc0 hb0
 ·replace hc0:=of_decide_eq_false hc0
  refine q4 (BA 3 CL O (BA 2 CL O (BR call194 (Ud a b Z Z) O (AH (Ak (c:=(decide ((Fp a b)<(0:Int)))) O O O) O (AL O ?_)))))
  refine AE.nil (AD.subF (sL [2,3,4,5,6,17] O) (AD.then_ ?_))
  refine AF.cond O (λhc1=>?_) (λhc1=>?_)
  ·replace hc1:=of_decide_eq_true hc1
   rw [JW] at hc1
   have e1:a/b=0:=Nat.div_eq_of_lt hc1
   have e2:a%b=a:=Nat.mod_eq_of_lt hc1
   refine AF.seq (Cm [(0,true),(1,true),(2,false),(3,false),(4,true)] (sl (sl sr)) (Au (v:=(aG (Ab 0))) O (Ad (zs:=Ab 0) (vs:=Ab 0) (pv:=[]) (places:=[(0,1),(1,1)]) zeroValue47 underlying47 (λw=>by simp [sizeOf9,sizeOf45]) O (LU )) (En 1 CL O (AT.imp O (DP O sizeOf47 O ?_)))))
   refine AT.back (sl (sl sr)) (AT.imp O (Aw O sizeOf47 O (AT.back (sl (sl sr)) (Eg O (AT.nil ?_)))))
   exact AD.subF (sL [2,3,4,5,6] O) (AD.then_ (AF.ret (AD.in_ret (AD.then_ret (Eu O (Az (i:=1) (cs:=Ab 0) O O isAgg47 sizeOf47 O) (Az (i:=0) (cs:=Ab a) O O isAgg47 sizeOf47 O) (Ai (v:=(Value.bool true)) O) (λw hw=>⟨by rw [e1,e2],hw.out⟩))))))
  ·replace hc1:=of_decide_eq_false hc1
   rw [JW] at hc1
   have hba:nw b<=nw a:=Dj Z
   refine q4 (AH (v:=(pP b1 1)) (AA O underlying47 O sizeOf9 O) O (BJ 3 (Value.string (Bp a)) SU O (AH (CJ (c:=(decide (a<18446744073709551616))) O O Cy) O (AL O (AE.nil ?_)))))
   refine AD.subF (sL [2,3,4,5,6,24] O) (AD.then_ ?_)
   refine AF.cond O (λhc2=>?_) (λhc2=>?_)
   ·replace hc2:=of_decide_eq_true hc2
    have la:CK a=a:=Bo hc2
    have lb:CK b=b:=Bo Z
    have q1:a/b<18446744073709551616:=Nat.lt_of_le_of_lt (Nat.div_le_self _ _) hc2
    have q2:a%b<18446744073709551616:=Nat.lt_of_le_of_lt (Nat.mod_le _ _) hc2
    refine AF.seq (Cm [(0,true),(1,true),(2,true),(3,true),(4,true),(5,true),(6,true),(7,true),(8,true),(9,true),(10,true),(11,true),(12,false),(13,false),(14,true)] (sl (sl sr)) (Au (v:=(pP b1 0)) O (AA O underlying47 O sizeOf45 O) (Be 1 (vK .u64 (CK a)) HF O (Au (v:=(pP b2 0)) O (AA O underlying47 O sizeOf45 O) (Be 0 (vK .u64 (CK b)) HF O ?_)))))
    refine Au O (Gr (c:=(((CK a)/(CK b):Nat):Int)) O O Z (KP (a:=CK a) (b:=CK b) Z)) (Au (v:=(aG ([(vK .u64 ((CK a)/(CK b))),(Value.string (Bp 0))]))) O (Ad (zs:=Ab 0) (vs:=[(vK .u64 ((CK a)/(CK b))),(Value.string (Bp 0))]) (pv:=[(0,(vK .u64 ((CK a)/(CK b))))]) (places:=[(0,1),(1,1)]) zeroValue47 underlying47 (λw=>by simp [sizeOf9,sizeOf45]) O O) (Au (v:=(pP b1 0)) O (AA O underlying47 O sizeOf45 O) (Be 1 (vK .u64 (CK a)) HF O (Au (v:=(pP b2 0)) O (AA O underlying47 O sizeOf45 O) (Be 0 (vK .u64 (CK b)) HF O ?_)))))
    refine Au O (By (c:=(((CK a)%(CK b):Nat):Int)) O O Z (Gd (a:=CK a) (b:=CK b))) (Au (v:=(aG ([(vK .u64 ((CK a)%(CK b))),(Value.string (Bp 0))]))) O (Ad (zs:=Ab 0) (vs:=[(vK .u64 ((CK a)%(CK b))),(Value.string (Bp 0))]) (pv:=[(0,(vK .u64 ((CK a)%(CK b))))]) (places:=[(0,1),(1,1)]) zeroValue47 underlying47 (λw=>by simp [sizeOf9,sizeOf45]) O O) (AT.imp O (DP O sizeOf47 O (AT.back (sl (sl sr)) (AT.imp O ?_)))))
    refine Aw O sizeOf47 O (AT.back (sl (sl sr)) (Eg O (AT.nil (AD.subF (sL [2,3,4,5,6] O) (AD.then_ ?_)))))
    exact AF.ret (AD.in_ret (AD.then_ret (Eu O (Az (i:=1) (cs:=[(vK .u64 ((CK a)/(CK b))),(Value.string (Bp 0))]) O O isAgg47 sizeOf47 O) (Az (i:=0) (cs:=[(vK .u64 ((CK a)%(CK b))),(Value.string (Bp 0))]) O O isAgg47 sizeOf47 O) (Ai (v:=(Value.bool true)) O) (λw hw=>⟨by rw [Dl q1,Dl q2,la,lb];rfl,hw.out⟩))))
   ·replace hc2:=of_decide_eq_false hc2
    refine AF.skip (AD.in_normal (q2 (BA 2 CL O (AE.callB (V:=λb5=>(Value.slice (some ⟨b5,0,none⟩) (nw b) ((A9 b).length))) (T:=101) (cs:=Av (A9 b)) (AK O) (A_ (args:=[(aG (Ab b))]) O O call150) (λw hw=>DD b Z w) O (Ac O) λb5=>AL O ?_))))
    refine q6 (sL [2,3,4,5,6,7] O) (q4 (AS O (AH (v:=(vN (nw b))) (AG O underlying232) O (AH (BY (c:=(decide ((nw b)=1))) O O (Oa (a:=nw b) (b:=1))) O (AE.nil ?_)))))
    refine AD.subF (sL [2,3,4,5,6,7,44] O) (AD.then_ ?_)
    refine AF.cond O (λhc3=>?_) (λhc3=>?_)
    ·replace hc3:=of_decide_eq_true hc3
     obtain ⟨hy,hy2⟩:=V6 hc3
     refine AF.seq (Cm [(0,true),(2,true),(3,true),(4,true),(1,false),(5,false),(6,true),(7,true),(8,true),(9,true),(10,true)] sr (En 4 CL O (Bc O (Au (v:=(pP b5 0)) O (AM (j:=0) O O underlying232 sizeOf101 O Z O) ?_))))
     have hx1:(A9 b).getD 0 0<4294967296:=W32.getD (CT b) 0
     refine Au O (AI (i:=0) (v:=(vK .u32 ((A9 b).getD 0 0))) O O isAgg101 (BP (xs:=A9 b) (j:=0) Z)) (AT.imp O (AE.callB (V:=λb6=>(Value.slice (some ⟨b6,0,none⟩) (nw a) ((A9 a).length))) (T:=101) (cs:=Av (A9 a)) (AK O) (A_ (args:=[(aG (Ab a))]) O O call150) (λw hw=>DD a Z w) O (Ac O) λb6=>AT.back (sl sr) (AT.imp O (AE.callB (V:=λb7=>(Value.tuple #[(Value.slice (some ⟨b7,0,none⟩) (nw a) (nw a)),(vK .u32 (a%((A9 b).getD 0 0)))])) (T:=101) (cs:=Av (Cj (nw a) (a/((A9 b).getD 0 0)))) (AK O) (A_ (args:=[(Value.slice (some ⟨b6,0,none⟩) (nw a) ((A9 a).length)),(vK .u32 ((A9 b).getD 0 0))]) O O call195) (λw hw=>Si a ((A9 b).getD 0 0) _ _ Z Z Z w (hw.get (i:=0) O)) O (Ac O) λb7=>?_))))
     refine AT.back (sl (sl sr)) (Bc O (Au O (AZ (v:=(Value.slice (some ⟨b7,0,none⟩) (nw a) (nw a))) O O) (Au O (AZ (v:=(vK .u32 (a%((A9 b).getD 0 0)))) O O) (Eg O (Eg O ?_)))))
     refine AT.nil (AD.subF (sL [2,3,4,5,6,7,8,9] O) (q2 (AS O (Ee call149 (λw hw=>Iz _ (nw a) (nw a) (Cj (nw a) (a/((A9 b).getD 0 0))) (D0 _ _) (by first|omega|(rw [Bj];omega)|simp|(simp;omega)) (by first|omega|simp|(simp;omega)) (by first|omega|simp|(simp;omega)) w (hw.get (i:=0) O)) O (AE.retell (k:=55) (u:=(aG (Ab (a/b)))) O (by rw [hy,FY (Nat.lt_of_le_of_lt (Nat.div_le_self _ _) (CG a))]) ?_)))))
     refine AS O ?_
     have hmb:a%(A9 b).getD 0 0<4294967296:=by rw [hy];exact Nat.lt_of_lt_of_le (Nat.mod_lt _ Z) Z
     refine AH (A8 (c:=((a%((A9 b).getD 0 0):Nat):Int)) O underlying101 underlying45 (BW Z)) O (AH (v:=(aG ([(vK .u64 (a%((A9 b).getD 0 0))),(Value.string (Bp 0))]))) (Ad (zs:=Ab 0) (vs:=[(vK .u64 (a%((A9 b).getD 0 0))),(Value.string (Bp 0))]) (pv:=[(0,(vK .u64 (a%((A9 b).getD 0 0))))]) (places:=[(0,1),(1,1)]) zeroValue47 underlying47 (λw=>by simp [sizeOf9,sizeOf45]) O O) O (AE.retell (k:=58) (u:=(aG (Ab (a%b)))) O (by rw [hy] at hmb ⊢;rw [Dl Z];rfl) (EW 4 (off:=0) (vs:=Ab (a/b)) (cs':=Ab (a/b)) (AK O) O sizeOf47 O (IF O sizeOf47 O (AL O ?_)))))
     exact AE.nil (AD.subF (sL [2,3,4,5,6,7] O) (AD.then_ (AF.ret (AD.then_ret (Eu O (Az (i:=4) (cs:=Ab (a/b)) O O isAgg47 sizeOf47 O) (Az (i:=3) (cs:=Ab (a%b)) O O isAgg47 sizeOf47 O) (Ai (v:=(Value.bool true)) O) (λw hw=>⟨rfl,hw.out⟩))))))
    ·replace hc3:=of_decide_eq_false hc3
     refine AF.skip (q2 (BA 4 CL O (AE.callB (V:=λb6=>(Value.slice (some ⟨b6,0,none⟩) (nw a) ((A9 a).length))) (T:=101) (cs:=Av (A9 a)) (AK O) (A_ (args:=[(aG (Ab a))]) O O call150) (λw hw=>DD a Z w) O (Ac O) λb6=>AS O (AE.callBB (V:=λb7 b8=>(Value.tuple #[(Value.slice (some ⟨b7,0,none⟩) (nw a+1-nw b) (nw a+1-nw b)),(Value.slice (some ⟨b8,0,none⟩) (nw a+1) (nw a+1))])) (T:=101) (cs:=Av (Cj (nw a+1-nw b) (a/b))) (T2:=101) (cs2:=Av (Cj (nw a+1) (a%b))) (AK O) (A_ (args:=[(Value.slice (some ⟨b6,0,none⟩) (nw a) ((A9 a).length)),(Value.slice (some ⟨b5,0,none⟩) (nw b) ((A9 b).length))]) O O call196) (λw hw=>VZ a b _ _ _ _ Z Z Z w (hw.get (i:=0) O) (hw.get (i:=1) O)) O (Ac O) λb7 b8=>?_))))
     refine AS O (AH (AZ (v:=(Value.slice (some ⟨b7,0,none⟩) (nw a+1-nw b) (nw a+1-nw b))) O O) O (AH (AZ (v:=(Value.slice (some ⟨b8,0,none⟩) (nw a+1) (nw a+1))) O O) O (AL O (AL O (q3 (sL [2,3,4,5,6,7,10,11] O) ?_)))))
     refine AS O (Ee call149 (λw hw=>Iz _ (nw a+1-nw b) (nw a+1-nw b) (Cj (nw a+1-nw b) (a/b)) (D0 _ _) (by first|omega|(rw [Bj];omega)|simp|(simp;omega)) (by first|omega|simp|(simp;omega)) (by first|omega|simp|(simp;omega)) w (hw.get (i:=0) O)) O (AE.retell (k:=67) (u:=(aG (Ab (a/b)))) O (by rw [FY (Rl Z hba)]) (AS O (Ee call149 (λw hw=>Iz _ (nw a+1) (nw a+1) (Cj (nw a+1) (a%b)) (D0 _ _) (by first|omega|(rw [Bj];omega)|simp|(simp;omega)) (by first|omega|simp|(simp;omega)) (by first|omega|simp|(simp;omega)) w (hw.get (i:=1) O)) O (AE.retell (k:=69) (u:=(aG (Ab (a%b)))) O (by rw [FY Rz]) ?_)))))
     refine EW 5 (off:=0) (vs:=Ab (a/b)) (cs':=Ab (a/b)) (AK O) O sizeOf47 O (EW 4 (off:=0) (vs:=Ab (a%b)) (cs':=Ab (a%b)) (AK O) O sizeOf47 O (AL O (AE.nil (AD.subF (sL [2,3,4,5,6,7] O) (AD.then_ ?_)))))
     exact AF.ret (Eu O (Az (i:=5) (cs:=Ab (a/b)) O O isAgg47 sizeOf47 O) (Az (i:=4) (cs:=Ab (a%b)) O O isAgg47 sizeOf47 O) (Ai (v:=(Value.bool true)) O) (λw hw=>⟨rfl,hw.out⟩))
theorem Xm (a b:Nat) (ha:nw a<=1099511627776) (hb:nw b<=1099511627776) (w:World)  :Calls prog 144 #[(aG (Ab a)),(aG (Ab b))] w (Aq w (aG (Ab (Nat.gcd a b)))):=by
 refine Ae (args:=[(aG (Ab a)),(aG (Ab b))]) func144 O O (Ac O) (AF.subF (sL [0,1] O) (q4 (Bg (cs:=Ab a) O λb1=>Bg (cs:=Ab b) O λb2=>al F5 O λb3=>?_)))
 refine q6 (sL [2,3,4] O) (AF.block ?_)
 refine AF.lp2 (tg λ(x:Nat) (y:Nat)=>Nat.gcd x y=Nat.gcd a b/\nw x<=1099511627776/\nw y<=1099511627776) (tg λ(x:Nat) (y:Nat)=>[(2,(pP b1 0)),(3,(pP b2 0)),(4,(pP b3 0))]) (tg λ(x:Nat) (y:Nat)=>[Ag b3 47 (Ab 0),Ag b2 47 (Ab y),Ag b1 47 (Ab x)]) (tg λ(x:Nat) (y:Nat)=>y) a b (⟨rfl,ha,hb⟩) (sF O) sr (λx y hJ=>?_)
 obtain ⟨hg,hx,hy⟩:=hJ
 refine AF.seq (q4 (BA 1 CL O (BR call193 (QF y) O (AH (BZ (c:=(!(decide (y=0)))) O O) O (AE.nil ?_)))))
 refine AD.subF (sL [2,3,4,10] O) (AD.then_ ?_)
 refine AF.cond O (λhc0=>?_) (λhc0=>?_)
 ·simp only [Bool.and_eq_true,Bool.or_eq_true,Bool.and_eq_false_iff,Bool.or_eq_false_iff,Bool.not_eq_true',Bool.not_eq_false',decide_eq_true_eq,decide_eq_false_iff_not] at hc0
  refine AF.skip (AD.then_ (AF.block (q4 (BA 2 CL O (BA 1 CL O ?_)))))
  refine BR call145 (Pq x y Z Z Z) O (AS O (AH (AZ (v:=(aG (Ab (x/y)))) O O) O (AH (AZ (v:=(aG (Ab (x%y)))) O O) O (AH (AZ (v:=(Value.bool true)) O O) O (al F5 O λb4=>?_)))))
  refine al F5 O λb5=>DP O sizeOf47 O (Aw O sizeOf47 O (AL O (AE.nil (AD.subF (sL [2,3,4,6] O) ?_))))
  refine AD.then_ (Cm [(1,true),(0,false),(2,false),(3,false)] (sk (sk (sk (sl (sl sr))))) (En 0 CL O (AT.imp O (BA 3 CL O (AT.back (sk (sk (sk (sl (sl sr))))) ?_)))))
  refine AT.imp O (EW 4 (off:=0) (vs:=Ab y) (cs':=Ab y) (AK O) O sizeOf47 O (AT.back (sk (sk (sk (sl (sl sr))))) (AT.imp O (IF O sizeOf47 O (AT.back (sk (sk (sk (sl (sl sr))))) ?_)))))
  exact AT.nil (AD.subF (sL [2,3,4,6] O) (AD.in_normal (AD.round2 y (x%y) (⟨by rw [<-hg,Nat.gcd_comm x y,Nat.gcd_rec y x,Nat.gcd_comm],hy,Nat.le_trans (Dj (Nat.mod_le _ _)) hx⟩) (Nat.mod_lt _ Z) (sF O) (sl (sl sr)))))
 ·simp only [Bool.and_eq_true,Bool.or_eq_true,Bool.and_eq_false_iff,Bool.or_eq_false_iff,Bool.not_eq_true',Bool.not_eq_false',decide_eq_true_eq,decide_eq_false_iff_not] at hc0
  have hy0:y=0:=by omega
  have hxg:x=Nat.gcd a b:=by rw [<-hg,hy0,Nat.gcd_zero_right]
  refine AF.exit (AD.then_exit (AD.round2_exit (AD.in_exit (q2 (BA 2 CL O ?_)))))
  exact Aw O sizeOf47 O (AE.nil (AD.subF (sL [2,3,4] O) (AD.then_ (AF.ret (AR O (Az (i:=0) (cs:=Ab x) O O isAgg47 sizeOf47 O) (λw hw=>⟨by rw [hxg],hw.out⟩))))))
end
def Es (neg:Bool) (n:Nat):Int:=if neg then -(n:Int) else (n:Int)
theorem TI (n:Nat):BH (Es true n)=Ab n++[.bool (!(decide (n=0)))]:=by
  simp only [BH,Ab,Es,if_true,Int.natAbs_neg,Int.natAbs_natCast,List.cons_append,List.nil_append]
  have e:decide (-(n:Int)<0)=!(decide (n=0)):=by
    by_cases h:n=0
    · subst h;rfl
    · simp [h];omega
  rw [e]
theorem SZ (n:Nat):BH (Es false n)=Ab n++[.bool false]:=by
  simp only [BH,Ab,Es,Int.natAbs_natCast,List.cons_append,List.nil_append]
  have e:decide ((n:Int)<0)=false:=by simp
  simp [e]
theorem Ns (D a b:Nat):Ej prog (D+3) 49 (.agg (Ab a).toArray) (.agg (Ab b).toArray) (decide (a=b)):=by
  have h:=Ej.struct (D:=D+2) (xs:=Ab a) (ys:=Ab b) underlying49 Tryz.stoodInHeld49 (Ia.agg (us:=Ab a) (bs:=Ab b) (by decide) isAgg47 sizeOf47 rfl rfl (G5 D a b) Ia.nil)
  simpa using h
theorem BC (neg:Bool) (n:Nat):(Es neg n).natAbs=n:=by cases neg<;>simp [Es]
theorem VM (a:Int):Es (!(decide (a<0))) a.natAbs = -a:=by
  unfold Es
  by_cases h:a<0
  · simp [h];omega
  · simp [h];omega
theorem W_ (a b:Int):Es (!(decide (a<0) == decide (b<0))) (a.natAbs*b.natAbs)=a*b:=by
  rw [<-Int.natAbs_mul]
  unfold Es
  by_cases h:a<0<;>by_cases h':b<0
  · have:=Int.mul_pos_of_neg_of_neg h h';simp [h,h'];omega
  · have:a*b<=0:=Int.mul_nonpos_of_nonpos_of_nonneg Z Z
    simp [h,h'];omega
  · have:a*b<=0:=Int.mul_nonpos_of_nonneg_of_nonpos Z Z
    simp [h,h'];omega
  · have:0<=a*b:=Int.mul_nonneg Z Z
    simp [h,h'];omega
theorem Mn {a b:Int} (h:(decide (a<0) == decide (b<0))=true):Es (decide (a<0)) (a.natAbs+b.natAbs)=a+b:=by
  unfold Es
  by_cases h1:a<0<;>by_cases h2:b<0<;>simp [h1,h2] at h ⊢<;>omega
theorem Pf {a b:Int} (h:(decide (a<0) == decide (b<0))=false) (h3:b.natAbs<=a.natAbs):Es (decide (a<0)) (a.natAbs-b.natAbs)=a+b:=by
  unfold Es
  by_cases h1:a<0<;>by_cases h2:b<0<;>simp [h1,h2] at h ⊢<;>omega
theorem Ox {a b:Int} (h:(decide (a<0) == decide (b<0))=false) (h3:¬b.natAbs<=a.natAbs):Es (decide (b<0)) (b.natAbs-a.natAbs)=a+b:=by
  unfold Es
  by_cases h1:a<0<;>by_cases h2:b<0<;>simp [h1,h2] at h ⊢<;>omega
theorem aB {z:Int} (h:z<0) (h2:-9223372036854775808<=z):IntKind.u64.wrap (-(IntKind.u64.wrap z))=((z.natAbs:Nat):Int):=by
  simp only [IntKind.wrap,IntKind.bits,IntKind.signed];simp;omega
theorem Kx {z:Int} (h:z<0):Es true z.natAbs=z:=by unfold Es;simp;omega
theorem Rb {z:Int} (h:¬z<0):Es false z.natAbs=z:=by unfold Es;simp;omega
section
set_option maxRecDepth 100000
theorem LX  :Instr.fill ([(0,2)].toArray[·]?) (Ab 0).toArray []=some (Ab 0).toArray:=by kernel_rfl
theorem Hs (n:Nat) (w:World)  :Calls prog 182 #[(aG (Ab n))] w (Aq w (Value.bool (decide (n=0)))):=by
 refine Ae (args:=[(aG (Ab n))]) func182 O O (Ac O) (AF.subF (sL [0] O) (q4 (Bg (cs:=Ab n) O λb1=>AL O (q3 (sL [1,2] O) ?_))))
 refine BA 0 Q8 O (AH (v:=(aG (Ab 0))) (Ad (zs:=Ab 0) (vs:=Ab 0) (pv:=[]) (places:=[(0,2)]) zeroValue49 underlying49 (λw=>by simp [sizeOf47]) O (LX )) O (AH (Bd (c:=(decide (n=0))) O O eqGuardType49 (Ns 9997 n 0)) O (AL O (AE.nil (AD.subF (sL [2] O) ?_)))))
 exact AD.then_ (AF.ret (AR O (Ai (v:=(Value.bool (decide (n=0)))) O) (λw hw=>⟨rfl,hw.out⟩)))
theorem E7 (x0:Nat):Instr.fill ([(0,2)].toArray[·]?) (Ab 0).toArray [(0,.agg (Ab x0).toArray)]=some (Ab x0).toArray:=by kernel_rfl
theorem Q6 (n:Nat) (w:World)  :Calls prog 140 #[(Value.bool true),(aG (Ab n))] w (Aq w (aG (BH (Es true n)))):=by
 refine Ae (args:=[(Value.bool true),(aG (Ab n))]) func140 O O (Ac O) (AF.subF (sL [0,1] O) (q4 (Bg (cs:=Ab n) O λb1=>al JS O λb2=>q3 (sL [0,3,4] O) ?_)))
 refine BA 1 CL O (AH (v:=(aG (Ab n))) (Ad (zs:=Ab 0) (vs:=Ab n) (pv:=[(0,(aG (Ab n)))]) (places:=[(0,2)]) zeroValue49 underlying49 (λw=>by simp [sizeOf47]) O (E7 n)) O (al Y2 O λb3=>Aw O sizeOf49 O (q6 (sL [0,4,5] O) (Cm [(0,true),(1,true),(2,true),(3,true),(4,false),(5,true),(6,true),(7,true),(8,false)] (sk (sl sr)) ?_))))
 refine En 0 Q8 O (Bc O (Bc O (AT.pas (v:=(aG (Ab n))) O (AB O) (A7 (i:=0) (vs:=Ab n) O O Q8.a Q8.s O O) O O (AT.imp O (AE.call (v:=(Value.bool (decide (n=0)))) (AB O) (A_ (args:=[(aG (Ab n))]) O O call182) (λw hw=>Hs n w) O (Ac O) ?_)))))
 refine AT.back (sk (sl sr)) (AT.pas (v:=(Value.bool (!(decide (n=0))))) O (AB O) (BZ (c:=(!(decide (n=0)))) O O) O O (Au (v:=(Value.bool (!(decide (n=0))))) O (Aj O O) (Au (v:=(aG (Ab n++[(Value.bool (!(decide (n=0))))]))) O (Ad (zs:=BH 0) (vs:=Ab n++[(Value.bool (!(decide (n=0))))]) (pv:=[(0,(aG (Ab n))),(1,(Value.bool (!(decide (n=0)))))]) (places:=[(0,2),(2,1)]) zeroValue51 underlying51 (λw=>by simp [sizeOf4,sizeOf49]) O O) (AT.imp O (DP O sizeOf51 O ?_)))))
 exact AT.back (sk (sl sr)) (AT.nil (AD.subF (sL [4,5] O) (AD.then_ (AF.ret (AR O (Az (i:=1) (cs:=Ab n++[(Value.bool (!(decide (n=0))))]) O O isAgg51 sizeOf51 O) (λw hw=>⟨by rw [TI],hw.out⟩))))))
theorem O_ (n:Nat) (w:World)  :Calls prog 140 #[(Value.bool false),(aG (Ab n))] w (Aq w (aG (BH (Es false n)))):=by
 refine Ae (args:=[(Value.bool false),(aG (Ab n))]) func140 O O (Ac O) (AF.subF (sL [0,1] O) (q4 (Bg (cs:=Ab n) O λb1=>al JS O λb2=>q3 (sL [0,3,4] O) ?_)))
 refine BA 1 CL O (AH (v:=(aG (Ab n))) (Ad (zs:=Ab 0) (vs:=Ab n) (pv:=[(0,(aG (Ab n)))]) (places:=[(0,2)]) zeroValue49 underlying49 (λw=>by simp [sizeOf47]) O (E7 n)) O (al Y2 O λb3=>Aw O sizeOf49 O (q6 (sL [0,4,5] O) (Cm [(0,true),(1,true),(2,true),(3,true),(4,false),(5,true),(6,true),(7,true),(8,false)] (sk (sl sr)) ?_))))
 refine En 0 Q8 O (Bc O (Bc O (AT.skp O (AN O) O O (AT.imp O (AE.skip (AN O) O (Ac O) ?_)))))
 refine AT.back (sk (sl sr)) (AT.skp O (AN O) O O (Au (v:=(Value.bool false)) O (AV O O) (Au (v:=(aG (Ab n++[(Value.bool false)]))) O (Ad (zs:=BH 0) (vs:=Ab n++[(Value.bool false)]) (pv:=[(0,(aG (Ab n))),(1,(Value.bool false))]) (places:=[(0,2),(2,1)]) zeroValue51 underlying51 (λw=>by simp [sizeOf4,sizeOf49]) O O) (AT.imp O (DP O sizeOf51 O ?_)))))
 exact AT.back (sk (sl sr)) (AT.nil (AD.subF (sL [4,5] O) (AD.then_ (AF.ret (AR O (Az (i:=1) (cs:=Ab n++[(Value.bool false)]) O O isAgg51 sizeOf51 O) (λw hw=>⟨by rw [SZ],hw.out⟩))))))
theorem EJ (neg:Bool) (n:Nat) (w:World):Calls prog 140 #[.bool neg,.agg (Ab n).toArray] w (Aq w (.agg (BH (Es neg n)).toArray)):=by
 cases neg
 ·exact O_ n w
 ·exact Q6 n w
theorem XS (z:Int) (hz:-9223372036854775808<=z) (hz2:z<9223372036854775808) (w:World)  :Calls prog 73 #[(vI z)] w (Aq w (aG (BH z))):=by
 refine Ae (args:=[(vI z)]) func73 O O (Ac O) (AF.subF (sL [0] O) (q4 (al JS O λb1=>AE.nil (q1 ?_))))
 refine q4 (AS O (AH (Ak (c:=(decide (z<(0:Int)))) O O O) O (AE.nil (AD.subF (sL [0,2,4] O) (AD.then_ ?_)))))
 refine AF.cond O (λhc0=>?_) (λhc0=>?_)
 ·replace hc0:=of_decide_eq_true hc0
  have he:=Kx hc0
  refine q4 (AS O (AH (A8 (c:=(IntKind.u64.wrap z)) O underlying2 underlying45 (rfl)) O (AH (Kt (c:=((z.natAbs:Nat):Int)) O (by rw [Int.zero_sub];exact aB hc0 hz)) O (BR call147 (Jh z.natAbs Z) O (BR call140 (EJ true z.natAbs) O ?_)))))
  exact Aw O sizeOf51 O (AE.nil (AD.subF (sL [0,2] O) (AD.then_ (AF.ret (AD.then_ret (AR O (Az (i:=0) (cs:=BH (Es true z.natAbs)) O O isAgg51 sizeOf51 O) (λw hw=>⟨by rw [he],hw.out⟩)))))))
 ·replace hc0:=of_decide_eq_false hc0
  have he:=Rb hc0
  refine AF.skip (q2 (AS O (AH (A8 (c:=((z.natAbs:Nat):Int)) O underlying2 underlying45 (by rw [Dy Z Z];omega)) O (BR call147 (Jh z.natAbs Z) O (BR call140 (EJ false z.natAbs) O ?_)))))
  exact Aw O sizeOf51 O (AE.nil (AD.subF (sL [0,2] O) (AD.then_ (AF.ret (AR O (Az (i:=0) (cs:=BH (Es false z.natAbs)) O O isAgg51 sizeOf51 O) (λw hw=>⟨by rw [he],hw.out⟩))))))
theorem NP (a:Int) (w:World)  :Calls prog 141 #[(aG (BH a))] w (Aq w (aG (Ab a.natAbs))):=by
 refine Ae (args:=[(aG (BH a))]) func141 O O (Ac O) (AF.subF (sL [0] O) (q4 (Bg (cs:=BH a) O λb1=>al F5 O λb2=>q3 (sL [1,2] O) ?_)))
 refine AH (v:=(pP b1 0)) (AA O underlying51 O sizeOf49 O) O (AH (v:=(pP b1 0)) (AA O underlying49 O sizeOf47 O) O (EP 1 (Ab a.natAbs) CL O (Aw O sizeOf47 O (AE.nil (AD.subF (sL [2] O) ?_)))))
 exact AD.then_ (AF.ret (AR O (Az (i:=0) (cs:=Ab a.natAbs) O O isAgg47 sizeOf47 O) (λw hw=>⟨rfl,hw.out⟩)))
theorem J4 (a:Int) (w:World)  :Calls prog 137 #[(aG (BH a))] w (Aq w (vI a.sign)):=by
 refine Ae (args:=[(aG (BH a))]) func137 O O (Ac O) (AF.subF (sL [0] O) (q4 (Bg (cs:=BH a) O λb1=>AL O (q6 (sL [1,2] O) ?_))))
 refine AF.block (q4 (AH (v:=(pP b1 0)) (AA O underlying51 O sizeOf49 O) O (EP 0 (Ab a.natAbs) Q8 O (BR call182 (Hs a.natAbs) O (AL O ?_)))))
 refine AE.nil (AD.subF (sL [1,2,3] O) (AD.then_ ?_))
 refine AF.cond O (λhc0=>?_) (λhc0=>?_)
 ·replace hc0:=of_decide_eq_true hc0
  have he:a.sign=0:=by rw [show a=0 by omega];rfl
  refine q4 (AL O (AE.nil (AD.then_ (AF.ret (AD.in_ret ?_)))))
  exact AD.then_ret (AR O (Ai (v:=(vI 0)) O) (λw hw=>⟨by rw [he],hw.out⟩))
 ·replace hc0:=of_decide_eq_false hc0
  refine q4 (AH (v:=(pP b1 2)) (AA O underlying51 O sizeOf4 O) O (BJ 0 (Value.bool (decide (a<0))) VA O (AL O (AE.nil (AD.subF (sL [1,2,7] O) ?_)))))
  refine AD.then_ ?_
  refine AF.cond O (λhc1=>?_) (λhc1=>?_)
  ·replace hc1:=of_decide_eq_true hc1
   have he:a.sign = -1:=Int.sign_eq_neg_one_of_neg hc1
   refine q4 (AL O (AE.nil (AD.then_ (AF.ret (AD.in_ret ?_)))))
   exact AD.then_ret (AR O (Ai (v:=(vI (-1:Int))) O) (λw hw=>⟨by rw [he],hw.out⟩))
  ·replace hc1:=of_decide_eq_false hc1
   have he:a.sign=1:=Int.sign_eq_one_of_pos Z
   refine AF.skip (AD.in_normal (q2 (AL O (AE.nil (AD.then_ ?_)))))
   exact AF.ret (AR O (Ai (v:=(vI 1)) O) (λw hw=>⟨by rw [he],hw.out⟩))
theorem Pu (a:Int) (w:World)  :Calls prog 201 #[(aG (BH a))] w (Aq w (aG (BH (-a)))):=by
 refine Ae (args:=[(aG (BH a))]) func201 O O (Ac O) (AF.subF (sL [0] O) (q4 (Bg (cs:=BH a) O λb1=>al JS O λb2=>q3 (sL [1,2] O) ?_)))
 refine AH (v:=(pP b1 2)) (AA O underlying51 O sizeOf4 O) O (BJ 1 (Value.bool (decide (a<0))) VA O (AH (BZ (c:=(!(decide (a<0)))) O O) O (AH (v:=(pP b1 0)) (AA O underlying51 O sizeOf49 O) O (AH (v:=(pP b1 0)) (AA O underlying49 O sizeOf47 O) O (EP 1 (Ab a.natAbs) CL O ?_)))))
 exact BR call140 (EJ (!(decide (a<0))) a.natAbs) O (Aw O sizeOf51 O (AE.nil (AD.subF (sL [2] O) (AD.then_ (AF.ret (AR O (Az (i:=0) (cs:=BH (Es (!(decide (a<0))) a.natAbs)) O O isAgg51 sizeOf51 O) (λw hw=>⟨by rw [VM],hw.out⟩)))))))
theorem Wl (a b:Int) (ha:nw a.natAbs<=1099511627776) (hb:nw b.natAbs<=1099511627776) (w:World)  :Calls prog 154 #[(aG (BH a)),(aG (BH b))] w (Aq w (aG (BH (a+b)))):=by
 refine Ae (args:=[(aG (BH a)),(aG (BH b))]) func154 O O (Ac O) (AF.subF (sL [0,1] O) (q4 (Bg (cs:=BH a) O λb1=>Bg (cs:=BH b) O λb2=>al JS O λb3=>?_)))
 refine q6 (sL [2,3,4] O) (q4 (AH (v:=(pP b1 2)) (AA O underlying51 O sizeOf4 O) O (BJ 2 (Value.bool (decide (a<0))) VA O (AH (v:=(pP b2 2)) (AA O underlying51 O sizeOf4 O) O (BJ 1 (Value.bool (decide (b<0))) VA O ?_)))))
 refine AH (I1 (c:=(decide (a<0) == decide (b<0))) O O underlying4 O) O (AE.nil (AD.subF (sL [2,3,4,13] O) (AD.then_ ?_)))
 refine AF.cond O (λhc0=>?_) (λhc0=>?_)
 ·skip
  have he:=Mn hc0
  refine AF.seq (Cm [(0,true),(1,true),(2,true),(3,true),(4,true),(5,true),(6,true),(7,true),(8,false),(9,false),(10,false)] (sl sr) (Au (v:=(pP b1 2)) O (AA O underlying51 O sizeOf4 O) (Be 1 (Value.bool (decide (a<0))) VA O (Au (v:=(pP b1 0)) O (AA O underlying51 O sizeOf49 O) (Au (v:=(pP b1 0)) O (AA O underlying49 O sizeOf47 O) ?_)))))
  refine GL 1 (Ab a.natAbs) CL O (Au (v:=(pP b2 0)) O (AA O underlying51 O sizeOf49 O) (Au (v:=(pP b2 0)) O (AA O underlying49 O sizeOf47 O) (GL 0 (Ab b.natAbs) CL O (AT.imp O (BR call151 (Ss a.natAbs b.natAbs Z Z) O ?_)))))
  refine AT.back (sl sr) (AT.imp O (BR call140 (EJ (decide (a<0)) (a.natAbs+b.natAbs)) O (AT.back (sl sr) (AT.imp O (Aw O sizeOf51 O ?_)))))
  exact AT.back (sl sr) (AT.nil (AD.subF (sL [2,3,4] O) (AD.then_ (AF.ret (AD.then_ret (AR O (Az (i:=0) (cs:=BH (Es (decide (a<0)) (a.natAbs+b.natAbs))) O O isAgg51 sizeOf51 O) (λw hw=>⟨by rw [he],hw.out⟩)))))))
 ·skip
  refine AF.skip (q1 (q4 (AH (v:=(pP b1 0)) (AA O underlying51 O sizeOf49 O) O (AH (v:=(pP b1 0)) (AA O underlying49 O sizeOf47 O) O (EP 2 (Ab a.natAbs) CL O ?_)))))
  refine AH (v:=(pP b2 0)) (AA O underlying51 O sizeOf49 O) O (AH (v:=(pP b2 0)) (AA O underlying49 O sizeOf47 O) O (EP 1 (Ab b.natAbs) CL O (BR call146 (Pg a.natAbs b.natAbs Z Z) O (AS O (AH (AZ (v:=(aG (Ab (a.natAbs-b.natAbs)))) O O) O ?_)))))
  refine AH (AZ (v:=(Value.bool (decide (b.natAbs<=a.natAbs)))) O O) O (al F5 O λb4=>Aw O sizeOf47 O (AL O (q3 (sL [2,3,4,5,6] O) (AS O ?_))))
  refine AE.nil (AD.subF (sL [2,3,4,5,34] O) (AD.then_ ?_))
  refine AF.cond O (λhc1=>?_) (λhc1=>?_)
  ·replace hc1:=of_decide_eq_true hc1
   have he:=Pf hc0 hc1
   refine q4 (AH (v:=(pP b1 2)) (AA O underlying51 O sizeOf4 O) O (BJ 3 (Value.bool (decide (a<0))) VA O (BA 0 CL O (BR call140 (EJ (decide (a<0)) (a.natAbs-b.natAbs)) O (DP O sizeOf51 O ?_)))))
   exact AE.nil (AD.subF (sL [2,3,4,5] O) (AD.then_ (AF.ret (AD.then_ret (AR O (Az (i:=1) (cs:=BH (Es (decide (a<0)) (a.natAbs-b.natAbs))) O O isAgg51 sizeOf51 O) (λw hw=>⟨by rw [he],hw.out⟩))))))
  ·replace hc1:=of_decide_eq_false hc1
   have he:=Ox hc0 hc1
   refine AF.skip (q2 (AH (v:=(pP b2 0)) (AA O underlying51 O sizeOf49 O) O (AH (v:=(pP b2 0)) (AA O underlying49 O sizeOf47 O) O (EP 2 (Ab b.natAbs) CL O (AH (v:=(pP b1 0)) (AA O underlying51 O sizeOf49 O) O ?_)))))
   refine AH (v:=(pP b1 0)) (AA O underlying49 O sizeOf47 O) O (EP 3 (Ab a.natAbs) CL O (BR call146 (Pg b.natAbs a.natAbs Z Z) O (AS O (AH (AZ (v:=(aG (Ab (b.natAbs-a.natAbs)))) O O) O (AH (AZ (v:=(Value.bool (decide (a.natAbs<=b.natAbs)))) O O) O ?_)))))
   refine al F5 O λb5=>Aw O sizeOf47 O (AL O (q3 (sL [2,3,4,5,7] O) (AH (v:=(pP b2 2)) (AA O underlying51 O sizeOf4 O) O (BJ 3 (Value.bool (decide (b<0))) VA O ?_))))
   refine BA 0 CL O (BR call140 (EJ (decide (b<0)) (b.natAbs-a.natAbs)) O (QQ O sizeOf51 O (AE.nil (AD.subF (sL [2,3,4,5,7] O) (AD.then_ ?_)))))
   exact AF.ret (AR O (Az (i:=2) (cs:=BH (Es (decide (b<0)) (b.natAbs-a.natAbs))) O O isAgg51 sizeOf51 O) (λw hw=>⟨by rw [he],hw.out⟩))
theorem Sl (a b:Int) (ha:nw a.natAbs<=1099511627776) (hb:nw b.natAbs<=1099511627776) (w:World)  :Calls prog 143 #[(aG (BH a)),(aG (BH b))] w (Aq w (aG (BH (a*b)))):=by
 refine Ae (args:=[(aG (BH a)),(aG (BH b))]) func143 O O (Ac O) (AF.subF (sL [0,1] O) (q4 (Bg (cs:=BH a) O λb1=>Bg (cs:=BH b) O λb2=>al JS O λb3=>?_)))
 refine q6 (sL [2,3,4] O) (Cm [(0,true),(1,true),(2,true),(3,true),(4,true),(5,true),(6,true),(7,true),(8,true),(9,true),(10,true),(11,false),(12,false),(13,false)] (sl sr) (Au (v:=(pP b1 2)) O (AA O underlying51 O sizeOf4 O) (Be 1 (Value.bool (decide (a<0))) VA O (Au (v:=(pP b2 2)) O (AA O underlying51 O sizeOf4 O) (Be 0 (Value.bool (decide (b<0))) VA O ?_)))))
 refine Au O (Nf (c:=(!(decide (a<0) == decide (b<0)))) O O underlying4 O) (Au (v:=(pP b1 0)) O (AA O underlying51 O sizeOf49 O) (Au (v:=(pP b1 0)) O (AA O underlying49 O sizeOf47 O) (GL 1 (Ab a.natAbs) CL O (Au (v:=(pP b2 0)) O (AA O underlying51 O sizeOf49 O) (Au (v:=(pP b2 0)) O (AA O underlying49 O sizeOf47 O) ?_)))))
 refine GL 0 (Ab b.natAbs) CL O (AT.imp O (BR call71 (Oy a.natAbs b.natAbs Z Z) O (AT.back (sl sr) (AT.imp O (BR call140 (EJ (!(decide (a<0) == decide (b<0))) (a.natAbs*b.natAbs)) O ?_)))))
 refine AT.back (sl sr) (AT.imp O (Aw O sizeOf51 O (AT.back (sl sr) (AT.nil (AD.subF (sL [4] O) ?_)))))
 exact AD.then_ (AF.ret (AR O (Az (i:=0) (cs:=BH (Es (!(decide (a<0) == decide (b<0))) (a.natAbs*b.natAbs))) O O isAgg51 sizeOf51 O) (λw hw=>⟨by rw [W_],hw.out⟩)))
theorem IA (a b:Int) (ha:nw a.natAbs<=1099511627776) (hb:nw b.natAbs<=1099511627776) (w:World)  :Calls prog 142 #[(Value.func (.func 154) #[] #[]),(aG (BH a)),(aG (BH b))] w (Aq w (aG (BH (a+b)))):=by
 refine Ae (args:=[(Value.func (.func 154) #[] #[]),(aG (BH a)),(aG (BH b))]) func142 O O (Ac O) (AF.subF (sL [0,1,2] O) (q4 (Bg (cs:=BH a) O λb1=>Bg (cs:=BH b) O λb2=>al JS O λb3=>?_)))
 refine q3 (sL [0,4,5,6] O) (AS O (BA 2 DW O (BA 1 DW O (BR call154 (Wl a b (by first|omega|(simp only [Int.natAbs_neg,BC,Int.natAbs_natCast];omega)) (by first|omega|(simp only [Int.natAbs_neg,BC,Int.natAbs_natCast];omega))) O (Aw O sizeOf51 O ?_)))))
 exact AE.nil (AD.subF (sL [6] O) (AD.then_ (AF.ret (AR O (Az (i:=0) (cs:=BH (a+b)) O O isAgg51 sizeOf51 O) (λw hw=>⟨rfl,hw.out⟩)))))
theorem LG (a b:Int) (ha:nw a.natAbs<=1099511627776) (hb:nw b.natAbs<=1099511627776) (w:World)  :Calls prog 142 #[(Value.func (.func 143) #[] #[]),(aG (BH a)),(aG (BH b))] w (Aq w (aG (BH (a*b)))):=by
 refine Ae (args:=[(Value.func (.func 143) #[] #[]),(aG (BH a)),(aG (BH b))]) func142 O O (Ac O) (AF.subF (sL [0,1,2] O) (q4 (Bg (cs:=BH a) O λb1=>Bg (cs:=BH b) O λb2=>al JS O λb3=>?_)))
 refine q3 (sL [0,4,5,6] O) (AS O (BA 2 DW O (BA 1 DW O (BR call143 (Sl a b (by first|omega|(simp only [Int.natAbs_neg,BC,Int.natAbs_natCast];omega)) (by first|omega|(simp only [Int.natAbs_neg,BC,Int.natAbs_natCast];omega))) O (Aw O sizeOf51 O ?_)))))
 exact AE.nil (AD.subF (sL [6] O) (AD.then_ (AF.ret (AR O (Az (i:=0) (cs:=BH (a*b)) O O isAgg51 sizeOf51 O) (λw hw=>⟨rfl,hw.out⟩)))))
theorem M2 (a b:Int) (ha:nw a.natAbs<=1099511627776) (hb:nw b.natAbs<=1099511627776) (w:World)  :Calls prog 82 #[(aG (BH a)),(aG (BH b))] w (Aq w (aG (BH (a+b)))):=by
 refine Ae (args:=[(aG (BH a)),(aG (BH b))]) func82 O O (Ac O) (AF.subF (sL [0,1] O) (q4 (Bg (cs:=BH a) O λb1=>Bg (cs:=BH b) O λb2=>al JS O λb3=>?_)))
 refine q3 (sL [2,3,4] O) (BA 2 DW O (BA 1 DW O (BR call142 (IA a b (by first|omega|(simp only [Int.natAbs_neg,BC,Int.natAbs_natCast];omega)) (by first|omega|(simp only [Int.natAbs_neg,BC,Int.natAbs_natCast];omega))) O (Aw O sizeOf51 O (AE.nil ?_)))))
 exact AD.subF (sL [4] O) (AD.then_ (AF.ret (AR O (Az (i:=0) (cs:=BH (a+b)) O O isAgg51 sizeOf51 O) (λw hw=>⟨rfl,hw.out⟩))))
theorem Wo (a b:Int) (ha:nw a.natAbs<=1099511627776) (hb:nw b.natAbs<=1099511627776) (w:World)  :Calls prog 157 #[(aG (BH a)),(aG (BH b))] w (Aq w (aG (BH (a-b)))):=by
 refine Ae (args:=[(aG (BH a)),(aG (BH b))]) func157 O O (Ac O) (AF.subF (sL [0,1] O) (q4 (Bg (cs:=BH a) O λb1=>Bg (cs:=BH b) O λb2=>al JS O λb3=>?_)))
 refine q6 (sL [2,3,4] O) (Cm [(0,true),(1,true),(2,false),(3,false),(4,false)] (sl sr) (En 1 DW O (En 0 DW O (AT.imp O (BR call201 (Pu b) O ?_)))))
 refine AT.back (sl sr) (AT.imp O (BR call142 (IA a (-b) (by first|omega|(simp only [Int.natAbs_neg,BC,Int.natAbs_natCast];omega)) (by first|omega|(simp only [Int.natAbs_neg,BC,Int.natAbs_natCast];omega))) O (AT.back (sl sr) (AT.imp O (Aw O sizeOf51 O ?_)))))
 exact AT.back (sl sr) (AT.nil (AD.subF (sL [4] O) (AD.then_ (AF.ret (AR O (Az (i:=0) (cs:=BH (a+(-b))) O O isAgg51 sizeOf51 O) (λw hw=>⟨by rw [Int.sub_eq_add_neg],hw.out⟩))))))
theorem Gw (a b:Int) (ha:nw a.natAbs<=1099511627776) (hb:nw b.natAbs<=1099511627776) (w:World)  :Calls prog 69 #[(aG (BH a)),(aG (BH b))] w (Aq w (aG (BH (a*b)))):=by
 refine Ae (args:=[(aG (BH a)),(aG (BH b))]) func69 O O (Ac O) (AF.subF (sL [0,1] O) (q4 (Bg (cs:=BH a) O λb1=>Bg (cs:=BH b) O λb2=>al JS O λb3=>?_)))
 refine q3 (sL [2,3,4] O) (BA 2 DW O (BA 1 DW O (BR call142 (LG a b (by first|omega|(simp only [Int.natAbs_neg,BC,Int.natAbs_natCast];omega)) (by first|omega|(simp only [Int.natAbs_neg,BC,Int.natAbs_natCast];omega))) O (Aw O sizeOf51 O (AE.nil ?_)))))
 exact AD.subF (sL [4] O) (AD.then_ (AF.ret (AR O (Az (i:=0) (cs:=BH (a*b)) O O isAgg51 sizeOf51 O) (λw hw=>⟨rfl,hw.out⟩))))
theorem P0 (a b:Int) (ha:nw a.natAbs<=1099511627776) (hb:nw b.natAbs<=1099511627776) (w:World)  :Calls prog 94 #[(aG (BH a)),(aG (BH b))] w (Aq w (vI ((a-b).sign))):=by
 refine Ae (args:=[(aG (BH a)),(aG (BH b))]) func94 O O (Ac O) (AF.subF (sL [0,1] O) (q4 (Bg (cs:=BH a) O λb1=>Bg (cs:=BH b) O λb2=>AL O ?_)))
 refine q3 (sL [2,3,4] O) (BA 1 DW O (BA 0 DW O (BR call157 (Wo a b (by first|omega|(simp only [Int.natAbs_neg,BC,Int.natAbs_natCast];omega)) (by first|omega|(simp only [Int.natAbs_neg,BC,Int.natAbs_natCast];omega))) O (BR call137 (J4 (a-b)) O (AL O ?_)))))
 exact AE.nil (AD.subF (sL [4] O) (AD.then_ (AF.ret (AR O (Ai (v:=(vI ((a-b).sign))) O) (λw hw=>⟨rfl,hw.out⟩)))))
end
end Go.Proofs.YtfbomiejpbchdaaGreat
