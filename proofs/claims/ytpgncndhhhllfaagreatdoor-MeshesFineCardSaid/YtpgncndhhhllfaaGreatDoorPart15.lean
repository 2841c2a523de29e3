import Derived.Test.YtpgncndhhhllfaaGreatDoorPart03
import Derived.Test.YtpgncndhhhllfaaGreatDoorPart13
import Derived.Test.YtpgncndhhhllfaaGreatDoorPart14
namespace Go.Proofs.YtpgncndhhhllfaaGreatDoor
open Go Go.RowKit Go.Proofs.Tryz
set_option linter.unusedVariables false
set_option linter.unusedSimpArgs false
section
set_option maxRecDepth 100000
theorem FY {N v:Nat} (h:v<4294967296^N):val ((Co N v).take N)=v:=by
 rw [List.take_of_length_le (by rw [Bk];exact Nat.le_refl _),Ey _ _ h]
theorem TD {a b:Nat} (hb:0<nw b) (h:nw b<=nw a):a/b<4294967296^(nw a+1-nw b):=by
 have h1:=IS hb
 have h2:=Bt a
 rw [Nat.div_lt_iff_lt_mul (by have:=Nat.pow_pos (n:=nw b-1) (show 0<4294967296 by omega);omega)]
 have h3:4294967296^(nw a+1-nw b)*4294967296^(nw b-1)<=4294967296^(nw a+1-nw b)*b:=Nat.mul_le_mul_left _ h1
 rw [<-Nat.pow_add,show nw a+1-nw b+(nw b-1)=nw a by omega] at h3
 omega
theorem TM {a b:Nat}:a%b<4294967296^(nw a+1):=Nat.lt_of_le_of_lt (Nat.mod_le _ _) (Nat.lt_of_lt_of_le (Bt a) (Nat.pow_le_pow_right Z Z))
theorem PV {b:Nat} (h:nw b=0):b=0:=by
 have:=Bt b
 rw [h] at this
 omega
theorem W0 {b:Nat} (h:nw b=1):(BC b).getD 0 0=b/\b<4294967296:=by
 have h1:=Bt b
 rw [h] at h1
 refine ⟨?_,Z⟩
 rw [Dc Z,Hn,Nat.pow_zero,Nat.div_one,Nat.mod_eq_of_lt Z]
theorem Lo  :Instr.fill ([(0,1),(1,1)].toArray[·]?) (Ab 0).toArray []=some (Ab 0).toArray:=by kernel_rfl
theorem QC (a b:Nat) (ha:nw a<=1099511627776) (hb:nw b<=1099511627776) (hb0:b≠0) (w:World)  :Calls prog 102 #[(aG (Ab a)),(aG (Ab b))] w (An w (Value.tuple #[(aG (Ab (a/b))),(aG (Ab (a%b))),(Value.bool true)])):=by
 have hnb:nw b≠0:=λh=>hb0 (PV h)
 have hla:=CR a
 have hlb:=CR b
 refine Af (args:=[(aG (Ab a)),(aG (Ab b))]) func102 O O (AT O) (AF.subF (sL [0,1] O) (q4 (BU (cs:=Ab a) O λb1=>BU (cs:=Ab b) O λb2=>al F5 O λb3=>?_)))
 refine al F5 O λb4=>asg' O (q6 (sL [2,3,4,5,6] O) (AF.block (q4 (BD 2 B7 O ?_))))
 refine ck' call167 (Q4 b) O (asg' O (AE.nil (AC.subF (sL [2,3,4,5,6,12] O) (AC.then_ ?_))))
 refine AF.cond O (λhc0=>?_) (λhc0=>?_)
 ·replace hc0:=of_decide_eq_true hc0
  exact absurd hc0 hb0
 ·replace hc0:=of_decide_eq_false hc0
  refine q4 (BD 3 B7 O (BD 2 B7 O (ck' call168 (UQ a b Z Z) O (AH (Ae (c:=(decide ((DL a b)<(0:Int)))) O O O) O (asg' O ?_)))))
  refine AE.nil (AC.subF (sL [2,3,4,5,6,17] O) (AC.then_ ?_))
  refine AF.cond O (λhc1=>?_) (λhc1=>?_)
  ·replace hc1:=of_decide_eq_true hc1
   rw [FF] at hc1
   have e1:a/b=0:=Nat.div_eq_of_lt hc1
   have e2:a%b=a:=Nat.mod_eq_of_lt hc1
   refine AF.seq (Cd [(0,true),(1,true),(2,false),(3,false),(4,true)] (sl (sl sr)) (Aq (v:=(aG (Ab 0))) O (AV (zs:=Ab 0) (vs:=Ab 0) (pv:=[]) (places:=[(0,1),(1,1)]) zeroValue42 underlying42 (λw=>by simp [sizeOf9,sizeOf40]) O (Lo )) (Da 1 B7 O (OkE.imp O (Cm O sizeOf42 O ?_)))))
   refine OkE.back (sl (sl sr)) (OkE.imp O (A8 O sizeOf42 O (OkE.back (sl (sl sr)) (pS' O (OkE.nil ?_)))))
   exact AC.subF (sL [2,3,4,5,6] O) (AC.then_ (AF.ret (AC.in_ret (AC.then_ret (Et O (Ap (i:=1) (cs:=Ab 0) O O isAgg42 sizeOf42 O) (Ap (i:=0) (cs:=Ab a) O O isAgg42 sizeOf42 O) (AY (v:=(Value.bool true)) O) (λw hw=>⟨by rw [e1,e2],hw.out⟩))))))
  ·replace hc1:=of_decide_eq_false hc1
   rw [FF] at hc1
   have hba:nw b<=nw a:=C1 Z
   refine q4 (AH (v:=(pP b1 1)) (AA O underlying42 O sizeOf9 O) O (BA 3 (Value.string (Bm a)) TQ O (AH (Bf (c:=(decide (a<18446744073709551616))) O O CY) O (asg' O (AE.nil ?_)))))
   refine AC.subF (sL [2,3,4,5,6,24] O) (AC.then_ ?_)
   refine AF.cond O (λhc2=>?_) (λhc2=>?_)
   ·replace hc2:=of_decide_eq_true hc2
    have la:B8 a=a:=Bh hc2
    have lb:B8 b=b:=Bh Z
    have q1:a/b<18446744073709551616:=Nat.lt_of_le_of_lt (Nat.div_le_self _ _) hc2
    have q2:a%b<18446744073709551616:=Nat.lt_of_le_of_lt (Nat.mod_le _ _) hc2
    refine AF.seq (Cd [(0,true),(1,true),(2,true),(3,true),(4,true),(5,true),(6,true),(7,true),(8,true),(9,true),(10,true),(11,true),(12,false),(13,false),(14,true)] (sl (sl sr)) (Aq (v:=(pP b1 0)) O (AA O underlying42 O sizeOf40 O) (Bd 1 (vK .u64 (B8 a)) Gd O (Aq (v:=(pP b2 0)) O (AA O underlying42 O sizeOf40 O) (Bd 0 (vK .u64 (B8 b)) Gd O ?_)))))
    refine Aq O (Dp (c:=(((B8 a)/(B8 b):Nat):Int)) O O Z (IA (a:=B8 a) (b:=B8 b) Z)) (Aq (v:=(aG ([(vK .u64 ((B8 a)/(B8 b))),(Value.string (Bm 0))]))) O (AV (zs:=Ab 0) (vs:=[(vK .u64 ((B8 a)/(B8 b))),(Value.string (Bm 0))]) (pv:=[(0,(vK .u64 ((B8 a)/(B8 b))))]) (places:=[(0,1),(1,1)]) zeroValue42 underlying42 (λw=>by simp [sizeOf9,sizeOf40]) O O) (Aq (v:=(pP b1 0)) O (AA O underlying42 O sizeOf40 O) (Bd 1 (vK .u64 (B8 a)) Gd O (Aq (v:=(pP b2 0)) O (AA O underlying42 O sizeOf40 O) (Bd 0 (vK .u64 (B8 b)) Gd O ?_)))))
    refine Aq O (Bs (c:=(((B8 a)%(B8 b):Nat):Int)) O O Z (Gh (a:=B8 a) (b:=B8 b))) (Aq (v:=(aG ([(vK .u64 ((B8 a)%(B8 b))),(Value.string (Bm 0))]))) O (AV (zs:=Ab 0) (vs:=[(vK .u64 ((B8 a)%(B8 b))),(Value.string (Bm 0))]) (pv:=[(0,(vK .u64 ((B8 a)%(B8 b))))]) (places:=[(0,1),(1,1)]) zeroValue42 underlying42 (λw=>by simp [sizeOf9,sizeOf40]) O O) (OkE.imp O (Cm O sizeOf42 O (OkE.back (sl (sl sr)) (OkE.imp O ?_)))))
    refine A8 O sizeOf42 O (OkE.back (sl (sl sr)) (pS' O (OkE.nil (AC.subF (sL [2,3,4,5,6] O) (AC.then_ ?_)))))
    exact AF.ret (AC.in_ret (AC.then_ret (Et O (Ap (i:=1) (cs:=[(vK .u64 ((B8 a)/(B8 b))),(Value.string (Bm 0))]) O O isAgg42 sizeOf42 O) (Ap (i:=0) (cs:=[(vK .u64 ((B8 a)%(B8 b))),(Value.string (Bm 0))]) O O isAgg42 sizeOf42 O) (AY (v:=(Value.bool true)) O) (λw hw=>⟨by rw [Do q1,Do q2,la,lb];rfl,hw.out⟩))))
   ·replace hc2:=of_decide_eq_false hc2
    refine AF.skip (AC.in_normal (q2 (BD 2 B7 O (AE.callB (V:=λb5=>(Value.slice (some ⟨b5,0,none⟩) (nw b) ((BC b).length))) (T:=97) (cs:=Au (BC b)) (AS O) (Ao (args:=[(aG (Ab b))]) O O call111) (λw hw=>DQ b Z w) O (AT O) λb5=>asg' O ?_))))
    refine q6 (sL [2,3,4,5,6,7] O) (q4 (AM O (AH (v:=(vN (nw b))) (AG O underlying184) O (AH (BL (c:=(decide ((nw b)=1))) O O (Iv (a:=nw b) (b:=1))) O (AE.nil ?_)))))
    refine AC.subF (sL [2,3,4,5,6,7,44] O) (AC.then_ ?_)
    refine AF.cond O (λhc3=>?_) (λhc3=>?_)
    ·replace hc3:=of_decide_eq_true hc3
     obtain ⟨hy,hy2⟩:=W0 hc3
     refine AF.seq (Cd [(0,true),(2,true),(3,true),(4,true),(1,false),(5,false),(6,true),(7,true),(8,true),(9,true),(10,true)] sr (Da 4 B7 O (Bb O (Aq (v:=(pP b5 0)) O (AL (j:=0) O O underlying184 sizeOf97 O Z O) ?_))))
     have hx1:(BC b).getD 0 0<4294967296:=W32.getD (Cb b) 0
     refine Aq O (AK (i:=0) (v:=(vK .u32 ((BC b).getD 0 0))) O O isAgg97 (BK (xs:=BC b) (j:=0) Z)) (OkE.imp O (AE.callB (V:=λb6=>(Value.slice (some ⟨b6,0,none⟩) (nw a) ((BC a).length))) (T:=97) (cs:=Au (BC a)) (AS O) (Ao (args:=[(aG (Ab a))]) O O call111) (λw hw=>DQ a Z w) O (AT O) λb6=>OkE.back (sl sr) (OkE.imp O (AE.callB (V:=λb7=>(Value.tuple #[(Value.slice (some ⟨b7,0,none⟩) (nw a) (nw a)),(vK .u32 (a%((BC b).getD 0 0)))])) (T:=97) (cs:=Au (Co (nw a) (a/((BC b).getD 0 0)))) (AS O) (Ao (args:=[(Value.slice (some ⟨b6,0,none⟩) (nw a) ((BC a).length)),(vK .u32 ((BC b).getD 0 0))]) O O call160) (λw hw=>WC a ((BC b).getD 0 0) _ _ Z Z Z w (hw.get (i:=0) O)) O (AT O) λb7=>?_))))
     refine OkE.back (sl (sl sr)) (Bb O (Aq O (Aa (v:=(Value.slice (some ⟨b7,0,none⟩) (nw a) (nw a))) O O) (Aq O (Aa (v:=(vK .u32 (a%((BC b).getD 0 0)))) O O) (pS' O (pS' O ?_)))))
     refine OkE.nil (AC.subF (sL [2,3,4,5,6,7,8,9] O) (q2 (AM O (Cj call110 (λw hw=>JM _ (nw a) (nw a) (Co (nw a) (a/((BC b).getD 0 0))) (D5 _ _) (by first|omega|(rw [Bk];omega)|simp|(simp;omega)) (by first|omega|simp|(simp;omega)) (by first|omega|simp|(simp;omega)) w (hw.get (i:=0) O)) O (AE.retell (k:=55) (u:=(aG (Ab (a/b)))) O (by rw [hy,FY (Nat.lt_of_le_of_lt (Nat.div_le_self _ _) (Bt a))]) ?_)))))
     refine AM O ?_
     have hmb:a%(BC b).getD 0 0<4294967296:=by rw [hy];exact Nat.lt_of_lt_of_le (Nat.mod_lt _ Z) Z
     refine AH (Ay (c:=((a%((BC b).getD 0 0):Nat):Int)) O underlying97 underlying40 (BR Z)) O (AH (v:=(aG ([(vK .u64 (a%((BC b).getD 0 0))),(Value.string (Bm 0))]))) (AV (zs:=Ab 0) (vs:=[(vK .u64 (a%((BC b).getD 0 0))),(Value.string (Bm 0))]) (pv:=[(0,(vK .u64 (a%((BC b).getD 0 0))))]) (places:=[(0,1),(1,1)]) zeroValue42 underlying42 (λw=>by simp [sizeOf9,sizeOf40]) O O) O (AE.retell (k:=58) (u:=(aG (Ab (a%b)))) O (by rw [hy] at hmb ⊢;rw [Do Z];rfl) (Eg 4 (off:=0) (vs:=Ab (a/b)) (cs':=Ab (a/b)) (AS O) O sizeOf42 O (JP O sizeOf42 O (asg' O ?_)))))
     exact AE.nil (AC.subF (sL [2,3,4,5,6,7] O) (AC.then_ (AF.ret (AC.then_ret (Et O (Ap (i:=4) (cs:=Ab (a/b)) O O isAgg42 sizeOf42 O) (Ap (i:=3) (cs:=Ab (a%b)) O O isAgg42 sizeOf42 O) (AY (v:=(Value.bool true)) O) (λw hw=>⟨rfl,hw.out⟩))))))
    ·replace hc3:=of_decide_eq_false hc3
     refine AF.skip (q2 (BD 4 B7 O (AE.callB (V:=λb6=>(Value.slice (some ⟨b6,0,none⟩) (nw a) ((BC a).length))) (T:=97) (cs:=Au (BC a)) (AS O) (Ao (args:=[(aG (Ab a))]) O O call111) (λw hw=>DQ a Z w) O (AT O) λb6=>AM O (AE.callBB (V:=λb7 b8=>(Value.tuple #[(Value.slice (some ⟨b7,0,none⟩) (nw a+1-nw b) (nw a+1-nw b)),(Value.slice (some ⟨b8,0,none⟩) (nw a+1) (nw a+1))])) (T:=97) (cs:=Au (Co (nw a+1-nw b) (a/b))) (T2:=97) (cs2:=Au (Co (nw a+1) (a%b))) (AS O) (Ao (args:=[(Value.slice (some ⟨b6,0,none⟩) (nw a) ((BC a).length)),(Value.slice (some ⟨b5,0,none⟩) (nw b) ((BC b).length))]) O O call169) (λw hw=>XR a b _ _ _ _ Z Z Z w (hw.get (i:=0) O) (hw.get (i:=1) O)) O (AT O) λb7 b8=>?_))))
     refine AM O (AH (Aa (v:=(Value.slice (some ⟨b7,0,none⟩) (nw a+1-nw b) (nw a+1-nw b))) O O) O (AH (Aa (v:=(Value.slice (some ⟨b8,0,none⟩) (nw a+1) (nw a+1))) O O) O (asg' O (asg' O (q3 (sL [2,3,4,5,6,7,10,11] O) ?_)))))
     refine AM O (Cj call110 (λw hw=>JM _ (nw a+1-nw b) (nw a+1-nw b) (Co (nw a+1-nw b) (a/b)) (D5 _ _) (by first|omega|(rw [Bk];omega)|simp|(simp;omega)) (by first|omega|simp|(simp;omega)) (by first|omega|simp|(simp;omega)) w (hw.get (i:=0) O)) O (AE.retell (k:=67) (u:=(aG (Ab (a/b)))) O (by rw [FY (TD Z hba)]) (AM O (Cj call110 (λw hw=>JM _ (nw a+1) (nw a+1) (Co (nw a+1) (a%b)) (D5 _ _) (by first|omega|(rw [Bk];omega)|simp|(simp;omega)) (by first|omega|simp|(simp;omega)) (by first|omega|simp|(simp;omega)) w (hw.get (i:=1) O)) O (AE.retell (k:=69) (u:=(aG (Ab (a%b)))) O (by rw [FY TM]) ?_)))))
     refine Eg 5 (off:=0) (vs:=Ab (a/b)) (cs':=Ab (a/b)) (AS O) O sizeOf42 O (Eg 4 (off:=0) (vs:=Ab (a%b)) (cs':=Ab (a%b)) (AS O) O sizeOf42 O (asg' O (AE.nil (AC.subF (sL [2,3,4,5,6,7] O) (AC.then_ ?_)))))
     exact AF.ret (Et O (Ap (i:=5) (cs:=Ab (a/b)) O O isAgg42 sizeOf42 O) (Ap (i:=4) (cs:=Ab (a%b)) O O isAgg42 sizeOf42 O) (AY (v:=(Value.bool true)) O) (λw hw=>⟨rfl,hw.out⟩))
theorem Zr (a b:Nat) (ha:nw a<=1099511627776) (hb:nw b<=1099511627776) (w:World)  :Calls prog 100 #[(aG (Ab a)),(aG (Ab b))] w (An w (aG (Ab (Nat.gcd a b)))):=by
 refine Af (args:=[(aG (Ab a)),(aG (Ab b))]) func100 O O (AT O) (AF.subF (sL [0,1] O) (q4 (BU (cs:=Ab a) O λb1=>BU (cs:=Ab b) O λb2=>al F5 O λb3=>?_)))
 refine q6 (sL [2,3,4] O) (AF.block ?_)
 refine AF.lp2 (tg λ(x:Nat) (y:Nat)=>Nat.gcd x y=Nat.gcd a b/\nw x<=1099511627776/\nw y<=1099511627776) (tg λ(x:Nat) (y:Nat)=>[(2,(pP b1 0)),(3,(pP b2 0)),(4,(pP b3 0))]) (tg λ(x:Nat) (y:Nat)=>[Ag b3 42 (Ab 0),Ag b2 42 (Ab y),Ag b1 42 (Ab x)]) (tg λ(x:Nat) (y:Nat)=>y) a b (⟨rfl,ha,hb⟩) (sF O) sr (λx y hJ=>?_)
 obtain ⟨hg,hx,hy⟩:=hJ
 refine AF.seq (q4 (BD 1 B7 O (ck' call167 (Q4 y) O (AH (BQ (c:=(!(decide (y=0)))) O O) O (AE.nil ?_)))))
 refine AC.subF (sL [2,3,4,10] O) (AC.then_ ?_)
 refine AF.cond O (λhc0=>?_) (λhc0=>?_)
 ·simp only [Bool.and_eq_true,Bool.or_eq_true,Bool.and_eq_false_iff,Bool.or_eq_false_iff,Bool.not_eq_true',Bool.not_eq_false',decide_eq_true_eq,decide_eq_false_iff_not] at hc0
  refine AF.skip (AC.then_ (AF.block (q4 (BD 2 B7 O (BD 1 B7 O ?_)))))
  refine ck' call102 (QC x y Z Z Z) O (AM O (AH (Aa (v:=(aG (Ab (x/y)))) O O) O (AH (Aa (v:=(aG (Ab (x%y)))) O O) O (AH (Aa (v:=(Value.bool true)) O O) O (al F5 O λb4=>?_)))))
  refine al F5 O λb5=>Cm O sizeOf42 O (A8 O sizeOf42 O (asg' O (AE.nil (AC.subF (sL [2,3,4,6] O) ?_))))
  refine AC.then_ (Cd [(1,true),(0,false),(2,false),(3,false)] (sk (sk (sk (sl (sl sr))))) (Da 0 B7 O (OkE.imp O (BD 3 B7 O (OkE.back (sk (sk (sk (sl (sl sr))))) ?_)))))
  refine OkE.imp O (Eg 4 (off:=0) (vs:=Ab y) (cs':=Ab y) (AS O) O sizeOf42 O (OkE.back (sk (sk (sk (sl (sl sr))))) (OkE.imp O (JP O sizeOf42 O (OkE.back (sk (sk (sk (sl (sl sr))))) ?_)))))
  exact OkE.nil (AC.subF (sL [2,3,4,6] O) (AC.in_normal (AC.round2 y (x%y) (⟨by rw [<-hg,Nat.gcd_comm x y,Nat.gcd_rec y x,Nat.gcd_comm],hy,Nat.le_trans (C1 (Nat.mod_le _ _)) hx⟩) (Nat.mod_lt _ Z) (sF O) (sl (sl sr)))))
 ·simp only [Bool.and_eq_true,Bool.or_eq_true,Bool.and_eq_false_iff,Bool.or_eq_false_iff,Bool.not_eq_true',Bool.not_eq_false',decide_eq_true_eq,decide_eq_false_iff_not] at hc0
  have hy0:y=0:=by omega
  have hxg:x=Nat.gcd a b:=by rw [<-hg,hy0,Nat.gcd_zero_right]
  refine AF.exit (AC.then_exit (AC.round2_exit (AC.in_exit (q2 (BD 2 B7 O ?_)))))
  exact A8 O sizeOf42 O (AE.nil (AC.subF (sL [2,3,4] O) (AC.then_ (AF.ret (AI O (Ap (i:=0) (cs:=Ab x) O O isAgg42 sizeOf42 O) (λw hw=>⟨by rw [hxg],hw.out⟩))))))
end
def D_ (neg:Bool) (n:Nat):Int:=if neg then -(n:Int) else (n:Int)
theorem VC (n:Nat):BG (D_ true n)=Ab n++[.bool (!(decide (n=0)))]:=by
  simp only [BG,Ab,D_,if_true,Int.natAbs_neg,Int.natAbs_natCast,List.cons_append,List.nil_append]
  have e:decide (-(n:Int)<0)=!(decide (n=0)):=by
    by_cases h:n=0
    · subst h;rfl
    · simp [h];omega
  rw [e]
theorem Un (n:Nat):BG (D_ false n)=Ab n++[.bool false]:=by
  simp only [BG,Ab,D_,Int.natAbs_natCast,List.cons_append,List.nil_append]
  have e:decide ((n:Int)<0)=false:=by simp
  simp [e]
theorem Of (D a b:Nat):GU prog (D+3) 44 (.agg (Ab a).toArray) (.agg (Ab b).toArray) (decide (a=b)):=by
  have h:=GU.struct (D:=D+2) (xs:=Ab a) (ys:=Ab b) underlying44 Tryz.stoodInHeld44 (IZ.agg (us:=Ab a) (bs:=Ab b) (by decide) isAgg42 sizeOf42 rfl rfl (HN D a b) IZ.nil)
  simpa using h
theorem A9 (neg:Bool) (n:Nat):(D_ neg n).natAbs=n:=by cases neg<;>simp [D_]
theorem Rk (a:Int):D_ (!(decide (a<0))) a.natAbs = -a:=by
  unfold D_
  by_cases h:a<0
  · simp [h];omega
  · simp [h];omega
theorem Q6 (a b:Int):D_ (!(decide (a<0) == decide (b<0))) (a.natAbs*b.natAbs)=a*b:=by
  rw [<-Int.natAbs_mul]
  unfold D_
  by_cases h:a<0<;>by_cases h':b<0
  · have:=Int.mul_pos_of_neg_of_neg h h';simp [h,h'];omega
  · have:a*b<=0:=Int.mul_nonpos_of_nonpos_of_nonneg Z Z
    simp [h,h'];omega
  · have:a*b<=0:=Int.mul_nonpos_of_nonneg_of_nonpos Z Z
    simp [h,h'];omega
  · have:0<=a*b:=Int.mul_nonneg Z Z
    simp [h,h'];omega
theorem H4 {a b:Int} (h:(decide (a<0) == decide (b<0))=true):D_ (decide (a<0)) (a.natAbs+b.natAbs)=a+b:=by
  unfold D_
  by_cases h1:a<0<;>by_cases h2:b<0<;>simp [h1,h2] at h ⊢<;>omega
theorem LT {a b:Int} (h:(decide (a<0) == decide (b<0))=false) (h3:b.natAbs<=a.natAbs):D_ (decide (a<0)) (a.natAbs-b.natAbs)=a+b:=by
  unfold D_
  by_cases h1:a<0<;>by_cases h2:b<0<;>simp [h1,h2] at h ⊢<;>omega
theorem Lg {a b:Int} (h:(decide (a<0) == decide (b<0))=false) (h3:¬b.natAbs<=a.natAbs):D_ (decide (b<0)) (b.natAbs-a.natAbs)=a+b:=by
  unfold D_
  by_cases h1:a<0<;>by_cases h2:b<0<;>simp [h1,h2] at h ⊢<;>omega
theorem cj {z:Int} (h:z<0) (h2:-9223372036854775808<=z):IntKind.u64.wrap (-(IntKind.u64.wrap z))=((z.natAbs:Nat):Int):=by
  simp only [IntKind.wrap,IntKind.bits,IntKind.signed];simp;omega
theorem G2 {z:Int} (h:z<0):D_ true z.natAbs=z:=by unfold D_;simp;omega
theorem Mm {z:Int} (h:¬z<0):D_ false z.natAbs=z:=by unfold D_;simp;omega
section
set_option maxRecDepth 100000
theorem L5  :Instr.fill ([(0,2)].toArray[·]?) (Ab 0).toArray []=some (Ab 0).toArray:=by kernel_rfl
theorem IX (n:Nat) (w:World)  :Calls prog 171 #[(aG (Ab n))] w (An w (Value.bool (decide (n=0)))):=by
 refine Af (args:=[(aG (Ab n))]) func171 O O (AT O) (AF.subF (sL [0] O) (q4 (BU (cs:=Ab n) O λb1=>asg' O (q3 (sL [1,2] O) ?_))))
 refine BD 0 Sv O (AH (v:=(aG (Ab 0))) (AV (zs:=Ab 0) (vs:=Ab 0) (pv:=[]) (places:=[(0,2)]) zeroValue44 underlying44 (λw=>by simp [sizeOf42]) O (L5 )) O (AH (CJ (c:=(decide (n=0))) O O eqGuardType44 (Of 9997 n 0)) O (asg' O (AE.nil (AC.subF (sL [2] O) ?_)))))
 exact AC.then_ (AF.ret (AI O (AY (v:=(Value.bool (decide (n=0)))) O) (λw hw=>⟨rfl,hw.out⟩)))
theorem E6 (x0:Nat):Instr.fill ([(0,2)].toArray[·]?) (Ab 0).toArray [(0,.agg (Ab x0).toArray)]=some (Ab x0).toArray:=by kernel_rfl
theorem Si (n:Nat) (w:World)  :Calls prog 105 #[(Value.bool true),(aG (Ab n))] w (An w (aG (BG (D_ true n)))):=by
 refine Af (args:=[(Value.bool true),(aG (Ab n))]) func105 O O (AT O) (AF.subF (sL [0,1] O) (q4 (BU (cs:=Ab n) O λb1=>al Jg O λb2=>q3 (sL [0,3,4] O) ?_)))
 refine BD 1 B7 O (AH (v:=(aG (Ab n))) (AV (zs:=Ab 0) (vs:=Ab n) (pv:=[(0,(aG (Ab n)))]) (places:=[(0,2)]) zeroValue44 underlying44 (λw=>by simp [sizeOf42]) O (E6 n)) O (al bM O λb3=>A8 O sizeOf44 O (q6 (sL [0,4,5] O) (Cd [(0,true),(1,true),(2,true),(3,true),(4,false),(5,true),(6,true),(7,true),(8,false)] (sk (sl sr)) ?_))))
 refine Da 0 Sv O (Bb O (Bb O (OkE.pas (v:=(aG (Ab n))) O (AB O) (Aj (i:=0) (vs:=Ab n) O O Sv.a Sv.s O O) O O (OkE.imp O (AE.call (v:=(Value.bool (decide (n=0)))) (AB O) (Ao (args:=[(aG (Ab n))]) O O call171) (λw hw=>IX n w) O (AT O) ?_)))))
 refine OkE.back (sk (sl sr)) (OkE.pas (v:=(Value.bool (!(decide (n=0))))) O (AB O) (BQ (c:=(!(decide (n=0)))) O O) O O (Aq (v:=(Value.bool (!(decide (n=0))))) O (Ac O O) (Aq (v:=(aG (Ab n++[(Value.bool (!(decide (n=0))))]))) O (AV (zs:=BG 0) (vs:=Ab n++[(Value.bool (!(decide (n=0))))]) (pv:=[(0,(aG (Ab n))),(1,(Value.bool (!(decide (n=0)))))]) (places:=[(0,2),(2,1)]) zeroValue46 underlying46 (λw=>by simp [sizeOf4,sizeOf44]) O O) (OkE.imp O (Cm O sizeOf46 O ?_)))))
 exact OkE.back (sk (sl sr)) (OkE.nil (AC.subF (sL [4,5] O) (AC.then_ (AF.ret (AI O (Ap (i:=1) (cs:=Ab n++[(Value.bool (!(decide (n=0))))]) O O isAgg46 sizeOf46 O) (λw hw=>⟨by rw [VC],hw.out⟩))))))
theorem QE (n:Nat) (w:World)  :Calls prog 105 #[(Value.bool false),(aG (Ab n))] w (An w (aG (BG (D_ false n)))):=by
 refine Af (args:=[(Value.bool false),(aG (Ab n))]) func105 O O (AT O) (AF.subF (sL [0,1] O) (q4 (BU (cs:=Ab n) O λb1=>al Jg O λb2=>q3 (sL [0,3,4] O) ?_)))
 refine BD 1 B7 O (AH (v:=(aG (Ab n))) (AV (zs:=Ab 0) (vs:=Ab n) (pv:=[(0,(aG (Ab n)))]) (places:=[(0,2)]) zeroValue44 underlying44 (λw=>by simp [sizeOf42]) O (E6 n)) O (al bM O λb3=>A8 O sizeOf44 O (q6 (sL [0,4,5] O) (Cd [(0,true),(1,true),(2,true),(3,true),(4,false),(5,true),(6,true),(7,true),(8,false)] (sk (sl sr)) ?_))))
 refine Da 0 Sv O (Bb O (Bb O (OkE.skp O (AJ O) O O (OkE.imp O (AE.skip (AJ O) O (AT O) ?_)))))
 refine OkE.back (sk (sl sr)) (OkE.skp O (AJ O) O O (Aq (v:=(Value.bool false)) O (AP O O) (Aq (v:=(aG (Ab n++[(Value.bool false)]))) O (AV (zs:=BG 0) (vs:=Ab n++[(Value.bool false)]) (pv:=[(0,(aG (Ab n))),(1,(Value.bool false))]) (places:=[(0,2),(2,1)]) zeroValue46 underlying46 (λw=>by simp [sizeOf4,sizeOf44]) O O) (OkE.imp O (Cm O sizeOf46 O ?_)))))
 exact OkE.back (sk (sl sr)) (OkE.nil (AC.subF (sL [4,5] O) (AC.then_ (AF.ret (AI O (Ap (i:=1) (cs:=Ab n++[(Value.bool false)]) O O isAgg46 sizeOf46 O) (λw hw=>⟨by rw [Un],hw.out⟩))))))
theorem ER (neg:Bool) (n:Nat) (w:World):Calls prog 105 #[.bool neg,.agg (Ab n).toArray] w (An w (.agg (BG (D_ neg n)).toArray)):=by
 cases neg
 ·exact QE n w
 ·exact Si n w
theorem Zi (z:Int) (hz:-9223372036854775808<=z) (hz2:z<9223372036854775808) (w:World)  :Calls prog 61 #[(vI z)] w (An w (aG (BG z))):=by
 refine Af (args:=[(vI z)]) func61 O O (AT O) (AF.subF (sL [0] O) (q4 (al Jg O λb1=>AE.nil (q1 ?_))))
 refine q4 (AM O (AH (Ae (c:=(decide (z<(0:Int)))) O O O) O (AE.nil (AC.subF (sL [0,2,4] O) (AC.then_ ?_)))))
 refine AF.cond O (λhc0=>?_) (λhc0=>?_)
 ·replace hc0:=of_decide_eq_true hc0
  have he:=G2 hc0
  refine q4 (AM O (AH (Ay (c:=(IntKind.u64.wrap z)) O underlying2 underlying40 (rfl)) O (AH (I1 (c:=((z.natAbs:Nat):Int)) O (by rw [Int.zero_sub];exact cj hc0 hz)) O (ck' call104 (J9 z.natAbs Z) O (ck' call105 (ER true z.natAbs) O ?_)))))
  exact A8 O sizeOf46 O (AE.nil (AC.subF (sL [0,2] O) (AC.then_ (AF.ret (AC.then_ret (AI O (Ap (i:=0) (cs:=BG (D_ true z.natAbs)) O O isAgg46 sizeOf46 O) (λw hw=>⟨by rw [he],hw.out⟩)))))))
 ·replace hc0:=of_decide_eq_false hc0
  have he:=Mm hc0
  refine AF.skip (q2 (AM O (AH (Ay (c:=((z.natAbs:Nat):Int)) O underlying2 underlying40 (by rw [DV Z Z];omega)) O (ck' call104 (J9 z.natAbs Z) O (ck' call105 (ER false z.natAbs) O ?_)))))
  exact A8 O sizeOf46 O (AE.nil (AC.subF (sL [0,2] O) (AC.then_ (AF.ret (AI O (Ap (i:=0) (cs:=BG (D_ false z.natAbs)) O O isAgg46 sizeOf46 O) (λw hw=>⟨by rw [he],hw.out⟩))))))
theorem N2 (a:Int) (w:World)  :Calls prog 101 #[(aG (BG a))] w (An w (aG (Ab a.natAbs))):=by
 refine Af (args:=[(aG (BG a))]) func101 O O (AT O) (AF.subF (sL [0] O) (q4 (BU (cs:=BG a) O λb1=>al F5 O λb2=>q3 (sL [1,2] O) ?_)))
 refine AH (v:=(pP b1 0)) (AA O underlying46 O sizeOf44 O) O (AH (v:=(pP b1 0)) (AA O underlying44 O sizeOf42 O) O (Cy 1 (Ab a.natAbs) B7 O (A8 O sizeOf42 O (AE.nil (AC.subF (sL [2] O) ?_)))))
 exact AC.then_ (AF.ret (AI O (Ap (i:=0) (cs:=Ab a.natAbs) O O isAgg42 sizeOf42 O) (λw hw=>⟨rfl,hw.out⟩)))
theorem Kq (a:Int) (w:World)  :Calls prog 106 #[(aG (BG a))] w (An w (vI a.sign)):=by
 refine Af (args:=[(aG (BG a))]) func106 O O (AT O) (AF.subF (sL [0] O) (q4 (BU (cs:=BG a) O λb1=>asg' O (q6 (sL [1,2] O) ?_))))
 refine AF.block (q4 (AH (v:=(pP b1 0)) (AA O underlying46 O sizeOf44 O) O (Cy 0 (Ab a.natAbs) Sv O (ck' call171 (IX a.natAbs) O (asg' O ?_)))))
 refine AE.nil (AC.subF (sL [1,2,3] O) (AC.then_ ?_))
 refine AF.cond O (λhc0=>?_) (λhc0=>?_)
 ·replace hc0:=of_decide_eq_true hc0
  have he:a.sign=0:=by rw [show a=0 by omega];rfl
  refine q4 (asg' O (AE.nil (AC.then_ (AF.ret (AC.in_ret ?_)))))
  exact AC.then_ret (AI O (AY (v:=(vI 0)) O) (λw hw=>⟨by rw [he],hw.out⟩))
 ·replace hc0:=of_decide_eq_false hc0
  refine q4 (AH (v:=(pP b1 2)) (AA O underlying46 O sizeOf4 O) O (BA 0 (Value.bool (decide (a<0))) Jt O (asg' O (AE.nil (AC.subF (sL [1,2,7] O) ?_)))))
  refine AC.then_ ?_
  refine AF.cond O (λhc1=>?_) (λhc1=>?_)
  ·replace hc1:=of_decide_eq_true hc1
   have he:a.sign = -1:=Int.sign_eq_neg_one_of_neg hc1
   refine q4 (asg' O (AE.nil (AC.then_ (AF.ret (AC.in_ret ?_)))))
   exact AC.then_ret (AI O (AY (v:=(vI (-1:Int))) O) (λw hw=>⟨by rw [he],hw.out⟩))
  ·replace hc1:=of_decide_eq_false hc1
   have he:a.sign=1:=Int.sign_eq_one_of_pos Z
   refine AF.skip (AC.in_normal (q2 (asg' O (AE.nil (AC.then_ ?_)))))
   exact AF.ret (AI O (AY (v:=(vI 1)) O) (λw hw=>⟨by rw [he],hw.out⟩))
theorem R2 (a:Int) (w:World)  :Calls prog 287 #[(aG (BG a))] w (An w (aG (BG (-a)))):=by
 refine Af (args:=[(aG (BG a))]) func287 O O (AT O) (AF.subF (sL [0] O) (q4 (BU (cs:=BG a) O λb1=>al Jg O λb2=>q3 (sL [1,2] O) ?_)))
 refine AH (v:=(pP b1 2)) (AA O underlying46 O sizeOf4 O) O (BA 1 (Value.bool (decide (a<0))) Jt O (AH (BQ (c:=(!(decide (a<0)))) O O) O (AH (v:=(pP b1 0)) (AA O underlying46 O sizeOf44 O) O (AH (v:=(pP b1 0)) (AA O underlying44 O sizeOf42 O) O (Cy 1 (Ab a.natAbs) B7 O ?_)))))
 exact ck' call105 (ER (!(decide (a<0))) a.natAbs) O (A8 O sizeOf46 O (AE.nil (AC.subF (sL [2] O) (AC.then_ (AF.ret (AI O (Ap (i:=0) (cs:=BG (D_ (!(decide (a<0))) a.natAbs)) O O isAgg46 sizeOf46 O) (λw hw=>⟨by rw [Rk],hw.out⟩)))))))
theorem XE (a b:Int) (ha:nw a.natAbs<=1099511627776) (hb:nw b.natAbs<=1099511627776) (w:World)  :Calls prog 99 #[(aG (BG a)),(aG (BG b))] w (An w (aG (BG (a+b)))):=by
 refine Af (args:=[(aG (BG a)),(aG (BG b))]) func99 O O (AT O) (AF.subF (sL [0,1] O) (q4 (BU (cs:=BG a) O λb1=>BU (cs:=BG b) O λb2=>al Jg O λb3=>?_)))
 refine q6 (sL [2,3,4] O) (q4 (AH (v:=(pP b1 2)) (AA O underlying46 O sizeOf4 O) O (BA 2 (Value.bool (decide (a<0))) Jt O (AH (v:=(pP b2 2)) (AA O underlying46 O sizeOf4 O) O (BA 1 (Value.bool (decide (b<0))) Jt O ?_)))))
 refine AH (G8 (c:=(decide (a<0) == decide (b<0))) O O underlying4 O) O (AE.nil (AC.subF (sL [2,3,4,13] O) (AC.then_ ?_)))
 refine AF.cond O (λhc0=>?_) (λhc0=>?_)
 ·skip
  have he:=H4 hc0
  refine AF.seq (Cd [(0,true),(1,true),(2,true),(3,true),(4,true),(5,true),(6,true),(7,true),(8,false),(9,false),(10,false)] (sl sr) (Aq (v:=(pP b1 2)) O (AA O underlying46 O sizeOf4 O) (Bd 1 (Value.bool (decide (a<0))) Jt O (Aq (v:=(pP b1 0)) O (AA O underlying46 O sizeOf44 O) (Aq (v:=(pP b1 0)) O (AA O underlying44 O sizeOf42 O) ?_)))))
  refine Ff 1 (Ab a.natAbs) B7 O (Aq (v:=(pP b2 0)) O (AA O underlying46 O sizeOf44 O) (Aq (v:=(pP b2 0)) O (AA O underlying44 O sizeOf42 O) (Ff 0 (Ab b.natAbs) B7 O (OkE.imp O (ck' call107 (UP a.natAbs b.natAbs Z Z) O ?_)))))
  refine OkE.back (sl sr) (OkE.imp O (ck' call105 (ER (decide (a<0)) (a.natAbs+b.natAbs)) O (OkE.back (sl sr) (OkE.imp O (A8 O sizeOf46 O ?_)))))
  exact OkE.back (sl sr) (OkE.nil (AC.subF (sL [2,3,4] O) (AC.then_ (AF.ret (AC.then_ret (AI O (Ap (i:=0) (cs:=BG (D_ (decide (a<0)) (a.natAbs+b.natAbs))) O O isAgg46 sizeOf46 O) (λw hw=>⟨by rw [he],hw.out⟩)))))))
 ·skip
  refine AF.skip (q1 (q4 (AH (v:=(pP b1 0)) (AA O underlying46 O sizeOf44 O) O (AH (v:=(pP b1 0)) (AA O underlying44 O sizeOf42 O) O (Cy 2 (Ab a.natAbs) B7 O ?_)))))
  refine AH (v:=(pP b2 0)) (AA O underlying46 O sizeOf44 O) O (AH (v:=(pP b2 0)) (AA O underlying44 O sizeOf42 O) O (Cy 1 (Ab b.natAbs) B7 O (ck' call103 (Qj a.natAbs b.natAbs Z Z) O (AM O (AH (Aa (v:=(aG (Ab (a.natAbs-b.natAbs)))) O O) O ?_)))))
  refine AH (Aa (v:=(Value.bool (decide (b.natAbs<=a.natAbs)))) O O) O (al F5 O λb4=>A8 O sizeOf42 O (asg' O (q3 (sL [2,3,4,5,6] O) (AM O ?_))))
  refine AE.nil (AC.subF (sL [2,3,4,5,34] O) (AC.then_ ?_))
  refine AF.cond O (λhc1=>?_) (λhc1=>?_)
  ·replace hc1:=of_decide_eq_true hc1
   have he:=LT hc0 hc1
   refine q4 (AH (v:=(pP b1 2)) (AA O underlying46 O sizeOf4 O) O (BA 3 (Value.bool (decide (a<0))) Jt O (BD 0 B7 O (ck' call105 (ER (decide (a<0)) (a.natAbs-b.natAbs)) O (Cm O sizeOf46 O ?_)))))
   exact AE.nil (AC.subF (sL [2,3,4,5] O) (AC.then_ (AF.ret (AC.then_ret (AI O (Ap (i:=1) (cs:=BG (D_ (decide (a<0)) (a.natAbs-b.natAbs))) O O isAgg46 sizeOf46 O) (λw hw=>⟨by rw [he],hw.out⟩))))))
  ·replace hc1:=of_decide_eq_false hc1
   have he:=Lg hc0 hc1
   refine AF.skip (q2 (AH (v:=(pP b2 0)) (AA O underlying46 O sizeOf44 O) O (AH (v:=(pP b2 0)) (AA O underlying44 O sizeOf42 O) O (Cy 2 (Ab b.natAbs) B7 O (AH (v:=(pP b1 0)) (AA O underlying46 O sizeOf44 O) O ?_)))))
   refine AH (v:=(pP b1 0)) (AA O underlying44 O sizeOf42 O) O (Cy 3 (Ab a.natAbs) B7 O (ck' call103 (Qj b.natAbs a.natAbs Z Z) O (AM O (AH (Aa (v:=(aG (Ab (b.natAbs-a.natAbs)))) O O) O (AH (Aa (v:=(Value.bool (decide (a.natAbs<=b.natAbs)))) O O) O ?_)))))
   refine al F5 O λb5=>A8 O sizeOf42 O (asg' O (q3 (sL [2,3,4,5,7] O) (AH (v:=(pP b2 2)) (AA O underlying46 O sizeOf4 O) O (BA 3 (Value.bool (decide (b<0))) Jt O ?_))))
   refine BD 0 B7 O (ck' call105 (ER (decide (b<0)) (b.natAbs-a.natAbs)) O (FN O sizeOf46 O (AE.nil (AC.subF (sL [2,3,4,5,7] O) (AC.then_ ?_)))))
   exact AF.ret (AI O (Ap (i:=2) (cs:=BG (D_ (decide (b<0)) (b.natAbs-a.natAbs))) O O isAgg46 sizeOf46 O) (λw hw=>⟨by rw [he],hw.out⟩))
theorem Ub (a b:Int) (ha:nw a.natAbs<=1099511627776) (hb:nw b.natAbs<=1099511627776) (w:World)  :Calls prog 108 #[(aG (BG a)),(aG (BG b))] w (An w (aG (BG (a*b)))):=by
 refine Af (args:=[(aG (BG a)),(aG (BG b))]) func108 O O (AT O) (AF.subF (sL [0,1] O) (q4 (BU (cs:=BG a) O λb1=>BU (cs:=BG b) O λb2=>al Jg O λb3=>?_)))
 refine q6 (sL [2,3,4] O) (Cd [(0,true),(1,true),(2,true),(3,true),(4,true),(5,true),(6,true),(7,true),(8,true),(9,true),(10,true),(11,false),(12,false),(13,false)] (sl sr) (Aq (v:=(pP b1 2)) O (AA O underlying46 O sizeOf4 O) (Bd 1 (Value.bool (decide (a<0))) Jt O (Aq (v:=(pP b2 2)) O (AA O underlying46 O sizeOf4 O) (Bd 0 (Value.bool (decide (b<0))) Jt O ?_)))))
 refine Aq O (JR (c:=(!(decide (a<0) == decide (b<0)))) O O underlying4 O) (Aq (v:=(pP b1 0)) O (AA O underlying46 O sizeOf44 O) (Aq (v:=(pP b1 0)) O (AA O underlying44 O sizeOf42 O) (Ff 1 (Ab a.natAbs) B7 O (Aq (v:=(pP b2 0)) O (AA O underlying46 O sizeOf44 O) (Aq (v:=(pP b2 0)) O (AA O underlying44 O sizeOf42 O) ?_)))))
 refine Ff 0 (Ab b.natAbs) B7 O (OkE.imp O (ck' call60 (Pv a.natAbs b.natAbs Z Z) O (OkE.back (sl sr) (OkE.imp O (ck' call105 (ER (!(decide (a<0) == decide (b<0))) (a.natAbs*b.natAbs)) O ?_)))))
 refine OkE.back (sl sr) (OkE.imp O (A8 O sizeOf46 O (OkE.back (sl sr) (OkE.nil (AC.subF (sL [4] O) ?_)))))
 exact AC.then_ (AF.ret (AI O (Ap (i:=0) (cs:=BG (D_ (!(decide (a<0) == decide (b<0))) (a.natAbs*b.natAbs))) O O isAgg46 sizeOf46 O) (λw hw=>⟨by rw [Q6],hw.out⟩)))
theorem H3 (a b:Int) (ha:nw a.natAbs<=1099511627776) (hb:nw b.natAbs<=1099511627776) (w:World)  :Calls prog 98 #[(Value.func (.func 99) #[] #[]),(aG (BG a)),(aG (BG b))] w (An w (aG (BG (a+b)))):=by
 refine Af (args:=[(Value.func (.func 99) #[] #[]),(aG (BG a)),(aG (BG b))]) func98 O O (AT O) (AF.subF (sL [0,1,2] O) (q4 (BU (cs:=BG a) O λb1=>BU (cs:=BG b) O λb2=>al Jg O λb3=>?_)))
 refine q3 (sL [0,4,5,6] O) (AM O (BD 2 DF O (BD 1 DF O (ck' call99 (XE a b (by first|omega|(simp only [Int.natAbs_neg,A9,Int.natAbs_natCast];omega)) (by first|omega|(simp only [Int.natAbs_neg,A9,Int.natAbs_natCast];omega))) O (A8 O sizeOf46 O ?_)))))
 exact AE.nil (AC.subF (sL [6] O) (AC.then_ (AF.ret (AI O (Ap (i:=0) (cs:=BG (a+b)) O O isAgg46 sizeOf46 O) (λw hw=>⟨rfl,hw.out⟩)))))
theorem Lv (a b:Int) (ha:nw a.natAbs<=1099511627776) (hb:nw b.natAbs<=1099511627776) (w:World)  :Calls prog 98 #[(Value.func (.func 108) #[] #[]),(aG (BG a)),(aG (BG b))] w (An w (aG (BG (a*b)))):=by
 refine Af (args:=[(Value.func (.func 108) #[] #[]),(aG (BG a)),(aG (BG b))]) func98 O O (AT O) (AF.subF (sL [0,1,2] O) (q4 (BU (cs:=BG a) O λb1=>BU (cs:=BG b) O λb2=>al Jg O λb3=>?_)))
 refine q3 (sL [0,4,5,6] O) (AM O (BD 2 DF O (BD 1 DF O (ck' call108 (Ub a b (by first|omega|(simp only [Int.natAbs_neg,A9,Int.natAbs_natCast];omega)) (by first|omega|(simp only [Int.natAbs_neg,A9,Int.natAbs_natCast];omega))) O (A8 O sizeOf46 O ?_)))))
 exact AE.nil (AC.subF (sL [6] O) (AC.then_ (AF.ret (AI O (Ap (i:=0) (cs:=BG (a*b)) O O isAgg46 sizeOf46 O) (λw hw=>⟨rfl,hw.out⟩)))))
theorem NK (a b:Int) (ha:nw a.natAbs<=1099511627776) (hb:nw b.natAbs<=1099511627776) (w:World)  :Calls prog 55 #[(aG (BG a)),(aG (BG b))] w (An w (aG (BG (a+b)))):=by
 refine Af (args:=[(aG (BG a)),(aG (BG b))]) func55 O O (AT O) (AF.subF (sL [0,1] O) (q4 (BU (cs:=BG a) O λb1=>BU (cs:=BG b) O λb2=>al Jg O λb3=>?_)))
 refine q3 (sL [2,3,4] O) (BD 2 DF O (BD 1 DF O (ck' call98 (H3 a b (by first|omega|(simp only [Int.natAbs_neg,A9,Int.natAbs_natCast];omega)) (by first|omega|(simp only [Int.natAbs_neg,A9,Int.natAbs_natCast];omega))) O (A8 O sizeOf46 O (AE.nil ?_)))))
 exact AC.subF (sL [4] O) (AC.then_ (AF.ret (AI O (Ap (i:=0) (cs:=BG (a+b)) O O isAgg46 sizeOf46 O) (λw hw=>⟨rfl,hw.out⟩))))
theorem XZ (a b:Int) (ha:nw a.natAbs<=1099511627776) (hb:nw b.natAbs<=1099511627776) (w:World)  :Calls prog 275 #[(aG (BG a)),(aG (BG b))] w (An w (aG (BG (a-b)))):=by
 refine Af (args:=[(aG (BG a)),(aG (BG b))]) func275 O O (AT O) (AF.subF (sL [0,1] O) (q4 (BU (cs:=BG a) O λb1=>BU (cs:=BG b) O λb2=>al Jg O λb3=>?_)))
 refine q6 (sL [2,3,4] O) (Cd [(0,true),(1,true),(2,false),(3,false),(4,false)] (sl sr) (Da 1 DF O (Da 0 DF O (OkE.imp O (ck' call287 (R2 b) O ?_)))))
 refine OkE.back (sl sr) (OkE.imp O (ck' call98 (H3 a (-b) (by first|omega|(simp only [Int.natAbs_neg,A9,Int.natAbs_natCast];omega)) (by first|omega|(simp only [Int.natAbs_neg,A9,Int.natAbs_natCast];omega))) O (OkE.back (sl sr) (OkE.imp O (A8 O sizeOf46 O ?_)))))
 exact OkE.back (sl sr) (OkE.nil (AC.subF (sL [4] O) (AC.then_ (AF.ret (AI O (Ap (i:=0) (cs:=BG (a+(-b))) O O isAgg46 sizeOf46 O) (λw hw=>⟨by rw [Int.sub_eq_add_neg],hw.out⟩))))))
theorem HL (a b:Int) (ha:nw a.natAbs<=1099511627776) (hb:nw b.natAbs<=1099511627776) (w:World)  :Calls prog 58 #[(aG (BG a)),(aG (BG b))] w (An w (aG (BG (a*b)))):=by
 refine Af (args:=[(aG (BG a)),(aG (BG b))]) func58 O O (AT O) (AF.subF (sL [0,1] O) (q4 (BU (cs:=BG a) O λb1=>BU (cs:=BG b) O λb2=>al Jg O λb3=>?_)))
 refine q3 (sL [2,3,4] O) (BD 2 DF O (BD 1 DF O (ck' call98 (Lv a b (by first|omega|(simp only [Int.natAbs_neg,A9,Int.natAbs_natCast];omega)) (by first|omega|(simp only [Int.natAbs_neg,A9,Int.natAbs_natCast];omega))) O (A8 O sizeOf46 O (AE.nil ?_)))))
 exact AC.subF (sL [4] O) (AC.then_ (AF.ret (AI O (Ap (i:=0) (cs:=BG (a*b)) O O isAgg46 sizeOf46 O) (λw hw=>⟨rfl,hw.out⟩))))
theorem Qx (a b:Int) (ha:nw a.natAbs<=1099511627776) (hb:nw b.natAbs<=1099511627776) (w:World)  :Calls prog 242 #[(aG (BG a)),(aG (BG b))] w (An w (vI ((a-b).sign))):=by
 refine Af (args:=[(aG (BG a)),(aG (BG b))]) func242 O O (AT O) (AF.subF (sL [0,1] O) (q4 (BU (cs:=BG a) O λb1=>BU (cs:=BG b) O λb2=>asg' O ?_)))
 refine q3 (sL [2,3,4] O) (BD 1 DF O (BD 0 DF O (ck' call275 (XZ a b (by first|omega|(simp only [Int.natAbs_neg,A9,Int.natAbs_natCast];omega)) (by first|omega|(simp only [Int.natAbs_neg,A9,Int.natAbs_natCast];omega))) O (ck' call106 (Kq (a-b)) O (asg' O ?_)))))
 exact AE.nil (AC.subF (sL [4] O) (AC.then_ (AF.ret (AI O (AY (v:=(vI ((a-b).sign))) O) (λw hw=>⟨rfl,hw.out⟩)))))
end
end Go.Proofs.YtpgncndhhhllfaaGreatDoor
