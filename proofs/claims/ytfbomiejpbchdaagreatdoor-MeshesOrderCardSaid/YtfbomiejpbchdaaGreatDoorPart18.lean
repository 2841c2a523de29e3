import Derived.Test.YtfbomiejpbchdaaGreatDoorPart06
import Derived.Test.YtfbomiejpbchdaaGreatDoorPart16
import Derived.Test.YtfbomiejpbchdaaGreatDoorPart17
namespace Go.Proofs.YtfbomiejpbchdaaGreatDoor
open Go Go.RowKit Go.Proofs.Tryz
set_option linter.unusedVariables false
set_option linter.unusedSimpArgs false
section
set_option maxRecDepth 100000
theorem E1 {N v:Nat} (h:v<4294967296^N):val ((CV N v).take N)=v:=by
 rw [List.take_of_length_le (by rw [Bd];exact Nat.le_refl _),Ec _ _ h]
theorem Pj {a b:Nat} (hb:0<nw b) (h:nw b<=nw a):a/b<4294967296^(nw a+1-nw b):=by
 have h1:=Hc hb
 have h2:=Bw a
 rw [Nat.div_lt_iff_lt_mul (by have:=Nat.pow_pos (n:=nw b-1) (show 0<4294967296 by omega);omega)]
 have h3:4294967296^(nw a+1-nw b)*4294967296^(nw b-1)<=4294967296^(nw a+1-nw b)*b:=Nat.mul_le_mul_left _ h1
 rw [<-Nat.pow_add,show nw a+1-nw b+(nw b-1)=nw a by omega] at h3
 omega
theorem QN {a b:Nat}:a%b<4294967296^(nw a+1):=Nat.lt_of_le_of_lt (Nat.mod_le _ _) (Nat.lt_of_lt_of_le (Bw a) (Nat.pow_le_pow_right Z Z))
theorem OH {b:Nat} (h:nw b=0):b=0:=by
 have:=Bw b
 rw [h] at this
 omega
theorem UV {b:Nat} (h:nw b=1):(Au b).getD 0 0=b/\b<4294967296:=by
 have h1:=Bw b
 rw [h] at h1
 refine ⟨?_,Z⟩
 rw [DI Z,G4,Nat.pow_zero,Nat.div_one,Nat.mod_eq_of_lt Z]
theorem KZ  :Instr.fill ([(0,1),(1,1)].toArray[·]?) (AU 0).toArray []=some (AU 0).toArray:=by kernel_rfl
theorem OL (a b:Nat) (ha:nw a<=1099511627776) (hb:nw b<=1099511627776) (hb0:b≠0) (w:World)  :Calls prog 100 #[(aG (AU a)),(aG (AU b))] w (Ak w (Value.tuple #[(aG (AU (a/b))),(aG (AU (a%b))),(Value.bool true)])):=by
 have hnb:nw b≠0:=λh=>hb0 (OH h)
 have hla:=CH a
 have hlb:=CH b
 refine Ab (args:=[(aG (AU a)),(aG (AU b))]) func100 O O (Ad O) (AF.subF (sL [0,1] O) (q4 (Bk (cs:=AU a) O λb1=>Bk (cs:=AU b) O λb2=>al FR O λb3=>?_)))
 refine al FR O λb4=>AJ O (q6 (sL [2,3,4,5,6] O) (AF.block (q4 (BE 2 Bz O ?_))))
 refine BS call138 (Oq b) O (AJ O (AE.nil (AD.subF (sL [2,3,4,5,6,12] O) (AD.then_ ?_))))
 refine AF.cond O (λhc0=>?_) (λhc0=>?_)
 ·replace hc0:=of_decide_eq_true hc0
  exact absurd hc0 hb0
 ·replace hc0:=of_decide_eq_false hc0
  refine q4 (BE 3 Bz O (BE 2 Bz O (BS call139 (Sn a b Z Z) O (AH (Af (c:=(decide ((E9 a b)<(0:Int)))) O O O) O (AJ O ?_)))))
  refine AE.nil (AD.subF (sL [2,3,4,5,6,17] O) (AD.then_ ?_))
  refine AF.cond O (λhc1=>?_) (λhc1=>?_)
  ·replace hc1:=of_decide_eq_true hc1
   rw [I3] at hc1
   have e1:a/b=0:=Nat.div_eq_of_lt hc1
   have e2:a%b=a:=Nat.mod_eq_of_lt hc1
   refine AF.seq (DA [(0,true),(1,true),(2,false),(3,false),(4,true)] (sl (sl sr)) (Aw (v:=(aG (AU 0))) O (AT (zs:=AU 0) (vs:=AU 0) (pv:=[]) (places:=[(0,1),(1,1)]) zeroValue55 underlying55 (λw=>by simp [sizeOf9,sizeOf53]) O (KZ )) (E7 1 Bz O (AS.imp O (C9 O sizeOf55 O ?_)))))
   refine AS.back (sl (sl sr)) (AS.imp O (Aq O sizeOf55 O (AS.back (sl (sl sr)) (Ez O (AS.nil ?_)))))
   exact AD.subF (sL [2,3,4,5,6] O) (AD.then_ (AF.ret (AD.in_ret (AD.then_ret (FK O (A7 (i:=1) (cs:=AU 0) O O isAgg55 sizeOf55 O) (A7 (i:=0) (cs:=AU a) O O isAgg55 sizeOf55 O) (Ac (v:=(Value.bool true)) O) (λw hw=>⟨by rw [e1,e2],hw.out⟩))))))
  ·replace hc1:=of_decide_eq_false hc1
   rw [I3] at hc1
   have hba:nw b<=nw a:=DL Z
   refine q4 (AH (v:=(pP b1 1)) (AA O underlying55 O sizeOf9 O) O (BN 3 (Value.string (Bf a)) Qu O (AH (Bh (c:=(decide (a<18446744073709551616))) O O CT) O (AJ O (AE.nil ?_)))))
   refine AD.subF (sL [2,3,4,5,6,24] O) (AD.then_ ?_)
   refine AF.cond O (λhc2=>?_) (λhc2=>?_)
   ·replace hc2:=of_decide_eq_true hc2
    have la:Bx a=a:=Be hc2
    have lb:Bx b=b:=Be Z
    have q1:a/b<18446744073709551616:=Nat.lt_of_le_of_lt (Nat.div_le_self _ _) hc2
    have q2:a%b<18446744073709551616:=Nat.lt_of_le_of_lt (Nat.mod_le _ _) hc2
    refine AF.seq (DA [(0,true),(1,true),(2,true),(3,true),(4,true),(5,true),(6,true),(7,true),(8,true),(9,true),(10,true),(11,true),(12,false),(13,false),(14,true)] (sl (sl sr)) (Aw (v:=(pP b1 0)) O (AA O underlying55 O sizeOf53 O) (Bi 1 (vK .u64 (Bx a)) Fw O (Aw (v:=(pP b2 0)) O (AA O underlying55 O sizeOf53 O) (Bi 0 (vK .u64 (Bx b)) Fw O ?_)))))
    refine Aw O (Fv (c:=(((Bx a)/(Bx b):Nat):Int)) O O Z (JR (a:=Bx a) (b:=Bx b) Z)) (Aw (v:=(aG ([(vK .u64 ((Bx a)/(Bx b))),(Value.string (Bf 0))]))) O (AT (zs:=AU 0) (vs:=[(vK .u64 ((Bx a)/(Bx b))),(Value.string (Bf 0))]) (pv:=[(0,(vK .u64 ((Bx a)/(Bx b))))]) (places:=[(0,1),(1,1)]) zeroValue55 underlying55 (λw=>by simp [sizeOf9,sizeOf53]) O O) (Aw (v:=(pP b1 0)) O (AA O underlying55 O sizeOf53 O) (Bi 1 (vK .u64 (Bx a)) Fw O (Aw (v:=(pP b2 0)) O (AA O underlying55 O sizeOf53 O) (Bi 0 (vK .u64 (Bx b)) Fw O ?_)))))
    refine Aw O (Bo (c:=(((Bx a)%(Bx b):Nat):Int)) O O Z (GF (a:=Bx a) (b:=Bx b))) (Aw (v:=(aG ([(vK .u64 ((Bx a)%(Bx b))),(Value.string (Bf 0))]))) O (AT (zs:=AU 0) (vs:=[(vK .u64 ((Bx a)%(Bx b))),(Value.string (Bf 0))]) (pv:=[(0,(vK .u64 ((Bx a)%(Bx b))))]) (places:=[(0,1),(1,1)]) zeroValue55 underlying55 (λw=>by simp [sizeOf9,sizeOf53]) O O) (AS.imp O (C9 O sizeOf55 O (AS.back (sl (sl sr)) (AS.imp O ?_)))))
    refine Aq O sizeOf55 O (AS.back (sl (sl sr)) (Ez O (AS.nil (AD.subF (sL [2,3,4,5,6] O) (AD.then_ ?_)))))
    exact AF.ret (AD.in_ret (AD.then_ret (FK O (A7 (i:=1) (cs:=[(vK .u64 ((Bx a)/(Bx b))),(Value.string (Bf 0))]) O O isAgg55 sizeOf55 O) (A7 (i:=0) (cs:=[(vK .u64 ((Bx a)%(Bx b))),(Value.string (Bf 0))]) O O isAgg55 sizeOf55 O) (Ac (v:=(Value.bool true)) O) (λw hw=>⟨by rw [DO q1,DO q2,la,lb];rfl,hw.out⟩))))
   ·replace hc2:=of_decide_eq_false hc2
    refine AF.skip (AD.in_normal (q2 (BE 2 Bz O (AE.callB (V:=λb5=>(Value.slice (some ⟨b5,0,none⟩) (nw b) ((Au b).length))) (T:=83) (cs:=Ai (Au b)) (AQ O) (Ax (args:=[(aG (AU b))]) O O call108) (λw hw=>C3 b Z w) O (Ad O) λb5=>AJ O ?_))))
    refine q6 (sL [2,3,4,5,6,7] O) (q4 (AP O (AH (v:=(vN (nw b))) (AG O underlying187) O (AH (BZ (c:=(decide ((nw b)=1))) O O (NU (a:=nw b) (b:=1))) O (AE.nil ?_)))))
    refine AD.subF (sL [2,3,4,5,6,7,44] O) (AD.then_ ?_)
    refine AF.cond O (λhc3=>?_) (λhc3=>?_)
    ·replace hc3:=of_decide_eq_true hc3
     obtain ⟨hy,hy2⟩:=UV hc3
     refine AF.seq (DA [(0,true),(2,true),(3,true),(4,true),(1,false),(5,false),(6,true),(7,true),(8,true),(9,true),(10,true)] sr (E7 4 Bz O (Bp O (Aw (v:=(pP b5 0)) O (AI (j:=0) O O underlying187 sizeOf83 O Z O) ?_))))
     have hx1:(Au b).getD 0 0<4294967296:=W32.getD (CM b) 0
     refine Aw O (AM (i:=0) (v:=(vK .u32 ((Au b).getD 0 0))) O O isAgg83 (BI (xs:=Au b) (j:=0) Z)) (AS.imp O (AE.callB (V:=λb6=>(Value.slice (some ⟨b6,0,none⟩) (nw a) ((Au a).length))) (T:=83) (cs:=Ai (Au a)) (AQ O) (Ax (args:=[(aG (AU a))]) O O call108) (λw hw=>C3 a Z w) O (Ad O) λb6=>AS.back (sl sr) (AS.imp O (AE.callB (V:=λb7=>(Value.tuple #[(Value.slice (some ⟨b7,0,none⟩) (nw a) (nw a)),(vK .u32 (a%((Au b).getD 0 0)))])) (T:=83) (cs:=Ai (CV (nw a) (a/((Au b).getD 0 0)))) (AQ O) (Ax (args:=[(Value.slice (some ⟨b6,0,none⟩) (nw a) ((Au a).length)),(vK .u32 ((Au b).getD 0 0))]) O O call140) (λw hw=>Rv a ((Au b).getD 0 0) _ _ Z Z Z w (hw.get (i:=0) O)) O (Ad O) λb7=>?_))))
     refine AS.back (sl (sl sr)) (Bp O (Aw O (Aa (v:=(Value.slice (some ⟨b7,0,none⟩) (nw a) (nw a))) O O) (Aw O (Aa (v:=(vK .u32 (a%((Au b).getD 0 0)))) O O) (Ez O (Ez O ?_)))))
     refine AS.nil (AD.subF (sL [2,3,4,5,6,7,8,9] O) (q2 (AP O (Ef call107 (λw hw=>IZ _ (nw a) (nw a) (CV (nw a) (a/((Au b).getD 0 0))) (Dc _ _) (by first|omega|(rw [Bd];omega)|simp|(simp;omega)) (by first|omega|simp|(simp;omega)) (by first|omega|simp|(simp;omega)) w (hw.get (i:=0) O)) O (AE.retell (k:=55) (u:=(aG (AU (a/b)))) O (by rw [hy,E1 (Nat.lt_of_le_of_lt (Nat.div_le_self _ _) (Bw a))]) ?_)))))
     refine AP O ?_
     have hmb:a%(Au b).getD 0 0<4294967296:=by rw [hy];exact Nat.lt_of_lt_of_le (Nat.mod_lt _ Z) Z
     refine AH (Ap (c:=((a%((Au b).getD 0 0):Nat):Int)) O underlying83 underlying53 (BU Z)) O (AH (v:=(aG ([(vK .u64 (a%((Au b).getD 0 0))),(Value.string (Bf 0))]))) (AT (zs:=AU 0) (vs:=[(vK .u64 (a%((Au b).getD 0 0))),(Value.string (Bf 0))]) (pv:=[(0,(vK .u64 (a%((Au b).getD 0 0))))]) (places:=[(0,1),(1,1)]) zeroValue55 underlying55 (λw=>by simp [sizeOf9,sizeOf53]) O O) O (AE.retell (k:=58) (u:=(aG (AU (a%b)))) O (by rw [hy] at hmb ⊢;rw [DO Z];rfl) (GP 4 (off:=0) (vs:=AU (a/b)) (cs':=AU (a/b)) (AQ O) O sizeOf55 O (IJ O sizeOf55 O (AJ O ?_)))))
     exact AE.nil (AD.subF (sL [2,3,4,5,6,7] O) (AD.then_ (AF.ret (AD.then_ret (FK O (A7 (i:=4) (cs:=AU (a/b)) O O isAgg55 sizeOf55 O) (A7 (i:=3) (cs:=AU (a%b)) O O isAgg55 sizeOf55 O) (Ac (v:=(Value.bool true)) O) (λw hw=>⟨rfl,hw.out⟩))))))
    ·replace hc3:=of_decide_eq_false hc3
     refine AF.skip (q2 (BE 4 Bz O (AE.callB (V:=λb6=>(Value.slice (some ⟨b6,0,none⟩) (nw a) ((Au a).length))) (T:=83) (cs:=Ai (Au a)) (AQ O) (Ax (args:=[(aG (AU a))]) O O call108) (λw hw=>C3 a Z w) O (Ad O) λb6=>AP O (AE.callBB (V:=λb7 b8=>(Value.tuple #[(Value.slice (some ⟨b7,0,none⟩) (nw a+1-nw b) (nw a+1-nw b)),(Value.slice (some ⟨b8,0,none⟩) (nw a+1) (nw a+1))])) (T:=83) (cs:=Ai (CV (nw a+1-nw b) (a/b))) (T2:=83) (cs2:=Ai (CV (nw a+1) (a%b))) (AQ O) (Ax (args:=[(Value.slice (some ⟨b6,0,none⟩) (nw a) ((Au a).length)),(Value.slice (some ⟨b5,0,none⟩) (nw b) ((Au b).length))]) O O call141) (λw hw=>Uk a b _ _ _ _ Z Z Z w (hw.get (i:=0) O) (hw.get (i:=1) O)) O (Ad O) λb7 b8=>?_))))
     refine AP O (AH (Aa (v:=(Value.slice (some ⟨b7,0,none⟩) (nw a+1-nw b) (nw a+1-nw b))) O O) O (AH (Aa (v:=(Value.slice (some ⟨b8,0,none⟩) (nw a+1) (nw a+1))) O O) O (AJ O (AJ O (q3 (sL [2,3,4,5,6,7,10,11] O) ?_)))))
     refine AP O (Ef call107 (λw hw=>IZ _ (nw a+1-nw b) (nw a+1-nw b) (CV (nw a+1-nw b) (a/b)) (Dc _ _) (by first|omega|(rw [Bd];omega)|simp|(simp;omega)) (by first|omega|simp|(simp;omega)) (by first|omega|simp|(simp;omega)) w (hw.get (i:=0) O)) O (AE.retell (k:=67) (u:=(aG (AU (a/b)))) O (by rw [E1 (Pj Z hba)]) (AP O (Ef call107 (λw hw=>IZ _ (nw a+1) (nw a+1) (CV (nw a+1) (a%b)) (Dc _ _) (by first|omega|(rw [Bd];omega)|simp|(simp;omega)) (by first|omega|simp|(simp;omega)) (by first|omega|simp|(simp;omega)) w (hw.get (i:=1) O)) O (AE.retell (k:=69) (u:=(aG (AU (a%b)))) O (by rw [E1 QN]) ?_)))))
     refine GP 5 (off:=0) (vs:=AU (a/b)) (cs':=AU (a/b)) (AQ O) O sizeOf55 O (GP 4 (off:=0) (vs:=AU (a%b)) (cs':=AU (a%b)) (AQ O) O sizeOf55 O (AJ O (AE.nil (AD.subF (sL [2,3,4,5,6,7] O) (AD.then_ ?_)))))
     exact AF.ret (FK O (A7 (i:=5) (cs:=AU (a/b)) O O isAgg55 sizeOf55 O) (A7 (i:=4) (cs:=AU (a%b)) O O isAgg55 sizeOf55 O) (Ac (v:=(Value.bool true)) O) (λw hw=>⟨rfl,hw.out⟩))
theorem Wi (a b:Nat) (ha:nw a<=1099511627776) (hb:nw b<=1099511627776) (w:World)  :Calls prog 98 #[(aG (AU a)),(aG (AU b))] w (Ak w (aG (AU (Nat.gcd a b)))):=by
 refine Ab (args:=[(aG (AU a)),(aG (AU b))]) func98 O O (Ad O) (AF.subF (sL [0,1] O) (q4 (Bk (cs:=AU a) O λb1=>Bk (cs:=AU b) O λb2=>al FR O λb3=>?_)))
 refine q6 (sL [2,3,4] O) (AF.block ?_)
 refine AF.lp2 (tg λ(x:Nat) (y:Nat)=>Nat.gcd x y=Nat.gcd a b/\nw x<=1099511627776/\nw y<=1099511627776) (tg λ(x:Nat) (y:Nat)=>[(2,(pP b1 0)),(3,(pP b2 0)),(4,(pP b3 0))]) (tg λ(x:Nat) (y:Nat)=>[Ae b3 55 (AU 0),Ae b2 55 (AU y),Ae b1 55 (AU x)]) (tg λ(x:Nat) (y:Nat)=>y) a b (⟨rfl,ha,hb⟩) (sF O) sr (λx y hJ=>?_)
 obtain ⟨hg,hx,hy⟩:=hJ
 refine AF.seq (q4 (BE 1 Bz O (BS call138 (Oq y) O (AH (BY (c:=(!(decide (y=0)))) O O) O (AE.nil ?_)))))
 refine AD.subF (sL [2,3,4,10] O) (AD.then_ ?_)
 refine AF.cond O (λhc0=>?_) (λhc0=>?_)
 ·simp only [Bool.and_eq_true,Bool.or_eq_true,Bool.and_eq_false_iff,Bool.or_eq_false_iff,Bool.not_eq_true',Bool.not_eq_false',decide_eq_true_eq,decide_eq_false_iff_not] at hc0
  refine AF.skip (AD.then_ (AF.block (q4 (BE 2 Bz O (BE 1 Bz O ?_)))))
  refine BS call100 (OL x y Z Z Z) O (AP O (AH (Aa (v:=(aG (AU (x/y)))) O O) O (AH (Aa (v:=(aG (AU (x%y)))) O O) O (AH (Aa (v:=(Value.bool true)) O O) O (al FR O λb4=>?_)))))
  refine al FR O λb5=>C9 O sizeOf55 O (Aq O sizeOf55 O (AJ O (AE.nil (AD.subF (sL [2,3,4,6] O) ?_))))
  refine AD.then_ (DA [(1,true),(0,false),(2,false),(3,false)] (sk (sk (sk (sl (sl sr))))) (E7 0 Bz O (AS.imp O (BE 3 Bz O (AS.back (sk (sk (sk (sl (sl sr))))) ?_)))))
  refine AS.imp O (GP 4 (off:=0) (vs:=AU y) (cs':=AU y) (AQ O) O sizeOf55 O (AS.back (sk (sk (sk (sl (sl sr))))) (AS.imp O (IJ O sizeOf55 O (AS.back (sk (sk (sk (sl (sl sr))))) ?_)))))
  exact AS.nil (AD.subF (sL [2,3,4,6] O) (AD.in_normal (AD.round2 y (x%y) (⟨by rw [<-hg,Nat.gcd_comm x y,Nat.gcd_rec y x,Nat.gcd_comm],hy,Nat.le_trans (DL (Nat.mod_le _ _)) hx⟩) (Nat.mod_lt _ Z) (sF O) (sl (sl sr)))))
 ·simp only [Bool.and_eq_true,Bool.or_eq_true,Bool.and_eq_false_iff,Bool.or_eq_false_iff,Bool.not_eq_true',Bool.not_eq_false',decide_eq_true_eq,decide_eq_false_iff_not] at hc0
  have hy0:y=0:=by omega
  have hxg:x=Nat.gcd a b:=by rw [<-hg,hy0,Nat.gcd_zero_right]
  refine AF.exit (AD.then_exit (AD.round2_exit (AD.in_exit (q2 (BE 2 Bz O ?_)))))
  exact Aq O sizeOf55 O (AE.nil (AD.subF (sL [2,3,4] O) (AD.then_ (AF.ret (AN O (A7 (i:=0) (cs:=AU x) O O isAgg55 sizeOf55 O) (λw hw=>⟨by rw [hxg],hw.out⟩))))))
end
def EO (neg:Bool) (n:Nat):Int:=if neg then -(n:Int) else (n:Int)
theorem Qz (n:Nat):A9 (EO true n)=AU n++[.bool (!(decide (n=0)))]:=by
  simp only [A9,AU,EO,if_true,Int.natAbs_neg,Int.natAbs_natCast,List.cons_append,List.nil_append]
  have e:decide (-(n:Int)<0)=!(decide (n=0)):=by
    by_cases h:n=0
    · subst h;rfl
    · simp [h];omega
  rw [e]
theorem Tc (n:Nat):A9 (EO false n)=AU n++[.bool false]:=by
  simp only [A9,AU,EO,Int.natAbs_natCast,List.cons_append,List.nil_append]
  have e:decide ((n:Int)<0)=false:=by simp
  simp [e]
theorem M0 (D a b:Nat):E3 prog (D+3) 57 (.agg (AU a).toArray) (.agg (AU b).toArray) (decide (a=b)):=by
  have h:=E3.struct (D:=D+2) (xs:=AU a) (ys:=AU b) underlying57 Tryz.stoodInHeld57 (Hn.agg (us:=AU a) (bs:=AU b) (by decide) isAgg55 sizeOf55 rfl rfl (GR D a b) Hn.nil)
  simpa using h
theorem Ay (neg:Bool) (n:Nat):(EO neg n).natAbs=n:=by cases neg<;>simp [EO]
theorem Ui (a:Int):EO (!(decide (a<0))) a.natAbs = -a:=by
  unfold EO
  by_cases h:a<0
  · simp [h];omega
  · simp [h];omega
theorem T7 (a b:Int):EO (!(decide (a<0) == decide (b<0))) (a.natAbs*b.natAbs)=a*b:=by
  rw [<-Int.natAbs_mul]
  unfold EO
  by_cases h:a<0<;>by_cases h':b<0
  · have:=Int.mul_pos_of_neg_of_neg h h';simp [h,h'];omega
  · have:a*b<=0:=Int.mul_nonpos_of_nonpos_of_nonneg Z Z
    simp [h,h'];omega
  · have:a*b<=0:=Int.mul_nonpos_of_nonneg_of_nonpos Z Z
    simp [h,h'];omega
  · have:0<=a*b:=Int.mul_nonneg Z Z
    simp [h,h'];omega
theorem L8 {a b:Int} (h:(decide (a<0) == decide (b<0))=true):EO (decide (a<0)) (a.natAbs+b.natAbs)=a+b:=by
  unfold EO
  by_cases h1:a<0<;>by_cases h2:b<0<;>simp [h1,h2] at h ⊢<;>omega
theorem OT {a b:Int} (h:(decide (a<0) == decide (b<0))=false) (h3:b.natAbs<=a.natAbs):EO (decide (a<0)) (a.natAbs-b.natAbs)=a+b:=by
  unfold EO
  by_cases h1:a<0<;>by_cases h2:b<0<;>simp [h1,h2] at h ⊢<;>omega
theorem OS {a b:Int} (h:(decide (a<0) == decide (b<0))=false) (h3:¬b.natAbs<=a.natAbs):EO (decide (b<0)) (b.natAbs-a.natAbs)=a+b:=by
  unfold EO
  by_cases h1:a<0<;>by_cases h2:b<0<;>simp [h1,h2] at h ⊢<;>omega
theorem X3 {z:Int} (h:z<0) (h2:-9223372036854775808<=z):IntKind.u64.wrap (-(IntKind.u64.wrap z))=((z.natAbs:Nat):Int):=by
  simp only [IntKind.wrap,IntKind.bits,IntKind.signed];simp;omega
theorem JS {z:Int} (h:z<0):EO true z.natAbs=z:=by unfold EO;simp;omega
theorem QR {z:Int} (h:¬z<0):EO false z.natAbs=z:=by unfold EO;simp;omega
section
set_option maxRecDepth 100000
theorem KS  :Instr.fill ([(0,2)].toArray[·]?) (AU 0).toArray []=some (AU 0).toArray:=by kernel_rfl
theorem HV (n:Nat) (w:World)  :Calls prog 110 #[(aG (AU n))] w (Ak w (Value.bool (decide (n=0)))):=by
 refine Ab (args:=[(aG (AU n))]) func110 O O (Ad O) (AF.subF (sL [0] O) (q4 (Bk (cs:=AU n) O λb1=>AJ O (q3 (sL [1,2] O) ?_))))
 refine BE 0 Qe O (AH (v:=(aG (AU 0))) (AT (zs:=AU 0) (vs:=AU 0) (pv:=[]) (places:=[(0,2)]) zeroValue57 underlying57 (λw=>by simp [sizeOf55]) O (KS )) O (AH (CB (c:=(decide (n=0))) O O eqGuardType57 (M0 9997 n 0)) O (AJ O (AE.nil (AD.subF (sL [2] O) ?_)))))
 exact AD.then_ (AF.ret (AN O (Ac (v:=(Value.bool (decide (n=0)))) O) (λw hw=>⟨rfl,hw.out⟩)))
theorem EW (x0:Nat):Instr.fill ([(0,2)].toArray[·]?) (AU 0).toArray [(0,.agg (AU x0).toArray)]=some (AU x0).toArray:=by kernel_rfl
theorem Ph (n:Nat) (w:World)  :Calls prog 103 #[(Value.bool true),(aG (AU n))] w (Ak w (aG (A9 (EO true n)))):=by
 refine Ab (args:=[(Value.bool true),(aG (AU n))]) func103 O O (Ad O) (AF.subF (sL [0,1] O) (q4 (Bk (cs:=AU n) O λb1=>al Ij O λb2=>q3 (sL [0,3,4] O) ?_)))
 refine BE 1 Bz O (AH (v:=(aG (AU n))) (AT (zs:=AU 0) (vs:=AU n) (pv:=[(0,(aG (AU n)))]) (places:=[(0,2)]) zeroValue57 underlying57 (λw=>by simp [sizeOf55]) O (EW n)) O (al Ww O λb3=>Aq O sizeOf57 O (q6 (sL [0,4,5] O) (DA [(0,true),(1,true),(2,true),(3,true),(4,false),(5,true),(6,true),(7,true),(8,false)] (sk (sl sr)) ?_))))
 refine E7 0 Qe O (Bp O (Bp O (AS.pas (v:=(aG (AU n))) O (AB O) (A6 (i:=0) (vs:=AU n) O O Qe.a Qe.s O O) O O (AS.imp O (AE.call (v:=(Value.bool (decide (n=0)))) (AB O) (Ax (args:=[(aG (AU n))]) O O call110) (λw hw=>HV n w) O (Ad O) ?_)))))
 refine AS.back (sk (sl sr)) (AS.pas (v:=(Value.bool (!(decide (n=0))))) O (AB O) (BY (c:=(!(decide (n=0)))) O O) O O (Aw (v:=(Value.bool (!(decide (n=0))))) O (Al O O) (Aw (v:=(aG (AU n++[(Value.bool (!(decide (n=0))))]))) O (AT (zs:=A9 0) (vs:=AU n++[(Value.bool (!(decide (n=0))))]) (pv:=[(0,(aG (AU n))),(1,(Value.bool (!(decide (n=0)))))]) (places:=[(0,2),(2,1)]) zeroValue59 underlying59 (λw=>by simp [sizeOf4,sizeOf57]) O O) (AS.imp O (C9 O sizeOf59 O ?_)))))
 exact AS.back (sk (sl sr)) (AS.nil (AD.subF (sL [4,5] O) (AD.then_ (AF.ret (AN O (A7 (i:=1) (cs:=AU n++[(Value.bool (!(decide (n=0))))]) O O isAgg59 sizeOf59 O) (λw hw=>⟨by rw [Qz],hw.out⟩))))))
theorem N5 (n:Nat) (w:World)  :Calls prog 103 #[(Value.bool false),(aG (AU n))] w (Ak w (aG (A9 (EO false n)))):=by
 refine Ab (args:=[(Value.bool false),(aG (AU n))]) func103 O O (Ad O) (AF.subF (sL [0,1] O) (q4 (Bk (cs:=AU n) O λb1=>al Ij O λb2=>q3 (sL [0,3,4] O) ?_)))
 refine BE 1 Bz O (AH (v:=(aG (AU n))) (AT (zs:=AU 0) (vs:=AU n) (pv:=[(0,(aG (AU n)))]) (places:=[(0,2)]) zeroValue57 underlying57 (λw=>by simp [sizeOf55]) O (EW n)) O (al Ww O λb3=>Aq O sizeOf57 O (q6 (sL [0,4,5] O) (DA [(0,true),(1,true),(2,true),(3,true),(4,false),(5,true),(6,true),(7,true),(8,false)] (sk (sl sr)) ?_))))
 refine E7 0 Qe O (Bp O (Bp O (AS.skp O (AV O) O O (AS.imp O (AE.skip (AV O) O (Ad O) ?_)))))
 refine AS.back (sk (sl sr)) (AS.skp O (AV O) O O (Aw (v:=(Value.bool false)) O (AW O O) (Aw (v:=(aG (AU n++[(Value.bool false)]))) O (AT (zs:=A9 0) (vs:=AU n++[(Value.bool false)]) (pv:=[(0,(aG (AU n))),(1,(Value.bool false))]) (places:=[(0,2),(2,1)]) zeroValue59 underlying59 (λw=>by simp [sizeOf4,sizeOf57]) O O) (AS.imp O (C9 O sizeOf59 O ?_)))))
 exact AS.back (sk (sl sr)) (AS.nil (AD.subF (sL [4,5] O) (AD.then_ (AF.ret (AN O (A7 (i:=1) (cs:=AU n++[(Value.bool false)]) O O isAgg59 sizeOf59 O) (λw hw=>⟨by rw [Tc],hw.out⟩))))))
theorem Ds (neg:Bool) (n:Nat) (w:World):Calls prog 103 #[.bool neg,.agg (AU n).toArray] w (Ak w (.agg (A9 (EO neg n)).toArray)):=by
 cases neg
 ·exact N5 n w
 ·exact Ph n w
theorem WQ (z:Int) (hz:-9223372036854775808<=z) (hz2:z<9223372036854775808) (w:World)  :Calls prog 67 #[(vI z)] w (Ak w (aG (A9 z))):=by
 refine Ab (args:=[(vI z)]) func67 O O (Ad O) (AF.subF (sL [0] O) (q4 (al Ij O λb1=>AE.nil (q1 ?_))))
 refine q4 (AP O (AH (Af (c:=(decide (z<(0:Int)))) O O O) O (AE.nil (AD.subF (sL [0,2,4] O) (AD.then_ ?_)))))
 refine AF.cond O (λhc0=>?_) (λhc0=>?_)
 ·replace hc0:=of_decide_eq_true hc0
  have he:=JS hc0
  refine q4 (AP O (AH (Ap (c:=(IntKind.u64.wrap z)) O underlying2 underlying53 (rfl)) O (AH (Ja (c:=((z.natAbs:Nat):Int)) O (by rw [Int.zero_sub];exact X3 hc0 hz)) O (BS call102 (I6 z.natAbs Z) O (BS call103 (Ds true z.natAbs) O ?_)))))
  exact Aq O sizeOf59 O (AE.nil (AD.subF (sL [0,2] O) (AD.then_ (AF.ret (AD.then_ret (AN O (A7 (i:=0) (cs:=A9 (EO true z.natAbs)) O O isAgg59 sizeOf59 O) (λw hw=>⟨by rw [he],hw.out⟩)))))))
 ·replace hc0:=of_decide_eq_false hc0
  have he:=QR hc0
  refine AF.skip (q2 (AP O (AH (Ap (c:=((z.natAbs:Nat):Int)) O underlying2 underlying53 (by rw [DU Z Z];omega)) O (BS call102 (I6 z.natAbs Z) O (BS call103 (Ds false z.natAbs) O ?_)))))
  exact Aq O sizeOf59 O (AE.nil (AD.subF (sL [0,2] O) (AD.then_ (AF.ret (AN O (A7 (i:=0) (cs:=A9 (EO false z.natAbs)) O O isAgg59 sizeOf59 O) (λw hw=>⟨by rw [he],hw.out⟩))))))
theorem Lq (a:Int) (w:World)  :Calls prog 99 #[(aG (A9 a))] w (Ak w (aG (AU a.natAbs))):=by
 refine Ab (args:=[(aG (A9 a))]) func99 O O (Ad O) (AF.subF (sL [0] O) (q4 (Bk (cs:=A9 a) O λb1=>al FR O λb2=>q3 (sL [1,2] O) ?_)))
 refine AH (v:=(pP b1 0)) (AA O underlying59 O sizeOf57 O) O (AH (v:=(pP b1 0)) (AA O underlying57 O sizeOf55 O) O (DT 1 (AU a.natAbs) Bz O (Aq O sizeOf55 O (AE.nil (AD.subF (sL [2] O) ?_)))))
 exact AD.then_ (AF.ret (AN O (A7 (i:=0) (cs:=AU a.natAbs) O O isAgg55 sizeOf55 O) (λw hw=>⟨rfl,hw.out⟩)))
theorem KM (a:Int) (w:World)  :Calls prog 59 #[(aG (A9 a))] w (Ak w (vI a.sign)):=by
 refine Ab (args:=[(aG (A9 a))]) func59 O O (Ad O) (AF.subF (sL [0] O) (q4 (Bk (cs:=A9 a) O λb1=>AJ O (q6 (sL [1,2] O) ?_))))
 refine AF.block (q4 (AH (v:=(pP b1 0)) (AA O underlying59 O sizeOf57 O) O (DT 0 (AU a.natAbs) Qe O (BS call110 (HV a.natAbs) O (AJ O ?_)))))
 refine AE.nil (AD.subF (sL [1,2,3] O) (AD.then_ ?_))
 refine AF.cond O (λhc0=>?_) (λhc0=>?_)
 ·replace hc0:=of_decide_eq_true hc0
  have he:a.sign=0:=by rw [show a=0 by omega];rfl
  refine q4 (AJ O (AE.nil (AD.then_ (AF.ret (AD.in_ret ?_)))))
  exact AD.then_ret (AN O (Ac (v:=(vI 0)) O) (λw hw=>⟨by rw [he],hw.out⟩))
 ·replace hc0:=of_decide_eq_false hc0
  refine q4 (AH (v:=(pP b1 2)) (AA O underlying59 O sizeOf4 O) O (BN 0 (Value.bool (decide (a<0))) Q0 O (AJ O (AE.nil (AD.subF (sL [1,2,7] O) ?_)))))
  refine AD.then_ ?_
  refine AF.cond O (λhc1=>?_) (λhc1=>?_)
  ·replace hc1:=of_decide_eq_true hc1
   have he:a.sign = -1:=Int.sign_eq_neg_one_of_neg hc1
   refine q4 (AJ O (AE.nil (AD.then_ (AF.ret (AD.in_ret ?_)))))
   exact AD.then_ret (AN O (Ac (v:=(vI (-1:Int))) O) (λw hw=>⟨by rw [he],hw.out⟩))
  ·replace hc1:=of_decide_eq_false hc1
   have he:a.sign=1:=Int.sign_eq_one_of_pos Z
   refine AF.skip (AD.in_normal (q2 (AJ O (AE.nil (AD.then_ ?_)))))
   exact AF.ret (AN O (Ac (v:=(vI 1)) O) (λw hw=>⟨by rw [he],hw.out⟩))
theorem PU (a:Int) (w:World)  :Calls prog 146 #[(aG (A9 a))] w (Ak w (aG (A9 (-a)))):=by
 refine Ab (args:=[(aG (A9 a))]) func146 O O (Ad O) (AF.subF (sL [0] O) (q4 (Bk (cs:=A9 a) O λb1=>al Ij O λb2=>q3 (sL [1,2] O) ?_)))
 refine AH (v:=(pP b1 2)) (AA O underlying59 O sizeOf4 O) O (BN 1 (Value.bool (decide (a<0))) Q0 O (AH (BY (c:=(!(decide (a<0)))) O O) O (AH (v:=(pP b1 0)) (AA O underlying59 O sizeOf57 O) O (AH (v:=(pP b1 0)) (AA O underlying57 O sizeOf55 O) O (DT 1 (AU a.natAbs) Bz O ?_)))))
 exact BS call103 (Ds (!(decide (a<0))) a.natAbs) O (Aq O sizeOf59 O (AE.nil (AD.subF (sL [2] O) (AD.then_ (AF.ret (AN O (A7 (i:=0) (cs:=A9 (EO (!(decide (a<0))) a.natAbs)) O O isAgg59 sizeOf59 O) (λw hw=>⟨by rw [Ui],hw.out⟩)))))))
theorem UO (a b:Int) (ha:nw a.natAbs<=1099511627776) (hb:nw b.natAbs<=1099511627776) (w:World)  :Calls prog 97 #[(aG (A9 a)),(aG (A9 b))] w (Ak w (aG (A9 (a+b)))):=by
 refine Ab (args:=[(aG (A9 a)),(aG (A9 b))]) func97 O O (Ad O) (AF.subF (sL [0,1] O) (q4 (Bk (cs:=A9 a) O λb1=>Bk (cs:=A9 b) O λb2=>al Ij O λb3=>?_)))
 refine q6 (sL [2,3,4] O) (q4 (AH (v:=(pP b1 2)) (AA O underlying59 O sizeOf4 O) O (BN 2 (Value.bool (decide (a<0))) Q0 O (AH (v:=(pP b2 2)) (AA O underlying59 O sizeOf4 O) O (BN 1 (Value.bool (decide (b<0))) Q0 O ?_)))))
 refine AH (IH (c:=(decide (a<0) == decide (b<0))) O O underlying4 O) O (AE.nil (AD.subF (sL [2,3,4,13] O) (AD.then_ ?_)))
 refine AF.cond O (λhc0=>?_) (λhc0=>?_)
 ·skip
  have he:=L8 hc0
  refine AF.seq (DA [(0,true),(1,true),(2,true),(3,true),(4,true),(5,true),(6,true),(7,true),(8,false),(9,false),(10,false)] (sl sr) (Aw (v:=(pP b1 2)) O (AA O underlying59 O sizeOf4 O) (Bi 1 (Value.bool (decide (a<0))) Q0 O (Aw (v:=(pP b1 0)) O (AA O underlying59 O sizeOf57 O) (Aw (v:=(pP b1 0)) O (AA O underlying57 O sizeOf55 O) ?_)))))
  refine IM 1 (AU a.natAbs) Bz O (Aw (v:=(pP b2 0)) O (AA O underlying59 O sizeOf57 O) (Aw (v:=(pP b2 0)) O (AA O underlying57 O sizeOf55 O) (IM 0 (AU b.natAbs) Bz O (AS.imp O (BS call104 (RG a.natAbs b.natAbs Z Z) O ?_)))))
  refine AS.back (sl sr) (AS.imp O (BS call103 (Ds (decide (a<0)) (a.natAbs+b.natAbs)) O (AS.back (sl sr) (AS.imp O (Aq O sizeOf59 O ?_)))))
  exact AS.back (sl sr) (AS.nil (AD.subF (sL [2,3,4] O) (AD.then_ (AF.ret (AD.then_ret (AN O (A7 (i:=0) (cs:=A9 (EO (decide (a<0)) (a.natAbs+b.natAbs))) O O isAgg59 sizeOf59 O) (λw hw=>⟨by rw [he],hw.out⟩)))))))
 ·skip
  refine AF.skip (q1 (q4 (AH (v:=(pP b1 0)) (AA O underlying59 O sizeOf57 O) O (AH (v:=(pP b1 0)) (AA O underlying57 O sizeOf55 O) O (DT 2 (AU a.natAbs) Bz O ?_)))))
  refine AH (v:=(pP b2 0)) (AA O underlying59 O sizeOf57 O) O (AH (v:=(pP b2 0)) (AA O underlying57 O sizeOf55 O) O (DT 1 (AU b.natAbs) Bz O (BS call101 (Nd a.natAbs b.natAbs Z Z) O (AP O (AH (Aa (v:=(aG (AU (a.natAbs-b.natAbs)))) O O) O ?_)))))
  refine AH (Aa (v:=(Value.bool (decide (b.natAbs<=a.natAbs)))) O O) O (al FR O λb4=>Aq O sizeOf55 O (AJ O (q3 (sL [2,3,4,5,6] O) (AP O ?_))))
  refine AE.nil (AD.subF (sL [2,3,4,5,34] O) (AD.then_ ?_))
  refine AF.cond O (λhc1=>?_) (λhc1=>?_)
  ·replace hc1:=of_decide_eq_true hc1
   have he:=OT hc0 hc1
   refine q4 (AH (v:=(pP b1 2)) (AA O underlying59 O sizeOf4 O) O (BN 3 (Value.bool (decide (a<0))) Q0 O (BE 0 Bz O (BS call103 (Ds (decide (a<0)) (a.natAbs-b.natAbs)) O (C9 O sizeOf59 O ?_)))))
   exact AE.nil (AD.subF (sL [2,3,4,5] O) (AD.then_ (AF.ret (AD.then_ret (AN O (A7 (i:=1) (cs:=A9 (EO (decide (a<0)) (a.natAbs-b.natAbs))) O O isAgg59 sizeOf59 O) (λw hw=>⟨by rw [he],hw.out⟩))))))
  ·replace hc1:=of_decide_eq_false hc1
   have he:=OS hc0 hc1
   refine AF.skip (q2 (AH (v:=(pP b2 0)) (AA O underlying59 O sizeOf57 O) O (AH (v:=(pP b2 0)) (AA O underlying57 O sizeOf55 O) O (DT 2 (AU b.natAbs) Bz O (AH (v:=(pP b1 0)) (AA O underlying59 O sizeOf57 O) O ?_)))))
   refine AH (v:=(pP b1 0)) (AA O underlying57 O sizeOf55 O) O (DT 3 (AU a.natAbs) Bz O (BS call101 (Nd b.natAbs a.natAbs Z Z) O (AP O (AH (Aa (v:=(aG (AU (b.natAbs-a.natAbs)))) O O) O (AH (Aa (v:=(Value.bool (decide (a.natAbs<=b.natAbs)))) O O) O ?_)))))
   refine al FR O λb5=>Aq O sizeOf55 O (AJ O (q3 (sL [2,3,4,5,7] O) (AH (v:=(pP b2 2)) (AA O underlying59 O sizeOf4 O) O (BN 3 (Value.bool (decide (b<0))) Q0 O ?_))))
   refine BE 0 Bz O (BS call103 (Ds (decide (b<0)) (b.natAbs-a.natAbs)) O (Sy O sizeOf59 O (AE.nil (AD.subF (sL [2,3,4,5,7] O) (AD.then_ ?_)))))
   exact AF.ret (AN O (A7 (i:=2) (cs:=A9 (EO (decide (b<0)) (b.natAbs-a.natAbs))) O O isAgg59 sizeOf59 O) (λw hw=>⟨by rw [he],hw.out⟩))
theorem SE (a b:Int) (ha:nw a.natAbs<=1099511627776) (hb:nw b.natAbs<=1099511627776) (w:World)  :Calls prog 105 #[(aG (A9 a)),(aG (A9 b))] w (Ak w (aG (A9 (a*b)))):=by
 refine Ab (args:=[(aG (A9 a)),(aG (A9 b))]) func105 O O (Ad O) (AF.subF (sL [0,1] O) (q4 (Bk (cs:=A9 a) O λb1=>Bk (cs:=A9 b) O λb2=>al Ij O λb3=>?_)))
 refine q6 (sL [2,3,4] O) (DA [(0,true),(1,true),(2,true),(3,true),(4,true),(5,true),(6,true),(7,true),(8,true),(9,true),(10,true),(11,false),(12,false),(13,false)] (sl sr) (Aw (v:=(pP b1 2)) O (AA O underlying59 O sizeOf4 O) (Bi 1 (Value.bool (decide (a<0))) Q0 O (Aw (v:=(pP b2 2)) O (AA O underlying59 O sizeOf4 O) (Bi 0 (Value.bool (decide (b<0))) Q0 O ?_)))))
 refine Aw O (F8 (c:=(!(decide (a<0) == decide (b<0)))) O O underlying4 O) (Aw (v:=(pP b1 0)) O (AA O underlying59 O sizeOf57 O) (Aw (v:=(pP b1 0)) O (AA O underlying57 O sizeOf55 O) (IM 1 (AU a.natAbs) Bz O (Aw (v:=(pP b2 0)) O (AA O underlying59 O sizeOf57 O) (Aw (v:=(pP b2 0)) O (AA O underlying57 O sizeOf55 O) ?_)))))
 refine IM 0 (AU b.natAbs) Bz O (AS.imp O (BS call57 (OR a.natAbs b.natAbs Z Z) O (AS.back (sl sr) (AS.imp O (BS call103 (Ds (!(decide (a<0) == decide (b<0))) (a.natAbs*b.natAbs)) O ?_)))))
 refine AS.back (sl sr) (AS.imp O (Aq O sizeOf59 O (AS.back (sl sr) (AS.nil (AD.subF (sL [4] O) ?_)))))
 exact AD.then_ (AF.ret (AN O (A7 (i:=0) (cs:=A9 (EO (!(decide (a<0) == decide (b<0))) (a.natAbs*b.natAbs))) O O isAgg59 sizeOf59 O) (λw hw=>⟨by rw [T7],hw.out⟩)))
theorem He (a b:Int) (ha:nw a.natAbs<=1099511627776) (hb:nw b.natAbs<=1099511627776) (w:World)  :Calls prog 96 #[(Value.func (.func 97) #[] #[]),(aG (A9 a)),(aG (A9 b))] w (Ak w (aG (A9 (a+b)))):=by
 refine Ab (args:=[(Value.func (.func 97) #[] #[]),(aG (A9 a)),(aG (A9 b))]) func96 O O (Ad O) (AF.subF (sL [0,1,2] O) (q4 (Bk (cs:=A9 a) O λb1=>Bk (cs:=A9 b) O λb2=>al Ij O λb3=>?_)))
 refine q3 (sL [0,4,5,6] O) (AP O (BE 2 Ct O (BE 1 Ct O (BS call97 (UO a b (by first|omega|(simp only [Int.natAbs_neg,Ay,Int.natAbs_natCast];omega)) (by first|omega|(simp only [Int.natAbs_neg,Ay,Int.natAbs_natCast];omega))) O (Aq O sizeOf59 O ?_)))))
 exact AE.nil (AD.subF (sL [6] O) (AD.then_ (AF.ret (AN O (A7 (i:=0) (cs:=A9 (a+b)) O O isAgg59 sizeOf59 O) (λw hw=>⟨rfl,hw.out⟩)))))
theorem KQ (a b:Int) (ha:nw a.natAbs<=1099511627776) (hb:nw b.natAbs<=1099511627776) (w:World)  :Calls prog 96 #[(Value.func (.func 105) #[] #[]),(aG (A9 a)),(aG (A9 b))] w (Ak w (aG (A9 (a*b)))):=by
 refine Ab (args:=[(Value.func (.func 105) #[] #[]),(aG (A9 a)),(aG (A9 b))]) func96 O O (Ad O) (AF.subF (sL [0,1,2] O) (q4 (Bk (cs:=A9 a) O λb1=>Bk (cs:=A9 b) O λb2=>al Ij O λb3=>?_)))
 refine q3 (sL [0,4,5,6] O) (AP O (BE 2 Ct O (BE 1 Ct O (BS call105 (SE a b (by first|omega|(simp only [Int.natAbs_neg,Ay,Int.natAbs_natCast];omega)) (by first|omega|(simp only [Int.natAbs_neg,Ay,Int.natAbs_natCast];omega))) O (Aq O sizeOf59 O ?_)))))
 exact AE.nil (AD.subF (sL [6] O) (AD.then_ (AF.ret (AN O (A7 (i:=0) (cs:=A9 (a*b)) O O isAgg59 sizeOf59 O) (λw hw=>⟨rfl,hw.out⟩)))))
theorem MP (a b:Int) (ha:nw a.natAbs<=1099511627776) (hb:nw b.natAbs<=1099511627776) (w:World)  :Calls prog 52 #[(aG (A9 a)),(aG (A9 b))] w (Ak w (aG (A9 (a+b)))):=by
 refine Ab (args:=[(aG (A9 a)),(aG (A9 b))]) func52 O O (Ad O) (AF.subF (sL [0,1] O) (q4 (Bk (cs:=A9 a) O λb1=>Bk (cs:=A9 b) O λb2=>al Ij O λb3=>?_)))
 refine q3 (sL [2,3,4] O) (BE 2 Ct O (BE 1 Ct O (BS call96 (He a b (by first|omega|(simp only [Int.natAbs_neg,Ay,Int.natAbs_natCast];omega)) (by first|omega|(simp only [Int.natAbs_neg,Ay,Int.natAbs_natCast];omega))) O (Aq O sizeOf59 O (AE.nil ?_)))))
 exact AD.subF (sL [4] O) (AD.then_ (AF.ret (AN O (A7 (i:=0) (cs:=A9 (a+b)) O O isAgg59 sizeOf59 O) (λw hw=>⟨rfl,hw.out⟩))))
theorem T9 (a b:Int) (ha:nw a.natAbs<=1099511627776) (hb:nw b.natAbs<=1099511627776) (w:World)  :Calls prog 234 #[(aG (A9 a)),(aG (A9 b))] w (Ak w (aG (A9 (a-b)))):=by
 refine Ab (args:=[(aG (A9 a)),(aG (A9 b))]) func234 O O (Ad O) (AF.subF (sL [0,1] O) (q4 (Bk (cs:=A9 a) O λb1=>Bk (cs:=A9 b) O λb2=>al Ij O λb3=>?_)))
 refine q6 (sL [2,3,4] O) (DA [(0,true),(1,true),(2,false),(3,false),(4,false)] (sl sr) (E7 1 Ct O (E7 0 Ct O (AS.imp O (BS call146 (PU b) O ?_)))))
 refine AS.back (sl sr) (AS.imp O (BS call96 (He a (-b) (by first|omega|(simp only [Int.natAbs_neg,Ay,Int.natAbs_natCast];omega)) (by first|omega|(simp only [Int.natAbs_neg,Ay,Int.natAbs_natCast];omega))) O (AS.back (sl sr) (AS.imp O (Aq O sizeOf59 O ?_)))))
 exact AS.back (sl sr) (AS.nil (AD.subF (sL [4] O) (AD.then_ (AF.ret (AN O (A7 (i:=0) (cs:=A9 (a+(-b))) O O isAgg59 sizeOf59 O) (λw hw=>⟨by rw [Int.sub_eq_add_neg],hw.out⟩))))))
theorem GW (a b:Int) (ha:nw a.natAbs<=1099511627776) (hb:nw b.natAbs<=1099511627776) (w:World)  :Calls prog 55 #[(aG (A9 a)),(aG (A9 b))] w (Ak w (aG (A9 (a*b)))):=by
 refine Ab (args:=[(aG (A9 a)),(aG (A9 b))]) func55 O O (Ad O) (AF.subF (sL [0,1] O) (q4 (Bk (cs:=A9 a) O λb1=>Bk (cs:=A9 b) O λb2=>al Ij O λb3=>?_)))
 refine q3 (sL [2,3,4] O) (BE 2 Ct O (BE 1 Ct O (BS call96 (KQ a b (by first|omega|(simp only [Int.natAbs_neg,Ay,Int.natAbs_natCast];omega)) (by first|omega|(simp only [Int.natAbs_neg,Ay,Int.natAbs_natCast];omega))) O (Aq O sizeOf59 O (AE.nil ?_)))))
 exact AD.subF (sL [4] O) (AD.then_ (AF.ret (AN O (A7 (i:=0) (cs:=A9 (a*b)) O O isAgg59 sizeOf59 O) (λw hw=>⟨rfl,hw.out⟩))))
theorem O0 (a b:Int) (ha:nw a.natAbs<=1099511627776) (hb:nw b.natAbs<=1099511627776) (w:World)  :Calls prog 204 #[(aG (A9 a)),(aG (A9 b))] w (Ak w (vI ((a-b).sign))):=by
 refine Ab (args:=[(aG (A9 a)),(aG (A9 b))]) func204 O O (Ad O) (AF.subF (sL [0,1] O) (q4 (Bk (cs:=A9 a) O λb1=>Bk (cs:=A9 b) O λb2=>AJ O ?_)))
 refine q3 (sL [2,3,4] O) (BE 1 Ct O (BE 0 Ct O (BS call234 (T9 a b (by first|omega|(simp only [Int.natAbs_neg,Ay,Int.natAbs_natCast];omega)) (by first|omega|(simp only [Int.natAbs_neg,Ay,Int.natAbs_natCast];omega))) O (BS call59 (KM (a-b)) O (AJ O ?_)))))
 exact AE.nil (AD.subF (sL [4] O) (AD.then_ (AF.ret (AN O (Ac (v:=(vI ((a-b).sign))) O) (λw hw=>⟨rfl,hw.out⟩)))))
end
end Go.Proofs.YtfbomiejpbchdaaGreatDoor
