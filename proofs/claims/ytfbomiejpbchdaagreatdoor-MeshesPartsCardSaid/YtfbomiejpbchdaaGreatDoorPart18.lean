import Derived.Test.YtfbomiejpbchdaaGreatDoorPart06
import Derived.Test.YtfbomiejpbchdaaGreatDoorPart16
import Derived.Test.YtfbomiejpbchdaaGreatDoorPart17
namespace Go.Proofs.YtfbomiejpbchdaaGreatDoor
open Go Go.RowKit Go.Proofs.Tryz
set_option linter.unusedVariables false
set_option linter.unusedSimpArgs false
section
set_option maxRecDepth 100000
theorem Ei {N v:Nat} (h:v<4294967296^N):val ((CN N v).take N)=v:=by
 rw [List.take_of_length_le (by rw [Bb];exact Nat.le_refl _),EK _ _ h]
theorem OG {a b:Nat} (hb:0<nw b) (h:nw b<=nw a):a/b<4294967296^(nw a+1-nw b):=by
 have h1:=Gj hb
 have h2:=Bt a
 rw [Nat.div_lt_iff_lt_mul (by have:=Nat.pow_pos (n:=nw b-1) (show 0<4294967296 by omega);omega)]
 have h3:4294967296^(nw a+1-nw b)*4294967296^(nw b-1)<=4294967296^(nw a+1-nw b)*b:=Nat.mul_le_mul_left _ h1
 rw [<-Nat.pow_add,show nw a+1-nw b+(nw b-1)=nw a by omega] at h3
 omega
theorem Oc {a b:Nat}:a%b<4294967296^(nw a+1):=Nat.lt_of_le_of_lt (Nat.mod_le _ _) (Nat.lt_of_lt_of_le (Bt a) (Nat.pow_le_pow_right Z Z))
theorem L_ {b:Nat} (h:nw b=0):b=0:=by
 have:=Bt b
 rw [h] at this
 omega
theorem R8 {b:Nat} (h:nw b=1):(Aw b).getD 0 0=b/\b<4294967296:=by
 have h1:=Bt b
 rw [h] at h1
 refine ⟨?_,Z⟩
 rw [C4 Z,GF,Nat.pow_zero,Nat.div_one,Nat.mod_eq_of_lt Z]
theorem JK  :Instr.fill ([(0,1),(1,1)].toArray[·]?) (AT 0).toArray []=some (AT 0).toArray:=by kernel_rfl
theorem Mi (a b:Nat) (ha:nw a<=1099511627776) (hb:nw b<=1099511627776) (hb0:b≠0) (w:World)  :Calls prog 100 #[(aG (AT a)),(aG (AT b))] w (Al w (Value.tuple #[(aG (AT (a/b))),(aG (AT (a%b))),(Value.bool true)])):=by
 have hnb:nw b≠0:=λh=>hb0 (L_ h)
 have hla:=B_ a
 have hlb:=B_ b
 refine Ac (args:=[(aG (AT a)),(aG (AT b))]) func100 O O (Ad O) (AF.subF (sL [0,1] O) (q4 (Bi (cs:=AT a) O λb1=>Bi (cs:=AT b) O λb2=>al FA O λb3=>?_)))
 refine al FA O λb4=>AK O (q6 (sL [2,3,4,5,6] O) (AF.block (q4 (BA 2 Br O ?_))))
 refine BS call138 (Nk b) O (AK O (AE.nil (AC.subF (sL [2,3,4,5,6,12] O) (AC.then_ ?_))))
 refine AF.cond O (λhc0=>?_) (λhc0=>?_)
 ·replace hc0:=of_decide_eq_true hc0
  exact absurd hc0 hb0
 ·replace hc0:=of_decide_eq_false hc0
  refine q4 (BA 3 Br O (BA 2 Br O (BS call139 (Qq a b Z Z) O (AH (Af (c:=(decide ((Ep a b)<(0:Int)))) O O O) O (AK O ?_)))))
  refine AE.nil (AC.subF (sL [2,3,4,5,6,17] O) (AC.then_ ?_))
  refine AF.cond O (λhc1=>?_) (λhc1=>?_)
  ·replace hc1:=of_decide_eq_true hc1
   rw [H_] at hc1
   have e1:a/b=0:=Nat.div_eq_of_lt hc1
   have e2:a%b=a:=Nat.mod_eq_of_lt hc1
   refine AF.seq (C2 [(0,true),(1,true),(2,false),(3,false),(4,true)] (sl (sl sr)) (Ay (v:=(aG (AT 0))) O (AV (zs:=AT 0) (vs:=AT 0) (pv:=[]) (places:=[(0,1),(1,1)]) zeroValue55 underlying55 (λw=>by simp [sizeOf9,sizeOf53]) O (JK )) (EH 1 Br O (AS.imp O (Ci O sizeOf55 O ?_)))))
   refine AS.back (sl (sl sr)) (AS.imp O (Av O sizeOf55 O (AS.back (sl (sl sr)) (EW O (AS.nil ?_)))))
   exact AC.subF (sL [2,3,4,5,6] O) (AC.then_ (AF.ret (AC.in_ret (AC.then_ret (Ev O (A7 (i:=1) (cs:=AT 0) O O isAgg55 sizeOf55 O) (A7 (i:=0) (cs:=AT a) O O isAgg55 sizeOf55 O) (Ab (v:=(Value.bool true)) O) (λw hw=>⟨by rw [e1,e2],hw.out⟩))))))
  ·replace hc1:=of_decide_eq_false hc1
   rw [H_] at hc1
   have hba:nw b<=nw a:=DA Z
   refine q4 (AH (v:=(pP b1 1)) (AA O underlying55 O sizeOf9 O) O (BJ 3 (Value.string (Be a)) PJ O (AH (Bf (c:=(decide (a<18446744073709551616))) O O CL) O (AK O (AE.nil ?_)))))
   refine AC.subF (sL [2,3,4,5,6,24] O) (AC.then_ ?_)
   refine AF.cond O (λhc2=>?_) (λhc2=>?_)
   ·replace hc2:=of_decide_eq_true hc2
    have la:Bs a=a:=Bc hc2
    have lb:Bs b=b:=Bc Z
    have q1:a/b<18446744073709551616:=Nat.lt_of_le_of_lt (Nat.div_le_self _ _) hc2
    have q2:a%b<18446744073709551616:=Nat.lt_of_le_of_lt (Nat.mod_le _ _) hc2
    refine AF.seq (C2 [(0,true),(1,true),(2,true),(3,true),(4,true),(5,true),(6,true),(7,true),(8,true),(9,true),(10,true),(11,true),(12,false),(13,false),(14,true)] (sl (sl sr)) (Ay (v:=(pP b1 0)) O (AA O underlying55 O sizeOf53 O) (Bl 1 (vK .u64 (Bs a)) FX O (Ay (v:=(pP b2 0)) O (AA O underlying55 O sizeOf53 O) (Bl 0 (vK .u64 (Bs b)) FX O ?_)))))
    refine Ay O (Fq (c:=(((Bs a)/(Bs b):Nat):Int)) O O Z (IV (a:=Bs a) (b:=Bs b) Z)) (Ay (v:=(aG ([(vK .u64 ((Bs a)/(Bs b))),(Value.string (Be 0))]))) O (AV (zs:=AT 0) (vs:=[(vK .u64 ((Bs a)/(Bs b))),(Value.string (Be 0))]) (pv:=[(0,(vK .u64 ((Bs a)/(Bs b))))]) (places:=[(0,1),(1,1)]) zeroValue55 underlying55 (λw=>by simp [sizeOf9,sizeOf53]) O O) (Ay (v:=(pP b1 0)) O (AA O underlying55 O sizeOf53 O) (Bl 1 (vK .u64 (Bs a)) FX O (Ay (v:=(pP b2 0)) O (AA O underlying55 O sizeOf53 O) (Bl 0 (vK .u64 (Bs b)) FX O ?_)))))
    refine Ay O (Bz (c:=(((Bs a)%(Bs b):Nat):Int)) O O Z (HF (a:=Bs a) (b:=Bs b))) (Ay (v:=(aG ([(vK .u64 ((Bs a)%(Bs b))),(Value.string (Be 0))]))) O (AV (zs:=AT 0) (vs:=[(vK .u64 ((Bs a)%(Bs b))),(Value.string (Be 0))]) (pv:=[(0,(vK .u64 ((Bs a)%(Bs b))))]) (places:=[(0,1),(1,1)]) zeroValue55 underlying55 (λw=>by simp [sizeOf9,sizeOf53]) O O) (AS.imp O (Ci O sizeOf55 O (AS.back (sl (sl sr)) (AS.imp O ?_)))))
    refine Av O sizeOf55 O (AS.back (sl (sl sr)) (EW O (AS.nil (AC.subF (sL [2,3,4,5,6] O) (AC.then_ ?_)))))
    exact AF.ret (AC.in_ret (AC.then_ret (Ev O (A7 (i:=1) (cs:=[(vK .u64 ((Bs a)/(Bs b))),(Value.string (Be 0))]) O O isAgg55 sizeOf55 O) (A7 (i:=0) (cs:=[(vK .u64 ((Bs a)%(Bs b))),(Value.string (Be 0))]) O O isAgg55 sizeOf55 O) (Ab (v:=(Value.bool true)) O) (λw hw=>⟨by rw [DD q1,DD q2,la,lb];rfl,hw.out⟩))))
   ·replace hc2:=of_decide_eq_false hc2
    refine AF.skip (AC.in_normal (q2 (BA 2 Br O (AE.callB (V:=λb5=>(Value.slice (some ⟨b5,0,none⟩) (nw b) ((Aw b).length))) (T:=83) (cs:=Aj (Aw b)) (AP O) (Ao (args:=[(aG (AT b))]) O O call108) (λw hw=>Cw b Z w) O (Ad O) λb5=>AK O ?_))))
    refine q6 (sL [2,3,4,5,6,7] O) (q4 (AO O (AH (v:=(vN (nw b))) (AG O underlying187) O (AH (BQ (c:=(decide ((nw b)=1))) O O (L9 (a:=nw b) (b:=1))) O (AE.nil ?_)))))
    refine AC.subF (sL [2,3,4,5,6,7,44] O) (AC.then_ ?_)
    refine AF.cond O (λhc3=>?_) (λhc3=>?_)
    ·replace hc3:=of_decide_eq_true hc3
     obtain ⟨hy,hy2⟩:=R8 hc3
     refine AF.seq (C2 [(0,true),(2,true),(3,true),(4,true),(1,false),(5,false),(6,true),(7,true),(8,true),(9,true),(10,true)] sr (EH 4 Br O (Bm O (Ay (v:=(pP b5 0)) O (AI (j:=0) O O underlying187 sizeOf83 O Z O) ?_))))
     have hx1:(Aw b).getD 0 0<4294967296:=W32.getD (CE b) 0
     refine Ay O (AM (i:=0) (v:=(vK .u32 ((Aw b).getD 0 0))) O O isAgg83 (BG (xs:=Aw b) (j:=0) Z)) (AS.imp O (AE.callB (V:=λb6=>(Value.slice (some ⟨b6,0,none⟩) (nw a) ((Aw a).length))) (T:=83) (cs:=Aj (Aw a)) (AP O) (Ao (args:=[(aG (AT a))]) O O call108) (λw hw=>Cw a Z w) O (Ad O) λb6=>AS.back (sl sr) (AS.imp O (AE.callB (V:=λb7=>(Value.tuple #[(Value.slice (some ⟨b7,0,none⟩) (nw a) (nw a)),(vK .u32 (a%((Aw b).getD 0 0)))])) (T:=83) (cs:=Aj (CN (nw a) (a/((Aw b).getD 0 0)))) (AP O) (Ao (args:=[(Value.slice (some ⟨b6,0,none⟩) (nw a) ((Aw a).length)),(vK .u32 ((Aw b).getD 0 0))]) O O call140) (λw hw=>PW a ((Aw b).getD 0 0) _ _ Z Z Z w (hw.get (i:=0) O)) O (Ad O) λb7=>?_))))
     refine AS.back (sl (sl sr)) (Bm O (Ay O (AX (v:=(Value.slice (some ⟨b7,0,none⟩) (nw a) (nw a))) O O) (Ay O (AX (v:=(vK .u32 (a%((Aw b).getD 0 0)))) O O) (EW O (EW O ?_)))))
     refine AS.nil (AC.subF (sL [2,3,4,5,6,7,8,9] O) (q2 (AO O (D1 call107 (λw hw=>Hd _ (nw a) (nw a) (CN (nw a) (a/((Aw b).getD 0 0))) (DP _ _) (by first|omega|(rw [Bb];omega)|simp|(simp;omega)) (by first|omega|simp|(simp;omega)) (by first|omega|simp|(simp;omega)) w (hw.get (i:=0) O)) O (AE.retell (k:=55) (u:=(aG (AT (a/b)))) O (by rw [hy,Ei (Nat.lt_of_le_of_lt (Nat.div_le_self _ _) (Bt a))]) ?_)))))
     refine AO O ?_
     have hmb:a%(Aw b).getD 0 0<4294967296:=by rw [hy];exact Nat.lt_of_lt_of_le (Nat.mod_lt _ Z) Z
     refine AH (Au (c:=((a%((Aw b).getD 0 0):Nat):Int)) O underlying83 underlying53 (BT Z)) O (AH (v:=(aG ([(vK .u64 (a%((Aw b).getD 0 0))),(Value.string (Be 0))]))) (AV (zs:=AT 0) (vs:=[(vK .u64 (a%((Aw b).getD 0 0))),(Value.string (Be 0))]) (pv:=[(0,(vK .u64 (a%((Aw b).getD 0 0))))]) (places:=[(0,1),(1,1)]) zeroValue55 underlying55 (λw=>by simp [sizeOf9,sizeOf53]) O O) O (AE.retell (k:=58) (u:=(aG (AT (a%b)))) O (by rw [hy] at hmb ⊢;rw [DD Z];rfl) (Fc 4 (off:=0) (vs:=AT (a/b)) (cs':=AT (a/b)) (AP O) O sizeOf55 O (I_ O sizeOf55 O (AK O ?_)))))
     exact AE.nil (AC.subF (sL [2,3,4,5,6,7] O) (AC.then_ (AF.ret (AC.then_ret (Ev O (A7 (i:=4) (cs:=AT (a/b)) O O isAgg55 sizeOf55 O) (A7 (i:=3) (cs:=AT (a%b)) O O isAgg55 sizeOf55 O) (Ab (v:=(Value.bool true)) O) (λw hw=>⟨rfl,hw.out⟩))))))
    ·replace hc3:=of_decide_eq_false hc3
     refine AF.skip (q2 (BA 4 Br O (AE.callB (V:=λb6=>(Value.slice (some ⟨b6,0,none⟩) (nw a) ((Aw a).length))) (T:=83) (cs:=Aj (Aw a)) (AP O) (Ao (args:=[(aG (AT a))]) O O call108) (λw hw=>Cw a Z w) O (Ad O) λb6=>AO O (AE.callBB (V:=λb7 b8=>(Value.tuple #[(Value.slice (some ⟨b7,0,none⟩) (nw a+1-nw b) (nw a+1-nw b)),(Value.slice (some ⟨b8,0,none⟩) (nw a+1) (nw a+1))])) (T:=83) (cs:=Aj (CN (nw a+1-nw b) (a/b))) (T2:=83) (cs2:=Aj (CN (nw a+1) (a%b))) (AP O) (Ao (args:=[(Value.slice (some ⟨b6,0,none⟩) (nw a) ((Aw a).length)),(Value.slice (some ⟨b5,0,none⟩) (nw b) ((Aw b).length))]) O O call141) (λw hw=>S3 a b _ _ _ _ Z Z Z w (hw.get (i:=0) O) (hw.get (i:=1) O)) O (Ad O) λb7 b8=>?_))))
     refine AO O (AH (AX (v:=(Value.slice (some ⟨b7,0,none⟩) (nw a+1-nw b) (nw a+1-nw b))) O O) O (AH (AX (v:=(Value.slice (some ⟨b8,0,none⟩) (nw a+1) (nw a+1))) O O) O (AK O (AK O (q3 (sL [2,3,4,5,6,7,10,11] O) ?_)))))
     refine AO O (D1 call107 (λw hw=>Hd _ (nw a+1-nw b) (nw a+1-nw b) (CN (nw a+1-nw b) (a/b)) (DP _ _) (by first|omega|(rw [Bb];omega)|simp|(simp;omega)) (by first|omega|simp|(simp;omega)) (by first|omega|simp|(simp;omega)) w (hw.get (i:=0) O)) O (AE.retell (k:=67) (u:=(aG (AT (a/b)))) O (by rw [Ei (OG Z hba)]) (AO O (D1 call107 (λw hw=>Hd _ (nw a+1) (nw a+1) (CN (nw a+1) (a%b)) (DP _ _) (by first|omega|(rw [Bb];omega)|simp|(simp;omega)) (by first|omega|simp|(simp;omega)) (by first|omega|simp|(simp;omega)) w (hw.get (i:=1) O)) O (AE.retell (k:=69) (u:=(aG (AT (a%b)))) O (by rw [Ei Oc]) ?_)))))
     refine Fc 5 (off:=0) (vs:=AT (a/b)) (cs':=AT (a/b)) (AP O) O sizeOf55 O (Fc 4 (off:=0) (vs:=AT (a%b)) (cs':=AT (a%b)) (AP O) O sizeOf55 O (AK O (AE.nil (AC.subF (sL [2,3,4,5,6,7] O) (AC.then_ ?_)))))
     exact AF.ret (Ev O (A7 (i:=5) (cs:=AT (a/b)) O O isAgg55 sizeOf55 O) (A7 (i:=4) (cs:=AT (a%b)) O O isAgg55 sizeOf55 O) (Ab (v:=(Value.bool true)) O) (λw hw=>⟨rfl,hw.out⟩))
theorem TT (a b:Nat) (ha:nw a<=1099511627776) (hb:nw b<=1099511627776) (w:World)  :Calls prog 98 #[(aG (AT a)),(aG (AT b))] w (Al w (aG (AT (Nat.gcd a b)))):=by
 refine Ac (args:=[(aG (AT a)),(aG (AT b))]) func98 O O (Ad O) (AF.subF (sL [0,1] O) (q4 (Bi (cs:=AT a) O λb1=>Bi (cs:=AT b) O λb2=>al FA O λb3=>?_)))
 refine q6 (sL [2,3,4] O) (AF.block ?_)
 refine AF.lp2 (tg λ(x:Nat) (y:Nat)=>Nat.gcd x y=Nat.gcd a b/\nw x<=1099511627776/\nw y<=1099511627776) (tg λ(x:Nat) (y:Nat)=>[(2,(pP b1 0)),(3,(pP b2 0)),(4,(pP b3 0))]) (tg λ(x:Nat) (y:Nat)=>[Ae b3 55 (AT 0),Ae b2 55 (AT y),Ae b1 55 (AT x)]) (tg λ(x:Nat) (y:Nat)=>y) a b (⟨rfl,ha,hb⟩) (sF O) sr (λx y hJ=>?_)
 obtain ⟨hg,hx,hy⟩:=hJ
 refine AF.seq (q4 (BA 1 Br O (BS call138 (Nk y) O (AH (BV (c:=(!(decide (y=0)))) O O) O (AE.nil ?_)))))
 refine AC.subF (sL [2,3,4,10] O) (AC.then_ ?_)
 refine AF.cond O (λhc0=>?_) (λhc0=>?_)
 ·simp only [Bool.and_eq_true,Bool.or_eq_true,Bool.and_eq_false_iff,Bool.or_eq_false_iff,Bool.not_eq_true',Bool.not_eq_false',decide_eq_true_eq,decide_eq_false_iff_not] at hc0
  refine AF.skip (AC.then_ (AF.block (q4 (BA 2 Br O (BA 1 Br O ?_)))))
  refine BS call100 (Mi x y Z Z Z) O (AO O (AH (AX (v:=(aG (AT (x/y)))) O O) O (AH (AX (v:=(aG (AT (x%y)))) O O) O (AH (AX (v:=(Value.bool true)) O O) O (al FA O λb4=>?_)))))
  refine al FA O λb5=>Ci O sizeOf55 O (Av O sizeOf55 O (AK O (AE.nil (AC.subF (sL [2,3,4,6] O) ?_))))
  refine AC.then_ (C2 [(1,true),(0,false),(2,false),(3,false)] (sk (sk (sk (sl (sl sr))))) (EH 0 Br O (AS.imp O (BA 3 Br O (AS.back (sk (sk (sk (sl (sl sr))))) ?_)))))
  refine AS.imp O (Fc 4 (off:=0) (vs:=AT y) (cs':=AT y) (AP O) O sizeOf55 O (AS.back (sk (sk (sk (sl (sl sr))))) (AS.imp O (I_ O sizeOf55 O (AS.back (sk (sk (sk (sl (sl sr))))) ?_)))))
  exact AS.nil (AC.subF (sL [2,3,4,6] O) (AC.in_normal (AC.round2 y (x%y) (⟨by rw [<-hg,Nat.gcd_comm x y,Nat.gcd_rec y x,Nat.gcd_comm],hy,Nat.le_trans (DA (Nat.mod_le _ _)) hx⟩) (Nat.mod_lt _ Z) (sF O) (sl (sl sr)))))
 ·simp only [Bool.and_eq_true,Bool.or_eq_true,Bool.and_eq_false_iff,Bool.or_eq_false_iff,Bool.not_eq_true',Bool.not_eq_false',decide_eq_true_eq,decide_eq_false_iff_not] at hc0
  have hy0:y=0:=by omega
  have hxg:x=Nat.gcd a b:=by rw [<-hg,hy0,Nat.gcd_zero_right]
  refine AF.exit (AC.then_exit (AC.round2_exit (AC.in_exit (q2 (BA 2 Br O ?_)))))
  exact Av O sizeOf55 O (AE.nil (AC.subF (sL [2,3,4] O) (AC.then_ (AF.ret (AN O (A7 (i:=0) (cs:=AT x) O O isAgg55 sizeOf55 O) (λw hw=>⟨by rw [hxg],hw.out⟩))))))
end
def EE (neg:Bool) (n:Nat):Int:=if neg then -(n:Int) else (n:Int)
theorem Rb (n:Nat):A8 (EE true n)=AT n++[.bool (!(decide (n=0)))]:=by
  simp only [A8,AT,EE,if_true,Int.natAbs_neg,Int.natAbs_natCast,List.cons_append,List.nil_append]
  have e:decide (-(n:Int)<0)=!(decide (n=0)):=by
    by_cases h:n=0
    · subst h;rfl
    · simp [h];omega
  rw [e]
theorem QQ (n:Nat):A8 (EE false n)=AT n++[.bool false]:=by
  simp only [A8,AT,EE,Int.natAbs_natCast,List.cons_append,List.nil_append]
  have e:decide ((n:Int)<0)=false:=by simp
  simp [e]
theorem L0 (D a b:Nat):E5 prog (D+3) 57 (.agg (AT a).toArray) (.agg (AT b).toArray) (decide (a=b)):=by
  have h:=E5.struct (D:=D+2) (xs:=AT a) (ys:=AT b) underlying57 Tryz.stoodInHeld57 (G6.agg (us:=AT a) (bs:=AT b) (by decide) isAgg55 sizeOf55 rfl rfl (Fv D a b) G6.nil)
  simpa using h
theorem Az (neg:Bool) (n:Nat):(EE neg n).natAbs=n:=by cases neg<;>simp [EE]
theorem TL (a:Int):EE (!(decide (a<0))) a.natAbs = -a:=by
  unfold EE
  by_cases h:a<0
  · simp [h];omega
  · simp [h];omega
theorem SC (a b:Int):EE (!(decide (a<0) == decide (b<0))) (a.natAbs*b.natAbs)=a*b:=by
  rw [<-Int.natAbs_mul]
  unfold EE
  by_cases h:a<0<;>by_cases h':b<0
  · have:=Int.mul_pos_of_neg_of_neg h h';simp [h,h'];omega
  · have:a*b<=0:=Int.mul_nonpos_of_nonpos_of_nonneg Z Z
    simp [h,h'];omega
  · have:a*b<=0:=Int.mul_nonpos_of_nonneg_of_nonpos Z Z
    simp [h,h'];omega
  · have:0<=a*b:=Int.mul_nonneg Z Z
    simp [h,h'];omega
theorem KJ {a b:Int} (h:(decide (a<0) == decide (b<0))=true):EE (decide (a<0)) (a.natAbs+b.natAbs)=a+b:=by
  unfold EE
  by_cases h1:a<0<;>by_cases h2:b<0<;>simp [h1,h2] at h ⊢<;>omega
theorem NG {a b:Int} (h:(decide (a<0) == decide (b<0))=false) (h3:b.natAbs<=a.natAbs):EE (decide (a<0)) (a.natAbs-b.natAbs)=a+b:=by
  unfold EE
  by_cases h1:a<0<;>by_cases h2:b<0<;>simp [h1,h2] at h ⊢<;>omega
theorem MJ {a b:Int} (h:(decide (a<0) == decide (b<0))=false) (h3:¬b.natAbs<=a.natAbs):EE (decide (b<0)) (b.natAbs-a.natAbs)=a+b:=by
  unfold EE
  by_cases h1:a<0<;>by_cases h2:b<0<;>simp [h1,h2] at h ⊢<;>omega
theorem Va {z:Int} (h:z<0) (h2:-9223372036854775808<=z):IntKind.u64.wrap (-(IntKind.u64.wrap z))=((z.natAbs:Nat):Int):=by
  simp only [IntKind.wrap,IntKind.bits,IntKind.signed];simp;omega
theorem IZ {z:Int} (h:z<0):EE true z.natAbs=z:=by unfold EE;simp;omega
theorem N5 {z:Int} (h:¬z<0):EE false z.natAbs=z:=by unfold EE;simp;omega
section
set_option maxRecDepth 100000
theorem JN  :Instr.fill ([(0,2)].toArray[·]?) (AT 0).toArray []=some (AT 0).toArray:=by kernel_rfl
theorem Gs (n:Nat) (w:World)  :Calls prog 110 #[(aG (AT n))] w (Al w (Value.bool (decide (n=0)))):=by
 refine Ac (args:=[(aG (AT n))]) func110 O O (Ad O) (AF.subF (sL [0] O) (q4 (Bi (cs:=AT n) O λb1=>AK O (q3 (sL [1,2] O) ?_))))
 refine BA 0 Ol O (AH (v:=(aG (AT 0))) (AV (zs:=AT 0) (vs:=AT 0) (pv:=[]) (places:=[(0,2)]) zeroValue57 underlying57 (λw=>by simp [sizeOf55]) O (JN )) O (AH (Bq (c:=(decide (n=0))) O O eqGuardType57 (L0 9997 n 0)) O (AK O (AE.nil (AC.subF (sL [2] O) ?_)))))
 exact AC.then_ (AF.ret (AN O (Ab (v:=(Value.bool (decide (n=0)))) O) (λw hw=>⟨rfl,hw.out⟩)))
theorem EN (x0:Nat):Instr.fill ([(0,2)].toArray[·]?) (AT 0).toArray [(0,.agg (AT x0).toArray)]=some (AT x0).toArray:=by kernel_rfl
theorem OP (n:Nat) (w:World)  :Calls prog 103 #[(Value.bool true),(aG (AT n))] w (Al w (aG (A8 (EE true n)))):=by
 refine Ac (args:=[(Value.bool true),(aG (AT n))]) func103 O O (Ad O) (AF.subF (sL [0,1] O) (q4 (Bi (cs:=AT n) O λb1=>al Hw O λb2=>q3 (sL [0,3,4] O) ?_)))
 refine BA 1 Br O (AH (v:=(aG (AT n))) (AV (zs:=AT 0) (vs:=AT n) (pv:=[(0,(aG (AT n)))]) (places:=[(0,2)]) zeroValue57 underlying57 (λw=>by simp [sizeOf55]) O (EN n)) O (al Uj O λb3=>Av O sizeOf57 O (q6 (sL [0,4,5] O) (C2 [(0,true),(1,true),(2,true),(3,true),(4,false),(5,true),(6,true),(7,true),(8,false)] (sk (sl sr)) ?_))))
 refine EH 0 Ol O (Bm O (Bm O (AS.pas (v:=(aG (AT n))) O (AB O) (Ak (i:=0) (vs:=AT n) O O Ol.a Ol.s O O) O O (AS.imp O (AE.call (v:=(Value.bool (decide (n=0)))) (AB O) (Ao (args:=[(aG (AT n))]) O O call110) (λw hw=>Gs n w) O (Ad O) ?_)))))
 refine AS.back (sk (sl sr)) (AS.pas (v:=(Value.bool (!(decide (n=0))))) O (AB O) (BV (c:=(!(decide (n=0)))) O O) O O (Ay (v:=(Value.bool (!(decide (n=0))))) O (Ai O O) (Ay (v:=(aG (AT n++[(Value.bool (!(decide (n=0))))]))) O (AV (zs:=A8 0) (vs:=AT n++[(Value.bool (!(decide (n=0))))]) (pv:=[(0,(aG (AT n))),(1,(Value.bool (!(decide (n=0)))))]) (places:=[(0,2),(2,1)]) zeroValue59 underlying59 (λw=>by simp [sizeOf4,sizeOf57]) O O) (AS.imp O (Ci O sizeOf59 O ?_)))))
 exact AS.back (sk (sl sr)) (AS.nil (AC.subF (sL [4,5] O) (AC.then_ (AF.ret (AN O (A7 (i:=1) (cs:=AT n++[(Value.bool (!(decide (n=0))))]) O O isAgg59 sizeOf59 O) (λw hw=>⟨by rw [Rb],hw.out⟩))))))
theorem Mo (n:Nat) (w:World)  :Calls prog 103 #[(Value.bool false),(aG (AT n))] w (Al w (aG (A8 (EE false n)))):=by
 refine Ac (args:=[(Value.bool false),(aG (AT n))]) func103 O O (Ad O) (AF.subF (sL [0,1] O) (q4 (Bi (cs:=AT n) O λb1=>al Hw O λb2=>q3 (sL [0,3,4] O) ?_)))
 refine BA 1 Br O (AH (v:=(aG (AT n))) (AV (zs:=AT 0) (vs:=AT n) (pv:=[(0,(aG (AT n)))]) (places:=[(0,2)]) zeroValue57 underlying57 (λw=>by simp [sizeOf55]) O (EN n)) O (al Uj O λb3=>Av O sizeOf57 O (q6 (sL [0,4,5] O) (C2 [(0,true),(1,true),(2,true),(3,true),(4,false),(5,true),(6,true),(7,true),(8,false)] (sk (sl sr)) ?_))))
 refine EH 0 Ol O (Bm O (Bm O (AS.skp O (AQ O) O O (AS.imp O (AE.skip (AQ O) O (Ad O) ?_)))))
 refine AS.back (sk (sl sr)) (AS.skp O (AQ O) O O (Ay (v:=(Value.bool false)) O (AY O O) (Ay (v:=(aG (AT n++[(Value.bool false)]))) O (AV (zs:=A8 0) (vs:=AT n++[(Value.bool false)]) (pv:=[(0,(aG (AT n))),(1,(Value.bool false))]) (places:=[(0,2),(2,1)]) zeroValue59 underlying59 (λw=>by simp [sizeOf4,sizeOf57]) O O) (AS.imp O (Ci O sizeOf59 O ?_)))))
 exact AS.back (sk (sl sr)) (AS.nil (AC.subF (sL [4,5] O) (AC.then_ (AF.ret (AN O (A7 (i:=1) (cs:=AT n++[(Value.bool false)]) O O isAgg59 sizeOf59 O) (λw hw=>⟨by rw [QQ],hw.out⟩))))))
theorem Dj (neg:Bool) (n:Nat) (w:World):Calls prog 103 #[.bool neg,.agg (AT n).toArray] w (Al w (.agg (A8 (EE neg n)).toArray)):=by
 cases neg
 ·exact Mo n w
 ·exact OP n w
theorem Tp (z:Int) (hz:-9223372036854775808<=z) (hz2:z<9223372036854775808) (w:World)  :Calls prog 67 #[(vI z)] w (Al w (aG (A8 z))):=by
 refine Ac (args:=[(vI z)]) func67 O O (Ad O) (AF.subF (sL [0] O) (q4 (al Hw O λb1=>AE.nil (q1 ?_))))
 refine q4 (AO O (AH (Af (c:=(decide (z<(0:Int)))) O O O) O (AE.nil (AC.subF (sL [0,2,4] O) (AC.then_ ?_)))))
 refine AF.cond O (λhc0=>?_) (λhc0=>?_)
 ·replace hc0:=of_decide_eq_true hc0
  have he:=IZ hc0
  refine q4 (AO O (AH (Au (c:=(IntKind.u64.wrap z)) O underlying2 underlying53 (rfl)) O (AH (IW (c:=((z.natAbs:Nat):Int)) O (by rw [Int.zero_sub];exact Va hc0 hz)) O (BS call102 (IA z.natAbs Z) O (BS call103 (Dj true z.natAbs) O ?_)))))
  exact Av O sizeOf59 O (AE.nil (AC.subF (sL [0,2] O) (AC.then_ (AF.ret (AC.then_ret (AN O (A7 (i:=0) (cs:=A8 (EE true z.natAbs)) O O isAgg59 sizeOf59 O) (λw hw=>⟨by rw [he],hw.out⟩)))))))
 ·replace hc0:=of_decide_eq_false hc0
  have he:=N5 hc0
  refine AF.skip (q2 (AO O (AH (Au (c:=((z.natAbs:Nat):Int)) O underlying2 underlying53 (by rw [Da Z Z];omega)) O (BS call102 (IA z.natAbs Z) O (BS call103 (Dj false z.natAbs) O ?_)))))
  exact Av O sizeOf59 O (AE.nil (AC.subF (sL [0,2] O) (AC.then_ (AF.ret (AN O (A7 (i:=0) (cs:=A8 (EE false z.natAbs)) O O isAgg59 sizeOf59 O) (λw hw=>⟨by rw [he],hw.out⟩))))))
theorem KY (a:Int) (w:World)  :Calls prog 99 #[(aG (A8 a))] w (Al w (aG (AT a.natAbs))):=by
 refine Ac (args:=[(aG (A8 a))]) func99 O O (Ad O) (AF.subF (sL [0] O) (q4 (Bi (cs:=A8 a) O λb1=>al FA O λb2=>q3 (sL [1,2] O) ?_)))
 refine AH (v:=(pP b1 0)) (AA O underlying59 O sizeOf57 O) O (AH (v:=(pP b1 0)) (AA O underlying57 O sizeOf55 O) O (DU 1 (AT a.natAbs) Br O (Av O sizeOf55 O (AE.nil (AC.subF (sL [2] O) ?_)))))
 exact AC.then_ (AF.ret (AN O (A7 (i:=0) (cs:=AT a.natAbs) O O isAgg55 sizeOf55 O) (λw hw=>⟨rfl,hw.out⟩)))
theorem Ih (a:Int) (w:World)  :Calls prog 59 #[(aG (A8 a))] w (Al w (vI a.sign)):=by
 refine Ac (args:=[(aG (A8 a))]) func59 O O (Ad O) (AF.subF (sL [0] O) (q4 (Bi (cs:=A8 a) O λb1=>AK O (q6 (sL [1,2] O) ?_))))
 refine AF.block (q4 (AH (v:=(pP b1 0)) (AA O underlying59 O sizeOf57 O) O (DU 0 (AT a.natAbs) Ol O (BS call110 (Gs a.natAbs) O (AK O ?_)))))
 refine AE.nil (AC.subF (sL [1,2,3] O) (AC.then_ ?_))
 refine AF.cond O (λhc0=>?_) (λhc0=>?_)
 ·replace hc0:=of_decide_eq_true hc0
  have he:a.sign=0:=by rw [show a=0 by omega];rfl
  refine q4 (AK O (AE.nil (AC.then_ (AF.ret (AC.in_ret ?_)))))
  exact AC.then_ret (AN O (Ab (v:=(vI 0)) O) (λw hw=>⟨by rw [he],hw.out⟩))
 ·replace hc0:=of_decide_eq_false hc0
  refine q4 (AH (v:=(pP b1 2)) (AA O underlying59 O sizeOf4 O) O (BJ 0 (Value.bool (decide (a<0))) Q6 O (AK O (AE.nil (AC.subF (sL [1,2,7] O) ?_)))))
  refine AC.then_ ?_
  refine AF.cond O (λhc1=>?_) (λhc1=>?_)
  ·replace hc1:=of_decide_eq_true hc1
   have he:a.sign = -1:=Int.sign_eq_neg_one_of_neg hc1
   refine q4 (AK O (AE.nil (AC.then_ (AF.ret (AC.in_ret ?_)))))
   exact AC.then_ret (AN O (Ab (v:=(vI (-1:Int))) O) (λw hw=>⟨by rw [he],hw.out⟩))
  ·replace hc1:=of_decide_eq_false hc1
   have he:a.sign=1:=Int.sign_eq_one_of_pos Z
   refine AF.skip (AC.in_normal (q2 (AK O (AE.nil (AC.then_ ?_)))))
   exact AF.ret (AN O (Ab (v:=(vI 1)) O) (λw hw=>⟨by rw [he],hw.out⟩))
theorem Nh (a:Int) (w:World)  :Calls prog 146 #[(aG (A8 a))] w (Al w (aG (A8 (-a)))):=by
 refine Ac (args:=[(aG (A8 a))]) func146 O O (Ad O) (AF.subF (sL [0] O) (q4 (Bi (cs:=A8 a) O λb1=>al Hw O λb2=>q3 (sL [1,2] O) ?_)))
 refine AH (v:=(pP b1 2)) (AA O underlying59 O sizeOf4 O) O (BJ 1 (Value.bool (decide (a<0))) Q6 O (AH (BV (c:=(!(decide (a<0)))) O O) O (AH (v:=(pP b1 0)) (AA O underlying59 O sizeOf57 O) O (AH (v:=(pP b1 0)) (AA O underlying57 O sizeOf55 O) O (DU 1 (AT a.natAbs) Br O ?_)))))
 exact BS call103 (Dj (!(decide (a<0))) a.natAbs) O (Av O sizeOf59 O (AE.nil (AC.subF (sL [2] O) (AC.then_ (AF.ret (AN O (A7 (i:=0) (cs:=A8 (EE (!(decide (a<0))) a.natAbs)) O O isAgg59 sizeOf59 O) (λw hw=>⟨by rw [TL],hw.out⟩)))))))
theorem Rp (a b:Int) (ha:nw a.natAbs<=1099511627776) (hb:nw b.natAbs<=1099511627776) (w:World)  :Calls prog 97 #[(aG (A8 a)),(aG (A8 b))] w (Al w (aG (A8 (a+b)))):=by
 refine Ac (args:=[(aG (A8 a)),(aG (A8 b))]) func97 O O (Ad O) (AF.subF (sL [0,1] O) (q4 (Bi (cs:=A8 a) O λb1=>Bi (cs:=A8 b) O λb2=>al Hw O λb3=>?_)))
 refine q6 (sL [2,3,4] O) (q4 (AH (v:=(pP b1 2)) (AA O underlying59 O sizeOf4 O) O (BJ 2 (Value.bool (decide (a<0))) Q6 O (AH (v:=(pP b2 2)) (AA O underlying59 O sizeOf4 O) O (BJ 1 (Value.bool (decide (b<0))) Q6 O ?_)))))
 refine AH (Ho (c:=(decide (a<0) == decide (b<0))) O O underlying4 O) O (AE.nil (AC.subF (sL [2,3,4,13] O) (AC.then_ ?_)))
 refine AF.cond O (λhc0=>?_) (λhc0=>?_)
 ·skip
  have he:=KJ hc0
  refine AF.seq (C2 [(0,true),(1,true),(2,true),(3,true),(4,true),(5,true),(6,true),(7,true),(8,false),(9,false),(10,false)] (sl sr) (Ay (v:=(pP b1 2)) O (AA O underlying59 O sizeOf4 O) (Bl 1 (Value.bool (decide (a<0))) Q6 O (Ay (v:=(pP b1 0)) O (AA O underlying59 O sizeOf57 O) (Ay (v:=(pP b1 0)) O (AA O underlying57 O sizeOf55 O) ?_)))))
  refine HW 1 (AT a.natAbs) Br O (Ay (v:=(pP b2 0)) O (AA O underlying59 O sizeOf57 O) (Ay (v:=(pP b2 0)) O (AA O underlying57 O sizeOf55 O) (HW 0 (AT b.natAbs) Br O (AS.imp O (BS call104 (RY a.natAbs b.natAbs Z Z) O ?_)))))
  refine AS.back (sl sr) (AS.imp O (BS call103 (Dj (decide (a<0)) (a.natAbs+b.natAbs)) O (AS.back (sl sr) (AS.imp O (Av O sizeOf59 O ?_)))))
  exact AS.back (sl sr) (AS.nil (AC.subF (sL [2,3,4] O) (AC.then_ (AF.ret (AC.then_ret (AN O (A7 (i:=0) (cs:=A8 (EE (decide (a<0)) (a.natAbs+b.natAbs))) O O isAgg59 sizeOf59 O) (λw hw=>⟨by rw [he],hw.out⟩)))))))
 ·skip
  refine AF.skip (q1 (q4 (AH (v:=(pP b1 0)) (AA O underlying59 O sizeOf57 O) O (AH (v:=(pP b1 0)) (AA O underlying57 O sizeOf55 O) O (DU 2 (AT a.natAbs) Br O ?_)))))
  refine AH (v:=(pP b2 0)) (AA O underlying59 O sizeOf57 O) O (AH (v:=(pP b2 0)) (AA O underlying57 O sizeOf55 O) O (DU 1 (AT b.natAbs) Br O (BS call101 (NE a.natAbs b.natAbs Z Z) O (AO O (AH (AX (v:=(aG (AT (a.natAbs-b.natAbs)))) O O) O ?_)))))
  refine AH (AX (v:=(Value.bool (decide (b.natAbs<=a.natAbs)))) O O) O (al FA O λb4=>Av O sizeOf55 O (AK O (q3 (sL [2,3,4,5,6] O) (AO O ?_))))
  refine AE.nil (AC.subF (sL [2,3,4,5,34] O) (AC.then_ ?_))
  refine AF.cond O (λhc1=>?_) (λhc1=>?_)
  ·replace hc1:=of_decide_eq_true hc1
   have he:=NG hc0 hc1
   refine q4 (AH (v:=(pP b1 2)) (AA O underlying59 O sizeOf4 O) O (BJ 3 (Value.bool (decide (a<0))) Q6 O (BA 0 Br O (BS call103 (Dj (decide (a<0)) (a.natAbs-b.natAbs)) O (Ci O sizeOf59 O ?_)))))
   exact AE.nil (AC.subF (sL [2,3,4,5] O) (AC.then_ (AF.ret (AC.then_ret (AN O (A7 (i:=1) (cs:=A8 (EE (decide (a<0)) (a.natAbs-b.natAbs))) O O isAgg59 sizeOf59 O) (λw hw=>⟨by rw [he],hw.out⟩))))))
  ·replace hc1:=of_decide_eq_false hc1
   have he:=MJ hc0 hc1
   refine AF.skip (q2 (AH (v:=(pP b2 0)) (AA O underlying59 O sizeOf57 O) O (AH (v:=(pP b2 0)) (AA O underlying57 O sizeOf55 O) O (DU 2 (AT b.natAbs) Br O (AH (v:=(pP b1 0)) (AA O underlying59 O sizeOf57 O) O ?_)))))
   refine AH (v:=(pP b1 0)) (AA O underlying57 O sizeOf55 O) O (DU 3 (AT a.natAbs) Br O (BS call101 (NE b.natAbs a.natAbs Z Z) O (AO O (AH (AX (v:=(aG (AT (b.natAbs-a.natAbs)))) O O) O (AH (AX (v:=(Value.bool (decide (a.natAbs<=b.natAbs)))) O O) O ?_)))))
   refine al FA O λb5=>Av O sizeOf55 O (AK O (q3 (sL [2,3,4,5,7] O) (AH (v:=(pP b2 2)) (AA O underlying59 O sizeOf4 O) O (BJ 3 (Value.bool (decide (b<0))) Q6 O ?_))))
   refine BA 0 Br O (BS call103 (Dj (decide (b<0)) (b.natAbs-a.natAbs)) O (Lt O sizeOf59 O (AE.nil (AC.subF (sL [2,3,4,5,7] O) (AC.then_ ?_)))))
   exact AF.ret (AN O (A7 (i:=2) (cs:=A8 (EE (decide (b<0)) (b.natAbs-a.natAbs))) O O isAgg59 sizeOf59 O) (λw hw=>⟨by rw [he],hw.out⟩))
theorem RU (a b:Int) (ha:nw a.natAbs<=1099511627776) (hb:nw b.natAbs<=1099511627776) (w:World)  :Calls prog 105 #[(aG (A8 a)),(aG (A8 b))] w (Al w (aG (A8 (a*b)))):=by
 refine Ac (args:=[(aG (A8 a)),(aG (A8 b))]) func105 O O (Ad O) (AF.subF (sL [0,1] O) (q4 (Bi (cs:=A8 a) O λb1=>Bi (cs:=A8 b) O λb2=>al Hw O λb3=>?_)))
 refine q6 (sL [2,3,4] O) (C2 [(0,true),(1,true),(2,true),(3,true),(4,true),(5,true),(6,true),(7,true),(8,true),(9,true),(10,true),(11,false),(12,false),(13,false)] (sl sr) (Ay (v:=(pP b1 2)) O (AA O underlying59 O sizeOf4 O) (Bl 1 (Value.bool (decide (a<0))) Q6 O (Ay (v:=(pP b2 2)) O (AA O underlying59 O sizeOf4 O) (Bl 0 (Value.bool (decide (b<0))) Q6 O ?_)))))
 refine Ay O (LO (c:=(!(decide (a<0) == decide (b<0)))) O O underlying4 O) (Ay (v:=(pP b1 0)) O (AA O underlying59 O sizeOf57 O) (Ay (v:=(pP b1 0)) O (AA O underlying57 O sizeOf55 O) (HW 1 (AT a.natAbs) Br O (Ay (v:=(pP b2 0)) O (AA O underlying59 O sizeOf57 O) (Ay (v:=(pP b2 0)) O (AA O underlying57 O sizeOf55 O) ?_)))))
 refine HW 0 (AT b.natAbs) Br O (AS.imp O (BS call57 (M0 a.natAbs b.natAbs Z Z) O (AS.back (sl sr) (AS.imp O (BS call103 (Dj (!(decide (a<0) == decide (b<0))) (a.natAbs*b.natAbs)) O ?_)))))
 refine AS.back (sl sr) (AS.imp O (Av O sizeOf59 O (AS.back (sl sr) (AS.nil (AC.subF (sL [4] O) ?_)))))
 exact AC.then_ (AF.ret (AN O (A7 (i:=0) (cs:=A8 (EE (!(decide (a<0) == decide (b<0))) (a.natAbs*b.natAbs))) O O isAgg59 sizeOf59 O) (λw hw=>⟨by rw [SC],hw.out⟩)))
theorem Ge (a b:Int) (ha:nw a.natAbs<=1099511627776) (hb:nw b.natAbs<=1099511627776) (w:World)  :Calls prog 96 #[(Value.func (.func 97) #[] #[]),(aG (A8 a)),(aG (A8 b))] w (Al w (aG (A8 (a+b)))):=by
 refine Ac (args:=[(Value.func (.func 97) #[] #[]),(aG (A8 a)),(aG (A8 b))]) func96 O O (Ad O) (AF.subF (sL [0,1,2] O) (q4 (Bi (cs:=A8 a) O λb1=>Bi (cs:=A8 b) O λb2=>al Hw O λb3=>?_)))
 refine q3 (sL [0,4,5,6] O) (AO O (BA 2 Cp O (BA 1 Cp O (BS call97 (Rp a b (by first|omega|(simp only [Int.natAbs_neg,Az,Int.natAbs_natCast];omega)) (by first|omega|(simp only [Int.natAbs_neg,Az,Int.natAbs_natCast];omega))) O (Av O sizeOf59 O ?_)))))
 exact AE.nil (AC.subF (sL [6] O) (AC.then_ (AF.ret (AN O (A7 (i:=0) (cs:=A8 (a+b)) O O isAgg59 sizeOf59 O) (λw hw=>⟨rfl,hw.out⟩)))))
theorem JQ (a b:Int) (ha:nw a.natAbs<=1099511627776) (hb:nw b.natAbs<=1099511627776) (w:World)  :Calls prog 96 #[(Value.func (.func 105) #[] #[]),(aG (A8 a)),(aG (A8 b))] w (Al w (aG (A8 (a*b)))):=by
 refine Ac (args:=[(Value.func (.func 105) #[] #[]),(aG (A8 a)),(aG (A8 b))]) func96 O O (Ad O) (AF.subF (sL [0,1,2] O) (q4 (Bi (cs:=A8 a) O λb1=>Bi (cs:=A8 b) O λb2=>al Hw O λb3=>?_)))
 refine q3 (sL [0,4,5,6] O) (AO O (BA 2 Cp O (BA 1 Cp O (BS call105 (RU a b (by first|omega|(simp only [Int.natAbs_neg,Az,Int.natAbs_natCast];omega)) (by first|omega|(simp only [Int.natAbs_neg,Az,Int.natAbs_natCast];omega))) O (Av O sizeOf59 O ?_)))))
 exact AE.nil (AC.subF (sL [6] O) (AC.then_ (AF.ret (AN O (A7 (i:=0) (cs:=A8 (a*b)) O O isAgg59 sizeOf59 O) (λw hw=>⟨rfl,hw.out⟩)))))
theorem K6 (a b:Int) (ha:nw a.natAbs<=1099511627776) (hb:nw b.natAbs<=1099511627776) (w:World)  :Calls prog 52 #[(aG (A8 a)),(aG (A8 b))] w (Al w (aG (A8 (a+b)))):=by
 refine Ac (args:=[(aG (A8 a)),(aG (A8 b))]) func52 O O (Ad O) (AF.subF (sL [0,1] O) (q4 (Bi (cs:=A8 a) O λb1=>Bi (cs:=A8 b) O λb2=>al Hw O λb3=>?_)))
 refine q3 (sL [2,3,4] O) (BA 2 Cp O (BA 1 Cp O (BS call96 (Ge a b (by first|omega|(simp only [Int.natAbs_neg,Az,Int.natAbs_natCast];omega)) (by first|omega|(simp only [Int.natAbs_neg,Az,Int.natAbs_natCast];omega))) O (Av O sizeOf59 O (AE.nil ?_)))))
 exact AC.subF (sL [4] O) (AC.then_ (AF.ret (AN O (A7 (i:=0) (cs:=A8 (a+b)) O O isAgg59 sizeOf59 O) (λw hw=>⟨rfl,hw.out⟩))))
theorem Rw (a b:Int) (ha:nw a.natAbs<=1099511627776) (hb:nw b.natAbs<=1099511627776) (w:World)  :Calls prog 234 #[(aG (A8 a)),(aG (A8 b))] w (Al w (aG (A8 (a-b)))):=by
 refine Ac (args:=[(aG (A8 a)),(aG (A8 b))]) func234 O O (Ad O) (AF.subF (sL [0,1] O) (q4 (Bi (cs:=A8 a) O λb1=>Bi (cs:=A8 b) O λb2=>al Hw O λb3=>?_)))
 refine q6 (sL [2,3,4] O) (C2 [(0,true),(1,true),(2,false),(3,false),(4,false)] (sl sr) (EH 1 Cp O (EH 0 Cp O (AS.imp O (BS call146 (Nh b) O ?_)))))
 refine AS.back (sl sr) (AS.imp O (BS call96 (Ge a (-b) (by first|omega|(simp only [Int.natAbs_neg,Az,Int.natAbs_natCast];omega)) (by first|omega|(simp only [Int.natAbs_neg,Az,Int.natAbs_natCast];omega))) O (AS.back (sl sr) (AS.imp O (Av O sizeOf59 O ?_)))))
 exact AS.back (sl sr) (AS.nil (AC.subF (sL [4] O) (AC.then_ (AF.ret (AN O (A7 (i:=0) (cs:=A8 (a+(-b))) O O isAgg59 sizeOf59 O) (λw hw=>⟨by rw [Int.sub_eq_add_neg],hw.out⟩))))))
theorem Fs (a b:Int) (ha:nw a.natAbs<=1099511627776) (hb:nw b.natAbs<=1099511627776) (w:World)  :Calls prog 55 #[(aG (A8 a)),(aG (A8 b))] w (Al w (aG (A8 (a*b)))):=by
 refine Ac (args:=[(aG (A8 a)),(aG (A8 b))]) func55 O O (Ad O) (AF.subF (sL [0,1] O) (q4 (Bi (cs:=A8 a) O λb1=>Bi (cs:=A8 b) O λb2=>al Hw O λb3=>?_)))
 refine q3 (sL [2,3,4] O) (BA 2 Cp O (BA 1 Cp O (BS call96 (JQ a b (by first|omega|(simp only [Int.natAbs_neg,Az,Int.natAbs_natCast];omega)) (by first|omega|(simp only [Int.natAbs_neg,Az,Int.natAbs_natCast];omega))) O (Av O sizeOf59 O (AE.nil ?_)))))
 exact AC.subF (sL [4] O) (AC.then_ (AF.ret (AN O (A7 (i:=0) (cs:=A8 (a*b)) O O isAgg59 sizeOf59 O) (λw hw=>⟨rfl,hw.out⟩))))
theorem NX (a b:Int) (ha:nw a.natAbs<=1099511627776) (hb:nw b.natAbs<=1099511627776) (w:World)  :Calls prog 204 #[(aG (A8 a)),(aG (A8 b))] w (Al w (vI ((a-b).sign))):=by
 refine Ac (args:=[(aG (A8 a)),(aG (A8 b))]) func204 O O (Ad O) (AF.subF (sL [0,1] O) (q4 (Bi (cs:=A8 a) O λb1=>Bi (cs:=A8 b) O λb2=>AK O ?_)))
 refine q3 (sL [2,3,4] O) (BA 1 Cp O (BA 0 Cp O (BS call234 (Rw a b (by first|omega|(simp only [Int.natAbs_neg,Az,Int.natAbs_natCast];omega)) (by first|omega|(simp only [Int.natAbs_neg,Az,Int.natAbs_natCast];omega))) O (BS call59 (Ih (a-b)) O (AK O ?_)))))
 exact AE.nil (AC.subF (sL [4] O) (AC.then_ (AF.ret (AN O (Ab (v:=(vI ((a-b).sign))) O) (λw hw=>⟨rfl,hw.out⟩)))))
end
end Go.Proofs.YtfbomiejpbchdaaGreatDoor
