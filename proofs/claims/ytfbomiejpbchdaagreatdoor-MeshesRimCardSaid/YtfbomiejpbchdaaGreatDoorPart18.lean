import Derived.Test.YtfbomiejpbchdaaGreatDoorPart06
import Derived.Test.YtfbomiejpbchdaaGreatDoorPart16
import Derived.Test.YtfbomiejpbchdaaGreatDoorPart17
namespace Go.Proofs.YtfbomiejpbchdaaGreatDoor
open Go Go.RowKit Go.Proofs.Tryz
set_option linter.unusedVariables false
set_option linter.unusedSimpArgs false
section
set_option maxRecDepth 100000
theorem Eh {N v:Nat} (h:v<4294967296^N):val ((CT N v).take N)=v:=by
 rw [List.take_of_length_le (by rw [Bg];exact Nat.le_refl _),EN _ _ h]
theorem OW {a b:Nat} (hb:0<nw b) (h:nw b<=nw a):a/b<4294967296^(nw a+1-nw b):=by
 have h1:=G0 hb
 have h2:=Bu a
 rw [Nat.div_lt_iff_lt_mul (by have:=Nat.pow_pos (n:=nw b-1) (show 0<4294967296 by omega);omega)]
 have h3:4294967296^(nw a+1-nw b)*4294967296^(nw b-1)<=4294967296^(nw a+1-nw b)*b:=Nat.mul_le_mul_left _ h1
 rw [<-Nat.pow_add,show nw a+1-nw b+(nw b-1)=nw a by omega] at h3
 omega
theorem Om {a b:Nat}:a%b<4294967296^(nw a+1):=Nat.lt_of_le_of_lt (Nat.mod_le _ _) (Nat.lt_of_lt_of_le (Bu a) (Nat.pow_le_pow_right Z Z))
theorem Nb {b:Nat} (h:nw b=0):b=0:=by
 have:=Bu b
 rw [h] at this
 omega
theorem S3 {b:Nat} (h:nw b=1):(Ax b).getD 0 0=b/\b<4294967296:=by
 have h1:=Bu b
 rw [h] at h1
 refine ⟨?_,Z⟩
 rw [DA Z,GZ,Nat.pow_zero,Nat.div_one,Nat.mod_eq_of_lt Z]
theorem Jj  :Instr.fill ([(0,1),(1,1)].toArray[·]?) (AT 0).toArray []=some (AT 0).toArray:=by kernel_rfl
theorem Md (a b:Nat) (ha:nw a<=1099511627776) (hb:nw b<=1099511627776) (hb0:b≠0) (w:World)  :Calls prog 100 #[(aG (AT a)),(aG (AT b))] w (Am w (Value.tuple #[(aG (AT (a/b))),(aG (AT (a%b))),(Value.bool true)])):=by
 have hnb:nw b≠0:=λh=>hb0 (Nb h)
 have hla:=CD a
 have hlb:=CD b
 refine Ac (args:=[(aG (AT a)),(aG (AT b))]) func100 O O (Ab O) (AF.subF (sL [0,1] O) (q4 (Bq (cs:=AT a) O λb1=>Bq (cs:=AT b) O λb2=>al E7 O λb3=>?_)))
 refine al E7 O λb4=>AK O (q6 (sL [2,3,4,5,6] O) (AF.block (q4 (BD 2 Bv O ?_))))
 refine BV call138 (Nz b) O (AK O (AE.nil (AD.subF (sL [2,3,4,5,6,12] O) (AD.then_ ?_))))
 refine AF.cond O (λhc0=>?_) (λhc0=>?_)
 ·replace hc0:=of_decide_eq_true hc0
  exact absurd hc0 hb0
 ·replace hc0:=of_decide_eq_false hc0
  refine q4 (BD 3 Bv O (BD 2 Bv O (BV call139 (Q4 a b Z Z) O (AG (Af (c:=(decide ((Ev a b)<(0:Int)))) O O O) O (AK O ?_)))))
  refine AE.nil (AD.subF (sL [2,3,4,5,6,17] O) (AD.then_ ?_))
  refine AF.cond O (λhc1=>?_) (λhc1=>?_)
  ·replace hc1:=of_decide_eq_true hc1
   rw [IV] at hc1
   have e1:a/b=0:=Nat.div_eq_of_lt hc1
   have e2:a%b=a:=Nat.mod_eq_of_lt hc1
   refine AF.seq (C4 [(0,true),(1,true),(2,false),(3,false),(4,true)] (sl (sl sr)) (Ay (v:=(aG (AT 0))) O (AV (zs:=AT 0) (vs:=AT 0) (pv:=[]) (places:=[(0,1),(1,1)]) zeroValue55 underlying55 (λw=>by simp [sizeOf9,sizeOf53]) O (Jj )) (Es 1 Bv O (AS.imp O (C3 O sizeOf55 O ?_)))))
   refine AS.back (sl (sl sr)) (AS.imp O (Au O sizeOf55 O (AS.back (sl (sl sr)) (EZ O (AS.nil ?_)))))
   exact AD.subF (sL [2,3,4,5,6] O) (AD.then_ (AF.ret (AD.in_ret (AD.then_ret (Ez O (A8 (i:=1) (cs:=AT 0) O O isAgg55 sizeOf55 O) (A8 (i:=0) (cs:=AT a) O O isAgg55 sizeOf55 O) (Ad (v:=(Value.bool true)) O) (λw hw=>⟨by rw [e1,e2],hw.out⟩))))))
  ·replace hc1:=of_decide_eq_false hc1
   rw [IV] at hc1
   have hba:nw b<=nw a:=DE Z
   refine q4 (AG (v:=(pP b1 1)) (AA O underlying55 O sizeOf9 O) O (BO 3 (Value.string (Bj a)) Pa O (AG (Bk (c:=(decide (a<18446744073709551616))) O O CR) O (AK O (AE.nil ?_)))))
   refine AD.subF (sL [2,3,4,5,6,24] O) (AD.then_ ?_)
   refine AF.cond O (λhc2=>?_) (λhc2=>?_)
   ·replace hc2:=of_decide_eq_true hc2
    have la:Bw a=a:=Bf hc2
    have lb:Bw b=b:=Bf Z
    have q1:a/b<18446744073709551616:=Nat.lt_of_le_of_lt (Nat.div_le_self _ _) hc2
    have q2:a%b<18446744073709551616:=Nat.lt_of_le_of_lt (Nat.mod_le _ _) hc2
    refine AF.seq (C4 [(0,true),(1,true),(2,true),(3,true),(4,true),(5,true),(6,true),(7,true),(8,true),(9,true),(10,true),(11,true),(12,false),(13,false),(14,true)] (sl (sl sr)) (Ay (v:=(pP b1 0)) O (AA O underlying55 O sizeOf53 O) (Bn 1 (vK .u64 (Bw a)) Fd O (Ay (v:=(pP b2 0)) O (AA O underlying55 O sizeOf53 O) (Bn 0 (vK .u64 (Bw b)) Fd O ?_)))))
    refine Ay O (Fh (c:=(((Bw a)/(Bw b):Nat):Int)) O O Z (Ig (a:=Bw a) (b:=Bw b) Z)) (Ay (v:=(aG ([(vK .u64 ((Bw a)/(Bw b))),(Value.string (Bj 0))]))) O (AV (zs:=AT 0) (vs:=[(vK .u64 ((Bw a)/(Bw b))),(Value.string (Bj 0))]) (pv:=[(0,(vK .u64 ((Bw a)/(Bw b))))]) (places:=[(0,1),(1,1)]) zeroValue55 underlying55 (λw=>by simp [sizeOf9,sizeOf53]) O O) (Ay (v:=(pP b1 0)) O (AA O underlying55 O sizeOf53 O) (Bn 1 (vK .u64 (Bw a)) Fd O (Ay (v:=(pP b2 0)) O (AA O underlying55 O sizeOf53 O) (Bn 0 (vK .u64 (Bw b)) Fd O ?_)))))
    refine Ay O (B6 (c:=(((Bw a)%(Bw b):Nat):Int)) O O Z (HH (a:=Bw a) (b:=Bw b))) (Ay (v:=(aG ([(vK .u64 ((Bw a)%(Bw b))),(Value.string (Bj 0))]))) O (AV (zs:=AT 0) (vs:=[(vK .u64 ((Bw a)%(Bw b))),(Value.string (Bj 0))]) (pv:=[(0,(vK .u64 ((Bw a)%(Bw b))))]) (places:=[(0,1),(1,1)]) zeroValue55 underlying55 (λw=>by simp [sizeOf9,sizeOf53]) O O) (AS.imp O (C3 O sizeOf55 O (AS.back (sl (sl sr)) (AS.imp O ?_)))))
    refine Au O sizeOf55 O (AS.back (sl (sl sr)) (EZ O (AS.nil (AD.subF (sL [2,3,4,5,6] O) (AD.then_ ?_)))))
    exact AF.ret (AD.in_ret (AD.then_ret (Ez O (A8 (i:=1) (cs:=[(vK .u64 ((Bw a)/(Bw b))),(Value.string (Bj 0))]) O O isAgg55 sizeOf55 O) (A8 (i:=0) (cs:=[(vK .u64 ((Bw a)%(Bw b))),(Value.string (Bj 0))]) O O isAgg55 sizeOf55 O) (Ad (v:=(Value.bool true)) O) (λw hw=>⟨by rw [DF q1,DF q2,la,lb];rfl,hw.out⟩))))
   ·replace hc2:=of_decide_eq_false hc2
    refine AF.skip (AD.in_normal (q2 (BD 2 Bv O (AE.callB (V:=λb5=>(Value.slice (some ⟨b5,0,none⟩) (nw b) ((Ax b).length))) (T:=83) (cs:=Ak (Ax b)) (AQ O) (Aw (args:=[(aG (AT b))]) O O call108) (λw hw=>Cp b Z w) O (Ab O) λb5=>AK O ?_))))
    refine q6 (sL [2,3,4,5,6,7] O) (q4 (AO O (AG (v:=(vN (nw b))) (AH O underlying187) O (AG (BU (c:=(decide ((nw b)=1))) O O (MY (a:=nw b) (b:=1))) O (AE.nil ?_)))))
    refine AD.subF (sL [2,3,4,5,6,7,44] O) (AD.then_ ?_)
    refine AF.cond O (λhc3=>?_) (λhc3=>?_)
    ·replace hc3:=of_decide_eq_true hc3
     obtain ⟨hy,hy2⟩:=S3 hc3
     refine AF.seq (C4 [(0,true),(2,true),(3,true),(4,true),(1,false),(5,false),(6,true),(7,true),(8,true),(9,true),(10,true)] sr (Es 4 Bv O (Bo O (Ay (v:=(pP b5 0)) O (AJ (j:=0) O O underlying187 sizeOf83 O Z O) ?_))))
     have hx1:(Ax b).getD 0 0<4294967296:=W32.getD (CE b) 0
     refine Ay O (AM (i:=0) (v:=(vK .u32 ((Ax b).getD 0 0))) O O isAgg83 (BJ (xs:=Ax b) (j:=0) Z)) (AS.imp O (AE.callB (V:=λb6=>(Value.slice (some ⟨b6,0,none⟩) (nw a) ((Ax a).length))) (T:=83) (cs:=Ak (Ax a)) (AQ O) (Aw (args:=[(aG (AT a))]) O O call108) (λw hw=>Cp a Z w) O (Ab O) λb6=>AS.back (sl sr) (AS.imp O (AE.callB (V:=λb7=>(Value.tuple #[(Value.slice (some ⟨b7,0,none⟩) (nw a) (nw a)),(vK .u32 (a%((Ax b).getD 0 0)))])) (T:=83) (cs:=Ak (CT (nw a) (a/((Ax b).getD 0 0)))) (AQ O) (Aw (args:=[(Value.slice (some ⟨b6,0,none⟩) (nw a) ((Ax a).length)),(vK .u32 ((Ax b).getD 0 0))]) O O call140) (λw hw=>Pu a ((Ax b).getD 0 0) _ _ Z Z Z w (hw.get (i:=0) O)) O (Ab O) λb7=>?_))))
     refine AS.back (sl (sl sr)) (Bo O (Ay O (AZ (v:=(Value.slice (some ⟨b7,0,none⟩) (nw a) (nw a))) O O) (Ay O (AZ (v:=(vK .u32 (a%((Ax b).getD 0 0)))) O O) (EZ O (EZ O ?_)))))
     refine AS.nil (AD.subF (sL [2,3,4,5,6,7,8,9] O) (q2 (AO O (ET call107 (λw hw=>Hy _ (nw a) (nw a) (CT (nw a) (a/((Ax b).getD 0 0))) (Da _ _) (by first|omega|(rw [Bg];omega)|simp|(simp;omega)) (by first|omega|simp|(simp;omega)) (by first|omega|simp|(simp;omega)) w (hw.get (i:=0) O)) O (AE.retell (k:=55) (u:=(aG (AT (a/b)))) O (by rw [hy,Eh (Nat.lt_of_le_of_lt (Nat.div_le_self _ _) (Bu a))]) ?_)))))
     refine AO O ?_
     have hmb:a%(Ax b).getD 0 0<4294967296:=by rw [hy];exact Nat.lt_of_lt_of_le (Nat.mod_lt _ Z) Z
     refine AG (Aq (c:=((a%((Ax b).getD 0 0):Nat):Int)) O underlying83 underlying53 (BY Z)) O (AG (v:=(aG ([(vK .u64 (a%((Ax b).getD 0 0))),(Value.string (Bj 0))]))) (AV (zs:=AT 0) (vs:=[(vK .u64 (a%((Ax b).getD 0 0))),(Value.string (Bj 0))]) (pv:=[(0,(vK .u64 (a%((Ax b).getD 0 0))))]) (places:=[(0,1),(1,1)]) zeroValue55 underlying55 (λw=>by simp [sizeOf9,sizeOf53]) O O) O (AE.retell (k:=58) (u:=(aG (AT (a%b)))) O (by rw [hy] at hmb ⊢;rw [DF Z];rfl) (F_ 4 (off:=0) (vs:=AT (a/b)) (cs':=AT (a/b)) (AQ O) O sizeOf55 O (Is O sizeOf55 O (AK O ?_)))))
     exact AE.nil (AD.subF (sL [2,3,4,5,6,7] O) (AD.then_ (AF.ret (AD.then_ret (Ez O (A8 (i:=4) (cs:=AT (a/b)) O O isAgg55 sizeOf55 O) (A8 (i:=3) (cs:=AT (a%b)) O O isAgg55 sizeOf55 O) (Ad (v:=(Value.bool true)) O) (λw hw=>⟨rfl,hw.out⟩))))))
    ·replace hc3:=of_decide_eq_false hc3
     refine AF.skip (q2 (BD 4 Bv O (AE.callB (V:=λb6=>(Value.slice (some ⟨b6,0,none⟩) (nw a) ((Ax a).length))) (T:=83) (cs:=Ak (Ax a)) (AQ O) (Aw (args:=[(aG (AT a))]) O O call108) (λw hw=>Cp a Z w) O (Ab O) λb6=>AO O (AE.callBB (V:=λb7 b8=>(Value.tuple #[(Value.slice (some ⟨b7,0,none⟩) (nw a+1-nw b) (nw a+1-nw b)),(Value.slice (some ⟨b8,0,none⟩) (nw a+1) (nw a+1))])) (T:=83) (cs:=Ak (CT (nw a+1-nw b) (a/b))) (T2:=83) (cs2:=Ak (CT (nw a+1) (a%b))) (AQ O) (Aw (args:=[(Value.slice (some ⟨b6,0,none⟩) (nw a) ((Ax a).length)),(Value.slice (some ⟨b5,0,none⟩) (nw b) ((Ax b).length))]) O O call141) (λw hw=>Sd a b _ _ _ _ Z Z Z w (hw.get (i:=0) O) (hw.get (i:=1) O)) O (Ab O) λb7 b8=>?_))))
     refine AO O (AG (AZ (v:=(Value.slice (some ⟨b7,0,none⟩) (nw a+1-nw b) (nw a+1-nw b))) O O) O (AG (AZ (v:=(Value.slice (some ⟨b8,0,none⟩) (nw a+1) (nw a+1))) O O) O (AK O (AK O (q3 (sL [2,3,4,5,6,7,10,11] O) ?_)))))
     refine AO O (ET call107 (λw hw=>Hy _ (nw a+1-nw b) (nw a+1-nw b) (CT (nw a+1-nw b) (a/b)) (Da _ _) (by first|omega|(rw [Bg];omega)|simp|(simp;omega)) (by first|omega|simp|(simp;omega)) (by first|omega|simp|(simp;omega)) w (hw.get (i:=0) O)) O (AE.retell (k:=67) (u:=(aG (AT (a/b)))) O (by rw [Eh (OW Z hba)]) (AO O (ET call107 (λw hw=>Hy _ (nw a+1) (nw a+1) (CT (nw a+1) (a%b)) (Da _ _) (by first|omega|(rw [Bg];omega)|simp|(simp;omega)) (by first|omega|simp|(simp;omega)) (by first|omega|simp|(simp;omega)) w (hw.get (i:=1) O)) O (AE.retell (k:=69) (u:=(aG (AT (a%b)))) O (by rw [Eh Om]) ?_)))))
     refine F_ 5 (off:=0) (vs:=AT (a/b)) (cs':=AT (a/b)) (AQ O) O sizeOf55 O (F_ 4 (off:=0) (vs:=AT (a%b)) (cs':=AT (a%b)) (AQ O) O sizeOf55 O (AK O (AE.nil (AD.subF (sL [2,3,4,5,6,7] O) (AD.then_ ?_)))))
     exact AF.ret (Ez O (A8 (i:=5) (cs:=AT (a/b)) O O isAgg55 sizeOf55 O) (A8 (i:=4) (cs:=AT (a%b)) O O isAgg55 sizeOf55 O) (Ad (v:=(Value.bool true)) O) (λw hw=>⟨rfl,hw.out⟩))
theorem UN (a b:Nat) (ha:nw a<=1099511627776) (hb:nw b<=1099511627776) (w:World)  :Calls prog 98 #[(aG (AT a)),(aG (AT b))] w (Am w (aG (AT (Nat.gcd a b)))):=by
 refine Ac (args:=[(aG (AT a)),(aG (AT b))]) func98 O O (Ab O) (AF.subF (sL [0,1] O) (q4 (Bq (cs:=AT a) O λb1=>Bq (cs:=AT b) O λb2=>al E7 O λb3=>?_)))
 refine q6 (sL [2,3,4] O) (AF.block ?_)
 refine AF.lp2 (tg λ(x:Nat) (y:Nat)=>Nat.gcd x y=Nat.gcd a b/\nw x<=1099511627776/\nw y<=1099511627776) (tg λ(x:Nat) (y:Nat)=>[(2,(pP b1 0)),(3,(pP b2 0)),(4,(pP b3 0))]) (tg λ(x:Nat) (y:Nat)=>[Ae b3 55 (AT 0),Ae b2 55 (AT y),Ae b1 55 (AT x)]) (tg λ(x:Nat) (y:Nat)=>y) a b (⟨rfl,ha,hb⟩) (sF O) sr (λx y hJ=>?_)
 obtain ⟨hg,hx,hy⟩:=hJ
 refine AF.seq (q4 (BD 1 Bv O (BV call138 (Nz y) O (AG (Ba (c:=(!(decide (y=0)))) O O) O (AE.nil ?_)))))
 refine AD.subF (sL [2,3,4,10] O) (AD.then_ ?_)
 refine AF.cond O (λhc0=>?_) (λhc0=>?_)
 ·simp only [Bool.and_eq_true,Bool.or_eq_true,Bool.and_eq_false_iff,Bool.or_eq_false_iff,Bool.not_eq_true',Bool.not_eq_false',decide_eq_true_eq,decide_eq_false_iff_not] at hc0
  refine AF.skip (AD.then_ (AF.block (q4 (BD 2 Bv O (BD 1 Bv O ?_)))))
  refine BV call100 (Md x y Z Z Z) O (AO O (AG (AZ (v:=(aG (AT (x/y)))) O O) O (AG (AZ (v:=(aG (AT (x%y)))) O O) O (AG (AZ (v:=(Value.bool true)) O O) O (al E7 O λb4=>?_)))))
  refine al E7 O λb5=>C3 O sizeOf55 O (Au O sizeOf55 O (AK O (AE.nil (AD.subF (sL [2,3,4,6] O) ?_))))
  refine AD.then_ (C4 [(1,true),(0,false),(2,false),(3,false)] (sk (sk (sk (sl (sl sr))))) (Es 0 Bv O (AS.imp O (BD 3 Bv O (AS.back (sk (sk (sk (sl (sl sr))))) ?_)))))
  refine AS.imp O (F_ 4 (off:=0) (vs:=AT y) (cs':=AT y) (AQ O) O sizeOf55 O (AS.back (sk (sk (sk (sl (sl sr))))) (AS.imp O (Is O sizeOf55 O (AS.back (sk (sk (sk (sl (sl sr))))) ?_)))))
  exact AS.nil (AD.subF (sL [2,3,4,6] O) (AD.in_normal (AD.round2 y (x%y) (⟨by rw [<-hg,Nat.gcd_comm x y,Nat.gcd_rec y x,Nat.gcd_comm],hy,Nat.le_trans (DE (Nat.mod_le _ _)) hx⟩) (Nat.mod_lt _ Z) (sF O) (sl (sl sr)))))
 ·simp only [Bool.and_eq_true,Bool.or_eq_true,Bool.and_eq_false_iff,Bool.or_eq_false_iff,Bool.not_eq_true',Bool.not_eq_false',decide_eq_true_eq,decide_eq_false_iff_not] at hc0
  have hy0:y=0:=by omega
  have hxg:x=Nat.gcd a b:=by rw [<-hg,hy0,Nat.gcd_zero_right]
  refine AF.exit (AD.then_exit (AD.round2_exit (AD.in_exit (q2 (BD 2 Bv O ?_)))))
  exact Au O sizeOf55 O (AE.nil (AD.subF (sL [2,3,4] O) (AD.then_ (AF.ret (AP O (A8 (i:=0) (cs:=AT x) O O isAgg55 sizeOf55 O) (λw hw=>⟨by rw [hxg],hw.out⟩))))))
end
def EB (neg:Bool) (n:Nat):Int:=if neg then -(n:Int) else (n:Int)
theorem Pd (n:Nat):A9 (EB true n)=AT n++[.bool (!(decide (n=0)))]:=by
  simp only [A9,AT,EB,if_true,Int.natAbs_neg,Int.natAbs_natCast,List.cons_append,List.nil_append]
  have e:decide (-(n:Int)<0)=!(decide (n=0)):=by
    by_cases h:n=0
    · subst h;rfl
    · simp [h];omega
  rw [e]
theorem QW (n:Nat):A9 (EB false n)=AT n++[.bool false]:=by
  simp only [A9,AT,EB,Int.natAbs_natCast,List.cons_append,List.nil_append]
  have e:decide ((n:Int)<0)=false:=by simp
  simp [e]
theorem L1 (D a b:Nat):Eu prog (D+3) 57 (.agg (AT a).toArray) (.agg (AT b).toArray) (decide (a=b)):=by
  have h:=Eu.struct (D:=D+2) (xs:=AT a) (ys:=AT b) underlying57 Tryz.stoodInHeld57 (HE.agg (us:=AT a) (bs:=AT b) (by decide) isAgg55 sizeOf55 rfl rfl (Ft D a b) HE.nil)
  simpa using h
theorem A6 (neg:Bool) (n:Nat):(EB neg n).natAbs=n:=by cases neg<;>simp [EB]
theorem Si (a:Int):EB (!(decide (a<0))) a.natAbs = -a:=by
  unfold EB
  by_cases h:a<0
  · simp [h];omega
  · simp [h];omega
theorem TJ (a b:Int):EB (!(decide (a<0) == decide (b<0))) (a.natAbs*b.natAbs)=a*b:=by
  rw [<-Int.natAbs_mul]
  unfold EB
  by_cases h:a<0<;>by_cases h':b<0
  · have:=Int.mul_pos_of_neg_of_neg h h';simp [h,h'];omega
  · have:a*b<=0:=Int.mul_nonpos_of_nonpos_of_nonneg Z Z
    simp [h,h'];omega
  · have:a*b<=0:=Int.mul_nonpos_of_nonneg_of_nonpos Z Z
    simp [h,h'];omega
  · have:0<=a*b:=Int.mul_nonneg Z Z
    simp [h,h'];omega
theorem Kc {a b:Int} (h:(decide (a<0) == decide (b<0))=true):EB (decide (a<0)) (a.natAbs+b.natAbs)=a+b:=by
  unfold EB
  by_cases h1:a<0<;>by_cases h2:b<0<;>simp [h1,h2] at h ⊢<;>omega
theorem Nd {a b:Int} (h:(decide (a<0) == decide (b<0))=false) (h3:b.natAbs<=a.natAbs):EB (decide (a<0)) (a.natAbs-b.natAbs)=a+b:=by
  unfold EB
  by_cases h1:a<0<;>by_cases h2:b<0<;>simp [h1,h2] at h ⊢<;>omega
theorem NG {a b:Int} (h:(decide (a<0) == decide (b<0))=false) (h3:¬b.natAbs<=a.natAbs):EB (decide (b<0)) (b.natAbs-a.natAbs)=a+b:=by
  unfold EB
  by_cases h1:a<0<;>by_cases h2:b<0<;>simp [h1,h2] at h ⊢<;>omega
theorem WN {z:Int} (h:z<0) (h2:-9223372036854775808<=z):IntKind.u64.wrap (-(IntKind.u64.wrap z))=((z.natAbs:Nat):Int):=by
  simp only [IntKind.wrap,IntKind.bits,IntKind.signed];simp;omega
theorem JG {z:Int} (h:z<0):EB true z.natAbs=z:=by unfold EB;simp;omega
theorem Od {z:Int} (h:¬z<0):EB false z.natAbs=z:=by unfold EB;simp;omega
section
set_option maxRecDepth 100000
theorem Je  :Instr.fill ([(0,2)].toArray[·]?) (AT 0).toArray []=some (AT 0).toArray:=by kernel_rfl
theorem Gv (n:Nat) (w:World)  :Calls prog 110 #[(aG (AT n))] w (Am w (Value.bool (decide (n=0)))):=by
 refine Ac (args:=[(aG (AT n))]) func110 O O (Ab O) (AF.subF (sL [0] O) (q4 (Bq (cs:=AT n) O λb1=>AK O (q3 (sL [1,2] O) ?_))))
 refine BD 0 OV O (AG (v:=(aG (AT 0))) (AV (zs:=AT 0) (vs:=AT 0) (pv:=[]) (places:=[(0,2)]) zeroValue57 underlying57 (λw=>by simp [sizeOf55]) O (Je )) O (AG (Bx (c:=(decide (n=0))) O O eqGuardType57 (L1 9997 n 0)) O (AK O (AE.nil (AD.subF (sL [2] O) ?_)))))
 exact AD.then_ (AF.ret (AP O (Ad (v:=(Value.bool (decide (n=0)))) O) (λw hw=>⟨rfl,hw.out⟩)))
theorem EK (x0:Nat):Instr.fill ([(0,2)].toArray[·]?) (AT 0).toArray [(0,.agg (AT x0).toArray)]=some (AT x0).toArray:=by kernel_rfl
theorem OT (n:Nat) (w:World)  :Calls prog 103 #[(Value.bool true),(aG (AT n))] w (Am w (aG (A9 (EB true n)))):=by
 refine Ac (args:=[(Value.bool true),(aG (AT n))]) func103 O O (Ab O) (AF.subF (sL [0,1] O) (q4 (Bq (cs:=AT n) O λb1=>al H2 O λb2=>q3 (sL [0,3,4] O) ?_)))
 refine BD 1 Bv O (AG (v:=(aG (AT n))) (AV (zs:=AT 0) (vs:=AT n) (pv:=[(0,(aG (AT n)))]) (places:=[(0,2)]) zeroValue57 underlying57 (λw=>by simp [sizeOf55]) O (EK n)) O (al VC O λb3=>Au O sizeOf57 O (q6 (sL [0,4,5] O) (C4 [(0,true),(1,true),(2,true),(3,true),(4,false),(5,true),(6,true),(7,true),(8,false)] (sk (sl sr)) ?_))))
 refine Es 0 OV O (Bo O (Bo O (AS.pas (v:=(aG (AT n))) O (AB O) (Al (i:=0) (vs:=AT n) O O OV.a OV.s O O) O O (AS.imp O (AE.call (v:=(Value.bool (decide (n=0)))) (AB O) (Aw (args:=[(aG (AT n))]) O O call110) (λw hw=>Gv n w) O (Ab O) ?_)))))
 refine AS.back (sk (sl sr)) (AS.pas (v:=(Value.bool (!(decide (n=0))))) O (AB O) (Ba (c:=(!(decide (n=0)))) O O) O O (Ay (v:=(Value.bool (!(decide (n=0))))) O (Ah O O) (Ay (v:=(aG (AT n++[(Value.bool (!(decide (n=0))))]))) O (AV (zs:=A9 0) (vs:=AT n++[(Value.bool (!(decide (n=0))))]) (pv:=[(0,(aG (AT n))),(1,(Value.bool (!(decide (n=0)))))]) (places:=[(0,2),(2,1)]) zeroValue59 underlying59 (λw=>by simp [sizeOf4,sizeOf57]) O O) (AS.imp O (C3 O sizeOf59 O ?_)))))
 exact AS.back (sk (sl sr)) (AS.nil (AD.subF (sL [4,5] O) (AD.then_ (AF.ret (AP O (A8 (i:=1) (cs:=AT n++[(Value.bool (!(decide (n=0))))]) O O isAgg59 sizeOf59 O) (λw hw=>⟨by rw [Pd],hw.out⟩))))))
theorem My (n:Nat) (w:World)  :Calls prog 103 #[(Value.bool false),(aG (AT n))] w (Am w (aG (A9 (EB false n)))):=by
 refine Ac (args:=[(Value.bool false),(aG (AT n))]) func103 O O (Ab O) (AF.subF (sL [0,1] O) (q4 (Bq (cs:=AT n) O λb1=>al H2 O λb2=>q3 (sL [0,3,4] O) ?_)))
 refine BD 1 Bv O (AG (v:=(aG (AT n))) (AV (zs:=AT 0) (vs:=AT n) (pv:=[(0,(aG (AT n)))]) (places:=[(0,2)]) zeroValue57 underlying57 (λw=>by simp [sizeOf55]) O (EK n)) O (al VC O λb3=>Au O sizeOf57 O (q6 (sL [0,4,5] O) (C4 [(0,true),(1,true),(2,true),(3,true),(4,false),(5,true),(6,true),(7,true),(8,false)] (sk (sl sr)) ?_))))
 refine Es 0 OV O (Bo O (Bo O (AS.skp O (AR O) O O (AS.imp O (AE.skip (AR O) O (Ab O) ?_)))))
 refine AS.back (sk (sl sr)) (AS.skp O (AR O) O O (Ay (v:=(Value.bool false)) O (AU O O) (Ay (v:=(aG (AT n++[(Value.bool false)]))) O (AV (zs:=A9 0) (vs:=AT n++[(Value.bool false)]) (pv:=[(0,(aG (AT n))),(1,(Value.bool false))]) (places:=[(0,2),(2,1)]) zeroValue59 underlying59 (λw=>by simp [sizeOf4,sizeOf57]) O O) (AS.imp O (C3 O sizeOf59 O ?_)))))
 exact AS.back (sk (sl sr)) (AS.nil (AD.subF (sL [4,5] O) (AD.then_ (AF.ret (AP O (A8 (i:=1) (cs:=AT n++[(Value.bool false)]) O O isAgg59 sizeOf59 O) (λw hw=>⟨by rw [QW],hw.out⟩))))))
theorem Dk (neg:Bool) (n:Nat) (w:World):Calls prog 103 #[.bool neg,.agg (AT n).toArray] w (Am w (.agg (A9 (EB neg n)).toArray)):=by
 cases neg
 ·exact My n w
 ·exact OT n w
theorem Ui (z:Int) (hz:-9223372036854775808<=z) (hz2:z<9223372036854775808) (w:World)  :Calls prog 67 #[(vI z)] w (Am w (aG (A9 z))):=by
 refine Ac (args:=[(vI z)]) func67 O O (Ab O) (AF.subF (sL [0] O) (q4 (al H2 O λb1=>AE.nil (q1 ?_))))
 refine q4 (AO O (AG (Af (c:=(decide (z<(0:Int)))) O O O) O (AE.nil (AD.subF (sL [0,2,4] O) (AD.then_ ?_)))))
 refine AF.cond O (λhc0=>?_) (λhc0=>?_)
 ·replace hc0:=of_decide_eq_true hc0
  have he:=JG hc0
  refine q4 (AO O (AG (Aq (c:=(IntKind.u64.wrap z)) O underlying2 underlying53 (rfl)) O (AG (JN (c:=((z.natAbs:Nat):Int)) O (by rw [Int.zero_sub];exact WN hc0 hz)) O (BV call102 (IG z.natAbs Z) O (BV call103 (Dk true z.natAbs) O ?_)))))
  exact Au O sizeOf59 O (AE.nil (AD.subF (sL [0,2] O) (AD.then_ (AF.ret (AD.then_ret (AP O (A8 (i:=0) (cs:=A9 (EB true z.natAbs)) O O isAgg59 sizeOf59 O) (λw hw=>⟨by rw [he],hw.out⟩)))))))
 ·replace hc0:=of_decide_eq_false hc0
  have he:=Od hc0
  refine AF.skip (q2 (AO O (AG (Aq (c:=((z.natAbs:Nat):Int)) O underlying2 underlying53 (by rw [DN Z Z];omega)) O (BV call102 (IG z.natAbs Z) O (BV call103 (Dk false z.natAbs) O ?_)))))
  exact Au O sizeOf59 O (AE.nil (AD.subF (sL [0,2] O) (AD.then_ (AF.ret (AP O (A8 (i:=0) (cs:=A9 (EB false z.natAbs)) O O isAgg59 sizeOf59 O) (λw hw=>⟨by rw [he],hw.out⟩))))))
theorem LF (a:Int) (w:World)  :Calls prog 99 #[(aG (A9 a))] w (Am w (aG (AT a.natAbs))):=by
 refine Ac (args:=[(aG (A9 a))]) func99 O O (Ab O) (AF.subF (sL [0] O) (q4 (Bq (cs:=A9 a) O λb1=>al E7 O λb2=>q3 (sL [1,2] O) ?_)))
 refine AG (v:=(pP b1 0)) (AA O underlying59 O sizeOf57 O) O (AG (v:=(pP b1 0)) (AA O underlying57 O sizeOf55 O) O (DJ 1 (AT a.natAbs) Bv O (Au O sizeOf55 O (AE.nil (AD.subF (sL [2] O) ?_)))))
 exact AD.then_ (AF.ret (AP O (A8 (i:=0) (cs:=AT a.natAbs) O O isAgg55 sizeOf55 O) (λw hw=>⟨rfl,hw.out⟩)))
theorem JF (a:Int) (w:World)  :Calls prog 59 #[(aG (A9 a))] w (Am w (vI a.sign)):=by
 refine Ac (args:=[(aG (A9 a))]) func59 O O (Ab O) (AF.subF (sL [0] O) (q4 (Bq (cs:=A9 a) O λb1=>AK O (q6 (sL [1,2] O) ?_))))
 refine AF.block (q4 (AG (v:=(pP b1 0)) (AA O underlying59 O sizeOf57 O) O (DJ 0 (AT a.natAbs) OV O (BV call110 (Gv a.natAbs) O (AK O ?_)))))
 refine AE.nil (AD.subF (sL [1,2,3] O) (AD.then_ ?_))
 refine AF.cond O (λhc0=>?_) (λhc0=>?_)
 ·replace hc0:=of_decide_eq_true hc0
  have he:a.sign=0:=by rw [show a=0 by omega];rfl
  refine q4 (AK O (AE.nil (AD.then_ (AF.ret (AD.in_ret ?_)))))
  exact AD.then_ret (AP O (Ad (v:=(vI 0)) O) (λw hw=>⟨by rw [he],hw.out⟩))
 ·replace hc0:=of_decide_eq_false hc0
  refine q4 (AG (v:=(pP b1 2)) (AA O underlying59 O sizeOf4 O) O (BO 0 (Value.bool (decide (a<0))) Qf O (AK O (AE.nil (AD.subF (sL [1,2,7] O) ?_)))))
  refine AD.then_ ?_
  refine AF.cond O (λhc1=>?_) (λhc1=>?_)
  ·replace hc1:=of_decide_eq_true hc1
   have he:a.sign = -1:=Int.sign_eq_neg_one_of_neg hc1
   refine q4 (AK O (AE.nil (AD.then_ (AF.ret (AD.in_ret ?_)))))
   exact AD.then_ret (AP O (Ad (v:=(vI (-1:Int))) O) (λw hw=>⟨by rw [he],hw.out⟩))
  ·replace hc1:=of_decide_eq_false hc1
   have he:a.sign=1:=Int.sign_eq_one_of_pos Z
   refine AF.skip (AD.in_normal (q2 (AK O (AE.nil (AD.then_ ?_)))))
   exact AF.ret (AP O (Ad (v:=(vI 1)) O) (λw hw=>⟨by rw [he],hw.out⟩))
theorem Nk (a:Int) (w:World)  :Calls prog 146 #[(aG (A9 a))] w (Am w (aG (A9 (-a)))):=by
 refine Ac (args:=[(aG (A9 a))]) func146 O O (Ab O) (AF.subF (sL [0] O) (q4 (Bq (cs:=A9 a) O λb1=>al H2 O λb2=>q3 (sL [1,2] O) ?_)))
 refine AG (v:=(pP b1 2)) (AA O underlying59 O sizeOf4 O) O (BO 1 (Value.bool (decide (a<0))) Qf O (AG (Ba (c:=(!(decide (a<0)))) O O) O (AG (v:=(pP b1 0)) (AA O underlying59 O sizeOf57 O) O (AG (v:=(pP b1 0)) (AA O underlying57 O sizeOf55 O) O (DJ 1 (AT a.natAbs) Bv O ?_)))))
 exact BV call103 (Dk (!(decide (a<0))) a.natAbs) O (Au O sizeOf59 O (AE.nil (AD.subF (sL [2] O) (AD.then_ (AF.ret (AP O (A8 (i:=0) (cs:=A9 (EB (!(decide (a<0))) a.natAbs)) O O isAgg59 sizeOf59 O) (λw hw=>⟨by rw [Si],hw.out⟩)))))))
theorem SR (a b:Int) (ha:nw a.natAbs<=1099511627776) (hb:nw b.natAbs<=1099511627776) (w:World)  :Calls prog 97 #[(aG (A9 a)),(aG (A9 b))] w (Am w (aG (A9 (a+b)))):=by
 refine Ac (args:=[(aG (A9 a)),(aG (A9 b))]) func97 O O (Ab O) (AF.subF (sL [0,1] O) (q4 (Bq (cs:=A9 a) O λb1=>Bq (cs:=A9 b) O λb2=>al H2 O λb3=>?_)))
 refine q6 (sL [2,3,4] O) (q4 (AG (v:=(pP b1 2)) (AA O underlying59 O sizeOf4 O) O (BO 2 (Value.bool (decide (a<0))) Qf O (AG (v:=(pP b2 2)) (AA O underlying59 O sizeOf4 O) O (BO 1 (Value.bool (decide (b<0))) Qf O ?_)))))
 refine AG (Hv (c:=(decide (a<0) == decide (b<0))) O O underlying4 O) O (AE.nil (AD.subF (sL [2,3,4,13] O) (AD.then_ ?_)))
 refine AF.cond O (λhc0=>?_) (λhc0=>?_)
 ·skip
  have he:=Kc hc0
  refine AF.seq (C4 [(0,true),(1,true),(2,true),(3,true),(4,true),(5,true),(6,true),(7,true),(8,false),(9,false),(10,false)] (sl sr) (Ay (v:=(pP b1 2)) O (AA O underlying59 O sizeOf4 O) (Bn 1 (Value.bool (decide (a<0))) Qf O (Ay (v:=(pP b1 0)) O (AA O underlying59 O sizeOf57 O) (Ay (v:=(pP b1 0)) O (AA O underlying57 O sizeOf55 O) ?_)))))
  refine Hr 1 (AT a.natAbs) Bv O (Ay (v:=(pP b2 0)) O (AA O underlying59 O sizeOf57 O) (Ay (v:=(pP b2 0)) O (AA O underlying57 O sizeOf55 O) (Hr 0 (AT b.natAbs) Bv O (AS.imp O (BV call104 (Qn a.natAbs b.natAbs Z Z) O ?_)))))
  refine AS.back (sl sr) (AS.imp O (BV call103 (Dk (decide (a<0)) (a.natAbs+b.natAbs)) O (AS.back (sl sr) (AS.imp O (Au O sizeOf59 O ?_)))))
  exact AS.back (sl sr) (AS.nil (AD.subF (sL [2,3,4] O) (AD.then_ (AF.ret (AD.then_ret (AP O (A8 (i:=0) (cs:=A9 (EB (decide (a<0)) (a.natAbs+b.natAbs))) O O isAgg59 sizeOf59 O) (λw hw=>⟨by rw [he],hw.out⟩)))))))
 ·skip
  refine AF.skip (q1 (q4 (AG (v:=(pP b1 0)) (AA O underlying59 O sizeOf57 O) O (AG (v:=(pP b1 0)) (AA O underlying57 O sizeOf55 O) O (DJ 2 (AT a.natAbs) Bv O ?_)))))
  refine AG (v:=(pP b2 0)) (AA O underlying59 O sizeOf57 O) O (AG (v:=(pP b2 0)) (AA O underlying57 O sizeOf55 O) O (DJ 1 (AT b.natAbs) Bv O (BV call101 (Mw a.natAbs b.natAbs Z Z) O (AO O (AG (AZ (v:=(aG (AT (a.natAbs-b.natAbs)))) O O) O ?_)))))
  refine AG (AZ (v:=(Value.bool (decide (b.natAbs<=a.natAbs)))) O O) O (al E7 O λb4=>Au O sizeOf55 O (AK O (q3 (sL [2,3,4,5,6] O) (AO O ?_))))
  refine AE.nil (AD.subF (sL [2,3,4,5,34] O) (AD.then_ ?_))
  refine AF.cond O (λhc1=>?_) (λhc1=>?_)
  ·replace hc1:=of_decide_eq_true hc1
   have he:=Nd hc0 hc1
   refine q4 (AG (v:=(pP b1 2)) (AA O underlying59 O sizeOf4 O) O (BO 3 (Value.bool (decide (a<0))) Qf O (BD 0 Bv O (BV call103 (Dk (decide (a<0)) (a.natAbs-b.natAbs)) O (C3 O sizeOf59 O ?_)))))
   exact AE.nil (AD.subF (sL [2,3,4,5] O) (AD.then_ (AF.ret (AD.then_ret (AP O (A8 (i:=1) (cs:=A9 (EB (decide (a<0)) (a.natAbs-b.natAbs))) O O isAgg59 sizeOf59 O) (λw hw=>⟨by rw [he],hw.out⟩))))))
  ·replace hc1:=of_decide_eq_false hc1
   have he:=NG hc0 hc1
   refine AF.skip (q2 (AG (v:=(pP b2 0)) (AA O underlying59 O sizeOf57 O) O (AG (v:=(pP b2 0)) (AA O underlying57 O sizeOf55 O) O (DJ 2 (AT b.natAbs) Bv O (AG (v:=(pP b1 0)) (AA O underlying59 O sizeOf57 O) O ?_)))))
   refine AG (v:=(pP b1 0)) (AA O underlying57 O sizeOf55 O) O (DJ 3 (AT a.natAbs) Bv O (BV call101 (Mw b.natAbs a.natAbs Z Z) O (AO O (AG (AZ (v:=(aG (AT (b.natAbs-a.natAbs)))) O O) O (AG (AZ (v:=(Value.bool (decide (a.natAbs<=b.natAbs)))) O O) O ?_)))))
   refine al E7 O λb5=>Au O sizeOf55 O (AK O (q3 (sL [2,3,4,5,7] O) (AG (v:=(pP b2 2)) (AA O underlying59 O sizeOf4 O) O (BO 3 (Value.bool (decide (b<0))) Qf O ?_))))
   refine BD 0 Bv O (BV call103 (Dk (decide (b<0)) (b.natAbs-a.natAbs)) O (Le O sizeOf59 O (AE.nil (AD.subF (sL [2,3,4,5,7] O) (AD.then_ ?_)))))
   exact AF.ret (AP O (A8 (i:=2) (cs:=A9 (EB (decide (b<0)) (b.natAbs-a.natAbs))) O O isAgg59 sizeOf59 O) (λw hw=>⟨by rw [he],hw.out⟩))
theorem P1 (a b:Int) (ha:nw a.natAbs<=1099511627776) (hb:nw b.natAbs<=1099511627776) (w:World)  :Calls prog 105 #[(aG (A9 a)),(aG (A9 b))] w (Am w (aG (A9 (a*b)))):=by
 refine Ac (args:=[(aG (A9 a)),(aG (A9 b))]) func105 O O (Ab O) (AF.subF (sL [0,1] O) (q4 (Bq (cs:=A9 a) O λb1=>Bq (cs:=A9 b) O λb2=>al H2 O λb3=>?_)))
 refine q6 (sL [2,3,4] O) (C4 [(0,true),(1,true),(2,true),(3,true),(4,true),(5,true),(6,true),(7,true),(8,true),(9,true),(10,true),(11,false),(12,false),(13,false)] (sl sr) (Ay (v:=(pP b1 2)) O (AA O underlying59 O sizeOf4 O) (Bn 1 (Value.bool (decide (a<0))) Qf O (Ay (v:=(pP b2 2)) O (AA O underlying59 O sizeOf4 O) (Bn 0 (Value.bool (decide (b<0))) Qf O ?_)))))
 refine Ay O (Lb (c:=(!(decide (a<0) == decide (b<0)))) O O underlying4 O) (Ay (v:=(pP b1 0)) O (AA O underlying59 O sizeOf57 O) (Ay (v:=(pP b1 0)) O (AA O underlying57 O sizeOf55 O) (Hr 1 (AT a.natAbs) Bv O (Ay (v:=(pP b2 0)) O (AA O underlying59 O sizeOf57 O) (Ay (v:=(pP b2 0)) O (AA O underlying57 O sizeOf55 O) ?_)))))
 refine Hr 0 (AT b.natAbs) Bv O (AS.imp O (BV call57 (M1 a.natAbs b.natAbs Z Z) O (AS.back (sl sr) (AS.imp O (BV call103 (Dk (!(decide (a<0) == decide (b<0))) (a.natAbs*b.natAbs)) O ?_)))))
 refine AS.back (sl sr) (AS.imp O (Au O sizeOf59 O (AS.back (sl sr) (AS.nil (AD.subF (sL [4] O) ?_)))))
 exact AD.then_ (AF.ret (AP O (A8 (i:=0) (cs:=A9 (EB (!(decide (a<0) == decide (b<0))) (a.natAbs*b.natAbs))) O O isAgg59 sizeOf59 O) (λw hw=>⟨by rw [TJ],hw.out⟩)))
theorem Gr (a b:Int) (ha:nw a.natAbs<=1099511627776) (hb:nw b.natAbs<=1099511627776) (w:World)  :Calls prog 96 #[(Value.func (.func 97) #[] #[]),(aG (A9 a)),(aG (A9 b))] w (Am w (aG (A9 (a+b)))):=by
 refine Ac (args:=[(Value.func (.func 97) #[] #[]),(aG (A9 a)),(aG (A9 b))]) func96 O O (Ab O) (AF.subF (sL [0,1,2] O) (q4 (Bq (cs:=A9 a) O λb1=>Bq (cs:=A9 b) O λb2=>al H2 O λb3=>?_)))
 refine q3 (sL [0,4,5,6] O) (AO O (BD 2 Cy O (BD 1 Cy O (BV call97 (SR a b (by first|omega|(simp only [Int.natAbs_neg,A6,Int.natAbs_natCast];omega)) (by first|omega|(simp only [Int.natAbs_neg,A6,Int.natAbs_natCast];omega))) O (Au O sizeOf59 O ?_)))))
 exact AE.nil (AD.subF (sL [6] O) (AD.then_ (AF.ret (AP O (A8 (i:=0) (cs:=A9 (a+b)) O O isAgg59 sizeOf59 O) (λw hw=>⟨rfl,hw.out⟩)))))
theorem Ja (a b:Int) (ha:nw a.natAbs<=1099511627776) (hb:nw b.natAbs<=1099511627776) (w:World)  :Calls prog 96 #[(Value.func (.func 105) #[] #[]),(aG (A9 a)),(aG (A9 b))] w (Am w (aG (A9 (a*b)))):=by
 refine Ac (args:=[(Value.func (.func 105) #[] #[]),(aG (A9 a)),(aG (A9 b))]) func96 O O (Ab O) (AF.subF (sL [0,1,2] O) (q4 (Bq (cs:=A9 a) O λb1=>Bq (cs:=A9 b) O λb2=>al H2 O λb3=>?_)))
 refine q3 (sL [0,4,5,6] O) (AO O (BD 2 Cy O (BD 1 Cy O (BV call105 (P1 a b (by first|omega|(simp only [Int.natAbs_neg,A6,Int.natAbs_natCast];omega)) (by first|omega|(simp only [Int.natAbs_neg,A6,Int.natAbs_natCast];omega))) O (Au O sizeOf59 O ?_)))))
 exact AE.nil (AD.subF (sL [6] O) (AD.then_ (AF.ret (AP O (A8 (i:=0) (cs:=A9 (a*b)) O O isAgg59 sizeOf59 O) (λw hw=>⟨rfl,hw.out⟩)))))
theorem LK (a b:Int) (ha:nw a.natAbs<=1099511627776) (hb:nw b.natAbs<=1099511627776) (w:World)  :Calls prog 52 #[(aG (A9 a)),(aG (A9 b))] w (Am w (aG (A9 (a+b)))):=by
 refine Ac (args:=[(aG (A9 a)),(aG (A9 b))]) func52 O O (Ab O) (AF.subF (sL [0,1] O) (q4 (Bq (cs:=A9 a) O λb1=>Bq (cs:=A9 b) O λb2=>al H2 O λb3=>?_)))
 refine q3 (sL [2,3,4] O) (BD 2 Cy O (BD 1 Cy O (BV call96 (Gr a b (by first|omega|(simp only [Int.natAbs_neg,A6,Int.natAbs_natCast];omega)) (by first|omega|(simp only [Int.natAbs_neg,A6,Int.natAbs_natCast];omega))) O (Au O sizeOf59 O (AE.nil ?_)))))
 exact AD.subF (sL [4] O) (AD.then_ (AF.ret (AP O (A8 (i:=0) (cs:=A9 (a+b)) O O isAgg59 sizeOf59 O) (λw hw=>⟨rfl,hw.out⟩))))
theorem Sl (a b:Int) (ha:nw a.natAbs<=1099511627776) (hb:nw b.natAbs<=1099511627776) (w:World)  :Calls prog 234 #[(aG (A9 a)),(aG (A9 b))] w (Am w (aG (A9 (a-b)))):=by
 refine Ac (args:=[(aG (A9 a)),(aG (A9 b))]) func234 O O (Ab O) (AF.subF (sL [0,1] O) (q4 (Bq (cs:=A9 a) O λb1=>Bq (cs:=A9 b) O λb2=>al H2 O λb3=>?_)))
 refine q6 (sL [2,3,4] O) (C4 [(0,true),(1,true),(2,false),(3,false),(4,false)] (sl sr) (Es 1 Cy O (Es 0 Cy O (AS.imp O (BV call146 (Nk b) O ?_)))))
 refine AS.back (sl sr) (AS.imp O (BV call96 (Gr a (-b) (by first|omega|(simp only [Int.natAbs_neg,A6,Int.natAbs_natCast];omega)) (by first|omega|(simp only [Int.natAbs_neg,A6,Int.natAbs_natCast];omega))) O (AS.back (sl sr) (AS.imp O (Au O sizeOf59 O ?_)))))
 exact AS.back (sl sr) (AS.nil (AD.subF (sL [4] O) (AD.then_ (AF.ret (AP O (A8 (i:=0) (cs:=A9 (a+(-b))) O O isAgg59 sizeOf59 O) (λw hw=>⟨by rw [Int.sub_eq_add_neg],hw.out⟩))))))
theorem Fu (a b:Int) (ha:nw a.natAbs<=1099511627776) (hb:nw b.natAbs<=1099511627776) (w:World)  :Calls prog 55 #[(aG (A9 a)),(aG (A9 b))] w (Am w (aG (A9 (a*b)))):=by
 refine Ac (args:=[(aG (A9 a)),(aG (A9 b))]) func55 O O (Ab O) (AF.subF (sL [0,1] O) (q4 (Bq (cs:=A9 a) O λb1=>Bq (cs:=A9 b) O λb2=>al H2 O λb3=>?_)))
 refine q3 (sL [2,3,4] O) (BD 2 Cy O (BD 1 Cy O (BV call96 (Ja a b (by first|omega|(simp only [Int.natAbs_neg,A6,Int.natAbs_natCast];omega)) (by first|omega|(simp only [Int.natAbs_neg,A6,Int.natAbs_natCast];omega))) O (Au O sizeOf59 O (AE.nil ?_)))))
 exact AD.subF (sL [4] O) (AD.then_ (AF.ret (AP O (A8 (i:=0) (cs:=A9 (a*b)) O O isAgg59 sizeOf59 O) (λw hw=>⟨rfl,hw.out⟩))))
theorem N2 (a b:Int) (ha:nw a.natAbs<=1099511627776) (hb:nw b.natAbs<=1099511627776) (w:World)  :Calls prog 204 #[(aG (A9 a)),(aG (A9 b))] w (Am w (vI ((a-b).sign))):=by
 refine Ac (args:=[(aG (A9 a)),(aG (A9 b))]) func204 O O (Ab O) (AF.subF (sL [0,1] O) (q4 (Bq (cs:=A9 a) O λb1=>Bq (cs:=A9 b) O λb2=>AK O ?_)))
 refine q3 (sL [2,3,4] O) (BD 1 Cy O (BD 0 Cy O (BV call234 (Sl a b (by first|omega|(simp only [Int.natAbs_neg,A6,Int.natAbs_natCast];omega)) (by first|omega|(simp only [Int.natAbs_neg,A6,Int.natAbs_natCast];omega))) O (BV call59 (JF (a-b)) O (AK O ?_)))))
 exact AE.nil (AD.subF (sL [4] O) (AD.then_ (AF.ret (AP O (Ad (v:=(vI ((a-b).sign))) O) (λw hw=>⟨rfl,hw.out⟩)))))
end
end Go.Proofs.YtfbomiejpbchdaaGreatDoor
