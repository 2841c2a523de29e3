import Derived.Test.YtfbomiejpbchdaaGreatPart06
import Derived.Test.YtfbomiejpbchdaaGreatPart15
import Derived.Test.YtfbomiejpbchdaaGreatPart16
namespace Go.Proofs.YtfbomiejpbchdaaGreat
open Go Go.RowKit Go.Proofs.Tryz
set_option linter.unusedVariables false
set_option linter.unusedSimpArgs false
section
set_option maxRecDepth 100000
theorem Fv {N v:Nat} (h:v<4294967296^N):val ((Cl N v).take N)=v:=by
 rw [List.take_of_length_le (by rw [Bl];exact Nat.le_refl _),FY _ _ h]
theorem RF {a b:Nat} (hb:0<nw b) (h:nw b<=nw a):a/b<4294967296^(nw a+1-nw b):=by
 have h1:=IJ hb
 have h2:=CE a
 rw [Nat.div_lt_iff_lt_mul (by have:=Nat.pow_pos (n:=nw b-1) (show 0<4294967296 by omega);omega)]
 have h3:4294967296^(nw a+1-nw b)*4294967296^(nw b-1)<=4294967296^(nw a+1-nw b)*b:=Nat.mul_le_mul_left _ h1
 rw [<-Nat.pow_add,show nw a+1-nw b+(nw b-1)=nw a by omega] at h3
 omega
theorem SM {a b:Nat}:a%b<4294967296^(nw a+1):=Nat.lt_of_le_of_lt (Nat.mod_le _ _) (Nat.lt_of_lt_of_le (CE a) (Nat.pow_le_pow_right Z Z))
theorem PA {b:Nat} (h:nw b=0):b=0:=by
 have:=CE b
 rw [h] at this
 omega
theorem XI {b:Nat} (h:nw b=1):(A_ b).getD 0 0=b/\b<4294967296:=by
 have h1:=CE b
 rw [h] at h1
 refine ⟨?_,Z⟩
 rw [Df Z,Hu,Nat.pow_zero,Nat.div_one,Nat.mod_eq_of_lt Z]
theorem Lj  :Instr.fill ([(0,1),(1,1)].toArray[·]?) (Aa 0).toArray []=some (Aa 0).toArray:=by kernel_rfl
theorem Pp (a b:Nat) (ha:nw a<=1099511627776) (hb:nw b<=1099511627776) (hb0:b≠0) (w:World)  :Calls prog 145 #[(aG (Aa a)),(aG (Aa b))] w (Av w (Value.tuple #[(aG (Aa (a/b))),(aG (Aa (a%b))),(Value.bool true)])):=by
 have hnb:nw b≠0:=λh=>hb0 (PA h)
 have hla:=CX a
 have hlb:=CX b
 refine Ag (args:=[(aG (Aa a)),(aG (Aa b))]) func145 O O (Ab O) (AF.subF (sL [0,1] O) (q4 (Bo (cs:=Aa a) O λb1=>Bo (cs:=Aa b) O λb2=>al GY O λb3=>?_)))
 refine al GY O λb4=>AO O (q6 (sL [2,3,4,5,6] O) (AF.block (q4 (A6 2 CK O ?_))))
 refine BW call193 (Q8 b) O (AO O (AE.nil (AC.subF (sL [2,3,4,5,6,12] O) (AC.then_ ?_))))
 refine AF.cond O (λhc0=>?_) (λhc0=>?_)
 ·replace hc0:=of_decide_eq_true hc0
  exact absurd hc0 hb0
 ·replace hc0:=of_decide_eq_false hc0
  refine q4 (A6 3 CK O (A6 2 CK O (BW call194 (UP a b Z Z) O (AI (Am (c:=(decide ((Fy a b)<(0:Int)))) O O O) O (AO O ?_)))))
  refine AE.nil (AC.subF (sL [2,3,4,5,6,17] O) (AC.then_ ?_))
  refine AF.cond O (λhc1=>?_) (λhc1=>?_)
  ·replace hc1:=of_decide_eq_true hc1
   rw [J0] at hc1
   have e1:a/b=0:=Nat.div_eq_of_lt hc1
   have e2:a%b=a:=Nat.mod_eq_of_lt hc1
   refine AF.seq (Cu [(0,true),(1,true),(2,false),(3,false),(4,true)] (sl (sl sr)) (Ax (v:=(aG (Aa 0))) O (Ad (zs:=Aa 0) (vs:=Aa 0) (pv:=[]) (places:=[(0,1),(1,1)]) zeroValue47 underlying47 (λw=>by simp [sizeOf9,sizeOf45]) O (Lj )) (EW 1 CK O (AV.imp O (Cq O sizeOf47 O ?_)))))
   refine AV.back (sl (sl sr)) (AV.imp O (Aq O sizeOf47 O (AV.back (sl (sl sr)) (Ev O (AV.nil ?_)))))
   exact AC.subF (sL [2,3,4,5,6] O) (AC.then_ (AF.ret (AC.in_ret (AC.then_ret (FA O (A7 (i:=1) (cs:=Aa 0) O O isAgg47 sizeOf47 O) (A7 (i:=0) (cs:=Aa a) O O isAgg47 sizeOf47 O) (Ak (v:=(Value.bool true)) O) (λw hw=>⟨by rw [e1,e2],hw.out⟩))))))
  ·replace hc1:=of_decide_eq_false hc1
   rw [J0] at hc1
   have hba:nw b<=nw a:=Dl Z
   refine q4 (AI (v:=(pP b1 1)) (AA O underlying47 O sizeOf9 O) O (BK 3 (Value.string (Bv a)) Sv O (AI (CG (c:=(decide (a<18446744073709551616))) O O Cx) O (AO O (AE.nil ?_)))))
   refine AC.subF (sL [2,3,4,5,6,24] O) (AC.then_ ?_)
   refine AF.cond O (λhc2=>?_) (λhc2=>?_)
   ·replace hc2:=of_decide_eq_true hc2
    have la:CJ a=a:=Bs hc2
    have lb:CJ b=b:=Bs Z
    have q1:a/b<18446744073709551616:=Nat.lt_of_le_of_lt (Nat.div_le_self _ _) hc2
    have q2:a%b<18446744073709551616:=Nat.lt_of_le_of_lt (Nat.mod_le _ _) hc2
    refine AF.seq (Cu [(0,true),(1,true),(2,true),(3,true),(4,true),(5,true),(6,true),(7,true),(8,true),(9,true),(10,true),(11,true),(12,false),(13,false),(14,true)] (sl (sl sr)) (Ax (v:=(pP b1 0)) O (AA O underlying47 O sizeOf45 O) (Bj 1 (vK .u64 (CJ a)) HV O (Ax (v:=(pP b2 0)) O (AA O underlying47 O sizeOf45 O) (Bj 0 (vK .u64 (CJ b)) HV O ?_)))))
    refine Ax O (G3 (c:=(((CJ a)/(CJ b):Nat):Int)) O O Z (Kx (a:=CJ a) (b:=CJ b) Z)) (Ax (v:=(aG ([(vK .u64 ((CJ a)/(CJ b))),(Value.string (Bv 0))]))) O (Ad (zs:=Aa 0) (vs:=[(vK .u64 ((CJ a)/(CJ b))),(Value.string (Bv 0))]) (pv:=[(0,(vK .u64 ((CJ a)/(CJ b))))]) (places:=[(0,1),(1,1)]) zeroValue47 underlying47 (λw=>by simp [sizeOf9,sizeOf45]) O O) (Ax (v:=(pP b1 0)) O (AA O underlying47 O sizeOf45 O) (Bj 1 (vK .u64 (CJ a)) HV O (Ax (v:=(pP b2 0)) O (AA O underlying47 O sizeOf45 O) (Bj 0 (vK .u64 (CJ b)) HV O ?_)))))
    refine Ax O (CC (c:=(((CJ a)%(CJ b):Nat):Int)) O O Z (H2 (a:=CJ a) (b:=CJ b))) (Ax (v:=(aG ([(vK .u64 ((CJ a)%(CJ b))),(Value.string (Bv 0))]))) O (Ad (zs:=Aa 0) (vs:=[(vK .u64 ((CJ a)%(CJ b))),(Value.string (Bv 0))]) (pv:=[(0,(vK .u64 ((CJ a)%(CJ b))))]) (places:=[(0,1),(1,1)]) zeroValue47 underlying47 (λw=>by simp [sizeOf9,sizeOf45]) O O) (AV.imp O (Cq O sizeOf47 O (AV.back (sl (sl sr)) (AV.imp O ?_)))))
    refine Aq O sizeOf47 O (AV.back (sl (sl sr)) (Ev O (AV.nil (AC.subF (sL [2,3,4,5,6] O) (AC.then_ ?_)))))
    exact AF.ret (AC.in_ret (AC.then_ret (FA O (A7 (i:=1) (cs:=[(vK .u64 ((CJ a)/(CJ b))),(Value.string (Bv 0))]) O O isAgg47 sizeOf47 O) (A7 (i:=0) (cs:=[(vK .u64 ((CJ a)%(CJ b))),(Value.string (Bv 0))]) O O isAgg47 sizeOf47 O) (Ak (v:=(Value.bool true)) O) (λw hw=>⟨by rw [Dp q1,Dp q2,la,lb];rfl,hw.out⟩))))
   ·replace hc2:=of_decide_eq_false hc2
    refine AF.skip (AC.in_normal (q2 (A6 2 CK O (AE.callB (V:=λb5=>(Value.slice (some ⟨b5,0,none⟩) (nw b) ((A_ b).length))) (T:=101) (cs:=Au (A_ b)) (AM O) (A8 (args:=[(aG (Aa b))]) O O call150) (λw hw=>DV b Z w) O (Ab O) λb5=>AO O ?_))))
    refine q6 (sL [2,3,4,5,6,7] O) (q4 (AR O (AI (v:=(vN (nw b))) (AG O underlying232) O (AI (BS (c:=(decide ((nw b)=1))) O O (Ot (a:=nw b) (b:=1))) O (AE.nil ?_)))))
    refine AC.subF (sL [2,3,4,5,6,7,44] O) (AC.then_ ?_)
    refine AF.cond O (λhc3=>?_) (λhc3=>?_)
    ·replace hc3:=of_decide_eq_true hc3
     obtain ⟨hy,hy2⟩:=XI hc3
     refine AF.seq (Cu [(0,true),(2,true),(3,true),(4,true),(1,false),(5,false),(6,true),(7,true),(8,true),(9,true),(10,true)] sr (EW 4 CK O (Bf O (Ax (v:=(pP b5 0)) O (AN (j:=0) O O underlying232 sizeOf101 O Z O) ?_))))
     have hx1:(A_ b).getD 0 0<4294967296:=W32.getD (CY b) 0
     refine Ax O (AK (i:=0) (v:=(vK .u32 ((A_ b).getD 0 0))) O O isAgg101 (BO (xs:=A_ b) (j:=0) Z)) (AV.imp O (AE.callB (V:=λb6=>(Value.slice (some ⟨b6,0,none⟩) (nw a) ((A_ a).length))) (T:=101) (cs:=Au (A_ a)) (AM O) (A8 (args:=[(aG (Aa a))]) O O call150) (λw hw=>DV a Z w) O (Ab O) λb6=>AV.back (sl sr) (AV.imp O (AE.callB (V:=λb7=>(Value.tuple #[(Value.slice (some ⟨b7,0,none⟩) (nw a) (nw a)),(vK .u32 (a%((A_ b).getD 0 0)))])) (T:=101) (cs:=Au (Cl (nw a) (a/((A_ b).getD 0 0)))) (AM O) (A8 (args:=[(Value.slice (some ⟨b6,0,none⟩) (nw a) ((A_ a).length)),(vK .u32 ((A_ b).getD 0 0))]) O O call195) (λw hw=>TW a ((A_ b).getD 0 0) _ _ Z Z Z w (hw.get (i:=0) O)) O (Ab O) λb7=>?_))))
     refine AV.back (sl (sl sr)) (Bf O (Ax O (AU (v:=(Value.slice (some ⟨b7,0,none⟩) (nw a) (nw a))) O O) (Ax O (AU (v:=(vK .u32 (a%((A_ b).getD 0 0)))) O O) (Ev O (Ev O ?_)))))
     refine AV.nil (AC.subF (sL [2,3,4,5,6,7,8,9] O) (q2 (AR O (Ew call149 (λw hw=>JM _ (nw a) (nw a) (Cl (nw a) (a/((A_ b).getD 0 0))) (D_ _ _) (by first|omega|(rw [Bl];omega)|simp|(simp;omega)) (by first|omega|simp|(simp;omega)) (by first|omega|simp|(simp;omega)) w (hw.get (i:=0) O)) O (AE.retell (k:=55) (u:=(aG (Aa (a/b)))) O (by rw [hy,Fv (Nat.lt_of_le_of_lt (Nat.div_le_self _ _) (CE a))]) ?_)))))
     refine AR O ?_
     have hmb:a%(A_ b).getD 0 0<4294967296:=by rw [hy];exact Nat.lt_of_lt_of_le (Nat.mod_lt _ Z) Z
     refine AI (A9 (c:=((a%((A_ b).getD 0 0):Nat):Int)) O underlying101 underlying45 (Bc Z)) O (AI (v:=(aG ([(vK .u64 (a%((A_ b).getD 0 0))),(Value.string (Bv 0))]))) (Ad (zs:=Aa 0) (vs:=[(vK .u64 (a%((A_ b).getD 0 0))),(Value.string (Bv 0))]) (pv:=[(0,(vK .u64 (a%((A_ b).getD 0 0))))]) (places:=[(0,1),(1,1)]) zeroValue47 underlying47 (λw=>by simp [sizeOf9,sizeOf45]) O O) O (AE.retell (k:=58) (u:=(aG (Aa (a%b)))) O (by rw [hy] at hmb ⊢;rw [Dp Z];rfl) (Eu 4 (off:=0) (vs:=Aa (a/b)) (cs':=Aa (a/b)) (AM O) O sizeOf47 O (Ka O sizeOf47 O (AO O ?_)))))
     exact AE.nil (AC.subF (sL [2,3,4,5,6,7] O) (AC.then_ (AF.ret (AC.then_ret (FA O (A7 (i:=4) (cs:=Aa (a/b)) O O isAgg47 sizeOf47 O) (A7 (i:=3) (cs:=Aa (a%b)) O O isAgg47 sizeOf47 O) (Ak (v:=(Value.bool true)) O) (λw hw=>⟨rfl,hw.out⟩))))))
    ·replace hc3:=of_decide_eq_false hc3
     refine AF.skip (q2 (A6 4 CK O (AE.callB (V:=λb6=>(Value.slice (some ⟨b6,0,none⟩) (nw a) ((A_ a).length))) (T:=101) (cs:=Au (A_ a)) (AM O) (A8 (args:=[(aG (Aa a))]) O O call150) (λw hw=>DV a Z w) O (Ab O) λb6=>AR O (AE.callBB (V:=λb7 b8=>(Value.tuple #[(Value.slice (some ⟨b7,0,none⟩) (nw a+1-nw b) (nw a+1-nw b)),(Value.slice (some ⟨b8,0,none⟩) (nw a+1) (nw a+1))])) (T:=101) (cs:=Au (Cl (nw a+1-nw b) (a/b))) (T2:=101) (cs2:=Au (Cl (nw a+1) (a%b))) (AM O) (A8 (args:=[(Value.slice (some ⟨b6,0,none⟩) (nw a) ((A_ a).length)),(Value.slice (some ⟨b5,0,none⟩) (nw b) ((A_ b).length))]) O O call196) (λw hw=>Vv a b _ _ _ _ Z Z Z w (hw.get (i:=0) O) (hw.get (i:=1) O)) O (Ab O) λb7 b8=>?_))))
     refine AR O (AI (AU (v:=(Value.slice (some ⟨b7,0,none⟩) (nw a+1-nw b) (nw a+1-nw b))) O O) O (AI (AU (v:=(Value.slice (some ⟨b8,0,none⟩) (nw a+1) (nw a+1))) O O) O (AO O (AO O (q3 (sL [2,3,4,5,6,7,10,11] O) ?_)))))
     refine AR O (Ew call149 (λw hw=>JM _ (nw a+1-nw b) (nw a+1-nw b) (Cl (nw a+1-nw b) (a/b)) (D_ _ _) (by first|omega|(rw [Bl];omega)|simp|(simp;omega)) (by first|omega|simp|(simp;omega)) (by first|omega|simp|(simp;omega)) w (hw.get (i:=0) O)) O (AE.retell (k:=67) (u:=(aG (Aa (a/b)))) O (by rw [Fv (RF Z hba)]) (AR O (Ew call149 (λw hw=>JM _ (nw a+1) (nw a+1) (Cl (nw a+1) (a%b)) (D_ _ _) (by first|omega|(rw [Bl];omega)|simp|(simp;omega)) (by first|omega|simp|(simp;omega)) (by first|omega|simp|(simp;omega)) w (hw.get (i:=1) O)) O (AE.retell (k:=69) (u:=(aG (Aa (a%b)))) O (by rw [Fv SM]) ?_)))))
     refine Eu 5 (off:=0) (vs:=Aa (a/b)) (cs':=Aa (a/b)) (AM O) O sizeOf47 O (Eu 4 (off:=0) (vs:=Aa (a%b)) (cs':=Aa (a%b)) (AM O) O sizeOf47 O (AO O (AE.nil (AC.subF (sL [2,3,4,5,6,7] O) (AC.then_ ?_)))))
     exact AF.ret (FA O (A7 (i:=5) (cs:=Aa (a/b)) O O isAgg47 sizeOf47 O) (A7 (i:=4) (cs:=Aa (a%b)) O O isAgg47 sizeOf47 O) (Ak (v:=(Value.bool true)) O) (λw hw=>⟨rfl,hw.out⟩))
theorem Ya (a b:Nat) (ha:nw a<=1099511627776) (hb:nw b<=1099511627776) (w:World)  :Calls prog 144 #[(aG (Aa a)),(aG (Aa b))] w (Av w (aG (Aa (Nat.gcd a b)))):=by
 refine Ag (args:=[(aG (Aa a)),(aG (Aa b))]) func144 O O (Ab O) (AF.subF (sL [0,1] O) (q4 (Bo (cs:=Aa a) O λb1=>Bo (cs:=Aa b) O λb2=>al GY O λb3=>?_)))
 refine q6 (sL [2,3,4] O) (AF.block ?_)
 refine AF.lp2 (tg λ(x:Nat) (y:Nat)=>Nat.gcd x y=Nat.gcd a b/\nw x<=1099511627776/\nw y<=1099511627776) (tg λ(x:Nat) (y:Nat)=>[(2,(pP b1 0)),(3,(pP b2 0)),(4,(pP b3 0))]) (tg λ(x:Nat) (y:Nat)=>[Af b3 47 (Aa 0),Af b2 47 (Aa y),Af b1 47 (Aa x)]) (tg λ(x:Nat) (y:Nat)=>y) a b (⟨rfl,ha,hb⟩) (sF O) sr (λx y hJ=>?_)
 obtain ⟨hg,hx,hy⟩:=hJ
 refine AF.seq (q4 (A6 1 CK O (BW call193 (Q8 y) O (AI (Bg (c:=(!(decide (y=0)))) O O) O (AE.nil ?_)))))
 refine AC.subF (sL [2,3,4,10] O) (AC.then_ ?_)
 refine AF.cond O (λhc0=>?_) (λhc0=>?_)
 ·simp only [Bool.and_eq_true,Bool.or_eq_true,Bool.and_eq_false_iff,Bool.or_eq_false_iff,Bool.not_eq_true',Bool.not_eq_false',decide_eq_true_eq,decide_eq_false_iff_not] at hc0
  refine AF.skip (AC.then_ (AF.block (q4 (A6 2 CK O (A6 1 CK O ?_)))))
  refine BW call145 (Pp x y Z Z Z) O (AR O (AI (AU (v:=(aG (Aa (x/y)))) O O) O (AI (AU (v:=(aG (Aa (x%y)))) O O) O (AI (AU (v:=(Value.bool true)) O O) O (al GY O λb4=>?_)))))
  refine al GY O λb5=>Cq O sizeOf47 O (Aq O sizeOf47 O (AO O (AE.nil (AC.subF (sL [2,3,4,6] O) ?_))))
  refine AC.then_ (Cu [(1,true),(0,false),(2,false),(3,false)] (sk (sk (sk (sl (sl sr))))) (EW 0 CK O (AV.imp O (A6 3 CK O (AV.back (sk (sk (sk (sl (sl sr))))) ?_)))))
  refine AV.imp O (Eu 4 (off:=0) (vs:=Aa y) (cs':=Aa y) (AM O) O sizeOf47 O (AV.back (sk (sk (sk (sl (sl sr))))) (AV.imp O (Ka O sizeOf47 O (AV.back (sk (sk (sk (sl (sl sr))))) ?_)))))
  exact AV.nil (AC.subF (sL [2,3,4,6] O) (AC.in_normal (AC.round2 y (x%y) (⟨by rw [<-hg,Nat.gcd_comm x y,Nat.gcd_rec y x,Nat.gcd_comm],hy,Nat.le_trans (Dl (Nat.mod_le _ _)) hx⟩) (Nat.mod_lt _ Z) (sF O) (sl (sl sr)))))
 ·simp only [Bool.and_eq_true,Bool.or_eq_true,Bool.and_eq_false_iff,Bool.or_eq_false_iff,Bool.not_eq_true',Bool.not_eq_false',decide_eq_true_eq,decide_eq_false_iff_not] at hc0
  have hy0:y=0:=by omega
  have hxg:x=Nat.gcd a b:=by rw [<-hg,hy0,Nat.gcd_zero_right]
  refine AF.exit (AC.then_exit (AC.round2_exit (AC.in_exit (q2 (A6 2 CK O ?_)))))
  exact Aq O sizeOf47 O (AE.nil (AC.subF (sL [2,3,4] O) (AC.then_ (AF.ret (AT O (A7 (i:=0) (cs:=Aa x) O O isAgg47 sizeOf47 O) (λw hw=>⟨by rw [hxg],hw.out⟩))))))
end
def FF (neg:Bool) (n:Nat):Int:=if neg then -(n:Int) else (n:Int)
theorem Se (n:Nat):BJ (FF true n)=Aa n++[.bool (!(decide (n=0)))]:=by
  simp only [BJ,Aa,FF,if_true,Int.natAbs_neg,Int.natAbs_natCast,List.cons_append,List.nil_append]
  have e:decide (-(n:Int)<0)=!(decide (n=0)):=by
    by_cases h:n=0
    · subst h;rfl
    · simp [h];omega
  rw [e]
theorem Sb (n:Nat):BJ (FF false n)=Aa n++[.bool false]:=by
  simp only [BJ,Aa,FF,Int.natAbs_natCast,List.cons_append,List.nil_append]
  have e:decide ((n:Int)<0)=false:=by simp
  simp [e]
theorem OJ (D a b:Nat):Ft prog (D+3) 49 (.agg (Aa a).toArray) (.agg (Aa b).toArray) (decide (a=b)):=by
  have h:=Ft.struct (D:=D+2) (xs:=Aa a) (ys:=Aa b) underlying49 Tryz.stoodInHeld49 (LT.agg (us:=Aa a) (bs:=Aa b) (by decide) isAgg47 sizeOf47 rfl rfl (HK D a b) LT.nil)
  simpa using h
theorem BC (neg:Bool) (n:Nat):(FF neg n).natAbs=n:=by cases neg<;>simp [FF]
theorem XL (a:Int):FF (!(decide (a<0))) a.natAbs = -a:=by
  unfold FF
  by_cases h:a<0
  · simp [h];omega
  · simp [h];omega
theorem Wz (a b:Int):FF (!(decide (a<0) == decide (b<0))) (a.natAbs*b.natAbs)=a*b:=by
  rw [<-Int.natAbs_mul]
  unfold FF
  by_cases h:a<0<;>by_cases h':b<0
  · have:=Int.mul_pos_of_neg_of_neg h h';simp [h,h'];omega
  · have:a*b<=0:=Int.mul_nonpos_of_nonpos_of_nonneg Z Z
    simp [h,h'];omega
  · have:a*b<=0:=Int.mul_nonpos_of_nonneg_of_nonpos Z Z
    simp [h,h'];omega
  · have:0<=a*b:=Int.mul_nonneg Z Z
    simp [h,h'];omega
theorem Ng {a b:Int} (h:(decide (a<0) == decide (b<0))=true):FF (decide (a<0)) (a.natAbs+b.natAbs)=a+b:=by
  unfold FF
  by_cases h1:a<0<;>by_cases h2:b<0<;>simp [h1,h2] at h ⊢<;>omega
theorem P4 {a b:Int} (h:(decide (a<0) == decide (b<0))=false) (h3:b.natAbs<=a.natAbs):FF (decide (a<0)) (a.natAbs-b.natAbs)=a+b:=by
  unfold FF
  by_cases h1:a<0<;>by_cases h2:b<0<;>simp [h1,h2] at h ⊢<;>omega
theorem O4 {a b:Int} (h:(decide (a<0) == decide (b<0))=false) (h3:¬b.natAbs<=a.natAbs):FF (decide (b<0)) (b.natAbs-a.natAbs)=a+b:=by
  unfold FF
  by_cases h1:a<0<;>by_cases h2:b<0<;>simp [h1,h2] at h ⊢<;>omega
theorem Zy {z:Int} (h:z<0) (h2:-9223372036854775808<=z):IntKind.u64.wrap (-(IntKind.u64.wrap z))=((z.natAbs:Nat):Int):=by
  simp only [IntKind.wrap,IntKind.bits,IntKind.signed];simp;omega
theorem KV {z:Int} (h:z<0):FF true z.natAbs=z:=by unfold FF;simp;omega
theorem RR {z:Int} (h:¬z<0):FF false z.natAbs=z:=by unfold FF;simp;omega
section
set_option maxRecDepth 100000
theorem Lo  :Instr.fill ([(0,2)].toArray[·]?) (Aa 0).toArray []=some (Aa 0).toArray:=by kernel_rfl
theorem ID (n:Nat) (w:World)  :Calls prog 182 #[(aG (Aa n))] w (Av w (Value.bool (decide (n=0)))):=by
 refine Ag (args:=[(aG (Aa n))]) func182 O O (Ab O) (AF.subF (sL [0] O) (q4 (Bo (cs:=Aa n) O λb1=>AO O (q3 (sL [1,2] O) ?_))))
 refine A6 0 R2 O (AI (v:=(aG (Aa 0))) (Ad (zs:=Aa 0) (vs:=Aa 0) (pv:=[]) (places:=[(0,2)]) zeroValue49 underlying49 (λw=>by simp [sizeOf47]) O (Lo )) O (AI (Bt (c:=(decide (n=0))) O O eqGuardType49 (OJ 9997 n 0)) O (AO O (AE.nil (AC.subF (sL [2] O) ?_)))))
 exact AC.then_ (AF.ret (AT O (Ak (v:=(Value.bool (decide (n=0)))) O) (λw hw=>⟨rfl,hw.out⟩)))
theorem FR (x0:Nat):Instr.fill ([(0,2)].toArray[·]?) (Aa 0).toArray [(0,.agg (Aa x0).toArray)]=some (Aa x0).toArray:=by kernel_rfl
theorem RM (n:Nat) (w:World)  :Calls prog 140 #[(Value.bool true),(aG (Aa n))] w (Av w (aG (BJ (FF true n)))):=by
 refine Ag (args:=[(Value.bool true),(aG (Aa n))]) func140 O O (Ab O) (AF.subF (sL [0,1] O) (q4 (Bo (cs:=Aa n) O λb1=>al Jb O λb2=>q3 (sL [0,3,4] O) ?_)))
 refine A6 1 CK O (AI (v:=(aG (Aa n))) (Ad (zs:=Aa 0) (vs:=Aa n) (pv:=[(0,(aG (Aa n)))]) (places:=[(0,2)]) zeroValue49 underlying49 (λw=>by simp [sizeOf47]) O (FR n)) O (al Zg O λb3=>Aq O sizeOf49 O (q6 (sL [0,4,5] O) (Cu [(0,true),(1,true),(2,true),(3,true),(4,false),(5,true),(6,true),(7,true),(8,false)] (sk (sl sr)) ?_))))
 refine EW 0 R2 O (Bf O (Bf O (AV.pas (v:=(aG (Aa n))) O (AB O) (Ac (i:=0) (vs:=Aa n) O O R2.a R2.s O O) O O (AV.imp O (AE.call (v:=(Value.bool (decide (n=0)))) (AB O) (A8 (args:=[(aG (Aa n))]) O O call182) (λw hw=>ID n w) O (Ab O) ?_)))))
 refine AV.back (sk (sl sr)) (AV.pas (v:=(Value.bool (!(decide (n=0))))) O (AB O) (Bg (c:=(!(decide (n=0)))) O O) O O (Ax (v:=(Value.bool (!(decide (n=0))))) O (Ah O O) (Ax (v:=(aG (Aa n++[(Value.bool (!(decide (n=0))))]))) O (Ad (zs:=BJ 0) (vs:=Aa n++[(Value.bool (!(decide (n=0))))]) (pv:=[(0,(aG (Aa n))),(1,(Value.bool (!(decide (n=0)))))]) (places:=[(0,2),(2,1)]) zeroValue51 underlying51 (λw=>by simp [sizeOf4,sizeOf49]) O O) (AV.imp O (Cq O sizeOf51 O ?_)))))
 exact AV.back (sk (sl sr)) (AV.nil (AC.subF (sL [4,5] O) (AC.then_ (AF.ret (AT O (A7 (i:=1) (cs:=Aa n++[(Value.bool (!(decide (n=0))))]) O O isAgg51 sizeOf51 O) (λw hw=>⟨by rw [Se],hw.out⟩))))))
theorem Ph (n:Nat) (w:World)  :Calls prog 140 #[(Value.bool false),(aG (Aa n))] w (Av w (aG (BJ (FF false n)))):=by
 refine Ag (args:=[(Value.bool false),(aG (Aa n))]) func140 O O (Ab O) (AF.subF (sL [0,1] O) (q4 (Bo (cs:=Aa n) O λb1=>al Jb O λb2=>q3 (sL [0,3,4] O) ?_)))
 refine A6 1 CK O (AI (v:=(aG (Aa n))) (Ad (zs:=Aa 0) (vs:=Aa n) (pv:=[(0,(aG (Aa n)))]) (places:=[(0,2)]) zeroValue49 underlying49 (λw=>by simp [sizeOf47]) O (FR n)) O (al Zg O λb3=>Aq O sizeOf49 O (q6 (sL [0,4,5] O) (Cu [(0,true),(1,true),(2,true),(3,true),(4,false),(5,true),(6,true),(7,true),(8,false)] (sk (sl sr)) ?_))))
 refine EW 0 R2 O (Bf O (Bf O (AV.skp O (AL O) O O (AV.imp O (AE.skip (AL O) O (Ab O) ?_)))))
 refine AV.back (sk (sl sr)) (AV.skp O (AL O) O O (Ax (v:=(Value.bool false)) O (AS O O) (Ax (v:=(aG (Aa n++[(Value.bool false)]))) O (Ad (zs:=BJ 0) (vs:=Aa n++[(Value.bool false)]) (pv:=[(0,(aG (Aa n))),(1,(Value.bool false))]) (places:=[(0,2),(2,1)]) zeroValue51 underlying51 (λw=>by simp [sizeOf4,sizeOf49]) O O) (AV.imp O (Cq O sizeOf51 O ?_)))))
 exact AV.back (sk (sl sr)) (AV.nil (AC.subF (sL [4,5] O) (AC.then_ (AF.ret (AT O (A7 (i:=1) (cs:=Aa n++[(Value.bool false)]) O O isAgg51 sizeOf51 O) (λw hw=>⟨by rw [Sb],hw.out⟩))))))
theorem ET (neg:Bool) (n:Nat) (w:World):Calls prog 140 #[.bool neg,.agg (Aa n).toArray] w (Av w (.agg (BJ (FF neg n)).toArray)):=by
 cases neg
 ·exact Ph n w
 ·exact RM n w
theorem Xw (z:Int) (hz:-9223372036854775808<=z) (hz2:z<9223372036854775808) (w:World)  :Calls prog 73 #[(vI z)] w (Av w (aG (BJ z))):=by
 refine Ag (args:=[(vI z)]) func73 O O (Ab O) (AF.subF (sL [0] O) (q4 (al Jb O λb1=>AE.nil (q1 ?_))))
 refine q4 (AR O (AI (Am (c:=(decide (z<(0:Int)))) O O O) O (AE.nil (AC.subF (sL [0,2,4] O) (AC.then_ ?_)))))
 refine AF.cond O (λhc0=>?_) (λhc0=>?_)
 ·replace hc0:=of_decide_eq_true hc0
  have he:=KV hc0
  refine q4 (AR O (AI (A9 (c:=(IntKind.u64.wrap z)) O underlying2 underlying45 (rfl)) O (AI (KY (c:=((z.natAbs:Nat):Int)) O (by rw [Int.zero_sub];exact Zy hc0 hz)) O (BW call147 (J2 z.natAbs Z) O (BW call140 (ET true z.natAbs) O ?_)))))
  exact Aq O sizeOf51 O (AE.nil (AC.subF (sL [0,2] O) (AC.then_ (AF.ret (AC.then_ret (AT O (A7 (i:=0) (cs:=BJ (FF true z.natAbs)) O O isAgg51 sizeOf51 O) (λw hw=>⟨by rw [he],hw.out⟩)))))))
 ·replace hc0:=of_decide_eq_false hc0
  have he:=RR hc0
  refine AF.skip (q2 (AR O (AI (A9 (c:=((z.natAbs:Nat):Int)) O underlying2 underlying45 (by rw [D6 Z Z];omega)) O (BW call147 (J2 z.natAbs Z) O (BW call140 (ET false z.natAbs) O ?_)))))
  exact Aq O sizeOf51 O (AE.nil (AC.subF (sL [0,2] O) (AC.then_ (AF.ret (AT O (A7 (i:=0) (cs:=BJ (FF false z.natAbs)) O O isAgg51 sizeOf51 O) (λw hw=>⟨by rw [he],hw.out⟩))))))
theorem Nf (a:Int) (w:World)  :Calls prog 141 #[(aG (BJ a))] w (Av w (aG (Aa a.natAbs))):=by
 refine Ag (args:=[(aG (BJ a))]) func141 O O (Ab O) (AF.subF (sL [0] O) (q4 (Bo (cs:=BJ a) O λb1=>al GY O λb2=>q3 (sL [1,2] O) ?_)))
 refine AI (v:=(pP b1 0)) (AA O underlying51 O sizeOf49 O) O (AI (v:=(pP b1 0)) (AA O underlying49 O sizeOf47 O) O (EX 1 (Aa a.natAbs) CK O (Aq O sizeOf47 O (AE.nil (AC.subF (sL [2] O) ?_)))))
 exact AC.then_ (AF.ret (AT O (A7 (i:=0) (cs:=Aa a.natAbs) O O isAgg47 sizeOf47 O) (λw hw=>⟨rfl,hw.out⟩)))
theorem KX (a:Int) (w:World)  :Calls prog 137 #[(aG (BJ a))] w (Av w (vI a.sign)):=by
 refine Ag (args:=[(aG (BJ a))]) func137 O O (Ab O) (AF.subF (sL [0] O) (q4 (Bo (cs:=BJ a) O λb1=>AO O (q6 (sL [1,2] O) ?_))))
 refine AF.block (q4 (AI (v:=(pP b1 0)) (AA O underlying51 O sizeOf49 O) O (EX 0 (Aa a.natAbs) R2 O (BW call182 (ID a.natAbs) O (AO O ?_)))))
 refine AE.nil (AC.subF (sL [1,2,3] O) (AC.then_ ?_))
 refine AF.cond O (λhc0=>?_) (λhc0=>?_)
 ·replace hc0:=of_decide_eq_true hc0
  have he:a.sign=0:=by rw [show a=0 by omega];rfl
  refine q4 (AO O (AE.nil (AC.then_ (AF.ret (AC.in_ret ?_)))))
  exact AC.then_ret (AT O (Ak (v:=(vI 0)) O) (λw hw=>⟨by rw [he],hw.out⟩))
 ·replace hc0:=of_decide_eq_false hc0
  refine q4 (AI (v:=(pP b1 2)) (AA O underlying51 O sizeOf4 O) O (BK 0 (Value.bool (decide (a<0))) VT O (AO O (AE.nil (AC.subF (sL [1,2,7] O) ?_)))))
  refine AC.then_ ?_
  refine AF.cond O (λhc1=>?_) (λhc1=>?_)
  ·replace hc1:=of_decide_eq_true hc1
   have he:a.sign = -1:=Int.sign_eq_neg_one_of_neg hc1
   refine q4 (AO O (AE.nil (AC.then_ (AF.ret (AC.in_ret ?_)))))
   exact AC.then_ret (AT O (Ak (v:=(vI (-1:Int))) O) (λw hw=>⟨by rw [he],hw.out⟩))
  ·replace hc1:=of_decide_eq_false hc1
   have he:a.sign=1:=Int.sign_eq_one_of_pos Z
   refine AF.skip (AC.in_normal (q2 (AO O (AE.nil (AC.then_ ?_)))))
   exact AF.ret (AT O (Ak (v:=(vI 1)) O) (λw hw=>⟨by rw [he],hw.out⟩))
theorem QI (a:Int) (w:World)  :Calls prog 201 #[(aG (BJ a))] w (Av w (aG (BJ (-a)))):=by
 refine Ag (args:=[(aG (BJ a))]) func201 O O (Ab O) (AF.subF (sL [0] O) (q4 (Bo (cs:=BJ a) O λb1=>al Jb O λb2=>q3 (sL [1,2] O) ?_)))
 refine AI (v:=(pP b1 2)) (AA O underlying51 O sizeOf4 O) O (BK 1 (Value.bool (decide (a<0))) VT O (AI (Bg (c:=(!(decide (a<0)))) O O) O (AI (v:=(pP b1 0)) (AA O underlying51 O sizeOf49 O) O (AI (v:=(pP b1 0)) (AA O underlying49 O sizeOf47 O) O (EX 1 (Aa a.natAbs) CK O ?_)))))
 exact BW call140 (ET (!(decide (a<0))) a.natAbs) O (Aq O sizeOf51 O (AE.nil (AC.subF (sL [2] O) (AC.then_ (AF.ret (AT O (A7 (i:=0) (cs:=BJ (FF (!(decide (a<0))) a.natAbs)) O O isAgg51 sizeOf51 O) (λw hw=>⟨by rw [XL],hw.out⟩)))))))
theorem VZ (a b:Int) (ha:nw a.natAbs<=1099511627776) (hb:nw b.natAbs<=1099511627776) (w:World)  :Calls prog 154 #[(aG (BJ a)),(aG (BJ b))] w (Av w (aG (BJ (a+b)))):=by
 refine Ag (args:=[(aG (BJ a)),(aG (BJ b))]) func154 O O (Ab O) (AF.subF (sL [0,1] O) (q4 (Bo (cs:=BJ a) O λb1=>Bo (cs:=BJ b) O λb2=>al Jb O λb3=>?_)))
 refine q6 (sL [2,3,4] O) (q4 (AI (v:=(pP b1 2)) (AA O underlying51 O sizeOf4 O) O (BK 2 (Value.bool (decide (a<0))) VT O (AI (v:=(pP b2 2)) (AA O underlying51 O sizeOf4 O) O (BK 1 (Value.bool (decide (b<0))) VT O ?_)))))
 refine AI (I8 (c:=(decide (a<0) == decide (b<0))) O O underlying4 O) O (AE.nil (AC.subF (sL [2,3,4,13] O) (AC.then_ ?_)))
 refine AF.cond O (λhc0=>?_) (λhc0=>?_)
 ·skip
  have he:=Ng hc0
  refine AF.seq (Cu [(0,true),(1,true),(2,true),(3,true),(4,true),(5,true),(6,true),(7,true),(8,false),(9,false),(10,false)] (sl sr) (Ax (v:=(pP b1 2)) O (AA O underlying51 O sizeOf4 O) (Bj 1 (Value.bool (decide (a<0))) VT O (Ax (v:=(pP b1 0)) O (AA O underlying51 O sizeOf49 O) (Ax (v:=(pP b1 0)) O (AA O underlying49 O sizeOf47 O) ?_)))))
  refine HU 1 (Aa a.natAbs) CK O (Ax (v:=(pP b2 0)) O (AA O underlying51 O sizeOf49 O) (Ax (v:=(pP b2 0)) O (AA O underlying49 O sizeOf47 O) (HU 0 (Aa b.natAbs) CK O (AV.imp O (BW call151 (TY a.natAbs b.natAbs Z Z) O ?_)))))
  refine AV.back (sl sr) (AV.imp O (BW call140 (ET (decide (a<0)) (a.natAbs+b.natAbs)) O (AV.back (sl sr) (AV.imp O (Aq O sizeOf51 O ?_)))))
  exact AV.back (sl sr) (AV.nil (AC.subF (sL [2,3,4] O) (AC.then_ (AF.ret (AC.then_ret (AT O (A7 (i:=0) (cs:=BJ (FF (decide (a<0)) (a.natAbs+b.natAbs))) O O isAgg51 sizeOf51 O) (λw hw=>⟨by rw [he],hw.out⟩)))))))
 ·skip
  refine AF.skip (q1 (q4 (AI (v:=(pP b1 0)) (AA O underlying51 O sizeOf49 O) O (AI (v:=(pP b1 0)) (AA O underlying49 O sizeOf47 O) O (EX 2 (Aa a.natAbs) CK O ?_)))))
  refine AI (v:=(pP b2 0)) (AA O underlying51 O sizeOf49 O) O (AI (v:=(pP b2 0)) (AA O underlying49 O sizeOf47 O) O (EX 1 (Aa b.natAbs) CK O (BW call146 (Pw a.natAbs b.natAbs Z Z) O (AR O (AI (AU (v:=(aG (Aa (a.natAbs-b.natAbs)))) O O) O ?_)))))
  refine AI (AU (v:=(Value.bool (decide (b.natAbs<=a.natAbs)))) O O) O (al GY O λb4=>Aq O sizeOf47 O (AO O (q3 (sL [2,3,4,5,6] O) (AR O ?_))))
  refine AE.nil (AC.subF (sL [2,3,4,5,34] O) (AC.then_ ?_))
  refine AF.cond O (λhc1=>?_) (λhc1=>?_)
  ·replace hc1:=of_decide_eq_true hc1
   have he:=P4 hc0 hc1
   refine q4 (AI (v:=(pP b1 2)) (AA O underlying51 O sizeOf4 O) O (BK 3 (Value.bool (decide (a<0))) VT O (A6 0 CK O (BW call140 (ET (decide (a<0)) (a.natAbs-b.natAbs)) O (Cq O sizeOf51 O ?_)))))
   exact AE.nil (AC.subF (sL [2,3,4,5] O) (AC.then_ (AF.ret (AC.then_ret (AT O (A7 (i:=1) (cs:=BJ (FF (decide (a<0)) (a.natAbs-b.natAbs))) O O isAgg51 sizeOf51 O) (λw hw=>⟨by rw [he],hw.out⟩))))))
  ·replace hc1:=of_decide_eq_false hc1
   have he:=O4 hc0 hc1
   refine AF.skip (q2 (AI (v:=(pP b2 0)) (AA O underlying51 O sizeOf49 O) O (AI (v:=(pP b2 0)) (AA O underlying49 O sizeOf47 O) O (EX 2 (Aa b.natAbs) CK O (AI (v:=(pP b1 0)) (AA O underlying51 O sizeOf49 O) O ?_)))))
   refine AI (v:=(pP b1 0)) (AA O underlying49 O sizeOf47 O) O (EX 3 (Aa a.natAbs) CK O (BW call146 (Pw b.natAbs a.natAbs Z Z) O (AR O (AI (AU (v:=(aG (Aa (b.natAbs-a.natAbs)))) O O) O (AI (AU (v:=(Value.bool (decide (a.natAbs<=b.natAbs)))) O O) O ?_)))))
   refine al GY O λb5=>Aq O sizeOf47 O (AO O (q3 (sL [2,3,4,5,7] O) (AI (v:=(pP b2 2)) (AA O underlying51 O sizeOf4 O) O (BK 3 (Value.bool (decide (b<0))) VT O ?_))))
   refine A6 0 CK O (BW call140 (ET (decide (b<0)) (b.natAbs-a.natAbs)) O (Kz O sizeOf51 O (AE.nil (AC.subF (sL [2,3,4,5,7] O) (AC.then_ ?_)))))
   exact AF.ret (AT O (A7 (i:=2) (cs:=BJ (FF (decide (b<0)) (b.natAbs-a.natAbs))) O O isAgg51 sizeOf51 O) (λw hw=>⟨by rw [he],hw.out⟩))
theorem Tl (a b:Int) (ha:nw a.natAbs<=1099511627776) (hb:nw b.natAbs<=1099511627776) (w:World)  :Calls prog 143 #[(aG (BJ a)),(aG (BJ b))] w (Av w (aG (BJ (a*b)))):=by
 refine Ag (args:=[(aG (BJ a)),(aG (BJ b))]) func143 O O (Ab O) (AF.subF (sL [0,1] O) (q4 (Bo (cs:=BJ a) O λb1=>Bo (cs:=BJ b) O λb2=>al Jb O λb3=>?_)))
 refine q6 (sL [2,3,4] O) (Cu [(0,true),(1,true),(2,true),(3,true),(4,true),(5,true),(6,true),(7,true),(8,true),(9,true),(10,true),(11,false),(12,false),(13,false)] (sl sr) (Ax (v:=(pP b1 2)) O (AA O underlying51 O sizeOf4 O) (Bj 1 (Value.bool (decide (a<0))) VT O (Ax (v:=(pP b2 2)) O (AA O underlying51 O sizeOf4 O) (Bj 0 (Value.bool (decide (b<0))) VT O ?_)))))
 refine Ax O (OT (c:=(!(decide (a<0) == decide (b<0)))) O O underlying4 O) (Ax (v:=(pP b1 0)) O (AA O underlying51 O sizeOf49 O) (Ax (v:=(pP b1 0)) O (AA O underlying49 O sizeOf47 O) (HU 1 (Aa a.natAbs) CK O (Ax (v:=(pP b2 0)) O (AA O underlying51 O sizeOf49 O) (Ax (v:=(pP b2 0)) O (AA O underlying49 O sizeOf47 O) ?_)))))
 refine HU 0 (Aa b.natAbs) CK O (AV.imp O (BW call71 (PM a.natAbs b.natAbs Z Z) O (AV.back (sl sr) (AV.imp O (BW call140 (ET (!(decide (a<0) == decide (b<0))) (a.natAbs*b.natAbs)) O ?_)))))
 refine AV.back (sl sr) (AV.imp O (Aq O sizeOf51 O (AV.back (sl sr) (AV.nil (AC.subF (sL [4] O) ?_)))))
 exact AC.then_ (AF.ret (AT O (A7 (i:=0) (cs:=BJ (FF (!(decide (a<0) == decide (b<0))) (a.natAbs*b.natAbs))) O O isAgg51 sizeOf51 O) (λw hw=>⟨by rw [Wz],hw.out⟩)))
theorem IF (a b:Int) (ha:nw a.natAbs<=1099511627776) (hb:nw b.natAbs<=1099511627776) (w:World)  :Calls prog 142 #[(Value.func (.func 154) #[] #[]),(aG (BJ a)),(aG (BJ b))] w (Av w (aG (BJ (a+b)))):=by
 refine Ag (args:=[(Value.func (.func 154) #[] #[]),(aG (BJ a)),(aG (BJ b))]) func142 O O (Ab O) (AF.subF (sL [0,1,2] O) (q4 (Bo (cs:=BJ a) O λb1=>Bo (cs:=BJ b) O λb2=>al Jb O λb3=>?_)))
 refine q3 (sL [0,4,5,6] O) (AR O (A6 2 Db O (A6 1 Db O (BW call154 (VZ a b (by first|omega|(simp only [Int.natAbs_neg,BC,Int.natAbs_natCast];omega)) (by first|omega|(simp only [Int.natAbs_neg,BC,Int.natAbs_natCast];omega))) O (Aq O sizeOf51 O ?_)))))
 exact AE.nil (AC.subF (sL [6] O) (AC.then_ (AF.ret (AT O (A7 (i:=0) (cs:=BJ (a+b)) O O isAgg51 sizeOf51 O) (λw hw=>⟨rfl,hw.out⟩)))))
theorem Lq (a b:Int) (ha:nw a.natAbs<=1099511627776) (hb:nw b.natAbs<=1099511627776) (w:World)  :Calls prog 142 #[(Value.func (.func 143) #[] #[]),(aG (BJ a)),(aG (BJ b))] w (Av w (aG (BJ (a*b)))):=by
 refine Ag (args:=[(Value.func (.func 143) #[] #[]),(aG (BJ a)),(aG (BJ b))]) func142 O O (Ab O) (AF.subF (sL [0,1,2] O) (q4 (Bo (cs:=BJ a) O λb1=>Bo (cs:=BJ b) O λb2=>al Jb O λb3=>?_)))
 refine q3 (sL [0,4,5,6] O) (AR O (A6 2 Db O (A6 1 Db O (BW call143 (Tl a b (by first|omega|(simp only [Int.natAbs_neg,BC,Int.natAbs_natCast];omega)) (by first|omega|(simp only [Int.natAbs_neg,BC,Int.natAbs_natCast];omega))) O (Aq O sizeOf51 O ?_)))))
 exact AE.nil (AC.subF (sL [6] O) (AC.then_ (AF.ret (AT O (A7 (i:=0) (cs:=BJ (a*b)) O O isAgg51 sizeOf51 O) (λw hw=>⟨rfl,hw.out⟩)))))
theorem NR (a b:Int) (ha:nw a.natAbs<=1099511627776) (hb:nw b.natAbs<=1099511627776) (w:World)  :Calls prog 82 #[(aG (BJ a)),(aG (BJ b))] w (Av w (aG (BJ (a+b)))):=by
 refine Ag (args:=[(aG (BJ a)),(aG (BJ b))]) func82 O O (Ab O) (AF.subF (sL [0,1] O) (q4 (Bo (cs:=BJ a) O λb1=>Bo (cs:=BJ b) O λb2=>al Jb O λb3=>?_)))
 refine q3 (sL [2,3,4] O) (A6 2 Db O (A6 1 Db O (BW call142 (IF a b (by first|omega|(simp only [Int.natAbs_neg,BC,Int.natAbs_natCast];omega)) (by first|omega|(simp only [Int.natAbs_neg,BC,Int.natAbs_natCast];omega))) O (Aq O sizeOf51 O (AE.nil ?_)))))
 exact AC.subF (sL [4] O) (AC.then_ (AF.ret (AT O (A7 (i:=0) (cs:=BJ (a+b)) O O isAgg51 sizeOf51 O) (λw hw=>⟨rfl,hw.out⟩))))
theorem W8 (a b:Int) (ha:nw a.natAbs<=1099511627776) (hb:nw b.natAbs<=1099511627776) (w:World)  :Calls prog 157 #[(aG (BJ a)),(aG (BJ b))] w (Av w (aG (BJ (a-b)))):=by
 refine Ag (args:=[(aG (BJ a)),(aG (BJ b))]) func157 O O (Ab O) (AF.subF (sL [0,1] O) (q4 (Bo (cs:=BJ a) O λb1=>Bo (cs:=BJ b) O λb2=>al Jb O λb3=>?_)))
 refine q6 (sL [2,3,4] O) (Cu [(0,true),(1,true),(2,false),(3,false),(4,false)] (sl sr) (EW 1 Db O (EW 0 Db O (AV.imp O (BW call201 (QI b) O ?_)))))
 refine AV.back (sl sr) (AV.imp O (BW call142 (IF a (-b) (by first|omega|(simp only [Int.natAbs_neg,BC,Int.natAbs_natCast];omega)) (by first|omega|(simp only [Int.natAbs_neg,BC,Int.natAbs_natCast];omega))) O (AV.back (sl sr) (AV.imp O (Aq O sizeOf51 O ?_)))))
 exact AV.back (sl sr) (AV.nil (AC.subF (sL [4] O) (AC.then_ (AF.ret (AT O (A7 (i:=0) (cs:=BJ (a+(-b))) O O isAgg51 sizeOf51 O) (λw hw=>⟨by rw [Int.sub_eq_add_neg],hw.out⟩))))))
theorem HP (a b:Int) (ha:nw a.natAbs<=1099511627776) (hb:nw b.natAbs<=1099511627776) (w:World)  :Calls prog 69 #[(aG (BJ a)),(aG (BJ b))] w (Av w (aG (BJ (a*b)))):=by
 refine Ag (args:=[(aG (BJ a)),(aG (BJ b))]) func69 O O (Ab O) (AF.subF (sL [0,1] O) (q4 (Bo (cs:=BJ a) O λb1=>Bo (cs:=BJ b) O λb2=>al Jb O λb3=>?_)))
 refine q3 (sL [2,3,4] O) (A6 2 Db O (A6 1 Db O (BW call142 (Lq a b (by first|omega|(simp only [Int.natAbs_neg,BC,Int.natAbs_natCast];omega)) (by first|omega|(simp only [Int.natAbs_neg,BC,Int.natAbs_natCast];omega))) O (Aq O sizeOf51 O (AE.nil ?_)))))
 exact AC.subF (sL [4] O) (AC.then_ (AF.ret (AT O (A7 (i:=0) (cs:=BJ (a*b)) O O isAgg51 sizeOf51 O) (λw hw=>⟨rfl,hw.out⟩))))
theorem QK (a b:Int) (ha:nw a.natAbs<=1099511627776) (hb:nw b.natAbs<=1099511627776) (w:World)  :Calls prog 94 #[(aG (BJ a)),(aG (BJ b))] w (Av w (vI ((a-b).sign))):=by
 refine Ag (args:=[(aG (BJ a)),(aG (BJ b))]) func94 O O (Ab O) (AF.subF (sL [0,1] O) (q4 (Bo (cs:=BJ a) O λb1=>Bo (cs:=BJ b) O λb2=>AO O ?_)))
 refine q3 (sL [2,3,4] O) (A6 1 Db O (A6 0 Db O (BW call157 (W8 a b (by first|omega|(simp only [Int.natAbs_neg,BC,Int.natAbs_natCast];omega)) (by first|omega|(simp only [Int.natAbs_neg,BC,Int.natAbs_natCast];omega))) O (BW call137 (KX (a-b)) O (AO O ?_)))))
 exact AE.nil (AC.subF (sL [4] O) (AC.then_ (AF.ret (AT O (Ak (v:=(vI ((a-b).sign))) O) (λw hw=>⟨rfl,hw.out⟩)))))
end
end Go.Proofs.YtfbomiejpbchdaaGreat
