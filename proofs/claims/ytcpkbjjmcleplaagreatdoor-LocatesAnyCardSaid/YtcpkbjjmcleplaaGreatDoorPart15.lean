import Derived.Test.YtcpkbjjmcleplaaGreatDoorPart14
namespace Go.Proofs.YtcpkbjjmcleplaaGreatDoor
open Go Go.RowKit Go.Proofs.Tryz
open Go.Value renaming slice→qz,bool→qa
set_option linter.unusedVariables false
set_option linter.unusedSimpArgs false
section
set_option maxRecDepth 100000
theorem Fz {N v:Nat} (h:v<4294967296^N):val ((CJ N v).take N)=v:=by
 rw [List.take_of_length_le (by rw [Be];exact Nat.le_refl _),Fg _ _ h]
theorem TW {a b:Nat} (hb:0<nw b) (h:nw b<=nw a):a/b<4294967296^(nw a+1-nw b):=by
 have h1:=Io hb
 have h2:=Bn a
 rw [Nat.div_lt_iff_lt_mul (by have:=Nat.pow_pos (n:=nw b-1) (show 0<4294967296 by omega);omega)]
 have h3:4294967296^(nw a+1-nw b)*4294967296^(nw b-1)<=4294967296^(nw a+1-nw b)*b:=Nat.mul_le_mul_left _ h1
 rw [<-Nat.pow_add,show nw a+1-nw b+(nw b-1)=nw a by omega] at h3
 omega
theorem Tf {a b:Nat}:a%b<4294967296^(nw a+1):=Nat.lt_of_le_of_lt (Nat.mod_le _ _) (Nat.lt_of_lt_of_le (Bn a) (Nat.pow_le_pow_right Z Z))
theorem Qe {b:Nat} (h:nw b=0):b=0:=by
 have:=Bn b
 rw [h] at this
 omega
theorem YZ {b:Nat} (h:nw b=1):(Au b).getD 0 0=b/\b<4294967296:=by
 have h1:=Bn b
 rw [h] at h1
 refine ⟨?_,Z⟩
 rw [Dj Z,Gv,Nat.pow_zero,Nat.div_one,Nat.mod_eq_of_lt Z]
theorem MR  :Instr.fill ([(0,1),(1,1)].toArray[·]?) (AT 0).toArray []=some (AT 0).toArray:=by kernel_rfl
theorem Pr (a b:Nat) (ha:nw a<=1099511627776) (hb:nw b<=1099511627776) (hb0:b≠0) (w:World)  :Calls prog 114 #[(aG (AT a)),(aG (AT b))] w (AY w (Value.tuple #[(aG (AT (a/b))),(aG (AT (a%b))),(qa true)])):=by
 have hnb:nw b≠0:=λh=>hb0 (Qe h)
 have hla:=CM a
 have hlb:=CM b
 refine AS (args:=[(aG (AT a)),(aG (AT b))]) func114 O O (leB O) (zG (sL [0,1] O) (q4 (A9 (cs:=AT a) O λb1=>A9 (cs:=AT b) O λb2=>al Gt O λb3=>al Gt O λb4=>asg' O (q6 (sL [2,3,4,5,6] O) (zN (q4 (Ah 2 B4 O ?_)))))))
 refine ck' call166 (SW b) O (asg' O (oNl' (zB (sL [2,3,4,5,6,12] O) (zA ?_))))
 refine zK O (λhc0=>?_) (λhc0=>?_)
 ·replace hc0:=xR hc0
  exact absurd hc0 hb0
 ·replace hc0:=xQ hc0
  refine q4 (Ah 3 B4 O (Ah 2 B4 O (ck' call167 (UJ a b Z Z) O (st' (Ag (c:=(decide ((Da a b)<(0:Int)))) O O O) O (asg' O (oNl' (zB (sL [2,3,4,5,6,17] O) (zA ?_))))))))
  refine zK O (λhc1=>?_) (λhc1=>?_)
  ·replace hc1:=xR hc1
   rw [Fm] at hc1
   have e1:a/b=0:=Nat.div_eq_of_lt hc1
   have e2:a%b=a:=Nat.mod_eq_of_lt hc1
   refine zV (B8 [(0,true),(1,true),(2,false),(3,false),(4,true)] (sl (sl sr)) (Ao (v:=(aG (AT 0))) O (AR (zs:=AT 0) (vs:=AT 0) (pv:=[]) (places:=[(0,1),(1,1)]) zeroValue54 underlying54 (λw=>by simp [sizeOf9,sizeOf52]) O (MR )) (Bv 1 B4 O (zD O (DG O sizeOf54 O (zC (sl (sl sr)) (zD O (Am O sizeOf54 O (zC (sl (sl sr)) (pS' O (zP ?_)))))))))))
   exact zB (sL [2,3,4,5,6] O) (zA (zF (zT (zH (DD O (Aa (i:=1) (cs:=AT 0) O O isAgg54 sizeOf54 O) (Aa (i:=0) (cs:=AT a) O O isAgg54 sizeOf54 O) (rd_tmp (v:=(qa true)) O) (λw hw=>⟨by rw [e1,e2],hw.out⟩))))))
  ·replace hc1:=xQ hc1
   rw [Fm] at hc1
   have hba:nw b<=nw a:=Ct Z
   refine q4 (st' (v:=(pP b1 1)) (AA O underlying54 O sizeOf9 O) O (BZ 3 (Value.string (Bp a)) Tx O (st' (Bc (c:=(decide (a<18446744073709551616))) O O Cd) O (asg' O (oNl' (zB (sL [2,3,4,5,6,24] O) (zA ?_)))))))
   refine zK O (λhc2=>?_) (λhc2=>?_)
   ·replace hc2:=xR hc2
    have la:B7 a=a:=Bj hc2
    have lb:B7 b=b:=Bj Z
    have q1:a/b<18446744073709551616:=Nat.lt_of_le_of_lt (Nat.div_le_self _ _) hc2
    have q2:a%b<18446744073709551616:=Nat.lt_of_le_of_lt (Nat.mod_le _ _) hc2
    refine zV (B8 (Ed 12++[(12,false),(13,false),(14,true)]) (sl (sl sr)) (Ao (v:=(pP b1 0)) O (AA O underlying54 O sizeOf52 O) (Cm 1 (vK .u64 (B7 a)) G6 O (Ao (v:=(pP b2 0)) O (AA O underlying54 O sizeOf52 O) (Cm 0 (vK .u64 (B7 b)) G6 O (Ao O (FR (c:=(((B7 a)/(B7 b):Nat):Int)) O O Z (Iu (a:=B7 a) (b:=B7 b) Z)) (Ao (v:=(aG ([(vK .u64 ((B7 a)/(B7 b))),(Value.string (Bp 0))]))) O (AR (zs:=AT 0) (vs:=[(vK .u64 ((B7 a)/(B7 b))),(Value.string (Bp 0))]) (pv:=[(0,(vK .u64 ((B7 a)/(B7 b))))]) (places:=[(0,1),(1,1)]) zeroValue54 underlying54 (λw=>by simp [sizeOf9,sizeOf52]) O O) (Ao (v:=(pP b1 0)) O (AA O underlying54 O sizeOf52 O) (Cm 1 (vK .u64 (B7 a)) G6 O (Ao (v:=(pP b2 0)) O (AA O underlying54 O sizeOf52 O) (Cm 0 (vK .u64 (B7 b)) G6 O ?_)))))))))))
    refine Ao O (HG (c:=(((B7 a)%(B7 b):Nat):Int)) O O Z (PH (a:=B7 a) (b:=B7 b))) (Ao (v:=(aG ([(vK .u64 ((B7 a)%(B7 b))),(Value.string (Bp 0))]))) O (AR (zs:=AT 0) (vs:=[(vK .u64 ((B7 a)%(B7 b))),(Value.string (Bp 0))]) (pv:=[(0,(vK .u64 ((B7 a)%(B7 b))))]) (places:=[(0,1),(1,1)]) zeroValue54 underlying54 (λw=>by simp [sizeOf9,sizeOf52]) O O) (zD O (DG O sizeOf54 O (zC (sl (sl sr)) (zD O (Am O sizeOf54 O (zC (sl (sl sr)) (pS' O (zP (zB (sL [2,3,4,5,6] O) (zA ?_)))))))))))
    exact zF (zT (zH (DD O (Aa (i:=1) (cs:=[(vK .u64 ((B7 a)/(B7 b))),(Value.string (Bp 0))]) O O isAgg54 sizeOf54 O) (Aa (i:=0) (cs:=[(vK .u64 ((B7 a)%(B7 b))),(Value.string (Bp 0))]) O O isAgg54 sizeOf54 O) (rd_tmp (v:=(qa true)) O) (λw hw=>⟨by rw [D7 q1,D7 q2,la,lb];rfl,hw.out⟩))))
   ·replace hc2:=xQ hc2
    refine zI (zM (q2 (Ah 2 B4 O (zx (V:=λb5=>(qz (jk b5) (nw b) ((Au b).length))) (T:=27) (cs:=Ak (Au b)) (AJ O) (Ac (args:=[(aG (AT b))]) O O call85) (λw hw=>DV b Z w) O (leB O) λb5=>asg' O (q6 (sL [2,3,4,5,6,7] O) (q4 (AL O (st' (v:=(vN (nw b))) (AD O underlying169) O (st' (Az (c:=(decide ((nw b)=1))) O O (OI (a:=nw b) (b:=1))) O (oNl' ?_))))))))))
    refine zB (sL [2,3,4,5,6,7,44] O) (zA ?_)
    refine zK O (λhc3=>?_) (λhc3=>?_)
    ·replace hc3:=xR hc3
     obtain ⟨hy,hy2⟩:=YZ hc3
     refine zV (B8 [(0,true),(2,true),(3,true),(4,true),(1,false),(5,false),(6,true),(7,true),(8,true),(9,true),(10,true)] sr (Bv 4 B4 O (Bq O (Ao (v:=(pP b5 0)) O (AG (j:=0) O O underlying169 sizeOf27 O Z O) ?_))))
     have hx1:(Au b).getD 0 0<4294967296:=W32.getD (CR b) 0
     refine Ao O (AP (i:=0) (v:=(vK .u32 ((Au b).getD 0 0))) O O isAgg27 (BC (xs:=Au b) (j:=0) Z)) (zD O (zx (V:=λb6=>(qz (jk b6) (nw a) ((Au a).length))) (T:=27) (cs:=Ak (Au a)) (AJ O) (Ac (args:=[(aG (AT a))]) O O call85) (λw hw=>DV a Z w) O (leB O) λb6=>zC (sl sr) (zD O (zx (V:=λb7=>(Value.tuple #[(qz (jk b7) (nw a) (nw a)),(vK .u32 (a%((Au b).getD 0 0)))])) (T:=27) (cs:=Ak (CJ (nw a) (a/((Au b).getD 0 0)))) (AJ O) (Ac (args:=[(qz (jk b6) (nw a) ((Au a).length)),(vK .u32 ((Au b).getD 0 0))]) O O call86) (λw hw=>WT a ((Au b).getD 0 0) _ _ Z Z Z w (hw.get (i:=0) O)) O (leB O) λb7=>zC (sl (sl sr)) (Bq O (Ao O (AH (v:=(qz (jk b7) (nw a) (nw a))) O O) (Ao O (AH (v:=(vK .u32 (a%((Au b).getD 0 0)))) O O) (pS' O (pS' O ?_)))))))))
     refine zP (zB (sL [2,3,4,5,6,7,8,9] O) (q2 (AL O (CC call124 (λw hw=>Jv _ (nw a) (nw a) (CJ (nw a) (a/((Au b).getD 0 0))) (Dk _ _) (by first|omega|(rw [Be];omega)|simp|(simp;omega)) (by first|omega|simp|(simp;omega)) (by first|omega|simp|(simp;omega)) w (hw.get (i:=0) O)) O (zJ (k:=55) (u:=(aG (AT (a/b)))) O (by rw [hy,Fz (Nat.lt_of_le_of_lt (Nat.div_le_self _ _) (Bn a))]) (AL O ?_))))))
     have hmb:a%(Au b).getD 0 0<4294967296:=by rw [hy];exact Nat.lt_of_lt_of_le (Nat.mod_lt _ Z) Z
     exact st' (An (c:=((a%((Au b).getD 0 0):Nat):Int)) O underlying27 underlying52 (BO Z)) O (st' (v:=(aG ([(vK .u64 (a%((Au b).getD 0 0))),(Value.string (Bp 0))]))) (AR (zs:=AT 0) (vs:=[(vK .u64 (a%((Au b).getD 0 0))),(Value.string (Bp 0))]) (pv:=[(0,(vK .u64 (a%((Au b).getD 0 0))))]) (places:=[(0,1),(1,1)]) zeroValue54 underlying54 (λw=>by simp [sizeOf9,sizeOf52]) O O) O (zJ (k:=58) (u:=(aG (AT (a%b)))) O (by rw [hy] at hmb ⊢;rw [D7 Z];rfl) (EV 4 (off:=0) (vs:=AT (a/b)) (cs':=AT (a/b)) (AJ O) O sizeOf54 O (Fd O sizeOf54 O (asg' O (oNl' (zB (sL [2,3,4,5,6,7] O) (zA (zF (zH (DD O (Aa (i:=4) (cs:=AT (a/b)) O O isAgg54 sizeOf54 O) (Aa (i:=3) (cs:=AT (a%b)) O O isAgg54 sizeOf54 O) (rd_tmp (v:=(qa true)) O) (λw hw=>⟨rfl,hw.out⟩))))))))))))
    ·replace hc3:=xQ hc3
     refine zI (q2 (Ah 4 B4 O (zx (V:=λb6=>(qz (jk b6) (nw a) ((Au a).length))) (T:=27) (cs:=Ak (Au a)) (AJ O) (Ac (args:=[(aG (AT a))]) O O call85) (λw hw=>DV a Z w) O (leB O) λb6=>AL O (AO.callBB (V:=λb7 b8=>(Value.tuple #[(qz (jk b7) (nw a+1-nw b) (nw a+1-nw b)),(qz (jk b8) (nw a+1) (nw a+1))])) (T:=27) (cs:=Ak (CJ (nw a+1-nw b) (a/b))) (T2:=27) (cs2:=Ak (CJ (nw a+1) (a%b))) (AJ O) (Ac (args:=[(qz (jk b6) (nw a) ((Au a).length)),(qz (jk b5) (nw b) ((Au b).length))]) O O call168) (λw hw=>YF a b _ _ _ _ Z Z Z w (hw.get (i:=0) O) (hw.get (i:=1) O)) O (leB O) λb7 b8=>AL O (st' (AH (v:=(qz (jk b7) (nw a+1-nw b) (nw a+1-nw b))) O O) O (st' (AH (v:=(qz (jk b8) (nw a+1) (nw a+1))) O O) O (asg' O (asg' O (q3 (sL [2,3,4,5,6,7,10,11] O) ?_)))))))))
     refine AL O (CC call124 (λw hw=>Jv _ (nw a+1-nw b) (nw a+1-nw b) (CJ (nw a+1-nw b) (a/b)) (Dk _ _) (by first|omega|(rw [Be];omega)|simp|(simp;omega)) (by first|omega|simp|(simp;omega)) (by first|omega|simp|(simp;omega)) w (hw.get (i:=0) O)) O (zJ (k:=67) (u:=(aG (AT (a/b)))) O (by rw [Fz (TW Z hba)]) (AL O (CC call124 (λw hw=>Jv _ (nw a+1) (nw a+1) (CJ (nw a+1) (a%b)) (Dk _ _) (by first|omega|(rw [Be];omega)|simp|(simp;omega)) (by first|omega|simp|(simp;omega)) (by first|omega|simp|(simp;omega)) w (hw.get (i:=1) O)) O (zJ (k:=69) (u:=(aG (AT (a%b)))) O (by rw [Fz Tf]) (EV 5 (off:=0) (vs:=AT (a/b)) (cs':=AT (a/b)) (AJ O) O sizeOf54 O (EV 4 (off:=0) (vs:=AT (a%b)) (cs':=AT (a%b)) (AJ O) O sizeOf54 O (asg' O (oNl' (zB (sL [2,3,4,5,6,7] O) (zA ?_)))))))))))
     exact zF (DD O (Aa (i:=5) (cs:=AT (a/b)) O O isAgg54 sizeOf54 O) (Aa (i:=4) (cs:=AT (a%b)) O O isAgg54 sizeOf54 O) (rd_tmp (v:=(qa true)) O) (λw hw=>⟨rfl,hw.out⟩))
theorem Zp (a b:Nat) (ha:nw a<=1099511627776) (hb:nw b<=1099511627776) (w:World)  :Calls prog 113 #[(aG (AT a)),(aG (AT b))] w (AY w (aG (AT (Nat.gcd a b)))):=by
 refine AS (args:=[(aG (AT a)),(aG (AT b))]) func113 O O (leB O) (zG (sL [0,1] O) (q4 (A9 (cs:=AT a) O λb1=>A9 (cs:=AT b) O λb2=>al Gt O λb3=>q6 (sL [2,3,4] O) (zN ?_))))
 refine yE (tg λ(x:Nat) (y:Nat)=>Nat.gcd x y=Nat.gcd a b/\nw x<=1099511627776/\nw y<=1099511627776) (tg λ(x:Nat) (y:Nat)=>[(2,(pP b1 0)),(3,(pP b2 0)),(4,(pP b3 0))]) (tg λ(x:Nat) (y:Nat)=>[AQ b3 54 (AT 0),AQ b2 54 (AT y),AQ b1 54 (AT x)]) (tg λ(x:Nat) (y:Nat)=>y) a b (⟨rfl,ha,hb⟩) (sF O) sr (λx y hJ=>?_)
 obtain ⟨hg,hx,hy⟩:=hJ
 refine zV (q4 (Ah 1 B4 O (ck' call166 (SW y) O (st' (Bh (c:=(!(decide (y=0)))) O O) O (oNl' (zB (sL [2,3,4,10] O) (zA ?_)))))))
 refine zK O (λhc0=>?_) (λhc0=>?_)
 ·simp only [jK] at hc0
  refine zI (zA (zN (q4 (Ah 2 B4 O (Ah 1 B4 O (ck' call114 (Pr x y Z Z Z) O (AL O (st' (AH (v:=(aG (AT (x/y)))) O O) O (st' (AH (v:=(aG (AT (x%y)))) O O) O (st' (AH (v:=(qa true)) O O) O (al Gt O λb4=>?_)))))))))))
  refine al Gt O λb5=>DG O sizeOf54 O (Am O sizeOf54 O (asg' O (oNl' (zB (sL [2,3,4,6] O) (zA (B8 [(1,true),(0,false),(2,false),(3,false)] (sk (sk (sk (sl (sl sr))))) (Bv 0 B4 O (zD O (Ah 3 B4 O (zC (sk (sk (sk (sl (sl sr))))) ?_))))))))))
  exact zD O (EV 4 (off:=0) (vs:=AT y) (cs':=AT y) (AJ O) O sizeOf54 O (zC (sk (sk (sk (sl (sl sr))))) (zD O (Fd O sizeOf54 O (zC (sk (sk (sk (sl (sl sr))))) (zP (zB (sL [2,3,4,6] O) (zM (zl y (x%y) (⟨by rw [<-hg,Nat.gcd_comm x y,Nat.gcd_rec y x,Nat.gcd_comm],hy,xK (Ct (Nat.mod_le _ _)) hx⟩) (Nat.mod_lt _ Z) (sF O) (sl (sl sr)))))))))))
 ·simp only [jK] at hc0
  have hy0:y=0:=by omega
  have hxg:x=Nat.gcd a b:=by rw [<-hg,hy0,Nat.gcd_zero_right]
  exact zW (zO (zh (zR (q2 (Ah 2 B4 O (Am O sizeOf54 O (oNl' (zB (sL [2,3,4] O) (zA (zF (ret_one O (Aa (i:=0) (cs:=AT x) O O isAgg54 sizeOf54 O) (λw hw=>⟨by rw [hxg],hw.out⟩))))))))))))
end
def EB (neg:Bool) (n:Nat):Int:=if neg then -(n:Int) else (n:Int)
theorem VR (n:Nat):Ax (EB true n)=AT n++[.bool (!(decide (n=0)))]:=by
  simp only [Ax,AT,EB,if_true,Int.natAbs_neg,Int.natAbs_natCast,List.cons_append,List.nil_append]
  have e:decide (-(n:Int)<0)=!(decide (n=0)):=by
    by_cases h:n=0
    · subst h;rfl
    · simp [h];omega
  rw [e]
theorem VS (n:Nat):Ax (EB false n)=AT n++[.bool false]:=by
  simp only [Ax,AT,EB,Int.natAbs_natCast,List.cons_append,List.nil_append]
  have e:decide ((n:Int)<0)=false:=by simp
  simp [e]
theorem Ot (D a b:Nat):Jg prog (D+3) 56 (.agg (AT a).toArray) (.agg (AT b).toArray) (decide (a=b)):=by
  have h:=Jg.struct (D:=D+2) (xs:=AT a) (ys:=AT b) underlying56 Tryz.stoodInHeld56 (KY.agg (us:=AT a) (bs:=AT b) jY isAgg54 sizeOf54 rfl rfl (Hi D a b) KY.nil)
  simpa using h
theorem Aq (neg:Bool) (n:Nat):(EB neg n).natAbs=n:=by cases neg<;>simp [EB]
theorem Rt (a:Int):EB (!(decide (a<0))) a.natAbs = -a:=by
  unfold EB
  by_cases h:a<0
  · simp [h];omega
  · simp [h];omega
theorem Rs (a b:Int):EB (!(decide (a<0) == decide (b<0))) (a.natAbs*b.natAbs)=a*b:=by
  rw [<-Int.natAbs_mul]
  unfold EB
  by_cases h:a<0<;>by_cases h':b<0
  · have:=Int.mul_pos_of_neg_of_neg h h';simp [h,h'];omega
  · have:a*b<=0:=Int.mul_nonpos_of_nonpos_of_nonneg Z Z
    simp [h,h'];omega
  · have:a*b<=0:=Int.mul_nonpos_of_nonneg_of_nonpos Z Z
    simp [h,h'];omega
  · have:0<=a*b:=Int.mul_nonneg Z Z
    simp [h,h'];omega
theorem Ie {a b:Int} (h:(decide (a<0) == decide (b<0))=true):EB (decide (a<0)) (a.natAbs+b.natAbs)=a+b:=by
  unfold EB
  by_cases h1:a<0<;>by_cases h2:b<0<;>simp [h1,h2] at h ⊢<;>omega
theorem K7 {a b:Int} (h:(decide (a<0) == decide (b<0))=false) (h3:b.natAbs<=a.natAbs):EB (decide (a<0)) (a.natAbs-b.natAbs)=a+b:=by
  unfold EB
  by_cases h1:a<0<;>by_cases h2:b<0<;>simp [h1,h2] at h ⊢<;>omega
theorem K8 {a b:Int} (h:(decide (a<0) == decide (b<0))=false) (h3:¬b.natAbs<=a.natAbs):EB (decide (b<0)) (b.natAbs-a.natAbs)=a+b:=by
  unfold EB
  by_cases h1:a<0<;>by_cases h2:b<0<;>simp [h1,h2] at h ⊢<;>omega
theorem eh {z:Int} (h:z<0) (h2:-9223372036854775808<=z):IntKind.u64.wrap (-(IntKind.u64.wrap z))=((z.natAbs:Nat):Int):=by
  simp only [IntKind.wrap,IntKind.bits,IntKind.signed];simp;omega
theorem HO {z:Int} (h:z<0):EB true z.natAbs=z:=by unfold EB;simp;omega
theorem Mz {z:Int} (h:¬z<0):EB false z.natAbs=z:=by unfold EB;simp;omega
section
set_option maxRecDepth 100000
theorem MS  :Instr.fill ([(0,2)].toArray[·]?) (AT 0).toArray []=some (AT 0).toArray:=by kernel_rfl
theorem I1 (n:Nat) (w:World)  :Calls prog 116 #[(aG (AT n))] w (AY w (qa (decide (n=0)))):=by
 refine AS (args:=[(aG (AT n))]) func116 O O (leB O) (zG (sL [0] O) (q4 (A9 (cs:=AT n) O λb1=>asg' O (q3 (sL [1,2] O) (Ah 0 Tu O (st' (v:=(aG (AT 0))) (AR (zs:=AT 0) (vs:=AT 0) (pv:=[]) (places:=[(0,2)]) zeroValue56 underlying56 (λw=>by simp [sizeOf54]) O (MS )) O (st' (Cg (c:=(decide (n=0))) O O eqGuardType56 (Ot 9997 n 0)) O (asg' O (oNl' (zB (sL [2] O) ?_))))))))))
 exact zA (zF (ret_one O (rd_tmp (v:=(qa (decide (n=0)))) O) (λw hw=>⟨rfl,hw.out⟩)))
theorem FU (x0:Nat):Instr.fill ([(0,2)].toArray[·]?) (AT 0).toArray [(0,.agg (AT x0).toArray)]=some (AT x0).toArray:=by kernel_rfl
theorem Sa (n:Nat) (w:World)  :Calls prog 65 #[(qa true),(aG (AT n))] w (AY w (aG (Ax (EB true n)))):=by
 refine AS (args:=[(qa true),(aG (AT n))]) func65 O O (leB O) (zG (sL [0,1] O) (q4 (A9 (cs:=AT n) O λb1=>al KB O λb2=>q3 (sL [0,3,4] O) (Ah 1 B4 O (st' (v:=(aG (AT n))) (AR (zs:=AT 0) (vs:=AT n) (pv:=[(0,(aG (AT n)))]) (places:=[(0,2)]) zeroValue56 underlying56 (λw=>by simp [sizeOf54]) O (FU n)) O (al dW O λb3=>Am O sizeOf56 O (q6 (sL [0,4,5] O) (B8 (Ed 4++[(4,false),(5,true),(6,true),(7,true),(8,false)]) (sk (sl sr)) ?_))))))))
 refine Bv 0 Tu O (Bq O (Bq O (zQ (v:=(aG (AT n))) O (AE O) (AW (i:=0) (vs:=AT n) O O Tu.a Tu.s O O) O O (zD O (zc (v:=(qa (decide (n=0)))) (AE O) (Ac (args:=[(aG (AT n))]) O O call116) (λw hw=>I1 n w) O (leB O) (zC (sk (sl sr)) (zQ (v:=(qa (!(decide (n=0))))) O (AE O) (Bh (c:=(!(decide (n=0)))) O O) O O (Ao (v:=(qa (!(decide (n=0))))) O (ex_pick_true O O) (Ao (v:=(aG (AT n++[(qa (!(decide (n=0))))]))) O (AR (zs:=Ax 0) (vs:=AT n++[(qa (!(decide (n=0))))]) (pv:=[(0,(aG (AT n))),(1,(qa (!(decide (n=0)))))]) (places:=[(0,2),(2,1)]) zeroValue58 underlying58 (λw=>by simp [sizeOf4,sizeOf56]) O O) (zD O (DG O sizeOf58 O ?_)))))))))))
 exact zC (sk (sl sr)) (zP (zB (sL [4,5] O) (zA (zF (ret_one O (Aa (i:=1) (cs:=AT n++[(qa (!(decide (n=0))))]) O O isAgg58 sizeOf58 O) (λw hw=>⟨by rw [VR],hw.out⟩))))))
theorem Ps (n:Nat) (w:World)  :Calls prog 65 #[(qa false),(aG (AT n))] w (AY w (aG (Ax (EB false n)))):=by
 refine AS (args:=[(qa false),(aG (AT n))]) func65 O O (leB O) (zG (sL [0,1] O) (q4 (A9 (cs:=AT n) O λb1=>al KB O λb2=>q3 (sL [0,3,4] O) (Ah 1 B4 O (st' (v:=(aG (AT n))) (AR (zs:=AT 0) (vs:=AT n) (pv:=[(0,(aG (AT n)))]) (places:=[(0,2)]) zeroValue56 underlying56 (λw=>by simp [sizeOf54]) O (FU n)) O (al dW O λb3=>Am O sizeOf56 O (q6 (sL [0,4,5] O) (B8 (Ed 4++[(4,false),(5,true),(6,true),(7,true),(8,false)]) (sk (sl sr)) ?_))))))))
 refine Bv 0 Tu O (Bq O (Bq O (zZ O (Aw O) O O (zD O (BF O (zC (sk (sl sr)) (zZ O (Aw O) O O (Ao (v:=(qa false)) O (AN O O) (Ao (v:=(aG (AT n++[(qa false)]))) O (AR (zs:=Ax 0) (vs:=AT n++[(qa false)]) (pv:=[(0,(aG (AT n))),(1,(qa false))]) (places:=[(0,2),(2,1)]) zeroValue58 underlying58 (λw=>by simp [sizeOf4,sizeOf56]) O O) (zD O (DG O sizeOf58 O ?_)))))))))))
 exact zC (sk (sl sr)) (zP (zB (sL [4,5] O) (zA (zF (ret_one O (Aa (i:=1) (cs:=AT n++[(qa false)]) O O isAgg58 sizeOf58 O) (λw hw=>⟨by rw [VS],hw.out⟩))))))
theorem En (neg:Bool) (n:Nat) (w:World):Calls prog 65 #[.bool neg,.agg (AT n).toArray] w (AY w (.agg (Ax (EB neg n)).toArray)):=by
 cases neg
 ·exact Ps n w
 ·exact Sa n w
theorem aJ (z:Int) (hz:-9223372036854775808<=z) (hz2:z<9223372036854775808) (w:World)  :Calls prog 34 #[(vI z)] w (AY w (aG (Ax z))):=by
 refine AS (args:=[(vI z)]) func34 O O (leB O) (zG (sL [0] O) (q4 (al KB O λb1=>oNl' (q1 (q4 (AL O (st' (Ag (c:=(decide (z<(0:Int)))) O O O) O (oNl' (zB (sL [0,2,4] O) (zA ?_))))))))))
 refine zK O (λhc0=>?_) (λhc0=>?_)
 ·replace hc0:=xR hc0
  have he:=HO hc0
  exact q4 (AL O (st' (An (c:=(IntKind.u64.wrap z)) O underlying2 underlying52 (rfl)) O (st' (VA (c:=((z.natAbs:Nat):Int)) O (by rw [Int.zero_sub];exact eh hc0 hz)) O (ck' call76 (KP z.natAbs Z) O (ck' call65 (En true z.natAbs) O (Am O sizeOf58 O (oNl' (zB (sL [0,2] O) (zA (zF (zH (ret_one O (Aa (i:=0) (cs:=Ax (EB true z.natAbs)) O O isAgg58 sizeOf58 O) (λw hw=>⟨by rw [he],hw.out⟩)))))))))))))
 ·replace hc0:=xQ hc0
  have he:=Mz hc0
  exact zI (q2 (AL O (st' (An (c:=((z.natAbs:Nat):Int)) O underlying2 underlying52 (by rw [Do Z Z];omega)) O (ck' call76 (KP z.natAbs Z) O (ck' call65 (En false z.natAbs) O (Am O sizeOf58 O (oNl' (zB (sL [0,2] O) (zA (zF (ret_one O (Aa (i:=0) (cs:=Ax (EB false z.natAbs)) O O isAgg58 sizeOf58 O) (λw hw=>⟨by rw [he],hw.out⟩))))))))))))
theorem Ni (a:Int) (w:World)  :Calls prog 66 #[(aG (Ax a))] w (AY w (aG (AT a.natAbs))):=by
 refine AS (args:=[(aG (Ax a))]) func66 O O (leB O) (zG (sL [0] O) (q4 (A9 (cs:=Ax a) O λb1=>al Gt O λb2=>q3 (sL [1,2] O) (st' (v:=(pP b1 0)) (AA O underlying58 O sizeOf56 O) O (st' (v:=(pP b1 0)) (AA O underlying56 O sizeOf54 O) O (Br 1 (AT a.natAbs) B4 O (Am O sizeOf54 O (oNl' (zB (sL [2] O) ?_)))))))))
 exact zA (zF (ret_one O (Aa (i:=0) (cs:=AT a.natAbs) O O isAgg54 sizeOf54 O) (λw hw=>⟨rfl,hw.out⟩)))
theorem K0 (a:Int) (w:World)  :Calls prog 112 #[(aG (Ax a))] w (AY w (vI a.sign)):=by
 refine AS (args:=[(aG (Ax a))]) func112 O O (leB O) (zG (sL [0] O) (q4 (A9 (cs:=Ax a) O λb1=>asg' O (q6 (sL [1,2] O) (zN (q4 (st' (v:=(pP b1 0)) (AA O underlying58 O sizeOf56 O) O (Br 0 (AT a.natAbs) Tu O (ck' call116 (I1 a.natAbs) O (asg' O ?_))))))))))
 refine oNl' (zB (sL [1,2,3] O) (zA ?_))
 refine zK O (λhc0=>?_) (λhc0=>?_)
 ·replace hc0:=xR hc0
  have he:a.sign=0:=by rw [show a=0 by omega];rfl
  exact q4 (asg' O (oNl' (zA (zF (zT (zH (ret_one O (rd_tmp (v:=(vI 0)) O) (λw hw=>⟨by rw [he],hw.out⟩))))))))
 ·replace hc0:=xQ hc0
  refine q4 (st' (v:=(pP b1 2)) (AA O underlying58 O sizeOf4 O) O (BZ 0 (qa (decide (a<0))) Lj O (asg' O (oNl' (zB (sL [1,2,7] O) (zA ?_))))))
  refine zK O (λhc1=>?_) (λhc1=>?_)
  ·replace hc1:=xR hc1
   have he:a.sign = -1:=Int.sign_eq_neg_one_of_neg hc1
   exact q4 (asg' O (oNl' (zA (zF (zT (zH (ret_one O (rd_tmp (v:=(vI (-1:Int))) O) (λw hw=>⟨by rw [he],hw.out⟩))))))))
  ·replace hc1:=xQ hc1
   have he:a.sign=1:=Int.sign_eq_one_of_pos Z
   exact zI (zM (q2 (asg' O (oNl' (zA (zF (ret_one O (rd_tmp (v:=(vI 1)) O) (λw hw=>⟨by rw [he],hw.out⟩))))))))
theorem Rm (a:Int) (w:World)  :Calls prog 75 #[(aG (Ax a))] w (AY w (aG (Ax (-a)))):=by
 refine AS (args:=[(aG (Ax a))]) func75 O O (leB O) (zG (sL [0] O) (q4 (A9 (cs:=Ax a) O λb1=>al KB O λb2=>q3 (sL [1,2] O) (st' (v:=(pP b1 2)) (AA O underlying58 O sizeOf4 O) O (BZ 1 (qa (decide (a<0))) Lj O (st' (Bh (c:=(!(decide (a<0)))) O O) O (st' (v:=(pP b1 0)) (AA O underlying58 O sizeOf56 O) O (st' (v:=(pP b1 0)) (AA O underlying56 O sizeOf54 O) O (Br 1 (AT a.natAbs) B4 O ?_)))))))))
 exact ck' call65 (En (!(decide (a<0))) a.natAbs) O (Am O sizeOf58 O (oNl' (zB (sL [2] O) (zA (zF (ret_one O (Aa (i:=0) (cs:=Ax (EB (!(decide (a<0))) a.natAbs)) O O isAgg58 sizeOf58 O) (λw hw=>⟨by rw [Rt],hw.out⟩)))))))
theorem Yf (a b:Int) (ha:nw a.natAbs<=1099511627776) (hb:nw b.natAbs<=1099511627776) (w:World)  :Calls prog 121 #[(aG (Ax a)),(aG (Ax b))] w (AY w (aG (Ax (a+b)))):=by
 refine AS (args:=[(aG (Ax a)),(aG (Ax b))]) func121 O O (leB O) (zG (sL [0,1] O) (q4 (A9 (cs:=Ax a) O λb1=>A9 (cs:=Ax b) O λb2=>al KB O λb3=>q6 (sL [2,3,4] O) (q4 (st' (v:=(pP b1 2)) (AA O underlying58 O sizeOf4 O) O (BZ 2 (qa (decide (a<0))) Lj O (st' (v:=(pP b2 2)) (AA O underlying58 O sizeOf4 O) O (BZ 1 (qa (decide (b<0))) Lj O ?_))))))))
 refine st' (Jo (c:=(decide (a<0) == decide (b<0))) O O underlying4 O) O (oNl' (zB (sL [2,3,4,13] O) (zA ?_)))
 refine zK O (λhc0=>?_) (λhc0=>?_)
 ·have he:=Ie hc0
  refine zV (B8 (Ed 8++[(8,false),(9,false),(10,false)]) (sl sr) (Ao (v:=(pP b1 2)) O (AA O underlying58 O sizeOf4 O) (Cm 1 (qa (decide (a<0))) Lj O (Ao (v:=(pP b1 0)) O (AA O underlying58 O sizeOf56 O) (Ao (v:=(pP b1 0)) O (AA O underlying56 O sizeOf54 O) (Dd 1 (AT a.natAbs) B4 O (Ao (v:=(pP b2 0)) O (AA O underlying58 O sizeOf56 O) (Ao (v:=(pP b2 0)) O (AA O underlying56 O sizeOf54 O) (Dd 0 (AT b.natAbs) B4 O (zD O (ck' call92 (UH a.natAbs b.natAbs Z Z) O ?_)))))))))))
  exact zC (sl sr) (zD O (ck' call65 (En (decide (a<0)) (a.natAbs+b.natAbs)) O (zC (sl sr) (zD O (Am O sizeOf58 O (zC (sl sr) (zP (zB (sL [2,3,4] O) (zA (zF (zH (ret_one O (Aa (i:=0) (cs:=Ax (EB (decide (a<0)) (a.natAbs+b.natAbs))) O O isAgg58 sizeOf58 O) (λw hw=>⟨by rw [he],hw.out⟩)))))))))))))
 ·refine zI (q1 (q4 (st' (v:=(pP b1 0)) (AA O underlying58 O sizeOf56 O) O (st' (v:=(pP b1 0)) (AA O underlying56 O sizeOf54 O) O (Br 2 (AT a.natAbs) B4 O (st' (v:=(pP b2 0)) (AA O underlying58 O sizeOf56 O) O (st' (v:=(pP b2 0)) (AA O underlying56 O sizeOf54 O) O (Br 1 (AT b.natAbs) B4 O (ck' call115 (Py a.natAbs b.natAbs Z Z) O (AL O (st' (AH (v:=(aG (AT (a.natAbs-b.natAbs)))) O O) O ?_)))))))))))
  refine st' (AH (v:=(qa (decide (b.natAbs<=a.natAbs)))) O O) O (al Gt O λb4=>Am O sizeOf54 O (asg' O (q3 (sL [2,3,4,5,6] O) (AL O (oNl' (zB (sL [2,3,4,5,34] O) (zA ?_)))))))
  refine zK O (λhc1=>?_) (λhc1=>?_)
  ·replace hc1:=xR hc1
   have he:=K7 hc0 hc1
   exact q4 (st' (v:=(pP b1 2)) (AA O underlying58 O sizeOf4 O) O (BZ 3 (qa (decide (a<0))) Lj O (Ah 0 B4 O (ck' call65 (En (decide (a<0)) (a.natAbs-b.natAbs)) O (DG O sizeOf58 O (oNl' (zB (sL [2,3,4,5] O) (zA (zF (zH (ret_one O (Aa (i:=1) (cs:=Ax (EB (decide (a<0)) (a.natAbs-b.natAbs))) O O isAgg58 sizeOf58 O) (λw hw=>⟨by rw [he],hw.out⟩))))))))))))
  ·replace hc1:=xQ hc1
   have he:=K8 hc0 hc1
   refine zI (q2 (st' (v:=(pP b2 0)) (AA O underlying58 O sizeOf56 O) O (st' (v:=(pP b2 0)) (AA O underlying56 O sizeOf54 O) O (Br 2 (AT b.natAbs) B4 O (st' (v:=(pP b1 0)) (AA O underlying58 O sizeOf56 O) O (st' (v:=(pP b1 0)) (AA O underlying56 O sizeOf54 O) O (Br 3 (AT a.natAbs) B4 O (ck' call115 (Py b.natAbs a.natAbs Z Z) O (AL O (st' (AH (v:=(aG (AT (b.natAbs-a.natAbs)))) O O) O (st' (AH (v:=(qa (decide (a.natAbs<=b.natAbs)))) O O) O ?_)))))))))))
   refine al Gt O λb5=>Am O sizeOf54 O (asg' O (q3 (sL [2,3,4,5,7] O) (st' (v:=(pP b2 2)) (AA O underlying58 O sizeOf4 O) O (BZ 3 (qa (decide (b<0))) Lj O (Ah 0 B4 O (ck' call65 (En (decide (b<0)) (b.natAbs-a.natAbs)) O (Ee O sizeOf58 O (oNl' (zB (sL [2,3,4,5,7] O) (zA ?_))))))))))
   exact zF (ret_one O (Aa (i:=2) (cs:=Ax (EB (decide (b<0)) (b.natAbs-a.natAbs))) O O isAgg58 sizeOf58 O) (λw hw=>⟨by rw [he],hw.out⟩))
theorem Wq (a b:Int) (ha:nw a.natAbs<=1099511627776) (hb:nw b.natAbs<=1099511627776) (w:World)  :Calls prog 122 #[(aG (Ax a)),(aG (Ax b))] w (AY w (aG (Ax (a*b)))):=by
 refine AS (args:=[(aG (Ax a)),(aG (Ax b))]) func122 O O (leB O) (zG (sL [0,1] O) (q4 (A9 (cs:=Ax a) O λb1=>A9 (cs:=Ax b) O λb2=>al KB O λb3=>q6 (sL [2,3,4] O) (B8 (Ed 11++[(11,false),(12,false),(13,false)]) (sl sr) (Ao (v:=(pP b1 2)) O (AA O underlying58 O sizeOf4 O) (Cm 1 (qa (decide (a<0))) Lj O (Ao (v:=(pP b2 2)) O (AA O underlying58 O sizeOf4 O) (Cm 0 (qa (decide (b<0))) Lj O ?_))))))))
 refine Ao O (Jp (c:=(!(decide (a<0) == decide (b<0)))) O O underlying4 O) (Ao (v:=(pP b1 0)) O (AA O underlying58 O sizeOf56 O) (Ao (v:=(pP b1 0)) O (AA O underlying56 O sizeOf54 O) (Dd 1 (AT a.natAbs) B4 O (Ao (v:=(pP b2 0)) O (AA O underlying58 O sizeOf56 O) (Ao (v:=(pP b2 0)) O (AA O underlying56 O sizeOf54 O) (Dd 0 (AT b.natAbs) B4 O (zD O (ck' call74 (Pw a.natAbs b.natAbs Z Z) O (zC (sl sr) (zD O (ck' call65 (En (!(decide (a<0) == decide (b<0))) (a.natAbs*b.natAbs)) O ?_)))))))))))
 exact zC (sl sr) (zD O (Am O sizeOf58 O (zC (sl sr) (zP (zB (sL [4] O) (zA (zF (ret_one O (Aa (i:=0) (cs:=Ax (EB (!(decide (a<0) == decide (b<0))) (a.natAbs*b.natAbs))) O O isAgg58 sizeOf58 O) (λw hw=>⟨by rw [Rs],hw.out⟩)))))))))
theorem I6 (a b:Int) (ha:nw a.natAbs<=1099511627776) (hb:nw b.natAbs<=1099511627776) (w:World)  :Calls prog 120 #[(Value.func (.func 121) #[] #[]),(aG (Ax a)),(aG (Ax b))] w (AY w (aG (Ax (a+b)))):=by
 refine AS (args:=[(Value.func (.func 121) #[] #[]),(aG (Ax a)),(aG (Ax b))]) func120 O O (leB O) (zG (sL [0,1,2] O) (q4 (A9 (cs:=Ax a) O λb1=>A9 (cs:=Ax b) O λb2=>al KB O λb3=>q3 (sL [0,4,5,6] O) (AL O (Ah 2 DZ O (Ah 1 DZ O (ck' call121 (Yf a b (by first|omega|(simp only [Int.natAbs_neg,Aq,Int.natAbs_natCast];omega)) (by first|omega|(simp only [Int.natAbs_neg,Aq,Int.natAbs_natCast];omega))) O (Am O sizeOf58 O ?_))))))))
 exact oNl' (zB (sL [6] O) (zA (zF (ret_one O (Aa (i:=0) (cs:=Ax (a+b)) O O isAgg58 sizeOf58 O) (λw hw=>⟨rfl,hw.out⟩)))))
theorem MY (a b:Int) (ha:nw a.natAbs<=1099511627776) (hb:nw b.natAbs<=1099511627776) (w:World)  :Calls prog 120 #[(Value.func (.func 122) #[] #[]),(aG (Ax a)),(aG (Ax b))] w (AY w (aG (Ax (a*b)))):=by
 refine AS (args:=[(Value.func (.func 122) #[] #[]),(aG (Ax a)),(aG (Ax b))]) func120 O O (leB O) (zG (sL [0,1,2] O) (q4 (A9 (cs:=Ax a) O λb1=>A9 (cs:=Ax b) O λb2=>al KB O λb3=>q3 (sL [0,4,5,6] O) (AL O (Ah 2 DZ O (Ah 1 DZ O (ck' call122 (Wq a b (by first|omega|(simp only [Int.natAbs_neg,Aq,Int.natAbs_natCast];omega)) (by first|omega|(simp only [Int.natAbs_neg,Aq,Int.natAbs_natCast];omega))) O (Am O sizeOf58 O ?_))))))))
 exact oNl' (zB (sL [6] O) (zA (zF (ret_one O (Aa (i:=0) (cs:=Ax (a*b)) O O isAgg58 sizeOf58 O) (λw hw=>⟨rfl,hw.out⟩)))))
theorem Nj (a b:Int) (ha:nw a.natAbs<=1099511627776) (hb:nw b.natAbs<=1099511627776) (w:World)  :Calls prog 71 #[(aG (Ax a)),(aG (Ax b))] w (AY w (aG (Ax (a+b)))):=by
 refine AS (args:=[(aG (Ax a)),(aG (Ax b))]) func71 O O (leB O) (zG (sL [0,1] O) (q4 (A9 (cs:=Ax a) O λb1=>A9 (cs:=Ax b) O λb2=>al KB O λb3=>q3 (sL [2,3,4] O) (Ah 2 DZ O (Ah 1 DZ O (ck' call120 (I6 a b (by first|omega|(simp only [Int.natAbs_neg,Aq,Int.natAbs_natCast];omega)) (by first|omega|(simp only [Int.natAbs_neg,Aq,Int.natAbs_natCast];omega))) O (Am O sizeOf58 O (oNl' ?_))))))))
 exact zB (sL [4] O) (zA (zF (ret_one O (Aa (i:=0) (cs:=Ax (a+b)) O O isAgg58 sizeOf58 O) (λw hw=>⟨rfl,hw.out⟩))))
theorem X7 (a b:Int) (ha:nw a.natAbs<=1099511627776) (hb:nw b.natAbs<=1099511627776) (w:World)  :Calls prog 135 #[(aG (Ax a)),(aG (Ax b))] w (AY w (aG (Ax (a-b)))):=by
 refine AS (args:=[(aG (Ax a)),(aG (Ax b))]) func135 O O (leB O) (zG (sL [0,1] O) (q4 (A9 (cs:=Ax a) O λb1=>A9 (cs:=Ax b) O λb2=>al KB O λb3=>q6 (sL [2,3,4] O) (B8 [(0,true),(1,true),(2,false),(3,false),(4,false)] (sl sr) (Bv 1 DZ O (Bv 0 DZ O (zD O (ck' call75 (Rm b) O ?_))))))))
 exact zC (sl sr) (zD O (ck' call120 (I6 a (-b) (by first|omega|(simp only [Int.natAbs_neg,Aq,Int.natAbs_natCast];omega)) (by first|omega|(simp only [Int.natAbs_neg,Aq,Int.natAbs_natCast];omega))) O (zC (sl sr) (zD O (Am O sizeOf58 O (zC (sl sr) (zP (zB (sL [4] O) (zA (zF (ret_one O (Aa (i:=0) (cs:=Ax (a+(-b))) O O isAgg58 sizeOf58 O) (λw hw=>⟨by rw [Int.sub_eq_add_neg],hw.out⟩))))))))))))
theorem Hk (a b:Int) (ha:nw a.natAbs<=1099511627776) (hb:nw b.natAbs<=1099511627776) (w:World)  :Calls prog 72 #[(aG (Ax a)),(aG (Ax b))] w (AY w (aG (Ax (a*b)))):=by
 refine AS (args:=[(aG (Ax a)),(aG (Ax b))]) func72 O O (leB O) (zG (sL [0,1] O) (q4 (A9 (cs:=Ax a) O λb1=>A9 (cs:=Ax b) O λb2=>al KB O λb3=>q3 (sL [2,3,4] O) (Ah 2 DZ O (Ah 1 DZ O (ck' call120 (MY a b (by first|omega|(simp only [Int.natAbs_neg,Aq,Int.natAbs_natCast];omega)) (by first|omega|(simp only [Int.natAbs_neg,Aq,Int.natAbs_natCast];omega))) O (Am O sizeOf58 O (oNl' ?_))))))))
 exact zB (sL [4] O) (zA (zF (ret_one O (Aa (i:=0) (cs:=Ax (a*b)) O O isAgg58 sizeOf58 O) (λw hw=>⟨rfl,hw.out⟩))))
theorem Rl (a b:Int) (ha:nw a.natAbs<=1099511627776) (hb:nw b.natAbs<=1099511627776) (w:World)  :Calls prog 82 #[(aG (Ax a)),(aG (Ax b))] w (AY w (vI ((a-b).sign))):=by
 refine AS (args:=[(aG (Ax a)),(aG (Ax b))]) func82 O O (leB O) (zG (sL [0,1] O) (q4 (A9 (cs:=Ax a) O λb1=>A9 (cs:=Ax b) O λb2=>asg' O (q3 (sL [2,3,4] O) (Ah 1 DZ O (Ah 0 DZ O (ck' call135 (X7 a b (by first|omega|(simp only [Int.natAbs_neg,Aq,Int.natAbs_natCast];omega)) (by first|omega|(simp only [Int.natAbs_neg,Aq,Int.natAbs_natCast];omega))) O (ck' call112 (K0 (a-b)) O (asg' O ?_)))))))))
 exact oNl' (zB (sL [4] O) (zA (zF (ret_one O (rd_tmp (v:=(vI ((a-b).sign))) O) (λw hw=>⟨rfl,hw.out⟩)))))
end
def Sz (q:Rat):Nat:=max (nw q.num.natAbs) (nw q.den)
theorem Cz (q:Rat):nw q.num.natAbs<=Sz q:=Nat.le_max_left ..
theorem Cc (q:Rat):nw q.den<=Sz q:=Nat.le_max_right ..
theorem Fl (q:Rat):nw (q.den-1)<=Sz q:=xK (Ct (Nat.sub_le _ _)) (Cc q)
theorem ZT {q:Rat} {k:Nat} (h1:nw q.num.natAbs<=k) (h2:nw q.den<=k):Sz q<=k:=Nat.max_le.2 ⟨h1,h2⟩
theorem JR:nw 1=1:=by decide
theorem NL (q:Rat):1<=Sz q:=xK (by rw [<-JR];exact Ct q.den_pos) (Cc q)
theorem Kc {n:Int} {d k:Nat} (h1:nw n.natAbs<=k) (h2:nw d<=k) (hk:1<=k):Sz (mkRat n d)<=k:=by
  refine ZT ?_ ?_
  · rw [Rat.num_mkRat]
    split
    · exact xH _
    · refine xK (Ct ?_) h1
      rw [Int.natAbs_ediv_of_dvd (by rw [Int.ofNat_dvd_left];exact Nat.gcd_dvd_right ..)]
      exact Nat.div_le_self _ _
  · rw [Rat.den_mkRat]
    split
    · rw [JR];exact hk
    · exact xK (Ct (Nat.div_le_self _ _)) h2
theorem R0 (a b:Int):nw (a*b).natAbs<=nw a.natAbs+nw b.natAbs:=by rw [Int.natAbs_mul];exact Vs _ _
theorem D5 (a b:Int):nw (a+b).natAbs<=max (nw a.natAbs) (nw b.natAbs)+1:=xK (Ct (Int.natAbs_add_le a b)) (aY _ _)
theorem CQ (a b:Rat):nw (a.num*((b.den:Nat):Int)).natAbs<=Sz a+Sz b:=by
  have h1:=R0 a.num ((b.den:Nat):Int)
  have h2:=Cz a
  have h3:=Cc b
  rw [Int.natAbs_natCast] at h1
  omega
theorem GW (a b:Rat):nw (a.den*b.den)<=Sz a+Sz b:=by
  have h1:=Vs a.den b.den
  have h2:=Cc a
  have h3:=Cc b
  omega
theorem HR (a b:Rat):nw (a.num*b.num).natAbs<=Sz a+Sz b:=by
  have h1:=R0 a.num b.num
  have h2:=Cz a
  have h3:=Cz b
  omega
theorem Hg (a b:Rat):mkRat (a.num*((b.den:Nat):Int)+b.num*((a.den:Nat):Int)) (a.den*b.den)=a+b:=by rw [Rat.add_def,Rat.normalize_eq_mkRat]
theorem JN (a b:Rat):mkRat (a.num*b.num) (a.den*b.den)=a*b:=by rw [Rat.mul_def,Rat.normalize_eq_mkRat]
theorem I7 {a:Rat} (h:a.den-1=0):a=((a.num:Int):Rat):=by
  have h1:a.den=1:=by have:=a.den_pos;omega
  exact Rat.ext O h1
theorem Sd {a b:Rat} (ha:a.den-1=0) (hb:b.den-1=0):((a.num+b.num:Int):Rat)=a+b:=by
  rw [Rat.intCast_add,<-I7 ha,<-I7 hb]
theorem TM {a b:Rat} (ha:a.den-1=0) (hb:b.den-1=0):((a.num*b.num:Int):Rat)=a*b:=by
  rw [Rat.intCast_mul,<-I7 ha,<-I7 hb]
theorem Oi {a b:Rat} (h:a.den-1=b.den-1):a.den=b.den:=by
  have h1:=a.den_pos
  have h2:=b.den_pos
  omega
theorem Ud {a b:Rat} (h:a.den-1=b.den-1):mkRat (a.num+b.num) a.den=a+b:=by
  have h1:=Oi h
  have h2:a+b=mkRat a.num a.den+mkRat b.num a.den:=by rw [Rat.mkRat_self];conv=>lhs;rw [<-Rat.mkRat_self b,<-h1]
  rw [h2,Rat.mkRat_eq_div,Rat.mkRat_eq_div,Rat.mkRat_eq_div,Rat.intCast_add,Rat.div_def,Rat.div_def,Rat.div_def,Rat.add_mul]
theorem DY (a b:Rat):Sz (a+b)<=Sz a+Sz b+1:=by
  rw [<-Hg]
  have h1:=CQ a b
  have h2:=CQ b a
  have h3:=D5 (a.num*((b.den:Nat):Int)) (b.num*((a.den:Nat):Int))
  have h4:=GW a b
  exact Kc Z Z Z
theorem CU (a b:Rat):Sz (a*b)<=Sz a+Sz b:=by
  rw [<-JN]
  have:=NL a
  exact Kc (HR a b) (GW a b) Z
theorem BE (a:Rat):Sz (-a)=Sz a:=by unfold Sz;rw [Rat.neg_num,Rat.neg_den,Int.natAbs_neg]
theorem EK (a b:Rat):Sz (a-b)<=Sz a+Sz b+1:=by rw [Rat.sub_eq_add_neg,<-BE b];exact DY a (-b)
theorem JJ {b:Rat} (h:b≠0):mkRat (EB (decide (b.num.sign<0)) b.den) b.num.natAbs=b⁻¹:=by
  have hn:b.num≠0:=λe=>h (Rat.num_eq_zero.1 e)
  have hb:b=(b.num:Rat)/((b.den:Nat):Rat):=by rw [<-Rat.mkRat_eq_div,Rat.mkRat_self]
  have hd:((b.den:Nat):Rat)≠0:=by
    intro e
    have:=b.den_pos
    have h2:b.den=0:=by exact_mod_cast e
    omega
  have hn2:((b.num:Int):Rat)≠0:=by
    intro e
    exact hn (by exact_mod_cast e)
  rw [Rat.mkRat_eq_div]
  conv=>rhs;rw [hb]
  by_cases hs:b.num<0
  · have e1:decide (b.num.sign<0)=true:=by simp [Int.sign_eq_neg_one_of_neg hs]
    have e2:((b.num.natAbs:Nat):Rat) = -((b.num:Int):Rat):=by
      have:((b.num.natAbs:Nat):Int) = -b.num:=by omega
      rw [<-Rat.intCast_natCast,this,Rat.intCast_neg]
    rw [e1,e2]
    simp only [EB,if_true,Rat.intCast_neg,Rat.intCast_natCast]
    grind
  · have e1:decide (b.num.sign<0)=false:=by
      have:0<=b.num.sign:=Int.sign_nonneg_iff.2 Z
      exact xz Z
    have e2:((b.num.natAbs:Nat):Rat)=((b.num:Int):Rat):=by
      have:((b.num.natAbs:Nat):Int)=b.num:=by omega
      rw [<-Rat.intCast_natCast,this]
    rw [e1,e2]
    simp only [EB,Bool.false_eq_true,if_false,Rat.intCast_natCast]
    grind
theorem Pz {b:Rat} (h:b≠0):Sz b⁻¹<=Sz b:=by
  rw [<-JJ h]
  exact Kc (by rw [Aq];exact Cc b) (Cz b) (NL b)
theorem HA {a b:Rat} (h:b≠0):Sz (a/b)<=Sz a+Sz b:=by
  rw [Rat.div_def]
  have h1:=CU a b⁻¹
  have h2:=Pz h
  omega
def BK (a b:Rat):Int:=if a<b then -1 else if a=b then 0 else 1
theorem H7 (a b:Rat):(a.num*((b.den:Nat):Int)-b.num*((a.den:Nat):Int)).sign=BK a b:=by
  have h1:=Rat.lt_iff a b
  have h2:=@Rat.eq_iff_mul_eq_mul a b
  unfold BK
  split
  · rename_i h;exact Int.sign_eq_neg_one_of_neg (by have:=h1.1 h;omega)
  · rename_i h
    split
    · rename_i h';rw [h2.1 h'];simp
    · rename_i h'
      have h3:¬a.num*((b.den:Nat):Int)<b.num*((a.den:Nat):Int):=λe=>h (h1.2 e)
      have h4:¬a.num*((b.den:Nat):Int)=b.num*((a.den:Nat):Int):=λe=>h' (h2.2 e)
      exact Int.sign_eq_one_of_pos Z
theorem Si {a b:Rat} (h:a.den-1=b.den-1):(a.num-b.num).sign=BK a b:=by
  rw [<-H7,<-Oi h,<-Int.sub_mul,Int.sign_mul]
  have:=a.den_pos
  rw [show ((a.den:Nat):Int).sign=1 from Int.sign_eq_one_of_pos Z]
  simp
theorem GV {a b:Rat}:BK a b<0↔a<b:=by
  unfold BK;split
  · simp [*]
  · split<;>simp [*]
theorem IU {a b:Rat}:BK a b=0↔a=b:=by
  unfold BK;split
  · rename_i h
    constructor
    · intro e;cases e
    · intro e;subst e;exact absurd h jX
  · split<;>simp [*]
theorem Jr (q:Rat):AB q=Ax q.num++AT (q.den-1):=rfl
theorem Nn {n:Int} {d:Nat} (hd:d≠0):(mkRat n d).num=EB (decide (n.sign<0)) (n.natAbs/Nat.gcd n.natAbs d):=by
  rw [Rat.num_mkRat,if_neg hd,Nat.gcd_comm]
  unfold EB
  by_cases h:n<0
  · rw [Int.sign_eq_neg_one_of_neg h]
    have e:n = -((n.natAbs:Nat):Int):=by omega
    simp only [show decide ((-1:Int)<0)=true from rfl,if_true]
    conv=>lhs;rw [e]
    rw [Int.natAbs_neg,Int.natAbs_natCast,Int.neg_ediv_of_dvd (by rw [Int.natCast_dvd_natCast];exact Nat.gcd_dvd_left ..)]
    rfl
  · have h0:0<=n.sign:=Int.sign_nonneg_iff.2 Z
    have e:n=((n.natAbs:Nat):Int):=by omega
    rw [if_neg (by simp;omega)]
    conv=>lhs;rw [e]
    rw [Int.natAbs_natCast]
    rfl
theorem Rr {n:Int} {d:Nat} (hd:d≠0):(mkRat n d).den=d/Nat.gcd n.natAbs d:=by rw [Rat.den_mkRat,if_neg hd,Nat.gcd_comm]
end Go.Proofs.YtcpkbjjmcleplaaGreatDoor
