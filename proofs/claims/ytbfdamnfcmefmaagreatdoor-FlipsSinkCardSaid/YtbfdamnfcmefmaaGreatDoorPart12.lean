import Derived.Test.YtbfdamnfcmefmaaGreatDoorPart11
namespace Go.Proofs.YtbfdamnfcmefmaaGreatDoor
open Go Go.RowKit Go.Proofs.Tryz
open Go.Value renaming slice→qz,bool→qa
set_option linter.unusedVariables false
set_option linter.unusedSimpArgs false
section
set_option maxRecDepth 100000
theorem Fp {N v:Nat} (h:v<4294967296^N):val ((Co N v).take N)=v:=by
 rw [List.take_of_length_le (by rw [Bi];exact Nat.le_refl _),FQ _ _ h]
theorem S_ {a b:Nat} (hb:0<nw b) (h:nw b<=nw a):a/b<4294967296^(nw a+1-nw b):=by
 have h1:=Is hb
 have h2:=CE a
 rw [Nat.div_lt_iff_lt_mul (by have:=Nat.pow_pos (n:=nw b-1) (show 0<4294967296 by omega);omega)]
 have h3:4294967296^(nw a+1-nw b)*4294967296^(nw b-1)<=4294967296^(nw a+1-nw b)*b:=Nat.mul_le_mul_left _ h1
 rw [<-Nat.pow_add,show nw a+1-nw b+(nw b-1)=nw a by omega] at h3
 omega
theorem TB {a b:Nat}:a%b<4294967296^(nw a+1):=Nat.lt_of_le_of_lt (Nat.mod_le _ _) (Nat.lt_of_lt_of_le (CE a) (Nat.pow_le_pow_right Z Z))
theorem Qh {b:Nat} (h:nw b=0):b=0:=by
 have:=CE b
 rw [h] at this
 omega
theorem Yf {b:Nat} (h:nw b=1):(Ax b).getD 0 0=b/\b<4294967296:=by
 have h1:=CE b
 rw [h] at h1
 refine ⟨?_,Z⟩
 rw [Dq Z,IP,Nat.pow_zero,Nat.div_one,Nat.mod_eq_of_lt Z]
theorem MU  :Instr.fill ([(0,1),(1,1)].toArray[·]?) (AV 0).toArray []=some (AV 0).toArray:=by kernel_rfl
theorem Ps (a b:Nat) (ha:nw a<=1099511627776) (hb:nw b<=1099511627776) (hb0:b≠0) (w:World)  :Calls prog 178 #[(aG (AV a)),(aG (AV b))] w (Ag w (Value.tuple #[(aG (AV (a/b))),(aG (AV (a%b))),(qa true)])):=by
 have hnb:nw b≠0:=λh=>hb0 (Qh h)
 have hla:=CV a
 have hlb:=CV b
 refine AW (args:=[(aG (AV a)),(aG (AV b))]) func178 O O (BE O) (zM (sL [0,1] O) (q4 (BZ (cs:=AV a) O λb1=>BZ (cs:=AV b) O λb2=>al GZ O λb3=>al GZ O λb4=>asg' O (q6 (sL [2,3,4,5,6] O) (zI (q4 (Ai 2 CF O ?_)))))))
 refine ck' call222 (SD b) O (asg' O (oNl' (zB (sL [2,3,4,5,6,12] O) (zA ?_))))
 refine zL O (λhc0=>?_) (λhc0=>?_)
 ·replace hc0:=xU hc0
  exact absurd hc0 hb0
 ·replace hc0:=xT hc0
  refine q4 (Ai 3 CF O (Ai 2 CF O (ck' call223 (Tm a b Z Z) O (AC (Aa (c:=(decide ((Fy a b)<(0:Int)))) O O O) O (asg' O (oNl' (zB (sL [2,3,4,5,6,17] O) (zA ?_))))))))
  refine zL O (λhc1=>?_) (λhc1=>?_)
  ·replace hc1:=xU hc1
   rw [KE] at hc1
   have e1:a/b=0:=Nat.div_eq_of_lt hc1
   have e2:a%b=a:=Nat.mod_eq_of_lt hc1
   refine zY (C_ [(0,true),(1,true),(2,false),(3,false),(4,true)] (sl (sl sr)) (Aj (v:=(aG (AV 0))) O (AT (zs:=AV 0) (vs:=AV 0) (pv:=[]) (places:=[(0,1),(1,1)]) zeroValue62 underlying62 (λw=>by simp [sizeOf9,sizeOf60]) O (MU )) (Es 1 CF O (zN O (CS O sizeOf62 O (zG (sl (sl sr)) (zN O (Ah O sizeOf62 O (zG (sl (sl sr)) (pS' O (zQ ?_)))))))))))
   exact zB (sL [2,3,4,5,6] O) (zA (zH (zS (zJ (ER O (Ap (i:=1) (cs:=AV 0) O O isAgg62 sizeOf62 O) (Ap (i:=0) (cs:=AV a) O O isAgg62 sizeOf62 O) (rd_tmp (v:=(qa true)) O) (λw hw=>⟨by rw [e1,e2],hw.out⟩))))))
  ·replace hc1:=xT hc1
   rw [KE] at hc1
   have hba:nw b<=nw a:=Dr Z
   refine q4 (AC (v:=(pP b1 1)) (AA O underlying62 O sizeOf9 O) O (BA 3 (Value.string (Bo a)) Tj O (AC (Bj (c:=(decide (a<18446744073709551616))) O O Cm) O (asg' O (oNl' (zB (sL [2,3,4,5,6,24] O) (zA ?_)))))))
   refine zL O (λhc2=>?_) (λhc2=>?_)
   ·replace hc2:=xU hc2
    have la:CD a=a:=Bh hc2
    have lb:CD b=b:=Bh Z
    have q1:a/b<18446744073709551616:=Nat.lt_of_le_of_lt (Nat.div_le_self _ _) hc2
    have q2:a%b<18446744073709551616:=Nat.lt_of_le_of_lt (Nat.mod_le _ _) hc2
    refine zY (C_ (Ek 12++[(12,false),(13,false),(14,true)]) (sl (sl sr)) (Aj (v:=(pP b1 0)) O (AA O underlying62 O sizeOf60 O) (BK 1 (vK .u64 (CD a)) G9 O (Aj (v:=(pP b2 0)) O (AA O underlying62 O sizeOf60 O) (BK 0 (vK .u64 (CD b)) G9 O (Aj O (Gu (c:=(((CD a)/(CD b):Nat):Int)) O O Z (Lr (a:=CD a) (b:=CD b) Z)) (Aj (v:=(aG ([(vK .u64 ((CD a)/(CD b))),(Value.string (Bo 0))]))) O (AT (zs:=AV 0) (vs:=[(vK .u64 ((CD a)/(CD b))),(Value.string (Bo 0))]) (pv:=[(0,(vK .u64 ((CD a)/(CD b))))]) (places:=[(0,1),(1,1)]) zeroValue62 underlying62 (λw=>by simp [sizeOf9,sizeOf60]) O O) (Aj (v:=(pP b1 0)) O (AA O underlying62 O sizeOf60 O) (BK 1 (vK .u64 (CD a)) G9 O (Aj (v:=(pP b2 0)) O (AA O underlying62 O sizeOf60 O) (BK 0 (vK .u64 (CD b)) G9 O ?_)))))))))))
    refine Aj O (B7 (c:=(((CD a)%(CD b):Nat):Int)) O O Z (IE (a:=CD a) (b:=CD b))) (Aj (v:=(aG ([(vK .u64 ((CD a)%(CD b))),(Value.string (Bo 0))]))) O (AT (zs:=AV 0) (vs:=[(vK .u64 ((CD a)%(CD b))),(Value.string (Bo 0))]) (pv:=[(0,(vK .u64 ((CD a)%(CD b))))]) (places:=[(0,1),(1,1)]) zeroValue62 underlying62 (λw=>by simp [sizeOf9,sizeOf60]) O O) (zN O (CS O sizeOf62 O (zG (sl (sl sr)) (zN O (Ah O sizeOf62 O (zG (sl (sl sr)) (pS' O (zQ (zB (sL [2,3,4,5,6] O) (zA ?_)))))))))))
    exact zH (zS (zJ (ER O (Ap (i:=1) (cs:=[(vK .u64 ((CD a)/(CD b))),(Value.string (Bo 0))]) O O isAgg62 sizeOf62 O) (Ap (i:=0) (cs:=[(vK .u64 ((CD a)%(CD b))),(Value.string (Bo 0))]) O O isAgg62 sizeOf62 O) (rd_tmp (v:=(qa true)) O) (λw hw=>⟨by rw [Dt q1,Dt q2,la,lb];rfl,hw.out⟩))))
   ·replace hc2:=xT hc2
    refine zC (zF (q2 (Ai 2 CF O (z8 (V:=λb5=>(qz (jk b5) (nw b) ((Ax b).length))) (T:=89) (cs:=Am (Ax b)) (AK O) (Ao (args:=[(aG (AV b))]) O O call152) (λw hw=>Da b Z w) O (BE O) λb5=>asg' O (q6 (sL [2,3,4,5,6,7] O) (q4 (AM O (AC (v:=(vN (nw b))) (AE O underlying220) O (AC (BM (c:=(decide ((nw b)=1))) O O (Mz (a:=nw b) (b:=1))) O (oNl' ?_))))))))))
    refine zB (sL [2,3,4,5,6,7,44] O) (zA ?_)
    refine zL O (λhc3=>?_) (λhc3=>?_)
    ·replace hc3:=xU hc3
     obtain ⟨hy,hy2⟩:=Yf hc3
     refine zY (C_ [(0,true),(2,true),(3,true),(4,true),(1,false),(5,false),(6,true),(7,true),(8,true),(9,true),(10,true)] sr (Es 4 CF O (Bx O (Aj (v:=(pP b5 0)) O (AH (j:=0) O O underlying220 sizeOf89 O Z O) ?_))))
     have hx1:(Ax b).getD 0 0<4294967296:=W32.getD (Ca b) 0
     refine Aj O (AD (i:=0) (v:=(vK .u32 ((Ax b).getD 0 0))) O O isAgg89 (BH (xs:=Ax b) (j:=0) Z)) (zN O (z8 (V:=λb6=>(qz (jk b6) (nw a) ((Ax a).length))) (T:=89) (cs:=Am (Ax a)) (AK O) (Ao (args:=[(aG (AV a))]) O O call152) (λw hw=>Da a Z w) O (BE O) λb6=>zG (sl sr) (zN O (z8 (V:=λb7=>(Value.tuple #[(qz (jk b7) (nw a) (nw a)),(vK .u32 (a%((Ax b).getD 0 0)))])) (T:=89) (cs:=Am (Co (nw a) (a/((Ax b).getD 0 0)))) (AK O) (Ao (args:=[(qz (jk b6) (nw a) ((Ax a).length)),(vK .u32 ((Ax b).getD 0 0))]) O O call153) (λw hw=>WV a ((Ax b).getD 0 0) _ _ Z Z Z w (hw.get (i:=0) O)) O (BE O) λb7=>zG (sl (sl sr)) (Bx O (Aj O (AJ (v:=(qz (jk b7) (nw a) (nw a))) O O) (Aj O (AJ (v:=(vK .u32 (a%((Ax b).getD 0 0)))) O O) (pS' O (pS' O ?_)))))))))
     refine zQ (zB (sL [2,3,4,5,6,7,8,9] O) (q2 (AM O (C7 call181 (λw hw=>Jr _ (nw a) (nw a) (Co (nw a) (a/((Ax b).getD 0 0))) (EA _ _) (by first|omega|(rw [Bi];omega)|simp|(simp;omega)) (by first|omega|simp|(simp;omega)) (by first|omega|simp|(simp;omega)) w (hw.get (i:=0) O)) O (zK (k:=55) (u:=(aG (AV (a/b)))) O (by rw [hy,Fp (Nat.lt_of_le_of_lt (Nat.div_le_self _ _) (CE a))]) (AM O ?_))))))
     have hmb:a%(Ax b).getD 0 0<4294967296:=by rw [hy];exact Nat.lt_of_lt_of_le (Nat.mod_lt _ Z) Z
     exact AC (Ar (c:=((a%((Ax b).getD 0 0):Nat):Int)) O underlying89 underlying60 (BW Z)) O (AC (v:=(aG ([(vK .u64 (a%((Ax b).getD 0 0))),(Value.string (Bo 0))]))) (AT (zs:=AV 0) (vs:=[(vK .u64 (a%((Ax b).getD 0 0))),(Value.string (Bo 0))]) (pv:=[(0,(vK .u64 (a%((Ax b).getD 0 0))))]) (places:=[(0,1),(1,1)]) zeroValue62 underlying62 (λw=>by simp [sizeOf9,sizeOf60]) O O) O (zK (k:=58) (u:=(aG (AV (a%b)))) O (by rw [hy] at hmb ⊢;rw [Dt Z];rfl) (Fm 4 (off:=0) (vs:=AV (a/b)) (cs':=AV (a/b)) (AK O) O sizeOf62 O (Gc O sizeOf62 O (asg' O (oNl' (zB (sL [2,3,4,5,6,7] O) (zA (zH (zJ (ER O (Ap (i:=4) (cs:=AV (a/b)) O O isAgg62 sizeOf62 O) (Ap (i:=3) (cs:=AV (a%b)) O O isAgg62 sizeOf62 O) (rd_tmp (v:=(qa true)) O) (λw hw=>⟨rfl,hw.out⟩))))))))))))
    ·replace hc3:=xT hc3
     refine zC (q2 (Ai 4 CF O (z8 (V:=λb6=>(qz (jk b6) (nw a) ((Ax a).length))) (T:=89) (cs:=Am (Ax a)) (AK O) (Ao (args:=[(aG (AV a))]) O O call152) (λw hw=>Da a Z w) O (BE O) λb6=>AM O (AU.callBB (V:=λb7 b8=>(Value.tuple #[(qz (jk b7) (nw a+1-nw b) (nw a+1-nw b)),(qz (jk b8) (nw a+1) (nw a+1))])) (T:=89) (cs:=Am (Co (nw a+1-nw b) (a/b))) (T2:=89) (cs2:=Am (Co (nw a+1) (a%b))) (AK O) (Ao (args:=[(qz (jk b6) (nw a) ((Ax a).length)),(qz (jk b5) (nw b) ((Ax b).length))]) O O call224) (λw hw=>YM a b _ _ _ _ Z Z Z w (hw.get (i:=0) O) (hw.get (i:=1) O)) O (BE O) λb7 b8=>AM O (AC (AJ (v:=(qz (jk b7) (nw a+1-nw b) (nw a+1-nw b))) O O) O (AC (AJ (v:=(qz (jk b8) (nw a+1) (nw a+1))) O O) O (asg' O (asg' O (q3 (sL [2,3,4,5,6,7,10,11] O) ?_)))))))))
     refine AM O (C7 call181 (λw hw=>Jr _ (nw a+1-nw b) (nw a+1-nw b) (Co (nw a+1-nw b) (a/b)) (EA _ _) (by first|omega|(rw [Bi];omega)|simp|(simp;omega)) (by first|omega|simp|(simp;omega)) (by first|omega|simp|(simp;omega)) w (hw.get (i:=0) O)) O (zK (k:=67) (u:=(aG (AV (a/b)))) O (by rw [Fp (S_ Z hba)]) (AM O (C7 call181 (λw hw=>Jr _ (nw a+1) (nw a+1) (Co (nw a+1) (a%b)) (EA _ _) (by first|omega|(rw [Bi];omega)|simp|(simp;omega)) (by first|omega|simp|(simp;omega)) (by first|omega|simp|(simp;omega)) w (hw.get (i:=1) O)) O (zK (k:=69) (u:=(aG (AV (a%b)))) O (by rw [Fp TB]) (Fm 5 (off:=0) (vs:=AV (a/b)) (cs':=AV (a/b)) (AK O) O sizeOf62 O (Fm 4 (off:=0) (vs:=AV (a%b)) (cs':=AV (a%b)) (AK O) O sizeOf62 O (asg' O (oNl' (zB (sL [2,3,4,5,6,7] O) (zA ?_)))))))))))
     exact zH (ER O (Ap (i:=5) (cs:=AV (a/b)) O O isAgg62 sizeOf62 O) (Ap (i:=4) (cs:=AV (a%b)) O O isAgg62 sizeOf62 O) (rd_tmp (v:=(qa true)) O) (λw hw=>⟨rfl,hw.out⟩))
theorem ZW (a b:Nat) (ha:nw a<=1099511627776) (hb:nw b<=1099511627776) (w:World)  :Calls prog 176 #[(aG (AV a)),(aG (AV b))] w (Ag w (aG (AV (Nat.gcd a b)))):=by
 refine AW (args:=[(aG (AV a)),(aG (AV b))]) func176 O O (BE O) (zM (sL [0,1] O) (q4 (BZ (cs:=AV a) O λb1=>BZ (cs:=AV b) O λb2=>al GZ O λb3=>q6 (sL [2,3,4] O) (zI ?_))))
 refine yG (tg λ(x:Nat) (y:Nat)=>Nat.gcd x y=Nat.gcd a b/\nw x<=1099511627776/\nw y<=1099511627776) (tg λ(x:Nat) (y:Nat)=>[(2,(pP b1 0)),(3,(pP b2 0)),(4,(pP b3 0))]) (tg λ(x:Nat) (y:Nat)=>[AX b3 62 (AV 0),AX b2 62 (AV y),AX b1 62 (AV x)]) (tg λ(x:Nat) (y:Nat)=>y) a b (⟨rfl,ha,hb⟩) (sF O) sr (λx y hJ=>?_)
 obtain ⟨hg,hx,hy⟩:=hJ
 refine zY (q4 (Ai 1 CF O (ck' call222 (SD y) O (AC (BG (c:=(!(decide (y=0)))) O O) O (oNl' (zB (sL [2,3,4,10] O) (zA ?_)))))))
 refine zL O (λhc0=>?_) (λhc0=>?_)
 ·simp only [jK] at hc0
  refine zC (zA (zI (q4 (Ai 2 CF O (Ai 1 CF O (ck' call178 (Ps x y Z Z Z) O (AM O (AC (AJ (v:=(aG (AV (x/y)))) O O) O (AC (AJ (v:=(aG (AV (x%y)))) O O) O (AC (AJ (v:=(qa true)) O O) O (al GZ O λb4=>?_)))))))))))
  refine al GZ O λb5=>CS O sizeOf62 O (Ah O sizeOf62 O (asg' O (oNl' (zB (sL [2,3,4,6] O) (zA (C_ [(1,true),(0,false),(2,false),(3,false)] (sk (sk (sk (sl (sl sr))))) (Es 0 CF O (zN O (Ai 3 CF O (zG (sk (sk (sk (sl (sl sr))))) ?_))))))))))
  exact zN O (Fm 4 (off:=0) (vs:=AV y) (cs':=AV y) (AK O) O sizeOf62 O (zG (sk (sk (sk (sl (sl sr))))) (zN O (Gc O sizeOf62 O (zG (sk (sk (sk (sl (sl sr))))) (zQ (zB (sL [2,3,4,6] O) (zF (zn y (x%y) (⟨by rw [<-hg,Nat.gcd_comm x y,Nat.gcd_rec y x,Nat.gcd_comm],hy,xN (Dr (Nat.mod_le _ _)) hx⟩) (Nat.mod_lt _ Z) (sF O) (sl (sl sr)))))))))))
 ·simp only [jK] at hc0
  have hy0:y=0:=by omega
  have hxg:x=Nat.gcd a b:=by rw [<-hg,hy0,Nat.gcd_zero_right]
  exact zU (zO (zm (zR (q2 (Ai 2 CF O (Ah O sizeOf62 O (oNl' (zB (sL [2,3,4] O) (zA (zH (ret_one O (Ap (i:=0) (cs:=AV x) O O isAgg62 sizeOf62 O) (λw hw=>⟨by rw [hxg],hw.out⟩))))))))))))
end
def E2 (neg:Bool) (n:Nat):Int:=if neg then -(n:Int) else (n:Int)
theorem VM (n:Nat):A8 (E2 true n)=AV n++[.bool (!(decide (n=0)))]:=by
  simp only [A8,AV,E2,if_true,Int.natAbs_neg,Int.natAbs_natCast,List.cons_append,List.nil_append]
  have e:decide (-(n:Int)<0)=!(decide (n=0)):=by
    by_cases h:n=0
    · subst h;rfl
    · simp [h];omega
  rw [e]
theorem VN (n:Nat):A8 (E2 false n)=AV n++[.bool false]:=by
  simp only [A8,AV,E2,Int.natAbs_natCast,List.cons_append,List.nil_append]
  have e:decide ((n:Int)<0)=false:=by simp
  simp [e]
theorem O6 (D a b:Nat):Ej prog (D+3) 64 (.agg (AV a).toArray) (.agg (AV b).toArray) (decide (a=b)):=by
  have h:=Ej.struct (D:=D+2) (xs:=AV a) (ys:=AV b) underlying64 Tryz.stoodInHeld64 (I3.agg (us:=AV a) (bs:=AV b) jY isAgg62 sizeOf62 rfl rfl (HO D a b) I3.nil)
  simpa using h
theorem Az (neg:Bool) (n:Nat):(E2 neg n).natAbs=n:=by cases neg<;>simp [E2]
theorem YS (a:Int):E2 (!(decide (a<0))) a.natAbs = -a:=by
  unfold E2
  by_cases h:a<0
  · simp [h];omega
  · simp [h];omega
theorem YR (a b:Int):E2 (!(decide (a<0) == decide (b<0))) (a.natAbs*b.natAbs)=a*b:=by
  rw [<-Int.natAbs_mul]
  unfold E2
  by_cases h:a<0<;>by_cases h':b<0
  · have:=Int.mul_pos_of_neg_of_neg h h';simp [h,h'];omega
  · have:a*b<=0:=Int.mul_nonpos_of_nonpos_of_nonneg Z Z
    simp [h,h'];omega
  · have:a*b<=0:=Int.mul_nonpos_of_nonneg_of_nonpos Z Z
    simp [h,h'];omega
  · have:0<=a*b:=Int.mul_nonneg Z Z
    simp [h,h'];omega
theorem OE {a b:Int} (h:(decide (a<0) == decide (b<0))=true):E2 (decide (a<0)) (a.natAbs+b.natAbs)=a+b:=by
  unfold E2
  by_cases h1:a<0<;>by_cases h2:b<0<;>simp [h1,h2] at h ⊢<;>omega
theorem Qa {a b:Int} (h:(decide (a<0) == decide (b<0))=false) (h3:b.natAbs<=a.natAbs):E2 (decide (a<0)) (a.natAbs-b.natAbs)=a+b:=by
  unfold E2
  by_cases h1:a<0<;>by_cases h2:b<0<;>simp [h1,h2] at h ⊢<;>omega
theorem Qb {a b:Int} (h:(decide (a<0) == decide (b<0))=false) (h3:¬b.natAbs<=a.natAbs):E2 (decide (b<0)) (b.natAbs-a.natAbs)=a+b:=by
  unfold E2
  by_cases h1:a<0<;>by_cases h2:b<0<;>simp [h1,h2] at h ⊢<;>omega
theorem dj {z:Int} (h:z<0) (h2:-9223372036854775808<=z):IntKind.u64.wrap (-(IntKind.u64.wrap z))=((z.natAbs:Nat):Int):=by
  simp only [IntKind.wrap,IntKind.bits,IntKind.signed];simp;omega
theorem Ld {z:Int} (h:z<0):E2 true z.natAbs=z:=by unfold E2;simp;omega
theorem Sx {z:Int} (h:¬z<0):E2 false z.natAbs=z:=by unfold E2;simp;omega
section
set_option maxRecDepth 100000
theorem MV  :Instr.fill ([(0,2)].toArray[·]?) (AV 0).toArray []=some (AV 0).toArray:=by kernel_rfl
theorem Iw (n:Nat) (w:World)  :Calls prog 172 #[(aG (AV n))] w (Ag w (qa (decide (n=0)))):=by
 refine AW (args:=[(aG (AV n))]) func172 O O (BE O) (zM (sL [0] O) (q4 (BZ (cs:=AV n) O λb1=>asg' O (q3 (sL [1,2] O) (Ai 0 TS O (AC (v:=(aG (AV 0))) (AT (zs:=AV 0) (vs:=AV 0) (pv:=[]) (places:=[(0,2)]) zeroValue64 underlying64 (λw=>by simp [sizeOf62]) O (MV )) O (AC (By (c:=(decide (n=0))) O O eqGuardType64 (O6 9997 n 0)) O (asg' O (oNl' (zB (sL [2] O) ?_))))))))))
 exact zA (zH (ret_one O (rd_tmp (v:=(qa (decide (n=0)))) O) (λw hw=>⟨rfl,hw.out⟩)))
theorem FF (x0:Nat):Instr.fill ([(0,2)].toArray[·]?) (AV 0).toArray [(0,.agg (AV x0).toArray)]=some (AV x0).toArray:=by kernel_rfl
theorem SG (n:Nat) (w:World)  :Calls prog 116 #[(qa true),(aG (AV n))] w (Ag w (aG (A8 (E2 true n)))):=by
 refine AW (args:=[(qa true),(aG (AV n))]) func116 O O (BE O) (zM (sL [0,1] O) (q4 (BZ (cs:=AV n) O λb1=>al J9 O λb2=>q3 (sL [0,3,4] O) (Ai 1 CF O (AC (v:=(aG (AV n))) (AT (zs:=AV 0) (vs:=AV n) (pv:=[(0,(aG (AV n)))]) (places:=[(0,2)]) zeroValue64 underlying64 (λw=>by simp [sizeOf62]) O (FF n)) O (al cW O λb3=>Ah O sizeOf64 O (q6 (sL [0,4,5] O) (C_ (Ek 4++[(4,false),(5,true),(6,true),(7,true),(8,false)]) (sk (sl sr)) ?_))))))))
 refine Es 0 TS O (Bx O (Bx O (zW (v:=(aG (AV n))) O (AY O) (Ab (i:=0) (vs:=AV n) O O TS.a TS.s O O) O O (zN O (zg (v:=(qa (decide (n=0)))) (AY O) (Ao (args:=[(aG (AV n))]) O O call172) (λw hw=>Iw n w) O (BE O) (zG (sk (sl sr)) (zW (v:=(qa (!(decide (n=0))))) O (AY O) (BG (c:=(!(decide (n=0)))) O O) O O (Aj (v:=(qa (!(decide (n=0))))) O (AQ O O) (Aj (v:=(aG (AV n++[(qa (!(decide (n=0))))]))) O (AT (zs:=A8 0) (vs:=AV n++[(qa (!(decide (n=0))))]) (pv:=[(0,(aG (AV n))),(1,(qa (!(decide (n=0)))))]) (places:=[(0,2),(2,1)]) zeroValue66 underlying66 (λw=>by simp [sizeOf4,sizeOf64]) O O) (zN O (CS O sizeOf66 O ?_)))))))))))
 exact zG (sk (sl sr)) (zQ (zB (sL [4,5] O) (zA (zH (ret_one O (Ap (i:=1) (cs:=AV n++[(qa (!(decide (n=0))))]) O O isAgg66 sizeOf66 O) (λw hw=>⟨by rw [VM],hw.out⟩))))))
theorem Pw (n:Nat) (w:World)  :Calls prog 116 #[(qa false),(aG (AV n))] w (Ag w (aG (A8 (E2 false n)))):=by
 refine AW (args:=[(qa false),(aG (AV n))]) func116 O O (BE O) (zM (sL [0,1] O) (q4 (BZ (cs:=AV n) O λb1=>al J9 O λb2=>q3 (sL [0,3,4] O) (Ai 1 CF O (AC (v:=(aG (AV n))) (AT (zs:=AV 0) (vs:=AV n) (pv:=[(0,(aG (AV n)))]) (places:=[(0,2)]) zeroValue64 underlying64 (λw=>by simp [sizeOf62]) O (FF n)) O (al cW O λb3=>Ah O sizeOf64 O (q6 (sL [0,4,5] O) (C_ (Ek 4++[(4,false),(5,true),(6,true),(7,true),(8,false)]) (sk (sl sr)) ?_))))))))
 refine Es 0 TS O (Bx O (Bx O (zx O (B9 O) O O (zN O (BD O (zG (sk (sl sr)) (zx O (B9 O) O O (Aj (v:=(qa false)) O (AL O O) (Aj (v:=(aG (AV n++[(qa false)]))) O (AT (zs:=A8 0) (vs:=AV n++[(qa false)]) (pv:=[(0,(aG (AV n))),(1,(qa false))]) (places:=[(0,2),(2,1)]) zeroValue66 underlying66 (λw=>by simp [sizeOf4,sizeOf64]) O O) (zN O (CS O sizeOf66 O ?_)))))))))))
 exact zG (sk (sl sr)) (zQ (zB (sL [4,5] O) (zA (zH (ret_one O (Ap (i:=1) (cs:=AV n++[(qa false)]) O O isAgg66 sizeOf66 O) (λw hw=>⟨by rw [VN],hw.out⟩))))))
theorem EV (neg:Bool) (n:Nat) (w:World):Calls prog 116 #[.bool neg,.agg (AV n).toArray] w (Ag w (.agg (A8 (E2 neg n)).toArray)):=by
 cases neg
 ·exact Pw n w
 ·exact SG n w
theorem Zy (z:Int) (hz:-9223372036854775808<=z) (hz2:z<9223372036854775808) (w:World)  :Calls prog 150 #[(vI z)] w (Ag w (aG (A8 z))):=by
 refine AW (args:=[(vI z)]) func150 O O (BE O) (zM (sL [0] O) (q4 (al J9 O λb1=>oNl' (q1 (q4 (AM O (AC (Aa (c:=(decide (z<(0:Int)))) O O O) O (oNl' (zB (sL [0,2,4] O) (zA ?_))))))))))
 refine zL O (λhc0=>?_) (λhc0=>?_)
 ·replace hc0:=xU hc0
  have he:=Ld hc0
  exact q4 (AM O (AC (Ar (c:=(IntKind.u64.wrap z)) O underlying2 underlying60 (rfl)) O (AC (K6 (c:=((z.natAbs:Nat):Int)) O (by rw [Int.zero_sub];exact dj hc0 hz)) O (ck' call160 (KV z.natAbs Z) O (ck' call116 (EV true z.natAbs) O (Ah O sizeOf66 O (oNl' (zB (sL [0,2] O) (zA (zH (zJ (ret_one O (Ap (i:=0) (cs:=A8 (E2 true z.natAbs)) O O isAgg66 sizeOf66 O) (λw hw=>⟨by rw [he],hw.out⟩)))))))))))))
 ·replace hc0:=xT hc0
  have he:=Sx hc0
  exact zC (q2 (AM O (AC (Ar (c:=((z.natAbs:Nat):Int)) O underlying2 underlying60 (by rw [ED Z Z];omega)) O (ck' call160 (KV z.natAbs Z) O (ck' call116 (EV false z.natAbs) O (Ah O sizeOf66 O (oNl' (zB (sL [0,2] O) (zA (zH (ret_one O (Ap (i:=0) (cs:=A8 (E2 false z.natAbs)) O O isAgg66 sizeOf66 O) (λw hw=>⟨by rw [he],hw.out⟩))))))))))))
theorem N6 (a:Int) (w:World)  :Calls prog 177 #[(aG (A8 a))] w (Ag w (aG (AV a.natAbs))):=by
 refine AW (args:=[(aG (A8 a))]) func177 O O (BE O) (zM (sL [0] O) (q4 (BZ (cs:=A8 a) O λb1=>al GZ O λb2=>q3 (sL [1,2] O) (AC (v:=(pP b1 0)) (AA O underlying66 O sizeOf64 O) O (AC (v:=(pP b1 0)) (AA O underlying64 O sizeOf62 O) O (Ds 1 (AV a.natAbs) CF O (Ah O sizeOf62 O (oNl' (zB (sL [2] O) ?_)))))))))
 exact zA (zH (ret_one O (Ap (i:=0) (cs:=AV a.natAbs) O O isAgg62 sizeOf62 O) (λw hw=>⟨rfl,hw.out⟩)))
theorem LT (a:Int) (w:World)  :Calls prog 112 #[(aG (A8 a))] w (Ag w (vI a.sign)):=by
 refine AW (args:=[(aG (A8 a))]) func112 O O (BE O) (zM (sL [0] O) (q4 (BZ (cs:=A8 a) O λb1=>asg' O (q6 (sL [1,2] O) (zI (q4 (AC (v:=(pP b1 0)) (AA O underlying66 O sizeOf64 O) O (Ds 0 (AV a.natAbs) TS O (ck' call172 (Iw a.natAbs) O (asg' O ?_))))))))))
 refine oNl' (zB (sL [1,2,3] O) (zA ?_))
 refine zL O (λhc0=>?_) (λhc0=>?_)
 ·replace hc0:=xU hc0
  have he:a.sign=0:=by rw [show a=0 by omega];rfl
  exact q4 (asg' O (oNl' (zA (zH (zS (zJ (ret_one O (rd_tmp (v:=(vI 0)) O) (λw hw=>⟨by rw [he],hw.out⟩))))))))
 ·replace hc0:=xT hc0
  refine q4 (AC (v:=(pP b1 2)) (AA O underlying66 O sizeOf4 O) O (BA 0 (qa (decide (a<0))) Wj O (asg' O (oNl' (zB (sL [1,2,7] O) (zA ?_))))))
  refine zL O (λhc1=>?_) (λhc1=>?_)
  ·replace hc1:=xU hc1
   have he:a.sign = -1:=Int.sign_eq_neg_one_of_neg hc1
   exact q4 (asg' O (oNl' (zA (zH (zS (zJ (ret_one O (rd_tmp (v:=(vI (-1:Int))) O) (λw hw=>⟨by rw [he],hw.out⟩))))))))
  ·replace hc1:=xT hc1
   have he:a.sign=1:=Int.sign_eq_one_of_pos Z
   exact zC (zF (q2 (asg' O (oNl' (zA (zH (ret_one O (rd_tmp (v:=(vI 1)) O) (λw hw=>⟨by rw [he],hw.out⟩))))))))
theorem Rg (a:Int) (w:World)  :Calls prog 174 #[(aG (A8 a))] w (Ag w (aG (A8 (-a)))):=by
 refine AW (args:=[(aG (A8 a))]) func174 O O (BE O) (zM (sL [0] O) (q4 (BZ (cs:=A8 a) O λb1=>al J9 O λb2=>q3 (sL [1,2] O) (AC (v:=(pP b1 2)) (AA O underlying66 O sizeOf4 O) O (BA 1 (qa (decide (a<0))) Wj O (AC (BG (c:=(!(decide (a<0)))) O O) O (AC (v:=(pP b1 0)) (AA O underlying66 O sizeOf64 O) O (AC (v:=(pP b1 0)) (AA O underlying64 O sizeOf62 O) O (Ds 1 (AV a.natAbs) CF O ?_)))))))))
 exact ck' call116 (EV (!(decide (a<0))) a.natAbs) O (Ah O sizeOf66 O (oNl' (zB (sL [2] O) (zA (zH (ret_one O (Ap (i:=0) (cs:=A8 (E2 (!(decide (a<0))) a.natAbs)) O O isAgg66 sizeOf66 O) (λw hw=>⟨by rw [YS],hw.out⟩)))))))
theorem Yg (a b:Int) (ha:nw a.natAbs<=1099511627776) (hb:nw b.natAbs<=1099511627776) (w:World)  :Calls prog 173 #[(aG (A8 a)),(aG (A8 b))] w (Ag w (aG (A8 (a+b)))):=by
 refine AW (args:=[(aG (A8 a)),(aG (A8 b))]) func173 O O (BE O) (zM (sL [0,1] O) (q4 (BZ (cs:=A8 a) O λb1=>BZ (cs:=A8 b) O λb2=>al J9 O λb3=>q6 (sL [2,3,4] O) (q4 (AC (v:=(pP b1 2)) (AA O underlying66 O sizeOf4 O) O (BA 2 (qa (decide (a<0))) Wj O (AC (v:=(pP b2 2)) (AA O underlying66 O sizeOf4 O) O (BA 1 (qa (decide (b<0))) Wj O ?_))))))))
 refine AC (Jh (c:=(decide (a<0) == decide (b<0))) O O underlying4 O) O (oNl' (zB (sL [2,3,4,13] O) (zA ?_)))
 refine zL O (λhc0=>?_) (λhc0=>?_)
 ·have he:=OE hc0
  refine zY (C_ (Ek 8++[(8,false),(9,false),(10,false)]) (sl sr) (Aj (v:=(pP b1 2)) O (AA O underlying66 O sizeOf4 O) (BK 1 (qa (decide (a<0))) Wj O (Aj (v:=(pP b1 0)) O (AA O underlying66 O sizeOf64 O) (Aj (v:=(pP b1 0)) O (AA O underlying64 O sizeOf62 O) (IS 1 (AV a.natAbs) CF O (Aj (v:=(pP b2 0)) O (AA O underlying66 O sizeOf64 O) (Aj (v:=(pP b2 0)) O (AA O underlying64 O sizeOf62 O) (IS 0 (AV b.natAbs) CF O (zN O (ck' call159 (Tk a.natAbs b.natAbs Z Z) O ?_)))))))))))
  exact zG (sl sr) (zN O (ck' call116 (EV (decide (a<0)) (a.natAbs+b.natAbs)) O (zG (sl sr) (zN O (Ah O sizeOf66 O (zG (sl sr) (zQ (zB (sL [2,3,4] O) (zA (zH (zJ (ret_one O (Ap (i:=0) (cs:=A8 (E2 (decide (a<0)) (a.natAbs+b.natAbs))) O O isAgg66 sizeOf66 O) (λw hw=>⟨by rw [he],hw.out⟩)))))))))))))
 ·refine zC (q1 (q4 (AC (v:=(pP b1 0)) (AA O underlying66 O sizeOf64 O) O (AC (v:=(pP b1 0)) (AA O underlying64 O sizeOf62 O) O (Ds 2 (AV a.natAbs) CF O (AC (v:=(pP b2 0)) (AA O underlying66 O sizeOf64 O) O (AC (v:=(pP b2 0)) (AA O underlying64 O sizeOf62 O) O (Ds 1 (AV b.natAbs) CF O (ck' call179 (P1 a.natAbs b.natAbs Z Z) O (AM O (AC (AJ (v:=(aG (AV (a.natAbs-b.natAbs)))) O O) O ?_)))))))))))
  refine AC (AJ (v:=(qa (decide (b.natAbs<=a.natAbs)))) O O) O (al GZ O λb4=>Ah O sizeOf62 O (asg' O (q3 (sL [2,3,4,5,6] O) (AM O (oNl' (zB (sL [2,3,4,5,34] O) (zA ?_)))))))
  refine zL O (λhc1=>?_) (λhc1=>?_)
  ·replace hc1:=xU hc1
   have he:=Qa hc0 hc1
   exact q4 (AC (v:=(pP b1 2)) (AA O underlying66 O sizeOf4 O) O (BA 3 (qa (decide (a<0))) Wj O (Ai 0 CF O (ck' call116 (EV (decide (a<0)) (a.natAbs-b.natAbs)) O (CS O sizeOf66 O (oNl' (zB (sL [2,3,4,5] O) (zA (zH (zJ (ret_one O (Ap (i:=1) (cs:=A8 (E2 (decide (a<0)) (a.natAbs-b.natAbs))) O O isAgg66 sizeOf66 O) (λw hw=>⟨by rw [he],hw.out⟩))))))))))))
  ·replace hc1:=xT hc1
   have he:=Qb hc0 hc1
   refine zC (q2 (AC (v:=(pP b2 0)) (AA O underlying66 O sizeOf64 O) O (AC (v:=(pP b2 0)) (AA O underlying64 O sizeOf62 O) O (Ds 2 (AV b.natAbs) CF O (AC (v:=(pP b1 0)) (AA O underlying66 O sizeOf64 O) O (AC (v:=(pP b1 0)) (AA O underlying64 O sizeOf62 O) O (Ds 3 (AV a.natAbs) CF O (ck' call179 (P1 b.natAbs a.natAbs Z Z) O (AM O (AC (AJ (v:=(aG (AV (b.natAbs-a.natAbs)))) O O) O (AC (AJ (v:=(qa (decide (a.natAbs<=b.natAbs)))) O O) O ?_)))))))))))
   refine al GZ O λb5=>Ah O sizeOf62 O (asg' O (q3 (sL [2,3,4,5,7] O) (AC (v:=(pP b2 2)) (AA O underlying66 O sizeOf4 O) O (BA 3 (qa (decide (b<0))) Wj O (Ai 0 CF O (ck' call116 (EV (decide (b<0)) (b.natAbs-a.natAbs)) O (Lv O sizeOf66 O (oNl' (zB (sL [2,3,4,5,7] O) (zA ?_))))))))))
   exact zH (ret_one O (Ap (i:=2) (cs:=A8 (E2 (decide (b<0)) (b.natAbs-a.natAbs))) O O isAgg66 sizeOf66 O) (λw hw=>⟨by rw [he],hw.out⟩))
theorem Wp (a b:Int) (ha:nw a.natAbs<=1099511627776) (hb:nw b.natAbs<=1099511627776) (w:World)  :Calls prog 115 #[(aG (A8 a)),(aG (A8 b))] w (Ag w (aG (A8 (a*b)))):=by
 refine AW (args:=[(aG (A8 a)),(aG (A8 b))]) func115 O O (BE O) (zM (sL [0,1] O) (q4 (BZ (cs:=A8 a) O λb1=>BZ (cs:=A8 b) O λb2=>al J9 O λb3=>q6 (sL [2,3,4] O) (C_ (Ek 11++[(11,false),(12,false),(13,false)]) (sl sr) (Aj (v:=(pP b1 2)) O (AA O underlying66 O sizeOf4 O) (BK 1 (qa (decide (a<0))) Wj O (Aj (v:=(pP b2 2)) O (AA O underlying66 O sizeOf4 O) (BK 0 (qa (decide (b<0))) Wj O ?_))))))))
 refine Aj O (Ji (c:=(!(decide (a<0) == decide (b<0)))) O O underlying4 O) (Aj (v:=(pP b1 0)) O (AA O underlying66 O sizeOf64 O) (Aj (v:=(pP b1 0)) O (AA O underlying64 O sizeOf62 O) (IS 1 (AV a.natAbs) CF O (Aj (v:=(pP b2 0)) O (AA O underlying66 O sizeOf64 O) (Aj (v:=(pP b2 0)) O (AA O underlying64 O sizeOf62 O) (IS 0 (AV b.natAbs) CF O (zN O (ck' call125 (Pz a.natAbs b.natAbs Z Z) O (zG (sl sr) (zN O (ck' call116 (EV (!(decide (a<0) == decide (b<0))) (a.natAbs*b.natAbs)) O ?_)))))))))))
 exact zG (sl sr) (zN O (Ah O sizeOf66 O (zG (sl sr) (zQ (zB (sL [4] O) (zA (zH (ret_one O (Ap (i:=0) (cs:=A8 (E2 (!(decide (a<0) == decide (b<0))) (a.natAbs*b.natAbs))) O O isAgg66 sizeOf66 O) (λw hw=>⟨by rw [YR],hw.out⟩)))))))))
theorem Iz (a b:Int) (ha:nw a.natAbs<=1099511627776) (hb:nw b.natAbs<=1099511627776) (w:World)  :Calls prog 114 #[(Value.func (.func 173) #[] #[]),(aG (A8 a)),(aG (A8 b))] w (Ag w (aG (A8 (a+b)))):=by
 refine AW (args:=[(Value.func (.func 173) #[] #[]),(aG (A8 a)),(aG (A8 b))]) func114 O O (BE O) (zM (sL [0,1,2] O) (q4 (BZ (cs:=A8 a) O λb1=>BZ (cs:=A8 b) O λb2=>al J9 O λb3=>q3 (sL [0,4,5,6] O) (AM O (Ai 2 DU O (Ai 1 DU O (ck' call173 (Yg a b (by first|omega|(simp only [Int.natAbs_neg,Az,Int.natAbs_natCast];omega)) (by first|omega|(simp only [Int.natAbs_neg,Az,Int.natAbs_natCast];omega))) O (Ah O sizeOf66 O ?_))))))))
 exact oNl' (zB (sL [6] O) (zA (zH (ret_one O (Ap (i:=0) (cs:=A8 (a+b)) O O isAgg66 sizeOf66 O) (λw hw=>⟨rfl,hw.out⟩)))))
theorem Mg (a b:Int) (ha:nw a.natAbs<=1099511627776) (hb:nw b.natAbs<=1099511627776) (w:World)  :Calls prog 114 #[(Value.func (.func 115) #[] #[]),(aG (A8 a)),(aG (A8 b))] w (Ag w (aG (A8 (a*b)))):=by
 refine AW (args:=[(Value.func (.func 115) #[] #[]),(aG (A8 a)),(aG (A8 b))]) func114 O O (BE O) (zM (sL [0,1,2] O) (q4 (BZ (cs:=A8 a) O λb1=>BZ (cs:=A8 b) O λb2=>al J9 O λb3=>q3 (sL [0,4,5,6] O) (AM O (Ai 2 DU O (Ai 1 DU O (ck' call115 (Wp a b (by first|omega|(simp only [Int.natAbs_neg,Az,Int.natAbs_natCast];omega)) (by first|omega|(simp only [Int.natAbs_neg,Az,Int.natAbs_natCast];omega))) O (Ah O sizeOf66 O ?_))))))))
 exact oNl' (zB (sL [6] O) (zA (zH (ret_one O (Ap (i:=0) (cs:=A8 (a*b)) O O isAgg66 sizeOf66 O) (λw hw=>⟨rfl,hw.out⟩)))))
theorem N7 (a b:Int) (ha:nw a.natAbs<=1099511627776) (hb:nw b.natAbs<=1099511627776) (w:World)  :Calls prog 123 #[(aG (A8 a)),(aG (A8 b))] w (Ag w (aG (A8 (a+b)))):=by
 refine AW (args:=[(aG (A8 a)),(aG (A8 b))]) func123 O O (BE O) (zM (sL [0,1] O) (q4 (BZ (cs:=A8 a) O λb1=>BZ (cs:=A8 b) O λb2=>al J9 O λb3=>q3 (sL [2,3,4] O) (Ai 2 DU O (Ai 1 DU O (ck' call114 (Iz a b (by first|omega|(simp only [Int.natAbs_neg,Az,Int.natAbs_natCast];omega)) (by first|omega|(simp only [Int.natAbs_neg,Az,Int.natAbs_natCast];omega))) O (Ah O sizeOf66 O (oNl' ?_))))))))
 exact zB (sL [4] O) (zA (zH (ret_one O (Ap (i:=0) (cs:=A8 (a+b)) O O isAgg66 sizeOf66 O) (λw hw=>⟨rfl,hw.out⟩))))
theorem X4 (a b:Int) (ha:nw a.natAbs<=1099511627776) (hb:nw b.natAbs<=1099511627776) (w:World)  :Calls prog 113 #[(aG (A8 a)),(aG (A8 b))] w (Ag w (aG (A8 (a-b)))):=by
 refine AW (args:=[(aG (A8 a)),(aG (A8 b))]) func113 O O (BE O) (zM (sL [0,1] O) (q4 (BZ (cs:=A8 a) O λb1=>BZ (cs:=A8 b) O λb2=>al J9 O λb3=>q6 (sL [2,3,4] O) (C_ [(0,true),(1,true),(2,false),(3,false),(4,false)] (sl sr) (Es 1 DU O (Es 0 DU O (zN O (ck' call174 (Rg b) O ?_))))))))
 exact zG (sl sr) (zN O (ck' call114 (Iz a (-b) (by first|omega|(simp only [Int.natAbs_neg,Az,Int.natAbs_natCast];omega)) (by first|omega|(simp only [Int.natAbs_neg,Az,Int.natAbs_natCast];omega))) O (zG (sl sr) (zN O (Ah O sizeOf66 O (zG (sl sr) (zQ (zB (sL [4] O) (zA (zH (ret_one O (Ap (i:=0) (cs:=A8 (a+(-b))) O O isAgg66 sizeOf66 O) (λw hw=>⟨by rw [Int.sub_eq_add_neg],hw.out⟩))))))))))))
theorem HR (a b:Int) (ha:nw a.natAbs<=1099511627776) (hb:nw b.natAbs<=1099511627776) (w:World)  :Calls prog 53 #[(aG (A8 a)),(aG (A8 b))] w (Ag w (aG (A8 (a*b)))):=by
 refine AW (args:=[(aG (A8 a)),(aG (A8 b))]) func53 O O (BE O) (zM (sL [0,1] O) (q4 (BZ (cs:=A8 a) O λb1=>BZ (cs:=A8 b) O λb2=>al J9 O λb3=>q3 (sL [2,3,4] O) (Ai 2 DU O (Ai 1 DU O (ck' call114 (Mg a b (by first|omega|(simp only [Int.natAbs_neg,Az,Int.natAbs_natCast];omega)) (by first|omega|(simp only [Int.natAbs_neg,Az,Int.natAbs_natCast];omega))) O (Ah O sizeOf66 O (oNl' ?_))))))))
 exact zB (sL [4] O) (zA (zH (ret_one O (Ap (i:=0) (cs:=A8 (a*b)) O O isAgg66 sizeOf66 O) (λw hw=>⟨rfl,hw.out⟩))))
theorem Rf (a b:Int) (ha:nw a.natAbs<=1099511627776) (hb:nw b.natAbs<=1099511627776) (w:World)  :Calls prog 52 #[(aG (A8 a)),(aG (A8 b))] w (Ag w (vI ((a-b).sign))):=by
 refine AW (args:=[(aG (A8 a)),(aG (A8 b))]) func52 O O (BE O) (zM (sL [0,1] O) (q4 (BZ (cs:=A8 a) O λb1=>BZ (cs:=A8 b) O λb2=>asg' O (q3 (sL [2,3,4] O) (Ai 1 DU O (Ai 0 DU O (ck' call113 (X4 a b (by first|omega|(simp only [Int.natAbs_neg,Az,Int.natAbs_natCast];omega)) (by first|omega|(simp only [Int.natAbs_neg,Az,Int.natAbs_natCast];omega))) O (ck' call112 (LT (a-b)) O (asg' O ?_)))))))))
 exact oNl' (zB (sL [4] O) (zA (zH (ret_one O (rd_tmp (v:=(vI ((a-b).sign))) O) (λw hw=>⟨rfl,hw.out⟩)))))
end
def Sz (q:Rat):Nat:=max (nw q.num.natAbs) (nw q.den)
theorem Eo (q:Rat):nw q.num.natAbs<=Sz q:=Nat.le_max_left ..
theorem EE (q:Rat):nw q.den<=Sz q:=Nat.le_max_right ..
theorem ZD {q:Rat} {k:Nat} (h1:nw q.num.natAbs<=k) (h2:nw q.den<=k):Sz q<=k:=Nat.max_le.2 ⟨h1,h2⟩
theorem Lk:nw 1=1:=by decide
theorem UE (q:Rat):1<=Sz q:=xN (by rw [<-Lk];exact Dr q.den_pos) (EE q)
theorem Kk {n:Int} {d k:Nat} (h1:nw n.natAbs<=k) (h2:nw d<=k) (hk:1<=k):Sz (mkRat n d)<=k:=by
  refine ZD ?_ ?_
  · rw [Rat.num_mkRat]
    split
    · exact xK _
    · refine xN (Dr ?_) h1
      rw [Int.natAbs_ediv_of_dvd (by rw [Int.ofNat_dvd_left];exact Nat.gcd_dvd_right ..)]
      exact Nat.div_le_self _ _
  · rw [Rat.den_mkRat]
    split
    · rw [Lk];exact hk
    · exact xN (Dr (Nat.div_le_self _ _)) h2
theorem Ru (a b:Int):nw (a*b).natAbs<=nw a.natAbs+nw b.natAbs:=by rw [Int.natAbs_mul];exact Vy _ _
theorem Ey (a b:Int):nw (a+b).natAbs<=max (nw a.natAbs) (nw b.natAbs)+1:=xN (Dr (Int.natAbs_add_le a b)) (aC _ _)
theorem Dm (a b:Rat):nw (a.num*((b.den:Nat):Int)).natAbs<=Sz a+Sz b:=by
  have h1:=Ru a.num ((b.den:Nat):Int)
  have h2:=Eo a
  have h3:=EE b
  rw [Int.natAbs_natCast] at h1
  omega
theorem I9 (a b:Rat):nw (a.den*b.den)<=Sz a+Sz b:=by
  have h1:=Vy a.den b.den
  have h2:=EE a
  have h3:=EE b
  omega
theorem Lj (a b:Rat):nw (a.num*b.num).natAbs<=Sz a+Sz b:=by
  have h1:=Ru a.num b.num
  have h2:=Eo a
  have h3:=Eo b
  omega
theorem Mk (a b:Rat):mkRat (a.num*((b.den:Nat):Int)+b.num*((a.den:Nat):Int)) (a.den*b.den)=a+b:=by rw [Rat.add_def,Rat.normalize_eq_mkRat]
theorem ND (a b:Rat):mkRat (a.num*b.num) (a.den*b.den)=a*b:=by rw [Rat.mul_def,Rat.normalize_eq_mkRat]
theorem I1 {a:Rat} (h:a.den-1=0):a=((a.num:Int):Rat):=by
  have h1:a.den=1:=by have:=a.den_pos;omega
  exact Rat.ext O h1
theorem SM {a b:Rat} (ha:a.den-1=0) (hb:b.den-1=0):((a.num+b.num:Int):Rat)=a+b:=by
  rw [Rat.intCast_add,<-I1 ha,<-I1 hb]
theorem Sy {a b:Rat} (ha:a.den-1=0) (hb:b.den-1=0):((a.num*b.num:Int):Rat)=a*b:=by
  rw [Rat.intCast_mul,<-I1 ha,<-I1 hb]
theorem O3 {a b:Rat} (h:a.den-1=b.den-1):a.den=b.den:=by
  have h1:=a.den_pos
  have h2:=b.den_pos
  omega
theorem UI {a b:Rat} (h:a.den-1=b.den-1):mkRat (a.num+b.num) a.den=a+b:=by
  have h1:=O3 h
  have h2:a+b=mkRat a.num a.den+mkRat b.num a.den:=by rw [Rat.mkRat_self];conv=>lhs;rw [<-Rat.mkRat_self b,<-h1]
  rw [h2,Rat.mkRat_eq_div,Rat.mkRat_eq_div,Rat.mkRat_eq_div,Rat.intCast_add,Rat.div_def,Rat.div_def,Rat.div_def,Rat.add_mul]
theorem En (a b:Rat):Sz (a+b)<=Sz a+Sz b+1:=by
  rw [<-Mk]
  have h1:=Dm a b
  have h2:=Dm b a
  have h3:=Ey (a.num*((b.den:Nat):Int)) (b.num*((a.den:Nat):Int))
  have h4:=I9 a b
  exact Kk Z Z Z
theorem C2 (a b:Rat):Sz (a*b)<=Sz a+Sz b:=by
  rw [<-ND]
  have:=UE a
  exact Kk (Lj a b) (I9 a b) Z
theorem Df (a:Rat):Sz (-a)=Sz a:=by unfold Sz;rw [Rat.neg_num,Rat.neg_den,Int.natAbs_neg]
theorem I6 (a b:Rat):Sz (a-b)<=Sz a+Sz b+1:=by rw [Rat.sub_eq_add_neg,<-Df b];exact En a (-b)
theorem M_ {b:Rat} (h:b≠0):mkRat (E2 (decide (b.num.sign<0)) b.den) b.num.natAbs=b⁻¹:=by
  have hn:b.num≠0:=λe=>h (Rat.num_eq_zero.1 e)
  have hb:b=(b.num:Rat)/((b.den:Nat):Rat):=by rw [<-Rat.mkRat_eq_div,Rat.mkRat_self]
  have hd:((b.den:Nat):Rat)≠0:=by
    intro e
    have:=b.den_pos
    have h2:b.den=0:=by exact_mod_cast e
    omega
  have hn2:((b.num:Int):Rat)≠0:=by
    intro e
    exact hn (by exact_mod_cast e)
  rw [Rat.mkRat_eq_div]
  conv=>rhs;rw [hb]
  by_cases hs:b.num<0
  · have e1:decide (b.num.sign<0)=true:=by simp [Int.sign_eq_neg_one_of_neg hs]
    have e2:((b.num.natAbs:Nat):Rat) = -((b.num:Int):Rat):=by
      have:((b.num.natAbs:Nat):Int) = -b.num:=by omega
      rw [<-Rat.intCast_natCast,this,Rat.intCast_neg]
    rw [e1,e2]
    simp only [E2,if_true,Rat.intCast_neg,Rat.intCast_natCast]
    grind
  · have e1:decide (b.num.sign<0)=false:=by
      have:0<=b.num.sign:=Int.sign_nonneg_iff.2 Z
      exact xI Z
    have e2:((b.num.natAbs:Nat):Rat)=((b.num:Int):Rat):=by
      have:((b.num.natAbs:Nat):Int)=b.num:=by omega
      rw [<-Rat.intCast_natCast,this]
    rw [e1,e2]
    simp only [E2,Bool.false_eq_true,if_false,Rat.intCast_natCast]
    grind
theorem UD {b:Rat} (h:b≠0):Sz b⁻¹<=Sz b:=by
  rw [<-M_ h]
  exact Kk (by rw [Az];exact EE b) (Eo b) (UE b)
theorem Ki {a b:Rat} (h:b≠0):Sz (a/b)<=Sz a+Sz b:=by
  rw [Rat.div_def]
  have h1:=C2 a b⁻¹
  have h2:=UD h
  omega
def Fw (a b:Rat):Int:=if a<b then -1 else if a=b then 0 else 1
theorem Ku (a b:Rat):(a.num*((b.den:Nat):Int)-b.num*((a.den:Nat):Int)).sign=Fw a b:=by
  have h1:=Rat.lt_iff a b
  have h2:=@Rat.eq_iff_mul_eq_mul a b
  unfold Fw
  split
  · rename_i h;exact Int.sign_eq_neg_one_of_neg (by have:=h1.1 h;omega)
  · rename_i h
    split
    · rename_i h';rw [h2.1 h'];simp
    · rename_i h'
      have h3:¬a.num*((b.den:Nat):Int)<b.num*((a.den:Nat):Int):=λe=>h (h1.2 e)
      have h4:¬a.num*((b.den:Nat):Int)=b.num*((a.den:Nat):Int):=λe=>h' (h2.2 e)
      exact Int.sign_eq_one_of_pos Z
theorem ST {a b:Rat} (h:a.den-1=b.den-1):(a.num-b.num).sign=Fw a b:=by
  rw [<-Ku,<-O3 h,<-Int.sub_mul,Int.sign_mul]
  have:=a.den_pos
  rw [show ((a.den:Nat):Int).sign=1 from Int.sign_eq_one_of_pos Z]
  simp
theorem HL {a b:Rat}:Fw a b<0↔a<b:=by
  unfold Fw;split
  · simp [*]
  · split<;>simp [*]
theorem RO {a b:Rat}:Fw a b=0↔a=b:=by
  unfold Fw;split
  · rename_i h
    constructor
    · intro e;cases e
    · intro e;subst e;exact absurd h jX
  · split<;>simp [*]
theorem Jm (q:Rat):AG q=A8 q.num++AV (q.den-1):=rfl
theorem YO {n:Int} {d:Nat} (hd:d≠0):(mkRat n d).num=E2 (decide (n.sign<0)) (n.natAbs/Nat.gcd n.natAbs d):=by
  rw [Rat.num_mkRat,if_neg hd,Nat.gcd_comm]
  unfold E2
  by_cases h:n<0
  · rw [Int.sign_eq_neg_one_of_neg h]
    have e:n = -((n.natAbs:Nat):Int):=by omega
    simp only [show decide ((-1:Int)<0)=true from rfl,if_true]
    conv=>lhs;rw [e]
    rw [Int.natAbs_neg,Int.natAbs_natCast,Int.neg_ediv_of_dvd (by rw [Int.natCast_dvd_natCast];exact Nat.gcd_dvd_left ..)]
    rfl
  · have h0:0<=n.sign:=Int.sign_nonneg_iff.2 Z
    have e:n=((n.natAbs:Nat):Int):=by omega
    rw [if_neg (by simp;omega)]
    conv=>lhs;rw [e]
    rw [Int.natAbs_natCast]
    rfl
theorem YN {n:Int} {d:Nat} (hd:d≠0):(mkRat n d).den=d/Nat.gcd n.natAbs d:=by rw [Rat.den_mkRat,if_neg hd,Nat.gcd_comm]
end Go.Proofs.YtbfdamnfcmefmaaGreatDoor
