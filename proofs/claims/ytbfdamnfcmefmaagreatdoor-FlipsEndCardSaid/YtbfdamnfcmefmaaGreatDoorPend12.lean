import Derived.Test.YtbfdamnfcmefmaaGreatDoorPend11
namespace Go.Proofs.YtbfdamnfcmefmaaGreatDoor
open Go Go.RowKit Go.Proofs.Tryz
open Go.Value renaming slice→qz,bool→qa
set_option linter.unusedVariables false
set_option linter.unusedSimpArgs false
section
set_option maxRecDepth 100000
theorem Fs {N v:Nat} (h:v<4294967296^N):val ((Ck N v).take N)=v:=by
 rw [List.take_of_length_le (by rw [Bg];exact Nat.le_refl _),FS _ _ h]
theorem S8 {a b:Nat} (hb:0<nw b) (h:nw b<=nw a):a/b<4294967296^(nw a+1-nw b):=by
 have h1:=Ii hb
 have h2:=B7 a
 rw [Nat.div_lt_iff_lt_mul (by have:=Nat.pow_pos (n:=nw b-1) (show 0<4294967296 by omega);omega)]
 have h3:4294967296^(nw a+1-nw b)*4294967296^(nw b-1)<=4294967296^(nw a+1-nw b)*b:=Nat.mul_le_mul_left _ h1
 rw [<-Nat.pow_add,show nw a+1-nw b+(nw b-1)=nw a by omega] at h3
 omega
theorem S_ {a b:Nat}:a%b<4294967296^(nw a+1):=Nat.lt_of_le_of_lt (Nat.mod_le _ _) (Nat.lt_of_lt_of_le (B7 a) (Nat.pow_le_pow_right Z Z))
theorem Qj {b:Nat} (h:nw b=0):b=0:=by
 have:=B7 b
 rw [h] at this
 omega
theorem Yr {b:Nat} (h:nw b=1):(Ar b).getD 0 0=b/\b<4294967296:=by
 have h1:=B7 b
 rw [h] at h1
 refine ⟨?_,Z⟩
 rw [Dl Z,IG,Nat.pow_zero,Nat.div_one,Nat.mod_eq_of_lt Z]
theorem MS  :Instr.fill ([(0,1),(1,1)].toArray[·]?) (AT 0).toArray []=some (AT 0).toArray:=by kernel_rfl
theorem Ps (a b:Nat) (ha:nw a<=1099511627776) (hb:nw b<=1099511627776) (hb0:b≠0) (w:World)  :Calls prog 178 #[(aG (AT a)),(aG (AT b))] w (Ac w (Value.tuple #[(aG (AT (a/b))),(aG (AT (a%b))),(qa true)])):=by
 have hnb:nw b≠0:=λh=>hb0 (Qj h)
 have hla:=CQ a
 have hlb:=CQ b
 refine AW (args:=[(aG (AT a)),(aG (AT b))]) func178 O O (A_ O) (zM (sL [0,1] O) (q4 (BV (cs:=AT a) O λb1=>BV (cs:=AT b) O λb2=>al GV O λb3=>al GV O λb4=>asg' O (q6 (sL [2,3,4,5,6] O) (zI (q4 (Ak 2 B8 O ?_)))))))
 refine ck' call222 (SB b) O (asg' O (oNl' (zB (sL [2,3,4,5,6,12] O) (zA ?_))))
 refine zK O (λhc0=>?_) (λhc0=>?_)
 ·replace hc0:=xT hc0
  exact absurd hc0 hb0
 ·replace hc0:=xS hc0
  refine q4 (Ak 3 B8 O (Ak 2 B8 O (ck' call223 (Tm a b Z Z) O (AD (Ab (c:=(decide ((Fy a b)<(0:Int)))) O O O) O (asg' O (oNl' (zB (sL [2,3,4,5,6,17] O) (zA ?_))))))))
  refine zK O (λhc1=>?_) (λhc1=>?_)
  ·replace hc1:=xT hc1
   rw [J6] at hc1
   have e1:a/b=0:=Nat.div_eq_of_lt hc1
   have e2:a%b=a:=Nat.mod_eq_of_lt hc1
   refine zX (C8 [(0,true),(1,true),(2,false),(3,false),(4,true)] (sl (sl sr)) (Al (v:=(aG (AT 0))) O (AQ (zs:=AT 0) (vs:=AT 0) (pv:=[]) (places:=[(0,1),(1,1)]) zeroValue62 underlying62 (λw=>by simp [sizeOf9,sizeOf60]) O (MS )) (Ej 1 B8 O (zN O (CM O sizeOf62 O (zD (sl (sl sr)) (zN O (Ah O sizeOf62 O (zD (sl (sl sr)) (pS' O (zQ ?_)))))))))))
   exact zB (sL [2,3,4,5,6] O) (zA (zG (zR (zJ (Du O (An (i:=1) (cs:=AT 0) O O isAgg62 sizeOf62 O) (An (i:=0) (cs:=AT a) O O isAgg62 sizeOf62 O) (rd_tmp (v:=(qa true)) O) (λw hw=>⟨by rw [e1,e2],hw.out⟩))))))
  ·replace hc1:=xS hc1
   rw [J6] at hc1
   have hba:nw b<=nw a:=Dm Z
   refine q4 (AD (v:=(pP b1 1)) (AA O underlying62 O sizeOf9 O) O (BG 3 (Value.string (Bm a)) Tj O (AD (Bh (c:=(decide (a<18446744073709551616))) O O Cg) O (asg' O (oNl' (zB (sL [2,3,4,5,6,24] O) (zA ?_)))))))
   refine zK O (λhc2=>?_) (λhc2=>?_)
   ·replace hc2:=xT hc2
    have la:B6 a=a:=Bf hc2
    have lb:B6 b=b:=Bf Z
    have q1:a/b<18446744073709551616:=Nat.lt_of_le_of_lt (Nat.div_le_self _ _) hc2
    have q2:a%b<18446744073709551616:=Nat.lt_of_le_of_lt (Nat.mod_le _ _) hc2
    refine zX (C8 (El 12++[(12,false),(13,false),(14,true)]) (sl (sl sr)) (Al (v:=(pP b1 0)) O (AA O underlying62 O sizeOf60 O) (BQ 1 (vK .u64 (B6 a)) G5 O (Al (v:=(pP b2 0)) O (AA O underlying62 O sizeOf60 O) (BQ 0 (vK .u64 (B6 b)) G5 O (Al O (Gn (c:=(((B6 a)/(B6 b):Nat):Int)) O O Z (Lm (a:=B6 a) (b:=B6 b) Z)) (Al (v:=(aG ([(vK .u64 ((B6 a)/(B6 b))),(Value.string (Bm 0))]))) O (AQ (zs:=AT 0) (vs:=[(vK .u64 ((B6 a)/(B6 b))),(Value.string (Bm 0))]) (pv:=[(0,(vK .u64 ((B6 a)/(B6 b))))]) (places:=[(0,1),(1,1)]) zeroValue62 underlying62 (λw=>by simp [sizeOf9,sizeOf60]) O O) (Al (v:=(pP b1 0)) O (AA O underlying62 O sizeOf60 O) (BQ 1 (vK .u64 (B6 a)) G5 O (Al (v:=(pP b2 0)) O (AA O underlying62 O sizeOf60 O) (BQ 0 (vK .u64 (B6 b)) G5 O ?_)))))))))))
    refine Al O (CE (c:=(((B6 a)%(B6 b):Nat):Int)) O O Z (JH (a:=B6 a) (b:=B6 b))) (Al (v:=(aG ([(vK .u64 ((B6 a)%(B6 b))),(Value.string (Bm 0))]))) O (AQ (zs:=AT 0) (vs:=[(vK .u64 ((B6 a)%(B6 b))),(Value.string (Bm 0))]) (pv:=[(0,(vK .u64 ((B6 a)%(B6 b))))]) (places:=[(0,1),(1,1)]) zeroValue62 underlying62 (λw=>by simp [sizeOf9,sizeOf60]) O O) (zN O (CM O sizeOf62 O (zD (sl (sl sr)) (zN O (Ah O sizeOf62 O (zD (sl (sl sr)) (pS' O (zQ (zB (sL [2,3,4,5,6] O) (zA ?_)))))))))))
    exact zG (zR (zJ (Du O (An (i:=1) (cs:=[(vK .u64 ((B6 a)/(B6 b))),(Value.string (Bm 0))]) O O isAgg62 sizeOf62 O) (An (i:=0) (cs:=[(vK .u64 ((B6 a)%(B6 b))),(Value.string (Bm 0))]) O O isAgg62 sizeOf62 O) (rd_tmp (v:=(qa true)) O) (λw hw=>⟨by rw [Dq q1,Dq q2,la,lb];rfl,hw.out⟩))))
   ·replace hc2:=xS hc2
    refine zC (zF (q2 (Ak 2 B8 O (yA (V:=λb5=>(qz (jk b5) (nw b) ((Ar b).length))) (T:=89) (cs:=Aj (Ar b)) (AI O) (Am (args:=[(aG (AT b))]) O O call152) (λw hw=>DS b Z w) O (A_ O) λb5=>asg' O (q6 (sL [2,3,4,5,6,7] O) (q4 (AL O (AD (v:=(vN (nw b))) (AE O underlying220) O (AD (BM (c:=(decide ((nw b)=1))) O O (O5 (a:=nw b) (b:=1))) O (oNl' ?_))))))))))
    refine zB (sL [2,3,4,5,6,7,44] O) (zA ?_)
    refine zK O (λhc3=>?_) (λhc3=>?_)
    ·replace hc3:=xT hc3
     obtain ⟨hy,hy2⟩:=Yr hc3
     refine zX (C8 [(0,true),(2,true),(3,true),(4,true),(1,false),(5,false),(6,true),(7,true),(8,true),(9,true),(10,true)] sr (Ej 4 B8 O (Bp O (Al (v:=(pP b5 0)) O (AG (j:=0) O O underlying220 sizeOf89 O Z O) ?_))))
     have hx1:(Ar b).getD 0 0<4294967296:=W32.getD (CU b) 0
     refine Al O (AH (i:=0) (v:=(vK .u32 ((Ar b).getD 0 0))) O O isAgg89 (BF (xs:=Ar b) (j:=0) Z)) (zN O (yA (V:=λb6=>(qz (jk b6) (nw a) ((Ar a).length))) (T:=89) (cs:=Aj (Ar a)) (AI O) (Am (args:=[(aG (AT a))]) O O call152) (λw hw=>DS a Z w) O (A_ O) λb6=>zD (sl sr) (zN O (yA (V:=λb7=>(Value.tuple #[(qz (jk b7) (nw a) (nw a)),(vK .u32 (a%((Ar b).getD 0 0)))])) (T:=89) (cs:=Aj (Ck (nw a) (a/((Ar b).getD 0 0)))) (AI O) (Am (args:=[(qz (jk b6) (nw a) ((Ar a).length)),(vK .u32 ((Ar b).getD 0 0))]) O O call153) (λw hw=>WY a ((Ar b).getD 0 0) _ _ Z Z Z w (hw.get (i:=0) O)) O (A_ O) λb7=>zD (sl (sl sr)) (Bp O (Al O (AJ (v:=(qz (jk b7) (nw a) (nw a))) O O) (Al O (AJ (v:=(vK .u32 (a%((Ar b).getD 0 0)))) O O) (pS' O (pS' O ?_)))))))))
     refine zQ (zB (sL [2,3,4,5,6,7,8,9] O) (q2 (AL O (C3 call181 (λw hw=>Jj _ (nw a) (nw a) (Ck (nw a) (a/((Ar b).getD 0 0))) (D9 _ _) (by first|omega|(rw [Bg];omega)|simp|(simp;omega)) (by first|omega|simp|(simp;omega)) (by first|omega|simp|(simp;omega)) w (hw.get (i:=0) O)) O (zL (k:=55) (u:=(aG (AT (a/b)))) O (by rw [hy,Fs (Nat.lt_of_le_of_lt (Nat.div_le_self _ _) (B7 a))]) (AL O ?_))))))
     have hmb:a%(Ar b).getD 0 0<4294967296:=by rw [hy];exact Nat.lt_of_lt_of_le (Nat.mod_lt _ Z) Z
     exact AD (Aq (c:=((a%((Ar b).getD 0 0):Nat):Int)) O underlying89 underlying60 (BS Z)) O (AD (v:=(aG ([(vK .u64 (a%((Ar b).getD 0 0))),(Value.string (Bm 0))]))) (AQ (zs:=AT 0) (vs:=[(vK .u64 (a%((Ar b).getD 0 0))),(Value.string (Bm 0))]) (pv:=[(0,(vK .u64 (a%((Ar b).getD 0 0))))]) (places:=[(0,1),(1,1)]) zeroValue62 underlying62 (λw=>by simp [sizeOf9,sizeOf60]) O O) O (zL (k:=58) (u:=(aG (AT (a%b)))) O (by rw [hy] at hmb ⊢;rw [Dq Z];rfl) (Fj 4 (off:=0) (vs:=AT (a/b)) (cs':=AT (a/b)) (AI O) O sizeOf62 O (Fi O sizeOf62 O (asg' O (oNl' (zB (sL [2,3,4,5,6,7] O) (zA (zG (zJ (Du O (An (i:=4) (cs:=AT (a/b)) O O isAgg62 sizeOf62 O) (An (i:=3) (cs:=AT (a%b)) O O isAgg62 sizeOf62 O) (rd_tmp (v:=(qa true)) O) (λw hw=>⟨rfl,hw.out⟩))))))))))))
    ·replace hc3:=xS hc3
     refine zC (q2 (Ak 4 B8 O (yA (V:=λb6=>(qz (jk b6) (nw a) ((Ar a).length))) (T:=89) (cs:=Aj (Ar a)) (AI O) (Am (args:=[(aG (AT a))]) O O call152) (λw hw=>DS a Z w) O (A_ O) λb6=>AL O (AR.callBB (V:=λb7 b8=>(Value.tuple #[(qz (jk b7) (nw a+1-nw b) (nw a+1-nw b)),(qz (jk b8) (nw a+1) (nw a+1))])) (T:=89) (cs:=Aj (Ck (nw a+1-nw b) (a/b))) (T2:=89) (cs2:=Aj (Ck (nw a+1) (a%b))) (AI O) (Am (args:=[(qz (jk b6) (nw a) ((Ar a).length)),(qz (jk b5) (nw b) ((Ar b).length))]) O O call224) (λw hw=>YY a b _ _ _ _ Z Z Z w (hw.get (i:=0) O) (hw.get (i:=1) O)) O (A_ O) λb7 b8=>AL O (AD (AJ (v:=(qz (jk b7) (nw a+1-nw b) (nw a+1-nw b))) O O) O (AD (AJ (v:=(qz (jk b8) (nw a+1) (nw a+1))) O O) O (asg' O (asg' O (q3 (sL [2,3,4,5,6,7,10,11] O) ?_)))))))))
     refine AL O (C3 call181 (λw hw=>Jj _ (nw a+1-nw b) (nw a+1-nw b) (Ck (nw a+1-nw b) (a/b)) (D9 _ _) (by first|omega|(rw [Bg];omega)|simp|(simp;omega)) (by first|omega|simp|(simp;omega)) (by first|omega|simp|(simp;omega)) w (hw.get (i:=0) O)) O (zL (k:=67) (u:=(aG (AT (a/b)))) O (by rw [Fs (S8 Z hba)]) (AL O (C3 call181 (λw hw=>Jj _ (nw a+1) (nw a+1) (Ck (nw a+1) (a%b)) (D9 _ _) (by first|omega|(rw [Bg];omega)|simp|(simp;omega)) (by first|omega|simp|(simp;omega)) (by first|omega|simp|(simp;omega)) w (hw.get (i:=1) O)) O (zL (k:=69) (u:=(aG (AT (a%b)))) O (by rw [Fs S_]) (Fj 5 (off:=0) (vs:=AT (a/b)) (cs':=AT (a/b)) (AI O) O sizeOf62 O (Fj 4 (off:=0) (vs:=AT (a%b)) (cs':=AT (a%b)) (AI O) O sizeOf62 O (asg' O (oNl' (zB (sL [2,3,4,5,6,7] O) (zA ?_)))))))))))
     exact zG (Du O (An (i:=5) (cs:=AT (a/b)) O O isAgg62 sizeOf62 O) (An (i:=4) (cs:=AT (a%b)) O O isAgg62 sizeOf62 O) (rd_tmp (v:=(qa true)) O) (λw hw=>⟨rfl,hw.out⟩))
theorem Ze (a b:Nat) (ha:nw a<=1099511627776) (hb:nw b<=1099511627776) (w:World)  :Calls prog 176 #[(aG (AT a)),(aG (AT b))] w (Ac w (aG (AT (Nat.gcd a b)))):=by
 refine AW (args:=[(aG (AT a)),(aG (AT b))]) func176 O O (A_ O) (zM (sL [0,1] O) (q4 (BV (cs:=AT a) O λb1=>BV (cs:=AT b) O λb2=>al GV O λb3=>q6 (sL [2,3,4] O) (zI ?_))))
 refine yE (tg λ(x:Nat) (y:Nat)=>Nat.gcd x y=Nat.gcd a b/\nw x<=1099511627776/\nw y<=1099511627776) (tg λ(x:Nat) (y:Nat)=>[(2,(pP b1 0)),(3,(pP b2 0)),(4,(pP b3 0))]) (tg λ(x:Nat) (y:Nat)=>[AY b3 62 (AT 0),AY b2 62 (AT y),AY b1 62 (AT x)]) (tg λ(x:Nat) (y:Nat)=>y) a b (⟨rfl,ha,hb⟩) (sF O) sr (λx y hJ=>?_)
 obtain ⟨hg,hx,hy⟩:=hJ
 refine zX (q4 (Ak 1 B8 O (ck' call222 (SB y) O (AD (BE (c:=(!(decide (y=0)))) O O) O (oNl' (zB (sL [2,3,4,10] O) (zA ?_)))))))
 refine zK O (λhc0=>?_) (λhc0=>?_)
 ·simp only [jK] at hc0
  refine zC (zA (zI (q4 (Ak 2 B8 O (Ak 1 B8 O (ck' call178 (Ps x y Z Z Z) O (AL O (AD (AJ (v:=(aG (AT (x/y)))) O O) O (AD (AJ (v:=(aG (AT (x%y)))) O O) O (AD (AJ (v:=(qa true)) O O) O (al GV O λb4=>?_)))))))))))
  refine al GV O λb5=>CM O sizeOf62 O (Ah O sizeOf62 O (asg' O (oNl' (zB (sL [2,3,4,6] O) (zA (C8 [(1,true),(0,false),(2,false),(3,false)] (sk (sk (sk (sl (sl sr))))) (Ej 0 B8 O (zN O (Ak 3 B8 O (zD (sk (sk (sk (sl (sl sr))))) ?_))))))))))
  exact zN O (Fj 4 (off:=0) (vs:=AT y) (cs':=AT y) (AI O) O sizeOf62 O (zD (sk (sk (sk (sl (sl sr))))) (zN O (Fi O sizeOf62 O (zD (sk (sk (sk (sl (sl sr))))) (zQ (zB (sL [2,3,4,6] O) (zF (zn y (x%y) (⟨by rw [<-hg,Nat.gcd_comm x y,Nat.gcd_rec y x,Nat.gcd_comm],hy,xM (Dm (Nat.mod_le _ _)) hx⟩) (Nat.mod_lt _ Z) (sF O) (sl (sl sr)))))))))))
 ·simp only [jK] at hc0
  have hy0:y=0:=by omega
  have hxg:x=Nat.gcd a b:=by rw [<-hg,hy0,Nat.gcd_zero_right]
  exact zU (zO (zl (zP (q2 (Ak 2 B8 O (Ah O sizeOf62 O (oNl' (zB (sL [2,3,4] O) (zA (zG (ret_one O (An (i:=0) (cs:=AT x) O O isAgg62 sizeOf62 O) (λw hw=>⟨by rw [hxg],hw.out⟩))))))))))))
end
def E1 (neg:Bool) (n:Nat):Int:=if neg then -(n:Int) else (n:Int)
theorem VP (n:Nat):A6 (E1 true n)=AT n++[.bool (!(decide (n=0)))]:=by
  simp only [A6,AT,E1,if_true,Int.natAbs_neg,Int.natAbs_natCast,List.cons_append,List.nil_append]
  have e:decide (-(n:Int)<0)=!(decide (n=0)):=by
    by_cases h:n=0
    · subst h;rfl
    · simp [h];omega
  rw [e]
theorem VQ (n:Nat):A6 (E1 false n)=AT n++[.bool false]:=by
  simp only [A6,AT,E1,Int.natAbs_natCast,List.cons_append,List.nil_append]
  have e:decide ((n:Int)<0)=false:=by simp
  simp [e]
theorem O3 (D a b:Nat):Ef prog (D+3) 64 (.agg (AT a).toArray) (.agg (AT b).toArray) (decide (a=b)):=by
  have h:=Ef.struct (D:=D+2) (xs:=AT a) (ys:=AT b) underlying64 Tryz.stoodInHeld64 (Iu.agg (us:=AT a) (bs:=AT b) jY isAgg62 sizeOf62 rfl rfl (HM D a b) Iu.nil)
  simpa using h
theorem Au (neg:Bool) (n:Nat):(E1 neg n).natAbs=n:=by cases neg<;>simp [E1]
theorem Ye (a:Int):E1 (!(decide (a<0))) a.natAbs = -a:=by
  unfold E1
  by_cases h:a<0
  · simp [h];omega
  · simp [h];omega
theorem Yd (a b:Int):E1 (!(decide (a<0) == decide (b<0))) (a.natAbs*b.natAbs)=a*b:=by
  rw [<-Int.natAbs_mul]
  unfold E1
  by_cases h:a<0<;>by_cases h':b<0
  · have:=Int.mul_pos_of_neg_of_neg h h';simp [h,h'];omega
  · have:a*b<=0:=Int.mul_nonpos_of_nonpos_of_nonneg Z Z
    simp [h,h'];omega
  · have:a*b<=0:=Int.mul_nonpos_of_nonneg_of_nonpos Z Z
    simp [h,h'];omega
  · have:0<=a*b:=Int.mul_nonneg Z Z
    simp [h,h'];omega
theorem OB {a b:Int} (h:(decide (a<0) == decide (b<0))=true):E1 (decide (a<0)) (a.natAbs+b.natAbs)=a+b:=by
  unfold E1
  by_cases h1:a<0<;>by_cases h2:b<0<;>simp [h1,h2] at h ⊢<;>omega
theorem Qb {a b:Int} (h:(decide (a<0) == decide (b<0))=false) (h3:b.natAbs<=a.natAbs):E1 (decide (a<0)) (a.natAbs-b.natAbs)=a+b:=by
  unfold E1
  by_cases h1:a<0<;>by_cases h2:b<0<;>simp [h1,h2] at h ⊢<;>omega
theorem Qc {a b:Int} (h:(decide (a<0) == decide (b<0))=false) (h3:¬b.natAbs<=a.natAbs):E1 (decide (b<0)) (b.natAbs-a.natAbs)=a+b:=by
  unfold E1
  by_cases h1:a<0<;>by_cases h2:b<0<;>simp [h1,h2] at h ⊢<;>omega
theorem eA {z:Int} (h:z<0) (h2:-9223372036854775808<=z):IntKind.u64.wrap (-(IntKind.u64.wrap z))=((z.natAbs:Nat):Int):=by
  simp only [IntKind.wrap,IntKind.bits,IntKind.signed];simp;omega
theorem LX {z:Int} (h:z<0):E1 true z.natAbs=z:=by unfold E1;simp;omega
theorem Sw {z:Int} (h:¬z<0):E1 false z.natAbs=z:=by unfold E1;simp;omega
section
set_option maxRecDepth 100000
theorem MT  :Instr.fill ([(0,2)].toArray[·]?) (AT 0).toArray []=some (AT 0).toArray:=by kernel_rfl
theorem Im (n:Nat) (w:World)  :Calls prog 172 #[(aG (AT n))] w (Ac w (qa (decide (n=0)))):=by
 refine AW (args:=[(aG (AT n))]) func172 O O (A_ O) (zM (sL [0] O) (q4 (BV (cs:=AT n) O λb1=>asg' O (q3 (sL [1,2] O) (Ak 0 TO O (AD (v:=(aG (AT 0))) (AQ (zs:=AT 0) (vs:=AT 0) (pv:=[]) (places:=[(0,2)]) zeroValue64 underlying64 (λw=>by simp [sizeOf62]) O (MT )) O (AD (Bu (c:=(decide (n=0))) O O eqGuardType64 (O3 9997 n 0)) O (asg' O (oNl' (zB (sL [2] O) ?_))))))))))
 exact zA (zG (ret_one O (rd_tmp (v:=(qa (decide (n=0)))) O) (λw hw=>⟨rfl,hw.out⟩)))
theorem FF (x0:Nat):Instr.fill ([(0,2)].toArray[·]?) (AT 0).toArray [(0,.agg (AT x0).toArray)]=some (AT x0).toArray:=by kernel_rfl
theorem SD (n:Nat) (w:World)  :Calls prog 116 #[(qa true),(aG (AT n))] w (Ac w (aG (A6 (E1 true n)))):=by
 refine AW (args:=[(qa true),(aG (AT n))]) func116 O O (A_ O) (zM (sL [0,1] O) (q4 (BV (cs:=AT n) O λb1=>al J0 O λb2=>q3 (sL [0,3,4] O) (Ak 1 B8 O (AD (v:=(aG (AT n))) (AQ (zs:=AT 0) (vs:=AT n) (pv:=[(0,(aG (AT n)))]) (places:=[(0,2)]) zeroValue64 underlying64 (λw=>by simp [sizeOf62]) O (FF n)) O (al ct O λb3=>Ah O sizeOf64 O (q6 (sL [0,4,5] O) (C8 (El 4++[(4,false),(5,true),(6,true),(7,true),(8,false)]) (sk (sl sr)) ?_))))))))
 refine Ej 0 TO O (Bp O (Bp O (zW (v:=(aG (AT n))) O (AU O) (Ad (i:=0) (vs:=AT n) O O TO.a TO.s O O) O O (zN O (zg (v:=(qa (decide (n=0)))) (AU O) (Am (args:=[(aG (AT n))]) O O call172) (λw hw=>Im n w) O (A_ O) (zD (sk (sl sr)) (zW (v:=(qa (!(decide (n=0))))) O (AU O) (BE (c:=(!(decide (n=0)))) O O) O O (Al (v:=(qa (!(decide (n=0))))) O (AX O O) (Al (v:=(aG (AT n++[(qa (!(decide (n=0))))]))) O (AQ (zs:=A6 0) (vs:=AT n++[(qa (!(decide (n=0))))]) (pv:=[(0,(aG (AT n))),(1,(qa (!(decide (n=0)))))]) (places:=[(0,2),(2,1)]) zeroValue66 underlying66 (λw=>by simp [sizeOf4,sizeOf64]) O O) (zN O (CM O sizeOf66 O ?_)))))))))))
 exact zD (sk (sl sr)) (zQ (zB (sL [4,5] O) (zA (zG (ret_one O (An (i:=1) (cs:=AT n++[(qa (!(decide (n=0))))]) O O isAgg66 sizeOf66 O) (λw hw=>⟨by rw [VP],hw.out⟩))))))
theorem Pv (n:Nat) (w:World)  :Calls prog 116 #[(qa false),(aG (AT n))] w (Ac w (aG (A6 (E1 false n)))):=by
 refine AW (args:=[(qa false),(aG (AT n))]) func116 O O (A_ O) (zM (sL [0,1] O) (q4 (BV (cs:=AT n) O λb1=>al J0 O λb2=>q3 (sL [0,3,4] O) (Ak 1 B8 O (AD (v:=(aG (AT n))) (AQ (zs:=AT 0) (vs:=AT n) (pv:=[(0,(aG (AT n)))]) (places:=[(0,2)]) zeroValue64 underlying64 (λw=>by simp [sizeOf62]) O (FF n)) O (al ct O λb3=>Ah O sizeOf64 O (q6 (sL [0,4,5] O) (C8 (El 4++[(4,false),(5,true),(6,true),(7,true),(8,false)]) (sk (sl sr)) ?_))))))))
 refine Ej 0 TO O (Bp O (Bp O (zz O (B3 O) O O (zN O (BT O (zD (sk (sl sr)) (zz O (B3 O) O O (Al (v:=(qa false)) O (AP O O) (Al (v:=(aG (AT n++[(qa false)]))) O (AQ (zs:=A6 0) (vs:=AT n++[(qa false)]) (pv:=[(0,(aG (AT n))),(1,(qa false))]) (places:=[(0,2),(2,1)]) zeroValue66 underlying66 (λw=>by simp [sizeOf4,sizeOf64]) O O) (zN O (CM O sizeOf66 O ?_)))))))))))
 exact zD (sk (sl sr)) (zQ (zB (sL [4,5] O) (zA (zG (ret_one O (An (i:=1) (cs:=AT n++[(qa false)]) O O isAgg66 sizeOf66 O) (λw hw=>⟨by rw [VQ],hw.out⟩))))))
theorem EN (neg:Bool) (n:Nat) (w:World):Calls prog 116 #[.bool neg,.agg (AT n).toArray] w (Ac w (.agg (A6 (E1 neg n)).toArray)):=by
 cases neg
 ·exact Pv n w
 ·exact SD n w
theorem aB (z:Int) (hz:-9223372036854775808<=z) (hz2:z<9223372036854775808) (w:World)  :Calls prog 150 #[(vI z)] w (Ac w (aG (A6 z))):=by
 refine AW (args:=[(vI z)]) func150 O O (A_ O) (zM (sL [0] O) (q4 (al J0 O λb1=>oNl' (q1 (q4 (AL O (AD (Ab (c:=(decide (z<(0:Int)))) O O O) O (oNl' (zB (sL [0,2,4] O) (zA ?_))))))))))
 refine zK O (λhc0=>?_) (λhc0=>?_)
 ·replace hc0:=xT hc0
  have he:=LX hc0
  exact q4 (AL O (AD (Aq (c:=(IntKind.u64.wrap z)) O underlying2 underlying60 (rfl)) O (AD (K2 (c:=((z.natAbs:Nat):Int)) O (by rw [Int.zero_sub];exact eA hc0 hz)) O (ck' call160 (KO z.natAbs Z) O (ck' call116 (EN true z.natAbs) O (Ah O sizeOf66 O (oNl' (zB (sL [0,2] O) (zA (zG (zJ (ret_one O (An (i:=0) (cs:=A6 (E1 true z.natAbs)) O O isAgg66 sizeOf66 O) (λw hw=>⟨by rw [he],hw.out⟩)))))))))))))
 ·replace hc0:=xS hc0
  have he:=Sw hc0
  exact zC (q2 (AL O (AD (Aq (c:=((z.natAbs:Nat):Int)) O underlying2 underlying60 (by rw [EC Z Z];omega)) O (ck' call160 (KO z.natAbs Z) O (ck' call116 (EN false z.natAbs) O (Ah O sizeOf66 O (oNl' (zB (sL [0,2] O) (zA (zG (ret_one O (An (i:=0) (cs:=A6 (E1 false z.natAbs)) O O isAgg66 sizeOf66 O) (λw hw=>⟨by rw [he],hw.out⟩))))))))))))
theorem N1 (a:Int) (w:World)  :Calls prog 177 #[(aG (A6 a))] w (Ac w (aG (AT a.natAbs))):=by
 refine AW (args:=[(aG (A6 a))]) func177 O O (A_ O) (zM (sL [0] O) (q4 (BV (cs:=A6 a) O λb1=>al GV O λb2=>q3 (sL [1,2] O) (AD (v:=(pP b1 0)) (AA O underlying66 O sizeOf64 O) O (AD (v:=(pP b1 0)) (AA O underlying64 O sizeOf62 O) O (Dp 1 (AT a.natAbs) B8 O (Ah O sizeOf62 O (oNl' (zB (sL [2] O) ?_)))))))))
 exact zA (zG (ret_one O (An (i:=0) (cs:=AT a.natAbs) O O isAgg62 sizeOf62 O) (λw hw=>⟨rfl,hw.out⟩)))
theorem LK (a:Int) (w:World)  :Calls prog 112 #[(aG (A6 a))] w (Ac w (vI a.sign)):=by
 refine AW (args:=[(aG (A6 a))]) func112 O O (A_ O) (zM (sL [0] O) (q4 (BV (cs:=A6 a) O λb1=>asg' O (q6 (sL [1,2] O) (zI (q4 (AD (v:=(pP b1 0)) (AA O underlying66 O sizeOf64 O) O (Dp 0 (AT a.natAbs) TO O (ck' call172 (Im a.natAbs) O (asg' O ?_))))))))))
 refine oNl' (zB (sL [1,2,3] O) (zA ?_))
 refine zK O (λhc0=>?_) (λhc0=>?_)
 ·replace hc0:=xT hc0
  have he:a.sign=0:=by rw [show a=0 by omega];rfl
  exact q4 (asg' O (oNl' (zA (zG (zR (zJ (ret_one O (rd_tmp (v:=(vI 0)) O) (λw hw=>⟨by rw [he],hw.out⟩))))))))
 ·replace hc0:=xS hc0
  refine q4 (AD (v:=(pP b1 2)) (AA O underlying66 O sizeOf4 O) O (BG 0 (qa (decide (a<0))) Wn O (asg' O (oNl' (zB (sL [1,2,7] O) (zA ?_))))))
  refine zK O (λhc1=>?_) (λhc1=>?_)
  ·replace hc1:=xT hc1
   have he:a.sign = -1:=Int.sign_eq_neg_one_of_neg hc1
   exact q4 (asg' O (oNl' (zA (zG (zR (zJ (ret_one O (rd_tmp (v:=(vI (-1:Int))) O) (λw hw=>⟨by rw [he],hw.out⟩))))))))
  ·replace hc1:=xS hc1
   have he:a.sign=1:=Int.sign_eq_one_of_pos Z
   exact zC (zF (q2 (asg' O (oNl' (zA (zG (ret_one O (rd_tmp (v:=(vI 1)) O) (λw hw=>⟨by rw [he],hw.out⟩))))))))
theorem Rf (a:Int) (w:World)  :Calls prog 174 #[(aG (A6 a))] w (Ac w (aG (A6 (-a)))):=by
 refine AW (args:=[(aG (A6 a))]) func174 O O (A_ O) (zM (sL [0] O) (q4 (BV (cs:=A6 a) O λb1=>al J0 O λb2=>q3 (sL [1,2] O) (AD (v:=(pP b1 2)) (AA O underlying66 O sizeOf4 O) O (BG 1 (qa (decide (a<0))) Wn O (AD (BE (c:=(!(decide (a<0)))) O O) O (AD (v:=(pP b1 0)) (AA O underlying66 O sizeOf64 O) O (AD (v:=(pP b1 0)) (AA O underlying64 O sizeOf62 O) O (Dp 1 (AT a.natAbs) B8 O ?_)))))))))
 exact ck' call116 (EN (!(decide (a<0))) a.natAbs) O (Ah O sizeOf66 O (oNl' (zB (sL [2] O) (zA (zG (ret_one O (An (i:=0) (cs:=A6 (E1 (!(decide (a<0))) a.natAbs)) O O isAgg66 sizeOf66 O) (λw hw=>⟨by rw [Ye],hw.out⟩)))))))
theorem Ys (a b:Int) (ha:nw a.natAbs<=1099511627776) (hb:nw b.natAbs<=1099511627776) (w:World)  :Calls prog 173 #[(aG (A6 a)),(aG (A6 b))] w (Ac w (aG (A6 (a+b)))):=by
 refine AW (args:=[(aG (A6 a)),(aG (A6 b))]) func173 O O (A_ O) (zM (sL [0,1] O) (q4 (BV (cs:=A6 a) O λb1=>BV (cs:=A6 b) O λb2=>al J0 O λb3=>q6 (sL [2,3,4] O) (q4 (AD (v:=(pP b1 2)) (AA O underlying66 O sizeOf4 O) O (BG 2 (qa (decide (a<0))) Wn O (AD (v:=(pP b2 2)) (AA O underlying66 O sizeOf4 O) O (BG 1 (qa (decide (b<0))) Wn O ?_))))))))
 refine AD (JZ (c:=(decide (a<0) == decide (b<0))) O O underlying4 O) O (oNl' (zB (sL [2,3,4,13] O) (zA ?_)))
 refine zK O (λhc0=>?_) (λhc0=>?_)
 ·have he:=OB hc0
  refine zX (C8 (El 8++[(8,false),(9,false),(10,false)]) (sl sr) (Al (v:=(pP b1 2)) O (AA O underlying66 O sizeOf4 O) (BQ 1 (qa (decide (a<0))) Wn O (Al (v:=(pP b1 0)) O (AA O underlying66 O sizeOf64 O) (Al (v:=(pP b1 0)) O (AA O underlying64 O sizeOf62 O) (IK 1 (AT a.natAbs) B8 O (Al (v:=(pP b2 0)) O (AA O underlying66 O sizeOf64 O) (Al (v:=(pP b2 0)) O (AA O underlying64 O sizeOf62 O) (IK 0 (AT b.natAbs) B8 O (zN O (ck' call159 (Tk a.natAbs b.natAbs Z Z) O ?_)))))))))))
  exact zD (sl sr) (zN O (ck' call116 (EN (decide (a<0)) (a.natAbs+b.natAbs)) O (zD (sl sr) (zN O (Ah O sizeOf66 O (zD (sl sr) (zQ (zB (sL [2,3,4] O) (zA (zG (zJ (ret_one O (An (i:=0) (cs:=A6 (E1 (decide (a<0)) (a.natAbs+b.natAbs))) O O isAgg66 sizeOf66 O) (λw hw=>⟨by rw [he],hw.out⟩)))))))))))))
 ·refine zC (q1 (q4 (AD (v:=(pP b1 0)) (AA O underlying66 O sizeOf64 O) O (AD (v:=(pP b1 0)) (AA O underlying64 O sizeOf62 O) O (Dp 2 (AT a.natAbs) B8 O (AD (v:=(pP b2 0)) (AA O underlying66 O sizeOf64 O) O (AD (v:=(pP b2 0)) (AA O underlying64 O sizeOf62 O) O (Dp 1 (AT b.natAbs) B8 O (ck' call179 (Pz a.natAbs b.natAbs Z Z) O (AL O (AD (AJ (v:=(aG (AT (a.natAbs-b.natAbs)))) O O) O ?_)))))))))))
  refine AD (AJ (v:=(qa (decide (b.natAbs<=a.natAbs)))) O O) O (al GV O λb4=>Ah O sizeOf62 O (asg' O (q3 (sL [2,3,4,5,6] O) (AL O (oNl' (zB (sL [2,3,4,5,34] O) (zA ?_)))))))
  refine zK O (λhc1=>?_) (λhc1=>?_)
  ·replace hc1:=xT hc1
   have he:=Qb hc0 hc1
   exact q4 (AD (v:=(pP b1 2)) (AA O underlying66 O sizeOf4 O) O (BG 3 (qa (decide (a<0))) Wn O (Ak 0 B8 O (ck' call116 (EN (decide (a<0)) (a.natAbs-b.natAbs)) O (CM O sizeOf66 O (oNl' (zB (sL [2,3,4,5] O) (zA (zG (zJ (ret_one O (An (i:=1) (cs:=A6 (E1 (decide (a<0)) (a.natAbs-b.natAbs))) O O isAgg66 sizeOf66 O) (λw hw=>⟨by rw [he],hw.out⟩))))))))))))
  ·replace hc1:=xS hc1
   have he:=Qc hc0 hc1
   refine zC (q2 (AD (v:=(pP b2 0)) (AA O underlying66 O sizeOf64 O) O (AD (v:=(pP b2 0)) (AA O underlying64 O sizeOf62 O) O (Dp 2 (AT b.natAbs) B8 O (AD (v:=(pP b1 0)) (AA O underlying66 O sizeOf64 O) O (AD (v:=(pP b1 0)) (AA O underlying64 O sizeOf62 O) O (Dp 3 (AT a.natAbs) B8 O (ck' call179 (Pz b.natAbs a.natAbs Z Z) O (AL O (AD (AJ (v:=(aG (AT (b.natAbs-a.natAbs)))) O O) O (AD (AJ (v:=(qa (decide (a.natAbs<=b.natAbs)))) O O) O ?_)))))))))))
   refine al GV O λb5=>Ah O sizeOf62 O (asg' O (q3 (sL [2,3,4,5,7] O) (AD (v:=(pP b2 2)) (AA O underlying66 O sizeOf4 O) O (BG 3 (qa (decide (b<0))) Wn O (Ak 0 B8 O (ck' call116 (EN (decide (b<0)) (b.natAbs-a.natAbs)) O (Ls O sizeOf66 O (oNl' (zB (sL [2,3,4,5,7] O) (zA ?_))))))))))
   exact zG (ret_one O (An (i:=2) (cs:=A6 (E1 (decide (b<0)) (b.natAbs-a.natAbs))) O O isAgg66 sizeOf66 O) (λw hw=>⟨by rw [he],hw.out⟩))
theorem Ws (a b:Int) (ha:nw a.natAbs<=1099511627776) (hb:nw b.natAbs<=1099511627776) (w:World)  :Calls prog 115 #[(aG (A6 a)),(aG (A6 b))] w (Ac w (aG (A6 (a*b)))):=by
 refine AW (args:=[(aG (A6 a)),(aG (A6 b))]) func115 O O (A_ O) (zM (sL [0,1] O) (q4 (BV (cs:=A6 a) O λb1=>BV (cs:=A6 b) O λb2=>al J0 O λb3=>q6 (sL [2,3,4] O) (C8 (El 11++[(11,false),(12,false),(13,false)]) (sl sr) (Al (v:=(pP b1 2)) O (AA O underlying66 O sizeOf4 O) (BQ 1 (qa (decide (a<0))) Wn O (Al (v:=(pP b2 2)) O (AA O underlying66 O sizeOf4 O) (BQ 0 (qa (decide (b<0))) Wn O ?_))))))))
 refine Al O (Ja (c:=(!(decide (a<0) == decide (b<0)))) O O underlying4 O) (Al (v:=(pP b1 0)) O (AA O underlying66 O sizeOf64 O) (Al (v:=(pP b1 0)) O (AA O underlying64 O sizeOf62 O) (IK 1 (AT a.natAbs) B8 O (Al (v:=(pP b2 0)) O (AA O underlying66 O sizeOf64 O) (Al (v:=(pP b2 0)) O (AA O underlying64 O sizeOf62 O) (IK 0 (AT b.natAbs) B8 O (zN O (ck' call125 (Px a.natAbs b.natAbs Z Z) O (zD (sl sr) (zN O (ck' call116 (EN (!(decide (a<0) == decide (b<0))) (a.natAbs*b.natAbs)) O ?_)))))))))))
 exact zD (sl sr) (zN O (Ah O sizeOf66 O (zD (sl sr) (zQ (zB (sL [4] O) (zA (zG (ret_one O (An (i:=0) (cs:=A6 (E1 (!(decide (a<0) == decide (b<0))) (a.natAbs*b.natAbs))) O O isAgg66 sizeOf66 O) (λw hw=>⟨by rw [Yd],hw.out⟩)))))))))
theorem Ip (a b:Int) (ha:nw a.natAbs<=1099511627776) (hb:nw b.natAbs<=1099511627776) (w:World)  :Calls prog 114 #[(Value.func (.func 173) #[] #[]),(aG (A6 a)),(aG (A6 b))] w (Ac w (aG (A6 (a+b)))):=by
 refine AW (args:=[(Value.func (.func 173) #[] #[]),(aG (A6 a)),(aG (A6 b))]) func114 O O (A_ O) (zM (sL [0,1,2] O) (q4 (BV (cs:=A6 a) O λb1=>BV (cs:=A6 b) O λb2=>al J0 O λb3=>q3 (sL [0,4,5,6] O) (AL O (Ak 2 DN O (Ak 1 DN O (ck' call173 (Ys a b (by first|omega|(simp only [Int.natAbs_neg,Au,Int.natAbs_natCast];omega)) (by first|omega|(simp only [Int.natAbs_neg,Au,Int.natAbs_natCast];omega))) O (Ah O sizeOf66 O ?_))))))))
 exact oNl' (zB (sL [6] O) (zA (zG (ret_one O (An (i:=0) (cs:=A6 (a+b)) O O isAgg66 sizeOf66 O) (λw hw=>⟨rfl,hw.out⟩)))))
theorem Mf (a b:Int) (ha:nw a.natAbs<=1099511627776) (hb:nw b.natAbs<=1099511627776) (w:World)  :Calls prog 114 #[(Value.func (.func 115) #[] #[]),(aG (A6 a)),(aG (A6 b))] w (Ac w (aG (A6 (a*b)))):=by
 refine AW (args:=[(Value.func (.func 115) #[] #[]),(aG (A6 a)),(aG (A6 b))]) func114 O O (A_ O) (zM (sL [0,1,2] O) (q4 (BV (cs:=A6 a) O λb1=>BV (cs:=A6 b) O λb2=>al J0 O λb3=>q3 (sL [0,4,5,6] O) (AL O (Ak 2 DN O (Ak 1 DN O (ck' call115 (Ws a b (by first|omega|(simp only [Int.natAbs_neg,Au,Int.natAbs_natCast];omega)) (by first|omega|(simp only [Int.natAbs_neg,Au,Int.natAbs_natCast];omega))) O (Ah O sizeOf66 O ?_))))))))
 exact oNl' (zB (sL [6] O) (zA (zG (ret_one O (An (i:=0) (cs:=A6 (a*b)) O O isAgg66 sizeOf66 O) (λw hw=>⟨rfl,hw.out⟩)))))
theorem N2 (a b:Int) (ha:nw a.natAbs<=1099511627776) (hb:nw b.natAbs<=1099511627776) (w:World)  :Calls prog 123 #[(aG (A6 a)),(aG (A6 b))] w (Ac w (aG (A6 (a+b)))):=by
 refine AW (args:=[(aG (A6 a)),(aG (A6 b))]) func123 O O (A_ O) (zM (sL [0,1] O) (q4 (BV (cs:=A6 a) O λb1=>BV (cs:=A6 b) O λb2=>al J0 O λb3=>q3 (sL [2,3,4] O) (Ak 2 DN O (Ak 1 DN O (ck' call114 (Ip a b (by first|omega|(simp only [Int.natAbs_neg,Au,Int.natAbs_natCast];omega)) (by first|omega|(simp only [Int.natAbs_neg,Au,Int.natAbs_natCast];omega))) O (Ah O sizeOf66 O (oNl' ?_))))))))
 exact zB (sL [4] O) (zA (zG (ret_one O (An (i:=0) (cs:=A6 (a+b)) O O isAgg66 sizeOf66 O) (λw hw=>⟨rfl,hw.out⟩))))
theorem YF (a b:Int) (ha:nw a.natAbs<=1099511627776) (hb:nw b.natAbs<=1099511627776) (w:World)  :Calls prog 113 #[(aG (A6 a)),(aG (A6 b))] w (Ac w (aG (A6 (a-b)))):=by
 refine AW (args:=[(aG (A6 a)),(aG (A6 b))]) func113 O O (A_ O) (zM (sL [0,1] O) (q4 (BV (cs:=A6 a) O λb1=>BV (cs:=A6 b) O λb2=>al J0 O λb3=>q6 (sL [2,3,4] O) (C8 [(0,true),(1,true),(2,false),(3,false),(4,false)] (sl sr) (Ej 1 DN O (Ej 0 DN O (zN O (ck' call174 (Rf b) O ?_))))))))
 exact zD (sl sr) (zN O (ck' call114 (Ip a (-b) (by first|omega|(simp only [Int.natAbs_neg,Au,Int.natAbs_natCast];omega)) (by first|omega|(simp only [Int.natAbs_neg,Au,Int.natAbs_natCast];omega))) O (zD (sl sr) (zN O (Ah O sizeOf66 O (zD (sl sr) (zQ (zB (sL [4] O) (zA (zG (ret_one O (An (i:=0) (cs:=A6 (a+(-b))) O O isAgg66 sizeOf66 O) (λw hw=>⟨by rw [Int.sub_eq_add_neg],hw.out⟩))))))))))))
theorem HP (a b:Int) (ha:nw a.natAbs<=1099511627776) (hb:nw b.natAbs<=1099511627776) (w:World)  :Calls prog 53 #[(aG (A6 a)),(aG (A6 b))] w (Ac w (aG (A6 (a*b)))):=by
 refine AW (args:=[(aG (A6 a)),(aG (A6 b))]) func53 O O (A_ O) (zM (sL [0,1] O) (q4 (BV (cs:=A6 a) O λb1=>BV (cs:=A6 b) O λb2=>al J0 O λb3=>q3 (sL [2,3,4] O) (Ak 2 DN O (Ak 1 DN O (ck' call114 (Mf a b (by first|omega|(simp only [Int.natAbs_neg,Au,Int.natAbs_natCast];omega)) (by first|omega|(simp only [Int.natAbs_neg,Au,Int.natAbs_natCast];omega))) O (Ah O sizeOf66 O (oNl' ?_))))))))
 exact zB (sL [4] O) (zA (zG (ret_one O (An (i:=0) (cs:=A6 (a*b)) O O isAgg66 sizeOf66 O) (λw hw=>⟨rfl,hw.out⟩))))
theorem Re (a b:Int) (ha:nw a.natAbs<=1099511627776) (hb:nw b.natAbs<=1099511627776) (w:World)  :Calls prog 52 #[(aG (A6 a)),(aG (A6 b))] w (Ac w (vI ((a-b).sign))):=by
 refine AW (args:=[(aG (A6 a)),(aG (A6 b))]) func52 O O (A_ O) (zM (sL [0,1] O) (q4 (BV (cs:=A6 a) O λb1=>BV (cs:=A6 b) O λb2=>asg' O (q3 (sL [2,3,4] O) (Ak 1 DN O (Ak 0 DN O (ck' call113 (YF a b (by first|omega|(simp only [Int.natAbs_neg,Au,Int.natAbs_natCast];omega)) (by first|omega|(simp only [Int.natAbs_neg,Au,Int.natAbs_natCast];omega))) O (ck' call112 (LK (a-b)) O (asg' O ?_)))))))))
 exact oNl' (zB (sL [4] O) (zA (zG (ret_one O (rd_tmp (v:=(vI ((a-b).sign))) O) (λw hw=>⟨rfl,hw.out⟩)))))
end
def Sz (q:Rat):Nat:=max (nw q.num.natAbs) (nw q.den)
theorem Ei (q:Rat):nw q.num.natAbs<=Sz q:=Nat.le_max_left ..
theorem ED (q:Rat):nw q.den<=Sz q:=Nat.le_max_right ..
theorem ZK {q:Rat} {k:Nat} (h1:nw q.num.natAbs<=k) (h2:nw q.den<=k):Sz q<=k:=Nat.max_le.2 ⟨h1,h2⟩
theorem Lg:nw 1=1:=by decide
theorem UH (q:Rat):1<=Sz q:=xM (by rw [<-Lg];exact Dm q.den_pos) (ED q)
theorem Kg {n:Int} {d k:Nat} (h1:nw n.natAbs<=k) (h2:nw d<=k) (hk:1<=k):Sz (mkRat n d)<=k:=by
  refine ZK ?_ ?_
  · rw [Rat.num_mkRat]
    split
    · exact xJ _
    · refine xM (Dm ?_) h1
      rw [Int.natAbs_ediv_of_dvd (by rw [Int.ofNat_dvd_left];exact Nat.gcd_dvd_right ..)]
      exact Nat.div_le_self _ _
  · rw [Rat.den_mkRat]
    split
    · rw [Lg];exact hk
    · exact xM (Dm (Nat.div_le_self _ _)) h2
theorem Ru (a b:Int):nw (a*b).natAbs<=nw a.natAbs+nw b.natAbs:=by rw [Int.natAbs_mul];exact V1 _ _
theorem Ev (a b:Int):nw (a+b).natAbs<=max (nw a.natAbs) (nw b.natAbs)+1:=xM (Dm (Int.natAbs_add_le a b)) (aQ _ _)
theorem Dg (a b:Rat):nw (a.num*((b.den:Nat):Int)).natAbs<=Sz a+Sz b:=by
  have h1:=Ru a.num ((b.den:Nat):Int)
  have h2:=Ei a
  have h3:=ED b
  rw [Int.natAbs_natCast] at h1
  omega
theorem Iy (a b:Rat):nw (a.den*b.den)<=Sz a+Sz b:=by
  have h1:=V1 a.den b.den
  have h2:=ED a
  have h3:=ED b
  omega
theorem Lf (a b:Rat):nw (a.num*b.num).natAbs<=Sz a+Sz b:=by
  have h1:=Ru a.num b.num
  have h2:=Ei a
  have h3:=Ei b
  omega
theorem Mk (a b:Rat):mkRat (a.num*((b.den:Nat):Int)+b.num*((a.den:Nat):Int)) (a.den*b.den)=a+b:=by rw [Rat.add_def,Rat.normalize_eq_mkRat]
theorem NB (a b:Rat):mkRat (a.num*b.num) (a.den*b.den)=a*b:=by rw [Rat.mul_def,Rat.normalize_eq_mkRat]
theorem Ir {a:Rat} (h:a.den-1=0):a=((a.num:Int):Rat):=by
  have h1:a.den=1:=by have:=a.den_pos;omega
  exact Rat.ext O h1
theorem SI {a b:Rat} (ha:a.den-1=0) (hb:b.den-1=0):((a.num+b.num:Int):Rat)=a+b:=by
  rw [Rat.intCast_add,<-Ir ha,<-Ir hb]
theorem Sx {a b:Rat} (ha:a.den-1=0) (hb:b.den-1=0):((a.num*b.num:Int):Rat)=a*b:=by
  rw [Rat.intCast_mul,<-Ir ha,<-Ir hb]
theorem O0 {a b:Rat} (h:a.den-1=b.den-1):a.den=b.den:=by
  have h1:=a.den_pos
  have h2:=b.den_pos
  omega
theorem UL {a b:Rat} (h:a.den-1=b.den-1):mkRat (a.num+b.num) a.den=a+b:=by
  have h1:=O0 h
  have h2:a+b=mkRat a.num a.den+mkRat b.num a.den:=by rw [Rat.mkRat_self];conv=>lhs;rw [<-Rat.mkRat_self b,<-h1]
  rw [h2,Rat.mkRat_eq_div,Rat.mkRat_eq_div,Rat.mkRat_eq_div,Rat.intCast_add,Rat.div_def,Rat.div_def,Rat.div_def,Rat.add_mul]
theorem Eh (a b:Rat):Sz (a+b)<=Sz a+Sz b+1:=by
  rw [<-Mk]
  have h1:=Dg a b
  have h2:=Dg b a
  have h3:=Ev (a.num*((b.den:Nat):Int)) (b.num*((a.den:Nat):Int))
  have h4:=Iy a b
  exact Kg Z Z Z
theorem Cz (a b:Rat):Sz (a*b)<=Sz a+Sz b:=by
  rw [<-NB]
  have:=UH a
  exact Kg (Lf a b) (Iy a b) Z
theorem DZ (a:Rat):Sz (-a)=Sz a:=by unfold Sz;rw [Rat.neg_num,Rat.neg_den,Int.natAbs_neg]
theorem Iw (a b:Rat):Sz (a-b)<=Sz a+Sz b+1:=by rw [Rat.sub_eq_add_neg,<-DZ b];exact Eh a (-b)
theorem M8 {b:Rat} (h:b≠0):mkRat (E1 (decide (b.num.sign<0)) b.den) b.num.natAbs=b⁻¹:=by
  have hn:b.num≠0:=λe=>h (Rat.num_eq_zero.1 e)
  have hb:b=(b.num:Rat)/((b.den:Nat):Rat):=by rw [<-Rat.mkRat_eq_div,Rat.mkRat_self]
  have hd:((b.den:Nat):Rat)≠0:=by
    intro e
    have:=b.den_pos
    have h2:b.den=0:=by exact_mod_cast e
    omega
  have hn2:((b.num:Int):Rat)≠0:=by
    intro e
    exact hn (by exact_mod_cast e)
  rw [Rat.mkRat_eq_div]
  conv=>rhs;rw [hb]
  by_cases hs:b.num<0
  · have e1:decide (b.num.sign<0)=true:=by simp [Int.sign_eq_neg_one_of_neg hs]
    have e2:((b.num.natAbs:Nat):Rat) = -((b.num:Int):Rat):=by
      have:((b.num.natAbs:Nat):Int) = -b.num:=by omega
      rw [<-Rat.intCast_natCast,this,Rat.intCast_neg]
    rw [e1,e2]
    simp only [E1,if_true,Rat.intCast_neg,Rat.intCast_natCast]
    grind
  · have e1:decide (b.num.sign<0)=false:=by
      have:0<=b.num.sign:=Int.sign_nonneg_iff.2 Z
      exact xH Z
    have e2:((b.num.natAbs:Nat):Rat)=((b.num:Int):Rat):=by
      have:((b.num.natAbs:Nat):Int)=b.num:=by omega
      rw [<-Rat.intCast_natCast,this]
    rw [e1,e2]
    simp only [E1,Bool.false_eq_true,if_false,Rat.intCast_natCast]
    grind
theorem UG {b:Rat} (h:b≠0):Sz b⁻¹<=Sz b:=by
  rw [<-M8 h]
  exact Kg (by rw [Au];exact ED b) (Ei b) (UH b)
theorem Ke {a b:Rat} (h:b≠0):Sz (a/b)<=Sz a+Sz b:=by
  rw [Rat.div_def]
  have h1:=Cz a b⁻¹
  have h2:=UG h
  omega
def FV (a b:Rat):Int:=if a<b then -1 else if a=b then 0 else 1
theorem Kq (a b:Rat):(a.num*((b.den:Nat):Int)-b.num*((a.den:Nat):Int)).sign=FV a b:=by
  have h1:=Rat.lt_iff a b
  have h2:=@Rat.eq_iff_mul_eq_mul a b
  unfold FV
  split
  · rename_i h;exact Int.sign_eq_neg_one_of_neg (by have:=h1.1 h;omega)
  · rename_i h
    split
    · rename_i h';rw [h2.1 h'];simp
    · rename_i h'
      have h3:¬a.num*((b.den:Nat):Int)<b.num*((a.den:Nat):Int):=λe=>h (h1.2 e)
      have h4:¬a.num*((b.den:Nat):Int)=b.num*((a.den:Nat):Int):=λe=>h' (h2.2 e)
      exact Int.sign_eq_one_of_pos Z
theorem SQ {a b:Rat} (h:a.den-1=b.den-1):(a.num-b.num).sign=FV a b:=by
  rw [<-Kq,<-O0 h,<-Int.sub_mul,Int.sign_mul]
  have:=a.den_pos
  rw [show ((a.den:Nat):Int).sign=1 from Int.sign_eq_one_of_pos Z]
  simp
theorem IQ {a b:Rat}:FV a b<0↔a<b:=by
  unfold FV;split
  · simp [*]
  · split<;>simp [*]
theorem Na {a b:Rat}:FV a b=0↔a=b:=by
  unfold FV;split
  · rename_i h
    constructor
    · intro e;cases e
    · intro e;subst e;exact absurd h jX
  · split<;>simp [*]
theorem Je (q:Rat):AF q=A6 q.num++AT (q.den-1):=rfl
theorem Ya {n:Int} {d:Nat} (hd:d≠0):(mkRat n d).num=E1 (decide (n.sign<0)) (n.natAbs/Nat.gcd n.natAbs d):=by
  rw [Rat.num_mkRat,if_neg hd,Nat.gcd_comm]
  unfold E1
  by_cases h:n<0
  · rw [Int.sign_eq_neg_one_of_neg h]
    have e:n = -((n.natAbs:Nat):Int):=by omega
    simp only [show decide ((-1:Int)<0)=true from rfl,if_true]
    conv=>lhs;rw [e]
    rw [Int.natAbs_neg,Int.natAbs_natCast,Int.neg_ediv_of_dvd (by rw [Int.natCast_dvd_natCast];exact Nat.gcd_dvd_left ..)]
    rfl
  · have h0:0<=n.sign:=Int.sign_nonneg_iff.2 Z
    have e:n=((n.natAbs:Nat):Int):=by omega
    rw [if_neg (by simp;omega)]
    conv=>lhs;rw [e]
    rw [Int.natAbs_natCast]
    rfl
theorem YZ {n:Int} {d:Nat} (hd:d≠0):(mkRat n d).den=d/Nat.gcd n.natAbs d:=by rw [Rat.den_mkRat,if_neg hd,Nat.gcd_comm]
end Go.Proofs.YtbfdamnfcmefmaaGreatDoor
