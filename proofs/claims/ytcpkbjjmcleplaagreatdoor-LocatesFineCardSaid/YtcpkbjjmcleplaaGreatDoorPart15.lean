import Derived.Test.YtcpkbjjmcleplaaGreatDoorPart14
namespace Go.Proofs.YtcpkbjjmcleplaaGreatDoor
open Go Go.RowKit Go.Proofs.Tryz
open Go.Value renaming slice→qz,bool→qa
set_option linter.unusedVariables false
set_option linter.unusedSimpArgs false
section
set_option maxRecDepth 100000
theorem GR {N v:Nat} (h:v<4294967296^N):val ((Cb N v).take N)=v:=by
 rw [List.take_of_length_le (by rw [Bk];exact Nat.le_refl _),GA _ _ h]
theorem Uo {a b:Nat} (hb:0<nw b) (h:nw b<=nw a):a/b<4294967296^(nw a+1-nw b):=by
 have h1:=JL hb
 have h2:=Bt a
 rw [Nat.div_lt_iff_lt_mul (by have:=Nat.pow_pos (n:=nw b-1) (show 0<4294967296 by omega);omega)]
 have h3:4294967296^(nw a+1-nw b)*4294967296^(nw b-1)<=4294967296^(nw a+1-nw b)*b:=Nat.mul_le_mul_left _ h1
 rw [<-Nat.pow_add,show nw a+1-nw b+(nw b-1)=nw a by omega] at h3
 omega
theorem Ux {a b:Nat}:a%b<4294967296^(nw a+1):=Nat.lt_of_le_of_lt (Nat.mod_le _ _) (Nat.lt_of_lt_of_le (Bt a) (Nat.pow_le_pow_right Z Z))
theorem Rp {b:Nat} (h:nw b=0):b=0:=by
 have:=Bt b
 rw [h] at this
 omega
theorem Z6 {b:Nat} (h:nw b=1):(Ax b).getD 0 0=b/\b<4294967296:=by
 have h1:=Bt b
 rw [h] at h1
 refine ⟨?_,Z⟩
 rw [D8 Z,HO,Nat.pow_zero,Nat.div_one,Nat.mod_eq_of_lt Z]
theorem NH  :Instr.fill ([(0,1),(1,1)].toArray[·]?) (AW 0).toArray []=some (AW 0).toArray:=by kernel_rfl
theorem Qy (a b:Nat) (ha:nw a<=1099511627776) (hb:nw b<=1099511627776) (hb0:b≠0) (w:World)  :Calls prog 114 #[(aG (AW a)),(aG (AW b))] w (Ac w (Value.tuple #[(aG (AW (a/b))),(aG (AW (a%b))),(qa true)])):=by
 have hnb:nw b≠0:=λh=>hb0 (Rp h)
 have hla:=Cd a
 have hlb:=Cd b
 refine AV (args:=[(aG (AW a)),(aG (AW b))]) func114 O O (leB O) (zI (sL [0,1] O) (q4 (BH (cs:=AW a) O λb1=>BH (cs:=AW b) O λb2=>al HM O λb3=>al HM O λb4=>asg' O (q6 (sL [2,3,4,5,6] O) (zM (q4 (Af 2 CH O ?_)))))))
 refine ck' call166 (Tf b) O (asg' O (oNl' (zB (sL [2,3,4,5,6,12] O) (zA ?_))))
 refine zK O (λhc0=>?_) (λhc0=>?_)
 ·replace hc0:=xR hc0
  exact absurd hc0 hb0
 ·replace hc0:=xQ hc0
  refine q4 (Af 3 CH O (Af 2 CH O (ck' call167 (VW a b Z Z) O (st' (Aa (c:=(decide ((Dv a b)<(0:Int)))) O O O) O (asg' O (oNl' (zB (sL [2,3,4,5,6,17] O) (zA ?_))))))))
  refine zK O (λhc1=>?_) (λhc1=>?_)
  ·replace hc1:=xR hc1
   rw [GG] at hc1
   have e1:a/b=0:=Nat.div_eq_of_lt hc1
   have e2:a%b=a:=Nat.mod_eq_of_lt hc1
   refine zS (B9 [(0,true),(1,true),(2,false),(3,false),(4,true)] (sl (sl sr)) (Am (v:=(aG (AW 0))) O (AS (zs:=AW 0) (vs:=AW 0) (pv:=[]) (places:=[(0,1),(1,1)]) zeroValue54 underlying54 (λw=>by simp [sizeOf9,sizeOf52]) O (NH )) (B3 1 CH O (zD O (DK O sizeOf54 O (zC (sl (sl sr)) (zD O (An O sizeOf54 O (zC (sl (sl sr)) (pS' O (zP ?_)))))))))))
   exact zB (sL [2,3,4,5,6] O) (zA (zF (zV (zL (DV O (Ab (i:=1) (cs:=AW 0) O O isAgg54 sizeOf54 O) (Ab (i:=0) (cs:=AW a) O O isAgg54 sizeOf54 O) (rd_tmp (v:=(qa true)) O) (λw hw=>⟨by rw [e1,e2],hw.out⟩))))))
  ·replace hc1:=xQ hc1
   rw [GG] at hc1
   have hba:nw b<=nw a:=DA Z
   refine q4 (st' (v:=(pP b1 1)) (AA O underlying54 O sizeOf9 O) O (BL 3 (Value.string (Bw a)) VD O (st' (Bh (c:=(decide (a<18446744073709551616))) O O Cv) O (asg' O (oNl' (zB (sL [2,3,4,5,6,24] O) (zA ?_)))))))
   refine zK O (λhc2=>?_) (λhc2=>?_)
   ·replace hc2:=xR hc2
    have la:CM a=a:=Bp hc2
    have lb:CM b=b:=Bp Z
    have q1:a/b<18446744073709551616:=Nat.lt_of_le_of_lt (Nat.div_le_self _ _) hc2
    have q2:a%b<18446744073709551616:=Nat.lt_of_le_of_lt (Nat.mod_le _ _) hc2
    refine zS (B9 (EV 12++[(12,false),(13,false),(14,true)]) (sl (sl sr)) (Am (v:=(pP b1 0)) O (AA O underlying54 O sizeOf52 O) (CL 1 (vK .u64 (CM a)) Hb O (Am (v:=(pP b2 0)) O (AA O underlying54 O sizeOf52 O) (CL 0 (vK .u64 (CM b)) Hb O (Am O (Ec (c:=(((CM a)/(CM b):Nat):Int)) O O Z (JR (a:=CM a) (b:=CM b) Z)) (Am (v:=(aG ([(vK .u64 ((CM a)/(CM b))),(Value.string (Bw 0))]))) O (AS (zs:=AW 0) (vs:=[(vK .u64 ((CM a)/(CM b))),(Value.string (Bw 0))]) (pv:=[(0,(vK .u64 ((CM a)/(CM b))))]) (places:=[(0,1),(1,1)]) zeroValue54 underlying54 (λw=>by simp [sizeOf9,sizeOf52]) O O) (Am (v:=(pP b1 0)) O (AA O underlying54 O sizeOf52 O) (CL 1 (vK .u64 (CM a)) Hb O (Am (v:=(pP b2 0)) O (AA O underlying54 O sizeOf52 O) (CL 0 (vK .u64 (CM b)) Hb O ?_)))))))))))
    refine Am O (Cz (c:=(((CM a)%(CM b):Nat):Int)) O O Z (HD (a:=CM a) (b:=CM b))) (Am (v:=(aG ([(vK .u64 ((CM a)%(CM b))),(Value.string (Bw 0))]))) O (AS (zs:=AW 0) (vs:=[(vK .u64 ((CM a)%(CM b))),(Value.string (Bw 0))]) (pv:=[(0,(vK .u64 ((CM a)%(CM b))))]) (places:=[(0,1),(1,1)]) zeroValue54 underlying54 (λw=>by simp [sizeOf9,sizeOf52]) O O) (zD O (DK O sizeOf54 O (zC (sl (sl sr)) (zD O (An O sizeOf54 O (zC (sl (sl sr)) (pS' O (zP (zB (sL [2,3,4,5,6] O) (zA ?_)))))))))))
    exact zF (zV (zL (DV O (Ab (i:=1) (cs:=[(vK .u64 ((CM a)/(CM b))),(Value.string (Bw 0))]) O O isAgg54 sizeOf54 O) (Ab (i:=0) (cs:=[(vK .u64 ((CM a)%(CM b))),(Value.string (Bw 0))]) O O isAgg54 sizeOf54 O) (rd_tmp (v:=(qa true)) O) (λw hw=>⟨by rw [Ed q1,Ed q2,la,lb];rfl,hw.out⟩))))
   ·replace hc2:=xQ hc2
    refine zG (zJ (q2 (Af 2 CH O (yB (V:=λb5=>(qz (jk b5) (nw b) ((Ax b).length))) (T:=27) (cs:=Ap (Ax b)) (AG O) (Ag (args:=[(aG (AW b))]) O O call85) (λw hw=>Do b Z w) O (leB O) λb5=>asg' O (q6 (sL [2,3,4,5,6,7] O) (q4 (AK O (st' (v:=(vN (nw b))) (AD O underlying169) O (st' (Au (c:=(decide ((nw b)=1))) O O (K0 (a:=nw b) (b:=1))) O (oNl' ?_))))))))))
    refine zB (sL [2,3,4,5,6,7,44] O) (zA ?_)
    refine zK O (λhc3=>?_) (λhc3=>?_)
    ·replace hc3:=xR hc3
     obtain ⟨hy,hy2⟩:=Z6 hc3
     refine zS (B9 [(0,true),(2,true),(3,true),(4,true),(1,false),(5,false),(6,true),(7,true),(8,true),(9,true),(10,true)] sr (B3 4 CH O (Bi O (Am (v:=(pP b5 0)) O (AH (j:=0) O O underlying169 sizeOf27 O Z O) ?_))))
     have hx1:(Ax b).getD 0 0<4294967296:=W32.getD (Ci b) 0
     refine Am O (AR (i:=0) (v:=(vK .u32 ((Ax b).getD 0 0))) O O isAgg27 (BM (xs:=Ax b) (j:=0) Z)) (zD O (yB (V:=λb6=>(qz (jk b6) (nw a) ((Ax a).length))) (T:=27) (cs:=Ap (Ax a)) (AG O) (Ag (args:=[(aG (AW a))]) O O call85) (λw hw=>Do a Z w) O (leB O) λb6=>zC (sl sr) (zD O (yB (V:=λb7=>(Value.tuple #[(qz (jk b7) (nw a) (nw a)),(vK .u32 (a%((Ax b).getD 0 0)))])) (T:=27) (cs:=Ap (Cb (nw a) (a/((Ax b).getD 0 0)))) (AG O) (Ag (args:=[(qz (jk b6) (nw a) ((Ax a).length)),(vK .u32 ((Ax b).getD 0 0))]) O O call86) (λw hw=>Xn a ((Ax b).getD 0 0) _ _ Z Z Z w (hw.get (i:=0) O)) O (leB O) λb7=>zC (sl (sl sr)) (Bi O (Am O (AJ (v:=(qz (jk b7) (nw a) (nw a))) O O) (Am O (AJ (v:=(vK .u32 (a%((Ax b).getD 0 0)))) O O) (pS' O (pS' O ?_)))))))))
     refine zP (zB (sL [2,3,4,5,6,7,8,9] O) (q2 (AK O (CQ call124 (λw hw=>KT _ (nw a) (nw a) (Cb (nw a) (a/((Ax b).getD 0 0))) (D9 _ _) (by first|omega|(rw [Bk];omega)|simp|(simp;omega)) (by first|omega|simp|(simp;omega)) (by first|omega|simp|(simp;omega)) w (hw.get (i:=0) O)) O (zN (k:=55) (u:=(aG (AW (a/b)))) O (by rw [hy,GR (Nat.lt_of_le_of_lt (Nat.div_le_self _ _) (Bt a))]) (AK O ?_))))))
     have hmb:a%(Ax b).getD 0 0<4294967296:=by rw [hy];exact Nat.lt_of_lt_of_le (Nat.mod_lt _ Z) Z
     exact st' (Al (c:=((a%((Ax b).getD 0 0):Nat):Int)) O underlying27 underlying52 (BW Z)) O (st' (v:=(aG ([(vK .u64 (a%((Ax b).getD 0 0))),(Value.string (Bw 0))]))) (AS (zs:=AW 0) (vs:=[(vK .u64 (a%((Ax b).getD 0 0))),(Value.string (Bw 0))]) (pv:=[(0,(vK .u64 (a%((Ax b).getD 0 0))))]) (places:=[(0,1),(1,1)]) zeroValue54 underlying54 (λw=>by simp [sizeOf9,sizeOf52]) O O) O (zN (k:=58) (u:=(aG (AW (a%b)))) O (by rw [hy] at hmb ⊢;rw [Ed Z];rfl) (Dt 4 (off:=0) (vs:=AW (a/b)) (cs':=AW (a/b)) (AG O) O sizeOf54 O (F8 O sizeOf54 O (asg' O (oNl' (zB (sL [2,3,4,5,6,7] O) (zA (zF (zL (DV O (Ab (i:=4) (cs:=AW (a/b)) O O isAgg54 sizeOf54 O) (Ab (i:=3) (cs:=AW (a%b)) O O isAgg54 sizeOf54 O) (rd_tmp (v:=(qa true)) O) (λw hw=>⟨rfl,hw.out⟩))))))))))))
    ·replace hc3:=xQ hc3
     refine zG (q2 (Af 4 CH O (yB (V:=λb6=>(qz (jk b6) (nw a) ((Ax a).length))) (T:=27) (cs:=Ap (Ax a)) (AG O) (Ag (args:=[(aG (AW a))]) O O call85) (λw hw=>Do a Z w) O (leB O) λb6=>AK O (AP.callBB (V:=λb7 b8=>(Value.tuple #[(qz (jk b7) (nw a+1-nw b) (nw a+1-nw b)),(qz (jk b8) (nw a+1) (nw a+1))])) (T:=27) (cs:=Ap (Cb (nw a+1-nw b) (a/b))) (T2:=27) (cs2:=Ap (Cb (nw a+1) (a%b))) (AG O) (Ag (args:=[(qz (jk b6) (nw a) ((Ax a).length)),(qz (jk b5) (nw b) ((Ax b).length))]) O O call168) (λw hw=>Zj a b _ _ _ _ Z Z Z w (hw.get (i:=0) O) (hw.get (i:=1) O)) O (leB O) λb7 b8=>AK O (st' (AJ (v:=(qz (jk b7) (nw a+1-nw b) (nw a+1-nw b))) O O) O (st' (AJ (v:=(qz (jk b8) (nw a+1) (nw a+1))) O O) O (asg' O (asg' O (q3 (sL [2,3,4,5,6,7,10,11] O) ?_)))))))))
     refine AK O (CQ call124 (λw hw=>KT _ (nw a+1-nw b) (nw a+1-nw b) (Cb (nw a+1-nw b) (a/b)) (D9 _ _) (by first|omega|(rw [Bk];omega)|simp|(simp;omega)) (by first|omega|simp|(simp;omega)) (by first|omega|simp|(simp;omega)) w (hw.get (i:=0) O)) O (zN (k:=67) (u:=(aG (AW (a/b)))) O (by rw [GR (Uo Z hba)]) (AK O (CQ call124 (λw hw=>KT _ (nw a+1) (nw a+1) (Cb (nw a+1) (a%b)) (D9 _ _) (by first|omega|(rw [Bk];omega)|simp|(simp;omega)) (by first|omega|simp|(simp;omega)) (by first|omega|simp|(simp;omega)) w (hw.get (i:=1) O)) O (zN (k:=69) (u:=(aG (AW (a%b)))) O (by rw [GR Ux]) (Dt 5 (off:=0) (vs:=AW (a/b)) (cs':=AW (a/b)) (AG O) O sizeOf54 O (Dt 4 (off:=0) (vs:=AW (a%b)) (cs':=AW (a%b)) (AG O) O sizeOf54 O (asg' O (oNl' (zB (sL [2,3,4,5,6,7] O) (zA ?_)))))))))))
     exact zF (DV O (Ab (i:=5) (cs:=AW (a/b)) O O isAgg54 sizeOf54 O) (Ab (i:=4) (cs:=AW (a%b)) O O isAgg54 sizeOf54 O) (rd_tmp (v:=(qa true)) O) (λw hw=>⟨rfl,hw.out⟩))
theorem bf (a b:Nat) (ha:nw a<=1099511627776) (hb:nw b<=1099511627776) (w:World)  :Calls prog 113 #[(aG (AW a)),(aG (AW b))] w (Ac w (aG (AW (Nat.gcd a b)))):=by
 refine AV (args:=[(aG (AW a)),(aG (AW b))]) func113 O O (leB O) (zI (sL [0,1] O) (q4 (BH (cs:=AW a) O λb1=>BH (cs:=AW b) O λb2=>al HM O λb3=>q6 (sL [2,3,4] O) (zM ?_))))
 refine yC (tg λ(x:Nat) (y:Nat)=>Nat.gcd x y=Nat.gcd a b/\nw x<=1099511627776/\nw y<=1099511627776) (tg λ(x:Nat) (y:Nat)=>[(2,(pP b1 0)),(3,(pP b2 0)),(4,(pP b3 0))]) (tg λ(x:Nat) (y:Nat)=>[AO b3 54 (AW 0),AO b2 54 (AW y),AO b1 54 (AW x)]) (tg λ(x:Nat) (y:Nat)=>y) a b (⟨rfl,ha,hb⟩) (sF O) sr (λx y hJ=>?_)
 obtain ⟨hg,hx,hy⟩:=hJ
 refine zS (q4 (Af 1 CH O (ck' call166 (Tf y) O (st' (Bs (c:=(!(decide (y=0)))) O O) O (oNl' (zB (sL [2,3,4,10] O) (zA ?_)))))))
 refine zK O (λhc0=>?_) (λhc0=>?_)
 ·simp only [jK] at hc0
  refine zG (zA (zM (q4 (Af 2 CH O (Af 1 CH O (ck' call114 (Qy x y Z Z Z) O (AK O (st' (AJ (v:=(aG (AW (x/y)))) O O) O (st' (AJ (v:=(aG (AW (x%y)))) O O) O (st' (AJ (v:=(qa true)) O O) O (al HM O λb4=>?_)))))))))))
  refine al HM O λb5=>DK O sizeOf54 O (An O sizeOf54 O (asg' O (oNl' (zB (sL [2,3,4,6] O) (zA (B9 [(1,true),(0,false),(2,false),(3,false)] (sk (sk (sk (sl (sl sr))))) (B3 0 CH O (zD O (Af 3 CH O (zC (sk (sk (sk (sl (sl sr))))) ?_))))))))))
  exact zD O (Dt 4 (off:=0) (vs:=AW y) (cs':=AW y) (AG O) O sizeOf54 O (zC (sk (sk (sk (sl (sl sr))))) (zD O (F8 O sizeOf54 O (zC (sk (sk (sk (sl (sl sr))))) (zP (zB (sL [2,3,4,6] O) (zJ (zi y (x%y) (⟨by rw [<-hg,Nat.gcd_comm x y,Nat.gcd_rec y x,Nat.gcd_comm],hy,xK (DA (Nat.mod_le _ _)) hx⟩) (Nat.mod_lt _ Z) (sF O) (sl (sl sr)))))))))))
 ·simp only [jK] at hc0
  have hy0:y=0:=by omega
  have hxg:x=Nat.gcd a b:=by rw [<-hg,hy0,Nat.gcd_zero_right]
  exact zW (zO (zh (zR (q2 (Af 2 CH O (An O sizeOf54 O (oNl' (zB (sL [2,3,4] O) (zA (zF (ret_one O (Ab (i:=0) (cs:=AW x) O O isAgg54 sizeOf54 O) (λw hw=>⟨by rw [hxg],hw.out⟩))))))))))))
end
def Eh (neg:Bool) (n:Nat):Int:=if neg then -(n:Int) else (n:Int)
theorem Wd (n:Nat):A8 (Eh true n)=AW n++[.bool (!(decide (n=0)))]:=by
  simp only [A8,AW,Eh,if_true,Int.natAbs_neg,Int.natAbs_natCast,List.cons_append,List.nil_append]
  have e:decide (-(n:Int)<0)=!(decide (n=0)):=by
    by_cases h:n=0
    · subst h;rfl
    · simp [h];omega
  rw [e]
theorem We (n:Nat):A8 (Eh false n)=AW n++[.bool false]:=by
  simp only [A8,AW,Eh,Int.natAbs_natCast,List.cons_append,List.nil_append]
  have e:decide ((n:Int)<0)=false:=by simp
  simp [e]
theorem P0 (D a b:Nat):IJ prog (D+3) 56 (.agg (AW a).toArray) (.agg (AW b).toArray) (decide (a=b)):=by
  have h:=IJ.struct (D:=D+2) (xs:=AW a) (ys:=AW b) underlying56 Tryz.stoodInHeld56 (LH.agg (us:=AW a) (bs:=AW b) jY isAgg54 sizeOf54 rfl rfl (H9 D a b) LH.nil)
  simpa using h
theorem Av (neg:Bool) (n:Nat):(Eh neg n).natAbs=n:=by cases neg<;>simp [Eh]
theorem S4 (a:Int):Eh (!(decide (a<0))) a.natAbs = -a:=by
  unfold Eh
  by_cases h:a<0
  · simp [h];omega
  · simp [h];omega
theorem S2 (a b:Int):Eh (!(decide (a<0) == decide (b<0))) (a.natAbs*b.natAbs)=a*b:=by
  rw [<-Int.natAbs_mul]
  unfold Eh
  by_cases h:a<0<;>by_cases h':b<0
  · have:=Int.mul_pos_of_neg_of_neg h h';simp [h,h'];omega
  · have:a*b<=0:=Int.mul_nonpos_of_nonpos_of_nonneg Z Z
    simp [h,h'];omega
  · have:a*b<=0:=Int.mul_nonpos_of_nonneg_of_nonpos Z Z
    simp [h,h'];omega
  · have:0<=a*b:=Int.mul_nonneg Z Z
    simp [h,h'];omega
theorem JB {a b:Int} (h:(decide (a<0) == decide (b<0))=true):Eh (decide (a<0)) (a.natAbs+b.natAbs)=a+b:=by
  unfold Eh
  by_cases h1:a<0<;>by_cases h2:b<0<;>simp [h1,h2] at h ⊢<;>omega
theorem L0 {a b:Int} (h:(decide (a<0) == decide (b<0))=false) (h3:b.natAbs<=a.natAbs):Eh (decide (a<0)) (a.natAbs-b.natAbs)=a+b:=by
  unfold Eh
  by_cases h1:a<0<;>by_cases h2:b<0<;>simp [h1,h2] at h ⊢<;>omega
theorem L3 {a b:Int} (h:(decide (a<0) == decide (b<0))=false) (h3:¬b.natAbs<=a.natAbs):Eh (decide (b<0)) (b.natAbs-a.natAbs)=a+b:=by
  unfold Eh
  by_cases h1:a<0<;>by_cases h2:b<0<;>simp [h1,h2] at h ⊢<;>omega
theorem gm {z:Int} (h:z<0) (h2:-9223372036854775808<=z):IntKind.u64.wrap (-(IntKind.u64.wrap z))=((z.natAbs:Nat):Int):=by
  simp only [IntKind.wrap,IntKind.bits,IntKind.signed];simp;omega
theorem Hp {z:Int} (h:z<0):Eh true z.natAbs=z:=by unfold Eh;simp;omega
theorem Ns {z:Int} (h:¬z<0):Eh false z.natAbs=z:=by unfold Eh;simp;omega
section
set_option maxRecDepth 100000
theorem NI  :Instr.fill ([(0,2)].toArray[·]?) (AW 0).toArray []=some (AW 0).toArray:=by kernel_rfl
theorem JX (n:Nat) (w:World)  :Calls prog 116 #[(aG (AW n))] w (Ac w (qa (decide (n=0)))):=by
 refine AV (args:=[(aG (AW n))]) func116 O O (leB O) (zI (sL [0] O) (q4 (BH (cs:=AW n) O λb1=>asg' O (q3 (sL [1,2] O) (Af 0 VB O (st' (v:=(aG (AW 0))) (AS (zs:=AW 0) (vs:=AW 0) (pv:=[]) (places:=[(0,2)]) zeroValue56 underlying56 (λw=>by simp [sizeOf54]) O (NI )) O (st' (CB (c:=(decide (n=0))) O O eqGuardType56 (P0 9997 n 0)) O (asg' O (oNl' (zB (sL [2] O) ?_))))))))))
 exact zA (zF (ret_one O (rd_tmp (v:=(qa (decide (n=0)))) O) (λw hw=>⟨rfl,hw.out⟩)))
theorem F4 (x0:Nat):Instr.fill ([(0,2)].toArray[·]?) (AW 0).toArray [(0,.agg (AW x0).toArray)]=some (AW x0).toArray:=by kernel_rfl
theorem Tj (n:Nat) (w:World)  :Calls prog 65 #[(qa true),(aG (AW n))] w (Ac w (aG (A8 (Eh true n)))):=by
 refine AV (args:=[(qa true),(aG (AW n))]) func65 O O (leB O) (zI (sL [0,1] O) (q4 (BH (cs:=AW n) O λb1=>al Km O λb2=>q3 (sL [0,3,4] O) (Af 1 CH O (st' (v:=(aG (AW n))) (AS (zs:=AW 0) (vs:=AW n) (pv:=[(0,(aG (AW n)))]) (places:=[(0,2)]) zeroValue56 underlying56 (λw=>by simp [sizeOf54]) O (F4 n)) O (al fm O λb3=>An O sizeOf56 O (q6 (sL [0,4,5] O) (B9 (EV 4++[(4,false),(5,true),(6,true),(7,true),(8,false)]) (sk (sl sr)) ?_))))))))
 refine B3 0 VB O (Bi O (Bi O (zQ (v:=(aG (AW n))) O (AE O) (AY (i:=0) (vs:=AW n) O O VB.a VB.s O O) O O (zD O (zd (v:=(qa (decide (n=0)))) (AE O) (Ag (args:=[(aG (AW n))]) O O call116) (λw hw=>JX n w) O (leB O) (zC (sk (sl sr)) (zQ (v:=(qa (!(decide (n=0))))) O (AE O) (Bs (c:=(!(decide (n=0)))) O O) O O (Am (v:=(qa (!(decide (n=0))))) O (ex_pick_true O O) (Am (v:=(aG (AW n++[(qa (!(decide (n=0))))]))) O (AS (zs:=A8 0) (vs:=AW n++[(qa (!(decide (n=0))))]) (pv:=[(0,(aG (AW n))),(1,(qa (!(decide (n=0)))))]) (places:=[(0,2),(2,1)]) zeroValue58 underlying58 (λw=>by simp [sizeOf4,sizeOf56]) O O) (zD O (DK O sizeOf58 O ?_)))))))))))
 exact zC (sk (sl sr)) (zP (zB (sL [4,5] O) (zA (zF (ret_one O (Ab (i:=1) (cs:=AW n++[(qa (!(decide (n=0))))]) O O isAgg58 sizeOf58 O) (λw hw=>⟨by rw [Wd],hw.out⟩))))))
theorem Qz (n:Nat) (w:World)  :Calls prog 65 #[(qa false),(aG (AW n))] w (Ac w (aG (A8 (Eh false n)))):=by
 refine AV (args:=[(qa false),(aG (AW n))]) func65 O O (leB O) (zI (sL [0,1] O) (q4 (BH (cs:=AW n) O λb1=>al Km O λb2=>q3 (sL [0,3,4] O) (Af 1 CH O (st' (v:=(aG (AW n))) (AS (zs:=AW 0) (vs:=AW n) (pv:=[(0,(aG (AW n)))]) (places:=[(0,2)]) zeroValue56 underlying56 (λw=>by simp [sizeOf54]) O (F4 n)) O (al fm O λb3=>An O sizeOf56 O (q6 (sL [0,4,5] O) (B9 (EV 4++[(4,false),(5,true),(6,true),(7,true),(8,false)]) (sk (sl sr)) ?_))))))))
 refine B3 0 VB O (Bi O (Bi O (zc O (A7 O) O O (zD O (BP O (zC (sk (sl sr)) (zc O (A7 O) O O (Am (v:=(qa false)) O (AN O O) (Am (v:=(aG (AW n++[(qa false)]))) O (AS (zs:=A8 0) (vs:=AW n++[(qa false)]) (pv:=[(0,(aG (AW n))),(1,(qa false))]) (places:=[(0,2),(2,1)]) zeroValue58 underlying58 (λw=>by simp [sizeOf4,sizeOf56]) O O) (zD O (DK O sizeOf58 O ?_)))))))))))
 exact zC (sk (sl sr)) (zP (zB (sL [4,5] O) (zA (zF (ret_one O (Ab (i:=1) (cs:=AW n++[(qa false)]) O O isAgg58 sizeOf58 O) (λw hw=>⟨by rw [We],hw.out⟩))))))
theorem FJ (neg:Bool) (n:Nat) (w:World):Calls prog 65 #[.bool neg,.agg (AW n).toArray] w (Ac w (.agg (A8 (Eh neg n)).toArray)):=by
 cases neg
 ·exact Qz n w
 ·exact Tj n w
theorem cQ (z:Int) (hz:-9223372036854775808<=z) (hz2:z<9223372036854775808) (w:World)  :Calls prog 34 #[(vI z)] w (Ac w (aG (A8 z))):=by
 refine AV (args:=[(vI z)]) func34 O O (leB O) (zI (sL [0] O) (q4 (al Km O λb1=>oNl' (q1 (q4 (AK O (st' (Aa (c:=(decide (z<(0:Int)))) O O O) O (oNl' (zB (sL [0,2,4] O) (zA ?_))))))))))
 refine zK O (λhc0=>?_) (λhc0=>?_)
 ·replace hc0:=xR hc0
  have he:=Hp hc0
  exact q4 (AK O (st' (Al (c:=(IntKind.u64.wrap z)) O underlying2 underlying52 (rfl)) O (st' (Jo (c:=((z.natAbs:Nat):Int)) O (by rw [Int.zero_sub];exact gm hc0 hz)) O (ck' call76 (K4 z.natAbs Z) O (ck' call65 (FJ true z.natAbs) O (An O sizeOf58 O (oNl' (zB (sL [0,2] O) (zA (zF (zL (ret_one O (Ab (i:=0) (cs:=A8 (Eh true z.natAbs)) O O isAgg58 sizeOf58 O) (λw hw=>⟨by rw [he],hw.out⟩)))))))))))))
 ·replace hc0:=xQ hc0
  have he:=Ns hc0
  exact zG (q2 (AK O (st' (Al (c:=((z.natAbs:Nat):Int)) O underlying2 underlying52 (by rw [ED Z Z];omega)) O (ck' call76 (K4 z.natAbs Z) O (ck' call65 (FJ false z.natAbs) O (An O sizeOf58 O (oNl' (zB (sL [0,2] O) (zA (zF (ret_one O (Ab (i:=0) (cs:=A8 (Eh false z.natAbs)) O O isAgg58 sizeOf58 O) (λw hw=>⟨by rw [he],hw.out⟩))))))))))))
theorem OZ (a:Int) (w:World)  :Calls prog 66 #[(aG (A8 a))] w (Ac w (aG (AW a.natAbs))):=by
 refine AV (args:=[(aG (A8 a))]) func66 O O (leB O) (zI (sL [0] O) (q4 (BH (cs:=A8 a) O λb1=>al HM O λb2=>q3 (sL [1,2] O) (st' (v:=(pP b1 0)) (AA O underlying58 O sizeOf56 O) O (st' (v:=(pP b1 0)) (AA O underlying56 O sizeOf54 O) O (By 1 (AW a.natAbs) CH O (An O sizeOf54 O (oNl' (zB (sL [2] O) ?_)))))))))
 exact zA (zF (ret_one O (Ab (i:=0) (cs:=AW a.natAbs) O O isAgg54 sizeOf54 O) (λw hw=>⟨rfl,hw.out⟩)))
theorem Lr (a:Int) (w:World)  :Calls prog 112 #[(aG (A8 a))] w (Ac w (vI a.sign)):=by
 refine AV (args:=[(aG (A8 a))]) func112 O O (leB O) (zI (sL [0] O) (q4 (BH (cs:=A8 a) O λb1=>asg' O (q6 (sL [1,2] O) (zM (q4 (st' (v:=(pP b1 0)) (AA O underlying58 O sizeOf56 O) O (By 0 (AW a.natAbs) VB O (ck' call116 (JX a.natAbs) O (asg' O ?_))))))))))
 refine oNl' (zB (sL [1,2,3] O) (zA ?_))
 refine zK O (λhc0=>?_) (λhc0=>?_)
 ·replace hc0:=xR hc0
  have he:a.sign=0:=by rw [show a=0 by omega];rfl
  exact q4 (asg' O (oNl' (zA (zF (zV (zL (ret_one O (rd_tmp (v:=(vI 0)) O) (λw hw=>⟨by rw [he],hw.out⟩))))))))
 ·replace hc0:=xQ hc0
  refine q4 (st' (v:=(pP b1 2)) (AA O underlying58 O sizeOf4 O) O (BL 0 (qa (decide (a<0))) Mj O (asg' O (oNl' (zB (sL [1,2,7] O) (zA ?_))))))
  refine zK O (λhc1=>?_) (λhc1=>?_)
  ·replace hc1:=xR hc1
   have he:a.sign = -1:=Int.sign_eq_neg_one_of_neg hc1
   exact q4 (asg' O (oNl' (zA (zF (zV (zL (ret_one O (rd_tmp (v:=(vI (-1:Int))) O) (λw hw=>⟨by rw [he],hw.out⟩))))))))
  ·replace hc1:=xQ hc1
   have he:a.sign=1:=Int.sign_eq_one_of_pos Z
   exact zG (zJ (q2 (asg' O (oNl' (zA (zF (ret_one O (rd_tmp (v:=(vI 1)) O) (λw hw=>⟨by rw [he],hw.out⟩))))))))
theorem Sw (a:Int) (w:World)  :Calls prog 75 #[(aG (A8 a))] w (Ac w (aG (A8 (-a)))):=by
 refine AV (args:=[(aG (A8 a))]) func75 O O (leB O) (zI (sL [0] O) (q4 (BH (cs:=A8 a) O λb1=>al Km O λb2=>q3 (sL [1,2] O) (st' (v:=(pP b1 2)) (AA O underlying58 O sizeOf4 O) O (BL 1 (qa (decide (a<0))) Mj O (st' (Bs (c:=(!(decide (a<0)))) O O) O (st' (v:=(pP b1 0)) (AA O underlying58 O sizeOf56 O) O (st' (v:=(pP b1 0)) (AA O underlying56 O sizeOf54 O) O (By 1 (AW a.natAbs) CH O ?_)))))))))
 exact ck' call65 (FJ (!(decide (a<0))) a.natAbs) O (An O sizeOf58 O (oNl' (zB (sL [2] O) (zA (zF (ret_one O (Ab (i:=0) (cs:=A8 (Eh (!(decide (a<0))) a.natAbs)) O O isAgg58 sizeOf58 O) (λw hw=>⟨by rw [S4],hw.out⟩)))))))
theorem aB (a b:Int) (ha:nw a.natAbs<=1099511627776) (hb:nw b.natAbs<=1099511627776) (w:World)  :Calls prog 121 #[(aG (A8 a)),(aG (A8 b))] w (Ac w (aG (A8 (a+b)))):=by
 refine AV (args:=[(aG (A8 a)),(aG (A8 b))]) func121 O O (leB O) (zI (sL [0,1] O) (q4 (BH (cs:=A8 a) O λb1=>BH (cs:=A8 b) O λb2=>al Km O λb3=>q6 (sL [2,3,4] O) (q4 (st' (v:=(pP b1 2)) (AA O underlying58 O sizeOf4 O) O (BL 2 (qa (decide (a<0))) Mj O (st' (v:=(pP b2 2)) (AA O underlying58 O sizeOf4 O) O (BL 1 (qa (decide (b<0))) Mj O ?_))))))))
 refine st' (KL (c:=(decide (a<0) == decide (b<0))) O O underlying4 O) O (oNl' (zB (sL [2,3,4,13] O) (zA ?_)))
 refine zK O (λhc0=>?_) (λhc0=>?_)
 ·have he:=JB hc0
  refine zS (B9 (EV 8++[(8,false),(9,false),(10,false)]) (sl sr) (Am (v:=(pP b1 2)) O (AA O underlying58 O sizeOf4 O) (CL 1 (qa (decide (a<0))) Mj O (Am (v:=(pP b1 0)) O (AA O underlying58 O sizeOf56 O) (Am (v:=(pP b1 0)) O (AA O underlying56 O sizeOf54 O) (Dz 1 (AW a.natAbs) CH O (Am (v:=(pP b2 0)) O (AA O underlying58 O sizeOf56 O) (Am (v:=(pP b2 0)) O (AA O underlying56 O sizeOf54 O) (Dz 0 (AW b.natAbs) CH O (zD O (ck' call92 (VV a.natAbs b.natAbs Z Z) O ?_)))))))))))
  exact zC (sl sr) (zD O (ck' call65 (FJ (decide (a<0)) (a.natAbs+b.natAbs)) O (zC (sl sr) (zD O (An O sizeOf58 O (zC (sl sr) (zP (zB (sL [2,3,4] O) (zA (zF (zL (ret_one O (Ab (i:=0) (cs:=A8 (Eh (decide (a<0)) (a.natAbs+b.natAbs))) O O isAgg58 sizeOf58 O) (λw hw=>⟨by rw [he],hw.out⟩)))))))))))))
 ·refine zG (q1 (q4 (st' (v:=(pP b1 0)) (AA O underlying58 O sizeOf56 O) O (st' (v:=(pP b1 0)) (AA O underlying56 O sizeOf54 O) O (By 2 (AW a.natAbs) CH O (st' (v:=(pP b2 0)) (AA O underlying58 O sizeOf56 O) O (st' (v:=(pP b2 0)) (AA O underlying56 O sizeOf54 O) O (By 1 (AW b.natAbs) CH O (ck' call115 (Q3 a.natAbs b.natAbs Z Z) O (AK O (st' (AJ (v:=(aG (AW (a.natAbs-b.natAbs)))) O O) O ?_)))))))))))
  refine st' (AJ (v:=(qa (decide (b.natAbs<=a.natAbs)))) O O) O (al HM O λb4=>An O sizeOf54 O (asg' O (q3 (sL [2,3,4,5,6] O) (AK O (oNl' (zB (sL [2,3,4,5,34] O) (zA ?_)))))))
  refine zK O (λhc1=>?_) (λhc1=>?_)
  ·replace hc1:=xR hc1
   have he:=L0 hc0 hc1
   exact q4 (st' (v:=(pP b1 2)) (AA O underlying58 O sizeOf4 O) O (BL 3 (qa (decide (a<0))) Mj O (Af 0 CH O (ck' call65 (FJ (decide (a<0)) (a.natAbs-b.natAbs)) O (DK O sizeOf58 O (oNl' (zB (sL [2,3,4,5] O) (zA (zF (zL (ret_one O (Ab (i:=1) (cs:=A8 (Eh (decide (a<0)) (a.natAbs-b.natAbs))) O O isAgg58 sizeOf58 O) (λw hw=>⟨by rw [he],hw.out⟩))))))))))))
  ·replace hc1:=xQ hc1
   have he:=L3 hc0 hc1
   refine zG (q2 (st' (v:=(pP b2 0)) (AA O underlying58 O sizeOf56 O) O (st' (v:=(pP b2 0)) (AA O underlying56 O sizeOf54 O) O (By 2 (AW b.natAbs) CH O (st' (v:=(pP b1 0)) (AA O underlying58 O sizeOf56 O) O (st' (v:=(pP b1 0)) (AA O underlying56 O sizeOf54 O) O (By 3 (AW a.natAbs) CH O (ck' call115 (Q3 b.natAbs a.natAbs Z Z) O (AK O (st' (AJ (v:=(aG (AW (b.natAbs-a.natAbs)))) O O) O (st' (AJ (v:=(qa (decide (a.natAbs<=b.natAbs)))) O O) O ?_)))))))))))
   refine al HM O λb5=>An O sizeOf54 O (asg' O (q3 (sL [2,3,4,5,7] O) (st' (v:=(pP b2 2)) (AA O underlying58 O sizeOf4 O) O (BL 3 (qa (decide (b<0))) Mj O (Af 0 CH O (ck' call65 (FJ (decide (b<0)) (b.natAbs-a.natAbs)) O (E7 O sizeOf58 O (oNl' (zB (sL [2,3,4,5,7] O) (zA ?_))))))))))
   exact zF (ret_one O (Ab (i:=2) (cs:=A8 (Eh (decide (b<0)) (b.natAbs-a.natAbs))) O O isAgg58 sizeOf58 O) (λw hw=>⟨by rw [he],hw.out⟩))
theorem X_ (a b:Int) (ha:nw a.natAbs<=1099511627776) (hb:nw b.natAbs<=1099511627776) (w:World)  :Calls prog 122 #[(aG (A8 a)),(aG (A8 b))] w (Ac w (aG (A8 (a*b)))):=by
 refine AV (args:=[(aG (A8 a)),(aG (A8 b))]) func122 O O (leB O) (zI (sL [0,1] O) (q4 (BH (cs:=A8 a) O λb1=>BH (cs:=A8 b) O λb2=>al Km O λb3=>q6 (sL [2,3,4] O) (B9 (EV 11++[(11,false),(12,false),(13,false)]) (sl sr) (Am (v:=(pP b1 2)) O (AA O underlying58 O sizeOf4 O) (CL 1 (qa (decide (a<0))) Mj O (Am (v:=(pP b2 2)) O (AA O underlying58 O sizeOf4 O) (CL 0 (qa (decide (b<0))) Mj O ?_))))))))
 refine Am O (KM (c:=(!(decide (a<0) == decide (b<0)))) O O underlying4 O) (Am (v:=(pP b1 0)) O (AA O underlying58 O sizeOf56 O) (Am (v:=(pP b1 0)) O (AA O underlying56 O sizeOf54 O) (Dz 1 (AW a.natAbs) CH O (Am (v:=(pP b2 0)) O (AA O underlying58 O sizeOf56 O) (Am (v:=(pP b2 0)) O (AA O underlying56 O sizeOf54 O) (Dz 0 (AW b.natAbs) CH O (zD O (ck' call74 (Q1 a.natAbs b.natAbs Z Z) O (zC (sl sr) (zD O (ck' call65 (FJ (!(decide (a<0) == decide (b<0))) (a.natAbs*b.natAbs)) O ?_)))))))))))
 exact zC (sl sr) (zD O (An O sizeOf58 O (zC (sl sr) (zP (zB (sL [4] O) (zA (zF (ret_one O (Ab (i:=0) (cs:=A8 (Eh (!(decide (a<0) == decide (b<0))) (a.natAbs*b.natAbs))) O O isAgg58 sizeOf58 O) (λw hw=>⟨by rw [S2],hw.out⟩)))))))))
theorem Jc (a b:Int) (ha:nw a.natAbs<=1099511627776) (hb:nw b.natAbs<=1099511627776) (w:World)  :Calls prog 120 #[(Value.func (.func 121) #[] #[]),(aG (A8 a)),(aG (A8 b))] w (Ac w (aG (A8 (a+b)))):=by
 refine AV (args:=[(Value.func (.func 121) #[] #[]),(aG (A8 a)),(aG (A8 b))]) func120 O O (leB O) (zI (sL [0,1,2] O) (q4 (BH (cs:=A8 a) O λb1=>BH (cs:=A8 b) O λb2=>al Km O λb3=>q3 (sL [0,4,5,6] O) (AK O (Af 2 Du O (Af 1 Du O (ck' call121 (aB a b (by first|omega|(simp only [Int.natAbs_neg,Av,Int.natAbs_natCast];omega)) (by first|omega|(simp only [Int.natAbs_neg,Av,Int.natAbs_natCast];omega))) O (An O sizeOf58 O ?_))))))))
 exact oNl' (zB (sL [6] O) (zA (zF (ret_one O (Ab (i:=0) (cs:=A8 (a+b)) O O isAgg58 sizeOf58 O) (λw hw=>⟨rfl,hw.out⟩)))))
theorem NN (a b:Int) (ha:nw a.natAbs<=1099511627776) (hb:nw b.natAbs<=1099511627776) (w:World)  :Calls prog 120 #[(Value.func (.func 122) #[] #[]),(aG (A8 a)),(aG (A8 b))] w (Ac w (aG (A8 (a*b)))):=by
 refine AV (args:=[(Value.func (.func 122) #[] #[]),(aG (A8 a)),(aG (A8 b))]) func120 O O (leB O) (zI (sL [0,1,2] O) (q4 (BH (cs:=A8 a) O λb1=>BH (cs:=A8 b) O λb2=>al Km O λb3=>q3 (sL [0,4,5,6] O) (AK O (Af 2 Du O (Af 1 Du O (ck' call122 (X_ a b (by first|omega|(simp only [Int.natAbs_neg,Av,Int.natAbs_natCast];omega)) (by first|omega|(simp only [Int.natAbs_neg,Av,Int.natAbs_natCast];omega))) O (An O sizeOf58 O ?_))))))))
 exact oNl' (zB (sL [6] O) (zA (zF (ret_one O (Ab (i:=0) (cs:=A8 (a*b)) O O isAgg58 sizeOf58 O) (λw hw=>⟨rfl,hw.out⟩)))))
theorem Oa (a b:Int) (ha:nw a.natAbs<=1099511627776) (hb:nw b.natAbs<=1099511627776) (w:World)  :Calls prog 71 #[(aG (A8 a)),(aG (A8 b))] w (Ac w (aG (A8 (a+b)))):=by
 refine AV (args:=[(aG (A8 a)),(aG (A8 b))]) func71 O O (leB O) (zI (sL [0,1] O) (q4 (BH (cs:=A8 a) O λb1=>BH (cs:=A8 b) O λb2=>al Km O λb3=>q3 (sL [2,3,4] O) (Af 2 Du O (Af 1 Du O (ck' call120 (Jc a b (by first|omega|(simp only [Int.natAbs_neg,Av,Int.natAbs_natCast];omega)) (by first|omega|(simp only [Int.natAbs_neg,Av,Int.natAbs_natCast];omega))) O (An O sizeOf58 O (oNl' ?_))))))))
 exact zB (sL [4] O) (zA (zF (ret_one O (Ab (i:=0) (cs:=A8 (a+b)) O O isAgg58 sizeOf58 O) (λw hw=>⟨rfl,hw.out⟩))))
theorem ZV (a b:Int) (ha:nw a.natAbs<=1099511627776) (hb:nw b.natAbs<=1099511627776) (w:World)  :Calls prog 135 #[(aG (A8 a)),(aG (A8 b))] w (Ac w (aG (A8 (a-b)))):=by
 refine AV (args:=[(aG (A8 a)),(aG (A8 b))]) func135 O O (leB O) (zI (sL [0,1] O) (q4 (BH (cs:=A8 a) O λb1=>BH (cs:=A8 b) O λb2=>al Km O λb3=>q6 (sL [2,3,4] O) (B9 [(0,true),(1,true),(2,false),(3,false),(4,false)] (sl sr) (B3 1 Du O (B3 0 Du O (zD O (ck' call75 (Sw b) O ?_))))))))
 exact zC (sl sr) (zD O (ck' call120 (Jc a (-b) (by first|omega|(simp only [Int.natAbs_neg,Av,Int.natAbs_natCast];omega)) (by first|omega|(simp only [Int.natAbs_neg,Av,Int.natAbs_natCast];omega))) O (zC (sl sr) (zD O (An O sizeOf58 O (zC (sl sr) (zP (zB (sL [4] O) (zA (zF (ret_one O (Ab (i:=0) (cs:=A8 (a+(-b))) O O isAgg58 sizeOf58 O) (λw hw=>⟨by rw [Int.sub_eq_add_neg],hw.out⟩))))))))))))
theorem IA (a b:Int) (ha:nw a.natAbs<=1099511627776) (hb:nw b.natAbs<=1099511627776) (w:World)  :Calls prog 72 #[(aG (A8 a)),(aG (A8 b))] w (Ac w (aG (A8 (a*b)))):=by
 refine AV (args:=[(aG (A8 a)),(aG (A8 b))]) func72 O O (leB O) (zI (sL [0,1] O) (q4 (BH (cs:=A8 a) O λb1=>BH (cs:=A8 b) O λb2=>al Km O λb3=>q3 (sL [2,3,4] O) (Af 2 Du O (Af 1 Du O (ck' call120 (NN a b (by first|omega|(simp only [Int.natAbs_neg,Av,Int.natAbs_natCast];omega)) (by first|omega|(simp only [Int.natAbs_neg,Av,Int.natAbs_natCast];omega))) O (An O sizeOf58 O (oNl' ?_))))))))
 exact zB (sL [4] O) (zA (zF (ret_one O (Ab (i:=0) (cs:=A8 (a*b)) O O isAgg58 sizeOf58 O) (λw hw=>⟨rfl,hw.out⟩))))
theorem Sv (a b:Int) (ha:nw a.natAbs<=1099511627776) (hb:nw b.natAbs<=1099511627776) (w:World)  :Calls prog 82 #[(aG (A8 a)),(aG (A8 b))] w (Ac w (vI ((a-b).sign))):=by
 refine AV (args:=[(aG (A8 a)),(aG (A8 b))]) func82 O O (leB O) (zI (sL [0,1] O) (q4 (BH (cs:=A8 a) O λb1=>BH (cs:=A8 b) O λb2=>asg' O (q3 (sL [2,3,4] O) (Af 1 Du O (Af 0 Du O (ck' call135 (ZV a b (by first|omega|(simp only [Int.natAbs_neg,Av,Int.natAbs_natCast];omega)) (by first|omega|(simp only [Int.natAbs_neg,Av,Int.natAbs_natCast];omega))) O (ck' call112 (Lr (a-b)) O (asg' O ?_)))))))))
 exact oNl' (zB (sL [4] O) (zA (zF (ret_one O (rd_tmp (v:=(vI ((a-b).sign))) O) (λw hw=>⟨rfl,hw.out⟩)))))
end
def Sz (q:Rat):Nat:=max (nw q.num.natAbs) (nw q.den)
theorem DF (q:Rat):nw q.num.natAbs<=Sz q:=Nat.le_max_left ..
theorem Cu (q:Rat):nw q.den<=Sz q:=Nat.le_max_right ..
theorem GF (q:Rat):nw (q.den-1)<=Sz q:=xK (DA (Nat.sub_le _ _)) (Cu q)
theorem bL {q:Rat} {k:Nat} (h1:nw q.num.natAbs<=k) (h2:nw q.den<=k):Sz q<=k:=Nat.max_le.2 ⟨h1,h2⟩
theorem Jz:nw 1=1:=by decide
theorem OB (q:Rat):1<=Sz q:=xK (by rw [<-Jz];exact DA q.den_pos) (Cu q)
theorem LO {n:Int} {d k:Nat} (h1:nw n.natAbs<=k) (h2:nw d<=k) (hk:1<=k):Sz (mkRat n d)<=k:=by
  refine bL ?_ ?_
  · rw [Rat.num_mkRat]
    split
    · exact xH _
    · refine xK (DA ?_) h1
      rw [Int.natAbs_ediv_of_dvd (by rw [Int.ofNat_dvd_left];exact Nat.gcd_dvd_right ..)]
      exact Nat.div_le_self _ _
  · rw [Rat.den_mkRat]
    split
    · rw [Jz];exact hk
    · exact xK (DA (Nat.div_le_self _ _)) h2
theorem TA (a b:Int):nw (a*b).natAbs<=nw a.natAbs+nw b.natAbs:=by rw [Int.natAbs_mul];exact W_ _ _
theorem Eb (a b:Int):nw (a+b).natAbs<=max (nw a.natAbs) (nw b.natAbs)+1:=xK (DA (Int.natAbs_add_le a b)) (co _ _)
theorem Ch (a b:Rat):nw (a.num*((b.den:Nat):Int)).natAbs<=Sz a+Sz b:=by
  have h1:=TA a.num ((b.den:Nat):Int)
  have h2:=DF a
  have h3:=Cu b
  rw [Int.natAbs_natCast] at h1
  omega
theorem G2 (a b:Rat):nw (a.den*b.den)<=Sz a+Sz b:=by
  have h1:=W_ a.den b.den
  have h2:=Cu a
  have h3:=Cu b
  omega
theorem Hr (a b:Rat):nw (a.num*b.num).natAbs<=Sz a+Sz b:=by
  have h1:=TA a.num b.num
  have h2:=DF a
  have h3:=DF b
  omega
theorem H7 (a b:Rat):mkRat (a.num*((b.den:Nat):Int)+b.num*((a.den:Nat):Int)) (a.den*b.den)=a+b:=by rw [Rat.add_def,Rat.normalize_eq_mkRat]
theorem Jv (a b:Rat):mkRat (a.num*b.num) (a.den*b.den)=a*b:=by rw [Rat.mul_def,Rat.normalize_eq_mkRat]
theorem Je {a:Rat} (h:a.den-1=0):a=((a.num:Int):Rat):=by
  have h1:a.den=1:=by have:=a.den_pos;omega
  exact Rat.ext O h1
theorem Tm {a b:Rat} (ha:a.den-1=0) (hb:b.den-1=0):((a.num+b.num:Int):Rat)=a+b:=by
  rw [Rat.intCast_add,<-Je ha,<-Je hb]
theorem Ue {a b:Rat} (ha:a.den-1=0) (hb:b.den-1=0):((a.num*b.num:Int):Rat)=a*b:=by
  rw [Rat.intCast_mul,<-Je ha,<-Je hb]
theorem Pr {a b:Rat} (h:a.den-1=b.den-1):a.den=b.den:=by
  have h1:=a.den_pos
  have h2:=b.den_pos
  omega
theorem Vp {a b:Rat} (h:a.den-1=b.den-1):mkRat (a.num+b.num) a.den=a+b:=by
  have h1:=Pr h
  have h2:a+b=mkRat a.num a.den+mkRat b.num a.den:=by rw [Rat.mkRat_self];conv=>lhs;rw [<-Rat.mkRat_self b,<-h1]
  rw [h2,Rat.mkRat_eq_div,Rat.mkRat_eq_div,Rat.mkRat_eq_div,Rat.intCast_add,Rat.div_def,Rat.div_def,Rat.div_def,Rat.add_mul]
theorem Ds (a b:Rat):Sz (a+b)<=Sz a+Sz b+1:=by
  rw [<-H7]
  have h1:=Ch a b
  have h2:=Ch b a
  have h3:=Eb (a.num*((b.den:Nat):Int)) (b.num*((a.den:Nat):Int))
  have h4:=G2 a b
  exact LO Z Z Z
theorem Cm (a b:Rat):Sz (a*b)<=Sz a+Sz b:=by
  rw [<-Jv]
  have:=OB a
  exact LO (Hr a b) (G2 a b) Z
theorem BN (a:Rat):Sz (-a)=Sz a:=by unfold Sz;rw [Rat.neg_num,Rat.neg_den,Int.natAbs_neg]
theorem Eq (a b:Rat):Sz (a-b)<=Sz a+Sz b+1:=by rw [Rat.sub_eq_add_neg,<-BN b];exact Ds a (-b)
theorem Jr {b:Rat} (h:b≠0):mkRat (Eh (decide (b.num.sign<0)) b.den) b.num.natAbs=b⁻¹:=by
  have hn:b.num≠0:=λe=>h (Rat.num_eq_zero.1 e)
  have hb:b=(b.num:Rat)/((b.den:Nat):Rat):=by rw [<-Rat.mkRat_eq_div,Rat.mkRat_self]
  have hd:((b.den:Nat):Rat)≠0:=by
    intro e
    have:=b.den_pos
    have h2:b.den=0:=by exact_mod_cast e
    omega
  have hn2:((b.num:Int):Rat)≠0:=by
    intro e
    exact hn (by exact_mod_cast e)
  rw [Rat.mkRat_eq_div]
  conv=>rhs;rw [hb]
  by_cases hs:b.num<0
  · have e1:decide (b.num.sign<0)=true:=by simp [Int.sign_eq_neg_one_of_neg hs]
    have e2:((b.num.natAbs:Nat):Rat) = -((b.num:Int):Rat):=by
      have:((b.num.natAbs:Nat):Int) = -b.num:=by omega
      rw [<-Rat.intCast_natCast,this,Rat.intCast_neg]
    rw [e1,e2]
    simp only [Eh,if_true,Rat.intCast_neg,Rat.intCast_natCast]
    grind
  · have e1:decide (b.num.sign<0)=false:=by
      have:0<=b.num.sign:=Int.sign_nonneg_iff.2 Z
      exact xD Z
    have e2:((b.num.natAbs:Nat):Rat)=((b.num:Int):Rat):=by
      have:((b.num.natAbs:Nat):Int)=b.num:=by omega
      rw [<-Rat.intCast_natCast,this]
    rw [e1,e2]
    simp only [Eh,Bool.false_eq_true,if_false,Rat.intCast_natCast]
    grind
theorem Q4 {b:Rat} (h:b≠0):Sz b⁻¹<=Sz b:=by
  rw [<-Jr h]
  exact LO (by rw [Av];exact Cu b) (DF b) (OB b)
theorem He {a b:Rat} (h:b≠0):Sz (a/b)<=Sz a+Sz b:=by
  rw [Rat.div_def]
  have h1:=Cm a b⁻¹
  have h2:=Q4 h
  omega
def BR (a b:Rat):Int:=if a<b then -1 else if a=b then 0 else 1
theorem Id (a b:Rat):(a.num*((b.den:Nat):Int)-b.num*((a.den:Nat):Int)).sign=BR a b:=by
  have h1:=Rat.lt_iff a b
  have h2:=@Rat.eq_iff_mul_eq_mul a b
  unfold BR
  split
  · rename_i h;exact Int.sign_eq_neg_one_of_neg (by have:=h1.1 h;omega)
  · rename_i h
    split
    · rename_i h';rw [h2.1 h'];simp
    · rename_i h'
      have h3:¬a.num*((b.den:Nat):Int)<b.num*((a.den:Nat):Int):=λe=>h (h1.2 e)
      have h4:¬a.num*((b.den:Nat):Int)=b.num*((a.den:Nat):Int):=λe=>h' (h2.2 e)
      exact Int.sign_eq_one_of_pos Z
theorem Tv {a b:Rat} (h:a.den-1=b.den-1):(a.num-b.num).sign=BR a b:=by
  rw [<-Id,<-Pr h,<-Int.sub_mul,Int.sign_mul]
  have:=a.den_pos
  rw [show ((a.den:Nat):Int).sign=1 from Int.sign_eq_one_of_pos Z]
  simp
theorem G1 {a b:Rat}:BR a b<0↔a<b:=by
  unfold BR;split
  · simp [*]
  · split<;>simp [*]
theorem I0 {a b:Rat}:BR a b=0↔a=b:=by
  unfold BR;split
  · rename_i h
    constructor
    · intro e;cases e
    · intro e;subst e;exact absurd h jX
  · split<;>simp [*]
theorem KO (q:Rat):AC q=A8 q.num++AW (q.den-1):=rfl
theorem Oe {n:Int} {d:Nat} (hd:d≠0):(mkRat n d).num=Eh (decide (n.sign<0)) (n.natAbs/Nat.gcd n.natAbs d):=by
  rw [Rat.num_mkRat,if_neg hd,Nat.gcd_comm]
  unfold Eh
  by_cases h:n<0
  · rw [Int.sign_eq_neg_one_of_neg h]
    have e:n = -((n.natAbs:Nat):Int):=by omega
    simp only [show decide ((-1:Int)<0)=true from rfl,if_true]
    conv=>lhs;rw [e]
    rw [Int.natAbs_neg,Int.natAbs_natCast,Int.neg_ediv_of_dvd (by rw [Int.natCast_dvd_natCast];exact Nat.gcd_dvd_left ..)]
    rfl
  · have h0:0<=n.sign:=Int.sign_nonneg_iff.2 Z
    have e:n=((n.natAbs:Nat):Int):=by omega
    rw [if_neg (by simp;omega)]
    conv=>lhs;rw [e]
    rw [Int.natAbs_natCast]
    rfl
theorem S1 {n:Int} {d:Nat} (hd:d≠0):(mkRat n d).den=d/Nat.gcd n.natAbs d:=by rw [Rat.den_mkRat,if_neg hd,Nat.gcd_comm]
end Go.Proofs.YtcpkbjjmcleplaaGreatDoor
