import Derived.Test.YtpgncndhhhllfaaGreatPart03
import Derived.Test.YtpgncndhhhllfaaGreatPart13
import Derived.Test.YtpgncndhhhllfaaGreatPart14
namespace Go.Proofs.YtpgncndhhhllfaaGreat
open Go Go.RowKit Go.Proofs.Tryz
set_option linter.unusedVariables false
set_option linter.unusedSimpArgs false
section
set_option maxRecDepth 100000
theorem Ek {N v:Nat} (h:v<4294967296^N):val ((CU N v).take N)=v:=by
 rw [List.take_of_length_le (by rw [Bd];exact Nat.le_refl _),EJ _ _ h]
theorem RA {a b:Nat} (hb:0<nw b) (h:nw b<=nw a):a/b<4294967296^(nw a+1-nw b):=by
 have h1:=HQ hb
 have h2:=Bs a
 rw [Nat.div_lt_iff_lt_mul (by have:=Nat.pow_pos (n:=nw b-1) (show 0<4294967296 by omega);omega)]
 have h3:4294967296^(nw a+1-nw b)*4294967296^(nw b-1)<=4294967296^(nw a+1-nw b)*b:=Nat.mul_le_mul_left _ h1
 rw [<-Nat.pow_add,show nw a+1-nw b+(nw b-1)=nw a by omega] at h3
 omega
theorem Q6 {a b:Nat}:a%b<4294967296^(nw a+1):=Nat.lt_of_le_of_lt (Nat.mod_le _ _) (Nat.lt_of_lt_of_le (Bs a) (Nat.pow_le_pow_right Z Z))
theorem O7 {b:Nat} (h:nw b=0):b=0:=by
 have:=Bs b
 rw [h] at this
 omega
theorem Wb {b:Nat} (h:nw b=1):(Ax b).getD 0 0=b/\b<4294967296:=by
 have h1:=Bs b
 rw [h] at h1
 refine ⟨?_,Z⟩
 rw [DD Z,HA,Nat.pow_zero,Nat.div_one,Nat.mod_eq_of_lt Z]
theorem Kq  :Instr.fill ([(0,1),(1,1)].toArray[·]?) (Ae 0).toArray []=some (Ae 0).toArray:=by kernel_rfl
theorem On (a b:Nat) (ha:nw a<=1099511627776) (hb:nw b<=1099511627776) (hb0:b≠0) (w:World)  :Calls prog 112 #[(aG (Ae a)),(aG (Ae b))] w (Ak w (Value.tuple #[(aG (Ae (a/b))),(aG (Ae (a%b))),(Value.bool true)])):=by
 have hnb:nw b≠0:=λh=>hb0 (O7 h)
 have hla:=CE a
 have hlb:=CE b
 refine An (args:=[(aG (Ae a)),(aG (Ae b))]) func112 O O (AV O) (AE.subF (sL [0,1] O) (q4 (B0 (cs:=Ae a) O λb1=>B0 (cs:=Ae b) O λb2=>al GH O λb3=>al GH O λb4=>AI O (q6 (sL [2,3,4,5,6] O) (AE.block (q4 (BC 2 Cl O ?_)))))))
 refine ck' call136 (Qy b) O (AI O (AC.nil (OkQ.subF (sL [2,3,4,5,6,12] O) (OkQ.then_ ?_))))
 refine AE.cond O (λhc0=>?_) (λhc0=>?_)
 ·replace hc0:=of_decide_eq_true hc0
  exact absurd hc0 hb0
 ·replace hc0:=of_decide_eq_false hc0
  refine q4 (BC 3 Cl O (BC 2 Cl O (ck' call137 (Um a b Z Z) O (AK (Ad (c:=(decide ((C6 a b)<(0:Int)))) O O O) O (AI O (AC.nil (OkQ.subF (sL [2,3,4,5,6,17] O) (OkQ.then_ ?_))))))))
  refine AE.cond O (λhc1=>?_) (λhc1=>?_)
  ·replace hc1:=of_decide_eq_true hc1
   rw [GR] at hc1
   have e1:a/b=0:=Nat.div_eq_of_lt hc1
   have e2:a%b=a:=Nat.mod_eq_of_lt hc1
   refine AE.seq (Cu [(0,true),(1,true),(2,false),(3,false),(4,true)] (sl (sl sr)) (Av (v:=(aG (Ae 0))) O (Aa (zs:=Ae 0) (vs:=Ae 0) (pv:=[]) (places:=[(0,1),(1,1)]) zeroValue58 underlying58 (λw=>by simp [sizeOf9,sizeOf56]) O (Kq )) (Gx 1 Cl O (OkE.imp O (Ed O sizeOf58 O (OkE.back (sl (sl sr)) (OkE.imp O (BP O sizeOf58 O (OkE.back (sl (sl sr)) (pS' O (OkE.nil ?_)))))))))))
   exact OkQ.subF (sL [2,3,4,5,6] O) (OkQ.then_ (AE.ret (OkQ.in_ret (OkQ.then_ret (GZ O (BH (i:=1) (cs:=Ae 0) O O isAgg58 sizeOf58 O) (BH (i:=0) (cs:=Ae a) O O isAgg58 sizeOf58 O) (AZ (v:=(Value.bool true)) O) (λw hw=>⟨by rw [e1,e2],hw.out⟩))))))
  ·replace hc1:=of_decide_eq_false hc1
   rw [GR] at hc1
   have hba:nw b<=nw a:=Ck Z
   refine q4 (AK (v:=(pP b1 1)) (AB O underlying58 O sizeOf9 O) O (BL 3 (Value.string (Bi a)) U_ O (AK (B3 (c:=(decide (a<18446744073709551616))) O O Cf) O (AI O (AC.nil (OkQ.subF (sL [2,3,4,5,6,24] O) (OkQ.then_ ?_)))))))
   refine AE.cond O (λhc2=>?_) (λhc2=>?_)
   ·replace hc2:=of_decide_eq_true hc2
    have la:B2 a=a:=Bf hc2
    have lb:B2 b=b:=Bf Z
    have q1:a/b<18446744073709551616:=Nat.lt_of_le_of_lt (Nat.div_le_self _ _) hc2
    have q2:a%b<18446744073709551616:=Nat.lt_of_le_of_lt (Nat.mod_le _ _) hc2
    refine AE.seq (Cu [(0,true),(1,true),(2,true),(3,true),(4,true),(5,true),(6,true),(7,true),(8,true),(9,true),(10,true),(11,true),(12,false),(13,false),(14,true)] (sl (sl sr)) (Av (v:=(pP b1 0)) O (AB O underlying58 O sizeOf56 O) (Bx 1 (vK .u64 (B2 a)) Gg O (Av (v:=(pP b2 0)) O (AB O underlying58 O sizeOf56 O) (Bx 0 (vK .u64 (B2 b)) Gg O (Av O (Ey (c:=(((B2 a)/(B2 b):Nat):Int)) O O Z (Ho (a:=B2 a) (b:=B2 b) Z)) (Av (v:=(aG ([(vK .u64 ((B2 a)/(B2 b))),(Value.string (Bi 0))]))) O (Aa (zs:=Ae 0) (vs:=[(vK .u64 ((B2 a)/(B2 b))),(Value.string (Bi 0))]) (pv:=[(0,(vK .u64 ((B2 a)/(B2 b))))]) (places:=[(0,1),(1,1)]) zeroValue58 underlying58 (λw=>by simp [sizeOf9,sizeOf56]) O O) (Av (v:=(pP b1 0)) O (AB O underlying58 O sizeOf56 O) (Bx 1 (vK .u64 (B2 a)) Gg O (Av (v:=(pP b2 0)) O (AB O underlying58 O sizeOf56 O) (Bx 0 (vK .u64 (B2 b)) Gg O ?_)))))))))))
    refine Av O (Cb (c:=(((B2 a)%(B2 b):Nat):Int)) O O Z (NQ (a:=B2 a) (b:=B2 b))) (Av (v:=(aG ([(vK .u64 ((B2 a)%(B2 b))),(Value.string (Bi 0))]))) O (Aa (zs:=Ae 0) (vs:=[(vK .u64 ((B2 a)%(B2 b))),(Value.string (Bi 0))]) (pv:=[(0,(vK .u64 ((B2 a)%(B2 b))))]) (places:=[(0,1),(1,1)]) zeroValue58 underlying58 (λw=>by simp [sizeOf9,sizeOf56]) O O) (OkE.imp O (Ed O sizeOf58 O (OkE.back (sl (sl sr)) (OkE.imp O (BP O sizeOf58 O (OkE.back (sl (sl sr)) (pS' O (OkE.nil (OkQ.subF (sL [2,3,4,5,6] O) (OkQ.then_ ?_)))))))))))
    exact AE.ret (OkQ.in_ret (OkQ.then_ret (GZ O (BH (i:=1) (cs:=[(vK .u64 ((B2 a)/(B2 b))),(Value.string (Bi 0))]) O O isAgg58 sizeOf58 O) (BH (i:=0) (cs:=[(vK .u64 ((B2 a)%(B2 b))),(Value.string (Bi 0))]) O O isAgg58 sizeOf58 O) (AZ (v:=(Value.bool true)) O) (λw hw=>⟨by rw [DF q1,DF q2,la,lb];rfl,hw.out⟩))))
   ·replace hc2:=of_decide_eq_false hc2
    refine AE.skip (OkQ.in_normal (q2 (BC 2 Cl O (AC.callB (V:=λb5=>(Value.slice (some ⟨b5,0,none⟩) (nw b) ((Ax b).length))) (T:=50) (cs:=Aq (Ax b)) (AT O) (Aw (args:=[(aG (Ae b))]) O O call138) (λw hw=>C2 b Z w) O (AV O) λb5=>AI O (q6 (sL [2,3,4,5,6,7] O) (q4 (AM O (AK (v:=(vN (nw b))) (AF O underlying224) O (AK (BA (c:=(decide ((nw b)=1))) O O (KW (a:=nw b) (b:=1))) O (AC.nil ?_))))))))))
    refine OkQ.subF (sL [2,3,4,5,6,7,44] O) (OkQ.then_ ?_)
    refine AE.cond O (λhc3=>?_) (λhc3=>?_)
    ·replace hc3:=of_decide_eq_true hc3
     obtain ⟨hy,hy2⟩:=Wb hc3
     refine AE.seq (Cu [(0,true),(2,true),(3,true),(4,true),(1,false),(5,false),(6,true),(7,true),(8,true),(9,true),(10,true)] sr (Gx 4 Cl O (BU O (Av (v:=(pP b5 0)) O (AP (j:=0) O O underlying224 sizeOf50 O Z O) ?_))))
     have hx1:(Ax b).getD 0 0<4294967296:=W32.getD (CJ b) 0
     refine Av O (AN (i:=0) (v:=(vK .u32 ((Ax b).getD 0 0))) O O isAgg50 (BD (xs:=Ax b) (j:=0) Z)) (OkE.imp O (AC.callB (V:=λb6=>(Value.slice (some ⟨b6,0,none⟩) (nw a) ((Ax a).length))) (T:=50) (cs:=Aq (Ax a)) (AT O) (Aw (args:=[(aG (Ae a))]) O O call138) (λw hw=>C2 a Z w) O (AV O) λb6=>OkE.back (sl sr) (OkE.imp O (AC.callB (V:=λb7=>(Value.tuple #[(Value.slice (some ⟨b7,0,none⟩) (nw a) (nw a)),(vK .u32 (a%((Ax b).getD 0 0)))])) (T:=50) (cs:=Aq (CU (nw a) (a/((Ax b).getD 0 0)))) (AT O) (Aw (args:=[(Value.slice (some ⟨b6,0,none⟩) (nw a) ((Ax a).length)),(vK .u32 ((Ax b).getD 0 0))]) O O call139) (λw hw=>U4 a ((Ax b).getD 0 0) _ _ Z Z Z w (hw.get (i:=0) O)) O (AV O) λb7=>OkE.back (sl (sl sr)) (BU O (Av O (AX (v:=(Value.slice (some ⟨b7,0,none⟩) (nw a) (nw a))) O O) (Av O (AX (v:=(vK .u32 (a%((Ax b).getD 0 0)))) O O) (pS' O (pS' O ?_)))))))))
     refine OkE.nil (OkQ.subF (sL [2,3,4,5,6,7,8,9] O) (q2 (AM O (Cc call140 (λw hw=>Ic _ (nw a) (nw a) (CU (nw a) (a/((Ax b).getD 0 0))) (DZ _ _) (by first|omega|(rw [Bd];omega)|simp|(simp;omega)) (by first|omega|simp|(simp;omega)) (by first|omega|simp|(simp;omega)) w (hw.get (i:=0) O)) O (AC.retell (k:=55) (u:=(aG (Ae (a/b)))) O (by rw [hy,Ek (Nat.lt_of_le_of_lt (Nat.div_le_self _ _) (Bs a))]) (AM O ?_))))))
     have hmb:a%(Ax b).getD 0 0<4294967296:=by rw [hy];exact Nat.lt_of_lt_of_le (Nat.mod_lt _ Z) Z
     exact AK (A7 (c:=((a%((Ax b).getD 0 0):Nat):Int)) O underlying50 underlying56 (BT Z)) O (AK (v:=(aG ([(vK .u64 (a%((Ax b).getD 0 0))),(Value.string (Bi 0))]))) (Aa (zs:=Ae 0) (vs:=[(vK .u64 (a%((Ax b).getD 0 0))),(Value.string (Bi 0))]) (pv:=[(0,(vK .u64 (a%((Ax b).getD 0 0))))]) (places:=[(0,1),(1,1)]) zeroValue58 underlying58 (λw=>by simp [sizeOf9,sizeOf56]) O O) O (AC.retell (k:=58) (u:=(aG (Ae (a%b)))) O (by rw [hy] at hmb ⊢;rw [DF Z];rfl) (JZ 4 (off:=0) (vs:=Ae (a/b)) (cs':=Ae (a/b)) (AT O) O sizeOf58 O (N8 O sizeOf58 O (AI O (AC.nil (OkQ.subF (sL [2,3,4,5,6,7] O) (OkQ.then_ (AE.ret (OkQ.then_ret (GZ O (BH (i:=4) (cs:=Ae (a/b)) O O isAgg58 sizeOf58 O) (BH (i:=3) (cs:=Ae (a%b)) O O isAgg58 sizeOf58 O) (AZ (v:=(Value.bool true)) O) (λw hw=>⟨rfl,hw.out⟩))))))))))))
    ·replace hc3:=of_decide_eq_false hc3
     refine AE.skip (q2 (BC 4 Cl O (AC.callB (V:=λb6=>(Value.slice (some ⟨b6,0,none⟩) (nw a) ((Ax a).length))) (T:=50) (cs:=Aq (Ax a)) (AT O) (Aw (args:=[(aG (Ae a))]) O O call138) (λw hw=>C2 a Z w) O (AV O) λb6=>AM O (AC.callBB (V:=λb7 b8=>(Value.tuple #[(Value.slice (some ⟨b7,0,none⟩) (nw a+1-nw b) (nw a+1-nw b)),(Value.slice (some ⟨b8,0,none⟩) (nw a+1) (nw a+1))])) (T:=50) (cs:=Aq (CU (nw a+1-nw b) (a/b))) (T2:=50) (cs2:=Aq (CU (nw a+1) (a%b))) (AT O) (Aw (args:=[(Value.slice (some ⟨b6,0,none⟩) (nw a) ((Ax a).length)),(Value.slice (some ⟨b5,0,none⟩) (nw b) ((Ax b).length))]) O O call141) (λw hw=>Vw a b _ _ _ _ Z Z Z w (hw.get (i:=0) O) (hw.get (i:=1) O)) O (AV O) λb7 b8=>AM O (AK (AX (v:=(Value.slice (some ⟨b7,0,none⟩) (nw a+1-nw b) (nw a+1-nw b))) O O) O (AK (AX (v:=(Value.slice (some ⟨b8,0,none⟩) (nw a+1) (nw a+1))) O O) O (AI O (AI O (q3 (sL [2,3,4,5,6,7,10,11] O) ?_)))))))))
     refine AM O (Cc call140 (λw hw=>Ic _ (nw a+1-nw b) (nw a+1-nw b) (CU (nw a+1-nw b) (a/b)) (DZ _ _) (by first|omega|(rw [Bd];omega)|simp|(simp;omega)) (by first|omega|simp|(simp;omega)) (by first|omega|simp|(simp;omega)) w (hw.get (i:=0) O)) O (AC.retell (k:=67) (u:=(aG (Ae (a/b)))) O (by rw [Ek (RA Z hba)]) (AM O (Cc call140 (λw hw=>Ic _ (nw a+1) (nw a+1) (CU (nw a+1) (a%b)) (DZ _ _) (by first|omega|(rw [Bd];omega)|simp|(simp;omega)) (by first|omega|simp|(simp;omega)) (by first|omega|simp|(simp;omega)) w (hw.get (i:=1) O)) O (AC.retell (k:=69) (u:=(aG (Ae (a%b)))) O (by rw [Ek Q6]) (JZ 5 (off:=0) (vs:=Ae (a/b)) (cs':=Ae (a/b)) (AT O) O sizeOf58 O (JZ 4 (off:=0) (vs:=Ae (a%b)) (cs':=Ae (a%b)) (AT O) O sizeOf58 O (AI O (AC.nil (OkQ.subF (sL [2,3,4,5,6,7] O) (OkQ.then_ ?_)))))))))))
     exact AE.ret (GZ O (BH (i:=5) (cs:=Ae (a/b)) O O isAgg58 sizeOf58 O) (BH (i:=4) (cs:=Ae (a%b)) O O isAgg58 sizeOf58 O) (AZ (v:=(Value.bool true)) O) (λw hw=>⟨rfl,hw.out⟩))
theorem Xg (a b:Nat) (ha:nw a<=1099511627776) (hb:nw b<=1099511627776) (w:World)  :Calls prog 111 #[(aG (Ae a)),(aG (Ae b))] w (Ak w (aG (Ae (Nat.gcd a b)))):=by
 refine An (args:=[(aG (Ae a)),(aG (Ae b))]) func111 O O (AV O) (AE.subF (sL [0,1] O) (q4 (B0 (cs:=Ae a) O λb1=>B0 (cs:=Ae b) O λb2=>al GH O λb3=>q6 (sL [2,3,4] O) (AE.block ?_))))
 refine AE.lp2 (tg λ(x:Nat) (y:Nat)=>Nat.gcd x y=Nat.gcd a b/\nw x<=1099511627776/\nw y<=1099511627776) (tg λ(x:Nat) (y:Nat)=>[(2,(pP b1 0)),(3,(pP b2 0)),(4,(pP b3 0))]) (tg λ(x:Nat) (y:Nat)=>[Ah b3 58 (Ae 0),Ah b2 58 (Ae y),Ah b1 58 (Ae x)]) (tg λ(x:Nat) (y:Nat)=>y) a b (⟨rfl,ha,hb⟩) (sF O) sr (λx y hJ=>?_)
 obtain ⟨hg,hx,hy⟩:=hJ
 refine AE.seq (q4 (BC 1 Cl O (ck' call136 (Qy y) O (AK (BF (c:=(!(decide (y=0)))) O O) O (AC.nil (OkQ.subF (sL [2,3,4,10] O) (OkQ.then_ ?_)))))))
 refine AE.cond O (λhc0=>?_) (λhc0=>?_)
 ·simp only [Bool.and_eq_true,Bool.or_eq_true,Bool.and_eq_false_iff,Bool.or_eq_false_iff,Bool.not_eq_true',Bool.not_eq_false',decide_eq_true_eq,decide_eq_false_iff_not] at hc0
  refine AE.skip (OkQ.then_ (AE.block (q4 (BC 2 Cl O (BC 1 Cl O (ck' call112 (On x y Z Z Z) O (AM O (AK (AX (v:=(aG (Ae (x/y)))) O O) O (AK (AX (v:=(aG (Ae (x%y)))) O O) O (AK (AX (v:=(Value.bool true)) O O) O (al GH O λb4=>?_)))))))))))
  refine al GH O λb5=>Ed O sizeOf58 O (BP O sizeOf58 O (AI O (AC.nil (OkQ.subF (sL [2,3,4,6] O) (OkQ.then_ (Cu [(1,true),(0,false),(2,false),(3,false)] (sk (sk (sk (sl (sl sr))))) (Gx 0 Cl O (OkE.imp O (BC 3 Cl O (OkE.back (sk (sk (sk (sl (sl sr))))) ?_))))))))))
  exact OkE.imp O (JZ 4 (off:=0) (vs:=Ae y) (cs':=Ae y) (AT O) O sizeOf58 O (OkE.back (sk (sk (sk (sl (sl sr))))) (OkE.imp O (N8 O sizeOf58 O (OkE.back (sk (sk (sk (sl (sl sr))))) (OkE.nil (OkQ.subF (sL [2,3,4,6] O) (OkQ.in_normal (OkQ.round2 y (x%y) (⟨by rw [<-hg,Nat.gcd_comm x y,Nat.gcd_rec y x,Nat.gcd_comm],hy,Nat.le_trans (Ck (Nat.mod_le _ _)) hx⟩) (Nat.mod_lt _ Z) (sF O) (sl (sl sr)))))))))))
 ·simp only [Bool.and_eq_true,Bool.or_eq_true,Bool.and_eq_false_iff,Bool.or_eq_false_iff,Bool.not_eq_true',Bool.not_eq_false',decide_eq_true_eq,decide_eq_false_iff_not] at hc0
  have hy0:y=0:=by omega
  have hxg:x=Nat.gcd a b:=by rw [<-hg,hy0,Nat.gcd_zero_right]
  exact AE.exit (OkQ.then_exit (OkQ.round2_exit (OkQ.in_exit (q2 (BC 2 Cl O (BP O sizeOf58 O (AC.nil (OkQ.subF (sL [2,3,4] O) (OkQ.then_ (AE.ret (AS O (BH (i:=0) (cs:=Ae x) O O isAgg58 sizeOf58 O) (λw hw=>⟨by rw [hxg],hw.out⟩))))))))))))
end
def Eg (neg:Bool) (n:Nat):Int:=if neg then -(n:Int) else (n:Int)
theorem Uy (n:Nat):Be (Eg true n)=Ae n++[.bool (!(decide (n=0)))]:=by
  simp only [Be,Ae,Eg,if_true,Int.natAbs_neg,Int.natAbs_natCast,List.cons_append,List.nil_append]
  have e:decide (-(n:Int)<0)=!(decide (n=0)):=by
    by_cases h:n=0
    · subst h;rfl
    · simp [h];omega
  rw [e]
theorem Te (n:Nat):Be (Eg false n)=Ae n++[.bool false]:=by
  simp only [Be,Ae,Eg,Int.natAbs_natCast,List.cons_append,List.nil_append]
  have e:decide ((n:Int)<0)=false:=by simp
  simp [e]
theorem UT (D a b:Nat):JV prog (D+3) 60 (.agg (Ae a).toArray) (.agg (Ae b).toArray) (decide (a=b)):=by
  have h:=JV.struct (D:=D+2) (xs:=Ae a) (ys:=Ae b) underlying60 Tryz.stoodInHeld60 (Mm.agg (us:=Ae a) (bs:=Ae b) (by decide) isAgg58 sizeOf58 rfl rfl (L6 D a b) Mm.nil)
  simpa using h
theorem By (neg:Bool) (n:Nat):(Eg neg n).natAbs=n:=by cases neg<;>simp [Eg]
theorem P0 (a b:Int):Eg (!(decide (a<0) == decide (b<0))) (a.natAbs*b.natAbs)=a*b:=by
  rw [<-Int.natAbs_mul]
  unfold Eg
  by_cases h:a<0<;>by_cases h':b<0
  · have:=Int.mul_pos_of_neg_of_neg h h';simp [h,h'];omega
  · have:a*b<=0:=Int.mul_nonpos_of_nonpos_of_nonneg Z Z
    simp [h,h'];omega
  · have:a*b<=0:=Int.mul_nonpos_of_nonneg_of_nonpos Z Z
    simp [h,h'];omega
  · have:0<=a*b:=Int.mul_nonneg Z Z
    simp [h,h'];omega
theorem ak {z:Int} (h:z<0) (h2:-9223372036854775808<=z):IntKind.u64.wrap (-(IntKind.u64.wrap z))=((z.natAbs:Nat):Int):=by
  simp only [IntKind.wrap,IntKind.bits,IntKind.signed];simp;omega
theorem Fk {z:Int} (h:z<0):Eg true z.natAbs=z:=by unfold Eg;simp;omega
theorem K6 {z:Int} (h:¬z<0):Eg false z.natAbs=z:=by unfold Eg;simp;omega
section
set_option maxRecDepth 100000
theorem Km  :Instr.fill ([(0,2)].toArray[·]?) (Ae 0).toArray []=some (Ae 0).toArray:=by kernel_rfl
theorem Hr (n:Nat) (w:World)  :Calls prog 109 #[(aG (Ae n))] w (Ak w (Value.bool (decide (n=0)))):=by
 refine An (args:=[(aG (Ae n))]) func109 O O (AV O) (AE.subF (sL [0] O) (q4 (B0 (cs:=Ae n) O λb1=>AI O (q3 (sL [1,2] O) (BC 0 Rk O (AK (v:=(aG (Ae 0))) (Aa (zs:=Ae 0) (vs:=Ae 0) (pv:=[]) (places:=[(0,2)]) zeroValue60 underlying60 (λw=>by simp [sizeOf58]) O (Km )) O (AK (ET (c:=(decide (n=0))) O O eqGuardType60 (UT 9997 n 0)) O (AI O (AC.nil (OkQ.subF (sL [2] O) ?_))))))))))
 exact OkQ.then_ (AE.ret (AS O (AZ (v:=(Value.bool (decide (n=0)))) O) (λw hw=>⟨rfl,hw.out⟩)))
theorem EX (x0:Nat):Instr.fill ([(0,2)].toArray[·]?) (Ae 0).toArray [(0,.agg (Ae x0).toArray)]=some (Ae x0).toArray:=by kernel_rfl
theorem Q4 (n:Nat) (w:World)  :Calls prog 89 #[(Value.bool true),(aG (Ae n))] w (Ak w (aG (Be (Eg true n)))):=by
 refine An (args:=[(Value.bool true),(aG (Ae n))]) func89 O O (AV O) (AE.subF (sL [0,1] O) (q4 (B0 (cs:=Ae n) O λb1=>al SD O λb2=>q3 (sL [0,3,4] O) (BC 1 Cl O (AK (v:=(aG (Ae n))) (Aa (zs:=Ae 0) (vs:=Ae n) (pv:=[(0,(aG (Ae n)))]) (places:=[(0,2)]) zeroValue60 underlying60 (λw=>by simp [sizeOf58]) O (EX n)) O (al Zp O λb3=>BP O sizeOf60 O (q6 (sL [0,4,5] O) (Cu [(0,true),(1,true),(2,true),(3,true),(4,false),(5,true),(6,true),(7,true),(8,false)] (sk (sl sr)) ?_))))))))
 refine Gx 0 Rk O (BU O (BU O (OkE.pas (v:=(aG (Ae n))) O (AA O) (BK (i:=0) (vs:=Ae n) O O Rk.a Rk.s O O) O O (OkE.imp O (AC.call (v:=(Value.bool (decide (n=0)))) (AA O) (Aw (args:=[(aG (Ae n))]) O O call109) (λw hw=>Hr n w) O (AV O) (OkE.back (sk (sl sr)) (OkE.pas (v:=(Value.bool (!(decide (n=0))))) O (AA O) (BF (c:=(!(decide (n=0)))) O O) O O (Av (v:=(Value.bool (!(decide (n=0))))) O (AR O O) (Av (v:=(aG (Ae n++[(Value.bool (!(decide (n=0))))]))) O (Aa (zs:=Be 0) (vs:=Ae n++[(Value.bool (!(decide (n=0))))]) (pv:=[(0,(aG (Ae n))),(1,(Value.bool (!(decide (n=0)))))]) (places:=[(0,2),(2,1)]) zeroValue62 underlying62 (λw=>by simp [sizeOf4,sizeOf60]) O O) (OkE.imp O (Ed O sizeOf62 O ?_)))))))))))
 exact OkE.back (sk (sl sr)) (OkE.nil (OkQ.subF (sL [4,5] O) (OkQ.then_ (AE.ret (AS O (BH (i:=1) (cs:=Ae n++[(Value.bool (!(decide (n=0))))]) O O isAgg62 sizeOf62 O) (λw hw=>⟨by rw [Uy],hw.out⟩))))))
theorem PV (n:Nat) (w:World)  :Calls prog 89 #[(Value.bool false),(aG (Ae n))] w (Ak w (aG (Be (Eg false n)))):=by
 refine An (args:=[(Value.bool false),(aG (Ae n))]) func89 O O (AV O) (AE.subF (sL [0,1] O) (q4 (B0 (cs:=Ae n) O λb1=>al SD O λb2=>q3 (sL [0,3,4] O) (BC 1 Cl O (AK (v:=(aG (Ae n))) (Aa (zs:=Ae 0) (vs:=Ae n) (pv:=[(0,(aG (Ae n)))]) (places:=[(0,2)]) zeroValue60 underlying60 (λw=>by simp [sizeOf58]) O (EX n)) O (al Zp O λb3=>BP O sizeOf60 O (q6 (sL [0,4,5] O) (Cu [(0,true),(1,true),(2,true),(3,true),(4,false),(5,true),(6,true),(7,true),(8,false)] (sk (sl sr)) ?_))))))))
 refine Gx 0 Rk O (BU O (BU O (OkE.skp O (AD O) O O (OkE.imp O (AC.skip (AD O) O (AV O) (OkE.back (sk (sl sr)) (OkE.skp O (AD O) O O (Av (v:=(Value.bool false)) O (AO O O) (Av (v:=(aG (Ae n++[(Value.bool false)]))) O (Aa (zs:=Be 0) (vs:=Ae n++[(Value.bool false)]) (pv:=[(0,(aG (Ae n))),(1,(Value.bool false))]) (places:=[(0,2),(2,1)]) zeroValue62 underlying62 (λw=>by simp [sizeOf4,sizeOf60]) O O) (OkE.imp O (Ed O sizeOf62 O ?_)))))))))))
 exact OkE.back (sk (sl sr)) (OkE.nil (OkQ.subF (sL [4,5] O) (OkQ.then_ (AE.ret (AS O (BH (i:=1) (cs:=Ae n++[(Value.bool false)]) O O isAgg62 sizeOf62 O) (λw hw=>⟨by rw [Te],hw.out⟩))))))
theorem HM (neg:Bool) (n:Nat) (w:World):Calls prog 89 #[.bool neg,.agg (Ae n).toArray] w (Ak w (.agg (Be (Eg neg n)).toArray)):=by
 cases neg
 ·exact PV n w
 ·exact Q4 n w
theorem YZ (z:Int) (hz:-9223372036854775808<=z) (hz2:z<9223372036854775808) (w:World)  :Calls prog 66 #[(vI z)] w (Ak w (aG (Be z))):=by
 refine An (args:=[(vI z)]) func66 O O (AV O) (AE.subF (sL [0] O) (q4 (al SD O λb1=>AC.nil (q1 (q4 (AM O (AK (Ad (c:=(decide (z<(0:Int)))) O O O) O (AC.nil (OkQ.subF (sL [0,2,4] O) (OkQ.then_ ?_))))))))))
 refine AE.cond O (λhc0=>?_) (λhc0=>?_)
 ·replace hc0:=of_decide_eq_true hc0
  have he:=Fk hc0
  exact q4 (AM O (AK (A7 (c:=(IntKind.u64.wrap z)) O underlying2 underlying56 (rfl)) O (AK (Sn (c:=((z.natAbs:Nat):Int)) O (by rw [Int.zero_sub];exact ak hc0 hz)) O (ck' call90 (I3 z.natAbs Z) O (ck' call89 (HM true z.natAbs) O (BP O sizeOf62 O (AC.nil (OkQ.subF (sL [0,2] O) (OkQ.then_ (AE.ret (OkQ.then_ret (AS O (BH (i:=0) (cs:=Be (Eg true z.natAbs)) O O isAgg62 sizeOf62 O) (λw hw=>⟨by rw [he],hw.out⟩)))))))))))))
 ·replace hc0:=of_decide_eq_false hc0
  have he:=K6 hc0
  exact AE.skip (q2 (AM O (AK (A7 (c:=((z.natAbs:Nat):Int)) O underlying2 underlying56 (by rw [C0 Z Z];omega)) O (ck' call90 (I3 z.natAbs Z) O (ck' call89 (HM false z.natAbs) O (BP O sizeOf62 O (AC.nil (OkQ.subF (sL [0,2] O) (OkQ.then_ (AE.ret (AS O (BH (i:=0) (cs:=Be (Eg false z.natAbs)) O O isAgg62 sizeOf62 O) (λw hw=>⟨by rw [he],hw.out⟩))))))))))))
theorem L9 (a:Int) (w:World)  :Calls prog 94 #[(aG (Be a))] w (Ak w (aG (Ae a.natAbs))):=by
 refine An (args:=[(aG (Be a))]) func94 O O (AV O) (AE.subF (sL [0] O) (q4 (B0 (cs:=Be a) O λb1=>al GH O λb2=>q3 (sL [1,2] O) (AK (v:=(pP b1 0)) (AB O underlying62 O sizeOf60 O) O (AK (v:=(pP b1 0)) (AB O underlying60 O sizeOf58 O) O (OZ 1 (Ae a.natAbs) Cl O (BP O sizeOf58 O (AC.nil (OkQ.subF (sL [2] O) ?_)))))))))
 exact OkQ.then_ (AE.ret (AS O (BH (i:=0) (cs:=Ae a.natAbs) O O isAgg58 sizeOf58 O) (λw hw=>⟨rfl,hw.out⟩)))
theorem N6 (a:Int) (w:World)  :Calls prog 110 #[(aG (Be a))] w (Ak w (vI a.sign)):=by
 refine An (args:=[(aG (Be a))]) func110 O O (AV O) (AE.subF (sL [0] O) (q4 (B0 (cs:=Be a) O λb1=>AI O (q6 (sL [1,2] O) (AE.block (q4 (AK (v:=(pP b1 0)) (AB O underlying62 O sizeOf60 O) O (OZ 0 (Ae a.natAbs) Rk O (ck' call109 (Hr a.natAbs) O (AI O ?_))))))))))
 refine AC.nil (OkQ.subF (sL [1,2,3] O) (OkQ.then_ ?_))
 refine AE.cond O (λhc0=>?_) (λhc0=>?_)
 ·replace hc0:=of_decide_eq_true hc0
  have he:a.sign=0:=by rw [show a=0 by omega];rfl
  exact q4 (AI O (AC.nil (OkQ.then_ (AE.ret (OkQ.in_ret (OkQ.then_ret (AS O (AZ (v:=(vI 0)) O) (λw hw=>⟨by rw [he],hw.out⟩))))))))
 ·replace hc0:=of_decide_eq_false hc0
  refine q4 (AK (v:=(pP b1 2)) (AB O underlying62 O sizeOf4 O) O (BL 0 (Value.bool (decide (a<0))) PP O (AI O (AC.nil (OkQ.subF (sL [1,2,7] O) (OkQ.then_ ?_))))))
  refine AE.cond O (λhc1=>?_) (λhc1=>?_)
  ·replace hc1:=of_decide_eq_true hc1
   have he:a.sign = -1:=Int.sign_eq_neg_one_of_neg hc1
   exact q4 (AI O (AC.nil (OkQ.then_ (AE.ret (OkQ.in_ret (OkQ.then_ret (AS O (AZ (v:=(vI (-1:Int))) O) (λw hw=>⟨by rw [he],hw.out⟩))))))))
  ·replace hc1:=of_decide_eq_false hc1
   have he:a.sign=1:=Int.sign_eq_one_of_pos Z
   exact AE.skip (OkQ.in_normal (q2 (AI O (AC.nil (OkQ.then_ (AE.ret (AS O (AZ (v:=(vI 1)) O) (λw hw=>⟨by rw [he],hw.out⟩))))))))
theorem UK (a b:Int) (ha:nw a.natAbs<=1099511627776) (hb:nw b.natAbs<=1099511627776) (w:World)  :Calls prog 146 #[(aG (Be a)),(aG (Be b))] w (Ak w (aG (Be (a*b)))):=by
 refine An (args:=[(aG (Be a)),(aG (Be b))]) func146 O O (AV O) (AE.subF (sL [0,1] O) (q4 (B0 (cs:=Be a) O λb1=>B0 (cs:=Be b) O λb2=>al SD O λb3=>q6 (sL [2,3,4] O) (Cu [(0,true),(1,true),(2,true),(3,true),(4,true),(5,true),(6,true),(7,true),(8,true),(9,true),(10,true),(11,false),(12,false),(13,false)] (sl sr) (Av (v:=(pP b1 2)) O (AB O underlying62 O sizeOf4 O) (Bx 1 (Value.bool (decide (a<0))) PP O (Av (v:=(pP b2 2)) O (AB O underlying62 O sizeOf4 O) (Bx 0 (Value.bool (decide (b<0))) PP O ?_))))))))
 refine Av O (Fj (c:=(!(decide (a<0) == decide (b<0)))) O O underlying4 O) (Av (v:=(pP b1 0)) O (AB O underlying62 O sizeOf60 O) (Av (v:=(pP b1 0)) O (AB O underlying60 O sizeOf58 O) (Uz 1 (Ae a.natAbs) Cl O (Av (v:=(pP b2 0)) O (AB O underlying62 O sizeOf60 O) (Av (v:=(pP b2 0)) O (AB O underlying60 O sizeOf58 O) (Uz 0 (Ae b.natAbs) Cl O (OkE.imp O (ck' call117 (Uc a.natAbs b.natAbs Z Z) O (OkE.back (sl sr) (OkE.imp O (ck' call89 (HM (!(decide (a<0) == decide (b<0))) (a.natAbs*b.natAbs)) O ?_)))))))))))
 exact OkE.back (sl sr) (OkE.imp O (BP O sizeOf62 O (OkE.back (sl sr) (OkE.nil (OkQ.subF (sL [4] O) (OkQ.then_ (AE.ret (AS O (BH (i:=0) (cs:=Be (Eg (!(decide (a<0) == decide (b<0))) (a.natAbs*b.natAbs))) O O isAgg62 sizeOf62 O) (λw hw=>⟨by rw [P0],hw.out⟩)))))))))
theorem Kh (a b:Int) (ha:nw a.natAbs<=1099511627776) (hb:nw b.natAbs<=1099511627776) (w:World)  :Calls prog 145 #[(Value.func (.func 146) #[] #[]),(aG (Be a)),(aG (Be b))] w (Ak w (aG (Be (a*b)))):=by
 refine An (args:=[(Value.func (.func 146) #[] #[]),(aG (Be a)),(aG (Be b))]) func145 O O (AV O) (AE.subF (sL [0,1,2] O) (q4 (B0 (cs:=Be a) O λb1=>B0 (cs:=Be b) O λb2=>al SD O λb3=>q3 (sL [0,4,5,6] O) (AM O (BC 2 Hh O (BC 1 Hh O (ck' call146 (UK a b (by first|omega|(simp only [Int.natAbs_neg,By,Int.natAbs_natCast];omega)) (by first|omega|(simp only [Int.natAbs_neg,By,Int.natAbs_natCast];omega))) O (BP O sizeOf62 O ?_))))))))
 exact AC.nil (OkQ.subF (sL [6] O) (OkQ.then_ (AE.ret (AS O (BH (i:=0) (cs:=Be (a*b)) O O isAgg62 sizeOf62 O) (λw hw=>⟨rfl,hw.out⟩)))))
theorem Qj (a b:Int) (ha:nw a.natAbs<=1099511627776) (hb:nw b.natAbs<=1099511627776) (w:World)  :Calls prog 116 #[(aG (Be a)),(aG (Be b))] w (Ak w (aG (Be (a*b)))):=by
 refine An (args:=[(aG (Be a)),(aG (Be b))]) func116 O O (AV O) (AE.subF (sL [0,1] O) (q4 (B0 (cs:=Be a) O λb1=>B0 (cs:=Be b) O λb2=>al SD O λb3=>q3 (sL [2,3,4] O) (BC 2 Hh O (BC 1 Hh O (ck' call145 (Kh a b (by first|omega|(simp only [Int.natAbs_neg,By,Int.natAbs_natCast];omega)) (by first|omega|(simp only [Int.natAbs_neg,By,Int.natAbs_natCast];omega))) O (BP O sizeOf62 O (AC.nil ?_))))))))
 exact OkQ.subF (sL [4] O) (OkQ.then_ (AE.ret (AS O (BH (i:=0) (cs:=Be (a*b)) O O isAgg62 sizeOf62 O) (λw hw=>⟨rfl,hw.out⟩))))
end
def Sz (q:Rat):Nat:=max (nw q.num.natAbs) (nw q.den)
theorem Df (q:Rat):nw q.num.natAbs<=Sz q:=Nat.le_max_left ..
theorem DE (q:Rat):nw q.den<=Sz q:=Nat.le_max_right ..
theorem Hp (q:Rat):nw (q.den-1)<=Sz q:=Nat.le_trans (Ck (Nat.sub_le _ _)) (DE q)
theorem XZ {q:Rat} {k:Nat} (h1:nw q.num.natAbs<=k) (h2:nw q.den<=k):Sz q<=k:=Nat.max_le.2 ⟨h1,h2⟩
theorem IC:nw 1=1:=by decide
theorem PJ (q:Rat):1<=Sz q:=Nat.le_trans (by rw [<-IC];exact Ck q.den_pos) (DE q)
theorem No {n:Int} {d k:Nat} (h1:nw n.natAbs<=k) (h2:nw d<=k) (hk:1<=k):Sz (mkRat n d)<=k:=by
  refine XZ ?_ ?_
  · rw [Rat.num_mkRat]
    split
    · exact Nat.zero_le _
    · refine Nat.le_trans (Ck ?_) h1
      rw [Int.natAbs_ediv_of_dvd (by rw [Int.ofNat_dvd_left];exact Nat.gcd_dvd_right ..)]
      exact Nat.div_le_self _ _
  · rw [Rat.den_mkRat]
    split
    · rw [IC];exact hk
    · exact Nat.le_trans (Ck (Nat.div_le_self _ _)) h2
theorem Qz (a b:Int):nw (a*b).natAbs<=nw a.natAbs+nw b.natAbs:=by rw [Int.natAbs_mul];exact VV _ _
theorem GQ (a b:Int):nw (a+b).natAbs<=max (nw a.natAbs) (nw b.natAbs)+1:=Nat.le_trans (Ck (Int.natAbs_add_le a b)) (Yt _ _)
theorem Dt (a b:Rat):nw (a.num*((b.den:Nat):Int)).natAbs<=Sz a+Sz b:=by
  have h1:=Qz a.num ((b.den:Nat):Int)
  have h2:=Df a
  have h3:=DE b
  rw [Int.natAbs_natCast] at h1
  omega
theorem J7 (a b:Rat):nw (a.den*b.den)<=Sz a+Sz b:=by
  have h1:=VV a.den b.den
  have h2:=DE a
  have h3:=DE b
  omega
theorem Jz (a b:Rat):nw (a.num*b.num).natAbs<=Sz a+Sz b:=by
  have h1:=Qz a.num b.num
  have h2:=Df a
  have h3:=Df b
  omega
theorem H3 (a b:Rat):mkRat (a.num*b.num) (a.den*b.den)=a*b:=by rw [Rat.mul_def,Rat.normalize_eq_mkRat]
theorem My {a:Rat} (h:a.den-1=0):a=((a.num:Int):Rat):=by
  have h1:a.den=1:=by have:=a.den_pos;omega
  exact Rat.ext O h1
theorem Rh {a b:Rat} (ha:a.den-1=0) (hb:b.den-1=0):((a.num*b.num:Int):Rat)=a*b:=by
  rw [Rat.intCast_mul,<-My ha,<-My hb]
theorem OP (a b:Rat):Sz (a*b)<=Sz a+Sz b:=by
  rw [<-H3]
  have:=PJ a
  exact No (Jz a b) (J7 a b) Z
theorem OQ (a:Rat):Sz (-a)=Sz a:=by unfold Sz;rw [Rat.neg_num,Rat.neg_den,Int.natAbs_neg]
theorem IH {b:Rat} (h:b≠0):mkRat (Eg (decide (b.num.sign<0)) b.den) b.num.natAbs=b⁻¹:=by
  have hn:b.num≠0:=λe=>h (Rat.num_eq_zero.1 e)
  have hb:b=(b.num:Rat)/((b.den:Nat):Rat):=by rw [<-Rat.mkRat_eq_div,Rat.mkRat_self]
  have hd:((b.den:Nat):Rat)≠0:=by
    intro e
    have:=b.den_pos
    have h2:b.den=0:=by exact_mod_cast e
    omega
  have hn2:((b.num:Int):Rat)≠0:=by
    intro e
    exact hn (by exact_mod_cast e)
  rw [Rat.mkRat_eq_div]
  conv=>rhs;rw [hb]
  by_cases hs:b.num<0
  · have e1:decide (b.num.sign<0)=true:=by simp [Int.sign_eq_neg_one_of_neg hs]
    have e2:((b.num.natAbs:Nat):Rat) = -((b.num:Int):Rat):=by
      have:((b.num.natAbs:Nat):Int) = -b.num:=by omega
      rw [<-Rat.intCast_natCast,this,Rat.intCast_neg]
    rw [e1,e2]
    simp only [Eg,if_true,Rat.intCast_neg,Rat.intCast_natCast]
    grind
  · have e1:decide (b.num.sign<0)=false:=by
      have:0<=b.num.sign:=Int.sign_nonneg_iff.2 Z
      exact decide_eq_false Z
    have e2:((b.num.natAbs:Nat):Rat)=((b.num:Int):Rat):=by
      have:((b.num.natAbs:Nat):Int)=b.num:=by omega
      rw [<-Rat.intCast_natCast,this]
    rw [e1,e2]
    simp only [Eg,Bool.false_eq_true,if_false,Rat.intCast_natCast]
    grind
theorem OT {b:Rat} (h:b≠0):Sz b⁻¹<=Sz b:=by
  rw [<-IH h]
  exact No (by rw [By];exact DE b) (Df b) (PJ b)
theorem Sf {a b:Rat} (h:b≠0):Sz (a/b)<=Sz a+Sz b:=by
  rw [Rat.div_def]
  have h1:=OP a b⁻¹
  have h2:=OT h
  omega
theorem Nn (q:Rat):BB q=Be q.num++Ae (q.den-1):=rfl
theorem Qo {n:Int} {d:Nat} (hd:d≠0):(mkRat n d).num=Eg (decide (n.sign<0)) (n.natAbs/Nat.gcd n.natAbs d):=by
  rw [Rat.num_mkRat,if_neg hd,Nat.gcd_comm]
  unfold Eg
  by_cases h:n<0
  · rw [Int.sign_eq_neg_one_of_neg h]
    have e:n = -((n.natAbs:Nat):Int):=by omega
    simp only [show decide ((-1:Int)<0)=true from rfl,if_true]
    conv=>lhs;rw [e]
    rw [Int.natAbs_neg,Int.natAbs_natCast,Int.neg_ediv_of_dvd (by rw [Int.natCast_dvd_natCast];exact Nat.gcd_dvd_left ..)]
    rfl
  · have h0:0<=n.sign:=Int.sign_nonneg_iff.2 Z
    have e:n=((n.natAbs:Nat):Int):=by omega
    rw [if_neg (by simp;omega)]
    conv=>lhs;rw [e]
    rw [Int.natAbs_natCast]
    rfl
theorem QS {n:Int} {d:Nat} (hd:d≠0):(mkRat n d).den=d/Nat.gcd n.natAbs d:=by rw [Rat.den_mkRat,if_neg hd,Nat.gcd_comm]
end Go.Proofs.YtpgncndhhhllfaaGreat
