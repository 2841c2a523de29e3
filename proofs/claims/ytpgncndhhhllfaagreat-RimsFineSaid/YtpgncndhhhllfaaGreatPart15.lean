import Derived.Test.YtpgncndhhhllfaaGreatPart03
import Derived.Test.YtpgncndhhhllfaaGreatPart13
import Derived.Test.YtpgncndhhhllfaaGreatPart14
namespace Go.Proofs.YtpgncndhhhllfaaGreat
open Go Go.RowKit Go.Proofs.Tryz
set_option linter.unusedVariables false
set_option linter.unusedSimpArgs false
section
set_option maxRecDepth 100000
theorem FO {N v:Nat} (h:v<4294967296^N):val ((Cg N v).take N)=v:=by
 rw [List.take_of_length_le (by rw [Bh];exact Nat.le_refl _),E6 _ _ h]
theorem SU {a b:Nat} (hb:0<nw b) (h:nw b<=nw a):a/b<4294967296^(nw a+1-nw b):=by
 have h1:=H0 hb
 have h2:=Bz a
 rw [Nat.div_lt_iff_lt_mul (by have:=Nat.pow_pos (n:=nw b-1) (show 0<4294967296 by omega);omega)]
 have h3:4294967296^(nw a+1-nw b)*4294967296^(nw b-1)<=4294967296^(nw a+1-nw b)*b:=Nat.mul_le_mul_left _ h1
 rw [<-Nat.pow_add,show nw a+1-nw b+(nw b-1)=nw a by omega] at h3
 omega
theorem SO {a b:Nat}:a%b<4294967296^(nw a+1):=Nat.lt_of_le_of_lt (Nat.mod_le _ _) (Nat.lt_of_lt_of_le (Bz a) (Nat.pow_le_pow_right Z Z))
theorem QS {b:Nat} (h:nw b=0):b=0:=by
 have:=Bz b
 rw [h] at this
 omega
theorem W0 {b:Nat} (h:nw b=1):(A8 b).getD 0 0=b/\b<4294967296:=by
 have h1:=Bz b
 rw [h] at h1
 refine ⟨?_,Z⟩
 rw [DZ Z,HH,Nat.pow_zero,Nat.div_one,Nat.mod_eq_of_lt Z]
theorem LX  :Instr.fill ([(0,1),(1,1)].toArray[·]?) (Ag 0).toArray []=some (Ag 0).toArray:=by kernel_rfl
theorem QE (a b:Nat) (ha:nw a<=1099511627776) (hb:nw b<=1099511627776) (hb0:b≠0) (w:World)  :Calls prog 112 #[(aG (Ag a)),(aG (Ag b))] w (A9 w (Value.tuple #[(aG (Ag (a/b))),(aG (Ag (a%b))),(Value.bool true)])):=by
 have hnb:nw b≠0:=λh=>hb0 (QS h)
 have hla:=CO a
 have hlb:=CO b
 refine Aq (args:=[(aG (Ag a)),(aG (Ag b))]) func112 O O (Ad O) (AE.subF (sL [0,1] O) (q4 (Ca (cs:=Ag a) O λb1=>Ca (cs:=Ag b) O λb2=>al GS O λb3=>al GS O λb4=>AI O (q6 (sL [2,3,4,5,6] O) (AE.block (q4 (BF 2 Cq O ?_)))))))
 refine ck' call136 (RN b) O (AI O (AC.nil (OkQ.subF (sL [2,3,4,5,6,12] O) (OkQ.then_ ?_))))
 refine AE.cond O (λhc0=>?_) (λhc0=>?_)
 ·replace hc0:=of_decide_eq_true hc0
  exact absurd hc0 hb0
 ·replace hc0:=of_decide_eq_false hc0
  refine q4 (BF 3 Cq O (BF 2 Cq O (ck' call137 (Ur a b Z Z) O (AJ (Ac (c:=(decide ((DP a b)<(0:Int)))) O O O) O (AI O (AC.nil (OkQ.subF (sL [2,3,4,5,6,17] O) (OkQ.then_ ?_))))))))
  refine AE.cond O (λhc1=>?_) (λhc1=>?_)
  ·replace hc1:=of_decide_eq_true hc1
   rw [Gr] at hc1
   have e1:a/b=0:=Nat.div_eq_of_lt hc1
   have e2:a%b=a:=Nat.mod_eq_of_lt hc1
   refine AE.seq (Ck [(0,true),(1,true),(2,false),(3,false),(4,true)] (sl (sl sr)) (Ao (v:=(aG (Ag 0))) O (AY (zs:=Ag 0) (vs:=Ag 0) (pv:=[]) (places:=[(0,1),(1,1)]) zeroValue58 underlying58 (λw=>by simp [sizeOf9,sizeOf56]) O (LX )) (G6 1 Cq O (OkE.imp O (Ed O sizeOf58 O (OkE.back (sl (sl sr)) (OkE.imp O (BN O sizeOf58 O (OkE.back (sl (sl sr)) (pS' O (OkE.nil ?_)))))))))))
   exact OkQ.subF (sL [2,3,4,5,6] O) (OkQ.then_ (AE.ret (OkQ.in_ret (OkQ.then_ret (Gx O (BP (i:=1) (cs:=Ag 0) O O isAgg58 sizeOf58 O) (BP (i:=0) (cs:=Ag a) O O isAgg58 sizeOf58 O) (Ah (v:=(Value.bool true)) O) (λw hw=>⟨by rw [e1,e2],hw.out⟩))))))
  ·replace hc1:=of_decide_eq_false hc1
   rw [Gr] at hc1
   have hba:nw b<=nw a:=Cu Z
   refine q4 (AJ (v:=(pP b1 1)) (AB O underlying58 O sizeOf9 O) O (BE 3 (Value.string (Bn a)) WU O (AJ (B_ (c:=(decide (a<18446744073709551616))) O O Cp) O (AI O (AC.nil (OkQ.subF (sL [2,3,4,5,6,24] O) (OkQ.then_ ?_)))))))
   refine AE.cond O (λhc2=>?_) (λhc2=>?_)
   ·replace hc2:=of_decide_eq_true hc2
    have la:CC a=a:=Bm hc2
    have lb:CC b=b:=Bm Z
    have q1:a/b<18446744073709551616:=Nat.lt_of_le_of_lt (Nat.div_le_self _ _) hc2
    have q2:a%b<18446744073709551616:=Nat.lt_of_le_of_lt (Nat.mod_le _ _) hc2
    refine AE.seq (Ck [(0,true),(1,true),(2,true),(3,true),(4,true),(5,true),(6,true),(7,true),(8,true),(9,true),(10,true),(11,true),(12,false),(13,false),(14,true)] (sl (sl sr)) (Ao (v:=(pP b1 0)) O (AB O underlying58 O sizeOf56 O) (Bk 1 (vK .u64 (CC a)) G_ O (Ao (v:=(pP b2 0)) O (AB O underlying58 O sizeOf56 O) (Bk 0 (vK .u64 (CC b)) G_ O (Ao O (Dm (c:=(((CC a)/(CC b):Nat):Int)) O O Z (Hs (a:=CC a) (b:=CC b) Z)) (Ao (v:=(aG ([(vK .u64 ((CC a)/(CC b))),(Value.string (Bn 0))]))) O (AY (zs:=Ag 0) (vs:=[(vK .u64 ((CC a)/(CC b))),(Value.string (Bn 0))]) (pv:=[(0,(vK .u64 ((CC a)/(CC b))))]) (places:=[(0,1),(1,1)]) zeroValue58 underlying58 (λw=>by simp [sizeOf9,sizeOf56]) O O) (Ao (v:=(pP b1 0)) O (AB O underlying58 O sizeOf56 O) (Bk 1 (vK .u64 (CC a)) G_ O (Ao (v:=(pP b2 0)) O (AB O underlying58 O sizeOf56 O) (Bk 0 (vK .u64 (CC b)) G_ O ?_)))))))))))
    refine Ao O (Bg (c:=(((CC a)%(CC b):Nat):Int)) O O Z (F3 (a:=CC a) (b:=CC b))) (Ao (v:=(aG ([(vK .u64 ((CC a)%(CC b))),(Value.string (Bn 0))]))) O (AY (zs:=Ag 0) (vs:=[(vK .u64 ((CC a)%(CC b))),(Value.string (Bn 0))]) (pv:=[(0,(vK .u64 ((CC a)%(CC b))))]) (places:=[(0,1),(1,1)]) zeroValue58 underlying58 (λw=>by simp [sizeOf9,sizeOf56]) O O) (OkE.imp O (Ed O sizeOf58 O (OkE.back (sl (sl sr)) (OkE.imp O (BN O sizeOf58 O (OkE.back (sl (sl sr)) (pS' O (OkE.nil (OkQ.subF (sL [2,3,4,5,6] O) (OkQ.then_ ?_)))))))))))
    exact AE.ret (OkQ.in_ret (OkQ.then_ret (Gx O (BP (i:=1) (cs:=[(vK .u64 ((CC a)/(CC b))),(Value.string (Bn 0))]) O O isAgg58 sizeOf58 O) (BP (i:=0) (cs:=[(vK .u64 ((CC a)%(CC b))),(Value.string (Bn 0))]) O O isAgg58 sizeOf58 O) (Ah (v:=(Value.bool true)) O) (λw hw=>⟨by rw [De q1,De q2,la,lb];rfl,hw.out⟩))))
   ·replace hc2:=of_decide_eq_false hc2
    refine AE.skip (OkQ.in_normal (q2 (BF 2 Cq O (AC.callB (V:=λb5=>(Value.slice (some ⟨b5,0,none⟩) (nw b) ((A8 b).length))) (T:=50) (cs:=Au (A8 b)) (AP O) (A_ (args:=[(aG (Ag b))]) O O call138) (λw hw=>DD b Z w) O (Ad O) λb5=>AI O (q6 (sL [2,3,4,5,6,7] O) (q4 (AM O (AJ (v:=(vN (nw b))) (AF O underlying224) O (AJ (BQ (c:=(decide ((nw b)=1))) O O (JC (a:=nw b) (b:=1))) O (AC.nil ?_))))))))))
    refine OkQ.subF (sL [2,3,4,5,6,7,44] O) (OkQ.then_ ?_)
    refine AE.cond O (λhc3=>?_) (λhc3=>?_)
    ·replace hc3:=of_decide_eq_true hc3
     obtain ⟨hy,hy2⟩:=W0 hc3
     refine AE.seq (Ck [(0,true),(2,true),(3,true),(4,true),(1,false),(5,false),(6,true),(7,true),(8,true),(9,true),(10,true)] sr (G6 4 Cq O (BT O (Ao (v:=(pP b5 0)) O (AO (j:=0) O O underlying224 sizeOf50 O Z O) ?_))))
     have hx1:(A8 b).getD 0 0<4294967296:=W32.getD (CS b) 0
     refine Ao O (AS (i:=0) (v:=(vK .u32 ((A8 b).getD 0 0))) O O isAgg50 (BO (xs:=A8 b) (j:=0) Z)) (OkE.imp O (AC.callB (V:=λb6=>(Value.slice (some ⟨b6,0,none⟩) (nw a) ((A8 a).length))) (T:=50) (cs:=Au (A8 a)) (AP O) (A_ (args:=[(aG (Ag a))]) O O call138) (λw hw=>DD a Z w) O (Ad O) λb6=>OkE.back (sl sr) (OkE.imp O (AC.callB (V:=λb7=>(Value.tuple #[(Value.slice (some ⟨b7,0,none⟩) (nw a) (nw a)),(vK .u32 (a%((A8 b).getD 0 0)))])) (T:=50) (cs:=Au (Cg (nw a) (a/((A8 b).getD 0 0)))) (AP O) (A_ (args:=[(Value.slice (some ⟨b6,0,none⟩) (nw a) ((A8 a).length)),(vK .u32 ((A8 b).getD 0 0))]) O O call139) (λw hw=>VV a ((A8 b).getD 0 0) _ _ Z Z Z w (hw.get (i:=0) O)) O (Ad O) λb7=>OkE.back (sl (sl sr)) (BT O (Ao O (Ab (v:=(Value.slice (some ⟨b7,0,none⟩) (nw a) (nw a))) O O) (Ao O (Ab (v:=(vK .u32 (a%((A8 b).getD 0 0)))) O O) (pS' O (pS' O ?_)))))))))
     refine OkE.nil (OkQ.subF (sL [2,3,4,5,6,7,8,9] O) (q2 (AM O (DS call140 (λw hw=>JH _ (nw a) (nw a) (Cg (nw a) (a/((A8 b).getD 0 0))) (Dz _ _) (by first|omega|(rw [Bh];omega)|simp|(simp;omega)) (by first|omega|simp|(simp;omega)) (by first|omega|simp|(simp;omega)) w (hw.get (i:=0) O)) O (AC.retell (k:=55) (u:=(aG (Ag (a/b)))) O (by rw [hy,FO (Nat.lt_of_le_of_lt (Nat.div_le_self _ _) (Bz a))]) (AM O ?_))))))
     have hmb:a%(A8 b).getD 0 0<4294967296:=by rw [hy];exact Nat.lt_of_lt_of_le (Nat.mod_lt _ Z) Z
     exact AJ (Ax (c:=((a%((A8 b).getD 0 0):Nat):Int)) O underlying50 underlying56 (BW Z)) O (AJ (v:=(aG ([(vK .u64 (a%((A8 b).getD 0 0))),(Value.string (Bn 0))]))) (AY (zs:=Ag 0) (vs:=[(vK .u64 (a%((A8 b).getD 0 0))),(Value.string (Bn 0))]) (pv:=[(0,(vK .u64 (a%((A8 b).getD 0 0))))]) (places:=[(0,1),(1,1)]) zeroValue58 underlying58 (λw=>by simp [sizeOf9,sizeOf56]) O O) O (AC.retell (k:=58) (u:=(aG (Ag (a%b)))) O (by rw [hy] at hmb ⊢;rw [De Z];rfl) (F2 4 (off:=0) (vs:=Ag (a/b)) (cs':=Ag (a/b)) (AP O) O sizeOf58 O (Nx O sizeOf58 O (AI O (AC.nil (OkQ.subF (sL [2,3,4,5,6,7] O) (OkQ.then_ (AE.ret (OkQ.then_ret (Gx O (BP (i:=4) (cs:=Ag (a/b)) O O isAgg58 sizeOf58 O) (BP (i:=3) (cs:=Ag (a%b)) O O isAgg58 sizeOf58 O) (Ah (v:=(Value.bool true)) O) (λw hw=>⟨rfl,hw.out⟩))))))))))))
    ·replace hc3:=of_decide_eq_false hc3
     refine AE.skip (q2 (BF 4 Cq O (AC.callB (V:=λb6=>(Value.slice (some ⟨b6,0,none⟩) (nw a) ((A8 a).length))) (T:=50) (cs:=Au (A8 a)) (AP O) (A_ (args:=[(aG (Ag a))]) O O call138) (λw hw=>DD a Z w) O (Ad O) λb6=>AM O (AC.callBB (V:=λb7 b8=>(Value.tuple #[(Value.slice (some ⟨b7,0,none⟩) (nw a+1-nw b) (nw a+1-nw b)),(Value.slice (some ⟨b8,0,none⟩) (nw a+1) (nw a+1))])) (T:=50) (cs:=Au (Cg (nw a+1-nw b) (a/b))) (T2:=50) (cs2:=Au (Cg (nw a+1) (a%b))) (AP O) (A_ (args:=[(Value.slice (some ⟨b6,0,none⟩) (nw a) ((A8 a).length)),(Value.slice (some ⟨b5,0,none⟩) (nw b) ((A8 b).length))]) O O call141) (λw hw=>W4 a b _ _ _ _ Z Z Z w (hw.get (i:=0) O) (hw.get (i:=1) O)) O (Ad O) λb7 b8=>AM O (AJ (Ab (v:=(Value.slice (some ⟨b7,0,none⟩) (nw a+1-nw b) (nw a+1-nw b))) O O) O (AJ (Ab (v:=(Value.slice (some ⟨b8,0,none⟩) (nw a+1) (nw a+1))) O O) O (AI O (AI O (q3 (sL [2,3,4,5,6,7,10,11] O) ?_)))))))))
     refine AM O (DS call140 (λw hw=>JH _ (nw a+1-nw b) (nw a+1-nw b) (Cg (nw a+1-nw b) (a/b)) (Dz _ _) (by first|omega|(rw [Bh];omega)|simp|(simp;omega)) (by first|omega|simp|(simp;omega)) (by first|omega|simp|(simp;omega)) w (hw.get (i:=0) O)) O (AC.retell (k:=67) (u:=(aG (Ag (a/b)))) O (by rw [FO (SU Z hba)]) (AM O (DS call140 (λw hw=>JH _ (nw a+1) (nw a+1) (Cg (nw a+1) (a%b)) (Dz _ _) (by first|omega|(rw [Bh];omega)|simp|(simp;omega)) (by first|omega|simp|(simp;omega)) (by first|omega|simp|(simp;omega)) w (hw.get (i:=1) O)) O (AC.retell (k:=69) (u:=(aG (Ag (a%b)))) O (by rw [FO SO]) (F2 5 (off:=0) (vs:=Ag (a/b)) (cs':=Ag (a/b)) (AP O) O sizeOf58 O (F2 4 (off:=0) (vs:=Ag (a%b)) (cs':=Ag (a%b)) (AP O) O sizeOf58 O (AI O (AC.nil (OkQ.subF (sL [2,3,4,5,6,7] O) (OkQ.then_ ?_)))))))))))
     exact AE.ret (Gx O (BP (i:=5) (cs:=Ag (a/b)) O O isAgg58 sizeOf58 O) (BP (i:=4) (cs:=Ag (a%b)) O O isAgg58 sizeOf58 O) (Ah (v:=(Value.bool true)) O) (λw hw=>⟨rfl,hw.out⟩))
theorem ZK (a b:Nat) (ha:nw a<=1099511627776) (hb:nw b<=1099511627776) (w:World)  :Calls prog 111 #[(aG (Ag a)),(aG (Ag b))] w (A9 w (aG (Ag (Nat.gcd a b)))):=by
 refine Aq (args:=[(aG (Ag a)),(aG (Ag b))]) func111 O O (Ad O) (AE.subF (sL [0,1] O) (q4 (Ca (cs:=Ag a) O λb1=>Ca (cs:=Ag b) O λb2=>al GS O λb3=>q6 (sL [2,3,4] O) (AE.block ?_))))
 refine AE.lp2 (tg λ(x:Nat) (y:Nat)=>Nat.gcd x y=Nat.gcd a b/\nw x<=1099511627776/\nw y<=1099511627776) (tg λ(x:Nat) (y:Nat)=>[(2,(pP b1 0)),(3,(pP b2 0)),(4,(pP b3 0))]) (tg λ(x:Nat) (y:Nat)=>[Af b3 58 (Ag 0),Af b2 58 (Ag y),Af b1 58 (Ag x)]) (tg λ(x:Nat) (y:Nat)=>y) a b (⟨rfl,ha,hb⟩) (sF O) sr (λx y hJ=>?_)
 obtain ⟨hg,hx,hy⟩:=hJ
 refine AE.seq (q4 (BF 1 Cq O (ck' call136 (RN y) O (AJ (Bj (c:=(!(decide (y=0)))) O O) O (AC.nil (OkQ.subF (sL [2,3,4,10] O) (OkQ.then_ ?_)))))))
 refine AE.cond O (λhc0=>?_) (λhc0=>?_)
 ·simp only [Bool.and_eq_true,Bool.or_eq_true,Bool.and_eq_false_iff,Bool.or_eq_false_iff,Bool.not_eq_true',Bool.not_eq_false',decide_eq_true_eq,decide_eq_false_iff_not] at hc0
  refine AE.skip (OkQ.then_ (AE.block (q4 (BF 2 Cq O (BF 1 Cq O (ck' call112 (QE x y Z Z Z) O (AM O (AJ (Ab (v:=(aG (Ag (x/y)))) O O) O (AJ (Ab (v:=(aG (Ag (x%y)))) O O) O (AJ (Ab (v:=(Value.bool true)) O O) O (al GS O λb4=>?_)))))))))))
  refine al GS O λb5=>Ed O sizeOf58 O (BN O sizeOf58 O (AI O (AC.nil (OkQ.subF (sL [2,3,4,6] O) (OkQ.then_ (Ck [(1,true),(0,false),(2,false),(3,false)] (sk (sk (sk (sl (sl sr))))) (G6 0 Cq O (OkE.imp O (BF 3 Cq O (OkE.back (sk (sk (sk (sl (sl sr))))) ?_))))))))))
  exact OkE.imp O (F2 4 (off:=0) (vs:=Ag y) (cs':=Ag y) (AP O) O sizeOf58 O (OkE.back (sk (sk (sk (sl (sl sr))))) (OkE.imp O (Nx O sizeOf58 O (OkE.back (sk (sk (sk (sl (sl sr))))) (OkE.nil (OkQ.subF (sL [2,3,4,6] O) (OkQ.in_normal (OkQ.round2 y (x%y) (⟨by rw [<-hg,Nat.gcd_comm x y,Nat.gcd_rec y x,Nat.gcd_comm],hy,Nat.le_trans (Cu (Nat.mod_le _ _)) hx⟩) (Nat.mod_lt _ Z) (sF O) (sl (sl sr)))))))))))
 ·simp only [Bool.and_eq_true,Bool.or_eq_true,Bool.and_eq_false_iff,Bool.or_eq_false_iff,Bool.not_eq_true',Bool.not_eq_false',decide_eq_true_eq,decide_eq_false_iff_not] at hc0
  have hy0:y=0:=by omega
  have hxg:x=Nat.gcd a b:=by rw [<-hg,hy0,Nat.gcd_zero_right]
  exact AE.exit (OkQ.then_exit (OkQ.round2_exit (OkQ.in_exit (q2 (BF 2 Cq O (BN O sizeOf58 O (AC.nil (OkQ.subF (sL [2,3,4] O) (OkQ.then_ (AE.ret (AV O (BP (i:=0) (cs:=Ag x) O O isAgg58 sizeOf58 O) (λw hw=>⟨by rw [hxg],hw.out⟩))))))))))))
end
def E_ (neg:Bool) (n:Nat):Int:=if neg then -(n:Int) else (n:Int)
theorem Us (n:Nat):Bi (E_ true n)=Ag n++[.bool (!(decide (n=0)))]:=by
  simp only [Bi,Ag,E_,if_true,Int.natAbs_neg,Int.natAbs_natCast,List.cons_append,List.nil_append]
  have e:decide (-(n:Int)<0)=!(decide (n=0)):=by
    by_cases h:n=0
    · subst h;rfl
    · simp [h];omega
  rw [e]
theorem Tw (n:Nat):Bi (E_ false n)=Ag n++[.bool false]:=by
  simp only [Bi,Ag,E_,Int.natAbs_natCast,List.cons_append,List.nil_append]
  have e:decide ((n:Int)<0)=false:=by simp
  simp [e]
theorem Up (D a b:Nat):IK prog (D+3) 60 (.agg (Ag a).toArray) (.agg (Ag b).toArray) (decide (a=b)):=by
  have h:=IK.struct (D:=D+2) (xs:=Ag a) (ys:=Ag b) underlying60 Tryz.stoodInHeld60 (Ni.agg (us:=Ag a) (bs:=Ag b) (by decide) isAgg58 sizeOf58 rfl rfl (Mw D a b) Ni.nil)
  simpa using h
theorem B5 (neg:Bool) (n:Nat):(E_ neg n).natAbs=n:=by cases neg<;>simp [E_]
theorem Rh (a b:Int):E_ (!(decide (a<0) == decide (b<0))) (a.natAbs*b.natAbs)=a*b:=by
  rw [<-Int.natAbs_mul]
  unfold E_
  by_cases h:a<0<;>by_cases h':b<0
  · have:=Int.mul_pos_of_neg_of_neg h h';simp [h,h'];omega
  · have:a*b<=0:=Int.mul_nonpos_of_nonpos_of_nonneg Z Z
    simp [h,h'];omega
  · have:a*b<=0:=Int.mul_nonpos_of_nonneg_of_nonpos Z Z
    simp [h,h'];omega
  · have:0<=a*b:=Int.mul_nonneg Z Z
    simp [h,h'];omega
theorem dU {z:Int} (h:z<0) (h2:-9223372036854775808<=z):IntKind.u64.wrap (-(IntKind.u64.wrap z))=((z.natAbs:Nat):Int):=by
  simp only [IntKind.wrap,IntKind.bits,IntKind.signed];simp;omega
theorem GX {z:Int} (h:z<0):E_ true z.natAbs=z:=by unfold E_;simp;omega
theorem MY {z:Int} (h:¬z<0):E_ false z.natAbs=z:=by unfold E_;simp;omega
section
set_option maxRecDepth 100000
theorem LT  :Instr.fill ([(0,2)].toArray[·]?) (Ag 0).toArray []=some (Ag 0).toArray:=by kernel_rfl
theorem H9 (n:Nat) (w:World)  :Calls prog 109 #[(aG (Ag n))] w (A9 w (Value.bool (decide (n=0)))):=by
 refine Aq (args:=[(aG (Ag n))]) func109 O O (Ad O) (AE.subF (sL [0] O) (q4 (Ca (cs:=Ag n) O λb1=>AI O (q3 (sL [1,2] O) (BF 0 Sk O (AJ (v:=(aG (Ag 0))) (AY (zs:=Ag 0) (vs:=Ag 0) (pv:=[]) (places:=[(0,2)]) zeroValue60 underlying60 (λw=>by simp [sizeOf58]) O (LT )) O (AJ (DK (c:=(decide (n=0))) O O eqGuardType60 (Up 9997 n 0)) O (AI O (AC.nil (OkQ.subF (sL [2] O) ?_))))))))))
 exact OkQ.then_ (AE.ret (AV O (Ah (v:=(Value.bool (decide (n=0)))) O) (λw hw=>⟨rfl,hw.out⟩)))
theorem Et (x0:Nat):Instr.fill ([(0,2)].toArray[·]?) (Ag 0).toArray [(0,.agg (Ag x0).toArray)]=some (Ag x0).toArray:=by kernel_rfl
theorem S5 (n:Nat) (w:World)  :Calls prog 89 #[(Value.bool true),(aG (Ag n))] w (A9 w (aG (Bi (E_ true n)))):=by
 refine Aq (args:=[(Value.bool true),(aG (Ag n))]) func89 O O (Ad O) (AE.subF (sL [0,1] O) (q4 (Ca (cs:=Ag n) O λb1=>al Sr O λb2=>q3 (sL [0,3,4] O) (BF 1 Cq O (AJ (v:=(aG (Ag n))) (AY (zs:=Ag 0) (vs:=Ag n) (pv:=[(0,(aG (Ag n)))]) (places:=[(0,2)]) zeroValue60 underlying60 (λw=>by simp [sizeOf58]) O (Et n)) O (al br O λb3=>BN O sizeOf60 O (q6 (sL [0,4,5] O) (Ck [(0,true),(1,true),(2,true),(3,true),(4,false),(5,true),(6,true),(7,true),(8,false)] (sk (sl sr)) ?_))))))))
 refine G6 0 Sk O (BT O (BT O (OkE.pas (v:=(aG (Ag n))) O (AA O) (BB (i:=0) (vs:=Ag n) O O Sk.a Sk.s O O) O O (OkE.imp O (AC.call (v:=(Value.bool (decide (n=0)))) (AA O) (A_ (args:=[(aG (Ag n))]) O O call109) (λw hw=>H9 n w) O (Ad O) (OkE.back (sk (sl sr)) (OkE.pas (v:=(Value.bool (!(decide (n=0))))) O (AA O) (Bj (c:=(!(decide (n=0)))) O O) O O (Ao (v:=(Value.bool (!(decide (n=0))))) O (AW O O) (Ao (v:=(aG (Ag n++[(Value.bool (!(decide (n=0))))]))) O (AY (zs:=Bi 0) (vs:=Ag n++[(Value.bool (!(decide (n=0))))]) (pv:=[(0,(aG (Ag n))),(1,(Value.bool (!(decide (n=0)))))]) (places:=[(0,2),(2,1)]) zeroValue62 underlying62 (λw=>by simp [sizeOf4,sizeOf60]) O O) (OkE.imp O (Ed O sizeOf62 O ?_)))))))))))
 exact OkE.back (sk (sl sr)) (OkE.nil (OkQ.subF (sL [4,5] O) (OkQ.then_ (AE.ret (AV O (BP (i:=1) (cs:=Ag n++[(Value.bool (!(decide (n=0))))]) O O isAgg62 sizeOf62 O) (λw hw=>⟨by rw [Us],hw.out⟩))))))
theorem P4 (n:Nat) (w:World)  :Calls prog 89 #[(Value.bool false),(aG (Ag n))] w (A9 w (aG (Bi (E_ false n)))):=by
 refine Aq (args:=[(Value.bool false),(aG (Ag n))]) func89 O O (Ad O) (AE.subF (sL [0,1] O) (q4 (Ca (cs:=Ag n) O λb1=>al Sr O λb2=>q3 (sL [0,3,4] O) (BF 1 Cq O (AJ (v:=(aG (Ag n))) (AY (zs:=Ag 0) (vs:=Ag n) (pv:=[(0,(aG (Ag n)))]) (places:=[(0,2)]) zeroValue60 underlying60 (λw=>by simp [sizeOf58]) O (Et n)) O (al br O λb3=>BN O sizeOf60 O (q6 (sL [0,4,5] O) (Ck [(0,true),(1,true),(2,true),(3,true),(4,false),(5,true),(6,true),(7,true),(8,false)] (sk (sl sr)) ?_))))))))
 refine G6 0 Sk O (BT O (BT O (OkE.skp O (AH O) O O (OkE.imp O (AC.skip (AH O) O (Ad O) (OkE.back (sk (sl sr)) (OkE.skp O (AH O) O O (Ao (v:=(Value.bool false)) O (AT O O) (Ao (v:=(aG (Ag n++[(Value.bool false)]))) O (AY (zs:=Bi 0) (vs:=Ag n++[(Value.bool false)]) (pv:=[(0,(aG (Ag n))),(1,(Value.bool false))]) (places:=[(0,2),(2,1)]) zeroValue62 underlying62 (λw=>by simp [sizeOf4,sizeOf60]) O O) (OkE.imp O (Ed O sizeOf62 O ?_)))))))))))
 exact OkE.back (sk (sl sr)) (OkE.nil (OkQ.subF (sL [4,5] O) (OkQ.then_ (AE.ret (AV O (BP (i:=1) (cs:=Ag n++[(Value.bool false)]) O O isAgg62 sizeOf62 O) (λw hw=>⟨by rw [Tw],hw.out⟩))))))
theorem H4 (neg:Bool) (n:Nat) (w:World):Calls prog 89 #[.bool neg,.agg (Ag n).toArray] w (A9 w (.agg (Bi (E_ neg n)).toArray)):=by
 cases neg
 ·exact P4 n w
 ·exact S5 n w
theorem Z7 (z:Int) (hz:-9223372036854775808<=z) (hz2:z<9223372036854775808) (w:World)  :Calls prog 66 #[(vI z)] w (A9 w (aG (Bi z))):=by
 refine Aq (args:=[(vI z)]) func66 O O (Ad O) (AE.subF (sL [0] O) (q4 (al Sr O λb1=>AC.nil (q1 (q4 (AM O (AJ (Ac (c:=(decide (z<(0:Int)))) O O O) O (AC.nil (OkQ.subF (sL [0,2,4] O) (OkQ.then_ ?_))))))))))
 refine AE.cond O (λhc0=>?_) (λhc0=>?_)
 ·replace hc0:=of_decide_eq_true hc0
  have he:=GX hc0
  exact q4 (AM O (AJ (Ax (c:=(IntKind.u64.wrap z)) O underlying2 underlying56 (rfl)) O (AJ (Ig (c:=((z.natAbs:Nat):Int)) O (by rw [Int.zero_sub];exact dU hc0 hz)) O (ck' call90 (Jy z.natAbs Z) O (ck' call89 (H4 true z.natAbs) O (BN O sizeOf62 O (AC.nil (OkQ.subF (sL [0,2] O) (OkQ.then_ (AE.ret (OkQ.then_ret (AV O (BP (i:=0) (cs:=Bi (E_ true z.natAbs)) O O isAgg62 sizeOf62 O) (λw hw=>⟨by rw [he],hw.out⟩)))))))))))))
 ·replace hc0:=of_decide_eq_false hc0
  have he:=MY hc0
  exact AE.skip (q2 (AM O (AJ (Ax (c:=((z.natAbs:Nat):Int)) O underlying2 underlying56 (by rw [DE Z Z];omega)) O (ck' call90 (Jy z.natAbs Z) O (ck' call89 (H4 false z.natAbs) O (BN O sizeOf62 O (AC.nil (OkQ.subF (sL [0,2] O) (OkQ.then_ (AE.ret (AV O (BP (i:=0) (cs:=Bi (E_ false z.natAbs)) O O isAgg62 sizeOf62 O) (λw hw=>⟨by rw [he],hw.out⟩))))))))))))
theorem NQ (a:Int) (w:World)  :Calls prog 94 #[(aG (Bi a))] w (A9 w (aG (Ag a.natAbs))):=by
 refine Aq (args:=[(aG (Bi a))]) func94 O O (Ad O) (AE.subF (sL [0] O) (q4 (Ca (cs:=Bi a) O λb1=>al GS O λb2=>q3 (sL [1,2] O) (AJ (v:=(pP b1 0)) (AB O underlying62 O sizeOf60 O) O (AJ (v:=(pP b1 0)) (AB O underlying60 O sizeOf58 O) O (Pi 1 (Ag a.natAbs) Cq O (BN O sizeOf58 O (AC.nil (OkQ.subF (sL [2] O) ?_)))))))))
 exact OkQ.then_ (AE.ret (AV O (BP (i:=0) (cs:=Ag a.natAbs) O O isAgg58 sizeOf58 O) (λw hw=>⟨rfl,hw.out⟩)))
theorem Oe (a:Int) (w:World)  :Calls prog 110 #[(aG (Bi a))] w (A9 w (vI a.sign)):=by
 refine Aq (args:=[(aG (Bi a))]) func110 O O (Ad O) (AE.subF (sL [0] O) (q4 (Ca (cs:=Bi a) O λb1=>AI O (q6 (sL [1,2] O) (AE.block (q4 (AJ (v:=(pP b1 0)) (AB O underlying62 O sizeOf60 O) O (Pi 0 (Ag a.natAbs) Sk O (ck' call109 (H9 a.natAbs) O (AI O ?_))))))))))
 refine AC.nil (OkQ.subF (sL [1,2,3] O) (OkQ.then_ ?_))
 refine AE.cond O (λhc0=>?_) (λhc0=>?_)
 ·replace hc0:=of_decide_eq_true hc0
  have he:a.sign=0:=by rw [show a=0 by omega];rfl
  exact q4 (AI O (AC.nil (OkQ.then_ (AE.ret (OkQ.in_ret (OkQ.then_ret (AV O (Ah (v:=(vI 0)) O) (λw hw=>⟨by rw [he],hw.out⟩))))))))
 ·replace hc0:=of_decide_eq_false hc0
  refine q4 (AJ (v:=(pP b1 2)) (AB O underlying62 O sizeOf4 O) O (BE 0 (Value.bool (decide (a<0))) PM O (AI O (AC.nil (OkQ.subF (sL [1,2,7] O) (OkQ.then_ ?_))))))
  refine AE.cond O (λhc1=>?_) (λhc1=>?_)
  ·replace hc1:=of_decide_eq_true hc1
   have he:a.sign = -1:=Int.sign_eq_neg_one_of_neg hc1
   exact q4 (AI O (AC.nil (OkQ.then_ (AE.ret (OkQ.in_ret (OkQ.then_ret (AV O (Ah (v:=(vI (-1:Int))) O) (λw hw=>⟨by rw [he],hw.out⟩))))))))
  ·replace hc1:=of_decide_eq_false hc1
   have he:a.sign=1:=Int.sign_eq_one_of_pos Z
   exact AE.skip (OkQ.in_normal (q2 (AI O (AC.nil (OkQ.then_ (AE.ret (AV O (Ah (v:=(vI 1)) O) (λw hw=>⟨by rw [he],hw.out⟩))))))))
theorem Wl (a b:Int) (ha:nw a.natAbs<=1099511627776) (hb:nw b.natAbs<=1099511627776) (w:World)  :Calls prog 146 #[(aG (Bi a)),(aG (Bi b))] w (A9 w (aG (Bi (a*b)))):=by
 refine Aq (args:=[(aG (Bi a)),(aG (Bi b))]) func146 O O (Ad O) (AE.subF (sL [0,1] O) (q4 (Ca (cs:=Bi a) O λb1=>Ca (cs:=Bi b) O λb2=>al Sr O λb3=>q6 (sL [2,3,4] O) (Ck [(0,true),(1,true),(2,true),(3,true),(4,true),(5,true),(6,true),(7,true),(8,true),(9,true),(10,true),(11,false),(12,false),(13,false)] (sl sr) (Ao (v:=(pP b1 2)) O (AB O underlying62 O sizeOf4 O) (Bk 1 (Value.bool (decide (a<0))) PM O (Ao (v:=(pP b2 2)) O (AB O underlying62 O sizeOf4 O) (Bk 0 (Value.bool (decide (b<0))) PM O ?_))))))))
 refine Ao O (GA (c:=(!(decide (a<0) == decide (b<0)))) O O underlying4 O) (Ao (v:=(pP b1 0)) O (AB O underlying62 O sizeOf60 O) (Ao (v:=(pP b1 0)) O (AB O underlying60 O sizeOf58 O) (Tu 1 (Ag a.natAbs) Cq O (Ao (v:=(pP b2 0)) O (AB O underlying62 O sizeOf60 O) (Ao (v:=(pP b2 0)) O (AB O underlying60 O sizeOf58 O) (Tu 0 (Ag b.natAbs) Cq O (OkE.imp O (ck' call117 (WL a.natAbs b.natAbs Z Z) O (OkE.back (sl sr) (OkE.imp O (ck' call89 (H4 (!(decide (a<0) == decide (b<0))) (a.natAbs*b.natAbs)) O ?_)))))))))))
 exact OkE.back (sl sr) (OkE.imp O (BN O sizeOf62 O (OkE.back (sl sr) (OkE.nil (OkQ.subF (sL [4] O) (OkQ.then_ (AE.ret (AV O (BP (i:=0) (cs:=Bi (E_ (!(decide (a<0) == decide (b<0))) (a.natAbs*b.natAbs))) O O isAgg62 sizeOf62 O) (λw hw=>⟨by rw [Rh],hw.out⟩)))))))))
theorem Lg (a b:Int) (ha:nw a.natAbs<=1099511627776) (hb:nw b.natAbs<=1099511627776) (w:World)  :Calls prog 145 #[(Value.func (.func 146) #[] #[]),(aG (Bi a)),(aG (Bi b))] w (A9 w (aG (Bi (a*b)))):=by
 refine Aq (args:=[(Value.func (.func 146) #[] #[]),(aG (Bi a)),(aG (Bi b))]) func145 O O (Ad O) (AE.subF (sL [0,1,2] O) (q4 (Ca (cs:=Bi a) O λb1=>Ca (cs:=Bi b) O λb2=>al Sr O λb3=>q3 (sL [0,4,5,6] O) (AM O (BF 2 Hw O (BF 1 Hw O (ck' call146 (Wl a b (by first|omega|(simp only [Int.natAbs_neg,B5,Int.natAbs_natCast];omega)) (by first|omega|(simp only [Int.natAbs_neg,B5,Int.natAbs_natCast];omega))) O (BN O sizeOf62 O ?_))))))))
 exact AC.nil (OkQ.subF (sL [6] O) (OkQ.then_ (AE.ret (AV O (BP (i:=0) (cs:=Bi (a*b)) O O isAgg62 sizeOf62 O) (λw hw=>⟨rfl,hw.out⟩)))))
theorem RJ (a b:Int) (ha:nw a.natAbs<=1099511627776) (hb:nw b.natAbs<=1099511627776) (w:World)  :Calls prog 116 #[(aG (Bi a)),(aG (Bi b))] w (A9 w (aG (Bi (a*b)))):=by
 refine Aq (args:=[(aG (Bi a)),(aG (Bi b))]) func116 O O (Ad O) (AE.subF (sL [0,1] O) (q4 (Ca (cs:=Bi a) O λb1=>Ca (cs:=Bi b) O λb2=>al Sr O λb3=>q3 (sL [2,3,4] O) (BF 2 Hw O (BF 1 Hw O (ck' call145 (Lg a b (by first|omega|(simp only [Int.natAbs_neg,B5,Int.natAbs_natCast];omega)) (by first|omega|(simp only [Int.natAbs_neg,B5,Int.natAbs_natCast];omega))) O (BN O sizeOf62 O (AC.nil ?_))))))))
 exact OkQ.subF (sL [4] O) (OkQ.then_ (AE.ret (AV O (BP (i:=0) (cs:=Bi (a*b)) O O isAgg62 sizeOf62 O) (λw hw=>⟨rfl,hw.out⟩))))
end
def Sz (q:Rat):Nat:=max (nw q.num.natAbs) (nw q.den)
theorem D_ (q:Rat):nw q.num.natAbs<=Sz q:=Nat.le_max_left ..
theorem Dd (q:Rat):nw q.den<=Sz q:=Nat.le_max_right ..
theorem Hy (q:Rat):nw (q.den-1)<=Sz q:=Nat.le_trans (Cu (Nat.sub_le _ _)) (Dd q)
theorem Ys {q:Rat} {k:Nat} (h1:nw q.num.natAbs<=k) (h2:nw q.den<=k):Sz q<=k:=Nat.max_le.2 ⟨h1,h2⟩
theorem Ii:nw 1=1:=by decide
theorem PR (q:Rat):1<=Sz q:=Nat.le_trans (by rw [<-Ii];exact Cu q.den_pos) (Dd q)
theorem OD {n:Int} {d k:Nat} (h1:nw n.natAbs<=k) (h2:nw d<=k) (hk:1<=k):Sz (mkRat n d)<=k:=by
  refine Ys ?_ ?_
  · rw [Rat.num_mkRat]
    split
    · exact Nat.zero_le _
    · refine Nat.le_trans (Cu ?_) h1
      rw [Int.natAbs_ediv_of_dvd (by rw [Int.ofNat_dvd_left];exact Nat.gcd_dvd_right ..)]
      exact Nat.div_le_self _ _
  · rw [Rat.den_mkRat]
    split
    · rw [Ii];exact hk
    · exact Nat.le_trans (Cu (Nat.div_le_self _ _)) h2
theorem RY (a b:Int):nw (a*b).natAbs<=nw a.natAbs+nw b.natAbs:=by rw [Int.natAbs_mul];exact VY _ _
theorem Gu (a b:Int):nw (a+b).natAbs<=max (nw a.natAbs) (nw b.natAbs)+1:=Nat.le_trans (Cu (Int.natAbs_add_le a b)) (aA _ _)
theorem EI (a b:Rat):nw (a.num*((b.den:Nat):Int)).natAbs<=Sz a+Sz b:=by
  have h1:=RY a.num ((b.den:Nat):Int)
  have h2:=D_ a
  have h3:=Dd b
  rw [Int.natAbs_natCast] at h1
  omega
theorem Ko (a b:Rat):nw (a.den*b.den)<=Sz a+Sz b:=by
  have h1:=VY a.den b.den
  have h2:=Dd a
  have h3:=Dd b
  omega
theorem Kf (a b:Rat):nw (a.num*b.num).natAbs<=Sz a+Sz b:=by
  have h1:=RY a.num b.num
  have h2:=D_ a
  have h3:=D_ b
  omega
theorem Iq (a b:Rat):mkRat (a.num*b.num) (a.den*b.den)=a*b:=by rw [Rat.mul_def,Rat.normalize_eq_mkRat]
theorem O5 {a:Rat} (h:a.den-1=0):a=((a.num:Int):Rat):=by
  have h1:a.den=1:=by have:=a.den_pos;omega
  exact Rat.ext O h1
theorem TI {a b:Rat} (ha:a.den-1=0) (hb:b.den-1=0):((a.num*b.num:Int):Rat)=a*b:=by
  rw [Rat.intCast_mul,<-O5 ha,<-O5 hb]
theorem P7 (a b:Rat):Sz (a*b)<=Sz a+Sz b:=by
  rw [<-Iq]
  have:=PR a
  exact OD (Kf a b) (Ko a b) Z
theorem Qb (a:Rat):Sz (-a)=Sz a:=by unfold Sz;rw [Rat.neg_num,Rat.neg_den,Int.natAbs_neg]
theorem Ij {b:Rat} (h:b≠0):mkRat (E_ (decide (b.num.sign<0)) b.den) b.num.natAbs=b⁻¹:=by
  have hn:b.num≠0:=λe=>h (Rat.num_eq_zero.1 e)
  have hb:b=(b.num:Rat)/((b.den:Nat):Rat):=by rw [<-Rat.mkRat_eq_div,Rat.mkRat_self]
  have hd:((b.den:Nat):Rat)≠0:=by
    intro e
    have:=b.den_pos
    have h2:b.den=0:=by exact_mod_cast e
    omega
  have hn2:((b.num:Int):Rat)≠0:=by
    intro e
    exact hn (by exact_mod_cast e)
  rw [Rat.mkRat_eq_div]
  conv=>rhs;rw [hb]
  by_cases hs:b.num<0
  · have e1:decide (b.num.sign<0)=true:=by simp [Int.sign_eq_neg_one_of_neg hs]
    have e2:((b.num.natAbs:Nat):Rat) = -((b.num:Int):Rat):=by
      have:((b.num.natAbs:Nat):Int) = -b.num:=by omega
      rw [<-Rat.intCast_natCast,this,Rat.intCast_neg]
    rw [e1,e2]
    simp only [E_,if_true,Rat.intCast_neg,Rat.intCast_natCast]
    grind
  · have e1:decide (b.num.sign<0)=false:=by
      have:0<=b.num.sign:=Int.sign_nonneg_iff.2 Z
      exact decide_eq_false Z
    have e2:((b.num.natAbs:Nat):Rat)=((b.num:Int):Rat):=by
      have:((b.num.natAbs:Nat):Int)=b.num:=by omega
      rw [<-Rat.intCast_natCast,this]
    rw [e1,e2]
    simp only [E_,Bool.false_eq_true,if_false,Rat.intCast_natCast]
    grind
theorem Pv {b:Rat} (h:b≠0):Sz b⁻¹<=Sz b:=by
  rw [<-Ij h]
  exact OD (by rw [B5];exact Dd b) (D_ b) (PR b)
theorem QV {a b:Rat} (h:b≠0):Sz (a/b)<=Sz a+Sz b:=by
  rw [Rat.div_def]
  have h1:=P7 a b⁻¹
  have h2:=Pv h
  omega
theorem OQ (q:Rat):BM q=Bi q.num++Ag (q.den-1):=rfl
theorem R8 {n:Int} {d:Nat} (hd:d≠0):(mkRat n d).num=E_ (decide (n.sign<0)) (n.natAbs/Nat.gcd n.natAbs d):=by
  rw [Rat.num_mkRat,if_neg hd,Nat.gcd_comm]
  unfold E_
  by_cases h:n<0
  · rw [Int.sign_eq_neg_one_of_neg h]
    have e:n = -((n.natAbs:Nat):Int):=by omega
    simp only [show decide ((-1:Int)<0)=true from rfl,if_true]
    conv=>lhs;rw [e]
    rw [Int.natAbs_neg,Int.natAbs_natCast,Int.neg_ediv_of_dvd (by rw [Int.natCast_dvd_natCast];exact Nat.gcd_dvd_left ..)]
    rfl
  · have h0:0<=n.sign:=Int.sign_nonneg_iff.2 Z
    have e:n=((n.natAbs:Nat):Int):=by omega
    rw [if_neg (by simp;omega)]
    conv=>lhs;rw [e]
    rw [Int.natAbs_natCast]
    rfl
theorem Q7 {n:Int} {d:Nat} (hd:d≠0):(mkRat n d).den=d/Nat.gcd n.natAbs d:=by rw [Rat.den_mkRat,if_neg hd,Nat.gcd_comm]
end Go.Proofs.YtpgncndhhhllfaaGreat
