import Derived.Test.YtpolhpjiahbidaaGreatDoorPart05
import Derived.Test.YtpolhpjiahbidaaGreatDoorPart14
import Derived.Test.YtpolhpjiahbidaaGreatDoorPart15
namespace Go.Proofs.YtpolhpjiahbidaaGreatDoor
open Go Go.RowKit Go.Proofs.Tryz
set_option linter.unusedVariables false
set_option linter.unusedSimpArgs false
section
set_option maxRecDepth 100000
theorem FJ {N v:Nat} (h:v<4294967296^N):val ((CP N v).take N)=v:=by
 rw [List.take_of_length_le (by rw [Ba];exact Nat.le_refl _),Ek _ _ h]
theorem Rb {a b:Nat} (hb:0<nw b) (h:nw b<=nw a):a/b<4294967296^(nw a+1-nw b):=by
 have h1:=Hp hb
 have h2:=Bh a
 rw [Nat.div_lt_iff_lt_mul (by have:=Nat.pow_pos (n:=nw b-1) (show 0<4294967296 by omega);omega)]
 have h3:4294967296^(nw a+1-nw b)*4294967296^(nw b-1)<=4294967296^(nw a+1-nw b)*b:=Nat.mul_le_mul_left _ h1
 rw [<-Nat.pow_add,show nw a+1-nw b+(nw b-1)=nw a by omega] at h3
 omega
theorem Qm {a b:Nat}:a%b<4294967296^(nw a+1):=Nat.lt_of_le_of_lt (Nat.mod_le _ _) (Nat.lt_of_lt_of_le (Bh a) (Nat.pow_le_pow_right Z Z))
theorem PG {b:Nat} (h:nw b=0):b=0:=by
 have:=Bh b
 rw [h] at this
 omega
theorem V8 {b:Nat} (h:nw b=1):(Aq b).getD 0 0=b/\b<4294967296:=by
 have h1:=Bh b
 rw [h] at h1
 refine ⟨?_,Z⟩
 rw [DJ Z,HF,Nat.pow_zero,Nat.div_one,Nat.mod_eq_of_lt Z]
theorem Kr  :Instr.fill ([(0,1),(1,1)].toArray[·]?) (AS 0).toArray []=some (AS 0).toArray:=by kernel_rfl
theorem OT (a b:Nat) (ha:nw a<=1099511627776) (hb:nw b<=1099511627776) (hb0:b≠0) (w:World)  :Calls prog 203 #[(aG (AS a)),(aG (AS b))] w (Ah w (Value.tuple #[(aG (AS (a/b))),(aG (AS (a%b))),(Value.bool true)])):=by
 have hnb:nw b≠0:=λh=>hb0 (PG h)
 have hla:=B5 a
 have hlb:=B5 b
 refine Ab (args:=[(aG (AS a)),(aG (AS b))]) func203 O O (AI O) (OkC.subF (sL [0,1] O) (q4 (Be (cs:=AS a) O λb1=>Be (cs:=AS b) O λb2=>al Fi O λb3=>al Fi O λb4=>asg' O (q6 (sL [2,3,4,5,6] O) (OkC.block (q4 (BH 2 By O ?_)))))))
 refine ck' call241 (Py b) O (asg' O (OkL.nil (OkQ.subF (sL [2,3,4,5,6,12] O) (OkQ.then_ ?_))))
 refine OkC.cond O (λhc0=>?_) (λhc0=>?_)
 ·replace hc0:=of_decide_eq_true hc0
  exact absurd hc0 hb0
 ·replace hc0:=of_decide_eq_false hc0
  refine q4 (BH 3 By O (BH 2 By O (ck' call242 (S2 a b Z Z) O (AH (Ae (c:=(decide ((Cu a b)<(0:Int)))) O O O) O (asg' O (OkL.nil (OkQ.subF (sL [2,3,4,5,6,17] O) (OkQ.then_ ?_))))))))
  refine OkC.cond O (λhc1=>?_) (λhc1=>?_)
  ·replace hc1:=of_decide_eq_true hc1
   rw [E8] at hc1
   have e1:a/b=0:=Nat.div_eq_of_lt hc1
   have e2:a%b=a:=Nat.mod_eq_of_lt hc1
   refine OkC.seq (Cd [(0,true),(1,true),(2,false),(3,false),(4,true)] (sl (sl sr)) (Al (v:=(aG (AS 0))) O (AQ (zs:=AS 0) (vs:=AS 0) (pv:=[]) (places:=[(0,1),(1,1)]) zeroValue71 underlying71 (λw=>by simp [sizeOf9,sizeOf69]) O (Kr )) (Ev 1 By O (OkE.imp O (EG O sizeOf71 O (OkE.back (sl (sl sr)) (OkE.imp O (Ax O sizeOf71 O (OkE.back (sl (sl sr)) (pS' O (OkE.nil ?_)))))))))))
   exact OkQ.subF (sL [2,3,4,5,6] O) (OkQ.then_ (OkC.ret (OkQ.in_ret (OkQ.then_ret (C9 O (Ak (i:=1) (cs:=AS 0) O O isAgg71 sizeOf71 O) (Ak (i:=0) (cs:=AS a) O O isAgg71 sizeOf71 O) (rd_tmp (v:=(Value.bool true)) O) (λw hw=>⟨by rw [e1,e2],hw.out⟩))))))
  ·replace hc1:=of_decide_eq_false hc1
   rw [E8] at hc1
   have hba:nw b<=nw a:=Ck Z
   refine q4 (AH (v:=(pP b1 1)) (AA O underlying71 O sizeOf9 O) O (Au 3 (Value.string (Bc a)) SB O (AH (Bg (c:=(decide (a<18446744073709551616))) O O CJ) O (asg' O (OkL.nil (OkQ.subF (sL [2,3,4,5,6,24] O) (OkQ.then_ ?_)))))))
   refine OkC.cond O (λhc2=>?_) (λhc2=>?_)
   ·replace hc2:=of_decide_eq_true hc2
    have la:Bo a=a:=BZ hc2
    have lb:Bo b=b:=BZ Z
    have q1:a/b<18446744073709551616:=Nat.lt_of_le_of_lt (Nat.div_le_self _ _) hc2
    have q2:a%b<18446744073709551616:=Nat.lt_of_le_of_lt (Nat.mod_le _ _) hc2
    refine OkC.seq (Cd [(0,true),(1,true),(2,true),(3,true),(4,true),(5,true),(6,true),(7,true),(8,true),(9,true),(10,true),(11,true),(12,false),(13,false),(14,true)] (sl (sl sr)) (Al (v:=(pP b1 0)) O (AA O underlying71 O sizeOf69 O) (BM 1 (vK .u64 (Bo a)) GZ O (Al (v:=(pP b2 0)) O (AA O underlying71 O sizeOf69 O) (BM 0 (vK .u64 (Bo b)) GZ O (Al O (Er (c:=(((Bo a)/(Bo b):Nat):Int)) O O Z (Hv (a:=Bo a) (b:=Bo b) Z)) (Al (v:=(aG ([(vK .u64 ((Bo a)/(Bo b))),(Value.string (Bc 0))]))) O (AQ (zs:=AS 0) (vs:=[(vK .u64 ((Bo a)/(Bo b))),(Value.string (Bc 0))]) (pv:=[(0,(vK .u64 ((Bo a)/(Bo b))))]) (places:=[(0,1),(1,1)]) zeroValue71 underlying71 (λw=>by simp [sizeOf9,sizeOf69]) O O) (Al (v:=(pP b1 0)) O (AA O underlying71 O sizeOf69 O) (BM 1 (vK .u64 (Bo a)) GZ O (Al (v:=(pP b2 0)) O (AA O underlying71 O sizeOf69 O) (BM 0 (vK .u64 (Bo b)) GZ O ?_)))))))))))
    refine Al O (Dy (c:=(((Bo a)%(Bo b):Nat):Int)) O O Z (Oo (a:=Bo a) (b:=Bo b))) (Al (v:=(aG ([(vK .u64 ((Bo a)%(Bo b))),(Value.string (Bc 0))]))) O (AQ (zs:=AS 0) (vs:=[(vK .u64 ((Bo a)%(Bo b))),(Value.string (Bc 0))]) (pv:=[(0,(vK .u64 ((Bo a)%(Bo b))))]) (places:=[(0,1),(1,1)]) zeroValue71 underlying71 (λw=>by simp [sizeOf9,sizeOf69]) O O) (OkE.imp O (EG O sizeOf71 O (OkE.back (sl (sl sr)) (OkE.imp O (Ax O sizeOf71 O (OkE.back (sl (sl sr)) (pS' O (OkE.nil (OkQ.subF (sL [2,3,4,5,6] O) (OkQ.then_ ?_)))))))))))
    exact OkC.ret (OkQ.in_ret (OkQ.then_ret (C9 O (Ak (i:=1) (cs:=[(vK .u64 ((Bo a)/(Bo b))),(Value.string (Bc 0))]) O O isAgg71 sizeOf71 O) (Ak (i:=0) (cs:=[(vK .u64 ((Bo a)%(Bo b))),(Value.string (Bc 0))]) O O isAgg71 sizeOf71 O) (rd_tmp (v:=(Value.bool true)) O) (λw hw=>⟨by rw [DU q1,DU q2,la,lb];rfl,hw.out⟩))))
   ·replace hc2:=of_decide_eq_false hc2
    refine OkC.skip (OkQ.in_normal (q2 (BH 2 By O (OkL.callB (V:=λb5=>(Value.slice (some ⟨b5,0,none⟩) (nw b) ((Aq b).length))) (T:=92) (cs:=Ag (Aq b)) (AP O) (Ap (args:=[(aG (AS b))]) O O call187) (λw hw=>C6 b Z w) O (AI O) λb5=>asg' O (q6 (sL [2,3,4,5,6,7] O) (q4 (AM O (AH (v:=(vN (nw b))) (AD O underlying255) O (AH (BG (c:=(decide ((nw b)=1))) O O (K7 (a:=nw b) (b:=1))) O (OkL.nil ?_))))))))))
    refine OkQ.subF (sL [2,3,4,5,6,7,44] O) (OkQ.then_ ?_)
    refine OkC.cond O (λhc3=>?_) (λhc3=>?_)
    ·replace hc3:=of_decide_eq_true hc3
     obtain ⟨hy,hy2⟩:=V8 hc3
     refine OkC.seq (Cd [(0,true),(2,true),(3,true),(4,true),(1,false),(5,false),(6,true),(7,true),(8,true),(9,true),(10,true)] sr (Ev 4 By O (BV O (Al (v:=(pP b5 0)) O (AK (j:=0) O O underlying255 sizeOf92 O Z O) ?_))))
     have hx1:(Aq b).getD 0 0<4294967296:=W32.getD (B8 b) 0
     refine Al O (AF (i:=0) (v:=(vK .u32 ((Aq b).getD 0 0))) O O isAgg92 (A8 (xs:=Aq b) (j:=0) Z)) (OkE.imp O (OkL.callB (V:=λb6=>(Value.slice (some ⟨b6,0,none⟩) (nw a) ((Aq a).length))) (T:=92) (cs:=Ag (Aq a)) (AP O) (Ap (args:=[(aG (AS a))]) O O call187) (λw hw=>C6 a Z w) O (AI O) λb6=>OkE.back (sl sr) (OkE.imp O (OkL.callB (V:=λb7=>(Value.tuple #[(Value.slice (some ⟨b7,0,none⟩) (nw a) (nw a)),(vK .u32 (a%((Aq b).getD 0 0)))])) (T:=92) (cs:=Ag (CP (nw a) (a/((Aq b).getD 0 0)))) (AP O) (Ap (args:=[(Value.slice (some ⟨b6,0,none⟩) (nw a) ((Aq a).length)),(vK .u32 ((Aq b).getD 0 0))]) O O call188) (λw hw=>U4 a ((Aq b).getD 0 0) _ _ Z Z Z w (hw.get (i:=0) O)) O (AI O) λb7=>OkE.back (sl (sl sr)) (BV O (Al O (AV (v:=(Value.slice (some ⟨b7,0,none⟩) (nw a) (nw a))) O O) (Al O (AV (v:=(vK .u32 (a%((Aq b).getD 0 0)))) O O) (pS' O (pS' O ?_)))))))))
     refine OkE.nil (OkQ.subF (sL [2,3,4,5,6,7,8,9] O) (q2 (AM O (Ce call206 (λw hw=>IY _ (nw a) (nw a) (CP (nw a) (a/((Aq b).getD 0 0))) (Df _ _) (by first|omega|(rw [Ba];omega)|simp|(simp;omega)) (by first|omega|simp|(simp;omega)) (by first|omega|simp|(simp;omega)) w (hw.get (i:=0) O)) O (OkL.retell (k:=55) (u:=(aG (AS (a/b)))) O (by rw [hy,FJ (Nat.lt_of_le_of_lt (Nat.div_le_self _ _) (Bh a))]) (AM O ?_))))))
     have hmb:a%(Aq b).getD 0 0<4294967296:=by rw [hy];exact Nat.lt_of_lt_of_le (Nat.mod_lt _ Z) Z
     exact AH (Aw (c:=((a%((Aq b).getD 0 0):Nat):Int)) O underlying92 underlying69 (BK Z)) O (AH (v:=(aG ([(vK .u64 (a%((Aq b).getD 0 0))),(Value.string (Bc 0))]))) (AQ (zs:=AS 0) (vs:=[(vK .u64 (a%((Aq b).getD 0 0))),(Value.string (Bc 0))]) (pv:=[(0,(vK .u64 (a%((Aq b).getD 0 0))))]) (places:=[(0,1),(1,1)]) zeroValue71 underlying71 (λw=>by simp [sizeOf9,sizeOf69]) O O) O (OkL.retell (k:=58) (u:=(aG (AS (a%b)))) O (by rw [hy] at hmb ⊢;rw [DU Z];rfl) (FG 4 (off:=0) (vs:=AS (a/b)) (cs':=AS (a/b)) (AP O) O sizeOf71 O (N2 O sizeOf71 O (asg' O (OkL.nil (OkQ.subF (sL [2,3,4,5,6,7] O) (OkQ.then_ (OkC.ret (OkQ.then_ret (C9 O (Ak (i:=4) (cs:=AS (a/b)) O O isAgg71 sizeOf71 O) (Ak (i:=3) (cs:=AS (a%b)) O O isAgg71 sizeOf71 O) (rd_tmp (v:=(Value.bool true)) O) (λw hw=>⟨rfl,hw.out⟩))))))))))))
    ·replace hc3:=of_decide_eq_false hc3
     refine OkC.skip (q2 (BH 4 By O (OkL.callB (V:=λb6=>(Value.slice (some ⟨b6,0,none⟩) (nw a) ((Aq a).length))) (T:=92) (cs:=Ag (Aq a)) (AP O) (Ap (args:=[(aG (AS a))]) O O call187) (λw hw=>C6 a Z w) O (AI O) λb6=>AM O (OkL.callBB (V:=λb7 b8=>(Value.tuple #[(Value.slice (some ⟨b7,0,none⟩) (nw a+1-nw b) (nw a+1-nw b)),(Value.slice (some ⟨b8,0,none⟩) (nw a+1) (nw a+1))])) (T:=92) (cs:=Ag (CP (nw a+1-nw b) (a/b))) (T2:=92) (cs2:=Ag (CP (nw a+1) (a%b))) (AP O) (Ap (args:=[(Value.slice (some ⟨b6,0,none⟩) (nw a) ((Aq a).length)),(Value.slice (some ⟨b5,0,none⟩) (nw b) ((Aq b).length))]) O O call243) (λw hw=>V7 a b _ _ _ _ Z Z Z w (hw.get (i:=0) O) (hw.get (i:=1) O)) O (AI O) λb7 b8=>AM O (AH (AV (v:=(Value.slice (some ⟨b7,0,none⟩) (nw a+1-nw b) (nw a+1-nw b))) O O) O (AH (AV (v:=(Value.slice (some ⟨b8,0,none⟩) (nw a+1) (nw a+1))) O O) O (asg' O (asg' O (q3 (sL [2,3,4,5,6,7,10,11] O) ?_)))))))))
     refine AM O (Ce call206 (λw hw=>IY _ (nw a+1-nw b) (nw a+1-nw b) (CP (nw a+1-nw b) (a/b)) (Df _ _) (by first|omega|(rw [Ba];omega)|simp|(simp;omega)) (by first|omega|simp|(simp;omega)) (by first|omega|simp|(simp;omega)) w (hw.get (i:=0) O)) O (OkL.retell (k:=67) (u:=(aG (AS (a/b)))) O (by rw [FJ (Rb Z hba)]) (AM O (Ce call206 (λw hw=>IY _ (nw a+1) (nw a+1) (CP (nw a+1) (a%b)) (Df _ _) (by first|omega|(rw [Ba];omega)|simp|(simp;omega)) (by first|omega|simp|(simp;omega)) (by first|omega|simp|(simp;omega)) w (hw.get (i:=1) O)) O (OkL.retell (k:=69) (u:=(aG (AS (a%b)))) O (by rw [FJ Qm]) (FG 5 (off:=0) (vs:=AS (a/b)) (cs':=AS (a/b)) (AP O) O sizeOf71 O (FG 4 (off:=0) (vs:=AS (a%b)) (cs':=AS (a%b)) (AP O) O sizeOf71 O (asg' O (OkL.nil (OkQ.subF (sL [2,3,4,5,6,7] O) (OkQ.then_ ?_)))))))))))
     exact OkC.ret (C9 O (Ak (i:=5) (cs:=AS (a/b)) O O isAgg71 sizeOf71 O) (Ak (i:=4) (cs:=AS (a%b)) O O isAgg71 sizeOf71 O) (rd_tmp (v:=(Value.bool true)) O) (λw hw=>⟨rfl,hw.out⟩))
theorem XV (a b:Nat) (ha:nw a<=1099511627776) (hb:nw b<=1099511627776) (w:World)  :Calls prog 201 #[(aG (AS a)),(aG (AS b))] w (Ah w (aG (AS (Nat.gcd a b)))):=by
 refine Ab (args:=[(aG (AS a)),(aG (AS b))]) func201 O O (AI O) (OkC.subF (sL [0,1] O) (q4 (Be (cs:=AS a) O λb1=>Be (cs:=AS b) O λb2=>al Fi O λb3=>q6 (sL [2,3,4] O) (OkC.block ?_))))
 refine OkC.lp2 (tg λ(x:Nat) (y:Nat)=>Nat.gcd x y=Nat.gcd a b/\nw x<=1099511627776/\nw y<=1099511627776) (tg λ(x:Nat) (y:Nat)=>[(2,(pP b1 0)),(3,(pP b2 0)),(4,(pP b3 0))]) (tg λ(x:Nat) (y:Nat)=>[AU b3 71 (AS 0),AU b2 71 (AS y),AU b1 71 (AS x)]) (tg λ(x:Nat) (y:Nat)=>y) a b (⟨rfl,ha,hb⟩) (sF O) sr (λx y hJ=>?_)
 obtain ⟨hg,hx,hy⟩:=hJ
 refine OkC.seq (q4 (BH 1 By O (ck' call241 (Py y) O (AH (BU (c:=(!(decide (y=0)))) O O) O (OkL.nil (OkQ.subF (sL [2,3,4,10] O) (OkQ.then_ ?_)))))))
 refine OkC.cond O (λhc0=>?_) (λhc0=>?_)
 ·simp only [Bool.and_eq_true,Bool.or_eq_true,Bool.and_eq_false_iff,Bool.or_eq_false_iff,Bool.not_eq_true',Bool.not_eq_false',decide_eq_true_eq,decide_eq_false_iff_not] at hc0
  refine OkC.skip (OkQ.then_ (OkC.block (q4 (BH 2 By O (BH 1 By O (ck' call203 (OT x y Z Z Z) O (AM O (AH (AV (v:=(aG (AS (x/y)))) O O) O (AH (AV (v:=(aG (AS (x%y)))) O O) O (AH (AV (v:=(Value.bool true)) O O) O (al Fi O λb4=>?_)))))))))))
  refine al Fi O λb5=>EG O sizeOf71 O (Ax O sizeOf71 O (asg' O (OkL.nil (OkQ.subF (sL [2,3,4,6] O) (OkQ.then_ (Cd [(1,true),(0,false),(2,false),(3,false)] (sk (sk (sk (sl (sl sr))))) (Ev 0 By O (OkE.imp O (BH 3 By O (OkE.back (sk (sk (sk (sl (sl sr))))) ?_))))))))))
  exact OkE.imp O (FG 4 (off:=0) (vs:=AS y) (cs':=AS y) (AP O) O sizeOf71 O (OkE.back (sk (sk (sk (sl (sl sr))))) (OkE.imp O (N2 O sizeOf71 O (OkE.back (sk (sk (sk (sl (sl sr))))) (OkE.nil (OkQ.subF (sL [2,3,4,6] O) (OkQ.in_normal (OkQ.round2 y (x%y) (⟨by rw [<-hg,Nat.gcd_comm x y,Nat.gcd_rec y x,Nat.gcd_comm],hy,Nat.le_trans (Ck (Nat.mod_le _ _)) hx⟩) (Nat.mod_lt _ Z) (sF O) (sl (sl sr)))))))))))
 ·simp only [Bool.and_eq_true,Bool.or_eq_true,Bool.and_eq_false_iff,Bool.or_eq_false_iff,Bool.not_eq_true',Bool.not_eq_false',decide_eq_true_eq,decide_eq_false_iff_not] at hc0
  have hy0:y=0:=by omega
  have hxg:x=Nat.gcd a b:=by rw [<-hg,hy0,Nat.gcd_zero_right]
  exact OkC.exit (OkQ.then_exit (OkQ.round2_exit (OkQ.in_exit (q2 (BH 2 By O (Ax O sizeOf71 O (OkL.nil (OkQ.subF (sL [2,3,4] O) (OkQ.then_ (OkC.ret (ret_one O (Ak (i:=0) (cs:=AS x) O O isAgg71 sizeOf71 O) (λw hw=>⟨by rw [hxg],hw.out⟩))))))))))))
end
def Dq (neg:Bool) (n:Nat):Int:=if neg then -(n:Int) else (n:Int)
theorem Sa (n:Nat):A9 (Dq true n)=AS n++[.bool (!(decide (n=0)))]:=by
  simp only [A9,AS,Dq,if_true,Int.natAbs_neg,Int.natAbs_natCast,List.cons_append,List.nil_append]
  have e:decide (-(n:Int)<0)=!(decide (n=0)):=by
    by_cases h:n=0
    · subst h;rfl
    · simp [h];omega
  rw [e]
theorem TR (n:Nat):A9 (Dq false n)=AS n++[.bool false]:=by
  simp only [A9,AS,Dq,Int.natAbs_natCast,List.cons_append,List.nil_append]
  have e:decide ((n:Int)<0)=false:=by simp
  simp [e]
theorem Nv (D a b:Nat):Eo prog (D+3) 73 (.agg (AS a).toArray) (.agg (AS b).toArray) (decide (a=b)):=by
  have h:=Eo.struct (D:=D+2) (xs:=AS a) (ys:=AS b) underlying73 Tryz.stoodInHeld73 (H3.agg (us:=AS a) (bs:=AS b) (by decide) isAgg71 sizeOf71 rfl rfl (Hf D a b) H3.nil)
  simpa using h
theorem BA (neg:Bool) (n:Nat):(Dq neg n).natAbs=n:=by cases neg<;>simp [Dq]
theorem WW (a:Int):Dq (!(decide (a<0))) a.natAbs = -a:=by
  unfold Dq
  by_cases h:a<0
  · simp [h];omega
  · simp [h];omega
theorem Qc (a b:Int):Dq (!(decide (a<0) == decide (b<0))) (a.natAbs*b.natAbs)=a*b:=by
  rw [<-Int.natAbs_mul]
  unfold Dq
  by_cases h:a<0<;>by_cases h':b<0
  · have:=Int.mul_pos_of_neg_of_neg h h';simp [h,h'];omega
  · have:a*b<=0:=Int.mul_nonpos_of_nonpos_of_nonneg Z Z
    simp [h,h'];omega
  · have:a*b<=0:=Int.mul_nonpos_of_nonneg_of_nonpos Z Z
    simp [h,h'];omega
  · have:0<=a*b:=Int.mul_nonneg Z Z
    simp [h,h'];omega
theorem Ht {a b:Int} (h:(decide (a<0) == decide (b<0))=true):Dq (decide (a<0)) (a.natAbs+b.natAbs)=a+b:=by
  unfold Dq
  by_cases h1:a<0<;>by_cases h2:b<0<;>simp [h1,h2] at h ⊢<;>omega
theorem KN {a b:Int} (h:(decide (a<0) == decide (b<0))=false) (h3:b.natAbs<=a.natAbs):Dq (decide (a<0)) (a.natAbs-b.natAbs)=a+b:=by
  unfold Dq
  by_cases h1:a<0<;>by_cases h2:b<0<;>simp [h1,h2] at h ⊢<;>omega
theorem JR {a b:Int} (h:(decide (a<0) == decide (b<0))=false) (h3:¬b.natAbs<=a.natAbs):Dq (decide (b<0)) (b.natAbs-a.natAbs)=a+b:=by
  unfold Dq
  by_cases h1:a<0<;>by_cases h2:b<0<;>simp [h1,h2] at h ⊢<;>omega
theorem Zo {z:Int} (h:z<0) (h2:-9223372036854775808<=z):IntKind.u64.wrap (-(IntKind.u64.wrap z))=((z.natAbs:Nat):Int):=by
  simp only [IntKind.wrap,IntKind.bits,IntKind.signed];simp;omega
theorem GD {z:Int} (h:z<0):Dq true z.natAbs=z:=by unfold Dq;simp;omega
theorem Ld {z:Int} (h:¬z<0):Dq false z.natAbs=z:=by unfold Dq;simp;omega
section
set_option maxRecDepth 100000
theorem Ky  :Instr.fill ([(0,2)].toArray[·]?) (AS 0).toArray []=some (AS 0).toArray:=by kernel_rfl
theorem Hh (n:Nat) (w:World)  :Calls prog 217 #[(aG (AS n))] w (Ah w (Value.bool (decide (n=0)))):=by
 refine Ab (args:=[(aG (AS n))]) func217 O O (AI O) (OkC.subF (sL [0] O) (q4 (Be (cs:=AS n) O λb1=>asg' O (q3 (sL [1,2] O) (BH 0 Qz O (AH (v:=(aG (AS 0))) (AQ (zs:=AS 0) (vs:=AS 0) (pv:=[]) (places:=[(0,2)]) zeroValue73 underlying73 (λw=>by simp [sizeOf71]) O (Ky )) O (AH (Bz (c:=(decide (n=0))) O O eqGuardType73 (Nv 9997 n 0)) O (asg' O (OkL.nil (OkQ.subF (sL [2] O) ?_))))))))))
 exact OkQ.then_ (OkC.ret (ret_one O (rd_tmp (v:=(Value.bool (decide (n=0)))) O) (λw hw=>⟨rfl,hw.out⟩)))
theorem Ep (x0:Nat):Instr.fill ([(0,2)].toArray[·]?) (AS 0).toArray [(0,.agg (AS x0).toArray)]=some (AS x0).toArray:=by kernel_rfl
theorem RS (n:Nat) (w:World)  :Calls prog 171 #[(Value.bool true),(aG (AS n))] w (Ah w (aG (A9 (Dq true n)))):=by
 refine Ab (args:=[(Value.bool true),(aG (AS n))]) func171 O O (AI O) (OkC.subF (sL [0,1] O) (q4 (Be (cs:=AS n) O λb1=>al Kg O λb2=>q3 (sL [0,3,4] O) (BH 1 By O (AH (v:=(aG (AS n))) (AQ (zs:=AS 0) (vs:=AS n) (pv:=[(0,(aG (AS n)))]) (places:=[(0,2)]) zeroValue73 underlying73 (λw=>by simp [sizeOf71]) O (Ep n)) O (al ZG O λb3=>Ax O sizeOf73 O (q6 (sL [0,4,5] O) (Cd [(0,true),(1,true),(2,true),(3,true),(4,false),(5,true),(6,true),(7,true),(8,false)] (sk (sl sr)) ?_))))))))
 refine Ev 0 Qz O (BV O (BV O (OkE.pas (v:=(aG (AS n))) O (AB O) (A6 (i:=0) (vs:=AS n) O O Qz.a Qz.s O O) O O (OkE.imp O (OkL.call (v:=(Value.bool (decide (n=0)))) (AB O) (Ap (args:=[(aG (AS n))]) O O call217) (λw hw=>Hh n w) O (AI O) (OkE.back (sk (sl sr)) (OkE.pas (v:=(Value.bool (!(decide (n=0))))) O (AB O) (BU (c:=(!(decide (n=0)))) O O) O O (Al (v:=(Value.bool (!(decide (n=0))))) O (AO O O) (Al (v:=(aG (AS n++[(Value.bool (!(decide (n=0))))]))) O (AQ (zs:=A9 0) (vs:=AS n++[(Value.bool (!(decide (n=0))))]) (pv:=[(0,(aG (AS n))),(1,(Value.bool (!(decide (n=0)))))]) (places:=[(0,2),(2,1)]) zeroValue75 underlying75 (λw=>by simp [sizeOf4,sizeOf73]) O O) (OkE.imp O (EG O sizeOf75 O ?_)))))))))))
 exact OkE.back (sk (sl sr)) (OkE.nil (OkQ.subF (sL [4,5] O) (OkQ.then_ (OkC.ret (ret_one O (Ak (i:=1) (cs:=AS n++[(Value.bool (!(decide (n=0))))]) O O isAgg75 sizeOf75 O) (λw hw=>⟨by rw [Sa],hw.out⟩))))))
theorem PB (n:Nat) (w:World)  :Calls prog 171 #[(Value.bool false),(aG (AS n))] w (Ah w (aG (A9 (Dq false n)))):=by
 refine Ab (args:=[(Value.bool false),(aG (AS n))]) func171 O O (AI O) (OkC.subF (sL [0,1] O) (q4 (Be (cs:=AS n) O λb1=>al Kg O λb2=>q3 (sL [0,3,4] O) (BH 1 By O (AH (v:=(aG (AS n))) (AQ (zs:=AS 0) (vs:=AS n) (pv:=[(0,(aG (AS n)))]) (places:=[(0,2)]) zeroValue73 underlying73 (λw=>by simp [sizeOf71]) O (Ep n)) O (al ZG O λb3=>Ax O sizeOf73 O (q6 (sL [0,4,5] O) (Cd [(0,true),(1,true),(2,true),(3,true),(4,false),(5,true),(6,true),(7,true),(8,false)] (sk (sl sr)) ?_))))))))
 refine Ev 0 Qz O (BV O (BV O (OkE.skp O (AC O) O O (OkE.imp O (OkL.skip (AC O) O (AI O) (OkE.back (sk (sl sr)) (OkE.skp O (AC O) O O (Al (v:=(Value.bool false)) O (AJ O O) (Al (v:=(aG (AS n++[(Value.bool false)]))) O (AQ (zs:=A9 0) (vs:=AS n++[(Value.bool false)]) (pv:=[(0,(aG (AS n))),(1,(Value.bool false))]) (places:=[(0,2),(2,1)]) zeroValue75 underlying75 (λw=>by simp [sizeOf4,sizeOf73]) O O) (OkE.imp O (EG O sizeOf75 O ?_)))))))))))
 exact OkE.back (sk (sl sr)) (OkE.nil (OkQ.subF (sL [4,5] O) (OkQ.then_ (OkC.ret (ret_one O (Ak (i:=1) (cs:=AS n++[(Value.bool false)]) O O isAgg75 sizeOf75 O) (λw hw=>⟨by rw [TR],hw.out⟩))))))
theorem Eb (neg:Bool) (n:Nat) (w:World):Calls prog 171 #[.bool neg,.agg (AS n).toArray] w (Ah w (.agg (A9 (Dq neg n)).toArray)):=by
 cases neg
 ·exact PB n w
 ·exact RS n w
theorem Xh (z:Int) (hz:-9223372036854775808<=z) (hz2:z<9223372036854775808) (w:World)  :Calls prog 109 #[(vI z)] w (Ah w (aG (A9 z))):=by
 refine Ab (args:=[(vI z)]) func109 O O (AI O) (OkC.subF (sL [0] O) (q4 (al Kg O λb1=>OkL.nil (q1 (q4 (AM O (AH (Ae (c:=(decide (z<(0:Int)))) O O O) O (OkL.nil (OkQ.subF (sL [0,2,4] O) (OkQ.then_ ?_))))))))))
 refine OkC.cond O (λhc0=>?_) (λhc0=>?_)
 ·replace hc0:=of_decide_eq_true hc0
  have he:=GD hc0
  exact q4 (AM O (AH (Aw (c:=(IntKind.u64.wrap z)) O underlying2 underlying69 (rfl)) O (AH (Uk (c:=((z.natAbs:Nat):Int)) O (by rw [Int.zero_sub];exact Zo hc0 hz)) O (ck' call172 (I7 z.natAbs Z) O (ck' call171 (Eb true z.natAbs) O (Ax O sizeOf75 O (OkL.nil (OkQ.subF (sL [0,2] O) (OkQ.then_ (OkC.ret (OkQ.then_ret (ret_one O (Ak (i:=0) (cs:=A9 (Dq true z.natAbs)) O O isAgg75 sizeOf75 O) (λw hw=>⟨by rw [he],hw.out⟩)))))))))))))
 ·replace hc0:=of_decide_eq_false hc0
  have he:=Ld hc0
  exact OkC.skip (q2 (AM O (AH (Aw (c:=((z.natAbs:Nat):Int)) O underlying2 underlying69 (by rw [Cz Z Z];omega)) O (ck' call172 (I7 z.natAbs Z) O (ck' call171 (Eb false z.natAbs) O (Ax O sizeOf75 O (OkL.nil (OkQ.subF (sL [0,2] O) (OkQ.then_ (OkC.ret (ret_one O (Ak (i:=0) (cs:=A9 (Dq false z.natAbs)) O O isAgg75 sizeOf75 O) (λw hw=>⟨by rw [he],hw.out⟩))))))))))))
theorem MA (a:Int) (w:World)  :Calls prog 202 #[(aG (A9 a))] w (Ah w (aG (AS a.natAbs))):=by
 refine Ab (args:=[(aG (A9 a))]) func202 O O (AI O) (OkC.subF (sL [0] O) (q4 (Be (cs:=A9 a) O λb1=>al Fi O λb2=>q3 (sL [1,2] O) (AH (v:=(pP b1 0)) (AA O underlying75 O sizeOf73 O) O (AH (v:=(pP b1 0)) (AA O underlying73 O sizeOf71 O) O (Ei 1 (AS a.natAbs) By O (Ax O sizeOf71 O (OkL.nil (OkQ.subF (sL [2] O) ?_)))))))))
 exact OkQ.then_ (OkC.ret (ret_one O (Ak (i:=0) (cs:=AS a.natAbs) O O isAgg71 sizeOf71 O) (λw hw=>⟨rfl,hw.out⟩)))
theorem N5 (a:Int) (w:World)  :Calls prog 176 #[(aG (A9 a))] w (Ah w (vI a.sign)):=by
 refine Ab (args:=[(aG (A9 a))]) func176 O O (AI O) (OkC.subF (sL [0] O) (q4 (Be (cs:=A9 a) O λb1=>asg' O (q6 (sL [1,2] O) (OkC.block (q4 (AH (v:=(pP b1 0)) (AA O underlying75 O sizeOf73 O) O (Ei 0 (AS a.natAbs) Qz O (ck' call217 (Hh a.natAbs) O (asg' O ?_))))))))))
 refine OkL.nil (OkQ.subF (sL [1,2,3] O) (OkQ.then_ ?_))
 refine OkC.cond O (λhc0=>?_) (λhc0=>?_)
 ·replace hc0:=of_decide_eq_true hc0
  have he:a.sign=0:=by rw [show a=0 by omega];rfl
  exact q4 (asg' O (OkL.nil (OkQ.then_ (OkC.ret (OkQ.in_ret (OkQ.then_ret (ret_one O (rd_tmp (v:=(vI 0)) O) (λw hw=>⟨by rw [he],hw.out⟩))))))))
 ·replace hc0:=of_decide_eq_false hc0
  refine q4 (AH (v:=(pP b1 2)) (AA O underlying75 O sizeOf4 O) O (Au 0 (Value.bool (decide (a<0))) Kx O (asg' O (OkL.nil (OkQ.subF (sL [1,2,7] O) (OkQ.then_ ?_))))))
  refine OkC.cond O (λhc1=>?_) (λhc1=>?_)
  ·replace hc1:=of_decide_eq_true hc1
   have he:a.sign = -1:=Int.sign_eq_neg_one_of_neg hc1
   exact q4 (asg' O (OkL.nil (OkQ.then_ (OkC.ret (OkQ.in_ret (OkQ.then_ret (ret_one O (rd_tmp (v:=(vI (-1:Int))) O) (λw hw=>⟨by rw [he],hw.out⟩))))))))
  ·replace hc1:=of_decide_eq_false hc1
   have he:a.sign=1:=Int.sign_eq_one_of_pos Z
   exact OkC.skip (OkQ.in_normal (q2 (asg' O (OkL.nil (OkQ.then_ (OkC.ret (ret_one O (rd_tmp (v:=(vI 1)) O) (λw hw=>⟨by rw [he],hw.out⟩))))))))
theorem Vr (a b:Int) (ha:nw a.natAbs<=1099511627776) (hb:nw b.natAbs<=1099511627776) (w:World)  :Calls prog 200 #[(aG (A9 a)),(aG (A9 b))] w (Ah w (aG (A9 (a+b)))):=by
 refine Ab (args:=[(aG (A9 a)),(aG (A9 b))]) func200 O O (AI O) (OkC.subF (sL [0,1] O) (q4 (Be (cs:=A9 a) O λb1=>Be (cs:=A9 b) O λb2=>al Kg O λb3=>q6 (sL [2,3,4] O) (q4 (AH (v:=(pP b1 2)) (AA O underlying75 O sizeOf4 O) O (Au 2 (Value.bool (decide (a<0))) Kx O (AH (v:=(pP b2 2)) (AA O underlying75 O sizeOf4 O) O (Au 1 (Value.bool (decide (b<0))) Kx O ?_))))))))
 refine AH (Ii (c:=(decide (a<0) == decide (b<0))) O O underlying4 O) O (OkL.nil (OkQ.subF (sL [2,3,4,13] O) (OkQ.then_ ?_)))
 refine OkC.cond O (λhc0=>?_) (λhc0=>?_)
 ·skip
  have he:=Ht hc0
  refine OkC.seq (Cd [(0,true),(1,true),(2,true),(3,true),(4,true),(5,true),(6,true),(7,true),(8,false),(9,false),(10,false)] (sl sr) (Al (v:=(pP b1 2)) O (AA O underlying75 O sizeOf4 O) (BM 1 (Value.bool (decide (a<0))) Kx O (Al (v:=(pP b1 0)) O (AA O underlying75 O sizeOf73 O) (Al (v:=(pP b1 0)) O (AA O underlying73 O sizeOf71 O) (Ff 1 (AS a.natAbs) By O (Al (v:=(pP b2 0)) O (AA O underlying75 O sizeOf73 O) (Al (v:=(pP b2 0)) O (AA O underlying73 O sizeOf71 O) (Ff 0 (AS b.natAbs) By O (OkE.imp O (ck' call194 (SM a.natAbs b.natAbs Z Z) O ?_)))))))))))
  exact OkE.back (sl sr) (OkE.imp O (ck' call171 (Eb (decide (a<0)) (a.natAbs+b.natAbs)) O (OkE.back (sl sr) (OkE.imp O (Ax O sizeOf75 O (OkE.back (sl sr) (OkE.nil (OkQ.subF (sL [2,3,4] O) (OkQ.then_ (OkC.ret (OkQ.then_ret (ret_one O (Ak (i:=0) (cs:=A9 (Dq (decide (a<0)) (a.natAbs+b.natAbs))) O O isAgg75 sizeOf75 O) (λw hw=>⟨by rw [he],hw.out⟩)))))))))))))
 ·skip
  refine OkC.skip (q1 (q4 (AH (v:=(pP b1 0)) (AA O underlying75 O sizeOf73 O) O (AH (v:=(pP b1 0)) (AA O underlying73 O sizeOf71 O) O (Ei 2 (AS a.natAbs) By O (AH (v:=(pP b2 0)) (AA O underlying75 O sizeOf73 O) O (AH (v:=(pP b2 0)) (AA O underlying73 O sizeOf71 O) O (Ei 1 (AS b.natAbs) By O (ck' call204 (OO a.natAbs b.natAbs Z Z) O (AM O (AH (AV (v:=(aG (AS (a.natAbs-b.natAbs)))) O O) O ?_)))))))))))
  refine AH (AV (v:=(Value.bool (decide (b.natAbs<=a.natAbs)))) O O) O (al Fi O λb4=>Ax O sizeOf71 O (asg' O (q3 (sL [2,3,4,5,6] O) (AM O (OkL.nil (OkQ.subF (sL [2,3,4,5,34] O) (OkQ.then_ ?_)))))))
  refine OkC.cond O (λhc1=>?_) (λhc1=>?_)
  ·replace hc1:=of_decide_eq_true hc1
   have he:=KN hc0 hc1
   exact q4 (AH (v:=(pP b1 2)) (AA O underlying75 O sizeOf4 O) O (Au 3 (Value.bool (decide (a<0))) Kx O (BH 0 By O (ck' call171 (Eb (decide (a<0)) (a.natAbs-b.natAbs)) O (EG O sizeOf75 O (OkL.nil (OkQ.subF (sL [2,3,4,5] O) (OkQ.then_ (OkC.ret (OkQ.then_ret (ret_one O (Ak (i:=1) (cs:=A9 (Dq (decide (a<0)) (a.natAbs-b.natAbs))) O O isAgg75 sizeOf75 O) (λw hw=>⟨by rw [he],hw.out⟩))))))))))))
  ·replace hc1:=of_decide_eq_false hc1
   have he:=JR hc0 hc1
   refine OkC.skip (q2 (AH (v:=(pP b2 0)) (AA O underlying75 O sizeOf73 O) O (AH (v:=(pP b2 0)) (AA O underlying73 O sizeOf71 O) O (Ei 2 (AS b.natAbs) By O (AH (v:=(pP b1 0)) (AA O underlying75 O sizeOf73 O) O (AH (v:=(pP b1 0)) (AA O underlying73 O sizeOf71 O) O (Ei 3 (AS a.natAbs) By O (ck' call204 (OO b.natAbs a.natAbs Z Z) O (AM O (AH (AV (v:=(aG (AS (b.natAbs-a.natAbs)))) O O) O (AH (AV (v:=(Value.bool (decide (a.natAbs<=b.natAbs)))) O O) O ?_)))))))))))
   refine al Fi O λb5=>Ax O sizeOf71 O (asg' O (q3 (sL [2,3,4,5,7] O) (AH (v:=(pP b2 2)) (AA O underlying75 O sizeOf4 O) O (Au 3 (Value.bool (decide (b<0))) Kx O (BH 0 By O (ck' call171 (Eb (decide (b<0)) (b.natAbs-a.natAbs)) O (G1 O sizeOf75 O (OkL.nil (OkQ.subF (sL [2,3,4,5,7] O) (OkQ.then_ ?_))))))))))
   exact OkC.ret (ret_one O (Ak (i:=2) (cs:=A9 (Dq (decide (b<0)) (b.natAbs-a.natAbs))) O O isAgg75 sizeOf75 O) (λw hw=>⟨by rw [he],hw.out⟩))
theorem Uc (a b:Int) (ha:nw a.natAbs<=1099511627776) (hb:nw b.natAbs<=1099511627776) (w:World)  :Calls prog 179 #[(aG (A9 a)),(aG (A9 b))] w (Ah w (aG (A9 (a*b)))):=by
 refine Ab (args:=[(aG (A9 a)),(aG (A9 b))]) func179 O O (AI O) (OkC.subF (sL [0,1] O) (q4 (Be (cs:=A9 a) O λb1=>Be (cs:=A9 b) O λb2=>al Kg O λb3=>q6 (sL [2,3,4] O) (Cd [(0,true),(1,true),(2,true),(3,true),(4,true),(5,true),(6,true),(7,true),(8,true),(9,true),(10,true),(11,false),(12,false),(13,false)] (sl sr) (Al (v:=(pP b1 2)) O (AA O underlying75 O sizeOf4 O) (BM 1 (Value.bool (decide (a<0))) Kx O (Al (v:=(pP b2 2)) O (AA O underlying75 O sizeOf4 O) (BM 0 (Value.bool (decide (b<0))) Kx O ?_))))))))
 refine Al O (Ib (c:=(!(decide (a<0) == decide (b<0)))) O O underlying4 O) (Al (v:=(pP b1 0)) O (AA O underlying75 O sizeOf73 O) (Al (v:=(pP b1 0)) O (AA O underlying73 O sizeOf71 O) (Ff 1 (AS a.natAbs) By O (Al (v:=(pP b2 0)) O (AA O underlying75 O sizeOf73 O) (Al (v:=(pP b2 0)) O (AA O underlying73 O sizeOf71 O) (Ff 0 (AS b.natAbs) By O (OkE.imp O (ck' call153 (PO a.natAbs b.natAbs Z Z) O (OkE.back (sl sr) (OkE.imp O (ck' call171 (Eb (!(decide (a<0) == decide (b<0))) (a.natAbs*b.natAbs)) O ?_)))))))))))
 exact OkE.back (sl sr) (OkE.imp O (Ax O sizeOf75 O (OkE.back (sl sr) (OkE.nil (OkQ.subF (sL [4] O) (OkQ.then_ (OkC.ret (ret_one O (Ak (i:=0) (cs:=A9 (Dq (!(decide (a<0) == decide (b<0))) (a.natAbs*b.natAbs))) O O isAgg75 sizeOf75 O) (λw hw=>⟨by rw [Qc],hw.out⟩)))))))))
theorem Md (a b:Int) (ha:nw a.natAbs<=1099511627776) (hb:nw b.natAbs<=1099511627776) (w:World)  :Calls prog 178 #[(Value.func (.func 200) #[] #[]),(aG (A9 a)),(aG (A9 b))] w (Ah w (aG (A9 (a+b)))):=by
 refine Ab (args:=[(Value.func (.func 200) #[] #[]),(aG (A9 a)),(aG (A9 b))]) func178 O O (AI O) (OkC.subF (sL [0,1,2] O) (q4 (Be (cs:=A9 a) O λb1=>Be (cs:=A9 b) O λb2=>al Kg O λb3=>q3 (sL [0,4,5,6] O) (AM O (BH 2 EE O (BH 1 EE O (ck' call200 (Vr a b (by first|omega|(simp only [Int.natAbs_neg,BA,Int.natAbs_natCast];omega)) (by first|omega|(simp only [Int.natAbs_neg,BA,Int.natAbs_natCast];omega))) O (Ax O sizeOf75 O ?_))))))))
 exact OkL.nil (OkQ.subF (sL [6] O) (OkQ.then_ (OkC.ret (ret_one O (Ak (i:=0) (cs:=A9 (a+b)) O O isAgg75 sizeOf75 O) (λw hw=>⟨rfl,hw.out⟩)))))
theorem Ku (a b:Int) (ha:nw a.natAbs<=1099511627776) (hb:nw b.natAbs<=1099511627776) (w:World)  :Calls prog 178 #[(Value.func (.func 179) #[] #[]),(aG (A9 a)),(aG (A9 b))] w (Ah w (aG (A9 (a*b)))):=by
 refine Ab (args:=[(Value.func (.func 179) #[] #[]),(aG (A9 a)),(aG (A9 b))]) func178 O O (AI O) (OkC.subF (sL [0,1,2] O) (q4 (Be (cs:=A9 a) O λb1=>Be (cs:=A9 b) O λb2=>al Kg O λb3=>q3 (sL [0,4,5,6] O) (AM O (BH 2 EE O (BH 1 EE O (ck' call179 (Uc a b (by first|omega|(simp only [Int.natAbs_neg,BA,Int.natAbs_natCast];omega)) (by first|omega|(simp only [Int.natAbs_neg,BA,Int.natAbs_natCast];omega))) O (Ax O sizeOf75 O ?_))))))))
 exact OkL.nil (OkQ.subF (sL [6] O) (OkQ.then_ (OkC.ret (ret_one O (Ak (i:=0) (cs:=A9 (a*b)) O O isAgg75 sizeOf75 O) (λw hw=>⟨rfl,hw.out⟩)))))
theorem L7 (a b:Int) (ha:nw a.natAbs<=1099511627776) (hb:nw b.natAbs<=1099511627776) (w:World)  :Calls prog 151 #[(aG (A9 a)),(aG (A9 b))] w (Ah w (aG (A9 (a+b)))):=by
 refine Ab (args:=[(aG (A9 a)),(aG (A9 b))]) func151 O O (AI O) (OkC.subF (sL [0,1] O) (q4 (Be (cs:=A9 a) O λb1=>Be (cs:=A9 b) O λb2=>al Kg O λb3=>q3 (sL [2,3,4] O) (BH 2 EE O (BH 1 EE O (ck' call178 (Md a b (by first|omega|(simp only [Int.natAbs_neg,BA,Int.natAbs_natCast];omega)) (by first|omega|(simp only [Int.natAbs_neg,BA,Int.natAbs_natCast];omega))) O (Ax O sizeOf75 O (OkL.nil ?_))))))))
 exact OkQ.subF (sL [4] O) (OkQ.then_ (OkC.ret (ret_one O (Ak (i:=0) (cs:=A9 (a+b)) O O isAgg75 sizeOf75 O) (λw hw=>⟨rfl,hw.out⟩))))
theorem I9 (a b:Int) (ha:nw a.natAbs<=1099511627776) (hb:nw b.natAbs<=1099511627776) (w:World)  :Calls prog 123 #[(aG (A9 a)),(aG (A9 b))] w (Ah w (aG (A9 (a*b)))):=by
 refine Ab (args:=[(aG (A9 a)),(aG (A9 b))]) func123 O O (AI O) (OkC.subF (sL [0,1] O) (q4 (Be (cs:=A9 a) O λb1=>Be (cs:=A9 b) O λb2=>al Kg O λb3=>q3 (sL [2,3,4] O) (BH 2 EE O (BH 1 EE O (ck' call178 (Ku a b (by first|omega|(simp only [Int.natAbs_neg,BA,Int.natAbs_natCast];omega)) (by first|omega|(simp only [Int.natAbs_neg,BA,Int.natAbs_natCast];omega))) O (Ax O sizeOf75 O (OkL.nil ?_))))))))
 exact OkQ.subF (sL [4] O) (OkQ.then_ (OkC.ret (ret_one O (Ak (i:=0) (cs:=A9 (a*b)) O O isAgg75 sizeOf75 O) (λw hw=>⟨rfl,hw.out⟩))))
end
def Sz (q:Rat):Nat:=max (nw q.num.natAbs) (nw q.den)
theorem Cr (q:Rat):nw q.num.natAbs<=Sz q:=Nat.le_max_left ..
theorem CZ (q:Rat):nw q.den<=Sz q:=Nat.le_max_right ..
theorem E9 (q:Rat):nw (q.den-1)<=Sz q:=Nat.le_trans (Ck (Nat.sub_le _ _)) (CZ q)
theorem W4 {q:Rat} {k:Nat} (h1:nw q.num.natAbs<=k) (h2:nw q.den<=k):Sz q<=k:=Nat.max_le.2 ⟨h1,h2⟩
theorem H4:nw 1=1:=by decide
theorem O0 (q:Rat):1<=Sz q:=Nat.le_trans (by rw [<-H4];exact Ck q.den_pos) (CZ q)
theorem JU {n:Int} {d k:Nat} (h1:nw n.natAbs<=k) (h2:nw d<=k) (hk:1<=k):Sz (mkRat n d)<=k:=by
  refine W4 ?_ ?_
  · rw [Rat.num_mkRat]
    split
    · exact Nat.zero_le _
    · refine Nat.le_trans (Ck ?_) h1
      rw [Int.natAbs_ediv_of_dvd (by rw [Int.ofNat_dvd_left];exact Nat.gcd_dvd_right ..)]
      exact Nat.div_le_self _ _
  · rw [Rat.den_mkRat]
    split
    · rw [H4];exact hk
    · exact Nat.le_trans (Ck (Nat.div_le_self _ _)) h2
theorem QF (a b:Int):nw (a*b).natAbs<=nw a.natAbs+nw b.natAbs:=by rw [Int.natAbs_mul];exact UP _ _
theorem D7 (a b:Int):nw (a+b).natAbs<=max (nw a.natAbs) (nw b.natAbs)+1:=Nat.le_trans (Ck (Int.natAbs_add_le a b)) (Xe _ _)
theorem CH (a b:Rat):nw (a.num*((b.den:Nat):Int)).natAbs<=Sz a+Sz b:=by
  have h1:=QF a.num ((b.den:Nat):Int)
  have h2:=Cr a
  have h3:=CZ b
  rw [Int.natAbs_natCast] at h1
  omega
theorem GI (a b:Rat):nw (a.den*b.den)<=Sz a+Sz b:=by
  have h1:=UP a.den b.den
  have h2:=CZ a
  have h3:=CZ b
  omega
theorem HE (a b:Rat):nw (a.num*b.num).natAbs<=Sz a+Sz b:=by
  have h1:=QF a.num b.num
  have h2:=Cr a
  have h3:=Cr b
  omega
theorem H6 (a b:Rat):mkRat (a.num*((b.den:Nat):Int)+b.num*((a.den:Nat):Int)) (a.den*b.den)=a+b:=by rw [Rat.add_def,Rat.normalize_eq_mkRat]
theorem H9 (a b:Rat):mkRat (a.num*b.num) (a.den*b.den)=a*b:=by rw [Rat.mul_def,Rat.normalize_eq_mkRat]
theorem HW {a:Rat} (h:a.den-1=0):a=((a.num:Int):Rat):=by
  have h1:a.den=1:=by have:=a.den_pos;omega
  exact Rat.ext O h1
theorem Qp {a b:Rat} (ha:a.den-1=0) (hb:b.den-1=0):((a.num+b.num:Int):Rat)=a+b:=by
  rw [Rat.intCast_add,<-HW ha,<-HW hb]
theorem R2 {a b:Rat} (ha:a.den-1=0) (hb:b.den-1=0):((a.num*b.num:Int):Rat)=a*b:=by
  rw [Rat.intCast_mul,<-HW ha,<-HW hb]
theorem UI {a b:Rat} (h:a.den-1=b.den-1):a.den=b.den:=by
  have h1:=a.den_pos
  have h2:=b.den_pos
  omega
theorem UF {a b:Rat} (h:a.den-1=b.den-1):mkRat (a.num+b.num) a.den=a+b:=by
  have h1:=UI h
  have h2:a+b=mkRat a.num a.den+mkRat b.num a.den:=by rw [Rat.mkRat_self];conv=>lhs;rw [<-Rat.mkRat_self b,<-h1]
  rw [h2,Rat.mkRat_eq_div,Rat.mkRat_eq_div,Rat.mkRat_eq_div,Rat.intCast_add,Rat.div_def,Rat.div_def,Rat.div_def,Rat.add_mul]
theorem GR (a b:Rat):Sz (a+b)<=Sz a+Sz b+1:=by
  rw [<-H6]
  have h1:=CH a b
  have h2:=CH b a
  have h3:=D7 (a.num*((b.den:Nat):Int)) (b.num*((a.den:Nat):Int))
  have h4:=GI a b
  exact JU Z Z Z
theorem GB (a b:Rat):Sz (a*b)<=Sz a+Sz b:=by
  rw [<-H9]
  have:=O0 a
  exact JU (HE a b) (GI a b) Z
theorem Dk (a:Rat):Sz (-a)=Sz a:=by unfold Sz;rw [Rat.neg_num,Rat.neg_den,Int.natAbs_neg]
theorem Mn (a b:Rat):Sz (a-b)<=Sz a+Sz b+1:=by rw [Rat.sub_eq_add_neg,<-Dk b];exact GR a (-b)
theorem IL {b:Rat} (h:b≠0):mkRat (Dq (decide (b.num.sign<0)) b.den) b.num.natAbs=b⁻¹:=by
  have hn:b.num≠0:=λe=>h (Rat.num_eq_zero.1 e)
  have hb:b=(b.num:Rat)/((b.den:Nat):Rat):=by rw [<-Rat.mkRat_eq_div,Rat.mkRat_self]
  have hd:((b.den:Nat):Rat)≠0:=by
    intro e
    have:=b.den_pos
    have h2:b.den=0:=by exact_mod_cast e
    omega
  have hn2:((b.num:Int):Rat)≠0:=by
    intro e
    exact hn (by exact_mod_cast e)
  rw [Rat.mkRat_eq_div]
  conv=>rhs;rw [hb]
  by_cases hs:b.num<0
  · have e1:decide (b.num.sign<0)=true:=by simp [Int.sign_eq_neg_one_of_neg hs]
    have e2:((b.num.natAbs:Nat):Rat) = -((b.num:Int):Rat):=by
      have:((b.num.natAbs:Nat):Int) = -b.num:=by omega
      rw [<-Rat.intCast_natCast,this,Rat.intCast_neg]
    rw [e1,e2]
    simp only [Dq,if_true,Rat.intCast_neg,Rat.intCast_natCast]
    grind
  · have e1:decide (b.num.sign<0)=false:=by
      have:0<=b.num.sign:=Int.sign_nonneg_iff.2 Z
      exact decide_eq_false Z
    have e2:((b.num.natAbs:Nat):Rat)=((b.num:Int):Rat):=by
      have:((b.num.natAbs:Nat):Int)=b.num:=by omega
      rw [<-Rat.intCast_natCast,this]
    rw [e1,e2]
    simp only [Dq,Bool.false_eq_true,if_false,Rat.intCast_natCast]
    grind
theorem PL {b:Rat} (h:b≠0):Sz b⁻¹<=Sz b:=by
  rw [<-IL h]
  exact JU (by rw [BA];exact CZ b) (Cr b) (O0 b)
theorem OS {a b:Rat} (h:b≠0):Sz (a/b)<=Sz a+Sz b:=by
  rw [Rat.div_def]
  have h1:=GB a b⁻¹
  have h2:=PL h
  omega
def au (a b:Rat):Int:=if a<b then -1 else if a=b then 0 else 1
theorem Nk (q:Rat):AZ q=A9 q.num++AS (q.den-1):=rfl
theorem Qh {n:Int} {d:Nat} (hd:d≠0):(mkRat n d).num=Dq (decide (n.sign<0)) (n.natAbs/Nat.gcd n.natAbs d):=by
  rw [Rat.num_mkRat,if_neg hd,Nat.gcd_comm]
  unfold Dq
  by_cases h:n<0
  · rw [Int.sign_eq_neg_one_of_neg h]
    have e:n = -((n.natAbs:Nat):Int):=by omega
    simp only [show decide ((-1:Int)<0)=true from rfl,if_true]
    conv=>lhs;rw [e]
    rw [Int.natAbs_neg,Int.natAbs_natCast,Int.neg_ediv_of_dvd (by rw [Int.natCast_dvd_natCast];exact Nat.gcd_dvd_left ..)]
    rfl
  · have h0:0<=n.sign:=Int.sign_nonneg_iff.2 Z
    have e:n=((n.natAbs:Nat):Int):=by omega
    rw [if_neg (by simp;omega)]
    conv=>lhs;rw [e]
    rw [Int.natAbs_natCast]
    rfl
theorem QB {n:Int} {d:Nat} (hd:d≠0):(mkRat n d).den=d/Nat.gcd n.natAbs d:=by rw [Rat.den_mkRat,if_neg hd,Nat.gcd_comm]
end Go.Proofs.YtpolhpjiahbidaaGreatDoor
