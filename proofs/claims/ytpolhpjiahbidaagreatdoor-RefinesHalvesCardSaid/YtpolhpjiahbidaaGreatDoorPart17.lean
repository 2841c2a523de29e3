import Derived.Test.YtpolhpjiahbidaaGreatDoorPart05
import Derived.Test.YtpolhpjiahbidaaGreatDoorPart09
import Derived.Test.YtpolhpjiahbidaaGreatDoorPart16
namespace Go.Proofs.YtpolhpjiahbidaaGreatDoor
open Go Go.RowKit Go.Proofs.Tryz
set_option linter.unusedVariables false
set_option linter.unusedSimpArgs false
section
set_option maxRecDepth 100000
theorem Ew {N v:Nat} (h:v<4294967296^N):val ((CK N v).take N)=v:=by
 rw [List.take_of_length_le (by rw [BZ];exact Nat.le_refl _),ET _ _ h]
theorem QF {a b:Nat} (hb:0<nw b) (h:nw b<=nw a):a/b<4294967296^(nw a+1-nw b):=by
 have h1:=G6 hb
 have h2:=Bi a
 rw [Nat.div_lt_iff_lt_mul (by have:=Nat.pow_pos (n:=nw b-1) (show 0<4294967296 by omega);omega)]
 have h3:4294967296^(nw a+1-nw b)*4294967296^(nw b-1)<=4294967296^(nw a+1-nw b)*b:=Nat.mul_le_mul_left _ h1
 rw [<-Nat.pow_add,show nw a+1-nw b+(nw b-1)=nw a by omega] at h3
 omega
theorem Py {a b:Nat}:a%b<4294967296^(nw a+1):=Nat.lt_of_le_of_lt (Nat.mod_le _ _) (Nat.lt_of_lt_of_le (Bi a) (Nat.pow_le_pow_right (by omega) (by omega)))
theorem N2 {b:Nat} (h:nw b=0):b=0:=by
 have:=Bi b
 rw [h] at this
 omega
theorem Ue {b:Nat} (h:nw b=1):(Am b).getD 0 0=b/\b<4294967296:=by
 have h1:=Bi b
 rw [h] at h1
 refine ⟨?_,by omega⟩
 rw [DA (by omega),Gs,Nat.pow_zero,Nat.div_one,Nat.mod_eq_of_lt (by omega)]
theorem KG  :Instr.fill ([(0,1),(1,1)].toArray[·]?) (AS 0).toArray []=some (AS 0).toArray:=by kernel_rfl
theorem OU (a b:Nat) (ha:nw a<=1099511627776) (hb:nw b<=1099511627776) (hb0:b≠0) (w:World)  :Calls Tryz.prog 203 #[(aG (AS a)),(aG (AS b))] w (Ai w (Value.tuple #[(aG (AS (a/b))),(aG (AS (a%b))),(Value.bool true)])):=by
 have hnb:nw b≠0:=λh=>hb0 (N2 h)
 have hla:=B1 a
 have hlb:=B1 b
 refine AZ (args:=[(aG (AS a)),(aG (AS b))]) Tryz.func203 rfl rfl (AK rfl) (OkC.subF (sL [0,1] rfl) (q4 (Bg (cs:=AS a) rfl λb1=>Bg (cs:=AS b) rfl λb2=>al FV rfl λb3=>al FV rfl λb4=>asg' rfl (q6 (sL [2,3,4,5,6] rfl) (OkC.block (q4 (BU 2 Bw rfl ?_)))))))
 refine ck' Tryz.call241 (PG b) rfl (asg' rfl (OkL.nil (OkQ.subF (sL [2,3,4,5,6,12] rfl) (OkQ.then_ ?_))))
 refine OkC.cond rfl (λhc0=>?_) (λhc0=>?_)
 ·replace hc0:=of_decide_eq_true hc0
  exact absurd hc0 hb0
 ·replace hc0:=of_decide_eq_false hc0
  refine q4 (BU 3 Bw rfl (BU 2 Bw rfl (ck' Tryz.call242 (Ri a b (by omega) (by omega)) rfl (AG (Af (c:=(decide ((Cp a b)<(0:Int)))) rfl rfl rfl) rfl (asg' rfl (OkL.nil (OkQ.subF (sL [2,3,4,5,6,17] rfl) (OkQ.then_ ?_))))))))
  refine OkC.cond rfl (λhc1=>?_) (λhc1=>?_)
  ·replace hc1:=of_decide_eq_true hc1
   rw [Ej] at hc1
   have e1:a/b=0:=Nat.div_eq_of_lt hc1
   have e2:a%b=a:=Nat.mod_eq_of_lt hc1
   refine OkC.seq (CV [(0,true),(1,true),(2,false),(3,false),(4,true)] (sl (sl sr)) (Ag (v:=(aG (AS 0))) rfl (AR (zs:=AS 0) (vs:=AS 0) (pv:=[]) (places:=[(0,1),(1,1)]) Tryz.zeroValue71 Tryz.underlying71 (λw=>by simp [Tryz.sizeOf9,Tryz.sizeOf69]) rfl (KG )) (Ec 1 Bw rfl (OkE.imp rfl (Dw rfl Tryz.sizeOf71 rfl (OkE.back (sl (sl sr)) (OkE.imp rfl (Ay rfl Tryz.sizeOf71 rfl (OkE.back (sl (sl sr)) (pS' rfl (OkE.nil ?_)))))))))))
   exact OkQ.subF (sL [2,3,4,5,6] rfl) (OkQ.then_ (OkC.ret (OkQ.in_ret (OkQ.then_ret (FH rfl (Aj (i:=1) (cs:=AS 0) rfl rfl Tryz.isAgg71 Tryz.sizeOf71 rfl) (Aj (i:=0) (cs:=AS a) rfl rfl Tryz.isAgg71 Tryz.sizeOf71 rfl) (rd_tmp (v:=(Value.bool true)) rfl) (λw hw=>⟨by rw [e1,e2],hw.out⟩))))))
  ·replace hc1:=of_decide_eq_false hc1
   rw [Ej] at hc1
   have hba:nw b<=nw a:=Ca (by omega)
   refine q4 (AG (v:=(pP b1 1)) (AA rfl Tryz.underlying71 rfl Tryz.sizeOf9 rfl) rfl (Aw 3 (Value.string (Bd a)) Q5 rfl (AG (Bf (c:=(decide (a<18446744073709551616))) rfl rfl CI) rfl (asg' rfl (OkL.nil (OkQ.subF (sL [2,3,4,5,6,24] rfl) (OkQ.then_ ?_)))))))
   refine OkC.cond rfl (λhc2=>?_) (λhc2=>?_)
   ·replace hc2:=of_decide_eq_true hc2
    have la:Bo a=a:=BY hc2
    have lb:Bo b=b:=BY (by omega)
    have q1:a/b<18446744073709551616:=Nat.lt_of_le_of_lt (Nat.div_le_self _ _) hc2
    have q2:a%b<18446744073709551616:=Nat.lt_of_le_of_lt (Nat.mod_le _ _) hc2
    refine OkC.seq (CV [(0,true),(1,true),(2,true),(3,true),(4,true),(5,true),(6,true),(7,true),(8,true),(9,true),(10,true),(11,true),(12,false),(13,false),(14,true)] (sl (sl sr)) (Ag (v:=(pP b1 0)) rfl (AA rfl Tryz.underlying71 rfl Tryz.sizeOf69 rfl) (BQ 1 (vK .u64 (Bo a)) F9 rfl (Ag (v:=(pP b2 0)) rfl (AA rfl Tryz.underlying71 rfl Tryz.sizeOf69 rfl) (BQ 0 (vK .u64 (Bo b)) F9 rfl (Ag rfl (EP (c:=(((Bo a)/(Bo b):Nat):Int)) rfl rfl (by omega) (G9 (a:=Bo a) (b:=Bo b) (by omega))) (Ag (v:=(aG ([(vK .u64 ((Bo a)/(Bo b))),(Value.string (Bd 0))]))) rfl (AR (zs:=AS 0) (vs:=[(vK .u64 ((Bo a)/(Bo b))),(Value.string (Bd 0))]) (pv:=[(0,(vK .u64 ((Bo a)/(Bo b))))]) (places:=[(0,1),(1,1)]) Tryz.zeroValue71 Tryz.underlying71 (λw=>by simp [Tryz.sizeOf9,Tryz.sizeOf69]) rfl rfl) (Ag (v:=(pP b1 0)) rfl (AA rfl Tryz.underlying71 rfl Tryz.sizeOf69 rfl) (BQ 1 (vK .u64 (Bo a)) F9 rfl (Ag (v:=(pP b2 0)) rfl (AA rfl Tryz.underlying71 rfl Tryz.sizeOf69 rfl) (BQ 0 (vK .u64 (Bo b)) F9 rfl ?_)))))))))))
    refine Ag rfl (De (c:=(((Bo a)%(Bo b):Nat):Int)) rfl rfl (by omega) (Nu (a:=Bo a) (b:=Bo b))) (Ag (v:=(aG ([(vK .u64 ((Bo a)%(Bo b))),(Value.string (Bd 0))]))) rfl (AR (zs:=AS 0) (vs:=[(vK .u64 ((Bo a)%(Bo b))),(Value.string (Bd 0))]) (pv:=[(0,(vK .u64 ((Bo a)%(Bo b))))]) (places:=[(0,1),(1,1)]) Tryz.zeroValue71 Tryz.underlying71 (λw=>by simp [Tryz.sizeOf9,Tryz.sizeOf69]) rfl rfl) (OkE.imp rfl (Dw rfl Tryz.sizeOf71 rfl (OkE.back (sl (sl sr)) (OkE.imp rfl (Ay rfl Tryz.sizeOf71 rfl (OkE.back (sl (sl sr)) (pS' rfl (OkE.nil (OkQ.subF (sL [2,3,4,5,6] rfl) (OkQ.then_ ?_)))))))))))
    exact OkC.ret (OkQ.in_ret (OkQ.then_ret (FH rfl (Aj (i:=1) (cs:=[(vK .u64 ((Bo a)/(Bo b))),(Value.string (Bd 0))]) rfl rfl Tryz.isAgg71 Tryz.sizeOf71 rfl) (Aj (i:=0) (cs:=[(vK .u64 ((Bo a)%(Bo b))),(Value.string (Bd 0))]) rfl rfl Tryz.isAgg71 Tryz.sizeOf71 rfl) (rd_tmp (v:=(Value.bool true)) rfl) (λw hw=>⟨by rw [DG q1,DG q2,la,lb];rfl,hw.out⟩))))
   ·replace hc2:=of_decide_eq_false hc2
    refine OkC.skip (OkQ.in_normal (q2 (BU 2 Bw rfl (OkL.callB (V:=λb5=>(Value.slice (some ⟨b5,0,none⟩) (nw b) ((Am b).length))) (T:=92) (cs:=Ae (Am b)) (AP rfl) (Ap (args:=[(aG (AS b))]) rfl rfl Tryz.call187) (λw hw=>Cu b (by omega) w) rfl (AK rfl) λb5=>asg' rfl (q6 (sL [2,3,4,5,6,7] rfl) (q4 (AO rfl (AG (v:=(vN (nw b))) (AD rfl Tryz.underlying255) rfl (AG (BE (c:=(decide ((nw b)=1))) rfl rfl (L5 (a:=nw b) (b:=1))) rfl (OkL.nil ?_))))))))))
    refine OkQ.subF (sL [2,3,4,5,6,7,44] rfl) (OkQ.then_ ?_)
    refine OkC.cond rfl (λhc3=>?_) (λhc3=>?_)
    ·replace hc3:=of_decide_eq_true hc3
     obtain ⟨hy,hy2⟩:=Ue hc3
     refine OkC.seq (CV [(0,true),(2,true),(3,true),(4,true),(1,false),(5,false),(6,true),(7,true),(8,true),(9,true),(10,true)] sr (Ec 4 Bw rfl (BN rfl (Ag (v:=(pP b5 0)) rfl (AL (j:=0) rfl rfl Tryz.underlying255 Tryz.sizeOf92 rfl (by omega) rfl) ?_))))
     have hx1:(Am b).getD 0 0<4294967296:=W32.getD (B2 b) 0
     refine Ag rfl (AE (i:=0) (v:=(vK .u32 ((Am b).getD 0 0))) rfl rfl Tryz.isAgg92 (A6 (xs:=Am b) (j:=0) (by omega))) (OkE.imp rfl (OkL.callB (V:=λb6=>(Value.slice (some ⟨b6,0,none⟩) (nw a) ((Am a).length))) (T:=92) (cs:=Ae (Am a)) (AP rfl) (Ap (args:=[(aG (AS a))]) rfl rfl Tryz.call187) (λw hw=>Cu a (by omega) w) rfl (AK rfl) λb6=>OkE.back (sl sr) (OkE.imp rfl (OkL.callB (V:=λb7=>(Value.tuple #[(Value.slice (some ⟨b7,0,none⟩) (nw a) (nw a)),(vK .u32 (a%((Am b).getD 0 0)))])) (T:=92) (cs:=Ae (CK (nw a) (a/((Am b).getD 0 0)))) (AP rfl) (Ap (args:=[(Value.slice (some ⟨b6,0,none⟩) (nw a) ((Am a).length)),(vK .u32 ((Am b).getD 0 0))]) rfl rfl Tryz.call188) (λw hw=>RS a ((Am b).getD 0 0) _ _ (by omega) (by omega) (by omega) w (hw.get (i:=0) rfl)) rfl (AK rfl) λb7=>OkE.back (sl (sl sr)) (BN rfl (Ag rfl (AV (v:=(Value.slice (some ⟨b7,0,none⟩) (nw a) (nw a))) rfl rfl) (Ag rfl (AV (v:=(vK .u32 (a%((Am b).getD 0 0)))) rfl rfl) (pS' rfl (pS' rfl ?_)))))))))
     refine OkE.nil (OkQ.subF (sL [2,3,4,5,6,7,8,9] rfl) (q2 (AO rfl (Cq Tryz.call206 (λw hw=>II _ (nw a) (nw a) (CK (nw a) (a/((Am b).getD 0 0))) (DP _ _) (by first|omega|(rw [BZ];omega)|simp|(simp;omega)) (by first|omega|simp|(simp;omega)) (by first|omega|simp|(simp;omega)) w (hw.get (i:=0) rfl)) rfl (OkL.retell (k:=55) (u:=(aG (AS (a/b)))) rfl (by rw [hy,Ew (Nat.lt_of_le_of_lt (Nat.div_le_self _ _) (Bi a))]) (AO rfl ?_))))))
     have hmb:a%(Am b).getD 0 0<4294967296:=by rw [hy];exact Nat.lt_of_lt_of_le (Nat.mod_lt _ (by omega)) (by omega)
     exact AG (Ar (c:=((a%((Am b).getD 0 0):Nat):Int)) rfl Tryz.underlying92 Tryz.underlying69 (BG (by omega))) rfl (AG (v:=(aG ([(vK .u64 (a%((Am b).getD 0 0))),(Value.string (Bd 0))]))) (AR (zs:=AS 0) (vs:=[(vK .u64 (a%((Am b).getD 0 0))),(Value.string (Bd 0))]) (pv:=[(0,(vK .u64 (a%((Am b).getD 0 0))))]) (places:=[(0,1),(1,1)]) Tryz.zeroValue71 Tryz.underlying71 (λw=>by simp [Tryz.sizeOf9,Tryz.sizeOf69]) rfl rfl) rfl (OkL.retell (k:=58) (u:=(aG (AS (a%b)))) rfl (by rw [hy] at hmb ⊢;rw [DG (by omega)];rfl) (FZ 4 (off:=0) (vs:=AS (a/b)) (cs':=AS (a/b)) (AP rfl) rfl Tryz.sizeOf71 rfl (ML rfl Tryz.sizeOf71 rfl (asg' rfl (OkL.nil (OkQ.subF (sL [2,3,4,5,6,7] rfl) (OkQ.then_ (OkC.ret (OkQ.then_ret (FH rfl (Aj (i:=4) (cs:=AS (a/b)) rfl rfl Tryz.isAgg71 Tryz.sizeOf71 rfl) (Aj (i:=3) (cs:=AS (a%b)) rfl rfl Tryz.isAgg71 Tryz.sizeOf71 rfl) (rd_tmp (v:=(Value.bool true)) rfl) (λw hw=>⟨rfl,hw.out⟩))))))))))))
    ·replace hc3:=of_decide_eq_false hc3
     refine OkC.skip (q2 (BU 4 Bw rfl (OkL.callB (V:=λb6=>(Value.slice (some ⟨b6,0,none⟩) (nw a) ((Am a).length))) (T:=92) (cs:=Ae (Am a)) (AP rfl) (Ap (args:=[(aG (AS a))]) rfl rfl Tryz.call187) (λw hw=>Cu a (by omega) w) rfl (AK rfl) λb6=>AO rfl (OkL.callBB (V:=λb7 b8=>(Value.tuple #[(Value.slice (some ⟨b7,0,none⟩) (nw a+1-nw b) (nw a+1-nw b)),(Value.slice (some ⟨b8,0,none⟩) (nw a+1) (nw a+1))])) (T:=92) (cs:=Ae (CK (nw a+1-nw b) (a/b))) (T2:=92) (cs2:=Ae (CK (nw a+1) (a%b))) (AP rfl) (Ap (args:=[(Value.slice (some ⟨b6,0,none⟩) (nw a) ((Am a).length)),(Value.slice (some ⟨b5,0,none⟩) (nw b) ((Am b).length))]) rfl rfl Tryz.call243) (λw hw=>U7 a b _ _ _ _ (by omega) (by omega) (by omega) w (hw.get (i:=0) rfl) (hw.get (i:=1) rfl)) rfl (AK rfl) λb7 b8=>AO rfl (AG (AV (v:=(Value.slice (some ⟨b7,0,none⟩) (nw a+1-nw b) (nw a+1-nw b))) rfl rfl) rfl (AG (AV (v:=(Value.slice (some ⟨b8,0,none⟩) (nw a+1) (nw a+1))) rfl rfl) rfl (asg' rfl (asg' rfl (q3 (sL [2,3,4,5,6,7,10,11] rfl) ?_)))))))))
     refine AO rfl (Cq Tryz.call206 (λw hw=>II _ (nw a+1-nw b) (nw a+1-nw b) (CK (nw a+1-nw b) (a/b)) (DP _ _) (by first|omega|(rw [BZ];omega)|simp|(simp;omega)) (by first|omega|simp|(simp;omega)) (by first|omega|simp|(simp;omega)) w (hw.get (i:=0) rfl)) rfl (OkL.retell (k:=67) (u:=(aG (AS (a/b)))) rfl (by rw [Ew (QF (by omega) hba)]) (AO rfl (Cq Tryz.call206 (λw hw=>II _ (nw a+1) (nw a+1) (CK (nw a+1) (a%b)) (DP _ _) (by first|omega|(rw [BZ];omega)|simp|(simp;omega)) (by first|omega|simp|(simp;omega)) (by first|omega|simp|(simp;omega)) w (hw.get (i:=1) rfl)) rfl (OkL.retell (k:=69) (u:=(aG (AS (a%b)))) rfl (by rw [Ew Py]) (FZ 5 (off:=0) (vs:=AS (a/b)) (cs':=AS (a/b)) (AP rfl) rfl Tryz.sizeOf71 rfl (FZ 4 (off:=0) (vs:=AS (a%b)) (cs':=AS (a%b)) (AP rfl) rfl Tryz.sizeOf71 rfl (asg' rfl (OkL.nil (OkQ.subF (sL [2,3,4,5,6,7] rfl) (OkQ.then_ ?_)))))))))))
     exact OkC.ret (FH rfl (Aj (i:=5) (cs:=AS (a/b)) rfl rfl Tryz.isAgg71 Tryz.sizeOf71 rfl) (Aj (i:=4) (cs:=AS (a%b)) rfl rfl Tryz.isAgg71 Tryz.sizeOf71 rfl) (rd_tmp (v:=(Value.bool true)) rfl) (λw hw=>⟨rfl,hw.out⟩))
theorem WR (a b:Nat) (ha:nw a<=1099511627776) (hb:nw b<=1099511627776) (w:World)  :Calls Tryz.prog 201 #[(aG (AS a)),(aG (AS b))] w (Ai w (aG (AS (Nat.gcd a b)))):=by
 refine AZ (args:=[(aG (AS a)),(aG (AS b))]) Tryz.func201 rfl rfl (AK rfl) (OkC.subF (sL [0,1] rfl) (q4 (Bg (cs:=AS a) rfl λb1=>Bg (cs:=AS b) rfl λb2=>al FV rfl λb3=>q6 (sL [2,3,4] rfl) (OkC.block ?_))))
 refine OkC.lp2 (tg λ(x:Nat) (y:Nat)=>Nat.gcd x y=Nat.gcd a b/\nw x<=1099511627776/\nw y<=1099511627776) (tg λ(x:Nat) (y:Nat)=>[(2,(pP b1 0)),(3,(pP b2 0)),(4,(pP b3 0))]) (tg λ(x:Nat) (y:Nat)=>[AX b3 71 (AS 0),AX b2 71 (AS y),AX b1 71 (AS x)]) (tg λ(x:Nat) (y:Nat)=>y) a b (⟨rfl,ha,hb⟩) (sF rfl) sr (λx y hJ=>?_)
 obtain ⟨hg,hx,hy⟩:=hJ
 refine OkC.seq (q4 (BU 1 Bw rfl (ck' Tryz.call241 (PG y) rfl (AG (Be (c:=(!(decide (y=0)))) rfl rfl) rfl (OkL.nil (OkQ.subF (sL [2,3,4,10] rfl) (OkQ.then_ ?_)))))))
 refine OkC.cond rfl (λhc0=>?_) (λhc0=>?_)
 ·simp only [Bool.and_eq_true,Bool.or_eq_true,Bool.and_eq_false_iff,Bool.or_eq_false_iff,Bool.not_eq_true',Bool.not_eq_false',decide_eq_true_eq,decide_eq_false_iff_not] at hc0
  refine OkC.skip (OkQ.then_ (OkC.block (q4 (BU 2 Bw rfl (BU 1 Bw rfl (ck' Tryz.call203 (OU x y (by omega) (by omega) (by omega)) rfl (AO rfl (AG (AV (v:=(aG (AS (x/y)))) rfl rfl) rfl (AG (AV (v:=(aG (AS (x%y)))) rfl rfl) rfl (AG (AV (v:=(Value.bool true)) rfl rfl) rfl (al FV rfl λb4=>?_)))))))))))
  refine al FV rfl λb5=>Dw rfl Tryz.sizeOf71 rfl (Ay rfl Tryz.sizeOf71 rfl (asg' rfl (OkL.nil (OkQ.subF (sL [2,3,4,6] rfl) (OkQ.then_ (CV [(1,true),(0,false),(2,false),(3,false)] (sk (sk (sk (sl (sl sr))))) (Ec 0 Bw rfl (OkE.imp rfl (BU 3 Bw rfl (OkE.back (sk (sk (sk (sl (sl sr))))) ?_))))))))))
  exact OkE.imp rfl (FZ 4 (off:=0) (vs:=AS y) (cs':=AS y) (AP rfl) rfl Tryz.sizeOf71 rfl (OkE.back (sk (sk (sk (sl (sl sr))))) (OkE.imp rfl (ML rfl Tryz.sizeOf71 rfl (OkE.back (sk (sk (sk (sl (sl sr))))) (OkE.nil (OkQ.subF (sL [2,3,4,6] rfl) (OkQ.in_normal (OkQ.round2 y (x%y) (⟨by rw [<-hg,Nat.gcd_comm x y,Nat.gcd_rec y x,Nat.gcd_comm],hy,Nat.le_trans (Ca (Nat.mod_le _ _)) hx⟩) (Nat.mod_lt _ (by omega)) (sF rfl) (sl (sl sr)))))))))))
 ·simp only [Bool.and_eq_true,Bool.or_eq_true,Bool.and_eq_false_iff,Bool.or_eq_false_iff,Bool.not_eq_true',Bool.not_eq_false',decide_eq_true_eq,decide_eq_false_iff_not] at hc0
  have hy0:y=0:=by omega
  have hxg:x=Nat.gcd a b:=by rw [<-hg,hy0,Nat.gcd_zero_right]
  exact OkC.exit (OkQ.then_exit (OkQ.round2_exit (OkQ.in_exit (q2 (BU 2 Bw rfl (Ay rfl Tryz.sizeOf71 rfl (OkL.nil (OkQ.subF (sL [2,3,4] rfl) (OkQ.then_ (OkC.ret (ret_one rfl (Aj (i:=0) (cs:=AS x) rfl rfl Tryz.isAgg71 Tryz.sizeOf71 rfl) (λw hw=>⟨by rw [hxg],hw.out⟩))))))))))))
end
section
set_option maxRecDepth 100000
theorem KJ  :Instr.fill ([(0,2)].toArray[·]?) (AS 0).toArray []=some (AS 0).toArray:=by kernel_rfl
theorem HB (n:Nat) (w:World)  :Calls Tryz.prog 217 #[(aG (AS n))] w (Ai w (Value.bool (decide (n=0)))):=by
 refine AZ (args:=[(aG (AS n))]) Tryz.func217 rfl rfl (AK rfl) (OkC.subF (sL [0] rfl) (q4 (Bg (cs:=AS n) rfl λb1=>asg' rfl (q3 (sL [1,2] rfl) (BU 0 Qs rfl (AG (v:=(aG (AS 0))) (AR (zs:=AS 0) (vs:=AS 0) (pv:=[]) (places:=[(0,2)]) Tryz.zeroValue73 Tryz.underlying73 (λw=>by simp [Tryz.sizeOf71]) rfl (KJ )) rfl (AG (Bv (c:=(decide (n=0))) rfl rfl Tryz.eqGuardType73 (Md 9997 n 0)) rfl (asg' rfl (OkL.nil (OkQ.subF (sL [2] rfl) ?_))))))))))
 exact OkQ.then_ (OkC.ret (ret_one rfl (rd_tmp (v:=(Value.bool (decide (n=0)))) rfl) (λw hw=>⟨rfl,hw.out⟩)))
theorem Eb (x0:Nat):Instr.fill ([(0,2)].toArray[·]?) (AS 0).toArray [(0,.agg (AS x0).toArray)]=some (AS x0).toArray:=by kernel_rfl
theorem QV (n:Nat) (w:World)  :Calls Tryz.prog 171 #[(Value.bool true),(aG (AS n))] w (Ai w (aG (A7 (Dc true n)))):=by
 refine AZ (args:=[(Value.bool true),(aG (AS n))]) Tryz.func171 rfl rfl (AK rfl) (OkC.subF (sL [0,1] rfl) (q4 (Bg (cs:=AS n) rfl λb1=>al KE rfl λb2=>q3 (sL [0,3,4] rfl) (BU 1 Bw rfl (AG (v:=(aG (AS n))) (AR (zs:=AS 0) (vs:=AS n) (pv:=[(0,(aG (AS n)))]) (places:=[(0,2)]) Tryz.zeroValue73 Tryz.underlying73 (λw=>by simp [Tryz.sizeOf71]) rfl (Eb n)) rfl (al XN rfl λb3=>Ay rfl Tryz.sizeOf73 rfl (q6 (sL [0,4,5] rfl) (CV [(0,true),(1,true),(2,true),(3,true),(4,false),(5,true),(6,true),(7,true),(8,false)] (sk (sl sr)) ?_))))))))
 refine Ec 0 Qs rfl (BN rfl (BN rfl (OkE.pas (v:=(aG (AS n))) rfl (AB rfl) (BA (i:=0) (vs:=AS n) rfl rfl Qs.a Qs.s rfl rfl) rfl rfl (OkE.imp rfl (OkL.call (v:=(Value.bool (decide (n=0)))) (AB rfl) (Ap (args:=[(aG (AS n))]) rfl rfl Tryz.call217) (λw hw=>HB n w) rfl (AK rfl) (OkE.back (sk (sl sr)) (OkE.pas (v:=(Value.bool (!(decide (n=0))))) rfl (AB rfl) (Be (c:=(!(decide (n=0)))) rfl rfl) rfl rfl (Ag (v:=(Value.bool (!(decide (n=0))))) rfl (AN rfl rfl) (Ag (v:=(aG (AS n++[(Value.bool (!(decide (n=0))))]))) rfl (AR (zs:=A7 0) (vs:=AS n++[(Value.bool (!(decide (n=0))))]) (pv:=[(0,(aG (AS n))),(1,(Value.bool (!(decide (n=0)))))]) (places:=[(0,2),(2,1)]) Tryz.zeroValue75 Tryz.underlying75 (λw=>by simp [Tryz.sizeOf4,Tryz.sizeOf73]) rfl rfl) (OkE.imp rfl (Dw rfl Tryz.sizeOf75 rfl ?_)))))))))))
 exact OkE.back (sk (sl sr)) (OkE.nil (OkQ.subF (sL [4,5] rfl) (OkQ.then_ (OkC.ret (ret_one rfl (Aj (i:=1) (cs:=AS n++[(Value.bool (!(decide (n=0))))]) rfl rfl Tryz.isAgg75 Tryz.sizeOf75 rfl) (λw hw=>⟨by rw [SB],hw.out⟩))))))
theorem N5 (n:Nat) (w:World)  :Calls Tryz.prog 171 #[(Value.bool false),(aG (AS n))] w (Ai w (aG (A7 (Dc false n)))):=by
 refine AZ (args:=[(Value.bool false),(aG (AS n))]) Tryz.func171 rfl rfl (AK rfl) (OkC.subF (sL [0,1] rfl) (q4 (Bg (cs:=AS n) rfl λb1=>al KE rfl λb2=>q3 (sL [0,3,4] rfl) (BU 1 Bw rfl (AG (v:=(aG (AS n))) (AR (zs:=AS 0) (vs:=AS n) (pv:=[(0,(aG (AS n)))]) (places:=[(0,2)]) Tryz.zeroValue73 Tryz.underlying73 (λw=>by simp [Tryz.sizeOf71]) rfl (Eb n)) rfl (al XN rfl λb3=>Ay rfl Tryz.sizeOf73 rfl (q6 (sL [0,4,5] rfl) (CV [(0,true),(1,true),(2,true),(3,true),(4,false),(5,true),(6,true),(7,true),(8,false)] (sk (sl sr)) ?_))))))))
 refine Ec 0 Qs rfl (BN rfl (BN rfl (OkE.skp rfl (AC rfl) rfl rfl (OkE.imp rfl (OkL.skip (AC rfl) rfl (AK rfl) (OkE.back (sk (sl sr)) (OkE.skp rfl (AC rfl) rfl rfl (Ag (v:=(Value.bool false)) rfl (AJ rfl rfl) (Ag (v:=(aG (AS n++[(Value.bool false)]))) rfl (AR (zs:=A7 0) (vs:=AS n++[(Value.bool false)]) (pv:=[(0,(aG (AS n))),(1,(Value.bool false))]) (places:=[(0,2),(2,1)]) Tryz.zeroValue75 Tryz.underlying75 (λw=>by simp [Tryz.sizeOf4,Tryz.sizeOf73]) rfl rfl) (OkE.imp rfl (Dw rfl Tryz.sizeOf75 rfl ?_)))))))))))
 exact OkE.back (sk (sl sr)) (OkE.nil (OkQ.subF (sL [4,5] rfl) (OkQ.then_ (OkC.ret (ret_one rfl (Aj (i:=1) (cs:=AS n++[(Value.bool false)]) rfl rfl Tryz.isAgg75 Tryz.sizeOf75 rfl) (λw hw=>⟨by rw [Sr],hw.out⟩))))))
theorem EE (neg:Bool) (n:Nat) (w:World):Calls Tryz.prog 171 #[.bool neg,.agg (AS n).toArray] w (Ai w (.agg (A7 (Dc neg n)).toArray)):=by
 cases neg
 ·exact N5 n w
 ·exact QV n w
theorem WF (z:Int) (hz:-9223372036854775808<=z) (hz2:z<9223372036854775808) (w:World)  :Calls Tryz.prog 109 #[(vI z)] w (Ai w (aG (A7 z))):=by
 refine AZ (args:=[(vI z)]) Tryz.func109 rfl rfl (AK rfl) (OkC.subF (sL [0] rfl) (q4 (al KE rfl λb1=>OkL.nil (q1 (q4 (AO rfl (AG (Af (c:=(decide (z<(0:Int)))) rfl rfl rfl) rfl (OkL.nil (OkQ.subF (sL [0,2,4] rfl) (OkQ.then_ ?_))))))))))
 refine OkC.cond rfl (λhc0=>?_) (λhc0=>?_)
 ·replace hc0:=of_decide_eq_true hc0
  have he:=F5 hc0
  exact q4 (AO rfl (AG (Ar (c:=(IntKind.u64.wrap z)) rfl Tryz.underlying2 Tryz.underlying69 (rfl)) rfl (AG (TB (c:=((z.natAbs:Nat):Int)) rfl (by rw [Int.zero_sub];exact Y8 hc0 hz)) rfl (ck' Tryz.call172 (Ip z.natAbs (by omega)) rfl (ck' Tryz.call171 (EE true z.natAbs) rfl (Ay rfl Tryz.sizeOf75 rfl (OkL.nil (OkQ.subF (sL [0,2] rfl) (OkQ.then_ (OkC.ret (OkQ.then_ret (ret_one rfl (Aj (i:=0) (cs:=A7 (Dc true z.natAbs)) rfl rfl Tryz.isAgg75 Tryz.sizeOf75 rfl) (λw hw=>⟨by rw [he],hw.out⟩)))))))))))))
 ·replace hc0:=of_decide_eq_false hc0
  have he:=Kj hc0
  exact OkC.skip (q2 (AO rfl (AG (Ar (c:=((z.natAbs:Nat):Int)) rfl Tryz.underlying2 Tryz.underlying69 (by rw [Cy (by omega) (by omega)];omega)) rfl (ck' Tryz.call172 (Ip z.natAbs (by omega)) rfl (ck' Tryz.call171 (EE false z.natAbs) rfl (Ay rfl Tryz.sizeOf75 rfl (OkL.nil (OkQ.subF (sL [0,2] rfl) (OkQ.then_ (OkC.ret (ret_one rfl (Aj (i:=0) (cs:=A7 (Dc false z.natAbs)) rfl rfl Tryz.isAgg75 Tryz.sizeOf75 rfl) (λw hw=>⟨by rw [he],hw.out⟩))))))))))))
theorem Lj (a:Int) (w:World)  :Calls Tryz.prog 202 #[(aG (A7 a))] w (Ai w (aG (AS a.natAbs))):=by
 refine AZ (args:=[(aG (A7 a))]) Tryz.func202 rfl rfl (AK rfl) (OkC.subF (sL [0] rfl) (q4 (Bg (cs:=A7 a) rfl λb1=>al FV rfl λb2=>q3 (sL [1,2] rfl) (AG (v:=(pP b1 0)) (AA rfl Tryz.underlying75 rfl Tryz.sizeOf73 rfl) rfl (AG (v:=(pP b1 0)) (AA rfl Tryz.underlying73 rfl Tryz.sizeOf71 rfl) rfl (EX 1 (AS a.natAbs) Bw rfl (Ay rfl Tryz.sizeOf71 rfl (OkL.nil (OkQ.subF (sL [2] rfl) ?_)))))))))
 exact OkQ.then_ (OkC.ret (ret_one rfl (Aj (i:=0) (cs:=AS a.natAbs) rfl rfl Tryz.isAgg71 Tryz.sizeOf71 rfl) (λw hw=>⟨rfl,hw.out⟩)))
theorem ME (a:Int) (w:World)  :Calls Tryz.prog 176 #[(aG (A7 a))] w (Ai w (vI a.sign)):=by
 refine AZ (args:=[(aG (A7 a))]) Tryz.func176 rfl rfl (AK rfl) (OkC.subF (sL [0] rfl) (q4 (Bg (cs:=A7 a) rfl λb1=>asg' rfl (q6 (sL [1,2] rfl) (OkC.block (q4 (AG (v:=(pP b1 0)) (AA rfl Tryz.underlying75 rfl Tryz.sizeOf73 rfl) rfl (EX 0 (AS a.natAbs) Qs rfl (ck' Tryz.call217 (HB a.natAbs) rfl (asg' rfl ?_))))))))))
 refine OkL.nil (OkQ.subF (sL [1,2,3] rfl) (OkQ.then_ ?_))
 refine OkC.cond rfl (λhc0=>?_) (λhc0=>?_)
 ·replace hc0:=of_decide_eq_true hc0
  have he:a.sign=0:=by rw [show a=0 by omega];rfl
  exact q4 (asg' rfl (OkL.nil (OkQ.then_ (OkC.ret (OkQ.in_ret (OkQ.then_ret (ret_one rfl (rd_tmp (v:=(vI 0)) rfl) (λw hw=>⟨by rw [he],hw.out⟩))))))))
 ·replace hc0:=of_decide_eq_false hc0
  refine q4 (AG (v:=(pP b1 2)) (AA rfl Tryz.underlying75 rfl Tryz.sizeOf4 rfl) rfl (Aw 0 (Value.bool (decide (a<0))) KL rfl (asg' rfl (OkL.nil (OkQ.subF (sL [1,2,7] rfl) (OkQ.then_ ?_))))))
  refine OkC.cond rfl (λhc1=>?_) (λhc1=>?_)
  ·replace hc1:=of_decide_eq_true hc1
   have he:a.sign = -1:=Int.sign_eq_neg_one_of_neg hc1
   exact q4 (asg' rfl (OkL.nil (OkQ.then_ (OkC.ret (OkQ.in_ret (OkQ.then_ret (ret_one rfl (rd_tmp (v:=(vI (-1:Int))) rfl) (λw hw=>⟨by rw [he],hw.out⟩))))))))
  ·replace hc1:=of_decide_eq_false hc1
   have he:a.sign=1:=Int.sign_eq_one_of_pos (by omega)
   exact OkC.skip (OkQ.in_normal (q2 (asg' rfl (OkL.nil (OkQ.then_ (OkC.ret (ret_one rfl (rd_tmp (v:=(vI 1)) rfl) (λw hw=>⟨by rw [he],hw.out⟩))))))))
theorem VI (a b:Int) (ha:nw a.natAbs<=1099511627776) (hb:nw b.natAbs<=1099511627776) (w:World)  :Calls Tryz.prog 200 #[(aG (A7 a)),(aG (A7 b))] w (Ai w (aG (A7 (a+b)))):=by
 refine AZ (args:=[(aG (A7 a)),(aG (A7 b))]) Tryz.func200 rfl rfl (AK rfl) (OkC.subF (sL [0,1] rfl) (q4 (Bg (cs:=A7 a) rfl λb1=>Bg (cs:=A7 b) rfl λb2=>al KE rfl λb3=>q6 (sL [2,3,4] rfl) (q4 (AG (v:=(pP b1 2)) (AA rfl Tryz.underlying75 rfl Tryz.sizeOf4 rfl) rfl (Aw 2 (Value.bool (decide (a<0))) KL rfl (AG (v:=(pP b2 2)) (AA rfl Tryz.underlying75 rfl Tryz.sizeOf4 rfl) rfl (Aw 1 (Value.bool (decide (b<0))) KL rfl ?_))))))))
 refine AG (IP (c:=(decide (a<0) == decide (b<0))) rfl rfl Tryz.underlying4 rfl) rfl (OkL.nil (OkQ.subF (sL [2,3,4,13] rfl) (OkQ.then_ ?_)))
 refine OkC.cond rfl (λhc0=>?_) (λhc0=>?_)
 ·skip
  have he:=HS hc0
  refine OkC.seq (CV [(0,true),(1,true),(2,true),(3,true),(4,true),(5,true),(6,true),(7,true),(8,false),(9,false),(10,false)] (sl sr) (Ag (v:=(pP b1 2)) rfl (AA rfl Tryz.underlying75 rfl Tryz.sizeOf4 rfl) (BQ 1 (Value.bool (decide (a<0))) KL rfl (Ag (v:=(pP b1 0)) rfl (AA rfl Tryz.underlying75 rfl Tryz.sizeOf73 rfl) (Ag (v:=(pP b1 0)) rfl (AA rfl Tryz.underlying73 rfl Tryz.sizeOf71 rfl) (FL 1 (AS a.natAbs) Bw rfl (Ag (v:=(pP b2 0)) rfl (AA rfl Tryz.underlying75 rfl Tryz.sizeOf73 rfl) (Ag (v:=(pP b2 0)) rfl (AA rfl Tryz.underlying73 rfl Tryz.sizeOf71 rfl) (FL 0 (AS b.natAbs) Bw rfl (OkE.imp rfl (ck' Tryz.call194 (SD a.natAbs b.natAbs (by omega) (by omega)) rfl ?_)))))))))))
  exact OkE.back (sl sr) (OkE.imp rfl (ck' Tryz.call171 (EE (decide (a<0)) (a.natAbs+b.natAbs)) rfl (OkE.back (sl sr) (OkE.imp rfl (Ay rfl Tryz.sizeOf75 rfl (OkE.back (sl sr) (OkE.nil (OkQ.subF (sL [2,3,4] rfl) (OkQ.then_ (OkC.ret (OkQ.then_ret (ret_one rfl (Aj (i:=0) (cs:=A7 (Dc (decide (a<0)) (a.natAbs+b.natAbs))) rfl rfl Tryz.isAgg75 Tryz.sizeOf75 rfl) (λw hw=>⟨by rw [he],hw.out⟩)))))))))))))
 ·skip
  refine OkC.skip (q1 (q4 (AG (v:=(pP b1 0)) (AA rfl Tryz.underlying75 rfl Tryz.sizeOf73 rfl) rfl (AG (v:=(pP b1 0)) (AA rfl Tryz.underlying73 rfl Tryz.sizeOf71 rfl) rfl (EX 2 (AS a.natAbs) Bw rfl (AG (v:=(pP b2 0)) (AA rfl Tryz.underlying75 rfl Tryz.sizeOf73 rfl) rfl (AG (v:=(pP b2 0)) (AA rfl Tryz.underlying73 rfl Tryz.sizeOf71 rfl) rfl (EX 1 (AS b.natAbs) Bw rfl (ck' Tryz.call204 (OH a.natAbs b.natAbs (by omega) (by omega)) rfl (AO rfl (AG (AV (v:=(aG (AS (a.natAbs-b.natAbs)))) rfl rfl) rfl ?_)))))))))))
  refine AG (AV (v:=(Value.bool (decide (b.natAbs<=a.natAbs)))) rfl rfl) rfl (al FV rfl λb4=>Ay rfl Tryz.sizeOf71 rfl (asg' rfl (q3 (sL [2,3,4,5,6] rfl) (AO rfl (OkL.nil (OkQ.subF (sL [2,3,4,5,34] rfl) (OkQ.then_ ?_)))))))
  refine OkC.cond rfl (λhc1=>?_) (λhc1=>?_)
  ·replace hc1:=of_decide_eq_true hc1
   have he:=Jk hc0 hc1
   exact q4 (AG (v:=(pP b1 2)) (AA rfl Tryz.underlying75 rfl Tryz.sizeOf4 rfl) rfl (Aw 3 (Value.bool (decide (a<0))) KL rfl (BU 0 Bw rfl (ck' Tryz.call171 (EE (decide (a<0)) (a.natAbs-b.natAbs)) rfl (Dw rfl Tryz.sizeOf75 rfl (OkL.nil (OkQ.subF (sL [2,3,4,5] rfl) (OkQ.then_ (OkC.ret (OkQ.then_ret (ret_one rfl (Aj (i:=1) (cs:=A7 (Dc (decide (a<0)) (a.natAbs-b.natAbs))) rfl rfl Tryz.isAgg75 Tryz.sizeOf75 rfl) (λw hw=>⟨by rw [he],hw.out⟩))))))))))))
  ·replace hc1:=of_decide_eq_false hc1
   have he:=JO hc0 hc1
   refine OkC.skip (q2 (AG (v:=(pP b2 0)) (AA rfl Tryz.underlying75 rfl Tryz.sizeOf73 rfl) rfl (AG (v:=(pP b2 0)) (AA rfl Tryz.underlying73 rfl Tryz.sizeOf71 rfl) rfl (EX 2 (AS b.natAbs) Bw rfl (AG (v:=(pP b1 0)) (AA rfl Tryz.underlying75 rfl Tryz.sizeOf73 rfl) rfl (AG (v:=(pP b1 0)) (AA rfl Tryz.underlying73 rfl Tryz.sizeOf71 rfl) rfl (EX 3 (AS a.natAbs) Bw rfl (ck' Tryz.call204 (OH b.natAbs a.natAbs (by omega) (by omega)) rfl (AO rfl (AG (AV (v:=(aG (AS (b.natAbs-a.natAbs)))) rfl rfl) rfl (AG (AV (v:=(Value.bool (decide (a.natAbs<=b.natAbs)))) rfl rfl) rfl ?_)))))))))))
   refine al FV rfl λb5=>Ay rfl Tryz.sizeOf71 rfl (asg' rfl (q3 (sL [2,3,4,5,7] rfl) (AG (v:=(pP b2 2)) (AA rfl Tryz.underlying75 rfl Tryz.sizeOf4 rfl) rfl (Aw 3 (Value.bool (decide (b<0))) KL rfl (BU 0 Bw rfl (ck' Tryz.call171 (EE (decide (b<0)) (b.natAbs-a.natAbs)) rfl (Gh rfl Tryz.sizeOf75 rfl (OkL.nil (OkQ.subF (sL [2,3,4,5,7] rfl) (OkQ.then_ ?_))))))))))
   exact OkC.ret (ret_one rfl (Aj (i:=2) (cs:=A7 (Dc (decide (b<0)) (b.natAbs-a.natAbs))) rfl rfl Tryz.isAgg75 Tryz.sizeOf75 rfl) (λw hw=>⟨by rw [he],hw.out⟩))
theorem R7 (a b:Int) (ha:nw a.natAbs<=1099511627776) (hb:nw b.natAbs<=1099511627776) (w:World)  :Calls Tryz.prog 179 #[(aG (A7 a)),(aG (A7 b))] w (Ai w (aG (A7 (a*b)))):=by
 refine AZ (args:=[(aG (A7 a)),(aG (A7 b))]) Tryz.func179 rfl rfl (AK rfl) (OkC.subF (sL [0,1] rfl) (q4 (Bg (cs:=A7 a) rfl λb1=>Bg (cs:=A7 b) rfl λb2=>al KE rfl λb3=>q6 (sL [2,3,4] rfl) (CV [(0,true),(1,true),(2,true),(3,true),(4,true),(5,true),(6,true),(7,true),(8,true),(9,true),(10,true),(11,false),(12,false),(13,false)] (sl sr) (Ag (v:=(pP b1 2)) rfl (AA rfl Tryz.underlying75 rfl Tryz.sizeOf4 rfl) (BQ 1 (Value.bool (decide (a<0))) KL rfl (Ag (v:=(pP b2 2)) rfl (AA rfl Tryz.underlying75 rfl Tryz.sizeOf4 rfl) (BQ 0 (Value.bool (decide (b<0))) KL rfl ?_))))))))
 refine Ag rfl (IM (c:=(!(decide (a<0) == decide (b<0)))) rfl rfl Tryz.underlying4 rfl) (Ag (v:=(pP b1 0)) rfl (AA rfl Tryz.underlying75 rfl Tryz.sizeOf73 rfl) (Ag (v:=(pP b1 0)) rfl (AA rfl Tryz.underlying73 rfl Tryz.sizeOf71 rfl) (FL 1 (AS a.natAbs) Bw rfl (Ag (v:=(pP b2 0)) rfl (AA rfl Tryz.underlying75 rfl Tryz.sizeOf73 rfl) (Ag (v:=(pP b2 0)) rfl (AA rfl Tryz.underlying73 rfl Tryz.sizeOf71 rfl) (FL 0 (AS b.natAbs) Bw rfl (OkE.imp rfl (ck' Tryz.call153 (N4 a.natAbs b.natAbs (by omega) (by omega)) rfl (OkE.back (sl sr) (OkE.imp rfl (ck' Tryz.call171 (EE (!(decide (a<0) == decide (b<0))) (a.natAbs*b.natAbs)) rfl ?_)))))))))))
 exact OkE.back (sl sr) (OkE.imp rfl (Ay rfl Tryz.sizeOf75 rfl (OkE.back (sl sr) (OkE.nil (OkQ.subF (sL [4] rfl) (OkQ.then_ (OkC.ret (ret_one rfl (Aj (i:=0) (cs:=A7 (Dc (!(decide (a<0) == decide (b<0))) (a.natAbs*b.natAbs))) rfl rfl Tryz.isAgg75 Tryz.sizeOf75 rfl) (λw hw=>⟨by rw [PM],hw.out⟩)))))))))
theorem L0 (a b:Int) (ha:nw a.natAbs<=1099511627776) (hb:nw b.natAbs<=1099511627776) (w:World)  :Calls Tryz.prog 178 #[(Value.func (.func 200) #[] #[]),(aG (A7 a)),(aG (A7 b))] w (Ai w (aG (A7 (a+b)))):=by
 refine AZ (args:=[(Value.func (.func 200) #[] #[]),(aG (A7 a)),(aG (A7 b))]) Tryz.func178 rfl rfl (AK rfl) (OkC.subF (sL [0,1,2] rfl) (q4 (Bg (cs:=A7 a) rfl λb1=>Bg (cs:=A7 b) rfl λb2=>al KE rfl λb3=>q3 (sL [0,4,5,6] rfl) (AO rfl (BU 2 D0 rfl (BU 1 D0 rfl (ck' Tryz.call200 (VI a b (by first|omega|(simp only [Int.natAbs_neg,A8,Int.natAbs_natCast];omega)) (by first|omega|(simp only [Int.natAbs_neg,A8,Int.natAbs_natCast];omega))) rfl (Ay rfl Tryz.sizeOf75 rfl ?_))))))))
 exact OkL.nil (OkQ.subF (sL [6] rfl) (OkQ.then_ (OkC.ret (ret_one rfl (Aj (i:=0) (cs:=A7 (a+b)) rfl rfl Tryz.isAgg75 Tryz.sizeOf75 rfl) (λw hw=>⟨rfl,hw.out⟩)))))
theorem KQ (a b:Int) (ha:nw a.natAbs<=1099511627776) (hb:nw b.natAbs<=1099511627776) (w:World)  :Calls Tryz.prog 178 #[(Value.func (.func 179) #[] #[]),(aG (A7 a)),(aG (A7 b))] w (Ai w (aG (A7 (a*b)))):=by
 refine AZ (args:=[(Value.func (.func 179) #[] #[]),(aG (A7 a)),(aG (A7 b))]) Tryz.func178 rfl rfl (AK rfl) (OkC.subF (sL [0,1,2] rfl) (q4 (Bg (cs:=A7 a) rfl λb1=>Bg (cs:=A7 b) rfl λb2=>al KE rfl λb3=>q3 (sL [0,4,5,6] rfl) (AO rfl (BU 2 D0 rfl (BU 1 D0 rfl (ck' Tryz.call179 (R7 a b (by first|omega|(simp only [Int.natAbs_neg,A8,Int.natAbs_natCast];omega)) (by first|omega|(simp only [Int.natAbs_neg,A8,Int.natAbs_natCast];omega))) rfl (Ay rfl Tryz.sizeOf75 rfl ?_))))))))
 exact OkL.nil (OkQ.subF (sL [6] rfl) (OkQ.then_ (OkC.ret (ret_one rfl (Aj (i:=0) (cs:=A7 (a*b)) rfl rfl Tryz.isAgg75 Tryz.sizeOf75 rfl) (λw hw=>⟨rfl,hw.out⟩)))))
theorem Lw (a b:Int) (ha:nw a.natAbs<=1099511627776) (hb:nw b.natAbs<=1099511627776) (w:World)  :Calls Tryz.prog 151 #[(aG (A7 a)),(aG (A7 b))] w (Ai w (aG (A7 (a+b)))):=by
 refine AZ (args:=[(aG (A7 a)),(aG (A7 b))]) Tryz.func151 rfl rfl (AK rfl) (OkC.subF (sL [0,1] rfl) (q4 (Bg (cs:=A7 a) rfl λb1=>Bg (cs:=A7 b) rfl λb2=>al KE rfl λb3=>q3 (sL [2,3,4] rfl) (BU 2 D0 rfl (BU 1 D0 rfl (ck' Tryz.call178 (L0 a b (by first|omega|(simp only [Int.natAbs_neg,A8,Int.natAbs_natCast];omega)) (by first|omega|(simp only [Int.natAbs_neg,A8,Int.natAbs_natCast];omega))) rfl (Ay rfl Tryz.sizeOf75 rfl (OkL.nil ?_))))))))
 exact OkQ.subF (sL [4] rfl) (OkQ.then_ (OkC.ret (ret_one rfl (Aj (i:=0) (cs:=A7 (a+b)) rfl rfl Tryz.isAgg75 Tryz.sizeOf75 rfl) (λw hw=>⟨rfl,hw.out⟩))))
theorem Iy (a b:Int) (ha:nw a.natAbs<=1099511627776) (hb:nw b.natAbs<=1099511627776) (w:World)  :Calls Tryz.prog 123 #[(aG (A7 a)),(aG (A7 b))] w (Ai w (aG (A7 (a*b)))):=by
 refine AZ (args:=[(aG (A7 a)),(aG (A7 b))]) Tryz.func123 rfl rfl (AK rfl) (OkC.subF (sL [0,1] rfl) (q4 (Bg (cs:=A7 a) rfl λb1=>Bg (cs:=A7 b) rfl λb2=>al KE rfl λb3=>q3 (sL [2,3,4] rfl) (BU 2 D0 rfl (BU 1 D0 rfl (ck' Tryz.call178 (KQ a b (by first|omega|(simp only [Int.natAbs_neg,A8,Int.natAbs_natCast];omega)) (by first|omega|(simp only [Int.natAbs_neg,A8,Int.natAbs_natCast];omega))) rfl (Ay rfl Tryz.sizeOf75 rfl (OkL.nil ?_))))))))
 exact OkQ.subF (sL [4] rfl) (OkQ.then_ (OkC.ret (ret_one rfl (Aj (i:=0) (cs:=A7 (a*b)) rfl rfl Tryz.isAgg75 Tryz.sizeOf75 rfl) (λw hw=>⟨rfl,hw.out⟩))))
end
end Go.Proofs.YtpolhpjiahbidaaGreatDoor
