import Derived.Test.YtpgncndhhhllfaaGreatDoorPart06
import Derived.Test.YtpgncndhhhllfaaGreatDoorPart16
import Derived.Test.YtpgncndhhhllfaaGreatDoorPart17
namespace Go.Proofs.YtpgncndhhhllfaaGreatDoor
open Go Go.RowKit Go.Proofs.Tryz
set_option linter.unusedVariables false
set_option linter.unusedSimpArgs false
section
set_option maxRecDepth 100000
theorem El {N v:Nat} (h:v<4294967296^N):val ((CK N v).take N)=v:=by
 rw [List.take_of_length_le (by rw [BZ];exact Nat.le_refl _),EO _ _ h]
theorem P5 {a b:Nat} (hb:0<nw b) (h:nw b<=nw a):a/b<4294967296^(nw a+1-nw b):=by
 have h1:=HK hb
 have h2:=Bg a
 rw [Nat.div_lt_iff_lt_mul (by have:=Nat.pow_pos (n:=nw b-1) (show 0<4294967296 by omega);omega)]
 have h3:4294967296^(nw a+1-nw b)*4294967296^(nw b-1)<=4294967296^(nw a+1-nw b)*b:=Nat.mul_le_mul_left _ h1
 rw [<-Nat.pow_add,show nw a+1-nw b+(nw b-1)=nw a by omega] at h3
 omega
theorem P9 {a b:Nat}:a%b<4294967296^(nw a+1):=Nat.lt_of_le_of_lt (Nat.mod_le _ _) (Nat.lt_of_lt_of_le (Bg a) (Nat.pow_le_pow_right (by omega) (by omega)))
theorem Mw {b:Nat} (h:nw b=0):b=0:=by
 have:=Bg b
 rw [h] at this
 omega
theorem US {b:Nat} (h:nw b=1):(Ay b).getD 0 0=b/\b<4294967296:=by
 have h1:=Bg b
 rw [h] at h1
 refine ⟨?_,by omega⟩
 rw [C5 (by omega),Gc,Nat.pow_zero,Nat.div_one,Nat.mod_eq_of_lt (by omega)]
theorem Ju  :Instr.fill ([(0,1),(1,1)].toArray[·]?) (AY 0).toArray []=some (AY 0).toArray:=by kernel_rfl
theorem ND (a b:Nat) (ha:nw a<=1099511627776) (hb:nw b<=1099511627776) (hb0:b≠0) (w:World)  :Calls Tryz.prog 102 #[(aG (AY a)),(aG (AY b))] w (Al w (Value.tuple #[(aG (AY (a/b))),(aG (AY (a%b))),(Value.bool true)])):=by
 have hnb:nw b≠0:=λh=>hb0 (Mw h)
 have hla:=B7 a
 have hlb:=B7 b
 refine Aa (args:=[(aG (AY a)),(aG (AY b))]) Tryz.func102 rfl rfl (AV rfl) (AE.subF (sL [0,1] rfl) (q4 (BU (cs:=AY a) rfl λb1=>BU (cs:=AY b) rfl λb2=>al E9 rfl λb3=>?_)))
 refine al E9 rfl λb4=>asg' rfl (q6 (sL [2,3,4,5,6] rfl) (AE.block (q4 (BG 2 Br rfl ?_))))
 refine ck' Tryz.call167 (Od b) rfl (asg' rfl (AD.nil (AC.subF (sL [2,3,4,5,6,12] rfl) (AC.then_ ?_))))
 refine AE.cond rfl (λhc0=>?_) (λhc0=>?_)
 ·replace hc0:=of_decide_eq_true hc0
  exact absurd hc0 hb0
 ·replace hc0:=of_decide_eq_false hc0
  refine q4 (BG 3 Br rfl (BG 2 Br rfl (ck' Tryz.call168 (Sj a b (by omega) (by omega)) rfl (AK (Ai (c:=(decide ((C0 a b)<(0:Int)))) rfl rfl rfl) rfl (asg' rfl ?_)))))
  refine AD.nil (AC.subF (sL [2,3,4,5,6,17] rfl) (AC.then_ ?_))
  refine AE.cond rfl (λhc1=>?_) (λhc1=>?_)
  ·replace hc1:=of_decide_eq_true hc1
   rw [GI] at hc1
   have e1:a/b=0:=Nat.div_eq_of_lt hc1
   have e2:a%b=a:=Nat.mod_eq_of_lt hc1
   refine AE.seq (CS [(0,true),(1,true),(2,false),(3,false),(4,true)] (sl (sl sr)) (Ap (v:=(aG (AY 0))) rfl (AU (zs:=AY 0) (vs:=AY 0) (pv:=[]) (places:=[(0,1),(1,1)]) Tryz.zeroValue42 Tryz.underlying42 (λw=>by simp [Tryz.sizeOf9,Tryz.sizeOf40]) rfl (Ju )) (Df 1 Br rfl (OkE.imp rfl (C6 rfl Tryz.sizeOf42 rfl ?_)))))
   refine OkE.back (sl (sl sr)) (OkE.imp rfl (A8 rfl Tryz.sizeOf42 rfl (OkE.back (sl (sl sr)) (pS' rfl (OkE.nil ?_)))))
   exact AC.subF (sL [2,3,4,5,6] rfl) (AC.then_ (AE.ret (AC.in_ret (AC.then_ret (E7 rfl (Au (i:=1) (cs:=AY 0) rfl rfl Tryz.isAgg42 Tryz.sizeOf42 rfl) (Au (i:=0) (cs:=AY a) rfl rfl Tryz.isAgg42 Tryz.sizeOf42 rfl) (AS (v:=(Value.bool true)) rfl) (λw hw=>⟨by rw [e1,e2],hw.out⟩))))))
  ·replace hc1:=of_decide_eq_false hc1
   rw [GI] at hc1
   have hba:nw b<=nw a:=CY (by omega)
   refine q4 (AK (v:=(pP b1 1)) (AA rfl Tryz.underlying42 rfl Tryz.sizeOf9 rfl) rfl (BJ 3 (Value.string (Bc a)) Pg rfl (AK (BV (c:=(decide (a<18446744073709551616))) rfl rfl B_) rfl (asg' rfl (AD.nil ?_)))))
   refine AC.subF (sL [2,3,4,5,6,24] rfl) (AC.then_ ?_)
   refine AE.cond rfl (λhc2=>?_) (λhc2=>?_)
   ·replace hc2:=of_decide_eq_true hc2
    have la:Bs a=a:=BY hc2
    have lb:Bs b=b:=BY (by omega)
    have q1:a/b<18446744073709551616:=Nat.lt_of_le_of_lt (Nat.div_le_self _ _) hc2
    have q2:a%b<18446744073709551616:=Nat.lt_of_le_of_lt (Nat.mod_le _ _) hc2
    refine AE.seq (CS [(0,true),(1,true),(2,true),(3,true),(4,true),(5,true),(6,true),(7,true),(8,true),(9,true),(10,true),(11,true),(12,false),(13,false),(14,true)] (sl (sl sr)) (Ap (v:=(pP b1 0)) rfl (AA rfl Tryz.underlying42 rfl Tryz.sizeOf40 rfl) (Ba 1 (vK .u64 (Bs a)) FV rfl (Ap (v:=(pP b2 0)) rfl (AA rfl Tryz.underlying42 rfl Tryz.sizeOf40 rfl) (Ba 0 (vK .u64 (Bs b)) FV rfl ?_)))))
    refine Ap rfl (EH (c:=(((Bs a)/(Bs b):Nat):Int)) rfl rfl (by omega) (G1 (a:=Bs a) (b:=Bs b) (by omega))) (Ap (v:=(aG ([(vK .u64 ((Bs a)/(Bs b))),(Value.string (Bc 0))]))) rfl (AU (zs:=AY 0) (vs:=[(vK .u64 ((Bs a)/(Bs b))),(Value.string (Bc 0))]) (pv:=[(0,(vK .u64 ((Bs a)/(Bs b))))]) (places:=[(0,1),(1,1)]) Tryz.zeroValue42 Tryz.underlying42 (λw=>by simp [Tryz.sizeOf9,Tryz.sizeOf40]) rfl rfl) (Ap (v:=(pP b1 0)) rfl (AA rfl Tryz.underlying42 rfl Tryz.sizeOf40 rfl) (Ba 1 (vK .u64 (Bs a)) FV rfl (Ap (v:=(pP b2 0)) rfl (AA rfl Tryz.underlying42 rfl Tryz.sizeOf40 rfl) (Ba 0 (vK .u64 (Bs b)) FV rfl ?_)))))
    refine Ap rfl (Cb (c:=(((Bs a)%(Bs b):Nat):Int)) rfl rfl (by omega) (Jm (a:=Bs a) (b:=Bs b))) (Ap (v:=(aG ([(vK .u64 ((Bs a)%(Bs b))),(Value.string (Bc 0))]))) rfl (AU (zs:=AY 0) (vs:=[(vK .u64 ((Bs a)%(Bs b))),(Value.string (Bc 0))]) (pv:=[(0,(vK .u64 ((Bs a)%(Bs b))))]) (places:=[(0,1),(1,1)]) Tryz.zeroValue42 Tryz.underlying42 (λw=>by simp [Tryz.sizeOf9,Tryz.sizeOf40]) rfl rfl) (OkE.imp rfl (C6 rfl Tryz.sizeOf42 rfl (OkE.back (sl (sl sr)) (OkE.imp rfl ?_)))))
    refine A8 rfl Tryz.sizeOf42 rfl (OkE.back (sl (sl sr)) (pS' rfl (OkE.nil (AC.subF (sL [2,3,4,5,6] rfl) (AC.then_ ?_)))))
    exact AE.ret (AC.in_ret (AC.then_ret (E7 rfl (Au (i:=1) (cs:=[(vK .u64 ((Bs a)/(Bs b))),(Value.string (Bc 0))]) rfl rfl Tryz.isAgg42 Tryz.sizeOf42 rfl) (Au (i:=0) (cs:=[(vK .u64 ((Bs a)%(Bs b))),(Value.string (Bc 0))]) rfl rfl Tryz.isAgg42 Tryz.sizeOf42 rfl) (AS (v:=(Value.bool true)) rfl) (λw hw=>⟨by rw [DE q1,DE q2,la,lb];rfl,hw.out⟩))))
   ·replace hc2:=of_decide_eq_false hc2
    refine AE.skip (AC.in_normal (q2 (BG 2 Br rfl (AD.callB (V:=λb5=>(Value.slice (some ⟨b5,0,none⟩) (nw b) ((Ay b).length))) (T:=97) (cs:=Ao (Ay b)) (AW rfl) (An (args:=[(aG (AY b))]) rfl rfl Tryz.call111) (λw hw=>Cu b (by omega) w) rfl (AV rfl) λb5=>asg' rfl ?_))))
    refine q6 (sL [2,3,4,5,6,7] rfl) (q4 (AQ rfl (AK (v:=(vN (nw b))) (AF rfl Tryz.underlying184) rfl (AK (BR (c:=(decide ((nw b)=1))) rfl rfl (LX (a:=nw b) (b:=1))) rfl (AD.nil ?_)))))
    refine AC.subF (sL [2,3,4,5,6,7,44] rfl) (AC.then_ ?_)
    refine AE.cond rfl (λhc3=>?_) (λhc3=>?_)
    ·replace hc3:=of_decide_eq_true hc3
     obtain ⟨hy,hy2⟩:=US hc3
     refine AE.seq (CS [(0,true),(2,true),(3,true),(4,true),(1,false),(5,false),(6,true),(7,true),(8,true),(9,true),(10,true)] sr (Df 4 Br rfl (BT rfl (Ap (v:=(pP b5 0)) rfl (AM (j:=0) rfl rfl Tryz.underlying184 Tryz.sizeOf97 rfl (by omega) rfl) ?_))))
     have hx1:(Ay b).getD 0 0<4294967296:=W32.getD (B9 b) 0
     refine Ap rfl (AL (i:=0) (v:=(vK .u32 ((Ay b).getD 0 0))) rfl rfl Tryz.isAgg97 (BD (xs:=Ay b) (j:=0) (by omega))) (OkE.imp rfl (AD.callB (V:=λb6=>(Value.slice (some ⟨b6,0,none⟩) (nw a) ((Ay a).length))) (T:=97) (cs:=Ao (Ay a)) (AW rfl) (An (args:=[(aG (AY a))]) rfl rfl Tryz.call111) (λw hw=>Cu a (by omega) w) rfl (AV rfl) λb6=>OkE.back (sl sr) (OkE.imp rfl (AD.callB (V:=λb7=>(Value.tuple #[(Value.slice (some ⟨b7,0,none⟩) (nw a) (nw a)),(vK .u32 (a%((Ay b).getD 0 0)))])) (T:=97) (cs:=Ao (CK (nw a) (a/((Ay b).getD 0 0)))) (AW rfl) (An (args:=[(Value.slice (some ⟨b6,0,none⟩) (nw a) ((Ay a).length)),(vK .u32 ((Ay b).getD 0 0))]) rfl rfl Tryz.call160) (λw hw=>Qk a ((Ay b).getD 0 0) _ _ (by omega) (by omega) (by omega) w (hw.get (i:=0) rfl)) rfl (AV rfl) λb7=>?_))))
     refine OkE.back (sl (sl sr)) (BT rfl (Ap rfl (AZ (v:=(Value.slice (some ⟨b7,0,none⟩) (nw a) (nw a))) rfl rfl) (Ap rfl (AZ (v:=(vK .u32 (a%((Ay b).getD 0 0)))) rfl rfl) (pS' rfl (pS' rfl ?_)))))
     refine OkE.nil (AC.subF (sL [2,3,4,5,6,7,8,9] rfl) (q2 (AQ rfl (CN Tryz.call110 (λw hw=>H6 _ (nw a) (nw a) (CK (nw a) (a/((Ay b).getD 0 0))) (DL _ _) (by first|omega|(rw [BZ];omega)|simp|(simp;omega)) (by first|omega|simp|(simp;omega)) (by first|omega|simp|(simp;omega)) w (hw.get (i:=0) rfl)) rfl (AD.retell (k:=55) (u:=(aG (AY (a/b)))) rfl (by rw [hy,El (Nat.lt_of_le_of_lt (Nat.div_le_self _ _) (Bg a))]) ?_)))))
     refine AQ rfl ?_
     have hmb:a%(Ay b).getD 0 0<4294967296:=by rw [hy];exact Nat.lt_of_lt_of_le (Nat.mod_lt _ (by omega)) (by omega)
     refine AK (A6 (c:=((a%((Ay b).getD 0 0):Nat):Int)) rfl Tryz.underlying97 Tryz.underlying40 (BK (by omega))) rfl (AK (v:=(aG ([(vK .u64 (a%((Ay b).getD 0 0))),(Value.string (Bc 0))]))) (AU (zs:=AY 0) (vs:=[(vK .u64 (a%((Ay b).getD 0 0))),(Value.string (Bc 0))]) (pv:=[(0,(vK .u64 (a%((Ay b).getD 0 0))))]) (places:=[(0,1),(1,1)]) Tryz.zeroValue42 Tryz.underlying42 (λw=>by simp [Tryz.sizeOf9,Tryz.sizeOf40]) rfl rfl) rfl (AD.retell (k:=58) (u:=(aG (AY (a%b)))) rfl (by rw [hy] at hmb ⊢;rw [DE (by omega)];rfl) (Hp 4 (off:=0) (vs:=AY (a/b)) (cs':=AY (a/b)) (AW rfl) rfl Tryz.sizeOf42 rfl (H8 rfl Tryz.sizeOf42 rfl (asg' rfl ?_)))))
     exact AD.nil (AC.subF (sL [2,3,4,5,6,7] rfl) (AC.then_ (AE.ret (AC.then_ret (E7 rfl (Au (i:=4) (cs:=AY (a/b)) rfl rfl Tryz.isAgg42 Tryz.sizeOf42 rfl) (Au (i:=3) (cs:=AY (a%b)) rfl rfl Tryz.isAgg42 Tryz.sizeOf42 rfl) (AS (v:=(Value.bool true)) rfl) (λw hw=>⟨rfl,hw.out⟩))))))
    ·replace hc3:=of_decide_eq_false hc3
     refine AE.skip (q2 (BG 4 Br rfl (AD.callB (V:=λb6=>(Value.slice (some ⟨b6,0,none⟩) (nw a) ((Ay a).length))) (T:=97) (cs:=Ao (Ay a)) (AW rfl) (An (args:=[(aG (AY a))]) rfl rfl Tryz.call111) (λw hw=>Cu a (by omega) w) rfl (AV rfl) λb6=>AQ rfl (AD.callBB (V:=λb7 b8=>(Value.tuple #[(Value.slice (some ⟨b7,0,none⟩) (nw a+1-nw b) (nw a+1-nw b)),(Value.slice (some ⟨b8,0,none⟩) (nw a+1) (nw a+1))])) (T:=97) (cs:=Ao (CK (nw a+1-nw b) (a/b))) (T2:=97) (cs2:=Ao (CK (nw a+1) (a%b))) (AW rfl) (An (args:=[(Value.slice (some ⟨b6,0,none⟩) (nw a) ((Ay a).length)),(Value.slice (some ⟨b5,0,none⟩) (nw b) ((Ay b).length))]) rfl rfl Tryz.call169) (λw hw=>Tw a b _ _ _ _ (by omega) (by omega) (by omega) w (hw.get (i:=0) rfl) (hw.get (i:=1) rfl)) rfl (AV rfl) λb7 b8=>?_))))
     refine AQ rfl (AK (AZ (v:=(Value.slice (some ⟨b7,0,none⟩) (nw a+1-nw b) (nw a+1-nw b))) rfl rfl) rfl (AK (AZ (v:=(Value.slice (some ⟨b8,0,none⟩) (nw a+1) (nw a+1))) rfl rfl) rfl (asg' rfl (asg' rfl (q3 (sL [2,3,4,5,6,7,10,11] rfl) ?_)))))
     refine AQ rfl (CN Tryz.call110 (λw hw=>H6 _ (nw a+1-nw b) (nw a+1-nw b) (CK (nw a+1-nw b) (a/b)) (DL _ _) (by first|omega|(rw [BZ];omega)|simp|(simp;omega)) (by first|omega|simp|(simp;omega)) (by first|omega|simp|(simp;omega)) w (hw.get (i:=0) rfl)) rfl (AD.retell (k:=67) (u:=(aG (AY (a/b)))) rfl (by rw [El (P5 (by omega) hba)]) (AQ rfl (CN Tryz.call110 (λw hw=>H6 _ (nw a+1) (nw a+1) (CK (nw a+1) (a%b)) (DL _ _) (by first|omega|(rw [BZ];omega)|simp|(simp;omega)) (by first|omega|simp|(simp;omega)) (by first|omega|simp|(simp;omega)) w (hw.get (i:=1) rfl)) rfl (AD.retell (k:=69) (u:=(aG (AY (a%b)))) rfl (by rw [El P9]) ?_)))))
     refine Hp 5 (off:=0) (vs:=AY (a/b)) (cs':=AY (a/b)) (AW rfl) rfl Tryz.sizeOf42 rfl (Hp 4 (off:=0) (vs:=AY (a%b)) (cs':=AY (a%b)) (AW rfl) rfl Tryz.sizeOf42 rfl (asg' rfl (AD.nil (AC.subF (sL [2,3,4,5,6,7] rfl) (AC.then_ ?_)))))
     exact AE.ret (E7 rfl (Au (i:=5) (cs:=AY (a/b)) rfl rfl Tryz.isAgg42 Tryz.sizeOf42 rfl) (Au (i:=4) (cs:=AY (a%b)) rfl rfl Tryz.isAgg42 Tryz.sizeOf42 rfl) (AS (v:=(Value.bool true)) rfl) (λw hw=>⟨rfl,hw.out⟩))
theorem Vy (a b:Nat) (ha:nw a<=1099511627776) (hb:nw b<=1099511627776) (w:World)  :Calls Tryz.prog 100 #[(aG (AY a)),(aG (AY b))] w (Al w (aG (AY (Nat.gcd a b)))):=by
 refine Aa (args:=[(aG (AY a)),(aG (AY b))]) Tryz.func100 rfl rfl (AV rfl) (AE.subF (sL [0,1] rfl) (q4 (BU (cs:=AY a) rfl λb1=>BU (cs:=AY b) rfl λb2=>al E9 rfl λb3=>?_)))
 refine q6 (sL [2,3,4] rfl) (AE.block ?_)
 refine AE.lp2 (tg λ(x:Nat) (y:Nat)=>Nat.gcd x y=Nat.gcd a b/\nw x<=1099511627776/\nw y<=1099511627776) (tg λ(x:Nat) (y:Nat)=>[(2,(pP b1 0)),(3,(pP b2 0)),(4,(pP b3 0))]) (tg λ(x:Nat) (y:Nat)=>[Ad b3 42 (AY 0),Ad b2 42 (AY y),Ad b1 42 (AY x)]) (tg λ(x:Nat) (y:Nat)=>y) a b (⟨rfl,ha,hb⟩) (sF rfl) sr (λx y hJ=>?_)
 obtain ⟨hg,hx,hy⟩:=hJ
 refine AE.seq (q4 (BG 1 Br rfl (ck' Tryz.call167 (Od y) rfl (AK (BF (c:=(!(decide (y=0)))) rfl rfl) rfl (AD.nil ?_)))))
 refine AC.subF (sL [2,3,4,10] rfl) (AC.then_ ?_)
 refine AE.cond rfl (λhc0=>?_) (λhc0=>?_)
 ·simp only [Bool.and_eq_true,Bool.or_eq_true,Bool.and_eq_false_iff,Bool.or_eq_false_iff,Bool.not_eq_true',Bool.not_eq_false',decide_eq_true_eq,decide_eq_false_iff_not] at hc0
  refine AE.skip (AC.then_ (AE.block (q4 (BG 2 Br rfl (BG 1 Br rfl ?_)))))
  refine ck' Tryz.call102 (ND x y (by omega) (by omega) (by omega)) rfl (AQ rfl (AK (AZ (v:=(aG (AY (x/y)))) rfl rfl) rfl (AK (AZ (v:=(aG (AY (x%y)))) rfl rfl) rfl (AK (AZ (v:=(Value.bool true)) rfl rfl) rfl (al E9 rfl λb4=>?_)))))
  refine al E9 rfl λb5=>C6 rfl Tryz.sizeOf42 rfl (A8 rfl Tryz.sizeOf42 rfl (asg' rfl (AD.nil (AC.subF (sL [2,3,4,6] rfl) ?_))))
  refine AC.then_ (CS [(1,true),(0,false),(2,false),(3,false)] (sk (sk (sk (sl (sl sr))))) (Df 0 Br rfl (OkE.imp rfl (BG 3 Br rfl (OkE.back (sk (sk (sk (sl (sl sr))))) ?_)))))
  refine OkE.imp rfl (Hp 4 (off:=0) (vs:=AY y) (cs':=AY y) (AW rfl) rfl Tryz.sizeOf42 rfl (OkE.back (sk (sk (sk (sl (sl sr))))) (OkE.imp rfl (H8 rfl Tryz.sizeOf42 rfl (OkE.back (sk (sk (sk (sl (sl sr))))) ?_)))))
  exact OkE.nil (AC.subF (sL [2,3,4,6] rfl) (AC.in_normal (AC.round2 y (x%y) (⟨by rw [<-hg,Nat.gcd_comm x y,Nat.gcd_rec y x,Nat.gcd_comm],hy,Nat.le_trans (CY (Nat.mod_le _ _)) hx⟩) (Nat.mod_lt _ (by omega)) (sF rfl) (sl (sl sr)))))
 ·simp only [Bool.and_eq_true,Bool.or_eq_true,Bool.and_eq_false_iff,Bool.or_eq_false_iff,Bool.not_eq_true',Bool.not_eq_false',decide_eq_true_eq,decide_eq_false_iff_not] at hc0
  have hy0:y=0:=by omega
  have hxg:x=Nat.gcd a b:=by rw [<-hg,hy0,Nat.gcd_zero_right]
  refine AE.exit (AC.then_exit (AC.round2_exit (AC.in_exit (q2 (BG 2 Br rfl ?_)))))
  exact A8 rfl Tryz.sizeOf42 rfl (AD.nil (AC.subF (sL [2,3,4] rfl) (AC.then_ (AE.ret (AJ rfl (Au (i:=0) (cs:=AY x) rfl rfl Tryz.isAgg42 Tryz.sizeOf42 rfl) (λw hw=>⟨by rw [hxg],hw.out⟩))))))
end
def Dd (neg:Bool) (n:Nat):Int:=if neg then -(n:Int) else (n:Int)
theorem R5 (n:Nat):Az (Dd true n)=AY n++[.bool (!(decide (n=0)))]:=by
  simp only [Az,AY,Dd,if_true,Int.natAbs_neg,Int.natAbs_natCast,List.cons_append,List.nil_append]
  have e:decide (-(n:Int)<0)=!(decide (n=0)):=by
    by_cases h:n=0
    · subst h;rfl
    · simp [h];omega
  rw [e]
theorem SS (n:Nat):Az (Dd false n)=AY n++[.bool false]:=by
  simp only [Az,AY,Dd,Int.natAbs_natCast,List.cons_append,List.nil_append]
  have e:decide ((n:Int)<0)=false:=by simp
  simp [e]
theorem LY (D a b:Nat):EK Tryz.prog (D+3) 44 (.agg (AY a).toArray) (.agg (AY b).toArray) (decide (a=b)):=by
  have h:=EK.struct (D:=D+2) (xs:=AY a) (ys:=AY b) Tryz.underlying44 Tryz.stoodInHeld44 (GO.agg (us:=AY a) (bs:=AY b) (by decide) Tryz.isAgg42 Tryz.sizeOf42 rfl rfl (GH D a b) GO.nil)
  simpa using h
theorem Aw (neg:Bool) (n:Nat):(Dd neg n).natAbs=n:=by cases neg<;>simp [Dd]
theorem Up (a:Int):Dd (!(decide (a<0))) a.natAbs = -a:=by
  unfold Dd
  by_cases h:a<0
  · simp [h];omega
  · simp [h];omega
theorem OS (a b:Int):Dd (!(decide (a<0) == decide (b<0))) (a.natAbs*b.natAbs)=a*b:=by
  rw [<-Int.natAbs_mul]
  unfold Dd
  by_cases h:a<0<;>by_cases h':b<0
  · have:=Int.mul_pos_of_neg_of_neg h h';simp [h,h'];omega
  · have:a*b<=0:=Int.mul_nonpos_of_nonpos_of_nonneg (by omega) (by omega)
    simp [h,h'];omega
  · have:a*b<=0:=Int.mul_nonpos_of_nonneg_of_nonpos (by omega) (by omega)
    simp [h,h'];omega
  · have:0<=a*b:=Int.mul_nonneg (by omega) (by omega)
    simp [h,h'];omega
theorem Kt {a b:Int} (h:(decide (a<0) == decide (b<0))=true):Dd (decide (a<0)) (a.natAbs+b.natAbs)=a+b:=by
  unfold Dd
  by_cases h1:a<0<;>by_cases h2:b<0<;>simp [h1,h2] at h ⊢<;>omega
theorem NL {a b:Int} (h:(decide (a<0) == decide (b<0))=false) (h3:b.natAbs<=a.natAbs):Dd (decide (a<0)) (a.natAbs-b.natAbs)=a+b:=by
  unfold Dd
  by_cases h1:a<0<;>by_cases h2:b<0<;>simp [h1,h2] at h ⊢<;>omega
theorem Nr {a b:Int} (h:(decide (a<0) == decide (b<0))=false) (h3:¬b.natAbs<=a.natAbs):Dd (decide (b<0)) (b.natAbs-a.natAbs)=a+b:=by
  unfold Dd
  by_cases h1:a<0<;>by_cases h2:b<0<;>simp [h1,h2] at h ⊢<;>omega
theorem Xb {z:Int} (h:z<0) (h2:-9223372036854775808<=z):IntKind.u64.wrap (-(IntKind.u64.wrap z))=((z.natAbs:Nat):Int):=by
  simp only [IntKind.wrap,IntKind.bits,IntKind.signed];simp;omega
theorem Fj {z:Int} (h:z<0):Dd true z.natAbs=z:=by unfold Dd;simp;omega
theorem J4 {z:Int} (h:¬z<0):Dd false z.natAbs=z:=by unfold Dd;simp;omega
section
set_option maxRecDepth 100000
theorem Jo  :Instr.fill ([(0,2)].toArray[·]?) (AY 0).toArray []=some (AY 0).toArray:=by kernel_rfl
theorem HN (n:Nat) (w:World)  :Calls Tryz.prog 171 #[(aG (AY n))] w (Al w (Value.bool (decide (n=0)))):=by
 refine Aa (args:=[(aG (AY n))]) Tryz.func171 rfl rfl (AV rfl) (AE.subF (sL [0] rfl) (q4 (BU (cs:=AY n) rfl λb1=>asg' rfl (q3 (sL [1,2] rfl) ?_))))
 refine BG 0 QC rfl (AK (v:=(aG (AY 0))) (AU (zs:=AY 0) (vs:=AY 0) (pv:=[]) (places:=[(0,2)]) Tryz.zeroValue44 Tryz.underlying44 (λw=>by simp [Tryz.sizeOf42]) rfl (Jo )) rfl (AK (B1 (c:=(decide (n=0))) rfl rfl Tryz.eqGuardType44 (LY 9997 n 0)) rfl (asg' rfl (AD.nil (AC.subF (sL [2] rfl) ?_)))))
 exact AC.then_ (AE.ret (AJ rfl (AS (v:=(Value.bool (decide (n=0)))) rfl) (λw hw=>⟨rfl,hw.out⟩)))
theorem EM (x0:Nat):Instr.fill ([(0,2)].toArray[·]?) (AY 0).toArray [(0,.agg (AY x0).toArray)]=some (AY x0).toArray:=by kernel_rfl
theorem PY (n:Nat) (w:World)  :Calls Tryz.prog 105 #[(Value.bool true),(aG (AY n))] w (Al w (aG (Az (Dd true n)))):=by
 refine Aa (args:=[(Value.bool true),(aG (AY n))]) Tryz.func105 rfl rfl (AV rfl) (AE.subF (sL [0,1] rfl) (q4 (BU (cs:=AY n) rfl λb1=>al IE rfl λb2=>q3 (sL [0,3,4] rfl) ?_)))
 refine BG 1 Br rfl (AK (v:=(aG (AY n))) (AU (zs:=AY 0) (vs:=AY n) (pv:=[(0,(aG (AY n)))]) (places:=[(0,2)]) Tryz.zeroValue44 Tryz.underlying44 (λw=>by simp [Tryz.sizeOf42]) rfl (EM n)) rfl (al We rfl λb3=>A8 rfl Tryz.sizeOf44 rfl (q6 (sL [0,4,5] rfl) (CS [(0,true),(1,true),(2,true),(3,true),(4,false),(5,true),(6,true),(7,true),(8,false)] (sk (sl sr)) ?_))))
 refine Df 0 QC rfl (BT rfl (BT rfl (OkE.pas (v:=(aG (AY n))) rfl (AB rfl) (Ak (i:=0) (vs:=AY n) rfl rfl QC.a QC.s rfl rfl) rfl rfl (OkE.imp rfl (AD.call (v:=(Value.bool (decide (n=0)))) (AB rfl) (An (args:=[(aG (AY n))]) rfl rfl Tryz.call171) (λw hw=>HN n w) rfl (AV rfl) ?_)))))
 refine OkE.back (sk (sl sr)) (OkE.pas (v:=(Value.bool (!(decide (n=0))))) rfl (AB rfl) (BF (c:=(!(decide (n=0)))) rfl rfl) rfl rfl (Ap (v:=(Value.bool (!(decide (n=0))))) rfl (AX rfl rfl) (Ap (v:=(aG (AY n++[(Value.bool (!(decide (n=0))))]))) rfl (AU (zs:=Az 0) (vs:=AY n++[(Value.bool (!(decide (n=0))))]) (pv:=[(0,(aG (AY n))),(1,(Value.bool (!(decide (n=0)))))]) (places:=[(0,2),(2,1)]) Tryz.zeroValue46 Tryz.underlying46 (λw=>by simp [Tryz.sizeOf4,Tryz.sizeOf44]) rfl rfl) (OkE.imp rfl (C6 rfl Tryz.sizeOf46 rfl ?_)))))
 exact OkE.back (sk (sl sr)) (OkE.nil (AC.subF (sL [4,5] rfl) (AC.then_ (AE.ret (AJ rfl (Au (i:=1) (cs:=AY n++[(Value.bool (!(decide (n=0))))]) rfl rfl Tryz.isAgg46 Tryz.sizeOf46 rfl) (λw hw=>⟨by rw [R5],hw.out⟩))))))
theorem M_ (n:Nat) (w:World)  :Calls Tryz.prog 105 #[(Value.bool false),(aG (AY n))] w (Al w (aG (Az (Dd false n)))):=by
 refine Aa (args:=[(Value.bool false),(aG (AY n))]) Tryz.func105 rfl rfl (AV rfl) (AE.subF (sL [0,1] rfl) (q4 (BU (cs:=AY n) rfl λb1=>al IE rfl λb2=>q3 (sL [0,3,4] rfl) ?_)))
 refine BG 1 Br rfl (AK (v:=(aG (AY n))) (AU (zs:=AY 0) (vs:=AY n) (pv:=[(0,(aG (AY n)))]) (places:=[(0,2)]) Tryz.zeroValue44 Tryz.underlying44 (λw=>by simp [Tryz.sizeOf42]) rfl (EM n)) rfl (al We rfl λb3=>A8 rfl Tryz.sizeOf44 rfl (q6 (sL [0,4,5] rfl) (CS [(0,true),(1,true),(2,true),(3,true),(4,false),(5,true),(6,true),(7,true),(8,false)] (sk (sl sr)) ?_))))
 refine Df 0 QC rfl (BT rfl (BT rfl (OkE.skp rfl (AH rfl) rfl rfl (OkE.imp rfl (AD.skip (AH rfl) rfl (AV rfl) ?_)))))
 refine OkE.back (sk (sl sr)) (OkE.skp rfl (AH rfl) rfl rfl (Ap (v:=(Value.bool false)) rfl (AR rfl rfl) (Ap (v:=(aG (AY n++[(Value.bool false)]))) rfl (AU (zs:=Az 0) (vs:=AY n++[(Value.bool false)]) (pv:=[(0,(aG (AY n))),(1,(Value.bool false))]) (places:=[(0,2),(2,1)]) Tryz.zeroValue46 Tryz.underlying46 (λw=>by simp [Tryz.sizeOf4,Tryz.sizeOf44]) rfl rfl) (OkE.imp rfl (C6 rfl Tryz.sizeOf46 rfl ?_)))))
 exact OkE.back (sk (sl sr)) (OkE.nil (AC.subF (sL [4,5] rfl) (AC.then_ (AE.ret (AJ rfl (Au (i:=1) (cs:=AY n++[(Value.bool false)]) rfl rfl Tryz.isAgg46 Tryz.sizeOf46 rfl) (λw hw=>⟨by rw [SS],hw.out⟩))))))
theorem Dp (neg:Bool) (n:Nat) (w:World):Calls Tryz.prog 105 #[.bool neg,.agg (AY n).toArray] w (Al w (.agg (Az (Dd neg n)).toArray)):=by
 cases neg
 ·exact M_ n w
 ·exact PY n w
theorem VL (z:Int) (hz:-9223372036854775808<=z) (hz2:z<9223372036854775808) (w:World)  :Calls Tryz.prog 61 #[(vI z)] w (Al w (aG (Az z))):=by
 refine Aa (args:=[(vI z)]) Tryz.func61 rfl rfl (AV rfl) (AE.subF (sL [0] rfl) (q4 (al IE rfl λb1=>AD.nil (q1 ?_))))
 refine q4 (AQ rfl (AK (Ai (c:=(decide (z<(0:Int)))) rfl rfl rfl) rfl (AD.nil (AC.subF (sL [0,2,4] rfl) (AC.then_ ?_)))))
 refine AE.cond rfl (λhc0=>?_) (λhc0=>?_)
 ·replace hc0:=of_decide_eq_true hc0
  have he:=Fj hc0
  refine q4 (AQ rfl (AK (A6 (c:=(IntKind.u64.wrap z)) rfl Tryz.underlying2 Tryz.underlying40 (rfl)) rfl (AK (R0 (c:=((z.natAbs:Nat):Int)) rfl (by rw [Int.zero_sub];exact Xb hc0 hz)) rfl (ck' Tryz.call104 (IV z.natAbs (by omega)) rfl (ck' Tryz.call105 (Dp true z.natAbs) rfl ?_)))))
  exact A8 rfl Tryz.sizeOf46 rfl (AD.nil (AC.subF (sL [0,2] rfl) (AC.then_ (AE.ret (AC.then_ret (AJ rfl (Au (i:=0) (cs:=Az (Dd true z.natAbs)) rfl rfl Tryz.isAgg46 Tryz.sizeOf46 rfl) (λw hw=>⟨by rw [he],hw.out⟩)))))))
 ·replace hc0:=of_decide_eq_false hc0
  have he:=J4 hc0
  refine AE.skip (q2 (AQ rfl (AK (A6 (c:=((z.natAbs:Nat):Int)) rfl Tryz.underlying2 Tryz.underlying40 (by rw [Cw (by omega) (by omega)];omega)) rfl (ck' Tryz.call104 (IV z.natAbs (by omega)) rfl (ck' Tryz.call105 (Dp false z.natAbs) rfl ?_)))))
  exact A8 rfl Tryz.sizeOf46 rfl (AD.nil (AC.subF (sL [0,2] rfl) (AC.then_ (AE.ret (AJ rfl (Au (i:=0) (cs:=Az (Dd false z.natAbs)) rfl rfl Tryz.isAgg46 Tryz.sizeOf46 rfl) (λw hw=>⟨by rw [he],hw.out⟩))))))
theorem K1 (a:Int) (w:World)  :Calls Tryz.prog 101 #[(aG (Az a))] w (Al w (aG (AY a.natAbs))):=by
 refine Aa (args:=[(aG (Az a))]) Tryz.func101 rfl rfl (AV rfl) (AE.subF (sL [0] rfl) (q4 (BU (cs:=Az a) rfl λb1=>al E9 rfl λb2=>q3 (sL [1,2] rfl) ?_)))
 refine AK (v:=(pP b1 0)) (AA rfl Tryz.underlying46 rfl Tryz.sizeOf44 rfl) rfl (AK (v:=(pP b1 0)) (AA rfl Tryz.underlying44 rfl Tryz.sizeOf42 rfl) rfl (Cf 1 (AY a.natAbs) Br rfl (A8 rfl Tryz.sizeOf42 rfl (AD.nil (AC.subF (sL [2] rfl) ?_)))))
 exact AC.then_ (AE.ret (AJ rfl (Au (i:=0) (cs:=AY a.natAbs) rfl rfl Tryz.isAgg42 Tryz.sizeOf42 rfl) (λw hw=>⟨rfl,hw.out⟩)))
theorem JG (a:Int) (w:World)  :Calls Tryz.prog 106 #[(aG (Az a))] w (Al w (vI a.sign)):=by
 refine Aa (args:=[(aG (Az a))]) Tryz.func106 rfl rfl (AV rfl) (AE.subF (sL [0] rfl) (q4 (BU (cs:=Az a) rfl λb1=>asg' rfl (q6 (sL [1,2] rfl) ?_))))
 refine AE.block (q4 (AK (v:=(pP b1 0)) (AA rfl Tryz.underlying46 rfl Tryz.sizeOf44 rfl) rfl (Cf 0 (AY a.natAbs) QC rfl (ck' Tryz.call171 (HN a.natAbs) rfl (asg' rfl ?_)))))
 refine AD.nil (AC.subF (sL [1,2,3] rfl) (AC.then_ ?_))
 refine AE.cond rfl (λhc0=>?_) (λhc0=>?_)
 ·replace hc0:=of_decide_eq_true hc0
  have he:a.sign=0:=by rw [show a=0 by omega];rfl
  refine q4 (asg' rfl (AD.nil (AC.then_ (AE.ret (AC.in_ret ?_)))))
  exact AC.then_ret (AJ rfl (AS (v:=(vI 0)) rfl) (λw hw=>⟨by rw [he],hw.out⟩))
 ·replace hc0:=of_decide_eq_false hc0
  refine q4 (AK (v:=(pP b1 2)) (AA rfl Tryz.underlying46 rfl Tryz.sizeOf4 rfl) rfl (BJ 0 (Value.bool (decide (a<0))) LT rfl (asg' rfl (AD.nil (AC.subF (sL [1,2,7] rfl) ?_)))))
  refine AC.then_ ?_
  refine AE.cond rfl (λhc1=>?_) (λhc1=>?_)
  ·replace hc1:=of_decide_eq_true hc1
   have he:a.sign = -1:=Int.sign_eq_neg_one_of_neg hc1
   refine q4 (asg' rfl (AD.nil (AC.then_ (AE.ret (AC.in_ret ?_)))))
   exact AC.then_ret (AJ rfl (AS (v:=(vI (-1:Int))) rfl) (λw hw=>⟨by rw [he],hw.out⟩))
  ·replace hc1:=of_decide_eq_false hc1
   have he:a.sign=1:=Int.sign_eq_one_of_pos (by omega)
   refine AE.skip (AC.in_normal (q2 (asg' rfl (AD.nil (AC.then_ ?_)))))
   exact AE.ret (AJ rfl (AS (v:=(vI 1)) rfl) (λw hw=>⟨by rw [he],hw.out⟩))
theorem Og (a:Int) (w:World)  :Calls Tryz.prog 287 #[(aG (Az a))] w (Al w (aG (Az (-a)))):=by
 refine Aa (args:=[(aG (Az a))]) Tryz.func287 rfl rfl (AV rfl) (AE.subF (sL [0] rfl) (q4 (BU (cs:=Az a) rfl λb1=>al IE rfl λb2=>q3 (sL [1,2] rfl) ?_)))
 refine AK (v:=(pP b1 2)) (AA rfl Tryz.underlying46 rfl Tryz.sizeOf4 rfl) rfl (BJ 1 (Value.bool (decide (a<0))) LT rfl (AK (BF (c:=(!(decide (a<0)))) rfl rfl) rfl (AK (v:=(pP b1 0)) (AA rfl Tryz.underlying46 rfl Tryz.sizeOf44 rfl) rfl (AK (v:=(pP b1 0)) (AA rfl Tryz.underlying44 rfl Tryz.sizeOf42 rfl) rfl (Cf 1 (AY a.natAbs) Br rfl ?_)))))
 exact ck' Tryz.call105 (Dp (!(decide (a<0))) a.natAbs) rfl (A8 rfl Tryz.sizeOf46 rfl (AD.nil (AC.subF (sL [2] rfl) (AC.then_ (AE.ret (AJ rfl (Au (i:=0) (cs:=Az (Dd (!(decide (a<0))) a.natAbs)) rfl rfl Tryz.isAgg46 Tryz.sizeOf46 rfl) (λw hw=>⟨by rw [Up],hw.out⟩)))))))
theorem T_ (a b:Int) (ha:nw a.natAbs<=1099511627776) (hb:nw b.natAbs<=1099511627776) (w:World)  :Calls Tryz.prog 99 #[(aG (Az a)),(aG (Az b))] w (Al w (aG (Az (a+b)))):=by
 refine Aa (args:=[(aG (Az a)),(aG (Az b))]) Tryz.func99 rfl rfl (AV rfl) (AE.subF (sL [0,1] rfl) (q4 (BU (cs:=Az a) rfl λb1=>BU (cs:=Az b) rfl λb2=>al IE rfl λb3=>?_)))
 refine q6 (sL [2,3,4] rfl) (q4 (AK (v:=(pP b1 2)) (AA rfl Tryz.underlying46 rfl Tryz.sizeOf4 rfl) rfl (BJ 2 (Value.bool (decide (a<0))) LT rfl (AK (v:=(pP b2 2)) (AA rfl Tryz.underlying46 rfl Tryz.sizeOf4 rfl) rfl (BJ 1 (Value.bool (decide (b<0))) LT rfl ?_)))))
 refine AK (H2 (c:=(decide (a<0) == decide (b<0))) rfl rfl Tryz.underlying4 rfl) rfl (AD.nil (AC.subF (sL [2,3,4,13] rfl) (AC.then_ ?_)))
 refine AE.cond rfl (λhc0=>?_) (λhc0=>?_)
 ·skip
  have he:=Kt hc0
  refine AE.seq (CS [(0,true),(1,true),(2,true),(3,true),(4,true),(5,true),(6,true),(7,true),(8,false),(9,false),(10,false)] (sl sr) (Ap (v:=(pP b1 2)) rfl (AA rfl Tryz.underlying46 rfl Tryz.sizeOf4 rfl) (Ba 1 (Value.bool (decide (a<0))) LT rfl (Ap (v:=(pP b1 0)) rfl (AA rfl Tryz.underlying46 rfl Tryz.sizeOf44 rfl) (Ap (v:=(pP b1 0)) rfl (AA rfl Tryz.underlying44 rfl Tryz.sizeOf42 rfl) ?_)))))
  refine GP 1 (AY a.natAbs) Br rfl (Ap (v:=(pP b2 0)) rfl (AA rfl Tryz.underlying46 rfl Tryz.sizeOf44 rfl) (Ap (v:=(pP b2 0)) rfl (AA rfl Tryz.underlying44 rfl Tryz.sizeOf42 rfl) (GP 0 (AY b.natAbs) Br rfl (OkE.imp rfl (ck' Tryz.call107 (Sa a.natAbs b.natAbs (by omega) (by omega)) rfl ?_)))))
  refine OkE.back (sl sr) (OkE.imp rfl (ck' Tryz.call105 (Dp (decide (a<0)) (a.natAbs+b.natAbs)) rfl (OkE.back (sl sr) (OkE.imp rfl (A8 rfl Tryz.sizeOf46 rfl ?_)))))
  exact OkE.back (sl sr) (OkE.nil (AC.subF (sL [2,3,4] rfl) (AC.then_ (AE.ret (AC.then_ret (AJ rfl (Au (i:=0) (cs:=Az (Dd (decide (a<0)) (a.natAbs+b.natAbs))) rfl rfl Tryz.isAgg46 Tryz.sizeOf46 rfl) (λw hw=>⟨by rw [he],hw.out⟩)))))))
 ·skip
  refine AE.skip (q1 (q4 (AK (v:=(pP b1 0)) (AA rfl Tryz.underlying46 rfl Tryz.sizeOf44 rfl) rfl (AK (v:=(pP b1 0)) (AA rfl Tryz.underlying44 rfl Tryz.sizeOf42 rfl) rfl (Cf 2 (AY a.natAbs) Br rfl ?_)))))
  refine AK (v:=(pP b2 0)) (AA rfl Tryz.underlying46 rfl Tryz.sizeOf44 rfl) rfl (AK (v:=(pP b2 0)) (AA rfl Tryz.underlying44 rfl Tryz.sizeOf42 rfl) rfl (Cf 1 (AY b.natAbs) Br rfl (ck' Tryz.call103 (NP a.natAbs b.natAbs (by omega) (by omega)) rfl (AQ rfl (AK (AZ (v:=(aG (AY (a.natAbs-b.natAbs)))) rfl rfl) rfl ?_)))))
  refine AK (AZ (v:=(Value.bool (decide (b.natAbs<=a.natAbs)))) rfl rfl) rfl (al E9 rfl λb4=>A8 rfl Tryz.sizeOf42 rfl (asg' rfl (q3 (sL [2,3,4,5,6] rfl) (AQ rfl ?_))))
  refine AD.nil (AC.subF (sL [2,3,4,5,34] rfl) (AC.then_ ?_))
  refine AE.cond rfl (λhc1=>?_) (λhc1=>?_)
  ·replace hc1:=of_decide_eq_true hc1
   have he:=NL hc0 hc1
   refine q4 (AK (v:=(pP b1 2)) (AA rfl Tryz.underlying46 rfl Tryz.sizeOf4 rfl) rfl (BJ 3 (Value.bool (decide (a<0))) LT rfl (BG 0 Br rfl (ck' Tryz.call105 (Dp (decide (a<0)) (a.natAbs-b.natAbs)) rfl (C6 rfl Tryz.sizeOf46 rfl ?_)))))
   exact AD.nil (AC.subF (sL [2,3,4,5] rfl) (AC.then_ (AE.ret (AC.then_ret (AJ rfl (Au (i:=1) (cs:=Az (Dd (decide (a<0)) (a.natAbs-b.natAbs))) rfl rfl Tryz.isAgg46 Tryz.sizeOf46 rfl) (λw hw=>⟨by rw [he],hw.out⟩))))))
  ·replace hc1:=of_decide_eq_false hc1
   have he:=Nr hc0 hc1
   refine AE.skip (q2 (AK (v:=(pP b2 0)) (AA rfl Tryz.underlying46 rfl Tryz.sizeOf44 rfl) rfl (AK (v:=(pP b2 0)) (AA rfl Tryz.underlying44 rfl Tryz.sizeOf42 rfl) rfl (Cf 2 (AY b.natAbs) Br rfl (AK (v:=(pP b1 0)) (AA rfl Tryz.underlying46 rfl Tryz.sizeOf44 rfl) rfl ?_)))))
   refine AK (v:=(pP b1 0)) (AA rfl Tryz.underlying44 rfl Tryz.sizeOf42 rfl) rfl (Cf 3 (AY a.natAbs) Br rfl (ck' Tryz.call103 (NP b.natAbs a.natAbs (by omega) (by omega)) rfl (AQ rfl (AK (AZ (v:=(aG (AY (b.natAbs-a.natAbs)))) rfl rfl) rfl (AK (AZ (v:=(Value.bool (decide (a.natAbs<=b.natAbs)))) rfl rfl) rfl ?_)))))
   refine al E9 rfl λb5=>A8 rfl Tryz.sizeOf42 rfl (asg' rfl (q3 (sL [2,3,4,5,7] rfl) (AK (v:=(pP b2 2)) (AA rfl Tryz.underlying46 rfl Tryz.sizeOf4 rfl) rfl (BJ 3 (Value.bool (decide (b<0))) LT rfl ?_))))
   refine BG 0 Br rfl (ck' Tryz.call105 (Dp (decide (b<0)) (b.natAbs-a.natAbs)) rfl (I3 rfl Tryz.sizeOf46 rfl (AD.nil (AC.subF (sL [2,3,4,5,7] rfl) (AC.then_ ?_)))))
   exact AE.ret (AJ rfl (Au (i:=2) (cs:=Az (Dd (decide (b<0)) (b.natAbs-a.natAbs))) rfl rfl Tryz.isAgg46 Tryz.sizeOf46 rfl) (λw hw=>⟨by rw [he],hw.out⟩))
theorem SH (a b:Int) (ha:nw a.natAbs<=1099511627776) (hb:nw b.natAbs<=1099511627776) (w:World)  :Calls Tryz.prog 108 #[(aG (Az a)),(aG (Az b))] w (Al w (aG (Az (a*b)))):=by
 refine Aa (args:=[(aG (Az a)),(aG (Az b))]) Tryz.func108 rfl rfl (AV rfl) (AE.subF (sL [0,1] rfl) (q4 (BU (cs:=Az a) rfl λb1=>BU (cs:=Az b) rfl λb2=>al IE rfl λb3=>?_)))
 refine q6 (sL [2,3,4] rfl) (CS [(0,true),(1,true),(2,true),(3,true),(4,true),(5,true),(6,true),(7,true),(8,true),(9,true),(10,true),(11,false),(12,false),(13,false)] (sl sr) (Ap (v:=(pP b1 2)) rfl (AA rfl Tryz.underlying46 rfl Tryz.sizeOf4 rfl) (Ba 1 (Value.bool (decide (a<0))) LT rfl (Ap (v:=(pP b2 2)) rfl (AA rfl Tryz.underlying46 rfl Tryz.sizeOf4 rfl) (Ba 0 (Value.bool (decide (b<0))) LT rfl ?_)))))
 refine Ap rfl (Fv (c:=(!(decide (a<0) == decide (b<0)))) rfl rfl Tryz.underlying4 rfl) (Ap (v:=(pP b1 0)) rfl (AA rfl Tryz.underlying46 rfl Tryz.sizeOf44 rfl) (Ap (v:=(pP b1 0)) rfl (AA rfl Tryz.underlying44 rfl Tryz.sizeOf42 rfl) (GP 1 (AY a.natAbs) Br rfl (Ap (v:=(pP b2 0)) rfl (AA rfl Tryz.underlying46 rfl Tryz.sizeOf44 rfl) (Ap (v:=(pP b2 0)) rfl (AA rfl Tryz.underlying44 rfl Tryz.sizeOf42 rfl) ?_)))))
 refine GP 0 (AY b.natAbs) Br rfl (OkE.imp rfl (ck' Tryz.call60 (NJ a.natAbs b.natAbs (by omega) (by omega)) rfl (OkE.back (sl sr) (OkE.imp rfl (ck' Tryz.call105 (Dp (!(decide (a<0) == decide (b<0))) (a.natAbs*b.natAbs)) rfl ?_)))))
 refine OkE.back (sl sr) (OkE.imp rfl (A8 rfl Tryz.sizeOf46 rfl (OkE.back (sl sr) (OkE.nil (AC.subF (sL [4] rfl) ?_)))))
 exact AC.then_ (AE.ret (AJ rfl (Au (i:=0) (cs:=Az (Dd (!(decide (a<0) == decide (b<0))) (a.natAbs*b.natAbs))) rfl rfl Tryz.isAgg46 Tryz.sizeOf46 rfl) (λw hw=>⟨by rw [OS],hw.out⟩)))
theorem Gy (a b:Int) (ha:nw a.natAbs<=1099511627776) (hb:nw b.natAbs<=1099511627776) (w:World)  :Calls Tryz.prog 98 #[(Value.func (.func 99) #[] #[]),(aG (Az a)),(aG (Az b))] w (Al w (aG (Az (a+b)))):=by
 refine Aa (args:=[(Value.func (.func 99) #[] #[]),(aG (Az a)),(aG (Az b))]) Tryz.func98 rfl rfl (AV rfl) (AE.subF (sL [0,1,2] rfl) (q4 (BU (cs:=Az a) rfl λb1=>BU (cs:=Az b) rfl λb2=>al IE rfl λb3=>?_)))
 refine q3 (sL [0,4,5,6] rfl) (AQ rfl (BG 2 Ci rfl (BG 1 Ci rfl (ck' Tryz.call99 (T_ a b (by first|omega|(simp only [Int.natAbs_neg,Aw,Int.natAbs_natCast];omega)) (by first|omega|(simp only [Int.natAbs_neg,Aw,Int.natAbs_natCast];omega))) rfl (A8 rfl Tryz.sizeOf46 rfl ?_)))))
 exact AD.nil (AC.subF (sL [6] rfl) (AC.then_ (AE.ret (AJ rfl (Au (i:=0) (cs:=Az (a+b)) rfl rfl Tryz.isAgg46 Tryz.sizeOf46 rfl) (λw hw=>⟨rfl,hw.out⟩)))))
theorem Jf (a b:Int) (ha:nw a.natAbs<=1099511627776) (hb:nw b.natAbs<=1099511627776) (w:World)  :Calls Tryz.prog 98 #[(Value.func (.func 108) #[] #[]),(aG (Az a)),(aG (Az b))] w (Al w (aG (Az (a*b)))):=by
 refine Aa (args:=[(Value.func (.func 108) #[] #[]),(aG (Az a)),(aG (Az b))]) Tryz.func98 rfl rfl (AV rfl) (AE.subF (sL [0,1,2] rfl) (q4 (BU (cs:=Az a) rfl λb1=>BU (cs:=Az b) rfl λb2=>al IE rfl λb3=>?_)))
 refine q3 (sL [0,4,5,6] rfl) (AQ rfl (BG 2 Ci rfl (BG 1 Ci rfl (ck' Tryz.call108 (SH a b (by first|omega|(simp only [Int.natAbs_neg,Aw,Int.natAbs_natCast];omega)) (by first|omega|(simp only [Int.natAbs_neg,Aw,Int.natAbs_natCast];omega))) rfl (A8 rfl Tryz.sizeOf46 rfl ?_)))))
 exact AD.nil (AC.subF (sL [6] rfl) (AC.then_ (AE.ret (AJ rfl (Au (i:=0) (cs:=Az (a*b)) rfl rfl Tryz.isAgg46 Tryz.sizeOf46 rfl) (λw hw=>⟨rfl,hw.out⟩)))))
theorem LD (a b:Int) (ha:nw a.natAbs<=1099511627776) (hb:nw b.natAbs<=1099511627776) (w:World)  :Calls Tryz.prog 55 #[(aG (Az a)),(aG (Az b))] w (Al w (aG (Az (a+b)))):=by
 refine Aa (args:=[(aG (Az a)),(aG (Az b))]) Tryz.func55 rfl rfl (AV rfl) (AE.subF (sL [0,1] rfl) (q4 (BU (cs:=Az a) rfl λb1=>BU (cs:=Az b) rfl λb2=>al IE rfl λb3=>?_)))
 refine q3 (sL [2,3,4] rfl) (BG 2 Ci rfl (BG 1 Ci rfl (ck' Tryz.call98 (Gy a b (by first|omega|(simp only [Int.natAbs_neg,Aw,Int.natAbs_natCast];omega)) (by first|omega|(simp only [Int.natAbs_neg,Aw,Int.natAbs_natCast];omega))) rfl (A8 rfl Tryz.sizeOf46 rfl (AD.nil ?_)))))
 exact AC.subF (sL [4] rfl) (AC.then_ (AE.ret (AJ rfl (Au (i:=0) (cs:=Az (a+b)) rfl rfl Tryz.isAgg46 Tryz.sizeOf46 rfl) (λw hw=>⟨rfl,hw.out⟩))))
theorem Uo (a b:Int) (ha:nw a.natAbs<=1099511627776) (hb:nw b.natAbs<=1099511627776) (w:World)  :Calls Tryz.prog 275 #[(aG (Az a)),(aG (Az b))] w (Al w (aG (Az (a-b)))):=by
 refine Aa (args:=[(aG (Az a)),(aG (Az b))]) Tryz.func275 rfl rfl (AV rfl) (AE.subF (sL [0,1] rfl) (q4 (BU (cs:=Az a) rfl λb1=>BU (cs:=Az b) rfl λb2=>al IE rfl λb3=>?_)))
 refine q6 (sL [2,3,4] rfl) (CS [(0,true),(1,true),(2,false),(3,false),(4,false)] (sl sr) (Df 1 Ci rfl (Df 0 Ci rfl (OkE.imp rfl (ck' Tryz.call287 (Og b) rfl ?_)))))
 refine OkE.back (sl sr) (OkE.imp rfl (ck' Tryz.call98 (Gy a (-b) (by first|omega|(simp only [Int.natAbs_neg,Aw,Int.natAbs_natCast];omega)) (by first|omega|(simp only [Int.natAbs_neg,Aw,Int.natAbs_natCast];omega))) rfl (OkE.back (sl sr) (OkE.imp rfl (A8 rfl Tryz.sizeOf46 rfl ?_)))))
 exact OkE.back (sl sr) (OkE.nil (AC.subF (sL [4] rfl) (AC.then_ (AE.ret (AJ rfl (Au (i:=0) (cs:=Az (a+(-b))) rfl rfl Tryz.isAgg46 Tryz.sizeOf46 rfl) (λw hw=>⟨by rw [Int.sub_eq_add_neg],hw.out⟩))))))
theorem F_ (a b:Int) (ha:nw a.natAbs<=1099511627776) (hb:nw b.natAbs<=1099511627776) (w:World)  :Calls Tryz.prog 58 #[(aG (Az a)),(aG (Az b))] w (Al w (aG (Az (a*b)))):=by
 refine Aa (args:=[(aG (Az a)),(aG (Az b))]) Tryz.func58 rfl rfl (AV rfl) (AE.subF (sL [0,1] rfl) (q4 (BU (cs:=Az a) rfl λb1=>BU (cs:=Az b) rfl λb2=>al IE rfl λb3=>?_)))
 refine q3 (sL [2,3,4] rfl) (BG 2 Ci rfl (BG 1 Ci rfl (ck' Tryz.call98 (Jf a b (by first|omega|(simp only [Int.natAbs_neg,Aw,Int.natAbs_natCast];omega)) (by first|omega|(simp only [Int.natAbs_neg,Aw,Int.natAbs_natCast];omega))) rfl (A8 rfl Tryz.sizeOf46 rfl (AD.nil ?_)))))
 exact AC.subF (sL [4] rfl) (AC.then_ (AE.ret (AJ rfl (Au (i:=0) (cs:=Az (a*b)) rfl rfl Tryz.isAgg46 Tryz.sizeOf46 rfl) (λw hw=>⟨rfl,hw.out⟩))))
theorem Oi (a b:Int) (ha:nw a.natAbs<=1099511627776) (hb:nw b.natAbs<=1099511627776) (w:World)  :Calls Tryz.prog 242 #[(aG (Az a)),(aG (Az b))] w (Al w (vI ((a-b).sign))):=by
 refine Aa (args:=[(aG (Az a)),(aG (Az b))]) Tryz.func242 rfl rfl (AV rfl) (AE.subF (sL [0,1] rfl) (q4 (BU (cs:=Az a) rfl λb1=>BU (cs:=Az b) rfl λb2=>asg' rfl ?_)))
 refine q3 (sL [2,3,4] rfl) (BG 1 Ci rfl (BG 0 Ci rfl (ck' Tryz.call275 (Uo a b (by first|omega|(simp only [Int.natAbs_neg,Aw,Int.natAbs_natCast];omega)) (by first|omega|(simp only [Int.natAbs_neg,Aw,Int.natAbs_natCast];omega))) rfl (ck' Tryz.call106 (JG (a-b)) rfl (asg' rfl ?_)))))
 exact AD.nil (AC.subF (sL [4] rfl) (AC.then_ (AE.ret (AJ rfl (AS (v:=(vI ((a-b).sign))) rfl) (λw hw=>⟨rfl,hw.out⟩)))))
end
end Go.Proofs.YtpgncndhhhllfaaGreatDoor
