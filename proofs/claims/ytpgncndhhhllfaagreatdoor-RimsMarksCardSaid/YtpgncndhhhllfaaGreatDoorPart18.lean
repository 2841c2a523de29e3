import Derived.Test.YtpgncndhhhllfaaGreatDoorPart06
import Derived.Test.YtpgncndhhhllfaaGreatDoorPart16
import Derived.Test.YtpgncndhhhllfaaGreatDoorPart17
namespace Go.Proofs.YtpgncndhhhllfaaGreatDoor
open Go Go.RowKit Go.Proofs.Tryz
set_option linter.unusedVariables false
set_option linter.unusedSimpArgs false
section
set_option maxRecDepth 100000
theorem El {N v:Nat} (h:v<4294967296^N):val ((CO N v).take N)=v:=by
 rw [List.take_of_length_le (by rw [BT];exact Nat.le_refl _),EC _ _ h]
theorem P4 {a b:Nat} (hb:0<nw b) (h:nw b<=nw a):a/b<4294967296^(nw a+1-nw b):=by
 have h1:=Gt hb
 have h2:=Bb a
 rw [Nat.div_lt_iff_lt_mul (by have:=Nat.pow_pos (n:=nw b-1) (show 0<4294967296 by omega);omega)]
 have h3:4294967296^(nw a+1-nw b)*4294967296^(nw b-1)<=4294967296^(nw a+1-nw b)*b:=Nat.mul_le_mul_left _ h1
 rw [<-Nat.pow_add,show nw a+1-nw b+(nw b-1)=nw a by omega] at h3
 omega
theorem Qg {a b:Nat}:a%b<4294967296^(nw a+1):=Nat.lt_of_le_of_lt (Nat.mod_le _ _) (Nat.lt_of_lt_of_le (Bb a) (Nat.pow_le_pow_right (by omega) (by omega)))
theorem OB {b:Nat} (h:nw b=0):b=0:=by
 have:=Bb b
 rw [h] at this
 omega
theorem U8 {b:Nat} (h:nw b=1):(Ao b).getD 0 0=b/\b<4294967296:=by
 have h1:=Bb b
 rw [h] at h1
 refine ⟨?_,by omega⟩
 rw [C4 (by omega),Gn,Nat.pow_zero,Nat.div_one,Nat.mod_eq_of_lt (by omega)]
theorem J3  :Instr.fill ([(0,1),(1,1)].toArray[·]?) (Aa 0).toArray []=some (Aa 0).toArray:=by kernel_rfl
theorem OD (a b:Nat) (ha:nw a<=1099511627776) (hb:nw b<=1099511627776) (hb0:b≠0) (w:World)  :Calls Tryz.prog 102 #[(aG (Aa a)),(aG (Aa b))] w (An w (Value.tuple #[(aG (Aa (a/b))),(aG (Aa (a%b))),(Value.bool true)])):=by
 have hnb:nw b≠0:=λh=>hb0 (OB h)
 have hla:=B5 a
 have hlb:=B5 b
 refine Ag (args:=[(aG (Aa a)),(aG (Aa b))]) Tryz.func102 rfl rfl (AY rfl) (AF.subF (sL [0,1] rfl) (q4 (B9 (cs:=Aa a) rfl λb1=>B9 (cs:=Aa b) rfl λb2=>al F3 rfl λb3=>?_)))
 refine al F3 rfl λb4=>asg' rfl (q6 (sL [2,3,4,5,6] rfl) (AF.block (q4 (BF 2 CT rfl ?_))))
 refine ck' Tryz.call167 (O3 b) rfl (asg' rfl (AD.nil (AC.subF (sL [2,3,4,5,6,12] rfl) (AC.then_ ?_))))
 refine AF.cond rfl (λhc0=>?_) (λhc0=>?_)
 ·replace hc0:=of_decide_eq_true hc0
  exact absurd hc0 hb0
 ·replace hc0:=of_decide_eq_false hc0
  refine q4 (BF 3 CT rfl (BF 2 CT rfl (ck' Tryz.call168 (TU a b (by omega) (by omega)) rfl (AH (Ad (c:=(decide ((Cy a b)<(0:Int)))) rfl rfl rfl) rfl (asg' rfl ?_)))))
  refine AD.nil (AC.subF (sL [2,3,4,5,6,17] rfl) (AC.then_ ?_))
  refine AF.cond rfl (λhc1=>?_) (λhc1=>?_)
  ·replace hc1:=of_decide_eq_true hc1
   rw [GB] at hc1
   have e1:a/b=0:=Nat.div_eq_of_lt hc1
   have e2:a%b=a:=Nat.mod_eq_of_lt hc1
   refine AF.seq (Cw [(0,true),(1,true),(2,false),(3,false),(4,true)] (sl (sl sr)) (Aw (v:=(aG (Aa 0))) rfl (AU (zs:=Aa 0) (vs:=Aa 0) (pv:=[]) (places:=[(0,1),(1,1)]) Tryz.zeroValue42 Tryz.underlying42 (λw=>by simp [Tryz.sizeOf9,Tryz.sizeOf40]) rfl (J3 )) (GO 1 CT rfl (OkE.imp rfl (Ej rfl Tryz.sizeOf42 rfl ?_)))))
   refine OkE.back (sl (sl sr)) (OkE.imp rfl (BC rfl Tryz.sizeOf42 rfl (OkE.back (sl (sl sr)) (pS' rfl (OkE.nil ?_)))))
   exact AC.subF (sL [2,3,4,5,6] rfl) (AC.then_ (AF.ret (AC.in_ret (AC.then_ret (GF rfl (BB (i:=1) (cs:=Aa 0) rfl rfl Tryz.isAgg42 Tryz.sizeOf42 rfl) (BB (i:=0) (cs:=Aa a) rfl rfl Tryz.isAgg42 Tryz.sizeOf42 rfl) (AQ (v:=(Value.bool true)) rfl) (λw hw=>⟨by rw [e1,e2],hw.out⟩))))))
  ·replace hc1:=of_decide_eq_false hc1
   rw [GB] at hc1
   have hba:nw b<=nw a:=Ca (by omega)
   refine q4 (AH (v:=(pP b1 1)) (AA rfl Tryz.underlying42 rfl Tryz.sizeOf9 rfl) rfl (BD 3 (Value.string (BW a)) RJ rfl (AH (Ba (c:=(decide (a<18446744073709551616))) rfl rfl CI) rfl (asg' rfl (AD.nil ?_)))))
   refine AC.subF (sL [2,3,4,5,6,24] rfl) (AC.then_ ?_)
   refine AF.cond rfl (λhc2=>?_) (λhc2=>?_)
   ·replace hc2:=of_decide_eq_true hc2
    have la:Bq a=a:=BU hc2
    have lb:Bq b=b:=BU (by omega)
    have q1:a/b<18446744073709551616:=Nat.lt_of_le_of_lt (Nat.div_le_self _ _) hc2
    have q2:a%b<18446744073709551616:=Nat.lt_of_le_of_lt (Nat.mod_le _ _) hc2
    refine AF.seq (Cw [(0,true),(1,true),(2,true),(3,true),(4,true),(5,true),(6,true),(7,true),(8,true),(9,true),(10,true),(11,true),(12,false),(13,false),(14,true)] (sl (sl sr)) (Aw (v:=(pP b1 0)) rfl (AA rfl Tryz.underlying42 rfl Tryz.sizeOf40 rfl) (Bm 1 (vK .u64 (Bq a)) F1 rfl (Aw (v:=(pP b2 0)) rfl (AA rfl Tryz.underlying42 rfl Tryz.sizeOf40 rfl) (Bm 0 (vK .u64 (Bq b)) F1 rfl ?_)))))
    refine Aw rfl (EA (c:=(((Bq a)/(Bq b):Nat):Int)) rfl rfl (by omega) (G3 (a:=Bq a) (b:=Bq b) (by omega))) (Aw (v:=(aG ([(vK .u64 ((Bq a)/(Bq b))),(Value.string (BW 0))]))) rfl (AU (zs:=Aa 0) (vs:=[(vK .u64 ((Bq a)/(Bq b))),(Value.string (BW 0))]) (pv:=[(0,(vK .u64 ((Bq a)/(Bq b))))]) (places:=[(0,1),(1,1)]) Tryz.zeroValue42 Tryz.underlying42 (λw=>by simp [Tryz.sizeOf9,Tryz.sizeOf40]) rfl rfl) (Aw (v:=(pP b1 0)) rfl (AA rfl Tryz.underlying42 rfl Tryz.sizeOf40 rfl) (Bm 1 (vK .u64 (Bq a)) F1 rfl (Aw (v:=(pP b2 0)) rfl (AA rfl Tryz.underlying42 rfl Tryz.sizeOf40 rfl) (Bm 0 (vK .u64 (Bq b)) F1 rfl ?_)))))
    refine Aw rfl (Cg (c:=(((Bq a)%(Bq b):Nat):Int)) rfl rfl (by omega) (K7 (a:=Bq a) (b:=Bq b))) (Aw (v:=(aG ([(vK .u64 ((Bq a)%(Bq b))),(Value.string (BW 0))]))) rfl (AU (zs:=Aa 0) (vs:=[(vK .u64 ((Bq a)%(Bq b))),(Value.string (BW 0))]) (pv:=[(0,(vK .u64 ((Bq a)%(Bq b))))]) (places:=[(0,1),(1,1)]) Tryz.zeroValue42 Tryz.underlying42 (λw=>by simp [Tryz.sizeOf9,Tryz.sizeOf40]) rfl rfl) (OkE.imp rfl (Ej rfl Tryz.sizeOf42 rfl (OkE.back (sl (sl sr)) (OkE.imp rfl ?_)))))
    refine BC rfl Tryz.sizeOf42 rfl (OkE.back (sl (sl sr)) (pS' rfl (OkE.nil (AC.subF (sL [2,3,4,5,6] rfl) (AC.then_ ?_)))))
    exact AF.ret (AC.in_ret (AC.then_ret (GF rfl (BB (i:=1) (cs:=[(vK .u64 ((Bq a)/(Bq b))),(Value.string (BW 0))]) rfl rfl Tryz.isAgg42 Tryz.sizeOf42 rfl) (BB (i:=0) (cs:=[(vK .u64 ((Bq a)%(Bq b))),(Value.string (BW 0))]) rfl rfl Tryz.isAgg42 Tryz.sizeOf42 rfl) (AQ (v:=(Value.bool true)) rfl) (λw hw=>⟨by rw [DB q1,DB q2,la,lb];rfl,hw.out⟩))))
   ·replace hc2:=of_decide_eq_false hc2
    refine AF.skip (AC.in_normal (q2 (BF 2 CT rfl (AD.callB (V:=λb5=>(Value.slice (some ⟨b5,0,none⟩) (nw b) ((Ao b).length))) (T:=97) (cs:=Aj (Ao b)) (AO rfl) (Ay (args:=[(aG (Aa b))]) rfl rfl Tryz.call111) (λw hw=>Cn b (by omega) w) rfl (AY rfl) λb5=>asg' rfl ?_))))
    refine q6 (sL [2,3,4,5,6,7] rfl) (q4 (AJ rfl (AH (v:=(vN (nw b))) (AE rfl Tryz.underlying184) rfl (AH (BJ (c:=(decide ((nw b)=1))) rfl rfl (RG (a:=nw b) (b:=1))) rfl (AD.nil ?_)))))
    refine AC.subF (sL [2,3,4,5,6,7,44] rfl) (AC.then_ ?_)
    refine AF.cond rfl (λhc3=>?_) (λhc3=>?_)
    ·replace hc3:=of_decide_eq_true hc3
     obtain ⟨hy,hy2⟩:=U8 hc3
     refine AF.seq (Cw [(0,true),(2,true),(3,true),(4,true),(1,false),(5,false),(6,true),(7,true),(8,true),(9,true),(10,true)] sr (GO 4 CT rfl (BS rfl (Aw (v:=(pP b5 0)) rfl (AK (j:=0) rfl rfl Tryz.underlying184 Tryz.sizeOf97 rfl (by omega) rfl) ?_))))
     have hx1:(Ao b).getD 0 0<4294967296:=W32.getD (B6 b) 0
     refine Aw rfl (AP (i:=0) (v:=(vK .u32 ((Ao b).getD 0 0))) rfl rfl Tryz.isAgg97 (BA (xs:=Ao b) (j:=0) (by omega))) (OkE.imp rfl (AD.callB (V:=λb6=>(Value.slice (some ⟨b6,0,none⟩) (nw a) ((Ao a).length))) (T:=97) (cs:=Aj (Ao a)) (AO rfl) (Ay (args:=[(aG (Aa a))]) rfl rfl Tryz.call111) (λw hw=>Cn a (by omega) w) rfl (AY rfl) λb6=>OkE.back (sl sr) (OkE.imp rfl (AD.callB (V:=λb7=>(Value.tuple #[(Value.slice (some ⟨b7,0,none⟩) (nw a) (nw a)),(vK .u32 (a%((Ao b).getD 0 0)))])) (T:=97) (cs:=Aj (CO (nw a) (a/((Ao b).getD 0 0)))) (AO rfl) (Ay (args:=[(Value.slice (some ⟨b6,0,none⟩) (nw a) ((Ao a).length)),(vK .u32 ((Ao b).getD 0 0))]) rfl rfl Tryz.call160) (λw hw=>Tn a ((Ao b).getD 0 0) _ _ (by omega) (by omega) (by omega) w (hw.get (i:=0) rfl)) rfl (AY rfl) λb7=>?_))))
     refine OkE.back (sl (sl sr)) (BS rfl (Aw rfl (AS (v:=(Value.slice (some ⟨b7,0,none⟩) (nw a) (nw a))) rfl rfl) (Aw rfl (AS (v:=(vK .u32 (a%((Ao b).getD 0 0)))) rfl rfl) (pS' rfl (pS' rfl ?_)))))
     refine OkE.nil (AC.subF (sL [2,3,4,5,6,7,8,9] rfl) (q2 (AJ rfl (DC Tryz.call110 (λw hw=>H0 _ (nw a) (nw a) (CO (nw a) (a/((Ao b).getD 0 0))) (DS _ _) (by first|omega|(rw [BT];omega)|simp|(simp;omega)) (by first|omega|simp|(simp;omega)) (by first|omega|simp|(simp;omega)) w (hw.get (i:=0) rfl)) rfl (AD.retell (k:=55) (u:=(aG (Aa (a/b)))) rfl (by rw [hy,El (Nat.lt_of_le_of_lt (Nat.div_le_self _ _) (Bb a))]) ?_)))))
     refine AJ rfl ?_
     have hmb:a%(Ao b).getD 0 0<4294967296:=by rw [hy];exact Nat.lt_of_lt_of_le (Nat.mod_lt _ (by omega)) (by omega)
     refine AH (Au (c:=((a%((Ao b).getD 0 0):Nat):Int)) rfl Tryz.underlying97 Tryz.underlying40 (BH (by omega))) rfl (AH (v:=(aG ([(vK .u64 (a%((Ao b).getD 0 0))),(Value.string (BW 0))]))) (AU (zs:=Aa 0) (vs:=[(vK .u64 (a%((Ao b).getD 0 0))),(Value.string (BW 0))]) (pv:=[(0,(vK .u64 (a%((Ao b).getD 0 0))))]) (places:=[(0,1),(1,1)]) Tryz.zeroValue42 Tryz.underlying42 (λw=>by simp [Tryz.sizeOf9,Tryz.sizeOf40]) rfl rfl) rfl (AD.retell (k:=58) (u:=(aG (Aa (a%b)))) rfl (by rw [hy] at hmb ⊢;rw [DB (by omega)];rfl) (IM 4 (off:=0) (vs:=Aa (a/b)) (cs':=Aa (a/b)) (AO rfl) rfl Tryz.sizeOf42 rfl (Iu rfl Tryz.sizeOf42 rfl (asg' rfl ?_)))))
     exact AD.nil (AC.subF (sL [2,3,4,5,6,7] rfl) (AC.then_ (AF.ret (AC.then_ret (GF rfl (BB (i:=4) (cs:=Aa (a/b)) rfl rfl Tryz.isAgg42 Tryz.sizeOf42 rfl) (BB (i:=3) (cs:=Aa (a%b)) rfl rfl Tryz.isAgg42 Tryz.sizeOf42 rfl) (AQ (v:=(Value.bool true)) rfl) (λw hw=>⟨rfl,hw.out⟩))))))
    ·replace hc3:=of_decide_eq_false hc3
     refine AF.skip (q2 (BF 4 CT rfl (AD.callB (V:=λb6=>(Value.slice (some ⟨b6,0,none⟩) (nw a) ((Ao a).length))) (T:=97) (cs:=Aj (Ao a)) (AO rfl) (Ay (args:=[(aG (Aa a))]) rfl rfl Tryz.call111) (λw hw=>Cn a (by omega) w) rfl (AY rfl) λb6=>AJ rfl (AD.callBB (V:=λb7 b8=>(Value.tuple #[(Value.slice (some ⟨b7,0,none⟩) (nw a+1-nw b) (nw a+1-nw b)),(Value.slice (some ⟨b8,0,none⟩) (nw a+1) (nw a+1))])) (T:=97) (cs:=Aj (CO (nw a+1-nw b) (a/b))) (T2:=97) (cs2:=Aj (CO (nw a+1) (a%b))) (AO rfl) (Ay (args:=[(Value.slice (some ⟨b6,0,none⟩) (nw a) ((Ao a).length)),(Value.slice (some ⟨b5,0,none⟩) (nw b) ((Ao b).length))]) rfl rfl Tryz.call169) (λw hw=>VV a b _ _ _ _ (by omega) (by omega) (by omega) w (hw.get (i:=0) rfl) (hw.get (i:=1) rfl)) rfl (AY rfl) λb7 b8=>?_))))
     refine AJ rfl (AH (AS (v:=(Value.slice (some ⟨b7,0,none⟩) (nw a+1-nw b) (nw a+1-nw b))) rfl rfl) rfl (AH (AS (v:=(Value.slice (some ⟨b8,0,none⟩) (nw a+1) (nw a+1))) rfl rfl) rfl (asg' rfl (asg' rfl (q3 (sL [2,3,4,5,6,7,10,11] rfl) ?_)))))
     refine AJ rfl (DC Tryz.call110 (λw hw=>H0 _ (nw a+1-nw b) (nw a+1-nw b) (CO (nw a+1-nw b) (a/b)) (DS _ _) (by first|omega|(rw [BT];omega)|simp|(simp;omega)) (by first|omega|simp|(simp;omega)) (by first|omega|simp|(simp;omega)) w (hw.get (i:=0) rfl)) rfl (AD.retell (k:=67) (u:=(aG (Aa (a/b)))) rfl (by rw [El (P4 (by omega) hba)]) (AJ rfl (DC Tryz.call110 (λw hw=>H0 _ (nw a+1) (nw a+1) (CO (nw a+1) (a%b)) (DS _ _) (by first|omega|(rw [BT];omega)|simp|(simp;omega)) (by first|omega|simp|(simp;omega)) (by first|omega|simp|(simp;omega)) w (hw.get (i:=1) rfl)) rfl (AD.retell (k:=69) (u:=(aG (Aa (a%b)))) rfl (by rw [El Qg]) ?_)))))
     refine IM 5 (off:=0) (vs:=Aa (a/b)) (cs':=Aa (a/b)) (AO rfl) rfl Tryz.sizeOf42 rfl (IM 4 (off:=0) (vs:=Aa (a%b)) (cs':=Aa (a%b)) (AO rfl) rfl Tryz.sizeOf42 rfl (asg' rfl (AD.nil (AC.subF (sL [2,3,4,5,6,7] rfl) (AC.then_ ?_)))))
     exact AF.ret (GF rfl (BB (i:=5) (cs:=Aa (a/b)) rfl rfl Tryz.isAgg42 Tryz.sizeOf42 rfl) (BB (i:=4) (cs:=Aa (a%b)) rfl rfl Tryz.isAgg42 Tryz.sizeOf42 rfl) (AQ (v:=(Value.bool true)) rfl) (λw hw=>⟨rfl,hw.out⟩))
theorem XA (a b:Nat) (ha:nw a<=1099511627776) (hb:nw b<=1099511627776) (w:World)  :Calls Tryz.prog 100 #[(aG (Aa a)),(aG (Aa b))] w (An w (aG (Aa (Nat.gcd a b)))):=by
 refine Ag (args:=[(aG (Aa a)),(aG (Aa b))]) Tryz.func100 rfl rfl (AY rfl) (AF.subF (sL [0,1] rfl) (q4 (B9 (cs:=Aa a) rfl λb1=>B9 (cs:=Aa b) rfl λb2=>al F3 rfl λb3=>?_)))
 refine q6 (sL [2,3,4] rfl) (AF.block ?_)
 refine AF.lp2 (tg λ(x:Nat) (y:Nat)=>Nat.gcd x y=Nat.gcd a b/\nw x<=1099511627776/\nw y<=1099511627776) (tg λ(x:Nat) (y:Nat)=>[(2,(pP b1 0)),(3,(pP b2 0)),(4,(pP b3 0))]) (tg λ(x:Nat) (y:Nat)=>[Ab b3 42 (Aa 0),Ab b2 42 (Aa y),Ab b1 42 (Aa x)]) (tg λ(x:Nat) (y:Nat)=>y) a b (⟨rfl,ha,hb⟩) (sF rfl) sr (λx y hJ=>?_)
 obtain ⟨hg,hx,hy⟩:=hJ
 refine AF.seq (q4 (BF 1 CT rfl (ck' Tryz.call167 (O3 y) rfl (AH (Bw (c:=(!(decide (y=0)))) rfl rfl) rfl (AD.nil ?_)))))
 refine AC.subF (sL [2,3,4,10] rfl) (AC.then_ ?_)
 refine AF.cond rfl (λhc0=>?_) (λhc0=>?_)
 ·simp only [Bool.and_eq_true,Bool.or_eq_true,Bool.and_eq_false_iff,Bool.or_eq_false_iff,Bool.not_eq_true',Bool.not_eq_false',decide_eq_true_eq,decide_eq_false_iff_not] at hc0
  refine AF.skip (AC.then_ (AF.block (q4 (BF 2 CT rfl (BF 1 CT rfl ?_)))))
  refine ck' Tryz.call102 (OD x y (by omega) (by omega) (by omega)) rfl (AJ rfl (AH (AS (v:=(aG (Aa (x/y)))) rfl rfl) rfl (AH (AS (v:=(aG (Aa (x%y)))) rfl rfl) rfl (AH (AS (v:=(Value.bool true)) rfl rfl) rfl (al F3 rfl λb4=>?_)))))
  refine al F3 rfl λb5=>Ej rfl Tryz.sizeOf42 rfl (BC rfl Tryz.sizeOf42 rfl (asg' rfl (AD.nil (AC.subF (sL [2,3,4,6] rfl) ?_))))
  refine AC.then_ (Cw [(1,true),(0,false),(2,false),(3,false)] (sk (sk (sk (sl (sl sr))))) (GO 0 CT rfl (OkE.imp rfl (BF 3 CT rfl (OkE.back (sk (sk (sk (sl (sl sr))))) ?_)))))
  refine OkE.imp rfl (IM 4 (off:=0) (vs:=Aa y) (cs':=Aa y) (AO rfl) rfl Tryz.sizeOf42 rfl (OkE.back (sk (sk (sk (sl (sl sr))))) (OkE.imp rfl (Iu rfl Tryz.sizeOf42 rfl (OkE.back (sk (sk (sk (sl (sl sr))))) ?_)))))
  exact OkE.nil (AC.subF (sL [2,3,4,6] rfl) (AC.in_normal (AC.round2 y (x%y) (⟨by rw [<-hg,Nat.gcd_comm x y,Nat.gcd_rec y x,Nat.gcd_comm],hy,Nat.le_trans (Ca (Nat.mod_le _ _)) hx⟩) (Nat.mod_lt _ (by omega)) (sF rfl) (sl (sl sr)))))
 ·simp only [Bool.and_eq_true,Bool.or_eq_true,Bool.and_eq_false_iff,Bool.or_eq_false_iff,Bool.not_eq_true',Bool.not_eq_false',decide_eq_true_eq,decide_eq_false_iff_not] at hc0
  have hy0:y=0:=by omega
  have hxg:x=Nat.gcd a b:=by rw [<-hg,hy0,Nat.gcd_zero_right]
  refine AF.exit (AC.then_exit (AC.round2_exit (AC.in_exit (q2 (BF 2 CT rfl ?_)))))
  exact BC rfl Tryz.sizeOf42 rfl (AD.nil (AC.subF (sL [2,3,4] rfl) (AC.then_ (AF.ret (AN rfl (BB (i:=0) (cs:=Aa x) rfl rfl Tryz.isAgg42 Tryz.sizeOf42 rfl) (λw hw=>⟨by rw [hxg],hw.out⟩))))))
end
def EX (neg:Bool) (n:Nat):Int:=if neg then -(n:Int) else (n:Int)
theorem SZ (n:Nat):BQ (EX true n)=Aa n++[.bool (!(decide (n=0)))]:=by
  simp only [BQ,Aa,EX,if_true,Int.natAbs_neg,Int.natAbs_natCast,List.cons_append,List.nil_append]
  have e:decide (-(n:Int)<0)=!(decide (n=0)):=by
    by_cases h:n=0
    · subst h;rfl
    · simp [h];omega
  rw [e]
theorem Sn (n:Nat):BQ (EX false n)=Aa n++[.bool false]:=by
  simp only [BQ,Aa,EX,Int.natAbs_natCast,List.cons_append,List.nil_append]
  have e:decide ((n:Int)<0)=false:=by simp
  simp [e]
theorem M9 (D a b:Nat):D4 Tryz.prog (D+3) 44 (.agg (Aa a).toArray) (.agg (Aa b).toArray) (decide (a=b)):=by
  have h:=D4.struct (D:=D+2) (xs:=Aa a) (ys:=Aa b) Tryz.underlying44 Tryz.stoodInHeld44 (GY.agg (us:=Aa a) (bs:=Aa b) (by decide) Tryz.isAgg42 Tryz.sizeOf42 rfl rfl (IV D a b) GY.nil)
  simpa using h
theorem Bp (neg:Bool) (n:Nat):(EX neg n).natAbs=n:=by cases neg<;>simp [EX]
theorem PU (a b:Int):EX (!(decide (a<0) == decide (b<0))) (a.natAbs*b.natAbs)=a*b:=by
  rw [<-Int.natAbs_mul]
  unfold EX
  by_cases h:a<0<;>by_cases h':b<0
  · have:=Int.mul_pos_of_neg_of_neg h h';simp [h,h'];omega
  · have:a*b<=0:=Int.mul_nonpos_of_nonpos_of_nonneg (by omega) (by omega)
    simp [h,h'];omega
  · have:a*b<=0:=Int.mul_nonpos_of_nonneg_of_nonpos (by omega) (by omega)
    simp [h,h'];omega
  · have:0<=a*b:=Int.mul_nonneg (by omega) (by omega)
    simp [h,h'];omega
theorem Yf {z:Int} (h:z<0) (h2:-9223372036854775808<=z):IntKind.u64.wrap (-(IntKind.u64.wrap z))=((z.natAbs:Nat):Int):=by
  simp only [IntKind.wrap,IntKind.bits,IntKind.signed];simp;omega
theorem Fy {z:Int} (h:z<0):EX true z.natAbs=z:=by unfold EX;simp;omega
theorem KR {z:Int} (h:¬z<0):EX false z.natAbs=z:=by unfold EX;simp;omega
section
set_option maxRecDepth 100000
theorem J1  :Instr.fill ([(0,2)].toArray[·]?) (Aa 0).toArray []=some (Aa 0).toArray:=by kernel_rfl
theorem HK (n:Nat) (w:World)  :Calls Tryz.prog 171 #[(aG (Aa n))] w (An w (Value.bool (decide (n=0)))):=by
 refine Ag (args:=[(aG (Aa n))]) Tryz.func171 rfl rfl (AY rfl) (AF.subF (sL [0] rfl) (q4 (B9 (cs:=Aa n) rfl λb1=>asg' rfl (q3 (sL [1,2] rfl) ?_))))
 refine BF 0 Q0 rfl (AH (v:=(aG (Aa 0))) (AU (zs:=Aa 0) (vs:=Aa 0) (pv:=[]) (places:=[(0,2)]) Tryz.zeroValue44 Tryz.underlying44 (λw=>by simp [Tryz.sizeOf42]) rfl (J1 )) rfl (AH (Cq (c:=(decide (n=0))) rfl rfl Tryz.eqGuardType44 (M9 9997 n 0)) rfl (asg' rfl (AD.nil (AC.subF (sL [2] rfl) ?_)))))
 exact AC.then_ (AF.ret (AN rfl (AQ (v:=(Value.bool (decide (n=0)))) rfl) (λw hw=>⟨rfl,hw.out⟩)))
theorem EE (x0:Nat):Instr.fill ([(0,2)].toArray[·]?) (Aa 0).toArray [(0,.agg (Aa x0).toArray)]=some (Aa x0).toArray:=by kernel_rfl
theorem QL (n:Nat) (w:World)  :Calls Tryz.prog 105 #[(Value.bool true),(aG (Aa n))] w (An w (aG (BQ (EX true n)))):=by
 refine Ag (args:=[(Value.bool true),(aG (Aa n))]) Tryz.func105 rfl rfl (AY rfl) (AF.subF (sL [0,1] rfl) (q4 (B9 (cs:=Aa n) rfl λb1=>al QR rfl λb2=>q3 (sL [0,3,4] rfl) ?_)))
 refine BF 1 CT rfl (AH (v:=(aG (Aa n))) (AU (zs:=Aa 0) (vs:=Aa n) (pv:=[(0,(aG (Aa n)))]) (places:=[(0,2)]) Tryz.zeroValue44 Tryz.underlying44 (λw=>by simp [Tryz.sizeOf42]) rfl (EE n)) rfl (al Xr rfl λb3=>BC rfl Tryz.sizeOf44 rfl (q6 (sL [0,4,5] rfl) (Cw [(0,true),(1,true),(2,true),(3,true),(4,false),(5,true),(6,true),(7,true),(8,false)] (sk (sl sr)) ?_))))
 refine GO 0 Q0 rfl (BS rfl (BS rfl (OkE.pas (v:=(aG (Aa n))) rfl (AB rfl) (BI (i:=0) (vs:=Aa n) rfl rfl Q0.a Q0.s rfl rfl) rfl rfl (OkE.imp rfl (AD.call (v:=(Value.bool (decide (n=0)))) (AB rfl) (Ay (args:=[(aG (Aa n))]) rfl rfl Tryz.call171) (λw hw=>HK n w) rfl (AY rfl) ?_)))))
 refine OkE.back (sk (sl sr)) (OkE.pas (v:=(Value.bool (!(decide (n=0))))) rfl (AB rfl) (Bw (c:=(!(decide (n=0)))) rfl rfl) rfl rfl (Aw (v:=(Value.bool (!(decide (n=0))))) rfl (AT rfl rfl) (Aw (v:=(aG (Aa n++[(Value.bool (!(decide (n=0))))]))) rfl (AU (zs:=BQ 0) (vs:=Aa n++[(Value.bool (!(decide (n=0))))]) (pv:=[(0,(aG (Aa n))),(1,(Value.bool (!(decide (n=0)))))]) (places:=[(0,2),(2,1)]) Tryz.zeroValue46 Tryz.underlying46 (λw=>by simp [Tryz.sizeOf4,Tryz.sizeOf44]) rfl rfl) (OkE.imp rfl (Ej rfl Tryz.sizeOf46 rfl ?_)))))
 exact OkE.back (sk (sl sr)) (OkE.nil (AC.subF (sL [4,5] rfl) (AC.then_ (AF.ret (AN rfl (BB (i:=1) (cs:=Aa n++[(Value.bool (!(decide (n=0))))]) rfl rfl Tryz.isAgg46 Tryz.sizeOf46 rfl) (λw hw=>⟨by rw [SZ],hw.out⟩))))))
theorem N7 (n:Nat) (w:World)  :Calls Tryz.prog 105 #[(Value.bool false),(aG (Aa n))] w (An w (aG (BQ (EX false n)))):=by
 refine Ag (args:=[(Value.bool false),(aG (Aa n))]) Tryz.func105 rfl rfl (AY rfl) (AF.subF (sL [0,1] rfl) (q4 (B9 (cs:=Aa n) rfl λb1=>al QR rfl λb2=>q3 (sL [0,3,4] rfl) ?_)))
 refine BF 1 CT rfl (AH (v:=(aG (Aa n))) (AU (zs:=Aa 0) (vs:=Aa n) (pv:=[(0,(aG (Aa n)))]) (places:=[(0,2)]) Tryz.zeroValue44 Tryz.underlying44 (λw=>by simp [Tryz.sizeOf42]) rfl (EE n)) rfl (al Xr rfl λb3=>BC rfl Tryz.sizeOf44 rfl (q6 (sL [0,4,5] rfl) (Cw [(0,true),(1,true),(2,true),(3,true),(4,false),(5,true),(6,true),(7,true),(8,false)] (sk (sl sr)) ?_))))
 refine GO 0 Q0 rfl (BS rfl (BS rfl (OkE.skp rfl (AG rfl) rfl rfl (OkE.imp rfl (AD.skip (AG rfl) rfl (AY rfl) ?_)))))
 refine OkE.back (sk (sl sr)) (OkE.skp rfl (AG rfl) rfl rfl (Aw (v:=(Value.bool false)) rfl (AV rfl rfl) (Aw (v:=(aG (Aa n++[(Value.bool false)]))) rfl (AU (zs:=BQ 0) (vs:=Aa n++[(Value.bool false)]) (pv:=[(0,(aG (Aa n))),(1,(Value.bool false))]) (places:=[(0,2),(2,1)]) Tryz.zeroValue46 Tryz.underlying46 (λw=>by simp [Tryz.sizeOf4,Tryz.sizeOf44]) rfl rfl) (OkE.imp rfl (Ej rfl Tryz.sizeOf46 rfl ?_)))))
 exact OkE.back (sk (sl sr)) (OkE.nil (AC.subF (sL [4,5] rfl) (AC.then_ (AF.ret (AN rfl (BB (i:=1) (cs:=Aa n++[(Value.bool false)]) rfl rfl Tryz.isAgg46 Tryz.sizeOf46 rfl) (λw hw=>⟨by rw [Sn],hw.out⟩))))))
theorem G9 (neg:Bool) (n:Nat) (w:World):Calls Tryz.prog 105 #[.bool neg,.agg (Aa n).toArray] w (An w (.agg (BQ (EX neg n)).toArray)):=by
 cases neg
 ·exact N7 n w
 ·exact QL n w
theorem W7 (z:Int) (hz:-9223372036854775808<=z) (hz2:z<9223372036854775808) (w:World)  :Calls Tryz.prog 61 #[(vI z)] w (An w (aG (BQ z))):=by
 refine Ag (args:=[(vI z)]) Tryz.func61 rfl rfl (AY rfl) (AF.subF (sL [0] rfl) (q4 (al QR rfl λb1=>AD.nil (q1 ?_))))
 refine q4 (AJ rfl (AH (Ad (c:=(decide (z<(0:Int)))) rfl rfl rfl) rfl (AD.nil (AC.subF (sL [0,2,4] rfl) (AC.then_ ?_)))))
 refine AF.cond rfl (λhc0=>?_) (λhc0=>?_)
 ·replace hc0:=of_decide_eq_true hc0
  have he:=Fy hc0
  refine q4 (AJ rfl (AH (Au (c:=(IntKind.u64.wrap z)) rfl Tryz.underlying2 Tryz.underlying40 (rfl)) rfl (AH (SY (c:=((z.natAbs:Nat):Int)) rfl (by rw [Int.zero_sub];exact Yf hc0 hz)) rfl (ck' Tryz.call104 (Ig z.natAbs (by omega)) rfl (ck' Tryz.call105 (G9 true z.natAbs) rfl ?_)))))
  exact BC rfl Tryz.sizeOf46 rfl (AD.nil (AC.subF (sL [0,2] rfl) (AC.then_ (AF.ret (AC.then_ret (AN rfl (BB (i:=0) (cs:=BQ (EX true z.natAbs)) rfl rfl Tryz.isAgg46 Tryz.sizeOf46 rfl) (λw hw=>⟨by rw [he],hw.out⟩)))))))
 ·replace hc0:=of_decide_eq_false hc0
  have he:=KR hc0
  refine AF.skip (q2 (AJ rfl (AH (Au (c:=((z.natAbs:Nat):Int)) rfl Tryz.underlying2 Tryz.underlying40 (by rw [Ct (by omega) (by omega)];omega)) rfl (ck' Tryz.call104 (Ig z.natAbs (by omega)) rfl (ck' Tryz.call105 (G9 false z.natAbs) rfl ?_)))))
  exact BC rfl Tryz.sizeOf46 rfl (AD.nil (AC.subF (sL [0,2] rfl) (AC.then_ (AF.ret (AN rfl (BB (i:=0) (cs:=BQ (EX false z.natAbs)) rfl rfl Tryz.isAgg46 Tryz.sizeOf46 rfl) (λw hw=>⟨by rw [he],hw.out⟩))))))
theorem K8 (a:Int) (w:World)  :Calls Tryz.prog 101 #[(aG (BQ a))] w (An w (aG (Aa a.natAbs))):=by
 refine Ag (args:=[(aG (BQ a))]) Tryz.func101 rfl rfl (AY rfl) (AF.subF (sL [0] rfl) (q4 (B9 (cs:=BQ a) rfl λb1=>al F3 rfl λb2=>q3 (sL [1,2] rfl) ?_)))
 refine AH (v:=(pP b1 0)) (AA rfl Tryz.underlying46 rfl Tryz.sizeOf44 rfl) rfl (AH (v:=(pP b1 0)) (AA rfl Tryz.underlying44 rfl Tryz.sizeOf42 rfl) rfl (Gi 1 (Aa a.natAbs) CT rfl (BC rfl Tryz.sizeOf42 rfl (AD.nil (AC.subF (sL [2] rfl) ?_)))))
 exact AC.then_ (AF.ret (AN rfl (BB (i:=0) (cs:=Aa a.natAbs) rfl rfl Tryz.isAgg42 Tryz.sizeOf42 rfl) (λw hw=>⟨rfl,hw.out⟩)))
theorem Ms (a:Int) (w:World)  :Calls Tryz.prog 106 #[(aG (BQ a))] w (An w (vI a.sign)):=by
 refine Ag (args:=[(aG (BQ a))]) Tryz.func106 rfl rfl (AY rfl) (AF.subF (sL [0] rfl) (q4 (B9 (cs:=BQ a) rfl λb1=>asg' rfl (q6 (sL [1,2] rfl) ?_))))
 refine AF.block (q4 (AH (v:=(pP b1 0)) (AA rfl Tryz.underlying46 rfl Tryz.sizeOf44 rfl) rfl (Gi 0 (Aa a.natAbs) Q0 rfl (ck' Tryz.call171 (HK a.natAbs) rfl (asg' rfl ?_)))))
 refine AD.nil (AC.subF (sL [1,2,3] rfl) (AC.then_ ?_))
 refine AF.cond rfl (λhc0=>?_) (λhc0=>?_)
 ·replace hc0:=of_decide_eq_true hc0
  have he:a.sign=0:=by rw [show a=0 by omega];rfl
  refine q4 (asg' rfl (AD.nil (AC.then_ (AF.ret (AC.in_ret ?_)))))
  exact AC.then_ret (AN rfl (AQ (v:=(vI 0)) rfl) (λw hw=>⟨by rw [he],hw.out⟩))
 ·replace hc0:=of_decide_eq_false hc0
  refine q4 (AH (v:=(pP b1 2)) (AA rfl Tryz.underlying46 rfl Tryz.sizeOf4 rfl) rfl (BD 0 (Value.bool (decide (a<0))) T0 rfl (asg' rfl (AD.nil (AC.subF (sL [1,2,7] rfl) ?_)))))
  refine AC.then_ ?_
  refine AF.cond rfl (λhc1=>?_) (λhc1=>?_)
  ·replace hc1:=of_decide_eq_true hc1
   have he:a.sign = -1:=Int.sign_eq_neg_one_of_neg hc1
   refine q4 (asg' rfl (AD.nil (AC.then_ (AF.ret (AC.in_ret ?_)))))
   exact AC.then_ret (AN rfl (AQ (v:=(vI (-1:Int))) rfl) (λw hw=>⟨by rw [he],hw.out⟩))
  ·replace hc1:=of_decide_eq_false hc1
   have he:a.sign=1:=Int.sign_eq_one_of_pos (by omega)
   refine AF.skip (AC.in_normal (q2 (asg' rfl (AD.nil (AC.then_ ?_)))))
   exact AF.ret (AN rfl (AQ (v:=(vI 1)) rfl) (λw hw=>⟨by rw [he],hw.out⟩))
theorem Tm (a b:Int) (ha:nw a.natAbs<=1099511627776) (hb:nw b.natAbs<=1099511627776) (w:World)  :Calls Tryz.prog 108 #[(aG (BQ a)),(aG (BQ b))] w (An w (aG (BQ (a*b)))):=by
 refine Ag (args:=[(aG (BQ a)),(aG (BQ b))]) Tryz.func108 rfl rfl (AY rfl) (AF.subF (sL [0,1] rfl) (q4 (B9 (cs:=BQ a) rfl λb1=>B9 (cs:=BQ b) rfl λb2=>al QR rfl λb3=>?_)))
 refine q6 (sL [2,3,4] rfl) (Cw [(0,true),(1,true),(2,true),(3,true),(4,true),(5,true),(6,true),(7,true),(8,true),(9,true),(10,true),(11,false),(12,false),(13,false)] (sl sr) (Aw (v:=(pP b1 2)) rfl (AA rfl Tryz.underlying46 rfl Tryz.sizeOf4 rfl) (Bm 1 (Value.bool (decide (a<0))) T0 rfl (Aw (v:=(pP b2 2)) rfl (AA rfl Tryz.underlying46 rfl Tryz.sizeOf4 rfl) (Bm 0 (Value.bool (decide (b<0))) T0 rfl ?_)))))
 refine Aw rfl (H3 (c:=(!(decide (a<0) == decide (b<0)))) rfl rfl Tryz.underlying4 rfl) (Aw (v:=(pP b1 0)) rfl (AA rfl Tryz.underlying46 rfl Tryz.sizeOf44 rfl) (Aw (v:=(pP b1 0)) rfl (AA rfl Tryz.underlying44 rfl Tryz.sizeOf42 rfl) (Qf 1 (Aa a.natAbs) CT rfl (Aw (v:=(pP b2 0)) rfl (AA rfl Tryz.underlying46 rfl Tryz.sizeOf44 rfl) (Aw (v:=(pP b2 0)) rfl (AA rfl Tryz.underlying44 rfl Tryz.sizeOf42 rfl) ?_)))))
 refine Qf 0 (Aa b.natAbs) CT rfl (OkE.imp rfl (ck' Tryz.call60 (RT a.natAbs b.natAbs (by omega) (by omega)) rfl (OkE.back (sl sr) (OkE.imp rfl (ck' Tryz.call105 (G9 (!(decide (a<0) == decide (b<0))) (a.natAbs*b.natAbs)) rfl ?_)))))
 refine OkE.back (sl sr) (OkE.imp rfl (BC rfl Tryz.sizeOf46 rfl (OkE.back (sl sr) (OkE.nil (AC.subF (sL [4] rfl) ?_)))))
 exact AC.then_ (AF.ret (AN rfl (BB (i:=0) (cs:=BQ (EX (!(decide (a<0) == decide (b<0))) (a.natAbs*b.natAbs))) rfl rfl Tryz.isAgg46 Tryz.sizeOf46 rfl) (λw hw=>⟨by rw [PU],hw.out⟩)))
theorem KI (a b:Int) (ha:nw a.natAbs<=1099511627776) (hb:nw b.natAbs<=1099511627776) (w:World)  :Calls Tryz.prog 98 #[(Value.func (.func 108) #[] #[]),(aG (BQ a)),(aG (BQ b))] w (An w (aG (BQ (a*b)))):=by
 refine Ag (args:=[(Value.func (.func 108) #[] #[]),(aG (BQ a)),(aG (BQ b))]) Tryz.func98 rfl rfl (AY rfl) (AF.subF (sL [0,1,2] rfl) (q4 (B9 (cs:=BQ a) rfl λb1=>B9 (cs:=BQ b) rfl λb2=>al QR rfl λb3=>?_)))
 refine q3 (sL [0,4,5,6] rfl) (AJ rfl (BF 2 GJ rfl (BF 1 GJ rfl (ck' Tryz.call108 (Tm a b (by first|omega|(simp only [Int.natAbs_neg,Bp,Int.natAbs_natCast];omega)) (by first|omega|(simp only [Int.natAbs_neg,Bp,Int.natAbs_natCast];omega))) rfl (BC rfl Tryz.sizeOf46 rfl ?_)))))
 exact AD.nil (AC.subF (sL [6] rfl) (AC.then_ (AF.ret (AN rfl (BB (i:=0) (cs:=BQ (a*b)) rfl rfl Tryz.isAgg46 Tryz.sizeOf46 rfl) (λw hw=>⟨rfl,hw.out⟩)))))
theorem PP (a b:Int) (ha:nw a.natAbs<=1099511627776) (hb:nw b.natAbs<=1099511627776) (w:World)  :Calls Tryz.prog 58 #[(aG (BQ a)),(aG (BQ b))] w (An w (aG (BQ (a*b)))):=by
 refine Ag (args:=[(aG (BQ a)),(aG (BQ b))]) Tryz.func58 rfl rfl (AY rfl) (AF.subF (sL [0,1] rfl) (q4 (B9 (cs:=BQ a) rfl λb1=>B9 (cs:=BQ b) rfl λb2=>al QR rfl λb3=>?_)))
 refine q3 (sL [2,3,4] rfl) (BF 2 GJ rfl (BF 1 GJ rfl (ck' Tryz.call98 (KI a b (by first|omega|(simp only [Int.natAbs_neg,Bp,Int.natAbs_natCast];omega)) (by first|omega|(simp only [Int.natAbs_neg,Bp,Int.natAbs_natCast];omega))) rfl (BC rfl Tryz.sizeOf46 rfl (AD.nil ?_)))))
 exact AC.subF (sL [4] rfl) (AC.then_ (AF.ret (AN rfl (BB (i:=0) (cs:=BQ (a*b)) rfl rfl Tryz.isAgg46 Tryz.sizeOf46 rfl) (λw hw=>⟨rfl,hw.out⟩))))
end
def Sz (q:Rat):Nat:=max (nw q.num.natAbs) (nw q.den)
theorem DT (q:Rat):nw q.num.natAbs<=Sz q:=Nat.le_max_left ..
theorem C0 (q:Rat):nw q.den<=Sz q:=Nat.le_max_right ..
theorem GH (q:Rat):nw (q.den-1)<=Sz q:=Nat.le_trans (Ca (Nat.sub_le _ _)) (C0 q)
theorem Vm {q:Rat} {k:Nat} (h1:nw q.num.natAbs<=k) (h2:nw q.den<=k):Sz q<=k:=Nat.max_le.2 ⟨h1,h2⟩
theorem HX:nw 1=1:=by decide
theorem Nx (q:Rat):1<=Sz q:=Nat.le_trans (by rw [<-HX];exact Ca q.den_pos) (C0 q)
theorem ME {n:Int} {d k:Nat} (h1:nw n.natAbs<=k) (h2:nw d<=k) (hk:1<=k):Sz (mkRat n d)<=k:=by
  refine Vm ?_ ?_
  · rw [Rat.num_mkRat]
    split
    · exact Nat.zero_le _
    · refine Nat.le_trans (Ca ?_) h1
      rw [Int.natAbs_ediv_of_dvd (by rw [Int.ofNat_dvd_left];exact Nat.gcd_dvd_right ..)]
      exact Nat.div_le_self _ _
  · rw [Rat.den_mkRat]
    split
    · rw [HX];exact hk
    · exact Nat.le_trans (Ca (Nat.div_le_self _ _)) h2
theorem PC (a b:Int):nw (a*b).natAbs<=nw a.natAbs+nw b.natAbs:=by rw [Int.natAbs_mul];exact Sg _ _
theorem GE (a b:Int):nw (a+b).natAbs<=max (nw a.natAbs) (nw b.natAbs)+1:=Nat.le_trans (Ca (Int.natAbs_add_le a b)) (XG _ _)
theorem Dp (a b:Rat):nw (a.num*((b.den:Nat):Int)).natAbs<=Sz a+Sz b:=by
  have h1:=PC a.num ((b.den:Nat):Int)
  have h2:=DT a
  have h3:=C0 b
  rw [Int.natAbs_natCast] at h1
  omega
theorem Jc (a b:Rat):nw (a.den*b.den)<=Sz a+Sz b:=by
  have h1:=Sg a.den b.den
  have h2:=C0 a
  have h3:=C0 b
  omega
theorem JY (a b:Rat):nw (a.num*b.num).natAbs<=Sz a+Sz b:=by
  have h1:=PC a.num b.num
  have h2:=DT a
  have h3:=DT b
  omega
theorem HV (a b:Rat):mkRat (a.num*b.num) (a.den*b.den)=a*b:=by rw [Rat.mul_def,Rat.normalize_eq_mkRat]
theorem L6 {a:Rat} (h:a.den-1=0):a=((a.num:Int):Rat):=by
  have h1:a.den=1:=by have:=a.den_pos;omega
  exact Rat.ext rfl h1
theorem QI {a b:Rat} (ha:a.den-1=0) (hb:b.den-1=0):((a.num*b.num:Int):Rat)=a*b:=by
  rw [Rat.intCast_mul,<-L6 ha,<-L6 hb]
theorem Nm (a b:Rat):Sz (a*b)<=Sz a+Sz b:=by
  rw [<-HV]
  have:=Nx a
  exact ME (JY a b) (Jc a b) (by omega)
theorem OP (a:Rat):Sz (-a)=Sz a:=by unfold Sz;rw [Rat.neg_num,Rat.neg_den,Int.natAbs_neg]
theorem Hu {b:Rat} (h:b≠0):mkRat (EX (decide (b.num.sign<0)) b.den) b.num.natAbs=b⁻¹:=by
  have hn:b.num≠0:=λe=>h (Rat.num_eq_zero.1 e)
  have hb:b=(b.num:Rat)/((b.den:Nat):Rat):=by rw [<-Rat.mkRat_eq_div,Rat.mkRat_self]
  have hd:((b.den:Nat):Rat)≠0:=by
    intro e
    have:=b.den_pos
    have h2:b.den=0:=by exact_mod_cast e
    omega
  have hn2:((b.num:Int):Rat)≠0:=by
    intro e
    exact hn (by exact_mod_cast e)
  rw [Rat.mkRat_eq_div]
  conv=>rhs;rw [hb]
  by_cases hs:b.num<0
  · have e1:decide (b.num.sign<0)=true:=by simp [Int.sign_eq_neg_one_of_neg hs]
    have e2:((b.num.natAbs:Nat):Rat) = -((b.num:Int):Rat):=by
      have:((b.num.natAbs:Nat):Int) = -b.num:=by omega
      rw [<-Rat.intCast_natCast,this,Rat.intCast_neg]
    rw [e1,e2]
    simp only [EX,if_true,Rat.intCast_neg,Rat.intCast_natCast]
    grind
  · have e1:decide (b.num.sign<0)=false:=by
      have:0<=b.num.sign:=Int.sign_nonneg_iff.2 (by omega)
      exact decide_eq_false (by omega)
    have e2:((b.num.natAbs:Nat):Rat)=((b.num:Int):Rat):=by
      have:((b.num.natAbs:Nat):Int)=b.num:=by omega
      rw [<-Rat.intCast_natCast,this]
    rw [e1,e2]
    simp only [EX,Bool.false_eq_true,if_false,Rat.intCast_natCast]
    grind
theorem OT {b:Rat} (h:b≠0):Sz b⁻¹<=Sz b:=by
  rw [<-Hu h]
  exact ME (by rw [Bp];exact C0 b) (DT b) (Nx b)
theorem Nj {a b:Rat} (h:b≠0):Sz (a/b)<=Sz a+Sz b:=by
  rw [Rat.div_def]
  have h1:=Nm a b⁻¹
  have h2:=OT h
  omega
theorem Lv (q:Rat):Ap q=BQ q.num++Aa (q.den-1):=rfl
theorem Pn {n:Int} {d:Nat} (hd:d≠0):(mkRat n d).num=EX (decide (n.sign<0)) (n.natAbs/Nat.gcd n.natAbs d):=by
  rw [Rat.num_mkRat,if_neg hd,Nat.gcd_comm]
  unfold EX
  by_cases h:n<0
  · rw [Int.sign_eq_neg_one_of_neg h]
    have e:n = -((n.natAbs:Nat):Int):=by omega
    simp only [show decide ((-1:Int)<0)=true from rfl,if_true]
    conv=>lhs;rw [e]
    rw [Int.natAbs_neg,Int.natAbs_natCast,Int.neg_ediv_of_dvd (by rw [Int.natCast_dvd_natCast];exact Nat.gcd_dvd_left ..)]
    rfl
  · have h0:0<=n.sign:=Int.sign_nonneg_iff.2 (by omega)
    have e:n=((n.natAbs:Nat):Int):=by omega
    rw [if_neg (by simp;omega)]
    conv=>lhs;rw [e]
    rw [Int.natAbs_natCast]
    rfl
theorem O1 {n:Int} {d:Nat} (hd:d≠0):(mkRat n d).den=d/Nat.gcd n.natAbs d:=by rw [Rat.den_mkRat,if_neg hd,Nat.gcd_comm]
end Go.Proofs.YtpgncndhhhllfaaGreatDoor
