import Derived.Test.YtfbomiejpbchdaaGreatPart06
import Derived.Test.YtfbomiejpbchdaaGreatPart15
import Derived.Test.YtfbomiejpbchdaaGreatPart16
namespace Go.Proofs.YtfbomiejpbchdaaGreat
open Go Go.RowKit
set_option linter.unusedVariables false
set_option linter.unusedSimpArgs false
section
set_option maxRecDepth 100000
theorem Fh {N v:Nat} (h:v<4294967296^N):val ((Cg N v).take N)=v:=by
 rw [List.take_of_length_le (by rw [Bk];exact Nat.le_refl _),E9 _ _ h]
theorem Qo {a b:Nat} (hb:0<nw b) (h:nw b<=nw a):a/b<4294967296^(nw a+1-nw b):=by
 have h1:=H5 hb
 have h2:=B7 a
 rw [Nat.div_lt_iff_lt_mul (by have:=Nat.pow_pos (n:=nw b-1) (show 0<4294967296 by omega);omega)]
 have h3:4294967296^(nw a+1-nw b)*4294967296^(nw b-1)<=4294967296^(nw a+1-nw b)*b:=Nat.mul_le_mul_left _ h1
 rw [<-Nat.pow_add,show nw a+1-nw b+(nw b-1)=nw a by omega] at h3
 omega
theorem Q_ {a b:Nat}:a%b<4294967296^(nw a+1):=Nat.lt_of_le_of_lt (Nat.mod_le _ _) (Nat.lt_of_lt_of_le (B7 a) (Nat.pow_le_pow_right (by omega) (by omega)))
theorem Ps {b:Nat} (h:nw b=0):b=0:=by
 have:=B7 b
 rw [h] at this
 omega
theorem Wl {b:Nat} (h:nw b=1):(A8 b).getD 0 0=b/\b<4294967296:=by
 have h1:=B7 b
 rw [h] at h1
 refine ⟨?_,by omega⟩
 rw [Da (by omega),Hp,Nat.pow_zero,Nat.div_one,Nat.mod_eq_of_lt (by omega)]
theorem LR  :Instr.fill ([(0,1),(1,1)].toArray[·]?) (AZ 0).toArray []=some (AZ 0).toArray:=by kernel_rfl
theorem O_ (a b:Nat) (ha:nw a<=1099511627776) (hb:nw b<=1099511627776) (hb0:b≠0) (w:World)  :Calls Tryz.prog 145 #[(aG (AZ a)),(aG (AZ b))] w (Am w (Value.tuple #[(aG (AZ (a/b))),(aG (AZ (a%b))),(Value.bool true)])):=by
 have hnb:nw b≠0:=λh=>hb0 (Ps h)
 have hla:=CN a
 have hlb:=CN b
 refine Ac (args:=[(aG (AZ a)),(aG (AZ b))]) Tryz.func145 rfl rfl (Ad rfl) (AG.subF (sL [0,1] rfl) (q4 (Bl (cs:=AZ a) rfl λb1=>Bl (cs:=AZ b) rfl λb2=>al GD rfl λb3=>?_)))
 refine al GD rfl λb4=>AK rfl (q6 (sL [2,3,4,5,6] rfl) (AG.block (q4 (A7 2 CE rfl ?_))))
 refine BU Tryz.call193 (QH b) rfl (AK rfl (AF.nil (AC.subF (sL [2,3,4,5,6,12] rfl) (AC.then_ ?_))))
 refine AG.cond rfl (λhc0=>?_) (λhc0=>?_)
 ·replace hc0:=of_decide_eq_true hc0
  exact absurd hc0 hb0
 ·replace hc0:=of_decide_eq_false hc0
  refine q4 (A7 3 CE rfl (A7 2 CE rfl (BU Tryz.call194 (Sm a b (by omega) (by omega)) rfl (AJ (Af (c:=(decide ((Ft a b)<(0:Int)))) rfl rfl rfl) rfl (AK rfl ?_)))))
  refine AF.nil (AC.subF (sL [2,3,4,5,6,17] rfl) (AC.then_ ?_))
  refine AG.cond rfl (λhc1=>?_) (λhc1=>?_)
  ·replace hc1:=of_decide_eq_true hc1
   rw [JZ] at hc1
   have e1:a/b=0:=Nat.div_eq_of_lt hc1
   have e2:a%b=a:=Nat.mod_eq_of_lt hc1
   refine AG.seq (Cq [(0,true),(1,true),(2,false),(3,false),(4,true)] (sl (sl sr)) (Av (v:=(aG (AZ 0))) rfl (AY (zs:=AZ 0) (vs:=AZ 0) (pv:=[]) (places:=[(0,1),(1,1)]) Tryz.zeroValue47 Tryz.underlying47 (λw=>by simp [Tryz.sizeOf9,Tryz.sizeOf45]) rfl (LR )) (Fz 1 CE rfl (AS.imp rfl (Cr rfl Tryz.sizeOf47 rfl ?_)))))
   refine AS.back (sl (sl sr)) (AS.imp rfl (Ap rfl Tryz.sizeOf47 rfl (AS.back (sl (sl sr)) (FO rfl (AS.nil ?_)))))
   exact AC.subF (sL [2,3,4,5,6] rfl) (AC.then_ (AG.ret (AC.in_ret (AC.then_ret (E8 rfl (Ay (i:=1) (cs:=AZ 0) rfl rfl Tryz.isAgg47 Tryz.sizeOf47 rfl) (Ay (i:=0) (cs:=AZ a) rfl rfl Tryz.isAgg47 Tryz.sizeOf47 rfl) (Ai (v:=(Value.bool true)) rfl) (λw hw=>⟨by rw [e1,e2],hw.out⟩))))))
  ·replace hc1:=of_decide_eq_false hc1
   rw [JZ] at hc1
   have hba:nw b<=nw a:=Df (by omega)
   refine q4 (AJ (v:=(pP b1 1)) (AA rfl Tryz.underlying47 rfl Tryz.sizeOf9 rfl) rfl (BL 3 (Value.string (Bn a)) UF rfl (AJ (CD (c:=(decide (a<18446744073709551616))) rfl rfl Cy) rfl (AK rfl (AF.nil ?_)))))
   refine AC.subF (sL [2,3,4,5,6,24] rfl) (AC.then_ ?_)
   refine AG.cond rfl (λhc2=>?_) (λhc2=>?_)
   ·replace hc2:=of_decide_eq_true hc2
    have la:CC a=a:=Bm hc2
    have lb:CC b=b:=Bm (by omega)
    have q1:a/b<18446744073709551616:=Nat.lt_of_le_of_lt (Nat.div_le_self _ _) hc2
    have q2:a%b<18446744073709551616:=Nat.lt_of_le_of_lt (Nat.mod_le _ _) hc2
    refine AG.seq (Cq [(0,true),(1,true),(2,true),(3,true),(4,true),(5,true),(6,true),(7,true),(8,true),(9,true),(10,true),(11,true),(12,false),(13,false),(14,true)] (sl (sl sr)) (Av (v:=(pP b1 0)) rfl (AA rfl Tryz.underlying47 rfl Tryz.sizeOf45 rfl) (Bg 1 (vK .u64 (CC a)) HL rfl (Av (v:=(pP b2 0)) rfl (AA rfl Tryz.underlying47 rfl Tryz.sizeOf45 rfl) (Bg 0 (vK .u64 (CC b)) HL rfl ?_)))))
    refine Av rfl (GH (c:=(((CC a)/(CC b):Nat):Int)) rfl rfl (by omega) (KO (a:=CC a) (b:=CC b) (by omega))) (Av (v:=(aG ([(vK .u64 ((CC a)/(CC b))),(Value.string (Bn 0))]))) rfl (AY (zs:=AZ 0) (vs:=[(vK .u64 ((CC a)/(CC b))),(Value.string (Bn 0))]) (pv:=[(0,(vK .u64 ((CC a)/(CC b))))]) (places:=[(0,1),(1,1)]) Tryz.zeroValue47 Tryz.underlying47 (λw=>by simp [Tryz.sizeOf9,Tryz.sizeOf45]) rfl rfl) (Av (v:=(pP b1 0)) rfl (AA rfl Tryz.underlying47 rfl Tryz.sizeOf45 rfl) (Bg 1 (vK .u64 (CC a)) HL rfl (Av (v:=(pP b2 0)) rfl (AA rfl Tryz.underlying47 rfl Tryz.sizeOf45 rfl) (Bg 0 (vK .u64 (CC b)) HL rfl ?_)))))
    refine Av rfl (CF (c:=(((CC a)%(CC b):Nat):Int)) rfl rfl (by omega) (Ie (a:=CC a) (b:=CC b))) (Av (v:=(aG ([(vK .u64 ((CC a)%(CC b))),(Value.string (Bn 0))]))) rfl (AY (zs:=AZ 0) (vs:=[(vK .u64 ((CC a)%(CC b))),(Value.string (Bn 0))]) (pv:=[(0,(vK .u64 ((CC a)%(CC b))))]) (places:=[(0,1),(1,1)]) Tryz.zeroValue47 Tryz.underlying47 (λw=>by simp [Tryz.sizeOf9,Tryz.sizeOf45]) rfl rfl) (AS.imp rfl (Cr rfl Tryz.sizeOf47 rfl (AS.back (sl (sl sr)) (AS.imp rfl ?_)))))
    refine Ap rfl Tryz.sizeOf47 rfl (AS.back (sl (sl sr)) (FO rfl (AS.nil (AC.subF (sL [2,3,4,5,6] rfl) (AC.then_ ?_)))))
    exact AG.ret (AC.in_ret (AC.then_ret (E8 rfl (Ay (i:=1) (cs:=[(vK .u64 ((CC a)/(CC b))),(Value.string (Bn 0))]) rfl rfl Tryz.isAgg47 Tryz.sizeOf47 rfl) (Ay (i:=0) (cs:=[(vK .u64 ((CC a)%(CC b))),(Value.string (Bn 0))]) rfl rfl Tryz.isAgg47 Tryz.sizeOf47 rfl) (Ai (v:=(Value.bool true)) rfl) (λw hw=>⟨by rw [Dl q1,Dl q2,la,lb];rfl,hw.out⟩))))
   ·replace hc2:=of_decide_eq_false hc2
    refine AG.skip (AC.in_normal (q2 (A7 2 CE rfl (AF.callB (V:=λb5=>(Value.slice (some ⟨b5,0,none⟩) (nw b) ((A8 b).length))) (T:=101) (cs:=Ao (A8 b)) (AN rfl) (Aq (args:=[(aG (AZ b))]) rfl rfl Tryz.call150) (λw hw=>DC b (by omega) w) rfl (Ad rfl) λb5=>AK rfl ?_))))
    refine q6 (sL [2,3,4,5,6,7] rfl) (q4 (AO rfl (AJ (v:=(vN (nw b))) (AI rfl Tryz.underlying232) rfl (AJ (Be (c:=(decide ((nw b)=1))) rfl rfl (Og (a:=nw b) (b:=1))) rfl (AF.nil ?_)))))
    refine AC.subF (sL [2,3,4,5,6,7,44] rfl) (AC.then_ ?_)
    refine AG.cond rfl (λhc3=>?_) (λhc3=>?_)
    ·replace hc3:=of_decide_eq_true hc3
     obtain ⟨hy,hy2⟩:=Wl hc3
     refine AG.seq (Cq [(0,true),(2,true),(3,true),(4,true),(1,false),(5,false),(6,true),(7,true),(8,true),(9,true),(10,true)] sr (Fz 4 CE rfl (Bc rfl (Av (v:=(pP b5 0)) rfl (AH (j:=0) rfl rfl Tryz.underlying232 Tryz.sizeOf101 rfl (by omega) rfl) ?_))))
     have hx1:(A8 b).getD 0 0<4294967296:=W32.getD (CU b) 0
     refine Av rfl (AM (i:=0) (v:=(vK .u32 ((A8 b).getD 0 0))) rfl rfl Tryz.isAgg101 (BM (xs:=A8 b) (j:=0) (by omega))) (AS.imp rfl (AF.callB (V:=λb6=>(Value.slice (some ⟨b6,0,none⟩) (nw a) ((A8 a).length))) (T:=101) (cs:=Ao (A8 a)) (AN rfl) (Aq (args:=[(aG (AZ a))]) rfl rfl Tryz.call150) (λw hw=>DC a (by omega) w) rfl (Ad rfl) λb6=>AS.back (sl sr) (AS.imp rfl (AF.callB (V:=λb7=>(Value.tuple #[(Value.slice (some ⟨b7,0,none⟩) (nw a) (nw a)),(vK .u32 (a%((A8 b).getD 0 0)))])) (T:=101) (cs:=Ao (Cg (nw a) (a/((A8 b).getD 0 0)))) (AN rfl) (Aq (args:=[(Value.slice (some ⟨b6,0,none⟩) (nw a) ((A8 a).length)),(vK .u32 ((A8 b).getD 0 0))]) rfl rfl Tryz.call195) (λw hw=>Tx a ((A8 b).getD 0 0) _ _ (by omega) (by omega) (by omega) w (hw.get (i:=0) rfl)) rfl (Ad rfl) λb7=>?_))))
     refine AS.back (sl (sl sr)) (Bc rfl (Av rfl (AT (v:=(Value.slice (some ⟨b7,0,none⟩) (nw a) (nw a))) rfl rfl) (Av rfl (AT (v:=(vK .u32 (a%((A8 b).getD 0 0)))) rfl rfl) (FO rfl (FO rfl ?_)))))
     refine AS.nil (AC.subF (sL [2,3,4,5,6,7,8,9] rfl) (q2 (AO rfl (Ey Tryz.call149 (λw hw=>JH _ (nw a) (nw a) (Cg (nw a) (a/((A8 b).getD 0 0))) (D1 _ _) (by first|omega|(rw [Bk];omega)|simp|(simp;omega)) (by first|omega|simp|(simp;omega)) (by first|omega|simp|(simp;omega)) w (hw.get (i:=0) rfl)) rfl (AF.retell (k:=55) (u:=(aG (AZ (a/b)))) rfl (by rw [hy,Fh (Nat.lt_of_le_of_lt (Nat.div_le_self _ _) (B7 a))]) ?_)))))
     refine AO rfl ?_
     have hmb:a%(A8 b).getD 0 0<4294967296:=by rw [hy];exact Nat.lt_of_lt_of_le (Nat.mod_lt _ (by omega)) (by omega)
     refine AJ (Az (c:=((a%((A8 b).getD 0 0):Nat):Int)) rfl Tryz.underlying101 Tryz.underlying45 (Ba (by omega))) rfl (AJ (v:=(aG ([(vK .u64 (a%((A8 b).getD 0 0))),(Value.string (Bn 0))]))) (AY (zs:=AZ 0) (vs:=[(vK .u64 (a%((A8 b).getD 0 0))),(Value.string (Bn 0))]) (pv:=[(0,(vK .u64 (a%((A8 b).getD 0 0))))]) (places:=[(0,1),(1,1)]) Tryz.zeroValue47 Tryz.underlying47 (λw=>by simp [Tryz.sizeOf9,Tryz.sizeOf45]) rfl rfl) rfl (AF.retell (k:=58) (u:=(aG (AZ (a%b)))) rfl (by rw [hy] at hmb ⊢;rw [Dl (by omega)];rfl) (GK 4 (off:=0) (vs:=AZ (a/b)) (cs':=AZ (a/b)) (AN rfl) rfl Tryz.sizeOf47 rfl (KM rfl Tryz.sizeOf47 rfl (AK rfl ?_)))))
     exact AF.nil (AC.subF (sL [2,3,4,5,6,7] rfl) (AC.then_ (AG.ret (AC.then_ret (E8 rfl (Ay (i:=4) (cs:=AZ (a/b)) rfl rfl Tryz.isAgg47 Tryz.sizeOf47 rfl) (Ay (i:=3) (cs:=AZ (a%b)) rfl rfl Tryz.isAgg47 Tryz.sizeOf47 rfl) (Ai (v:=(Value.bool true)) rfl) (λw hw=>⟨rfl,hw.out⟩))))))
    ·replace hc3:=of_decide_eq_false hc3
     refine AG.skip (q2 (A7 4 CE rfl (AF.callB (V:=λb6=>(Value.slice (some ⟨b6,0,none⟩) (nw a) ((A8 a).length))) (T:=101) (cs:=Ao (A8 a)) (AN rfl) (Aq (args:=[(aG (AZ a))]) rfl rfl Tryz.call150) (λw hw=>DC a (by omega) w) rfl (Ad rfl) λb6=>AO rfl (AF.callBB (V:=λb7 b8=>(Value.tuple #[(Value.slice (some ⟨b7,0,none⟩) (nw a+1-nw b) (nw a+1-nw b)),(Value.slice (some ⟨b8,0,none⟩) (nw a+1) (nw a+1))])) (T:=101) (cs:=Ao (Cg (nw a+1-nw b) (a/b))) (T2:=101) (cs2:=Ao (Cg (nw a+1) (a%b))) (AN rfl) (Aq (args:=[(Value.slice (some ⟨b6,0,none⟩) (nw a) ((A8 a).length)),(Value.slice (some ⟨b5,0,none⟩) (nw b) ((A8 b).length))]) rfl rfl Tryz.call196) (λw hw=>Wi a b _ _ _ _ (by omega) (by omega) (by omega) w (hw.get (i:=0) rfl) (hw.get (i:=1) rfl)) rfl (Ad rfl) λb7 b8=>?_))))
     refine AO rfl (AJ (AT (v:=(Value.slice (some ⟨b7,0,none⟩) (nw a+1-nw b) (nw a+1-nw b))) rfl rfl) rfl (AJ (AT (v:=(Value.slice (some ⟨b8,0,none⟩) (nw a+1) (nw a+1))) rfl rfl) rfl (AK rfl (AK rfl (q3 (sL [2,3,4,5,6,7,10,11] rfl) ?_)))))
     refine AO rfl (Ey Tryz.call149 (λw hw=>JH _ (nw a+1-nw b) (nw a+1-nw b) (Cg (nw a+1-nw b) (a/b)) (D1 _ _) (by first|omega|(rw [Bk];omega)|simp|(simp;omega)) (by first|omega|simp|(simp;omega)) (by first|omega|simp|(simp;omega)) w (hw.get (i:=0) rfl)) rfl (AF.retell (k:=67) (u:=(aG (AZ (a/b)))) rfl (by rw [Fh (Qo (by omega) hba)]) (AO rfl (Ey Tryz.call149 (λw hw=>JH _ (nw a+1) (nw a+1) (Cg (nw a+1) (a%b)) (D1 _ _) (by first|omega|(rw [Bk];omega)|simp|(simp;omega)) (by first|omega|simp|(simp;omega)) (by first|omega|simp|(simp;omega)) w (hw.get (i:=1) rfl)) rfl (AF.retell (k:=69) (u:=(aG (AZ (a%b)))) rfl (by rw [Fh Q_]) ?_)))))
     refine GK 5 (off:=0) (vs:=AZ (a/b)) (cs':=AZ (a/b)) (AN rfl) rfl Tryz.sizeOf47 rfl (GK 4 (off:=0) (vs:=AZ (a%b)) (cs':=AZ (a%b)) (AN rfl) rfl Tryz.sizeOf47 rfl (AK rfl (AF.nil (AC.subF (sL [2,3,4,5,6,7] rfl) (AC.then_ ?_)))))
     exact AG.ret (E8 rfl (Ay (i:=5) (cs:=AZ (a/b)) rfl rfl Tryz.isAgg47 Tryz.sizeOf47 rfl) (Ay (i:=4) (cs:=AZ (a%b)) rfl rfl Tryz.isAgg47 Tryz.sizeOf47 rfl) (Ai (v:=(Value.bool true)) rfl) (λw hw=>⟨rfl,hw.out⟩))
theorem Xd (a b:Nat) (ha:nw a<=1099511627776) (hb:nw b<=1099511627776) (w:World)  :Calls Tryz.prog 144 #[(aG (AZ a)),(aG (AZ b))] w (Am w (aG (AZ (Nat.gcd a b)))):=by
 refine Ac (args:=[(aG (AZ a)),(aG (AZ b))]) Tryz.func144 rfl rfl (Ad rfl) (AG.subF (sL [0,1] rfl) (q4 (Bl (cs:=AZ a) rfl λb1=>Bl (cs:=AZ b) rfl λb2=>al GD rfl λb3=>?_)))
 refine q6 (sL [2,3,4] rfl) (AG.block ?_)
 refine AG.lp2 (tg λ(x:Nat) (y:Nat)=>Nat.gcd x y=Nat.gcd a b/\nw x<=1099511627776/\nw y<=1099511627776) (tg λ(x:Nat) (y:Nat)=>[(2,(pP b1 0)),(3,(pP b2 0)),(4,(pP b3 0))]) (tg λ(x:Nat) (y:Nat)=>[Ah b3 47 (AZ 0),Ah b2 47 (AZ y),Ah b1 47 (AZ x)]) (tg λ(x:Nat) (y:Nat)=>y) a b (⟨rfl,ha,hb⟩) (sF rfl) sr (λx y hJ=>?_)
 obtain ⟨hg,hx,hy⟩:=hJ
 refine AG.seq (q4 (A7 1 CE rfl (BU Tryz.call193 (QH y) rfl (AJ (Bi (c:=(!(decide (y=0)))) rfl rfl) rfl (AF.nil ?_)))))
 refine AC.subF (sL [2,3,4,10] rfl) (AC.then_ ?_)
 refine AG.cond rfl (λhc0=>?_) (λhc0=>?_)
 ·simp only [Bool.and_eq_true,Bool.or_eq_true,Bool.and_eq_false_iff,Bool.or_eq_false_iff,Bool.not_eq_true',Bool.not_eq_false',decide_eq_true_eq,decide_eq_false_iff_not] at hc0
  refine AG.skip (AC.then_ (AG.block (q4 (A7 2 CE rfl (A7 1 CE rfl ?_)))))
  refine BU Tryz.call145 (O_ x y (by omega) (by omega) (by omega)) rfl (AO rfl (AJ (AT (v:=(aG (AZ (x/y)))) rfl rfl) rfl (AJ (AT (v:=(aG (AZ (x%y)))) rfl rfl) rfl (AJ (AT (v:=(Value.bool true)) rfl rfl) rfl (al GD rfl λb4=>?_)))))
  refine al GD rfl λb5=>Cr rfl Tryz.sizeOf47 rfl (Ap rfl Tryz.sizeOf47 rfl (AK rfl (AF.nil (AC.subF (sL [2,3,4,6] rfl) ?_))))
  refine AC.then_ (Cq [(1,true),(0,false),(2,false),(3,false)] (sk (sk (sk (sl (sl sr))))) (Fz 0 CE rfl (AS.imp rfl (A7 3 CE rfl (AS.back (sk (sk (sk (sl (sl sr))))) ?_)))))
  refine AS.imp rfl (GK 4 (off:=0) (vs:=AZ y) (cs':=AZ y) (AN rfl) rfl Tryz.sizeOf47 rfl (AS.back (sk (sk (sk (sl (sl sr))))) (AS.imp rfl (KM rfl Tryz.sizeOf47 rfl (AS.back (sk (sk (sk (sl (sl sr))))) ?_)))))
  exact AS.nil (AC.subF (sL [2,3,4,6] rfl) (AC.in_normal (AC.round2 y (x%y) (⟨by rw [<-hg,Nat.gcd_comm x y,Nat.gcd_rec y x,Nat.gcd_comm],hy,Nat.le_trans (Df (Nat.mod_le _ _)) hx⟩) (Nat.mod_lt _ (by omega)) (sF rfl) (sl (sl sr)))))
 ·simp only [Bool.and_eq_true,Bool.or_eq_true,Bool.and_eq_false_iff,Bool.or_eq_false_iff,Bool.not_eq_true',Bool.not_eq_false',decide_eq_true_eq,decide_eq_false_iff_not] at hc0
  have hy0:y=0:=by omega
  have hxg:x=Nat.gcd a b:=by rw [<-hg,hy0,Nat.gcd_zero_right]
  refine AG.exit (AC.then_exit (AC.round2_exit (AC.in_exit (q2 (A7 2 CE rfl ?_)))))
  exact Ap rfl Tryz.sizeOf47 rfl (AF.nil (AC.subF (sL [2,3,4] rfl) (AC.then_ (AG.ret (AR rfl (Ay (i:=0) (cs:=AZ x) rfl rfl Tryz.isAgg47 Tryz.sizeOf47 rfl) (λw hw=>⟨by rw [hxg],hw.out⟩))))))
end
def Ez (neg:Bool) (n:Nat):Int:=if neg then -(n:Int) else (n:Int)
theorem Ta (n:Nat):BG (Ez true n)=AZ n++[.bool (!(decide (n=0)))]:=by
  simp only [BG,AZ,Ez,if_true,Int.natAbs_neg,Int.natAbs_natCast,List.cons_append,List.nil_append]
  have e:decide (-(n:Int)<0)=!(decide (n=0)):=by
    by_cases h:n=0
    · subst h;rfl
    · simp [h];omega
  rw [e]
theorem S1 (n:Nat):BG (Ez false n)=AZ n++[.bool false]:=by
  simp only [BG,AZ,Ez,Int.natAbs_natCast,List.cons_append,List.nil_append]
  have e:decide ((n:Int)<0)=false:=by simp
  simp [e]
theorem OW (D a b:Nat):Ee Tryz.prog (D+3) 49 (.agg (AZ a).toArray) (.agg (AZ b).toArray) (decide (a=b)):=by
  have h:=Ee.struct (D:=D+2) (xs:=AZ a) (ys:=AZ b) Tryz.underlying49 Tryz.stoodInHeld49 (If.agg (us:=AZ a) (bs:=AZ b) (by decide) Tryz.isAgg47 Tryz.sizeOf47 rfl rfl (G1 D a b) If.nil)
  simpa using h
theorem BA (neg:Bool) (n:Nat):(Ez neg n).natAbs=n:=by cases neg<;>simp [Ez]
theorem Vf (a:Int):Ez (!(decide (a<0))) a.natAbs = -a:=by
  unfold Ez
  by_cases h:a<0
  · simp [h];omega
  · simp [h];omega
theorem WI (a b:Int):Ez (!(decide (a<0) == decide (b<0))) (a.natAbs*b.natAbs)=a*b:=by
  rw [<-Int.natAbs_mul]
  unfold Ez
  by_cases h:a<0<;>by_cases h':b<0
  · have:=Int.mul_pos_of_neg_of_neg h h';simp [h,h'];omega
  · have:a*b<=0:=Int.mul_nonpos_of_nonpos_of_nonneg (by omega) (by omega)
    simp [h,h'];omega
  · have:a*b<=0:=Int.mul_nonpos_of_nonneg_of_nonpos (by omega) (by omega)
    simp [h,h'];omega
  · have:0<=a*b:=Int.mul_nonneg (by omega) (by omega)
    simp [h,h'];omega
theorem Mk {a b:Int} (h:(decide (a<0) == decide (b<0))=true):Ez (decide (a<0)) (a.natAbs+b.natAbs)=a+b:=by
  unfold Ez
  by_cases h1:a<0<;>by_cases h2:b<0<;>simp [h1,h2] at h ⊢<;>omega
theorem Pk {a b:Int} (h:(decide (a<0) == decide (b<0))=false) (h3:b.natAbs<=a.natAbs):Ez (decide (a<0)) (a.natAbs-b.natAbs)=a+b:=by
  unfold Ez
  by_cases h1:a<0<;>by_cases h2:b<0<;>simp [h1,h2] at h ⊢<;>omega
theorem Om {a b:Int} (h:(decide (a<0) == decide (b<0))=false) (h3:¬b.natAbs<=a.natAbs):Ez (decide (b<0)) (b.natAbs-a.natAbs)=a+b:=by
  unfold Ez
  by_cases h1:a<0<;>by_cases h2:b<0<;>simp [h1,h2] at h ⊢<;>omega
theorem ZX {z:Int} (h:z<0) (h2:-9223372036854775808<=z):IntKind.u64.wrap (-(IntKind.u64.wrap z))=((z.natAbs:Nat):Int):=by
  simp only [IntKind.wrap,IntKind.bits,IntKind.signed];simp;omega
theorem KX {z:Int} (h:z<0):Ez true z.natAbs=z:=by unfold Ez;simp;omega
theorem Ru {z:Int} (h:¬z<0):Ez false z.natAbs=z:=by unfold Ez;simp;omega
section
set_option maxRecDepth 100000
theorem LJ  :Instr.fill ([(0,2)].toArray[·]?) (AZ 0).toArray []=some (AZ 0).toArray:=by kernel_rfl
theorem Hy (n:Nat) (w:World)  :Calls Tryz.prog 182 #[(aG (AZ n))] w (Am w (Value.bool (decide (n=0)))):=by
 refine Ac (args:=[(aG (AZ n))]) Tryz.func182 rfl rfl (Ad rfl) (AG.subF (sL [0] rfl) (q4 (Bl (cs:=AZ n) rfl λb1=>AK rfl (q3 (sL [1,2] rfl) ?_))))
 refine A7 0 SC rfl (AJ (v:=(aG (AZ 0))) (AY (zs:=AZ 0) (vs:=AZ 0) (pv:=[]) (places:=[(0,2)]) Tryz.zeroValue49 Tryz.underlying49 (λw=>by simp [Tryz.sizeOf47]) rfl (LJ )) rfl (AJ (Bj (c:=(decide (n=0))) rfl rfl Tryz.eqGuardType49 (OW 9997 n 0)) rfl (AK rfl (AF.nil (AC.subF (sL [2] rfl) ?_)))))
 exact AC.then_ (AG.ret (AR rfl (Ai (v:=(Value.bool (decide (n=0)))) rfl) (λw hw=>⟨rfl,hw.out⟩)))
theorem FE (x0:Nat):Instr.fill ([(0,2)].toArray[·]?) (AZ 0).toArray [(0,.agg (AZ x0).toArray)]=some (AZ x0).toArray:=by kernel_rfl
theorem Qz (n:Nat) (w:World)  :Calls Tryz.prog 140 #[(Value.bool true),(aG (AZ n))] w (Am w (aG (BG (Ez true n)))):=by
 refine Ac (args:=[(Value.bool true),(aG (AZ n))]) Tryz.func140 rfl rfl (Ad rfl) (AG.subF (sL [0,1] rfl) (q4 (Bl (cs:=AZ n) rfl λb1=>al JQ rfl λb2=>q3 (sL [0,3,4] rfl) ?_)))
 refine A7 1 CE rfl (AJ (v:=(aG (AZ n))) (AY (zs:=AZ 0) (vs:=AZ n) (pv:=[(0,(aG (AZ n)))]) (places:=[(0,2)]) Tryz.zeroValue49 Tryz.underlying49 (λw=>by simp [Tryz.sizeOf47]) rfl (FE n)) rfl (al YW rfl λb3=>Ap rfl Tryz.sizeOf49 rfl (q6 (sL [0,4,5] rfl) (Cq [(0,true),(1,true),(2,true),(3,true),(4,false),(5,true),(6,true),(7,true),(8,false)] (sk (sl sr)) ?_))))
 refine Fz 0 SC rfl (Bc rfl (Bc rfl (AS.pas (v:=(aG (AZ n))) rfl (AB rfl) (Aa (i:=0) (vs:=AZ n) rfl rfl SC.a SC.s rfl rfl) rfl rfl (AS.imp rfl (AF.call (v:=(Value.bool (decide (n=0)))) (AB rfl) (Aq (args:=[(aG (AZ n))]) rfl rfl Tryz.call182) (λw hw=>Hy n w) rfl (Ad rfl) ?_)))))
 refine AS.back (sk (sl sr)) (AS.pas (v:=(Value.bool (!(decide (n=0))))) rfl (AB rfl) (Bi (c:=(!(decide (n=0)))) rfl rfl) rfl rfl (Av (v:=(Value.bool (!(decide (n=0))))) rfl (Aj rfl rfl) (Av (v:=(aG (AZ n++[(Value.bool (!(decide (n=0))))]))) rfl (AY (zs:=BG 0) (vs:=AZ n++[(Value.bool (!(decide (n=0))))]) (pv:=[(0,(aG (AZ n))),(1,(Value.bool (!(decide (n=0)))))]) (places:=[(0,2),(2,1)]) Tryz.zeroValue51 Tryz.underlying51 (λw=>by simp [Tryz.sizeOf4,Tryz.sizeOf49]) rfl rfl) (AS.imp rfl (Cr rfl Tryz.sizeOf51 rfl ?_)))))
 exact AS.back (sk (sl sr)) (AS.nil (AC.subF (sL [4,5] rfl) (AC.then_ (AG.ret (AR rfl (Ay (i:=1) (cs:=AZ n++[(Value.bool (!(decide (n=0))))]) rfl rfl Tryz.isAgg51 Tryz.sizeOf51 rfl) (λw hw=>⟨by rw [Ta],hw.out⟩))))))
theorem PW (n:Nat) (w:World)  :Calls Tryz.prog 140 #[(Value.bool false),(aG (AZ n))] w (Am w (aG (BG (Ez false n)))):=by
 refine Ac (args:=[(Value.bool false),(aG (AZ n))]) Tryz.func140 rfl rfl (Ad rfl) (AG.subF (sL [0,1] rfl) (q4 (Bl (cs:=AZ n) rfl λb1=>al JQ rfl λb2=>q3 (sL [0,3,4] rfl) ?_)))
 refine A7 1 CE rfl (AJ (v:=(aG (AZ n))) (AY (zs:=AZ 0) (vs:=AZ n) (pv:=[(0,(aG (AZ n)))]) (places:=[(0,2)]) Tryz.zeroValue49 Tryz.underlying49 (λw=>by simp [Tryz.sizeOf47]) rfl (FE n)) rfl (al YW rfl λb3=>Ap rfl Tryz.sizeOf49 rfl (q6 (sL [0,4,5] rfl) (Cq [(0,true),(1,true),(2,true),(3,true),(4,false),(5,true),(6,true),(7,true),(8,false)] (sk (sl sr)) ?_))))
 refine Fz 0 SC rfl (Bc rfl (Bc rfl (AS.skp rfl (AP rfl) rfl rfl (AS.imp rfl (AF.skip (AP rfl) rfl (Ad rfl) ?_)))))
 refine AS.back (sk (sl sr)) (AS.skp rfl (AP rfl) rfl rfl (Av (v:=(Value.bool false)) rfl (AV rfl rfl) (Av (v:=(aG (AZ n++[(Value.bool false)]))) rfl (AY (zs:=BG 0) (vs:=AZ n++[(Value.bool false)]) (pv:=[(0,(aG (AZ n))),(1,(Value.bool false))]) (places:=[(0,2),(2,1)]) Tryz.zeroValue51 Tryz.underlying51 (λw=>by simp [Tryz.sizeOf4,Tryz.sizeOf49]) rfl rfl) (AS.imp rfl (Cr rfl Tryz.sizeOf51 rfl ?_)))))
 exact AS.back (sk (sl sr)) (AS.nil (AC.subF (sL [4,5] rfl) (AC.then_ (AG.ret (AR rfl (Ay (i:=1) (cs:=AZ n++[(Value.bool false)]) rfl rfl Tryz.isAgg51 Tryz.sizeOf51 rfl) (λw hw=>⟨by rw [S1],hw.out⟩))))))
theorem EH (neg:Bool) (n:Nat) (w:World):Calls Tryz.prog 140 #[.bool neg,.agg (AZ n).toArray] w (Am w (.agg (BG (Ez neg n)).toArray)):=by
 cases neg
 ·exact PW n w
 ·exact Qz n w
theorem YB (z:Int) (hz:-9223372036854775808<=z) (hz2:z<9223372036854775808) (w:World)  :Calls Tryz.prog 73 #[(vI z)] w (Am w (aG (BG z))):=by
 refine Ac (args:=[(vI z)]) Tryz.func73 rfl rfl (Ad rfl) (AG.subF (sL [0] rfl) (q4 (al JQ rfl λb1=>AF.nil (q1 ?_))))
 refine q4 (AO rfl (AJ (Af (c:=(decide (z<(0:Int)))) rfl rfl rfl) rfl (AF.nil (AC.subF (sL [0,2,4] rfl) (AC.then_ ?_)))))
 refine AG.cond rfl (λhc0=>?_) (λhc0=>?_)
 ·replace hc0:=of_decide_eq_true hc0
  have he:=KX hc0
  refine q4 (AO rfl (AJ (Az (c:=(IntKind.u64.wrap z)) rfl Tryz.underlying2 Tryz.underlying45 (rfl)) rfl (AJ (Kb (c:=((z.natAbs:Nat):Int)) rfl (by rw [Int.zero_sub];exact ZX hc0 hz)) rfl (BU Tryz.call147 (Ji z.natAbs (by omega)) rfl (BU Tryz.call140 (EH true z.natAbs) rfl ?_)))))
  exact Ap rfl Tryz.sizeOf51 rfl (AF.nil (AC.subF (sL [0,2] rfl) (AC.then_ (AG.ret (AC.then_ret (AR rfl (Ay (i:=0) (cs:=BG (Ez true z.natAbs)) rfl rfl Tryz.isAgg51 Tryz.sizeOf51 rfl) (λw hw=>⟨by rw [he],hw.out⟩)))))))
 ·replace hc0:=of_decide_eq_false hc0
  have he:=Ru hc0
  refine AG.skip (q2 (AO rfl (AJ (Az (c:=((z.natAbs:Nat):Int)) rfl Tryz.underlying2 Tryz.underlying45 (by rw [D6 (by omega) (by omega)];omega)) rfl (BU Tryz.call147 (Ji z.natAbs (by omega)) rfl (BU Tryz.call140 (EH false z.natAbs) rfl ?_)))))
  exact Ap rfl Tryz.sizeOf51 rfl (AF.nil (AC.subF (sL [0,2] rfl) (AC.then_ (AG.ret (AR rfl (Ay (i:=0) (cs:=BG (Ez false z.natAbs)) rfl rfl Tryz.isAgg51 Tryz.sizeOf51 rfl) (λw hw=>⟨by rw [he],hw.out⟩))))))
theorem Mu (a:Int) (w:World)  :Calls Tryz.prog 141 #[(aG (BG a))] w (Am w (aG (AZ a.natAbs))):=by
 refine Ac (args:=[(aG (BG a))]) Tryz.func141 rfl rfl (Ad rfl) (AG.subF (sL [0] rfl) (q4 (Bl (cs:=BG a) rfl λb1=>al GD rfl λb2=>q3 (sL [1,2] rfl) ?_)))
 refine AJ (v:=(pP b1 0)) (AA rfl Tryz.underlying51 rfl Tryz.sizeOf49 rfl) rfl (AJ (v:=(pP b1 0)) (AA rfl Tryz.underlying49 rfl Tryz.sizeOf47 rfl) rfl (EU 1 (AZ a.natAbs) CE rfl (Ap rfl Tryz.sizeOf47 rfl (AF.nil (AC.subF (sL [2] rfl) ?_)))))
 exact AC.then_ (AG.ret (AR rfl (Ay (i:=0) (cs:=AZ a.natAbs) rfl rfl Tryz.isAgg47 Tryz.sizeOf47 rfl) (λw hw=>⟨rfl,hw.out⟩)))
theorem K4 (a:Int) (w:World)  :Calls Tryz.prog 137 #[(aG (BG a))] w (Am w (vI a.sign)):=by
 refine Ac (args:=[(aG (BG a))]) Tryz.func137 rfl rfl (Ad rfl) (AG.subF (sL [0] rfl) (q4 (Bl (cs:=BG a) rfl λb1=>AK rfl (q6 (sL [1,2] rfl) ?_))))
 refine AG.block (q4 (AJ (v:=(pP b1 0)) (AA rfl Tryz.underlying51 rfl Tryz.sizeOf49 rfl) rfl (EU 0 (AZ a.natAbs) SC rfl (BU Tryz.call182 (Hy a.natAbs) rfl (AK rfl ?_)))))
 refine AF.nil (AC.subF (sL [1,2,3] rfl) (AC.then_ ?_))
 refine AG.cond rfl (λhc0=>?_) (λhc0=>?_)
 ·replace hc0:=of_decide_eq_true hc0
  have he:a.sign=0:=by rw [show a=0 by omega];rfl
  refine q4 (AK rfl (AF.nil (AC.then_ (AG.ret (AC.in_ret ?_)))))
  exact AC.then_ret (AR rfl (Ai (v:=(vI 0)) rfl) (λw hw=>⟨by rw [he],hw.out⟩))
 ·replace hc0:=of_decide_eq_false hc0
  refine q4 (AJ (v:=(pP b1 2)) (AA rfl Tryz.underlying51 rfl Tryz.sizeOf4 rfl) rfl (BL 0 (Value.bool (decide (a<0))) VG rfl (AK rfl (AF.nil (AC.subF (sL [1,2,7] rfl) ?_)))))
  refine AC.then_ ?_
  refine AG.cond rfl (λhc1=>?_) (λhc1=>?_)
  ·replace hc1:=of_decide_eq_true hc1
   have he:a.sign = -1:=Int.sign_eq_neg_one_of_neg hc1
   refine q4 (AK rfl (AF.nil (AC.then_ (AG.ret (AC.in_ret ?_)))))
   exact AC.then_ret (AR rfl (Ai (v:=(vI (-1:Int))) rfl) (λw hw=>⟨by rw [he],hw.out⟩))
  ·replace hc1:=of_decide_eq_false hc1
   have he:a.sign=1:=Int.sign_eq_one_of_pos (by omega)
   refine AG.skip (AC.in_normal (q2 (AK rfl (AF.nil (AC.then_ ?_)))))
   exact AG.ret (AR rfl (Ai (v:=(vI 1)) rfl) (λw hw=>⟨by rw [he],hw.out⟩))
theorem QI (a:Int) (w:World)  :Calls Tryz.prog 201 #[(aG (BG a))] w (Am w (aG (BG (-a)))):=by
 refine Ac (args:=[(aG (BG a))]) Tryz.func201 rfl rfl (Ad rfl) (AG.subF (sL [0] rfl) (q4 (Bl (cs:=BG a) rfl λb1=>al JQ rfl λb2=>q3 (sL [1,2] rfl) ?_)))
 refine AJ (v:=(pP b1 2)) (AA rfl Tryz.underlying51 rfl Tryz.sizeOf4 rfl) rfl (BL 1 (Value.bool (decide (a<0))) VG rfl (AJ (Bi (c:=(!(decide (a<0)))) rfl rfl) rfl (AJ (v:=(pP b1 0)) (AA rfl Tryz.underlying51 rfl Tryz.sizeOf49 rfl) rfl (AJ (v:=(pP b1 0)) (AA rfl Tryz.underlying49 rfl Tryz.sizeOf47 rfl) rfl (EU 1 (AZ a.natAbs) CE rfl ?_)))))
 exact BU Tryz.call140 (EH (!(decide (a<0))) a.natAbs) rfl (Ap rfl Tryz.sizeOf51 rfl (AF.nil (AC.subF (sL [2] rfl) (AC.then_ (AG.ret (AR rfl (Ay (i:=0) (cs:=BG (Ez (!(decide (a<0))) a.natAbs)) rfl rfl Tryz.isAgg51 Tryz.sizeOf51 rfl) (λw hw=>⟨by rw [Vf],hw.out⟩)))))))
theorem Wh (a b:Int) (ha:nw a.natAbs<=1099511627776) (hb:nw b.natAbs<=1099511627776) (w:World)  :Calls Tryz.prog 154 #[(aG (BG a)),(aG (BG b))] w (Am w (aG (BG (a+b)))):=by
 refine Ac (args:=[(aG (BG a)),(aG (BG b))]) Tryz.func154 rfl rfl (Ad rfl) (AG.subF (sL [0,1] rfl) (q4 (Bl (cs:=BG a) rfl λb1=>Bl (cs:=BG b) rfl λb2=>al JQ rfl λb3=>?_)))
 refine q6 (sL [2,3,4] rfl) (q4 (AJ (v:=(pP b1 2)) (AA rfl Tryz.underlying51 rfl Tryz.sizeOf4 rfl) rfl (BL 2 (Value.bool (decide (a<0))) VG rfl (AJ (v:=(pP b2 2)) (AA rfl Tryz.underlying51 rfl Tryz.sizeOf4 rfl) rfl (BL 1 (Value.bool (decide (b<0))) VG rfl ?_)))))
 refine AJ (I3 (c:=(decide (a<0) == decide (b<0))) rfl rfl Tryz.underlying4 rfl) rfl (AF.nil (AC.subF (sL [2,3,4,13] rfl) (AC.then_ ?_)))
 refine AG.cond rfl (λhc0=>?_) (λhc0=>?_)
 ·skip
  have he:=Mk hc0
  refine AG.seq (Cq [(0,true),(1,true),(2,true),(3,true),(4,true),(5,true),(6,true),(7,true),(8,false),(9,false),(10,false)] (sl sr) (Av (v:=(pP b1 2)) rfl (AA rfl Tryz.underlying51 rfl Tryz.sizeOf4 rfl) (Bg 1 (Value.bool (decide (a<0))) VG rfl (Av (v:=(pP b1 0)) rfl (AA rfl Tryz.underlying51 rfl Tryz.sizeOf49 rfl) (Av (v:=(pP b1 0)) rfl (AA rfl Tryz.underlying49 rfl Tryz.sizeOf47 rfl) ?_)))))
  refine Fk 1 (AZ a.natAbs) CE rfl (Av (v:=(pP b2 0)) rfl (AA rfl Tryz.underlying51 rfl Tryz.sizeOf49 rfl) (Av (v:=(pP b2 0)) rfl (AA rfl Tryz.underlying49 rfl Tryz.sizeOf47 rfl) (Fk 0 (AZ b.natAbs) CE rfl (AS.imp rfl (BU Tryz.call151 (TF a.natAbs b.natAbs (by omega) (by omega)) rfl ?_)))))
  refine AS.back (sl sr) (AS.imp rfl (BU Tryz.call140 (EH (decide (a<0)) (a.natAbs+b.natAbs)) rfl (AS.back (sl sr) (AS.imp rfl (Ap rfl Tryz.sizeOf51 rfl ?_)))))
  exact AS.back (sl sr) (AS.nil (AC.subF (sL [2,3,4] rfl) (AC.then_ (AG.ret (AC.then_ret (AR rfl (Ay (i:=0) (cs:=BG (Ez (decide (a<0)) (a.natAbs+b.natAbs))) rfl rfl Tryz.isAgg51 Tryz.sizeOf51 rfl) (λw hw=>⟨by rw [he],hw.out⟩)))))))
 ·skip
  refine AG.skip (q1 (q4 (AJ (v:=(pP b1 0)) (AA rfl Tryz.underlying51 rfl Tryz.sizeOf49 rfl) rfl (AJ (v:=(pP b1 0)) (AA rfl Tryz.underlying49 rfl Tryz.sizeOf47 rfl) rfl (EU 2 (AZ a.natAbs) CE rfl ?_)))))
  refine AJ (v:=(pP b2 0)) (AA rfl Tryz.underlying51 rfl Tryz.sizeOf49 rfl) rfl (AJ (v:=(pP b2 0)) (AA rfl Tryz.underlying49 rfl Tryz.sizeOf47 rfl) rfl (EU 1 (AZ b.natAbs) CE rfl (BU Tryz.call146 (O0 a.natAbs b.natAbs (by omega) (by omega)) rfl (AO rfl (AJ (AT (v:=(aG (AZ (a.natAbs-b.natAbs)))) rfl rfl) rfl ?_)))))
  refine AJ (AT (v:=(Value.bool (decide (b.natAbs<=a.natAbs)))) rfl rfl) rfl (al GD rfl λb4=>Ap rfl Tryz.sizeOf47 rfl (AK rfl (q3 (sL [2,3,4,5,6] rfl) (AO rfl ?_))))
  refine AF.nil (AC.subF (sL [2,3,4,5,34] rfl) (AC.then_ ?_))
  refine AG.cond rfl (λhc1=>?_) (λhc1=>?_)
  ·replace hc1:=of_decide_eq_true hc1
   have he:=Pk hc0 hc1
   refine q4 (AJ (v:=(pP b1 2)) (AA rfl Tryz.underlying51 rfl Tryz.sizeOf4 rfl) rfl (BL 3 (Value.bool (decide (a<0))) VG rfl (A7 0 CE rfl (BU Tryz.call140 (EH (decide (a<0)) (a.natAbs-b.natAbs)) rfl (Cr rfl Tryz.sizeOf51 rfl ?_)))))
   exact AF.nil (AC.subF (sL [2,3,4,5] rfl) (AC.then_ (AG.ret (AC.then_ret (AR rfl (Ay (i:=1) (cs:=BG (Ez (decide (a<0)) (a.natAbs-b.natAbs))) rfl rfl Tryz.isAgg51 Tryz.sizeOf51 rfl) (λw hw=>⟨by rw [he],hw.out⟩))))))
  ·replace hc1:=of_decide_eq_false hc1
   have he:=Om hc0 hc1
   refine AG.skip (q2 (AJ (v:=(pP b2 0)) (AA rfl Tryz.underlying51 rfl Tryz.sizeOf49 rfl) rfl (AJ (v:=(pP b2 0)) (AA rfl Tryz.underlying49 rfl Tryz.sizeOf47 rfl) rfl (EU 2 (AZ b.natAbs) CE rfl (AJ (v:=(pP b1 0)) (AA rfl Tryz.underlying51 rfl Tryz.sizeOf49 rfl) rfl ?_)))))
   refine AJ (v:=(pP b1 0)) (AA rfl Tryz.underlying49 rfl Tryz.sizeOf47 rfl) rfl (EU 3 (AZ a.natAbs) CE rfl (BU Tryz.call146 (O0 b.natAbs a.natAbs (by omega) (by omega)) rfl (AO rfl (AJ (AT (v:=(aG (AZ (b.natAbs-a.natAbs)))) rfl rfl) rfl (AJ (AT (v:=(Value.bool (decide (a.natAbs<=b.natAbs)))) rfl rfl) rfl ?_)))))
   refine al GD rfl λb5=>Ap rfl Tryz.sizeOf47 rfl (AK rfl (q3 (sL [2,3,4,5,7] rfl) (AJ (v:=(pP b2 2)) (AA rfl Tryz.underlying51 rfl Tryz.sizeOf4 rfl) rfl (BL 3 (Value.bool (decide (b<0))) VG rfl ?_))))
   refine A7 0 CE rfl (BU Tryz.call140 (EH (decide (b<0)) (b.natAbs-a.natAbs)) rfl (L4 rfl Tryz.sizeOf51 rfl (AF.nil (AC.subF (sL [2,3,4,5,7] rfl) (AC.then_ ?_)))))
   exact AG.ret (AR rfl (Ay (i:=2) (cs:=BG (Ez (decide (b<0)) (b.natAbs-a.natAbs))) rfl rfl Tryz.isAgg51 Tryz.sizeOf51 rfl) (λw hw=>⟨by rw [he],hw.out⟩))
theorem UU (a b:Int) (ha:nw a.natAbs<=1099511627776) (hb:nw b.natAbs<=1099511627776) (w:World)  :Calls Tryz.prog 143 #[(aG (BG a)),(aG (BG b))] w (Am w (aG (BG (a*b)))):=by
 refine Ac (args:=[(aG (BG a)),(aG (BG b))]) Tryz.func143 rfl rfl (Ad rfl) (AG.subF (sL [0,1] rfl) (q4 (Bl (cs:=BG a) rfl λb1=>Bl (cs:=BG b) rfl λb2=>al JQ rfl λb3=>?_)))
 refine q6 (sL [2,3,4] rfl) (Cq [(0,true),(1,true),(2,true),(3,true),(4,true),(5,true),(6,true),(7,true),(8,true),(9,true),(10,true),(11,false),(12,false),(13,false)] (sl sr) (Av (v:=(pP b1 2)) rfl (AA rfl Tryz.underlying51 rfl Tryz.sizeOf4 rfl) (Bg 1 (Value.bool (decide (a<0))) VG rfl (Av (v:=(pP b2 2)) rfl (AA rfl Tryz.underlying51 rfl Tryz.sizeOf4 rfl) (Bg 0 (Value.bool (decide (b<0))) VG rfl ?_)))))
 refine Av rfl (OQ (c:=(!(decide (a<0) == decide (b<0)))) rfl rfl Tryz.underlying4 rfl) (Av (v:=(pP b1 0)) rfl (AA rfl Tryz.underlying51 rfl Tryz.sizeOf49 rfl) (Av (v:=(pP b1 0)) rfl (AA rfl Tryz.underlying49 rfl Tryz.sizeOf47 rfl) (Fk 1 (AZ a.natAbs) CE rfl (Av (v:=(pP b2 0)) rfl (AA rfl Tryz.underlying51 rfl Tryz.sizeOf49 rfl) (Av (v:=(pP b2 0)) rfl (AA rfl Tryz.underlying49 rfl Tryz.sizeOf47 rfl) ?_)))))
 refine Fk 0 (AZ b.natAbs) CE rfl (AS.imp rfl (BU Tryz.call71 (PO a.natAbs b.natAbs (by omega) (by omega)) rfl (AS.back (sl sr) (AS.imp rfl (BU Tryz.call140 (EH (!(decide (a<0) == decide (b<0))) (a.natAbs*b.natAbs)) rfl ?_)))))
 refine AS.back (sl sr) (AS.imp rfl (Ap rfl Tryz.sizeOf51 rfl (AS.back (sl sr) (AS.nil (AC.subF (sL [4] rfl) ?_)))))
 exact AC.then_ (AG.ret (AR rfl (Ay (i:=0) (cs:=BG (Ez (!(decide (a<0) == decide (b<0))) (a.natAbs*b.natAbs))) rfl rfl Tryz.isAgg51 Tryz.sizeOf51 rfl) (λw hw=>⟨by rw [WI],hw.out⟩)))
theorem IQ (a b:Int) (ha:nw a.natAbs<=1099511627776) (hb:nw b.natAbs<=1099511627776) (w:World)  :Calls Tryz.prog 142 #[(Value.func (.func 154) #[] #[]),(aG (BG a)),(aG (BG b))] w (Am w (aG (BG (a+b)))):=by
 refine Ac (args:=[(Value.func (.func 154) #[] #[]),(aG (BG a)),(aG (BG b))]) Tryz.func142 rfl rfl (Ad rfl) (AG.subF (sL [0,1,2] rfl) (q4 (Bl (cs:=BG a) rfl λb1=>Bl (cs:=BG b) rfl λb2=>al JQ rfl λb3=>?_)))
 refine q3 (sL [0,4,5,6] rfl) (AO rfl (A7 2 DR rfl (A7 1 DR rfl (BU Tryz.call154 (Wh a b (by first|omega|(simp only [Int.natAbs_neg,BA,Int.natAbs_natCast];omega)) (by first|omega|(simp only [Int.natAbs_neg,BA,Int.natAbs_natCast];omega))) rfl (Ap rfl Tryz.sizeOf51 rfl ?_)))))
 exact AF.nil (AC.subF (sL [6] rfl) (AC.then_ (AG.ret (AR rfl (Ay (i:=0) (cs:=BG (a+b)) rfl rfl Tryz.isAgg51 Tryz.sizeOf51 rfl) (λw hw=>⟨rfl,hw.out⟩)))))
theorem LS (a b:Int) (ha:nw a.natAbs<=1099511627776) (hb:nw b.natAbs<=1099511627776) (w:World)  :Calls Tryz.prog 142 #[(Value.func (.func 143) #[] #[]),(aG (BG a)),(aG (BG b))] w (Am w (aG (BG (a*b)))):=by
 refine Ac (args:=[(Value.func (.func 143) #[] #[]),(aG (BG a)),(aG (BG b))]) Tryz.func142 rfl rfl (Ad rfl) (AG.subF (sL [0,1,2] rfl) (q4 (Bl (cs:=BG a) rfl λb1=>Bl (cs:=BG b) rfl λb2=>al JQ rfl λb3=>?_)))
 refine q3 (sL [0,4,5,6] rfl) (AO rfl (A7 2 DR rfl (A7 1 DR rfl (BU Tryz.call143 (UU a b (by first|omega|(simp only [Int.natAbs_neg,BA,Int.natAbs_natCast];omega)) (by first|omega|(simp only [Int.natAbs_neg,BA,Int.natAbs_natCast];omega))) rfl (Ap rfl Tryz.sizeOf51 rfl ?_)))))
 exact AF.nil (AC.subF (sL [6] rfl) (AC.then_ (AG.ret (AR rfl (Ay (i:=0) (cs:=BG (a*b)) rfl rfl Tryz.isAgg51 Tryz.sizeOf51 rfl) (λw hw=>⟨rfl,hw.out⟩)))))
theorem Mf (a b:Int) (ha:nw a.natAbs<=1099511627776) (hb:nw b.natAbs<=1099511627776) (w:World)  :Calls Tryz.prog 82 #[(aG (BG a)),(aG (BG b))] w (Am w (aG (BG (a+b)))):=by
 refine Ac (args:=[(aG (BG a)),(aG (BG b))]) Tryz.func82 rfl rfl (Ad rfl) (AG.subF (sL [0,1] rfl) (q4 (Bl (cs:=BG a) rfl λb1=>Bl (cs:=BG b) rfl λb2=>al JQ rfl λb3=>?_)))
 refine q3 (sL [2,3,4] rfl) (A7 2 DR rfl (A7 1 DR rfl (BU Tryz.call142 (IQ a b (by first|omega|(simp only [Int.natAbs_neg,BA,Int.natAbs_natCast];omega)) (by first|omega|(simp only [Int.natAbs_neg,BA,Int.natAbs_natCast];omega))) rfl (Ap rfl Tryz.sizeOf51 rfl (AF.nil ?_)))))
 exact AC.subF (sL [4] rfl) (AC.then_ (AG.ret (AR rfl (Ay (i:=0) (cs:=BG (a+b)) rfl rfl Tryz.isAgg51 Tryz.sizeOf51 rfl) (λw hw=>⟨rfl,hw.out⟩))))
theorem V8 (a b:Int) (ha:nw a.natAbs<=1099511627776) (hb:nw b.natAbs<=1099511627776) (w:World)  :Calls Tryz.prog 157 #[(aG (BG a)),(aG (BG b))] w (Am w (aG (BG (a-b)))):=by
 refine Ac (args:=[(aG (BG a)),(aG (BG b))]) Tryz.func157 rfl rfl (Ad rfl) (AG.subF (sL [0,1] rfl) (q4 (Bl (cs:=BG a) rfl λb1=>Bl (cs:=BG b) rfl λb2=>al JQ rfl λb3=>?_)))
 refine q6 (sL [2,3,4] rfl) (Cq [(0,true),(1,true),(2,false),(3,false),(4,false)] (sl sr) (Fz 1 DR rfl (Fz 0 DR rfl (AS.imp rfl (BU Tryz.call201 (QI b) rfl ?_)))))
 refine AS.back (sl sr) (AS.imp rfl (BU Tryz.call142 (IQ a (-b) (by first|omega|(simp only [Int.natAbs_neg,BA,Int.natAbs_natCast];omega)) (by first|omega|(simp only [Int.natAbs_neg,BA,Int.natAbs_natCast];omega))) rfl (AS.back (sl sr) (AS.imp rfl (Ap rfl Tryz.sizeOf51 rfl ?_)))))
 exact AS.back (sl sr) (AS.nil (AC.subF (sL [4] rfl) (AC.then_ (AG.ret (AR rfl (Ay (i:=0) (cs:=BG (a+(-b))) rfl rfl Tryz.isAgg51 Tryz.sizeOf51 rfl) (λw hw=>⟨by rw [Int.sub_eq_add_neg],hw.out⟩))))))
theorem Gy (a b:Int) (ha:nw a.natAbs<=1099511627776) (hb:nw b.natAbs<=1099511627776) (w:World)  :Calls Tryz.prog 69 #[(aG (BG a)),(aG (BG b))] w (Am w (aG (BG (a*b)))):=by
 refine Ac (args:=[(aG (BG a)),(aG (BG b))]) Tryz.func69 rfl rfl (Ad rfl) (AG.subF (sL [0,1] rfl) (q4 (Bl (cs:=BG a) rfl λb1=>Bl (cs:=BG b) rfl λb2=>al JQ rfl λb3=>?_)))
 refine q3 (sL [2,3,4] rfl) (A7 2 DR rfl (A7 1 DR rfl (BU Tryz.call142 (LS a b (by first|omega|(simp only [Int.natAbs_neg,BA,Int.natAbs_natCast];omega)) (by first|omega|(simp only [Int.natAbs_neg,BA,Int.natAbs_natCast];omega))) rfl (Ap rfl Tryz.sizeOf51 rfl (AF.nil ?_)))))
 exact AC.subF (sL [4] rfl) (AC.then_ (AG.ret (AR rfl (Ay (i:=0) (cs:=BG (a*b)) rfl rfl Tryz.isAgg51 Tryz.sizeOf51 rfl) (λw hw=>⟨rfl,hw.out⟩))))
theorem QA (a b:Int) (ha:nw a.natAbs<=1099511627776) (hb:nw b.natAbs<=1099511627776) (w:World)  :Calls Tryz.prog 94 #[(aG (BG a)),(aG (BG b))] w (Am w (vI ((a-b).sign))):=by
 refine Ac (args:=[(aG (BG a)),(aG (BG b))]) Tryz.func94 rfl rfl (Ad rfl) (AG.subF (sL [0,1] rfl) (q4 (Bl (cs:=BG a) rfl λb1=>Bl (cs:=BG b) rfl λb2=>AK rfl ?_)))
 refine q3 (sL [2,3,4] rfl) (A7 1 DR rfl (A7 0 DR rfl (BU Tryz.call157 (V8 a b (by first|omega|(simp only [Int.natAbs_neg,BA,Int.natAbs_natCast];omega)) (by first|omega|(simp only [Int.natAbs_neg,BA,Int.natAbs_natCast];omega))) rfl (BU Tryz.call137 (K4 (a-b)) rfl (AK rfl ?_)))))
 exact AF.nil (AC.subF (sL [4] rfl) (AC.then_ (AG.ret (AR rfl (Ai (v:=(vI ((a-b).sign))) rfl) (λw hw=>⟨rfl,hw.out⟩)))))
end
end Go.Proofs.YtfbomiejpbchdaaGreat
