import Derived.Laws.StructEq
import Derived.Test.YtpgncndhhhllfaaGreatDoorPart03
import Derived.Test.YtpgncndhhhllfaaGreatDoorPart06
namespace Go.Proofs.YtpgncndhhhllfaaGreatDoor
open Go Go.RowKit Go.Proofs.Tryz
set_option linter.unusedVariables false
set_option linter.unusedSimpArgs false
section
set_option maxRecDepth 100000
theorem Vg (b m c:Nat) (bs:List Nat) (hbs:W32 bs) (hm:m<=bs.length) (hc:m<=c) (hL:c<4611686018427387904) (w:World) (hb:w.heap[b]?=some (.cells (Au bs).toArray 97 (0,0))):Calls prog 161 #[(Value.slice (some ⟨b,0,none⟩) m c)] w (An w (Value.slice (some ⟨b,0,none⟩) (Dz bs m) c)):=by
 refine Af (args:=[(Value.slice (some ⟨b,0,none⟩) m c)]) func161 O O (AT O) (AF.subF (sL [0] O) (q4 (asg' O (AE.nil (q1 ?_)))))
 refine AF.block ?_
 refine AF.lp1 (tg λ(k:Nat)=>k<=m/\Dz bs k=Dz bs m) (tg λ(k:Nat)=>[(2,(Value.slice none 0 0)),(0,(Value.slice (some ⟨b,0,none⟩) k c))]) (tg λ(k:Nat)=>[]) (tg λ(k:Nat)=>k) m (⟨Nat.le_refl _,rfl⟩) (sF O) sr (λk hJ=>?_)
 obtain ⟨hk,hv⟩:=hJ
 refine AF.seq (q4 (AM O (AH (v:=(vN k)) (AG O underlying184) O (AH (B3 (c:=(decide (0<k))) O O (CL (a:=0) (b:=k))) O (AM O ?_)))))
 refine AE.mid (FM:=[(2,(Value.slice none 0 0)),(0,(Value.slice (some ⟨b,0,none⟩) k c)),(3,(Value.slice (some ⟨b,0,none⟩) k c)),(4,(vN k)),(5,(Value.bool (decide (0<k)))),(6,(Value.bool (decide (0<k)))),(14,(Value.bool ((decide (0<k))&&(decide ((bs.getD (k-1) 0)=0)))))]) (LM:=[]) 8 ?_ ?_
 ·rcases Bool.eq_false_or_eq_true (decide (0<k)) with hg1|hg1
  ·skip
   refine AE.retell (k:=6) (u:=Value.bool true) O (by rw [hg1]) ?_
   have hg1':=hg1
   replace hg1':=of_decide_eq_true hg1'
   refine AE.step (v:=(Value.slice (some ⟨b,0,none⟩) k c)) (AB O) (Al O) O (AT O) (AE.step (v:=(Value.slice (some ⟨b,0,none⟩) k c)) (AB O) (Al O) O (AT O) (AE.step (v:=(vN k)) (AB O) (AG O underlying184) O (AT O) (AE.step (v:=(vN (k-1))) (AB O) (BW (c:=((k-1:Nat):Int)) O O (CM (a:=k) (b:=1) Z Z)) O (AT O) (AE.step (v:=(pP b (k-1))) (AB O) (AL (j:=k-1) O O underlying184 sizeOf97 O Z (by simp)) O (AT O) ?_))))
   have hx1:bs.getD (k-1) 0<4294967296:=W32.getD hbs (k-1)
   exact AE.step (v:=(vK .u32 (bs.getD (k-1) 0))) (AB O) (BY (v:=(vK .u32 (bs.getD (k-1) 0))) O (λw' hw=>CA.at0 (hw.oldCA (by simp) (Ew hb)) (BK (xs:=bs) (j:=(k-1)) Z)) isAgg97) O (AT O) (AE.step (v:=(Value.bool (decide ((bs.getD (k-1) 0)=0)))) (AB O) (BL (c:=(decide ((bs.getD (k-1) 0)=0))) O O (Iv (a:=bs.getD (k-1) 0) (b:=0))) O (AT O) (AH (v:=(Value.bool (decide ((bs.getD (k-1) 0)=0)))) (Ac O O) O (AE.nil (AC.mid (sS O (sS O (sS O (sS O (sS O (sS (by first|rfl|(rw [hg1];rfl)|rw [hg1]) (sS (by first|rfl|(rw [hg1];rfl)|rw [hg1]) (sN)))))))) (List.Sublist.refl _)))))
  ·skip
   refine AE.retell (k:=6) (u:=Value.bool false) O (by rw [hg1]) ?_
   have hg1':=hg1
   replace hg1':=of_decide_eq_false hg1'
   refine AE.skip (AJ O) O (AT O) (AE.skip (AJ O) O (AT O) (AE.skip (AJ O) O (AT O) (AE.skip (AJ O) O (AT O) (AE.skip (AJ O) O (AT O) (AE.skip (AJ O) O (AT O) ?_)))))
   exact AE.skip (AJ O) O (AT O) (AH (v:=(Value.bool false)) (AP O O) O (AE.nil (AC.mid (sS O (sS O (sS O (sS O (sS O (sS (by first|rfl|(rw [hg1];rfl)|rw [hg1]) (sS (by first|rfl|(rw [hg1];rfl)|rw [hg1]) (sN)))))))) (List.Sublist.refl _))))
 refine AE.nil (AC.subF (sL [2,0,14] O) (AC.then_ ?_))
 refine AF.cond O (λhc0=>?_) (λhc0=>?_)
 ·simp only [Bool.and_eq_true,Bool.or_eq_true,Bool.and_eq_false_iff,Bool.or_eq_false_iff,Bool.not_eq_true',Bool.not_eq_false',decide_eq_true_eq,decide_eq_false_iff_not] at hc0
  refine AF.skip (AC.then_ (AF.block (AF.region (AM O (AM O ?_)))))
  refine AH (v:=(vN k)) (AG O underlying184) O (AH (BW (c:=((k-1:Nat):Int)) O O (CM (a:=k) (b:=1) Z Z)) O (AH (v:=(Value.slice (some ⟨b,0,none⟩) (k-1) c)) (G1 (m:=k-1) O O underlying184 sizeOf97 Z) O (asg' O (AE.nil (AC.subF (sL [2,0] O) ?_)))))
  exact AC.in_normal (AC.round1 (k-1) (⟨Z,by rw [<-TB hc0.1 hc0.2];exact hv⟩) Z (sF O) sr)
 ·simp only [Bool.and_eq_true,Bool.or_eq_true,Bool.and_eq_false_iff,Bool.or_eq_false_iff,Bool.not_eq_true',Bool.not_eq_false',decide_eq_true_eq,decide_eq_false_iff_not] at hc0
  have hstop:Dz bs k=k:=Sc Z
  refine AF.exit (AC.then_exit (AC.round1_exit (AC.in_exit (q2 (AM O ?_)))))
  exact asg' O (AE.nil (AC.subF (sL [2,0] O) (AC.then_ (AF.ret (AI O (AY (v:=(Value.slice (some ⟨b,0,none⟩) k c)) O) (λw hw=>⟨by rw [<-hv,hstop],hw.out⟩))))))
theorem Kc (x y c:Nat) (hx:x<4294967296) (hy:y<4294967296) (hc:c<=1) (w:World)  :Calls prog 173 #[(vK .u32 x),(vK .u32 y),(vK .u32 c)] w (An w (Value.tuple #[(vK .u32 ((x+y+c)%4294967296)),(vK .u32 ((x+y+c)/4294967296))])):=by
 refine Af (args:=[(vK .u32 x),(vK .u32 y),(vK .u32 c)]) func173 O O (AT O) (AF.subF (sL [0,1,2] O) (q4 (asg' O (asg' O (AE.nil ?_)))))
 refine q2 (AM O (AH (Ay (c:=((x:Nat):Int)) O underlying97 underlying40 (BR Z)) O (AM O (AH (Ay (c:=((y:Nat):Int)) O underlying97 underlying40 (BR Z)) O (AH (AW (c:=((x+y:Nat):Int)) O O (Dd (a:=x) (b:=y) Z)) O ?_)))))
 refine AM O (AH (Ay (c:=((c:Nat):Int)) O underlying97 underlying40 (BR Z)) O (AH (AW (c:=(((x+y)+c:Nat):Int)) O O (Dd (a:=x+y) (b:=c) Z)) O (asg' O (q3 (sL [6,7,8] O) (AM O ?_)))))
 refine AH (Ay (c:=((((x+y)+c)%4294967296:Nat):Int)) O underlying40 underlying97 Ea) O (asg' O (q3 (sL [6,7,8] O) (AM O (AH (C0 (s:=32) (c:=((((x+y)+c)/4294967296:Nat):Int)) O O O (by decide) (GA (a:=(x+y)+c) (s:=32))) O (AH (Ay (c:=((((x+y)+c)/4294967296:Nat):Int)) O underlying40 underlying97 (CQ Z)) O ?_)))))
 exact asg' O (AE.nil (AC.subF (sL [6,7,8] O) (AC.then_ (AF.ret (Cp O (AY (v:=(vK .u32 (((x+y)+c)%4294967296))) O) (AY (v:=(vK .u32 (((x+y)+c)/4294967296))) O) (λw hw=>⟨rfl,hw.out⟩))))))
theorem LQ (x y c d:Nat) (hx:x<4294967296) (hy:y<4294967296) (hc:c<=1) (hd:d=(x+(4294967296-y)+(4294967296-c))%4294967296) (w:World)  :Calls prog 170 #[(vK .u32 x),(vK .u32 y),(vK .u32 c)] w (An w (Value.tuple #[(vK .u32 d),(vK .u32 (JE x (y+c)))])):=by
 have hd2:d<4294967296:=by omega
 have hb:=Ua hx hy hc hd
 have hx1:4294967295 ^^^ x<4294967296:=Nat.xor_lt_two_pow (n:=32) Z hx
 have hx2:x ^^^ y<4294967296:=Nat.xor_lt_two_pow (n:=32) hx hy
 have hx3:4294967295 ^^^ (x ^^^ y)<4294967296:=Nat.xor_lt_two_pow (n:=32) Z hx2
 have hx4:(4294967295 ^^^ x) &&& y<4294967296:=Nat.lt_of_le_of_lt Nat.and_le_right hy
 have hx5:(4294967295 ^^^ (x ^^^ y)) &&& d<4294967296:=Nat.lt_of_le_of_lt Nat.and_le_right hd2
 refine Af (args:=[(vK .u32 x),(vK .u32 y),(vK .u32 c)]) func170 O O (AT O) (AF.subF (sL [0,1,2] O) (q4 (asg' O (asg' O (AE.nil ?_)))))
 refine q2 (AM O (AM O (AH (BW (c:=(((x+(4294967296-y))%4294967296:Nat):Int)) O O (N_ Z)) O (AM O (AH (BW (c:=((d:Nat):Int)) O O (by rw [N_ Z,hd];exact congrArg Int.ofNat Z)) O ?_)))))
 refine asg' O (q3 (sL [0,1,6,7] O) (AM O (AH (WV (c:=((4294967295 ^^^ x:Nat):Int)) O (Oq hx)) O (AM O (AH (KY (c:=(((4294967295 ^^^ x) &&& y:Nat):Int)) O O (PP hx1 hy)) O ?_)))))
 refine AM O (AM O (AH (Zu (c:=((x ^^^ y:Nat):Int)) O O (ON hx hy)) O (AH (WV (c:=((4294967295 ^^^ (x ^^^ y):Nat):Int)) O (Oq hx2)) O (AM O (AH (KY (c:=(((4294967295 ^^^ (x ^^^ y)) &&& d:Nat):Int)) O O (PP hx3 hd2)) O ?_)))))
 refine AH (JI (c:=(((4294967295 ^^^ x) &&& y ||| (4294967295 ^^^ (x ^^^ y)) &&& d:Nat):Int)) O O (J5 hx4 hx5 O)) O (AH (C0 (s:=31) (c:=((((4294967295 ^^^ x) &&& y ||| (4294967295 ^^^ (x ^^^ y)) &&& d)/2147483648:Nat):Int)) O O O (by decide) (GA (a:=(4294967295 ^^^ x) &&& y ||| (4294967295 ^^^ (x ^^^ y)) &&& d) (s:=31))) O (asg' O (AE.nil (AC.subF (sL [0,1,6,7] O) (AC.then_ ?_)))))
 exact AF.ret (Cp O (AY (v:=(vK .u32 d)) O) (AY (v:=(vK .u32 (((4294967295 ^^^ x) &&& y ||| (4294967295 ^^^ (x ^^^ y)) &&& d)/2147483648))) O) (λw hw=>⟨by rw [<-hb],hw.out⟩))
theorem Ty (x y:Nat) (hx:x<18446744073709551616) (hy:y<18446744073709551616) (w:World)  :Calls prog 109 #[(vK .u64 x),(vK .u64 y)] w (An w (Value.tuple #[(vK .u64 (x*y/18446744073709551616)),(vK .u64 (x*y%18446744073709551616))])):=by
 have h1:=Lb (a:=x%4294967296) (b:=y%4294967296) Z Z
 have h2:=Lb (a:=x/4294967296) (b:=y%4294967296) Z Z
 have h3:=Lb (a:=x%4294967296) (b:=y/4294967296) Z Z
 have h4:=Lb (a:=x/4294967296) (b:=y/4294967296) Z Z
 have hh:=WQ x y
 have hh2:x*y/18446744073709551616<18446744073709551616:=Nat.div_lt_of_lt_mul (Nat.mul_lt_mul'' hx hy)
 refine Af (args:=[(vK .u64 x),(vK .u64 y)]) func109 O O (AT O) (AF.subF (sL [0,1] O) (q4 (asg' O (asg' O (AE.nil ?_)))))
 refine q2 (AM O (AH (KY (c:=((x%4294967296:Nat):Int)) O O (Ir (a:=x) Z)) O (asg' O (q3 (sL [0,1,4,5,6] O) (AM O ?_)))))
 refine AH (C0 (s:=32) (c:=((x/4294967296:Nat):Int)) O O O (by decide) (GA (a:=x) (s:=32))) O (asg' O (q3 (sL [0,1,4,5,6,7] O) (AM O (AH (KY (c:=((y%4294967296:Nat):Int)) O O (Ir (a:=y) Z)) O (asg' O ?_)))))
 refine q3 (sL [0,1,4,5,6,7,8] O) (AM O (AH (C0 (s:=32) (c:=((y/4294967296:Nat):Int)) O O O (by decide) (GA (a:=y) (s:=32))) O (asg' O (q3 (sL [0,1,4,5,6,7,8,9] O) (AM O ?_)))))
 refine AM O (AH (Br (c:=(((x%4294967296)*(y%4294967296):Nat):Int)) O O (FA (a:=x%4294967296) (b:=y%4294967296) Z)) O (asg' O (q3 (sL [0,1,4,5,6,7,8,9,10] O) (AM O (AM O ?_)))))
 refine AH (Br (c:=(((x/4294967296)*(y%4294967296):Nat):Int)) O O (FA (a:=x/4294967296) (b:=y%4294967296) Z)) O (AM O (AH (C0 (s:=32) (c:=((((x%4294967296)*(y%4294967296))/4294967296:Nat):Int)) O O O (by decide) (GA (a:=(x%4294967296)*(y%4294967296)) (s:=32))) O (AH (AW (c:=((((x/4294967296)*(y%4294967296))+(((x%4294967296)*(y%4294967296))/4294967296):Nat):Int)) O O (Dd (a:=(x/4294967296)*(y%4294967296)) (b:=((x%4294967296)*(y%4294967296))/4294967296) Z)) O (asg' O (q3 (sL [0,1,4,5,6,7,8,9,11] O) ?_)))))
 refine AM O (AH (KY (c:=(((((x/4294967296)*(y%4294967296))+(((x%4294967296)*(y%4294967296))/4294967296))%4294967296:Nat):Int)) O O (Ir (a:=((x/4294967296)*(y%4294967296))+(((x%4294967296)*(y%4294967296))/4294967296)) Z)) O (asg' O (q3 (sL [0,1,4,5,6,7,8,9,11,12] O) (AM O (AH (C0 (s:=32) (c:=(((((x/4294967296)*(y%4294967296))+(((x%4294967296)*(y%4294967296))/4294967296))/4294967296:Nat):Int)) O O O (by decide) (GA (a:=((x/4294967296)*(y%4294967296))+(((x%4294967296)*(y%4294967296))/4294967296)) (s:=32))) O ?_)))))
 refine asg' O (q3 (sL [0,1,4,5,6,7,8,9,11,12,13] O) (AM O (AM O (AM O (AH (Br (c:=(((x%4294967296)*(y/4294967296):Nat):Int)) O O (FA (a:=x%4294967296) (b:=y/4294967296) Z)) O ?_)))))
 refine AH (AW (c:=((((((x/4294967296)*(y%4294967296))+(((x%4294967296)*(y%4294967296))/4294967296))%4294967296)+((x%4294967296)*(y/4294967296)):Nat):Int)) O O (Dd (a:=(((x/4294967296)*(y%4294967296))+(((x%4294967296)*(y%4294967296))/4294967296))%4294967296) (b:=(x%4294967296)*(y/4294967296)) Z)) O (asg' O (q3 (sL [0,1,4,5,6,7,8,9,11,12,13] O) (AM O (AM O (AH (Br (c:=(((x/4294967296)*(y/4294967296):Nat):Int)) O O (FA (a:=x/4294967296) (b:=y/4294967296) Z)) O ?_)))))
 refine AM O (AH (AW (c:=((((x/4294967296)*(y/4294967296))+((((x/4294967296)*(y%4294967296))+(((x%4294967296)*(y%4294967296))/4294967296))/4294967296):Nat):Int)) O O (Dd (a:=(x/4294967296)*(y/4294967296)) (b:=(((x/4294967296)*(y%4294967296))+(((x%4294967296)*(y%4294967296))/4294967296))/4294967296) Z)) O (AM O (AH (C0 (s:=32) (c:=(((((((x/4294967296)*(y%4294967296))+(((x%4294967296)*(y%4294967296))/4294967296))%4294967296)+((x%4294967296)*(y/4294967296)))/4294967296:Nat):Int)) O O O (by decide) (GA (a:=((((x/4294967296)*(y%4294967296))+(((x%4294967296)*(y%4294967296))/4294967296))%4294967296)+((x%4294967296)*(y/4294967296))) (s:=32))) O (AH (AW (c:=((x*y/18446744073709551616:Nat):Int)) O O (by rw [<-Int.natCast_add,hh];exact BR hh2)) O (asg' O ?_)))))
 refine q3 (sL [0,1,4,5,6,7,8,9,11,12] O) (AM O (AM O (AH (Br (c:=((x*y%18446744073709551616:Nat):Int)) O O VG) O (asg' O (AE.nil ?_)))))
 exact AC.subF (sL [0,1,4,5,6,7,8,9,11,12] O) (AC.then_ (AF.ret (Cp O (AY (v:=(vK .u64 (x*y/18446744073709551616))) O) (AY (v:=(vK .u64 (x*y%18446744073709551616))) O) (λw hw=>⟨rfl,hw.out⟩))))
theorem VQ (hi lo y:Nat) (hh:hi<y) (hl:lo<4294967296) (hy:y<4294967296) (w:World)  :Calls prog 209 #[(vK .u32 hi),(vK .u32 lo),(vK .u32 y)] w (An w (Value.tuple #[(vK .u32 ((hi*4294967296+lo)/y)),(vK .u32 ((hi*4294967296+lo)%y))])):=by
 refine Af (args:=[(vK .u32 hi),(vK .u32 lo),(vK .u32 y)]) func209 O O (AT O) (AF.subF (sL [0,1,2] O) (q4 (asg' O (asg' O (AE.nil ?_)))))
 refine q1 (q4 (AM O (AH (Bx (c:=(decide (y≠0))) O O (cO (a:=y) (b:=0))) O (AM O ?_))))
 refine AE.mid (FM:=[(0,(vK .u32 hi)),(1,(vK .u32 lo)),(2,(vK .u32 y)),(6,(Value.int .u32 (0:Int))),(7,(Value.int .u32 (0:Int))),(9,(vK .u32 y)),(10,(Value.bool (decide (y≠0)))),(11,(Value.bool (decide (y≠0)))),(15,(Value.bool ((decide (y≠0))&&(decide (y<=hi)))))]) (LM:=[]) 4 ?_ ?_
 ·rcases Bool.eq_false_or_eq_true (decide (y≠0)) with hg1|hg1
  ·skip
   refine AE.retell (k:=11) (u:=Value.bool true) O (by rw [hg1]) ?_
   have hg1':=hg1
   replace hg1':=of_decide_eq_true hg1'
   exact AE.step (v:=(vK .u32 y)) (AB O) (Al O) O (AT O) (AE.step (v:=(vK .u32 hi)) (AB O) (Al O) O (AT O) (AE.step (v:=(Value.bool (decide (y<=hi)))) (AB O) (Hg (c:=(decide (y<=hi))) O O (WG (a:=y) (b:=hi))) O (AT O) (AH (v:=(Value.bool (decide (y<=hi)))) (Ac O O) O (AE.nil (AC.mid (sS O (sS O (sS O (sS O (sS O (sS O (sS O (sS (by first|rfl|(rw [hg1];rfl)|rw [hg1]) (sS (by first|rfl|(rw [hg1];rfl)|rw [hg1]) (sN)))))))))) (List.Sublist.refl _))))))
  ·skip
   refine AE.retell (k:=11) (u:=Value.bool false) O (by rw [hg1]) ?_
   have hg1':=hg1
   replace hg1':=of_decide_eq_false hg1'
   exact AE.skip (AJ O) O (AT O) (AE.skip (AJ O) O (AT O) (AE.skip (AJ O) O (AT O) (AH (v:=(Value.bool false)) (AP O O) O (AE.nil (AC.mid (sS O (sS O (sS O (sS O (sS O (sS O (sS O (sS (by first|rfl|(rw [hg1];rfl)|rw [hg1]) (sS (by first|rfl|(rw [hg1];rfl)|rw [hg1]) (sN)))))))))) (List.Sublist.refl _))))))
 refine AE.nil (AC.subF (sL [0,1,2,6,7,15] O) (AC.then_ ?_))
 refine AF.cond O (λhc0=>?_) (λhc0=>?_)
 ·simp only [Bool.and_eq_true,Bool.or_eq_true,Bool.and_eq_false_iff,Bool.or_eq_false_iff,Bool.not_eq_true',Bool.not_eq_false',decide_eq_true_eq,decide_eq_false_iff_not] at hc0
  exfalso;omega
 ·simp only [Bool.and_eq_true,Bool.or_eq_true,Bool.and_eq_false_iff,Bool.or_eq_false_iff,Bool.not_eq_true',Bool.not_eq_false',decide_eq_true_eq,decide_eq_false_iff_not] at hc0
  refine AF.skip (q2 (AM O (AH (Ay (c:=((hi:Nat):Int)) O underlying97 underlying40 (BR Z)) O (AH (v:=(vK .u64 (hi*4294967296))) (HE (s:=32) O O O (by decide) (Gi (s:=32) Z)) O (AM O ?_)))))
  refine AH (Ay (c:=((lo:Nat):Int)) O underlying97 underlying40 (BR Z)) O (AH (JI (c:=((hi*4294967296+lo:Nat):Int)) O O (Jr Z Z (by rw [Nat.or_comm,Nat.add_comm];exact Hm (s:=32) Z))) O ?_)
  have hq:(hi*4294967296+lo)/y<4294967296:=Nat.div_lt_of_lt_mul (by have h9:(hi+1)*4294967296<=y*4294967296:=Nat.mul_le_mul_right _ hh;omega)
  have hr:(hi*4294967296+lo)%y<y:=Nat.mod_lt _ Z
  refine asg' O (q6 (sL [0,2,6,7,8] O) (Cd [(0,true),(1,true),(2,true),(3,true),(4,true),(5,true),(6,true),(7,true),(8,true),(9,true),(10,true),(11,true)] sr (Bb O (Bb O (Aq O (Ay (c:=((y:Nat):Int)) O underlying97 underlying40 (BR Z)) ?_)))))
  refine Aq O (Dp (c:=(((hi*4294967296+lo)/y:Nat):Int)) O O Z (IA (a:=hi*4294967296+lo) (b:=y) Z)) (Aq O (Ay (c:=(((hi*4294967296+lo)/y:Nat):Int)) O underlying40 underlying97 (CQ Z)) (Bb O (Bb O (Aq O (Ay (c:=((y:Nat):Int)) O underlying97 underlying40 (BR Z)) (Aq O (Bs (c:=(((hi*4294967296+lo)%y:Nat):Int)) O O Z (Gh (a:=hi*4294967296+lo) (b:=y))) ?_)))))
  refine Aq O (Ay (c:=(((hi*4294967296+lo)%y:Nat):Int)) O underlying40 underlying97 (CQ Z)) (pS' O (pS' O (OkE.nil (AC.subF (sL [0,2,6,7] O) (AC.then_ ?_)))))
  exact AF.ret (Cp O (AY (v:=(vK .u32 ((hi*4294967296+lo)/y))) O) (AY (v:=(vK .u32 ((hi*4294967296+lo)%y))) O) (λw hw=>⟨rfl,hw.out⟩))
theorem WA (x:Nat) (hx:x<4294967296) (w:World)  :Calls prog 231 #[(vK .u32 x)] w (An w (vN (bl x))):=by
 refine Af (args:=[(vK .u32 x)]) func231 O O (AT O) (AF.subF (sL [0] O) (q4 (asg' O (AE.nil (q1 ?_)))))
 refine q4 (AM O (AH (CU (c:=(decide (65536<=x))) O O (WG (a:=65536) (b:=x))) O (AE.nil (AC.subF (sL [0,2,4] O) (AC.then_ ?_)))))
 refine AF.jn2 (tg λ(u:Nat) (n:Nat)=>u<65536/\n<=16/\bl x=bl u+n) (tg λ(u:Nat) (n:Nat)=>[(0,(vK .u32 u)),(2,(vN n))]) (tg λ(u:Nat) (n:Nat)=>[]) ?_ ?_
 ·skip
  refine AF.cond O (λhc0=>?_) (λhc0=>?_)
  ·replace hc0:=of_decide_eq_true hc0
   refine q4 (AM O (AH (C0 (s:=16) (c:=((x/65536:Nat):Int)) O O O (by decide) (GA (a:=x) (s:=16))) O (asg' O (AE.nil (AC.subF (sL [0,2] O) ?_)))))
   exact AC.then_ (AF.region (asg' O (AE.nil (AC.join2 (x/65536) 16 (⟨Z,Z,PL (k:=16) hc0⟩) (sF O) sr))))
  ·replace hc0:=of_decide_eq_false hc0
   exact AF.skip (AC.join2 x 0 (⟨Z,Z,rfl⟩) (sF O) sr)
 ·intro u n hJ
  obtain ⟨hu,hn,hv⟩:=hJ
  refine q1 (q4 (AM O (AH (CU (c:=(decide (256<=u))) O O (WG (a:=256) (b:=u))) O (AE.nil (AC.subF (sL [0,2,8] O) ?_)))))
  refine AC.then_ ?_
  refine AF.jn2 (tg λ(u2:Nat) (n2:Nat)=>u2<256/\n2<=24/\bl x=bl u2+n2) (tg λ(u2:Nat) (n2:Nat)=>[(0,(vK .u32 u2)),(2,(vN n2))]) (tg λ(u2:Nat) (n2:Nat)=>[]) ?_ ?_
  ·skip
   refine AF.cond O (λhc1=>?_) (λhc1=>?_)
   ·replace hc1:=of_decide_eq_true hc1
    refine q4 (AM O (AH (C0 (s:=8) (c:=((u/256:Nat):Int)) O O O (by decide) (GA (a:=u) (s:=8))) O (asg' O (AE.nil (AC.subF (sL [0,2] O) ?_)))))
    refine AC.then_ (AF.region (AM O (AH (AW (c:=((n+8:Nat):Int)) O O (AU (a:=n) (b:=8) Z)) O (asg' O (AE.nil ?_)))))
    exact AC.subF (sL [0,2] O) (AC.join2 (u/256) (n+8) (⟨Z,Z,by rw [hv,Z0 hc1];omega⟩) (sF O) sr)
   ·replace hc1:=of_decide_eq_false hc1
    exact AF.skip (AC.join2 u n (⟨Z,Z,hv⟩) (sF O) sr)
  ·intro u2 n2 hJ
   obtain ⟨hu2,hn2,hv2⟩:=hJ
   refine q2 (AM O (AM O (AH (Ay (c:=((u2:Nat):Int)) O underlying97 underlying5 (OU Z)) O ?_)))
   have hb8:bl u2<=8:=Vk (k:=8) hu2
   refine AH (v:=(vK .u8 (bl u2))) (IE (j:=u2) (m:=bl u2) O O underlying9 (ZS (by kernel_rfl) hu2) Z) O (AH (Ay (c:=((bl u2:Nat):Int)) O underlying5 underlying3 (B4 Z)) O (AH (AW (c:=((bl x:Nat):Int)) O O (by rw [hv2,Int.add_comm,<-Int.natCast_add];exact B4 Z)) O (asg' O (AE.nil (AC.subF (sL [0,2] O) ?_)))))
   exact AC.then_ (AF.ret (AI O (AY (v:=(vN (bl x))) O) (λw hw=>⟨rfl,hw.out⟩)))
theorem Xj (x:Nat) (hx:x<4294967296) (w:World)  :Calls prog 219 #[(vK .u32 x)] w (An w (vN (32-bl x))):=by
 have hb:=Vk (k:=32) hx
 refine Af (args:=[(vK .u32 x)]) func219 O O (AT O) (AF.subF (sL [0] O) (q4 (asg' O (AE.nil (q2 ?_)))))
 refine AM O (ck' call231 (WA _ Z) O (AH (BW (c:=((32-(bl x):Nat):Int)) O O (CM (a:=32) (b:=bl x) Z Z)) O (asg' O (AE.nil (AC.subF (sL [2] O) ?_)))))
 exact AC.then_ (AF.ret (AI O (AY (v:=(vN (32-(bl x)))) O) (λw hw=>⟨rfl,hw.out⟩)))
theorem Yb (z:Int) (hz:-9223372036854775808<=z) (hz2:z<9223372036854775808) (w:World)  :Calls prog 265 #[(vI z)] w (An w (vI z.sign)):=by
 refine Af (args:=[(vI z)]) func265 O O (AT O) (AF.subF (sL [0] O) (q4 (asg' O (AE.nil (q2 ?_)))))
 refine AM O (AH (Gq (c:=(if z<1 then z else 1)) O O O) O (AH (Fe (c:=z.sign) O O (Tr z)) O (asg' O (AE.nil (AC.subF (sL [2] O) ?_)))))
 exact AC.then_ (AF.ret (AI O (AY (v:=(vI z.sign)) O) (λw hw=>⟨rfl,hw.out⟩)))
end
section
section
variable {P:Program} {n:Nat} {F:List (Nat×Value)} {w0:BJ} {L:List As} {x y:Operand} {d:Option Tmp} {t:TypeId} {p:String} {af:Array Edge} {g:Option (Nat×Bool)}
def GU (P:Program) (D:Nat) (T:TypeId) (u v:Value) (b:Bool):Prop:=∀w,(Op.equalIn D T u v).run P w=.ok b w
def IZ (P:Program) (D:Nat) (xs ys:List Value) (fs:List Field) (b:Bool):Prop:=∀w,(Op.eqFields D xs.toArray ys.toArray fs).run P w=.ok b w
theorem GU.int {D:Nat} {T:TypeId} {k k':IntKind} {a b:Int} (h:P.underlying T=some (.int k')):GU P (D+1) T (.int k a) (.int k b) (a == b):=λw=>run_equalIn_int w D T k k' a b h
theorem GU.bool {D:Nat} {T:TypeId} {a b:Bool} (h:P.underlying T=some .bool):GU P (D+1) T (.bool a) (.bool b) (a == b):=λw=>run_equalIn_bool' w D T a b h
theorem GU.str {D:Nat} {T:TypeId} {a b:ByteArray} (h:P.underlying T=some .string):GU P (D+1) T (.string a) (.string b) (a.toList == b.toList):=λw=>run_equalIn_string w D T a b h
theorem GU.struct {D:Nat} {T:TypeId} {xs ys:List Value} {b:Bool} {fs:Array Field} (hu:P.underlying T=some (.struct fs)) (hp:P.stoodInHeld T=false) (h:IZ P D xs ys fs.toList b):GU P (D+1) T (.agg xs.toArray) (.agg ys.toArray) b:=λw=>by
  have e:P.fieldsOf T=fs:=by simp [Program.fieldsOf,hu]
  rw [run_equalIn_struct w D T _ _ (by rw [e];exact hu) hp,e];exact h w
theorem IZ.nil {D:Nat} {xs ys:List Value}:IZ P D xs ys [] true:=λw=>rfl
theorem IZ.one {D : Nat} {xs ys : List Value} {f : Field} {fs : List Field} {a b : Value} {r s : Bool} (hn : f.name ≠ "_") (hg : ∀ w, (isAgg f.type).run P w = .ok false w) (ha : xs[f.offset]? = some a) (hb : ys[f.offset]? = some b)
    (h:GU P D f.type a b r) (h2:IZ P D xs ys fs s):IZ P D xs ys (f::fs) (r&&s):=λw=>by
  have e1:(part f.type xs.toArray f.offset).run P w=.ok a w:=by simp [part,hg,ha]
  have e2:(part f.type ys.toArray f.offset).run P w=.ok b w:=by simp [part,hg,hb]
  simp only [Op.eqFields,Sem.run_ite,if_pos hn,Sem.run_bind,e1,e2,Result.andThen_ok,h w]
  cases r
  · simp
  · simp [h2 w]
theorem IZ.agg {D k : Nat} {xs ys us bs : List Value} {f : Field} {fs : List Field} {r s : Bool} (hn : f.name ≠ "_") (hg : ∀ w, (isAgg f.type).run P w = .ok true w) (hs : ∀ w, (sizeOf f.type).run P w = .ok k w)
    (ha:(xs.drop f.offset).take k=us) (hb:(ys.drop f.offset).take k=bs)
    (h:GU P D f.type (.agg us.toArray) (.agg bs.toArray) r) (h2:IZ P D xs ys fs s):IZ P D xs ys (f::fs) (r&&s):=λw=>by
  have ex:∀l:List Value,l.toArray.extract f.offset (f.offset+k)=((l.drop f.offset).take k).toArray:=λl=>by simp [List.extract_eq_take_drop]
  have e1:(part f.type xs.toArray f.offset).run P w=.ok (.agg us.toArray) w:=by simp [part,hg,hs,ex,ha]
  have e2:(part f.type ys.toArray f.offset).run P w=.ok (.agg bs.toArray) w:=by simp [part,hg,hs,ex,hb]
  simp only [Op.eqFields,Sem.run_ite,if_pos hn,Sem.run_bind,e1,e2,Result.andThen_ok,h w]
  cases r
  · simp
  · simp [h2 w]
theorem CJ {xs ys:List Value} {c:Bool} {tx ty:TypeId} (hx:evF F x=some (.agg xs.toArray)) (hy:evF F y=some (.agg ys.toArray)) (hg:P.eqGuardType P.depth tx=false) (hc:GU P 10000 tx (.agg xs.toArray) (.agg ys.toArray) c) :
    Ex P n F w0 L ⟨d,.binOp .eql tx x y ty,t,p,af,g⟩ (.bool c):=λA w ha _=>by
  simp only [execOp,ha.ev hx,ha.ev hy,Sem.run_bind,run_eqGuard_agg w .eql tx x y _ _ hg,Result.andThen_ok,run_eql_struct,hc w,Sem.run_pure]
end
theorem Vc {a b:Nat} (ha:¬a<18446744073709551616) (hb:¬b<18446744073709551616) (h:Bm a=Bm b):a=b:=by
  rw [E9 ha,E9 hb] at h
  have h1:bytesN (AR a)=bytesN (AR b):=by
    have lt:∀(xs:List Nat),∀x∈bytesN xs,x<256:=λxs x hx=>by
      simp only [bytesN,List.mem_flatMap,List.mem_cons,List.not_mem_nil,or_false] at hx
      obtain ⟨y,_,hy⟩:=hx
      omega
    have inj:∀(l r:List Nat),(∀x∈l,x<256)->(∀x∈r,x<256)->l.map UInt8.ofNat=r.map UInt8.ofNat->l=r:=by
      intro l
      induction l with
      | nil=>intro r _ _ h;cases r<;>simp_all
      | cons x l ih =>
        intro r hl hr h
        cases r with
        | nil=>simp at h
        | cons y r =>
          simp only [List.map_cons,List.cons.injEq] at h
          have e:x=y:=by
            have h3:=congrArg UInt8.toNat h.1
            have h4:=hl x (by simp)
            have h5:=hr y (by simp)
            simp at h3
            omega
          rw [e,ih r (λz hz=>hl z (by simp [hz])) (λz hz=>hr z (by simp [hz])) h.2]
    refine inj _ _ (lt _) (lt _) ?_
    have:=congrArg (λs:ByteArray=>s.data.toList) h
    simpa [DO] using this
  have h2:AR a=AR b:=by
    have hl:(AR a).length=(AR b).length:=by
      have:=congrArg List.length h1
      simp only [CB] at this
      omega
    apply List.ext_getElem hl
    intro i hi hi'
    have g:∀k,k<4->(AR a).getD i 0/256^k%256=(AR b).getD i 0/256^k%256:=λk hk=>by rw [<-GT _ _ _ hi hk,<-GT _ _ _ hi' hk,h1]
    have wa:=(Bu a).getD i
    have wb:=(Bu b).getD i
    have ea:(AR a).getD i 0=(AR a)[i]:=by simp [hi]
    have eb:(AR b).getD i 0=(AR b)[i]:=by simp [hi']
    rw [ea,eb] at g
    rw [ea] at wa
    rw [eb] at wb
    have g0:=g 0 Z
    have g1:=g 1 Z
    have g2:=g 2 Z
    have g3:=g 3 Z
    simp only [Nat.pow_zero,Nat.div_one,Nat.pow_one,show (256:Nat)^2=65536 from rfl,show (256:Nat)^3=16777216 from rfl] at g0 g1 g2 g3
    omega
  rw [<-Cf a,<-Cf b,h2]
theorem YT (a b:Nat):((((B8 a:Nat):Int) == ((B8 b:Nat):Int))&&(((Bm a).toList == (Bm b).toList)&&true))=decide (a=b):=by
  by_cases e:a=b
  · subst e;simp
  · rw [decide_eq_false e]
    by_cases ha:a<18446744073709551616
    · by_cases hb:b<18446744073709551616
      · rw [Bh ha,Bh hb]
        have:((a:Int) == (b:Int))=false:=by simp;omega
        rw [this];rfl
      · have h1:=Pq hb
        rw [Hc ha,<-beq_toListBytes]
        have:(ByteArray.empty == Bm b)=false:=by
          rw [beq_toListBytes,ByteArray.toList_eq,ByteArray.toList_eq,E9 hb]
          cases hl:(DO (bytesN (AR b))).data.toList with
          | nil =>
            have h3:=congrArg List.length hl
            simp [DO,CB] at h3
            unfold nw at h1
            omega
          | cons=>rfl
        rw [this];simp
    · by_cases hb:b<18446744073709551616
      · have h1:=Pq ha
        rw [Hc hb,<-beq_toListBytes]
        have:(Bm a == ByteArray.empty)=false:=by
          rw [beq_toListBytes,ByteArray.toList_eq,ByteArray.toList_eq,E9 ha]
          cases hl:(DO (bytesN (AR a))).data.toList with
          | nil =>
            have h3:=congrArg List.length hl
            simp [DO,CB] at h3
            unfold nw at h1
            omega
          | cons=>rfl
        rw [this];simp
      · rw [<-beq_toListBytes]
        have:(Bm a == Bm b)=false:=by
          cases hbb:Bm a == Bm b with
          | false=>rfl
          | true =>
            rw [beq_toListBytes] at hbb
            have h2:(Bm a).toList=(Bm b).toList:=by simpa using hbb
            rw [ByteArray.toList_eq,ByteArray.toList_eq] at h2
            have h3:Bm a=Bm b:=by
              cases hA:Bm a with|mk da=>cases hB:Bm b with|mk db =>
                rw [hA,hB] at h2
                congr 1
                exact Array.toList_inj.1 h2
            exact absurd (Vc ha hb h3) e
        rw [this];simp
theorem HN (D a b:Nat):GU prog (D+2) 42 (.agg (Ab a).toArray) (.agg (Ab b).toArray) (decide (a=b)):=by
  rw [<-YT]
  exact GU.struct underlying42 Tryz.stoodInHeld42 (IZ.one (by decide) isAgg40 O O (GU.int underlying40) (IZ.one (by decide) isAgg9 O O (GU.str underlying9) IZ.nil))
end
section
set_option maxRecDepth 100000
theorem J9 (n:Nat) (hn:n<18446744073709551616) (w:World)  :Calls prog 104 #[(vK .u64 n)] w (An w (aG (Ab n))):=by
 refine Af (args:=[(vK .u64 n)]) func104 O O (AT O) (AF.subF (sL [0] O) (q4 (al F5 O λb1=>AE.nil (q2 ?_))))
 refine AM O (AH (v:=(aG ([(vK .u64 n),(Value.string (Bm 0))]))) (AV (zs:=Ab 0) (vs:=[(vK .u64 n),(Value.string (Bm 0))]) (pv:=[(0,(vK .u64 n))]) (places:=[(0,1),(1,1)]) zeroValue42 underlying42 (λw=>by simp [sizeOf9,sizeOf40]) O O) O (AE.retell (k:=4) (u:=(aG (Ab n))) O (by rw [Do hn];rfl) (A8 O sizeOf42 O (AE.nil (AC.subF (sL [2] O) ?_)))))
 exact AC.then_ (AF.ret (AI O (Ap (i:=0) (cs:=Ab n) O O isAgg42 sizeOf42 O) (λw hw=>⟨rfl,hw.out⟩)))
theorem Ls  :Instr.fill ([(0,1),(1,1)].toArray[·]?) (Ab 0).toArray []=some (Ab 0).toArray:=by kernel_rfl
theorem Q4 (a:Nat) (w:World)  :Calls prog 167 #[(aG (Ab a))] w (An w (Value.bool (decide (a=0)))):=by
 refine Af (args:=[(aG (Ab a))]) func167 O O (AT O) (AF.subF (sL [0] O) (q4 (BU (cs:=Ab a) O λb1=>asg' O (q3 (sL [1,2] O) ?_))))
 refine BD 0 B7 O (AH (v:=(aG (Ab 0))) (AV (zs:=Ab 0) (vs:=Ab 0) (pv:=[]) (places:=[(0,1),(1,1)]) zeroValue42 underlying42 (λw=>by simp [sizeOf9,sizeOf40]) O (Ls )) O (AH (CJ (c:=(decide (a=0))) O O eqGuardType42 (HN 9998 a 0)) O (asg' O (AE.nil (AC.subF (sL [2] O) ?_)))))
 exact AC.then_ (AF.ret (AI O (AY (v:=(Value.bool (decide (a=0)))) O) (λw hw=>⟨rfl,hw.out⟩)))
theorem DQ (v:Nat) (hv:nw v<=1099511627776) (w:World)  :Calls prog 111 #[(aG (Ab v))] w (λe w'=>∃b,e=.returned (.slice (some ⟨b,0,none⟩) (nw v) (BC v).length)/\Gj w.heap.size w w'/\w.heap.size<=b/\w'.heap[b]?=some (.cells (Au (BC v)).toArray 97 (0,0))):=by
 refine Af (args:=[(aG (Ab v))]) func111 O O (AT O) (AF.subF (sL [0] O) (q4 (BU (cs:=Ab v) O λb1=>asg' O (q6 (sL [1,2] O) ?_))))
 refine q4 (AH (v:=(pP b1 1)) (AA O underlying42 O sizeOf9 O) O (BA 0 (Value.string (Bm v)) TQ O (AH (Bf (c:=(decide (v<18446744073709551616))) O O CY) O (AE.nil (AC.subF (sL [1,2,8] O) ?_)))))
 refine AC.then_ ?_
 refine AF.cond O (λhc0=>?_) (λhc0=>?_)
 ·replace hc0:=of_decide_eq_true hc0
  refine q4 (AH (v:=(pP b1 0)) (AA O underlying42 O sizeOf40 O) O (BA 0 (vK .u64 (B8 v)) Gd O (AE.retell (k:=10) (u:=(vK .u64 v)) O (by rw [Bh hc0]) (AH (Ay (c:=((v%4294967296:Nat):Int)) O underlying40 underlying97 Ea) O (AH (v:=(pP b1 0)) (AA O underlying42 O sizeOf40 O) O ?_)))))
  refine BA 0 (vK .u64 (B8 v)) Gd O (AE.retell (k:=13) (u:=(vK .u64 v)) O (by rw [Bh hc0]) (AH (C0 (s:=32) (c:=((v/4294967296:Nat):Int)) O O O (by decide) (GA (a:=v) (s:=32))) O (AH (Ay (c:=((v/4294967296:Nat):Int)) O underlying40 underlying97 (CQ Z)) O (AE.openV (V:=λb2=>(Value.slice (some ⟨b2,0,none⟩) 2 2)) (T:=97) (cs:=Au ([v%4294967296,v/4294967296])) (AS O) (Av (cs:=Au ([v%4294967296,v/4294967296])) (pv:=[(0,(vK .u32 (v%4294967296))),(1,(vK .u32 (v/4294967296)))]) underlying184 sizeOf97 zeroValue97 (by decide) (by decide) O (by kernel_rfl)) O (AT O) λb2=>Cj call161 (λw hw=>Vg _ 2 2 ([v%4294967296,v/4294967296]) (W32.cons Z (W32.cons Z (W32.nil))) (by simp) (by simp) (by simp;try omega) w (hw.get (i:=0) O)) O ?_))))
  refine asg' O (AE.nil (AC.subF (sL [1,2] O) (AC.then_ (AF.ret (AC.then_ret ?_)))))
  have hpad:BC v=[v%4294967296,v/4294967296]:=by simp [BC,hc0]
  have hnw:nw v=Dz [v%4294967296,v/4294967296] 2:=by rw [<-QT (YY hc0) (m:=2) (by simp),<-R_ v,hpad];simp [val];congr 1;omega
  have hret:∀b:Nat,(Ending.returned (Value.slice (some ⟨b,0,none⟩) (Dz ([v%4294967296,v/4294967296]) 2) 2))=.returned (Value.slice (some ⟨b,0,none⟩) (nw v) (BC v).length):=λb=>by rw [hnw,hpad];rfl
  replace hret:=hret b2
  have hcells:(some (Obj.cells (Au ([v%4294967296,v/4294967296])).toArray 97 (0,0)))=some (Obj.cells (Au (BC v)).toArray 97 (0,0)):=by rw [hpad]
  exact AI O (AY (v:=(Value.slice (some ⟨b2,0,none⟩) (Dz ([v%4294967296,v/4294967296]) 2) 2)) O) (λw hw=>⟨b2,hret,hw.out,hw.fresh (i:=0) O,(hw.get (i:=0) O).trans hcells⟩)
 ·replace hc0:=of_decide_eq_false hc0
  refine AF.skip (q2 (AH (v:=(pP b1 1)) (AA O underlying42 O sizeOf9 O) O (BA 0 (Value.string (Bm v)) TQ O (AH (v:=(vN ((Bm v).size))) (Ly O underlying9) O (AE.retell (k:=20) (u:=(vN (4*nw v))) O (by rw [E9 hc0,KJ,CB];rfl) ?_)))))
  refine AH (Dp (c:=(((4*nw v)/4:Nat):Int)) O O Z (Ec (a:=4*nw v) (b:=4) Z)) O (AE.retell (k:=21) (u:=(vN (nw v))) O (by rw [Nat.mul_div_cancel_left _ Z]) (AE.openV (V:=λb2=>(Value.slice (some ⟨b2,0,none⟩) (nw v) (nw v))) (T:=97) (cs:=Au (List.replicate (nw v) 0)) (AS O) (DT (m:=nw v) (c:=nw v) O O Z Z) O (AT O) λb2=>asg' O (q6 (sL [1,2,3] O) (q4 ?_))))
  refine AM O (AH (v:=(vN (nw v))) (AG O underlying184) O (AM O (AE.nil (AC.subF (sL [1,2,3,24,25] O) (AC.then_ ?_)))))
  refine AF.block ?_
  refine AF.lp2 (tg λ(i:Nat) (os:List Nat)=>i<=nw v/\os.length=nw v/\os.take i=(AR v).take i/\∀j,i<=j->os.getD j 0=0) (tg λ(i:Nat) (os:List Nat)=>[(1,(pP b1 0)),(2,(Value.slice none 0 0)),(3,(Value.slice (some ⟨b2,0,none⟩) (nw v) (nw v))),(24,(vN (nw v))),(25,(vN i))]) (tg λ(i:Nat) (os:List Nat)=>[Ag b2 97 (Au os),Ag b1 42 (Ab v)]) (tg λ(i:Nat) (os:List Nat)=>nw v-i) 0 (List.replicate (nw v) 0) (⟨Nat.zero_le _,by simp,by simp,λj _=>by simp [List.getD_eq_getElem?_getD,List.getElem?_replicate];split<;>rfl⟩) (sF O) sr (λi os hJ=>?_)
  obtain ⟨hin,hl,ht,h0⟩:=hJ
  refine q4 (AH (Ae (c:=(decide (i<(nw v)))) O O (CL (a:=i) (b:=nw v))) O (AE.nil (q1 ?_)))
  refine AF.cond O (λhc1=>?_) (λhc1=>?_)
  ·replace hc1:=of_decide_eq_true hc1
   refine AF.skip (q1 (AF.block (q4 (AM O (asg' O ?_)))))
   refine q3 (sL [1,2,3,24,25,4] O) (AM O (AE.nil (AC.then_ (AF.block ?_))))
   refine AF.lp2 (tg λ(k:Nat) (xs:List Nat)=>k<=4/\xs=os.set i ((AR v).getD i 0%256^k)) (tg λ(k:Nat) (xs:List Nat)=>[(1,(pP b1 0)),(2,(Value.slice none 0 0)),(3,(Value.slice (some ⟨b2,0,none⟩) (nw v) (nw v))),(24,(vN (nw v))),(25,(vN i)),(4,(vN i)),(28,(vN k))]) (tg λ(k:Nat) (xs:List Nat)=>[Ag b2 97 (Au xs),Ag b1 42 (Ab v)]) (tg λ(k:Nat) (xs:List Nat)=>4-k) 0 os (⟨Z,by rw [Nat.pow_zero,Nat.mod_one];exact Ug (h0 i (Nat.le_refl _))⟩) (sF O) sr (λk xs hJ=>?_)
   obtain ⟨hk,hxs⟩:=hJ
   refine q4 (AH (Ae (c:=(decide (k<4))) O O (CL (a:=k) (b:=4))) O (AE.nil (q1 ?_)))
   refine AF.cond O (λhc2=>?_) (λhc2=>?_)
   ·replace hc2:=of_decide_eq_true hc2
    refine AF.skip (q1 (AF.block (q4 (AM O (asg' O ?_)))))
    refine AE.nil (AC.subF (sL [1,2,3,24,25,4,28,5] O) (AC.then_ (Cd [(0,true),(1,true),(2,true),(4,true),(5,true),(6,true),(7,true),(8,true),(9,true),(10,true),(11,true),(12,true),(13,true),(14,true),(3,false),(15,true),(16,true),(17,false)] (sl sr) ?_)))
    have hi:i<nw v:=hc1
    have hxi:xs.getD i 0=(AR v).getD i 0%256^k:=by rw [hxs];simp [hl,hi]
    have hxl:xs.length=nw v:=by rw [hxs];simp [hl]
    have hby:(AR v).getD i 0/256^k%256<256:=Nat.mod_lt _ Z
    have hget:(Bm v)[4*i+k]?=some (UInt8.ofNat ((AR v).getD i 0/256^k%256)):=by rw [E9 hc0,Sh (by rw [CB];show 4*i+k<4*nw v;omega),GT _ _ _ hi hc2]
    have hw32:xs.getD i 0<4294967296:=by rw [hxi];exact Nat.lt_of_le_of_lt (Nat.mod_le _ _) ((Bu v).getD i)
    refine Bb O (Bb O (Aq (v:=(pP b2 i)) O (AL (j:=i) O O underlying184 sizeOf97 O Z (by simp)) (Aq (v:=(pP b1 1)) O (AA O underlying42 O sizeOf9 O) (Bd 0 (Value.string (Bm v)) TQ O (Bb O ?_)))))
    refine Aq O (Br (c:=((4*i:Nat):Int)) O O (Cv (a:=4) (b:=i) Z)) (Bb O (Aq O (AW (c:=(((4*i)+k:Nat):Int)) O O (AU (a:=4*i) (b:=k) Z)) (Aq (v:=(vK .u8 ((AR v).getD i 0/256^k%256))) O (IE (j:=4*i+k) (m:=(AR v).getD i 0/256^k%256) O O underlying9 hget hby) (Aq O (Ay (c:=(((AR v).getD i 0/256^k%256:Nat):Int)) O underlying5 underlying97 (CQ Z)) (Bb O ?_)))))
    refine Aq O (Br (c:=((8*k:Nat):Int)) O O (Cv (a:=8) (b:=k) Z)) (Aq (v:=(vK .u32 ((AR v).getD i 0/256^k%256*2^(8*k)))) O (HE (s:=8*k) O O O (show 8*k<=32 by omega) (Tt (RA hc2))) (OkE.imp O (AH (AK (i:=0) (v:=(vK .u32 (xs.getD i 0))) O O isAgg97 (BK (xs:=xs) (j:=i) Z)) O (OkE.back (sl sr) (Aq O (JI (c:=(((AR v).getD i 0%256^(k+1):Nat):Int)) O O (J5 hw32 (RA hc2) (Sm hxi))) ?_)))))
    refine Aq (v:=(pP b2 i)) O (AL (j:=i) O O underlying184 sizeOf97 O Z (by simp)) (OkE.imp O (AE.store' (i:=0) (off:=i) (vs:=[(vK .u32 ((AR v).getD i 0%256^(k+1)))]) (cs':=Au (xs.set i ((AR v).getD i 0%256^(k+1)))) (L':=[Ag b2 97 (Au (xs.set i ((AR v).getD i 0%256^(k+1)))),Ag b1 42 (Ab v)]) (AS O) O O O O O sizeOf97 O (Cq (BS _) Z) (CN Z) O (OkE.back (sl sr) (OkE.nil (AC.subF (sL [1,2,3,24,25,4,28] O) ?_)))))
    refine AC.in_normal (AC.then_ (AF.region (AH (AW (c:=((k+1:Nat):Int)) O O (AU (a:=k) (b:=1) Z)) O (AM O (AE.nil ?_)))))
    exact AC.subF (sL [1,2,3,24,25,4,28] O) (AC.round2 (k+1) (xs.set i ((AR v).getD i 0%256^(k+1))) (⟨Z,by rw [hxs,List.set_set]⟩) Z (sF O) sr)
   ·replace hc2:=of_decide_eq_false hc2
    refine AF.exit (AC.then_exit (AC.round2_exit (AC.in_exit (AC.in_normal (AC.then_ ?_)))))
    refine AF.region (AH (AW (c:=((i+1:Nat):Int)) O O (AU (a:=i) (b:=1) Z)) O (AM O (AE.nil (AC.subF (sL [1,2,3,24,25,4,28] O) ?_))))
    have hst:=P_ (ws:=AR v) (xs:=xs) hl rfl hc1 ht h0 (by rw [hxs,show k=4 by omega];congr 1;exact Nat.mod_eq_of_lt ((Bu v).getD i))
    exact AC.round2 (i+1) xs (⟨Z,hst.1,hst.2.1,hst.2.2⟩) Z (sF O) sr
  ·replace hc1:=of_decide_eq_false hc1
   refine AF.exit (AC.then_exit (AC.round2_exit (AC.in_exit (q2 (AM O ?_)))))
   refine asg' O (AE.nil (AC.subF (sL [1,2,3,24,25] O) (AC.then_ (AF.ret ?_))))
   have hpad:BC v=AR v:=by simp [BC,hc0]
   have hos:os=AR v:=VE hl rfl hc1 ht
   have hret:∀b:Nat,(Ending.returned (Value.slice (some ⟨b,0,none⟩) (nw v) (nw v)))=.returned (Value.slice (some ⟨b,0,none⟩) (nw v) (BC v).length):=λb=>by rw [hpad];rfl
   replace hret:=hret b2
   have hcells:(some (Obj.cells (Au os).toArray 97 (0,0)))=some (Obj.cells (Au (BC v)).toArray 97 (0,0)):=by rw [hpad,hos]
   exact AI O (AY (v:=(Value.slice (some ⟨b2,0,none⟩) (nw v) (nw v))) O) (λw hw=>⟨b2,hret,hw.out,hw.fresh (i:=0) O,(hw.get (i:=0) O).trans hcells⟩)
end
end Go.Proofs.YtpgncndhhhllfaaGreatDoor
