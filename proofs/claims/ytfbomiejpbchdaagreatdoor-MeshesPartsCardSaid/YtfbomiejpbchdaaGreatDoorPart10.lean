import Derived.Laws.StructEq
import Derived.Test.YtfbomiejpbchdaaGreatDoorPart06
import Derived.Test.YtfbomiejpbchdaaGreatDoorPart09
namespace Go.Proofs.YtfbomiejpbchdaaGreatDoor
open Go Go.RowKit Go.Proofs.Tryz
set_option linter.unusedVariables false
set_option linter.unusedSimpArgs false
section
set_option maxRecDepth 100000
theorem QH (b m c:Nat) (bs:List Nat) (hbs:W32 bs) (hm:m<=bs.length) (hc:m<=c) (hL:c<4611686018427387904) (w:World) (hb:w.heap[b]?=some (.cells (Aj bs).toArray 83 (0,0))):Calls prog 145 #[(Value.slice (some ⟨b,0,none⟩) m c)] w (Al w (Value.slice (some ⟨b,0,none⟩) (DY bs m) c)):=by
 refine Ac (args:=[(Value.slice (some ⟨b,0,none⟩) m c)]) func145 O O (Ad O) (AF.subF (sL [0] O) (q4 (AK O (AE.nil (q1 ?_)))))
 refine AF.block ?_
 refine AF.lp1 (tg λ(k:Nat)=>k<=m/\DY bs k=DY bs m) (tg λ(k:Nat)=>[(2,(Value.slice none 0 0)),(0,(Value.slice (some ⟨b,0,none⟩) k c))]) (tg λ(k:Nat)=>[]) (tg λ(k:Nat)=>k) m (⟨Nat.le_refl _,rfl⟩) (sF O) sr (λk hJ=>?_)
 obtain ⟨hk,hv⟩:=hJ
 refine AF.seq (q4 (AO O (AH (v:=(vN k)) (AG O underlying187) O (AH (CW (c:=(decide (0<k))) O O (C1 (a:=0) (b:=k))) O (AO O ?_)))))
 refine AE.mid (FM:=[(2,(Value.slice none 0 0)),(0,(Value.slice (some ⟨b,0,none⟩) k c)),(3,(Value.slice (some ⟨b,0,none⟩) k c)),(4,(vN k)),(5,(Value.bool (decide (0<k)))),(6,(Value.bool (decide (0<k)))),(14,(Value.bool ((decide (0<k))&&(decide ((bs.getD (k-1) 0)=0)))))]) (LM:=[]) 8 ?_ ?_
 ·rcases Bool.eq_false_or_eq_true (decide (0<k)) with hg1|hg1
  ·skip
   refine AE.retell (k:=6) (u:=Value.bool true) O (by rw [hg1]) ?_
   have hg1':=hg1
   replace hg1':=of_decide_eq_true hg1'
   refine AE.step (v:=(Value.slice (some ⟨b,0,none⟩) k c)) (AB O) (BB O) O (Ad O) (AE.step (v:=(Value.slice (some ⟨b,0,none⟩) k c)) (AB O) (BB O) O (Ad O) (AE.step (v:=(vN k)) (AB O) (AG O underlying187) O (Ad O) (AE.step (v:=(vN (k-1))) (AB O) (Bo (c:=((k-1:Nat):Int)) O O (CJ (a:=k) (b:=1) Z Z)) O (Ad O) (AE.step (v:=(pP b (k-1))) (AB O) (AI (j:=k-1) O O underlying187 sizeOf83 O Z (by simp)) O (Ad O) ?_))))
   have hx1:bs.getD (k-1) 0<4294967296:=W32.getD hbs (k-1)
   exact AE.step (v:=(vK .u32 (bs.getD (k-1) 0))) (AB O) (BY (v:=(vK .u32 (bs.getD (k-1) 0))) O (λw' hw=>CA.at0 (hw.oldCA (by simp) (EJ hb)) (BG (xs:=bs) (j:=(k-1)) Z)) isAgg83) O (Ad O) (AE.step (v:=(Value.bool (decide ((bs.getD (k-1) 0)=0)))) (AB O) (BQ (c:=(decide ((bs.getD (k-1) 0)=0))) O O (L9 (a:=bs.getD (k-1) 0) (b:=0))) O (Ad O) (AH (v:=(Value.bool (decide ((bs.getD (k-1) 0)=0)))) (Ai O O) O (AE.nil (AC.mid (sS O (sS O (sS O (sS O (sS O (sS (by first|rfl|(rw [hg1];rfl)|rw [hg1]) (sS (by first|rfl|(rw [hg1];rfl)|rw [hg1]) (sN)))))))) (List.Sublist.refl _)))))
  ·skip
   refine AE.retell (k:=6) (u:=Value.bool false) O (by rw [hg1]) ?_
   have hg1':=hg1
   replace hg1':=of_decide_eq_false hg1'
   refine AE.skip (AQ O) O (Ad O) (AE.skip (AQ O) O (Ad O) (AE.skip (AQ O) O (Ad O) (AE.skip (AQ O) O (Ad O) (AE.skip (AQ O) O (Ad O) (AE.skip (AQ O) O (Ad O) ?_)))))
   exact AE.skip (AQ O) O (Ad O) (AH (v:=(Value.bool false)) (AY O O) O (AE.nil (AC.mid (sS O (sS O (sS O (sS O (sS O (sS (by first|rfl|(rw [hg1];rfl)|rw [hg1]) (sS (by first|rfl|(rw [hg1];rfl)|rw [hg1]) (sN)))))))) (List.Sublist.refl _))))
 refine AE.nil (AC.subF (sL [2,0,14] O) (AC.then_ ?_))
 refine AF.cond O (λhc0=>?_) (λhc0=>?_)
 ·simp only [Bool.and_eq_true,Bool.or_eq_true,Bool.and_eq_false_iff,Bool.or_eq_false_iff,Bool.not_eq_true',Bool.not_eq_false',decide_eq_true_eq,decide_eq_false_iff_not] at hc0
  refine AF.skip (AC.then_ (AF.block (AF.region (AO O (AO O ?_)))))
  refine AH (v:=(vN k)) (AG O underlying187) O (AH (Bo (c:=((k-1:Nat):Int)) O O (CJ (a:=k) (b:=1) Z Z)) O (AH (v:=(Value.slice (some ⟨b,0,none⟩) (k-1) c)) (Hm (m:=k-1) O O underlying187 sizeOf83 Z) O (AK O (AE.nil (AC.subF (sL [2,0] O) ?_)))))
  exact AC.in_normal (AC.round1 (k-1) (⟨Z,by rw [<-Nz hc0.1 hc0.2];exact hv⟩) Z (sF O) sr)
 ·simp only [Bool.and_eq_true,Bool.or_eq_true,Bool.and_eq_false_iff,Bool.or_eq_false_iff,Bool.not_eq_true',Bool.not_eq_false',decide_eq_true_eq,decide_eq_false_iff_not] at hc0
  have hstop:DY bs k=k:=Oh Z
  refine AF.exit (AC.then_exit (AC.round1_exit (AC.in_exit (q2 (AO O ?_)))))
  exact AK O (AE.nil (AC.subF (sL [2,0] O) (AC.then_ (AF.ret (AN O (Ab (v:=(Value.slice (some ⟨b,0,none⟩) k c)) O) (λw hw=>⟨by rw [<-hv,hstop],hw.out⟩))))))
theorem I3 (x y c:Nat) (hx:x<4294967296) (hy:y<4294967296) (hc:c<=1) (w:World)  :Calls prog 144 #[(vK .u32 x),(vK .u32 y),(vK .u32 c)] w (Al w (Value.tuple #[(vK .u32 ((x+y+c)%4294967296)),(vK .u32 ((x+y+c)/4294967296))])):=by
 refine Ac (args:=[(vK .u32 x),(vK .u32 y),(vK .u32 c)]) func144 O O (Ad O) (AF.subF (sL [0,1,2] O) (q4 (AK O (AK O (AE.nil ?_)))))
 refine q2 (AO O (AH (Au (c:=((x:Nat):Int)) O underlying83 underlying53 (BT Z)) O (AO O (AH (Au (c:=((y:Nat):Int)) O underlying83 underlying53 (BT Z)) O (AH (AW (c:=((x+y:Nat):Int)) O O (C7 (a:=x) (b:=y) Z)) O ?_)))))
 refine AO O (AH (Au (c:=((c:Nat):Int)) O underlying83 underlying53 (BT Z)) O (AH (AW (c:=(((x+y)+c:Nat):Int)) O O (C7 (a:=x+y) (b:=c) Z)) O (AK O (q3 (sL [6,7,8] O) (AO O ?_)))))
 refine AH (Au (c:=((((x+y)+c)%4294967296:Nat):Int)) O underlying53 underlying83 Dl) O (AK O (q3 (sL [6,7,8] O) (AO O (AH (CV (s:=32) (c:=((((x+y)+c)/4294967296:Nat):Int)) O O O (by decide) (E9 (a:=(x+y)+c) (s:=32))) O (AH (Au (c:=((((x+y)+c)/4294967296:Nat):Int)) O underlying53 underlying83 (CI Z)) O ?_)))))
 exact AK O (AE.nil (AC.subF (sL [6,7,8] O) (AC.then_ (AF.ret (Ch O (Ab (v:=(vK .u32 (((x+y)+c)%4294967296))) O) (Ab (v:=(vK .u32 (((x+y)+c)/4294967296))) O) (λw hw=>⟨rfl,hw.out⟩))))))
theorem I6 (x y c d:Nat) (hx:x<4294967296) (hy:y<4294967296) (hc:c<=1) (hd:d=(x+(4294967296-y)+(4294967296-c))%4294967296) (w:World)  :Calls prog 142 #[(vK .u32 x),(vK .u32 y),(vK .u32 c)] w (Al w (Value.tuple #[(vK .u32 d),(vK .u32 (HZ x (y+c)))])):=by
 have hd2:d<4294967296:=by omega
 have hb:=Qk hx hy hc hd
 have hx1:4294967295 ^^^ x<4294967296:=Nat.xor_lt_two_pow (n:=32) Z hx
 have hx2:x ^^^ y<4294967296:=Nat.xor_lt_two_pow (n:=32) hx hy
 have hx3:4294967295 ^^^ (x ^^^ y)<4294967296:=Nat.xor_lt_two_pow (n:=32) Z hx2
 have hx4:(4294967295 ^^^ x) &&& y<4294967296:=Nat.lt_of_le_of_lt Nat.and_le_right hy
 have hx5:(4294967295 ^^^ (x ^^^ y)) &&& d<4294967296:=Nat.lt_of_le_of_lt Nat.and_le_right hd2
 refine Ac (args:=[(vK .u32 x),(vK .u32 y),(vK .u32 c)]) func142 O O (Ad O) (AF.subF (sL [0,1,2] O) (q4 (AK O (AK O (AE.nil ?_)))))
 refine q2 (AO O (AO O (AH (Bo (c:=(((x+(4294967296-y))%4294967296:Nat):Int)) O O (L3 Z)) O (AO O (AH (Bo (c:=((d:Nat):Int)) O O (by rw [L3 Z,hd];exact congrArg Int.ofNat Z)) O ?_)))))
 refine AK O (q3 (sL [0,1,6,7] O) (AO O (AH (Qi (c:=((4294967295 ^^^ x:Nat):Int)) O (Lg hx)) O (AO O (AH (IS (c:=(((4294967295 ^^^ x) &&& y:Nat):Int)) O O (LT hx1 hy)) O ?_)))))
 refine AO O (AO O (AH (UQ (c:=((x ^^^ y:Nat):Int)) O O (Lj hx hy)) O (AH (Qi (c:=((4294967295 ^^^ (x ^^^ y):Nat):Int)) O (Lg hx2)) O (AO O (AH (IS (c:=(((4294967295 ^^^ (x ^^^ y)) &&& d:Nat):Int)) O O (LT hx3 hd2)) O ?_)))))
 refine AH (Hk (c:=(((4294967295 ^^^ x) &&& y ||| (4294967295 ^^^ (x ^^^ y)) &&& d:Nat):Int)) O O (IB hx4 hx5 O)) O (AH (CV (s:=31) (c:=((((4294967295 ^^^ x) &&& y ||| (4294967295 ^^^ (x ^^^ y)) &&& d)/2147483648:Nat):Int)) O O O (by decide) (E9 (a:=(4294967295 ^^^ x) &&& y ||| (4294967295 ^^^ (x ^^^ y)) &&& d) (s:=31))) O (AK O (AE.nil (AC.subF (sL [0,1,6,7] O) (AC.then_ ?_)))))
 exact AF.ret (Ch O (Ab (v:=(vK .u32 d)) O) (Ab (v:=(vK .u32 (((4294967295 ^^^ x) &&& y ||| (4294967295 ^^^ (x ^^^ y)) &&& d)/2147483648))) O) (λw hw=>⟨by rw [<-hb],hw.out⟩))
theorem PZ (x y:Nat) (hx:x<18446744073709551616) (hy:y<18446744073709551616) (w:World)  :Calls prog 106 #[(vK .u64 x),(vK .u64 y)] w (Al w (Value.tuple #[(vK .u64 (x*y/18446744073709551616)),(vK .u64 (x*y%18446744073709551616))])):=by
 have h1:=Ix (a:=x%4294967296) (b:=y%4294967296) Z Z
 have h2:=Ix (a:=x/4294967296) (b:=y%4294967296) Z Z
 have h3:=Ix (a:=x%4294967296) (b:=y/4294967296) Z Z
 have h4:=Ix (a:=x/4294967296) (b:=y/4294967296) Z Z
 have hh:=PO x y
 have hh2:x*y/18446744073709551616<18446744073709551616:=Nat.div_lt_of_lt_mul (Nat.mul_lt_mul'' hx hy)
 refine Ac (args:=[(vK .u64 x),(vK .u64 y)]) func106 O O (Ad O) (AF.subF (sL [0,1] O) (q4 (AK O (AK O (AE.nil ?_)))))
 refine q2 (AO O (AH (IS (c:=((x%4294967296:Nat):Int)) O O (HH (a:=x) Z)) O (AK O (q3 (sL [0,1,4,5,6] O) (AO O ?_)))))
 refine AH (CV (s:=32) (c:=((x/4294967296:Nat):Int)) O O O (by decide) (E9 (a:=x) (s:=32))) O (AK O (q3 (sL [0,1,4,5,6,7] O) (AO O (AH (IS (c:=((y%4294967296:Nat):Int)) O O (HH (a:=y) Z)) O (AK O ?_)))))
 refine q3 (sL [0,1,4,5,6,7,8] O) (AO O (AH (CV (s:=32) (c:=((y/4294967296:Nat):Int)) O O O (by decide) (E9 (a:=y) (s:=32))) O (AK O (q3 (sL [0,1,4,5,6,7,8,9] O) (AO O ?_)))))
 refine AO O (AH (Bk (c:=(((x%4294967296)*(y%4294967296):Nat):Int)) O O (EO (a:=x%4294967296) (b:=y%4294967296) Z)) O (AK O (q3 (sL [0,1,4,5,6,7,8,9,10] O) (AO O (AO O ?_)))))
 refine AH (Bk (c:=(((x/4294967296)*(y%4294967296):Nat):Int)) O O (EO (a:=x/4294967296) (b:=y%4294967296) Z)) O (AO O (AH (CV (s:=32) (c:=((((x%4294967296)*(y%4294967296))/4294967296:Nat):Int)) O O O (by decide) (E9 (a:=(x%4294967296)*(y%4294967296)) (s:=32))) O (AH (AW (c:=((((x/4294967296)*(y%4294967296))+(((x%4294967296)*(y%4294967296))/4294967296):Nat):Int)) O O (C7 (a:=(x/4294967296)*(y%4294967296)) (b:=((x%4294967296)*(y%4294967296))/4294967296) Z)) O (AK O (q3 (sL [0,1,4,5,6,7,8,9,11] O) ?_)))))
 refine AO O (AH (IS (c:=(((((x/4294967296)*(y%4294967296))+(((x%4294967296)*(y%4294967296))/4294967296))%4294967296:Nat):Int)) O O (HH (a:=((x/4294967296)*(y%4294967296))+(((x%4294967296)*(y%4294967296))/4294967296)) Z)) O (AK O (q3 (sL [0,1,4,5,6,7,8,9,11,12] O) (AO O (AH (CV (s:=32) (c:=(((((x/4294967296)*(y%4294967296))+(((x%4294967296)*(y%4294967296))/4294967296))/4294967296:Nat):Int)) O O O (by decide) (E9 (a:=((x/4294967296)*(y%4294967296))+(((x%4294967296)*(y%4294967296))/4294967296)) (s:=32))) O ?_)))))
 refine AK O (q3 (sL [0,1,4,5,6,7,8,9,11,12,13] O) (AO O (AO O (AO O (AH (Bk (c:=(((x%4294967296)*(y/4294967296):Nat):Int)) O O (EO (a:=x%4294967296) (b:=y/4294967296) Z)) O ?_)))))
 refine AH (AW (c:=((((((x/4294967296)*(y%4294967296))+(((x%4294967296)*(y%4294967296))/4294967296))%4294967296)+((x%4294967296)*(y/4294967296)):Nat):Int)) O O (C7 (a:=(((x/4294967296)*(y%4294967296))+(((x%4294967296)*(y%4294967296))/4294967296))%4294967296) (b:=(x%4294967296)*(y/4294967296)) Z)) O (AK O (q3 (sL [0,1,4,5,6,7,8,9,11,12,13] O) (AO O (AO O (AH (Bk (c:=(((x/4294967296)*(y/4294967296):Nat):Int)) O O (EO (a:=x/4294967296) (b:=y/4294967296) Z)) O ?_)))))
 refine AO O (AH (AW (c:=((((x/4294967296)*(y/4294967296))+((((x/4294967296)*(y%4294967296))+(((x%4294967296)*(y%4294967296))/4294967296))/4294967296):Nat):Int)) O O (C7 (a:=(x/4294967296)*(y/4294967296)) (b:=(((x/4294967296)*(y%4294967296))+(((x%4294967296)*(y%4294967296))/4294967296))/4294967296) Z)) O (AO O (AH (CV (s:=32) (c:=(((((((x/4294967296)*(y%4294967296))+(((x%4294967296)*(y%4294967296))/4294967296))%4294967296)+((x%4294967296)*(y/4294967296)))/4294967296:Nat):Int)) O O O (by decide) (E9 (a:=((((x/4294967296)*(y%4294967296))+(((x%4294967296)*(y%4294967296))/4294967296))%4294967296)+((x%4294967296)*(y/4294967296))) (s:=32))) O (AH (AW (c:=((x*y/18446744073709551616:Nat):Int)) O O (by rw [<-Int.natCast_add,hh];exact BT hh2)) O (AK O ?_)))))
 refine q3 (sL [0,1,4,5,6,7,8,9,11,12] O) (AO O (AO O (AH (Bk (c:=((x*y%18446744073709551616:Nat):Int)) O O PY) O (AK O (AE.nil ?_)))))
 exact AC.subF (sL [0,1,4,5,6,7,8,9,11,12] O) (AC.then_ (AF.ret (Ch O (Ab (v:=(vK .u64 (x*y/18446744073709551616))) O) (Ab (v:=(vK .u64 (x*y%18446744073709551616))) O) (λw hw=>⟨rfl,hw.out⟩))))
theorem Qp (hi lo y:Nat) (hh:hi<y) (hl:lo<4294967296) (hy:y<4294967296) (w:World)  :Calls prog 183 #[(vK .u32 hi),(vK .u32 lo),(vK .u32 y)] w (Al w (Value.tuple #[(vK .u32 ((hi*4294967296+lo)/y)),(vK .u32 ((hi*4294967296+lo)%y))])):=by
 refine Ac (args:=[(vK .u32 hi),(vK .u32 lo),(vK .u32 y)]) func183 O O (Ad O) (AF.subF (sL [0,1,2] O) (q4 (AK O (AK O (AE.nil ?_)))))
 refine q1 (q4 (AO O (AH (CS (c:=(decide (y≠0))) O O (Vp (a:=y) (b:=0))) O (AO O ?_))))
 refine AE.mid (FM:=[(0,(vK .u32 hi)),(1,(vK .u32 lo)),(2,(vK .u32 y)),(6,(Value.int .u32 (0:Int))),(7,(Value.int .u32 (0:Int))),(9,(vK .u32 y)),(10,(Value.bool (decide (y≠0)))),(11,(Value.bool (decide (y≠0)))),(15,(Value.bool ((decide (y≠0))&&(decide (y<=hi)))))]) (LM:=[]) 4 ?_ ?_
 ·rcases Bool.eq_false_or_eq_true (decide (y≠0)) with hg1|hg1
  ·skip
   refine AE.retell (k:=11) (u:=Value.bool true) O (by rw [hg1]) ?_
   have hg1':=hg1
   replace hg1':=of_decide_eq_true hg1'
   exact AE.step (v:=(vK .u32 y)) (AB O) (BB O) O (Ad O) (AE.step (v:=(vK .u32 hi)) (AB O) (BB O) O (Ad O) (AE.step (v:=(Value.bool (decide (y<=hi)))) (AB O) (GJ (c:=(decide (y<=hi))) O O (SP (a:=y) (b:=hi))) O (Ad O) (AH (v:=(Value.bool (decide (y<=hi)))) (Ai O O) O (AE.nil (AC.mid (sS O (sS O (sS O (sS O (sS O (sS O (sS O (sS (by first|rfl|(rw [hg1];rfl)|rw [hg1]) (sS (by first|rfl|(rw [hg1];rfl)|rw [hg1]) (sN)))))))))) (List.Sublist.refl _))))))
  ·skip
   refine AE.retell (k:=11) (u:=Value.bool false) O (by rw [hg1]) ?_
   have hg1':=hg1
   replace hg1':=of_decide_eq_false hg1'
   exact AE.skip (AQ O) O (Ad O) (AE.skip (AQ O) O (Ad O) (AE.skip (AQ O) O (Ad O) (AH (v:=(Value.bool false)) (AY O O) O (AE.nil (AC.mid (sS O (sS O (sS O (sS O (sS O (sS O (sS O (sS (by first|rfl|(rw [hg1];rfl)|rw [hg1]) (sS (by first|rfl|(rw [hg1];rfl)|rw [hg1]) (sN)))))))))) (List.Sublist.refl _))))))
 refine AE.nil (AC.subF (sL [0,1,2,6,7,15] O) (AC.then_ ?_))
 refine AF.cond O (λhc0=>?_) (λhc0=>?_)
 ·simp only [Bool.and_eq_true,Bool.or_eq_true,Bool.and_eq_false_iff,Bool.or_eq_false_iff,Bool.not_eq_true',Bool.not_eq_false',decide_eq_true_eq,decide_eq_false_iff_not] at hc0
  exfalso;omega
 ·simp only [Bool.and_eq_true,Bool.or_eq_true,Bool.and_eq_false_iff,Bool.or_eq_false_iff,Bool.not_eq_true',Bool.not_eq_false',decide_eq_true_eq,decide_eq_false_iff_not] at hc0
  refine AF.skip (q2 (AO O (AH (Au (c:=((hi:Nat):Int)) O underlying83 underlying53 (BT Z)) O (AH (v:=(vK .u64 (hi*4294967296))) (FT (s:=32) O O O (by decide) (Fg (s:=32) Z)) O (AO O ?_)))))
  refine AH (Au (c:=((lo:Nat):Int)) O underlying83 underlying53 (BT Z)) O (AH (Hk (c:=((hi*4294967296+lo:Nat):Int)) O O (H5 Z Z (by rw [Nat.or_comm,Nat.add_comm];exact GV (s:=32) Z))) O ?_)
  have hq:(hi*4294967296+lo)/y<4294967296:=Nat.div_lt_of_lt_mul (by have h9:(hi+1)*4294967296<=y*4294967296:=Nat.mul_le_mul_right _ hh;omega)
  have hr:(hi*4294967296+lo)%y<y:=Nat.mod_lt _ Z
  refine AK O (q6 (sL [0,2,6,7,8] O) (C2 [(0,true),(1,true),(2,true),(3,true),(4,true),(5,true),(6,true),(7,true),(8,true),(9,true),(10,true),(11,true)] sr (Bm O (Bm O (Ay O (Au (c:=((y:Nat):Int)) O underlying83 underlying53 (BT Z)) ?_)))))
  refine Ay O (Fq (c:=(((hi*4294967296+lo)/y:Nat):Int)) O O Z (IV (a:=hi*4294967296+lo) (b:=y) Z)) (Ay O (Au (c:=(((hi*4294967296+lo)/y:Nat):Int)) O underlying53 underlying83 (CI Z)) (Bm O (Bm O (Ay O (Au (c:=((y:Nat):Int)) O underlying83 underlying53 (BT Z)) (Ay O (Bz (c:=(((hi*4294967296+lo)%y:Nat):Int)) O O Z (HF (a:=hi*4294967296+lo) (b:=y))) ?_)))))
  refine Ay O (Au (c:=(((hi*4294967296+lo)%y:Nat):Int)) O underlying53 underlying83 (CI Z)) (EW O (EW O (AS.nil (AC.subF (sL [0,2,6,7] O) (AC.then_ ?_)))))
  exact AF.ret (Ch O (Ab (v:=(vK .u32 ((hi*4294967296+lo)/y))) O) (Ab (v:=(vK .u32 ((hi*4294967296+lo)%y))) O) (λw hw=>⟨rfl,hw.out⟩))
theorem RJ (x:Nat) (hx:x<4294967296) (w:World)  :Calls prog 166 #[(vK .u32 x)] w (Al w (vN (bl x))):=by
 refine Ac (args:=[(vK .u32 x)]) func166 O O (Ad O) (AF.subF (sL [0] O) (q4 (AK O (AE.nil (q1 ?_)))))
 refine q4 (AO O (AH (DW (c:=(decide (65536<=x))) O O (SP (a:=65536) (b:=x))) O (AE.nil (AC.subF (sL [0,2,4] O) (AC.then_ ?_)))))
 refine AF.jn2 (tg λ(u:Nat) (n:Nat)=>u<65536/\n<=16/\bl x=bl u+n) (tg λ(u:Nat) (n:Nat)=>[(0,(vK .u32 u)),(2,(vN n))]) (tg λ(u:Nat) (n:Nat)=>[]) ?_ ?_
 ·skip
  refine AF.cond O (λhc0=>?_) (λhc0=>?_)
  ·replace hc0:=of_decide_eq_true hc0
   refine q4 (AO O (AH (CV (s:=16) (c:=((x/65536:Nat):Int)) O O O (by decide) (E9 (a:=x) (s:=16))) O (AK O (AE.nil (AC.subF (sL [0,2] O) ?_)))))
   exact AC.then_ (AF.region (AK O (AE.nil (AC.join2 (x/65536) 16 (⟨Z,Z,LX (k:=16) hc0⟩) (sF O) sr))))
  ·replace hc0:=of_decide_eq_false hc0
   exact AF.skip (AC.join2 x 0 (⟨Z,Z,rfl⟩) (sF O) sr)
 ·intro u n hJ
  obtain ⟨hu,hn,hv⟩:=hJ
  refine q1 (q4 (AO O (AH (DW (c:=(decide (256<=u))) O O (SP (a:=256) (b:=u))) O (AE.nil (AC.subF (sL [0,2,8] O) ?_)))))
  refine AC.then_ ?_
  refine AF.jn2 (tg λ(u2:Nat) (n2:Nat)=>u2<256/\n2<=24/\bl x=bl u2+n2) (tg λ(u2:Nat) (n2:Nat)=>[(0,(vK .u32 u2)),(2,(vN n2))]) (tg λ(u2:Nat) (n2:Nat)=>[]) ?_ ?_
  ·skip
   refine AF.cond O (λhc1=>?_) (λhc1=>?_)
   ·replace hc1:=of_decide_eq_true hc1
    refine q4 (AO O (AH (CV (s:=8) (c:=((u/256:Nat):Int)) O O O (by decide) (E9 (a:=u) (s:=8))) O (AK O (AE.nil (AC.subF (sL [0,2] O) ?_)))))
    refine AC.then_ (AF.region (AO O (AH (AW (c:=((n+8:Nat):Int)) O O (AZ (a:=n) (b:=8) Z)) O (AK O (AE.nil ?_)))))
    exact AC.subF (sL [0,2] O) (AC.join2 (u/256) (n+8) (⟨Z,Z,by rw [hv,UA hc1];omega⟩) (sF O) sr)
   ·replace hc1:=of_decide_eq_false hc1
    exact AF.skip (AC.join2 u n (⟨Z,Z,hv⟩) (sF O) sr)
  ·intro u2 n2 hJ
   obtain ⟨hu2,hn2,hv2⟩:=hJ
   refine q2 (AO O (AO O (AH (Au (c:=((u2:Nat):Int)) O underlying83 underlying5 (QB Z)) O ?_)))
   have hb8:bl u2<=8:=QY (k:=8) hu2
   refine AH (v:=(vK .u8 (bl u2))) (Gg (j:=u2) (m:=bl u2) O O underlying9 (Tl (by kernel_rfl) hu2) Z) O (AH (Au (c:=((bl u2:Nat):Int)) O underlying5 underlying3 (CB Z)) O (AH (AW (c:=((bl x:Nat):Int)) O O (by rw [hv2,Int.add_comm,<-Int.natCast_add];exact CB Z)) O (AK O (AE.nil (AC.subF (sL [0,2] O) ?_)))))
   exact AC.then_ (AF.ret (AN O (Ab (v:=(vN (bl x))) O) (λw hw=>⟨rfl,hw.out⟩)))
theorem TF (x:Nat) (hx:x<4294967296) (w:World)  :Calls prog 184 #[(vK .u32 x)] w (Al w (vN (32-bl x))):=by
 have hb:=QY (k:=32) hx
 refine Ac (args:=[(vK .u32 x)]) func184 O O (Ad O) (AF.subF (sL [0] O) (q4 (AK O (AE.nil (q2 ?_)))))
 refine AO O (BS call166 (RJ _ Z) O (AH (Bo (c:=((32-(bl x):Nat):Int)) O O (CJ (a:=32) (b:=bl x) Z Z)) O (AK O (AE.nil (AC.subF (sL [2] O) ?_)))))
 exact AC.then_ (AF.ret (AN O (Ab (v:=(vN (32-(bl x)))) O) (λw hw=>⟨rfl,hw.out⟩)))
theorem Si (z:Int) (hz:-9223372036854775808<=z) (hz2:z<9223372036854775808) (w:World)  :Calls prog 221 #[(vI z)] w (Al w (vI z.sign)):=by
 refine Ac (args:=[(vI z)]) func221 O O (Ad O) (AF.subF (sL [0] O) (q4 (AK O (AE.nil (q2 ?_)))))
 refine AO O (AH (GW (c:=(if z<1 then z else 1)) O O O) O (AH (Ff (c:=z.sign) O O (Pn z)) O (AK O (AE.nil (AC.subF (sL [2] O) ?_)))))
 exact AC.then_ (AF.ret (AN O (Ab (v:=(vI z.sign)) O) (λw hw=>⟨rfl,hw.out⟩)))
end
section
section
variable {P:Program} {n:Nat} {F:List (Nat×Value)} {w0:BH} {L:List As} {x y:Operand} {d:Option Tmp} {t:TypeId} {p:String} {af:Array Edge} {g:Option (Nat×Bool)}
def E5 (P:Program) (D:Nat) (T:TypeId) (u v:Value) (b:Bool):Prop:=∀w,(Op.equalIn D T u v).run P w=.ok b w
def G6 (P:Program) (D:Nat) (xs ys:List Value) (fs:List Field) (b:Bool):Prop:=∀w,(Op.eqFields D xs.toArray ys.toArray fs).run P w=.ok b w
theorem E5.int {D:Nat} {T:TypeId} {k k':IntKind} {a b:Int} (h:P.underlying T=some (.int k')):E5 P (D+1) T (.int k a) (.int k b) (a == b):=λw=>run_equalIn_int w D T k k' a b h
theorem E5.bool {D:Nat} {T:TypeId} {a b:Bool} (h:P.underlying T=some .bool):E5 P (D+1) T (.bool a) (.bool b) (a == b):=λw=>run_equalIn_bool' w D T a b h
theorem E5.str {D:Nat} {T:TypeId} {a b:ByteArray} (h:P.underlying T=some .string):E5 P (D+1) T (.string a) (.string b) (a.toList == b.toList):=λw=>run_equalIn_string w D T a b h
theorem E5.struct {D:Nat} {T:TypeId} {xs ys:List Value} {b:Bool} {fs:Array Field} (hu:P.underlying T=some (.struct fs)) (hp:P.stoodInHeld T=false) (h:G6 P D xs ys fs.toList b):E5 P (D+1) T (.agg xs.toArray) (.agg ys.toArray) b:=λw=>by
  have e:P.fieldsOf T=fs:=by simp [Program.fieldsOf,hu]
  rw [run_equalIn_struct w D T _ _ (by rw [e];exact hu) hp,e];exact h w
theorem G6.nil {D:Nat} {xs ys:List Value}:G6 P D xs ys [] true:=λw=>rfl
theorem G6.one {D : Nat} {xs ys : List Value} {f : Field} {fs : List Field} {a b : Value} {r s : Bool} (hn : f.name ≠ "_") (hg : ∀ w, (isAgg f.type).run P w = .ok false w) (ha : xs[f.offset]? = some a) (hb : ys[f.offset]? = some b)
    (h:E5 P D f.type a b r) (h2:G6 P D xs ys fs s):G6 P D xs ys (f::fs) (r&&s):=λw=>by
  have e1:(part f.type xs.toArray f.offset).run P w=.ok a w:=by simp [part,hg,ha]
  have e2:(part f.type ys.toArray f.offset).run P w=.ok b w:=by simp [part,hg,hb]
  simp only [Op.eqFields,Sem.run_ite,if_pos hn,Sem.run_bind,e1,e2,Result.andThen_ok,h w]
  cases r
  · simp
  · simp [h2 w]
theorem G6.agg {D k : Nat} {xs ys us bs : List Value} {f : Field} {fs : List Field} {r s : Bool} (hn : f.name ≠ "_") (hg : ∀ w, (isAgg f.type).run P w = .ok true w) (hs : ∀ w, (sizeOf f.type).run P w = .ok k w)
    (ha:(xs.drop f.offset).take k=us) (hb:(ys.drop f.offset).take k=bs)
    (h:E5 P D f.type (.agg us.toArray) (.agg bs.toArray) r) (h2:G6 P D xs ys fs s):G6 P D xs ys (f::fs) (r&&s):=λw=>by
  have ex:∀l:List Value,l.toArray.extract f.offset (f.offset+k)=((l.drop f.offset).take k).toArray:=λl=>by simp [List.extract_eq_take_drop]
  have e1:(part f.type xs.toArray f.offset).run P w=.ok (.agg us.toArray) w:=by simp [part,hg,hs,ex,ha]
  have e2:(part f.type ys.toArray f.offset).run P w=.ok (.agg bs.toArray) w:=by simp [part,hg,hs,ex,hb]
  simp only [Op.eqFields,Sem.run_ite,if_pos hn,Sem.run_bind,e1,e2,Result.andThen_ok,h w]
  cases r
  · simp
  · simp [h2 w]
theorem Bq {xs ys:List Value} {c:Bool} {tx ty:TypeId} (hx:evF F x=some (.agg xs.toArray)) (hy:evF F y=some (.agg ys.toArray)) (hg:P.eqGuardType P.depth tx=false) (hc:E5 P 10000 tx (.agg xs.toArray) (.agg ys.toArray) c) :
    Ex P n F w0 L ⟨d,.binOp .eql tx x y ty,t,p,af,g⟩ (.bool c):=λA w ha _=>by
  simp only [execOp,ha.ev hx,ha.ev hy,Sem.run_bind,run_eqGuard_agg w .eql tx x y _ _ hg,Result.andThen_ok,run_eql_struct,hc w,Sem.run_pure]
end
theorem RC {a b:Nat} (ha:¬a<18446744073709551616) (hb:¬b<18446744073709551616) (h:Be a=Be b):a=b:=by
  rw [EP ha,EP hb] at h
  have h1:bytesN (AL a)=bytesN (AL b):=by
    have lt:∀(xs:List Nat),∀x∈bytesN xs,x<256:=λxs x hx=>by
      simp only [bytesN,List.mem_flatMap,List.mem_cons,List.not_mem_nil,or_false] at hx
      obtain ⟨y,_,hy⟩:=hx
      omega
    have inj:∀(l r:List Nat),(∀x∈l,x<256)->(∀x∈r,x<256)->l.map UInt8.ofNat=r.map UInt8.ofNat->l=r:=by
      intro l
      induction l with
      | nil=>intro r _ _ h;cases r<;>simp_all
      | cons x l ih =>
        intro r hl hr h
        cases r with
        | nil=>simp at h
        | cons y r =>
          simp only [List.map_cons,List.cons.injEq] at h
          have e:x=y:=by
            have h3:=congrArg UInt8.toNat h.1
            have h4:=hl x (by simp)
            have h5:=hr y (by simp)
            simp at h3
            omega
          rw [e,ih r (λz hz=>hl z (by simp [hz])) (λz hz=>hr z (by simp [hz])) h.2]
    refine inj _ _ (lt _) (lt _) ?_
    have:=congrArg (λs:ByteArray=>s.data.toList) h
    simpa [Cn] using this
  have h2:AL a=AL b:=by
    have hl:(AL a).length=(AL b).length:=by
      have:=congrArg List.length h1
      simp only [Bu] at this
      omega
    apply List.ext_getElem hl
    intro i hi hi'
    have g:∀k,k<4->(AL a).getD i 0/256^k%256=(AL b).getD i 0/256^k%256:=λk hk=>by rw [<-FH _ _ _ hi hk,<-FH _ _ _ hi' hk,h1]
    have wa:=(Bj a).getD i
    have wb:=(Bj b).getD i
    have ea:(AL a).getD i 0=(AL a)[i]:=by simp [hi]
    have eb:(AL b).getD i 0=(AL b)[i]:=by simp [hi']
    rw [ea,eb] at g
    rw [ea] at wa
    rw [eb] at wb
    have g0:=g 0 Z
    have g1:=g 1 Z
    have g2:=g 2 Z
    have g3:=g 3 Z
    simp only [Nat.pow_zero,Nat.div_one,Nat.pow_one,show (256:Nat)^2=65536 from rfl,show (256:Nat)^3=16777216 from rfl] at g0 g1 g2 g3
    omega
  rw [<-CH a,<-CH b,h2]
theorem R0 (a b:Nat):((((Bs a:Nat):Int) == ((Bs b:Nat):Int))&&(((Be a).toList == (Be b).toList)&&true))=decide (a=b):=by
  by_cases e:a=b
  · subst e;simp
  · rw [decide_eq_false e]
    by_cases ha:a<18446744073709551616
    · by_cases hb:b<18446744073709551616
      · rw [Bc ha,Bc hb]
        have:((a:Int) == (b:Int))=false:=by simp;omega
        rw [this];rfl
      · have h1:=MO hb
        rw [GM ha,<-beq_toListBytes]
        have:(ByteArray.empty == Be b)=false:=by
          rw [beq_toListBytes,ByteArray.toList_eq,ByteArray.toList_eq,EP hb]
          cases hl:(Cn (bytesN (AL b))).data.toList with
          | nil =>
            have h3:=congrArg List.length hl
            simp [Cn,Bu] at h3
            unfold nw at h1
            omega
          | cons=>rfl
        rw [this];simp
    · by_cases hb:b<18446744073709551616
      · have h1:=MO ha
        rw [GM hb,<-beq_toListBytes]
        have:(Be a == ByteArray.empty)=false:=by
          rw [beq_toListBytes,ByteArray.toList_eq,ByteArray.toList_eq,EP ha]
          cases hl:(Cn (bytesN (AL a))).data.toList with
          | nil =>
            have h3:=congrArg List.length hl
            simp [Cn,Bu] at h3
            unfold nw at h1
            omega
          | cons=>rfl
        rw [this];simp
      · rw [<-beq_toListBytes]
        have:(Be a == Be b)=false:=by
          cases hbb:Be a == Be b with
          | false=>rfl
          | true =>
            rw [beq_toListBytes] at hbb
            have h2:(Be a).toList=(Be b).toList:=by simpa using hbb
            rw [ByteArray.toList_eq,ByteArray.toList_eq] at h2
            have h3:Be a=Be b:=by
              cases hA:Be a with|mk da=>cases hB:Be b with|mk db =>
                rw [hA,hB] at h2
                congr 1
                exact Array.toList_inj.1 h2
            exact absurd (RC ha hb h3) e
        rw [this];simp
theorem Fv (D a b:Nat):E5 prog (D+2) 55 (.agg (AT a).toArray) (.agg (AT b).toArray) (decide (a=b)):=by
  rw [<-R0]
  exact E5.struct underlying55 Tryz.stoodInHeld55 (G6.one (by decide) isAgg53 O O (E5.int underlying53) (G6.one (by decide) isAgg9 O O (E5.str underlying9) G6.nil))
end
section
set_option maxRecDepth 100000
theorem IA (n:Nat) (hn:n<18446744073709551616) (w:World)  :Calls prog 102 #[(vK .u64 n)] w (Al w (aG (AT n))):=by
 refine Ac (args:=[(vK .u64 n)]) func102 O O (Ad O) (AF.subF (sL [0] O) (q4 (al FA O λb1=>AE.nil (q2 ?_))))
 refine AO O (AH (v:=(aG ([(vK .u64 n),(Value.string (Be 0))]))) (AV (zs:=AT 0) (vs:=[(vK .u64 n),(Value.string (Be 0))]) (pv:=[(0,(vK .u64 n))]) (places:=[(0,1),(1,1)]) zeroValue55 underlying55 (λw=>by simp [sizeOf9,sizeOf53]) O O) O (AE.retell (k:=4) (u:=(aG (AT n))) O (by rw [DD hn];rfl) (Av O sizeOf55 O (AE.nil (AC.subF (sL [2] O) ?_)))))
 exact AC.then_ (AF.ret (AN O (A7 (i:=0) (cs:=AT n) O O isAgg55 sizeOf55 O) (λw hw=>⟨rfl,hw.out⟩)))
theorem JT  :Instr.fill ([(0,1),(1,1)].toArray[·]?) (AT 0).toArray []=some (AT 0).toArray:=by kernel_rfl
theorem Nk (a:Nat) (w:World)  :Calls prog 138 #[(aG (AT a))] w (Al w (Value.bool (decide (a=0)))):=by
 refine Ac (args:=[(aG (AT a))]) func138 O O (Ad O) (AF.subF (sL [0] O) (q4 (Bi (cs:=AT a) O λb1=>AK O (q3 (sL [1,2] O) ?_))))
 refine BA 0 Br O (AH (v:=(aG (AT 0))) (AV (zs:=AT 0) (vs:=AT 0) (pv:=[]) (places:=[(0,1),(1,1)]) zeroValue55 underlying55 (λw=>by simp [sizeOf9,sizeOf53]) O (JT )) O (AH (Bq (c:=(decide (a=0))) O O eqGuardType55 (Fv 9998 a 0)) O (AK O (AE.nil (AC.subF (sL [2] O) ?_)))))
 exact AC.then_ (AF.ret (AN O (Ab (v:=(Value.bool (decide (a=0)))) O) (λw hw=>⟨rfl,hw.out⟩)))
theorem Cw (v:Nat) (hv:nw v<=1099511627776) (w:World)  :Calls prog 108 #[(aG (AT v))] w (λe w'=>∃b,e=.returned (.slice (some ⟨b,0,none⟩) (nw v) (Aw v).length)/\EU w.heap.size w w'/\w.heap.size<=b/\w'.heap[b]?=some (.cells (Aj (Aw v)).toArray 83 (0,0))):=by
 refine Ac (args:=[(aG (AT v))]) func108 O O (Ad O) (AF.subF (sL [0] O) (q4 (Bi (cs:=AT v) O λb1=>AK O (q6 (sL [1,2] O) ?_))))
 refine q4 (AH (v:=(pP b1 1)) (AA O underlying55 O sizeOf9 O) O (BJ 0 (Value.string (Be v)) PJ O (AH (Bf (c:=(decide (v<18446744073709551616))) O O CL) O (AE.nil (AC.subF (sL [1,2,8] O) ?_)))))
 refine AC.then_ ?_
 refine AF.cond O (λhc0=>?_) (λhc0=>?_)
 ·replace hc0:=of_decide_eq_true hc0
  refine q4 (AH (v:=(pP b1 0)) (AA O underlying55 O sizeOf53 O) O (BJ 0 (vK .u64 (Bs v)) FX O (AE.retell (k:=10) (u:=(vK .u64 v)) O (by rw [Bc hc0]) (AH (Au (c:=((v%4294967296:Nat):Int)) O underlying53 underlying83 Dl) O (AH (v:=(pP b1 0)) (AA O underlying55 O sizeOf53 O) O ?_)))))
  refine BJ 0 (vK .u64 (Bs v)) FX O (AE.retell (k:=13) (u:=(vK .u64 v)) O (by rw [Bc hc0]) (AH (CV (s:=32) (c:=((v/4294967296:Nat):Int)) O O O (by decide) (E9 (a:=v) (s:=32))) O (AH (Au (c:=((v/4294967296:Nat):Int)) O underlying53 underlying83 (CI Z)) O (AE.openV (V:=λb2=>(Value.slice (some ⟨b2,0,none⟩) 2 2)) (T:=83) (cs:=Aj ([v%4294967296,v/4294967296])) (AP O) (A_ (cs:=Aj ([v%4294967296,v/4294967296])) (pv:=[(0,(vK .u32 (v%4294967296))),(1,(vK .u32 (v/4294967296)))]) underlying187 sizeOf83 zeroValue83 (by decide) (by decide) O (by kernel_rfl)) O (Ad O) λb2=>D1 call145 (λw hw=>QH _ 2 2 ([v%4294967296,v/4294967296]) (W32.cons Z (W32.cons Z (W32.nil))) (by simp) (by simp) (by simp;try omega) w (hw.get (i:=0) O)) O ?_))))
  refine AK O (AE.nil (AC.subF (sL [1,2] O) (AC.then_ (AF.ret (AC.then_ret ?_)))))
  have hpad:Aw v=[v%4294967296,v/4294967296]:=by simp [Aw,hc0]
  have hnw:nw v=DY [v%4294967296,v/4294967296] 2:=by rw [<-Mv (Sy hc0) (m:=2) (by simp),<-Np v,hpad];simp [val];congr 1;omega
  have hret:∀b:Nat,(Ending.returned (Value.slice (some ⟨b,0,none⟩) (DY ([v%4294967296,v/4294967296]) 2) 2))=.returned (Value.slice (some ⟨b,0,none⟩) (nw v) (Aw v).length):=λb=>by rw [hnw,hpad];rfl
  replace hret:=hret b2
  have hcells:(some (Obj.cells (Aj ([v%4294967296,v/4294967296])).toArray 83 (0,0)))=some (Obj.cells (Aj (Aw v)).toArray 83 (0,0)):=by rw [hpad]
  exact AN O (Ab (v:=(Value.slice (some ⟨b2,0,none⟩) (DY ([v%4294967296,v/4294967296]) 2) 2)) O) (λw hw=>⟨b2,hret,hw.out,hw.fresh (i:=0) O,(hw.get (i:=0) O).trans hcells⟩)
 ·replace hc0:=of_decide_eq_false hc0
  refine AF.skip (q2 (AH (v:=(pP b1 1)) (AA O underlying55 O sizeOf9 O) O (BJ 0 (Value.string (Be v)) PJ O (AH (v:=(vN ((Be v).size))) (JR O underlying9) O (AE.retell (k:=20) (u:=(vN (4*nw v))) O (by rw [EP hc0,IG,Bu];rfl) ?_)))))
  refine AH (Fq (c:=(((4*nw v)/4:Nat):Int)) O O Z (L4 (a:=4*nw v) (b:=4) Z)) O (AE.retell (k:=21) (u:=(vN (nw v))) O (by rw [Nat.mul_div_cancel_left _ Z]) (AE.openV (V:=λb2=>(Value.slice (some ⟨b2,0,none⟩) (nw v) (nw v))) (T:=83) (cs:=Aj (List.replicate (nw v) 0)) (AP O) (Cx (m:=nw v) (c:=nw v) O O Z Z) O (Ad O) λb2=>AK O (q6 (sL [1,2,3] O) (q4 ?_))))
  refine AO O (AH (v:=(vN (nw v))) (AG O underlying187) O (AO O (AE.nil (AC.subF (sL [1,2,3,24,25] O) (AC.then_ ?_)))))
  refine AF.block ?_
  refine AF.lp2 (tg λ(i:Nat) (os:List Nat)=>i<=nw v/\os.length=nw v/\os.take i=(AL v).take i/\∀j,i<=j->os.getD j 0=0) (tg λ(i:Nat) (os:List Nat)=>[(1,(pP b1 0)),(2,(Value.slice none 0 0)),(3,(Value.slice (some ⟨b2,0,none⟩) (nw v) (nw v))),(24,(vN (nw v))),(25,(vN i))]) (tg λ(i:Nat) (os:List Nat)=>[Ae b2 83 (Aj os),Ae b1 55 (AT v)]) (tg λ(i:Nat) (os:List Nat)=>nw v-i) 0 (List.replicate (nw v) 0) (⟨Nat.zero_le _,by simp,by simp,λj _=>by simp [List.getD_eq_getElem?_getD,List.getElem?_replicate];split<;>rfl⟩) (sF O) sr (λi os hJ=>?_)
  obtain ⟨hin,hl,ht,h0⟩:=hJ
  refine q4 (AH (Af (c:=(decide (i<(nw v)))) O O (C1 (a:=i) (b:=nw v))) O (AE.nil (q1 ?_)))
  refine AF.cond O (λhc1=>?_) (λhc1=>?_)
  ·replace hc1:=of_decide_eq_true hc1
   refine AF.skip (q1 (AF.block (q4 (AO O (AK O ?_)))))
   refine q3 (sL [1,2,3,24,25,4] O) (AO O (AE.nil (AC.then_ (AF.block ?_))))
   refine AF.lp2 (tg λ(k:Nat) (xs:List Nat)=>k<=4/\xs=os.set i ((AL v).getD i 0%256^k)) (tg λ(k:Nat) (xs:List Nat)=>[(1,(pP b1 0)),(2,(Value.slice none 0 0)),(3,(Value.slice (some ⟨b2,0,none⟩) (nw v) (nw v))),(24,(vN (nw v))),(25,(vN i)),(4,(vN i)),(28,(vN k))]) (tg λ(k:Nat) (xs:List Nat)=>[Ae b2 83 (Aj xs),Ae b1 55 (AT v)]) (tg λ(k:Nat) (xs:List Nat)=>4-k) 0 os (⟨Z,by rw [Nat.pow_zero,Nat.mod_one];exact Pm (h0 i (Nat.le_refl _))⟩) (sF O) sr (λk xs hJ=>?_)
   obtain ⟨hk,hxs⟩:=hJ
   refine q4 (AH (Af (c:=(decide (k<4))) O O (C1 (a:=k) (b:=4))) O (AE.nil (q1 ?_)))
   refine AF.cond O (λhc2=>?_) (λhc2=>?_)
   ·replace hc2:=of_decide_eq_true hc2
    refine AF.skip (q1 (AF.block (q4 (AO O (AK O ?_)))))
    refine AE.nil (AC.subF (sL [1,2,3,24,25,4,28,5] O) (AC.then_ (C2 [(0,true),(1,true),(2,true),(4,true),(5,true),(6,true),(7,true),(8,true),(9,true),(10,true),(11,true),(12,true),(13,true),(14,true),(3,false),(15,true),(16,true),(17,false)] (sl sr) ?_)))
    have hi:i<nw v:=hc1
    have hxi:xs.getD i 0=(AL v).getD i 0%256^k:=by rw [hxs];simp [hl,hi]
    have hxl:xs.length=nw v:=by rw [hxs];simp [hl]
    have hby:(AL v).getD i 0/256^k%256<256:=Nat.mod_lt _ Z
    have hget:(Be v)[4*i+k]?=some (UInt8.ofNat ((AL v).getD i 0/256^k%256)):=by rw [EP hc0,OV (by rw [Bu];show 4*i+k<4*nw v;omega),FH _ _ _ hi hc2]
    have hw32:xs.getD i 0<4294967296:=by rw [hxi];exact Nat.lt_of_le_of_lt (Nat.mod_le _ _) ((Bj v).getD i)
    refine Bm O (Bm O (Ay (v:=(pP b2 i)) O (AI (j:=i) O O underlying187 sizeOf83 O Z (by simp)) (Ay (v:=(pP b1 1)) O (AA O underlying55 O sizeOf9 O) (Bl 0 (Value.string (Be v)) PJ O (Bm O ?_)))))
    refine Ay O (Bk (c:=((4*i:Nat):Int)) O O (Cc (a:=4) (b:=i) Z)) (Bm O (Ay O (AW (c:=(((4*i)+k:Nat):Int)) O O (AZ (a:=4*i) (b:=k) Z)) (Ay (v:=(vK .u8 ((AL v).getD i 0/256^k%256))) O (Gg (j:=4*i+k) (m:=(AL v).getD i 0/256^k%256) O O underlying9 hget hby) (Ay O (Au (c:=(((AL v).getD i 0/256^k%256:Nat):Int)) O underlying5 underlying83 (CI Z)) (Bm O ?_)))))
    refine Ay O (Bk (c:=((8*k:Nat):Int)) O O (Cc (a:=8) (b:=k) Z)) (Ay (v:=(vK .u32 ((AL v).getD i 0/256^k%256*2^(8*k)))) O (FT (s:=8*k) O O O (show 8*k<=32 by omega) (Ps (Nm hc2))) (AS.imp O (AH (AM (i:=0) (v:=(vK .u32 (xs.getD i 0))) O O isAgg83 (BG (xs:=xs) (j:=i) Z)) O (AS.back (sl sr) (Ay O (Hk (c:=(((AL v).getD i 0%256^(k+1):Nat):Int)) O O (IB hw32 (Nm hc2) (N6 hxi))) ?_)))))
    refine Ay (v:=(pP b2 i)) O (AI (j:=i) O O underlying187 sizeOf83 O Z (by simp)) (AS.imp O (AE.store' (i:=0) (off:=i) (vs:=[(vK .u32 ((AL v).getD i 0%256^(k+1)))]) (cs':=Aj (xs.set i ((AL v).getD i 0%256^(k+1)))) (L':=[Ae b2 83 (Aj (xs.set i ((AL v).getD i 0%256^(k+1)))),Ae b1 55 (AT v)]) (AP O) O O O O O sizeOf83 O (CP (BP _) Z) (B5 Z) O (AS.back (sl sr) (AS.nil (AC.subF (sL [1,2,3,24,25,4,28] O) ?_)))))
    refine AC.in_normal (AC.then_ (AF.region (AH (AW (c:=((k+1:Nat):Int)) O O (AZ (a:=k) (b:=1) Z)) O (AO O (AE.nil ?_)))))
    exact AC.subF (sL [1,2,3,24,25,4,28] O) (AC.round2 (k+1) (xs.set i ((AL v).getD i 0%256^(k+1))) (⟨Z,by rw [hxs,List.set_set]⟩) Z (sF O) sr)
   ·replace hc2:=of_decide_eq_false hc2
    refine AF.exit (AC.then_exit (AC.round2_exit (AC.in_exit (AC.in_normal (AC.then_ ?_)))))
    refine AF.region (AH (AW (c:=((i+1:Nat):Int)) O O (AZ (a:=i) (b:=1) Z)) O (AO O (AE.nil (AC.subF (sL [1,2,3,24,25,4,28] O) ?_))))
    have hst:=Mu (ws:=AL v) (xs:=xs) hl rfl hc1 ht h0 (by rw [hxs,show k=4 by omega];congr 1;exact Nat.mod_eq_of_lt ((Bj v).getD i))
    exact AC.round2 (i+1) xs (⟨Z,hst.1,hst.2.1,hst.2.2⟩) Z (sF O) sr
  ·replace hc1:=of_decide_eq_false hc1
   refine AF.exit (AC.then_exit (AC.round2_exit (AC.in_exit (q2 (AO O ?_)))))
   refine AK O (AE.nil (AC.subF (sL [1,2,3,24,25] O) (AC.then_ (AF.ret ?_))))
   have hpad:Aw v=AL v:=by simp [Aw,hc0]
   have hos:os=AL v:=Pd hl rfl hc1 ht
   have hret:∀b:Nat,(Ending.returned (Value.slice (some ⟨b,0,none⟩) (nw v) (nw v)))=.returned (Value.slice (some ⟨b,0,none⟩) (nw v) (Aw v).length):=λb=>by rw [hpad];rfl
   replace hret:=hret b2
   have hcells:(some (Obj.cells (Aj os).toArray 83 (0,0)))=some (Obj.cells (Aj (Aw v)).toArray 83 (0,0)):=by rw [hpad,hos]
   exact AN O (Ab (v:=(Value.slice (some ⟨b2,0,none⟩) (nw v) (nw v))) O) (λw hw=>⟨b2,hret,hw.out,hw.fresh (i:=0) O,(hw.get (i:=0) O).trans hcells⟩)
end
end Go.Proofs.YtfbomiejpbchdaaGreatDoor
