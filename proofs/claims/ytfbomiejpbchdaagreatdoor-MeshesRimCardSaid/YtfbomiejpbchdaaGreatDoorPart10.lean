import Derived.Laws.StructEq
import Derived.Test.YtfbomiejpbchdaaGreatDoorPart06
import Derived.Test.YtfbomiejpbchdaaGreatDoorPart09
namespace Go.Proofs.YtfbomiejpbchdaaGreatDoor
open Go Go.RowKit Go.Proofs.Tryz
set_option linter.unusedVariables false
set_option linter.unusedSimpArgs false
section
set_option maxRecDepth 100000
theorem Po (b m c:Nat) (bs:List Nat) (hbs:W32 bs) (hm:m<=bs.length) (hc:m<=c) (hL:c<4611686018427387904) (w:World) (hb:w.heap[b]?=some (.cells (Ak bs).toArray 83 (0,0))):Calls prog 145 #[(Value.slice (some ⟨b,0,none⟩) m c)] w (Am w (Value.slice (some ⟨b,0,none⟩) (DL bs m) c)):=by
 refine Ac (args:=[(Value.slice (some ⟨b,0,none⟩) m c)]) func145 O O (Ab O) (AF.subF (sL [0] O) (q4 (AK O (AE.nil (q1 ?_)))))
 refine AF.block ?_
 refine AF.lp1 (tg λ(k:Nat)=>k<=m/\DL bs k=DL bs m) (tg λ(k:Nat)=>[(2,(Value.slice none 0 0)),(0,(Value.slice (some ⟨b,0,none⟩) k c))]) (tg λ(k:Nat)=>[]) (tg λ(k:Nat)=>k) m (⟨Nat.le_refl _,rfl⟩) (sF O) sr (λk hJ=>?_)
 obtain ⟨hk,hv⟩:=hJ
 refine AF.seq (q4 (AO O (AG (v:=(vN k)) (AH O underlying187) O (AG (Cx (c:=(decide (0<k))) O O (C6 (a:=0) (b:=k))) O (AO O ?_)))))
 refine AE.mid (FM:=[(2,(Value.slice none 0 0)),(0,(Value.slice (some ⟨b,0,none⟩) k c)),(3,(Value.slice (some ⟨b,0,none⟩) k c)),(4,(vN k)),(5,(Value.bool (decide (0<k)))),(6,(Value.bool (decide (0<k)))),(14,(Value.bool ((decide (0<k))&&(decide ((bs.getD (k-1) 0)=0)))))]) (LM:=[]) 8 ?_ ?_
 ·rcases Bool.eq_false_or_eq_true (decide (0<k)) with hg1|hg1
  ·skip
   refine AE.retell (k:=6) (u:=Value.bool true) O (by rw [hg1]) ?_
   have hg1':=hg1
   replace hg1':=of_decide_eq_true hg1'
   refine AE.step (v:=(Value.slice (some ⟨b,0,none⟩) k c)) (AB O) (Az O) O (Ab O) (AE.step (v:=(Value.slice (some ⟨b,0,none⟩) k c)) (AB O) (Az O) O (Ab O) (AE.step (v:=(vN k)) (AB O) (AH O underlying187) O (Ab O) (AE.step (v:=(vN (k-1))) (AB O) (Bz (c:=((k-1:Nat):Int)) O O (CV (a:=k) (b:=1) Z Z)) O (Ab O) (AE.step (v:=(pP b (k-1))) (AB O) (AJ (j:=k-1) O O underlying187 sizeOf83 O Z (by simp)) O (Ab O) ?_))))
   have hx1:bs.getD (k-1) 0<4294967296:=W32.getD hbs (k-1)
   exact AE.step (v:=(vK .u32 (bs.getD (k-1) 0))) (AB O) (Bc (v:=(vK .u32 (bs.getD (k-1) 0))) O (λw' hw=>CA.at0 (hw.oldCA (by simp) (ED hb)) (BJ (xs:=bs) (j:=(k-1)) Z)) isAgg83) O (Ab O) (AE.step (v:=(Value.bool (decide ((bs.getD (k-1) 0)=0)))) (AB O) (BU (c:=(decide ((bs.getD (k-1) 0)=0))) O O (MY (a:=bs.getD (k-1) 0) (b:=0))) O (Ab O) (AG (v:=(Value.bool (decide ((bs.getD (k-1) 0)=0)))) (Ah O O) O (AE.nil (AD.mid (sS O (sS O (sS O (sS O (sS O (sS (by first|rfl|(rw [hg1];rfl)|rw [hg1]) (sS (by first|rfl|(rw [hg1];rfl)|rw [hg1]) (sN)))))))) (List.Sublist.refl _)))))
  ·skip
   refine AE.retell (k:=6) (u:=Value.bool false) O (by rw [hg1]) ?_
   have hg1':=hg1
   replace hg1':=of_decide_eq_false hg1'
   refine AE.skip (AR O) O (Ab O) (AE.skip (AR O) O (Ab O) (AE.skip (AR O) O (Ab O) (AE.skip (AR O) O (Ab O) (AE.skip (AR O) O (Ab O) (AE.skip (AR O) O (Ab O) ?_)))))
   exact AE.skip (AR O) O (Ab O) (AG (v:=(Value.bool false)) (AU O O) O (AE.nil (AD.mid (sS O (sS O (sS O (sS O (sS O (sS (by first|rfl|(rw [hg1];rfl)|rw [hg1]) (sS (by first|rfl|(rw [hg1];rfl)|rw [hg1]) (sN)))))))) (List.Sublist.refl _))))
 refine AE.nil (AD.subF (sL [2,0,14] O) (AD.then_ ?_))
 refine AF.cond O (λhc0=>?_) (λhc0=>?_)
 ·simp only [Bool.and_eq_true,Bool.or_eq_true,Bool.and_eq_false_iff,Bool.or_eq_false_iff,Bool.not_eq_true',Bool.not_eq_false',decide_eq_true_eq,decide_eq_false_iff_not] at hc0
  refine AF.skip (AD.then_ (AF.block (AF.region (AO O (AO O ?_)))))
  refine AG (v:=(vN k)) (AH O underlying187) O (AG (Bz (c:=((k-1:Nat):Int)) O O (CV (a:=k) (b:=1) Z Z)) O (AG (v:=(Value.slice (some ⟨b,0,none⟩) (k-1) c)) (Hm (m:=k-1) O O underlying187 sizeOf83 Z) O (AK O (AE.nil (AD.subF (sL [2,0] O) ?_)))))
  exact AD.in_normal (AD.round1 (k-1) (⟨Z,by rw [<-O0 hc0.1 hc0.2];exact hv⟩) Z (sF O) sr)
 ·simp only [Bool.and_eq_true,Bool.or_eq_true,Bool.and_eq_false_iff,Bool.or_eq_false_iff,Bool.not_eq_true',Bool.not_eq_false',decide_eq_true_eq,decide_eq_false_iff_not] at hc0
  have hstop:DL bs k=k:=Ol Z
  refine AF.exit (AD.then_exit (AD.round1_exit (AD.in_exit (q2 (AO O ?_)))))
  exact AK O (AE.nil (AD.subF (sL [2,0] O) (AD.then_ (AF.ret (AP O (Ad (v:=(Value.slice (some ⟨b,0,none⟩) k c)) O) (λw hw=>⟨by rw [<-hv,hstop],hw.out⟩))))))
theorem JV (x y c:Nat) (hx:x<4294967296) (hy:y<4294967296) (hc:c<=1) (w:World)  :Calls prog 144 #[(vK .u32 x),(vK .u32 y),(vK .u32 c)] w (Am w (Value.tuple #[(vK .u32 ((x+y+c)%4294967296)),(vK .u32 ((x+y+c)/4294967296))])):=by
 refine Ac (args:=[(vK .u32 x),(vK .u32 y),(vK .u32 c)]) func144 O O (Ab O) (AF.subF (sL [0,1,2] O) (q4 (AK O (AK O (AE.nil ?_)))))
 refine q2 (AO O (AG (Aq (c:=((x:Nat):Int)) O underlying83 underlying53 (BY Z)) O (AO O (AG (Aq (c:=((y:Nat):Int)) O underlying83 underlying53 (BY Z)) O (AG (AX (c:=((x+y:Nat):Int)) O O (C7 (a:=x) (b:=y) Z)) O ?_)))))
 refine AO O (AG (Aq (c:=((c:Nat):Int)) O underlying83 underlying53 (BY Z)) O (AG (AX (c:=(((x+y)+c:Nat):Int)) O O (C7 (a:=x+y) (b:=c) Z)) O (AK O (q3 (sL [6,7,8] O) (AO O ?_)))))
 refine AG (Aq (c:=((((x+y)+c)%4294967296:Nat):Int)) O underlying53 underlying83 Dt) O (AK O (q3 (sL [6,7,8] O) (AO O (AG (CZ (s:=32) (c:=((((x+y)+c)/4294967296:Nat):Int)) O O O (by decide) (FA (a:=(x+y)+c) (s:=32))) O (AG (Aq (c:=((((x+y)+c)/4294967296:Nat):Int)) O underlying53 underlying83 (CM Z)) O ?_)))))
 exact AK O (AE.nil (AD.subF (sL [6,7,8] O) (AD.then_ (AF.ret (Cm O (Ad (v:=(vK .u32 (((x+y)+c)%4294967296))) O) (Ad (v:=(vK .u32 (((x+y)+c)/4294967296))) O) (λw hw=>⟨rfl,hw.out⟩))))))
theorem Ia (x y c d:Nat) (hx:x<4294967296) (hy:y<4294967296) (hc:c<=1) (hd:d=(x+(4294967296-y)+(4294967296-c))%4294967296) (w:World)  :Calls prog 142 #[(vK .u32 x),(vK .u32 y),(vK .u32 c)] w (Am w (Value.tuple #[(vK .u32 d),(vK .u32 (Hj x (y+c)))])):=by
 have hd2:d<4294967296:=by omega
 have hb:=Qe hx hy hc hd
 have hx1:4294967295 ^^^ x<4294967296:=Nat.xor_lt_two_pow (n:=32) Z hx
 have hx2:x ^^^ y<4294967296:=Nat.xor_lt_two_pow (n:=32) hx hy
 have hx3:4294967295 ^^^ (x ^^^ y)<4294967296:=Nat.xor_lt_two_pow (n:=32) Z hx2
 have hx4:(4294967295 ^^^ x) &&& y<4294967296:=Nat.lt_of_le_of_lt Nat.and_le_right hy
 have hx5:(4294967295 ^^^ (x ^^^ y)) &&& d<4294967296:=Nat.lt_of_le_of_lt Nat.and_le_right hd2
 refine Ac (args:=[(vK .u32 x),(vK .u32 y),(vK .u32 c)]) func142 O O (Ab O) (AF.subF (sL [0,1,2] O) (q4 (AK O (AK O (AE.nil ?_)))))
 refine q2 (AO O (AO O (AG (Bz (c:=(((x+(4294967296-y))%4294967296:Nat):Int)) O O (L8 Z)) O (AO O (AG (Bz (c:=((d:Nat):Int)) O O (by rw [L8 Z,hd];exact congrArg Int.ofNat Z)) O ?_)))))
 refine AK O (q3 (sL [0,1,6,7] O) (AO O (AG (QJ (c:=((4294967295 ^^^ x:Nat):Int)) O (L6 hx)) O (AO O (AG (IZ (c:=(((4294967295 ^^^ x) &&& y:Nat):Int)) O O (MH hx1 hy)) O ?_)))))
 refine AO O (AO O (AG (Ug (c:=((x ^^^ y:Nat):Int)) O O (MA hx hy)) O (AG (QJ (c:=((4294967295 ^^^ (x ^^^ y):Nat):Int)) O (L6 hx2)) O (AO O (AG (IZ (c:=(((4294967295 ^^^ (x ^^^ y)) &&& d:Nat):Int)) O O (MH hx3 hd2)) O ?_)))))
 refine AG (Hu (c:=(((4294967295 ^^^ x) &&& y ||| (4294967295 ^^^ (x ^^^ y)) &&& d:Nat):Int)) O O (IN hx4 hx5 O)) O (AG (CZ (s:=31) (c:=((((4294967295 ^^^ x) &&& y ||| (4294967295 ^^^ (x ^^^ y)) &&& d)/2147483648:Nat):Int)) O O O (by decide) (FA (a:=(4294967295 ^^^ x) &&& y ||| (4294967295 ^^^ (x ^^^ y)) &&& d) (s:=31))) O (AK O (AE.nil (AD.subF (sL [0,1,6,7] O) (AD.then_ ?_)))))
 exact AF.ret (Cm O (Ad (v:=(vK .u32 d)) O) (Ad (v:=(vK .u32 (((4294967295 ^^^ x) &&& y ||| (4294967295 ^^^ (x ^^^ y)) &&& d)/2147483648))) O) (λw hw=>⟨by rw [<-hb],hw.out⟩))
theorem Pf (x y:Nat) (hx:x<18446744073709551616) (hy:y<18446744073709551616) (w:World)  :Calls prog 106 #[(vK .u64 x),(vK .u64 y)] w (Am w (Value.tuple #[(vK .u64 (x*y/18446744073709551616)),(vK .u64 (x*y%18446744073709551616))])):=by
 have h1:=Id (a:=x%4294967296) (b:=y%4294967296) Z Z
 have h2:=Id (a:=x/4294967296) (b:=y%4294967296) Z Z
 have h3:=Id (a:=x%4294967296) (b:=y/4294967296) Z Z
 have h4:=Id (a:=x/4294967296) (b:=y/4294967296) Z Z
 have hh:=Rv x y
 have hh2:x*y/18446744073709551616<18446744073709551616:=Nat.div_lt_of_lt_mul (Nat.mul_lt_mul'' hx hy)
 refine Ac (args:=[(vK .u64 x),(vK .u64 y)]) func106 O O (Ab O) (AF.subF (sL [0,1] O) (q4 (AK O (AK O (AE.nil ?_)))))
 refine q2 (AO O (AG (IZ (c:=((x%4294967296:Nat):Int)) O O (HW (a:=x) Z)) O (AK O (q3 (sL [0,1,4,5,6] O) (AO O ?_)))))
 refine AG (CZ (s:=32) (c:=((x/4294967296:Nat):Int)) O O O (by decide) (FA (a:=x) (s:=32))) O (AK O (q3 (sL [0,1,4,5,6,7] O) (AO O (AG (IZ (c:=((y%4294967296:Nat):Int)) O O (HW (a:=y) Z)) O (AK O ?_)))))
 refine q3 (sL [0,1,4,5,6,7,8] O) (AO O (AG (CZ (s:=32) (c:=((y/4294967296:Nat):Int)) O O O (by decide) (FA (a:=y) (s:=32))) O (AK O (q3 (sL [0,1,4,5,6,7,8,9] O) (AO O ?_)))))
 refine AO O (AG (Br (c:=(((x%4294967296)*(y%4294967296):Nat):Int)) O O (EG (a:=x%4294967296) (b:=y%4294967296) Z)) O (AK O (q3 (sL [0,1,4,5,6,7,8,9,10] O) (AO O (AO O ?_)))))
 refine AG (Br (c:=(((x/4294967296)*(y%4294967296):Nat):Int)) O O (EG (a:=x/4294967296) (b:=y%4294967296) Z)) O (AO O (AG (CZ (s:=32) (c:=((((x%4294967296)*(y%4294967296))/4294967296:Nat):Int)) O O O (by decide) (FA (a:=(x%4294967296)*(y%4294967296)) (s:=32))) O (AG (AX (c:=((((x/4294967296)*(y%4294967296))+(((x%4294967296)*(y%4294967296))/4294967296):Nat):Int)) O O (C7 (a:=(x/4294967296)*(y%4294967296)) (b:=((x%4294967296)*(y%4294967296))/4294967296) Z)) O (AK O (q3 (sL [0,1,4,5,6,7,8,9,11] O) ?_)))))
 refine AO O (AG (IZ (c:=(((((x/4294967296)*(y%4294967296))+(((x%4294967296)*(y%4294967296))/4294967296))%4294967296:Nat):Int)) O O (HW (a:=((x/4294967296)*(y%4294967296))+(((x%4294967296)*(y%4294967296))/4294967296)) Z)) O (AK O (q3 (sL [0,1,4,5,6,7,8,9,11,12] O) (AO O (AG (CZ (s:=32) (c:=(((((x/4294967296)*(y%4294967296))+(((x%4294967296)*(y%4294967296))/4294967296))/4294967296:Nat):Int)) O O O (by decide) (FA (a:=((x/4294967296)*(y%4294967296))+(((x%4294967296)*(y%4294967296))/4294967296)) (s:=32))) O ?_)))))
 refine AK O (q3 (sL [0,1,4,5,6,7,8,9,11,12,13] O) (AO O (AO O (AO O (AG (Br (c:=(((x%4294967296)*(y/4294967296):Nat):Int)) O O (EG (a:=x%4294967296) (b:=y/4294967296) Z)) O ?_)))))
 refine AG (AX (c:=((((((x/4294967296)*(y%4294967296))+(((x%4294967296)*(y%4294967296))/4294967296))%4294967296)+((x%4294967296)*(y/4294967296)):Nat):Int)) O O (C7 (a:=(((x/4294967296)*(y%4294967296))+(((x%4294967296)*(y%4294967296))/4294967296))%4294967296) (b:=(x%4294967296)*(y/4294967296)) Z)) O (AK O (q3 (sL [0,1,4,5,6,7,8,9,11,12,13] O) (AO O (AO O (AG (Br (c:=(((x/4294967296)*(y/4294967296):Nat):Int)) O O (EG (a:=x/4294967296) (b:=y/4294967296) Z)) O ?_)))))
 refine AO O (AG (AX (c:=((((x/4294967296)*(y/4294967296))+((((x/4294967296)*(y%4294967296))+(((x%4294967296)*(y%4294967296))/4294967296))/4294967296):Nat):Int)) O O (C7 (a:=(x/4294967296)*(y/4294967296)) (b:=(((x/4294967296)*(y%4294967296))+(((x%4294967296)*(y%4294967296))/4294967296))/4294967296) Z)) O (AO O (AG (CZ (s:=32) (c:=(((((((x/4294967296)*(y%4294967296))+(((x%4294967296)*(y%4294967296))/4294967296))%4294967296)+((x%4294967296)*(y/4294967296)))/4294967296:Nat):Int)) O O O (by decide) (FA (a:=((((x/4294967296)*(y%4294967296))+(((x%4294967296)*(y%4294967296))/4294967296))%4294967296)+((x%4294967296)*(y/4294967296))) (s:=32))) O (AG (AX (c:=((x*y/18446744073709551616:Nat):Int)) O O (by rw [<-Int.natCast_add,hh];exact BY hh2)) O (AK O ?_)))))
 refine q3 (sL [0,1,4,5,6,7,8,9,11,12] O) (AO O (AO O (AG (Br (c:=((x*y%18446744073709551616:Nat):Int)) O O RU) O (AK O (AE.nil ?_)))))
 exact AD.subF (sL [0,1,4,5,6,7,8,9,11,12] O) (AD.then_ (AF.ret (Cm O (Ad (v:=(vK .u64 (x*y/18446744073709551616))) O) (Ad (v:=(vK .u64 (x*y%18446744073709551616))) O) (λw hw=>⟨rfl,hw.out⟩))))
theorem Qr (hi lo y:Nat) (hh:hi<y) (hl:lo<4294967296) (hy:y<4294967296) (w:World)  :Calls prog 183 #[(vK .u32 hi),(vK .u32 lo),(vK .u32 y)] w (Am w (Value.tuple #[(vK .u32 ((hi*4294967296+lo)/y)),(vK .u32 ((hi*4294967296+lo)%y))])):=by
 refine Ac (args:=[(vK .u32 hi),(vK .u32 lo),(vK .u32 y)]) func183 O O (Ab O) (AF.subF (sL [0,1,2] O) (q4 (AK O (AK O (AE.nil ?_)))))
 refine q1 (q4 (AO O (AG (CL (c:=(decide (y≠0))) O O (V8 (a:=y) (b:=0))) O (AO O ?_))))
 refine AE.mid (FM:=[(0,(vK .u32 hi)),(1,(vK .u32 lo)),(2,(vK .u32 y)),(6,(Value.int .u32 (0:Int))),(7,(Value.int .u32 (0:Int))),(9,(vK .u32 y)),(10,(Value.bool (decide (y≠0)))),(11,(Value.bool (decide (y≠0)))),(15,(Value.bool ((decide (y≠0))&&(decide (y<=hi)))))]) (LM:=[]) 4 ?_ ?_
 ·rcases Bool.eq_false_or_eq_true (decide (y≠0)) with hg1|hg1
  ·skip
   refine AE.retell (k:=11) (u:=Value.bool true) O (by rw [hg1]) ?_
   have hg1':=hg1
   replace hg1':=of_decide_eq_true hg1'
   exact AE.step (v:=(vK .u32 y)) (AB O) (Az O) O (Ab O) (AE.step (v:=(vK .u32 hi)) (AB O) (Az O) O (Ab O) (AE.step (v:=(Value.bool (decide (y<=hi)))) (AB O) (HL (c:=(decide (y<=hi))) O O (SP (a:=y) (b:=hi))) O (Ab O) (AG (v:=(Value.bool (decide (y<=hi)))) (Ah O O) O (AE.nil (AD.mid (sS O (sS O (sS O (sS O (sS O (sS O (sS O (sS (by first|rfl|(rw [hg1];rfl)|rw [hg1]) (sS (by first|rfl|(rw [hg1];rfl)|rw [hg1]) (sN)))))))))) (List.Sublist.refl _))))))
  ·skip
   refine AE.retell (k:=11) (u:=Value.bool false) O (by rw [hg1]) ?_
   have hg1':=hg1
   replace hg1':=of_decide_eq_false hg1'
   exact AE.skip (AR O) O (Ab O) (AE.skip (AR O) O (Ab O) (AE.skip (AR O) O (Ab O) (AG (v:=(Value.bool false)) (AU O O) O (AE.nil (AD.mid (sS O (sS O (sS O (sS O (sS O (sS O (sS O (sS (by first|rfl|(rw [hg1];rfl)|rw [hg1]) (sS (by first|rfl|(rw [hg1];rfl)|rw [hg1]) (sN)))))))))) (List.Sublist.refl _))))))
 refine AE.nil (AD.subF (sL [0,1,2,6,7,15] O) (AD.then_ ?_))
 refine AF.cond O (λhc0=>?_) (λhc0=>?_)
 ·simp only [Bool.and_eq_true,Bool.or_eq_true,Bool.and_eq_false_iff,Bool.or_eq_false_iff,Bool.not_eq_true',Bool.not_eq_false',decide_eq_true_eq,decide_eq_false_iff_not] at hc0
  exfalso;omega
 ·simp only [Bool.and_eq_true,Bool.or_eq_true,Bool.and_eq_false_iff,Bool.or_eq_false_iff,Bool.not_eq_true',Bool.not_eq_false',decide_eq_true_eq,decide_eq_false_iff_not] at hc0
  refine AF.skip (q2 (AO O (AG (Aq (c:=((hi:Nat):Int)) O underlying83 underlying53 (BY Z)) O (AG (v:=(vK .u64 (hi*4294967296))) (FW (s:=32) O O O (by decide) (Fk (s:=32) Z)) O (AO O ?_)))))
  refine AG (Aq (c:=((lo:Nat):Int)) O underlying83 underlying53 (BY Z)) O (AG (Hu (c:=((hi*4294967296+lo:Nat):Int)) O O (IM Z Z (by rw [Nat.or_comm,Nat.add_comm];exact GO (s:=32) Z))) O ?_)
  have hq:(hi*4294967296+lo)/y<4294967296:=Nat.div_lt_of_lt_mul (by have h9:(hi+1)*4294967296<=y*4294967296:=Nat.mul_le_mul_right _ hh;omega)
  have hr:(hi*4294967296+lo)%y<y:=Nat.mod_lt _ Z
  refine AK O (q6 (sL [0,2,6,7,8] O) (C4 [(0,true),(1,true),(2,true),(3,true),(4,true),(5,true),(6,true),(7,true),(8,true),(9,true),(10,true),(11,true)] sr (Bo O (Bo O (Ay O (Aq (c:=((y:Nat):Int)) O underlying83 underlying53 (BY Z)) ?_)))))
  refine Ay O (Fh (c:=(((hi*4294967296+lo)/y:Nat):Int)) O O Z (Ig (a:=hi*4294967296+lo) (b:=y) Z)) (Ay O (Aq (c:=(((hi*4294967296+lo)/y:Nat):Int)) O underlying53 underlying83 (CM Z)) (Bo O (Bo O (Ay O (Aq (c:=((y:Nat):Int)) O underlying83 underlying53 (BY Z)) (Ay O (B6 (c:=(((hi*4294967296+lo)%y:Nat):Int)) O O Z (HH (a:=hi*4294967296+lo) (b:=y))) ?_)))))
  refine Ay O (Aq (c:=(((hi*4294967296+lo)%y:Nat):Int)) O underlying53 underlying83 (CM Z)) (EZ O (EZ O (AS.nil (AD.subF (sL [0,2,6,7] O) (AD.then_ ?_)))))
  exact AF.ret (Cm O (Ad (v:=(vK .u32 ((hi*4294967296+lo)/y))) O) (Ad (v:=(vK .u32 ((hi*4294967296+lo)%y))) O) (λw hw=>⟨rfl,hw.out⟩))
theorem QN (x:Nat) (hx:x<4294967296) (w:World)  :Calls prog 166 #[(vK .u32 x)] w (Am w (vN (bl x))):=by
 refine Ac (args:=[(vK .u32 x)]) func166 O O (Ab O) (AF.subF (sL [0] O) (q4 (AK O (AE.nil (q1 ?_)))))
 refine q4 (AO O (AG (CQ (c:=(decide (65536<=x))) O O (SP (a:=65536) (b:=x))) O (AE.nil (AD.subF (sL [0,2,4] O) (AD.then_ ?_)))))
 refine AF.jn2 (tg λ(u:Nat) (n:Nat)=>u<65536/\n<=16/\bl x=bl u+n) (tg λ(u:Nat) (n:Nat)=>[(0,(vK .u32 u)),(2,(vN n))]) (tg λ(u:Nat) (n:Nat)=>[]) ?_ ?_
 ·skip
  refine AF.cond O (λhc0=>?_) (λhc0=>?_)
  ·replace hc0:=of_decide_eq_true hc0
   refine q4 (AO O (AG (CZ (s:=16) (c:=((x/65536:Nat):Int)) O O O (by decide) (FA (a:=x) (s:=16))) O (AK O (AE.nil (AD.subF (sL [0,2] O) ?_)))))
   exact AD.then_ (AF.region (AK O (AE.nil (AD.join2 (x/65536) 16 (⟨Z,Z,MC (k:=16) hc0⟩) (sF O) sr))))
  ·replace hc0:=of_decide_eq_false hc0
   exact AF.skip (AD.join2 x 0 (⟨Z,Z,rfl⟩) (sF O) sr)
 ·intro u n hJ
  obtain ⟨hu,hn,hv⟩:=hJ
  refine q1 (q4 (AO O (AG (CQ (c:=(decide (256<=u))) O O (SP (a:=256) (b:=u))) O (AE.nil (AD.subF (sL [0,2,8] O) ?_)))))
  refine AD.then_ ?_
  refine AF.jn2 (tg λ(u2:Nat) (n2:Nat)=>u2<256/\n2<=24/\bl x=bl u2+n2) (tg λ(u2:Nat) (n2:Nat)=>[(0,(vK .u32 u2)),(2,(vN n2))]) (tg λ(u2:Nat) (n2:Nat)=>[]) ?_ ?_
  ·skip
   refine AF.cond O (λhc1=>?_) (λhc1=>?_)
   ·replace hc1:=of_decide_eq_true hc1
    refine q4 (AO O (AG (CZ (s:=8) (c:=((u/256:Nat):Int)) O O O (by decide) (FA (a:=u) (s:=8))) O (AK O (AE.nil (AD.subF (sL [0,2] O) ?_)))))
    refine AD.then_ (AF.region (AO O (AG (AX (c:=((n+8:Nat):Int)) O O (AY (a:=n) (b:=8) Z)) O (AK O (AE.nil ?_)))))
    exact AD.subF (sL [0,2] O) (AD.join2 (u/256) (n+8) (⟨Z,Z,by rw [hv,Tv hc1];omega⟩) (sF O) sr)
   ·replace hc1:=of_decide_eq_false hc1
    exact AF.skip (AD.join2 u n (⟨Z,Z,hv⟩) (sF O) sr)
  ·intro u2 n2 hJ
   obtain ⟨hu2,hn2,hv2⟩:=hJ
   refine q2 (AO O (AO O (AG (Aq (c:=((u2:Nat):Int)) O underlying83 underlying5 (Q9 Z)) O ?_)))
   have hb8:bl u2<=8:=Rh (k:=8) hu2
   refine AG (v:=(vK .u8 (bl u2))) (G1 (j:=u2) (m:=bl u2) O O underlying9 (Uk (by kernel_rfl) hu2) Z) O (AG (Aq (c:=((bl u2:Nat):Int)) O underlying5 underlying3 (CC Z)) O (AG (AX (c:=((bl x:Nat):Int)) O O (by rw [hv2,Int.add_comm,<-Int.natCast_add];exact CC Z)) O (AK O (AE.nil (AD.subF (sL [0,2] O) ?_)))))
   exact AD.then_ (AF.ret (AP O (Ad (v:=(vN (bl x))) O) (λw hw=>⟨rfl,hw.out⟩)))
theorem SA (x:Nat) (hx:x<4294967296) (w:World)  :Calls prog 184 #[(vK .u32 x)] w (Am w (vN (32-bl x))):=by
 have hb:=Rh (k:=32) hx
 refine Ac (args:=[(vK .u32 x)]) func184 O O (Ab O) (AF.subF (sL [0] O) (q4 (AK O (AE.nil (q2 ?_)))))
 refine AO O (BV call166 (QN _ Z) O (AG (Bz (c:=((32-(bl x):Nat):Int)) O O (CV (a:=32) (b:=bl x) Z Z)) O (AK O (AE.nil (AD.subF (sL [2] O) ?_)))))
 exact AD.then_ (AF.ret (AP O (Ad (v:=(vN (32-(bl x)))) O) (λw hw=>⟨rfl,hw.out⟩)))
theorem TF (z:Int) (hz:-9223372036854775808<=z) (hz2:z<9223372036854775808) (w:World)  :Calls prog 221 #[(vI z)] w (Am w (vI z.sign)):=by
 refine Ac (args:=[(vI z)]) func221 O O (Ab O) (AF.subF (sL [0] O) (q4 (AK O (AE.nil (q2 ?_)))))
 refine AO O (AG (GL (c:=(if z<1 then z else 1)) O O O) O (AG (FS (c:=z.sign) O O (Rn z)) O (AK O (AE.nil (AD.subF (sL [2] O) ?_)))))
 exact AD.then_ (AF.ret (AP O (Ad (v:=(vI z.sign)) O) (λw hw=>⟨rfl,hw.out⟩)))
end
section
section
variable {P:Program} {n:Nat} {F:List (Nat×Value)} {w0:BL} {L:List As} {x y:Operand} {d:Option Tmp} {t:TypeId} {p:String} {af:Array Edge} {g:Option (Nat×Bool)}
def Eu (P:Program) (D:Nat) (T:TypeId) (u v:Value) (b:Bool):Prop:=∀w,(Op.equalIn D T u v).run P w=.ok b w
def HE (P:Program) (D:Nat) (xs ys:List Value) (fs:List Field) (b:Bool):Prop:=∀w,(Op.eqFields D xs.toArray ys.toArray fs).run P w=.ok b w
theorem Eu.int {D:Nat} {T:TypeId} {k k':IntKind} {a b:Int} (h:P.underlying T=some (.int k')):Eu P (D+1) T (.int k a) (.int k b) (a == b):=λw=>run_equalIn_int w D T k k' a b h
theorem Eu.bool {D:Nat} {T:TypeId} {a b:Bool} (h:P.underlying T=some .bool):Eu P (D+1) T (.bool a) (.bool b) (a == b):=λw=>run_equalIn_bool' w D T a b h
theorem Eu.str {D:Nat} {T:TypeId} {a b:ByteArray} (h:P.underlying T=some .string):Eu P (D+1) T (.string a) (.string b) (a.toList == b.toList):=λw=>run_equalIn_string w D T a b h
theorem Eu.struct {D:Nat} {T:TypeId} {xs ys:List Value} {b:Bool} {fs:Array Field} (hu:P.underlying T=some (.struct fs)) (hp:P.stoodInHeld T=false) (h:HE P D xs ys fs.toList b):Eu P (D+1) T (.agg xs.toArray) (.agg ys.toArray) b:=λw=>by
  have e:P.fieldsOf T=fs:=by simp [Program.fieldsOf,hu]
  rw [run_equalIn_struct w D T _ _ (by rw [e];exact hu) hp,e];exact h w
theorem HE.nil {D:Nat} {xs ys:List Value}:HE P D xs ys [] true:=λw=>rfl
theorem HE.one {D : Nat} {xs ys : List Value} {f : Field} {fs : List Field} {a b : Value} {r s : Bool} (hn : f.name ≠ "_") (hg : ∀ w, (isAgg f.type).run P w = .ok false w) (ha : xs[f.offset]? = some a) (hb : ys[f.offset]? = some b)
    (h:Eu P D f.type a b r) (h2:HE P D xs ys fs s):HE P D xs ys (f::fs) (r&&s):=λw=>by
  have e1:(part f.type xs.toArray f.offset).run P w=.ok a w:=by simp [part,hg,ha]
  have e2:(part f.type ys.toArray f.offset).run P w=.ok b w:=by simp [part,hg,hb]
  simp only [Op.eqFields,Sem.run_ite,if_pos hn,Sem.run_bind,e1,e2,Result.andThen_ok,h w]
  cases r
  · simp
  · simp [h2 w]
theorem HE.agg {D k : Nat} {xs ys us bs : List Value} {f : Field} {fs : List Field} {r s : Bool} (hn : f.name ≠ "_") (hg : ∀ w, (isAgg f.type).run P w = .ok true w) (hs : ∀ w, (sizeOf f.type).run P w = .ok k w)
    (ha:(xs.drop f.offset).take k=us) (hb:(ys.drop f.offset).take k=bs)
    (h:Eu P D f.type (.agg us.toArray) (.agg bs.toArray) r) (h2:HE P D xs ys fs s):HE P D xs ys (f::fs) (r&&s):=λw=>by
  have ex:∀l:List Value,l.toArray.extract f.offset (f.offset+k)=((l.drop f.offset).take k).toArray:=λl=>by simp [List.extract_eq_take_drop]
  have e1:(part f.type xs.toArray f.offset).run P w=.ok (.agg us.toArray) w:=by simp [part,hg,hs,ex,ha]
  have e2:(part f.type ys.toArray f.offset).run P w=.ok (.agg bs.toArray) w:=by simp [part,hg,hs,ex,hb]
  simp only [Op.eqFields,Sem.run_ite,if_pos hn,Sem.run_bind,e1,e2,Result.andThen_ok,h w]
  cases r
  · simp
  · simp [h2 w]
theorem Bx {xs ys:List Value} {c:Bool} {tx ty:TypeId} (hx:evF F x=some (.agg xs.toArray)) (hy:evF F y=some (.agg ys.toArray)) (hg:P.eqGuardType P.depth tx=false) (hc:Eu P 10000 tx (.agg xs.toArray) (.agg ys.toArray) c) :
    Ex P n F w0 L ⟨d,.binOp .eql tx x y ty,t,p,af,g⟩ (.bool c):=λA w ha _=>by
  simp only [execOp,ha.ev hx,ha.ev hy,Sem.run_bind,run_eqGuard_agg w .eql tx x y _ _ hg,Result.andThen_ok,run_eql_struct,hc w,Sem.run_pure]
end
theorem Rf {a b:Nat} (ha:¬a<18446744073709551616) (hb:¬b<18446744073709551616) (h:Bj a=Bj b):a=b:=by
  rw [EJ ha,EJ hb] at h
  have h1:bytesN (AL a)=bytesN (AL b):=by
    have lt:∀(xs:List Nat),∀x∈bytesN xs,x<256:=λxs x hx=>by
      simp only [bytesN,List.mem_flatMap,List.mem_cons,List.not_mem_nil,or_false] at hx
      obtain ⟨y,_,hy⟩:=hx
      omega
    have inj:∀(l r:List Nat),(∀x∈l,x<256)->(∀x∈r,x<256)->l.map UInt8.ofNat=r.map UInt8.ofNat->l=r:=by
      intro l
      induction l with
      | nil=>intro r _ _ h;cases r<;>simp_all
      | cons x l ih =>
        intro r hl hr h
        cases r with
        | nil=>simp at h
        | cons y r =>
          simp only [List.map_cons,List.cons.injEq] at h
          have e:x=y:=by
            have h3:=congrArg UInt8.toNat h.1
            have h4:=hl x (by simp)
            have h5:=hr y (by simp)
            simp at h3
            omega
          rw [e,ih r (λz hz=>hl z (by simp [hz])) (λz hz=>hr z (by simp [hz])) h.2]
    refine inj _ _ (lt _) (lt _) ?_
    have:=congrArg (λs:ByteArray=>s.data.toList) h
    simpa [Ct] using this
  have h2:AL a=AL b:=by
    have hl:(AL a).length=(AL b).length:=by
      have:=congrArg List.length h1
      simp only [B4] at this
      omega
    apply List.ext_getElem hl
    intro i hi hi'
    have g:∀k,k<4->(AL a).getD i 0/256^k%256=(AL b).getD i 0/256^k%256:=λk hk=>by rw [<-E5 _ _ _ hi hk,<-E5 _ _ _ hi' hk,h1]
    have wa:=(Bp a).getD i
    have wb:=(Bp b).getD i
    have ea:(AL a).getD i 0=(AL a)[i]:=by simp [hi]
    have eb:(AL b).getD i 0=(AL b)[i]:=by simp [hi']
    rw [ea,eb] at g
    rw [ea] at wa
    rw [eb] at wb
    have g0:=g 0 Z
    have g1:=g 1 Z
    have g2:=g 2 Z
    have g3:=g 3 Z
    simp only [Nat.pow_zero,Nat.div_one,Nat.pow_one,show (256:Nat)^2=65536 from rfl,show (256:Nat)^3=16777216 from rfl] at g0 g1 g2 g3
    omega
  rw [<-CN a,<-CN b,h2]
theorem Sh (a b:Nat):((((Bw a:Nat):Int) == ((Bw b:Nat):Int))&&(((Bj a).toList == (Bj b).toList)&&true))=decide (a=b):=by
  by_cases e:a=b
  · subst e;simp
  · rw [decide_eq_false e]
    by_cases ha:a<18446744073709551616
    · by_cases hb:b<18446744073709551616
      · rw [Bf ha,Bf hb]
        have:((a:Int) == (b:Int))=false:=by simp;omega
        rw [this];rfl
      · have h1:=M5 hb
        rw [GI ha,<-beq_toListBytes]
        have:(ByteArray.empty == Bj b)=false:=by
          rw [beq_toListBytes,ByteArray.toList_eq,ByteArray.toList_eq,EJ hb]
          cases hl:(Ct (bytesN (AL b))).data.toList with
          | nil =>
            have h3:=congrArg List.length hl
            simp [Ct,B4] at h3
            unfold nw at h1
            omega
          | cons=>rfl
        rw [this];simp
    · by_cases hb:b<18446744073709551616
      · have h1:=M5 ha
        rw [GI hb,<-beq_toListBytes]
        have:(Bj a == ByteArray.empty)=false:=by
          rw [beq_toListBytes,ByteArray.toList_eq,ByteArray.toList_eq,EJ ha]
          cases hl:(Ct (bytesN (AL a))).data.toList with
          | nil =>
            have h3:=congrArg List.length hl
            simp [Ct,B4] at h3
            unfold nw at h1
            omega
          | cons=>rfl
        rw [this];simp
      · rw [<-beq_toListBytes]
        have:(Bj a == Bj b)=false:=by
          cases hbb:Bj a == Bj b with
          | false=>rfl
          | true =>
            rw [beq_toListBytes] at hbb
            have h2:(Bj a).toList=(Bj b).toList:=by simpa using hbb
            rw [ByteArray.toList_eq,ByteArray.toList_eq] at h2
            have h3:Bj a=Bj b:=by
              cases hA:Bj a with|mk da=>cases hB:Bj b with|mk db =>
                rw [hA,hB] at h2
                congr 1
                exact Array.toList_inj.1 h2
            exact absurd (Rf ha hb h3) e
        rw [this];simp
theorem Ft (D a b:Nat):Eu prog (D+2) 55 (.agg (AT a).toArray) (.agg (AT b).toArray) (decide (a=b)):=by
  rw [<-Sh]
  exact Eu.struct underlying55 Tryz.stoodInHeld55 (HE.one (by decide) isAgg53 O O (Eu.int underlying53) (HE.one (by decide) isAgg9 O O (Eu.str underlying9) HE.nil))
end
section
set_option maxRecDepth 100000
theorem IG (n:Nat) (hn:n<18446744073709551616) (w:World)  :Calls prog 102 #[(vK .u64 n)] w (Am w (aG (AT n))):=by
 refine Ac (args:=[(vK .u64 n)]) func102 O O (Ab O) (AF.subF (sL [0] O) (q4 (al E7 O λb1=>AE.nil (q2 ?_))))
 refine AO O (AG (v:=(aG ([(vK .u64 n),(Value.string (Bj 0))]))) (AV (zs:=AT 0) (vs:=[(vK .u64 n),(Value.string (Bj 0))]) (pv:=[(0,(vK .u64 n))]) (places:=[(0,1),(1,1)]) zeroValue55 underlying55 (λw=>by simp [sizeOf9,sizeOf53]) O O) O (AE.retell (k:=4) (u:=(aG (AT n))) O (by rw [DF hn];rfl) (Au O sizeOf55 O (AE.nil (AD.subF (sL [2] O) ?_)))))
 exact AD.then_ (AF.ret (AP O (A8 (i:=0) (cs:=AT n) O O isAgg55 sizeOf55 O) (λw hw=>⟨rfl,hw.out⟩)))
theorem Jb  :Instr.fill ([(0,1),(1,1)].toArray[·]?) (AT 0).toArray []=some (AT 0).toArray:=by kernel_rfl
theorem Nz (a:Nat) (w:World)  :Calls prog 138 #[(aG (AT a))] w (Am w (Value.bool (decide (a=0)))):=by
 refine Ac (args:=[(aG (AT a))]) func138 O O (Ab O) (AF.subF (sL [0] O) (q4 (Bq (cs:=AT a) O λb1=>AK O (q3 (sL [1,2] O) ?_))))
 refine BD 0 Bv O (AG (v:=(aG (AT 0))) (AV (zs:=AT 0) (vs:=AT 0) (pv:=[]) (places:=[(0,1),(1,1)]) zeroValue55 underlying55 (λw=>by simp [sizeOf9,sizeOf53]) O (Jb )) O (AG (Bx (c:=(decide (a=0))) O O eqGuardType55 (Ft 9998 a 0)) O (AK O (AE.nil (AD.subF (sL [2] O) ?_)))))
 exact AD.then_ (AF.ret (AP O (Ad (v:=(Value.bool (decide (a=0)))) O) (λw hw=>⟨rfl,hw.out⟩)))
theorem Cp (v:Nat) (hv:nw v<=1099511627776) (w:World)  :Calls prog 108 #[(aG (AT v))] w (λe w'=>∃b,e=.returned (.slice (some ⟨b,0,none⟩) (nw v) (Ax v).length)/\EU w.heap.size w w'/\w.heap.size<=b/\w'.heap[b]?=some (.cells (Ak (Ax v)).toArray 83 (0,0))):=by
 refine Ac (args:=[(aG (AT v))]) func108 O O (Ab O) (AF.subF (sL [0] O) (q4 (Bq (cs:=AT v) O λb1=>AK O (q6 (sL [1,2] O) ?_))))
 refine q4 (AG (v:=(pP b1 1)) (AA O underlying55 O sizeOf9 O) O (BO 0 (Value.string (Bj v)) Pa O (AG (Bk (c:=(decide (v<18446744073709551616))) O O CR) O (AE.nil (AD.subF (sL [1,2,8] O) ?_)))))
 refine AD.then_ ?_
 refine AF.cond O (λhc0=>?_) (λhc0=>?_)
 ·replace hc0:=of_decide_eq_true hc0
  refine q4 (AG (v:=(pP b1 0)) (AA O underlying55 O sizeOf53 O) O (BO 0 (vK .u64 (Bw v)) Fd O (AE.retell (k:=10) (u:=(vK .u64 v)) O (by rw [Bf hc0]) (AG (Aq (c:=((v%4294967296:Nat):Int)) O underlying53 underlying83 Dt) O (AG (v:=(pP b1 0)) (AA O underlying55 O sizeOf53 O) O ?_)))))
  refine BO 0 (vK .u64 (Bw v)) Fd O (AE.retell (k:=13) (u:=(vK .u64 v)) O (by rw [Bf hc0]) (AG (CZ (s:=32) (c:=((v/4294967296:Nat):Int)) O O O (by decide) (FA (a:=v) (s:=32))) O (AG (Aq (c:=((v/4294967296:Nat):Int)) O underlying53 underlying83 (CM Z)) O (AE.openV (V:=λb2=>(Value.slice (some ⟨b2,0,none⟩) 2 2)) (T:=83) (cs:=Ak ([v%4294967296,v/4294967296])) (AQ O) (BA (cs:=Ak ([v%4294967296,v/4294967296])) (pv:=[(0,(vK .u32 (v%4294967296))),(1,(vK .u32 (v/4294967296)))]) underlying187 sizeOf83 zeroValue83 (by decide) (by decide) O (by kernel_rfl)) O (Ab O) λb2=>ET call145 (λw hw=>Po _ 2 2 ([v%4294967296,v/4294967296]) (W32.cons Z (W32.cons Z (W32.nil))) (by simp) (by simp) (by simp;try omega) w (hw.get (i:=0) O)) O ?_))))
  refine AK O (AE.nil (AD.subF (sL [1,2] O) (AD.then_ (AF.ret (AD.then_ret ?_)))))
  have hpad:Ax v=[v%4294967296,v/4294967296]:=by simp [Ax,hc0]
  have hnw:nw v=DL [v%4294967296,v/4294967296] 2:=by rw [<-Mz (Tc hc0) (m:=2) (by simp),<-OD v,hpad];simp [val];congr 1;omega
  have hret:∀b:Nat,(Ending.returned (Value.slice (some ⟨b,0,none⟩) (DL ([v%4294967296,v/4294967296]) 2) 2))=.returned (Value.slice (some ⟨b,0,none⟩) (nw v) (Ax v).length):=λb=>by rw [hnw,hpad];rfl
  replace hret:=hret b2
  have hcells:(some (Obj.cells (Ak ([v%4294967296,v/4294967296])).toArray 83 (0,0)))=some (Obj.cells (Ak (Ax v)).toArray 83 (0,0)):=by rw [hpad]
  exact AP O (Ad (v:=(Value.slice (some ⟨b2,0,none⟩) (DL ([v%4294967296,v/4294967296]) 2) 2)) O) (λw hw=>⟨b2,hret,hw.out,hw.fresh (i:=0) O,(hw.get (i:=0) O).trans hcells⟩)
 ·replace hc0:=of_decide_eq_false hc0
  refine AF.skip (q2 (AG (v:=(pP b1 1)) (AA O underlying55 O sizeOf9 O) O (BO 0 (Value.string (Bj v)) Pa O (AG (v:=(vN ((Bj v).size))) (Jd O underlying9) O (AE.retell (k:=20) (u:=(vN (4*nw v))) O (by rw [EJ hc0,Ib,B4];rfl) ?_)))))
  refine AG (Fh (c:=(((4*nw v)/4:Nat):Int)) O O Z (ML (a:=4*nw v) (b:=4) Z)) O (AE.retell (k:=21) (u:=(vN (nw v))) O (by rw [Nat.mul_div_cancel_left _ Z]) (AE.openV (V:=λb2=>(Value.slice (some ⟨b2,0,none⟩) (nw v) (nw v))) (T:=83) (cs:=Ak (List.replicate (nw v) 0)) (AQ O) (Cv (m:=nw v) (c:=nw v) O O Z Z) O (Ab O) λb2=>AK O (q6 (sL [1,2,3] O) (q4 ?_))))
  refine AO O (AG (v:=(vN (nw v))) (AH O underlying187) O (AO O (AE.nil (AD.subF (sL [1,2,3,24,25] O) (AD.then_ ?_)))))
  refine AF.block ?_
  refine AF.lp2 (tg λ(i:Nat) (os:List Nat)=>i<=nw v/\os.length=nw v/\os.take i=(AL v).take i/\∀j,i<=j->os.getD j 0=0) (tg λ(i:Nat) (os:List Nat)=>[(1,(pP b1 0)),(2,(Value.slice none 0 0)),(3,(Value.slice (some ⟨b2,0,none⟩) (nw v) (nw v))),(24,(vN (nw v))),(25,(vN i))]) (tg λ(i:Nat) (os:List Nat)=>[Ae b2 83 (Ak os),Ae b1 55 (AT v)]) (tg λ(i:Nat) (os:List Nat)=>nw v-i) 0 (List.replicate (nw v) 0) (⟨Nat.zero_le _,by simp,by simp,λj _=>by simp [List.getD_eq_getElem?_getD,List.getElem?_replicate];split<;>rfl⟩) (sF O) sr (λi os hJ=>?_)
  obtain ⟨hin,hl,ht,h0⟩:=hJ
  refine q4 (AG (Af (c:=(decide (i<(nw v)))) O O (C6 (a:=i) (b:=nw v))) O (AE.nil (q1 ?_)))
  refine AF.cond O (λhc1=>?_) (λhc1=>?_)
  ·replace hc1:=of_decide_eq_true hc1
   refine AF.skip (q1 (AF.block (q4 (AO O (AK O ?_)))))
   refine q3 (sL [1,2,3,24,25,4] O) (AO O (AE.nil (AD.then_ (AF.block ?_))))
   refine AF.lp2 (tg λ(k:Nat) (xs:List Nat)=>k<=4/\xs=os.set i ((AL v).getD i 0%256^k)) (tg λ(k:Nat) (xs:List Nat)=>[(1,(pP b1 0)),(2,(Value.slice none 0 0)),(3,(Value.slice (some ⟨b2,0,none⟩) (nw v) (nw v))),(24,(vN (nw v))),(25,(vN i)),(4,(vN i)),(28,(vN k))]) (tg λ(k:Nat) (xs:List Nat)=>[Ae b2 83 (Ak xs),Ae b1 55 (AT v)]) (tg λ(k:Nat) (xs:List Nat)=>4-k) 0 os (⟨Z,by rw [Nat.pow_zero,Nat.mod_one];exact Q8 (h0 i (Nat.le_refl _))⟩) (sF O) sr (λk xs hJ=>?_)
   obtain ⟨hk,hxs⟩:=hJ
   refine q4 (AG (Af (c:=(decide (k<4))) O O (C6 (a:=k) (b:=4))) O (AE.nil (q1 ?_)))
   refine AF.cond O (λhc2=>?_) (λhc2=>?_)
   ·replace hc2:=of_decide_eq_true hc2
    refine AF.skip (q1 (AF.block (q4 (AO O (AK O ?_)))))
    refine AE.nil (AD.subF (sL [1,2,3,24,25,4,28,5] O) (AD.then_ (C4 [(0,true),(1,true),(2,true),(4,true),(5,true),(6,true),(7,true),(8,true),(9,true),(10,true),(11,true),(12,true),(13,true),(14,true),(3,false),(15,true),(16,true),(17,false)] (sl sr) ?_)))
    have hi:i<nw v:=hc1
    have hxi:xs.getD i 0=(AL v).getD i 0%256^k:=by rw [hxs];simp [hl,hi]
    have hxl:xs.length=nw v:=by rw [hxs];simp [hl]
    have hby:(AL v).getD i 0/256^k%256<256:=Nat.mod_lt _ Z
    have hget:(Bj v)[4*i+k]?=some (UInt8.ofNat ((AL v).getD i 0/256^k%256)):=by rw [EJ hc0,PV (by rw [B4];show 4*i+k<4*nw v;omega),E5 _ _ _ hi hc2]
    have hw32:xs.getD i 0<4294967296:=by rw [hxi];exact Nat.lt_of_le_of_lt (Nat.mod_le _ _) ((Bp v).getD i)
    refine Bo O (Bo O (Ay (v:=(pP b2 i)) O (AJ (j:=i) O O underlying187 sizeOf83 O Z (by simp)) (Ay (v:=(pP b1 1)) O (AA O underlying55 O sizeOf9 O) (Bn 0 (Value.string (Bj v)) Pa O (Bo O ?_)))))
    refine Ay O (Br (c:=((4*i:Nat):Int)) O O (Cd (a:=4) (b:=i) Z)) (Bo O (Ay O (AX (c:=(((4*i)+k:Nat):Int)) O O (AY (a:=4*i) (b:=k) Z)) (Ay (v:=(vK .u8 ((AL v).getD i 0/256^k%256))) O (G1 (j:=4*i+k) (m:=(AL v).getD i 0/256^k%256) O O underlying9 hget hby) (Ay O (Aq (c:=(((AL v).getD i 0/256^k%256:Nat):Int)) O underlying5 underlying83 (CM Z)) (Bo O ?_)))))
    refine Ay O (Br (c:=((8*k:Nat):Int)) O O (Cd (a:=8) (b:=k) Z)) (Ay (v:=(vK .u32 ((AL v).getD i 0/256^k%256*2^(8*k)))) O (FW (s:=8*k) O O O (show 8*k<=32 by omega) (Re (No hc2))) (AS.imp O (AG (AM (i:=0) (v:=(vK .u32 (xs.getD i 0))) O O isAgg83 (BJ (xs:=xs) (j:=i) Z)) O (AS.back (sl sr) (Ay O (Hu (c:=(((AL v).getD i 0%256^(k+1):Nat):Int)) O O (IN hw32 (No hc2) (O8 hxi))) ?_)))))
    refine Ay (v:=(pP b2 i)) O (AJ (j:=i) O O underlying187 sizeOf83 O Z (by simp)) (AS.imp O (AE.store' (i:=0) (off:=i) (vs:=[(vK .u32 ((AL v).getD i 0%256^(k+1)))]) (cs':=Ak (xs.set i ((AL v).getD i 0%256^(k+1)))) (L':=[Ae b2 83 (Ak (xs.set i ((AL v).getD i 0%256^(k+1)))),Ae b1 55 (AT v)]) (AQ O) O O O O O sizeOf83 O (CU (BR _) Z) (B7 Z) O (AS.back (sl sr) (AS.nil (AD.subF (sL [1,2,3,24,25,4,28] O) ?_)))))
    refine AD.in_normal (AD.then_ (AF.region (AG (AX (c:=((k+1:Nat):Int)) O O (AY (a:=k) (b:=1) Z)) O (AO O (AE.nil ?_)))))
    exact AD.subF (sL [1,2,3,24,25,4,28] O) (AD.round2 (k+1) (xs.set i ((AL v).getD i 0%256^(k+1))) (⟨Z,by rw [hxs,List.set_set]⟩) Z (sF O) sr)
   ·replace hc2:=of_decide_eq_false hc2
    refine AF.exit (AD.then_exit (AD.round2_exit (AD.in_exit (AD.in_normal (AD.then_ ?_)))))
    refine AF.region (AG (AX (c:=((i+1:Nat):Int)) O O (AY (a:=i) (b:=1) Z)) O (AO O (AE.nil (AD.subF (sL [1,2,3,24,25,4,28] O) ?_))))
    have hst:=M4 (ws:=AL v) (xs:=xs) hl rfl hc1 ht h0 (by rw [hxs,show k=4 by omega];congr 1;exact Nat.mod_eq_of_lt ((Bp v).getD i))
    exact AD.round2 (i+1) xs (⟨Z,hst.1,hst.2.1,hst.2.2⟩) Z (sF O) sr
  ·replace hc1:=of_decide_eq_false hc1
   refine AF.exit (AD.then_exit (AD.round2_exit (AD.in_exit (q2 (AO O ?_)))))
   refine AK O (AE.nil (AD.subF (sL [1,2,3,24,25] O) (AD.then_ (AF.ret ?_))))
   have hpad:Ax v=AL v:=by simp [Ax,hc0]
   have hos:os=AL v:=QH hl rfl hc1 ht
   have hret:∀b:Nat,(Ending.returned (Value.slice (some ⟨b,0,none⟩) (nw v) (nw v)))=.returned (Value.slice (some ⟨b,0,none⟩) (nw v) (Ax v).length):=λb=>by rw [hpad];rfl
   replace hret:=hret b2
   have hcells:(some (Obj.cells (Ak os).toArray 83 (0,0)))=some (Obj.cells (Ak (Ax v)).toArray 83 (0,0)):=by rw [hpad,hos]
   exact AP O (Ad (v:=(Value.slice (some ⟨b2,0,none⟩) (nw v) (nw v))) O) (λw hw=>⟨b2,hret,hw.out,hw.fresh (i:=0) O,(hw.get (i:=0) O).trans hcells⟩)
end
end Go.Proofs.YtfbomiejpbchdaaGreatDoor
