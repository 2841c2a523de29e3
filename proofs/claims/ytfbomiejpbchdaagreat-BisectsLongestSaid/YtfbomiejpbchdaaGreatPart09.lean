import Derived.Laws.StructEq
import Derived.Test.YtfbomiejpbchdaaGreatPart06
import Derived.Test.YtfbomiejpbchdaaGreatPart08
namespace Go.Proofs.YtfbomiejpbchdaaGreat
open Go Go.RowKit Go.Proofs.Tryz
set_option linter.unusedVariables false
set_option linter.unusedSimpArgs false
section
set_option maxRecDepth 100000
theorem UU (b m c:Nat) (bs:List Nat) (hbs:W32 bs) (hm:m<=bs.length) (hc:m<=c) (hL:c<4611686018427387904) (w:World) (hb:w.heap[b]?=some (.cells (Av bs).toArray 101 (0,0))):Calls prog 198 #[(Value.slice (some ⟨b,0,none⟩) m c)] w (Aq w (Value.slice (some ⟨b,0,none⟩) (Dz bs m) c)):=by
 refine Ae (args:=[(Value.slice (some ⟨b,0,none⟩) m c)]) func198 O O (Ac O) (AF.subF (sL [0] O) (q4 (AL O (AE.nil (q1 ?_)))))
 refine AF.block ?_
 refine AF.lp1 (tg λ(k:Nat)=>k<=m/\Dz bs k=Dz bs m) (tg λ(k:Nat)=>[(2,(Value.slice none 0 0)),(0,(Value.slice (some ⟨b,0,none⟩) k c))]) (tg λ(k:Nat)=>[]) (tg λ(k:Nat)=>k) m (⟨Nat.le_refl _,rfl⟩) (sF O) sr (λk hJ=>?_)
 obtain ⟨hk,hv⟩:=hJ
 refine AF.seq (q4 (AS O (AH (v:=(vN k)) (AG O underlying232) O (AH (CW (c:=(decide (0<k))) O O (C1 (a:=0) (b:=k))) O (AS O ?_)))))
 refine AE.mid (FM:=[(2,(Value.slice none 0 0)),(0,(Value.slice (some ⟨b,0,none⟩) k c)),(3,(Value.slice (some ⟨b,0,none⟩) k c)),(4,(vN k)),(5,(Value.bool (decide (0<k)))),(6,(Value.bool (decide (0<k)))),(14,(Value.bool ((decide (0<k))&&(decide ((bs.getD (k-1) 0)=0)))))]) (LM:=[]) 8 ?_ ?_
 ·rcases Bool.eq_false_or_eq_true (decide (0<k)) with hg1|hg1
  ·skip
   refine AE.retell (k:=6) (u:=Value.bool true) O (by rw [hg1]) ?_
   have hg1':=hg1
   replace hg1':=of_decide_eq_true hg1'
   refine AE.step (v:=(Value.slice (some ⟨b,0,none⟩) k c)) (AB O) (BK O) O (Ac O) (AE.step (v:=(Value.slice (some ⟨b,0,none⟩) k c)) (AB O) (BK O) O (Ac O) (AE.step (v:=(vN k)) (AB O) (AG O underlying232) O (Ac O) (AE.step (v:=(vN (k-1))) (AB O) (Bq (c:=((k-1:Nat):Int)) O O (Co (a:=k) (b:=1) Z Z)) O (Ac O) (AE.step (v:=(pP b (k-1))) (AB O) (AM (j:=k-1) O O underlying232 sizeOf101 O Z (by simp)) O (Ac O) ?_))))
   have hx1:bs.getD (k-1) 0<4294967296:=W32.getD hbs (k-1)
   exact AE.step (v:=(vK .u32 (bs.getD (k-1) 0))) (AB O) (Bf (v:=(vK .u32 (bs.getD (k-1) 0))) O (λw' hw=>CA.at0 (hw.oldCA (by simp) (EX hb)) (BP (xs:=bs) (j:=(k-1)) Z)) isAgg101) O (Ac O) (AE.step (v:=(Value.bool (decide ((bs.getD (k-1) 0)=0)))) (AB O) (BY (c:=(decide ((bs.getD (k-1) 0)=0))) O O (Oa (a:=bs.getD (k-1) 0) (b:=0))) O (Ac O) (AH (v:=(Value.bool (decide ((bs.getD (k-1) 0)=0)))) (Aj O O) O (AE.nil (AD.mid (sS O (sS O (sS O (sS O (sS O (sS (by first|rfl|(rw [hg1];rfl)|rw [hg1]) (sS (by first|rfl|(rw [hg1];rfl)|rw [hg1]) (sN)))))))) (List.Sublist.refl _)))))
  ·skip
   refine AE.retell (k:=6) (u:=Value.bool false) O (by rw [hg1]) ?_
   have hg1':=hg1
   replace hg1':=of_decide_eq_false hg1'
   refine AE.skip (AN O) O (Ac O) (AE.skip (AN O) O (Ac O) (AE.skip (AN O) O (Ac O) (AE.skip (AN O) O (Ac O) (AE.skip (AN O) O (Ac O) (AE.skip (AN O) O (Ac O) ?_)))))
   exact AE.skip (AN O) O (Ac O) (AH (v:=(Value.bool false)) (AV O O) O (AE.nil (AD.mid (sS O (sS O (sS O (sS O (sS O (sS (by first|rfl|(rw [hg1];rfl)|rw [hg1]) (sS (by first|rfl|(rw [hg1];rfl)|rw [hg1]) (sN)))))))) (List.Sublist.refl _))))
 refine AE.nil (AD.subF (sL [2,0,14] O) (AD.then_ ?_))
 refine AF.cond O (λhc0=>?_) (λhc0=>?_)
 ·simp only [Bool.and_eq_true,Bool.or_eq_true,Bool.and_eq_false_iff,Bool.or_eq_false_iff,Bool.not_eq_true',Bool.not_eq_false',decide_eq_true_eq,decide_eq_false_iff_not] at hc0
  refine AF.skip (AD.then_ (AF.block (AF.region (AS O (AS O ?_)))))
  refine AH (v:=(vN k)) (AG O underlying232) O (AH (Bq (c:=((k-1:Nat):Int)) O O (Co (a:=k) (b:=1) Z Z)) O (AH (v:=(Value.slice (some ⟨b,0,none⟩) (k-1) c)) (Ix (m:=k-1) O O underlying232 sizeOf101 Z) O (AL O (AE.nil (AD.subF (sL [2,0] O) ?_)))))
  exact AD.in_normal (AD.round1 (k-1) (⟨Z,by rw [<-Rs hc0.1 hc0.2];exact hv⟩) Z (sF O) sr)
 ·simp only [Bool.and_eq_true,Bool.or_eq_true,Bool.and_eq_false_iff,Bool.or_eq_false_iff,Bool.not_eq_true',Bool.not_eq_false',decide_eq_true_eq,decide_eq_false_iff_not] at hc0
  have hstop:Dz bs k=k:=Q_ Z
  refine AF.exit (AD.then_exit (AD.round1_exit (AD.in_exit (q2 (AS O ?_)))))
  exact AL O (AE.nil (AD.subF (sL [2,0] O) (AD.then_ (AF.ret (AR O (Ai (v:=(Value.slice (some ⟨b,0,none⟩) k c)) O) (λw hw=>⟨by rw [<-hv,hstop],hw.out⟩))))))
theorem KA (x y c:Nat) (hx:x<4294967296) (hy:y<4294967296) (hc:c<=1) (w:World)  :Calls prog 200 #[(vK .u32 x),(vK .u32 y),(vK .u32 c)] w (Aq w (Value.tuple #[(vK .u32 ((x+y+c)%4294967296)),(vK .u32 ((x+y+c)/4294967296))])):=by
 refine Ae (args:=[(vK .u32 x),(vK .u32 y),(vK .u32 c)]) func200 O O (Ac O) (AF.subF (sL [0,1,2] O) (q4 (AL O (AL O (AE.nil ?_)))))
 refine q2 (AS O (AH (A8 (c:=((x:Nat):Int)) O underlying101 underlying45 (BW Z)) O (AS O (AH (A8 (c:=((y:Nat):Int)) O underlying101 underlying45 (BW Z)) O (AH (AW (c:=((x+y:Nat):Int)) O O (Dh (a:=x) (b:=y) Z)) O ?_)))))
 refine AS O (AH (A8 (c:=((c:Nat):Int)) O underlying101 underlying45 (BW Z)) O (AH (AW (c:=(((x+y)+c:Nat):Int)) O O (Dh (a:=x+y) (b:=c) Z)) O (AL O (q3 (sL [6,7,8] O) (AS O ?_)))))
 refine AH (A8 (c:=((((x+y)+c)%4294967296:Nat):Int)) O underlying45 underlying101 ET) O (AL O (q3 (sL [6,7,8] O) (AS O (AH (C0 (s:=32) (c:=((((x+y)+c)/4294967296:Nat):Int)) O O O (by decide) (F1 (a:=(x+y)+c) (s:=32))) O (AH (A8 (c:=((((x+y)+c)/4294967296:Nat):Int)) O underlying45 underlying101 (Ca Z)) O ?_)))))
 exact AL O (AE.nil (AD.subF (sL [6,7,8] O) (AD.then_ (AF.ret (C9 O (Ai (v:=(vK .u32 (((x+y)+c)%4294967296))) O) (Ai (v:=(vK .u32 (((x+y)+c)/4294967296))) O) (λw hw=>⟨rfl,hw.out⟩))))))
theorem J6 (x y c d:Nat) (hx:x<4294967296) (hy:y<4294967296) (hc:c<=1) (hd:d=(x+(4294967296-y)+(4294967296-c))%4294967296) (w:World)  :Calls prog 197 #[(vK .u32 x),(vK .u32 y),(vK .u32 c)] w (Aq w (Value.tuple #[(vK .u32 d),(vK .u32 (It x (y+c)))])):=by
 have hd2:d<4294967296:=by omega
 have hb:=Sq hx hy hc hd
 have hx1:4294967295 ^^^ x<4294967296:=Nat.xor_lt_two_pow (n:=32) Z hx
 have hx2:x ^^^ y<4294967296:=Nat.xor_lt_two_pow (n:=32) hx hy
 have hx3:4294967295 ^^^ (x ^^^ y)<4294967296:=Nat.xor_lt_two_pow (n:=32) Z hx2
 have hx4:(4294967295 ^^^ x) &&& y<4294967296:=Nat.lt_of_le_of_lt Nat.and_le_right hy
 have hx5:(4294967295 ^^^ (x ^^^ y)) &&& d<4294967296:=Nat.lt_of_le_of_lt Nat.and_le_right hd2
 refine Ae (args:=[(vK .u32 x),(vK .u32 y),(vK .u32 c)]) func197 O O (Ac O) (AF.subF (sL [0,1,2] O) (q4 (AL O (AL O (AE.nil ?_)))))
 refine q2 (AS O (AS O (AH (Bq (c:=(((x+(4294967296-y))%4294967296:Nat):Int)) O O (OJ Z)) O (AS O (AH (Bq (c:=((d:Nat):Int)) O O (by rw [OJ Z,hd];exact congrArg Int.ofNat Z)) O ?_)))))
 refine AL O (q3 (sL [0,1,6,7] O) (AS O (AH (TJ (c:=((4294967295 ^^^ x:Nat):Int)) O (N2 hx)) O (AS O (AH (K6 (c:=(((4294967295 ^^^ x) &&& y:Nat):Int)) O O (Nh hx1 hy)) O ?_)))))
 refine AS O (AS O (AH (Xx (c:=((x ^^^ y:Nat):Int)) O O (Nm hx hy)) O (AH (TJ (c:=((4294967295 ^^^ (x ^^^ y):Nat):Int)) O (N2 hx2)) O (AS O (AH (K6 (c:=(((4294967295 ^^^ (x ^^^ y)) &&& d:Nat):Int)) O O (Nh hx3 hd2)) O ?_)))))
 refine AH (JB (c:=(((4294967295 ^^^ x) &&& y ||| (4294967295 ^^^ (x ^^^ y)) &&& d:Nat):Int)) O O (JY hx4 hx5 O)) O (AH (C0 (s:=31) (c:=((((4294967295 ^^^ x) &&& y ||| (4294967295 ^^^ (x ^^^ y)) &&& d)/2147483648:Nat):Int)) O O O (by decide) (F1 (a:=(4294967295 ^^^ x) &&& y ||| (4294967295 ^^^ (x ^^^ y)) &&& d) (s:=31))) O (AL O (AE.nil (AD.subF (sL [0,1,6,7] O) (AD.then_ ?_)))))
 exact AF.ret (C9 O (Ai (v:=(vK .u32 d)) O) (Ai (v:=(vK .u32 (((4294967295 ^^^ x) &&& y ||| (4294967295 ^^^ (x ^^^ y)) &&& d)/2147483648))) O) (λw hw=>⟨by rw [<-hb],hw.out⟩))
theorem Uz (x y:Nat) (hx:x<18446744073709551616) (hy:y<18446744073709551616) (w:World)  :Calls prog 148 #[(vK .u64 x),(vK .u64 y)] w (Aq w (Value.tuple #[(vK .u64 (x*y/18446744073709551616)),(vK .u64 (x*y%18446744073709551616))])):=by
 have h1:=KJ (a:=x%4294967296) (b:=y%4294967296) Z Z
 have h2:=KJ (a:=x/4294967296) (b:=y%4294967296) Z Z
 have h3:=KJ (a:=x%4294967296) (b:=y/4294967296) Z Z
 have h4:=KJ (a:=x/4294967296) (b:=y/4294967296) Z Z
 have hh:=SC x y
 have hh2:x*y/18446744073709551616<18446744073709551616:=Nat.div_lt_of_lt_mul (Nat.mul_lt_mul'' hx hy)
 refine Ae (args:=[(vK .u64 x),(vK .u64 y)]) func148 O O (Ac O) (AF.subF (sL [0,1] O) (q4 (AL O (AL O (AE.nil ?_)))))
 refine q2 (AS O (AH (K6 (c:=((x%4294967296:Nat):Int)) O O (Ie (a:=x) Z)) O (AL O (q3 (sL [0,1,4,5,6] O) (AS O ?_)))))
 refine AH (C0 (s:=32) (c:=((x/4294967296:Nat):Int)) O O O (by decide) (F1 (a:=x) (s:=32))) O (AL O (q3 (sL [0,1,4,5,6,7] O) (AS O (AH (K6 (c:=((y%4294967296:Nat):Int)) O O (Ie (a:=y) Z)) O (AL O ?_)))))
 refine q3 (sL [0,1,4,5,6,7,8] O) (AS O (AH (C0 (s:=32) (c:=((y/4294967296:Nat):Int)) O O O (by decide) (F1 (a:=y) (s:=32))) O (AL O (q3 (sL [0,1,4,5,6,7,8,9] O) (AS O ?_)))))
 refine AS O (AH (B3 (c:=(((x%4294967296)*(y%4294967296):Nat):Int)) O O (E1 (a:=x%4294967296) (b:=y%4294967296) Z)) O (AL O (q3 (sL [0,1,4,5,6,7,8,9,10] O) (AS O (AS O ?_)))))
 refine AH (B3 (c:=(((x/4294967296)*(y%4294967296):Nat):Int)) O O (E1 (a:=x/4294967296) (b:=y%4294967296) Z)) O (AS O (AH (C0 (s:=32) (c:=((((x%4294967296)*(y%4294967296))/4294967296:Nat):Int)) O O O (by decide) (F1 (a:=(x%4294967296)*(y%4294967296)) (s:=32))) O (AH (AW (c:=((((x/4294967296)*(y%4294967296))+(((x%4294967296)*(y%4294967296))/4294967296):Nat):Int)) O O (Dh (a:=(x/4294967296)*(y%4294967296)) (b:=((x%4294967296)*(y%4294967296))/4294967296) Z)) O (AL O (q3 (sL [0,1,4,5,6,7,8,9,11] O) ?_)))))
 refine AS O (AH (K6 (c:=(((((x/4294967296)*(y%4294967296))+(((x%4294967296)*(y%4294967296))/4294967296))%4294967296:Nat):Int)) O O (Ie (a:=((x/4294967296)*(y%4294967296))+(((x%4294967296)*(y%4294967296))/4294967296)) Z)) O (AL O (q3 (sL [0,1,4,5,6,7,8,9,11,12] O) (AS O (AH (C0 (s:=32) (c:=(((((x/4294967296)*(y%4294967296))+(((x%4294967296)*(y%4294967296))/4294967296))/4294967296:Nat):Int)) O O O (by decide) (F1 (a:=((x/4294967296)*(y%4294967296))+(((x%4294967296)*(y%4294967296))/4294967296)) (s:=32))) O ?_)))))
 refine AL O (q3 (sL [0,1,4,5,6,7,8,9,11,12,13] O) (AS O (AS O (AS O (AH (B3 (c:=(((x%4294967296)*(y/4294967296):Nat):Int)) O O (E1 (a:=x%4294967296) (b:=y/4294967296) Z)) O ?_)))))
 refine AH (AW (c:=((((((x/4294967296)*(y%4294967296))+(((x%4294967296)*(y%4294967296))/4294967296))%4294967296)+((x%4294967296)*(y/4294967296)):Nat):Int)) O O (Dh (a:=(((x/4294967296)*(y%4294967296))+(((x%4294967296)*(y%4294967296))/4294967296))%4294967296) (b:=(x%4294967296)*(y/4294967296)) Z)) O (AL O (q3 (sL [0,1,4,5,6,7,8,9,11,12,13] O) (AS O (AS O (AH (B3 (c:=(((x/4294967296)*(y/4294967296):Nat):Int)) O O (E1 (a:=x/4294967296) (b:=y/4294967296) Z)) O ?_)))))
 refine AS O (AH (AW (c:=((((x/4294967296)*(y/4294967296))+((((x/4294967296)*(y%4294967296))+(((x%4294967296)*(y%4294967296))/4294967296))/4294967296):Nat):Int)) O O (Dh (a:=(x/4294967296)*(y/4294967296)) (b:=(((x/4294967296)*(y%4294967296))+(((x%4294967296)*(y%4294967296))/4294967296))/4294967296) Z)) O (AS O (AH (C0 (s:=32) (c:=(((((((x/4294967296)*(y%4294967296))+(((x%4294967296)*(y%4294967296))/4294967296))%4294967296)+((x%4294967296)*(y/4294967296)))/4294967296:Nat):Int)) O O O (by decide) (F1 (a:=((((x/4294967296)*(y%4294967296))+(((x%4294967296)*(y%4294967296))/4294967296))%4294967296)+((x%4294967296)*(y/4294967296))) (s:=32))) O (AH (AW (c:=((x*y/18446744073709551616:Nat):Int)) O O (by rw [<-Int.natCast_add,hh];exact BW hh2)) O (AL O ?_)))))
 refine q3 (sL [0,1,4,5,6,7,8,9,11,12] O) (AS O (AS O (AH (B3 (c:=((x*y%18446744073709551616:Nat):Int)) O O TD) O (AL O (AE.nil ?_)))))
 exact AD.subF (sL [0,1,4,5,6,7,8,9,11,12] O) (AD.then_ (AF.ret (C9 O (Ai (v:=(vK .u64 (x*y/18446744073709551616))) O) (Ai (v:=(vK .u64 (x*y%18446744073709551616))) O) (λw hw=>⟨rfl,hw.out⟩))))
theorem Su (hi lo y:Nat) (hh:hi<y) (hl:lo<4294967296) (hy:y<4294967296) (w:World)  :Calls prog 238 #[(vK .u32 hi),(vK .u32 lo),(vK .u32 y)] w (Aq w (Value.tuple #[(vK .u32 ((hi*4294967296+lo)/y)),(vK .u32 ((hi*4294967296+lo)%y))])):=by
 refine Ae (args:=[(vK .u32 hi),(vK .u32 lo),(vK .u32 y)]) func238 O O (Ac O) (AF.subF (sL [0,1,2] O) (q4 (AL O (AL O (AE.nil ?_)))))
 refine q1 (q4 (AS O (AH (CB (c:=(decide (y≠0))) O O (Zk (a:=y) (b:=0))) O (AS O ?_))))
 refine AE.mid (FM:=[(0,(vK .u32 hi)),(1,(vK .u32 lo)),(2,(vK .u32 y)),(6,(Value.int .u32 (0:Int))),(7,(Value.int .u32 (0:Int))),(9,(vK .u32 y)),(10,(Value.bool (decide (y≠0)))),(11,(Value.bool (decide (y≠0)))),(15,(Value.bool ((decide (y≠0))&&(decide (y<=hi)))))]) (LM:=[]) 4 ?_ ?_
 ·rcases Bool.eq_false_or_eq_true (decide (y≠0)) with hg1|hg1
  ·skip
   refine AE.retell (k:=11) (u:=Value.bool true) O (by rw [hg1]) ?_
   have hg1':=hg1
   replace hg1':=of_decide_eq_true hg1'
   exact AE.step (v:=(vK .u32 y)) (AB O) (BK O) O (Ac O) (AE.step (v:=(vK .u32 hi)) (AB O) (BK O) O (Ac O) (AE.step (v:=(Value.bool (decide (y<=hi)))) (AB O) (IQ (c:=(decide (y<=hi))) O O (Vn (a:=y) (b:=hi))) O (Ac O) (AH (v:=(Value.bool (decide (y<=hi)))) (Aj O O) O (AE.nil (AD.mid (sS O (sS O (sS O (sS O (sS O (sS O (sS O (sS (by first|rfl|(rw [hg1];rfl)|rw [hg1]) (sS (by first|rfl|(rw [hg1];rfl)|rw [hg1]) (sN)))))))))) (List.Sublist.refl _))))))
  ·skip
   refine AE.retell (k:=11) (u:=Value.bool false) O (by rw [hg1]) ?_
   have hg1':=hg1
   replace hg1':=of_decide_eq_false hg1'
   exact AE.skip (AN O) O (Ac O) (AE.skip (AN O) O (Ac O) (AE.skip (AN O) O (Ac O) (AH (v:=(Value.bool false)) (AV O O) O (AE.nil (AD.mid (sS O (sS O (sS O (sS O (sS O (sS O (sS O (sS (by first|rfl|(rw [hg1];rfl)|rw [hg1]) (sS (by first|rfl|(rw [hg1];rfl)|rw [hg1]) (sN)))))))))) (List.Sublist.refl _))))))
 refine AE.nil (AD.subF (sL [0,1,2,6,7,15] O) (AD.then_ ?_))
 refine AF.cond O (λhc0=>?_) (λhc0=>?_)
 ·simp only [Bool.and_eq_true,Bool.or_eq_true,Bool.and_eq_false_iff,Bool.or_eq_false_iff,Bool.not_eq_true',Bool.not_eq_false',decide_eq_true_eq,decide_eq_false_iff_not] at hc0
  exfalso;omega
 ·simp only [Bool.and_eq_true,Bool.or_eq_true,Bool.and_eq_false_iff,Bool.or_eq_false_iff,Bool.not_eq_true',Bool.not_eq_false',decide_eq_true_eq,decide_eq_false_iff_not] at hc0
  refine AF.skip (q2 (AS O (AH (A8 (c:=((hi:Nat):Int)) O underlying101 underlying45 (BW Z)) O (AH (v:=(vK .u64 (hi*4294967296))) (Gc (s:=32) O O O (by decide) (Gi (s:=32) Z)) O (AS O ?_)))))
  refine AH (A8 (c:=((lo:Nat):Int)) O underlying101 underlying45 (BW Z)) O (AH (JB (c:=((hi*4294967296+lo:Nat):Int)) O O (Jt Z Z (by rw [Nat.or_comm,Nat.add_comm];exact HP (s:=32) Z))) O ?_)
  have hq:(hi*4294967296+lo)/y<4294967296:=Nat.div_lt_of_lt_mul (by have h9:(hi+1)*4294967296<=y*4294967296:=Nat.mul_le_mul_right _ hh;omega)
  have hr:(hi*4294967296+lo)%y<y:=Nat.mod_lt _ Z
  refine AL O (q6 (sL [0,2,6,7,8] O) (Cm [(0,true),(1,true),(2,true),(3,true),(4,true),(5,true),(6,true),(7,true),(8,true),(9,true),(10,true),(11,true)] sr (Bc O (Bc O (Au O (A8 (c:=((y:Nat):Int)) O underlying101 underlying45 (BW Z)) ?_)))))
  refine Au O (Gr (c:=(((hi*4294967296+lo)/y:Nat):Int)) O O Z (KP (a:=hi*4294967296+lo) (b:=y) Z)) (Au O (A8 (c:=(((hi*4294967296+lo)/y:Nat):Int)) O underlying45 underlying101 (Ca Z)) (Bc O (Bc O (Au O (A8 (c:=((y:Nat):Int)) O underlying101 underlying45 (BW Z)) (Au O (By (c:=(((hi*4294967296+lo)%y:Nat):Int)) O O Z (Gd (a:=hi*4294967296+lo) (b:=y))) ?_)))))
  refine Au O (A8 (c:=(((hi*4294967296+lo)%y:Nat):Int)) O underlying45 underlying101 (Ca Z)) (Eg O (Eg O (AT.nil (AD.subF (sL [0,2,6,7] O) (AD.then_ ?_)))))
  exact AF.ret (C9 O (Ai (v:=(vK .u32 ((hi*4294967296+lo)/y))) O) (Ai (v:=(vK .u32 ((hi*4294967296+lo)%y))) O) (λw hw=>⟨rfl,hw.out⟩))
theorem S5 (x:Nat) (hx:x<4294967296) (w:World)  :Calls prog 191 #[(vK .u32 x)] w (Aq w (vN (bl x))):=by
 refine Ae (args:=[(vK .u32 x)]) func191 O O (Ac O) (AF.subF (sL [0] O) (q4 (AL O (AE.nil (q1 ?_)))))
 refine q4 (AS O (AH (DY (c:=(decide (65536<=x))) O O (Vn (a:=65536) (b:=x))) O (AE.nil (AD.subF (sL [0,2,4] O) (AD.then_ ?_)))))
 refine AF.jn2 (tg λ(u:Nat) (n:Nat)=>u<65536/\n<=16/\bl x=bl u+n) (tg λ(u:Nat) (n:Nat)=>[(0,(vK .u32 u)),(2,(vN n))]) (tg λ(u:Nat) (n:Nat)=>[]) ?_ ?_
 ·skip
  refine AF.cond O (λhc0=>?_) (λhc0=>?_)
  ·replace hc0:=of_decide_eq_true hc0
   refine q4 (AS O (AH (C0 (s:=16) (c:=((x/65536:Nat):Int)) O O O (by decide) (F1 (a:=x) (s:=16))) O (AL O (AE.nil (AD.subF (sL [0,2] O) ?_)))))
   exact AD.then_ (AF.region (AL O (AE.nil (AD.join2 (x/65536) 16 (⟨Z,Z,Nq (k:=16) hc0⟩) (sF O) sr))))
  ·replace hc0:=of_decide_eq_false hc0
   exact AF.skip (AD.join2 x 0 (⟨Z,Z,rfl⟩) (sF O) sr)
 ·intro u n hJ
  obtain ⟨hu,hn,hv⟩:=hJ
  refine q1 (q4 (AS O (AH (DY (c:=(decide (256<=u))) O O (Vn (a:=256) (b:=u))) O (AE.nil (AD.subF (sL [0,2,8] O) ?_)))))
  refine AD.then_ ?_
  refine AF.jn2 (tg λ(u2:Nat) (n2:Nat)=>u2<256/\n2<=24/\bl x=bl u2+n2) (tg λ(u2:Nat) (n2:Nat)=>[(0,(vK .u32 u2)),(2,(vN n2))]) (tg λ(u2:Nat) (n2:Nat)=>[]) ?_ ?_
  ·skip
   refine AF.cond O (λhc1=>?_) (λhc1=>?_)
   ·replace hc1:=of_decide_eq_true hc1
    refine q4 (AS O (AH (C0 (s:=8) (c:=((u/256:Nat):Int)) O O O (by decide) (F1 (a:=u) (s:=8))) O (AL O (AE.nil (AD.subF (sL [0,2] O) ?_)))))
    refine AD.then_ (AF.region (AS O (AH (AW (c:=((n+8:Nat):Int)) O O (AX (a:=n) (b:=8) Z)) O (AL O (AE.nil ?_)))))
    exact AD.subF (sL [0,2] O) (AD.join2 (u/256) (n+8) (⟨Z,Z,by rw [hv,Xj hc1];omega⟩) (sF O) sr)
   ·replace hc1:=of_decide_eq_false hc1
    exact AF.skip (AD.join2 u n (⟨Z,Z,hv⟩) (sF O) sr)
  ·intro u2 n2 hJ
   obtain ⟨hu2,hn2,hv2⟩:=hJ
   refine q2 (AS O (AS O (AH (A8 (c:=((u2:Nat):Int)) O underlying101 underlying5 (St Z)) O ?_)))
   have hb8:bl u2<=8:=Ur (k:=8) hu2
   refine AH (v:=(vK .u8 (bl u2))) (IK (j:=u2) (m:=bl u2) O O underlying9 (Xu (by kernel_rfl) hu2) Z) O (AH (A8 (c:=((bl u2:Nat):Int)) O underlying5 underlying3 (CZ Z)) O (AH (AW (c:=((bl x:Nat):Int)) O O (by rw [hv2,Int.add_comm,<-Int.natCast_add];exact CZ Z)) O (AL O (AE.nil (AD.subF (sL [0,2] O) ?_)))))
   exact AD.then_ (AF.ret (AR O (Ai (v:=(vN (bl x))) O) (λw hw=>⟨rfl,hw.out⟩)))
theorem WL (x:Nat) (hx:x<4294967296) (w:World)  :Calls prog 239 #[(vK .u32 x)] w (Aq w (vN (32-bl x))):=by
 have hb:=Ur (k:=32) hx
 refine Ae (args:=[(vK .u32 x)]) func239 O O (Ac O) (AF.subF (sL [0] O) (q4 (AL O (AE.nil (q2 ?_)))))
 refine AS O (BR call191 (S5 _ Z) O (AH (Bq (c:=((32-(bl x):Nat):Int)) O O (Co (a:=32) (b:=bl x) Z Z)) O (AL O (AE.nil (AD.subF (sL [2] O) ?_)))))
 exact AD.then_ (AF.ret (AR O (Ai (v:=(vN (32-(bl x)))) O) (λw hw=>⟨rfl,hw.out⟩)))
theorem Wc (z:Int) (hz:-9223372036854775808<=z) (hz2:z<9223372036854775808) (w:World)  :Calls prog 255 #[(vI z)] w (Aq w (vI z.sign)):=by
 refine Ae (args:=[(vI z)]) func255 O O (Ac O) (AF.subF (sL [0] O) (q4 (AL O (AE.nil (q2 ?_)))))
 refine AS O (AH (Fw (c:=(if z<1 then z else 1)) O O O) O (AH (FT (c:=z.sign) O O (Sh z)) O (AL O (AE.nil (AD.subF (sL [2] O) ?_)))))
 exact AD.then_ (AF.ret (AR O (Ai (v:=(vI z.sign)) O) (λw hw=>⟨rfl,hw.out⟩)))
end
section
section
variable {P:Program} {n:Nat} {F:List (Nat×Value)} {w0:BM} {L:List As} {x y:Operand} {d:Option Tmp} {t:TypeId} {p:String} {af:Array Edge} {g:Option (Nat×Bool)}
def Ej (P:Program) (D:Nat) (T:TypeId) (u v:Value) (b:Bool):Prop:=∀w,(Op.equalIn D T u v).run P w=.ok b w
def Ia (P:Program) (D:Nat) (xs ys:List Value) (fs:List Field) (b:Bool):Prop:=∀w,(Op.eqFields D xs.toArray ys.toArray fs).run P w=.ok b w
theorem Ej.int {D:Nat} {T:TypeId} {k k':IntKind} {a b:Int} (h:P.underlying T=some (.int k')):Ej P (D+1) T (.int k a) (.int k b) (a == b):=λw=>run_equalIn_int w D T k k' a b h
theorem Ej.bool {D:Nat} {T:TypeId} {a b:Bool} (h:P.underlying T=some .bool):Ej P (D+1) T (.bool a) (.bool b) (a == b):=λw=>run_equalIn_bool' w D T a b h
theorem Ej.str {D:Nat} {T:TypeId} {a b:ByteArray} (h:P.underlying T=some .string):Ej P (D+1) T (.string a) (.string b) (a.toList == b.toList):=λw=>run_equalIn_string w D T a b h
theorem Ej.struct {D:Nat} {T:TypeId} {xs ys:List Value} {b:Bool} {fs:Array Field} (hu:P.underlying T=some (.struct fs)) (hp:P.stoodInHeld T=false) (h:Ia P D xs ys fs.toList b):Ej P (D+1) T (.agg xs.toArray) (.agg ys.toArray) b:=λw=>by
  have e:P.fieldsOf T=fs:=by simp [Program.fieldsOf,hu]
  rw [run_equalIn_struct w D T _ _ (by rw [e];exact hu) hp,e];exact h w
theorem Ia.nil {D:Nat} {xs ys:List Value}:Ia P D xs ys [] true:=λw=>rfl
theorem Ia.one {D : Nat} {xs ys : List Value} {f : Field} {fs : List Field} {a b : Value} {r s : Bool} (hn : f.name ≠ "_") (hg : ∀ w, (isAgg f.type).run P w = .ok false w) (ha : xs[f.offset]? = some a) (hb : ys[f.offset]? = some b)
    (h:Ej P D f.type a b r) (h2:Ia P D xs ys fs s):Ia P D xs ys (f::fs) (r&&s):=λw=>by
  have e1:(part f.type xs.toArray f.offset).run P w=.ok a w:=by simp [part,hg,ha]
  have e2:(part f.type ys.toArray f.offset).run P w=.ok b w:=by simp [part,hg,hb]
  simp only [Op.eqFields,Sem.run_ite,if_pos hn,Sem.run_bind,e1,e2,Result.andThen_ok,h w]
  cases r
  · simp
  · simp [h2 w]
theorem Ia.agg {D k : Nat} {xs ys us bs : List Value} {f : Field} {fs : List Field} {r s : Bool} (hn : f.name ≠ "_") (hg : ∀ w, (isAgg f.type).run P w = .ok true w) (hs : ∀ w, (sizeOf f.type).run P w = .ok k w)
    (ha:(xs.drop f.offset).take k=us) (hb:(ys.drop f.offset).take k=bs)
    (h:Ej P D f.type (.agg us.toArray) (.agg bs.toArray) r) (h2:Ia P D xs ys fs s):Ia P D xs ys (f::fs) (r&&s):=λw=>by
  have ex:∀l:List Value,l.toArray.extract f.offset (f.offset+k)=((l.drop f.offset).take k).toArray:=λl=>by simp [List.extract_eq_take_drop]
  have e1:(part f.type xs.toArray f.offset).run P w=.ok (.agg us.toArray) w:=by simp [part,hg,hs,ex,ha]
  have e2:(part f.type ys.toArray f.offset).run P w=.ok (.agg bs.toArray) w:=by simp [part,hg,hs,ex,hb]
  simp only [Op.eqFields,Sem.run_ite,if_pos hn,Sem.run_bind,e1,e2,Result.andThen_ok,h w]
  cases r
  · simp
  · simp [h2 w]
theorem Bd {xs ys:List Value} {c:Bool} {tx ty:TypeId} (hx:evF F x=some (.agg xs.toArray)) (hy:evF F y=some (.agg ys.toArray)) (hg:P.eqGuardType P.depth tx=false) (hc:Ej P 10000 tx (.agg xs.toArray) (.agg ys.toArray) c) :
    Ex P n F w0 L ⟨d,.binOp .eql tx x y ty,t,p,af,g⟩ (.bool c):=λA w ha _=>by
  simp only [execOp,ha.ev hx,ha.ev hy,Sem.run_bind,run_eqGuard_agg w .eql tx x y _ _ hg,Result.andThen_ok,run_eql_struct,hc w,Sem.run_pure]
theorem KZ {xs ys:List Value} {c:Bool} {tx ty:TypeId} (hx:evF F x=some (.agg xs.toArray)) (hy:evF F y=some (.agg ys.toArray)) (hg:P.eqGuardType P.depth tx=false) (hc:Ej P 10000 tx (.agg xs.toArray) (.agg ys.toArray) c) :
    Ex P n F w0 L ⟨d,.binOp .neq tx x y ty,t,p,af,g⟩ (.bool (!c)):=λA w ha _=>by
  simp only [execOp,ha.ev hx,ha.ev hy,Sem.run_bind,run_eqGuard_agg w .neq tx x y _ _ hg,Result.andThen_ok,run_neq_struct,hc w,Sem.run_pure]
end
theorem TQ {a b:Nat} (ha:¬a<18446744073709551616) (hb:¬b<18446744073709551616) (h:Bp a=Bp b):a=b:=by
  rw [E5 ha,E5 hb] at h
  have h1:bytesN (AP a)=bytesN (AP b):=by
    have lt:∀(xs:List Nat),∀x∈bytesN xs,x<256:=λxs x hx=>by
      simp only [bytesN,List.mem_flatMap,List.mem_cons,List.not_mem_nil,or_false] at hx
      obtain ⟨y,_,hy⟩:=hx
      omega
    have inj:∀(l r:List Nat),(∀x∈l,x<256)->(∀x∈r,x<256)->l.map UInt8.ofNat=r.map UInt8.ofNat->l=r:=by
      intro l
      induction l with
      | nil=>intro r _ _ h;cases r<;>simp_all
      | cons x l ih =>
        intro r hl hr h
        cases r with
        | nil=>simp at h
        | cons y r =>
          simp only [List.map_cons,List.cons.injEq] at h
          have e:x=y:=by
            have h3:=congrArg UInt8.toNat h.1
            have h4:=hl x (by simp)
            have h5:=hr y (by simp)
            simp at h3
            omega
          rw [e,ih r (λz hz=>hl z (by simp [hz])) (λz hz=>hr z (by simp [hz])) h.2]
    refine inj _ _ (lt _) (lt _) ?_
    have:=congrArg (λs:ByteArray=>s.data.toList) h
    simpa [DJ] using this
  have h2:AP a=AP b:=by
    have hl:(AP a).length=(AP b).length:=by
      have:=congrArg List.length h1
      simp only [CH] at this
      omega
    apply List.ext_getElem hl
    intro i hi hi'
    have g:∀k,k<4->(AP a).getD i 0/256^k%256=(AP b).getD i 0/256^k%256:=λk hk=>by rw [<-Fs _ _ _ hi hk,<-Fs _ _ _ hi' hk,h1]
    have wa:=(Bw a).getD i
    have wb:=(Bw b).getD i
    have ea:(AP a).getD i 0=(AP a)[i]:=by simp [hi]
    have eb:(AP b).getD i 0=(AP b)[i]:=by simp [hi']
    rw [ea,eb] at g
    rw [ea] at wa
    rw [eb] at wb
    have g0:=g 0 Z
    have g1:=g 1 Z
    have g2:=g 2 Z
    have g3:=g 3 Z
    simp only [Nat.pow_zero,Nat.div_one,Nat.pow_one,show (256:Nat)^2=65536 from rfl,show (256:Nat)^3=16777216 from rfl] at g0 g1 g2 g3
    omega
  rw [<-Cc a,<-Cc b,h2]
theorem VV (a b:Nat):((((CK a:Nat):Int) == ((CK b:Nat):Int))&&(((Bp a).toList == (Bp b).toList)&&true))=decide (a=b):=by
  by_cases e:a=b
  · subst e;simp
  · rw [decide_eq_false e]
    by_cases ha:a<18446744073709551616
    · by_cases hb:b<18446744073709551616
      · rw [Bo ha,Bo hb]
        have:((a:Int) == (b:Int))=false:=by simp;omega
        rw [this];rfl
      · have h1:=PA hb
        rw [Hq ha,<-beq_toListBytes]
        have:(ByteArray.empty == Bp b)=false:=by
          rw [beq_toListBytes,ByteArray.toList_eq,ByteArray.toList_eq,E5 hb]
          cases hl:(DJ (bytesN (AP b))).data.toList with
          | nil =>
            have h3:=congrArg List.length hl
            simp [DJ,CH] at h3
            unfold nw at h1
            omega
          | cons=>rfl
        rw [this];simp
    · by_cases hb:b<18446744073709551616
      · have h1:=PA ha
        rw [Hq hb,<-beq_toListBytes]
        have:(Bp a == ByteArray.empty)=false:=by
          rw [beq_toListBytes,ByteArray.toList_eq,ByteArray.toList_eq,E5 ha]
          cases hl:(DJ (bytesN (AP a))).data.toList with
          | nil =>
            have h3:=congrArg List.length hl
            simp [DJ,CH] at h3
            unfold nw at h1
            omega
          | cons=>rfl
        rw [this];simp
      · rw [<-beq_toListBytes]
        have:(Bp a == Bp b)=false:=by
          cases hbb:Bp a == Bp b with
          | false=>rfl
          | true =>
            rw [beq_toListBytes] at hbb
            have h2:(Bp a).toList=(Bp b).toList:=by simpa using hbb
            rw [ByteArray.toList_eq,ByteArray.toList_eq] at h2
            have h3:Bp a=Bp b:=by
              cases hA:Bp a with|mk da=>cases hB:Bp b with|mk db =>
                rw [hA,hB] at h2
                congr 1
                exact Array.toList_inj.1 h2
            exact absurd (TQ ha hb h3) e
        rw [this];simp
theorem G5 (D a b:Nat):Ej prog (D+2) 47 (.agg (Ab a).toArray) (.agg (Ab b).toArray) (decide (a=b)):=by
  rw [<-VV]
  exact Ej.struct underlying47 Tryz.stoodInHeld47 (Ia.one (by decide) isAgg45 O O (Ej.int underlying45) (Ia.one (by decide) isAgg9 O O (Ej.str underlying9) Ia.nil))
end
section
set_option maxRecDepth 100000
theorem Jh (n:Nat) (hn:n<18446744073709551616) (w:World)  :Calls prog 147 #[(vK .u64 n)] w (Aq w (aG (Ab n))):=by
 refine Ae (args:=[(vK .u64 n)]) func147 O O (Ac O) (AF.subF (sL [0] O) (q4 (al F5 O λb1=>AE.nil (q2 ?_))))
 refine AS O (AH (v:=(aG ([(vK .u64 n),(Value.string (Bp 0))]))) (Ad (zs:=Ab 0) (vs:=[(vK .u64 n),(Value.string (Bp 0))]) (pv:=[(0,(vK .u64 n))]) (places:=[(0,1),(1,1)]) zeroValue47 underlying47 (λw=>by simp [sizeOf9,sizeOf45]) O O) O (AE.retell (k:=4) (u:=(aG (Ab n))) O (by rw [Dl hn];rfl) (Aw O sizeOf47 O (AE.nil (AD.subF (sL [2] O) ?_)))))
 exact AD.then_ (AF.ret (AR O (Az (i:=0) (cs:=Ab n) O O isAgg47 sizeOf47 O) (λw hw=>⟨rfl,hw.out⟩)))
theorem LN  :Instr.fill ([(0,1),(1,1)].toArray[·]?) (Ab 0).toArray []=some (Ab 0).toArray:=by kernel_rfl
theorem QF (a:Nat) (w:World)  :Calls prog 193 #[(aG (Ab a))] w (Aq w (Value.bool (decide (a=0)))):=by
 refine Ae (args:=[(aG (Ab a))]) func193 O O (Ac O) (AF.subF (sL [0] O) (q4 (Bg (cs:=Ab a) O λb1=>AL O (q3 (sL [1,2] O) ?_))))
 refine BA 0 CL O (AH (v:=(aG (Ab 0))) (Ad (zs:=Ab 0) (vs:=Ab 0) (pv:=[]) (places:=[(0,1),(1,1)]) zeroValue47 underlying47 (λw=>by simp [sizeOf9,sizeOf45]) O (LN )) O (AH (Bd (c:=(decide (a=0))) O O eqGuardType47 (G5 9998 a 0)) O (AL O (AE.nil (AD.subF (sL [2] O) ?_)))))
 exact AD.then_ (AF.ret (AR O (Ai (v:=(Value.bool (decide (a=0)))) O) (λw hw=>⟨rfl,hw.out⟩)))
theorem DD (v:Nat) (hv:nw v<=1099511627776) (w:World)  :Calls prog 150 #[(aG (Ab v))] w (λe w'=>∃b,e=.returned (.slice (some ⟨b,0,none⟩) (nw v) (A9 v).length)/\FE w.heap.size w w'/\w.heap.size<=b/\w'.heap[b]?=some (.cells (Av (A9 v)).toArray 101 (0,0))):=by
 refine Ae (args:=[(aG (Ab v))]) func150 O O (Ac O) (AF.subF (sL [0] O) (q4 (Bg (cs:=Ab v) O λb1=>AL O (q6 (sL [1,2] O) ?_))))
 refine q4 (AH (v:=(pP b1 1)) (AA O underlying47 O sizeOf9 O) O (BJ 0 (Value.string (Bp v)) SU O (AH (CJ (c:=(decide (v<18446744073709551616))) O O Cy) O (AE.nil (AD.subF (sL [1,2,8] O) ?_)))))
 refine AD.then_ ?_
 refine AF.cond O (λhc0=>?_) (λhc0=>?_)
 ·replace hc0:=of_decide_eq_true hc0
  refine q4 (AH (v:=(pP b1 0)) (AA O underlying47 O sizeOf45 O) O (BJ 0 (vK .u64 (CK v)) HF O (AE.retell (k:=10) (u:=(vK .u64 v)) O (by rw [Bo hc0]) (AH (A8 (c:=((v%4294967296:Nat):Int)) O underlying45 underlying101 ET) O (AH (v:=(pP b1 0)) (AA O underlying47 O sizeOf45 O) O ?_)))))
  refine BJ 0 (vK .u64 (CK v)) HF O (AE.retell (k:=13) (u:=(vK .u64 v)) O (by rw [Bo hc0]) (AH (C0 (s:=32) (c:=((v/4294967296:Nat):Int)) O O O (by decide) (F1 (a:=v) (s:=32))) O (AH (A8 (c:=((v/4294967296:Nat):Int)) O underlying45 underlying101 (Ca Z)) O (AE.openV (V:=λb2=>(Value.slice (some ⟨b2,0,none⟩) 2 2)) (T:=101) (cs:=Av ([v%4294967296,v/4294967296])) (AK O) (Ar (cs:=Av ([v%4294967296,v/4294967296])) (pv:=[(0,(vK .u32 (v%4294967296))),(1,(vK .u32 (v/4294967296)))]) underlying232 sizeOf101 zeroValue101 (by decide) (by decide) O (by kernel_rfl)) O (Ac O) λb2=>Ee call198 (λw hw=>UU _ 2 2 ([v%4294967296,v/4294967296]) (W32.cons Z (W32.cons Z (W32.nil))) (by simp) (by simp) (by simp;try omega) w (hw.get (i:=0) O)) O ?_))))
  refine AL O (AE.nil (AD.subF (sL [1,2] O) (AD.then_ (AF.ret (AD.then_ret ?_)))))
  have hpad:A9 v=[v%4294967296,v/4294967296]:=by simp [A9,hc0]
  have hnw:nw v=Dz [v%4294967296,v/4294967296] 2:=by rw [<-PT (Wv hc0) (m:=2) (by simp),<-QW v,hpad];simp [val];congr 1;omega
  have hret:∀b:Nat,(Ending.returned (Value.slice (some ⟨b,0,none⟩) (Dz ([v%4294967296,v/4294967296]) 2) 2))=.returned (Value.slice (some ⟨b,0,none⟩) (nw v) (A9 v).length):=λb=>by rw [hnw,hpad];rfl
  replace hret:=hret b2
  have hcells:(some (Obj.cells (Av ([v%4294967296,v/4294967296])).toArray 101 (0,0)))=some (Obj.cells (Av (A9 v)).toArray 101 (0,0)):=by rw [hpad]
  exact AR O (Ai (v:=(Value.slice (some ⟨b2,0,none⟩) (Dz ([v%4294967296,v/4294967296]) 2) 2)) O) (λw hw=>⟨b2,hret,hw.out,hw.fresh (i:=0) O,(hw.get (i:=0) O).trans hcells⟩)
 ·replace hc0:=of_decide_eq_false hc0
  refine AF.skip (q2 (AH (v:=(pP b1 1)) (AA O underlying47 O sizeOf9 O) O (BJ 0 (Value.string (Bp v)) SU O (AH (v:=(vN ((Bp v).size))) (LK O underlying9) O (AE.retell (k:=20) (u:=(vN (4*nw v))) O (by rw [E5 hc0,KF,CH];rfl) ?_)))))
  refine AH (Gr (c:=(((4*nw v)/4:Nat):Int)) O O Z (ON (a:=4*nw v) (b:=4) Z)) O (AE.retell (k:=21) (u:=(vN (nw v))) O (by rw [Nat.mul_div_cancel_left _ Z]) (AE.openV (V:=λb2=>(Value.slice (some ⟨b2,0,none⟩) (nw v) (nw v))) (T:=101) (cs:=Av (List.replicate (nw v) 0)) (AK O) (DN (m:=nw v) (c:=nw v) O O Z Z) O (Ac O) λb2=>AL O (q6 (sL [1,2,3] O) (q4 ?_))))
  refine AS O (AH (v:=(vN (nw v))) (AG O underlying232) O (AS O (AE.nil (AD.subF (sL [1,2,3,24,25] O) (AD.then_ ?_)))))
  refine AF.block ?_
  refine AF.lp2 (tg λ(i:Nat) (os:List Nat)=>i<=nw v/\os.length=nw v/\os.take i=(AP v).take i/\∀j,i<=j->os.getD j 0=0) (tg λ(i:Nat) (os:List Nat)=>[(1,(pP b1 0)),(2,(Value.slice none 0 0)),(3,(Value.slice (some ⟨b2,0,none⟩) (nw v) (nw v))),(24,(vN (nw v))),(25,(vN i))]) (tg λ(i:Nat) (os:List Nat)=>[Ag b2 101 (Av os),Ag b1 47 (Ab v)]) (tg λ(i:Nat) (os:List Nat)=>nw v-i) 0 (List.replicate (nw v) 0) (⟨Nat.zero_le _,by simp,by simp,λj _=>by simp [List.getD_eq_getElem?_getD,List.getElem?_replicate];split<;>rfl⟩) (sF O) sr (λi os hJ=>?_)
  obtain ⟨hin,hl,ht,h0⟩:=hJ
  refine q4 (AH (Ak (c:=(decide (i<(nw v)))) O O (C1 (a:=i) (b:=nw v))) O (AE.nil (q1 ?_)))
  refine AF.cond O (λhc1=>?_) (λhc1=>?_)
  ·replace hc1:=of_decide_eq_true hc1
   refine AF.skip (q1 (AF.block (q4 (AS O (AL O ?_)))))
   refine q3 (sL [1,2,3,24,25,4] O) (AS O (AE.nil (AD.then_ (AF.block ?_))))
   refine AF.lp2 (tg λ(k:Nat) (xs:List Nat)=>k<=4/\xs=os.set i ((AP v).getD i 0%256^k)) (tg λ(k:Nat) (xs:List Nat)=>[(1,(pP b1 0)),(2,(Value.slice none 0 0)),(3,(Value.slice (some ⟨b2,0,none⟩) (nw v) (nw v))),(24,(vN (nw v))),(25,(vN i)),(4,(vN i)),(28,(vN k))]) (tg λ(k:Nat) (xs:List Nat)=>[Ag b2 101 (Av xs),Ag b1 47 (Ab v)]) (tg λ(k:Nat) (xs:List Nat)=>4-k) 0 os (⟨Z,by rw [Nat.pow_zero,Nat.mod_one];exact UC (h0 i (Nat.le_refl _))⟩) (sF O) sr (λk xs hJ=>?_)
   obtain ⟨hk,hxs⟩:=hJ
   refine q4 (AH (Ak (c:=(decide (k<4))) O O (C1 (a:=k) (b:=4))) O (AE.nil (q1 ?_)))
   refine AF.cond O (λhc2=>?_) (λhc2=>?_)
   ·replace hc2:=of_decide_eq_true hc2
    refine AF.skip (q1 (AF.block (q4 (AS O (AL O ?_)))))
    refine AE.nil (AD.subF (sL [1,2,3,24,25,4,28,5] O) (AD.then_ (Cm [(0,true),(1,true),(2,true),(4,true),(5,true),(6,true),(7,true),(8,true),(9,true),(10,true),(11,true),(12,true),(13,true),(14,true),(3,false),(15,true),(16,true),(17,false)] (sl sr) ?_)))
    have hi:i<nw v:=hc1
    have hxi:xs.getD i 0=(AP v).getD i 0%256^k:=by rw [hxs];simp [hl,hi]
    have hxl:xs.length=nw v:=by rw [hxs];simp [hl]
    have hby:(AP v).getD i 0/256^k%256<256:=Nat.mod_lt _ Z
    have hget:(Bp v)[4*i+k]?=some (UInt8.ofNat ((AP v).getD i 0/256^k%256)):=by rw [E5 hc0,Q4 (by rw [CH];show 4*i+k<4*nw v;omega),Fs _ _ _ hi hc2]
    have hw32:xs.getD i 0<4294967296:=by rw [hxi];exact Nat.lt_of_le_of_lt (Nat.mod_le _ _) ((Bw v).getD i)
    refine Bc O (Bc O (Au (v:=(pP b2 i)) O (AM (j:=i) O O underlying232 sizeOf101 O Z (by simp)) (Au (v:=(pP b1 1)) O (AA O underlying47 O sizeOf9 O) (Be 0 (Value.string (Bp v)) SU O (Bc O ?_)))))
    refine Au O (B3 (c:=((4*i:Nat):Int)) O O (DC (a:=4) (b:=i) Z)) (Bc O (Au O (AW (c:=(((4*i)+k:Nat):Int)) O O (AX (a:=4*i) (b:=k) Z)) (Au (v:=(vK .u8 ((AP v).getD i 0/256^k%256))) O (IK (j:=4*i+k) (m:=(AP v).getD i 0/256^k%256) O O underlying9 hget hby) (Au O (A8 (c:=(((AP v).getD i 0/256^k%256:Nat):Int)) O underlying5 underlying101 (Ca Z)) (Bc O ?_)))))
    refine Au O (B3 (c:=((8*k:Nat):Int)) O O (DC (a:=8) (b:=k) Z)) (Au (v:=(vK .u32 ((AP v).getD i 0/256^k%256*2^(8*k)))) O (Gc (s:=8*k) O O O (show 8*k<=32 by omega) (SF (QS hc2))) (AT.imp O (AH (AI (i:=0) (v:=(vK .u32 (xs.getD i 0))) O O isAgg101 (BP (xs:=xs) (j:=i) Z)) O (AT.back (sl sr) (Au O (JB (c:=(((AP v).getD i 0%256^(k+1):Nat):Int)) O O (JY hw32 (QS hc2) (R8 hxi))) ?_)))))
    refine Au (v:=(pP b2 i)) O (AM (j:=i) O O underlying232 sizeOf101 O Z (by simp)) (AT.imp O (AE.store' (i:=0) (off:=i) (vs:=[(vK .u32 ((AP v).getD i 0%256^(k+1)))]) (cs':=Av (xs.set i ((AP v).getD i 0%256^(k+1)))) (L':=[Ag b2 101 (Av (xs.set i ((AP v).getD i 0%256^(k+1)))),Ag b1 47 (Ab v)]) (AK O) O O O O O sizeOf101 O (Cl (BS _) Z) (CO Z) O (AT.back (sl sr) (AT.nil (AD.subF (sL [1,2,3,24,25,4,28] O) ?_)))))
    refine AD.in_normal (AD.then_ (AF.region (AH (AW (c:=((k+1:Nat):Int)) O O (AX (a:=k) (b:=1) Z)) O (AS O (AE.nil ?_)))))
    exact AD.subF (sL [1,2,3,24,25,4,28] O) (AD.round2 (k+1) (xs.set i ((AP v).getD i 0%256^(k+1))) (⟨Z,by rw [hxs,List.set_set]⟩) Z (sF O) sr)
   ·replace hc2:=of_decide_eq_false hc2
    refine AF.exit (AD.then_exit (AD.round2_exit (AD.in_exit (AD.in_normal (AD.then_ ?_)))))
    refine AF.region (AH (AW (c:=((i+1:Nat):Int)) O O (AX (a:=i) (b:=1) Z)) O (AS O (AE.nil (AD.subF (sL [1,2,3,24,25,4,28] O) ?_))))
    have hst:=O2 (ws:=AP v) (xs:=xs) hl rfl hc1 ht h0 (by rw [hxs,show k=4 by omega];congr 1;exact Nat.mod_eq_of_lt ((Bw v).getD i))
    exact AD.round2 (i+1) xs (⟨Z,hst.1,hst.2.1,hst.2.2⟩) Z (sF O) sr
  ·replace hc1:=of_decide_eq_false hc1
   refine AF.exit (AD.then_exit (AD.round2_exit (AD.in_exit (q2 (AS O ?_)))))
   refine AL O (AE.nil (AD.subF (sL [1,2,3,24,25] O) (AD.then_ (AF.ret ?_))))
   have hpad:A9 v=AP v:=by simp [A9,hc0]
   have hos:os=AP v:=Sx hl rfl hc1 ht
   have hret:∀b:Nat,(Ending.returned (Value.slice (some ⟨b,0,none⟩) (nw v) (nw v)))=.returned (Value.slice (some ⟨b,0,none⟩) (nw v) (A9 v).length):=λb=>by rw [hpad];rfl
   replace hret:=hret b2
   have hcells:(some (Obj.cells (Av os).toArray 101 (0,0)))=some (Obj.cells (Av (A9 v)).toArray 101 (0,0)):=by rw [hpad,hos]
   exact AR O (Ai (v:=(Value.slice (some ⟨b2,0,none⟩) (nw v) (nw v))) O) (λw hw=>⟨b2,hret,hw.out,hw.fresh (i:=0) O,(hw.get (i:=0) O).trans hcells⟩)
end
end Go.Proofs.YtfbomiejpbchdaaGreat
