import Derived.Laws.StructEq
import Derived.Test.YtfbomiejpbchdaaGreatDoorPart06
import Derived.Test.YtfbomiejpbchdaaGreatDoorPart09
namespace Go.Proofs.YtfbomiejpbchdaaGreatDoor
open Go Go.RowKit Go.Proofs.Tryz
set_option linter.unusedVariables false
set_option linter.unusedSimpArgs false
section
set_option maxRecDepth 100000
theorem RH (b m c:Nat) (bs:List Nat) (hbs:W32 bs) (hm:m<=bs.length) (hc:m<=c) (hL:c<4611686018427387904) (w:World) (hb:w.heap[b]?=some (.cells (Ai bs).toArray 83 (0,0))):Calls prog 145 #[(Value.slice (some ⟨b,0,none⟩) m c)] w (Ak w (Value.slice (some ⟨b,0,none⟩) (De bs m) c)):=by
 refine Ab (args:=[(Value.slice (some ⟨b,0,none⟩) m c)]) func145 O O (Ad O) (AF.subF (sL [0] O) (q4 (AJ O (AE.nil (q1 ?_)))))
 refine AF.block ?_
 refine AF.lp1 (tg λ(k:Nat)=>k<=m/\De bs k=De bs m) (tg λ(k:Nat)=>[(2,(Value.slice none 0 0)),(0,(Value.slice (some ⟨b,0,none⟩) k c))]) (tg λ(k:Nat)=>[]) (tg λ(k:Nat)=>k) m (⟨Nat.le_refl _,rfl⟩) (sF O) sr (λk hJ=>?_)
 obtain ⟨hk,hv⟩:=hJ
 refine AF.seq (q4 (AP O (AH (v:=(vN k)) (AG O underlying187) O (AH (Cx (c:=(decide (0<k))) O O (DB (a:=0) (b:=k))) O (AP O ?_)))))
 refine AE.mid (FM:=[(2,(Value.slice none 0 0)),(0,(Value.slice (some ⟨b,0,none⟩) k c)),(3,(Value.slice (some ⟨b,0,none⟩) k c)),(4,(vN k)),(5,(Value.bool (decide (0<k)))),(6,(Value.bool (decide (0<k)))),(14,(Value.bool ((decide (0<k))&&(decide ((bs.getD (k-1) 0)=0)))))]) (LM:=[]) 8 ?_ ?_
 ·rcases Bool.eq_false_or_eq_true (decide (0<k)) with hg1|hg1
  ·skip
   refine AE.retell (k:=6) (u:=Value.bool true) O (by rw [hg1]) ?_
   have hg1':=hg1
   replace hg1':=of_decide_eq_true hg1'
   refine AE.step (v:=(Value.slice (some ⟨b,0,none⟩) k c)) (AB O) (BA O) O (Ad O) (AE.step (v:=(Value.slice (some ⟨b,0,none⟩) k c)) (AB O) (BA O) O (Ad O) (AE.step (v:=(vN k)) (AB O) (AG O underlying187) O (Ad O) (AE.step (v:=(vN (k-1))) (AB O) (By (c:=((k-1:Nat):Int)) O O (CX (a:=k) (b:=1) Z Z)) O (Ad O) (AE.step (v:=(pP b (k-1))) (AB O) (AI (j:=k-1) O O underlying187 sizeOf83 O Z (by simp)) O (Ad O) ?_))))
   have hx1:bs.getD (k-1) 0<4294967296:=W32.getD hbs (k-1)
   exact AE.step (v:=(vK .u32 (bs.getD (k-1) 0))) (AB O) (Ba (v:=(vK .u32 (bs.getD (k-1) 0))) O (λw' hw=>CA.at0 (hw.oldCA (by simp) (Ea hb)) (BI (xs:=bs) (j:=(k-1)) Z)) isAgg83) O (Ad O) (AE.step (v:=(Value.bool (decide ((bs.getD (k-1) 0)=0)))) (AB O) (BZ (c:=(decide ((bs.getD (k-1) 0)=0))) O O (NU (a:=bs.getD (k-1) 0) (b:=0))) O (Ad O) (AH (v:=(Value.bool (decide ((bs.getD (k-1) 0)=0)))) (Al O O) O (AE.nil (AD.mid (sS O (sS O (sS O (sS O (sS O (sS (by first|rfl|(rw [hg1];rfl)|rw [hg1]) (sS (by first|rfl|(rw [hg1];rfl)|rw [hg1]) (sN)))))))) (List.Sublist.refl _)))))
  ·skip
   refine AE.retell (k:=6) (u:=Value.bool false) O (by rw [hg1]) ?_
   have hg1':=hg1
   replace hg1':=of_decide_eq_false hg1'
   refine AE.skip (AV O) O (Ad O) (AE.skip (AV O) O (Ad O) (AE.skip (AV O) O (Ad O) (AE.skip (AV O) O (Ad O) (AE.skip (AV O) O (Ad O) (AE.skip (AV O) O (Ad O) ?_)))))
   exact AE.skip (AV O) O (Ad O) (AH (v:=(Value.bool false)) (AW O O) O (AE.nil (AD.mid (sS O (sS O (sS O (sS O (sS O (sS (by first|rfl|(rw [hg1];rfl)|rw [hg1]) (sS (by first|rfl|(rw [hg1];rfl)|rw [hg1]) (sN)))))))) (List.Sublist.refl _))))
 refine AE.nil (AD.subF (sL [2,0,14] O) (AD.then_ ?_))
 refine AF.cond O (λhc0=>?_) (λhc0=>?_)
 ·simp only [Bool.and_eq_true,Bool.or_eq_true,Bool.and_eq_false_iff,Bool.or_eq_false_iff,Bool.not_eq_true',Bool.not_eq_false',decide_eq_true_eq,decide_eq_false_iff_not] at hc0
  refine AF.skip (AD.then_ (AF.block (AF.region (AP O (AP O ?_)))))
  refine AH (v:=(vN k)) (AG O underlying187) O (AH (By (c:=((k-1:Nat):Int)) O O (CX (a:=k) (b:=1) Z Z)) O (AH (v:=(Value.slice (some ⟨b,0,none⟩) (k-1) c)) (GA (m:=k-1) O O underlying187 sizeOf83 Z) O (AJ O (AE.nil (AD.subF (sL [2,0] O) ?_)))))
  exact AD.in_normal (AD.round1 (k-1) (⟨Z,by rw [<-Pi hc0.1 hc0.2];exact hv⟩) Z (sF O) sr)
 ·simp only [Bool.and_eq_true,Bool.or_eq_true,Bool.and_eq_false_iff,Bool.or_eq_false_iff,Bool.not_eq_true',Bool.not_eq_false',decide_eq_true_eq,decide_eq_false_iff_not] at hc0
  have hstop:De bs k=k:=P5 Z
  refine AF.exit (AD.then_exit (AD.round1_exit (AD.in_exit (q2 (AP O ?_)))))
  exact AJ O (AE.nil (AD.subF (sL [2,0] O) (AD.then_ (AF.ret (AN O (Ac (v:=(Value.slice (some ⟨b,0,none⟩) k c)) O) (λw hw=>⟨by rw [<-hv,hstop],hw.out⟩))))))
theorem JN (x y c:Nat) (hx:x<4294967296) (hy:y<4294967296) (hc:c<=1) (w:World)  :Calls prog 144 #[(vK .u32 x),(vK .u32 y),(vK .u32 c)] w (Ak w (Value.tuple #[(vK .u32 ((x+y+c)%4294967296)),(vK .u32 ((x+y+c)/4294967296))])):=by
 refine Ab (args:=[(vK .u32 x),(vK .u32 y),(vK .u32 c)]) func144 O O (Ad O) (AF.subF (sL [0,1,2] O) (q4 (AJ O (AJ O (AE.nil ?_)))))
 refine q2 (AP O (AH (Ap (c:=((x:Nat):Int)) O underlying83 underlying53 (BU Z)) O (AP O (AH (Ap (c:=((y:Nat):Int)) O underlying83 underlying53 (BU Z)) O (AH (AX (c:=((x+y:Nat):Int)) O O (DC (a:=x) (b:=y) Z)) O ?_)))))
 refine AP O (AH (Ap (c:=((c:Nat):Int)) O underlying83 underlying53 (BU Z)) O (AH (AX (c:=(((x+y)+c:Nat):Int)) O O (DC (a:=x+y) (b:=c) Z)) O (AJ O (q3 (sL [6,7,8] O) (AP O ?_)))))
 refine AH (Ap (c:=((((x+y)+c)%4294967296:Nat):Int)) O underlying53 underlying83 Dz) O (AJ O (q3 (sL [6,7,8] O) (AP O (AH (Cc (s:=32) (c:=((((x+y)+c)/4294967296:Nat):Int)) O O O (by decide) (FU (a:=(x+y)+c) (s:=32))) O (AH (Ap (c:=((((x+y)+c)/4294967296:Nat):Int)) O underlying53 underlying83 (CQ Z)) O ?_)))))
 exact AJ O (AE.nil (AD.subF (sL [6,7,8] O) (AD.then_ (AF.ret (Cq O (Ac (v:=(vK .u32 (((x+y)+c)%4294967296))) O) (Ac (v:=(vK .u32 (((x+y)+c)/4294967296))) O) (λw hw=>⟨rfl,hw.out⟩))))))
theorem Jm (x y c d:Nat) (hx:x<4294967296) (hy:y<4294967296) (hc:c<=1) (hd:d=(x+(4294967296-y)+(4294967296-c))%4294967296) (w:World)  :Calls prog 142 #[(vK .u32 x),(vK .u32 y),(vK .u32 c)] w (Ak w (Value.tuple #[(vK .u32 d),(vK .u32 (Ic x (y+c)))])):=by
 have hd2:d<4294967296:=by omega
 have hb:=Rh hx hy hc hd
 have hx1:4294967295 ^^^ x<4294967296:=Nat.xor_lt_two_pow (n:=32) Z hx
 have hx2:x ^^^ y<4294967296:=Nat.xor_lt_two_pow (n:=32) hx hy
 have hx3:4294967295 ^^^ (x ^^^ y)<4294967296:=Nat.xor_lt_two_pow (n:=32) Z hx2
 have hx4:(4294967295 ^^^ x) &&& y<4294967296:=Nat.lt_of_le_of_lt Nat.and_le_right hy
 have hx5:(4294967295 ^^^ (x ^^^ y)) &&& d<4294967296:=Nat.lt_of_le_of_lt Nat.and_le_right hd2
 refine Ab (args:=[(vK .u32 x),(vK .u32 y),(vK .u32 c)]) func142 O O (Ad O) (AF.subF (sL [0,1,2] O) (q4 (AJ O (AJ O (AE.nil ?_)))))
 refine q2 (AP O (AP O (AH (By (c:=(((x+(4294967296-y))%4294967296:Nat):Int)) O O (NP Z)) O (AP O (AH (By (c:=((d:Nat):Int)) O O (by rw [NP Z,hd];exact congrArg Int.ofNat Z)) O ?_)))))
 refine AJ O (q3 (sL [0,1,6,7] O) (AP O (AH (TG (c:=((4294967295 ^^^ x:Nat):Int)) O (NT hx)) O (AP O (AH (KL (c:=(((4294967295 ^^^ x) &&& y:Nat):Int)) O O (NA hx1 hy)) O ?_)))))
 refine AP O (AP O (AH (Vo (c:=((x ^^^ y:Nat):Int)) O O (Mf hx hy)) O (AH (TG (c:=((4294967295 ^^^ (x ^^^ y):Nat):Int)) O (NT hx2)) O (AP O (AH (KL (c:=(((4294967295 ^^^ (x ^^^ y)) &&& d:Nat):Int)) O O (NA hx3 hd2)) O ?_)))))
 refine AH (IW (c:=(((4294967295 ^^^ x) &&& y ||| (4294967295 ^^^ (x ^^^ y)) &&& d:Nat):Int)) O O (Is hx4 hx5 O)) O (AH (Cc (s:=31) (c:=((((4294967295 ^^^ x) &&& y ||| (4294967295 ^^^ (x ^^^ y)) &&& d)/2147483648:Nat):Int)) O O O (by decide) (FU (a:=(4294967295 ^^^ x) &&& y ||| (4294967295 ^^^ (x ^^^ y)) &&& d) (s:=31))) O (AJ O (AE.nil (AD.subF (sL [0,1,6,7] O) (AD.then_ ?_)))))
 exact AF.ret (Cq O (Ac (v:=(vK .u32 d)) O) (Ac (v:=(vK .u32 (((4294967295 ^^^ x) &&& y ||| (4294967295 ^^^ (x ^^^ y)) &&& d)/2147483648))) O) (λw hw=>⟨by rw [<-hb],hw.out⟩))
theorem Rp (x y:Nat) (hx:x<18446744073709551616) (hy:y<18446744073709551616) (w:World)  :Calls prog 106 #[(vK .u64 x),(vK .u64 y)] w (Ak w (Value.tuple #[(vK .u64 (x*y/18446744073709551616)),(vK .u64 (x*y%18446744073709551616))])):=by
 have h1:=KG (a:=x%4294967296) (b:=y%4294967296) Z Z
 have h2:=KG (a:=x/4294967296) (b:=y%4294967296) Z Z
 have h3:=KG (a:=x%4294967296) (b:=y/4294967296) Z Z
 have h4:=KG (a:=x/4294967296) (b:=y/4294967296) Z Z
 have hh:=Rr x y
 have hh2:x*y/18446744073709551616<18446744073709551616:=Nat.div_lt_of_lt_mul (Nat.mul_lt_mul'' hx hy)
 refine Ab (args:=[(vK .u64 x),(vK .u64 y)]) func106 O O (Ad O) (AF.subF (sL [0,1] O) (q4 (AJ O (AJ O (AE.nil ?_)))))
 refine q2 (AP O (AH (KL (c:=((x%4294967296:Nat):Int)) O O (Hz (a:=x) Z)) O (AJ O (q3 (sL [0,1,4,5,6] O) (AP O ?_)))))
 refine AH (Cc (s:=32) (c:=((x/4294967296:Nat):Int)) O O O (by decide) (FU (a:=x) (s:=32))) O (AJ O (q3 (sL [0,1,4,5,6,7] O) (AP O (AH (KL (c:=((y%4294967296:Nat):Int)) O O (Hz (a:=y) Z)) O (AJ O ?_)))))
 refine q3 (sL [0,1,4,5,6,7,8] O) (AP O (AH (Cc (s:=32) (c:=((y/4294967296:Nat):Int)) O O O (by decide) (FU (a:=y) (s:=32))) O (AJ O (q3 (sL [0,1,4,5,6,7,8,9] O) (AP O ?_)))))
 refine AP O (AH (Bq (c:=(((x%4294967296)*(y%4294967296):Nat):Int)) O O (Ed (a:=x%4294967296) (b:=y%4294967296) Z)) O (AJ O (q3 (sL [0,1,4,5,6,7,8,9,10] O) (AP O (AP O ?_)))))
 refine AH (Bq (c:=(((x/4294967296)*(y%4294967296):Nat):Int)) O O (Ed (a:=x/4294967296) (b:=y%4294967296) Z)) O (AP O (AH (Cc (s:=32) (c:=((((x%4294967296)*(y%4294967296))/4294967296:Nat):Int)) O O O (by decide) (FU (a:=(x%4294967296)*(y%4294967296)) (s:=32))) O (AH (AX (c:=((((x/4294967296)*(y%4294967296))+(((x%4294967296)*(y%4294967296))/4294967296):Nat):Int)) O O (DC (a:=(x/4294967296)*(y%4294967296)) (b:=((x%4294967296)*(y%4294967296))/4294967296) Z)) O (AJ O (q3 (sL [0,1,4,5,6,7,8,9,11] O) ?_)))))
 refine AP O (AH (KL (c:=(((((x/4294967296)*(y%4294967296))+(((x%4294967296)*(y%4294967296))/4294967296))%4294967296:Nat):Int)) O O (Hz (a:=((x/4294967296)*(y%4294967296))+(((x%4294967296)*(y%4294967296))/4294967296)) Z)) O (AJ O (q3 (sL [0,1,4,5,6,7,8,9,11,12] O) (AP O (AH (Cc (s:=32) (c:=(((((x/4294967296)*(y%4294967296))+(((x%4294967296)*(y%4294967296))/4294967296))/4294967296:Nat):Int)) O O O (by decide) (FU (a:=((x/4294967296)*(y%4294967296))+(((x%4294967296)*(y%4294967296))/4294967296)) (s:=32))) O ?_)))))
 refine AJ O (q3 (sL [0,1,4,5,6,7,8,9,11,12,13] O) (AP O (AP O (AP O (AH (Bq (c:=(((x%4294967296)*(y/4294967296):Nat):Int)) O O (Ed (a:=x%4294967296) (b:=y/4294967296) Z)) O ?_)))))
 refine AH (AX (c:=((((((x/4294967296)*(y%4294967296))+(((x%4294967296)*(y%4294967296))/4294967296))%4294967296)+((x%4294967296)*(y/4294967296)):Nat):Int)) O O (DC (a:=(((x/4294967296)*(y%4294967296))+(((x%4294967296)*(y%4294967296))/4294967296))%4294967296) (b:=(x%4294967296)*(y/4294967296)) Z)) O (AJ O (q3 (sL [0,1,4,5,6,7,8,9,11,12,13] O) (AP O (AP O (AH (Bq (c:=(((x/4294967296)*(y/4294967296):Nat):Int)) O O (Ed (a:=x/4294967296) (b:=y/4294967296) Z)) O ?_)))))
 refine AP O (AH (AX (c:=((((x/4294967296)*(y/4294967296))+((((x/4294967296)*(y%4294967296))+(((x%4294967296)*(y%4294967296))/4294967296))/4294967296):Nat):Int)) O O (DC (a:=(x/4294967296)*(y/4294967296)) (b:=(((x/4294967296)*(y%4294967296))+(((x%4294967296)*(y%4294967296))/4294967296))/4294967296) Z)) O (AP O (AH (Cc (s:=32) (c:=(((((((x/4294967296)*(y%4294967296))+(((x%4294967296)*(y%4294967296))/4294967296))%4294967296)+((x%4294967296)*(y/4294967296)))/4294967296:Nat):Int)) O O O (by decide) (FU (a:=((((x/4294967296)*(y%4294967296))+(((x%4294967296)*(y%4294967296))/4294967296))%4294967296)+((x%4294967296)*(y/4294967296))) (s:=32))) O (AH (AX (c:=((x*y/18446744073709551616:Nat):Int)) O O (by rw [<-Int.natCast_add,hh];exact BU hh2)) O (AJ O ?_)))))
 refine q3 (sL [0,1,4,5,6,7,8,9,11,12] O) (AP O (AP O (AH (Bq (c:=((x*y%18446744073709551616:Nat):Int)) O O SS) O (AJ O (AE.nil ?_)))))
 exact AD.subF (sL [0,1,4,5,6,7,8,9,11,12] O) (AD.then_ (AF.ret (Cq O (Ac (v:=(vK .u64 (x*y/18446744073709551616))) O) (Ac (v:=(vK .u64 (x*y%18446744073709551616))) O) (λw hw=>⟨rfl,hw.out⟩))))
theorem RW (hi lo y:Nat) (hh:hi<y) (hl:lo<4294967296) (hy:y<4294967296) (w:World)  :Calls prog 183 #[(vK .u32 hi),(vK .u32 lo),(vK .u32 y)] w (Ak w (Value.tuple #[(vK .u32 ((hi*4294967296+lo)/y)),(vK .u32 ((hi*4294967296+lo)%y))])):=by
 refine Ab (args:=[(vK .u32 hi),(vK .u32 lo),(vK .u32 y)]) func183 O O (Ad O) (AF.subF (sL [0,1,2] O) (q4 (AJ O (AJ O (AE.nil ?_)))))
 refine q1 (q4 (AP O (AH (CP (c:=(decide (y≠0))) O O (Xl (a:=y) (b:=0))) O (AP O ?_))))
 refine AE.mid (FM:=[(0,(vK .u32 hi)),(1,(vK .u32 lo)),(2,(vK .u32 y)),(6,(Value.int .u32 (0:Int))),(7,(Value.int .u32 (0:Int))),(9,(vK .u32 y)),(10,(Value.bool (decide (y≠0)))),(11,(Value.bool (decide (y≠0)))),(15,(Value.bool ((decide (y≠0))&&(decide (y<=hi)))))]) (LM:=[]) 4 ?_ ?_
 ·rcases Bool.eq_false_or_eq_true (decide (y≠0)) with hg1|hg1
  ·skip
   refine AE.retell (k:=11) (u:=Value.bool true) O (by rw [hg1]) ?_
   have hg1':=hg1
   replace hg1':=of_decide_eq_true hg1'
   exact AE.step (v:=(vK .u32 y)) (AB O) (BA O) O (Ad O) (AE.step (v:=(vK .u32 hi)) (AB O) (BA O) O (Ad O) (AE.step (v:=(Value.bool (decide (y<=hi)))) (AB O) (H_ (c:=(decide (y<=hi))) O O (Ut (a:=y) (b:=hi))) O (Ad O) (AH (v:=(Value.bool (decide (y<=hi)))) (Al O O) O (AE.nil (AD.mid (sS O (sS O (sS O (sS O (sS O (sS O (sS O (sS (by first|rfl|(rw [hg1];rfl)|rw [hg1]) (sS (by first|rfl|(rw [hg1];rfl)|rw [hg1]) (sN)))))))))) (List.Sublist.refl _))))))
  ·skip
   refine AE.retell (k:=11) (u:=Value.bool false) O (by rw [hg1]) ?_
   have hg1':=hg1
   replace hg1':=of_decide_eq_false hg1'
   exact AE.skip (AV O) O (Ad O) (AE.skip (AV O) O (Ad O) (AE.skip (AV O) O (Ad O) (AH (v:=(Value.bool false)) (AW O O) O (AE.nil (AD.mid (sS O (sS O (sS O (sS O (sS O (sS O (sS O (sS (by first|rfl|(rw [hg1];rfl)|rw [hg1]) (sS (by first|rfl|(rw [hg1];rfl)|rw [hg1]) (sN)))))))))) (List.Sublist.refl _))))))
 refine AE.nil (AD.subF (sL [0,1,2,6,7,15] O) (AD.then_ ?_))
 refine AF.cond O (λhc0=>?_) (λhc0=>?_)
 ·simp only [Bool.and_eq_true,Bool.or_eq_true,Bool.and_eq_false_iff,Bool.or_eq_false_iff,Bool.not_eq_true',Bool.not_eq_false',decide_eq_true_eq,decide_eq_false_iff_not] at hc0
  exfalso;omega
 ·simp only [Bool.and_eq_true,Bool.or_eq_true,Bool.and_eq_false_iff,Bool.or_eq_false_iff,Bool.not_eq_true',Bool.not_eq_false',decide_eq_true_eq,decide_eq_false_iff_not] at hc0
  refine AF.skip (q2 (AP O (AH (Ap (c:=((hi:Nat):Int)) O underlying83 underlying53 (BU Z)) O (AH (v:=(vK .u64 (hi*4294967296))) (F9 (s:=32) O O O (by decide) (F7 (s:=32) Z)) O (AP O ?_)))))
  refine AH (Ap (c:=((lo:Nat):Int)) O underlying83 underlying53 (BU Z)) O (AH (IW (c:=((hi*4294967296+lo:Nat):Int)) O O (I4 Z Z (by rw [Nat.or_comm,Nat.add_comm];exact G7 (s:=32) Z))) O ?_)
  have hq:(hi*4294967296+lo)/y<4294967296:=Nat.div_lt_of_lt_mul (by have h9:(hi+1)*4294967296<=y*4294967296:=Nat.mul_le_mul_right _ hh;omega)
  have hr:(hi*4294967296+lo)%y<y:=Nat.mod_lt _ Z
  refine AJ O (q6 (sL [0,2,6,7,8] O) (DA [(0,true),(1,true),(2,true),(3,true),(4,true),(5,true),(6,true),(7,true),(8,true),(9,true),(10,true),(11,true)] sr (Bp O (Bp O (Aw O (Ap (c:=((y:Nat):Int)) O underlying83 underlying53 (BU Z)) ?_)))))
  refine Aw O (Fv (c:=(((hi*4294967296+lo)/y:Nat):Int)) O O Z (JR (a:=hi*4294967296+lo) (b:=y) Z)) (Aw O (Ap (c:=(((hi*4294967296+lo)/y:Nat):Int)) O underlying53 underlying83 (CQ Z)) (Bp O (Bp O (Aw O (Ap (c:=((y:Nat):Int)) O underlying83 underlying53 (BU Z)) (Aw O (Bo (c:=(((hi*4294967296+lo)%y:Nat):Int)) O O Z (GF (a:=hi*4294967296+lo) (b:=y))) ?_)))))
  refine Aw O (Ap (c:=(((hi*4294967296+lo)%y:Nat):Int)) O underlying53 underlying83 (CQ Z)) (Ez O (Ez O (AS.nil (AD.subF (sL [0,2,6,7] O) (AD.then_ ?_)))))
  exact AF.ret (Cq O (Ac (v:=(vK .u32 ((hi*4294967296+lo)/y))) O) (Ac (v:=(vK .u32 ((hi*4294967296+lo)%y))) O) (λw hw=>⟨rfl,hw.out⟩))
theorem TF (x:Nat) (hx:x<4294967296) (w:World)  :Calls prog 166 #[(vK .u32 x)] w (Ak w (vN (bl x))):=by
 refine Ab (args:=[(vK .u32 x)]) func166 O O (Ad O) (AF.subF (sL [0] O) (q4 (AJ O (AE.nil (q1 ?_)))))
 refine q4 (AP O (AH (EV (c:=(decide (65536<=x))) O O (Ut (a:=65536) (b:=x))) O (AE.nil (AD.subF (sL [0,2,4] O) (AD.then_ ?_)))))
 refine AF.jn2 (tg λ(u:Nat) (n:Nat)=>u<65536/\n<=16/\bl x=bl u+n) (tg λ(u:Nat) (n:Nat)=>[(0,(vK .u32 u)),(2,(vN n))]) (tg λ(u:Nat) (n:Nat)=>[]) ?_ ?_
 ·skip
  refine AF.cond O (λhc0=>?_) (λhc0=>?_)
  ·replace hc0:=of_decide_eq_true hc0
   refine q4 (AP O (AH (Cc (s:=16) (c:=((x/65536:Nat):Int)) O O O (by decide) (FU (a:=x) (s:=16))) O (AJ O (AE.nil (AD.subF (sL [0,2] O) ?_)))))
   exact AD.then_ (AF.region (AJ O (AE.nil (AD.join2 (x/65536) 16 (⟨Z,Z,NF (k:=16) hc0⟩) (sF O) sr))))
  ·replace hc0:=of_decide_eq_false hc0
   exact AF.skip (AD.join2 x 0 (⟨Z,Z,rfl⟩) (sF O) sr)
 ·intro u n hJ
  obtain ⟨hu,hn,hv⟩:=hJ
  refine q1 (q4 (AP O (AH (EV (c:=(decide (256<=u))) O O (Ut (a:=256) (b:=u))) O (AE.nil (AD.subF (sL [0,2,8] O) ?_)))))
  refine AD.then_ ?_
  refine AF.jn2 (tg λ(u2:Nat) (n2:Nat)=>u2<256/\n2<=24/\bl x=bl u2+n2) (tg λ(u2:Nat) (n2:Nat)=>[(0,(vK .u32 u2)),(2,(vN n2))]) (tg λ(u2:Nat) (n2:Nat)=>[]) ?_ ?_
  ·skip
   refine AF.cond O (λhc1=>?_) (λhc1=>?_)
   ·replace hc1:=of_decide_eq_true hc1
    refine q4 (AP O (AH (Cc (s:=8) (c:=((u/256:Nat):Int)) O O O (by decide) (FU (a:=u) (s:=8))) O (AJ O (AE.nil (AD.subF (sL [0,2] O) ?_)))))
    refine AD.then_ (AF.region (AP O (AH (AX (c:=((n+8:Nat):Int)) O O (AZ (a:=n) (b:=8) Z)) O (AJ O (AE.nil ?_)))))
    exact AD.subF (sL [0,2] O) (AD.join2 (u/256) (n+8) (⟨Z,Z,by rw [hv,Vz hc1];omega⟩) (sF O) sr)
   ·replace hc1:=of_decide_eq_false hc1
    exact AF.skip (AD.join2 u n (⟨Z,Z,hv⟩) (sF O) sr)
  ·intro u2 n2 hJ
   obtain ⟨hu2,hn2,hv2⟩:=hJ
   refine q2 (AP O (AP O (AH (Ap (c:=((u2:Nat):Int)) O underlying83 underlying5 (SJ Z)) O ?_)))
   have hb8:bl u2<=8:=Rb (k:=8) hu2
   refine AH (v:=(vK .u8 (bl u2))) (Hk (j:=u2) (m:=bl u2) O O underlying9 (Vm (by kernel_rfl) hu2) Z) O (AH (Ap (c:=((bl u2:Nat):Int)) O underlying5 underlying3 (Bv Z)) O (AH (AX (c:=((bl x:Nat):Int)) O O (by rw [hv2,Int.add_comm,<-Int.natCast_add];exact Bv Z)) O (AJ O (AE.nil (AD.subF (sL [0,2] O) ?_)))))
   exact AD.then_ (AF.ret (AN O (Ac (v:=(vN (bl x))) O) (λw hw=>⟨rfl,hw.out⟩)))
theorem Un (x:Nat) (hx:x<4294967296) (w:World)  :Calls prog 184 #[(vK .u32 x)] w (Ak w (vN (32-bl x))):=by
 have hb:=Rb (k:=32) hx
 refine Ab (args:=[(vK .u32 x)]) func184 O O (Ad O) (AF.subF (sL [0] O) (q4 (AJ O (AE.nil (q2 ?_)))))
 refine AP O (BS call166 (TF _ Z) O (AH (By (c:=((32-(bl x):Nat):Int)) O O (CX (a:=32) (b:=bl x) Z Z)) O (AJ O (AE.nil (AD.subF (sL [2] O) ?_)))))
 exact AD.then_ (AF.ret (AN O (Ac (v:=(vN (32-(bl x)))) O) (λw hw=>⟨rfl,hw.out⟩)))
theorem UN (z:Int) (hz:-9223372036854775808<=z) (hz2:z<9223372036854775808) (w:World)  :Calls prog 221 #[(vI z)] w (Ak w (vI z.sign)):=by
 refine Ab (args:=[(vI z)]) func221 O O (Ad O) (AF.subF (sL [0] O) (q4 (AJ O (AE.nil (q2 ?_)))))
 refine AP O (AH (Gw (c:=(if z<1 then z else 1)) O O O) O (AH (F4 (c:=z.sign) O O (Rn z)) O (AJ O (AE.nil (AD.subF (sL [2] O) ?_)))))
 exact AD.then_ (AF.ret (AN O (Ac (v:=(vI z.sign)) O) (λw hw=>⟨rfl,hw.out⟩)))
end
section
section
variable {P:Program} {n:Nat} {F:List (Nat×Value)} {w0:BK} {L:List As} {x y:Operand} {d:Option Tmp} {t:TypeId} {p:String} {af:Array Edge} {g:Option (Nat×Bool)}
def E3 (P:Program) (D:Nat) (T:TypeId) (u v:Value) (b:Bool):Prop:=∀w,(Op.equalIn D T u v).run P w=.ok b w
def Hn (P:Program) (D:Nat) (xs ys:List Value) (fs:List Field) (b:Bool):Prop:=∀w,(Op.eqFields D xs.toArray ys.toArray fs).run P w=.ok b w
theorem E3.int {D:Nat} {T:TypeId} {k k':IntKind} {a b:Int} (h:P.underlying T=some (.int k')):E3 P (D+1) T (.int k a) (.int k b) (a == b):=λw=>run_equalIn_int w D T k k' a b h
theorem E3.bool {D:Nat} {T:TypeId} {a b:Bool} (h:P.underlying T=some .bool):E3 P (D+1) T (.bool a) (.bool b) (a == b):=λw=>run_equalIn_bool' w D T a b h
theorem E3.str {D:Nat} {T:TypeId} {a b:ByteArray} (h:P.underlying T=some .string):E3 P (D+1) T (.string a) (.string b) (a.toList == b.toList):=λw=>run_equalIn_string w D T a b h
theorem E3.struct {D:Nat} {T:TypeId} {xs ys:List Value} {b:Bool} {fs:Array Field} (hu:P.underlying T=some (.struct fs)) (hp:P.stoodInHeld T=false) (h:Hn P D xs ys fs.toList b):E3 P (D+1) T (.agg xs.toArray) (.agg ys.toArray) b:=λw=>by
  have e:P.fieldsOf T=fs:=by simp [Program.fieldsOf,hu]
  rw [run_equalIn_struct w D T _ _ (by rw [e];exact hu) hp,e];exact h w
theorem Hn.nil {D:Nat} {xs ys:List Value}:Hn P D xs ys [] true:=λw=>rfl
theorem Hn.one {D : Nat} {xs ys : List Value} {f : Field} {fs : List Field} {a b : Value} {r s : Bool} (hn : f.name ≠ "_") (hg : ∀ w, (isAgg f.type).run P w = .ok false w) (ha : xs[f.offset]? = some a) (hb : ys[f.offset]? = some b)
    (h:E3 P D f.type a b r) (h2:Hn P D xs ys fs s):Hn P D xs ys (f::fs) (r&&s):=λw=>by
  have e1:(part f.type xs.toArray f.offset).run P w=.ok a w:=by simp [part,hg,ha]
  have e2:(part f.type ys.toArray f.offset).run P w=.ok b w:=by simp [part,hg,hb]
  simp only [Op.eqFields,Sem.run_ite,if_pos hn,Sem.run_bind,e1,e2,Result.andThen_ok,h w]
  cases r
  · simp
  · simp [h2 w]
theorem Hn.agg {D k : Nat} {xs ys us bs : List Value} {f : Field} {fs : List Field} {r s : Bool} (hn : f.name ≠ "_") (hg : ∀ w, (isAgg f.type).run P w = .ok true w) (hs : ∀ w, (sizeOf f.type).run P w = .ok k w)
    (ha:(xs.drop f.offset).take k=us) (hb:(ys.drop f.offset).take k=bs)
    (h:E3 P D f.type (.agg us.toArray) (.agg bs.toArray) r) (h2:Hn P D xs ys fs s):Hn P D xs ys (f::fs) (r&&s):=λw=>by
  have ex:∀l:List Value,l.toArray.extract f.offset (f.offset+k)=((l.drop f.offset).take k).toArray:=λl=>by simp [List.extract_eq_take_drop]
  have e1:(part f.type xs.toArray f.offset).run P w=.ok (.agg us.toArray) w:=by simp [part,hg,hs,ex,ha]
  have e2:(part f.type ys.toArray f.offset).run P w=.ok (.agg bs.toArray) w:=by simp [part,hg,hs,ex,hb]
  simp only [Op.eqFields,Sem.run_ite,if_pos hn,Sem.run_bind,e1,e2,Result.andThen_ok,h w]
  cases r
  · simp
  · simp [h2 w]
theorem CB {xs ys:List Value} {c:Bool} {tx ty:TypeId} (hx:evF F x=some (.agg xs.toArray)) (hy:evF F y=some (.agg ys.toArray)) (hg:P.eqGuardType P.depth tx=false) (hc:E3 P 10000 tx (.agg xs.toArray) (.agg ys.toArray) c) :
    Ex P n F w0 L ⟨d,.binOp .eql tx x y ty,t,p,af,g⟩ (.bool c):=λA w ha _=>by
  simp only [execOp,ha.ev hx,ha.ev hy,Sem.run_bind,run_eqGuard_agg w .eql tx x y _ _ hg,Result.andThen_ok,run_eql_struct,hc w,Sem.run_pure]
theorem Oe {xs ys:List Value} {c:Bool} {tx ty:TypeId} (hx:evF F x=some (.agg xs.toArray)) (hy:evF F y=some (.agg ys.toArray)) (hg:P.eqGuardType P.depth tx=false) (hc:E3 P 10000 tx (.agg xs.toArray) (.agg ys.toArray) c) :
    Ex P n F w0 L ⟨d,.binOp .neq tx x y ty,t,p,af,g⟩ (.bool (!c)):=λA w ha _=>by
  simp only [execOp,ha.ev hx,ha.ev hy,Sem.run_bind,run_eqGuard_agg w .neq tx x y _ _ hg,Result.andThen_ok,run_neq_struct,hc w,Sem.run_pure]
end
theorem Rs {a b:Nat} (ha:¬a<18446744073709551616) (hb:¬b<18446744073709551616) (h:Bf a=Bf b):a=b:=by
  rw [EZ ha,EZ hb] at h
  have h1:bytesN (AL a)=bytesN (AL b):=by
    have lt:∀(xs:List Nat),∀x∈bytesN xs,x<256:=λxs x hx=>by
      simp only [bytesN,List.mem_flatMap,List.mem_cons,List.not_mem_nil,or_false] at hx
      obtain ⟨y,_,hy⟩:=hx
      omega
    have inj:∀(l r:List Nat),(∀x∈l,x<256)->(∀x∈r,x<256)->l.map UInt8.ofNat=r.map UInt8.ofNat->l=r:=by
      intro l
      induction l with
      | nil=>intro r _ _ h;cases r<;>simp_all
      | cons x l ih =>
        intro r hl hr h
        cases r with
        | nil=>simp at h
        | cons y r =>
          simp only [List.map_cons,List.cons.injEq] at h
          have e:x=y:=by
            have h3:=congrArg UInt8.toNat h.1
            have h4:=hl x (by simp)
            have h5:=hr y (by simp)
            simp at h3
            omega
          rw [e,ih r (λz hz=>hl z (by simp [hz])) (λz hz=>hr z (by simp [hz])) h.2]
    refine inj _ _ (lt _) (lt _) ?_
    have:=congrArg (λs:ByteArray=>s.data.toList) h
    simpa [C1] using this
  have h2:AL a=AL b:=by
    have hl:(AL a).length=(AL b).length:=by
      have:=congrArg List.length h1
      simp only [B4] at this
      omega
    apply List.ext_getElem hl
    intro i hi hi'
    have g:∀k,k<4->(AL a).getD i 0/256^k%256=(AL b).getD i 0/256^k%256:=λk hk=>by rw [<-Fd _ _ _ hi hk,<-Fd _ _ _ hi' hk,h1]
    have wa:=(Bm a).getD i
    have wb:=(Bm b).getD i
    have ea:(AL a).getD i 0=(AL a)[i]:=by simp [hi]
    have eb:(AL b).getD i 0=(AL b)[i]:=by simp [hi']
    rw [ea,eb] at g
    rw [ea] at wa
    rw [eb] at wb
    have g0:=g 0 Z
    have g1:=g 1 Z
    have g2:=g 2 Z
    have g3:=g 3 Z
    simp only [Nat.pow_zero,Nat.div_one,Nat.pow_one,show (256:Nat)^2=65536 from rfl,show (256:Nat)^3=16777216 from rfl] at g0 g1 g2 g3
    omega
  rw [<-CR a,<-CR b,h2]
theorem Uw (a b:Nat):((((Bx a:Nat):Int) == ((Bx b:Nat):Int))&&(((Bf a).toList == (Bf b).toList)&&true))=decide (a=b):=by
  by_cases e:a=b
  · subst e;simp
  · rw [decide_eq_false e]
    by_cases ha:a<18446744073709551616
    · by_cases hb:b<18446744073709551616
      · rw [Be ha,Be hb]
        have:((a:Int) == (b:Int))=false:=by simp;omega
        rw [this];rfl
      · have h1:=N_ hb
        rw [Gq ha,<-beq_toListBytes]
        have:(ByteArray.empty == Bf b)=false:=by
          rw [beq_toListBytes,ByteArray.toList_eq,ByteArray.toList_eq,EZ hb]
          cases hl:(C1 (bytesN (AL b))).data.toList with
          | nil =>
            have h3:=congrArg List.length hl
            simp [C1,B4] at h3
            unfold nw at h1
            omega
          | cons=>rfl
        rw [this];simp
    · by_cases hb:b<18446744073709551616
      · have h1:=N_ ha
        rw [Gq hb,<-beq_toListBytes]
        have:(Bf a == ByteArray.empty)=false:=by
          rw [beq_toListBytes,ByteArray.toList_eq,ByteArray.toList_eq,EZ ha]
          cases hl:(C1 (bytesN (AL a))).data.toList with
          | nil =>
            have h3:=congrArg List.length hl
            simp [C1,B4] at h3
            unfold nw at h1
            omega
          | cons=>rfl
        rw [this];simp
      · rw [<-beq_toListBytes]
        have:(Bf a == Bf b)=false:=by
          cases hbb:Bf a == Bf b with
          | false=>rfl
          | true =>
            rw [beq_toListBytes] at hbb
            have h2:(Bf a).toList=(Bf b).toList:=by simpa using hbb
            rw [ByteArray.toList_eq,ByteArray.toList_eq] at h2
            have h3:Bf a=Bf b:=by
              cases hA:Bf a with|mk da=>cases hB:Bf b with|mk db =>
                rw [hA,hB] at h2
                congr 1
                exact Array.toList_inj.1 h2
            exact absurd (Rs ha hb h3) e
        rw [this];simp
theorem GR (D a b:Nat):E3 prog (D+2) 55 (.agg (AU a).toArray) (.agg (AU b).toArray) (decide (a=b)):=by
  rw [<-Uw]
  exact E3.struct underlying55 Tryz.stoodInHeld55 (Hn.one (by decide) isAgg53 O O (E3.int underlying53) (Hn.one (by decide) isAgg9 O O (E3.str underlying9) Hn.nil))
end
section
set_option maxRecDepth 100000
theorem I6 (n:Nat) (hn:n<18446744073709551616) (w:World)  :Calls prog 102 #[(vK .u64 n)] w (Ak w (aG (AU n))):=by
 refine Ab (args:=[(vK .u64 n)]) func102 O O (Ad O) (AF.subF (sL [0] O) (q4 (al FR O λb1=>AE.nil (q2 ?_))))
 refine AP O (AH (v:=(aG ([(vK .u64 n),(Value.string (Bf 0))]))) (AT (zs:=AU 0) (vs:=[(vK .u64 n),(Value.string (Bf 0))]) (pv:=[(0,(vK .u64 n))]) (places:=[(0,1),(1,1)]) zeroValue55 underlying55 (λw=>by simp [sizeOf9,sizeOf53]) O O) O (AE.retell (k:=4) (u:=(aG (AU n))) O (by rw [DO hn];rfl) (Aq O sizeOf55 O (AE.nil (AD.subF (sL [2] O) ?_)))))
 exact AD.then_ (AF.ret (AN O (A7 (i:=0) (cs:=AU n) O O isAgg55 sizeOf55 O) (λw hw=>⟨rfl,hw.out⟩)))
theorem KY  :Instr.fill ([(0,1),(1,1)].toArray[·]?) (AU 0).toArray []=some (AU 0).toArray:=by kernel_rfl
theorem Oq (a:Nat) (w:World)  :Calls prog 138 #[(aG (AU a))] w (Ak w (Value.bool (decide (a=0)))):=by
 refine Ab (args:=[(aG (AU a))]) func138 O O (Ad O) (AF.subF (sL [0] O) (q4 (Bk (cs:=AU a) O λb1=>AJ O (q3 (sL [1,2] O) ?_))))
 refine BE 0 Bz O (AH (v:=(aG (AU 0))) (AT (zs:=AU 0) (vs:=AU 0) (pv:=[]) (places:=[(0,1),(1,1)]) zeroValue55 underlying55 (λw=>by simp [sizeOf9,sizeOf53]) O (KY )) O (AH (CB (c:=(decide (a=0))) O O eqGuardType55 (GR 9998 a 0)) O (AJ O (AE.nil (AD.subF (sL [2] O) ?_)))))
 exact AD.then_ (AF.ret (AN O (Ac (v:=(Value.bool (decide (a=0)))) O) (λw hw=>⟨rfl,hw.out⟩)))
theorem C3 (v:Nat) (hv:nw v<=1099511627776) (w:World)  :Calls prog 108 #[(aG (AU v))] w (λe w'=>∃b,e=.returned (.slice (some ⟨b,0,none⟩) (nw v) (Au v).length)/\Eh w.heap.size w w'/\w.heap.size<=b/\w'.heap[b]?=some (.cells (Ai (Au v)).toArray 83 (0,0))):=by
 refine Ab (args:=[(aG (AU v))]) func108 O O (Ad O) (AF.subF (sL [0] O) (q4 (Bk (cs:=AU v) O λb1=>AJ O (q6 (sL [1,2] O) ?_))))
 refine q4 (AH (v:=(pP b1 1)) (AA O underlying55 O sizeOf9 O) O (BN 0 (Value.string (Bf v)) Qu O (AH (Bh (c:=(decide (v<18446744073709551616))) O O CT) O (AE.nil (AD.subF (sL [1,2,8] O) ?_)))))
 refine AD.then_ ?_
 refine AF.cond O (λhc0=>?_) (λhc0=>?_)
 ·replace hc0:=of_decide_eq_true hc0
  refine q4 (AH (v:=(pP b1 0)) (AA O underlying55 O sizeOf53 O) O (BN 0 (vK .u64 (Bx v)) Fw O (AE.retell (k:=10) (u:=(vK .u64 v)) O (by rw [Be hc0]) (AH (Ap (c:=((v%4294967296:Nat):Int)) O underlying53 underlying83 Dz) O (AH (v:=(pP b1 0)) (AA O underlying55 O sizeOf53 O) O ?_)))))
  refine BN 0 (vK .u64 (Bx v)) Fw O (AE.retell (k:=13) (u:=(vK .u64 v)) O (by rw [Be hc0]) (AH (Cc (s:=32) (c:=((v/4294967296:Nat):Int)) O O O (by decide) (FU (a:=v) (s:=32))) O (AH (Ap (c:=((v/4294967296:Nat):Int)) O underlying53 underlying83 (CQ Z)) O (AE.openV (V:=λb2=>(Value.slice (some ⟨b2,0,none⟩) 2 2)) (T:=83) (cs:=Ai ([v%4294967296,v/4294967296])) (AQ O) (BD (cs:=Ai ([v%4294967296,v/4294967296])) (pv:=[(0,(vK .u32 (v%4294967296))),(1,(vK .u32 (v/4294967296)))]) underlying187 sizeOf83 zeroValue83 (by decide) (by decide) O (by kernel_rfl)) O (Ad O) λb2=>Ef call145 (λw hw=>RH _ 2 2 ([v%4294967296,v/4294967296]) (W32.cons Z (W32.cons Z (W32.nil))) (by simp) (by simp) (by simp;try omega) w (hw.get (i:=0) O)) O ?_))))
  refine AJ O (AE.nil (AD.subF (sL [1,2] O) (AD.then_ (AF.ret (AD.then_ret ?_)))))
  have hpad:Au v=[v%4294967296,v/4294967296]:=by simp [Au,hc0]
  have hnw:nw v=De [v%4294967296,v/4294967296] 2:=by rw [<-Ns (UR hc0) (m:=2) (by simp),<-PV v,hpad];simp [val];congr 1;omega
  have hret:∀b:Nat,(Ending.returned (Value.slice (some ⟨b,0,none⟩) (De ([v%4294967296,v/4294967296]) 2) 2))=.returned (Value.slice (some ⟨b,0,none⟩) (nw v) (Au v).length):=λb=>by rw [hnw,hpad];rfl
  replace hret:=hret b2
  have hcells:(some (Obj.cells (Ai ([v%4294967296,v/4294967296])).toArray 83 (0,0)))=some (Obj.cells (Ai (Au v)).toArray 83 (0,0)):=by rw [hpad]
  exact AN O (Ac (v:=(Value.slice (some ⟨b2,0,none⟩) (De ([v%4294967296,v/4294967296]) 2) 2)) O) (λw hw=>⟨b2,hret,hw.out,hw.fresh (i:=0) O,(hw.get (i:=0) O).trans hcells⟩)
 ·replace hc0:=of_decide_eq_false hc0
  refine AF.skip (q2 (AH (v:=(pP b1 1)) (AA O underlying55 O sizeOf9 O) O (BN 0 (Value.string (Bf v)) Qu O (AH (v:=(vN ((Bf v).size))) (Kb O underlying9) O (AE.retell (k:=20) (u:=(vN (4*nw v))) O (by rw [EZ hc0,Jz,B4];rfl) ?_)))))
  refine AH (Fv (c:=(((4*nw v)/4:Nat):Int)) O O Z (Mh (a:=4*nw v) (b:=4) Z)) O (AE.retell (k:=21) (u:=(vN (nw v))) O (by rw [Nat.mul_div_cancel_left _ Z]) (AE.openV (V:=λb2=>(Value.slice (some ⟨b2,0,none⟩) (nw v) (nw v))) (T:=83) (cs:=Ai (List.replicate (nw v) 0)) (AQ O) (Cw (m:=nw v) (c:=nw v) O O Z Z) O (Ad O) λb2=>AJ O (q6 (sL [1,2,3] O) (q4 ?_))))
  refine AP O (AH (v:=(vN (nw v))) (AG O underlying187) O (AP O (AE.nil (AD.subF (sL [1,2,3,24,25] O) (AD.then_ ?_)))))
  refine AF.block ?_
  refine AF.lp2 (tg λ(i:Nat) (os:List Nat)=>i<=nw v/\os.length=nw v/\os.take i=(AL v).take i/\∀j,i<=j->os.getD j 0=0) (tg λ(i:Nat) (os:List Nat)=>[(1,(pP b1 0)),(2,(Value.slice none 0 0)),(3,(Value.slice (some ⟨b2,0,none⟩) (nw v) (nw v))),(24,(vN (nw v))),(25,(vN i))]) (tg λ(i:Nat) (os:List Nat)=>[Ae b2 83 (Ai os),Ae b1 55 (AU v)]) (tg λ(i:Nat) (os:List Nat)=>nw v-i) 0 (List.replicate (nw v) 0) (⟨Nat.zero_le _,by simp,by simp,λj _=>by simp [List.getD_eq_getElem?_getD,List.getElem?_replicate];split<;>rfl⟩) (sF O) sr (λi os hJ=>?_)
  obtain ⟨hin,hl,ht,h0⟩:=hJ
  refine q4 (AH (Af (c:=(decide (i<(nw v)))) O O (DB (a:=i) (b:=nw v))) O (AE.nil (q1 ?_)))
  refine AF.cond O (λhc1=>?_) (λhc1=>?_)
  ·replace hc1:=of_decide_eq_true hc1
   refine AF.skip (q1 (AF.block (q4 (AP O (AJ O ?_)))))
   refine q3 (sL [1,2,3,24,25,4] O) (AP O (AE.nil (AD.then_ (AF.block ?_))))
   refine AF.lp2 (tg λ(k:Nat) (xs:List Nat)=>k<=4/\xs=os.set i ((AL v).getD i 0%256^k)) (tg λ(k:Nat) (xs:List Nat)=>[(1,(pP b1 0)),(2,(Value.slice none 0 0)),(3,(Value.slice (some ⟨b2,0,none⟩) (nw v) (nw v))),(24,(vN (nw v))),(25,(vN i)),(4,(vN i)),(28,(vN k))]) (tg λ(k:Nat) (xs:List Nat)=>[Ae b2 83 (Ai xs),Ae b1 55 (AU v)]) (tg λ(k:Nat) (xs:List Nat)=>4-k) 0 os (⟨Z,by rw [Nat.pow_zero,Nat.mod_one];exact R_ (h0 i (Nat.le_refl _))⟩) (sF O) sr (λk xs hJ=>?_)
   obtain ⟨hk,hxs⟩:=hJ
   refine q4 (AH (Af (c:=(decide (k<4))) O O (DB (a:=k) (b:=4))) O (AE.nil (q1 ?_)))
   refine AF.cond O (λhc2=>?_) (λhc2=>?_)
   ·replace hc2:=of_decide_eq_true hc2
    refine AF.skip (q1 (AF.block (q4 (AP O (AJ O ?_)))))
    refine AE.nil (AD.subF (sL [1,2,3,24,25,4,28,5] O) (AD.then_ (DA [(0,true),(1,true),(2,true),(4,true),(5,true),(6,true),(7,true),(8,true),(9,true),(10,true),(11,true),(12,true),(13,true),(14,true),(3,false),(15,true),(16,true),(17,false)] (sl sr) ?_)))
    have hi:i<nw v:=hc1
    have hxi:xs.getD i 0=(AL v).getD i 0%256^k:=by rw [hxs];simp [hl,hi]
    have hxl:xs.length=nw v:=by rw [hxs];simp [hl]
    have hby:(AL v).getD i 0/256^k%256<256:=Nat.mod_lt _ Z
    have hget:(Bf v)[4*i+k]?=some (UInt8.ofNat ((AL v).getD i 0/256^k%256)):=by rw [EZ hc0,P1 (by rw [B4];show 4*i+k<4*nw v;omega),Fd _ _ _ hi hc2]
    have hw32:xs.getD i 0<4294967296:=by rw [hxi];exact Nat.lt_of_le_of_lt (Nat.mod_le _ _) ((Bm v).getD i)
    refine Bp O (Bp O (Aw (v:=(pP b2 i)) O (AI (j:=i) O O underlying187 sizeOf83 O Z (by simp)) (Aw (v:=(pP b1 1)) O (AA O underlying55 O sizeOf9 O) (Bi 0 (Value.string (Bf v)) Qu O (Bp O ?_)))))
    refine Aw O (Bq (c:=((4*i:Nat):Int)) O O (C5 (a:=4) (b:=i) Z)) (Bp O (Aw O (AX (c:=(((4*i)+k:Nat):Int)) O O (AZ (a:=4*i) (b:=k) Z)) (Aw (v:=(vK .u8 ((AL v).getD i 0/256^k%256))) O (Hk (j:=4*i+k) (m:=(AL v).getD i 0/256^k%256) O O underlying9 hget hby) (Aw O (Ap (c:=(((AL v).getD i 0/256^k%256:Nat):Int)) O underlying5 underlying83 (CQ Z)) (Bp O ?_)))))
    refine Aw O (Bq (c:=((8*k:Nat):Int)) O O (C5 (a:=8) (b:=k) Z)) (Aw (v:=(vK .u32 ((AL v).getD i 0/256^k%256*2^(8*k)))) O (F9 (s:=8*k) O O O (show 8*k<=32 by omega) (TU (On hc2))) (AS.imp O (AH (AM (i:=0) (v:=(vK .u32 (xs.getD i 0))) O O isAgg83 (BI (xs:=xs) (j:=i) Z)) O (AS.back (sl sr) (Aw O (IW (c:=(((AL v).getD i 0%256^(k+1):Nat):Int)) O O (Is hw32 (On hc2) (Qf hxi))) ?_)))))
    refine Aw (v:=(pP b2 i)) O (AI (j:=i) O O underlying187 sizeOf83 O Z (by simp)) (AS.imp O (AE.store' (i:=0) (off:=i) (vs:=[(vK .u32 ((AL v).getD i 0%256^(k+1)))]) (cs':=Ai (xs.set i ((AL v).getD i 0%256^(k+1)))) (L':=[Ae b2 83 (Ai (xs.set i ((AL v).getD i 0%256^(k+1)))),Ae b1 55 (AU v)]) (AQ O) O O O O O sizeOf83 O (CW (BP _) Z) (CC Z) O (AS.back (sl sr) (AS.nil (AD.subF (sL [1,2,3,24,25,4,28] O) ?_)))))
    refine AD.in_normal (AD.then_ (AF.region (AH (AX (c:=((k+1:Nat):Int)) O O (AZ (a:=k) (b:=1) Z)) O (AP O (AE.nil ?_)))))
    exact AD.subF (sL [1,2,3,24,25,4,28] O) (AD.round2 (k+1) (xs.set i ((AL v).getD i 0%256^(k+1))) (⟨Z,by rw [hxs,List.set_set]⟩) Z (sF O) sr)
   ·replace hc2:=of_decide_eq_false hc2
    refine AF.exit (AD.then_exit (AD.round2_exit (AD.in_exit (AD.in_normal (AD.then_ ?_)))))
    refine AF.region (AH (AX (c:=((i+1:Nat):Int)) O O (AZ (a:=i) (b:=1) Z)) O (AP O (AE.nil (AD.subF (sL [1,2,3,24,25,4,28] O) ?_))))
    have hst:=NZ (ws:=AL v) (xs:=xs) hl rfl hc1 ht h0 (by rw [hxs,show k=4 by omega];congr 1;exact Nat.mod_eq_of_lt ((Bm v).getD i))
    exact AD.round2 (i+1) xs (⟨Z,hst.1,hst.2.1,hst.2.2⟩) Z (sF O) sr
  ·replace hc1:=of_decide_eq_false hc1
   refine AF.exit (AD.then_exit (AD.round2_exit (AD.in_exit (q2 (AP O ?_)))))
   refine AJ O (AE.nil (AD.subF (sL [1,2,3,24,25] O) (AD.then_ (AF.ret ?_))))
   have hpad:Au v=AL v:=by simp [Au,hc0]
   have hos:os=AL v:=Tb hl rfl hc1 ht
   have hret:∀b:Nat,(Ending.returned (Value.slice (some ⟨b,0,none⟩) (nw v) (nw v)))=.returned (Value.slice (some ⟨b,0,none⟩) (nw v) (Au v).length):=λb=>by rw [hpad];rfl
   replace hret:=hret b2
   have hcells:(some (Obj.cells (Ai os).toArray 83 (0,0)))=some (Obj.cells (Ai (Au v)).toArray 83 (0,0)):=by rw [hpad,hos]
   exact AN O (Ac (v:=(Value.slice (some ⟨b2,0,none⟩) (nw v) (nw v))) O) (λw hw=>⟨b2,hret,hw.out,hw.fresh (i:=0) O,(hw.get (i:=0) O).trans hcells⟩)
end
end Go.Proofs.YtfbomiejpbchdaaGreatDoor
