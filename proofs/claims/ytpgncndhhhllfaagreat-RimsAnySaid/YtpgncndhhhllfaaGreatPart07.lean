import Derived.Laws.StructEq
import Derived.Test.YtpgncndhhhllfaaGreatPart03
import Derived.Test.YtpgncndhhhllfaaGreatPart06
namespace Go.Proofs.YtpgncndhhhllfaaGreat
open Go Go.RowKit Go.Proofs.Tryz
set_option linter.unusedVariables false
set_option linter.unusedSimpArgs false
section
set_option maxRecDepth 100000
theorem Tb (b m c:Nat) (bs:List Nat) (hbs:W32 bs) (hm:m<=bs.length) (hc:m<=c) (hL:c<4611686018427387904) (w:World) (hb:w.heap[b]?=some (.cells (Aq bs).toArray 50 (0,0))):Calls prog 156 #[(Value.slice (some ⟨b,0,none⟩) m c)] w (Ak w (Value.slice (some ⟨b,0,none⟩) (DP bs m) c)):=by
 refine An (args:=[(Value.slice (some ⟨b,0,none⟩) m c)]) func156 O O (AV O) (AE.subF (sL [0] O) (q4 (AI O (AC.nil (q1 (AE.block ?_))))))
 refine AE.lp1 (tg λ(k:Nat)=>k<=m/\DP bs k=DP bs m) (tg λ(k:Nat)=>[(2,(Value.slice none 0 0)),(0,(Value.slice (some ⟨b,0,none⟩) k c))]) (tg λ(k:Nat)=>[]) (tg λ(k:Nat)=>k) m (⟨Nat.le_refl _,rfl⟩) (sF O) sr (λk hJ=>?_)
 obtain ⟨hk,hv⟩:=hJ
 refine AE.seq (q4 (AM O (AK (v:=(vN k)) (AF O underlying224) O (AK (CC (c:=(decide (0<k))) O O (B7 (a:=0) (b:=k))) O (AM O ?_)))))
 refine AC.mid (FM:=[(2,(Value.slice none 0 0)),(0,(Value.slice (some ⟨b,0,none⟩) k c)),(3,(Value.slice (some ⟨b,0,none⟩) k c)),(4,(vN k)),(5,(Value.bool (decide (0<k)))),(6,(Value.bool (decide (0<k)))),(14,(Value.bool ((decide (0<k))&&(decide ((bs.getD (k-1) 0)=0)))))]) (LM:=[]) 8 ?_ ?_
 ·rcases Bool.eq_false_or_eq_true (decide (0<k)) with hg1|hg1
  ·skip
   refine AC.retell (k:=6) (u:=Value.bool true) O (by rw [hg1]) ?_
   have hg1':=hg1
   replace hg1':=of_decide_eq_true hg1'
   refine AC.step (v:=(Value.slice (some ⟨b,0,none⟩) k c)) (AA O) (AW O) O (AV O) (AC.step (v:=(Value.slice (some ⟨b,0,none⟩) k c)) (AA O) (AW O) O (AV O) (AC.step (v:=(vN k)) (AA O) (AF O underlying224) O (AV O) (AC.step (v:=(vN (k-1))) (AA O) (BO (c:=((k-1:Nat):Int)) O O (Br (a:=k) (b:=1) Z Z)) O (AV O) (AC.step (v:=(pP b (k-1))) (AA O) (AP (j:=k-1) O O underlying224 sizeOf50 O Z (by simp)) O (AV O) ?_))))
   have hx1:bs.getD (k-1) 0<4294967296:=W32.getD hbs (k-1)
   exact AC.step (v:=(vK .u32 (bs.getD (k-1) 0))) (AA O) (BW (v:=(vK .u32 (bs.getD (k-1) 0))) O (λw' hw=>CA.at0 (hw.oldCA (by simp) (ER hb)) (BD (xs:=bs) (j:=(k-1)) Z)) isAgg50) O (AV O) (AC.step (v:=(Value.bool (decide ((bs.getD (k-1) 0)=0)))) (AA O) (BA (c:=(decide ((bs.getD (k-1) 0)=0))) O O (KW (a:=bs.getD (k-1) 0) (b:=0))) O (AV O) (AK (v:=(Value.bool (decide ((bs.getD (k-1) 0)=0)))) (AR O O) O (AC.nil (OkQ.mid (sS O (sS O (sS O (sS O (sS O (sS (by first|rfl|(rw [hg1];rfl)|rw [hg1]) (sS (by first|rfl|(rw [hg1];rfl)|rw [hg1]) (sN)))))))) (List.Sublist.refl _)))))
  ·skip
   refine AC.retell (k:=6) (u:=Value.bool false) O (by rw [hg1]) ?_
   have hg1':=hg1
   replace hg1':=of_decide_eq_false hg1'
   exact AC.skip (AD O) O (AV O) (AC.skip (AD O) O (AV O) (AC.skip (AD O) O (AV O) (AC.skip (AD O) O (AV O) (AC.skip (AD O) O (AV O) (AC.skip (AD O) O (AV O) (AC.skip (AD O) O (AV O) (AK (v:=(Value.bool false)) (AO O O) O (AC.nil (OkQ.mid (sS O (sS O (sS O (sS O (sS O (sS (by first|rfl|(rw [hg1];rfl)|rw [hg1]) (sS (by first|rfl|(rw [hg1];rfl)|rw [hg1]) (sN)))))))) (List.Sublist.refl _))))))))))
 refine AC.nil (OkQ.subF (sL [2,0,14] O) (OkQ.then_ ?_))
 refine AE.cond O (λhc0=>?_) (λhc0=>?_)
 ·simp only [Bool.and_eq_true,Bool.or_eq_true,Bool.and_eq_false_iff,Bool.or_eq_false_iff,Bool.not_eq_true',Bool.not_eq_false',decide_eq_true_eq,decide_eq_false_iff_not] at hc0
  refine AE.skip (OkQ.then_ (AE.block (AE.region (AM O (AM O (AK (v:=(vN k)) (AF O underlying224) O (AK (BO (c:=((k-1:Nat):Int)) O O (Br (a:=k) (b:=1) Z Z)) O (AK (v:=(Value.slice (some ⟨b,0,none⟩) (k-1) c)) (Dx (m:=k-1) O O underlying224 sizeOf50 Z) O (AI O (AC.nil (OkQ.subF (sL [2,0] O) ?_)))))))))))
  exact OkQ.in_normal (OkQ.round1 (k-1) (⟨Z,by rw [<-SA hc0.1 hc0.2];exact hv⟩) Z (sF O) sr)
 ·simp only [Bool.and_eq_true,Bool.or_eq_true,Bool.and_eq_false_iff,Bool.or_eq_false_iff,Bool.not_eq_true',Bool.not_eq_false',decide_eq_true_eq,decide_eq_false_iff_not] at hc0
  have hstop:DP bs k=k:=SN Z
  exact AE.exit (OkQ.then_exit (OkQ.round1_exit (OkQ.in_exit (q2 (AM O (AI O (AC.nil (OkQ.subF (sL [2,0] O) (OkQ.then_ (AE.ret (AS O (AZ (v:=(Value.slice (some ⟨b,0,none⟩) k c)) O) (λw hw=>⟨by rw [<-hv,hstop],hw.out⟩))))))))))))
theorem KY (x y c:Nat) (hx:x<4294967296) (hy:y<4294967296) (hc:c<=1) (w:World)  :Calls prog 144 #[(vK .u32 x),(vK .u32 y),(vK .u32 c)] w (Ak w (Value.tuple #[(vK .u32 ((x+y+c)%4294967296)),(vK .u32 ((x+y+c)/4294967296))])):=by
 refine An (args:=[(vK .u32 x),(vK .u32 y),(vK .u32 c)]) func144 O O (AV O) (AE.subF (sL [0,1,2] O) (q4 (AI O (AI O (AC.nil (q2 (AM O (AK (A7 (c:=((x:Nat):Int)) O underlying50 underlying56 (BT Z)) O (AM O (AK (A7 (c:=((y:Nat):Int)) O underlying50 underlying56 (BT Z)) O (AK (AY (c:=((x+y:Nat):Int)) O O (C9 (a:=x) (b:=y) Z)) O ?_)))))))))))
 refine AM O (AK (A7 (c:=((c:Nat):Int)) O underlying50 underlying56 (BT Z)) O (AK (AY (c:=(((x+y)+c:Nat):Int)) O O (C9 (a:=x+y) (b:=c) Z)) O (AI O (q3 (sL [6,7,8] O) (AM O (AK (A7 (c:=((((x+y)+c)%4294967296:Nat):Int)) O underlying56 underlying50 Dw) O (AI O (q3 (sL [6,7,8] O) (AM O (AK (Cj (s:=32) (c:=((((x+y)+c)/4294967296:Nat):Int)) O O O (by decide) (Fc (a:=(x+y)+c) (s:=32))) O (AK (A7 (c:=((((x+y)+c)/4294967296:Nat):Int)) O underlying56 underlying50 (Ca Z)) O ?_)))))))))))
 exact AI O (AC.nil (OkQ.subF (sL [6,7,8] O) (OkQ.then_ (AE.ret (Bo O (AZ (v:=(vK .u32 (((x+y)+c)%4294967296))) O) (AZ (v:=(vK .u32 (((x+y)+c)/4294967296))) O) (λw hw=>⟨rfl,hw.out⟩))))))
theorem KP (x y c d:Nat) (hx:x<4294967296) (hy:y<4294967296) (hc:c<=1) (hd:d=(x+(4294967296-y)+(4294967296-c))%4294967296) (w:World)  :Calls prog 142 #[(vK .u32 x),(vK .u32 y),(vK .u32 c)] w (Ak w (Value.tuple #[(vK .u32 d),(vK .u32 (IU x (y+c)))])):=by
 have hd2:d<4294967296:=by omega
 have hb:=TT hx hy hc hd
 have hx1:4294967295 ^^^ x<4294967296:=Nat.xor_lt_two_pow (n:=32) Z hx
 have hx2:x ^^^ y<4294967296:=Nat.xor_lt_two_pow (n:=32) hx hy
 have hx3:4294967295 ^^^ (x ^^^ y)<4294967296:=Nat.xor_lt_two_pow (n:=32) Z hx2
 have hx4:(4294967295 ^^^ x) &&& y<4294967296:=Nat.lt_of_le_of_lt Nat.and_le_right hy
 have hx5:(4294967295 ^^^ (x ^^^ y)) &&& d<4294967296:=Nat.lt_of_le_of_lt Nat.and_le_right hd2
 refine An (args:=[(vK .u32 x),(vK .u32 y),(vK .u32 c)]) func142 O O (AV O) (AE.subF (sL [0,1,2] O) (q4 (AI O (AI O (AC.nil (q2 (AM O (AM O (AK (BO (c:=(((x+(4294967296-y))%4294967296:Nat):Int)) O O (Mq Z)) O (AM O (AK (BO (c:=((d:Nat):Int)) O O (by rw [Mq Z,hd];exact congrArg Int.ofNat Z)) O ?_)))))))))))
 refine AI O (q3 (sL [0,1,6,7] O) (AM O (AK (Sy (c:=((4294967295 ^^^ x:Nat):Int)) O (ND hx)) O (AM O (AK (JW (c:=(((4294967295 ^^^ x) &&& y:Nat):Int)) O O (NL hx1 hy)) O (AM O (AM O (AK (Yo (c:=((x ^^^ y:Nat):Int)) O O (NY hx hy)) O (AK (Sy (c:=((4294967295 ^^^ (x ^^^ y):Nat):Int)) O (ND hx2)) O (AM O (AK (JW (c:=(((4294967295 ^^^ (x ^^^ y)) &&& d:Nat):Int)) O O (NL hx3 hd2)) O ?_)))))))))))
 exact AK (Ia (c:=(((4294967295 ^^^ x) &&& y ||| (4294967295 ^^^ (x ^^^ y)) &&& d:Nat):Int)) O O (JI hx4 hx5 O)) O (AK (Cj (s:=31) (c:=((((4294967295 ^^^ x) &&& y ||| (4294967295 ^^^ (x ^^^ y)) &&& d)/2147483648:Nat):Int)) O O O (by decide) (Fc (a:=(4294967295 ^^^ x) &&& y ||| (4294967295 ^^^ (x ^^^ y)) &&& d) (s:=31))) O (AI O (AC.nil (OkQ.subF (sL [0,1,6,7] O) (OkQ.then_ (AE.ret (Bo O (AZ (v:=(vK .u32 d)) O) (AZ (v:=(vK .u32 (((4294967295 ^^^ x) &&& y ||| (4294967295 ^^^ (x ^^^ y)) &&& d)/2147483648))) O) (λw hw=>⟨by rw [<-hb],hw.out⟩))))))))
theorem US (x y:Nat) (hx:x<18446744073709551616) (hy:y<18446744073709551616) (w:World)  :Calls prog 147 #[(vK .u64 x),(vK .u64 y)] w (Ak w (Value.tuple #[(vK .u64 (x*y/18446744073709551616)),(vK .u64 (x*y%18446744073709551616))])):=by
 have h1:=JN (a:=x%4294967296) (b:=y%4294967296) Z Z
 have h2:=JN (a:=x/4294967296) (b:=y%4294967296) Z Z
 have h3:=JN (a:=x%4294967296) (b:=y/4294967296) Z Z
 have h4:=JN (a:=x/4294967296) (b:=y/4294967296) Z Z
 have hh:=S1 x y
 have hh2:x*y/18446744073709551616<18446744073709551616:=Nat.div_lt_of_lt_mul (Nat.mul_lt_mul'' hx hy)
 refine An (args:=[(vK .u64 x),(vK .u64 y)]) func147 O O (AV O) (AE.subF (sL [0,1] O) (q4 (AI O (AI O (AC.nil (q2 (AM O (AK (JW (c:=((x%4294967296:Nat):Int)) O O (H_ (a:=x) Z)) O (AI O (q3 (sL [0,1,4,5,6] O) (AM O ?_)))))))))))
 refine AK (Cj (s:=32) (c:=((x/4294967296:Nat):Int)) O O O (by decide) (Fc (a:=x) (s:=32))) O (AI O (q3 (sL [0,1,4,5,6,7] O) (AM O (AK (JW (c:=((y%4294967296:Nat):Int)) O O (H_ (a:=y) Z)) O (AI O (q3 (sL [0,1,4,5,6,7,8] O) (AM O (AK (Cj (s:=32) (c:=((y/4294967296:Nat):Int)) O O O (by decide) (Fc (a:=y) (s:=32))) O (AI O (q3 (sL [0,1,4,5,6,7,8,9] O) (AM O ?_)))))))))))
 refine AM O (AK (DU (c:=(((x%4294967296)*(y%4294967296):Nat):Int)) O O (EY (a:=x%4294967296) (b:=y%4294967296) Z)) O (AI O (q3 (sL [0,1,4,5,6,7,8,9,10] O) (AM O (AM O (AK (DU (c:=(((x/4294967296)*(y%4294967296):Nat):Int)) O O (EY (a:=x/4294967296) (b:=y%4294967296) Z)) O (AM O (AK (Cj (s:=32) (c:=((((x%4294967296)*(y%4294967296))/4294967296:Nat):Int)) O O O (by decide) (Fc (a:=(x%4294967296)*(y%4294967296)) (s:=32))) O (AK (AY (c:=((((x/4294967296)*(y%4294967296))+(((x%4294967296)*(y%4294967296))/4294967296):Nat):Int)) O O (C9 (a:=(x/4294967296)*(y%4294967296)) (b:=((x%4294967296)*(y%4294967296))/4294967296) Z)) O (AI O (q3 (sL [0,1,4,5,6,7,8,9,11] O) ?_)))))))))))
 refine AM O (AK (JW (c:=(((((x/4294967296)*(y%4294967296))+(((x%4294967296)*(y%4294967296))/4294967296))%4294967296:Nat):Int)) O O (H_ (a:=((x/4294967296)*(y%4294967296))+(((x%4294967296)*(y%4294967296))/4294967296)) Z)) O (AI O (q3 (sL [0,1,4,5,6,7,8,9,11,12] O) (AM O (AK (Cj (s:=32) (c:=(((((x/4294967296)*(y%4294967296))+(((x%4294967296)*(y%4294967296))/4294967296))/4294967296:Nat):Int)) O O O (by decide) (Fc (a:=((x/4294967296)*(y%4294967296))+(((x%4294967296)*(y%4294967296))/4294967296)) (s:=32))) O (AI O (q3 (sL [0,1,4,5,6,7,8,9,11,12,13] O) (AM O (AM O (AM O (AK (DU (c:=(((x%4294967296)*(y/4294967296):Nat):Int)) O O (EY (a:=x%4294967296) (b:=y/4294967296) Z)) O ?_)))))))))))
 refine AK (AY (c:=((((((x/4294967296)*(y%4294967296))+(((x%4294967296)*(y%4294967296))/4294967296))%4294967296)+((x%4294967296)*(y/4294967296)):Nat):Int)) O O (C9 (a:=(((x/4294967296)*(y%4294967296))+(((x%4294967296)*(y%4294967296))/4294967296))%4294967296) (b:=(x%4294967296)*(y/4294967296)) Z)) O (AI O (q3 (sL [0,1,4,5,6,7,8,9,11,12,13] O) (AM O (AM O (AK (DU (c:=(((x/4294967296)*(y/4294967296):Nat):Int)) O O (EY (a:=x/4294967296) (b:=y/4294967296) Z)) O (AM O (AK (AY (c:=((((x/4294967296)*(y/4294967296))+((((x/4294967296)*(y%4294967296))+(((x%4294967296)*(y%4294967296))/4294967296))/4294967296):Nat):Int)) O O (C9 (a:=(x/4294967296)*(y/4294967296)) (b:=(((x/4294967296)*(y%4294967296))+(((x%4294967296)*(y%4294967296))/4294967296))/4294967296) Z)) O (AM O (AK (Cj (s:=32) (c:=(((((((x/4294967296)*(y%4294967296))+(((x%4294967296)*(y%4294967296))/4294967296))%4294967296)+((x%4294967296)*(y/4294967296)))/4294967296:Nat):Int)) O O O (by decide) (Fc (a:=((((x/4294967296)*(y%4294967296))+(((x%4294967296)*(y%4294967296))/4294967296))%4294967296)+((x%4294967296)*(y/4294967296))) (s:=32))) O (AK (AY (c:=((x*y/18446744073709551616:Nat):Int)) O O (by rw [<-Int.natCast_add,hh];exact BT hh2)) O (AI O ?_)))))))))))
 exact q3 (sL [0,1,4,5,6,7,8,9,11,12] O) (AM O (AM O (AK (DU (c:=((x*y%18446744073709551616:Nat):Int)) O O TG) O (AI O (AC.nil (OkQ.subF (sL [0,1,4,5,6,7,8,9,11,12] O) (OkQ.then_ (AE.ret (Bo O (AZ (v:=(vK .u64 (x*y/18446744073709551616))) O) (AZ (v:=(vK .u64 (x*y%18446744073709551616))) O) (λw hw=>⟨rfl,hw.out⟩))))))))))
theorem Ui (hi lo y:Nat) (hh:hi<y) (hl:lo<4294967296) (hy:y<4294967296) (w:World)  :Calls prog 157 #[(vK .u32 hi),(vK .u32 lo),(vK .u32 y)] w (Ak w (Value.tuple #[(vK .u32 ((hi*4294967296+lo)/y)),(vK .u32 ((hi*4294967296+lo)%y))])):=by
 refine An (args:=[(vK .u32 hi),(vK .u32 lo),(vK .u32 y)]) func157 O O (AV O) (AE.subF (sL [0,1,2] O) (q4 (AI O (AI O (AC.nil (q1 (q4 (AM O (AK (Ce (c:=(decide (y≠0))) O O (ZB (a:=y) (b:=0))) O (AM O ?_))))))))))
 refine AC.mid (FM:=[(0,(vK .u32 hi)),(1,(vK .u32 lo)),(2,(vK .u32 y)),(6,(Value.int .u32 (0:Int))),(7,(Value.int .u32 (0:Int))),(9,(vK .u32 y)),(10,(Value.bool (decide (y≠0)))),(11,(Value.bool (decide (y≠0)))),(15,(Value.bool ((decide (y≠0))&&(decide (y<=hi)))))]) (LM:=[]) 4 ?_ ?_
 ·rcases Bool.eq_false_or_eq_true (decide (y≠0)) with hg1|hg1
  ·skip
   refine AC.retell (k:=11) (u:=Value.bool true) O (by rw [hg1]) ?_
   have hg1':=hg1
   replace hg1':=of_decide_eq_true hg1'
   exact AC.step (v:=(vK .u32 y)) (AA O) (AW O) O (AV O) (AC.step (v:=(vK .u32 hi)) (AA O) (AW O) O (AV O) (AC.step (v:=(Value.bool (decide (y<=hi)))) (AA O) (Eq (c:=(decide (y<=hi))) O O (SW (a:=y) (b:=hi))) O (AV O) (AK (v:=(Value.bool (decide (y<=hi)))) (AR O O) O (AC.nil (OkQ.mid (sS O (sS O (sS O (sS O (sS O (sS O (sS O (sS (by first|rfl|(rw [hg1];rfl)|rw [hg1]) (sS (by first|rfl|(rw [hg1];rfl)|rw [hg1]) (sN)))))))))) (List.Sublist.refl _))))))
  ·skip
   refine AC.retell (k:=11) (u:=Value.bool false) O (by rw [hg1]) ?_
   have hg1':=hg1
   replace hg1':=of_decide_eq_false hg1'
   exact AC.skip (AD O) O (AV O) (AC.skip (AD O) O (AV O) (AC.skip (AD O) O (AV O) (AK (v:=(Value.bool false)) (AO O O) O (AC.nil (OkQ.mid (sS O (sS O (sS O (sS O (sS O (sS O (sS O (sS (by first|rfl|(rw [hg1];rfl)|rw [hg1]) (sS (by first|rfl|(rw [hg1];rfl)|rw [hg1]) (sN)))))))))) (List.Sublist.refl _))))))
 refine AC.nil (OkQ.subF (sL [0,1,2,6,7,15] O) (OkQ.then_ ?_))
 refine AE.cond O (λhc0=>?_) (λhc0=>?_)
 ·simp only [Bool.and_eq_true,Bool.or_eq_true,Bool.and_eq_false_iff,Bool.or_eq_false_iff,Bool.not_eq_true',Bool.not_eq_false',decide_eq_true_eq,decide_eq_false_iff_not] at hc0
  exfalso;omega
 ·simp only [Bool.and_eq_true,Bool.or_eq_true,Bool.and_eq_false_iff,Bool.or_eq_false_iff,Bool.not_eq_true',Bool.not_eq_false',decide_eq_true_eq,decide_eq_false_iff_not] at hc0
  refine AE.skip (q2 (AM O (AK (A7 (c:=((hi:Nat):Int)) O underlying50 underlying56 (BT Z)) O (AK (v:=(vK .u64 (hi*4294967296))) (Fz (s:=32) O O O (by decide) (GJ (s:=32) Z)) O (AM O (AK (A7 (c:=((lo:Nat):Int)) O underlying50 underlying56 (BT Z)) O (AK (Ia (c:=((hi*4294967296+lo:Nat):Int)) O O (JK Z Z (by rw [Nat.or_comm,Nat.add_comm];exact Gs (s:=32) Z))) O ?_)))))))
  have hq:(hi*4294967296+lo)/y<4294967296:=Nat.div_lt_of_lt_mul (by have h9:(hi+1)*4294967296<=y*4294967296:=Nat.mul_le_mul_right _ hh;omega)
  have hr:(hi*4294967296+lo)%y<y:=Nat.mod_lt _ Z
  refine AI O (q6 (sL [0,2,6,7,8] O) (Cu [(0,true),(1,true),(2,true),(3,true),(4,true),(5,true),(6,true),(7,true),(8,true),(9,true),(10,true),(11,true)] sr (BU O (BU O (Av O (A7 (c:=((y:Nat):Int)) O underlying50 underlying56 (BT Z)) (Av O (Ey (c:=(((hi*4294967296+lo)/y:Nat):Int)) O O Z (Ho (a:=hi*4294967296+lo) (b:=y) Z)) (Av O (A7 (c:=(((hi*4294967296+lo)/y:Nat):Int)) O underlying56 underlying50 (Ca Z)) (BU O (BU O (Av O (A7 (c:=((y:Nat):Int)) O underlying50 underlying56 (BT Z)) (Av O (Cb (c:=(((hi*4294967296+lo)%y:Nat):Int)) O O Z (NQ (a:=hi*4294967296+lo) (b:=y))) ?_)))))))))))
  exact Av O (A7 (c:=(((hi*4294967296+lo)%y:Nat):Int)) O underlying56 underlying50 (Ca Z)) (pS' O (pS' O (OkE.nil (OkQ.subF (sL [0,2,6,7] O) (OkQ.then_ (AE.ret (Bo O (AZ (v:=(vK .u32 ((hi*4294967296+lo)/y))) O) (AZ (v:=(vK .u32 ((hi*4294967296+lo)%y))) O) (λw hw=>⟨rfl,hw.out⟩))))))))
theorem Ua (x:Nat) (hx:x<4294967296) (w:World)  :Calls prog 80 #[(vK .u32 x)] w (Ak w (vN (bl x))):=by
 refine An (args:=[(vK .u32 x)]) func80 O O (AV O) (AE.subF (sL [0] O) (q4 (AI O (AC.nil (q1 (q4 (AM O (AK (CI (c:=(decide (65536<=x))) O O (SW (a:=65536) (b:=x))) O (AC.nil (OkQ.subF (sL [0,2,4] O) (OkQ.then_ ?_)))))))))))
 refine AE.jn2 (tg λ(u:Nat) (n:Nat)=>u<65536/\n<=16/\bl x=bl u+n) (tg λ(u:Nat) (n:Nat)=>[(0,(vK .u32 u)),(2,(vN n))]) (tg λ(u:Nat) (n:Nat)=>[]) ?_ ?_
 ·skip
  refine AE.cond O (λhc0=>?_) (λhc0=>?_)
  ·replace hc0:=of_decide_eq_true hc0
   exact q4 (AM O (AK (Cj (s:=16) (c:=((x/65536:Nat):Int)) O O O (by decide) (Fc (a:=x) (s:=16))) O (AI O (AC.nil (OkQ.subF (sL [0,2] O) (OkQ.then_ (AE.region (AI O (AC.nil (OkQ.join2 (x/65536) 16 (⟨Z,Z,M_ (k:=16) hc0⟩) (sF O) sr))))))))))
  ·replace hc0:=of_decide_eq_false hc0
   exact AE.skip (OkQ.join2 x 0 (⟨Z,Z,rfl⟩) (sF O) sr)
 ·intro u n hJ
  obtain ⟨hu,hn,hv⟩:=hJ
  refine q1 (q4 (AM O (AK (CI (c:=(decide (256<=u))) O O (SW (a:=256) (b:=u))) O (AC.nil (OkQ.subF (sL [0,2,8] O) (OkQ.then_ ?_))))))
  refine AE.jn2 (tg λ(u2:Nat) (n2:Nat)=>u2<256/\n2<=24/\bl x=bl u2+n2) (tg λ(u2:Nat) (n2:Nat)=>[(0,(vK .u32 u2)),(2,(vN n2))]) (tg λ(u2:Nat) (n2:Nat)=>[]) ?_ ?_
  ·skip
   refine AE.cond O (λhc1=>?_) (λhc1=>?_)
   ·replace hc1:=of_decide_eq_true hc1
    refine q4 (AM O (AK (Cj (s:=8) (c:=((u/256:Nat):Int)) O O O (by decide) (Fc (a:=u) (s:=8))) O (AI O (AC.nil (OkQ.subF (sL [0,2] O) (OkQ.then_ (AE.region (AM O (AK (AY (c:=((n+8:Nat):Int)) O O (AU (a:=n) (b:=8) Z)) O (AI O (AC.nil ?_)))))))))))
    exact OkQ.subF (sL [0,2] O) (OkQ.join2 (u/256) (n+8) (⟨Z,Z,by rw [hv,Yw hc1];omega⟩) (sF O) sr)
   ·replace hc1:=of_decide_eq_false hc1
    exact AE.skip (OkQ.join2 u n (⟨Z,Z,hv⟩) (sF O) sr)
  ·intro u2 n2 hJ
   obtain ⟨hu2,hn2,hv2⟩:=hJ
   refine q2 (AM O (AM O (AK (A7 (c:=((u2:Nat):Int)) O underlying50 underlying5 (U7 Z)) O ?_)))
   have hb8:bl u2<=8:=TL (k:=8) hu2
   exact AK (v:=(vK .u8 (bl u2))) (FP (j:=u2) (m:=bl u2) O O underlying9 (YV (by kernel_rfl) hu2) Z) O (AK (A7 (c:=((bl u2:Nat):Int)) O underlying5 underlying3 (E2 Z)) O (AK (AY (c:=((bl x:Nat):Int)) O O (by rw [hv2,Int.add_comm,<-Int.natCast_add];exact E2 Z)) O (AI O (AC.nil (OkQ.subF (sL [0,2] O) (OkQ.then_ (AE.ret (AS O (AZ (v:=(vN (bl x))) O) (λw hw=>⟨rfl,hw.out⟩)))))))))
theorem Wm (x:Nat) (hx:x<4294967296) (w:World)  :Calls prog 158 #[(vK .u32 x)] w (Ak w (vN (32-bl x))):=by
 have hb:=TL (k:=32) hx
 refine An (args:=[(vK .u32 x)]) func158 O O (AV O) (AE.subF (sL [0] O) (q4 (AI O (AC.nil (q2 (AM O (ck' call80 (Ua _ Z) O (AK (BO (c:=((32-(bl x):Nat):Int)) O O (Br (a:=32) (b:=bl x) Z Z)) O (AI O (AC.nil (OkQ.subF (sL [2] O) ?_)))))))))))
 exact OkQ.then_ (AE.ret (AS O (AZ (v:=(vN (32-(bl x)))) O) (λw hw=>⟨rfl,hw.out⟩)))
theorem V3 (z:Int) (hz:-9223372036854775808<=z) (hz2:z<9223372036854775808) (w:World)  :Calls prog 163 #[(vI z)] w (Ak w (vI z.sign)):=by
 refine An (args:=[(vI z)]) func163 O O (AV O) (AE.subF (sL [0] O) (q4 (AI O (AC.nil (q2 (AM O (AK (Fm (c:=(if z<1 then z else 1)) O O O) O (AK (Eo (c:=z.sign) O O (UL z)) O (AI O (AC.nil (OkQ.subF (sL [2] O) ?_)))))))))))
 exact OkQ.then_ (AE.ret (AS O (AZ (v:=(vI z.sign)) O) (λw hw=>⟨rfl,hw.out⟩)))
end
section
section
variable {P:Program} {n:Nat} {F:List (Nat×Value)} {w0:BE} {L:List As} {x y:Operand} {d:Option Tmp} {t:TypeId} {p:String} {af:Array Edge} {g:Option (Nat×Bool)}
def JV (P:Program) (D:Nat) (T:TypeId) (u v:Value) (b:Bool):Prop:=∀w,(Op.equalIn D T u v).run P w=.ok b w
def Mm (P:Program) (D:Nat) (xs ys:List Value) (fs:List Field) (b:Bool):Prop:=∀w,(Op.eqFields D xs.toArray ys.toArray fs).run P w=.ok b w
theorem JV.int {D:Nat} {T:TypeId} {k k':IntKind} {a b:Int} (h:P.underlying T=some (.int k')):JV P (D+1) T (.int k a) (.int k b) (a == b):=λw=>run_equalIn_int w D T k k' a b h
theorem JV.bool {D:Nat} {T:TypeId} {a b:Bool} (h:P.underlying T=some .bool):JV P (D+1) T (.bool a) (.bool b) (a == b):=λw=>run_equalIn_bool' w D T a b h
theorem JV.str {D:Nat} {T:TypeId} {a b:ByteArray} (h:P.underlying T=some .string):JV P (D+1) T (.string a) (.string b) (a.toList == b.toList):=λw=>run_equalIn_string w D T a b h
theorem JV.struct {D:Nat} {T:TypeId} {xs ys:List Value} {b:Bool} {fs:Array Field} (hu:P.underlying T=some (.struct fs)) (hp:P.stoodInHeld T=false) (h:Mm P D xs ys fs.toList b):JV P (D+1) T (.agg xs.toArray) (.agg ys.toArray) b:=λw=>by
  have e:P.fieldsOf T=fs:=by simp [Program.fieldsOf,hu]
  rw [run_equalIn_struct w D T _ _ (by rw [e];exact hu) hp,e];exact h w
theorem Mm.nil {D:Nat} {xs ys:List Value}:Mm P D xs ys [] true:=λw=>rfl
theorem Mm.one {D : Nat} {xs ys : List Value} {f : Field} {fs : List Field} {a b : Value} {r s : Bool} (hn : f.name ≠ "_") (hg : ∀ w, (isAgg f.type).run P w = .ok false w) (ha : xs[f.offset]? = some a) (hb : ys[f.offset]? = some b)
    (h:JV P D f.type a b r) (h2:Mm P D xs ys fs s):Mm P D xs ys (f::fs) (r&&s):=λw=>by
  have e1:(part f.type xs.toArray f.offset).run P w=.ok a w:=by simp [part,hg,ha]
  have e2:(part f.type ys.toArray f.offset).run P w=.ok b w:=by simp [part,hg,hb]
  simp only [Op.eqFields,Sem.run_ite,if_pos hn,Sem.run_bind,e1,e2,Result.andThen_ok,h w]
  cases r
  · simp
  · simp [h2 w]
theorem Mm.agg {D k : Nat} {xs ys us bs : List Value} {f : Field} {fs : List Field} {r s : Bool} (hn : f.name ≠ "_") (hg : ∀ w, (isAgg f.type).run P w = .ok true w) (hs : ∀ w, (sizeOf f.type).run P w = .ok k w)
    (ha:(xs.drop f.offset).take k=us) (hb:(ys.drop f.offset).take k=bs)
    (h:JV P D f.type (.agg us.toArray) (.agg bs.toArray) r) (h2:Mm P D xs ys fs s):Mm P D xs ys (f::fs) (r&&s):=λw=>by
  have ex:∀l:List Value,l.toArray.extract f.offset (f.offset+k)=((l.drop f.offset).take k).toArray:=λl=>by simp [List.extract_eq_take_drop]
  have e1:(part f.type xs.toArray f.offset).run P w=.ok (.agg us.toArray) w:=by simp [part,hg,hs,ex,ha]
  have e2:(part f.type ys.toArray f.offset).run P w=.ok (.agg bs.toArray) w:=by simp [part,hg,hs,ex,hb]
  simp only [Op.eqFields,Sem.run_ite,if_pos hn,Sem.run_bind,e1,e2,Result.andThen_ok,h w]
  cases r
  · simp
  · simp [h2 w]
theorem ET {xs ys:List Value} {c:Bool} {tx ty:TypeId} (hx:evF F x=some (.agg xs.toArray)) (hy:evF F y=some (.agg ys.toArray)) (hg:P.eqGuardType P.depth tx=false) (hc:JV P 10000 tx (.agg xs.toArray) (.agg ys.toArray) c) :
    Ex P n F w0 L ⟨d,.binOp .eql tx x y ty,t,p,af,g⟩ (.bool c):=λA w ha _=>by
  simp only [execOp,ha.ev hx,ha.ev hy,Sem.run_bind,run_eqGuard_agg w .eql tx x y _ _ hg,Result.andThen_ok,run_eql_struct,hc w,Sem.run_pure]
end
theorem UW {a b:Nat} (ha:¬a<18446744073709551616) (hb:¬b<18446744073709551616) (h:Bi a=Bi b):a=b:=by
  rw [EN ha,EN hb] at h
  have h1:bytesN (AQ a)=bytesN (AQ b):=by
    have lt:∀(xs:List Nat),∀x∈bytesN xs,x<256:=λxs x hx=>by
      simp only [bytesN,List.mem_flatMap,List.mem_cons,List.not_mem_nil,or_false] at hx
      obtain ⟨y,_,hy⟩:=hx
      omega
    have inj:∀(l r:List Nat),(∀x∈l,x<256)->(∀x∈r,x<256)->l.map UInt8.ofNat=r.map UInt8.ofNat->l=r:=by
      intro l
      induction l with
      | nil=>intro r _ _ h;cases r<;>simp_all
      | cons x l ih =>
        intro r hl hr h
        cases r with
        | nil=>simp at h
        | cons y r =>
          simp only [List.map_cons,List.cons.injEq] at h
          have e:x=y:=by
            have h3:=congrArg UInt8.toNat h.1
            have h4:=hl x (by simp)
            have h5:=hr y (by simp)
            simp at h3
            omega
          rw [e,ih r (λz hz=>hl z (by simp [hz])) (λz hz=>hr z (by simp [hz])) h.2]
    refine inj _ _ (lt _) (lt _) ?_
    have:=congrArg (λs:ByteArray=>s.data.toList) h
    simpa [Cy] using this
  have h2:AQ a=AQ b:=by
    have hl:(AQ a).length=(AQ b).length:=by
      have:=congrArg List.length h1
      simp only [B4] at this
      omega
    apply List.ext_getElem hl
    intro i hi hi'
    have g:∀k,k<4->(AQ a).getD i 0/256^k%256=(AQ b).getD i 0/256^k%256:=λk hk=>by rw [<-FR _ _ _ hi hk,<-FR _ _ _ hi' hk,h1]
    have wa:=(Bn a).getD i
    have wb:=(Bn b).getD i
    have ea:(AQ a).getD i 0=(AQ a)[i]:=by simp [hi]
    have eb:(AQ b).getD i 0=(AQ b)[i]:=by simp [hi']
    rw [ea,eb] at g
    rw [ea] at wa
    rw [eb] at wb
    have g0:=g 0 Z
    have g1:=g 1 Z
    have g2:=g 2 Z
    have g3:=g 3 Z
    simp only [Nat.pow_zero,Nat.div_one,Nat.pow_one,show (256:Nat)^2=65536 from rfl,show (256:Nat)^3=16777216 from rfl] at g0 g1 g2 g3
    omega
  rw [<-CN a,<-CN b,h2]
theorem Vu (a b:Nat):((((B2 a:Nat):Int) == ((B2 b:Nat):Int))&&(((Bi a).toList == (Bi b).toList)&&true))=decide (a=b):=by
  by_cases e:a=b
  · subst e;simp
  · rw [decide_eq_false e]
    by_cases ha:a<18446744073709551616
    · by_cases hb:b<18446744073709551616
      · rw [Bf ha,Bf hb]
        have:((a:Int) == (b:Int))=false:=by simp;omega
        rw [this];rfl
      · have h1:=Of hb
        rw [Gy ha,<-beq_toListBytes]
        have:(ByteArray.empty == Bi b)=false:=by
          rw [beq_toListBytes,ByteArray.toList_eq,ByteArray.toList_eq,EN hb]
          cases hl:(Cy (bytesN (AQ b))).data.toList with
          | nil =>
            have h3:=congrArg List.length hl
            simp [Cy,B4] at h3
            unfold nw at h1
            omega
          | cons=>rfl
        rw [this];simp
    · by_cases hb:b<18446744073709551616
      · have h1:=Of ha
        rw [Gy hb,<-beq_toListBytes]
        have:(Bi a == ByteArray.empty)=false:=by
          rw [beq_toListBytes,ByteArray.toList_eq,ByteArray.toList_eq,EN ha]
          cases hl:(Cy (bytesN (AQ a))).data.toList with
          | nil =>
            have h3:=congrArg List.length hl
            simp [Cy,B4] at h3
            unfold nw at h1
            omega
          | cons=>rfl
        rw [this];simp
      · rw [<-beq_toListBytes]
        have:(Bi a == Bi b)=false:=by
          cases hbb:Bi a == Bi b with
          | false=>rfl
          | true =>
            rw [beq_toListBytes] at hbb
            have h2:(Bi a).toList=(Bi b).toList:=by simpa using hbb
            rw [ByteArray.toList_eq,ByteArray.toList_eq] at h2
            have h3:Bi a=Bi b:=by
              cases hA:Bi a with|mk da=>cases hB:Bi b with|mk db =>
                rw [hA,hB] at h2
                congr 1
                exact Array.toList_inj.1 h2
            exact absurd (UW ha hb h3) e
        rw [this];simp
theorem L6 (D a b:Nat):JV prog (D+2) 58 (.agg (Ae a).toArray) (.agg (Ae b).toArray) (decide (a=b)):=by
  rw [<-Vu]
  exact JV.struct underlying58 Tryz.stoodInHeld58 (Mm.one (by decide) isAgg56 O O (JV.int underlying56) (Mm.one (by decide) isAgg9 O O (JV.str underlying9) Mm.nil))
end
section
set_option maxRecDepth 100000
theorem I3 (n:Nat) (hn:n<18446744073709551616) (w:World)  :Calls prog 90 #[(vK .u64 n)] w (Ak w (aG (Ae n))):=by
 refine An (args:=[(vK .u64 n)]) func90 O O (AV O) (AE.subF (sL [0] O) (q4 (al GH O λb1=>AC.nil (q2 (AM O (AK (v:=(aG ([(vK .u64 n),(Value.string (Bi 0))]))) (Aa (zs:=Ae 0) (vs:=[(vK .u64 n),(Value.string (Bi 0))]) (pv:=[(0,(vK .u64 n))]) (places:=[(0,1),(1,1)]) zeroValue58 underlying58 (λw=>by simp [sizeOf9,sizeOf56]) O O) O (AC.retell (k:=4) (u:=(aG (Ae n))) O (by rw [DF hn];rfl) (BP O sizeOf58 O (AC.nil (OkQ.subF (sL [2] O) ?_))))))))))
 exact OkQ.then_ (AE.ret (AS O (BH (i:=0) (cs:=Ae n) O O isAgg58 sizeOf58 O) (λw hw=>⟨rfl,hw.out⟩)))
theorem Kf  :Instr.fill ([(0,1),(1,1)].toArray[·]?) (Ae 0).toArray []=some (Ae 0).toArray:=by kernel_rfl
theorem Qy (a:Nat) (w:World)  :Calls prog 136 #[(aG (Ae a))] w (Ak w (Value.bool (decide (a=0)))):=by
 refine An (args:=[(aG (Ae a))]) func136 O O (AV O) (AE.subF (sL [0] O) (q4 (B0 (cs:=Ae a) O λb1=>AI O (q3 (sL [1,2] O) (BC 0 Cl O (AK (v:=(aG (Ae 0))) (Aa (zs:=Ae 0) (vs:=Ae 0) (pv:=[]) (places:=[(0,1),(1,1)]) zeroValue58 underlying58 (λw=>by simp [sizeOf9,sizeOf56]) O (Kf )) O (AK (ET (c:=(decide (a=0))) O O eqGuardType58 (L6 9998 a 0)) O (AI O (AC.nil (OkQ.subF (sL [2] O) ?_))))))))))
 exact OkQ.then_ (AE.ret (AS O (AZ (v:=(Value.bool (decide (a=0)))) O) (λw hw=>⟨rfl,hw.out⟩)))
theorem C2 (v:Nat) (hv:nw v<=1099511627776) (w:World)  :Calls prog 138 #[(aG (Ae v))] w (λe w'=>∃b,e=.returned (.slice (some ⟨b,0,none⟩) (nw v) (Ax v).length)/\F0 w.heap.size w w'/\w.heap.size<=b/\w'.heap[b]?=some (.cells (Aq (Ax v)).toArray 50 (0,0))):=by
 refine An (args:=[(aG (Ae v))]) func138 O O (AV O) (AE.subF (sL [0] O) (q4 (B0 (cs:=Ae v) O λb1=>AI O (q6 (sL [1,2] O) (q4 (AK (v:=(pP b1 1)) (AB O underlying58 O sizeOf9 O) O (BL 0 (Value.string (Bi v)) U_ O (AK (B3 (c:=(decide (v<18446744073709551616))) O O Cf) O (AC.nil (OkQ.subF (sL [1,2,8] O) ?_))))))))))
 refine OkQ.then_ ?_
 refine AE.cond O (λhc0=>?_) (λhc0=>?_)
 ·replace hc0:=of_decide_eq_true hc0
  refine q4 (AK (v:=(pP b1 0)) (AB O underlying58 O sizeOf56 O) O (BL 0 (vK .u64 (B2 v)) Gg O (AC.retell (k:=10) (u:=(vK .u64 v)) O (by rw [Bf hc0]) (AK (A7 (c:=((v%4294967296:Nat):Int)) O underlying56 underlying50 Dw) O (AK (v:=(pP b1 0)) (AB O underlying58 O sizeOf56 O) O (BL 0 (vK .u64 (B2 v)) Gg O (AC.retell (k:=13) (u:=(vK .u64 v)) O (by rw [Bf hc0]) (AK (Cj (s:=32) (c:=((v/4294967296:Nat):Int)) O O O (by decide) (Fc (a:=v) (s:=32))) O (AK (A7 (c:=((v/4294967296:Nat):Int)) O underlying56 underlying50 (Ca Z)) O (AC.openV (V:=λb2=>(Value.slice (some ⟨b2,0,none⟩) 2 2)) (T:=50) (cs:=Aq ([v%4294967296,v/4294967296])) (AT O) (Ap (cs:=Aq ([v%4294967296,v/4294967296])) (pv:=[(0,(vK .u32 (v%4294967296))),(1,(vK .u32 (v/4294967296)))]) underlying224 sizeOf50 zeroValue50 (by decide) (by decide) O (by kernel_rfl)) O (AV O) λb2=>Cc call156 (λw hw=>Tb _ 2 2 ([v%4294967296,v/4294967296]) (W32.cons Z (W32.cons Z (W32.nil))) (by simp) (by simp) (by simp;try omega) w (hw.get (i:=0) O)) O ?_))))))))))
  refine AI O (AC.nil (OkQ.subF (sL [1,2] O) (OkQ.then_ (AE.ret (OkQ.then_ret ?_)))))
  have hpad:Ax v=[v%4294967296,v/4294967296]:=by simp [Ax,hc0]
  have hnw:nw v=DP [v%4294967296,v/4294967296] 2:=by rw [<-PF (Vy hc0) (m:=2) (by simp),<-Qc v,hpad];simp [val];congr 1;omega
  have hret:∀b:Nat,(Ending.returned (Value.slice (some ⟨b,0,none⟩) (DP ([v%4294967296,v/4294967296]) 2) 2))=.returned (Value.slice (some ⟨b,0,none⟩) (nw v) (Ax v).length):=λb=>by rw [hnw,hpad];rfl
  replace hret:=hret b2
  have hcells:(some (Obj.cells (Aq ([v%4294967296,v/4294967296])).toArray 50 (0,0)))=some (Obj.cells (Aq (Ax v)).toArray 50 (0,0)):=by rw [hpad]
  exact AS O (AZ (v:=(Value.slice (some ⟨b2,0,none⟩) (DP ([v%4294967296,v/4294967296]) 2) 2)) O) (λw hw=>⟨b2,hret,hw.out,hw.fresh (i:=0) O,(hw.get (i:=0) O).trans hcells⟩)
 ·replace hc0:=of_decide_eq_false hc0
  refine AE.skip (q2 (AK (v:=(pP b1 1)) (AB O underlying58 O sizeOf9 O) O (BL 0 (Value.string (Bi v)) U_ O (AK (v:=(vN ((Bi v).size))) (Ka O underlying9) O (AC.retell (k:=20) (u:=(vN (4*nw v))) O (by rw [EN hc0,KX,B4];rfl) (AK (Ey (c:=(((4*nw v)/4:Nat):Int)) O O Z (FA (a:=4*nw v) (b:=4) Z)) O (AC.retell (k:=21) (u:=(vN (nw v))) O (by rw [Nat.mul_div_cancel_left _ Z]) (AC.openV (V:=λb2=>(Value.slice (some ⟨b2,0,none⟩) (nw v) (nw v))) (T:=50) (cs:=Aq (List.replicate (nw v) 0)) (AT O) (C1 (m:=nw v) (c:=nw v) O O Z Z) O (AV O) λb2=>AI O (q6 (sL [1,2,3] O) (q4 ?_))))))))))
  refine AM O (AK (v:=(vN (nw v))) (AF O underlying224) O (AM O (AC.nil (OkQ.subF (sL [1,2,3,24,25] O) (OkQ.then_ (AE.block ?_))))))
  refine AE.lp2 (tg λ(i:Nat) (os:List Nat)=>i<=nw v/\os.length=nw v/\os.take i=(AQ v).take i/\∀j,i<=j->os.getD j 0=0) (tg λ(i:Nat) (os:List Nat)=>[(1,(pP b1 0)),(2,(Value.slice none 0 0)),(3,(Value.slice (some ⟨b2,0,none⟩) (nw v) (nw v))),(24,(vN (nw v))),(25,(vN i))]) (tg λ(i:Nat) (os:List Nat)=>[Ah b2 50 (Aq os),Ah b1 58 (Ae v)]) (tg λ(i:Nat) (os:List Nat)=>nw v-i) 0 (List.replicate (nw v) 0) (⟨Nat.zero_le _,by simp,by simp,λj _=>by simp [List.getD_eq_getElem?_getD,List.getElem?_replicate];split<;>rfl⟩) (sF O) sr (λi os hJ=>?_)
  obtain ⟨hin,hl,ht,h0⟩:=hJ
  refine q4 (AK (Ad (c:=(decide (i<(nw v)))) O O (B7 (a:=i) (b:=nw v))) O (AC.nil (q1 ?_)))
  refine AE.cond O (λhc1=>?_) (λhc1=>?_)
  ·replace hc1:=of_decide_eq_true hc1
   refine AE.skip (q1 (AE.block (q4 (AM O (AI O (q3 (sL [1,2,3,24,25,4] O) (AM O (AC.nil (OkQ.then_ (AE.block ?_))))))))))
   refine AE.lp2 (tg λ(k:Nat) (xs:List Nat)=>k<=4/\xs=os.set i ((AQ v).getD i 0%256^k)) (tg λ(k:Nat) (xs:List Nat)=>[(1,(pP b1 0)),(2,(Value.slice none 0 0)),(3,(Value.slice (some ⟨b2,0,none⟩) (nw v) (nw v))),(24,(vN (nw v))),(25,(vN i)),(4,(vN i)),(28,(vN k))]) (tg λ(k:Nat) (xs:List Nat)=>[Ah b2 50 (Aq xs),Ah b1 58 (Ae v)]) (tg λ(k:Nat) (xs:List Nat)=>4-k) 0 os (⟨Z,by rw [Nat.pow_zero,Nat.mod_one];exact Tm (h0 i (Nat.le_refl _))⟩) (sF O) sr (λk xs hJ=>?_)
   obtain ⟨hk,hxs⟩:=hJ
   refine q4 (AK (Ad (c:=(decide (k<4))) O O (B7 (a:=k) (b:=4))) O (AC.nil (q1 ?_)))
   refine AE.cond O (λhc2=>?_) (λhc2=>?_)
   ·replace hc2:=of_decide_eq_true hc2
    refine AE.skip (q1 (AE.block (q4 (AM O (AI O (AC.nil (OkQ.subF (sL [1,2,3,24,25,4,28,5] O) (OkQ.then_ (Cu [(0,true),(1,true),(2,true),(4,true),(5,true),(6,true),(7,true),(8,true),(9,true),(10,true),(11,true),(12,true),(13,true),(14,true),(3,false),(15,true),(16,true),(17,false)] (sl sr) ?_)))))))))
    have hi:i<nw v:=hc1
    have hxi:xs.getD i 0=(AQ v).getD i 0%256^k:=by rw [hxs];simp [hl,hi]
    have hxl:xs.length=nw v:=by rw [hxs];simp [hl]
    have hby:(AQ v).getD i 0/256^k%256<256:=Nat.mod_lt _ Z
    have hget:(Bi v)[4*i+k]?=some (UInt8.ofNat ((AQ v).getD i 0/256^k%256)):=by rw [EN hc0,SJ (by rw [B4];show 4*i+k<4*nw v;omega),FR _ _ _ hi hc2]
    have hw32:xs.getD i 0<4294967296:=by rw [hxi];exact Nat.lt_of_le_of_lt (Nat.mod_le _ _) ((Bn v).getD i)
    refine BU O (BU O (Av (v:=(pP b2 i)) O (AP (j:=i) O O underlying224 sizeOf50 O Z (by simp)) (Av (v:=(pP b1 1)) O (AB O underlying58 O sizeOf9 O) (Bx 0 (Value.string (Bi v)) U_ O (BU O (Av O (DU (c:=((4*i:Nat):Int)) O O (FD (a:=4) (b:=i) Z)) (BU O (Av O (AY (c:=(((4*i)+k:Nat):Int)) O O (AU (a:=4*i) (b:=k) Z)) (Av (v:=(vK .u8 ((AQ v).getD i 0/256^k%256))) O (FP (j:=4*i+k) (m:=(AQ v).getD i 0/256^k%256) O O underlying9 hget hby) (Av O (A7 (c:=(((AQ v).getD i 0/256^k%256:Nat):Int)) O underlying5 underlying50 (Ca Z)) (BU O ?_)))))))))))
    refine Av O (DU (c:=((8*k:Nat):Int)) O O (FD (a:=8) (b:=k) Z)) (Av (v:=(vK .u32 ((AQ v).getD i 0/256^k%256*2^(8*k)))) O (Fz (s:=8*k) O O O (show 8*k<=32 by omega) (Tt (Po hc2))) (OkE.imp O (AK (AN (i:=0) (v:=(vK .u32 (xs.getD i 0))) O O isAgg50 (BD (xs:=xs) (j:=i) Z)) O (OkE.back (sl sr) (Av O (Ia (c:=(((AQ v).getD i 0%256^(k+1):Nat):Int)) O O (JI hw32 (Po hc2) (Rt hxi))) (Av (v:=(pP b2 i)) O (AP (j:=i) O O underlying224 sizeOf50 O Z (by simp)) (OkE.imp O (AC.store' (i:=0) (off:=i) (vs:=[(vK .u32 ((AQ v).getD i 0%256^(k+1)))]) (cs':=Aq (xs.set i ((AQ v).getD i 0%256^(k+1)))) (L':=[Ah b2 50 (Aq (xs.set i ((AQ v).getD i 0%256^(k+1)))),Ah b1 58 (Ae v)]) (AT O) O O O O O sizeOf50 O (CW (BS _) Z) (B9 Z) O (OkE.back (sl sr) (OkE.nil (OkQ.subF (sL [1,2,3,24,25,4,28] O) ?_)))))))))))
    exact OkQ.in_normal (OkQ.then_ (AE.region (AK (AY (c:=((k+1:Nat):Int)) O O (AU (a:=k) (b:=1) Z)) O (AM O (AC.nil (OkQ.subF (sL [1,2,3,24,25,4,28] O) (OkQ.round2 (k+1) (xs.set i ((AQ v).getD i 0%256^(k+1))) (⟨Z,by rw [hxs,List.set_set]⟩) Z (sF O) sr)))))))
   ·replace hc2:=of_decide_eq_false hc2
    refine AE.exit (OkQ.then_exit (OkQ.round2_exit (OkQ.in_exit (OkQ.in_normal (OkQ.then_ (AE.region (AK (AY (c:=((i+1:Nat):Int)) O O (AU (a:=i) (b:=1) Z)) O (AM O (AC.nil (OkQ.subF (sL [1,2,3,24,25,4,28] O) ?_))))))))))
    have hst:=Ow (ws:=AQ v) (xs:=xs) hl rfl hc1 ht h0 (by rw [hxs,show k=4 by omega];congr 1;exact Nat.mod_eq_of_lt ((Bn v).getD i))
    exact OkQ.round2 (i+1) xs (⟨Z,hst.1,hst.2.1,hst.2.2⟩) Z (sF O) sr
  ·replace hc1:=of_decide_eq_false hc1
   refine AE.exit (OkQ.then_exit (OkQ.round2_exit (OkQ.in_exit (q2 (AM O (AI O (AC.nil (OkQ.subF (sL [1,2,3,24,25] O) (OkQ.then_ (AE.ret ?_))))))))))
   have hpad:Ax v=AQ v:=by simp [Ax,hc0]
   have hos:os=AQ v:=U5 hl rfl hc1 ht
   have hret:∀b:Nat,(Ending.returned (Value.slice (some ⟨b,0,none⟩) (nw v) (nw v)))=.returned (Value.slice (some ⟨b,0,none⟩) (nw v) (Ax v).length):=λb=>by rw [hpad];rfl
   replace hret:=hret b2
   have hcells:(some (Obj.cells (Aq os).toArray 50 (0,0)))=some (Obj.cells (Aq (Ax v)).toArray 50 (0,0)):=by rw [hpad,hos]
   exact AS O (AZ (v:=(Value.slice (some ⟨b2,0,none⟩) (nw v) (nw v))) O) (λw hw=>⟨b2,hret,hw.out,hw.fresh (i:=0) O,(hw.get (i:=0) O).trans hcells⟩)
end
end Go.Proofs.YtpgncndhhhllfaaGreat
