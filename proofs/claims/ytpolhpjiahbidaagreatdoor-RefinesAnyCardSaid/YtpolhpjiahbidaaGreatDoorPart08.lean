import Derived.Laws.StructEq
import Derived.Test.YtpolhpjiahbidaaGreatDoorPart05
import Derived.Test.YtpolhpjiahbidaaGreatDoorPart07
namespace Go.Proofs.YtpolhpjiahbidaaGreatDoor
open Go Go.RowKit Go.Proofs.Tryz
set_option linter.unusedVariables false
set_option linter.unusedSimpArgs false
section
set_option maxRecDepth 100000
theorem Um (b m c:Nat) (bs:List Nat) (hbs:W32 bs) (hm:m<=bs.length) (hc:m<=c) (hL:c<4611686018427387904) (w:World) (hb:w.heap[b]?=some (.cells (Ag bs).toArray 92 (0,0))):Calls prog 189 #[(Value.slice (some ⟨b,0,none⟩) m c)] w (Ah w (Value.slice (some ⟨b,0,none⟩) (Do bs m) c)):=by
 refine Ab (args:=[(Value.slice (some ⟨b,0,none⟩) m c)]) func189 O O (AI O) (OkC.subF (sL [0] O) (q4 (asg' O (OkL.nil (q1 (OkC.block ?_))))))
 refine OkC.lp1 (tg λ(k:Nat)=>k<=m/\Do bs k=Do bs m) (tg λ(k:Nat)=>[(2,(Value.slice none 0 0)),(0,(Value.slice (some ⟨b,0,none⟩) k c))]) (tg λ(k:Nat)=>[]) (tg λ(k:Nat)=>k) m (⟨Nat.le_refl _,rfl⟩) (sF O) sr (λk hJ=>?_)
 obtain ⟨hk,hv⟩:=hJ
 refine OkC.seq (q4 (AM O (AH (v:=(vN k)) (AD O underlying255) O (AH (Bs (c:=(decide (0<k))) O O (CB (a:=0) (b:=k))) O (AM O ?_)))))
 refine OkL.mid (FM:=[(2,(Value.slice none 0 0)),(0,(Value.slice (some ⟨b,0,none⟩) k c)),(3,(Value.slice (some ⟨b,0,none⟩) k c)),(4,(vN k)),(5,(Value.bool (decide (0<k)))),(6,(Value.bool (decide (0<k)))),(14,(Value.bool ((decide (0<k))&&(decide ((bs.getD (k-1) 0)=0)))))]) (LM:=[]) 8 ?_ ?_
 ·rcases Bool.eq_false_or_eq_true (decide (0<k)) with hg1|hg1
  ·skip
   refine OkL.retell (k:=6) (u:=Value.bool true) O (by rw [hg1]) ?_
   have hg1':=hg1
   replace hg1':=of_decide_eq_true hg1'
   refine OkL.step (v:=(Value.slice (some ⟨b,0,none⟩) k c)) (AB O) (Ai O) O (AI O) (OkL.step (v:=(Value.slice (some ⟨b,0,none⟩) k c)) (AB O) (Ai O) O (AI O) (OkL.step (v:=(vN k)) (AB O) (AD O underlying255) O (AI O) (OkL.step (v:=(vN (k-1))) (AB O) (BI (c:=((k-1:Nat):Int)) O O (Br (a:=k) (b:=1) Z Z)) O (AI O) (OkL.step (v:=(pP b (k-1))) (AB O) (AK (j:=k-1) O O underlying255 sizeOf92 O Z (by simp)) O (AI O) ?_))))
   have hx1:bs.getD (k-1) 0<4294967296:=W32.getD hbs (k-1)
   exact OkL.step (v:=(vK .u32 (bs.getD (k-1) 0))) (AB O) (BR (v:=(vK .u32 (bs.getD (k-1) 0))) O (λw' hw=>CA.at0 (hw.oldCA (by simp) (EM hb)) (A8 (xs:=bs) (j:=(k-1)) Z)) isAgg92) O (AI O) (OkL.step (v:=(Value.bool (decide ((bs.getD (k-1) 0)=0)))) (AB O) (BG (c:=(decide ((bs.getD (k-1) 0)=0))) O O (K7 (a:=bs.getD (k-1) 0) (b:=0))) O (AI O) (AH (v:=(Value.bool (decide ((bs.getD (k-1) 0)=0)))) (AO O O) O (OkL.nil (OkQ.mid (sS O (sS O (sS O (sS O (sS O (sS (by first|rfl|(rw [hg1];rfl)|rw [hg1]) (sS (by first|rfl|(rw [hg1];rfl)|rw [hg1]) (sN)))))))) (List.Sublist.refl _)))))
  ·skip
   refine OkL.retell (k:=6) (u:=Value.bool false) O (by rw [hg1]) ?_
   have hg1':=hg1
   replace hg1':=of_decide_eq_false hg1'
   exact OkL.skip (AC O) O (AI O) (OkL.skip (AC O) O (AI O) (OkL.skip (AC O) O (AI O) (OkL.skip (AC O) O (AI O) (OkL.skip (AC O) O (AI O) (OkL.skip (AC O) O (AI O) (OkL.skip (AC O) O (AI O) (AH (v:=(Value.bool false)) (AJ O O) O (OkL.nil (OkQ.mid (sS O (sS O (sS O (sS O (sS O (sS (by first|rfl|(rw [hg1];rfl)|rw [hg1]) (sS (by first|rfl|(rw [hg1];rfl)|rw [hg1]) (sN)))))))) (List.Sublist.refl _))))))))))
 refine OkL.nil (OkQ.subF (sL [2,0,14] O) (OkQ.then_ ?_))
 refine OkC.cond O (λhc0=>?_) (λhc0=>?_)
 ·simp only [Bool.and_eq_true,Bool.or_eq_true,Bool.and_eq_false_iff,Bool.or_eq_false_iff,Bool.not_eq_true',Bool.not_eq_false',decide_eq_true_eq,decide_eq_false_iff_not] at hc0
  refine OkC.skip (OkQ.then_ (OkC.block (OkC.region (AM O (AM O (AH (v:=(vN k)) (AD O underlying255) O (AH (BI (c:=((k-1:Nat):Int)) O O (Br (a:=k) (b:=1) Z Z)) O (AH (v:=(Value.slice (some ⟨b,0,none⟩) (k-1) c)) (GJ (m:=k-1) O O underlying255 sizeOf92 Z) O (asg' O (OkL.nil (OkQ.subF (sL [2,0] O) ?_)))))))))))
  exact OkQ.in_normal (OkQ.round1 (k-1) (⟨Z,by rw [<-Rx hc0.1 hc0.2];exact hv⟩) Z (sF O) sr)
 ·simp only [Bool.and_eq_true,Bool.or_eq_true,Bool.and_eq_false_iff,Bool.or_eq_false_iff,Bool.not_eq_true',Bool.not_eq_false',decide_eq_true_eq,decide_eq_false_iff_not] at hc0
  have hstop:Do bs k=k:=R7 Z
  exact OkC.exit (OkQ.then_exit (OkQ.round1_exit (OkQ.in_exit (q2 (AM O (asg' O (OkL.nil (OkQ.subF (sL [2,0] O) (OkQ.then_ (OkC.ret (ret_one O (rd_tmp (v:=(Value.slice (some ⟨b,0,none⟩) k c)) O) (λw hw=>⟨by rw [<-hv,hstop],hw.out⟩))))))))))))
theorem Jt (x y c:Nat) (hx:x<4294967296) (hy:y<4294967296) (hc:c<=1) (w:World)  :Calls prog 240 #[(vK .u32 x),(vK .u32 y),(vK .u32 c)] w (Ah w (Value.tuple #[(vK .u32 ((x+y+c)%4294967296)),(vK .u32 ((x+y+c)/4294967296))])):=by
 refine Ab (args:=[(vK .u32 x),(vK .u32 y),(vK .u32 c)]) func240 O O (AI O) (OkC.subF (sL [0,1,2] O) (q4 (asg' O (asg' O (OkL.nil (q2 (AM O (AH (Aw (c:=((x:Nat):Int)) O underlying92 underlying69 (BK Z)) O (AM O (AH (Aw (c:=((y:Nat):Int)) O underlying92 underlying69 (BK Z)) O (AH (AX (c:=((x+y:Nat):Int)) O O (DF (a:=x) (b:=y) Z)) O ?_)))))))))))
 refine AM O (AH (Aw (c:=((c:Nat):Int)) O underlying92 underlying69 (BK Z)) O (AH (AX (c:=(((x+y)+c:Nat):Int)) O O (DF (a:=x+y) (b:=c) Z)) O (asg' O (q3 (sL [6,7,8] O) (AM O (AH (Aw (c:=((((x+y)+c)%4294967296:Nat):Int)) O underlying69 underlying92 D_) O (asg' O (q3 (sL [6,7,8] O) (AM O (AH (Cg (s:=32) (c:=((((x+y)+c)/4294967296:Nat):Int)) O O O (by decide) (Fy (a:=(x+y)+c) (s:=32))) O (AH (Aw (c:=((((x+y)+c)/4294967296:Nat):Int)) O underlying69 underlying92 (CV Z)) O ?_)))))))))))
 exact asg' O (OkL.nil (OkQ.subF (sL [6,7,8] O) (OkQ.then_ (OkC.ret (C_ O (rd_tmp (v:=(vK .u32 (((x+y)+c)%4294967296))) O) (rd_tmp (v:=(vK .u32 (((x+y)+c)/4294967296))) O) (λw hw=>⟨rfl,hw.out⟩))))))
theorem Jm (x y c d:Nat) (hx:x<4294967296) (hy:y<4294967296) (hc:c<=1) (hd:d=(x+(4294967296-y)+(4294967296-c))%4294967296) (w:World)  :Calls prog 244 #[(vK .u32 x),(vK .u32 y),(vK .u32 c)] w (Ah w (Value.tuple #[(vK .u32 d),(vK .u32 (Im x (y+c)))])):=by
 have hd2:d<4294967296:=by omega
 have hb:=UC hx hy hc hd
 have hx1:4294967295 ^^^ x<4294967296:=Nat.xor_lt_two_pow (n:=32) Z hx
 have hx2:x ^^^ y<4294967296:=Nat.xor_lt_two_pow (n:=32) hx hy
 have hx3:4294967295 ^^^ (x ^^^ y)<4294967296:=Nat.xor_lt_two_pow (n:=32) Z hx2
 have hx4:(4294967295 ^^^ x) &&& y<4294967296:=Nat.lt_of_le_of_lt Nat.and_le_right hy
 have hx5:(4294967295 ^^^ (x ^^^ y)) &&& d<4294967296:=Nat.lt_of_le_of_lt Nat.and_le_right hd2
 refine Ab (args:=[(vK .u32 x),(vK .u32 y),(vK .u32 c)]) func244 O O (AI O) (OkC.subF (sL [0,1,2] O) (q4 (asg' O (asg' O (OkL.nil (q2 (AM O (AM O (AH (BI (c:=(((x+(4294967296-y))%4294967296:Nat):Int)) O O (Nx Z)) O (AM O (AH (BI (c:=((d:Nat):Int)) O O (by rw [Nx Z,hd];exact congrArg Int.ofNat Z)) O ?_)))))))))))
 refine asg' O (q3 (sL [0,1,6,7] O) (AM O (AH (S9 (c:=((4294967295 ^^^ x:Nat):Int)) O (N6 hx)) O (AM O (AH (KV (c:=(((4294967295 ^^^ x) &&& y:Nat):Int)) O O (NR hx1 hy)) O (AM O (AM O (AH (Xd (c:=((x ^^^ y:Nat):Int)) O O (OH hx hy)) O (AH (S9 (c:=((4294967295 ^^^ (x ^^^ y):Nat):Int)) O (N6 hx2)) O (AM O (AH (KV (c:=(((4294967295 ^^^ (x ^^^ y)) &&& d:Nat):Int)) O O (NR hx3 hd2)) O ?_)))))))))))
 exact AH (IZ (c:=(((4294967295 ^^^ x) &&& y ||| (4294967295 ^^^ (x ^^^ y)) &&& d:Nat):Int)) O O (JD hx4 hx5 O)) O (AH (Cg (s:=31) (c:=((((4294967295 ^^^ x) &&& y ||| (4294967295 ^^^ (x ^^^ y)) &&& d)/2147483648:Nat):Int)) O O O (by decide) (Fy (a:=(4294967295 ^^^ x) &&& y ||| (4294967295 ^^^ (x ^^^ y)) &&& d) (s:=31))) O (asg' O (OkL.nil (OkQ.subF (sL [0,1,6,7] O) (OkQ.then_ (OkC.ret (C_ O (rd_tmp (v:=(vK .u32 d)) O) (rd_tmp (v:=(vK .u32 (((4294967295 ^^^ x) &&& y ||| (4294967295 ^^^ (x ^^^ y)) &&& d)/2147483648))) O) (λw hw=>⟨by rw [<-hb],hw.out⟩))))))))
theorem Uh (x y:Nat) (hx:x<18446744073709551616) (hy:y<18446744073709551616) (w:World)  :Calls prog 205 #[(vK .u64 x),(vK .u64 y)] w (Ah w (Value.tuple #[(vK .u64 (x*y/18446744073709551616)),(vK .u64 (x*y%18446744073709551616))])):=by
 have h1:=KQ (a:=x%4294967296) (b:=y%4294967296) Z Z
 have h2:=KQ (a:=x/4294967296) (b:=y%4294967296) Z Z
 have h3:=KQ (a:=x%4294967296) (b:=y/4294967296) Z Z
 have h4:=KQ (a:=x/4294967296) (b:=y/4294967296) Z Z
 have hh:=US x y
 have hh2:x*y/18446744073709551616<18446744073709551616:=Nat.div_lt_of_lt_mul (Nat.mul_lt_mul'' hx hy)
 refine Ab (args:=[(vK .u64 x),(vK .u64 y)]) func205 O O (AI O) (OkC.subF (sL [0,1] O) (q4 (asg' O (asg' O (OkL.nil (q2 (AM O (AH (KV (c:=((x%4294967296:Nat):Int)) O O (H8 (a:=x) Z)) O (asg' O (q3 (sL [0,1,4,5,6] O) (AM O ?_)))))))))))
 refine AH (Cg (s:=32) (c:=((x/4294967296:Nat):Int)) O O O (by decide) (Fy (a:=x) (s:=32))) O (asg' O (q3 (sL [0,1,4,5,6,7] O) (AM O (AH (KV (c:=((y%4294967296:Nat):Int)) O O (H8 (a:=y) Z)) O (asg' O (q3 (sL [0,1,4,5,6,7,8] O) (AM O (AH (Cg (s:=32) (c:=((y/4294967296:Nat):Int)) O O O (by decide) (Fy (a:=y) (s:=32))) O (asg' O (q3 (sL [0,1,4,5,6,7,8,9] O) (AM O ?_)))))))))))
 refine AM O (AH (CN (c:=(((x%4294967296)*(y%4294967296):Nat):Int)) O O (Et (a:=x%4294967296) (b:=y%4294967296) Z)) O (asg' O (q3 (sL [0,1,4,5,6,7,8,9,10] O) (AM O (AM O (AH (CN (c:=(((x/4294967296)*(y%4294967296):Nat):Int)) O O (Et (a:=x/4294967296) (b:=y%4294967296) Z)) O (AM O (AH (Cg (s:=32) (c:=((((x%4294967296)*(y%4294967296))/4294967296:Nat):Int)) O O O (by decide) (Fy (a:=(x%4294967296)*(y%4294967296)) (s:=32))) O (AH (AX (c:=((((x/4294967296)*(y%4294967296))+(((x%4294967296)*(y%4294967296))/4294967296):Nat):Int)) O O (DF (a:=(x/4294967296)*(y%4294967296)) (b:=((x%4294967296)*(y%4294967296))/4294967296) Z)) O (asg' O (q3 (sL [0,1,4,5,6,7,8,9,11] O) ?_)))))))))))
 refine AM O (AH (KV (c:=(((((x/4294967296)*(y%4294967296))+(((x%4294967296)*(y%4294967296))/4294967296))%4294967296:Nat):Int)) O O (H8 (a:=((x/4294967296)*(y%4294967296))+(((x%4294967296)*(y%4294967296))/4294967296)) Z)) O (asg' O (q3 (sL [0,1,4,5,6,7,8,9,11,12] O) (AM O (AH (Cg (s:=32) (c:=(((((x/4294967296)*(y%4294967296))+(((x%4294967296)*(y%4294967296))/4294967296))/4294967296:Nat):Int)) O O O (by decide) (Fy (a:=((x/4294967296)*(y%4294967296))+(((x%4294967296)*(y%4294967296))/4294967296)) (s:=32))) O (asg' O (q3 (sL [0,1,4,5,6,7,8,9,11,12,13] O) (AM O (AM O (AM O (AH (CN (c:=(((x%4294967296)*(y/4294967296):Nat):Int)) O O (Et (a:=x%4294967296) (b:=y/4294967296) Z)) O ?_)))))))))))
 refine AH (AX (c:=((((((x/4294967296)*(y%4294967296))+(((x%4294967296)*(y%4294967296))/4294967296))%4294967296)+((x%4294967296)*(y/4294967296)):Nat):Int)) O O (DF (a:=(((x/4294967296)*(y%4294967296))+(((x%4294967296)*(y%4294967296))/4294967296))%4294967296) (b:=(x%4294967296)*(y/4294967296)) Z)) O (asg' O (q3 (sL [0,1,4,5,6,7,8,9,11,12,13] O) (AM O (AM O (AH (CN (c:=(((x/4294967296)*(y/4294967296):Nat):Int)) O O (Et (a:=x/4294967296) (b:=y/4294967296) Z)) O (AM O (AH (AX (c:=((((x/4294967296)*(y/4294967296))+((((x/4294967296)*(y%4294967296))+(((x%4294967296)*(y%4294967296))/4294967296))/4294967296):Nat):Int)) O O (DF (a:=(x/4294967296)*(y/4294967296)) (b:=(((x/4294967296)*(y%4294967296))+(((x%4294967296)*(y%4294967296))/4294967296))/4294967296) Z)) O (AM O (AH (Cg (s:=32) (c:=(((((((x/4294967296)*(y%4294967296))+(((x%4294967296)*(y%4294967296))/4294967296))%4294967296)+((x%4294967296)*(y/4294967296)))/4294967296:Nat):Int)) O O O (by decide) (Fy (a:=((((x/4294967296)*(y%4294967296))+(((x%4294967296)*(y%4294967296))/4294967296))%4294967296)+((x%4294967296)*(y/4294967296))) (s:=32))) O (AH (AX (c:=((x*y/18446744073709551616:Nat):Int)) O O (by rw [<-Int.natCast_add,hh];exact BK hh2)) O (asg' O ?_)))))))))))
 exact q3 (sL [0,1,4,5,6,7,8,9,11,12] O) (AM O (AM O (AH (CN (c:=((x*y%18446744073709551616:Nat):Int)) O O SS) O (asg' O (OkL.nil (OkQ.subF (sL [0,1,4,5,6,7,8,9,11,12] O) (OkQ.then_ (OkC.ret (C_ O (rd_tmp (v:=(vK .u64 (x*y/18446744073709551616))) O) (rd_tmp (v:=(vK .u64 (x*y%18446744073709551616))) O) (λw hw=>⟨rfl,hw.out⟩))))))))))
theorem To (hi lo y:Nat) (hh:hi<y) (hl:lo<4294967296) (hy:y<4294967296) (w:World)  :Calls prog 231 #[(vK .u32 hi),(vK .u32 lo),(vK .u32 y)] w (Ah w (Value.tuple #[(vK .u32 ((hi*4294967296+lo)/y)),(vK .u32 ((hi*4294967296+lo)%y))])):=by
 refine Ab (args:=[(vK .u32 hi),(vK .u32 lo),(vK .u32 y)]) func231 O O (AI O) (OkC.subF (sL [0,1,2] O) (q4 (asg' O (asg' O (OkL.nil (q1 (q4 (AM O (AH (CD (c:=(decide (y≠0))) O O (YQ (a:=y) (b:=0))) O (AM O ?_))))))))))
 refine OkL.mid (FM:=[(0,(vK .u32 hi)),(1,(vK .u32 lo)),(2,(vK .u32 y)),(6,(Value.int .u32 (0:Int))),(7,(Value.int .u32 (0:Int))),(9,(vK .u32 y)),(10,(Value.bool (decide (y≠0)))),(11,(Value.bool (decide (y≠0)))),(15,(Value.bool ((decide (y≠0))&&(decide (y<=hi)))))]) (LM:=[]) 4 ?_ ?_
 ·rcases Bool.eq_false_or_eq_true (decide (y≠0)) with hg1|hg1
  ·skip
   refine OkL.retell (k:=11) (u:=Value.bool true) O (by rw [hg1]) ?_
   have hg1':=hg1
   replace hg1':=of_decide_eq_true hg1'
   exact OkL.step (v:=(vK .u32 y)) (AB O) (Ai O) O (AI O) (OkL.step (v:=(vK .u32 hi)) (AB O) (Ai O) O (AI O) (OkL.step (v:=(Value.bool (decide (y<=hi)))) (AB O) (Fx (c:=(decide (y<=hi))) O O (SC (a:=y) (b:=hi))) O (AI O) (AH (v:=(Value.bool (decide (y<=hi)))) (AO O O) O (OkL.nil (OkQ.mid (sS O (sS O (sS O (sS O (sS O (sS O (sS O (sS (by first|rfl|(rw [hg1];rfl)|rw [hg1]) (sS (by first|rfl|(rw [hg1];rfl)|rw [hg1]) (sN)))))))))) (List.Sublist.refl _))))))
  ·skip
   refine OkL.retell (k:=11) (u:=Value.bool false) O (by rw [hg1]) ?_
   have hg1':=hg1
   replace hg1':=of_decide_eq_false hg1'
   exact OkL.skip (AC O) O (AI O) (OkL.skip (AC O) O (AI O) (OkL.skip (AC O) O (AI O) (AH (v:=(Value.bool false)) (AJ O O) O (OkL.nil (OkQ.mid (sS O (sS O (sS O (sS O (sS O (sS O (sS O (sS (by first|rfl|(rw [hg1];rfl)|rw [hg1]) (sS (by first|rfl|(rw [hg1];rfl)|rw [hg1]) (sN)))))))))) (List.Sublist.refl _))))))
 refine OkL.nil (OkQ.subF (sL [0,1,2,6,7,15] O) (OkQ.then_ ?_))
 refine OkC.cond O (λhc0=>?_) (λhc0=>?_)
 ·simp only [Bool.and_eq_true,Bool.or_eq_true,Bool.and_eq_false_iff,Bool.or_eq_false_iff,Bool.not_eq_true',Bool.not_eq_false',decide_eq_true_eq,decide_eq_false_iff_not] at hc0
  exfalso;omega
 ·simp only [Bool.and_eq_true,Bool.or_eq_true,Bool.and_eq_false_iff,Bool.or_eq_false_iff,Bool.not_eq_true',Bool.not_eq_false',decide_eq_true_eq,decide_eq_false_iff_not] at hc0
  refine OkC.skip (q2 (AM O (AH (Aw (c:=((hi:Nat):Int)) O underlying92 underlying69 (BK Z)) O (AH (v:=(vK .u64 (hi*4294967296))) (GV (s:=32) O O O (by decide) (GW (s:=32) Z)) O (AM O (AH (Aw (c:=((lo:Nat):Int)) O underlying92 underlying69 (BK Z)) O (AH (IZ (c:=((hi*4294967296+lo:Nat):Int)) O O (I6 Z Z (by rw [Nat.or_comm,Nat.add_comm];exact G9 (s:=32) Z))) O ?_)))))))
  have hq:(hi*4294967296+lo)/y<4294967296:=Nat.div_lt_of_lt_mul (by have h9:(hi+1)*4294967296<=y*4294967296:=Nat.mul_le_mul_right _ hh;omega)
  have hr:(hi*4294967296+lo)%y<y:=Nat.mod_lt _ Z
  refine asg' O (q6 (sL [0,2,6,7,8] O) (Cd [(0,true),(1,true),(2,true),(3,true),(4,true),(5,true),(6,true),(7,true),(8,true),(9,true),(10,true),(11,true)] sr (BV O (BV O (Al O (Aw (c:=((y:Nat):Int)) O underlying92 underlying69 (BK Z)) (Al O (Er (c:=(((hi*4294967296+lo)/y:Nat):Int)) O O Z (Hv (a:=hi*4294967296+lo) (b:=y) Z)) (Al O (Aw (c:=(((hi*4294967296+lo)/y:Nat):Int)) O underlying69 underlying92 (CV Z)) (BV O (BV O (Al O (Aw (c:=((y:Nat):Int)) O underlying92 underlying69 (BK Z)) (Al O (Dy (c:=(((hi*4294967296+lo)%y:Nat):Int)) O O Z (Oo (a:=hi*4294967296+lo) (b:=y))) ?_)))))))))))
  exact Al O (Aw (c:=(((hi*4294967296+lo)%y:Nat):Int)) O underlying69 underlying92 (CV Z)) (pS' O (pS' O (OkE.nil (OkQ.subF (sL [0,2,6,7] O) (OkQ.then_ (OkC.ret (C_ O (rd_tmp (v:=(vK .u32 ((hi*4294967296+lo)/y))) O) (rd_tmp (v:=(vK .u32 ((hi*4294967296+lo)%y))) O) (λw hw=>⟨rfl,hw.out⟩))))))))
theorem SJ (x:Nat) (hx:x<4294967296) (w:World)  :Calls prog 254 #[(vK .u32 x)] w (Ah w (vN (bl x))):=by
 refine Ab (args:=[(vK .u32 x)]) func254 O O (AI O) (OkC.subF (sL [0] O) (q4 (asg' O (OkL.nil (q1 (q4 (AM O (AH (Bx (c:=(decide (65536<=x))) O O (SC (a:=65536) (b:=x))) O (OkL.nil (OkQ.subF (sL [0,2,4] O) (OkQ.then_ ?_)))))))))))
 refine OkC.jn2 (tg λ(u:Nat) (n:Nat)=>u<65536/\n<=16/\bl x=bl u+n) (tg λ(u:Nat) (n:Nat)=>[(0,(vK .u32 u)),(2,(vN n))]) (tg λ(u:Nat) (n:Nat)=>[]) ?_ ?_
 ·skip
  refine OkC.cond O (λhc0=>?_) (λhc0=>?_)
  ·replace hc0:=of_decide_eq_true hc0
   exact q4 (AM O (AH (Cg (s:=16) (c:=((x/65536:Nat):Int)) O O O (by decide) (Fy (a:=x) (s:=16))) O (asg' O (OkL.nil (OkQ.subF (sL [0,2] O) (OkQ.then_ (OkC.region (asg' O (OkL.nil (OkQ.join2 (x/65536) 16 (⟨Z,Z,Nl (k:=16) hc0⟩) (sF O) sr))))))))))
  ·replace hc0:=of_decide_eq_false hc0
   exact OkC.skip (OkQ.join2 x 0 (⟨Z,Z,rfl⟩) (sF O) sr)
 ·intro u n hJ
  obtain ⟨hu,hn,hv⟩:=hJ
  refine q1 (q4 (AM O (AH (Bx (c:=(decide (256<=u))) O O (SC (a:=256) (b:=u))) O (OkL.nil (OkQ.subF (sL [0,2,8] O) (OkQ.then_ ?_))))))
  refine OkC.jn2 (tg λ(u2:Nat) (n2:Nat)=>u2<256/\n2<=24/\bl x=bl u2+n2) (tg λ(u2:Nat) (n2:Nat)=>[(0,(vK .u32 u2)),(2,(vN n2))]) (tg λ(u2:Nat) (n2:Nat)=>[]) ?_ ?_
  ·skip
   refine OkC.cond O (λhc1=>?_) (λhc1=>?_)
   ·replace hc1:=of_decide_eq_true hc1
    refine q4 (AM O (AH (Cg (s:=8) (c:=((u/256:Nat):Int)) O O O (by decide) (Fy (a:=u) (s:=8))) O (asg' O (OkL.nil (OkQ.subF (sL [0,2] O) (OkQ.then_ (OkC.region (AM O (AH (AX (c:=((n+8:Nat):Int)) O O (AR (a:=n) (b:=8) Z)) O (asg' O (OkL.nil ?_)))))))))))
    exact OkQ.subF (sL [0,2] O) (OkQ.join2 (u/256) (n+8) (⟨Z,Z,by rw [hv,Xq hc1];omega⟩) (sF O) sr)
   ·replace hc1:=of_decide_eq_false hc1
    exact OkC.skip (OkQ.join2 u n (⟨Z,Z,hv⟩) (sF O) sr)
  ·intro u2 n2 hJ
   obtain ⟨hu2,hn2,hv2⟩:=hJ
   refine q2 (AM O (AM O (AH (Aw (c:=((u2:Nat):Int)) O underlying92 underlying5 (Mw Z)) O ?_)))
   have hb8:bl u2<=8:=Uq (k:=8) hu2
   exact AH (v:=(vK .u8 (bl u2))) (HY (j:=u2) (m:=bl u2) O O underlying9 (YG (by kernel_rfl) hu2) Z) O (AH (Aw (c:=((bl u2:Nat):Int)) O underlying5 underlying3 (Ec Z)) O (AH (AX (c:=((bl x:Nat):Int)) O O (by rw [hv2,Int.add_comm,<-Int.natCast_add];exact Ec Z)) O (asg' O (OkL.nil (OkQ.subF (sL [0,2] O) (OkQ.then_ (OkC.ret (ret_one O (rd_tmp (v:=(vN (bl x))) O) (λw hw=>⟨rfl,hw.out⟩)))))))))
theorem VR (x:Nat) (hx:x<4294967296) (w:World)  :Calls prog 272 #[(vK .u32 x)] w (Ah w (vN (32-bl x))):=by
 have hb:=Uq (k:=32) hx
 refine Ab (args:=[(vK .u32 x)]) func272 O O (AI O) (OkC.subF (sL [0] O) (q4 (asg' O (OkL.nil (q2 (AM O (ck' call254 (SJ _ Z) O (AH (BI (c:=((32-(bl x):Nat):Int)) O O (Br (a:=32) (b:=bl x) Z Z)) O (asg' O (OkL.nil (OkQ.subF (sL [2] O) ?_)))))))))))
 exact OkQ.then_ (OkC.ret (ret_one O (rd_tmp (v:=(vN (32-(bl x)))) O) (λw hw=>⟨rfl,hw.out⟩)))
theorem VN (z:Int) (hz:-9223372036854775808<=z) (hz2:z<9223372036854775808) (w:World)  :Calls prog 296 #[(vI z)] w (Ah w (vI z.sign)):=by
 refine Ab (args:=[(vI z)]) func296 O O (AI O) (OkC.subF (sL [0] O) (q4 (asg' O (OkL.nil (q2 (AM O (AH (FQ (c:=(if z<1 then z else 1)) O O O) O (AH (EQ (c:=z.sign) O O (Ub z)) O (asg' O (OkL.nil (OkQ.subF (sL [2] O) ?_)))))))))))
 exact OkQ.then_ (OkC.ret (ret_one O (rd_tmp (v:=(vI z.sign)) O) (λw hw=>⟨rfl,hw.out⟩)))
end
section
section
variable {P:Program} {n:Nat} {F:List (Nat×Value)} {w0:A_} {L:List As} {x y:Operand} {d:Option Tmp} {t:TypeId} {p:String} {af:Array Edge} {g:Option (Nat×Bool)}
def Eo (P:Program) (D:Nat) (T:TypeId) (u v:Value) (b:Bool):Prop:=∀w,(Op.equalIn D T u v).run P w=.ok b w
def H3 (P:Program) (D:Nat) (xs ys:List Value) (fs:List Field) (b:Bool):Prop:=∀w,(Op.eqFields D xs.toArray ys.toArray fs).run P w=.ok b w
theorem Eo.int {D:Nat} {T:TypeId} {k k':IntKind} {a b:Int} (h:P.underlying T=some (.int k')):Eo P (D+1) T (.int k a) (.int k b) (a == b):=λw=>run_equalIn_int w D T k k' a b h
theorem Eo.bool {D:Nat} {T:TypeId} {a b:Bool} (h:P.underlying T=some .bool):Eo P (D+1) T (.bool a) (.bool b) (a == b):=λw=>run_equalIn_bool' w D T a b h
theorem Eo.str {D:Nat} {T:TypeId} {a b:ByteArray} (h:P.underlying T=some .string):Eo P (D+1) T (.string a) (.string b) (a.toList == b.toList):=λw=>run_equalIn_string w D T a b h
theorem Eo.struct {D:Nat} {T:TypeId} {xs ys:List Value} {b:Bool} {fs:Array Field} (hu:P.underlying T=some (.struct fs)) (hp:P.stoodInHeld T=false) (h:H3 P D xs ys fs.toList b):Eo P (D+1) T (.agg xs.toArray) (.agg ys.toArray) b:=λw=>by
  have e:P.fieldsOf T=fs:=by simp [Program.fieldsOf,hu]
  rw [run_equalIn_struct w D T _ _ (by rw [e];exact hu) hp,e];exact h w
theorem H3.nil {D:Nat} {xs ys:List Value}:H3 P D xs ys [] true:=λw=>rfl
theorem H3.one {D : Nat} {xs ys : List Value} {f : Field} {fs : List Field} {a b : Value} {r s : Bool} (hn : f.name ≠ "_") (hg : ∀ w, (isAgg f.type).run P w = .ok false w) (ha : xs[f.offset]? = some a) (hb : ys[f.offset]? = some b)
    (h:Eo P D f.type a b r) (h2:H3 P D xs ys fs s):H3 P D xs ys (f::fs) (r&&s):=λw=>by
  have e1:(part f.type xs.toArray f.offset).run P w=.ok a w:=by simp [part,hg,ha]
  have e2:(part f.type ys.toArray f.offset).run P w=.ok b w:=by simp [part,hg,hb]
  simp only [Op.eqFields,Sem.run_ite,if_pos hn,Sem.run_bind,e1,e2,Result.andThen_ok,h w]
  cases r
  · simp
  · simp [h2 w]
theorem H3.agg {D k : Nat} {xs ys us bs : List Value} {f : Field} {fs : List Field} {r s : Bool} (hn : f.name ≠ "_") (hg : ∀ w, (isAgg f.type).run P w = .ok true w) (hs : ∀ w, (sizeOf f.type).run P w = .ok k w)
    (ha:(xs.drop f.offset).take k=us) (hb:(ys.drop f.offset).take k=bs)
    (h:Eo P D f.type (.agg us.toArray) (.agg bs.toArray) r) (h2:H3 P D xs ys fs s):H3 P D xs ys (f::fs) (r&&s):=λw=>by
  have ex:∀l:List Value,l.toArray.extract f.offset (f.offset+k)=((l.drop f.offset).take k).toArray:=λl=>by simp [List.extract_eq_take_drop]
  have e1:(part f.type xs.toArray f.offset).run P w=.ok (.agg us.toArray) w:=by simp [part,hg,hs,ex,ha]
  have e2:(part f.type ys.toArray f.offset).run P w=.ok (.agg bs.toArray) w:=by simp [part,hg,hs,ex,hb]
  simp only [Op.eqFields,Sem.run_ite,if_pos hn,Sem.run_bind,e1,e2,Result.andThen_ok,h w]
  cases r
  · simp
  · simp [h2 w]
theorem Bz {xs ys:List Value} {c:Bool} {tx ty:TypeId} (hx:evF F x=some (.agg xs.toArray)) (hy:evF F y=some (.agg ys.toArray)) (hg:P.eqGuardType P.depth tx=false) (hc:Eo P 10000 tx (.agg xs.toArray) (.agg ys.toArray) c) :
    Ex P n F w0 L ⟨d,.binOp .eql tx x y ty,t,p,af,g⟩ (.bool c):=λA w ha _=>by
  simp only [execOp,ha.ev hx,ha.ev hy,Sem.run_bind,run_eqGuard_agg w .eql tx x y _ _ hg,Result.andThen_ok,run_eql_struct,hc w,Sem.run_pure]
theorem PF {xs ys:List Value} {c:Bool} {tx ty:TypeId} (hx:evF F x=some (.agg xs.toArray)) (hy:evF F y=some (.agg ys.toArray)) (hg:P.eqGuardType P.depth tx=false) (hc:Eo P 10000 tx (.agg xs.toArray) (.agg ys.toArray) c) :
    Ex P n F w0 L ⟨d,.binOp .neq tx x y ty,t,p,af,g⟩ (.bool (!c)):=λA w ha _=>by
  simp only [execOp,ha.ev hx,ha.ev hy,Sem.run_bind,run_eqGuard_agg w .neq tx x y _ _ hg,Result.andThen_ok,run_neq_struct,hc w,Sem.run_pure]
end
theorem UU {a b:Nat} (ha:¬a<18446744073709551616) (hb:¬b<18446744073709551616) (h:Bc a=Bc b):a=b:=by
  rw [Es ha,Es hb] at h
  have h1:bytesN (AN a)=bytesN (AN b):=by
    have lt:∀(xs:List Nat),∀x∈bytesN xs,x<256:=λxs x hx=>by
      simp only [bytesN,List.mem_flatMap,List.mem_cons,List.not_mem_nil,or_false] at hx
      obtain ⟨y,_,hy⟩:=hx
      omega
    have inj:∀(l r:List Nat),(∀x∈l,x<256)->(∀x∈r,x<256)->l.map UInt8.ofNat=r.map UInt8.ofNat->l=r:=by
      intro l
      induction l with
      | nil=>intro r _ _ h;cases r<;>simp_all
      | cons x l ih =>
        intro r hl hr h
        cases r with
        | nil=>simp at h
        | cons y r =>
          simp only [List.map_cons,List.cons.injEq] at h
          have e:x=y:=by
            have h3:=congrArg UInt8.toNat h.1
            have h4:=hl x (by simp)
            have h5:=hr y (by simp)
            simp at h3
            omega
          rw [e,ih r (λz hz=>hl z (by simp [hz])) (λz hz=>hr z (by simp [hz])) h.2]
    refine inj _ _ (lt _) (lt _) ?_
    have:=congrArg (λs:ByteArray=>s.data.toList) h
    simpa [C3] using this
  have h2:AN a=AN b:=by
    have hl:(AN a).length=(AN b).length:=by
      have:=congrArg List.length h1
      simp only [Bq] at this
      omega
    apply List.ext_getElem hl
    intro i hi hi'
    have g:∀k,k<4->(AN a).getD i 0/256^k%256=(AN b).getD i 0/256^k%256:=λk hk=>by rw [<-Fm _ _ _ hi hk,<-Fm _ _ _ hi' hk,h1]
    have wa:=(Bi a).getD i
    have wb:=(Bi b).getD i
    have ea:(AN a).getD i 0=(AN a)[i]:=by simp [hi]
    have eb:(AN b).getD i 0=(AN b)[i]:=by simp [hi']
    rw [ea,eb] at g
    rw [ea] at wa
    rw [eb] at wb
    have g0:=g 0 Z
    have g1:=g 1 Z
    have g2:=g 2 Z
    have g3:=g 3 Z
    simp only [Nat.pow_zero,Nat.div_one,Nat.pow_one,show (256:Nat)^2=65536 from rfl,show (256:Nat)^3=16777216 from rfl] at g0 g1 g2 g3
    omega
  rw [<-CF a,<-CF b,h2]
theorem WO (a b:Nat):((((Bo a:Nat):Int) == ((Bo b:Nat):Int))&&(((Bc a).toList == (Bc b).toList)&&true))=decide (a=b):=by
  by_cases e:a=b
  · subst e;simp
  · rw [decide_eq_false e]
    by_cases ha:a<18446744073709551616
    · by_cases hb:b<18446744073709551616
      · rw [BZ ha,BZ hb]
        have:((a:Int) == (b:Int))=false:=by simp;omega
        rw [this];rfl
      · have h1:=Ok hb
        rw [HI ha,<-beq_toListBytes]
        have:(ByteArray.empty == Bc b)=false:=by
          rw [beq_toListBytes,ByteArray.toList_eq,ByteArray.toList_eq,Es hb]
          cases hl:(C3 (bytesN (AN b))).data.toList with
          | nil =>
            have h3:=congrArg List.length hl
            simp [C3,Bq] at h3
            unfold nw at h1
            omega
          | cons=>rfl
        rw [this];simp
    · by_cases hb:b<18446744073709551616
      · have h1:=Ok ha
        rw [HI hb,<-beq_toListBytes]
        have:(Bc a == ByteArray.empty)=false:=by
          rw [beq_toListBytes,ByteArray.toList_eq,ByteArray.toList_eq,Es ha]
          cases hl:(C3 (bytesN (AN a))).data.toList with
          | nil =>
            have h3:=congrArg List.length hl
            simp [C3,Bq] at h3
            unfold nw at h1
            omega
          | cons=>rfl
        rw [this];simp
      · rw [<-beq_toListBytes]
        have:(Bc a == Bc b)=false:=by
          cases hbb:Bc a == Bc b with
          | false=>rfl
          | true =>
            rw [beq_toListBytes] at hbb
            have h2:(Bc a).toList=(Bc b).toList:=by simpa using hbb
            rw [ByteArray.toList_eq,ByteArray.toList_eq] at h2
            have h3:Bc a=Bc b:=by
              cases hA:Bc a with|mk da=>cases hB:Bc b with|mk db =>
                rw [hA,hB] at h2
                congr 1
                exact Array.toList_inj.1 h2
            exact absurd (UU ha hb h3) e
        rw [this];simp
theorem Hf (D a b:Nat):Eo prog (D+2) 71 (.agg (AS a).toArray) (.agg (AS b).toArray) (decide (a=b)):=by
  rw [<-WO]
  exact Eo.struct underlying71 Tryz.stoodInHeld71 (H3.one (by decide) isAgg69 O O (Eo.int underlying69) (H3.one (by decide) isAgg9 O O (Eo.str underlying9) H3.nil))
end
section
set_option maxRecDepth 100000
theorem I7 (n:Nat) (hn:n<18446744073709551616) (w:World)  :Calls prog 172 #[(vK .u64 n)] w (Ah w (aG (AS n))):=by
 refine Ab (args:=[(vK .u64 n)]) func172 O O (AI O) (OkC.subF (sL [0] O) (q4 (al Fi O λb1=>OkL.nil (q2 (AM O (AH (v:=(aG ([(vK .u64 n),(Value.string (Bc 0))]))) (AQ (zs:=AS 0) (vs:=[(vK .u64 n),(Value.string (Bc 0))]) (pv:=[(0,(vK .u64 n))]) (places:=[(0,1),(1,1)]) zeroValue71 underlying71 (λw=>by simp [sizeOf9,sizeOf69]) O O) O (OkL.retell (k:=4) (u:=(aG (AS n))) O (by rw [DU hn];rfl) (Ax O sizeOf71 O (OkL.nil (OkQ.subF (sL [2] O) ?_))))))))))
 exact OkQ.then_ (OkC.ret (ret_one O (Ak (i:=0) (cs:=AS n) O O isAgg71 sizeOf71 O) (λw hw=>⟨rfl,hw.out⟩)))
theorem Kn  :Instr.fill ([(0,1),(1,1)].toArray[·]?) (AS 0).toArray []=some (AS 0).toArray:=by kernel_rfl
theorem Py (a:Nat) (w:World)  :Calls prog 241 #[(aG (AS a))] w (Ah w (Value.bool (decide (a=0)))):=by
 refine Ab (args:=[(aG (AS a))]) func241 O O (AI O) (OkC.subF (sL [0] O) (q4 (Be (cs:=AS a) O λb1=>asg' O (q3 (sL [1,2] O) (BH 0 By O (AH (v:=(aG (AS 0))) (AQ (zs:=AS 0) (vs:=AS 0) (pv:=[]) (places:=[(0,1),(1,1)]) zeroValue71 underlying71 (λw=>by simp [sizeOf9,sizeOf69]) O (Kn )) O (AH (Bz (c:=(decide (a=0))) O O eqGuardType71 (Hf 9998 a 0)) O (asg' O (OkL.nil (OkQ.subF (sL [2] O) ?_))))))))))
 exact OkQ.then_ (OkC.ret (ret_one O (rd_tmp (v:=(Value.bool (decide (a=0)))) O) (λw hw=>⟨rfl,hw.out⟩)))
theorem C6 (v:Nat) (hv:nw v<=1099511627776) (w:World)  :Calls prog 187 #[(aG (AS v))] w (λe w'=>∃b,e=.returned (.slice (some ⟨b,0,none⟩) (nw v) (Aq v).length)/\GG w.heap.size w w'/\w.heap.size<=b/\w'.heap[b]?=some (.cells (Ag (Aq v)).toArray 92 (0,0))):=by
 refine Ab (args:=[(aG (AS v))]) func187 O O (AI O) (OkC.subF (sL [0] O) (q4 (Be (cs:=AS v) O λb1=>asg' O (q6 (sL [1,2] O) (q4 (AH (v:=(pP b1 1)) (AA O underlying71 O sizeOf9 O) O (Au 0 (Value.string (Bc v)) SB O (AH (Bg (c:=(decide (v<18446744073709551616))) O O CJ) O (OkL.nil (OkQ.subF (sL [1,2,8] O) ?_))))))))))
 refine OkQ.then_ ?_
 refine OkC.cond O (λhc0=>?_) (λhc0=>?_)
 ·replace hc0:=of_decide_eq_true hc0
  refine q4 (AH (v:=(pP b1 0)) (AA O underlying71 O sizeOf69 O) O (Au 0 (vK .u64 (Bo v)) GZ O (OkL.retell (k:=10) (u:=(vK .u64 v)) O (by rw [BZ hc0]) (AH (Aw (c:=((v%4294967296:Nat):Int)) O underlying69 underlying92 D_) O (AH (v:=(pP b1 0)) (AA O underlying71 O sizeOf69 O) O (Au 0 (vK .u64 (Bo v)) GZ O (OkL.retell (k:=13) (u:=(vK .u64 v)) O (by rw [BZ hc0]) (AH (Cg (s:=32) (c:=((v/4294967296:Nat):Int)) O O O (by decide) (Fy (a:=v) (s:=32))) O (AH (Aw (c:=((v/4294967296:Nat):Int)) O underlying69 underlying92 (CV Z)) O (OkL.openV (V:=λb2=>(Value.slice (some ⟨b2,0,none⟩) 2 2)) (T:=92) (cs:=Ag ([v%4294967296,v/4294967296])) (AP O) (Ao (cs:=Ag ([v%4294967296,v/4294967296])) (pv:=[(0,(vK .u32 (v%4294967296))),(1,(vK .u32 (v/4294967296)))]) underlying255 sizeOf92 zeroValue92 (by decide) (by decide) O (by kernel_rfl)) O (AI O) λb2=>Ce call189 (λw hw=>Um _ 2 2 ([v%4294967296,v/4294967296]) (W32.cons Z (W32.cons Z (W32.nil))) (by simp) (by simp) (by simp;try omega) w (hw.get (i:=0) O)) O ?_))))))))))
  refine asg' O (OkL.nil (OkQ.subF (sL [1,2] O) (OkQ.then_ (OkC.ret (OkQ.then_ret ?_)))))
  have hpad:Aq v=[v%4294967296,v/4294967296]:=by simp [Aq,hc0]
  have hnw:nw v=Do [v%4294967296,v/4294967296] 2:=by rw [<-Pc (VS hc0) (m:=2) (by simp),<-QH v,hpad];simp [val];congr 1;omega
  have hret:∀b:Nat,(Ending.returned (Value.slice (some ⟨b,0,none⟩) (Do ([v%4294967296,v/4294967296]) 2) 2))=.returned (Value.slice (some ⟨b,0,none⟩) (nw v) (Aq v).length):=λb=>by rw [hnw,hpad];rfl
  replace hret:=hret b2
  have hcells:(some (Obj.cells (Ag ([v%4294967296,v/4294967296])).toArray 92 (0,0)))=some (Obj.cells (Ag (Aq v)).toArray 92 (0,0)):=by rw [hpad]
  exact ret_one O (rd_tmp (v:=(Value.slice (some ⟨b2,0,none⟩) (Do ([v%4294967296,v/4294967296]) 2) 2)) O) (λw hw=>⟨b2,hret,hw.out,hw.fresh (i:=0) O,(hw.get (i:=0) O).trans hcells⟩)
 ·replace hc0:=of_decide_eq_false hc0
  refine OkC.skip (q2 (AH (v:=(pP b1 1)) (AA O underlying71 O sizeOf9 O) O (Au 0 (Value.string (Bc v)) SB O (AH (v:=(vN ((Bc v).size))) (Kz O underlying9) O (OkL.retell (k:=20) (u:=(vN (4*nw v))) O (by rw [Es hc0,Jj,Bq];rfl) (AH (Er (c:=(((4*nw v)/4:Nat):Int)) O O Z (Em (a:=4*nw v) (b:=4) Z)) O (OkL.retell (k:=21) (u:=(vN (nw v))) O (by rw [Nat.mul_div_cancel_left _ Z]) (OkL.openV (V:=λb2=>(Value.slice (some ⟨b2,0,none⟩) (nw v) (nw v))) (T:=92) (cs:=Ag (List.replicate (nw v) 0)) (AP O) (C2 (m:=nw v) (c:=nw v) O O Z Z) O (AI O) λb2=>asg' O (q6 (sL [1,2,3] O) (q4 ?_))))))))))
  refine AM O (AH (v:=(vN (nw v))) (AD O underlying255) O (AM O (OkL.nil (OkQ.subF (sL [1,2,3,24,25] O) (OkQ.then_ (OkC.block ?_))))))
  refine OkC.lp2 (tg λ(i:Nat) (os:List Nat)=>i<=nw v/\os.length=nw v/\os.take i=(AN v).take i/\∀j,i<=j->os.getD j 0=0) (tg λ(i:Nat) (os:List Nat)=>[(1,(pP b1 0)),(2,(Value.slice none 0 0)),(3,(Value.slice (some ⟨b2,0,none⟩) (nw v) (nw v))),(24,(vN (nw v))),(25,(vN i))]) (tg λ(i:Nat) (os:List Nat)=>[AU b2 92 (Ag os),AU b1 71 (AS v)]) (tg λ(i:Nat) (os:List Nat)=>nw v-i) 0 (List.replicate (nw v) 0) (⟨Nat.zero_le _,by simp,by simp,λj _=>by simp [List.getD_eq_getElem?_getD,List.getElem?_replicate];split<;>rfl⟩) (sF O) sr (λi os hJ=>?_)
  obtain ⟨hin,hl,ht,h0⟩:=hJ
  refine q4 (AH (Ae (c:=(decide (i<(nw v)))) O O (CB (a:=i) (b:=nw v))) O (OkL.nil (q1 ?_)))
  refine OkC.cond O (λhc1=>?_) (λhc1=>?_)
  ·replace hc1:=of_decide_eq_true hc1
   refine OkC.skip (q1 (OkC.block (q4 (AM O (asg' O (q3 (sL [1,2,3,24,25,4] O) (AM O (OkL.nil (OkQ.then_ (OkC.block ?_))))))))))
   refine OkC.lp2 (tg λ(k:Nat) (xs:List Nat)=>k<=4/\xs=os.set i ((AN v).getD i 0%256^k)) (tg λ(k:Nat) (xs:List Nat)=>[(1,(pP b1 0)),(2,(Value.slice none 0 0)),(3,(Value.slice (some ⟨b2,0,none⟩) (nw v) (nw v))),(24,(vN (nw v))),(25,(vN i)),(4,(vN i)),(28,(vN k))]) (tg λ(k:Nat) (xs:List Nat)=>[AU b2 92 (Ag xs),AU b1 71 (AS v)]) (tg λ(k:Nat) (xs:List Nat)=>4-k) 0 os (⟨Z,by rw [Nat.pow_zero,Nat.mod_one];exact TA (h0 i (Nat.le_refl _))⟩) (sF O) sr (λk xs hJ=>?_)
   obtain ⟨hk,hxs⟩:=hJ
   refine q4 (AH (Ae (c:=(decide (k<4))) O O (CB (a:=k) (b:=4))) O (OkL.nil (q1 ?_)))
   refine OkC.cond O (λhc2=>?_) (λhc2=>?_)
   ·replace hc2:=of_decide_eq_true hc2
    refine OkC.skip (q1 (OkC.block (q4 (AM O (asg' O (OkL.nil (OkQ.subF (sL [1,2,3,24,25,4,28,5] O) (OkQ.then_ (Cd [(0,true),(1,true),(2,true),(4,true),(5,true),(6,true),(7,true),(8,true),(9,true),(10,true),(11,true),(12,true),(13,true),(14,true),(3,false),(15,true),(16,true),(17,false)] (sl sr) ?_)))))))))
    have hi:i<nw v:=hc1
    have hxi:xs.getD i 0=(AN v).getD i 0%256^k:=by rw [hxs];simp [hl,hi]
    have hxl:xs.length=nw v:=by rw [hxs];simp [hl]
    have hby:(AN v).getD i 0/256^k%256<256:=Nat.mod_lt _ Z
    have hget:(Bc v)[4*i+k]?=some (UInt8.ofNat ((AN v).getD i 0/256^k%256)):=by rw [Es hc0,Rn (by rw [Bq];show 4*i+k<4*nw v;omega),Fm _ _ _ hi hc2]
    have hw32:xs.getD i 0<4294967296:=by rw [hxi];exact Nat.lt_of_le_of_lt (Nat.mod_le _ _) ((Bi v).getD i)
    refine BV O (BV O (Al (v:=(pP b2 i)) O (AK (j:=i) O O underlying255 sizeOf92 O Z (by simp)) (Al (v:=(pP b1 1)) O (AA O underlying71 O sizeOf9 O) (BM 0 (Value.string (Bc v)) SB O (BV O (Al O (CN (c:=((4*i:Nat):Int)) O O (CT (a:=4) (b:=i) Z)) (BV O (Al O (AX (c:=(((4*i)+k:Nat):Int)) O O (AR (a:=4*i) (b:=k) Z)) (Al (v:=(vK .u8 ((AN v).getD i 0/256^k%256))) O (HY (j:=4*i+k) (m:=(AN v).getD i 0/256^k%256) O O underlying9 hget hby) (Al O (Aw (c:=(((AN v).getD i 0/256^k%256:Nat):Int)) O underlying5 underlying92 (CV Z)) (BV O ?_)))))))))))
    refine Al O (CN (c:=((8*k:Nat):Int)) O O (CT (a:=8) (b:=k) Z)) (Al (v:=(vK .u32 ((AN v).getD i 0/256^k%256*2^(8*k)))) O (GV (s:=8*k) O O O (show 8*k<=32 by omega) (S4 (P7 hc2))) (OkE.imp O (AH (AF (i:=0) (v:=(vK .u32 (xs.getD i 0))) O O isAgg92 (A8 (xs:=xs) (j:=i) Z)) O (OkE.back (sl sr) (Al O (IZ (c:=(((AN v).getD i 0%256^(k+1):Nat):Int)) O O (JD hw32 (P7 hc2) (R4 hxi))) (Al (v:=(pP b2 i)) O (AK (j:=i) O O underlying255 sizeOf92 O Z (by simp)) (OkE.imp O (OkL.store' (i:=0) (off:=i) (vs:=[(vK .u32 ((AN v).getD i 0%256^(k+1)))]) (cs':=Ag (xs.set i ((AN v).getD i 0%256^(k+1)))) (L':=[AU b2 92 (Ag (xs.set i ((AN v).getD i 0%256^(k+1)))),AU b1 71 (AS v)]) (AP O) O O O O O sizeOf92 O (CR (BJ _) Z) (B2 Z) O (OkE.back (sl sr) (OkE.nil (OkQ.subF (sL [1,2,3,24,25,4,28] O) ?_)))))))))))
    exact OkQ.in_normal (OkQ.then_ (OkC.region (AH (AX (c:=((k+1:Nat):Int)) O O (AR (a:=k) (b:=1) Z)) O (AM O (OkL.nil (OkQ.subF (sL [1,2,3,24,25,4,28] O) (OkQ.round2 (k+1) (xs.set i ((AN v).getD i 0%256^(k+1))) (⟨Z,by rw [hxs,List.set_set]⟩) Z (sF O) sr)))))))
   ·replace hc2:=of_decide_eq_false hc2
    refine OkC.exit (OkQ.then_exit (OkQ.round2_exit (OkQ.in_exit (OkQ.in_normal (OkQ.then_ (OkC.region (AH (AX (c:=((i+1:Nat):Int)) O O (AR (a:=i) (b:=1) Z)) O (AM O (OkL.nil (OkQ.subF (sL [1,2,3,24,25,4,28] O) ?_))))))))))
    have hst:=PM (ws:=AN v) (xs:=xs) hl rfl hc1 ht h0 (by rw [hxs,show k=4 by omega];congr 1;exact Nat.mod_eq_of_lt ((Bi v).getD i))
    exact OkQ.round2 (i+1) xs (⟨Z,hst.1,hst.2.1,hst.2.2⟩) Z (sF O) sr
  ·replace hc1:=of_decide_eq_false hc1
   refine OkC.exit (OkQ.then_exit (OkQ.round2_exit (OkQ.in_exit (q2 (AM O (asg' O (OkL.nil (OkQ.subF (sL [1,2,3,24,25] O) (OkQ.then_ (OkC.ret ?_))))))))))
   have hpad:Aq v=AN v:=by simp [Aq,hc0]
   have hos:os=AN v:=Uz hl rfl hc1 ht
   have hret:∀b:Nat,(Ending.returned (Value.slice (some ⟨b,0,none⟩) (nw v) (nw v)))=.returned (Value.slice (some ⟨b,0,none⟩) (nw v) (Aq v).length):=λb=>by rw [hpad];rfl
   replace hret:=hret b2
   have hcells:(some (Obj.cells (Ag os).toArray 92 (0,0)))=some (Obj.cells (Ag (Aq v)).toArray 92 (0,0)):=by rw [hpad,hos]
   exact ret_one O (rd_tmp (v:=(Value.slice (some ⟨b2,0,none⟩) (nw v) (nw v))) O) (λw hw=>⟨b2,hret,hw.out,hw.fresh (i:=0) O,(hw.get (i:=0) O).trans hcells⟩)
end
end Go.Proofs.YtpolhpjiahbidaaGreatDoor
