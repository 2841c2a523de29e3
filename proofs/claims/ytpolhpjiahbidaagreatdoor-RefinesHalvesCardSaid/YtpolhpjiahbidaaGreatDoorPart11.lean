import Derived.Test.YtpolhpjiahbidaaGreatDoorPart05
import Derived.Test.YtpolhpjiahbidaaGreatDoorPart08
import Derived.Test.YtpolhpjiahbidaaGreatDoorPart10
namespace Go.Proofs.YtpolhpjiahbidaaGreatDoor
open Go Go.RowKit Go.Proofs.Tryz
set_option linter.unusedVariables false
set_option linter.unusedSimpArgs false
section
set_option maxRecDepth 100000
theorem Ry (b m c:Nat) (bs:List Nat) (hbs:W32 bs) (hm:m<=bs.length) (hc:m<=c) (hL:c<4611686018427387904) (w:World) (hb:w.heap[b]?=some (.cells (Ae bs).toArray 92 (0,0))):Calls Tryz.prog 189 #[(Value.slice (some ⟨b,0,none⟩) m c)] w (Ai w (Value.slice (some ⟨b,0,none⟩) (DY bs m) c)):=by
 refine AZ (args:=[(Value.slice (some ⟨b,0,none⟩) m c)]) Tryz.func189 rfl rfl (AK rfl) (OkC.subF (sL [0] rfl) (q4 (asg' rfl (OkL.nil (q1 (OkC.block ?_))))))
 refine OkC.lp1 (tg λ(k:Nat)=>k<=m/\DY bs k=DY bs m) (tg λ(k:Nat)=>[(2,(Value.slice none 0 0)),(0,(Value.slice (some ⟨b,0,none⟩) k c))]) (tg λ(k:Nat)=>[]) (tg λ(k:Nat)=>k) m (⟨Nat.le_refl _,rfl⟩) (sF rfl) sr (λk hJ=>?_)
 obtain ⟨hk,hv⟩:=hJ
 refine OkC.seq (q4 (AO rfl (AG (v:=(vN k)) (AD rfl Tryz.underlying255) rfl (AG (B6 (c:=(decide (0<k))) rfl rfl (B9 (a:=0) (b:=k))) rfl (AO rfl ?_)))))
 refine OkL.mid (FM:=[(2,(Value.slice none 0 0)),(0,(Value.slice (some ⟨b,0,none⟩) k c)),(3,(Value.slice (some ⟨b,0,none⟩) k c)),(4,(vN k)),(5,(Value.bool (decide (0<k)))),(6,(Value.bool (decide (0<k)))),(14,(Value.bool ((decide (0<k))&&(decide ((bs.getD (k-1) 0)=0)))))]) (LM:=[]) 8 ?_ ?_
 ·rcases Bool.eq_false_or_eq_true (decide (0<k)) with hg1|hg1
  ·skip
   refine OkL.retell (k:=6) (u:=Value.bool true) rfl (by rw [hg1]) ?_
   have hg1':=hg1
   replace hg1':=of_decide_eq_true hg1'
   refine OkL.step (v:=(Value.slice (some ⟨b,0,none⟩) k c)) (AB rfl) (Ac rfl) rfl (AK rfl) (OkL.step (v:=(Value.slice (some ⟨b,0,none⟩) k c)) (AB rfl) (Ac rfl) rfl (AK rfl) (OkL.step (v:=(vN k)) (AB rfl) (AD rfl Tryz.underlying255) rfl (AK rfl) (OkL.step (v:=(vN (k-1))) (AB rfl) (BJ (c:=((k-1:Nat):Int)) rfl rfl (Bt (a:=k) (b:=1) (by omega) (by omega))) rfl (AK rfl) (OkL.step (v:=(pP b (k-1))) (AB rfl) (AL (j:=k-1) rfl rfl Tryz.underlying255 Tryz.sizeOf92 rfl (by omega) (by simp)) rfl (AK rfl) ?_))))
   have hx1:bs.getD (k-1) 0<4294967296:=W32.getD hbs (k-1)
   exact OkL.step (v:=(vK .u32 (bs.getD (k-1) 0))) (AB rfl) (BP (v:=(vK .u32 (bs.getD (k-1) 0))) rfl (λw' hw=>CA.at0 (hw.oldCA (by simp) (D6 hb)) (A6 (xs:=bs) (j:=(k-1)) (by omega))) Tryz.isAgg92) rfl (AK rfl) (OkL.step (v:=(Value.bool (decide ((bs.getD (k-1) 0)=0)))) (AB rfl) (BE (c:=(decide ((bs.getD (k-1) 0)=0))) rfl rfl (L5 (a:=bs.getD (k-1) 0) (b:=0))) rfl (AK rfl) (AG (v:=(Value.bool (decide ((bs.getD (k-1) 0)=0)))) (AN rfl rfl) rfl (OkL.nil (OkQ.mid (sS rfl (sS rfl (sS rfl (sS rfl (sS rfl (sS (by first|rfl|(rw [hg1];rfl)|rw [hg1]) (sS (by first|rfl|(rw [hg1];rfl)|rw [hg1]) (sN)))))))) (List.Sublist.refl _)))))
  ·skip
   refine OkL.retell (k:=6) (u:=Value.bool false) rfl (by rw [hg1]) ?_
   have hg1':=hg1
   replace hg1':=of_decide_eq_false hg1'
   exact OkL.skip (AC rfl) rfl (AK rfl) (OkL.skip (AC rfl) rfl (AK rfl) (OkL.skip (AC rfl) rfl (AK rfl) (OkL.skip (AC rfl) rfl (AK rfl) (OkL.skip (AC rfl) rfl (AK rfl) (OkL.skip (AC rfl) rfl (AK rfl) (OkL.skip (AC rfl) rfl (AK rfl) (AG (v:=(Value.bool false)) (AJ rfl rfl) rfl (OkL.nil (OkQ.mid (sS rfl (sS rfl (sS rfl (sS rfl (sS rfl (sS (by first|rfl|(rw [hg1];rfl)|rw [hg1]) (sS (by first|rfl|(rw [hg1];rfl)|rw [hg1]) (sN)))))))) (List.Sublist.refl _))))))))))
 refine OkL.nil (OkQ.subF (sL [2,0,14] rfl) (OkQ.then_ ?_))
 refine OkC.cond rfl (λhc0=>?_) (λhc0=>?_)
 ·simp only [Bool.and_eq_true,Bool.or_eq_true,Bool.and_eq_false_iff,Bool.or_eq_false_iff,Bool.not_eq_true',Bool.not_eq_false',decide_eq_true_eq,decide_eq_false_iff_not] at hc0
  refine OkC.skip (OkQ.then_ (OkC.block (OkC.region (AO rfl (AO rfl (AG (v:=(vN k)) (AD rfl Tryz.underlying255) rfl (AG (BJ (c:=((k-1:Nat):Int)) rfl rfl (Bt (a:=k) (b:=1) (by omega) (by omega))) rfl (AG (v:=(Value.slice (some ⟨b,0,none⟩) (k-1) c)) (F0 (m:=k-1) rfl rfl Tryz.underlying255 Tryz.sizeOf92 (by omega)) rfl (asg' rfl (OkL.nil (OkQ.subF (sL [2,0] rfl) ?_)))))))))))
  exact OkQ.in_normal (OkQ.round1 (k-1) (⟨by omega,by rw [<-Qu hc0.1 hc0.2];exact hv⟩) (by omega) (sF rfl) sr)
 ·simp only [Bool.and_eq_true,Bool.or_eq_true,Bool.and_eq_false_iff,Bool.or_eq_false_iff,Bool.not_eq_true',Bool.not_eq_false',decide_eq_true_eq,decide_eq_false_iff_not] at hc0
  have hstop:DY bs k=k:=Ql (by omega)
  exact OkC.exit (OkQ.then_exit (OkQ.round1_exit (OkQ.in_exit (q2 (AO rfl (asg' rfl (OkL.nil (OkQ.subF (sL [2,0] rfl) (OkQ.then_ (OkC.ret (ret_one rfl (rd_tmp (v:=(Value.slice (some ⟨b,0,none⟩) k c)) rfl) (λw hw=>⟨by rw [<-hv,hstop],hw.out⟩))))))))))))
theorem Ja (x y c:Nat) (hx:x<4294967296) (hy:y<4294967296) (hc:c<=1) (w:World)  :Calls Tryz.prog 240 #[(vK .u32 x),(vK .u32 y),(vK .u32 c)] w (Ai w (Value.tuple #[(vK .u32 ((x+y+c)%4294967296)),(vK .u32 ((x+y+c)/4294967296))])):=by
 refine AZ (args:=[(vK .u32 x),(vK .u32 y),(vK .u32 c)]) Tryz.func240 rfl rfl (AK rfl) (OkC.subF (sL [0,1,2] rfl) (q4 (asg' rfl (asg' rfl (OkL.nil (q2 (AO rfl (AG (Ar (c:=((x:Nat):Int)) rfl Tryz.underlying92 Tryz.underlying69 (BG (by omega))) rfl (AO rfl (AG (Ar (c:=((y:Nat):Int)) rfl Tryz.underlying92 Tryz.underlying69 (BG (by omega))) rfl (AG (AY (c:=((x+y:Nat):Int)) rfl rfl (C9 (a:=x) (b:=y) (by omega))) rfl ?_)))))))))))
 refine AO rfl (AG (Ar (c:=((c:Nat):Int)) rfl Tryz.underlying92 Tryz.underlying69 (BG (by omega))) rfl (AG (AY (c:=(((x+y)+c:Nat):Int)) rfl rfl (C9 (a:=x+y) (b:=c) (by omega))) rfl (asg' rfl (q3 (sL [6,7,8] rfl) (AO rfl (AG (Ar (c:=((((x+y)+c)%4294967296:Nat):Int)) rfl Tryz.underlying69 Tryz.underlying92 Dy) rfl (asg' rfl (q3 (sL [6,7,8] rfl) (AO rfl (AG (Cc (s:=32) (c:=((((x+y)+c)/4294967296:Nat):Int)) rfl rfl rfl (by decide) (Ff (a:=(x+y)+c) (s:=32))) rfl (AG (Ar (c:=((((x+y)+c)/4294967296:Nat):Int)) rfl Tryz.underlying69 Tryz.underlying92 (CO (by omega))) rfl ?_)))))))))))
 exact asg' rfl (OkL.nil (OkQ.subF (sL [6,7,8] rfl) (OkQ.then_ (OkC.ret (C0 rfl (rd_tmp (v:=(vK .u32 (((x+y)+c)%4294967296))) rfl) (rd_tmp (v:=(vK .u32 (((x+y)+c)/4294967296))) rfl) (λw hw=>⟨rfl,hw.out⟩))))))
theorem J2 (x y c d:Nat) (hx:x<4294967296) (hy:y<4294967296) (hc:c<=1) (hd:d=(x+(4294967296-y)+(4294967296-c))%4294967296) (w:World)  :Calls Tryz.prog 244 #[(vK .u32 x),(vK .u32 y),(vK .u32 c)] w (Ai w (Value.tuple #[(vK .u32 d),(vK .u32 (IN x (y+c)))])):=by
 have hd2:d<4294967296:=by omega
 have hb:=SV hx hy hc hd
 have hx1:4294967295 ^^^ x<4294967296:=Nat.xor_lt_two_pow (n:=32) (by omega) hx
 have hx2:x ^^^ y<4294967296:=Nat.xor_lt_two_pow (n:=32) hx hy
 have hx3:4294967295 ^^^ (x ^^^ y)<4294967296:=Nat.xor_lt_two_pow (n:=32) (by omega) hx2
 have hx4:(4294967295 ^^^ x) &&& y<4294967296:=Nat.lt_of_le_of_lt Nat.and_le_right hy
 have hx5:(4294967295 ^^^ (x ^^^ y)) &&& d<4294967296:=Nat.lt_of_le_of_lt Nat.and_le_right hd2
 refine AZ (args:=[(vK .u32 x),(vK .u32 y),(vK .u32 c)]) Tryz.func244 rfl rfl (AK rfl) (OkC.subF (sL [0,1,2] rfl) (q4 (asg' rfl (asg' rfl (OkL.nil (q2 (AO rfl (AO rfl (AG (BJ (c:=(((x+(4294967296-y))%4294967296:Nat):Int)) rfl rfl (Mg (by omega))) rfl (AO rfl (AG (BJ (c:=((d:Nat):Int)) rfl rfl (by rw [Mg (by omega),hd];exact congrArg Int.ofNat (by omega))) rfl ?_)))))))))))
 refine asg' rfl (q3 (sL [0,1,6,7] rfl) (AO rfl (AG (Tk (c:=((4294967295 ^^^ x:Nat):Int)) rfl (Ms hx)) rfl (AO rfl (AG (JF (c:=(((4294967295 ^^^ x) &&& y:Nat):Int)) rfl rfl (M2 hx1 hy)) rfl (AO rfl (AO rfl (AG (WS (c:=((x ^^^ y:Nat):Int)) rfl rfl (Mh hx hy)) rfl (AG (Tk (c:=((4294967295 ^^^ (x ^^^ y):Nat):Int)) rfl (Ms hx2)) rfl (AO rfl (AG (JF (c:=(((4294967295 ^^^ (x ^^^ y)) &&& d:Nat):Int)) rfl rfl (M2 hx3 hd2)) rfl ?_)))))))))))
 exact AG (IH (c:=(((4294967295 ^^^ x) &&& y ||| (4294967295 ^^^ (x ^^^ y)) &&& d:Nat):Int)) rfl rfl (Iw hx4 hx5 rfl)) rfl (AG (Cc (s:=31) (c:=((((4294967295 ^^^ x) &&& y ||| (4294967295 ^^^ (x ^^^ y)) &&& d)/2147483648:Nat):Int)) rfl rfl rfl (by decide) (Ff (a:=(4294967295 ^^^ x) &&& y ||| (4294967295 ^^^ (x ^^^ y)) &&& d) (s:=31))) rfl (asg' rfl (OkL.nil (OkQ.subF (sL [0,1,6,7] rfl) (OkQ.then_ (OkC.ret (C0 rfl (rd_tmp (v:=(vK .u32 d)) rfl) (rd_tmp (v:=(vK .u32 (((4294967295 ^^^ x) &&& y ||| (4294967295 ^^^ (x ^^^ y)) &&& d)/2147483648))) rfl) (λw hw=>⟨by rw [<-hb],hw.out⟩))))))))
theorem Q8 (x y:Nat) (hx:x<18446744073709551616) (hy:y<18446744073709551616) (w:World)  :Calls Tryz.prog 205 #[(vK .u64 x),(vK .u64 y)] w (Ai w (Value.tuple #[(vK .u64 (x*y/18446744073709551616)),(vK .u64 (x*y%18446744073709551616))])):=by
 have h1:=JL (a:=x%4294967296) (b:=y%4294967296) (by omega) (by omega)
 have h2:=JL (a:=x/4294967296) (b:=y%4294967296) (by omega) (by omega)
 have h3:=JL (a:=x%4294967296) (b:=y/4294967296) (by omega) (by omega)
 have h4:=JL (a:=x/4294967296) (b:=y/4294967296) (by omega) (by omega)
 have hh:=Sm x y
 have hh2:x*y/18446744073709551616<18446744073709551616:=Nat.div_lt_of_lt_mul (Nat.mul_lt_mul'' hx hy)
 refine AZ (args:=[(vK .u64 x),(vK .u64 y)]) Tryz.func205 rfl rfl (AK rfl) (OkC.subF (sL [0,1] rfl) (q4 (asg' rfl (asg' rfl (OkL.nil (q2 (AO rfl (AG (JF (c:=((x%4294967296:Nat):Int)) rfl rfl (H2 (a:=x) (by omega))) rfl (asg' rfl (q3 (sL [0,1,4,5,6] rfl) (AO rfl ?_)))))))))))
 refine AG (Cc (s:=32) (c:=((x/4294967296:Nat):Int)) rfl rfl rfl (by decide) (Ff (a:=x) (s:=32))) rfl (asg' rfl (q3 (sL [0,1,4,5,6,7] rfl) (AO rfl (AG (JF (c:=((y%4294967296:Nat):Int)) rfl rfl (H2 (a:=y) (by omega))) rfl (asg' rfl (q3 (sL [0,1,4,5,6,7,8] rfl) (AO rfl (AG (Cc (s:=32) (c:=((y/4294967296:Nat):Int)) rfl rfl rfl (by decide) (Ff (a:=y) (s:=32))) rfl (asg' rfl (q3 (sL [0,1,4,5,6,7,8,9] rfl) (AO rfl ?_)))))))))))
 refine AO rfl (AG (Cr (c:=(((x%4294967296)*(y%4294967296):Nat):Int)) rfl rfl (EY (a:=x%4294967296) (b:=y%4294967296) (by omega))) rfl (asg' rfl (q3 (sL [0,1,4,5,6,7,8,9,10] rfl) (AO rfl (AO rfl (AG (Cr (c:=(((x/4294967296)*(y%4294967296):Nat):Int)) rfl rfl (EY (a:=x/4294967296) (b:=y%4294967296) (by omega))) rfl (AO rfl (AG (Cc (s:=32) (c:=((((x%4294967296)*(y%4294967296))/4294967296:Nat):Int)) rfl rfl rfl (by decide) (Ff (a:=(x%4294967296)*(y%4294967296)) (s:=32))) rfl (AG (AY (c:=((((x/4294967296)*(y%4294967296))+(((x%4294967296)*(y%4294967296))/4294967296):Nat):Int)) rfl rfl (C9 (a:=(x/4294967296)*(y%4294967296)) (b:=((x%4294967296)*(y%4294967296))/4294967296) (by omega))) rfl (asg' rfl (q3 (sL [0,1,4,5,6,7,8,9,11] rfl) ?_)))))))))))
 refine AO rfl (AG (JF (c:=(((((x/4294967296)*(y%4294967296))+(((x%4294967296)*(y%4294967296))/4294967296))%4294967296:Nat):Int)) rfl rfl (H2 (a:=((x/4294967296)*(y%4294967296))+(((x%4294967296)*(y%4294967296))/4294967296)) (by omega))) rfl (asg' rfl (q3 (sL [0,1,4,5,6,7,8,9,11,12] rfl) (AO rfl (AG (Cc (s:=32) (c:=(((((x/4294967296)*(y%4294967296))+(((x%4294967296)*(y%4294967296))/4294967296))/4294967296:Nat):Int)) rfl rfl rfl (by decide) (Ff (a:=((x/4294967296)*(y%4294967296))+(((x%4294967296)*(y%4294967296))/4294967296)) (s:=32))) rfl (asg' rfl (q3 (sL [0,1,4,5,6,7,8,9,11,12,13] rfl) (AO rfl (AO rfl (AO rfl (AG (Cr (c:=(((x%4294967296)*(y/4294967296):Nat):Int)) rfl rfl (EY (a:=x%4294967296) (b:=y/4294967296) (by omega))) rfl ?_)))))))))))
 refine AG (AY (c:=((((((x/4294967296)*(y%4294967296))+(((x%4294967296)*(y%4294967296))/4294967296))%4294967296)+((x%4294967296)*(y/4294967296)):Nat):Int)) rfl rfl (C9 (a:=(((x/4294967296)*(y%4294967296))+(((x%4294967296)*(y%4294967296))/4294967296))%4294967296) (b:=(x%4294967296)*(y/4294967296)) (by omega))) rfl (asg' rfl (q3 (sL [0,1,4,5,6,7,8,9,11,12,13] rfl) (AO rfl (AO rfl (AG (Cr (c:=(((x/4294967296)*(y/4294967296):Nat):Int)) rfl rfl (EY (a:=x/4294967296) (b:=y/4294967296) (by omega))) rfl (AO rfl (AG (AY (c:=((((x/4294967296)*(y/4294967296))+((((x/4294967296)*(y%4294967296))+(((x%4294967296)*(y%4294967296))/4294967296))/4294967296):Nat):Int)) rfl rfl (C9 (a:=(x/4294967296)*(y/4294967296)) (b:=(((x/4294967296)*(y%4294967296))+(((x%4294967296)*(y%4294967296))/4294967296))/4294967296) (by omega))) rfl (AO rfl (AG (Cc (s:=32) (c:=(((((((x/4294967296)*(y%4294967296))+(((x%4294967296)*(y%4294967296))/4294967296))%4294967296)+((x%4294967296)*(y/4294967296)))/4294967296:Nat):Int)) rfl rfl rfl (by decide) (Ff (a:=((((x/4294967296)*(y%4294967296))+(((x%4294967296)*(y%4294967296))/4294967296))%4294967296)+((x%4294967296)*(y/4294967296))) (s:=32))) rfl (AG (AY (c:=((x*y/18446744073709551616:Nat):Int)) rfl rfl (by rw [<-Int.natCast_add,hh];exact BG hh2)) rfl (asg' rfl ?_)))))))))))
 exact q3 (sL [0,1,4,5,6,7,8,9,11,12] rfl) (AO rfl (AO rfl (AG (Cr (c:=((x*y%18446744073709551616:Nat):Int)) rfl rfl RG) rfl (asg' rfl (OkL.nil (OkQ.subF (sL [0,1,4,5,6,7,8,9,11,12] rfl) (OkQ.then_ (OkC.ret (C0 rfl (rd_tmp (v:=(vK .u64 (x*y/18446744073709551616))) rfl) (rd_tmp (v:=(vK .u64 (x*y%18446744073709551616))) rfl) (λw hw=>⟨rfl,hw.out⟩))))))))))
theorem S1 (hi lo y:Nat) (hh:hi<y) (hl:lo<4294967296) (hy:y<4294967296) (w:World)  :Calls Tryz.prog 231 #[(vK .u32 hi),(vK .u32 lo),(vK .u32 y)] w (Ai w (Value.tuple #[(vK .u32 ((hi*4294967296+lo)/y)),(vK .u32 ((hi*4294967296+lo)%y))])):=by
 refine AZ (args:=[(vK .u32 hi),(vK .u32 lo),(vK .u32 y)]) Tryz.func231 rfl rfl (AK rfl) (OkC.subF (sL [0,1,2] rfl) (q4 (asg' rfl (asg' rfl (OkL.nil (q1 (q4 (AO rfl (AG (CQ (c:=(decide (y≠0))) rfl rfl (XH (a:=y) (b:=0))) rfl (AO rfl ?_))))))))))
 refine OkL.mid (FM:=[(0,(vK .u32 hi)),(1,(vK .u32 lo)),(2,(vK .u32 y)),(6,(Value.int .u32 (0:Int))),(7,(Value.int .u32 (0:Int))),(9,(vK .u32 y)),(10,(Value.bool (decide (y≠0)))),(11,(Value.bool (decide (y≠0)))),(15,(Value.bool ((decide (y≠0))&&(decide (y<=hi)))))]) (LM:=[]) 4 ?_ ?_
 ·rcases Bool.eq_false_or_eq_true (decide (y≠0)) with hg1|hg1
  ·skip
   refine OkL.retell (k:=11) (u:=Value.bool true) rfl (by rw [hg1]) ?_
   have hg1':=hg1
   replace hg1':=of_decide_eq_true hg1'
   exact OkL.step (v:=(vK .u32 y)) (AB rfl) (Ac rfl) rfl (AK rfl) (OkL.step (v:=(vK .u32 hi)) (AB rfl) (Ac rfl) rfl (AK rfl) (OkL.step (v:=(Value.bool (decide (y<=hi)))) (AB rfl) (FP (c:=(decide (y<=hi))) rfl rfl (Q6 (a:=y) (b:=hi))) rfl (AK rfl) (AG (v:=(Value.bool (decide (y<=hi)))) (AN rfl rfl) rfl (OkL.nil (OkQ.mid (sS rfl (sS rfl (sS rfl (sS rfl (sS rfl (sS rfl (sS rfl (sS (by first|rfl|(rw [hg1];rfl)|rw [hg1]) (sS (by first|rfl|(rw [hg1];rfl)|rw [hg1]) (sN)))))))))) (List.Sublist.refl _))))))
  ·skip
   refine OkL.retell (k:=11) (u:=Value.bool false) rfl (by rw [hg1]) ?_
   have hg1':=hg1
   replace hg1':=of_decide_eq_false hg1'
   exact OkL.skip (AC rfl) rfl (AK rfl) (OkL.skip (AC rfl) rfl (AK rfl) (OkL.skip (AC rfl) rfl (AK rfl) (AG (v:=(Value.bool false)) (AJ rfl rfl) rfl (OkL.nil (OkQ.mid (sS rfl (sS rfl (sS rfl (sS rfl (sS rfl (sS rfl (sS rfl (sS (by first|rfl|(rw [hg1];rfl)|rw [hg1]) (sS (by first|rfl|(rw [hg1];rfl)|rw [hg1]) (sN)))))))))) (List.Sublist.refl _))))))
 refine OkL.nil (OkQ.subF (sL [0,1,2,6,7,15] rfl) (OkQ.then_ ?_))
 refine OkC.cond rfl (λhc0=>?_) (λhc0=>?_)
 ·simp only [Bool.and_eq_true,Bool.or_eq_true,Bool.and_eq_false_iff,Bool.or_eq_false_iff,Bool.not_eq_true',Bool.not_eq_false',decide_eq_true_eq,decide_eq_false_iff_not] at hc0
  exfalso;omega
 ·simp only [Bool.and_eq_true,Bool.or_eq_true,Bool.and_eq_false_iff,Bool.or_eq_false_iff,Bool.not_eq_true',Bool.not_eq_false',decide_eq_true_eq,decide_eq_false_iff_not] at hc0
  refine OkC.skip (q2 (AO rfl (AG (Ar (c:=((hi:Nat):Int)) rfl Tryz.underlying92 Tryz.underlying69 (BG (by omega))) rfl (AG (v:=(vK .u64 (hi*4294967296))) (Fy (s:=32) rfl rfl rfl (by decide) (F4 (s:=32) (by omega))) rfl (AO rfl (AG (Ar (c:=((lo:Nat):Int)) rfl Tryz.underlying92 Tryz.underlying69 (BG (by omega))) rfl (AG (IH (c:=((hi*4294967296+lo:Nat):Int)) rfl rfl (Ix (by omega) (by omega) (by rw [Nat.or_comm,Nat.add_comm];exact Gu (s:=32) (by omega)))) rfl ?_)))))))
  have hq:(hi*4294967296+lo)/y<4294967296:=Nat.div_lt_of_lt_mul (by have h9:(hi+1)*4294967296<=y*4294967296:=Nat.mul_le_mul_right _ hh;omega)
  have hr:(hi*4294967296+lo)%y<y:=Nat.mod_lt _ (by omega)
  refine asg' rfl (q6 (sL [0,2,6,7,8] rfl) (CV [(0,true),(1,true),(2,true),(3,true),(4,true),(5,true),(6,true),(7,true),(8,true),(9,true),(10,true),(11,true)] sr (BN rfl (BN rfl (Ag rfl (Ar (c:=((y:Nat):Int)) rfl Tryz.underlying92 Tryz.underlying69 (BG (by omega))) (Ag rfl (EP (c:=(((hi*4294967296+lo)/y:Nat):Int)) rfl rfl (by omega) (G9 (a:=hi*4294967296+lo) (b:=y) (by omega))) (Ag rfl (Ar (c:=(((hi*4294967296+lo)/y:Nat):Int)) rfl Tryz.underlying69 Tryz.underlying92 (CO (by omega))) (BN rfl (BN rfl (Ag rfl (Ar (c:=((y:Nat):Int)) rfl Tryz.underlying92 Tryz.underlying69 (BG (by omega))) (Ag rfl (De (c:=(((hi*4294967296+lo)%y:Nat):Int)) rfl rfl (by omega) (Nu (a:=hi*4294967296+lo) (b:=y))) ?_)))))))))))
  exact Ag rfl (Ar (c:=(((hi*4294967296+lo)%y:Nat):Int)) rfl Tryz.underlying69 Tryz.underlying92 (CO (by omega))) (pS' rfl (pS' rfl (OkE.nil (OkQ.subF (sL [0,2,6,7] rfl) (OkQ.then_ (OkC.ret (C0 rfl (rd_tmp (v:=(vK .u32 ((hi*4294967296+lo)/y))) rfl) (rd_tmp (v:=(vK .u32 ((hi*4294967296+lo)%y))) rfl) (λw hw=>⟨rfl,hw.out⟩))))))))
theorem RC (x:Nat) (hx:x<4294967296) (w:World)  :Calls Tryz.prog 254 #[(vK .u32 x)] w (Ai w (vN (bl x))):=by
 refine AZ (args:=[(vK .u32 x)]) Tryz.func254 rfl rfl (AK rfl) (OkC.subF (sL [0] rfl) (q4 (asg' rfl (OkL.nil (q1 (q4 (AO rfl (AG (B_ (c:=(decide (65536<=x))) rfl rfl (Q6 (a:=65536) (b:=x))) rfl (OkL.nil (OkQ.subF (sL [0,2,4] rfl) (OkQ.then_ ?_)))))))))))
 refine OkC.jn2 (tg λ(u:Nat) (n:Nat)=>u<65536/\n<=16/\bl x=bl u+n) (tg λ(u:Nat) (n:Nat)=>[(0,(vK .u32 u)),(2,(vN n))]) (tg λ(u:Nat) (n:Nat)=>[]) ?_ ?_
 ·skip
  refine OkC.cond rfl (λhc0=>?_) (λhc0=>?_)
  ·replace hc0:=of_decide_eq_true hc0
   exact q4 (AO rfl (AG (Cc (s:=16) (c:=((x/65536:Nat):Int)) rfl rfl rfl (by decide) (Ff (a:=x) (s:=16))) rfl (asg' rfl (OkL.nil (OkQ.subF (sL [0,2] rfl) (OkQ.then_ (OkC.region (asg' rfl (OkL.nil (OkQ.join2 (x/65536) 16 (⟨by omega,by omega,NH (k:=16) hc0⟩) (sF rfl) sr))))))))))
  ·replace hc0:=of_decide_eq_false hc0
   exact OkC.skip (OkQ.join2 x 0 (⟨by omega,by omega,rfl⟩) (sF rfl) sr)
 ·intro u n hJ
  obtain ⟨hu,hn,hv⟩:=hJ
  refine q1 (q4 (AO rfl (AG (B_ (c:=(decide (256<=u))) rfl rfl (Q6 (a:=256) (b:=u))) rfl (OkL.nil (OkQ.subF (sL [0,2,8] rfl) (OkQ.then_ ?_))))))
  refine OkC.jn2 (tg λ(u2:Nat) (n2:Nat)=>u2<256/\n2<=24/\bl x=bl u2+n2) (tg λ(u2:Nat) (n2:Nat)=>[(0,(vK .u32 u2)),(2,(vN n2))]) (tg λ(u2:Nat) (n2:Nat)=>[]) ?_ ?_
  ·skip
   refine OkC.cond rfl (λhc1=>?_) (λhc1=>?_)
   ·replace hc1:=of_decide_eq_true hc1
    refine q4 (AO rfl (AG (Cc (s:=8) (c:=((u/256:Nat):Int)) rfl rfl rfl (by decide) (Ff (a:=u) (s:=8))) rfl (asg' rfl (OkL.nil (OkQ.subF (sL [0,2] rfl) (OkQ.then_ (OkC.region (AO rfl (AG (AY (c:=((n+8:Nat):Int)) rfl rfl (AT (a:=n) (b:=8) (by omega))) rfl (asg' rfl (OkL.nil ?_)))))))))))
    exact OkQ.subF (sL [0,2] rfl) (OkQ.join2 (u/256) (n+8) (⟨by omega,by omega,by rw [hv,WC hc1];omega⟩) (sF rfl) sr)
   ·replace hc1:=of_decide_eq_false hc1
    exact OkC.skip (OkQ.join2 u n (⟨by omega,by omega,hv⟩) (sF rfl) sr)
  ·intro u2 n2 hJ
   obtain ⟨hu2,hn2,hv2⟩:=hJ
   refine q2 (AO rfl (AO rfl (AG (Ar (c:=((u2:Nat):Int)) rfl Tryz.underlying92 Tryz.underlying5 (NK (by omega))) rfl ?_)))
   have hb8:bl u2<=8:=RT (k:=8) hu2
   exact AG (v:=(vK .u8 (bl u2))) (HR (j:=u2) (m:=bl u2) rfl rfl Tryz.underlying9 (Wh (by kernel_rfl) hu2) (by omega)) rfl (AG (Ar (c:=((bl u2:Nat):Int)) rfl Tryz.underlying5 Tryz.underlying3 (EJ (by omega))) rfl (AG (AY (c:=((bl x:Nat):Int)) rfl rfl (by rw [hv2,Int.add_comm,<-Int.natCast_add];exact EJ (by omega))) rfl (asg' rfl (OkL.nil (OkQ.subF (sL [0,2] rfl) (OkQ.then_ (OkC.ret (ret_one rfl (rd_tmp (v:=(vN (bl x))) rfl) (λw hw=>⟨rfl,hw.out⟩)))))))))
theorem UA (x:Nat) (hx:x<4294967296) (w:World)  :Calls Tryz.prog 272 #[(vK .u32 x)] w (Ai w (vN (32-bl x))):=by
 have hb:=RT (k:=32) hx
 refine AZ (args:=[(vK .u32 x)]) Tryz.func272 rfl rfl (AK rfl) (OkC.subF (sL [0] rfl) (q4 (asg' rfl (OkL.nil (q2 (AO rfl (ck' Tryz.call254 (RC _ (by omega)) rfl (AG (BJ (c:=((32-(bl x):Nat):Int)) rfl rfl (Bt (a:=32) (b:=bl x) (by omega) (by omega))) rfl (asg' rfl (OkL.nil (OkQ.subF (sL [2] rfl) ?_)))))))))))
 exact OkQ.then_ (OkC.ret (ret_one rfl (rd_tmp (v:=(vN (32-(bl x)))) rfl) (λw hw=>⟨rfl,hw.out⟩)))
theorem UG (z:Int) (hz:-9223372036854775808<=z) (hz2:z<9223372036854775808) (w:World)  :Calls Tryz.prog 296 #[(vI z)] w (Ai w (vI z.sign)):=by
 refine AZ (args:=[(vI z)]) Tryz.func296 rfl rfl (AK rfl) (OkC.subF (sL [0] rfl) (q4 (asg' rfl (OkL.nil (q2 (AO rfl (AG (DI (c:=(if z<1 then z else 1)) rfl rfl rfl) rfl (AG (DH (c:=z.sign) rfl rfl (R0 z)) rfl (asg' rfl (OkL.nil (OkQ.subF (sL [2] rfl) ?_)))))))))))
 exact OkQ.then_ (OkC.ret (ret_one rfl (rd_tmp (v:=(vI z.sign)) rfl) (λw hw=>⟨rfl,hw.out⟩)))
end
section
set_option maxRecDepth 100000
theorem Ip (n:Nat) (hn:n<18446744073709551616) (w:World)  :Calls Tryz.prog 172 #[(vK .u64 n)] w (Ai w (aG (AS n))):=by
 refine AZ (args:=[(vK .u64 n)]) Tryz.func172 rfl rfl (AK rfl) (OkC.subF (sL [0] rfl) (q4 (al FV rfl λb1=>OkL.nil (q2 (AO rfl (AG (v:=(aG ([(vK .u64 n),(Value.string (Bd 0))]))) (AR (zs:=AS 0) (vs:=[(vK .u64 n),(Value.string (Bd 0))]) (pv:=[(0,(vK .u64 n))]) (places:=[(0,1),(1,1)]) Tryz.zeroValue71 Tryz.underlying71 (λw=>by simp [Tryz.sizeOf9,Tryz.sizeOf69]) rfl rfl) rfl (OkL.retell (k:=4) (u:=(aG (AS n))) rfl (by rw [DG hn];rfl) (Ay rfl Tryz.sizeOf71 rfl (OkL.nil (OkQ.subF (sL [2] rfl) ?_))))))))))
 exact OkQ.then_ (OkC.ret (ret_one rfl (Aj (i:=0) (cs:=AS n) rfl rfl Tryz.isAgg71 Tryz.sizeOf71 rfl) (λw hw=>⟨rfl,hw.out⟩)))
theorem J8  :Instr.fill ([(0,1),(1,1)].toArray[·]?) (AS 0).toArray []=some (AS 0).toArray:=by kernel_rfl
theorem PG (a:Nat) (w:World)  :Calls Tryz.prog 241 #[(aG (AS a))] w (Ai w (Value.bool (decide (a=0)))):=by
 refine AZ (args:=[(aG (AS a))]) Tryz.func241 rfl rfl (AK rfl) (OkC.subF (sL [0] rfl) (q4 (Bg (cs:=AS a) rfl λb1=>asg' rfl (q3 (sL [1,2] rfl) (BU 0 Bw rfl (AG (v:=(aG (AS 0))) (AR (zs:=AS 0) (vs:=AS 0) (pv:=[]) (places:=[(0,1),(1,1)]) Tryz.zeroValue71 Tryz.underlying71 (λw=>by simp [Tryz.sizeOf9,Tryz.sizeOf69]) rfl (J8 )) rfl (AG (Bv (c:=(decide (a=0))) rfl rfl Tryz.eqGuardType71 (HJ 9998 a 0)) rfl (asg' rfl (OkL.nil (OkQ.subF (sL [2] rfl) ?_))))))))))
 exact OkQ.then_ (OkC.ret (ret_one rfl (rd_tmp (v:=(Value.bool (decide (a=0)))) rfl) (λw hw=>⟨rfl,hw.out⟩)))
theorem Cu (v:Nat) (hv:nw v<=1099511627776) (w:World)  :Calls Tryz.prog 187 #[(aG (AS v))] w (λe w'=>∃b,e=.returned (.slice (some ⟨b,0,none⟩) (nw v) (Am v).length)/\GC w.heap.size w w'/\w.heap.size<=b/\w'.heap[b]?=some (.cells (Ae (Am v)).toArray 92 (0,0))):=by
 refine AZ (args:=[(aG (AS v))]) Tryz.func187 rfl rfl (AK rfl) (OkC.subF (sL [0] rfl) (q4 (Bg (cs:=AS v) rfl λb1=>asg' rfl (q6 (sL [1,2] rfl) (q4 (AG (v:=(pP b1 1)) (AA rfl Tryz.underlying71 rfl Tryz.sizeOf9 rfl) rfl (Aw 0 (Value.string (Bd v)) Q5 rfl (AG (Bf (c:=(decide (v<18446744073709551616))) rfl rfl CI) rfl (OkL.nil (OkQ.subF (sL [1,2,8] rfl) ?_))))))))))
 refine OkQ.then_ ?_
 refine OkC.cond rfl (λhc0=>?_) (λhc0=>?_)
 ·replace hc0:=of_decide_eq_true hc0
  refine q4 (AG (v:=(pP b1 0)) (AA rfl Tryz.underlying71 rfl Tryz.sizeOf69 rfl) rfl (Aw 0 (vK .u64 (Bo v)) F9 rfl (OkL.retell (k:=10) (u:=(vK .u64 v)) rfl (by rw [BY hc0]) (AG (Ar (c:=((v%4294967296:Nat):Int)) rfl Tryz.underlying69 Tryz.underlying92 Dy) rfl (AG (v:=(pP b1 0)) (AA rfl Tryz.underlying71 rfl Tryz.sizeOf69 rfl) rfl (Aw 0 (vK .u64 (Bo v)) F9 rfl (OkL.retell (k:=13) (u:=(vK .u64 v)) rfl (by rw [BY hc0]) (AG (Cc (s:=32) (c:=((v/4294967296:Nat):Int)) rfl rfl rfl (by decide) (Ff (a:=v) (s:=32))) rfl (AG (Ar (c:=((v/4294967296:Nat):Int)) rfl Tryz.underlying69 Tryz.underlying92 (CO (by omega))) rfl (OkL.openV (V:=λb2=>(Value.slice (some ⟨b2,0,none⟩) 2 2)) (T:=92) (cs:=Ae ([v%4294967296,v/4294967296])) (AP rfl) (Av (cs:=Ae ([v%4294967296,v/4294967296])) (pv:=[(0,(vK .u32 (v%4294967296))),(1,(vK .u32 (v/4294967296)))]) Tryz.underlying255 Tryz.sizeOf92 Tryz.zeroValue92 (by decide) (by decide) rfl (by kernel_rfl)) rfl (AK rfl) λb2=>Cq Tryz.call189 (λw hw=>Ry _ 2 2 ([v%4294967296,v/4294967296]) (W32.cons (by omega) (W32.cons (by omega) (W32.nil))) (by simp) (by simp) (by simp;try omega) w (hw.get (i:=0) rfl)) rfl ?_))))))))))
  refine asg' rfl (OkL.nil (OkQ.subF (sL [1,2] rfl) (OkQ.then_ (OkC.ret (OkQ.then_ret ?_)))))
  have hpad:Am v=[v%4294967296,v/4294967296]:=by simp [Am,hc0]
  have hnw:nw v=DY [v%4294967296,v/4294967296] 2:=by rw [<-Oi (Vg hc0) (m:=2) (by simp),<-Pj v,hpad];simp [val];congr 1;omega
  have hret:∀b:Nat,(Ending.returned (Value.slice (some ⟨b,0,none⟩) (DY ([v%4294967296,v/4294967296]) 2) 2))=.returned (Value.slice (some ⟨b,0,none⟩) (nw v) (Am v).length):=λb=>by rw [hnw,hpad];rfl
  replace hret:=hret b2
  have hcells:(some (Obj.cells (Ae ([v%4294967296,v/4294967296])).toArray 92 (0,0)))=some (Obj.cells (Ae (Am v)).toArray 92 (0,0)):=by rw [hpad]
  exact ret_one rfl (rd_tmp (v:=(Value.slice (some ⟨b2,0,none⟩) (DY ([v%4294967296,v/4294967296]) 2) 2)) rfl) (λw hw=>⟨b2,hret,hw.out,hw.fresh (i:=0) rfl,(hw.get (i:=0) rfl).trans hcells⟩)
 ·replace hc0:=of_decide_eq_false hc0
  refine OkC.skip (q2 (AG (v:=(pP b1 1)) (AA rfl Tryz.underlying71 rfl Tryz.sizeOf9 rfl) rfl (Aw 0 (Value.string (Bd v)) Q5 rfl (AG (v:=(vN ((Bd v).size))) (J_ rfl Tryz.underlying9) rfl (OkL.retell (k:=20) (u:=(vN (4*nw v))) rfl (by rw [Ea hc0,JT,Bp];rfl) (AG (EP (c:=(((4*nw v)/4:Nat):Int)) rfl rfl (by omega) (Ed (a:=4*nw v) (b:=4) (by omega))) rfl (OkL.retell (k:=21) (u:=(vN (nw v))) rfl (by rw [Nat.mul_div_cancel_left _ (by omega)]) (OkL.openV (V:=λb2=>(Value.slice (some ⟨b2,0,none⟩) (nw v) (nw v))) (T:=92) (cs:=Ae (List.replicate (nw v) 0)) (AP rfl) (Cv (m:=nw v) (c:=nw v) rfl rfl (by omega) (by omega)) rfl (AK rfl) λb2=>asg' rfl (q6 (sL [1,2,3] rfl) (q4 ?_))))))))))
  refine AO rfl (AG (v:=(vN (nw v))) (AD rfl Tryz.underlying255) rfl (AO rfl (OkL.nil (OkQ.subF (sL [1,2,3,24,25] rfl) (OkQ.then_ (OkC.block ?_))))))
  refine OkC.lp2 (tg λ(i:Nat) (os:List Nat)=>i<=nw v/\os.length=nw v/\os.take i=(AM v).take i/\∀j,i<=j->os.getD j 0=0) (tg λ(i:Nat) (os:List Nat)=>[(1,(pP b1 0)),(2,(Value.slice none 0 0)),(3,(Value.slice (some ⟨b2,0,none⟩) (nw v) (nw v))),(24,(vN (nw v))),(25,(vN i))]) (tg λ(i:Nat) (os:List Nat)=>[AX b2 92 (Ae os),AX b1 71 (AS v)]) (tg λ(i:Nat) (os:List Nat)=>nw v-i) 0 (List.replicate (nw v) 0) (⟨Nat.zero_le _,by simp,by simp,λj _=>by simp [List.getD_eq_getElem?_getD,List.getElem?_replicate];split<;>rfl⟩) (sF rfl) sr (λi os hJ=>?_)
  obtain ⟨hin,hl,ht,h0⟩:=hJ
  refine q4 (AG (Af (c:=(decide (i<(nw v)))) rfl rfl (B9 (a:=i) (b:=nw v))) rfl (OkL.nil (q1 ?_)))
  refine OkC.cond rfl (λhc1=>?_) (λhc1=>?_)
  ·replace hc1:=of_decide_eq_true hc1
   refine OkC.skip (q1 (OkC.block (q4 (AO rfl (asg' rfl (q3 (sL [1,2,3,24,25,4] rfl) (AO rfl (OkL.nil (OkQ.then_ (OkC.block ?_))))))))))
   refine OkC.lp2 (tg λ(k:Nat) (xs:List Nat)=>k<=4/\xs=os.set i ((AM v).getD i 0%256^k)) (tg λ(k:Nat) (xs:List Nat)=>[(1,(pP b1 0)),(2,(Value.slice none 0 0)),(3,(Value.slice (some ⟨b2,0,none⟩) (nw v) (nw v))),(24,(vN (nw v))),(25,(vN i)),(4,(vN i)),(28,(vN k))]) (tg λ(k:Nat) (xs:List Nat)=>[AX b2 92 (Ae xs),AX b1 71 (AS v)]) (tg λ(k:Nat) (xs:List Nat)=>4-k) 0 os (⟨by omega,by rw [Nat.pow_zero,Nat.mod_one];exact Rt (h0 i (Nat.le_refl _))⟩) (sF rfl) sr (λk xs hJ=>?_)
   obtain ⟨hk,hxs⟩:=hJ
   refine q4 (AG (Af (c:=(decide (k<4))) rfl rfl (B9 (a:=k) (b:=4))) rfl (OkL.nil (q1 ?_)))
   refine OkC.cond rfl (λhc2=>?_) (λhc2=>?_)
   ·replace hc2:=of_decide_eq_true hc2
    refine OkC.skip (q1 (OkC.block (q4 (AO rfl (asg' rfl (OkL.nil (OkQ.subF (sL [1,2,3,24,25,4,28,5] rfl) (OkQ.then_ (CV [(0,true),(1,true),(2,true),(4,true),(5,true),(6,true),(7,true),(8,true),(9,true),(10,true),(11,true),(12,true),(13,true),(14,true),(3,false),(15,true),(16,true),(17,false)] (sl sr) ?_)))))))))
    have hi:i<nw v:=hc1
    have hxi:xs.getD i 0=(AM v).getD i 0%256^k:=by rw [hxs];simp [hl,hi]
    have hxl:xs.length=nw v:=by rw [hxs];simp [hl]
    have hby:(AM v).getD i 0/256^k%256<256:=Nat.mod_lt _ (by omega)
    have hget:(Bd v)[4*i+k]?=some (UInt8.ofNat ((AM v).getD i 0/256^k%256)):=by rw [Ea hc0,QU (by rw [Bp];show 4*i+k<4*nw v;omega),FS _ _ _ hi hc2]
    have hw32:xs.getD i 0<4294967296:=by rw [hxi];exact Nat.lt_of_le_of_lt (Nat.mod_le _ _) ((Bh v).getD i)
    refine BN rfl (BN rfl (Ag (v:=(pP b2 i)) rfl (AL (j:=i) rfl rfl Tryz.underlying255 Tryz.sizeOf92 rfl (by omega) (by simp)) (Ag (v:=(pP b1 1)) rfl (AA rfl Tryz.underlying71 rfl Tryz.sizeOf9 rfl) (BQ 0 (Value.string (Bd v)) Q5 rfl (BN rfl (Ag rfl (Cr (c:=((4*i:Nat):Int)) rfl rfl (DN (a:=4) (b:=i) (by omega))) (BN rfl (Ag rfl (AY (c:=(((4*i)+k:Nat):Int)) rfl rfl (AT (a:=4*i) (b:=k) (by omega))) (Ag (v:=(vK .u8 ((AM v).getD i 0/256^k%256))) rfl (HR (j:=4*i+k) (m:=(AM v).getD i 0/256^k%256) rfl rfl Tryz.underlying9 hget hby) (Ag rfl (Ar (c:=(((AM v).getD i 0/256^k%256:Nat):Int)) rfl Tryz.underlying5 Tryz.underlying92 (CO (by omega))) (BN rfl ?_)))))))))))
    refine Ag rfl (Cr (c:=((8*k:Nat):Int)) rfl rfl (DN (a:=8) (b:=k) (by omega))) (Ag (v:=(vK .u32 ((AM v).getD i 0/256^k%256*2^(8*k)))) rfl (Fy (s:=8*k) rfl rfl rfl (show 8*k<=32 by omega) (Tp (O7 hc2))) (OkE.imp rfl (AG (AE (i:=0) (v:=(vK .u32 (xs.getD i 0))) rfl rfl Tryz.isAgg92 (A6 (xs:=xs) (j:=i) (by omega))) rfl (OkE.back (sl sr) (Ag rfl (IH (c:=(((AM v).getD i 0%256^(k+1):Nat):Int)) rfl rfl (Iw hw32 (O7 hc2) (QZ hxi))) (Ag (v:=(pP b2 i)) rfl (AL (j:=i) rfl rfl Tryz.underlying255 Tryz.sizeOf92 rfl (by omega) (by simp)) (OkE.imp rfl (OkL.store' (i:=0) (off:=i) (vs:=[(vK .u32 ((AM v).getD i 0%256^(k+1)))]) (cs':=Ae (xs.set i ((AM v).getD i 0%256^(k+1)))) (L':=[AX b2 92 (Ae (xs.set i ((AM v).getD i 0%256^(k+1)))),AX b1 71 (AS v)]) (AP rfl) rfl rfl rfl rfl rfl Tryz.sizeOf92 rfl (CM (BI _) (by omega)) (B0 (by omega)) rfl (OkE.back (sl sr) (OkE.nil (OkQ.subF (sL [1,2,3,24,25,4,28] rfl) ?_)))))))))))
    exact OkQ.in_normal (OkQ.then_ (OkC.region (AG (AY (c:=((k+1:Nat):Int)) rfl rfl (AT (a:=k) (b:=1) (by omega))) rfl (AO rfl (OkL.nil (OkQ.subF (sL [1,2,3,24,25,4,28] rfl) (OkQ.round2 (k+1) (xs.set i ((AM v).getD i 0%256^(k+1))) (⟨by omega,by rw [hxs,List.set_set]⟩) (by omega) (sF rfl) sr)))))))
   ·replace hc2:=of_decide_eq_false hc2
    refine OkC.exit (OkQ.then_exit (OkQ.round2_exit (OkQ.in_exit (OkQ.in_normal (OkQ.then_ (OkC.region (AG (AY (c:=((i+1:Nat):Int)) rfl rfl (AT (a:=i) (b:=1) (by omega))) rfl (AO rfl (OkL.nil (OkQ.subF (sL [1,2,3,24,25,4,28] rfl) ?_))))))))))
    have hst:=OQ (ws:=AM v) (xs:=xs) hl rfl hc1 ht h0 (by rw [hxs,show k=4 by omega];congr 1;exact Nat.mod_eq_of_lt ((Bh v).getD i))
    exact OkQ.round2 (i+1) xs (⟨by omega,hst.1,hst.2.1,hst.2.2⟩) (by omega) (sF rfl) sr
  ·replace hc1:=of_decide_eq_false hc1
   refine OkC.exit (OkQ.then_exit (OkQ.round2_exit (OkQ.in_exit (q2 (AO rfl (asg' rfl (OkL.nil (OkQ.subF (sL [1,2,3,24,25] rfl) (OkQ.then_ (OkC.ret ?_))))))))))
   have hpad:Am v=AM v:=by simp [Am,hc0]
   have hos:os=AM v:=Te hl rfl hc1 ht
   have hret:∀b:Nat,(Ending.returned (Value.slice (some ⟨b,0,none⟩) (nw v) (nw v)))=.returned (Value.slice (some ⟨b,0,none⟩) (nw v) (Am v).length):=λb=>by rw [hpad];rfl
   replace hret:=hret b2
   have hcells:(some (Obj.cells (Ae os).toArray 92 (0,0)))=some (Obj.cells (Ae (Am v)).toArray 92 (0,0)):=by rw [hpad,hos]
   exact ret_one rfl (rd_tmp (v:=(Value.slice (some ⟨b2,0,none⟩) (nw v) (nw v))) rfl) (λw hw=>⟨b2,hret,hw.out,hw.fresh (i:=0) rfl,(hw.get (i:=0) rfl).trans hcells⟩)
end
end Go.Proofs.YtpolhpjiahbidaaGreatDoor
