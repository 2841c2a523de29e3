import Derived.Laws.StructEq
import Derived.Test.YtpgncndhhhllfaaGreatDoorPart03
import Derived.Test.YtpgncndhhhllfaaGreatDoorPart06
import Derived.Test.YtpgncndhhhllfaaGreatDoorPart09
namespace Go.Proofs.YtpgncndhhhllfaaGreatDoor
open Go Go.RowKit Go.Proofs.Tryz
set_option linter.unusedVariables false
set_option linter.unusedSimpArgs false
section
set_option maxRecDepth 100000
theorem Ry (b m c:Nat) (bs:List Nat) (hbs:W32 bs) (hm:m<=bs.length) (hc:m<=c) (hL:c<4611686018427387904) (w:World) (hb:w.heap[b]?=some (.cells (Ao bs).toArray 97 (0,0))):Calls Tryz.prog 161 #[(Value.slice (some ⟨b,0,none⟩) m c)] w (Al w (Value.slice (some ⟨b,0,none⟩) (DY bs m) c)):=by
 refine Aa (args:=[(Value.slice (some ⟨b,0,none⟩) m c)]) Tryz.func161 rfl rfl (AV rfl) (AE.subF (sL [0] rfl) (q4 (asg' rfl (AD.nil (q1 ?_)))))
 refine AE.block ?_
 refine AE.lp1 (tg λ(k:Nat)=>k<=m/\DY bs k=DY bs m) (tg λ(k:Nat)=>[(2,(Value.slice none 0 0)),(0,(Value.slice (some ⟨b,0,none⟩) k c))]) (tg λ(k:Nat)=>[]) (tg λ(k:Nat)=>k) m (⟨Nat.le_refl _,rfl⟩) (sF rfl) sr (λk hJ=>?_)
 obtain ⟨hk,hv⟩:=hJ
 refine AE.seq (q4 (AQ rfl (AK (v:=(vN k)) (AF rfl Tryz.underlying184) rfl (AK (Bb (c:=(decide (0<k))) rfl rfl (CI (a:=0) (b:=k))) rfl (AQ rfl ?_)))))
 refine AD.mid (FM:=[(2,(Value.slice none 0 0)),(0,(Value.slice (some ⟨b,0,none⟩) k c)),(3,(Value.slice (some ⟨b,0,none⟩) k c)),(4,(vN k)),(5,(Value.bool (decide (0<k)))),(6,(Value.bool (decide (0<k)))),(14,(Value.bool ((decide (0<k))&&(decide ((bs.getD (k-1) 0)=0)))))]) (LM:=[]) 8 ?_ ?_
 ·rcases Bool.eq_false_or_eq_true (decide (0<k)) with hg1|hg1
  ·skip
   refine AD.retell (k:=6) (u:=Value.bool true) rfl (by rw [hg1]) ?_
   have hg1':=hg1
   replace hg1':=of_decide_eq_true hg1'
   refine AD.step (v:=(Value.slice (some ⟨b,0,none⟩) k c)) (AB rfl) (A9 rfl) rfl (AV rfl) (AD.step (v:=(Value.slice (some ⟨b,0,none⟩) k c)) (AB rfl) (A9 rfl) rfl (AV rfl) (AD.step (v:=(vN k)) (AB rfl) (AF rfl Tryz.underlying184) rfl (AV rfl) (AD.step (v:=(vN (k-1))) (AB rfl) (BQ (c:=((k-1:Nat):Int)) rfl rfl (Bv (a:=k) (b:=1) (by omega) (by omega))) rfl (AV rfl) (AD.step (v:=(pP b (k-1))) (AB rfl) (AM (j:=k-1) rfl rfl Tryz.underlying184 Tryz.sizeOf97 rfl (by omega) (by simp)) rfl (AV rfl) ?_))))
   have hx1:bs.getD (k-1) 0<4294967296:=W32.getD hbs (k-1)
   exact AD.step (v:=(vK .u32 (bs.getD (k-1) 0))) (AB rfl) (BO (v:=(vK .u32 (bs.getD (k-1) 0))) rfl (λw' hw=>CA.at0 (hw.oldCA (by simp) (EU hb)) (BD (xs:=bs) (j:=(k-1)) (by omega))) Tryz.isAgg97) rfl (AV rfl) (AD.step (v:=(Value.bool (decide ((bs.getD (k-1) 0)=0)))) (AB rfl) (BR (c:=(decide ((bs.getD (k-1) 0)=0))) rfl rfl (LX (a:=bs.getD (k-1) 0) (b:=0))) rfl (AV rfl) (AK (v:=(Value.bool (decide ((bs.getD (k-1) 0)=0)))) (AX rfl rfl) rfl (AD.nil (AC.mid (sS rfl (sS rfl (sS rfl (sS rfl (sS rfl (sS (by first|rfl|(rw [hg1];rfl)|rw [hg1]) (sS (by first|rfl|(rw [hg1];rfl)|rw [hg1]) (sN)))))))) (List.Sublist.refl _)))))
  ·skip
   refine AD.retell (k:=6) (u:=Value.bool false) rfl (by rw [hg1]) ?_
   have hg1':=hg1
   replace hg1':=of_decide_eq_false hg1'
   refine AD.skip (AH rfl) rfl (AV rfl) (AD.skip (AH rfl) rfl (AV rfl) (AD.skip (AH rfl) rfl (AV rfl) (AD.skip (AH rfl) rfl (AV rfl) (AD.skip (AH rfl) rfl (AV rfl) (AD.skip (AH rfl) rfl (AV rfl) ?_)))))
   exact AD.skip (AH rfl) rfl (AV rfl) (AK (v:=(Value.bool false)) (AR rfl rfl) rfl (AD.nil (AC.mid (sS rfl (sS rfl (sS rfl (sS rfl (sS rfl (sS (by first|rfl|(rw [hg1];rfl)|rw [hg1]) (sS (by first|rfl|(rw [hg1];rfl)|rw [hg1]) (sN)))))))) (List.Sublist.refl _))))
 refine AD.nil (AC.subF (sL [2,0,14] rfl) (AC.then_ ?_))
 refine AE.cond rfl (λhc0=>?_) (λhc0=>?_)
 ·simp only [Bool.and_eq_true,Bool.or_eq_true,Bool.and_eq_false_iff,Bool.or_eq_false_iff,Bool.not_eq_true',Bool.not_eq_false',decide_eq_true_eq,decide_eq_false_iff_not] at hc0
  refine AE.skip (AC.then_ (AE.block (AE.region (AQ rfl (AQ rfl ?_)))))
  refine AK (v:=(vN k)) (AF rfl Tryz.underlying184) rfl (AK (BQ (c:=((k-1:Nat):Int)) rfl rfl (Bv (a:=k) (b:=1) (by omega) (by omega))) rfl (AK (v:=(Value.slice (some ⟨b,0,none⟩) (k-1) c)) (Fh (m:=k-1) rfl rfl Tryz.underlying184 Tryz.sizeOf97 (by omega)) rfl (asg' rfl (AD.nil (AC.subF (sL [2,0] rfl) ?_)))))
  exact AC.in_normal (AC.round1 (k-1) (⟨by omega,by rw [<-QR hc0.1 hc0.2];exact hv⟩) (by omega) (sF rfl) sr)
 ·simp only [Bool.and_eq_true,Bool.or_eq_true,Bool.and_eq_false_iff,Bool.or_eq_false_iff,Bool.not_eq_true',Bool.not_eq_false',decide_eq_true_eq,decide_eq_false_iff_not] at hc0
  have hstop:DY bs k=k:=QF (by omega)
  refine AE.exit (AC.then_exit (AC.round1_exit (AC.in_exit (q2 (AQ rfl ?_)))))
  exact asg' rfl (AD.nil (AC.subF (sL [2,0] rfl) (AC.then_ (AE.ret (AJ rfl (AS (v:=(Value.slice (some ⟨b,0,none⟩) k c)) rfl) (λw hw=>⟨by rw [<-hv,hstop],hw.out⟩))))))
theorem JQ (x y c:Nat) (hx:x<4294967296) (hy:y<4294967296) (hc:c<=1) (w:World)  :Calls Tryz.prog 173 #[(vK .u32 x),(vK .u32 y),(vK .u32 c)] w (Al w (Value.tuple #[(vK .u32 ((x+y+c)%4294967296)),(vK .u32 ((x+y+c)/4294967296))])):=by
 refine Aa (args:=[(vK .u32 x),(vK .u32 y),(vK .u32 c)]) Tryz.func173 rfl rfl (AV rfl) (AE.subF (sL [0,1,2] rfl) (q4 (asg' rfl (asg' rfl (AD.nil ?_)))))
 refine q2 (AQ rfl (AK (A6 (c:=((x:Nat):Int)) rfl Tryz.underlying97 Tryz.underlying40 (BK (by omega))) rfl (AQ rfl (AK (A6 (c:=((y:Nat):Int)) rfl Tryz.underlying97 Tryz.underlying40 (BK (by omega))) rfl (AK (Ac (c:=((x+y:Nat):Int)) rfl rfl (C9 (a:=x) (b:=y) (by omega))) rfl ?_)))))
 refine AQ rfl (AK (A6 (c:=((c:Nat):Int)) rfl Tryz.underlying97 Tryz.underlying40 (BK (by omega))) rfl (AK (Ac (c:=(((x+y)+c:Nat):Int)) rfl rfl (C9 (a:=x+y) (b:=c) (by omega))) rfl (asg' rfl (q3 (sL [6,7,8] rfl) (AQ rfl ?_)))))
 refine AK (A6 (c:=((((x+y)+c)%4294967296:Nat):Int)) rfl Tryz.underlying40 Tryz.underlying97 Du) rfl (asg' rfl (q3 (sL [6,7,8] rfl) (AQ rfl (AK (Cc (s:=32) (c:=((((x+y)+c)/4294967296:Nat):Int)) rfl rfl rfl (by decide) (FA (a:=(x+y)+c) (s:=32))) rfl (AK (A6 (c:=((((x+y)+c)/4294967296:Nat):Int)) rfl Tryz.underlying40 Tryz.underlying97 (CR (by omega))) rfl ?_)))))
 exact asg' rfl (AD.nil (AC.subF (sL [6,7,8] rfl) (AC.then_ (AE.ret (CO rfl (AS (v:=(vK .u32 (((x+y)+c)%4294967296))) rfl) (AS (v:=(vK .u32 (((x+y)+c)/4294967296))) rfl) (λw hw=>⟨rfl,hw.out⟩))))))
theorem Iy (x y c d:Nat) (hx:x<4294967296) (hy:y<4294967296) (hc:c<=1) (hd:d=(x+(4294967296-y)+(4294967296-c))%4294967296) (w:World)  :Calls Tryz.prog 170 #[(vK .u32 x),(vK .u32 y),(vK .u32 c)] w (Al w (Value.tuple #[(vK .u32 d),(vK .u32 (Hu x (y+c)))])):=by
 have hd2:d<4294967296:=by omega
 have hb:=Rn hx hy hc hd
 have hx1:4294967295 ^^^ x<4294967296:=Nat.xor_lt_two_pow (n:=32) (by omega) hx
 have hx2:x ^^^ y<4294967296:=Nat.xor_lt_two_pow (n:=32) hx hy
 have hx3:4294967295 ^^^ (x ^^^ y)<4294967296:=Nat.xor_lt_two_pow (n:=32) (by omega) hx2
 have hx4:(4294967295 ^^^ x) &&& y<4294967296:=Nat.lt_of_le_of_lt Nat.and_le_right hy
 have hx5:(4294967295 ^^^ (x ^^^ y)) &&& d<4294967296:=Nat.lt_of_le_of_lt Nat.and_le_right hd2
 refine Aa (args:=[(vK .u32 x),(vK .u32 y),(vK .u32 c)]) Tryz.func170 rfl rfl (AV rfl) (AE.subF (sL [0,1,2] rfl) (q4 (asg' rfl (asg' rfl (AD.nil ?_)))))
 refine q2 (AQ rfl (AQ rfl (AK (BQ (c:=(((x+(4294967296-y))%4294967296:Nat):Int)) rfl rfl (Ls (by omega))) rfl (AQ rfl (AK (BQ (c:=((d:Nat):Int)) rfl rfl (by rw [Ls (by omega),hd];exact congrArg Int.ofNat (by omega))) rfl ?_)))))
 refine asg' rfl (q3 (sL [0,1,6,7] rfl) (AQ rfl (AK (Rh (c:=((4294967295 ^^^ x:Nat):Int)) rfl (Lx hx)) rfl (AQ rfl (AK (JE (c:=(((4294967295 ^^^ x) &&& y:Nat):Int)) rfl rfl (Lg hx1 hy)) rfl ?_)))))
 refine AQ rfl (AQ rfl (AK (Vk (c:=((x ^^^ y:Nat):Int)) rfl rfl (Lz hx hy)) rfl (AK (Rh (c:=((4294967295 ^^^ (x ^^^ y):Nat):Int)) rfl (Lx hx2)) rfl (AQ rfl (AK (JE (c:=(((4294967295 ^^^ (x ^^^ y)) &&& d:Nat):Int)) rfl rfl (Lg hx3 hd2)) rfl ?_)))))
 refine AK (H7 (c:=(((4294967295 ^^^ x) &&& y ||| (4294967295 ^^^ (x ^^^ y)) &&& d:Nat):Int)) rfl rfl (IY hx4 hx5 rfl)) rfl (AK (Cc (s:=31) (c:=((((4294967295 ^^^ x) &&& y ||| (4294967295 ^^^ (x ^^^ y)) &&& d)/2147483648:Nat):Int)) rfl rfl rfl (by decide) (FA (a:=(4294967295 ^^^ x) &&& y ||| (4294967295 ^^^ (x ^^^ y)) &&& d) (s:=31))) rfl (asg' rfl (AD.nil (AC.subF (sL [0,1,6,7] rfl) (AC.then_ ?_)))))
 exact AE.ret (CO rfl (AS (v:=(vK .u32 d)) rfl) (AS (v:=(vK .u32 (((4294967295 ^^^ x) &&& y ||| (4294967295 ^^^ (x ^^^ y)) &&& d)/2147483648))) rfl) (λw hw=>⟨by rw [<-hb],hw.out⟩))
theorem RV (x y:Nat) (hx:x<18446744073709551616) (hy:y<18446744073709551616) (w:World)  :Calls Tryz.prog 109 #[(vK .u64 x),(vK .u64 y)] w (Al w (Value.tuple #[(vK .u64 (x*y/18446744073709551616)),(vK .u64 (x*y%18446744073709551616))])):=by
 have h1:=I2 (a:=x%4294967296) (b:=y%4294967296) (by omega) (by omega)
 have h2:=I2 (a:=x/4294967296) (b:=y%4294967296) (by omega) (by omega)
 have h3:=I2 (a:=x%4294967296) (b:=y/4294967296) (by omega) (by omega)
 have h4:=I2 (a:=x/4294967296) (b:=y/4294967296) (by omega) (by omega)
 have hh:=Qg x y
 have hh2:x*y/18446744073709551616<18446744073709551616:=Nat.div_lt_of_lt_mul (Nat.mul_lt_mul'' hx hy)
 refine Aa (args:=[(vK .u64 x),(vK .u64 y)]) Tryz.func109 rfl rfl (AV rfl) (AE.subF (sL [0,1] rfl) (q4 (asg' rfl (asg' rfl (AD.nil ?_)))))
 refine q2 (AQ rfl (AK (JE (c:=((x%4294967296:Nat):Int)) rfl rfl (Ho (a:=x) (by omega))) rfl (asg' rfl (q3 (sL [0,1,4,5,6] rfl) (AQ rfl ?_)))))
 refine AK (Cc (s:=32) (c:=((x/4294967296:Nat):Int)) rfl rfl rfl (by decide) (FA (a:=x) (s:=32))) rfl (asg' rfl (q3 (sL [0,1,4,5,6,7] rfl) (AQ rfl (AK (JE (c:=((y%4294967296:Nat):Int)) rfl rfl (Ho (a:=y) (by omega))) rfl (asg' rfl ?_)))))
 refine q3 (sL [0,1,4,5,6,7,8] rfl) (AQ rfl (AK (Cc (s:=32) (c:=((y/4294967296:Nat):Int)) rfl rfl rfl (by decide) (FA (a:=y) (s:=32))) rfl (asg' rfl (q3 (sL [0,1,4,5,6,7,8,9] rfl) (AQ rfl ?_)))))
 refine AQ rfl (AK (DQ (c:=(((x%4294967296)*(y%4294967296):Nat):Int)) rfl rfl (ED (a:=x%4294967296) (b:=y%4294967296) (by omega))) rfl (asg' rfl (q3 (sL [0,1,4,5,6,7,8,9,10] rfl) (AQ rfl (AQ rfl ?_)))))
 refine AK (DQ (c:=(((x/4294967296)*(y%4294967296):Nat):Int)) rfl rfl (ED (a:=x/4294967296) (b:=y%4294967296) (by omega))) rfl (AQ rfl (AK (Cc (s:=32) (c:=((((x%4294967296)*(y%4294967296))/4294967296:Nat):Int)) rfl rfl rfl (by decide) (FA (a:=(x%4294967296)*(y%4294967296)) (s:=32))) rfl (AK (Ac (c:=((((x/4294967296)*(y%4294967296))+(((x%4294967296)*(y%4294967296))/4294967296):Nat):Int)) rfl rfl (C9 (a:=(x/4294967296)*(y%4294967296)) (b:=((x%4294967296)*(y%4294967296))/4294967296) (by omega))) rfl (asg' rfl (q3 (sL [0,1,4,5,6,7,8,9,11] rfl) ?_)))))
 refine AQ rfl (AK (JE (c:=(((((x/4294967296)*(y%4294967296))+(((x%4294967296)*(y%4294967296))/4294967296))%4294967296:Nat):Int)) rfl rfl (Ho (a:=((x/4294967296)*(y%4294967296))+(((x%4294967296)*(y%4294967296))/4294967296)) (by omega))) rfl (asg' rfl (q3 (sL [0,1,4,5,6,7,8,9,11,12] rfl) (AQ rfl (AK (Cc (s:=32) (c:=(((((x/4294967296)*(y%4294967296))+(((x%4294967296)*(y%4294967296))/4294967296))/4294967296:Nat):Int)) rfl rfl rfl (by decide) (FA (a:=((x/4294967296)*(y%4294967296))+(((x%4294967296)*(y%4294967296))/4294967296)) (s:=32))) rfl ?_)))))
 refine asg' rfl (q3 (sL [0,1,4,5,6,7,8,9,11,12,13] rfl) (AQ rfl (AQ rfl (AQ rfl (AK (DQ (c:=(((x%4294967296)*(y/4294967296):Nat):Int)) rfl rfl (ED (a:=x%4294967296) (b:=y/4294967296) (by omega))) rfl ?_)))))
 refine AK (Ac (c:=((((((x/4294967296)*(y%4294967296))+(((x%4294967296)*(y%4294967296))/4294967296))%4294967296)+((x%4294967296)*(y/4294967296)):Nat):Int)) rfl rfl (C9 (a:=(((x/4294967296)*(y%4294967296))+(((x%4294967296)*(y%4294967296))/4294967296))%4294967296) (b:=(x%4294967296)*(y/4294967296)) (by omega))) rfl (asg' rfl (q3 (sL [0,1,4,5,6,7,8,9,11,12,13] rfl) (AQ rfl (AQ rfl (AK (DQ (c:=(((x/4294967296)*(y/4294967296):Nat):Int)) rfl rfl (ED (a:=x/4294967296) (b:=y/4294967296) (by omega))) rfl ?_)))))
 refine AQ rfl (AK (Ac (c:=((((x/4294967296)*(y/4294967296))+((((x/4294967296)*(y%4294967296))+(((x%4294967296)*(y%4294967296))/4294967296))/4294967296):Nat):Int)) rfl rfl (C9 (a:=(x/4294967296)*(y/4294967296)) (b:=(((x/4294967296)*(y%4294967296))+(((x%4294967296)*(y%4294967296))/4294967296))/4294967296) (by omega))) rfl (AQ rfl (AK (Cc (s:=32) (c:=(((((((x/4294967296)*(y%4294967296))+(((x%4294967296)*(y%4294967296))/4294967296))%4294967296)+((x%4294967296)*(y/4294967296)))/4294967296:Nat):Int)) rfl rfl rfl (by decide) (FA (a:=((((x/4294967296)*(y%4294967296))+(((x%4294967296)*(y%4294967296))/4294967296))%4294967296)+((x%4294967296)*(y/4294967296))) (s:=32))) rfl (AK (Ac (c:=((x*y/18446744073709551616:Nat):Int)) rfl rfl (by rw [<-Int.natCast_add,hh];exact BK hh2)) rfl (asg' rfl ?_)))))
 refine q3 (sL [0,1,4,5,6,7,8,9,11,12] rfl) (AQ rfl (AQ rfl (AK (DQ (c:=((x*y%18446744073709551616:Nat):Int)) rfl rfl Rj) rfl (asg' rfl (AD.nil ?_)))))
 exact AC.subF (sL [0,1,4,5,6,7,8,9,11,12] rfl) (AC.then_ (AE.ret (CO rfl (AS (v:=(vK .u64 (x*y/18446744073709551616))) rfl) (AS (v:=(vK .u64 (x*y%18446744073709551616))) rfl) (λw hw=>⟨rfl,hw.out⟩))))
theorem Sv (hi lo y:Nat) (hh:hi<y) (hl:lo<4294967296) (hy:y<4294967296) (w:World)  :Calls Tryz.prog 209 #[(vK .u32 hi),(vK .u32 lo),(vK .u32 y)] w (Al w (Value.tuple #[(vK .u32 ((hi*4294967296+lo)/y)),(vK .u32 ((hi*4294967296+lo)%y))])):=by
 refine Aa (args:=[(vK .u32 hi),(vK .u32 lo),(vK .u32 y)]) Tryz.func209 rfl rfl (AV rfl) (AE.subF (sL [0,1,2] rfl) (q4 (asg' rfl (asg' rfl (AD.nil ?_)))))
 refine q1 (q4 (AQ rfl (AK (Bk (c:=(decide (y≠0))) rfl rfl (Ts (a:=y) (b:=0))) rfl (AQ rfl ?_))))
 refine AD.mid (FM:=[(0,(vK .u32 hi)),(1,(vK .u32 lo)),(2,(vK .u32 y)),(6,(Value.int .u32 (0:Int))),(7,(Value.int .u32 (0:Int))),(9,(vK .u32 y)),(10,(Value.bool (decide (y≠0)))),(11,(Value.bool (decide (y≠0)))),(15,(Value.bool ((decide (y≠0))&&(decide (y<=hi)))))]) (LM:=[]) 4 ?_ ?_
 ·rcases Bool.eq_false_or_eq_true (decide (y≠0)) with hg1|hg1
  ·skip
   refine AD.retell (k:=11) (u:=Value.bool true) rfl (by rw [hg1]) ?_
   have hg1':=hg1
   replace hg1':=of_decide_eq_true hg1'
   exact AD.step (v:=(vK .u32 y)) (AB rfl) (A9 rfl) rfl (AV rfl) (AD.step (v:=(vK .u32 hi)) (AB rfl) (A9 rfl) rfl (AV rfl) (AD.step (v:=(Value.bool (decide (y<=hi)))) (AB rfl) (FH (c:=(decide (y<=hi))) rfl rfl (S_ (a:=y) (b:=hi))) rfl (AV rfl) (AK (v:=(Value.bool (decide (y<=hi)))) (AX rfl rfl) rfl (AD.nil (AC.mid (sS rfl (sS rfl (sS rfl (sS rfl (sS rfl (sS rfl (sS rfl (sS (by first|rfl|(rw [hg1];rfl)|rw [hg1]) (sS (by first|rfl|(rw [hg1];rfl)|rw [hg1]) (sN)))))))))) (List.Sublist.refl _))))))
  ·skip
   refine AD.retell (k:=11) (u:=Value.bool false) rfl (by rw [hg1]) ?_
   have hg1':=hg1
   replace hg1':=of_decide_eq_false hg1'
   exact AD.skip (AH rfl) rfl (AV rfl) (AD.skip (AH rfl) rfl (AV rfl) (AD.skip (AH rfl) rfl (AV rfl) (AK (v:=(Value.bool false)) (AR rfl rfl) rfl (AD.nil (AC.mid (sS rfl (sS rfl (sS rfl (sS rfl (sS rfl (sS rfl (sS rfl (sS (by first|rfl|(rw [hg1];rfl)|rw [hg1]) (sS (by first|rfl|(rw [hg1];rfl)|rw [hg1]) (sN)))))))))) (List.Sublist.refl _))))))
 refine AD.nil (AC.subF (sL [0,1,2,6,7,15] rfl) (AC.then_ ?_))
 refine AE.cond rfl (λhc0=>?_) (λhc0=>?_)
 ·simp only [Bool.and_eq_true,Bool.or_eq_true,Bool.and_eq_false_iff,Bool.or_eq_false_iff,Bool.not_eq_true',Bool.not_eq_false',decide_eq_true_eq,decide_eq_false_iff_not] at hc0
  exfalso;omega
 ·simp only [Bool.and_eq_true,Bool.or_eq_true,Bool.and_eq_false_iff,Bool.or_eq_false_iff,Bool.not_eq_true',Bool.not_eq_false',decide_eq_true_eq,decide_eq_false_iff_not] at hc0
  refine AE.skip (q2 (AQ rfl (AK (A6 (c:=((hi:Nat):Int)) rfl Tryz.underlying97 Tryz.underlying40 (BK (by omega))) rfl (AK (v:=(vK .u64 (hi*4294967296))) (Fa (s:=32) rfl rfl rfl (by decide) (Fo (s:=32) (by omega))) rfl (AQ rfl ?_)))))
  refine AK (A6 (c:=((lo:Nat):Int)) rfl Tryz.underlying97 Tryz.underlying40 (BK (by omega))) rfl (AK (H7 (c:=((hi*4294967296+lo:Nat):Int)) rfl rfl (IM (by omega) (by omega) (by rw [Nat.or_comm,Nat.add_comm];exact Gp (s:=32) (by omega)))) rfl ?_)
  have hq:(hi*4294967296+lo)/y<4294967296:=Nat.div_lt_of_lt_mul (by have h9:(hi+1)*4294967296<=y*4294967296:=Nat.mul_le_mul_right _ hh;omega)
  have hr:(hi*4294967296+lo)%y<y:=Nat.mod_lt _ (by omega)
  refine asg' rfl (q6 (sL [0,2,6,7,8] rfl) (CS [(0,true),(1,true),(2,true),(3,true),(4,true),(5,true),(6,true),(7,true),(8,true),(9,true),(10,true),(11,true)] sr (BT rfl (BT rfl (Ap rfl (A6 (c:=((y:Nat):Int)) rfl Tryz.underlying97 Tryz.underlying40 (BK (by omega))) ?_)))))
  refine Ap rfl (EH (c:=(((hi*4294967296+lo)/y:Nat):Int)) rfl rfl (by omega) (G1 (a:=hi*4294967296+lo) (b:=y) (by omega))) (Ap rfl (A6 (c:=(((hi*4294967296+lo)/y:Nat):Int)) rfl Tryz.underlying40 Tryz.underlying97 (CR (by omega))) (BT rfl (BT rfl (Ap rfl (A6 (c:=((y:Nat):Int)) rfl Tryz.underlying97 Tryz.underlying40 (BK (by omega))) (Ap rfl (Cb (c:=(((hi*4294967296+lo)%y:Nat):Int)) rfl rfl (by omega) (Jm (a:=hi*4294967296+lo) (b:=y))) ?_)))))
  refine Ap rfl (A6 (c:=(((hi*4294967296+lo)%y:Nat):Int)) rfl Tryz.underlying40 Tryz.underlying97 (CR (by omega))) (pS' rfl (pS' rfl (OkE.nil (AC.subF (sL [0,2,6,7] rfl) (AC.then_ ?_)))))
  exact AE.ret (CO rfl (AS (v:=(vK .u32 ((hi*4294967296+lo)/y))) rfl) (AS (v:=(vK .u32 ((hi*4294967296+lo)%y))) rfl) (λw hw=>⟨rfl,hw.out⟩))
theorem Q2 (x:Nat) (hx:x<4294967296) (w:World)  :Calls Tryz.prog 231 #[(vK .u32 x)] w (Al w (vN (bl x))):=by
 refine Aa (args:=[(vK .u32 x)]) Tryz.func231 rfl rfl (AV rfl) (AE.subF (sL [0] rfl) (q4 (asg' rfl (AD.nil (q1 ?_)))))
 refine q4 (AQ rfl (AK (DH (c:=(decide (65536<=x))) rfl rfl (S_ (a:=65536) (b:=x))) rfl (AD.nil (AC.subF (sL [0,2,4] rfl) (AC.then_ ?_)))))
 refine AE.jn2 (tg λ(u:Nat) (n:Nat)=>u<65536/\n<=16/\bl x=bl u+n) (tg λ(u:Nat) (n:Nat)=>[(0,(vK .u32 u)),(2,(vN n))]) (tg λ(u:Nat) (n:Nat)=>[]) ?_ ?_
 ·skip
  refine AE.cond rfl (λhc0=>?_) (λhc0=>?_)
  ·replace hc0:=of_decide_eq_true hc0
   refine q4 (AQ rfl (AK (Cc (s:=16) (c:=((x/65536:Nat):Int)) rfl rfl rfl (by decide) (FA (a:=x) (s:=16))) rfl (asg' rfl (AD.nil (AC.subF (sL [0,2] rfl) ?_)))))
   exact AC.then_ (AE.region (asg' rfl (AD.nil (AC.join2 (x/65536) 16 (⟨by omega,by omega,Mk (k:=16) hc0⟩) (sF rfl) sr))))
  ·replace hc0:=of_decide_eq_false hc0
   exact AE.skip (AC.join2 x 0 (⟨by omega,by omega,rfl⟩) (sF rfl) sr)
 ·intro u n hJ
  obtain ⟨hu,hn,hv⟩:=hJ
  refine q1 (q4 (AQ rfl (AK (DH (c:=(decide (256<=u))) rfl rfl (S_ (a:=256) (b:=u))) rfl (AD.nil (AC.subF (sL [0,2,8] rfl) ?_)))))
  refine AC.then_ ?_
  refine AE.jn2 (tg λ(u2:Nat) (n2:Nat)=>u2<256/\n2<=24/\bl x=bl u2+n2) (tg λ(u2:Nat) (n2:Nat)=>[(0,(vK .u32 u2)),(2,(vN n2))]) (tg λ(u2:Nat) (n2:Nat)=>[]) ?_ ?_
  ·skip
   refine AE.cond rfl (λhc1=>?_) (λhc1=>?_)
   ·replace hc1:=of_decide_eq_true hc1
    refine q4 (AQ rfl (AK (Cc (s:=8) (c:=((u/256:Nat):Int)) rfl rfl rfl (by decide) (FA (a:=u) (s:=8))) rfl (asg' rfl (AD.nil (AC.subF (sL [0,2] rfl) ?_)))))
    refine AC.then_ (AE.region (AQ rfl (AK (Ac (c:=((n+8:Nat):Int)) rfl rfl (Ae (a:=n) (b:=8) (by omega))) rfl (asg' rfl (AD.nil ?_)))))
    exact AC.subF (sL [0,2] rfl) (AC.join2 (u/256) (n+8) (⟨by omega,by omega,by rw [hv,V2 hc1];omega⟩) (sF rfl) sr)
   ·replace hc1:=of_decide_eq_false hc1
    exact AE.skip (AC.join2 u n (⟨by omega,by omega,hv⟩) (sF rfl) sr)
  ·intro u2 n2 hJ
   obtain ⟨hu2,hn2,hv2⟩:=hJ
   refine q2 (AQ rfl (AQ rfl (AK (A6 (c:=((u2:Nat):Int)) rfl Tryz.underlying97 Tryz.underlying5 (La (by omega))) rfl ?_)))
   have hb8:bl u2<=8:=Q_ (k:=8) hu2
   refine AK (v:=(vK .u8 (bl u2))) (Gt (j:=u2) (m:=bl u2) rfl rfl Tryz.underlying9 (Vt (by kernel_rfl) hu2) (by omega)) rfl (AK (A6 (c:=((bl u2:Nat):Int)) rfl Tryz.underlying5 Tryz.underlying3 (Dk (by omega))) rfl (AK (Ac (c:=((bl x:Nat):Int)) rfl rfl (by rw [hv2,Int.add_comm,<-Int.natCast_add];exact Dk (by omega))) rfl (asg' rfl (AD.nil (AC.subF (sL [0,2] rfl) ?_)))))
   exact AC.then_ (AE.ret (AJ rfl (AS (v:=(vN (bl x))) rfl) (λw hw=>⟨rfl,hw.out⟩)))
theorem Ur (x:Nat) (hx:x<4294967296) (w:World)  :Calls Tryz.prog 219 #[(vK .u32 x)] w (Al w (vN (32-bl x))):=by
 have hb:=Q_ (k:=32) hx
 refine Aa (args:=[(vK .u32 x)]) Tryz.func219 rfl rfl (AV rfl) (AE.subF (sL [0] rfl) (q4 (asg' rfl (AD.nil (q2 ?_)))))
 refine AQ rfl (ck' Tryz.call231 (Q2 _ (by omega)) rfl (AK (BQ (c:=((32-(bl x):Nat):Int)) rfl rfl (Bv (a:=32) (b:=bl x) (by omega) (by omega))) rfl (asg' rfl (AD.nil (AC.subF (sL [2] rfl) ?_)))))
 exact AC.then_ (AE.ret (AJ rfl (AS (v:=(vN (32-(bl x)))) rfl) (λw hw=>⟨rfl,hw.out⟩)))
theorem Tk (z:Int) (hz:-9223372036854775808<=z) (hz2:z<9223372036854775808) (w:World)  :Calls Tryz.prog 265 #[(vI z)] w (Al w (vI z.sign)):=by
 refine Aa (args:=[(vI z)]) Tryz.func265 rfl rfl (AV rfl) (AE.subF (sL [0] rfl) (q4 (asg' rfl (AD.nil (q2 ?_)))))
 refine AQ rfl (AK (Fg (c:=(if z<1 then z else 1)) rfl rfl rfl) rfl (AK (Er (c:=z.sign) rfl rfl (Qp z)) rfl (asg' rfl (AD.nil (AC.subF (sL [2] rfl) ?_)))))
 exact AC.then_ (AE.ret (AJ rfl (AS (v:=(vI z.sign)) rfl) (λw hw=>⟨rfl,hw.out⟩)))
end
section
section
variable {P:Program} {n:Nat} {F:List (Nat×Value)} {w0:A_} {L:List As} {x y:Operand} {d:Option Tmp} {t:TypeId} {p:String} {af:Array Edge} {g:Option (Nat×Bool)}
def EK (P:Program) (D:Nat) (T:TypeId) (u v:Value) (b:Bool):Prop:=∀w,(Op.equalIn D T u v).run P w=.ok b w
def GO (P:Program) (D:Nat) (xs ys:List Value) (fs:List Field) (b:Bool):Prop:=∀w,(Op.eqFields D xs.toArray ys.toArray fs).run P w=.ok b w
theorem EK.int {D:Nat} {T:TypeId} {k k':IntKind} {a b:Int} (h:P.underlying T=some (.int k')):EK P (D+1) T (.int k a) (.int k b) (a == b):=λw=>run_equalIn_int w D T k k' a b h
theorem EK.bool {D:Nat} {T:TypeId} {a b:Bool} (h:P.underlying T=some .bool):EK P (D+1) T (.bool a) (.bool b) (a == b):=λw=>run_equalIn_bool' w D T a b h
theorem EK.str {D:Nat} {T:TypeId} {a b:ByteArray} (h:P.underlying T=some .string):EK P (D+1) T (.string a) (.string b) (a.toList == b.toList):=λw=>run_equalIn_string w D T a b h
theorem EK.struct {D:Nat} {T:TypeId} {xs ys:List Value} {b:Bool} {fs:Array Field} (hu:P.underlying T=some (.struct fs)) (hp:P.stoodInHeld T=false) (h:GO P D xs ys fs.toList b):EK P (D+1) T (.agg xs.toArray) (.agg ys.toArray) b:=λw=>by
  have e:P.fieldsOf T=fs:=by simp [Program.fieldsOf,hu]
  rw [run_equalIn_struct w D T _ _ (by rw [e];exact hu) hp,e];exact h w
theorem GO.nil {D:Nat} {xs ys:List Value}:GO P D xs ys [] true:=λw=>rfl
theorem GO.one {D : Nat} {xs ys : List Value} {f : Field} {fs : List Field} {a b : Value} {r s : Bool} (hn : f.name ≠ "_") (hg : ∀ w, (isAgg f.type).run P w = .ok false w) (ha : xs[f.offset]? = some a) (hb : ys[f.offset]? = some b)
    (h:EK P D f.type a b r) (h2:GO P D xs ys fs s):GO P D xs ys (f::fs) (r&&s):=λw=>by
  have e1:(part f.type xs.toArray f.offset).run P w=.ok a w:=by simp [part,hg,ha]
  have e2:(part f.type ys.toArray f.offset).run P w=.ok b w:=by simp [part,hg,hb]
  simp only [Op.eqFields,Sem.run_ite,if_pos hn,Sem.run_bind,e1,e2,Result.andThen_ok,h w]
  cases r
  · simp
  · simp [h2 w]
theorem GO.agg {D k : Nat} {xs ys us bs : List Value} {f : Field} {fs : List Field} {r s : Bool} (hn : f.name ≠ "_") (hg : ∀ w, (isAgg f.type).run P w = .ok true w) (hs : ∀ w, (sizeOf f.type).run P w = .ok k w)
    (ha:(xs.drop f.offset).take k=us) (hb:(ys.drop f.offset).take k=bs)
    (h:EK P D f.type (.agg us.toArray) (.agg bs.toArray) r) (h2:GO P D xs ys fs s):GO P D xs ys (f::fs) (r&&s):=λw=>by
  have ex:∀l:List Value,l.toArray.extract f.offset (f.offset+k)=((l.drop f.offset).take k).toArray:=λl=>by simp [List.extract_eq_take_drop]
  have e1:(part f.type xs.toArray f.offset).run P w=.ok (.agg us.toArray) w:=by simp [part,hg,hs,ex,ha]
  have e2:(part f.type ys.toArray f.offset).run P w=.ok (.agg bs.toArray) w:=by simp [part,hg,hs,ex,hb]
  simp only [Op.eqFields,Sem.run_ite,if_pos hn,Sem.run_bind,e1,e2,Result.andThen_ok,h w]
  cases r
  · simp
  · simp [h2 w]
theorem B1 {xs ys:List Value} {c:Bool} {tx ty:TypeId} (hx:evF F x=some (.agg xs.toArray)) (hy:evF F y=some (.agg ys.toArray)) (hg:P.eqGuardType P.depth tx=false) (hc:EK P 10000 tx (.agg xs.toArray) (.agg ys.toArray) c) :
    Ex P n F w0 L ⟨d,.binOp .eql tx x y ty,t,p,af,g⟩ (.bool c):=λA w ha _=>by
  simp only [execOp,ha.ev hx,ha.ev hy,Sem.run_bind,run_eqGuard_agg w .eql tx x y _ _ hg,Result.andThen_ok,run_eql_struct,hc w,Sem.run_pure]
theorem N9 {xs ys:List Value} {c:Bool} {tx ty:TypeId} (hx:evF F x=some (.agg xs.toArray)) (hy:evF F y=some (.agg ys.toArray)) (hg:P.eqGuardType P.depth tx=false) (hc:EK P 10000 tx (.agg xs.toArray) (.agg ys.toArray) c) :
    Ex P n F w0 L ⟨d,.binOp .neq tx x y ty,t,p,af,g⟩ (.bool (!c)):=λA w ha _=>by
  simp only [execOp,ha.ev hx,ha.ev hy,Sem.run_bind,run_eqGuard_agg w .neq tx x y _ _ hg,Result.andThen_ok,run_neq_struct,hc w,Sem.run_pure]
end
theorem RF {a b:Nat} (ha:¬a<18446744073709551616) (hb:¬b<18446744073709551616) (h:Bc a=Bc b):a=b:=by
  rw [EQ ha,EQ hb] at h
  have h1:bytesN (AP a)=bytesN (AP b):=by
    have lt:∀(xs:List Nat),∀x∈bytesN xs,x<256:=λxs x hx=>by
      simp only [bytesN,List.mem_flatMap,List.mem_cons,List.not_mem_nil,or_false] at hx
      obtain ⟨y,_,hy⟩:=hx
      omega
    have inj:∀(l r:List Nat),(∀x∈l,x<256)->(∀x∈r,x<256)->l.map UInt8.ofNat=r.map UInt8.ofNat->l=r:=by
      intro l
      induction l with
      | nil=>intro r _ _ h;cases r<;>simp_all
      | cons x l ih =>
        intro r hl hr h
        cases r with
        | nil=>simp at h
        | cons y r =>
          simp only [List.map_cons,List.cons.injEq] at h
          have e:x=y:=by
            have h3:=congrArg UInt8.toNat h.1
            have h4:=hl x (by simp)
            have h5:=hr y (by simp)
            simp at h3
            omega
          rw [e,ih r (λz hz=>hl z (by simp [hz])) (λz hz=>hr z (by simp [hz])) h.2]
    refine inj _ _ (lt _) (lt _) ?_
    have:=congrArg (λs:ByteArray=>s.data.toList) h
    simpa [Cq] using this
  have h2:AP a=AP b:=by
    have hl:(AP a).length=(AP b).length:=by
      have:=congrArg List.length h1
      simp only [Bt] at this
      omega
    apply List.ext_getElem hl
    intro i hi hi'
    have g:∀k,k<4->(AP a).getD i 0/256^k%256=(AP b).getD i 0/256^k%256:=λk hk=>by rw [<-FP _ _ _ hi hk,<-FP _ _ _ hi' hk,h1]
    have wa:=(Bh a).getD i
    have wb:=(Bh b).getD i
    have ea:(AP a).getD i 0=(AP a)[i]:=by simp [hi]
    have eb:(AP b).getD i 0=(AP b)[i]:=by simp [hi']
    rw [ea,eb] at g
    rw [ea] at wa
    rw [eb] at wb
    have g0:=g 0 (by omega)
    have g1:=g 1 (by omega)
    have g2:=g 2 (by omega)
    have g3:=g 3 (by omega)
    simp only [Nat.pow_zero,Nat.div_one,Nat.pow_one,show (256:Nat)^2=65536 from rfl,show (256:Nat)^3=16777216 from rfl] at g0 g1 g2 g3
    omega
  rw [<-CF a,<-CF b,h2]
theorem UM (a b:Nat):((((Bs a:Nat):Int) == ((Bs b:Nat):Int))&&(((Bc a).toList == (Bc b).toList)&&true))=decide (a=b):=by
  by_cases e:a=b
  · subst e;simp
  · rw [decide_eq_false e]
    by_cases ha:a<18446744073709551616
    · by_cases hb:b<18446744073709551616
      · rw [BY ha,BY hb]
        have:((a:Int) == (b:Int))=false:=by simp;omega
        rw [this];rfl
      · have h1:=N6 hb
        rw [Gl ha,<-beq_toListBytes]
        have:(ByteArray.empty == Bc b)=false:=by
          rw [beq_toListBytes,ByteArray.toList_eq,ByteArray.toList_eq,EQ hb]
          cases hl:(Cq (bytesN (AP b))).data.toList with
          | nil =>
            have h3:=congrArg List.length hl
            simp [Cq,Bt] at h3
            unfold nw at h1
            omega
          | cons=>rfl
        rw [this];simp
    · by_cases hb:b<18446744073709551616
      · have h1:=N6 ha
        rw [Gl hb,<-beq_toListBytes]
        have:(Bc a == ByteArray.empty)=false:=by
          rw [beq_toListBytes,ByteArray.toList_eq,ByteArray.toList_eq,EQ ha]
          cases hl:(Cq (bytesN (AP a))).data.toList with
          | nil =>
            have h3:=congrArg List.length hl
            simp [Cq,Bt] at h3
            unfold nw at h1
            omega
          | cons=>rfl
        rw [this];simp
      · rw [<-beq_toListBytes]
        have:(Bc a == Bc b)=false:=by
          cases hbb:Bc a == Bc b with
          | false=>rfl
          | true =>
            rw [beq_toListBytes] at hbb
            have h2:(Bc a).toList=(Bc b).toList:=by simpa using hbb
            rw [ByteArray.toList_eq,ByteArray.toList_eq] at h2
            have h3:Bc a=Bc b:=by
              cases hA:Bc a with|mk da=>cases hB:Bc b with|mk db =>
                rw [hA,hB] at h2
                congr 1
                exact Array.toList_inj.1 h2
            exact absurd (RF ha hb h3) e
        rw [this];simp
theorem GH (D a b:Nat):EK Tryz.prog (D+2) 42 (.agg (AY a).toArray) (.agg (AY b).toArray) (decide (a=b)):=by
  rw [<-UM]
  exact EK.struct Tryz.underlying42 Tryz.stoodInHeld42 (GO.one (by decide) Tryz.isAgg40 rfl rfl (EK.int Tryz.underlying40) (GO.one (by decide) Tryz.isAgg9 rfl rfl (EK.str Tryz.underlying9) GO.nil))
end
end Go.Proofs.YtpgncndhhhllfaaGreatDoor
