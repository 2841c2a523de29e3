import Derived.Laws.StructEq
import Derived.Test.YtpgncndhhhllfaaGreatDoorPart03
import Derived.Test.YtpgncndhhhllfaaGreatDoorPart06
import Derived.Test.YtpgncndhhhllfaaGreatDoorPart09
namespace Go.Proofs.YtpgncndhhhllfaaGreatDoor
open Go Go.RowKit Go.Proofs.Tryz
set_option linter.unusedVariables false
set_option linter.unusedSimpArgs false
section
set_option maxRecDepth 100000
theorem Te (b m c:Nat) (bs:List Nat) (hbs:W32 bs) (hm:m<=bs.length) (hc:m<=c) (hL:c<4611686018427387904) (w:World) (hb:w.heap[b]?=some (.cells (Aj bs).toArray 97 (0,0))):Calls Tryz.prog 161 #[(Value.slice (some ⟨b,0,none⟩) m c)] w (An w (Value.slice (some ⟨b,0,none⟩) (DI bs m) c)):=by
 refine Ag (args:=[(Value.slice (some ⟨b,0,none⟩) m c)]) Tryz.func161 rfl rfl (AY rfl) (AF.subF (sL [0] rfl) (q4 (asg' rfl (AD.nil (q1 ?_)))))
 refine AF.block ?_
 refine AF.lp1 (tg λ(k:Nat)=>k<=m/\DI bs k=DI bs m) (tg λ(k:Nat)=>[(2,(Value.slice none 0 0)),(0,(Value.slice (some ⟨b,0,none⟩) k c))]) (tg λ(k:Nat)=>[]) (tg λ(k:Nat)=>k) m (⟨Nat.le_refl _,rfl⟩) (sF rfl) sr (λk hJ=>?_)
 obtain ⟨hk,hv⟩:=hJ
 refine AF.seq (q4 (AJ rfl (AH (v:=(vN k)) (AE rfl Tryz.underlying184) rfl (AH (Bg (c:=(decide (0<k))) rfl rfl (CB (a:=0) (b:=k))) rfl (AJ rfl ?_)))))
 refine AD.mid (FM:=[(2,(Value.slice none 0 0)),(0,(Value.slice (some ⟨b,0,none⟩) k c)),(3,(Value.slice (some ⟨b,0,none⟩) k c)),(4,(vN k)),(5,(Value.bool (decide (0<k)))),(6,(Value.bool (decide (0<k)))),(14,(Value.bool ((decide (0<k))&&(decide ((bs.getD (k-1) 0)=0)))))]) (LM:=[]) 8 ?_ ?_
 ·rcases Bool.eq_false_or_eq_true (decide (0<k)) with hg1|hg1
  ·skip
   refine AD.retell (k:=6) (u:=Value.bool true) rfl (by rw [hg1]) ?_
   have hg1':=hg1
   replace hg1':=of_decide_eq_true hg1'
   refine AD.step (v:=(Value.slice (some ⟨b,0,none⟩) k c)) (AB rfl) (Ai rfl) rfl (AY rfl) (AD.step (v:=(Value.slice (some ⟨b,0,none⟩) k c)) (AB rfl) (Ai rfl) rfl (AY rfl) (AD.step (v:=(vN k)) (AB rfl) (AE rfl Tryz.underlying184) rfl (AY rfl) (AD.step (v:=(vN (k-1))) (AB rfl) (BL (c:=((k-1:Nat):Int)) rfl rfl (Bj (a:=k) (b:=1) (by omega) (by omega))) rfl (AY rfl) (AD.step (v:=(pP b (k-1))) (AB rfl) (AK (j:=k-1) rfl rfl Tryz.underlying184 Tryz.sizeOf97 rfl (by omega) (by simp)) rfl (AY rfl) ?_))))
   have hx1:bs.getD (k-1) 0<4294967296:=W32.getD hbs (k-1)
   exact AD.step (v:=(vK .u32 (bs.getD (k-1) 0))) (AB rfl) (BO (v:=(vK .u32 (bs.getD (k-1) 0))) rfl (λw' hw=>CA.at0 (hw.oldCA (by simp) (EO hb)) (BA (xs:=bs) (j:=(k-1)) (by omega))) Tryz.isAgg97) rfl (AY rfl) (AD.step (v:=(Value.bool (decide ((bs.getD (k-1) 0)=0)))) (AB rfl) (BJ (c:=(decide ((bs.getD (k-1) 0)=0))) rfl rfl (RG (a:=bs.getD (k-1) 0) (b:=0))) rfl (AY rfl) (AH (v:=(Value.bool (decide ((bs.getD (k-1) 0)=0)))) (AT rfl rfl) rfl (AD.nil (AC.mid (sS rfl (sS rfl (sS rfl (sS rfl (sS rfl (sS (by first|rfl|(rw [hg1];rfl)|rw [hg1]) (sS (by first|rfl|(rw [hg1];rfl)|rw [hg1]) (sN)))))))) (List.Sublist.refl _)))))
  ·skip
   refine AD.retell (k:=6) (u:=Value.bool false) rfl (by rw [hg1]) ?_
   have hg1':=hg1
   replace hg1':=of_decide_eq_false hg1'
   refine AD.skip (AG rfl) rfl (AY rfl) (AD.skip (AG rfl) rfl (AY rfl) (AD.skip (AG rfl) rfl (AY rfl) (AD.skip (AG rfl) rfl (AY rfl) (AD.skip (AG rfl) rfl (AY rfl) (AD.skip (AG rfl) rfl (AY rfl) ?_)))))
   exact AD.skip (AG rfl) rfl (AY rfl) (AH (v:=(Value.bool false)) (AV rfl rfl) rfl (AD.nil (AC.mid (sS rfl (sS rfl (sS rfl (sS rfl (sS rfl (sS (by first|rfl|(rw [hg1];rfl)|rw [hg1]) (sS (by first|rfl|(rw [hg1];rfl)|rw [hg1]) (sN)))))))) (List.Sublist.refl _))))
 refine AD.nil (AC.subF (sL [2,0,14] rfl) (AC.then_ ?_))
 refine AF.cond rfl (λhc0=>?_) (λhc0=>?_)
 ·simp only [Bool.and_eq_true,Bool.or_eq_true,Bool.and_eq_false_iff,Bool.or_eq_false_iff,Bool.not_eq_true',Bool.not_eq_false',decide_eq_true_eq,decide_eq_false_iff_not] at hc0
  refine AF.skip (AC.then_ (AF.block (AF.region (AJ rfl (AJ rfl ?_)))))
  refine AH (v:=(vN k)) (AE rfl Tryz.underlying184) rfl (AH (BL (c:=((k-1:Nat):Int)) rfl rfl (Bj (a:=k) (b:=1) (by omega) (by omega))) rfl (AH (v:=(Value.slice (some ⟨b,0,none⟩) (k-1) c)) (Do (m:=k-1) rfl rfl Tryz.underlying184 Tryz.sizeOf97 (by omega)) rfl (asg' rfl (AD.nil (AC.subF (sL [2,0] rfl) ?_)))))
  exact AC.in_normal (AC.round1 (k-1) (⟨by omega,by rw [<-QN hc0.1 hc0.2];exact hv⟩) (by omega) (sF rfl) sr)
 ·simp only [Bool.and_eq_true,Bool.or_eq_true,Bool.and_eq_false_iff,Bool.or_eq_false_iff,Bool.not_eq_true',Bool.not_eq_false',decide_eq_true_eq,decide_eq_false_iff_not] at hc0
  have hstop:DI bs k=k:=P9 (by omega)
  refine AF.exit (AC.then_exit (AC.round1_exit (AC.in_exit (q2 (AJ rfl ?_)))))
  exact asg' rfl (AD.nil (AC.subF (sL [2,0] rfl) (AC.then_ (AF.ret (AN rfl (AQ (v:=(Value.slice (some ⟨b,0,none⟩) k c)) rfl) (λw hw=>⟨by rw [<-hv,hstop],hw.out⟩))))))
theorem Jt (x y c:Nat) (hx:x<4294967296) (hy:y<4294967296) (hc:c<=1) (w:World)  :Calls Tryz.prog 173 #[(vK .u32 x),(vK .u32 y),(vK .u32 c)] w (An w (Value.tuple #[(vK .u32 ((x+y+c)%4294967296)),(vK .u32 ((x+y+c)/4294967296))])):=by
 refine Ag (args:=[(vK .u32 x),(vK .u32 y),(vK .u32 c)]) Tryz.func173 rfl rfl (AY rfl) (AF.subF (sL [0,1,2] rfl) (q4 (asg' rfl (asg' rfl (AD.nil ?_)))))
 refine q2 (AJ rfl (AH (Au (c:=((x:Nat):Int)) rfl Tryz.underlying97 Tryz.underlying40 (BH (by omega))) rfl (AJ rfl (AH (Au (c:=((y:Nat):Int)) rfl Tryz.underlying97 Tryz.underlying40 (BH (by omega))) rfl (AH (AW (c:=((x+y:Nat):Int)) rfl rfl (C5 (a:=x) (b:=y) (by omega))) rfl ?_)))))
 refine AJ rfl (AH (Au (c:=((c:Nat):Int)) rfl Tryz.underlying97 Tryz.underlying40 (BH (by omega))) rfl (AH (AW (c:=(((x+y)+c:Nat):Int)) rfl rfl (C5 (a:=x+y) (b:=c) (by omega))) rfl (asg' rfl (q3 (sL [6,7,8] rfl) (AJ rfl ?_)))))
 refine AH (Au (c:=((((x+y)+c)%4294967296:Nat):Int)) rfl Tryz.underlying40 Tryz.underlying97 Dn) rfl (asg' rfl (q3 (sL [6,7,8] rfl) (AJ rfl (AH (CZ (s:=32) (c:=((((x+y)+c)/4294967296:Nat):Int)) rfl rfl rfl (by decide) (Fa (a:=(x+y)+c) (s:=32))) rfl (AH (Au (c:=((((x+y)+c)/4294967296:Nat):Int)) rfl Tryz.underlying40 Tryz.underlying97 (CQ (by omega))) rfl ?_)))))
 exact asg' rfl (AD.nil (AC.subF (sL [6,7,8] rfl) (AC.then_ (AF.ret (Br rfl (AQ (v:=(vK .u32 (((x+y)+c)%4294967296))) rfl) (AQ (v:=(vK .u32 (((x+y)+c)/4294967296))) rfl) (λw hw=>⟨rfl,hw.out⟩))))))
theorem I4 (x y c d:Nat) (hx:x<4294967296) (hy:y<4294967296) (hc:c<=1) (hd:d=(x+(4294967296-y)+(4294967296-c))%4294967296) (w:World)  :Calls Tryz.prog 170 #[(vK .u32 x),(vK .u32 y),(vK .u32 c)] w (An w (Value.tuple #[(vK .u32 d),(vK .u32 (H1 x (y+c)))])):=by
 have hd2:d<4294967296:=by omega
 have hb:=TJ hx hy hc hd
 have hx1:4294967295 ^^^ x<4294967296:=Nat.xor_lt_two_pow (n:=32) (by omega) hx
 have hx2:x ^^^ y<4294967296:=Nat.xor_lt_two_pow (n:=32) hx hy
 have hx3:4294967295 ^^^ (x ^^^ y)<4294967296:=Nat.xor_lt_two_pow (n:=32) (by omega) hx2
 have hx4:(4294967295 ^^^ x) &&& y<4294967296:=Nat.lt_of_le_of_lt Nat.and_le_right hy
 have hx5:(4294967295 ^^^ (x ^^^ y)) &&& d<4294967296:=Nat.lt_of_le_of_lt Nat.and_le_right hd2
 refine Ag (args:=[(vK .u32 x),(vK .u32 y),(vK .u32 c)]) Tryz.func170 rfl rfl (AY rfl) (AF.subF (sL [0,1,2] rfl) (q4 (asg' rfl (asg' rfl (AD.nil ?_)))))
 refine q2 (AJ rfl (AJ rfl (AH (BL (c:=(((x+(4294967296-y))%4294967296:Nat):Int)) rfl rfl (NP (by omega))) rfl (AJ rfl (AH (BL (c:=((d:Nat):Int)) rfl rfl (by rw [NP (by omega),hd];exact congrArg Int.ofNat (by omega))) rfl ?_)))))
 refine asg' rfl (q3 (sL [0,1,6,7] rfl) (AJ rfl (AH (S9 (c:=((4294967295 ^^^ x:Nat):Int)) rfl (MS hx)) rfl (AJ rfl (AH (I9 (c:=(((4294967295 ^^^ x) &&& y:Nat):Int)) rfl rfl (Me hx1 hy)) rfl ?_)))))
 refine AJ rfl (AJ rfl (AH (Wf (c:=((x ^^^ y:Nat):Int)) rfl rfl (NO hx hy)) rfl (AH (S9 (c:=((4294967295 ^^^ (x ^^^ y):Nat):Int)) rfl (MS hx2)) rfl (AJ rfl (AH (I9 (c:=(((4294967295 ^^^ (x ^^^ y)) &&& d:Nat):Int)) rfl rfl (Me hx3 hd2)) rfl ?_)))))
 refine AH (IA (c:=(((4294967295 ^^^ x) &&& y ||| (4294967295 ^^^ (x ^^^ y)) &&& d:Nat):Int)) rfl rfl (Ii hx4 hx5 rfl)) rfl (AH (CZ (s:=31) (c:=((((4294967295 ^^^ x) &&& y ||| (4294967295 ^^^ (x ^^^ y)) &&& d)/2147483648:Nat):Int)) rfl rfl rfl (by decide) (Fa (a:=(4294967295 ^^^ x) &&& y ||| (4294967295 ^^^ (x ^^^ y)) &&& d) (s:=31))) rfl (asg' rfl (AD.nil (AC.subF (sL [0,1,6,7] rfl) (AC.then_ ?_)))))
 exact AF.ret (Br rfl (AQ (v:=(vK .u32 d)) rfl) (AQ (v:=(vK .u32 (((4294967295 ^^^ x) &&& y ||| (4294967295 ^^^ (x ^^^ y)) &&& d)/2147483648))) rfl) (λw hw=>⟨by rw [<-hb],hw.out⟩))
theorem S3 (x y:Nat) (hx:x<18446744073709551616) (hy:y<18446744073709551616) (w:World)  :Calls Tryz.prog 109 #[(vK .u64 x),(vK .u64 y)] w (An w (Value.tuple #[(vK .u64 (x*y/18446744073709551616)),(vK .u64 (x*y%18446744073709551616))])):=by
 have h1:=JO (a:=x%4294967296) (b:=y%4294967296) (by omega) (by omega)
 have h2:=JO (a:=x/4294967296) (b:=y%4294967296) (by omega) (by omega)
 have h3:=JO (a:=x%4294967296) (b:=y/4294967296) (by omega) (by omega)
 have h4:=JO (a:=x/4294967296) (b:=y/4294967296) (by omega) (by omega)
 have hh:=Sh x y
 have hh2:x*y/18446744073709551616<18446744073709551616:=Nat.div_lt_of_lt_mul (Nat.mul_lt_mul'' hx hy)
 refine Ag (args:=[(vK .u64 x),(vK .u64 y)]) Tryz.func109 rfl rfl (AY rfl) (AF.subF (sL [0,1] rfl) (q4 (asg' rfl (asg' rfl (AD.nil ?_)))))
 refine q2 (AJ rfl (AH (I9 (c:=((x%4294967296:Nat):Int)) rfl rfl (Hk (a:=x) (by omega))) rfl (asg' rfl (q3 (sL [0,1,4,5,6] rfl) (AJ rfl ?_)))))
 refine AH (CZ (s:=32) (c:=((x/4294967296:Nat):Int)) rfl rfl rfl (by decide) (Fa (a:=x) (s:=32))) rfl (asg' rfl (q3 (sL [0,1,4,5,6,7] rfl) (AJ rfl (AH (I9 (c:=((y%4294967296:Nat):Int)) rfl rfl (Hk (a:=y) (by omega))) rfl (asg' rfl ?_)))))
 refine q3 (sL [0,1,4,5,6,7,8] rfl) (AJ rfl (AH (CZ (s:=32) (c:=((y/4294967296:Nat):Int)) rfl rfl rfl (by decide) (Fa (a:=y) (s:=32))) rfl (asg' rfl (q3 (sL [0,1,4,5,6,7,8,9] rfl) (AJ rfl ?_)))))
 refine AJ rfl (AH (DH (c:=(((x%4294967296)*(y%4294967296):Nat):Int)) rfl rfl (EJ (a:=x%4294967296) (b:=y%4294967296) (by omega))) rfl (asg' rfl (q3 (sL [0,1,4,5,6,7,8,9,10] rfl) (AJ rfl (AJ rfl ?_)))))
 refine AH (DH (c:=(((x/4294967296)*(y%4294967296):Nat):Int)) rfl rfl (EJ (a:=x/4294967296) (b:=y%4294967296) (by omega))) rfl (AJ rfl (AH (CZ (s:=32) (c:=((((x%4294967296)*(y%4294967296))/4294967296:Nat):Int)) rfl rfl rfl (by decide) (Fa (a:=(x%4294967296)*(y%4294967296)) (s:=32))) rfl (AH (AW (c:=((((x/4294967296)*(y%4294967296))+(((x%4294967296)*(y%4294967296))/4294967296):Nat):Int)) rfl rfl (C5 (a:=(x/4294967296)*(y%4294967296)) (b:=((x%4294967296)*(y%4294967296))/4294967296) (by omega))) rfl (asg' rfl (q3 (sL [0,1,4,5,6,7,8,9,11] rfl) ?_)))))
 refine AJ rfl (AH (I9 (c:=(((((x/4294967296)*(y%4294967296))+(((x%4294967296)*(y%4294967296))/4294967296))%4294967296:Nat):Int)) rfl rfl (Hk (a:=((x/4294967296)*(y%4294967296))+(((x%4294967296)*(y%4294967296))/4294967296)) (by omega))) rfl (asg' rfl (q3 (sL [0,1,4,5,6,7,8,9,11,12] rfl) (AJ rfl (AH (CZ (s:=32) (c:=(((((x/4294967296)*(y%4294967296))+(((x%4294967296)*(y%4294967296))/4294967296))/4294967296:Nat):Int)) rfl rfl rfl (by decide) (Fa (a:=((x/4294967296)*(y%4294967296))+(((x%4294967296)*(y%4294967296))/4294967296)) (s:=32))) rfl ?_)))))
 refine asg' rfl (q3 (sL [0,1,4,5,6,7,8,9,11,12,13] rfl) (AJ rfl (AJ rfl (AJ rfl (AH (DH (c:=(((x%4294967296)*(y/4294967296):Nat):Int)) rfl rfl (EJ (a:=x%4294967296) (b:=y/4294967296) (by omega))) rfl ?_)))))
 refine AH (AW (c:=((((((x/4294967296)*(y%4294967296))+(((x%4294967296)*(y%4294967296))/4294967296))%4294967296)+((x%4294967296)*(y/4294967296)):Nat):Int)) rfl rfl (C5 (a:=(((x/4294967296)*(y%4294967296))+(((x%4294967296)*(y%4294967296))/4294967296))%4294967296) (b:=(x%4294967296)*(y/4294967296)) (by omega))) rfl (asg' rfl (q3 (sL [0,1,4,5,6,7,8,9,11,12,13] rfl) (AJ rfl (AJ rfl (AH (DH (c:=(((x/4294967296)*(y/4294967296):Nat):Int)) rfl rfl (EJ (a:=x/4294967296) (b:=y/4294967296) (by omega))) rfl ?_)))))
 refine AJ rfl (AH (AW (c:=((((x/4294967296)*(y/4294967296))+((((x/4294967296)*(y%4294967296))+(((x%4294967296)*(y%4294967296))/4294967296))/4294967296):Nat):Int)) rfl rfl (C5 (a:=(x/4294967296)*(y/4294967296)) (b:=(((x/4294967296)*(y%4294967296))+(((x%4294967296)*(y%4294967296))/4294967296))/4294967296) (by omega))) rfl (AJ rfl (AH (CZ (s:=32) (c:=(((((((x/4294967296)*(y%4294967296))+(((x%4294967296)*(y%4294967296))/4294967296))%4294967296)+((x%4294967296)*(y/4294967296)))/4294967296:Nat):Int)) rfl rfl rfl (by decide) (Fa (a:=((((x/4294967296)*(y%4294967296))+(((x%4294967296)*(y%4294967296))/4294967296))%4294967296)+((x%4294967296)*(y/4294967296))) (s:=32))) rfl (AH (AW (c:=((x*y/18446744073709551616:Nat):Int)) rfl rfl (by rw [<-Int.natCast_add,hh];exact BH hh2)) rfl (asg' rfl ?_)))))
 refine q3 (sL [0,1,4,5,6,7,8,9,11,12] rfl) (AJ rfl (AJ rfl (AH (DH (c:=((x*y%18446744073709551616:Nat):Int)) rfl rfl Sb) rfl (asg' rfl (AD.nil ?_)))))
 exact AC.subF (sL [0,1,4,5,6,7,8,9,11,12] rfl) (AC.then_ (AF.ret (Br rfl (AQ (v:=(vK .u64 (x*y/18446744073709551616))) rfl) (AQ (v:=(vK .u64 (x*y%18446744073709551616))) rfl) (λw hw=>⟨rfl,hw.out⟩))))
theorem Tv (hi lo y:Nat) (hh:hi<y) (hl:lo<4294967296) (hy:y<4294967296) (w:World)  :Calls Tryz.prog 209 #[(vK .u32 hi),(vK .u32 lo),(vK .u32 y)] w (An w (Value.tuple #[(vK .u32 ((hi*4294967296+lo)/y)),(vK .u32 ((hi*4294967296+lo)%y))])):=by
 refine Ag (args:=[(vK .u32 hi),(vK .u32 lo),(vK .u32 y)]) Tryz.func209 rfl rfl (AY rfl) (AF.subF (sL [0,1,2] rfl) (q4 (asg' rfl (asg' rfl (AD.nil ?_)))))
 refine q1 (q4 (AJ rfl (AH (B7 (c:=(decide (y≠0))) rfl rfl (VQ (a:=y) (b:=0))) rfl (AJ rfl ?_))))
 refine AD.mid (FM:=[(0,(vK .u32 hi)),(1,(vK .u32 lo)),(2,(vK .u32 y)),(6,(Value.int .u32 (0:Int))),(7,(Value.int .u32 (0:Int))),(9,(vK .u32 y)),(10,(Value.bool (decide (y≠0)))),(11,(Value.bool (decide (y≠0)))),(15,(Value.bool ((decide (y≠0))&&(decide (y<=hi)))))]) (LM:=[]) 4 ?_ ?_
 ·rcases Bool.eq_false_or_eq_true (decide (y≠0)) with hg1|hg1
  ·skip
   refine AD.retell (k:=11) (u:=Value.bool true) rfl (by rw [hg1]) ?_
   have hg1':=hg1
   replace hg1':=of_decide_eq_true hg1'
   exact AD.step (v:=(vK .u32 y)) (AB rfl) (Ai rfl) rfl (AY rfl) (AD.step (v:=(vK .u32 hi)) (AB rfl) (Ai rfl) rfl (AY rfl) (AD.step (v:=(Value.bool (decide (y<=hi)))) (AB rfl) (FU (c:=(decide (y<=hi))) rfl rfl (S7 (a:=y) (b:=hi))) rfl (AY rfl) (AH (v:=(Value.bool (decide (y<=hi)))) (AT rfl rfl) rfl (AD.nil (AC.mid (sS rfl (sS rfl (sS rfl (sS rfl (sS rfl (sS rfl (sS rfl (sS (by first|rfl|(rw [hg1];rfl)|rw [hg1]) (sS (by first|rfl|(rw [hg1];rfl)|rw [hg1]) (sN)))))))))) (List.Sublist.refl _))))))
  ·skip
   refine AD.retell (k:=11) (u:=Value.bool false) rfl (by rw [hg1]) ?_
   have hg1':=hg1
   replace hg1':=of_decide_eq_false hg1'
   exact AD.skip (AG rfl) rfl (AY rfl) (AD.skip (AG rfl) rfl (AY rfl) (AD.skip (AG rfl) rfl (AY rfl) (AH (v:=(Value.bool false)) (AV rfl rfl) rfl (AD.nil (AC.mid (sS rfl (sS rfl (sS rfl (sS rfl (sS rfl (sS rfl (sS rfl (sS (by first|rfl|(rw [hg1];rfl)|rw [hg1]) (sS (by first|rfl|(rw [hg1];rfl)|rw [hg1]) (sN)))))))))) (List.Sublist.refl _))))))
 refine AD.nil (AC.subF (sL [0,1,2,6,7,15] rfl) (AC.then_ ?_))
 refine AF.cond rfl (λhc0=>?_) (λhc0=>?_)
 ·simp only [Bool.and_eq_true,Bool.or_eq_true,Bool.and_eq_false_iff,Bool.or_eq_false_iff,Bool.not_eq_true',Bool.not_eq_false',decide_eq_true_eq,decide_eq_false_iff_not] at hc0
  exfalso;omega
 ·simp only [Bool.and_eq_true,Bool.or_eq_true,Bool.and_eq_false_iff,Bool.or_eq_false_iff,Bool.not_eq_true',Bool.not_eq_false',decide_eq_true_eq,decide_eq_false_iff_not] at hc0
  refine AF.skip (q2 (AJ rfl (AH (Au (c:=((hi:Nat):Int)) rfl Tryz.underlying97 Tryz.underlying40 (BH (by omega))) rfl (AH (v:=(vK .u64 (hi*4294967296))) (Ft (s:=32) rfl rfl rfl (by decide) (F7 (s:=32) (by omega))) rfl (AJ rfl ?_)))))
  refine AH (Au (c:=((lo:Nat):Int)) rfl Tryz.underlying97 Tryz.underlying40 (BH (by omega))) rfl (AH (IA (c:=((hi*4294967296+lo:Nat):Int)) rfl rfl (Id (by omega) (by omega) (by rw [Nat.or_comm,Nat.add_comm];exact Gg (s:=32) (by omega)))) rfl ?_)
  have hq:(hi*4294967296+lo)/y<4294967296:=Nat.div_lt_of_lt_mul (by have h9:(hi+1)*4294967296<=y*4294967296:=Nat.mul_le_mul_right _ hh;omega)
  have hr:(hi*4294967296+lo)%y<y:=Nat.mod_lt _ (by omega)
  refine asg' rfl (q6 (sL [0,2,6,7,8] rfl) (Cw [(0,true),(1,true),(2,true),(3,true),(4,true),(5,true),(6,true),(7,true),(8,true),(9,true),(10,true),(11,true)] sr (BS rfl (BS rfl (Aw rfl (Au (c:=((y:Nat):Int)) rfl Tryz.underlying97 Tryz.underlying40 (BH (by omega))) ?_)))))
  refine Aw rfl (EA (c:=(((hi*4294967296+lo)/y:Nat):Int)) rfl rfl (by omega) (G3 (a:=hi*4294967296+lo) (b:=y) (by omega))) (Aw rfl (Au (c:=(((hi*4294967296+lo)/y:Nat):Int)) rfl Tryz.underlying40 Tryz.underlying97 (CQ (by omega))) (BS rfl (BS rfl (Aw rfl (Au (c:=((y:Nat):Int)) rfl Tryz.underlying97 Tryz.underlying40 (BH (by omega))) (Aw rfl (Cg (c:=(((hi*4294967296+lo)%y:Nat):Int)) rfl rfl (by omega) (K7 (a:=hi*4294967296+lo) (b:=y))) ?_)))))
  refine Aw rfl (Au (c:=(((hi*4294967296+lo)%y:Nat):Int)) rfl Tryz.underlying40 Tryz.underlying97 (CQ (by omega))) (pS' rfl (pS' rfl (OkE.nil (AC.subF (sL [0,2,6,7] rfl) (AC.then_ ?_)))))
  exact AF.ret (Br rfl (AQ (v:=(vK .u32 ((hi*4294967296+lo)/y))) rfl) (AQ (v:=(vK .u32 ((hi*4294967296+lo)%y))) rfl) (λw hw=>⟨rfl,hw.out⟩))
theorem SD (x:Nat) (hx:x<4294967296) (w:World)  :Calls Tryz.prog 231 #[(vK .u32 x)] w (An w (vN (bl x))):=by
 refine Ag (args:=[(vK .u32 x)]) Tryz.func231 rfl rfl (AY rfl) (AF.subF (sL [0] rfl) (q4 (asg' rfl (AD.nil (q1 ?_)))))
 refine q4 (AJ rfl (AH (C_ (c:=(decide (65536<=x))) rfl rfl (S7 (a:=65536) (b:=x))) rfl (AD.nil (AC.subF (sL [0,2,4] rfl) (AC.then_ ?_)))))
 refine AF.jn2 (tg λ(u:Nat) (n:Nat)=>u<65536/\n<=16/\bl x=bl u+n) (tg λ(u:Nat) (n:Nat)=>[(0,(vK .u32 u)),(2,(vN n))]) (tg λ(u:Nat) (n:Nat)=>[]) ?_ ?_
 ·skip
  refine AF.cond rfl (λhc0=>?_) (λhc0=>?_)
  ·replace hc0:=of_decide_eq_true hc0
   refine q4 (AJ rfl (AH (CZ (s:=16) (c:=((x/65536:Nat):Int)) rfl rfl rfl (by decide) (Fa (a:=x) (s:=16))) rfl (asg' rfl (AD.nil (AC.subF (sL [0,2] rfl) ?_)))))
   exact AC.then_ (AF.region (asg' rfl (AD.nil (AC.join2 (x/65536) 16 (⟨by omega,by omega,NA (k:=16) hc0⟩) (sF rfl) sr))))
  ·replace hc0:=of_decide_eq_false hc0
   exact AF.skip (AC.join2 x 0 (⟨by omega,by omega,rfl⟩) (sF rfl) sr)
 ·intro u n hJ
  obtain ⟨hu,hn,hv⟩:=hJ
  refine q1 (q4 (AJ rfl (AH (C_ (c:=(decide (256<=u))) rfl rfl (S7 (a:=256) (b:=u))) rfl (AD.nil (AC.subF (sL [0,2,8] rfl) ?_)))))
  refine AC.then_ ?_
  refine AF.jn2 (tg λ(u2:Nat) (n2:Nat)=>u2<256/\n2<=24/\bl x=bl u2+n2) (tg λ(u2:Nat) (n2:Nat)=>[(0,(vK .u32 u2)),(2,(vN n2))]) (tg λ(u2:Nat) (n2:Nat)=>[]) ?_ ?_
  ·skip
   refine AF.cond rfl (λhc1=>?_) (λhc1=>?_)
   ·replace hc1:=of_decide_eq_true hc1
    refine q4 (AJ rfl (AH (CZ (s:=8) (c:=((u/256:Nat):Int)) rfl rfl rfl (by decide) (Fa (a:=u) (s:=8))) rfl (asg' rfl (AD.nil (AC.subF (sL [0,2] rfl) ?_)))))
    refine AC.then_ (AF.region (AJ rfl (AH (AW (c:=((n+8:Nat):Int)) rfl rfl (AR (a:=n) (b:=8) (by omega))) rfl (asg' rfl (AD.nil ?_)))))
    exact AC.subF (sL [0,2] rfl) (AC.join2 (u/256) (n+8) (⟨by omega,by omega,by rw [hv,Vz hc1];omega⟩) (sF rfl) sr)
   ·replace hc1:=of_decide_eq_false hc1
    exact AF.skip (AC.join2 u n (⟨by omega,by omega,hv⟩) (sF rfl) sr)
  ·intro u2 n2 hJ
   obtain ⟨hu2,hn2,hv2⟩:=hJ
   refine q2 (AJ rfl (AJ rfl (AH (Au (c:=((u2:Nat):Int)) rfl Tryz.underlying97 Tryz.underlying5 (MH (by omega))) rfl ?_)))
   have hb8:bl u2<=8:=SA (k:=8) hu2
   refine AH (v:=(vK .u8 (bl u2))) (G7 (j:=u2) (m:=bl u2) rfl rfl Tryz.underlying9 (WR (by kernel_rfl) hu2) (by omega)) rfl (AH (Au (c:=((bl u2:Nat):Int)) rfl Tryz.underlying5 Tryz.underlying3 (D9 (by omega))) rfl (AH (AW (c:=((bl x:Nat):Int)) rfl rfl (by rw [hv2,Int.add_comm,<-Int.natCast_add];exact D9 (by omega))) rfl (asg' rfl (AD.nil (AC.subF (sL [0,2] rfl) ?_)))))
   exact AC.then_ (AF.ret (AN rfl (AQ (v:=(vN (bl x))) rfl) (λw hw=>⟨rfl,hw.out⟩)))
theorem Ua (x:Nat) (hx:x<4294967296) (w:World)  :Calls Tryz.prog 219 #[(vK .u32 x)] w (An w (vN (32-bl x))):=by
 have hb:=SA (k:=32) hx
 refine Ag (args:=[(vK .u32 x)]) Tryz.func219 rfl rfl (AY rfl) (AF.subF (sL [0] rfl) (q4 (asg' rfl (AD.nil (q2 ?_)))))
 refine AJ rfl (ck' Tryz.call231 (SD _ (by omega)) rfl (AH (BL (c:=((32-(bl x):Nat):Int)) rfl rfl (Bj (a:=32) (b:=bl x) (by omega) (by omega))) rfl (asg' rfl (AD.nil (AC.subF (sL [2] rfl) ?_)))))
 exact AC.then_ (AF.ret (AN rfl (AQ (v:=(vN (32-(bl x)))) rfl) (λw hw=>⟨rfl,hw.out⟩)))
theorem Uf (z:Int) (hz:-9223372036854775808<=z) (hz2:z<9223372036854775808) (w:World)  :Calls Tryz.prog 265 #[(vI z)] w (An w (vI z.sign)):=by
 refine Ag (args:=[(vI z)]) Tryz.func265 rfl rfl (AY rfl) (AF.subF (sL [0] rfl) (q4 (asg' rfl (AD.nil (q2 ?_)))))
 refine AJ rfl (AH (Ek (c:=(if z<1 then z else 1)) rfl rfl rfl) rfl (AH (Ds (c:=z.sign) rfl rfl (Rk z)) rfl (asg' rfl (AD.nil (AC.subF (sL [2] rfl) ?_)))))
 exact AC.then_ (AF.ret (AN rfl (AQ (v:=(vI z.sign)) rfl) (λw hw=>⟨rfl,hw.out⟩)))
end
section
section
variable {P:Program} {n:Nat} {F:List (Nat×Value)} {w0:A7} {L:List As} {x y:Operand} {d:Option Tmp} {t:TypeId} {p:String} {af:Array Edge} {g:Option (Nat×Bool)}
def D4 (P:Program) (D:Nat) (T:TypeId) (u v:Value) (b:Bool):Prop:=∀w,(Op.equalIn D T u v).run P w=.ok b w
def GY (P:Program) (D:Nat) (xs ys:List Value) (fs:List Field) (b:Bool):Prop:=∀w,(Op.eqFields D xs.toArray ys.toArray fs).run P w=.ok b w
theorem D4.int {D:Nat} {T:TypeId} {k k':IntKind} {a b:Int} (h:P.underlying T=some (.int k')):D4 P (D+1) T (.int k a) (.int k b) (a == b):=λw=>run_equalIn_int w D T k k' a b h
theorem D4.bool {D:Nat} {T:TypeId} {a b:Bool} (h:P.underlying T=some .bool):D4 P (D+1) T (.bool a) (.bool b) (a == b):=λw=>run_equalIn_bool' w D T a b h
theorem D4.str {D:Nat} {T:TypeId} {a b:ByteArray} (h:P.underlying T=some .string):D4 P (D+1) T (.string a) (.string b) (a.toList == b.toList):=λw=>run_equalIn_string w D T a b h
theorem D4.struct {D:Nat} {T:TypeId} {xs ys:List Value} {b:Bool} {fs:Array Field} (hu:P.underlying T=some (.struct fs)) (hp:P.stoodInHeld T=false) (h:GY P D xs ys fs.toList b):D4 P (D+1) T (.agg xs.toArray) (.agg ys.toArray) b:=λw=>by
  have e:P.fieldsOf T=fs:=by simp [Program.fieldsOf,hu]
  rw [run_equalIn_struct w D T _ _ (by rw [e];exact hu) hp,e];exact h w
theorem GY.nil {D:Nat} {xs ys:List Value}:GY P D xs ys [] true:=λw=>rfl
theorem GY.one {D : Nat} {xs ys : List Value} {f : Field} {fs : List Field} {a b : Value} {r s : Bool} (hn : f.name ≠ "_") (hg : ∀ w, (isAgg f.type).run P w = .ok false w) (ha : xs[f.offset]? = some a) (hb : ys[f.offset]? = some b)
    (h:D4 P D f.type a b r) (h2:GY P D xs ys fs s):GY P D xs ys (f::fs) (r&&s):=λw=>by
  have e1:(part f.type xs.toArray f.offset).run P w=.ok a w:=by simp [part,hg,ha]
  have e2:(part f.type ys.toArray f.offset).run P w=.ok b w:=by simp [part,hg,hb]
  simp only [Op.eqFields,Sem.run_ite,if_pos hn,Sem.run_bind,e1,e2,Result.andThen_ok,h w]
  cases r
  · simp
  · simp [h2 w]
theorem GY.agg {D k : Nat} {xs ys us bs : List Value} {f : Field} {fs : List Field} {r s : Bool} (hn : f.name ≠ "_") (hg : ∀ w, (isAgg f.type).run P w = .ok true w) (hs : ∀ w, (sizeOf f.type).run P w = .ok k w)
    (ha:(xs.drop f.offset).take k=us) (hb:(ys.drop f.offset).take k=bs)
    (h:D4 P D f.type (.agg us.toArray) (.agg bs.toArray) r) (h2:GY P D xs ys fs s):GY P D xs ys (f::fs) (r&&s):=λw=>by
  have ex:∀l:List Value,l.toArray.extract f.offset (f.offset+k)=((l.drop f.offset).take k).toArray:=λl=>by simp [List.extract_eq_take_drop]
  have e1:(part f.type xs.toArray f.offset).run P w=.ok (.agg us.toArray) w:=by simp [part,hg,hs,ex,ha]
  have e2:(part f.type ys.toArray f.offset).run P w=.ok (.agg bs.toArray) w:=by simp [part,hg,hs,ex,hb]
  simp only [Op.eqFields,Sem.run_ite,if_pos hn,Sem.run_bind,e1,e2,Result.andThen_ok,h w]
  cases r
  · simp
  · simp [h2 w]
theorem Cq {xs ys:List Value} {c:Bool} {tx ty:TypeId} (hx:evF F x=some (.agg xs.toArray)) (hy:evF F y=some (.agg ys.toArray)) (hg:P.eqGuardType P.depth tx=false) (hc:D4 P 10000 tx (.agg xs.toArray) (.agg ys.toArray) c) :
    Ex P n F w0 L ⟨d,.binOp .eql tx x y ty,t,p,af,g⟩ (.bool c):=λA w ha _=>by
  simp only [execOp,ha.ev hx,ha.ev hy,Sem.run_bind,run_eqGuard_agg w .eql tx x y _ _ hg,Result.andThen_ok,run_eql_struct,hc w,Sem.run_pure]
theorem JJ {xs ys:List Value} {c:Bool} {tx ty:TypeId} (hx:evF F x=some (.agg xs.toArray)) (hy:evF F y=some (.agg ys.toArray)) (hg:P.eqGuardType P.depth tx=false) (hc:D4 P 10000 tx (.agg xs.toArray) (.agg ys.toArray) c) :
    Ex P n F w0 L ⟨d,.binOp .neq tx x y ty,t,p,af,g⟩ (.bool (!c)):=λA w ha _=>by
  simp only [execOp,ha.ev hx,ha.ev hy,Sem.run_bind,run_eqGuard_agg w .neq tx x y _ _ hg,Result.andThen_ok,run_neq_struct,hc w,Sem.run_pure]
end
theorem Rv {a b:Nat} (ha:¬a<18446744073709551616) (hb:¬b<18446744073709551616) (h:BW a=BW b):a=b:=by
  rw [EI ha,EI hb] at h
  have h1:bytesN (AM a)=bytesN (AM b):=by
    have lt:∀(xs:List Nat),∀x∈bytesN xs,x<256:=λxs x hx=>by
      simp only [bytesN,List.mem_flatMap,List.mem_cons,List.not_mem_nil,or_false] at hx
      obtain ⟨y,_,hy⟩:=hx
      omega
    have inj:∀(l r:List Nat),(∀x∈l,x<256)->(∀x∈r,x<256)->l.map UInt8.ofNat=r.map UInt8.ofNat->l=r:=by
      intro l
      induction l with
      | nil=>intro r _ _ h;cases r<;>simp_all
      | cons x l ih =>
        intro r hl hr h
        cases r with
        | nil=>simp at h
        | cons y r =>
          simp only [List.map_cons,List.cons.injEq] at h
          have e:x=y:=by
            have h3:=congrArg UInt8.toNat h.1
            have h4:=hl x (by simp)
            have h5:=hr y (by simp)
            simp at h3
            omega
          rw [e,ih r (λz hz=>hl z (by simp [hz])) (λz hz=>hr z (by simp [hz])) h.2]
    refine inj _ _ (lt _) (lt _) ?_
    have:=congrArg (λs:ByteArray=>s.data.toList) h
    simpa [Co] using this
  have h2:AM a=AM b:=by
    have hl:(AM a).length=(AM b).length:=by
      have:=congrArg List.length h1
      simp only [Bs] at this
      omega
    apply List.ext_getElem hl
    intro i hi hi'
    have g:∀k,k<4->(AM a).getD i 0/256^k%256=(AM b).getD i 0/256^k%256:=λk hk=>by rw [<-FH _ _ _ hi hk,<-FH _ _ _ hi' hk,h1]
    have wa:=(Bc a).getD i
    have wb:=(Bc b).getD i
    have ea:(AM a).getD i 0=(AM a)[i]:=by simp [hi]
    have eb:(AM b).getD i 0=(AM b)[i]:=by simp [hi']
    rw [ea,eb] at g
    rw [ea] at wa
    rw [eb] at wb
    have g0:=g 0 (by omega)
    have g1:=g 1 (by omega)
    have g2:=g 2 (by omega)
    have g3:=g 3 (by omega)
    simp only [Nat.pow_zero,Nat.div_one,Nat.pow_one,show (256:Nat)^2=65536 from rfl,show (256:Nat)^3=16777216 from rfl] at g0 g1 g2 g3
    omega
  rw [<-CE a,<-CE b,h2]
theorem Vd (a b:Nat):((((Bq a:Nat):Int) == ((Bq b:Nat):Int))&&(((BW a).toList == (BW b).toList)&&true))=decide (a=b):=by
  by_cases e:a=b
  · subst e;simp
  · rw [decide_eq_false e]
    by_cases ha:a<18446744073709551616
    · by_cases hb:b<18446744073709551616
      · rw [BU ha,BU hb]
        have:((a:Int) == (b:Int))=false:=by simp;omega
        rw [this];rfl
      · have h1:=N6 hb
        rw [Gk ha,<-beq_toListBytes]
        have:(ByteArray.empty == BW b)=false:=by
          rw [beq_toListBytes,ByteArray.toList_eq,ByteArray.toList_eq,EI hb]
          cases hl:(Co (bytesN (AM b))).data.toList with
          | nil =>
            have h3:=congrArg List.length hl
            simp [Co,Bs] at h3
            unfold nw at h1
            omega
          | cons=>rfl
        rw [this];simp
    · by_cases hb:b<18446744073709551616
      · have h1:=N6 ha
        rw [Gk hb,<-beq_toListBytes]
        have:(BW a == ByteArray.empty)=false:=by
          rw [beq_toListBytes,ByteArray.toList_eq,ByteArray.toList_eq,EI ha]
          cases hl:(Co (bytesN (AM a))).data.toList with
          | nil =>
            have h3:=congrArg List.length hl
            simp [Co,Bs] at h3
            unfold nw at h1
            omega
          | cons=>rfl
        rw [this];simp
      · rw [<-beq_toListBytes]
        have:(BW a == BW b)=false:=by
          cases hbb:BW a == BW b with
          | false=>rfl
          | true =>
            rw [beq_toListBytes] at hbb
            have h2:(BW a).toList=(BW b).toList:=by simpa using hbb
            rw [ByteArray.toList_eq,ByteArray.toList_eq] at h2
            have h3:BW a=BW b:=by
              cases hA:BW a with|mk da=>cases hB:BW b with|mk db =>
                rw [hA,hB] at h2
                congr 1
                exact Array.toList_inj.1 h2
            exact absurd (Rv ha hb h3) e
        rw [this];simp
theorem IV (D a b:Nat):D4 Tryz.prog (D+2) 42 (.agg (Aa a).toArray) (.agg (Aa b).toArray) (decide (a=b)):=by
  rw [<-Vd]
  exact D4.struct Tryz.underlying42 Tryz.stoodInHeld42 (GY.one (by decide) Tryz.isAgg40 rfl rfl (D4.int Tryz.underlying40) (GY.one (by decide) Tryz.isAgg9 rfl rfl (D4.str Tryz.underlying9) GY.nil))
end
end Go.Proofs.YtpgncndhhhllfaaGreatDoor
