import Derived.Laws.StructEq
import Derived.Test.YtfbomiejpbchdaaGreatPart06
import Derived.Test.YtfbomiejpbchdaaGreatPart08
namespace Go.Proofs.YtfbomiejpbchdaaGreat
open Go Go.RowKit
set_option linter.unusedVariables false
set_option linter.unusedSimpArgs false
section
set_option maxRecDepth 100000
theorem Rs (b m c:Nat) (bs:List Nat) (hbs:W32 bs) (hm:m<=bs.length) (hc:m<=c) (hL:c<4611686018427387904) (w:World) (hb:w.heap[b]?=some (.cells (Al bs).toArray 101 (0,0))):Calls Tryz.prog 198 #[(Value.slice (some ⟨b,0,none⟩) m c)] w (Ax w (Value.slice (some ⟨b,0,none⟩) (Dh bs m) c)):=by
 refine Ad (args:=[(Value.slice (some ⟨b,0,none⟩) m c)]) Tryz.func198 rfl rfl (Af rfl) (AE.subF (sL [0] rfl) (q4 (AL rfl (AD.nil (q1 ?_)))))
 refine AE.block ?_
 refine AE.lp1 (tg λ(k:Nat)=>k<=m/\Dh bs k=Dh bs m) (tg λ(k:Nat)=>[(2,(Value.slice none 0 0)),(0,(Value.slice (some ⟨b,0,none⟩) k c))]) (tg λ(k:Nat)=>[]) (tg λ(k:Nat)=>k) m (⟨Nat.le_refl _,rfl⟩) (sF rfl) sr (λk hJ=>?_)
 obtain ⟨hk,hv⟩:=hJ
 refine AE.seq (q4 (AO rfl (AH (v:=(vN k)) (AF rfl Tryz.underlying232) rfl (AH (Eb (c:=(decide (0<k))) rfl rfl (DA (a:=0) (b:=k))) rfl (AO rfl ?_)))))
 refine AD.mid (FM:=[(2,(Value.slice none 0 0)),(0,(Value.slice (some ⟨b,0,none⟩) k c)),(3,(Value.slice (some ⟨b,0,none⟩) k c)),(4,(vN k)),(5,(Value.bool (decide (0<k)))),(6,(Value.bool (decide (0<k)))),(14,(Value.bool ((decide (0<k))&&(decide ((bs.getD (k-1) 0)=0)))))]) (LM:=[]) 8 ?_ ?_
 ·rcases Bool.eq_false_or_eq_true (decide (0<k)) with hg1|hg1
  ·skip
   refine AD.retell (k:=6) (u:=Value.bool true) rfl (by rw [hg1]) ?_
   have hg1':=hg1
   replace hg1':=of_decide_eq_true hg1'
   refine AD.step (v:=(Value.slice (some ⟨b,0,none⟩) k c)) (AB rfl) (BU rfl) rfl (Af rfl) (AD.step (v:=(Value.slice (some ⟨b,0,none⟩) k c)) (AB rfl) (BU rfl) rfl (Af rfl) (AD.step (v:=(vN k)) (AB rfl) (AF rfl Tryz.underlying232) rfl (Af rfl) (AD.step (v:=(vN (k-1))) (AB rfl) (Bf (c:=((k-1:Nat):Int)) rfl rfl (CV (a:=k) (b:=1) (by omega) (by omega))) rfl (Af rfl) (AD.step (v:=(pP b (k-1))) (AB rfl) (AI (j:=k-1) rfl rfl Tryz.underlying232 Tryz.sizeOf101 rfl (by omega) (by simp)) rfl (Af rfl) ?_))))
   have hx1:bs.getD (k-1) 0<4294967296:=W32.getD hbs (k-1)
   exact AD.step (v:=(vK .u32 (bs.getD (k-1) 0))) (AB rfl) (BT (v:=(vK .u32 (bs.getD (k-1) 0))) rfl (λw' hw=>CA.at0 (hw.oldCA (by simp) (EB hb)) (BH (xs:=bs) (j:=(k-1)) (by omega))) Tryz.isAgg101) rfl (Af rfl) (AD.step (v:=(Value.bool (decide ((bs.getD (k-1) 0)=0)))) (AB rfl) (Bp (c:=(decide ((bs.getD (k-1) 0)=0))) rfl rfl (Pm (a:=bs.getD (k-1) 0) (b:=0))) rfl (Af rfl) (AH (v:=(Value.bool (decide ((bs.getD (k-1) 0)=0)))) (Ae rfl rfl) rfl (AD.nil (AC.mid (sS rfl (sS rfl (sS rfl (sS rfl (sS rfl (sS (by first|rfl|(rw [hg1];rfl)|rw [hg1]) (sS (by first|rfl|(rw [hg1];rfl)|rw [hg1]) (sN)))))))) (List.Sublist.refl _)))))
  ·skip
   refine AD.retell (k:=6) (u:=Value.bool false) rfl (by rw [hg1]) ?_
   have hg1':=hg1
   replace hg1':=of_decide_eq_false hg1'
   refine AD.skip (AM rfl) rfl (Af rfl) (AD.skip (AM rfl) rfl (Af rfl) (AD.skip (AM rfl) rfl (Af rfl) (AD.skip (AM rfl) rfl (Af rfl) (AD.skip (AM rfl) rfl (Af rfl) (AD.skip (AM rfl) rfl (Af rfl) ?_)))))
   exact AD.skip (AM rfl) rfl (Af rfl) (AH (v:=(Value.bool false)) (Aa rfl rfl) rfl (AD.nil (AC.mid (sS rfl (sS rfl (sS rfl (sS rfl (sS rfl (sS (by first|rfl|(rw [hg1];rfl)|rw [hg1]) (sS (by first|rfl|(rw [hg1];rfl)|rw [hg1]) (sN)))))))) (List.Sublist.refl _))))
 refine AD.nil (AC.subF (sL [2,0,14] rfl) (AC.then_ ?_))
 refine AE.cond rfl (λhc0=>?_) (λhc0=>?_)
 ·simp only [Bool.and_eq_true,Bool.or_eq_true,Bool.and_eq_false_iff,Bool.or_eq_false_iff,Bool.not_eq_true',Bool.not_eq_false',decide_eq_true_eq,decide_eq_false_iff_not] at hc0
  refine AE.skip (AC.then_ (AE.block (AE.region (AO rfl (AO rfl ?_)))))
  refine AH (v:=(vN k)) (AF rfl Tryz.underlying232) rfl (AH (Bf (c:=((k-1:Nat):Int)) rfl rfl (CV (a:=k) (b:=1) (by omega) (by omega))) rfl (AH (v:=(Value.slice (some ⟨b,0,none⟩) (k-1) c)) (GC (m:=k-1) rfl rfl Tryz.underlying232 Tryz.sizeOf101 (by omega)) rfl (AL rfl (AD.nil (AC.subF (sL [2,0] rfl) ?_)))))
  exact AC.in_normal (AC.round1 (k-1) (⟨by omega,by rw [<-QR hc0.1 hc0.2];exact hv⟩) (by omega) (sF rfl) sr)
 ·simp only [Bool.and_eq_true,Bool.or_eq_true,Bool.and_eq_false_iff,Bool.or_eq_false_iff,Bool.not_eq_true',Bool.not_eq_false',decide_eq_true_eq,decide_eq_false_iff_not] at hc0
  have hstop:Dh bs k=k:=Q2 (by omega)
  refine AE.exit (AC.then_exit (AC.round1_exit (AC.in_exit (q2 (AO rfl ?_)))))
  exact AL rfl (AD.nil (AC.subF (sL [2,0] rfl) (AC.then_ (AE.ret (AU rfl (Am (v:=(Value.slice (some ⟨b,0,none⟩) k c)) rfl) (λw hw=>⟨by rw [<-hv,hstop],hw.out⟩))))))
theorem JZ (x y c:Nat) (hx:x<4294967296) (hy:y<4294967296) (hc:c<=1) (w:World)  :Calls Tryz.prog 200 #[(vK .u32 x),(vK .u32 y),(vK .u32 c)] w (Ax w (Value.tuple #[(vK .u32 ((x+y+c)%4294967296)),(vK .u32 ((x+y+c)/4294967296))])):=by
 refine Ad (args:=[(vK .u32 x),(vK .u32 y),(vK .u32 c)]) Tryz.func200 rfl rfl (Af rfl) (AE.subF (sL [0,1,2] rfl) (q4 (AL rfl (AL rfl (AD.nil ?_)))))
 refine q2 (AO rfl (AH (Ar (c:=((x:Nat):Int)) rfl Tryz.underlying101 Tryz.underlying45 (BS (by omega))) rfl (AO rfl (AH (Ar (c:=((y:Nat):Int)) rfl Tryz.underlying101 Tryz.underlying45 (BS (by omega))) rfl (AH (AT (c:=((x+y:Nat):Int)) rfl rfl (DC (a:=x) (b:=y) (by omega))) rfl ?_)))))
 refine AO rfl (AH (Ar (c:=((c:Nat):Int)) rfl Tryz.underlying101 Tryz.underlying45 (BS (by omega))) rfl (AH (AT (c:=(((x+y)+c:Nat):Int)) rfl rfl (DC (a:=x+y) (b:=c) (by omega))) rfl (AL rfl (q3 (sL [6,7,8] rfl) (AO rfl ?_)))))
 refine AH (Ar (c:=((((x+y)+c)%4294967296:Nat):Int)) rfl Tryz.underlying45 Tryz.underlying101 D4) rfl (AL rfl (q3 (sL [6,7,8] rfl) (AO rfl (AH (Cj (s:=32) (c:=((((x+y)+c)/4294967296:Nat):Int)) rfl rfl rfl (by decide) (Fa (a:=(x+y)+c) (s:=32))) rfl (AH (Ar (c:=((((x+y)+c)/4294967296:Nat):Int)) rfl Tryz.underlying45 Tryz.underlying101 (CS (by omega))) rfl ?_)))))
 exact AL rfl (AD.nil (AC.subF (sL [6,7,8] rfl) (AC.then_ (AE.ret (DM rfl (Am (v:=(vK .u32 (((x+y)+c)%4294967296))) rfl) (Am (v:=(vK .u32 (((x+y)+c)/4294967296))) rfl) (λw hw=>⟨rfl,hw.out⟩))))))
theorem Jz (x y c d:Nat) (hx:x<4294967296) (hy:y<4294967296) (hc:c<=1) (hd:d=(x+(4294967296-y)+(4294967296-c))%4294967296) (w:World)  :Calls Tryz.prog 197 #[(vK .u32 x),(vK .u32 y),(vK .u32 c)] w (Ax w (Value.tuple #[(vK .u32 d),(vK .u32 (Ih x (y+c)))])):=by
 have hd2:d<4294967296:=by omega
 have hb:=S1 hx hy hc hd
 have hx1:4294967295 ^^^ x<4294967296:=Nat.xor_lt_two_pow (n:=32) (by omega) hx
 have hx2:x ^^^ y<4294967296:=Nat.xor_lt_two_pow (n:=32) hx hy
 have hx3:4294967295 ^^^ (x ^^^ y)<4294967296:=Nat.xor_lt_two_pow (n:=32) (by omega) hx2
 have hx4:(4294967295 ^^^ x) &&& y<4294967296:=Nat.lt_of_le_of_lt Nat.and_le_right hy
 have hx5:(4294967295 ^^^ (x ^^^ y)) &&& d<4294967296:=Nat.lt_of_le_of_lt Nat.and_le_right hd2
 refine Ad (args:=[(vK .u32 x),(vK .u32 y),(vK .u32 c)]) Tryz.func197 rfl rfl (Af rfl) (AE.subF (sL [0,1,2] rfl) (q4 (AL rfl (AL rfl (AD.nil ?_)))))
 refine q2 (AO rfl (AO rfl (AH (Bf (c:=(((x+(4294967296-y))%4294967296:Nat):Int)) rfl rfl (Na (by omega))) rfl (AO rfl (AH (Bf (c:=((d:Nat):Int)) rfl rfl (by rw [Na (by omega),hd];exact congrArg Int.ofNat (by omega))) rfl ?_)))))
 refine AL rfl (q3 (sL [0,1,6,7] rfl) (AO rfl (AH (Tx (c:=((4294967295 ^^^ x:Nat):Int)) rfl (Ny hx)) rfl (AO rfl (AH (Kn (c:=(((4294967295 ^^^ x) &&& y:Nat):Int)) rfl rfl (N0 hx1 hy)) rfl ?_)))))
 refine AO rfl (AO rfl (AH (Wl (c:=((x ^^^ y:Nat):Int)) rfl rfl (NE hx hy)) rfl (AH (Tx (c:=((4294967295 ^^^ (x ^^^ y):Nat):Int)) rfl (Ny hx2)) rfl (AO rfl (AH (Kn (c:=(((4294967295 ^^^ (x ^^^ y)) &&& d:Nat):Int)) rfl rfl (N0 hx3 hd2)) rfl ?_)))))
 refine AH (Im (c:=(((4294967295 ^^^ x) &&& y ||| (4294967295 ^^^ (x ^^^ y)) &&& d:Nat):Int)) rfl rfl (JD hx4 hx5 rfl)) rfl (AH (Cj (s:=31) (c:=((((4294967295 ^^^ x) &&& y ||| (4294967295 ^^^ (x ^^^ y)) &&& d)/2147483648:Nat):Int)) rfl rfl rfl (by decide) (Fa (a:=(4294967295 ^^^ x) &&& y ||| (4294967295 ^^^ (x ^^^ y)) &&& d) (s:=31))) rfl (AL rfl (AD.nil (AC.subF (sL [0,1,6,7] rfl) (AC.then_ ?_)))))
 exact AE.ret (DM rfl (Am (v:=(vK .u32 d)) rfl) (Am (v:=(vK .u32 (((4294967295 ^^^ x) &&& y ||| (4294967295 ^^^ (x ^^^ y)) &&& d)/2147483648))) rfl) (λw hw=>⟨by rw [<-hb],hw.out⟩))
theorem Rv (x y:Nat) (hx:x<18446744073709551616) (hy:y<18446744073709551616) (w:World)  :Calls Tryz.prog 148 #[(vK .u64 x),(vK .u64 y)] w (Ax w (Value.tuple #[(vK .u64 (x*y/18446744073709551616)),(vK .u64 (x*y%18446744073709551616))])):=by
 have h1:=Jc (a:=x%4294967296) (b:=y%4294967296) (by omega) (by omega)
 have h2:=Jc (a:=x/4294967296) (b:=y%4294967296) (by omega) (by omega)
 have h3:=Jc (a:=x%4294967296) (b:=y/4294967296) (by omega) (by omega)
 have h4:=Jc (a:=x/4294967296) (b:=y/4294967296) (by omega) (by omega)
 have hh:=R0 x y
 have hh2:x*y/18446744073709551616<18446744073709551616:=Nat.div_lt_of_lt_mul (Nat.mul_lt_mul'' hx hy)
 refine Ad (args:=[(vK .u64 x),(vK .u64 y)]) Tryz.func148 rfl rfl (Af rfl) (AE.subF (sL [0,1] rfl) (q4 (AL rfl (AL rfl (AD.nil ?_)))))
 refine q2 (AO rfl (AH (Kn (c:=((x%4294967296:Nat):Int)) rfl rfl (IH (a:=x) (by omega))) rfl (AL rfl (q3 (sL [0,1,4,5,6] rfl) (AO rfl ?_)))))
 refine AH (Cj (s:=32) (c:=((x/4294967296:Nat):Int)) rfl rfl rfl (by decide) (Fa (a:=x) (s:=32))) rfl (AL rfl (q3 (sL [0,1,4,5,6,7] rfl) (AO rfl (AH (Kn (c:=((y%4294967296:Nat):Int)) rfl rfl (IH (a:=y) (by omega))) rfl (AL rfl ?_)))))
 refine q3 (sL [0,1,4,5,6,7,8] rfl) (AO rfl (AH (Cj (s:=32) (c:=((y/4294967296:Nat):Int)) rfl rfl rfl (by decide) (Fa (a:=y) (s:=32))) rfl (AL rfl (q3 (sL [0,1,4,5,6,7,8,9] rfl) (AO rfl ?_)))))
 refine AO rfl (AH (BZ (c:=(((x%4294967296)*(y%4294967296):Nat):Int)) rfl rfl (Eg (a:=x%4294967296) (b:=y%4294967296) (by omega))) rfl (AL rfl (q3 (sL [0,1,4,5,6,7,8,9,10] rfl) (AO rfl (AO rfl ?_)))))
 refine AH (BZ (c:=(((x/4294967296)*(y%4294967296):Nat):Int)) rfl rfl (Eg (a:=x/4294967296) (b:=y%4294967296) (by omega))) rfl (AO rfl (AH (Cj (s:=32) (c:=((((x%4294967296)*(y%4294967296))/4294967296:Nat):Int)) rfl rfl rfl (by decide) (Fa (a:=(x%4294967296)*(y%4294967296)) (s:=32))) rfl (AH (AT (c:=((((x/4294967296)*(y%4294967296))+(((x%4294967296)*(y%4294967296))/4294967296):Nat):Int)) rfl rfl (DC (a:=(x/4294967296)*(y%4294967296)) (b:=((x%4294967296)*(y%4294967296))/4294967296) (by omega))) rfl (AL rfl (q3 (sL [0,1,4,5,6,7,8,9,11] rfl) ?_)))))
 refine AO rfl (AH (Kn (c:=(((((x/4294967296)*(y%4294967296))+(((x%4294967296)*(y%4294967296))/4294967296))%4294967296:Nat):Int)) rfl rfl (IH (a:=((x/4294967296)*(y%4294967296))+(((x%4294967296)*(y%4294967296))/4294967296)) (by omega))) rfl (AL rfl (q3 (sL [0,1,4,5,6,7,8,9,11,12] rfl) (AO rfl (AH (Cj (s:=32) (c:=(((((x/4294967296)*(y%4294967296))+(((x%4294967296)*(y%4294967296))/4294967296))/4294967296:Nat):Int)) rfl rfl rfl (by decide) (Fa (a:=((x/4294967296)*(y%4294967296))+(((x%4294967296)*(y%4294967296))/4294967296)) (s:=32))) rfl ?_)))))
 refine AL rfl (q3 (sL [0,1,4,5,6,7,8,9,11,12,13] rfl) (AO rfl (AO rfl (AO rfl (AH (BZ (c:=(((x%4294967296)*(y/4294967296):Nat):Int)) rfl rfl (Eg (a:=x%4294967296) (b:=y/4294967296) (by omega))) rfl ?_)))))
 refine AH (AT (c:=((((((x/4294967296)*(y%4294967296))+(((x%4294967296)*(y%4294967296))/4294967296))%4294967296)+((x%4294967296)*(y/4294967296)):Nat):Int)) rfl rfl (DC (a:=(((x/4294967296)*(y%4294967296))+(((x%4294967296)*(y%4294967296))/4294967296))%4294967296) (b:=(x%4294967296)*(y/4294967296)) (by omega))) rfl (AL rfl (q3 (sL [0,1,4,5,6,7,8,9,11,12,13] rfl) (AO rfl (AO rfl (AH (BZ (c:=(((x/4294967296)*(y/4294967296):Nat):Int)) rfl rfl (Eg (a:=x/4294967296) (b:=y/4294967296) (by omega))) rfl ?_)))))
 refine AO rfl (AH (AT (c:=((((x/4294967296)*(y/4294967296))+((((x/4294967296)*(y%4294967296))+(((x%4294967296)*(y%4294967296))/4294967296))/4294967296):Nat):Int)) rfl rfl (DC (a:=(x/4294967296)*(y/4294967296)) (b:=(((x/4294967296)*(y%4294967296))+(((x%4294967296)*(y%4294967296))/4294967296))/4294967296) (by omega))) rfl (AO rfl (AH (Cj (s:=32) (c:=(((((((x/4294967296)*(y%4294967296))+(((x%4294967296)*(y%4294967296))/4294967296))%4294967296)+((x%4294967296)*(y/4294967296)))/4294967296:Nat):Int)) rfl rfl rfl (by decide) (Fa (a:=((((x/4294967296)*(y%4294967296))+(((x%4294967296)*(y%4294967296))/4294967296))%4294967296)+((x%4294967296)*(y/4294967296))) (s:=32))) rfl (AH (AT (c:=((x*y/18446744073709551616:Nat):Int)) rfl rfl (by rw [<-Int.natCast_add,hh];exact BS hh2)) rfl (AL rfl ?_)))))
 refine q3 (sL [0,1,4,5,6,7,8,9,11,12] rfl) (AO rfl (AO rfl (AH (BZ (c:=((x*y%18446744073709551616:Nat):Int)) rfl rfl Tn) rfl (AL rfl (AD.nil ?_)))))
 exact AC.subF (sL [0,1,4,5,6,7,8,9,11,12] rfl) (AC.then_ (AE.ret (DM rfl (Am (v:=(vK .u64 (x*y/18446744073709551616))) rfl) (Am (v:=(vK .u64 (x*y%18446744073709551616))) rfl) (λw hw=>⟨rfl,hw.out⟩))))
theorem Rx (hi lo y:Nat) (hh:hi<y) (hl:lo<4294967296) (hy:y<4294967296) (w:World)  :Calls Tryz.prog 238 #[(vK .u32 hi),(vK .u32 lo),(vK .u32 y)] w (Ax w (Value.tuple #[(vK .u32 ((hi*4294967296+lo)/y)),(vK .u32 ((hi*4294967296+lo)%y))])):=by
 refine Ad (args:=[(vK .u32 hi),(vK .u32 lo),(vK .u32 y)]) Tryz.func238 rfl rfl (Af rfl) (AE.subF (sL [0,1,2] rfl) (q4 (AL rfl (AL rfl (AD.nil ?_)))))
 refine q1 (q4 (AO rfl (AH (CX (c:=(decide (y≠0))) rfl rfl (X4 (a:=y) (b:=0))) rfl (AO rfl ?_))))
 refine AD.mid (FM:=[(0,(vK .u32 hi)),(1,(vK .u32 lo)),(2,(vK .u32 y)),(6,(Value.int .u32 (0:Int))),(7,(Value.int .u32 (0:Int))),(9,(vK .u32 y)),(10,(Value.bool (decide (y≠0)))),(11,(Value.bool (decide (y≠0)))),(15,(Value.bool ((decide (y≠0))&&(decide (y<=hi)))))]) (LM:=[]) 4 ?_ ?_
 ·rcases Bool.eq_false_or_eq_true (decide (y≠0)) with hg1|hg1
  ·skip
   refine AD.retell (k:=11) (u:=Value.bool true) rfl (by rw [hg1]) ?_
   have hg1':=hg1
   replace hg1':=of_decide_eq_true hg1'
   exact AD.step (v:=(vK .u32 y)) (AB rfl) (BU rfl) rfl (Af rfl) (AD.step (v:=(vK .u32 hi)) (AB rfl) (BU rfl) rfl (Af rfl) (AD.step (v:=(Value.bool (decide (y<=hi)))) (AB rfl) (IB (c:=(decide (y<=hi))) rfl rfl (Um (a:=y) (b:=hi))) rfl (Af rfl) (AH (v:=(Value.bool (decide (y<=hi)))) (Ae rfl rfl) rfl (AD.nil (AC.mid (sS rfl (sS rfl (sS rfl (sS rfl (sS rfl (sS rfl (sS rfl (sS (by first|rfl|(rw [hg1];rfl)|rw [hg1]) (sS (by first|rfl|(rw [hg1];rfl)|rw [hg1]) (sN)))))))))) (List.Sublist.refl _))))))
  ·skip
   refine AD.retell (k:=11) (u:=Value.bool false) rfl (by rw [hg1]) ?_
   have hg1':=hg1
   replace hg1':=of_decide_eq_false hg1'
   exact AD.skip (AM rfl) rfl (Af rfl) (AD.skip (AM rfl) rfl (Af rfl) (AD.skip (AM rfl) rfl (Af rfl) (AH (v:=(Value.bool false)) (Aa rfl rfl) rfl (AD.nil (AC.mid (sS rfl (sS rfl (sS rfl (sS rfl (sS rfl (sS rfl (sS rfl (sS (by first|rfl|(rw [hg1];rfl)|rw [hg1]) (sS (by first|rfl|(rw [hg1];rfl)|rw [hg1]) (sN)))))))))) (List.Sublist.refl _))))))
 refine AD.nil (AC.subF (sL [0,1,2,6,7,15] rfl) (AC.then_ ?_))
 refine AE.cond rfl (λhc0=>?_) (λhc0=>?_)
 ·simp only [Bool.and_eq_true,Bool.or_eq_true,Bool.and_eq_false_iff,Bool.or_eq_false_iff,Bool.not_eq_true',Bool.not_eq_false',decide_eq_true_eq,decide_eq_false_iff_not] at hc0
  exfalso;omega
 ·simp only [Bool.and_eq_true,Bool.or_eq_true,Bool.and_eq_false_iff,Bool.or_eq_false_iff,Bool.not_eq_true',Bool.not_eq_false',decide_eq_true_eq,decide_eq_false_iff_not] at hc0
  refine AE.skip (q2 (AO rfl (AH (Ar (c:=((hi:Nat):Int)) rfl Tryz.underlying101 Tryz.underlying45 (BS (by omega))) rfl (AH (v:=(vK .u64 (hi*4294967296))) (GF (s:=32) rfl rfl rfl (by decide) (GX (s:=32) (by omega))) rfl (AO rfl ?_)))))
  refine AH (Ar (c:=((lo:Nat):Int)) rfl Tryz.underlying101 Tryz.underlying45 (BS (by omega))) rfl (AH (Im (c:=((hi*4294967296+lo:Nat):Int)) rfl rfl (JQ (by omega) (by omega) (by rw [Nat.or_comm,Nat.add_comm];exact HH (s:=32) (by omega)))) rfl ?_)
  have hq:(hi*4294967296+lo)/y<4294967296:=Nat.div_lt_of_lt_mul (by have h9:(hi+1)*4294967296<=y*4294967296:=Nat.mul_le_mul_right _ hh;omega)
  have hr:(hi*4294967296+lo)%y<y:=Nat.mod_lt _ (by omega)
  refine AL rfl (q6 (sL [0,2,6,7,8] rfl) (C7 [(0,true),(1,true),(2,true),(3,true),(4,true),(5,true),(6,true),(7,true),(8,true),(9,true),(10,true),(11,true)] sr (Bl rfl (Bl rfl (Au rfl (Ar (c:=((y:Nat):Int)) rfl Tryz.underlying101 Tryz.underlying45 (BS (by omega))) ?_)))))
  refine Au rfl (GV (c:=(((hi*4294967296+lo)/y:Nat):Int)) rfl rfl (by omega) (J0 (a:=hi*4294967296+lo) (b:=y) (by omega))) (Au rfl (Ar (c:=(((hi*4294967296+lo)/y:Nat):Int)) rfl Tryz.underlying45 Tryz.underlying101 (CS (by omega))) (Bl rfl (Bl rfl (Au rfl (Ar (c:=((y:Nat):Int)) rfl Tryz.underlying101 Tryz.underlying45 (BS (by omega))) (Au rfl (CN (c:=(((hi*4294967296+lo)%y:Nat):Int)) rfl rfl (by omega) (IS (a:=hi*4294967296+lo) (b:=y))) ?_)))))
  refine Au rfl (Ar (c:=(((hi*4294967296+lo)%y:Nat):Int)) rfl Tryz.underlying45 Tryz.underlying101 (CS (by omega))) (E5 rfl (E5 rfl (AP.nil (AC.subF (sL [0,2,6,7] rfl) (AC.then_ ?_)))))
  exact AE.ret (DM rfl (Am (v:=(vK .u32 ((hi*4294967296+lo)/y))) rfl) (Am (v:=(vK .u32 ((hi*4294967296+lo)%y))) rfl) (λw hw=>⟨rfl,hw.out⟩))
theorem R9 (x:Nat) (hx:x<4294967296) (w:World)  :Calls Tryz.prog 191 #[(vK .u32 x)] w (Ax w (vN (bl x))):=by
 refine Ad (args:=[(vK .u32 x)]) Tryz.func191 rfl rfl (Af rfl) (AE.subF (sL [0] rfl) (q4 (AL rfl (AD.nil (q1 ?_)))))
 refine q4 (AO rfl (AH (FB (c:=(decide (65536<=x))) rfl rfl (Um (a:=65536) (b:=x))) rfl (AD.nil (AC.subF (sL [0,2,4] rfl) (AC.then_ ?_)))))
 refine AE.jn2 (tg λ(u:Nat) (n:Nat)=>u<65536/\n<=16/\bl x=bl u+n) (tg λ(u:Nat) (n:Nat)=>[(0,(vK .u32 u)),(2,(vN n))]) (tg λ(u:Nat) (n:Nat)=>[]) ?_ ?_
 ·skip
  refine AE.cond rfl (λhc0=>?_) (λhc0=>?_)
  ·replace hc0:=of_decide_eq_true hc0
   refine q4 (AO rfl (AH (Cj (s:=16) (c:=((x/65536:Nat):Int)) rfl rfl rfl (by decide) (Fa (a:=x) (s:=16))) rfl (AL rfl (AD.nil (AC.subF (sL [0,2] rfl) ?_)))))
   exact AC.then_ (AE.region (AL rfl (AD.nil (AC.join2 (x/65536) 16 (⟨by omega,by omega,NM (k:=16) hc0⟩) (sF rfl) sr))))
  ·replace hc0:=of_decide_eq_false hc0
   exact AE.skip (AC.join2 x 0 (⟨by omega,by omega,rfl⟩) (sF rfl) sr)
 ·intro u n hJ
  obtain ⟨hu,hn,hv⟩:=hJ
  refine q1 (q4 (AO rfl (AH (FB (c:=(decide (256<=u))) rfl rfl (Um (a:=256) (b:=u))) rfl (AD.nil (AC.subF (sL [0,2,8] rfl) ?_)))))
  refine AC.then_ ?_
  refine AE.jn2 (tg λ(u2:Nat) (n2:Nat)=>u2<256/\n2<=24/\bl x=bl u2+n2) (tg λ(u2:Nat) (n2:Nat)=>[(0,(vK .u32 u2)),(2,(vN n2))]) (tg λ(u2:Nat) (n2:Nat)=>[]) ?_ ?_
  ·skip
   refine AE.cond rfl (λhc1=>?_) (λhc1=>?_)
   ·replace hc1:=of_decide_eq_true hc1
    refine q4 (AO rfl (AH (Cj (s:=8) (c:=((u/256:Nat):Int)) rfl rfl rfl (by decide) (Fa (a:=u) (s:=8))) rfl (AL rfl (AD.nil (AC.subF (sL [0,2] rfl) ?_)))))
    refine AC.then_ (AE.region (AO rfl (AH (AT (c:=((n+8:Nat):Int)) rfl rfl (AR (a:=n) (b:=8) (by omega))) rfl (AL rfl (AD.nil ?_)))))
    exact AC.subF (sL [0,2] rfl) (AC.join2 (u/256) (n+8) (⟨by omega,by omega,by rw [hv,Wy hc1];omega⟩) (sF rfl) sr)
   ·replace hc1:=of_decide_eq_false hc1
    exact AE.skip (AC.join2 u n (⟨by omega,by omega,hv⟩) (sF rfl) sr)
  ·intro u2 n2 hJ
   obtain ⟨hu2,hn2,hv2⟩:=hJ
   refine q2 (AO rfl (AO rfl (AH (Ar (c:=((u2:Nat):Int)) rfl Tryz.underlying101 Tryz.underlying5 (Sl (by omega))) rfl ?_)))
   have hb8:bl u2<=8:=R6 (k:=8) hu2
   refine AH (v:=(vK .u8 (bl u2))) (Hi (j:=u2) (m:=bl u2) rfl rfl Tryz.underlying9 (Wv (by kernel_rfl) hu2) (by omega)) rfl (AH (Ar (c:=((bl u2:Nat):Int)) rfl Tryz.underlying5 Tryz.underlying3 (CU (by omega))) rfl (AH (AT (c:=((bl x:Nat):Int)) rfl rfl (by rw [hv2,Int.add_comm,<-Int.natCast_add];exact CU (by omega))) rfl (AL rfl (AD.nil (AC.subF (sL [0,2] rfl) ?_)))))
   exact AC.then_ (AE.ret (AU rfl (Am (v:=(vN (bl x))) rfl) (λw hw=>⟨rfl,hw.out⟩)))
theorem Uq (x:Nat) (hx:x<4294967296) (w:World)  :Calls Tryz.prog 239 #[(vK .u32 x)] w (Ax w (vN (32-bl x))):=by
 have hb:=R6 (k:=32) hx
 refine Ad (args:=[(vK .u32 x)]) Tryz.func239 rfl rfl (Af rfl) (AE.subF (sL [0] rfl) (q4 (AL rfl (AD.nil (q2 ?_)))))
 refine AO rfl (BY Tryz.call191 (R9 _ (by omega)) rfl (AH (Bf (c:=((32-(bl x):Nat):Int)) rfl rfl (CV (a:=32) (b:=bl x) (by omega) (by omega))) rfl (AL rfl (AD.nil (AC.subF (sL [2] rfl) ?_)))))
 exact AC.then_ (AE.ret (AU rfl (Am (v:=(vN (32-(bl x)))) rfl) (λw hw=>⟨rfl,hw.out⟩)))
theorem Vl (z:Int) (hz:-9223372036854775808<=z) (hz2:z<9223372036854775808) (w:World)  :Calls Tryz.prog 255 #[(vI z)] w (Ax w (vI z.sign)):=by
 refine Ad (args:=[(vI z)]) Tryz.func255 rfl rfl (Af rfl) (AE.subF (sL [0] rfl) (q4 (AL rfl (AD.nil (q2 ?_)))))
 refine AO rfl (AH (GP (c:=(if z<1 then z else 1)) rfl rfl rfl) rfl (AH (Fc (c:=z.sign) rfl rfl (Rk z)) rfl (AL rfl (AD.nil (AC.subF (sL [2] rfl) ?_)))))
 exact AC.then_ (AE.ret (AU rfl (Am (v:=(vI z.sign)) rfl) (λw hw=>⟨rfl,hw.out⟩)))
end
section
section
variable {P:Program} {n:Nat} {F:List (Nat×Value)} {w0:BJ} {L:List As} {x y:Operand} {d:Option Tmp} {t:TypeId} {p:String} {af:Array Edge} {g:Option (Nat×Bool)}
def Et (P:Program) (D:Nat) (T:TypeId) (u v:Value) (b:Bool):Prop:=∀w,(Op.equalIn D T u v).run P w=.ok b w
def IK (P:Program) (D:Nat) (xs ys:List Value) (fs:List Field) (b:Bool):Prop:=∀w,(Op.eqFields D xs.toArray ys.toArray fs).run P w=.ok b w
theorem Et.int {D:Nat} {T:TypeId} {k k':IntKind} {a b:Int} (h:P.underlying T=some (.int k')):Et P (D+1) T (.int k a) (.int k b) (a == b):=λw=>run_equalIn_int w D T k k' a b h
theorem Et.bool {D:Nat} {T:TypeId} {a b:Bool} (h:P.underlying T=some .bool):Et P (D+1) T (.bool a) (.bool b) (a == b):=λw=>run_equalIn_bool' w D T a b h
theorem Et.str {D:Nat} {T:TypeId} {a b:ByteArray} (h:P.underlying T=some .string):Et P (D+1) T (.string a) (.string b) (a.toList == b.toList):=λw=>run_equalIn_string w D T a b h
theorem Et.struct {D:Nat} {T:TypeId} {xs ys:List Value} {b:Bool} {fs:Array Field} (hu:P.underlying T=some (.struct fs)) (hp:P.stoodInHeld T=false) (h:IK P D xs ys fs.toList b):Et P (D+1) T (.agg xs.toArray) (.agg ys.toArray) b:=λw=>by
  have e:P.fieldsOf T=fs:=by simp [Program.fieldsOf,hu]
  rw [run_equalIn_struct w D T _ _ (by rw [e];exact hu) hp,e];exact h w
theorem IK.nil {D:Nat} {xs ys:List Value}:IK P D xs ys [] true:=λw=>rfl
theorem IK.one {D : Nat} {xs ys : List Value} {f : Field} {fs : List Field} {a b : Value} {r s : Bool} (hn : f.name ≠ "_") (hg : ∀ w, (isAgg f.type).run P w = .ok false w) (ha : xs[f.offset]? = some a) (hb : ys[f.offset]? = some b)
    (h:Et P D f.type a b r) (h2:IK P D xs ys fs s):IK P D xs ys (f::fs) (r&&s):=λw=>by
  have e1:(part f.type xs.toArray f.offset).run P w=.ok a w:=by simp [part,hg,ha]
  have e2:(part f.type ys.toArray f.offset).run P w=.ok b w:=by simp [part,hg,hb]
  simp only [Op.eqFields,Sem.run_ite,if_pos hn,Sem.run_bind,e1,e2,Result.andThen_ok,h w]
  cases r
  · simp
  · simp [h2 w]
theorem IK.agg {D k : Nat} {xs ys us bs : List Value} {f : Field} {fs : List Field} {r s : Bool} (hn : f.name ≠ "_") (hg : ∀ w, (isAgg f.type).run P w = .ok true w) (hs : ∀ w, (sizeOf f.type).run P w = .ok k w)
    (ha:(xs.drop f.offset).take k=us) (hb:(ys.drop f.offset).take k=bs)
    (h:Et P D f.type (.agg us.toArray) (.agg bs.toArray) r) (h2:IK P D xs ys fs s):IK P D xs ys (f::fs) (r&&s):=λw=>by
  have ex:∀l:List Value,l.toArray.extract f.offset (f.offset+k)=((l.drop f.offset).take k).toArray:=λl=>by simp [List.extract_eq_take_drop]
  have e1:(part f.type xs.toArray f.offset).run P w=.ok (.agg us.toArray) w:=by simp [part,hg,hs,ex,ha]
  have e2:(part f.type ys.toArray f.offset).run P w=.ok (.agg bs.toArray) w:=by simp [part,hg,hs,ex,hb]
  simp only [Op.eqFields,Sem.run_ite,if_pos hn,Sem.run_bind,e1,e2,Result.andThen_ok,h w]
  cases r
  · simp
  · simp [h2 w]
theorem Be {xs ys:List Value} {c:Bool} {tx ty:TypeId} (hx:evF F x=some (.agg xs.toArray)) (hy:evF F y=some (.agg ys.toArray)) (hg:P.eqGuardType P.depth tx=false) (hc:Et P 10000 tx (.agg xs.toArray) (.agg ys.toArray) c) :
    Ex P n F w0 L ⟨d,.binOp .eql tx x y ty,t,p,af,g⟩ (.bool c):=λA w ha _=>by
  simp only [execOp,ha.ev hx,ha.ev hy,Sem.run_bind,run_eqGuard_agg w .eql tx x y _ _ hg,Result.andThen_ok,run_eql_struct,hc w,Sem.run_pure]
end
theorem Td {a b:Nat} (ha:¬a<18446744073709551616) (hb:¬b<18446744073709551616) (h:Bh a=Bh b):a=b:=by
  rw [Eq ha,Eq hb] at h
  have h1:bytesN (AJ a)=bytesN (AJ b):=by
    have lt:∀(xs:List Nat),∀x∈bytesN xs,x<256:=λxs x hx=>by
      simp only [bytesN,List.mem_flatMap,List.mem_cons,List.not_mem_nil,or_false] at hx
      obtain ⟨y,_,hy⟩:=hx
      omega
    have inj:∀(l r:List Nat),(∀x∈l,x<256)->(∀x∈r,x<256)->l.map UInt8.ofNat=r.map UInt8.ofNat->l=r:=by
      intro l
      induction l with
      | nil=>intro r _ _ h;cases r<;>simp_all
      | cons x l ih =>
        intro r hl hr h
        cases r with
        | nil=>simp at h
        | cons y r =>
          simp only [List.map_cons,List.cons.injEq] at h
          have e:x=y:=by
            have h3:=congrArg UInt8.toNat h.1
            have h4:=hl x (by simp)
            have h5:=hr y (by simp)
            simp at h3
            omega
          rw [e,ih r (λz hz=>hl z (by simp [hz])) (λz hz=>hr z (by simp [hz])) h.2]
    refine inj _ _ (lt _) (lt _) ?_
    have:=congrArg (λs:ByteArray=>s.data.toList) h
    simpa [Cz] using this
  have h2:AJ a=AJ b:=by
    have hl:(AJ a).length=(AJ b).length:=by
      have:=congrArg List.length h1
      simp only [B0] at this
      omega
    apply List.ext_getElem hl
    intro i hi hi'
    have g:∀k,k<4->(AJ a).getD i 0/256^k%256=(AJ b).getD i 0/256^k%256:=λk hk=>by rw [<-Fq _ _ _ hi hk,<-Fq _ _ _ hi' hk,h1]
    have wa:=(Bn a).getD i
    have wb:=(Bn b).getD i
    have ea:(AJ a).getD i 0=(AJ a)[i]:=by simp [hi]
    have eb:(AJ b).getD i 0=(AJ b)[i]:=by simp [hi']
    rw [ea,eb] at g
    rw [ea] at wa
    rw [eb] at wb
    have g0:=g 0 (by omega)
    have g1:=g 1 (by omega)
    have g2:=g 2 (by omega)
    have g3:=g 3 (by omega)
    simp only [Nat.pow_zero,Nat.div_one,Nat.pow_one,show (256:Nat)^2=65536 from rfl,show (256:Nat)^3=16777216 from rfl] at g0 g1 g2 g3
    omega
  rw [<-CT a,<-CT b,h2]
theorem Ua (a b:Nat):((((Bw a:Nat):Int) == ((Bw b:Nat):Int))&&(((Bh a).toList == (Bh b).toList)&&true))=decide (a=b):=by
  by_cases e:a=b
  · subst e;simp
  · rw [decide_eq_false e]
    by_cases ha:a<18446744073709551616
    · by_cases hb:b<18446744073709551616
      · rw [Bg ha,Bg hb]
        have:((a:Int) == (b:Int))=false:=by simp;omega
        rw [this];rfl
      · have h1:=O6 hb
        rw [G_ ha,<-beq_toListBytes]
        have:(ByteArray.empty == Bh b)=false:=by
          rw [beq_toListBytes,ByteArray.toList_eq,ByteArray.toList_eq,Eq hb]
          cases hl:(Cz (bytesN (AJ b))).data.toList with
          | nil =>
            have h3:=congrArg List.length hl
            simp [Cz,B0] at h3
            unfold nw at h1
            omega
          | cons=>rfl
        rw [this];simp
    · by_cases hb:b<18446744073709551616
      · have h1:=O6 ha
        rw [G_ hb,<-beq_toListBytes]
        have:(Bh a == ByteArray.empty)=false:=by
          rw [beq_toListBytes,ByteArray.toList_eq,ByteArray.toList_eq,Eq ha]
          cases hl:(Cz (bytesN (AJ a))).data.toList with
          | nil =>
            have h3:=congrArg List.length hl
            simp [Cz,B0] at h3
            unfold nw at h1
            omega
          | cons=>rfl
        rw [this];simp
      · rw [<-beq_toListBytes]
        have:(Bh a == Bh b)=false:=by
          cases hbb:Bh a == Bh b with
          | false=>rfl
          | true =>
            rw [beq_toListBytes] at hbb
            have h2:(Bh a).toList=(Bh b).toList:=by simpa using hbb
            rw [ByteArray.toList_eq,ByteArray.toList_eq] at h2
            have h3:Bh a=Bh b:=by
              cases hA:Bh a with|mk da=>cases hB:Bh b with|mk db =>
                rw [hA,hB] at h2
                congr 1
                exact Array.toList_inj.1 h2
            exact absurd (Td ha hb h3) e
        rw [this];simp
theorem Ge (D a b:Nat):Et Tryz.prog (D+2) 47 (.agg (AV a).toArray) (.agg (AV b).toArray) (decide (a=b)):=by
  rw [<-Ua]
  exact Et.struct Tryz.underlying47 Tryz.stoodInHeld47 (IK.one (by decide) Tryz.isAgg45 rfl rfl (Et.int Tryz.underlying45) (IK.one (by decide) Tryz.isAgg9 rfl rfl (Et.str Tryz.underlying9) IK.nil))
end
section
set_option maxRecDepth 100000
theorem JI (n:Nat) (hn:n<18446744073709551616) (w:World)  :Calls Tryz.prog 147 #[(vK .u64 n)] w (Ax w (aG (AV n))):=by
 refine Ad (args:=[(vK .u64 n)]) Tryz.func147 rfl rfl (Af rfl) (AE.subF (sL [0] rfl) (q4 (al Fg rfl λb1=>AD.nil (q2 ?_))))
 refine AO rfl (AH (v:=(aG ([(vK .u64 n),(Value.string (Bh 0))]))) (AS (zs:=AV 0) (vs:=[(vK .u64 n),(Value.string (Bh 0))]) (pv:=[(0,(vK .u64 n))]) (places:=[(0,1),(1,1)]) Tryz.zeroValue47 Tryz.underlying47 (λw=>by simp [Tryz.sizeOf9,Tryz.sizeOf45]) rfl rfl) rfl (AD.retell (k:=4) (u:=(aG (AV n))) rfl (by rw [DQ hn];rfl) (A6 rfl Tryz.sizeOf47 rfl (AD.nil (AC.subF (sL [2] rfl) ?_)))))
 exact AC.then_ (AE.ret (AU rfl (Ay (i:=0) (cs:=AV n) rfl rfl Tryz.isAgg47 Tryz.sizeOf47 rfl) (λw hw=>⟨rfl,hw.out⟩)))
theorem Ku  :Instr.fill ([(0,1),(1,1)].toArray[·]?) (AV 0).toArray []=some (AV 0).toArray:=by kernel_rfl
theorem PW (a:Nat) (w:World)  :Calls Tryz.prog 193 #[(aG (AV a))] w (Ax w (Value.bool (decide (a=0)))):=by
 refine Ad (args:=[(aG (AV a))]) Tryz.func193 rfl rfl (Af rfl) (AE.subF (sL [0] rfl) (q4 (CB (cs:=AV a) rfl λb1=>AL rfl (q3 (sL [1,2] rfl) ?_))))
 refine BF 0 B6 rfl (AH (v:=(aG (AV 0))) (AS (zs:=AV 0) (vs:=AV 0) (pv:=[]) (places:=[(0,1),(1,1)]) Tryz.zeroValue47 Tryz.underlying47 (λw=>by simp [Tryz.sizeOf9,Tryz.sizeOf45]) rfl (Ku )) rfl (AH (Be (c:=(decide (a=0))) rfl rfl Tryz.eqGuardType47 (Ge 9998 a 0)) rfl (AL rfl (AD.nil (AC.subF (sL [2] rfl) ?_)))))
 exact AC.then_ (AE.ret (AU rfl (Am (v:=(Value.bool (decide (a=0)))) rfl) (λw hw=>⟨rfl,hw.out⟩)))
theorem C3 (v:Nat) (hv:nw v<=1099511627776) (w:World)  :Calls Tryz.prog 150 #[(aG (AV v))] w (λe w'=>∃b,e=.returned (.slice (some ⟨b,0,none⟩) (nw v) (Av v).length)/\Em w.heap.size w w'/\w.heap.size<=b/\w'.heap[b]?=some (.cells (Al (Av v)).toArray 101 (0,0))):=by
 refine Ad (args:=[(aG (AV v))]) Tryz.func150 rfl rfl (Af rfl) (AE.subF (sL [0] rfl) (q4 (CB (cs:=AV v) rfl λb1=>AL rfl (q6 (sL [1,2] rfl) ?_))))
 refine q4 (AH (v:=(pP b1 1)) (AA rfl Tryz.underlying47 rfl Tryz.sizeOf9 rfl) rfl (BI 0 (Value.string (Bh v)) TK rfl (AH (B3 (c:=(decide (v<18446744073709551616))) rfl rfl Ck) rfl (AD.nil (AC.subF (sL [1,2,8] rfl) ?_)))))
 refine AC.then_ ?_
 refine AE.cond rfl (λhc0=>?_) (λhc0=>?_)
 ·replace hc0:=of_decide_eq_true hc0
  refine q4 (AH (v:=(pP b1 0)) (AA rfl Tryz.underlying47 rfl Tryz.sizeOf45 rfl) rfl (BI 0 (vK .u64 (Bw v)) Gq rfl (AD.retell (k:=10) (u:=(vK .u64 v)) rfl (by rw [Bg hc0]) (AH (Ar (c:=((v%4294967296:Nat):Int)) rfl Tryz.underlying45 Tryz.underlying101 D4) rfl (AH (v:=(pP b1 0)) (AA rfl Tryz.underlying47 rfl Tryz.sizeOf45 rfl) rfl ?_)))))
  refine BI 0 (vK .u64 (Bw v)) Gq rfl (AD.retell (k:=13) (u:=(vK .u64 v)) rfl (by rw [Bg hc0]) (AH (Cj (s:=32) (c:=((v/4294967296:Nat):Int)) rfl rfl rfl (by decide) (Fa (a:=v) (s:=32))) rfl (AH (Ar (c:=((v/4294967296:Nat):Int)) rfl Tryz.underlying45 Tryz.underlying101 (CS (by omega))) rfl (AD.openV (V:=λb2=>(Value.slice (some ⟨b2,0,none⟩) 2 2)) (T:=101) (cs:=Al ([v%4294967296,v/4294967296])) (AN rfl) (Ah (cs:=Al ([v%4294967296,v/4294967296])) (pv:=[(0,(vK .u32 (v%4294967296))),(1,(vK .u32 (v/4294967296)))]) Tryz.underlying232 Tryz.sizeOf101 Tryz.zeroValue101 (by decide) (by decide) rfl (by kernel_rfl)) rfl (Af rfl) λb2=>IC Tryz.call198 (λw hw=>Rs _ 2 2 ([v%4294967296,v/4294967296]) (W32.cons (by omega) (W32.cons (by omega) (W32.nil))) (by simp) (by simp) (by simp;try omega) w (hw.get (i:=0) rfl)) rfl ?_))))
  refine AL rfl (AD.nil (AC.subF (sL [1,2] rfl) (AC.then_ (AE.ret (AC.then_ret ?_)))))
  have hpad:Av v=[v%4294967296,v/4294967296]:=by simp [Av,hc0]
  have hnw:nw v=Dh [v%4294967296,v/4294967296] 2:=by rw [<-OS (UU hc0) (m:=2) (by simp),<-P6 v,hpad];simp [val];congr 1;omega
  have hret:∀b:Nat,(Ending.returned (Value.slice (some ⟨b,0,none⟩) (Dh ([v%4294967296,v/4294967296]) 2) 2))=.returned (Value.slice (some ⟨b,0,none⟩) (nw v) (Av v).length):=λb=>by rw [hnw,hpad];rfl
  replace hret:=hret b2
  have hcells:(some (Obj.cells (Al ([v%4294967296,v/4294967296])).toArray 101 (0,0)))=some (Obj.cells (Al (Av v)).toArray 101 (0,0)):=by rw [hpad]
  exact AU rfl (Am (v:=(Value.slice (some ⟨b2,0,none⟩) (Dh ([v%4294967296,v/4294967296]) 2) 2)) rfl) (λw hw=>⟨b2,hret,hw.out,hw.fresh (i:=0) rfl,(hw.get (i:=0) rfl).trans hcells⟩)
 ·replace hc0:=of_decide_eq_false hc0
  refine AE.skip (q2 (AH (v:=(pP b1 1)) (AA rfl Tryz.underlying47 rfl Tryz.sizeOf9 rfl) rfl (BI 0 (Value.string (Bh v)) TK rfl (AH (v:=(vN ((Bh v).size))) (K6 rfl Tryz.underlying9) rfl (AD.retell (k:=20) (u:=(vN (4*nw v))) rfl (by rw [Eq hc0,Jy,B0];rfl) ?_)))))
  refine AH (GV (c:=(((4*nw v)/4:Nat):Int)) rfl rfl (by omega) (NS (a:=4*nw v) (b:=4) (by omega))) rfl (AD.retell (k:=21) (u:=(vN (nw v))) rfl (by rw [Nat.mul_div_cancel_left _ (by omega)]) (AD.openV (V:=λb2=>(Value.slice (some ⟨b2,0,none⟩) (nw v) (nw v))) (T:=101) (cs:=Al (List.replicate (nw v) 0)) (AN rfl) (Cy (m:=nw v) (c:=nw v) rfl rfl (by omega) (by omega)) rfl (Af rfl) λb2=>AL rfl (q6 (sL [1,2,3] rfl) (q4 ?_))))
  refine AO rfl (AH (v:=(vN (nw v))) (AF rfl Tryz.underlying232) rfl (AO rfl (AD.nil (AC.subF (sL [1,2,3,24,25] rfl) (AC.then_ ?_)))))
  refine AE.block ?_
  refine AE.lp2 (tg λ(i:Nat) (os:List Nat)=>i<=nw v/\os.length=nw v/\os.take i=(AJ v).take i/\∀j,i<=j->os.getD j 0=0) (tg λ(i:Nat) (os:List Nat)=>[(1,(pP b1 0)),(2,(Value.slice none 0 0)),(3,(Value.slice (some ⟨b2,0,none⟩) (nw v) (nw v))),(24,(vN (nw v))),(25,(vN i))]) (tg λ(i:Nat) (os:List Nat)=>[Ac b2 101 (Al os),Ac b1 47 (AV v)]) (tg λ(i:Nat) (os:List Nat)=>nw v-i) 0 (List.replicate (nw v) 0) (⟨Nat.zero_le _,by simp,by simp,λj _=>by simp [List.getD_eq_getElem?_getD,List.getElem?_replicate];split<;>rfl⟩) (sF rfl) sr (λi os hJ=>?_)
  obtain ⟨hin,hl,ht,h0⟩:=hJ
  refine q4 (AH (Ag (c:=(decide (i<(nw v)))) rfl rfl (DA (a:=i) (b:=nw v))) rfl (AD.nil (q1 ?_)))
  refine AE.cond rfl (λhc1=>?_) (λhc1=>?_)
  ·replace hc1:=of_decide_eq_true hc1
   refine AE.skip (q1 (AE.block (q4 (AO rfl (AL rfl ?_)))))
   refine q3 (sL [1,2,3,24,25,4] rfl) (AO rfl (AD.nil (AC.then_ (AE.block ?_))))
   refine AE.lp2 (tg λ(k:Nat) (xs:List Nat)=>k<=4/\xs=os.set i ((AJ v).getD i 0%256^k)) (tg λ(k:Nat) (xs:List Nat)=>[(1,(pP b1 0)),(2,(Value.slice none 0 0)),(3,(Value.slice (some ⟨b2,0,none⟩) (nw v) (nw v))),(24,(vN (nw v))),(25,(vN i)),(4,(vN i)),(28,(vN k))]) (tg λ(k:Nat) (xs:List Nat)=>[Ac b2 101 (Al xs),Ac b1 47 (AV v)]) (tg λ(k:Nat) (xs:List Nat)=>4-k) 0 os (⟨by omega,by rw [Nat.pow_zero,Nat.mod_one];exact TR (h0 i (Nat.le_refl _))⟩) (sF rfl) sr (λk xs hJ=>?_)
   obtain ⟨hk,hxs⟩:=hJ
   refine q4 (AH (Ag (c:=(decide (k<4))) rfl rfl (DA (a:=k) (b:=4))) rfl (AD.nil (q1 ?_)))
   refine AE.cond rfl (λhc2=>?_) (λhc2=>?_)
   ·replace hc2:=of_decide_eq_true hc2
    refine AE.skip (q1 (AE.block (q4 (AO rfl (AL rfl ?_)))))
    refine AD.nil (AC.subF (sL [1,2,3,24,25,4,28,5] rfl) (AC.then_ (C7 [(0,true),(1,true),(2,true),(4,true),(5,true),(6,true),(7,true),(8,true),(9,true),(10,true),(11,true),(12,true),(13,true),(14,true),(3,false),(15,true),(16,true),(17,false)] (sl sr) ?_)))
    have hi:i<nw v:=hc1
    have hxi:xs.getD i 0=(AJ v).getD i 0%256^k:=by rw [hxs];simp [hl,hi]
    have hxl:xs.length=nw v:=by rw [hxs];simp [hl]
    have hby:(AJ v).getD i 0/256^k%256<256:=Nat.mod_lt _ (by omega)
    have hget:(Bh v)[4*i+k]?=some (UInt8.ofNat ((AJ v).getD i 0/256^k%256)):=by rw [Eq hc0,QV (by rw [B0];show 4*i+k<4*nw v;omega),Fq _ _ _ hi hc2]
    have hw32:xs.getD i 0<4294967296:=by rw [hxi];exact Nat.lt_of_le_of_lt (Nat.mod_le _ _) ((Bn v).getD i)
    refine Bl rfl (Bl rfl (Au (v:=(pP b2 i)) rfl (AI (j:=i) rfl rfl Tryz.underlying232 Tryz.sizeOf101 rfl (by omega) (by simp)) (Au (v:=(pP b1 1)) rfl (AA rfl Tryz.underlying47 rfl Tryz.sizeOf9 rfl) (Bk 0 (Value.string (Bh v)) TK rfl (Bl rfl ?_)))))
    refine Au rfl (BZ (c:=((4*i:Nat):Int)) rfl rfl (Bq (a:=4) (b:=i) (by omega))) (Bl rfl (Au rfl (AT (c:=(((4*i)+k:Nat):Int)) rfl rfl (AR (a:=4*i) (b:=k) (by omega))) (Au (v:=(vK .u8 ((AJ v).getD i 0/256^k%256))) rfl (Hi (j:=4*i+k) (m:=(AJ v).getD i 0/256^k%256) rfl rfl Tryz.underlying9 hget hby) (Au rfl (Ar (c:=(((AJ v).getD i 0/256^k%256:Nat):Int)) rfl Tryz.underlying5 Tryz.underlying101 (CS (by omega))) (Bl rfl ?_)))))
    refine Au rfl (BZ (c:=((8*k:Nat):Int)) rfl rfl (Bq (a:=8) (b:=k) (by omega))) (Au (v:=(vK .u32 ((AJ v).getD i 0/256^k%256*2^(8*k)))) rfl (GF (s:=8*k) rfl rfl rfl (show 8*k<=32 by omega) (TY (PJ hc2))) (AP.imp rfl (AH (AK (i:=0) (v:=(vK .u32 (xs.getD i 0))) rfl rfl Tryz.isAgg101 (BH (xs:=xs) (j:=i) (by omega))) rfl (AP.back (sl sr) (Au rfl (Im (c:=(((AJ v).getD i 0%256^(k+1):Nat):Int)) rfl rfl (JD hw32 (PJ hc2) (Qk hxi))) ?_)))))
    refine Au (v:=(pP b2 i)) rfl (AI (j:=i) rfl rfl Tryz.underlying232 Tryz.sizeOf101 rfl (by omega) (by simp)) (AP.imp rfl (AD.store' (i:=0) (off:=i) (vs:=[(vK .u32 ((AJ v).getD i 0%256^(k+1)))]) (cs':=Al (xs.set i ((AJ v).getD i 0%256^(k+1)))) (L':=[Ac b2 101 (Al (xs.set i ((AJ v).getD i 0%256^(k+1)))),Ac b1 47 (AV v)]) (AN rfl) rfl rfl rfl rfl rfl Tryz.sizeOf101 rfl (Cc (BO _) (by omega)) (CD (by omega)) rfl (AP.back (sl sr) (AP.nil (AC.subF (sL [1,2,3,24,25,4,28] rfl) ?_)))))
    refine AC.in_normal (AC.then_ (AE.region (AH (AT (c:=((k+1:Nat):Int)) rfl rfl (AR (a:=k) (b:=1) (by omega))) rfl (AO rfl (AD.nil ?_)))))
    exact AC.subF (sL [1,2,3,24,25,4,28] rfl) (AC.round2 (k+1) (xs.set i ((AJ v).getD i 0%256^(k+1))) (⟨by omega,by rw [hxs,List.set_set]⟩) (by omega) (sF rfl) sr)
   ·replace hc2:=of_decide_eq_false hc2
    refine AE.exit (AC.then_exit (AC.round2_exit (AC.in_exit (AC.in_normal (AC.then_ ?_)))))
    refine AE.region (AH (AT (c:=((i+1:Nat):Int)) rfl rfl (AR (a:=i) (b:=1) (by omega))) rfl (AO rfl (AD.nil (AC.subF (sL [1,2,3,24,25,4,28] rfl) ?_))))
    have hst:=OU (ws:=AJ v) (xs:=xs) hl rfl hc1 ht h0 (by rw [hxs,show k=4 by omega];congr 1;exact Nat.mod_eq_of_lt ((Bn v).getD i))
    exact AC.round2 (i+1) xs (⟨by omega,hst.1,hst.2.1,hst.2.2⟩) (by omega) (sF rfl) sr
  ·replace hc1:=of_decide_eq_false hc1
   refine AE.exit (AC.then_exit (AC.round2_exit (AC.in_exit (q2 (AO rfl ?_)))))
   refine AL rfl (AD.nil (AC.subF (sL [1,2,3,24,25] rfl) (AC.then_ (AE.ret ?_))))
   have hpad:Av v=AJ v:=by simp [Av,hc0]
   have hos:os=AJ v:=Tu hl rfl hc1 ht
   have hret:∀b:Nat,(Ending.returned (Value.slice (some ⟨b,0,none⟩) (nw v) (nw v)))=.returned (Value.slice (some ⟨b,0,none⟩) (nw v) (Av v).length):=λb=>by rw [hpad];rfl
   replace hret:=hret b2
   have hcells:(some (Obj.cells (Al os).toArray 101 (0,0)))=some (Obj.cells (Al (Av v)).toArray 101 (0,0)):=by rw [hpad,hos]
   exact AU rfl (Am (v:=(Value.slice (some ⟨b2,0,none⟩) (nw v) (nw v))) rfl) (λw hw=>⟨b2,hret,hw.out,hw.fresh (i:=0) rfl,(hw.get (i:=0) rfl).trans hcells⟩)
end
end Go.Proofs.YtfbomiejpbchdaaGreat
