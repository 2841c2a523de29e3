import Derived.Laws.StructEq
import Derived.Test.YtfbomiejpbchdaaGreatPart06
import Derived.Test.YtfbomiejpbchdaaGreatPart08
namespace Go.Proofs.YtfbomiejpbchdaaGreat
open Go Go.RowKit
set_option linter.unusedVariables false
set_option linter.unusedSimpArgs false
section
set_option maxRecDepth 100000
theorem TL (b m c:Nat) (bs:List Nat) (hbs:W32 bs) (hm:m<=bs.length) (hc:m<=c) (hL:c<4611686018427387904) (w:World) (hb:w.heap[b]?=some (.cells (Ao bs).toArray 101 (0,0))):Calls Tryz.prog 198 #[(Value.slice (some ⟨b,0,none⟩) m c)] w (Am w (Value.slice (some ⟨b,0,none⟩) (Dz bs m) c)):=by
 refine Ac (args:=[(Value.slice (some ⟨b,0,none⟩) m c)]) Tryz.func198 rfl rfl (Ad rfl) (AG.subF (sL [0] rfl) (q4 (AK rfl (AF.nil (q1 ?_)))))
 refine AG.block ?_
 refine AG.lp1 (tg λ(k:Nat)=>k<=m/\Dz bs k=Dz bs m) (tg λ(k:Nat)=>[(2,(Value.slice none 0 0)),(0,(Value.slice (some ⟨b,0,none⟩) k c))]) (tg λ(k:Nat)=>[]) (tg λ(k:Nat)=>k) m (⟨Nat.le_refl _,rfl⟩) (sF rfl) sr (λk hJ=>?_)
 obtain ⟨hk,hv⟩:=hJ
 refine AG.seq (q4 (AO rfl (AJ (v:=(vN k)) (AI rfl Tryz.underlying232) rfl (AJ (CK (c:=(decide (0<k))) rfl rfl (DL (a:=0) (b:=k))) rfl (AO rfl ?_)))))
 refine AF.mid (FM:=[(2,(Value.slice none 0 0)),(0,(Value.slice (some ⟨b,0,none⟩) k c)),(3,(Value.slice (some ⟨b,0,none⟩) k c)),(4,(vN k)),(5,(Value.bool (decide (0<k)))),(6,(Value.bool (decide (0<k)))),(14,(Value.bool ((decide (0<k))&&(decide ((bs.getD (k-1) 0)=0)))))]) (LM:=[]) 8 ?_ ?_
 ·rcases Bool.eq_false_or_eq_true (decide (0<k)) with hg1|hg1
  ·skip
   refine AF.retell (k:=6) (u:=Value.bool true) rfl (by rw [hg1]) ?_
   have hg1':=hg1
   replace hg1':=of_decide_eq_true hg1'
   refine AF.step (v:=(Value.slice (some ⟨b,0,none⟩) k c)) (AB rfl) (A9 rfl) rfl (Ad rfl) (AF.step (v:=(Value.slice (some ⟨b,0,none⟩) k c)) (AB rfl) (A9 rfl) rfl (Ad rfl) (AF.step (v:=(vN k)) (AB rfl) (AI rfl Tryz.underlying232) rfl (Ad rfl) (AF.step (v:=(vN (k-1))) (AB rfl) (BS (c:=((k-1:Nat):Int)) rfl rfl (Cm (a:=k) (b:=1) (by omega) (by omega))) rfl (Ad rfl) (AF.step (v:=(pP b (k-1))) (AB rfl) (AH (j:=k-1) rfl rfl Tryz.underlying232 Tryz.sizeOf101 rfl (by omega) (by simp)) rfl (Ad rfl) ?_))))
   have hx1:bs.getD (k-1) 0<4294967296:=W32.getD hbs (k-1)
   exact AF.step (v:=(vK .u32 (bs.getD (k-1) 0))) (AB rfl) (Bf (v:=(vK .u32 (bs.getD (k-1) 0))) rfl (λw' hw=>CA.at0 (hw.oldCA (by simp) (Ei hb)) (BM (xs:=bs) (j:=(k-1)) (by omega))) Tryz.isAgg101) rfl (Ad rfl) (AF.step (v:=(Value.bool (decide ((bs.getD (k-1) 0)=0)))) (AB rfl) (Be (c:=(decide ((bs.getD (k-1) 0)=0))) rfl rfl (Og (a:=bs.getD (k-1) 0) (b:=0))) rfl (Ad rfl) (AJ (v:=(Value.bool (decide ((bs.getD (k-1) 0)=0)))) (Aj rfl rfl) rfl (AF.nil (AC.mid (sS rfl (sS rfl (sS rfl (sS rfl (sS rfl (sS (by first|rfl|(rw [hg1];rfl)|rw [hg1]) (sS (by first|rfl|(rw [hg1];rfl)|rw [hg1]) (sN)))))))) (List.Sublist.refl _)))))
  ·skip
   refine AF.retell (k:=6) (u:=Value.bool false) rfl (by rw [hg1]) ?_
   have hg1':=hg1
   replace hg1':=of_decide_eq_false hg1'
   refine AF.skip (AP rfl) rfl (Ad rfl) (AF.skip (AP rfl) rfl (Ad rfl) (AF.skip (AP rfl) rfl (Ad rfl) (AF.skip (AP rfl) rfl (Ad rfl) (AF.skip (AP rfl) rfl (Ad rfl) (AF.skip (AP rfl) rfl (Ad rfl) ?_)))))
   exact AF.skip (AP rfl) rfl (Ad rfl) (AJ (v:=(Value.bool false)) (AV rfl rfl) rfl (AF.nil (AC.mid (sS rfl (sS rfl (sS rfl (sS rfl (sS rfl (sS (by first|rfl|(rw [hg1];rfl)|rw [hg1]) (sS (by first|rfl|(rw [hg1];rfl)|rw [hg1]) (sN)))))))) (List.Sublist.refl _))))
 refine AF.nil (AC.subF (sL [2,0,14] rfl) (AC.then_ ?_))
 refine AG.cond rfl (λhc0=>?_) (λhc0=>?_)
 ·simp only [Bool.and_eq_true,Bool.or_eq_true,Bool.and_eq_false_iff,Bool.or_eq_false_iff,Bool.not_eq_true',Bool.not_eq_false',decide_eq_true_eq,decide_eq_false_iff_not] at hc0
  refine AG.skip (AC.then_ (AG.block (AG.region (AO rfl (AO rfl ?_)))))
  refine AJ (v:=(vN k)) (AI rfl Tryz.underlying232) rfl (AJ (BS (c:=((k-1:Nat):Int)) rfl rfl (Cm (a:=k) (b:=1) (by omega) (by omega))) rfl (AJ (v:=(Value.slice (some ⟨b,0,none⟩) (k-1) c)) (I_ (m:=k-1) rfl rfl Tryz.underlying232 Tryz.sizeOf101 (by omega)) rfl (AK rfl (AF.nil (AC.subF (sL [2,0] rfl) ?_)))))
  exact AC.in_normal (AC.round1 (k-1) (⟨by omega,by rw [<-R3 hc0.1 hc0.2];exact hv⟩) (by omega) (sF rfl) sr)
 ·simp only [Bool.and_eq_true,Bool.or_eq_true,Bool.and_eq_false_iff,Bool.or_eq_false_iff,Bool.not_eq_true',Bool.not_eq_false',decide_eq_true_eq,decide_eq_false_iff_not] at hc0
  have hstop:Dz bs k=k:=Qw (by omega)
  refine AG.exit (AC.then_exit (AC.round1_exit (AC.in_exit (q2 (AO rfl ?_)))))
  exact AK rfl (AF.nil (AC.subF (sL [2,0] rfl) (AC.then_ (AG.ret (AR rfl (Ai (v:=(Value.slice (some ⟨b,0,none⟩) k c)) rfl) (λw hw=>⟨by rw [<-hv,hstop],hw.out⟩))))))
theorem Kw (x y c:Nat) (hx:x<4294967296) (hy:y<4294967296) (hc:c<=1) (w:World)  :Calls Tryz.prog 200 #[(vK .u32 x),(vK .u32 y),(vK .u32 c)] w (Am w (Value.tuple #[(vK .u32 ((x+y+c)%4294967296)),(vK .u32 ((x+y+c)/4294967296))])):=by
 refine Ac (args:=[(vK .u32 x),(vK .u32 y),(vK .u32 c)]) Tryz.func200 rfl rfl (Ad rfl) (AG.subF (sL [0,1,2] rfl) (q4 (AK rfl (AK rfl (AF.nil ?_)))))
 refine q2 (AO rfl (AJ (Az (c:=((x:Nat):Int)) rfl Tryz.underlying101 Tryz.underlying45 (Ba (by omega))) rfl (AO rfl (AJ (Az (c:=((y:Nat):Int)) rfl Tryz.underlying101 Tryz.underlying45 (Ba (by omega))) rfl (AJ (AX (c:=((x+y:Nat):Int)) rfl rfl (De (a:=x) (b:=y) (by omega))) rfl ?_)))))
 refine AO rfl (AJ (Az (c:=((c:Nat):Int)) rfl Tryz.underlying101 Tryz.underlying45 (Ba (by omega))) rfl (AJ (AX (c:=(((x+y)+c:Nat):Int)) rfl rfl (De (a:=x+y) (b:=c) (by omega))) rfl (AK rfl (q3 (sL [6,7,8] rfl) (AO rfl ?_)))))
 refine AJ (Az (c:=((((x+y)+c)%4294967296:Nat):Int)) rfl Tryz.underlying45 Tryz.underlying101 EY) rfl (AK rfl (q3 (sL [6,7,8] rfl) (AO rfl (AJ (Cu (s:=32) (c:=((((x+y)+c)/4294967296:Nat):Int)) rfl rfl rfl (by decide) (F2 (a:=(x+y)+c) (s:=32))) rfl (AJ (Az (c:=((((x+y)+c)/4294967296:Nat):Int)) rfl Tryz.underlying45 Tryz.underlying101 (CY (by omega))) rfl ?_)))))
 exact AK rfl (AF.nil (AC.subF (sL [6,7,8] rfl) (AC.then_ (AG.ret (Ct rfl (Ai (v:=(vK .u32 (((x+y)+c)%4294967296))) rfl) (Ai (v:=(vK .u32 (((x+y)+c)/4294967296))) rfl) (λw hw=>⟨rfl,hw.out⟩))))))
theorem KE (x y c d:Nat) (hx:x<4294967296) (hy:y<4294967296) (hc:c<=1) (hd:d=(x+(4294967296-y)+(4294967296-c))%4294967296) (w:World)  :Calls Tryz.prog 197 #[(vK .u32 x),(vK .u32 y),(vK .u32 c)] w (Am w (Value.tuple #[(vK .u32 d),(vK .u32 (JB x (y+c)))])):=by
 have hd2:d<4294967296:=by omega
 have hb:=TT hx hy hc hd
 have hx1:4294967295 ^^^ x<4294967296:=Nat.xor_lt_two_pow (n:=32) (by omega) hx
 have hx2:x ^^^ y<4294967296:=Nat.xor_lt_two_pow (n:=32) hx hy
 have hx3:4294967295 ^^^ (x ^^^ y)<4294967296:=Nat.xor_lt_two_pow (n:=32) (by omega) hx2
 have hx4:(4294967295 ^^^ x) &&& y<4294967296:=Nat.lt_of_le_of_lt Nat.and_le_right hy
 have hx5:(4294967295 ^^^ (x ^^^ y)) &&& d<4294967296:=Nat.lt_of_le_of_lt Nat.and_le_right hd2
 refine Ac (args:=[(vK .u32 x),(vK .u32 y),(vK .u32 c)]) Tryz.func197 rfl rfl (Ad rfl) (AG.subF (sL [0,1,2] rfl) (q4 (AK rfl (AK rfl (AF.nil ?_)))))
 refine q2 (AO rfl (AO rfl (AJ (BS (c:=(((x+(4294967296-y))%4294967296:Nat):Int)) rfl rfl (Oc (by omega))) rfl (AO rfl (AJ (BS (c:=((d:Nat):Int)) rfl rfl (by rw [Oc (by omega),hd];exact congrArg Int.ofNat (by omega))) rfl ?_)))))
 refine AK rfl (q3 (sL [0,1,6,7] rfl) (AO rfl (AJ (TH (c:=((4294967295 ^^^ x:Nat):Int)) rfl (N2 hx)) rfl (AO rfl (AJ (Kj (c:=(((4294967295 ^^^ x) &&& y:Nat):Int)) rfl rfl (OF hx1 hy)) rfl ?_)))))
 refine AO rfl (AO rfl (AJ (XU (c:=((x ^^^ y:Nat):Int)) rfl rfl (OG hx hy)) rfl (AJ (TH (c:=((4294967295 ^^^ (x ^^^ y):Nat):Int)) rfl (N2 hx2)) rfl (AO rfl (AJ (Kj (c:=(((4294967295 ^^^ (x ^^^ y)) &&& d:Nat):Int)) rfl rfl (OF hx3 hd2)) rfl ?_)))))
 refine AJ (I8 (c:=(((4294967295 ^^^ x) &&& y ||| (4294967295 ^^^ (x ^^^ y)) &&& d:Nat):Int)) rfl rfl (JW hx4 hx5 rfl)) rfl (AJ (Cu (s:=31) (c:=((((4294967295 ^^^ x) &&& y ||| (4294967295 ^^^ (x ^^^ y)) &&& d)/2147483648:Nat):Int)) rfl rfl rfl (by decide) (F2 (a:=(4294967295 ^^^ x) &&& y ||| (4294967295 ^^^ (x ^^^ y)) &&& d) (s:=31))) rfl (AK rfl (AF.nil (AC.subF (sL [0,1,6,7] rfl) (AC.then_ ?_)))))
 exact AG.ret (Ct rfl (Ai (v:=(vK .u32 d)) rfl) (Ai (v:=(vK .u32 (((4294967295 ^^^ x) &&& y ||| (4294967295 ^^^ (x ^^^ y)) &&& d)/2147483648))) rfl) (λw hw=>⟨by rw [<-hb],hw.out⟩))
theorem UM (x y:Nat) (hx:x<18446744073709551616) (hy:y<18446744073709551616) (w:World)  :Calls Tryz.prog 148 #[(vK .u64 x),(vK .u64 y)] w (Am w (Value.tuple #[(vK .u64 (x*y/18446744073709551616)),(vK .u64 (x*y%18446744073709551616))])):=by
 have h1:=KY (a:=x%4294967296) (b:=y%4294967296) (by omega) (by omega)
 have h2:=KY (a:=x/4294967296) (b:=y%4294967296) (by omega) (by omega)
 have h3:=KY (a:=x%4294967296) (b:=y/4294967296) (by omega) (by omega)
 have h4:=KY (a:=x/4294967296) (b:=y/4294967296) (by omega) (by omega)
 have hh:=Uu x y
 have hh2:x*y/18446744073709551616<18446744073709551616:=Nat.div_lt_of_lt_mul (Nat.mul_lt_mul'' hx hy)
 refine Ac (args:=[(vK .u64 x),(vK .u64 y)]) Tryz.func148 rfl rfl (Ad rfl) (AG.subF (sL [0,1] rfl) (q4 (AK rfl (AK rfl (AF.nil ?_)))))
 refine q2 (AO rfl (AJ (Kj (c:=((x%4294967296:Nat):Int)) rfl rfl (Im (a:=x) (by omega))) rfl (AK rfl (q3 (sL [0,1,4,5,6] rfl) (AO rfl ?_)))))
 refine AJ (Cu (s:=32) (c:=((x/4294967296:Nat):Int)) rfl rfl rfl (by decide) (F2 (a:=x) (s:=32))) rfl (AK rfl (q3 (sL [0,1,4,5,6,7] rfl) (AO rfl (AJ (Kj (c:=((y%4294967296:Nat):Int)) rfl rfl (Im (a:=y) (by omega))) rfl (AK rfl ?_)))))
 refine q3 (sL [0,1,4,5,6,7,8] rfl) (AO rfl (AJ (Cu (s:=32) (c:=((y/4294967296:Nat):Int)) rfl rfl rfl (by decide) (F2 (a:=y) (s:=32))) rfl (AK rfl (q3 (sL [0,1,4,5,6,7,8,9] rfl) (AO rfl ?_)))))
 refine AO rfl (AJ (Bq (c:=(((x%4294967296)*(y%4294967296):Nat):Int)) rfl rfl (FN (a:=x%4294967296) (b:=y%4294967296) (by omega))) rfl (AK rfl (q3 (sL [0,1,4,5,6,7,8,9,10] rfl) (AO rfl (AO rfl ?_)))))
 refine AJ (Bq (c:=(((x/4294967296)*(y%4294967296):Nat):Int)) rfl rfl (FN (a:=x/4294967296) (b:=y%4294967296) (by omega))) rfl (AO rfl (AJ (Cu (s:=32) (c:=((((x%4294967296)*(y%4294967296))/4294967296:Nat):Int)) rfl rfl rfl (by decide) (F2 (a:=(x%4294967296)*(y%4294967296)) (s:=32))) rfl (AJ (AX (c:=((((x/4294967296)*(y%4294967296))+(((x%4294967296)*(y%4294967296))/4294967296):Nat):Int)) rfl rfl (De (a:=(x/4294967296)*(y%4294967296)) (b:=((x%4294967296)*(y%4294967296))/4294967296) (by omega))) rfl (AK rfl (q3 (sL [0,1,4,5,6,7,8,9,11] rfl) ?_)))))
 refine AO rfl (AJ (Kj (c:=(((((x/4294967296)*(y%4294967296))+(((x%4294967296)*(y%4294967296))/4294967296))%4294967296:Nat):Int)) rfl rfl (Im (a:=((x/4294967296)*(y%4294967296))+(((x%4294967296)*(y%4294967296))/4294967296)) (by omega))) rfl (AK rfl (q3 (sL [0,1,4,5,6,7,8,9,11,12] rfl) (AO rfl (AJ (Cu (s:=32) (c:=(((((x/4294967296)*(y%4294967296))+(((x%4294967296)*(y%4294967296))/4294967296))/4294967296:Nat):Int)) rfl rfl rfl (by decide) (F2 (a:=((x/4294967296)*(y%4294967296))+(((x%4294967296)*(y%4294967296))/4294967296)) (s:=32))) rfl ?_)))))
 refine AK rfl (q3 (sL [0,1,4,5,6,7,8,9,11,12,13] rfl) (AO rfl (AO rfl (AO rfl (AJ (Bq (c:=(((x%4294967296)*(y/4294967296):Nat):Int)) rfl rfl (FN (a:=x%4294967296) (b:=y/4294967296) (by omega))) rfl ?_)))))
 refine AJ (AX (c:=((((((x/4294967296)*(y%4294967296))+(((x%4294967296)*(y%4294967296))/4294967296))%4294967296)+((x%4294967296)*(y/4294967296)):Nat):Int)) rfl rfl (De (a:=(((x/4294967296)*(y%4294967296))+(((x%4294967296)*(y%4294967296))/4294967296))%4294967296) (b:=(x%4294967296)*(y/4294967296)) (by omega))) rfl (AK rfl (q3 (sL [0,1,4,5,6,7,8,9,11,12,13] rfl) (AO rfl (AO rfl (AJ (Bq (c:=(((x/4294967296)*(y/4294967296):Nat):Int)) rfl rfl (FN (a:=x/4294967296) (b:=y/4294967296) (by omega))) rfl ?_)))))
 refine AO rfl (AJ (AX (c:=((((x/4294967296)*(y/4294967296))+((((x/4294967296)*(y%4294967296))+(((x%4294967296)*(y%4294967296))/4294967296))/4294967296):Nat):Int)) rfl rfl (De (a:=(x/4294967296)*(y/4294967296)) (b:=(((x/4294967296)*(y%4294967296))+(((x%4294967296)*(y%4294967296))/4294967296))/4294967296) (by omega))) rfl (AO rfl (AJ (Cu (s:=32) (c:=(((((((x/4294967296)*(y%4294967296))+(((x%4294967296)*(y%4294967296))/4294967296))%4294967296)+((x%4294967296)*(y/4294967296)))/4294967296:Nat):Int)) rfl rfl rfl (by decide) (F2 (a:=((((x/4294967296)*(y%4294967296))+(((x%4294967296)*(y%4294967296))/4294967296))%4294967296)+((x%4294967296)*(y/4294967296))) (s:=32))) rfl (AJ (AX (c:=((x*y/18446744073709551616:Nat):Int)) rfl rfl (by rw [<-Int.natCast_add,hh];exact Ba hh2)) rfl (AK rfl ?_)))))
 refine q3 (sL [0,1,4,5,6,7,8,9,11,12] rfl) (AO rfl (AO rfl (AJ (Bq (c:=((x*y%18446744073709551616:Nat):Int)) rfl rfl Tu) rfl (AK rfl (AF.nil ?_)))))
 exact AC.subF (sL [0,1,4,5,6,7,8,9,11,12] rfl) (AC.then_ (AG.ret (Ct rfl (Ai (v:=(vK .u64 (x*y/18446744073709551616))) rfl) (Ai (v:=(vK .u64 (x*y%18446744073709551616))) rfl) (λw hw=>⟨rfl,hw.out⟩))))
theorem U0 (hi lo y:Nat) (hh:hi<y) (hl:lo<4294967296) (hy:y<4294967296) (w:World)  :Calls Tryz.prog 238 #[(vK .u32 hi),(vK .u32 lo),(vK .u32 y)] w (Am w (Value.tuple #[(vK .u32 ((hi*4294967296+lo)/y)),(vK .u32 ((hi*4294967296+lo)%y))])):=by
 refine Ac (args:=[(vK .u32 hi),(vK .u32 lo),(vK .u32 y)]) Tryz.func238 rfl rfl (Ad rfl) (AG.subF (sL [0,1,2] rfl) (q4 (AK rfl (AK rfl (AF.nil ?_)))))
 refine q1 (q4 (AO rfl (AJ (B8 (c:=(decide (y≠0))) rfl rfl (Zt (a:=y) (b:=0))) rfl (AO rfl ?_))))
 refine AF.mid (FM:=[(0,(vK .u32 hi)),(1,(vK .u32 lo)),(2,(vK .u32 y)),(6,(Value.int .u32 (0:Int))),(7,(Value.int .u32 (0:Int))),(9,(vK .u32 y)),(10,(Value.bool (decide (y≠0)))),(11,(Value.bool (decide (y≠0)))),(15,(Value.bool ((decide (y≠0))&&(decide (y<=hi)))))]) (LM:=[]) 4 ?_ ?_
 ·rcases Bool.eq_false_or_eq_true (decide (y≠0)) with hg1|hg1
  ·skip
   refine AF.retell (k:=11) (u:=Value.bool true) rfl (by rw [hg1]) ?_
   have hg1':=hg1
   replace hg1':=of_decide_eq_true hg1'
   exact AF.step (v:=(vK .u32 y)) (AB rfl) (A9 rfl) rfl (Ad rfl) (AF.step (v:=(vK .u32 hi)) (AB rfl) (A9 rfl) rfl (Ad rfl) (AF.step (v:=(Value.bool (decide (y<=hi)))) (AB rfl) (HX (c:=(decide (y<=hi))) rfl rfl (Vy (a:=y) (b:=hi))) rfl (Ad rfl) (AJ (v:=(Value.bool (decide (y<=hi)))) (Aj rfl rfl) rfl (AF.nil (AC.mid (sS rfl (sS rfl (sS rfl (sS rfl (sS rfl (sS rfl (sS rfl (sS (by first|rfl|(rw [hg1];rfl)|rw [hg1]) (sS (by first|rfl|(rw [hg1];rfl)|rw [hg1]) (sN)))))))))) (List.Sublist.refl _))))))
  ·skip
   refine AF.retell (k:=11) (u:=Value.bool false) rfl (by rw [hg1]) ?_
   have hg1':=hg1
   replace hg1':=of_decide_eq_false hg1'
   exact AF.skip (AP rfl) rfl (Ad rfl) (AF.skip (AP rfl) rfl (Ad rfl) (AF.skip (AP rfl) rfl (Ad rfl) (AJ (v:=(Value.bool false)) (AV rfl rfl) rfl (AF.nil (AC.mid (sS rfl (sS rfl (sS rfl (sS rfl (sS rfl (sS rfl (sS rfl (sS (by first|rfl|(rw [hg1];rfl)|rw [hg1]) (sS (by first|rfl|(rw [hg1];rfl)|rw [hg1]) (sN)))))))))) (List.Sublist.refl _))))))
 refine AF.nil (AC.subF (sL [0,1,2,6,7,15] rfl) (AC.then_ ?_))
 refine AG.cond rfl (λhc0=>?_) (λhc0=>?_)
 ·simp only [Bool.and_eq_true,Bool.or_eq_true,Bool.and_eq_false_iff,Bool.or_eq_false_iff,Bool.not_eq_true',Bool.not_eq_false',decide_eq_true_eq,decide_eq_false_iff_not] at hc0
  exfalso;omega
 ·simp only [Bool.and_eq_true,Bool.or_eq_true,Bool.and_eq_false_iff,Bool.or_eq_false_iff,Bool.not_eq_true',Bool.not_eq_false',decide_eq_true_eq,decide_eq_false_iff_not] at hc0
  refine AG.skip (q2 (AO rfl (AJ (Az (c:=((hi:Nat):Int)) rfl Tryz.underlying101 Tryz.underlying45 (Ba (by omega))) rfl (AJ (v:=(vK .u64 (hi*4294967296))) (Gx (s:=32) rfl rfl rfl (by decide) (Ge (s:=32) (by omega))) rfl (AO rfl ?_)))))
  refine AJ (Az (c:=((lo:Nat):Int)) rfl Tryz.underlying101 Tryz.underlying45 (Ba (by omega))) rfl (AJ (I8 (c:=((hi*4294967296+lo:Nat):Int)) rfl rfl (Jn (by omega) (by omega) (by rw [Nat.or_comm,Nat.add_comm];exact HZ (s:=32) (by omega)))) rfl ?_)
  have hq:(hi*4294967296+lo)/y<4294967296:=Nat.div_lt_of_lt_mul (by have h9:(hi+1)*4294967296<=y*4294967296:=Nat.mul_le_mul_right _ hh;omega)
  have hr:(hi*4294967296+lo)%y<y:=Nat.mod_lt _ (by omega)
  refine AK rfl (q6 (sL [0,2,6,7,8] rfl) (Cq [(0,true),(1,true),(2,true),(3,true),(4,true),(5,true),(6,true),(7,true),(8,true),(9,true),(10,true),(11,true)] sr (Bc rfl (Bc rfl (Av rfl (Az (c:=((y:Nat):Int)) rfl Tryz.underlying101 Tryz.underlying45 (Ba (by omega))) ?_)))))
  refine Av rfl (GH (c:=(((hi*4294967296+lo)/y:Nat):Int)) rfl rfl (by omega) (KO (a:=hi*4294967296+lo) (b:=y) (by omega))) (Av rfl (Az (c:=(((hi*4294967296+lo)/y:Nat):Int)) rfl Tryz.underlying45 Tryz.underlying101 (CY (by omega))) (Bc rfl (Bc rfl (Av rfl (Az (c:=((y:Nat):Int)) rfl Tryz.underlying101 Tryz.underlying45 (Ba (by omega))) (Av rfl (CF (c:=(((hi*4294967296+lo)%y:Nat):Int)) rfl rfl (by omega) (Ie (a:=hi*4294967296+lo) (b:=y))) ?_)))))
  refine Av rfl (Az (c:=(((hi*4294967296+lo)%y:Nat):Int)) rfl Tryz.underlying45 Tryz.underlying101 (CY (by omega))) (FO rfl (FO rfl (AS.nil (AC.subF (sL [0,2,6,7] rfl) (AC.then_ ?_)))))
  exact AG.ret (Ct rfl (Ai (v:=(vK .u32 ((hi*4294967296+lo)/y))) rfl) (Ai (v:=(vK .u32 ((hi*4294967296+lo)%y))) rfl) (λw hw=>⟨rfl,hw.out⟩))
theorem U8 (x:Nat) (hx:x<4294967296) (w:World)  :Calls Tryz.prog 191 #[(vK .u32 x)] w (Am w (vN (bl x))):=by
 refine Ac (args:=[(vK .u32 x)]) Tryz.func191 rfl rfl (Ad rfl) (AG.subF (sL [0] rfl) (q4 (AK rfl (AF.nil (q1 ?_)))))
 refine q4 (AO rfl (AJ (DT (c:=(decide (65536<=x))) rfl rfl (Vy (a:=65536) (b:=x))) rfl (AF.nil (AC.subF (sL [0,2,4] rfl) (AC.then_ ?_)))))
 refine AG.jn2 (tg λ(u:Nat) (n:Nat)=>u<65536/\n<=16/\bl x=bl u+n) (tg λ(u:Nat) (n:Nat)=>[(0,(vK .u32 u)),(2,(vN n))]) (tg λ(u:Nat) (n:Nat)=>[]) ?_ ?_
 ·skip
  refine AG.cond rfl (λhc0=>?_) (λhc0=>?_)
  ·replace hc0:=of_decide_eq_true hc0
   refine q4 (AO rfl (AJ (Cu (s:=16) (c:=((x/65536:Nat):Int)) rfl rfl rfl (by decide) (F2 (a:=x) (s:=16))) rfl (AK rfl (AF.nil (AC.subF (sL [0,2] rfl) ?_)))))
   exact AC.then_ (AG.region (AK rfl (AF.nil (AC.join2 (x/65536) 16 (⟨by omega,by omega,Nt (k:=16) hc0⟩) (sF rfl) sr))))
  ·replace hc0:=of_decide_eq_false hc0
   exact AG.skip (AC.join2 x 0 (⟨by omega,by omega,rfl⟩) (sF rfl) sr)
 ·intro u n hJ
  obtain ⟨hu,hn,hv⟩:=hJ
  refine q1 (q4 (AO rfl (AJ (DT (c:=(decide (256<=u))) rfl rfl (Vy (a:=256) (b:=u))) rfl (AF.nil (AC.subF (sL [0,2,8] rfl) ?_)))))
  refine AC.then_ ?_
  refine AG.jn2 (tg λ(u2:Nat) (n2:Nat)=>u2<256/\n2<=24/\bl x=bl u2+n2) (tg λ(u2:Nat) (n2:Nat)=>[(0,(vK .u32 u2)),(2,(vN n2))]) (tg λ(u2:Nat) (n2:Nat)=>[]) ?_ ?_
  ·skip
   refine AG.cond rfl (λhc1=>?_) (λhc1=>?_)
   ·replace hc1:=of_decide_eq_true hc1
    refine q4 (AO rfl (AJ (Cu (s:=8) (c:=((u/256:Nat):Int)) rfl rfl rfl (by decide) (F2 (a:=u) (s:=8))) rfl (AK rfl (AF.nil (AC.subF (sL [0,2] rfl) ?_)))))
    refine AC.then_ (AG.region (AO rfl (AJ (AX (c:=((n+8:Nat):Int)) rfl rfl (Ab (a:=n) (b:=8) (by omega))) rfl (AK rfl (AF.nil ?_)))))
    exact AC.subF (sL [0,2] rfl) (AC.join2 (u/256) (n+8) (⟨by omega,by omega,by rw [hv,YK hc1];omega⟩) (sF rfl) sr)
   ·replace hc1:=of_decide_eq_false hc1
    exact AG.skip (AC.join2 u n (⟨by omega,by omega,hv⟩) (sF rfl) sr)
  ·intro u2 n2 hJ
   obtain ⟨hu2,hn2,hv2⟩:=hJ
   refine q2 (AO rfl (AO rfl (AJ (Az (c:=((u2:Nat):Int)) rfl Tryz.underlying101 Tryz.underlying5 (Sn (by omega))) rfl ?_)))
   have hb8:bl u2<=8:=TQ (k:=8) hu2
   refine AJ (v:=(vK .u8 (bl u2))) (GF (j:=u2) (m:=bl u2) rfl rfl Tryz.underlying9 (X4 (by kernel_rfl) hu2) (by omega)) rfl (AJ (Az (c:=((bl u2:Nat):Int)) rfl Tryz.underlying5 Tryz.underlying3 (CZ (by omega))) rfl (AJ (AX (c:=((bl x:Nat):Int)) rfl rfl (by rw [hv2,Int.add_comm,<-Int.natCast_add];exact CZ (by omega))) rfl (AK rfl (AF.nil (AC.subF (sL [0,2] rfl) ?_)))))
   exact AC.then_ (AG.ret (AR rfl (Ai (v:=(vN (bl x))) rfl) (λw hw=>⟨rfl,hw.out⟩)))
theorem WD (x:Nat) (hx:x<4294967296) (w:World)  :Calls Tryz.prog 239 #[(vK .u32 x)] w (Am w (vN (32-bl x))):=by
 have hb:=TQ (k:=32) hx
 refine Ac (args:=[(vK .u32 x)]) Tryz.func239 rfl rfl (Ad rfl) (AG.subF (sL [0] rfl) (q4 (AK rfl (AF.nil (q2 ?_)))))
 refine AO rfl (BU Tryz.call191 (U8 _ (by omega)) rfl (AJ (BS (c:=((32-(bl x):Nat):Int)) rfl rfl (Cm (a:=32) (b:=bl x) (by omega) (by omega))) rfl (AK rfl (AF.nil (AC.subF (sL [2] rfl) ?_)))))
 exact AC.then_ (AG.ret (AR rfl (Ai (v:=(vN (32-(bl x)))) rfl) (λw hw=>⟨rfl,hw.out⟩)))
theorem XC (z:Int) (hz:-9223372036854775808<=z) (hz2:z<9223372036854775808) (w:World)  :Calls Tryz.prog 255 #[(vI z)] w (Am w (vI z.sign)):=by
 refine Ac (args:=[(vI z)]) Tryz.func255 rfl rfl (Ad rfl) (AG.subF (sL [0] rfl) (q4 (AK rfl (AF.nil (q2 ?_)))))
 refine AO rfl (AJ (Gq (c:=(if z<1 then z else 1)) rfl rfl rfl) rfl (AJ (GO (c:=z.sign) rfl rfl (UP z)) rfl (AK rfl (AF.nil (AC.subF (sL [2] rfl) ?_)))))
 exact AC.then_ (AG.ret (AR rfl (Ai (v:=(vI z.sign)) rfl) (λw hw=>⟨rfl,hw.out⟩)))
end
section
section
variable {P:Program} {n:Nat} {F:List (Nat×Value)} {w0:BP} {L:List As} {x y:Operand} {d:Option Tmp} {t:TypeId} {p:String} {af:Array Edge} {g:Option (Nat×Bool)}
def Ee (P:Program) (D:Nat) (T:TypeId) (u v:Value) (b:Bool):Prop:=∀w,(Op.equalIn D T u v).run P w=.ok b w
def If (P:Program) (D:Nat) (xs ys:List Value) (fs:List Field) (b:Bool):Prop:=∀w,(Op.eqFields D xs.toArray ys.toArray fs).run P w=.ok b w
theorem Ee.int {D:Nat} {T:TypeId} {k k':IntKind} {a b:Int} (h:P.underlying T=some (.int k')):Ee P (D+1) T (.int k a) (.int k b) (a == b):=λw=>run_equalIn_int w D T k k' a b h
theorem Ee.bool {D:Nat} {T:TypeId} {a b:Bool} (h:P.underlying T=some .bool):Ee P (D+1) T (.bool a) (.bool b) (a == b):=λw=>run_equalIn_bool' w D T a b h
theorem Ee.str {D:Nat} {T:TypeId} {a b:ByteArray} (h:P.underlying T=some .string):Ee P (D+1) T (.string a) (.string b) (a.toList == b.toList):=λw=>run_equalIn_string w D T a b h
theorem Ee.struct {D:Nat} {T:TypeId} {xs ys:List Value} {b:Bool} {fs:Array Field} (hu:P.underlying T=some (.struct fs)) (hp:P.stoodInHeld T=false) (h:If P D xs ys fs.toList b):Ee P (D+1) T (.agg xs.toArray) (.agg ys.toArray) b:=λw=>by
  have e:P.fieldsOf T=fs:=by simp [Program.fieldsOf,hu]
  rw [run_equalIn_struct w D T _ _ (by rw [e];exact hu) hp,e];exact h w
theorem If.nil {D:Nat} {xs ys:List Value}:If P D xs ys [] true:=λw=>rfl
theorem If.one {D : Nat} {xs ys : List Value} {f : Field} {fs : List Field} {a b : Value} {r s : Bool} (hn : f.name ≠ "_") (hg : ∀ w, (isAgg f.type).run P w = .ok false w) (ha : xs[f.offset]? = some a) (hb : ys[f.offset]? = some b)
    (h:Ee P D f.type a b r) (h2:If P D xs ys fs s):If P D xs ys (f::fs) (r&&s):=λw=>by
  have e1:(part f.type xs.toArray f.offset).run P w=.ok a w:=by simp [part,hg,ha]
  have e2:(part f.type ys.toArray f.offset).run P w=.ok b w:=by simp [part,hg,hb]
  simp only [Op.eqFields,Sem.run_ite,if_pos hn,Sem.run_bind,e1,e2,Result.andThen_ok,h w]
  cases r
  · simp
  · simp [h2 w]
theorem If.agg {D k : Nat} {xs ys us bs : List Value} {f : Field} {fs : List Field} {r s : Bool} (hn : f.name ≠ "_") (hg : ∀ w, (isAgg f.type).run P w = .ok true w) (hs : ∀ w, (sizeOf f.type).run P w = .ok k w)
    (ha:(xs.drop f.offset).take k=us) (hb:(ys.drop f.offset).take k=bs)
    (h:Ee P D f.type (.agg us.toArray) (.agg bs.toArray) r) (h2:If P D xs ys fs s):If P D xs ys (f::fs) (r&&s):=λw=>by
  have ex:∀l:List Value,l.toArray.extract f.offset (f.offset+k)=((l.drop f.offset).take k).toArray:=λl=>by simp [List.extract_eq_take_drop]
  have e1:(part f.type xs.toArray f.offset).run P w=.ok (.agg us.toArray) w:=by simp [part,hg,hs,ex,ha]
  have e2:(part f.type ys.toArray f.offset).run P w=.ok (.agg bs.toArray) w:=by simp [part,hg,hs,ex,hb]
  simp only [Op.eqFields,Sem.run_ite,if_pos hn,Sem.run_bind,e1,e2,Result.andThen_ok,h w]
  cases r
  · simp
  · simp [h2 w]
theorem Bj {xs ys:List Value} {c:Bool} {tx ty:TypeId} (hx:evF F x=some (.agg xs.toArray)) (hy:evF F y=some (.agg ys.toArray)) (hg:P.eqGuardType P.depth tx=false) (hc:Ee P 10000 tx (.agg xs.toArray) (.agg ys.toArray) c) :
    Ex P n F w0 L ⟨d,.binOp .eql tx x y ty,t,p,af,g⟩ (.bool c):=λA w ha _=>by
  simp only [execOp,ha.ev hx,ha.ev hy,Sem.run_bind,run_eqGuard_agg w .eql tx x y _ _ hg,Result.andThen_ok,run_eql_struct,hc w,Sem.run_pure]
theorem Oi {xs ys:List Value} {c:Bool} {tx ty:TypeId} (hx:evF F x=some (.agg xs.toArray)) (hy:evF F y=some (.agg ys.toArray)) (hg:P.eqGuardType P.depth tx=false) (hc:Ee P 10000 tx (.agg xs.toArray) (.agg ys.toArray) c) :
    Ex P n F w0 L ⟨d,.binOp .neq tx x y ty,t,p,af,g⟩ (.bool (!c)):=λA w ha _=>by
  simp only [execOp,ha.ev hx,ha.ev hy,Sem.run_bind,run_eqGuard_agg w .neq tx x y _ _ hg,Result.andThen_ok,run_neq_struct,hc w,Sem.run_pure]
end
theorem TE {a b:Nat} (ha:¬a<18446744073709551616) (hb:¬b<18446744073709551616) (h:Bn a=Bn b):a=b:=by
  rw [FL ha,FL hb] at h
  have h1:bytesN (AL a)=bytesN (AL b):=by
    have lt:∀(xs:List Nat),∀x∈bytesN xs,x<256:=λxs x hx=>by
      simp only [bytesN,List.mem_flatMap,List.mem_cons,List.not_mem_nil,or_false] at hx
      obtain ⟨y,_,hy⟩:=hx
      omega
    have inj:∀(l r:List Nat),(∀x∈l,x<256)->(∀x∈r,x<256)->l.map UInt8.ofNat=r.map UInt8.ofNat->l=r:=by
      intro l
      induction l with
      | nil=>intro r _ _ h;cases r<;>simp_all
      | cons x l ih =>
        intro r hl hr h
        cases r with
        | nil=>simp at h
        | cons y r =>
          simp only [List.map_cons,List.cons.injEq] at h
          have e:x=y:=by
            have h3:=congrArg UInt8.toNat h.1
            have h4:=hl x (by simp)
            have h5:=hr y (by simp)
            simp at h3
            omega
          rw [e,ih r (λz hz=>hl z (by simp [hz])) (λz hz=>hr z (by simp [hz])) h.2]
    refine inj _ _ (lt _) (lt _) ?_
    have:=congrArg (λs:ByteArray=>s.data.toList) h
    simpa [DE] using this
  have h2:AL a=AL b:=by
    have hl:(AL a).length=(AL b).length:=by
      have:=congrArg List.length h1
      simp only [B9] at this
      omega
    apply List.ext_getElem hl
    intro i hi hi'
    have g:∀k,k<4->(AL a).getD i 0/256^k%256=(AL b).getD i 0/256^k%256:=λk hk=>by rw [<-F4 _ _ _ hi hk,<-F4 _ _ _ hi' hk,h1]
    have wa:=(Bv a).getD i
    have wb:=(Bv b).getD i
    have ea:(AL a).getD i 0=(AL a)[i]:=by simp [hi]
    have eb:(AL b).getD i 0=(AL b)[i]:=by simp [hi']
    rw [ea,eb] at g
    rw [ea] at wa
    rw [eb] at wb
    have g0:=g 0 (by omega)
    have g1:=g 1 (by omega)
    have g2:=g 2 (by omega)
    have g3:=g 3 (by omega)
    simp only [Nat.pow_zero,Nat.div_one,Nat.pow_one,show (256:Nat)^2=65536 from rfl,show (256:Nat)^3=16777216 from rfl] at g0 g1 g2 g3
    omega
  rw [<-CX a,<-CX b,h2]
theorem Vr (a b:Nat):((((CC a:Nat):Int) == ((CC b:Nat):Int))&&(((Bn a).toList == (Bn b).toList)&&true))=decide (a=b):=by
  by_cases e:a=b
  · subst e;simp
  · rw [decide_eq_false e]
    by_cases ha:a<18446744073709551616
    · by_cases hb:b<18446744073709551616
      · rw [Bm ha,Bm hb]
        have:((a:Int) == (b:Int))=false:=by simp;omega
        rw [this];rfl
      · have h1:=Ph hb
        rw [HY ha,<-beq_toListBytes]
        have:(ByteArray.empty == Bn b)=false:=by
          rw [beq_toListBytes,ByteArray.toList_eq,ByteArray.toList_eq,FL hb]
          cases hl:(DE (bytesN (AL b))).data.toList with
          | nil =>
            have h3:=congrArg List.length hl
            simp [DE,B9] at h3
            unfold nw at h1
            omega
          | cons=>rfl
        rw [this];simp
    · by_cases hb:b<18446744073709551616
      · have h1:=Ph ha
        rw [HY hb,<-beq_toListBytes]
        have:(Bn a == ByteArray.empty)=false:=by
          rw [beq_toListBytes,ByteArray.toList_eq,ByteArray.toList_eq,FL ha]
          cases hl:(DE (bytesN (AL a))).data.toList with
          | nil =>
            have h3:=congrArg List.length hl
            simp [DE,B9] at h3
            unfold nw at h1
            omega
          | cons=>rfl
        rw [this];simp
      · rw [<-beq_toListBytes]
        have:(Bn a == Bn b)=false:=by
          cases hbb:Bn a == Bn b with
          | false=>rfl
          | true =>
            rw [beq_toListBytes] at hbb
            have h2:(Bn a).toList=(Bn b).toList:=by simpa using hbb
            rw [ByteArray.toList_eq,ByteArray.toList_eq] at h2
            have h3:Bn a=Bn b:=by
              cases hA:Bn a with|mk da=>cases hB:Bn b with|mk db =>
                rw [hA,hB] at h2
                congr 1
                exact Array.toList_inj.1 h2
            exact absurd (TE ha hb h3) e
        rw [this];simp
theorem G1 (D a b:Nat):Ee Tryz.prog (D+2) 47 (.agg (AZ a).toArray) (.agg (AZ b).toArray) (decide (a=b)):=by
  rw [<-Vr]
  exact Ee.struct Tryz.underlying47 Tryz.stoodInHeld47 (If.one (by decide) Tryz.isAgg45 rfl rfl (Ee.int Tryz.underlying45) (If.one (by decide) Tryz.isAgg9 rfl rfl (Ee.str Tryz.underlying9) If.nil))
end
section
set_option maxRecDepth 100000
theorem Ji (n:Nat) (hn:n<18446744073709551616) (w:World)  :Calls Tryz.prog 147 #[(vK .u64 n)] w (Am w (aG (AZ n))):=by
 refine Ac (args:=[(vK .u64 n)]) Tryz.func147 rfl rfl (Ad rfl) (AG.subF (sL [0] rfl) (q4 (al GD rfl λb1=>AF.nil (q2 ?_))))
 refine AO rfl (AJ (v:=(aG ([(vK .u64 n),(Value.string (Bn 0))]))) (AY (zs:=AZ 0) (vs:=[(vK .u64 n),(Value.string (Bn 0))]) (pv:=[(0,(vK .u64 n))]) (places:=[(0,1),(1,1)]) Tryz.zeroValue47 Tryz.underlying47 (λw=>by simp [Tryz.sizeOf9,Tryz.sizeOf45]) rfl rfl) rfl (AF.retell (k:=4) (u:=(aG (AZ n))) rfl (by rw [Dl hn];rfl) (Ap rfl Tryz.sizeOf47 rfl (AF.nil (AC.subF (sL [2] rfl) ?_)))))
 exact AC.then_ (AG.ret (AR rfl (Ay (i:=0) (cs:=AZ n) rfl rfl Tryz.isAgg47 Tryz.sizeOf47 rfl) (λw hw=>⟨rfl,hw.out⟩)))
theorem Ld  :Instr.fill ([(0,1),(1,1)].toArray[·]?) (AZ 0).toArray []=some (AZ 0).toArray:=by kernel_rfl
theorem QH (a:Nat) (w:World)  :Calls Tryz.prog 193 #[(aG (AZ a))] w (Am w (Value.bool (decide (a=0)))):=by
 refine Ac (args:=[(aG (AZ a))]) Tryz.func193 rfl rfl (Ad rfl) (AG.subF (sL [0] rfl) (q4 (Bl (cs:=AZ a) rfl λb1=>AK rfl (q3 (sL [1,2] rfl) ?_))))
 refine A7 0 CE rfl (AJ (v:=(aG (AZ 0))) (AY (zs:=AZ 0) (vs:=AZ 0) (pv:=[]) (places:=[(0,1),(1,1)]) Tryz.zeroValue47 Tryz.underlying47 (λw=>by simp [Tryz.sizeOf9,Tryz.sizeOf45]) rfl (Ld )) rfl (AJ (Bj (c:=(decide (a=0))) rfl rfl Tryz.eqGuardType47 (G1 9998 a 0)) rfl (AK rfl (AF.nil (AC.subF (sL [2] rfl) ?_)))))
 exact AC.then_ (AG.ret (AR rfl (Ai (v:=(Value.bool (decide (a=0)))) rfl) (λw hw=>⟨rfl,hw.out⟩)))
theorem DC (v:Nat) (hv:nw v<=1099511627776) (w:World)  :Calls Tryz.prog 150 #[(aG (AZ v))] w (λe w'=>∃b,e=.returned (.slice (some ⟨b,0,none⟩) (nw v) (A8 v).length)/\FQ w.heap.size w w'/\w.heap.size<=b/\w'.heap[b]?=some (.cells (Ao (A8 v)).toArray 101 (0,0))):=by
 refine Ac (args:=[(aG (AZ v))]) Tryz.func150 rfl rfl (Ad rfl) (AG.subF (sL [0] rfl) (q4 (Bl (cs:=AZ v) rfl λb1=>AK rfl (q6 (sL [1,2] rfl) ?_))))
 refine q4 (AJ (v:=(pP b1 1)) (AA rfl Tryz.underlying47 rfl Tryz.sizeOf9 rfl) rfl (BL 0 (Value.string (Bn v)) UF rfl (AJ (CD (c:=(decide (v<18446744073709551616))) rfl rfl Cy) rfl (AF.nil (AC.subF (sL [1,2,8] rfl) ?_)))))
 refine AC.then_ ?_
 refine AG.cond rfl (λhc0=>?_) (λhc0=>?_)
 ·replace hc0:=of_decide_eq_true hc0
  refine q4 (AJ (v:=(pP b1 0)) (AA rfl Tryz.underlying47 rfl Tryz.sizeOf45 rfl) rfl (BL 0 (vK .u64 (CC v)) HL rfl (AF.retell (k:=10) (u:=(vK .u64 v)) rfl (by rw [Bm hc0]) (AJ (Az (c:=((v%4294967296:Nat):Int)) rfl Tryz.underlying45 Tryz.underlying101 EY) rfl (AJ (v:=(pP b1 0)) (AA rfl Tryz.underlying47 rfl Tryz.sizeOf45 rfl) rfl ?_)))))
  refine BL 0 (vK .u64 (CC v)) HL rfl (AF.retell (k:=13) (u:=(vK .u64 v)) rfl (by rw [Bm hc0]) (AJ (Cu (s:=32) (c:=((v/4294967296:Nat):Int)) rfl rfl rfl (by decide) (F2 (a:=v) (s:=32))) rfl (AJ (Az (c:=((v/4294967296:Nat):Int)) rfl Tryz.underlying45 Tryz.underlying101 (CY (by omega))) rfl (AF.openV (V:=λb2=>(Value.slice (some ⟨b2,0,none⟩) 2 2)) (T:=101) (cs:=Ao ([v%4294967296,v/4294967296])) (AN rfl) (BE (cs:=Ao ([v%4294967296,v/4294967296])) (pv:=[(0,(vK .u32 (v%4294967296))),(1,(vK .u32 (v/4294967296)))]) Tryz.underlying232 Tryz.sizeOf101 Tryz.zeroValue101 (by decide) (by decide) rfl (by kernel_rfl)) rfl (Ad rfl) λb2=>Ey Tryz.call198 (λw hw=>TL _ 2 2 ([v%4294967296,v/4294967296]) (W32.cons (by omega) (W32.cons (by omega) (W32.nil))) (by simp) (by simp) (by simp;try omega) w (hw.get (i:=0) rfl)) rfl ?_))))
  refine AK rfl (AF.nil (AC.subF (sL [1,2] rfl) (AC.then_ (AG.ret (AC.then_ret ?_)))))
  have hpad:A8 v=[v%4294967296,v/4294967296]:=by simp [A8,hc0]
  have hnw:nw v=Dz [v%4294967296,v/4294967296] 2:=by rw [<-PJ (XA hc0) (m:=2) (by simp),<-QV v,hpad];simp [val];congr 1;omega
  have hret:∀b:Nat,(Ending.returned (Value.slice (some ⟨b,0,none⟩) (Dz ([v%4294967296,v/4294967296]) 2) 2))=.returned (Value.slice (some ⟨b,0,none⟩) (nw v) (A8 v).length):=λb=>by rw [hnw,hpad];rfl
  replace hret:=hret b2
  have hcells:(some (Obj.cells (Ao ([v%4294967296,v/4294967296])).toArray 101 (0,0)))=some (Obj.cells (Ao (A8 v)).toArray 101 (0,0)):=by rw [hpad]
  exact AR rfl (Ai (v:=(Value.slice (some ⟨b2,0,none⟩) (Dz ([v%4294967296,v/4294967296]) 2) 2)) rfl) (λw hw=>⟨b2,hret,hw.out,hw.fresh (i:=0) rfl,(hw.get (i:=0) rfl).trans hcells⟩)
 ·replace hc0:=of_decide_eq_false hc0
  refine AG.skip (q2 (AJ (v:=(pP b1 1)) (AA rfl Tryz.underlying47 rfl Tryz.sizeOf9 rfl) rfl (BL 0 (Value.string (Bn v)) UF rfl (AJ (v:=(vN ((Bn v).size))) (LU rfl Tryz.underlying9) rfl (AF.retell (k:=20) (u:=(vN (4*nw v))) rfl (by rw [FL hc0,Kv,B9];rfl) ?_)))))
  refine AJ (GH (c:=(((4*nw v)/4:Nat):Int)) rfl rfl (by omega) (KB (a:=4*nw v) (b:=4) (by omega))) rfl (AF.retell (k:=21) (u:=(vN (nw v))) rfl (by rw [Nat.mul_div_cancel_left _ (by omega)]) (AF.openV (V:=λb2=>(Value.slice (some ⟨b2,0,none⟩) (nw v) (nw v))) (T:=101) (cs:=Ao (List.replicate (nw v) 0)) (AN rfl) (DF (m:=nw v) (c:=nw v) rfl rfl (by omega) (by omega)) rfl (Ad rfl) λb2=>AK rfl (q6 (sL [1,2,3] rfl) (q4 ?_))))
  refine AO rfl (AJ (v:=(vN (nw v))) (AI rfl Tryz.underlying232) rfl (AO rfl (AF.nil (AC.subF (sL [1,2,3,24,25] rfl) (AC.then_ ?_)))))
  refine AG.block ?_
  refine AG.lp2 (tg λ(i:Nat) (os:List Nat)=>i<=nw v/\os.length=nw v/\os.take i=(AL v).take i/\∀j,i<=j->os.getD j 0=0) (tg λ(i:Nat) (os:List Nat)=>[(1,(pP b1 0)),(2,(Value.slice none 0 0)),(3,(Value.slice (some ⟨b2,0,none⟩) (nw v) (nw v))),(24,(vN (nw v))),(25,(vN i))]) (tg λ(i:Nat) (os:List Nat)=>[Ah b2 101 (Ao os),Ah b1 47 (AZ v)]) (tg λ(i:Nat) (os:List Nat)=>nw v-i) 0 (List.replicate (nw v) 0) (⟨Nat.zero_le _,by simp,by simp,λj _=>by simp [List.getD_eq_getElem?_getD,List.getElem?_replicate];split<;>rfl⟩) (sF rfl) sr (λi os hJ=>?_)
  obtain ⟨hin,hl,ht,h0⟩:=hJ
  refine q4 (AJ (Af (c:=(decide (i<(nw v)))) rfl rfl (DL (a:=i) (b:=nw v))) rfl (AF.nil (q1 ?_)))
  refine AG.cond rfl (λhc1=>?_) (λhc1=>?_)
  ·replace hc1:=of_decide_eq_true hc1
   refine AG.skip (q1 (AG.block (q4 (AO rfl (AK rfl ?_)))))
   refine q3 (sL [1,2,3,24,25,4] rfl) (AO rfl (AF.nil (AC.then_ (AG.block ?_))))
   refine AG.lp2 (tg λ(k:Nat) (xs:List Nat)=>k<=4/\xs=os.set i ((AL v).getD i 0%256^k)) (tg λ(k:Nat) (xs:List Nat)=>[(1,(pP b1 0)),(2,(Value.slice none 0 0)),(3,(Value.slice (some ⟨b2,0,none⟩) (nw v) (nw v))),(24,(vN (nw v))),(25,(vN i)),(4,(vN i)),(28,(vN k))]) (tg λ(k:Nat) (xs:List Nat)=>[Ah b2 101 (Ao xs),Ah b1 47 (AZ v)]) (tg λ(k:Nat) (xs:List Nat)=>4-k) 0 os (⟨by omega,by rw [Nat.pow_zero,Nat.mod_one];exact Tl (h0 i (Nat.le_refl _))⟩) (sF rfl) sr (λk xs hJ=>?_)
   obtain ⟨hk,hxs⟩:=hJ
   refine q4 (AJ (Af (c:=(decide (k<4))) rfl rfl (DL (a:=k) (b:=4))) rfl (AF.nil (q1 ?_)))
   refine AG.cond rfl (λhc2=>?_) (λhc2=>?_)
   ·replace hc2:=of_decide_eq_true hc2
    refine AG.skip (q1 (AG.block (q4 (AO rfl (AK rfl ?_)))))
    refine AF.nil (AC.subF (sL [1,2,3,24,25,4,28,5] rfl) (AC.then_ (Cq [(0,true),(1,true),(2,true),(4,true),(5,true),(6,true),(7,true),(8,true),(9,true),(10,true),(11,true),(12,true),(13,true),(14,true),(3,false),(15,true),(16,true),(17,false)] (sl sr) ?_)))
    have hi:i<nw v:=hc1
    have hxi:xs.getD i 0=(AL v).getD i 0%256^k:=by rw [hxs];simp [hl,hi]
    have hxl:xs.length=nw v:=by rw [hxs];simp [hl]
    have hby:(AL v).getD i 0/256^k%256<256:=Nat.mod_lt _ (by omega)
    have hget:(Bn v)[4*i+k]?=some (UInt8.ofNat ((AL v).getD i 0/256^k%256)):=by rw [FL hc0,Qy (by rw [B9];show 4*i+k<4*nw v;omega),F4 _ _ _ hi hc2]
    have hw32:xs.getD i 0<4294967296:=by rw [hxi];exact Nat.lt_of_le_of_lt (Nat.mod_le _ _) ((Bv v).getD i)
    refine Bc rfl (Bc rfl (Av (v:=(pP b2 i)) rfl (AH (j:=i) rfl rfl Tryz.underlying232 Tryz.sizeOf101 rfl (by omega) (by simp)) (Av (v:=(pP b1 1)) rfl (AA rfl Tryz.underlying47 rfl Tryz.sizeOf9 rfl) (Bg 0 (Value.string (Bn v)) UF rfl (Bc rfl ?_)))))
    refine Av rfl (Bq (c:=((4*i:Nat):Int)) rfl rfl (Ca (a:=4) (b:=i) (by omega))) (Bc rfl (Av rfl (AX (c:=(((4*i)+k:Nat):Int)) rfl rfl (Ab (a:=4*i) (b:=k) (by omega))) (Av (v:=(vK .u8 ((AL v).getD i 0/256^k%256))) rfl (GF (j:=4*i+k) (m:=(AL v).getD i 0/256^k%256) rfl rfl Tryz.underlying9 hget hby) (Av rfl (Az (c:=(((AL v).getD i 0/256^k%256:Nat):Int)) rfl Tryz.underlying5 Tryz.underlying101 (CY (by omega))) (Bc rfl ?_)))))
    refine Av rfl (Bq (c:=((8*k:Nat):Int)) rfl rfl (Ca (a:=8) (b:=k) (by omega))) (Av (v:=(vK .u32 ((AL v).getD i 0/256^k%256*2^(8*k)))) rfl (Gx (s:=8*k) rfl rfl rfl (show 8*k<=32 by omega) (Ti (QB hc2))) (AS.imp rfl (AJ (AM (i:=0) (v:=(vK .u32 (xs.getD i 0))) rfl rfl Tryz.isAgg101 (BM (xs:=xs) (j:=i) (by omega))) rfl (AS.back (sl sr) (Av rfl (I8 (c:=(((AL v).getD i 0%256^(k+1):Nat):Int)) rfl rfl (JW hw32 (QB hc2) (Qq hxi))) ?_)))))
    refine Av (v:=(pP b2 i)) rfl (AH (j:=i) rfl rfl Tryz.underlying232 Tryz.sizeOf101 rfl (by omega) (by simp)) (AS.imp rfl (AF.store' (i:=0) (off:=i) (vs:=[(vK .u32 ((AL v).getD i 0%256^(k+1)))]) (cs':=Ao (xs.set i ((AL v).getD i 0%256^(k+1)))) (L':=[Ah b2 101 (Ao (xs.set i ((AL v).getD i 0%256^(k+1)))),Ah b1 47 (AZ v)]) (AN rfl) rfl rfl rfl rfl rfl Tryz.sizeOf101 rfl (Ch (BV _) (by omega)) (CI (by omega)) rfl (AS.back (sl sr) (AS.nil (AC.subF (sL [1,2,3,24,25,4,28] rfl) ?_)))))
    refine AC.in_normal (AC.then_ (AG.region (AJ (AX (c:=((k+1:Nat):Int)) rfl rfl (Ab (a:=k) (b:=1) (by omega))) rfl (AO rfl (AF.nil ?_)))))
    exact AC.subF (sL [1,2,3,24,25,4,28] rfl) (AC.round2 (k+1) (xs.set i ((AL v).getD i 0%256^(k+1))) (⟨by omega,by rw [hxs,List.set_set]⟩) (by omega) (sF rfl) sr)
   ·replace hc2:=of_decide_eq_false hc2
    refine AG.exit (AC.then_exit (AC.round2_exit (AC.in_exit (AC.in_normal (AC.then_ ?_)))))
    refine AG.region (AJ (AX (c:=((i+1:Nat):Int)) rfl rfl (Ab (a:=i) (b:=1) (by omega))) rfl (AO rfl (AF.nil (AC.subF (sL [1,2,3,24,25,4,28] rfl) ?_))))
    have hst:=Pq (ws:=AL v) (xs:=xs) hl rfl hc1 ht h0 (by rw [hxs,show k=4 by omega];congr 1;exact Nat.mod_eq_of_lt ((Bv v).getD i))
    exact AC.round2 (i+1) xs (⟨by omega,hst.1,hst.2.1,hst.2.2⟩) (by omega) (sF rfl) sr
  ·replace hc1:=of_decide_eq_false hc1
   refine AG.exit (AC.then_exit (AC.round2_exit (AC.in_exit (q2 (AO rfl ?_)))))
   refine AK rfl (AF.nil (AC.subF (sL [1,2,3,24,25] rfl) (AC.then_ (AG.ret ?_))))
   have hpad:A8 v=AL v:=by simp [A8,hc0]
   have hos:os=AL v:=UN hl rfl hc1 ht
   have hret:∀b:Nat,(Ending.returned (Value.slice (some ⟨b,0,none⟩) (nw v) (nw v)))=.returned (Value.slice (some ⟨b,0,none⟩) (nw v) (A8 v).length):=λb=>by rw [hpad];rfl
   replace hret:=hret b2
   have hcells:(some (Obj.cells (Ao os).toArray 101 (0,0)))=some (Obj.cells (Ao (A8 v)).toArray 101 (0,0)):=by rw [hpad,hos]
   exact AR rfl (Ai (v:=(Value.slice (some ⟨b2,0,none⟩) (nw v) (nw v))) rfl) (λw hw=>⟨b2,hret,hw.out,hw.fresh (i:=0) rfl,(hw.get (i:=0) rfl).trans hcells⟩)
end
end Go.Proofs.YtfbomiejpbchdaaGreat
