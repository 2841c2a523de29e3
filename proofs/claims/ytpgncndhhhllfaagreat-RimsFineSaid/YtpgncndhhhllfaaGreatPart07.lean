import Derived.Laws.StructEq
import Derived.Test.YtpgncndhhhllfaaGreatPart03
import Derived.Test.YtpgncndhhhllfaaGreatPart06
namespace Go.Proofs.YtpgncndhhhllfaaGreat
open Go Go.RowKit Go.Proofs.Tryz
set_option linter.unusedVariables false
set_option linter.unusedSimpArgs false
section
set_option maxRecDepth 100000
theorem Vm (b m c:Nat) (bs:List Nat) (hbs:W32 bs) (hm:m<=bs.length) (hc:m<=c) (hL:c<4611686018427387904) (w:World) (hb:w.heap[b]?=some (.cells (Au bs).toArray 50 (0,0))):Calls prog 156 #[(Value.slice (some ⟨b,0,none⟩) m c)] w (A9 w (Value.slice (some ⟨b,0,none⟩) (Dp bs m) c)):=by
 refine Aq (args:=[(Value.slice (some ⟨b,0,none⟩) m c)]) func156 O O (Ad O) (AE.subF (sL [0] O) (q4 (AI O (AC.nil (q1 (AE.block ?_))))))
 refine AE.lp1 (tg λ(k:Nat)=>k<=m/\Dp bs k=Dp bs m) (tg λ(k:Nat)=>[(2,(Value.slice none 0 0)),(0,(Value.slice (some ⟨b,0,none⟩) k c))]) (tg λ(k:Nat)=>[]) (tg λ(k:Nat)=>k) m (⟨Nat.le_refl _,rfl⟩) (sF O) sr (λk hJ=>?_)
 obtain ⟨hk,hv⟩:=hJ
 refine AE.seq (q4 (AM O (AJ (v:=(vN k)) (AF O underlying224) O (AJ (CY (c:=(decide (0<k))) O O (CD (a:=0) (b:=k))) O (AM O ?_)))))
 refine AC.mid (FM:=[(2,(Value.slice none 0 0)),(0,(Value.slice (some ⟨b,0,none⟩) k c)),(3,(Value.slice (some ⟨b,0,none⟩) k c)),(4,(vN k)),(5,(Value.bool (decide (0<k)))),(6,(Value.bool (decide (0<k)))),(14,(Value.bool ((decide (0<k))&&(decide ((bs.getD (k-1) 0)=0)))))]) (LM:=[]) 8 ?_ ?_
 ·rcases Bool.eq_false_or_eq_true (decide (0<k)) with hg1|hg1
  ·skip
   refine AC.retell (k:=6) (u:=Value.bool true) O (by rw [hg1]) ?_
   have hg1':=hg1
   replace hg1':=of_decide_eq_true hg1'
   refine AC.step (v:=(Value.slice (some ⟨b,0,none⟩) k c)) (AA O) (AU O) O (Ad O) (AC.step (v:=(Value.slice (some ⟨b,0,none⟩) k c)) (AA O) (AU O) O (Ad O) (AC.step (v:=(vN k)) (AA O) (AF O underlying224) O (Ad O) (AC.step (v:=(vN (k-1))) (AA O) (BU (c:=((k-1:Nat):Int)) O O (By (a:=k) (b:=1) Z Z)) O (Ad O) (AC.step (v:=(pP b (k-1))) (AA O) (AO (j:=k-1) O O underlying224 sizeOf50 O Z (by simp)) O (Ad O) ?_))))
   have hx1:bs.getD (k-1) 0<4294967296:=W32.getD hbs (k-1)
   exact AC.step (v:=(vK .u32 (bs.getD (k-1) 0))) (AA O) (Ba (v:=(vK .u32 (bs.getD (k-1) 0))) O (λw' hw=>CA.at0 (hw.oldCA (by simp) (Ew hb)) (BO (xs:=bs) (j:=(k-1)) Z)) isAgg50) O (Ad O) (AC.step (v:=(Value.bool (decide ((bs.getD (k-1) 0)=0)))) (AA O) (BQ (c:=(decide ((bs.getD (k-1) 0)=0))) O O (JC (a:=bs.getD (k-1) 0) (b:=0))) O (Ad O) (AJ (v:=(Value.bool (decide ((bs.getD (k-1) 0)=0)))) (AW O O) O (AC.nil (OkQ.mid (sS O (sS O (sS O (sS O (sS O (sS (by first|rfl|(rw [hg1];rfl)|rw [hg1]) (sS (by first|rfl|(rw [hg1];rfl)|rw [hg1]) (sN)))))))) (List.Sublist.refl _)))))
  ·skip
   refine AC.retell (k:=6) (u:=Value.bool false) O (by rw [hg1]) ?_
   have hg1':=hg1
   replace hg1':=of_decide_eq_false hg1'
   exact AC.skip (AH O) O (Ad O) (AC.skip (AH O) O (Ad O) (AC.skip (AH O) O (Ad O) (AC.skip (AH O) O (Ad O) (AC.skip (AH O) O (Ad O) (AC.skip (AH O) O (Ad O) (AC.skip (AH O) O (Ad O) (AJ (v:=(Value.bool false)) (AT O O) O (AC.nil (OkQ.mid (sS O (sS O (sS O (sS O (sS O (sS (by first|rfl|(rw [hg1];rfl)|rw [hg1]) (sS (by first|rfl|(rw [hg1];rfl)|rw [hg1]) (sN)))))))) (List.Sublist.refl _))))))))))
 refine AC.nil (OkQ.subF (sL [2,0,14] O) (OkQ.then_ ?_))
 refine AE.cond O (λhc0=>?_) (λhc0=>?_)
 ·simp only [Bool.and_eq_true,Bool.or_eq_true,Bool.and_eq_false_iff,Bool.or_eq_false_iff,Bool.not_eq_true',Bool.not_eq_false',decide_eq_true_eq,decide_eq_false_iff_not] at hc0
  refine AE.skip (OkQ.then_ (AE.block (AE.region (AM O (AM O (AJ (v:=(vN k)) (AF O underlying224) O (AJ (BU (c:=((k-1:Nat):Int)) O O (By (a:=k) (b:=1) Z Z)) O (AJ (v:=(Value.slice (some ⟨b,0,none⟩) (k-1) c)) (ER (m:=k-1) O O underlying224 sizeOf50 Z) O (AI O (AC.nil (OkQ.subF (sL [2,0] O) ?_)))))))))))
  exact OkQ.in_normal (OkQ.round1 (k-1) (⟨Z,by rw [<-TG hc0.1 hc0.2];exact hv⟩) Z (sF O) sr)
 ·simp only [Bool.and_eq_true,Bool.or_eq_true,Bool.and_eq_false_iff,Bool.or_eq_false_iff,Bool.not_eq_true',Bool.not_eq_false',decide_eq_true_eq,decide_eq_false_iff_not] at hc0
  have hstop:Dp bs k=k:=Sv Z
  exact AE.exit (OkQ.then_exit (OkQ.round1_exit (OkQ.in_exit (q2 (AM O (AI O (AC.nil (OkQ.subF (sL [2,0] O) (OkQ.then_ (AE.ret (AV O (Ah (v:=(Value.slice (some ⟨b,0,none⟩) k c)) O) (λw hw=>⟨by rw [<-hv,hstop],hw.out⟩))))))))))))
theorem Kn (x y c:Nat) (hx:x<4294967296) (hy:y<4294967296) (hc:c<=1) (w:World)  :Calls prog 144 #[(vK .u32 x),(vK .u32 y),(vK .u32 c)] w (A9 w (Value.tuple #[(vK .u32 ((x+y+c)%4294967296)),(vK .u32 ((x+y+c)/4294967296))])):=by
 refine Aq (args:=[(vK .u32 x),(vK .u32 y),(vK .u32 c)]) func144 O O (Ad O) (AE.subF (sL [0,1,2] O) (q4 (AI O (AI O (AC.nil (q2 (AM O (AJ (Ax (c:=((x:Nat):Int)) O underlying50 underlying56 (BW Z)) O (AM O (AJ (Ax (c:=((y:Nat):Int)) O underlying50 underlying56 (BW Z)) O (AJ (AQ (c:=((x+y:Nat):Int)) O O (DU (a:=x) (b:=y) Z)) O ?_)))))))))))
 refine AM O (AJ (Ax (c:=((c:Nat):Int)) O underlying50 underlying56 (BW Z)) O (AJ (AQ (c:=(((x+y)+c:Nat):Int)) O O (DU (a:=x+y) (b:=c) Z)) O (AI O (q3 (sL [6,7,8] O) (AM O (AJ (Ax (c:=((((x+y)+c)%4294967296:Nat):Int)) O underlying56 underlying50 EN) O (AI O (q3 (sL [6,7,8] O) (AM O (AJ (Ct (s:=32) (c:=((((x+y)+c)/4294967296:Nat):Int)) O O O (by decide) (Fy (a:=(x+y)+c) (s:=32))) O (AJ (Ax (c:=((((x+y)+c)/4294967296:Nat):Int)) O underlying56 underlying50 (CQ Z)) O ?_)))))))))))
 exact AI O (AC.nil (OkQ.subF (sL [6,7,8] O) (OkQ.then_ (AE.ret (CH O (Ah (v:=(vK .u32 (((x+y)+c)%4294967296))) O) (Ah (v:=(vK .u32 (((x+y)+c)/4294967296))) O) (λw hw=>⟨rfl,hw.out⟩))))))
theorem J8 (x y c d:Nat) (hx:x<4294967296) (hy:y<4294967296) (hc:c<=1) (hd:d=(x+(4294967296-y)+(4294967296-c))%4294967296) (w:World)  :Calls prog 142 #[(vK .u32 x),(vK .u32 y),(vK .u32 c)] w (A9 w (Value.tuple #[(vK .u32 d),(vK .u32 (JA x (y+c)))])):=by
 have hd2:d<4294967296:=by omega
 have hb:=UG hx hy hc hd
 have hx1:4294967295 ^^^ x<4294967296:=Nat.xor_lt_two_pow (n:=32) Z hx
 have hx2:x ^^^ y<4294967296:=Nat.xor_lt_two_pow (n:=32) hx hy
 have hx3:4294967295 ^^^ (x ^^^ y)<4294967296:=Nat.xor_lt_two_pow (n:=32) Z hx2
 have hx4:(4294967295 ^^^ x) &&& y<4294967296:=Nat.lt_of_le_of_lt Nat.and_le_right hy
 have hx5:(4294967295 ^^^ (x ^^^ y)) &&& d<4294967296:=Nat.lt_of_le_of_lt Nat.and_le_right hd2
 refine Aq (args:=[(vK .u32 x),(vK .u32 y),(vK .u32 c)]) func142 O O (Ad O) (AE.subF (sL [0,1,2] O) (q4 (AI O (AI O (AC.nil (q2 (AM O (AM O (AJ (BU (c:=(((x+(4294967296-y))%4294967296:Nat):Int)) O O (N5 Z)) O (AM O (AJ (BU (c:=((d:Nat):Int)) O O (by rw [N5 Z,hd];exact congrArg Int.ofNat Z)) O ?_)))))))))))
 refine AI O (q3 (sL [0,1,6,7] O) (AM O (AJ (Vs (c:=((4294967295 ^^^ x:Nat):Int)) O (O9 hx)) O (AM O (AJ (KV (c:=(((4294967295 ^^^ x) &&& y:Nat):Int)) O O (OK hx1 hy)) O (AM O (AM O (AJ (aB (c:=((x ^^^ y:Nat):Int)) O O (OT hx hy)) O (AJ (Vs (c:=((4294967295 ^^^ (x ^^^ y):Nat):Int)) O (O9 hx2)) O (AM O (AJ (KV (c:=(((4294967295 ^^^ (x ^^^ y)) &&& d:Nat):Int)) O O (OK hx3 hd2)) O ?_)))))))))))
 exact AJ (JD (c:=(((4294967295 ^^^ x) &&& y ||| (4294967295 ^^^ (x ^^^ y)) &&& d:Nat):Int)) O O (Ju hx4 hx5 O)) O (AJ (Ct (s:=31) (c:=((((4294967295 ^^^ x) &&& y ||| (4294967295 ^^^ (x ^^^ y)) &&& d)/2147483648:Nat):Int)) O O O (by decide) (Fy (a:=(4294967295 ^^^ x) &&& y ||| (4294967295 ^^^ (x ^^^ y)) &&& d) (s:=31))) O (AI O (AC.nil (OkQ.subF (sL [0,1,6,7] O) (OkQ.then_ (AE.ret (CH O (Ah (v:=(vK .u32 d)) O) (Ah (v:=(vK .u32 (((4294967295 ^^^ x) &&& y ||| (4294967295 ^^^ (x ^^^ y)) &&& d)/2147483648))) O) (λw hw=>⟨by rw [<-hb],hw.out⟩))))))))
theorem V7 (x y:Nat) (hx:x<18446744073709551616) (hy:y<18446744073709551616) (w:World)  :Calls prog 147 #[(vK .u64 x),(vK .u64 y)] w (A9 w (Value.tuple #[(vK .u64 (x*y/18446744073709551616)),(vK .u64 (x*y%18446744073709551616))])):=by
 have h1:=Kg (a:=x%4294967296) (b:=y%4294967296) Z Z
 have h2:=Kg (a:=x/4294967296) (b:=y%4294967296) Z Z
 have h3:=Kg (a:=x%4294967296) (b:=y/4294967296) Z Z
 have h4:=Kg (a:=x/4294967296) (b:=y/4294967296) Z Z
 have hh:=Vo x y
 have hh2:x*y/18446744073709551616<18446744073709551616:=Nat.div_lt_of_lt_mul (Nat.mul_lt_mul'' hx hy)
 refine Aq (args:=[(vK .u64 x),(vK .u64 y)]) func147 O O (Ad O) (AE.subF (sL [0,1] O) (q4 (AI O (AI O (AC.nil (q2 (AM O (AJ (KV (c:=((x%4294967296:Nat):Int)) O O (IT (a:=x) Z)) O (AI O (q3 (sL [0,1,4,5,6] O) (AM O ?_)))))))))))
 refine AJ (Ct (s:=32) (c:=((x/4294967296:Nat):Int)) O O O (by decide) (Fy (a:=x) (s:=32))) O (AI O (q3 (sL [0,1,4,5,6,7] O) (AM O (AJ (KV (c:=((y%4294967296:Nat):Int)) O O (IT (a:=y) Z)) O (AI O (q3 (sL [0,1,4,5,6,7,8] O) (AM O (AJ (Ct (s:=32) (c:=((y/4294967296:Nat):Int)) O O O (by decide) (Fy (a:=y) (s:=32))) O (AI O (q3 (sL [0,1,4,5,6,7,8,9] O) (AM O ?_)))))))))))
 refine AM O (AJ (Bs (c:=(((x%4294967296)*(y%4294967296):Nat):Int)) O O (Ev (a:=x%4294967296) (b:=y%4294967296) Z)) O (AI O (q3 (sL [0,1,4,5,6,7,8,9,10] O) (AM O (AM O (AJ (Bs (c:=(((x/4294967296)*(y%4294967296):Nat):Int)) O O (Ev (a:=x/4294967296) (b:=y%4294967296) Z)) O (AM O (AJ (Ct (s:=32) (c:=((((x%4294967296)*(y%4294967296))/4294967296:Nat):Int)) O O O (by decide) (Fy (a:=(x%4294967296)*(y%4294967296)) (s:=32))) O (AJ (AQ (c:=((((x/4294967296)*(y%4294967296))+(((x%4294967296)*(y%4294967296))/4294967296):Nat):Int)) O O (DU (a:=(x/4294967296)*(y%4294967296)) (b:=((x%4294967296)*(y%4294967296))/4294967296) Z)) O (AI O (q3 (sL [0,1,4,5,6,7,8,9,11] O) ?_)))))))))))
 refine AM O (AJ (KV (c:=(((((x/4294967296)*(y%4294967296))+(((x%4294967296)*(y%4294967296))/4294967296))%4294967296:Nat):Int)) O O (IT (a:=((x/4294967296)*(y%4294967296))+(((x%4294967296)*(y%4294967296))/4294967296)) Z)) O (AI O (q3 (sL [0,1,4,5,6,7,8,9,11,12] O) (AM O (AJ (Ct (s:=32) (c:=(((((x/4294967296)*(y%4294967296))+(((x%4294967296)*(y%4294967296))/4294967296))/4294967296:Nat):Int)) O O O (by decide) (Fy (a:=((x/4294967296)*(y%4294967296))+(((x%4294967296)*(y%4294967296))/4294967296)) (s:=32))) O (AI O (q3 (sL [0,1,4,5,6,7,8,9,11,12,13] O) (AM O (AM O (AM O (AJ (Bs (c:=(((x%4294967296)*(y/4294967296):Nat):Int)) O O (Ev (a:=x%4294967296) (b:=y/4294967296) Z)) O ?_)))))))))))
 refine AJ (AQ (c:=((((((x/4294967296)*(y%4294967296))+(((x%4294967296)*(y%4294967296))/4294967296))%4294967296)+((x%4294967296)*(y/4294967296)):Nat):Int)) O O (DU (a:=(((x/4294967296)*(y%4294967296))+(((x%4294967296)*(y%4294967296))/4294967296))%4294967296) (b:=(x%4294967296)*(y/4294967296)) Z)) O (AI O (q3 (sL [0,1,4,5,6,7,8,9,11,12,13] O) (AM O (AM O (AJ (Bs (c:=(((x/4294967296)*(y/4294967296):Nat):Int)) O O (Ev (a:=x/4294967296) (b:=y/4294967296) Z)) O (AM O (AJ (AQ (c:=((((x/4294967296)*(y/4294967296))+((((x/4294967296)*(y%4294967296))+(((x%4294967296)*(y%4294967296))/4294967296))/4294967296):Nat):Int)) O O (DU (a:=(x/4294967296)*(y/4294967296)) (b:=(((x/4294967296)*(y%4294967296))+(((x%4294967296)*(y%4294967296))/4294967296))/4294967296) Z)) O (AM O (AJ (Ct (s:=32) (c:=(((((((x/4294967296)*(y%4294967296))+(((x%4294967296)*(y%4294967296))/4294967296))%4294967296)+((x%4294967296)*(y/4294967296)))/4294967296:Nat):Int)) O O O (by decide) (Fy (a:=((((x/4294967296)*(y%4294967296))+(((x%4294967296)*(y%4294967296))/4294967296))%4294967296)+((x%4294967296)*(y/4294967296))) (s:=32))) O (AJ (AQ (c:=((x*y/18446744073709551616:Nat):Int)) O O (by rw [<-Int.natCast_add,hh];exact BW hh2)) O (AI O ?_)))))))))))
 exact q3 (sL [0,1,4,5,6,7,8,9,11,12] O) (AM O (AM O (AJ (Bs (c:=((x*y%18446744073709551616:Nat):Int)) O O WP) O (AI O (AC.nil (OkQ.subF (sL [0,1,4,5,6,7,8,9,11,12] O) (OkQ.then_ (AE.ret (CH O (Ah (v:=(vK .u64 (x*y/18446744073709551616))) O) (Ah (v:=(vK .u64 (x*y%18446744073709551616))) O) (λw hw=>⟨rfl,hw.out⟩))))))))))
theorem UB (hi lo y:Nat) (hh:hi<y) (hl:lo<4294967296) (hy:y<4294967296) (w:World)  :Calls prog 157 #[(vK .u32 hi),(vK .u32 lo),(vK .u32 y)] w (A9 w (Value.tuple #[(vK .u32 ((hi*4294967296+lo)/y)),(vK .u32 ((hi*4294967296+lo)%y))])):=by
 refine Aq (args:=[(vK .u32 hi),(vK .u32 lo),(vK .u32 y)]) func157 O O (Ad O) (AE.subF (sL [0,1,2] O) (q4 (AI O (AI O (AC.nil (q1 (q4 (AM O (AJ (Cv (c:=(decide (y≠0))) O O (bR (a:=y) (b:=0))) O (AM O ?_))))))))))
 refine AC.mid (FM:=[(0,(vK .u32 hi)),(1,(vK .u32 lo)),(2,(vK .u32 y)),(6,(Value.int .u32 (0:Int))),(7,(Value.int .u32 (0:Int))),(9,(vK .u32 y)),(10,(Value.bool (decide (y≠0)))),(11,(Value.bool (decide (y≠0)))),(15,(Value.bool ((decide (y≠0))&&(decide (y<=hi)))))]) (LM:=[]) 4 ?_ ?_
 ·rcases Bool.eq_false_or_eq_true (decide (y≠0)) with hg1|hg1
  ·skip
   refine AC.retell (k:=11) (u:=Value.bool true) O (by rw [hg1]) ?_
   have hg1':=hg1
   replace hg1':=of_decide_eq_true hg1'
   exact AC.step (v:=(vK .u32 y)) (AA O) (AU O) O (Ad O) (AC.step (v:=(vK .u32 hi)) (AA O) (AU O) O (Ad O) (AC.step (v:=(Value.bool (decide (y<=hi)))) (AA O) (HS (c:=(decide (y<=hi))) O O (Wh (a:=y) (b:=hi))) O (Ad O) (AJ (v:=(Value.bool (decide (y<=hi)))) (AW O O) O (AC.nil (OkQ.mid (sS O (sS O (sS O (sS O (sS O (sS O (sS O (sS (by first|rfl|(rw [hg1];rfl)|rw [hg1]) (sS (by first|rfl|(rw [hg1];rfl)|rw [hg1]) (sN)))))))))) (List.Sublist.refl _))))))
  ·skip
   refine AC.retell (k:=11) (u:=Value.bool false) O (by rw [hg1]) ?_
   have hg1':=hg1
   replace hg1':=of_decide_eq_false hg1'
   exact AC.skip (AH O) O (Ad O) (AC.skip (AH O) O (Ad O) (AC.skip (AH O) O (Ad O) (AJ (v:=(Value.bool false)) (AT O O) O (AC.nil (OkQ.mid (sS O (sS O (sS O (sS O (sS O (sS O (sS O (sS (by first|rfl|(rw [hg1];rfl)|rw [hg1]) (sS (by first|rfl|(rw [hg1];rfl)|rw [hg1]) (sN)))))))))) (List.Sublist.refl _))))))
 refine AC.nil (OkQ.subF (sL [0,1,2,6,7,15] O) (OkQ.then_ ?_))
 refine AE.cond O (λhc0=>?_) (λhc0=>?_)
 ·simp only [Bool.and_eq_true,Bool.or_eq_true,Bool.and_eq_false_iff,Bool.or_eq_false_iff,Bool.not_eq_true',Bool.not_eq_false',decide_eq_true_eq,decide_eq_false_iff_not] at hc0
  exfalso;omega
 ·simp only [Bool.and_eq_true,Bool.or_eq_true,Bool.and_eq_false_iff,Bool.or_eq_false_iff,Bool.not_eq_true',Bool.not_eq_false',decide_eq_true_eq,decide_eq_false_iff_not] at hc0
  refine AE.skip (q2 (AM O (AJ (Ax (c:=((hi:Nat):Int)) O underlying50 underlying56 (BW Z)) O (AJ (v:=(vK .u64 (hi*4294967296))) (Ge (s:=32) O O O (by decide) (GC (s:=32) Z)) O (AM O (AJ (Ax (c:=((lo:Nat):Int)) O underlying50 underlying56 (BW Z)) O (AJ (JD (c:=((hi*4294967296+lo:Nat):Int)) O O (Jz Z Z (by rw [Nat.or_comm,Nat.add_comm];exact HZ (s:=32) Z))) O ?_)))))))
  have hq:(hi*4294967296+lo)/y<4294967296:=Nat.div_lt_of_lt_mul (by have h9:(hi+1)*4294967296<=y*4294967296:=Nat.mul_le_mul_right _ hh;omega)
  have hr:(hi*4294967296+lo)%y<y:=Nat.mod_lt _ Z
  refine AI O (q6 (sL [0,2,6,7,8] O) (Ck [(0,true),(1,true),(2,true),(3,true),(4,true),(5,true),(6,true),(7,true),(8,true),(9,true),(10,true),(11,true)] sr (BT O (BT O (Ao O (Ax (c:=((y:Nat):Int)) O underlying50 underlying56 (BW Z)) (Ao O (Dm (c:=(((hi*4294967296+lo)/y:Nat):Int)) O O Z (Hs (a:=hi*4294967296+lo) (b:=y) Z)) (Ao O (Ax (c:=(((hi*4294967296+lo)/y:Nat):Int)) O underlying56 underlying50 (CQ Z)) (BT O (BT O (Ao O (Ax (c:=((y:Nat):Int)) O underlying50 underlying56 (BW Z)) (Ao O (Bg (c:=(((hi*4294967296+lo)%y:Nat):Int)) O O Z (F3 (a:=hi*4294967296+lo) (b:=y))) ?_)))))))))))
  exact Ao O (Ax (c:=(((hi*4294967296+lo)%y:Nat):Int)) O underlying56 underlying50 (CQ Z)) (pS' O (pS' O (OkE.nil (OkQ.subF (sL [0,2,6,7] O) (OkQ.then_ (AE.ret (CH O (Ah (v:=(vK .u32 ((hi*4294967296+lo)/y))) O) (Ah (v:=(vK .u32 ((hi*4294967296+lo)%y))) O) (λw hw=>⟨rfl,hw.out⟩))))))))
theorem V0 (x:Nat) (hx:x<4294967296) (w:World)  :Calls prog 80 #[(vK .u32 x)] w (A9 w (vN (bl x))):=by
 refine Aq (args:=[(vK .u32 x)]) func80 O O (Ad O) (AE.subF (sL [0] O) (q4 (AI O (AC.nil (q1 (q4 (AM O (AJ (DR (c:=(decide (65536<=x))) O O (Wh (a:=65536) (b:=x))) O (AC.nil (OkQ.subF (sL [0,2,4] O) (OkQ.then_ ?_)))))))))))
 refine AE.jn2 (tg λ(u:Nat) (n:Nat)=>u<65536/\n<=16/\bl x=bl u+n) (tg λ(u:Nat) (n:Nat)=>[(0,(vK .u32 u)),(2,(vN n))]) (tg λ(u:Nat) (n:Nat)=>[]) ?_ ?_
 ·skip
  refine AE.cond O (λhc0=>?_) (λhc0=>?_)
  ·replace hc0:=of_decide_eq_true hc0
   exact q4 (AM O (AJ (Ct (s:=16) (c:=((x/65536:Nat):Int)) O O O (by decide) (Fy (a:=x) (s:=16))) O (AI O (AC.nil (OkQ.subF (sL [0,2] O) (OkQ.then_ (AE.region (AI O (AC.nil (OkQ.join2 (x/65536) 16 (⟨Z,Z,OI (k:=16) hc0⟩) (sF O) sr))))))))))
  ·replace hc0:=of_decide_eq_false hc0
   exact AE.skip (OkQ.join2 x 0 (⟨Z,Z,rfl⟩) (sF O) sr)
 ·intro u n hJ
  obtain ⟨hu,hn,hv⟩:=hJ
  refine q1 (q4 (AM O (AJ (DR (c:=(decide (256<=u))) O O (Wh (a:=256) (b:=u))) O (AC.nil (OkQ.subF (sL [0,2,8] O) (OkQ.then_ ?_))))))
  refine AE.jn2 (tg λ(u2:Nat) (n2:Nat)=>u2<256/\n2<=24/\bl x=bl u2+n2) (tg λ(u2:Nat) (n2:Nat)=>[(0,(vK .u32 u2)),(2,(vN n2))]) (tg λ(u2:Nat) (n2:Nat)=>[]) ?_ ?_
  ·skip
   refine AE.cond O (λhc1=>?_) (λhc1=>?_)
   ·replace hc1:=of_decide_eq_true hc1
    refine q4 (AM O (AJ (Ct (s:=8) (c:=((u/256:Nat):Int)) O O O (by decide) (Fy (a:=u) (s:=8))) O (AI O (AC.nil (OkQ.subF (sL [0,2] O) (OkQ.then_ (AE.region (AM O (AJ (AQ (c:=((n+8:Nat):Int)) O O (AN (a:=n) (b:=8) Z)) O (AI O (AC.nil ?_)))))))))))
    exact OkQ.subF (sL [0,2] O) (OkQ.join2 (u/256) (n+8) (⟨Z,Z,by rw [hv,Zx hc1];omega⟩) (sF O) sr)
   ·replace hc1:=of_decide_eq_false hc1
    exact AE.skip (OkQ.join2 u n (⟨Z,Z,hv⟩) (sF O) sr)
  ·intro u2 n2 hJ
   obtain ⟨hu2,hn2,hv2⟩:=hJ
   refine q2 (AM O (AM O (AJ (Ax (c:=((u2:Nat):Int)) O underlying50 underlying5 (UE Z)) O ?_)))
   have hb8:bl u2<=8:=US (k:=8) hu2
   exact AJ (v:=(vK .u8 (bl u2))) (IE (j:=u2) (m:=bl u2) O O underlying9 (ZB (by kernel_rfl) hu2) Z) O (AJ (Ax (c:=((bl u2:Nat):Int)) O underlying5 underlying3 (CI Z)) O (AJ (AQ (c:=((bl x:Nat):Int)) O O (by rw [hv2,Int.add_comm,<-Int.natCast_add];exact CI Z)) O (AI O (AC.nil (OkQ.subF (sL [0,2] O) (OkQ.then_ (AE.ret (AV O (Ah (v:=(vN (bl x))) O) (λw hw=>⟨rfl,hw.out⟩)))))))))
theorem Ye (x:Nat) (hx:x<4294967296) (w:World)  :Calls prog 158 #[(vK .u32 x)] w (A9 w (vN (32-bl x))):=by
 have hb:=US (k:=32) hx
 refine Aq (args:=[(vK .u32 x)]) func158 O O (Ad O) (AE.subF (sL [0] O) (q4 (AI O (AC.nil (q2 (AM O (ck' call80 (V0 _ Z) O (AJ (BU (c:=((32-(bl x):Nat):Int)) O O (By (a:=32) (b:=bl x) Z Z)) O (AI O (AC.nil (OkQ.subF (sL [2] O) ?_)))))))))))
 exact OkQ.then_ (AE.ret (AV O (Ah (v:=(vN (32-(bl x)))) O) (λw hw=>⟨rfl,hw.out⟩)))
theorem YI (z:Int) (hz:-9223372036854775808<=z) (hz2:z<9223372036854775808) (w:World)  :Calls prog 163 #[(vI z)] w (A9 w (vI z.sign)):=by
 refine Aq (args:=[(vI z)]) func163 O O (Ad O) (AE.subF (sL [0] O) (q4 (AI O (AC.nil (q2 (AM O (AJ (GO (c:=(if z<1 then z else 1)) O O O) O (AJ (FL (c:=z.sign) O O (UR z)) O (AI O (AC.nil (OkQ.subF (sL [2] O) ?_)))))))))))
 exact OkQ.then_ (AE.ret (AV O (Ah (v:=(vI z.sign)) O) (λw hw=>⟨rfl,hw.out⟩)))
end
section
section
variable {P:Program} {n:Nat} {F:List (Nat×Value)} {w0:BL} {L:List As} {x y:Operand} {d:Option Tmp} {t:TypeId} {p:String} {af:Array Edge} {g:Option (Nat×Bool)}
def IK (P:Program) (D:Nat) (T:TypeId) (u v:Value) (b:Bool):Prop:=∀w,(Op.equalIn D T u v).run P w=.ok b w
def Ni (P:Program) (D:Nat) (xs ys:List Value) (fs:List Field) (b:Bool):Prop:=∀w,(Op.eqFields D xs.toArray ys.toArray fs).run P w=.ok b w
theorem IK.int {D:Nat} {T:TypeId} {k k':IntKind} {a b:Int} (h:P.underlying T=some (.int k')):IK P (D+1) T (.int k a) (.int k b) (a == b):=λw=>run_equalIn_int w D T k k' a b h
theorem IK.str {D:Nat} {T:TypeId} {a b:ByteArray} (h:P.underlying T=some .string):IK P (D+1) T (.string a) (.string b) (a.toList == b.toList):=λw=>run_equalIn_string w D T a b h
theorem IK.struct {D:Nat} {T:TypeId} {xs ys:List Value} {b:Bool} {fs:Array Field} (hu:P.underlying T=some (.struct fs)) (hp:P.stoodInHeld T=false) (h:Ni P D xs ys fs.toList b):IK P (D+1) T (.agg xs.toArray) (.agg ys.toArray) b:=λw=>by
  have e:P.fieldsOf T=fs:=by simp [Program.fieldsOf,hu]
  rw [run_equalIn_struct w D T _ _ (by rw [e];exact hu) hp,e];exact h w
theorem Ni.nil {D:Nat} {xs ys:List Value}:Ni P D xs ys [] true:=λw=>rfl
theorem Ni.one {D : Nat} {xs ys : List Value} {f : Field} {fs : List Field} {a b : Value} {r s : Bool} (hn : f.name ≠ "_") (hg : ∀ w, (isAgg f.type).run P w = .ok false w) (ha : xs[f.offset]? = some a) (hb : ys[f.offset]? = some b)
    (h:IK P D f.type a b r) (h2:Ni P D xs ys fs s):Ni P D xs ys (f::fs) (r&&s):=λw=>by
  have e1:(part f.type xs.toArray f.offset).run P w=.ok a w:=by simp [part,hg,ha]
  have e2:(part f.type ys.toArray f.offset).run P w=.ok b w:=by simp [part,hg,hb]
  simp only [Op.eqFields,Sem.run_ite,if_pos hn,Sem.run_bind,e1,e2,Result.andThen_ok,h w]
  cases r
  · simp
  · simp [h2 w]
theorem Ni.agg {D k : Nat} {xs ys us bs : List Value} {f : Field} {fs : List Field} {r s : Bool} (hn : f.name ≠ "_") (hg : ∀ w, (isAgg f.type).run P w = .ok true w) (hs : ∀ w, (sizeOf f.type).run P w = .ok k w)
    (ha:(xs.drop f.offset).take k=us) (hb:(ys.drop f.offset).take k=bs)
    (h:IK P D f.type (.agg us.toArray) (.agg bs.toArray) r) (h2:Ni P D xs ys fs s):Ni P D xs ys (f::fs) (r&&s):=λw=>by
  have ex:∀l:List Value,l.toArray.extract f.offset (f.offset+k)=((l.drop f.offset).take k).toArray:=λl=>by simp [List.extract_eq_take_drop]
  have e1:(part f.type xs.toArray f.offset).run P w=.ok (.agg us.toArray) w:=by simp [part,hg,hs,ex,ha]
  have e2:(part f.type ys.toArray f.offset).run P w=.ok (.agg bs.toArray) w:=by simp [part,hg,hs,ex,hb]
  simp only [Op.eqFields,Sem.run_ite,if_pos hn,Sem.run_bind,e1,e2,Result.andThen_ok,h w]
  cases r
  · simp
  · simp [h2 w]
theorem DK {xs ys:List Value} {c:Bool} {tx ty:TypeId} (hx:evF F x=some (.agg xs.toArray)) (hy:evF F y=some (.agg ys.toArray)) (hg:P.eqGuardType P.depth tx=false) (hc:IK P 10000 tx (.agg xs.toArray) (.agg ys.toArray) c) :
    Ex P n F w0 L ⟨d,.binOp .eql tx x y ty,t,p,af,g⟩ (.bool c):=λA w ha _=>by
  simp only [execOp,ha.ev hx,ha.ev hy,Sem.run_bind,run_eqGuard_agg w .eql tx x y _ _ hg,Result.andThen_ok,run_eql_struct,hc w,Sem.run_pure]
end
theorem V8 {a b:Nat} (ha:¬a<18446744073709551616) (hb:¬b<18446744073709551616) (h:Bn a=Bn b):a=b:=by
  rw [E1 ha,E1 hb] at h
  have h1:bytesN (AR a)=bytesN (AR b):=by
    have lt:∀(xs:List Nat),∀x∈bytesN xs,x<256:=λxs x hx=>by
      simp only [bytesN,List.mem_flatMap,List.mem_cons,List.not_mem_nil,or_false] at hx
      obtain ⟨y,_,hy⟩:=hx
      omega
    have inj:∀(l r:List Nat),(∀x∈l,x<256)->(∀x∈r,x<256)->l.map UInt8.ofNat=r.map UInt8.ofNat->l=r:=by
      intro l
      induction l with
      | nil=>intro r _ _ h;cases r<;>simp_all
      | cons x l ih =>
        intro r hl hr h
        cases r with
        | nil=>simp at h
        | cons y r =>
          simp only [List.map_cons,List.cons.injEq] at h
          have e:x=y:=by
            have h3:=congrArg UInt8.toNat h.1
            have h4:=hl x (by simp)
            have h5:=hr y (by simp)
            simp at h3
            omega
          rw [e,ih r (λz hz=>hl z (by simp [hz])) (λz hz=>hr z (by simp [hz])) h.2]
    refine inj _ _ (lt _) (lt _) ?_
    have:=congrArg (λs:ByteArray=>s.data.toList) h
    simpa [DI] using this
  have h2:AR a=AR b:=by
    have hl:(AR a).length=(AR b).length:=by
      have:=congrArg List.length h1
      simp only [B9] at this
      omega
    apply List.ext_getElem hl
    intro i hi hi'
    have g:∀k,k<4->(AR a).getD i 0/256^k%256=(AR b).getD i 0/256^k%256:=λk hk=>by rw [<-Fs _ _ _ hi hk,<-Fs _ _ _ hi' hk,h1]
    have wa:=(Bv a).getD i
    have wb:=(Bv b).getD i
    have ea:(AR a).getD i 0=(AR a)[i]:=by simp [hi]
    have eb:(AR b).getD i 0=(AR b)[i]:=by simp [hi']
    rw [ea,eb] at g
    rw [ea] at wa
    rw [eb] at wb
    have g0:=g 0 Z
    have g1:=g 1 Z
    have g2:=g 2 Z
    have g3:=g 3 Z
    simp only [Nat.pow_zero,Nat.div_one,Nat.pow_one,show (256:Nat)^2=65536 from rfl,show (256:Nat)^3=16777216 from rfl] at g0 g1 g2 g3
    omega
  rw [<-CZ a,<-CZ b,h2]
theorem XQ (a b:Nat):((((CC a:Nat):Int) == ((CC b:Nat):Int))&&(((Bn a).toList == (Bn b).toList)&&true))=decide (a=b):=by
  by_cases e:a=b
  · subst e;simp
  · rw [decide_eq_false e]
    by_cases ha:a<18446744073709551616
    · by_cases hb:b<18446744073709551616
      · rw [Bm ha,Bm hb]
        have:((a:Int) == (b:Int))=false:=by simp;omega
        rw [this];rfl
      · have h1:=QT hb
        rw [Hg ha,<-beq_toListBytes]
        have:(ByteArray.empty == Bn b)=false:=by
          rw [beq_toListBytes,ByteArray.toList_eq,ByteArray.toList_eq,E1 hb]
          cases hl:(DI (bytesN (AR b))).data.toList with
          | nil =>
            have h3:=congrArg List.length hl
            simp [DI,B9] at h3
            unfold nw at h1
            omega
          | cons=>rfl
        rw [this];simp
    · by_cases hb:b<18446744073709551616
      · have h1:=QT ha
        rw [Hg hb,<-beq_toListBytes]
        have:(Bn a == ByteArray.empty)=false:=by
          rw [beq_toListBytes,ByteArray.toList_eq,ByteArray.toList_eq,E1 ha]
          cases hl:(DI (bytesN (AR a))).data.toList with
          | nil =>
            have h3:=congrArg List.length hl
            simp [DI,B9] at h3
            unfold nw at h1
            omega
          | cons=>rfl
        rw [this];simp
      · rw [<-beq_toListBytes]
        have:(Bn a == Bn b)=false:=by
          cases hbb:Bn a == Bn b with
          | false=>rfl
          | true =>
            rw [beq_toListBytes] at hbb
            have h2:(Bn a).toList=(Bn b).toList:=by simpa using hbb
            rw [ByteArray.toList_eq,ByteArray.toList_eq] at h2
            have h3:Bn a=Bn b:=by
              cases hA:Bn a with|mk da=>cases hB:Bn b with|mk db =>
                rw [hA,hB] at h2
                congr 1
                exact Array.toList_inj.1 h2
            exact absurd (V8 ha hb h3) e
        rw [this];simp
theorem Mw (D a b:Nat):IK prog (D+2) 58 (.agg (Ag a).toArray) (.agg (Ag b).toArray) (decide (a=b)):=by
  rw [<-XQ]
  exact IK.struct underlying58 Tryz.stoodInHeld58 (Ni.one (by decide) isAgg56 O O (IK.int underlying56) (Ni.one (by decide) isAgg9 O O (IK.str underlying9) Ni.nil))
end
section
set_option maxRecDepth 100000
theorem Jy (n:Nat) (hn:n<18446744073709551616) (w:World)  :Calls prog 90 #[(vK .u64 n)] w (A9 w (aG (Ag n))):=by
 refine Aq (args:=[(vK .u64 n)]) func90 O O (Ad O) (AE.subF (sL [0] O) (q4 (al GS O λb1=>AC.nil (q2 (AM O (AJ (v:=(aG ([(vK .u64 n),(Value.string (Bn 0))]))) (AY (zs:=Ag 0) (vs:=[(vK .u64 n),(Value.string (Bn 0))]) (pv:=[(0,(vK .u64 n))]) (places:=[(0,1),(1,1)]) zeroValue58 underlying58 (λw=>by simp [sizeOf9,sizeOf56]) O O) O (AC.retell (k:=4) (u:=(aG (Ag n))) O (by rw [De hn];rfl) (BN O sizeOf58 O (AC.nil (OkQ.subF (sL [2] O) ?_))))))))))
 exact OkQ.then_ (AE.ret (AV O (BP (i:=0) (cs:=Ag n) O O isAgg58 sizeOf58 O) (λw hw=>⟨rfl,hw.out⟩)))
theorem Lc  :Instr.fill ([(0,1),(1,1)].toArray[·]?) (Ag 0).toArray []=some (Ag 0).toArray:=by kernel_rfl
theorem RN (a:Nat) (w:World)  :Calls prog 136 #[(aG (Ag a))] w (A9 w (Value.bool (decide (a=0)))):=by
 refine Aq (args:=[(aG (Ag a))]) func136 O O (Ad O) (AE.subF (sL [0] O) (q4 (Ca (cs:=Ag a) O λb1=>AI O (q3 (sL [1,2] O) (BF 0 Cq O (AJ (v:=(aG (Ag 0))) (AY (zs:=Ag 0) (vs:=Ag 0) (pv:=[]) (places:=[(0,1),(1,1)]) zeroValue58 underlying58 (λw=>by simp [sizeOf9,sizeOf56]) O (Lc )) O (AJ (DK (c:=(decide (a=0))) O O eqGuardType58 (Mw 9998 a 0)) O (AI O (AC.nil (OkQ.subF (sL [2] O) ?_))))))))))
 exact OkQ.then_ (AE.ret (AV O (Ah (v:=(Value.bool (decide (a=0)))) O) (λw hw=>⟨rfl,hw.out⟩)))
theorem DD (v:Nat) (hv:nw v<=1099511627776) (w:World)  :Calls prog 138 #[(aG (Ag v))] w (λe w'=>∃b,e=.returned (.slice (some ⟨b,0,none⟩) (nw v) (A8 v).length)/\GJ w.heap.size w w'/\w.heap.size<=b/\w'.heap[b]?=some (.cells (Au (A8 v)).toArray 50 (0,0))):=by
 refine Aq (args:=[(aG (Ag v))]) func138 O O (Ad O) (AE.subF (sL [0] O) (q4 (Ca (cs:=Ag v) O λb1=>AI O (q6 (sL [1,2] O) (q4 (AJ (v:=(pP b1 1)) (AB O underlying58 O sizeOf9 O) O (BE 0 (Value.string (Bn v)) WU O (AJ (B_ (c:=(decide (v<18446744073709551616))) O O Cp) O (AC.nil (OkQ.subF (sL [1,2,8] O) ?_))))))))))
 refine OkQ.then_ ?_
 refine AE.cond O (λhc0=>?_) (λhc0=>?_)
 ·replace hc0:=of_decide_eq_true hc0
  refine q4 (AJ (v:=(pP b1 0)) (AB O underlying58 O sizeOf56 O) O (BE 0 (vK .u64 (CC v)) G_ O (AC.retell (k:=10) (u:=(vK .u64 v)) O (by rw [Bm hc0]) (AJ (Ax (c:=((v%4294967296:Nat):Int)) O underlying56 underlying50 EN) O (AJ (v:=(pP b1 0)) (AB O underlying58 O sizeOf56 O) O (BE 0 (vK .u64 (CC v)) G_ O (AC.retell (k:=13) (u:=(vK .u64 v)) O (by rw [Bm hc0]) (AJ (Ct (s:=32) (c:=((v/4294967296:Nat):Int)) O O O (by decide) (Fy (a:=v) (s:=32))) O (AJ (Ax (c:=((v/4294967296:Nat):Int)) O underlying56 underlying50 (CQ Z)) O (AC.openV (V:=λb2=>(Value.slice (some ⟨b2,0,none⟩) 2 2)) (T:=50) (cs:=Au ([v%4294967296,v/4294967296])) (AP O) (Ai (cs:=Au ([v%4294967296,v/4294967296])) (pv:=[(0,(vK .u32 (v%4294967296))),(1,(vK .u32 (v/4294967296)))]) underlying224 sizeOf50 zeroValue50 (by decide) (by decide) O (by kernel_rfl)) O (Ad O) λb2=>DS call156 (λw hw=>Vm _ 2 2 ([v%4294967296,v/4294967296]) (W32.cons Z (W32.cons Z (W32.nil))) (by simp) (by simp) (by simp;try omega) w (hw.get (i:=0) O)) O ?_))))))))))
  refine AI O (AC.nil (OkQ.subF (sL [1,2] O) (OkQ.then_ (AE.ret (OkQ.then_ret ?_)))))
  have hpad:A8 v=[v%4294967296,v/4294967296]:=by simp [A8,hc0]
  have hnw:nw v=Dp [v%4294967296,v/4294967296] 2:=by rw [<-Pb (Yn hc0) (m:=2) (by simp),<-Qq v,hpad];simp [val];congr 1;omega
  have hret:∀b:Nat,(Ending.returned (Value.slice (some ⟨b,0,none⟩) (Dp ([v%4294967296,v/4294967296]) 2) 2))=.returned (Value.slice (some ⟨b,0,none⟩) (nw v) (A8 v).length):=λb=>by rw [hnw,hpad];rfl
  replace hret:=hret b2
  have hcells:(some (Obj.cells (Au ([v%4294967296,v/4294967296])).toArray 50 (0,0)))=some (Obj.cells (Au (A8 v)).toArray 50 (0,0)):=by rw [hpad]
  exact AV O (Ah (v:=(Value.slice (some ⟨b2,0,none⟩) (Dp ([v%4294967296,v/4294967296]) 2) 2)) O) (λw hw=>⟨b2,hret,hw.out,hw.fresh (i:=0) O,(hw.get (i:=0) O).trans hcells⟩)
 ·replace hc0:=of_decide_eq_false hc0
  refine AE.skip (q2 (AJ (v:=(pP b1 1)) (AB O underlying58 O sizeOf9 O) O (BE 0 (Value.string (Bn v)) WU O (AJ (v:=(vN ((Bn v).size))) (Ld O underlying9) O (AC.retell (k:=20) (u:=(vN (4*nw v))) O (by rw [E1 hc0,Ks,B9];rfl) (AJ (Dm (c:=(((4*nw v)/4:Nat):Int)) O O Z (E5 (a:=4*nw v) (b:=4) Z)) O (AC.retell (k:=21) (u:=(vN (nw v))) O (by rw [Nat.mul_div_cancel_left _ Z]) (AC.openV (V:=λb2=>(Value.slice (some ⟨b2,0,none⟩) (nw v) (nw v))) (T:=50) (cs:=Au (List.replicate (nw v) 0)) (AP O) (DG (m:=nw v) (c:=nw v) O O Z Z) O (Ad O) λb2=>AI O (q6 (sL [1,2,3] O) (q4 ?_))))))))))
  refine AM O (AJ (v:=(vN (nw v))) (AF O underlying224) O (AM O (AC.nil (OkQ.subF (sL [1,2,3,24,25] O) (OkQ.then_ (AE.block ?_))))))
  refine AE.lp2 (tg λ(i:Nat) (os:List Nat)=>i<=nw v/\os.length=nw v/\os.take i=(AR v).take i/\∀j,i<=j->os.getD j 0=0) (tg λ(i:Nat) (os:List Nat)=>[(1,(pP b1 0)),(2,(Value.slice none 0 0)),(3,(Value.slice (some ⟨b2,0,none⟩) (nw v) (nw v))),(24,(vN (nw v))),(25,(vN i))]) (tg λ(i:Nat) (os:List Nat)=>[Af b2 50 (Au os),Af b1 58 (Ag v)]) (tg λ(i:Nat) (os:List Nat)=>nw v-i) 0 (List.replicate (nw v) 0) (⟨Nat.zero_le _,by simp,by simp,λj _=>by simp [List.getD_eq_getElem?_getD,List.getElem?_replicate];split<;>rfl⟩) (sF O) sr (λi os hJ=>?_)
  obtain ⟨hin,hl,ht,h0⟩:=hJ
  refine q4 (AJ (Ac (c:=(decide (i<(nw v)))) O O (CD (a:=i) (b:=nw v))) O (AC.nil (q1 ?_)))
  refine AE.cond O (λhc1=>?_) (λhc1=>?_)
  ·replace hc1:=of_decide_eq_true hc1
   refine AE.skip (q1 (AE.block (q4 (AM O (AI O (q3 (sL [1,2,3,24,25,4] O) (AM O (AC.nil (OkQ.then_ (AE.block ?_))))))))))
   refine AE.lp2 (tg λ(k:Nat) (xs:List Nat)=>k<=4/\xs=os.set i ((AR v).getD i 0%256^k)) (tg λ(k:Nat) (xs:List Nat)=>[(1,(pP b1 0)),(2,(Value.slice none 0 0)),(3,(Value.slice (some ⟨b2,0,none⟩) (nw v) (nw v))),(24,(vN (nw v))),(25,(vN i)),(4,(vN i)),(28,(vN k))]) (tg λ(k:Nat) (xs:List Nat)=>[Af b2 50 (Au xs),Af b1 58 (Ag v)]) (tg λ(k:Nat) (xs:List Nat)=>4-k) 0 os (⟨Z,by rw [Nat.pow_zero,Nat.mod_one];exact Wn (h0 i (Nat.le_refl _))⟩) (sF O) sr (λk xs hJ=>?_)
   obtain ⟨hk,hxs⟩:=hJ
   refine q4 (AJ (Ac (c:=(decide (k<4))) O O (CD (a:=k) (b:=4))) O (AC.nil (q1 ?_)))
   refine AE.cond O (λhc2=>?_) (λhc2=>?_)
   ·replace hc2:=of_decide_eq_true hc2
    refine AE.skip (q1 (AE.block (q4 (AM O (AI O (AC.nil (OkQ.subF (sL [1,2,3,24,25,4,28,5] O) (OkQ.then_ (Ck [(0,true),(1,true),(2,true),(4,true),(5,true),(6,true),(7,true),(8,true),(9,true),(10,true),(11,true),(12,true),(13,true),(14,true),(3,false),(15,true),(16,true),(17,false)] (sl sr) ?_)))))))))
    have hi:i<nw v:=hc1
    have hxi:xs.getD i 0=(AR v).getD i 0%256^k:=by rw [hxs];simp [hl,hi]
    have hxl:xs.length=nw v:=by rw [hxs];simp [hl]
    have hby:(AR v).getD i 0/256^k%256<256:=Nat.mod_lt _ Z
    have hget:(Bn v)[4*i+k]?=some (UInt8.ofNat ((AR v).getD i 0/256^k%256)):=by rw [E1 hc0,S2 (by rw [B9];show 4*i+k<4*nw v;omega),Fs _ _ _ hi hc2]
    have hw32:xs.getD i 0<4294967296:=by rw [hxi];exact Nat.lt_of_le_of_lt (Nat.mod_le _ _) ((Bv v).getD i)
    refine BT O (BT O (Ao (v:=(pP b2 i)) O (AO (j:=i) O O underlying224 sizeOf50 O Z (by simp)) (Ao (v:=(pP b1 1)) O (AB O underlying58 O sizeOf9 O) (Bk 0 (Value.string (Bn v)) WU O (BT O (Ao O (Bs (c:=((4*i:Nat):Int)) O O (Cm (a:=4) (b:=i) Z)) (BT O (Ao O (AQ (c:=(((4*i)+k:Nat):Int)) O O (AN (a:=4*i) (b:=k) Z)) (Ao (v:=(vK .u8 ((AR v).getD i 0/256^k%256))) O (IE (j:=4*i+k) (m:=(AR v).getD i 0/256^k%256) O O underlying9 hget hby) (Ao O (Ax (c:=(((AR v).getD i 0/256^k%256:Nat):Int)) O underlying5 underlying50 (CQ Z)) (BT O ?_)))))))))))
    refine Ao O (Bs (c:=((8*k:Nat):Int)) O O (Cm (a:=8) (b:=k) Z)) (Ao (v:=(vK .u32 ((AR v).getD i 0/256^k%256*2^(8*k)))) O (Ge (s:=8*k) O O O (show 8*k<=32 by omega) (Ue (Q1 hc2))) (OkE.imp O (AJ (AS (i:=0) (v:=(vK .u32 (xs.getD i 0))) O O isAgg50 (BO (xs:=xs) (j:=i) Z)) O (OkE.back (sl sr) (Ao O (JD (c:=(((AR v).getD i 0%256^(k+1):Nat):Int)) O O (Ju hw32 (Q1 hc2) (TX hxi))) (Ao (v:=(pP b2 i)) O (AO (j:=i) O O underlying224 sizeOf50 O Z (by simp)) (OkE.imp O (AC.store' (i:=0) (off:=i) (vs:=[(vK .u32 ((AR v).getD i 0%256^(k+1)))]) (cs':=Au (xs.set i ((AR v).getD i 0%256^(k+1)))) (L':=[Af b2 50 (Au (xs.set i ((AR v).getD i 0%256^(k+1)))),Af b1 58 (Ag v)]) (AP O) O O O O O sizeOf50 O (Ch (BV _) Z) (CK Z) O (OkE.back (sl sr) (OkE.nil (OkQ.subF (sL [1,2,3,24,25,4,28] O) ?_)))))))))))
    exact OkQ.in_normal (OkQ.then_ (AE.region (AJ (AQ (c:=((k+1:Nat):Int)) O O (AN (a:=k) (b:=1) Z)) O (AM O (AC.nil (OkQ.subF (sL [1,2,3,24,25,4,28] O) (OkQ.round2 (k+1) (xs.set i ((AR v).getD i 0%256^(k+1))) (⟨Z,by rw [hxs,List.set_set]⟩) Z (sF O) sr)))))))
   ·replace hc2:=of_decide_eq_false hc2
    refine AE.exit (OkQ.then_exit (OkQ.round2_exit (OkQ.in_exit (OkQ.in_normal (OkQ.then_ (AE.region (AJ (AQ (c:=((i+1:Nat):Int)) O O (AN (a:=i) (b:=1) Z)) O (AM O (AC.nil (OkQ.subF (sL [1,2,3,24,25,4,28] O) ?_))))))))))
    have hst:=Qc (ws:=AR v) (xs:=xs) hl rfl hc1 ht h0 (by rw [hxs,show k=4 by omega];congr 1;exact Nat.mod_eq_of_lt ((Bv v).getD i))
    exact OkQ.round2 (i+1) xs (⟨Z,hst.1,hst.2.1,hst.2.2⟩) Z (sF O) sr
  ·replace hc1:=of_decide_eq_false hc1
   refine AE.exit (OkQ.then_exit (OkQ.round2_exit (OkQ.in_exit (q2 (AM O (AI O (AC.nil (OkQ.subF (sL [1,2,3,24,25] O) (OkQ.then_ (AE.ret ?_))))))))))
   have hpad:A8 v=AR v:=by simp [A8,hc0]
   have hos:os=AR v:=UM hl rfl hc1 ht
   have hret:∀b:Nat,(Ending.returned (Value.slice (some ⟨b,0,none⟩) (nw v) (nw v)))=.returned (Value.slice (some ⟨b,0,none⟩) (nw v) (A8 v).length):=λb=>by rw [hpad];rfl
   replace hret:=hret b2
   have hcells:(some (Obj.cells (Au os).toArray 50 (0,0)))=some (Obj.cells (Au (A8 v)).toArray 50 (0,0)):=by rw [hpad,hos]
   exact AV O (Ah (v:=(Value.slice (some ⟨b2,0,none⟩) (nw v) (nw v))) O) (λw hw=>⟨b2,hret,hw.out,hw.fresh (i:=0) O,(hw.get (i:=0) O).trans hcells⟩)
end
end Go.Proofs.YtpgncndhhhllfaaGreat
