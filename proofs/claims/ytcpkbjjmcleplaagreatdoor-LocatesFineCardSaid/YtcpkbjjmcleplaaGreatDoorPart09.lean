import Derived.Laws.StructEq
import Derived.Test.YtcpkbjjmcleplaaGreatDoorPart08
namespace Go.Proofs.YtcpkbjjmcleplaaGreatDoor
open Go Go.RowKit Go.Proofs.Tryz
open Go.Value renaming slice→qz,bool→qa
set_option linter.unusedVariables false
set_option linter.unusedSimpArgs false
section
set_option maxRecDepth 100000
theorem RJ (b m c:Nat) (bs:List Nat) (hbs:W32 bs) (hm:m<=bs.length) (hc:m<=c) (hL:c<4611686018427387904) (w:World) (hb:w.heap[b]?=some (.cells (Ap bs).toArray 27 (0,0))):Calls prog 87 #[(qz (jk b) m c)] w (Ac w (qz (jk b) (Ej bs m) c)):=by
 refine AV (args:=[(qz (jk b) m c)]) func87 O O (leB O) (zI (sL [0] O) (q4 (asg' O (oNl' (q1 (zM ?_))))))
 refine yW (tg λ(k:Nat)=>k<=m/\Ej bs k=Ej bs m) (tg λ(k:Nat)=>[(2,jj),(0,(qz (jk b) k c))]) (tg λ(k:Nat)=>[]) (tg λ(k:Nat)=>k) m (⟨Nat.le_refl _,rfl⟩) (sF O) sr (λk hJ=>?_)
 obtain ⟨hk,hv⟩:=hJ
 refine zS (q4 (AK O (st' (v:=(vN k)) (AD O underlying169) O (st' (CC (c:=(decide (0<k))) O O (DE (a:=0) (b:=k))) O (AK O ?_)))))
 refine zg (FM:=[(2,jj),(0,(qz (jk b) k c)),(3,(qz (jk b) k c)),(4,(vN k)),(5,(qa (decide (0<k)))),(6,(qa (decide (0<k)))),(14,(qa ((decide (0<k))&&(decide ((bs.getD (k-1) 0)=0)))))]) (LM:=[]) 8 ?_ ?_
 ·rcases xO (decide (0<k)) with hg1|hg1
  ·refine zN (k:=6) (u:=qa true) O (by rw [hg1]) ?_
   have hg1':=xR hg1
   refine FR O (FR O (BV (v:=(vN k)) O (AD O underlying169) (BV (v:=(vN (k-1))) O (BY (c:=((k-1:Nat):Int)) O O (CY (a:=k) (b:=1) Z Z)) (BV (v:=(pP b (k-1))) O (AH (j:=k-1) O O underlying169 sizeOf27 O Z jX) ?_))))
   have hx1:bs.getD (k-1) 0<4294967296:=W32.getD hbs (k-1)
   exact BV (v:=(vK .u32 (bs.getD (k-1) 0))) O (Bf (v:=(vK .u32 (bs.getD (k-1) 0))) O (λw' hw=>CA.at0 (hw.oldCA jX (Fe hb)) (BM (xs:=bs) (j:=(k-1)) Z)) isAgg27) (BV (v:=(qa (decide ((bs.getD (k-1) 0)=0)))) O (Au (c:=(decide ((bs.getD (k-1) 0)=0))) O O (K0 (a:=bs.getD (k-1) 0) (b:=0))) (st' (v:=(qa (decide ((bs.getD (k-1) 0)=0)))) (ex_pick_true O O) O (oNl' (zT CT (xP _)))))
  ·refine zN (k:=6) (u:=qa false) O (by rw [hg1]) ?_
   have hg1':=xQ hg1
   exact BP O (BP O (BP O (BP O (BP O (BP O (BP O (st' (v:=(qa false)) (AN O O) O (oNl' (zT CT (xP _))))))))))
 refine oNl' (zB (sL [2,0,14] O) (zA ?_))
 refine zK O (λhc0=>?_) (λhc0=>?_)
 ·simp only [jK] at hc0
  refine zG (zA (zM (zH (AK O (AK O (st' (v:=(vN k)) (AD O underlying169) O (st' (BY (c:=((k-1:Nat):Int)) O O (CY (a:=k) (b:=1) Z Z)) O (st' (v:=(qz (jk b) (k-1) c)) (FQ (m:=k-1) O O underlying169 sizeOf27 Z) O (asg' O (oNl' (zB (sL [2,0] O) ?_)))))))))))
  exact zJ (yJ (k-1) (⟨Z,by rw [<-Nc hc0.1 hc0.2];exact hv⟩) Z (sF O) sr)
 ·simp only [jK] at hc0
  have hstop:Ej bs k=k:=Nd Z
  exact zW (zO (zy (zR (q2 (AK O (asg' O (oNl' (zB (sL [2,0] O) (zA (zF (ret_one O (rd_tmp (v:=(qz (jk b) k c)) O) (λw hw=>⟨by rw [<-hv,hstop],hw.out⟩))))))))))))
theorem LQ (x y c:Nat) (hx:x<4294967296) (hy:y<4294967296) (hc:c<=1) (w:World)  :Calls prog 146 #[(vK .u32 x),(vK .u32 y),(vK .u32 c)] w (Ac w (Value.tuple #[(vK .u32 ((x+y+c)%4294967296)),(vK .u32 ((x+y+c)/4294967296))])):=by
 refine AV (args:=[(vK .u32 x),(vK .u32 y),(vK .u32 c)]) func146 O O (leB O) (zI (sL [0,1,2] O) (q4 (asg' O (asg' O (oNl' (q2 (AK O (st' (Al (c:=((x:Nat):Int)) O underlying27 underlying52 (BW Z)) O (AK O (st' (Al (c:=((y:Nat):Int)) O underlying27 underlying52 (BW Z)) O (st' (AX (c:=((x+y:Nat):Int)) O O (EQ (a:=x) (b:=y) Z)) O ?_)))))))))))
 refine AK O (st' (Al (c:=((c:Nat):Int)) O underlying27 underlying52 (BW Z)) O (st' (AX (c:=(((x+y)+c:Nat):Int)) O O (EQ (a:=x+y) (b:=c) Z)) O (asg' O (q3 (sL [6,7,8] O) (AK O (st' (Al (c:=((((x+y)+c)%4294967296:Nat):Int)) O underlying52 underlying27 FT) O (asg' O (q3 (sL [6,7,8] O) (AK O (st' (DZ (s:=32) (c:=((((x+y)+c)/4294967296:Nat):Int)) O O O jY (HL (a:=(x+y)+c) (s:=32))) O (st' (Al (c:=((((x+y)+c)/4294967296:Nat):Int)) O underlying52 underlying27 (Co Z)) O ?_)))))))))))
 exact asg' O (oNl' (zB (sL [6,7,8] O) (zA (zF (Bl O (rd_tmp (v:=(vK .u32 (((x+y)+c)%4294967296))) O) (rd_tmp (v:=(vK .u32 (((x+y)+c)/4294967296))) O) (λw hw=>⟨rfl,hw.out⟩))))))
theorem Mh (x y c d:Nat) (hx:x<4294967296) (hy:y<4294967296) (hc:c<=1) (hd:d=(x+(4294967296-y)+(4294967296-c))%4294967296) (w:World)  :Calls prog 169 #[(vK .u32 x),(vK .u32 y),(vK .u32 c)] w (Ac w (Value.tuple #[(vK .u32 d),(vK .u32 (KG x (y+c)))])):=by
 have hd2:d<4294967296:=by omega
 have hb:=Vx hx hy hc hd
 have hx1:4294967295 ^^^ x<4294967296:=Nat.xor_lt_two_pow (n:=32) Z hx
 have hx2:x ^^^ y<4294967296:=Nat.xor_lt_two_pow (n:=32) hx hy
 have hx3:4294967295 ^^^ (x ^^^ y)<4294967296:=Nat.xor_lt_two_pow (n:=32) Z hx2
 have hx4:(4294967295 ^^^ x) &&& y<4294967296:=Nat.lt_of_le_of_lt Nat.and_le_right hy
 have hx5:(4294967295 ^^^ (x ^^^ y)) &&& d<4294967296:=Nat.lt_of_le_of_lt Nat.and_le_right hd2
 refine AV (args:=[(vK .u32 x),(vK .u32 y),(vK .u32 c)]) func169 O O (leB O) (zI (sL [0,1,2] O) (q4 (asg' O (asg' O (oNl' (q2 (AK O (AK O (st' (BY (c:=(((x+(4294967296-y))%4294967296:Nat):Int)) O O (QZ Z)) O (AK O (st' (BY (c:=((d:Nat):Int)) O O (by rw [QZ Z,hd];exact congrArg Int.ofNat Z)) O ?_)))))))))))
 refine asg' O (q3 (sL [0,1,6,7] O) (AK O (st' (WL (c:=((4294967295 ^^^ x:Nat):Int)) O (Pl hx)) O (AK O (st' (Li (c:=(((4294967295 ^^^ x) &&& y:Nat):Int)) O O (PY hx1 hy)) O (AK O (AK O (st' (cL (c:=((x ^^^ y:Nat):Int)) O O (Qp hx hy)) O (st' (WL (c:=((4294967295 ^^^ (x ^^^ y):Nat):Int)) O (Pl hx2)) O (AK O (st' (Li (c:=(((4294967295 ^^^ (x ^^^ y)) &&& d:Nat):Int)) O O (PY hx3 hd2)) O ?_)))))))))))
 exact st' (KN (c:=(((4294967295 ^^^ x) &&& y ||| (4294967295 ^^^ (x ^^^ y)) &&& d:Nat):Int)) O O (K5 hx4 hx5 O)) O (st' (DZ (s:=31) (c:=((((4294967295 ^^^ x) &&& y ||| (4294967295 ^^^ (x ^^^ y)) &&& d)/2147483648:Nat):Int)) O O O jY (HL (a:=(4294967295 ^^^ x) &&& y ||| (4294967295 ^^^ (x ^^^ y)) &&& d) (s:=31))) O (asg' O (oNl' (zB (sL [0,1,6,7] O) (zA (zF (Bl O (rd_tmp (v:=(vK .u32 d)) O) (rd_tmp (v:=(vK .u32 (((4294967295 ^^^ x) &&& y ||| (4294967295 ^^^ (x ^^^ y)) &&& d)/2147483648))) O) (λw hw=>⟨by rw [<-hb],hw.out⟩))))))))
theorem QF (x y:Nat) (hx:x<18446744073709551616) (hy:y<18446744073709551616) (w:World)  :Calls prog 123 #[(vK .u64 x),(vK .u64 y)] w (Ac w (Value.tuple #[(vK .u64 (x*y/18446744073709551616)),(vK .u64 (x*y%18446744073709551616))])):=by
 have h1:=L6 (a:=x%4294967296) (b:=y%4294967296) Z Z
 have h2:=L6 (a:=x/4294967296) (b:=y%4294967296) Z Z
 have h3:=L6 (a:=x%4294967296) (b:=y/4294967296) Z Z
 have h4:=L6 (a:=x/4294967296) (b:=y/4294967296) Z Z
 have hh:=Wp x y
 have hh2:x*y/18446744073709551616<18446744073709551616:=Nat.div_lt_of_lt_mul (Nat.mul_lt_mul'' hx hy)
 refine AV (args:=[(vK .u64 x),(vK .u64 y)]) func123 O O (leB O) (zI (sL [0,1] O) (q4 (asg' O (asg' O (oNl' (q2 (AK O (st' (Li (c:=((x%4294967296:Nat):Int)) O O (Jt (a:=x) Z)) O (asg' O (q3 (sL [0,1,4,5,6] O) (AK O ?_)))))))))))
 refine st' (DZ (s:=32) (c:=((x/4294967296:Nat):Int)) O O O jY (HL (a:=x) (s:=32))) O (asg' O (q3 (sL [0,1,4,5,6,7] O) (AK O (st' (Li (c:=((y%4294967296:Nat):Int)) O O (Jt (a:=y) Z)) O (asg' O (q3 (sL [0,1,4,5,6,7,8] O) (AK O (st' (DZ (s:=32) (c:=((y/4294967296:Nat):Int)) O O O jY (HL (a:=y) (s:=32))) O (asg' O (q3 (sL [0,1,4,5,6,7,8,9] O) (AK O ?_)))))))))))
 refine AK O (st' (B5 (c:=(((x%4294967296)*(y%4294967296):Nat):Int)) O O (F5 (a:=x%4294967296) (b:=y%4294967296) Z)) O (asg' O (q3 (sL [0,1,4,5,6,7,8,9,10] O) (AK O (AK O (st' (B5 (c:=(((x/4294967296)*(y%4294967296):Nat):Int)) O O (F5 (a:=x/4294967296) (b:=y%4294967296) Z)) O (AK O (st' (DZ (s:=32) (c:=((((x%4294967296)*(y%4294967296))/4294967296:Nat):Int)) O O O jY (HL (a:=(x%4294967296)*(y%4294967296)) (s:=32))) O (st' (AX (c:=((((x/4294967296)*(y%4294967296))+(((x%4294967296)*(y%4294967296))/4294967296):Nat):Int)) O O (EQ (a:=(x/4294967296)*(y%4294967296)) (b:=((x%4294967296)*(y%4294967296))/4294967296) Z)) O (asg' O (q3 (sL [0,1,4,5,6,7,8,9,11] O) ?_)))))))))))
 refine AK O (st' (Li (c:=(((((x/4294967296)*(y%4294967296))+(((x%4294967296)*(y%4294967296))/4294967296))%4294967296:Nat):Int)) O O (Jt (a:=((x/4294967296)*(y%4294967296))+(((x%4294967296)*(y%4294967296))/4294967296)) Z)) O (asg' O (q3 (sL [0,1,4,5,6,7,8,9,11,12] O) (AK O (st' (DZ (s:=32) (c:=(((((x/4294967296)*(y%4294967296))+(((x%4294967296)*(y%4294967296))/4294967296))/4294967296:Nat):Int)) O O O jY (HL (a:=((x/4294967296)*(y%4294967296))+(((x%4294967296)*(y%4294967296))/4294967296)) (s:=32))) O (asg' O (q3 (sL [0,1,4,5,6,7,8,9,11,12,13] O) (AK O (AK O (AK O (st' (B5 (c:=(((x%4294967296)*(y/4294967296):Nat):Int)) O O (F5 (a:=x%4294967296) (b:=y/4294967296) Z)) O ?_)))))))))))
 refine st' (AX (c:=((((((x/4294967296)*(y%4294967296))+(((x%4294967296)*(y%4294967296))/4294967296))%4294967296)+((x%4294967296)*(y/4294967296)):Nat):Int)) O O (EQ (a:=(((x/4294967296)*(y%4294967296))+(((x%4294967296)*(y%4294967296))/4294967296))%4294967296) (b:=(x%4294967296)*(y/4294967296)) Z)) O (asg' O (q3 (sL [0,1,4,5,6,7,8,9,11,12,13] O) (AK O (AK O (st' (B5 (c:=(((x/4294967296)*(y/4294967296):Nat):Int)) O O (F5 (a:=x/4294967296) (b:=y/4294967296) Z)) O (AK O (st' (AX (c:=((((x/4294967296)*(y/4294967296))+((((x/4294967296)*(y%4294967296))+(((x%4294967296)*(y%4294967296))/4294967296))/4294967296):Nat):Int)) O O (EQ (a:=(x/4294967296)*(y/4294967296)) (b:=(((x/4294967296)*(y%4294967296))+(((x%4294967296)*(y%4294967296))/4294967296))/4294967296) Z)) O (AK O (st' (DZ (s:=32) (c:=(((((((x/4294967296)*(y%4294967296))+(((x%4294967296)*(y%4294967296))/4294967296))%4294967296)+((x%4294967296)*(y/4294967296)))/4294967296:Nat):Int)) O O O jY (HL (a:=((((x/4294967296)*(y%4294967296))+(((x%4294967296)*(y%4294967296))/4294967296))%4294967296)+((x%4294967296)*(y/4294967296))) (s:=32))) O (st' (AX (c:=((x*y/18446744073709551616:Nat):Int)) O O (by rw [<-Int.natCast_add,hh];exact BW hh2)) O (asg' O ?_)))))))))))
 exact q3 (sL [0,1,4,5,6,7,8,9,11,12] O) (AK O (AK O (st' (B5 (c:=((x*y%18446744073709551616:Nat):Int)) O O Wq) O (asg' O (oNl' (zB (sL [0,1,4,5,6,7,8,9,11,12] O) (zA (zF (Bl O (rd_tmp (v:=(vK .u64 (x*y/18446744073709551616))) O) (rd_tmp (v:=(vK .u64 (x*y%18446744073709551616))) O) (λw hw=>⟨rfl,hw.out⟩))))))))))
theorem WD (hi lo y:Nat) (hh:hi<y) (hl:lo<4294967296) (hy:y<4294967296) (w:World)  :Calls prog 137 #[(vK .u32 hi),(vK .u32 lo),(vK .u32 y)] w (Ac w (Value.tuple #[(vK .u32 ((hi*4294967296+lo)/y)),(vK .u32 ((hi*4294967296+lo)%y))])):=by
 refine AV (args:=[(vK .u32 hi),(vK .u32 lo),(vK .u32 y)]) func137 O O (leB O) (zI (sL [0,1,2] O) (q4 (asg' O (asg' O (oNl' (q1 (q4 (AK O (st' (DH (c:=(decide (y≠0))) O O (eo (a:=y) (b:=0))) O (AK O ?_))))))))))
 refine zg (FM:=[(0,(vK .u32 hi)),(1,(vK .u32 lo)),(2,(vK .u32 y)),(6,(Value.int .u32 (0:Int))),(7,(Value.int .u32 (0:Int))),(9,(vK .u32 y)),(10,(qa (decide (y≠0)))),(11,(qa (decide (y≠0)))),(15,(qa ((decide (y≠0))&&(decide (y<=hi)))))]) (LM:=[]) 4 ?_ ?_
 ·rcases xO (decide (y≠0)) with hg1|hg1
  ·refine zN (k:=11) (u:=qa true) O (by rw [hg1]) ?_
   have hg1':=xR hg1
   exact FR O (FR O (BV (v:=(qa (decide (y<=hi)))) O (FB (c:=(decide (y<=hi))) O O (UP (a:=y) (b:=hi))) (st' (v:=(qa (decide (y<=hi)))) (ex_pick_true O O) O (oNl' (zT CT (xP _))))))
  ·refine zN (k:=11) (u:=qa false) O (by rw [hg1]) ?_
   have hg1':=xQ hg1
   exact BP O (BP O (BP O (st' (v:=(qa false)) (AN O O) O (oNl' (zT CT (xP _))))))
 refine oNl' (zB (sL [0,1,2,6,7,15] O) (zA ?_))
 refine zK O (λhc0=>?_) (λhc0=>?_)
 ·simp only [jK] at hc0
  exfalso;omega
 ·simp only [jK] at hc0
  refine zG (q2 (AK O (st' (Al (c:=((hi:Nat):Int)) O underlying27 underlying52 (BW Z)) O (st' (v:=(vK .u64 (hi*4294967296))) (Hj (s:=32) O O O jY (Hx (s:=32) Z)) O (AK O (st' (Al (c:=((lo:Nat):Int)) O underlying27 underlying52 (BW Z)) O (st' (KN (c:=((hi*4294967296+lo:Nat):Int)) O O (K6 Z Z (by rw [Nat.or_comm,Nat.add_comm];exact Il (s:=32) Z))) O ?_)))))))
  have hq:(hi*4294967296+lo)/y<4294967296:=Nat.div_lt_of_lt_mul (by have h9:(hi+1)*4294967296<=y*4294967296:=Nat.mul_le_mul_right _ hh;omega)
  have hr:(hi*4294967296+lo)%y<y:=Nat.mod_lt _ Z
  refine asg' O (q6 (sL [0,2,6,7,8] O) (B9 (EV 12) sr (Bi O (Bi O (Am O (Al (c:=((y:Nat):Int)) O underlying27 underlying52 (BW Z)) (Am O (Ec (c:=(((hi*4294967296+lo)/y:Nat):Int)) O O Z (JR (a:=hi*4294967296+lo) (b:=y) Z)) (Am O (Al (c:=(((hi*4294967296+lo)/y:Nat):Int)) O underlying52 underlying27 (Co Z)) (Bi O (Bi O (Am O (Al (c:=((y:Nat):Int)) O underlying27 underlying52 (BW Z)) (Am O (Cz (c:=(((hi*4294967296+lo)%y:Nat):Int)) O O Z (HD (a:=hi*4294967296+lo) (b:=y))) ?_)))))))))))
  exact Am O (Al (c:=(((hi*4294967296+lo)%y:Nat):Int)) O underlying52 underlying27 (Co Z)) (pS' O (pS' O (zP (zB (sL [0,2,6,7] O) (zA (zF (Bl O (rd_tmp (v:=(vK .u32 ((hi*4294967296+lo)/y))) O) (rd_tmp (v:=(vK .u32 ((hi*4294967296+lo)%y))) O) (λw hw=>⟨rfl,hw.out⟩))))))))
theorem Wj (x:Nat) (hx:x<4294967296) (w:World)  :Calls prog 133 #[(vK .u32 x)] w (Ac w (vN (bl x))):=by
 refine AV (args:=[(vK .u32 x)]) func133 O O (leB O) (zI (sL [0] O) (q4 (asg' O (oNl' (q1 (q4 (AK O (st' (Cy (c:=(decide (65536<=x))) O O (UP (a:=65536) (b:=x))) O (oNl' (zB (sL [0,2,4] O) (zA ?_)))))))))))
 refine yV (tg λ(u:Nat) (n:Nat)=>u<65536/\n<=16/\bl x=bl u+n) (tg λ(u:Nat) (n:Nat)=>[(0,(vK .u32 u)),(2,(vN n))]) (tg λ(u:Nat) (n:Nat)=>[]) ?_ ?_
 ·refine zK O (λhc0=>?_) (λhc0=>?_)
  ·replace hc0:=xR hc0
   exact q4 (AK O (st' (DZ (s:=16) (c:=((x/65536:Nat):Int)) O O O jY (HL (a:=x) (s:=16))) O (asg' O (oNl' (zB (sL [0,2] O) (zA (zH (asg' O (oNl' (zn (x/65536) 16 (⟨Z,Z,Pb (k:=16) hc0⟩) (sF O) sr))))))))))
  ·replace hc0:=xQ hc0
   exact zG (zn x 0 (⟨Z,Z,rfl⟩) (sF O) sr)
 ·intro u n hJ
  obtain ⟨hu,hn,hv⟩:=hJ
  refine q1 (q4 (AK O (st' (Cy (c:=(decide (256<=u))) O O (UP (a:=256) (b:=u))) O (oNl' (zB (sL [0,2,8] O) (zA ?_))))))
  refine yV (tg λ(u2:Nat) (n2:Nat)=>u2<256/\n2<=24/\bl x=bl u2+n2) (tg λ(u2:Nat) (n2:Nat)=>[(0,(vK .u32 u2)),(2,(vN n2))]) (tg λ(u2:Nat) (n2:Nat)=>[]) ?_ ?_
  ·refine zK O (λhc1=>?_) (λhc1=>?_)
   ·replace hc1:=xR hc1
    refine q4 (AK O (st' (DZ (s:=8) (c:=((u/256:Nat):Int)) O O O jY (HL (a:=u) (s:=8))) O (asg' O (oNl' (zB (sL [0,2] O) (zA (zH (AK O (st' (AX (c:=((n+8:Nat):Int)) O O (AU (a:=n) (b:=8) Z)) O (asg' O (oNl' ?_)))))))))))
    exact zB (sL [0,2] O) (zn (u/256) (n+8) (⟨Z,Z,by rw [hv,bt hc1];omega⟩) (sF O) sr)
   ·replace hc1:=xQ hc1
    exact zG (zn u n (⟨Z,Z,hv⟩) (sF O) sr)
  ·intro u2 n2 hJ
   obtain ⟨hu2,hn2,hv2⟩:=hJ
   refine q2 (AK O (AK O (st' (Al (c:=((u2:Nat):Int)) O underlying27 underlying5 (Pm Z)) O ?_)))
   have hb8:bl u2<=8:=Vw (k:=8) hu2
   exact st' (v:=(vK .u8 (bl u2))) (Fk (j:=u2) (m:=bl u2) O O underlying9 (df jV hu2) Z) O (st' (Al (c:=((bl u2:Nat):Int)) O underlying5 underlying3 (B6 Z)) O (st' (AX (c:=((bl x:Nat):Int)) O O (by rw [hv2,Int.add_comm,<-Int.natCast_add];exact B6 Z)) O (asg' O (oNl' (zB (sL [0,2] O) (zA (zF (ret_one O (rd_tmp (v:=(vN (bl x))) O) (λw hw=>⟨rfl,hw.out⟩)))))))))
theorem Zk (x:Nat) (hx:x<4294967296) (w:World)  :Calls prog 197 #[(vK .u32 x)] w (Ac w (vN (32-bl x))):=by
 have hb:=Vw (k:=32) hx
 refine AV (args:=[(vK .u32 x)]) func197 O O (leB O) (zI (sL [0] O) (q4 (asg' O (oNl' (q2 (AK O (ck' call133 (Wj _ Z) O (st' (BY (c:=((32-(bl x):Nat):Int)) O O (CY (a:=32) (b:=bl x) Z Z)) O (asg' O (oNl' (zB (sL [2] O) ?_)))))))))))
 exact zA (zF (ret_one O (rd_tmp (v:=(vN (32-(bl x)))) O) (λw hw=>⟨rfl,hw.out⟩)))
theorem ah (z:Int) (hz:-9223372036854775808<=z) (hz2:z<9223372036854775808) (w:World)  :Calls prog 210 #[(vI z)] w (Ac w (vI z.sign)):=by
 refine AV (args:=[(vI z)]) func210 O O (leB O) (zI (sL [0] O) (q4 (asg' O (oNl' (q2 (AK O (st' (WN (c:=(if z<1 then z else 1)) O O O) O (st' (OU (c:=z.sign) O O (Xo z)) O (asg' O (oNl' (zB (sL [2] O) ?_)))))))))))
 exact zA (zF (ret_one O (rd_tmp (v:=(vI z.sign)) O) (λw hw=>⟨rfl,hw.out⟩)))
end
section
section
variable {P:Program} {n:Nat} {F:List (Nat×Value)} {w0:Ay} {L:List As} {x y:Operand} {d:Option Tmp} {t:TypeId} {p:String} {af:Array Edge} {g:Option (Nat×Bool)}
def IJ (P:Program) (D:Nat) (T:TypeId) (u v:Value) (b:Bool):Prop:=∀w,(Op.equalIn D T u v).run P w=.ok b w
def LH (P:Program) (D:Nat) (xs ys:List Value) (fs:List Field) (b:Bool):Prop:=∀w,(Op.eqFields D xs.toArray ys.toArray fs).run P w=.ok b w
theorem IJ.int {D:Nat} {T:TypeId} {k k':IntKind} {a b:Int} (h:P.underlying T=some (.int k')):IJ P (D+1) T (.int k a) (.int k b) (a == b):=λw=>run_equalIn_int w D T k k' a b h
theorem IJ.bool {D:Nat} {T:TypeId} {a b:Bool} (h:P.underlying T=some .bool):IJ P (D+1) T (.bool a) (.bool b) (a == b):=λw=>run_equalIn_bool' w D T a b h
theorem IJ.str {D:Nat} {T:TypeId} {a b:ByteArray} (h:P.underlying T=some .string):IJ P (D+1) T (.string a) (.string b) (a.toList == b.toList):=λw=>run_equalIn_string w D T a b h
theorem IJ.struct {D:Nat} {T:TypeId} {xs ys:List Value} {b:Bool} {fs:Array Field} (hu:P.underlying T=some (.struct fs)) (hp:P.stoodInHeld T=false) (h:LH P D xs ys fs.toList b):IJ P (D+1) T (.agg xs.toArray) (.agg ys.toArray) b:=λw=>by
  have e:P.fieldsOf T=fs:=by simp [Program.fieldsOf,hu]
  rw [run_equalIn_struct w D T _ _ (by rw [e];exact hu) hp,e];exact h w
theorem LH.nil {D:Nat} {xs ys:List Value}:LH P D xs ys [] true:=λw=>rfl
theorem LH.one {D : Nat} {xs ys : List Value} {f : Field} {fs : List Field} {a b : Value} {r s : Bool} (hn : f.name ≠ "_") (hg : ∀ w, (isAgg f.type).run P w = .ok false w) (ha : xs[f.offset]? = some a) (hb : ys[f.offset]? = some b)
    (h:IJ P D f.type a b r) (h2:LH P D xs ys fs s):LH P D xs ys (f::fs) (r&&s):=λw=>by
  have e1:(part f.type xs.toArray f.offset).run P w=.ok a w:=by simp [part,hg,ha]
  have e2:(part f.type ys.toArray f.offset).run P w=.ok b w:=by simp [part,hg,hb]
  simp only [Op.eqFields,Sem.run_ite,if_pos hn,Sem.run_bind,e1,e2,Result.andThen_ok,h w]
  cases r
  · simp
  · simp [h2 w]
theorem LH.agg {D k : Nat} {xs ys us bs : List Value} {f : Field} {fs : List Field} {r s : Bool} (hn : f.name ≠ "_") (hg : ∀ w, (isAgg f.type).run P w = .ok true w) (hs : ∀ w, (sizeOf f.type).run P w = .ok k w)
    (ha:(xs.drop f.offset).take k=us) (hb:(ys.drop f.offset).take k=bs)
    (h:IJ P D f.type (.agg us.toArray) (.agg bs.toArray) r) (h2:LH P D xs ys fs s):LH P D xs ys (f::fs) (r&&s):=λw=>by
  have ex:∀l:List Value,l.toArray.extract f.offset (f.offset+k)=((l.drop f.offset).take k).toArray:=λl=>by simp [List.extract_eq_take_drop]
  have e1:(part f.type xs.toArray f.offset).run P w=.ok (.agg us.toArray) w:=by simp [part,hg,hs,ex,ha]
  have e2:(part f.type ys.toArray f.offset).run P w=.ok (.agg bs.toArray) w:=by simp [part,hg,hs,ex,hb]
  simp only [Op.eqFields,Sem.run_ite,if_pos hn,Sem.run_bind,e1,e2,Result.andThen_ok,h w]
  cases r
  · simp
  · simp [h2 w]
theorem CB {xs ys:List Value} {c:Bool} {tx ty:TypeId} (hx:evF F x=some (.agg xs.toArray)) (hy:evF F y=some (.agg ys.toArray)) (hg:P.eqGuardType P.depth tx=false) (hc:IJ P 10000 tx (.agg xs.toArray) (.agg ys.toArray) c) :
    Ex P n F w0 L ⟨d,.binOp .eql tx x y ty,t,p,af,g⟩ (.bool c):=λA w ha _=>by
  simp only [execOp,ha.ev hx,ha.ev hy,Sem.run_bind,run_eqGuard_agg w .eql tx x y _ _ hg,Result.andThen_ok,run_eql_struct,hc w,Sem.run_pure]
end
theorem Vv {a b:Nat} (ha:¬a<18446744073709551616) (hb:¬b<18446744073709551616) (h:Bw a=Bw b):a=b:=by
  rw [Fz ha,Fz hb] at h
  have h1:bytesN (AL a)=bytesN (AL b):=by
    have lt:∀(xs:List Nat),∀x∈bytesN xs,x<256:=λxs x hx=>by
      simp only [bytesN,List.mem_flatMap,xL,List.not_mem_nil,or_false] at hx
      obtain ⟨y,_,hy⟩:=hx
      omega
    have inj:∀(l r:List Nat),(∀x∈l,x<256)->(∀x∈r,x<256)->l.map UInt8.ofNat=r.map UInt8.ofNat->l=r:=by
      intro l
      induction l with
      | nil=>intro r _ _ h;cases r<;>simp_all
      | cons x l ih =>
        intro r hl hr h
        cases r with
        | nil=>simp at h
        | cons y r =>
          simp only [List.map_cons,List.cons.injEq] at h
          have e:x=y:=by
            have h3:=congrArg UInt8.toNat h.1
            have h4:=hl x jX
            have h5:=hr y jX
            simp at h3
            omega
          rw [e,ih r (λz hz=>hl z (by simp [hz])) (λz hz=>hr z (by simp [hz])) h.2]
    refine inj _ _ (lt _) (lt _) ?_
    have:=congrArg (λs:ByteArray=>s.data.toList) h
    simpa [EA] using this
  have h2:AL a=AL b:=by
    have hl:(AL a).length=(AL b).length:=by
      have:=congrArg List.length h1
      simp only [CP] at this
      omega
    apply List.ext_getElem hl
    intro i hi hi'
    have g:∀k,k<4->(AL a).getD i 0/256^k%256=(AL b).getD i 0/256^k%256:=λk hk=>by rw [<-Gy _ _ _ hi hk,<-Gy _ _ _ hi' hk,h1]
    have wa:=(B7 a).getD i
    have wb:=(B7 b).getD i
    have ea:(AL a).getD i 0=(AL a)[i]:=by simp [hi]
    have eb:(AL b).getD i 0=(AL b)[i]:=by simp [hi']
    rw [ea,eb] at g
    rw [ea] at wa
    rw [eb] at wb
    have g0:=g 0 Z
    have g1:=g 1 Z
    have g2:=g 2 Z
    have g3:=g 3 Z
    simp only [Nat.pow_zero,Nat.div_one,Nat.pow_one,show (256:Nat)^2=65536 from rfl,show (256:Nat)^3=16777216 from rfl] at g0 g1 g2 g3
    omega
  rw [<-C6 a,<-C6 b,h2]
theorem ZJ (a b:Nat):((((CM a:Nat):Int) == ((CM b:Nat):Int))&&(((Bw a).toList == (Bw b).toList)&&true))=decide (a=b):=by
  by_cases e:a=b
  · subst e;simp
  · rw [xD e]
    by_cases ha:a<18446744073709551616
    · by_cases hb:b<18446744073709551616
      · rw [Bp ha,Bp hb]
        have:((a:Int) == (b:Int))=false:=by simp;omega
        rw [this];rfl
      · have h1:=Rm hb
        rw [IZ ha,<-beq_toListBytes]
        have:(ByteArray.empty == Bw b)=false:=by
          rw [beq_toListBytes,ByteArray.toList_eq,ByteArray.toList_eq,Fz hb]
          cases hl:(EA (bytesN (AL b))).data.toList with
          | nil =>
            have h3:=congrArg List.length hl
            simp [EA,CP] at h3
            unfold nw at h1
            omega
          | cons=>rfl
        rw [this];simp
    · by_cases hb:b<18446744073709551616
      · have h1:=Rm ha
        rw [IZ hb,<-beq_toListBytes]
        have:(Bw a == ByteArray.empty)=false:=by
          rw [beq_toListBytes,ByteArray.toList_eq,ByteArray.toList_eq,Fz ha]
          cases hl:(EA (bytesN (AL a))).data.toList with
          | nil =>
            have h3:=congrArg List.length hl
            simp [EA,CP] at h3
            unfold nw at h1
            omega
          | cons=>rfl
        rw [this];simp
      · rw [<-beq_toListBytes]
        have:(Bw a == Bw b)=false:=by
          cases hbb:Bw a == Bw b with
          | false=>rfl
          | true =>
            rw [beq_toListBytes] at hbb
            have h2:(Bw a).toList=(Bw b).toList:=by simpa using hbb
            rw [ByteArray.toList_eq,ByteArray.toList_eq] at h2
            have h3:Bw a=Bw b:=by
              cases hA:Bw a with|mk da=>cases hB:Bw b with|mk db =>
                rw [hA,hB] at h2
                congr 1
                exact Array.toList_inj.1 h2
            exact absurd (Vv ha hb h3) e
        rw [this];simp
theorem H9 (D a b:Nat):IJ prog (D+2) 54 (.agg (AW a).toArray) (.agg (AW b).toArray) (decide (a=b)):=by
  rw [<-ZJ]
  exact IJ.struct underlying54 Tryz.stoodInHeld54 (LH.one jY isAgg52 O O (IJ.int underlying52) (LH.one jY isAgg9 O O (IJ.str underlying9) LH.nil))
end
section
set_option maxRecDepth 100000
theorem K4 (n:Nat) (hn:n<18446744073709551616) (w:World)  :Calls prog 76 #[(vK .u64 n)] w (Ac w (aG (AW n))):=by
 refine AV (args:=[(vK .u64 n)]) func76 O O (leB O) (zI (sL [0] O) (q4 (al HM O λb1=>oNl' (q2 (AK O (st' (v:=(aG ([(vK .u64 n),(Value.string (Bw 0))]))) (AS (zs:=AW 0) (vs:=[(vK .u64 n),(Value.string (Bw 0))]) (pv:=[(0,(vK .u64 n))]) (places:=[(0,1),(1,1)]) zeroValue54 underlying54 (λw=>by simp [sizeOf9,sizeOf52]) O O) O (zN (k:=4) (u:=(aG (AW n))) O (by rw [Ed hn];rfl) (An O sizeOf54 O (oNl' (zB (sL [2] O) ?_))))))))))
 exact zA (zF (ret_one O (Ab (i:=0) (cs:=AW n) O O isAgg54 sizeOf54 O) (λw hw=>⟨rfl,hw.out⟩)))
theorem NF  :Instr.fill ([(0,1),(1,1)].toArray[·]?) (AW 0).toArray []=some (AW 0).toArray:=by kernel_rfl
theorem Tf (a:Nat) (w:World)  :Calls prog 166 #[(aG (AW a))] w (Ac w (qa (decide (a=0)))):=by
 refine AV (args:=[(aG (AW a))]) func166 O O (leB O) (zI (sL [0] O) (q4 (BH (cs:=AW a) O λb1=>asg' O (q3 (sL [1,2] O) (Af 0 CH O (st' (v:=(aG (AW 0))) (AS (zs:=AW 0) (vs:=AW 0) (pv:=[]) (places:=[(0,1),(1,1)]) zeroValue54 underlying54 (λw=>by simp [sizeOf9,sizeOf52]) O (NF )) O (st' (CB (c:=(decide (a=0))) O O eqGuardType54 (H9 9998 a 0)) O (asg' O (oNl' (zB (sL [2] O) ?_))))))))))
 exact zA (zF (ret_one O (rd_tmp (v:=(qa (decide (a=0)))) O) (λw hw=>⟨rfl,hw.out⟩)))
theorem Do (v:Nat) (hv:nw v<=1099511627776) (w:World)  :Calls prog 85 #[(aG (AW v))] w (λe w'=>∃b,e=.returned (.slice (jk b) (nw v) (Ax v).length)/\GB w.heap.size w w'/\w.heap.size<=b/\w'.heap[b]?=some (.cells (Ap (Ax v)).toArray 27 (0,0))):=by
 refine AV (args:=[(aG (AW v))]) func85 O O (leB O) (zI (sL [0] O) (q4 (BH (cs:=AW v) O λb1=>asg' O (q6 (sL [1,2] O) (q4 (st' (v:=(pP b1 1)) (AA O underlying54 O sizeOf9 O) O (BL 0 (Value.string (Bw v)) VD O (st' (Bh (c:=(decide (v<18446744073709551616))) O O Cv) O (oNl' (zB (sL [1,2,8] O) ?_))))))))))
 refine zA ?_
 refine zK O (λhc0=>?_) (λhc0=>?_)
 ·replace hc0:=xR hc0
  refine q4 (st' (v:=(pP b1 0)) (AA O underlying54 O sizeOf52 O) O (BL 0 (vK .u64 (CM v)) Hb O (zN (k:=10) (u:=(vK .u64 v)) O (by rw [Bp hc0]) (st' (Al (c:=((v%4294967296:Nat):Int)) O underlying52 underlying27 FT) O (st' (v:=(pP b1 0)) (AA O underlying54 O sizeOf52 O) O (BL 0 (vK .u64 (CM v)) Hb O (zN (k:=13) (u:=(vK .u64 v)) O (by rw [Bp hc0]) (st' (DZ (s:=32) (c:=((v/4294967296:Nat):Int)) O O O jY (HL (a:=v) (s:=32))) O (st' (Al (c:=((v/4294967296:Nat):Int)) O underlying52 underlying27 (Co Z)) O (zZ (V:=λb2=>(qz (jk b2) 2 2)) (T:=27) (cs:=Ap ([v%4294967296,v/4294967296])) (AG O) (Ai (cs:=Ap ([v%4294967296,v/4294967296])) (pv:=[(0,(vK .u32 (v%4294967296))),(1,(vK .u32 (v/4294967296)))]) underlying169 sizeOf27 zeroValue27 jY jY O jV) O (leB O) λb2=>CQ call87 (λw hw=>RJ _ 2 2 ([v%4294967296,v/4294967296]) (W32.cons Z (W32.cons Z (W32.nil))) jX jX (by simp;try omega) w (hw.get (i:=0) O)) O ?_))))))))))
  refine asg' O (oNl' (zB (sL [1,2] O) (zA (zF (zL ?_)))))
  have hpad:Ax v=[v%4294967296,v/4294967296]:=by simp [Ax,hc0]
  have hnw:nw v=Ej [v%4294967296,v/4294967296] 2:=by rw [<-Rn (Z4 hc0) (m:=2) jX,<-Tb v,hpad];simp [val];congr 1;omega
  have hret:∀b:Nat,(Ending.returned (qz (jk b) (Ej ([v%4294967296,v/4294967296]) 2) 2))=.returned (qz (jk b) (nw v) (Ax v).length):=λb=>by rw [hnw,hpad];rfl
  replace hret:=hret b2
  have hcells:(some (Obj.cells (Ap ([v%4294967296,v/4294967296])).toArray 27 (0,0)))=some (Obj.cells (Ap (Ax v)).toArray 27 (0,0)):=by rw [hpad]
  exact ret_one O (rd_tmp (v:=(qz (jk b2) (Ej ([v%4294967296,v/4294967296]) 2) 2)) O) (λw hw=>⟨b2,hret,hw.out,hw.fresh (i:=0) O,(hw.get (i:=0) O).trans hcells⟩)
 ·replace hc0:=xQ hc0
  refine zG (q2 (st' (v:=(pP b1 1)) (AA O underlying54 O sizeOf9 O) O (BL 0 (Value.string (Bw v)) VD O (st' (v:=(vN ((Bw v).size))) (DG O underlying9) O (zN (k:=20) (u:=(vN (4*nw v))) O (by rw [Fz hc0,Mg,CP];rfl) (st' (Ec (c:=(((4*nw v)/4:Nat):Int)) O O Z (FW (a:=4*nw v) (b:=4) Z)) O (zN (k:=21) (u:=(vN (nw v))) O (by rw [Nat.mul_div_cancel_left _ Z]) (zZ (V:=λb2=>(qz (jk b2) (nw v) (nw v))) (T:=27) (cs:=Ap (List.replicate (nw v) 0)) (AG O) (D7 (m:=nw v) (c:=nw v) O O Z Z) O (leB O) λb2=>asg' O (q6 (sL [1,2,3] O) (q4 ?_))))))))))
  refine AK O (st' (v:=(vN (nw v))) (AD O underlying169) O (AK O (oNl' (zB (sL [1,2,3,24,25] O) (zA (zM ?_))))))
  refine yC (tg λ(i:Nat) (os:List Nat)=>i<=nw v/\os.length=nw v/\os.take i=(AL v).take i/\∀j,i<=j->os.getD j 0=0) (tg λ(i:Nat) (os:List Nat)=>[(1,(pP b1 0)),(2,jj),(3,(qz (jk b2) (nw v) (nw v))),(24,(vN (nw v))),(25,(vN i))]) (tg λ(i:Nat) (os:List Nat)=>[AO b2 27 (Ap os),AO b1 54 (AW v)]) (tg λ(i:Nat) (os:List Nat)=>nw v-i) 0 (List.replicate (nw v) 0) (⟨xH _,by simp,by simp,λj _=>by simp [List.getD_eq_getElem?_getD,List.getElem?_replicate];split<;>rfl⟩) (sF O) sr (λi os hJ=>?_)
  obtain ⟨hin,hl,ht,h0⟩:=hJ
  refine q4 (st' (Aa (c:=(decide (i<(nw v)))) O O (DE (a:=i) (b:=nw v))) O (oNl' (q1 ?_)))
  refine zK O (λhc1=>?_) (λhc1=>?_)
  ·replace hc1:=xR hc1
   refine zG (q1 (zM (q4 (AK O (asg' O (q3 (sL [1,2,3,24,25,4] O) (AK O (oNl' (zA (zM ?_))))))))))
   refine yC (tg λ(k:Nat) (xs:List Nat)=>k<=4/\xs=os.set i ((AL v).getD i 0%256^k)) (tg λ(k:Nat) (xs:List Nat)=>[(1,(pP b1 0)),(2,jj),(3,(qz (jk b2) (nw v) (nw v))),(24,(vN (nw v))),(25,(vN i)),(4,(vN i)),(28,(vN k))]) (tg λ(k:Nat) (xs:List Nat)=>[AO b2 27 (Ap xs),AO b1 54 (AW v)]) (tg λ(k:Nat) (xs:List Nat)=>4-k) 0 os (⟨Z,by rw [Nat.pow_zero,Nat.mod_one];exact Xi (h0 i (Nat.le_refl _))⟩) (sF O) sr (λk xs hJ=>?_)
   obtain ⟨hk,hxs⟩:=hJ
   refine q4 (st' (Aa (c:=(decide (k<4))) O O (DE (a:=k) (b:=4))) O (oNl' (q1 ?_)))
   refine zK O (λhc2=>?_) (λhc2=>?_)
   ·replace hc2:=xR hc2
    refine zG (q1 (zM (q4 (AK O (asg' O (oNl' (zB (sL [1,2,3,24,25,4,28,5] O) (zA (B9 [(0,true),(1,true),(2,true),(4,true),(5,true),(6,true),(7,true),(8,true),(9,true),(10,true),(11,true),(12,true),(13,true),(14,true),(3,false),(15,true),(16,true),(17,false)] (sl sr) ?_)))))))))
    have hi:i<nw v:=hc1
    have hxi:xs.getD i 0=(AL v).getD i 0%256^k:=by rw [hxs];simp [hl,hi]
    have hxl:xs.length=nw v:=by rw [hxs];simp [hl]
    have hby:(AL v).getD i 0/256^k%256<256:=Nat.mod_lt _ Z
    have hget:(Bw v)[4*i+k]?=some (UInt8.ofNat ((AL v).getD i 0/256^k%256)):=by rw [Fz hc0,U_ (by rw [CP];show 4*i+k<4*nw v;omega),Gy _ _ _ hi hc2]
    have hw32:xs.getD i 0<4294967296:=by rw [hxi];exact Nat.lt_of_le_of_lt (Nat.mod_le _ _) ((B7 v).getD i)
    refine Bi O (Bi O (Am (v:=(pP b2 i)) O (AH (j:=i) O O underlying169 sizeOf27 O Z jX) (Am (v:=(pP b1 1)) O (AA O underlying54 O sizeOf9 O) (CL 0 (Value.string (Bw v)) VD O (Bi O (Am O (B5 (c:=((4*i:Nat):Int)) O O (DT (a:=4) (b:=i) Z)) (Bi O (Am O (AX (c:=(((4*i)+k:Nat):Int)) O O (AU (a:=4*i) (b:=k) Z)) (Am (v:=(vK .u8 ((AL v).getD i 0/256^k%256))) O (Fk (j:=4*i+k) (m:=(AL v).getD i 0/256^k%256) O O underlying9 hget hby) (Am O (Al (c:=(((AL v).getD i 0/256^k%256:Nat):Int)) O underlying5 underlying27 (Co Z)) (Bi O ?_)))))))))))
    refine Am O (B5 (c:=((8*k:Nat):Int)) O O (DT (a:=8) (b:=k) Z)) (Am (v:=(vK .u32 ((AL v).getD i 0/256^k%256*2^(8*k)))) O (Hj (s:=8*k) O O O (show 8*k<=32 by omega) (Xm (Sf hc2))) (zD O (st' (AR (i:=0) (v:=(vK .u32 (xs.getD i 0))) O O isAgg27 (BM (xs:=xs) (j:=i) Z)) O (zC (sl sr) (Am O (KN (c:=(((AL v).getD i 0%256^(k+1):Nat):Int)) O O (K5 hw32 (Sf hc2) (Tp hxi))) (Am (v:=(pP b2 i)) O (AH (j:=i) O O underlying169 sizeOf27 O Z jX) (zD O (zu (i:=0) (off:=i) (vs:=[(vK .u32 ((AL v).getD i 0%256^(k+1)))]) (cs':=Ap (xs.set i ((AL v).getD i 0%256^(k+1)))) (L':=[AO b2 27 (Ap (xs.set i ((AL v).getD i 0%256^(k+1)))),AO b1 54 (AW v)]) (AG O) O O O O O sizeOf27 O (DL (Ba _) Z) (Ck Z) O (zC (sl sr) (zP (zB (sL [1,2,3,24,25,4,28] O) ?_)))))))))))
    exact zJ (zA (zH (st' (AX (c:=((k+1:Nat):Int)) O O (AU (a:=k) (b:=1) Z)) O (AK O (oNl' (zB (sL [1,2,3,24,25,4,28] O) (zi (k+1) (xs.set i ((AL v).getD i 0%256^(k+1))) (⟨Z,by rw [hxs,List.set_set]⟩) Z (sF O) sr)))))))
   ·replace hc2:=xQ hc2
    refine zW (zO (zh (zR (zJ (zA (zH (st' (AX (c:=((i+1:Nat):Int)) O O (AU (a:=i) (b:=1) Z)) O (AK O (oNl' (zB (sL [1,2,3,24,25,4,28] O) ?_))))))))))
    have hst:=SQ (ws:=AL v) (xs:=xs) hl rfl hc1 ht h0 (by rw [hxs,show k=4 by omega];congr 1;exact Nat.mod_eq_of_lt ((B7 v).getD i))
    exact zi (i+1) xs (⟨Z,hst.1,hst.2.1,hst.2.2⟩) Z (sF O) sr
  ·replace hc1:=xQ hc1
   refine zW (zO (zh (zR (q2 (AK O (asg' O (oNl' (zB (sL [1,2,3,24,25] O) (zA (zF ?_))))))))))
   have hpad:Ax v=AL v:=by simp [Ax,hc0]
   have hos:os=AL v:=Xf hl rfl hc1 ht
   have hret:∀b:Nat,(Ending.returned (qz (jk b) (nw v) (nw v)))=.returned (qz (jk b) (nw v) (Ax v).length):=λb=>by rw [hpad];rfl
   replace hret:=hret b2
   have hcells:(some (Obj.cells (Ap os).toArray 27 (0,0)))=some (Obj.cells (Ap (Ax v)).toArray 27 (0,0)):=by rw [hpad,hos]
   exact ret_one O (rd_tmp (v:=(qz (jk b2) (nw v) (nw v))) O) (λw hw=>⟨b2,hret,hw.out,hw.fresh (i:=0) O,(hw.get (i:=0) O).trans hcells⟩)
end
end Go.Proofs.YtcpkbjjmcleplaaGreatDoor
