import Derived.Laws.StructEq
import Derived.Test.YtcpkbjjmcleplaaGreatDoorPart08
namespace Go.Proofs.YtcpkbjjmcleplaaGreatDoor
open Go Go.RowKit Go.Proofs.Tryz
open Go.Value renaming slice→qz,bool→qa
set_option linter.unusedVariables false
set_option linter.unusedSimpArgs false
section
set_option maxRecDepth 100000
theorem QH (b m c:Nat) (bs:List Nat) (hbs:W32 bs) (hm:m<=bs.length) (hc:m<=c) (hL:c<4611686018427387904) (w:World) (hb:w.heap[b]?=some (.cells (Ak bs).toArray 27 (0,0))):Calls prog 87 #[(qz (jk b) m c)] w (AY w (qz (jk b) (ED bs m) c)):=by
 refine AS (args:=[(qz (jk b) m c)]) func87 O O (leB O) (zG (sL [0] O) (q4 (asg' O (oNl' (q1 (zN ?_))))))
 refine yO (tg λ(k:Nat)=>k<=m/\ED bs k=ED bs m) (tg λ(k:Nat)=>[(2,jj),(0,(qz (jk b) k c))]) (tg λ(k:Nat)=>[]) (tg λ(k:Nat)=>k) m (⟨Nat.le_refl _,rfl⟩) (sF O) sr (λk hJ=>?_)
 obtain ⟨hk,hv⟩:=hJ
 refine zV (q4 (AL O (st' (v:=(vN k)) (AD O underlying169) O (st' (Bu (c:=(decide (0<k))) O O (DL (a:=0) (b:=k))) O (AL O ?_)))))
 refine zg (FM:=[(2,jj),(0,(qz (jk b) k c)),(3,(qz (jk b) k c)),(4,(vN k)),(5,(qa (decide (0<k)))),(6,(qa (decide (0<k)))),(14,(qa ((decide (0<k))&&(decide ((bs.getD (k-1) 0)=0)))))]) (LM:=[]) 8 ?_ ?_
 ·rcases xO (decide (0<k)) with hg1|hg1
  ·refine zJ (k:=6) (u:=qa true) O (by rw [hg1]) ?_
   have hg1':=xR hg1
   refine FV O (FV O (BN (v:=(vN k)) O (AD O underlying169) (BN (v:=(vN (k-1))) O (BT (c:=((k-1:Nat):Int)) O O (CH (a:=k) (b:=1) Z Z)) (BN (v:=(pP b (k-1))) O (AG (j:=k-1) O O underlying169 sizeOf27 O Z jX) ?_))))
   have hx1:bs.getD (k-1) 0<4294967296:=W32.getD hbs (k-1)
   exact BN (v:=(vK .u32 (bs.getD (k-1) 0))) O (Ba (v:=(vK .u32 (bs.getD (k-1) 0))) O (λw' hw=>CA.at0 (hw.oldCA jX (E3 hb)) (BC (xs:=bs) (j:=(k-1)) Z)) isAgg27) (BN (v:=(qa (decide ((bs.getD (k-1) 0)=0)))) O (Az (c:=(decide ((bs.getD (k-1) 0)=0))) O O (OI (a:=bs.getD (k-1) 0) (b:=0))) (st' (v:=(qa (decide ((bs.getD (k-1) 0)=0)))) (ex_pick_true O O) O (oNl' (zS CK (xP _)))))
  ·refine zJ (k:=6) (u:=qa false) O (by rw [hg1]) ?_
   have hg1':=xQ hg1
   exact BF O (BF O (BF O (BF O (BF O (BF O (BF O (st' (v:=(qa false)) (AN O O) O (oNl' (zS CK (xP _))))))))))
 refine oNl' (zB (sL [2,0,14] O) (zA ?_))
 refine zK O (λhc0=>?_) (λhc0=>?_)
 ·simp only [jK] at hc0
  refine zI (zA (zN (zL (AL O (AL O (st' (v:=(vN k)) (AD O underlying169) O (st' (BT (c:=((k-1:Nat):Int)) O O (CH (a:=k) (b:=1) Z Z)) O (st' (v:=(qz (jk b) (k-1) c)) (Es (m:=k-1) O O underlying169 sizeOf27 Z) O (asg' O (oNl' (zB (sL [2,0] O) ?_)))))))))))
  exact zM (yC (k-1) (⟨Z,by rw [<-Mj hc0.1 hc0.2];exact hv⟩) Z (sF O) sr)
 ·simp only [jK] at hc0
  have hstop:ED bs k=k:=Mk Z
  exact zW (zO (zn (zR (q2 (AL O (asg' O (oNl' (zB (sL [2,0] O) (zA (zF (ret_one O (rd_tmp (v:=(qz (jk b) k c)) O) (λw hw=>⟨by rw [<-hv,hstop],hw.out⟩))))))))))))
theorem Ke (x y c:Nat) (hx:x<4294967296) (hy:y<4294967296) (hc:c<=1) (w:World)  :Calls prog 146 #[(vK .u32 x),(vK .u32 y),(vK .u32 c)] w (AY w (Value.tuple #[(vK .u32 ((x+y+c)%4294967296)),(vK .u32 ((x+y+c)/4294967296))])):=by
 refine AS (args:=[(vK .u32 x),(vK .u32 y),(vK .u32 c)]) func146 O O (leB O) (zG (sL [0,1,2] O) (q4 (asg' O (asg' O (oNl' (q2 (AL O (st' (An (c:=((x:Nat):Int)) O underlying27 underlying52 (BO Z)) O (AL O (st' (An (c:=((y:Nat):Int)) O underlying27 underlying52 (BO Z)) O (st' (Ad (c:=((x+y:Nat):Int)) O O (Dx (a:=x) (b:=y) Z)) O ?_)))))))))))
 refine AL O (st' (An (c:=((c:Nat):Int)) O underlying27 underlying52 (BO Z)) O (st' (Ad (c:=(((x+y)+c:Nat):Int)) O O (Dx (a:=x+y) (b:=c) Z)) O (asg' O (q3 (sL [6,7,8] O) (AL O (st' (An (c:=((((x+y)+c)%4294967296:Nat):Int)) O underlying52 underlying27 Et) O (asg' O (q3 (sL [6,7,8] O) (AL O (st' (DH (s:=32) (c:=((((x+y)+c)/4294967296:Nat):Int)) O O O jY (Gr (a:=(x+y)+c) (s:=32))) O (st' (An (c:=((((x+y)+c)/4294967296:Nat):Int)) O underlying52 underlying27 (C9 Z)) O ?_)))))))))))
 exact asg' O (oNl' (zB (sL [6,7,8] O) (zA (zF (Bf O (rd_tmp (v:=(vK .u32 (((x+y)+c)%4294967296))) O) (rd_tmp (v:=(vK .u32 (((x+y)+c)/4294967296))) O) (λw hw=>⟨rfl,hw.out⟩))))))
theorem Li (x y c d:Nat) (hx:x<4294967296) (hy:y<4294967296) (hc:c<=1) (hd:d=(x+(4294967296-y)+(4294967296-c))%4294967296) (w:World)  :Calls prog 169 #[(vK .u32 x),(vK .u32 y),(vK .u32 c)] w (AY w (Value.tuple #[(vK .u32 d),(vK .u32 (Jl x (y+c)))])):=by
 have hd2:d<4294967296:=by omega
 have hb:=Um hx hy hc hd
 have hx1:4294967295 ^^^ x<4294967296:=Nat.xor_lt_two_pow (n:=32) Z hx
 have hx2:x ^^^ y<4294967296:=Nat.xor_lt_two_pow (n:=32) hx hy
 have hx3:4294967295 ^^^ (x ^^^ y)<4294967296:=Nat.xor_lt_two_pow (n:=32) Z hx2
 have hx4:(4294967295 ^^^ x) &&& y<4294967296:=Nat.lt_of_le_of_lt Nat.and_le_right hy
 have hx5:(4294967295 ^^^ (x ^^^ y)) &&& d<4294967296:=Nat.lt_of_le_of_lt Nat.and_le_right hd2
 refine AS (args:=[(vK .u32 x),(vK .u32 y),(vK .u32 c)]) func169 O O (leB O) (zG (sL [0,1,2] O) (q4 (asg' O (asg' O (oNl' (q2 (AL O (AL O (st' (BT (c:=(((x+(4294967296-y))%4294967296:Nat):Int)) O O (PS Z)) O (AL O (st' (BT (c:=((d:Nat):Int)) O O (by rw [PS Z,hd];exact congrArg Int.ofNat Z)) O ?_)))))))))))
 refine asg' O (q3 (sL [0,1,6,7] O) (AL O (st' (U9 (c:=((4294967295 ^^^ x:Nat):Int)) O (Oc hx)) O (AL O (st' (Kt (c:=(((4294967295 ^^^ x) &&& y:Nat):Int)) O O (OR hx1 hy)) O (AL O (AL O (st' (aE (c:=((x ^^^ y:Nat):Int)) O O (Pk hx hy)) O (st' (U9 (c:=((4294967295 ^^^ (x ^^^ y):Nat):Int)) O (Oc hx2)) O (AL O (st' (Kt (c:=(((4294967295 ^^^ (x ^^^ y)) &&& d:Nat):Int)) O O (OR hx3 hd2)) O ?_)))))))))))
 exact st' (Jq (c:=(((4294967295 ^^^ x) &&& y ||| (4294967295 ^^^ (x ^^^ y)) &&& d:Nat):Int)) O O (KQ hx4 hx5 O)) O (st' (DH (s:=31) (c:=((((4294967295 ^^^ x) &&& y ||| (4294967295 ^^^ (x ^^^ y)) &&& d)/2147483648:Nat):Int)) O O O jY (Gr (a:=(4294967295 ^^^ x) &&& y ||| (4294967295 ^^^ (x ^^^ y)) &&& d) (s:=31))) O (asg' O (oNl' (zB (sL [0,1,6,7] O) (zA (zF (Bf O (rd_tmp (v:=(vK .u32 d)) O) (rd_tmp (v:=(vK .u32 (((4294967295 ^^^ x) &&& y ||| (4294967295 ^^^ (x ^^^ y)) &&& d)/2147483648))) O) (λw hw=>⟨by rw [<-hb],hw.out⟩))))))))
theorem O5 (x y:Nat) (hx:x<18446744073709551616) (hy:y<18446744073709551616) (w:World)  :Calls prog 123 #[(vK .u64 x),(vK .u64 y)] w (AY w (Value.tuple #[(vK .u64 (x*y/18446744073709551616)),(vK .u64 (x*y%18446744073709551616))])):=by
 have h1:=LC (a:=x%4294967296) (b:=y%4294967296) Z Z
 have h2:=LC (a:=x/4294967296) (b:=y%4294967296) Z Z
 have h3:=LC (a:=x%4294967296) (b:=y/4294967296) Z Z
 have h4:=LC (a:=x/4294967296) (b:=y/4294967296) Z Z
 have hh:=Vb x y
 have hh2:x*y/18446744073709551616<18446744073709551616:=Nat.div_lt_of_lt_mul (Nat.mul_lt_mul'' hx hy)
 refine AS (args:=[(vK .u64 x),(vK .u64 y)]) func123 O O (leB O) (zG (sL [0,1] O) (q4 (asg' O (asg' O (oNl' (q2 (AL O (st' (Kt (c:=((x%4294967296:Nat):Int)) O O (JM (a:=x) Z)) O (asg' O (q3 (sL [0,1,4,5,6] O) (AL O ?_)))))))))))
 refine st' (DH (s:=32) (c:=((x/4294967296:Nat):Int)) O O O jY (Gr (a:=x) (s:=32))) O (asg' O (q3 (sL [0,1,4,5,6,7] O) (AL O (st' (Kt (c:=((y%4294967296:Nat):Int)) O O (JM (a:=y) Z)) O (asg' O (q3 (sL [0,1,4,5,6,7,8] O) (AL O (st' (DH (s:=32) (c:=((y/4294967296:Nat):Int)) O O O jY (Gr (a:=y) (s:=32))) O (asg' O (q3 (sL [0,1,4,5,6,7,8,9] O) (AL O ?_)))))))))))
 refine AL O (st' (EO (c:=(((x%4294967296)*(y%4294967296):Nat):Int)) O O (FW (a:=x%4294967296) (b:=y%4294967296) Z)) O (asg' O (q3 (sL [0,1,4,5,6,7,8,9,10] O) (AL O (AL O (st' (EO (c:=(((x/4294967296)*(y%4294967296):Nat):Int)) O O (FW (a:=x/4294967296) (b:=y%4294967296) Z)) O (AL O (st' (DH (s:=32) (c:=((((x%4294967296)*(y%4294967296))/4294967296:Nat):Int)) O O O jY (Gr (a:=(x%4294967296)*(y%4294967296)) (s:=32))) O (st' (Ad (c:=((((x/4294967296)*(y%4294967296))+(((x%4294967296)*(y%4294967296))/4294967296):Nat):Int)) O O (Dx (a:=(x/4294967296)*(y%4294967296)) (b:=((x%4294967296)*(y%4294967296))/4294967296) Z)) O (asg' O (q3 (sL [0,1,4,5,6,7,8,9,11] O) ?_)))))))))))
 refine AL O (st' (Kt (c:=(((((x/4294967296)*(y%4294967296))+(((x%4294967296)*(y%4294967296))/4294967296))%4294967296:Nat):Int)) O O (JM (a:=((x/4294967296)*(y%4294967296))+(((x%4294967296)*(y%4294967296))/4294967296)) Z)) O (asg' O (q3 (sL [0,1,4,5,6,7,8,9,11,12] O) (AL O (st' (DH (s:=32) (c:=(((((x/4294967296)*(y%4294967296))+(((x%4294967296)*(y%4294967296))/4294967296))/4294967296:Nat):Int)) O O O jY (Gr (a:=((x/4294967296)*(y%4294967296))+(((x%4294967296)*(y%4294967296))/4294967296)) (s:=32))) O (asg' O (q3 (sL [0,1,4,5,6,7,8,9,11,12,13] O) (AL O (AL O (AL O (st' (EO (c:=(((x%4294967296)*(y/4294967296):Nat):Int)) O O (FW (a:=x%4294967296) (b:=y/4294967296) Z)) O ?_)))))))))))
 refine st' (Ad (c:=((((((x/4294967296)*(y%4294967296))+(((x%4294967296)*(y%4294967296))/4294967296))%4294967296)+((x%4294967296)*(y/4294967296)):Nat):Int)) O O (Dx (a:=(((x/4294967296)*(y%4294967296))+(((x%4294967296)*(y%4294967296))/4294967296))%4294967296) (b:=(x%4294967296)*(y/4294967296)) Z)) O (asg' O (q3 (sL [0,1,4,5,6,7,8,9,11,12,13] O) (AL O (AL O (st' (EO (c:=(((x/4294967296)*(y/4294967296):Nat):Int)) O O (FW (a:=x/4294967296) (b:=y/4294967296) Z)) O (AL O (st' (Ad (c:=((((x/4294967296)*(y/4294967296))+((((x/4294967296)*(y%4294967296))+(((x%4294967296)*(y%4294967296))/4294967296))/4294967296):Nat):Int)) O O (Dx (a:=(x/4294967296)*(y/4294967296)) (b:=(((x/4294967296)*(y%4294967296))+(((x%4294967296)*(y%4294967296))/4294967296))/4294967296) Z)) O (AL O (st' (DH (s:=32) (c:=(((((((x/4294967296)*(y%4294967296))+(((x%4294967296)*(y%4294967296))/4294967296))%4294967296)+((x%4294967296)*(y/4294967296)))/4294967296:Nat):Int)) O O O jY (Gr (a:=((((x/4294967296)*(y%4294967296))+(((x%4294967296)*(y%4294967296))/4294967296))%4294967296)+((x%4294967296)*(y/4294967296))) (s:=32))) O (st' (Ad (c:=((x*y/18446744073709551616:Nat):Int)) O O (by rw [<-Int.natCast_add,hh];exact BO hh2)) O (asg' O ?_)))))))))))
 exact q3 (sL [0,1,4,5,6,7,8,9,11,12] O) (AL O (AL O (st' (EO (c:=((x*y%18446744073709551616:Nat):Int)) O O Vd) O (asg' O (oNl' (zB (sL [0,1,4,5,6,7,8,9,11,12] O) (zA (zF (Bf O (rd_tmp (v:=(vK .u64 (x*y/18446744073709551616))) O) (rd_tmp (v:=(vK .u64 (x*y%18446744073709551616))) O) (λw hw=>⟨rfl,hw.out⟩))))))))))
theorem U1 (hi lo y:Nat) (hh:hi<y) (hl:lo<4294967296) (hy:y<4294967296) (w:World)  :Calls prog 137 #[(vK .u32 hi),(vK .u32 lo),(vK .u32 y)] w (AY w (Value.tuple #[(vK .u32 ((hi*4294967296+lo)/y)),(vK .u32 ((hi*4294967296+lo)%y))])):=by
 refine AS (args:=[(vK .u32 hi),(vK .u32 lo),(vK .u32 y)]) func137 O O (leB O) (zG (sL [0,1,2] O) (q4 (asg' O (asg' O (oNl' (q1 (q4 (AL O (st' (C1 (c:=(decide (y≠0))) O O (cX (a:=y) (b:=0))) O (AL O ?_))))))))))
 refine zg (FM:=[(0,(vK .u32 hi)),(1,(vK .u32 lo)),(2,(vK .u32 y)),(6,(Value.int .u32 (0:Int))),(7,(Value.int .u32 (0:Int))),(9,(vK .u32 y)),(10,(qa (decide (y≠0)))),(11,(qa (decide (y≠0)))),(15,(qa ((decide (y≠0))&&(decide (y<=hi)))))]) (LM:=[]) 4 ?_ ?_
 ·rcases xO (decide (y≠0)) with hg1|hg1
  ·refine zJ (k:=11) (u:=qa true) O (by rw [hg1]) ?_
   have hg1':=xR hg1
   exact FV O (FV O (BN (v:=(qa (decide (y<=hi)))) O (D6 (c:=(decide (y<=hi))) O O (Rp (a:=y) (b:=hi))) (st' (v:=(qa (decide (y<=hi)))) (ex_pick_true O O) O (oNl' (zS CK (xP _))))))
  ·refine zJ (k:=11) (u:=qa false) O (by rw [hg1]) ?_
   have hg1':=xQ hg1
   exact BF O (BF O (BF O (st' (v:=(qa false)) (AN O O) O (oNl' (zS CK (xP _))))))
 refine oNl' (zB (sL [0,1,2,6,7,15] O) (zA ?_))
 refine zK O (λhc0=>?_) (λhc0=>?_)
 ·simp only [jK] at hc0
  exfalso;omega
 ·simp only [jK] at hc0
  refine zI (q2 (AL O (st' (An (c:=((hi:Nat):Int)) O underlying27 underlying52 (BO Z)) O (st' (v:=(vK .u64 (hi*4294967296))) (HH (s:=32) O O O jY (HX (s:=32) Z)) O (AL O (st' (An (c:=((lo:Nat):Int)) O underlying27 underlying52 (BO Z)) O (st' (Jq (c:=((hi*4294967296+lo:Nat):Int)) O O (KR Z Z (by rw [Nat.or_comm,Nat.add_comm];exact IC (s:=32) Z))) O ?_)))))))
  have hq:(hi*4294967296+lo)/y<4294967296:=Nat.div_lt_of_lt_mul (by have h9:(hi+1)*4294967296<=y*4294967296:=Nat.mul_le_mul_right _ hh;omega)
  have hr:(hi*4294967296+lo)%y<y:=Nat.mod_lt _ Z
  refine asg' O (q6 (sL [0,2,6,7,8] O) (B8 (Ed 12) sr (Bq O (Bq O (Ao O (An (c:=((y:Nat):Int)) O underlying27 underlying52 (BO Z)) (Ao O (FR (c:=(((hi*4294967296+lo)/y:Nat):Int)) O O Z (Iu (a:=hi*4294967296+lo) (b:=y) Z)) (Ao O (An (c:=(((hi*4294967296+lo)/y:Nat):Int)) O underlying52 underlying27 (C9 Z)) (Bq O (Bq O (Ao O (An (c:=((y:Nat):Int)) O underlying27 underlying52 (BO Z)) (Ao O (HG (c:=(((hi*4294967296+lo)%y:Nat):Int)) O O Z (PH (a:=hi*4294967296+lo) (b:=y))) ?_)))))))))))
  exact Ao O (An (c:=(((hi*4294967296+lo)%y:Nat):Int)) O underlying52 underlying27 (C9 Z)) (pS' O (pS' O (zP (zB (sL [0,2,6,7] O) (zA (zF (Bf O (rd_tmp (v:=(vK .u32 ((hi*4294967296+lo)/y))) O) (rd_tmp (v:=(vK .u32 ((hi*4294967296+lo)%y))) O) (λw hw=>⟨rfl,hw.out⟩))))))))
theorem VX (x:Nat) (hx:x<4294967296) (w:World)  :Calls prog 133 #[(vK .u32 x)] w (AY w (vN (bl x))):=by
 refine AS (args:=[(vK .u32 x)]) func133 O O (leB O) (zG (sL [0] O) (q4 (asg' O (oNl' (q1 (q4 (AL O (st' (CW (c:=(decide (65536<=x))) O O (Rp (a:=65536) (b:=x))) O (oNl' (zB (sL [0,2,4] O) (zA ?_)))))))))))
 refine yd (tg λ(u:Nat) (n:Nat)=>u<65536/\n<=16/\bl x=bl u+n) (tg λ(u:Nat) (n:Nat)=>[(0,(vK .u32 u)),(2,(vN n))]) (tg λ(u:Nat) (n:Nat)=>[]) ?_ ?_
 ·refine zK O (λhc0=>?_) (λhc0=>?_)
  ·replace hc0:=xR hc0
   exact q4 (AL O (st' (DH (s:=16) (c:=((x/65536:Nat):Int)) O O O jY (Gr (a:=x) (s:=16))) O (asg' O (oNl' (zB (sL [0,2] O) (zA (zL (asg' O (oNl' (zw (x/65536) 16 (⟨Z,Z,OU (k:=16) hc0⟩) (sF O) sr))))))))))
  ·replace hc0:=xQ hc0
   exact zI (zw x 0 (⟨Z,Z,rfl⟩) (sF O) sr)
 ·intro u n hJ
  obtain ⟨hu,hn,hv⟩:=hJ
  refine q1 (q4 (AL O (st' (CW (c:=(decide (256<=u))) O O (Rp (a:=256) (b:=u))) O (oNl' (zB (sL [0,2,8] O) (zA ?_))))))
  refine yd (tg λ(u2:Nat) (n2:Nat)=>u2<256/\n2<=24/\bl x=bl u2+n2) (tg λ(u2:Nat) (n2:Nat)=>[(0,(vK .u32 u2)),(2,(vN n2))]) (tg λ(u2:Nat) (n2:Nat)=>[]) ?_ ?_
  ·refine zK O (λhc1=>?_) (λhc1=>?_)
   ·replace hc1:=xR hc1
    refine q4 (AL O (st' (DH (s:=8) (c:=((u/256:Nat):Int)) O O O jY (Gr (a:=u) (s:=8))) O (asg' O (oNl' (zB (sL [0,2] O) (zA (zL (AL O (st' (Ad (c:=((n+8:Nat):Int)) O O (Ab (a:=n) (b:=8) Z)) O (asg' O (oNl' ?_)))))))))))
    exact zB (sL [0,2] O) (zw (u/256) (n+8) (⟨Z,Z,by rw [hv,Zy hc1];omega⟩) (sF O) sr)
   ·replace hc1:=xQ hc1
    exact zI (zw u n (⟨Z,Z,hv⟩) (sF O) sr)
  ·intro u2 n2 hJ
   obtain ⟨hu2,hn2,hv2⟩:=hJ
   refine q2 (AL O (AL O (st' (An (c:=((u2:Nat):Int)) O underlying27 underlying5 (Od Z)) O ?_)))
   have hb8:bl u2<=8:=Ul (k:=8) hu2
   exact st' (v:=(vK .u8 (bl u2))) (E9 (j:=u2) (m:=bl u2) O O underlying9 (bF jV hu2) Z) O (st' (An (c:=((bl u2:Nat):Int)) O underlying5 underlying3 (D_ Z)) O (st' (Ad (c:=((bl x:Nat):Int)) O O (by rw [hv2,Int.add_comm,<-Int.natCast_add];exact D_ Z)) O (asg' O (oNl' (zB (sL [0,2] O) (zA (zF (ret_one O (rd_tmp (v:=(vN (bl x))) O) (λw hw=>⟨rfl,hw.out⟩)))))))))
theorem YG (x:Nat) (hx:x<4294967296) (w:World)  :Calls prog 197 #[(vK .u32 x)] w (AY w (vN (32-bl x))):=by
 have hb:=Ul (k:=32) hx
 refine AS (args:=[(vK .u32 x)]) func197 O O (leB O) (zG (sL [0] O) (q4 (asg' O (oNl' (q2 (AL O (ck' call133 (VX _ Z) O (st' (BT (c:=((32-(bl x):Nat):Int)) O O (CH (a:=32) (b:=bl x) Z Z)) O (asg' O (oNl' (zB (sL [2] O) ?_)))))))))))
 exact zA (zF (ret_one O (rd_tmp (v:=(vN (32-(bl x)))) O) (λw hw=>⟨rfl,hw.out⟩)))
theorem Y5 (z:Int) (hz:-9223372036854775808<=z) (hz2:z<9223372036854775808) (w:World)  :Calls prog 210 #[(vI z)] w (AY w (vI z.sign)):=by
 refine AS (args:=[(vI z)]) func210 O O (leB O) (zG (sL [0] O) (q4 (asg' O (oNl' (q2 (AL O (st' (U_ (c:=(if z<1 then z else 1)) O O O) O (st' (Nf (c:=z.sign) O O (WU z)) O (asg' O (oNl' (zB (sL [2] O) ?_)))))))))))
 exact zA (zF (ret_one O (rd_tmp (v:=(vI z.sign)) O) (λw hw=>⟨rfl,hw.out⟩)))
end
section
section
variable {P:Program} {n:Nat} {F:List (Nat×Value)} {w0:Av} {L:List As} {x y:Operand} {d:Option Tmp} {t:TypeId} {p:String} {af:Array Edge} {g:Option (Nat×Bool)}
def Jg (P:Program) (D:Nat) (T:TypeId) (u v:Value) (b:Bool):Prop:=∀w,(Op.equalIn D T u v).run P w=.ok b w
def KY (P:Program) (D:Nat) (xs ys:List Value) (fs:List Field) (b:Bool):Prop:=∀w,(Op.eqFields D xs.toArray ys.toArray fs).run P w=.ok b w
theorem Jg.int {D:Nat} {T:TypeId} {k k':IntKind} {a b:Int} (h:P.underlying T=some (.int k')):Jg P (D+1) T (.int k a) (.int k b) (a == b):=λw=>run_equalIn_int w D T k k' a b h
theorem Jg.bool {D:Nat} {T:TypeId} {a b:Bool} (h:P.underlying T=some .bool):Jg P (D+1) T (.bool a) (.bool b) (a == b):=λw=>run_equalIn_bool' w D T a b h
theorem Jg.str {D:Nat} {T:TypeId} {a b:ByteArray} (h:P.underlying T=some .string):Jg P (D+1) T (.string a) (.string b) (a.toList == b.toList):=λw=>run_equalIn_string w D T a b h
theorem Jg.struct {D:Nat} {T:TypeId} {xs ys:List Value} {b:Bool} {fs:Array Field} (hu:P.underlying T=some (.struct fs)) (hp:P.stoodInHeld T=false) (h:KY P D xs ys fs.toList b):Jg P (D+1) T (.agg xs.toArray) (.agg ys.toArray) b:=λw=>by
  have e:P.fieldsOf T=fs:=by simp [Program.fieldsOf,hu]
  rw [run_equalIn_struct w D T _ _ (by rw [e];exact hu) hp,e];exact h w
theorem KY.nil {D:Nat} {xs ys:List Value}:KY P D xs ys [] true:=λw=>rfl
theorem KY.one {D : Nat} {xs ys : List Value} {f : Field} {fs : List Field} {a b : Value} {r s : Bool} (hn : f.name ≠ "_") (hg : ∀ w, (isAgg f.type).run P w = .ok false w) (ha : xs[f.offset]? = some a) (hb : ys[f.offset]? = some b)
    (h:Jg P D f.type a b r) (h2:KY P D xs ys fs s):KY P D xs ys (f::fs) (r&&s):=λw=>by
  have e1:(part f.type xs.toArray f.offset).run P w=.ok a w:=by simp [part,hg,ha]
  have e2:(part f.type ys.toArray f.offset).run P w=.ok b w:=by simp [part,hg,hb]
  simp only [Op.eqFields,Sem.run_ite,if_pos hn,Sem.run_bind,e1,e2,Result.andThen_ok,h w]
  cases r
  · simp
  · simp [h2 w]
theorem KY.agg {D k : Nat} {xs ys us bs : List Value} {f : Field} {fs : List Field} {r s : Bool} (hn : f.name ≠ "_") (hg : ∀ w, (isAgg f.type).run P w = .ok true w) (hs : ∀ w, (sizeOf f.type).run P w = .ok k w)
    (ha:(xs.drop f.offset).take k=us) (hb:(ys.drop f.offset).take k=bs)
    (h:Jg P D f.type (.agg us.toArray) (.agg bs.toArray) r) (h2:KY P D xs ys fs s):KY P D xs ys (f::fs) (r&&s):=λw=>by
  have ex:∀l:List Value,l.toArray.extract f.offset (f.offset+k)=((l.drop f.offset).take k).toArray:=λl=>by simp [List.extract_eq_take_drop]
  have e1:(part f.type xs.toArray f.offset).run P w=.ok (.agg us.toArray) w:=by simp [part,hg,hs,ex,ha]
  have e2:(part f.type ys.toArray f.offset).run P w=.ok (.agg bs.toArray) w:=by simp [part,hg,hs,ex,hb]
  simp only [Op.eqFields,Sem.run_ite,if_pos hn,Sem.run_bind,e1,e2,Result.andThen_ok,h w]
  cases r
  · simp
  · simp [h2 w]
theorem Cg {xs ys:List Value} {c:Bool} {tx ty:TypeId} (hx:evF F x=some (.agg xs.toArray)) (hy:evF F y=some (.agg ys.toArray)) (hg:P.eqGuardType P.depth tx=false) (hc:Jg P 10000 tx (.agg xs.toArray) (.agg ys.toArray) c) :
    Ex P n F w0 L ⟨d,.binOp .eql tx x y ty,t,p,af,g⟩ (.bool c):=λA w ha _=>by
  simp only [execOp,ha.ev hx,ha.ev hy,Sem.run_bind,run_eqGuard_agg w .eql tx x y _ _ hg,Result.andThen_ok,run_eql_struct,hc w,Sem.run_pure]
end
theorem Uk {a b:Nat} (ha:¬a<18446744073709551616) (hb:¬b<18446744073709551616) (h:Bp a=Bp b):a=b:=by
  rw [FN ha,FN hb] at h
  have h1:bytesN (AK a)=bytesN (AK b):=by
    have lt:∀(xs:List Nat),∀x∈bytesN xs,x<256:=λxs x hx=>by
      simp only [bytesN,List.mem_flatMap,xL,List.not_mem_nil,or_false] at hx
      obtain ⟨y,_,hy⟩:=hx
      omega
    have inj:∀(l r:List Nat),(∀x∈l,x<256)->(∀x∈r,x<256)->l.map UInt8.ofNat=r.map UInt8.ofNat->l=r:=by
      intro l
      induction l with
      | nil=>intro r _ _ h;cases r<;>simp_all
      | cons x l ih =>
        intro r hl hr h
        cases r with
        | nil=>simp at h
        | cons y r =>
          simp only [List.map_cons,List.cons.injEq] at h
          have e:x=y:=by
            have h3:=congrArg UInt8.toNat h.1
            have h4:=hl x jX
            have h5:=hr y jX
            simp at h3
            omega
          rw [e,ih r (λz hz=>hl z (by simp [hz])) (λz hz=>hr z (by simp [hz])) h.2]
    refine inj _ _ (lt _) (lt _) ?_
    have:=congrArg (λs:ByteArray=>s.data.toList) h
    simpa [Dl] using this
  have h2:AK a=AK b:=by
    have hl:(AK a).length=(AK b).length:=by
      have:=congrArg List.length h1
      simp only [B9] at this
      omega
    apply List.ext_getElem hl
    intro i hi hi'
    have g:∀k,k<4->(AK a).getD i 0/256^k%256=(AK b).getD i 0/256^k%256:=λk hk=>by rw [<-GT _ _ _ hi hk,<-GT _ _ _ hi' hk,h1]
    have wa:=(Bw a).getD i
    have wb:=(Bw b).getD i
    have ea:(AK a).getD i 0=(AK a)[i]:=by simp [hi]
    have eb:(AK b).getD i 0=(AK b)[i]:=by simp [hi']
    rw [ea,eb] at g
    rw [ea] at wa
    rw [eb] at wb
    have g0:=g 0 Z
    have g1:=g 1 Z
    have g2:=g 2 Z
    have g3:=g 3 Z
    simp only [Nat.pow_zero,Nat.div_one,Nat.pow_one,show (256:Nat)^2=65536 from rfl,show (256:Nat)^3=16777216 from rfl] at g0 g1 g2 g3
    omega
  rw [<-Cp a,<-Cp b,h2]
theorem Xw (a b:Nat):((((B7 a:Nat):Int) == ((B7 b:Nat):Int))&&(((Bp a).toList == (Bp b).toList)&&true))=decide (a=b):=by
  by_cases e:a=b
  · subst e;simp
  · rw [xz e]
    by_cases ha:a<18446744073709551616
    · by_cases hb:b<18446744073709551616
      · rw [Bj ha,Bj hb]
        have:((a:Int) == (b:Int))=false:=by simp;omega
        rw [this];rfl
      · have h1:=Qb hb
        rw [H4 ha,<-beq_toListBytes]
        have:(ByteArray.empty == Bp b)=false:=by
          rw [beq_toListBytes,ByteArray.toList_eq,ByteArray.toList_eq,FN hb]
          cases hl:(Dl (bytesN (AK b))).data.toList with
          | nil =>
            have h3:=congrArg List.length hl
            simp [Dl,B9] at h3
            unfold nw at h1
            omega
          | cons=>rfl
        rw [this];simp
    · by_cases hb:b<18446744073709551616
      · have h1:=Qb ha
        rw [H4 hb,<-beq_toListBytes]
        have:(Bp a == ByteArray.empty)=false:=by
          rw [beq_toListBytes,ByteArray.toList_eq,ByteArray.toList_eq,FN ha]
          cases hl:(Dl (bytesN (AK a))).data.toList with
          | nil =>
            have h3:=congrArg List.length hl
            simp [Dl,B9] at h3
            unfold nw at h1
            omega
          | cons=>rfl
        rw [this];simp
      · rw [<-beq_toListBytes]
        have:(Bp a == Bp b)=false:=by
          cases hbb:Bp a == Bp b with
          | false=>rfl
          | true =>
            rw [beq_toListBytes] at hbb
            have h2:(Bp a).toList=(Bp b).toList:=by simpa using hbb
            rw [ByteArray.toList_eq,ByteArray.toList_eq] at h2
            have h3:Bp a=Bp b:=by
              cases hA:Bp a with|mk da=>cases hB:Bp b with|mk db =>
                rw [hA,hB] at h2
                congr 1
                exact Array.toList_inj.1 h2
            exact absurd (Uk ha hb h3) e
        rw [this];simp
theorem Hi (D a b:Nat):Jg prog (D+2) 54 (.agg (AT a).toArray) (.agg (AT b).toArray) (decide (a=b)):=by
  rw [<-Xw]
  exact Jg.struct underlying54 Tryz.stoodInHeld54 (KY.one jY isAgg52 O O (Jg.int underlying52) (KY.one jY isAgg9 O O (Jg.str underlying9) KY.nil))
end
section
set_option maxRecDepth 100000
theorem KP (n:Nat) (hn:n<18446744073709551616) (w:World)  :Calls prog 76 #[(vK .u64 n)] w (AY w (aG (AT n))):=by
 refine AS (args:=[(vK .u64 n)]) func76 O O (leB O) (zG (sL [0] O) (q4 (al Gt O λb1=>oNl' (q2 (AL O (st' (v:=(aG ([(vK .u64 n),(Value.string (Bp 0))]))) (AR (zs:=AT 0) (vs:=[(vK .u64 n),(Value.string (Bp 0))]) (pv:=[(0,(vK .u64 n))]) (places:=[(0,1),(1,1)]) zeroValue54 underlying54 (λw=>by simp [sizeOf9,sizeOf52]) O O) O (zJ (k:=4) (u:=(aG (AT n))) O (by rw [D7 hn];rfl) (Am O sizeOf54 O (oNl' (zB (sL [2] O) ?_))))))))))
 exact zA (zF (ret_one O (Aa (i:=0) (cs:=AT n) O O isAgg54 sizeOf54 O) (λw hw=>⟨rfl,hw.out⟩)))
theorem MO  :Instr.fill ([(0,1),(1,1)].toArray[·]?) (AT 0).toArray []=some (AT 0).toArray:=by kernel_rfl
theorem SW (a:Nat) (w:World)  :Calls prog 166 #[(aG (AT a))] w (AY w (qa (decide (a=0)))):=by
 refine AS (args:=[(aG (AT a))]) func166 O O (leB O) (zG (sL [0] O) (q4 (A9 (cs:=AT a) O λb1=>asg' O (q3 (sL [1,2] O) (Ah 0 B4 O (st' (v:=(aG (AT 0))) (AR (zs:=AT 0) (vs:=AT 0) (pv:=[]) (places:=[(0,1),(1,1)]) zeroValue54 underlying54 (λw=>by simp [sizeOf9,sizeOf52]) O (MO )) O (st' (Cg (c:=(decide (a=0))) O O eqGuardType54 (Hi 9998 a 0)) O (asg' O (oNl' (zB (sL [2] O) ?_))))))))))
 exact zA (zF (ret_one O (rd_tmp (v:=(qa (decide (a=0)))) O) (λw hw=>⟨rfl,hw.out⟩)))
theorem DV (v:Nat) (hv:nw v<=1099511627776) (w:World)  :Calls prog 85 #[(aG (AT v))] w (λe w'=>∃b,e=.returned (.slice (jk b) (nw v) (Au v).length)/\E8 w.heap.size w w'/\w.heap.size<=b/\w'.heap[b]?=some (.cells (Ak (Au v)).toArray 27 (0,0))):=by
 refine AS (args:=[(aG (AT v))]) func85 O O (leB O) (zG (sL [0] O) (q4 (A9 (cs:=AT v) O λb1=>asg' O (q6 (sL [1,2] O) (q4 (st' (v:=(pP b1 1)) (AA O underlying54 O sizeOf9 O) O (BZ 0 (Value.string (Bp v)) Tx O (st' (Bc (c:=(decide (v<18446744073709551616))) O O Cd) O (oNl' (zB (sL [1,2,8] O) ?_))))))))))
 refine zA ?_
 refine zK O (λhc0=>?_) (λhc0=>?_)
 ·replace hc0:=xR hc0
  refine q4 (st' (v:=(pP b1 0)) (AA O underlying54 O sizeOf52 O) O (BZ 0 (vK .u64 (B7 v)) G6 O (zJ (k:=10) (u:=(vK .u64 v)) O (by rw [Bj hc0]) (st' (An (c:=((v%4294967296:Nat):Int)) O underlying52 underlying27 Et) O (st' (v:=(pP b1 0)) (AA O underlying54 O sizeOf52 O) O (BZ 0 (vK .u64 (B7 v)) G6 O (zJ (k:=13) (u:=(vK .u64 v)) O (by rw [Bj hc0]) (st' (DH (s:=32) (c:=((v/4294967296:Nat):Int)) O O O jY (Gr (a:=v) (s:=32))) O (st' (An (c:=((v/4294967296:Nat):Int)) O underlying52 underlying27 (C9 Z)) O (zf (V:=λb2=>(qz (jk b2) 2 2)) (T:=27) (cs:=Ak ([v%4294967296,v/4294967296])) (AJ O) (Ar (cs:=Ak ([v%4294967296,v/4294967296])) (pv:=[(0,(vK .u32 (v%4294967296))),(1,(vK .u32 (v/4294967296)))]) underlying169 sizeOf27 zeroValue27 jY jY O jV) O (leB O) λb2=>CC call87 (λw hw=>QH _ 2 2 ([v%4294967296,v/4294967296]) (W32.cons Z (W32.cons Z (W32.nil))) jX jX (by simp;try omega) w (hw.get (i:=0) O)) O ?_))))))))))
  refine asg' O (oNl' (zB (sL [1,2] O) (zA (zF (zH ?_)))))
  have hpad:Au v=[v%4294967296,v/4294967296]:=by simp [Au,hc0]
  have hnw:nw v=ED [v%4294967296,v/4294967296] 2:=by rw [<-Qc (YX hc0) (m:=2) jX,<-ST v,hpad];simp [val];congr 1;omega
  have hret:∀b:Nat,(Ending.returned (qz (jk b) (ED ([v%4294967296,v/4294967296]) 2) 2))=.returned (qz (jk b) (nw v) (Au v).length):=λb=>by rw [hnw,hpad];rfl
  replace hret:=hret b2
  have hcells:(some (Obj.cells (Ak ([v%4294967296,v/4294967296])).toArray 27 (0,0)))=some (Obj.cells (Ak (Au v)).toArray 27 (0,0)):=by rw [hpad]
  exact ret_one O (rd_tmp (v:=(qz (jk b2) (ED ([v%4294967296,v/4294967296]) 2) 2)) O) (λw hw=>⟨b2,hret,hw.out,hw.fresh (i:=0) O,(hw.get (i:=0) O).trans hcells⟩)
 ·replace hc0:=xQ hc0
  refine zI (q2 (st' (v:=(pP b1 1)) (AA O underlying54 O sizeOf9 O) O (BZ 0 (Value.string (Bp v)) Tx O (st' (v:=(vN ((Bp v).size))) (C0 O underlying9) O (zJ (k:=20) (u:=(vN (4*nw v))) O (by rw [FN hc0,Lh,B9];rfl) (st' (FR (c:=(((4*nw v)/4:Nat):Int)) O O Z (Fa (a:=4*nw v) (b:=4) Z)) O (zJ (k:=21) (u:=(vN (nw v))) O (by rw [Nat.mul_div_cancel_left _ Z]) (zf (V:=λb2=>(qz (jk b2) (nw v) (nw v))) (T:=27) (cs:=Ak (List.replicate (nw v) 0)) (AJ O) (Di (m:=nw v) (c:=nw v) O O Z Z) O (leB O) λb2=>asg' O (q6 (sL [1,2,3] O) (q4 ?_))))))))))
  refine AL O (st' (v:=(vN (nw v))) (AD O underlying169) O (AL O (oNl' (zB (sL [1,2,3,24,25] O) (zA (zN ?_))))))
  refine yE (tg λ(i:Nat) (os:List Nat)=>i<=nw v/\os.length=nw v/\os.take i=(AK v).take i/\∀j,i<=j->os.getD j 0=0) (tg λ(i:Nat) (os:List Nat)=>[(1,(pP b1 0)),(2,jj),(3,(qz (jk b2) (nw v) (nw v))),(24,(vN (nw v))),(25,(vN i))]) (tg λ(i:Nat) (os:List Nat)=>[AQ b2 27 (Ak os),AQ b1 54 (AT v)]) (tg λ(i:Nat) (os:List Nat)=>nw v-i) 0 (List.replicate (nw v) 0) (⟨xH _,by simp,by simp,λj _=>by simp [List.getD_eq_getElem?_getD,List.getElem?_replicate];split<;>rfl⟩) (sF O) sr (λi os hJ=>?_)
  obtain ⟨hin,hl,ht,h0⟩:=hJ
  refine q4 (st' (Ag (c:=(decide (i<(nw v)))) O O (DL (a:=i) (b:=nw v))) O (oNl' (q1 ?_)))
  refine zK O (λhc1=>?_) (λhc1=>?_)
  ·replace hc1:=xR hc1
   refine zI (q1 (zN (q4 (AL O (asg' O (q3 (sL [1,2,3,24,25,4] O) (AL O (oNl' (zA (zN ?_))))))))))
   refine yE (tg λ(k:Nat) (xs:List Nat)=>k<=4/\xs=os.set i ((AK v).getD i 0%256^k)) (tg λ(k:Nat) (xs:List Nat)=>[(1,(pP b1 0)),(2,jj),(3,(qz (jk b2) (nw v) (nw v))),(24,(vN (nw v))),(25,(vN i)),(4,(vN i)),(28,(vN k))]) (tg λ(k:Nat) (xs:List Nat)=>[AQ b2 27 (Ak xs),AQ b1 54 (AT v)]) (tg λ(k:Nat) (xs:List Nat)=>4-k) 0 os (⟨Z,by rw [Nat.pow_zero,Nat.mod_one];exact WO (h0 i (Nat.le_refl _))⟩) (sF O) sr (λk xs hJ=>?_)
   obtain ⟨hk,hxs⟩:=hJ
   refine q4 (st' (Ag (c:=(decide (k<4))) O O (DL (a:=k) (b:=4))) O (oNl' (q1 ?_)))
   refine zK O (λhc2=>?_) (λhc2=>?_)
   ·replace hc2:=xR hc2
    refine zI (q1 (zN (q4 (AL O (asg' O (oNl' (zB (sL [1,2,3,24,25,4,28,5] O) (zA (B8 [(0,true),(1,true),(2,true),(4,true),(5,true),(6,true),(7,true),(8,true),(9,true),(10,true),(11,true),(12,true),(13,true),(14,true),(3,false),(15,true),(16,true),(17,false)] (sl sr) ?_)))))))))
    have hi:i<nw v:=hc1
    have hxi:xs.getD i 0=(AK v).getD i 0%256^k:=by rw [hxs];simp [hl,hi]
    have hxl:xs.length=nw v:=by rw [hxs];simp [hl]
    have hby:(AK v).getD i 0/256^k%256<256:=Nat.mod_lt _ Z
    have hget:(Bp v)[4*i+k]?=some (UInt8.ofNat ((AK v).getD i 0/256^k%256)):=by rw [FN hc0,Tr (by rw [B9];show 4*i+k<4*nw v;omega),GT _ _ _ hi hc2]
    have hw32:xs.getD i 0<4294967296:=by rw [hxi];exact Nat.lt_of_le_of_lt (Nat.mod_le _ _) ((Bw v).getD i)
    refine Bq O (Bq O (Ao (v:=(pP b2 i)) O (AG (j:=i) O O underlying169 sizeOf27 O Z jX) (Ao (v:=(pP b1 1)) O (AA O underlying54 O sizeOf9 O) (Cm 0 (Value.string (Bp v)) Tx O (Bq O (Ao O (EO (c:=((4*i:Nat):Int)) O O (F_ (a:=4) (b:=i) Z)) (Bq O (Ao O (Ad (c:=(((4*i)+k:Nat):Int)) O O (Ab (a:=4*i) (b:=k) Z)) (Ao (v:=(vK .u8 ((AK v).getD i 0/256^k%256))) O (E9 (j:=4*i+k) (m:=(AK v).getD i 0/256^k%256) O O underlying9 hget hby) (Ao O (An (c:=(((AK v).getD i 0/256^k%256:Nat):Int)) O underlying5 underlying27 (C9 Z)) (Bq O ?_)))))))))))
    refine Ao O (EO (c:=((8*k:Nat):Int)) O O (F_ (a:=8) (b:=k) Z)) (Ao (v:=(vK .u32 ((AK v).getD i 0/256^k%256*2^(8*k)))) O (HH (s:=8*k) O O O (show 8*k<=32 by omega) (WS (RT hc2))) (zD O (st' (AP (i:=0) (v:=(vK .u32 (xs.getD i 0))) O O isAgg27 (BC (xs:=xs) (j:=i) Z)) O (zC (sl sr) (Ao O (Jq (c:=(((AK v).getD i 0%256^(k+1):Nat):Int)) O O (KQ hw32 (RT hc2) (Sg hxi))) (Ao (v:=(pP b2 i)) O (AG (j:=i) O O underlying169 sizeOf27 O Z jX) (zD O (zo (i:=0) (off:=i) (vs:=[(vK .u32 ((AK v).getD i 0%256^(k+1)))]) (cs':=Ak (xs.set i ((AK v).getD i 0%256^(k+1)))) (L':=[AQ b2 27 (Ak (xs.set i ((AK v).getD i 0%256^(k+1)))),AQ b1 54 (AT v)]) (AJ O) O O O O O sizeOf27 O (C4 (BS _) Z) (CS Z) O (zC (sl sr) (zP (zB (sL [1,2,3,24,25,4,28] O) ?_)))))))))))
    exact zM (zA (zL (st' (Ad (c:=((k+1:Nat):Int)) O O (Ab (a:=k) (b:=1) Z)) O (AL O (oNl' (zB (sL [1,2,3,24,25,4,28] O) (zl (k+1) (xs.set i ((AK v).getD i 0%256^(k+1))) (⟨Z,by rw [hxs,List.set_set]⟩) Z (sF O) sr)))))))
   ·replace hc2:=xQ hc2
    refine zW (zO (zh (zR (zM (zA (zL (st' (Ad (c:=((i+1:Nat):Int)) O O (Ab (a:=i) (b:=1) Z)) O (AL O (oNl' (zB (sL [1,2,3,24,25,4,28] O) ?_))))))))))
    have hst:=RE (ws:=AK v) (xs:=xs) hl rfl hc1 ht h0 (by rw [hxs,show k=4 by omega];congr 1;exact Nat.mod_eq_of_lt ((Bw v).getD i))
    exact zl (i+1) xs (⟨Z,hst.1,hst.2.1,hst.2.2⟩) Z (sF O) sr
  ·replace hc1:=xQ hc1
   refine zW (zO (zh (zR (q2 (AL O (asg' O (oNl' (zB (sL [1,2,3,24,25] O) (zA (zF ?_))))))))))
   have hpad:Au v=AK v:=by simp [Au,hc0]
   have hos:os=AK v:=WL hl rfl hc1 ht
   have hret:∀b:Nat,(Ending.returned (qz (jk b) (nw v) (nw v)))=.returned (qz (jk b) (nw v) (Au v).length):=λb=>by rw [hpad];rfl
   replace hret:=hret b2
   have hcells:(some (Obj.cells (Ak os).toArray 27 (0,0)))=some (Obj.cells (Ak (Au v)).toArray 27 (0,0)):=by rw [hpad,hos]
   exact ret_one O (rd_tmp (v:=(qz (jk b2) (nw v) (nw v))) O) (λw hw=>⟨b2,hret,hw.out,hw.fresh (i:=0) O,(hw.get (i:=0) O).trans hcells⟩)
end
end Go.Proofs.YtcpkbjjmcleplaaGreatDoor
