import Derived.Laws.StructEq
import Derived.Test.YtbfdamnfcmefmaaGreatDoorPend05
namespace Go.Proofs.YtbfdamnfcmefmaaGreatDoor
open Go Go.RowKit Go.Proofs.Tryz
open Go.Value renaming slice→qz,bool→qa
set_option linter.unusedVariables false
set_option linter.unusedSimpArgs false
section
set_option maxRecDepth 100000
theorem Up (b m c:Nat) (bs:List Nat) (hbs:W32 bs) (hm:m<=bs.length) (hc:m<=c) (hL:c<4611686018427387904) (w:World) (hb:w.heap[b]?=some (.cells (Aj bs).toArray 89 (0,0))):Calls prog 154 #[(qz (jk b) m c)] w (Ac w (qz (jk b) (D0 bs m) c)):=by
 refine AW (args:=[(qz (jk b) m c)]) func154 O O (A_ O) (zM (sL [0] O) (q4 (asg' O (oNl' (q1 (zI ?_))))))
 refine zy (tg λ(k:Nat)=>k<=m/\D0 bs k=D0 bs m) (tg λ(k:Nat)=>[(2,jj),(0,(qz (jk b) k c))]) (tg λ(k:Nat)=>[]) (tg λ(k:Nat)=>k) m (⟨Nat.le_refl _,rfl⟩) (sF O) sr (λk hJ=>?_)
 obtain ⟨hk,hv⟩:=hJ
 refine zX (q4 (AL O (AD (v:=(vN k)) (AE O underlying220) O (AD (Da (c:=(decide (0<k))) O O (DA (a:=0) (b:=k))) O (AL O ?_)))))
 refine zi (FM:=[(2,jj),(0,(qz (jk b) k c)),(3,(qz (jk b) k c)),(4,(vN k)),(5,(qa (decide (0<k)))),(6,(qa (decide (0<k)))),(14,(qa ((decide (0<k))&&(decide ((bs.getD (k-1) 0)=0)))))]) (LM:=[]) 8 ?_ ?_
 ·rcases xQ (decide (0<k)) with hg1|hg1
  ·refine zL (k:=6) (u:=qa true) O (by rw [hg1]) ?_
   have hg1':=xT hg1
   refine Gq O (Gq O (BI (v:=(vN k)) O (AE O underlying220) (BI (v:=(vN (k-1))) O (Bt (c:=((k-1:Nat):Int)) O O (CH (a:=k) (b:=1) Z Z)) (BI (v:=(pP b (k-1))) O (AG (j:=k-1) O O underlying220 sizeOf89 O Z jX) ?_))))
   have hx1:bs.getD (k-1) 0<4294967296:=W32.getD hbs (k-1)
   exact BI (v:=(vK .u32 (bs.getD (k-1) 0))) O (Bc (v:=(vK .u32 (bs.getD (k-1) 0))) O (λw' hw=>CA.at0 (hw.oldCA jX (FB hb)) (BF (xs:=bs) (j:=(k-1)) Z)) isAgg89) (BI (v:=(qa (decide ((bs.getD (k-1) 0)=0)))) O (BM (c:=(decide ((bs.getD (k-1) 0)=0))) O O (O5 (a:=bs.getD (k-1) 0) (b:=0))) (AD (v:=(qa (decide ((bs.getD (k-1) 0)=0)))) (AX O O) O (oNl' (zT Cd (xR _)))))
  ·refine zL (k:=6) (u:=qa false) O (by rw [hg1]) ?_
   have hg1':=xS hg1
   exact BT O (BT O (BT O (BT O (BT O (BT O (BT O (AD (v:=(qa false)) (AP O O) O (oNl' (zT Cd (xR _))))))))))
 refine oNl' (zB (sL [2,0,14] O) (zA ?_))
 refine zK O (λhc0=>?_) (λhc0=>?_)
 ·simp only [jK] at hc0
  refine zC (zA (zI (zH (AL O (AL O (AD (v:=(vN k)) (AE O underlying220) O (AD (Bt (c:=((k-1:Nat):Int)) O O (CH (a:=k) (b:=1) Z Z)) O (AD (v:=(qz (jk b) (k-1) c)) (Jd (m:=k-1) O O underlying220 sizeOf89 Z) O (asg' O (oNl' (zB (sL [2,0] O) ?_)))))))))))
  exact zF (zm (k-1) (⟨Z,by rw [<-ST hc0.1 hc0.2];exact hv⟩) Z (sF O) sr)
 ·simp only [jK] at hc0
  have hstop:D0 bs k=k:=SU Z
  exact zU (zO (zY (zP (q2 (AL O (asg' O (oNl' (zB (sL [2,0] O) (zA (zG (ret_one O (rd_tmp (v:=(qz (jk b) k c)) O) (λw hw=>⟨by rw [<-hv,hstop],hw.out⟩))))))))))))
theorem Ki (x y c:Nat) (hx:x<4294967296) (hy:y<4294967296) (hc:c<=1) (w:World)  :Calls prog 207 #[(vK .u32 x),(vK .u32 y),(vK .u32 c)] w (Ac w (Value.tuple #[(vK .u32 ((x+y+c)%4294967296)),(vK .u32 ((x+y+c)/4294967296))])):=by
 refine AW (args:=[(vK .u32 x),(vK .u32 y),(vK .u32 c)]) func207 O O (A_ O) (zM (sL [0,1,2] O) (q4 (asg' O (asg' O (oNl' (q2 (AL O (AD (Aq (c:=((x:Nat):Int)) O underlying89 underlying60 (BS Z)) O (AL O (AD (Aq (c:=((y:Nat):Int)) O underlying89 underlying60 (BS Z)) O (AD (AS (c:=((x+y:Nat):Int)) O O (De (a:=x) (b:=y) Z)) O ?_)))))))))))
 refine AL O (AD (Aq (c:=((c:Nat):Int)) O underlying89 underlying60 (BS Z)) O (AD (AS (c:=(((x+y)+c:Nat):Int)) O O (De (a:=x+y) (b:=c) Z)) O (asg' O (q3 (sL [6,7,8] O) (AL O (AD (Aq (c:=((((x+y)+c)%4294967296:Nat):Int)) O underlying60 underlying89 EX) O (asg' O (q3 (sL [6,7,8] O) (AL O (AD (C1 (s:=32) (c:=((((x+y)+c)/4294967296:Nat):Int)) O O O jY (GS (a:=(x+y)+c) (s:=32))) O (AD (Aq (c:=((((x+y)+c)/4294967296:Nat):Int)) O underlying60 underlying89 (CW Z)) O ?_)))))))))))
 exact asg' O (oNl' (zB (sL [6,7,8] O) (zA (zG (Bs O (rd_tmp (v:=(vK .u32 (((x+y)+c)%4294967296))) O) (rd_tmp (v:=(vK .u32 (((x+y)+c)/4294967296))) O) (λw hw=>⟨rfl,hw.out⟩))))))
theorem Lu (x y c d:Nat) (hx:x<4294967296) (hy:y<4294967296) (hc:c<=1) (hd:d=(x+(4294967296-y)+(4294967296-c))%4294967296) (w:World)  :Calls prog 225 #[(vK .u32 x),(vK .u32 y),(vK .u32 c)] w (Ac w (Value.tuple #[(vK .u32 d),(vK .u32 (JX x (y+c)))])):=by
 have hd2:d<4294967296:=by omega
 have hb:=UW hx hy hc hd
 have hx1:4294967295 ^^^ x<4294967296:=Nat.xor_lt_two_pow (n:=32) Z hx
 have hx2:x ^^^ y<4294967296:=Nat.xor_lt_two_pow (n:=32) hx hy
 have hx3:4294967295 ^^^ (x ^^^ y)<4294967296:=Nat.xor_lt_two_pow (n:=32) Z hx2
 have hx4:(4294967295 ^^^ x) &&& y<4294967296:=Nat.lt_of_le_of_lt Nat.and_le_right hy
 have hx5:(4294967295 ^^^ (x ^^^ y)) &&& d<4294967296:=Nat.lt_of_le_of_lt Nat.and_le_right hd2
 refine AW (args:=[(vK .u32 x),(vK .u32 y),(vK .u32 c)]) func225 O O (A_ O) (zM (sL [0,1,2] O) (q4 (asg' O (asg' O (oNl' (q2 (AL O (AL O (AD (Bt (c:=(((x+(4294967296-y))%4294967296:Nat):Int)) O O (Pb Z)) O (AL O (AD (Bt (c:=((d:Nat):Int)) O O (by rw [Pb Z,hd];exact congrArg Int.ofNat Z)) O ?_)))))))))))
 refine asg' O (q3 (sL [0,1,6,7] O) (AL O (AD (Uz (c:=((4294967295 ^^^ x:Nat):Int)) O (Oy hx)) O (AL O (AD (K1 (c:=(((4294967295 ^^^ x) &&& y:Nat):Int)) O O (Om hx1 hy)) O (AL O (AL O (AD (Z_ (c:=((x ^^^ y:Nat):Int)) O O (Po hx hy)) O (AD (Uz (c:=((4294967295 ^^^ (x ^^^ y):Nat):Int)) O (Oy hx2)) O (AL O (AD (K1 (c:=(((4294967295 ^^^ (x ^^^ y)) &&& d:Nat):Int)) O O (Om hx3 hd2)) O ?_)))))))))))
 exact AD (Jc (c:=(((4294967295 ^^^ x) &&& y ||| (4294967295 ^^^ (x ^^^ y)) &&& d:Nat):Int)) O O (KQ hx4 hx5 O)) O (AD (C1 (s:=31) (c:=((((4294967295 ^^^ x) &&& y ||| (4294967295 ^^^ (x ^^^ y)) &&& d)/2147483648:Nat):Int)) O O O jY (GS (a:=(4294967295 ^^^ x) &&& y ||| (4294967295 ^^^ (x ^^^ y)) &&& d) (s:=31))) O (asg' O (oNl' (zB (sL [0,1,6,7] O) (zA (zG (Bs O (rd_tmp (v:=(vK .u32 d)) O) (rd_tmp (v:=(vK .u32 (((4294967295 ^^^ x) &&& y ||| (4294967295 ^^^ (x ^^^ y)) &&& d)/2147483648))) O) (λw hw=>⟨by rw [<-hb],hw.out⟩))))))))
theorem Vo (x y:Nat) (hx:x<18446744073709551616) (hy:y<18446744073709551616) (w:World)  :Calls prog 180 #[(vK .u64 x),(vK .u64 y)] w (Ac w (Value.tuple #[(vK .u64 (x*y/18446744073709551616)),(vK .u64 (x*y%18446744073709551616))])):=by
 have h1:=LY (a:=x%4294967296) (b:=y%4294967296) Z Z
 have h2:=LY (a:=x/4294967296) (b:=y%4294967296) Z Z
 have h3:=LY (a:=x%4294967296) (b:=y/4294967296) Z Z
 have h4:=LY (a:=x/4294967296) (b:=y/4294967296) Z Z
 have hh:=Vn x y
 have hh2:x*y/18446744073709551616<18446744073709551616:=Nat.div_lt_of_lt_mul (Nat.mul_lt_mul'' hx hy)
 refine AW (args:=[(vK .u64 x),(vK .u64 y)]) func180 O O (A_ O) (zM (sL [0,1] O) (q4 (asg' O (asg' O (oNl' (q2 (AL O (AD (K1 (c:=((x%4294967296:Nat):Int)) O O (I4 (a:=x) Z)) O (asg' O (q3 (sL [0,1,4,5,6] O) (AL O ?_)))))))))))
 refine AD (C1 (s:=32) (c:=((x/4294967296:Nat):Int)) O O O jY (GS (a:=x) (s:=32))) O (asg' O (q3 (sL [0,1,4,5,6,7] O) (AL O (AD (K1 (c:=((y%4294967296:Nat):Int)) O O (I4 (a:=y) Z)) O (asg' O (q3 (sL [0,1,4,5,6,7,8] O) (AL O (AD (C1 (s:=32) (c:=((y/4294967296:Nat):Int)) O O O jY (GS (a:=y) (s:=32))) O (asg' O (q3 (sL [0,1,4,5,6,7,8,9] O) (AL O ?_)))))))))))
 refine AL O (AD (Bo (c:=(((x%4294967296)*(y%4294967296):Nat):Int)) O O (FK (a:=x%4294967296) (b:=y%4294967296) Z)) O (asg' O (q3 (sL [0,1,4,5,6,7,8,9,10] O) (AL O (AL O (AD (Bo (c:=(((x/4294967296)*(y%4294967296):Nat):Int)) O O (FK (a:=x/4294967296) (b:=y%4294967296) Z)) O (AL O (AD (C1 (s:=32) (c:=((((x%4294967296)*(y%4294967296))/4294967296:Nat):Int)) O O O jY (GS (a:=(x%4294967296)*(y%4294967296)) (s:=32))) O (AD (AS (c:=((((x/4294967296)*(y%4294967296))+(((x%4294967296)*(y%4294967296))/4294967296):Nat):Int)) O O (De (a:=(x/4294967296)*(y%4294967296)) (b:=((x%4294967296)*(y%4294967296))/4294967296) Z)) O (asg' O (q3 (sL [0,1,4,5,6,7,8,9,11] O) ?_)))))))))))
 refine AL O (AD (K1 (c:=(((((x/4294967296)*(y%4294967296))+(((x%4294967296)*(y%4294967296))/4294967296))%4294967296:Nat):Int)) O O (I4 (a:=((x/4294967296)*(y%4294967296))+(((x%4294967296)*(y%4294967296))/4294967296)) Z)) O (asg' O (q3 (sL [0,1,4,5,6,7,8,9,11,12] O) (AL O (AD (C1 (s:=32) (c:=(((((x/4294967296)*(y%4294967296))+(((x%4294967296)*(y%4294967296))/4294967296))/4294967296:Nat):Int)) O O O jY (GS (a:=((x/4294967296)*(y%4294967296))+(((x%4294967296)*(y%4294967296))/4294967296)) (s:=32))) O (asg' O (q3 (sL [0,1,4,5,6,7,8,9,11,12,13] O) (AL O (AL O (AL O (AD (Bo (c:=(((x%4294967296)*(y/4294967296):Nat):Int)) O O (FK (a:=x%4294967296) (b:=y/4294967296) Z)) O ?_)))))))))))
 refine AD (AS (c:=((((((x/4294967296)*(y%4294967296))+(((x%4294967296)*(y%4294967296))/4294967296))%4294967296)+((x%4294967296)*(y/4294967296)):Nat):Int)) O O (De (a:=(((x/4294967296)*(y%4294967296))+(((x%4294967296)*(y%4294967296))/4294967296))%4294967296) (b:=(x%4294967296)*(y/4294967296)) Z)) O (asg' O (q3 (sL [0,1,4,5,6,7,8,9,11,12,13] O) (AL O (AL O (AD (Bo (c:=(((x/4294967296)*(y/4294967296):Nat):Int)) O O (FK (a:=x/4294967296) (b:=y/4294967296) Z)) O (AL O (AD (AS (c:=((((x/4294967296)*(y/4294967296))+((((x/4294967296)*(y%4294967296))+(((x%4294967296)*(y%4294967296))/4294967296))/4294967296):Nat):Int)) O O (De (a:=(x/4294967296)*(y/4294967296)) (b:=(((x/4294967296)*(y%4294967296))+(((x%4294967296)*(y%4294967296))/4294967296))/4294967296) Z)) O (AL O (AD (C1 (s:=32) (c:=(((((((x/4294967296)*(y%4294967296))+(((x%4294967296)*(y%4294967296))/4294967296))%4294967296)+((x%4294967296)*(y/4294967296)))/4294967296:Nat):Int)) O O O jY (GS (a:=((((x/4294967296)*(y%4294967296))+(((x%4294967296)*(y%4294967296))/4294967296))%4294967296)+((x%4294967296)*(y/4294967296))) (s:=32))) O (AD (AS (c:=((x*y/18446744073709551616:Nat):Int)) O O (by rw [<-Int.natCast_add,hh];exact BS hh2)) O (asg' O ?_)))))))))))
 exact q3 (sL [0,1,4,5,6,7,8,9,11,12] O) (AL O (AL O (AD (Bo (c:=((x*y%18446744073709551616:Nat):Int)) O O Vp) O (asg' O (oNl' (zB (sL [0,1,4,5,6,7,8,9,11,12] O) (zA (zG (Bs O (rd_tmp (v:=(vK .u64 (x*y/18446744073709551616))) O) (rd_tmp (v:=(vK .u64 (x*y%18446744073709551616))) O) (λw hw=>⟨rfl,hw.out⟩))))))))))
theorem Uq (hi lo y:Nat) (hh:hi<y) (hl:lo<4294967296) (hy:y<4294967296) (w:World)  :Calls prog 198 #[(vK .u32 hi),(vK .u32 lo),(vK .u32 y)] w (Ac w (Value.tuple #[(vK .u32 ((hi*4294967296+lo)/y)),(vK .u32 ((hi*4294967296+lo)%y))])):=by
 refine AW (args:=[(vK .u32 hi),(vK .u32 lo),(vK .u32 y)]) func198 O O (A_ O) (zM (sL [0,1,2] O) (q4 (asg' O (asg' O (oNl' (q1 (q4 (AL O (AD (Bv (c:=(decide (y≠0))) O O (bQ (a:=y) (b:=0))) O (AL O ?_))))))))))
 refine zi (FM:=[(0,(vK .u32 hi)),(1,(vK .u32 lo)),(2,(vK .u32 y)),(6,(Value.int .u32 (0:Int))),(7,(Value.int .u32 (0:Int))),(9,(vK .u32 y)),(10,(qa (decide (y≠0)))),(11,(qa (decide (y≠0)))),(15,(qa ((decide (y≠0))&&(decide (y<=hi)))))]) (LM:=[]) 4 ?_ ?_
 ·rcases xQ (decide (y≠0)) with hg1|hg1
  ·refine zL (k:=11) (u:=qa true) O (by rw [hg1]) ?_
   have hg1':=xT hg1
   exact Gq O (Gq O (BI (v:=(qa (decide (y<=hi)))) O (I1 (c:=(decide (y<=hi))) O O (YV (a:=y) (b:=hi))) (AD (v:=(qa (decide (y<=hi)))) (AX O O) O (oNl' (zT Cd (xR _))))))
  ·refine zL (k:=11) (u:=qa false) O (by rw [hg1]) ?_
   have hg1':=xS hg1
   exact BT O (BT O (BT O (AD (v:=(qa false)) (AP O O) O (oNl' (zT Cd (xR _))))))
 refine oNl' (zB (sL [0,1,2,6,7,15] O) (zA ?_))
 refine zK O (λhc0=>?_) (λhc0=>?_)
 ·simp only [jK] at hc0
  exfalso;omega
 ·simp only [jK] at hc0
  refine zC (q2 (AL O (AD (Aq (c:=((hi:Nat):Int)) O underlying89 underlying60 (BS Z)) O (AD (v:=(vK .u64 (hi*4294967296))) (Gp (s:=32) O O O jY (G2 (s:=32) Z)) O (AL O (AD (Aq (c:=((lo:Nat):Int)) O underlying89 underlying60 (BS Z)) O (AD (Jc (c:=((hi*4294967296+lo:Nat):Int)) O O (KR Z Z (by rw [Nat.or_comm,Nat.add_comm];exact H6 (s:=32) Z))) O ?_)))))))
  have hq:(hi*4294967296+lo)/y<4294967296:=Nat.div_lt_of_lt_mul (by have h9:(hi+1)*4294967296<=y*4294967296:=Nat.mul_le_mul_right _ hh;omega)
  have hr:(hi*4294967296+lo)%y<y:=Nat.mod_lt _ Z
  refine asg' O (q6 (sL [0,2,6,7,8] O) (C8 (El 12) sr (Bp O (Bp O (Al O (Aq (c:=((y:Nat):Int)) O underlying89 underlying60 (BS Z)) (Al O (Gn (c:=(((hi*4294967296+lo)/y:Nat):Int)) O O Z (Lm (a:=hi*4294967296+lo) (b:=y) Z)) (Al O (Aq (c:=(((hi*4294967296+lo)/y:Nat):Int)) O underlying60 underlying89 (CW Z)) (Bp O (Bp O (Al O (Aq (c:=((y:Nat):Int)) O underlying89 underlying60 (BS Z)) (Al O (CE (c:=(((hi*4294967296+lo)%y:Nat):Int)) O O Z (JH (a:=hi*4294967296+lo) (b:=y))) ?_)))))))))))
  exact Al O (Aq (c:=(((hi*4294967296+lo)%y:Nat):Int)) O underlying60 underlying89 (CW Z)) (pS' O (pS' O (zQ (zB (sL [0,2,6,7] O) (zA (zG (Bs O (rd_tmp (v:=(vK .u32 ((hi*4294967296+lo)/y))) O) (rd_tmp (v:=(vK .u32 ((hi*4294967296+lo)%y))) O) (λw hw=>⟨rfl,hw.out⟩))))))))
theorem Va (x:Nat) (hx:x<4294967296) (w:World)  :Calls prog 219 #[(vK .u32 x)] w (Ac w (vN (bl x))):=by
 refine AW (args:=[(vK .u32 x)]) func219 O O (A_ O) (zM (sL [0] O) (q4 (asg' O (oNl' (q1 (q4 (AL O (AD (D1 (c:=(decide (65536<=x))) O O (YV (a:=65536) (b:=x))) O (oNl' (zB (sL [0,2,4] O) (zA ?_)))))))))))
 refine yh (tg λ(u:Nat) (n:Nat)=>u<65536/\n<=16/\bl x=bl u+n) (tg λ(u:Nat) (n:Nat)=>[(0,(vK .u32 u)),(2,(vN n))]) (tg λ(u:Nat) (n:Nat)=>[]) ?_ ?_
 ·refine zK O (λhc0=>?_) (λhc0=>?_)
  ·replace hc0:=xT hc0
   exact q4 (AL O (AD (C1 (s:=16) (c:=((x/65536:Nat):Int)) O O O jY (GS (a:=x) (s:=16))) O (asg' O (oNl' (zB (sL [0,2] O) (zA (zH (asg' O (oNl' (yK (x/65536) 16 (⟨Z,Z,Oo (k:=16) hc0⟩) (sF O) sr))))))))))
  ·replace hc0:=xS hc0
   exact zC (yK x 0 (⟨Z,Z,rfl⟩) (sF O) sr)
 ·intro u n hJ
  obtain ⟨hu,hn,hv⟩:=hJ
  refine q1 (q4 (AL O (AD (D1 (c:=(decide (256<=u))) O O (YV (a:=256) (b:=u))) O (oNl' (zB (sL [0,2,8] O) (zA ?_))))))
  refine yh (tg λ(u2:Nat) (n2:Nat)=>u2<256/\n2<=24/\bl x=bl u2+n2) (tg λ(u2:Nat) (n2:Nat)=>[(0,(vK .u32 u2)),(2,(vN n2))]) (tg λ(u2:Nat) (n2:Nat)=>[]) ?_ ?_
  ·refine zK O (λhc1=>?_) (λhc1=>?_)
   ·replace hc1:=xT hc1
    refine q4 (AL O (AD (C1 (s:=8) (c:=((u/256:Nat):Int)) O O O jY (GS (a:=u) (s:=8))) O (asg' O (oNl' (zB (sL [0,2] O) (zA (zH (AL O (AD (AS (c:=((n+8:Nat):Int)) O O (AV (a:=n) (b:=8) Z)) O (asg' O (oNl' ?_)))))))))))
    exact zB (sL [0,2] O) (yK (u/256) (n+8) (⟨Z,Z,by rw [hv,Zs hc1];omega⟩) (sF O) sr)
   ·replace hc1:=xS hc1
    exact zC (yK u n (⟨Z,Z,hv⟩) (sF O) sr)
  ·intro u2 n2 hJ
   obtain ⟨hu2,hn2,hv2⟩:=hJ
   refine q2 (AL O (AL O (AD (Aq (c:=((u2:Nat):Int)) O underlying89 underlying5 (Uo Z)) O ?_)))
   have hb8:bl u2<=8:=UU (k:=8) hu2
   exact AD (v:=(vK .u8 (bl u2))) (IT (j:=u2) (m:=bl u2) O O underlying9 (bE jV hu2) Z) O (AD (Aq (c:=((bl u2:Nat):Int)) O underlying5 underlying3 (CP Z)) O (AD (AS (c:=((bl x:Nat):Int)) O O (by rw [hv2,Int.add_comm,<-Int.natCast_add];exact CP Z)) O (asg' O (oNl' (zB (sL [0,2] O) (zA (zG (ret_one O (rd_tmp (v:=(vN (bl x))) O) (λw hw=>⟨rfl,hw.out⟩)))))))))
theorem Yc (x:Nat) (hx:x<4294967296) (w:World)  :Calls prog 260 #[(vK .u32 x)] w (Ac w (vN (32-bl x))):=by
 have hb:=UU (k:=32) hx
 refine AW (args:=[(vK .u32 x)]) func260 O O (A_ O) (zM (sL [0] O) (q4 (asg' O (oNl' (q2 (AL O (ck' call219 (Va _ Z) O (AD (Bt (c:=((32-(bl x):Nat):Int)) O O (CH (a:=32) (b:=bl x) Z Z)) O (asg' O (oNl' (zB (sL [2] O) ?_)))))))))))
 exact zA (zG (ret_one O (rd_tmp (v:=(vN (32-(bl x)))) O) (λw hw=>⟨rfl,hw.out⟩)))
theorem Y9 (z:Int) (hz:-9223372036854775808<=z) (hz2:z<9223372036854775808) (w:World)  :Calls prog 282 #[(vI z)] w (Ac w (vI z.sign)):=by
 refine AW (args:=[(vI z)]) func282 O O (A_ O) (zM (sL [0] O) (q4 (asg' O (oNl' (q2 (AL O (AD (Gm (c:=(if z<1 then z else 1)) O O O) O (AD (GH (c:=z.sign) O O (Wb z)) O (asg' O (oNl' (zB (sL [2] O) ?_)))))))))))
 exact zA (zG (ret_one O (rd_tmp (v:=(vI z.sign)) O) (λw hw=>⟨rfl,hw.out⟩)))
end
section
section
variable {P:Program} {n:Nat} {F:List (Nat×Value)} {w0:BD} {L:List As} {x y:Operand} {d:Option Tmp} {t:TypeId} {p:String} {af:Array Edge} {g:Option (Nat×Bool)}
def Ef (P:Program) (D:Nat) (T:TypeId) (u v:Value) (b:Bool):Prop:=∀w,(Op.equalIn D T u v).run P w=.ok b w
def Iu (P:Program) (D:Nat) (xs ys:List Value) (fs:List Field) (b:Bool):Prop:=∀w,(Op.eqFields D xs.toArray ys.toArray fs).run P w=.ok b w
theorem Ef.int {D:Nat} {T:TypeId} {k k':IntKind} {a b:Int} (h:P.underlying T=some (.int k')):Ef P (D+1) T (.int k a) (.int k b) (a == b):=λw=>run_equalIn_int w D T k k' a b h
theorem Ef.bool {D:Nat} {T:TypeId} {a b:Bool} (h:P.underlying T=some .bool):Ef P (D+1) T (.bool a) (.bool b) (a == b):=λw=>run_equalIn_bool' w D T a b h
theorem Ef.str {D:Nat} {T:TypeId} {a b:ByteArray} (h:P.underlying T=some .string):Ef P (D+1) T (.string a) (.string b) (a.toList == b.toList):=λw=>run_equalIn_string w D T a b h
theorem Ef.struct {D:Nat} {T:TypeId} {xs ys:List Value} {b:Bool} {fs:Array Field} (hu:P.underlying T=some (.struct fs)) (hp:P.stoodInHeld T=false) (h:Iu P D xs ys fs.toList b):Ef P (D+1) T (.agg xs.toArray) (.agg ys.toArray) b:=λw=>by
  have e:P.fieldsOf T=fs:=by simp [Program.fieldsOf,hu]
  rw [run_equalIn_struct w D T _ _ (by rw [e];exact hu) hp,e];exact h w
theorem Iu.nil {D:Nat} {xs ys:List Value}:Iu P D xs ys [] true:=λw=>rfl
theorem Iu.one {D : Nat} {xs ys : List Value} {f : Field} {fs : List Field} {a b : Value} {r s : Bool} (hn : f.name ≠ "_") (hg : ∀ w, (isAgg f.type).run P w = .ok false w) (ha : xs[f.offset]? = some a) (hb : ys[f.offset]? = some b)
    (h:Ef P D f.type a b r) (h2:Iu P D xs ys fs s):Iu P D xs ys (f::fs) (r&&s):=λw=>by
  have e1:(part f.type xs.toArray f.offset).run P w=.ok a w:=by simp [part,hg,ha]
  have e2:(part f.type ys.toArray f.offset).run P w=.ok b w:=by simp [part,hg,hb]
  simp only [Op.eqFields,Sem.run_ite,if_pos hn,Sem.run_bind,e1,e2,Result.andThen_ok,h w]
  cases r
  · simp
  · simp [h2 w]
theorem Iu.agg {D k : Nat} {xs ys us bs : List Value} {f : Field} {fs : List Field} {r s : Bool} (hn : f.name ≠ "_") (hg : ∀ w, (isAgg f.type).run P w = .ok true w) (hs : ∀ w, (sizeOf f.type).run P w = .ok k w)
    (ha:(xs.drop f.offset).take k=us) (hb:(ys.drop f.offset).take k=bs)
    (h:Ef P D f.type (.agg us.toArray) (.agg bs.toArray) r) (h2:Iu P D xs ys fs s):Iu P D xs ys (f::fs) (r&&s):=λw=>by
  have ex:∀l:List Value,l.toArray.extract f.offset (f.offset+k)=((l.drop f.offset).take k).toArray:=λl=>by simp [List.extract_eq_take_drop]
  have e1:(part f.type xs.toArray f.offset).run P w=.ok (.agg us.toArray) w:=by simp [part,hg,hs,ex,ha]
  have e2:(part f.type ys.toArray f.offset).run P w=.ok (.agg bs.toArray) w:=by simp [part,hg,hs,ex,hb]
  simp only [Op.eqFields,Sem.run_ite,if_pos hn,Sem.run_bind,e1,e2,Result.andThen_ok,h w]
  cases r
  · simp
  · simp [h2 w]
theorem Bu {xs ys:List Value} {c:Bool} {tx ty:TypeId} (hx:evF F x=some (.agg xs.toArray)) (hy:evF F y=some (.agg ys.toArray)) (hg:P.eqGuardType P.depth tx=false) (hc:Ef P 10000 tx (.agg xs.toArray) (.agg ys.toArray) c) :
    Ex P n F w0 L ⟨d,.binOp .eql tx x y ty,t,p,af,g⟩ (.bool c):=λA w ha _=>by
  simp only [execOp,ha.ev hx,ha.ev hy,Sem.run_bind,run_eqGuard_agg w .eql tx x y _ _ hg,Result.andThen_ok,run_eql_struct,hc w,Sem.run_pure]
theorem QF {xs ys:List Value} {c:Bool} {tx ty:TypeId} (hx:evF F x=some (.agg xs.toArray)) (hy:evF F y=some (.agg ys.toArray)) (hg:P.eqGuardType P.depth tx=false) (hc:Ef P 10000 tx (.agg xs.toArray) (.agg ys.toArray) c) :
    Ex P n F w0 L ⟨d,.binOp .neq tx x y ty,t,p,af,g⟩ (.bool (!c)):=λA w ha _=>by
  simp only [execOp,ha.ev hx,ha.ev hy,Sem.run_bind,run_eqGuard_agg w .neq tx x y _ _ hg,Result.andThen_ok,run_neq_struct,hc w,Sem.run_pure]
end
theorem UT {a b:Nat} (ha:¬a<18446744073709551616) (hb:¬b<18446744073709551616) (h:Bm a=Bm b):a=b:=by
  rw [FA ha,FA hb] at h
  have h1:bytesN (AK a)=bytesN (AK b):=by
    have lt:∀(xs:List Nat),∀x∈bytesN xs,x<256:=λxs x hx=>by
      simp only [bytesN,List.mem_flatMap,xN,List.not_mem_nil,or_false] at hx
      obtain ⟨y,_,hy⟩:=hx
      omega
    have inj:∀(l r:List Nat),(∀x∈l,x<256)->(∀x∈r,x<256)->l.map UInt8.ofNat=r.map UInt8.ofNat->l=r:=by
      intro l
      induction l with
      | nil=>intro r _ _ h;cases r<;>simp_all
      | cons x l ih =>
        intro r hl hr h
        cases r with
        | nil=>simp at h
        | cons y r =>
          simp only [List.map_cons,List.cons.injEq] at h
          have e:x=y:=by
            have h3:=congrArg UInt8.toNat h.1
            have h4:=hl x jX
            have h5:=hr y jX
            simp at h3
            omega
          rw [e,ih r (λz hz=>hl z (by simp [hz])) (λz hz=>hr z (by simp [hz])) h.2]
    refine inj _ _ (lt _) (lt _) ?_
    have:=congrArg (λs:ByteArray=>s.data.toList) h
    simpa [DM] using this
  have h2:AK a=AK b:=by
    have hl:(AK a).length=(AK b).length:=by
      have:=congrArg List.length h1
      simp only [CB] at this
      omega
    apply List.ext_getElem hl
    intro i hi hi'
    have g:∀k,k<4->(AK a).getD i 0/256^k%256=(AK b).getD i 0/256^k%256:=λk hk=>by rw [<-GE _ _ _ hi hk,<-GE _ _ _ hi' hk,h1]
    have wa:=(Br a).getD i
    have wb:=(Br b).getD i
    have ea:(AK a).getD i 0=(AK a)[i]:=by simp [hi]
    have eb:(AK b).getD i 0=(AK b)[i]:=by simp [hi']
    rw [ea,eb] at g
    rw [ea] at wa
    rw [eb] at wb
    have g0:=g 0 Z
    have g1:=g 1 Z
    have g2:=g 2 Z
    have g3:=g 3 Z
    simp only [Nat.pow_zero,Nat.div_one,Nat.pow_one,show (256:Nat)^2=65536 from rfl,show (256:Nat)^3=16777216 from rfl] at g0 g1 g2 g3
    omega
  rw [<-CY a,<-CY b,h2]
theorem Xx (a b:Nat):((((B6 a:Nat):Int) == ((B6 b:Nat):Int))&&(((Bm a).toList == (Bm b).toList)&&true))=decide (a=b):=by
  by_cases e:a=b
  · subst e;simp
  · rw [xH e]
    by_cases ha:a<18446744073709551616
    · by_cases hb:b<18446744073709551616
      · rw [Bf ha,Bf hb]
        have:((a:Int) == (b:Int))=false:=by simp;omega
        rw [this];rfl
      · have h1:=Qh hb
        rw [Hq ha,<-beq_toListBytes]
        have:(ByteArray.empty == Bm b)=false:=by
          rw [beq_toListBytes,ByteArray.toList_eq,ByteArray.toList_eq,FA hb]
          cases hl:(DM (bytesN (AK b))).data.toList with
          | nil =>
            have h3:=congrArg List.length hl
            simp [DM,CB] at h3
            unfold nw at h1
            omega
          | cons=>rfl
        rw [this];simp
    · by_cases hb:b<18446744073709551616
      · have h1:=Qh ha
        rw [Hq hb,<-beq_toListBytes]
        have:(Bm a == ByteArray.empty)=false:=by
          rw [beq_toListBytes,ByteArray.toList_eq,ByteArray.toList_eq,FA ha]
          cases hl:(DM (bytesN (AK a))).data.toList with
          | nil =>
            have h3:=congrArg List.length hl
            simp [DM,CB] at h3
            unfold nw at h1
            omega
          | cons=>rfl
        rw [this];simp
      · rw [<-beq_toListBytes]
        have:(Bm a == Bm b)=false:=by
          cases hbb:Bm a == Bm b with
          | false=>rfl
          | true =>
            rw [beq_toListBytes] at hbb
            have h2:(Bm a).toList=(Bm b).toList:=by simpa using hbb
            rw [ByteArray.toList_eq,ByteArray.toList_eq] at h2
            have h3:Bm a=Bm b:=by
              cases hA:Bm a with|mk da=>cases hB:Bm b with|mk db =>
                rw [hA,hB] at h2
                congr 1
                exact Array.toList_inj.1 h2
            exact absurd (UT ha hb h3) e
        rw [this];simp
theorem HM (D a b:Nat):Ef prog (D+2) 62 (.agg (AT a).toArray) (.agg (AT b).toArray) (decide (a=b)):=by
  rw [<-Xx]
  exact Ef.struct underlying62 Tryz.stoodInHeld62 (Iu.one jY isAgg60 O O (Ef.int underlying60) (Iu.one jY isAgg9 O O (Ef.str underlying9) Iu.nil))
end
section
set_option maxRecDepth 100000
theorem KO (n:Nat) (hn:n<18446744073709551616) (w:World)  :Calls prog 160 #[(vK .u64 n)] w (Ac w (aG (AT n))):=by
 refine AW (args:=[(vK .u64 n)]) func160 O O (A_ O) (zM (sL [0] O) (q4 (al GV O λb1=>oNl' (q2 (AL O (AD (v:=(aG ([(vK .u64 n),(Value.string (Bm 0))]))) (AQ (zs:=AT 0) (vs:=[(vK .u64 n),(Value.string (Bm 0))]) (pv:=[(0,(vK .u64 n))]) (places:=[(0,1),(1,1)]) zeroValue62 underlying62 (λw=>by simp [sizeOf9,sizeOf60]) O O) O (zL (k:=4) (u:=(aG (AT n))) O (by rw [Dq hn];rfl) (Ah O sizeOf62 O (oNl' (zB (sL [2] O) ?_))))))))))
 exact zA (zG (ret_one O (An (i:=0) (cs:=AT n) O O isAgg62 sizeOf62 O) (λw hw=>⟨rfl,hw.out⟩)))
theorem MP  :Instr.fill ([(0,1),(1,1)].toArray[·]?) (AT 0).toArray []=some (AT 0).toArray:=by kernel_rfl
theorem SB (a:Nat) (w:World)  :Calls prog 222 #[(aG (AT a))] w (Ac w (qa (decide (a=0)))):=by
 refine AW (args:=[(aG (AT a))]) func222 O O (A_ O) (zM (sL [0] O) (q4 (BV (cs:=AT a) O λb1=>asg' O (q3 (sL [1,2] O) (Ak 0 B8 O (AD (v:=(aG (AT 0))) (AQ (zs:=AT 0) (vs:=AT 0) (pv:=[]) (places:=[(0,1),(1,1)]) zeroValue62 underlying62 (λw=>by simp [sizeOf9,sizeOf60]) O (MP )) O (AD (Bu (c:=(decide (a=0))) O O eqGuardType62 (HM 9998 a 0)) O (asg' O (oNl' (zB (sL [2] O) ?_))))))))))
 exact zA (zG (ret_one O (rd_tmp (v:=(qa (decide (a=0)))) O) (λw hw=>⟨rfl,hw.out⟩)))
theorem DS (v:Nat) (hv:nw v<=1099511627776) (w:World)  :Calls prog 152 #[(aG (AT v))] w (λe w'=>∃b,e=.returned (.slice (jk b) (nw v) (Ar v).length)/\Hm w.heap.size w w'/\w.heap.size<=b/\w'.heap[b]?=some (.cells (Aj (Ar v)).toArray 89 (0,0))):=by
 refine AW (args:=[(aG (AT v))]) func152 O O (A_ O) (zM (sL [0] O) (q4 (BV (cs:=AT v) O λb1=>asg' O (q6 (sL [1,2] O) (q4 (AD (v:=(pP b1 1)) (AA O underlying62 O sizeOf9 O) O (BG 0 (Value.string (Bm v)) Tj O (AD (Bh (c:=(decide (v<18446744073709551616))) O O Cg) O (oNl' (zB (sL [1,2,8] O) ?_))))))))))
 refine zA ?_
 refine zK O (λhc0=>?_) (λhc0=>?_)
 ·replace hc0:=xT hc0
  refine q4 (AD (v:=(pP b1 0)) (AA O underlying62 O sizeOf60 O) O (BG 0 (vK .u64 (B6 v)) G5 O (zL (k:=10) (u:=(vK .u64 v)) O (by rw [Bf hc0]) (AD (Aq (c:=((v%4294967296:Nat):Int)) O underlying60 underlying89 EX) O (AD (v:=(pP b1 0)) (AA O underlying62 O sizeOf60 O) O (BG 0 (vK .u64 (B6 v)) G5 O (zL (k:=13) (u:=(vK .u64 v)) O (by rw [Bf hc0]) (AD (C1 (s:=32) (c:=((v/4294967296:Nat):Int)) O O O jY (GS (a:=v) (s:=32))) O (AD (Aq (c:=((v/4294967296:Nat):Int)) O underlying60 underlying89 (CW Z)) O (ze (V:=λb2=>(qz (jk b2) 2 2)) (T:=89) (cs:=Aj ([v%4294967296,v/4294967296])) (AI O) (Ax (cs:=Aj ([v%4294967296,v/4294967296])) (pv:=[(0,(vK .u32 (v%4294967296))),(1,(vK .u32 (v/4294967296)))]) underlying220 sizeOf89 zeroValue89 jY jY O jV) O (A_ O) λb2=>C3 call154 (λw hw=>Up _ 2 2 ([v%4294967296,v/4294967296]) (W32.cons Z (W32.cons Z (W32.nil))) jX jX (by simp;try omega) w (hw.get (i:=0) O)) O ?_))))))))))
  refine asg' O (oNl' (zB (sL [1,2] O) (zA (zG (zJ ?_)))))
  have hpad:Ar v=[v%4294967296,v/4294967296]:=by simp [Ar,hc0]
  have hnw:nw v=D0 [v%4294967296,v/4294967296] 2:=by rw [<-Qi (Yp hc0) (m:=2) jX,<-R9 v,hpad];simp [val];congr 1;omega
  have hret:∀b:Nat,(Ending.returned (qz (jk b) (D0 ([v%4294967296,v/4294967296]) 2) 2))=.returned (qz (jk b) (nw v) (Ar v).length):=λb=>by rw [hnw,hpad];rfl
  replace hret:=hret b2
  have hcells:(some (Obj.cells (Aj ([v%4294967296,v/4294967296])).toArray 89 (0,0)))=some (Obj.cells (Aj (Ar v)).toArray 89 (0,0)):=by rw [hpad]
  exact ret_one O (rd_tmp (v:=(qz (jk b2) (D0 ([v%4294967296,v/4294967296]) 2) 2)) O) (λw hw=>⟨b2,hret,hw.out,hw.fresh (i:=0) O,(hw.get (i:=0) O).trans hcells⟩)
 ·replace hc0:=xS hc0
  refine zC (q2 (AD (v:=(pP b1 1)) (AA O underlying62 O sizeOf9 O) O (BG 0 (Value.string (Bm v)) Tj O (AD (v:=(vN ((Bm v).size))) (MO O underlying9) O (zL (k:=20) (u:=(vN (4*nw v))) O (by rw [FA hc0,Lt,CB];rfl) (AD (Gn (c:=(((4*nw v)/4:Nat):Int)) O O Z (PU (a:=4*nw v) (b:=4) Z)) O (zL (k:=21) (u:=(vN (nw v))) O (by rw [Nat.mul_div_cancel_left _ Z]) (ze (V:=λb2=>(qz (jk b2) (nw v) (nw v))) (T:=89) (cs:=Aj (List.replicate (nw v) 0)) (AI O) (DK (m:=nw v) (c:=nw v) O O Z Z) O (A_ O) λb2=>asg' O (q6 (sL [1,2,3] O) (q4 ?_))))))))))
  refine AL O (AD (v:=(vN (nw v))) (AE O underlying220) O (AL O (oNl' (zB (sL [1,2,3,24,25] O) (zA (zI ?_))))))
  refine yE (tg λ(i:Nat) (os:List Nat)=>i<=nw v/\os.length=nw v/\os.take i=(AK v).take i/\∀j,i<=j->os.getD j 0=0) (tg λ(i:Nat) (os:List Nat)=>[(1,(pP b1 0)),(2,jj),(3,(qz (jk b2) (nw v) (nw v))),(24,(vN (nw v))),(25,(vN i))]) (tg λ(i:Nat) (os:List Nat)=>[AY b2 89 (Aj os),AY b1 62 (AT v)]) (tg λ(i:Nat) (os:List Nat)=>nw v-i) 0 (List.replicate (nw v) 0) (⟨xJ _,by simp,by simp,λj _=>by simp [List.getD_eq_getElem?_getD,List.getElem?_replicate];split<;>rfl⟩) (sF O) sr (λi os hJ=>?_)
  obtain ⟨hin,hl,ht,h0⟩:=hJ
  refine q4 (AD (Ab (c:=(decide (i<(nw v)))) O O (DA (a:=i) (b:=nw v))) O (oNl' (q1 ?_)))
  refine zK O (λhc1=>?_) (λhc1=>?_)
  ·replace hc1:=xT hc1
   refine zC (q1 (zI (q4 (AL O (asg' O (q3 (sL [1,2,3,24,25,4] O) (AL O (oNl' (zA (zI ?_))))))))))
   refine yE (tg λ(k:Nat) (xs:List Nat)=>k<=4/\xs=os.set i ((AK v).getD i 0%256^k)) (tg λ(k:Nat) (xs:List Nat)=>[(1,(pP b1 0)),(2,jj),(3,(qz (jk b2) (nw v) (nw v))),(24,(vN (nw v))),(25,(vN i)),(4,(vN i)),(28,(vN k))]) (tg λ(k:Nat) (xs:List Nat)=>[AY b2 89 (Aj xs),AY b1 62 (AT v)]) (tg λ(k:Nat) (xs:List Nat)=>4-k) 0 os (⟨Z,by rw [Nat.pow_zero,Nat.mod_one];exact WU (h0 i (Nat.le_refl _))⟩) (sF O) sr (λk xs hJ=>?_)
   obtain ⟨hk,hxs⟩:=hJ
   refine q4 (AD (Ab (c:=(decide (k<4))) O O (DA (a:=k) (b:=4))) O (oNl' (q1 ?_)))
   refine zK O (λhc2=>?_) (λhc2=>?_)
   ·replace hc2:=xT hc2
    refine zC (q1 (zI (q4 (AL O (asg' O (oNl' (zB (sL [1,2,3,24,25,4,28,5] O) (zA (C8 [(0,true),(1,true),(2,true),(4,true),(5,true),(6,true),(7,true),(8,true),(9,true),(10,true),(11,true),(12,true),(13,true),(14,true),(3,false),(15,true),(16,true),(17,false)] (sl sr) ?_)))))))))
    have hi:i<nw v:=hc1
    have hxi:xs.getD i 0=(AK v).getD i 0%256^k:=by rw [hxs];simp [hl,hi]
    have hxl:xs.length=nw v:=by rw [hxs];simp [hl]
    have hby:(AK v).getD i 0/256^k%256<256:=Nat.mod_lt _ Z
    have hget:(Bm v)[4*i+k]?=some (UInt8.ofNat ((AK v).getD i 0/256^k%256)):=by rw [FA hc0,TN (by rw [CB];show 4*i+k<4*nw v;omega),GE _ _ _ hi hc2]
    have hw32:xs.getD i 0<4294967296:=by rw [hxi];exact Nat.lt_of_le_of_lt (Nat.mod_le _ _) ((Br v).getD i)
    refine Bp O (Bp O (Al (v:=(pP b2 i)) O (AG (j:=i) O O underlying220 sizeOf89 O Z jX) (Al (v:=(pP b1 1)) O (AA O underlying62 O sizeOf9 O) (BQ 0 (Value.string (Bm v)) Tj O (Bp O (Al O (Bo (c:=((4*i:Nat):Int)) O O (Cr (a:=4) (b:=i) Z)) (Bp O (Al O (AS (c:=(((4*i)+k:Nat):Int)) O O (AV (a:=4*i) (b:=k) Z)) (Al (v:=(vK .u8 ((AK v).getD i 0/256^k%256))) O (IT (j:=4*i+k) (m:=(AK v).getD i 0/256^k%256) O O underlying9 hget hby) (Al O (Aq (c:=(((AK v).getD i 0/256^k%256:Nat):Int)) O underlying5 underlying89 (CW Z)) (Bp O ?_)))))))))))
    refine Al O (Bo (c:=((8*k:Nat):Int)) O O (Cr (a:=8) (b:=k) Z)) (Al (v:=(vK .u32 ((AK v).getD i 0/256^k%256*2^(8*k)))) O (Gp (s:=8*k) O O O (show 8*k<=32 by omega) (WX (RI hc2))) (zN O (AD (AH (i:=0) (v:=(vK .u32 (xs.getD i 0))) O O isAgg89 (BF (xs:=xs) (j:=i) Z)) O (zD (sl sr) (Al O (Jc (c:=(((AK v).getD i 0%256^(k+1):Nat):Int)) O O (KQ hw32 (RI hc2) (SM hxi))) (Al (v:=(pP b2 i)) O (AG (j:=i) O O underlying220 sizeOf89 O Z jX) (zN O (zo (i:=0) (off:=i) (vs:=[(vK .u32 ((AK v).getD i 0%256^(k+1)))]) (cs':=Aj (xs.set i ((AK v).getD i 0%256^(k+1)))) (L':=[AY b2 89 (Aj (xs.set i ((AK v).getD i 0%256^(k+1)))),AY b1 62 (AT v)]) (AI O) O O O O O sizeOf89 O (Cm (BO _) Z) (CI Z) O (zD (sl sr) (zQ (zB (sL [1,2,3,24,25,4,28] O) ?_)))))))))))
    exact zF (zA (zH (AD (AS (c:=((k+1:Nat):Int)) O O (AV (a:=k) (b:=1) Z)) O (AL O (oNl' (zB (sL [1,2,3,24,25,4,28] O) (zn (k+1) (xs.set i ((AK v).getD i 0%256^(k+1))) (⟨Z,by rw [hxs,List.set_set]⟩) Z (sF O) sr)))))))
   ·replace hc2:=xS hc2
    refine zU (zO (zl (zP (zF (zA (zH (AD (AS (c:=((i+1:Nat):Int)) O O (AV (a:=i) (b:=1) Z)) O (AL O (oNl' (zB (sL [1,2,3,24,25,4,28] O) ?_))))))))))
    have hst:=Q6 (ws:=AK v) (xs:=xs) hl rfl hc1 ht h0 (by rw [hxs,show k=4 by omega];congr 1;exact Nat.mod_eq_of_lt ((Br v).getD i))
    exact zn (i+1) xs (⟨Z,hst.1,hst.2.1,hst.2.2⟩) Z (sF O) sr
  ·replace hc1:=xS hc1
   refine zU (zO (zl (zP (q2 (AL O (asg' O (oNl' (zB (sL [1,2,3,24,25] O) (zA (zG ?_))))))))))
   have hpad:Ar v=AK v:=by simp [Ar,hc0]
   have hos:os=AK v:=WO hl rfl hc1 ht
   have hret:∀b:Nat,(Ending.returned (qz (jk b) (nw v) (nw v)))=.returned (qz (jk b) (nw v) (Ar v).length):=λb=>by rw [hpad];rfl
   replace hret:=hret b2
   have hcells:(some (Obj.cells (Aj os).toArray 89 (0,0)))=some (Obj.cells (Aj (Ar v)).toArray 89 (0,0)):=by rw [hpad,hos]
   exact ret_one O (rd_tmp (v:=(qz (jk b2) (nw v) (nw v))) O) (λw hw=>⟨b2,hret,hw.out,hw.fresh (i:=0) O,(hw.get (i:=0) O).trans hcells⟩)
end
end Go.Proofs.YtbfdamnfcmefmaaGreatDoor
