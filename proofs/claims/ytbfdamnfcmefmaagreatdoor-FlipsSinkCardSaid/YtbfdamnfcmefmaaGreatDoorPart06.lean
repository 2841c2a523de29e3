import Derived.Laws.StructEq
import Derived.Test.YtbfdamnfcmefmaaGreatDoorPart05
namespace Go.Proofs.YtbfdamnfcmefmaaGreatDoor
open Go Go.RowKit Go.Proofs.Tryz
open Go.Value renaming slice→qz,bool→qa
set_option linter.unusedVariables false
set_option linter.unusedSimpArgs false
section
set_option maxRecDepth 100000
theorem Um (b m c:Nat) (bs:List Nat) (hbs:W32 bs) (hm:m<=bs.length) (hc:m<=c) (hL:c<4611686018427387904) (w:World) (hb:w.heap[b]?=some (.cells (Am bs).toArray 89 (0,0))):Calls prog 154 #[(qz (jk b) m c)] w (Ag w (qz (jk b) (D4 bs m) c)):=by
 refine AW (args:=[(qz (jk b) m c)]) func154 O O (BE O) (zM (sL [0] O) (q4 (asg' O (oNl' (q1 (zI ?_))))))
 refine zw (tg λ(k:Nat)=>k<=m/\D4 bs k=D4 bs m) (tg λ(k:Nat)=>[(2,jj),(0,(qz (jk b) k c))]) (tg λ(k:Nat)=>[]) (tg λ(k:Nat)=>k) m (⟨Nat.le_refl _,rfl⟩) (sF O) sr (λk hJ=>?_)
 obtain ⟨hk,hv⟩:=hJ
 refine zY (q4 (AM O (AC (v:=(vN k)) (AE O underlying220) O (AC (D6 (c:=(decide (0<k))) O O (DF (a:=0) (b:=k))) O (AM O ?_)))))
 refine zi (FM:=[(2,jj),(0,(qz (jk b) k c)),(3,(qz (jk b) k c)),(4,(vN k)),(5,(qa (decide (0<k)))),(6,(qa (decide (0<k)))),(14,(qa ((decide (0<k))&&(decide ((bs.getD (k-1) 0)=0)))))]) (LM:=[]) 8 ?_ ?_
 ·rcases xR (decide (0<k)) with hg1|hg1
  ·refine zK (k:=6) (u:=qa true) O (by rw [hg1]) ?_
   have hg1':=xU hg1
   refine F0 O (F0 O (Av (v:=(vN k)) O (AE O underlying220) (Av (v:=(vN (k-1))) O (Bp (c:=((k-1:Nat):Int)) O O (Bz (a:=k) (b:=1) Z Z)) (Av (v:=(pP b (k-1))) O (AH (j:=k-1) O O underlying220 sizeOf89 O Z jX) ?_))))
   have hx1:bs.getD (k-1) 0<4294967296:=W32.getD hbs (k-1)
   exact Av (v:=(vK .u32 (bs.getD (k-1) 0))) O (Bc (v:=(vK .u32 (bs.getD (k-1) 0))) O (λw' hw=>CA.at0 (hw.oldCA jX (FA hb)) (BH (xs:=bs) (j:=(k-1)) Z)) isAgg89) (Av (v:=(qa (decide ((bs.getD (k-1) 0)=0)))) O (BM (c:=(decide ((bs.getD (k-1) 0)=0))) O O (Mz (a:=bs.getD (k-1) 0) (b:=0))) (AC (v:=(qa (decide ((bs.getD (k-1) 0)=0)))) (AQ O O) O (oNl' (zT Cc (xS _)))))
  ·refine zK (k:=6) (u:=qa false) O (by rw [hg1]) ?_
   have hg1':=xT hg1
   exact BD O (BD O (BD O (BD O (BD O (BD O (BD O (AC (v:=(qa false)) (AL O O) O (oNl' (zT Cc (xS _))))))))))
 refine oNl' (zB (sL [2,0,14] O) (zA ?_))
 refine zL O (λhc0=>?_) (λhc0=>?_)
 ·simp only [jK] at hc0
  refine zC (zA (zI (zD (AM O (AM O (AC (v:=(vN k)) (AE O underlying220) O (AC (Bp (c:=((k-1:Nat):Int)) O O (Bz (a:=k) (b:=1) Z Z)) O (AC (v:=(qz (jk b) (k-1) c)) (Jl (m:=k-1) O O underlying220 sizeOf89 Z) O (asg' O (oNl' (zB (sL [2,0] O) ?_)))))))))))
  exact zF (zh (k-1) (⟨Z,by rw [<-SW hc0.1 hc0.2];exact hv⟩) Z (sF O) sr)
 ·simp only [jK] at hc0
  have hstop:D4 bs k=k:=SY Z
  exact zU (zO (zX (zR (q2 (AM O (asg' O (oNl' (zB (sL [2,0] O) (zA (zH (ret_one O (rd_tmp (v:=(qz (jk b) k c)) O) (λw hw=>⟨by rw [<-hv,hstop],hw.out⟩))))))))))))
theorem Km (x y c:Nat) (hx:x<4294967296) (hy:y<4294967296) (hc:c<=1) (w:World)  :Calls prog 207 #[(vK .u32 x),(vK .u32 y),(vK .u32 c)] w (Ag w (Value.tuple #[(vK .u32 ((x+y+c)%4294967296)),(vK .u32 ((x+y+c)/4294967296))])):=by
 refine AW (args:=[(vK .u32 x),(vK .u32 y),(vK .u32 c)]) func207 O O (BE O) (zM (sL [0,1,2] O) (q4 (asg' O (asg' O (oNl' (q2 (AM O (AC (Ar (c:=((x:Nat):Int)) O underlying89 underlying60 (BW Z)) O (AM O (AC (Ar (c:=((y:Nat):Int)) O underlying89 underlying60 (BW Z)) O (AC (AR (c:=((x+y:Nat):Int)) O O (Dk (a:=x) (b:=y) Z)) O ?_)))))))))))
 refine AM O (AC (Ar (c:=((c:Nat):Int)) O underlying89 underlying60 (BW Z)) O (AC (AR (c:=(((x+y)+c:Nat):Int)) O O (Dk (a:=x+y) (b:=c) Z)) O (asg' O (q3 (sL [6,7,8] O) (AM O (AC (Ar (c:=((((x+y)+c)%4294967296:Nat):Int)) O underlying60 underlying89 Ee) O (asg' O (q3 (sL [6,7,8] O) (AM O (AC (C4 (s:=32) (c:=((((x+y)+c)/4294967296:Nat):Int)) O O O jY (GW (a:=(x+y)+c) (s:=32))) O (AC (Ar (c:=((((x+y)+c)/4294967296:Nat):Int)) O underlying60 underlying89 (Cg Z)) O ?_)))))))))))
 exact asg' O (oNl' (zB (sL [6,7,8] O) (zA (zH (Bu O (rd_tmp (v:=(vK .u32 (((x+y)+c)%4294967296))) O) (rd_tmp (v:=(vK .u32 (((x+y)+c)/4294967296))) O) (λw hw=>⟨rfl,hw.out⟩))))))
theorem Lx (x y c d:Nat) (hx:x<4294967296) (hy:y<4294967296) (hc:c<=1) (hd:d=(x+(4294967296-y)+(4294967296-c))%4294967296) (w:World)  :Calls prog 225 #[(vK .u32 x),(vK .u32 y),(vK .u32 c)] w (Ag w (Value.tuple #[(vK .u32 d),(vK .u32 (Jf x (y+c)))])):=by
 have hd2:d<4294967296:=by omega
 have hb:=UT hx hy hc hd
 have hx1:4294967295 ^^^ x<4294967296:=Nat.xor_lt_two_pow (n:=32) Z hx
 have hx2:x ^^^ y<4294967296:=Nat.xor_lt_two_pow (n:=32) hx hy
 have hx3:4294967295 ^^^ (x ^^^ y)<4294967296:=Nat.xor_lt_two_pow (n:=32) Z hx2
 have hx4:(4294967295 ^^^ x) &&& y<4294967296:=Nat.lt_of_le_of_lt Nat.and_le_right hy
 have hx5:(4294967295 ^^^ (x ^^^ y)) &&& d<4294967296:=Nat.lt_of_le_of_lt Nat.and_le_right hd2
 refine AW (args:=[(vK .u32 x),(vK .u32 y),(vK .u32 c)]) func225 O O (BE O) (zM (sL [0,1,2] O) (q4 (asg' O (asg' O (oNl' (q2 (AM O (AM O (AC (Bp (c:=(((x+(4294967296-y))%4294967296:Nat):Int)) O O (Pd Z)) O (AM O (AC (Bp (c:=((d:Nat):Int)) O O (by rw [Pd Z,hd];exact congrArg Int.ofNat Z)) O ?_)))))))))))
 refine asg' O (q3 (sL [0,1,6,7] O) (AM O (AC (Uw (c:=((4294967295 ^^^ x:Nat):Int)) O (O1 hx)) O (AM O (AC (K5 (c:=(((4294967295 ^^^ x) &&& y:Nat):Int)) O O (Oq hx1 hy)) O (AM O (AM O (AC (Zv (c:=((x ^^^ y:Nat):Int)) O O (Pm hx hy)) O (AC (Uw (c:=((4294967295 ^^^ (x ^^^ y):Nat):Int)) O (O1 hx2)) O (AM O (AC (K5 (c:=(((4294967295 ^^^ (x ^^^ y)) &&& d:Nat):Int)) O O (Oq hx3 hd2)) O ?_)))))))))))
 exact AC (Jk (c:=(((4294967295 ^^^ x) &&& y ||| (4294967295 ^^^ (x ^^^ y)) &&& d:Nat):Int)) O O (KW hx4 hx5 O)) O (AC (C4 (s:=31) (c:=((((4294967295 ^^^ x) &&& y ||| (4294967295 ^^^ (x ^^^ y)) &&& d)/2147483648:Nat):Int)) O O O jY (GW (a:=(4294967295 ^^^ x) &&& y ||| (4294967295 ^^^ (x ^^^ y)) &&& d) (s:=31))) O (asg' O (oNl' (zB (sL [0,1,6,7] O) (zA (zH (Bu O (rd_tmp (v:=(vK .u32 d)) O) (rd_tmp (v:=(vK .u32 (((4294967295 ^^^ x) &&& y ||| (4294967295 ^^^ (x ^^^ y)) &&& d)/2147483648))) O) (λw hw=>⟨by rw [<-hb],hw.out⟩))))))))
theorem Vk (x y:Nat) (hx:x<18446744073709551616) (hy:y<18446744073709551616) (w:World)  :Calls prog 180 #[(vK .u64 x),(vK .u64 y)] w (Ag w (Value.tuple #[(vK .u64 (x*y/18446744073709551616)),(vK .u64 (x*y%18446744073709551616))])):=by
 have h1:=Le (a:=x%4294967296) (b:=y%4294967296) Z Z
 have h2:=Le (a:=x/4294967296) (b:=y%4294967296) Z Z
 have h3:=Le (a:=x%4294967296) (b:=y/4294967296) Z Z
 have h4:=Le (a:=x/4294967296) (b:=y/4294967296) Z Z
 have hh:=Vj x y
 have hh2:x*y/18446744073709551616<18446744073709551616:=Nat.div_lt_of_lt_mul (Nat.mul_lt_mul'' hx hy)
 refine AW (args:=[(vK .u64 x),(vK .u64 y)]) func180 O O (BE O) (zM (sL [0,1] O) (q4 (asg' O (asg' O (oNl' (q2 (AM O (AC (K5 (c:=((x%4294967296:Nat):Int)) O O (JE (a:=x) Z)) O (asg' O (q3 (sL [0,1,4,5,6] O) (AM O ?_)))))))))))
 refine AC (C4 (s:=32) (c:=((x/4294967296:Nat):Int)) O O O jY (GW (a:=x) (s:=32))) O (asg' O (q3 (sL [0,1,4,5,6,7] O) (AM O (AC (K5 (c:=((y%4294967296:Nat):Int)) O O (JE (a:=y) Z)) O (asg' O (q3 (sL [0,1,4,5,6,7,8] O) (AM O (AC (C4 (s:=32) (c:=((y/4294967296:Nat):Int)) O O O jY (GW (a:=y) (s:=32))) O (asg' O (q3 (sL [0,1,4,5,6,7,8,9] O) (AM O ?_)))))))))))
 refine AM O (AC (Bv (c:=(((x%4294967296)*(y%4294967296):Nat):Int)) O O (FK (a:=x%4294967296) (b:=y%4294967296) Z)) O (asg' O (q3 (sL [0,1,4,5,6,7,8,9,10] O) (AM O (AM O (AC (Bv (c:=(((x/4294967296)*(y%4294967296):Nat):Int)) O O (FK (a:=x/4294967296) (b:=y%4294967296) Z)) O (AM O (AC (C4 (s:=32) (c:=((((x%4294967296)*(y%4294967296))/4294967296:Nat):Int)) O O O jY (GW (a:=(x%4294967296)*(y%4294967296)) (s:=32))) O (AC (AR (c:=((((x/4294967296)*(y%4294967296))+(((x%4294967296)*(y%4294967296))/4294967296):Nat):Int)) O O (Dk (a:=(x/4294967296)*(y%4294967296)) (b:=((x%4294967296)*(y%4294967296))/4294967296) Z)) O (asg' O (q3 (sL [0,1,4,5,6,7,8,9,11] O) ?_)))))))))))
 refine AM O (AC (K5 (c:=(((((x/4294967296)*(y%4294967296))+(((x%4294967296)*(y%4294967296))/4294967296))%4294967296:Nat):Int)) O O (JE (a:=((x/4294967296)*(y%4294967296))+(((x%4294967296)*(y%4294967296))/4294967296)) Z)) O (asg' O (q3 (sL [0,1,4,5,6,7,8,9,11,12] O) (AM O (AC (C4 (s:=32) (c:=(((((x/4294967296)*(y%4294967296))+(((x%4294967296)*(y%4294967296))/4294967296))/4294967296:Nat):Int)) O O O jY (GW (a:=((x/4294967296)*(y%4294967296))+(((x%4294967296)*(y%4294967296))/4294967296)) (s:=32))) O (asg' O (q3 (sL [0,1,4,5,6,7,8,9,11,12,13] O) (AM O (AM O (AM O (AC (Bv (c:=(((x%4294967296)*(y/4294967296):Nat):Int)) O O (FK (a:=x%4294967296) (b:=y/4294967296) Z)) O ?_)))))))))))
 refine AC (AR (c:=((((((x/4294967296)*(y%4294967296))+(((x%4294967296)*(y%4294967296))/4294967296))%4294967296)+((x%4294967296)*(y/4294967296)):Nat):Int)) O O (Dk (a:=(((x/4294967296)*(y%4294967296))+(((x%4294967296)*(y%4294967296))/4294967296))%4294967296) (b:=(x%4294967296)*(y/4294967296)) Z)) O (asg' O (q3 (sL [0,1,4,5,6,7,8,9,11,12,13] O) (AM O (AM O (AC (Bv (c:=(((x/4294967296)*(y/4294967296):Nat):Int)) O O (FK (a:=x/4294967296) (b:=y/4294967296) Z)) O (AM O (AC (AR (c:=((((x/4294967296)*(y/4294967296))+((((x/4294967296)*(y%4294967296))+(((x%4294967296)*(y%4294967296))/4294967296))/4294967296):Nat):Int)) O O (Dk (a:=(x/4294967296)*(y/4294967296)) (b:=(((x/4294967296)*(y%4294967296))+(((x%4294967296)*(y%4294967296))/4294967296))/4294967296) Z)) O (AM O (AC (C4 (s:=32) (c:=(((((((x/4294967296)*(y%4294967296))+(((x%4294967296)*(y%4294967296))/4294967296))%4294967296)+((x%4294967296)*(y/4294967296)))/4294967296:Nat):Int)) O O O jY (GW (a:=((((x/4294967296)*(y%4294967296))+(((x%4294967296)*(y%4294967296))/4294967296))%4294967296)+((x%4294967296)*(y/4294967296))) (s:=32))) O (AC (AR (c:=((x*y/18446744073709551616:Nat):Int)) O O (by rw [<-Int.natCast_add,hh];exact BW hh2)) O (asg' O ?_)))))))))))
 exact q3 (sL [0,1,4,5,6,7,8,9,11,12] O) (AM O (AM O (AC (Bv (c:=((x*y%18446744073709551616:Nat):Int)) O O Vl) O (asg' O (oNl' (zB (sL [0,1,4,5,6,7,8,9,11,12] O) (zA (zH (Bu O (rd_tmp (v:=(vK .u64 (x*y/18446744073709551616))) O) (rd_tmp (v:=(vK .u64 (x*y%18446744073709551616))) O) (λw hw=>⟨rfl,hw.out⟩))))))))))
theorem Un (hi lo y:Nat) (hh:hi<y) (hl:lo<4294967296) (hy:y<4294967296) (w:World)  :Calls prog 198 #[(vK .u32 hi),(vK .u32 lo),(vK .u32 y)] w (Ag w (Value.tuple #[(vK .u32 ((hi*4294967296+lo)/y)),(vK .u32 ((hi*4294967296+lo)%y))])):=by
 refine AW (args:=[(vK .u32 hi),(vK .u32 lo),(vK .u32 y)]) func198 O O (BE O) (zM (sL [0,1,2] O) (q4 (asg' O (asg' O (oNl' (q1 (q4 (AM O (AC (Bw (c:=(decide (y≠0))) O O (bG (a:=y) (b:=0))) O (AM O ?_))))))))))
 refine zi (FM:=[(0,(vK .u32 hi)),(1,(vK .u32 lo)),(2,(vK .u32 y)),(6,(Value.int .u32 (0:Int))),(7,(Value.int .u32 (0:Int))),(9,(vK .u32 y)),(10,(qa (decide (y≠0)))),(11,(qa (decide (y≠0)))),(15,(qa ((decide (y≠0))&&(decide (y<=hi)))))]) (LM:=[]) 4 ?_ ?_
 ·rcases xR (decide (y≠0)) with hg1|hg1
  ·refine zK (k:=11) (u:=qa true) O (by rw [hg1]) ?_
   have hg1':=xU hg1
   exact F0 O (F0 O (Av (v:=(qa (decide (y<=hi)))) O (JA (c:=(decide (y<=hi))) O O (YJ (a:=y) (b:=hi))) (AC (v:=(qa (decide (y<=hi)))) (AQ O O) O (oNl' (zT Cc (xS _))))))
  ·refine zK (k:=11) (u:=qa false) O (by rw [hg1]) ?_
   have hg1':=xT hg1
   exact BD O (BD O (BD O (AC (v:=(qa false)) (AL O O) O (oNl' (zT Cc (xS _))))))
 refine oNl' (zB (sL [0,1,2,6,7,15] O) (zA ?_))
 refine zL O (λhc0=>?_) (λhc0=>?_)
 ·simp only [jK] at hc0
  exfalso;omega
 ·simp only [jK] at hc0
  refine zC (q2 (AM O (AC (Ar (c:=((hi:Nat):Int)) O underlying89 underlying60 (BW Z)) O (AC (v:=(vK .u64 (hi*4294967296))) (Gv (s:=32) O O O jY (G5 (s:=32) Z)) O (AM O (AC (Ar (c:=((lo:Nat):Int)) O underlying89 underlying60 (BW Z)) O (AC (Jk (c:=((hi*4294967296+lo:Nat):Int)) O O (KX Z Z (by rw [Nat.or_comm,Nat.add_comm];exact IB (s:=32) Z))) O ?_)))))))
  have hq:(hi*4294967296+lo)/y<4294967296:=Nat.div_lt_of_lt_mul (by have h9:(hi+1)*4294967296<=y*4294967296:=Nat.mul_le_mul_right _ hh;omega)
  have hr:(hi*4294967296+lo)%y<y:=Nat.mod_lt _ Z
  refine asg' O (q6 (sL [0,2,6,7,8] O) (C_ (Ek 12) sr (Bx O (Bx O (Aj O (Ar (c:=((y:Nat):Int)) O underlying89 underlying60 (BW Z)) (Aj O (Gu (c:=(((hi*4294967296+lo)/y:Nat):Int)) O O Z (Lr (a:=hi*4294967296+lo) (b:=y) Z)) (Aj O (Ar (c:=(((hi*4294967296+lo)/y:Nat):Int)) O underlying60 underlying89 (Cg Z)) (Bx O (Bx O (Aj O (Ar (c:=((y:Nat):Int)) O underlying89 underlying60 (BW Z)) (Aj O (B7 (c:=(((hi*4294967296+lo)%y:Nat):Int)) O O Z (IE (a:=hi*4294967296+lo) (b:=y))) ?_)))))))))))
  exact Aj O (Ar (c:=(((hi*4294967296+lo)%y:Nat):Int)) O underlying60 underlying89 (Cg Z)) (pS' O (pS' O (zQ (zB (sL [0,2,6,7] O) (zA (zH (Bu O (rd_tmp (v:=(vK .u32 ((hi*4294967296+lo)/y))) O) (rd_tmp (v:=(vK .u32 ((hi*4294967296+lo)%y))) O) (λw hw=>⟨rfl,hw.out⟩))))))))
theorem VX (x:Nat) (hx:x<4294967296) (w:World)  :Calls prog 219 #[(vK .u32 x)] w (Ag w (vN (bl x))):=by
 refine AW (args:=[(vK .u32 x)]) func219 O O (BE O) (zM (sL [0] O) (q4 (asg' O (oNl' (q1 (q4 (AM O (AC (D5 (c:=(decide (65536<=x))) O O (YJ (a:=65536) (b:=x))) O (oNl' (zB (sL [0,2,4] O) (zA ?_)))))))))))
 refine yh (tg λ(u:Nat) (n:Nat)=>u<65536/\n<=16/\bl x=bl u+n) (tg λ(u:Nat) (n:Nat)=>[(0,(vK .u32 u)),(2,(vN n))]) (tg λ(u:Nat) (n:Nat)=>[]) ?_ ?_
 ·refine zL O (λhc0=>?_) (λhc0=>?_)
  ·replace hc0:=xU hc0
   exact q4 (AM O (AC (C4 (s:=16) (c:=((x/65536:Nat):Int)) O O O jY (GW (a:=x) (s:=16))) O (asg' O (oNl' (zB (sL [0,2] O) (zA (zD (asg' O (oNl' (yI (x/65536) 16 (⟨Z,Z,Ou (k:=16) hc0⟩) (sF O) sr))))))))))
  ·replace hc0:=xT hc0
   exact zC (yI x 0 (⟨Z,Z,rfl⟩) (sF O) sr)
 ·intro u n hJ
  obtain ⟨hu,hn,hv⟩:=hJ
  refine q1 (q4 (AM O (AC (D5 (c:=(decide (256<=u))) O O (YJ (a:=256) (b:=u))) O (oNl' (zB (sL [0,2,8] O) (zA ?_))))))
  refine yh (tg λ(u2:Nat) (n2:Nat)=>u2<256/\n2<=24/\bl x=bl u2+n2) (tg λ(u2:Nat) (n2:Nat)=>[(0,(vK .u32 u2)),(2,(vN n2))]) (tg λ(u2:Nat) (n2:Nat)=>[]) ?_ ?_
  ·refine zL O (λhc1=>?_) (λhc1=>?_)
   ·replace hc1:=xU hc1
    refine q4 (AM O (AC (C4 (s:=8) (c:=((u/256:Nat):Int)) O O O jY (GW (a:=u) (s:=8))) O (asg' O (oNl' (zB (sL [0,2] O) (zA (zD (AM O (AC (AR (c:=((n+8:Nat):Int)) O O (AS (a:=n) (b:=8) Z)) O (asg' O (oNl' ?_)))))))))))
    exact zB (sL [0,2] O) (yI (u/256) (n+8) (⟨Z,Z,by rw [hv,Zk hc1];omega⟩) (sF O) sr)
   ·replace hc1:=xT hc1
    exact zC (yI u n (⟨Z,Z,hv⟩) (sF O) sr)
  ·intro u2 n2 hJ
   obtain ⟨hu2,hn2,hv2⟩:=hJ
   refine q2 (AM O (AM O (AC (Ar (c:=((u2:Nat):Int)) O underlying89 underlying5 (Ul Z)) O ?_)))
   have hb8:bl u2<=8:=US (k:=8) hu2
   exact AC (v:=(vK .u8 (bl u2))) (If (j:=u2) (m:=bl u2) O O underlying9 (au jV hu2) Z) O (AC (Ar (c:=((bl u2:Nat):Int)) O underlying5 underlying3 (CC Z)) O (AC (AR (c:=((bl x:Nat):Int)) O O (by rw [hv2,Int.add_comm,<-Int.natCast_add];exact CC Z)) O (asg' O (oNl' (zB (sL [0,2] O) (zA (zH (ret_one O (rd_tmp (v:=(vN (bl x))) O) (λw hw=>⟨rfl,hw.out⟩)))))))))
theorem YQ (x:Nat) (hx:x<4294967296) (w:World)  :Calls prog 260 #[(vK .u32 x)] w (Ag w (vN (32-bl x))):=by
 have hb:=US (k:=32) hx
 refine AW (args:=[(vK .u32 x)]) func260 O O (BE O) (zM (sL [0] O) (q4 (asg' O (oNl' (q2 (AM O (ck' call219 (VX _ Z) O (AC (Bp (c:=((32-(bl x):Nat):Int)) O O (Bz (a:=32) (b:=bl x) Z Z)) O (asg' O (oNl' (zB (sL [2] O) ?_)))))))))))
 exact zA (zH (ret_one O (rd_tmp (v:=(vN (32-(bl x)))) O) (λw hw=>⟨rfl,hw.out⟩)))
theorem Yx (z:Int) (hz:-9223372036854775808<=z) (hz2:z<9223372036854775808) (w:World)  :Calls prog 282 #[(vI z)] w (Ag w (vI z.sign)):=by
 refine AW (args:=[(vI z)]) func282 O O (BE O) (zM (sL [0] O) (q4 (asg' O (oNl' (q2 (AM O (AC (Gt (c:=(if z<1 then z else 1)) O O O) O (AC (GL (c:=z.sign) O O (WW z)) O (asg' O (oNl' (zB (sL [2] O) ?_)))))))))))
 exact zA (zH (ret_one O (rd_tmp (v:=(vI z.sign)) O) (λw hw=>⟨rfl,hw.out⟩)))
end
section
section
variable {P:Program} {n:Nat} {F:List (Nat×Value)} {w0:BF} {L:List As} {x y:Operand} {d:Option Tmp} {t:TypeId} {p:String} {af:Array Edge} {g:Option (Nat×Bool)}
def Ej (P:Program) (D:Nat) (T:TypeId) (u v:Value) (b:Bool):Prop:=∀w,(Op.equalIn D T u v).run P w=.ok b w
def I3 (P:Program) (D:Nat) (xs ys:List Value) (fs:List Field) (b:Bool):Prop:=∀w,(Op.eqFields D xs.toArray ys.toArray fs).run P w=.ok b w
theorem Ej.int {D:Nat} {T:TypeId} {k k':IntKind} {a b:Int} (h:P.underlying T=some (.int k')):Ej P (D+1) T (.int k a) (.int k b) (a == b):=λw=>run_equalIn_int w D T k k' a b h
theorem Ej.bool {D:Nat} {T:TypeId} {a b:Bool} (h:P.underlying T=some .bool):Ej P (D+1) T (.bool a) (.bool b) (a == b):=λw=>run_equalIn_bool' w D T a b h
theorem Ej.str {D:Nat} {T:TypeId} {a b:ByteArray} (h:P.underlying T=some .string):Ej P (D+1) T (.string a) (.string b) (a.toList == b.toList):=λw=>run_equalIn_string w D T a b h
theorem Ej.struct {D:Nat} {T:TypeId} {xs ys:List Value} {b:Bool} {fs:Array Field} (hu:P.underlying T=some (.struct fs)) (hp:P.stoodInHeld T=false) (h:I3 P D xs ys fs.toList b):Ej P (D+1) T (.agg xs.toArray) (.agg ys.toArray) b:=λw=>by
  have e:P.fieldsOf T=fs:=by simp [Program.fieldsOf,hu]
  rw [run_equalIn_struct w D T _ _ (by rw [e];exact hu) hp,e];exact h w
theorem I3.nil {D:Nat} {xs ys:List Value}:I3 P D xs ys [] true:=λw=>rfl
theorem I3.one {D : Nat} {xs ys : List Value} {f : Field} {fs : List Field} {a b : Value} {r s : Bool} (hn : f.name ≠ "_") (hg : ∀ w, (isAgg f.type).run P w = .ok false w) (ha : xs[f.offset]? = some a) (hb : ys[f.offset]? = some b)
    (h:Ej P D f.type a b r) (h2:I3 P D xs ys fs s):I3 P D xs ys (f::fs) (r&&s):=λw=>by
  have e1:(part f.type xs.toArray f.offset).run P w=.ok a w:=by simp [part,hg,ha]
  have e2:(part f.type ys.toArray f.offset).run P w=.ok b w:=by simp [part,hg,hb]
  simp only [Op.eqFields,Sem.run_ite,if_pos hn,Sem.run_bind,e1,e2,Result.andThen_ok,h w]
  cases r
  · simp
  · simp [h2 w]
theorem I3.agg {D k : Nat} {xs ys us bs : List Value} {f : Field} {fs : List Field} {r s : Bool} (hn : f.name ≠ "_") (hg : ∀ w, (isAgg f.type).run P w = .ok true w) (hs : ∀ w, (sizeOf f.type).run P w = .ok k w)
    (ha:(xs.drop f.offset).take k=us) (hb:(ys.drop f.offset).take k=bs)
    (h:Ej P D f.type (.agg us.toArray) (.agg bs.toArray) r) (h2:I3 P D xs ys fs s):I3 P D xs ys (f::fs) (r&&s):=λw=>by
  have ex:∀l:List Value,l.toArray.extract f.offset (f.offset+k)=((l.drop f.offset).take k).toArray:=λl=>by simp [List.extract_eq_take_drop]
  have e1:(part f.type xs.toArray f.offset).run P w=.ok (.agg us.toArray) w:=by simp [part,hg,hs,ex,ha]
  have e2:(part f.type ys.toArray f.offset).run P w=.ok (.agg bs.toArray) w:=by simp [part,hg,hs,ex,hb]
  simp only [Op.eqFields,Sem.run_ite,if_pos hn,Sem.run_bind,e1,e2,Result.andThen_ok,h w]
  cases r
  · simp
  · simp [h2 w]
theorem By {xs ys:List Value} {c:Bool} {tx ty:TypeId} (hx:evF F x=some (.agg xs.toArray)) (hy:evF F y=some (.agg ys.toArray)) (hg:P.eqGuardType P.depth tx=false) (hc:Ej P 10000 tx (.agg xs.toArray) (.agg ys.toArray) c) :
    Ex P n F w0 L ⟨d,.binOp .eql tx x y ty,t,p,af,g⟩ (.bool c):=λA w ha _=>by
  simp only [execOp,ha.ev hx,ha.ev hy,Sem.run_bind,run_eqGuard_agg w .eql tx x y _ _ hg,Result.andThen_ok,run_eql_struct,hc w,Sem.run_pure]
theorem K7 {xs ys:List Value} {c:Bool} {tx ty:TypeId} (hx:evF F x=some (.agg xs.toArray)) (hy:evF F y=some (.agg ys.toArray)) (hg:P.eqGuardType P.depth tx=false) (hc:Ej P 10000 tx (.agg xs.toArray) (.agg ys.toArray) c) :
    Ex P n F w0 L ⟨d,.binOp .neq tx x y ty,t,p,af,g⟩ (.bool (!c)):=λA w ha _=>by
  simp only [execOp,ha.ev hx,ha.ev hy,Sem.run_bind,run_eqGuard_agg w .neq tx x y _ _ hg,Result.andThen_ok,run_neq_struct,hc w,Sem.run_pure]
end
theorem UR {a b:Nat} (ha:¬a<18446744073709551616) (hb:¬b<18446744073709551616) (h:Bo a=Bo b):a=b:=by
  rw [E_ ha,E_ hb] at h
  have h1:bytesN (AN a)=bytesN (AN b):=by
    have lt:∀(xs:List Nat),∀x∈bytesN xs,x<256:=λxs x hx=>by
      simp only [bytesN,List.mem_flatMap,xO,List.not_mem_nil,or_false] at hx
      obtain ⟨y,_,hy⟩:=hx
      omega
    have inj:∀(l r:List Nat),(∀x∈l,x<256)->(∀x∈r,x<256)->l.map UInt8.ofNat=r.map UInt8.ofNat->l=r:=by
      intro l
      induction l with
      | nil=>intro r _ _ h;cases r<;>simp_all
      | cons x l ih =>
        intro r hl hr h
        cases r with
        | nil=>simp at h
        | cons y r =>
          simp only [List.map_cons,List.cons.injEq] at h
          have e:x=y:=by
            have h3:=congrArg UInt8.toNat h.1
            have h4:=hl x jX
            have h5:=hr y jX
            simp at h3
            omega
          rw [e,ih r (λz hz=>hl z (by simp [hz])) (λz hz=>hr z (by simp [hz])) h.2]
    refine inj _ _ (lt _) (lt _) ?_
    have:=congrArg (λs:ByteArray=>s.data.toList) h
    simpa [DT] using this
  have h2:AN a=AN b:=by
    have hl:(AN a).length=(AN b).length:=by
      have:=congrArg List.length h1
      simp only [CI] at this
      omega
    apply List.ext_getElem hl
    intro i hi hi'
    have g:∀k,k<4->(AN a).getD i 0/256^k%256=(AN b).getD i 0/256^k%256:=λk hk=>by rw [<-GI _ _ _ hi hk,<-GI _ _ _ hi' hk,h1]
    have wa:=(Bt a).getD i
    have wb:=(Bt b).getD i
    have ea:(AN a).getD i 0=(AN a)[i]:=by simp [hi]
    have eb:(AN b).getD i 0=(AN b)[i]:=by simp [hi']
    rw [ea,eb] at g
    rw [ea] at wa
    rw [eb] at wb
    have g0:=g 0 Z
    have g1:=g 1 Z
    have g2:=g 2 Z
    have g3:=g 3 Z
    simp only [Nat.pow_zero,Nat.div_one,Nat.pow_one,show (256:Nat)^2=65536 from rfl,show (256:Nat)^3=16777216 from rfl] at g0 g1 g2 g3
    omega
  rw [<-Ch a,<-Ch b,h2]
theorem Xq (a b:Nat):((((CD a:Nat):Int) == ((CD b:Nat):Int))&&(((Bo a).toList == (Bo b).toList)&&true))=decide (a=b):=by
  by_cases e:a=b
  · subst e;simp
  · rw [xI e]
    by_cases ha:a<18446744073709551616
    · by_cases hb:b<18446744073709551616
      · rw [Bh ha,Bh hb]
        have:((a:Int) == (b:Int))=false:=by simp;omega
        rw [this];rfl
      · have h1:=Qf hb
        rw [Hw ha,<-beq_toListBytes]
        have:(ByteArray.empty == Bo b)=false:=by
          rw [beq_toListBytes,ByteArray.toList_eq,ByteArray.toList_eq,E_ hb]
          cases hl:(DT (bytesN (AN b))).data.toList with
          | nil =>
            have h3:=congrArg List.length hl
            simp [DT,CI] at h3
            unfold nw at h1
            omega
          | cons=>rfl
        rw [this];simp
    · by_cases hb:b<18446744073709551616
      · have h1:=Qf ha
        rw [Hw hb,<-beq_toListBytes]
        have:(Bo a == ByteArray.empty)=false:=by
          rw [beq_toListBytes,ByteArray.toList_eq,ByteArray.toList_eq,E_ ha]
          cases hl:(DT (bytesN (AN a))).data.toList with
          | nil =>
            have h3:=congrArg List.length hl
            simp [DT,CI] at h3
            unfold nw at h1
            omega
          | cons=>rfl
        rw [this];simp
      · rw [<-beq_toListBytes]
        have:(Bo a == Bo b)=false:=by
          cases hbb:Bo a == Bo b with
          | false=>rfl
          | true =>
            rw [beq_toListBytes] at hbb
            have h2:(Bo a).toList=(Bo b).toList:=by simpa using hbb
            rw [ByteArray.toList_eq,ByteArray.toList_eq] at h2
            have h3:Bo a=Bo b:=by
              cases hA:Bo a with|mk da=>cases hB:Bo b with|mk db =>
                rw [hA,hB] at h2
                congr 1
                exact Array.toList_inj.1 h2
            exact absurd (UR ha hb h3) e
        rw [this];simp
theorem HO (D a b:Nat):Ej prog (D+2) 62 (.agg (AV a).toArray) (.agg (AV b).toArray) (decide (a=b)):=by
  rw [<-Xq]
  exact Ej.struct underlying62 Tryz.stoodInHeld62 (I3.one jY isAgg60 O O (Ej.int underlying60) (I3.one jY isAgg9 O O (Ej.str underlying9) I3.nil))
end
section
set_option maxRecDepth 100000
theorem KV (n:Nat) (hn:n<18446744073709551616) (w:World)  :Calls prog 160 #[(vK .u64 n)] w (Ag w (aG (AV n))):=by
 refine AW (args:=[(vK .u64 n)]) func160 O O (BE O) (zM (sL [0] O) (q4 (al GZ O λb1=>oNl' (q2 (AM O (AC (v:=(aG ([(vK .u64 n),(Value.string (Bo 0))]))) (AT (zs:=AV 0) (vs:=[(vK .u64 n),(Value.string (Bo 0))]) (pv:=[(0,(vK .u64 n))]) (places:=[(0,1),(1,1)]) zeroValue62 underlying62 (λw=>by simp [sizeOf9,sizeOf60]) O O) O (zK (k:=4) (u:=(aG (AV n))) O (by rw [Dt hn];rfl) (Ah O sizeOf62 O (oNl' (zB (sL [2] O) ?_))))))))))
 exact zA (zH (ret_one O (Ap (i:=0) (cs:=AV n) O O isAgg62 sizeOf62 O) (λw hw=>⟨rfl,hw.out⟩)))
theorem MS  :Instr.fill ([(0,1),(1,1)].toArray[·]?) (AV 0).toArray []=some (AV 0).toArray:=by kernel_rfl
theorem SD (a:Nat) (w:World)  :Calls prog 222 #[(aG (AV a))] w (Ag w (qa (decide (a=0)))):=by
 refine AW (args:=[(aG (AV a))]) func222 O O (BE O) (zM (sL [0] O) (q4 (BZ (cs:=AV a) O λb1=>asg' O (q3 (sL [1,2] O) (Ai 0 CF O (AC (v:=(aG (AV 0))) (AT (zs:=AV 0) (vs:=AV 0) (pv:=[]) (places:=[(0,1),(1,1)]) zeroValue62 underlying62 (λw=>by simp [sizeOf9,sizeOf60]) O (MS )) O (AC (By (c:=(decide (a=0))) O O eqGuardType62 (HO 9998 a 0)) O (asg' O (oNl' (zB (sL [2] O) ?_))))))))))
 exact zA (zH (ret_one O (rd_tmp (v:=(qa (decide (a=0)))) O) (λw hw=>⟨rfl,hw.out⟩)))
theorem Da (v:Nat) (hv:nw v<=1099511627776) (w:World)  :Calls prog 152 #[(aG (AV v))] w (λe w'=>∃b,e=.returned (.slice (jk b) (nw v) (Ax v).length)/\Ht w.heap.size w w'/\w.heap.size<=b/\w'.heap[b]?=some (.cells (Am (Ax v)).toArray 89 (0,0))):=by
 refine AW (args:=[(aG (AV v))]) func152 O O (BE O) (zM (sL [0] O) (q4 (BZ (cs:=AV v) O λb1=>asg' O (q6 (sL [1,2] O) (q4 (AC (v:=(pP b1 1)) (AA O underlying62 O sizeOf9 O) O (BA 0 (Value.string (Bo v)) Tj O (AC (Bj (c:=(decide (v<18446744073709551616))) O O Cm) O (oNl' (zB (sL [1,2,8] O) ?_))))))))))
 refine zA ?_
 refine zL O (λhc0=>?_) (λhc0=>?_)
 ·replace hc0:=xU hc0
  refine q4 (AC (v:=(pP b1 0)) (AA O underlying62 O sizeOf60 O) O (BA 0 (vK .u64 (CD v)) G9 O (zK (k:=10) (u:=(vK .u64 v)) O (by rw [Bh hc0]) (AC (Ar (c:=((v%4294967296:Nat):Int)) O underlying60 underlying89 Ee) O (AC (v:=(pP b1 0)) (AA O underlying62 O sizeOf60 O) O (BA 0 (vK .u64 (CD v)) G9 O (zK (k:=13) (u:=(vK .u64 v)) O (by rw [Bh hc0]) (AC (C4 (s:=32) (c:=((v/4294967296:Nat):Int)) O O O jY (GW (a:=v) (s:=32))) O (AC (Ar (c:=((v/4294967296:Nat):Int)) O underlying60 underlying89 (Cg Z)) O (ze (V:=λb2=>(qz (jk b2) 2 2)) (T:=89) (cs:=Am ([v%4294967296,v/4294967296])) (AK O) (A7 (cs:=Am ([v%4294967296,v/4294967296])) (pv:=[(0,(vK .u32 (v%4294967296))),(1,(vK .u32 (v/4294967296)))]) underlying220 sizeOf89 zeroValue89 jY jY O jV) O (BE O) λb2=>C7 call154 (λw hw=>Um _ 2 2 ([v%4294967296,v/4294967296]) (W32.cons Z (W32.cons Z (W32.nil))) jX jX (by simp;try omega) w (hw.get (i:=0) O)) O ?_))))))))))
  refine asg' O (oNl' (zB (sL [1,2] O) (zA (zH (zJ ?_)))))
  have hpad:Ax v=[v%4294967296,v/4294967296]:=by simp [Ax,hc0]
  have hnw:nw v=D4 [v%4294967296,v/4294967296] 2:=by rw [<-Qg (Yd hc0) (m:=2) jX,<-SA v,hpad];simp [val];congr 1;omega
  have hret:∀b:Nat,(Ending.returned (qz (jk b) (D4 ([v%4294967296,v/4294967296]) 2) 2))=.returned (qz (jk b) (nw v) (Ax v).length):=λb=>by rw [hnw,hpad];rfl
  replace hret:=hret b2
  have hcells:(some (Obj.cells (Am ([v%4294967296,v/4294967296])).toArray 89 (0,0)))=some (Obj.cells (Am (Ax v)).toArray 89 (0,0)):=by rw [hpad]
  exact ret_one O (rd_tmp (v:=(qz (jk b2) (D4 ([v%4294967296,v/4294967296]) 2) 2)) O) (λw hw=>⟨b2,hret,hw.out,hw.fresh (i:=0) O,(hw.get (i:=0) O).trans hcells⟩)
 ·replace hc0:=xT hc0
  refine zC (q2 (AC (v:=(pP b1 1)) (AA O underlying62 O sizeOf9 O) O (BA 0 (Value.string (Bo v)) Tj O (AC (v:=(vN ((Bo v).size))) (MR O underlying9) O (zK (k:=20) (u:=(vN (4*nw v))) O (by rw [E_ hc0,Lw,CI];rfl) (AC (Gu (c:=(((4*nw v)/4:Nat):Int)) O O Z (PU (a:=4*nw v) (b:=4) Z)) O (zK (k:=21) (u:=(vN (nw v))) O (by rw [Nat.mul_div_cancel_left _ Z]) (ze (V:=λb2=>(qz (jk b2) (nw v) (nw v))) (T:=89) (cs:=Am (List.replicate (nw v) 0)) (AK O) (DQ (m:=nw v) (c:=nw v) O O Z Z) O (BE O) λb2=>asg' O (q6 (sL [1,2,3] O) (q4 ?_))))))))))
  refine AM O (AC (v:=(vN (nw v))) (AE O underlying220) O (AM O (oNl' (zB (sL [1,2,3,24,25] O) (zA (zI ?_))))))
  refine yG (tg λ(i:Nat) (os:List Nat)=>i<=nw v/\os.length=nw v/\os.take i=(AN v).take i/\∀j,i<=j->os.getD j 0=0) (tg λ(i:Nat) (os:List Nat)=>[(1,(pP b1 0)),(2,jj),(3,(qz (jk b2) (nw v) (nw v))),(24,(vN (nw v))),(25,(vN i))]) (tg λ(i:Nat) (os:List Nat)=>[AX b2 89 (Am os),AX b1 62 (AV v)]) (tg λ(i:Nat) (os:List Nat)=>nw v-i) 0 (List.replicate (nw v) 0) (⟨xK _,by simp,by simp,λj _=>by simp [List.getD_eq_getElem?_getD,List.getElem?_replicate];split<;>rfl⟩) (sF O) sr (λi os hJ=>?_)
  obtain ⟨hin,hl,ht,h0⟩:=hJ
  refine q4 (AC (Aa (c:=(decide (i<(nw v)))) O O (DF (a:=i) (b:=nw v))) O (oNl' (q1 ?_)))
  refine zL O (λhc1=>?_) (λhc1=>?_)
  ·replace hc1:=xU hc1
   refine zC (q1 (zI (q4 (AM O (asg' O (q3 (sL [1,2,3,24,25,4] O) (AM O (oNl' (zA (zI ?_))))))))))
   refine yG (tg λ(k:Nat) (xs:List Nat)=>k<=4/\xs=os.set i ((AN v).getD i 0%256^k)) (tg λ(k:Nat) (xs:List Nat)=>[(1,(pP b1 0)),(2,jj),(3,(qz (jk b2) (nw v) (nw v))),(24,(vN (nw v))),(25,(vN i)),(4,(vN i)),(28,(vN k))]) (tg λ(k:Nat) (xs:List Nat)=>[AX b2 89 (Am xs),AX b1 62 (AV v)]) (tg λ(k:Nat) (xs:List Nat)=>4-k) 0 os (⟨Z,by rw [Nat.pow_zero,Nat.mod_one];exact WQ (h0 i (Nat.le_refl _))⟩) (sF O) sr (λk xs hJ=>?_)
   obtain ⟨hk,hxs⟩:=hJ
   refine q4 (AC (Aa (c:=(decide (k<4))) O O (DF (a:=k) (b:=4))) O (oNl' (q1 ?_)))
   refine zL O (λhc2=>?_) (λhc2=>?_)
   ·replace hc2:=xU hc2
    refine zC (q1 (zI (q4 (AM O (asg' O (oNl' (zB (sL [1,2,3,24,25,4,28,5] O) (zA (C_ [(0,true),(1,true),(2,true),(4,true),(5,true),(6,true),(7,true),(8,true),(9,true),(10,true),(11,true),(12,true),(13,true),(14,true),(3,false),(15,true),(16,true),(17,false)] (sl sr) ?_)))))))))
    have hi:i<nw v:=hc1
    have hxi:xs.getD i 0=(AN v).getD i 0%256^k:=by rw [hxs];simp [hl,hi]
    have hxl:xs.length=nw v:=by rw [hxs];simp [hl]
    have hby:(AN v).getD i 0/256^k%256<256:=Nat.mod_lt _ Z
    have hget:(Bo v)[4*i+k]?=some (UInt8.ofNat ((AN v).getD i 0/256^k%256)):=by rw [E_ hc0,TR (by rw [CI];show 4*i+k<4*nw v;omega),GI _ _ _ hi hc2]
    have hw32:xs.getD i 0<4294967296:=by rw [hxi];exact Nat.lt_of_le_of_lt (Nat.mod_le _ _) ((Bt v).getD i)
    refine Bx O (Bx O (Aj (v:=(pP b2 i)) O (AH (j:=i) O O underlying220 sizeOf89 O Z jX) (Aj (v:=(pP b1 1)) O (AA O underlying62 O sizeOf9 O) (BK 0 (Value.string (Bo v)) Tj O (Bx O (Aj O (Bv (c:=((4*i:Nat):Int)) O O (DO (a:=4) (b:=i) Z)) (Bx O (Aj O (AR (c:=(((4*i)+k:Nat):Int)) O O (AS (a:=4*i) (b:=k) Z)) (Aj (v:=(vK .u8 ((AN v).getD i 0/256^k%256))) O (If (j:=4*i+k) (m:=(AN v).getD i 0/256^k%256) O O underlying9 hget hby) (Aj O (Ar (c:=(((AN v).getD i 0/256^k%256:Nat):Int)) O underlying5 underlying89 (Cg Z)) (Bx O ?_)))))))))))
    refine Aj O (Bv (c:=((8*k:Nat):Int)) O O (DO (a:=8) (b:=k) Z)) (Aj (v:=(vK .u32 ((AN v).getD i 0/256^k%256*2^(8*k)))) O (Gv (s:=8*k) O O O (show 8*k<=32 by omega) (WU (RH hc2))) (zN O (AC (AD (i:=0) (v:=(vK .u32 (xs.getD i 0))) O O isAgg89 (BH (xs:=xs) (j:=i) Z)) O (zG (sl sr) (Aj O (Jk (c:=(((AN v).getD i 0%256^(k+1):Nat):Int)) O O (KW hw32 (RH hc2) (SP hxi))) (Aj (v:=(pP b2 i)) O (AH (j:=i) O O underlying220 sizeOf89 O Z jX) (zN O (zo (i:=0) (off:=i) (vs:=[(vK .u32 ((AN v).getD i 0%256^(k+1)))]) (cs':=Am (xs.set i ((AN v).getD i 0%256^(k+1)))) (L':=[AX b2 89 (Am (xs.set i ((AN v).getD i 0%256^(k+1)))),AX b1 62 (AV v)]) (AK O) O O O O O sizeOf89 O (Cq (BR _) Z) (CN Z) O (zG (sl sr) (zQ (zB (sL [1,2,3,24,25,4,28] O) ?_)))))))))))
    exact zF (zA (zD (AC (AR (c:=((k+1:Nat):Int)) O O (AS (a:=k) (b:=1) Z)) O (AM O (oNl' (zB (sL [1,2,3,24,25,4,28] O) (zn (k+1) (xs.set i ((AN v).getD i 0%256^(k+1))) (⟨Z,by rw [hxs,List.set_set]⟩) Z (sF O) sr)))))))
   ·replace hc2:=xT hc2
    refine zU (zO (zm (zR (zF (zA (zD (AC (AR (c:=((i+1:Nat):Int)) O O (AS (a:=i) (b:=1) Z)) O (AM O (oNl' (zB (sL [1,2,3,24,25,4,28] O) ?_))))))))))
    have hst:=Q4 (ws:=AN v) (xs:=xs) hl rfl hc1 ht h0 (by rw [hxs,show k=4 by omega];congr 1;exact Nat.mod_eq_of_lt ((Bt v).getD i))
    exact zn (i+1) xs (⟨Z,hst.1,hst.2.1,hst.2.2⟩) Z (sF O) sr
  ·replace hc1:=xT hc1
   refine zU (zO (zm (zR (q2 (AM O (asg' O (oNl' (zB (sL [1,2,3,24,25] O) (zA (zH ?_))))))))))
   have hpad:Ax v=AN v:=by simp [Ax,hc0]
   have hos:os=AN v:=WK hl rfl hc1 ht
   have hret:∀b:Nat,(Ending.returned (qz (jk b) (nw v) (nw v)))=.returned (qz (jk b) (nw v) (Ax v).length):=λb=>by rw [hpad];rfl
   replace hret:=hret b2
   have hcells:(some (Obj.cells (Am os).toArray 89 (0,0)))=some (Obj.cells (Am (Ax v)).toArray 89 (0,0)):=by rw [hpad,hos]
   exact ret_one O (rd_tmp (v:=(qz (jk b2) (nw v) (nw v))) O) (λw hw=>⟨b2,hret,hw.out,hw.fresh (i:=0) O,(hw.get (i:=0) O).trans hcells⟩)
end
end Go.Proofs.YtbfdamnfcmefmaaGreatDoor
