import Derived.Test.YtbfdamnfcmefmaaGreatDoorPart07
namespace Go.Proofs.YtbfdamnfcmefmaaGreatDoor
open Go Go.RowKit Go.Proofs.Tryz
open Go.Value renaming slice→qz,bool→qa
set_option linter.unusedVariables false
set_option linter.unusedSimpArgs false
section
set_option maxRecDepth 100000
theorem Tm (a b:Nat) (ha:nw a<=1099511627776) (hb:nw b<=1099511627776) (w:World)  :Calls prog 223 #[(aG (AV a)),(aG (AV b))] w (Ag w (vI (Fy a b))):=by
 refine AW (args:=[(aG (AV a)),(aG (AV b))]) func223 O O (BE O) (zM (sL [0,1] O) (q4 (BZ (cs:=AV a) O λb1=>BZ (cs:=AV b) O λb2=>asg' O (q6 (sL [2,3,4] O) (q4 (AC (v:=(pP b1 1)) (AA O underlying62 O sizeOf9 O) O (BA 1 (Value.string (Bo a)) Tj O (AC (Bj (c:=(decide (a<18446744073709551616))) O O Cm) O (AM O ?_)))))))))
 refine zi (FM:=[(2,(pP b1 0)),(3,(pP b2 0)),(4,(vI 0)),(5,(pP b1 1)),(6,(Value.string (Bo a))),(7,(qa (decide (a<18446744073709551616)))),(8,(qa (decide (a<18446744073709551616)))),(12,(qa ((decide (a<18446744073709551616))&&(decide (b<18446744073709551616)))))]) (LM:=[AX b2 62 (AV b),AX b1 62 (AV a)]) 4 ?_ ?_
 ·rcases xR (decide (a<18446744073709551616)) with hg1|hg1
  ·refine zK (k:=8) (u:=qa true) O (by rw [hg1]) ?_
   have hg1':=xU hg1
   exact Av (v:=(pP b2 1)) O (AA O underlying62 O sizeOf9 O) (Av (v:=(Value.string (Bo b))) O (AD (i:=0) (v:=(Value.string (Bo b))) O O Tj.a O) (Av (v:=(qa (decide (b<18446744073709551616)))) O (Bj (c:=(decide (b<18446744073709551616))) O O Cm) (AC (v:=(qa (decide (b<18446744073709551616)))) (AQ O O) O (oNl' (zT Cc (xS _))))))
  ·refine zK (k:=8) (u:=qa false) O (by rw [hg1]) ?_
   have hg1':=xT hg1
   exact BD O (BD O (BD O (AC (v:=(qa false)) (AL O O) O (oNl' (zT Cc (xS _))))))
 refine oNl' (zB (sL [2,3,4,12] O) (zA ?_))
 refine yb (tg True) (tg [(2,(pP b1 0)),(3,(pP b2 0))]) (tg [AX b2 62 (AV b),AX b1 62 (AV a)]) ?_ ?_
 ·refine zL O (λhc0=>?_) (λhc0=>?_)
  ·simp only [jK] at hc0
   refine zY (zI (q4 (AC (v:=(pP b1 0)) (AA O underlying62 O sizeOf60 O) O (BA 1 (vK .u64 (CD a)) G9 O (zK (k:=15) (u:=(vK .u64 a)) O (by rw [Bh hc0.1]) (AC (v:=(pP b2 0)) (AA O underlying62 O sizeOf60 O) O (BA 0 (vK .u64 (CD b)) G9 O (zK (k:=17) (u:=(vK .u64 b)) O (by rw [Bh hc0.2]) (AC (Aa (c:=(decide (a<b))) O O (DF (a:=a) (b:=b))) O (asg' O (oNl' ?_)))))))))))
   refine zB (sL [2,3,4,13] O) (zA ?_)
   refine zL O (λhc1=>?_) (λhc1=>?_)
   ·replace hc1:=xU hc1
    have hz:Fy a b = -1:=if_pos hc1
    exact q4 (asg' O (oNl' (zA (zH (zS (zJ (yO (zJ (ret_one O (rd_tmp (v:=(vI (-1:Int))) O) (λw hw=>⟨by rw [hz],hw.out⟩))))))))))
   ·replace hc1:=xT hc1
    refine q4 (AC (v:=(pP b1 0)) (AA O underlying62 O sizeOf60 O) O (BA 1 (vK .u64 (CD a)) G9 O (zK (k:=21) (u:=(vK .u64 a)) O (by rw [Bh hc0.1]) (AC (v:=(pP b2 0)) (AA O underlying62 O sizeOf60 O) O (BA 0 (vK .u64 (CD b)) G9 O (zK (k:=23) (u:=(vK .u64 b)) O (by rw [Bh hc0.2]) (AC (D6 (c:=(decide (b<a))) O O (DF (a:=b) (b:=a))) O (asg' O (oNl' (zB (sL [2,3,4,19] O) (zA ?_)))))))))))
    refine zL O (λhc2=>?_) (λhc2=>?_)
    ·replace hc2:=xU hc2
     have hz:Fy a b=1:=by unfold Fy;rw [if_neg Z,if_neg Z]
     exact q4 (asg' O (oNl' (zA (zH (zS (zJ (yO (zJ (ret_one O (rd_tmp (v:=(vI 1)) O) (λw hw=>⟨by rw [hz],hw.out⟩))))))))))
    ·replace hc2:=xT hc2
     have hz:Fy a b=0:=RR.2 Z
     exact zC (zF (q2 (asg' O (oNl' (zA (zH (yO (zJ (ret_one O (rd_tmp (v:=(vI 0)) O) (λw hw=>⟨by rw [hz],hw.out⟩))))))))))
  ·simp only [jK] at hc0
   exact zC (yE  (trivial) (sF O) sr)
 ·intro hJ
  refine q1 (C_ [(0,true),(2,true),(1,false),(3,false),(4,false),(5,true)] sr (Es 1 CF O (Es 0 CF O (zN O (z8 (V:=λb3=>(qz (jk b3) (nw a) ((Ax a).length))) (T:=89) (cs:=Am (Ax a)) (AK O) (Ao (args:=[(aG (AV a))]) O O call152) (λw hw=>Da a Z w) O (BE O) λb3=>zG (sl sr) (zN O (z8 (V:=λb4=>(qz (jk b4) (nw b) ((Ax b).length))) (T:=89) (cs:=Am (Ax b)) (AK O) (Ao (args:=[(aG (AV b))]) O O call152) (λw hw=>Da b Z w) O (BE O) λb4=>zG (sl (sl sr)) (zN O (C7 call259 (λw hw=>Zn a b _ _ _ _ Z Z w (hw.get (i:=1) O) (hw.get (i:=0) O)) O ?_)))))))))
  exact zG (sl (sl sr)) (pS' O (zQ (zB (sL [2,3,4] O) (zA (zH (ret_one O (rd_tmp (v:=(vI (Fy a b))) O) (λw hw=>⟨rfl,hw.out⟩)))))))
theorem Tk (a b:Nat) (ha:nw a<=1099511627776) (hb:nw b<=1099511627776) (w:World)  :Calls prog 159 #[(aG (AV a)),(aG (AV b))] w (Ag w (aG (AV (a+b)))):=by
 have hla:=CV a
 have hlb:=CV b
 refine AW (args:=[(aG (AV a)),(aG (AV b))]) func159 O O (BE O) (zM (sL [0,1] O) (q4 (BZ (cs:=AV a) O λb1=>BZ (cs:=AV b) O λb2=>al GZ O λb3=>q6 (sL [2,3,4] O) (q4 (AC (v:=(pP b1 1)) (AA O underlying62 O sizeOf9 O) O (BA 2 (Value.string (Bo a)) Tj O (AC (Bj (c:=(decide (a<18446744073709551616))) O O Cm) O (AM O ?_))))))))
 refine zi (FM:=[(2,(pP b1 0)),(3,(pP b2 0)),(4,(pP b3 0)),(13,(pP b1 1)),(14,(Value.string (Bo a))),(15,(qa (decide (a<18446744073709551616)))),(16,(qa (decide (a<18446744073709551616)))),(20,(qa ((decide (a<18446744073709551616))&&(decide (b<18446744073709551616)))))]) (LM:=[AX b3 62 (AV 0),AX b2 62 (AV b),AX b1 62 (AV a)]) 4 ?_ ?_
 ·rcases xR (decide (a<18446744073709551616)) with hg1|hg1
  ·refine zK (k:=16) (u:=qa true) O (by rw [hg1]) ?_
   have hg1':=xU hg1
   exact Av (v:=(pP b2 1)) O (AA O underlying62 O sizeOf9 O) (Av (v:=(Value.string (Bo b))) O (AD (i:=1) (v:=(Value.string (Bo b))) O O Tj.a O) (Av (v:=(qa (decide (b<18446744073709551616)))) O (Bj (c:=(decide (b<18446744073709551616))) O O Cm) (AC (v:=(qa (decide (b<18446744073709551616)))) (AQ O O) O (oNl' (zT Cc (xS _))))))
  ·refine zK (k:=16) (u:=qa false) O (by rw [hg1]) ?_
   have hg1':=xT hg1
   exact BD O (BD O (BD O (AC (v:=(qa false)) (AL O O) O (oNl' (zT Cc (xS _))))))
 refine oNl' (zB (sL [2,3,4,20] O) (zA ?_))
 refine yb (tg True) (tg [(2,(pP b1 0)),(3,(pP b2 0)),(4,(pP b3 0))]) (tg [AX b3 62 (AV 0),AX b2 62 (AV b),AX b1 62 (AV a)]) ?_ ?_
 ·refine zL O (λhc0=>?_) (λhc0=>?_)
  ·simp only [jK] at hc0
   refine q4 (AC (v:=(pP b1 0)) (AA O underlying62 O sizeOf60 O) O (BA 2 (vK .u64 (CD a)) G9 O (zK (k:=23) (u:=(vK .u64 a)) O (by rw [Bh hc0.1]) (AC (v:=(pP b2 0)) (AA O underlying62 O sizeOf60 O) O (BA 1 (vK .u64 (CD b)) G9 O (zK (k:=25) (u:=(vK .u64 b)) O (by rw [Bh hc0.2]) (AC (v:=(Value.tuple #[(vK .u64 ((a+b+0)%18446744073709551616)),(vK .u64 ((a+b+0)/18446744073709551616))])) (Sc (args:=[(vK .u64 a),(vK .u64 b),(Value.int .u64 (0:Int))]) O O (λw=>TE func206 jV jV jV jV a b 0 Z w)) O (AM O (AC (AJ (v:=(vK .u64 ((a+b+0)%18446744073709551616))) O O) O (AC (AJ (v:=(vK .u64 ((a+b+0)/18446744073709551616))) O O) O (asg' O ?_)))))))))))
   refine asg' O (q3 (sL [2,3,4,5,6] O) (AM O (AC (BM (c:=(decide (((a+b+0)/18446744073709551616)=0))) O O (Mz (a:=(a+b+0)/18446744073709551616) (b:=0))) O (oNl' (zB (sL [2,3,4,5,30] O) (zA ?_))))))
   refine zL O (λhc1=>?_) (λhc1=>?_)
   ·replace hc1:=xU hc1
    exact q4 (AM O (AC (v:=(aG ([(vK .u64 ((a+b+0)%18446744073709551616)),(Value.string (Bo 0))]))) (AT (zs:=AV 0) (vs:=[(vK .u64 ((a+b+0)%18446744073709551616)),(Value.string (Bo 0))]) (pv:=[(0,(vK .u64 ((a+b+0)%18446744073709551616)))]) (places:=[(0,1),(1,1)]) zeroValue62 underlying62 (λw=>by simp [sizeOf9,sizeOf60]) O O) O (zK (k:=32) (u:=(aG (AV (a+b)))) O (by rw [Dt Z,show (a+b+0)%18446744073709551616=a+b by omega];rfl) (Ah O sizeOf62 O (oNl' (zB (sL [2,3,4] O) (zA (zH (yO (zJ (ret_one O (Ap (i:=0) (cs:=AV (a+b)) O O isAgg62 sizeOf62 O) (λw hw=>⟨rfl,hw.out⟩))))))))))))
   ·replace hc1:=xT hc1
    exact zC (yE  (trivial) (sF O) sr)
  ·simp only [jK] at hc0
   exact zC (yE  (trivial) (sF O) sr)
 ·intro hJ
  refine q1 (C_ [(0,true),(2,true),(1,false),(3,false),(4,true),(5,true)] sr (Es 2 CF O (Es 1 CF O (zN O (z8 (V:=λb4=>(qz (jk b4) (nw a) ((Ax a).length))) (T:=89) (cs:=Am (Ax a)) (AK O) (Ao (args:=[(aG (AV a))]) O O call152) (λw hw=>Da a Z w) O (BE O) λb4=>zG (sl sr) (zN O (z8 (V:=λb5=>(qz (jk b5) (nw b) ((Ax b).length))) (T:=89) (cs:=Am (Ax b)) (AK O) (Ao (args:=[(aG (AV b))]) O O call152) (λw hw=>Da b Z w) O (BE O) λb5=>zG (sl (sl sr)) (pS' O (pS' O ?_)))))))))
  refine zQ (zB (sL [2,3,4,7,8] O) (q1 (q4 (AM O (AC (v:=(vN (nw a))) (AE O underlying220) O (AM O (AC (v:=(vN (nw b))) (AE O underlying220) O (AC (Aa (c:=(decide ((nw a)<(nw b)))) O O (DF (a:=nw a) (b:=nw b))) O (oNl' (zB (sL [2,3,4,7,8,41] O) (zA ?_)))))))))))
  refine zL O (λhc2=>?_) (λhc2=>?_)
  ·replace hc2:=xU hc2
   refine zD (AM O (AM O (asg' O (asg' O (q3 (sL [2,3,4,7,8] O) (AM O (AC (v:=(vN (nw b))) (AE O underlying220) O (AC (AR (c:=(((nw b)+1:Nat):Int)) O O (AS (a:=nw b) (b:=1) Z)) O (ze (V:=λb6=>(qz (jk b6) ((nw b)+1) ((nw b)+1))) (T:=89) (cs:=Am (List.replicate ((nw b)+1) 0)) (AK O) (DQ (m:=(nw b)+1) (c:=(nw b)+1) O O Z Z) O (BE O) λb6=>asg' O (q3 (sL [2,3,4,7,8,9] O) ?_))))))))))
   refine AM O (AM O (yk (i:=0) (j:=1) (ns:=Am (AN b)) (cs':=Am (AN b++(List.replicate (nw b+1) 0).drop (AN b).length)) (L':=[AX b6 89 (Am (AN b++(List.replicate (nw b+1) 0).drop (AN b).length)),AX b5 89 (Am (Ax b)),AX b4 89 (Am (Ax a)),AX b3 62 (AV 0),AX b2 62 (AV b),AX b1 62 (AV a)]) O (AK O) O O O O (by rw [NQ,Ir]) (BR _) (Pf _) Z (by rw [BR];simp;try omega) (Pg _ _) O (BE O) (q3 (sL [2,3,4,7,8,9] O) (asg' O (oNl' (q1 (q4 (AM O (AC (v:=(vN ((nw b)+1))) (AE O underlying220) O (AM O (oNl' ?_)))))))))))
   refine zB (sL [2,3,4,7,8,9,10,52,53] O) (zA (zI ?_))
   refine yQ (tg λ(i:Nat) (os:List Nat) (c:Nat)=>i<=nw b+1/\os.length=nw b+1/\W32 os/\c<=1/\val os+c*4294967296^i=b+val ((AN a).take i)) (tg λ(i:Nat) (os:List Nat) (c:Nat)=>[(4,(pP b3 0)),(8,(qz (jk b4) (nw a) ((Ax a).length))),(9,(qz (jk b6) ((nw b)+1) ((nw b)+1))),(52,(vN ((nw b)+1))),(53,(vN i)),(10,(vK .u32 c))]) (tg λ(i:Nat) (os:List Nat) (c:Nat)=>[AX b6 89 (Am os),AX b5 89 (Am (Ax b)),AX b4 89 (Am (Ax a)),AX b3 62 (AV 0),AX b2 62 (AV b),AX b1 62 (AV a)]) (tg λ(i:Nat) (os:List Nat) (c:Nat)=>nw b+1-i) 0 (AN b++(List.replicate (nw b+1) 0).drop (AN b).length) 0 (⟨xK _,(Fz b 1).1,(Fz b 1).2.1,Z,by rw [(Fz b 1).2.2];simp [val]⟩) (sF O) sr (λi os c hJ=>?_)
   obtain ⟨hi,hl,hw32,hcc,hv⟩:=hJ
   refine q4 (AC (Aa (c:=(decide (i<((nw b)+1)))) O O (DF (a:=i) (b:=(nw b)+1))) O (oNl' (q1 ?_)))
   refine zL O (λhc3=>?_) (λhc3=>?_)
   ·replace hc3:=xU hc3
    refine zC (q1 (zI (q4 (AM O (asg' O (q3 (sL [4,8,9,52,53,10,11] O) (asg' O (oNl' (q1 (q4 (AM O ?_)))))))))))
    refine AM O (AC (v:=(vN (nw a))) (AE O underlying220) O (AC (Aa (c:=(decide (i<(nw a)))) O O (DF (a:=i) (b:=nw a))) O (oNl' (zB (sL [4,8,9,52,53,10,11,12,59] O) (zA ?_)))))
    refine yb (tg True) (tg [(4,(pP b3 0)),(8,(qz (jk b4) (nw a) ((Ax a).length))),(9,(qz (jk b6) ((nw b)+1) ((nw b)+1))),(52,(vN ((nw b)+1))),(53,(vN i)),(10,(vK .u32 c)),(11,(vN i)),(12,(vK .u32 ((AN a).getD i 0)))]) (tg [AX b6 89 (Am os),AX b5 89 (Am (Ax b)),AX b4 89 (Am (Ax a)),AX b3 62 (AV 0),AX b2 62 (AV b),AX b1 62 (AV a)]) ?_ ?_
    ·refine zL O (λhc4=>?_) (λhc4=>?_)
     ·replace hc4:=xU hc4
      refine zD (AM O (AM O (AC (v:=(pP b4 i)) (AH (j:=i) O O underlying220 sizeOf89 O Z jX) O ?_)))
      have hx1:(Ax a).getD i 0<4294967296:=W32.getD (Ca a) i
      exact AC (AD (i:=2) (v:=(vK .u32 ((Ax a).getD i 0))) O O isAgg89 (BH (xs:=Ax a) (j:=i) Z)) O (zK (k:=63) (u:=(vK .u32 ((AN a).getD i 0))) O (by rw [Dq hc4]) (asg' O (oNl' (zB (sL [4,8,9,52,53,10,11,12] O) (yE  (trivial) (sF O) sr)))))
     ·replace hc4:=xT hc4
      exact zC (yS (k:=12) (u:=Value.int .u32 (((AN a).getD i 0:Nat):Int)) O (by rw [Er hc4];rfl) (yE  (trivial) (sF O) sr))
    ·intro hJ
     refine zA (zD (AM O (AM O (AM O (AM O (AC (v:=(pP b6 i)) (AH (j:=i) O O underlying220 sizeOf89 O Z jX) O ?_))))))
     have hx2:os.getD i 0<4294967296:=W32.getD hw32 i
     refine AC (AD (i:=0) (v:=(vK .u32 (os.getD i 0))) O O isAgg89 (BH (xs:=os) (j:=i) Z)) O (AM O (AM O ?_))
     have hya:=(Bt a).getD i
     have hyb:=(Bt b).getD i
     refine ck' call207 (Km (os.getD i 0) ((AN a).getD i 0) c Z Z Z) O (AM O (AC (AJ (v:=(vK .u32 (((os.getD i 0)+((AN a).getD i 0)+c)%4294967296))) O O) O (AC (AJ (v:=(vK .u32 (((os.getD i 0)+((AN a).getD i 0)+c)/4294967296))) O O) O (AC (v:=(pP b6 i)) (AH (j:=i) O O underlying220 sizeOf89 O Z jX) O (zo (i:=0) (off:=i) (vs:=[(vK .u32 (((os.getD i 0)+((AN a).getD i 0)+c)%4294967296))]) (cs':=Am (os.set i (((os.getD i 0)+((AN a).getD i 0)+c)%4294967296))) (L':=[AX b6 89 (Am (os.set i (((os.getD i 0)+((AN a).getD i 0)+c)%4294967296))),AX b5 89 (Am (Ax b)),AX b4 89 (Am (Ax a)),AX b3 62 (AV 0),AX b2 62 (AV b),AX b1 62 (AV a)]) (AK O) O O O O O sizeOf89 O (Cq (BR _) Z) (CN Z) O (asg' O (oNl' (zB (sL [4,8,9,52,53,10,11,12] O) (zF (zA (zD ?_)))))))))))
     exact AC (AR (c:=((i+1:Nat):Int)) O O (AS (a:=i) (b:=1) Z)) O (AM O (oNl' (zB (sL [4,8,9,52,53,10,11,12] O) (yL (i+1) (os.set i ((os.getD i 0+(AN a).getD i 0+c)%4294967296)) ((os.getD i 0+(AN a).getD i 0+c)/4294967296) (⟨Z,by rw [List.length_set];exact hl,W32.set hw32 Z i,Z,On hl hc3 hv⟩) Z (sF O) sr))))
   ·replace hc3:=xT hc3
    refine zU (zO (yA (zR (q2 (AM O (C7 call181 (λw hw=>Jr _ ((nw b)+1) ((nw b)+1) os hw32 (by first|omega|(rw [rowN_length];omega)|simp|(simp;omega)) (by first|omega|simp|(simp;omega)) (by first|omega|simp|(simp;omega)) w (hw.get (i:=0) O)) O (zK (k:=79) (u:=(aG (AV (a+b)))) O (by rw [List.take_of_length_le (show os.length<=nw b+1 by omega),Om (X:=b) (Y:=a) (c:=c) (i:=i) hl hw32 Z (Wg Z) (by rw [hv,DZ Z]),Nat.add_comm]) (Gc O sizeOf62 O (oNl' (zB (sL [4,8,9,52,53,10] O) (zA ?_)))))))))))
    exact zH (ret_one O (Ap (i:=3) (cs:=AV (a+b)) O O isAgg62 sizeOf62 O) (λw hw=>⟨rfl,hw.out⟩))
  ·replace hc2:=xT hc2
   refine zC (q2 (AM O (AC (v:=(vN (nw a))) (AE O underlying220) O (AC (AR (c:=(((nw a)+1:Nat):Int)) O O (AS (a:=nw a) (b:=1) Z)) O (ze (V:=λb6=>(qz (jk b6) ((nw a)+1) ((nw a)+1))) (T:=89) (cs:=Am (List.replicate ((nw a)+1) 0)) (AK O) (DQ (m:=(nw a)+1) (c:=(nw a)+1) O O Z Z) O (BE O) λb6=>asg' O (q3 (sL [2,3,4,7,8,9] O) (AM O (AM O (yk (i:=0) (j:=2) (ns:=Am (AN a)) (cs':=Am (AN a++(List.replicate (nw a+1) 0).drop (AN a).length)) (L':=[AX b6 89 (Am (AN a++(List.replicate (nw a+1) 0).drop (AN a).length)),AX b5 89 (Am (Ax b)),AX b4 89 (Am (Ax a)),AX b3 62 (AV 0),AX b2 62 (AV b),AX b1 62 (AV a)]) O (AK O) O O O O (by rw [NQ,Ir]) (BR _) (Pf _) Z (by rw [BR];simp;try omega) (Pg _ _) O (BE O) (q3 (sL [2,3,4,7,8,9] O) ?_))))))))))
   refine asg' O (oNl' (q1 (q4 (AM O (AC (v:=(vN ((nw a)+1))) (AE O underlying220) O (AM O (oNl' (zB (sL [2,3,4,7,8,9,10,52,53] O) (zA (zI ?_))))))))))
   refine yQ (tg λ(i:Nat) (os:List Nat) (c:Nat)=>i<=nw a+1/\os.length=nw a+1/\W32 os/\c<=1/\val os+c*4294967296^i=a+val ((AN b).take i)) (tg λ(i:Nat) (os:List Nat) (c:Nat)=>[(4,(pP b3 0)),(8,(qz (jk b5) (nw b) ((Ax b).length))),(9,(qz (jk b6) ((nw a)+1) ((nw a)+1))),(52,(vN ((nw a)+1))),(53,(vN i)),(10,(vK .u32 c))]) (tg λ(i:Nat) (os:List Nat) (c:Nat)=>[AX b6 89 (Am os),AX b5 89 (Am (Ax b)),AX b4 89 (Am (Ax a)),AX b3 62 (AV 0),AX b2 62 (AV b),AX b1 62 (AV a)]) (tg λ(i:Nat) (os:List Nat) (c:Nat)=>nw a+1-i) 0 (AN a++(List.replicate (nw a+1) 0).drop (AN a).length) 0 (⟨xK _,(Fz a 1).1,(Fz a 1).2.1,Z,by rw [(Fz a 1).2.2];simp [val]⟩) (sF O) sr (λi os c hJ=>?_)
   obtain ⟨hi,hl,hw32,hcc,hv⟩:=hJ
   refine q4 (AC (Aa (c:=(decide (i<((nw a)+1)))) O O (DF (a:=i) (b:=(nw a)+1))) O (oNl' (q1 ?_)))
   refine zL O (λhc3=>?_) (λhc3=>?_)
   ·replace hc3:=xU hc3
    refine zC (q1 (zI (q4 (AM O (asg' O (q3 (sL [4,8,9,52,53,10,11] O) (asg' O (oNl' (q1 (q4 (AM O ?_)))))))))))
    refine AM O (AC (v:=(vN (nw b))) (AE O underlying220) O (AC (Aa (c:=(decide (i<(nw b)))) O O (DF (a:=i) (b:=nw b))) O (oNl' (zB (sL [4,8,9,52,53,10,11,12,59] O) (zA ?_)))))
    refine yb (tg True) (tg [(4,(pP b3 0)),(8,(qz (jk b5) (nw b) ((Ax b).length))),(9,(qz (jk b6) ((nw a)+1) ((nw a)+1))),(52,(vN ((nw a)+1))),(53,(vN i)),(10,(vK .u32 c)),(11,(vN i)),(12,(vK .u32 ((AN b).getD i 0)))]) (tg [AX b6 89 (Am os),AX b5 89 (Am (Ax b)),AX b4 89 (Am (Ax a)),AX b3 62 (AV 0),AX b2 62 (AV b),AX b1 62 (AV a)]) ?_ ?_
    ·refine zL O (λhc4=>?_) (λhc4=>?_)
     ·replace hc4:=xU hc4
      refine zD (AM O (AM O (AC (v:=(pP b5 i)) (AH (j:=i) O O underlying220 sizeOf89 O Z jX) O ?_)))
      have hx3:(Ax b).getD i 0<4294967296:=W32.getD (Ca b) i
      exact AC (AD (i:=1) (v:=(vK .u32 ((Ax b).getD i 0))) O O isAgg89 (BH (xs:=Ax b) (j:=i) Z)) O (zK (k:=63) (u:=(vK .u32 ((AN b).getD i 0))) O (by rw [Dq hc4]) (asg' O (oNl' (zB (sL [4,8,9,52,53,10,11,12] O) (yE  (trivial) (sF O) sr)))))
     ·replace hc4:=xT hc4
      exact zC (yS (k:=12) (u:=Value.int .u32 (((AN b).getD i 0:Nat):Int)) O (by rw [Er hc4];rfl) (yE  (trivial) (sF O) sr))
    ·intro hJ
     refine zA (zD (AM O (AM O (AM O (AM O (AC (v:=(pP b6 i)) (AH (j:=i) O O underlying220 sizeOf89 O Z jX) O ?_))))))
     have hx4:os.getD i 0<4294967296:=W32.getD hw32 i
     refine AC (AD (i:=0) (v:=(vK .u32 (os.getD i 0))) O O isAgg89 (BH (xs:=os) (j:=i) Z)) O (AM O (AM O ?_))
     have hya:=(Bt a).getD i
     have hyb:=(Bt b).getD i
     refine ck' call207 (Km (os.getD i 0) ((AN b).getD i 0) c Z Z Z) O (AM O (AC (AJ (v:=(vK .u32 (((os.getD i 0)+((AN b).getD i 0)+c)%4294967296))) O O) O (AC (AJ (v:=(vK .u32 (((os.getD i 0)+((AN b).getD i 0)+c)/4294967296))) O O) O (AC (v:=(pP b6 i)) (AH (j:=i) O O underlying220 sizeOf89 O Z jX) O (zo (i:=0) (off:=i) (vs:=[(vK .u32 (((os.getD i 0)+((AN b).getD i 0)+c)%4294967296))]) (cs':=Am (os.set i (((os.getD i 0)+((AN b).getD i 0)+c)%4294967296))) (L':=[AX b6 89 (Am (os.set i (((os.getD i 0)+((AN b).getD i 0)+c)%4294967296))),AX b5 89 (Am (Ax b)),AX b4 89 (Am (Ax a)),AX b3 62 (AV 0),AX b2 62 (AV b),AX b1 62 (AV a)]) (AK O) O O O O O sizeOf89 O (Cq (BR _) Z) (CN Z) O (asg' O (oNl' (zB (sL [4,8,9,52,53,10,11,12] O) (zF (zA (zD ?_)))))))))))
     exact AC (AR (c:=((i+1:Nat):Int)) O O (AS (a:=i) (b:=1) Z)) O (AM O (oNl' (zB (sL [4,8,9,52,53,10,11,12] O) (yL (i+1) (os.set i ((os.getD i 0+(AN b).getD i 0+c)%4294967296)) ((os.getD i 0+(AN b).getD i 0+c)/4294967296) (⟨Z,by rw [List.length_set];exact hl,W32.set hw32 Z i,Z,On hl hc3 hv⟩) Z (sF O) sr))))
   ·replace hc3:=xT hc3
    refine zU (zO (yA (zR (q2 (AM O (C7 call181 (λw hw=>Jr _ ((nw a)+1) ((nw a)+1) os hw32 (by first|omega|(rw [rowN_length];omega)|simp|(simp;omega)) (by first|omega|simp|(simp;omega)) (by first|omega|simp|(simp;omega)) w (hw.get (i:=0) O)) O (zK (k:=79) (u:=(aG (AV (a+b)))) O (by rw [List.take_of_length_le (show os.length<=nw a+1 by omega),Om (X:=a) (Y:=b) (c:=c) (i:=i) hl hw32 Z (Wg Z) (by rw [hv,DZ Z])]) (Gc O sizeOf62 O (oNl' (zB (sL [4,8,9,52,53,10] O) (zA ?_)))))))))))
    exact zH (ret_one O (Ap (i:=3) (cs:=AV (a+b)) O O isAgg62 sizeOf62 O) (λw hw=>⟨rfl,hw.out⟩))
end
section
set_option maxRecDepth 100000
theorem MT  :Instr.fill ([(0,1),(1,1)].toArray[·]?) (AV 0).toArray []=some (AV 0).toArray:=by kernel_rfl
theorem P1 (a b:Nat) (ha:nw a<=1099511627776) (hb:nw b<=1099511627776) (w:World)  :Calls prog 179 #[(aG (AV a)),(aG (AV b))] w (Ag w (Value.tuple #[(aG (AV (a-b))),(qa (decide (b<=a)))])):=by
 have hla:=CV a
 have hlb:=CV b
 have hpa:=Ye a
 refine AW (args:=[(aG (AV a)),(aG (AV b))]) func179 O O (BE O) (zM (sL [0,1] O) (q4 (BZ (cs:=AV a) O λb1=>BZ (cs:=AV b) O λb2=>al GZ O λb3=>asg' O (q6 (sL [2,3,4,5] O) (q4 (Ai 2 CF O (Ai 1 CF O (ck' call223 (Tm a b Z Z) O ?_))))))))
 refine AC (Aa (c:=(decide ((Fy a b)<(0:Int)))) O O O) O (oNl' (zB (sL [2,3,4,5,14] O) (zA ?_)))
 refine zL O (λhc0=>?_) (λhc0=>?_)
 ·replace hc0:=xU hc0
  rw [KE] at hc0
  exact q4 (AC (v:=(aG (AV 0))) (AT (zs:=AV 0) (vs:=AV 0) (pv:=[]) (places:=[(0,1),(1,1)]) zeroValue62 underlying62 (λw=>by simp [sizeOf9,sizeOf60]) O (MT )) O (zK (k:=15) (u:=(aG (AV (a-b)))) O (by rw [show a-b=0 by omega]) (Ah O sizeOf62 O (asg' O (oNl' (zB (sL [2,3,4,5] O) (zA (zH (zJ (Bu O (Ap (i:=0) (cs:=AV (a-b)) O O isAgg62 sizeOf62 O) (rd_tmp (v:=(qa false)) O) (λw hw=>⟨by rw [xI (show ¬b<=a by omega)],hw.out⟩)))))))))))
 ·replace hc0:=xT hc0
  rw [KE] at hc0
  have hnb:nw b<=nw a:=Dr Z
  refine zC (q1 (q4 (AC (v:=(pP b1 1)) (AA O underlying62 O sizeOf9 O) O (BA 2 (Value.string (Bo a)) Tj O (AC (Bj (c:=(decide (a<18446744073709551616))) O O Cm) O (oNl' (zB (sL [2,3,4,5,18] O) (zA ?_))))))))
  refine zL O (λhc1=>?_) (λhc1=>?_)
  ·replace hc1:=xU hc1
   refine q4 (AC (v:=(pP b1 0)) (AA O underlying62 O sizeOf60 O) O (BA 2 (vK .u64 (CD a)) G9 O (zK (k:=20) (u:=(vK .u64 a)) O (by rw [Bh hc1]) (AC (v:=(pP b2 0)) (AA O underlying62 O sizeOf60 O) O (BA 1 (vK .u64 (CD b)) G9 O (zK (k:=22) (u:=(vK .u64 b)) O (by rw [Bh Z]) (AC (Bp (c:=((a-b:Nat):Int)) O O (Ix (a:=a) (b:=b) Z Z)) O (AC (v:=(aG ([(vK .u64 (a-b)),(Value.string (Bo 0))]))) (AT (zs:=AV 0) (vs:=[(vK .u64 (a-b)),(Value.string (Bo 0))]) (pv:=[(0,(vK .u64 (a-b)))]) (places:=[(0,1),(1,1)]) zeroValue62 underlying62 (λw=>by simp [sizeOf9,sizeOf60]) O O) O (zK (k:=24) (u:=(aG (AV (a-b)))) O (by rw [Dt Z];rfl) (Ah O sizeOf62 O (asg' O ?_)))))))))))
   exact oNl' (zB (sL [2,3,4,5] O) (zA (zH (zJ (Bu O (Ap (i:=0) (cs:=AV (a-b)) O O isAgg62 sizeOf62 O) (rd_tmp (v:=(qa true)) O) (λw hw=>⟨by rw [xJ (show b<=a by omega)],hw.out⟩))))))
  ·replace hc1:=xT hc1
   have hpad:Ax a=AN a:=if_neg hc1
   refine zC (q1 (C_ [(0,true),(2,true),(1,false),(3,false),(4,true),(5,true)] sr (Es 2 CF O (Es 1 CF O (zN O (z8 (V:=λb4=>(qz (jk b4) (nw a) ((Ax a).length))) (T:=89) (cs:=Am (Ax a)) (AK O) (Ao (args:=[(aG (AV a))]) O O call152) (λw hw=>Da a Z w) O (BE O) λb4=>zG (sl sr) (zN O (z8 (V:=λb5=>(qz (jk b5) (nw b) ((Ax b).length))) (T:=89) (cs:=Am (Ax b)) (AK O) (Ao (args:=[(aG (AV b))]) O O call152) (λw hw=>Da b Z w) O (BE O) λb5=>zG (sl (sl sr)) (pS' O ?_)))))))))
   refine pS' O (zQ (zB (sL [2,3,4,5,6,7] O) (q2 (asg' O (oNl' (q1 (q4 (AM O (AC (v:=(vN (nw a))) (AE O underlying220) O (AM O (oNl' ?_)))))))))))
   refine zB (sL [2,3,4,5,6,7,8,30,31] O) (zA (zI ?_))
   refine yQ (tg λ(i:Nat) (os:List Nat) (c:Nat)=>i<=nw a/\os.length=nw a/\W32 os/\c<=1/\val os+val ((AN b).take i)=a+c*4294967296^i) (tg λ(i:Nat) (os:List Nat) (c:Nat)=>[(4,(pP b3 0)),(5,(qa false)),(6,(qz (jk b4) (nw a) ((Ax a).length))),(7,(qz (jk b5) (nw b) ((Ax b).length))),(30,(vN (nw a))),(31,(vN i)),(8,(vK .u32 c))]) (tg λ(i:Nat) (os:List Nat) (c:Nat)=>[AX b5 89 (Am (Ax b)),AX b4 89 (Am os),AX b3 62 (AV 0),AX b2 62 (AV b),AX b1 62 (AV a)]) (tg λ(i:Nat) (os:List Nat) (c:Nat)=>nw a-i) 0 (Ax a) 0 (⟨xK _,by rw [hpad];rfl,Ca a,Z,by rw [SA];simp [val]⟩) (sF O) sr (λi os c hJ=>?_)
   obtain ⟨hi,hl,hw32,hcc,hv⟩:=hJ
   refine q4 (AC (Aa (c:=(decide (i<(nw a)))) O O (DF (a:=i) (b:=nw a))) O (oNl' (q1 ?_)))
   refine zL O (λhc2=>?_) (λhc2=>?_)
   ·replace hc2:=xU hc2
    refine zC (q1 (zI (q4 (AM O (asg' O (q3 (sL [4,5,6,7,30,31,8,9] O) (asg' O (oNl' (q1 (q4 (AM O ?_)))))))))))
    refine AM O (AC (v:=(vN (nw b))) (AE O underlying220) O (AC (Aa (c:=(decide (i<(nw b)))) O O (DF (a:=i) (b:=nw b))) O (oNl' (zB (sL [4,5,6,7,30,31,8,9,10,37] O) (zA ?_)))))
    refine yb (tg True) (tg [(4,(pP b3 0)),(5,(qa false)),(6,(qz (jk b4) (nw a) ((Ax a).length))),(7,(qz (jk b5) (nw b) ((Ax b).length))),(30,(vN (nw a))),(31,(vN i)),(8,(vK .u32 c)),(9,(vN i)),(10,(vK .u32 ((AN b).getD i 0)))]) (tg [AX b5 89 (Am (Ax b)),AX b4 89 (Am os),AX b3 62 (AV 0),AX b2 62 (AV b),AX b1 62 (AV a)]) ?_ ?_
    ·refine zL O (λhc3=>?_) (λhc3=>?_)
     ·replace hc3:=xU hc3
      refine zD (AM O (AM O (AC (v:=(pP b5 i)) (AH (j:=i) O O underlying220 sizeOf89 O Z jX) O ?_)))
      have hx1:(Ax b).getD i 0<4294967296:=W32.getD (Ca b) i
      exact AC (AD (i:=0) (v:=(vK .u32 ((Ax b).getD i 0))) O O isAgg89 (BH (xs:=Ax b) (j:=i) Z)) O (zK (k:=41) (u:=(vK .u32 ((AN b).getD i 0))) O (by rw [Dq hc3]) (asg' O (oNl' (zB (sL [4,5,6,7,30,31,8,9,10] O) (yE  (trivial) (sF O) sr)))))
     ·replace hc3:=xT hc3
      exact zC (yS (k:=10) (u:=Value.int .u32 (((AN b).getD i 0:Nat):Int)) O (by rw [Er hc3];rfl) (yE  (trivial) (sF O) sr))
    ·intro hJ
     refine zA (zD (AM O (AM O (AM O (AM O (AC (v:=(pP b4 i)) (AH (j:=i) O O underlying220 sizeOf89 O Z jX) O ?_))))))
     have hx2:os.getD i 0<4294967296:=W32.getD hw32 i
     refine AC (AD (i:=1) (v:=(vK .u32 (os.getD i 0))) O O isAgg89 (BH (xs:=os) (j:=i) Z)) O (AM O (AM O ?_))
     have hyb:=(Bt b).getD i
     refine ck' call225 (Lx (os.getD i 0) ((AN b).getD i 0) c _ Z Z Z O) O (AM O (AC (AJ (v:=(vK .u32 (((os.getD i 0)+(4294967296-((AN b).getD i 0))+(4294967296-c))%4294967296))) O O) O (AC (AJ (v:=(vK .u32 (Jf (os.getD i 0) (((AN b).getD i 0)+c)))) O O) O (AC (v:=(pP b4 i)) (AH (j:=i) O O underlying220 sizeOf89 O Z jX) O (zo (i:=1) (off:=i) (vs:=[(vK .u32 (((os.getD i 0)+(4294967296-((AN b).getD i 0))+(4294967296-c))%4294967296))]) (cs':=Am (os.set i (((os.getD i 0)+(4294967296-((AN b).getD i 0))+(4294967296-c))%4294967296))) (L':=[AX b5 89 (Am (Ax b)),AX b4 89 (Am (os.set i (((os.getD i 0)+(4294967296-((AN b).getD i 0))+(4294967296-c))%4294967296))),AX b3 62 (AV 0),AX b2 62 (AV b),AX b1 62 (AV a)]) (AK O) O O O O O sizeOf89 O (Cq (BR _) Z) (CN Z) O (asg' O (oNl' (zB (sL [4,5,6,7,30,31,8,9,10] O) (zF (zA (zD ?_)))))))))))
     exact AC (AR (c:=((i+1:Nat):Int)) O O (AS (a:=i) (b:=1) Z)) O (AM O (oNl' (zB (sL [4,5,6,7,30,31,8,9,10] O) (yL (i+1) (os.set i ((os.getD i 0+(4294967296-(AN b).getD i 0)+(4294967296-c))%4294967296)) (Jf (os.getD i 0) ((AN b).getD i 0+c)) (⟨Z,by rw [List.length_set];exact hl,W32.set hw32 Z i,P5 _ _,Wf hl hc2 hw32 (Bt b) hcc hv⟩) Z (sF O) sr))))
   ·replace hc2:=xT hc2
    refine zU (zO (yA (zR (q2 (AM O (C7 call181 (λw hw=>Jr _ (nw a) ((Ax a).length) os hw32 (by first|omega|(rw [rowN_length];omega)|simp|(simp;omega)) (by first|omega|simp|(simp;omega)) (by first|omega|simp|(simp;omega)) w (hw.get (i:=1) O)) O (zK (k:=57) (u:=(aG (AV (a-b)))) O (by rw [List.take_of_length_le (show os.length<=nw a by omega),We (X:=a) (Y:=b) (n:=nw a) (c:=c) (i:=i) hl hw32 Z Z (by rw [<-hv,DZ Z]) (CE a)]) (Lv O sizeOf62 O (asg' O (oNl' (zB (sL [4,5,6,7,30,31,8] O) ?_)))))))))))
    exact zA (zH (Bu O (Ap (i:=2) (cs:=AV (a-b)) O O isAgg62 sizeOf62 O) (rd_tmp (v:=(qa true)) O) (λw hw=>⟨by rw [xJ (show b<=a by omega)],hw.out⟩)))
theorem Pz (a b:Nat) (ha:nw a<=1099511627776) (hb:nw b<=1099511627776) (w:World)  :Calls prog 125 #[(aG (AV a)),(aG (AV b))] w (Ag w (aG (AV (a*b)))):=by
 have hla:=CV a
 have hlb:=CV b
 refine AW (args:=[(aG (AV a)),(aG (AV b))]) func125 O O (BE O) (zM (sL [0,1] O) (q4 (BZ (cs:=AV a) O λb1=>BZ (cs:=AV b) O λb2=>al GZ O λb3=>q6 (sL [2,3,4] O) (q4 (AC (v:=(pP b1 1)) (AA O underlying62 O sizeOf9 O) O (BA 2 (Value.string (Bo a)) Tj O (AC (Bj (c:=(decide (a<18446744073709551616))) O O Cm) O (AM O ?_))))))))
 refine zi (FM:=[(2,(pP b1 0)),(3,(pP b2 0)),(4,(pP b3 0)),(15,(pP b1 1)),(16,(Value.string (Bo a))),(17,(qa (decide (a<18446744073709551616)))),(18,(qa (decide (a<18446744073709551616)))),(22,(qa ((decide (a<18446744073709551616))&&(decide (b<18446744073709551616)))))]) (LM:=[AX b3 62 (AV 0),AX b2 62 (AV b),AX b1 62 (AV a)]) 4 ?_ ?_
 ·rcases xR (decide (a<18446744073709551616)) with hg1|hg1
  ·refine zK (k:=18) (u:=qa true) O (by rw [hg1]) ?_
   have hg1':=xU hg1
   exact Av (v:=(pP b2 1)) O (AA O underlying62 O sizeOf9 O) (Av (v:=(Value.string (Bo b))) O (AD (i:=1) (v:=(Value.string (Bo b))) O O Tj.a O) (Av (v:=(qa (decide (b<18446744073709551616)))) O (Bj (c:=(decide (b<18446744073709551616))) O O Cm) (AC (v:=(qa (decide (b<18446744073709551616)))) (AQ O O) O (oNl' (zT Cc (xS _))))))
  ·refine zK (k:=18) (u:=qa false) O (by rw [hg1]) ?_
   have hg1':=xT hg1
   exact BD O (BD O (BD O (AC (v:=(qa false)) (AL O O) O (oNl' (zT Cc (xS _))))))
 refine oNl' (zB (sL [2,3,4,22] O) (zA ?_))
 refine zL O (λhc0=>?_) (λhc0=>?_)
 ·simp only [jK] at hc0
  refine q4 (AC (v:=(pP b1 0)) (AA O underlying62 O sizeOf60 O) O (BA 2 (vK .u64 (CD a)) G9 O (zK (k:=25) (u:=(vK .u64 a)) O (by rw [Bh hc0.1]) (AC (v:=(pP b2 0)) (AA O underlying62 O sizeOf60 O) O (BA 1 (vK .u64 (CD b)) G9 O ?_)))))
  have hhi:a*b/18446744073709551616<18446744073709551616:=Nat.div_lt_of_lt_mul (Nat.mul_lt_mul'' hc0.1 hc0.2)
  refine zK (k:=27) (u:=(vK .u64 b)) O (by rw [Bh hc0.2]) (ck' call180 (Vk a b Z Z) O (AM O (AC (AJ (v:=(vK .u64 (a*b/18446744073709551616))) O O) O (AC (AJ (v:=(vK .u64 (a*b%18446744073709551616))) O O) O (asg' O (asg' O (q3 (sL [2,3,4,5,6] O) (AM O (AC (Ar (c:=(((a*b%18446744073709551616)%4294967296:Nat):Int)) O underlying60 underlying89 Ee) O (AM O (AC (C4 (s:=32) (c:=(((a*b%18446744073709551616)/4294967296:Nat):Int)) O O O jY (GW (a:=a*b%18446744073709551616) (s:=32))) O ?_)))))))))))
  refine AC (Ar (c:=(((a*b%18446744073709551616)/4294967296:Nat):Int)) O underlying60 underlying89 (Cg Z)) O (AM O (AC (Ar (c:=(((a*b/18446744073709551616)%4294967296:Nat):Int)) O underlying60 underlying89 Ee) O (AM O (AC (C4 (s:=32) (c:=(((a*b/18446744073709551616)/4294967296:Nat):Int)) O O O jY (GW (a:=a*b/18446744073709551616) (s:=32))) O (AC (Ar (c:=(((a*b/18446744073709551616)/4294967296:Nat):Int)) O underlying60 underlying89 (Cg Z)) O (ze (V:=λb4=>(qz (jk b4) 4 4)) (T:=89) (cs:=Am ([(a*b%18446744073709551616)%4294967296,(a*b%18446744073709551616)/4294967296,(a*b/18446744073709551616)%4294967296,(a*b/18446744073709551616)/4294967296])) (AK O) (A7 (cs:=Am ([(a*b%18446744073709551616)%4294967296,(a*b%18446744073709551616)/4294967296,(a*b/18446744073709551616)%4294967296,(a*b/18446744073709551616)/4294967296])) (pv:=[(0,(vK .u32 ((a*b%18446744073709551616)%4294967296))),(1,(vK .u32 ((a*b%18446744073709551616)/4294967296))),(2,(vK .u32 ((a*b/18446744073709551616)%4294967296))),(3,(vK .u32 ((a*b/18446744073709551616)/4294967296)))]) underlying220 sizeOf89 zeroValue89 jY jY O jV) O (BE O) λb4=>C7 call181 (λw hw=>Jr _ 4 4 ([(a*b%18446744073709551616)%4294967296,(a*b%18446744073709551616)/4294967296,(a*b/18446744073709551616)%4294967296,(a*b/18446744073709551616)/4294967296]) (W32.cons Z (W32.cons Z (W32.cons Z (W32.cons Z (W32.nil))))) (by first|omega|(rw [rowN_length];omega)|simp|(simp;omega)) (by first|omega|simp|(simp;omega)) (by first|omega|simp|(simp;omega)) w (hw.get (i:=0) O)) O (zK (k:=42) (u:=(aG (AV (a*b)))) O (by rw [show ∀x y z t:Nat,[x,y,z,t].take 4=[x,y,z,t] from λ_ _ _ _=>rfl,a8 Z hhi,show a*b%18446744073709551616+a*b/18446744073709551616*18446744073709551616=a*b by omega]) (CS O sizeOf62 O (oNl' (zB (sL [2,3,4] O) ?_))))))))))
  exact zA (zH (zJ (ret_one O (Ap (i:=1) (cs:=AV (a*b)) O O isAgg62 sizeOf62 O) (λw hw=>⟨rfl,hw.out⟩))))
 ·simp only [jK] at hc0
  refine zC (q1 (C_ [(0,true),(2,true),(1,false),(3,false),(4,true),(5,true)] sr (Es 2 CF O (Es 1 CF O (zN O (z8 (V:=λb4=>(qz (jk b4) (nw a) ((Ax a).length))) (T:=89) (cs:=Am (Ax a)) (AK O) (Ao (args:=[(aG (AV a))]) O O call152) (λw hw=>Da a Z w) O (BE O) λb4=>zG (sl sr) (zN O (z8 (V:=λb5=>(qz (jk b5) (nw b) ((Ax b).length))) (T:=89) (cs:=Am (Ax b)) (AK O) (Ao (args:=[(aG (AV b))]) O O call152) (λw hw=>Da b Z w) O (BE O) λb5=>zG (sl (sl sr)) (pS' O ?_)))))))))
  refine pS' O (zQ (zB (sL [2,3,4,7,8] O) (q2 (AM O (AC (v:=(vN (nw a))) (AE O underlying220) O (AM O (AC (v:=(vN (nw b))) (AE O underlying220) O (AC (AR (c:=(((nw a)+(nw b):Nat):Int)) O O (AS (a:=nw a) (b:=nw b) Z)) O (ze (V:=λb6=>(qz (jk b6) ((nw a)+(nw b)) ((nw a)+(nw b)))) (T:=89) (cs:=Am (List.replicate ((nw a)+(nw b)) 0)) (AK O) (DQ (m:=(nw a)+(nw b)) (c:=(nw a)+(nw b)) O O Z Z) O (BE O) λb6=>asg' O (q6 (sL [2,3,4,7,8,9] O) ?_))))))))))
  refine q4 (AM O (AC (v:=(vN (nw a))) (AE O underlying220) O (AM O (oNl' (zA (zI ?_))))))
  refine yG (tg λ(i:Nat) (os:List Nat)=>i<=nw a/\os.length=nw a+nw b/\W32 os/\val os=val ((AN a).take i)*b) (tg λ(i:Nat) (os:List Nat)=>[(4,(pP b3 0)),(8,(qz (jk b5) (nw b) ((Ax b).length))),(9,(qz (jk b6) ((nw a)+(nw b)) ((nw a)+(nw b)))),(53,(qz (jk b4) (nw a) ((Ax a).length))),(54,(vN (nw a))),(55,(vN i))]) (tg λ(i:Nat) (os:List Nat)=>[AX b6 89 (Am os),AX b5 89 (Am (Ax b)),AX b4 89 (Am (Ax a)),AX b3 62 (AV 0),AX b2 62 (AV b),AX b1 62 (AV a)]) (tg λ(i:Nat) (os:List Nat)=>nw a-i) 0 (List.replicate (nw a+nw b) 0) (⟨xK _,by simp,W32.zeros _,by rw [EU];simp [val]⟩) (sF O) sr (λi os hJ=>?_)
  obtain ⟨hi,hl,hw32,hv⟩:=hJ
  refine q4 (AC (Aa (c:=(decide (i<(nw a)))) O O (DF (a:=i) (b:=nw a))) O (oNl' (q1 ?_)))
  refine zL O (λhc1=>?_) (λhc1=>?_)
  ·replace hc1:=xU hc1
   refine zC (q1 (zI (q4 (AM O (AC (v:=(pP b4 i)) (AH (j:=i) O O underlying220 sizeOf89 O Z jX) O ?_)))))
   have hx1:(Ax a).getD i 0<4294967296:=W32.getD (Ca a) i
   refine AC (AD (i:=2) (v:=(vK .u32 ((Ax a).getD i 0))) O O isAgg89 (BH (xs:=Ax a) (j:=i) Z)) O (zK (k:=59) (u:=(vK .u32 ((AN a).getD i 0))) O (by rw [Dq hc1]) (asg' O (asg' O (q3 (sL [4,8,9,53,54,55,10,11] O) (asg' O (oNl' (q1 (q4 (AM O (AC (v:=(vN (nw b))) (AE O underlying220) O (AM O ?_)))))))))))
   refine oNl' (zA (zI ?_))
   refine yQ (tg λ(k:Nat) (xs:List Nat) (c:Nat)=>k<=nw b/\xs.length=nw a+nw b/\W32 xs/\c<4294967296/\(∀j,i+nw b<=j->xs.getD j 0=0)/\val xs+c*4294967296^(i+k)=val ((AN a).take i)*b+(AN a).getD i 0*val ((AN b).take k)*4294967296^i) (tg λ(k:Nat) (xs:List Nat) (c:Nat)=>[(4,(pP b3 0)),(8,(qz (jk b5) (nw b) ((Ax b).length))),(9,(qz (jk b6) ((nw a)+(nw b)) ((nw a)+(nw b)))),(53,(qz (jk b4) (nw a) ((Ax a).length))),(54,(vN (nw a))),(55,(vN i)),(10,(vN i)),(11,(vK .u32 ((AN a).getD i 0))),(60,(qz (jk b5) (nw b) ((Ax b).length))),(61,(vN (nw b))),(62,(vN k)),(12,(vK .u64 c))]) (tg λ(k:Nat) (xs:List Nat) (c:Nat)=>[AX b6 89 (Am xs),AX b5 89 (Am (Ax b)),AX b4 89 (Am (Ax a)),AX b3 62 (AV 0),AX b2 62 (AV b),AX b1 62 (AV a)]) (tg λ(k:Nat) (xs:List Nat) (c:Nat)=>nw b-k) 0 os 0 (⟨xK _,hl,hw32,Z,Q6 hv,by rw [hv];simp [val]⟩) (sF O) sr (λk xs c hJ=>?_)
   obtain ⟨hk,hl2,hw2,hcc,h02,hv2⟩:=hJ
   refine q4 (AC (Aa (c:=(decide (k<(nw b)))) O O (DF (a:=k) (b:=nw b))) O (oNl' (q1 ?_)))
   refine zL O (λhc2=>?_) (λhc2=>?_)
   ·replace hc2:=xU hc2
    refine zC (q1 (zI (q4 (AM O (AC (v:=(pP b5 k)) (AH (j:=k) O O underlying220 sizeOf89 O Z jX) O ?_)))))
    have hx2:(Ax b).getD k 0<4294967296:=W32.getD (Ca b) k
    refine AC (AD (i:=1) (v:=(vK .u32 ((Ax b).getD k 0))) O O isAgg89 (BH (xs:=Ax b) (j:=k) Z)) O (zK (k:=66) (u:=(vK .u32 ((AN b).getD k 0))) O (by rw [Dq hc2]) (asg' O (asg' O (q3 (sL [4,8,9,53,54,55,10,11,60,61,62,12,13,14] O) (AM O (AM O ?_))))))
    have hwa:=(Bt a).getD i
    have hwb:=(Bt b).getD k
    have hml:=Le hwa hwb
    refine AC (Ar (c:=(((AN a).getD i 0:Nat):Int)) O underlying89 underlying60 (BW Z)) O (AM O (AC (Ar (c:=(((AN b).getD k 0:Nat):Int)) O underlying89 underlying60 (BW Z)) O (AC (Bv (c:=((((AN a).getD i 0)*((AN b).getD k 0):Nat):Int)) O O (FK (a:=(AN a).getD i 0) (b:=(AN b).getD k 0) Z)) O (AM O (AM O (AM O (AC (AR (c:=((i+k:Nat):Int)) O O (AS (a:=i) (b:=k) Z)) O (AC (v:=(pP b6 (i+k))) (AH (j:=i+k) O O underlying220 sizeOf89 O Z jX) O ?_))))))))
    have hx3:xs.getD (i+k) 0<4294967296:=W32.getD hw2 (i+k)
    refine AC (AD (i:=0) (v:=(vK .u32 (xs.getD (i+k) 0))) O O isAgg89 (BH (xs:=xs) (j:=(i+k)) Z)) O (AC (Ar (c:=((xs.getD (i+k) 0:Nat):Int)) O underlying89 underlying60 (BW Z)) O (AC (AR (c:=(((((AN a).getD i 0)*((AN b).getD k 0))+(xs.getD (i+k) 0):Nat):Int)) O O (Dk (a:=((AN a).getD i 0)*((AN b).getD k 0)) (b:=xs.getD (i+k) 0) Z)) O (AC (AR (c:=((c+((((AN a).getD i 0)*((AN b).getD k 0))+(xs.getD (i+k) 0)):Nat):Int)) O O (Dk (a:=c) (b:=(((AN a).getD i 0)*((AN b).getD k 0))+(xs.getD (i+k) 0)) Z)) O (asg' O (q3 (sL [4,8,9,53,54,55,10,11,60,61,62,12,13] O) (AM O (AM O (AM O (AC (AR (c:=((i+k:Nat):Int)) O O (AS (a:=i) (b:=k) Z)) O (AM O (AC (Ar (c:=(((c+((((AN a).getD i 0)*((AN b).getD k 0))+(xs.getD (i+k) 0)))%4294967296:Nat):Int)) O underlying60 underlying89 Ee) O ?_)))))))))))
    refine AC (v:=(pP b6 (i+k))) (AH (j:=i+k) O O underlying220 sizeOf89 O Z jX) O (zo (i:=0) (off:=(i+k)) (vs:=[(vK .u32 ((c+((((AN a).getD i 0)*((AN b).getD k 0))+(xs.getD (i+k) 0)))%4294967296))]) (cs':=Am (xs.set (i+k) ((c+((((AN a).getD i 0)*((AN b).getD k 0))+(xs.getD (i+k) 0)))%4294967296))) (L':=[AX b6 89 (Am (xs.set (i+k) ((c+((((AN a).getD i 0)*((AN b).getD k 0))+(xs.getD (i+k) 0)))%4294967296))),AX b5 89 (Am (Ax b)),AX b4 89 (Am (Ax a)),AX b3 62 (AV 0),AX b2 62 (AV b),AX b1 62 (AV a)]) (AK O) O O O O O sizeOf89 O (Cq (BR _) Z) (CN Z) O (oNl' (zB (sL [4,8,9,53,54,55,10,11,60,61,62,12,13] O) (zA (zD (AM O (AC (C4 (s:=32) (c:=(((c+((((AN a).getD i 0)*((AN b).getD k 0))+(xs.getD (i+k) 0)))/4294967296:Nat):Int)) O O O jY (GW (a:=c+((((AN a).getD i 0)*((AN b).getD k 0))+(xs.getD (i+k) 0))) (s:=32))) O (asg' O (oNl' (zB (sL [4,8,9,53,54,55,10,11,60,61,62,12,13] O) (zF ?_)))))))))))
    exact zA (zD (AC (AR (c:=((k+1:Nat):Int)) O O (AS (a:=k) (b:=1) Z)) O (AM O (oNl' (zB (sL [4,8,9,53,54,55,10,11,60,61,62,12,13] O) (yL (k+1) (xs.set (i+k) ((c+((AN a).getD i 0*(AN b).getD k 0+xs.getD (i+k) 0))%4294967296)) ((c+((AN a).getD i 0*(AN b).getD k 0+xs.getD (i+k) 0))/4294967296) (⟨Z,by rw [List.length_set];exact hl2,W32.set hw2 Z _,Z,F7 h02 Z,Vm hl2 Z hv2⟩) Z (sF O) sr))))))
   ·replace hc2:=xT hc2
    have hkn:k=nw b:=by omega
    have hbb:val ((AN b).take k)=b:=DZ Z
    rw [hbb] at hv2
    refine zU (zO (yA (zR (zA (zD (AM O (AM O (AM O (AC (v:=(vN (nw b))) (AE O underlying220) O (AC (AR (c:=((i+(nw b):Nat):Int)) O O (AS (a:=i) (b:=nw b) Z)) O (AM O ?_)))))))))))
    exact AC (Ar (c:=((c:Nat):Int)) O underlying60 underlying89 (Cg Z)) O (AC (v:=(pP b6 (i+(nw b)))) (AH (j:=i+(nw b)) O O underlying220 sizeOf89 O Z jX) O (zo (i:=0) (off:=(i+(nw b))) (vs:=[(vK .u32 c)]) (cs':=Am (xs.set (i+(nw b)) c)) (L':=[AX b6 89 (Am (xs.set (i+(nw b)) c)),AX b5 89 (Am (Ax b)),AX b4 89 (Am (Ax a)),AX b3 62 (AV 0),AX b2 62 (AV b),AX b1 62 (AV a)]) (AK O) O O O O O sizeOf89 O (Cq (BR _) Z) (CN Z) O (oNl' (zB (sL [4,8,9,53,54,55,10,11,60,61,62,12] O) (zF (zA (zD (AC (AR (c:=((i+1:Nat):Int)) O O (AS (a:=i) (b:=1) Z)) O (AM O (oNl' (zB (sL [4,8,9,53,54,55,10,11,60,61,62,12] O) (zn (i+1) (xs.set (i+nw b) c) (⟨Z,by rw [List.length_set];exact hl2,W32.set hw2 hcc _,by rw [Io hl2 Z (h02 _ (Nat.le_refl _)),<-YT,<-hv2,<-hkn]⟩) Z (sF O) sr))))))))))))
  ·replace hc1:=xT hc1
   refine zU (zO (zm (zR (q2 (AM O (C7 call181 (λw hw=>Jr _ ((nw a)+(nw b)) ((nw a)+(nw b)) os hw32 (by first|omega|(rw [rowN_length];omega)|simp|(simp;omega)) (by first|omega|simp|(simp;omega)) (by first|omega|simp|(simp;omega)) w (hw.get (i:=0) O)) O (zK (k:=102) (u:=(aG (AV (a*b)))) O (by rw [List.take_of_length_le (show os.length<=nw a+nw b by omega),hv,DZ Z]) (Gc O sizeOf62 O (oNl' (zB (sL [4,8,9,53,54,55] O) (zA ?_)))))))))))
   exact zH (ret_one O (Ap (i:=3) (cs:=AV (a*b)) O O isAgg62 sizeOf62 O) (λw hw=>⟨rfl,hw.out⟩))
end
end Go.Proofs.YtbfdamnfcmefmaaGreatDoor
