import Derived.Test.YtcpkbjjmcleplaaGreatDoorPart10
namespace Go.Proofs.YtcpkbjjmcleplaaGreatDoor
open Go Go.RowKit Go.Proofs.Tryz
open Go.Value renaming slice→qz,bool→qa
set_option linter.unusedVariables false
set_option linter.unusedSimpArgs false
section
set_option maxRecDepth 100000
theorem UJ (a b:Nat) (ha:nw a<=1099511627776) (hb:nw b<=1099511627776) (w:World)  :Calls prog 167 #[(aG (AT a)),(aG (AT b))] w (AY w (vI (Da a b))):=by
 refine AS (args:=[(aG (AT a)),(aG (AT b))]) func167 O O (leB O) (zG (sL [0,1] O) (q4 (A9 (cs:=AT a) O λb1=>A9 (cs:=AT b) O λb2=>asg' O (q6 (sL [2,3,4] O) (q4 (st' (v:=(pP b1 1)) (AA O underlying54 O sizeOf9 O) O (BZ 1 (Value.string (Bp a)) Tx O (st' (Bc (c:=(decide (a<18446744073709551616))) O O Cd) O (AL O ?_)))))))))
 refine zg (FM:=[(2,(pP b1 0)),(3,(pP b2 0)),(4,(vI 0)),(5,(pP b1 1)),(6,(Value.string (Bp a))),(7,(qa (decide (a<18446744073709551616)))),(8,(qa (decide (a<18446744073709551616)))),(12,(qa ((decide (a<18446744073709551616))&&(decide (b<18446744073709551616)))))]) (LM:=[AQ b2 54 (AT b),AQ b1 54 (AT a)]) 4 ?_ ?_
 ·rcases xO (decide (a<18446744073709551616)) with hg1|hg1
  ·refine zJ (k:=8) (u:=qa true) O (by rw [hg1]) ?_
   have hg1':=xR hg1
   exact BN (v:=(pP b2 1)) O (AA O underlying54 O sizeOf9 O) (BN (v:=(Value.string (Bp b))) O (AP (i:=0) (v:=(Value.string (Bp b))) O O Tx.a O) (BN (v:=(qa (decide (b<18446744073709551616)))) O (Bc (c:=(decide (b<18446744073709551616))) O O Cd) (st' (v:=(qa (decide (b<18446744073709551616)))) (ex_pick_true O O) O (oNl' (zS CK (xP _))))))
  ·refine zJ (k:=8) (u:=qa false) O (by rw [hg1]) ?_
   have hg1':=xQ hg1
   exact BF O (BF O (BF O (st' (v:=(qa false)) (AN O O) O (oNl' (zS CK (xP _))))))
 refine oNl' (zB (sL [2,3,4,12] O) (zA ?_))
 refine yl (tg True) (tg [(2,(pP b1 0)),(3,(pP b2 0))]) (tg [AQ b2 54 (AT b),AQ b1 54 (AT a)]) ?_ ?_
 ·refine zK O (λhc0=>?_) (λhc0=>?_)
  ·simp only [jK] at hc0
   refine zV (zN (q4 (st' (v:=(pP b1 0)) (AA O underlying54 O sizeOf52 O) O (BZ 1 (vK .u64 (B7 a)) G6 O (zJ (k:=15) (u:=(vK .u64 a)) O (by rw [Bj hc0.1]) (st' (v:=(pP b2 0)) (AA O underlying54 O sizeOf52 O) O (BZ 0 (vK .u64 (B7 b)) G6 O (zJ (k:=17) (u:=(vK .u64 b)) O (by rw [Bj hc0.2]) (st' (Ag (c:=(decide (a<b))) O O (DL (a:=a) (b:=b))) O (asg' O (oNl' ?_)))))))))))
   refine zB (sL [2,3,4,13] O) (zA ?_)
   refine zK O (λhc1=>?_) (λhc1=>?_)
   ·replace hc1:=xR hc1
    have hz:Da a b = -1:=if_pos hc1
    exact q4 (asg' O (oNl' (zA (zF (zT (zH (yY (zH (ret_one O (rd_tmp (v:=(vI (-1:Int))) O) (λw hw=>⟨by rw [hz],hw.out⟩))))))))))
   ·replace hc1:=xQ hc1
    refine q4 (st' (v:=(pP b1 0)) (AA O underlying54 O sizeOf52 O) O (BZ 1 (vK .u64 (B7 a)) G6 O (zJ (k:=21) (u:=(vK .u64 a)) O (by rw [Bj hc0.1]) (st' (v:=(pP b2 0)) (AA O underlying54 O sizeOf52 O) O (BZ 0 (vK .u64 (B7 b)) G6 O (zJ (k:=23) (u:=(vK .u64 b)) O (by rw [Bj hc0.2]) (st' (Bu (c:=(decide (b<a))) O O (DL (a:=b) (b:=a))) O (asg' O (oNl' (zB (sL [2,3,4,19] O) (zA ?_)))))))))))
    refine zK O (λhc2=>?_) (λhc2=>?_)
    ·replace hc2:=xR hc2
     have hz:Da a b=1:=by unfold Da;rw [if_neg Z,if_neg Z]
     exact q4 (asg' O (oNl' (zA (zF (zT (zH (yY (zH (ret_one O (rd_tmp (v:=(vI 1)) O) (λw hw=>⟨by rw [hz],hw.out⟩))))))))))
    ·replace hc2:=xQ hc2
     have hz:Da a b=0:=NU.2 Z
     exact zI (zM (q2 (asg' O (oNl' (zA (zF (yY (zH (ret_one O (rd_tmp (v:=(vI 0)) O) (λw hw=>⟨by rw [hz],hw.out⟩))))))))))
  ·simp only [jK] at hc0
   exact zI (yG  (trivial) (sF O) sr)
 ·intro hJ
  refine q1 (B8 [(0,true),(2,true),(1,false),(3,false),(4,false),(5,true)] sr (Bv 1 B4 O (Bv 0 B4 O (zD O (zx (V:=λb3=>(qz (jk b3) (nw a) ((Au a).length))) (T:=27) (cs:=Ak (Au a)) (AJ O) (Ac (args:=[(aG (AT a))]) O O call85) (λw hw=>DV a Z w) O (leB O) λb3=>zC (sl sr) (zD O (zx (V:=λb4=>(qz (jk b4) (nw b) ((Au b).length))) (T:=27) (cs:=Ak (Au b)) (AJ O) (Ac (args:=[(aG (AT b))]) O O call85) (λw hw=>DV b Z w) O (leB O) λb4=>zC (sl (sl sr)) (zD O (CC call196 (λw hw=>Z0 a b _ _ _ _ Z Z w (hw.get (i:=1) O) (hw.get (i:=0) O)) O ?_)))))))))
  exact zC (sl (sl sr)) (pS' O (zP (zB (sL [2,3,4] O) (zA (zF (ret_one O (rd_tmp (v:=(vI (Da a b))) O) (λw hw=>⟨rfl,hw.out⟩)))))))
theorem UH (a b:Nat) (ha:nw a<=1099511627776) (hb:nw b<=1099511627776) (w:World)  :Calls prog 92 #[(aG (AT a)),(aG (AT b))] w (AY w (aG (AT (a+b)))):=by
 have hla:=CM a
 have hlb:=CM b
 refine AS (args:=[(aG (AT a)),(aG (AT b))]) func92 O O (leB O) (zG (sL [0,1] O) (q4 (A9 (cs:=AT a) O λb1=>A9 (cs:=AT b) O λb2=>al Gt O λb3=>q6 (sL [2,3,4] O) (q4 (st' (v:=(pP b1 1)) (AA O underlying54 O sizeOf9 O) O (BZ 2 (Value.string (Bp a)) Tx O (st' (Bc (c:=(decide (a<18446744073709551616))) O O Cd) O (AL O ?_))))))))
 refine zg (FM:=[(2,(pP b1 0)),(3,(pP b2 0)),(4,(pP b3 0)),(13,(pP b1 1)),(14,(Value.string (Bp a))),(15,(qa (decide (a<18446744073709551616)))),(16,(qa (decide (a<18446744073709551616)))),(20,(qa ((decide (a<18446744073709551616))&&(decide (b<18446744073709551616)))))]) (LM:=[AQ b3 54 (AT 0),AQ b2 54 (AT b),AQ b1 54 (AT a)]) 4 ?_ ?_
 ·rcases xO (decide (a<18446744073709551616)) with hg1|hg1
  ·refine zJ (k:=16) (u:=qa true) O (by rw [hg1]) ?_
   have hg1':=xR hg1
   exact BN (v:=(pP b2 1)) O (AA O underlying54 O sizeOf9 O) (BN (v:=(Value.string (Bp b))) O (AP (i:=1) (v:=(Value.string (Bp b))) O O Tx.a O) (BN (v:=(qa (decide (b<18446744073709551616)))) O (Bc (c:=(decide (b<18446744073709551616))) O O Cd) (st' (v:=(qa (decide (b<18446744073709551616)))) (ex_pick_true O O) O (oNl' (zS CK (xP _))))))
  ·refine zJ (k:=16) (u:=qa false) O (by rw [hg1]) ?_
   have hg1':=xQ hg1
   exact BF O (BF O (BF O (st' (v:=(qa false)) (AN O O) O (oNl' (zS CK (xP _))))))
 refine oNl' (zB (sL [2,3,4,20] O) (zA ?_))
 refine yl (tg True) (tg [(2,(pP b1 0)),(3,(pP b2 0)),(4,(pP b3 0))]) (tg [AQ b3 54 (AT 0),AQ b2 54 (AT b),AQ b1 54 (AT a)]) ?_ ?_
 ·refine zK O (λhc0=>?_) (λhc0=>?_)
  ·simp only [jK] at hc0
   refine q4 (st' (v:=(pP b1 0)) (AA O underlying54 O sizeOf52 O) O (BZ 2 (vK .u64 (B7 a)) G6 O (zJ (k:=23) (u:=(vK .u64 a)) O (by rw [Bj hc0.1]) (st' (v:=(pP b2 0)) (AA O underlying54 O sizeOf52 O) O (BZ 1 (vK .u64 (B7 b)) G6 O (zJ (k:=25) (u:=(vK .u64 b)) O (by rw [Bj hc0.2]) (st' (v:=(Value.tuple #[(vK .u64 ((a+b+0)%18446744073709551616)),(vK .u64 ((a+b+0)/18446744073709551616))])) (Su (args:=[(vK .u64 a),(vK .u64 b),(Value.int .u64 (0:Int))]) O O (λw=>Tm func145 jV jV jV jV a b 0 Z w)) O (AL O (st' (AH (v:=(vK .u64 ((a+b+0)%18446744073709551616))) O O) O (st' (AH (v:=(vK .u64 ((a+b+0)/18446744073709551616))) O O) O (asg' O ?_)))))))))))
   refine asg' O (q3 (sL [2,3,4,5,6] O) (AL O (st' (Az (c:=(decide (((a+b+0)/18446744073709551616)=0))) O O (OI (a:=(a+b+0)/18446744073709551616) (b:=0))) O (oNl' (zB (sL [2,3,4,5,30] O) (zA ?_))))))
   refine zK O (λhc1=>?_) (λhc1=>?_)
   ·replace hc1:=xR hc1
    exact q4 (AL O (st' (v:=(aG ([(vK .u64 ((a+b+0)%18446744073709551616)),(Value.string (Bp 0))]))) (AR (zs:=AT 0) (vs:=[(vK .u64 ((a+b+0)%18446744073709551616)),(Value.string (Bp 0))]) (pv:=[(0,(vK .u64 ((a+b+0)%18446744073709551616)))]) (places:=[(0,1),(1,1)]) zeroValue54 underlying54 (λw=>by simp [sizeOf9,sizeOf52]) O O) O (zJ (k:=32) (u:=(aG (AT (a+b)))) O (by rw [D7 Z,show (a+b+0)%18446744073709551616=a+b by omega];rfl) (Am O sizeOf54 O (oNl' (zB (sL [2,3,4] O) (zA (zF (yY (zH (ret_one O (Aa (i:=0) (cs:=AT (a+b)) O O isAgg54 sizeOf54 O) (λw hw=>⟨rfl,hw.out⟩))))))))))))
   ·replace hc1:=xQ hc1
    exact zI (yG  (trivial) (sF O) sr)
  ·simp only [jK] at hc0
   exact zI (yG  (trivial) (sF O) sr)
 ·intro hJ
  refine q1 (B8 [(0,true),(2,true),(1,false),(3,false),(4,true),(5,true)] sr (Bv 2 B4 O (Bv 1 B4 O (zD O (zx (V:=λb4=>(qz (jk b4) (nw a) ((Au a).length))) (T:=27) (cs:=Ak (Au a)) (AJ O) (Ac (args:=[(aG (AT a))]) O O call85) (λw hw=>DV a Z w) O (leB O) λb4=>zC (sl sr) (zD O (zx (V:=λb5=>(qz (jk b5) (nw b) ((Au b).length))) (T:=27) (cs:=Ak (Au b)) (AJ O) (Ac (args:=[(aG (AT b))]) O O call85) (λw hw=>DV b Z w) O (leB O) λb5=>zC (sl (sl sr)) (pS' O (pS' O ?_)))))))))
  refine zP (zB (sL [2,3,4,7,8] O) (q1 (q4 (AL O (st' (v:=(vN (nw a))) (AD O underlying169) O (AL O (st' (v:=(vN (nw b))) (AD O underlying169) O (st' (Ag (c:=(decide ((nw a)<(nw b)))) O O (DL (a:=nw a) (b:=nw b))) O (oNl' (zB (sL [2,3,4,7,8,41] O) (zA ?_)))))))))))
  refine zK O (λhc2=>?_) (λhc2=>?_)
  ·replace hc2:=xR hc2
   refine zL (AL O (AL O (asg' O (asg' O (q3 (sL [2,3,4,7,8] O) (AL O (st' (v:=(vN (nw b))) (AD O underlying169) O (st' (Ad (c:=(((nw b)+1:Nat):Int)) O O (Ab (a:=nw b) (b:=1) Z)) O (zf (V:=λb6=>(qz (jk b6) ((nw b)+1) ((nw b)+1))) (T:=27) (cs:=Ak (List.replicate ((nw b)+1) 0)) (AJ O) (Di (m:=(nw b)+1) (c:=(nw b)+1) O O Z Z) O (leB O) λb6=>asg' O (q3 (sL [2,3,4,7,8,9] O) ?_))))))))))
   refine AL O (AL O (yv (i:=0) (j:=1) (ns:=Ak (AK b)) (cs':=Ak (AK b++(List.replicate (nw b+1) 0).drop (AK b).length)) (L':=[AQ b6 27 (Ak (AK b++(List.replicate (nw b+1) 0).drop (AK b).length)),AQ b5 27 (Ak (Au b)),AQ b4 27 (Ak (Au a)),AQ b3 54 (AT 0),AQ b2 54 (AT b),AQ b1 54 (AT a)]) O (AJ O) O O O O (by rw [NG,Im]) (BS _) (Pb _) Z (by rw [BS];simp;try omega) (Pd _ _) O (leB O) (q3 (sL [2,3,4,7,8,9] O) (asg' O (oNl' (q1 (q4 (AL O (st' (v:=(vN ((nw b)+1))) (AD O underlying169) O (AL O (oNl' ?_)))))))))))
   refine zB (sL [2,3,4,7,8,9,10,52,53] O) (zA (zN ?_))
   refine yI (tg λ(i:Nat) (os:List Nat) (c:Nat)=>i<=nw b+1/\os.length=nw b+1/\W32 os/\c<=1/\val os+c*4294967296^i=b+val ((AK a).take i)) (tg λ(i:Nat) (os:List Nat) (c:Nat)=>[(4,(pP b3 0)),(8,(qz (jk b4) (nw a) ((Au a).length))),(9,(qz (jk b6) ((nw b)+1) ((nw b)+1))),(52,(vN ((nw b)+1))),(53,(vN i)),(10,(vK .u32 c))]) (tg λ(i:Nat) (os:List Nat) (c:Nat)=>[AQ b6 27 (Ak os),AQ b5 27 (Ak (Au b)),AQ b4 27 (Ak (Au a)),AQ b3 54 (AT 0),AQ b2 54 (AT b),AQ b1 54 (AT a)]) (tg λ(i:Nat) (os:List Nat) (c:Nat)=>nw b+1-i) 0 (AK b++(List.replicate (nw b+1) 0).drop (AK b).length) 0 (⟨xH _,(F4 b 1).1,(F4 b 1).2.1,Z,by rw [(F4 b 1).2.2];simp [val]⟩) (sF O) sr (λi os c hJ=>?_)
   obtain ⟨hi,hl,hw32,hcc,hv⟩:=hJ
   refine q4 (st' (Ag (c:=(decide (i<((nw b)+1)))) O O (DL (a:=i) (b:=(nw b)+1))) O (oNl' (q1 ?_)))
   refine zK O (λhc3=>?_) (λhc3=>?_)
   ·replace hc3:=xR hc3
    refine zI (q1 (zN (q4 (AL O (asg' O (q3 (sL [4,8,9,52,53,10,11] O) (asg' O (oNl' (q1 (q4 (AL O ?_)))))))))))
    refine AL O (st' (v:=(vN (nw a))) (AD O underlying169) O (st' (Ag (c:=(decide (i<(nw a)))) O O (DL (a:=i) (b:=nw a))) O (oNl' (zB (sL [4,8,9,52,53,10,11,12,59] O) (zA ?_)))))
    refine yl (tg True) (tg [(4,(pP b3 0)),(8,(qz (jk b4) (nw a) ((Au a).length))),(9,(qz (jk b6) ((nw b)+1) ((nw b)+1))),(52,(vN ((nw b)+1))),(53,(vN i)),(10,(vK .u32 c)),(11,(vN i)),(12,(vK .u32 ((AK a).getD i 0)))]) (tg [AQ b6 27 (Ak os),AQ b5 27 (Ak (Au b)),AQ b4 27 (Ak (Au a)),AQ b3 54 (AT 0),AQ b2 54 (AT b),AQ b1 54 (AT a)]) ?_ ?_
    ·refine zK O (λhc4=>?_) (λhc4=>?_)
     ·replace hc4:=xR hc4
      refine zL (AL O (AL O (st' (v:=(pP b4 i)) (AG (j:=i) O O underlying169 sizeOf27 O Z jX) O ?_)))
      have hx1:(Au a).getD i 0<4294967296:=W32.getD (CR a) i
      exact st' (AP (i:=2) (v:=(vK .u32 ((Au a).getD i 0))) O O isAgg27 (BC (xs:=Au a) (j:=i) Z)) O (zJ (k:=63) (u:=(vK .u32 ((AK a).getD i 0))) O (by rw [Dj hc4]) (asg' O (oNl' (zB (sL [4,8,9,52,53,10,11,12] O) (yG  (trivial) (sF O) sr)))))
     ·replace hc4:=xQ hc4
      exact zI (yc (k:=12) (u:=Value.int .u32 (((AK a).getD i 0:Nat):Int)) O (by rw [E7 hc4];rfl) (yG  (trivial) (sF O) sr))
    ·intro hJ
     refine zA (zL (AL O (AL O (AL O (AL O (st' (v:=(pP b6 i)) (AG (j:=i) O O underlying169 sizeOf27 O Z jX) O ?_))))))
     have hx2:os.getD i 0<4294967296:=W32.getD hw32 i
     refine st' (AP (i:=0) (v:=(vK .u32 (os.getD i 0))) O O isAgg27 (BC (xs:=os) (j:=i) Z)) O (AL O (AL O ?_))
     have hya:=(Bw a).getD i
     have hyb:=(Bw b).getD i
     refine ck' call146 (Ke (os.getD i 0) ((AK a).getD i 0) c Z Z Z) O (AL O (st' (AH (v:=(vK .u32 (((os.getD i 0)+((AK a).getD i 0)+c)%4294967296))) O O) O (st' (AH (v:=(vK .u32 (((os.getD i 0)+((AK a).getD i 0)+c)/4294967296))) O O) O (st' (v:=(pP b6 i)) (AG (j:=i) O O underlying169 sizeOf27 O Z jX) O (zo (i:=0) (off:=i) (vs:=[(vK .u32 (((os.getD i 0)+((AK a).getD i 0)+c)%4294967296))]) (cs':=Ak (os.set i (((os.getD i 0)+((AK a).getD i 0)+c)%4294967296))) (L':=[AQ b6 27 (Ak (os.set i (((os.getD i 0)+((AK a).getD i 0)+c)%4294967296))),AQ b5 27 (Ak (Au b)),AQ b4 27 (Ak (Au a)),AQ b3 54 (AT 0),AQ b2 54 (AT b),AQ b1 54 (AT a)]) (AJ O) O O O O O sizeOf27 O (C4 (BS _) Z) (CS Z) O (asg' O (oNl' (zB (sL [4,8,9,52,53,10,11,12] O) (zM (zA (zL ?_)))))))))))
     exact st' (Ad (c:=((i+1:Nat):Int)) O O (Ab (a:=i) (b:=1) Z)) O (AL O (oNl' (zB (sL [4,8,9,52,53,10,11,12] O) (z6 (i+1) (os.set i ((os.getD i 0+(AK a).getD i 0+c)%4294967296)) ((os.getD i 0+(AK a).getD i 0+c)/4294967296) (⟨Z,by rw [List.length_set];exact hl,W32.set hw32 Z i,Z,OP hl hc3 hv⟩) Z (sF O) sr))))
   ·replace hc3:=xQ hc3
    refine zW (zO (zi (zR (q2 (AL O (CC call124 (λw hw=>Jv _ ((nw b)+1) ((nw b)+1) os hw32 (by first|omega|(rw [rowN_length];omega)|simp|(simp;omega)) (by first|omega|simp|(simp;omega)) (by first|omega|simp|(simp;omega)) w (hw.get (i:=0) O)) O (zJ (k:=79) (u:=(aG (AT (a+b)))) O (by rw [List.take_of_length_le (show os.length<=nw b+1 by omega),OO (X:=b) (Y:=a) (c:=c) (i:=i) hl hw32 Z (Wi Z) (by rw [hv,Dn Z]),Nat.add_comm]) (Fd O sizeOf54 O (oNl' (zB (sL [4,8,9,52,53,10] O) (zA ?_)))))))))))
    exact zF (ret_one O (Aa (i:=3) (cs:=AT (a+b)) O O isAgg54 sizeOf54 O) (λw hw=>⟨rfl,hw.out⟩))
  ·replace hc2:=xQ hc2
   refine zI (q2 (AL O (st' (v:=(vN (nw a))) (AD O underlying169) O (st' (Ad (c:=(((nw a)+1:Nat):Int)) O O (Ab (a:=nw a) (b:=1) Z)) O (zf (V:=λb6=>(qz (jk b6) ((nw a)+1) ((nw a)+1))) (T:=27) (cs:=Ak (List.replicate ((nw a)+1) 0)) (AJ O) (Di (m:=(nw a)+1) (c:=(nw a)+1) O O Z Z) O (leB O) λb6=>asg' O (q3 (sL [2,3,4,7,8,9] O) (AL O (AL O (yv (i:=0) (j:=2) (ns:=Ak (AK a)) (cs':=Ak (AK a++(List.replicate (nw a+1) 0).drop (AK a).length)) (L':=[AQ b6 27 (Ak (AK a++(List.replicate (nw a+1) 0).drop (AK a).length)),AQ b5 27 (Ak (Au b)),AQ b4 27 (Ak (Au a)),AQ b3 54 (AT 0),AQ b2 54 (AT b),AQ b1 54 (AT a)]) O (AJ O) O O O O (by rw [NG,Im]) (BS _) (Pb _) Z (by rw [BS];simp;try omega) (Pd _ _) O (leB O) (q3 (sL [2,3,4,7,8,9] O) ?_))))))))))
   refine asg' O (oNl' (q1 (q4 (AL O (st' (v:=(vN ((nw a)+1))) (AD O underlying169) O (AL O (oNl' (zB (sL [2,3,4,7,8,9,10,52,53] O) (zA (zN ?_))))))))))
   refine yI (tg λ(i:Nat) (os:List Nat) (c:Nat)=>i<=nw a+1/\os.length=nw a+1/\W32 os/\c<=1/\val os+c*4294967296^i=a+val ((AK b).take i)) (tg λ(i:Nat) (os:List Nat) (c:Nat)=>[(4,(pP b3 0)),(8,(qz (jk b5) (nw b) ((Au b).length))),(9,(qz (jk b6) ((nw a)+1) ((nw a)+1))),(52,(vN ((nw a)+1))),(53,(vN i)),(10,(vK .u32 c))]) (tg λ(i:Nat) (os:List Nat) (c:Nat)=>[AQ b6 27 (Ak os),AQ b5 27 (Ak (Au b)),AQ b4 27 (Ak (Au a)),AQ b3 54 (AT 0),AQ b2 54 (AT b),AQ b1 54 (AT a)]) (tg λ(i:Nat) (os:List Nat) (c:Nat)=>nw a+1-i) 0 (AK a++(List.replicate (nw a+1) 0).drop (AK a).length) 0 (⟨xH _,(F4 a 1).1,(F4 a 1).2.1,Z,by rw [(F4 a 1).2.2];simp [val]⟩) (sF O) sr (λi os c hJ=>?_)
   obtain ⟨hi,hl,hw32,hcc,hv⟩:=hJ
   refine q4 (st' (Ag (c:=(decide (i<((nw a)+1)))) O O (DL (a:=i) (b:=(nw a)+1))) O (oNl' (q1 ?_)))
   refine zK O (λhc3=>?_) (λhc3=>?_)
   ·replace hc3:=xR hc3
    refine zI (q1 (zN (q4 (AL O (asg' O (q3 (sL [4,8,9,52,53,10,11] O) (asg' O (oNl' (q1 (q4 (AL O ?_)))))))))))
    refine AL O (st' (v:=(vN (nw b))) (AD O underlying169) O (st' (Ag (c:=(decide (i<(nw b)))) O O (DL (a:=i) (b:=nw b))) O (oNl' (zB (sL [4,8,9,52,53,10,11,12,59] O) (zA ?_)))))
    refine yl (tg True) (tg [(4,(pP b3 0)),(8,(qz (jk b5) (nw b) ((Au b).length))),(9,(qz (jk b6) ((nw a)+1) ((nw a)+1))),(52,(vN ((nw a)+1))),(53,(vN i)),(10,(vK .u32 c)),(11,(vN i)),(12,(vK .u32 ((AK b).getD i 0)))]) (tg [AQ b6 27 (Ak os),AQ b5 27 (Ak (Au b)),AQ b4 27 (Ak (Au a)),AQ b3 54 (AT 0),AQ b2 54 (AT b),AQ b1 54 (AT a)]) ?_ ?_
    ·refine zK O (λhc4=>?_) (λhc4=>?_)
     ·replace hc4:=xR hc4
      refine zL (AL O (AL O (st' (v:=(pP b5 i)) (AG (j:=i) O O underlying169 sizeOf27 O Z jX) O ?_)))
      have hx3:(Au b).getD i 0<4294967296:=W32.getD (CR b) i
      exact st' (AP (i:=1) (v:=(vK .u32 ((Au b).getD i 0))) O O isAgg27 (BC (xs:=Au b) (j:=i) Z)) O (zJ (k:=63) (u:=(vK .u32 ((AK b).getD i 0))) O (by rw [Dj hc4]) (asg' O (oNl' (zB (sL [4,8,9,52,53,10,11,12] O) (yG  (trivial) (sF O) sr)))))
     ·replace hc4:=xQ hc4
      exact zI (yc (k:=12) (u:=Value.int .u32 (((AK b).getD i 0:Nat):Int)) O (by rw [E7 hc4];rfl) (yG  (trivial) (sF O) sr))
    ·intro hJ
     refine zA (zL (AL O (AL O (AL O (AL O (st' (v:=(pP b6 i)) (AG (j:=i) O O underlying169 sizeOf27 O Z jX) O ?_))))))
     have hx4:os.getD i 0<4294967296:=W32.getD hw32 i
     refine st' (AP (i:=0) (v:=(vK .u32 (os.getD i 0))) O O isAgg27 (BC (xs:=os) (j:=i) Z)) O (AL O (AL O ?_))
     have hya:=(Bw a).getD i
     have hyb:=(Bw b).getD i
     refine ck' call146 (Ke (os.getD i 0) ((AK b).getD i 0) c Z Z Z) O (AL O (st' (AH (v:=(vK .u32 (((os.getD i 0)+((AK b).getD i 0)+c)%4294967296))) O O) O (st' (AH (v:=(vK .u32 (((os.getD i 0)+((AK b).getD i 0)+c)/4294967296))) O O) O (st' (v:=(pP b6 i)) (AG (j:=i) O O underlying169 sizeOf27 O Z jX) O (zo (i:=0) (off:=i) (vs:=[(vK .u32 (((os.getD i 0)+((AK b).getD i 0)+c)%4294967296))]) (cs':=Ak (os.set i (((os.getD i 0)+((AK b).getD i 0)+c)%4294967296))) (L':=[AQ b6 27 (Ak (os.set i (((os.getD i 0)+((AK b).getD i 0)+c)%4294967296))),AQ b5 27 (Ak (Au b)),AQ b4 27 (Ak (Au a)),AQ b3 54 (AT 0),AQ b2 54 (AT b),AQ b1 54 (AT a)]) (AJ O) O O O O O sizeOf27 O (C4 (BS _) Z) (CS Z) O (asg' O (oNl' (zB (sL [4,8,9,52,53,10,11,12] O) (zM (zA (zL ?_)))))))))))
     exact st' (Ad (c:=((i+1:Nat):Int)) O O (Ab (a:=i) (b:=1) Z)) O (AL O (oNl' (zB (sL [4,8,9,52,53,10,11,12] O) (z6 (i+1) (os.set i ((os.getD i 0+(AK b).getD i 0+c)%4294967296)) ((os.getD i 0+(AK b).getD i 0+c)/4294967296) (⟨Z,by rw [List.length_set];exact hl,W32.set hw32 Z i,Z,OP hl hc3 hv⟩) Z (sF O) sr))))
   ·replace hc3:=xQ hc3
    refine zW (zO (zi (zR (q2 (AL O (CC call124 (λw hw=>Jv _ ((nw a)+1) ((nw a)+1) os hw32 (by first|omega|(rw [rowN_length];omega)|simp|(simp;omega)) (by first|omega|simp|(simp;omega)) (by first|omega|simp|(simp;omega)) w (hw.get (i:=0) O)) O (zJ (k:=79) (u:=(aG (AT (a+b)))) O (by rw [List.take_of_length_le (show os.length<=nw a+1 by omega),OO (X:=a) (Y:=b) (c:=c) (i:=i) hl hw32 Z (Wi Z) (by rw [hv,Dn Z])]) (Fd O sizeOf54 O (oNl' (zB (sL [4,8,9,52,53,10] O) (zA ?_)))))))))))
    exact zF (ret_one O (Aa (i:=3) (cs:=AT (a+b)) O O isAgg54 sizeOf54 O) (λw hw=>⟨rfl,hw.out⟩))
end
section
set_option maxRecDepth 100000
theorem MP  :Instr.fill ([(0,1),(1,1)].toArray[·]?) (AT 0).toArray []=some (AT 0).toArray:=by kernel_rfl
theorem Py (a b:Nat) (ha:nw a<=1099511627776) (hb:nw b<=1099511627776) (w:World)  :Calls prog 115 #[(aG (AT a)),(aG (AT b))] w (AY w (Value.tuple #[(aG (AT (a-b))),(qa (decide (b<=a)))])):=by
 have hla:=CM a
 have hlb:=CM b
 have hpa:=YY a
 refine AS (args:=[(aG (AT a)),(aG (AT b))]) func115 O O (leB O) (zG (sL [0,1] O) (q4 (A9 (cs:=AT a) O λb1=>A9 (cs:=AT b) O λb2=>al Gt O λb3=>asg' O (q6 (sL [2,3,4,5] O) (q4 (Ah 2 B4 O (Ah 1 B4 O (ck' call167 (UJ a b Z Z) O ?_))))))))
 refine st' (Ag (c:=(decide ((Da a b)<(0:Int)))) O O O) O (oNl' (zB (sL [2,3,4,5,14] O) (zA ?_)))
 refine zK O (λhc0=>?_) (λhc0=>?_)
 ·replace hc0:=xR hc0
  rw [Fm] at hc0
  exact q4 (st' (v:=(aG (AT 0))) (AR (zs:=AT 0) (vs:=AT 0) (pv:=[]) (places:=[(0,1),(1,1)]) zeroValue54 underlying54 (λw=>by simp [sizeOf9,sizeOf52]) O (MP )) O (zJ (k:=15) (u:=(aG (AT (a-b)))) O (by rw [show a-b=0 by omega]) (Am O sizeOf54 O (asg' O (oNl' (zB (sL [2,3,4,5] O) (zA (zF (zH (Bf O (Aa (i:=0) (cs:=AT (a-b)) O O isAgg54 sizeOf54 O) (rd_tmp (v:=(qa false)) O) (λw hw=>⟨by rw [xz (show ¬b<=a by omega)],hw.out⟩)))))))))))
 ·replace hc0:=xQ hc0
  rw [Fm] at hc0
  have hnb:nw b<=nw a:=Ct Z
  refine zI (q1 (q4 (st' (v:=(pP b1 1)) (AA O underlying54 O sizeOf9 O) O (BZ 2 (Value.string (Bp a)) Tx O (st' (Bc (c:=(decide (a<18446744073709551616))) O O Cd) O (oNl' (zB (sL [2,3,4,5,18] O) (zA ?_))))))))
  refine zK O (λhc1=>?_) (λhc1=>?_)
  ·replace hc1:=xR hc1
   refine q4 (st' (v:=(pP b1 0)) (AA O underlying54 O sizeOf52 O) O (BZ 2 (vK .u64 (B7 a)) G6 O (zJ (k:=20) (u:=(vK .u64 a)) O (by rw [Bj hc1]) (st' (v:=(pP b2 0)) (AA O underlying54 O sizeOf52 O) O (BZ 1 (vK .u64 (B7 b)) G6 O (zJ (k:=22) (u:=(vK .u64 b)) O (by rw [Bj Z]) (st' (BT (c:=((a-b:Nat):Int)) O O (I3 (a:=a) (b:=b) Z Z)) O (st' (v:=(aG ([(vK .u64 (a-b)),(Value.string (Bp 0))]))) (AR (zs:=AT 0) (vs:=[(vK .u64 (a-b)),(Value.string (Bp 0))]) (pv:=[(0,(vK .u64 (a-b)))]) (places:=[(0,1),(1,1)]) zeroValue54 underlying54 (λw=>by simp [sizeOf9,sizeOf52]) O O) O (zJ (k:=24) (u:=(aG (AT (a-b)))) O (by rw [D7 Z];rfl) (Am O sizeOf54 O (asg' O ?_)))))))))))
   exact oNl' (zB (sL [2,3,4,5] O) (zA (zF (zH (Bf O (Aa (i:=0) (cs:=AT (a-b)) O O isAgg54 sizeOf54 O) (rd_tmp (v:=(qa true)) O) (λw hw=>⟨by rw [xE (show b<=a by omega)],hw.out⟩))))))
  ·replace hc1:=xQ hc1
   have hpad:Au a=AK a:=if_neg hc1
   refine zI (q1 (B8 [(0,true),(2,true),(1,false),(3,false),(4,true),(5,true)] sr (Bv 2 B4 O (Bv 1 B4 O (zD O (zx (V:=λb4=>(qz (jk b4) (nw a) ((Au a).length))) (T:=27) (cs:=Ak (Au a)) (AJ O) (Ac (args:=[(aG (AT a))]) O O call85) (λw hw=>DV a Z w) O (leB O) λb4=>zC (sl sr) (zD O (zx (V:=λb5=>(qz (jk b5) (nw b) ((Au b).length))) (T:=27) (cs:=Ak (Au b)) (AJ O) (Ac (args:=[(aG (AT b))]) O O call85) (λw hw=>DV b Z w) O (leB O) λb5=>zC (sl (sl sr)) (pS' O ?_)))))))))
   refine pS' O (zP (zB (sL [2,3,4,5,6,7] O) (q2 (asg' O (oNl' (q1 (q4 (AL O (st' (v:=(vN (nw a))) (AD O underlying169) O (AL O (oNl' ?_)))))))))))
   refine zB (sL [2,3,4,5,6,7,8,30,31] O) (zA (zN ?_))
   refine yI (tg λ(i:Nat) (os:List Nat) (c:Nat)=>i<=nw a/\os.length=nw a/\W32 os/\c<=1/\val os+val ((AK b).take i)=a+c*4294967296^i) (tg λ(i:Nat) (os:List Nat) (c:Nat)=>[(4,(pP b3 0)),(5,(qa false)),(6,(qz (jk b4) (nw a) ((Au a).length))),(7,(qz (jk b5) (nw b) ((Au b).length))),(30,(vN (nw a))),(31,(vN i)),(8,(vK .u32 c))]) (tg λ(i:Nat) (os:List Nat) (c:Nat)=>[AQ b5 27 (Ak (Au b)),AQ b4 27 (Ak os),AQ b3 54 (AT 0),AQ b2 54 (AT b),AQ b1 54 (AT a)]) (tg λ(i:Nat) (os:List Nat) (c:Nat)=>nw a-i) 0 (Au a) 0 (⟨xH _,by rw [hpad];rfl,CR a,Z,by rw [ST];simp [val]⟩) (sF O) sr (λi os c hJ=>?_)
   obtain ⟨hi,hl,hw32,hcc,hv⟩:=hJ
   refine q4 (st' (Ag (c:=(decide (i<(nw a)))) O O (DL (a:=i) (b:=nw a))) O (oNl' (q1 ?_)))
   refine zK O (λhc2=>?_) (λhc2=>?_)
   ·replace hc2:=xR hc2
    refine zI (q1 (zN (q4 (AL O (asg' O (q3 (sL [4,5,6,7,30,31,8,9] O) (asg' O (oNl' (q1 (q4 (AL O ?_)))))))))))
    refine AL O (st' (v:=(vN (nw b))) (AD O underlying169) O (st' (Ag (c:=(decide (i<(nw b)))) O O (DL (a:=i) (b:=nw b))) O (oNl' (zB (sL [4,5,6,7,30,31,8,9,10,37] O) (zA ?_)))))
    refine yl (tg True) (tg [(4,(pP b3 0)),(5,(qa false)),(6,(qz (jk b4) (nw a) ((Au a).length))),(7,(qz (jk b5) (nw b) ((Au b).length))),(30,(vN (nw a))),(31,(vN i)),(8,(vK .u32 c)),(9,(vN i)),(10,(vK .u32 ((AK b).getD i 0)))]) (tg [AQ b5 27 (Ak (Au b)),AQ b4 27 (Ak os),AQ b3 54 (AT 0),AQ b2 54 (AT b),AQ b1 54 (AT a)]) ?_ ?_
    ·refine zK O (λhc3=>?_) (λhc3=>?_)
     ·replace hc3:=xR hc3
      refine zL (AL O (AL O (st' (v:=(pP b5 i)) (AG (j:=i) O O underlying169 sizeOf27 O Z jX) O ?_)))
      have hx1:(Au b).getD i 0<4294967296:=W32.getD (CR b) i
      exact st' (AP (i:=0) (v:=(vK .u32 ((Au b).getD i 0))) O O isAgg27 (BC (xs:=Au b) (j:=i) Z)) O (zJ (k:=41) (u:=(vK .u32 ((AK b).getD i 0))) O (by rw [Dj hc3]) (asg' O (oNl' (zB (sL [4,5,6,7,30,31,8,9,10] O) (yG  (trivial) (sF O) sr)))))
     ·replace hc3:=xQ hc3
      exact zI (yc (k:=10) (u:=Value.int .u32 (((AK b).getD i 0:Nat):Int)) O (by rw [E7 hc3];rfl) (yG  (trivial) (sF O) sr))
    ·intro hJ
     refine zA (zL (AL O (AL O (AL O (AL O (st' (v:=(pP b4 i)) (AG (j:=i) O O underlying169 sizeOf27 O Z jX) O ?_))))))
     have hx2:os.getD i 0<4294967296:=W32.getD hw32 i
     refine st' (AP (i:=1) (v:=(vK .u32 (os.getD i 0))) O O isAgg27 (BC (xs:=os) (j:=i) Z)) O (AL O (AL O ?_))
     have hyb:=(Bw b).getD i
     refine ck' call169 (Li (os.getD i 0) ((AK b).getD i 0) c _ Z Z Z O) O (AL O (st' (AH (v:=(vK .u32 (((os.getD i 0)+(4294967296-((AK b).getD i 0))+(4294967296-c))%4294967296))) O O) O (st' (AH (v:=(vK .u32 (Jl (os.getD i 0) (((AK b).getD i 0)+c)))) O O) O (st' (v:=(pP b4 i)) (AG (j:=i) O O underlying169 sizeOf27 O Z jX) O (zo (i:=1) (off:=i) (vs:=[(vK .u32 (((os.getD i 0)+(4294967296-((AK b).getD i 0))+(4294967296-c))%4294967296))]) (cs':=Ak (os.set i (((os.getD i 0)+(4294967296-((AK b).getD i 0))+(4294967296-c))%4294967296))) (L':=[AQ b5 27 (Ak (Au b)),AQ b4 27 (Ak (os.set i (((os.getD i 0)+(4294967296-((AK b).getD i 0))+(4294967296-c))%4294967296))),AQ b3 54 (AT 0),AQ b2 54 (AT b),AQ b1 54 (AT a)]) (AJ O) O O O O O sizeOf27 O (C4 (BS _) Z) (CS Z) O (asg' O (oNl' (zB (sL [4,5,6,7,30,31,8,9,10] O) (zM (zA (zL ?_)))))))))))
     exact st' (Ad (c:=((i+1:Nat):Int)) O O (Ab (a:=i) (b:=1) Z)) O (AL O (oNl' (zB (sL [4,5,6,7,30,31,8,9,10] O) (z6 (i+1) (os.set i ((os.getD i 0+(4294967296-(AK b).getD i 0)+(4294967296-c))%4294967296)) (Jl (os.getD i 0) ((AK b).getD i 0+c)) (⟨Z,by rw [List.length_set];exact hl,W32.set hw32 Z i,P9 _ _,Wh hl hc2 hw32 (Bw b) hcc hv⟩) Z (sF O) sr))))
   ·replace hc2:=xQ hc2
    refine zW (zO (zi (zR (q2 (AL O (CC call124 (λw hw=>Jv _ (nw a) ((Au a).length) os hw32 (by first|omega|(rw [rowN_length];omega)|simp|(simp;omega)) (by first|omega|simp|(simp;omega)) (by first|omega|simp|(simp;omega)) w (hw.get (i:=1) O)) O (zJ (k:=57) (u:=(aG (AT (a-b)))) O (by rw [List.take_of_length_le (show os.length<=nw a by omega),Wg (X:=a) (Y:=b) (n:=nw a) (c:=c) (i:=i) hl hw32 Z Z (by rw [<-hv,Dn Z]) (Bn a)]) (Ee O sizeOf54 O (asg' O (oNl' (zB (sL [4,5,6,7,30,31,8] O) ?_)))))))))))
    exact zA (zF (Bf O (Aa (i:=2) (cs:=AT (a-b)) O O isAgg54 sizeOf54 O) (rd_tmp (v:=(qa true)) O) (λw hw=>⟨by rw [xE (show b<=a by omega)],hw.out⟩)))
theorem Pw (a b:Nat) (ha:nw a<=1099511627776) (hb:nw b<=1099511627776) (w:World)  :Calls prog 74 #[(aG (AT a)),(aG (AT b))] w (AY w (aG (AT (a*b)))):=by
 have hla:=CM a
 have hlb:=CM b
 refine AS (args:=[(aG (AT a)),(aG (AT b))]) func74 O O (leB O) (zG (sL [0,1] O) (q4 (A9 (cs:=AT a) O λb1=>A9 (cs:=AT b) O λb2=>al Gt O λb3=>q6 (sL [2,3,4] O) (q4 (st' (v:=(pP b1 1)) (AA O underlying54 O sizeOf9 O) O (BZ 2 (Value.string (Bp a)) Tx O (st' (Bc (c:=(decide (a<18446744073709551616))) O O Cd) O (AL O ?_))))))))
 refine zg (FM:=[(2,(pP b1 0)),(3,(pP b2 0)),(4,(pP b3 0)),(15,(pP b1 1)),(16,(Value.string (Bp a))),(17,(qa (decide (a<18446744073709551616)))),(18,(qa (decide (a<18446744073709551616)))),(22,(qa ((decide (a<18446744073709551616))&&(decide (b<18446744073709551616)))))]) (LM:=[AQ b3 54 (AT 0),AQ b2 54 (AT b),AQ b1 54 (AT a)]) 4 ?_ ?_
 ·rcases xO (decide (a<18446744073709551616)) with hg1|hg1
  ·refine zJ (k:=18) (u:=qa true) O (by rw [hg1]) ?_
   have hg1':=xR hg1
   exact BN (v:=(pP b2 1)) O (AA O underlying54 O sizeOf9 O) (BN (v:=(Value.string (Bp b))) O (AP (i:=1) (v:=(Value.string (Bp b))) O O Tx.a O) (BN (v:=(qa (decide (b<18446744073709551616)))) O (Bc (c:=(decide (b<18446744073709551616))) O O Cd) (st' (v:=(qa (decide (b<18446744073709551616)))) (ex_pick_true O O) O (oNl' (zS CK (xP _))))))
  ·refine zJ (k:=18) (u:=qa false) O (by rw [hg1]) ?_
   have hg1':=xQ hg1
   exact BF O (BF O (BF O (st' (v:=(qa false)) (AN O O) O (oNl' (zS CK (xP _))))))
 refine oNl' (zB (sL [2,3,4,22] O) (zA ?_))
 refine zK O (λhc0=>?_) (λhc0=>?_)
 ·simp only [jK] at hc0
  refine q4 (st' (v:=(pP b1 0)) (AA O underlying54 O sizeOf52 O) O (BZ 2 (vK .u64 (B7 a)) G6 O (zJ (k:=25) (u:=(vK .u64 a)) O (by rw [Bj hc0.1]) (st' (v:=(pP b2 0)) (AA O underlying54 O sizeOf52 O) O (BZ 1 (vK .u64 (B7 b)) G6 O ?_)))))
  have hhi:a*b/18446744073709551616<18446744073709551616:=Nat.div_lt_of_lt_mul (Nat.mul_lt_mul'' hc0.1 hc0.2)
  refine zJ (k:=27) (u:=(vK .u64 b)) O (by rw [Bj hc0.2]) (ck' call123 (O5 a b Z Z) O (AL O (st' (AH (v:=(vK .u64 (a*b/18446744073709551616))) O O) O (st' (AH (v:=(vK .u64 (a*b%18446744073709551616))) O O) O (asg' O (asg' O (q3 (sL [2,3,4,5,6] O) (AL O (st' (An (c:=(((a*b%18446744073709551616)%4294967296:Nat):Int)) O underlying52 underlying27 Et) O (AL O (st' (DH (s:=32) (c:=(((a*b%18446744073709551616)/4294967296:Nat):Int)) O O O jY (Gr (a:=a*b%18446744073709551616) (s:=32))) O ?_)))))))))))
  refine st' (An (c:=(((a*b%18446744073709551616)/4294967296:Nat):Int)) O underlying52 underlying27 (C9 Z)) O (AL O (st' (An (c:=(((a*b/18446744073709551616)%4294967296:Nat):Int)) O underlying52 underlying27 Et) O (AL O (st' (DH (s:=32) (c:=(((a*b/18446744073709551616)/4294967296:Nat):Int)) O O O jY (Gr (a:=a*b/18446744073709551616) (s:=32))) O (st' (An (c:=(((a*b/18446744073709551616)/4294967296:Nat):Int)) O underlying52 underlying27 (C9 Z)) O (zf (V:=λb4=>(qz (jk b4) 4 4)) (T:=27) (cs:=Ak ([(a*b%18446744073709551616)%4294967296,(a*b%18446744073709551616)/4294967296,(a*b/18446744073709551616)%4294967296,(a*b/18446744073709551616)/4294967296])) (AJ O) (Ar (cs:=Ak ([(a*b%18446744073709551616)%4294967296,(a*b%18446744073709551616)/4294967296,(a*b/18446744073709551616)%4294967296,(a*b/18446744073709551616)/4294967296])) (pv:=[(0,(vK .u32 ((a*b%18446744073709551616)%4294967296))),(1,(vK .u32 ((a*b%18446744073709551616)/4294967296))),(2,(vK .u32 ((a*b/18446744073709551616)%4294967296))),(3,(vK .u32 ((a*b/18446744073709551616)/4294967296)))]) underlying169 sizeOf27 zeroValue27 jY jY O jV) O (leB O) λb4=>CC call124 (λw hw=>Jv _ 4 4 ([(a*b%18446744073709551616)%4294967296,(a*b%18446744073709551616)/4294967296,(a*b/18446744073709551616)%4294967296,(a*b/18446744073709551616)/4294967296]) (W32.cons Z (W32.cons Z (W32.cons Z (W32.cons Z (W32.nil))))) (by first|omega|(rw [rowN_length];omega)|simp|(simp;omega)) (by first|omega|simp|(simp;omega)) (by first|omega|simp|(simp;omega)) w (hw.get (i:=0) O)) O (zJ (k:=42) (u:=(aG (AT (a*b)))) O (by rw [show ∀x y z t:Nat,[x,y,z,t].take 4=[x,y,z,t] from λ_ _ _ _=>rfl,bJ Z hhi,show a*b%18446744073709551616+a*b/18446744073709551616*18446744073709551616=a*b by omega]) (DG O sizeOf54 O (oNl' (zB (sL [2,3,4] O) ?_))))))))))
  exact zA (zF (zH (ret_one O (Aa (i:=1) (cs:=AT (a*b)) O O isAgg54 sizeOf54 O) (λw hw=>⟨rfl,hw.out⟩))))
 ·simp only [jK] at hc0
  refine zI (q1 (B8 [(0,true),(2,true),(1,false),(3,false),(4,true),(5,true)] sr (Bv 2 B4 O (Bv 1 B4 O (zD O (zx (V:=λb4=>(qz (jk b4) (nw a) ((Au a).length))) (T:=27) (cs:=Ak (Au a)) (AJ O) (Ac (args:=[(aG (AT a))]) O O call85) (λw hw=>DV a Z w) O (leB O) λb4=>zC (sl sr) (zD O (zx (V:=λb5=>(qz (jk b5) (nw b) ((Au b).length))) (T:=27) (cs:=Ak (Au b)) (AJ O) (Ac (args:=[(aG (AT b))]) O O call85) (λw hw=>DV b Z w) O (leB O) λb5=>zC (sl (sl sr)) (pS' O ?_)))))))))
  refine pS' O (zP (zB (sL [2,3,4,7,8] O) (q2 (AL O (st' (v:=(vN (nw a))) (AD O underlying169) O (AL O (st' (v:=(vN (nw b))) (AD O underlying169) O (st' (Ad (c:=(((nw a)+(nw b):Nat):Int)) O O (Ab (a:=nw a) (b:=nw b) Z)) O (zf (V:=λb6=>(qz (jk b6) ((nw a)+(nw b)) ((nw a)+(nw b)))) (T:=27) (cs:=Ak (List.replicate ((nw a)+(nw b)) 0)) (AJ O) (Di (m:=(nw a)+(nw b)) (c:=(nw a)+(nw b)) O O Z Z) O (leB O) λb6=>asg' O (q6 (sL [2,3,4,7,8,9] O) ?_))))))))))
  refine q4 (AL O (st' (v:=(vN (nw a))) (AD O underlying169) O (AL O (oNl' (zA (zN ?_))))))
  refine yE (tg λ(i:Nat) (os:List Nat)=>i<=nw a/\os.length=nw a+nw b/\W32 os/\val os=val ((AK a).take i)*b) (tg λ(i:Nat) (os:List Nat)=>[(4,(pP b3 0)),(8,(qz (jk b5) (nw b) ((Au b).length))),(9,(qz (jk b6) ((nw a)+(nw b)) ((nw a)+(nw b)))),(53,(qz (jk b4) (nw a) ((Au a).length))),(54,(vN (nw a))),(55,(vN i))]) (tg λ(i:Nat) (os:List Nat)=>[AQ b6 27 (Ak os),AQ b5 27 (Ak (Au b)),AQ b4 27 (Ak (Au a)),AQ b3 54 (AT 0),AQ b2 54 (AT b),AQ b1 54 (AT a)]) (tg λ(i:Nat) (os:List Nat)=>nw a-i) 0 (List.replicate (nw a+nw b) 0) (⟨xH _,by simp,W32.zeros _,by rw [El];simp [val]⟩) (sF O) sr (λi os hJ=>?_)
  obtain ⟨hi,hl,hw32,hv⟩:=hJ
  refine q4 (st' (Ag (c:=(decide (i<(nw a)))) O O (DL (a:=i) (b:=nw a))) O (oNl' (q1 ?_)))
  refine zK O (λhc1=>?_) (λhc1=>?_)
  ·replace hc1:=xR hc1
   refine zI (q1 (zN (q4 (AL O (st' (v:=(pP b4 i)) (AG (j:=i) O O underlying169 sizeOf27 O Z jX) O ?_)))))
   have hx1:(Au a).getD i 0<4294967296:=W32.getD (CR a) i
   refine st' (AP (i:=2) (v:=(vK .u32 ((Au a).getD i 0))) O O isAgg27 (BC (xs:=Au a) (j:=i) Z)) O (zJ (k:=59) (u:=(vK .u32 ((AK a).getD i 0))) O (by rw [Dj hc1]) (asg' O (asg' O (q3 (sL [4,8,9,53,54,55,10,11] O) (asg' O (oNl' (q1 (q4 (AL O (st' (v:=(vN (nw b))) (AD O underlying169) O (AL O ?_)))))))))))
   refine oNl' (zA (zN ?_))
   refine yI (tg λ(k:Nat) (xs:List Nat) (c:Nat)=>k<=nw b/\xs.length=nw a+nw b/\W32 xs/\c<4294967296/\(∀j,i+nw b<=j->xs.getD j 0=0)/\val xs+c*4294967296^(i+k)=val ((AK a).take i)*b+(AK a).getD i 0*val ((AK b).take k)*4294967296^i) (tg λ(k:Nat) (xs:List Nat) (c:Nat)=>[(4,(pP b3 0)),(8,(qz (jk b5) (nw b) ((Au b).length))),(9,(qz (jk b6) ((nw a)+(nw b)) ((nw a)+(nw b)))),(53,(qz (jk b4) (nw a) ((Au a).length))),(54,(vN (nw a))),(55,(vN i)),(10,(vN i)),(11,(vK .u32 ((AK a).getD i 0))),(60,(qz (jk b5) (nw b) ((Au b).length))),(61,(vN (nw b))),(62,(vN k)),(12,(vK .u64 c))]) (tg λ(k:Nat) (xs:List Nat) (c:Nat)=>[AQ b6 27 (Ak xs),AQ b5 27 (Ak (Au b)),AQ b4 27 (Ak (Au a)),AQ b3 54 (AT 0),AQ b2 54 (AT b),AQ b1 54 (AT a)]) (tg λ(k:Nat) (xs:List Nat) (c:Nat)=>nw b-k) 0 os 0 (⟨xH _,hl,hw32,Z,RH hv,by rw [hv];simp [val]⟩) (sF O) sr (λk xs c hJ=>?_)
   obtain ⟨hk,hl2,hw2,hcc,h02,hv2⟩:=hJ
   refine q4 (st' (Ag (c:=(decide (k<(nw b)))) O O (DL (a:=k) (b:=nw b))) O (oNl' (q1 ?_)))
   refine zK O (λhc2=>?_) (λhc2=>?_)
   ·replace hc2:=xR hc2
    refine zI (q1 (zN (q4 (AL O (st' (v:=(pP b5 k)) (AG (j:=k) O O underlying169 sizeOf27 O Z jX) O ?_)))))
    have hx2:(Au b).getD k 0<4294967296:=W32.getD (CR b) k
    refine st' (AP (i:=1) (v:=(vK .u32 ((Au b).getD k 0))) O O isAgg27 (BC (xs:=Au b) (j:=k) Z)) O (zJ (k:=66) (u:=(vK .u32 ((AK b).getD k 0))) O (by rw [Dj hc2]) (asg' O (asg' O (q3 (sL [4,8,9,53,54,55,10,11,60,61,62,12,13,14] O) (AL O (AL O ?_))))))
    have hwa:=(Bw a).getD i
    have hwb:=(Bw b).getD k
    have hml:=LC hwa hwb
    refine st' (An (c:=(((AK a).getD i 0:Nat):Int)) O underlying27 underlying52 (BO Z)) O (AL O (st' (An (c:=(((AK b).getD k 0:Nat):Int)) O underlying27 underlying52 (BO Z)) O (st' (EO (c:=((((AK a).getD i 0)*((AK b).getD k 0):Nat):Int)) O O (FW (a:=(AK a).getD i 0) (b:=(AK b).getD k 0) Z)) O (AL O (AL O (AL O (st' (Ad (c:=((i+k:Nat):Int)) O O (Ab (a:=i) (b:=k) Z)) O (st' (v:=(pP b6 (i+k))) (AG (j:=i+k) O O underlying169 sizeOf27 O Z jX) O ?_))))))))
    have hx3:xs.getD (i+k) 0<4294967296:=W32.getD hw2 (i+k)
    refine st' (AP (i:=0) (v:=(vK .u32 (xs.getD (i+k) 0))) O O isAgg27 (BC (xs:=xs) (j:=(i+k)) Z)) O (st' (An (c:=((xs.getD (i+k) 0:Nat):Int)) O underlying27 underlying52 (BO Z)) O (st' (Ad (c:=(((((AK a).getD i 0)*((AK b).getD k 0))+(xs.getD (i+k) 0):Nat):Int)) O O (Dx (a:=((AK a).getD i 0)*((AK b).getD k 0)) (b:=xs.getD (i+k) 0) Z)) O (st' (Ad (c:=((c+((((AK a).getD i 0)*((AK b).getD k 0))+(xs.getD (i+k) 0)):Nat):Int)) O O (Dx (a:=c) (b:=(((AK a).getD i 0)*((AK b).getD k 0))+(xs.getD (i+k) 0)) Z)) O (asg' O (q3 (sL [4,8,9,53,54,55,10,11,60,61,62,12,13] O) (AL O (AL O (AL O (st' (Ad (c:=((i+k:Nat):Int)) O O (Ab (a:=i) (b:=k) Z)) O (AL O (st' (An (c:=(((c+((((AK a).getD i 0)*((AK b).getD k 0))+(xs.getD (i+k) 0)))%4294967296:Nat):Int)) O underlying52 underlying27 Et) O ?_)))))))))))
    refine st' (v:=(pP b6 (i+k))) (AG (j:=i+k) O O underlying169 sizeOf27 O Z jX) O (zo (i:=0) (off:=(i+k)) (vs:=[(vK .u32 ((c+((((AK a).getD i 0)*((AK b).getD k 0))+(xs.getD (i+k) 0)))%4294967296))]) (cs':=Ak (xs.set (i+k) ((c+((((AK a).getD i 0)*((AK b).getD k 0))+(xs.getD (i+k) 0)))%4294967296))) (L':=[AQ b6 27 (Ak (xs.set (i+k) ((c+((((AK a).getD i 0)*((AK b).getD k 0))+(xs.getD (i+k) 0)))%4294967296))),AQ b5 27 (Ak (Au b)),AQ b4 27 (Ak (Au a)),AQ b3 54 (AT 0),AQ b2 54 (AT b),AQ b1 54 (AT a)]) (AJ O) O O O O O sizeOf27 O (C4 (BS _) Z) (CS Z) O (oNl' (zB (sL [4,8,9,53,54,55,10,11,60,61,62,12,13] O) (zA (zL (AL O (st' (DH (s:=32) (c:=(((c+((((AK a).getD i 0)*((AK b).getD k 0))+(xs.getD (i+k) 0)))/4294967296:Nat):Int)) O O O jY (Gr (a:=c+((((AK a).getD i 0)*((AK b).getD k 0))+(xs.getD (i+k) 0))) (s:=32))) O (asg' O (oNl' (zB (sL [4,8,9,53,54,55,10,11,60,61,62,12,13] O) (zM ?_)))))))))))
    exact zA (zL (st' (Ad (c:=((k+1:Nat):Int)) O O (Ab (a:=k) (b:=1) Z)) O (AL O (oNl' (zB (sL [4,8,9,53,54,55,10,11,60,61,62,12,13] O) (z6 (k+1) (xs.set (i+k) ((c+((AK a).getD i 0*(AK b).getD k 0+xs.getD (i+k) 0))%4294967296)) ((c+((AK a).getD i 0*(AK b).getD k 0+xs.getD (i+k) 0))/4294967296) (⟨Z,by rw [List.length_set];exact hl2,W32.set hw2 Z _,Z,GD h02 Z,Vf hl2 Z hv2⟩) Z (sF O) sr))))))
   ·replace hc2:=xQ hc2
    have hkn:k=nw b:=by omega
    have hbb:val ((AK b).take k)=b:=Dn Z
    rw [hbb] at hv2
    refine zW (zO (zi (zR (zA (zL (AL O (AL O (AL O (st' (v:=(vN (nw b))) (AD O underlying169) O (st' (Ad (c:=((i+(nw b):Nat):Int)) O O (Ab (a:=i) (b:=nw b) Z)) O (AL O ?_)))))))))))
    exact st' (An (c:=((c:Nat):Int)) O underlying52 underlying27 (C9 Z)) O (st' (v:=(pP b6 (i+(nw b)))) (AG (j:=i+(nw b)) O O underlying169 sizeOf27 O Z jX) O (zo (i:=0) (off:=(i+(nw b))) (vs:=[(vK .u32 c)]) (cs':=Ak (xs.set (i+(nw b)) c)) (L':=[AQ b6 27 (Ak (xs.set (i+(nw b)) c)),AQ b5 27 (Ak (Au b)),AQ b4 27 (Ak (Au a)),AQ b3 54 (AT 0),AQ b2 54 (AT b),AQ b1 54 (AT a)]) (AJ O) O O O O O sizeOf27 O (C4 (BS _) Z) (CS Z) O (oNl' (zB (sL [4,8,9,53,54,55,10,11,60,61,62,12] O) (zM (zA (zL (st' (Ad (c:=((i+1:Nat):Int)) O O (Ab (a:=i) (b:=1) Z)) O (AL O (oNl' (zB (sL [4,8,9,53,54,55,10,11,60,61,62,12] O) (zl (i+1) (xs.set (i+nw b) c) (⟨Z,by rw [List.length_set];exact hl2,W32.set hw2 hcc _,by rw [If hl2 Z (h02 _ (Nat.le_refl _)),<-YN,<-hv2,<-hkn]⟩) Z (sF O) sr))))))))))))
  ·replace hc1:=xQ hc1
   refine zW (zO (zh (zR (q2 (AL O (CC call124 (λw hw=>Jv _ ((nw a)+(nw b)) ((nw a)+(nw b)) os hw32 (by first|omega|(rw [rowN_length];omega)|simp|(simp;omega)) (by first|omega|simp|(simp;omega)) (by first|omega|simp|(simp;omega)) w (hw.get (i:=0) O)) O (zJ (k:=102) (u:=(aG (AT (a*b)))) O (by rw [List.take_of_length_le (show os.length<=nw a+nw b by omega),hv,Dn Z]) (Fd O sizeOf54 O (oNl' (zB (sL [4,8,9,53,54,55] O) (zA ?_)))))))))))
   exact zF (ret_one O (Aa (i:=3) (cs:=AT (a*b)) O O isAgg54 sizeOf54 O) (λw hw=>⟨rfl,hw.out⟩))
end
end Go.Proofs.YtcpkbjjmcleplaaGreatDoor
