import Derived.Test.YtcpkbjjmcleplaaGreatDoorPart10
namespace Go.Proofs.YtcpkbjjmcleplaaGreatDoor
open Go Go.RowKit Go.Proofs.Tryz
open Go.Value renaming slice→qz,bool→qa
set_option linter.unusedVariables false
set_option linter.unusedSimpArgs false
section
set_option maxRecDepth 100000
theorem VW (a b:Nat) (ha:nw a<=1099511627776) (hb:nw b<=1099511627776) (w:World)  :Calls prog 167 #[(aG (AW a)),(aG (AW b))] w (Ac w (vI (Dv a b))):=by
 refine AV (args:=[(aG (AW a)),(aG (AW b))]) func167 O O (leB O) (zI (sL [0,1] O) (q4 (BH (cs:=AW a) O λb1=>BH (cs:=AW b) O λb2=>asg' O (q6 (sL [2,3,4] O) (q4 (st' (v:=(pP b1 1)) (AA O underlying54 O sizeOf9 O) O (BL 1 (Value.string (Bw a)) VD O (st' (Bh (c:=(decide (a<18446744073709551616))) O O Cv) O (AK O ?_)))))))))
 refine zg (FM:=[(2,(pP b1 0)),(3,(pP b2 0)),(4,(vI 0)),(5,(pP b1 1)),(6,(Value.string (Bw a))),(7,(qa (decide (a<18446744073709551616)))),(8,(qa (decide (a<18446744073709551616)))),(12,(qa ((decide (a<18446744073709551616))&&(decide (b<18446744073709551616)))))]) (LM:=[AO b2 54 (AW b),AO b1 54 (AW a)]) 4 ?_ ?_
 ·rcases xO (decide (a<18446744073709551616)) with hg1|hg1
  ·refine zN (k:=8) (u:=qa true) O (by rw [hg1]) ?_
   have hg1':=xR hg1
   exact BV (v:=(pP b2 1)) O (AA O underlying54 O sizeOf9 O) (BV (v:=(Value.string (Bw b))) O (AR (i:=0) (v:=(Value.string (Bw b))) O O VD.a O) (BV (v:=(qa (decide (b<18446744073709551616)))) O (Bh (c:=(decide (b<18446744073709551616))) O O Cv) (st' (v:=(qa (decide (b<18446744073709551616)))) (ex_pick_true O O) O (oNl' (zT CT (xP _))))))
  ·refine zN (k:=8) (u:=qa false) O (by rw [hg1]) ?_
   have hg1':=xQ hg1
   exact BP O (BP O (BP O (st' (v:=(qa false)) (AN O O) O (oNl' (zT CT (xP _))))))
 refine oNl' (zB (sL [2,3,4,12] O) (zA ?_))
 refine yn (tg True) (tg [(2,(pP b1 0)),(3,(pP b2 0))]) (tg [AO b2 54 (AW b),AO b1 54 (AW a)]) ?_ ?_
 ·refine zK O (λhc0=>?_) (λhc0=>?_)
  ·simp only [jK] at hc0
   refine zS (zM (q4 (st' (v:=(pP b1 0)) (AA O underlying54 O sizeOf52 O) O (BL 1 (vK .u64 (CM a)) Hb O (zN (k:=15) (u:=(vK .u64 a)) O (by rw [Bp hc0.1]) (st' (v:=(pP b2 0)) (AA O underlying54 O sizeOf52 O) O (BL 0 (vK .u64 (CM b)) Hb O (zN (k:=17) (u:=(vK .u64 b)) O (by rw [Bp hc0.2]) (st' (Aa (c:=(decide (a<b))) O O (DE (a:=a) (b:=b))) O (asg' O (oNl' ?_)))))))))))
   refine zB (sL [2,3,4,13] O) (zA ?_)
   refine zK O (λhc1=>?_) (λhc1=>?_)
   ·replace hc1:=xR hc1
    have hz:Dv a b = -1:=if_pos hc1
    exact q4 (asg' O (oNl' (zA (zF (zV (zL (ya (zL (ret_one O (rd_tmp (v:=(vI (-1:Int))) O) (λw hw=>⟨by rw [hz],hw.out⟩))))))))))
   ·replace hc1:=xQ hc1
    refine q4 (st' (v:=(pP b1 0)) (AA O underlying54 O sizeOf52 O) O (BL 1 (vK .u64 (CM a)) Hb O (zN (k:=21) (u:=(vK .u64 a)) O (by rw [Bp hc0.1]) (st' (v:=(pP b2 0)) (AA O underlying54 O sizeOf52 O) O (BL 0 (vK .u64 (CM b)) Hb O (zN (k:=23) (u:=(vK .u64 b)) O (by rw [Bp hc0.2]) (st' (CC (c:=(decide (b<a))) O O (DE (a:=b) (b:=a))) O (asg' O (oNl' (zB (sL [2,3,4,19] O) (zA ?_)))))))))))
    refine zK O (λhc2=>?_) (λhc2=>?_)
    ·replace hc2:=xR hc2
     have hz:Dv a b=1:=by unfold Dv;rw [if_neg Z,if_neg Z]
     exact q4 (asg' O (oNl' (zA (zF (zV (zL (ya (zL (ret_one O (rd_tmp (v:=(vI 1)) O) (λw hw=>⟨by rw [hz],hw.out⟩))))))))))
    ·replace hc2:=xQ hc2
     have hz:Dv a b=0:=OK.2 Z
     exact zG (zJ (q2 (asg' O (oNl' (zA (zF (ya (zL (ret_one O (rd_tmp (v:=(vI 0)) O) (λw hw=>⟨by rw [hz],hw.out⟩))))))))))
  ·simp only [jK] at hc0
   exact zG (yK  (trivial) (sF O) sr)
 ·intro hJ
  refine q1 (B9 [(0,true),(2,true),(1,false),(3,false),(4,false),(5,true)] sr (B3 1 CH O (B3 0 CH O (zD O (yB (V:=λb3=>(qz (jk b3) (nw a) ((Ax a).length))) (T:=27) (cs:=Ap (Ax a)) (AG O) (Ag (args:=[(aG (AW a))]) O O call85) (λw hw=>Do a Z w) O (leB O) λb3=>zC (sl sr) (zD O (yB (V:=λb4=>(qz (jk b4) (nw b) ((Ax b).length))) (T:=27) (cs:=Ap (Ax b)) (AG O) (Ag (args:=[(aG (AW b))]) O O call85) (λw hw=>Do b Z w) O (leB O) λb4=>zC (sl (sl sr)) (zD O (CQ call196 (λw hw=>bv a b _ _ _ _ Z Z w (hw.get (i:=1) O) (hw.get (i:=0) O)) O ?_)))))))))
  exact zC (sl (sl sr)) (pS' O (zP (zB (sL [2,3,4] O) (zA (zF (ret_one O (rd_tmp (v:=(vI (Dv a b))) O) (λw hw=>⟨rfl,hw.out⟩)))))))
theorem VV (a b:Nat) (ha:nw a<=1099511627776) (hb:nw b<=1099511627776) (w:World)  :Calls prog 92 #[(aG (AW a)),(aG (AW b))] w (Ac w (aG (AW (a+b)))):=by
 have hla:=Cd a
 have hlb:=Cd b
 refine AV (args:=[(aG (AW a)),(aG (AW b))]) func92 O O (leB O) (zI (sL [0,1] O) (q4 (BH (cs:=AW a) O λb1=>BH (cs:=AW b) O λb2=>al HM O λb3=>q6 (sL [2,3,4] O) (q4 (st' (v:=(pP b1 1)) (AA O underlying54 O sizeOf9 O) O (BL 2 (Value.string (Bw a)) VD O (st' (Bh (c:=(decide (a<18446744073709551616))) O O Cv) O (AK O ?_))))))))
 refine zg (FM:=[(2,(pP b1 0)),(3,(pP b2 0)),(4,(pP b3 0)),(13,(pP b1 1)),(14,(Value.string (Bw a))),(15,(qa (decide (a<18446744073709551616)))),(16,(qa (decide (a<18446744073709551616)))),(20,(qa ((decide (a<18446744073709551616))&&(decide (b<18446744073709551616)))))]) (LM:=[AO b3 54 (AW 0),AO b2 54 (AW b),AO b1 54 (AW a)]) 4 ?_ ?_
 ·rcases xO (decide (a<18446744073709551616)) with hg1|hg1
  ·refine zN (k:=16) (u:=qa true) O (by rw [hg1]) ?_
   have hg1':=xR hg1
   exact BV (v:=(pP b2 1)) O (AA O underlying54 O sizeOf9 O) (BV (v:=(Value.string (Bw b))) O (AR (i:=1) (v:=(Value.string (Bw b))) O O VD.a O) (BV (v:=(qa (decide (b<18446744073709551616)))) O (Bh (c:=(decide (b<18446744073709551616))) O O Cv) (st' (v:=(qa (decide (b<18446744073709551616)))) (ex_pick_true O O) O (oNl' (zT CT (xP _))))))
  ·refine zN (k:=16) (u:=qa false) O (by rw [hg1]) ?_
   have hg1':=xQ hg1
   exact BP O (BP O (BP O (st' (v:=(qa false)) (AN O O) O (oNl' (zT CT (xP _))))))
 refine oNl' (zB (sL [2,3,4,20] O) (zA ?_))
 refine yn (tg True) (tg [(2,(pP b1 0)),(3,(pP b2 0)),(4,(pP b3 0))]) (tg [AO b3 54 (AW 0),AO b2 54 (AW b),AO b1 54 (AW a)]) ?_ ?_
 ·refine zK O (λhc0=>?_) (λhc0=>?_)
  ·simp only [jK] at hc0
   refine q4 (st' (v:=(pP b1 0)) (AA O underlying54 O sizeOf52 O) O (BL 2 (vK .u64 (CM a)) Hb O (zN (k:=23) (u:=(vK .u64 a)) O (by rw [Bp hc0.1]) (st' (v:=(pP b2 0)) (AA O underlying54 O sizeOf52 O) O (BL 1 (vK .u64 (CM b)) Hb O (zN (k:=25) (u:=(vK .u64 b)) O (by rw [Bp hc0.2]) (st' (v:=(Value.tuple #[(vK .u64 ((a+b+0)%18446744073709551616)),(vK .u64 ((a+b+0)/18446744073709551616))])) (UB (args:=[(vK .u64 a),(vK .u64 b),(Value.int .u64 (0:Int))]) O O (λw=>U4 func145 jV jV jV jV a b 0 Z w)) O (AK O (st' (AJ (v:=(vK .u64 ((a+b+0)%18446744073709551616))) O O) O (st' (AJ (v:=(vK .u64 ((a+b+0)/18446744073709551616))) O O) O (asg' O ?_)))))))))))
   refine asg' O (q3 (sL [2,3,4,5,6] O) (AK O (st' (Au (c:=(decide (((a+b+0)/18446744073709551616)=0))) O O (K0 (a:=(a+b+0)/18446744073709551616) (b:=0))) O (oNl' (zB (sL [2,3,4,5,30] O) (zA ?_))))))
   refine zK O (λhc1=>?_) (λhc1=>?_)
   ·replace hc1:=xR hc1
    exact q4 (AK O (st' (v:=(aG ([(vK .u64 ((a+b+0)%18446744073709551616)),(Value.string (Bw 0))]))) (AS (zs:=AW 0) (vs:=[(vK .u64 ((a+b+0)%18446744073709551616)),(Value.string (Bw 0))]) (pv:=[(0,(vK .u64 ((a+b+0)%18446744073709551616)))]) (places:=[(0,1),(1,1)]) zeroValue54 underlying54 (λw=>by simp [sizeOf9,sizeOf52]) O O) O (zN (k:=32) (u:=(aG (AW (a+b)))) O (by rw [Ed Z,show (a+b+0)%18446744073709551616=a+b by omega];rfl) (An O sizeOf54 O (oNl' (zB (sL [2,3,4] O) (zA (zF (ya (zL (ret_one O (Ab (i:=0) (cs:=AW (a+b)) O O isAgg54 sizeOf54 O) (λw hw=>⟨rfl,hw.out⟩))))))))))))
   ·replace hc1:=xQ hc1
    exact zG (yK  (trivial) (sF O) sr)
  ·simp only [jK] at hc0
   exact zG (yK  (trivial) (sF O) sr)
 ·intro hJ
  refine q1 (B9 [(0,true),(2,true),(1,false),(3,false),(4,true),(5,true)] sr (B3 2 CH O (B3 1 CH O (zD O (yB (V:=λb4=>(qz (jk b4) (nw a) ((Ax a).length))) (T:=27) (cs:=Ap (Ax a)) (AG O) (Ag (args:=[(aG (AW a))]) O O call85) (λw hw=>Do a Z w) O (leB O) λb4=>zC (sl sr) (zD O (yB (V:=λb5=>(qz (jk b5) (nw b) ((Ax b).length))) (T:=27) (cs:=Ap (Ax b)) (AG O) (Ag (args:=[(aG (AW b))]) O O call85) (λw hw=>Do b Z w) O (leB O) λb5=>zC (sl (sl sr)) (pS' O (pS' O ?_)))))))))
  refine zP (zB (sL [2,3,4,7,8] O) (q1 (q4 (AK O (st' (v:=(vN (nw a))) (AD O underlying169) O (AK O (st' (v:=(vN (nw b))) (AD O underlying169) O (st' (Aa (c:=(decide ((nw a)<(nw b)))) O O (DE (a:=nw a) (b:=nw b))) O (oNl' (zB (sL [2,3,4,7,8,41] O) (zA ?_)))))))))))
  refine zK O (λhc2=>?_) (λhc2=>?_)
  ·replace hc2:=xR hc2
   refine zH (AK O (AK O (asg' O (asg' O (q3 (sL [2,3,4,7,8] O) (AK O (st' (v:=(vN (nw b))) (AD O underlying169) O (st' (AX (c:=(((nw b)+1:Nat):Int)) O O (AU (a:=nw b) (b:=1) Z)) O (zZ (V:=λb6=>(qz (jk b6) ((nw b)+1) ((nw b)+1))) (T:=27) (cs:=Ap (List.replicate ((nw b)+1) 0)) (AG O) (D7 (m:=(nw b)+1) (c:=(nw b)+1) O O Z Z) O (leB O) λb6=>asg' O (q3 (sL [2,3,4,7,8,9] O) ?_))))))))))
   refine AK O (AK O (yv (i:=0) (j:=1) (ns:=Ap (AL b)) (cs':=Ap (AL b++(List.replicate (nw b+1) 0).drop (AL b).length)) (L':=[AO b6 27 (Ap (AL b++(List.replicate (nw b+1) 0).drop (AL b).length)),AO b5 27 (Ap (Ax b)),AO b4 27 (Ap (Ax a)),AO b3 54 (AW 0),AO b2 54 (AW b),AO b1 54 (AW a)]) O (AG O) O O O O (by rw [N7,JJ]) (Ba _) (Qh _) Z (by rw [Ba];simp;try omega) (Qi _ _) O (leB O) (q3 (sL [2,3,4,7,8,9] O) (asg' O (oNl' (q1 (q4 (AK O (st' (v:=(vN ((nw b)+1))) (AD O underlying169) O (AK O (oNl' ?_)))))))))))
   refine zB (sL [2,3,4,7,8,9,10,52,53] O) (zA (zM ?_))
   refine yM (tg λ(i:Nat) (os:List Nat) (c:Nat)=>i<=nw b+1/\os.length=nw b+1/\W32 os/\c<=1/\val os+c*4294967296^i=b+val ((AL a).take i)) (tg λ(i:Nat) (os:List Nat) (c:Nat)=>[(4,(pP b3 0)),(8,(qz (jk b4) (nw a) ((Ax a).length))),(9,(qz (jk b6) ((nw b)+1) ((nw b)+1))),(52,(vN ((nw b)+1))),(53,(vN i)),(10,(vK .u32 c))]) (tg λ(i:Nat) (os:List Nat) (c:Nat)=>[AO b6 27 (Ap os),AO b5 27 (Ap (Ax b)),AO b4 27 (Ap (Ax a)),AO b3 54 (AW 0),AO b2 54 (AW b),AO b1 54 (AW a)]) (tg λ(i:Nat) (os:List Nat) (c:Nat)=>nw b+1-i) 0 (AL b++(List.replicate (nw b+1) 0).drop (AL b).length) 0 (⟨xH _,(GY b 1).1,(GY b 1).2.1,Z,by rw [(GY b 1).2.2];simp [val]⟩) (sF O) sr (λi os c hJ=>?_)
   obtain ⟨hi,hl,hw32,hcc,hv⟩:=hJ
   refine q4 (st' (Aa (c:=(decide (i<((nw b)+1)))) O O (DE (a:=i) (b:=(nw b)+1))) O (oNl' (q1 ?_)))
   refine zK O (λhc3=>?_) (λhc3=>?_)
   ·replace hc3:=xR hc3
    refine zG (q1 (zM (q4 (AK O (asg' O (q3 (sL [4,8,9,52,53,10,11] O) (asg' O (oNl' (q1 (q4 (AK O ?_)))))))))))
    refine AK O (st' (v:=(vN (nw a))) (AD O underlying169) O (st' (Aa (c:=(decide (i<(nw a)))) O O (DE (a:=i) (b:=nw a))) O (oNl' (zB (sL [4,8,9,52,53,10,11,12,59] O) (zA ?_)))))
    refine yn (tg True) (tg [(4,(pP b3 0)),(8,(qz (jk b4) (nw a) ((Ax a).length))),(9,(qz (jk b6) ((nw b)+1) ((nw b)+1))),(52,(vN ((nw b)+1))),(53,(vN i)),(10,(vK .u32 c)),(11,(vN i)),(12,(vK .u32 ((AL a).getD i 0)))]) (tg [AO b6 27 (Ap os),AO b5 27 (Ap (Ax b)),AO b4 27 (Ap (Ax a)),AO b3 54 (AW 0),AO b2 54 (AW b),AO b1 54 (AW a)]) ?_ ?_
    ·refine zK O (λhc4=>?_) (λhc4=>?_)
     ·replace hc4:=xR hc4
      refine zH (AK O (AK O (st' (v:=(pP b4 i)) (AH (j:=i) O O underlying169 sizeOf27 O Z jX) O ?_)))
      have hx1:(Ax a).getD i 0<4294967296:=W32.getD (Ci a) i
      exact st' (AR (i:=2) (v:=(vK .u32 ((Ax a).getD i 0))) O O isAgg27 (BM (xs:=Ax a) (j:=i) Z)) O (zN (k:=63) (u:=(vK .u32 ((AL a).getD i 0))) O (by rw [D8 hc4]) (asg' O (oNl' (zB (sL [4,8,9,52,53,10,11,12] O) (yK  (trivial) (sF O) sr)))))
     ·replace hc4:=xQ hc4
      exact zG (yf (k:=12) (u:=Value.int .u32 (((AL a).getD i 0:Nat):Int)) O (by rw [Fj hc4];rfl) (yK  (trivial) (sF O) sr))
    ·intro hJ
     refine zA (zH (AK O (AK O (AK O (AK O (st' (v:=(pP b6 i)) (AH (j:=i) O O underlying169 sizeOf27 O Z jX) O ?_))))))
     have hx2:os.getD i 0<4294967296:=W32.getD hw32 i
     refine st' (AR (i:=0) (v:=(vK .u32 (os.getD i 0))) O O isAgg27 (BM (xs:=os) (j:=i) Z)) O (AK O (AK O ?_))
     have hya:=(B7 a).getD i
     have hyb:=(B7 b).getD i
     refine ck' call146 (LQ (os.getD i 0) ((AL a).getD i 0) c Z Z Z) O (AK O (st' (AJ (v:=(vK .u32 (((os.getD i 0)+((AL a).getD i 0)+c)%4294967296))) O O) O (st' (AJ (v:=(vK .u32 (((os.getD i 0)+((AL a).getD i 0)+c)/4294967296))) O O) O (st' (v:=(pP b6 i)) (AH (j:=i) O O underlying169 sizeOf27 O Z jX) O (zu (i:=0) (off:=i) (vs:=[(vK .u32 (((os.getD i 0)+((AL a).getD i 0)+c)%4294967296))]) (cs':=Ap (os.set i (((os.getD i 0)+((AL a).getD i 0)+c)%4294967296))) (L':=[AO b6 27 (Ap (os.set i (((os.getD i 0)+((AL a).getD i 0)+c)%4294967296))),AO b5 27 (Ap (Ax b)),AO b4 27 (Ap (Ax a)),AO b3 54 (AW 0),AO b2 54 (AW b),AO b1 54 (AW a)]) (AG O) O O O O O sizeOf27 O (DL (Ba _) Z) (Ck Z) O (asg' O (oNl' (zB (sL [4,8,9,52,53,10,11,12] O) (zJ (zA (zH ?_)))))))))))
     exact st' (AX (c:=((i+1:Nat):Int)) O O (AU (a:=i) (b:=1) Z)) O (AK O (oNl' (zB (sL [4,8,9,52,53,10,11,12] O) (yD (i+1) (os.set i ((os.getD i 0+(AL a).getD i 0+c)%4294967296)) ((os.getD i 0+(AL a).getD i 0+c)/4294967296) (⟨Z,by rw [List.length_set];exact hl,W32.set hw32 Z i,Z,PV hl hc3 hv⟩) Z (sF O) sr))))
   ·replace hc3:=xQ hc3
    refine zW (zO (zo (zR (q2 (AK O (CQ call124 (λw hw=>KT _ ((nw b)+1) ((nw b)+1) os hw32 (by first|omega|(rw [rowN_length];omega)|simp|(simp;omega)) (by first|omega|simp|(simp;omega)) (by first|omega|simp|(simp;omega)) w (hw.get (i:=0) O)) O (zN (k:=79) (u:=(aG (AW (a+b)))) O (by rw [List.take_of_length_le (show os.length<=nw b+1 by omega),PU (X:=b) (Y:=a) (c:=c) (i:=i) hl hw32 Z (X2 Z) (by rw [hv,EC Z]),Nat.add_comm]) (F8 O sizeOf54 O (oNl' (zB (sL [4,8,9,52,53,10] O) (zA ?_)))))))))))
    exact zF (ret_one O (Ab (i:=3) (cs:=AW (a+b)) O O isAgg54 sizeOf54 O) (λw hw=>⟨rfl,hw.out⟩))
  ·replace hc2:=xQ hc2
   refine zG (q2 (AK O (st' (v:=(vN (nw a))) (AD O underlying169) O (st' (AX (c:=(((nw a)+1:Nat):Int)) O O (AU (a:=nw a) (b:=1) Z)) O (zZ (V:=λb6=>(qz (jk b6) ((nw a)+1) ((nw a)+1))) (T:=27) (cs:=Ap (List.replicate ((nw a)+1) 0)) (AG O) (D7 (m:=(nw a)+1) (c:=(nw a)+1) O O Z Z) O (leB O) λb6=>asg' O (q3 (sL [2,3,4,7,8,9] O) (AK O (AK O (yv (i:=0) (j:=2) (ns:=Ap (AL a)) (cs':=Ap (AL a++(List.replicate (nw a+1) 0).drop (AL a).length)) (L':=[AO b6 27 (Ap (AL a++(List.replicate (nw a+1) 0).drop (AL a).length)),AO b5 27 (Ap (Ax b)),AO b4 27 (Ap (Ax a)),AO b3 54 (AW 0),AO b2 54 (AW b),AO b1 54 (AW a)]) O (AG O) O O O O (by rw [N7,JJ]) (Ba _) (Qh _) Z (by rw [Ba];simp;try omega) (Qi _ _) O (leB O) (q3 (sL [2,3,4,7,8,9] O) ?_))))))))))
   refine asg' O (oNl' (q1 (q4 (AK O (st' (v:=(vN ((nw a)+1))) (AD O underlying169) O (AK O (oNl' (zB (sL [2,3,4,7,8,9,10,52,53] O) (zA (zM ?_))))))))))
   refine yM (tg λ(i:Nat) (os:List Nat) (c:Nat)=>i<=nw a+1/\os.length=nw a+1/\W32 os/\c<=1/\val os+c*4294967296^i=a+val ((AL b).take i)) (tg λ(i:Nat) (os:List Nat) (c:Nat)=>[(4,(pP b3 0)),(8,(qz (jk b5) (nw b) ((Ax b).length))),(9,(qz (jk b6) ((nw a)+1) ((nw a)+1))),(52,(vN ((nw a)+1))),(53,(vN i)),(10,(vK .u32 c))]) (tg λ(i:Nat) (os:List Nat) (c:Nat)=>[AO b6 27 (Ap os),AO b5 27 (Ap (Ax b)),AO b4 27 (Ap (Ax a)),AO b3 54 (AW 0),AO b2 54 (AW b),AO b1 54 (AW a)]) (tg λ(i:Nat) (os:List Nat) (c:Nat)=>nw a+1-i) 0 (AL a++(List.replicate (nw a+1) 0).drop (AL a).length) 0 (⟨xH _,(GY a 1).1,(GY a 1).2.1,Z,by rw [(GY a 1).2.2];simp [val]⟩) (sF O) sr (λi os c hJ=>?_)
   obtain ⟨hi,hl,hw32,hcc,hv⟩:=hJ
   refine q4 (st' (Aa (c:=(decide (i<((nw a)+1)))) O O (DE (a:=i) (b:=(nw a)+1))) O (oNl' (q1 ?_)))
   refine zK O (λhc3=>?_) (λhc3=>?_)
   ·replace hc3:=xR hc3
    refine zG (q1 (zM (q4 (AK O (asg' O (q3 (sL [4,8,9,52,53,10,11] O) (asg' O (oNl' (q1 (q4 (AK O ?_)))))))))))
    refine AK O (st' (v:=(vN (nw b))) (AD O underlying169) O (st' (Aa (c:=(decide (i<(nw b)))) O O (DE (a:=i) (b:=nw b))) O (oNl' (zB (sL [4,8,9,52,53,10,11,12,59] O) (zA ?_)))))
    refine yn (tg True) (tg [(4,(pP b3 0)),(8,(qz (jk b5) (nw b) ((Ax b).length))),(9,(qz (jk b6) ((nw a)+1) ((nw a)+1))),(52,(vN ((nw a)+1))),(53,(vN i)),(10,(vK .u32 c)),(11,(vN i)),(12,(vK .u32 ((AL b).getD i 0)))]) (tg [AO b6 27 (Ap os),AO b5 27 (Ap (Ax b)),AO b4 27 (Ap (Ax a)),AO b3 54 (AW 0),AO b2 54 (AW b),AO b1 54 (AW a)]) ?_ ?_
    ·refine zK O (λhc4=>?_) (λhc4=>?_)
     ·replace hc4:=xR hc4
      refine zH (AK O (AK O (st' (v:=(pP b5 i)) (AH (j:=i) O O underlying169 sizeOf27 O Z jX) O ?_)))
      have hx3:(Ax b).getD i 0<4294967296:=W32.getD (Ci b) i
      exact st' (AR (i:=1) (v:=(vK .u32 ((Ax b).getD i 0))) O O isAgg27 (BM (xs:=Ax b) (j:=i) Z)) O (zN (k:=63) (u:=(vK .u32 ((AL b).getD i 0))) O (by rw [D8 hc4]) (asg' O (oNl' (zB (sL [4,8,9,52,53,10,11,12] O) (yK  (trivial) (sF O) sr)))))
     ·replace hc4:=xQ hc4
      exact zG (yf (k:=12) (u:=Value.int .u32 (((AL b).getD i 0:Nat):Int)) O (by rw [Fj hc4];rfl) (yK  (trivial) (sF O) sr))
    ·intro hJ
     refine zA (zH (AK O (AK O (AK O (AK O (st' (v:=(pP b6 i)) (AH (j:=i) O O underlying169 sizeOf27 O Z jX) O ?_))))))
     have hx4:os.getD i 0<4294967296:=W32.getD hw32 i
     refine st' (AR (i:=0) (v:=(vK .u32 (os.getD i 0))) O O isAgg27 (BM (xs:=os) (j:=i) Z)) O (AK O (AK O ?_))
     have hya:=(B7 a).getD i
     have hyb:=(B7 b).getD i
     refine ck' call146 (LQ (os.getD i 0) ((AL b).getD i 0) c Z Z Z) O (AK O (st' (AJ (v:=(vK .u32 (((os.getD i 0)+((AL b).getD i 0)+c)%4294967296))) O O) O (st' (AJ (v:=(vK .u32 (((os.getD i 0)+((AL b).getD i 0)+c)/4294967296))) O O) O (st' (v:=(pP b6 i)) (AH (j:=i) O O underlying169 sizeOf27 O Z jX) O (zu (i:=0) (off:=i) (vs:=[(vK .u32 (((os.getD i 0)+((AL b).getD i 0)+c)%4294967296))]) (cs':=Ap (os.set i (((os.getD i 0)+((AL b).getD i 0)+c)%4294967296))) (L':=[AO b6 27 (Ap (os.set i (((os.getD i 0)+((AL b).getD i 0)+c)%4294967296))),AO b5 27 (Ap (Ax b)),AO b4 27 (Ap (Ax a)),AO b3 54 (AW 0),AO b2 54 (AW b),AO b1 54 (AW a)]) (AG O) O O O O O sizeOf27 O (DL (Ba _) Z) (Ck Z) O (asg' O (oNl' (zB (sL [4,8,9,52,53,10,11,12] O) (zJ (zA (zH ?_)))))))))))
     exact st' (AX (c:=((i+1:Nat):Int)) O O (AU (a:=i) (b:=1) Z)) O (AK O (oNl' (zB (sL [4,8,9,52,53,10,11,12] O) (yD (i+1) (os.set i ((os.getD i 0+(AL b).getD i 0+c)%4294967296)) ((os.getD i 0+(AL b).getD i 0+c)/4294967296) (⟨Z,by rw [List.length_set];exact hl,W32.set hw32 Z i,Z,PV hl hc3 hv⟩) Z (sF O) sr))))
   ·replace hc3:=xQ hc3
    refine zW (zO (zo (zR (q2 (AK O (CQ call124 (λw hw=>KT _ ((nw a)+1) ((nw a)+1) os hw32 (by first|omega|(rw [rowN_length];omega)|simp|(simp;omega)) (by first|omega|simp|(simp;omega)) (by first|omega|simp|(simp;omega)) w (hw.get (i:=0) O)) O (zN (k:=79) (u:=(aG (AW (a+b)))) O (by rw [List.take_of_length_le (show os.length<=nw a+1 by omega),PU (X:=a) (Y:=b) (c:=c) (i:=i) hl hw32 Z (X2 Z) (by rw [hv,EC Z])]) (F8 O sizeOf54 O (oNl' (zB (sL [4,8,9,52,53,10] O) (zA ?_)))))))))))
    exact zF (ret_one O (Ab (i:=3) (cs:=AW (a+b)) O O isAgg54 sizeOf54 O) (λw hw=>⟨rfl,hw.out⟩))
end
section
set_option maxRecDepth 100000
theorem NG  :Instr.fill ([(0,1),(1,1)].toArray[·]?) (AW 0).toArray []=some (AW 0).toArray:=by kernel_rfl
theorem Q3 (a b:Nat) (ha:nw a<=1099511627776) (hb:nw b<=1099511627776) (w:World)  :Calls prog 115 #[(aG (AW a)),(aG (AW b))] w (Ac w (Value.tuple #[(aG (AW (a-b))),(qa (decide (b<=a)))])):=by
 have hla:=Cd a
 have hlb:=Cd b
 have hpa:=Z5 a
 refine AV (args:=[(aG (AW a)),(aG (AW b))]) func115 O O (leB O) (zI (sL [0,1] O) (q4 (BH (cs:=AW a) O λb1=>BH (cs:=AW b) O λb2=>al HM O λb3=>asg' O (q6 (sL [2,3,4,5] O) (q4 (Af 2 CH O (Af 1 CH O (ck' call167 (VW a b Z Z) O ?_))))))))
 refine st' (Aa (c:=(decide ((Dv a b)<(0:Int)))) O O O) O (oNl' (zB (sL [2,3,4,5,14] O) (zA ?_)))
 refine zK O (λhc0=>?_) (λhc0=>?_)
 ·replace hc0:=xR hc0
  rw [GG] at hc0
  exact q4 (st' (v:=(aG (AW 0))) (AS (zs:=AW 0) (vs:=AW 0) (pv:=[]) (places:=[(0,1),(1,1)]) zeroValue54 underlying54 (λw=>by simp [sizeOf9,sizeOf52]) O (NG )) O (zN (k:=15) (u:=(aG (AW (a-b)))) O (by rw [show a-b=0 by omega]) (An O sizeOf54 O (asg' O (oNl' (zB (sL [2,3,4,5] O) (zA (zF (zL (Bl O (Ab (i:=0) (cs:=AW (a-b)) O O isAgg54 sizeOf54 O) (rd_tmp (v:=(qa false)) O) (λw hw=>⟨by rw [xD (show ¬b<=a by omega)],hw.out⟩)))))))))))
 ·replace hc0:=xQ hc0
  rw [GG] at hc0
  have hnb:nw b<=nw a:=DA Z
  refine zG (q1 (q4 (st' (v:=(pP b1 1)) (AA O underlying54 O sizeOf9 O) O (BL 2 (Value.string (Bw a)) VD O (st' (Bh (c:=(decide (a<18446744073709551616))) O O Cv) O (oNl' (zB (sL [2,3,4,5,18] O) (zA ?_))))))))
  refine zK O (λhc1=>?_) (λhc1=>?_)
  ·replace hc1:=xR hc1
   refine q4 (st' (v:=(pP b1 0)) (AA O underlying54 O sizeOf52 O) O (BL 2 (vK .u64 (CM a)) Hb O (zN (k:=20) (u:=(vK .u64 a)) O (by rw [Bp hc1]) (st' (v:=(pP b2 0)) (AA O underlying54 O sizeOf52 O) O (BL 1 (vK .u64 (CM b)) Hb O (zN (k:=22) (u:=(vK .u64 b)) O (by rw [Bp Z]) (st' (BY (c:=((a-b:Nat):Int)) O O (JZ (a:=a) (b:=b) Z Z)) O (st' (v:=(aG ([(vK .u64 (a-b)),(Value.string (Bw 0))]))) (AS (zs:=AW 0) (vs:=[(vK .u64 (a-b)),(Value.string (Bw 0))]) (pv:=[(0,(vK .u64 (a-b)))]) (places:=[(0,1),(1,1)]) zeroValue54 underlying54 (λw=>by simp [sizeOf9,sizeOf52]) O O) O (zN (k:=24) (u:=(aG (AW (a-b)))) O (by rw [Ed Z];rfl) (An O sizeOf54 O (asg' O ?_)))))))))))
   exact oNl' (zB (sL [2,3,4,5] O) (zA (zF (zL (Bl O (Ab (i:=0) (cs:=AW (a-b)) O O isAgg54 sizeOf54 O) (rd_tmp (v:=(qa true)) O) (λw hw=>⟨by rw [xE (show b<=a by omega)],hw.out⟩))))))
  ·replace hc1:=xQ hc1
   have hpad:Ax a=AL a:=if_neg hc1
   refine zG (q1 (B9 [(0,true),(2,true),(1,false),(3,false),(4,true),(5,true)] sr (B3 2 CH O (B3 1 CH O (zD O (yB (V:=λb4=>(qz (jk b4) (nw a) ((Ax a).length))) (T:=27) (cs:=Ap (Ax a)) (AG O) (Ag (args:=[(aG (AW a))]) O O call85) (λw hw=>Do a Z w) O (leB O) λb4=>zC (sl sr) (zD O (yB (V:=λb5=>(qz (jk b5) (nw b) ((Ax b).length))) (T:=27) (cs:=Ap (Ax b)) (AG O) (Ag (args:=[(aG (AW b))]) O O call85) (λw hw=>Do b Z w) O (leB O) λb5=>zC (sl (sl sr)) (pS' O ?_)))))))))
   refine pS' O (zP (zB (sL [2,3,4,5,6,7] O) (q2 (asg' O (oNl' (q1 (q4 (AK O (st' (v:=(vN (nw a))) (AD O underlying169) O (AK O (oNl' ?_)))))))))))
   refine zB (sL [2,3,4,5,6,7,8,30,31] O) (zA (zM ?_))
   refine yM (tg λ(i:Nat) (os:List Nat) (c:Nat)=>i<=nw a/\os.length=nw a/\W32 os/\c<=1/\val os+val ((AL b).take i)=a+c*4294967296^i) (tg λ(i:Nat) (os:List Nat) (c:Nat)=>[(4,(pP b3 0)),(5,(qa false)),(6,(qz (jk b4) (nw a) ((Ax a).length))),(7,(qz (jk b5) (nw b) ((Ax b).length))),(30,(vN (nw a))),(31,(vN i)),(8,(vK .u32 c))]) (tg λ(i:Nat) (os:List Nat) (c:Nat)=>[AO b5 27 (Ap (Ax b)),AO b4 27 (Ap os),AO b3 54 (AW 0),AO b2 54 (AW b),AO b1 54 (AW a)]) (tg λ(i:Nat) (os:List Nat) (c:Nat)=>nw a-i) 0 (Ax a) 0 (⟨xH _,by rw [hpad];rfl,Ci a,Z,by rw [Tb];simp [val]⟩) (sF O) sr (λi os c hJ=>?_)
   obtain ⟨hi,hl,hw32,hcc,hv⟩:=hJ
   refine q4 (st' (Aa (c:=(decide (i<(nw a)))) O O (DE (a:=i) (b:=nw a))) O (oNl' (q1 ?_)))
   refine zK O (λhc2=>?_) (λhc2=>?_)
   ·replace hc2:=xR hc2
    refine zG (q1 (zM (q4 (AK O (asg' O (q3 (sL [4,5,6,7,30,31,8,9] O) (asg' O (oNl' (q1 (q4 (AK O ?_)))))))))))
    refine AK O (st' (v:=(vN (nw b))) (AD O underlying169) O (st' (Aa (c:=(decide (i<(nw b)))) O O (DE (a:=i) (b:=nw b))) O (oNl' (zB (sL [4,5,6,7,30,31,8,9,10,37] O) (zA ?_)))))
    refine yn (tg True) (tg [(4,(pP b3 0)),(5,(qa false)),(6,(qz (jk b4) (nw a) ((Ax a).length))),(7,(qz (jk b5) (nw b) ((Ax b).length))),(30,(vN (nw a))),(31,(vN i)),(8,(vK .u32 c)),(9,(vN i)),(10,(vK .u32 ((AL b).getD i 0)))]) (tg [AO b5 27 (Ap (Ax b)),AO b4 27 (Ap os),AO b3 54 (AW 0),AO b2 54 (AW b),AO b1 54 (AW a)]) ?_ ?_
    ·refine zK O (λhc3=>?_) (λhc3=>?_)
     ·replace hc3:=xR hc3
      refine zH (AK O (AK O (st' (v:=(pP b5 i)) (AH (j:=i) O O underlying169 sizeOf27 O Z jX) O ?_)))
      have hx1:(Ax b).getD i 0<4294967296:=W32.getD (Ci b) i
      exact st' (AR (i:=0) (v:=(vK .u32 ((Ax b).getD i 0))) O O isAgg27 (BM (xs:=Ax b) (j:=i) Z)) O (zN (k:=41) (u:=(vK .u32 ((AL b).getD i 0))) O (by rw [D8 hc3]) (asg' O (oNl' (zB (sL [4,5,6,7,30,31,8,9,10] O) (yK  (trivial) (sF O) sr)))))
     ·replace hc3:=xQ hc3
      exact zG (yf (k:=10) (u:=Value.int .u32 (((AL b).getD i 0:Nat):Int)) O (by rw [Fj hc3];rfl) (yK  (trivial) (sF O) sr))
    ·intro hJ
     refine zA (zH (AK O (AK O (AK O (AK O (st' (v:=(pP b4 i)) (AH (j:=i) O O underlying169 sizeOf27 O Z jX) O ?_))))))
     have hx2:os.getD i 0<4294967296:=W32.getD hw32 i
     refine st' (AR (i:=1) (v:=(vK .u32 (os.getD i 0))) O O isAgg27 (BM (xs:=os) (j:=i) Z)) O (AK O (AK O ?_))
     have hyb:=(B7 b).getD i
     refine ck' call169 (Mh (os.getD i 0) ((AL b).getD i 0) c _ Z Z Z O) O (AK O (st' (AJ (v:=(vK .u32 (((os.getD i 0)+(4294967296-((AL b).getD i 0))+(4294967296-c))%4294967296))) O O) O (st' (AJ (v:=(vK .u32 (KG (os.getD i 0) (((AL b).getD i 0)+c)))) O O) O (st' (v:=(pP b4 i)) (AH (j:=i) O O underlying169 sizeOf27 O Z jX) O (zu (i:=1) (off:=i) (vs:=[(vK .u32 (((os.getD i 0)+(4294967296-((AL b).getD i 0))+(4294967296-c))%4294967296))]) (cs':=Ap (os.set i (((os.getD i 0)+(4294967296-((AL b).getD i 0))+(4294967296-c))%4294967296))) (L':=[AO b5 27 (Ap (Ax b)),AO b4 27 (Ap (os.set i (((os.getD i 0)+(4294967296-((AL b).getD i 0))+(4294967296-c))%4294967296))),AO b3 54 (AW 0),AO b2 54 (AW b),AO b1 54 (AW a)]) (AG O) O O O O O sizeOf27 O (DL (Ba _) Z) (Ck Z) O (asg' O (oNl' (zB (sL [4,5,6,7,30,31,8,9,10] O) (zJ (zA (zH ?_)))))))))))
     exact st' (AX (c:=((i+1:Nat):Int)) O O (AU (a:=i) (b:=1) Z)) O (AK O (oNl' (zB (sL [4,5,6,7,30,31,8,9,10] O) (yD (i+1) (os.set i ((os.getD i 0+(4294967296-(AL b).getD i 0)+(4294967296-c))%4294967296)) (KG (os.getD i 0) ((AL b).getD i 0+c)) (⟨Z,by rw [List.length_set];exact hl,W32.set hw32 Z i,RB _ _,X1 hl hc2 hw32 (B7 b) hcc hv⟩) Z (sF O) sr))))
   ·replace hc2:=xQ hc2
    refine zW (zO (zo (zR (q2 (AK O (CQ call124 (λw hw=>KT _ (nw a) ((Ax a).length) os hw32 (by first|omega|(rw [rowN_length];omega)|simp|(simp;omega)) (by first|omega|simp|(simp;omega)) (by first|omega|simp|(simp;omega)) w (hw.get (i:=1) O)) O (zN (k:=57) (u:=(aG (AW (a-b)))) O (by rw [List.take_of_length_le (show os.length<=nw a by omega),X0 (X:=a) (Y:=b) (n:=nw a) (c:=c) (i:=i) hl hw32 Z Z (by rw [<-hv,EC Z]) (Bt a)]) (E7 O sizeOf54 O (asg' O (oNl' (zB (sL [4,5,6,7,30,31,8] O) ?_)))))))))))
    exact zA (zF (Bl O (Ab (i:=2) (cs:=AW (a-b)) O O isAgg54 sizeOf54 O) (rd_tmp (v:=(qa true)) O) (λw hw=>⟨by rw [xE (show b<=a by omega)],hw.out⟩)))
theorem Q1 (a b:Nat) (ha:nw a<=1099511627776) (hb:nw b<=1099511627776) (w:World)  :Calls prog 74 #[(aG (AW a)),(aG (AW b))] w (Ac w (aG (AW (a*b)))):=by
 have hla:=Cd a
 have hlb:=Cd b
 refine AV (args:=[(aG (AW a)),(aG (AW b))]) func74 O O (leB O) (zI (sL [0,1] O) (q4 (BH (cs:=AW a) O λb1=>BH (cs:=AW b) O λb2=>al HM O λb3=>q6 (sL [2,3,4] O) (q4 (st' (v:=(pP b1 1)) (AA O underlying54 O sizeOf9 O) O (BL 2 (Value.string (Bw a)) VD O (st' (Bh (c:=(decide (a<18446744073709551616))) O O Cv) O (AK O ?_))))))))
 refine zg (FM:=[(2,(pP b1 0)),(3,(pP b2 0)),(4,(pP b3 0)),(15,(pP b1 1)),(16,(Value.string (Bw a))),(17,(qa (decide (a<18446744073709551616)))),(18,(qa (decide (a<18446744073709551616)))),(22,(qa ((decide (a<18446744073709551616))&&(decide (b<18446744073709551616)))))]) (LM:=[AO b3 54 (AW 0),AO b2 54 (AW b),AO b1 54 (AW a)]) 4 ?_ ?_
 ·rcases xO (decide (a<18446744073709551616)) with hg1|hg1
  ·refine zN (k:=18) (u:=qa true) O (by rw [hg1]) ?_
   have hg1':=xR hg1
   exact BV (v:=(pP b2 1)) O (AA O underlying54 O sizeOf9 O) (BV (v:=(Value.string (Bw b))) O (AR (i:=1) (v:=(Value.string (Bw b))) O O VD.a O) (BV (v:=(qa (decide (b<18446744073709551616)))) O (Bh (c:=(decide (b<18446744073709551616))) O O Cv) (st' (v:=(qa (decide (b<18446744073709551616)))) (ex_pick_true O O) O (oNl' (zT CT (xP _))))))
  ·refine zN (k:=18) (u:=qa false) O (by rw [hg1]) ?_
   have hg1':=xQ hg1
   exact BP O (BP O (BP O (st' (v:=(qa false)) (AN O O) O (oNl' (zT CT (xP _))))))
 refine oNl' (zB (sL [2,3,4,22] O) (zA ?_))
 refine zK O (λhc0=>?_) (λhc0=>?_)
 ·simp only [jK] at hc0
  refine q4 (st' (v:=(pP b1 0)) (AA O underlying54 O sizeOf52 O) O (BL 2 (vK .u64 (CM a)) Hb O (zN (k:=25) (u:=(vK .u64 a)) O (by rw [Bp hc0.1]) (st' (v:=(pP b2 0)) (AA O underlying54 O sizeOf52 O) O (BL 1 (vK .u64 (CM b)) Hb O ?_)))))
  have hhi:a*b/18446744073709551616<18446744073709551616:=Nat.div_lt_of_lt_mul (Nat.mul_lt_mul'' hc0.1 hc0.2)
  refine zN (k:=27) (u:=(vK .u64 b)) O (by rw [Bp hc0.2]) (ck' call123 (QF a b Z Z) O (AK O (st' (AJ (v:=(vK .u64 (a*b/18446744073709551616))) O O) O (st' (AJ (v:=(vK .u64 (a*b%18446744073709551616))) O O) O (asg' O (asg' O (q3 (sL [2,3,4,5,6] O) (AK O (st' (Al (c:=(((a*b%18446744073709551616)%4294967296:Nat):Int)) O underlying52 underlying27 FT) O (AK O (st' (DZ (s:=32) (c:=(((a*b%18446744073709551616)/4294967296:Nat):Int)) O O O jY (HL (a:=a*b%18446744073709551616) (s:=32))) O ?_)))))))))))
  refine st' (Al (c:=(((a*b%18446744073709551616)/4294967296:Nat):Int)) O underlying52 underlying27 (Co Z)) O (AK O (st' (Al (c:=(((a*b/18446744073709551616)%4294967296:Nat):Int)) O underlying52 underlying27 FT) O (AK O (st' (DZ (s:=32) (c:=(((a*b/18446744073709551616)/4294967296:Nat):Int)) O O O jY (HL (a:=a*b/18446744073709551616) (s:=32))) O (st' (Al (c:=(((a*b/18446744073709551616)/4294967296:Nat):Int)) O underlying52 underlying27 (Co Z)) O (zZ (V:=λb4=>(qz (jk b4) 4 4)) (T:=27) (cs:=Ap ([(a*b%18446744073709551616)%4294967296,(a*b%18446744073709551616)/4294967296,(a*b/18446744073709551616)%4294967296,(a*b/18446744073709551616)/4294967296])) (AG O) (Ai (cs:=Ap ([(a*b%18446744073709551616)%4294967296,(a*b%18446744073709551616)/4294967296,(a*b/18446744073709551616)%4294967296,(a*b/18446744073709551616)/4294967296])) (pv:=[(0,(vK .u32 ((a*b%18446744073709551616)%4294967296))),(1,(vK .u32 ((a*b%18446744073709551616)/4294967296))),(2,(vK .u32 ((a*b/18446744073709551616)%4294967296))),(3,(vK .u32 ((a*b/18446744073709551616)/4294967296)))]) underlying169 sizeOf27 zeroValue27 jY jY O jV) O (leB O) λb4=>CQ call124 (λw hw=>KT _ 4 4 ([(a*b%18446744073709551616)%4294967296,(a*b%18446744073709551616)/4294967296,(a*b/18446744073709551616)%4294967296,(a*b/18446744073709551616)/4294967296]) (W32.cons Z (W32.cons Z (W32.cons Z (W32.cons Z (W32.nil))))) (by first|omega|(rw [rowN_length];omega)|simp|(simp;omega)) (by first|omega|simp|(simp;omega)) (by first|omega|simp|(simp;omega)) w (hw.get (i:=0) O)) O (zN (k:=42) (u:=(aG (AW (a*b)))) O (by rw [show ∀x y z t:Nat,[x,y,z,t].take 4=[x,y,z,t] from λ_ _ _ _=>rfl,dm Z hhi,show a*b%18446744073709551616+a*b/18446744073709551616*18446744073709551616=a*b by omega]) (DK O sizeOf54 O (oNl' (zB (sL [2,3,4] O) ?_))))))))))
  exact zA (zF (zL (ret_one O (Ab (i:=1) (cs:=AW (a*b)) O O isAgg54 sizeOf54 O) (λw hw=>⟨rfl,hw.out⟩))))
 ·simp only [jK] at hc0
  refine zG (q1 (B9 [(0,true),(2,true),(1,false),(3,false),(4,true),(5,true)] sr (B3 2 CH O (B3 1 CH O (zD O (yB (V:=λb4=>(qz (jk b4) (nw a) ((Ax a).length))) (T:=27) (cs:=Ap (Ax a)) (AG O) (Ag (args:=[(aG (AW a))]) O O call85) (λw hw=>Do a Z w) O (leB O) λb4=>zC (sl sr) (zD O (yB (V:=λb5=>(qz (jk b5) (nw b) ((Ax b).length))) (T:=27) (cs:=Ap (Ax b)) (AG O) (Ag (args:=[(aG (AW b))]) O O call85) (λw hw=>Do b Z w) O (leB O) λb5=>zC (sl (sl sr)) (pS' O ?_)))))))))
  refine pS' O (zP (zB (sL [2,3,4,7,8] O) (q2 (AK O (st' (v:=(vN (nw a))) (AD O underlying169) O (AK O (st' (v:=(vN (nw b))) (AD O underlying169) O (st' (AX (c:=(((nw a)+(nw b):Nat):Int)) O O (AU (a:=nw a) (b:=nw b) Z)) O (zZ (V:=λb6=>(qz (jk b6) ((nw a)+(nw b)) ((nw a)+(nw b)))) (T:=27) (cs:=Ap (List.replicate ((nw a)+(nw b)) 0)) (AG O) (D7 (m:=(nw a)+(nw b)) (c:=(nw a)+(nw b)) O O Z Z) O (leB O) λb6=>asg' O (q6 (sL [2,3,4,7,8,9] O) ?_))))))))))
  refine q4 (AK O (st' (v:=(vN (nw a))) (AD O underlying169) O (AK O (oNl' (zA (zM ?_))))))
  refine yC (tg λ(i:Nat) (os:List Nat)=>i<=nw a/\os.length=nw a+nw b/\W32 os/\val os=val ((AL a).take i)*b) (tg λ(i:Nat) (os:List Nat)=>[(4,(pP b3 0)),(8,(qz (jk b5) (nw b) ((Ax b).length))),(9,(qz (jk b6) ((nw a)+(nw b)) ((nw a)+(nw b)))),(53,(qz (jk b4) (nw a) ((Ax a).length))),(54,(vN (nw a))),(55,(vN i))]) (tg λ(i:Nat) (os:List Nat)=>[AO b6 27 (Ap os),AO b5 27 (Ap (Ax b)),AO b4 27 (Ap (Ax a)),AO b3 54 (AW 0),AO b2 54 (AW b),AO b1 54 (AW a)]) (tg λ(i:Nat) (os:List Nat)=>nw a-i) 0 (List.replicate (nw a+nw b) 0) (⟨xH _,by simp,W32.zeros _,by rw [FG];simp [val]⟩) (sF O) sr (λi os hJ=>?_)
  obtain ⟨hi,hl,hw32,hv⟩:=hJ
  refine q4 (st' (Aa (c:=(decide (i<(nw a)))) O O (DE (a:=i) (b:=nw a))) O (oNl' (q1 ?_)))
  refine zK O (λhc1=>?_) (λhc1=>?_)
  ·replace hc1:=xR hc1
   refine zG (q1 (zM (q4 (AK O (st' (v:=(pP b4 i)) (AH (j:=i) O O underlying169 sizeOf27 O Z jX) O ?_)))))
   have hx1:(Ax a).getD i 0<4294967296:=W32.getD (Ci a) i
   refine st' (AR (i:=2) (v:=(vK .u32 ((Ax a).getD i 0))) O O isAgg27 (BM (xs:=Ax a) (j:=i) Z)) O (zN (k:=59) (u:=(vK .u32 ((AL a).getD i 0))) O (by rw [D8 hc1]) (asg' O (asg' O (q3 (sL [4,8,9,53,54,55,10,11] O) (asg' O (oNl' (q1 (q4 (AK O (st' (v:=(vN (nw b))) (AD O underlying169) O (AK O ?_)))))))))))
   refine oNl' (zA (zM ?_))
   refine yM (tg λ(k:Nat) (xs:List Nat) (c:Nat)=>k<=nw b/\xs.length=nw a+nw b/\W32 xs/\c<4294967296/\(∀j,i+nw b<=j->xs.getD j 0=0)/\val xs+c*4294967296^(i+k)=val ((AL a).take i)*b+(AL a).getD i 0*val ((AL b).take k)*4294967296^i) (tg λ(k:Nat) (xs:List Nat) (c:Nat)=>[(4,(pP b3 0)),(8,(qz (jk b5) (nw b) ((Ax b).length))),(9,(qz (jk b6) ((nw a)+(nw b)) ((nw a)+(nw b)))),(53,(qz (jk b4) (nw a) ((Ax a).length))),(54,(vN (nw a))),(55,(vN i)),(10,(vN i)),(11,(vK .u32 ((AL a).getD i 0))),(60,(qz (jk b5) (nw b) ((Ax b).length))),(61,(vN (nw b))),(62,(vN k)),(12,(vK .u64 c))]) (tg λ(k:Nat) (xs:List Nat) (c:Nat)=>[AO b6 27 (Ap xs),AO b5 27 (Ap (Ax b)),AO b4 27 (Ap (Ax a)),AO b3 54 (AW 0),AO b2 54 (AW b),AO b1 54 (AW a)]) (tg λ(k:Nat) (xs:List Nat) (c:Nat)=>nw b-k) 0 os 0 (⟨xH _,hl,hw32,Z,ST hv,by rw [hv];simp [val]⟩) (sF O) sr (λk xs c hJ=>?_)
   obtain ⟨hk,hl2,hw2,hcc,h02,hv2⟩:=hJ
   refine q4 (st' (Aa (c:=(decide (k<(nw b)))) O O (DE (a:=k) (b:=nw b))) O (oNl' (q1 ?_)))
   refine zK O (λhc2=>?_) (λhc2=>?_)
   ·replace hc2:=xR hc2
    refine zG (q1 (zM (q4 (AK O (st' (v:=(pP b5 k)) (AH (j:=k) O O underlying169 sizeOf27 O Z jX) O ?_)))))
    have hx2:(Ax b).getD k 0<4294967296:=W32.getD (Ci b) k
    refine st' (AR (i:=1) (v:=(vK .u32 ((Ax b).getD k 0))) O O isAgg27 (BM (xs:=Ax b) (j:=k) Z)) O (zN (k:=66) (u:=(vK .u32 ((AL b).getD k 0))) O (by rw [D8 hc2]) (asg' O (asg' O (q3 (sL [4,8,9,53,54,55,10,11,60,61,62,12,13,14] O) (AK O (AK O ?_))))))
    have hwa:=(B7 a).getD i
    have hwb:=(B7 b).getD k
    have hml:=L6 hwa hwb
    refine st' (Al (c:=(((AL a).getD i 0:Nat):Int)) O underlying27 underlying52 (BW Z)) O (AK O (st' (Al (c:=(((AL b).getD k 0:Nat):Int)) O underlying27 underlying52 (BW Z)) O (st' (B5 (c:=((((AL a).getD i 0)*((AL b).getD k 0):Nat):Int)) O O (F5 (a:=(AL a).getD i 0) (b:=(AL b).getD k 0) Z)) O (AK O (AK O (AK O (st' (AX (c:=((i+k:Nat):Int)) O O (AU (a:=i) (b:=k) Z)) O (st' (v:=(pP b6 (i+k))) (AH (j:=i+k) O O underlying169 sizeOf27 O Z jX) O ?_))))))))
    have hx3:xs.getD (i+k) 0<4294967296:=W32.getD hw2 (i+k)
    refine st' (AR (i:=0) (v:=(vK .u32 (xs.getD (i+k) 0))) O O isAgg27 (BM (xs:=xs) (j:=(i+k)) Z)) O (st' (Al (c:=((xs.getD (i+k) 0:Nat):Int)) O underlying27 underlying52 (BW Z)) O (st' (AX (c:=(((((AL a).getD i 0)*((AL b).getD k 0))+(xs.getD (i+k) 0):Nat):Int)) O O (EQ (a:=((AL a).getD i 0)*((AL b).getD k 0)) (b:=xs.getD (i+k) 0) Z)) O (st' (AX (c:=((c+((((AL a).getD i 0)*((AL b).getD k 0))+(xs.getD (i+k) 0)):Nat):Int)) O O (EQ (a:=c) (b:=(((AL a).getD i 0)*((AL b).getD k 0))+(xs.getD (i+k) 0)) Z)) O (asg' O (q3 (sL [4,8,9,53,54,55,10,11,60,61,62,12,13] O) (AK O (AK O (AK O (st' (AX (c:=((i+k:Nat):Int)) O O (AU (a:=i) (b:=k) Z)) O (AK O (st' (Al (c:=(((c+((((AL a).getD i 0)*((AL b).getD k 0))+(xs.getD (i+k) 0)))%4294967296:Nat):Int)) O underlying52 underlying27 FT) O ?_)))))))))))
    refine st' (v:=(pP b6 (i+k))) (AH (j:=i+k) O O underlying169 sizeOf27 O Z jX) O (zu (i:=0) (off:=(i+k)) (vs:=[(vK .u32 ((c+((((AL a).getD i 0)*((AL b).getD k 0))+(xs.getD (i+k) 0)))%4294967296))]) (cs':=Ap (xs.set (i+k) ((c+((((AL a).getD i 0)*((AL b).getD k 0))+(xs.getD (i+k) 0)))%4294967296))) (L':=[AO b6 27 (Ap (xs.set (i+k) ((c+((((AL a).getD i 0)*((AL b).getD k 0))+(xs.getD (i+k) 0)))%4294967296))),AO b5 27 (Ap (Ax b)),AO b4 27 (Ap (Ax a)),AO b3 54 (AW 0),AO b2 54 (AW b),AO b1 54 (AW a)]) (AG O) O O O O O sizeOf27 O (DL (Ba _) Z) (Ck Z) O (oNl' (zB (sL [4,8,9,53,54,55,10,11,60,61,62,12,13] O) (zA (zH (AK O (st' (DZ (s:=32) (c:=(((c+((((AL a).getD i 0)*((AL b).getD k 0))+(xs.getD (i+k) 0)))/4294967296:Nat):Int)) O O O jY (HL (a:=c+((((AL a).getD i 0)*((AL b).getD k 0))+(xs.getD (i+k) 0))) (s:=32))) O (asg' O (oNl' (zB (sL [4,8,9,53,54,55,10,11,60,61,62,12,13] O) (zJ ?_)))))))))))
    exact zA (zH (st' (AX (c:=((k+1:Nat):Int)) O O (AU (a:=k) (b:=1) Z)) O (AK O (oNl' (zB (sL [4,8,9,53,54,55,10,11,60,61,62,12,13] O) (yD (k+1) (xs.set (i+k) ((c+((AL a).getD i 0*(AL b).getD k 0+xs.getD (i+k) 0))%4294967296)) ((c+((AL a).getD i 0*(AL b).getD k 0+xs.getD (i+k) 0))/4294967296) (⟨Z,by rw [List.length_set];exact hl2,W32.set hw2 Z _,Z,Gg h02 Z,Ws hl2 Z hv2⟩) Z (sF O) sr))))))
   ·replace hc2:=xQ hc2
    have hkn:k=nw b:=by omega
    have hbb:val ((AL b).take k)=b:=EC Z
    rw [hbb] at hv2
    refine zW (zO (zo (zR (zA (zH (AK O (AK O (AK O (st' (v:=(vN (nw b))) (AD O underlying169) O (st' (AX (c:=((i+(nw b):Nat):Int)) O O (AU (a:=i) (b:=nw b) Z)) O (AK O ?_)))))))))))
    exact st' (Al (c:=((c:Nat):Int)) O underlying52 underlying27 (Co Z)) O (st' (v:=(pP b6 (i+(nw b)))) (AH (j:=i+(nw b)) O O underlying169 sizeOf27 O Z jX) O (zu (i:=0) (off:=(i+(nw b))) (vs:=[(vK .u32 c)]) (cs':=Ap (xs.set (i+(nw b)) c)) (L':=[AO b6 27 (Ap (xs.set (i+(nw b)) c)),AO b5 27 (Ap (Ax b)),AO b4 27 (Ap (Ax a)),AO b3 54 (AW 0),AO b2 54 (AW b),AO b1 54 (AW a)]) (AG O) O O O O O sizeOf27 O (DL (Ba _) Z) (Ck Z) O (oNl' (zB (sL [4,8,9,53,54,55,10,11,60,61,62,12] O) (zJ (zA (zH (st' (AX (c:=((i+1:Nat):Int)) O O (AU (a:=i) (b:=1) Z)) O (AK O (oNl' (zB (sL [4,8,9,53,54,55,10,11,60,61,62,12] O) (zi (i+1) (xs.set (i+nw b) c) (⟨Z,by rw [List.length_set];exact hl2,W32.set hw2 hcc _,by rw [JC hl2 Z (h02 _ (Nat.le_refl _)),<-Zs,<-hv2,<-hkn]⟩) Z (sF O) sr))))))))))))
  ·replace hc1:=xQ hc1
   refine zW (zO (zh (zR (q2 (AK O (CQ call124 (λw hw=>KT _ ((nw a)+(nw b)) ((nw a)+(nw b)) os hw32 (by first|omega|(rw [rowN_length];omega)|simp|(simp;omega)) (by first|omega|simp|(simp;omega)) (by first|omega|simp|(simp;omega)) w (hw.get (i:=0) O)) O (zN (k:=102) (u:=(aG (AW (a*b)))) O (by rw [List.take_of_length_le (show os.length<=nw a+nw b by omega),hv,EC Z]) (F8 O sizeOf54 O (oNl' (zB (sL [4,8,9,53,54,55] O) (zA ?_)))))))))))
   exact zF (ret_one O (Ab (i:=3) (cs:=AW (a*b)) O O isAgg54 sizeOf54 O) (λw hw=>⟨rfl,hw.out⟩))
end
end Go.Proofs.YtcpkbjjmcleplaaGreatDoor
