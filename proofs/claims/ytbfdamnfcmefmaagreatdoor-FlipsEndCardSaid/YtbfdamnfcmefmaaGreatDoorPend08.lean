import Derived.Test.YtbfdamnfcmefmaaGreatDoorPend07
namespace Go.Proofs.YtbfdamnfcmefmaaGreatDoor
open Go Go.RowKit Go.Proofs.Tryz
open Go.Value renaming slice→qz,bool→qa
set_option linter.unusedVariables false
set_option linter.unusedSimpArgs false
section
set_option maxRecDepth 100000
theorem Tm (a b:Nat) (ha:nw a<=1099511627776) (hb:nw b<=1099511627776) (w:World)  :Calls prog 223 #[(aG (AT a)),(aG (AT b))] w (Ac w (vI (Fy a b))):=by
 refine AW (args:=[(aG (AT a)),(aG (AT b))]) func223 O O (A_ O) (zM (sL [0,1] O) (q4 (BV (cs:=AT a) O λb1=>BV (cs:=AT b) O λb2=>asg' O (q6 (sL [2,3,4] O) (q4 (AD (v:=(pP b1 1)) (AA O underlying62 O sizeOf9 O) O (BG 1 (Value.string (Bm a)) Tj O (AD (Bh (c:=(decide (a<18446744073709551616))) O O Cg) O (AL O ?_)))))))))
 refine zi (FM:=[(2,(pP b1 0)),(3,(pP b2 0)),(4,(vI 0)),(5,(pP b1 1)),(6,(Value.string (Bm a))),(7,(qa (decide (a<18446744073709551616)))),(8,(qa (decide (a<18446744073709551616)))),(12,(qa ((decide (a<18446744073709551616))&&(decide (b<18446744073709551616)))))]) (LM:=[AY b2 62 (AT b),AY b1 62 (AT a)]) 4 ?_ ?_
 ·rcases xQ (decide (a<18446744073709551616)) with hg1|hg1
  ·refine zL (k:=8) (u:=qa true) O (by rw [hg1]) ?_
   have hg1':=xT hg1
   exact BI (v:=(pP b2 1)) O (AA O underlying62 O sizeOf9 O) (BI (v:=(Value.string (Bm b))) O (AH (i:=0) (v:=(Value.string (Bm b))) O O Tj.a O) (BI (v:=(qa (decide (b<18446744073709551616)))) O (Bh (c:=(decide (b<18446744073709551616))) O O Cg) (AD (v:=(qa (decide (b<18446744073709551616)))) (AX O O) O (oNl' (zT Cd (xR _))))))
  ·refine zL (k:=8) (u:=qa false) O (by rw [hg1]) ?_
   have hg1':=xS hg1
   exact BT O (BT O (BT O (AD (v:=(qa false)) (AP O O) O (oNl' (zT Cd (xR _))))))
 refine oNl' (zB (sL [2,3,4,12] O) (zA ?_))
 refine yb (tg True) (tg [(2,(pP b1 0)),(3,(pP b2 0))]) (tg [AY b2 62 (AT b),AY b1 62 (AT a)]) ?_ ?_
 ·refine zK O (λhc0=>?_) (λhc0=>?_)
  ·simp only [jK] at hc0
   refine zX (zI (q4 (AD (v:=(pP b1 0)) (AA O underlying62 O sizeOf60 O) O (BG 1 (vK .u64 (B6 a)) G5 O (zL (k:=15) (u:=(vK .u64 a)) O (by rw [Bf hc0.1]) (AD (v:=(pP b2 0)) (AA O underlying62 O sizeOf60 O) O (BG 0 (vK .u64 (B6 b)) G5 O (zL (k:=17) (u:=(vK .u64 b)) O (by rw [Bf hc0.2]) (AD (Ab (c:=(decide (a<b))) O O (DA (a:=a) (b:=b))) O (asg' O (oNl' ?_)))))))))))
   refine zB (sL [2,3,4,13] O) (zA ?_)
   refine zK O (λhc1=>?_) (λhc1=>?_)
   ·replace hc1:=xT hc1
    have hz:Fy a b = -1:=if_pos hc1
    exact q4 (asg' O (oNl' (zA (zG (zR (zJ (yP (zJ (ret_one O (rd_tmp (v:=(vI (-1:Int))) O) (λw hw=>⟨by rw [hz],hw.out⟩))))))))))
   ·replace hc1:=xS hc1
    refine q4 (AD (v:=(pP b1 0)) (AA O underlying62 O sizeOf60 O) O (BG 1 (vK .u64 (B6 a)) G5 O (zL (k:=21) (u:=(vK .u64 a)) O (by rw [Bf hc0.1]) (AD (v:=(pP b2 0)) (AA O underlying62 O sizeOf60 O) O (BG 0 (vK .u64 (B6 b)) G5 O (zL (k:=23) (u:=(vK .u64 b)) O (by rw [Bf hc0.2]) (AD (Da (c:=(decide (b<a))) O O (DA (a:=b) (b:=a))) O (asg' O (oNl' (zB (sL [2,3,4,19] O) (zA ?_)))))))))))
    refine zK O (λhc2=>?_) (λhc2=>?_)
    ·replace hc2:=xT hc2
     have hz:Fy a b=1:=by unfold Fy;rw [if_neg Z,if_neg Z]
     exact q4 (asg' O (oNl' (zA (zG (zR (zJ (yP (zJ (ret_one O (rd_tmp (v:=(vI 1)) O) (λw hw=>⟨by rw [hz],hw.out⟩))))))))))
    ·replace hc2:=xS hc2
     have hz:Fy a b=0:=RR.2 Z
     exact zC (zF (q2 (asg' O (oNl' (zA (zG (yP (zJ (ret_one O (rd_tmp (v:=(vI 0)) O) (λw hw=>⟨by rw [hz],hw.out⟩))))))))))
  ·simp only [jK] at hc0
   exact zC (yF  (trivial) (sF O) sr)
 ·intro hJ
  refine q1 (C8 [(0,true),(2,true),(1,false),(3,false),(4,false),(5,true)] sr (Ej 1 B8 O (Ej 0 B8 O (zN O (yA (V:=λb3=>(qz (jk b3) (nw a) ((Ar a).length))) (T:=89) (cs:=Aj (Ar a)) (AI O) (Am (args:=[(aG (AT a))]) O O call152) (λw hw=>DS a Z w) O (A_ O) λb3=>zD (sl sr) (zN O (yA (V:=λb4=>(qz (jk b4) (nw b) ((Ar b).length))) (T:=89) (cs:=Aj (Ar b)) (AI O) (Am (args:=[(aG (AT b))]) O O call152) (λw hw=>DS b Z w) O (A_ O) λb4=>zD (sl (sl sr)) (zN O (C3 call259 (λw hw=>Zv a b _ _ _ _ Z Z w (hw.get (i:=1) O) (hw.get (i:=0) O)) O ?_)))))))))
  exact zD (sl (sl sr)) (pS' O (zQ (zB (sL [2,3,4] O) (zA (zG (ret_one O (rd_tmp (v:=(vI (Fy a b))) O) (λw hw=>⟨rfl,hw.out⟩)))))))
theorem Tk (a b:Nat) (ha:nw a<=1099511627776) (hb:nw b<=1099511627776) (w:World)  :Calls prog 159 #[(aG (AT a)),(aG (AT b))] w (Ac w (aG (AT (a+b)))):=by
 have hla:=CQ a
 have hlb:=CQ b
 refine AW (args:=[(aG (AT a)),(aG (AT b))]) func159 O O (A_ O) (zM (sL [0,1] O) (q4 (BV (cs:=AT a) O λb1=>BV (cs:=AT b) O λb2=>al GV O λb3=>q6 (sL [2,3,4] O) (q4 (AD (v:=(pP b1 1)) (AA O underlying62 O sizeOf9 O) O (BG 2 (Value.string (Bm a)) Tj O (AD (Bh (c:=(decide (a<18446744073709551616))) O O Cg) O (AL O ?_))))))))
 refine zi (FM:=[(2,(pP b1 0)),(3,(pP b2 0)),(4,(pP b3 0)),(13,(pP b1 1)),(14,(Value.string (Bm a))),(15,(qa (decide (a<18446744073709551616)))),(16,(qa (decide (a<18446744073709551616)))),(20,(qa ((decide (a<18446744073709551616))&&(decide (b<18446744073709551616)))))]) (LM:=[AY b3 62 (AT 0),AY b2 62 (AT b),AY b1 62 (AT a)]) 4 ?_ ?_
 ·rcases xQ (decide (a<18446744073709551616)) with hg1|hg1
  ·refine zL (k:=16) (u:=qa true) O (by rw [hg1]) ?_
   have hg1':=xT hg1
   exact BI (v:=(pP b2 1)) O (AA O underlying62 O sizeOf9 O) (BI (v:=(Value.string (Bm b))) O (AH (i:=1) (v:=(Value.string (Bm b))) O O Tj.a O) (BI (v:=(qa (decide (b<18446744073709551616)))) O (Bh (c:=(decide (b<18446744073709551616))) O O Cg) (AD (v:=(qa (decide (b<18446744073709551616)))) (AX O O) O (oNl' (zT Cd (xR _))))))
  ·refine zL (k:=16) (u:=qa false) O (by rw [hg1]) ?_
   have hg1':=xS hg1
   exact BT O (BT O (BT O (AD (v:=(qa false)) (AP O O) O (oNl' (zT Cd (xR _))))))
 refine oNl' (zB (sL [2,3,4,20] O) (zA ?_))
 refine yb (tg True) (tg [(2,(pP b1 0)),(3,(pP b2 0)),(4,(pP b3 0))]) (tg [AY b3 62 (AT 0),AY b2 62 (AT b),AY b1 62 (AT a)]) ?_ ?_
 ·refine zK O (λhc0=>?_) (λhc0=>?_)
  ·simp only [jK] at hc0
   refine q4 (AD (v:=(pP b1 0)) (AA O underlying62 O sizeOf60 O) O (BG 2 (vK .u64 (B6 a)) G5 O (zL (k:=23) (u:=(vK .u64 a)) O (by rw [Bf hc0.1]) (AD (v:=(pP b2 0)) (AA O underlying62 O sizeOf60 O) O (BG 1 (vK .u64 (B6 b)) G5 O (zL (k:=25) (u:=(vK .u64 b)) O (by rw [Bf hc0.2]) (AD (v:=(Value.tuple #[(vK .u64 ((a+b+0)%18446744073709551616)),(vK .u64 ((a+b+0)/18446744073709551616))])) (Sa (args:=[(vK .u64 a),(vK .u64 b),(Value.int .u64 (0:Int))]) O O (λw=>TB func206 jV jV jV jV a b 0 Z w)) O (AL O (AD (AJ (v:=(vK .u64 ((a+b+0)%18446744073709551616))) O O) O (AD (AJ (v:=(vK .u64 ((a+b+0)/18446744073709551616))) O O) O (asg' O ?_)))))))))))
   refine asg' O (q3 (sL [2,3,4,5,6] O) (AL O (AD (BM (c:=(decide (((a+b+0)/18446744073709551616)=0))) O O (O5 (a:=(a+b+0)/18446744073709551616) (b:=0))) O (oNl' (zB (sL [2,3,4,5,30] O) (zA ?_))))))
   refine zK O (λhc1=>?_) (λhc1=>?_)
   ·replace hc1:=xT hc1
    exact q4 (AL O (AD (v:=(aG ([(vK .u64 ((a+b+0)%18446744073709551616)),(Value.string (Bm 0))]))) (AQ (zs:=AT 0) (vs:=[(vK .u64 ((a+b+0)%18446744073709551616)),(Value.string (Bm 0))]) (pv:=[(0,(vK .u64 ((a+b+0)%18446744073709551616)))]) (places:=[(0,1),(1,1)]) zeroValue62 underlying62 (λw=>by simp [sizeOf9,sizeOf60]) O O) O (zL (k:=32) (u:=(aG (AT (a+b)))) O (by rw [Dq Z,show (a+b+0)%18446744073709551616=a+b by omega];rfl) (Ah O sizeOf62 O (oNl' (zB (sL [2,3,4] O) (zA (zG (yP (zJ (ret_one O (An (i:=0) (cs:=AT (a+b)) O O isAgg62 sizeOf62 O) (λw hw=>⟨rfl,hw.out⟩))))))))))))
   ·replace hc1:=xS hc1
    exact zC (yF  (trivial) (sF O) sr)
  ·simp only [jK] at hc0
   exact zC (yF  (trivial) (sF O) sr)
 ·intro hJ
  refine q1 (C8 [(0,true),(2,true),(1,false),(3,false),(4,true),(5,true)] sr (Ej 2 B8 O (Ej 1 B8 O (zN O (yA (V:=λb4=>(qz (jk b4) (nw a) ((Ar a).length))) (T:=89) (cs:=Aj (Ar a)) (AI O) (Am (args:=[(aG (AT a))]) O O call152) (λw hw=>DS a Z w) O (A_ O) λb4=>zD (sl sr) (zN O (yA (V:=λb5=>(qz (jk b5) (nw b) ((Ar b).length))) (T:=89) (cs:=Aj (Ar b)) (AI O) (Am (args:=[(aG (AT b))]) O O call152) (λw hw=>DS b Z w) O (A_ O) λb5=>zD (sl (sl sr)) (pS' O (pS' O ?_)))))))))
  refine zQ (zB (sL [2,3,4,7,8] O) (q1 (q4 (AL O (AD (v:=(vN (nw a))) (AE O underlying220) O (AL O (AD (v:=(vN (nw b))) (AE O underlying220) O (AD (Ab (c:=(decide ((nw a)<(nw b)))) O O (DA (a:=nw a) (b:=nw b))) O (oNl' (zB (sL [2,3,4,7,8,41] O) (zA ?_)))))))))))
  refine zK O (λhc2=>?_) (λhc2=>?_)
  ·replace hc2:=xT hc2
   refine zH (AL O (AL O (asg' O (asg' O (q3 (sL [2,3,4,7,8] O) (AL O (AD (v:=(vN (nw b))) (AE O underlying220) O (AD (AS (c:=(((nw b)+1:Nat):Int)) O O (AV (a:=nw b) (b:=1) Z)) O (ze (V:=λb6=>(qz (jk b6) ((nw b)+1) ((nw b)+1))) (T:=89) (cs:=Aj (List.replicate ((nw b)+1) 0)) (AI O) (DK (m:=(nw b)+1) (c:=(nw b)+1) O O Z Z) O (A_ O) λb6=>asg' O (q3 (sL [2,3,4,7,8,9] O) ?_))))))))))
   refine AL O (AL O (yk (i:=0) (j:=1) (ns:=Aj (AK b)) (cs':=Aj (AK b++(List.replicate (nw b+1) 0).drop (AK b).length)) (L':=[AY b6 89 (Aj (AK b++(List.replicate (nw b+1) 0).drop (AK b).length)),AY b5 89 (Aj (Ar b)),AY b4 89 (Aj (Ar a)),AY b3 62 (AT 0),AY b2 62 (AT b),AY b1 62 (AT a)]) O (AI O) O O O O (by rw [NN,Ih]) (BO _) (Pg _) Z (by rw [BO];simp;try omega) (Ph _ _) O (A_ O) (q3 (sL [2,3,4,7,8,9] O) (asg' O (oNl' (q1 (q4 (AL O (AD (v:=(vN ((nw b)+1))) (AE O underlying220) O (AL O (oNl' ?_)))))))))))
   refine zB (sL [2,3,4,7,8,9,10,52,53] O) (zA (zI ?_))
   refine yQ (tg λ(i:Nat) (os:List Nat) (c:Nat)=>i<=nw b+1/\os.length=nw b+1/\W32 os/\c<=1/\val os+c*4294967296^i=b+val ((AK a).take i)) (tg λ(i:Nat) (os:List Nat) (c:Nat)=>[(4,(pP b3 0)),(8,(qz (jk b4) (nw a) ((Ar a).length))),(9,(qz (jk b6) ((nw b)+1) ((nw b)+1))),(52,(vN ((nw b)+1))),(53,(vN i)),(10,(vK .u32 c))]) (tg λ(i:Nat) (os:List Nat) (c:Nat)=>[AY b6 89 (Aj os),AY b5 89 (Aj (Ar b)),AY b4 89 (Aj (Ar a)),AY b3 62 (AT 0),AY b2 62 (AT b),AY b1 62 (AT a)]) (tg λ(i:Nat) (os:List Nat) (c:Nat)=>nw b+1-i) 0 (AK b++(List.replicate (nw b+1) 0).drop (AK b).length) 0 (⟨xJ _,(Fz b 1).1,(Fz b 1).2.1,Z,by rw [(Fz b 1).2.2];simp [val]⟩) (sF O) sr (λi os c hJ=>?_)
   obtain ⟨hi,hl,hw32,hcc,hv⟩:=hJ
   refine q4 (AD (Ab (c:=(decide (i<((nw b)+1)))) O O (DA (a:=i) (b:=(nw b)+1))) O (oNl' (q1 ?_)))
   refine zK O (λhc3=>?_) (λhc3=>?_)
   ·replace hc3:=xT hc3
    refine zC (q1 (zI (q4 (AL O (asg' O (q3 (sL [4,8,9,52,53,10,11] O) (asg' O (oNl' (q1 (q4 (AL O ?_)))))))))))
    refine AL O (AD (v:=(vN (nw a))) (AE O underlying220) O (AD (Ab (c:=(decide (i<(nw a)))) O O (DA (a:=i) (b:=nw a))) O (oNl' (zB (sL [4,8,9,52,53,10,11,12,59] O) (zA ?_)))))
    refine yb (tg True) (tg [(4,(pP b3 0)),(8,(qz (jk b4) (nw a) ((Ar a).length))),(9,(qz (jk b6) ((nw b)+1) ((nw b)+1))),(52,(vN ((nw b)+1))),(53,(vN i)),(10,(vK .u32 c)),(11,(vN i)),(12,(vK .u32 ((AK a).getD i 0)))]) (tg [AY b6 89 (Aj os),AY b5 89 (Aj (Ar b)),AY b4 89 (Aj (Ar a)),AY b3 62 (AT 0),AY b2 62 (AT b),AY b1 62 (AT a)]) ?_ ?_
    ·refine zK O (λhc4=>?_) (λhc4=>?_)
     ·replace hc4:=xT hc4
      refine zH (AL O (AL O (AD (v:=(pP b4 i)) (AG (j:=i) O O underlying220 sizeOf89 O Z jX) O ?_)))
      have hx1:(Ar a).getD i 0<4294967296:=W32.getD (CU a) i
      exact AD (AH (i:=2) (v:=(vK .u32 ((Ar a).getD i 0))) O O isAgg89 (BF (xs:=Ar a) (j:=i) Z)) O (zL (k:=63) (u:=(vK .u32 ((AK a).getD i 0))) O (by rw [Dl hc4]) (asg' O (oNl' (zB (sL [4,8,9,52,53,10,11,12] O) (yF  (trivial) (sF O) sr)))))
     ·replace hc4:=xS hc4
      exact zC (yT (k:=12) (u:=Value.int .u32 (((AK a).getD i 0:Nat):Int)) O (by rw [En hc4];rfl) (yF  (trivial) (sF O) sr))
    ·intro hJ
     refine zA (zH (AL O (AL O (AL O (AL O (AD (v:=(pP b6 i)) (AG (j:=i) O O underlying220 sizeOf89 O Z jX) O ?_))))))
     have hx2:os.getD i 0<4294967296:=W32.getD hw32 i
     refine AD (AH (i:=0) (v:=(vK .u32 (os.getD i 0))) O O isAgg89 (BF (xs:=os) (j:=i) Z)) O (AL O (AL O ?_))
     have hya:=(Br a).getD i
     have hyb:=(Br b).getD i
     refine ck' call207 (Ki (os.getD i 0) ((AK a).getD i 0) c Z Z Z) O (AL O (AD (AJ (v:=(vK .u32 (((os.getD i 0)+((AK a).getD i 0)+c)%4294967296))) O O) O (AD (AJ (v:=(vK .u32 (((os.getD i 0)+((AK a).getD i 0)+c)/4294967296))) O O) O (AD (v:=(pP b6 i)) (AG (j:=i) O O underlying220 sizeOf89 O Z jX) O (zo (i:=0) (off:=i) (vs:=[(vK .u32 (((os.getD i 0)+((AK a).getD i 0)+c)%4294967296))]) (cs':=Aj (os.set i (((os.getD i 0)+((AK a).getD i 0)+c)%4294967296))) (L':=[AY b6 89 (Aj (os.set i (((os.getD i 0)+((AK a).getD i 0)+c)%4294967296))),AY b5 89 (Aj (Ar b)),AY b4 89 (Aj (Ar a)),AY b3 62 (AT 0),AY b2 62 (AT b),AY b1 62 (AT a)]) (AI O) O O O O O sizeOf89 O (Cm (BO _) Z) (CI Z) O (asg' O (oNl' (zB (sL [4,8,9,52,53,10,11,12] O) (zF (zA (zH ?_)))))))))))
     exact AD (AS (c:=((i+1:Nat):Int)) O O (AV (a:=i) (b:=1) Z)) O (AL O (oNl' (zB (sL [4,8,9,52,53,10,11,12] O) (yM (i+1) (os.set i ((os.getD i 0+(AK a).getD i 0+c)%4294967296)) ((os.getD i 0+(AK a).getD i 0+c)/4294967296) (⟨Z,by rw [List.length_set];exact hl,W32.set hw32 Z i,Z,Oj hl hc3 hv⟩) Z (sF O) sr))))
   ·replace hc3:=xS hc3
    refine zU (zO (yB (zP (q2 (AL O (C3 call181 (λw hw=>Jj _ ((nw b)+1) ((nw b)+1) os hw32 (by first|omega|(rw [rowN_length];omega)|simp|(simp;omega)) (by first|omega|simp|(simp;omega)) (by first|omega|simp|(simp;omega)) w (hw.get (i:=0) O)) O (zL (k:=79) (u:=(aG (AT (a+b)))) O (by rw [List.take_of_length_le (show os.length<=nw b+1 by omega),Oi (X:=b) (Y:=a) (c:=c) (i:=i) hl hw32 Z (Wj Z) (by rw [hv,DR Z]),Nat.add_comm]) (Fi O sizeOf62 O (oNl' (zB (sL [4,8,9,52,53,10] O) (zA ?_)))))))))))
    exact zG (ret_one O (An (i:=3) (cs:=AT (a+b)) O O isAgg62 sizeOf62 O) (λw hw=>⟨rfl,hw.out⟩))
  ·replace hc2:=xS hc2
   refine zC (q2 (AL O (AD (v:=(vN (nw a))) (AE O underlying220) O (AD (AS (c:=(((nw a)+1:Nat):Int)) O O (AV (a:=nw a) (b:=1) Z)) O (ze (V:=λb6=>(qz (jk b6) ((nw a)+1) ((nw a)+1))) (T:=89) (cs:=Aj (List.replicate ((nw a)+1) 0)) (AI O) (DK (m:=(nw a)+1) (c:=(nw a)+1) O O Z Z) O (A_ O) λb6=>asg' O (q3 (sL [2,3,4,7,8,9] O) (AL O (AL O (yk (i:=0) (j:=2) (ns:=Aj (AK a)) (cs':=Aj (AK a++(List.replicate (nw a+1) 0).drop (AK a).length)) (L':=[AY b6 89 (Aj (AK a++(List.replicate (nw a+1) 0).drop (AK a).length)),AY b5 89 (Aj (Ar b)),AY b4 89 (Aj (Ar a)),AY b3 62 (AT 0),AY b2 62 (AT b),AY b1 62 (AT a)]) O (AI O) O O O O (by rw [NN,Ih]) (BO _) (Pg _) Z (by rw [BO];simp;try omega) (Ph _ _) O (A_ O) (q3 (sL [2,3,4,7,8,9] O) ?_))))))))))
   refine asg' O (oNl' (q1 (q4 (AL O (AD (v:=(vN ((nw a)+1))) (AE O underlying220) O (AL O (oNl' (zB (sL [2,3,4,7,8,9,10,52,53] O) (zA (zI ?_))))))))))
   refine yQ (tg λ(i:Nat) (os:List Nat) (c:Nat)=>i<=nw a+1/\os.length=nw a+1/\W32 os/\c<=1/\val os+c*4294967296^i=a+val ((AK b).take i)) (tg λ(i:Nat) (os:List Nat) (c:Nat)=>[(4,(pP b3 0)),(8,(qz (jk b5) (nw b) ((Ar b).length))),(9,(qz (jk b6) ((nw a)+1) ((nw a)+1))),(52,(vN ((nw a)+1))),(53,(vN i)),(10,(vK .u32 c))]) (tg λ(i:Nat) (os:List Nat) (c:Nat)=>[AY b6 89 (Aj os),AY b5 89 (Aj (Ar b)),AY b4 89 (Aj (Ar a)),AY b3 62 (AT 0),AY b2 62 (AT b),AY b1 62 (AT a)]) (tg λ(i:Nat) (os:List Nat) (c:Nat)=>nw a+1-i) 0 (AK a++(List.replicate (nw a+1) 0).drop (AK a).length) 0 (⟨xJ _,(Fz a 1).1,(Fz a 1).2.1,Z,by rw [(Fz a 1).2.2];simp [val]⟩) (sF O) sr (λi os c hJ=>?_)
   obtain ⟨hi,hl,hw32,hcc,hv⟩:=hJ
   refine q4 (AD (Ab (c:=(decide (i<((nw a)+1)))) O O (DA (a:=i) (b:=(nw a)+1))) O (oNl' (q1 ?_)))
   refine zK O (λhc3=>?_) (λhc3=>?_)
   ·replace hc3:=xT hc3
    refine zC (q1 (zI (q4 (AL O (asg' O (q3 (sL [4,8,9,52,53,10,11] O) (asg' O (oNl' (q1 (q4 (AL O ?_)))))))))))
    refine AL O (AD (v:=(vN (nw b))) (AE O underlying220) O (AD (Ab (c:=(decide (i<(nw b)))) O O (DA (a:=i) (b:=nw b))) O (oNl' (zB (sL [4,8,9,52,53,10,11,12,59] O) (zA ?_)))))
    refine yb (tg True) (tg [(4,(pP b3 0)),(8,(qz (jk b5) (nw b) ((Ar b).length))),(9,(qz (jk b6) ((nw a)+1) ((nw a)+1))),(52,(vN ((nw a)+1))),(53,(vN i)),(10,(vK .u32 c)),(11,(vN i)),(12,(vK .u32 ((AK b).getD i 0)))]) (tg [AY b6 89 (Aj os),AY b5 89 (Aj (Ar b)),AY b4 89 (Aj (Ar a)),AY b3 62 (AT 0),AY b2 62 (AT b),AY b1 62 (AT a)]) ?_ ?_
    ·refine zK O (λhc4=>?_) (λhc4=>?_)
     ·replace hc4:=xT hc4
      refine zH (AL O (AL O (AD (v:=(pP b5 i)) (AG (j:=i) O O underlying220 sizeOf89 O Z jX) O ?_)))
      have hx3:(Ar b).getD i 0<4294967296:=W32.getD (CU b) i
      exact AD (AH (i:=1) (v:=(vK .u32 ((Ar b).getD i 0))) O O isAgg89 (BF (xs:=Ar b) (j:=i) Z)) O (zL (k:=63) (u:=(vK .u32 ((AK b).getD i 0))) O (by rw [Dl hc4]) (asg' O (oNl' (zB (sL [4,8,9,52,53,10,11,12] O) (yF  (trivial) (sF O) sr)))))
     ·replace hc4:=xS hc4
      exact zC (yT (k:=12) (u:=Value.int .u32 (((AK b).getD i 0:Nat):Int)) O (by rw [En hc4];rfl) (yF  (trivial) (sF O) sr))
    ·intro hJ
     refine zA (zH (AL O (AL O (AL O (AL O (AD (v:=(pP b6 i)) (AG (j:=i) O O underlying220 sizeOf89 O Z jX) O ?_))))))
     have hx4:os.getD i 0<4294967296:=W32.getD hw32 i
     refine AD (AH (i:=0) (v:=(vK .u32 (os.getD i 0))) O O isAgg89 (BF (xs:=os) (j:=i) Z)) O (AL O (AL O ?_))
     have hya:=(Br a).getD i
     have hyb:=(Br b).getD i
     refine ck' call207 (Ki (os.getD i 0) ((AK b).getD i 0) c Z Z Z) O (AL O (AD (AJ (v:=(vK .u32 (((os.getD i 0)+((AK b).getD i 0)+c)%4294967296))) O O) O (AD (AJ (v:=(vK .u32 (((os.getD i 0)+((AK b).getD i 0)+c)/4294967296))) O O) O (AD (v:=(pP b6 i)) (AG (j:=i) O O underlying220 sizeOf89 O Z jX) O (zo (i:=0) (off:=i) (vs:=[(vK .u32 (((os.getD i 0)+((AK b).getD i 0)+c)%4294967296))]) (cs':=Aj (os.set i (((os.getD i 0)+((AK b).getD i 0)+c)%4294967296))) (L':=[AY b6 89 (Aj (os.set i (((os.getD i 0)+((AK b).getD i 0)+c)%4294967296))),AY b5 89 (Aj (Ar b)),AY b4 89 (Aj (Ar a)),AY b3 62 (AT 0),AY b2 62 (AT b),AY b1 62 (AT a)]) (AI O) O O O O O sizeOf89 O (Cm (BO _) Z) (CI Z) O (asg' O (oNl' (zB (sL [4,8,9,52,53,10,11,12] O) (zF (zA (zH ?_)))))))))))
     exact AD (AS (c:=((i+1:Nat):Int)) O O (AV (a:=i) (b:=1) Z)) O (AL O (oNl' (zB (sL [4,8,9,52,53,10,11,12] O) (yM (i+1) (os.set i ((os.getD i 0+(AK b).getD i 0+c)%4294967296)) ((os.getD i 0+(AK b).getD i 0+c)/4294967296) (⟨Z,by rw [List.length_set];exact hl,W32.set hw32 Z i,Z,Oj hl hc3 hv⟩) Z (sF O) sr))))
   ·replace hc3:=xS hc3
    refine zU (zO (yB (zP (q2 (AL O (C3 call181 (λw hw=>Jj _ ((nw a)+1) ((nw a)+1) os hw32 (by first|omega|(rw [rowN_length];omega)|simp|(simp;omega)) (by first|omega|simp|(simp;omega)) (by first|omega|simp|(simp;omega)) w (hw.get (i:=0) O)) O (zL (k:=79) (u:=(aG (AT (a+b)))) O (by rw [List.take_of_length_le (show os.length<=nw a+1 by omega),Oi (X:=a) (Y:=b) (c:=c) (i:=i) hl hw32 Z (Wj Z) (by rw [hv,DR Z])]) (Fi O sizeOf62 O (oNl' (zB (sL [4,8,9,52,53,10] O) (zA ?_)))))))))))
    exact zG (ret_one O (An (i:=3) (cs:=AT (a+b)) O O isAgg62 sizeOf62 O) (λw hw=>⟨rfl,hw.out⟩))
end
section
set_option maxRecDepth 100000
theorem MR  :Instr.fill ([(0,1),(1,1)].toArray[·]?) (AT 0).toArray []=some (AT 0).toArray:=by kernel_rfl
theorem Pz (a b:Nat) (ha:nw a<=1099511627776) (hb:nw b<=1099511627776) (w:World)  :Calls prog 179 #[(aG (AT a)),(aG (AT b))] w (Ac w (Value.tuple #[(aG (AT (a-b))),(qa (decide (b<=a)))])):=by
 have hla:=CQ a
 have hlb:=CQ b
 have hpa:=Yq a
 refine AW (args:=[(aG (AT a)),(aG (AT b))]) func179 O O (A_ O) (zM (sL [0,1] O) (q4 (BV (cs:=AT a) O λb1=>BV (cs:=AT b) O λb2=>al GV O λb3=>asg' O (q6 (sL [2,3,4,5] O) (q4 (Ak 2 B8 O (Ak 1 B8 O (ck' call223 (Tm a b Z Z) O ?_))))))))
 refine AD (Ab (c:=(decide ((Fy a b)<(0:Int)))) O O O) O (oNl' (zB (sL [2,3,4,5,14] O) (zA ?_)))
 refine zK O (λhc0=>?_) (λhc0=>?_)
 ·replace hc0:=xT hc0
  rw [J6] at hc0
  exact q4 (AD (v:=(aG (AT 0))) (AQ (zs:=AT 0) (vs:=AT 0) (pv:=[]) (places:=[(0,1),(1,1)]) zeroValue62 underlying62 (λw=>by simp [sizeOf9,sizeOf60]) O (MR )) O (zL (k:=15) (u:=(aG (AT (a-b)))) O (by rw [show a-b=0 by omega]) (Ah O sizeOf62 O (asg' O (oNl' (zB (sL [2,3,4,5] O) (zA (zG (zJ (Bs O (An (i:=0) (cs:=AT (a-b)) O O isAgg62 sizeOf62 O) (rd_tmp (v:=(qa false)) O) (λw hw=>⟨by rw [xH (show ¬b<=a by omega)],hw.out⟩)))))))))))
 ·replace hc0:=xS hc0
  rw [J6] at hc0
  have hnb:nw b<=nw a:=Dm Z
  refine zC (q1 (q4 (AD (v:=(pP b1 1)) (AA O underlying62 O sizeOf9 O) O (BG 2 (Value.string (Bm a)) Tj O (AD (Bh (c:=(decide (a<18446744073709551616))) O O Cg) O (oNl' (zB (sL [2,3,4,5,18] O) (zA ?_))))))))
  refine zK O (λhc1=>?_) (λhc1=>?_)
  ·replace hc1:=xT hc1
   refine q4 (AD (v:=(pP b1 0)) (AA O underlying62 O sizeOf60 O) O (BG 2 (vK .u64 (B6 a)) G5 O (zL (k:=20) (u:=(vK .u64 a)) O (by rw [Bf hc1]) (AD (v:=(pP b2 0)) (AA O underlying62 O sizeOf60 O) O (BG 1 (vK .u64 (B6 b)) G5 O (zL (k:=22) (u:=(vK .u64 b)) O (by rw [Bf Z]) (AD (Bt (c:=((a-b:Nat):Int)) O O (In (a:=a) (b:=b) Z Z)) O (AD (v:=(aG ([(vK .u64 (a-b)),(Value.string (Bm 0))]))) (AQ (zs:=AT 0) (vs:=[(vK .u64 (a-b)),(Value.string (Bm 0))]) (pv:=[(0,(vK .u64 (a-b)))]) (places:=[(0,1),(1,1)]) zeroValue62 underlying62 (λw=>by simp [sizeOf9,sizeOf60]) O O) O (zL (k:=24) (u:=(aG (AT (a-b)))) O (by rw [Dq Z];rfl) (Ah O sizeOf62 O (asg' O ?_)))))))))))
   exact oNl' (zB (sL [2,3,4,5] O) (zA (zG (zJ (Bs O (An (i:=0) (cs:=AT (a-b)) O O isAgg62 sizeOf62 O) (rd_tmp (v:=(qa true)) O) (λw hw=>⟨by rw [xI (show b<=a by omega)],hw.out⟩))))))
  ·replace hc1:=xS hc1
   have hpad:Ar a=AK a:=if_neg hc1
   refine zC (q1 (C8 [(0,true),(2,true),(1,false),(3,false),(4,true),(5,true)] sr (Ej 2 B8 O (Ej 1 B8 O (zN O (yA (V:=λb4=>(qz (jk b4) (nw a) ((Ar a).length))) (T:=89) (cs:=Aj (Ar a)) (AI O) (Am (args:=[(aG (AT a))]) O O call152) (λw hw=>DS a Z w) O (A_ O) λb4=>zD (sl sr) (zN O (yA (V:=λb5=>(qz (jk b5) (nw b) ((Ar b).length))) (T:=89) (cs:=Aj (Ar b)) (AI O) (Am (args:=[(aG (AT b))]) O O call152) (λw hw=>DS b Z w) O (A_ O) λb5=>zD (sl (sl sr)) (pS' O ?_)))))))))
   refine pS' O (zQ (zB (sL [2,3,4,5,6,7] O) (q2 (asg' O (oNl' (q1 (q4 (AL O (AD (v:=(vN (nw a))) (AE O underlying220) O (AL O (oNl' ?_)))))))))))
   refine zB (sL [2,3,4,5,6,7,8,30,31] O) (zA (zI ?_))
   refine yQ (tg λ(i:Nat) (os:List Nat) (c:Nat)=>i<=nw a/\os.length=nw a/\W32 os/\c<=1/\val os+val ((AK b).take i)=a+c*4294967296^i) (tg λ(i:Nat) (os:List Nat) (c:Nat)=>[(4,(pP b3 0)),(5,(qa false)),(6,(qz (jk b4) (nw a) ((Ar a).length))),(7,(qz (jk b5) (nw b) ((Ar b).length))),(30,(vN (nw a))),(31,(vN i)),(8,(vK .u32 c))]) (tg λ(i:Nat) (os:List Nat) (c:Nat)=>[AY b5 89 (Aj (Ar b)),AY b4 89 (Aj os),AY b3 62 (AT 0),AY b2 62 (AT b),AY b1 62 (AT a)]) (tg λ(i:Nat) (os:List Nat) (c:Nat)=>nw a-i) 0 (Ar a) 0 (⟨xJ _,by rw [hpad];rfl,CU a,Z,by rw [R9];simp [val]⟩) (sF O) sr (λi os c hJ=>?_)
   obtain ⟨hi,hl,hw32,hcc,hv⟩:=hJ
   refine q4 (AD (Ab (c:=(decide (i<(nw a)))) O O (DA (a:=i) (b:=nw a))) O (oNl' (q1 ?_)))
   refine zK O (λhc2=>?_) (λhc2=>?_)
   ·replace hc2:=xT hc2
    refine zC (q1 (zI (q4 (AL O (asg' O (q3 (sL [4,5,6,7,30,31,8,9] O) (asg' O (oNl' (q1 (q4 (AL O ?_)))))))))))
    refine AL O (AD (v:=(vN (nw b))) (AE O underlying220) O (AD (Ab (c:=(decide (i<(nw b)))) O O (DA (a:=i) (b:=nw b))) O (oNl' (zB (sL [4,5,6,7,30,31,8,9,10,37] O) (zA ?_)))))
    refine yb (tg True) (tg [(4,(pP b3 0)),(5,(qa false)),(6,(qz (jk b4) (nw a) ((Ar a).length))),(7,(qz (jk b5) (nw b) ((Ar b).length))),(30,(vN (nw a))),(31,(vN i)),(8,(vK .u32 c)),(9,(vN i)),(10,(vK .u32 ((AK b).getD i 0)))]) (tg [AY b5 89 (Aj (Ar b)),AY b4 89 (Aj os),AY b3 62 (AT 0),AY b2 62 (AT b),AY b1 62 (AT a)]) ?_ ?_
    ·refine zK O (λhc3=>?_) (λhc3=>?_)
     ·replace hc3:=xT hc3
      refine zH (AL O (AL O (AD (v:=(pP b5 i)) (AG (j:=i) O O underlying220 sizeOf89 O Z jX) O ?_)))
      have hx1:(Ar b).getD i 0<4294967296:=W32.getD (CU b) i
      exact AD (AH (i:=0) (v:=(vK .u32 ((Ar b).getD i 0))) O O isAgg89 (BF (xs:=Ar b) (j:=i) Z)) O (zL (k:=41) (u:=(vK .u32 ((AK b).getD i 0))) O (by rw [Dl hc3]) (asg' O (oNl' (zB (sL [4,5,6,7,30,31,8,9,10] O) (yF  (trivial) (sF O) sr)))))
     ·replace hc3:=xS hc3
      exact zC (yT (k:=10) (u:=Value.int .u32 (((AK b).getD i 0:Nat):Int)) O (by rw [En hc3];rfl) (yF  (trivial) (sF O) sr))
    ·intro hJ
     refine zA (zH (AL O (AL O (AL O (AL O (AD (v:=(pP b4 i)) (AG (j:=i) O O underlying220 sizeOf89 O Z jX) O ?_))))))
     have hx2:os.getD i 0<4294967296:=W32.getD hw32 i
     refine AD (AH (i:=1) (v:=(vK .u32 (os.getD i 0))) O O isAgg89 (BF (xs:=os) (j:=i) Z)) O (AL O (AL O ?_))
     have hyb:=(Br b).getD i
     refine ck' call225 (Lu (os.getD i 0) ((AK b).getD i 0) c _ Z Z Z O) O (AL O (AD (AJ (v:=(vK .u32 (((os.getD i 0)+(4294967296-((AK b).getD i 0))+(4294967296-c))%4294967296))) O O) O (AD (AJ (v:=(vK .u32 (JX (os.getD i 0) (((AK b).getD i 0)+c)))) O O) O (AD (v:=(pP b4 i)) (AG (j:=i) O O underlying220 sizeOf89 O Z jX) O (zo (i:=1) (off:=i) (vs:=[(vK .u32 (((os.getD i 0)+(4294967296-((AK b).getD i 0))+(4294967296-c))%4294967296))]) (cs':=Aj (os.set i (((os.getD i 0)+(4294967296-((AK b).getD i 0))+(4294967296-c))%4294967296))) (L':=[AY b5 89 (Aj (Ar b)),AY b4 89 (Aj (os.set i (((os.getD i 0)+(4294967296-((AK b).getD i 0))+(4294967296-c))%4294967296))),AY b3 62 (AT 0),AY b2 62 (AT b),AY b1 62 (AT a)]) (AI O) O O O O O sizeOf89 O (Cm (BO _) Z) (CI Z) O (asg' O (oNl' (zB (sL [4,5,6,7,30,31,8,9,10] O) (zF (zA (zH ?_)))))))))))
     exact AD (AS (c:=((i+1:Nat):Int)) O O (AV (a:=i) (b:=1) Z)) O (AL O (oNl' (zB (sL [4,5,6,7,30,31,8,9,10] O) (yM (i+1) (os.set i ((os.getD i 0+(4294967296-(AK b).getD i 0)+(4294967296-c))%4294967296)) (JX (os.getD i 0) ((AK b).getD i 0+c)) (⟨Z,by rw [List.length_set];exact hl,W32.set hw32 Z i,P3 _ _,Wi hl hc2 hw32 (Br b) hcc hv⟩) Z (sF O) sr))))
   ·replace hc2:=xS hc2
    refine zU (zO (yB (zP (q2 (AL O (C3 call181 (λw hw=>Jj _ (nw a) ((Ar a).length) os hw32 (by first|omega|(rw [rowN_length];omega)|simp|(simp;omega)) (by first|omega|simp|(simp;omega)) (by first|omega|simp|(simp;omega)) w (hw.get (i:=1) O)) O (zL (k:=57) (u:=(aG (AT (a-b)))) O (by rw [List.take_of_length_le (show os.length<=nw a by omega),Wh (X:=a) (Y:=b) (n:=nw a) (c:=c) (i:=i) hl hw32 Z Z (by rw [<-hv,DR Z]) (B7 a)]) (Ls O sizeOf62 O (asg' O (oNl' (zB (sL [4,5,6,7,30,31,8] O) ?_)))))))))))
    exact zA (zG (Bs O (An (i:=2) (cs:=AT (a-b)) O O isAgg62 sizeOf62 O) (rd_tmp (v:=(qa true)) O) (λw hw=>⟨by rw [xI (show b<=a by omega)],hw.out⟩)))
theorem Px (a b:Nat) (ha:nw a<=1099511627776) (hb:nw b<=1099511627776) (w:World)  :Calls prog 125 #[(aG (AT a)),(aG (AT b))] w (Ac w (aG (AT (a*b)))):=by
 have hla:=CQ a
 have hlb:=CQ b
 refine AW (args:=[(aG (AT a)),(aG (AT b))]) func125 O O (A_ O) (zM (sL [0,1] O) (q4 (BV (cs:=AT a) O λb1=>BV (cs:=AT b) O λb2=>al GV O λb3=>q6 (sL [2,3,4] O) (q4 (AD (v:=(pP b1 1)) (AA O underlying62 O sizeOf9 O) O (BG 2 (Value.string (Bm a)) Tj O (AD (Bh (c:=(decide (a<18446744073709551616))) O O Cg) O (AL O ?_))))))))
 refine zi (FM:=[(2,(pP b1 0)),(3,(pP b2 0)),(4,(pP b3 0)),(15,(pP b1 1)),(16,(Value.string (Bm a))),(17,(qa (decide (a<18446744073709551616)))),(18,(qa (decide (a<18446744073709551616)))),(22,(qa ((decide (a<18446744073709551616))&&(decide (b<18446744073709551616)))))]) (LM:=[AY b3 62 (AT 0),AY b2 62 (AT b),AY b1 62 (AT a)]) 4 ?_ ?_
 ·rcases xQ (decide (a<18446744073709551616)) with hg1|hg1
  ·refine zL (k:=18) (u:=qa true) O (by rw [hg1]) ?_
   have hg1':=xT hg1
   exact BI (v:=(pP b2 1)) O (AA O underlying62 O sizeOf9 O) (BI (v:=(Value.string (Bm b))) O (AH (i:=1) (v:=(Value.string (Bm b))) O O Tj.a O) (BI (v:=(qa (decide (b<18446744073709551616)))) O (Bh (c:=(decide (b<18446744073709551616))) O O Cg) (AD (v:=(qa (decide (b<18446744073709551616)))) (AX O O) O (oNl' (zT Cd (xR _))))))
  ·refine zL (k:=18) (u:=qa false) O (by rw [hg1]) ?_
   have hg1':=xS hg1
   exact BT O (BT O (BT O (AD (v:=(qa false)) (AP O O) O (oNl' (zT Cd (xR _))))))
 refine oNl' (zB (sL [2,3,4,22] O) (zA ?_))
 refine zK O (λhc0=>?_) (λhc0=>?_)
 ·simp only [jK] at hc0
  refine q4 (AD (v:=(pP b1 0)) (AA O underlying62 O sizeOf60 O) O (BG 2 (vK .u64 (B6 a)) G5 O (zL (k:=25) (u:=(vK .u64 a)) O (by rw [Bf hc0.1]) (AD (v:=(pP b2 0)) (AA O underlying62 O sizeOf60 O) O (BG 1 (vK .u64 (B6 b)) G5 O ?_)))))
  have hhi:a*b/18446744073709551616<18446744073709551616:=Nat.div_lt_of_lt_mul (Nat.mul_lt_mul'' hc0.1 hc0.2)
  refine zL (k:=27) (u:=(vK .u64 b)) O (by rw [Bf hc0.2]) (ck' call180 (Vo a b Z Z) O (AL O (AD (AJ (v:=(vK .u64 (a*b/18446744073709551616))) O O) O (AD (AJ (v:=(vK .u64 (a*b%18446744073709551616))) O O) O (asg' O (asg' O (q3 (sL [2,3,4,5,6] O) (AL O (AD (Aq (c:=(((a*b%18446744073709551616)%4294967296:Nat):Int)) O underlying60 underlying89 EX) O (AL O (AD (C1 (s:=32) (c:=(((a*b%18446744073709551616)/4294967296:Nat):Int)) O O O jY (GS (a:=a*b%18446744073709551616) (s:=32))) O ?_)))))))))))
  refine AD (Aq (c:=(((a*b%18446744073709551616)/4294967296:Nat):Int)) O underlying60 underlying89 (CW Z)) O (AL O (AD (Aq (c:=(((a*b/18446744073709551616)%4294967296:Nat):Int)) O underlying60 underlying89 EX) O (AL O (AD (C1 (s:=32) (c:=(((a*b/18446744073709551616)/4294967296:Nat):Int)) O O O jY (GS (a:=a*b/18446744073709551616) (s:=32))) O (AD (Aq (c:=(((a*b/18446744073709551616)/4294967296:Nat):Int)) O underlying60 underlying89 (CW Z)) O (ze (V:=λb4=>(qz (jk b4) 4 4)) (T:=89) (cs:=Aj ([(a*b%18446744073709551616)%4294967296,(a*b%18446744073709551616)/4294967296,(a*b/18446744073709551616)%4294967296,(a*b/18446744073709551616)/4294967296])) (AI O) (Ax (cs:=Aj ([(a*b%18446744073709551616)%4294967296,(a*b%18446744073709551616)/4294967296,(a*b/18446744073709551616)%4294967296,(a*b/18446744073709551616)/4294967296])) (pv:=[(0,(vK .u32 ((a*b%18446744073709551616)%4294967296))),(1,(vK .u32 ((a*b%18446744073709551616)/4294967296))),(2,(vK .u32 ((a*b/18446744073709551616)%4294967296))),(3,(vK .u32 ((a*b/18446744073709551616)/4294967296)))]) underlying220 sizeOf89 zeroValue89 jY jY O jV) O (A_ O) λb4=>C3 call181 (λw hw=>Jj _ 4 4 ([(a*b%18446744073709551616)%4294967296,(a*b%18446744073709551616)/4294967296,(a*b/18446744073709551616)%4294967296,(a*b/18446744073709551616)/4294967296]) (W32.cons Z (W32.cons Z (W32.cons Z (W32.cons Z (W32.nil))))) (by first|omega|(rw [rowN_length];omega)|simp|(simp;omega)) (by first|omega|simp|(simp;omega)) (by first|omega|simp|(simp;omega)) w (hw.get (i:=0) O)) O (zL (k:=42) (u:=(aG (AT (a*b)))) O (by rw [show ∀x y z t:Nat,[x,y,z,t].take 4=[x,y,z,t] from λ_ _ _ _=>rfl,bK Z hhi,show a*b%18446744073709551616+a*b/18446744073709551616*18446744073709551616=a*b by omega]) (CM O sizeOf62 O (oNl' (zB (sL [2,3,4] O) ?_))))))))))
  exact zA (zG (zJ (ret_one O (An (i:=1) (cs:=AT (a*b)) O O isAgg62 sizeOf62 O) (λw hw=>⟨rfl,hw.out⟩))))
 ·simp only [jK] at hc0
  refine zC (q1 (C8 [(0,true),(2,true),(1,false),(3,false),(4,true),(5,true)] sr (Ej 2 B8 O (Ej 1 B8 O (zN O (yA (V:=λb4=>(qz (jk b4) (nw a) ((Ar a).length))) (T:=89) (cs:=Aj (Ar a)) (AI O) (Am (args:=[(aG (AT a))]) O O call152) (λw hw=>DS a Z w) O (A_ O) λb4=>zD (sl sr) (zN O (yA (V:=λb5=>(qz (jk b5) (nw b) ((Ar b).length))) (T:=89) (cs:=Aj (Ar b)) (AI O) (Am (args:=[(aG (AT b))]) O O call152) (λw hw=>DS b Z w) O (A_ O) λb5=>zD (sl (sl sr)) (pS' O ?_)))))))))
  refine pS' O (zQ (zB (sL [2,3,4,7,8] O) (q2 (AL O (AD (v:=(vN (nw a))) (AE O underlying220) O (AL O (AD (v:=(vN (nw b))) (AE O underlying220) O (AD (AS (c:=(((nw a)+(nw b):Nat):Int)) O O (AV (a:=nw a) (b:=nw b) Z)) O (ze (V:=λb6=>(qz (jk b6) ((nw a)+(nw b)) ((nw a)+(nw b)))) (T:=89) (cs:=Aj (List.replicate ((nw a)+(nw b)) 0)) (AI O) (DK (m:=(nw a)+(nw b)) (c:=(nw a)+(nw b)) O O Z Z) O (A_ O) λb6=>asg' O (q6 (sL [2,3,4,7,8,9] O) ?_))))))))))
  refine q4 (AL O (AD (v:=(vN (nw a))) (AE O underlying220) O (AL O (oNl' (zA (zI ?_))))))
  refine yE (tg λ(i:Nat) (os:List Nat)=>i<=nw a/\os.length=nw a+nw b/\W32 os/\val os=val ((AK a).take i)*b) (tg λ(i:Nat) (os:List Nat)=>[(4,(pP b3 0)),(8,(qz (jk b5) (nw b) ((Ar b).length))),(9,(qz (jk b6) ((nw a)+(nw b)) ((nw a)+(nw b)))),(53,(qz (jk b4) (nw a) ((Ar a).length))),(54,(vN (nw a))),(55,(vN i))]) (tg λ(i:Nat) (os:List Nat)=>[AY b6 89 (Aj os),AY b5 89 (Aj (Ar b)),AY b4 89 (Aj (Ar a)),AY b3 62 (AT 0),AY b2 62 (AT b),AY b1 62 (AT a)]) (tg λ(i:Nat) (os:List Nat)=>nw a-i) 0 (List.replicate (nw a+nw b) 0) (⟨xJ _,by simp,W32.zeros _,by rw [EM];simp [val]⟩) (sF O) sr (λi os hJ=>?_)
  obtain ⟨hi,hl,hw32,hv⟩:=hJ
  refine q4 (AD (Ab (c:=(decide (i<(nw a)))) O O (DA (a:=i) (b:=nw a))) O (oNl' (q1 ?_)))
  refine zK O (λhc1=>?_) (λhc1=>?_)
  ·replace hc1:=xT hc1
   refine zC (q1 (zI (q4 (AL O (AD (v:=(pP b4 i)) (AG (j:=i) O O underlying220 sizeOf89 O Z jX) O ?_)))))
   have hx1:(Ar a).getD i 0<4294967296:=W32.getD (CU a) i
   refine AD (AH (i:=2) (v:=(vK .u32 ((Ar a).getD i 0))) O O isAgg89 (BF (xs:=Ar a) (j:=i) Z)) O (zL (k:=59) (u:=(vK .u32 ((AK a).getD i 0))) O (by rw [Dl hc1]) (asg' O (asg' O (q3 (sL [4,8,9,53,54,55,10,11] O) (asg' O (oNl' (q1 (q4 (AL O (AD (v:=(vN (nw b))) (AE O underlying220) O (AL O ?_)))))))))))
   refine oNl' (zA (zI ?_))
   refine yQ (tg λ(k:Nat) (xs:List Nat) (c:Nat)=>k<=nw b/\xs.length=nw a+nw b/\W32 xs/\c<4294967296/\(∀j,i+nw b<=j->xs.getD j 0=0)/\val xs+c*4294967296^(i+k)=val ((AK a).take i)*b+(AK a).getD i 0*val ((AK b).take k)*4294967296^i) (tg λ(k:Nat) (xs:List Nat) (c:Nat)=>[(4,(pP b3 0)),(8,(qz (jk b5) (nw b) ((Ar b).length))),(9,(qz (jk b6) ((nw a)+(nw b)) ((nw a)+(nw b)))),(53,(qz (jk b4) (nw a) ((Ar a).length))),(54,(vN (nw a))),(55,(vN i)),(10,(vN i)),(11,(vK .u32 ((AK a).getD i 0))),(60,(qz (jk b5) (nw b) ((Ar b).length))),(61,(vN (nw b))),(62,(vN k)),(12,(vK .u64 c))]) (tg λ(k:Nat) (xs:List Nat) (c:Nat)=>[AY b6 89 (Aj xs),AY b5 89 (Aj (Ar b)),AY b4 89 (Aj (Ar a)),AY b3 62 (AT 0),AY b2 62 (AT b),AY b1 62 (AT a)]) (tg λ(k:Nat) (xs:List Nat) (c:Nat)=>nw b-k) 0 os 0 (⟨xJ _,hl,hw32,Z,Q8 hv,by rw [hv];simp [val]⟩) (sF O) sr (λk xs c hJ=>?_)
   obtain ⟨hk,hl2,hw2,hcc,h02,hv2⟩:=hJ
   refine q4 (AD (Ab (c:=(decide (k<(nw b)))) O O (DA (a:=k) (b:=nw b))) O (oNl' (q1 ?_)))
   refine zK O (λhc2=>?_) (λhc2=>?_)
   ·replace hc2:=xT hc2
    refine zC (q1 (zI (q4 (AL O (AD (v:=(pP b5 k)) (AG (j:=k) O O underlying220 sizeOf89 O Z jX) O ?_)))))
    have hx2:(Ar b).getD k 0<4294967296:=W32.getD (CU b) k
    refine AD (AH (i:=1) (v:=(vK .u32 ((Ar b).getD k 0))) O O isAgg89 (BF (xs:=Ar b) (j:=k) Z)) O (zL (k:=66) (u:=(vK .u32 ((AK b).getD k 0))) O (by rw [Dl hc2]) (asg' O (asg' O (q3 (sL [4,8,9,53,54,55,10,11,60,61,62,12,13,14] O) (AL O (AL O ?_))))))
    have hwa:=(Br a).getD i
    have hwb:=(Br b).getD k
    have hml:=LY hwa hwb
    refine AD (Aq (c:=(((AK a).getD i 0:Nat):Int)) O underlying89 underlying60 (BS Z)) O (AL O (AD (Aq (c:=(((AK b).getD k 0:Nat):Int)) O underlying89 underlying60 (BS Z)) O (AD (Bo (c:=((((AK a).getD i 0)*((AK b).getD k 0):Nat):Int)) O O (FK (a:=(AK a).getD i 0) (b:=(AK b).getD k 0) Z)) O (AL O (AL O (AL O (AD (AS (c:=((i+k:Nat):Int)) O O (AV (a:=i) (b:=k) Z)) O (AD (v:=(pP b6 (i+k))) (AG (j:=i+k) O O underlying220 sizeOf89 O Z jX) O ?_))))))))
    have hx3:xs.getD (i+k) 0<4294967296:=W32.getD hw2 (i+k)
    refine AD (AH (i:=0) (v:=(vK .u32 (xs.getD (i+k) 0))) O O isAgg89 (BF (xs:=xs) (j:=(i+k)) Z)) O (AD (Aq (c:=((xs.getD (i+k) 0:Nat):Int)) O underlying89 underlying60 (BS Z)) O (AD (AS (c:=(((((AK a).getD i 0)*((AK b).getD k 0))+(xs.getD (i+k) 0):Nat):Int)) O O (De (a:=((AK a).getD i 0)*((AK b).getD k 0)) (b:=xs.getD (i+k) 0) Z)) O (AD (AS (c:=((c+((((AK a).getD i 0)*((AK b).getD k 0))+(xs.getD (i+k) 0)):Nat):Int)) O O (De (a:=c) (b:=(((AK a).getD i 0)*((AK b).getD k 0))+(xs.getD (i+k) 0)) Z)) O (asg' O (q3 (sL [4,8,9,53,54,55,10,11,60,61,62,12,13] O) (AL O (AL O (AL O (AD (AS (c:=((i+k:Nat):Int)) O O (AV (a:=i) (b:=k) Z)) O (AL O (AD (Aq (c:=(((c+((((AK a).getD i 0)*((AK b).getD k 0))+(xs.getD (i+k) 0)))%4294967296:Nat):Int)) O underlying60 underlying89 EX) O ?_)))))))))))
    refine AD (v:=(pP b6 (i+k))) (AG (j:=i+k) O O underlying220 sizeOf89 O Z jX) O (zo (i:=0) (off:=(i+k)) (vs:=[(vK .u32 ((c+((((AK a).getD i 0)*((AK b).getD k 0))+(xs.getD (i+k) 0)))%4294967296))]) (cs':=Aj (xs.set (i+k) ((c+((((AK a).getD i 0)*((AK b).getD k 0))+(xs.getD (i+k) 0)))%4294967296))) (L':=[AY b6 89 (Aj (xs.set (i+k) ((c+((((AK a).getD i 0)*((AK b).getD k 0))+(xs.getD (i+k) 0)))%4294967296))),AY b5 89 (Aj (Ar b)),AY b4 89 (Aj (Ar a)),AY b3 62 (AT 0),AY b2 62 (AT b),AY b1 62 (AT a)]) (AI O) O O O O O sizeOf89 O (Cm (BO _) Z) (CI Z) O (oNl' (zB (sL [4,8,9,53,54,55,10,11,60,61,62,12,13] O) (zA (zH (AL O (AD (C1 (s:=32) (c:=(((c+((((AK a).getD i 0)*((AK b).getD k 0))+(xs.getD (i+k) 0)))/4294967296:Nat):Int)) O O O jY (GS (a:=c+((((AK a).getD i 0)*((AK b).getD k 0))+(xs.getD (i+k) 0))) (s:=32))) O (asg' O (oNl' (zB (sL [4,8,9,53,54,55,10,11,60,61,62,12,13] O) (zF ?_)))))))))))
    exact zA (zH (AD (AS (c:=((k+1:Nat):Int)) O O (AV (a:=k) (b:=1) Z)) O (AL O (oNl' (zB (sL [4,8,9,53,54,55,10,11,60,61,62,12,13] O) (yM (k+1) (xs.set (i+k) ((c+((AK a).getD i 0*(AK b).getD k 0+xs.getD (i+k) 0))%4294967296)) ((c+((AK a).getD i 0*(AK b).getD k 0+xs.getD (i+k) 0))/4294967296) (⟨Z,by rw [List.length_set];exact hl2,W32.set hw2 Z _,Z,F6 h02 Z,Vq hl2 Z hv2⟩) Z (sF O) sr))))))
   ·replace hc2:=xS hc2
    have hkn:k=nw b:=by omega
    have hbb:val ((AK b).take k)=b:=DR Z
    rw [hbb] at hv2
    refine zU (zO (yB (zP (zA (zH (AL O (AL O (AL O (AD (v:=(vN (nw b))) (AE O underlying220) O (AD (AS (c:=((i+(nw b):Nat):Int)) O O (AV (a:=i) (b:=nw b) Z)) O (AL O ?_)))))))))))
    exact AD (Aq (c:=((c:Nat):Int)) O underlying60 underlying89 (CW Z)) O (AD (v:=(pP b6 (i+(nw b)))) (AG (j:=i+(nw b)) O O underlying220 sizeOf89 O Z jX) O (zo (i:=0) (off:=(i+(nw b))) (vs:=[(vK .u32 c)]) (cs':=Aj (xs.set (i+(nw b)) c)) (L':=[AY b6 89 (Aj (xs.set (i+(nw b)) c)),AY b5 89 (Aj (Ar b)),AY b4 89 (Aj (Ar a)),AY b3 62 (AT 0),AY b2 62 (AT b),AY b1 62 (AT a)]) (AI O) O O O O O sizeOf89 O (Cm (BO _) Z) (CI Z) O (oNl' (zB (sL [4,8,9,53,54,55,10,11,60,61,62,12] O) (zF (zA (zH (AD (AS (c:=((i+1:Nat):Int)) O O (AV (a:=i) (b:=1) Z)) O (AL O (oNl' (zB (sL [4,8,9,53,54,55,10,11,60,61,62,12] O) (zn (i+1) (xs.set (i+nw b) c) (⟨Z,by rw [List.length_set];exact hl2,W32.set hw2 hcc _,by rw [Id hl2 Z (h02 _ (Nat.le_refl _)),<-Yf,<-hv2,<-hkn]⟩) Z (sF O) sr))))))))))))
  ·replace hc1:=xS hc1
   refine zU (zO (zl (zP (q2 (AL O (C3 call181 (λw hw=>Jj _ ((nw a)+(nw b)) ((nw a)+(nw b)) os hw32 (by first|omega|(rw [rowN_length];omega)|simp|(simp;omega)) (by first|omega|simp|(simp;omega)) (by first|omega|simp|(simp;omega)) w (hw.get (i:=0) O)) O (zL (k:=102) (u:=(aG (AT (a*b)))) O (by rw [List.take_of_length_le (show os.length<=nw a+nw b by omega),hv,DR Z]) (Fi O sizeOf62 O (oNl' (zB (sL [4,8,9,53,54,55] O) (zA ?_)))))))))))
   exact zG (ret_one O (An (i:=3) (cs:=AT (a*b)) O O isAgg62 sizeOf62 O) (λw hw=>⟨rfl,hw.out⟩))
end
end Go.Proofs.YtbfdamnfcmefmaaGreatDoor
