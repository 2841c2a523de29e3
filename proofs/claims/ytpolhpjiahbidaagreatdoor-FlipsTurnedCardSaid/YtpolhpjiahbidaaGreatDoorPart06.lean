import Derived.Scope
import Derived.Test.YtpolhpjiahbidaaGreatDoorPart05
namespace Go.Proofs.YtpolhpjiahbidaaGreatDoor
open Go Go.RowKit Go.Proofs.Tryz
open Go.Value renaming slice→qz,bool→qa
set_option linter.unusedVariables false
set_option linter.unusedSimpArgs false
section
set_option maxRecDepth 100000
theorem L6  :Instr.fill ([(0,1),(1,1)].toArray[·]?) (AU 0).toArray []=some (AU 0).toArray:=by kernel_rfl
theorem PZ (a b:Nat) (ha:nw a<=1099511627776) (hb:nw b<=1099511627776) (w:World)  :Calls prog 204 #[(aG (AU a)),(aG (AU b))] w (Ad w (Value.tuple #[(aG (AU (a-b))),(qa (decide (b<=a)))])):=by
 have hla:=CQ a
 have hlb:=CQ b
 have hpa:=YF a
 refine AY (args:=[(aG (AU a)),(aG (AU b))]) func204 O O (BA O) (zM (sL [0,1] O) (q4 (BV (cs:=AU a) O λb1=>BV (cs:=AU b) O λb2=>al Ga O λb3=>asg' O (q6 (sL [2,3,4,5] O) (q4 (Al 2 CE O (Al 1 CE O (ck' call242 (TI a b Z Z) O ?_))))))))
 refine AD (Aa (c:=(decide ((Fw a b)<(0:Int)))) O O O) O (oNl' (zB (sL [2,3,4,5,14] O) (zA ?_)))
 refine zL O (λhc0=>?_) (λhc0=>?_)
 ·replace hc0:=xT hc0
  rw [J8] at hc0
  exact q4 (AD (v:=(aG (AU 0))) (AP (zs:=AU 0) (vs:=AU 0) (pv:=[]) (places:=[(0,1),(1,1)]) zeroValue71 underlying71 (λw=>by simp [sizeOf9,sizeOf69]) O (L6 )) O (zI (k:=15) (u:=(aG (AU (a-b)))) O (by rw [show a-b=0 by omega]) (Ag O sizeOf71 O (asg' O (oNl' (zB (sL [2,3,4,5] O) (zA (zF (zK (Bu O (Ao (i:=0) (cs:=AU (a-b)) O O isAgg71 sizeOf71 O) (rd_tmp (v:=(qa false)) O) (λw hw=>⟨by rw [xH (show ¬b<=a by omega)],hw.out⟩)))))))))))
 ·replace hc0:=xS hc0
  rw [J8] at hc0
  have hnb:nw b<=nw a:=Dv Z
  refine zC (q1 (q4 (AD (v:=(pP b1 1)) (AA O underlying71 O sizeOf9 O) O (BF 2 (Value.string (Bo a)) TE O (AD (Bj (c:=(decide (a<18446744073709551616))) O O Cm) O (oNl' (zB (sL [2,3,4,5,18] O) (zA ?_))))))))
  refine zL O (λhc1=>?_) (λhc1=>?_)
  ·replace hc1:=xT hc1
   refine q4 (AD (v:=(pP b1 0)) (AA O underlying71 O sizeOf69 O) O (BF 2 (vK .u64 (CC a)) G_ O (zI (k:=20) (u:=(vK .u64 a)) O (by rw [Bh hc1]) (AD (v:=(pP b2 0)) (AA O underlying71 O sizeOf69 O) O (BF 1 (vK .u64 (CC b)) G_ O (zI (k:=22) (u:=(vK .u64 b)) O (by rw [Bh Z]) (AD (B3 (c:=((a-b:Nat):Int)) O O (In (a:=a) (b:=b) Z Z)) O (AD (v:=(aG ([(vK .u64 (a-b)),(Value.string (Bo 0))]))) (AP (zs:=AU 0) (vs:=[(vK .u64 (a-b)),(Value.string (Bo 0))]) (pv:=[(0,(vK .u64 (a-b)))]) (places:=[(0,1),(1,1)]) zeroValue71 underlying71 (λw=>by simp [sizeOf9,sizeOf69]) O O) O (zI (k:=24) (u:=(aG (AU (a-b)))) O (by rw [Dz Z];rfl) (Ag O sizeOf71 O (asg' O ?_)))))))))))
   exact oNl' (zB (sL [2,3,4,5] O) (zA (zF (zK (Bu O (Ao (i:=0) (cs:=AU (a-b)) O O isAgg71 sizeOf71 O) (rd_tmp (v:=(qa true)) O) (λw hw=>⟨by rw [xI (show b<=a by omega)],hw.out⟩))))))
  ·replace hc1:=xS hc1
   have hpad:Aw a=AJ a:=if_neg hc1
   refine zC (q1 (DC [(0,true),(2,true),(1,false),(3,false),(4,true),(5,true)] sr (Ew 2 CE O (Ew 1 CE O (zN O (z8 (V:=λb4=>(qz (jk b4) (nw a) ((Aw a).length))) (T:=92) (cs:=Ak (Aw a)) (AI O) (Ar (args:=[(aG (AU a))]) O O call187) (λw hw=>DZ a Z w) O (BA O) λb4=>zD (sl sr) (zN O (z8 (V:=λb5=>(qz (jk b5) (nw b) ((Aw b).length))) (T:=92) (cs:=Ak (Aw b)) (AI O) (Ar (args:=[(aG (AU b))]) O O call187) (λw hw=>DZ b Z w) O (BA O) λb5=>zD (sl (sl sr)) (pS' O ?_)))))))))
   refine pS' O (zQ (zB (sL [2,3,4,5,6,7] O) (q2 (asg' O (oNl' (q1 (q4 (AL O (AD (v:=(vN (nw a))) (AE O underlying255) O (AL O (oNl' ?_)))))))))))
   refine zB (sL [2,3,4,5,6,7,8,30,31] O) (zA (zJ ?_))
   refine yR (tg λ(i:Nat) (os:List Nat) (c:Nat)=>i<=nw a/\os.length=nw a/\W32 os/\c<=1/\val os+val ((AJ b).take i)=a+c*4294967296^i) (tg λ(i:Nat) (os:List Nat) (c:Nat)=>[(4,(pP b3 0)),(5,(qa false)),(6,(qz (jk b4) (nw a) ((Aw a).length))),(7,(qz (jk b5) (nw b) ((Aw b).length))),(30,(vN (nw a))),(31,(vN i)),(8,(vK .u32 c))]) (tg λ(i:Nat) (os:List Nat) (c:Nat)=>[AX b5 92 (Ak (Aw b)),AX b4 92 (Ak os),AX b3 71 (AU 0),AX b2 71 (AU b),AX b1 71 (AU a)]) (tg λ(i:Nat) (os:List Nat) (c:Nat)=>nw a-i) 0 (Aw a) 0 (⟨xJ _,by rw [hpad];rfl,CY a,Z,by rw [Ra];simp [val]⟩) (sF O) sr (λi os c hJ=>?_)
   obtain ⟨hi,hl,hw32,hcc,hv⟩:=hJ
   refine q4 (AD (Aa (c:=(decide (i<(nw a)))) O O (DB (a:=i) (b:=nw a))) O (oNl' (q1 ?_)))
   refine zL O (λhc2=>?_) (λhc2=>?_)
   ·replace hc2:=xT hc2
    refine zC (q1 (zJ (q4 (AL O (asg' O (q3 (sL [4,5,6,7,30,31,8,9] O) (asg' O (oNl' (q1 (q4 (AL O ?_)))))))))))
    refine AL O (AD (v:=(vN (nw b))) (AE O underlying255) O (AD (Aa (c:=(decide (i<(nw b)))) O O (DB (a:=i) (b:=nw b))) O (oNl' (zB (sL [4,5,6,7,30,31,8,9,10,37] O) (zA ?_)))))
    refine yd (tg True) (tg [(4,(pP b3 0)),(5,(qa false)),(6,(qz (jk b4) (nw a) ((Aw a).length))),(7,(qz (jk b5) (nw b) ((Aw b).length))),(30,(vN (nw a))),(31,(vN i)),(8,(vK .u32 c)),(9,(vN i)),(10,(vK .u32 ((AJ b).getD i 0)))]) (tg [AX b5 92 (Ak (Aw b)),AX b4 92 (Ak os),AX b3 71 (AU 0),AX b2 71 (AU b),AX b1 71 (AU a)]) ?_ ?_
    ·refine zL O (λhc3=>?_) (λhc3=>?_)
     ·replace hc3:=xT hc3
      refine zH (AL O (AL O (AD (v:=(pP b5 i)) (AG (j:=i) O O underlying255 sizeOf92 O Z jX) O ?_)))
      have hx1:(Aw b).getD i 0<4294967296:=W32.getD (CY b) i
      exact AD (AH (i:=0) (v:=(vK .u32 ((Aw b).getD i 0))) O O isAgg92 (BH (xs:=Aw b) (j:=i) Z)) O (zI (k:=41) (u:=(vK .u32 ((AJ b).getD i 0))) O (by rw [Dt hc3]) (asg' O (oNl' (zB (sL [4,5,6,7,30,31,8,9,10] O) (yE  (trivial) (sF O) sr)))))
     ·replace hc3:=xS hc3
      exact zC (yU (k:=10) (u:=Value.int .u32 (((AJ b).getD i 0:Nat):Int)) O (by rw [Ep hc3];rfl) (yE  (trivial) (sF O) sr))
    ·intro hJ
     refine zA (zH (AL O (AL O (AL O (AL O (AD (v:=(pP b4 i)) (AG (j:=i) O O underlying255 sizeOf92 O Z jX) O ?_))))))
     have hx2:os.getD i 0<4294967296:=W32.getD hw32 i
     refine AD (AH (i:=1) (v:=(vK .u32 (os.getD i 0))) O O isAgg92 (BH (xs:=os) (j:=i) Z)) O (AL O (AL O ?_))
     have hyb:=(Bt b).getD i
     refine ck' call244 (Lf (os.getD i 0) ((AJ b).getD i 0) c _ Z Z Z O) O (AL O (AD (AK (v:=(vK .u32 (((os.getD i 0)+(4294967296-((AJ b).getD i 0))+(4294967296-c))%4294967296))) O O) O (AD (AK (v:=(vK .u32 (JV (os.getD i 0) (((AJ b).getD i 0)+c)))) O O) O (AD (v:=(pP b4 i)) (AG (j:=i) O O underlying255 sizeOf92 O Z jX) O (zp (i:=1) (off:=i) (vs:=[(vK .u32 (((os.getD i 0)+(4294967296-((AJ b).getD i 0))+(4294967296-c))%4294967296))]) (cs':=Ak (os.set i (((os.getD i 0)+(4294967296-((AJ b).getD i 0))+(4294967296-c))%4294967296))) (L':=[AX b5 92 (Ak (Aw b)),AX b4 92 (Ak (os.set i (((os.getD i 0)+(4294967296-((AJ b).getD i 0))+(4294967296-c))%4294967296))),AX b3 71 (AU 0),AX b2 71 (AU b),AX b1 71 (AU a)]) (AI O) O O O O O sizeOf92 O (Ct (BS _) Z) (CN Z) O (asg' O (oNl' (zB (sL [4,5,6,7,30,31,8,9,10] O) (zG (zA (zH ?_)))))))))))
     exact AD (AT (c:=((i+1:Nat):Int)) O O (AV (a:=i) (b:=1) Z)) O (AL O (oNl' (zB (sL [4,5,6,7,30,31,8,9,10] O) (yK (i+1) (os.set i ((os.getD i 0+(4294967296-(AJ b).getD i 0)+(4294967296-c))%4294967296)) (JV (os.getD i 0) ((AJ b).getD i 0+c)) (⟨Z,by rw [List.length_set];exact hl,W32.set hw32 Z i,Pd _ _,WA hl hc2 hw32 (Bt b) hcc hv⟩) Z (sF O) sr))))
   ·replace hc2:=xS hc2
    refine zU (zO (yA (zP (q2 (AL O (DH call206 (λw hw=>Jf _ (nw a) ((Aw a).length) os hw32 (by first|omega|(rw [rowN_length];omega)|simp|(simp;omega)) (by first|omega|simp|(simp;omega)) (by first|omega|simp|(simp;omega)) w (hw.get (i:=1) O)) O (zI (k:=57) (u:=(aG (AU (a-b)))) O (by rw [List.take_of_length_le (show os.length<=nw a by omega),V_ (X:=a) (Y:=b) (n:=nw a) (c:=c) (i:=i) hl hw32 Z Z (by rw [<-hv,DY Z]) (CD a)]) (My O sizeOf71 O (asg' O (oNl' (zB (sL [4,5,6,7,30,31,8] O) ?_)))))))))))
    exact zA (zF (Bu O (Ao (i:=2) (cs:=AU (a-b)) O O isAgg71 sizeOf71 O) (rd_tmp (v:=(qa true)) O) (λw hw=>⟨by rw [xI (show b<=a by omega)],hw.out⟩)))
theorem PW (a b:Nat) (ha:nw a<=1099511627776) (hb:nw b<=1099511627776) (w:World)  :Calls prog 153 #[(aG (AU a)),(aG (AU b))] w (Ad w (aG (AU (a*b)))):=by
 have hla:=CQ a
 have hlb:=CQ b
 refine AY (args:=[(aG (AU a)),(aG (AU b))]) func153 O O (BA O) (zM (sL [0,1] O) (q4 (BV (cs:=AU a) O λb1=>BV (cs:=AU b) O λb2=>al Ga O λb3=>q6 (sL [2,3,4] O) (q4 (AD (v:=(pP b1 1)) (AA O underlying71 O sizeOf9 O) O (BF 2 (Value.string (Bo a)) TE O (AD (Bj (c:=(decide (a<18446744073709551616))) O O Cm) O (AL O ?_))))))))
 refine ze (FM:=[(2,(pP b1 0)),(3,(pP b2 0)),(4,(pP b3 0)),(15,(pP b1 1)),(16,(Value.string (Bo a))),(17,(qa (decide (a<18446744073709551616)))),(18,(qa (decide (a<18446744073709551616)))),(22,(qa ((decide (a<18446744073709551616))&&(decide (b<18446744073709551616)))))]) (LM:=[AX b3 71 (AU 0),AX b2 71 (AU b),AX b1 71 (AU a)]) 4 ?_ ?_
 ·rcases xQ (decide (a<18446744073709551616)) with hg1|hg1
  ·refine zI (k:=18) (u:=qa true) O (by rw [hg1]) ?_
   have hg1':=xT hg1
   exact BM (v:=(pP b2 1)) O (AA O underlying71 O sizeOf9 O) (BM (v:=(Value.string (Bo b))) O (AH (i:=1) (v:=(Value.string (Bo b))) O O TE.a O) (BM (v:=(qa (decide (b<18446744073709551616)))) O (Bj (c:=(decide (b<18446744073709551616))) O O Cm) (AD (v:=(qa (decide (b<18446744073709551616)))) (AW O O) O (oNl' (zR Cc (xR _))))))
  ·refine zI (k:=18) (u:=qa false) O (by rw [hg1]) ?_
   have hg1':=xS hg1
   exact BO O (BO O (BO O (AD (v:=(qa false)) (AQ O O) O (oNl' (zR Cc (xR _))))))
 refine oNl' (zB (sL [2,3,4,22] O) (zA ?_))
 refine zL O (λhc0=>?_) (λhc0=>?_)
 ·simp only [jK] at hc0
  refine q4 (AD (v:=(pP b1 0)) (AA O underlying71 O sizeOf69 O) O (BF 2 (vK .u64 (CC a)) G_ O (zI (k:=25) (u:=(vK .u64 a)) O (by rw [Bh hc0.1]) (AD (v:=(pP b2 0)) (AA O underlying71 O sizeOf69 O) O (BF 1 (vK .u64 (CC b)) G_ O ?_)))))
  have hhi:a*b/18446744073709551616<18446744073709551616:=Nat.div_lt_of_lt_mul (Nat.mul_lt_mul'' hc0.1 hc0.2)
  refine zI (k:=27) (u:=(vK .u64 b)) O (by rw [Bh hc0.2]) (ck' call205 (VG a b Z Z) O (AL O (AD (AK (v:=(vK .u64 (a*b/18446744073709551616))) O O) O (AD (AK (v:=(vK .u64 (a*b%18446744073709551616))) O O) O (asg' O (asg' O (q3 (sL [2,3,4,5,6] O) (AL O (AD (Au (c:=(((a*b%18446744073709551616)%4294967296:Nat):Int)) O underlying69 underlying92 Ef) O (AL O (AD (C3 (s:=32) (c:=(((a*b%18446744073709551616)/4294967296:Nat):Int)) O O O jY (GY (a:=a*b%18446744073709551616) (s:=32))) O ?_)))))))))))
  refine AD (Au (c:=(((a*b%18446744073709551616)/4294967296:Nat):Int)) O underlying69 underlying92 (Cg Z)) O (AL O (AD (Au (c:=(((a*b/18446744073709551616)%4294967296:Nat):Int)) O underlying69 underlying92 Ef) O (AL O (AD (C3 (s:=32) (c:=(((a*b/18446744073709551616)/4294967296:Nat):Int)) O O O jY (GY (a:=a*b/18446744073709551616) (s:=32))) O (AD (Au (c:=(((a*b/18446744073709551616)/4294967296:Nat):Int)) O underlying69 underlying92 (Cg Z)) O (zZ (V:=λb4=>(qz (jk b4) 4 4)) (T:=92) (cs:=Ak ([(a*b%18446744073709551616)%4294967296,(a*b%18446744073709551616)/4294967296,(a*b/18446744073709551616)%4294967296,(a*b/18446744073709551616)/4294967296])) (AI O) (Az (cs:=Ak ([(a*b%18446744073709551616)%4294967296,(a*b%18446744073709551616)/4294967296,(a*b/18446744073709551616)%4294967296,(a*b/18446744073709551616)/4294967296])) (pv:=[(0,(vK .u32 ((a*b%18446744073709551616)%4294967296))),(1,(vK .u32 ((a*b%18446744073709551616)/4294967296))),(2,(vK .u32 ((a*b/18446744073709551616)%4294967296))),(3,(vK .u32 ((a*b/18446744073709551616)/4294967296)))]) underlying255 sizeOf92 zeroValue92 jY jY O jV) O (BA O) λb4=>DH call206 (λw hw=>Jf _ 4 4 ([(a*b%18446744073709551616)%4294967296,(a*b%18446744073709551616)/4294967296,(a*b/18446744073709551616)%4294967296,(a*b/18446744073709551616)/4294967296]) (W32.cons Z (W32.cons Z (W32.cons Z (W32.cons Z (W32.nil))))) (by first|omega|(rw [rowN_length];omega)|simp|(simp;omega)) (by first|omega|simp|(simp;omega)) (by first|omega|simp|(simp;omega)) w (hw.get (i:=0) O)) O (zI (k:=42) (u:=(aG (AU (a*b)))) O (by rw [show ∀x y z t:Nat,[x,y,z,t].take 4=[x,y,z,t] from λ_ _ _ _=>rfl,aL Z hhi,show a*b%18446744073709551616+a*b/18446744073709551616*18446744073709551616=a*b by omega]) (Cd O sizeOf71 O (oNl' (zB (sL [2,3,4] O) ?_))))))))))
  exact zA (zF (zK (ret_one O (Ao (i:=1) (cs:=AU (a*b)) O O isAgg71 sizeOf71 O) (λw hw=>⟨rfl,hw.out⟩))))
 ·simp only [jK] at hc0
  refine zC (q1 (DC [(0,true),(2,true),(1,false),(3,false),(4,true),(5,true)] sr (Ew 2 CE O (Ew 1 CE O (zN O (z8 (V:=λb4=>(qz (jk b4) (nw a) ((Aw a).length))) (T:=92) (cs:=Ak (Aw a)) (AI O) (Ar (args:=[(aG (AU a))]) O O call187) (λw hw=>DZ a Z w) O (BA O) λb4=>zD (sl sr) (zN O (z8 (V:=λb5=>(qz (jk b5) (nw b) ((Aw b).length))) (T:=92) (cs:=Ak (Aw b)) (AI O) (Ar (args:=[(aG (AU b))]) O O call187) (λw hw=>DZ b Z w) O (BA O) λb5=>zD (sl (sl sr)) (pS' O ?_)))))))))
  refine pS' O (zQ (zB (sL [2,3,4,7,8] O) (q2 (AL O (AD (v:=(vN (nw a))) (AE O underlying255) O (AL O (AD (v:=(vN (nw b))) (AE O underlying255) O (AD (AT (c:=(((nw a)+(nw b):Nat):Int)) O O (AV (a:=nw a) (b:=nw b) Z)) O (zZ (V:=λb6=>(qz (jk b6) ((nw a)+(nw b)) ((nw a)+(nw b)))) (T:=92) (cs:=Ak (List.replicate ((nw a)+(nw b)) 0)) (AI O) (DR (m:=(nw a)+(nw b)) (c:=(nw a)+(nw b)) O O Z Z) O (BA O) λb6=>asg' O (q6 (sL [2,3,4,7,8,9] O) ?_))))))))))
  refine q4 (AL O (AD (v:=(vN (nw a))) (AE O underlying255) O (AL O (oNl' (zA (zJ ?_))))))
  refine yG (tg λ(i:Nat) (os:List Nat)=>i<=nw a/\os.length=nw a+nw b/\W32 os/\val os=val ((AJ a).take i)*b) (tg λ(i:Nat) (os:List Nat)=>[(4,(pP b3 0)),(8,(qz (jk b5) (nw b) ((Aw b).length))),(9,(qz (jk b6) ((nw a)+(nw b)) ((nw a)+(nw b)))),(53,(qz (jk b4) (nw a) ((Aw a).length))),(54,(vN (nw a))),(55,(vN i))]) (tg λ(i:Nat) (os:List Nat)=>[AX b6 92 (Ak os),AX b5 92 (Ak (Aw b)),AX b4 92 (Ak (Aw a)),AX b3 71 (AU 0),AX b2 71 (AU b),AX b1 71 (AU a)]) (tg λ(i:Nat) (os:List Nat)=>nw a-i) 0 (List.replicate (nw a+nw b) 0) (⟨xJ _,by simp,W32.zeros _,by rw [EV];simp [val]⟩) (sF O) sr (λi os hJ=>?_)
  obtain ⟨hi,hl,hw32,hv⟩:=hJ
  refine q4 (AD (Aa (c:=(decide (i<(nw a)))) O O (DB (a:=i) (b:=nw a))) O (oNl' (q1 ?_)))
  refine zL O (λhc1=>?_) (λhc1=>?_)
  ·replace hc1:=xT hc1
   refine zC (q1 (zJ (q4 (AL O (AD (v:=(pP b4 i)) (AG (j:=i) O O underlying255 sizeOf92 O Z jX) O ?_)))))
   have hx1:(Aw a).getD i 0<4294967296:=W32.getD (CY a) i
   refine AD (AH (i:=2) (v:=(vK .u32 ((Aw a).getD i 0))) O O isAgg92 (BH (xs:=Aw a) (j:=i) Z)) O (zI (k:=59) (u:=(vK .u32 ((AJ a).getD i 0))) O (by rw [Dt hc1]) (asg' O (asg' O (q3 (sL [4,8,9,53,54,55,10,11] O) (asg' O (oNl' (q1 (q4 (AL O (AD (v:=(vN (nw b))) (AE O underlying255) O (AL O ?_)))))))))))
   refine oNl' (zA (zJ ?_))
   refine yR (tg λ(k:Nat) (xs:List Nat) (c:Nat)=>k<=nw b/\xs.length=nw a+nw b/\W32 xs/\c<4294967296/\(∀j,i+nw b<=j->xs.getD j 0=0)/\val xs+c*4294967296^(i+k)=val ((AJ a).take i)*b+(AJ a).getD i 0*val ((AJ b).take k)*4294967296^i) (tg λ(k:Nat) (xs:List Nat) (c:Nat)=>[(4,(pP b3 0)),(8,(qz (jk b5) (nw b) ((Aw b).length))),(9,(qz (jk b6) ((nw a)+(nw b)) ((nw a)+(nw b)))),(53,(qz (jk b4) (nw a) ((Aw a).length))),(54,(vN (nw a))),(55,(vN i)),(10,(vN i)),(11,(vK .u32 ((AJ a).getD i 0))),(60,(qz (jk b5) (nw b) ((Aw b).length))),(61,(vN (nw b))),(62,(vN k)),(12,(vK .u64 c))]) (tg λ(k:Nat) (xs:List Nat) (c:Nat)=>[AX b6 92 (Ak xs),AX b5 92 (Ak (Aw b)),AX b4 92 (Ak (Aw a)),AX b3 71 (AU 0),AX b2 71 (AU b),AX b1 71 (AU a)]) (tg λ(k:Nat) (xs:List Nat) (c:Nat)=>nw b-k) 0 os 0 (⟨xJ _,hl,hw32,Z,Qc hv,by rw [hv];simp [val]⟩) (sF O) sr (λk xs c hJ=>?_)
   obtain ⟨hk,hl2,hw2,hcc,h02,hv2⟩:=hJ
   refine q4 (AD (Aa (c:=(decide (k<(nw b)))) O O (DB (a:=k) (b:=nw b))) O (oNl' (q1 ?_)))
   refine zL O (λhc2=>?_) (λhc2=>?_)
   ·replace hc2:=xT hc2
    refine zC (q1 (zJ (q4 (AL O (AD (v:=(pP b5 k)) (AG (j:=k) O O underlying255 sizeOf92 O Z jX) O ?_)))))
    have hx2:(Aw b).getD k 0<4294967296:=W32.getD (CY b) k
    refine AD (AH (i:=1) (v:=(vK .u32 ((Aw b).getD k 0))) O O isAgg92 (BH (xs:=Aw b) (j:=k) Z)) O (zI (k:=66) (u:=(vK .u32 ((AJ b).getD k 0))) O (by rw [Dt hc2]) (asg' O (asg' O (q3 (sL [4,8,9,53,54,55,10,11,60,61,62,12,13,14] O) (AL O (AL O ?_))))))
    have hwa:=(Bt a).getD i
    have hwb:=(Bt b).getD k
    have hml:=LF hwa hwb
    refine AD (Au (c:=(((AJ a).getD i 0:Nat):Int)) O underlying92 underlying69 (BY Z)) O (AL O (AD (Au (c:=(((AJ b).getD k 0:Nat):Int)) O underlying92 underlying69 (BY Z)) O (AD (Bx (c:=((((AJ a).getD i 0)*((AJ b).getD k 0):Nat):Int)) O O (FL (a:=(AJ a).getD i 0) (b:=(AJ b).getD k 0) Z)) O (AL O (AL O (AL O (AD (AT (c:=((i+k:Nat):Int)) O O (AV (a:=i) (b:=k) Z)) O (AD (v:=(pP b6 (i+k))) (AG (j:=i+k) O O underlying255 sizeOf92 O Z jX) O ?_))))))))
    have hx3:xs.getD (i+k) 0<4294967296:=W32.getD hw2 (i+k)
    refine AD (AH (i:=0) (v:=(vK .u32 (xs.getD (i+k) 0))) O O isAgg92 (BH (xs:=xs) (j:=(i+k)) Z)) O (AD (Au (c:=((xs.getD (i+k) 0:Nat):Int)) O underlying92 underlying69 (BY Z)) O (AD (AT (c:=(((((AJ a).getD i 0)*((AJ b).getD k 0))+(xs.getD (i+k) 0):Nat):Int)) O O (Dn (a:=((AJ a).getD i 0)*((AJ b).getD k 0)) (b:=xs.getD (i+k) 0) Z)) O (AD (AT (c:=((c+((((AJ a).getD i 0)*((AJ b).getD k 0))+(xs.getD (i+k) 0)):Nat):Int)) O O (Dn (a:=c) (b:=(((AJ a).getD i 0)*((AJ b).getD k 0))+(xs.getD (i+k) 0)) Z)) O (asg' O (q3 (sL [4,8,9,53,54,55,10,11,60,61,62,12,13] O) (AL O (AL O (AL O (AD (AT (c:=((i+k:Nat):Int)) O O (AV (a:=i) (b:=k) Z)) O (AL O (AD (Au (c:=(((c+((((AJ a).getD i 0)*((AJ b).getD k 0))+(xs.getD (i+k) 0)))%4294967296:Nat):Int)) O underlying69 underlying92 Ef) O ?_)))))))))))
    refine AD (v:=(pP b6 (i+k))) (AG (j:=i+k) O O underlying255 sizeOf92 O Z jX) O (zp (i:=0) (off:=(i+k)) (vs:=[(vK .u32 ((c+((((AJ a).getD i 0)*((AJ b).getD k 0))+(xs.getD (i+k) 0)))%4294967296))]) (cs':=Ak (xs.set (i+k) ((c+((((AJ a).getD i 0)*((AJ b).getD k 0))+(xs.getD (i+k) 0)))%4294967296))) (L':=[AX b6 92 (Ak (xs.set (i+k) ((c+((((AJ a).getD i 0)*((AJ b).getD k 0))+(xs.getD (i+k) 0)))%4294967296))),AX b5 92 (Ak (Aw b)),AX b4 92 (Ak (Aw a)),AX b3 71 (AU 0),AX b2 71 (AU b),AX b1 71 (AU a)]) (AI O) O O O O O sizeOf92 O (Ct (BS _) Z) (CN Z) O (oNl' (zB (sL [4,8,9,53,54,55,10,11,60,61,62,12,13] O) (zA (zH (AL O (AD (C3 (s:=32) (c:=(((c+((((AJ a).getD i 0)*((AJ b).getD k 0))+(xs.getD (i+k) 0)))/4294967296:Nat):Int)) O O O jY (GY (a:=c+((((AJ a).getD i 0)*((AJ b).getD k 0))+(xs.getD (i+k) 0))) (s:=32))) O (asg' O (oNl' (zB (sL [4,8,9,53,54,55,10,11,60,61,62,12,13] O) (zG ?_)))))))))))
    exact zA (zH (AD (AT (c:=((k+1:Nat):Int)) O O (AV (a:=k) (b:=1) Z)) O (AL O (oNl' (zB (sL [4,8,9,53,54,55,10,11,60,61,62,12,13] O) (yK (k+1) (xs.set (i+k) ((c+((AJ a).getD i 0*(AJ b).getD k 0+xs.getD (i+k) 0))%4294967296)) ((c+((AJ a).getD i 0*(AJ b).getD k 0+xs.getD (i+k) 0))/4294967296) (⟨Z,by rw [List.length_set];exact hl2,W32.set hw2 Z _,Z,F6 h02 Z,VI hl2 Z hv2⟩) Z (sF O) sr))))))
   ·replace hc2:=xS hc2
    have hkn:k=nw b:=by omega
    have hbb:val ((AJ b).take k)=b:=DY Z
    rw [hbb] at hv2
    refine zU (zO (yA (zP (zA (zH (AL O (AL O (AL O (AD (v:=(vN (nw b))) (AE O underlying255) O (AD (AT (c:=((i+(nw b):Nat):Int)) O O (AV (a:=i) (b:=nw b) Z)) O (AL O ?_)))))))))))
    exact AD (Au (c:=((c:Nat):Int)) O underlying69 underlying92 (Cg Z)) O (AD (v:=(pP b6 (i+(nw b)))) (AG (j:=i+(nw b)) O O underlying255 sizeOf92 O Z jX) O (zp (i:=0) (off:=(i+(nw b))) (vs:=[(vK .u32 c)]) (cs':=Ak (xs.set (i+(nw b)) c)) (L':=[AX b6 92 (Ak (xs.set (i+(nw b)) c)),AX b5 92 (Ak (Aw b)),AX b4 92 (Ak (Aw a)),AX b3 71 (AU 0),AX b2 71 (AU b),AX b1 71 (AU a)]) (AI O) O O O O O sizeOf92 O (Ct (BS _) Z) (CN Z) O (oNl' (zB (sL [4,8,9,53,54,55,10,11,60,61,62,12] O) (zG (zA (zH (AD (AT (c:=((i+1:Nat):Int)) O O (AV (a:=i) (b:=1) Z)) O (AL O (oNl' (zB (sL [4,8,9,53,54,55,10,11,60,61,62,12] O) (zn (i+1) (xs.set (i+nw b) c) (⟨Z,by rw [List.length_set];exact hl2,W32.set hw2 hcc _,by rw [Ib hl2 Z (h02 _ (Nat.le_refl _)),<-X6,<-hv2,<-hkn]⟩) Z (sF O) sr))))))))))))
  ·replace hc1:=xS hc1
   refine zU (zO (zm (zP (q2 (AL O (DH call206 (λw hw=>Jf _ ((nw a)+(nw b)) ((nw a)+(nw b)) os hw32 (by first|omega|(rw [rowN_length];omega)|simp|(simp;omega)) (by first|omega|simp|(simp;omega)) (by first|omega|simp|(simp;omega)) w (hw.get (i:=0) O)) O (zI (k:=102) (u:=(aG (AU (a*b)))) O (by rw [List.take_of_length_le (show os.length<=nw a+nw b by omega),hv,DY Z]) (Ge O sizeOf71 O (oNl' (zB (sL [4,8,9,53,54,55] O) (zA ?_)))))))))))
   exact zF (ret_one O (Ao (i:=3) (cs:=AU (a*b)) O O isAgg71 sizeOf71 O) (λw hw=>⟨rfl,hw.out⟩))
end
section
def Cq:Nat->Nat->List Nat
  | 0,_=>[]
  | N+1,v=>v%4294967296::Cq N (v/4294967296)
theorem Bi:∀(N v:Nat),(Cq N v).length=N
  | 0,_=>rfl
  | N+1,v=>by simp [Cq,Bi N]
theorem EG:∀(N v:Nat),W32 (Cq N v)
  | 0,_=>W32.nil
  | N+1,v=>W32.cons Z (EG N _)
theorem FP:∀(N v:Nat),v<4294967296^N->val (Cq N v)=v
  | 0,v,h=>by simp at h;simp [Cq,val,h]
  | N+1,v,h=>by
    rw [Nat.pow_succ] at h
    rw [Cq,val,FP N _ (by rw [Nat.div_lt_iff_lt_mul Z];exact h)]
    omega
theorem O0:∀{xs:List Nat},W32 xs->Cq xs.length (val xs)=xs
  | [],_=>rfl
  | x::xs,h=>by
    have hx:=h x jX
    rw [List.length_cons,val,Cq,show (x+4294967296*val xs)%4294967296=x by omega,show (x+4294967296*val xs)/4294967296=val xs by omega,O0 (λy hy=>h y (by simp [hy]))]
theorem H9 {xs:List Nat} {N v:Nat} (h:W32 xs) (hl:xs.length=N) (hv:val xs=v):xs=Cq N v:=by subst hl;subst hv;exact (O0 h).symm
theorem S8 {v k:Nat}:v/4294967296^(k+1)*4294967296+v/4294967296^k%4294967296=v/4294967296^k:=by
  rw [Nat.pow_succ,<-Nat.div_div_eq_div_mul];omega
theorem ID:∀(v k:Nat),(AJ v).getD k 0=v/4294967296^k%4294967296:=by
  intro v
  induction v using Nat.strongRecOn with
  | _ v ih =>
    intro k
    by_cases h:v=0
    · subst h;simp [Qb]
    · rw [GD h]
      cases k with
      | zero=>simp
      | succ k=>rw [List.getD_cons_succ,ih _ Z,Nat.pow_succ,Nat.div_div_eq_div_mul,Nat.mul_comm]
theorem HD:∀(xs:List Nat) (k:Nat),W32 xs->xs.getD k 0=val xs/4294967296^k%4294967296
  | [],k,_=>by simp [val]
  | x::xs,0,h=>by have:=h x jX;simp [val];omega
  | x::xs,k+1,h=>by
    have hx:=h x jX
    rw [List.getD_cons_succ,HD xs k (λy hy=>h y (by simp [hy])),val,Nat.pow_succ,Nat.mul_comm (4294967296^k),<-Nat.div_div_eq_div_mul,show (x+4294967296*val xs)/4294967296=val xs by omega]
theorem QT {qs:List Nat} {a y k r n:Nat} (hl:qs.length=n) (hk:k<n) (hq:∀j,j<=k->qs.getD j 0=0) (hr:r<y) (hv:val qs*y+r*4294967296^(k+1)=a/4294967296^(k+1)*4294967296^(k+1)) :
    val (qs.set k ((r*4294967296+a/4294967296^k%4294967296)/y))*y+(r*4294967296+a/4294967296^k%4294967296)%y*4294967296^k=a/4294967296^k*4294967296^k:=by
  have e:=Ib (c:=(r*4294967296+a/4294967296^k%4294967296)/y) hl hk (hq k (Nat.le_refl _))
  have d:=S8 (v:=a) (k:=k)
  have m:=Nat.div_add_mod (r*4294967296+a/4294967296^k%4294967296) y
  rw [e]
  rw [Nat.pow_succ] at hv
  rw [Nat.pow_succ] at d
  generalize (r*4294967296+a/4294967296^k%4294967296)/y=q at *
  generalize hrr:(r*4294967296+a/4294967296^k%4294967296)%y=r' at *
  generalize a/4294967296^k%4294967296=w at *
  generalize a/(4294967296^k*4294967296)=h at *
  generalize a/4294967296^k=g at *
  generalize 4294967296^k=p at *
  subst d
  have m2:(y*q+r')*p=(r*4294967296+w)*p:=by rw [m]
  grind
theorem QS {a y v r:Nat} (hr:r<y) (hv:v*y+r*4294967296^0=a/4294967296^0*4294967296^0):v=a/y/\r=a%y:=by
  simp at hv
  have e:a=r+y*v:=by rw [<-hv,Nat.mul_comm];omega
  subst e
  constructor
  · rw [Nat.add_mul_div_left _ _ Z,Nat.div_eq_of_lt hr];omega
  · rw [Nat.add_mul_mod_self_left,Nat.mod_eq_of_lt hr]
theorem Z6 {w c s:Nat} (hw:w<4294967296) (hc:c<2^s) (hs:s<32):w*2^s%4294967296 ||| c=w*2^s%4294967296+c:=by
  have e:w*2^s%4294967296=w%2^(32-s)*2^s:=by
    have:(4294967296:Nat)=2^(32-s)*2^s:=by rw [<-Nat.pow_add,show 32-s+s=32 by omega]
    rw [this,Nat.mul_mod_mul_right]
  rw [e,Nat.or_comm,H6 hc];omega
theorem Z5 {w s:Nat} (hw:w<4294967296) (hs:s<32):w*2^s<18446744073709551616/\w*2^s/4294967296<2^s:=by
  have h1:w*2^s<4294967296*2^s:=Nat.mul_lt_mul_of_pos_right hw (Nat.pow_pos Z)
  have h2:(2:Nat)^s<=2^31:=Nat.pow_le_pow_right Z Z
  constructor
  · omega
  · rw [Nat.div_lt_iff_lt_mul Z];omega
theorem QR {w c s:Nat} (hc:c<2^s) (hs:s<32):w*2^s%4294967296+c<4294967296:=by
  have e:w*2^s%4294967296=w%2^(32-s)*2^s:=by
    have:(4294967296:Nat)=2^(32-s)*2^s:=by rw [<-Nat.pow_add,show 32-s+s=32 by omega]
    rw [this,Nat.mul_mod_mul_right]
  have h1:w%2^(32-s)+1<=2^(32-s):=Nat.mod_lt _ (Nat.pow_pos Z)
  have h2:(w%2^(32-s)+1)*2^s<=2^(32-s)*2^s:=Nat.mul_le_mul_right _ h1
  rw [<-Nat.pow_add,show 32-s+s=32 by omega,Nat.add_mul] at h2
  rw [e];omega
theorem QQ {os xs:List Nat} {i n c s:Nat} (hl:os.length=n) (hi:i<n) (h0:∀j,i<=j->os.getD j 0=0) (hv:val os+c*4294967296^i=val (xs.take i)*2^s) :
    val (os.set i (xs.getD i 0*2^s%4294967296+c))+xs.getD i 0*2^s/4294967296*4294967296^(i+1)=val (xs.take (i+1))*2^s:=by
  rw [Ib hl hi (h0 i (Nat.le_refl _)),Bb,Nat.pow_succ]
  have m:=Nat.div_add_mod (xs.getD i 0*2^s) 4294967296
  generalize xs.getD i 0*2^s%4294967296=r at *
  generalize xs.getD i 0*2^s/4294967296=q at *
  generalize xs.getD i 0=w at *
  generalize 2^s=z at *
  generalize 4294967296^i=p at *
  have m2:(4294967296*q+r)*p=w*z*p:=by rw [m]
  grind
theorem SA {os us:List Nat} {i n:Nat} (hl:us.length=n) (hlo:os.length=n) (hi:i<n) (hu:W32 us) (hd:os.drop i=us.drop i) (hv:2*val (os.take i)+us.getD 0 0%2=val (us.take i)+us.getD i 0%2*4294967296^i) {x:Nat} (hx:x=us.getD i 0/2+us.getD (i+1) 0%2*2147483648) :
    (os.set i x).drop (i+1)=us.drop (i+1)/\2*val ((os.set i x).take (i+1))+us.getD 0 0%2=val (us.take (i+1))+us.getD (i+1) 0%2*4294967296^(i+1):=by
  constructor
  · rw [List.drop_set_of_lt Z]
    have h1:=congrArg (List.drop 1) hd
    rwa [List.drop_drop,List.drop_drop] at h1
  · rw [Bb,Bb,List.take_set_of_le (Nat.le_refl _),Nat.pow_succ]
    have e:(os.set i x).getD i 0=x:=by simp [List.getD_eq_getElem?_getD,hlo,hi]
    rw [e,hx]
    have m:us.getD i 0=2*(us.getD i 0/2)+us.getD i 0%2:=by omega
    generalize us.getD i 0/2=h at *
    generalize us.getD i 0%2=b at *
    generalize us.getD (i+1) 0%2=b' at *
    rw [m]
    generalize 4294967296^i=p at *
    grind
theorem R_ {os us:List Nat} {n:Nat} (hl:us.length=n) (hlo:os.length=n) (hv:2*val (os.take n)+us.getD 0 0%2=val (us.take n)+us.getD n 0%2*4294967296^n) (hu:W32 us):val os=val us/2:=by
  rw [List.take_of_length_le Z,List.take_of_length_le Z] at hv
  have e:us.getD n 0=0:=by simp [List.getD_eq_getElem?_getD,hl]
  rw [e] at hv
  simp at hv
  have:=Nat.mod_lt (us.getD 0 0) (show 2>0 by omega)
  simp only [List.getD_eq_getElem?_getD] at this
  omega
theorem SI {os us vs:List Nat} {k i n N c l D:Nat} (hl:os.length=N) (hi:k+i<N) (hw:W32 os) (hll:l<=1)
    (hv:val os+D*val (vs.take i)*4294967296^k=val us+(c+l)*4294967296^(k+i)) {s c':Nat} (hs:s=(c+D*vs.getD i 0)%4294967296) (hc':c'=(c+D*vs.getD i 0)/4294967296) :
    val (os.set (k+i) ((os.getD (k+i) 0+(4294967296-s)+(4294967296-l))%4294967296))+D*val (vs.take (i+1))*4294967296^k=val us+(c'+JV (os.getD (k+i) 0) (s+l))*4294967296^(k+(i+1)):=by
  have e:=Fh (xs:=os) (i:=k+i) Z ((os.getD (k+i) 0+(4294967296-s)+(4294967296-l))%4294967296)
  have t:=Bb vs i
  have ho:=hw.getD (k+i)
  have hs2:s<4294967296:=by omega
  have m:c+D*vs.getD i 0=4294967296*c'+s:=by omega
  have b:(os.getD (k+i) 0+(4294967296-s)+(4294967296-l))%4294967296+s+l=os.getD (k+i) 0+JV (os.getD (k+i) 0) (s+l)*4294967296:=by unfold JV;split<;>omega
  rw [t,show k+(i+1)=k+i+1 by omega,Nat.pow_succ]
  rw [Nat.pow_add] at *
  generalize (os.getD (k+i) 0+(4294967296-s)+(4294967296-l))%4294967296=r at *
  generalize JV (os.getD (k+i) 0) (s+l)=q at *
  generalize os.getD (k+i) 0=o at *
  generalize vs.getD i 0=v at *
  generalize 4294967296^i=p at *
  generalize 4294967296^k=p' at *
  generalize val (vs.take i)=vv at *
  clear hs hc'
  have b2:(r+s+l)*(p'*p)=(o+q*4294967296)*(p'*p):=by rw [b]
  have m2:(c+D*v)*(p'*p)=(4294967296*c'+s)*(p'*p):=by rw [m]
  grind
theorem SG {os us vs:List Nat} {k n N c l D:Nat} (hl:os.length=N) (hw:W32 os) (hk:k+n+1<=N) (hu:val us<4294967296^(k+n+1)) (hv:val os+D*val (vs.take n)*4294967296^k=val us+l*4294967296^(k+n+1)) (hl1:l<=1) (hz:∀j,k+n+1<=j->os.getD j 0=0) :
    decide (0<l)=decide (val us<D*val (vs.take n)*4294967296^k)/\os=Cq N (val us+(if val us<D*val (vs.take n)*4294967296^k then 4294967296^(k+n+1) else 0)-D*val (vs.take n)*4294967296^k):=by
  have ho:val os<4294967296^(k+n+1):=by
    have h1:=E9 os (k+n+1) Z
    have h2:val (os.drop (k+n+1))=0:=by
      have:os.drop (k+n+1)=List.replicate (N-(k+n+1)) 0:=by
        apply List.ext_getElem (by simp [hl])
        intro j h1 h2
        have:=hz (k+n+1+j) Z
        simp [List.getD_eq_getElem?_getD] at this h1
        simp
        have h3:k+n+1+j<os.length:=by omega
        simpa [h3] using this
      rw [this,EV]
    rw [h2] at h1
    have h3:=HE (hw.take (k+n+1))
    rw [List.length_take,Nat.min_eq_left Z] at h3
    omega
  generalize D*val (vs.take n)*4294967296^k=X at *
  generalize 4294967296^(k+n+1)=p at *
  have hl2:l=0\/l=1:=by omega
  rcases hl2 with rfl|rfl
  · have h1:¬val us<X:=by omega
    refine ⟨by simp [h1],H9 hw hl ?_⟩
    rw [if_neg h1];omega
  · have h1:val us<X:=by omega
    refine ⟨by simp [h1],H9 hw hl ?_⟩
    rw [if_pos h1];omega
theorem Jl {os:List Nat} {p:Nat} (h:val os<4294967296^p):∀j,p<=j->os.getD j 0=0:=λj hj=>Gc h hj
theorem SH {os:List Nat} {p N c l X U:Nat} (hl:os.length=N) (hp:p<N) (hw:W32 os) (hll:l<=1) (hc:c<4294967296) (hv:val os+X=U+(c+l)*4294967296^p) :
    val (os.set p ((os.getD p 0+(4294967296-c)+(4294967296-l))%4294967296))+X=U+JV (os.getD p 0) (c+l)*4294967296^(p+1):=by
  have e:=Fh (xs:=os) (i:=p) Z ((os.getD p 0+(4294967296-c)+(4294967296-l))%4294967296)
  have ho:=hw.getD p
  have b:(os.getD p 0+(4294967296-c)+(4294967296-l))%4294967296+c+l=os.getD p 0+JV (os.getD p 0) (c+l)*4294967296:=by unfold JV;split<;>omega
  rw [Nat.pow_succ]
  generalize (os.getD p 0+(4294967296-c)+(4294967296-l))%4294967296=r at *
  generalize JV (os.getD p 0) (c+l)=q at *
  generalize os.getD p 0=o at *
  generalize 4294967296^p=z at *
  have b2:(r+c+l)*z=(o+q*4294967296)*z:=by rw [b]
  grind
theorem MV {os us:List Nat} {i j:Nat} (h:os.drop i=us.drop i) (hj:i<=j):os.getD j 0=us.getD j 0:=by
  have h1:=congrArg (λl:List Nat=>l.getD (j-i) 0) h
  simp only [List.getD_eq_getElem?_getD,List.getElem?_drop] at h1 ⊢
  rwa [show i+(j-i)=j by omega] at h1
theorem Xg {h y:Nat} (hh:h<2147483648):h ||| y*2^31%4294967296=h+y%2*2147483648:=by
  have e:y*2^31%4294967296=y%2*2^31:=by rw [show (4294967296:Nat)=2*2^31 from rfl,Nat.mul_mod_mul_right]
  rw [e,H6 (s:=31) Z]
theorem MI {os:List Nat} {i v:Nat} (h:i<os.length):(os.set i v).getD i 0=v:=by simp [List.getD_eq_getElem?_getD,h]
theorem Jh {os:List Nat} {i j v:Nat} (h:i≠j):(os.set i v).getD j 0=os.getD j 0:=by
  rw [List.getD_eq_getElem?_getD,List.getElem?_set_ne h,<-List.getD_eq_getElem?_getD]
structure IH (V W v1 top d r:Nat):Prop where
  low:W/V<=d
  eq:d*v1+r=top
theorem Pr {V W v1 v2 u2 top m p:Nat} (hp:0<p) (hV:V=(v1*4294967296+v2)*p+m) (hv2:v2<4294967296) (hm:m<p) (hW:W<(top+1)*(4294967296*p)) (h1:0<v1):IH V W v1 top (top/v1) (top%v1):=by
  refine ⟨?_,by rw [Nat.mul_comm];exact Nat.div_add_mod top v1⟩
  have hVp:0<V:=by
    have:0<v1*4294967296+v2:=by omega
    have:=Nat.mul_pos this hp
    omega
  rw [<-Nat.lt_succ_iff,Nat.div_lt_iff_lt_mul hVp]
  have h2:top<v1*(top/v1+1):=Nat.lt_mul_div_succ top h1
  have h3:(top+1)*(4294967296*p)<=v1*(top/v1+1)*(4294967296*p):=Nat.mul_le_mul_right _ h2
  have h4:v1*(4294967296*p)<=V:=by
    rw [hV];have:v1*(4294967296*p)=v1*4294967296*p:=by rw [Nat.mul_assoc]
    rw [this,Nat.add_mul];omega
  have h5:(top/v1+1)*(v1*(4294967296*p))<=(top/v1+1)*V:=Nat.mul_le_mul_left _ h4
  have h6:v1*(top/v1+1)*(4294967296*p)=(top/v1+1)*(v1*(4294967296*p)):=by rw [Nat.mul_comm v1,Nat.mul_assoc]
  show W<(top/v1+1)*V
  omega
theorem Ps {V W v1 v2 u2 top d r m p:Nat} (h:IH V W v1 top d r) (hp:0<p) (hV:V=(v1*4294967296+v2)*p+m) (h1:0<v1) (hW:W<(top*4294967296+u2+1)*p) (hq:W/V<4294967296)
    (ht:¬(d<=4294967295/\d*v2<=r*4294967296+u2)):IH V W v1 top (d-1) (r+v1)/\0<d:=by
  have hVp:0<V:=by
    have:0<v1*4294967296+v2:=by omega
    have:=Nat.mul_pos this hp
    omega
  have hdiv:∀x,W/V<x↔W<x*V:=λx=>Nat.div_lt_iff_lt_mul hVp
  obtain ⟨hlow,heq⟩:=h
  suffices hlt:W/V<d by
    have h0:0<d:=Nat.lt_of_le_of_lt (xJ _) hlt
    have e:d*v1=(d-1)*v1+v1:=by
      obtain ⟨e,rfl⟩:∃e,d=e+1:=⟨d-1,(Nat.succ_pred_eq_of_pos h0).symm⟩
      rw [Nat.add_mul];simp
    refine ⟨⟨Nat.le_sub_one_of_lt hlt,?_⟩,h0⟩
    clear hdiv hlow hq ht hW hV hlt
    omega
  have hlt:W/V<d:=by
    by_cases hd:d<=4294967295
    · have h2:r*4294967296+u2+1<=d*v2:=by
        rcases Nat.lt_or_ge (r*4294967296+u2) (d*v2) with h3|h3
        · exact h3
        · exact absurd ⟨hd,h3⟩ ht
      refine (hdiv d).2 ?_
      have ex:d*(v1*4294967296+v2)=d*v1*4294967296+d*v2:=by rw [Nat.mul_add,Nat.mul_assoc]
      have h3:(top*4294967296+u2+1)*p<=(d*(v1*4294967296+v2))*p:=by
        refine Nat.mul_le_mul_right _ ?_
        rw [ex,<-heq,Nat.add_mul,Nat.add_assoc,Nat.add_assoc]
        exact Nat.add_le_add_left (by rw [<-Nat.add_assoc];exact h2) _
      have h4:d*V=d*(v1*4294967296+v2)*p+d*m:=by rw [hV,Nat.mul_add,Nat.mul_assoc]
      omega
    · exact Nat.lt_of_lt_of_le hq Z
  exact hlt
theorem Pq {V W v1 v2 u2 top d r m p:Nat} (h:IH V W v1 top d r) (hp:0<p) (hV:V=(v1*4294967296+v2)*p+m) (hm:m<p) (h1:0<v1) (hv2:v2<4294967296) (hW2:(top*4294967296+u2)*p<=W) (hWV:W<V*4294967296) (hv1:v1<4294967296)
    (hend:4294967295<r\/(d<=4294967295/\d*v2<=r*4294967296+u2)):d<=4294967295/\(d=W/V\/d=W/V+1):=by
  have hVp:0<V:=by
    have:0<v1*4294967296+v2:=by omega
    have:=Nat.mul_pos this hp
    omega
  have hd:d<=4294967295:=by
    rcases hend with hr|hr
    · -- top<(v1+1)*2^32
      have hV2:V<(v1+1)*4294967296*p:=by
        have:(v1*4294967296+v2)*p+p<=(v1+1)*4294967296*p:=by
          have:(v1*4294967296+v2+1)*p<=((v1+1)*4294967296)*p:=Nat.mul_le_mul_right _ Z
          rw [Nat.add_mul,Nat.one_mul] at this;exact this
        omega
      have h3:(top*4294967296)*p<(v1+1)*4294967296*p*4294967296:=by
        have:(top*4294967296)*p<=(top*4294967296+u2)*p:=Nat.mul_le_mul_right _ Z
        have:V*4294967296<=(v1+1)*4294967296*p*4294967296:=Nat.mul_le_mul_right _ (Nat.le_of_lt hV2)
        omega
      have h4:top*4294967296<(v1+1)*4294967296*4294967296:=by
        rw [Nat.mul_right_comm _ p] at h3
        exact Nat.lt_of_mul_lt_mul_right h3
      have h5:d*v1<4294967296*v1:=by have:=h.eq;omega
      have:=Nat.lt_of_mul_lt_mul_right h5
      omega
    · exact hr.1
  refine ⟨hd,?_⟩
  have ht:d*v2<=r*4294967296+u2:=by
    rcases hend with hr|hr
    · have:d*v2<=4294967295*4294967295:=Nat.mul_le_mul hd Z
      omega
    · exact hr.2
  have hle:d*V<=W+V:=by
    have a1:d*(v1*4294967296+v2)<=top*4294967296+u2:=by
      rw [Nat.mul_add,<-Nat.mul_assoc];have:=h.eq;omega
    have a2:d*(v1*4294967296+v2)*p<=(top*4294967296+u2)*p:=Nat.mul_le_mul_right _ a1
    have a3:d*m<=4294967296*p:=Nat.mul_le_mul Z (Nat.le_of_lt hm)
    have a4:4294967296*p<=V:=by
      rw [hV]
      have:4294967296*p<=(v1*4294967296+v2)*p:=Nat.mul_le_mul_right _ Z
      omega
    have e:d*V=d*(v1*4294967296+v2)*p+d*m:=by rw [hV,Nat.mul_add,Nat.mul_assoc]
    omega
  have h6:d<=W/V+1:=by
    rcases Nat.eq_zero_or_pos d with h0|h0
    · rw [h0];exact xJ _
    · have:(d-1)*V<=W:=by
        obtain ⟨e,rfl⟩:∃e,d=e+1:=⟨d-1,(Nat.succ_pred_eq_of_pos h0).symm⟩
        rw [Nat.add_mul] at hle;simp;omega
      have:=(Nat.le_div_iff_mul_le hVp).2 this
      generalize W/V=q at *
      omega
  have:=h.low
  generalize W/V=q at *
  omega
section
variable {P:Program} {Q:Exit->Act->World->Prop} {n:Nat} {F:List (Nat×Value)} {w0:BC} {L:List As}
theorem OkC.scope {c:Code} (h:OkC P c (Exit.noGoto Q) n F w0 L):OkC P (.scope c) Q n F w0 L:=λa w ha hw=>wp_scope_straight (h a w ha hw)
theorem OkC.label {l:Nat} (h:OkQ Q .normal n F w0 L):OkC P (.label l) Q n F w0 L:=λa w ha hw=>wp_label (h a w ha hw)
theorem OkQ.scope_normal (h:OkQ Q .normal n F w0 L):OkQ (Exit.noGoto Q) .normal n F w0 L:=h
theorem AR.callBB {ops:Array Oper} {rest:List Oper} {o:Oper} {d:Nat} {f:FuncId} {args:Array Value} {V:Nat->Nat->Value} {T T2:TypeId} {cs cs2:List Value} (hw:Wt ops n F o)
    (he:∀a w,Ce n a F->BD w0 w L->(execOp a.eval o).run P w=.ok (.enter f args) w)
    (hc:∀w,BD w0 w L->Calls P f args w λe w'=>∃b b2,e=.returned (V b b2)/\Fr w.heap.size w w'/\w.heap.size<=b/\w.heap.size<=b2/\b≠b2/\w'.heap[b]?=some (.cells cs.toArray T (0,0))/\w'.heap[b2]?=some (.cells cs2.toArray T2 (0,0)))
    (ho:o.dst=some d) (hd:d<n) (next:∀b b2,AR P ops rest Q n ((d,V b b2)::F) w0 (AX b T cs::AX b2 T2 cs2::L)):AR P ops (o::rest) Q n F w0 L:=λa w ha hW=>by
  unfold wpList
  rw [if_pos (hw a ha)]
  left
  unfold Oper.wp
  rw [he a w ha hW,Oper.upon_enter]
  refine (hc w hW).mono ?_
  rintro e w' ⟨b,b2,rfl,hb,h1,h2,hne,hcell,hcell2⟩
  rw [ho]
  have hW2:BD w0 w' (AX b2 T2 cs2::L):=hW.add rfl hb h2 ⟨_,hcell2,rfl⟩
  refine next b b2 _ _ (ha.put hd) ⟨hW2.1,λx hx c hc=>?_,?_⟩
  · rcases xN.1 hx with rfl|hx
    · injection hc with hc;subst hc
      exact ⟨.inr (.inl (xM hW.1.size h1)),_,hcell,rfl⟩
    · exact hW2.2.1 x hx c hc
  · refine List.pairwise_cons.2 ⟨λy hy=>.inr λc hc=>?_,hW2.2.2⟩
    injection hc with hc;subst hc
    rcases xN.1 hy with rfl|hy
    · intro e;injection e with e;exact hne e.symm
    · intro e
      have:=hW.lt hy e
      omega
end
end
section
set_option maxRecDepth 100000
theorem Sq (a y p c:Nat) (bs:List Nat) (hbs:W32 bs) (hla:nw a<=bs.length) (hbd:∀i,i<nw a->bs.getD i 0=(AJ a).getD i 0) (ha:nw a<=1099511627776) (hy:0<y) (hy2:y<4294967296) (w:World) (hp:w.heap[p]?=some (.cells (Ak bs).toArray 92 (0,0))):Calls prog 188 #[(qz (jk p) (nw a) c),(vK .u32 y)] w (λe w'=>∃b,e=.returned (.tuple #[.slice (jk b) (nw a) (nw a),.int .u32 ((a%y:Nat):Int)])/\Fr w.heap.size w w'/\w.heap.size<=b/\w'.heap[b]?=some (.cells (Ak (Cq (nw a) (a/y))).toArray 92 (0,0))):=by
 refine AY (args:=[(qz (jk p) (nw a) c),(vK .u32 y)]) func188 O O (BA O) (zM (sL [0,1] O) (q4 (asg' O (asg' O (oNl' (q2 (AL O (AD (v:=(vN (nw a))) (AE O underlying255) O (zZ (V:=λb1=>(qz (jk b1) (nw a) (nw a))) (T:=92) (cs:=Ak (List.replicate (nw a) 0)) (AI O) (DR (m:=nw a) (c:=nw a) O O Z Z) O (BA O) λb1=>asg' O (q6 (sL [0,1,4,5] O) ?_))))))))))
 refine q4 (AL O (AD (v:=(vN (nw a))) (AE O underlying255) O (AD (B3 (c:=(((nw a:Nat):Int)-1)) O O (BJ Z Z)) O (asg' O (oNl' (zB (sL [0,1,4,5,6] O) (zA (zJ ?_))))))))
 refine yR (tg λ(k:Nat) (qs:List Nat) (r:Nat)=>k<=nw a/\qs.length=nw a/\W32 qs/\r<y/\(∀j,j<k->qs.getD j 0=0)/\val qs*y+r*4294967296^k=a/4294967296^k*4294967296^k) (tg λ(k:Nat) (qs:List Nat) (r:Nat)=>[(0,(qz (jk p) (nw a) c)),(1,(vK .u32 y)),(4,(qz (jk b1) (nw a) (nw a))),(6,(vI (((k:Nat):Int)-1))),(5,(vK .u32 r))]) (tg λ(k:Nat) (qs:List Nat) (r:Nat)=>[AX b1 92 (Ak qs)]) (tg λ(k:Nat) (qs:List Nat) (r:Nat)=>k) (nw a) (List.replicate (nw a) 0) 0 (⟨Nat.le_refl _,by simp,W32.zeros _,hy,λj _=>by simp [List.getD_eq_getElem?_getD,List.getElem?_replicate];split<;>rfl,by rw [EV,Nat.div_eq_of_lt (CD a)];simp⟩) (sF O) sr (λk qs r hJ=>?_)
 obtain ⟨hk,hl,hw32,hr,hz,hv⟩:=hJ
 refine zX (q4 (AL O (AD (ER (c:=(decide ((0:Int)<=(((k:Nat):Int)-1)))) O O O) O (oNl' (zB (sL [0,1,4,6,5,14] O) (zA ?_))))))
 refine zL O (λhc0=>?_) (λhc0=>?_)
 ·replace hc0:=xT hc0
  have hk0:0<k:=by omega
  refine yP (k:=6) (u:=(vN (k-1))) O (by congr 1;omega) (zC (q1 (zJ (zH (AL O (AL O (AL O (AL O (AL O (AD (v:=(pP p (k-1))) (AG (j:=k-1) O O underlying255 sizeOf92 O Z jX) O ?_))))))))))
  have hx1:bs.getD (k-1) 0<4294967296:=W32.getD hbs (k-1)
  refine AD (BZ (v:=(vK .u32 (bs.getD (k-1) 0))) O (λw' hw=>CA.at0 (hw.oldCA jX (El hp)) (BH (xs:=bs) (j:=(k-1)) Z)) isAgg92) O ?_
  have hdg:a/4294967296^(k-1)%4294967296<4294967296:=Nat.mod_lt _ Z
  have hq9:(r*4294967296+a/4294967296^(k-1)%4294967296)/y<4294967296:=Nat.div_lt_of_lt_mul (by have h9:(r+1)*4294967296<=y*4294967296:=Nat.mul_le_mul_right _ hr;omega)
  have hr9:(r*4294967296+a/4294967296^(k-1)%4294967296)%y<y:=Nat.mod_lt _ hy
  refine zI (k:=24) (u:=(vK .u32 (a/4294967296^(k-1)%4294967296))) O (by rw [hbd _ Z,ID]) (AL O (ck' call231 (UK r (a/4294967296^(k-1)%4294967296) y Z Z Z) O (AL O (AD (AK (v:=(vK .u32 ((r*4294967296+(a/4294967296^(k-1)%4294967296))/y))) O O) O (AD (AK (v:=(vK .u32 ((r*4294967296+(a/4294967296^(k-1)%4294967296))%y))) O O) O (AD (v:=(pP b1 (k-1))) (AG (j:=k-1) O O underlying255 sizeOf92 O Z jX) O (zp (i:=0) (off:=(k-1)) (vs:=[(vK .u32 ((r*4294967296+(a/4294967296^(k-1)%4294967296))/y))]) (cs':=Ak (qs.set (k-1) ((r*4294967296+(a/4294967296^(k-1)%4294967296))/y))) (L':=[AX b1 92 (Ak (qs.set (k-1) ((r*4294967296+(a/4294967296^(k-1)%4294967296))/y)))]) (AI O) O O O O O sizeOf92 O (Ct (BS _) Z) (CN Z) O (asg' O (oNl' (zB (sL [0,1,4,6,5] O) (zG ?_)))))))))))
  refine zA (zH (AL O (AD (B3 (c:=(((k-1:Nat):Int)-1)) O O (BJ Z Z)) O (asg' O (oNl' (zB (sL [0,1,4,6,5] O) ?_))))))
  have hst:=QT (y:=y) (k:=k-1) hl Z (λj hj=>hz j Z) hr (a:=a) (by rw [show k-1+1=k by omega];exact hv)
  exact yK (k-1) (qs.set (k-1) ((r*4294967296+a/4294967296^(k-1)%4294967296)/y)) ((r*4294967296+a/4294967296^(k-1)%4294967296)%y) (⟨Z,by rw [List.length_set];exact hl,W32.set hw32 hq9 _,hr9,λj hj=>by rw [List.getD_eq_getElem?_getD,List.getElem?_set_ne Z,<-List.getD_eq_getElem?_getD];exact hz j Z,hst⟩) Z (sF O) sr
 ·replace hc0:=xS hc0
  have hk0:k=0:=by omega
  have hv0:=hv
  rw [hk0] at hv0
  have hd:=QS hr hv0
  refine zU (zO (yA (zP (q2 (AL O (AL O (asg' O (asg' O (oNl' (zB (sL [0,1,4,6,5] O) (zA ?_)))))))))))
  refine zF ?_
  have hcells:(some (Obj.cells (Ak qs).toArray 92 (0,0)))=some (Obj.cells (Ak (Cq (nw a) (a/y))).toArray 92 (0,0)):=by rw [H9 hw32 hl hd.1]
  exact Bu O (rd_tmp (v:=(qz (jk b1) (nw a) (nw a))) O) (rd_tmp (v:=(vK .u32 r)) O) (λw hw=>⟨b1,by rw [hd.2],hw.out,hw.fresh (i:=0) O,(hw.get (i:=0) O).trans hcells⟩)
theorem V1 (a y p c:Nat) (ha:nw a<=1099511627776) (hy:0<y) (hy2:y<4294967296) (w:World) (hp:w.heap[p]?=some (.cells (Ak (Aw a)).toArray 92 (0,0))):Calls prog 188 #[(qz (jk p) (nw a) c),(vK .u32 y)] w (λe w'=>∃b,e=.returned (.tuple #[.slice (jk b) (nw a) (nw a),.int .u32 ((a%y:Nat):Int)])/\Fr w.heap.size w w'/\w.heap.size<=b/\w'.heap[b]?=some (.cells (Ak (Cq (nw a) (a/y))).toArray 92 (0,0))):=Sq a y p c (Aw a) (CY a) (CQ a) (λi hi=>Dt hi) ha hy hy2 w hp
theorem Lc (p m c s:Nat) (bs:List Nat) (hbs:W32 bs) (hm:m<=bs.length) (hml:m<=1099511627776) (hs:s<32) (w:World) (hp:w.heap[p]?=some (.cells (Ak bs).toArray 92 (0,0))):Calls prog 273 #[(qz (jk p) m c),(vN s)] w (λe w'=>∃b,e=.returned (.slice (jk b) (m+1) (m+1))/\Fr w.heap.size w w'/\w.heap.size<=b/\w'.heap[b]?=some (.cells (Ak (Cq (m+1) (val (bs.take m)*2^s))).toArray 92 (0,0))):=by
 refine AY (args:=[(qz (jk p) m c),(vN s)]) func273 O O (BA O) (zM (sL [0,1] O) (q4 (asg' O (oNl' (q2 (AL O (AD (v:=(vN m)) (AE O underlying255) O (AD (AT (c:=((m+1:Nat):Int)) O O (AV (a:=m) (b:=1) Z)) O (zZ (V:=λb1=>(qz (jk b1) (m+1) (m+1))) (T:=92) (cs:=Ak (List.replicate (m+1) 0)) (AI O) (DR (m:=m+1) (c:=m+1) O O Z Z) O (BA O) λb1=>asg' O (q3 (sL [0,1,4,5] O) ?_))))))))))
 refine asg' O (oNl' (q1 (q4 (AL O (AD (v:=(vN m)) (AE O underlying255) O (AL O (oNl' (zA (zJ ?_)))))))))
 refine yR (tg λ(i:Nat) (os:List Nat) (c2:Nat)=>i<=m/\os.length=m+1/\W32 os/\c2<2^s/\(∀j,i<=j->os.getD j 0=0)/\val os+c2*4294967296^i=val (bs.take i)*2^s) (tg λ(i:Nat) (os:List Nat) (c2:Nat)=>[(0,(qz (jk p) m c)),(1,(vN s)),(4,jj),(5,(qz (jk b1) (m+1) (m+1))),(13,(qz (jk p) m c)),(14,(vN m)),(15,(vN i)),(6,(vK .u32 c2))]) (tg λ(i:Nat) (os:List Nat) (c2:Nat)=>[AX b1 92 (Ak os)]) (tg λ(i:Nat) (os:List Nat) (c2:Nat)=>m-i) 0 (List.replicate (m+1) 0) 0 (⟨xJ _,by simp,W32.zeros _,Nat.pow_pos Z,λj _=>by simp [List.getD_eq_getElem?_getD,List.getElem?_replicate];split<;>rfl,by rw [EV];simp [val]⟩) (sF O) sr (λi os c2 hJ=>?_)
 obtain ⟨hi,hl,hw32,hcb2,h0,hv⟩:=hJ
 refine q4 (AD (Aa (c:=(decide (i<m))) O O (DB (a:=i) (b:=m))) O (oNl' (q1 ?_)))
 refine zL O (λhc0=>?_) (λhc0=>?_)
 ·replace hc0:=xT hc0
  refine zC (q1 (zJ (q4 (AL O (AD (v:=(pP p i)) (AG (j:=i) O O underlying255 sizeOf92 O Z jX) O ?_)))))
  have hx1:bs.getD i 0<4294967296:=W32.getD hbs i
  refine AD (BZ (v:=(vK .u32 (bs.getD i 0))) O (λw' hw=>CA.at0 (hw.oldCA jX (El hp)) (BH (xs:=bs) (j:=i) Z)) isAgg92) O (asg' O (asg' O (q3 (sL [0,1,4,5,13,14,15,6,7,8] O) (AL O (AL O (AL O (AL O ?_)))))))
  have hxb:=hbs.getD i
  have hsl:=Z5 hxb hs
  have hs32:(2:Nat)^s<=2^31:=Nat.pow_le_pow_right Z Z
  have hso:=QR (w:=bs.getD i 0) hcb2 hs
  refine AD (v:=(vK .u32 (bs.getD i 0*2^s%4294967296))) (Gz (s:=s) O O O (show s<=32 by omega) Mx) O (AL O (AD (JY (c:=((bs.getD i 0*2^s%4294967296+c2:Nat):Int)) O O (KJ Z Z (Z6 hxb hcb2 hs))) O (AD (v:=(pP b1 i)) (AG (j:=i) O O underlying255 sizeOf92 O Z jX) O (zp (i:=0) (off:=i) (vs:=[(vK .u32 (bs.getD i 0*2^s%4294967296+c2))]) (cs':=Ak (os.set i (bs.getD i 0*2^s%4294967296+c2))) (L':=[AX b1 92 (Ak (os.set i (bs.getD i 0*2^s%4294967296+c2)))]) (AI O) O O O O O sizeOf92 O (Ct (BS _) Z) (CN Z) O (oNl' (zB (sL [0,1,4,5,13,14,15,6,8] O) (zA (zH (AL O (AD (Au (c:=((bs.getD i 0:Nat):Int)) O underlying92 underlying69 (BY Z)) O (AL O ?_)))))))))))
  refine AD (v:=(vK .u64 (bs.getD i 0*2^s))) (Gz (s:=s) O O O (show s<=64 by omega) (G7 hsl.1)) O (AD (C3 (s:=32) (c:=(((bs.getD i 0*2^s)/4294967296:Nat):Int)) O O O jY (GY (a:=bs.getD i 0*2^s) (s:=32))) O (AD (Au (c:=(((bs.getD i 0*2^s)/4294967296:Nat):Int)) O underlying69 underlying92 (Cg Z)) O (asg' O (oNl' (zB (sL [0,1,4,5,13,14,15,6,8] O) (zG (zA (zH (AD (AT (c:=((i+1:Nat):Int)) O O (AV (a:=i) (b:=1) Z)) O (AL O (oNl' ?_)))))))))))
  refine zB (sL [0,1,4,5,13,14,15,6,8] O) ?_
  exact yK (i+1) (os.set i (bs.getD i 0*2^s%4294967296+c2)) (bs.getD i 0*2^s/4294967296) (⟨Z,by rw [List.length_set];exact hl,W32.set hw32 hso _,hsl.2,λj hj=>by rw [List.getD_eq_getElem?_getD,List.getElem?_set_ne Z,<-List.getD_eq_getElem?_getD];exact h0 j Z,QQ hl Z h0 hv⟩) Z (sF O) sr
 ·replace hc0:=xS hc0
  have him:i=m:=by omega
  have hs32:(2:Nat)^s<=2^31:=Nat.pow_le_pow_right Z Z
  have hcb:c2<4294967296:=by omega
  refine zU (zO (yA (zP (q2 (AL O (AL O (AD (v:=(vN m)) (AE O underlying255) O (AL O (AD (v:=(pP b1 m)) (AG (j:=m) O O underlying255 sizeOf92 O Z jX) O (zp (i:=0) (off:=m) (vs:=[(vK .u32 c2)]) (cs':=Ak (os.set m c2)) (L':=[AX b1 92 (Ak (os.set m c2))]) (AI O) O O O O O sizeOf92 O (Ct (BS _) Z) (CN Z) O (q3 (sL [0,1,4,5,13,14,15,6] O) ?_)))))))))))
  refine AL O (asg' O (oNl' (zB (sL [0,1,4,5,13,14,15,6] O) (zA (zF ?_)))))
  have hrow:os.set m c2=Cq (m+1) (val (bs.take m)*2^s):=H9 (W32.set hw32 hcb _) (by rw [List.length_set];exact hl) (by rw [Ib hl Z (h0 m Z),<-him];exact hv)
  have hcells:(some (Obj.cells (Ak (os.set m c2)).toArray 92 (0,0)))=some (Obj.cells (Ak (Cq (m+1) (val (bs.take m)*2^s))).toArray 92 (0,0)):=by rw [hrow]
  exact ret_one O (rd_tmp (v:=(qz (jk b1) (m+1) (m+1))) O) (λw hw=>⟨b1,rfl,hw.out,hw.fresh (i:=0) O,(hw.get (i:=0) O).trans hcells⟩)
end
end Go.Proofs.YtpolhpjiahbidaaGreatDoor
