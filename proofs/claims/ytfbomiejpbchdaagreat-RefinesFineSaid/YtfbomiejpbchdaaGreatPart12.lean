import Derived.Test.YtfbomiejpbchdaaGreatPart06
import Derived.Test.YtfbomiejpbchdaaGreatPart11
namespace Go.Proofs.YtfbomiejpbchdaaGreat
open Go Go.RowKit
set_option linter.unusedVariables false
set_option linter.unusedSimpArgs false
section
set_option maxRecDepth 100000
theorem LN  :Instr.fill ([(0,1),(1,1)].toArray[·]?) (AZ 0).toArray []=some (AZ 0).toArray:=by kernel_rfl
theorem O0 (a b:Nat) (ha:nw a<=1099511627776) (hb:nw b<=1099511627776) (w:World)  :Calls Tryz.prog 146 #[(aG (AZ a)),(aG (AZ b))] w (Am w (Value.tuple #[(aG (AZ (a-b))),(Value.bool (decide (b<=a)))])):=by
 have hla:=CN a
 have hlb:=CN b
 have hpa:=WP a
 refine Ac (args:=[(aG (AZ a)),(aG (AZ b))]) Tryz.func146 rfl rfl (Ad rfl) (AG.subF (sL [0,1] rfl) (q4 (Bl (cs:=AZ a) rfl λb1=>Bl (cs:=AZ b) rfl λb2=>al GD rfl λb3=>?_)))
 refine AK rfl (q6 (sL [2,3,4,5] rfl) (q4 (A7 2 CE rfl (A7 1 CE rfl (BU Tryz.call194 (Sm a b (by omega) (by omega)) rfl ?_)))))
 refine AJ (Af (c:=(decide ((Ft a b)<(0:Int)))) rfl rfl rfl) rfl (AF.nil (AC.subF (sL [2,3,4,5,14] rfl) (AC.then_ ?_)))
 refine AG.cond rfl (λhc0=>?_) (λhc0=>?_)
 ·replace hc0:=of_decide_eq_true hc0
  rw [JZ] at hc0
  refine q4 (AJ (v:=(aG (AZ 0))) (AY (zs:=AZ 0) (vs:=AZ 0) (pv:=[]) (places:=[(0,1),(1,1)]) Tryz.zeroValue47 Tryz.underlying47 (λw=>by simp [Tryz.sizeOf9,Tryz.sizeOf45]) rfl (LN )) rfl (AF.retell (k:=15) (u:=(aG (AZ (a-b)))) rfl (by rw [show a-b=0 by omega]) (Ap rfl Tryz.sizeOf47 rfl (AK rfl (AF.nil ?_)))))
  exact AC.subF (sL [2,3,4,5] rfl) (AC.then_ (AG.ret (AC.then_ret (Ct rfl (Ay (i:=0) (cs:=AZ (a-b)) rfl rfl Tryz.isAgg47 Tryz.sizeOf47 rfl) (Ai (v:=(Value.bool false)) rfl) (λw hw=>⟨by rw [decide_eq_false (show ¬b<=a by omega)],hw.out⟩)))))
 ·replace hc0:=of_decide_eq_false hc0
  rw [JZ] at hc0
  have hnb:nw b<=nw a:=Df (by omega)
  refine AG.skip (q1 (q4 (AJ (v:=(pP b1 1)) (AA rfl Tryz.underlying47 rfl Tryz.sizeOf9 rfl) rfl (BL 2 (Value.string (Bn a)) UF rfl (AJ (CD (c:=(decide (a<18446744073709551616))) rfl rfl Cy) rfl ?_)))))
  refine AF.nil (AC.subF (sL [2,3,4,5,18] rfl) (AC.then_ ?_))
  refine AG.cond rfl (λhc1=>?_) (λhc1=>?_)
  ·replace hc1:=of_decide_eq_true hc1
   refine q4 (AJ (v:=(pP b1 0)) (AA rfl Tryz.underlying47 rfl Tryz.sizeOf45 rfl) rfl (BL 2 (vK .u64 (CC a)) HL rfl (AF.retell (k:=20) (u:=(vK .u64 a)) rfl (by rw [Bm hc1]) (AJ (v:=(pP b2 0)) (AA rfl Tryz.underlying47 rfl Tryz.sizeOf45 rfl) rfl (BL 1 (vK .u64 (CC b)) HL rfl ?_)))))
   refine AF.retell (k:=22) (u:=(vK .u64 b)) rfl (by rw [Bm (by omega)]) (AJ (BS (c:=((a-b:Nat):Int)) rfl rfl (IF (a:=a) (b:=b) (by omega) (by omega))) rfl (AJ (v:=(aG ([(vK .u64 (a-b)),(Value.string (Bn 0))]))) (AY (zs:=AZ 0) (vs:=[(vK .u64 (a-b)),(Value.string (Bn 0))]) (pv:=[(0,(vK .u64 (a-b)))]) (places:=[(0,1),(1,1)]) Tryz.zeroValue47 Tryz.underlying47 (λw=>by simp [Tryz.sizeOf9,Tryz.sizeOf45]) rfl rfl) rfl (AF.retell (k:=24) (u:=(aG (AZ (a-b)))) rfl (by rw [Dl (by omega)];rfl) (Ap rfl Tryz.sizeOf47 rfl (AK rfl ?_)))))
   exact AF.nil (AC.subF (sL [2,3,4,5] rfl) (AC.then_ (AG.ret (AC.then_ret (Ct rfl (Ay (i:=0) (cs:=AZ (a-b)) rfl rfl Tryz.isAgg47 Tryz.sizeOf47 rfl) (Ai (v:=(Value.bool true)) rfl) (λw hw=>⟨by rw [decide_eq_true (show b<=a by omega)],hw.out⟩))))))
  ·replace hc1:=of_decide_eq_false hc1
   have hpad:A8 a=AL a:=if_neg hc1
   refine AG.skip (q1 (Cq [(0,true),(2,true),(1,false),(3,false),(4,true),(5,true)] sr (Fz 2 CE rfl (Fz 1 CE rfl (AS.imp rfl ?_)))))
   refine AF.callB (V:=λb4=>(Value.slice (some ⟨b4,0,none⟩) (nw a) ((A8 a).length))) (T:=101) (cs:=Ao (A8 a)) (AN rfl) (Aq (args:=[(aG (AZ a))]) rfl rfl Tryz.call150) (λw hw=>DC a (by omega) w) rfl (Ad rfl) λb4=>AS.back (sl sr) (AS.imp rfl (AF.callB (V:=λb5=>(Value.slice (some ⟨b5,0,none⟩) (nw b) ((A8 b).length))) (T:=101) (cs:=Ao (A8 b)) (AN rfl) (Aq (args:=[(aG (AZ b))]) rfl rfl Tryz.call150) (λw hw=>DC b (by omega) w) rfl (Ad rfl) λb5=>AS.back (sl (sl sr)) (FO rfl ?_)))
   refine FO rfl (AS.nil (AC.subF (sL [2,3,4,5,6,7] rfl) (q2 (AK rfl (AF.nil ?_)))))
   refine q1 (q4 (AO rfl (AJ (v:=(vN (nw a))) (AI rfl Tryz.underlying232) rfl (AO rfl (AF.nil ?_)))))
   refine AC.subF (sL [2,3,4,5,6,7,8,30,31] rfl) (AC.then_ (AG.block ?_))
   refine AG.lp3 (tg λ(i:Nat) (os:List Nat) (c:Nat)=>i<=nw a/\os.length=nw a/\W32 os/\c<=1/\val os+val ((AL b).take i)=a+c*4294967296^i) (tg λ(i:Nat) (os:List Nat) (c:Nat)=>[(4,(pP b3 0)),(5,(Value.bool false)),(6,(Value.slice (some ⟨b4,0,none⟩) (nw a) ((A8 a).length))),(7,(Value.slice (some ⟨b5,0,none⟩) (nw b) ((A8 b).length))),(30,(vN (nw a))),(31,(vN i)),(8,(vK .u32 c))]) (tg λ(i:Nat) (os:List Nat) (c:Nat)=>[Ah b5 101 (Ao (A8 b)),Ah b4 101 (Ao os),Ah b3 47 (AZ 0),Ah b2 47 (AZ b),Ah b1 47 (AZ a)]) (tg λ(i:Nat) (os:List Nat) (c:Nat)=>nw a-i) 0 (A8 a) 0 (⟨Nat.zero_le _,by rw [hpad];rfl,CU a,by omega,by rw [QV];simp [val]⟩) (sF rfl) sr (λi os c hJ=>?_)
   obtain ⟨hi,hl,hw32,hcc,hv⟩:=hJ
   refine q4 (AJ (Af (c:=(decide (i<(nw a)))) rfl rfl (DL (a:=i) (b:=nw a))) rfl (AF.nil (q1 ?_)))
   refine AG.cond rfl (λhc2=>?_) (λhc2=>?_)
   ·replace hc2:=of_decide_eq_true hc2
    refine AG.skip (q1 (AG.block (q4 (AO rfl (AK rfl ?_)))))
    refine q3 (sL [4,5,6,7,30,31,8,9] rfl) (AK rfl (AF.nil (q1 (q4 (AO rfl ?_)))))
    refine AO rfl (AJ (v:=(vN (nw b))) (AI rfl Tryz.underlying232) rfl (AJ (Af (c:=(decide (i<(nw b)))) rfl rfl (DL (a:=i) (b:=nw b))) rfl (AF.nil (AC.subF (sL [4,5,6,7,30,31,8,9,10,37] rfl) (AC.then_ ?_)))))
    refine AG.jn0 (tg True) (tg [(4,(pP b3 0)),(5,(Value.bool false)),(6,(Value.slice (some ⟨b4,0,none⟩) (nw a) ((A8 a).length))),(7,(Value.slice (some ⟨b5,0,none⟩) (nw b) ((A8 b).length))),(30,(vN (nw a))),(31,(vN i)),(8,(vK .u32 c)),(9,(vN i)),(10,(vK .u32 ((AL b).getD i 0)))]) (tg [Ah b5 101 (Ao (A8 b)),Ah b4 101 (Ao os),Ah b3 47 (AZ 0),Ah b2 47 (AZ b),Ah b1 47 (AZ a)]) ?_ ?_
    ·skip
     refine AG.cond rfl (λhc3=>?_) (λhc3=>?_)
     ·replace hc3:=of_decide_eq_true hc3
      refine AG.region (AO rfl (AO rfl (AJ (v:=(pP b5 i)) (AH (j:=i) rfl rfl Tryz.underlying232 Tryz.sizeOf101 rfl (by omega) (by simp)) rfl ?_)))
      have hx1:(A8 b).getD i 0<4294967296:=W32.getD (CU b) i
      exact AJ (AM (i:=0) (v:=(vK .u32 ((A8 b).getD i 0))) rfl rfl Tryz.isAgg101 (BM (xs:=A8 b) (j:=i) (by omega))) rfl (AF.retell (k:=41) (u:=(vK .u32 ((AL b).getD i 0))) rfl (by rw [Da hc3]) (AK rfl (AF.nil (AC.subF (sL [4,5,6,7,30,31,8,9,10] rfl) (AC.join0  (trivial) (sF rfl) sr)))))
     ·replace hc3:=of_decide_eq_false hc3
      exact AG.skip (AC.retell (k:=10) (u:=Value.int .u32 (((AL b).getD i 0:Nat):Int)) rfl (by rw [Ek hc3];rfl) (AC.join0  (trivial) (sF rfl) sr))
    ·intro hJ
     refine AC.then_ (AG.region (AO rfl (AO rfl (AO rfl (AO rfl ?_)))))
     refine AJ (v:=(pP b4 i)) (AH (j:=i) rfl rfl Tryz.underlying232 Tryz.sizeOf101 rfl (by omega) (by simp)) rfl ?_
     have hx2:os.getD i 0<4294967296:=W32.getD hw32 i
     refine AJ (AM (i:=1) (v:=(vK .u32 (os.getD i 0))) rfl rfl Tryz.isAgg101 (BM (xs:=os) (j:=i) (by omega))) rfl (AO rfl (AO rfl ?_))
     have hyb:=(Bv b).getD i
     refine BU Tryz.call197 (KE (os.getD i 0) ((AL b).getD i 0) c _ (by omega) (by omega) (by omega) rfl) rfl (AO rfl (AJ (AT (v:=(vK .u32 (((os.getD i 0)+(4294967296-((AL b).getD i 0))+(4294967296-c))%4294967296))) rfl rfl) rfl (AJ (AT (v:=(vK .u32 (JB (os.getD i 0) (((AL b).getD i 0)+c)))) rfl rfl) rfl (AJ (v:=(pP b4 i)) (AH (j:=i) rfl rfl Tryz.underlying232 Tryz.sizeOf101 rfl (by omega) (by simp)) rfl (AF.store' (i:=1) (off:=i) (vs:=[(vK .u32 (((os.getD i 0)+(4294967296-((AL b).getD i 0))+(4294967296-c))%4294967296))]) (cs':=Ao (os.set i (((os.getD i 0)+(4294967296-((AL b).getD i 0))+(4294967296-c))%4294967296))) (L':=[Ah b5 101 (Ao (A8 b)),Ah b4 101 (Ao (os.set i (((os.getD i 0)+(4294967296-((AL b).getD i 0))+(4294967296-c))%4294967296))),Ah b3 47 (AZ 0),Ah b2 47 (AZ b),Ah b1 47 (AZ a)]) (AN rfl) rfl rfl rfl rfl rfl Tryz.sizeOf101 rfl (Ch (BV _) (by omega)) (CI (by omega)) rfl ?_)))))
     refine AK rfl (AF.nil (AC.subF (sL [4,5,6,7,30,31,8,9,10] rfl) (AC.in_normal (AC.then_ (AG.region ?_)))))
     exact AJ (AX (c:=((i+1:Nat):Int)) rfl rfl (Ab (a:=i) (b:=1) (by omega))) rfl (AO rfl (AF.nil (AC.subF (sL [4,5,6,7,30,31,8,9,10] rfl) (AC.round3 (i+1) (os.set i ((os.getD i 0+(4294967296-(AL b).getD i 0)+(4294967296-c))%4294967296)) (JB (os.getD i 0) ((AL b).getD i 0+c)) (⟨by omega,by rw [List.length_set];exact hl,W32.set hw32 (by omega) i,Pv _ _,Sb hl hc2 hw32 (Bv b) hcc hv⟩) (by omega) (sF rfl) sr))))
   ·replace hc2:=of_decide_eq_false hc2
    refine AG.exit (AC.then_exit (AC.round3_exit (AC.in_exit (q2 (AO rfl ?_)))))
    refine Ey Tryz.call149 (λw hw=>JH _ (nw a) ((A8 a).length) os hw32 (by first|omega|(rw [rowN_length];omega)|simp|(simp;omega)) (by first|omega|simp|(simp;omega)) (by first|omega|simp|(simp;omega)) w (hw.get (i:=1) rfl)) rfl (AF.retell (k:=57) (u:=(aG (AZ (a-b)))) rfl (by rw [List.take_of_length_le (show os.length<=nw a by omega),TC (X:=a) (Y:=b) (n:=nw a) (c:=c) (i:=i) hl hw32 (by omega) (by omega) (by rw [<-hv,DD (by omega)]) (B7 a)]) (L4 rfl Tryz.sizeOf47 rfl (AK rfl (AF.nil (AC.subF (sL [4,5,6,7,30,31,8] rfl) ?_)))))
    exact AC.then_ (AG.ret (Ct rfl (Ay (i:=2) (cs:=AZ (a-b)) rfl rfl Tryz.isAgg47 Tryz.sizeOf47 rfl) (Ai (v:=(Value.bool true)) rfl) (λw hw=>⟨by rw [decide_eq_true (show b<=a by omega)],hw.out⟩)))
theorem PO (a b:Nat) (ha:nw a<=1099511627776) (hb:nw b<=1099511627776) (w:World)  :Calls Tryz.prog 71 #[(aG (AZ a)),(aG (AZ b))] w (Am w (aG (AZ (a*b)))):=by
 have hla:=CN a
 have hlb:=CN b
 refine Ac (args:=[(aG (AZ a)),(aG (AZ b))]) Tryz.func71 rfl rfl (Ad rfl) (AG.subF (sL [0,1] rfl) (q4 (Bl (cs:=AZ a) rfl λb1=>Bl (cs:=AZ b) rfl λb2=>al GD rfl λb3=>?_)))
 refine q6 (sL [2,3,4] rfl) (q4 (AJ (v:=(pP b1 1)) (AA rfl Tryz.underlying47 rfl Tryz.sizeOf9 rfl) rfl (BL 2 (Value.string (Bn a)) UF rfl (AJ (CD (c:=(decide (a<18446744073709551616))) rfl rfl Cy) rfl (AO rfl ?_)))))
 refine AF.mid (FM:=[(2,(pP b1 0)),(3,(pP b2 0)),(4,(pP b3 0)),(15,(pP b1 1)),(16,(Value.string (Bn a))),(17,(Value.bool (decide (a<18446744073709551616)))),(18,(Value.bool (decide (a<18446744073709551616)))),(22,(Value.bool ((decide (a<18446744073709551616))&&(decide (b<18446744073709551616)))))]) (LM:=[Ah b3 47 (AZ 0),Ah b2 47 (AZ b),Ah b1 47 (AZ a)]) 4 ?_ ?_
 ·rcases Bool.eq_false_or_eq_true (decide (a<18446744073709551616)) with hg1|hg1
  ·skip
   refine AF.retell (k:=18) (u:=Value.bool true) rfl (by rw [hg1]) ?_
   have hg1':=hg1
   replace hg1':=of_decide_eq_true hg1'
   exact AF.step (v:=(pP b2 1)) (AB rfl) (AA rfl Tryz.underlying47 rfl Tryz.sizeOf9 rfl) rfl (Ad rfl) (AF.step (v:=(Value.string (Bn b))) (AB rfl) (AM (i:=1) (v:=(Value.string (Bn b))) rfl rfl UF.a rfl) rfl (Ad rfl) (AF.step (v:=(Value.bool (decide (b<18446744073709551616)))) (AB rfl) (CD (c:=(decide (b<18446744073709551616))) rfl rfl Cy) rfl (Ad rfl) (AJ (v:=(Value.bool (decide (b<18446744073709551616)))) (Aj rfl rfl) rfl (AF.nil (AC.mid (sS rfl (sS rfl (sS rfl (sS rfl (sS rfl (sS rfl (sS (by first|rfl|(rw [hg1];rfl)|rw [hg1]) (sS (by first|rfl|(rw [hg1];rfl)|rw [hg1]) (sN))))))))) (List.Sublist.refl _))))))
  ·skip
   refine AF.retell (k:=18) (u:=Value.bool false) rfl (by rw [hg1]) ?_
   have hg1':=hg1
   replace hg1':=of_decide_eq_false hg1'
   exact AF.skip (AP rfl) rfl (Ad rfl) (AF.skip (AP rfl) rfl (Ad rfl) (AF.skip (AP rfl) rfl (Ad rfl) (AJ (v:=(Value.bool false)) (AV rfl rfl) rfl (AF.nil (AC.mid (sS rfl (sS rfl (sS rfl (sS rfl (sS rfl (sS rfl (sS (by first|rfl|(rw [hg1];rfl)|rw [hg1]) (sS (by first|rfl|(rw [hg1];rfl)|rw [hg1]) (sN))))))))) (List.Sublist.refl _))))))
 refine AF.nil (AC.subF (sL [2,3,4,22] rfl) (AC.then_ ?_))
 refine AG.cond rfl (λhc0=>?_) (λhc0=>?_)
 ·simp only [Bool.and_eq_true,Bool.or_eq_true,Bool.and_eq_false_iff,Bool.or_eq_false_iff,Bool.not_eq_true',Bool.not_eq_false',decide_eq_true_eq,decide_eq_false_iff_not] at hc0
  refine q4 (AJ (v:=(pP b1 0)) (AA rfl Tryz.underlying47 rfl Tryz.sizeOf45 rfl) rfl (BL 2 (vK .u64 (CC a)) HL rfl (AF.retell (k:=25) (u:=(vK .u64 a)) rfl (by rw [Bm hc0.1]) (AJ (v:=(pP b2 0)) (AA rfl Tryz.underlying47 rfl Tryz.sizeOf45 rfl) rfl (BL 1 (vK .u64 (CC b)) HL rfl ?_)))))
  have hhi:a*b/18446744073709551616<18446744073709551616:=Nat.div_lt_of_lt_mul (Nat.mul_lt_mul'' hc0.1 hc0.2)
  refine AF.retell (k:=27) (u:=(vK .u64 b)) rfl (by rw [Bm hc0.2]) (BU Tryz.call148 (UM a b (by omega) (by omega)) rfl (AO rfl (AJ (AT (v:=(vK .u64 (a*b/18446744073709551616))) rfl rfl) rfl (AJ (AT (v:=(vK .u64 (a*b%18446744073709551616))) rfl rfl) rfl (AK rfl ?_)))))
  refine AK rfl (q3 (sL [2,3,4,5,6] rfl) (AO rfl (AJ (Az (c:=(((a*b%18446744073709551616)%4294967296:Nat):Int)) rfl Tryz.underlying45 Tryz.underlying101 EY) rfl (AO rfl (AJ (Cu (s:=32) (c:=(((a*b%18446744073709551616)/4294967296:Nat):Int)) rfl rfl rfl (by decide) (F2 (a:=a*b%18446744073709551616) (s:=32))) rfl ?_)))))
  refine AJ (Az (c:=(((a*b%18446744073709551616)/4294967296:Nat):Int)) rfl Tryz.underlying45 Tryz.underlying101 (CY (by omega))) rfl (AO rfl (AJ (Az (c:=(((a*b/18446744073709551616)%4294967296:Nat):Int)) rfl Tryz.underlying45 Tryz.underlying101 EY) rfl (AO rfl (AJ (Cu (s:=32) (c:=(((a*b/18446744073709551616)/4294967296:Nat):Int)) rfl rfl rfl (by decide) (F2 (a:=a*b/18446744073709551616) (s:=32))) rfl (AJ (Az (c:=(((a*b/18446744073709551616)/4294967296:Nat):Int)) rfl Tryz.underlying45 Tryz.underlying101 (CY (by omega))) rfl ?_)))))
  refine AF.openV (V:=λb4=>(Value.slice (some ⟨b4,0,none⟩) 4 4)) (T:=101) (cs:=Ao ([(a*b%18446744073709551616)%4294967296,(a*b%18446744073709551616)/4294967296,(a*b/18446744073709551616)%4294967296,(a*b/18446744073709551616)/4294967296])) (AN rfl) (BE (cs:=Ao ([(a*b%18446744073709551616)%4294967296,(a*b%18446744073709551616)/4294967296,(a*b/18446744073709551616)%4294967296,(a*b/18446744073709551616)/4294967296])) (pv:=[(0,(vK .u32 ((a*b%18446744073709551616)%4294967296))),(1,(vK .u32 ((a*b%18446744073709551616)/4294967296))),(2,(vK .u32 ((a*b/18446744073709551616)%4294967296))),(3,(vK .u32 ((a*b/18446744073709551616)/4294967296)))]) Tryz.underlying232 Tryz.sizeOf101 Tryz.zeroValue101 (by decide) (by decide) rfl (by kernel_rfl)) rfl (Ad rfl) λb4=>Ey Tryz.call149 (λw hw=>JH _ 4 4 ([(a*b%18446744073709551616)%4294967296,(a*b%18446744073709551616)/4294967296,(a*b/18446744073709551616)%4294967296,(a*b/18446744073709551616)/4294967296]) (W32.cons (by omega) (W32.cons (by omega) (W32.cons (by omega) (W32.cons (by omega) (W32.nil))))) (by first|omega|(rw [rowN_length];omega)|simp|(simp;omega)) (by first|omega|simp|(simp;omega)) (by first|omega|simp|(simp;omega)) w (hw.get (i:=0) rfl)) rfl (AF.retell (k:=42) (u:=(aG (AZ (a*b)))) rfl (by rw [show ∀x y z t:Nat,[x,y,z,t].take 4=[x,y,z,t] from λ_ _ _ _=>rfl,YC (by omega) hhi,show a*b%18446744073709551616+a*b/18446744073709551616*18446744073709551616=a*b by omega]) (Cr rfl Tryz.sizeOf47 rfl (AF.nil (AC.subF (sL [2,3,4] rfl) ?_))))
  exact AC.then_ (AG.ret (AC.then_ret (AR rfl (Ay (i:=1) (cs:=AZ (a*b)) rfl rfl Tryz.isAgg47 Tryz.sizeOf47 rfl) (λw hw=>⟨rfl,hw.out⟩))))
 ·simp only [Bool.and_eq_true,Bool.or_eq_true,Bool.and_eq_false_iff,Bool.or_eq_false_iff,Bool.not_eq_true',Bool.not_eq_false',decide_eq_true_eq,decide_eq_false_iff_not] at hc0
  refine AG.skip (q1 (Cq [(0,true),(2,true),(1,false),(3,false),(4,true),(5,true)] sr (Fz 2 CE rfl (Fz 1 CE rfl (AS.imp rfl ?_)))))
  refine AF.callB (V:=λb4=>(Value.slice (some ⟨b4,0,none⟩) (nw a) ((A8 a).length))) (T:=101) (cs:=Ao (A8 a)) (AN rfl) (Aq (args:=[(aG (AZ a))]) rfl rfl Tryz.call150) (λw hw=>DC a (by omega) w) rfl (Ad rfl) λb4=>AS.back (sl sr) (AS.imp rfl (AF.callB (V:=λb5=>(Value.slice (some ⟨b5,0,none⟩) (nw b) ((A8 b).length))) (T:=101) (cs:=Ao (A8 b)) (AN rfl) (Aq (args:=[(aG (AZ b))]) rfl rfl Tryz.call150) (λw hw=>DC b (by omega) w) rfl (Ad rfl) λb5=>AS.back (sl (sl sr)) (FO rfl ?_)))
  refine FO rfl (AS.nil (AC.subF (sL [2,3,4,7,8] rfl) (q2 (AO rfl (AJ (v:=(vN (nw a))) (AI rfl Tryz.underlying232) rfl ?_)))))
  refine AO rfl (AJ (v:=(vN (nw b))) (AI rfl Tryz.underlying232) rfl (AJ (AX (c:=(((nw a)+(nw b):Nat):Int)) rfl rfl (Ab (a:=nw a) (b:=nw b) (by omega))) rfl (AF.openV (V:=λb6=>(Value.slice (some ⟨b6,0,none⟩) ((nw a)+(nw b)) ((nw a)+(nw b)))) (T:=101) (cs:=Ao (List.replicate ((nw a)+(nw b)) 0)) (AN rfl) (DF (m:=(nw a)+(nw b)) (c:=(nw a)+(nw b)) rfl rfl (by omega) (by omega)) rfl (Ad rfl) λb6=>AK rfl (q6 (sL [2,3,4,7,8,9] rfl) ?_))))
  refine q4 (AO rfl (AJ (v:=(vN (nw a))) (AI rfl Tryz.underlying232) rfl (AO rfl (AF.nil (AC.then_ ?_)))))
  refine AG.block ?_
  refine AG.lp2 (tg λ(i:Nat) (os:List Nat)=>i<=nw a/\os.length=nw a+nw b/\W32 os/\val os=val ((AL a).take i)*b) (tg λ(i:Nat) (os:List Nat)=>[(4,(pP b3 0)),(8,(Value.slice (some ⟨b5,0,none⟩) (nw b) ((A8 b).length))),(9,(Value.slice (some ⟨b6,0,none⟩) ((nw a)+(nw b)) ((nw a)+(nw b)))),(53,(Value.slice (some ⟨b4,0,none⟩) (nw a) ((A8 a).length))),(54,(vN (nw a))),(55,(vN i))]) (tg λ(i:Nat) (os:List Nat)=>[Ah b6 101 (Ao os),Ah b5 101 (Ao (A8 b)),Ah b4 101 (Ao (A8 a)),Ah b3 47 (AZ 0),Ah b2 47 (AZ b),Ah b1 47 (AZ a)]) (tg λ(i:Nat) (os:List Nat)=>nw a-i) 0 (List.replicate (nw a+nw b) 0) (⟨Nat.zero_le _,by simp,W32.zeros _,by rw [D_];simp [val]⟩) (sF rfl) sr (λi os hJ=>?_)
  obtain ⟨hi,hl,hw32,hv⟩:=hJ
  refine q4 (AJ (Af (c:=(decide (i<(nw a)))) rfl rfl (DL (a:=i) (b:=nw a))) rfl (AF.nil (q1 ?_)))
  refine AG.cond rfl (λhc1=>?_) (λhc1=>?_)
  ·replace hc1:=of_decide_eq_true hc1
   refine AG.skip (q1 (AG.block (q4 (AO rfl (AJ (v:=(pP b4 i)) (AH (j:=i) rfl rfl Tryz.underlying232 Tryz.sizeOf101 rfl (by omega) (by simp)) rfl ?_)))))
   have hx1:(A8 a).getD i 0<4294967296:=W32.getD (CU a) i
   refine AJ (AM (i:=2) (v:=(vK .u32 ((A8 a).getD i 0))) rfl rfl Tryz.isAgg101 (BM (xs:=A8 a) (j:=i) (by omega))) rfl (AF.retell (k:=59) (u:=(vK .u32 ((AL a).getD i 0))) rfl (by rw [Da hc1]) (AK rfl (AK rfl (q3 (sL [4,8,9,53,54,55,10,11] rfl) (AK rfl ?_)))))
   refine AF.nil (q1 (q4 (AO rfl (AJ (v:=(vN (nw b))) (AI rfl Tryz.underlying232) rfl (AO rfl ?_)))))
   refine AF.nil (AC.then_ (AG.block ?_))
   refine AG.lp3 (tg λ(k:Nat) (xs:List Nat) (c:Nat)=>k<=nw b/\xs.length=nw a+nw b/\W32 xs/\c<4294967296/\(∀j,i+nw b<=j->xs.getD j 0=0)/\val xs+c*4294967296^(i+k)=val ((AL a).take i)*b+(AL a).getD i 0*val ((AL b).take k)*4294967296^i) (tg λ(k:Nat) (xs:List Nat) (c:Nat)=>[(4,(pP b3 0)),(8,(Value.slice (some ⟨b5,0,none⟩) (nw b) ((A8 b).length))),(9,(Value.slice (some ⟨b6,0,none⟩) ((nw a)+(nw b)) ((nw a)+(nw b)))),(53,(Value.slice (some ⟨b4,0,none⟩) (nw a) ((A8 a).length))),(54,(vN (nw a))),(55,(vN i)),(10,(vN i)),(11,(vK .u32 ((AL a).getD i 0))),(60,(Value.slice (some ⟨b5,0,none⟩) (nw b) ((A8 b).length))),(61,(vN (nw b))),(62,(vN k)),(12,(vK .u64 c))]) (tg λ(k:Nat) (xs:List Nat) (c:Nat)=>[Ah b6 101 (Ao xs),Ah b5 101 (Ao (A8 b)),Ah b4 101 (Ao (A8 a)),Ah b3 47 (AZ 0),Ah b2 47 (AZ b),Ah b1 47 (AZ a)]) (tg λ(k:Nat) (xs:List Nat) (c:Nat)=>nw b-k) 0 os 0 (⟨Nat.zero_le _,hl,hw32,by omega,PI hv,by rw [hv];simp [val]⟩) (sF rfl) sr (λk xs c hJ=>?_)
   obtain ⟨hk,hl2,hw2,hcc,h02,hv2⟩:=hJ
   refine q4 (AJ (Af (c:=(decide (k<(nw b)))) rfl rfl (DL (a:=k) (b:=nw b))) rfl (AF.nil (q1 ?_)))
   refine AG.cond rfl (λhc2=>?_) (λhc2=>?_)
   ·replace hc2:=of_decide_eq_true hc2
    refine AG.skip (q1 (AG.block (q4 (AO rfl (AJ (v:=(pP b5 k)) (AH (j:=k) rfl rfl Tryz.underlying232 Tryz.sizeOf101 rfl (by omega) (by simp)) rfl ?_)))))
    have hx2:(A8 b).getD k 0<4294967296:=W32.getD (CU b) k
    refine AJ (AM (i:=1) (v:=(vK .u32 ((A8 b).getD k 0))) rfl rfl Tryz.isAgg101 (BM (xs:=A8 b) (j:=k) (by omega))) rfl (AF.retell (k:=66) (u:=(vK .u32 ((AL b).getD k 0))) rfl (by rw [Da hc2]) (AK rfl (AK rfl (q3 (sL [4,8,9,53,54,55,10,11,60,61,62,12,13,14] rfl) (AO rfl ?_)))))
    refine AO rfl ?_
    have hwa:=(Bv a).getD i
    have hwb:=(Bv b).getD k
    have hml:=KY hwa hwb
    refine AJ (Az (c:=(((AL a).getD i 0:Nat):Int)) rfl Tryz.underlying101 Tryz.underlying45 (Ba (by omega))) rfl (AO rfl (AJ (Az (c:=(((AL b).getD k 0:Nat):Int)) rfl Tryz.underlying101 Tryz.underlying45 (Ba (by omega))) rfl (AJ (Bq (c:=((((AL a).getD i 0)*((AL b).getD k 0):Nat):Int)) rfl rfl (FN (a:=(AL a).getD i 0) (b:=(AL b).getD k 0) (by omega))) rfl (AO rfl (AO rfl ?_)))))
    refine AO rfl (AJ (AX (c:=((i+k:Nat):Int)) rfl rfl (Ab (a:=i) (b:=k) (by omega))) rfl (AJ (v:=(pP b6 (i+k))) (AH (j:=i+k) rfl rfl Tryz.underlying232 Tryz.sizeOf101 rfl (by omega) (by simp)) rfl ?_))
    have hx3:xs.getD (i+k) 0<4294967296:=W32.getD hw2 (i+k)
    refine AJ (AM (i:=0) (v:=(vK .u32 (xs.getD (i+k) 0))) rfl rfl Tryz.isAgg101 (BM (xs:=xs) (j:=(i+k)) (by omega))) rfl (AJ (Az (c:=((xs.getD (i+k) 0:Nat):Int)) rfl Tryz.underlying101 Tryz.underlying45 (Ba (by omega))) rfl (AJ (AX (c:=(((((AL a).getD i 0)*((AL b).getD k 0))+(xs.getD (i+k) 0):Nat):Int)) rfl rfl (De (a:=((AL a).getD i 0)*((AL b).getD k 0)) (b:=xs.getD (i+k) 0) (by omega))) rfl (AJ (AX (c:=((c+((((AL a).getD i 0)*((AL b).getD k 0))+(xs.getD (i+k) 0)):Nat):Int)) rfl rfl (De (a:=c) (b:=(((AL a).getD i 0)*((AL b).getD k 0))+(xs.getD (i+k) 0)) (by omega))) rfl (AK rfl (q3 (sL [4,8,9,53,54,55,10,11,60,61,62,12,13] rfl) ?_)))))
    refine AO rfl (AO rfl (AO rfl (AJ (AX (c:=((i+k:Nat):Int)) rfl rfl (Ab (a:=i) (b:=k) (by omega))) rfl (AO rfl (AJ (Az (c:=(((c+((((AL a).getD i 0)*((AL b).getD k 0))+(xs.getD (i+k) 0)))%4294967296:Nat):Int)) rfl Tryz.underlying45 Tryz.underlying101 EY) rfl ?_)))))
    refine AJ (v:=(pP b6 (i+k))) (AH (j:=i+k) rfl rfl Tryz.underlying232 Tryz.sizeOf101 rfl (by omega) (by simp)) rfl (AF.store' (i:=0) (off:=(i+k)) (vs:=[(vK .u32 ((c+((((AL a).getD i 0)*((AL b).getD k 0))+(xs.getD (i+k) 0)))%4294967296))]) (cs':=Ao (xs.set (i+k) ((c+((((AL a).getD i 0)*((AL b).getD k 0))+(xs.getD (i+k) 0)))%4294967296))) (L':=[Ah b6 101 (Ao (xs.set (i+k) ((c+((((AL a).getD i 0)*((AL b).getD k 0))+(xs.getD (i+k) 0)))%4294967296))),Ah b5 101 (Ao (A8 b)),Ah b4 101 (Ao (A8 a)),Ah b3 47 (AZ 0),Ah b2 47 (AZ b),Ah b1 47 (AZ a)]) (AN rfl) rfl rfl rfl rfl rfl Tryz.sizeOf101 rfl (Ch (BV _) (by omega)) (CI (by omega)) rfl (AF.nil (AC.subF (sL [4,8,9,53,54,55,10,11,60,61,62,12,13] rfl) (AC.then_ (AG.region ?_)))))
    refine AO rfl (AJ (Cu (s:=32) (c:=(((c+((((AL a).getD i 0)*((AL b).getD k 0))+(xs.getD (i+k) 0)))/4294967296:Nat):Int)) rfl rfl rfl (by decide) (F2 (a:=c+((((AL a).getD i 0)*((AL b).getD k 0))+(xs.getD (i+k) 0))) (s:=32))) rfl (AK rfl (AF.nil (AC.subF (sL [4,8,9,53,54,55,10,11,60,61,62,12,13] rfl) (AC.in_normal ?_)))))
    exact AC.then_ (AG.region (AJ (AX (c:=((k+1:Nat):Int)) rfl rfl (Ab (a:=k) (b:=1) (by omega))) rfl (AO rfl (AF.nil (AC.subF (sL [4,8,9,53,54,55,10,11,60,61,62,12,13] rfl) (AC.round3 (k+1) (xs.set (i+k) ((c+((AL a).getD i 0*(AL b).getD k 0+xs.getD (i+k) 0))%4294967296)) ((c+((AL a).getD i 0*(AL b).getD k 0+xs.getD (i+k) 0))/4294967296) (⟨by omega,by rw [List.length_set];exact hl2,W32.set hw2 (by omega) _,by omega,Fm h02 (by omega),Te hl2 (by omega) hv2⟩) (by omega) (sF rfl) sr))))))
   ·replace hc2:=of_decide_eq_false hc2
    have hkn:k=nw b:=by omega
    have hbb:val ((AL b).take k)=b:=DD (by omega)
    rw [hbb] at hv2
    refine AG.exit (AC.then_exit (AC.round3_exit (AC.in_exit (AC.then_ (AG.region ?_)))))
    refine AO rfl (AO rfl (AO rfl (AJ (v:=(vN (nw b))) (AI rfl Tryz.underlying232) rfl (AJ (AX (c:=((i+(nw b):Nat):Int)) rfl rfl (Ab (a:=i) (b:=nw b) (by omega))) rfl (AO rfl ?_)))))
    refine AJ (Az (c:=((c:Nat):Int)) rfl Tryz.underlying45 Tryz.underlying101 (CY (by omega))) rfl (AJ (v:=(pP b6 (i+(nw b)))) (AH (j:=i+(nw b)) rfl rfl Tryz.underlying232 Tryz.sizeOf101 rfl (by omega) (by simp)) rfl (AF.store' (i:=0) (off:=(i+(nw b))) (vs:=[(vK .u32 c)]) (cs':=Ao (xs.set (i+(nw b)) c)) (L':=[Ah b6 101 (Ao (xs.set (i+(nw b)) c)),Ah b5 101 (Ao (A8 b)),Ah b4 101 (Ao (A8 a)),Ah b3 47 (AZ 0),Ah b2 47 (AZ b),Ah b1 47 (AZ a)]) (AN rfl) rfl rfl rfl rfl rfl Tryz.sizeOf101 rfl (Ch (BV _) (by omega)) (CI (by omega)) rfl (AF.nil (AC.subF (sL [4,8,9,53,54,55,10,11,60,61,62,12] rfl) (AC.in_normal ?_)))))
    exact AC.then_ (AG.region (AJ (AX (c:=((i+1:Nat):Int)) rfl rfl (Ab (a:=i) (b:=1) (by omega))) rfl (AO rfl (AF.nil (AC.subF (sL [4,8,9,53,54,55,10,11,60,61,62,12] rfl) (AC.round2 (i+1) (xs.set (i+nw b) c) (⟨by omega,by rw [List.length_set];exact hl2,W32.set hw2 hcc _,by rw [IM hl2 (by omega) (h02 _ (Nat.le_refl _)),<-Wd,<-hv2,<-hkn]⟩) (by omega) (sF rfl) sr))))))
  ·replace hc1:=of_decide_eq_false hc1
   refine AG.exit (AC.then_exit (AC.round2_exit (AC.in_exit (q2 (AO rfl ?_)))))
   refine Ey Tryz.call149 (λw hw=>JH _ ((nw a)+(nw b)) ((nw a)+(nw b)) os hw32 (by first|omega|(rw [rowN_length];omega)|simp|(simp;omega)) (by first|omega|simp|(simp;omega)) (by first|omega|simp|(simp;omega)) w (hw.get (i:=0) rfl)) rfl (AF.retell (k:=102) (u:=(aG (AZ (a*b)))) rfl (by rw [List.take_of_length_le (show os.length<=nw a+nw b by omega),hv,DD (by omega)]) (KM rfl Tryz.sizeOf47 rfl (AF.nil (AC.subF (sL [4,8,9,53,54,55] rfl) (AC.then_ ?_)))))
   exact AG.ret (AR rfl (Ay (i:=3) (cs:=AZ (a*b)) rfl rfl Tryz.isAgg47 Tryz.sizeOf47 rfl) (λw hw=>⟨rfl,hw.out⟩))
end
end Go.Proofs.YtfbomiejpbchdaaGreat
