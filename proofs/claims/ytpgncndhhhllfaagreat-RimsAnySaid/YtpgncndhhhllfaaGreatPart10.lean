import Derived.Test.YtpgncndhhhllfaaGreatPart03
import Derived.Test.YtpgncndhhhllfaaGreatPart09
namespace Go.Proofs.YtpgncndhhhllfaaGreat
open Go Go.RowKit Go.Proofs.Tryz
set_option linter.unusedVariables false
set_option linter.unusedSimpArgs false
section
set_option maxRecDepth 100000
theorem Kl  :Instr.fill ([(0,1),(1,1)].toArray[·]?) (Ae 0).toArray []=some (Ae 0).toArray:=by kernel_rfl
theorem X_ (a b:Nat) (ha:nw a<=1099511627776) (hb:nw b<=1099511627776) (w:World)  :Calls prog 113 #[(aG (Ae a)),(aG (Ae b))] w (Ak w (Value.tuple #[(aG (Ae (a-b))),(Value.bool (decide (b<=a)))])):=by
 have hla:=CE a
 have hlb:=CE b
 have hpa:=Vo a
 refine An (args:=[(aG (Ae a)),(aG (Ae b))]) func113 O O (AV O) (AE.subF (sL [0,1] O) (q4 (B0 (cs:=Ae a) O λb1=>B0 (cs:=Ae b) O λb2=>al GH O λb3=>AI O (q6 (sL [2,3,4,5] O) (q4 (BC 2 Cl O (BC 1 Cl O (ck' call137 (Um a b Z Z) O ?_))))))))
 refine AK (Ad (c:=(decide ((C6 a b)<(0:Int)))) O O O) O (AC.nil (OkQ.subF (sL [2,3,4,5,14] O) (OkQ.then_ ?_)))
 refine AE.cond O (λhc0=>?_) (λhc0=>?_)
 ·replace hc0:=of_decide_eq_true hc0
  rw [GR] at hc0
  exact q4 (AK (v:=(aG (Ae 0))) (Aa (zs:=Ae 0) (vs:=Ae 0) (pv:=[]) (places:=[(0,1),(1,1)]) zeroValue58 underlying58 (λw=>by simp [sizeOf9,sizeOf56]) O (Kl )) O (AC.retell (k:=15) (u:=(aG (Ae (a-b)))) O (by rw [show a-b=0 by omega]) (BP O sizeOf58 O (AI O (AC.nil (OkQ.subF (sL [2,3,4,5] O) (OkQ.then_ (AE.ret (OkQ.then_ret (Bo O (BH (i:=0) (cs:=Ae (a-b)) O O isAgg58 sizeOf58 O) (AZ (v:=(Value.bool false)) O) (λw hw=>⟨by rw [decide_eq_false (show ¬b<=a by omega)],hw.out⟩)))))))))))
 ·replace hc0:=of_decide_eq_false hc0
  rw [GR] at hc0
  have hnb:nw b<=nw a:=Ck Z
  refine AE.skip (q1 (q4 (AK (v:=(pP b1 1)) (AB O underlying58 O sizeOf9 O) O (BL 2 (Value.string (Bi a)) U_ O (AK (B3 (c:=(decide (a<18446744073709551616))) O O Cf) O (AC.nil (OkQ.subF (sL [2,3,4,5,18] O) (OkQ.then_ ?_))))))))
  refine AE.cond O (λhc1=>?_) (λhc1=>?_)
  ·replace hc1:=of_decide_eq_true hc1
   refine q4 (AK (v:=(pP b1 0)) (AB O underlying58 O sizeOf56 O) O (BL 2 (vK .u64 (B2 a)) Gg O (AC.retell (k:=20) (u:=(vK .u64 a)) O (by rw [Bf hc1]) (AK (v:=(pP b2 0)) (AB O underlying58 O sizeOf56 O) O (BL 1 (vK .u64 (B2 b)) Gg O (AC.retell (k:=22) (u:=(vK .u64 b)) O (by rw [Bf Z]) (AK (BO (c:=((a-b:Nat):Int)) O O (HN (a:=a) (b:=b) Z Z)) O (AK (v:=(aG ([(vK .u64 (a-b)),(Value.string (Bi 0))]))) (Aa (zs:=Ae 0) (vs:=[(vK .u64 (a-b)),(Value.string (Bi 0))]) (pv:=[(0,(vK .u64 (a-b)))]) (places:=[(0,1),(1,1)]) zeroValue58 underlying58 (λw=>by simp [sizeOf9,sizeOf56]) O O) O (AC.retell (k:=24) (u:=(aG (Ae (a-b)))) O (by rw [DF Z];rfl) (BP O sizeOf58 O (AI O ?_)))))))))))
   exact AC.nil (OkQ.subF (sL [2,3,4,5] O) (OkQ.then_ (AE.ret (OkQ.then_ret (Bo O (BH (i:=0) (cs:=Ae (a-b)) O O isAgg58 sizeOf58 O) (AZ (v:=(Value.bool true)) O) (λw hw=>⟨by rw [decide_eq_true (show b<=a by omega)],hw.out⟩))))))
  ·replace hc1:=of_decide_eq_false hc1
   have hpad:Ax a=AQ a:=if_neg hc1
   refine AE.skip (q1 (Cu [(0,true),(2,true),(1,false),(3,false),(4,true),(5,true)] sr (Gx 2 Cl O (Gx 1 Cl O (OkE.imp O (AC.callB (V:=λb4=>(Value.slice (some ⟨b4,0,none⟩) (nw a) ((Ax a).length))) (T:=50) (cs:=Aq (Ax a)) (AT O) (Aw (args:=[(aG (Ae a))]) O O call138) (λw hw=>C2 a Z w) O (AV O) λb4=>OkE.back (sl sr) (OkE.imp O (AC.callB (V:=λb5=>(Value.slice (some ⟨b5,0,none⟩) (nw b) ((Ax b).length))) (T:=50) (cs:=Aq (Ax b)) (AT O) (Aw (args:=[(aG (Ae b))]) O O call138) (λw hw=>C2 b Z w) O (AV O) λb5=>OkE.back (sl (sl sr)) (pS' O ?_)))))))))
   refine pS' O (OkE.nil (OkQ.subF (sL [2,3,4,5,6,7] O) (q2 (AI O (AC.nil (q1 (q4 (AM O (AK (v:=(vN (nw a))) (AF O underlying224) O (AM O (AC.nil ?_)))))))))))
   refine OkQ.subF (sL [2,3,4,5,6,7,8,30,31] O) (OkQ.then_ (AE.block ?_))
   refine AE.lp3 (tg λ(i:Nat) (os:List Nat) (c:Nat)=>i<=nw a/\os.length=nw a/\W32 os/\c<=1/\val os+val ((AQ b).take i)=a+c*4294967296^i) (tg λ(i:Nat) (os:List Nat) (c:Nat)=>[(4,(pP b3 0)),(5,(Value.bool false)),(6,(Value.slice (some ⟨b4,0,none⟩) (nw a) ((Ax a).length))),(7,(Value.slice (some ⟨b5,0,none⟩) (nw b) ((Ax b).length))),(30,(vN (nw a))),(31,(vN i)),(8,(vK .u32 c))]) (tg λ(i:Nat) (os:List Nat) (c:Nat)=>[Ah b5 50 (Aq (Ax b)),Ah b4 50 (Aq os),Ah b3 58 (Ae 0),Ah b2 58 (Ae b),Ah b1 58 (Ae a)]) (tg λ(i:Nat) (os:List Nat) (c:Nat)=>nw a-i) 0 (Ax a) 0 (⟨Nat.zero_le _,by rw [hpad];rfl,CJ a,Z,by rw [Qc];simp [val]⟩) (sF O) sr (λi os c hJ=>?_)
   obtain ⟨hi,hl,hw32,hcc,hv⟩:=hJ
   refine q4 (AK (Ad (c:=(decide (i<(nw a)))) O O (B7 (a:=i) (b:=nw a))) O (AC.nil (q1 ?_)))
   refine AE.cond O (λhc2=>?_) (λhc2=>?_)
   ·replace hc2:=of_decide_eq_true hc2
    refine AE.skip (q1 (AE.block (q4 (AM O (AI O (q3 (sL [4,5,6,7,30,31,8,9] O) (AI O (AC.nil (q1 (q4 (AM O ?_)))))))))))
    refine AM O (AK (v:=(vN (nw b))) (AF O underlying224) O (AK (Ad (c:=(decide (i<(nw b)))) O O (B7 (a:=i) (b:=nw b))) O (AC.nil (OkQ.subF (sL [4,5,6,7,30,31,8,9,10,37] O) (OkQ.then_ ?_)))))
    refine AE.jn0 (tg True) (tg [(4,(pP b3 0)),(5,(Value.bool false)),(6,(Value.slice (some ⟨b4,0,none⟩) (nw a) ((Ax a).length))),(7,(Value.slice (some ⟨b5,0,none⟩) (nw b) ((Ax b).length))),(30,(vN (nw a))),(31,(vN i)),(8,(vK .u32 c)),(9,(vN i)),(10,(vK .u32 ((AQ b).getD i 0)))]) (tg [Ah b5 50 (Aq (Ax b)),Ah b4 50 (Aq os),Ah b3 58 (Ae 0),Ah b2 58 (Ae b),Ah b1 58 (Ae a)]) ?_ ?_
    ·skip
     refine AE.cond O (λhc3=>?_) (λhc3=>?_)
     ·replace hc3:=of_decide_eq_true hc3
      refine AE.region (AM O (AM O (AK (v:=(pP b5 i)) (AP (j:=i) O O underlying224 sizeOf50 O Z (by simp)) O ?_)))
      have hx1:(Ax b).getD i 0<4294967296:=W32.getD (CJ b) i
      exact AK (AN (i:=0) (v:=(vK .u32 ((Ax b).getD i 0))) O O isAgg50 (BD (xs:=Ax b) (j:=i) Z)) O (AC.retell (k:=41) (u:=(vK .u32 ((AQ b).getD i 0))) O (by rw [DD hc3]) (AI O (AC.nil (OkQ.subF (sL [4,5,6,7,30,31,8,9,10] O) (OkQ.join0  (trivial) (sF O) sr)))))
     ·replace hc3:=of_decide_eq_false hc3
      exact AE.skip (OkQ.retell (k:=10) (u:=Value.int .u32 (((AQ b).getD i 0:Nat):Int)) O (by rw [Dz hc3];rfl) (OkQ.join0  (trivial) (sF O) sr))
    ·intro hJ
     refine OkQ.then_ (AE.region (AM O (AM O (AM O (AM O (AK (v:=(pP b4 i)) (AP (j:=i) O O underlying224 sizeOf50 O Z (by simp)) O ?_))))))
     have hx2:os.getD i 0<4294967296:=W32.getD hw32 i
     refine AK (AN (i:=1) (v:=(vK .u32 (os.getD i 0))) O O isAgg50 (BD (xs:=os) (j:=i) Z)) O (AM O (AM O ?_))
     have hyb:=(Bn b).getD i
     refine ck' call142 (KP (os.getD i 0) ((AQ b).getD i 0) c _ Z Z Z O) O (AM O (AK (AX (v:=(vK .u32 (((os.getD i 0)+(4294967296-((AQ b).getD i 0))+(4294967296-c))%4294967296))) O O) O (AK (AX (v:=(vK .u32 (IU (os.getD i 0) (((AQ b).getD i 0)+c)))) O O) O (AK (v:=(pP b4 i)) (AP (j:=i) O O underlying224 sizeOf50 O Z (by simp)) O (AC.store' (i:=1) (off:=i) (vs:=[(vK .u32 (((os.getD i 0)+(4294967296-((AQ b).getD i 0))+(4294967296-c))%4294967296))]) (cs':=Aq (os.set i (((os.getD i 0)+(4294967296-((AQ b).getD i 0))+(4294967296-c))%4294967296))) (L':=[Ah b5 50 (Aq (Ax b)),Ah b4 50 (Aq (os.set i (((os.getD i 0)+(4294967296-((AQ b).getD i 0))+(4294967296-c))%4294967296))),Ah b3 58 (Ae 0),Ah b2 58 (Ae b),Ah b1 58 (Ae a)]) (AT O) O O O O O sizeOf50 O (CW (BS _) Z) (B9 Z) O (AI O (AC.nil (OkQ.subF (sL [4,5,6,7,30,31,8,9,10] O) (OkQ.in_normal (OkQ.then_ (AE.region ?_)))))))))))
     exact AK (AY (c:=((i+1:Nat):Int)) O O (AU (a:=i) (b:=1) Z)) O (AM O (AC.nil (OkQ.subF (sL [4,5,6,7,30,31,8,9,10] O) (OkQ.round3 (i+1) (os.set i ((os.getD i 0+(4294967296-(AQ b).getD i 0)+(4294967296-c))%4294967296)) (IU (os.getD i 0) ((AQ b).getD i 0+c)) (⟨Z,by rw [List.length_set];exact hl,W32.set hw32 Z i,Ol _ _,VB hl hc2 hw32 (Bn b) hcc hv⟩) Z (sF O) sr))))
   ·replace hc2:=of_decide_eq_false hc2
    refine AE.exit (OkQ.then_exit (OkQ.round3_exit (OkQ.in_exit (q2 (AM O (Cc call140 (λw hw=>Ic _ (nw a) ((Ax a).length) os hw32 (by first|omega|(rw [rowN_length];omega)|simp|(simp;omega)) (by first|omega|simp|(simp;omega)) (by first|omega|simp|(simp;omega)) w (hw.get (i:=1) O)) O (AC.retell (k:=57) (u:=(aG (Ae (a-b)))) O (by rw [List.take_of_length_le (show os.length<=nw a by omega),TK (X:=a) (Y:=b) (n:=nw a) (c:=c) (i:=i) hl hw32 Z Z (by rw [<-hv,C3 Z]) (Bs a)]) (Ku O sizeOf58 O (AI O (AC.nil (OkQ.subF (sL [4,5,6,7,30,31,8] O) ?_)))))))))))
    exact OkQ.then_ (AE.ret (Bo O (BH (i:=2) (cs:=Ae (a-b)) O O isAgg58 sizeOf58 O) (AZ (v:=(Value.bool true)) O) (λw hw=>⟨by rw [decide_eq_true (show b<=a by omega)],hw.out⟩)))
theorem Uc (a b:Nat) (ha:nw a<=1099511627776) (hb:nw b<=1099511627776) (w:World)  :Calls prog 117 #[(aG (Ae a)),(aG (Ae b))] w (Ak w (aG (Ae (a*b)))):=by
 have hla:=CE a
 have hlb:=CE b
 refine An (args:=[(aG (Ae a)),(aG (Ae b))]) func117 O O (AV O) (AE.subF (sL [0,1] O) (q4 (B0 (cs:=Ae a) O λb1=>B0 (cs:=Ae b) O λb2=>al GH O λb3=>q6 (sL [2,3,4] O) (q4 (AK (v:=(pP b1 1)) (AB O underlying58 O sizeOf9 O) O (BL 2 (Value.string (Bi a)) U_ O (AK (B3 (c:=(decide (a<18446744073709551616))) O O Cf) O (AM O ?_))))))))
 refine AC.mid (FM:=[(2,(pP b1 0)),(3,(pP b2 0)),(4,(pP b3 0)),(15,(pP b1 1)),(16,(Value.string (Bi a))),(17,(Value.bool (decide (a<18446744073709551616)))),(18,(Value.bool (decide (a<18446744073709551616)))),(22,(Value.bool ((decide (a<18446744073709551616))&&(decide (b<18446744073709551616)))))]) (LM:=[Ah b3 58 (Ae 0),Ah b2 58 (Ae b),Ah b1 58 (Ae a)]) 4 ?_ ?_
 ·rcases Bool.eq_false_or_eq_true (decide (a<18446744073709551616)) with hg1|hg1
  ·skip
   refine AC.retell (k:=18) (u:=Value.bool true) O (by rw [hg1]) ?_
   have hg1':=hg1
   replace hg1':=of_decide_eq_true hg1'
   exact AC.step (v:=(pP b2 1)) (AA O) (AB O underlying58 O sizeOf9 O) O (AV O) (AC.step (v:=(Value.string (Bi b))) (AA O) (AN (i:=1) (v:=(Value.string (Bi b))) O O U_.a O) O (AV O) (AC.step (v:=(Value.bool (decide (b<18446744073709551616)))) (AA O) (B3 (c:=(decide (b<18446744073709551616))) O O Cf) O (AV O) (AK (v:=(Value.bool (decide (b<18446744073709551616)))) (AR O O) O (AC.nil (OkQ.mid (sS O (sS O (sS O (sS O (sS O (sS O (sS (by first|rfl|(rw [hg1];rfl)|rw [hg1]) (sS (by first|rfl|(rw [hg1];rfl)|rw [hg1]) (sN))))))))) (List.Sublist.refl _))))))
  ·skip
   refine AC.retell (k:=18) (u:=Value.bool false) O (by rw [hg1]) ?_
   have hg1':=hg1
   replace hg1':=of_decide_eq_false hg1'
   exact AC.skip (AD O) O (AV O) (AC.skip (AD O) O (AV O) (AC.skip (AD O) O (AV O) (AK (v:=(Value.bool false)) (AO O O) O (AC.nil (OkQ.mid (sS O (sS O (sS O (sS O (sS O (sS O (sS (by first|rfl|(rw [hg1];rfl)|rw [hg1]) (sS (by first|rfl|(rw [hg1];rfl)|rw [hg1]) (sN))))))))) (List.Sublist.refl _))))))
 refine AC.nil (OkQ.subF (sL [2,3,4,22] O) (OkQ.then_ ?_))
 refine AE.cond O (λhc0=>?_) (λhc0=>?_)
 ·simp only [Bool.and_eq_true,Bool.or_eq_true,Bool.and_eq_false_iff,Bool.or_eq_false_iff,Bool.not_eq_true',Bool.not_eq_false',decide_eq_true_eq,decide_eq_false_iff_not] at hc0
  refine q4 (AK (v:=(pP b1 0)) (AB O underlying58 O sizeOf56 O) O (BL 2 (vK .u64 (B2 a)) Gg O (AC.retell (k:=25) (u:=(vK .u64 a)) O (by rw [Bf hc0.1]) (AK (v:=(pP b2 0)) (AB O underlying58 O sizeOf56 O) O (BL 1 (vK .u64 (B2 b)) Gg O ?_)))))
  have hhi:a*b/18446744073709551616<18446744073709551616:=Nat.div_lt_of_lt_mul (Nat.mul_lt_mul'' hc0.1 hc0.2)
  refine AC.retell (k:=27) (u:=(vK .u64 b)) O (by rw [Bf hc0.2]) (ck' call147 (US a b Z Z) O (AM O (AK (AX (v:=(vK .u64 (a*b/18446744073709551616))) O O) O (AK (AX (v:=(vK .u64 (a*b%18446744073709551616))) O O) O (AI O (AI O (q3 (sL [2,3,4,5,6] O) (AM O (AK (A7 (c:=(((a*b%18446744073709551616)%4294967296:Nat):Int)) O underlying56 underlying50 Dw) O (AM O (AK (Cj (s:=32) (c:=(((a*b%18446744073709551616)/4294967296:Nat):Int)) O O O (by decide) (Fc (a:=a*b%18446744073709551616) (s:=32))) O ?_)))))))))))
  refine AK (A7 (c:=(((a*b%18446744073709551616)/4294967296:Nat):Int)) O underlying56 underlying50 (Ca Z)) O (AM O (AK (A7 (c:=(((a*b/18446744073709551616)%4294967296:Nat):Int)) O underlying56 underlying50 Dw) O (AM O (AK (Cj (s:=32) (c:=(((a*b/18446744073709551616)/4294967296:Nat):Int)) O O O (by decide) (Fc (a:=a*b/18446744073709551616) (s:=32))) O (AK (A7 (c:=(((a*b/18446744073709551616)/4294967296:Nat):Int)) O underlying56 underlying50 (Ca Z)) O (AC.openV (V:=λb4=>(Value.slice (some ⟨b4,0,none⟩) 4 4)) (T:=50) (cs:=Aq ([(a*b%18446744073709551616)%4294967296,(a*b%18446744073709551616)/4294967296,(a*b/18446744073709551616)%4294967296,(a*b/18446744073709551616)/4294967296])) (AT O) (Ap (cs:=Aq ([(a*b%18446744073709551616)%4294967296,(a*b%18446744073709551616)/4294967296,(a*b/18446744073709551616)%4294967296,(a*b/18446744073709551616)/4294967296])) (pv:=[(0,(vK .u32 ((a*b%18446744073709551616)%4294967296))),(1,(vK .u32 ((a*b%18446744073709551616)/4294967296))),(2,(vK .u32 ((a*b/18446744073709551616)%4294967296))),(3,(vK .u32 ((a*b/18446744073709551616)/4294967296)))]) underlying224 sizeOf50 zeroValue50 (by decide) (by decide) O (by kernel_rfl)) O (AV O) λb4=>Cc call140 (λw hw=>Ic _ 4 4 ([(a*b%18446744073709551616)%4294967296,(a*b%18446744073709551616)/4294967296,(a*b/18446744073709551616)%4294967296,(a*b/18446744073709551616)/4294967296]) (W32.cons Z (W32.cons Z (W32.cons Z (W32.cons Z (W32.nil))))) (by first|omega|(rw [rowN_length];omega)|simp|(simp;omega)) (by first|omega|simp|(simp;omega)) (by first|omega|simp|(simp;omega)) w (hw.get (i:=0) O)) O (AC.retell (k:=42) (u:=(aG (Ae (a*b)))) O (by rw [show ∀x y z t:Nat,[x,y,z,t].take 4=[x,y,z,t] from λ_ _ _ _=>rfl,Yb Z hhi,show a*b%18446744073709551616+a*b/18446744073709551616*18446744073709551616=a*b by omega]) (Ed O sizeOf58 O (AC.nil (OkQ.subF (sL [2,3,4] O) ?_))))))))))
  exact OkQ.then_ (AE.ret (OkQ.then_ret (AS O (BH (i:=1) (cs:=Ae (a*b)) O O isAgg58 sizeOf58 O) (λw hw=>⟨rfl,hw.out⟩))))
 ·simp only [Bool.and_eq_true,Bool.or_eq_true,Bool.and_eq_false_iff,Bool.or_eq_false_iff,Bool.not_eq_true',Bool.not_eq_false',decide_eq_true_eq,decide_eq_false_iff_not] at hc0
  refine AE.skip (q1 (Cu [(0,true),(2,true),(1,false),(3,false),(4,true),(5,true)] sr (Gx 2 Cl O (Gx 1 Cl O (OkE.imp O (AC.callB (V:=λb4=>(Value.slice (some ⟨b4,0,none⟩) (nw a) ((Ax a).length))) (T:=50) (cs:=Aq (Ax a)) (AT O) (Aw (args:=[(aG (Ae a))]) O O call138) (λw hw=>C2 a Z w) O (AV O) λb4=>OkE.back (sl sr) (OkE.imp O (AC.callB (V:=λb5=>(Value.slice (some ⟨b5,0,none⟩) (nw b) ((Ax b).length))) (T:=50) (cs:=Aq (Ax b)) (AT O) (Aw (args:=[(aG (Ae b))]) O O call138) (λw hw=>C2 b Z w) O (AV O) λb5=>OkE.back (sl (sl sr)) (pS' O ?_)))))))))
  refine pS' O (OkE.nil (OkQ.subF (sL [2,3,4,7,8] O) (q2 (AM O (AK (v:=(vN (nw a))) (AF O underlying224) O (AM O (AK (v:=(vN (nw b))) (AF O underlying224) O (AK (AY (c:=(((nw a)+(nw b):Nat):Int)) O O (AU (a:=nw a) (b:=nw b) Z)) O (AC.openV (V:=λb6=>(Value.slice (some ⟨b6,0,none⟩) ((nw a)+(nw b)) ((nw a)+(nw b)))) (T:=50) (cs:=Aq (List.replicate ((nw a)+(nw b)) 0)) (AT O) (C1 (m:=(nw a)+(nw b)) (c:=(nw a)+(nw b)) O O Z Z) O (AV O) λb6=>AI O (q6 (sL [2,3,4,7,8,9] O) ?_))))))))))
  refine q4 (AM O (AK (v:=(vN (nw a))) (AF O underlying224) O (AM O (AC.nil (OkQ.then_ (AE.block ?_))))))
  refine AE.lp2 (tg λ(i:Nat) (os:List Nat)=>i<=nw a/\os.length=nw a+nw b/\W32 os/\val os=val ((AQ a).take i)*b) (tg λ(i:Nat) (os:List Nat)=>[(4,(pP b3 0)),(8,(Value.slice (some ⟨b5,0,none⟩) (nw b) ((Ax b).length))),(9,(Value.slice (some ⟨b6,0,none⟩) ((nw a)+(nw b)) ((nw a)+(nw b)))),(53,(Value.slice (some ⟨b4,0,none⟩) (nw a) ((Ax a).length))),(54,(vN (nw a))),(55,(vN i))]) (tg λ(i:Nat) (os:List Nat)=>[Ah b6 50 (Aq os),Ah b5 50 (Aq (Ax b)),Ah b4 50 (Aq (Ax a)),Ah b3 58 (Ae 0),Ah b2 58 (Ae b),Ah b1 58 (Ae a)]) (tg λ(i:Nat) (os:List Nat)=>nw a-i) 0 (List.replicate (nw a+nw b) 0) (⟨Nat.zero_le _,by simp,W32.zeros _,by rw [Dk];simp [val]⟩) (sF O) sr (λi os hJ=>?_)
  obtain ⟨hi,hl,hw32,hv⟩:=hJ
  refine q4 (AK (Ad (c:=(decide (i<(nw a)))) O O (B7 (a:=i) (b:=nw a))) O (AC.nil (q1 ?_)))
  refine AE.cond O (λhc1=>?_) (λhc1=>?_)
  ·replace hc1:=of_decide_eq_true hc1
   refine AE.skip (q1 (AE.block (q4 (AM O (AK (v:=(pP b4 i)) (AP (j:=i) O O underlying224 sizeOf50 O Z (by simp)) O ?_)))))
   have hx1:(Ax a).getD i 0<4294967296:=W32.getD (CJ a) i
   refine AK (AN (i:=2) (v:=(vK .u32 ((Ax a).getD i 0))) O O isAgg50 (BD (xs:=Ax a) (j:=i) Z)) O (AC.retell (k:=59) (u:=(vK .u32 ((AQ a).getD i 0))) O (by rw [DD hc1]) (AI O (AI O (q3 (sL [4,8,9,53,54,55,10,11] O) (AI O (AC.nil (q1 (q4 (AM O (AK (v:=(vN (nw b))) (AF O underlying224) O (AM O ?_)))))))))))
   refine AC.nil (OkQ.then_ (AE.block ?_))
   refine AE.lp3 (tg λ(k:Nat) (xs:List Nat) (c:Nat)=>k<=nw b/\xs.length=nw a+nw b/\W32 xs/\c<4294967296/\(∀j,i+nw b<=j->xs.getD j 0=0)/\val xs+c*4294967296^(i+k)=val ((AQ a).take i)*b+(AQ a).getD i 0*val ((AQ b).take k)*4294967296^i) (tg λ(k:Nat) (xs:List Nat) (c:Nat)=>[(4,(pP b3 0)),(8,(Value.slice (some ⟨b5,0,none⟩) (nw b) ((Ax b).length))),(9,(Value.slice (some ⟨b6,0,none⟩) ((nw a)+(nw b)) ((nw a)+(nw b)))),(53,(Value.slice (some ⟨b4,0,none⟩) (nw a) ((Ax a).length))),(54,(vN (nw a))),(55,(vN i)),(10,(vN i)),(11,(vK .u32 ((AQ a).getD i 0))),(60,(Value.slice (some ⟨b5,0,none⟩) (nw b) ((Ax b).length))),(61,(vN (nw b))),(62,(vN k)),(12,(vK .u64 c))]) (tg λ(k:Nat) (xs:List Nat) (c:Nat)=>[Ah b6 50 (Aq xs),Ah b5 50 (Aq (Ax b)),Ah b4 50 (Aq (Ax a)),Ah b3 58 (Ae 0),Ah b2 58 (Ae b),Ah b1 58 (Ae a)]) (tg λ(k:Nat) (xs:List Nat) (c:Nat)=>nw b-k) 0 os 0 (⟨Nat.zero_le _,hl,hw32,Z,OY hv,by rw [hv];simp [val]⟩) (sF O) sr (λk xs c hJ=>?_)
   obtain ⟨hk,hl2,hw2,hcc,h02,hv2⟩:=hJ
   refine q4 (AK (Ad (c:=(decide (k<(nw b)))) O O (B7 (a:=k) (b:=nw b))) O (AC.nil (q1 ?_)))
   refine AE.cond O (λhc2=>?_) (λhc2=>?_)
   ·replace hc2:=of_decide_eq_true hc2
    refine AE.skip (q1 (AE.block (q4 (AM O (AK (v:=(pP b5 k)) (AP (j:=k) O O underlying224 sizeOf50 O Z (by simp)) O ?_)))))
    have hx2:(Ax b).getD k 0<4294967296:=W32.getD (CJ b) k
    refine AK (AN (i:=1) (v:=(vK .u32 ((Ax b).getD k 0))) O O isAgg50 (BD (xs:=Ax b) (j:=k) Z)) O (AC.retell (k:=66) (u:=(vK .u32 ((AQ b).getD k 0))) O (by rw [DD hc2]) (AI O (AI O (q3 (sL [4,8,9,53,54,55,10,11,60,61,62,12,13,14] O) (AM O (AM O ?_))))))
    have hwa:=(Bn a).getD i
    have hwb:=(Bn b).getD k
    have hml:=JN hwa hwb
    refine AK (A7 (c:=(((AQ a).getD i 0:Nat):Int)) O underlying50 underlying56 (BT Z)) O (AM O (AK (A7 (c:=(((AQ b).getD k 0:Nat):Int)) O underlying50 underlying56 (BT Z)) O (AK (DU (c:=((((AQ a).getD i 0)*((AQ b).getD k 0):Nat):Int)) O O (EY (a:=(AQ a).getD i 0) (b:=(AQ b).getD k 0) Z)) O (AM O (AM O (AM O (AK (AY (c:=((i+k:Nat):Int)) O O (AU (a:=i) (b:=k) Z)) O (AK (v:=(pP b6 (i+k))) (AP (j:=i+k) O O underlying224 sizeOf50 O Z (by simp)) O ?_))))))))
    have hx3:xs.getD (i+k) 0<4294967296:=W32.getD hw2 (i+k)
    refine AK (AN (i:=0) (v:=(vK .u32 (xs.getD (i+k) 0))) O O isAgg50 (BD (xs:=xs) (j:=(i+k)) Z)) O (AK (A7 (c:=((xs.getD (i+k) 0:Nat):Int)) O underlying50 underlying56 (BT Z)) O (AK (AY (c:=(((((AQ a).getD i 0)*((AQ b).getD k 0))+(xs.getD (i+k) 0):Nat):Int)) O O (C9 (a:=((AQ a).getD i 0)*((AQ b).getD k 0)) (b:=xs.getD (i+k) 0) Z)) O (AK (AY (c:=((c+((((AQ a).getD i 0)*((AQ b).getD k 0))+(xs.getD (i+k) 0)):Nat):Int)) O O (C9 (a:=c) (b:=(((AQ a).getD i 0)*((AQ b).getD k 0))+(xs.getD (i+k) 0)) Z)) O (AI O (q3 (sL [4,8,9,53,54,55,10,11,60,61,62,12,13] O) (AM O (AM O (AM O (AK (AY (c:=((i+k:Nat):Int)) O O (AU (a:=i) (b:=k) Z)) O (AM O (AK (A7 (c:=(((c+((((AQ a).getD i 0)*((AQ b).getD k 0))+(xs.getD (i+k) 0)))%4294967296:Nat):Int)) O underlying56 underlying50 Dw) O ?_)))))))))))
    refine AK (v:=(pP b6 (i+k))) (AP (j:=i+k) O O underlying224 sizeOf50 O Z (by simp)) O (AC.store' (i:=0) (off:=(i+k)) (vs:=[(vK .u32 ((c+((((AQ a).getD i 0)*((AQ b).getD k 0))+(xs.getD (i+k) 0)))%4294967296))]) (cs':=Aq (xs.set (i+k) ((c+((((AQ a).getD i 0)*((AQ b).getD k 0))+(xs.getD (i+k) 0)))%4294967296))) (L':=[Ah b6 50 (Aq (xs.set (i+k) ((c+((((AQ a).getD i 0)*((AQ b).getD k 0))+(xs.getD (i+k) 0)))%4294967296))),Ah b5 50 (Aq (Ax b)),Ah b4 50 (Aq (Ax a)),Ah b3 58 (Ae 0),Ah b2 58 (Ae b),Ah b1 58 (Ae a)]) (AT O) O O O O O sizeOf50 O (CW (BS _) Z) (B9 Z) O (AC.nil (OkQ.subF (sL [4,8,9,53,54,55,10,11,60,61,62,12,13] O) (OkQ.then_ (AE.region (AM O (AK (Cj (s:=32) (c:=(((c+((((AQ a).getD i 0)*((AQ b).getD k 0))+(xs.getD (i+k) 0)))/4294967296:Nat):Int)) O O O (by decide) (Fc (a:=c+((((AQ a).getD i 0)*((AQ b).getD k 0))+(xs.getD (i+k) 0))) (s:=32))) O (AI O (AC.nil (OkQ.subF (sL [4,8,9,53,54,55,10,11,60,61,62,12,13] O) (OkQ.in_normal ?_)))))))))))
    exact OkQ.then_ (AE.region (AK (AY (c:=((k+1:Nat):Int)) O O (AU (a:=k) (b:=1) Z)) O (AM O (AC.nil (OkQ.subF (sL [4,8,9,53,54,55,10,11,60,61,62,12,13] O) (OkQ.round3 (k+1) (xs.set (i+k) ((c+((AQ a).getD i 0*(AQ b).getD k 0+xs.getD (i+k) 0))%4294967296)) ((c+((AQ a).getD i 0*(AQ b).getD k 0+xs.getD (i+k) 0))/4294967296) (⟨Z,by rw [List.length_set];exact hl2,W32.set hw2 Z _,Z,E7 h02 Z,TC hl2 Z hv2⟩) Z (sF O) sr))))))
   ·replace hc2:=of_decide_eq_false hc2
    have hkn:k=nw b:=by omega
    have hbb:val ((AQ b).take k)=b:=C3 Z
    rw [hbb] at hv2
    refine AE.exit (OkQ.then_exit (OkQ.round3_exit (OkQ.in_exit (OkQ.then_ (AE.region (AM O (AM O (AM O (AK (v:=(vN (nw b))) (AF O underlying224) O (AK (AY (c:=((i+(nw b):Nat):Int)) O O (AU (a:=i) (b:=nw b) Z)) O (AM O ?_)))))))))))
    exact AK (A7 (c:=((c:Nat):Int)) O underlying56 underlying50 (Ca Z)) O (AK (v:=(pP b6 (i+(nw b)))) (AP (j:=i+(nw b)) O O underlying224 sizeOf50 O Z (by simp)) O (AC.store' (i:=0) (off:=(i+(nw b))) (vs:=[(vK .u32 c)]) (cs':=Aq (xs.set (i+(nw b)) c)) (L':=[Ah b6 50 (Aq (xs.set (i+(nw b)) c)),Ah b5 50 (Aq (Ax b)),Ah b4 50 (Aq (Ax a)),Ah b3 58 (Ae 0),Ah b2 58 (Ae b),Ah b1 58 (Ae a)]) (AT O) O O O O O sizeOf50 O (CW (BS _) Z) (B9 Z) O (AC.nil (OkQ.subF (sL [4,8,9,53,54,55,10,11,60,61,62,12] O) (OkQ.in_normal (OkQ.then_ (AE.region (AK (AY (c:=((i+1:Nat):Int)) O O (AU (a:=i) (b:=1) Z)) O (AM O (AC.nil (OkQ.subF (sL [4,8,9,53,54,55,10,11,60,61,62,12] O) (OkQ.round2 (i+1) (xs.set (i+nw b) c) (⟨Z,by rw [List.length_set];exact hl2,W32.set hw2 hcc _,by rw [Hi hl2 Z (h02 _ (Nat.le_refl _)),<-V7,<-hv2,<-hkn]⟩) Z (sF O) sr))))))))))))
  ·replace hc1:=of_decide_eq_false hc1
   refine AE.exit (OkQ.then_exit (OkQ.round2_exit (OkQ.in_exit (q2 (AM O (Cc call140 (λw hw=>Ic _ ((nw a)+(nw b)) ((nw a)+(nw b)) os hw32 (by first|omega|(rw [rowN_length];omega)|simp|(simp;omega)) (by first|omega|simp|(simp;omega)) (by first|omega|simp|(simp;omega)) w (hw.get (i:=0) O)) O (AC.retell (k:=102) (u:=(aG (Ae (a*b)))) O (by rw [List.take_of_length_le (show os.length<=nw a+nw b by omega),hv,C3 Z]) (N8 O sizeOf58 O (AC.nil (OkQ.subF (sL [4,8,9,53,54,55] O) (OkQ.then_ ?_)))))))))))
   exact AE.ret (AS O (BH (i:=3) (cs:=Ae (a*b)) O O isAgg58 sizeOf58 O) (λw hw=>⟨rfl,hw.out⟩))
end
end Go.Proofs.YtpgncndhhhllfaaGreat
