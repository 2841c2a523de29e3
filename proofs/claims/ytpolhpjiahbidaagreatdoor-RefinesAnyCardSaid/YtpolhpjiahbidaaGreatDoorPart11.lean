import Derived.Test.YtpolhpjiahbidaaGreatDoorPart05
import Derived.Test.YtpolhpjiahbidaaGreatDoorPart10
namespace Go.Proofs.YtpolhpjiahbidaaGreatDoor
open Go Go.RowKit Go.Proofs.Tryz
set_option linter.unusedVariables false
set_option linter.unusedSimpArgs false
section
set_option maxRecDepth 100000
theorem K1  :Instr.fill ([(0,1),(1,1)].toArray[·]?) (AS 0).toArray []=some (AS 0).toArray:=by kernel_rfl
theorem OO (a b:Nat) (ha:nw a<=1099511627776) (hb:nw b<=1099511627776) (w:World)  :Calls prog 204 #[(aG (AS a)),(aG (AS b))] w (Ah w (Value.tuple #[(aG (AS (a-b))),(Value.bool (decide (b<=a)))])):=by
 have hla:=B5 a
 have hlb:=B5 b
 have hpa:=WX a
 refine Ab (args:=[(aG (AS a)),(aG (AS b))]) func204 O O (AI O) (OkC.subF (sL [0,1] O) (q4 (Be (cs:=AS a) O λb1=>Be (cs:=AS b) O λb2=>al Fi O λb3=>asg' O (q6 (sL [2,3,4,5] O) (q4 (BH 2 By O (BH 1 By O (ck' call242 (S2 a b Z Z) O ?_))))))))
 refine AH (Ae (c:=(decide ((Cu a b)<(0:Int)))) O O O) O (OkL.nil (OkQ.subF (sL [2,3,4,5,14] O) (OkQ.then_ ?_)))
 refine OkC.cond O (λhc0=>?_) (λhc0=>?_)
 ·replace hc0:=of_decide_eq_true hc0
  rw [E8] at hc0
  exact q4 (AH (v:=(aG (AS 0))) (AQ (zs:=AS 0) (vs:=AS 0) (pv:=[]) (places:=[(0,1),(1,1)]) zeroValue71 underlying71 (λw=>by simp [sizeOf9,sizeOf69]) O (K1 )) O (OkL.retell (k:=15) (u:=(aG (AS (a-b)))) O (by rw [show a-b=0 by omega]) (Ax O sizeOf71 O (asg' O (OkL.nil (OkQ.subF (sL [2,3,4,5] O) (OkQ.then_ (OkC.ret (OkQ.then_ret (C_ O (Ak (i:=0) (cs:=AS (a-b)) O O isAgg71 sizeOf71 O) (rd_tmp (v:=(Value.bool false)) O) (λw hw=>⟨by rw [decide_eq_false (show ¬b<=a by omega)],hw.out⟩)))))))))))
 ·replace hc0:=of_decide_eq_false hc0
  rw [E8] at hc0
  have hnb:nw b<=nw a:=Ck Z
  refine OkC.skip (q1 (q4 (AH (v:=(pP b1 1)) (AA O underlying71 O sizeOf9 O) O (Au 2 (Value.string (Bc a)) SB O (AH (Bg (c:=(decide (a<18446744073709551616))) O O CJ) O (OkL.nil (OkQ.subF (sL [2,3,4,5,18] O) (OkQ.then_ ?_))))))))
  refine OkC.cond O (λhc1=>?_) (λhc1=>?_)
  ·replace hc1:=of_decide_eq_true hc1
   refine q4 (AH (v:=(pP b1 0)) (AA O underlying71 O sizeOf69 O) O (Au 2 (vK .u64 (Bo a)) GZ O (OkL.retell (k:=20) (u:=(vK .u64 a)) O (by rw [BZ hc1]) (AH (v:=(pP b2 0)) (AA O underlying71 O sizeOf69 O) O (Au 1 (vK .u64 (Bo b)) GZ O (OkL.retell (k:=22) (u:=(vK .u64 b)) O (by rw [BZ Z]) (AH (BI (c:=((a-b:Nat):Int)) O O (HV (a:=a) (b:=b) Z Z)) O (AH (v:=(aG ([(vK .u64 (a-b)),(Value.string (Bc 0))]))) (AQ (zs:=AS 0) (vs:=[(vK .u64 (a-b)),(Value.string (Bc 0))]) (pv:=[(0,(vK .u64 (a-b)))]) (places:=[(0,1),(1,1)]) zeroValue71 underlying71 (λw=>by simp [sizeOf9,sizeOf69]) O O) O (OkL.retell (k:=24) (u:=(aG (AS (a-b)))) O (by rw [DU Z];rfl) (Ax O sizeOf71 O (asg' O ?_)))))))))))
   exact OkL.nil (OkQ.subF (sL [2,3,4,5] O) (OkQ.then_ (OkC.ret (OkQ.then_ret (C_ O (Ak (i:=0) (cs:=AS (a-b)) O O isAgg71 sizeOf71 O) (rd_tmp (v:=(Value.bool true)) O) (λw hw=>⟨by rw [decide_eq_true (show b<=a by omega)],hw.out⟩))))))
  ·replace hc1:=of_decide_eq_false hc1
   have hpad:Aq a=AN a:=if_neg hc1
   refine OkC.skip (q1 (Cd [(0,true),(2,true),(1,false),(3,false),(4,true),(5,true)] sr (Ev 2 By O (Ev 1 By O (OkE.imp O (OkL.callB (V:=λb4=>(Value.slice (some ⟨b4,0,none⟩) (nw a) ((Aq a).length))) (T:=92) (cs:=Ag (Aq a)) (AP O) (Ap (args:=[(aG (AS a))]) O O call187) (λw hw=>C6 a Z w) O (AI O) λb4=>OkE.back (sl sr) (OkE.imp O (OkL.callB (V:=λb5=>(Value.slice (some ⟨b5,0,none⟩) (nw b) ((Aq b).length))) (T:=92) (cs:=Ag (Aq b)) (AP O) (Ap (args:=[(aG (AS b))]) O O call187) (λw hw=>C6 b Z w) O (AI O) λb5=>OkE.back (sl (sl sr)) (pS' O ?_)))))))))
   refine pS' O (OkE.nil (OkQ.subF (sL [2,3,4,5,6,7] O) (q2 (asg' O (OkL.nil (q1 (q4 (AM O (AH (v:=(vN (nw a))) (AD O underlying255) O (AM O (OkL.nil ?_)))))))))))
   refine OkQ.subF (sL [2,3,4,5,6,7,8,30,31] O) (OkQ.then_ (OkC.block ?_))
   refine OkC.lp3 (tg λ(i:Nat) (os:List Nat) (c:Nat)=>i<=nw a/\os.length=nw a/\W32 os/\c<=1/\val os+val ((AN b).take i)=a+c*4294967296^i) (tg λ(i:Nat) (os:List Nat) (c:Nat)=>[(4,(pP b3 0)),(5,(Value.bool false)),(6,(Value.slice (some ⟨b4,0,none⟩) (nw a) ((Aq a).length))),(7,(Value.slice (some ⟨b5,0,none⟩) (nw b) ((Aq b).length))),(30,(vN (nw a))),(31,(vN i)),(8,(vK .u32 c))]) (tg λ(i:Nat) (os:List Nat) (c:Nat)=>[AU b5 92 (Ag (Aq b)),AU b4 92 (Ag os),AU b3 71 (AS 0),AU b2 71 (AS b),AU b1 71 (AS a)]) (tg λ(i:Nat) (os:List Nat) (c:Nat)=>nw a-i) 0 (Aq a) 0 (⟨Nat.zero_le _,by rw [hpad];rfl,B8 a,Z,by rw [QH];simp [val]⟩) (sF O) sr (λi os c hJ=>?_)
   obtain ⟨hi,hl,hw32,hcc,hv⟩:=hJ
   refine q4 (AH (Ae (c:=(decide (i<(nw a)))) O O (CB (a:=i) (b:=nw a))) O (OkL.nil (q1 ?_)))
   refine OkC.cond O (λhc2=>?_) (λhc2=>?_)
   ·replace hc2:=of_decide_eq_true hc2
    refine OkC.skip (q1 (OkC.block (q4 (AM O (asg' O (q3 (sL [4,5,6,7,30,31,8,9] O) (asg' O (OkL.nil (q1 (q4 (AM O ?_)))))))))))
    refine AM O (AH (v:=(vN (nw b))) (AD O underlying255) O (AH (Ae (c:=(decide (i<(nw b)))) O O (CB (a:=i) (b:=nw b))) O (OkL.nil (OkQ.subF (sL [4,5,6,7,30,31,8,9,10,37] O) (OkQ.then_ ?_)))))
    refine OkC.jn0 (tg True) (tg [(4,(pP b3 0)),(5,(Value.bool false)),(6,(Value.slice (some ⟨b4,0,none⟩) (nw a) ((Aq a).length))),(7,(Value.slice (some ⟨b5,0,none⟩) (nw b) ((Aq b).length))),(30,(vN (nw a))),(31,(vN i)),(8,(vK .u32 c)),(9,(vN i)),(10,(vK .u32 ((AN b).getD i 0)))]) (tg [AU b5 92 (Ag (Aq b)),AU b4 92 (Ag os),AU b3 71 (AS 0),AU b2 71 (AS b),AU b1 71 (AS a)]) ?_ ?_
    ·skip
     refine OkC.cond O (λhc3=>?_) (λhc3=>?_)
     ·replace hc3:=of_decide_eq_true hc3
      refine OkC.region (AM O (AM O (AH (v:=(pP b5 i)) (AK (j:=i) O O underlying255 sizeOf92 O Z (by simp)) O ?_)))
      have hx1:(Aq b).getD i 0<4294967296:=W32.getD (B8 b) i
      exact AH (AF (i:=0) (v:=(vK .u32 ((Aq b).getD i 0))) O O isAgg92 (A8 (xs:=Aq b) (j:=i) Z)) O (OkL.retell (k:=41) (u:=(vK .u32 ((AN b).getD i 0))) O (by rw [DJ hc3]) (asg' O (OkL.nil (OkQ.subF (sL [4,5,6,7,30,31,8,9,10] O) (OkQ.join0  (trivial) (sF O) sr)))))
     ·replace hc3:=of_decide_eq_false hc3
      exact OkC.skip (OkQ.retell (k:=10) (u:=Value.int .u32 (((AN b).getD i 0:Nat):Int)) O (by rw [EO hc3];rfl) (OkQ.join0  (trivial) (sF O) sr))
    ·intro hJ
     refine OkQ.then_ (OkC.region (AM O (AM O (AM O (AM O (AH (v:=(pP b4 i)) (AK (j:=i) O O underlying255 sizeOf92 O Z (by simp)) O ?_))))))
     have hx2:os.getD i 0<4294967296:=W32.getD hw32 i
     refine AH (AF (i:=1) (v:=(vK .u32 (os.getD i 0))) O O isAgg92 (A8 (xs:=os) (j:=i) Z)) O (AM O (AM O ?_))
     have hyb:=(Bi b).getD i
     refine ck' call244 (Jm (os.getD i 0) ((AN b).getD i 0) c _ Z Z Z O) O (AM O (AH (AV (v:=(vK .u32 (((os.getD i 0)+(4294967296-((AN b).getD i 0))+(4294967296-c))%4294967296))) O O) O (AH (AV (v:=(vK .u32 (Im (os.getD i 0) (((AN b).getD i 0)+c)))) O O) O (AH (v:=(pP b4 i)) (AK (j:=i) O O underlying255 sizeOf92 O Z (by simp)) O (OkL.store' (i:=1) (off:=i) (vs:=[(vK .u32 (((os.getD i 0)+(4294967296-((AN b).getD i 0))+(4294967296-c))%4294967296))]) (cs':=Ag (os.set i (((os.getD i 0)+(4294967296-((AN b).getD i 0))+(4294967296-c))%4294967296))) (L':=[AU b5 92 (Ag (Aq b)),AU b4 92 (Ag (os.set i (((os.getD i 0)+(4294967296-((AN b).getD i 0))+(4294967296-c))%4294967296))),AU b3 71 (AS 0),AU b2 71 (AS b),AU b1 71 (AS a)]) (AP O) O O O O O sizeOf92 O (CR (BJ _) Z) (B2 Z) O (asg' O (OkL.nil (OkQ.subF (sL [4,5,6,7,30,31,8,9,10] O) (OkQ.in_normal (OkQ.then_ (OkC.region ?_)))))))))))
     exact AH (AX (c:=((i+1:Nat):Int)) O O (AR (a:=i) (b:=1) Z)) O (AM O (OkL.nil (OkQ.subF (sL [4,5,6,7,30,31,8,9,10] O) (OkQ.round3 (i+1) (os.set i ((os.getD i 0+(4294967296-(AN b).getD i 0)+(4294967296-c))%4294967296)) (Im (os.getD i 0) ((AN b).getD i 0+c)) (⟨Z,by rw [List.length_set];exact hl,W32.set hw32 Z i,Ox _ _,Ss hl hc2 hw32 (Bi b) hcc hv⟩) Z (sF O) sr))))
   ·replace hc2:=of_decide_eq_false hc2
    refine OkC.exit (OkQ.then_exit (OkQ.round3_exit (OkQ.in_exit (q2 (AM O (Ce call206 (λw hw=>IY _ (nw a) ((Aq a).length) os hw32 (by first|omega|(rw [rowN_length];omega)|simp|(simp;omega)) (by first|omega|simp|(simp;omega)) (by first|omega|simp|(simp;omega)) w (hw.get (i:=1) O)) O (OkL.retell (k:=57) (u:=(aG (AS (a-b)))) O (by rw [List.take_of_length_le (show os.length<=nw a by omega),SD (X:=a) (Y:=b) (n:=nw a) (c:=c) (i:=i) hl hw32 Z Z (by rw [<-hv,C7 Z]) (Bh a)]) (G1 O sizeOf71 O (asg' O (OkL.nil (OkQ.subF (sL [4,5,6,7,30,31,8] O) ?_)))))))))))
    exact OkQ.then_ (OkC.ret (C_ O (Ak (i:=2) (cs:=AS (a-b)) O O isAgg71 sizeOf71 O) (rd_tmp (v:=(Value.bool true)) O) (λw hw=>⟨by rw [decide_eq_true (show b<=a by omega)],hw.out⟩)))
theorem PO (a b:Nat) (ha:nw a<=1099511627776) (hb:nw b<=1099511627776) (w:World)  :Calls prog 153 #[(aG (AS a)),(aG (AS b))] w (Ah w (aG (AS (a*b)))):=by
 have hla:=B5 a
 have hlb:=B5 b
 refine Ab (args:=[(aG (AS a)),(aG (AS b))]) func153 O O (AI O) (OkC.subF (sL [0,1] O) (q4 (Be (cs:=AS a) O λb1=>Be (cs:=AS b) O λb2=>al Fi O λb3=>q6 (sL [2,3,4] O) (q4 (AH (v:=(pP b1 1)) (AA O underlying71 O sizeOf9 O) O (Au 2 (Value.string (Bc a)) SB O (AH (Bg (c:=(decide (a<18446744073709551616))) O O CJ) O (AM O ?_))))))))
 refine OkL.mid (FM:=[(2,(pP b1 0)),(3,(pP b2 0)),(4,(pP b3 0)),(15,(pP b1 1)),(16,(Value.string (Bc a))),(17,(Value.bool (decide (a<18446744073709551616)))),(18,(Value.bool (decide (a<18446744073709551616)))),(22,(Value.bool ((decide (a<18446744073709551616))&&(decide (b<18446744073709551616)))))]) (LM:=[AU b3 71 (AS 0),AU b2 71 (AS b),AU b1 71 (AS a)]) 4 ?_ ?_
 ·rcases Bool.eq_false_or_eq_true (decide (a<18446744073709551616)) with hg1|hg1
  ·skip
   refine OkL.retell (k:=18) (u:=Value.bool true) O (by rw [hg1]) ?_
   have hg1':=hg1
   replace hg1':=of_decide_eq_true hg1'
   exact OkL.step (v:=(pP b2 1)) (AB O) (AA O underlying71 O sizeOf9 O) O (AI O) (OkL.step (v:=(Value.string (Bc b))) (AB O) (AF (i:=1) (v:=(Value.string (Bc b))) O O SB.a O) O (AI O) (OkL.step (v:=(Value.bool (decide (b<18446744073709551616)))) (AB O) (Bg (c:=(decide (b<18446744073709551616))) O O CJ) O (AI O) (AH (v:=(Value.bool (decide (b<18446744073709551616)))) (AO O O) O (OkL.nil (OkQ.mid (sS O (sS O (sS O (sS O (sS O (sS O (sS (by first|rfl|(rw [hg1];rfl)|rw [hg1]) (sS (by first|rfl|(rw [hg1];rfl)|rw [hg1]) (sN))))))))) (List.Sublist.refl _))))))
  ·skip
   refine OkL.retell (k:=18) (u:=Value.bool false) O (by rw [hg1]) ?_
   have hg1':=hg1
   replace hg1':=of_decide_eq_false hg1'
   exact OkL.skip (AC O) O (AI O) (OkL.skip (AC O) O (AI O) (OkL.skip (AC O) O (AI O) (AH (v:=(Value.bool false)) (AJ O O) O (OkL.nil (OkQ.mid (sS O (sS O (sS O (sS O (sS O (sS O (sS (by first|rfl|(rw [hg1];rfl)|rw [hg1]) (sS (by first|rfl|(rw [hg1];rfl)|rw [hg1]) (sN))))))))) (List.Sublist.refl _))))))
 refine OkL.nil (OkQ.subF (sL [2,3,4,22] O) (OkQ.then_ ?_))
 refine OkC.cond O (λhc0=>?_) (λhc0=>?_)
 ·simp only [Bool.and_eq_true,Bool.or_eq_true,Bool.and_eq_false_iff,Bool.or_eq_false_iff,Bool.not_eq_true',Bool.not_eq_false',decide_eq_true_eq,decide_eq_false_iff_not] at hc0
  refine q4 (AH (v:=(pP b1 0)) (AA O underlying71 O sizeOf69 O) O (Au 2 (vK .u64 (Bo a)) GZ O (OkL.retell (k:=25) (u:=(vK .u64 a)) O (by rw [BZ hc0.1]) (AH (v:=(pP b2 0)) (AA O underlying71 O sizeOf69 O) O (Au 1 (vK .u64 (Bo b)) GZ O ?_)))))
  have hhi:a*b/18446744073709551616<18446744073709551616:=Nat.div_lt_of_lt_mul (Nat.mul_lt_mul'' hc0.1 hc0.2)
  refine OkL.retell (k:=27) (u:=(vK .u64 b)) O (by rw [BZ hc0.2]) (ck' call205 (Uh a b Z Z) O (AM O (AH (AV (v:=(vK .u64 (a*b/18446744073709551616))) O O) O (AH (AV (v:=(vK .u64 (a*b%18446744073709551616))) O O) O (asg' O (asg' O (q3 (sL [2,3,4,5,6] O) (AM O (AH (Aw (c:=(((a*b%18446744073709551616)%4294967296:Nat):Int)) O underlying69 underlying92 D_) O (AM O (AH (Cg (s:=32) (c:=(((a*b%18446744073709551616)/4294967296:Nat):Int)) O O O (by decide) (Fy (a:=a*b%18446744073709551616) (s:=32))) O ?_)))))))))))
  refine AH (Aw (c:=(((a*b%18446744073709551616)/4294967296:Nat):Int)) O underlying69 underlying92 (CV Z)) O (AM O (AH (Aw (c:=(((a*b/18446744073709551616)%4294967296:Nat):Int)) O underlying69 underlying92 D_) O (AM O (AH (Cg (s:=32) (c:=(((a*b/18446744073709551616)/4294967296:Nat):Int)) O O O (by decide) (Fy (a:=a*b/18446744073709551616) (s:=32))) O (AH (Aw (c:=(((a*b/18446744073709551616)/4294967296:Nat):Int)) O underlying69 underlying92 (CV Z)) O (OkL.openV (V:=λb4=>(Value.slice (some ⟨b4,0,none⟩) 4 4)) (T:=92) (cs:=Ag ([(a*b%18446744073709551616)%4294967296,(a*b%18446744073709551616)/4294967296,(a*b/18446744073709551616)%4294967296,(a*b/18446744073709551616)/4294967296])) (AP O) (Ao (cs:=Ag ([(a*b%18446744073709551616)%4294967296,(a*b%18446744073709551616)/4294967296,(a*b/18446744073709551616)%4294967296,(a*b/18446744073709551616)/4294967296])) (pv:=[(0,(vK .u32 ((a*b%18446744073709551616)%4294967296))),(1,(vK .u32 ((a*b%18446744073709551616)/4294967296))),(2,(vK .u32 ((a*b/18446744073709551616)%4294967296))),(3,(vK .u32 ((a*b/18446744073709551616)/4294967296)))]) underlying255 sizeOf92 zeroValue92 (by decide) (by decide) O (by kernel_rfl)) O (AI O) λb4=>Ce call206 (λw hw=>IY _ 4 4 ([(a*b%18446744073709551616)%4294967296,(a*b%18446744073709551616)/4294967296,(a*b/18446744073709551616)%4294967296,(a*b/18446744073709551616)/4294967296]) (W32.cons Z (W32.cons Z (W32.cons Z (W32.cons Z (W32.nil))))) (by first|omega|(rw [rowN_length];omega)|simp|(simp;omega)) (by first|omega|simp|(simp;omega)) (by first|omega|simp|(simp;omega)) w (hw.get (i:=0) O)) O (OkL.retell (k:=42) (u:=(aG (AS (a*b)))) O (by rw [show ∀x y z t:Nat,[x,y,z,t].take 4=[x,y,z,t] from λ_ _ _ _=>rfl,X7 Z hhi,show a*b%18446744073709551616+a*b/18446744073709551616*18446744073709551616=a*b by omega]) (EG O sizeOf71 O (OkL.nil (OkQ.subF (sL [2,3,4] O) ?_))))))))))
  exact OkQ.then_ (OkC.ret (OkQ.then_ret (ret_one O (Ak (i:=1) (cs:=AS (a*b)) O O isAgg71 sizeOf71 O) (λw hw=>⟨rfl,hw.out⟩))))
 ·simp only [Bool.and_eq_true,Bool.or_eq_true,Bool.and_eq_false_iff,Bool.or_eq_false_iff,Bool.not_eq_true',Bool.not_eq_false',decide_eq_true_eq,decide_eq_false_iff_not] at hc0
  refine OkC.skip (q1 (Cd [(0,true),(2,true),(1,false),(3,false),(4,true),(5,true)] sr (Ev 2 By O (Ev 1 By O (OkE.imp O (OkL.callB (V:=λb4=>(Value.slice (some ⟨b4,0,none⟩) (nw a) ((Aq a).length))) (T:=92) (cs:=Ag (Aq a)) (AP O) (Ap (args:=[(aG (AS a))]) O O call187) (λw hw=>C6 a Z w) O (AI O) λb4=>OkE.back (sl sr) (OkE.imp O (OkL.callB (V:=λb5=>(Value.slice (some ⟨b5,0,none⟩) (nw b) ((Aq b).length))) (T:=92) (cs:=Ag (Aq b)) (AP O) (Ap (args:=[(aG (AS b))]) O O call187) (λw hw=>C6 b Z w) O (AI O) λb5=>OkE.back (sl (sl sr)) (pS' O ?_)))))))))
  refine pS' O (OkE.nil (OkQ.subF (sL [2,3,4,7,8] O) (q2 (AM O (AH (v:=(vN (nw a))) (AD O underlying255) O (AM O (AH (v:=(vN (nw b))) (AD O underlying255) O (AH (AX (c:=(((nw a)+(nw b):Nat):Int)) O O (AR (a:=nw a) (b:=nw b) Z)) O (OkL.openV (V:=λb6=>(Value.slice (some ⟨b6,0,none⟩) ((nw a)+(nw b)) ((nw a)+(nw b)))) (T:=92) (cs:=Ag (List.replicate ((nw a)+(nw b)) 0)) (AP O) (C2 (m:=(nw a)+(nw b)) (c:=(nw a)+(nw b)) O O Z Z) O (AI O) λb6=>asg' O (q6 (sL [2,3,4,7,8,9] O) ?_))))))))))
  refine q4 (AM O (AH (v:=(vN (nw a))) (AD O underlying255) O (AM O (OkL.nil (OkQ.then_ (OkC.block ?_))))))
  refine OkC.lp2 (tg λ(i:Nat) (os:List Nat)=>i<=nw a/\os.length=nw a+nw b/\W32 os/\val os=val ((AN a).take i)*b) (tg λ(i:Nat) (os:List Nat)=>[(4,(pP b3 0)),(8,(Value.slice (some ⟨b5,0,none⟩) (nw b) ((Aq b).length))),(9,(Value.slice (some ⟨b6,0,none⟩) ((nw a)+(nw b)) ((nw a)+(nw b)))),(53,(Value.slice (some ⟨b4,0,none⟩) (nw a) ((Aq a).length))),(54,(vN (nw a))),(55,(vN i))]) (tg λ(i:Nat) (os:List Nat)=>[AU b6 92 (Ag os),AU b5 92 (Ag (Aq b)),AU b4 92 (Ag (Aq a)),AU b3 71 (AS 0),AU b2 71 (AS b),AU b1 71 (AS a)]) (tg λ(i:Nat) (os:List Nat)=>nw a-i) 0 (List.replicate (nw a+nw b) 0) (⟨Nat.zero_le _,by simp,W32.zeros _,by rw [Dw];simp [val]⟩) (sF O) sr (λi os hJ=>?_)
  obtain ⟨hi,hl,hw32,hv⟩:=hJ
  refine q4 (AH (Ae (c:=(decide (i<(nw a)))) O O (CB (a:=i) (b:=nw a))) O (OkL.nil (q1 ?_)))
  refine OkC.cond O (λhc1=>?_) (λhc1=>?_)
  ·replace hc1:=of_decide_eq_true hc1
   refine OkC.skip (q1 (OkC.block (q4 (AM O (AH (v:=(pP b4 i)) (AK (j:=i) O O underlying255 sizeOf92 O Z (by simp)) O ?_)))))
   have hx1:(Aq a).getD i 0<4294967296:=W32.getD (B8 a) i
   refine AH (AF (i:=2) (v:=(vK .u32 ((Aq a).getD i 0))) O O isAgg92 (A8 (xs:=Aq a) (j:=i) Z)) O (OkL.retell (k:=59) (u:=(vK .u32 ((AN a).getD i 0))) O (by rw [DJ hc1]) (asg' O (asg' O (q3 (sL [4,8,9,53,54,55,10,11] O) (asg' O (OkL.nil (q1 (q4 (AM O (AH (v:=(vN (nw b))) (AD O underlying255) O (AM O ?_)))))))))))
   refine OkL.nil (OkQ.then_ (OkC.block ?_))
   refine OkC.lp3 (tg λ(k:Nat) (xs:List Nat) (c:Nat)=>k<=nw b/\xs.length=nw a+nw b/\W32 xs/\c<4294967296/\(∀j,i+nw b<=j->xs.getD j 0=0)/\val xs+c*4294967296^(i+k)=val ((AN a).take i)*b+(AN a).getD i 0*val ((AN b).take k)*4294967296^i) (tg λ(k:Nat) (xs:List Nat) (c:Nat)=>[(4,(pP b3 0)),(8,(Value.slice (some ⟨b5,0,none⟩) (nw b) ((Aq b).length))),(9,(Value.slice (some ⟨b6,0,none⟩) ((nw a)+(nw b)) ((nw a)+(nw b)))),(53,(Value.slice (some ⟨b4,0,none⟩) (nw a) ((Aq a).length))),(54,(vN (nw a))),(55,(vN i)),(10,(vN i)),(11,(vK .u32 ((AN a).getD i 0))),(60,(Value.slice (some ⟨b5,0,none⟩) (nw b) ((Aq b).length))),(61,(vN (nw b))),(62,(vN k)),(12,(vK .u64 c))]) (tg λ(k:Nat) (xs:List Nat) (c:Nat)=>[AU b6 92 (Ag xs),AU b5 92 (Ag (Aq b)),AU b4 92 (Ag (Aq a)),AU b3 71 (AS 0),AU b2 71 (AS b),AU b1 71 (AS a)]) (tg λ(k:Nat) (xs:List Nat) (c:Nat)=>nw b-k) 0 os 0 (⟨Nat.zero_le _,hl,hw32,Z,Oq hv,by rw [hv];simp [val]⟩) (sF O) sr (λk xs c hJ=>?_)
   obtain ⟨hk,hl2,hw2,hcc,h02,hv2⟩:=hJ
   refine q4 (AH (Ae (c:=(decide (k<(nw b)))) O O (CB (a:=k) (b:=nw b))) O (OkL.nil (q1 ?_)))
   refine OkC.cond O (λhc2=>?_) (λhc2=>?_)
   ·replace hc2:=of_decide_eq_true hc2
    refine OkC.skip (q1 (OkC.block (q4 (AM O (AH (v:=(pP b5 k)) (AK (j:=k) O O underlying255 sizeOf92 O Z (by simp)) O ?_)))))
    have hx2:(Aq b).getD k 0<4294967296:=W32.getD (B8 b) k
    refine AH (AF (i:=1) (v:=(vK .u32 ((Aq b).getD k 0))) O O isAgg92 (A8 (xs:=Aq b) (j:=k) Z)) O (OkL.retell (k:=66) (u:=(vK .u32 ((AN b).getD k 0))) O (by rw [DJ hc2]) (asg' O (asg' O (q3 (sL [4,8,9,53,54,55,10,11,60,61,62,12,13,14] O) (AM O (AM O ?_))))))
    have hwa:=(Bi a).getD i
    have hwb:=(Bi b).getD k
    have hml:=KQ hwa hwb
    refine AH (Aw (c:=(((AN a).getD i 0:Nat):Int)) O underlying92 underlying69 (BK Z)) O (AM O (AH (Aw (c:=(((AN b).getD k 0:Nat):Int)) O underlying92 underlying69 (BK Z)) O (AH (CN (c:=((((AN a).getD i 0)*((AN b).getD k 0):Nat):Int)) O O (Et (a:=(AN a).getD i 0) (b:=(AN b).getD k 0) Z)) O (AM O (AM O (AM O (AH (AX (c:=((i+k:Nat):Int)) O O (AR (a:=i) (b:=k) Z)) O (AH (v:=(pP b6 (i+k))) (AK (j:=i+k) O O underlying255 sizeOf92 O Z (by simp)) O ?_))))))))
    have hx3:xs.getD (i+k) 0<4294967296:=W32.getD hw2 (i+k)
    refine AH (AF (i:=0) (v:=(vK .u32 (xs.getD (i+k) 0))) O O isAgg92 (A8 (xs:=xs) (j:=(i+k)) Z)) O (AH (Aw (c:=((xs.getD (i+k) 0:Nat):Int)) O underlying92 underlying69 (BK Z)) O (AH (AX (c:=(((((AN a).getD i 0)*((AN b).getD k 0))+(xs.getD (i+k) 0):Nat):Int)) O O (DF (a:=((AN a).getD i 0)*((AN b).getD k 0)) (b:=xs.getD (i+k) 0) Z)) O (AH (AX (c:=((c+((((AN a).getD i 0)*((AN b).getD k 0))+(xs.getD (i+k) 0)):Nat):Int)) O O (DF (a:=c) (b:=(((AN a).getD i 0)*((AN b).getD k 0))+(xs.getD (i+k) 0)) Z)) O (asg' O (q3 (sL [4,8,9,53,54,55,10,11,60,61,62,12,13] O) (AM O (AM O (AM O (AH (AX (c:=((i+k:Nat):Int)) O O (AR (a:=i) (b:=k) Z)) O (AM O (AH (Aw (c:=(((c+((((AN a).getD i 0)*((AN b).getD k 0))+(xs.getD (i+k) 0)))%4294967296:Nat):Int)) O underlying69 underlying92 D_) O ?_)))))))))))
    refine AH (v:=(pP b6 (i+k))) (AK (j:=i+k) O O underlying255 sizeOf92 O Z (by simp)) O (OkL.store' (i:=0) (off:=(i+k)) (vs:=[(vK .u32 ((c+((((AN a).getD i 0)*((AN b).getD k 0))+(xs.getD (i+k) 0)))%4294967296))]) (cs':=Ag (xs.set (i+k) ((c+((((AN a).getD i 0)*((AN b).getD k 0))+(xs.getD (i+k) 0)))%4294967296))) (L':=[AU b6 92 (Ag (xs.set (i+k) ((c+((((AN a).getD i 0)*((AN b).getD k 0))+(xs.getD (i+k) 0)))%4294967296))),AU b5 92 (Ag (Aq b)),AU b4 92 (Ag (Aq a)),AU b3 71 (AS 0),AU b2 71 (AS b),AU b1 71 (AS a)]) (AP O) O O O O O sizeOf92 O (CR (BJ _) Z) (B2 Z) O (OkL.nil (OkQ.subF (sL [4,8,9,53,54,55,10,11,60,61,62,12,13] O) (OkQ.then_ (OkC.region (AM O (AH (Cg (s:=32) (c:=(((c+((((AN a).getD i 0)*((AN b).getD k 0))+(xs.getD (i+k) 0)))/4294967296:Nat):Int)) O O O (by decide) (Fy (a:=c+((((AN a).getD i 0)*((AN b).getD k 0))+(xs.getD (i+k) 0))) (s:=32))) O (asg' O (OkL.nil (OkQ.subF (sL [4,8,9,53,54,55,10,11,60,61,62,12,13] O) (OkQ.in_normal ?_)))))))))))
    exact OkQ.then_ (OkC.region (AH (AX (c:=((k+1:Nat):Int)) O O (AR (a:=k) (b:=1) Z)) O (AM O (OkL.nil (OkQ.subF (sL [4,8,9,53,54,55,10,11,60,61,62,12,13] O) (OkQ.round3 (k+1) (xs.set (i+k) ((c+((AN a).getD i 0*(AN b).getD k 0+xs.getD (i+k) 0))%4294967296)) ((c+((AN a).getD i 0*(AN b).getD k 0+xs.getD (i+k) 0))/4294967296) (⟨Z,by rw [List.length_set];exact hl2,W32.set hw2 Z _,Z,FS h02 Z,Sk hl2 Z hv2⟩) Z (sF O) sr))))))
   ·replace hc2:=of_decide_eq_false hc2
    have hkn:k=nw b:=by omega
    have hbb:val ((AN b).take k)=b:=C7 Z
    rw [hbb] at hv2
    refine OkC.exit (OkQ.then_exit (OkQ.round3_exit (OkQ.in_exit (OkQ.then_ (OkC.region (AM O (AM O (AM O (AH (v:=(vN (nw b))) (AD O underlying255) O (AH (AX (c:=((i+(nw b):Nat):Int)) O O (AR (a:=i) (b:=nw b) Z)) O (AM O ?_)))))))))))
    exact AH (Aw (c:=((c:Nat):Int)) O underlying69 underlying92 (CV Z)) O (AH (v:=(pP b6 (i+(nw b)))) (AK (j:=i+(nw b)) O O underlying255 sizeOf92 O Z (by simp)) O (OkL.store' (i:=0) (off:=(i+(nw b))) (vs:=[(vK .u32 c)]) (cs':=Ag (xs.set (i+(nw b)) c)) (L':=[AU b6 92 (Ag (xs.set (i+(nw b)) c)),AU b5 92 (Ag (Aq b)),AU b4 92 (Ag (Aq a)),AU b3 71 (AS 0),AU b2 71 (AS b),AU b1 71 (AS a)]) (AP O) O O O O O sizeOf92 O (CR (BJ _) Z) (B2 Z) O (OkL.nil (OkQ.subF (sL [4,8,9,53,54,55,10,11,60,61,62,12] O) (OkQ.in_normal (OkQ.then_ (OkC.region (AH (AX (c:=((i+1:Nat):Int)) O O (AR (a:=i) (b:=1) Z)) O (AM O (OkL.nil (OkQ.subF (sL [4,8,9,53,54,55,10,11,60,61,62,12] O) (OkQ.round2 (i+1) (xs.set (i+nw b) c) (⟨Z,by rw [List.length_set];exact hl2,W32.set hw2 hcc _,by rw [HT hl2 Z (h02 _ (Nat.le_refl _)),<-VP,<-hv2,<-hkn]⟩) Z (sF O) sr))))))))))))
  ·replace hc1:=of_decide_eq_false hc1
   refine OkC.exit (OkQ.then_exit (OkQ.round2_exit (OkQ.in_exit (q2 (AM O (Ce call206 (λw hw=>IY _ ((nw a)+(nw b)) ((nw a)+(nw b)) os hw32 (by first|omega|(rw [rowN_length];omega)|simp|(simp;omega)) (by first|omega|simp|(simp;omega)) (by first|omega|simp|(simp;omega)) w (hw.get (i:=0) O)) O (OkL.retell (k:=102) (u:=(aG (AS (a*b)))) O (by rw [List.take_of_length_le (show os.length<=nw a+nw b by omega),hv,C7 Z]) (N2 O sizeOf71 O (OkL.nil (OkQ.subF (sL [4,8,9,53,54,55] O) (OkQ.then_ ?_)))))))))))
   exact OkC.ret (ret_one O (Ak (i:=3) (cs:=AS (a*b)) O O isAgg71 sizeOf71 O) (λw hw=>⟨rfl,hw.out⟩))
end
end Go.Proofs.YtpolhpjiahbidaaGreatDoor
