import Derived.Test.YtpolhpjiahbidaaGreatDoorPart05
import Derived.Test.YtpolhpjiahbidaaGreatDoorPart09
import Derived.Test.YtpolhpjiahbidaaGreatDoorPart13
namespace Go.Proofs.YtpolhpjiahbidaaGreatDoor
open Go Go.RowKit Go.Proofs.Tryz
set_option linter.unusedVariables false
set_option linter.unusedSimpArgs false
section
set_option maxRecDepth 100000
theorem KN  :Instr.fill ([(0,1),(1,1)].toArray[·]?) (AS 0).toArray []=some (AS 0).toArray:=by kernel_rfl
theorem OH (a b:Nat) (ha:nw a<=1099511627776) (hb:nw b<=1099511627776) (w:World)  :Calls Tryz.prog 204 #[(aG (AS a)),(aG (AS b))] w (Ai w (Value.tuple #[(aG (AS (a-b))),(Value.bool (decide (b<=a)))])):=by
 have hla:=B1 a
 have hlb:=B1 b
 have hpa:=Uf a
 refine AZ (args:=[(aG (AS a)),(aG (AS b))]) Tryz.func204 rfl rfl (AK rfl) (OkC.subF (sL [0,1] rfl) (q4 (Bg (cs:=AS a) rfl λb1=>Bg (cs:=AS b) rfl λb2=>al FV rfl λb3=>asg' rfl (q6 (sL [2,3,4,5] rfl) (q4 (BU 2 Bw rfl (BU 1 Bw rfl (ck' Tryz.call242 (Ri a b (by omega) (by omega)) rfl ?_))))))))
 refine AG (Af (c:=(decide ((Cp a b)<(0:Int)))) rfl rfl rfl) rfl (OkL.nil (OkQ.subF (sL [2,3,4,5,14] rfl) (OkQ.then_ ?_)))
 refine OkC.cond rfl (λhc0=>?_) (λhc0=>?_)
 ·replace hc0:=of_decide_eq_true hc0
  rw [Ej] at hc0
  exact q4 (AG (v:=(aG (AS 0))) (AR (zs:=AS 0) (vs:=AS 0) (pv:=[]) (places:=[(0,1),(1,1)]) Tryz.zeroValue71 Tryz.underlying71 (λw=>by simp [Tryz.sizeOf9,Tryz.sizeOf69]) rfl (KN )) rfl (OkL.retell (k:=15) (u:=(aG (AS (a-b)))) rfl (by rw [show a-b=0 by omega]) (Ay rfl Tryz.sizeOf71 rfl (asg' rfl (OkL.nil (OkQ.subF (sL [2,3,4,5] rfl) (OkQ.then_ (OkC.ret (OkQ.then_ret (C0 rfl (Aj (i:=0) (cs:=AS (a-b)) rfl rfl Tryz.isAgg71 Tryz.sizeOf71 rfl) (rd_tmp (v:=(Value.bool false)) rfl) (λw hw=>⟨by rw [decide_eq_false (show ¬b<=a by omega)],hw.out⟩)))))))))))
 ·replace hc0:=of_decide_eq_false hc0
  rw [Ej] at hc0
  have hnb:nw b<=nw a:=Ca (by omega)
  refine OkC.skip (q1 (q4 (AG (v:=(pP b1 1)) (AA rfl Tryz.underlying71 rfl Tryz.sizeOf9 rfl) rfl (Aw 2 (Value.string (Bd a)) Q5 rfl (AG (Bf (c:=(decide (a<18446744073709551616))) rfl rfl CI) rfl (OkL.nil (OkQ.subF (sL [2,3,4,5,18] rfl) (OkQ.then_ ?_))))))))
  refine OkC.cond rfl (λhc1=>?_) (λhc1=>?_)
  ·replace hc1:=of_decide_eq_true hc1
   refine q4 (AG (v:=(pP b1 0)) (AA rfl Tryz.underlying71 rfl Tryz.sizeOf69 rfl) rfl (Aw 2 (vK .u64 (Bo a)) F9 rfl (OkL.retell (k:=20) (u:=(vK .u64 a)) rfl (by rw [BY hc1]) (AG (v:=(pP b2 0)) (AA rfl Tryz.underlying71 rfl Tryz.sizeOf69 rfl) rfl (Aw 1 (vK .u64 (Bo b)) F9 rfl (OkL.retell (k:=22) (u:=(vK .u64 b)) rfl (by rw [BY (by omega)]) (AG (BJ (c:=((a-b:Nat):Int)) rfl rfl (HY (a:=a) (b:=b) (by omega) (by omega))) rfl (AG (v:=(aG ([(vK .u64 (a-b)),(Value.string (Bd 0))]))) (AR (zs:=AS 0) (vs:=[(vK .u64 (a-b)),(Value.string (Bd 0))]) (pv:=[(0,(vK .u64 (a-b)))]) (places:=[(0,1),(1,1)]) Tryz.zeroValue71 Tryz.underlying71 (λw=>by simp [Tryz.sizeOf9,Tryz.sizeOf69]) rfl rfl) rfl (OkL.retell (k:=24) (u:=(aG (AS (a-b)))) rfl (by rw [DG (by omega)];rfl) (Ay rfl Tryz.sizeOf71 rfl (asg' rfl ?_)))))))))))
   exact OkL.nil (OkQ.subF (sL [2,3,4,5] rfl) (OkQ.then_ (OkC.ret (OkQ.then_ret (C0 rfl (Aj (i:=0) (cs:=AS (a-b)) rfl rfl Tryz.isAgg71 Tryz.sizeOf71 rfl) (rd_tmp (v:=(Value.bool true)) rfl) (λw hw=>⟨by rw [decide_eq_true (show b<=a by omega)],hw.out⟩))))))
  ·replace hc1:=of_decide_eq_false hc1
   have hpad:Am a=AM a:=if_neg hc1
   refine OkC.skip (q1 (CV [(0,true),(2,true),(1,false),(3,false),(4,true),(5,true)] sr (Ec 2 Bw rfl (Ec 1 Bw rfl (OkE.imp rfl (OkL.callB (V:=λb4=>(Value.slice (some ⟨b4,0,none⟩) (nw a) ((Am a).length))) (T:=92) (cs:=Ae (Am a)) (AP rfl) (Ap (args:=[(aG (AS a))]) rfl rfl Tryz.call187) (λw hw=>Cu a (by omega) w) rfl (AK rfl) λb4=>OkE.back (sl sr) (OkE.imp rfl (OkL.callB (V:=λb5=>(Value.slice (some ⟨b5,0,none⟩) (nw b) ((Am b).length))) (T:=92) (cs:=Ae (Am b)) (AP rfl) (Ap (args:=[(aG (AS b))]) rfl rfl Tryz.call187) (λw hw=>Cu b (by omega) w) rfl (AK rfl) λb5=>OkE.back (sl (sl sr)) (pS' rfl ?_)))))))))
   refine pS' rfl (OkE.nil (OkQ.subF (sL [2,3,4,5,6,7] rfl) (q2 (asg' rfl (OkL.nil (q1 (q4 (AO rfl (AG (v:=(vN (nw a))) (AD rfl Tryz.underlying255) rfl (AO rfl (OkL.nil ?_)))))))))))
   refine OkQ.subF (sL [2,3,4,5,6,7,8,30,31] rfl) (OkQ.then_ (OkC.block ?_))
   refine OkC.lp3 (tg λ(i:Nat) (os:List Nat) (c:Nat)=>i<=nw a/\os.length=nw a/\W32 os/\c<=1/\val os+val ((AM b).take i)=a+c*4294967296^i) (tg λ(i:Nat) (os:List Nat) (c:Nat)=>[(4,(pP b3 0)),(5,(Value.bool false)),(6,(Value.slice (some ⟨b4,0,none⟩) (nw a) ((Am a).length))),(7,(Value.slice (some ⟨b5,0,none⟩) (nw b) ((Am b).length))),(30,(vN (nw a))),(31,(vN i)),(8,(vK .u32 c))]) (tg λ(i:Nat) (os:List Nat) (c:Nat)=>[AX b5 92 (Ae (Am b)),AX b4 92 (Ae os),AX b3 71 (AS 0),AX b2 71 (AS b),AX b1 71 (AS a)]) (tg λ(i:Nat) (os:List Nat) (c:Nat)=>nw a-i) 0 (Am a) 0 (⟨Nat.zero_le _,by rw [hpad];rfl,B2 a,by omega,by rw [Pj];simp [val]⟩) (sF rfl) sr (λi os c hJ=>?_)
   obtain ⟨hi,hl,hw32,hcc,hv⟩:=hJ
   refine q4 (AG (Af (c:=(decide (i<(nw a)))) rfl rfl (B9 (a:=i) (b:=nw a))) rfl (OkL.nil (q1 ?_)))
   refine OkC.cond rfl (λhc2=>?_) (λhc2=>?_)
   ·replace hc2:=of_decide_eq_true hc2
    refine OkC.skip (q1 (OkC.block (q4 (AO rfl (asg' rfl (q3 (sL [4,5,6,7,30,31,8,9] rfl) (asg' rfl (OkL.nil (q1 (q4 (AO rfl ?_)))))))))))
    refine AO rfl (AG (v:=(vN (nw b))) (AD rfl Tryz.underlying255) rfl (AG (Af (c:=(decide (i<(nw b)))) rfl rfl (B9 (a:=i) (b:=nw b))) rfl (OkL.nil (OkQ.subF (sL [4,5,6,7,30,31,8,9,10,37] rfl) (OkQ.then_ ?_)))))
    refine OkC.jn0 (tg True) (tg [(4,(pP b3 0)),(5,(Value.bool false)),(6,(Value.slice (some ⟨b4,0,none⟩) (nw a) ((Am a).length))),(7,(Value.slice (some ⟨b5,0,none⟩) (nw b) ((Am b).length))),(30,(vN (nw a))),(31,(vN i)),(8,(vK .u32 c)),(9,(vN i)),(10,(vK .u32 ((AM b).getD i 0)))]) (tg [AX b5 92 (Ae (Am b)),AX b4 92 (Ae os),AX b3 71 (AS 0),AX b2 71 (AS b),AX b1 71 (AS a)]) ?_ ?_
    ·skip
     refine OkC.cond rfl (λhc3=>?_) (λhc3=>?_)
     ·replace hc3:=of_decide_eq_true hc3
      refine OkC.region (AO rfl (AO rfl (AG (v:=(pP b5 i)) (AL (j:=i) rfl rfl Tryz.underlying255 Tryz.sizeOf92 rfl (by omega) (by simp)) rfl ?_)))
      have hx1:(Am b).getD i 0<4294967296:=W32.getD (B2 b) i
      exact AG (AE (i:=0) (v:=(vK .u32 ((Am b).getD i 0))) rfl rfl Tryz.isAgg92 (A6 (xs:=Am b) (j:=i) (by omega))) rfl (OkL.retell (k:=41) (u:=(vK .u32 ((AM b).getD i 0))) rfl (by rw [DA hc3]) (asg' rfl (OkL.nil (OkQ.subF (sL [4,5,6,7,30,31,8,9,10] rfl) (OkQ.join0  (trivial) (sF rfl) sr)))))
     ·replace hc3:=of_decide_eq_false hc3
      exact OkC.skip (OkQ.retell (k:=10) (u:=Value.int .u32 (((AM b).getD i 0:Nat):Int)) rfl (by rw [D1 hc3];rfl) (OkQ.join0  (trivial) (sF rfl) sr))
    ·intro hJ
     refine OkQ.then_ (OkC.region (AO rfl (AO rfl (AO rfl (AO rfl (AG (v:=(pP b4 i)) (AL (j:=i) rfl rfl Tryz.underlying255 Tryz.sizeOf92 rfl (by omega) (by simp)) rfl ?_))))))
     have hx2:os.getD i 0<4294967296:=W32.getD hw32 i
     refine AG (AE (i:=1) (v:=(vK .u32 (os.getD i 0))) rfl rfl Tryz.isAgg92 (A6 (xs:=os) (j:=i) (by omega))) rfl (AO rfl (AO rfl ?_))
     have hyb:=(Bh b).getD i
     refine ck' Tryz.call244 (J2 (os.getD i 0) ((AM b).getD i 0) c _ (by omega) (by omega) (by omega) rfl) rfl (AO rfl (AG (AV (v:=(vK .u32 (((os.getD i 0)+(4294967296-((AM b).getD i 0))+(4294967296-c))%4294967296))) rfl rfl) rfl (AG (AV (v:=(vK .u32 (IN (os.getD i 0) (((AM b).getD i 0)+c)))) rfl rfl) rfl (AG (v:=(pP b4 i)) (AL (j:=i) rfl rfl Tryz.underlying255 Tryz.sizeOf92 rfl (by omega) (by simp)) rfl (OkL.store' (i:=1) (off:=i) (vs:=[(vK .u32 (((os.getD i 0)+(4294967296-((AM b).getD i 0))+(4294967296-c))%4294967296))]) (cs':=Ae (os.set i (((os.getD i 0)+(4294967296-((AM b).getD i 0))+(4294967296-c))%4294967296))) (L':=[AX b5 92 (Ae (Am b)),AX b4 92 (Ae (os.set i (((os.getD i 0)+(4294967296-((AM b).getD i 0))+(4294967296-c))%4294967296))),AX b3 71 (AS 0),AX b2 71 (AS b),AX b1 71 (AS a)]) (AP rfl) rfl rfl rfl rfl rfl Tryz.sizeOf92 rfl (CM (BI _) (by omega)) (B0 (by omega)) rfl (asg' rfl (OkL.nil (OkQ.subF (sL [4,5,6,7,30,31,8,9,10] rfl) (OkQ.in_normal (OkQ.then_ (OkC.region ?_)))))))))))
     exact AG (AY (c:=((i+1:Nat):Int)) rfl rfl (AT (a:=i) (b:=1) (by omega))) rfl (AO rfl (OkL.nil (OkQ.subF (sL [4,5,6,7,30,31,8,9,10] rfl) (OkQ.round3 (i+1) (os.set i ((os.getD i 0+(4294967296-(AM b).getD i 0)+(4294967296-c))%4294967296)) (IN (os.getD i 0) ((AM b).getD i 0+c)) (⟨by omega,by rw [List.length_set];exact hl,W32.set hw32 (by omega) i,Na _ _,TT hl hc2 hw32 (Bh b) hcc hv⟩) (by omega) (sF rfl) sr))))
   ·replace hc2:=of_decide_eq_false hc2
    refine OkC.exit (OkQ.then_exit (OkQ.round3_exit (OkQ.in_exit (q2 (AO rfl (Cq Tryz.call206 (λw hw=>II _ (nw a) ((Am a).length) os hw32 (by first|omega|(rw [rowN_length];omega)|simp|(simp;omega)) (by first|omega|simp|(simp;omega)) (by first|omega|simp|(simp;omega)) w (hw.get (i:=1) rfl)) rfl (OkL.retell (k:=57) (u:=(aG (AS (a-b)))) rfl (by rw [List.take_of_length_le (show os.length<=nw a by omega),Rv (X:=a) (Y:=b) (n:=nw a) (c:=c) (i:=i) hl hw32 (by omega) (by omega) (by rw [<-hv,Cz (by omega)]) (Bi a)]) (Gh rfl Tryz.sizeOf71 rfl (asg' rfl (OkL.nil (OkQ.subF (sL [4,5,6,7,30,31,8] rfl) ?_)))))))))))
    exact OkQ.then_ (OkC.ret (C0 rfl (Aj (i:=2) (cs:=AS (a-b)) rfl rfl Tryz.isAgg71 Tryz.sizeOf71 rfl) (rd_tmp (v:=(Value.bool true)) rfl) (λw hw=>⟨by rw [decide_eq_true (show b<=a by omega)],hw.out⟩)))
theorem N4 (a b:Nat) (ha:nw a<=1099511627776) (hb:nw b<=1099511627776) (w:World)  :Calls Tryz.prog 153 #[(aG (AS a)),(aG (AS b))] w (Ai w (aG (AS (a*b)))):=by
 have hla:=B1 a
 have hlb:=B1 b
 refine AZ (args:=[(aG (AS a)),(aG (AS b))]) Tryz.func153 rfl rfl (AK rfl) (OkC.subF (sL [0,1] rfl) (q4 (Bg (cs:=AS a) rfl λb1=>Bg (cs:=AS b) rfl λb2=>al FV rfl λb3=>q6 (sL [2,3,4] rfl) (q4 (AG (v:=(pP b1 1)) (AA rfl Tryz.underlying71 rfl Tryz.sizeOf9 rfl) rfl (Aw 2 (Value.string (Bd a)) Q5 rfl (AG (Bf (c:=(decide (a<18446744073709551616))) rfl rfl CI) rfl (AO rfl ?_))))))))
 refine OkL.mid (FM:=[(2,(pP b1 0)),(3,(pP b2 0)),(4,(pP b3 0)),(15,(pP b1 1)),(16,(Value.string (Bd a))),(17,(Value.bool (decide (a<18446744073709551616)))),(18,(Value.bool (decide (a<18446744073709551616)))),(22,(Value.bool ((decide (a<18446744073709551616))&&(decide (b<18446744073709551616)))))]) (LM:=[AX b3 71 (AS 0),AX b2 71 (AS b),AX b1 71 (AS a)]) 4 ?_ ?_
 ·rcases Bool.eq_false_or_eq_true (decide (a<18446744073709551616)) with hg1|hg1
  ·skip
   refine OkL.retell (k:=18) (u:=Value.bool true) rfl (by rw [hg1]) ?_
   have hg1':=hg1
   replace hg1':=of_decide_eq_true hg1'
   exact OkL.step (v:=(pP b2 1)) (AB rfl) (AA rfl Tryz.underlying71 rfl Tryz.sizeOf9 rfl) rfl (AK rfl) (OkL.step (v:=(Value.string (Bd b))) (AB rfl) (AE (i:=1) (v:=(Value.string (Bd b))) rfl rfl Q5.a rfl) rfl (AK rfl) (OkL.step (v:=(Value.bool (decide (b<18446744073709551616)))) (AB rfl) (Bf (c:=(decide (b<18446744073709551616))) rfl rfl CI) rfl (AK rfl) (AG (v:=(Value.bool (decide (b<18446744073709551616)))) (AN rfl rfl) rfl (OkL.nil (OkQ.mid (sS rfl (sS rfl (sS rfl (sS rfl (sS rfl (sS rfl (sS (by first|rfl|(rw [hg1];rfl)|rw [hg1]) (sS (by first|rfl|(rw [hg1];rfl)|rw [hg1]) (sN))))))))) (List.Sublist.refl _))))))
  ·skip
   refine OkL.retell (k:=18) (u:=Value.bool false) rfl (by rw [hg1]) ?_
   have hg1':=hg1
   replace hg1':=of_decide_eq_false hg1'
   exact OkL.skip (AC rfl) rfl (AK rfl) (OkL.skip (AC rfl) rfl (AK rfl) (OkL.skip (AC rfl) rfl (AK rfl) (AG (v:=(Value.bool false)) (AJ rfl rfl) rfl (OkL.nil (OkQ.mid (sS rfl (sS rfl (sS rfl (sS rfl (sS rfl (sS rfl (sS (by first|rfl|(rw [hg1];rfl)|rw [hg1]) (sS (by first|rfl|(rw [hg1];rfl)|rw [hg1]) (sN))))))))) (List.Sublist.refl _))))))
 refine OkL.nil (OkQ.subF (sL [2,3,4,22] rfl) (OkQ.then_ ?_))
 refine OkC.cond rfl (λhc0=>?_) (λhc0=>?_)
 ·simp only [Bool.and_eq_true,Bool.or_eq_true,Bool.and_eq_false_iff,Bool.or_eq_false_iff,Bool.not_eq_true',Bool.not_eq_false',decide_eq_true_eq,decide_eq_false_iff_not] at hc0
  refine q4 (AG (v:=(pP b1 0)) (AA rfl Tryz.underlying71 rfl Tryz.sizeOf69 rfl) rfl (Aw 2 (vK .u64 (Bo a)) F9 rfl (OkL.retell (k:=25) (u:=(vK .u64 a)) rfl (by rw [BY hc0.1]) (AG (v:=(pP b2 0)) (AA rfl Tryz.underlying71 rfl Tryz.sizeOf69 rfl) rfl (Aw 1 (vK .u64 (Bo b)) F9 rfl ?_)))))
  have hhi:a*b/18446744073709551616<18446744073709551616:=Nat.div_lt_of_lt_mul (Nat.mul_lt_mul'' hc0.1 hc0.2)
  refine OkL.retell (k:=27) (u:=(vK .u64 b)) rfl (by rw [BY hc0.2]) (ck' Tryz.call205 (Q8 a b (by omega) (by omega)) rfl (AO rfl (AG (AV (v:=(vK .u64 (a*b/18446744073709551616))) rfl rfl) rfl (AG (AV (v:=(vK .u64 (a*b%18446744073709551616))) rfl rfl) rfl (asg' rfl (asg' rfl (q3 (sL [2,3,4,5,6] rfl) (AO rfl (AG (Ar (c:=(((a*b%18446744073709551616)%4294967296:Nat):Int)) rfl Tryz.underlying69 Tryz.underlying92 Dy) rfl (AO rfl (AG (Cc (s:=32) (c:=(((a*b%18446744073709551616)/4294967296:Nat):Int)) rfl rfl rfl (by decide) (Ff (a:=a*b%18446744073709551616) (s:=32))) rfl ?_)))))))))))
  refine AG (Ar (c:=(((a*b%18446744073709551616)/4294967296:Nat):Int)) rfl Tryz.underlying69 Tryz.underlying92 (CO (by omega))) rfl (AO rfl (AG (Ar (c:=(((a*b/18446744073709551616)%4294967296:Nat):Int)) rfl Tryz.underlying69 Tryz.underlying92 Dy) rfl (AO rfl (AG (Cc (s:=32) (c:=(((a*b/18446744073709551616)/4294967296:Nat):Int)) rfl rfl rfl (by decide) (Ff (a:=a*b/18446744073709551616) (s:=32))) rfl (AG (Ar (c:=(((a*b/18446744073709551616)/4294967296:Nat):Int)) rfl Tryz.underlying69 Tryz.underlying92 (CO (by omega))) rfl (OkL.openV (V:=λb4=>(Value.slice (some ⟨b4,0,none⟩) 4 4)) (T:=92) (cs:=Ae ([(a*b%18446744073709551616)%4294967296,(a*b%18446744073709551616)/4294967296,(a*b/18446744073709551616)%4294967296,(a*b/18446744073709551616)/4294967296])) (AP rfl) (Av (cs:=Ae ([(a*b%18446744073709551616)%4294967296,(a*b%18446744073709551616)/4294967296,(a*b/18446744073709551616)%4294967296,(a*b/18446744073709551616)/4294967296])) (pv:=[(0,(vK .u32 ((a*b%18446744073709551616)%4294967296))),(1,(vK .u32 ((a*b%18446744073709551616)/4294967296))),(2,(vK .u32 ((a*b/18446744073709551616)%4294967296))),(3,(vK .u32 ((a*b/18446744073709551616)/4294967296)))]) Tryz.underlying255 Tryz.sizeOf92 Tryz.zeroValue92 (by decide) (by decide) rfl (by kernel_rfl)) rfl (AK rfl) λb4=>Cq Tryz.call206 (λw hw=>II _ 4 4 ([(a*b%18446744073709551616)%4294967296,(a*b%18446744073709551616)/4294967296,(a*b/18446744073709551616)%4294967296,(a*b/18446744073709551616)/4294967296]) (W32.cons (by omega) (W32.cons (by omega) (W32.cons (by omega) (W32.cons (by omega) (W32.nil))))) (by first|omega|(rw [rowN_length];omega)|simp|(simp;omega)) (by first|omega|simp|(simp;omega)) (by first|omega|simp|(simp;omega)) w (hw.get (i:=0) rfl)) rfl (OkL.retell (k:=42) (u:=(aG (AS (a*b)))) rfl (by rw [show ∀x y z t:Nat,[x,y,z,t].take 4=[x,y,z,t] from λ_ _ _ _=>rfl,Wa (by omega) hhi,show a*b%18446744073709551616+a*b/18446744073709551616*18446744073709551616=a*b by omega]) (Dw rfl Tryz.sizeOf71 rfl (OkL.nil (OkQ.subF (sL [2,3,4] rfl) ?_))))))))))
  exact OkQ.then_ (OkC.ret (OkQ.then_ret (ret_one rfl (Aj (i:=1) (cs:=AS (a*b)) rfl rfl Tryz.isAgg71 Tryz.sizeOf71 rfl) (λw hw=>⟨rfl,hw.out⟩))))
 ·simp only [Bool.and_eq_true,Bool.or_eq_true,Bool.and_eq_false_iff,Bool.or_eq_false_iff,Bool.not_eq_true',Bool.not_eq_false',decide_eq_true_eq,decide_eq_false_iff_not] at hc0
  refine OkC.skip (q1 (CV [(0,true),(2,true),(1,false),(3,false),(4,true),(5,true)] sr (Ec 2 Bw rfl (Ec 1 Bw rfl (OkE.imp rfl (OkL.callB (V:=λb4=>(Value.slice (some ⟨b4,0,none⟩) (nw a) ((Am a).length))) (T:=92) (cs:=Ae (Am a)) (AP rfl) (Ap (args:=[(aG (AS a))]) rfl rfl Tryz.call187) (λw hw=>Cu a (by omega) w) rfl (AK rfl) λb4=>OkE.back (sl sr) (OkE.imp rfl (OkL.callB (V:=λb5=>(Value.slice (some ⟨b5,0,none⟩) (nw b) ((Am b).length))) (T:=92) (cs:=Ae (Am b)) (AP rfl) (Ap (args:=[(aG (AS b))]) rfl rfl Tryz.call187) (λw hw=>Cu b (by omega) w) rfl (AK rfl) λb5=>OkE.back (sl (sl sr)) (pS' rfl ?_)))))))))
  refine pS' rfl (OkE.nil (OkQ.subF (sL [2,3,4,7,8] rfl) (q2 (AO rfl (AG (v:=(vN (nw a))) (AD rfl Tryz.underlying255) rfl (AO rfl (AG (v:=(vN (nw b))) (AD rfl Tryz.underlying255) rfl (AG (AY (c:=(((nw a)+(nw b):Nat):Int)) rfl rfl (AT (a:=nw a) (b:=nw b) (by omega))) rfl (OkL.openV (V:=λb6=>(Value.slice (some ⟨b6,0,none⟩) ((nw a)+(nw b)) ((nw a)+(nw b)))) (T:=92) (cs:=Ae (List.replicate ((nw a)+(nw b)) 0)) (AP rfl) (Cv (m:=(nw a)+(nw b)) (c:=(nw a)+(nw b)) rfl rfl (by omega) (by omega)) rfl (AK rfl) λb6=>asg' rfl (q6 (sL [2,3,4,7,8,9] rfl) ?_))))))))))
  refine q4 (AO rfl (AG (v:=(vN (nw a))) (AD rfl Tryz.underlying255) rfl (AO rfl (OkL.nil (OkQ.then_ (OkC.block ?_))))))
  refine OkC.lp2 (tg λ(i:Nat) (os:List Nat)=>i<=nw a/\os.length=nw a+nw b/\W32 os/\val os=val ((AM a).take i)*b) (tg λ(i:Nat) (os:List Nat)=>[(4,(pP b3 0)),(8,(Value.slice (some ⟨b5,0,none⟩) (nw b) ((Am b).length))),(9,(Value.slice (some ⟨b6,0,none⟩) ((nw a)+(nw b)) ((nw a)+(nw b)))),(53,(Value.slice (some ⟨b4,0,none⟩) (nw a) ((Am a).length))),(54,(vN (nw a))),(55,(vN i))]) (tg λ(i:Nat) (os:List Nat)=>[AX b6 92 (Ae os),AX b5 92 (Ae (Am b)),AX b4 92 (Ae (Am a)),AX b3 71 (AS 0),AX b2 71 (AS b),AX b1 71 (AS a)]) (tg λ(i:Nat) (os:List Nat)=>nw a-i) 0 (List.replicate (nw a+nw b) 0) (⟨Nat.zero_le _,by simp,W32.zeros _,by rw [Dl];simp [val]⟩) (sF rfl) sr (λi os hJ=>?_)
  obtain ⟨hi,hl,hw32,hv⟩:=hJ
  refine q4 (AG (Af (c:=(decide (i<(nw a)))) rfl rfl (B9 (a:=i) (b:=nw a))) rfl (OkL.nil (q1 ?_)))
  refine OkC.cond rfl (λhc1=>?_) (λhc1=>?_)
  ·replace hc1:=of_decide_eq_true hc1
   refine OkC.skip (q1 (OkC.block (q4 (AO rfl (AG (v:=(pP b4 i)) (AL (j:=i) rfl rfl Tryz.underlying255 Tryz.sizeOf92 rfl (by omega) (by simp)) rfl ?_)))))
   have hx1:(Am a).getD i 0<4294967296:=W32.getD (B2 a) i
   refine AG (AE (i:=2) (v:=(vK .u32 ((Am a).getD i 0))) rfl rfl Tryz.isAgg92 (A6 (xs:=Am a) (j:=i) (by omega))) rfl (OkL.retell (k:=59) (u:=(vK .u32 ((AM a).getD i 0))) rfl (by rw [DA hc1]) (asg' rfl (asg' rfl (q3 (sL [4,8,9,53,54,55,10,11] rfl) (asg' rfl (OkL.nil (q1 (q4 (AO rfl (AG (v:=(vN (nw b))) (AD rfl Tryz.underlying255) rfl (AO rfl ?_)))))))))))
   refine OkL.nil (OkQ.then_ (OkC.block ?_))
   refine OkC.lp3 (tg λ(k:Nat) (xs:List Nat) (c:Nat)=>k<=nw b/\xs.length=nw a+nw b/\W32 xs/\c<4294967296/\(∀j,i+nw b<=j->xs.getD j 0=0)/\val xs+c*4294967296^(i+k)=val ((AM a).take i)*b+(AM a).getD i 0*val ((AM b).take k)*4294967296^i) (tg λ(k:Nat) (xs:List Nat) (c:Nat)=>[(4,(pP b3 0)),(8,(Value.slice (some ⟨b5,0,none⟩) (nw b) ((Am b).length))),(9,(Value.slice (some ⟨b6,0,none⟩) ((nw a)+(nw b)) ((nw a)+(nw b)))),(53,(Value.slice (some ⟨b4,0,none⟩) (nw a) ((Am a).length))),(54,(vN (nw a))),(55,(vN i)),(10,(vN i)),(11,(vK .u32 ((AM a).getD i 0))),(60,(Value.slice (some ⟨b5,0,none⟩) (nw b) ((Am b).length))),(61,(vN (nw b))),(62,(vN k)),(12,(vK .u64 c))]) (tg λ(k:Nat) (xs:List Nat) (c:Nat)=>[AX b6 92 (Ae xs),AX b5 92 (Ae (Am b)),AX b4 92 (Ae (Am a)),AX b3 71 (AS 0),AX b2 71 (AS b),AX b1 71 (AS a)]) (tg λ(k:Nat) (xs:List Nat) (c:Nat)=>nw b-k) 0 os 0 (⟨Nat.zero_le _,hl,hw32,by omega,ON hv,by rw [hv];simp [val]⟩) (sF rfl) sr (λk xs c hJ=>?_)
   obtain ⟨hk,hl2,hw2,hcc,h02,hv2⟩:=hJ
   refine q4 (AG (Af (c:=(decide (k<(nw b)))) rfl rfl (B9 (a:=k) (b:=nw b))) rfl (OkL.nil (q1 ?_)))
   refine OkC.cond rfl (λhc2=>?_) (λhc2=>?_)
   ·replace hc2:=of_decide_eq_true hc2
    refine OkC.skip (q1 (OkC.block (q4 (AO rfl (AG (v:=(pP b5 k)) (AL (j:=k) rfl rfl Tryz.underlying255 Tryz.sizeOf92 rfl (by omega) (by simp)) rfl ?_)))))
    have hx2:(Am b).getD k 0<4294967296:=W32.getD (B2 b) k
    refine AG (AE (i:=1) (v:=(vK .u32 ((Am b).getD k 0))) rfl rfl Tryz.isAgg92 (A6 (xs:=Am b) (j:=k) (by omega))) rfl (OkL.retell (k:=66) (u:=(vK .u32 ((AM b).getD k 0))) rfl (by rw [DA hc2]) (asg' rfl (asg' rfl (q3 (sL [4,8,9,53,54,55,10,11,60,61,62,12,13,14] rfl) (AO rfl (AO rfl ?_))))))
    have hwa:=(Bh a).getD i
    have hwb:=(Bh b).getD k
    have hml:=JL hwa hwb
    refine AG (Ar (c:=(((AM a).getD i 0:Nat):Int)) rfl Tryz.underlying92 Tryz.underlying69 (BG (by omega))) rfl (AO rfl (AG (Ar (c:=(((AM b).getD k 0:Nat):Int)) rfl Tryz.underlying92 Tryz.underlying69 (BG (by omega))) rfl (AG (Cr (c:=((((AM a).getD i 0)*((AM b).getD k 0):Nat):Int)) rfl rfl (EY (a:=(AM a).getD i 0) (b:=(AM b).getD k 0) (by omega))) rfl (AO rfl (AO rfl (AO rfl (AG (AY (c:=((i+k:Nat):Int)) rfl rfl (AT (a:=i) (b:=k) (by omega))) rfl (AG (v:=(pP b6 (i+k))) (AL (j:=i+k) rfl rfl Tryz.underlying255 Tryz.sizeOf92 rfl (by omega) (by simp)) rfl ?_))))))))
    have hx3:xs.getD (i+k) 0<4294967296:=W32.getD hw2 (i+k)
    refine AG (AE (i:=0) (v:=(vK .u32 (xs.getD (i+k) 0))) rfl rfl Tryz.isAgg92 (A6 (xs:=xs) (j:=(i+k)) (by omega))) rfl (AG (Ar (c:=((xs.getD (i+k) 0:Nat):Int)) rfl Tryz.underlying92 Tryz.underlying69 (BG (by omega))) rfl (AG (AY (c:=(((((AM a).getD i 0)*((AM b).getD k 0))+(xs.getD (i+k) 0):Nat):Int)) rfl rfl (C9 (a:=((AM a).getD i 0)*((AM b).getD k 0)) (b:=xs.getD (i+k) 0) (by omega))) rfl (AG (AY (c:=((c+((((AM a).getD i 0)*((AM b).getD k 0))+(xs.getD (i+k) 0)):Nat):Int)) rfl rfl (C9 (a:=c) (b:=(((AM a).getD i 0)*((AM b).getD k 0))+(xs.getD (i+k) 0)) (by omega))) rfl (asg' rfl (q3 (sL [4,8,9,53,54,55,10,11,60,61,62,12,13] rfl) (AO rfl (AO rfl (AO rfl (AG (AY (c:=((i+k:Nat):Int)) rfl rfl (AT (a:=i) (b:=k) (by omega))) rfl (AO rfl (AG (Ar (c:=(((c+((((AM a).getD i 0)*((AM b).getD k 0))+(xs.getD (i+k) 0)))%4294967296:Nat):Int)) rfl Tryz.underlying69 Tryz.underlying92 Dy) rfl ?_)))))))))))
    refine AG (v:=(pP b6 (i+k))) (AL (j:=i+k) rfl rfl Tryz.underlying255 Tryz.sizeOf92 rfl (by omega) (by simp)) rfl (OkL.store' (i:=0) (off:=(i+k)) (vs:=[(vK .u32 ((c+((((AM a).getD i 0)*((AM b).getD k 0))+(xs.getD (i+k) 0)))%4294967296))]) (cs':=Ae (xs.set (i+k) ((c+((((AM a).getD i 0)*((AM b).getD k 0))+(xs.getD (i+k) 0)))%4294967296))) (L':=[AX b6 92 (Ae (xs.set (i+k) ((c+((((AM a).getD i 0)*((AM b).getD k 0))+(xs.getD (i+k) 0)))%4294967296))),AX b5 92 (Ae (Am b)),AX b4 92 (Ae (Am a)),AX b3 71 (AS 0),AX b2 71 (AS b),AX b1 71 (AS a)]) (AP rfl) rfl rfl rfl rfl rfl Tryz.sizeOf92 rfl (CM (BI _) (by omega)) (B0 (by omega)) rfl (OkL.nil (OkQ.subF (sL [4,8,9,53,54,55,10,11,60,61,62,12,13] rfl) (OkQ.then_ (OkC.region (AO rfl (AG (Cc (s:=32) (c:=(((c+((((AM a).getD i 0)*((AM b).getD k 0))+(xs.getD (i+k) 0)))/4294967296:Nat):Int)) rfl rfl rfl (by decide) (Ff (a:=c+((((AM a).getD i 0)*((AM b).getD k 0))+(xs.getD (i+k) 0))) (s:=32))) rfl (asg' rfl (OkL.nil (OkQ.subF (sL [4,8,9,53,54,55,10,11,60,61,62,12,13] rfl) (OkQ.in_normal ?_)))))))))))
    exact OkQ.then_ (OkC.region (AG (AY (c:=((k+1:Nat):Int)) rfl rfl (AT (a:=k) (b:=1) (by omega))) rfl (AO rfl (OkL.nil (OkQ.subF (sL [4,8,9,53,54,55,10,11,60,61,62,12,13] rfl) (OkQ.round3 (k+1) (xs.set (i+k) ((c+((AM a).getD i 0*(AM b).getD k 0+xs.getD (i+k) 0))%4294967296)) ((c+((AM a).getD i 0*(AM b).getD k 0+xs.getD (i+k) 0))/4294967296) (⟨by omega,by rw [List.length_set];exact hl2,W32.set hw2 (by omega) _,by omega,E_ h02 (by omega),RK hl2 (by omega) hv2⟩) (by omega) (sF rfl) sr))))))
   ·replace hc2:=of_decide_eq_false hc2
    have hkn:k=nw b:=by omega
    have hbb:val ((AM b).take k)=b:=Cz (by omega)
    rw [hbb] at hv2
    refine OkC.exit (OkQ.then_exit (OkQ.round3_exit (OkQ.in_exit (OkQ.then_ (OkC.region (AO rfl (AO rfl (AO rfl (AG (v:=(vN (nw b))) (AD rfl Tryz.underlying255) rfl (AG (AY (c:=((i+(nw b):Nat):Int)) rfl rfl (AT (a:=i) (b:=nw b) (by omega))) rfl (AO rfl ?_)))))))))))
    exact AG (Ar (c:=((c:Nat):Int)) rfl Tryz.underlying69 Tryz.underlying92 (CO (by omega))) rfl (AG (v:=(pP b6 (i+(nw b)))) (AL (j:=i+(nw b)) rfl rfl Tryz.underlying255 Tryz.sizeOf92 rfl (by omega) (by simp)) rfl (OkL.store' (i:=0) (off:=(i+(nw b))) (vs:=[(vK .u32 c)]) (cs':=Ae (xs.set (i+(nw b)) c)) (L':=[AX b6 92 (Ae (xs.set (i+(nw b)) c)),AX b5 92 (Ae (Am b)),AX b4 92 (Ae (Am a)),AX b3 71 (AS 0),AX b2 71 (AS b),AX b1 71 (AS a)]) (AP rfl) rfl rfl rfl rfl rfl Tryz.sizeOf92 rfl (CM (BI _) (by omega)) (B0 (by omega)) rfl (OkL.nil (OkQ.subF (sL [4,8,9,53,54,55,10,11,60,61,62,12] rfl) (OkQ.in_normal (OkQ.then_ (OkC.region (AG (AY (c:=((i+1:Nat):Int)) rfl rfl (AT (a:=i) (b:=1) (by omega))) rfl (AO rfl (OkL.nil (OkQ.subF (sL [4,8,9,53,54,55,10,11,60,61,62,12] rfl) (OkQ.round2 (i+1) (xs.set (i+nw b) c) (⟨by omega,by rw [List.length_set];exact hl2,W32.set hw2 hcc _,by rw [Ha hl2 (by omega) (h02 _ (Nat.le_refl _)),<-Uo,<-hv2,<-hkn]⟩) (by omega) (sF rfl) sr))))))))))))
  ·replace hc1:=of_decide_eq_false hc1
   refine OkC.exit (OkQ.then_exit (OkQ.round2_exit (OkQ.in_exit (q2 (AO rfl (Cq Tryz.call206 (λw hw=>II _ ((nw a)+(nw b)) ((nw a)+(nw b)) os hw32 (by first|omega|(rw [rowN_length];omega)|simp|(simp;omega)) (by first|omega|simp|(simp;omega)) (by first|omega|simp|(simp;omega)) w (hw.get (i:=0) rfl)) rfl (OkL.retell (k:=102) (u:=(aG (AS (a*b)))) rfl (by rw [List.take_of_length_le (show os.length<=nw a+nw b by omega),hv,Cz (by omega)]) (ML rfl Tryz.sizeOf71 rfl (OkL.nil (OkQ.subF (sL [4,8,9,53,54,55] rfl) (OkQ.then_ ?_)))))))))))
   exact OkC.ret (ret_one rfl (Aj (i:=3) (cs:=AS (a*b)) rfl rfl Tryz.isAgg71 Tryz.sizeOf71 rfl) (λw hw=>⟨rfl,hw.out⟩))
end
section
set_option maxRecDepth 100000
theorem QI (a y p c:Nat) (bs:List Nat) (hbs:W32 bs) (hla:nw a<=bs.length) (hbd:∀i,i<nw a->bs.getD i 0=(AM a).getD i 0) (ha:nw a<=1099511627776) (hy:0<y) (hy2:y<4294967296) (w:World) (hp:w.heap[p]?=some (.cells (Ae bs).toArray 92 (0,0))):Calls Tryz.prog 188 #[(Value.slice (some ⟨p,0,none⟩) (nw a) c),(vK .u32 y)] w (λe w'=>∃b,e=.returned (.tuple #[.slice (some ⟨b,0,none⟩) (nw a) (nw a),.int .u32 ((a%y:Nat):Int)])/\GC w.heap.size w w'/\w.heap.size<=b/\w'.heap[b]?=some (.cells (Ae (CK (nw a) (a/y))).toArray 92 (0,0))):=by
 refine AZ (args:=[(Value.slice (some ⟨p,0,none⟩) (nw a) c),(vK .u32 y)]) Tryz.func188 rfl rfl (AK rfl) (OkC.subF (sL [0,1] rfl) (q4 (asg' rfl (asg' rfl (OkL.nil (q2 (AO rfl (AG (v:=(vN (nw a))) (AD rfl Tryz.underlying255) rfl (OkL.openV (V:=λb1=>(Value.slice (some ⟨b1,0,none⟩) (nw a) (nw a))) (T:=92) (cs:=Ae (List.replicate (nw a) 0)) (AP rfl) (Cv (m:=nw a) (c:=nw a) rfl rfl (by omega) (by omega)) rfl (AK rfl) λb1=>asg' rfl (q6 (sL [0,1,4,5] rfl) ?_))))))))))
 refine q4 (AO rfl (AG (v:=(vN (nw a))) (AD rfl Tryz.underlying255) rfl (AG (BJ (c:=(((nw a:Nat):Int)-1)) rfl rfl (BD (by omega) (by omega))) rfl (asg' rfl (OkL.nil (OkQ.subF (sL [0,1,4,5,6] rfl) (OkQ.then_ (OkC.block ?_))))))))
 refine OkC.lp3 (tg λ(k:Nat) (qs:List Nat) (r:Nat)=>k<=nw a/\qs.length=nw a/\W32 qs/\r<y/\(∀j,j<k->qs.getD j 0=0)/\val qs*y+r*4294967296^k=a/4294967296^k*4294967296^k) (tg λ(k:Nat) (qs:List Nat) (r:Nat)=>[(0,(Value.slice (some ⟨p,0,none⟩) (nw a) c)),(1,(vK .u32 y)),(4,(Value.slice (some ⟨b1,0,none⟩) (nw a) (nw a))),(6,(vI (((k:Nat):Int)-1))),(5,(vK .u32 r))]) (tg λ(k:Nat) (qs:List Nat) (r:Nat)=>[AX b1 92 (Ae qs)]) (tg λ(k:Nat) (qs:List Nat) (r:Nat)=>k) (nw a) (List.replicate (nw a) 0) 0 (⟨Nat.le_refl _,by simp,W32.zeros _,hy,λj _=>by simp [List.getD_eq_getElem?_getD,List.getElem?_replicate];split<;>rfl,by rw [Dl,Nat.div_eq_of_lt (Bi a)];simp⟩) (sF rfl) sr (λk qs r hJ=>?_)
 obtain ⟨hk,hl,hw32,hr,hz,hv⟩:=hJ
 refine OkC.seq (q4 (AO rfl (AG (B_ (c:=(decide ((0:Int)<=(((k:Nat):Int)-1)))) rfl rfl rfl) rfl (OkL.nil (OkQ.subF (sL [0,1,4,6,5,14] rfl) (OkQ.then_ ?_))))))
 refine OkC.cond rfl (λhc0=>?_) (λhc0=>?_)
 ·replace hc0:=of_decide_eq_true hc0
  have hk0:0<k:=by omega
  refine OkC.retell (k:=6) (u:=(vN (k-1))) rfl (by congr 1;omega) (OkC.skip (q1 (OkC.block (OkC.region (AO rfl (AO rfl (AO rfl (AO rfl (AO rfl (AG (v:=(pP p (k-1))) (AL (j:=k-1) rfl rfl Tryz.underlying255 Tryz.sizeOf92 rfl (by omega) (by simp)) rfl ?_))))))))))
  have hx1:bs.getD (k-1) 0<4294967296:=W32.getD hbs (k-1)
  refine AG (BP (v:=(vK .u32 (bs.getD (k-1) 0))) rfl (λw' hw=>CA.at0 (hw.oldCA (by simp) (D6 hp)) (A6 (xs:=bs) (j:=(k-1)) (by omega))) Tryz.isAgg92) rfl ?_
  have hdg:a/4294967296^(k-1)%4294967296<4294967296:=Nat.mod_lt _ (by omega)
  have hq9:(r*4294967296+a/4294967296^(k-1)%4294967296)/y<4294967296:=Nat.div_lt_of_lt_mul (by have h9:(r+1)*4294967296<=y*4294967296:=Nat.mul_le_mul_right _ hr;omega)
  have hr9:(r*4294967296+a/4294967296^(k-1)%4294967296)%y<y:=Nat.mod_lt _ hy
  refine OkL.retell (k:=24) (u:=(vK .u32 (a/4294967296^(k-1)%4294967296))) rfl (by rw [hbd _ (by omega),Gs]) (AO rfl (ck' Tryz.call231 (S1 r (a/4294967296^(k-1)%4294967296) y (by omega) (by omega) (by omega)) rfl (AO rfl (AG (AV (v:=(vK .u32 ((r*4294967296+(a/4294967296^(k-1)%4294967296))/y))) rfl rfl) rfl (AG (AV (v:=(vK .u32 ((r*4294967296+(a/4294967296^(k-1)%4294967296))%y))) rfl rfl) rfl (AG (v:=(pP b1 (k-1))) (AL (j:=k-1) rfl rfl Tryz.underlying255 Tryz.sizeOf92 rfl (by omega) (by simp)) rfl (OkL.store' (i:=0) (off:=(k-1)) (vs:=[(vK .u32 ((r*4294967296+(a/4294967296^(k-1)%4294967296))/y))]) (cs':=Ae (qs.set (k-1) ((r*4294967296+(a/4294967296^(k-1)%4294967296))/y))) (L':=[AX b1 92 (Ae (qs.set (k-1) ((r*4294967296+(a/4294967296^(k-1)%4294967296))/y)))]) (AP rfl) rfl rfl rfl rfl rfl Tryz.sizeOf92 rfl (CM (BI _) (by omega)) (B0 (by omega)) rfl (asg' rfl (OkL.nil (OkQ.subF (sL [0,1,4,6,5] rfl) (OkQ.in_normal ?_)))))))))))
  refine OkQ.then_ (OkC.region (AO rfl (AG (BJ (c:=(((k-1:Nat):Int)-1)) rfl rfl (BD (by omega) (by omega))) rfl (asg' rfl (OkL.nil (OkQ.subF (sL [0,1,4,6,5] rfl) ?_))))))
  have hst:=Nq (y:=y) (k:=k-1) hl (by omega) (λj hj=>hz j (by omega)) hr (a:=a) (by rw [show k-1+1=k by omega];exact hv)
  exact OkQ.round3 (k-1) (qs.set (k-1) ((r*4294967296+a/4294967296^(k-1)%4294967296)/y)) ((r*4294967296+a/4294967296^(k-1)%4294967296)%y) (⟨by omega,by rw [List.length_set];exact hl,W32.set hw32 hq9 _,hr9,λj hj=>by rw [List.getD_eq_getElem?_getD,List.getElem?_set_ne (by omega),<-List.getD_eq_getElem?_getD];exact hz j (by omega),hst⟩) (by omega) (sF rfl) sr
 ·replace hc0:=of_decide_eq_false hc0
  have hk0:k=0:=by omega
  have hv0:=hv
  rw [hk0] at hv0
  have hd:=Nz hr hv0
  refine OkC.exit (OkQ.then_exit (OkQ.round3_exit (OkQ.in_exit (q2 (AO rfl (AO rfl (asg' rfl (asg' rfl (OkL.nil (OkQ.subF (sL [0,1,4,6,5] rfl) (OkQ.then_ ?_)))))))))))
  refine OkC.ret ?_
  have hcells:(some (Obj.cells (Ae qs).toArray 92 (0,0)))=some (Obj.cells (Ae (CK (nw a) (a/y))).toArray 92 (0,0)):=by rw [Gp hw32 hl hd.1]
  exact C0 rfl (rd_tmp (v:=(Value.slice (some ⟨b1,0,none⟩) (nw a) (nw a))) rfl) (rd_tmp (v:=(vK .u32 r)) rfl) (λw hw=>⟨b1,by rw [hd.2],hw.out,hw.fresh (i:=0) rfl,(hw.get (i:=0) rfl).trans hcells⟩)
theorem RS (a y p c:Nat) (ha:nw a<=1099511627776) (hy:0<y) (hy2:y<4294967296) (w:World) (hp:w.heap[p]?=some (.cells (Ae (Am a)).toArray 92 (0,0))):Calls Tryz.prog 188 #[(Value.slice (some ⟨p,0,none⟩) (nw a) c),(vK .u32 y)] w (λe w'=>∃b,e=.returned (.tuple #[.slice (some ⟨b,0,none⟩) (nw a) (nw a),.int .u32 ((a%y:Nat):Int)])/\GC w.heap.size w w'/\w.heap.size<=b/\w'.heap[b]?=some (.cells (Ae (CK (nw a) (a/y))).toArray 92 (0,0))):=QI a y p c (Am a) (B2 a) (B1 a) (λi hi=>DA hi) ha hy hy2 w hp
theorem JX (p m c s:Nat) (bs:List Nat) (hbs:W32 bs) (hm:m<=bs.length) (hml:m<=1099511627776) (hs:s<32) (w:World) (hp:w.heap[p]?=some (.cells (Ae bs).toArray 92 (0,0))):Calls Tryz.prog 273 #[(Value.slice (some ⟨p,0,none⟩) m c),(vN s)] w (λe w'=>∃b,e=.returned (.slice (some ⟨b,0,none⟩) (m+1) (m+1))/\GC w.heap.size w w'/\w.heap.size<=b/\w'.heap[b]?=some (.cells (Ae (CK (m+1) (val (bs.take m)*2^s))).toArray 92 (0,0))):=by
 refine AZ (args:=[(Value.slice (some ⟨p,0,none⟩) m c),(vN s)]) Tryz.func273 rfl rfl (AK rfl) (OkC.subF (sL [0,1] rfl) (q4 (asg' rfl (OkL.nil (q2 (AO rfl (AG (v:=(vN m)) (AD rfl Tryz.underlying255) rfl (AG (AY (c:=((m+1:Nat):Int)) rfl rfl (AT (a:=m) (b:=1) (by omega))) rfl (OkL.openV (V:=λb1=>(Value.slice (some ⟨b1,0,none⟩) (m+1) (m+1))) (T:=92) (cs:=Ae (List.replicate (m+1) 0)) (AP rfl) (Cv (m:=m+1) (c:=m+1) rfl rfl (by omega) (by omega)) rfl (AK rfl) λb1=>asg' rfl (q3 (sL [0,1,4,5] rfl) ?_))))))))))
 refine asg' rfl (OkL.nil (q1 (q4 (AO rfl (AG (v:=(vN m)) (AD rfl Tryz.underlying255) rfl (AO rfl (OkL.nil (OkQ.then_ (OkC.block ?_)))))))))
 refine OkC.lp3 (tg λ(i:Nat) (os:List Nat) (c2:Nat)=>i<=m/\os.length=m+1/\W32 os/\c2<2^s/\(∀j,i<=j->os.getD j 0=0)/\val os+c2*4294967296^i=val (bs.take i)*2^s) (tg λ(i:Nat) (os:List Nat) (c2:Nat)=>[(0,(Value.slice (some ⟨p,0,none⟩) m c)),(1,(vN s)),(4,(Value.slice none 0 0)),(5,(Value.slice (some ⟨b1,0,none⟩) (m+1) (m+1))),(13,(Value.slice (some ⟨p,0,none⟩) m c)),(14,(vN m)),(15,(vN i)),(6,(vK .u32 c2))]) (tg λ(i:Nat) (os:List Nat) (c2:Nat)=>[AX b1 92 (Ae os)]) (tg λ(i:Nat) (os:List Nat) (c2:Nat)=>m-i) 0 (List.replicate (m+1) 0) 0 (⟨Nat.zero_le _,by simp,W32.zeros _,Nat.pow_pos (by omega),λj _=>by simp [List.getD_eq_getElem?_getD,List.getElem?_replicate];split<;>rfl,by rw [Dl];simp [val]⟩) (sF rfl) sr (λi os c2 hJ=>?_)
 obtain ⟨hi,hl,hw32,hcb2,h0,hv⟩:=hJ
 refine q4 (AG (Af (c:=(decide (i<m))) rfl rfl (B9 (a:=i) (b:=m))) rfl (OkL.nil (q1 ?_)))
 refine OkC.cond rfl (λhc0=>?_) (λhc0=>?_)
 ·replace hc0:=of_decide_eq_true hc0
  refine OkC.skip (q1 (OkC.block (q4 (AO rfl (AG (v:=(pP p i)) (AL (j:=i) rfl rfl Tryz.underlying255 Tryz.sizeOf92 rfl (by omega) (by simp)) rfl ?_)))))
  have hx1:bs.getD i 0<4294967296:=W32.getD hbs i
  refine AG (BP (v:=(vK .u32 (bs.getD i 0))) rfl (λw' hw=>CA.at0 (hw.oldCA (by simp) (D6 hp)) (A6 (xs:=bs) (j:=i) (by omega))) Tryz.isAgg92) rfl (asg' rfl (asg' rfl (q3 (sL [0,1,4,5,13,14,15,6,7,8] rfl) (AO rfl (AO rfl (AO rfl (AO rfl ?_)))))))
  have hxb:=hbs.getD i
  have hsl:=We hxb hs
  have hs32:(2:Nat)^s<=2^31:=Nat.pow_le_pow_right (by omega) (by omega)
  have hso:=Nl (w:=bs.getD i 0) hcb2 hs
  refine AG (v:=(vK .u32 (bs.getD i 0*2^s%4294967296))) (Fy (s:=s) rfl rfl rfl (show s<=32 by omega) Ke) rfl (AO rfl (AG (IH (c:=((bs.getD i 0*2^s%4294967296+c2:Nat):Int)) rfl rfl (Iw (by omega) (by omega) (W2 hxb hcb2 hs))) rfl (AG (v:=(pP b1 i)) (AL (j:=i) rfl rfl Tryz.underlying255 Tryz.sizeOf92 rfl (by omega) (by simp)) rfl (OkL.store' (i:=0) (off:=i) (vs:=[(vK .u32 (bs.getD i 0*2^s%4294967296+c2))]) (cs':=Ae (os.set i (bs.getD i 0*2^s%4294967296+c2))) (L':=[AX b1 92 (Ae (os.set i (bs.getD i 0*2^s%4294967296+c2)))]) (AP rfl) rfl rfl rfl rfl rfl Tryz.sizeOf92 rfl (CM (BI _) (by omega)) (B0 (by omega)) rfl (OkL.nil (OkQ.subF (sL [0,1,4,5,13,14,15,6,8] rfl) (OkQ.then_ (OkC.region (AO rfl (AG (Ar (c:=((bs.getD i 0:Nat):Int)) rfl Tryz.underlying92 Tryz.underlying69 (BG (by omega))) rfl (AO rfl ?_)))))))))))
  refine AG (v:=(vK .u64 (bs.getD i 0*2^s))) (Fy (s:=s) rfl rfl rfl (show s<=64 by omega) (F4 hsl.1)) rfl (AG (Cc (s:=32) (c:=(((bs.getD i 0*2^s)/4294967296:Nat):Int)) rfl rfl rfl (by decide) (Ff (a:=bs.getD i 0*2^s) (s:=32))) rfl (AG (Ar (c:=(((bs.getD i 0*2^s)/4294967296:Nat):Int)) rfl Tryz.underlying69 Tryz.underlying92 (CO (by omega))) rfl (asg' rfl (OkL.nil (OkQ.subF (sL [0,1,4,5,13,14,15,6,8] rfl) (OkQ.in_normal (OkQ.then_ (OkC.region (AG (AY (c:=((i+1:Nat):Int)) rfl rfl (AT (a:=i) (b:=1) (by omega))) rfl (AO rfl (OkL.nil ?_)))))))))))
  refine OkQ.subF (sL [0,1,4,5,13,14,15,6,8] rfl) ?_
  exact OkQ.round3 (i+1) (os.set i (bs.getD i 0*2^s%4294967296+c2)) (bs.getD i 0*2^s/4294967296) (⟨by omega,by rw [List.length_set];exact hl,W32.set hw32 hso _,hsl.2,λj hj=>by rw [List.getD_eq_getElem?_getD,List.getElem?_set_ne (by omega),<-List.getD_eq_getElem?_getD];exact h0 j (by omega),Nk hl (by omega) h0 hv⟩) (by omega) (sF rfl) sr
 ·replace hc0:=of_decide_eq_false hc0
  have him:i=m:=by omega
  have hs32:(2:Nat)^s<=2^31:=Nat.pow_le_pow_right (by omega) (by omega)
  have hcb:c2<4294967296:=by omega
  refine OkC.exit (OkQ.then_exit (OkQ.round3_exit (OkQ.in_exit (q2 (AO rfl (AO rfl (AG (v:=(vN m)) (AD rfl Tryz.underlying255) rfl (AO rfl (AG (v:=(pP b1 m)) (AL (j:=m) rfl rfl Tryz.underlying255 Tryz.sizeOf92 rfl (by omega) (by simp)) rfl (OkL.store' (i:=0) (off:=m) (vs:=[(vK .u32 c2)]) (cs':=Ae (os.set m c2)) (L':=[AX b1 92 (Ae (os.set m c2))]) (AP rfl) rfl rfl rfl rfl rfl Tryz.sizeOf92 rfl (CM (BI _) (by omega)) (B0 (by omega)) rfl (q3 (sL [0,1,4,5,13,14,15,6] rfl) ?_)))))))))))
  refine AO rfl (asg' rfl (OkL.nil (OkQ.subF (sL [0,1,4,5,13,14,15,6] rfl) (OkQ.then_ (OkC.ret ?_)))))
  have hrow:os.set m c2=CK (m+1) (val (bs.take m)*2^s):=Gp (W32.set hw32 hcb _) (by rw [List.length_set];exact hl) (by rw [Ha hl (by omega) (h0 m (by omega)),<-him];exact hv)
  have hcells:(some (Obj.cells (Ae (os.set m c2)).toArray 92 (0,0)))=some (Obj.cells (Ae (CK (m+1) (val (bs.take m)*2^s))).toArray 92 (0,0)):=by rw [hrow]
  exact ret_one rfl (rd_tmp (v:=(Value.slice (some ⟨b1,0,none⟩) (m+1) (m+1))) rfl) (λw hw=>⟨b1,rfl,hw.out,hw.fresh (i:=0) rfl,(hw.get (i:=0) rfl).trans hcells⟩)
end
end Go.Proofs.YtpolhpjiahbidaaGreatDoor
