import Derived.Test.YtpolhpjiahbidaaGreatDoorPart05
import Derived.Test.YtpolhpjiahbidaaGreatDoorPart08
import Derived.Test.YtpolhpjiahbidaaGreatDoorPart11
namespace Go.Proofs.YtpolhpjiahbidaaGreatDoor
open Go Go.RowKit Go.Proofs.Tryz
set_option linter.unusedVariables false
set_option linter.unusedSimpArgs false
section
set_option maxRecDepth 100000
theorem II (b m c:Nat) (bs:List Nat) (hbs:W32 bs) (hm:m<=bs.length) (hc:m<=c) (hL:c<4398046511104) (w:World) (hb:w.heap[b]?=some (.cells (Ae bs).toArray 92 (0,0))):Calls Tryz.prog 206 #[(Value.slice (some ⟨b,0,none⟩) m c)] w (Ai w (aG (AS (val (bs.take m))))):=by
 have hle:=Im bs m
 have hval:=JW bs m
 have hwd:=Hx hbs hm
 have hnw:=Oi hbs hm
 generalize hK:DY bs m=K at *
 refine AZ (args:=[(Value.slice (some ⟨b,0,none⟩) m c)]) Tryz.func206 rfl rfl (AK rfl) (OkC.subF (sL [0] rfl) (q4 (al FV rfl λb1=>OkL.nil (q2 (AO rfl (Cq Tryz.call189 (λw hw=>Ry _ m c bs hbs (by omega) (by omega) (by omega) w (hw.old (by simp) hb)) rfl (OkL.retell (k:=10) (u:=(Value.slice (some ⟨b,0,none⟩) K c)) rfl (by rw [hK]) (asg' rfl (q6 (sL [0,2] rfl) (q4 ?_))))))))))
 refine AO rfl (AG (v:=(vN K)) (AD rfl Tryz.underlying255) rfl (AG (FP (c:=(decide (K<=2))) rfl rfl (Q6 (a:=K) (b:=2))) rfl (OkL.nil (OkQ.subF (sL [0,2,13] rfl) (OkQ.then_ ?_)))))
 refine OkC.cond rfl (λhc0=>?_) (λhc0=>?_)
 ·replace hc0:=of_decide_eq_true hc0
  refine q4 (asg' rfl (OkL.nil (q1 (q4 (AO rfl (AG (v:=(vN K)) (AD rfl Tryz.underlying255) rfl (AO rfl (OkL.nil (OkQ.then_ (OkC.block ?_))))))))))
  refine OkC.lp2 (tg λ(i:Nat) (n:Nat)=>i<=K/\n=val (bs.take i)) (tg λ(i:Nat) (n:Nat)=>[(0,(Value.slice (some ⟨b,0,none⟩) K c)),(2,(pP b1 0)),(14,(Value.slice (some ⟨b,0,none⟩) K c)),(15,(vN K)),(16,(vN i)),(3,(vK .u64 n))]) (tg λ(i:Nat) (n:Nat)=>[AX b1 71 (AS 0)]) (tg λ(i:Nat) (n:Nat)=>K-i) 0 0 (⟨Nat.zero_le _,by simp [val]⟩) (sF rfl) sr (λi n hJ=>?_)
  obtain ⟨hi,hn⟩:=hJ
  refine q4 (AG (Af (c:=(decide (i<K))) rfl rfl (B9 (a:=i) (b:=K))) rfl (OkL.nil (q1 ?_)))
  refine OkC.cond rfl (λhc1=>?_) (λhc1=>?_)
  ·replace hc1:=of_decide_eq_true hc1
   refine OkC.skip (q1 (OkC.block (q4 (AO rfl (AG (v:=(pP b i)) (AL (j:=i) rfl rfl Tryz.underlying255 Tryz.sizeOf92 rfl (by omega) (by simp)) rfl ?_)))))
   have hx1:bs.getD i 0<4294967296:=W32.getD hbs i
   refine AG (BP (v:=(vK .u32 (bs.getD i 0))) rfl (λw' hw=>CA.at0 (hw.oldCA (by simp) (D6 hb)) (A6 (xs:=bs) (j:=i) (by omega))) Tryz.isAgg92) rfl (asg' rfl (asg' rfl (OkL.nil (OkQ.subF (sL [0,2,14,15,16,3,4,5] rfl) (OkQ.then_ (OkC.region (AO rfl (AO rfl (AG (Ar (c:=((bs.getD i 0:Nat):Int)) rfl Tryz.underlying92 Tryz.underlying69 (BG (by omega))) rfl (AO rfl ?_))))))))))
   have hiK:i<K:=hc1
   have hi2:i<2:=by omega
   have hn2:n<4294967296^i:=by rw [hn];exact Nat.lt_of_lt_of_le (GG (hbs.take i)) (Nat.pow_le_pow_right (by omega) (by simp;omega))
   have hsh:=SS (i:=i) (hbs.getD i) hi2
   have hn3:n<18446744073709551616:=QM hn2 hi2
   refine AG (Cr (c:=((32*i:Nat):Int)) rfl rfl (DN (a:=32) (b:=i) (by omega))) rfl (AG (v:=(vK .u64 (bs.getD i 0*2^(32*i)))) (Fy (s:=32*i) rfl rfl rfl (show 32*i<=64 by omega) (F4 hsh)) rfl (AG (IH (c:=((n+bs.getD i 0*2^(32*i):Nat):Int)) rfl rfl (Ix hn3 hsh (Gu (by rw [<-V5];exact hn2)))) rfl (asg' rfl (OkL.nil (OkQ.subF (sL [0,2,14,15,16,3] rfl) (OkQ.in_normal (OkQ.then_ (OkC.region (AG (AY (c:=((i+1:Nat):Int)) rfl rfl (AT (a:=i) (b:=1) (by omega))) rfl (AO rfl (OkL.nil ?_)))))))))))
   exact OkQ.subF (sL [0,2,14,15,16,3] rfl) (OkQ.round2 (i+1) (n+bs.getD i 0*2^(32*i)) (⟨by omega,by rw [BR,<-hn,V5]⟩) (by omega) (sF rfl) sr)
  ·replace hc1:=of_decide_eq_false hc1
   refine OkC.exit (OkQ.then_exit (OkQ.round2_exit (OkQ.in_exit (q2 (AO rfl ?_)))))
   have hnn:n=val (bs.take K):=by rw [hn,show i=K by omega]
   have hv2:val (bs.take m)<18446744073709551616:=by rw [<-hval];exact Nat.lt_of_lt_of_le (GG (hbs.take K)) (by rw [List.length_take];exact Nat.le_trans (Nat.pow_le_pow_right (n:=4294967296) (by omega) (show min K bs.length<=2 by omega)) (by decide))
   exact AG (v:=(aG ([(vK .u64 n),(Value.string (Bd 0))]))) (AR (zs:=AS 0) (vs:=[(vK .u64 n),(Value.string (Bd 0))]) (pv:=[(0,(vK .u64 n))]) (places:=[(0,1),(1,1)]) Tryz.zeroValue71 Tryz.underlying71 (λw=>by simp [Tryz.sizeOf9,Tryz.sizeOf69]) rfl rfl) rfl (OkL.retell (k:=30) (u:=(aG (AS (val (bs.take m))))) rfl (by rw [DG hv2,<-hval,<-hnn];rfl) (Ay rfl Tryz.sizeOf71 rfl (OkL.nil (OkQ.subF (sL [0,2,14,15,16,3] rfl) (OkQ.then_ (OkC.ret (OkQ.then_ret (ret_one rfl (Aj (i:=0) (cs:=AS (val (bs.take m))) rfl rfl Tryz.isAgg71 Tryz.sizeOf71 rfl) (λw hw=>⟨rfl,hw.out⟩)))))))))
 ·replace hc0:=of_decide_eq_false hc0
  refine OkC.skip (q2 (AO rfl (AG (v:=(vN K)) (AD rfl Tryz.underlying255) rfl (AG (Cr (c:=((4*K:Nat):Int)) rfl rfl (DN (a:=4) (b:=K) (by omega))) rfl (OkL.openV (V:=λb2=>(Value.slice (some ⟨b2,0,none⟩) 0 (4*K))) (T:=5) (cs:=Ig (List.replicate (4*K) 0)) (AP rfl) (OJ (m:=0) (c:=4*K) rfl rfl (by omega) (by omega)) rfl (AK rfl) λb2=>asg' rfl (q6 (sL [0,2,6] rfl) (q4 (AO rfl (AG (v:=(vN K)) (AD rfl Tryz.underlying255) rfl (AO rfl ?_))))))))))
  refine OkL.nil (OkQ.then_ (OkC.block ?_))
  refine OkC.lp2 (tg λ(i:Nat) (bz:List Nat)=>i<=K/\bz=bytesN (bs.take i)++List.replicate (4*(K-i)) 0) (tg λ(i:Nat) (bz:List Nat)=>[(2,(pP b1 0)),(35,(Value.slice (some ⟨b,0,none⟩) K c)),(36,(vN K)),(37,(vN i)),(6,(Value.slice (some ⟨b2,0,none⟩) (4*i) (4*K)))]) (tg λ(i:Nat) (bz:List Nat)=>[AX b2 5 (Ig bz),AX b1 71 (AS 0)]) (tg λ(i:Nat) (bz:List Nat)=>K-i) 0 (List.replicate (4*K) 0) (⟨Nat.zero_le _,by simp [bytesN]⟩) (sF rfl) sr (λi bz hJ=>?_)
  obtain ⟨hi,hz⟩:=hJ
  refine q4 (AG (Af (c:=(decide (i<K))) rfl rfl (B9 (a:=i) (b:=K))) rfl (OkL.nil (q1 ?_)))
  refine OkC.cond rfl (λhc2=>?_) (λhc2=>?_)
  ·replace hc2:=of_decide_eq_true hc2
   refine OkC.skip (q1 (OkC.block (q4 (AG (v:=(pP b i)) (AL (j:=i) rfl rfl Tryz.underlying255 Tryz.sizeOf92 rfl (by omega) (by simp)) rfl ?_))))
   have hx2:bs.getD i 0<4294967296:=W32.getD hbs i
   refine AG (BP (v:=(vK .u32 (bs.getD i 0))) rfl (λw' hw=>CA.at0 (hw.oldCA (by simp) (D6 hb)) (A6 (xs:=bs) (j:=i) (by omega))) Tryz.isAgg92) rfl (asg' rfl (OkL.nil (OkQ.subF (sL [2,35,36,37,6,8] rfl) (OkQ.then_ (OkC.region (AO rfl (AO rfl (AG (Ar (c:=(((bs.getD i 0)%256:Nat):Int)) rfl Tryz.underlying92 Tryz.underlying5 Il) rfl (AO rfl (AG (Cc (s:=8) (c:=(((bs.getD i 0)/256:Nat):Int)) rfl rfl rfl (by decide) (Ff (a:=bs.getD i 0) (s:=8))) rfl (AG (Ar (c:=((((bs.getD i 0)/256)%256:Nat):Int)) rfl Tryz.underlying92 Tryz.underlying5 Il) rfl ?_)))))))))))
   refine AO rfl (AG (Cc (s:=16) (c:=(((bs.getD i 0)/65536:Nat):Int)) rfl rfl rfl (by decide) (Ff (a:=bs.getD i 0) (s:=16))) rfl (AG (Ar (c:=((((bs.getD i 0)/65536)%256:Nat):Int)) rfl Tryz.underlying92 Tryz.underlying5 Il) rfl (AO rfl (AG (Cc (s:=24) (c:=(((bs.getD i 0)/16777216:Nat):Int)) rfl rfl rfl (by decide) (Ff (a:=bs.getD i 0) (s:=24))) rfl (AG (Ar (c:=((((bs.getD i 0)/16777216)%256:Nat):Int)) rfl Tryz.underlying92 Tryz.underlying5 Il) rfl (OkL.openV (V:=λb3=>(Value.slice (some ⟨b3,0,none⟩) 4 4)) (T:=5) (cs:=Ig ([(bs.getD i 0)%256,((bs.getD i 0)/256)%256,((bs.getD i 0)/65536)%256,((bs.getD i 0)/16777216)%256])) (AP rfl) (Av (cs:=Ig ([(bs.getD i 0)%256,((bs.getD i 0)/256)%256,((bs.getD i 0)/65536)%256,((bs.getD i 0)/16777216)%256])) (pv:=[(0,(vK .u8 ((bs.getD i 0)%256))),(1,(vK .u8 (((bs.getD i 0)/256)%256))),(2,(vK .u8 (((bs.getD i 0)/65536)%256))),(3,(vK .u8 (((bs.getD i 0)/16777216)%256)))]) Tryz.underlying86 Tryz.sizeOf5 Tryz.zeroValue5 (by decide) (by decide) rfl (by kernel_rfl)) rfl (AK rfl) λb3=>?_))))))
   obtain ⟨bz2,hz2,hlay⟩:∃bz2,bz2=bytesN (bs.take (i+1))++List.replicate (4*(K-(i+1))) 0/\Fq (Ig bz) (4*i) (Ig ([(bs.getD i 0)%256,((bs.getD i 0)/256)%256,((bs.getD i 0)/65536)%256,((bs.getD i 0)/16777216)%256]))=Ig bz2:=⟨_,rfl,by rw [hz];exact OB hc2 (by omega)⟩
   exact OkL.append_u8 (i:=1) (j:=0) (m:=4*i) (c:=4*K) (k:=4) (cs':=Ig bz2) (L':=[AX b3 5 (Ig ([(bs.getD i 0)%256,((bs.getD i 0)/256)%256,((bs.getD i 0)/65536)%256,((bs.getD i 0)/16777216)%256])),AX b2 5 (Ig bz2),AX b1 71 (AS 0)]) rfl (AP rfl) rfl rfl rfl rfl rfl rfl (by omega) (by rw [Gv,hz];simp [Bp];omega) hlay rfl (AK rfl) (asg' rfl (OkL.nil (OkQ.subF (sL [2,35,36,37,6] rfl) (OkQ.in_normal (OkQ.then_ (OkC.region (AG (AY (c:=((i+1:Nat):Int)) rfl rfl (AT (a:=i) (b:=1) (by omega))) rfl (AO rfl (OkL.nil (OkQ.subF (sL [2,35,36,37,6] rfl) (OkQ.round2 (i+1) bz2 (⟨by omega,hz2⟩) (by omega) (sF rfl) (sl sr))))))))))))
  ·replace hc2:=of_decide_eq_false hc2
   refine OkC.exit (OkQ.then_exit (OkQ.round2_exit (OkQ.in_exit (q2 (AO rfl ?_)))))
   have hbl:bz.length=4*i:=by rw [hz,List.length_append,Bp,List.length_take,List.length_replicate];omega
   have htk:(Ig bz).take (4*i)=Ig bz:=List.take_of_length_le (by rw [Gv];omega)
   refine AG (v:=(Value.string (Cw bz))) (IW (i:=0) (m:=4*i) (ns:=bz) rfl rfl htk hbl) rfl ?_
   have hv3:¬val (bs.take m)<18446744073709551616:=λh=>by have:=JZ h;omega
   have hbz:bz=bytesN (bs.take K):=by rw [hz,show i=K by omega];simp
   exact AG (v:=(aG ([(vK .u64 (Bo 0)),(Value.string (Cw bz))]))) (AR (zs:=AS 0) (vs:=[(vK .u64 (Bo 0)),(Value.string (Cw bz))]) (pv:=[(1,(Value.string (Cw bz)))]) (places:=[(0,1),(1,1)]) Tryz.zeroValue71 Tryz.underlying71 (λw=>by simp [Tryz.sizeOf9,Tryz.sizeOf69]) rfl rfl) rfl (OkL.retell (k:=58) (u:=(aG (AS (val (bs.take m))))) rfl (by rw [SI hv3,hwd,<-hbz];rfl) (Dw rfl Tryz.sizeOf71 rfl (OkL.nil (OkQ.subF (sL [2,35,36,37,6] rfl) (OkQ.then_ (OkC.ret (ret_one rfl (Aj (i:=1) (cs:=AS (val (bs.take m))) rfl rfl Tryz.isAgg71 Tryz.sizeOf71 rfl) (λw hw=>⟨rfl,hw.out⟩))))))))
end
section
set_option maxRecDepth 100000
theorem Wf (a b p q c c2:Nat) (ha:nw a<=1099511627776) (hb:nw b<=1099511627776) (w:World) (hp:w.heap[p]?=some (.cells (Ae (Am a)).toArray 92 (0,0))) (hq:w.heap[q]?=some (.cells (Ae (Am b)).toArray 92 (0,0))):Calls Tryz.prog 271 #[(Value.slice (some ⟨p,0,none⟩) (nw a) c),(Value.slice (some ⟨q,0,none⟩) (nw b) c2)] w (Ai w (vI (Cp a b))):=by
 have hla:=B1 a
 have hlb:=B1 b
 refine AZ (args:=[(Value.slice (some ⟨p,0,none⟩) (nw a) c),(Value.slice (some ⟨q,0,none⟩) (nw b) c2)]) Tryz.func271 rfl rfl (AK rfl) (OkC.subF (sL [0,1] rfl) (q4 (asg' rfl (OkL.nil (q1 (q4 (AO rfl (AG (v:=(vN (nw a))) (AD rfl Tryz.underlying255) rfl (AO rfl (AG (v:=(vN (nw b))) (AD rfl Tryz.underlying255) rfl (AG (CQ (c:=(decide ((nw a)≠(nw b)))) rfl rfl (XH (a:=nw a) (b:=nw b))) rfl ?_)))))))))))
 refine OkL.nil (OkQ.subF (sL [0,1,4,10] rfl) (OkQ.then_ ?_))
 refine OkC.cond rfl (λhc0=>?_) (λhc0=>?_)
 ·replace hc0:=of_decide_eq_true hc0
  refine q4 (AO rfl (AG (v:=(vN (nw a))) (AD rfl Tryz.underlying255) rfl (AO rfl (AG (v:=(vN (nw b))) (AD rfl Tryz.underlying255) rfl (AG (BJ (c:=((nw a:Int)-(nw b:Int))) rfl rfl (BD (by omega) (by omega))) rfl (ck' Tryz.call296 (UG _ (by omega) (by omega)) rfl (OkL.retell (k:=16) (u:=(vI (Cp a b))) rfl (by rw [VC hc0]) (asg' rfl (OkL.nil (OkQ.subF (sL [0,1,4] rfl) (OkQ.then_ ?_)))))))))))
  exact OkC.ret (OkQ.then_ret (ret_one rfl (rd_tmp (v:=(vI (Cp a b))) rfl) (λw hw=>⟨rfl,hw.out⟩)))
 ·replace hc0:=of_decide_eq_false hc0
  refine OkC.skip (q1 (q4 (AO rfl (AG (v:=(vN (nw a))) (AD rfl Tryz.underlying255) rfl (AG (BJ (c:=(((nw a:Nat):Int)-1)) rfl rfl (BD (by omega) (by omega))) rfl (asg' rfl (OkL.nil (OkQ.subF (sL [0,1,4,5] rfl) (OkQ.then_ (OkC.block ?_))))))))))
  refine OkC.lp1 (tg λ(k:Nat)=>k<=nw a/\(AM a).drop k=(AM b).drop k) (tg λ(k:Nat)=>[(0,(Value.slice (some ⟨p,0,none⟩) (nw a) c)),(1,(Value.slice (some ⟨q,0,none⟩) (nw b) c2)),(5,(vI (((k:Nat):Int)-1)))]) (tg λ(k:Nat)=>[]) (tg λ(k:Nat)=>k) (nw a) (⟨Nat.le_refl _,by rw [List.drop_of_length_le (by exact Nat.le_refl _),List.drop_of_length_le (by unfold nw at *;omega)]⟩) (sF rfl) sr (λk hJ=>?_)
  obtain ⟨hk,hd⟩:=hJ
  refine OkC.seq (q4 (AO rfl (AG (B_ (c:=(decide ((0:Int)<=(((k:Nat):Int)-1)))) rfl rfl rfl) rfl (OkL.nil (OkQ.subF (sL [0,1,5,21] rfl) (OkQ.then_ ?_))))))
  refine OkC.cond rfl (λhc1=>?_) (λhc1=>?_)
  ·replace hc1:=of_decide_eq_true hc1
   have hk0:0<k:=by omega
   refine OkC.retell (k:=5) (u:=(vN (k-1))) rfl (by congr 1;omega) (OkC.skip (q1 (OkC.block (OkC.seq (CV [(0,true),(1,true),(2,true),(3,true),(4,true),(5,true),(6,true),(7,true),(8,true)] sr ?_)))))
   have ea:(Am a).getD (k-1) 0=(AM a).getD (k-1) 0:=DA (by omega)
   have eb:(Am b).getD (k-1) 0=(AM b).getD (k-1) 0:=DA (by omega)
   refine BN rfl (BN rfl (Ag (v:=(pP p (k-1))) rfl (AL (j:=k-1) rfl rfl Tryz.underlying255 Tryz.sizeOf92 rfl (by omega) (by simp)) ?_))
   have hx1:(Am a).getD (k-1) 0<4294967296:=W32.getD (B2 a) (k-1)
   refine Ag rfl (BP (v:=(vK .u32 ((Am a).getD (k-1) 0))) rfl (λw' hw=>CA.at0 (hw.oldCA (by simp) (D6 hp)) (A6 (xs:=Am a) (j:=(k-1)) (by omega))) Tryz.isAgg92) (BN rfl (BN rfl (Ag (v:=(pP q (k-1))) rfl (AL (j:=k-1) rfl rfl Tryz.underlying255 Tryz.sizeOf92 rfl (by omega) (by simp)) ?_)))
   have hx2:(Am b).getD (k-1) 0<4294967296:=W32.getD (B2 b) (k-1)
   refine Ag rfl (BP (v:=(vK .u32 ((Am b).getD (k-1) 0))) rfl (λw' hw=>CA.at0 (hw.oldCA (by simp) (D6 hq)) (A6 (xs:=Am b) (j:=(k-1)) (by omega))) Tryz.isAgg92) (Ag rfl (CQ (c:=(decide (((Am a).getD (k-1) 0)≠((Am b).getD (k-1) 0)))) rfl rfl (XH (a:=(Am a).getD (k-1) 0) (b:=(Am b).getD (k-1) 0))) (OkE.nil (OkQ.subF (sL [0,1,5,32] rfl) (OkQ.then_ ?_))))
   refine OkC.cond rfl (λhc2=>?_) (λhc2=>?_)
   ·replace hc2:=of_decide_eq_true hc2
    have hcw:=QJ (by omega) hk0 hk hd (by omega)
    refine OkC.seq (OkC.seq (CV [(0,true),(1,true),(2,true),(3,true),(4,true),(5,true),(6,true),(7,true),(8,true)] sr (BN rfl (BN rfl (Ag (v:=(pP p (k-1))) rfl (AL (j:=k-1) rfl rfl Tryz.underlying255 Tryz.sizeOf92 rfl (by omega) (by simp)) ?_)))))
    have hx3:(Am a).getD (k-1) 0<4294967296:=W32.getD (B2 a) (k-1)
    refine Ag rfl (BP (v:=(vK .u32 ((Am a).getD (k-1) 0))) rfl (λw' hw=>CA.at0 (hw.oldCA (by simp) (D6 hp)) (A6 (xs:=Am a) (j:=(k-1)) (by omega))) Tryz.isAgg92) (BN rfl (BN rfl (Ag (v:=(pP q (k-1))) rfl (AL (j:=k-1) rfl rfl Tryz.underlying255 Tryz.sizeOf92 rfl (by omega) (by simp)) ?_)))
    have hx4:(Am b).getD (k-1) 0<4294967296:=W32.getD (B2 b) (k-1)
    refine Ag rfl (BP (v:=(vK .u32 ((Am b).getD (k-1) 0))) rfl (λw' hw=>CA.at0 (hw.oldCA (by simp) (D6 hq)) (A6 (xs:=Am b) (j:=(k-1)) (by omega))) Tryz.isAgg92) (Ag rfl (Af (c:=(decide (((Am a).getD (k-1) 0)<((Am b).getD (k-1) 0)))) rfl rfl (B9 (a:=(Am a).getD (k-1) 0) (b:=(Am b).getD (k-1) 0))) (OkE.nil (OkQ.subF (sL [0,1,5,41] rfl) (OkQ.then_ ?_))))
    refine OkC.cond rfl (λhc3=>?_) (λhc3=>?_)
    ·replace hc3:=of_decide_eq_true hc3
     rw [if_pos (by omega)] at hcw
     exact q4 (asg' rfl (OkL.nil (OkQ.then_ (OkC.ret (OkQ.then_ret (OkQ.in_ret (OkQ.then_ret (OkQ.round1_ret (OkQ.in_ret (OkQ.then_ret (ret_one rfl (rd_tmp (v:=(vI (-1:Int))) rfl) (λw hw=>⟨by rw [hcw],hw.out⟩))))))))))))
    ·replace hc3:=of_decide_eq_false hc3
     rw [if_neg (by omega)] at hcw
     exact OkC.skip (q2 (asg' rfl (OkL.nil (OkQ.then_ (OkC.ret (OkQ.in_ret (OkQ.then_ret (OkQ.round1_ret (OkQ.in_ret (OkQ.then_ret (ret_one rfl (rd_tmp (v:=(vI 1)) rfl) (λw hw=>⟨by rw [hcw],hw.out⟩))))))))))))
   ·replace hc2:=of_decide_eq_false hc2
    exact OkC.skip (OkQ.in_normal (OkQ.then_ (OkC.region (AO rfl (AG (BJ (c:=(((k-1:Nat):Int)-1)) rfl rfl (BD (by omega) (by omega))) rfl (asg' rfl (OkL.nil (OkQ.subF (sL [0,1,5] rfl) (OkQ.round1 (k-1) (⟨by omega,Qc (by unfold nw at hc0;omega) (by omega) hk hd (by omega)⟩) (by omega) (sF rfl) sr)))))))))
  ·replace hc1:=of_decide_eq_false hc1
   have hk0:k=0:=by omega
   subst hk0
   have hz:=ST hd
   exact OkC.exit (OkQ.then_exit (OkQ.round1_exit (OkQ.in_exit (q2 (asg' rfl (OkL.nil (OkQ.then_ (OkC.ret (ret_one rfl (rd_tmp (v:=(vI 0)) rfl) (λw hw=>⟨by rw [hz],hw.out⟩))))))))))
end
end Go.Proofs.YtpolhpjiahbidaaGreatDoor
