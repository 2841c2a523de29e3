import Derived.Test.YtpolhpjiahbidaaGreatDoorPart05
import Derived.Test.YtpolhpjiahbidaaGreatDoorPart08
namespace Go.Proofs.YtpolhpjiahbidaaGreatDoor
open Go Go.RowKit Go.Proofs.Tryz
set_option linter.unusedVariables false
set_option linter.unusedSimpArgs false
section
set_option maxRecDepth 100000
theorem IY (b m c:Nat) (bs:List Nat) (hbs:W32 bs) (hm:m<=bs.length) (hc:m<=c) (hL:c<4398046511104) (w:World) (hb:w.heap[b]?=some (.cells (Ag bs).toArray 92 (0,0))):Calls prog 206 #[(Value.slice (some ⟨b,0,none⟩) m c)] w (Ah w (aG (AS (val (bs.take m))))):=by
 have hle:=JE bs m
 have hval:=JV bs m
 have hwd:=IP hbs hm
 have hnw:=Pc hbs hm
 generalize hK:Do bs m=K at *
 refine Ab (args:=[(Value.slice (some ⟨b,0,none⟩) m c)]) func206 O O (AI O) (OkC.subF (sL [0] O) (q4 (al Fi O λb1=>OkL.nil (q2 (AM O (Ce call189 (λw hw=>Um _ m c bs hbs Z Z Z w (hw.old (by simp) hb)) O (OkL.retell (k:=10) (u:=(Value.slice (some ⟨b,0,none⟩) K c)) O (by rw [hK]) (asg' O (q6 (sL [0,2] O) (q4 ?_))))))))))
 refine AM O (AH (v:=(vN K)) (AD O underlying255) O (AH (Fx (c:=(decide (K<=2))) O O (SC (a:=K) (b:=2))) O (OkL.nil (OkQ.subF (sL [0,2,13] O) (OkQ.then_ ?_)))))
 refine OkC.cond O (λhc0=>?_) (λhc0=>?_)
 ·replace hc0:=of_decide_eq_true hc0
  refine q4 (asg' O (OkL.nil (q1 (q4 (AM O (AH (v:=(vN K)) (AD O underlying255) O (AM O (OkL.nil (OkQ.then_ (OkC.block ?_))))))))))
  refine OkC.lp2 (tg λ(i:Nat) (n:Nat)=>i<=K/\n=val (bs.take i)) (tg λ(i:Nat) (n:Nat)=>[(0,(Value.slice (some ⟨b,0,none⟩) K c)),(2,(pP b1 0)),(14,(Value.slice (some ⟨b,0,none⟩) K c)),(15,(vN K)),(16,(vN i)),(3,(vK .u64 n))]) (tg λ(i:Nat) (n:Nat)=>[AU b1 71 (AS 0)]) (tg λ(i:Nat) (n:Nat)=>K-i) 0 0 (⟨Nat.zero_le _,by simp [val]⟩) (sF O) sr (λi n hJ=>?_)
  obtain ⟨hi,hn⟩:=hJ
  refine q4 (AH (Ae (c:=(decide (i<K))) O O (CB (a:=i) (b:=K))) O (OkL.nil (q1 ?_)))
  refine OkC.cond O (λhc1=>?_) (λhc1=>?_)
  ·replace hc1:=of_decide_eq_true hc1
   refine OkC.skip (q1 (OkC.block (q4 (AM O (AH (v:=(pP b i)) (AK (j:=i) O O underlying255 sizeOf92 O Z (by simp)) O ?_)))))
   have hx1:bs.getD i 0<4294967296:=W32.getD hbs i
   refine AH (BR (v:=(vK .u32 (bs.getD i 0))) O (λw' hw=>CA.at0 (hw.oldCA (by simp) (EM hb)) (A8 (xs:=bs) (j:=i) Z)) isAgg92) O (asg' O (asg' O (OkL.nil (OkQ.subF (sL [0,2,14,15,16,3,4,5] O) (OkQ.then_ (OkC.region (AM O (AM O (AH (Aw (c:=((bs.getD i 0:Nat):Int)) O underlying92 underlying69 (BK Z)) O (AM O ?_))))))))))
   have hiK:i<K:=hc1
   have hi2:i<2:=by omega
   have hn2:n<4294967296^i:=by rw [hn];exact Nat.lt_of_lt_of_le (GA (hbs.take i)) (Nat.pow_le_pow_right Z (by simp;omega))
   have hsh:=T8 (i:=i) (hbs.getD i) hi2
   have hn3:n<18446744073709551616:=Rk hn2 hi2
   refine AH (CN (c:=((32*i:Nat):Int)) O O (CT (a:=32) (b:=i) Z)) O (AH (v:=(vK .u64 (bs.getD i 0*2^(32*i)))) (GV (s:=32*i) O O O (show 32*i<=64 by omega) (GW hsh)) O (AH (IZ (c:=((n+bs.getD i 0*2^(32*i):Nat):Int)) O O (I6 hn3 hsh (G9 (by rw [<-W9];exact hn2)))) O (asg' O (OkL.nil (OkQ.subF (sL [0,2,14,15,16,3] O) (OkQ.in_normal (OkQ.then_ (OkC.region (AH (AX (c:=((i+1:Nat):Int)) O O (AR (a:=i) (b:=1) Z)) O (AM O (OkL.nil ?_)))))))))))
   exact OkQ.subF (sL [0,2,14,15,16,3] O) (OkQ.round2 (i+1) (n+bs.getD i 0*2^(32*i)) (⟨Z,by rw [BS,<-hn,W9]⟩) Z (sF O) sr)
  ·replace hc1:=of_decide_eq_false hc1
   refine OkC.exit (OkQ.then_exit (OkQ.round2_exit (OkQ.in_exit (q2 (AM O ?_)))))
   have hnn:n=val (bs.take K):=by rw [hn,show i=K by omega]
   have hv2:val (bs.take m)<18446744073709551616:=by rw [<-hval];exact Nat.lt_of_lt_of_le (GA (hbs.take K)) (by rw [List.length_take];exact Nat.le_trans (Nat.pow_le_pow_right (n:=4294967296) Z (show min K bs.length<=2 by omega)) (by decide))
   exact AH (v:=(aG ([(vK .u64 n),(Value.string (Bc 0))]))) (AQ (zs:=AS 0) (vs:=[(vK .u64 n),(Value.string (Bc 0))]) (pv:=[(0,(vK .u64 n))]) (places:=[(0,1),(1,1)]) zeroValue71 underlying71 (λw=>by simp [sizeOf9,sizeOf69]) O O) O (OkL.retell (k:=30) (u:=(aG (AS (val (bs.take m))))) O (by rw [DU hv2,<-hval,<-hnn];rfl) (Ax O sizeOf71 O (OkL.nil (OkQ.subF (sL [0,2,14,15,16,3] O) (OkQ.then_ (OkC.ret (OkQ.then_ret (ret_one O (Ak (i:=0) (cs:=AS (val (bs.take m))) O O isAgg71 sizeOf71 O) (λw hw=>⟨rfl,hw.out⟩)))))))))
 ·replace hc0:=of_decide_eq_false hc0
  refine OkC.skip (q2 (AM O (AH (v:=(vN K)) (AD O underlying255) O (AH (CN (c:=((4*K:Nat):Int)) O O (CT (a:=4) (b:=K) Z)) O (OkL.openV (V:=λb2=>(Value.slice (some ⟨b2,0,none⟩) 0 (4*K))) (T:=5) (cs:=I0 (List.replicate (4*K) 0)) (AP O) (OQ (m:=0) (c:=4*K) O O Z Z) O (AI O) λb2=>asg' O (q6 (sL [0,2,6] O) (q4 (AM O (AH (v:=(vN K)) (AD O underlying255) O (AM O ?_))))))))))
  refine OkL.nil (OkQ.then_ (OkC.block ?_))
  refine OkC.lp2 (tg λ(i:Nat) (bz:List Nat)=>i<=K/\bz=bytesN (bs.take i)++List.replicate (4*(K-i)) 0) (tg λ(i:Nat) (bz:List Nat)=>[(2,(pP b1 0)),(35,(Value.slice (some ⟨b,0,none⟩) K c)),(36,(vN K)),(37,(vN i)),(6,(Value.slice (some ⟨b2,0,none⟩) (4*i) (4*K)))]) (tg λ(i:Nat) (bz:List Nat)=>[AU b2 5 (I0 bz),AU b1 71 (AS 0)]) (tg λ(i:Nat) (bz:List Nat)=>K-i) 0 (List.replicate (4*K) 0) (⟨Nat.zero_le _,by simp [bytesN]⟩) (sF O) sr (λi bz hJ=>?_)
  obtain ⟨hi,hz⟩:=hJ
  refine q4 (AH (Ae (c:=(decide (i<K))) O O (CB (a:=i) (b:=K))) O (OkL.nil (q1 ?_)))
  refine OkC.cond O (λhc2=>?_) (λhc2=>?_)
  ·replace hc2:=of_decide_eq_true hc2
   refine OkC.skip (q1 (OkC.block (q4 (AH (v:=(pP b i)) (AK (j:=i) O O underlying255 sizeOf92 O Z (by simp)) O ?_))))
   have hx2:bs.getD i 0<4294967296:=W32.getD hbs i
   refine AH (BR (v:=(vK .u32 (bs.getD i 0))) O (λw' hw=>CA.at0 (hw.oldCA (by simp) (EM hb)) (A8 (xs:=bs) (j:=i) Z)) isAgg92) O (asg' O (OkL.nil (OkQ.subF (sL [2,35,36,37,6,8] O) (OkQ.then_ (OkC.region (AM O (AM O (AH (Aw (c:=(((bs.getD i 0)%256:Nat):Int)) O underlying92 underlying5 JH) O (AM O (AH (Cg (s:=8) (c:=(((bs.getD i 0)/256:Nat):Int)) O O O (by decide) (Fy (a:=bs.getD i 0) (s:=8))) O (AH (Aw (c:=((((bs.getD i 0)/256)%256:Nat):Int)) O underlying92 underlying5 JH) O ?_)))))))))))
   refine AM O (AH (Cg (s:=16) (c:=(((bs.getD i 0)/65536:Nat):Int)) O O O (by decide) (Fy (a:=bs.getD i 0) (s:=16))) O (AH (Aw (c:=((((bs.getD i 0)/65536)%256:Nat):Int)) O underlying92 underlying5 JH) O (AM O (AH (Cg (s:=24) (c:=(((bs.getD i 0)/16777216:Nat):Int)) O O O (by decide) (Fy (a:=bs.getD i 0) (s:=24))) O (AH (Aw (c:=((((bs.getD i 0)/16777216)%256:Nat):Int)) O underlying92 underlying5 JH) O (OkL.openV (V:=λb3=>(Value.slice (some ⟨b3,0,none⟩) 4 4)) (T:=5) (cs:=I0 ([(bs.getD i 0)%256,((bs.getD i 0)/256)%256,((bs.getD i 0)/65536)%256,((bs.getD i 0)/16777216)%256])) (AP O) (Ao (cs:=I0 ([(bs.getD i 0)%256,((bs.getD i 0)/256)%256,((bs.getD i 0)/65536)%256,((bs.getD i 0)/16777216)%256])) (pv:=[(0,(vK .u8 ((bs.getD i 0)%256))),(1,(vK .u8 (((bs.getD i 0)/256)%256))),(2,(vK .u8 (((bs.getD i 0)/65536)%256))),(3,(vK .u8 (((bs.getD i 0)/16777216)%256)))]) underlying86 sizeOf5 zeroValue5 (by decide) (by decide) O (by kernel_rfl)) O (AI O) λb3=>?_))))))
   obtain ⟨bz2,hz2,hlay⟩:∃bz2,bz2=bytesN (bs.take (i+1))++List.replicate (4*(K-(i+1))) 0/\F6 (I0 bz) (4*i) (I0 ([(bs.getD i 0)%256,((bs.getD i 0)/256)%256,((bs.getD i 0)/65536)%256,((bs.getD i 0)/16777216)%256]))=I0 bz2:=⟨_,rfl,by rw [hz];exact O7 hc2 Z⟩
   exact OkL.append_u8 (i:=1) (j:=0) (m:=4*i) (c:=4*K) (k:=4) (cs':=I0 bz2) (L':=[AU b3 5 (I0 ([(bs.getD i 0)%256,((bs.getD i 0)/256)%256,((bs.getD i 0)/65536)%256,((bs.getD i 0)/16777216)%256])),AU b2 5 (I0 bz2),AU b1 71 (AS 0)]) O (AP O) O O O O O O Z (by rw [G8,hz];simp [Bq];omega) hlay O (AI O) (asg' O (OkL.nil (OkQ.subF (sL [2,35,36,37,6] O) (OkQ.in_normal (OkQ.then_ (OkC.region (AH (AX (c:=((i+1:Nat):Int)) O O (AR (a:=i) (b:=1) Z)) O (AM O (OkL.nil (OkQ.subF (sL [2,35,36,37,6] O) (OkQ.round2 (i+1) bz2 (⟨Z,hz2⟩) Z (sF O) (sl sr))))))))))))
  ·replace hc2:=of_decide_eq_false hc2
   refine OkC.exit (OkQ.then_exit (OkQ.round2_exit (OkQ.in_exit (q2 (AM O ?_)))))
   have hbl:bz.length=4*i:=by rw [hz,List.length_append,Bq,List.length_take,List.length_replicate];omega
   have htk:(I0 bz).take (4*i)=I0 bz:=List.take_of_length_le (by rw [G8];omega)
   refine AH (v:=(Value.string (C3 bz))) (I3 (i:=0) (m:=4*i) (ns:=bz) O O htk hbl) O ?_
   have hv3:¬val (bs.take m)<18446744073709551616:=λh=>by have:=Kb h;omega
   have hbz:bz=bytesN (bs.take K):=by rw [hz,show i=K by omega];simp
   exact AH (v:=(aG ([(vK .u64 (Bo 0)),(Value.string (C3 bz))]))) (AQ (zs:=AS 0) (vs:=[(vK .u64 (Bo 0)),(Value.string (C3 bz))]) (pv:=[(1,(Value.string (C3 bz)))]) (places:=[(0,1),(1,1)]) zeroValue71 underlying71 (λw=>by simp [sizeOf9,sizeOf69]) O O) O (OkL.retell (k:=58) (u:=(aG (AS (val (bs.take m))))) O (by rw [Ui hv3,hwd,<-hbz];rfl) (EG O sizeOf71 O (OkL.nil (OkQ.subF (sL [2,35,36,37,6] O) (OkQ.then_ (OkC.ret (ret_one O (Ak (i:=1) (cs:=AS (val (bs.take m))) O O isAgg71 sizeOf71 O) (λw hw=>⟨rfl,hw.out⟩))))))))
end
section
def Cu (a b:Nat):Int:=if a<b then -1 else if a=b then 0 else 1
theorem E8 {a b:Nat}:Cu a b<0↔a<b:=by
  unfold Cu;split
  · omega
  · split<;>omega
theorem MY {a b:Nat}:Cu a b=0↔a=b:=by
  unfold Cu;split
  · omega
  · split<;>omega
theorem VU {a b:Nat} (h:nw a≠nw b):((nw a:Int)-(nw b:Int)).sign=Cu a b:=by
  unfold Cu
  by_cases h1:nw a<nw b
  · have h2:a<b:=by
      rcases Nat.lt_or_ge a b with h2|h2
      · exact h2
      · have:=Ck h2;omega
    rw [if_pos h2,Int.sign_eq_neg_one_of_neg Z]
  · have h2:b<a:=by
      rcases Nat.lt_or_ge b a with h2|h2
      · exact h2
      · have:=Ck h2;omega
    rw [if_neg Z,if_neg Z,Int.sign_eq_one_of_pos Z]
theorem T_ {xs ys:List Nat} {k:Nat} (hx:W32 xs) (hl:xs.length=ys.length) (h0:0<k) (hk:k<=xs.length) (hd:xs.drop k=ys.drop k) (h:xs.getD (k-1) 0<ys.getD (k-1) 0):val xs<val ys:=by
  have e1:=Eg xs k hk
  have e2:=Eg ys k Z
  have s1:=BS xs (k-1)
  have s2:=BS ys (k-1)
  rw [show k-1+1=k by omega] at s1 s2
  have h1:val (xs.take (k-1))<4294967296^(k-1):=Nat.lt_of_lt_of_le (GA (hx.take (k-1))) (Nat.pow_le_pow_right Z (by simp;omega))
  have h2:(xs.getD (k-1) 0+1)*4294967296^(k-1)<=ys.getD (k-1) 0*4294967296^(k-1):=Nat.mul_le_mul_right _ h
  rw [Nat.add_mul] at h2
  rw [hd] at e1
  omega
theorem RN {xs ys:List Nat} {k:Nat} (hl:xs.length=ys.length) (h0:0<k) (hk:k<=xs.length) (hd:xs.drop k=ys.drop k) (h:xs.getD (k-1) 0=ys.getD (k-1) 0):xs.drop (k-1)=ys.drop (k-1):=by
  have h1:k-1<xs.length:=by omega
  have h2:k-1<ys.length:=by omega
  rw [List.drop_eq_getElem_cons h1,List.drop_eq_getElem_cons h2,show k-1+1=k by omega,hd]
  simp [h1,h2] at h
  rw [h]
theorem Rh {a b k:Nat} (hl:nw a=nw b) (h0:0<k) (hk:k<=nw a) (hd:(AN a).drop k=(AN b).drop k) (hne:(AN a).getD (k-1) 0≠(AN b).getD (k-1) 0) :
    Cu a b=if (AN a).getD (k-1) 0<(AN b).getD (k-1) 0 then -1 else 1:=by
  unfold Cu
  split
  · rename_i h
    rw [if_pos]
    rcases Nat.lt_or_ge ((AN a).getD (k-1) 0) ((AN b).getD (k-1) 0) with h1|h1
    · exact h1
    · have:=T_ (Bi b) hl.symm h0 (by unfold nw at *;omega) hd.symm (show (AN b).getD (k-1) 0<(AN a).getD (k-1) 0 by omega)
      rw [CF,CF] at this;omega
  · rename_i h
    have h2:¬(AN a).getD (k-1) 0<(AN b).getD (k-1) 0:=λh1=>by
      have:=T_ (Bi a) hl h0 hk hd h1
      rw [CF,CF] at this;omega
    rw [if_neg h2,if_neg]
    intro e;subst e;exact hne rfl
theorem SU {a b:Nat} (hd:(AN a).drop 0=(AN b).drop 0):Cu a b=0:=by
  rw [MY]
  rw [List.drop_zero,List.drop_zero] at hd
  rw [<-CF a,<-CF b,hd]
theorem DJ {v i:Nat} (h:i<nw v):(Aq v).getD i 0=(AN v).getD i 0:=by
  rw [<-Hq v]
  simp [List.getD_eq_getElem?_getD,List.getElem?_take,h]
theorem EO {v i:Nat} (h:¬i<nw v):(AN v).getD i 0=0:=by
  unfold nw at h;simp [List.getD_eq_getElem?_getD,Nat.not_lt.1 h]
theorem C7 {v i:Nat} (h:nw v<=i):val ((AN v).take i)=v:=by
  rw [List.take_of_length_le h,CF]
theorem WX (v:Nat):(Aq v).length<=nw v+2:=by
  unfold Aq;split
  · simp
  · unfold nw;omega
theorem HQ (v:Nat):val ((Aq v).take (nw v))=v:=by rw [Hq,CF]
theorem NM {os ys:List Nat} {X i n c:Nat} (hl:os.length=n) (hi:i<n) (hv:val os+c*4294967296^i=X+val (ys.take i)) :
    val (os.set i ((os.getD i 0+ys.getD i 0+c)%4294967296))+(os.getD i 0+ys.getD i 0+c)/4294967296*4294967296^(i+1)=X+val (ys.take (i+1)):=by
  have e:=E2 (xs:=os) (i:=i) Z ((os.getD i 0+ys.getD i 0+c)%4294967296)
  have t:=BS ys i
  have hm:=Nat.div_add_mod (os.getD i 0+ys.getD i 0+c) 4294967296
  rw [Nat.pow_succ]
  generalize os.getD i 0=o at *
  generalize ys.getD i 0=y at *
  generalize (o+y+c)/4294967296=q at *
  generalize (o+y+c)%4294967296=r at *
  generalize 4294967296^i=p at *
  have hm2:(4294967296*q+r)*p=(o+y+c)*p:=by rw [hm]
  grind
theorem Ns {os:List Nat} {X Y n c i:Nat} (hl:os.length=n) (hw:W32 os) (hi:n<=i) (hX:X+Y<4294967296^n) (hv:val os+c*4294967296^i=X+Y):val os=X+Y:=by
  have h1:4294967296^n<=4294967296^i:=Nat.pow_le_pow_right Z hi
  rcases Nat.eq_zero_or_pos c with h|h
  · subst h;omega
  · have:1*4294967296^i<=c*4294967296^i:=Nat.mul_le_mul_right _ h
    omega
theorem Ss {os ys:List Nat} {X i n c:Nat} (hl:os.length=n) (hi:i<n) (hw:W32 os) (hy:W32 ys) (hc:c<=1) (hv:val os+val (ys.take i)=X+c*4294967296^i) :
    val (os.set i ((os.getD i 0+(4294967296-ys.getD i 0)+(4294967296-c))%4294967296))+val (ys.take (i+1))=X+Im (os.getD i 0) (ys.getD i 0+c)*4294967296^(i+1):=by
  have e:=E2 (xs:=os) (i:=i) Z ((os.getD i 0+(4294967296-ys.getD i 0)+(4294967296-c))%4294967296)
  have t:=BS ys i
  have ho:=hw.getD i
  have hy':=hy.getD i
  rw [Nat.pow_succ]
  have hm:(os.getD i 0+(4294967296-ys.getD i 0)+(4294967296-c))%4294967296+ys.getD i 0+c=os.getD i 0+Im (os.getD i 0) (ys.getD i 0+c)*4294967296:=by
    unfold Im;split<;>omega
  generalize (os.getD i 0+(4294967296-ys.getD i 0)+(4294967296-c))%4294967296=r at *
  generalize Im (os.getD i 0) (ys.getD i 0+c)=q at *
  generalize os.getD i 0=o at *
  generalize ys.getD i 0=y at *
  generalize 4294967296^i=p at *
  have hm2:(r+y+c)*p=(o+q*4294967296)*p:=by rw [hm]
  grind
theorem SD {os:List Nat} {X Y n c i:Nat} (hl:os.length=n) (hw:W32 os) (hi:i=n) (hX:Y<=X) (hv:val os+Y=X+c*4294967296^i) (hX2:X<4294967296^n):val os=X-Y:=by
  have h1:=GA hw
  rw [hl] at h1
  subst hi
  rcases Nat.eq_zero_or_pos c with h|h
  · subst h;omega
  · have:1*4294967296^i<=c*4294967296^i:=Nat.mul_le_mul_right _ h
    omega
theorem Ox (x y:Nat):Im x y<=1:=by unfold Im;split<;>omega
theorem Sk {os ys:List Nat} {S W i k n c:Nat} (hl:os.length=n) (hi:i+k<n) (hv:val os+c*4294967296^(i+k)=S+W*val (ys.take k)*4294967296^i) :
    val (os.set (i+k) ((c+(W*ys.getD k 0+os.getD (i+k) 0))%4294967296))+(c+(W*ys.getD k 0+os.getD (i+k) 0))/4294967296*4294967296^(i+(k+1))=S+W*val (ys.take (k+1))*4294967296^i:=by
  have e:=E2 (xs:=os) (i:=i+k) Z ((c+(W*ys.getD k 0+os.getD (i+k) 0))%4294967296)
  have t:=BS ys k
  have hm:=Nat.div_add_mod (c+(W*ys.getD k 0+os.getD (i+k) 0)) 4294967296
  rw [t,show i+(k+1)=i+k+1 by omega,Nat.pow_succ]
  rw [Nat.pow_add] at *
  generalize os.getD (i+k) 0=o at *
  generalize ys.getD k 0=y at *
  generalize (c+(W*y+o))/4294967296=q at *
  generalize (c+(W*y+o))%4294967296=r at *
  generalize 4294967296^i=p at *
  generalize 4294967296^k=p' at *
  generalize val (ys.take k)=vy at *
  have hm2:(4294967296*q+r)*(p*p')=(c+(W*y+o))*(p*p'):=by rw [hm]
  grind
section
variable {n:Nat} {F:List (Nat×Value)} {w0:A_} {L:List As} {v:Value} {x y:Operand} {d:Option Tmp} {t:TypeId} {p:String} {af:Array Edge} {g:Option (Nat×Bool)}
theorem OkL.copy_u32 {ops:Array Oper} {rest:List Oper} {Q:Exit->Act->World->Prop} {L':List As} {i j b b' m c k c' dd:Nat} {cs ds ns cs':List Value} {o:Oper} (ho:o=⟨some dd,.call { callee:=.builtin .copy,args:=#[x,y],argTypes:=#[255,255] },t,p,af,g⟩) (hw:Wt ops n F o)
    (hx:evF F x=some (.slice (some ⟨b,0,none⟩) m c)) (hy:evF F y=some (.slice (some ⟨b',0,none⟩) k c')) (hi:L[i]?=some (AU b 92 cs)) (hj:L[j]?=some (AU b' 92 ds)) (hns:ds.take k=ns) (hnl:ns.length=k) (h1:(ns.all λu=>u.oneCell')=true) (hkm:k<=m) (hfit:k<=cs.length)
    (hcs:F6 cs 0 ns=cs') (hL:L.set i (AU b 92 cs')=L') (hd:dd<n) (next:OkL prog ops rest Q n ((dd,.int .i64 k)::F) w0 L'):OkL prog ops (o::rest) Q n F w0 L:=λa w ha hW=>by
  subst ho;subst hcs;subst hL
  unfold wpList
  rw [if_pos (hw a ha)]
  left
  have hca:=Ed (off:=0) (k:=k) (hW.get hj)
  rw [List.drop_zero,hns] at hca
  have hr:=run_copy_row (P:=prog) w 255 255 t 92 b 0 m c ⟨b',0,none⟩ k c' cs.toArray 92 ns underlying255 (by kernel_rfl) (hW.get hi) (by rw [hnl];exact (Nat.min_eq_left hkm).symm) (λq u hu=>by rw [Addr.add_lit];exact hca q u hu) (by simp;omega) (λu hu=>List.all_eq_true.1 h1 u hu)
  unfold Oper.wp
  have he:(execOp a.eval ⟨some dd,.call { callee:=.builtin .copy,args:=#[x,y],argTypes:=#[255,255] },t,p,af,g⟩).run prog w=.ok (.value (.int .i64 k)) (w.setRow b (F6 cs 0 ns).toArray):=by
    simp only [execOp,resolve,invoke,builtin,Sem.run_bind,Sem.run_pure,Result.andThen_ok,List.map_toArray,List.map_cons,List.map_nil,ha.ev hx,ha.ev hy,hr,F6,hnl,goInt]
  rw [he,Oper.upon_value]
  have hg:=hW.get hi
  exact next _ _ (ha.put hd) (hW.turn hi O O ⟨⟨rfl,rfl,rfl,by simp,λq _ hq=>setRow_other w b q _ (λe=>hq (by simp [e]))⟩,Nat.le_refl _⟩ ⟨_,setRow_heap w b cs.toArray _ 92 _ hg,rfl⟩)
end
theorem SR {a b:Nat} (h:nw b<=nw a):a+b<4294967296^(nw a+1):=by
  have h1:=Bh a
  have h2:b<4294967296^nw a:=CW.1 h
  rw [Nat.pow_succ];omega
theorem FV (v k:Nat):(AN v++(List.replicate (nw v+k) 0).drop (AN v).length).length=nw v+k/\W32 (AN v++(List.replicate (nw v+k) 0).drop (AN v).length)/\val (AN v++(List.replicate (nw v+k) 0).drop (AN v).length)=v:=by
  have e:(List.replicate (nw v+k) 0).drop (AN v).length=List.replicate k 0:=by rw [List.drop_replicate];congr 1;unfold nw;omega
  rw [e]
  refine ⟨by simp [nw],(Bi v).append (W32.zeros k),?_⟩
  rw [KZ,CF,Dw];omega
theorem HT {os:List Nat} {p c n:Nat} (hl:os.length=n) (hp:p<n) (h0:os.getD p 0=0):val (os.set p c)=val os+c*4294967296^p:=by
  have e:=E2 (xs:=os) (i:=p) Z c
  rw [h0] at e;omega
theorem Oq {os:List Nat} {a b i:Nat} (hv:val os=val ((AN a).take i)*b):∀j,i+nw b<=j->os.getD j 0=0:=λj hj=>by
  refine F2 (m:=i+nw b) ?_ hj
  rw [hv,Nat.pow_add]
  refine Nat.mul_lt_mul'' (Nat.lt_of_lt_of_le (GA ((Bi a).take i)) (Nat.pow_le_pow_right Z (by simp;omega))) (Bh b)
theorem FS {os:List Nat} {p q v:Nat} (h:∀j,p<=j->os.getD j 0=0) (hq:q<p):∀j,p<=j->(os.set q v).getD j 0=0:=λj hj=>by
  rw [List.getD_eq_getElem?_getD,List.getElem?_set_ne Z,<-List.getD_eq_getElem?_getD]
  exact h j hj
theorem VP {a b i:Nat}:val ((AN a).take i)*b+(AN a).getD i 0*b*4294967296^i=val ((AN a).take (i+1))*b:=by
  rw [BS];grind
theorem X7 {x y:Nat} (hx:x<18446744073709551616) (hy:y<18446744073709551616):val [x%4294967296,x/4294967296,y%4294967296,y/4294967296]=x+y*18446744073709551616:=by
  simp only [val];omega
theorem NW (xs:List Nat):((Ag xs).all λu=>u.oneCell')=true:=List.all_eq_true.2 (UX xs)
theorem Lc (xs:List Nat) (k:Nat):(Ag xs).take k=Ag (xs.take k):=by simp [Ag,List.map_take]
theorem OF (xs ns:List Nat):F6 (Ag xs) 0 (Ag ns)=Ag (ns++xs.drop ns.length):=by simp [F6,Ag,List.map_drop]
end
section
set_option maxRecDepth 100000
theorem XM (a b p q c c2:Nat) (ha:nw a<=1099511627776) (hb:nw b<=1099511627776) (w:World) (hp:w.heap[p]?=some (.cells (Ag (Aq a)).toArray 92 (0,0))) (hq:w.heap[q]?=some (.cells (Ag (Aq b)).toArray 92 (0,0))):Calls prog 271 #[(Value.slice (some ⟨p,0,none⟩) (nw a) c),(Value.slice (some ⟨q,0,none⟩) (nw b) c2)] w (Ah w (vI (Cu a b))):=by
 have hla:=B5 a
 have hlb:=B5 b
 refine Ab (args:=[(Value.slice (some ⟨p,0,none⟩) (nw a) c),(Value.slice (some ⟨q,0,none⟩) (nw b) c2)]) func271 O O (AI O) (OkC.subF (sL [0,1] O) (q4 (asg' O (OkL.nil (q1 (q4 (AM O (AH (v:=(vN (nw a))) (AD O underlying255) O (AM O (AH (v:=(vN (nw b))) (AD O underlying255) O (AH (CD (c:=(decide ((nw a)≠(nw b)))) O O (YQ (a:=nw a) (b:=nw b))) O ?_)))))))))))
 refine OkL.nil (OkQ.subF (sL [0,1,4,10] O) (OkQ.then_ ?_))
 refine OkC.cond O (λhc0=>?_) (λhc0=>?_)
 ·replace hc0:=of_decide_eq_true hc0
  refine q4 (AM O (AH (v:=(vN (nw a))) (AD O underlying255) O (AM O (AH (v:=(vN (nw b))) (AD O underlying255) O (AH (BI (c:=((nw a:Int)-(nw b:Int))) O O (BE Z Z)) O (ck' call296 (VN _ Z Z) O (OkL.retell (k:=16) (u:=(vI (Cu a b))) O (by rw [VU hc0]) (asg' O (OkL.nil (OkQ.subF (sL [0,1,4] O) (OkQ.then_ ?_)))))))))))
  exact OkC.ret (OkQ.then_ret (ret_one O (rd_tmp (v:=(vI (Cu a b))) O) (λw hw=>⟨rfl,hw.out⟩)))
 ·replace hc0:=of_decide_eq_false hc0
  refine OkC.skip (q1 (q4 (AM O (AH (v:=(vN (nw a))) (AD O underlying255) O (AH (BI (c:=(((nw a:Nat):Int)-1)) O O (BE Z Z)) O (asg' O (OkL.nil (OkQ.subF (sL [0,1,4,5] O) (OkQ.then_ (OkC.block ?_))))))))))
  refine OkC.lp1 (tg λ(k:Nat)=>k<=nw a/\(AN a).drop k=(AN b).drop k) (tg λ(k:Nat)=>[(0,(Value.slice (some ⟨p,0,none⟩) (nw a) c)),(1,(Value.slice (some ⟨q,0,none⟩) (nw b) c2)),(5,(vI (((k:Nat):Int)-1)))]) (tg λ(k:Nat)=>[]) (tg λ(k:Nat)=>k) (nw a) (⟨Nat.le_refl _,by rw [List.drop_of_length_le (by exact Nat.le_refl _),List.drop_of_length_le (by unfold nw at *;omega)]⟩) (sF O) sr (λk hJ=>?_)
  obtain ⟨hk,hd⟩:=hJ
  refine OkC.seq (q4 (AM O (AH (Bx (c:=(decide ((0:Int)<=(((k:Nat):Int)-1)))) O O O) O (OkL.nil (OkQ.subF (sL [0,1,5,21] O) (OkQ.then_ ?_))))))
  refine OkC.cond O (λhc1=>?_) (λhc1=>?_)
  ·replace hc1:=of_decide_eq_true hc1
   have hk0:0<k:=by omega
   refine OkC.retell (k:=5) (u:=(vN (k-1))) O (by congr 1;omega) (OkC.skip (q1 (OkC.block (OkC.seq (Cd [(0,true),(1,true),(2,true),(3,true),(4,true),(5,true),(6,true),(7,true),(8,true)] sr ?_)))))
   have ea:(Aq a).getD (k-1) 0=(AN a).getD (k-1) 0:=DJ Z
   have eb:(Aq b).getD (k-1) 0=(AN b).getD (k-1) 0:=DJ Z
   refine BV O (BV O (Al (v:=(pP p (k-1))) O (AK (j:=k-1) O O underlying255 sizeOf92 O Z (by simp)) ?_))
   have hx1:(Aq a).getD (k-1) 0<4294967296:=W32.getD (B8 a) (k-1)
   refine Al O (BR (v:=(vK .u32 ((Aq a).getD (k-1) 0))) O (λw' hw=>CA.at0 (hw.oldCA (by simp) (EM hp)) (A8 (xs:=Aq a) (j:=(k-1)) Z)) isAgg92) (BV O (BV O (Al (v:=(pP q (k-1))) O (AK (j:=k-1) O O underlying255 sizeOf92 O Z (by simp)) ?_)))
   have hx2:(Aq b).getD (k-1) 0<4294967296:=W32.getD (B8 b) (k-1)
   refine Al O (BR (v:=(vK .u32 ((Aq b).getD (k-1) 0))) O (λw' hw=>CA.at0 (hw.oldCA (by simp) (EM hq)) (A8 (xs:=Aq b) (j:=(k-1)) Z)) isAgg92) (Al O (CD (c:=(decide (((Aq a).getD (k-1) 0)≠((Aq b).getD (k-1) 0)))) O O (YQ (a:=(Aq a).getD (k-1) 0) (b:=(Aq b).getD (k-1) 0))) (OkE.nil (OkQ.subF (sL [0,1,5,32] O) (OkQ.then_ ?_))))
   refine OkC.cond O (λhc2=>?_) (λhc2=>?_)
   ·replace hc2:=of_decide_eq_true hc2
    have hcw:=Rh Z hk0 hk hd Z
    refine OkC.seq (OkC.seq (Cd [(0,true),(1,true),(2,true),(3,true),(4,true),(5,true),(6,true),(7,true),(8,true)] sr (BV O (BV O (Al (v:=(pP p (k-1))) O (AK (j:=k-1) O O underlying255 sizeOf92 O Z (by simp)) ?_)))))
    have hx3:(Aq a).getD (k-1) 0<4294967296:=W32.getD (B8 a) (k-1)
    refine Al O (BR (v:=(vK .u32 ((Aq a).getD (k-1) 0))) O (λw' hw=>CA.at0 (hw.oldCA (by simp) (EM hp)) (A8 (xs:=Aq a) (j:=(k-1)) Z)) isAgg92) (BV O (BV O (Al (v:=(pP q (k-1))) O (AK (j:=k-1) O O underlying255 sizeOf92 O Z (by simp)) ?_)))
    have hx4:(Aq b).getD (k-1) 0<4294967296:=W32.getD (B8 b) (k-1)
    refine Al O (BR (v:=(vK .u32 ((Aq b).getD (k-1) 0))) O (λw' hw=>CA.at0 (hw.oldCA (by simp) (EM hq)) (A8 (xs:=Aq b) (j:=(k-1)) Z)) isAgg92) (Al O (Ae (c:=(decide (((Aq a).getD (k-1) 0)<((Aq b).getD (k-1) 0)))) O O (CB (a:=(Aq a).getD (k-1) 0) (b:=(Aq b).getD (k-1) 0))) (OkE.nil (OkQ.subF (sL [0,1,5,41] O) (OkQ.then_ ?_))))
    refine OkC.cond O (λhc3=>?_) (λhc3=>?_)
    ·replace hc3:=of_decide_eq_true hc3
     rw [if_pos Z] at hcw
     exact q4 (asg' O (OkL.nil (OkQ.then_ (OkC.ret (OkQ.then_ret (OkQ.in_ret (OkQ.then_ret (OkQ.round1_ret (OkQ.in_ret (OkQ.then_ret (ret_one O (rd_tmp (v:=(vI (-1:Int))) O) (λw hw=>⟨by rw [hcw],hw.out⟩))))))))))))
    ·replace hc3:=of_decide_eq_false hc3
     rw [if_neg Z] at hcw
     exact OkC.skip (q2 (asg' O (OkL.nil (OkQ.then_ (OkC.ret (OkQ.in_ret (OkQ.then_ret (OkQ.round1_ret (OkQ.in_ret (OkQ.then_ret (ret_one O (rd_tmp (v:=(vI 1)) O) (λw hw=>⟨by rw [hcw],hw.out⟩))))))))))))
   ·replace hc2:=of_decide_eq_false hc2
    exact OkC.skip (OkQ.in_normal (OkQ.then_ (OkC.region (AM O (AH (BI (c:=(((k-1:Nat):Int)-1)) O O (BE Z Z)) O (asg' O (OkL.nil (OkQ.subF (sL [0,1,5] O) (OkQ.round1 (k-1) (⟨Z,RN (by unfold nw at hc0;omega) Z hk hd Z⟩) Z (sF O) sr)))))))))
  ·replace hc1:=of_decide_eq_false hc1
   have hk0:k=0:=by omega
   subst hk0
   have hz:=SU hd
   exact OkC.exit (OkQ.then_exit (OkQ.round1_exit (OkQ.in_exit (q2 (asg' O (OkL.nil (OkQ.then_ (OkC.ret (ret_one O (rd_tmp (v:=(vI 0)) O) (λw hw=>⟨by rw [hz],hw.out⟩))))))))))
end
end Go.Proofs.YtpolhpjiahbidaaGreatDoor
