import Derived.Test.YtfbomiejpbchdaaGreatDoorPart06
import Derived.Test.YtfbomiejpbchdaaGreatDoorPart10
namespace Go.Proofs.YtfbomiejpbchdaaGreatDoor
open Go Go.RowKit Go.Proofs.Tryz
set_option linter.unusedVariables false
set_option linter.unusedSimpArgs false
section
set_option maxRecDepth 100000
theorem IZ (b m c:Nat) (bs:List Nat) (hbs:W32 bs) (hm:m<=bs.length) (hc:m<=c) (hL:c<4398046511104) (w:World) (hb:w.heap[b]?=some (.cells (Ai bs).toArray 83 (0,0))):Calls prog 107 #[(Value.slice (some ⟨b,0,none⟩) m c)] w (Ak w (aG (AU (val (bs.take m))))):=by
 have hle:=Iz bs m
 have hval:=JK bs m
 have hwd:=Hp hbs hm
 have hnw:=Ns hbs hm
 generalize hK:De bs m=K at *
 refine Ab (args:=[(Value.slice (some ⟨b,0,none⟩) m c)]) func107 O O (Ad O) (AF.subF (sL [0] O) (q4 (al FR O λb1=>AE.nil (q2 ?_))))
 refine AP O (Ef call145 (λw hw=>RH _ m c bs hbs Z Z Z w (hw.old (by simp) hb)) O (AE.retell (k:=10) (u:=(Value.slice (some ⟨b,0,none⟩) K c)) O (by rw [hK]) (AJ O (q6 (sL [0,2] O) (q4 ?_)))))
 refine AP O (AH (v:=(vN K)) (AG O underlying187) O (AH (H_ (c:=(decide (K<=2))) O O (Ut (a:=K) (b:=2))) O (AE.nil (AD.subF (sL [0,2,13] O) (AD.then_ ?_)))))
 refine AF.cond O (λhc0=>?_) (λhc0=>?_)
 ·replace hc0:=of_decide_eq_true hc0
  refine q4 (AJ O (AE.nil (q1 (q4 (AP O ?_)))))
  refine AH (v:=(vN K)) (AG O underlying187) O (AP O (AE.nil (AD.then_ (AF.block ?_))))
  refine AF.lp2 (tg λ(i:Nat) (n:Nat)=>i<=K/\n=val (bs.take i)) (tg λ(i:Nat) (n:Nat)=>[(0,(Value.slice (some ⟨b,0,none⟩) K c)),(2,(pP b1 0)),(14,(Value.slice (some ⟨b,0,none⟩) K c)),(15,(vN K)),(16,(vN i)),(3,(vK .u64 n))]) (tg λ(i:Nat) (n:Nat)=>[Ae b1 55 (AU 0)]) (tg λ(i:Nat) (n:Nat)=>K-i) 0 0 (⟨Nat.zero_le _,by simp [val]⟩) (sF O) sr (λi n hJ=>?_)
  obtain ⟨hi,hn⟩:=hJ
  refine q4 (AH (Af (c:=(decide (i<K))) O O (DB (a:=i) (b:=K))) O (AE.nil (q1 ?_)))
  refine AF.cond O (λhc1=>?_) (λhc1=>?_)
  ·replace hc1:=of_decide_eq_true hc1
   refine AF.skip (q1 (AF.block (q4 (AP O (AH (v:=(pP b i)) (AI (j:=i) O O underlying187 sizeOf83 O Z (by simp)) O ?_)))))
   have hx1:bs.getD i 0<4294967296:=W32.getD hbs i
   refine AH (Ba (v:=(vK .u32 (bs.getD i 0))) O (λw' hw=>CA.at0 (hw.oldCA (by simp) (Ea hb)) (BI (xs:=bs) (j:=i) Z)) isAgg83) O (AJ O (AJ O (AE.nil (AD.subF (sL [0,2,14,15,16,3,4,5] O) (AD.then_ ?_)))))
   refine AF.region (AP O (AP O (AH (Ap (c:=((bs.getD i 0:Nat):Int)) O underlying83 underlying53 (BU Z)) O (AP O ?_))))
   have hiK:i<K:=hc1
   have hi2:i<2:=by omega
   have hn2:n<4294967296^i:=by rw [hn];exact Nat.lt_of_lt_of_le (Fz (hbs.take i)) (Nat.pow_le_pow_right Z (by simp;omega))
   have hsh:=Ri (i:=i) (hbs.getD i) hi2
   have hn3:n<18446744073709551616:=Pq hn2 hi2
   refine AH (Bq (c:=((32*i:Nat):Int)) O O (C5 (a:=32) (b:=i) Z)) O (AH (v:=(vK .u64 (bs.getD i 0*2^(32*i)))) (F9 (s:=32*i) O O O (show 32*i<=64 by omega) (F7 hsh)) O (AH (IW (c:=((n+bs.getD i 0*2^(32*i):Nat):Int)) O O (I4 hn3 hsh (G7 (by rw [<-VX];exact hn2)))) O (AJ O (AE.nil (AD.subF (sL [0,2,14,15,16,3] O) ?_)))))
   refine AD.in_normal (AD.then_ (AF.region (AH (AX (c:=((i+1:Nat):Int)) O O (AZ (a:=i) (b:=1) Z)) O (AP O (AE.nil ?_)))))
   exact AD.subF (sL [0,2,14,15,16,3] O) (AD.round2 (i+1) (n+bs.getD i 0*2^(32*i)) (⟨Z,by rw [BV,<-hn,VX]⟩) Z (sF O) sr)
  ·replace hc1:=of_decide_eq_false hc1
   refine AF.exit (AD.then_exit (AD.round2_exit (AD.in_exit (q2 (AP O ?_)))))
   have hnn:n=val (bs.take K):=by rw [hn,show i=K by omega]
   have hv2:val (bs.take m)<18446744073709551616:=by rw [<-hval];exact Nat.lt_of_lt_of_le (Fz (hbs.take K)) (by rw [List.length_take];exact Nat.le_trans (Nat.pow_le_pow_right (n:=4294967296) Z (show min K bs.length<=2 by omega)) (by decide))
   refine AH (v:=(aG ([(vK .u64 n),(Value.string (Bf 0))]))) (AT (zs:=AU 0) (vs:=[(vK .u64 n),(Value.string (Bf 0))]) (pv:=[(0,(vK .u64 n))]) (places:=[(0,1),(1,1)]) zeroValue55 underlying55 (λw=>by simp [sizeOf9,sizeOf53]) O O) O (AE.retell (k:=30) (u:=(aG (AU (val (bs.take m))))) O (by rw [DO hv2,<-hval,<-hnn];rfl) (Aq O sizeOf55 O (AE.nil (AD.subF (sL [0,2,14,15,16,3] O) (AD.then_ ?_)))))
   exact AF.ret (AD.then_ret (AN O (A7 (i:=0) (cs:=AU (val (bs.take m))) O O isAgg55 sizeOf55 O) (λw hw=>⟨rfl,hw.out⟩)))
 ·replace hc0:=of_decide_eq_false hc0
  refine AF.skip (q2 (AP O (AH (v:=(vN K)) (AG O underlying187) O (AH (Bq (c:=((4*K:Nat):Int)) O O (C5 (a:=4) (b:=K) Z)) O (AE.openV (V:=λb2=>(Value.slice (some ⟨b2,0,none⟩) 0 (4*K))) (T:=5) (cs:=Ip (List.replicate (4*K) 0)) (AQ O) (Od (m:=0) (c:=4*K) O O Z Z) O (Ad O) λb2=>?_)))))
  refine AJ O (q6 (sL [0,2,6] O) (q4 (AP O (AH (v:=(vN K)) (AG O underlying187) O (AP O ?_)))))
  refine AE.nil (AD.then_ (AF.block ?_))
  refine AF.lp2 (tg λ(i:Nat) (bz:List Nat)=>i<=K/\bz=bytesN (bs.take i)++List.replicate (4*(K-i)) 0) (tg λ(i:Nat) (bz:List Nat)=>[(2,(pP b1 0)),(35,(Value.slice (some ⟨b,0,none⟩) K c)),(36,(vN K)),(37,(vN i)),(6,(Value.slice (some ⟨b2,0,none⟩) (4*i) (4*K)))]) (tg λ(i:Nat) (bz:List Nat)=>[Ae b2 5 (Ip bz),Ae b1 55 (AU 0)]) (tg λ(i:Nat) (bz:List Nat)=>K-i) 0 (List.replicate (4*K) 0) (⟨Nat.zero_le _,by simp [bytesN]⟩) (sF O) sr (λi bz hJ=>?_)
  obtain ⟨hi,hz⟩:=hJ
  refine q4 (AH (Af (c:=(decide (i<K))) O O (DB (a:=i) (b:=K))) O (AE.nil (q1 ?_)))
  refine AF.cond O (λhc2=>?_) (λhc2=>?_)
  ·replace hc2:=of_decide_eq_true hc2
   refine AF.skip (q1 (AF.block (q4 (AH (v:=(pP b i)) (AI (j:=i) O O underlying187 sizeOf83 O Z (by simp)) O ?_))))
   have hx2:bs.getD i 0<4294967296:=W32.getD hbs i
   refine AH (Ba (v:=(vK .u32 (bs.getD i 0))) O (λw' hw=>CA.at0 (hw.oldCA (by simp) (Ea hb)) (BI (xs:=bs) (j:=i) Z)) isAgg83) O (AJ O (AE.nil (AD.subF (sL [2,35,36,37,6,8] O) (AD.then_ (AF.region ?_)))))
   refine AP O (AP O (AH (Ap (c:=(((bs.getD i 0)%256:Nat):Int)) O underlying83 underlying5 It) O (AP O (AH (Cc (s:=8) (c:=(((bs.getD i 0)/256:Nat):Int)) O O O (by decide) (FU (a:=bs.getD i 0) (s:=8))) O (AH (Ap (c:=((((bs.getD i 0)/256)%256:Nat):Int)) O underlying83 underlying5 It) O ?_)))))
   refine AP O (AH (Cc (s:=16) (c:=(((bs.getD i 0)/65536:Nat):Int)) O O O (by decide) (FU (a:=bs.getD i 0) (s:=16))) O (AH (Ap (c:=((((bs.getD i 0)/65536)%256:Nat):Int)) O underlying83 underlying5 It) O (AP O (AH (Cc (s:=24) (c:=(((bs.getD i 0)/16777216:Nat):Int)) O O O (by decide) (FU (a:=bs.getD i 0) (s:=24))) O (AH (Ap (c:=((((bs.getD i 0)/16777216)%256:Nat):Int)) O underlying83 underlying5 It) O ?_)))))
   refine AE.openV (V:=λb3=>(Value.slice (some ⟨b3,0,none⟩) 4 4)) (T:=5) (cs:=Ip ([(bs.getD i 0)%256,((bs.getD i 0)/256)%256,((bs.getD i 0)/65536)%256,((bs.getD i 0)/16777216)%256])) (AQ O) (BD (cs:=Ip ([(bs.getD i 0)%256,((bs.getD i 0)/256)%256,((bs.getD i 0)/65536)%256,((bs.getD i 0)/16777216)%256])) (pv:=[(0,(vK .u8 ((bs.getD i 0)%256))),(1,(vK .u8 (((bs.getD i 0)/256)%256))),(2,(vK .u8 (((bs.getD i 0)/65536)%256))),(3,(vK .u8 (((bs.getD i 0)/16777216)%256)))]) underlying46 sizeOf5 zeroValue5 (by decide) (by decide) O (by kernel_rfl)) O (Ad O) λb3=>?_
   obtain ⟨bz2,hz2,hlay⟩:∃bz2,bz2=bytesN (bs.take (i+1))++List.replicate (4*(K-(i+1))) 0/\Fh (Ip bz) (4*i) (Ip ([(bs.getD i 0)%256,((bs.getD i 0)/256)%256,((bs.getD i 0)/65536)%256,((bs.getD i 0)/16777216)%256]))=Ip bz2:=⟨_,rfl,by rw [hz];exact Oa hc2 Z⟩
   refine AE.append_u8 (i:=1) (j:=0) (m:=4*i) (c:=4*K) (k:=4) (cs':=Ip bz2) (L':=[Ae b3 5 (Ip ([(bs.getD i 0)%256,((bs.getD i 0)/256)%256,((bs.getD i 0)/65536)%256,((bs.getD i 0)/16777216)%256])),Ae b2 5 (Ip bz2),Ae b1 55 (AU 0)]) O (AQ O) O O O O O O Z (by rw [G2,hz];simp [B4];omega) hlay O (Ad O) (AJ O (AE.nil (AD.subF (sL [2,35,36,37,6] O) (AD.in_normal (AD.then_ ?_)))))
   exact AF.region (AH (AX (c:=((i+1:Nat):Int)) O O (AZ (a:=i) (b:=1) Z)) O (AP O (AE.nil (AD.subF (sL [2,35,36,37,6] O) (AD.round2 (i+1) bz2 (⟨Z,hz2⟩) Z (sF O) (sl sr))))))
  ·replace hc2:=of_decide_eq_false hc2
   refine AF.exit (AD.then_exit (AD.round2_exit (AD.in_exit (q2 (AP O ?_)))))
   have hbl:bz.length=4*i:=by rw [hz,List.length_append,B4,List.length_take,List.length_replicate];omega
   have htk:(Ip bz).take (4*i)=Ip bz:=List.take_of_length_le (by rw [G2];omega)
   refine AH (v:=(Value.string (C1 bz))) (Im (i:=0) (m:=4*i) (ns:=bz) O O htk hbl) O ?_
   have hv3:¬val (bs.take m)<18446744073709551616:=λh=>by have:=Hm h;omega
   have hbz:bz=bytesN (bs.take K):=by rw [hz,show i=K by omega];simp
   refine AH (v:=(aG ([(vK .u64 (Bx 0)),(Value.string (C1 bz))]))) (AT (zs:=AU 0) (vs:=[(vK .u64 (Bx 0)),(Value.string (C1 bz))]) (pv:=[(1,(Value.string (C1 bz)))]) (places:=[(0,1),(1,1)]) zeroValue55 underlying55 (λw=>by simp [sizeOf9,sizeOf53]) O O) O (AE.retell (k:=58) (u:=(aG (AU (val (bs.take m))))) O (by rw [R4 hv3,hwd,<-hbz];rfl) (C9 O sizeOf55 O (AE.nil (AD.subF (sL [2,35,36,37,6] O) (AD.then_ ?_)))))
   exact AF.ret (AN O (A7 (i:=1) (cs:=AU (val (bs.take m))) O O isAgg55 sizeOf55 O) (λw hw=>⟨rfl,hw.out⟩))
end
section
def E9 (a b:Nat):Int:=if a<b then -1 else if a=b then 0 else 1
theorem I3 {a b:Nat}:E9 a b<0↔a<b:=by
  unfold E9;split
  · omega
  · split<;>omega
theorem Om {a b:Nat}:E9 a b=0↔a=b:=by
  unfold E9;split
  · omega
  · split<;>omega
theorem VI {a b:Nat} (h:nw a≠nw b):((nw a:Int)-(nw b:Int)).sign=E9 a b:=by
  unfold E9
  by_cases h1:nw a<nw b
  · have h2:a<b:=by
      rcases Nat.lt_or_ge a b with h2|h2
      · exact h2
      · have:=DL h2;omega
    rw [if_pos h2,Int.sign_eq_neg_one_of_neg Z]
  · have h2:b<a:=by
      rcases Nat.lt_or_ge b a with h2|h2
      · exact h2
      · have:=DL h2;omega
    rw [if_neg Z,if_neg Z,Int.sign_eq_one_of_pos Z]
theorem Q9 {xs ys:List Nat} {k:Nat} (hx:W32 xs) (hl:xs.length=ys.length) (h0:0<k) (hk:k<=xs.length) (hd:xs.drop k=ys.drop k) (h:xs.getD (k-1) 0<ys.getD (k-1) 0):val xs<val ys:=by
  have e1:=EQ xs k hk
  have e2:=EQ ys k Z
  have s1:=BV xs (k-1)
  have s2:=BV ys (k-1)
  rw [show k-1+1=k by omega] at s1 s2
  have h1:val (xs.take (k-1))<4294967296^(k-1):=Nat.lt_of_lt_of_le (Fz (hx.take (k-1))) (Nat.pow_le_pow_right Z (by simp;omega))
  have h2:(xs.getD (k-1) 0+1)*4294967296^(k-1)<=ys.getD (k-1) 0*4294967296^(k-1):=Nat.mul_le_mul_right _ h
  rw [Nat.add_mul] at h2
  rw [hd] at e1
  omega
theorem P4 {xs ys:List Nat} {k:Nat} (hl:xs.length=ys.length) (h0:0<k) (hk:k<=xs.length) (hd:xs.drop k=ys.drop k) (h:xs.getD (k-1) 0=ys.getD (k-1) 0):xs.drop (k-1)=ys.drop (k-1):=by
  have h1:k-1<xs.length:=by omega
  have h2:k-1<ys.length:=by omega
  rw [List.drop_eq_getElem_cons h1,List.drop_eq_getElem_cons h2,show k-1+1=k by omega,hd]
  simp [h1,h2] at h
  rw [h]
theorem Pr {a b k:Nat} (hl:nw a=nw b) (h0:0<k) (hk:k<=nw a) (hd:(AL a).drop k=(AL b).drop k) (hne:(AL a).getD (k-1) 0≠(AL b).getD (k-1) 0) :
    E9 a b=if (AL a).getD (k-1) 0<(AL b).getD (k-1) 0 then -1 else 1:=by
  unfold E9
  split
  · rename_i h
    rw [if_pos]
    rcases Nat.lt_or_ge ((AL a).getD (k-1) 0) ((AL b).getD (k-1) 0) with h1|h1
    · exact h1
    · have:=Q9 (Bm b) hl.symm h0 (by unfold nw at *;omega) hd.symm (show (AL b).getD (k-1) 0<(AL a).getD (k-1) 0 by omega)
      rw [CR,CR] at this;omega
  · rename_i h
    have h2:¬(AL a).getD (k-1) 0<(AL b).getD (k-1) 0:=λh1=>by
      have:=Q9 (Bm a) hl h0 hk hd h1
      rw [CR,CR] at this;omega
    rw [if_neg h2,if_neg]
    intro e;subst e;exact hne rfl
theorem TN {a b:Nat} (hd:(AL a).drop 0=(AL b).drop 0):E9 a b=0:=by
  rw [Om]
  rw [List.drop_zero,List.drop_zero] at hd
  rw [<-CR a,<-CR b,hd]
theorem DI {v i:Nat} (h:i<nw v):(Au v).getD i 0=(AL v).getD i 0:=by
  rw [<-HO v]
  simp [List.getD_eq_getElem?_getD,List.getElem?_take,h]
theorem D1 {v i:Nat} (h:¬i<nw v):(AL v).getD i 0=0:=by
  unfold nw at h;simp [List.getD_eq_getElem?_getD,Nat.not_lt.1 h]
theorem Cz {v i:Nat} (h:nw v<=i):val ((AL v).take i)=v:=by
  rw [List.take_of_length_le h,CR]
theorem U5 (v:Nat):(Au v).length<=nw v+2:=by
  unfold Au;split
  · simp
  · unfold nw;omega
theorem HU (v:Nat):val ((Au v).take (nw v))=v:=by rw [HO,CR]
theorem NC {os ys:List Nat} {X i n c:Nat} (hl:os.length=n) (hi:i<n) (hv:val os+c*4294967296^i=X+val (ys.take i)) :
    val (os.set i ((os.getD i 0+ys.getD i 0+c)%4294967296))+(os.getD i 0+ys.getD i 0+c)/4294967296*4294967296^(i+1)=X+val (ys.take (i+1)):=by
  have e:=Et (xs:=os) (i:=i) Z ((os.getD i 0+ys.getD i 0+c)%4294967296)
  have t:=BV ys i
  have hm:=Nat.div_add_mod (os.getD i 0+ys.getD i 0+c) 4294967296
  rw [Nat.pow_succ]
  generalize os.getD i 0=o at *
  generalize ys.getD i 0=y at *
  generalize (o+y+c)/4294967296=q at *
  generalize (o+y+c)%4294967296=r at *
  generalize 4294967296^i=p at *
  have hm2:(4294967296*q+r)*p=(o+y+c)*p:=by rw [hm]
  grind
theorem M9 {os:List Nat} {X Y n c i:Nat} (hl:os.length=n) (hw:W32 os) (hi:n<=i) (hX:X+Y<4294967296^n) (hv:val os+c*4294967296^i=X+Y):val os=X+Y:=by
  have h1:4294967296^n<=4294967296^i:=Nat.pow_le_pow_right Z hi
  rcases Nat.eq_zero_or_pos c with h|h
  · subst h;omega
  · have:1*4294967296^i<=c*4294967296^i:=Nat.mul_le_mul_right _ h
    omega
theorem RS {os ys:List Nat} {X i n c:Nat} (hl:os.length=n) (hi:i<n) (hw:W32 os) (hy:W32 ys) (hc:c<=1) (hv:val os+val (ys.take i)=X+c*4294967296^i) :
    val (os.set i ((os.getD i 0+(4294967296-ys.getD i 0)+(4294967296-c))%4294967296))+val (ys.take (i+1))=X+Ic (os.getD i 0) (ys.getD i 0+c)*4294967296^(i+1):=by
  have e:=Et (xs:=os) (i:=i) Z ((os.getD i 0+(4294967296-ys.getD i 0)+(4294967296-c))%4294967296)
  have t:=BV ys i
  have ho:=hw.getD i
  have hy':=hy.getD i
  rw [Nat.pow_succ]
  have hm:(os.getD i 0+(4294967296-ys.getD i 0)+(4294967296-c))%4294967296+ys.getD i 0+c=os.getD i 0+Ic (os.getD i 0) (ys.getD i 0+c)*4294967296:=by
    unfold Ic;split<;>omega
  generalize (os.getD i 0+(4294967296-ys.getD i 0)+(4294967296-c))%4294967296=r at *
  generalize Ic (os.getD i 0) (ys.getD i 0+c)=q at *
  generalize os.getD i 0=o at *
  generalize ys.getD i 0=y at *
  generalize 4294967296^i=p at *
  have hm2:(r+y+c)*p=(o+q*4294967296)*p:=by rw [hm]
  grind
theorem RK {os:List Nat} {X Y n c i:Nat} (hl:os.length=n) (hw:W32 os) (hi:i=n) (hX:Y<=X) (hv:val os+Y=X+c*4294967296^i) (hX2:X<4294967296^n):val os=X-Y:=by
  have h1:=Fz hw
  rw [hl] at h1
  subst hi
  rcases Nat.eq_zero_or_pos c with h|h
  · subst h;omega
  · have:1*4294967296^i<=c*4294967296^i:=Nat.mul_le_mul_right _ h
    omega
theorem Of (x y:Nat):Ic x y<=1:=by unfold Ic;split<;>omega
theorem Q6 {os ys:List Nat} {S W i k n c:Nat} (hl:os.length=n) (hi:i+k<n) (hv:val os+c*4294967296^(i+k)=S+W*val (ys.take k)*4294967296^i) :
    val (os.set (i+k) ((c+(W*ys.getD k 0+os.getD (i+k) 0))%4294967296))+(c+(W*ys.getD k 0+os.getD (i+k) 0))/4294967296*4294967296^(i+(k+1))=S+W*val (ys.take (k+1))*4294967296^i:=by
  have e:=Et (xs:=os) (i:=i+k) Z ((c+(W*ys.getD k 0+os.getD (i+k) 0))%4294967296)
  have t:=BV ys k
  have hm:=Nat.div_add_mod (c+(W*ys.getD k 0+os.getD (i+k) 0)) 4294967296
  rw [t,show i+(k+1)=i+k+1 by omega,Nat.pow_succ]
  rw [Nat.pow_add] at *
  generalize os.getD (i+k) 0=o at *
  generalize ys.getD k 0=y at *
  generalize (c+(W*y+o))/4294967296=q at *
  generalize (c+(W*y+o))%4294967296=r at *
  generalize 4294967296^i=p at *
  generalize 4294967296^k=p' at *
  generalize val (ys.take k)=vy at *
  have hm2:(4294967296*q+r)*(p*p')=(c+(W*y+o))*(p*p'):=by rw [hm]
  grind
section
variable {n:Nat} {F:List (Nat×Value)} {w0:BK} {L:List As} {v:Value} {x y:Operand} {d:Option Tmp} {t:TypeId} {p:String} {af:Array Edge} {g:Option (Nat×Bool)}
theorem AE.copy_u32 {ops:Array Oper} {rest:List Oper} {Q:Exit->Act->World->Prop} {L':List As} {i j b b' m c k c' dd:Nat} {cs ds ns cs':List Value} {o:Oper} (ho:o=⟨some dd,.call { callee:=.builtin .copy,args:=#[x,y],argTypes:=#[187,187] },t,p,af,g⟩) (hw:Wt ops n F o)
    (hx:evF F x=some (.slice (some ⟨b,0,none⟩) m c)) (hy:evF F y=some (.slice (some ⟨b',0,none⟩) k c')) (hi:L[i]?=some (Ae b 83 cs)) (hj:L[j]?=some (Ae b' 83 ds)) (hns:ds.take k=ns) (hnl:ns.length=k) (h1:(ns.all λu=>u.oneCell')=true) (hkm:k<=m) (hfit:k<=cs.length)
    (hcs:Fh cs 0 ns=cs') (hL:L.set i (Ae b 83 cs')=L') (hd:dd<n) (next:AE prog ops rest Q n ((dd,.int .i64 k)::F) w0 L'):AE prog ops (o::rest) Q n F w0 L:=λa w ha hW=>by
  subst ho;subst hcs;subst hL
  unfold wpList
  rw [if_pos (hw a ha)]
  left
  have hca:=EI (off:=0) (k:=k) (hW.get hj)
  rw [List.drop_zero,hns] at hca
  have hr:=run_copy_row (P:=prog) w 187 187 t 83 b 0 m c ⟨b',0,none⟩ k c' cs.toArray 83 ns underlying187 (by kernel_rfl) (hW.get hi) (by rw [hnl];exact (Nat.min_eq_left hkm).symm) (λq u hu=>by rw [Addr.add_lit];exact hca q u hu) (by simp;omega) (λu hu=>List.all_eq_true.1 h1 u hu)
  unfold Oper.wp
  have he:(execOp a.eval ⟨some dd,.call { callee:=.builtin .copy,args:=#[x,y],argTypes:=#[187,187] },t,p,af,g⟩).run prog w=.ok (.value (.int .i64 k)) (w.setRow b (Fh cs 0 ns).toArray):=by
    simp only [execOp,resolve,invoke,builtin,Sem.run_bind,Sem.run_pure,Result.andThen_ok,List.map_toArray,List.map_cons,List.map_nil,ha.ev hx,ha.ev hy,hr,Fh,hnl,goInt]
  rw [he,Oper.upon_value]
  have hg:=hW.get hi
  exact next _ _ (ha.put hd) (hW.turn hi O O ⟨⟨rfl,rfl,rfl,by simp,λq _ hq=>setRow_other w b q _ (λe=>hq (by simp [e]))⟩,Nat.le_refl _⟩ ⟨_,setRow_heap w b cs.toArray _ 83 _ hg,rfl⟩)
end
theorem TT {a b:Nat} (h:nw b<=nw a):a+b<4294967296^(nw a+1):=by
  have h1:=Bw a
  have h2:b<4294967296^nw a:=Cj.1 h
  rw [Nat.pow_succ];omega
theorem FA (v k:Nat):(AL v++(List.replicate (nw v+k) 0).drop (AL v).length).length=nw v+k/\W32 (AL v++(List.replicate (nw v+k) 0).drop (AL v).length)/\val (AL v++(List.replicate (nw v+k) 0).drop (AL v).length)=v:=by
  have e:(List.replicate (nw v+k) 0).drop (AL v).length=List.replicate k 0:=by rw [List.drop_replicate];congr 1;unfold nw;omega
  rw [e]
  refine ⟨by simp [nw],(Bm v).append (W32.zeros k),?_⟩
  rw [KB,CR,Do];omega
theorem Hi {os:List Nat} {p c n:Nat} (hl:os.length=n) (hp:p<n) (h0:os.getD p 0=0):val (os.set p c)=val os+c*4294967296^p:=by
  have e:=Et (xs:=os) (i:=p) Z c
  rw [h0] at e;omega
theorem Nr {os:List Nat} {a b i:Nat} (hv:val os=val ((AL a).take i)*b):∀j,i+nw b<=j->os.getD j 0=0:=λj hj=>by
  refine Fi (m:=i+nw b) ?_ hj
  rw [hv,Nat.pow_add]
  refine Nat.mul_lt_mul'' (Nat.lt_of_lt_of_le (Fz ((Bm a).take i)) (Nat.pow_le_pow_right Z (by simp;omega))) (Bw b)
theorem E8 {os:List Nat} {p q v:Nat} (h:∀j,p<=j->os.getD j 0=0) (hq:q<p):∀j,p<=j->(os.set q v).getD j 0=0:=λj hj=>by
  rw [List.getD_eq_getElem?_getD,List.getElem?_set_ne Z,<-List.getD_eq_getElem?_getD]
  exact h j hj
theorem UA {a b i:Nat}:val ((AL a).take i)*b+(AL a).getD i 0*b*4294967296^i=val ((AL a).take (i+1))*b:=by
  rw [BV];grind
theorem Vf {x y:Nat} (hx:x<18446744073709551616) (hy:y<18446744073709551616):val [x%4294967296,x/4294967296,y%4294967296,y/4294967296]=x+y*18446744073709551616:=by
  simp only [val];omega
theorem NB (xs:List Nat):((Ai xs).all λu=>u.oneCell')=true:=List.all_eq_true.2 (TD xs)
theorem LT (xs:List Nat) (k:Nat):(Ai xs).take k=Ai (xs.take k):=by simp [Ai,List.map_take]
theorem Mt (xs ns:List Nat):Fh (Ai xs) 0 (Ai ns)=Ai (ns++xs.drop ns.length):=by simp [Fh,Ai,List.map_drop]
end
section
set_option maxRecDepth 100000
theorem WB (a b p q c c2:Nat) (ha:nw a<=1099511627776) (hb:nw b<=1099511627776) (w:World) (hp:w.heap[p]?=some (.cells (Ai (Au a)).toArray 83 (0,0))) (hq:w.heap[q]?=some (.cells (Ai (Au b)).toArray 83 (0,0))):Calls prog 182 #[(Value.slice (some ⟨p,0,none⟩) (nw a) c),(Value.slice (some ⟨q,0,none⟩) (nw b) c2)] w (Ak w (vI (E9 a b))):=by
 have hla:=CH a
 have hlb:=CH b
 refine Ab (args:=[(Value.slice (some ⟨p,0,none⟩) (nw a) c),(Value.slice (some ⟨q,0,none⟩) (nw b) c2)]) func182 O O (Ad O) (AF.subF (sL [0,1] O) (q4 (AJ O (AE.nil (q1 ?_)))))
 refine q4 (AP O (AH (v:=(vN (nw a))) (AG O underlying187) O (AP O (AH (v:=(vN (nw b))) (AG O underlying187) O (AH (CP (c:=(decide ((nw a)≠(nw b)))) O O (Xl (a:=nw a) (b:=nw b))) O ?_)))))
 refine AE.nil (AD.subF (sL [0,1,4,10] O) (AD.then_ ?_))
 refine AF.cond O (λhc0=>?_) (λhc0=>?_)
 ·replace hc0:=of_decide_eq_true hc0
  refine q4 (AP O (AH (v:=(vN (nw a))) (AG O underlying187) O (AP O (AH (v:=(vN (nw b))) (AG O underlying187) O (AH (By (c:=((nw a:Int)-(nw b:Int))) O O (BM Z Z)) O ?_)))))
  refine BS call221 (UN _ Z Z) O (AE.retell (k:=16) (u:=(vI (E9 a b))) O (by rw [VI hc0]) (AJ O (AE.nil (AD.subF (sL [0,1,4] O) (AD.then_ ?_)))))
  exact AF.ret (AD.then_ret (AN O (Ac (v:=(vI (E9 a b))) O) (λw hw=>⟨rfl,hw.out⟩)))
 ·replace hc0:=of_decide_eq_false hc0
  refine AF.skip (q1 (q4 (AP O (AH (v:=(vN (nw a))) (AG O underlying187) O (AH (By (c:=(((nw a:Nat):Int)-1)) O O (BM Z Z)) O ?_)))))
  refine AJ O (AE.nil (AD.subF (sL [0,1,4,5] O) (AD.then_ (AF.block ?_))))
  refine AF.lp1 (tg λ(k:Nat)=>k<=nw a/\(AL a).drop k=(AL b).drop k) (tg λ(k:Nat)=>[(0,(Value.slice (some ⟨p,0,none⟩) (nw a) c)),(1,(Value.slice (some ⟨q,0,none⟩) (nw b) c2)),(5,(vI (((k:Nat):Int)-1)))]) (tg λ(k:Nat)=>[]) (tg λ(k:Nat)=>k) (nw a) (⟨Nat.le_refl _,by rw [List.drop_of_length_le (by exact Nat.le_refl _),List.drop_of_length_le (by unfold nw at *;omega)]⟩) (sF O) sr (λk hJ=>?_)
  obtain ⟨hk,hd⟩:=hJ
  refine AF.seq (q4 (AP O (AH (EV (c:=(decide ((0:Int)<=(((k:Nat):Int)-1)))) O O O) O (AE.nil (AD.subF (sL [0,1,5,21] O) ?_)))))
  refine AD.then_ ?_
  refine AF.cond O (λhc1=>?_) (λhc1=>?_)
  ·replace hc1:=of_decide_eq_true hc1
   have hk0:0<k:=by omega
   refine AF.retell (k:=5) (u:=(vN (k-1))) O (by congr 1;omega) (AF.skip (q1 (AF.block (AF.seq (DA [(0,true),(1,true),(2,true),(3,true),(4,true),(5,true),(6,true),(7,true),(8,true)] sr ?_)))))
   have ea:(Au a).getD (k-1) 0=(AL a).getD (k-1) 0:=DI Z
   have eb:(Au b).getD (k-1) 0=(AL b).getD (k-1) 0:=DI Z
   refine Bp O (Bp O (Aw (v:=(pP p (k-1))) O (AI (j:=k-1) O O underlying187 sizeOf83 O Z (by simp)) ?_))
   have hx1:(Au a).getD (k-1) 0<4294967296:=W32.getD (CM a) (k-1)
   refine Aw O (Ba (v:=(vK .u32 ((Au a).getD (k-1) 0))) O (λw' hw=>CA.at0 (hw.oldCA (by simp) (Ea hp)) (BI (xs:=Au a) (j:=(k-1)) Z)) isAgg83) (Bp O (Bp O (Aw (v:=(pP q (k-1))) O (AI (j:=k-1) O O underlying187 sizeOf83 O Z (by simp)) ?_)))
   have hx2:(Au b).getD (k-1) 0<4294967296:=W32.getD (CM b) (k-1)
   refine Aw O (Ba (v:=(vK .u32 ((Au b).getD (k-1) 0))) O (λw' hw=>CA.at0 (hw.oldCA (by simp) (Ea hq)) (BI (xs:=Au b) (j:=(k-1)) Z)) isAgg83) (Aw O (CP (c:=(decide (((Au a).getD (k-1) 0)≠((Au b).getD (k-1) 0)))) O O (Xl (a:=(Au a).getD (k-1) 0) (b:=(Au b).getD (k-1) 0))) (AS.nil (AD.subF (sL [0,1,5,32] O) (AD.then_ ?_))))
   refine AF.cond O (λhc2=>?_) (λhc2=>?_)
   ·replace hc2:=of_decide_eq_true hc2
    have hcw:=Pr Z hk0 hk hd Z
    refine AF.seq (AF.seq (DA [(0,true),(1,true),(2,true),(3,true),(4,true),(5,true),(6,true),(7,true),(8,true)] sr (Bp O (Bp O (Aw (v:=(pP p (k-1))) O (AI (j:=k-1) O O underlying187 sizeOf83 O Z (by simp)) ?_)))))
    have hx3:(Au a).getD (k-1) 0<4294967296:=W32.getD (CM a) (k-1)
    refine Aw O (Ba (v:=(vK .u32 ((Au a).getD (k-1) 0))) O (λw' hw=>CA.at0 (hw.oldCA (by simp) (Ea hp)) (BI (xs:=Au a) (j:=(k-1)) Z)) isAgg83) (Bp O (Bp O (Aw (v:=(pP q (k-1))) O (AI (j:=k-1) O O underlying187 sizeOf83 O Z (by simp)) ?_)))
    have hx4:(Au b).getD (k-1) 0<4294967296:=W32.getD (CM b) (k-1)
    refine Aw O (Ba (v:=(vK .u32 ((Au b).getD (k-1) 0))) O (λw' hw=>CA.at0 (hw.oldCA (by simp) (Ea hq)) (BI (xs:=Au b) (j:=(k-1)) Z)) isAgg83) (Aw O (Af (c:=(decide (((Au a).getD (k-1) 0)<((Au b).getD (k-1) 0)))) O O (DB (a:=(Au a).getD (k-1) 0) (b:=(Au b).getD (k-1) 0))) (AS.nil (AD.subF (sL [0,1,5,41] O) (AD.then_ ?_))))
    refine AF.cond O (λhc3=>?_) (λhc3=>?_)
    ·replace hc3:=of_decide_eq_true hc3
     rw [if_pos Z] at hcw
     refine q4 (AJ O (AE.nil (AD.then_ (AF.ret (AD.then_ret ?_)))))
     exact AD.in_ret (AD.then_ret (AD.round1_ret (AD.in_ret (AD.then_ret (AN O (Ac (v:=(vI (-1:Int))) O) (λw hw=>⟨by rw [hcw],hw.out⟩))))))
    ·replace hc3:=of_decide_eq_false hc3
     rw [if_neg Z] at hcw
     refine AF.skip (q2 (AJ O (AE.nil (AD.then_ (AF.ret ?_)))))
     exact AD.in_ret (AD.then_ret (AD.round1_ret (AD.in_ret (AD.then_ret (AN O (Ac (v:=(vI 1)) O) (λw hw=>⟨by rw [hcw],hw.out⟩))))))
   ·replace hc2:=of_decide_eq_false hc2
    refine AF.skip (AD.in_normal (AD.then_ (AF.region (AP O (AH (By (c:=(((k-1:Nat):Int)-1)) O O (BM Z Z)) O ?_)))))
    exact AJ O (AE.nil (AD.subF (sL [0,1,5] O) (AD.round1 (k-1) (⟨Z,P4 (by unfold nw at hc0;omega) Z hk hd Z⟩) Z (sF O) sr)))
  ·replace hc1:=of_decide_eq_false hc1
   have hk0:k=0:=by omega
   subst hk0
   have hz:=TN hd
   refine AF.exit (AD.then_exit (AD.round1_exit (AD.in_exit (q2 (AJ O ?_)))))
   exact AE.nil (AD.then_ (AF.ret (AN O (Ac (v:=(vI 0)) O) (λw hw=>⟨by rw [hz],hw.out⟩))))
end
end Go.Proofs.YtfbomiejpbchdaaGreatDoor
