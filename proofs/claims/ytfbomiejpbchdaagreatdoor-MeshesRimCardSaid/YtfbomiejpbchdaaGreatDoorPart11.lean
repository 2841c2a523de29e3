import Derived.Test.YtfbomiejpbchdaaGreatDoorPart06
import Derived.Test.YtfbomiejpbchdaaGreatDoorPart10
namespace Go.Proofs.YtfbomiejpbchdaaGreatDoor
open Go Go.RowKit Go.Proofs.Tryz
set_option linter.unusedVariables false
set_option linter.unusedSimpArgs false
section
set_option maxRecDepth 100000
theorem Hy (b m c:Nat) (bs:List Nat) (hbs:W32 bs) (hm:m<=bs.length) (hc:m<=c) (hL:c<4398046511104) (w:World) (hb:w.heap[b]?=some (.cells (Ak bs).toArray 83 (0,0))):Calls prog 107 #[(Value.slice (some ⟨b,0,none⟩) m c)] w (Am w (aG (AT (val (bs.take m))))):=by
 have hle:=IQ bs m
 have hval:=JS bs m
 have hwd:=HJ hbs hm
 have hnw:=Mz hbs hm
 generalize hK:DL bs m=K at *
 refine Ac (args:=[(Value.slice (some ⟨b,0,none⟩) m c)]) func107 O O (Ab O) (AF.subF (sL [0] O) (q4 (al E7 O λb1=>AE.nil (q2 ?_))))
 refine AO O (ET call145 (λw hw=>Po _ m c bs hbs Z Z Z w (hw.old (by simp) hb)) O (AE.retell (k:=10) (u:=(Value.slice (some ⟨b,0,none⟩) K c)) O (by rw [hK]) (AK O (q6 (sL [0,2] O) (q4 ?_)))))
 refine AO O (AG (v:=(vN K)) (AH O underlying187) O (AG (HL (c:=(decide (K<=2))) O O (SP (a:=K) (b:=2))) O (AE.nil (AD.subF (sL [0,2,13] O) (AD.then_ ?_)))))
 refine AF.cond O (λhc0=>?_) (λhc0=>?_)
 ·replace hc0:=of_decide_eq_true hc0
  refine q4 (AK O (AE.nil (q1 (q4 (AO O ?_)))))
  refine AG (v:=(vN K)) (AH O underlying187) O (AO O (AE.nil (AD.then_ (AF.block ?_))))
  refine AF.lp2 (tg λ(i:Nat) (n:Nat)=>i<=K/\n=val (bs.take i)) (tg λ(i:Nat) (n:Nat)=>[(0,(Value.slice (some ⟨b,0,none⟩) K c)),(2,(pP b1 0)),(14,(Value.slice (some ⟨b,0,none⟩) K c)),(15,(vN K)),(16,(vN i)),(3,(vK .u64 n))]) (tg λ(i:Nat) (n:Nat)=>[Ae b1 55 (AT 0)]) (tg λ(i:Nat) (n:Nat)=>K-i) 0 0 (⟨Nat.zero_le _,by simp [val]⟩) (sF O) sr (λi n hJ=>?_)
  obtain ⟨hi,hn⟩:=hJ
  refine q4 (AG (Af (c:=(decide (i<K))) O O (C6 (a:=i) (b:=K))) O (AE.nil (q1 ?_)))
  refine AF.cond O (λhc1=>?_) (λhc1=>?_)
  ·replace hc1:=of_decide_eq_true hc1
   refine AF.skip (q1 (AF.block (q4 (AO O (AG (v:=(pP b i)) (AJ (j:=i) O O underlying187 sizeOf83 O Z (by simp)) O ?_)))))
   have hx1:bs.getD i 0<4294967296:=W32.getD hbs i
   refine AG (Bc (v:=(vK .u32 (bs.getD i 0))) O (λw' hw=>CA.at0 (hw.oldCA (by simp) (ED hb)) (BJ (xs:=bs) (j:=i) Z)) isAgg83) O (AK O (AK O (AE.nil (AD.subF (sL [0,2,14,15,16,3,4,5] O) (AD.then_ ?_)))))
   refine AF.region (AO O (AO O (AG (Aq (c:=((bs.getD i 0:Nat):Int)) O underlying83 underlying53 (BY Z)) O (AO O ?_))))
   have hiK:i<K:=hc1
   have hi2:i<2:=by omega
   have hn2:n<4294967296^i:=by rw [hn];exact Nat.lt_of_lt_of_le (Fc (hbs.take i)) (Nat.pow_le_pow_right Z (by simp;omega))
   have hsh:=Qm (i:=i) (hbs.getD i) hi2
   have hn3:n<18446744073709551616:=Oy hn2 hi2
   refine AG (Br (c:=((32*i:Nat):Int)) O O (Cd (a:=32) (b:=i) Z)) O (AG (v:=(vK .u64 (bs.getD i 0*2^(32*i)))) (FW (s:=32*i) O O O (show 32*i<=64 by omega) (Fk hsh)) O (AG (Hu (c:=((n+bs.getD i 0*2^(32*i):Nat):Int)) O O (IM hn3 hsh (GO (by rw [<-Tl];exact hn2)))) O (AK O (AE.nil (AD.subF (sL [0,2,14,15,16,3] O) ?_)))))
   refine AD.in_normal (AD.then_ (AF.region (AG (AX (c:=((i+1:Nat):Int)) O O (AY (a:=i) (b:=1) Z)) O (AO O (AE.nil ?_)))))
   exact AD.subF (sL [0,2,14,15,16,3] O) (AD.round2 (i+1) (n+bs.getD i 0*2^(32*i)) (⟨Z,by rw [BZ,<-hn,Tl]⟩) Z (sF O) sr)
  ·replace hc1:=of_decide_eq_false hc1
   refine AF.exit (AD.then_exit (AD.round2_exit (AD.in_exit (q2 (AO O ?_)))))
   have hnn:n=val (bs.take K):=by rw [hn,show i=K by omega]
   have hv2:val (bs.take m)<18446744073709551616:=by rw [<-hval];exact Nat.lt_of_lt_of_le (Fc (hbs.take K)) (by rw [List.length_take];exact Nat.le_trans (Nat.pow_le_pow_right (n:=4294967296) Z (show min K bs.length<=2 by omega)) (by decide))
   refine AG (v:=(aG ([(vK .u64 n),(Value.string (Bj 0))]))) (AV (zs:=AT 0) (vs:=[(vK .u64 n),(Value.string (Bj 0))]) (pv:=[(0,(vK .u64 n))]) (places:=[(0,1),(1,1)]) zeroValue55 underlying55 (λw=>by simp [sizeOf9,sizeOf53]) O O) O (AE.retell (k:=30) (u:=(aG (AT (val (bs.take m))))) O (by rw [DF hv2,<-hval,<-hnn];rfl) (Au O sizeOf55 O (AE.nil (AD.subF (sL [0,2,14,15,16,3] O) (AD.then_ ?_)))))
   exact AF.ret (AD.then_ret (AP O (A8 (i:=0) (cs:=AT (val (bs.take m))) O O isAgg55 sizeOf55 O) (λw hw=>⟨rfl,hw.out⟩)))
 ·replace hc0:=of_decide_eq_false hc0
  refine AF.skip (q2 (AO O (AG (v:=(vN K)) (AH O underlying187) O (AG (Br (c:=((4*K:Nat):Int)) O O (Cd (a:=4) (b:=K) Z)) O (AE.openV (V:=λb2=>(Value.slice (some ⟨b2,0,none⟩) 0 (4*K))) (T:=5) (cs:=H9 (List.replicate (4*K) 0)) (AQ O) (Mg (m:=0) (c:=4*K) O O Z Z) O (Ab O) λb2=>?_)))))
  refine AK O (q6 (sL [0,2,6] O) (q4 (AO O (AG (v:=(vN K)) (AH O underlying187) O (AO O ?_)))))
  refine AE.nil (AD.then_ (AF.block ?_))
  refine AF.lp2 (tg λ(i:Nat) (bz:List Nat)=>i<=K/\bz=bytesN (bs.take i)++List.replicate (4*(K-i)) 0) (tg λ(i:Nat) (bz:List Nat)=>[(2,(pP b1 0)),(35,(Value.slice (some ⟨b,0,none⟩) K c)),(36,(vN K)),(37,(vN i)),(6,(Value.slice (some ⟨b2,0,none⟩) (4*i) (4*K)))]) (tg λ(i:Nat) (bz:List Nat)=>[Ae b2 5 (H9 bz),Ae b1 55 (AT 0)]) (tg λ(i:Nat) (bz:List Nat)=>K-i) 0 (List.replicate (4*K) 0) (⟨Nat.zero_le _,by simp [bytesN]⟩) (sF O) sr (λi bz hJ=>?_)
  obtain ⟨hi,hz⟩:=hJ
  refine q4 (AG (Af (c:=(decide (i<K))) O O (C6 (a:=i) (b:=K))) O (AE.nil (q1 ?_)))
  refine AF.cond O (λhc2=>?_) (λhc2=>?_)
  ·replace hc2:=of_decide_eq_true hc2
   refine AF.skip (q1 (AF.block (q4 (AG (v:=(pP b i)) (AJ (j:=i) O O underlying187 sizeOf83 O Z (by simp)) O ?_))))
   have hx2:bs.getD i 0<4294967296:=W32.getD hbs i
   refine AG (Bc (v:=(vK .u32 (bs.getD i 0))) O (λw' hw=>CA.at0 (hw.oldCA (by simp) (ED hb)) (BJ (xs:=bs) (j:=i) Z)) isAgg83) O (AK O (AE.nil (AD.subF (sL [2,35,36,37,6,8] O) (AD.then_ (AF.region ?_)))))
   refine AO O (AO O (AG (Aq (c:=(((bs.getD i 0)%256:Nat):Int)) O underlying83 underlying5 IR) O (AO O (AG (CZ (s:=8) (c:=(((bs.getD i 0)/256:Nat):Int)) O O O (by decide) (FA (a:=bs.getD i 0) (s:=8))) O (AG (Aq (c:=((((bs.getD i 0)/256)%256:Nat):Int)) O underlying83 underlying5 IR) O ?_)))))
   refine AO O (AG (CZ (s:=16) (c:=(((bs.getD i 0)/65536:Nat):Int)) O O O (by decide) (FA (a:=bs.getD i 0) (s:=16))) O (AG (Aq (c:=((((bs.getD i 0)/65536)%256:Nat):Int)) O underlying83 underlying5 IR) O (AO O (AG (CZ (s:=24) (c:=(((bs.getD i 0)/16777216:Nat):Int)) O O O (by decide) (FA (a:=bs.getD i 0) (s:=24))) O (AG (Aq (c:=((((bs.getD i 0)/16777216)%256:Nat):Int)) O underlying83 underlying5 IR) O ?_)))))
   refine AE.openV (V:=λb3=>(Value.slice (some ⟨b3,0,none⟩) 4 4)) (T:=5) (cs:=H9 ([(bs.getD i 0)%256,((bs.getD i 0)/256)%256,((bs.getD i 0)/65536)%256,((bs.getD i 0)/16777216)%256])) (AQ O) (BA (cs:=H9 ([(bs.getD i 0)%256,((bs.getD i 0)/256)%256,((bs.getD i 0)/65536)%256,((bs.getD i 0)/16777216)%256])) (pv:=[(0,(vK .u8 ((bs.getD i 0)%256))),(1,(vK .u8 (((bs.getD i 0)/256)%256))),(2,(vK .u8 (((bs.getD i 0)/65536)%256))),(3,(vK .u8 (((bs.getD i 0)/16777216)%256)))]) underlying46 sizeOf5 zeroValue5 (by decide) (by decide) O (by kernel_rfl)) O (Ab O) λb3=>?_
   obtain ⟨bz2,hz2,hlay⟩:∃bz2,bz2=bytesN (bs.take (i+1))++List.replicate (4*(K-(i+1))) 0/\Gi (H9 bz) (4*i) (H9 ([(bs.getD i 0)%256,((bs.getD i 0)/256)%256,((bs.getD i 0)/65536)%256,((bs.getD i 0)/16777216)%256]))=H9 bz2:=⟨_,rfl,by rw [hz];exact Ms hc2 Z⟩
   refine AE.append_u8 (i:=1) (j:=0) (m:=4*i) (c:=4*K) (k:=4) (cs':=H9 bz2) (L':=[Ae b3 5 (H9 ([(bs.getD i 0)%256,((bs.getD i 0)/256)%256,((bs.getD i 0)/65536)%256,((bs.getD i 0)/16777216)%256])),Ae b2 5 (H9 bz2),Ae b1 55 (AT 0)]) O (AQ O) O O O O O O Z (by rw [GW,hz];simp [B4];omega) hlay O (Ab O) (AK O (AE.nil (AD.subF (sL [2,35,36,37,6] O) (AD.in_normal (AD.then_ ?_)))))
   exact AF.region (AG (AX (c:=((i+1:Nat):Int)) O O (AY (a:=i) (b:=1) Z)) O (AO O (AE.nil (AD.subF (sL [2,35,36,37,6] O) (AD.round2 (i+1) bz2 (⟨Z,hz2⟩) Z (sF O) (sl sr))))))
  ·replace hc2:=of_decide_eq_false hc2
   refine AF.exit (AD.then_exit (AD.round2_exit (AD.in_exit (q2 (AO O ?_)))))
   have hbl:bz.length=4*i:=by rw [hz,List.length_append,B4,List.length_take,List.length_replicate];omega
   have htk:(H9 bz).take (4*i)=H9 bz:=List.take_of_length_le (by rw [GW];omega)
   refine AG (v:=(Value.string (Ct bz))) (H5 (i:=0) (m:=4*i) (ns:=bz) O O htk hbl) O ?_
   have hv3:¬val (bs.take m)<18446744073709551616:=λh=>by have:=G5 h;omega
   have hbz:bz=bytesN (bs.take K):=by rw [hz,show i=K by omega];simp
   refine AG (v:=(aG ([(vK .u64 (Bw 0)),(Value.string (Ct bz))]))) (AV (zs:=AT 0) (vs:=[(vK .u64 (Bw 0)),(Value.string (Ct bz))]) (pv:=[(1,(Value.string (Ct bz)))]) (places:=[(0,1),(1,1)]) zeroValue55 underlying55 (λw=>by simp [sizeOf9,sizeOf53]) O O) O (AE.retell (k:=58) (u:=(aG (AT (val (bs.take m))))) O (by rw [RQ hv3,hwd,<-hbz];rfl) (C3 O sizeOf55 O (AE.nil (AD.subF (sL [2,35,36,37,6] O) (AD.then_ ?_)))))
   exact AF.ret (AP O (A8 (i:=1) (cs:=AT (val (bs.take m))) O O isAgg55 sizeOf55 O) (λw hw=>⟨rfl,hw.out⟩))
end
section
def Ev (a b:Nat):Int:=if a<b then -1 else if a=b then 0 else 1
theorem IV {a b:Nat}:Ev a b<0↔a<b:=by
  unfold Ev;split
  · omega
  · split<;>omega
theorem Nl {a b:Nat}:Ev a b=0↔a=b:=by
  unfold Ev;split
  · omega
  · split<;>omega
theorem SW {a b:Nat} (h:nw a≠nw b):((nw a:Int)-(nw b:Int)).sign=Ev a b:=by
  unfold Ev
  by_cases h1:nw a<nw b
  · have h2:a<b:=by
      rcases Nat.lt_or_ge a b with h2|h2
      · exact h2
      · have:=DE h2;omega
    rw [if_pos h2,Int.sign_eq_neg_one_of_neg Z]
  · have h2:b<a:=by
      rcases Nat.lt_or_ge b a with h2|h2
      · exact h2
      · have:=DE h2;omega
    rw [if_neg Z,if_neg Z,Int.sign_eq_one_of_pos Z]
theorem Qj {xs ys:List Nat} {k:Nat} (hx:W32 xs) (hl:xs.length=ys.length) (h0:0<k) (hk:k<=xs.length) (hd:xs.drop k=ys.drop k) (h:xs.getD (k-1) 0<ys.getD (k-1) 0):val xs<val ys:=by
  have e1:=D9 xs k hk
  have e2:=D9 ys k Z
  have s1:=BZ xs (k-1)
  have s2:=BZ ys (k-1)
  rw [show k-1+1=k by omega] at s1 s2
  have h1:val (xs.take (k-1))<4294967296^(k-1):=Nat.lt_of_lt_of_le (Fc (hx.take (k-1))) (Nat.pow_le_pow_right Z (by simp;omega))
  have h2:(xs.getD (k-1) 0+1)*4294967296^(k-1)<=ys.getD (k-1) 0*4294967296^(k-1):=Nat.mul_le_mul_right _ h
  rw [Nat.add_mul] at h2
  rw [hd] at e1
  omega
theorem Oe {xs ys:List Nat} {k:Nat} (hl:xs.length=ys.length) (h0:0<k) (hk:k<=xs.length) (hd:xs.drop k=ys.drop k) (h:xs.getD (k-1) 0=ys.getD (k-1) 0):xs.drop (k-1)=ys.drop (k-1):=by
  have h1:k-1<xs.length:=by omega
  have h2:k-1<ys.length:=by omega
  rw [List.drop_eq_getElem_cons h1,List.drop_eq_getElem_cons h2,show k-1+1=k by omega,hd]
  simp [h1,h2] at h
  rw [h]
theorem O5 {a b k:Nat} (hl:nw a=nw b) (h0:0<k) (hk:k<=nw a) (hd:(AL a).drop k=(AL b).drop k) (hne:(AL a).getD (k-1) 0≠(AL b).getD (k-1) 0) :
    Ev a b=if (AL a).getD (k-1) 0<(AL b).getD (k-1) 0 then -1 else 1:=by
  unfold Ev
  split
  · rename_i h
    rw [if_pos]
    rcases Nat.lt_or_ge ((AL a).getD (k-1) 0) ((AL b).getD (k-1) 0) with h1|h1
    · exact h1
    · have:=Qj (Bp b) hl.symm h0 (by unfold nw at *;omega) hd.symm (show (AL b).getD (k-1) 0<(AL a).getD (k-1) 0 by omega)
      rw [CN,CN] at this;omega
  · rename_i h
    have h2:¬(AL a).getD (k-1) 0<(AL b).getD (k-1) 0:=λh1=>by
      have:=Qj (Bp a) hl h0 hk hd h1
      rw [CN,CN] at this;omega
    rw [if_neg h2,if_neg]
    intro e;subst e;exact hne rfl
theorem Ri {a b:Nat} (hd:(AL a).drop 0=(AL b).drop 0):Ev a b=0:=by
  rw [Nl]
  rw [List.drop_zero,List.drop_zero] at hd
  rw [<-CN a,<-CN b,hd]
theorem DA {v i:Nat} (h:i<nw v):(Ax v).getD i 0=(AL v).getD i 0:=by
  rw [<-G8 v]
  simp [List.getD_eq_getElem?_getD,List.getElem?_take,h]
theorem Du {v i:Nat} (h:¬i<nw v):(AL v).getD i 0=0:=by
  unfold nw at h;simp [List.getD_eq_getElem?_getD,Nat.not_lt.1 h]
theorem Cu {v i:Nat} (h:nw v<=i):val ((AL v).take i)=v:=by
  rw [List.take_of_length_le h,CN]
theorem TA (v:Nat):(Ax v).length<=nw v+2:=by
  unfold Ax;split
  · simp
  · unfold nw;omega
theorem Gq (v:Nat):val ((Ax v).take (nw v))=v:=by rw [G8,CN]
theorem Lh {os ys:List Nat} {X i n c:Nat} (hl:os.length=n) (hi:i<n) (hv:val os+c*4294967296^i=X+val (ys.take i)) :
    val (os.set i ((os.getD i 0+ys.getD i 0+c)%4294967296))+(os.getD i 0+ys.getD i 0+c)/4294967296*4294967296^(i+1)=X+val (ys.take (i+1)):=by
  have e:=Ed (xs:=os) (i:=i) Z ((os.getD i 0+ys.getD i 0+c)%4294967296)
  have t:=BZ ys i
  have hm:=Nat.div_add_mod (os.getD i 0+ys.getD i 0+c) 4294967296
  rw [Nat.pow_succ]
  generalize os.getD i 0=o at *
  generalize ys.getD i 0=y at *
  generalize (o+y+c)/4294967296=q at *
  generalize (o+y+c)%4294967296=r at *
  generalize 4294967296^i=p at *
  have hm2:(4294967296*q+r)*p=(o+y+c)*p:=by rw [hm]
  grind
theorem L2 {os:List Nat} {X Y n c i:Nat} (hl:os.length=n) (hw:W32 os) (hi:n<=i) (hX:X+Y<4294967296^n) (hv:val os+c*4294967296^i=X+Y):val os=X+Y:=by
  have h1:4294967296^n<=4294967296^i:=Nat.pow_le_pow_right Z hi
  rcases Nat.eq_zero_or_pos c with h|h
  · subst h;omega
  · have:1*4294967296^i<=c*4294967296^i:=Nat.mul_le_mul_right _ h
    omega
theorem P3 {os ys:List Nat} {X i n c:Nat} (hl:os.length=n) (hi:i<n) (hw:W32 os) (hy:W32 ys) (hc:c<=1) (hv:val os+val (ys.take i)=X+c*4294967296^i) :
    val (os.set i ((os.getD i 0+(4294967296-ys.getD i 0)+(4294967296-c))%4294967296))+val (ys.take (i+1))=X+Hj (os.getD i 0) (ys.getD i 0+c)*4294967296^(i+1):=by
  have e:=Ed (xs:=os) (i:=i) Z ((os.getD i 0+(4294967296-ys.getD i 0)+(4294967296-c))%4294967296)
  have t:=BZ ys i
  have ho:=hw.getD i
  have hy':=hy.getD i
  rw [Nat.pow_succ]
  have hm:(os.getD i 0+(4294967296-ys.getD i 0)+(4294967296-c))%4294967296+ys.getD i 0+c=os.getD i 0+Hj (os.getD i 0) (ys.getD i 0+c)*4294967296:=by
    unfold Hj;split<;>omega
  generalize (os.getD i 0+(4294967296-ys.getD i 0)+(4294967296-c))%4294967296=r at *
  generalize Hj (os.getD i 0) (ys.getD i 0+c)=q at *
  generalize os.getD i 0=o at *
  generalize ys.getD i 0=y at *
  generalize 4294967296^i=p at *
  have hm2:(r+y+c)*p=(o+q*4294967296)*p:=by rw [hm]
  grind
theorem Pp {os:List Nat} {X Y n c i:Nat} (hl:os.length=n) (hw:W32 os) (hi:i=n) (hX:Y<=X) (hv:val os+Y=X+c*4294967296^i) (hX2:X<4294967296^n):val os=X-Y:=by
  have h1:=Fc hw
  rw [hl] at h1
  subst hi
  rcases Nat.eq_zero_or_pos c with h|h
  · subst h;omega
  · have:1*4294967296^i<=c*4294967296^i:=Nat.mul_le_mul_right _ h
    omega
theorem NA (x y:Nat):Hj x y<=1:=by unfold Hj;split<;>omega
theorem Q_ {os ys:List Nat} {S W i k n c:Nat} (hl:os.length=n) (hi:i+k<n) (hv:val os+c*4294967296^(i+k)=S+W*val (ys.take k)*4294967296^i) :
    val (os.set (i+k) ((c+(W*ys.getD k 0+os.getD (i+k) 0))%4294967296))+(c+(W*ys.getD k 0+os.getD (i+k) 0))/4294967296*4294967296^(i+(k+1))=S+W*val (ys.take (k+1))*4294967296^i:=by
  have e:=Ed (xs:=os) (i:=i+k) Z ((c+(W*ys.getD k 0+os.getD (i+k) 0))%4294967296)
  have t:=BZ ys k
  have hm:=Nat.div_add_mod (c+(W*ys.getD k 0+os.getD (i+k) 0)) 4294967296
  rw [t,show i+(k+1)=i+k+1 by omega,Nat.pow_succ]
  rw [Nat.pow_add] at *
  generalize os.getD (i+k) 0=o at *
  generalize ys.getD k 0=y at *
  generalize (c+(W*y+o))/4294967296=q at *
  generalize (c+(W*y+o))%4294967296=r at *
  generalize 4294967296^i=p at *
  generalize 4294967296^k=p' at *
  generalize val (ys.take k)=vy at *
  have hm2:(4294967296*q+r)*(p*p')=(c+(W*y+o))*(p*p'):=by rw [hm]
  grind
section
variable {n:Nat} {F:List (Nat×Value)} {w0:BL} {L:List As} {v:Value} {x y:Operand} {d:Option Tmp} {t:TypeId} {p:String} {af:Array Edge} {g:Option (Nat×Bool)}
theorem AE.copy_u32 {ops:Array Oper} {rest:List Oper} {Q:Exit->Act->World->Prop} {L':List As} {i j b b' m c k c' dd:Nat} {cs ds ns cs':List Value} {o:Oper} (ho:o=⟨some dd,.call { callee:=.builtin .copy,args:=#[x,y],argTypes:=#[187,187] },t,p,af,g⟩) (hw:Wt ops n F o)
    (hx:evF F x=some (.slice (some ⟨b,0,none⟩) m c)) (hy:evF F y=some (.slice (some ⟨b',0,none⟩) k c')) (hi:L[i]?=some (Ae b 83 cs)) (hj:L[j]?=some (Ae b' 83 ds)) (hns:ds.take k=ns) (hnl:ns.length=k) (h1:(ns.all λu=>u.oneCell')=true) (hkm:k<=m) (hfit:k<=cs.length)
    (hcs:Gi cs 0 ns=cs') (hL:L.set i (Ae b 83 cs')=L') (hd:dd<n) (next:AE prog ops rest Q n ((dd,.int .i64 k)::F) w0 L'):AE prog ops (o::rest) Q n F w0 L:=λa w ha hW=>by
  subst ho;subst hcs;subst hL
  unfold wpList
  rw [if_pos (hw a ha)]
  left
  have hca:=D8 (off:=0) (k:=k) (hW.get hj)
  rw [List.drop_zero,hns] at hca
  have hr:=run_copy_row (P:=prog) w 187 187 t 83 b 0 m c ⟨b',0,none⟩ k c' cs.toArray 83 ns underlying187 (by kernel_rfl) (hW.get hi) (by rw [hnl];exact (Nat.min_eq_left hkm).symm) (λq u hu=>by rw [Addr.add_lit];exact hca q u hu) (by simp;omega) (λu hu=>List.all_eq_true.1 h1 u hu)
  unfold Oper.wp
  have he:(execOp a.eval ⟨some dd,.call { callee:=.builtin .copy,args:=#[x,y],argTypes:=#[187,187] },t,p,af,g⟩).run prog w=.ok (.value (.int .i64 k)) (w.setRow b (Gi cs 0 ns).toArray):=by
    simp only [execOp,resolve,invoke,builtin,Sem.run_bind,Sem.run_pure,Result.andThen_ok,List.map_toArray,List.map_cons,List.map_nil,ha.ev hx,ha.ev hy,hr,Gi,hnl,goInt]
  rw [he,Oper.upon_value]
  have hg:=hW.get hi
  exact next _ _ (ha.put hd) (hW.turn hi O O ⟨⟨rfl,rfl,rfl,by simp,λq _ hq=>setRow_other w b q _ (λe=>hq (by simp [e]))⟩,Nat.le_refl _⟩ ⟨_,setRow_heap w b cs.toArray _ 83 _ hg,rfl⟩)
end
theorem Rz {a b:Nat} (h:nw b<=nw a):a+b<4294967296^(nw a+1):=by
  have h1:=Bu a
  have h2:b<4294967296^nw a:=Cj.1 h
  rw [Nat.pow_succ];omega
theorem Ep (v k:Nat):(AL v++(List.replicate (nw v+k) 0).drop (AL v).length).length=nw v+k/\W32 (AL v++(List.replicate (nw v+k) 0).drop (AL v).length)/\val (AL v++(List.replicate (nw v+k) 0).drop (AL v).length)=v:=by
  have e:(List.replicate (nw v+k) 0).drop (AL v).length=List.replicate k 0:=by rw [List.drop_replicate];congr 1;unfold nw;omega
  rw [e]
  refine ⟨by simp [nw],(Bp v).append (W32.zeros k),?_⟩
  rw [I9,CN,De];omega
theorem Gy {os:List Nat} {p c n:Nat} (hl:os.length=n) (hp:p<n) (h0:os.getD p 0=0):val (os.set p c)=val os+c*4294967296^p:=by
  have e:=Ed (xs:=os) (i:=p) Z c
  rw [h0] at e;omega
theorem Mv {os:List Nat} {a b i:Nat} (hv:val os=val ((AL a).take i)*b):∀j,i+nw b<=j->os.getD j 0=0:=λj hj=>by
  refine FN (m:=i+nw b) ?_ hj
  rw [hv,Nat.pow_add]
  refine Nat.mul_lt_mul'' (Nat.lt_of_lt_of_le (Fc ((Bp a).take i)) (Nat.pow_le_pow_right Z (by simp;omega))) (Bu b)
theorem E1 {os:List Nat} {p q v:Nat} (h:∀j,p<=j->os.getD j 0=0) (hq:q<p):∀j,p<=j->(os.set q v).getD j 0=0:=λj hj=>by
  rw [List.getD_eq_getElem?_getD,List.getElem?_set_ne Z,<-List.getD_eq_getElem?_getD]
  exact h j hj
theorem Tb {a b i:Nat}:val ((AL a).take i)*b+(AL a).getD i 0*b*4294967296^i=val ((AL a).take (i+1))*b:=by
  rw [BZ];grind
theorem Um {x y:Nat} (hx:x<18446744073709551616) (hy:y<18446744073709551616):val [x%4294967296,x/4294967296,y%4294967296,y/4294967296]=x+y*18446744073709551616:=by
  simp only [val];omega
theorem MU (xs:List Nat):((Ak xs).all λu=>u.oneCell')=true:=List.all_eq_true.2 (Qk xs)
theorem Jy (xs:List Nat) (k:Nat):(Ak xs).take k=Ak (xs.take k):=by simp [Ak,List.map_take]
theorem Lc (xs ns:List Nat):Gi (Ak xs) 0 (Ak ns)=Ak (ns++xs.drop ns.length):=by simp [Gi,Ak,List.map_drop]
end
section
set_option maxRecDepth 100000
theorem UK (a b p q c c2:Nat) (ha:nw a<=1099511627776) (hb:nw b<=1099511627776) (w:World) (hp:w.heap[p]?=some (.cells (Ak (Ax a)).toArray 83 (0,0))) (hq:w.heap[q]?=some (.cells (Ak (Ax b)).toArray 83 (0,0))):Calls prog 182 #[(Value.slice (some ⟨p,0,none⟩) (nw a) c),(Value.slice (some ⟨q,0,none⟩) (nw b) c2)] w (Am w (vI (Ev a b))):=by
 have hla:=CD a
 have hlb:=CD b
 refine Ac (args:=[(Value.slice (some ⟨p,0,none⟩) (nw a) c),(Value.slice (some ⟨q,0,none⟩) (nw b) c2)]) func182 O O (Ab O) (AF.subF (sL [0,1] O) (q4 (AK O (AE.nil (q1 ?_)))))
 refine q4 (AO O (AG (v:=(vN (nw a))) (AH O underlying187) O (AO O (AG (v:=(vN (nw b))) (AH O underlying187) O (AG (CL (c:=(decide ((nw a)≠(nw b)))) O O (V8 (a:=nw a) (b:=nw b))) O ?_)))))
 refine AE.nil (AD.subF (sL [0,1,4,10] O) (AD.then_ ?_))
 refine AF.cond O (λhc0=>?_) (λhc0=>?_)
 ·replace hc0:=of_decide_eq_true hc0
  refine q4 (AO O (AG (v:=(vN (nw a))) (AH O underlying187) O (AO O (AG (v:=(vN (nw b))) (AH O underlying187) O (AG (Bz (c:=((nw a:Int)-(nw b:Int))) O O (BM Z Z)) O ?_)))))
  refine BV call221 (TF _ Z Z) O (AE.retell (k:=16) (u:=(vI (Ev a b))) O (by rw [SW hc0]) (AK O (AE.nil (AD.subF (sL [0,1,4] O) (AD.then_ ?_)))))
  exact AF.ret (AD.then_ret (AP O (Ad (v:=(vI (Ev a b))) O) (λw hw=>⟨rfl,hw.out⟩)))
 ·replace hc0:=of_decide_eq_false hc0
  refine AF.skip (q1 (q4 (AO O (AG (v:=(vN (nw a))) (AH O underlying187) O (AG (Bz (c:=(((nw a:Nat):Int)-1)) O O (BM Z Z)) O ?_)))))
  refine AK O (AE.nil (AD.subF (sL [0,1,4,5] O) (AD.then_ (AF.block ?_))))
  refine AF.lp1 (tg λ(k:Nat)=>k<=nw a/\(AL a).drop k=(AL b).drop k) (tg λ(k:Nat)=>[(0,(Value.slice (some ⟨p,0,none⟩) (nw a) c)),(1,(Value.slice (some ⟨q,0,none⟩) (nw b) c2)),(5,(vI (((k:Nat):Int)-1)))]) (tg λ(k:Nat)=>[]) (tg λ(k:Nat)=>k) (nw a) (⟨Nat.le_refl _,by rw [List.drop_of_length_le (by exact Nat.le_refl _),List.drop_of_length_le (by unfold nw at *;omega)]⟩) (sF O) sr (λk hJ=>?_)
  obtain ⟨hk,hd⟩:=hJ
  refine AF.seq (q4 (AO O (AG (CQ (c:=(decide ((0:Int)<=(((k:Nat):Int)-1)))) O O O) O (AE.nil (AD.subF (sL [0,1,5,21] O) ?_)))))
  refine AD.then_ ?_
  refine AF.cond O (λhc1=>?_) (λhc1=>?_)
  ·replace hc1:=of_decide_eq_true hc1
   have hk0:0<k:=by omega
   refine AF.retell (k:=5) (u:=(vN (k-1))) O (by congr 1;omega) (AF.skip (q1 (AF.block (AF.seq (C4 [(0,true),(1,true),(2,true),(3,true),(4,true),(5,true),(6,true),(7,true),(8,true)] sr ?_)))))
   have ea:(Ax a).getD (k-1) 0=(AL a).getD (k-1) 0:=DA Z
   have eb:(Ax b).getD (k-1) 0=(AL b).getD (k-1) 0:=DA Z
   refine Bo O (Bo O (Ay (v:=(pP p (k-1))) O (AJ (j:=k-1) O O underlying187 sizeOf83 O Z (by simp)) ?_))
   have hx1:(Ax a).getD (k-1) 0<4294967296:=W32.getD (CE a) (k-1)
   refine Ay O (Bc (v:=(vK .u32 ((Ax a).getD (k-1) 0))) O (λw' hw=>CA.at0 (hw.oldCA (by simp) (ED hp)) (BJ (xs:=Ax a) (j:=(k-1)) Z)) isAgg83) (Bo O (Bo O (Ay (v:=(pP q (k-1))) O (AJ (j:=k-1) O O underlying187 sizeOf83 O Z (by simp)) ?_)))
   have hx2:(Ax b).getD (k-1) 0<4294967296:=W32.getD (CE b) (k-1)
   refine Ay O (Bc (v:=(vK .u32 ((Ax b).getD (k-1) 0))) O (λw' hw=>CA.at0 (hw.oldCA (by simp) (ED hq)) (BJ (xs:=Ax b) (j:=(k-1)) Z)) isAgg83) (Ay O (CL (c:=(decide (((Ax a).getD (k-1) 0)≠((Ax b).getD (k-1) 0)))) O O (V8 (a:=(Ax a).getD (k-1) 0) (b:=(Ax b).getD (k-1) 0))) (AS.nil (AD.subF (sL [0,1,5,32] O) (AD.then_ ?_))))
   refine AF.cond O (λhc2=>?_) (λhc2=>?_)
   ·replace hc2:=of_decide_eq_true hc2
    have hcw:=O5 Z hk0 hk hd Z
    refine AF.seq (AF.seq (C4 [(0,true),(1,true),(2,true),(3,true),(4,true),(5,true),(6,true),(7,true),(8,true)] sr (Bo O (Bo O (Ay (v:=(pP p (k-1))) O (AJ (j:=k-1) O O underlying187 sizeOf83 O Z (by simp)) ?_)))))
    have hx3:(Ax a).getD (k-1) 0<4294967296:=W32.getD (CE a) (k-1)
    refine Ay O (Bc (v:=(vK .u32 ((Ax a).getD (k-1) 0))) O (λw' hw=>CA.at0 (hw.oldCA (by simp) (ED hp)) (BJ (xs:=Ax a) (j:=(k-1)) Z)) isAgg83) (Bo O (Bo O (Ay (v:=(pP q (k-1))) O (AJ (j:=k-1) O O underlying187 sizeOf83 O Z (by simp)) ?_)))
    have hx4:(Ax b).getD (k-1) 0<4294967296:=W32.getD (CE b) (k-1)
    refine Ay O (Bc (v:=(vK .u32 ((Ax b).getD (k-1) 0))) O (λw' hw=>CA.at0 (hw.oldCA (by simp) (ED hq)) (BJ (xs:=Ax b) (j:=(k-1)) Z)) isAgg83) (Ay O (Af (c:=(decide (((Ax a).getD (k-1) 0)<((Ax b).getD (k-1) 0)))) O O (C6 (a:=(Ax a).getD (k-1) 0) (b:=(Ax b).getD (k-1) 0))) (AS.nil (AD.subF (sL [0,1,5,41] O) (AD.then_ ?_))))
    refine AF.cond O (λhc3=>?_) (λhc3=>?_)
    ·replace hc3:=of_decide_eq_true hc3
     rw [if_pos Z] at hcw
     refine q4 (AK O (AE.nil (AD.then_ (AF.ret (AD.then_ret ?_)))))
     exact AD.in_ret (AD.then_ret (AD.round1_ret (AD.in_ret (AD.then_ret (AP O (Ad (v:=(vI (-1:Int))) O) (λw hw=>⟨by rw [hcw],hw.out⟩))))))
    ·replace hc3:=of_decide_eq_false hc3
     rw [if_neg Z] at hcw
     refine AF.skip (q2 (AK O (AE.nil (AD.then_ (AF.ret ?_)))))
     exact AD.in_ret (AD.then_ret (AD.round1_ret (AD.in_ret (AD.then_ret (AP O (Ad (v:=(vI 1)) O) (λw hw=>⟨by rw [hcw],hw.out⟩))))))
   ·replace hc2:=of_decide_eq_false hc2
    refine AF.skip (AD.in_normal (AD.then_ (AF.region (AO O (AG (Bz (c:=(((k-1:Nat):Int)-1)) O O (BM Z Z)) O ?_)))))
    exact AK O (AE.nil (AD.subF (sL [0,1,5] O) (AD.round1 (k-1) (⟨Z,Oe (by unfold nw at hc0;omega) Z hk hd Z⟩) Z (sF O) sr)))
  ·replace hc1:=of_decide_eq_false hc1
   have hk0:k=0:=by omega
   subst hk0
   have hz:=Ri hd
   refine AF.exit (AD.then_exit (AD.round1_exit (AD.in_exit (q2 (AK O ?_)))))
   exact AE.nil (AD.then_ (AF.ret (AP O (Ad (v:=(vI 0)) O) (λw hw=>⟨by rw [hz],hw.out⟩))))
end
end Go.Proofs.YtfbomiejpbchdaaGreatDoor
