import Derived.Test.YtpgncndhhhllfaaGreatDoorPart03
import Derived.Test.YtpgncndhhhllfaaGreatDoorPart07
namespace Go.Proofs.YtpgncndhhhllfaaGreatDoor
open Go Go.RowKit Go.Proofs.Tryz
set_option linter.unusedVariables false
set_option linter.unusedSimpArgs false
section
set_option maxRecDepth 100000
theorem JM (b m c:Nat) (bs:List Nat) (hbs:W32 bs) (hm:m<=bs.length) (hc:m<=c) (hL:c<4398046511104) (w:World) (hb:w.heap[b]?=some (.cells (Au bs).toArray 97 (0,0))):Calls prog 110 #[(Value.slice (some ⟨b,0,none⟩) m c)] w (An w (aG (Ab (val (bs.take m))))):=by
 have hle:=Jl bs m
 have hval:=K9 bs m
 have hwd:=Io hbs hm
 have hnw:=QT hbs hm
 generalize hK:Dz bs m=K at *
 refine Af (args:=[(Value.slice (some ⟨b,0,none⟩) m c)]) func110 O O (AT O) (AF.subF (sL [0] O) (q4 (al F5 O λb1=>AE.nil (q2 ?_))))
 refine AM O (Cj call161 (λw hw=>Vg _ m c bs hbs Z Z Z w (hw.old (by simp) hb)) O (AE.retell (k:=10) (u:=(Value.slice (some ⟨b,0,none⟩) K c)) O (by rw [hK]) (asg' O (q6 (sL [0,2] O) (q4 ?_)))))
 refine AM O (AH (v:=(vN K)) (AG O underlying184) O (AH (Hg (c:=(decide (K<=2))) O O (WG (a:=K) (b:=2))) O (AE.nil (AC.subF (sL [0,2,13] O) (AC.then_ ?_)))))
 refine AF.cond O (λhc0=>?_) (λhc0=>?_)
 ·replace hc0:=of_decide_eq_true hc0
  refine q4 (asg' O (AE.nil (q1 (q4 (AM O ?_)))))
  refine AH (v:=(vN K)) (AG O underlying184) O (AM O (AE.nil (AC.then_ (AF.block ?_))))
  refine AF.lp2 (tg λ(i:Nat) (n:Nat)=>i<=K/\n=val (bs.take i)) (tg λ(i:Nat) (n:Nat)=>[(0,(Value.slice (some ⟨b,0,none⟩) K c)),(2,(pP b1 0)),(14,(Value.slice (some ⟨b,0,none⟩) K c)),(15,(vN K)),(16,(vN i)),(3,(vK .u64 n))]) (tg λ(i:Nat) (n:Nat)=>[Ag b1 42 (Ab 0)]) (tg λ(i:Nat) (n:Nat)=>K-i) 0 0 (⟨Nat.zero_le _,by simp [val]⟩) (sF O) sr (λi n hJ=>?_)
  obtain ⟨hi,hn⟩:=hJ
  refine q4 (AH (Ae (c:=(decide (i<K))) O O (CL (a:=i) (b:=K))) O (AE.nil (q1 ?_)))
  refine AF.cond O (λhc1=>?_) (λhc1=>?_)
  ·replace hc1:=of_decide_eq_true hc1
   refine AF.skip (q1 (AF.block (q4 (AM O (AH (v:=(pP b i)) (AL (j:=i) O O underlying184 sizeOf97 O Z (by simp)) O ?_)))))
   have hx1:bs.getD i 0<4294967296:=W32.getD hbs i
   refine AH (BY (v:=(vK .u32 (bs.getD i 0))) O (λw' hw=>CA.at0 (hw.oldCA (by simp) (Ew hb)) (BK (xs:=bs) (j:=i) Z)) isAgg97) O (asg' O (asg' O (AE.nil (AC.subF (sL [0,2,14,15,16,3,4,5] O) (AC.then_ ?_)))))
   refine AF.region (AM O (AM O (AH (Ay (c:=((bs.getD i 0:Nat):Int)) O underlying97 underlying40 (BR Z)) O (AM O ?_))))
   have hiK:i<K:=hc1
   have hi2:i<2:=by omega
   have hn2:n<4294967296^i:=by rw [hn];exact Nat.lt_of_lt_of_le (HB (hbs.take i)) (Nat.pow_le_pow_right Z (by simp;omega))
   have hsh:=Ts (i:=i) (hbs.getD i) hi2
   have hn3:n<18446744073709551616:=TZ hn2 hi2
   refine AH (Br (c:=((32*i:Nat):Int)) O O (Cv (a:=32) (b:=i) Z)) O (AH (v:=(vK .u64 (bs.getD i 0*2^(32*i)))) (HE (s:=32*i) O O O (show 32*i<=64 by omega) (Gi hsh)) O (AH (JI (c:=((n+bs.getD i 0*2^(32*i):Nat):Int)) O O (Jr hn3 hsh (Hm (by rw [<-Yz];exact hn2)))) O (asg' O (AE.nil (AC.subF (sL [0,2,14,15,16,3] O) ?_)))))
   refine AC.in_normal (AC.then_ (AF.region (AH (AW (c:=((i+1:Nat):Int)) O O (AU (a:=i) (b:=1) Z)) O (AM O (AE.nil ?_)))))
   exact AC.subF (sL [0,2,14,15,16,3] O) (AC.round2 (i+1) (n+bs.getD i 0*2^(32*i)) (⟨Z,by rw [Ba,<-hn,Yz]⟩) Z (sF O) sr)
  ·replace hc1:=of_decide_eq_false hc1
   refine AF.exit (AC.then_exit (AC.round2_exit (AC.in_exit (q2 (AM O ?_)))))
   have hnn:n=val (bs.take K):=by rw [hn,show i=K by omega]
   have hv2:val (bs.take m)<18446744073709551616:=by rw [<-hval];exact Nat.lt_of_lt_of_le (HB (hbs.take K)) (by rw [List.length_take];exact Nat.le_trans (Nat.pow_le_pow_right (n:=4294967296) Z (show min K bs.length<=2 by omega)) (by decide))
   refine AH (v:=(aG ([(vK .u64 n),(Value.string (Bm 0))]))) (AV (zs:=Ab 0) (vs:=[(vK .u64 n),(Value.string (Bm 0))]) (pv:=[(0,(vK .u64 n))]) (places:=[(0,1),(1,1)]) zeroValue42 underlying42 (λw=>by simp [sizeOf9,sizeOf40]) O O) O (AE.retell (k:=30) (u:=(aG (Ab (val (bs.take m))))) O (by rw [Do hv2,<-hval,<-hnn];rfl) (A8 O sizeOf42 O (AE.nil (AC.subF (sL [0,2,14,15,16,3] O) (AC.then_ ?_)))))
   exact AF.ret (AC.then_ret (AI O (Ap (i:=0) (cs:=Ab (val (bs.take m))) O O isAgg42 sizeOf42 O) (λw hw=>⟨rfl,hw.out⟩)))
 ·replace hc0:=of_decide_eq_false hc0
  refine AF.skip (q2 (AM O (AH (v:=(vN K)) (AG O underlying184) O (AH (Br (c:=((4*K:Nat):Int)) O O (Cv (a:=4) (b:=K) Z)) O (AE.openV (V:=λb2=>(Value.slice (some ⟨b2,0,none⟩) 0 (4*K))) (T:=5) (cs:=JU (List.replicate (4*K) 0)) (AS O) (QL (m:=0) (c:=4*K) O O Z Z) O (AT O) λb2=>?_)))))
  refine asg' O (q6 (sL [0,2,6] O) (q4 (AM O (AH (v:=(vN K)) (AG O underlying184) O (AM O ?_)))))
  refine AE.nil (AC.then_ (AF.block ?_))
  refine AF.lp2 (tg λ(i:Nat) (bz:List Nat)=>i<=K/\bz=bytesN (bs.take i)++List.replicate (4*(K-i)) 0) (tg λ(i:Nat) (bz:List Nat)=>[(2,(pP b1 0)),(35,(Value.slice (some ⟨b,0,none⟩) K c)),(36,(vN K)),(37,(vN i)),(6,(Value.slice (some ⟨b2,0,none⟩) (4*i) (4*K)))]) (tg λ(i:Nat) (bz:List Nat)=>[Ag b2 5 (JU bz),Ag b1 42 (Ab 0)]) (tg λ(i:Nat) (bz:List Nat)=>K-i) 0 (List.replicate (4*K) 0) (⟨Nat.zero_le _,by simp [bytesN]⟩) (sF O) sr (λi bz hJ=>?_)
  obtain ⟨hi,hz⟩:=hJ
  refine q4 (AH (Ae (c:=(decide (i<K))) O O (CL (a:=i) (b:=K))) O (AE.nil (q1 ?_)))
  refine AF.cond O (λhc2=>?_) (λhc2=>?_)
  ·replace hc2:=of_decide_eq_true hc2
   refine AF.skip (q1 (AF.block (q4 (AH (v:=(pP b i)) (AL (j:=i) O O underlying184 sizeOf97 O Z (by simp)) O ?_))))
   have hx2:bs.getD i 0<4294967296:=W32.getD hbs i
   refine AH (BY (v:=(vK .u32 (bs.getD i 0))) O (λw' hw=>CA.at0 (hw.oldCA (by simp) (Ew hb)) (BK (xs:=bs) (j:=i) Z)) isAgg97) O (asg' O (AE.nil (AC.subF (sL [2,35,36,37,6,8] O) (AC.then_ (AF.region ?_)))))
   refine AM O (AM O (AH (Ay (c:=(((bs.getD i 0)%256:Nat):Int)) O underlying97 underlying5 Jo) O (AM O (AH (C0 (s:=8) (c:=(((bs.getD i 0)/256:Nat):Int)) O O O (by decide) (GA (a:=bs.getD i 0) (s:=8))) O (AH (Ay (c:=((((bs.getD i 0)/256)%256:Nat):Int)) O underlying97 underlying5 Jo) O ?_)))))
   refine AM O (AH (C0 (s:=16) (c:=(((bs.getD i 0)/65536:Nat):Int)) O O O (by decide) (GA (a:=bs.getD i 0) (s:=16))) O (AH (Ay (c:=((((bs.getD i 0)/65536)%256:Nat):Int)) O underlying97 underlying5 Jo) O (AM O (AH (C0 (s:=24) (c:=(((bs.getD i 0)/16777216:Nat):Int)) O O O (by decide) (GA (a:=bs.getD i 0) (s:=24))) O (AH (Ay (c:=((((bs.getD i 0)/16777216)%256:Nat):Int)) O underlying97 underlying5 Jo) O ?_)))))
   refine AE.openV (V:=λb3=>(Value.slice (some ⟨b3,0,none⟩) 4 4)) (T:=5) (cs:=JU ([(bs.getD i 0)%256,((bs.getD i 0)/256)%256,((bs.getD i 0)/65536)%256,((bs.getD i 0)/16777216)%256])) (AS O) (Av (cs:=JU ([(bs.getD i 0)%256,((bs.getD i 0)/256)%256,((bs.getD i 0)/65536)%256,((bs.getD i 0)/16777216)%256])) (pv:=[(0,(vK .u8 ((bs.getD i 0)%256))),(1,(vK .u8 (((bs.getD i 0)/256)%256))),(2,(vK .u8 (((bs.getD i 0)/65536)%256))),(3,(vK .u8 (((bs.getD i 0)/16777216)%256)))]) underlying62 sizeOf5 zeroValue5 (by decide) (by decide) O (by kernel_rfl)) O (AT O) λb3=>?_
   obtain ⟨bz2,hz2,hlay⟩:∃bz2,bz2=bytesN (bs.take (i+1))++List.replicate (4*(K-(i+1))) 0/\Ib (JU bz) (4*i) (JU ([(bs.getD i 0)%256,((bs.getD i 0)/256)%256,((bs.getD i 0)/65536)%256,((bs.getD i 0)/16777216)%256]))=JU bz2:=⟨_,rfl,by rw [hz];exact P1 hc2 Z⟩
   refine AE.append_u8 (i:=1) (j:=0) (m:=4*i) (c:=4*K) (k:=4) (cs':=JU bz2) (L':=[Ag b3 5 (JU ([(bs.getD i 0)%256,((bs.getD i 0)/256)%256,((bs.getD i 0)/65536)%256,((bs.getD i 0)/16777216)%256])),Ag b2 5 (JU bz2),Ag b1 42 (Ab 0)]) O (AS O) O O O O O O Z (by rw [Hk,hz];simp [CB];omega) hlay O (AT O) (asg' O (AE.nil (AC.subF (sL [2,35,36,37,6] O) (AC.in_normal (AC.then_ ?_)))))
   exact AF.region (AH (AW (c:=((i+1:Nat):Int)) O O (AU (a:=i) (b:=1) Z)) O (AM O (AE.nil (AC.subF (sL [2,35,36,37,6] O) (AC.round2 (i+1) bz2 (⟨Z,hz2⟩) Z (sF O) (sl sr))))))
  ·replace hc2:=of_decide_eq_false hc2
   refine AF.exit (AC.then_exit (AC.round2_exit (AC.in_exit (q2 (AM O ?_)))))
   have hbl:bz.length=4*i:=by rw [hz,List.length_append,CB,List.length_take,List.length_replicate];omega
   have htk:(JU bz).take (4*i)=JU bz:=List.take_of_length_le (by rw [Hk];omega)
   refine AH (v:=(Value.string (DO bz))) (Jb (i:=0) (m:=4*i) (ns:=bz) O O htk hbl) O ?_
   have hv3:¬val (bs.take m)<18446744073709551616:=λh=>by have:=IB h;omega
   have hbz:bz=bytesN (bs.take K):=by rw [hz,show i=K by omega];simp
   refine AH (v:=(aG ([(vK .u64 (B8 0)),(Value.string (DO bz))]))) (AV (zs:=Ab 0) (vs:=[(vK .u64 (B8 0)),(Value.string (DO bz))]) (pv:=[(1,(Value.string (DO bz)))]) (places:=[(0,1),(1,1)]) zeroValue42 underlying42 (λw=>by simp [sizeOf9,sizeOf40]) O O) O (AE.retell (k:=58) (u:=(aG (Ab (val (bs.take m))))) O (by rw [WT hv3,hwd,<-hbz];rfl) (Cm O sizeOf42 O (AE.nil (AC.subF (sL [2,35,36,37,6] O) (AC.then_ ?_)))))
   exact AF.ret (AI O (Ap (i:=1) (cs:=Ab (val (bs.take m))) O O isAgg42 sizeOf42 O) (λw hw=>⟨rfl,hw.out⟩))
end
section
def DL (a b:Nat):Int:=if a<b then -1 else if a=b then 0 else 1
theorem FF {a b:Nat}:DL a b<0↔a<b:=by
  unfold DL;split
  · omega
  · split<;>omega
theorem NB {a b:Nat}:DL a b=0↔a=b:=by
  unfold DL;split
  · omega
  · split<;>omega
theorem Ye {a b:Nat} (h:nw a≠nw b):((nw a:Int)-(nw b:Int)).sign=DL a b:=by
  unfold DL
  by_cases h1:nw a<nw b
  · have h2:a<b:=by
      rcases Nat.lt_or_ge a b with h2|h2
      · exact h2
      · have:=C1 h2;omega
    rw [if_pos h2,Int.sign_eq_neg_one_of_neg Z]
  · have h2:b<a:=by
      rcases Nat.lt_or_ge b a with h2|h2
      · exact h2
      · have:=C1 h2;omega
    rw [if_neg Z,if_neg Z,Int.sign_eq_one_of_pos Z]
theorem V2 {xs ys:List Nat} {k:Nat} (hx:W32 xs) (hl:xs.length=ys.length) (h0:0<k) (hk:k<=xs.length) (hd:xs.drop k=ys.drop k) (h:xs.getD (k-1) 0<ys.getD (k-1) 0):val xs<val ys:=by
  have e1:=Ev xs k hk
  have e2:=Ev ys k Z
  have s1:=Ba xs (k-1)
  have s2:=Ba ys (k-1)
  rw [show k-1+1=k by omega] at s1 s2
  have h1:val (xs.take (k-1))<4294967296^(k-1):=Nat.lt_of_lt_of_le (HB (hx.take (k-1))) (Nat.pow_le_pow_right Z (by simp;omega))
  have h2:(xs.getD (k-1) 0+1)*4294967296^(k-1)<=ys.getD (k-1) 0*4294967296^(k-1):=Nat.mul_le_mul_right _ h
  rw [Nat.add_mul] at h2
  rw [hd] at e1
  omega
theorem Su {xs ys:List Nat} {k:Nat} (hl:xs.length=ys.length) (h0:0<k) (hk:k<=xs.length) (hd:xs.drop k=ys.drop k) (h:xs.getD (k-1) 0=ys.getD (k-1) 0):xs.drop (k-1)=ys.drop (k-1):=by
  have h1:k-1<xs.length:=by omega
  have h2:k-1<ys.length:=by omega
  rw [List.drop_eq_getElem_cons h1,List.drop_eq_getElem_cons h2,show k-1+1=k by omega,hd]
  simp [h1,h2] at h
  rw [h]
theorem SV {a b k:Nat} (hl:nw a=nw b) (h0:0<k) (hk:k<=nw a) (hd:(AR a).drop k=(AR b).drop k) (hne:(AR a).getD (k-1) 0≠(AR b).getD (k-1) 0) :
    DL a b=if (AR a).getD (k-1) 0<(AR b).getD (k-1) 0 then -1 else 1:=by
  unfold DL
  split
  · rename_i h
    rw [if_pos]
    rcases Nat.lt_or_ge ((AR a).getD (k-1) 0) ((AR b).getD (k-1) 0) with h1|h1
    · exact h1
    · have:=V2 (Bu b) hl.symm h0 (by unfold nw at *;omega) hd.symm (show (AR b).getD (k-1) 0<(AR a).getD (k-1) 0 by omega)
      rw [Cf,Cf] at this;omega
  · rename_i h
    have h2:¬(AR a).getD (k-1) 0<(AR b).getD (k-1) 0:=λh1=>by
      have:=V2 (Bu a) hl h0 hk hd h1
      rw [Cf,Cf] at this;omega
    rw [if_neg h2,if_neg]
    intro e;subst e;exact hne rfl
theorem Wn {a b:Nat} (hd:(AR a).drop 0=(AR b).drop 0):DL a b=0:=by
  rw [NB]
  rw [List.drop_zero,List.drop_zero] at hd
  rw [<-Cf a,<-Cf b,hd]
theorem Dc {v i:Nat} (h:i<nw v):(BC v).getD i 0=(AR v).getD i 0:=by
  rw [<-IJ v]
  simp [List.getD_eq_getElem?_getD,List.getElem?_take,h]
theorem Ee {v i:Nat} (h:¬i<nw v):(AR v).getD i 0=0:=by
  unfold nw at h;simp [List.getD_eq_getElem?_getD,Nat.not_lt.1 h]
theorem DS {v i:Nat} (h:nw v<=i):val ((AR v).take i)=v:=by
  rw [List.take_of_length_le h,Cf]
theorem YP (v:Nat):(BC v).length<=nw v+2:=by
  unfold BC;split
  · simp
  · unfold nw;omega
theorem IU (v:Nat):val ((BC v).take (nw v))=v:=by rw [IJ,Cf]
theorem PJ {os ys:List Nat} {X i n c:Nat} (hl:os.length=n) (hi:i<n) (hv:val os+c*4294967296^i=X+val (ys.take i)) :
    val (os.set i ((os.getD i 0+ys.getD i 0+c)%4294967296))+(os.getD i 0+ys.getD i 0+c)/4294967296*4294967296^(i+1)=X+val (ys.take (i+1)):=by
  have e:=FU (xs:=os) (i:=i) Z ((os.getD i 0+ys.getD i 0+c)%4294967296)
  have t:=Ba ys i
  have hm:=Nat.div_add_mod (os.getD i 0+ys.getD i 0+c) 4294967296
  rw [Nat.pow_succ]
  generalize os.getD i 0=o at *
  generalize ys.getD i 0=y at *
  generalize (o+y+c)/4294967296=q at *
  generalize (o+y+c)%4294967296=r at *
  generalize 4294967296^i=p at *
  have hm2:(4294967296*q+r)*p=(o+y+c)*p:=by rw [hm]
  grind
theorem N8 {os:List Nat} {X Y n c i:Nat} (hl:os.length=n) (hw:W32 os) (hi:n<=i) (hX:X+Y<4294967296^n) (hv:val os+c*4294967296^i=X+Y):val os=X+Y:=by
  have h1:4294967296^n<=4294967296^i:=Nat.pow_le_pow_right Z hi
  rcases Nat.eq_zero_or_pos c with h|h
  · subst h;omega
  · have:1*4294967296^i<=c*4294967296^i:=Nat.mul_le_mul_right _ h
    omega
theorem Us {os ys:List Nat} {X i n c:Nat} (hl:os.length=n) (hi:i<n) (hw:W32 os) (hy:W32 ys) (hc:c<=1) (hv:val os+val (ys.take i)=X+c*4294967296^i) :
    val (os.set i ((os.getD i 0+(4294967296-ys.getD i 0)+(4294967296-c))%4294967296))+val (ys.take (i+1))=X+JE (os.getD i 0) (ys.getD i 0+c)*4294967296^(i+1):=by
  have e:=FU (xs:=os) (i:=i) Z ((os.getD i 0+(4294967296-ys.getD i 0)+(4294967296-c))%4294967296)
  have t:=Ba ys i
  have ho:=hw.getD i
  have hy':=hy.getD i
  rw [Nat.pow_succ]
  have hm:(os.getD i 0+(4294967296-ys.getD i 0)+(4294967296-c))%4294967296+ys.getD i 0+c=os.getD i 0+JE (os.getD i 0) (ys.getD i 0+c)*4294967296:=by
    unfold JE;split<;>omega
  generalize (os.getD i 0+(4294967296-ys.getD i 0)+(4294967296-c))%4294967296=r at *
  generalize JE (os.getD i 0) (ys.getD i 0+c)=q at *
  generalize os.getD i 0=o at *
  generalize ys.getD i 0=y at *
  generalize 4294967296^i=p at *
  have hm2:(r+y+c)*p=(o+q*4294967296)*p:=by rw [hm]
  grind
theorem VH {os:List Nat} {X Y n c i:Nat} (hl:os.length=n) (hw:W32 os) (hi:i=n) (hX:Y<=X) (hv:val os+Y=X+c*4294967296^i) (hX2:X<4294967296^n):val os=X-Y:=by
  have h1:=HB hw
  rw [hl] at h1
  subst hi
  rcases Nat.eq_zero_or_pos c with h|h
  · subst h;omega
  · have:1*4294967296^i<=c*4294967296^i:=Nat.mul_le_mul_right _ h
    omega
theorem Qi (x y:Nat):JE x y<=1:=by unfold JE;split<;>omega
theorem WY {os ys:List Nat} {S W i k n c:Nat} (hl:os.length=n) (hi:i+k<n) (hv:val os+c*4294967296^(i+k)=S+W*val (ys.take k)*4294967296^i) :
    val (os.set (i+k) ((c+(W*ys.getD k 0+os.getD (i+k) 0))%4294967296))+(c+(W*ys.getD k 0+os.getD (i+k) 0))/4294967296*4294967296^(i+(k+1))=S+W*val (ys.take (k+1))*4294967296^i:=by
  have e:=FU (xs:=os) (i:=i+k) Z ((c+(W*ys.getD k 0+os.getD (i+k) 0))%4294967296)
  have t:=Ba ys k
  have hm:=Nat.div_add_mod (c+(W*ys.getD k 0+os.getD (i+k) 0)) 4294967296
  rw [t,show i+(k+1)=i+k+1 by omega,Nat.pow_succ]
  rw [Nat.pow_add] at *
  generalize os.getD (i+k) 0=o at *
  generalize ys.getD k 0=y at *
  generalize (c+(W*y+o))/4294967296=q at *
  generalize (c+(W*y+o))%4294967296=r at *
  generalize 4294967296^i=p at *
  generalize 4294967296^k=p' at *
  generalize val (ys.take k)=vy at *
  have hm2:(4294967296*q+r)*(p*p')=(c+(W*y+o))*(p*p'):=by rw [hm]
  grind
section
variable {n:Nat} {F:List (Nat×Value)} {w0:BJ} {L:List As} {v:Value} {x y:Operand} {d:Option Tmp} {t:TypeId} {p:String} {af:Array Edge} {g:Option (Nat×Bool)}
theorem AE.copy_u32 {ops:Array Oper} {rest:List Oper} {Q:Exit->Act->World->Prop} {L':List As} {i j b b' m c k c' dd:Nat} {cs ds ns cs':List Value} {o:Oper} (ho:o=⟨some dd,.call { callee:=.builtin .copy,args:=#[x,y],argTypes:=#[184,184] },t,p,af,g⟩) (hw:Wt ops n F o)
    (hx:evF F x=some (.slice (some ⟨b,0,none⟩) m c)) (hy:evF F y=some (.slice (some ⟨b',0,none⟩) k c')) (hi:L[i]?=some (Ag b 97 cs)) (hj:L[j]?=some (Ag b' 97 ds)) (hns:ds.take k=ns) (hnl:ns.length=k) (h1:(ns.all λu=>u.oneCell')=true) (hkm:k<=m) (hfit:k<=cs.length)
    (hcs:Ib cs 0 ns=cs') (hL:L.set i (Ag b 97 cs')=L') (hd:dd<n) (next:AE prog ops rest Q n ((dd,.int .i64 k)::F) w0 L'):AE prog ops (o::rest) Q n F w0 L:=λa w ha hW=>by
  subst ho;subst hcs;subst hL
  unfold wpList
  rw [if_pos (hw a ha)]
  left
  have hca:=Es (off:=0) (k:=k) (hW.get hj)
  rw [List.drop_zero,hns] at hca
  have hr:=run_copy_row (P:=prog) w 184 184 t 97 b 0 m c ⟨b',0,none⟩ k c' cs.toArray 97 ns underlying184 (by kernel_rfl) (hW.get hi) (by rw [hnl];exact (Nat.min_eq_left hkm).symm) (λq u hu=>by rw [Addr.add_lit];exact hca q u hu) (by simp;omega) (λu hu=>List.all_eq_true.1 h1 u hu)
  unfold Oper.wp
  have he:(execOp a.eval ⟨some dd,.call { callee:=.builtin .copy,args:=#[x,y],argTypes:=#[184,184] },t,p,af,g⟩).run prog w=.ok (.value (.int .i64 k)) (w.setRow b (Ib cs 0 ns).toArray):=by
    simp only [execOp,resolve,invoke,builtin,Sem.run_bind,Sem.run_pure,Result.andThen_ok,List.map_toArray,List.map_cons,List.map_nil,ha.ev hx,ha.ev hy,hr,Ib,hnl,goInt]
  rw [he,Oper.upon_value]
  have hg:=hW.get hi
  exact next _ _ (ha.put hd) (hW.turn hi O O ⟨⟨rfl,rfl,rfl,by simp,λq _ hq=>setRow_other w b q _ (λe=>hq (by simp [e]))⟩,Nat.le_refl _⟩ ⟨_,setRow_heap w b cs.toArray _ 97 _ hg,rfl⟩)
end
theorem Ue {a b:Nat} (h:nw b<=nw a):a+b<4294967296^(nw a+1):=by
  have h1:=Bt a
  have h2:b<4294967296^nw a:=Cs.1 h
  rw [Nat.pow_succ];omega
theorem Fp (v k:Nat):(AR v++(List.replicate (nw v+k) 0).drop (AR v).length).length=nw v+k/\W32 (AR v++(List.replicate (nw v+k) 0).drop (AR v).length)/\val (AR v++(List.replicate (nw v+k) 0).drop (AR v).length)=v:=by
  have e:(List.replicate (nw v+k) 0).drop (AR v).length=List.replicate k 0:=by rw [List.drop_replicate];congr 1;unfold nw;omega
  rw [e]
  refine ⟨by simp [nw],(Bu v).append (W32.zeros k),?_⟩
  rw [KO,Cf,EM];omega
theorem Hz {os:List Nat} {p c n:Nat} (hl:os.length=n) (hp:p<n) (h0:os.getD p 0=0):val (os.set p c)=val os+c*4294967296^p:=by
  have e:=FU (xs:=os) (i:=p) Z c
  rw [h0] at e;omega
theorem Pj {os:List Nat} {a b i:Nat} (hv:val os=val ((AR a).take i)*b):∀j,i+nw b<=j->os.getD j 0=0:=λj hj=>by
  refine GX (m:=i+nw b) ?_ hj
  rw [hv,Nat.pow_add]
  refine Nat.mul_lt_mul'' (Nat.lt_of_lt_of_le (HB ((Bu a).take i)) (Nat.pow_le_pow_right Z (by simp;omega))) (Bt b)
theorem Fm {os:List Nat} {p q v:Nat} (h:∀j,p<=j->os.getD j 0=0) (hq:q<p):∀j,p<=j->(os.set q v).getD j 0=0:=λj hj=>by
  rw [List.getD_eq_getElem?_getD,List.getElem?_set_ne Z,<-List.getD_eq_getElem?_getD]
  exact h j hj
theorem W2 {a b i:Nat}:val ((AR a).take i)*b+(AR a).getD i 0*b*4294967296^i=val ((AR a).take (i+1))*b:=by
  rw [Ba];grind
theorem Zm {x y:Nat} (hx:x<18446744073709551616) (hy:y<18446744073709551616):val [x%4294967296,x/4294967296,y%4294967296,y/4294967296]=x+y*18446744073709551616:=by
  simp only [val];omega
theorem Om (xs:List Nat):((Au xs).all λu=>u.oneCell')=true:=List.all_eq_true.2 (WF xs)
theorem MK (xs:List Nat) (k:Nat):(Au xs).take k=Au (xs.take k):=by simp [Au,List.map_take]
theorem OC (xs ns:List Nat):Ib (Au xs) 0 (Au ns)=Au (ns++xs.drop ns.length):=by simp [Ib,Au,List.map_drop]
end
section
set_option maxRecDepth 100000
theorem Z7 (a b p q c c2:Nat) (ha:nw a<=1099511627776) (hb:nw b<=1099511627776) (w:World) (hp:w.heap[p]?=some (.cells (Au (BC a)).toArray 97 (0,0))) (hq:w.heap[q]?=some (.cells (Au (BC b)).toArray 97 (0,0))):Calls prog 218 #[(Value.slice (some ⟨p,0,none⟩) (nw a) c),(Value.slice (some ⟨q,0,none⟩) (nw b) c2)] w (An w (vI (DL a b))):=by
 have hla:=CR a
 have hlb:=CR b
 refine Af (args:=[(Value.slice (some ⟨p,0,none⟩) (nw a) c),(Value.slice (some ⟨q,0,none⟩) (nw b) c2)]) func218 O O (AT O) (AF.subF (sL [0,1] O) (q4 (asg' O (AE.nil (q1 ?_)))))
 refine q4 (AM O (AH (v:=(vN (nw a))) (AG O underlying184) O (AM O (AH (v:=(vN (nw b))) (AG O underlying184) O (AH (Bx (c:=(decide ((nw a)≠(nw b)))) O O (cO (a:=nw a) (b:=nw b))) O ?_)))))
 refine AE.nil (AC.subF (sL [0,1,4,10] O) (AC.then_ ?_))
 refine AF.cond O (λhc0=>?_) (λhc0=>?_)
 ·replace hc0:=of_decide_eq_true hc0
  refine q4 (AM O (AH (v:=(vN (nw a))) (AG O underlying184) O (AM O (AH (v:=(vN (nw b))) (AG O underlying184) O (AH (BW (c:=((nw a:Int)-(nw b:Int))) O O (A_ Z Z)) O ?_)))))
  refine ck' call265 (Yb _ Z Z) O (AE.retell (k:=16) (u:=(vI (DL a b))) O (by rw [Ye hc0]) (asg' O (AE.nil (AC.subF (sL [0,1,4] O) (AC.then_ ?_)))))
  exact AF.ret (AC.then_ret (AI O (AY (v:=(vI (DL a b))) O) (λw hw=>⟨rfl,hw.out⟩)))
 ·replace hc0:=of_decide_eq_false hc0
  refine AF.skip (q1 (q4 (AM O (AH (v:=(vN (nw a))) (AG O underlying184) O (AH (BW (c:=(((nw a:Nat):Int)-1)) O O (A_ Z Z)) O ?_)))))
  refine asg' O (AE.nil (AC.subF (sL [0,1,4,5] O) (AC.then_ (AF.block ?_))))
  refine AF.lp1 (tg λ(k:Nat)=>k<=nw a/\(AR a).drop k=(AR b).drop k) (tg λ(k:Nat)=>[(0,(Value.slice (some ⟨p,0,none⟩) (nw a) c)),(1,(Value.slice (some ⟨q,0,none⟩) (nw b) c2)),(5,(vI (((k:Nat):Int)-1)))]) (tg λ(k:Nat)=>[]) (tg λ(k:Nat)=>k) (nw a) (⟨Nat.le_refl _,by rw [List.drop_of_length_le (by exact Nat.le_refl _),List.drop_of_length_le (by unfold nw at *;omega)]⟩) (sF O) sr (λk hJ=>?_)
  obtain ⟨hk,hd⟩:=hJ
  refine AF.seq (q4 (AM O (AH (CU (c:=(decide ((0:Int)<=(((k:Nat):Int)-1)))) O O O) O (AE.nil (AC.subF (sL [0,1,5,21] O) ?_)))))
  refine AC.then_ ?_
  refine AF.cond O (λhc1=>?_) (λhc1=>?_)
  ·replace hc1:=of_decide_eq_true hc1
   have hk0:0<k:=by omega
   refine AF.retell (k:=5) (u:=(vN (k-1))) O (by congr 1;omega) (AF.skip (q1 (AF.block (AF.seq (Cd [(0,true),(1,true),(2,true),(3,true),(4,true),(5,true),(6,true),(7,true),(8,true)] sr ?_)))))
   have ea:(BC a).getD (k-1) 0=(AR a).getD (k-1) 0:=Dc Z
   have eb:(BC b).getD (k-1) 0=(AR b).getD (k-1) 0:=Dc Z
   refine Bb O (Bb O (Aq (v:=(pP p (k-1))) O (AL (j:=k-1) O O underlying184 sizeOf97 O Z (by simp)) ?_))
   have hx1:(BC a).getD (k-1) 0<4294967296:=W32.getD (Cb a) (k-1)
   refine Aq O (BY (v:=(vK .u32 ((BC a).getD (k-1) 0))) O (λw' hw=>CA.at0 (hw.oldCA (by simp) (Ew hp)) (BK (xs:=BC a) (j:=(k-1)) Z)) isAgg97) (Bb O (Bb O (Aq (v:=(pP q (k-1))) O (AL (j:=k-1) O O underlying184 sizeOf97 O Z (by simp)) ?_)))
   have hx2:(BC b).getD (k-1) 0<4294967296:=W32.getD (Cb b) (k-1)
   refine Aq O (BY (v:=(vK .u32 ((BC b).getD (k-1) 0))) O (λw' hw=>CA.at0 (hw.oldCA (by simp) (Ew hq)) (BK (xs:=BC b) (j:=(k-1)) Z)) isAgg97) (Aq O (Bx (c:=(decide (((BC a).getD (k-1) 0)≠((BC b).getD (k-1) 0)))) O O (cO (a:=(BC a).getD (k-1) 0) (b:=(BC b).getD (k-1) 0))) (OkE.nil (AC.subF (sL [0,1,5,32] O) (AC.then_ ?_))))
   refine AF.cond O (λhc2=>?_) (λhc2=>?_)
   ·replace hc2:=of_decide_eq_true hc2
    have hcw:=SV Z hk0 hk hd Z
    refine AF.seq (AF.seq (Cd [(0,true),(1,true),(2,true),(3,true),(4,true),(5,true),(6,true),(7,true),(8,true)] sr (Bb O (Bb O (Aq (v:=(pP p (k-1))) O (AL (j:=k-1) O O underlying184 sizeOf97 O Z (by simp)) ?_)))))
    have hx3:(BC a).getD (k-1) 0<4294967296:=W32.getD (Cb a) (k-1)
    refine Aq O (BY (v:=(vK .u32 ((BC a).getD (k-1) 0))) O (λw' hw=>CA.at0 (hw.oldCA (by simp) (Ew hp)) (BK (xs:=BC a) (j:=(k-1)) Z)) isAgg97) (Bb O (Bb O (Aq (v:=(pP q (k-1))) O (AL (j:=k-1) O O underlying184 sizeOf97 O Z (by simp)) ?_)))
    have hx4:(BC b).getD (k-1) 0<4294967296:=W32.getD (Cb b) (k-1)
    refine Aq O (BY (v:=(vK .u32 ((BC b).getD (k-1) 0))) O (λw' hw=>CA.at0 (hw.oldCA (by simp) (Ew hq)) (BK (xs:=BC b) (j:=(k-1)) Z)) isAgg97) (Aq O (Ae (c:=(decide (((BC a).getD (k-1) 0)<((BC b).getD (k-1) 0)))) O O (CL (a:=(BC a).getD (k-1) 0) (b:=(BC b).getD (k-1) 0))) (OkE.nil (AC.subF (sL [0,1,5,41] O) (AC.then_ ?_))))
    refine AF.cond O (λhc3=>?_) (λhc3=>?_)
    ·replace hc3:=of_decide_eq_true hc3
     rw [if_pos Z] at hcw
     refine q4 (asg' O (AE.nil (AC.then_ (AF.ret (AC.then_ret ?_)))))
     exact AC.in_ret (AC.then_ret (AC.round1_ret (AC.in_ret (AC.then_ret (AI O (AY (v:=(vI (-1:Int))) O) (λw hw=>⟨by rw [hcw],hw.out⟩))))))
    ·replace hc3:=of_decide_eq_false hc3
     rw [if_neg Z] at hcw
     refine AF.skip (q2 (asg' O (AE.nil (AC.then_ (AF.ret ?_)))))
     exact AC.in_ret (AC.then_ret (AC.round1_ret (AC.in_ret (AC.then_ret (AI O (AY (v:=(vI 1)) O) (λw hw=>⟨by rw [hcw],hw.out⟩))))))
   ·replace hc2:=of_decide_eq_false hc2
    refine AF.skip (AC.in_normal (AC.then_ (AF.region (AM O (AH (BW (c:=(((k-1:Nat):Int)-1)) O O (A_ Z Z)) O ?_)))))
    exact asg' O (AE.nil (AC.subF (sL [0,1,5] O) (AC.round1 (k-1) (⟨Z,Su (by unfold nw at hc0;omega) Z hk hd Z⟩) Z (sF O) sr)))
  ·replace hc1:=of_decide_eq_false hc1
   have hk0:k=0:=by omega
   subst hk0
   have hz:=Wn hd
   refine AF.exit (AC.then_exit (AC.round1_exit (AC.in_exit (q2 (asg' O ?_)))))
   exact AE.nil (AC.then_ (AF.ret (AI O (AY (v:=(vI 0)) O) (λw hw=>⟨by rw [hz],hw.out⟩))))
end
end Go.Proofs.YtpgncndhhhllfaaGreatDoor
