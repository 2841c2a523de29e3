import Derived.Test.YtpgncndhhhllfaaGreatPart03
import Derived.Test.YtpgncndhhhllfaaGreatPart07
namespace Go.Proofs.YtpgncndhhhllfaaGreat
open Go Go.RowKit Go.Proofs.Tryz
set_option linter.unusedVariables false
set_option linter.unusedSimpArgs false
section
set_option maxRecDepth 100000
theorem Ic (b m c:Nat) (bs:List Nat) (hbs:W32 bs) (hm:m<=bs.length) (hc:m<=c) (hL:c<4398046511104) (w:World) (hb:w.heap[b]?=some (.cells (Aq bs).toArray 50 (0,0))):Calls prog 140 #[(Value.slice (some ⟨b,0,none⟩) m c)] w (Ak w (aG (Ae (val (bs.take m))))):=by
 have hle:=JA bs m
 have hval:=JP bs m
 have hwd:=IE hbs hm
 have hnw:=PF hbs hm
 generalize hK:DP bs m=K at *
 refine An (args:=[(Value.slice (some ⟨b,0,none⟩) m c)]) func140 O O (AV O) (AE.subF (sL [0] O) (q4 (al GH O λb1=>AC.nil (q2 (AM O (Cc call156 (λw hw=>Tb _ m c bs hbs Z Z Z w (hw.old (by simp) hb)) O (AC.retell (k:=10) (u:=(Value.slice (some ⟨b,0,none⟩) K c)) O (by rw [hK]) (AI O (q6 (sL [0,2] O) (q4 ?_))))))))))
 refine AM O (AK (v:=(vN K)) (AF O underlying224) O (AK (Eq (c:=(decide (K<=2))) O O (SW (a:=K) (b:=2))) O (AC.nil (OkQ.subF (sL [0,2,13] O) (OkQ.then_ ?_)))))
 refine AE.cond O (λhc0=>?_) (λhc0=>?_)
 ·replace hc0:=of_decide_eq_true hc0
  refine q4 (AI O (AC.nil (q1 (q4 (AM O (AK (v:=(vN K)) (AF O underlying224) O (AM O (AC.nil (OkQ.then_ (AE.block ?_))))))))))
  refine AE.lp2 (tg λ(i:Nat) (n:Nat)=>i<=K/\n=val (bs.take i)) (tg λ(i:Nat) (n:Nat)=>[(0,(Value.slice (some ⟨b,0,none⟩) K c)),(2,(pP b1 0)),(14,(Value.slice (some ⟨b,0,none⟩) K c)),(15,(vN K)),(16,(vN i)),(3,(vK .u64 n))]) (tg λ(i:Nat) (n:Nat)=>[Ah b1 58 (Ae 0)]) (tg λ(i:Nat) (n:Nat)=>K-i) 0 0 (⟨Nat.zero_le _,by simp [val]⟩) (sF O) sr (λi n hJ=>?_)
  obtain ⟨hi,hn⟩:=hJ
  refine q4 (AK (Ad (c:=(decide (i<K))) O O (B7 (a:=i) (b:=K))) O (AC.nil (q1 ?_)))
  refine AE.cond O (λhc1=>?_) (λhc1=>?_)
  ·replace hc1:=of_decide_eq_true hc1
   refine AE.skip (q1 (AE.block (q4 (AM O (AK (v:=(pP b i)) (AP (j:=i) O O underlying224 sizeOf50 O Z (by simp)) O ?_)))))
   have hx1:bs.getD i 0<4294967296:=W32.getD hbs i
   refine AK (BW (v:=(vK .u32 (bs.getD i 0))) O (λw' hw=>CA.at0 (hw.oldCA (by simp) (ER hb)) (BD (xs:=bs) (j:=i) Z)) isAgg50) O (AI O (AI O (AC.nil (OkQ.subF (sL [0,2,14,15,16,3,4,5] O) (OkQ.then_ (AE.region (AM O (AM O (AK (A7 (c:=((bs.getD i 0:Nat):Int)) O underlying50 underlying56 (BT Z)) O (AM O ?_))))))))))
   have hiK:i<K:=hc1
   have hi2:i<2:=by omega
   have hn2:n<4294967296^i:=by rw [hn];exact Nat.lt_of_lt_of_le (F8 (hbs.take i)) (Nat.pow_le_pow_right Z (by simp;omega))
   have hsh:=UV (i:=i) (hbs.getD i) hi2
   have hn3:n<18446744073709551616:=RH hn2 hi2
   refine AK (DU (c:=((32*i:Nat):Int)) O O (FD (a:=32) (b:=i) Z)) O (AK (v:=(vK .u64 (bs.getD i 0*2^(32*i)))) (Fz (s:=32*i) O O O (show 32*i<=64 by omega) (GJ hsh)) O (AK (Ia (c:=((n+bs.getD i 0*2^(32*i):Nat):Int)) O O (JK hn3 hsh (Gs (by rw [<-XY];exact hn2)))) O (AI O (AC.nil (OkQ.subF (sL [0,2,14,15,16,3] O) (OkQ.in_normal (OkQ.then_ (AE.region (AK (AY (c:=((i+1:Nat):Int)) O O (AU (a:=i) (b:=1) Z)) O (AM O (AC.nil ?_)))))))))))
   exact OkQ.subF (sL [0,2,14,15,16,3] O) (OkQ.round2 (i+1) (n+bs.getD i 0*2^(32*i)) (⟨Z,by rw [Ba,<-hn,XY]⟩) Z (sF O) sr)
  ·replace hc1:=of_decide_eq_false hc1
   refine AE.exit (OkQ.then_exit (OkQ.round2_exit (OkQ.in_exit (q2 (AM O ?_)))))
   have hnn:n=val (bs.take K):=by rw [hn,show i=K by omega]
   have hv2:val (bs.take m)<18446744073709551616:=by rw [<-hval];exact Nat.lt_of_lt_of_le (F8 (hbs.take K)) (by rw [List.length_take];exact Nat.le_trans (Nat.pow_le_pow_right (n:=4294967296) Z (show min K bs.length<=2 by omega)) (by decide))
   exact AK (v:=(aG ([(vK .u64 n),(Value.string (Bi 0))]))) (Aa (zs:=Ae 0) (vs:=[(vK .u64 n),(Value.string (Bi 0))]) (pv:=[(0,(vK .u64 n))]) (places:=[(0,1),(1,1)]) zeroValue58 underlying58 (λw=>by simp [sizeOf9,sizeOf56]) O O) O (AC.retell (k:=30) (u:=(aG (Ae (val (bs.take m))))) O (by rw [DF hv2,<-hval,<-hnn];rfl) (BP O sizeOf58 O (AC.nil (OkQ.subF (sL [0,2,14,15,16,3] O) (OkQ.then_ (AE.ret (OkQ.then_ret (AS O (BH (i:=0) (cs:=Ae (val (bs.take m))) O O isAgg58 sizeOf58 O) (λw hw=>⟨rfl,hw.out⟩)))))))))
 ·replace hc0:=of_decide_eq_false hc0
  refine AE.skip (q2 (AM O (AK (v:=(vN K)) (AF O underlying224) O (AK (DU (c:=((4*K:Nat):Int)) O O (FD (a:=4) (b:=K) Z)) O (AC.openV (V:=λb2=>(Value.slice (some ⟨b2,0,none⟩) 0 (4*K))) (T:=5) (cs:=Is (List.replicate (4*K) 0)) (AT O) (Pi (m:=0) (c:=4*K) O O Z Z) O (AV O) λb2=>AI O (q6 (sL [0,2,6] O) (q4 (AM O (AK (v:=(vN K)) (AF O underlying224) O (AM O ?_))))))))))
  refine AC.nil (OkQ.then_ (AE.block ?_))
  refine AE.lp2 (tg λ(i:Nat) (bz:List Nat)=>i<=K/\bz=bytesN (bs.take i)++List.replicate (4*(K-i)) 0) (tg λ(i:Nat) (bz:List Nat)=>[(2,(pP b1 0)),(35,(Value.slice (some ⟨b,0,none⟩) K c)),(36,(vN K)),(37,(vN i)),(6,(Value.slice (some ⟨b2,0,none⟩) (4*i) (4*K)))]) (tg λ(i:Nat) (bz:List Nat)=>[Ah b2 5 (Is bz),Ah b1 58 (Ae 0)]) (tg λ(i:Nat) (bz:List Nat)=>K-i) 0 (List.replicate (4*K) 0) (⟨Nat.zero_le _,by simp [bytesN]⟩) (sF O) sr (λi bz hJ=>?_)
  obtain ⟨hi,hz⟩:=hJ
  refine q4 (AK (Ad (c:=(decide (i<K))) O O (B7 (a:=i) (b:=K))) O (AC.nil (q1 ?_)))
  refine AE.cond O (λhc2=>?_) (λhc2=>?_)
  ·replace hc2:=of_decide_eq_true hc2
   refine AE.skip (q1 (AE.block (q4 (AK (v:=(pP b i)) (AP (j:=i) O O underlying224 sizeOf50 O Z (by simp)) O ?_))))
   have hx2:bs.getD i 0<4294967296:=W32.getD hbs i
   refine AK (BW (v:=(vK .u32 (bs.getD i 0))) O (λw' hw=>CA.at0 (hw.oldCA (by simp) (ER hb)) (BD (xs:=bs) (j:=i) Z)) isAgg50) O (AI O (AC.nil (OkQ.subF (sL [2,35,36,37,6,8] O) (OkQ.then_ (AE.region (AM O (AM O (AK (A7 (c:=(((bs.getD i 0)%256:Nat):Int)) O underlying50 underlying5 I9) O (AM O (AK (Cj (s:=8) (c:=(((bs.getD i 0)/256:Nat):Int)) O O O (by decide) (Fc (a:=bs.getD i 0) (s:=8))) O (AK (A7 (c:=((((bs.getD i 0)/256)%256:Nat):Int)) O underlying50 underlying5 I9) O ?_)))))))))))
   refine AM O (AK (Cj (s:=16) (c:=(((bs.getD i 0)/65536:Nat):Int)) O O O (by decide) (Fc (a:=bs.getD i 0) (s:=16))) O (AK (A7 (c:=((((bs.getD i 0)/65536)%256:Nat):Int)) O underlying50 underlying5 I9) O (AM O (AK (Cj (s:=24) (c:=(((bs.getD i 0)/16777216:Nat):Int)) O O O (by decide) (Fc (a:=bs.getD i 0) (s:=24))) O (AK (A7 (c:=((((bs.getD i 0)/16777216)%256:Nat):Int)) O underlying50 underlying5 I9) O (AC.openV (V:=λb3=>(Value.slice (some ⟨b3,0,none⟩) 4 4)) (T:=5) (cs:=Is ([(bs.getD i 0)%256,((bs.getD i 0)/256)%256,((bs.getD i 0)/65536)%256,((bs.getD i 0)/16777216)%256])) (AT O) (Ap (cs:=Is ([(bs.getD i 0)%256,((bs.getD i 0)/256)%256,((bs.getD i 0)/65536)%256,((bs.getD i 0)/16777216)%256])) (pv:=[(0,(vK .u8 ((bs.getD i 0)%256))),(1,(vK .u8 (((bs.getD i 0)/256)%256))),(2,(vK .u8 (((bs.getD i 0)/65536)%256))),(3,(vK .u8 (((bs.getD i 0)/16777216)%256)))]) underlying22 sizeOf5 zeroValue5 (by decide) (by decide) O (by kernel_rfl)) O (AV O) λb3=>?_))))))
   obtain ⟨bz2,hz2,hlay⟩:∃bz2,bz2=bytesN (bs.take (i+1))++List.replicate (4*(K-(i+1))) 0/\Hw (Is bz) (4*i) (Is ([(bs.getD i 0)%256,((bs.getD i 0)/256)%256,((bs.getD i 0)/65536)%256,((bs.getD i 0)/16777216)%256]))=Is bz2:=⟨_,rfl,by rw [hz];exact PI hc2 Z⟩
   exact AC.append_u8 (i:=1) (j:=0) (m:=4*i) (c:=4*K) (k:=4) (cs':=Is bz2) (L':=[Ah b3 5 (Is ([(bs.getD i 0)%256,((bs.getD i 0)/256)%256,((bs.getD i 0)/65536)%256,((bs.getD i 0)/16777216)%256])),Ah b2 5 (Is bz2),Ah b1 58 (Ae 0)]) O (AT O) O O O O O O Z (by rw [G2,hz];simp [B4];omega) hlay O (AV O) (AI O (AC.nil (OkQ.subF (sL [2,35,36,37,6] O) (OkQ.in_normal (OkQ.then_ (AE.region (AK (AY (c:=((i+1:Nat):Int)) O O (AU (a:=i) (b:=1) Z)) O (AM O (AC.nil (OkQ.subF (sL [2,35,36,37,6] O) (OkQ.round2 (i+1) bz2 (⟨Z,hz2⟩) Z (sF O) (sl sr))))))))))))
  ·replace hc2:=of_decide_eq_false hc2
   refine AE.exit (OkQ.then_exit (OkQ.round2_exit (OkQ.in_exit (q2 (AM O ?_)))))
   have hbl:bz.length=4*i:=by rw [hz,List.length_append,B4,List.length_take,List.length_replicate];omega
   have htk:(Is bz).take (4*i)=Is bz:=List.take_of_length_le (by rw [G2];omega)
   refine AK (v:=(Value.string (Cy bz))) (Iv (i:=0) (m:=4*i) (ns:=bz) O O htk hbl) O ?_
   have hv3:¬val (bs.take m)<18446744073709551616:=λh=>by have:=JX h;omega
   have hbz:bz=bytesN (bs.take K):=by rw [hz,show i=K by omega];simp
   exact AK (v:=(aG ([(vK .u64 (B2 0)),(Value.string (Cy bz))]))) (Aa (zs:=Ae 0) (vs:=[(vK .u64 (B2 0)),(Value.string (Cy bz))]) (pv:=[(1,(Value.string (Cy bz)))]) (places:=[(0,1),(1,1)]) zeroValue58 underlying58 (λw=>by simp [sizeOf9,sizeOf56]) O O) O (AC.retell (k:=58) (u:=(aG (Ae (val (bs.take m))))) O (by rw [T8 hv3,hwd,<-hbz];rfl) (Ed O sizeOf58 O (AC.nil (OkQ.subF (sL [2,35,36,37,6] O) (OkQ.then_ (AE.ret (AS O (BH (i:=1) (cs:=Ae (val (bs.take m))) O O isAgg58 sizeOf58 O) (λw hw=>⟨rfl,hw.out⟩))))))))
end
section
def C6 (a b:Nat):Int:=if a<b then -1 else if a=b then 0 else 1
theorem GR {a b:Nat}:C6 a b<0↔a<b:=by
  unfold C6;split
  · omega
  · split<;>omega
theorem Md {a b:Nat}:C6 a b=0↔a=b:=by
  unfold C6;split
  · omega
  · split<;>omega
theorem XC {a b:Nat} (h:nw a≠nw b):((nw a:Int)-(nw b:Int)).sign=C6 a b:=by
  unfold C6
  by_cases h1:nw a<nw b
  · have h2:a<b:=by
      rcases Nat.lt_or_ge a b with h2|h2
      · exact h2
      · have:=Ck h2;omega
    rw [if_pos h2,Int.sign_eq_neg_one_of_neg Z]
  · have h2:b<a:=by
      rcases Nat.lt_or_ge b a with h2|h2
      · exact h2
      · have:=Ck h2;omega
    rw [if_neg Z,if_neg Z,Int.sign_eq_one_of_pos Z]
theorem Sm {xs ys:List Nat} {k:Nat} (hx:W32 xs) (hl:xs.length=ys.length) (h0:0<k) (hk:k<=xs.length) (hd:xs.drop k=ys.drop k) (h:xs.getD (k-1) 0<ys.getD (k-1) 0):val xs<val ys:=by
  have e1:=EH xs k hk
  have e2:=EH ys k Z
  have s1:=Ba xs (k-1)
  have s2:=Ba ys (k-1)
  rw [show k-1+1=k by omega] at s1 s2
  have h1:val (xs.take (k-1))<4294967296^(k-1):=Nat.lt_of_lt_of_le (F8 (hx.take (k-1))) (Nat.pow_le_pow_right Z (by simp;omega))
  have h2:(xs.getD (k-1) 0+1)*4294967296^(k-1)<=ys.getD (k-1) 0*4294967296^(k-1):=Nat.mul_le_mul_right _ h
  rw [Nat.add_mul] at h2
  rw [hd] at e1
  omega
theorem Q5 {xs ys:List Nat} {k:Nat} (hl:xs.length=ys.length) (h0:0<k) (hk:k<=xs.length) (hd:xs.drop k=ys.drop k) (h:xs.getD (k-1) 0=ys.getD (k-1) 0):xs.drop (k-1)=ys.drop (k-1):=by
  have h1:k-1<xs.length:=by omega
  have h2:k-1<ys.length:=by omega
  rw [List.drop_eq_getElem_cons h1,List.drop_eq_getElem_cons h2,show k-1+1=k by omega,hd]
  simp [h1,h2] at h
  rw [h]
theorem SE {a b k:Nat} (hl:nw a=nw b) (h0:0<k) (hk:k<=nw a) (hd:(AQ a).drop k=(AQ b).drop k) (hne:(AQ a).getD (k-1) 0≠(AQ b).getD (k-1) 0) :
    C6 a b=if (AQ a).getD (k-1) 0<(AQ b).getD (k-1) 0 then -1 else 1:=by
  unfold C6
  split
  · rename_i h
    rw [if_pos]
    rcases Nat.lt_or_ge ((AQ a).getD (k-1) 0) ((AQ b).getD (k-1) 0) with h1|h1
    · exact h1
    · have:=Sm (Bn b) hl.symm h0 (by unfold nw at *;omega) hd.symm (show (AQ b).getD (k-1) 0<(AQ a).getD (k-1) 0 by omega)
      rw [CN,CN] at this;omega
  · rename_i h
    have h2:¬(AQ a).getD (k-1) 0<(AQ b).getD (k-1) 0:=λh1=>by
      have:=Sm (Bn a) hl h0 hk hd h1
      rw [CN,CN] at this;omega
    rw [if_neg h2,if_neg]
    intro e;subst e;exact hne rfl
theorem S9 {a b:Nat} (hd:(AQ a).drop 0=(AQ b).drop 0):C6 a b=0:=by
  rw [Md]
  rw [List.drop_zero,List.drop_zero] at hd
  rw [<-CN a,<-CN b,hd]
theorem DD {v i:Nat} (h:i<nw v):(Ax v).getD i 0=(AQ v).getD i 0:=by
  rw [<-Hs v]
  simp [List.getD_eq_getElem?_getD,List.getElem?_take,h]
theorem Dz {v i:Nat} (h:¬i<nw v):(AQ v).getD i 0=0:=by
  unfold nw at h;simp [List.getD_eq_getElem?_getD,Nat.not_lt.1 h]
theorem C3 {v i:Nat} (h:nw v<=i):val ((AQ v).take i)=v:=by
  rw [List.take_of_length_le h,CN]
theorem Vo (v:Nat):(Ax v).length<=nw v+2:=by
  unfold Ax;split
  · simp
  · unfold nw;omega
theorem HF (v:Nat):val ((Ax v).take (nw v))=v:=by rw [Hs,CN]
theorem Nm {os ys:List Nat} {X i n c:Nat} (hl:os.length=n) (hi:i<n) (hv:val os+c*4294967296^i=X+val (ys.take i)) :
    val (os.set i ((os.getD i 0+ys.getD i 0+c)%4294967296))+(os.getD i 0+ys.getD i 0+c)/4294967296*4294967296^(i+1)=X+val (ys.take (i+1)):=by
  have e:=Ee (xs:=os) (i:=i) Z ((os.getD i 0+ys.getD i 0+c)%4294967296)
  have t:=Ba ys i
  have hm:=Nat.div_add_mod (os.getD i 0+ys.getD i 0+c) 4294967296
  rw [Nat.pow_succ]
  generalize os.getD i 0=o at *
  generalize ys.getD i 0=y at *
  generalize (o+y+c)/4294967296=q at *
  generalize (o+y+c)%4294967296=r at *
  generalize 4294967296^i=p at *
  have hm2:(4294967296*q+r)*p=(o+y+c)*p:=by rw [hm]
  grind
theorem NG {os:List Nat} {X Y n c i:Nat} (hl:os.length=n) (hw:W32 os) (hi:n<=i) (hX:X+Y<4294967296^n) (hv:val os+c*4294967296^i=X+Y):val os=X+Y:=by
  have h1:4294967296^n<=4294967296^i:=Nat.pow_le_pow_right Z hi
  rcases Nat.eq_zero_or_pos c with h|h
  · subst h;omega
  · have:1*4294967296^i<=c*4294967296^i:=Nat.mul_le_mul_right _ h
    omega
theorem VB {os ys:List Nat} {X i n c:Nat} (hl:os.length=n) (hi:i<n) (hw:W32 os) (hy:W32 ys) (hc:c<=1) (hv:val os+val (ys.take i)=X+c*4294967296^i) :
    val (os.set i ((os.getD i 0+(4294967296-ys.getD i 0)+(4294967296-c))%4294967296))+val (ys.take (i+1))=X+IU (os.getD i 0) (ys.getD i 0+c)*4294967296^(i+1):=by
  have e:=Ee (xs:=os) (i:=i) Z ((os.getD i 0+(4294967296-ys.getD i 0)+(4294967296-c))%4294967296)
  have t:=Ba ys i
  have ho:=hw.getD i
  have hy':=hy.getD i
  rw [Nat.pow_succ]
  have hm:(os.getD i 0+(4294967296-ys.getD i 0)+(4294967296-c))%4294967296+ys.getD i 0+c=os.getD i 0+IU (os.getD i 0) (ys.getD i 0+c)*4294967296:=by
    unfold IU;split<;>omega
  generalize (os.getD i 0+(4294967296-ys.getD i 0)+(4294967296-c))%4294967296=r at *
  generalize IU (os.getD i 0) (ys.getD i 0+c)=q at *
  generalize os.getD i 0=o at *
  generalize ys.getD i 0=y at *
  generalize 4294967296^i=p at *
  have hm2:(r+y+c)*p=(o+q*4294967296)*p:=by rw [hm]
  grind
theorem TK {os:List Nat} {X Y n c i:Nat} (hl:os.length=n) (hw:W32 os) (hi:i=n) (hX:Y<=X) (hv:val os+Y=X+c*4294967296^i) (hX2:X<4294967296^n):val os=X-Y:=by
  have h1:=F8 hw
  rw [hl] at h1
  subst hi
  rcases Nat.eq_zero_or_pos c with h|h
  · subst h;omega
  · have:1*4294967296^i<=c*4294967296^i:=Nat.mul_le_mul_right _ h
    omega
theorem Ol (x y:Nat):IU x y<=1:=by unfold IU;split<;>omega
theorem TC {os ys:List Nat} {S W i k n c:Nat} (hl:os.length=n) (hi:i+k<n) (hv:val os+c*4294967296^(i+k)=S+W*val (ys.take k)*4294967296^i) :
    val (os.set (i+k) ((c+(W*ys.getD k 0+os.getD (i+k) 0))%4294967296))+(c+(W*ys.getD k 0+os.getD (i+k) 0))/4294967296*4294967296^(i+(k+1))=S+W*val (ys.take (k+1))*4294967296^i:=by
  have e:=Ee (xs:=os) (i:=i+k) Z ((c+(W*ys.getD k 0+os.getD (i+k) 0))%4294967296)
  have t:=Ba ys k
  have hm:=Nat.div_add_mod (c+(W*ys.getD k 0+os.getD (i+k) 0)) 4294967296
  rw [t,show i+(k+1)=i+k+1 by omega,Nat.pow_succ]
  rw [Nat.pow_add] at *
  generalize os.getD (i+k) 0=o at *
  generalize ys.getD k 0=y at *
  generalize (c+(W*y+o))/4294967296=q at *
  generalize (c+(W*y+o))%4294967296=r at *
  generalize 4294967296^i=p at *
  generalize 4294967296^k=p' at *
  generalize val (ys.take k)=vy at *
  have hm2:(4294967296*q+r)*(p*p')=(c+(W*y+o))*(p*p'):=by rw [hm]
  grind
section
variable {n:Nat} {F:List (Nat×Value)} {w0:BE} {L:List As} {v:Value} {x y:Operand} {d:Option Tmp} {t:TypeId} {p:String} {af:Array Edge} {g:Option (Nat×Bool)}
theorem AC.copy_u32 {ops:Array Oper} {rest:List Oper} {Q:Exit->Act->World->Prop} {L':List As} {i j b b' m c k c' dd:Nat} {cs ds ns cs':List Value} {o:Oper} (ho:o=⟨some dd,.call { callee:=.builtin .copy,args:=#[x,y],argTypes:=#[224,224] },t,p,af,g⟩) (hw:Wt ops n F o)
    (hx:evF F x=some (.slice (some ⟨b,0,none⟩) m c)) (hy:evF F y=some (.slice (some ⟨b',0,none⟩) k c')) (hi:L[i]?=some (Ah b 50 cs)) (hj:L[j]?=some (Ah b' 50 ds)) (hns:ds.take k=ns) (hnl:ns.length=k) (h1:(ns.all λu=>u.oneCell')=true) (hkm:k<=m) (hfit:k<=cs.length)
    (hcs:Hw cs 0 ns=cs') (hL:L.set i (Ah b 50 cs')=L') (hd:dd<n) (next:AC prog ops rest Q n ((dd,.int .i64 k)::F) w0 L'):AC prog ops (o::rest) Q n F w0 L:=λa w ha hW=>by
  subst ho;subst hcs;subst hL
  unfold wpList
  rw [if_pos (hw a ha)]
  left
  have hca:=EI (off:=0) (k:=k) (hW.get hj)
  rw [List.drop_zero,hns] at hca
  have hr:=run_copy_row (P:=prog) w 224 224 t 50 b 0 m c ⟨b',0,none⟩ k c' cs.toArray 50 ns underlying224 (by kernel_rfl) (hW.get hi) (by rw [hnl];exact (Nat.min_eq_left hkm).symm) (λq u hu=>by rw [Addr.add_lit];exact hca q u hu) (by simp;omega) (λu hu=>List.all_eq_true.1 h1 u hu)
  unfold Oper.wp
  have he:(execOp a.eval ⟨some dd,.call { callee:=.builtin .copy,args:=#[x,y],argTypes:=#[224,224] },t,p,af,g⟩).run prog w=.ok (.value (.int .i64 k)) (w.setRow b (Hw cs 0 ns).toArray):=by
    simp only [execOp,resolve,invoke,builtin,Sem.run_bind,Sem.run_pure,Result.andThen_ok,List.map_toArray,List.map_cons,List.map_nil,ha.ev hx,ha.ev hy,hr,Hw,hnl,goInt]
  rw [he,Oper.upon_value]
  have hg:=hW.get hi
  exact next _ _ (ha.put hd) (hW.turn hi O O ⟨⟨rfl,rfl,rfl,by simp,λq _ hq=>setRow_other w b q _ (λe=>hq (by simp [e]))⟩,Nat.le_refl _⟩ ⟨_,setRow_heap w b cs.toArray _ 50 _ hg,rfl⟩)
end
theorem To {a b:Nat} (h:nw b<=nw a):a+b<4294967296^(nw a+1):=by
  have h1:=Bs a
  have h2:b<4294967296^nw a:=Cr.1 h
  rw [Nat.pow_succ];omega
theorem E1 (v k:Nat):(AQ v++(List.replicate (nw v+k) 0).drop (AQ v).length).length=nw v+k/\W32 (AQ v++(List.replicate (nw v+k) 0).drop (AQ v).length)/\val (AQ v++(List.replicate (nw v+k) 0).drop (AQ v).length)=v:=by
  have e:(List.replicate (nw v+k) 0).drop (AQ v).length=List.replicate k 0:=by rw [List.drop_replicate];congr 1;unfold nw;omega
  rw [e]
  refine ⟨by simp [nw],(Bn v).append (W32.zeros k),?_⟩
  rw [JT,CN,Dk];omega
theorem Hi {os:List Nat} {p c n:Nat} (hl:os.length=n) (hp:p<n) (h0:os.getD p 0=0):val (os.set p c)=val os+c*4294967296^p:=by
  have e:=Ee (xs:=os) (i:=p) Z c
  rw [h0] at e;omega
theorem OY {os:List Nat} {a b i:Nat} (hv:val os=val ((AQ a).take i)*b):∀j,i+nw b<=j->os.getD j 0=0:=λj hj=>by
  refine Fe (m:=i+nw b) ?_ hj
  rw [hv,Nat.pow_add]
  refine Nat.mul_lt_mul'' (Nat.lt_of_lt_of_le (F8 ((Bn a).take i)) (Nat.pow_le_pow_right Z (by simp;omega))) (Bs b)
theorem E7 {os:List Nat} {p q v:Nat} (h:∀j,p<=j->os.getD j 0=0) (hq:q<p):∀j,p<=j->(os.set q v).getD j 0=0:=λj hj=>by
  rw [List.getD_eq_getElem?_getD,List.getElem?_set_ne Z,<-List.getD_eq_getElem?_getD]
  exact h j hj
theorem V7 {a b i:Nat}:val ((AQ a).take i)*b+(AQ a).getD i 0*b*4294967296^i=val ((AQ a).take (i+1))*b:=by
  rw [Ba];grind
theorem Yb {x y:Nat} (hx:x<18446744073709551616) (hy:y<18446744073709551616):val [x%4294967296,x/4294967296,y%4294967296,y/4294967296]=x+y*18446744073709551616:=by
  simp only [val];omega
theorem OE (xs:List Nat):((Aq xs).all λu=>u.oneCell')=true:=List.all_eq_true.2 (VA xs)
theorem La (xs:List Nat) (k:Nat):(Aq xs).take k=Aq (xs.take k):=by simp [Aq,List.map_take]
theorem Nc (xs ns:List Nat):Hw (Aq xs) 0 (Aq ns)=Aq (ns++xs.drop ns.length):=by simp [Hw,Aq,List.map_drop]
end
section
set_option maxRecDepth 100000
theorem Xl (a b p q c c2:Nat) (ha:nw a<=1099511627776) (hb:nw b<=1099511627776) (w:World) (hp:w.heap[p]?=some (.cells (Aq (Ax a)).toArray 50 (0,0))) (hq:w.heap[q]?=some (.cells (Aq (Ax b)).toArray 50 (0,0))):Calls prog 155 #[(Value.slice (some ⟨p,0,none⟩) (nw a) c),(Value.slice (some ⟨q,0,none⟩) (nw b) c2)] w (Ak w (vI (C6 a b))):=by
 have hla:=CE a
 have hlb:=CE b
 refine An (args:=[(Value.slice (some ⟨p,0,none⟩) (nw a) c),(Value.slice (some ⟨q,0,none⟩) (nw b) c2)]) func155 O O (AV O) (AE.subF (sL [0,1] O) (q4 (AI O (AC.nil (q1 (q4 (AM O (AK (v:=(vN (nw a))) (AF O underlying224) O (AM O (AK (v:=(vN (nw b))) (AF O underlying224) O (AK (Ce (c:=(decide ((nw a)≠(nw b)))) O O (ZB (a:=nw a) (b:=nw b))) O ?_)))))))))))
 refine AC.nil (OkQ.subF (sL [0,1,4,10] O) (OkQ.then_ ?_))
 refine AE.cond O (λhc0=>?_) (λhc0=>?_)
 ·replace hc0:=of_decide_eq_true hc0
  refine q4 (AM O (AK (v:=(vN (nw a))) (AF O underlying224) O (AM O (AK (v:=(vN (nw b))) (AF O underlying224) O (AK (BO (c:=((nw a:Int)-(nw b:Int))) O O (BJ Z Z)) O (ck' call163 (V3 _ Z Z) O (AC.retell (k:=16) (u:=(vI (C6 a b))) O (by rw [XC hc0]) (AI O (AC.nil (OkQ.subF (sL [0,1,4] O) (OkQ.then_ ?_)))))))))))
  exact AE.ret (OkQ.then_ret (AS O (AZ (v:=(vI (C6 a b))) O) (λw hw=>⟨rfl,hw.out⟩)))
 ·replace hc0:=of_decide_eq_false hc0
  refine AE.skip (q1 (q4 (AM O (AK (v:=(vN (nw a))) (AF O underlying224) O (AK (BO (c:=(((nw a:Nat):Int)-1)) O O (BJ Z Z)) O (AI O (AC.nil (OkQ.subF (sL [0,1,4,5] O) (OkQ.then_ (AE.block ?_))))))))))
  refine AE.lp1 (tg λ(k:Nat)=>k<=nw a/\(AQ a).drop k=(AQ b).drop k) (tg λ(k:Nat)=>[(0,(Value.slice (some ⟨p,0,none⟩) (nw a) c)),(1,(Value.slice (some ⟨q,0,none⟩) (nw b) c2)),(5,(vI (((k:Nat):Int)-1)))]) (tg λ(k:Nat)=>[]) (tg λ(k:Nat)=>k) (nw a) (⟨Nat.le_refl _,by rw [List.drop_of_length_le (by exact Nat.le_refl _),List.drop_of_length_le (by unfold nw at *;omega)]⟩) (sF O) sr (λk hJ=>?_)
  obtain ⟨hk,hd⟩:=hJ
  refine AE.seq (q4 (AM O (AK (CI (c:=(decide ((0:Int)<=(((k:Nat):Int)-1)))) O O O) O (AC.nil (OkQ.subF (sL [0,1,5,21] O) (OkQ.then_ ?_))))))
  refine AE.cond O (λhc1=>?_) (λhc1=>?_)
  ·replace hc1:=of_decide_eq_true hc1
   have hk0:0<k:=by omega
   refine AE.retell (k:=5) (u:=(vN (k-1))) O (by congr 1;omega) (AE.skip (q1 (AE.block (AE.seq (Cu [(0,true),(1,true),(2,true),(3,true),(4,true),(5,true),(6,true),(7,true),(8,true)] sr ?_)))))
   have ea:(Ax a).getD (k-1) 0=(AQ a).getD (k-1) 0:=DD Z
   have eb:(Ax b).getD (k-1) 0=(AQ b).getD (k-1) 0:=DD Z
   refine BU O (BU O (Av (v:=(pP p (k-1))) O (AP (j:=k-1) O O underlying224 sizeOf50 O Z (by simp)) ?_))
   have hx1:(Ax a).getD (k-1) 0<4294967296:=W32.getD (CJ a) (k-1)
   refine Av O (BW (v:=(vK .u32 ((Ax a).getD (k-1) 0))) O (λw' hw=>CA.at0 (hw.oldCA (by simp) (ER hp)) (BD (xs:=Ax a) (j:=(k-1)) Z)) isAgg50) (BU O (BU O (Av (v:=(pP q (k-1))) O (AP (j:=k-1) O O underlying224 sizeOf50 O Z (by simp)) ?_)))
   have hx2:(Ax b).getD (k-1) 0<4294967296:=W32.getD (CJ b) (k-1)
   refine Av O (BW (v:=(vK .u32 ((Ax b).getD (k-1) 0))) O (λw' hw=>CA.at0 (hw.oldCA (by simp) (ER hq)) (BD (xs:=Ax b) (j:=(k-1)) Z)) isAgg50) (Av O (Ce (c:=(decide (((Ax a).getD (k-1) 0)≠((Ax b).getD (k-1) 0)))) O O (ZB (a:=(Ax a).getD (k-1) 0) (b:=(Ax b).getD (k-1) 0))) (OkE.nil (OkQ.subF (sL [0,1,5,32] O) (OkQ.then_ ?_))))
   refine AE.cond O (λhc2=>?_) (λhc2=>?_)
   ·replace hc2:=of_decide_eq_true hc2
    have hcw:=SE Z hk0 hk hd Z
    refine AE.seq (AE.seq (Cu [(0,true),(1,true),(2,true),(3,true),(4,true),(5,true),(6,true),(7,true),(8,true)] sr (BU O (BU O (Av (v:=(pP p (k-1))) O (AP (j:=k-1) O O underlying224 sizeOf50 O Z (by simp)) ?_)))))
    have hx3:(Ax a).getD (k-1) 0<4294967296:=W32.getD (CJ a) (k-1)
    refine Av O (BW (v:=(vK .u32 ((Ax a).getD (k-1) 0))) O (λw' hw=>CA.at0 (hw.oldCA (by simp) (ER hp)) (BD (xs:=Ax a) (j:=(k-1)) Z)) isAgg50) (BU O (BU O (Av (v:=(pP q (k-1))) O (AP (j:=k-1) O O underlying224 sizeOf50 O Z (by simp)) ?_)))
    have hx4:(Ax b).getD (k-1) 0<4294967296:=W32.getD (CJ b) (k-1)
    refine Av O (BW (v:=(vK .u32 ((Ax b).getD (k-1) 0))) O (λw' hw=>CA.at0 (hw.oldCA (by simp) (ER hq)) (BD (xs:=Ax b) (j:=(k-1)) Z)) isAgg50) (Av O (Ad (c:=(decide (((Ax a).getD (k-1) 0)<((Ax b).getD (k-1) 0)))) O O (B7 (a:=(Ax a).getD (k-1) 0) (b:=(Ax b).getD (k-1) 0))) (OkE.nil (OkQ.subF (sL [0,1,5,41] O) (OkQ.then_ ?_))))
    refine AE.cond O (λhc3=>?_) (λhc3=>?_)
    ·replace hc3:=of_decide_eq_true hc3
     rw [if_pos Z] at hcw
     exact q4 (AI O (AC.nil (OkQ.then_ (AE.ret (OkQ.then_ret (OkQ.in_ret (OkQ.then_ret (OkQ.round1_ret (OkQ.in_ret (OkQ.then_ret (AS O (AZ (v:=(vI (-1:Int))) O) (λw hw=>⟨by rw [hcw],hw.out⟩))))))))))))
    ·replace hc3:=of_decide_eq_false hc3
     rw [if_neg Z] at hcw
     exact AE.skip (q2 (AI O (AC.nil (OkQ.then_ (AE.ret (OkQ.in_ret (OkQ.then_ret (OkQ.round1_ret (OkQ.in_ret (OkQ.then_ret (AS O (AZ (v:=(vI 1)) O) (λw hw=>⟨by rw [hcw],hw.out⟩))))))))))))
   ·replace hc2:=of_decide_eq_false hc2
    exact AE.skip (OkQ.in_normal (OkQ.then_ (AE.region (AM O (AK (BO (c:=(((k-1:Nat):Int)-1)) O O (BJ Z Z)) O (AI O (AC.nil (OkQ.subF (sL [0,1,5] O) (OkQ.round1 (k-1) (⟨Z,Q5 (by unfold nw at hc0;omega) Z hk hd Z⟩) Z (sF O) sr)))))))))
  ·replace hc1:=of_decide_eq_false hc1
   have hk0:k=0:=by omega
   subst hk0
   have hz:=S9 hd
   exact AE.exit (OkQ.then_exit (OkQ.round1_exit (OkQ.in_exit (q2 (AI O (AC.nil (OkQ.then_ (AE.ret (AS O (AZ (v:=(vI 0)) O) (λw hw=>⟨by rw [hz],hw.out⟩))))))))))
end
end Go.Proofs.YtpgncndhhhllfaaGreat
