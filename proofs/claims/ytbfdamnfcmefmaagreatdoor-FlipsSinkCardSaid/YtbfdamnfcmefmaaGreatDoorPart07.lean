import Derived.Test.YtbfdamnfcmefmaaGreatDoorPart06
namespace Go.Proofs.YtbfdamnfcmefmaaGreatDoor
open Go Go.RowKit Go.Proofs.Tryz
open Go.Value renaming slice→qz,bool→qa
set_option linter.unusedVariables false
set_option linter.unusedSimpArgs false
section
set_option maxRecDepth 100000
theorem Jr (b m c:Nat) (bs:List Nat) (hbs:W32 bs) (hm:m<=bs.length) (hc:m<=c) (hL:c<4398046511104) (w:World) (hb:w.heap[b]?=some (.cells (Am bs).toArray 89 (0,0))):Calls prog 181 #[(qz (jk b) m c)] w (Ag w (aG (AV (val (bs.take m))))):=by
 have hle:=KF bs m
 have hval:=ME bs m
 have hwd:=Ja hbs hm
 have hnw:=Qg hbs hm
 generalize hK:D4 bs m=K at *
 refine AW (args:=[(qz (jk b) m c)]) func181 O O (BE O) (zM (sL [0] O) (q4 (al GZ O λb1=>oNl' (q2 (AM O (C7 call154 (λw hw=>Um _ m c bs hbs Z Z Z w (hw.old jX hb)) O (zK (k:=10) (u:=(qz (jk b) K c)) O (by rw [hK]) (asg' O (q6 (sL [0,2] O) (q4 ?_))))))))))
 refine AM O (AC (v:=(vN K)) (AE O underlying220) O (AC (JA (c:=(decide (K<=2))) O O (YJ (a:=K) (b:=2))) O (oNl' (zB (sL [0,2,13] O) (zA ?_)))))
 refine zL O (λhc0=>?_) (λhc0=>?_)
 ·replace hc0:=xU hc0
  refine q4 (asg' O (oNl' (q1 (q4 (AM O (AC (v:=(vN K)) (AE O underlying220) O (AM O (oNl' (zA (zI ?_))))))))))
  refine yG (tg λ(i:Nat) (n:Nat)=>i<=K/\n=val (bs.take i)) (tg λ(i:Nat) (n:Nat)=>[(0,(qz (jk b) K c)),(2,(pP b1 0)),(14,(qz (jk b) K c)),(15,(vN K)),(16,(vN i)),(3,(vK .u64 n))]) (tg λ(i:Nat) (n:Nat)=>[AX b1 62 (AV 0)]) (tg λ(i:Nat) (n:Nat)=>K-i) 0 0 (⟨xK _,by simp [val]⟩) (sF O) sr (λi n hJ=>?_)
  obtain ⟨hi,hn⟩:=hJ
  refine q4 (AC (Aa (c:=(decide (i<K))) O O (DF (a:=i) (b:=K))) O (oNl' (q1 ?_)))
  refine zL O (λhc1=>?_) (λhc1=>?_)
  ·replace hc1:=xU hc1
   refine zC (q1 (zI (q4 (AM O (AC (v:=(pP b i)) (AH (j:=i) O O underlying220 sizeOf89 O Z jX) O ?_)))))
   have hx1:bs.getD i 0<4294967296:=W32.getD hbs i
   refine AC (Bc (v:=(vK .u32 (bs.getD i 0))) O (λw' hw=>CA.at0 (hw.oldCA jX (FA hb)) (BH (xs:=bs) (j:=i) Z)) isAgg89) O (asg' O (asg' O (oNl' (zB (sL [0,2,14,15,16,3,4,5] O) (zA (zD (AM O (AM O (AC (Ar (c:=((bs.getD i 0:Nat):Int)) O underlying89 underlying60 (BW Z)) O (AM O ?_))))))))))
   have hiK:i<K:=hc1
   have hi2:i<2:=by omega
   have hn2:n<4294967296^i:=by rw [hn];exact Nat.lt_of_lt_of_le (HG (hbs.take i)) (Nat.pow_le_pow_right Z (by simp;omega))
   have hsh:=WT (i:=i) (hbs.getD i) hi2
   have hn3:n<18446744073709551616:=TM hn2 hi2
   refine AC (Bv (c:=((32*i:Nat):Int)) O O (DO (a:=32) (b:=i) Z)) O (AC (v:=(vK .u64 (bs.getD i 0*2^(32*i)))) (Gv (s:=32*i) O O O (show 32*i<=64 by omega) (G5 hsh)) O (AC (Jk (c:=((n+bs.getD i 0*2^(32*i):Nat):Int)) O O (KX hn3 hsh (IB (by rw [<-ZP];exact hn2)))) O (asg' O (oNl' (zB (sL [0,2,14,15,16,3] O) (zF (zA (zD (AC (AR (c:=((i+1:Nat):Int)) O O (AS (a:=i) (b:=1) Z)) O (AM O (oNl' ?_)))))))))))
   exact zB (sL [0,2,14,15,16,3] O) (zn (i+1) (n+bs.getD i 0*2^(32*i)) (⟨Z,by rw [BY,<-hn,ZP]⟩) Z (sF O) sr)
  ·replace hc1:=xT hc1
   refine zU (zO (zm (zR (q2 (AM O ?_)))))
   have hnn:n=val (bs.take K):=by rw [hn,show i=K by omega]
   have hv2:val (bs.take m)<18446744073709551616:=by rw [<-hval];exact Nat.lt_of_lt_of_le (HG (hbs.take K)) (by rw [List.length_take];exact xN (Nat.pow_le_pow_right (n:=4294967296) Z (show min K bs.length<=2 by omega)) jY)
   exact AC (v:=(aG ([(vK .u64 n),(Value.string (Bo 0))]))) (AT (zs:=AV 0) (vs:=[(vK .u64 n),(Value.string (Bo 0))]) (pv:=[(0,(vK .u64 n))]) (places:=[(0,1),(1,1)]) zeroValue62 underlying62 (λw=>by simp [sizeOf9,sizeOf60]) O O) O (zK (k:=30) (u:=(aG (AV (val (bs.take m))))) O (by rw [Dt hv2,<-hval,<-hnn];rfl) (Ah O sizeOf62 O (oNl' (zB (sL [0,2,14,15,16,3] O) (zA (zH (zJ (ret_one O (Ap (i:=0) (cs:=AV (val (bs.take m))) O O isAgg62 sizeOf62 O) (λw hw=>⟨rfl,hw.out⟩)))))))))
 ·replace hc0:=xT hc0
  refine zC (q2 (AM O (AC (v:=(vN K)) (AE O underlying220) O (AC (Bv (c:=((4*K:Nat):Int)) O O (DO (a:=4) (b:=K) Z)) O (ze (V:=λb2=>(qz (jk b2) 0 (4*K))) (T:=5) (cs:=KA (List.replicate (4*K) 0)) (AK O) (Qj (m:=0) (c:=4*K) O O Z Z) O (BE O) λb2=>asg' O (q6 (sL [0,2,6] O) (q4 (AM O (AC (v:=(vN K)) (AE O underlying220) O (AM O ?_))))))))))
  refine oNl' (zA (zI ?_))
  refine yG (tg λ(i:Nat) (bz:List Nat)=>i<=K/\bz=bytesN (bs.take i)++List.replicate (4*(K-i)) 0) (tg λ(i:Nat) (bz:List Nat)=>[(2,(pP b1 0)),(35,(qz (jk b) K c)),(36,(vN K)),(37,(vN i)),(6,(qz (jk b2) (4*i) (4*K)))]) (tg λ(i:Nat) (bz:List Nat)=>[AX b2 5 (KA bz),AX b1 62 (AV 0)]) (tg λ(i:Nat) (bz:List Nat)=>K-i) 0 (List.replicate (4*K) 0) (⟨xK _,by simp [bytesN]⟩) (sF O) sr (λi bz hJ=>?_)
  obtain ⟨hi,hz⟩:=hJ
  refine q4 (AC (Aa (c:=(decide (i<K))) O O (DF (a:=i) (b:=K))) O (oNl' (q1 ?_)))
  refine zL O (λhc2=>?_) (λhc2=>?_)
  ·replace hc2:=xU hc2
   refine zC (q1 (zI (q4 (AC (v:=(pP b i)) (AH (j:=i) O O underlying220 sizeOf89 O Z jX) O ?_))))
   have hx2:bs.getD i 0<4294967296:=W32.getD hbs i
   refine AC (Bc (v:=(vK .u32 (bs.getD i 0))) O (λw' hw=>CA.at0 (hw.oldCA jX (FA hb)) (BH (xs:=bs) (j:=i) Z)) isAgg89) O (asg' O (oNl' (zB (sL [2,35,36,37,6,8] O) (zA (zD (AM O (AM O (AC (Ar (c:=(((bs.getD i 0)%256:Nat):Int)) O underlying89 underlying5 KU) O (AM O (AC (C4 (s:=8) (c:=(((bs.getD i 0)/256:Nat):Int)) O O O jY (GW (a:=bs.getD i 0) (s:=8))) O (AC (Ar (c:=((((bs.getD i 0)/256)%256:Nat):Int)) O underlying89 underlying5 KU) O ?_)))))))))))
   refine AM O (AC (C4 (s:=16) (c:=(((bs.getD i 0)/65536:Nat):Int)) O O O jY (GW (a:=bs.getD i 0) (s:=16))) O (AC (Ar (c:=((((bs.getD i 0)/65536)%256:Nat):Int)) O underlying89 underlying5 KU) O (AM O (AC (C4 (s:=24) (c:=(((bs.getD i 0)/16777216:Nat):Int)) O O O jY (GW (a:=bs.getD i 0) (s:=24))) O (AC (Ar (c:=((((bs.getD i 0)/16777216)%256:Nat):Int)) O underlying89 underlying5 KU) O (ze (V:=λb3=>(qz (jk b3) 4 4)) (T:=5) (cs:=KA ([(bs.getD i 0)%256,((bs.getD i 0)/256)%256,((bs.getD i 0)/65536)%256,((bs.getD i 0)/16777216)%256])) (AK O) (A7 (cs:=KA ([(bs.getD i 0)%256,((bs.getD i 0)/256)%256,((bs.getD i 0)/65536)%256,((bs.getD i 0)/16777216)%256])) (pv:=[(0,(vK .u8 ((bs.getD i 0)%256))),(1,(vK .u8 (((bs.getD i 0)/256)%256))),(2,(vK .u8 (((bs.getD i 0)/65536)%256))),(3,(vK .u8 (((bs.getD i 0)/16777216)%256)))]) underlying22 sizeOf5 zeroValue5 jY jY O jV) O (BE O) λb3=>?_))))))
   obtain ⟨bz2,hz2,hlay⟩:∃bz2,bz2=bytesN (bs.take (i+1))++List.replicate (4*(K-(i+1))) 0/\Gi (KA bz) (4*i) (KA ([(bs.getD i 0)%256,((bs.getD i 0)/256)%256,((bs.getD i 0)/65536)%256,((bs.getD i 0)/16777216)%256]))=KA bz2:=⟨_,rfl,by rw [hz];exact P6 hc2 Z⟩
   exact AU.append_u8 (i:=1) (j:=0) (m:=4*i) (c:=4*K) (k:=4) (cs':=KA bz2) (L':=[AX b3 5 (KA ([(bs.getD i 0)%256,((bs.getD i 0)/256)%256,((bs.getD i 0)/65536)%256,((bs.getD i 0)/16777216)%256])),AX b2 5 (KA bz2),AX b1 62 (AV 0)]) O (AK O) O O O O O O Z (by rw [IL,hz];simp [CI];omega) hlay O (BE O) (asg' O (oNl' (zB (sL [2,35,36,37,6] O) (zF (zA (zD (AC (AR (c:=((i+1:Nat):Int)) O O (AS (a:=i) (b:=1) Z)) O (AM O (oNl' (zB (sL [2,35,36,37,6] O) (zn (i+1) bz2 (⟨Z,hz2⟩) Z (sF O) (sl sr))))))))))))
  ·replace hc2:=xT hc2
   refine zU (zO (zm (zR (q2 (AM O ?_)))))
   have hbl:bz.length=4*i:=by rw [hz,xM,CI,List.length_take,List.length_replicate];omega
   have htk:(KA bz).take (4*i)=KA bz:=List.take_of_length_le (by rw [IL];omega)
   refine AC (v:=(Value.string (DT bz))) (Jz (i:=0) (m:=4*i) (ns:=bz) O O htk hbl) O ?_
   have hv3:¬val (bs.take m)<18446744073709551616:=λh=>by have:=Ll h;omega
   have hbz:bz=bytesN (bs.take K):=by rw [hz,show i=K by omega];simp
   exact AC (v:=(aG ([(vK .u64 (CD 0)),(Value.string (DT bz))]))) (AT (zs:=AV 0) (vs:=[(vK .u64 (CD 0)),(Value.string (DT bz))]) (pv:=[(1,(Value.string (DT bz)))]) (places:=[(0,1),(1,1)]) zeroValue62 underlying62 (λw=>by simp [sizeOf9,sizeOf60]) O O) O (zK (k:=58) (u:=(aG (AV (val (bs.take m))))) O (by rw [Vq hv3,hwd,<-hbz];rfl) (CS O sizeOf62 O (oNl' (zB (sL [2,35,36,37,6] O) (zA (zH (ret_one O (Ap (i:=1) (cs:=AV (val (bs.take m))) O O isAgg62 sizeOf62 O) (λw hw=>⟨rfl,hw.out⟩))))))))
end
section
def Fy (a b:Nat):Int:=if a<b then -1 else if a=b then 0 else 1
theorem KE {a b:Nat}:Fy a b<0↔a<b:=by
  unfold Fy;split
  · omega
  · split<;>omega
theorem RR {a b:Nat}:Fy a b=0↔a=b:=by
  unfold Fy;split
  · omega
  · split<;>omega
theorem Xf {a b:Nat} (h:nw a≠nw b):((nw a:Int)-(nw b:Int)).sign=Fy a b:=by
  unfold Fy
  by_cases h1:nw a<nw b
  · have h2:a<b:=by
      rcases Nat.lt_or_ge a b with h2|h2
      · exact h2
      · have:=Dr h2;omega
    rw [if_pos h2,Int.sign_eq_neg_one_of_neg Z]
  · have h2:b<a:=by
      rcases Nat.lt_or_ge b a with h2|h2
      · exact h2
      · have:=Dr h2;omega
    rw [if_neg Z,if_neg Z,Int.sign_eq_one_of_pos Z]
theorem Ud {xs ys:List Nat} {k:Nat} (hx:W32 xs) (hl:xs.length=ys.length) (h0:0<k) (hk:k<=xs.length) (hd:xs.drop k=ys.drop k) (h:xs.getD (k-1) 0<ys.getD (k-1) 0):val xs<val ys:=by
  have e1:=E8 xs k hk
  have e2:=E8 ys k Z
  have s1:=BY xs (k-1)
  have s2:=BY ys (k-1)
  rw [show k-1+1=k by omega] at s1 s2
  have h1:val (xs.take (k-1))<4294967296^(k-1):=Nat.lt_of_lt_of_le (HG (hx.take (k-1))) (Nat.pow_le_pow_right Z (by simp;omega))
  have h2:(xs.getD (k-1) 0+1)*4294967296^(k-1)<=ys.getD (k-1) 0*4294967296^(k-1):=Nat.mul_le_mul_right _ h
  rw [Nat.add_mul] at h2
  rw [hd] at e1
  omega
theorem Sb {xs ys:List Nat} {k:Nat} (hl:xs.length=ys.length) (h0:0<k) (hk:k<=xs.length) (hd:xs.drop k=ys.drop k) (h:xs.getD (k-1) 0=ys.getD (k-1) 0):xs.drop (k-1)=ys.drop (k-1):=by
  have h1:k-1<xs.length:=by omega
  have h2:k-1<ys.length:=by omega
  rw [List.drop_eq_getElem_cons h1,List.drop_eq_getElem_cons h2,show k-1+1=k by omega,hd]
  simp [h1,h2] at h
  rw [h]
theorem SU {a b k:Nat} (hl:nw a=nw b) (h0:0<k) (hk:k<=nw a) (hd:(AN a).drop k=(AN b).drop k) (hne:(AN a).getD (k-1) 0≠(AN b).getD (k-1) 0) :
    Fy a b=if (AN a).getD (k-1) 0<(AN b).getD (k-1) 0 then -1 else 1:=by
  unfold Fy
  split
  · rename_i h
    rw [if_pos]
    rcases Nat.lt_or_ge ((AN a).getD (k-1) 0) ((AN b).getD (k-1) 0) with h1|h1
    · exact h1
    · have:=Ud (Bt b) hl.symm h0 (by unfold nw at *;omega) hd.symm (show (AN b).getD (k-1) 0<(AN a).getD (k-1) 0 by omega)
      rw [Ch,Ch] at this;omega
  · rename_i h
    have h2:¬(AN a).getD (k-1) 0<(AN b).getD (k-1) 0:=λh1=>by
      have:=Ud (Bt a) hl h0 hk hd h1
      rw [Ch,Ch] at this;omega
    rw [if_neg h2,if_neg]
    intro e;subst e;exact hne rfl
theorem Ue {a b:Nat} (hd:(AN a).drop 0=(AN b).drop 0):Fy a b=0:=by
  rw [RR]
  rw [List.drop_zero,List.drop_zero] at hd
  rw [<-Ch a,<-Ch b,hd]
theorem Dq {v i:Nat} (h:i<nw v):(Ax v).getD i 0=(AN v).getD i 0:=by
  rw [<-Ir v]
  simp [List.getD_eq_getElem?_getD,List.getElem?_take,h]
theorem Er {v i:Nat} (h:¬i<nw v):(AN v).getD i 0=0:=by
  unfold nw at h;simp [List.getD_eq_getElem?_getD,Nat.not_lt.1 h]
theorem DZ {v i:Nat} (h:nw v<=i):val ((AN v).take i)=v:=by
  rw [List.take_of_length_le h,Ch]
theorem Ye (v:Nat):(Ax v).length<=nw v+2:=by
  unfold Ax;split
  · simp
  · unfold nw;omega
theorem Iy (v:Nat):val ((Ax v).take (nw v))=v:=by rw [Ir,Ch]
theorem On {os ys:List Nat} {X i n c:Nat} (hl:os.length=n) (hi:i<n) (hv:val os+c*4294967296^i=X+val (ys.take i)) :
    val (os.set i ((os.getD i 0+ys.getD i 0+c)%4294967296))+(os.getD i 0+ys.getD i 0+c)/4294967296*4294967296^(i+1)=X+val (ys.take (i+1)):=by
  have e:=Fg (xs:=os) (i:=i) Z ((os.getD i 0+ys.getD i 0+c)%4294967296)
  have t:=BY ys i
  have hm:=Nat.div_add_mod (os.getD i 0+ys.getD i 0+c) 4294967296
  rw [Nat.pow_succ]
  generalize os.getD i 0=o at *
  generalize ys.getD i 0=y at *
  generalize (o+y+c)/4294967296=q at *
  generalize (o+y+c)%4294967296=r at *
  generalize 4294967296^i=p at *
  have hm2:(4294967296*q+r)*p=(o+y+c)*p:=by rw [hm]
  grind
theorem Om {os:List Nat} {X Y n c i:Nat} (hl:os.length=n) (hw:W32 os) (hi:n<=i) (hX:X+Y<4294967296^n) (hv:val os+c*4294967296^i=X+Y):val os=X+Y:=by
  have h1:4294967296^n<=4294967296^i:=Nat.pow_le_pow_right Z hi
  rcases Nat.eq_zero_or_pos c with h|h
  · subst h;omega
  · have:1*4294967296^i<=c*4294967296^i:=Nat.mul_le_mul_right _ h
    omega
theorem Wf {os ys:List Nat} {X i n c:Nat} (hl:os.length=n) (hi:i<n) (hw:W32 os) (hy:W32 ys) (hc:c<=1) (hv:val os+val (ys.take i)=X+c*4294967296^i) :
    val (os.set i ((os.getD i 0+(4294967296-ys.getD i 0)+(4294967296-c))%4294967296))+val (ys.take (i+1))=X+Jf (os.getD i 0) (ys.getD i 0+c)*4294967296^(i+1):=by
  have e:=Fg (xs:=os) (i:=i) Z ((os.getD i 0+(4294967296-ys.getD i 0)+(4294967296-c))%4294967296)
  have t:=BY ys i
  have ho:=hw.getD i
  have hy':=hy.getD i
  rw [Nat.pow_succ]
  have hm:(os.getD i 0+(4294967296-ys.getD i 0)+(4294967296-c))%4294967296+ys.getD i 0+c=os.getD i 0+Jf (os.getD i 0) (ys.getD i 0+c)*4294967296:=by
    unfold Jf;split<;>omega
  generalize (os.getD i 0+(4294967296-ys.getD i 0)+(4294967296-c))%4294967296=r at *
  generalize Jf (os.getD i 0) (ys.getD i 0+c)=q at *
  generalize os.getD i 0=o at *
  generalize ys.getD i 0=y at *
  generalize 4294967296^i=p at *
  have hm2:(r+y+c)*p=(o+q*4294967296)*p:=by rw [hm]
  grind
theorem We {os:List Nat} {X Y n c i:Nat} (hl:os.length=n) (hw:W32 os) (hi:i=n) (hX:Y<=X) (hv:val os+Y=X+c*4294967296^i) (hX2:X<4294967296^n):val os=X-Y:=by
  have h1:=HG hw
  rw [hl] at h1
  subst hi
  rcases Nat.eq_zero_or_pos c with h|h
  · subst h;omega
  · have:1*4294967296^i<=c*4294967296^i:=Nat.mul_le_mul_right _ h
    omega
theorem P5 (x y:Nat):Jf x y<=1:=by unfold Jf;split<;>omega
theorem Vm {os ys:List Nat} {S W i k n c:Nat} (hl:os.length=n) (hi:i+k<n) (hv:val os+c*4294967296^(i+k)=S+W*val (ys.take k)*4294967296^i) :
    val (os.set (i+k) ((c+(W*ys.getD k 0+os.getD (i+k) 0))%4294967296))+(c+(W*ys.getD k 0+os.getD (i+k) 0))/4294967296*4294967296^(i+(k+1))=S+W*val (ys.take (k+1))*4294967296^i:=by
  have e:=Fg (xs:=os) (i:=i+k) Z ((c+(W*ys.getD k 0+os.getD (i+k) 0))%4294967296)
  have t:=BY ys k
  have hm:=Nat.div_add_mod (c+(W*ys.getD k 0+os.getD (i+k) 0)) 4294967296
  rw [t,show i+(k+1)=i+k+1 by omega,Nat.pow_succ]
  rw [Nat.pow_add] at *
  generalize os.getD (i+k) 0=o at *
  generalize ys.getD k 0=y at *
  generalize (c+(W*y+o))/4294967296=q at *
  generalize (c+(W*y+o))%4294967296=r at *
  generalize 4294967296^i=p at *
  generalize 4294967296^k=p' at *
  generalize val (ys.take k)=vy at *
  have hm2:(4294967296*q+r)*(p*p')=(c+(W*y+o))*(p*p'):=by rw [hm]
  grind
section
variable {n:Nat} {F:List (Nat×Value)} {w0:BF} {L:List As} {v:Value} {x y:Operand} {d:Option Tmp} {t:TypeId} {p:String} {af:Array Edge} {g:Option (Nat×Bool)}
theorem yk {ops:Array Oper} {rest:List Oper} {Q:Exit->Act->World->Prop} {L':List As} {i j b b' m c k c' dd:Nat} {cs ds ns cs':List Value} {o:Oper} (ho:o=⟨some dd,.call { callee:=.builtin .copy,args:=#[x,y],argTypes:=#[220,220] },t,p,af,g⟩) (hw:Wt ops n F o)
    (hx:evF F x=some (.slice (jk b) m c)) (hy:evF F y=some (.slice (some ⟨b',0,none⟩) k c')) (hi:L[i]?=some (AX b 89 cs)) (hj:L[j]?=some (AX b' 89 ds)) (hns:ds.take k=ns) (hnl:ns.length=k) (h1:(ns.all λu=>u.oneCell')=true) (hkm:k<=m) (hfit:k<=cs.length)
    (hcs:Gi cs 0 ns=cs') (hL:L.set i (AX b 89 cs')=L') (hd:dd<n) (next:AU prog ops rest Q n ((dd,.int .i64 k)::F) w0 L'):AU prog ops (o::rest) Q n F w0 L:=λa w ha hW=>by
  subst ho;subst hcs;subst hL
  unfold wpList
  rw [if_pos (hw a ha)]
  left
  have hca:=EH (off:=0) (k:=k) (hW.get hj)
  rw [List.drop_zero,hns] at hca
  have hr:=run_copy_row (P:=prog) w 220 220 t 89 b 0 m c ⟨b',0,none⟩ k c' cs.toArray 89 ns underlying220 jV (hW.get hi) (by rw [hnl];exact (Nat.min_eq_left hkm).symm) (λq u hu=>by rw [Addr.add_lit];exact hca q u hu) (by simp;omega) (λu hu=>List.all_eq_true.1 h1 u hu)
  unfold Oper.wp
  have he:(execOp a.eval ⟨some dd,.call { callee:=.builtin .copy,args:=#[x,y],argTypes:=#[220,220] },t,p,af,g⟩).run prog w=.ok (.value (.int .i64 k)) (w.setRow b (Gi cs 0 ns).toArray):=by
    simp only [execOp,resolve,invoke,builtin,Sem.run_bind,Sem.run_pure,Result.andThen_ok,List.map_toArray,List.map_cons,List.map_nil,ha.ev hx,ha.ev hy,hr,Gi,hnl,goInt]
  rw [he,Oper.upon_value]
  have hg:=hW.get hi
  exact next _ _ (ha.put hd) (hW.turn hi O O ⟨⟨rfl,rfl,rfl,by simp,λq _ hq=>setRow_other w b q _ (λe=>hq (by simp [e]))⟩,Nat.le_refl _⟩ ⟨_,setRow_heap w b cs.toArray _ 89 _ hg,rfl⟩)
end
theorem Wg {a b:Nat} (h:nw b<=nw a):a+b<4294967296^(nw a+1):=by
  have h1:=CE a
  have h2:b<4294967296^nw a:=Cx.1 h
  rw [Nat.pow_succ];omega
theorem Fz (v k:Nat):(AN v++(List.replicate (nw v+k) 0).drop (AN v).length).length=nw v+k/\W32 (AN v++(List.replicate (nw v+k) 0).drop (AN v).length)/\val (AN v++(List.replicate (nw v+k) 0).drop (AN v).length)=v:=by
  have e:(List.replicate (nw v+k) 0).drop (AN v).length=List.replicate k 0:=by rw [List.drop_replicate];congr 1;unfold nw;omega
  rw [e]
  refine ⟨by simp [nw],(Bt v).append (W32.zeros k),?_⟩
  rw [MD,Ch,EU];omega
theorem Io {os:List Nat} {p c n:Nat} (hl:os.length=n) (hp:p<n) (h0:os.getD p 0=0):val (os.set p c)=val os+c*4294967296^p:=by
  have e:=Fg (xs:=os) (i:=p) Z c
  rw [h0] at e;omega
theorem Q6 {os:List Nat} {a b i:Nat} (hv:val os=val ((AN a).take i)*b):∀j,i+nw b<=j->os.getD j 0=0:=λj hj=>by
  refine Gb (m:=i+nw b) ?_ hj
  rw [hv,Nat.pow_add]
  refine Nat.mul_lt_mul'' (Nat.lt_of_lt_of_le (HG ((Bt a).take i)) (Nat.pow_le_pow_right Z (by simp;omega))) (CE b)
theorem F7 {os:List Nat} {p q v:Nat} (h:∀j,p<=j->os.getD j 0=0) (hq:q<p):∀j,p<=j->(os.set q v).getD j 0=0:=λj hj=>by
  rw [List.getD_eq_getElem?_getD,List.getElem?_set_ne Z,<-List.getD_eq_getElem?_getD]
  exact h j hj
theorem YT {a b i:Nat}:val ((AN a).take i)*b+(AN a).getD i 0*b*4294967296^i=val ((AN a).take (i+1))*b:=by
  rw [BY];grind
theorem a8 {x y:Nat} (hx:x<18446744073709551616) (hy:y<18446744073709551616):val [x%4294967296,x/4294967296,y%4294967296,y/4294967296]=x+y*18446744073709551616:=by
  simp only [val];omega
theorem Pf (xs:List Nat):((Am xs).all λu=>u.oneCell')=true:=List.all_eq_true.2 (Wu xs)
theorem NQ (xs:List Nat) (k:Nat):(Am xs).take k=Am (xs.take k):=by simp [Am,List.map_take]
theorem Pg (xs ns:List Nat):Gi (Am xs) 0 (Am ns)=Am (ns++xs.drop ns.length):=by simp [Gi,Am,List.map_drop]
end
section
set_option maxRecDepth 100000
theorem Zn (a b p q c c2:Nat) (ha:nw a<=1099511627776) (hb:nw b<=1099511627776) (w:World) (hp:w.heap[p]?=some (.cells (Am (Ax a)).toArray 89 (0,0))) (hq:w.heap[q]?=some (.cells (Am (Ax b)).toArray 89 (0,0))):Calls prog 259 #[(qz (jk p) (nw a) c),(qz (jk q) (nw b) c2)] w (Ag w (vI (Fy a b))):=by
 have hla:=CV a
 have hlb:=CV b
 refine AW (args:=[(qz (jk p) (nw a) c),(qz (jk q) (nw b) c2)]) func259 O O (BE O) (zM (sL [0,1] O) (q4 (asg' O (oNl' (q1 (q4 (AM O (AC (v:=(vN (nw a))) (AE O underlying220) O (AM O (AC (v:=(vN (nw b))) (AE O underlying220) O (AC (Bw (c:=(decide ((nw a)≠(nw b)))) O O (bG (a:=nw a) (b:=nw b))) O ?_)))))))))))
 refine oNl' (zB (sL [0,1,4,10] O) (zA ?_))
 refine zL O (λhc0=>?_) (λhc0=>?_)
 ·replace hc0:=xU hc0
  refine q4 (AM O (AC (v:=(vN (nw a))) (AE O underlying220) O (AM O (AC (v:=(vN (nw b))) (AE O underlying220) O (AC (Bp (c:=((nw a:Int)-(nw b:Int))) O O (BL Z Z)) O (ck' call282 (Yx _ Z Z) O (zK (k:=16) (u:=(vI (Fy a b))) O (by rw [Xf hc0]) (asg' O (oNl' (zB (sL [0,1,4] O) (zA ?_)))))))))))
  exact zH (zJ (ret_one O (rd_tmp (v:=(vI (Fy a b))) O) (λw hw=>⟨rfl,hw.out⟩)))
 ·replace hc0:=xT hc0
  refine zC (q1 (q4 (AM O (AC (v:=(vN (nw a))) (AE O underlying220) O (AC (Bp (c:=(((nw a:Nat):Int)-1)) O O (BL Z Z)) O (asg' O (oNl' (zB (sL [0,1,4,5] O) (zA (zI ?_))))))))))
  refine zw (tg λ(k:Nat)=>k<=nw a/\(AN a).drop k=(AN b).drop k) (tg λ(k:Nat)=>[(0,(qz (jk p) (nw a) c)),(1,(qz (jk q) (nw b) c2)),(5,(vI (((k:Nat):Int)-1)))]) (tg λ(k:Nat)=>[]) (tg λ(k:Nat)=>k) (nw a) (⟨Nat.le_refl _,by rw [List.drop_of_length_le (by exact Nat.le_refl _),List.drop_of_length_le (by unfold nw at *;omega)]⟩) (sF O) sr (λk hJ=>?_)
  obtain ⟨hk,hd⟩:=hJ
  refine zY (q4 (AM O (AC (D5 (c:=(decide ((0:Int)<=(((k:Nat):Int)-1)))) O O O) O (oNl' (zB (sL [0,1,5,21] O) (zA ?_))))))
  refine zL O (λhc1=>?_) (λhc1=>?_)
  ·replace hc1:=xU hc1
   have hk0:0<k:=by omega
   refine yN (k:=5) (u:=(vN (k-1))) O (by congr 1;omega) (zC (q1 (zI (zY (C_ (Ek 9) sr ?_)))))
   have ea:(Ax a).getD (k-1) 0=(AN a).getD (k-1) 0:=Dq Z
   have eb:(Ax b).getD (k-1) 0=(AN b).getD (k-1) 0:=Dq Z
   refine Bx O (Bx O (Aj (v:=(pP p (k-1))) O (AH (j:=k-1) O O underlying220 sizeOf89 O Z jX) ?_))
   have hx1:(Ax a).getD (k-1) 0<4294967296:=W32.getD (Ca a) (k-1)
   refine Aj O (Bc (v:=(vK .u32 ((Ax a).getD (k-1) 0))) O (λw' hw=>CA.at0 (hw.oldCA jX (FA hp)) (BH (xs:=Ax a) (j:=(k-1)) Z)) isAgg89) (Bx O (Bx O (Aj (v:=(pP q (k-1))) O (AH (j:=k-1) O O underlying220 sizeOf89 O Z jX) ?_)))
   have hx2:(Ax b).getD (k-1) 0<4294967296:=W32.getD (Ca b) (k-1)
   refine Aj O (Bc (v:=(vK .u32 ((Ax b).getD (k-1) 0))) O (λw' hw=>CA.at0 (hw.oldCA jX (FA hq)) (BH (xs:=Ax b) (j:=(k-1)) Z)) isAgg89) (Aj O (Bw (c:=(decide (((Ax a).getD (k-1) 0)≠((Ax b).getD (k-1) 0)))) O O (bG (a:=(Ax a).getD (k-1) 0) (b:=(Ax b).getD (k-1) 0))) (zQ (zB (sL [0,1,5,32] O) (zA ?_))))
   refine zL O (λhc2=>?_) (λhc2=>?_)
   ·replace hc2:=xU hc2
    have hcw:=SU Z hk0 hk hd Z
    refine zY (zY (C_ (Ek 9) sr (Bx O (Bx O (Aj (v:=(pP p (k-1))) O (AH (j:=k-1) O O underlying220 sizeOf89 O Z jX) ?_)))))
    have hx3:(Ax a).getD (k-1) 0<4294967296:=W32.getD (Ca a) (k-1)
    refine Aj O (Bc (v:=(vK .u32 ((Ax a).getD (k-1) 0))) O (λw' hw=>CA.at0 (hw.oldCA jX (FA hp)) (BH (xs:=Ax a) (j:=(k-1)) Z)) isAgg89) (Bx O (Bx O (Aj (v:=(pP q (k-1))) O (AH (j:=k-1) O O underlying220 sizeOf89 O Z jX) ?_)))
    have hx4:(Ax b).getD (k-1) 0<4294967296:=W32.getD (Ca b) (k-1)
    refine Aj O (Bc (v:=(vK .u32 ((Ax b).getD (k-1) 0))) O (λw' hw=>CA.at0 (hw.oldCA jX (FA hq)) (BH (xs:=Ax b) (j:=(k-1)) Z)) isAgg89) (Aj O (Aa (c:=(decide (((Ax a).getD (k-1) 0)<((Ax b).getD (k-1) 0)))) O O (DF (a:=(Ax a).getD (k-1) 0) (b:=(Ax b).getD (k-1) 0))) (zQ (zB (sL [0,1,5,41] O) (zA ?_))))
    refine zL O (λhc3=>?_) (λhc3=>?_)
    ·replace hc3:=xU hc3
     rw [if_pos Z] at hcw
     exact q4 (asg' O (oNl' (zA (zH (zJ (zS (zJ (z6 (zS (zJ (ret_one O (rd_tmp (v:=(vI (-1:Int))) O) (λw hw=>⟨by rw [hcw],hw.out⟩))))))))))))
    ·replace hc3:=xT hc3
     rw [if_neg Z] at hcw
     exact zC (q2 (asg' O (oNl' (zA (zH (zS (zJ (z6 (zS (zJ (ret_one O (rd_tmp (v:=(vI 1)) O) (λw hw=>⟨by rw [hcw],hw.out⟩))))))))))))
   ·replace hc2:=xT hc2
    exact zC (zF (zA (zD (AM O (AC (Bp (c:=(((k-1:Nat):Int)-1)) O O (BL Z Z)) O (asg' O (oNl' (zB (sL [0,1,5] O) (zh (k-1) (⟨Z,Sb (by unfold nw at hc0;omega) Z hk hd Z⟩) Z (sF O) sr)))))))))
  ·replace hc1:=xT hc1
   have hk0:k=0:=by omega
   subst hk0
   have hz:=Ue hd
   exact zU (zO (zX (zR (q2 (asg' O (oNl' (zA (zH (ret_one O (rd_tmp (v:=(vI 0)) O) (λw hw=>⟨by rw [hz],hw.out⟩))))))))))
end
end Go.Proofs.YtbfdamnfcmefmaaGreatDoor
