import Derived.Test.YtcpkbjjmcleplaaGreatDoorPart09
namespace Go.Proofs.YtcpkbjjmcleplaaGreatDoor
open Go Go.RowKit Go.Proofs.Tryz
open Go.Value renaming slice→qz,bool→qa
set_option linter.unusedVariables false
set_option linter.unusedSimpArgs false
section
set_option maxRecDepth 100000
theorem KT (b m c:Nat) (bs:List Nat) (hbs:W32 bs) (hm:m<=bs.length) (hc:m<=c) (hL:c<4398046511104) (w:World) (hb:w.heap[b]?=some (.cells (Ap bs).toArray 27 (0,0))):Calls prog 124 #[(qz (jk b) m c)] w (Ac w (aG (AW (val (bs.take m))))):=by
 have hle:=Kx bs m
 have hval:=Mu bs m
 have hwd:=KA hbs hm
 have hnw:=Rn hbs hm
 generalize hK:Ej bs m=K at *
 refine AV (args:=[(qz (jk b) m c)]) func124 O O (leB O) (zI (sL [0] O) (q4 (al HM O λb1=>oNl' (q2 (AK O (CQ call87 (λw hw=>RJ _ m c bs hbs Z Z Z w (hw.old jX hb)) O (zN (k:=10) (u:=(qz (jk b) K c)) O (by rw [hK]) (asg' O (q6 (sL [0,2] O) (q4 ?_))))))))))
 refine AK O (st' (v:=(vN K)) (AD O underlying169) O (st' (FB (c:=(decide (K<=2))) O O (UP (a:=K) (b:=2))) O (oNl' (zB (sL [0,2,13] O) (zA ?_)))))
 refine zK O (λhc0=>?_) (λhc0=>?_)
 ·replace hc0:=xR hc0
  refine q4 (asg' O (oNl' (q1 (q4 (AK O (st' (v:=(vN K)) (AD O underlying169) O (AK O (oNl' (zA (zM ?_))))))))))
  refine yC (tg λ(i:Nat) (n:Nat)=>i<=K/\n=val (bs.take i)) (tg λ(i:Nat) (n:Nat)=>[(0,(qz (jk b) K c)),(2,(pP b1 0)),(14,(qz (jk b) K c)),(15,(vN K)),(16,(vN i)),(3,(vK .u64 n))]) (tg λ(i:Nat) (n:Nat)=>[AO b1 54 (AW 0)]) (tg λ(i:Nat) (n:Nat)=>K-i) 0 0 (⟨xH _,by simp [val]⟩) (sF O) sr (λi n hJ=>?_)
  obtain ⟨hi,hn⟩:=hJ
  refine q4 (st' (Aa (c:=(decide (i<K))) O O (DE (a:=i) (b:=K))) O (oNl' (q1 ?_)))
  refine zK O (λhc1=>?_) (λhc1=>?_)
  ·replace hc1:=xR hc1
   refine zG (q1 (zM (q4 (AK O (st' (v:=(pP b i)) (AH (j:=i) O O underlying169 sizeOf27 O Z jX) O ?_)))))
   have hx1:bs.getD i 0<4294967296:=W32.getD hbs i
   refine st' (Bf (v:=(vK .u32 (bs.getD i 0))) O (λw' hw=>CA.at0 (hw.oldCA jX (Fe hb)) (BM (xs:=bs) (j:=i) Z)) isAgg27) O (asg' O (asg' O (oNl' (zB (sL [0,2,14,15,16,3,4,5] O) (zA (zH (AK O (AK O (st' (Al (c:=((bs.getD i 0:Nat):Int)) O underlying27 underlying52 (BW Z)) O (AK O ?_))))))))))
   have hiK:i<K:=hc1
   have hi2:i<2:=by omega
   have hn2:n<4294967296^i:=by rw [hn];exact Nat.lt_of_lt_of_le (H4 (hbs.take i)) (Nat.pow_le_pow_right Z (by simp;omega))
   have hsh:=Xl (i:=i) (hbs.getD i) hi2
   have hn3:n<18446744073709551616:=U9 hn2 hi2
   refine st' (B5 (c:=((32*i:Nat):Int)) O O (DT (a:=32) (b:=i) Z)) O (st' (v:=(vK .u64 (bs.getD i 0*2^(32*i)))) (Hj (s:=32*i) O O O (show 32*i<=64 by omega) (Hx hsh)) O (st' (KN (c:=((n+bs.getD i 0*2^(32*i):Nat):Int)) O O (K6 hn3 hsh (Il (by rw [<-bV];exact hn2)))) O (asg' O (oNl' (zB (sL [0,2,14,15,16,3] O) (zJ (zA (zH (st' (AX (c:=((i+1:Nat):Int)) O O (AU (a:=i) (b:=1) Z)) O (AK O (oNl' ?_)))))))))))
   exact zB (sL [0,2,14,15,16,3] O) (zi (i+1) (n+bs.getD i 0*2^(32*i)) (⟨Z,by rw [Bj,<-hn,bV]⟩) Z (sF O) sr)
  ·replace hc1:=xQ hc1
   refine zW (zO (zh (zR (q2 (AK O ?_)))))
   have hnn:n=val (bs.take K):=by rw [hn,show i=K by omega]
   have hv2:val (bs.take m)<18446744073709551616:=by rw [<-hval];exact Nat.lt_of_lt_of_le (H4 (hbs.take K)) (by rw [List.length_take];exact xK (Nat.pow_le_pow_right (n:=4294967296) Z (show min K bs.length<=2 by omega)) jY)
   exact st' (v:=(aG ([(vK .u64 n),(Value.string (Bw 0))]))) (AS (zs:=AW 0) (vs:=[(vK .u64 n),(Value.string (Bw 0))]) (pv:=[(0,(vK .u64 n))]) (places:=[(0,1),(1,1)]) zeroValue54 underlying54 (λw=>by simp [sizeOf9,sizeOf52]) O O) O (zN (k:=30) (u:=(aG (AW (val (bs.take m))))) O (by rw [Ed hv2,<-hval,<-hnn];rfl) (An O sizeOf54 O (oNl' (zB (sL [0,2,14,15,16,3] O) (zA (zF (zL (ret_one O (Ab (i:=0) (cs:=AW (val (bs.take m))) O O isAgg54 sizeOf54 O) (λw hw=>⟨rfl,hw.out⟩)))))))))
 ·replace hc0:=xQ hc0
  refine zG (q2 (AK O (st' (v:=(vN K)) (AD O underlying169) O (st' (B5 (c:=((4*K:Nat):Int)) O O (DT (a:=4) (b:=K) Z)) O (zZ (V:=λb2=>(qz (jk b2) 0 (4*K))) (T:=5) (cs:=Kr (List.replicate (4*K) 0)) (AG O) (Rr (m:=0) (c:=4*K) O O Z Z) O (leB O) λb2=>asg' O (q6 (sL [0,2,6] O) (q4 (AK O (st' (v:=(vN K)) (AD O underlying169) O (AK O ?_))))))))))
  refine oNl' (zA (zM ?_))
  refine yC (tg λ(i:Nat) (bz:List Nat)=>i<=K/\bz=bytesN (bs.take i)++List.replicate (4*(K-i)) 0) (tg λ(i:Nat) (bz:List Nat)=>[(2,(pP b1 0)),(35,(qz (jk b) K c)),(36,(vN K)),(37,(vN i)),(6,(qz (jk b2) (4*i) (4*K)))]) (tg λ(i:Nat) (bz:List Nat)=>[AO b2 5 (Kr bz),AO b1 54 (AW 0)]) (tg λ(i:Nat) (bz:List Nat)=>K-i) 0 (List.replicate (4*K) 0) (⟨xH _,by simp [bytesN]⟩) (sF O) sr (λi bz hJ=>?_)
  obtain ⟨hi,hz⟩:=hJ
  refine q4 (st' (Aa (c:=(decide (i<K))) O O (DE (a:=i) (b:=K))) O (oNl' (q1 ?_)))
  refine zK O (λhc2=>?_) (λhc2=>?_)
  ·replace hc2:=xR hc2
   refine zG (q1 (zM (q4 (st' (v:=(pP b i)) (AH (j:=i) O O underlying169 sizeOf27 O Z jX) O ?_))))
   have hx2:bs.getD i 0<4294967296:=W32.getD hbs i
   refine st' (Bf (v:=(vK .u32 (bs.getD i 0))) O (λw' hw=>CA.at0 (hw.oldCA jX (Fe hb)) (BM (xs:=bs) (j:=i) Z)) isAgg27) O (asg' O (oNl' (zB (sL [2,35,36,37,6,8] O) (zA (zH (AK O (AK O (st' (Al (c:=(((bs.getD i 0)%256:Nat):Int)) O underlying27 underlying5 K3) O (AK O (st' (DZ (s:=8) (c:=(((bs.getD i 0)/256:Nat):Int)) O O O jY (HL (a:=bs.getD i 0) (s:=8))) O (st' (Al (c:=((((bs.getD i 0)/256)%256:Nat):Int)) O underlying27 underlying5 K3) O ?_)))))))))))
   refine AK O (st' (DZ (s:=16) (c:=(((bs.getD i 0)/65536:Nat):Int)) O O O jY (HL (a:=bs.getD i 0) (s:=16))) O (st' (Al (c:=((((bs.getD i 0)/65536)%256:Nat):Int)) O underlying27 underlying5 K3) O (AK O (st' (DZ (s:=24) (c:=(((bs.getD i 0)/16777216:Nat):Int)) O O O jY (HL (a:=bs.getD i 0) (s:=24))) O (st' (Al (c:=((((bs.getD i 0)/16777216)%256:Nat):Int)) O underlying27 underlying5 K3) O (zZ (V:=λb3=>(qz (jk b3) 4 4)) (T:=5) (cs:=Kr ([(bs.getD i 0)%256,((bs.getD i 0)/256)%256,((bs.getD i 0)/65536)%256,((bs.getD i 0)/16777216)%256])) (AG O) (Ai (cs:=Kr ([(bs.getD i 0)%256,((bs.getD i 0)/256)%256,((bs.getD i 0)/65536)%256,((bs.getD i 0)/16777216)%256])) (pv:=[(0,(vK .u8 ((bs.getD i 0)%256))),(1,(vK .u8 (((bs.getD i 0)/256)%256))),(2,(vK .u8 (((bs.getD i 0)/65536)%256))),(3,(vK .u8 (((bs.getD i 0)/16777216)%256)))]) underlying45 sizeOf5 zeroValue5 jY jY O jV) O (leB O) λb3=>?_))))))
   obtain ⟨bz2,hz2,hlay⟩:∃bz2,bz2=bytesN (bs.take (i+1))++List.replicate (4*(K-(i+1))) 0/\I7 (Kr bz) (4*i) (Kr ([(bs.getD i 0)%256,((bs.getD i 0)/256)%256,((bs.getD i 0)/65536)%256,((bs.getD i 0)/16777216)%256]))=Kr bz2:=⟨_,rfl,by rw [hz];exact RC hc2 Z⟩
   exact AP.append_u8 (i:=1) (j:=0) (m:=4*i) (c:=4*K) (k:=4) (cs':=Kr bz2) (L':=[AO b3 5 (Kr ([(bs.getD i 0)%256,((bs.getD i 0)/256)%256,((bs.getD i 0)/65536)%256,((bs.getD i 0)/16777216)%256])),AO b2 5 (Kr bz2),AO b1 54 (AW 0)]) O (AG O) O O O O O O Z (by rw [Ir,hz];simp [CP];omega) hlay O (leB O) (asg' O (oNl' (zB (sL [2,35,36,37,6] O) (zJ (zA (zH (st' (AX (c:=((i+1:Nat):Int)) O O (AU (a:=i) (b:=1) Z)) O (AK O (oNl' (zB (sL [2,35,36,37,6] O) (zi (i+1) bz2 (⟨Z,hz2⟩) Z (sF O) (sl sr))))))))))))
  ·replace hc2:=xQ hc2
   refine zW (zO (zh (zR (q2 (AK O ?_)))))
   have hbl:bz.length=4*i:=by rw [hz,xJ,CP,List.length_take,List.length_replicate];omega
   have htk:(Kr bz).take (4*i)=Kr bz:=List.take_of_length_le (by rw [Ir];omega)
   refine st' (v:=(Value.string (EA bz))) (Kg (i:=0) (m:=4*i) (ns:=bz) O O htk hbl) O ?_
   have hv3:¬val (bs.take m)<18446744073709551616:=λh=>by have:=JF h;omega
   have hbz:bz=bytesN (bs.take K):=by rw [hz,show i=K by omega];simp
   exact st' (v:=(aG ([(vK .u64 (CM 0)),(Value.string (EA bz))]))) (AS (zs:=AW 0) (vs:=[(vK .u64 (CM 0)),(Value.string (EA bz))]) (pv:=[(1,(Value.string (EA bz)))]) (places:=[(0,1),(1,1)]) zeroValue54 underlying54 (λw=>by simp [sizeOf9,sizeOf52]) O O) O (zN (k:=58) (u:=(aG (AW (val (bs.take m))))) O (by rw [Wy hv3,hwd,<-hbz];rfl) (DK O sizeOf54 O (oNl' (zB (sL [2,35,36,37,6] O) (zA (zF (ret_one O (Ab (i:=1) (cs:=AW (val (bs.take m))) O O isAgg54 sizeOf54 O) (λw hw=>⟨rfl,hw.out⟩))))))))
end
section
def Dv (a b:Nat):Int:=if a<b then -1 else if a=b then 0 else 1
theorem GG {a b:Nat}:Dv a b<0↔a<b:=by
  unfold Dv;split
  · omega
  · split<;>omega
theorem OK {a b:Nat}:Dv a b=0↔a=b:=by
  unfold Dv;split
  · omega
  · split<;>omega
theorem Y0 {a b:Nat} (h:nw a≠nw b):((nw a:Int)-(nw b:Int)).sign=Dv a b:=by
  unfold Dv
  by_cases h1:nw a<nw b
  · have h2:a<b:=by
      rcases Nat.lt_or_ge a b with h2|h2
      · exact h2
      · have:=DA h2;omega
    rw [if_pos h2,Int.sign_eq_neg_one_of_neg Z]
  · have h2:b<a:=by
      rcases Nat.lt_or_ge b a with h2|h2
      · exact h2
      · have:=DA h2;omega
    rw [if_neg Z,if_neg Z,Int.sign_eq_one_of_pos Z]
theorem V5 {xs ys:List Nat} {k:Nat} (hx:W32 xs) (hl:xs.length=ys.length) (h0:0<k) (hk:k<=xs.length) (hd:xs.drop k=ys.drop k) (h:xs.getD (k-1) 0<ys.getD (k-1) 0):val xs<val ys:=by
  have e1:=Fx xs k hk
  have e2:=Fx ys k Z
  have s1:=Bj xs (k-1)
  have s2:=Bj ys (k-1)
  rw [show k-1+1=k by omega] at s1 s2
  have h1:val (xs.take (k-1))<4294967296^(k-1):=Nat.lt_of_lt_of_le (H4 (hx.take (k-1))) (Nat.pow_le_pow_right Z (by simp;omega))
  have h2:(xs.getD (k-1) 0+1)*4294967296^(k-1)<=ys.getD (k-1) 0*4294967296^(k-1):=Nat.mul_le_mul_right _ h
  rw [Nat.add_mul] at h2
  rw [hd] at e1
  omega
theorem UA {xs ys:List Nat} {k:Nat} (hl:xs.length=ys.length) (h0:0<k) (hk:k<=xs.length) (hd:xs.drop k=ys.drop k) (h:xs.getD (k-1) 0=ys.getD (k-1) 0):xs.drop (k-1)=ys.drop (k-1):=by
  have h1:k-1<xs.length:=by omega
  have h2:k-1<ys.length:=by omega
  rw [List.drop_eq_getElem_cons h1,List.drop_eq_getElem_cons h2,show k-1+1=k by omega,hd]
  simp [h1,h2] at h
  rw [h]
theorem Tw {a b k:Nat} (hl:nw a=nw b) (h0:0<k) (hk:k<=nw a) (hd:(AL a).drop k=(AL b).drop k) (hne:(AL a).getD (k-1) 0≠(AL b).getD (k-1) 0) :
    Dv a b=if (AL a).getD (k-1) 0<(AL b).getD (k-1) 0 then -1 else 1:=by
  unfold Dv
  split
  · rename_i h
    rw [if_pos]
    rcases Nat.lt_or_ge ((AL a).getD (k-1) 0) ((AL b).getD (k-1) 0) with h1|h1
    · exact h1
    · have:=V5 (B7 b) hl.symm h0 (by unfold nw at *;omega) hd.symm (show (AL b).getD (k-1) 0<(AL a).getD (k-1) 0 by omega)
      rw [C6,C6] at this;omega
  · rename_i h
    have h2:¬(AL a).getD (k-1) 0<(AL b).getD (k-1) 0:=λh1=>by
      have:=V5 (B7 a) hl h0 hk hd h1
      rw [C6,C6] at this;omega
    rw [if_neg h2,if_neg]
    intro e;subst e;exact hne rfl
theorem V6 {a b:Nat} (hd:(AL a).drop 0=(AL b).drop 0):Dv a b=0:=by
  rw [OK]
  rw [List.drop_zero,List.drop_zero] at hd
  rw [<-C6 a,<-C6 b,hd]
theorem D8 {v i:Nat} (h:i<nw v):(Ax v).getD i 0=(AL v).getD i 0:=by
  rw [<-JJ v]
  simp [List.getD_eq_getElem?_getD,List.getElem?_take,h]
theorem Fj {v i:Nat} (h:¬i<nw v):(AL v).getD i 0=0:=by
  unfold nw at h;simp [List.getD_eq_getElem?_getD,Nat.not_lt.1 h]
theorem EC {v i:Nat} (h:nw v<=i):val ((AL v).take i)=v:=by
  rw [List.take_of_length_le h,C6]
theorem Z5 (v:Nat):(Ax v).length<=nw v+2:=by
  unfold Ax;split
  · simp
  · unfold nw;omega
theorem Jb (v:Nat):val ((Ax v).take (nw v))=v:=by rw [JJ,C6]
theorem PV {os ys:List Nat} {X i n c:Nat} (hl:os.length=n) (hi:i<n) (hv:val os+c*4294967296^i=X+val (ys.take i)) :
    val (os.set i ((os.getD i 0+ys.getD i 0+c)%4294967296))+(os.getD i 0+ys.getD i 0+c)/4294967296*4294967296^(i+1)=X+val (ys.take (i+1)):=by
  have e:=GM (xs:=os) (i:=i) Z ((os.getD i 0+ys.getD i 0+c)%4294967296)
  have t:=Bj ys i
  have hm:=Nat.div_add_mod (os.getD i 0+ys.getD i 0+c) 4294967296
  rw [Nat.pow_succ]
  generalize os.getD i 0=o at *
  generalize ys.getD i 0=y at *
  generalize (o+y+c)/4294967296=q at *
  generalize (o+y+c)%4294967296=r at *
  generalize 4294967296^i=p at *
  have hm2:(4294967296*q+r)*p=(o+y+c)*p:=by rw [hm]
  grind
theorem PU {os:List Nat} {X Y n c i:Nat} (hl:os.length=n) (hw:W32 os) (hi:n<=i) (hX:X+Y<4294967296^n) (hv:val os+c*4294967296^i=X+Y):val os=X+Y:=by
  have h1:4294967296^n<=4294967296^i:=Nat.pow_le_pow_right Z hi
  rcases Nat.eq_zero_or_pos c with h|h
  · subst h;omega
  · have:1*4294967296^i<=c*4294967296^i:=Nat.mul_le_mul_right _ h
    omega
theorem X1 {os ys:List Nat} {X i n c:Nat} (hl:os.length=n) (hi:i<n) (hw:W32 os) (hy:W32 ys) (hc:c<=1) (hv:val os+val (ys.take i)=X+c*4294967296^i) :
    val (os.set i ((os.getD i 0+(4294967296-ys.getD i 0)+(4294967296-c))%4294967296))+val (ys.take (i+1))=X+KG (os.getD i 0) (ys.getD i 0+c)*4294967296^(i+1):=by
  have e:=GM (xs:=os) (i:=i) Z ((os.getD i 0+(4294967296-ys.getD i 0)+(4294967296-c))%4294967296)
  have t:=Bj ys i
  have ho:=hw.getD i
  have hy':=hy.getD i
  rw [Nat.pow_succ]
  have hm:(os.getD i 0+(4294967296-ys.getD i 0)+(4294967296-c))%4294967296+ys.getD i 0+c=os.getD i 0+KG (os.getD i 0) (ys.getD i 0+c)*4294967296:=by
    unfold KG;split<;>omega
  generalize (os.getD i 0+(4294967296-ys.getD i 0)+(4294967296-c))%4294967296=r at *
  generalize KG (os.getD i 0) (ys.getD i 0+c)=q at *
  generalize os.getD i 0=o at *
  generalize ys.getD i 0=y at *
  generalize 4294967296^i=p at *
  have hm2:(r+y+c)*p=(o+q*4294967296)*p:=by rw [hm]
  grind
theorem X0 {os:List Nat} {X Y n c i:Nat} (hl:os.length=n) (hw:W32 os) (hi:i=n) (hX:Y<=X) (hv:val os+Y=X+c*4294967296^i) (hX2:X<4294967296^n):val os=X-Y:=by
  have h1:=H4 hw
  rw [hl] at h1
  subst hi
  rcases Nat.eq_zero_or_pos c with h|h
  · subst h;omega
  · have:1*4294967296^i<=c*4294967296^i:=Nat.mul_le_mul_right _ h
    omega
theorem RB (x y:Nat):KG x y<=1:=by unfold KG;split<;>omega
theorem Ws {os ys:List Nat} {S W i k n c:Nat} (hl:os.length=n) (hi:i+k<n) (hv:val os+c*4294967296^(i+k)=S+W*val (ys.take k)*4294967296^i) :
    val (os.set (i+k) ((c+(W*ys.getD k 0+os.getD (i+k) 0))%4294967296))+(c+(W*ys.getD k 0+os.getD (i+k) 0))/4294967296*4294967296^(i+(k+1))=S+W*val (ys.take (k+1))*4294967296^i:=by
  have e:=GM (xs:=os) (i:=i+k) Z ((c+(W*ys.getD k 0+os.getD (i+k) 0))%4294967296)
  have t:=Bj ys k
  have hm:=Nat.div_add_mod (c+(W*ys.getD k 0+os.getD (i+k) 0)) 4294967296
  rw [t,show i+(k+1)=i+k+1 by omega,Nat.pow_succ]
  rw [Nat.pow_add] at *
  generalize os.getD (i+k) 0=o at *
  generalize ys.getD k 0=y at *
  generalize (c+(W*y+o))/4294967296=q at *
  generalize (c+(W*y+o))%4294967296=r at *
  generalize 4294967296^i=p at *
  generalize 4294967296^k=p' at *
  generalize val (ys.take k)=vy at *
  have hm2:(4294967296*q+r)*(p*p')=(c+(W*y+o))*(p*p'):=by rw [hm]
  grind
section
variable {n:Nat} {F:List (Nat×Value)} {w0:Ay} {L:List As} {v:Value} {x y:Operand} {d:Option Tmp} {t:TypeId} {p:String} {af:Array Edge} {g:Option (Nat×Bool)}
theorem yv {ops:Array Oper} {rest:List Oper} {Q:Exit->Act->World->Prop} {L':List As} {i j b b' m c k c' dd:Nat} {cs ds ns cs':List Value} {o:Oper} (ho:o=⟨some dd,.call { callee:=.builtin .copy,args:=#[x,y],argTypes:=#[169,169] },t,p,af,g⟩) (hw:Wt ops n F o)
    (hx:evF F x=some (.slice (jk b) m c)) (hy:evF F y=some (.slice (some ⟨b',0,none⟩) k c')) (hi:L[i]?=some (AO b 27 cs)) (hj:L[j]?=some (AO b' 27 ds)) (hns:ds.take k=ns) (hnl:ns.length=k) (h1:(ns.all λu=>u.oneCell')=true) (hkm:k<=m) (hfit:k<=cs.length)
    (hcs:I7 cs 0 ns=cs') (hL:L.set i (AO b 27 cs')=L') (hd:dd<n) (next:AP prog ops rest Q n ((dd,.int .i64 k)::F) w0 L'):AP prog ops (o::rest) Q n F w0 L:=λa w ha hW=>by
  subst ho;subst hcs;subst hL
  unfold wpList
  rw [if_pos (hw a ha)]
  left
  have hca:=Fs (off:=0) (k:=k) (hW.get hj)
  rw [List.drop_zero,hns] at hca
  have hr:=run_copy_row (P:=prog) w 169 169 t 27 b 0 m c ⟨b',0,none⟩ k c' cs.toArray 27 ns underlying169 jV (hW.get hi) (by rw [hnl];exact (Nat.min_eq_left hkm).symm) (λq u hu=>by rw [Addr.add_lit];exact hca q u hu) (by simp;omega) (λu hu=>List.all_eq_true.1 h1 u hu)
  unfold Oper.wp
  have he:(execOp a.eval ⟨some dd,.call { callee:=.builtin .copy,args:=#[x,y],argTypes:=#[169,169] },t,p,af,g⟩).run prog w=.ok (.value (.int .i64 k)) (w.setRow b (I7 cs 0 ns).toArray):=by
    simp only [execOp,resolve,invoke,builtin,Sem.run_bind,Sem.run_pure,Result.andThen_ok,List.map_toArray,List.map_cons,List.map_nil,ha.ev hx,ha.ev hy,hr,I7,hnl,goInt]
  rw [he,Oper.upon_value]
  have hg:=hW.get hi
  exact next _ _ (ha.put hd) (hW.turn hi O O ⟨⟨rfl,rfl,rfl,by simp,λq _ hq=>setRow_other w b q _ (λe=>hq (by simp [e]))⟩,Nat.le_refl _⟩ ⟨_,setRow_heap w b cs.toArray _ 27 _ hg,rfl⟩)
end
theorem X2 {a b:Nat} (h:nw b<=nw a):a+b<4294967296^(nw a+1):=by
  have h1:=Bt a
  have h2:b<4294967296^nw a:=Cp.1 h
  rw [Nat.pow_succ];omega
theorem GY (v k:Nat):(AL v++(List.replicate (nw v+k) 0).drop (AL v).length).length=nw v+k/\W32 (AL v++(List.replicate (nw v+k) 0).drop (AL v).length)/\val (AL v++(List.replicate (nw v+k) 0).drop (AL v).length)=v:=by
  have e:(List.replicate (nw v+k) 0).drop (AL v).length=List.replicate k 0:=by rw [List.drop_replicate];congr 1;unfold nw;omega
  rw [e]
  refine ⟨by simp [nw],(B7 v).append (W32.zeros k),?_⟩
  rw [Mt,C6,FG];omega
theorem JC {os:List Nat} {p c n:Nat} (hl:os.length=n) (hp:p<n) (h0:os.getD p 0=0):val (os.set p c)=val os+c*4294967296^p:=by
  have e:=GM (xs:=os) (i:=p) Z c
  rw [h0] at e;omega
theorem ST {os:List Nat} {a b i:Nat} (hv:val os=val ((AL a).take i)*b):∀j,i+nw b<=j->os.getD j 0=0:=λj hj=>by
  refine HR (m:=i+nw b) ?_ hj
  rw [hv,Nat.pow_add]
  refine Nat.mul_lt_mul'' (Nat.lt_of_lt_of_le (H4 ((B7 a).take i)) (Nat.pow_le_pow_right Z (by simp;omega))) (Bt b)
theorem Gg {os:List Nat} {p q v:Nat} (h:∀j,p<=j->os.getD j 0=0) (hq:q<p):∀j,p<=j->(os.set q v).getD j 0=0:=λj hj=>by
  rw [List.getD_eq_getElem?_getD,List.getElem?_set_ne Z,<-List.getD_eq_getElem?_getD]
  exact h j hj
theorem Zs {a b i:Nat}:val ((AL a).take i)*b+(AL a).getD i 0*b*4294967296^i=val ((AL a).take (i+1))*b:=by
  rw [Bj];grind
theorem dm {x y:Nat} (hx:x<18446744073709551616) (hy:y<18446744073709551616):val [x%4294967296,x/4294967296,y%4294967296,y/4294967296]=x+y*18446744073709551616:=by
  simp only [val];omega
theorem Qh (xs:List Nat):((Ap xs).all λu=>u.oneCell')=true:=List.all_eq_true.2 (YG xs)
theorem N7 (xs:List Nat) (k:Nat):(Ap xs).take k=Ap (xs.take k):=by simp [Ap,List.map_take]
theorem Qi (xs ns:List Nat):I7 (Ap xs) 0 (Ap ns)=Ap (ns++xs.drop ns.length):=by simp [I7,Ap,List.map_drop]
end
section
set_option maxRecDepth 100000
theorem bv (a b p q c c2:Nat) (ha:nw a<=1099511627776) (hb:nw b<=1099511627776) (w:World) (hp:w.heap[p]?=some (.cells (Ap (Ax a)).toArray 27 (0,0))) (hq:w.heap[q]?=some (.cells (Ap (Ax b)).toArray 27 (0,0))):Calls prog 196 #[(qz (jk p) (nw a) c),(qz (jk q) (nw b) c2)] w (Ac w (vI (Dv a b))):=by
 have hla:=Cd a
 have hlb:=Cd b
 refine AV (args:=[(qz (jk p) (nw a) c),(qz (jk q) (nw b) c2)]) func196 O O (leB O) (zI (sL [0,1] O) (q4 (asg' O (oNl' (q1 (q4 (AK O (st' (v:=(vN (nw a))) (AD O underlying169) O (AK O (st' (v:=(vN (nw b))) (AD O underlying169) O (st' (DH (c:=(decide ((nw a)≠(nw b)))) O O (eo (a:=nw a) (b:=nw b))) O ?_)))))))))))
 refine oNl' (zB (sL [0,1,4,10] O) (zA ?_))
 refine zK O (λhc0=>?_) (λhc0=>?_)
 ·replace hc0:=xR hc0
  refine q4 (AK O (st' (v:=(vN (nw a))) (AD O underlying169) O (AK O (st' (v:=(vN (nw b))) (AD O underlying169) O (st' (BY (c:=((nw a:Int)-(nw b:Int))) O O (A6 Z Z)) O (ck' call210 (ah _ Z Z) O (zN (k:=16) (u:=(vI (Dv a b))) O (by rw [Y0 hc0]) (asg' O (oNl' (zB (sL [0,1,4] O) (zA ?_)))))))))))
  exact zF (zL (ret_one O (rd_tmp (v:=(vI (Dv a b))) O) (λw hw=>⟨rfl,hw.out⟩)))
 ·replace hc0:=xQ hc0
  refine zG (q1 (q4 (AK O (st' (v:=(vN (nw a))) (AD O underlying169) O (st' (BY (c:=(((nw a:Nat):Int)-1)) O O (A6 Z Z)) O (asg' O (oNl' (zB (sL [0,1,4,5] O) (zA (zM ?_))))))))))
  refine yW (tg λ(k:Nat)=>k<=nw a/\(AL a).drop k=(AL b).drop k) (tg λ(k:Nat)=>[(0,(qz (jk p) (nw a) c)),(1,(qz (jk q) (nw b) c2)),(5,(vI (((k:Nat):Int)-1)))]) (tg λ(k:Nat)=>[]) (tg λ(k:Nat)=>k) (nw a) (⟨Nat.le_refl _,by rw [List.drop_of_length_le (by exact Nat.le_refl _),List.drop_of_length_le (by unfold nw at *;omega)]⟩) (sF O) sr (λk hJ=>?_)
  obtain ⟨hk,hd⟩:=hJ
  refine zS (q4 (AK O (st' (Cy (c:=(decide ((0:Int)<=(((k:Nat):Int)-1)))) O O O) O (oNl' (zB (sL [0,1,5,21] O) (zA ?_))))))
  refine zK O (λhc1=>?_) (λhc1=>?_)
  ·replace hc1:=xR hc1
   have hk0:0<k:=by omega
   refine yH (k:=5) (u:=(vN (k-1))) O (by congr 1;omega) (zG (q1 (zM (zS (B9 (EV 9) sr ?_)))))
   have ea:(Ax a).getD (k-1) 0=(AL a).getD (k-1) 0:=D8 Z
   have eb:(Ax b).getD (k-1) 0=(AL b).getD (k-1) 0:=D8 Z
   refine Bi O (Bi O (Am (v:=(pP p (k-1))) O (AH (j:=k-1) O O underlying169 sizeOf27 O Z jX) ?_))
   have hx1:(Ax a).getD (k-1) 0<4294967296:=W32.getD (Ci a) (k-1)
   refine Am O (Bf (v:=(vK .u32 ((Ax a).getD (k-1) 0))) O (λw' hw=>CA.at0 (hw.oldCA jX (Fe hp)) (BM (xs:=Ax a) (j:=(k-1)) Z)) isAgg27) (Bi O (Bi O (Am (v:=(pP q (k-1))) O (AH (j:=k-1) O O underlying169 sizeOf27 O Z jX) ?_)))
   have hx2:(Ax b).getD (k-1) 0<4294967296:=W32.getD (Ci b) (k-1)
   refine Am O (Bf (v:=(vK .u32 ((Ax b).getD (k-1) 0))) O (λw' hw=>CA.at0 (hw.oldCA jX (Fe hq)) (BM (xs:=Ax b) (j:=(k-1)) Z)) isAgg27) (Am O (DH (c:=(decide (((Ax a).getD (k-1) 0)≠((Ax b).getD (k-1) 0)))) O O (eo (a:=(Ax a).getD (k-1) 0) (b:=(Ax b).getD (k-1) 0))) (zP (zB (sL [0,1,5,32] O) (zA ?_))))
   refine zK O (λhc2=>?_) (λhc2=>?_)
   ·replace hc2:=xR hc2
    have hcw:=Tw Z hk0 hk hd Z
    refine zS (zS (B9 (EV 9) sr (Bi O (Bi O (Am (v:=(pP p (k-1))) O (AH (j:=k-1) O O underlying169 sizeOf27 O Z jX) ?_)))))
    have hx3:(Ax a).getD (k-1) 0<4294967296:=W32.getD (Ci a) (k-1)
    refine Am O (Bf (v:=(vK .u32 ((Ax a).getD (k-1) 0))) O (λw' hw=>CA.at0 (hw.oldCA jX (Fe hp)) (BM (xs:=Ax a) (j:=(k-1)) Z)) isAgg27) (Bi O (Bi O (Am (v:=(pP q (k-1))) O (AH (j:=k-1) O O underlying169 sizeOf27 O Z jX) ?_)))
    have hx4:(Ax b).getD (k-1) 0<4294967296:=W32.getD (Ci b) (k-1)
    refine Am O (Bf (v:=(vK .u32 ((Ax b).getD (k-1) 0))) O (λw' hw=>CA.at0 (hw.oldCA jX (Fe hq)) (BM (xs:=Ax b) (j:=(k-1)) Z)) isAgg27) (Am O (Aa (c:=(decide (((Ax a).getD (k-1) 0)<((Ax b).getD (k-1) 0)))) O O (DE (a:=(Ax a).getD (k-1) 0) (b:=(Ax b).getD (k-1) 0))) (zP (zB (sL [0,1,5,41] O) (zA ?_))))
    refine zK O (λhc3=>?_) (λhc3=>?_)
    ·replace hc3:=xR hc3
     rw [if_pos Z] at hcw
     exact q4 (asg' O (oNl' (zA (zF (zL (zV (zL (yG (zV (zL (ret_one O (rd_tmp (v:=(vI (-1:Int))) O) (λw hw=>⟨by rw [hcw],hw.out⟩))))))))))))
    ·replace hc3:=xQ hc3
     rw [if_neg Z] at hcw
     exact zG (q2 (asg' O (oNl' (zA (zF (zV (zL (yG (zV (zL (ret_one O (rd_tmp (v:=(vI 1)) O) (λw hw=>⟨by rw [hcw],hw.out⟩))))))))))))
   ·replace hc2:=xQ hc2
    exact zG (zJ (zA (zH (AK O (st' (BY (c:=(((k-1:Nat):Int)-1)) O O (A6 Z Z)) O (asg' O (oNl' (zB (sL [0,1,5] O) (yJ (k-1) (⟨Z,UA (by unfold nw at hc0;omega) Z hk hd Z⟩) Z (sF O) sr)))))))))
  ·replace hc1:=xQ hc1
   have hk0:k=0:=by omega
   subst hk0
   have hz:=V6 hd
   exact zW (zO (zy (zR (q2 (asg' O (oNl' (zA (zF (ret_one O (rd_tmp (v:=(vI 0)) O) (λw hw=>⟨by rw [hz],hw.out⟩))))))))))
end
end Go.Proofs.YtcpkbjjmcleplaaGreatDoor
