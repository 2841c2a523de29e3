import Derived.Test.YtcpkbjjmcleplaaGreatDoorPart09
namespace Go.Proofs.YtcpkbjjmcleplaaGreatDoor
open Go Go.RowKit Go.Proofs.Tryz
open Go.Value renaming slice→qz,bool→qa
set_option linter.unusedVariables false
set_option linter.unusedSimpArgs false
section
set_option maxRecDepth 100000
theorem Jv (b m c:Nat) (bs:List Nat) (hbs:W32 bs) (hm:m<=bs.length) (hc:m<=c) (hL:c<4398046511104) (w:World) (hb:w.heap[b]?=some (.cells (Ak bs).toArray 27 (0,0))):Calls prog 124 #[(qz (jk b) m c)] w (AY w (aG (AT (val (bs.take m))))):=by
 have hle:=KJ bs m
 have hval:=Lx bs m
 have hwd:=Jd hbs hm
 have hnw:=Qc hbs hm
 generalize hK:ED bs m=K at *
 refine AS (args:=[(qz (jk b) m c)]) func124 O O (leB O) (zG (sL [0] O) (q4 (al Gt O λb1=>oNl' (q2 (AL O (CC call87 (λw hw=>QH _ m c bs hbs Z Z Z w (hw.old jX hb)) O (zJ (k:=10) (u:=(qz (jk b) K c)) O (by rw [hK]) (asg' O (q6 (sL [0,2] O) (q4 ?_))))))))))
 refine AL O (st' (v:=(vN K)) (AD O underlying169) O (st' (D6 (c:=(decide (K<=2))) O O (Rp (a:=K) (b:=2))) O (oNl' (zB (sL [0,2,13] O) (zA ?_)))))
 refine zK O (λhc0=>?_) (λhc0=>?_)
 ·replace hc0:=xR hc0
  refine q4 (asg' O (oNl' (q1 (q4 (AL O (st' (v:=(vN K)) (AD O underlying169) O (AL O (oNl' (zA (zN ?_))))))))))
  refine yE (tg λ(i:Nat) (n:Nat)=>i<=K/\n=val (bs.take i)) (tg λ(i:Nat) (n:Nat)=>[(0,(qz (jk b) K c)),(2,(pP b1 0)),(14,(qz (jk b) K c)),(15,(vN K)),(16,(vN i)),(3,(vK .u64 n))]) (tg λ(i:Nat) (n:Nat)=>[AQ b1 54 (AT 0)]) (tg λ(i:Nat) (n:Nat)=>K-i) 0 0 (⟨xH _,by simp [val]⟩) (sF O) sr (λi n hJ=>?_)
  obtain ⟨hi,hn⟩:=hJ
  refine q4 (st' (Ag (c:=(decide (i<K))) O O (DL (a:=i) (b:=K))) O (oNl' (q1 ?_)))
  refine zK O (λhc1=>?_) (λhc1=>?_)
  ·replace hc1:=xR hc1
   refine zI (q1 (zN (q4 (AL O (st' (v:=(pP b i)) (AG (j:=i) O O underlying169 sizeOf27 O Z jX) O ?_)))))
   have hx1:bs.getD i 0<4294967296:=W32.getD hbs i
   refine st' (Ba (v:=(vK .u32 (bs.getD i 0))) O (λw' hw=>CA.at0 (hw.oldCA jX (E3 hb)) (BC (xs:=bs) (j:=i) Z)) isAgg27) O (asg' O (asg' O (oNl' (zB (sL [0,2,14,15,16,3,4,5] O) (zA (zL (AL O (AL O (st' (An (c:=((bs.getD i 0:Nat):Int)) O underlying27 underlying52 (BO Z)) O (AL O ?_))))))))))
   have hiK:i<K:=hc1
   have hi2:i<2:=by omega
   have hn2:n<4294967296^i:=by rw [hn];exact Nat.lt_of_lt_of_le (Hd (hbs.take i)) (Nat.pow_le_pow_right Z (by simp;omega))
   have hsh:=WR (i:=i) (hbs.getD i) hi2
   have hn3:n<18446744073709551616:=Tq hn2 hi2
   refine st' (EO (c:=((32*i:Nat):Int)) O O (F_ (a:=32) (b:=i) Z)) O (st' (v:=(vK .u64 (bs.getD i 0*2^(32*i)))) (HH (s:=32*i) O O O (show 32*i<=64 by omega) (HX hsh)) O (st' (Jq (c:=((n+bs.getD i 0*2^(32*i):Nat):Int)) O O (KR hn3 hsh (IC (by rw [<-Zd];exact hn2)))) O (asg' O (oNl' (zB (sL [0,2,14,15,16,3] O) (zM (zA (zL (st' (Ad (c:=((i+1:Nat):Int)) O O (Ab (a:=i) (b:=1) Z)) O (AL O (oNl' ?_)))))))))))
   exact zB (sL [0,2,14,15,16,3] O) (zl (i+1) (n+bs.getD i 0*2^(32*i)) (⟨Z,by rw [Bd,<-hn,Zd]⟩) Z (sF O) sr)
  ·replace hc1:=xQ hc1
   refine zW (zO (zh (zR (q2 (AL O ?_)))))
   have hnn:n=val (bs.take K):=by rw [hn,show i=K by omega]
   have hv2:val (bs.take m)<18446744073709551616:=by rw [<-hval];exact Nat.lt_of_lt_of_le (Hd (hbs.take K)) (by rw [List.length_take];exact xK (Nat.pow_le_pow_right (n:=4294967296) Z (show min K bs.length<=2 by omega)) jY)
   exact st' (v:=(aG ([(vK .u64 n),(Value.string (Bp 0))]))) (AR (zs:=AT 0) (vs:=[(vK .u64 n),(Value.string (Bp 0))]) (pv:=[(0,(vK .u64 n))]) (places:=[(0,1),(1,1)]) zeroValue54 underlying54 (λw=>by simp [sizeOf9,sizeOf52]) O O) O (zJ (k:=30) (u:=(aG (AT (val (bs.take m))))) O (by rw [D7 hv2,<-hval,<-hnn];rfl) (Am O sizeOf54 O (oNl' (zB (sL [0,2,14,15,16,3] O) (zA (zF (zH (ret_one O (Aa (i:=0) (cs:=AT (val (bs.take m))) O O isAgg54 sizeOf54 O) (λw hw=>⟨rfl,hw.out⟩)))))))))
 ·replace hc0:=xQ hc0
  refine zI (q2 (AL O (st' (v:=(vN K)) (AD O underlying169) O (st' (EO (c:=((4*K:Nat):Int)) O O (F_ (a:=4) (b:=K) Z)) O (zf (V:=λb2=>(qz (jk b2) 0 (4*K))) (T:=5) (cs:=KE (List.replicate (4*K) 0)) (AJ O) (Qg (m:=0) (c:=4*K) O O Z Z) O (leB O) λb2=>asg' O (q6 (sL [0,2,6] O) (q4 (AL O (st' (v:=(vN K)) (AD O underlying169) O (AL O ?_))))))))))
  refine oNl' (zA (zN ?_))
  refine yE (tg λ(i:Nat) (bz:List Nat)=>i<=K/\bz=bytesN (bs.take i)++List.replicate (4*(K-i)) 0) (tg λ(i:Nat) (bz:List Nat)=>[(2,(pP b1 0)),(35,(qz (jk b) K c)),(36,(vN K)),(37,(vN i)),(6,(qz (jk b2) (4*i) (4*K)))]) (tg λ(i:Nat) (bz:List Nat)=>[AQ b2 5 (KE bz),AQ b1 54 (AT 0)]) (tg λ(i:Nat) (bz:List Nat)=>K-i) 0 (List.replicate (4*K) 0) (⟨xH _,by simp [bytesN]⟩) (sF O) sr (λi bz hJ=>?_)
  obtain ⟨hi,hz⟩:=hJ
  refine q4 (st' (Ag (c:=(decide (i<K))) O O (DL (a:=i) (b:=K))) O (oNl' (q1 ?_)))
  refine zK O (λhc2=>?_) (λhc2=>?_)
  ·replace hc2:=xR hc2
   refine zI (q1 (zN (q4 (st' (v:=(pP b i)) (AG (j:=i) O O underlying169 sizeOf27 O Z jX) O ?_))))
   have hx2:bs.getD i 0<4294967296:=W32.getD hbs i
   refine st' (Ba (v:=(vK .u32 (bs.getD i 0))) O (λw' hw=>CA.at0 (hw.oldCA jX (E3 hb)) (BC (xs:=bs) (j:=i) Z)) isAgg27) O (asg' O (oNl' (zB (sL [2,35,36,37,6,8] O) (zA (zL (AL O (AL O (st' (An (c:=(((bs.getD i 0)%256:Nat):Int)) O underlying27 underlying5 KO) O (AL O (st' (DH (s:=8) (c:=(((bs.getD i 0)/256:Nat):Int)) O O O jY (Gr (a:=bs.getD i 0) (s:=8))) O (st' (An (c:=((((bs.getD i 0)/256)%256:Nat):Int)) O underlying27 underlying5 KO) O ?_)))))))))))
   refine AL O (st' (DH (s:=16) (c:=(((bs.getD i 0)/65536:Nat):Int)) O O O jY (Gr (a:=bs.getD i 0) (s:=16))) O (st' (An (c:=((((bs.getD i 0)/65536)%256:Nat):Int)) O underlying27 underlying5 KO) O (AL O (st' (DH (s:=24) (c:=(((bs.getD i 0)/16777216:Nat):Int)) O O O jY (Gr (a:=bs.getD i 0) (s:=24))) O (st' (An (c:=((((bs.getD i 0)/16777216)%256:Nat):Int)) O underlying27 underlying5 KO) O (zf (V:=λb3=>(qz (jk b3) 4 4)) (T:=5) (cs:=KE ([(bs.getD i 0)%256,((bs.getD i 0)/256)%256,((bs.getD i 0)/65536)%256,((bs.getD i 0)/16777216)%256])) (AJ O) (Ar (cs:=KE ([(bs.getD i 0)%256,((bs.getD i 0)/256)%256,((bs.getD i 0)/65536)%256,((bs.getD i 0)/16777216)%256])) (pv:=[(0,(vK .u8 ((bs.getD i 0)%256))),(1,(vK .u8 (((bs.getD i 0)/256)%256))),(2,(vK .u8 (((bs.getD i 0)/65536)%256))),(3,(vK .u8 (((bs.getD i 0)/16777216)%256)))]) underlying45 sizeOf5 zeroValue5 jY jY O jV) O (leB O) λb3=>?_))))))
   obtain ⟨bz2,hz2,hlay⟩:∃bz2,bz2=bytesN (bs.take (i+1))++List.replicate (4*(K-(i+1))) 0/\Ib (KE bz) (4*i) (KE ([(bs.getD i 0)%256,((bs.getD i 0)/256)%256,((bs.getD i 0)/65536)%256,((bs.getD i 0)/16777216)%256]))=KE bz2:=⟨_,rfl,by rw [hz];exact P_ hc2 Z⟩
   exact AO.append_u8 (i:=1) (j:=0) (m:=4*i) (c:=4*K) (k:=4) (cs':=KE bz2) (L':=[AQ b3 5 (KE ([(bs.getD i 0)%256,((bs.getD i 0)/256)%256,((bs.getD i 0)/65536)%256,((bs.getD i 0)/16777216)%256])),AQ b2 5 (KE bz2),AQ b1 54 (AT 0)]) O (AJ O) O O O O O O Z (by rw [IJ,hz];simp [B9];omega) hlay O (leB O) (asg' O (oNl' (zB (sL [2,35,36,37,6] O) (zM (zA (zL (st' (Ad (c:=((i+1:Nat):Int)) O O (Ab (a:=i) (b:=1) Z)) O (AL O (oNl' (zB (sL [2,35,36,37,6] O) (zl (i+1) bz2 (⟨Z,hz2⟩) Z (sF O) (sl sr))))))))))))
  ·replace hc2:=xQ hc2
   refine zW (zO (zh (zR (q2 (AL O ?_)))))
   have hbl:bz.length=4*i:=by rw [hz,xJ,B9,List.length_take,List.length_replicate];omega
   have htk:(KE bz).take (4*i)=KE bz:=List.take_of_length_le (by rw [IJ];omega)
   refine st' (v:=(Value.string (Dl bz))) (J5 (i:=0) (m:=4*i) (ns:=bz) O O htk hbl) O ?_
   have hv3:¬val (bs.take m)<18446744073709551616:=λh=>by have:=Ii h;omega
   have hbz:bz=bytesN (bs.take K):=by rw [hz,show i=K by omega];simp
   exact st' (v:=(aG ([(vK .u64 (B7 0)),(Value.string (Dl bz))]))) (AR (zs:=AT 0) (vs:=[(vK .u64 (B7 0)),(Value.string (Dl bz))]) (pv:=[(1,(Value.string (Dl bz)))]) (places:=[(0,1),(1,1)]) zeroValue54 underlying54 (λw=>by simp [sizeOf9,sizeOf52]) O O) O (zJ (k:=58) (u:=(aG (AT (val (bs.take m))))) O (by rw [Vk hv3,hwd,<-hbz];rfl) (DG O sizeOf54 O (oNl' (zB (sL [2,35,36,37,6] O) (zA (zF (ret_one O (Aa (i:=1) (cs:=AT (val (bs.take m))) O O isAgg54 sizeOf54 O) (λw hw=>⟨rfl,hw.out⟩))))))))
end
section
def Da (a b:Nat):Int:=if a<b then -1 else if a=b then 0 else 1
theorem Fm {a b:Nat}:Da a b<0↔a<b:=by
  unfold Da;split
  · omega
  · split<;>omega
theorem NU {a b:Nat}:Da a b=0↔a=b:=by
  unfold Da;split
  · omega
  · split<;>omega
theorem Xd {a b:Nat} (h:nw a≠nw b):((nw a:Int)-(nw b:Int)).sign=Da a b:=by
  unfold Da
  by_cases h1:nw a<nw b
  · have h2:a<b:=by
      rcases Nat.lt_or_ge a b with h2|h2
      · exact h2
      · have:=Ct h2;omega
    rw [if_pos h2,Int.sign_eq_neg_one_of_neg Z]
  · have h2:b<a:=by
      rcases Nat.lt_or_ge b a with h2|h2
      · exact h2
      · have:=Ct h2;omega
    rw [if_neg Z,if_neg Z,Int.sign_eq_one_of_pos Z]
theorem Ut {xs ys:List Nat} {k:Nat} (hx:W32 xs) (hl:xs.length=ys.length) (h0:0<k) (hk:k<=xs.length) (hd:xs.drop k=ys.drop k) (h:xs.getD (k-1) 0<ys.getD (k-1) 0):val xs<val ys:=by
  have e1:=FL xs k hk
  have e2:=FL ys k Z
  have s1:=Bd xs (k-1)
  have s2:=Bd ys (k-1)
  rw [show k-1+1=k by omega] at s1 s2
  have h1:val (xs.take (k-1))<4294967296^(k-1):=Nat.lt_of_lt_of_le (Hd (hx.take (k-1))) (Nat.pow_le_pow_right Z (by simp;omega))
  have h2:(xs.getD (k-1) 0+1)*4294967296^(k-1)<=ys.getD (k-1) 0*4294967296^(k-1):=Nat.mul_le_mul_right _ h
  rw [Nat.add_mul] at h2
  rw [hd] at e1
  omega
theorem Ss {xs ys:List Nat} {k:Nat} (hl:xs.length=ys.length) (h0:0<k) (hk:k<=xs.length) (hd:xs.drop k=ys.drop k) (h:xs.getD (k-1) 0=ys.getD (k-1) 0):xs.drop (k-1)=ys.drop (k-1):=by
  have h1:k-1<xs.length:=by omega
  have h2:k-1<ys.length:=by omega
  rw [List.drop_eq_getElem_cons h1,List.drop_eq_getElem_cons h2,show k-1+1=k by omega,hd]
  simp [h1,h2] at h
  rw [h]
theorem Sj {a b k:Nat} (hl:nw a=nw b) (h0:0<k) (hk:k<=nw a) (hd:(AK a).drop k=(AK b).drop k) (hne:(AK a).getD (k-1) 0≠(AK b).getD (k-1) 0) :
    Da a b=if (AK a).getD (k-1) 0<(AK b).getD (k-1) 0 then -1 else 1:=by
  unfold Da
  split
  · rename_i h
    rw [if_pos]
    rcases Nat.lt_or_ge ((AK a).getD (k-1) 0) ((AK b).getD (k-1) 0) with h1|h1
    · exact h1
    · have:=Ut (Bw b) hl.symm h0 (by unfold nw at *;omega) hd.symm (show (AK b).getD (k-1) 0<(AK a).getD (k-1) 0 by omega)
      rw [Cp,Cp] at this;omega
  · rename_i h
    have h2:¬(AK a).getD (k-1) 0<(AK b).getD (k-1) 0:=λh1=>by
      have:=Ut (Bw a) hl h0 hk hd h1
      rw [Cp,Cp] at this;omega
    rw [if_neg h2,if_neg]
    intro e;subst e;exact hne rfl
theorem Uu {a b:Nat} (hd:(AK a).drop 0=(AK b).drop 0):Da a b=0:=by
  rw [NU]
  rw [List.drop_zero,List.drop_zero] at hd
  rw [<-Cp a,<-Cp b,hd]
theorem Dj {v i:Nat} (h:i<nw v):(Au v).getD i 0=(AK v).getD i 0:=by
  rw [<-Im v]
  simp [List.getD_eq_getElem?_getD,List.getElem?_take,h]
theorem E7 {v i:Nat} (h:¬i<nw v):(AK v).getD i 0=0:=by
  unfold nw at h;simp [List.getD_eq_getElem?_getD,Nat.not_lt.1 h]
theorem Dn {v i:Nat} (h:nw v<=i):val ((AK v).take i)=v:=by
  rw [List.take_of_length_le h,Cp]
theorem YY (v:Nat):(Au v).length<=nw v+2:=by
  unfold Au;split
  · simp
  · unfold nw;omega
theorem I5 (v:Nat):val ((Au v).take (nw v))=v:=by rw [Im,Cp]
theorem OP {os ys:List Nat} {X i n c:Nat} (hl:os.length=n) (hi:i<n) (hv:val os+c*4294967296^i=X+val (ys.take i)) :
    val (os.set i ((os.getD i 0+ys.getD i 0+c)%4294967296))+(os.getD i 0+ys.getD i 0+c)/4294967296*4294967296^(i+1)=X+val (ys.take (i+1)):=by
  have e:=Fu (xs:=os) (i:=i) Z ((os.getD i 0+ys.getD i 0+c)%4294967296)
  have t:=Bd ys i
  have hm:=Nat.div_add_mod (os.getD i 0+ys.getD i 0+c) 4294967296
  rw [Nat.pow_succ]
  generalize os.getD i 0=o at *
  generalize ys.getD i 0=y at *
  generalize (o+y+c)/4294967296=q at *
  generalize (o+y+c)%4294967296=r at *
  generalize 4294967296^i=p at *
  have hm2:(4294967296*q+r)*p=(o+y+c)*p:=by rw [hm]
  grind
theorem OO {os:List Nat} {X Y n c i:Nat} (hl:os.length=n) (hw:W32 os) (hi:n<=i) (hX:X+Y<4294967296^n) (hv:val os+c*4294967296^i=X+Y):val os=X+Y:=by
  have h1:4294967296^n<=4294967296^i:=Nat.pow_le_pow_right Z hi
  rcases Nat.eq_zero_or_pos c with h|h
  · subst h;omega
  · have:1*4294967296^i<=c*4294967296^i:=Nat.mul_le_mul_right _ h
    omega
theorem Wh {os ys:List Nat} {X i n c:Nat} (hl:os.length=n) (hi:i<n) (hw:W32 os) (hy:W32 ys) (hc:c<=1) (hv:val os+val (ys.take i)=X+c*4294967296^i) :
    val (os.set i ((os.getD i 0+(4294967296-ys.getD i 0)+(4294967296-c))%4294967296))+val (ys.take (i+1))=X+Jl (os.getD i 0) (ys.getD i 0+c)*4294967296^(i+1):=by
  have e:=Fu (xs:=os) (i:=i) Z ((os.getD i 0+(4294967296-ys.getD i 0)+(4294967296-c))%4294967296)
  have t:=Bd ys i
  have ho:=hw.getD i
  have hy':=hy.getD i
  rw [Nat.pow_succ]
  have hm:(os.getD i 0+(4294967296-ys.getD i 0)+(4294967296-c))%4294967296+ys.getD i 0+c=os.getD i 0+Jl (os.getD i 0) (ys.getD i 0+c)*4294967296:=by
    unfold Jl;split<;>omega
  generalize (os.getD i 0+(4294967296-ys.getD i 0)+(4294967296-c))%4294967296=r at *
  generalize Jl (os.getD i 0) (ys.getD i 0+c)=q at *
  generalize os.getD i 0=o at *
  generalize ys.getD i 0=y at *
  generalize 4294967296^i=p at *
  have hm2:(r+y+c)*p=(o+q*4294967296)*p:=by rw [hm]
  grind
theorem Wg {os:List Nat} {X Y n c i:Nat} (hl:os.length=n) (hw:W32 os) (hi:i=n) (hX:Y<=X) (hv:val os+Y=X+c*4294967296^i) (hX2:X<4294967296^n):val os=X-Y:=by
  have h1:=Hd hw
  rw [hl] at h1
  subst hi
  rcases Nat.eq_zero_or_pos c with h|h
  · subst h;omega
  · have:1*4294967296^i<=c*4294967296^i:=Nat.mul_le_mul_right _ h
    omega
theorem P9 (x y:Nat):Jl x y<=1:=by unfold Jl;split<;>omega
theorem Vf {os ys:List Nat} {S W i k n c:Nat} (hl:os.length=n) (hi:i+k<n) (hv:val os+c*4294967296^(i+k)=S+W*val (ys.take k)*4294967296^i) :
    val (os.set (i+k) ((c+(W*ys.getD k 0+os.getD (i+k) 0))%4294967296))+(c+(W*ys.getD k 0+os.getD (i+k) 0))/4294967296*4294967296^(i+(k+1))=S+W*val (ys.take (k+1))*4294967296^i:=by
  have e:=Fu (xs:=os) (i:=i+k) Z ((c+(W*ys.getD k 0+os.getD (i+k) 0))%4294967296)
  have t:=Bd ys k
  have hm:=Nat.div_add_mod (c+(W*ys.getD k 0+os.getD (i+k) 0)) 4294967296
  rw [t,show i+(k+1)=i+k+1 by omega,Nat.pow_succ]
  rw [Nat.pow_add] at *
  generalize os.getD (i+k) 0=o at *
  generalize ys.getD k 0=y at *
  generalize (c+(W*y+o))/4294967296=q at *
  generalize (c+(W*y+o))%4294967296=r at *
  generalize 4294967296^i=p at *
  generalize 4294967296^k=p' at *
  generalize val (ys.take k)=vy at *
  have hm2:(4294967296*q+r)*(p*p')=(c+(W*y+o))*(p*p'):=by rw [hm]
  grind
section
variable {n:Nat} {F:List (Nat×Value)} {w0:Av} {L:List As} {v:Value} {x y:Operand} {d:Option Tmp} {t:TypeId} {p:String} {af:Array Edge} {g:Option (Nat×Bool)}
theorem yv {ops:Array Oper} {rest:List Oper} {Q:Exit->Act->World->Prop} {L':List As} {i j b b' m c k c' dd:Nat} {cs ds ns cs':List Value} {o:Oper} (ho:o=⟨some dd,.call { callee:=.builtin .copy,args:=#[x,y],argTypes:=#[169,169] },t,p,af,g⟩) (hw:Wt ops n F o)
    (hx:evF F x=some (.slice (jk b) m c)) (hy:evF F y=some (.slice (some ⟨b',0,none⟩) k c')) (hi:L[i]?=some (AQ b 27 cs)) (hj:L[j]?=some (AQ b' 27 ds)) (hns:ds.take k=ns) (hnl:ns.length=k) (h1:(ns.all λu=>u.oneCell')=true) (hkm:k<=m) (hfit:k<=cs.length)
    (hcs:Ib cs 0 ns=cs') (hL:L.set i (AQ b 27 cs')=L') (hd:dd<n) (next:AO prog ops rest Q n ((dd,.int .i64 k)::F) w0 L'):AO prog ops (o::rest) Q n F w0 L:=λa w ha hW=>by
  subst ho;subst hcs;subst hL
  unfold wpList
  rw [if_pos (hw a ha)]
  left
  have hca:=FE (off:=0) (k:=k) (hW.get hj)
  rw [List.drop_zero,hns] at hca
  have hr:=run_copy_row (P:=prog) w 169 169 t 27 b 0 m c ⟨b',0,none⟩ k c' cs.toArray 27 ns underlying169 jV (hW.get hi) (by rw [hnl];exact (Nat.min_eq_left hkm).symm) (λq u hu=>by rw [Addr.add_lit];exact hca q u hu) (by simp;omega) (λu hu=>List.all_eq_true.1 h1 u hu)
  unfold Oper.wp
  have he:(execOp a.eval ⟨some dd,.call { callee:=.builtin .copy,args:=#[x,y],argTypes:=#[169,169] },t,p,af,g⟩).run prog w=.ok (.value (.int .i64 k)) (w.setRow b (Ib cs 0 ns).toArray):=by
    simp only [execOp,resolve,invoke,builtin,Sem.run_bind,Sem.run_pure,Result.andThen_ok,List.map_toArray,List.map_cons,List.map_nil,ha.ev hx,ha.ev hy,hr,Ib,hnl,goInt]
  rw [he,Oper.upon_value]
  have hg:=hW.get hi
  exact next _ _ (ha.put hd) (hW.turn hi O O ⟨⟨rfl,rfl,rfl,by simp,λq _ hq=>setRow_other w b q _ (λe=>hq (by simp [e]))⟩,Nat.le_refl _⟩ ⟨_,setRow_heap w b cs.toArray _ 27 _ hg,rfl⟩)
end
theorem Wi {a b:Nat} (h:nw b<=nw a):a+b<4294967296^(nw a+1):=by
  have h1:=Bn a
  have h2:b<4294967296^nw a:=CY.1 h
  rw [Nat.pow_succ];omega
theorem F4 (v k:Nat):(AK v++(List.replicate (nw v+k) 0).drop (AK v).length).length=nw v+k/\W32 (AK v++(List.replicate (nw v+k) 0).drop (AK v).length)/\val (AK v++(List.replicate (nw v+k) 0).drop (AK v).length)=v:=by
  have e:(List.replicate (nw v+k) 0).drop (AK v).length=List.replicate k 0:=by rw [List.drop_replicate];congr 1;unfold nw;omega
  rw [e]
  refine ⟨by simp [nw],(Bw v).append (W32.zeros k),?_⟩
  rw [Lw,Cp,El];omega
theorem If {os:List Nat} {p c n:Nat} (hl:os.length=n) (hp:p<n) (h0:os.getD p 0=0):val (os.set p c)=val os+c*4294967296^p:=by
  have e:=Fu (xs:=os) (i:=p) Z c
  rw [h0] at e;omega
theorem RH {os:List Nat} {a b i:Nat} (hv:val os=val ((AK a).take i)*b):∀j,i+nw b<=j->os.getD j 0=0:=λj hj=>by
  refine Gz (m:=i+nw b) ?_ hj
  rw [hv,Nat.pow_add]
  refine Nat.mul_lt_mul'' (Nat.lt_of_lt_of_le (Hd ((Bw a).take i)) (Nat.pow_le_pow_right Z (by simp;omega))) (Bn b)
theorem GD {os:List Nat} {p q v:Nat} (h:∀j,p<=j->os.getD j 0=0) (hq:q<p):∀j,p<=j->(os.set q v).getD j 0=0:=λj hj=>by
  rw [List.getD_eq_getElem?_getD,List.getElem?_set_ne Z,<-List.getD_eq_getElem?_getD]
  exact h j hj
theorem YN {a b i:Nat}:val ((AK a).take i)*b+(AK a).getD i 0*b*4294967296^i=val ((AK a).take (i+1))*b:=by
  rw [Bd];grind
theorem bJ {x y:Nat} (hx:x<18446744073709551616) (hy:y<18446744073709551616):val [x%4294967296,x/4294967296,y%4294967296,y/4294967296]=x+y*18446744073709551616:=by
  simp only [val];omega
theorem Pb (xs:List Nat):((Ak xs).all λu=>u.oneCell')=true:=List.all_eq_true.2 (Wx xs)
theorem NG (xs:List Nat) (k:Nat):(Ak xs).take k=Ak (xs.take k):=by simp [Ak,List.map_take]
theorem Pd (xs ns:List Nat):Ib (Ak xs) 0 (Ak ns)=Ak (ns++xs.drop ns.length):=by simp [Ib,Ak,List.map_drop]
end
section
set_option maxRecDepth 100000
theorem Z0 (a b p q c c2:Nat) (ha:nw a<=1099511627776) (hb:nw b<=1099511627776) (w:World) (hp:w.heap[p]?=some (.cells (Ak (Au a)).toArray 27 (0,0))) (hq:w.heap[q]?=some (.cells (Ak (Au b)).toArray 27 (0,0))):Calls prog 196 #[(qz (jk p) (nw a) c),(qz (jk q) (nw b) c2)] w (AY w (vI (Da a b))):=by
 have hla:=CM a
 have hlb:=CM b
 refine AS (args:=[(qz (jk p) (nw a) c),(qz (jk q) (nw b) c2)]) func196 O O (leB O) (zG (sL [0,1] O) (q4 (asg' O (oNl' (q1 (q4 (AL O (st' (v:=(vN (nw a))) (AD O underlying169) O (AL O (st' (v:=(vN (nw b))) (AD O underlying169) O (st' (C1 (c:=(decide ((nw a)≠(nw b)))) O O (cX (a:=nw a) (b:=nw b))) O ?_)))))))))))
 refine oNl' (zB (sL [0,1,4,10] O) (zA ?_))
 refine zK O (λhc0=>?_) (λhc0=>?_)
 ·replace hc0:=xR hc0
  refine q4 (AL O (st' (v:=(vN (nw a))) (AD O underlying169) O (AL O (st' (v:=(vN (nw b))) (AD O underlying169) O (st' (BT (c:=((nw a:Int)-(nw b:Int))) O O (BY Z Z)) O (ck' call210 (Y5 _ Z Z) O (zJ (k:=16) (u:=(vI (Da a b))) O (by rw [Xd hc0]) (asg' O (oNl' (zB (sL [0,1,4] O) (zA ?_)))))))))))
  exact zF (zH (ret_one O (rd_tmp (v:=(vI (Da a b))) O) (λw hw=>⟨rfl,hw.out⟩)))
 ·replace hc0:=xQ hc0
  refine zI (q1 (q4 (AL O (st' (v:=(vN (nw a))) (AD O underlying169) O (st' (BT (c:=(((nw a:Nat):Int)-1)) O O (BY Z Z)) O (asg' O (oNl' (zB (sL [0,1,4,5] O) (zA (zN ?_))))))))))
  refine yO (tg λ(k:Nat)=>k<=nw a/\(AK a).drop k=(AK b).drop k) (tg λ(k:Nat)=>[(0,(qz (jk p) (nw a) c)),(1,(qz (jk q) (nw b) c2)),(5,(vI (((k:Nat):Int)-1)))]) (tg λ(k:Nat)=>[]) (tg λ(k:Nat)=>k) (nw a) (⟨Nat.le_refl _,by rw [List.drop_of_length_le (by exact Nat.le_refl _),List.drop_of_length_le (by unfold nw at *;omega)]⟩) (sF O) sr (λk hJ=>?_)
  obtain ⟨hk,hd⟩:=hJ
  refine zV (q4 (AL O (st' (CW (c:=(decide ((0:Int)<=(((k:Nat):Int)-1)))) O O O) O (oNl' (zB (sL [0,1,5,21] O) (zA ?_))))))
  refine zK O (λhc1=>?_) (λhc1=>?_)
  ·replace hc1:=xR hc1
   have hk0:0<k:=by omega
   refine yK (k:=5) (u:=(vN (k-1))) O (by congr 1;omega) (zI (q1 (zN (zV (B8 (Ed 9) sr ?_)))))
   have ea:(Au a).getD (k-1) 0=(AK a).getD (k-1) 0:=Dj Z
   have eb:(Au b).getD (k-1) 0=(AK b).getD (k-1) 0:=Dj Z
   refine Bq O (Bq O (Ao (v:=(pP p (k-1))) O (AG (j:=k-1) O O underlying169 sizeOf27 O Z jX) ?_))
   have hx1:(Au a).getD (k-1) 0<4294967296:=W32.getD (CR a) (k-1)
   refine Ao O (Ba (v:=(vK .u32 ((Au a).getD (k-1) 0))) O (λw' hw=>CA.at0 (hw.oldCA jX (E3 hp)) (BC (xs:=Au a) (j:=(k-1)) Z)) isAgg27) (Bq O (Bq O (Ao (v:=(pP q (k-1))) O (AG (j:=k-1) O O underlying169 sizeOf27 O Z jX) ?_)))
   have hx2:(Au b).getD (k-1) 0<4294967296:=W32.getD (CR b) (k-1)
   refine Ao O (Ba (v:=(vK .u32 ((Au b).getD (k-1) 0))) O (λw' hw=>CA.at0 (hw.oldCA jX (E3 hq)) (BC (xs:=Au b) (j:=(k-1)) Z)) isAgg27) (Ao O (C1 (c:=(decide (((Au a).getD (k-1) 0)≠((Au b).getD (k-1) 0)))) O O (cX (a:=(Au a).getD (k-1) 0) (b:=(Au b).getD (k-1) 0))) (zP (zB (sL [0,1,5,32] O) (zA ?_))))
   refine zK O (λhc2=>?_) (λhc2=>?_)
   ·replace hc2:=xR hc2
    have hcw:=Sj Z hk0 hk hd Z
    refine zV (zV (B8 (Ed 9) sr (Bq O (Bq O (Ao (v:=(pP p (k-1))) O (AG (j:=k-1) O O underlying169 sizeOf27 O Z jX) ?_)))))
    have hx3:(Au a).getD (k-1) 0<4294967296:=W32.getD (CR a) (k-1)
    refine Ao O (Ba (v:=(vK .u32 ((Au a).getD (k-1) 0))) O (λw' hw=>CA.at0 (hw.oldCA jX (E3 hp)) (BC (xs:=Au a) (j:=(k-1)) Z)) isAgg27) (Bq O (Bq O (Ao (v:=(pP q (k-1))) O (AG (j:=k-1) O O underlying169 sizeOf27 O Z jX) ?_)))
    have hx4:(Au b).getD (k-1) 0<4294967296:=W32.getD (CR b) (k-1)
    refine Ao O (Ba (v:=(vK .u32 ((Au b).getD (k-1) 0))) O (λw' hw=>CA.at0 (hw.oldCA jX (E3 hq)) (BC (xs:=Au b) (j:=(k-1)) Z)) isAgg27) (Ao O (Ag (c:=(decide (((Au a).getD (k-1) 0)<((Au b).getD (k-1) 0)))) O O (DL (a:=(Au a).getD (k-1) 0) (b:=(Au b).getD (k-1) 0))) (zP (zB (sL [0,1,5,41] O) (zA ?_))))
    refine zK O (λhc3=>?_) (λhc3=>?_)
    ·replace hc3:=xR hc3
     rw [if_pos Z] at hcw
     exact q4 (asg' O (oNl' (zA (zF (zH (zT (zH (zy (zT (zH (ret_one O (rd_tmp (v:=(vI (-1:Int))) O) (λw hw=>⟨by rw [hcw],hw.out⟩))))))))))))
    ·replace hc3:=xQ hc3
     rw [if_neg Z] at hcw
     exact zI (q2 (asg' O (oNl' (zA (zF (zT (zH (zy (zT (zH (ret_one O (rd_tmp (v:=(vI 1)) O) (λw hw=>⟨by rw [hcw],hw.out⟩))))))))))))
   ·replace hc2:=xQ hc2
    exact zI (zM (zA (zL (AL O (st' (BT (c:=(((k-1:Nat):Int)-1)) O O (BY Z Z)) O (asg' O (oNl' (zB (sL [0,1,5] O) (yC (k-1) (⟨Z,Ss (by unfold nw at hc0;omega) Z hk hd Z⟩) Z (sF O) sr)))))))))
  ·replace hc1:=xQ hc1
   have hk0:k=0:=by omega
   subst hk0
   have hz:=Uu hd
   exact zW (zO (zn (zR (q2 (asg' O (oNl' (zA (zF (ret_one O (rd_tmp (v:=(vI 0)) O) (λw hw=>⟨by rw [hz],hw.out⟩))))))))))
end
end Go.Proofs.YtcpkbjjmcleplaaGreatDoor
