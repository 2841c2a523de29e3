import Derived.Test.YtbfdamnfcmefmaaGreatDoorPend06
namespace Go.Proofs.YtbfdamnfcmefmaaGreatDoor
open Go Go.RowKit Go.Proofs.Tryz
open Go.Value renaming slice→qz,bool→qa
set_option linter.unusedVariables false
set_option linter.unusedSimpArgs false
section
set_option maxRecDepth 100000
theorem Jj (b m c:Nat) (bs:List Nat) (hbs:W32 bs) (hm:m<=bs.length) (hc:m<=c) (hL:c<4398046511104) (w:World) (hb:w.heap[b]?=some (.cells (Aj bs).toArray 89 (0,0))):Calls prog 181 #[(qz (jk b) m c)] w (Ac w (aG (AT (val (bs.take m))))):=by
 have hle:=J7 bs m
 have hval:=MA bs m
 have hwd:=JS hbs hm
 have hnw:=Qi hbs hm
 generalize hK:D0 bs m=K at *
 refine AW (args:=[(qz (jk b) m c)]) func181 O O (A_ O) (zM (sL [0] O) (q4 (al GV O λb1=>oNl' (q2 (AL O (C3 call154 (λw hw=>Up _ m c bs hbs Z Z Z w (hw.old jX hb)) O (zL (k:=10) (u:=(qz (jk b) K c)) O (by rw [hK]) (asg' O (q6 (sL [0,2] O) (q4 ?_))))))))))
 refine AL O (AD (v:=(vN K)) (AE O underlying220) O (AD (I1 (c:=(decide (K<=2))) O O (YV (a:=K) (b:=2))) O (oNl' (zB (sL [0,2,13] O) (zA ?_)))))
 refine zK O (λhc0=>?_) (λhc0=>?_)
 ·replace hc0:=xT hc0
  refine q4 (asg' O (oNl' (q1 (q4 (AL O (AD (v:=(vN K)) (AE O underlying220) O (AL O (oNl' (zA (zI ?_))))))))))
  refine yE (tg λ(i:Nat) (n:Nat)=>i<=K/\n=val (bs.take i)) (tg λ(i:Nat) (n:Nat)=>[(0,(qz (jk b) K c)),(2,(pP b1 0)),(14,(qz (jk b) K c)),(15,(vN K)),(16,(vN i)),(3,(vK .u64 n))]) (tg λ(i:Nat) (n:Nat)=>[AY b1 62 (AT 0)]) (tg λ(i:Nat) (n:Nat)=>K-i) 0 0 (⟨xJ _,by simp [val]⟩) (sF O) sr (λi n hJ=>?_)
  obtain ⟨hi,hn⟩:=hJ
  refine q4 (AD (Ab (c:=(decide (i<K))) O O (DA (a:=i) (b:=K))) O (oNl' (q1 ?_)))
  refine zK O (λhc1=>?_) (λhc1=>?_)
  ·replace hc1:=xT hc1
   refine zC (q1 (zI (q4 (AL O (AD (v:=(pP b i)) (AG (j:=i) O O underlying220 sizeOf89 O Z jX) O ?_)))))
   have hx1:bs.getD i 0<4294967296:=W32.getD hbs i
   refine AD (Bc (v:=(vK .u32 (bs.getD i 0))) O (λw' hw=>CA.at0 (hw.oldCA jX (FB hb)) (BF (xs:=bs) (j:=i) Z)) isAgg89) O (asg' O (asg' O (oNl' (zB (sL [0,2,14,15,16,3,4,5] O) (zA (zH (AL O (AL O (AD (Aq (c:=((bs.getD i 0:Nat):Int)) O underlying89 underlying60 (BS Z)) O (AL O ?_))))))))))
   have hiK:i<K:=hc1
   have hi2:i<2:=by omega
   have hn2:n<4294967296^i:=by rw [hn];exact Nat.lt_of_lt_of_le (HD (hbs.take i)) (Nat.pow_le_pow_right Z (by simp;omega))
   have hsh:=WW (i:=i) (hbs.getD i) hi2
   have hn3:n<18446744073709551616:=TJ hn2 hi2
   refine AD (Bo (c:=((32*i:Nat):Int)) O O (Cr (a:=32) (b:=i) Z)) O (AD (v:=(vK .u64 (bs.getD i 0*2^(32*i)))) (Gp (s:=32*i) O O O (show 32*i<=64 by omega) (G2 hsh)) O (AD (Jc (c:=((n+bs.getD i 0*2^(32*i):Nat):Int)) O O (KR hn3 hsh (H6 (by rw [<-ZU];exact hn2)))) O (asg' O (oNl' (zB (sL [0,2,14,15,16,3] O) (zF (zA (zH (AD (AS (c:=((i+1:Nat):Int)) O O (AV (a:=i) (b:=1) Z)) O (AL O (oNl' ?_)))))))))))
   exact zB (sL [0,2,14,15,16,3] O) (zn (i+1) (n+bs.getD i 0*2^(32*i)) (⟨Z,by rw [BW,<-hn,ZU]⟩) Z (sF O) sr)
  ·replace hc1:=xS hc1
   refine zU (zO (zl (zP (q2 (AL O ?_)))))
   have hnn:n=val (bs.take K):=by rw [hn,show i=K by omega]
   have hv2:val (bs.take m)<18446744073709551616:=by rw [<-hval];exact Nat.lt_of_lt_of_le (HD (hbs.take K)) (by rw [List.length_take];exact xM (Nat.pow_le_pow_right (n:=4294967296) Z (show min K bs.length<=2 by omega)) jY)
   exact AD (v:=(aG ([(vK .u64 n),(Value.string (Bm 0))]))) (AQ (zs:=AT 0) (vs:=[(vK .u64 n),(Value.string (Bm 0))]) (pv:=[(0,(vK .u64 n))]) (places:=[(0,1),(1,1)]) zeroValue62 underlying62 (λw=>by simp [sizeOf9,sizeOf60]) O O) O (zL (k:=30) (u:=(aG (AT (val (bs.take m))))) O (by rw [Dq hv2,<-hval,<-hnn];rfl) (Ah O sizeOf62 O (oNl' (zB (sL [0,2,14,15,16,3] O) (zA (zG (zJ (ret_one O (An (i:=0) (cs:=AT (val (bs.take m))) O O isAgg62 sizeOf62 O) (λw hw=>⟨rfl,hw.out⟩)))))))))
 ·replace hc0:=xS hc0
  refine zC (q2 (AL O (AD (v:=(vN K)) (AE O underlying220) O (AD (Bo (c:=((4*K:Nat):Int)) O O (Cr (a:=4) (b:=K) Z)) O (ze (V:=λb2=>(qz (jk b2) 0 (4*K))) (T:=5) (cs:=J3 (List.replicate (4*K) 0)) (AI O) (Ql (m:=0) (c:=4*K) O O Z Z) O (A_ O) λb2=>asg' O (q6 (sL [0,2,6] O) (q4 (AL O (AD (v:=(vN K)) (AE O underlying220) O (AL O ?_))))))))))
  refine oNl' (zA (zI ?_))
  refine yE (tg λ(i:Nat) (bz:List Nat)=>i<=K/\bz=bytesN (bs.take i)++List.replicate (4*(K-i)) 0) (tg λ(i:Nat) (bz:List Nat)=>[(2,(pP b1 0)),(35,(qz (jk b) K c)),(36,(vN K)),(37,(vN i)),(6,(qz (jk b2) (4*i) (4*K)))]) (tg λ(i:Nat) (bz:List Nat)=>[AY b2 5 (J3 bz),AY b1 62 (AT 0)]) (tg λ(i:Nat) (bz:List Nat)=>K-i) 0 (List.replicate (4*K) 0) (⟨xJ _,by simp [bytesN]⟩) (sF O) sr (λi bz hJ=>?_)
  obtain ⟨hi,hz⟩:=hJ
  refine q4 (AD (Ab (c:=(decide (i<K))) O O (DA (a:=i) (b:=K))) O (oNl' (q1 ?_)))
  refine zK O (λhc2=>?_) (λhc2=>?_)
  ·replace hc2:=xT hc2
   refine zC (q1 (zI (q4 (AD (v:=(pP b i)) (AG (j:=i) O O underlying220 sizeOf89 O Z jX) O ?_))))
   have hx2:bs.getD i 0<4294967296:=W32.getD hbs i
   refine AD (Bc (v:=(vK .u32 (bs.getD i 0))) O (λw' hw=>CA.at0 (hw.oldCA jX (FB hb)) (BF (xs:=bs) (j:=i) Z)) isAgg89) O (asg' O (oNl' (zB (sL [2,35,36,37,6,8] O) (zA (zH (AL O (AL O (AD (Aq (c:=(((bs.getD i 0)%256:Nat):Int)) O underlying89 underlying5 KN) O (AL O (AD (C1 (s:=8) (c:=(((bs.getD i 0)/256:Nat):Int)) O O O jY (GS (a:=bs.getD i 0) (s:=8))) O (AD (Aq (c:=((((bs.getD i 0)/256)%256:Nat):Int)) O underlying89 underlying5 KN) O ?_)))))))))))
   refine AL O (AD (C1 (s:=16) (c:=(((bs.getD i 0)/65536:Nat):Int)) O O O jY (GS (a:=bs.getD i 0) (s:=16))) O (AD (Aq (c:=((((bs.getD i 0)/65536)%256:Nat):Int)) O underlying89 underlying5 KN) O (AL O (AD (C1 (s:=24) (c:=(((bs.getD i 0)/16777216:Nat):Int)) O O O jY (GS (a:=bs.getD i 0) (s:=24))) O (AD (Aq (c:=((((bs.getD i 0)/16777216)%256:Nat):Int)) O underlying89 underlying5 KN) O (ze (V:=λb3=>(qz (jk b3) 4 4)) (T:=5) (cs:=J3 ([(bs.getD i 0)%256,((bs.getD i 0)/256)%256,((bs.getD i 0)/65536)%256,((bs.getD i 0)/16777216)%256])) (AI O) (Ax (cs:=J3 ([(bs.getD i 0)%256,((bs.getD i 0)/256)%256,((bs.getD i 0)/65536)%256,((bs.getD i 0)/16777216)%256])) (pv:=[(0,(vK .u8 ((bs.getD i 0)%256))),(1,(vK .u8 (((bs.getD i 0)/256)%256))),(2,(vK .u8 (((bs.getD i 0)/65536)%256))),(3,(vK .u8 (((bs.getD i 0)/16777216)%256)))]) underlying22 sizeOf5 zeroValue5 jY jY O jV) O (A_ O) λb3=>?_))))))
   obtain ⟨bz2,hz2,hlay⟩:∃bz2,bz2=bytesN (bs.take (i+1))++List.replicate (4*(K-(i+1))) 0/\Gc (J3 bz) (4*i) (J3 ([(bs.getD i 0)%256,((bs.getD i 0)/256)%256,((bs.getD i 0)/65536)%256,((bs.getD i 0)/16777216)%256]))=J3 bz2:=⟨_,rfl,by rw [hz];exact P4 hc2 Z⟩
   exact AR.append_u8 (i:=1) (j:=0) (m:=4*i) (c:=4*K) (k:=4) (cs':=J3 bz2) (L':=[AY b3 5 (J3 ([(bs.getD i 0)%256,((bs.getD i 0)/256)%256,((bs.getD i 0)/65536)%256,((bs.getD i 0)/16777216)%256])),AY b2 5 (J3 bz2),AY b1 62 (AT 0)]) O (AI O) O O O O O O Z (by rw [ID,hz];simp [CB];omega) hlay O (A_ O) (asg' O (oNl' (zB (sL [2,35,36,37,6] O) (zF (zA (zH (AD (AS (c:=((i+1:Nat):Int)) O O (AV (a:=i) (b:=1) Z)) O (AL O (oNl' (zB (sL [2,35,36,37,6] O) (zn (i+1) bz2 (⟨Z,hz2⟩) Z (sF O) (sl sr))))))))))))
  ·replace hc2:=xS hc2
   refine zU (zO (zl (zP (q2 (AL O ?_)))))
   have hbl:bz.length=4*i:=by rw [hz,xL,CB,List.length_take,List.length_replicate];omega
   have htk:(J3 bz).take (4*i)=J3 bz:=List.take_of_length_le (by rw [ID];omega)
   refine AD (v:=(Value.string (DM bz))) (Jr (i:=0) (m:=4*i) (ns:=bz) O O htk hbl) O ?_
   have hv3:¬val (bs.take m)<18446744073709551616:=λh=>by have:=Lh h;omega
   have hbz:bz=bytesN (bs.take K):=by rw [hz,show i=K by omega];simp
   exact AD (v:=(aG ([(vK .u64 (B6 0)),(Value.string (DM bz))]))) (AQ (zs:=AT 0) (vs:=[(vK .u64 (B6 0)),(Value.string (DM bz))]) (pv:=[(1,(Value.string (DM bz)))]) (places:=[(0,1),(1,1)]) zeroValue62 underlying62 (λw=>by simp [sizeOf9,sizeOf60]) O O) O (zL (k:=58) (u:=(aG (AT (val (bs.take m))))) O (by rw [Vv hv3,hwd,<-hbz];rfl) (CM O sizeOf62 O (oNl' (zB (sL [2,35,36,37,6] O) (zA (zG (ret_one O (An (i:=1) (cs:=AT (val (bs.take m))) O O isAgg62 sizeOf62 O) (λw hw=>⟨rfl,hw.out⟩))))))))
end
section
def Fy (a b:Nat):Int:=if a<b then -1 else if a=b then 0 else 1
theorem J6 {a b:Nat}:Fy a b<0↔a<b:=by
  unfold Fy;split
  · omega
  · split<;>omega
theorem RR {a b:Nat}:Fy a b=0↔a=b:=by
  unfold Fy;split
  · omega
  · split<;>omega
theorem Xl {a b:Nat} (h:nw a≠nw b):((nw a:Int)-(nw b:Int)).sign=Fy a b:=by
  unfold Fy
  by_cases h1:nw a<nw b
  · have h2:a<b:=by
      rcases Nat.lt_or_ge a b with h2|h2
      · exact h2
      · have:=Dm h2;omega
    rw [if_pos h2,Int.sign_eq_neg_one_of_neg Z]
  · have h2:b<a:=by
      rcases Nat.lt_or_ge b a with h2|h2
      · exact h2
      · have:=Dm h2;omega
    rw [if_neg Z,if_neg Z,Int.sign_eq_one_of_pos Z]
theorem Ug {xs ys:List Nat} {k:Nat} (hx:W32 xs) (hl:xs.length=ys.length) (h0:0<k) (hk:k<=xs.length) (hd:xs.drop k=ys.drop k) (h:xs.getD (k-1) 0<ys.getD (k-1) 0):val xs<val ys:=by
  have e1:=E8 xs k hk
  have e2:=E8 ys k Z
  have s1:=BW xs (k-1)
  have s2:=BW ys (k-1)
  rw [show k-1+1=k by omega] at s1 s2
  have h1:val (xs.take (k-1))<4294967296^(k-1):=Nat.lt_of_lt_of_le (HD (hx.take (k-1))) (Nat.pow_le_pow_right Z (by simp;omega))
  have h2:(xs.getD (k-1) 0+1)*4294967296^(k-1)<=ys.getD (k-1) 0*4294967296^(k-1):=Nat.mul_le_mul_right _ h
  rw [Nat.add_mul] at h2
  rw [hd] at e1
  omega
theorem SY {xs ys:List Nat} {k:Nat} (hl:xs.length=ys.length) (h0:0<k) (hk:k<=xs.length) (hd:xs.drop k=ys.drop k) (h:xs.getD (k-1) 0=ys.getD (k-1) 0):xs.drop (k-1)=ys.drop (k-1):=by
  have h1:k-1<xs.length:=by omega
  have h2:k-1<ys.length:=by omega
  rw [List.drop_eq_getElem_cons h1,List.drop_eq_getElem_cons h2,show k-1+1=k by omega,hd]
  simp [h1,h2] at h
  rw [h]
theorem SR {a b k:Nat} (hl:nw a=nw b) (h0:0<k) (hk:k<=nw a) (hd:(AK a).drop k=(AK b).drop k) (hne:(AK a).getD (k-1) 0≠(AK b).getD (k-1) 0) :
    Fy a b=if (AK a).getD (k-1) 0<(AK b).getD (k-1) 0 then -1 else 1:=by
  unfold Fy
  split
  · rename_i h
    rw [if_pos]
    rcases Nat.lt_or_ge ((AK a).getD (k-1) 0) ((AK b).getD (k-1) 0) with h1|h1
    · exact h1
    · have:=Ug (Br b) hl.symm h0 (by unfold nw at *;omega) hd.symm (show (AK b).getD (k-1) 0<(AK a).getD (k-1) 0 by omega)
      rw [CY,CY] at this;omega
  · rename_i h
    have h2:¬(AK a).getD (k-1) 0<(AK b).getD (k-1) 0:=λh1=>by
      have:=Ug (Br a) hl h0 hk hd h1
      rw [CY,CY] at this;omega
    rw [if_neg h2,if_neg]
    intro e;subst e;exact hne rfl
theorem Uh {a b:Nat} (hd:(AK a).drop 0=(AK b).drop 0):Fy a b=0:=by
  rw [RR]
  rw [List.drop_zero,List.drop_zero] at hd
  rw [<-CY a,<-CY b,hd]
theorem Dl {v i:Nat} (h:i<nw v):(Ar v).getD i 0=(AK v).getD i 0:=by
  rw [<-Ih v]
  simp [List.getD_eq_getElem?_getD,List.getElem?_take,h]
theorem En {v i:Nat} (h:¬i<nw v):(AK v).getD i 0=0:=by
  unfold nw at h;simp [List.getD_eq_getElem?_getD,Nat.not_lt.1 h]
theorem DR {v i:Nat} (h:nw v<=i):val ((AK v).take i)=v:=by
  rw [List.take_of_length_le h,CY]
theorem Yq (v:Nat):(Ar v).length<=nw v+2:=by
  unfold Ar;split
  · simp
  · unfold nw;omega
theorem Io (v:Nat):val ((Ar v).take (nw v))=v:=by rw [Ih,CY]
theorem Oj {os ys:List Nat} {X i n c:Nat} (hl:os.length=n) (hi:i<n) (hv:val os+c*4294967296^i=X+val (ys.take i)) :
    val (os.set i ((os.getD i 0+ys.getD i 0+c)%4294967296))+(os.getD i 0+ys.getD i 0+c)/4294967296*4294967296^(i+1)=X+val (ys.take (i+1)):=by
  have e:=Fk (xs:=os) (i:=i) Z ((os.getD i 0+ys.getD i 0+c)%4294967296)
  have t:=BW ys i
  have hm:=Nat.div_add_mod (os.getD i 0+ys.getD i 0+c) 4294967296
  rw [Nat.pow_succ]
  generalize os.getD i 0=o at *
  generalize ys.getD i 0=y at *
  generalize (o+y+c)/4294967296=q at *
  generalize (o+y+c)%4294967296=r at *
  generalize 4294967296^i=p at *
  have hm2:(4294967296*q+r)*p=(o+y+c)*p:=by rw [hm]
  grind
theorem Oi {os:List Nat} {X Y n c i:Nat} (hl:os.length=n) (hw:W32 os) (hi:n<=i) (hX:X+Y<4294967296^n) (hv:val os+c*4294967296^i=X+Y):val os=X+Y:=by
  have h1:4294967296^n<=4294967296^i:=Nat.pow_le_pow_right Z hi
  rcases Nat.eq_zero_or_pos c with h|h
  · subst h;omega
  · have:1*4294967296^i<=c*4294967296^i:=Nat.mul_le_mul_right _ h
    omega
theorem Wi {os ys:List Nat} {X i n c:Nat} (hl:os.length=n) (hi:i<n) (hw:W32 os) (hy:W32 ys) (hc:c<=1) (hv:val os+val (ys.take i)=X+c*4294967296^i) :
    val (os.set i ((os.getD i 0+(4294967296-ys.getD i 0)+(4294967296-c))%4294967296))+val (ys.take (i+1))=X+JX (os.getD i 0) (ys.getD i 0+c)*4294967296^(i+1):=by
  have e:=Fk (xs:=os) (i:=i) Z ((os.getD i 0+(4294967296-ys.getD i 0)+(4294967296-c))%4294967296)
  have t:=BW ys i
  have ho:=hw.getD i
  have hy':=hy.getD i
  rw [Nat.pow_succ]
  have hm:(os.getD i 0+(4294967296-ys.getD i 0)+(4294967296-c))%4294967296+ys.getD i 0+c=os.getD i 0+JX (os.getD i 0) (ys.getD i 0+c)*4294967296:=by
    unfold JX;split<;>omega
  generalize (os.getD i 0+(4294967296-ys.getD i 0)+(4294967296-c))%4294967296=r at *
  generalize JX (os.getD i 0) (ys.getD i 0+c)=q at *
  generalize os.getD i 0=o at *
  generalize ys.getD i 0=y at *
  generalize 4294967296^i=p at *
  have hm2:(r+y+c)*p=(o+q*4294967296)*p:=by rw [hm]
  grind
theorem Wh {os:List Nat} {X Y n c i:Nat} (hl:os.length=n) (hw:W32 os) (hi:i=n) (hX:Y<=X) (hv:val os+Y=X+c*4294967296^i) (hX2:X<4294967296^n):val os=X-Y:=by
  have h1:=HD hw
  rw [hl] at h1
  subst hi
  rcases Nat.eq_zero_or_pos c with h|h
  · subst h;omega
  · have:1*4294967296^i<=c*4294967296^i:=Nat.mul_le_mul_right _ h
    omega
theorem P3 (x y:Nat):JX x y<=1:=by unfold JX;split<;>omega
theorem Vq {os ys:List Nat} {S W i k n c:Nat} (hl:os.length=n) (hi:i+k<n) (hv:val os+c*4294967296^(i+k)=S+W*val (ys.take k)*4294967296^i) :
    val (os.set (i+k) ((c+(W*ys.getD k 0+os.getD (i+k) 0))%4294967296))+(c+(W*ys.getD k 0+os.getD (i+k) 0))/4294967296*4294967296^(i+(k+1))=S+W*val (ys.take (k+1))*4294967296^i:=by
  have e:=Fk (xs:=os) (i:=i+k) Z ((c+(W*ys.getD k 0+os.getD (i+k) 0))%4294967296)
  have t:=BW ys k
  have hm:=Nat.div_add_mod (c+(W*ys.getD k 0+os.getD (i+k) 0)) 4294967296
  rw [t,show i+(k+1)=i+k+1 by omega,Nat.pow_succ]
  rw [Nat.pow_add] at *
  generalize os.getD (i+k) 0=o at *
  generalize ys.getD k 0=y at *
  generalize (c+(W*y+o))/4294967296=q at *
  generalize (c+(W*y+o))%4294967296=r at *
  generalize 4294967296^i=p at *
  generalize 4294967296^k=p' at *
  generalize val (ys.take k)=vy at *
  have hm2:(4294967296*q+r)*(p*p')=(c+(W*y+o))*(p*p'):=by rw [hm]
  grind
section
variable {n:Nat} {F:List (Nat×Value)} {w0:BD} {L:List As} {v:Value} {x y:Operand} {d:Option Tmp} {t:TypeId} {p:String} {af:Array Edge} {g:Option (Nat×Bool)}
theorem yk {ops:Array Oper} {rest:List Oper} {Q:Exit->Act->World->Prop} {L':List As} {i j b b' m c k c' dd:Nat} {cs ds ns cs':List Value} {o:Oper} (ho:o=⟨some dd,.call { callee:=.builtin .copy,args:=#[x,y],argTypes:=#[220,220] },t,p,af,g⟩) (hw:Wt ops n F o)
    (hx:evF F x=some (.slice (jk b) m c)) (hy:evF F y=some (.slice (some ⟨b',0,none⟩) k c')) (hi:L[i]?=some (AY b 89 cs)) (hj:L[j]?=some (AY b' 89 ds)) (hns:ds.take k=ns) (hnl:ns.length=k) (h1:(ns.all λu=>u.oneCell')=true) (hkm:k<=m) (hfit:k<=cs.length)
    (hcs:Gc cs 0 ns=cs') (hL:L.set i (AY b 89 cs')=L') (hd:dd<n) (next:AR prog ops rest Q n ((dd,.int .i64 k)::F) w0 L'):AR prog ops (o::rest) Q n F w0 L:=λa w ha hW=>by
  subst ho;subst hcs;subst hL
  unfold wpList
  rw [if_pos (hw a ha)]
  left
  have hca:=EE (off:=0) (k:=k) (hW.get hj)
  rw [List.drop_zero,hns] at hca
  have hr:=run_copy_row (P:=prog) w 220 220 t 89 b 0 m c ⟨b',0,none⟩ k c' cs.toArray 89 ns underlying220 jV (hW.get hi) (by rw [hnl];exact (Nat.min_eq_left hkm).symm) (λq u hu=>by rw [Addr.add_lit];exact hca q u hu) (by simp;omega) (λu hu=>List.all_eq_true.1 h1 u hu)
  unfold Oper.wp
  have he:(execOp a.eval ⟨some dd,.call { callee:=.builtin .copy,args:=#[x,y],argTypes:=#[220,220] },t,p,af,g⟩).run prog w=.ok (.value (.int .i64 k)) (w.setRow b (Gc cs 0 ns).toArray):=by
    simp only [execOp,resolve,invoke,builtin,Sem.run_bind,Sem.run_pure,Result.andThen_ok,List.map_toArray,List.map_cons,List.map_nil,ha.ev hx,ha.ev hy,hr,Gc,hnl,goInt]
  rw [he,Oper.upon_value]
  have hg:=hW.get hi
  exact next _ _ (ha.put hd) (hW.turn hi O O ⟨⟨rfl,rfl,rfl,by simp,λq _ hq=>setRow_other w b q _ (λe=>hq (by simp [e]))⟩,Nat.le_refl _⟩ ⟨_,setRow_heap w b cs.toArray _ 89 _ hg,rfl⟩)
end
theorem Wj {a b:Nat} (h:nw b<=nw a):a+b<4294967296^(nw a+1):=by
  have h1:=B7 a
  have h2:b<4294967296^nw a:=Cs.1 h
  rw [Nat.pow_succ];omega
theorem Fz (v k:Nat):(AK v++(List.replicate (nw v+k) 0).drop (AK v).length).length=nw v+k/\W32 (AK v++(List.replicate (nw v+k) 0).drop (AK v).length)/\val (AK v++(List.replicate (nw v+k) 0).drop (AK v).length)=v:=by
  have e:(List.replicate (nw v+k) 0).drop (AK v).length=List.replicate k 0:=by rw [List.drop_replicate];congr 1;unfold nw;omega
  rw [e]
  refine ⟨by simp [nw],(Br v).append (W32.zeros k),?_⟩
  rw [L_,CY,EM];omega
theorem Id {os:List Nat} {p c n:Nat} (hl:os.length=n) (hp:p<n) (h0:os.getD p 0=0):val (os.set p c)=val os+c*4294967296^p:=by
  have e:=Fk (xs:=os) (i:=p) Z c
  rw [h0] at e;omega
theorem Q8 {os:List Nat} {a b i:Nat} (hv:val os=val ((AK a).take i)*b):∀j,i+nw b<=j->os.getD j 0=0:=λj hj=>by
  refine GX (m:=i+nw b) ?_ hj
  rw [hv,Nat.pow_add]
  refine Nat.mul_lt_mul'' (Nat.lt_of_lt_of_le (HD ((Br a).take i)) (Nat.pow_le_pow_right Z (by simp;omega))) (B7 b)
theorem F6 {os:List Nat} {p q v:Nat} (h:∀j,p<=j->os.getD j 0=0) (hq:q<p):∀j,p<=j->(os.set q v).getD j 0=0:=λj hj=>by
  rw [List.getD_eq_getElem?_getD,List.getElem?_set_ne Z,<-List.getD_eq_getElem?_getD]
  exact h j hj
theorem Yf {a b i:Nat}:val ((AK a).take i)*b+(AK a).getD i 0*b*4294967296^i=val ((AK a).take (i+1))*b:=by
  rw [BW];grind
theorem bK {x y:Nat} (hx:x<18446744073709551616) (hy:y<18446744073709551616):val [x%4294967296,x/4294967296,y%4294967296,y/4294967296]=x+y*18446744073709551616:=by
  simp only [val];omega
theorem Pg (xs:List Nat):((Aj xs).all λu=>u.oneCell')=true:=List.all_eq_true.2 (Wx xs)
theorem NN (xs:List Nat) (k:Nat):(Aj xs).take k=Aj (xs.take k):=by simp [Aj,List.map_take]
theorem Ph (xs ns:List Nat):Gc (Aj xs) 0 (Aj ns)=Aj (ns++xs.drop ns.length):=by simp [Gc,Aj,List.map_drop]
end
section
set_option maxRecDepth 100000
theorem Zv (a b p q c c2:Nat) (ha:nw a<=1099511627776) (hb:nw b<=1099511627776) (w:World) (hp:w.heap[p]?=some (.cells (Aj (Ar a)).toArray 89 (0,0))) (hq:w.heap[q]?=some (.cells (Aj (Ar b)).toArray 89 (0,0))):Calls prog 259 #[(qz (jk p) (nw a) c),(qz (jk q) (nw b) c2)] w (Ac w (vI (Fy a b))):=by
 have hla:=CQ a
 have hlb:=CQ b
 refine AW (args:=[(qz (jk p) (nw a) c),(qz (jk q) (nw b) c2)]) func259 O O (A_ O) (zM (sL [0,1] O) (q4 (asg' O (oNl' (q1 (q4 (AL O (AD (v:=(vN (nw a))) (AE O underlying220) O (AL O (AD (v:=(vN (nw b))) (AE O underlying220) O (AD (Bv (c:=(decide ((nw a)≠(nw b)))) O O (bQ (a:=nw a) (b:=nw b))) O ?_)))))))))))
 refine oNl' (zB (sL [0,1,4,10] O) (zA ?_))
 refine zK O (λhc0=>?_) (λhc0=>?_)
 ·replace hc0:=xT hc0
  refine q4 (AL O (AD (v:=(vN (nw a))) (AE O underlying220) O (AL O (AD (v:=(vN (nw b))) (AE O underlying220) O (AD (Bt (c:=((nw a:Int)-(nw b:Int))) O O (BJ Z Z)) O (ck' call282 (Y9 _ Z Z) O (zL (k:=16) (u:=(vI (Fy a b))) O (by rw [Xl hc0]) (asg' O (oNl' (zB (sL [0,1,4] O) (zA ?_)))))))))))
  exact zG (zJ (ret_one O (rd_tmp (v:=(vI (Fy a b))) O) (λw hw=>⟨rfl,hw.out⟩)))
 ·replace hc0:=xS hc0
  refine zC (q1 (q4 (AL O (AD (v:=(vN (nw a))) (AE O underlying220) O (AD (Bt (c:=(((nw a:Nat):Int)-1)) O O (BJ Z Z)) O (asg' O (oNl' (zB (sL [0,1,4,5] O) (zA (zI ?_))))))))))
  refine zy (tg λ(k:Nat)=>k<=nw a/\(AK a).drop k=(AK b).drop k) (tg λ(k:Nat)=>[(0,(qz (jk p) (nw a) c)),(1,(qz (jk q) (nw b) c2)),(5,(vI (((k:Nat):Int)-1)))]) (tg λ(k:Nat)=>[]) (tg λ(k:Nat)=>k) (nw a) (⟨Nat.le_refl _,by rw [List.drop_of_length_le (by exact Nat.le_refl _),List.drop_of_length_le (by unfold nw at *;omega)]⟩) (sF O) sr (λk hJ=>?_)
  obtain ⟨hk,hd⟩:=hJ
  refine zX (q4 (AL O (AD (D1 (c:=(decide ((0:Int)<=(((k:Nat):Int)-1)))) O O O) O (oNl' (zB (sL [0,1,5,21] O) (zA ?_))))))
  refine zK O (λhc1=>?_) (λhc1=>?_)
  ·replace hc1:=xT hc1
   have hk0:0<k:=by omega
   refine yO (k:=5) (u:=(vN (k-1))) O (by congr 1;omega) (zC (q1 (zI (zX (C8 (El 9) sr ?_)))))
   have ea:(Ar a).getD (k-1) 0=(AK a).getD (k-1) 0:=Dl Z
   have eb:(Ar b).getD (k-1) 0=(AK b).getD (k-1) 0:=Dl Z
   refine Bp O (Bp O (Al (v:=(pP p (k-1))) O (AG (j:=k-1) O O underlying220 sizeOf89 O Z jX) ?_))
   have hx1:(Ar a).getD (k-1) 0<4294967296:=W32.getD (CU a) (k-1)
   refine Al O (Bc (v:=(vK .u32 ((Ar a).getD (k-1) 0))) O (λw' hw=>CA.at0 (hw.oldCA jX (FB hp)) (BF (xs:=Ar a) (j:=(k-1)) Z)) isAgg89) (Bp O (Bp O (Al (v:=(pP q (k-1))) O (AG (j:=k-1) O O underlying220 sizeOf89 O Z jX) ?_)))
   have hx2:(Ar b).getD (k-1) 0<4294967296:=W32.getD (CU b) (k-1)
   refine Al O (Bc (v:=(vK .u32 ((Ar b).getD (k-1) 0))) O (λw' hw=>CA.at0 (hw.oldCA jX (FB hq)) (BF (xs:=Ar b) (j:=(k-1)) Z)) isAgg89) (Al O (Bv (c:=(decide (((Ar a).getD (k-1) 0)≠((Ar b).getD (k-1) 0)))) O O (bQ (a:=(Ar a).getD (k-1) 0) (b:=(Ar b).getD (k-1) 0))) (zQ (zB (sL [0,1,5,32] O) (zA ?_))))
   refine zK O (λhc2=>?_) (λhc2=>?_)
   ·replace hc2:=xT hc2
    have hcw:=SR Z hk0 hk hd Z
    refine zX (zX (C8 (El 9) sr (Bp O (Bp O (Al (v:=(pP p (k-1))) O (AG (j:=k-1) O O underlying220 sizeOf89 O Z jX) ?_)))))
    have hx3:(Ar a).getD (k-1) 0<4294967296:=W32.getD (CU a) (k-1)
    refine Al O (Bc (v:=(vK .u32 ((Ar a).getD (k-1) 0))) O (λw' hw=>CA.at0 (hw.oldCA jX (FB hp)) (BF (xs:=Ar a) (j:=(k-1)) Z)) isAgg89) (Bp O (Bp O (Al (v:=(pP q (k-1))) O (AG (j:=k-1) O O underlying220 sizeOf89 O Z jX) ?_)))
    have hx4:(Ar b).getD (k-1) 0<4294967296:=W32.getD (CU b) (k-1)
    refine Al O (Bc (v:=(vK .u32 ((Ar b).getD (k-1) 0))) O (λw' hw=>CA.at0 (hw.oldCA jX (FB hq)) (BF (xs:=Ar b) (j:=(k-1)) Z)) isAgg89) (Al O (Ab (c:=(decide (((Ar a).getD (k-1) 0)<((Ar b).getD (k-1) 0)))) O O (DA (a:=(Ar a).getD (k-1) 0) (b:=(Ar b).getD (k-1) 0))) (zQ (zB (sL [0,1,5,41] O) (zA ?_))))
    refine zK O (λhc3=>?_) (λhc3=>?_)
    ·replace hc3:=xT hc3
     rw [if_pos Z] at hcw
     exact q4 (asg' O (oNl' (zA (zG (zJ (zR (zJ (z7 (zR (zJ (ret_one O (rd_tmp (v:=(vI (-1:Int))) O) (λw hw=>⟨by rw [hcw],hw.out⟩))))))))))))
    ·replace hc3:=xS hc3
     rw [if_neg Z] at hcw
     exact zC (q2 (asg' O (oNl' (zA (zG (zR (zJ (z7 (zR (zJ (ret_one O (rd_tmp (v:=(vI 1)) O) (λw hw=>⟨by rw [hcw],hw.out⟩))))))))))))
   ·replace hc2:=xS hc2
    exact zC (zF (zA (zH (AL O (AD (Bt (c:=(((k-1:Nat):Int)-1)) O O (BJ Z Z)) O (asg' O (oNl' (zB (sL [0,1,5] O) (zm (k-1) (⟨Z,SY (by unfold nw at hc0;omega) Z hk hd Z⟩) Z (sF O) sr)))))))))
  ·replace hc1:=xS hc1
   have hk0:k=0:=by omega
   subst hk0
   have hz:=Uh hd
   exact zU (zO (zY (zP (q2 (asg' O (oNl' (zA (zG (ret_one O (rd_tmp (v:=(vI 0)) O) (λw hw=>⟨by rw [hz],hw.out⟩))))))))))
end
end Go.Proofs.YtbfdamnfcmefmaaGreatDoor
