import Derived.Test.YtfbomiejpbchdaaGreatPart06
import Derived.Test.YtfbomiejpbchdaaGreatPart09
namespace Go.Proofs.YtfbomiejpbchdaaGreat
open Go Go.RowKit
set_option linter.unusedVariables false
set_option linter.unusedSimpArgs false
section
set_option maxRecDepth 100000
theorem Ig (b m c:Nat) (bs:List Nat) (hbs:W32 bs) (hm:m<=bs.length) (hc:m<=c) (hL:c<4398046511104) (w:World) (hb:w.heap[b]?=some (.cells (Al bs).toArray 101 (0,0))):Calls Tryz.prog 149 #[(Value.slice (some ⟨b,0,none⟩) m c)] w (Ax w (aG (AV (val (bs.take m))))):=by
 have hle:=JR bs m
 have hval:=Ka bs m
 have hwd:=H5 hbs hm
 have hnw:=OS hbs hm
 generalize hK:Dh bs m=K at *
 refine Ad (args:=[(Value.slice (some ⟨b,0,none⟩) m c)]) Tryz.func149 rfl rfl (Af rfl) (AE.subF (sL [0] rfl) (q4 (al Fg rfl λb1=>AD.nil (q2 ?_))))
 refine AO rfl (IC Tryz.call198 (λw hw=>Rs _ m c bs hbs (by omega) (by omega) (by omega) w (hw.old (by simp) hb)) rfl (AD.retell (k:=10) (u:=(Value.slice (some ⟨b,0,none⟩) K c)) rfl (by rw [hK]) (AL rfl (q6 (sL [0,2] rfl) (q4 ?_)))))
 refine AO rfl (AH (v:=(vN K)) (AF rfl Tryz.underlying232) rfl (AH (IB (c:=(decide (K<=2))) rfl rfl (Um (a:=K) (b:=2))) rfl (AD.nil (AC.subF (sL [0,2,13] rfl) (AC.then_ ?_)))))
 refine AE.cond rfl (λhc0=>?_) (λhc0=>?_)
 ·replace hc0:=of_decide_eq_true hc0
  refine q4 (AL rfl (AD.nil (q1 (q4 (AO rfl ?_)))))
  refine AH (v:=(vN K)) (AF rfl Tryz.underlying232) rfl (AO rfl (AD.nil (AC.then_ (AE.block ?_))))
  refine AE.lp2 (tg λ(i:Nat) (n:Nat)=>i<=K/\n=val (bs.take i)) (tg λ(i:Nat) (n:Nat)=>[(0,(Value.slice (some ⟨b,0,none⟩) K c)),(2,(pP b1 0)),(14,(Value.slice (some ⟨b,0,none⟩) K c)),(15,(vN K)),(16,(vN i)),(3,(vK .u64 n))]) (tg λ(i:Nat) (n:Nat)=>[Ac b1 47 (AV 0)]) (tg λ(i:Nat) (n:Nat)=>K-i) 0 0 (⟨Nat.zero_le _,by simp [val]⟩) (sF rfl) sr (λi n hJ=>?_)
  obtain ⟨hi,hn⟩:=hJ
  refine q4 (AH (Ag (c:=(decide (i<K))) rfl rfl (DA (a:=i) (b:=K))) rfl (AD.nil (q1 ?_)))
  refine AE.cond rfl (λhc1=>?_) (λhc1=>?_)
  ·replace hc1:=of_decide_eq_true hc1
   refine AE.skip (q1 (AE.block (q4 (AO rfl (AH (v:=(pP b i)) (AI (j:=i) rfl rfl Tryz.underlying232 Tryz.sizeOf101 rfl (by omega) (by simp)) rfl ?_)))))
   have hx1:bs.getD i 0<4294967296:=W32.getD hbs i
   refine AH (BT (v:=(vK .u32 (bs.getD i 0))) rfl (λw' hw=>CA.at0 (hw.oldCA (by simp) (EB hb)) (BH (xs:=bs) (j:=i) (by omega))) Tryz.isAgg101) rfl (AL rfl (AL rfl (AD.nil (AC.subF (sL [0,2,14,15,16,3,4,5] rfl) (AC.then_ ?_)))))
   refine AE.region (AO rfl (AO rfl (AH (Ar (c:=((bs.getD i 0:Nat):Int)) rfl Tryz.underlying101 Tryz.underlying45 (BS (by omega))) rfl (AO rfl ?_))))
   have hiK:i<K:=hc1
   have hi2:i<2:=by omega
   have hn2:n<4294967296^i:=by rw [hn];exact Nat.lt_of_lt_of_le (F8 (hbs.take i)) (Nat.pow_le_pow_right (by omega) (by simp;omega))
   have hsh:=UE (i:=i) (hbs.getD i) hi2
   have hn3:n<18446744073709551616:=QM hn2 hi2
   refine AH (BZ (c:=((32*i:Nat):Int)) rfl rfl (Bq (a:=32) (b:=i) (by omega))) rfl (AH (v:=(vK .u64 (bs.getD i 0*2^(32*i)))) (GF (s:=32*i) rfl rfl rfl (show 32*i<=64 by omega) (GX hsh)) rfl (AH (Im (c:=((n+bs.getD i 0*2^(32*i):Nat):Int)) rfl rfl (JQ hn3 hsh (HH (by rw [<-WA];exact hn2)))) rfl (AL rfl (AD.nil (AC.subF (sL [0,2,14,15,16,3] rfl) ?_)))))
   refine AC.in_normal (AC.then_ (AE.region (AH (AT (c:=((i+1:Nat):Int)) rfl rfl (AR (a:=i) (b:=1) (by omega))) rfl (AO rfl (AD.nil ?_)))))
   exact AC.subF (sL [0,2,14,15,16,3] rfl) (AC.round2 (i+1) (n+bs.getD i 0*2^(32*i)) (⟨by omega,by rw [BV,<-hn,WA]⟩) (by omega) (sF rfl) sr)
  ·replace hc1:=of_decide_eq_false hc1
   refine AE.exit (AC.then_exit (AC.round2_exit (AC.in_exit (q2 (AO rfl ?_)))))
   have hnn:n=val (bs.take K):=by rw [hn,show i=K by omega]
   have hv2:val (bs.take m)<18446744073709551616:=by rw [<-hval];exact Nat.lt_of_lt_of_le (F8 (hbs.take K)) (by rw [List.length_take];exact Nat.le_trans (Nat.pow_le_pow_right (n:=4294967296) (by omega) (show min K bs.length<=2 by omega)) (by decide))
   refine AH (v:=(aG ([(vK .u64 n),(Value.string (Bh 0))]))) (AS (zs:=AV 0) (vs:=[(vK .u64 n),(Value.string (Bh 0))]) (pv:=[(0,(vK .u64 n))]) (places:=[(0,1),(1,1)]) Tryz.zeroValue47 Tryz.underlying47 (λw=>by simp [Tryz.sizeOf9,Tryz.sizeOf45]) rfl rfl) rfl (AD.retell (k:=30) (u:=(aG (AV (val (bs.take m))))) rfl (by rw [DQ hv2,<-hval,<-hnn];rfl) (A6 rfl Tryz.sizeOf47 rfl (AD.nil (AC.subF (sL [0,2,14,15,16,3] rfl) (AC.then_ ?_)))))
   exact AE.ret (AC.then_ret (AU rfl (Ay (i:=0) (cs:=AV (val (bs.take m))) rfl rfl Tryz.isAgg47 Tryz.sizeOf47 rfl) (λw hw=>⟨rfl,hw.out⟩)))
 ·replace hc0:=of_decide_eq_false hc0
  refine AE.skip (q2 (AO rfl (AH (v:=(vN K)) (AF rfl Tryz.underlying232) rfl (AH (BZ (c:=((4*K:Nat):Int)) rfl rfl (Bq (a:=4) (b:=K) (by omega))) rfl (AD.openV (V:=λb2=>(Value.slice (some ⟨b2,0,none⟩) 0 (4*K))) (T:=5) (cs:=Iq (List.replicate (4*K) 0)) (AN rfl) (OO (m:=0) (c:=4*K) rfl rfl (by omega) (by omega)) rfl (Af rfl) λb2=>?_)))))
  refine AL rfl (q6 (sL [0,2,6] rfl) (q4 (AO rfl (AH (v:=(vN K)) (AF rfl Tryz.underlying232) rfl (AO rfl ?_)))))
  refine AD.nil (AC.then_ (AE.block ?_))
  refine AE.lp2 (tg λ(i:Nat) (bz:List Nat)=>i<=K/\bz=bytesN (bs.take i)++List.replicate (4*(K-i)) 0) (tg λ(i:Nat) (bz:List Nat)=>[(2,(pP b1 0)),(35,(Value.slice (some ⟨b,0,none⟩) K c)),(36,(vN K)),(37,(vN i)),(6,(Value.slice (some ⟨b2,0,none⟩) (4*i) (4*K)))]) (tg λ(i:Nat) (bz:List Nat)=>[Ac b2 5 (Iq bz),Ac b1 47 (AV 0)]) (tg λ(i:Nat) (bz:List Nat)=>K-i) 0 (List.replicate (4*K) 0) (⟨Nat.zero_le _,by simp [bytesN]⟩) (sF rfl) sr (λi bz hJ=>?_)
  obtain ⟨hi,hz⟩:=hJ
  refine q4 (AH (Ag (c:=(decide (i<K))) rfl rfl (DA (a:=i) (b:=K))) rfl (AD.nil (q1 ?_)))
  refine AE.cond rfl (λhc2=>?_) (λhc2=>?_)
  ·replace hc2:=of_decide_eq_true hc2
   refine AE.skip (q1 (AE.block (q4 (AH (v:=(pP b i)) (AI (j:=i) rfl rfl Tryz.underlying232 Tryz.sizeOf101 rfl (by omega) (by simp)) rfl ?_))))
   have hx2:bs.getD i 0<4294967296:=W32.getD hbs i
   refine AH (BT (v:=(vK .u32 (bs.getD i 0))) rfl (λw' hw=>CA.at0 (hw.oldCA (by simp) (EB hb)) (BH (xs:=bs) (j:=i) (by omega))) Tryz.isAgg101) rfl (AL rfl (AD.nil (AC.subF (sL [2,35,36,37,6,8] rfl) (AC.then_ (AE.region ?_)))))
   refine AO rfl (AO rfl (AH (Ar (c:=(((bs.getD i 0)%256:Nat):Int)) rfl Tryz.underlying101 Tryz.underlying5 I4) rfl (AO rfl (AH (Cj (s:=8) (c:=(((bs.getD i 0)/256:Nat):Int)) rfl rfl rfl (by decide) (Fa (a:=bs.getD i 0) (s:=8))) rfl (AH (Ar (c:=((((bs.getD i 0)/256)%256:Nat):Int)) rfl Tryz.underlying101 Tryz.underlying5 I4) rfl ?_)))))
   refine AO rfl (AH (Cj (s:=16) (c:=(((bs.getD i 0)/65536:Nat):Int)) rfl rfl rfl (by decide) (Fa (a:=bs.getD i 0) (s:=16))) rfl (AH (Ar (c:=((((bs.getD i 0)/65536)%256:Nat):Int)) rfl Tryz.underlying101 Tryz.underlying5 I4) rfl (AO rfl (AH (Cj (s:=24) (c:=(((bs.getD i 0)/16777216:Nat):Int)) rfl rfl rfl (by decide) (Fa (a:=bs.getD i 0) (s:=24))) rfl (AH (Ar (c:=((((bs.getD i 0)/16777216)%256:Nat):Int)) rfl Tryz.underlying101 Tryz.underlying5 I4) rfl ?_)))))
   refine AD.openV (V:=λb3=>(Value.slice (some ⟨b3,0,none⟩) 4 4)) (T:=5) (cs:=Iq ([(bs.getD i 0)%256,((bs.getD i 0)/256)%256,((bs.getD i 0)/65536)%256,((bs.getD i 0)/16777216)%256])) (AN rfl) (Ah (cs:=Iq ([(bs.getD i 0)%256,((bs.getD i 0)/256)%256,((bs.getD i 0)/65536)%256,((bs.getD i 0)/16777216)%256])) (pv:=[(0,(vK .u8 ((bs.getD i 0)%256))),(1,(vK .u8 (((bs.getD i 0)/256)%256))),(2,(vK .u8 (((bs.getD i 0)/65536)%256))),(3,(vK .u8 (((bs.getD i 0)/16777216)%256)))]) Tryz.underlying22 Tryz.sizeOf5 Tryz.zeroValue5 (by decide) (by decide) rfl (by kernel_rfl)) rfl (Af rfl) λb3=>?_
   obtain ⟨bz2,hz2,hlay⟩:∃bz2,bz2=bytesN (bs.take (i+1))++List.replicate (4*(K-(i+1))) 0/\Fx (Iq bz) (4*i) (Iq ([(bs.getD i 0)%256,((bs.getD i 0)/256)%256,((bs.getD i 0)/65536)%256,((bs.getD i 0)/16777216)%256]))=Iq bz2:=⟨_,rfl,by rw [hz];exact O7 hc2 (by omega)⟩
   refine AD.append_u8 (i:=1) (j:=0) (m:=4*i) (c:=4*K) (k:=4) (cs':=Iq bz2) (L':=[Ac b3 5 (Iq ([(bs.getD i 0)%256,((bs.getD i 0)/256)%256,((bs.getD i 0)/65536)%256,((bs.getD i 0)/16777216)%256])),Ac b2 5 (Iq bz2),Ac b1 47 (AV 0)]) rfl (AN rfl) rfl rfl rfl rfl rfl rfl (by omega) (by rw [G8,hz];simp [B0];omega) hlay rfl (Af rfl) (AL rfl (AD.nil (AC.subF (sL [2,35,36,37,6] rfl) (AC.in_normal (AC.then_ ?_)))))
   exact AE.region (AH (AT (c:=((i+1:Nat):Int)) rfl rfl (AR (a:=i) (b:=1) (by omega))) rfl (AO rfl (AD.nil (AC.subF (sL [2,35,36,37,6] rfl) (AC.round2 (i+1) bz2 (⟨by omega,hz2⟩) (by omega) (sF rfl) (sl sr))))))
  ·replace hc2:=of_decide_eq_false hc2
   refine AE.exit (AC.then_exit (AC.round2_exit (AC.in_exit (q2 (AO rfl ?_)))))
   have hbl:bz.length=4*i:=by rw [hz,List.length_append,B0,List.length_take,List.length_replicate];omega
   have htk:(Iq bz).take (4*i)=Iq bz:=List.take_of_length_le (by rw [G8];omega)
   refine AH (v:=(Value.string (Cz bz))) (Iz (i:=0) (m:=4*i) (ns:=bz) rfl rfl htk hbl) rfl ?_
   have hv3:¬val (bs.take m)<18446744073709551616:=λh=>by have:=Jn h;omega
   have hbz:bz=bytesN (bs.take K):=by rw [hz,show i=K by omega];simp
   refine AH (v:=(aG ([(vK .u64 (Bw 0)),(Value.string (Cz bz))]))) (AS (zs:=AV 0) (vs:=[(vK .u64 (Bw 0)),(Value.string (Cz bz))]) (pv:=[(1,(Value.string (Cz bz)))]) (places:=[(0,1),(1,1)]) Tryz.zeroValue47 Tryz.underlying47 (λw=>by simp [Tryz.sizeOf9,Tryz.sizeOf45]) rfl rfl) rfl (AD.retell (k:=58) (u:=(aG (AV (val (bs.take m))))) rfl (by rw [SS hv3,hwd,<-hbz];rfl) (DU rfl Tryz.sizeOf47 rfl (AD.nil (AC.subF (sL [2,35,36,37,6] rfl) (AC.then_ ?_)))))
   exact AE.ret (AU rfl (Ay (i:=1) (cs:=AV (val (bs.take m))) rfl rfl Tryz.isAgg47 Tryz.sizeOf47 rfl) (λw hw=>⟨rfl,hw.out⟩))
end
section
def FK (a b:Nat):Int:=if a<b then -1 else if a=b then 0 else 1
theorem JA {a b:Nat}:FK a b<0↔a<b:=by
  unfold FK;split
  · omega
  · split<;>omega
theorem Pp {a b:Nat}:FK a b=0↔a=b:=by
  unfold FK;split
  · omega
  · split<;>omega
theorem U_ {a b:Nat} (h:nw a≠nw b):((nw a:Int)-(nw b:Int)).sign=FK a b:=by
  unfold FK
  by_cases h1:nw a<nw b
  · have h2:a<b:=by
      rcases Nat.lt_or_ge a b with h2|h2
      · exact h2
      · have:=DL h2;omega
    rw [if_pos h2,Int.sign_eq_neg_one_of_neg (by omega)]
  · have h2:b<a:=by
      rcases Nat.lt_or_ge b a with h2|h2
      · exact h2
      · have:=DL h2;omega
    rw [if_neg (by omega),if_neg (by omega),Int.sign_eq_one_of_pos (by omega)]
theorem Sx {xs ys:List Nat} {k:Nat} (hx:W32 xs) (hl:xs.length=ys.length) (h0:0<k) (hk:k<=xs.length) (hd:xs.drop k=ys.drop k) (h:xs.getD (k-1) 0<ys.getD (k-1) 0):val xs<val ys:=by
  have e1:=EX xs k hk
  have e2:=EX ys k (by omega)
  have s1:=BV xs (k-1)
  have s2:=BV ys (k-1)
  rw [show k-1+1=k by omega] at s1 s2
  have h1:val (xs.take (k-1))<4294967296^(k-1):=Nat.lt_of_lt_of_le (F8 (hx.take (k-1))) (Nat.pow_le_pow_right (by omega) (by simp;omega))
  have h2:(xs.getD (k-1) 0+1)*4294967296^(k-1)<=ys.getD (k-1) 0*4294967296^(k-1):=Nat.mul_le_mul_right _ h
  rw [Nat.add_mul] at h2
  rw [hd] at e1
  omega
theorem Qo {xs ys:List Nat} {k:Nat} (hl:xs.length=ys.length) (h0:0<k) (hk:k<=xs.length) (hd:xs.drop k=ys.drop k) (h:xs.getD (k-1) 0=ys.getD (k-1) 0):xs.drop (k-1)=ys.drop (k-1):=by
  have h1:k-1<xs.length:=by omega
  have h2:k-1<ys.length:=by omega
  rw [List.drop_eq_getElem_cons h1,List.drop_eq_getElem_cons h2,show k-1+1=k by omega,hd]
  simp [h1,h2] at h
  rw [h]
theorem RD {a b k:Nat} (hl:nw a=nw b) (h0:0<k) (hk:k<=nw a) (hd:(AJ a).drop k=(AJ b).drop k) (hne:(AJ a).getD (k-1) 0≠(AJ b).getD (k-1) 0) :
    FK a b=if (AJ a).getD (k-1) 0<(AJ b).getD (k-1) 0 then -1 else 1:=by
  unfold FK
  split
  · rename_i h
    rw [if_pos]
    rcases Nat.lt_or_ge ((AJ a).getD (k-1) 0) ((AJ b).getD (k-1) 0) with h1|h1
    · exact h1
    · have:=Sx (Bn b) hl.symm h0 (by unfold nw at *;omega) hd.symm (show (AJ b).getD (k-1) 0<(AJ a).getD (k-1) 0 by omega)
      rw [CT,CT] at this;omega
  · rename_i h
    have h2:¬(AJ a).getD (k-1) 0<(AJ b).getD (k-1) 0:=λh1=>by
      have:=Sx (Bn a) hl h0 hk hd h1
      rw [CT,CT] at this;omega
    rw [if_neg h2,if_neg]
    intro e;subst e;exact hne rfl
theorem Sa {a b:Nat} (hd:(AJ a).drop 0=(AJ b).drop 0):FK a b=0:=by
  rw [Pp]
  rw [List.drop_zero,List.drop_zero] at hd
  rw [<-CT a,<-CT b,hd]
theorem DJ {v i:Nat} (h:i<nw v):(Av v).getD i 0=(AJ v).getD i 0:=by
  rw [<-Hr v]
  simp [List.getD_eq_getElem?_getD,List.getElem?_take,h]
theorem EC {v i:Nat} (h:¬i<nw v):(AJ v).getD i 0=0:=by
  unfold nw at h;simp [List.getD_eq_getElem?_getD,Nat.not_lt.1 h]
theorem C5 {v i:Nat} (h:nw v<=i):val ((AJ v).take i)=v:=by
  rw [List.take_of_length_le h,CT]
theorem UP (v:Nat):(Av v).length<=nw v+2:=by
  unfold Av;split
  · simp
  · unfold nw;omega
theorem HO (v:Nat):val ((Av v).take (nw v))=v:=by rw [Hr,CT]
theorem NU {os ys:List Nat} {X i n c:Nat} (hl:os.length=n) (hi:i<n) (hv:val os+c*4294967296^i=X+val (ys.take i)) :
    val (os.set i ((os.getD i 0+ys.getD i 0+c)%4294967296))+(os.getD i 0+ys.getD i 0+c)/4294967296*4294967296^(i+1)=X+val (ys.take (i+1)):=by
  have e:=Ey (xs:=os) (i:=i) (by omega) ((os.getD i 0+ys.getD i 0+c)%4294967296)
  have t:=BV ys i
  have hm:=Nat.div_add_mod (os.getD i 0+ys.getD i 0+c) 4294967296
  rw [Nat.pow_succ]
  generalize os.getD i 0=o at *
  generalize ys.getD i 0=y at *
  generalize (o+y+c)/4294967296=q at *
  generalize (o+y+c)%4294967296=r at *
  generalize 4294967296^i=p at *
  have hm2:(4294967296*q+r)*p=(o+y+c)*p:=by rw [hm]
  grind
theorem N7 {os:List Nat} {X Y n c i:Nat} (hl:os.length=n) (hw:W32 os) (hi:n<=i) (hX:X+Y<4294967296^n) (hv:val os+c*4294967296^i=X+Y):val os=X+Y:=by
  have h1:4294967296^n<=4294967296^i:=Nat.pow_le_pow_right (by omega) hi
  rcases Nat.eq_zero_or_pos c with h|h
  · subst h;omega
  · have:1*4294967296^i<=c*4294967296^i:=Nat.mul_le_mul_right _ h
    omega
theorem Te {os ys:List Nat} {X i n c:Nat} (hl:os.length=n) (hi:i<n) (hw:W32 os) (hy:W32 ys) (hc:c<=1) (hv:val os+val (ys.take i)=X+c*4294967296^i) :
    val (os.set i ((os.getD i 0+(4294967296-ys.getD i 0)+(4294967296-c))%4294967296))+val (ys.take (i+1))=X+Ih (os.getD i 0) (ys.getD i 0+c)*4294967296^(i+1):=by
  have e:=Ey (xs:=os) (i:=i) (by omega) ((os.getD i 0+(4294967296-ys.getD i 0)+(4294967296-c))%4294967296)
  have t:=BV ys i
  have ho:=hw.getD i
  have hy':=hy.getD i
  rw [Nat.pow_succ]
  have hm:(os.getD i 0+(4294967296-ys.getD i 0)+(4294967296-c))%4294967296+ys.getD i 0+c=os.getD i 0+Ih (os.getD i 0) (ys.getD i 0+c)*4294967296:=by
    unfold Ih;split<;>omega
  generalize (os.getD i 0+(4294967296-ys.getD i 0)+(4294967296-c))%4294967296=r at *
  generalize Ih (os.getD i 0) (ys.getD i 0+c)=q at *
  generalize os.getD i 0=o at *
  generalize ys.getD i 0=y at *
  generalize 4294967296^i=p at *
  have hm2:(r+y+c)*p=(o+q*4294967296)*p:=by rw [hm]
  grind
theorem Re {os:List Nat} {X Y n c i:Nat} (hl:os.length=n) (hw:W32 os) (hi:i=n) (hX:Y<=X) (hv:val os+Y=X+c*4294967296^i) (hX2:X<4294967296^n):val os=X-Y:=by
  have h1:=F8 hw
  rw [hl] at h1
  subst hi
  rcases Nat.eq_zero_or_pos c with h|h
  · subst h;omega
  · have:1*4294967296^i<=c*4294967296^i:=Nat.mul_le_mul_right _ h
    omega
theorem PB (x y:Nat):Ih x y<=1:=by unfold Ih;split<;>omega
theorem SI {os ys:List Nat} {S W i k n c:Nat} (hl:os.length=n) (hi:i+k<n) (hv:val os+c*4294967296^(i+k)=S+W*val (ys.take k)*4294967296^i) :
    val (os.set (i+k) ((c+(W*ys.getD k 0+os.getD (i+k) 0))%4294967296))+(c+(W*ys.getD k 0+os.getD (i+k) 0))/4294967296*4294967296^(i+(k+1))=S+W*val (ys.take (k+1))*4294967296^i:=by
  have e:=Ey (xs:=os) (i:=i+k) (by omega) ((c+(W*ys.getD k 0+os.getD (i+k) 0))%4294967296)
  have t:=BV ys k
  have hm:=Nat.div_add_mod (c+(W*ys.getD k 0+os.getD (i+k) 0)) 4294967296
  rw [t,show i+(k+1)=i+k+1 by omega,Nat.pow_succ]
  rw [Nat.pow_add] at *
  generalize os.getD (i+k) 0=o at *
  generalize ys.getD k 0=y at *
  generalize (c+(W*y+o))/4294967296=q at *
  generalize (c+(W*y+o))%4294967296=r at *
  generalize 4294967296^i=p at *
  generalize 4294967296^k=p' at *
  generalize val (ys.take k)=vy at *
  have hm2:(4294967296*q+r)*(p*p')=(c+(W*y+o))*(p*p'):=by rw [hm]
  grind
section
variable {n:Nat} {F:List (Nat×Value)} {w0:BJ} {L:List As} {v:Value} {x y:Operand} {d:Option Tmp} {t:TypeId} {p:String} {af:Array Edge} {g:Option (Nat×Bool)}
theorem AD.copy_u32 {ops:Array Oper} {rest:List Oper} {Q:Exit->Act->World->Prop} {L':List As} {i j b b' m c k c' dd:Nat} {cs ds ns cs':List Value} {o:Oper} (ho:o=⟨some dd,.call { callee:=.builtin .copy,args:=#[x,y],argTypes:=#[232,232] },t,p,af,g⟩) (hw:Wt ops n F o)
    (hx:evF F x=some (.slice (some ⟨b,0,none⟩) m c)) (hy:evF F y=some (.slice (some ⟨b',0,none⟩) k c')) (hi:L[i]?=some (Ac b 101 cs)) (hj:L[j]?=some (Ac b' 101 ds)) (hns:ds.take k=ns) (hnl:ns.length=k) (h1:(ns.all λu=>u.oneCell')=true) (hkm:k<=m) (hfit:k<=cs.length)
    (hcs:Fx cs 0 ns=cs') (hL:L.set i (Ac b 101 cs')=L') (hd:dd<n) (next:AD Tryz.prog ops rest Q n ((dd,.int .i64 k)::F) w0 L'):AD Tryz.prog ops (o::rest) Q n F w0 L:=λa w ha hW=>by
  subst ho;subst hcs;subst hL
  unfold wpList
  rw [if_pos (hw a ha)]
  left
  have hca:=EW (off:=0) (k:=k) (hW.get hj)
  rw [List.drop_zero,hns] at hca
  have hr:=run_copy_row (P:=Tryz.prog) w 232 232 t 101 b 0 m c ⟨b',0,none⟩ k c' cs.toArray 101 ns Tryz.underlying232 (by kernel_rfl) (hW.get hi) (by rw [hnl];exact (Nat.min_eq_left hkm).symm) (λq u hu=>by rw [Addr.add_lit];exact hca q u hu) (by simp;omega) (λu hu=>List.all_eq_true.1 h1 u hu)
  unfold Oper.wp
  have he:(execOp a.eval ⟨some dd,.call { callee:=.builtin .copy,args:=#[x,y],argTypes:=#[232,232] },t,p,af,g⟩).run Tryz.prog w=.ok (.value (.int .i64 k)) (w.setRow b (Fx cs 0 ns).toArray):=by
    simp only [execOp,resolve,invoke,builtin,Sem.run_bind,Sem.run_pure,Result.andThen_ok,List.map_toArray,List.map_cons,List.map_nil,ha.ev hx,ha.ev hy,hr,Fx,hnl,goInt]
  rw [he,Oper.upon_value]
  have hg:=hW.get hi
  exact next _ _ (ha.put hd) (hW.turn hi rfl rfl ⟨⟨rfl,rfl,rfl,by simp,λq _ hq=>setRow_other w b q _ (λe=>hq (by simp [e]))⟩,Nat.le_refl _⟩ ⟨_,setRow_heap w b cs.toArray _ 101 _ hg,rfl⟩)
end
theorem TP {a b:Nat} (h:nw b<=nw a):a+b<4294967296^(nw a+1):=by
  have h1:=Bv a
  have h2:b<4294967296^nw a:=Cu.1 h
  rw [Nat.pow_succ];omega
theorem FF (v k:Nat):(AJ v++(List.replicate (nw v+k) 0).drop (AJ v).length).length=nw v+k/\W32 (AJ v++(List.replicate (nw v+k) 0).drop (AJ v).length)/\val (AJ v++(List.replicate (nw v+k) 0).drop (AJ v).length)=v:=by
  have e:(List.replicate (nw v+k) 0).drop (AJ v).length=List.replicate k 0:=by rw [List.drop_replicate];congr 1;unfold nw;omega
  rw [e]
  refine ⟨by simp [nw],(Bn v).append (W32.zeros k),?_⟩
  rw [JS,CT,Dt];omega
theorem HS {os:List Nat} {p c n:Nat} (hl:os.length=n) (hp:p<n) (h0:os.getD p 0=0):val (os.set p c)=val os+c*4294967296^p:=by
  have e:=Ey (xs:=os) (i:=p) (by omega) c
  rw [h0] at e;omega
theorem Ot {os:List Nat} {a b i:Nat} (hv:val os=val ((AJ a).take i)*b):∀j,i+nw b<=j->os.getD j 0=0:=λj hj=>by
  refine Ft (m:=i+nw b) ?_ hj
  rw [hv,Nat.pow_add]
  refine Nat.mul_lt_mul'' (Nat.lt_of_lt_of_le (F8 ((Bn a).take i)) (Nat.pow_le_pow_right (by omega) (by simp;omega))) (Bv b)
theorem FH {os:List Nat} {p q v:Nat} (h:∀j,p<=j->os.getD j 0=0) (hq:q<p):∀j,p<=j->(os.set q v).getD j 0=0:=λj hj=>by
  rw [List.getD_eq_getElem?_getD,List.getElem?_set_ne (by omega),<-List.getD_eq_getElem?_getD]
  exact h j hj
theorem U9 {a b i:Nat}:val ((AJ a).take i)*b+(AJ a).getD i 0*b*4294967296^i=val ((AJ a).take (i+1))*b:=by
  rw [BV];grind
theorem WW {x y:Nat} (hx:x<18446744073709551616) (hy:y<18446744073709551616):val [x%4294967296,x/4294967296,y%4294967296,y/4294967296]=x+y*18446744073709551616:=by
  simp only [val];omega
theorem N8 (xs:List Nat):((Al xs).all λu=>u.oneCell')=true:=List.all_eq_true.2 (T7 xs)
theorem Ly (xs:List Nat) (k:Nat):(Al xs).take k=Al (xs.take k):=by simp [Al,List.map_take]
theorem Nb (xs ns:List Nat):Fx (Al xs) 0 (Al ns)=Al (ns++xs.drop ns.length):=by simp [Fx,Al,List.map_drop]
end
section
set_option maxRecDepth 100000
theorem WC (a b p q c c2:Nat) (ha:nw a<=1099511627776) (hb:nw b<=1099511627776) (w:World) (hp:w.heap[p]?=some (.cells (Al (Av a)).toArray 101 (0,0))) (hq:w.heap[q]?=some (.cells (Al (Av b)).toArray 101 (0,0))):Calls Tryz.prog 237 #[(Value.slice (some ⟨p,0,none⟩) (nw a) c),(Value.slice (some ⟨q,0,none⟩) (nw b) c2)] w (Ax w (vI (FK a b))):=by
 have hla:=CK a
 have hlb:=CK b
 refine Ad (args:=[(Value.slice (some ⟨p,0,none⟩) (nw a) c),(Value.slice (some ⟨q,0,none⟩) (nw b) c2)]) Tryz.func237 rfl rfl (Af rfl) (AE.subF (sL [0,1] rfl) (q4 (AL rfl (AD.nil (q1 ?_)))))
 refine q4 (AO rfl (AH (v:=(vN (nw a))) (AF rfl Tryz.underlying232) rfl (AO rfl (AH (v:=(vN (nw b))) (AF rfl Tryz.underlying232) rfl (AH (CX (c:=(decide ((nw a)≠(nw b)))) rfl rfl (X4 (a:=nw a) (b:=nw b))) rfl ?_)))))
 refine AD.nil (AC.subF (sL [0,1,4,10] rfl) (AC.then_ ?_))
 refine AE.cond rfl (λhc0=>?_) (λhc0=>?_)
 ·replace hc0:=of_decide_eq_true hc0
  refine q4 (AO rfl (AH (v:=(vN (nw a))) (AF rfl Tryz.underlying232) rfl (AO rfl (AH (v:=(vN (nw b))) (AF rfl Tryz.underlying232) rfl (AH (Bf (c:=((nw a:Int)-(nw b:Int))) rfl rfl (BE (by omega) (by omega))) rfl ?_)))))
  refine BY Tryz.call255 (Vl _ (by omega) (by omega)) rfl (AD.retell (k:=16) (u:=(vI (FK a b))) rfl (by rw [U_ hc0]) (AL rfl (AD.nil (AC.subF (sL [0,1,4] rfl) (AC.then_ ?_)))))
  exact AE.ret (AC.then_ret (AU rfl (Am (v:=(vI (FK a b))) rfl) (λw hw=>⟨rfl,hw.out⟩)))
 ·replace hc0:=of_decide_eq_false hc0
  refine AE.skip (q1 (q4 (AO rfl (AH (v:=(vN (nw a))) (AF rfl Tryz.underlying232) rfl (AH (Bf (c:=(((nw a:Nat):Int)-1)) rfl rfl (BE (by omega) (by omega))) rfl ?_)))))
  refine AL rfl (AD.nil (AC.subF (sL [0,1,4,5] rfl) (AC.then_ (AE.block ?_))))
  refine AE.lp1 (tg λ(k:Nat)=>k<=nw a/\(AJ a).drop k=(AJ b).drop k) (tg λ(k:Nat)=>[(0,(Value.slice (some ⟨p,0,none⟩) (nw a) c)),(1,(Value.slice (some ⟨q,0,none⟩) (nw b) c2)),(5,(vI (((k:Nat):Int)-1)))]) (tg λ(k:Nat)=>[]) (tg λ(k:Nat)=>k) (nw a) (⟨Nat.le_refl _,by rw [List.drop_of_length_le (by exact Nat.le_refl _),List.drop_of_length_le (by unfold nw at *;omega)]⟩) (sF rfl) sr (λk hJ=>?_)
  obtain ⟨hk,hd⟩:=hJ
  refine AE.seq (q4 (AO rfl (AH (FB (c:=(decide ((0:Int)<=(((k:Nat):Int)-1)))) rfl rfl rfl) rfl (AD.nil (AC.subF (sL [0,1,5,21] rfl) ?_)))))
  refine AC.then_ ?_
  refine AE.cond rfl (λhc1=>?_) (λhc1=>?_)
  ·replace hc1:=of_decide_eq_true hc1
   have hk0:0<k:=by omega
   refine AE.retell (k:=5) (u:=(vN (k-1))) rfl (by congr 1;omega) (AE.skip (q1 (AE.block (AE.seq (C7 [(0,true),(1,true),(2,true),(3,true),(4,true),(5,true),(6,true),(7,true),(8,true)] sr ?_)))))
   have ea:(Av a).getD (k-1) 0=(AJ a).getD (k-1) 0:=DJ (by omega)
   have eb:(Av b).getD (k-1) 0=(AJ b).getD (k-1) 0:=DJ (by omega)
   refine Bl rfl (Bl rfl (Au (v:=(pP p (k-1))) rfl (AI (j:=k-1) rfl rfl Tryz.underlying232 Tryz.sizeOf101 rfl (by omega) (by simp)) ?_))
   have hx1:(Av a).getD (k-1) 0<4294967296:=W32.getD (CL a) (k-1)
   refine Au rfl (BT (v:=(vK .u32 ((Av a).getD (k-1) 0))) rfl (λw' hw=>CA.at0 (hw.oldCA (by simp) (EB hp)) (BH (xs:=Av a) (j:=(k-1)) (by omega))) Tryz.isAgg101) (Bl rfl (Bl rfl (Au (v:=(pP q (k-1))) rfl (AI (j:=k-1) rfl rfl Tryz.underlying232 Tryz.sizeOf101 rfl (by omega) (by simp)) ?_)))
   have hx2:(Av b).getD (k-1) 0<4294967296:=W32.getD (CL b) (k-1)
   refine Au rfl (BT (v:=(vK .u32 ((Av b).getD (k-1) 0))) rfl (λw' hw=>CA.at0 (hw.oldCA (by simp) (EB hq)) (BH (xs:=Av b) (j:=(k-1)) (by omega))) Tryz.isAgg101) (Au rfl (CX (c:=(decide (((Av a).getD (k-1) 0)≠((Av b).getD (k-1) 0)))) rfl rfl (X4 (a:=(Av a).getD (k-1) 0) (b:=(Av b).getD (k-1) 0))) (AP.nil (AC.subF (sL [0,1,5,32] rfl) (AC.then_ ?_))))
   refine AE.cond rfl (λhc2=>?_) (λhc2=>?_)
   ·replace hc2:=of_decide_eq_true hc2
    have hcw:=RD (by omega) hk0 hk hd (by omega)
    refine AE.seq (AE.seq (C7 [(0,true),(1,true),(2,true),(3,true),(4,true),(5,true),(6,true),(7,true),(8,true)] sr (Bl rfl (Bl rfl (Au (v:=(pP p (k-1))) rfl (AI (j:=k-1) rfl rfl Tryz.underlying232 Tryz.sizeOf101 rfl (by omega) (by simp)) ?_)))))
    have hx3:(Av a).getD (k-1) 0<4294967296:=W32.getD (CL a) (k-1)
    refine Au rfl (BT (v:=(vK .u32 ((Av a).getD (k-1) 0))) rfl (λw' hw=>CA.at0 (hw.oldCA (by simp) (EB hp)) (BH (xs:=Av a) (j:=(k-1)) (by omega))) Tryz.isAgg101) (Bl rfl (Bl rfl (Au (v:=(pP q (k-1))) rfl (AI (j:=k-1) rfl rfl Tryz.underlying232 Tryz.sizeOf101 rfl (by omega) (by simp)) ?_)))
    have hx4:(Av b).getD (k-1) 0<4294967296:=W32.getD (CL b) (k-1)
    refine Au rfl (BT (v:=(vK .u32 ((Av b).getD (k-1) 0))) rfl (λw' hw=>CA.at0 (hw.oldCA (by simp) (EB hq)) (BH (xs:=Av b) (j:=(k-1)) (by omega))) Tryz.isAgg101) (Au rfl (Ag (c:=(decide (((Av a).getD (k-1) 0)<((Av b).getD (k-1) 0)))) rfl rfl (DA (a:=(Av a).getD (k-1) 0) (b:=(Av b).getD (k-1) 0))) (AP.nil (AC.subF (sL [0,1,5,41] rfl) (AC.then_ ?_))))
    refine AE.cond rfl (λhc3=>?_) (λhc3=>?_)
    ·replace hc3:=of_decide_eq_true hc3
     rw [if_pos (by omega)] at hcw
     refine q4 (AL rfl (AD.nil (AC.then_ (AE.ret (AC.then_ret ?_)))))
     exact AC.in_ret (AC.then_ret (AC.round1_ret (AC.in_ret (AC.then_ret (AU rfl (Am (v:=(vI (-1:Int))) rfl) (λw hw=>⟨by rw [hcw],hw.out⟩))))))
    ·replace hc3:=of_decide_eq_false hc3
     rw [if_neg (by omega)] at hcw
     refine AE.skip (q2 (AL rfl (AD.nil (AC.then_ (AE.ret ?_)))))
     exact AC.in_ret (AC.then_ret (AC.round1_ret (AC.in_ret (AC.then_ret (AU rfl (Am (v:=(vI 1)) rfl) (λw hw=>⟨by rw [hcw],hw.out⟩))))))
   ·replace hc2:=of_decide_eq_false hc2
    refine AE.skip (AC.in_normal (AC.then_ (AE.region (AO rfl (AH (Bf (c:=(((k-1:Nat):Int)-1)) rfl rfl (BE (by omega) (by omega))) rfl ?_)))))
    exact AL rfl (AD.nil (AC.subF (sL [0,1,5] rfl) (AC.round1 (k-1) (⟨by omega,Qo (by unfold nw at hc0;omega) (by omega) hk hd (by omega)⟩) (by omega) (sF rfl) sr)))
  ·replace hc1:=of_decide_eq_false hc1
   have hk0:k=0:=by omega
   subst hk0
   have hz:=Sa hd
   refine AE.exit (AC.then_exit (AC.round1_exit (AC.in_exit (q2 (AL rfl ?_)))))
   exact AD.nil (AC.then_ (AE.ret (AU rfl (Am (v:=(vI 0)) rfl) (λw hw=>⟨by rw [hz],hw.out⟩))))
end
end Go.Proofs.YtfbomiejpbchdaaGreat
