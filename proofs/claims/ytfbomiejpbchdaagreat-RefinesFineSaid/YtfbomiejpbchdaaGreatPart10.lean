import Derived.Test.YtfbomiejpbchdaaGreatPart06
import Derived.Test.YtfbomiejpbchdaaGreatPart09
namespace Go.Proofs.YtfbomiejpbchdaaGreat
open Go Go.RowKit
set_option linter.unusedVariables false
set_option linter.unusedSimpArgs false
section
set_option maxRecDepth 100000
theorem JH (b m c:Nat) (bs:List Nat) (hbs:W32 bs) (hm:m<=bs.length) (hc:m<=c) (hL:c<4398046511104) (w:World) (hb:w.heap[b]?=some (.cells (Ao bs).toArray 101 (0,0))):Calls Tryz.prog 149 #[(Value.slice (some ⟨b,0,none⟩) m c)] w (Am w (aG (AZ (val (bs.take m))))):=by
 have hle:=Jd bs m
 have hval:=KW bs m
 have hwd:=IR hbs hm
 have hnw:=PJ hbs hm
 generalize hK:Dz bs m=K at *
 refine Ac (args:=[(Value.slice (some ⟨b,0,none⟩) m c)]) Tryz.func149 rfl rfl (Ad rfl) (AG.subF (sL [0] rfl) (q4 (al GD rfl λb1=>AF.nil (q2 ?_))))
 refine AO rfl (Ey Tryz.call198 (λw hw=>TL _ m c bs hbs (by omega) (by omega) (by omega) w (hw.old (by simp) hb)) rfl (AF.retell (k:=10) (u:=(Value.slice (some ⟨b,0,none⟩) K c)) rfl (by rw [hK]) (AK rfl (q6 (sL [0,2] rfl) (q4 ?_)))))
 refine AO rfl (AJ (v:=(vN K)) (AI rfl Tryz.underlying232) rfl (AJ (HX (c:=(decide (K<=2))) rfl rfl (Vy (a:=K) (b:=2))) rfl (AF.nil (AC.subF (sL [0,2,13] rfl) (AC.then_ ?_)))))
 refine AG.cond rfl (λhc0=>?_) (λhc0=>?_)
 ·replace hc0:=of_decide_eq_true hc0
  refine q4 (AK rfl (AF.nil (q1 (q4 (AO rfl ?_)))))
  refine AJ (v:=(vN K)) (AI rfl Tryz.underlying232) rfl (AO rfl (AF.nil (AC.then_ (AG.block ?_))))
  refine AG.lp2 (tg λ(i:Nat) (n:Nat)=>i<=K/\n=val (bs.take i)) (tg λ(i:Nat) (n:Nat)=>[(0,(Value.slice (some ⟨b,0,none⟩) K c)),(2,(pP b1 0)),(14,(Value.slice (some ⟨b,0,none⟩) K c)),(15,(vN K)),(16,(vN i)),(3,(vK .u64 n))]) (tg λ(i:Nat) (n:Nat)=>[Ah b1 47 (AZ 0)]) (tg λ(i:Nat) (n:Nat)=>K-i) 0 0 (⟨Nat.zero_le _,by simp [val]⟩) (sF rfl) sr (λi n hJ=>?_)
  obtain ⟨hi,hn⟩:=hJ
  refine q4 (AJ (Af (c:=(decide (i<K))) rfl rfl (DL (a:=i) (b:=K))) rfl (AF.nil (q1 ?_)))
  refine AG.cond rfl (λhc1=>?_) (λhc1=>?_)
  ·replace hc1:=of_decide_eq_true hc1
   refine AG.skip (q1 (AG.block (q4 (AO rfl (AJ (v:=(pP b i)) (AH (j:=i) rfl rfl Tryz.underlying232 Tryz.sizeOf101 rfl (by omega) (by simp)) rfl ?_)))))
   have hx1:bs.getD i 0<4294967296:=W32.getD hbs i
   refine AJ (Bf (v:=(vK .u32 (bs.getD i 0))) rfl (λw' hw=>CA.at0 (hw.oldCA (by simp) (Ei hb)) (BM (xs:=bs) (j:=i) (by omega))) Tryz.isAgg101) rfl (AK rfl (AK rfl (AF.nil (AC.subF (sL [0,2,14,15,16,3,4,5] rfl) (AC.then_ ?_)))))
   refine AG.region (AO rfl (AO rfl (AJ (Az (c:=((bs.getD i 0:Nat):Int)) rfl Tryz.underlying101 Tryz.underlying45 (Ba (by omega))) rfl (AO rfl ?_))))
   have hiK:i<K:=hc1
   have hi2:i<2:=by omega
   have hn2:n<4294967296^i:=by rw [hn];exact Nat.lt_of_lt_of_le (Gt (hbs.take i)) (Nat.pow_le_pow_right (by omega) (by simp;omega))
   have hsh:=Tq (i:=i) (hbs.getD i) hi2
   have hn3:n<18446744073709551616:=RB hn2 hi2
   refine AJ (Bq (c:=((32*i:Nat):Int)) rfl rfl (Ca (a:=32) (b:=i) (by omega))) rfl (AJ (v:=(vK .u64 (bs.getD i 0*2^(32*i)))) (Gx (s:=32*i) rfl rfl rfl (show 32*i<=64 by omega) (Ge hsh)) rfl (AJ (I8 (c:=((n+bs.getD i 0*2^(32*i):Nat):Int)) rfl rfl (Jn hn3 hsh (HZ (by rw [<-XL];exact hn2)))) rfl (AK rfl (AF.nil (AC.subF (sL [0,2,14,15,16,3] rfl) ?_)))))
   refine AC.in_normal (AC.then_ (AG.region (AJ (AX (c:=((i+1:Nat):Int)) rfl rfl (Ab (a:=i) (b:=1) (by omega))) rfl (AO rfl (AF.nil ?_)))))
   exact AC.subF (sL [0,2,14,15,16,3] rfl) (AC.round2 (i+1) (n+bs.getD i 0*2^(32*i)) (⟨by omega,by rw [Bb,<-hn,XL]⟩) (by omega) (sF rfl) sr)
  ·replace hc1:=of_decide_eq_false hc1
   refine AG.exit (AC.then_exit (AC.round2_exit (AC.in_exit (q2 (AO rfl ?_)))))
   have hnn:n=val (bs.take K):=by rw [hn,show i=K by omega]
   have hv2:val (bs.take m)<18446744073709551616:=by rw [<-hval];exact Nat.lt_of_lt_of_le (Gt (hbs.take K)) (by rw [List.length_take];exact Nat.le_trans (Nat.pow_le_pow_right (n:=4294967296) (by omega) (show min K bs.length<=2 by omega)) (by decide))
   refine AJ (v:=(aG ([(vK .u64 n),(Value.string (Bn 0))]))) (AY (zs:=AZ 0) (vs:=[(vK .u64 n),(Value.string (Bn 0))]) (pv:=[(0,(vK .u64 n))]) (places:=[(0,1),(1,1)]) Tryz.zeroValue47 Tryz.underlying47 (λw=>by simp [Tryz.sizeOf9,Tryz.sizeOf45]) rfl rfl) rfl (AF.retell (k:=30) (u:=(aG (AZ (val (bs.take m))))) rfl (by rw [Dl hv2,<-hval,<-hnn];rfl) (Ap rfl Tryz.sizeOf47 rfl (AF.nil (AC.subF (sL [0,2,14,15,16,3] rfl) (AC.then_ ?_)))))
   exact AG.ret (AC.then_ret (AR rfl (Ay (i:=0) (cs:=AZ (val (bs.take m))) rfl rfl Tryz.isAgg47 Tryz.sizeOf47 rfl) (λw hw=>⟨rfl,hw.out⟩)))
 ·replace hc0:=of_decide_eq_false hc0
  refine AG.skip (q2 (AO rfl (AJ (v:=(vN K)) (AI rfl Tryz.underlying232) rfl (AJ (Bq (c:=((4*K:Nat):Int)) rfl rfl (Ca (a:=4) (b:=K) (by omega))) rfl (AF.openV (V:=λb2=>(Value.slice (some ⟨b2,0,none⟩) 0 (4*K))) (T:=5) (cs:=JP (List.replicate (4*K) 0)) (AN rfl) (Pf (m:=0) (c:=4*K) rfl rfl (by omega) (by omega)) rfl (Ad rfl) λb2=>?_)))))
  refine AK rfl (q6 (sL [0,2,6] rfl) (q4 (AO rfl (AJ (v:=(vN K)) (AI rfl Tryz.underlying232) rfl (AO rfl ?_)))))
  refine AF.nil (AC.then_ (AG.block ?_))
  refine AG.lp2 (tg λ(i:Nat) (bz:List Nat)=>i<=K/\bz=bytesN (bs.take i)++List.replicate (4*(K-i)) 0) (tg λ(i:Nat) (bz:List Nat)=>[(2,(pP b1 0)),(35,(Value.slice (some ⟨b,0,none⟩) K c)),(36,(vN K)),(37,(vN i)),(6,(Value.slice (some ⟨b2,0,none⟩) (4*i) (4*K)))]) (tg λ(i:Nat) (bz:List Nat)=>[Ah b2 5 (JP bz),Ah b1 47 (AZ 0)]) (tg λ(i:Nat) (bz:List Nat)=>K-i) 0 (List.replicate (4*K) 0) (⟨Nat.zero_le _,by simp [bytesN]⟩) (sF rfl) sr (λi bz hJ=>?_)
  obtain ⟨hi,hz⟩:=hJ
  refine q4 (AJ (Af (c:=(decide (i<K))) rfl rfl (DL (a:=i) (b:=K))) rfl (AF.nil (q1 ?_)))
  refine AG.cond rfl (λhc2=>?_) (λhc2=>?_)
  ·replace hc2:=of_decide_eq_true hc2
   refine AG.skip (q1 (AG.block (q4 (AJ (v:=(pP b i)) (AH (j:=i) rfl rfl Tryz.underlying232 Tryz.sizeOf101 rfl (by omega) (by simp)) rfl ?_))))
   have hx2:bs.getD i 0<4294967296:=W32.getD hbs i
   refine AJ (Bf (v:=(vK .u32 (bs.getD i 0))) rfl (λw' hw=>CA.at0 (hw.oldCA (by simp) (Ei hb)) (BM (xs:=bs) (j:=i) (by omega))) Tryz.isAgg101) rfl (AK rfl (AF.nil (AC.subF (sL [2,35,36,37,6,8] rfl) (AC.then_ (AG.region ?_)))))
   refine AO rfl (AO rfl (AJ (Az (c:=(((bs.getD i 0)%256:Nat):Int)) rfl Tryz.underlying101 Tryz.underlying5 Jr) rfl (AO rfl (AJ (Cu (s:=8) (c:=(((bs.getD i 0)/256:Nat):Int)) rfl rfl rfl (by decide) (F2 (a:=bs.getD i 0) (s:=8))) rfl (AJ (Az (c:=((((bs.getD i 0)/256)%256:Nat):Int)) rfl Tryz.underlying101 Tryz.underlying5 Jr) rfl ?_)))))
   refine AO rfl (AJ (Cu (s:=16) (c:=(((bs.getD i 0)/65536:Nat):Int)) rfl rfl rfl (by decide) (F2 (a:=bs.getD i 0) (s:=16))) rfl (AJ (Az (c:=((((bs.getD i 0)/65536)%256:Nat):Int)) rfl Tryz.underlying101 Tryz.underlying5 Jr) rfl (AO rfl (AJ (Cu (s:=24) (c:=(((bs.getD i 0)/16777216:Nat):Int)) rfl rfl rfl (by decide) (F2 (a:=bs.getD i 0) (s:=24))) rfl (AJ (Az (c:=((((bs.getD i 0)/16777216)%256:Nat):Int)) rfl Tryz.underlying101 Tryz.underlying5 Jr) rfl ?_)))))
   refine AF.openV (V:=λb3=>(Value.slice (some ⟨b3,0,none⟩) 4 4)) (T:=5) (cs:=JP ([(bs.getD i 0)%256,((bs.getD i 0)/256)%256,((bs.getD i 0)/65536)%256,((bs.getD i 0)/16777216)%256])) (AN rfl) (BE (cs:=JP ([(bs.getD i 0)%256,((bs.getD i 0)/256)%256,((bs.getD i 0)/65536)%256,((bs.getD i 0)/16777216)%256])) (pv:=[(0,(vK .u8 ((bs.getD i 0)%256))),(1,(vK .u8 (((bs.getD i 0)/256)%256))),(2,(vK .u8 (((bs.getD i 0)/65536)%256))),(3,(vK .u8 (((bs.getD i 0)/16777216)%256)))]) Tryz.underlying22 Tryz.sizeOf5 Tryz.zeroValue5 (by decide) (by decide) rfl (by kernel_rfl)) rfl (Ad rfl) λb3=>?_
   obtain ⟨bz2,hz2,hlay⟩:∃bz2,bz2=bytesN (bs.take (i+1))++List.replicate (4*(K-(i+1))) 0/\GV (JP bz) (4*i) (JP ([(bs.getD i 0)%256,((bs.getD i 0)/256)%256,((bs.getD i 0)/65536)%256,((bs.getD i 0)/16777216)%256]))=JP bz2:=⟨_,rfl,by rw [hz];exact Pd hc2 (by omega)⟩
   refine AF.append_u8 (i:=1) (j:=0) (m:=4*i) (c:=4*K) (k:=4) (cs':=JP bz2) (L':=[Ah b3 5 (JP ([(bs.getD i 0)%256,((bs.getD i 0)/256)%256,((bs.getD i 0)/65536)%256,((bs.getD i 0)/16777216)%256])),Ah b2 5 (JP bz2),Ah b1 47 (AZ 0)]) rfl (AN rfl) rfl rfl rfl rfl rfl rfl (by omega) (by rw [Hm,hz];simp [B9];omega) hlay rfl (Ad rfl) (AK rfl (AF.nil (AC.subF (sL [2,35,36,37,6] rfl) (AC.in_normal (AC.then_ ?_)))))
   exact AG.region (AJ (AX (c:=((i+1:Nat):Int)) rfl rfl (Ab (a:=i) (b:=1) (by omega))) rfl (AO rfl (AF.nil (AC.subF (sL [2,35,36,37,6] rfl) (AC.round2 (i+1) bz2 (⟨by omega,hz2⟩) (by omega) (sF rfl) (sl sr))))))
  ·replace hc2:=of_decide_eq_false hc2
   refine AG.exit (AC.then_exit (AC.round2_exit (AC.in_exit (q2 (AO rfl ?_)))))
   have hbl:bz.length=4*i:=by rw [hz,List.length_append,B9,List.length_take,List.length_replicate];omega
   have htk:(JP bz).take (4*i)=JP bz:=List.take_of_length_le (by rw [Hm];omega)
   refine AJ (v:=(Value.string (DE bz))) (JO (i:=0) (m:=4*i) (ns:=bz) rfl rfl htk hbl) rfl ?_
   have hv3:¬val (bs.take m)<18446744073709551616:=λh=>by have:=KN h;omega
   have hbz:bz=bytesN (bs.take K):=by rw [hz,show i=K by omega];simp
   refine AJ (v:=(aG ([(vK .u64 (CC 0)),(Value.string (DE bz))]))) (AY (zs:=AZ 0) (vs:=[(vK .u64 (CC 0)),(Value.string (DE bz))]) (pv:=[(1,(Value.string (DE bz)))]) (places:=[(0,1),(1,1)]) Tryz.zeroValue47 Tryz.underlying47 (λw=>by simp [Tryz.sizeOf9,Tryz.sizeOf45]) rfl rfl) rfl (AF.retell (k:=58) (u:=(aG (AZ (val (bs.take m))))) rfl (by rw [VC hv3,hwd,<-hbz];rfl) (Cr rfl Tryz.sizeOf47 rfl (AF.nil (AC.subF (sL [2,35,36,37,6] rfl) (AC.then_ ?_)))))
   exact AG.ret (AR rfl (Ay (i:=1) (cs:=AZ (val (bs.take m))) rfl rfl Tryz.isAgg47 Tryz.sizeOf47 rfl) (λw hw=>⟨rfl,hw.out⟩))
end
section
def Ft (a b:Nat):Int:=if a<b then -1 else if a=b then 0 else 1
theorem JZ {a b:Nat}:Ft a b<0↔a<b:=by
  unfold Ft;split
  · omega
  · split<;>omega
theorem QG {a b:Nat}:Ft a b=0↔a=b:=by
  unfold Ft;split
  · omega
  · split<;>omega
theorem V4 {a b:Nat} (h:nw a≠nw b):((nw a:Int)-(nw b:Int)).sign=Ft a b:=by
  unfold Ft
  by_cases h1:nw a<nw b
  · have h2:a<b:=by
      rcases Nat.lt_or_ge a b with h2|h2
      · exact h2
      · have:=Df h2;omega
    rw [if_pos h2,Int.sign_eq_neg_one_of_neg (by omega)]
  · have h2:b<a:=by
      rcases Nat.lt_or_ge b a with h2|h2
      · exact h2
      · have:=Df h2;omega
    rw [if_neg (by omega),if_neg (by omega),Int.sign_eq_one_of_pos (by omega)]
theorem UD {xs ys:List Nat} {k:Nat} (hx:W32 xs) (hl:xs.length=ys.length) (h0:0<k) (hk:k<=xs.length) (hd:xs.drop k=ys.drop k) (h:xs.getD (k-1) 0<ys.getD (k-1) 0):val xs<val ys:=by
  have e1:=E7 xs k hk
  have e2:=E7 ys k (by omega)
  have s1:=Bb xs (k-1)
  have s2:=Bb ys (k-1)
  rw [show k-1+1=k by omega] at s1 s2
  have h1:val (xs.take (k-1))<4294967296^(k-1):=Nat.lt_of_lt_of_le (Gt (hx.take (k-1))) (Nat.pow_le_pow_right (by omega) (by simp;omega))
  have h2:(xs.getD (k-1) 0+1)*4294967296^(k-1)<=ys.getD (k-1) 0*4294967296^(k-1):=Nat.mul_le_mul_right _ h
  rw [Nat.add_mul] at h2
  rw [hd] at e1
  omega
theorem RS {xs ys:List Nat} {k:Nat} (hl:xs.length=ys.length) (h0:0<k) (hk:k<=xs.length) (hd:xs.drop k=ys.drop k) (h:xs.getD (k-1) 0=ys.getD (k-1) 0):xs.drop (k-1)=ys.drop (k-1):=by
  have h1:k-1<xs.length:=by omega
  have h2:k-1<ys.length:=by omega
  rw [List.drop_eq_getElem_cons h1,List.drop_eq_getElem_cons h2,show k-1+1=k by omega,hd]
  simp [h1,h2] at h
  rw [h]
theorem R5 {a b k:Nat} (hl:nw a=nw b) (h0:0<k) (hk:k<=nw a) (hd:(AL a).drop k=(AL b).drop k) (hne:(AL a).getD (k-1) 0≠(AL b).getD (k-1) 0) :
    Ft a b=if (AL a).getD (k-1) 0<(AL b).getD (k-1) 0 then -1 else 1:=by
  unfold Ft
  split
  · rename_i h
    rw [if_pos]
    rcases Nat.lt_or_ge ((AL a).getD (k-1) 0) ((AL b).getD (k-1) 0) with h1|h1
    · exact h1
    · have:=UD (Bv b) hl.symm h0 (by unfold nw at *;omega) hd.symm (show (AL b).getD (k-1) 0<(AL a).getD (k-1) 0 by omega)
      rw [CX,CX] at this;omega
  · rename_i h
    have h2:¬(AL a).getD (k-1) 0<(AL b).getD (k-1) 0:=λh1=>by
      have:=UD (Bv a) hl h0 hk hd h1
      rw [CX,CX] at this;omega
    rw [if_neg h2,if_neg]
    intro e;subst e;exact hne rfl
theorem Up {a b:Nat} (hd:(AL a).drop 0=(AL b).drop 0):Ft a b=0:=by
  rw [QG]
  rw [List.drop_zero,List.drop_zero] at hd
  rw [<-CX a,<-CX b,hd]
theorem Da {v i:Nat} (h:i<nw v):(A8 v).getD i 0=(AL v).getD i 0:=by
  rw [<-IP v]
  simp [List.getD_eq_getElem?_getD,List.getElem?_take,h]
theorem Ek {v i:Nat} (h:¬i<nw v):(AL v).getD i 0=0:=by
  unfold nw at h;simp [List.getD_eq_getElem?_getD,Nat.not_lt.1 h]
theorem DD {v i:Nat} (h:nw v<=i):val ((AL v).take i)=v:=by
  rw [List.take_of_length_le h,CX]
theorem WP (v:Nat):(A8 v).length<=nw v+2:=by
  unfold A8;split
  · simp
  · unfold nw;omega
theorem IA (v:Nat):val ((A8 v).take (nw v))=v:=by rw [IP,CX]
theorem N8 {os ys:List Nat} {X i n c:Nat} (hl:os.length=n) (hi:i<n) (hv:val os+c*4294967296^i=X+val (ys.take i)) :
    val (os.set i ((os.getD i 0+ys.getD i 0+c)%4294967296))+(os.getD i 0+ys.getD i 0+c)/4294967296*4294967296^(i+1)=X+val (ys.take (i+1)):=by
  have e:=FV (xs:=os) (i:=i) (by omega) ((os.getD i 0+ys.getD i 0+c)%4294967296)
  have t:=Bb ys i
  have hm:=Nat.div_add_mod (os.getD i 0+ys.getD i 0+c) 4294967296
  rw [Nat.pow_succ]
  generalize os.getD i 0=o at *
  generalize ys.getD i 0=y at *
  generalize (o+y+c)/4294967296=q at *
  generalize (o+y+c)%4294967296=r at *
  generalize 4294967296^i=p at *
  have hm2:(4294967296*q+r)*p=(o+y+c)*p:=by rw [hm]
  grind
theorem OB {os:List Nat} {X Y n c i:Nat} (hl:os.length=n) (hw:W32 os) (hi:n<=i) (hX:X+Y<4294967296^n) (hv:val os+c*4294967296^i=X+Y):val os=X+Y:=by
  have h1:4294967296^n<=4294967296^i:=Nat.pow_le_pow_right (by omega) hi
  rcases Nat.eq_zero_or_pos c with h|h
  · subst h;omega
  · have:1*4294967296^i<=c*4294967296^i:=Nat.mul_le_mul_right _ h
    omega
theorem Sb {os ys:List Nat} {X i n c:Nat} (hl:os.length=n) (hi:i<n) (hw:W32 os) (hy:W32 ys) (hc:c<=1) (hv:val os+val (ys.take i)=X+c*4294967296^i) :
    val (os.set i ((os.getD i 0+(4294967296-ys.getD i 0)+(4294967296-c))%4294967296))+val (ys.take (i+1))=X+JB (os.getD i 0) (ys.getD i 0+c)*4294967296^(i+1):=by
  have e:=FV (xs:=os) (i:=i) (by omega) ((os.getD i 0+(4294967296-ys.getD i 0)+(4294967296-c))%4294967296)
  have t:=Bb ys i
  have ho:=hw.getD i
  have hy':=hy.getD i
  rw [Nat.pow_succ]
  have hm:(os.getD i 0+(4294967296-ys.getD i 0)+(4294967296-c))%4294967296+ys.getD i 0+c=os.getD i 0+JB (os.getD i 0) (ys.getD i 0+c)*4294967296:=by
    unfold JB;split<;>omega
  generalize (os.getD i 0+(4294967296-ys.getD i 0)+(4294967296-c))%4294967296=r at *
  generalize JB (os.getD i 0) (ys.getD i 0+c)=q at *
  generalize os.getD i 0=o at *
  generalize ys.getD i 0=y at *
  generalize 4294967296^i=p at *
  have hm2:(r+y+c)*p=(o+q*4294967296)*p:=by rw [hm]
  grind
theorem TC {os:List Nat} {X Y n c i:Nat} (hl:os.length=n) (hw:W32 os) (hi:i=n) (hX:Y<=X) (hv:val os+Y=X+c*4294967296^i) (hX2:X<4294967296^n):val os=X-Y:=by
  have h1:=Gt hw
  rw [hl] at h1
  subst hi
  rcases Nat.eq_zero_or_pos c with h|h
  · subst h;omega
  · have:1*4294967296^i<=c*4294967296^i:=Nat.mul_le_mul_right _ h
    omega
theorem Pv (x y:Nat):JB x y<=1:=by unfold JB;split<;>omega
theorem Te {os ys:List Nat} {S W i k n c:Nat} (hl:os.length=n) (hi:i+k<n) (hv:val os+c*4294967296^(i+k)=S+W*val (ys.take k)*4294967296^i) :
    val (os.set (i+k) ((c+(W*ys.getD k 0+os.getD (i+k) 0))%4294967296))+(c+(W*ys.getD k 0+os.getD (i+k) 0))/4294967296*4294967296^(i+(k+1))=S+W*val (ys.take (k+1))*4294967296^i:=by
  have e:=FV (xs:=os) (i:=i+k) (by omega) ((c+(W*ys.getD k 0+os.getD (i+k) 0))%4294967296)
  have t:=Bb ys k
  have hm:=Nat.div_add_mod (c+(W*ys.getD k 0+os.getD (i+k) 0)) 4294967296
  rw [t,show i+(k+1)=i+k+1 by omega,Nat.pow_succ]
  rw [Nat.pow_add] at *
  generalize os.getD (i+k) 0=o at *
  generalize ys.getD k 0=y at *
  generalize (c+(W*y+o))/4294967296=q at *
  generalize (c+(W*y+o))%4294967296=r at *
  generalize 4294967296^i=p at *
  generalize 4294967296^k=p' at *
  generalize val (ys.take k)=vy at *
  have hm2:(4294967296*q+r)*(p*p')=(c+(W*y+o))*(p*p'):=by rw [hm]
  grind
section
variable {n:Nat} {F:List (Nat×Value)} {w0:BP} {L:List As} {v:Value} {x y:Operand} {d:Option Tmp} {t:TypeId} {p:String} {af:Array Edge} {g:Option (Nat×Bool)}
theorem AF.copy_u32 {ops:Array Oper} {rest:List Oper} {Q:Exit->Act->World->Prop} {L':List As} {i j b b' m c k c' dd:Nat} {cs ds ns cs':List Value} {o:Oper} (ho:o=⟨some dd,.call { callee:=.builtin .copy,args:=#[x,y],argTypes:=#[232,232] },t,p,af,g⟩) (hw:Wt ops n F o)
    (hx:evF F x=some (.slice (some ⟨b,0,none⟩) m c)) (hy:evF F y=some (.slice (some ⟨b',0,none⟩) k c')) (hi:L[i]?=some (Ah b 101 cs)) (hj:L[j]?=some (Ah b' 101 ds)) (hns:ds.take k=ns) (hnl:ns.length=k) (h1:(ns.all λu=>u.oneCell')=true) (hkm:k<=m) (hfit:k<=cs.length)
    (hcs:GV cs 0 ns=cs') (hL:L.set i (Ah b 101 cs')=L') (hd:dd<n) (next:AF Tryz.prog ops rest Q n ((dd,.int .i64 k)::F) w0 L'):AF Tryz.prog ops (o::rest) Q n F w0 L:=λa w ha hW=>by
  subst ho;subst hcs;subst hL
  unfold wpList
  rw [if_pos (hw a ha)]
  left
  have hca:=E1 (off:=0) (k:=k) (hW.get hj)
  rw [List.drop_zero,hns] at hca
  have hr:=run_copy_row (P:=Tryz.prog) w 232 232 t 101 b 0 m c ⟨b',0,none⟩ k c' cs.toArray 101 ns Tryz.underlying232 (by kernel_rfl) (hW.get hi) (by rw [hnl];exact (Nat.min_eq_left hkm).symm) (λq u hu=>by rw [Addr.add_lit];exact hca q u hu) (by simp;omega) (λu hu=>List.all_eq_true.1 h1 u hu)
  unfold Oper.wp
  have he:(execOp a.eval ⟨some dd,.call { callee:=.builtin .copy,args:=#[x,y],argTypes:=#[232,232] },t,p,af,g⟩).run Tryz.prog w=.ok (.value (.int .i64 k)) (w.setRow b (GV cs 0 ns).toArray):=by
    simp only [execOp,resolve,invoke,builtin,Sem.run_bind,Sem.run_pure,Result.andThen_ok,List.map_toArray,List.map_cons,List.map_nil,ha.ev hx,ha.ev hy,hr,GV,hnl,goInt]
  rw [he,Oper.upon_value]
  have hg:=hW.get hi
  exact next _ _ (ha.put hd) (hW.turn hi rfl rfl ⟨⟨rfl,rfl,rfl,by simp,λq _ hq=>setRow_other w b q _ (λe=>hq (by simp [e]))⟩,Nat.le_refl _⟩ ⟨_,setRow_heap w b cs.toArray _ 101 _ hg,rfl⟩)
end
theorem Ue {a b:Nat} (h:nw b<=nw a):a+b<4294967296^(nw a+1):=by
  have h1:=B7 a
  have h2:b<4294967296^nw a:=C5.1 h
  rw [Nat.pow_succ];omega
theorem Fl (v k:Nat):(AL v++(List.replicate (nw v+k) 0).drop (AL v).length).length=nw v+k/\W32 (AL v++(List.replicate (nw v+k) 0).drop (AL v).length)/\val (AL v++(List.replicate (nw v+k) 0).drop (AL v).length)=v:=by
  have e:(List.replicate (nw v+k) 0).drop (AL v).length=List.replicate k 0:=by rw [List.drop_replicate];congr 1;unfold nw;omega
  rw [e]
  refine ⟨by simp [nw],(Bv v).append (W32.zeros k),?_⟩
  rw [J9,CX,D_];omega
theorem IM {os:List Nat} {p c n:Nat} (hl:os.length=n) (hp:p<n) (h0:os.getD p 0=0):val (os.set p c)=val os+c*4294967296^p:=by
  have e:=FV (xs:=os) (i:=p) (by omega) c
  rw [h0] at e;omega
theorem PI {os:List Nat} {a b i:Nat} (hv:val os=val ((AL a).take i)*b):∀j,i+nw b<=j->os.getD j 0=0:=λj hj=>by
  refine GS (m:=i+nw b) ?_ hj
  rw [hv,Nat.pow_add]
  refine Nat.mul_lt_mul'' (Nat.lt_of_lt_of_le (Gt ((Bv a).take i)) (Nat.pow_le_pow_right (by omega) (by simp;omega))) (B7 b)
theorem Fm {os:List Nat} {p q v:Nat} (h:∀j,p<=j->os.getD j 0=0) (hq:q<p):∀j,p<=j->(os.set q v).getD j 0=0:=λj hj=>by
  rw [List.getD_eq_getElem?_getD,List.getElem?_set_ne (by omega),<-List.getD_eq_getElem?_getD]
  exact h j hj
theorem Wd {a b i:Nat}:val ((AL a).take i)*b+(AL a).getD i 0*b*4294967296^i=val ((AL a).take (i+1))*b:=by
  rw [Bb];grind
theorem YC {x y:Nat} (hx:x<18446744073709551616) (hy:y<18446744073709551616):val [x%4294967296,x/4294967296,y%4294967296,y/4294967296]=x+y*18446744073709551616:=by
  simp only [val];omega
theorem Ny (xs:List Nat):((Ao xs).all λu=>u.oneCell')=true:=List.all_eq_true.2 (UZ xs)
theorem L8 (xs:List Nat) (k:Nat):(Ao xs).take k=Ao (xs.take k):=by simp [Ao,List.map_take]
theorem OA (xs ns:List Nat):GV (Ao xs) 0 (Ao ns)=Ao (ns++xs.drop ns.length):=by simp [GV,Ao,List.map_drop]
end
section
set_option maxRecDepth 100000
theorem X7 (a b p q c c2:Nat) (ha:nw a<=1099511627776) (hb:nw b<=1099511627776) (w:World) (hp:w.heap[p]?=some (.cells (Ao (A8 a)).toArray 101 (0,0))) (hq:w.heap[q]?=some (.cells (Ao (A8 b)).toArray 101 (0,0))):Calls Tryz.prog 237 #[(Value.slice (some ⟨p,0,none⟩) (nw a) c),(Value.slice (some ⟨q,0,none⟩) (nw b) c2)] w (Am w (vI (Ft a b))):=by
 have hla:=CN a
 have hlb:=CN b
 refine Ac (args:=[(Value.slice (some ⟨p,0,none⟩) (nw a) c),(Value.slice (some ⟨q,0,none⟩) (nw b) c2)]) Tryz.func237 rfl rfl (Ad rfl) (AG.subF (sL [0,1] rfl) (q4 (AK rfl (AF.nil (q1 ?_)))))
 refine q4 (AO rfl (AJ (v:=(vN (nw a))) (AI rfl Tryz.underlying232) rfl (AO rfl (AJ (v:=(vN (nw b))) (AI rfl Tryz.underlying232) rfl (AJ (B8 (c:=(decide ((nw a)≠(nw b)))) rfl rfl (Zt (a:=nw a) (b:=nw b))) rfl ?_)))))
 refine AF.nil (AC.subF (sL [0,1,4,10] rfl) (AC.then_ ?_))
 refine AG.cond rfl (λhc0=>?_) (λhc0=>?_)
 ·replace hc0:=of_decide_eq_true hc0
  refine q4 (AO rfl (AJ (v:=(vN (nw a))) (AI rfl Tryz.underlying232) rfl (AO rfl (AJ (v:=(vN (nw b))) (AI rfl Tryz.underlying232) rfl (AJ (BS (c:=((nw a:Int)-(nw b:Int))) rfl rfl (BN (by omega) (by omega))) rfl ?_)))))
  refine BU Tryz.call255 (XC _ (by omega) (by omega)) rfl (AF.retell (k:=16) (u:=(vI (Ft a b))) rfl (by rw [V4 hc0]) (AK rfl (AF.nil (AC.subF (sL [0,1,4] rfl) (AC.then_ ?_)))))
  exact AG.ret (AC.then_ret (AR rfl (Ai (v:=(vI (Ft a b))) rfl) (λw hw=>⟨rfl,hw.out⟩)))
 ·replace hc0:=of_decide_eq_false hc0
  refine AG.skip (q1 (q4 (AO rfl (AJ (v:=(vN (nw a))) (AI rfl Tryz.underlying232) rfl (AJ (BS (c:=(((nw a:Nat):Int)-1)) rfl rfl (BN (by omega) (by omega))) rfl ?_)))))
  refine AK rfl (AF.nil (AC.subF (sL [0,1,4,5] rfl) (AC.then_ (AG.block ?_))))
  refine AG.lp1 (tg λ(k:Nat)=>k<=nw a/\(AL a).drop k=(AL b).drop k) (tg λ(k:Nat)=>[(0,(Value.slice (some ⟨p,0,none⟩) (nw a) c)),(1,(Value.slice (some ⟨q,0,none⟩) (nw b) c2)),(5,(vI (((k:Nat):Int)-1)))]) (tg λ(k:Nat)=>[]) (tg λ(k:Nat)=>k) (nw a) (⟨Nat.le_refl _,by rw [List.drop_of_length_le (by exact Nat.le_refl _),List.drop_of_length_le (by unfold nw at *;omega)]⟩) (sF rfl) sr (λk hJ=>?_)
  obtain ⟨hk,hd⟩:=hJ
  refine AG.seq (q4 (AO rfl (AJ (DT (c:=(decide ((0:Int)<=(((k:Nat):Int)-1)))) rfl rfl rfl) rfl (AF.nil (AC.subF (sL [0,1,5,21] rfl) ?_)))))
  refine AC.then_ ?_
  refine AG.cond rfl (λhc1=>?_) (λhc1=>?_)
  ·replace hc1:=of_decide_eq_true hc1
   have hk0:0<k:=by omega
   refine AG.retell (k:=5) (u:=(vN (k-1))) rfl (by congr 1;omega) (AG.skip (q1 (AG.block (AG.seq (Cq [(0,true),(1,true),(2,true),(3,true),(4,true),(5,true),(6,true),(7,true),(8,true)] sr ?_)))))
   have ea:(A8 a).getD (k-1) 0=(AL a).getD (k-1) 0:=Da (by omega)
   have eb:(A8 b).getD (k-1) 0=(AL b).getD (k-1) 0:=Da (by omega)
   refine Bc rfl (Bc rfl (Av (v:=(pP p (k-1))) rfl (AH (j:=k-1) rfl rfl Tryz.underlying232 Tryz.sizeOf101 rfl (by omega) (by simp)) ?_))
   have hx1:(A8 a).getD (k-1) 0<4294967296:=W32.getD (CU a) (k-1)
   refine Av rfl (Bf (v:=(vK .u32 ((A8 a).getD (k-1) 0))) rfl (λw' hw=>CA.at0 (hw.oldCA (by simp) (Ei hp)) (BM (xs:=A8 a) (j:=(k-1)) (by omega))) Tryz.isAgg101) (Bc rfl (Bc rfl (Av (v:=(pP q (k-1))) rfl (AH (j:=k-1) rfl rfl Tryz.underlying232 Tryz.sizeOf101 rfl (by omega) (by simp)) ?_)))
   have hx2:(A8 b).getD (k-1) 0<4294967296:=W32.getD (CU b) (k-1)
   refine Av rfl (Bf (v:=(vK .u32 ((A8 b).getD (k-1) 0))) rfl (λw' hw=>CA.at0 (hw.oldCA (by simp) (Ei hq)) (BM (xs:=A8 b) (j:=(k-1)) (by omega))) Tryz.isAgg101) (Av rfl (B8 (c:=(decide (((A8 a).getD (k-1) 0)≠((A8 b).getD (k-1) 0)))) rfl rfl (Zt (a:=(A8 a).getD (k-1) 0) (b:=(A8 b).getD (k-1) 0))) (AS.nil (AC.subF (sL [0,1,5,32] rfl) (AC.then_ ?_))))
   refine AG.cond rfl (λhc2=>?_) (λhc2=>?_)
   ·replace hc2:=of_decide_eq_true hc2
    have hcw:=R5 (by omega) hk0 hk hd (by omega)
    refine AG.seq (AG.seq (Cq [(0,true),(1,true),(2,true),(3,true),(4,true),(5,true),(6,true),(7,true),(8,true)] sr (Bc rfl (Bc rfl (Av (v:=(pP p (k-1))) rfl (AH (j:=k-1) rfl rfl Tryz.underlying232 Tryz.sizeOf101 rfl (by omega) (by simp)) ?_)))))
    have hx3:(A8 a).getD (k-1) 0<4294967296:=W32.getD (CU a) (k-1)
    refine Av rfl (Bf (v:=(vK .u32 ((A8 a).getD (k-1) 0))) rfl (λw' hw=>CA.at0 (hw.oldCA (by simp) (Ei hp)) (BM (xs:=A8 a) (j:=(k-1)) (by omega))) Tryz.isAgg101) (Bc rfl (Bc rfl (Av (v:=(pP q (k-1))) rfl (AH (j:=k-1) rfl rfl Tryz.underlying232 Tryz.sizeOf101 rfl (by omega) (by simp)) ?_)))
    have hx4:(A8 b).getD (k-1) 0<4294967296:=W32.getD (CU b) (k-1)
    refine Av rfl (Bf (v:=(vK .u32 ((A8 b).getD (k-1) 0))) rfl (λw' hw=>CA.at0 (hw.oldCA (by simp) (Ei hq)) (BM (xs:=A8 b) (j:=(k-1)) (by omega))) Tryz.isAgg101) (Av rfl (Af (c:=(decide (((A8 a).getD (k-1) 0)<((A8 b).getD (k-1) 0)))) rfl rfl (DL (a:=(A8 a).getD (k-1) 0) (b:=(A8 b).getD (k-1) 0))) (AS.nil (AC.subF (sL [0,1,5,41] rfl) (AC.then_ ?_))))
    refine AG.cond rfl (λhc3=>?_) (λhc3=>?_)
    ·replace hc3:=of_decide_eq_true hc3
     rw [if_pos (by omega)] at hcw
     refine q4 (AK rfl (AF.nil (AC.then_ (AG.ret (AC.then_ret ?_)))))
     exact AC.in_ret (AC.then_ret (AC.round1_ret (AC.in_ret (AC.then_ret (AR rfl (Ai (v:=(vI (-1:Int))) rfl) (λw hw=>⟨by rw [hcw],hw.out⟩))))))
    ·replace hc3:=of_decide_eq_false hc3
     rw [if_neg (by omega)] at hcw
     refine AG.skip (q2 (AK rfl (AF.nil (AC.then_ (AG.ret ?_)))))
     exact AC.in_ret (AC.then_ret (AC.round1_ret (AC.in_ret (AC.then_ret (AR rfl (Ai (v:=(vI 1)) rfl) (λw hw=>⟨by rw [hcw],hw.out⟩))))))
   ·replace hc2:=of_decide_eq_false hc2
    refine AG.skip (AC.in_normal (AC.then_ (AG.region (AO rfl (AJ (BS (c:=(((k-1:Nat):Int)-1)) rfl rfl (BN (by omega) (by omega))) rfl ?_)))))
    exact AK rfl (AF.nil (AC.subF (sL [0,1,5] rfl) (AC.round1 (k-1) (⟨by omega,RS (by unfold nw at hc0;omega) (by omega) hk hd (by omega)⟩) (by omega) (sF rfl) sr)))
  ·replace hc1:=of_decide_eq_false hc1
   have hk0:k=0:=by omega
   subst hk0
   have hz:=Up hd
   refine AG.exit (AC.then_exit (AC.round1_exit (AC.in_exit (q2 (AK rfl ?_)))))
   exact AF.nil (AC.then_ (AG.ret (AR rfl (Ai (v:=(vI 0)) rfl) (λw hw=>⟨by rw [hz],hw.out⟩))))
end
end Go.Proofs.YtfbomiejpbchdaaGreat
