import Derived.Test.YtcpkbjjmcleplaaGreatDoorPart32
namespace Go.Proofs.YtcpkbjjmcleplaaGreatDoor
open Go Go.RowKit Go.Proofs.Tryz
open Go.Value renaming slice→qz,bool→qa
set_option linter.unusedVariables false
set_option linter.unusedSimpArgs false
section
set_option maxRecDepth 100000
theorem Yz {a b:Nat} (h:b<a):0<Dv a b:=by unfold Dv;rw [if_neg Z,if_neg Z];omega
theorem V4 {a b:Nat} (h:¬Dv a b<=0):b<a:=by
 unfold Dv at h
 split at h
 ·omega
 ·split at h<;>omega
theorem TI (a b:NV) (hb0:0<b.x) (hla:(dg a.x).length<=274877906944) (hlb:(dg b.x).length<=274877906944) (w:World) (ha:Holds w (nA a)) (hb:Holds w (nA b)):Calls prog 190 #[(nV a),(nV b)] w (Kt w [] [a.p.map (·.block)] (a.x/b.x) (a.x%b.x)):=by
 obtain ⟨k,hk⟩:∃k,k=(dg b.x).length-3:=⟨_,rfl⟩
 obtain ⟨tp,htp⟩:∃tp,tp=b.x/10000^k:=⟨_,rfl⟩
 have htb:=Y6 b.x
 have htp1:=RL hb0
 rw [<-hk] at htb htp1
 rw [<-htp] at htp1
 have htb2:=htb
 rw [<-htp] at htb2
 have hlb1:=(Lb hb0).2
 refine AZ (args:=[(nV a),(nV b)]) (L:=[nA a,nA b]) func190 O O (leB O) (CV O ha (CV O hb (Ao))) (zI (sL [0,1] O) (q4 (asg' O (asg' O (oNl' (q1 (q4 (AK O (AK O (CQ call192 (λw hw=>Ot a b (by first|omega|(dsimp only;omega)) (by first|omega|(dsimp only;omega)) w (hw.holds (i:=0) O) (hw.holds (i:=1) O)) O (st' (Aa (c:=(decide ((Dv a.x b.x)<(0:Int)))) O O O) O ?_)))))))))))
 refine oNl' (zB (sL [0,1,4,5,18] O) (zA ?_))
 refine zK O (λhc0=>?_) (λhc0=>?_)
 ·replace hc0:=xR hc0
  rw [GG] at hc0
  exact q4 (AK O (asg' O (asg' O (oNl' (zB (sL [0,1,4,5] O) (zA (zF (zL (Bl O (rd_tmp (v:=jj) O) (rd_tmp (v:=(nV a)) O) (λw hw=>(by rw [Nat.mod_eq_of_lt hc0];exact dH hw (Nat.div_eq_of_lt hc0) (k:=0) O)))))))))))
 ·replace hc0:=xQ hc0
  rw [GG] at hc0
  have hlab:=I1 (Nat.le_of_not_lt hc0)
  obtain ⟨m,hm1⟩:∃m,m=(dg a.x).length-(dg b.x).length+1:=⟨_,rfl⟩
  have hm:m+(dg b.x).length=(dg a.x).length+1:=by omega
  refine zG (q2 (AK O (st' (v:=(vN ((dg b.x).length))) (AD O underlying80) O (st' (BY (c:=((((dg b.x).length:Nat):Int)-3)) O O (A6 Z Z)) O (st' (OU (c:=((k:Nat):Int)) O O (by split<;>omega)) O (asg' O (q3 (sL [0,1,4,5,6] O) (AK O (AK O (CQ (args:=[(nV b),(vN k)]) (v:=(vN tp)) call209 (λw hw=>(by rw [htp];exact QR b k Z (by first|omega|(dsimp only;omega)) (by first|omega|(dsimp only;omega)) w (hw.holds (i:=1) O))) O (asg' O ?_)))))))))))
  refine q3 (sL [0,1,4,5,6,7] O) (AK O (st' (v:=(vN ((dg a.x).length))) (AD O underlying80) O (AK O (st' (v:=(vN ((dg b.x).length))) (AD O underlying80) O (st' (BY (c:=(((m:Nat):Int)-1)) O O (by rw [A6 Z Z];omega)) O (asg' O (q3 (sL [0,1,4,5,6,7,8] O) (AK O (st' (AX (c:=((m:Nat):Int)) O O (by rw [A6 Z Z];omega)) O (y0 (m:=m) fe O O Z O O λb1 ho_b1=>asg' O ?_))))))))))
  refine q3 (sL [0,1,4,5,6,7,8,9] O) (zZ (V:=λb2=>(qz (jk b2) 0 0)) (T:=3) (cs:=[]) (AG O) (Nx underlying80 sizeOf3) O (leB O) λb2=>yt (z:=1) 0 O Z λho_b2=>AK O (AK O (st' (AX (c:=((m:Nat):Int)) O O (by rw [A6 Z Z];omega)) O (st' (v:=(qz (YY a.p m a.c 1) ((dg a.x).length-m) (a.c-m))) (Hk (i:=m) O O underlying80 sizeOf3 Z a.ok.le) O (yp (cs2:=dgL (([])++(((dg a.x)).drop m))) (news:=dgL (((dg a.x)).drop m)) X8 O ho_b2 O O (dV (k:=2) O a.ok Z) (by simp [Cw]) (Sm _) (GC Z) Z (by rw [F1];rfl) O λp_1 c_1 ho_1=>yz 0 (X:=a.x/10000^m) O ho_1 jX (by rw [<-So];exact (List.take_length).symm) O λhok0 hloc0=>zN (k:=40) (u:=(qz p_1 ((dg (a.x/10000^m)).length) c_1)) O (by rw [show 0+((dg a.x).length-m)=(dg (a.x/10000^m)).length by rw [<-So];simp]) (asg' O (q6 (sL [0,1,4,5,6,7,8,9,10] O) ?_)))))))
  refine zM ?_
  refine yq (tg λ(j:Nat) (qs:List Nat) (R:Nat) (p:Option Addr) (c:Nat)=>j<=m/\KC qs/\m=qs.length/\val10 qs=10000^j*(a.x/10000^j/b.x)/\R=a.x/10000^j%b.x/\BG p (dg R).length c/\Eo w [] p) (tg λ(j:Nat) (qs:List Nat) (R:Nat) (p:Option Addr) (c:Nat)=>[(0,(nV a)),(1,(nV b)),(4,jj),(5,jj),(6,(vN k)),(7,(vN tp)),(9,(qz (jk b1) m m)),(8,(vI (((j:Nat):Int)-1))),(10,(qz p ((dg R).length) c))]) (tg λ(j:Nat) (qs:List Nat) (R:Nat) (p:Option Addr) (c:Nat)=>[AI p (dgL (dg R)),rowW (jk b1) 3 1 m m (dgL qs),nA a,nA b]) (tg λ(j:Nat) (qs:List Nat) (R:Nat) (p:Option Addr) (c:Nat)=>j) m (List.replicate m 0) (a.x/10000^m) p_1 c_1 (⟨Nat.le_refl _,Nf _,by simp,by rw [Kc,Nat.div_eq_of_lt (Px hb0 hm),Nat.mul_zero],(Nat.mod_eq_of_lt (Px hb0 hm)).symm,hok0,hloc0⟩) (sF O) sr (λj qs R p c hJ=>?_)
  obtain ⟨hj,hdd,hk,hv,hR,hok,hloc⟩:=hJ
  refine zS (q4 (AK O (st' (Cy (c:=(decide ((0:Int)<=(((j:Nat):Int)-1)))) O O O) O (oNl' (zB (sL [0,1,4,5,6,7,9,8,10,42] O) (zA ?_))))))
  refine zK O (λhc1=>?_) (λhc1=>?_)
  ·replace hc1:=xR hc1
   have hj1:1<=j:=by omega
   obtain ⟨R1,hR1⟩:∃R1,R1=10000*R+(dg a.x).getD (j-1) 0:=⟨_,rfl⟩
   have hRb:R<b.x:=by rw [hR];exact Nat.mod_lt _ hb0
   have hd1:=HP a.x (j-1)
   have hR1b:R1<10000*b.x:=by omega
   have hA:=Sq a.x (j-1)
   rw [Nat.sub_add_cancel hj1] at hA
   have hst:=RR hb0 hA hR hR1
   have hR1l:(dg R1).length<=(dg b.x).length+1:=by refine G3 (Nat.lt_of_lt_of_le hR1b ?_);rw [Nat.pow_succ];have h8:=Dn (FA b.x);rw [DI] at h8;omega
   have hRl:=I1 (Nat.le_of_lt hRb)
   have hd9:KC ([(dg a.x).getD (j-1) 0]++dg R):=λe he=>(List.mem_append.1 he).elim (λh=>by rw [xM.1 h];omega) (λh=>FA R e h)
   have hv9:val10 ([(dg a.x).getD (j-1) 0]++dg R)=R1:=by rw [List.singleton_append,val10,DI];omega
   have hk9:1+(dg R).length=([(dg a.x).getD (j-1) 0]++dg R).length:=by simp [Nat.add_comm]
   obtain ⟨f,hf⟩:∃f,f=R1/10000^k:=⟨_,rfl⟩
   have hfb:=T_ hR1b htb
   rw [<-hf] at hfb
   obtain ⟨q,hq⟩:∃q,q=R1/b.x:=⟨_,rfl⟩
   have hq1:q<=9999:=by have:=(Nat.div_lt_iff_lt_mul hb0).2 hR1b;omega
   have hqR:b.x*q<=R1:=by rw [hq];exact Nat.mul_div_le _ _
   have hlow:f/(tp+1)<=q:=by rw [hf,htp,hq];exact Y7 hb0
   have hhigh:q<=f/tp:=by rw [hf,htp,hq];exact WE (by rw [<-htp];exact htp1)
   have hf2:f/(tp+1)<=f:=Nat.div_le_self _ _
   refine yH (k:=8) (u:=(vN (j-1))) O (by show Value.int _ _=Value.int _ _;congr 1;omega) (zG (q1 (zM (q4 (AK O (AK O (st' (v:=(pP (pB a.p) (pO a.p+(j-1)*1))) (AQ (j:=j-1) O O a.ok underlying80 sizeOf3 O Z) O (st' (Ad (v:=(vN ((dg a.x).getD (j-1) 0))) (i:=2) O O (a.ok.ne Z) Dc (Ea (ds:=dg a.x) (j:=j-1) Z)) O (zZ (V:=λb3=>(qz (jk b3) 1 1)) (T:=3) (cs:=[(vN ((dg a.x).getD (j-1) 0))]) (AG O) (Ai (cs:=[(vN ((dg a.x).getD (j-1) 0))]) (pv:=[(0,(vN ((dg a.x).getD (j-1) 0)))]) underlying80 sizeOf3 zeroValue3 jY jY O jV) O (leB O) λb3=>yt (z:=1) 1 O Z λho_b3=>AK O ?_)))))))))
   refine yp (cs2:=dgL (([(dg a.x).getD (j-1) 0])++(dg R))) (news:=dgL (dg R)) X8 O ho_b3 O O (hU (k:=1) O hok) (by simp [Cw]) (Sm _) (GC Z) Z (by rw [F1];rfl) O λp_2 c_2 ho_2=>CQ (args:=[(qz p_2 (1+((dg R).length)) c_2)]) (v:=(qz p_2 ((dg R1).length) c_2)) call194 (λw hw=>(by have h9:=Hv p_2 c_2 (([(dg a.x).getD (j-1) 0])++(dg R)) hd9 (by rw [<-hk9];exact ho_2.row) (by simp;omega) w (Lq (hw.holds (i:=0) O) ho_2 hk9);rw [hv9,<-hk9] at h9;exact h9)) O (yz 0 (X:=R1) O ho_2 hk9 (by rw [<-hv9];exact GZ hd9) O λhok1 hloc1=>asg' O (q3 (sL [0,1,4,5,6,7,9,8,10] O) (AK O (AK O (CQ (args:=[(qz p_2 ((dg R1).length) c_2),(vN k)]) (v:=(vN f)) call209 (λw hw=>(by rw [hf];exact QR (NV.mk p_2 c_2 R1 hok1) k Z (by first|omega|(dsimp only;omega)) (by first|omega|(dsimp only;omega)) w (hw.holds (i:=0) O))) O (asg' O (q6 (sL [0,1,4,5,6,7,9,8,10,11] O) (B9 (EV 10) sr (Bi O ?_)))))))))
   refine Bi O (Am O (AX (c:=((tp+1:Nat):Int)) O O (AU (a:=tp) (b:=1) Z)) (Am O (Ec (c:=((f/(tp+1):Nat):Int)) O O Z (FW (a:=f) (b:=tp+1) Z)) (Bi O (Bi O (Am O (Ec (c:=((f/tp:Nat):Int)) O O Z (FW (a:=f) (b:=tp) Z)) (Am O (WN (c:=((min (f/tp) 9999:Nat):Int)) O O (by split<;>omega)) (pS' O (pS' O (zP (zB (sL [0,1,4,5,6,7,9,8,10,12,13] O) (q1 ?_)))))))))))
   refine zM ?_
   refine yC (tg λ(lo:Nat) (hi:Nat)=>lo<=q/\q<=hi/\hi<=9999) (tg λ(lo:Nat) (hi:Nat)=>[(0,(nV a)),(1,(nV b)),(4,jj),(5,jj),(6,(vN k)),(7,(vN tp)),(9,(qz (jk b1) m m)),(8,(vN (j-1))),(10,(qz p_2 ((dg R1).length) c_2)),(12,(vN lo)),(13,(vN hi))]) (tg λ(lo:Nat) (hi:Nat)=>[AI p_2 (dgL (dg R1)),AI p (dgL (dg R)),rowW (jk b1) 3 1 m m (dgL qs),nA a,nA b]) (tg λ(lo:Nat) (hi:Nat)=>hi-lo) (f/(tp+1)) (min (f/tp) 9999) (⟨hlow,Z,Z⟩) (sF O) sr (λlo hi hJ=>?_)
   obtain ⟨hlo,hhi,hh9⟩:=hJ
   refine zS (q4 (AK O (AK O (st' (Aa (c:=(decide (lo<hi))) O O (DE (a:=lo) (b:=hi))) O (oNl' (zB (sL [0,1,4,5,6,7,9,8,10,12,13,66] O) (zA ?_)))))))
   refine zK O (λhc2=>?_) (λhc2=>?_)
   ·replace hc2:=xR hc2
    refine zG (zA (zM (q4 (AK O (AK O (st' (AX (c:=((lo+hi:Nat):Int)) O O (AU (a:=lo) (b:=hi) Z)) O (st' (AX (c:=(((lo+hi)+1:Nat):Int)) O O (AU (a:=lo+hi) (b:=1) Z)) O (st' (Ec (c:=((((lo+hi)+1)/2:Nat):Int)) O O Z (FW (a:=(lo+hi)+1) (b:=2) Z)) O (asg' O (q3 (sL [0,1,4,5,6,7,9,8,10,12,13,14] O) (AK O ?_)))))))))))
    refine AK O (st' (Al (c:=((((lo+hi)+1)/2:Nat):Int)) O underlying3 underlying52 (BW Z)) O (yk (args:=[(vK .u64 (((lo+hi)+1)/2))]) call188 (λw hw=>Rz (((lo+hi)+1)/2) Z w) R_ O O O λv1 hv1 lv1=>?_))
    have hlv1:(dg v1.x).length<=1:=G3 Z
    refine yk (args:=[(nV b),(nV v1)]) call161 (λw hw=>Ov b v1 (by first|omega|(dsimp only;omega)) (by first|omega|(dsimp only;omega)) w (hw.holds (i:=5) O) (hw.holds (i:=0) O)) R_ O O O λv2 hv2 lv2=>?_
    have hlv2:(dg v2.x).length<=(dg b.x).length+1:=by refine G3 ?_;rw [hv2,Nat.pow_succ];have h8:=Dn (FA b.x);rw [DI] at h8;exact Nat.mul_lt_mul_of_lt_of_le h8 Z Z
    refine AK O (CQ call192 (λw hw=>Ot v2 (NV.mk p_2 c_2 R1 hok1) (by first|omega|(dsimp only;omega)) (by first|omega|(dsimp only;omega)) w (hw.holds (i:=0) O) (hw.holds (i:=2) O)) O (st' (FB (c:=(decide ((Dv v2.x R1)<=(0:Int)))) O O O) O (oNl' (zB (sL [0,1,4,5,6,7,9,8,10,12,13,14,79] O) (zA ?_)))))
    refine zK O (λhc3=>?_) (λhc3=>?_)
    ·replace hc3:=xR hc3
     have hmq:(lo+hi+1)/2<=q:=by rw [hq];refine (Nat.le_div_iff_mul_le hb0).2 ?_;rw [Nat.mul_comm,<-hv1,<-hv2];exact Nat.le_of_not_lt λh=>by have h8:=Yz h;omega
     exact zH (AK O (asg' O (oNl' (zB (sL [0,1,4,5,6,7,9,8,10,12,13,14] O) (zJ (zi (((lo+hi)+1)/2) hi (⟨Z,Z,Z⟩) Z (sF O) (sl (sl sr))))))))
    ·replace hc3:=xQ hc3
     have hmq:q<(lo+hi+1)/2:=by rw [hq];refine (Nat.div_lt_iff_lt_mul hb0).2 ?_;rw [Nat.mul_comm,<-hv1,<-hv2];exact V4 Z
     exact zH (AK O (st' (BY (c:=(((((lo+hi)+1)/2)-1:Nat):Int)) O O (CY (a:=((lo+hi)+1)/2) (b:=1) Z Z)) O (asg' O (oNl' (zB (sL [0,1,4,5,6,7,9,8,10,12,13,14] O) (zJ (zi lo ((((lo+hi)+1)/2)-1) (⟨Z,Z,Z⟩) Z (sF O) (sl (sl sr)))))))))
   ·replace hc2:=xQ hc2
    have hlq:lo=q:=by omega
    refine zW (zO (zh (zR (q2 (AK O (AK O (AK O (st' (v:=(pP (pB (jk b1)) (pO (jk b1)+(j-1)*1))) (AQ (j:=j-1) O O ho_b1.row underlying80 sizeOf3 O Z) O (AP.storeRow2 (j:=j-1) (v:=(vN lo)) O O ho_b1 (by simp [Cw];omega) Z O sizeOf3 O (Sn _ _ _) (oNl' (zB (sL [0,1,4,5,6,7,9,8,10,12,13] O) ?_)))))))))))
    refine zA (zH (AK O (AK O (AK O (st' (Al (c:=((lo:Nat):Int)) O underlying3 underlying52 (BW Z)) O (yk (args:=[(vK .u64 lo)]) call188 (λw hw=>Rz lo Z w) R_ O O O λv3 hv3 lv3=>?_))))))
    have hlv3:(dg v3.x).length<=1:=G3 Z
    refine yk (args:=[(nV b),(nV v3)]) call161 (λw hw=>Ov b v3 (by first|omega|(dsimp only;omega)) (by first|omega|(dsimp only;omega)) w (hw.holds (i:=5) O) (hw.holds (i:=0) O)) R_ O O O λv4 hv4 lv4=>?_
    have hlv4:(dg v4.x).length<=(dg b.x).length+1:=by refine G3 ?_;rw [hv4,Nat.pow_succ];have h8:=Dn (FA b.x);rw [DI] at h8;exact Nat.mul_lt_mul_of_lt_of_le h8 Z Z
    have hv4R:v4.x<=R1:=by rw [hv4,hv3,hlq];exact hqR
    exact yk (args:=[(qz p_2 ((dg R1).length) c_2),(nV v4)]) call191 (λw hw=>TJ (NV.mk p_2 c_2 R1 hok1) v4 hv4R (by first|omega|(dsimp only;omega)) w (hw.holds (i:=2) O) (hw.holds (i:=0) O)) R_ O O O λv5 hv5 lv5=>asg' O (oNl' (zB (sL [0,1,4,5,6,7,9,8,10,12,13] O) (zJ (zA (zH (AK O (st' (BY (c:=(((j-1:Nat):Int)-1)) O O (A6 Z Z)) O (asg' O (oNl' (zB (sL [0,1,4,5,6,7,9,8,10,12,13] O) (yg (j-1) (qs.set (j-1) lo) v5.x v5.p v5.c (⟨Z,Sj hdd Z,by simpa using hk,T9 hdd hk hj1 hj hv (by rw [hlq,hq];exact hst.1),by rw [hv5,hv4,hv3,hlq,hst.2,hq];exact Nat.sub_eq_of_eq_add (Nat.mod_add_div _ _).symm,v5.ok,lv5⟩) Z (sF O) (sk (sl (sl (sl (sl sr))))))))))))))))
  ·replace hc1:=xQ hc1
   obtain rfl:j=0:=by omega
   have hfin:val10 qs=a.x/b.x:=by rw [hv];simp
   have hfin2:R=a.x%b.x:=by rw [hR];simp
   refine zW (zO (yO (zR (q2 (AK O (CQ (args:=[(qz (jk b1) m m)]) (v:=(qz (jk b1) ((dg (val10 qs)).length) m)) call194 (λw hw=>(by have h9:=Hv (jk b1) m qs hdd (by rw [<-hk];exact ho_b1.row) Z w (Lq (hw.holds (i:=1) O) ho_b1 hk);rw [<-hk] at h9;exact h9)) O (AK O (asg' O (asg' O (oNl' (zB (sL [0,1,4,5,6,7,9,8,10] O) ?_)))))))))))
   exact zA (zF (Bl O (rd_tmp (v:=(qz (jk b1) ((dg (val10 qs)).length) m)) O) (rd_tmp (v:=(qz p ((dg R).length) c)) O) (λw hw=>fD hw (i:=1) (k:=0) O ho_b1 hk (by rw [<-hfin];exact GZ hdd) (by rw [hfin]) (by rw [<-hfin2];rfl) (by rw [<-hfin2];exact hok) hloc (by rw [<-hfin2]))))
theorem aL (a b:NV) (hla:(dg a.x).length<=274877906944) (hlb:(dg b.x).length<=274877906944) (w:World) (ha:Holds w (nA a)) (hb:Holds w (nA b)):Calls prog 189 #[(nV a),(nV b)] w (Hd w [a.p.map (·.block),b.p.map (·.block)] (Nat.gcd a.x b.x)):=by
 refine AZ (args:=[(nV a),(nV b)]) (L:=[nA b,nA a]) func189 O O (leB O) (CV O hb (CV O ha (Ao))) (zI (sL [0,1] O) (q4 (asg' O (oNl' (q1 (zM ?_))))))
 refine yC (tg λ(u:NV) (v:NV)=>Nat.gcd u.x v.x=Nat.gcd a.x b.x/\(dg u.x).length<=274877906944/\(dg v.x).length<=274877906944/\Eo w [a.p.map (·.block),b.p.map (·.block)] u.p/\Eo w [a.p.map (·.block),b.p.map (·.block)] v.p) (tg λ(u:NV) (v:NV)=>[(4,jj),(0,(nV u)),(1,(nV v))]) (tg λ(u:NV) (v:NV)=>[nA v,nA u]) (tg λ(u:NV) (v:NV)=>v.x) a b (⟨rfl,hla,hlb,λs e=>.inr (by rw [<-e];exact List.mem_cons_self),λs e=>.inr (by rw [<-e];exact List.mem_cons_of_mem _ List.mem_cons_self)⟩) (sF O) sr (λu v hJ=>?_)
 obtain ⟨hg,hlu,hlv,hu,hv⟩:=hJ
 refine zS (q4 (AK O (st' (v:=(vN ((dg v.x).length))) (AD O underlying80) O (st' (CC (c:=(decide (0<((dg v.x).length)))) O O (DE (a:=0) (b:=(dg v.x).length))) O (oNl' (zB (sL [4,0,1,9] O) (zA ?_)))))))
 refine zK O (λhc0=>?_) (λhc0=>?_)
 ·replace hc0:=xR hc0
  have hv0:0<v.x:=by
     rcases Nat.eq_zero_or_pos v.x with h|h
     ·rw [h] at hc0;exact absurd hc0 jY
     ·exact h
  refine zG (zA (zM (q4 (AK O (AK O (AP.callNN (args:=[(nV u),(nV v)]) call190 (λw hw=>TI u v hv0 hlu hlv w (hw.holds (i:=1) O) (hw.holds (i:=0) O)) R_ (hO (y:=nA u) 1 O O R_) O O O λq1 r1 hq1 hr1 lq1 lr1=>AK O (st' (AJ (v:=(nV q1)) O O) O (st' (AJ (v:=(nV r1)) O O) O (asg' O (asg' O ?_))))))))))
  exact q3 (sL [4,0,1,6] O) (AK O (asg' O (oNl' (zB (sL [4,0,1,6] O) (zA (zH (AK O (asg' O (oNl' (zB (sL [4,0,1] O) (zJ (zi v r1 (⟨by rw [<-hg,hr1,Nat.gcd_comm,<-Nat.gcd_rec,Nat.gcd_comm],hlv,xK (I1 (by rw [hr1];exact Nat.le_of_lt (Nat.mod_lt _ hv0))) hlv,hv,lr1.mono (λs hs c e=>hu c (by rw [xM.1 hs] at e;exact e))⟩) (by rw [hr1];exact Nat.mod_lt _ hv0) (sF O) (sl (sk (sk (sl sr))))))))))))))))
 ·replace hc0:=xQ hc0
  have hv0:v.x=0:=by
     rcases Nat.eq_zero_or_pos v.x with h|h
     ·exact h
     ·have:=(Lb h).2;omega
  rw [hv0,Nat.gcd_zero_right] at hg
  exact zW (zO (zh (zR (q2 (AK O (asg' O (oNl' (zB (sL [4,0,1] O) (zA (zF (ret_one O (rd_tmp (v:=(nV u)) O) (λw hw=>⟨u,hg,rfl,hw.out,hw.holds (i:=1) O,hu⟩))))))))))))
end
section
set_option maxRecDepth 100000
theorem XU (a:NV) (hla:(dg a.x).length<=549755813888) (w:World) (ha:Holds w (nA a)):Calls prog 110 #[(nV a)] w (Ac w (Value.string (txB (Lib.decDigits a.x)))):=by
 refine AZ (args:=[(nV a)]) (L:=[nA a]) func110 O O (leB O) (CV O ha (Ao)) (zI (sL [0] O) (q4 (asg' O (oNl' (q1 (q4 (AK O (st' (v:=(vN ((dg a.x).length))) (AD O underlying80) O (st' (Au (c:=(decide (((dg a.x).length)=0))) O O (K0 (a:=(dg a.x).length) (b:=0))) O (oNl' (zB (sL [0,2,9] O) ?_)))))))))))
 refine zA ?_
 refine zK O (λhc0=>?_) (λhc0=>?_)
 ·replace hc0:=xR hc0
  have hx0:a.x=0:=by rcases Nat.eq_zero_or_pos a.x with h|h;exact h;have:=(Lb h).2;omega
  exact q4 (asg' O (oNl' (zA (zF (zL (ret_one O (rd_tmp (v:=(Value.string (ByteArray.mk #[48]))) O) (λw hw=>⟨by rw [hx0,La];rfl,hw.out⟩)))))))
 ·replace hc0:=xQ hc0
  have hx0:0<a.x:=by rcases Nat.eq_zero_or_pos a.x with h|h;(exact absurd (by rw [h];rfl) hc0);exact h
  refine zG (q2 (asg' O (oNl' (q1 (q4 (asg' O (oNl' (zA (zM ?_)))))))))
  refine yC (tg λ(i:Nat) (s:List UInt8)=>i<(dg a.x).length/\s=DB (4*i) a.x\/i=(dg a.x).length/\s=Lib.decDigits a.x) (tg λ(i:Nat) (s:List UInt8)=>[(0,(nV a)),(2,(Value.string (ByteArray.mk #[]))),(4,(vN i)),(3,(Value.string (txB s)))]) (tg λ(i:Nat) (s:List UInt8)=>[nA a]) (tg λ(i:Nat) (s:List UInt8)=>(dg a.x).length-i) 0 ([]) (.inl ⟨Z,rfl⟩) (sF O) sr (λi s hJ=>?_)
  have hj:=hJ
  refine zS (q4 (AK O (AK O (st' (v:=(vN ((dg a.x).length))) (AD O underlying80) O (st' (Aa (c:=(decide (i<((dg a.x).length)))) O O (DE (a:=i) (b:=(dg a.x).length))) O (oNl' (zB (sL [0,2,4,3,13] O) (zA ?_))))))))
  refine zK O (λhc1=>?_) (λhc1=>?_)
  ·replace hc1:=xR hc1
   have hs:s=DB (4*i) a.x:=(hj.resolve_right Z).2
   have gd:=HP a.x i
   refine zG (q1 (zM (q4 (AK O (AK O (st' (v:=(pP (pB a.p) (pO a.p+i*1))) (AQ (j:=i) O O a.ok underlying80 sizeOf3 O Z) O (st' (Ad (v:=(vN ((dg a.x).getD i 0))) (i:=0) O O (a.ok.ne Z) Dc (Ea (ds:=dg a.x) (j:=i) Z)) O (asg' O (q3 (sL [0,2,4,3,5] O) (asg' O (oNl' ?_)))))))))))
   refine zA (zM ?_)
   refine yM (tg λ(d:Nat) (k:Nat) (s2:List UInt8)=>k<=4/\d=(dg a.x).getD i 0/10^k/\s2=DB (4*i+k) a.x/\(i+1=(dg a.x).length->k=0\/(dg a.x).getD i 0/10^(k-1)≠0)) (tg λ(d:Nat) (k:Nat) (s2:List UInt8)=>[(0,(nV a)),(2,(Value.string (ByteArray.mk #[]))),(4,(vN i)),(5,(vN d)),(6,(vN k)),(3,(Value.string (txB s2)))]) (tg λ(d:Nat) (k:Nat) (s2:List UInt8)=>[nA a]) (tg λ(d:Nat) (k:Nat) (s2:List UInt8)=>4-k) ((dg a.x).getD i 0) 0 s (⟨Z,by simp,by rw [hs];rfl,λ_=>.inl O⟩) (sF O) sr (λd k s2 hJ=>?_)
   obtain ⟨hk4,hd,hs2,hnz⟩:=hJ
   have hdl:d<=(dg a.x).getD i 0:=by rw [hd];exact Nat.div_le_self _ _
   refine zS (q4 (AK O (st' (Aa (c:=(decide (k<4))) O O (DE (a:=k) (b:=4))) O (AK O ?_))))
   refine zg (FM:=[(0,(nV a)),(2,(Value.string (ByteArray.mk #[]))),(4,(vN i)),(5,(vN d)),(6,(vN k)),(3,(Value.string (txB s2))),(20,(vN k)),(21,(qa (decide (k<4)))),(22,(qa (decide (k<4)))),(32,(qa ((decide (k<4))&&((decide ((i+1)<((dg a.x).length)))||(decide (0<d))))))]) (LM:=[nA a]) 10 ?_ ?_
   ·rcases xO (decide (k<4)) with hg1|hg1
    ·refine zN (k:=22) (u:=qa true) O (by rw [hg1]) ?_
     have hg1':=xR hg1
     refine FR O (BV (v:=(vN (i+1))) O (AX (c:=((i+1:Nat):Int)) O O (AU (a:=i) (b:=1) Z)) (FR O (BV (v:=(vN ((dg a.x).length))) O (AD O underlying80) (BV (v:=(qa (decide ((i+1)<((dg a.x).length))))) O (Aa (c:=(decide ((i+1)<((dg a.x).length)))) O O (DE (a:=i+1) (b:=(dg a.x).length))) (FR O ?_)))))
     refine zg (FM:=[(0,(nV a)),(2,(Value.string (ByteArray.mk #[]))),(4,(vN i)),(5,(vN d)),(6,(vN k)),(3,(Value.string (txB s2))),(20,(vN k)),(21,(qa (decide (k<4)))),(22,(qa true)),(23,(vN i)),(24,(vN (i+1))),(25,(nV a)),(26,(vN ((dg a.x).length))),(27,(qa (decide ((i+1)<((dg a.x).length))))),(28,(qa (decide ((i+1)<((dg a.x).length))))),(31,(qa ((decide ((i+1)<((dg a.x).length)))||(decide (0<d)))))]) (LM:=[nA a]) 3 ?_ ?_
     ·rcases xO (decide ((i+1)<((dg a.x).length))) with hg2|hg2
      ·refine zN (k:=28) (u:=qa true) O (by rw [hg2]) ?_
       have hg2':=xR hg2
       exact BP O (BP O (BV (v:=(qa true)) O (ex_pick_true O O) (oNl' (zT IQ (xP _)))))
      ·refine zN (k:=28) (u:=qa false) O (by rw [hg2]) ?_
       have hg2':=xQ hg2
       exact FR O (BV (v:=(qa (decide (0<d)))) O (CC (c:=(decide (0<d))) O O (DE (a:=0) (b:=d))) (BV (v:=(qa (decide (0<d)))) O (AN O O) (oNl' (zT IQ (xP _)))))
     exact st' (v:=(qa ((decide ((i+1)<((dg a.x).length)))||(decide (0<d))))) (ex_pick_true O O) O (oNl' (zT CT (xP _)))
    ·refine zN (k:=22) (u:=qa false) O (by rw [hg1]) ?_
     have hg1':=xQ hg1
     exact BP O (BP O (BP O (BP O (BP O (BP O (yN (EW O O O) O (leB O) (yN (EW O O O) O (leB O) (BP O (st' (v:=(qa false)) (AN O O) O (oNl' (zT CT (xP _))))))))))))
   refine oNl' (zB (sL [0,2,4,5,6,3,32] O) (zA ?_))
   refine zK O (λhc2=>?_) (λhc2=>?_)
   ·simp only [jK] at hc2
    refine zG (q1 (zM (q4 (AK O (st' (Cz (c:=((d%10:Nat):Int)) O O Z (HD (a:=d) (b:=10))) O (st' (AX (c:=((48+(d%10):Nat):Int)) O O (AU (a:=48) (b:=d%10) Z)) O (st' (Al (c:=((48+(d%10):Nat):Int)) O underlying3 underlying5 (Pm Z)) O (st' (v:=(Value.string (txB [UInt8.ofNat (48+d%10)]))) (P1 (a:=48+d%10) O underlying5 underlying9 Z) O (AK O (st' (v:=(Value.string (txB (DB (4*i+(k+1)) a.x)))) (Bz (r:=(txB (DB (4*i+(k+1)) a.x))) O O (by rw [DW,DW,hs2,QJ];simp;omega) (by rw [hs2];exact XF hc2.1 hd)) O (asg' O ?_)))))))))))
    refine oNl' (zB (sL [0,2,4,5,6,3] O) (zA (zH (AK O (st' (Ec (c:=((d/10:Nat):Int)) O O Z (FW (a:=d) (b:=10) Z)) O (asg' O (oNl' (zB (sL [0,2,4,5,6,3] O) (zJ (zA (zH ?_)))))))))))
    exact AK O (st' (AX (c:=((k+1:Nat):Int)) O O (AU (a:=k) (b:=1) Z)) O (asg' O (oNl' (zB (sL [0,2,4,5,6,3] O) (yD (d/10) (k+1) (DB (4*i+(k+1)) a.x) (⟨Z,by rw [hd,Nat.div_div_eq_div_mul,<-Nat.pow_succ],rfl,λh=>.inr (by rw [Nat.add_sub_cancel,<-hd];omega)⟩) Z (sF O) sr)))))
   ·simp only [jK] at hc2
    have hout:i+1<(dg a.x).length/\s2=DB (4*(i+1)) a.x\/i+1=(dg a.x).length/\s2=Lib.decDigits a.x:=by
        rcases Nat.lt_or_ge (i+1) (dg a.x).length with h|h
        ·exact .inl ⟨h,by rw [hs2,show k=4 by omega];rfl⟩
        ·exact .inr ⟨Z,by rw [hs2];exact X9 hx0 Z hk4 hd (hnz Z) Z⟩
    exact zW (zO (zo (zR (zJ (zA (zH (AK O (st' (AX (c:=((i+1:Nat):Int)) O O (AU (a:=i) (b:=1) Z)) O (asg' O (oNl' (zB (sL [0,2,4,5,6,3] O) (zi (i+1) s2 (hout) Z (sF O) sr))))))))))))
  ·replace hc1:=xQ hc1
   have hs:s=Lib.decDigits a.x:=(hj.resolve_left Z).2
   exact zW (zO (zh (zR (q2 (AK O (asg' O (oNl' (zB (sL [0,2,4,3] O) (zA (zF (ret_one O (rd_tmp (v:=(Value.string (txB s))) O) (λw hw=>⟨by rw [hs],hw.out⟩))))))))))))
end
section
structure d8 (x y:Nat) where
  q:NX x
  r:NX y
instance {x y:Nat}:Cl (d8 x y):=⟨λa=>.tuple #[Ce a.q,Ce a.r],λa=>[AM a.q,AM a.r],λa y hy=>R3 rfl rfl hy⟩
section
variable {S:Nat->Prop} {w:World} {x y:Nat}
theorem fI {a:d8 x y} (h:Ro S w a):Ro S w a.q:=λz hz=>h z (by rcases xM.1 hz with rfl;exact List.mem_cons_self)
theorem gN {W:World} {src:List (Option Nat)} {e:Ending} (hs:∀s∈src,∀b,s=some b->S b) (h:Hd W src x e w):Aj (NX x) S W e w:=by
  obtain ⟨v,rfl,rfl,hb,hh,hl⟩:=h
  refine ⟨⟨v.p,v.c,v.ok⟩,rfl,hb,λy hy=>?_⟩
  rcases xM.1 hy with rfl
  exact ⟨hh,λb e=>(hl b e).imp_right λh=>hs _ h b O⟩
theorem gU {a:NX x} (h:Ro S w a) {b:Nat} (e:a.p.map (·.block)=some b):S b:=(h _ List.mem_cons_self).2 b e
theorem Sr {x:Nat} (h:nw x<=67108864):(dg x).length<=274877906944:=by have:=bR x;omega
theorem Hi {x:Nat} (h:nw x<=67108864):(dg x).length<=549755813888:=by have:=bR x;omega
theorem SS (x:Nat) (hx:x<18446744073709551616) (w:World) {S:Nat->Prop}:Calls prog 188 #[(vK .u64 x)] w (Aj (NX x) S w):=(Rz x hx w).mono λe w' h=>gN (λs hs=>by cases hs) h
theorem Td (a:NX x) (b:NX y) (hx:nw x<=67108864) (hy:nw y<=67108864) (w:World) (ha:Ro S w a) (hb:Ro S w b):Calls prog 164 #[Ce a,Ce b] w (Aj (NX (x+y)) S w) :=
  (aJ a.nv b.nv (Hi hx) (Hi hy) w (Uy ha) (Uy hb)).mono λe w' h=>gN (λs hs=>by cases hs) h
theorem PC (a:NX x) (b:NX y) (hxy:y<=x) (hx:nw x<=67108864) (w:World) (ha:Ro S w a) (hb:Ro S w b):Calls prog 191 #[Ce a,Ce b] w (Aj (NX (x-y)) S w) :=
  (TJ a.nv b.nv hxy (Hi hx) w (Uy ha) (Uy hb)).mono λe w' h=>gN (λs hs=>by cases hs) h
theorem PB (a:NX x) (b:NX y) (hx:nw x<=67108864) (hy:nw y<=67108864) (w:World) (ha:Ro S w a) (hb:Ro S w b):Calls prog 161 #[Ce a,Ce b] w (Aj (NX (x*y)) S w) :=
  (Ov a.nv b.nv (Hi hx) (Hi hy) w (Uy ha) (Uy hb)).mono λe w' h=>gN (λs hs=>by cases hs) h
theorem bF (a:NX x) (b:NX y) (hx:nw x<=67108864) (hy:nw y<=67108864) (w:World) (ha:Ro S w a) (hb:Ro S w b):Calls prog 192 #[Ce a,Ce b] w (Ac w (vI (Dv x y))) :=
  Ot a.nv b.nv (Hi hx) (Hi hy) w (Uy ha) (Uy hb)
theorem bG (a:NX x) (b:NX y) (hx:nw x<=67108864) (hy:nw y<=67108864) (w:World) (ha:Ro S w a) (hb:Ro S w b):Calls prog 189 #[Ce a,Ce b] w (Aj (NX (Nat.gcd x y)) S w) :=
  (aL a.nv b.nv (Sr hx) (Sr hy) w (Uy ha) (Uy hb)).mono λe w' h=>gN (λs hs c e=>by
    rcases xL.1 hs with rfl|hs
    · exact gU ha e
    · rcases xM.1 hs with rfl;exact gU hb e) h
theorem Te (a:NX x) (b:NX y) (hy0:0<y) (hx:nw x<=67108864) (hy:nw y<=67108864) (w:World) (ha:Ro S w a) (hb:Ro S w b):Calls prog 190 #[Ce a,Ce b] w (Aj (d8 (x/y) (x%y)) S w) :=
  (TI a.nv b.nv hy0 (Sr hx) (Sr hy) w (Uy ha) (Uy hb)).mono λe w' h=>by
    obtain ⟨u,v,hu,hv,rfl,hB,hhu,hhv,lu,lv⟩:=h
    obtain ⟨up,uc,ux,uok⟩:=u
    obtain ⟨vp,vc,vx,vok⟩:=v
    dsimp only at hu hv
    subst hu;subst hv
    refine ⟨⟨⟨up,uc,uok⟩,⟨vp,vc,vok⟩⟩,rfl,hB,λz hz=>?_⟩
    rcases xL.1 hz with rfl|hz
    · exact ⟨hhu,λb e=>(lu b e).elim .inl λh=>by cases h⟩
    · rcases xM.1 hz with rfl
      exact ⟨hhv,λb e=>(lv b e).imp_right λh=>by
        have:=xM.1 h
        exact gU ha this.symm⟩
theorem M1 (a:NX x) (hx:nw x<=67108864) (w:World) (ha:Ro S w a):Calls prog 110 #[Ce a] w (Ac w (Value.string (txB (Lib.decDigits x)))):=XU a.nv (Hi hx) w (Uy ha)
end
section
variable {P:Program} {ops:Array Oper} {rest:List Oper} {Q:Exit->Act->World->Prop} {n d:Nat} {F:List (Nat×Value)} {w0:Ay} {S:Nat->Prop} {L:List As} {t:TypeId} {p:String} {af:Array Edge} {y:Operand} {f:FuncId} {xs:List Operand} {args:List Value} {ts:Array TypeId}
theorem cD {u v:Nat} (hc:∀args w,(callFunc f args).run P w=.ok (.enter f args) w) (h:∀w,A_ w0 w L->Calls P f args.toArray w (Aj (d8 u v) (SL w0 S L) w))
    (hf:evF F y=some (.func (.func f) #[] #[])) (hargs:xs.map (evF F)=args.map some) (hd:Nat.ble (d+1) n=true) (next:∀a:d8 u v,At w0 S a->AP P ops rest Q n ((d,.tuple #[Ce a.q,Ce a.r])::F) w0 (AM a.q::AM a.r::L)) :
    AP P ops (⟨some d,.call { callee:=.value y,args:=xs.toArray,argTypes:=ts },t,p,af,none⟩::rest) Q n F w0 L:=zw hc h hf hargs hd next
end
end
theorem Ky:∀{k x:Nat},x<10^(k+1)->(Lib.decDigits x).length<=k+1
  | 0,x,h=>by rw [Lib.decDigits,dif_pos Z];simp
  | k+1,x,h=>by
    rw [Lib.decDigits]
    split
    · simp
    · have:=Ky (k:=k) (x:=x/10) (by rw [Nat.pow_succ] at h;omega)
      rw [xJ,List.length_singleton];omega
theorem Jl (n:Nat):(Lib.decDigits n).length<=10*nw n+1 :=
  Ky (Nat.lt_of_lt_of_le (Nat.lt_of_lt_of_le (Bt n) (by rw [Nat.pow_mul];exact Nat.pow_le_pow_left jY _)) (Nat.pow_le_pow_right Z (Nat.le_succ _)))
theorem OP (x:Nat):0<(dg x).length↔x≠0:=by
  constructor
  · intro h e;rw [e,GH] at h;simp at h
  · intro h;exact (Lb Z).2
theorem ce (neg:Bool) (x:Nat):decide (Eh neg x<0)=(neg&&decide (0<(dg x).length)):=by
  have h:=OP x
  cases neg
  · simp [Eh]
  · by_cases h0:x=0
    · subst h0;simp [Eh,GH]
    · have:0<(dg x).length:=h.2 h0
      simp [Eh,this];omega
def cf (neg:Bool) {x:Nat} (n:NX x):ZX (Eh neg x):=⟨n.cast (Av neg x).symm⟩
theorem dq (neg:Bool) {x:Nat} (n:NX x):Dx (cf neg n)=[.bool (neg&&decide (0<(dg x).length)),Ce n]:=by
  unfold Dx cf Ce
  rw [ce]
  simp only [Av]
theorem QE {x:Nat} (h:(dg x).length=0):x=0:=Classical.byContradiction λe=>by have:=(OP x).2 e;omega
theorem I8 {x:Nat} (h:¬(dg x).length=0):x≠0:=(OP x).1 Z
def txI (z:Int):List UInt8:=if z<0 then 45::Lib.decDigits z.natAbs else Lib.decDigits z.natAbs
end Go.Proofs.YtcpkbjjmcleplaaGreatDoor
