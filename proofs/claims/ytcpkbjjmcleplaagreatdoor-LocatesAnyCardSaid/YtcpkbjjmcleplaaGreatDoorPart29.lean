import Derived.Test.YtcpkbjjmcleplaaGreatDoorPart28
namespace Go.Proofs.YtcpkbjjmcleplaaGreatDoor
open Go Go.RowKit Go.Proofs.Tryz
open Go.Value renaming slice→qz,bool→qa
set_option linter.unusedVariables false
set_option linter.unusedSimpArgs false
section
set_option maxRecDepth 100000
theorem Xc {a b:Nat} (h:b<a):0<Da a b:=by unfold Da;rw [if_neg Z,if_neg Z];omega
theorem Us {a b:Nat} (h:¬Da a b<=0):b<a:=by
 unfold Da at h
 split at h
 ·omega
 ·split at h<;>omega
theorem R9 (a b:NV) (hb0:0<b.x) (hla:(dg a.x).length<=274877906944) (hlb:(dg b.x).length<=274877906944) (w:World) (ha:Holds w (nA a)) (hb:Holds w (nA b)):Calls prog 190 #[(nV a),(nV b)] w (KG w [] [a.p.map (·.block)] (a.x/b.x) (a.x%b.x)):=by
 obtain ⟨k,hk⟩:∃k,k=(dg b.x).length-3:=⟨_,rfl⟩
 obtain ⟨tp,htp⟩:∃tp,tp=b.x/10000^k:=⟨_,rfl⟩
 have htb:=Xj b.x
 have htp1:=QJ hb0
 rw [<-hk] at htb htp1
 rw [<-htp] at htp1
 have htb2:=htb
 rw [<-htp] at htb2
 have hlb1:=(Kn hb0).2
 refine AX (args:=[(nV a),(nV b)]) (L:=[nA a,nA b]) func190 O O (leB O) (CE O ha (CE O hb (Al))) (zG (sL [0,1] O) (q4 (asg' O (asg' O (oNl' (q1 (q4 (AL O (AL O (CC call192 (λw hw=>Nt a b (by first|omega|(dsimp only;omega)) (by first|omega|(dsimp only;omega)) w (hw.holds (i:=0) O) (hw.holds (i:=1) O)) O (st' (Ag (c:=(decide ((Da a.x b.x)<(0:Int)))) O O O) O ?_)))))))))))
 refine oNl' (zB (sL [0,1,4,5,18] O) (zA ?_))
 refine zK O (λhc0=>?_) (λhc0=>?_)
 ·replace hc0:=xR hc0
  rw [Fm] at hc0
  exact q4 (AL O (asg' O (asg' O (oNl' (zB (sL [0,1,4,5] O) (zA (zF (zH (Bf O (rd_tmp (v:=jj) O) (rd_tmp (v:=(nV a)) O) (λw hw=>(by rw [Nat.mod_eq_of_lt hc0];exact aq hw (Nat.div_eq_of_lt hc0) (k:=0) O)))))))))))
 ·replace hc0:=xQ hc0
  rw [Fm] at hc0
  have hlab:=IV (Nat.le_of_not_lt hc0)
  obtain ⟨m,hm1⟩:∃m,m=(dg a.x).length-(dg b.x).length+1:=⟨_,rfl⟩
  have hm:m+(dg b.x).length=(dg a.x).length+1:=by omega
  refine zI (q2 (AL O (st' (v:=(vN ((dg b.x).length))) (AD O underlying80) O (st' (BT (c:=((((dg b.x).length:Nat):Int)-3)) O O (BY Z Z)) O (st' (Nf (c:=((k:Nat):Int)) O O (by split<;>omega)) O (asg' O (q3 (sL [0,1,4,5,6] O) (AL O (AL O (CC (args:=[(nV b),(vN k)]) (v:=(vN tp)) call209 (λw hw=>(by rw [htp];exact PI b k Z (by first|omega|(dsimp only;omega)) (by first|omega|(dsimp only;omega)) w (hw.holds (i:=1) O))) O (asg' O ?_)))))))))))
  refine q3 (sL [0,1,4,5,6,7] O) (AL O (st' (v:=(vN ((dg a.x).length))) (AD O underlying80) O (AL O (st' (v:=(vN ((dg b.x).length))) (AD O underlying80) O (st' (BT (c:=(((m:Nat):Int)-1)) O O (by rw [BY Z Z];omega)) O (asg' O (q3 (sL [0,1,4,5,6,7,8] O) (AL O (st' (Ad (c:=((m:Nat):Int)) O O (by rw [BY Z Z];omega)) O (y4 (m:=m) dT O O Z O O λb1 ho_b1=>asg' O ?_))))))))))
  refine q3 (sL [0,1,4,5,6,7,8,9] O) (zf (V:=λb2=>(qz (jk b2) 0 0)) (T:=3) (cs:=[]) (AJ O) (M4 underlying80 sizeOf3) O (leB O) λb2=>yr (z:=1) 0 O Z λho_b2=>AL O (AL O (st' (Ad (c:=((m:Nat):Int)) O O (by rw [BY Z Z];omega)) O (st' (v:=(qz (XE a.p m a.c 1) ((dg a.x).length-m) (a.c-m))) (HI (i:=m) O O underlying80 sizeOf3 Z a.ok.le) O (yo (cs2:=dgL (([])++(((dg a.x)).drop m))) (news:=dgL (((dg a.x)).drop m)) Wo O ho_b2 O O (a9 (k:=2) O a.ok Z) (by simp [Ce]) (Rb _) (G8 Z) Z (by rw [FP];rfl) O λp_1 c_1 ho_1=>y3 0 (X:=a.x/10000^m) O ho_1 jX (by rw [<-Re];exact (List.take_length).symm) O λhok0 hloc0=>zJ (k:=40) (u:=(qz p_1 ((dg (a.x/10000^m)).length) c_1)) O (by rw [show 0+((dg a.x).length-m)=(dg (a.x/10000^m)).length by rw [<-Re];simp]) (asg' O (q6 (sL [0,1,4,5,6,7,8,9,10] O) ?_)))))))
  refine zN ?_
  refine yx (tg λ(j:Nat) (qs:List Nat) (R:Nat) (p:Option Addr) (c:Nat)=>j<=m/\Jf qs/\m=qs.length/\val10 qs=10000^j*(a.x/10000^j/b.x)/\R=a.x/10000^j%b.x/\BI p (dg R).length c/\EJ w [] p) (tg λ(j:Nat) (qs:List Nat) (R:Nat) (p:Option Addr) (c:Nat)=>[(0,(nV a)),(1,(nV b)),(4,jj),(5,jj),(6,(vN k)),(7,(vN tp)),(9,(qz (jk b1) m m)),(8,(vI (((j:Nat):Int)-1))),(10,(qz p ((dg R).length) c))]) (tg λ(j:Nat) (qs:List Nat) (R:Nat) (p:Option Addr) (c:Nat)=>[AI p (dgL (dg R)),rowW (jk b1) 3 1 m m (dgL qs),nA a,nA b]) (tg λ(j:Nat) (qs:List Nat) (R:Nat) (p:Option Addr) (c:Nat)=>j) m (List.replicate m 0) (a.x/10000^m) p_1 c_1 (⟨Nat.le_refl _,Ml _,by simp,by rw [J2,Nat.div_eq_of_lt (On hb0 hm),Nat.mul_zero],(Nat.mod_eq_of_lt (On hb0 hm)).symm,hok0,hloc0⟩) (sF O) sr (λj qs R p c hJ=>?_)
  obtain ⟨hj,hdd,hk,hv,hR,hok,hloc⟩:=hJ
  refine zV (q4 (AL O (st' (CW (c:=(decide ((0:Int)<=(((j:Nat):Int)-1)))) O O O) O (oNl' (zB (sL [0,1,4,5,6,7,9,8,10,42] O) (zA ?_))))))
  refine zK O (λhc1=>?_) (λhc1=>?_)
  ·replace hc1:=xR hc1
   have hj1:1<=j:=by omega
   obtain ⟨R1,hR1⟩:∃R1,R1=10000*R+(dg a.x).getD (j-1) 0:=⟨_,rfl⟩
   have hRb:R<b.x:=by rw [hR];exact Nat.mod_lt _ hb0
   have hd1:=Gx a.x (j-1)
   have hR1b:R1<10000*b.x:=by omega
   have hA:=Rf a.x (j-1)
   rw [Nat.sub_add_cancel hj1] at hA
   have hst:=QL hb0 hA hR hR1
   have hR1l:(dg R1).length<=(dg b.x).length+1:=by refine GX (Nat.lt_of_lt_of_le hR1b ?_);rw [Nat.pow_succ];have h8:=DU (Eg b.x);rw [C3] at h8;omega
   have hRl:=IV (Nat.le_of_lt hRb)
   have hd9:Jf ([(dg a.x).getD (j-1) 0]++dg R):=λe he=>(List.mem_append.1 he).elim (λh=>by rw [xM.1 h];omega) (λh=>Eg R e h)
   have hv9:val10 ([(dg a.x).getD (j-1) 0]++dg R)=R1:=by rw [List.singleton_append,val10,C3];omega
   have hk9:1+(dg R).length=([(dg a.x).getD (j-1) 0]++dg R).length:=by simp [Nat.add_comm]
   obtain ⟨f,hf⟩:∃f,f=R1/10000^k:=⟨_,rfl⟩
   have hfb:=Sr hR1b htb
   rw [<-hf] at hfb
   obtain ⟨q,hq⟩:∃q,q=R1/b.x:=⟨_,rfl⟩
   have hq1:q<=9999:=by have:=(Nat.div_lt_iff_lt_mul hb0).2 hR1b;omega
   have hqR:b.x*q<=R1:=by rw [hq];exact Nat.mul_div_le _ _
   have hlow:f/(tp+1)<=q:=by rw [hf,htp,hq];exact Xk hb0
   have hhigh:q<=f/tp:=by rw [hf,htp,hq];exact U2 (by rw [<-htp];exact htp1)
   have hf2:f/(tp+1)<=f:=Nat.div_le_self _ _
   refine yK (k:=8) (u:=(vN (j-1))) O (by show Value.int _ _=Value.int _ _;congr 1;omega) (zI (q1 (zN (q4 (AL O (AL O (st' (v:=(pP (pB a.p) (pO a.p+(j-1)*1))) (AU (j:=j-1) O O a.ok underlying80 sizeOf3 O Z) O (st' (Aj (v:=(vN ((dg a.x).getD (j-1) 0))) (i:=2) O O (a.ok.ne Z) Dr (D1 (ds:=dg a.x) (j:=j-1) Z)) O (zf (V:=λb3=>(qz (jk b3) 1 1)) (T:=3) (cs:=[(vN ((dg a.x).getD (j-1) 0))]) (AJ O) (Ar (cs:=[(vN ((dg a.x).getD (j-1) 0))]) (pv:=[(0,(vN ((dg a.x).getD (j-1) 0)))]) underlying80 sizeOf3 zeroValue3 jY jY O jV) O (leB O) λb3=>yr (z:=1) 1 O Z λho_b3=>AL O ?_)))))))))
   refine yo (cs2:=dgL (([(dg a.x).getD (j-1) 0])++(dg R))) (news:=dgL (dg R)) Wo O ho_b3 O O (ZD (k:=1) O hok) (by simp [Ce]) (Rb _) (G8 Z) Z (by rw [FP];rfl) O λp_2 c_2 ho_2=>CC (args:=[(qz p_2 (1+((dg R).length)) c_2)]) (v:=(qz p_2 ((dg R1).length) c_2)) call194 (λw hw=>(by have h9:=HV p_2 c_2 (([(dg a.x).getD (j-1) 0])++(dg R)) hd9 (by rw [<-hk9];exact ho_2.row) (by simp;omega) w (Kz (hw.holds (i:=0) O) ho_2 hk9);rw [hv9,<-hk9] at h9;exact h9)) O (y3 0 (X:=R1) O ho_2 hk9 (by rw [<-hv9];exact F5 hd9) O λhok1 hloc1=>asg' O (q3 (sL [0,1,4,5,6,7,9,8,10] O) (AL O (AL O (CC (args:=[(qz p_2 ((dg R1).length) c_2),(vN k)]) (v:=(vN f)) call209 (λw hw=>(by rw [hf];exact PI (NV.mk p_2 c_2 R1 hok1) k Z (by first|omega|(dsimp only;omega)) (by first|omega|(dsimp only;omega)) w (hw.holds (i:=0) O))) O (asg' O (q6 (sL [0,1,4,5,6,7,9,8,10,11] O) (B8 (Ed 10) sr (Bq O ?_)))))))))
   refine Bq O (Ao O (Ad (c:=((tp+1:Nat):Int)) O O (Ab (a:=tp) (b:=1) Z)) (Ao O (FR (c:=((f/(tp+1):Nat):Int)) O O Z (Fa (a:=f) (b:=tp+1) Z)) (Bq O (Bq O (Ao O (FR (c:=((f/tp:Nat):Int)) O O Z (Fa (a:=f) (b:=tp) Z)) (Ao O (U_ (c:=((min (f/tp) 9999:Nat):Int)) O O (by split<;>omega)) (pS' O (pS' O (zP (zB (sL [0,1,4,5,6,7,9,8,10,12,13] O) (q1 ?_)))))))))))
   refine zN ?_
   refine yE (tg λ(lo:Nat) (hi:Nat)=>lo<=q/\q<=hi/\hi<=9999) (tg λ(lo:Nat) (hi:Nat)=>[(0,(nV a)),(1,(nV b)),(4,jj),(5,jj),(6,(vN k)),(7,(vN tp)),(9,(qz (jk b1) m m)),(8,(vN (j-1))),(10,(qz p_2 ((dg R1).length) c_2)),(12,(vN lo)),(13,(vN hi))]) (tg λ(lo:Nat) (hi:Nat)=>[AI p_2 (dgL (dg R1)),AI p (dgL (dg R)),rowW (jk b1) 3 1 m m (dgL qs),nA a,nA b]) (tg λ(lo:Nat) (hi:Nat)=>hi-lo) (f/(tp+1)) (min (f/tp) 9999) (⟨hlow,Z,Z⟩) (sF O) sr (λlo hi hJ=>?_)
   obtain ⟨hlo,hhi,hh9⟩:=hJ
   refine zV (q4 (AL O (AL O (st' (Ag (c:=(decide (lo<hi))) O O (DL (a:=lo) (b:=hi))) O (oNl' (zB (sL [0,1,4,5,6,7,9,8,10,12,13,66] O) (zA ?_)))))))
   refine zK O (λhc2=>?_) (λhc2=>?_)
   ·replace hc2:=xR hc2
    refine zI (zA (zN (q4 (AL O (AL O (st' (Ad (c:=((lo+hi:Nat):Int)) O O (Ab (a:=lo) (b:=hi) Z)) O (st' (Ad (c:=(((lo+hi)+1:Nat):Int)) O O (Ab (a:=lo+hi) (b:=1) Z)) O (st' (FR (c:=((((lo+hi)+1)/2:Nat):Int)) O O Z (Fa (a:=(lo+hi)+1) (b:=2) Z)) O (asg' O (q3 (sL [0,1,4,5,6,7,9,8,10,12,13,14] O) (AL O ?_)))))))))))
    refine AL O (st' (An (c:=((((lo+hi)+1)/2:Nat):Int)) O underlying3 underlying52 (BO Z)) O (yh (args:=[(vK .u64 (((lo+hi)+1)/2))]) call188 (λw hw=>Qn (((lo+hi)+1)/2) Z w) Qx O O O λv1 hv1 lv1=>?_))
    have hlv1:(dg v1.x).length<=1:=GX Z
    refine yh (args:=[(nV b),(nV v1)]) call161 (λw hw=>Nv b v1 (by first|omega|(dsimp only;omega)) (by first|omega|(dsimp only;omega)) w (hw.holds (i:=5) O) (hw.holds (i:=0) O)) Qx O O O λv2 hv2 lv2=>?_
    have hlv2:(dg v2.x).length<=(dg b.x).length+1:=by refine GX ?_;rw [hv2,Nat.pow_succ];have h8:=DU (Eg b.x);rw [C3] at h8;exact Nat.mul_lt_mul_of_lt_of_le h8 Z Z
    refine AL O (CC call192 (λw hw=>Nt v2 (NV.mk p_2 c_2 R1 hok1) (by first|omega|(dsimp only;omega)) (by first|omega|(dsimp only;omega)) w (hw.holds (i:=0) O) (hw.holds (i:=2) O)) O (st' (D6 (c:=(decide ((Da v2.x R1)<=(0:Int)))) O O O) O (oNl' (zB (sL [0,1,4,5,6,7,9,8,10,12,13,14,79] O) (zA ?_)))))
    refine zK O (λhc3=>?_) (λhc3=>?_)
    ·replace hc3:=xR hc3
     have hmq:(lo+hi+1)/2<=q:=by rw [hq];refine (Nat.le_div_iff_mul_le hb0).2 ?_;rw [Nat.mul_comm,<-hv1,<-hv2];exact Nat.le_of_not_lt λh=>by have h8:=Xc h;omega
     exact zL (AL O (asg' O (oNl' (zB (sL [0,1,4,5,6,7,9,8,10,12,13,14] O) (zM (zl (((lo+hi)+1)/2) hi (⟨Z,Z,Z⟩) Z (sF O) (sl (sl sr))))))))
    ·replace hc3:=xQ hc3
     have hmq:q<(lo+hi+1)/2:=by rw [hq];refine (Nat.div_lt_iff_lt_mul hb0).2 ?_;rw [Nat.mul_comm,<-hv1,<-hv2];exact Us Z
     exact zL (AL O (st' (BT (c:=(((((lo+hi)+1)/2)-1:Nat):Int)) O O (CH (a:=((lo+hi)+1)/2) (b:=1) Z Z)) O (asg' O (oNl' (zB (sL [0,1,4,5,6,7,9,8,10,12,13,14] O) (zM (zl lo ((((lo+hi)+1)/2)-1) (⟨Z,Z,Z⟩) Z (sF O) (sl (sl sr)))))))))
   ·replace hc2:=xQ hc2
    have hlq:lo=q:=by omega
    refine zW (zO (zh (zR (q2 (AL O (AL O (AL O (st' (v:=(pP (pB (jk b1)) (pO (jk b1)+(j-1)*1))) (AU (j:=j-1) O O ho_b1.row underlying80 sizeOf3 O Z) O (AO.storeRow2 (j:=j-1) (v:=(vN lo)) O O ho_b1 (by simp [Ce];omega) Z O sizeOf3 O (Rc _ _ _) (oNl' (zB (sL [0,1,4,5,6,7,9,8,10,12,13] O) ?_)))))))))))
    refine zA (zL (AL O (AL O (AL O (st' (An (c:=((lo:Nat):Int)) O underlying3 underlying52 (BO Z)) O (yh (args:=[(vK .u64 lo)]) call188 (λw hw=>Qn lo Z w) Qx O O O λv3 hv3 lv3=>?_))))))
    have hlv3:(dg v3.x).length<=1:=GX Z
    refine yh (args:=[(nV b),(nV v3)]) call161 (λw hw=>Nv b v3 (by first|omega|(dsimp only;omega)) (by first|omega|(dsimp only;omega)) w (hw.holds (i:=5) O) (hw.holds (i:=0) O)) Qx O O O λv4 hv4 lv4=>?_
    have hlv4:(dg v4.x).length<=(dg b.x).length+1:=by refine GX ?_;rw [hv4,Nat.pow_succ];have h8:=DU (Eg b.x);rw [C3] at h8;exact Nat.mul_lt_mul_of_lt_of_le h8 Z Z
    have hv4R:v4.x<=R1:=by rw [hv4,hv3,hlq];exact hqR
    exact yh (args:=[(qz p_2 ((dg R1).length) c_2),(nV v4)]) call191 (λw hw=>R_ (NV.mk p_2 c_2 R1 hok1) v4 hv4R (by first|omega|(dsimp only;omega)) w (hw.holds (i:=2) O) (hw.holds (i:=0) O)) Qx O O O λv5 hv5 lv5=>asg' O (oNl' (zB (sL [0,1,4,5,6,7,9,8,10,12,13] O) (zM (zA (zL (AL O (st' (BT (c:=(((j-1:Nat):Int)-1)) O O (BY Z Z)) O (asg' O (oNl' (zB (sL [0,1,4,5,6,7,9,8,10,12,13] O) (yk (j-1) (qs.set (j-1) lo) v5.x v5.p v5.c (⟨Z,RY hdd Z,by simpa using hk,Sq hdd hk hj1 hj hv (by rw [hlq,hq];exact hst.1),by rw [hv5,hv4,hv3,hlq,hst.2,hq];exact Nat.sub_eq_of_eq_add (Nat.mod_add_div _ _).symm,v5.ok,lv5⟩) Z (sF O) (sk (sl (sl (sl (sl sr))))))))))))))))
  ·replace hc1:=xQ hc1
   obtain rfl:j=0:=by omega
   have hfin:val10 qs=a.x/b.x:=by rw [hv];simp
   have hfin2:R=a.x%b.x:=by rw [hR];simp
   refine zW (zO (yX (zR (q2 (AL O (CC (args:=[(qz (jk b1) m m)]) (v:=(qz (jk b1) ((dg (val10 qs)).length) m)) call194 (λw hw=>(by have h9:=HV (jk b1) m qs hdd (by rw [<-hk];exact ho_b1.row) Z w (Kz (hw.holds (i:=1) O) ho_b1 hk);rw [<-hk] at h9;exact h9)) O (AL O (asg' O (asg' O (oNl' (zB (sL [0,1,4,5,6,7,9,8,10] O) ?_)))))))))))
   exact zA (zF (Bf O (rd_tmp (v:=(qz (jk b1) ((dg (val10 qs)).length) m)) O) (rd_tmp (v:=(qz p ((dg R).length) c)) O) (λw hw=>cw hw (i:=1) (k:=0) O ho_b1 hk (by rw [<-hfin];exact F5 hdd) (by rw [hfin]) (by rw [<-hfin2];rfl) (by rw [<-hfin2];exact hok) hloc (by rw [<-hfin2]))))
theorem Yn (a b:NV) (hla:(dg a.x).length<=274877906944) (hlb:(dg b.x).length<=274877906944) (w:World) (ha:Holds w (nA a)) (hb:Holds w (nA b)):Calls prog 189 #[(nV a),(nV b)] w (G_ w [a.p.map (·.block),b.p.map (·.block)] (Nat.gcd a.x b.x)):=by
 refine AX (args:=[(nV a),(nV b)]) (L:=[nA b,nA a]) func189 O O (leB O) (CE O hb (CE O ha (Al))) (zG (sL [0,1] O) (q4 (asg' O (oNl' (q1 (zN ?_))))))
 refine yE (tg λ(u:NV) (v:NV)=>Nat.gcd u.x v.x=Nat.gcd a.x b.x/\(dg u.x).length<=274877906944/\(dg v.x).length<=274877906944/\EJ w [a.p.map (·.block),b.p.map (·.block)] u.p/\EJ w [a.p.map (·.block),b.p.map (·.block)] v.p) (tg λ(u:NV) (v:NV)=>[(4,jj),(0,(nV u)),(1,(nV v))]) (tg λ(u:NV) (v:NV)=>[nA v,nA u]) (tg λ(u:NV) (v:NV)=>v.x) a b (⟨rfl,hla,hlb,λs e=>.inr (by rw [<-e];exact List.mem_cons_self),λs e=>.inr (by rw [<-e];exact List.mem_cons_of_mem _ List.mem_cons_self)⟩) (sF O) sr (λu v hJ=>?_)
 obtain ⟨hg,hlu,hlv,hu,hv⟩:=hJ
 refine zV (q4 (AL O (st' (v:=(vN ((dg v.x).length))) (AD O underlying80) O (st' (Bu (c:=(decide (0<((dg v.x).length)))) O O (DL (a:=0) (b:=(dg v.x).length))) O (oNl' (zB (sL [4,0,1,9] O) (zA ?_)))))))
 refine zK O (λhc0=>?_) (λhc0=>?_)
 ·replace hc0:=xR hc0
  have hv0:0<v.x:=by
     rcases Nat.eq_zero_or_pos v.x with h|h
     ·rw [h] at hc0;exact absurd hc0 jY
     ·exact h
  refine zI (zA (zN (q4 (AL O (AL O (AO.callNN (args:=[(nV u),(nV v)]) call190 (λw hw=>R9 u v hv0 hlu hlv w (hw.holds (i:=1) O) (hw.holds (i:=0) O)) Qx (fA (y:=nA u) 1 O O Qx) O O O λq1 r1 hq1 hr1 lq1 lr1=>AL O (st' (AH (v:=(nV q1)) O O) O (st' (AH (v:=(nV r1)) O O) O (asg' O (asg' O ?_))))))))))
  exact q3 (sL [4,0,1,6] O) (AL O (asg' O (oNl' (zB (sL [4,0,1,6] O) (zA (zL (AL O (asg' O (oNl' (zB (sL [4,0,1] O) (zM (zl v r1 (⟨by rw [<-hg,hr1,Nat.gcd_comm,<-Nat.gcd_rec,Nat.gcd_comm],hlv,xK (IV (by rw [hr1];exact Nat.le_of_lt (Nat.mod_lt _ hv0))) hlv,hv,lr1.mono (λs hs c e=>hu c (by rw [xM.1 hs] at e;exact e))⟩) (by rw [hr1];exact Nat.mod_lt _ hv0) (sF O) (sl (sk (sk (sl sr))))))))))))))))
 ·replace hc0:=xQ hc0
  have hv0:v.x=0:=by
     rcases Nat.eq_zero_or_pos v.x with h|h
     ·exact h
     ·have:=(Kn h).2;omega
  rw [hv0,Nat.gcd_zero_right] at hg
  exact zW (zO (zh (zR (q2 (AL O (asg' O (oNl' (zB (sL [4,0,1] O) (zA (zF (ret_one O (rd_tmp (v:=(nV u)) O) (λw hw=>⟨u,hg,rfl,hw.out,hw.holds (i:=1) O,hu⟩))))))))))))
end
section
set_option maxRecDepth 100000
theorem WC (a:NV) (hla:(dg a.x).length<=549755813888) (w:World) (ha:Holds w (nA a)):Calls prog 110 #[(nV a)] w (AY w (Value.string (txB (Lib.decDigits a.x)))):=by
 refine AX (args:=[(nV a)]) (L:=[nA a]) func110 O O (leB O) (CE O ha (Al)) (zG (sL [0] O) (q4 (asg' O (oNl' (q1 (q4 (AL O (st' (v:=(vN ((dg a.x).length))) (AD O underlying80) O (st' (Az (c:=(decide (((dg a.x).length)=0))) O O (OI (a:=(dg a.x).length) (b:=0))) O (oNl' (zB (sL [0,2,9] O) ?_)))))))))))
 refine zA ?_
 refine zK O (λhc0=>?_) (λhc0=>?_)
 ·replace hc0:=xR hc0
  have hx0:a.x=0:=by rcases Nat.eq_zero_or_pos a.x with h|h;exact h;have:=(Kn h).2;omega
  exact q4 (asg' O (oNl' (zA (zF (zH (ret_one O (rd_tmp (v:=(Value.string (ByteArray.mk #[48]))) O) (λw hw=>⟨by rw [hx0,Km];rfl,hw.out⟩)))))))
 ·replace hc0:=xQ hc0
  have hx0:0<a.x:=by rcases Nat.eq_zero_or_pos a.x with h|h;(exact absurd (by rw [h];rfl) hc0);exact h
  refine zI (q2 (asg' O (oNl' (q1 (q4 (asg' O (oNl' (zA (zN ?_)))))))))
  refine yE (tg λ(i:Nat) (s:List UInt8)=>i<(dg a.x).length/\s=Cu (4*i) a.x\/i=(dg a.x).length/\s=Lib.decDigits a.x) (tg λ(i:Nat) (s:List UInt8)=>[(0,(nV a)),(2,(Value.string (ByteArray.mk #[]))),(4,(vN i)),(3,(Value.string (txB s)))]) (tg λ(i:Nat) (s:List UInt8)=>[nA a]) (tg λ(i:Nat) (s:List UInt8)=>(dg a.x).length-i) 0 ([]) (.inl ⟨Z,rfl⟩) (sF O) sr (λi s hJ=>?_)
  have hj:=hJ
  refine zV (q4 (AL O (AL O (st' (v:=(vN ((dg a.x).length))) (AD O underlying80) O (st' (Ag (c:=(decide (i<((dg a.x).length)))) O O (DL (a:=i) (b:=(dg a.x).length))) O (oNl' (zB (sL [0,2,4,3,13] O) (zA ?_))))))))
  refine zK O (λhc1=>?_) (λhc1=>?_)
  ·replace hc1:=xR hc1
   have hs:s=Cu (4*i) a.x:=(hj.resolve_right Z).2
   have gd:=Gx a.x i
   refine zI (q1 (zN (q4 (AL O (AL O (st' (v:=(pP (pB a.p) (pO a.p+i*1))) (AU (j:=i) O O a.ok underlying80 sizeOf3 O Z) O (st' (Aj (v:=(vN ((dg a.x).getD i 0))) (i:=0) O O (a.ok.ne Z) Dr (D1 (ds:=dg a.x) (j:=i) Z)) O (asg' O (q3 (sL [0,2,4,3,5] O) (asg' O (oNl' ?_)))))))))))
   refine zA (zN ?_)
   refine yI (tg λ(d:Nat) (k:Nat) (s2:List UInt8)=>k<=4/\d=(dg a.x).getD i 0/10^k/\s2=Cu (4*i+k) a.x/\(i+1=(dg a.x).length->k=0\/(dg a.x).getD i 0/10^(k-1)≠0)) (tg λ(d:Nat) (k:Nat) (s2:List UInt8)=>[(0,(nV a)),(2,(Value.string (ByteArray.mk #[]))),(4,(vN i)),(5,(vN d)),(6,(vN k)),(3,(Value.string (txB s2)))]) (tg λ(d:Nat) (k:Nat) (s2:List UInt8)=>[nA a]) (tg λ(d:Nat) (k:Nat) (s2:List UInt8)=>4-k) ((dg a.x).getD i 0) 0 s (⟨Z,by simp,by rw [hs];rfl,λ_=>.inl O⟩) (sF O) sr (λd k s2 hJ=>?_)
   obtain ⟨hk4,hd,hs2,hnz⟩:=hJ
   have hdl:d<=(dg a.x).getD i 0:=by rw [hd];exact Nat.div_le_self _ _
   refine zV (q4 (AL O (st' (Ag (c:=(decide (k<4))) O O (DL (a:=k) (b:=4))) O (AL O ?_))))
   refine zg (FM:=[(0,(nV a)),(2,(Value.string (ByteArray.mk #[]))),(4,(vN i)),(5,(vN d)),(6,(vN k)),(3,(Value.string (txB s2))),(20,(vN k)),(21,(qa (decide (k<4)))),(22,(qa (decide (k<4)))),(32,(qa ((decide (k<4))&&((decide ((i+1)<((dg a.x).length)))||(decide (0<d))))))]) (LM:=[nA a]) 10 ?_ ?_
   ·rcases xO (decide (k<4)) with hg1|hg1
    ·refine zJ (k:=22) (u:=qa true) O (by rw [hg1]) ?_
     have hg1':=xR hg1
     refine FV O (BN (v:=(vN (i+1))) O (Ad (c:=((i+1:Nat):Int)) O O (Ab (a:=i) (b:=1) Z)) (FV O (BN (v:=(vN ((dg a.x).length))) O (AD O underlying80) (BN (v:=(qa (decide ((i+1)<((dg a.x).length))))) O (Ag (c:=(decide ((i+1)<((dg a.x).length)))) O O (DL (a:=i+1) (b:=(dg a.x).length))) (FV O ?_)))))
     refine zg (FM:=[(0,(nV a)),(2,(Value.string (ByteArray.mk #[]))),(4,(vN i)),(5,(vN d)),(6,(vN k)),(3,(Value.string (txB s2))),(20,(vN k)),(21,(qa (decide (k<4)))),(22,(qa true)),(23,(vN i)),(24,(vN (i+1))),(25,(nV a)),(26,(vN ((dg a.x).length))),(27,(qa (decide ((i+1)<((dg a.x).length))))),(28,(qa (decide ((i+1)<((dg a.x).length))))),(31,(qa ((decide ((i+1)<((dg a.x).length)))||(decide (0<d)))))]) (LM:=[nA a]) 3 ?_ ?_
     ·rcases xO (decide ((i+1)<((dg a.x).length))) with hg2|hg2
      ·refine zJ (k:=28) (u:=qa true) O (by rw [hg2]) ?_
       have hg2':=xR hg2
       exact BF O (BF O (BN (v:=(qa true)) O (ex_pick_true O O) (oNl' (zS Hw (xP _)))))
      ·refine zJ (k:=28) (u:=qa false) O (by rw [hg2]) ?_
       have hg2':=xQ hg2
       exact FV O (BN (v:=(qa (decide (0<d)))) O (Bu (c:=(decide (0<d))) O O (DL (a:=0) (b:=d))) (BN (v:=(qa (decide (0<d)))) O (AN O O) (oNl' (zS Hw (xP _)))))
     exact st' (v:=(qa ((decide ((i+1)<((dg a.x).length)))||(decide (0<d))))) (ex_pick_true O O) O (oNl' (zS CK (xP _)))
    ·refine zJ (k:=22) (u:=qa false) O (by rw [hg1]) ?_
     have hg1':=xQ hg1
     exact BF O (BF O (BF O (BF O (BF O (BF O (yR (Ey O O O) O (leB O) (yR (Ey O O O) O (leB O) (BF O (st' (v:=(qa false)) (AN O O) O (oNl' (zS CK (xP _))))))))))))
   refine oNl' (zB (sL [0,2,4,5,6,3,32] O) (zA ?_))
   refine zK O (λhc2=>?_) (λhc2=>?_)
   ·simp only [jK] at hc2
    refine zI (q1 (zN (q4 (AL O (st' (HG (c:=((d%10:Nat):Int)) O O Z (PH (a:=d) (b:=10))) O (st' (Ad (c:=((48+(d%10):Nat):Int)) O O (Ab (a:=48) (b:=d%10) Z)) O (st' (An (c:=((48+(d%10):Nat):Int)) O underlying3 underlying5 (Od Z)) O (st' (v:=(Value.string (txB [UInt8.ofNat (48+d%10)]))) (Ou (a:=48+d%10) O underlying5 underlying9 Z) O (AL O (st' (v:=(Value.string (txB (Cu (4*i+(k+1)) a.x)))) (Bt (r:=(txB (Cu (4*i+(k+1)) a.x))) O O (by rw [DF,DF,hs2,O9];simp;omega) (by rw [hs2];exact Vy hc2.1 hd)) O (asg' O ?_)))))))))))
    refine oNl' (zB (sL [0,2,4,5,6,3] O) (zA (zL (AL O (st' (FR (c:=((d/10:Nat):Int)) O O Z (Fa (a:=d) (b:=10) Z)) O (asg' O (oNl' (zB (sL [0,2,4,5,6,3] O) (zM (zA (zL ?_)))))))))))
    exact AL O (st' (Ad (c:=((k+1:Nat):Int)) O O (Ab (a:=k) (b:=1) Z)) O (asg' O (oNl' (zB (sL [0,2,4,5,6,3] O) (z6 (d/10) (k+1) (Cu (4*i+(k+1)) a.x) (⟨Z,by rw [hd,Nat.div_div_eq_div_mul,<-Nat.pow_succ],rfl,λh=>.inr (by rw [Nat.add_sub_cancel,<-hd];omega)⟩) Z (sF O) sr)))))
   ·simp only [jK] at hc2
    have hout:i+1<(dg a.x).length/\s2=Cu (4*(i+1)) a.x\/i+1=(dg a.x).length/\s2=Lib.decDigits a.x:=by
        rcases Nat.lt_or_ge (i+1) (dg a.x).length with h|h
        ·exact .inl ⟨h,by rw [hs2,show k=4 by omega];rfl⟩
        ·exact .inr ⟨Z,by rw [hs2];exact Wp hx0 Z hk4 hd (hnz Z) Z⟩
    exact zW (zO (zi (zR (zM (zA (zL (AL O (st' (Ad (c:=((i+1:Nat):Int)) O O (Ab (a:=i) (b:=1) Z)) O (asg' O (oNl' (zB (sL [0,2,4,5,6,3] O) (zl (i+1) s2 (hout) Z (sF O) sr))))))))))))
  ·replace hc1:=xQ hc1
   have hs:s=Lib.decDigits a.x:=(hj.resolve_left Z).2
   exact zW (zO (zh (zR (q2 (AL O (asg' O (oNl' (zB (sL [0,2,4,3] O) (zA (zF (ret_one O (rd_tmp (v:=(Value.string (txB s))) O) (λw hw=>⟨by rw [hs],hw.out⟩))))))))))))
end
section
structure bW (x y:Nat) where
  q:NX x
  r:NX y
instance {x y:Nat}:CT (bW x y):=⟨λa=>.tuple #[CN a.q,CN a.r],λa=>[AM a.q,AM a.r],λa y hy=>Qq rfl rfl hy⟩
section
variable {S:Nat->Prop} {w:World} {x y:Nat}
theorem c8 {a:bW x y} (h:Ro S w a):Ro S w a.q:=λz hz=>h z (by rcases xM.1 hz with rfl;exact List.mem_cons_self)
theorem gN {W:World} {src:List (Option Nat)} {e:Ending} (hs:∀s∈src,∀b,s=some b->S b) (h:G_ W src x e w):Ai (NX x) S W e w:=by
  obtain ⟨v,rfl,rfl,hb,hh,hl⟩:=h
  refine ⟨⟨v.p,v.c,v.ok⟩,rfl,hb,λy hy=>?_⟩
  rcases xM.1 hy with rfl
  exact ⟨hh,λb e=>(hl b e).imp_right λh=>hs _ h b O⟩
theorem eL {a:NX x} (h:Ro S w a) {b:Nat} (e:a.p.map (·.block)=some b):S b:=(h _ List.mem_cons_self).2 b e
theorem Rg {x:Nat} (h:nw x<=67108864):(dg x).length<=274877906944:=by have:=Za x;omega
theorem HF {x:Nat} (h:nw x<=67108864):(dg x).length<=549755813888:=by have:=Za x;omega
theorem RG (x:Nat) (hx:x<18446744073709551616) (w:World) {S:Nat->Prop}:Calls prog 188 #[(vK .u64 x)] w (Ai (NX x) S w):=(Qn x hx w).mono λe w' h=>gN (λs hs=>by cases hs) h
theorem SU (a:NX x) (b:NX y) (hx:nw x<=67108864) (hy:nw y<=67108864) (w:World) (ha:Ro S w a) (hb:Ro S w b):Calls prog 164 #[CN a,CN b] w (Ai (NX (x+y)) S w) :=
  (Yl a.nv b.nv (HF hx) (HF hy) w (Th ha) (Th hb)).mono λe w' h=>gN (λs hs=>by cases hs) h
theorem OB (a:NX x) (b:NX y) (hxy:y<=x) (hx:nw x<=67108864) (w:World) (ha:Ro S w a) (hb:Ro S w b):Calls prog 191 #[CN a,CN b] w (Ai (NX (x-y)) S w) :=
  (R_ a.nv b.nv hxy (HF hx) w (Th ha) (Th hb)).mono λe w' h=>gN (λs hs=>by cases hs) h
theorem OA (a:NX x) (b:NX y) (hx:nw x<=67108864) (hy:nw y<=67108864) (w:World) (ha:Ro S w a) (hb:Ro S w b):Calls prog 161 #[CN a,CN b] w (Ai (NX (x*y)) S w) :=
  (Nv a.nv b.nv (HF hx) (HF hy) w (Th ha) (Th hb)).mono λe w' h=>gN (λs hs=>by cases hs) h
theorem ZM (a:NX x) (b:NX y) (hx:nw x<=67108864) (hy:nw y<=67108864) (w:World) (ha:Ro S w a) (hb:Ro S w b):Calls prog 192 #[CN a,CN b] w (AY w (vI (Da x y))) :=
  Nt a.nv b.nv (HF hx) (HF hy) w (Th ha) (Th hb)
theorem ZN (a:NX x) (b:NX y) (hx:nw x<=67108864) (hy:nw y<=67108864) (w:World) (ha:Ro S w a) (hb:Ro S w b):Calls prog 189 #[CN a,CN b] w (Ai (NX (Nat.gcd x y)) S w) :=
  (Yn a.nv b.nv (Rg hx) (Rg hy) w (Th ha) (Th hb)).mono λe w' h=>gN (λs hs c e=>by
    rcases xL.1 hs with rfl|hs
    · exact eL ha e
    · rcases xM.1 hs with rfl;exact eL hb e) h
theorem SV (a:NX x) (b:NX y) (hy0:0<y) (hx:nw x<=67108864) (hy:nw y<=67108864) (w:World) (ha:Ro S w a) (hb:Ro S w b):Calls prog 190 #[CN a,CN b] w (Ai (bW (x/y) (x%y)) S w) :=
  (R9 a.nv b.nv hy0 (Rg hx) (Rg hy) w (Th ha) (Th hb)).mono λe w' h=>by
    obtain ⟨u,v,hu,hv,rfl,hB,hhu,hhv,lu,lv⟩:=h
    obtain ⟨up,uc,ux,uok⟩:=u
    obtain ⟨vp,vc,vx,vok⟩:=v
    dsimp only at hu hv
    subst hu;subst hv
    refine ⟨⟨⟨up,uc,uok⟩,⟨vp,vc,vok⟩⟩,rfl,hB,λz hz=>?_⟩
    rcases xL.1 hz with rfl|hz
    · exact ⟨hhu,λb e=>(lu b e).elim .inl λh=>by cases h⟩
    · rcases xM.1 hz with rfl
      exact ⟨hhv,λb e=>(lv b e).imp_right λh=>by
        have:=xM.1 h
        exact eL ha this.symm⟩
theorem L6 (a:NX x) (hx:nw x<=67108864) (w:World) (ha:Ro S w a):Calls prog 110 #[CN a] w (AY w (Value.string (txB (Lib.decDigits x)))):=WC a.nv (HF hx) w (Th ha)
end
section
variable {P:Program} {ops:Array Oper} {rest:List Oper} {Q:Exit->Act->World->Prop} {n d:Nat} {F:List (Nat×Value)} {w0:Av} {S:Nat->Prop} {L:List As} {t:TypeId} {p:String} {af:Array Edge} {y:Operand} {f:FuncId} {xs:List Operand} {args:List Value} {ts:Array TypeId}
theorem cD {u v:Nat} (hc:∀args w,(callFunc f args).run P w=.ok (.enter f args) w) (h:∀w,A6 w0 w L->Calls P f args.toArray w (Ai (bW u v) (SL w0 S L) w))
    (hf:evF F y=some (.func (.func f) #[] #[])) (hargs:xs.map (evF F)=args.map some) (hd:Nat.ble (d+1) n=true) (next:∀a:bW u v,At w0 S a->AO P ops rest Q n ((d,.tuple #[CN a.q,CN a.r])::F) w0 (AM a.q::AM a.r::L)) :
    AO P ops (⟨some d,.call { callee:=.value y,args:=xs.toArray,argTypes:=ts },t,p,af,none⟩::rest) Q n F w0 L:=zu hc h hf hargs hd next
end
end
theorem KK:∀{k x:Nat},x<10^(k+1)->(Lib.decDigits x).length<=k+1
  | 0,x,h=>by rw [Lib.decDigits,dif_pos Z];simp
  | k+1,x,h=>by
    rw [Lib.decDigits]
    split
    · simp
    · have:=KK (k:=k) (x:=x/10) (by rw [Nat.pow_succ] at h;omega)
      rw [xJ,List.length_singleton];omega
theorem JD (n:Nat):(Lib.decDigits n).length<=10*nw n+1 :=
  KK (Nat.lt_of_lt_of_le (Nat.lt_of_lt_of_le (Bn n) (by rw [Nat.pow_mul];exact Nat.pow_le_pow_left jY _)) (Nat.pow_le_pow_right Z (Nat.le_succ _)))
theorem Na (x:Nat):0<(dg x).length↔x≠0:=by
  constructor
  · intro h e;rw [e,Fo] at h;simp at h
  · intro h;exact (Kn Z).2
theorem aT (neg:Bool) (x:Nat):decide (EB neg x<0)=(neg&&decide (0<(dg x).length)):=by
  have h:=Na x
  cases neg
  · simp [EB]
  · by_cases h0:x=0
    · subst h0;simp [EB,Fo]
    · have:0<(dg x).length:=h.2 h0
      simp [EB,this];omega
def aU (neg:Bool) {x:Nat} (n:NX x):ZX (EB neg x):=⟨n.cast (Aq neg x).symm⟩
theorem bL (neg:Bool) {x:Nat} (n:NX x):Dc (aU neg n)=[.bool (neg&&decide (0<(dg x).length)),CN n]:=by
  unfold Dc aU CN
  rw [aT]
  simp only [Aq]
theorem O4 {x:Nat} (h:(dg x).length=0):x=0:=Classical.byContradiction λe=>by have:=(Na x).2 e;omega
theorem Ic {x:Nat} (h:¬(dg x).length=0):x≠0:=(Na x).1 Z
def txI (z:Int):List UInt8:=if z<0 then 45::Lib.decDigits z.natAbs else Lib.decDigits z.natAbs
end Go.Proofs.YtcpkbjjmcleplaaGreatDoor
