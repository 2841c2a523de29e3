import Derived.Test.YtpgncndhhhllfaaGreatPart03
import Derived.Test.YtpgncndhhhllfaaGreatPart05
import Derived.Test.YtpgncndhhhllfaaGreatPart11
import Derived.Test.YtpgncndhhhllfaaGreatPart15
import Derived.Test.YtpgncndhhhllfaaGreatPart16
import Derived.Test.YtpgncndhhhllfaaGreatPart40
import Derived.Test.YtpgncndhhhllfaaGreatPart41
namespace Go.Proofs.YtpgncndhhhllfaaGreat
open Go Go.RowKit Go.Proofs.Tryz
set_option linter.unusedVariables false
set_option linter.unusedSimpArgs false
section
set_option maxRecDepth 100000
theorem Wd {a b:Nat} (h:b<a):0<C6 a b:=by unfold C6;rw [if_neg Z,if_neg Z];omega
theorem S2 {a b:Nat} (h:¬C6 a b<=0):b<a:=by
 unfold C6 at h
 split at h
 ·omega
 ·split at h<;>omega
theorem Qm (a b:NV) (hb0:0<b.x) (hla:(dg a.x).length<=274877906944) (hlb:(dg b.x).length<=274877906944) (w:World) (ha:Holds w (nA a)) (hb:Holds w (nA b)):Calls prog 131 #[(nV a),(nV b)] w (JL w [] [a.p.map (·.block)] (a.x/b.x) (a.x%b.x)):=by
 obtain ⟨k,hk⟩:∃k,k=(dg b.x).length-3:=⟨_,rfl⟩
 obtain ⟨tp,htp⟩:∃tp,tp=b.x/10000^k:=⟨_,rfl⟩
 have htb:=W6 b.x
 have htp1:=OO hb0
 rw [<-hk] at htb htp1
 rw [<-htp] at htp1
 have htb2:=htb
 rw [<-htp] at htb2
 have hlb1:=(M6 hb0).2
 refine Ag (args:=[(nV a),(nV b)]) (L:=[nA a,nA b]) func131 O O (AV O) (B8 O ha (B8 O hb (Ao))) (AE.subF (sL [0,1] O) (q4 (AI O (AI O (AC.nil (q1 (q4 (AM O (AM O (Cc call153 (λw hw=>QB a b (by first|omega|(dsimp only;omega)) (by first|omega|(dsimp only;omega)) w (hw.holds (i:=0) O) (hw.holds (i:=1) O)) O (AK (Ad (c:=(decide ((C6 a.x b.x)<(0:Int)))) O O O) O ?_)))))))))))
 refine AC.nil (OkQ.subF (sL [0,1,4,5,18] O) (OkQ.then_ ?_))
 refine AE.cond O (λhc0=>?_) (λhc0=>?_)
 ·replace hc0:=of_decide_eq_true hc0
  rw [GR] at hc0
  exact q4 (AM O (AI O (AI O (AC.nil (OkQ.subF (sL [0,1,4,5] O) (OkQ.then_ (AE.ret (OkQ.then_ret (Bo O (AZ (v:=(Value.slice none 0 0)) O) (AZ (v:=(nV a)) O) (λw hw=>(by rw [Nat.mod_eq_of_lt hc0];exact Yc hw (Nat.div_eq_of_lt hc0) (k:=0) O)))))))))))
 ·replace hc0:=of_decide_eq_false hc0
  rw [GR] at hc0
  have hlab:=HL (Nat.le_of_not_lt hc0)
  obtain ⟨m,hm1⟩:∃m,m=(dg a.x).length-(dg b.x).length+1:=⟨_,rfl⟩
  have hm:m+(dg b.x).length=(dg a.x).length+1:=by omega
  refine AE.skip (q2 (AM O (AK (v:=(vN ((dg b.x).length))) (AF O underlying93) O (AK (BO (c:=((((dg b.x).length:Nat):Int)-3)) O O (BJ Z Z)) O (AK (Eo (c:=((k:Nat):Int)) O O (by split<;>omega)) O (AI O (q3 (sL [0,1,4,5,6] O) (AM O (AM O (Cc (args:=[(nV b),(vN k)]) (v:=(vN tp)) call154 (λw hw=>(by rw [htp];exact M5 b k Z (by first|omega|(dsimp only;omega)) (by first|omega|(dsimp only;omega)) w (hw.holds (i:=1) O))) O (AI O ?_)))))))))))
  refine q3 (sL [0,1,4,5,6,7] O) (AM O (AK (v:=(vN ((dg a.x).length))) (AF O underlying93) O (AM O (AK (v:=(vN ((dg b.x).length))) (AF O underlying93) O (AK (BO (c:=(((m:Nat):Int)-1)) O O (by rw [BJ Z Z];omega)) O (AI O (q3 (sL [0,1,4,5,6,7,8] O) (AM O (AK (AY (c:=((m:Nat):Int)) O O (by rw [BJ Z Z];omega)) O (AC.makeDig (m:=m) Z5 O O Z O O λb1 ho_b1=>AI O ?_))))))))))
  refine q3 (sL [0,1,4,5,6,7,8,9] O) (AC.openV (V:=λb2=>(Value.slice (some ⟨b2,0,none⟩) 0 0)) (T:=3) (cs:=[]) (AT O) (Kz underlying93 sizeOf3) O (AV O) λb2=>AC.asRow0 (z:=1) 0 O Z λho_b2=>AM O (AM O (AK (AY (c:=((m:Nat):Int)) O O (by rw [BJ Z Z];omega)) O (AK (v:=(Value.slice (OK a.p m a.c 1) ((dg a.x).length-m) (a.c-m))) (IV (i:=m) O O underlying93 sizeOf3 Z a.ok.le) O (AC.appendS0 (cs2:=dgL (([])++(((dg a.x)).drop m))) (news:=dgL (((dg a.x)).drop m)) VP O ho_b2 O O (Xm (k:=2) O a.ok Z) (by simp [CK]) (Px _) (Fl Z) Z (by rw [EZ];rfl) O λp_1 c_1 ho_1=>AC.frozenD 0 (X:=a.x/10000^m) O ho_1 (by simp) (by rw [<-Qv];exact (List.take_length).symm) O λhok0 hloc0=>AC.retell (k:=40) (u:=(Value.slice p_1 ((dg (a.x/10000^m)).length) c_1)) O (by rw [show 0+((dg a.x).length-m)=(dg (a.x/10000^m)).length by rw [<-Qv];simp]) (AI O (q6 (sL [0,1,4,5,6,7,8,9,10] O) ?_)))))))
  refine AE.block ?_
  refine AE.lp5 (tg λ(j:Nat) (qs:List Nat) (R:Nat) (p:Option Addr) (c:Nat)=>j<=m/\Il qs/\m=qs.length/\val10 qs=10000^j*(a.x/10000^j/b.x)/\R=a.x/10000^j%b.x/\Ar p (dg R).length c/\DM w [] p) (tg λ(j:Nat) (qs:List Nat) (R:Nat) (p:Option Addr) (c:Nat)=>[(0,(nV a)),(1,(nV b)),(4,(Value.slice none 0 0)),(5,(Value.slice none 0 0)),(6,(vN k)),(7,(vN tp)),(9,(Value.slice (some ⟨b1,0,none⟩) m m)),(8,(vI (((j:Nat):Int)-1))),(10,(Value.slice p ((dg R).length) c))]) (tg λ(j:Nat) (qs:List Nat) (R:Nat) (p:Option Addr) (c:Nat)=>[AJ p (dgL (dg R)),rowW (some ⟨b1,0,none⟩) 3 1 m m (dgL qs),nA a,nA b]) (tg λ(j:Nat) (qs:List Nat) (R:Nat) (p:Option Addr) (c:Nat)=>j) m (List.replicate m 0) (a.x/10000^m) p_1 c_1 (⟨Nat.le_refl _,Ld _,by simp,by rw [IW,Nat.div_eq_of_lt (NO hb0 hm),Nat.mul_zero],(Nat.mod_eq_of_lt (NO hb0 hm)).symm,hok0,hloc0⟩) (sF O) sr (λj qs R p c hJ=>?_)
  obtain ⟨hj,hdd,hk,hv,hR,hok,hloc⟩:=hJ
  refine AE.seq (q4 (AM O (AK (CI (c:=(decide ((0:Int)<=(((j:Nat):Int)-1)))) O O O) O (AC.nil (OkQ.subF (sL [0,1,4,5,6,7,9,8,10,42] O) (OkQ.then_ ?_))))))
  refine AE.cond O (λhc1=>?_) (λhc1=>?_)
  ·replace hc1:=of_decide_eq_true hc1
   have hj1:1<=j:=by omega
   obtain ⟨R1,hR1⟩:∃R1,R1=10000*R+(dg a.x).getD (j-1) 0:=⟨_,rfl⟩
   have hRb:R<b.x:=by rw [hR];exact Nat.mod_lt _ hb0
   have hd1:=GI a.x (j-1)
   have hR1b:R1<10000*b.x:=by omega
   have hA:=QH a.x (j-1)
   rw [Nat.sub_add_cancel hj1] at hA
   have hst:=Oo hb0 hA hR hR1
   have hR1l:(dg R1).length<=(dg b.x).length+1:=by refine FW (Nat.lt_of_lt_of_le hR1b ?_);rw [Nat.pow_succ];have h8:=Cz (D1 b.x);rw [CZ] at h8;omega
   have hRl:=HL (Nat.le_of_lt hRb)
   have hd9:Il ([(dg a.x).getD (j-1) 0]++dg R):=λe he=>(List.mem_append.1 he).elim (λh=>by rw [List.mem_singleton.1 h];omega) (λh=>D1 R e h)
   have hv9:val10 ([(dg a.x).getD (j-1) 0]++dg R)=R1:=by rw [List.singleton_append,val10,CZ];omega
   have hk9:1+(dg R).length=([(dg a.x).getD (j-1) 0]++dg R).length:=by simp [Nat.add_comm]
   obtain ⟨f,hf⟩:∃f,f=R1/10000^k:=⟨_,rfl⟩
   have hfb:=RS hR1b htb
   rw [<-hf] at hfb
   obtain ⟨q,hq⟩:∃q,q=R1/b.x:=⟨_,rfl⟩
   have hq1:q<=9999:=by have:=(Nat.div_lt_iff_lt_mul hb0).2 hR1b;omega
   have hqR:b.x*q<=R1:=by rw [hq];exact Nat.mul_div_le _ _
   have hlow:f/(tp+1)<=q:=by rw [hf,htp,hq];exact WT hb0
   have hhigh:q<=f/tp:=by rw [hf,htp,hq];exact Tw (by rw [<-htp];exact htp1)
   have hf2:f/(tp+1)<=f:=Nat.div_le_self _ _
   refine AE.retell (k:=8) (u:=(vN (j-1))) O (by show Value.int _ _=Value.int _ _;congr 1;omega) (AE.skip (q1 (AE.block (q4 (AM O (AM O (AK (v:=(pP (pB a.p) (pO a.p+(j-1)*1))) (AH (j:=j-1) O O a.ok underlying93 sizeOf3 O Z) O (AK (AL (v:=(vN ((dg a.x).getD (j-1) 0))) (i:=2) O O (a.ok.ne Z) BR (DV (ds:=dg a.x) (j:=j-1) Z)) O (AC.openV (V:=λb3=>(Value.slice (some ⟨b3,0,none⟩) 1 1)) (T:=3) (cs:=[(vN ((dg a.x).getD (j-1) 0))]) (AT O) (Ap (cs:=[(vN ((dg a.x).getD (j-1) 0))]) (pv:=[(0,(vN ((dg a.x).getD (j-1) 0)))]) underlying93 sizeOf3 zeroValue3 (by decide) (by decide) O (by kernel_rfl)) O (AV O) λb3=>AC.asRow0 (z:=1) 1 O Z λho_b3=>AM O ?_)))))))))
   refine AC.appendS0 (cs2:=dgL (([(dg a.x).getD (j-1) 0])++(dg R))) (news:=dgL (dg R)) VP O ho_b3 O O (R6 (k:=1) O hok) (by simp [CK]) (Px _) (Fl Z) Z (by rw [EZ];rfl) O λp_2 c_2 ho_2=>Cc (args:=[(Value.slice p_2 (1+((dg R).length)) c_2)]) (v:=(Value.slice p_2 ((dg R1).length) c_2)) call152 (λw hw=>(by have h9:=Fu p_2 c_2 (([(dg a.x).getD (j-1) 0])++(dg R)) hd9 (by rw [<-hk9];exact ho_2.row) (by simp;omega) w (J3 (hw.holds (i:=0) O) ho_2 hk9);rw [hv9,<-hk9] at h9;exact h9)) O (AC.frozenD 0 (X:=R1) O ho_2 hk9 (by rw [<-hv9];exact E8 hd9) O λhok1 hloc1=>AI O (q3 (sL [0,1,4,5,6,7,9,8,10] O) (AM O (AM O (Cc (args:=[(Value.slice p_2 ((dg R1).length) c_2),(vN k)]) (v:=(vN f)) call154 (λw hw=>(by rw [hf];exact M5 (NV.mk p_2 c_2 R1 hok1) k Z (by first|omega|(dsimp only;omega)) (by first|omega|(dsimp only;omega)) w (hw.holds (i:=0) O))) O (AI O (q6 (sL [0,1,4,5,6,7,9,8,10,11] O) (Cu [(0,true),(1,true),(2,true),(3,true),(4,true),(5,true),(6,true),(7,true),(8,true),(9,true)] sr (BU O ?_)))))))))
   refine BU O (Av O (AY (c:=((tp+1:Nat):Int)) O O (AU (a:=tp) (b:=1) Z)) (Av O (Ey (c:=((f/(tp+1):Nat):Int)) O O Z (FA (a:=f) (b:=tp+1) Z)) (BU O (BU O (Av O (Ey (c:=((f/tp:Nat):Int)) O O Z (FA (a:=f) (b:=tp) Z)) (Av O (Fm (c:=((min (f/tp) 9999:Nat):Int)) O O (by split<;>omega)) (pS' O (pS' O (OkE.nil (OkQ.subF (sL [0,1,4,5,6,7,9,8,10,12,13] O) (q1 ?_)))))))))))
   refine AE.block ?_
   refine AE.lp2 (tg λ(lo:Nat) (hi:Nat)=>lo<=q/\q<=hi/\hi<=9999) (tg λ(lo:Nat) (hi:Nat)=>[(0,(nV a)),(1,(nV b)),(4,(Value.slice none 0 0)),(5,(Value.slice none 0 0)),(6,(vN k)),(7,(vN tp)),(9,(Value.slice (some ⟨b1,0,none⟩) m m)),(8,(vN (j-1))),(10,(Value.slice p_2 ((dg R1).length) c_2)),(12,(vN lo)),(13,(vN hi))]) (tg λ(lo:Nat) (hi:Nat)=>[AJ p_2 (dgL (dg R1)),AJ p (dgL (dg R)),rowW (some ⟨b1,0,none⟩) 3 1 m m (dgL qs),nA a,nA b]) (tg λ(lo:Nat) (hi:Nat)=>hi-lo) (f/(tp+1)) (min (f/tp) 9999) (⟨hlow,Z,Z⟩) (sF O) sr (λlo hi hJ=>?_)
   obtain ⟨hlo,hhi,hh9⟩:=hJ
   refine AE.seq (q4 (AM O (AM O (AK (Ad (c:=(decide (lo<hi))) O O (B7 (a:=lo) (b:=hi))) O (AC.nil (OkQ.subF (sL [0,1,4,5,6,7,9,8,10,12,13,66] O) (OkQ.then_ ?_)))))))
   refine AE.cond O (λhc2=>?_) (λhc2=>?_)
   ·replace hc2:=of_decide_eq_true hc2
    refine AE.skip (OkQ.then_ (AE.block (q4 (AM O (AM O (AK (AY (c:=((lo+hi:Nat):Int)) O O (AU (a:=lo) (b:=hi) Z)) O (AK (AY (c:=(((lo+hi)+1:Nat):Int)) O O (AU (a:=lo+hi) (b:=1) Z)) O (AK (Ey (c:=((((lo+hi)+1)/2:Nat):Int)) O O Z (FA (a:=(lo+hi)+1) (b:=2) Z)) O (AI O (q3 (sL [0,1,4,5,6,7,9,8,10,12,13,14] O) (AM O ?_)))))))))))
    refine AM O (AK (A7 (c:=((((lo+hi)+1)/2:Nat):Int)) O underlying3 underlying56 (BT Z)) O (AC.callN (args:=[(vK .u64 (((lo+hi)+1)/2))]) call135 (λw hw=>Oi (((lo+hi)+1)/2) Z w) O2 O O O λv1 hv1 lv1=>?_))
    have hlv1:(dg v1.x).length<=1:=FW Z
    refine AC.callN (args:=[(nV b),(nV v1)]) call129 (λw hw=>L0 b v1 (by first|omega|(dsimp only;omega)) (by first|omega|(dsimp only;omega)) w (hw.holds (i:=5) O) (hw.holds (i:=0) O)) O2 O O O λv2 hv2 lv2=>?_
    have hlv2:(dg v2.x).length<=(dg b.x).length+1:=by refine FW ?_;rw [hv2,Nat.pow_succ];have h8:=Cz (D1 b.x);rw [CZ] at h8;exact Nat.mul_lt_mul_of_lt_of_le h8 Z Z
    refine AM O (Cc call153 (λw hw=>QB v2 (NV.mk p_2 c_2 R1 hok1) (by first|omega|(dsimp only;omega)) (by first|omega|(dsimp only;omega)) w (hw.holds (i:=0) O) (hw.holds (i:=2) O)) O (AK (Eq (c:=(decide ((C6 v2.x R1)<=(0:Int)))) O O O) O (AC.nil (OkQ.subF (sL [0,1,4,5,6,7,9,8,10,12,13,14,79] O) (OkQ.then_ ?_)))))
    refine AE.cond O (λhc3=>?_) (λhc3=>?_)
    ·replace hc3:=of_decide_eq_true hc3
     have hmq:(lo+hi+1)/2<=q:=by rw [hq];refine (Nat.le_div_iff_mul_le hb0).2 ?_;rw [Nat.mul_comm,<-hv1,<-hv2];exact Nat.le_of_not_lt λh=>by have h8:=Wd h;omega
     exact AE.region (AM O (AI O (AC.nil (OkQ.subF (sL [0,1,4,5,6,7,9,8,10,12,13,14] O) (OkQ.in_normal (OkQ.round2 (((lo+hi)+1)/2) hi (⟨Z,Z,Z⟩) Z (sF O) (sl (sl sr))))))))
    ·replace hc3:=of_decide_eq_false hc3
     have hmq:q<(lo+hi+1)/2:=by rw [hq];refine (Nat.div_lt_iff_lt_mul hb0).2 ?_;rw [Nat.mul_comm,<-hv1,<-hv2];exact S2 Z
     exact AE.region (AM O (AK (BO (c:=(((((lo+hi)+1)/2)-1:Nat):Int)) O O (Br (a:=((lo+hi)+1)/2) (b:=1) Z Z)) O (AI O (AC.nil (OkQ.subF (sL [0,1,4,5,6,7,9,8,10,12,13,14] O) (OkQ.in_normal (OkQ.round2 lo ((((lo+hi)+1)/2)-1) (⟨Z,Z,Z⟩) Z (sF O) (sl (sl sr)))))))))
   ·replace hc2:=of_decide_eq_false hc2
    have hlq:lo=q:=by omega
    refine AE.exit (OkQ.then_exit (OkQ.round2_exit (OkQ.in_exit (q2 (AM O (AM O (AM O (AK (v:=(pP (pB (some ⟨b1,0,none⟩)) (pO (some ⟨b1,0,none⟩)+(j-1)*1))) (AH (j:=j-1) O O ho_b1.row underlying93 sizeOf3 O Z) O (AC.storeRow2 (j:=j-1) (v:=(vN lo)) O O ho_b1 (by simp [CK];omega) Z O sizeOf3 O (Q1 _ _ _) (AC.nil (OkQ.subF (sL [0,1,4,5,6,7,9,8,10,12,13] O) ?_)))))))))))
    refine OkQ.then_ (AE.region (AM O (AM O (AM O (AK (A7 (c:=((lo:Nat):Int)) O underlying3 underlying56 (BT Z)) O (AC.callN (args:=[(vK .u64 lo)]) call135 (λw hw=>Oi lo Z w) O2 O O O λv3 hv3 lv3=>?_))))))
    have hlv3:(dg v3.x).length<=1:=FW Z
    refine AC.callN (args:=[(nV b),(nV v3)]) call129 (λw hw=>L0 b v3 (by first|omega|(dsimp only;omega)) (by first|omega|(dsimp only;omega)) w (hw.holds (i:=5) O) (hw.holds (i:=0) O)) O2 O O O λv4 hv4 lv4=>?_
    have hlv4:(dg v4.x).length<=(dg b.x).length+1:=by refine FW ?_;rw [hv4,Nat.pow_succ];have h8:=Cz (D1 b.x);rw [CZ] at h8;exact Nat.mul_lt_mul_of_lt_of_le h8 Z Z
    have hv4R:v4.x<=R1:=by rw [hv4,hv3,hlq];exact hqR
    exact AC.callN (args:=[(Value.slice p_2 ((dg R1).length) c_2),(nV v4)]) call132 (λw hw=>Qn (NV.mk p_2 c_2 R1 hok1) v4 hv4R (by first|omega|(dsimp only;omega)) w (hw.holds (i:=2) O) (hw.holds (i:=0) O)) O2 O O O λv5 hv5 lv5=>AI O (AC.nil (OkQ.subF (sL [0,1,4,5,6,7,9,8,10,12,13] O) (OkQ.in_normal (OkQ.then_ (AE.region (AM O (AK (BO (c:=(((j-1:Nat):Int)-1)) O O (BJ Z Z)) O (AI O (AC.nil (OkQ.subF (sL [0,1,4,5,6,7,9,8,10,12,13] O) (OkQ.round5 (j-1) (qs.set (j-1) lo) v5.x v5.p v5.c (⟨Z,P3 hdd Z,by simpa using hk,RN hdd hk hj1 hj hv (by rw [hlq,hq];exact hst.1),by rw [hv5,hv4,hv3,hlq,hst.2,hq];exact Nat.sub_eq_of_eq_add (Nat.mod_add_div _ _).symm,v5.ok,lv5⟩) Z (sF O) (sk (sl (sl (sl (sl sr))))))))))))))))
  ·replace hc1:=of_decide_eq_false hc1
   obtain rfl:j=0:=by omega
   have hfin:val10 qs=a.x/b.x:=by rw [hv];simp
   have hfin2:R=a.x%b.x:=by rw [hR];simp
   refine AE.exit (OkQ.then_exit (OkQ.round5_exit (OkQ.in_exit (q2 (AM O (Cc (args:=[(Value.slice (some ⟨b1,0,none⟩) m m)]) (v:=(Value.slice (some ⟨b1,0,none⟩) ((dg (val10 qs)).length) m)) call152 (λw hw=>(by have h9:=Fu (some ⟨b1,0,none⟩) m qs hdd (by rw [<-hk];exact ho_b1.row) Z w (J3 (hw.holds (i:=1) O) ho_b1 hk);rw [<-hk] at h9;exact h9)) O (AM O (AI O (AI O (AC.nil (OkQ.subF (sL [0,1,4,5,6,7,9,8,10] O) ?_)))))))))))
   exact OkQ.then_ (AE.ret (Bo O (AZ (v:=(Value.slice (some ⟨b1,0,none⟩) ((dg (val10 qs)).length) m)) O) (AZ (v:=(Value.slice p ((dg R).length) c)) O) (λw hw=>ZJ hw (i:=1) (k:=0) O ho_b1 hk (by rw [<-hfin];exact E8 hdd) (by rw [hfin]) (by rw [<-hfin2];rfl) (by rw [<-hfin2];exact hok) hloc (by rw [<-hfin2]))))
theorem Wp (a b:NV) (hla:(dg a.x).length<=274877906944) (hlb:(dg b.x).length<=274877906944) (w:World) (ha:Holds w (nA a)) (hb:Holds w (nA b)):Calls prog 130 #[(nV a),(nV b)] w (F6 w [a.p.map (·.block),b.p.map (·.block)] (Nat.gcd a.x b.x)):=by
 refine Ag (args:=[(nV a),(nV b)]) (L:=[nA b,nA a]) func130 O O (AV O) (B8 O hb (B8 O ha (Ao))) (AE.subF (sL [0,1] O) (q4 (AI O (AC.nil (q1 (AE.block ?_))))))
 refine AE.lp2 (tg λ(u:NV) (v:NV)=>Nat.gcd u.x v.x=Nat.gcd a.x b.x/\(dg u.x).length<=274877906944/\(dg v.x).length<=274877906944/\DM w [a.p.map (·.block),b.p.map (·.block)] u.p/\DM w [a.p.map (·.block),b.p.map (·.block)] v.p) (tg λ(u:NV) (v:NV)=>[(4,(Value.slice none 0 0)),(0,(nV u)),(1,(nV v))]) (tg λ(u:NV) (v:NV)=>[nA v,nA u]) (tg λ(u:NV) (v:NV)=>v.x) a b (⟨rfl,hla,hlb,λs e=>.inr (by rw [<-e];exact List.mem_cons_self),λs e=>.inr (by rw [<-e];exact List.mem_cons_of_mem _ List.mem_cons_self)⟩) (sF O) sr (λu v hJ=>?_)
 obtain ⟨hg,hlu,hlv,hu,hv⟩:=hJ
 refine AE.seq (q4 (AM O (AK (v:=(vN ((dg v.x).length))) (AF O underlying93) O (AK (CC (c:=(decide (0<((dg v.x).length)))) O O (B7 (a:=0) (b:=(dg v.x).length))) O (AC.nil (OkQ.subF (sL [4,0,1,9] O) (OkQ.then_ ?_)))))))
 refine AE.cond O (λhc0=>?_) (λhc0=>?_)
 ·replace hc0:=of_decide_eq_true hc0
  have hv0:0<v.x:=by
     rcases Nat.eq_zero_or_pos v.x with h|h
     ·rw [h] at hc0;exact absurd hc0 (by decide)
     ·exact h
  refine AE.skip (OkQ.then_ (AE.block (q4 (AM O (AM O (AC.callNN (args:=[(nV u),(nV v)]) call131 (λw hw=>Qm u v hv0 hlu hlv w (hw.holds (i:=1) O) (hw.holds (i:=0) O)) O2 (ae (y:=nA u) 1 O O O2) O O O λq1 r1 hq1 hr1 lq1 lr1=>AM O (AK (AX (v:=(nV q1)) O O) O (AK (AX (v:=(nV r1)) O O) O (AI O (AI O ?_))))))))))
  exact q3 (sL [4,0,1,6] O) (AM O (AI O (AC.nil (OkQ.subF (sL [4,0,1,6] O) (OkQ.then_ (AE.region (AM O (AI O (AC.nil (OkQ.subF (sL [4,0,1] O) (OkQ.in_normal (OkQ.round2 v r1 (⟨by rw [<-hg,hr1,Nat.gcd_comm,<-Nat.gcd_rec,Nat.gcd_comm],hlv,Nat.le_trans (HL (by rw [hr1];exact Nat.le_of_lt (Nat.mod_lt _ hv0))) hlv,hv,lr1.mono (λs hs c e=>hu c (by rw [List.mem_singleton.1 hs] at e;exact e))⟩) (by rw [hr1];exact Nat.mod_lt _ hv0) (sF O) (sl (sk (sk (sl sr))))))))))))))))
 ·replace hc0:=of_decide_eq_false hc0
  have hv0:v.x=0:=by
     rcases Nat.eq_zero_or_pos v.x with h|h
     ·exact h
     ·have:=(M6 h).2;omega
  rw [hv0,Nat.gcd_zero_right] at hg
  exact AE.exit (OkQ.then_exit (OkQ.round2_exit (OkQ.in_exit (q2 (AM O (AI O (AC.nil (OkQ.subF (sL [4,0,1] O) (OkQ.then_ (AE.ret (AS O (AZ (v:=(nV u)) O) (λw hw=>⟨u,hg,rfl,hw.out,hw.holds (i:=1) O,hu⟩))))))))))))
end
section
set_option maxRecDepth 100000
end
section
structure ZQ (x y:Nat) where
  q:NX x
  r:NX y
instance {x y:Nat}:CO (ZQ x y):=⟨λa=>.tuple #[C5 a.q,C5 a.r],λa=>[Ew a.q,Ew a.r],λa y hy=>OM rfl rfl hy⟩
section
variable {S:Nat->Prop} {w:World} {x y:Nat}
theorem Zu {a:ZQ x y} (h:Ro S w a):Ro S w a.q:=λz hz=>h z (by rcases List.mem_singleton.1 hz with rfl;exact List.mem_cons_self)
theorem gN {W:World} {src:List (Option Nat)} {e:Ending} (hs:∀s∈src,∀b,s=some b->S b) (h:F6 W src x e w):Al (NX x) S W e w:=by
  obtain ⟨v,rfl,rfl,hb,hh,hl⟩:=h
  refine ⟨⟨v.p,v.c,v.ok⟩,rfl,hb,λy hy=>?_⟩
  rcases List.mem_singleton.1 hy with rfl
  exact ⟨hh,λb e=>(hl b e).imp_right λh=>hs _ h b O⟩
theorem bg {a:NX x} (h:Ro S w a) {b:Nat} (e:a.p.map (·.block)=some b):S b:=(h _ List.mem_cons_self).2 b e
theorem P8 {x:Nat} (h:nw x<=67108864):(dg x).length<=274877906944:=by have:=XM x;omega
theorem Jf {x:Nat} (h:nw x<=67108864):(dg x).length<=549755813888:=by have:=XM x;omega
theorem Pb (x:Nat) (hx:x<18446744073709551616) (w:World) {S:Nat->Prop}:Calls prog 135 #[(vK .u64 x)] w (Al (NX x) S w):=(Oi x hx w).mono λe w' h=>gN (λs hs=>by cases hs) h
theorem WR (a:NX x) (b:NX y) (hx:nw x<=67108864) (hy:nw y<=67108864) (w:World) (ha:Ro S w a) (hb:Ro S w b):Calls prog 134 #[C5 a,C5 b] w (Al (NX (x+y)) S w) :=
  (Wi a.nv b.nv (Jf hx) (Jf hy) w (Va ha) (Va hb)).mono λe w' h=>gN (λs hs=>by cases hs) h
theorem WB (a:NX x) (b:NX y) (hxy:y<=x) (hx:nw x<=67108864) (w:World) (ha:Ro S w a) (hb:Ro S w b):Calls prog 132 #[C5 a,C5 b] w (Al (NX (x-y)) S w) :=
  (Qn a.nv b.nv hxy (Jf hx) w (Va ha) (Va hb)).mono λe w' h=>gN (λs hs=>by cases hs) h
theorem Qf (a:NX x) (b:NX y) (hx:nw x<=67108864) (hy:nw y<=67108864) (w:World) (ha:Ro S w a) (hb:Ro S w b):Calls prog 129 #[C5 a,C5 b] w (Al (NX (x*y)) S w) :=
  (L0 a.nv b.nv (Jf hx) (Jf hy) w (Va ha) (Va hb)).mono λe w' h=>gN (λs hs=>by cases hs) h
theorem Vr (a:NX x) (b:NX y) (hx:nw x<=67108864) (hy:nw y<=67108864) (w:World) (ha:Ro S w a) (hb:Ro S w b):Calls prog 130 #[C5 a,C5 b] w (Al (NX (Nat.gcd x y)) S w) :=
  (Wp a.nv b.nv (P8 hx) (P8 hy) w (Va ha) (Va hb)).mono λe w' h=>gN (λs hs c e=>by
    rcases List.mem_cons.1 hs with rfl|hs
    · exact bg ha e
    · rcases List.mem_singleton.1 hs with rfl;exact bg hb e) h
theorem Qi (a:NX x) (b:NX y) (hy0:0<y) (hx:nw x<=67108864) (hy:nw y<=67108864) (w:World) (ha:Ro S w a) (hb:Ro S w b):Calls prog 131 #[C5 a,C5 b] w (Al (ZQ (x/y) (x%y)) S w) :=
  (Qm a.nv b.nv hy0 (P8 hx) (P8 hy) w (Va ha) (Va hb)).mono λe w' h=>by
    obtain ⟨u,v,hu,hv,rfl,hB,hhu,hhv,lu,lv⟩:=h
    obtain ⟨up,uc,ux,uok⟩:=u
    obtain ⟨vp,vc,vx,vok⟩:=v
    dsimp only at hu hv
    subst hu;subst hv
    refine ⟨⟨⟨up,uc,uok⟩,⟨vp,vc,vok⟩⟩,rfl,hB,λz hz=>?_⟩
    rcases List.mem_cons.1 hz with rfl|hz
    · exact ⟨hhu,λb e=>(lu b e).elim .inl λh=>by cases h⟩
    · rcases List.mem_singleton.1 hz with rfl
      exact ⟨hhv,λb e=>(lv b e).imp_right λh=>by
        have:=List.mem_singleton.1 h
        exact bg ha this.symm⟩
end
section
variable {P:Program} {ops:Array Oper} {rest:List Oper} {Q:Exit->Act->World->Prop} {n d:Nat} {F:List (Nat×Value)} {w0:BE} {S:Nat->Prop} {L:List As} {t:TypeId} {p:String} {af:Array Edge} {y:Operand} {f:FuncId} {xs:List Operand} {args:List Value} {ts:Array TypeId}
theorem cD {u v:Nat} (hc:∀args w,(callFunc f args).run P w=.ok (.enter f args) w) (h:∀w,BM w0 w L->Calls P f args.toArray w (Al (ZQ u v) (SL w0 S L) w))
    (hf:evF F y=some (.func (.func f) #[] #[])) (hargs:xs.map (evF F)=args.map some) (hd:Nat.ble (d+1) n=true) (next:∀a:ZQ u v,At w0 S a->AC P ops rest Q n ((d,.tuple #[C5 a.q,C5 a.r])::F) w0 (Ew a.q::Ew a.r::L)) :
    AC P ops (⟨some d,.call { callee:=.value y,args:=xs.toArray,argTypes:=ts },t,p,af,none⟩::rest) Q n F w0 L:=AC.callR hc h hf hargs hd next
end
end

theorem Lq (x:Nat):0<(dg x).length↔x≠0:=by
  constructor
  · intro h e;rw [e,Ef] at h;simp at h
  · intro h;exact (M6 Z).2
theorem YH (neg:Bool) (x:Nat):decide (Eg neg x<0)=(neg&&decide (0<(dg x).length)):=by
  have h:=Lq x
  cases neg
  · simp [Eg]
  · by_cases h0:x=0
    · subst h0;simp [Eg,Ef]
    · have:0<(dg x).length:=h.2 h0
      simp [Eg,this];omega
def Ym (neg:Bool) {x:Nat} (n:NX x):ZX (Eg neg x):=⟨n.cast (By neg x).symm⟩
theorem YM (neg:Bool) {x:Nat} (n:NX x):FU (Ym neg n)=[.bool (neg&&decide (0<(dg x).length)),C5 n]:=by
  unfold FU Ym C5
  rw [YH]
  simp only [By]
theorem TZ {x:Nat} (h:(dg x).length=0):x=0:=Classical.byContradiction λe=>by have:=(Lq x).2 e;omega
theorem Lp {x:Nat} (h:¬(dg x).length=0):x≠0:=(Lq x).1 Z
section
set_option maxRecDepth 100000
theorem GG {x:Nat} (neg:Bool) (n:NX x) (w:World) {S:Nat->Prop} (hn:Ro S w n)  :Calls prog 106 #[(Value.bool neg),(C5 n)] w (Al (ZX (Eg neg x)) S w):=by
 have ln:=CV (W:=w) hn
 refine Ag (args:=[(Value.bool neg),(C5 n)]) (L:=[Ew n]) func106 O O (AV O) (aK hn Ao) (AE.subF (sL [0,1] O) (q4 (al Yf O λb1=>AC.nil (q2 (AM O (AM O ?_))))))
 refine AC.mid (FM:=[(0,(Value.bool neg)),(1,(C5 n)),(4,(pP b1 0)),(5,(Value.bool neg)),(6,(Value.bool neg)),(10,(Value.bool (neg&&(decide (0<((dg x).length))))))]) (LM:=[Ah b1 95 ([(Value.bool false),(Value.slice none 0 0)]),Ew n]) 4 ?_ ?_
 ·rcases Bool.eq_false_or_eq_true neg with hg1|hg1
  ·skip
   refine AC.retell (k:=6) (u:=Value.bool true) O (by rw [hg1]) ?_
   have hg1':=hg1
   skip
   exact AC.step (v:=(C5 n)) (AA O) (AW O) O (AV O) (AC.step (v:=(vN ((dg x).length))) (AA O) (AF O underlying93) O (AV O) (AC.step (v:=(Value.bool (decide (0<((dg x).length))))) (AA O) (CC (c:=(decide (0<((dg x).length)))) O O (B7 (a:=0) (b:=(dg x).length))) O (AV O) (AK (v:=(Value.bool (decide (0<((dg x).length))))) (AR O O) O (AC.nil (OkQ.mid (sS O (sS O (sS O (sS O (sS (by first|rfl|(rw [hg1];rfl)|rw [hg1]) (sS (by first|rfl|(rw [hg1];rfl)|rw [hg1]) (sN))))))) (List.Sublist.refl _))))))
  ·skip
   refine AC.retell (k:=6) (u:=Value.bool false) O (by rw [hg1]) ?_
   have hg1':=hg1
   skip
   exact AC.skip (AD O) O (AV O) (AC.skip (AD O) O (AV O) (AC.skip (AD O) O (AV O) (AK (v:=(Value.bool false)) (AO O O) O (AC.nil (OkQ.mid (sS O (sS O (sS O (sS O (sS (by first|rfl|(rw [hg1];rfl)|rw [hg1]) (sS (by first|rfl|(rw [hg1];rfl)|rw [hg1]) (sN))))))) (List.Sublist.refl _))))))
 exact AM O (AK (v:=(aG ([(Value.bool (neg&&(decide (0<((dg x).length))))),(C5 n)]))) (Aa (zs:=[(Value.bool false),(Value.slice none 0 0)]) (vs:=[(Value.bool (neg&&(decide (0<((dg x).length))))),(C5 n)]) (pv:=[(0,(Value.bool (neg&&(decide (0<((dg x).length)))))),(1,(C5 n))]) (places:=[(0,1),(1,1)]) zeroValue95 underlying95 (λw=>by simp [sizeOf4,sizeOf93]) O O) O (BP O sizeOf95 O (AC.nil (OkQ.subF (sL [4] O) (OkQ.then_ (AE.ret (AS O (BH (i:=0) (cs:=[(Value.bool (neg&&(decide (0<((dg x).length))))),(C5 n)]) O O isAgg95 sizeOf95 O) (λw hw=>Gd (a:=Ym neg n) hw (bh (YW (Bc hw 1 O ln))) (by rw [<-YM];rfl)))))))))
theorem Yu (z:Int) (hz:-9223372036854775808<=z) (hz2:z<9223372036854775808) (w:World) {S:Nat->Prop}  :Calls prog 108 #[(vI z)] w (Al (ZX z) S w):=by
 refine An (args:=[(vI z)]) func108 O O (AV O) (AE.subF (sL [0] O) (q4 (al Yf O λb1=>AC.nil (q1 (q4 (AM O (AK (Ad (c:=(decide (z<(0:Int)))) O O O) O (AC.nil (OkQ.subF (sL [0,2,4] O) (OkQ.then_ ?_))))))))))
 refine AE.cond O (λhc0=>?_) (λhc0=>?_)
 ·replace hc0:=of_decide_eq_true hc0
  refine q4 (AM O (AK (AY (c:=(z+1)) O O (BJ Z Z)) O (AK (Sn (c:=(((-(z+1)).toNat:Nat):Int)) O (by rw [BJ Z Z];omega)) O (AK (A7 (c:=(((-(z+1)).toNat:Nat):Int)) O underlying2 underlying56 (BT Z)) O (AK (AY (c:=((z.natAbs:Nat):Int)) O O (by rw [C0 Z Z];omega)) O (cN (S:=S) (x:=z.natAbs) (args:=[(vK .u64 z.natAbs)]) call135 (λw hw=>Pb z.natAbs (by first|omega|(simp only [Int.natAbs_neg];omega)) w) O O O λg1 lg1=>cZ (S:=S) (x:=z) (args:=[(Value.bool true),(C5 g1)]) call106 (λw hw=>(Al.cast (T:=λi=>ZX i) (Fk hc0) (GG true g1 w (Bc hw 0 O lg1)))) O O O λg2 lg2=>Ku O sizeOf95 O (AC.nil (OkQ.subF (sL [0,2] O) (OkQ.then_ ?_)))))))))
  exact AE.ret (OkQ.then_ret (AS O (BH (i:=2) (cs:=FU g2) O O isAgg95 sizeOf95 O) (λw hw=>Gd (a:=(g2:ZX z)) hw (Bc hw 0 O lg2) O)))
 ·replace hc0:=of_decide_eq_false hc0
  exact AE.skip (q2 (AM O (AK (A7 (c:=((z.natAbs:Nat):Int)) O underlying2 underlying56 (by rw [C0 Z Z];omega)) O (cN (S:=S) (x:=z.natAbs) (args:=[(vK .u64 z.natAbs)]) call135 (λw hw=>Pb z.natAbs (by first|omega|(simp only [Int.natAbs_neg];omega)) w) O O O λg3 lg3=>cZ (S:=S) (x:=z) (args:=[(Value.bool false),(C5 g3)]) call106 (λw hw=>(Al.cast (T:=λi=>ZX i) (K6 hc0) (GG false g3 w (Bc hw 0 O lg3)))) O O O λg4 lg4=>Ku O sizeOf95 O (AC.nil (OkQ.subF (sL [0,2] O) (OkQ.then_ (AE.ret (AS O (BH (i:=2) (cs:=FU g4) O O isAgg95 sizeOf95 O) (λw hw=>Gd (a:=(g4:ZX z)) hw (Bc hw 0 O lg4) O))))))))))
theorem UY {x:Int} (a:ZX x) (w:World) {S:Nat->Prop} (ha:Ro S w a)  :Calls prog 127 #[(aG (FU a))] w (Ak w (vI x.sign)):=by
 have la:=CV (W:=w) ha
 refine Ag (args:=[(aG (FU a))]) (L:=[Ew a.n]) func127 O O (AV O) (Z_ ha Ao) (AE.subF (sL [0] O) (q4 (B0 (cs:=FU a) O λb1=>AI O (q6 (sL [1,2] O) (q4 (AK (v:=(pP b1 1)) (AB O underlying95 O sizeOf93 O) O (BL 0 (C5 a.n) PH O (AK (v:=(vN ((dg x.natAbs).length))) (AF O underlying93) O (AK (BA (c:=(decide (((dg x.natAbs).length)=0))) O O (KW (a:=(dg x.natAbs).length) (b:=0))) O (AC.nil ?_))))))))))
 refine OkQ.subF (sL [1,2,6] O) (OkQ.then_ ?_)
 refine AE.cond O (λhc0=>?_) (λhc0=>?_)
 ·replace hc0:=of_decide_eq_true hc0
  have he:x.sign=0:=by rw [show x=0 by have:=TZ hc0;omega];rfl
  exact q4 (AI O (AC.nil (OkQ.then_ (AE.ret (OkQ.then_ret (AS O (AZ (v:=(vI 0)) O) (λw hw=>⟨by rw [he],hw.out⟩)))))))
 ·replace hc0:=of_decide_eq_false hc0
  have hx0:=Lp hc0
  refine AE.skip (q1 (q4 (AK (v:=(pP b1 0)) (AB O underlying95 O sizeOf4 O) O (BL 0 (Value.bool (decide (x<0))) PP O (AC.nil (OkQ.subF (sL [1,2,8] O) (OkQ.then_ ?_)))))))
  refine AE.cond O (λhc1=>?_) (λhc1=>?_)
  ·replace hc1:=of_decide_eq_true hc1
   have he:x.sign = -1:=Int.sign_eq_neg_one_of_neg hc1
   exact q4 (AI O (AC.nil (OkQ.then_ (AE.ret (OkQ.then_ret (AS O (AZ (v:=(vI (-1:Int))) O) (λw hw=>⟨by rw [he],hw.out⟩)))))))
  ·replace hc1:=of_decide_eq_false hc1
   have he:x.sign=1:=Int.sign_eq_one_of_pos Z
   exact AE.skip (q2 (AI O (AC.nil (OkQ.then_ (AE.ret (AS O (AZ (v:=(vI 1)) O) (λw hw=>⟨by rw [he],hw.out⟩)))))))
theorem W9 {x y:Int} (a:ZX x) (b:ZX y) (hx:nw x.natAbs<=67108864) (hy:nw y.natAbs<=67108864) (w:World) {S:Nat->Prop} (ha:Ro S w a) (hb:Ro S w b)  :Calls prog 128 #[(aG (FU a)),(aG (FU b))] w (Al (ZX (x*y)) S w):=by
 have la:=CV (W:=w) ha
 have lb:=CV (W:=w) hb
 refine Ag (args:=[(aG (FU a)),(aG (FU b))]) (L:=[Ew a.n,Ew b.n]) func128 O O (AV O) (Z_ ha (Z_ hb Ao)) (AE.subF (sL [0,1] O) (q4 (B0 (cs:=FU a) O λb1=>B0 (cs:=FU b) O λb2=>al Yf O λb3=>q6 (sL [2,3,4] O) (Cu [(0,true),(1,true),(2,true),(3,true),(4,true),(5,true),(6,true),(7,true),(8,true),(9,false),(10,false),(11,false)] (sl sr) (Av (v:=(pP b1 0)) O (AB O underlying95 O sizeOf4 O) (Bx 1 (Value.bool (decide (x<0))) PP O (Av (v:=(pP b2 0)) O (AB O underlying95 O sizeOf4 O) (Bx 0 (Value.bool (decide (y<0))) PP O ?_))))))))
 refine Av O (Fj (c:=(!(decide (x<0) == decide (y<0)))) O O underlying4 O) (Av (v:=(pP b1 1)) O (AB O underlying95 O sizeOf93 O) (Bx 1 (C5 a.n) PH O (Av (v:=(pP b2 1)) O (AB O underlying95 O sizeOf93 O) (Bx 0 (C5 b.n) PH O (OkE.imp O (cN (S:=S) (x:=(x.natAbs*y.natAbs)) (args:=[(C5 a.n),(C5 b.n)]) call129 (λw hw=>Qf a.n b.n (by first|omega|(simp only [Int.natAbs_neg];omega)) (by first|omega|(simp only [Int.natAbs_neg];omega)) w (Y3 (Bc hw 3 O la)) (Y3 (Bc hw 4 O lb))) O O O λg1 lg1=>OkE.back (sl (sl sr)) (OkE.imp O (cZ (S:=S) (x:=(x*y)) (args:=[(Value.bool (!(decide (x<0) == decide (y<0)))),(C5 g1)]) call106 (λw hw=>(Al.cast (T:=λi=>ZX i) (P0 x y) (GG (!(decide (x<0) == decide (y<0))) g1 w (Bc hw 0 O lg1)))) O O O λg2 lg2=>OkE.back (sl (sl (sl sr))) (OkE.imp O ?_)))))))))
 exact Ku O sizeOf95 O (OkE.back (sl (sl (sl sr))) (OkE.nil (OkQ.subF (sL [4] O) (OkQ.then_ (AE.ret (AS O (BH (i:=2) (cs:=FU g2) O O isAgg95 sizeOf95 O) (λw hw=>Gd (a:=(g2:ZX (x*y))) hw (Bc hw 0 O lg2) O)))))))
end
theorem Np (n:Int):decide (n.sign<0)=decide (n<0):=by
  rcases Int.lt_trichotomy n 0 with h|h|h
  · rw [Int.sign_eq_neg_one_of_neg h];simp [h]
  · subst h;rfl
  · rw [Int.sign_eq_one_of_pos h];simp;omega
theorem U0 {n:Int} {d:Nat} (hd:d≠0):Eg (decide (n<0)) (n.natAbs/Nat.gcd n.natAbs d)=(mkRat n d).num:=by rw [Qo hd,Np]
theorem TW {n:Int} {d:Nat} (hd:d≠0):d/Nat.gcd n.natAbs d-1=(mkRat n d).den-1:=by rw [QS hd]
theorem az {b:Rat} (h:b≠0):mkRat (Eg (decide (b.num<0)) b.den) b.num.natAbs=b⁻¹:=by rw [<-IH h,Np]
theorem Wc {a b:Rat}:a*b⁻¹=a/b:=(Rat.div_def a b).symm
theorem UH {a b:Rat} (h:b.num.sign=0):(0:Rat)=a/b:=by
  have h1:b=0:=Rat.num_eq_zero.1 (Int.sign_eq_zero_iff_zero.1 h)
  rw [h1,Rat.div_def,Rat.inv_zero,Rat.mul_zero]
def FX.zero:FX 0:=⟨⟨NX.zero⟩,NX.zero⟩
theorem Yg {x0:Pt} (f0:PX x0):Instr.fill (λi=>some (i*6,6)) ((Array.range (1*6)).map ((Value.agg (#[(Value.bool false),(Value.slice none 0 0),(Value.slice none 0 0),(Value.bool false),(Value.slice none 0 0),(Value.slice none 0 0)])).cells[·%(Value.agg (#[(Value.bool false),(Value.slice none 0 0),(Value.slice none 0 0),(Value.bool false),(Value.slice none 0 0),(Value.slice none 0 0)])).cells.size]!)) [(0,.agg (XW f0).toArray)]=some (XW f0).toArray:=by kernel_rfl
theorem Jh {α:Type} {enc:α->List Value} {z:Nat} (h:∀x,(enc x).length=z) (d:α) (xs:List α) (j r k:Nat) (hj:j<xs.length) (hr:r+k<=z) {vs:List Value} (hv:((enc (xs.getD j d)).drop r).take k=vs):((rowsL enc xs).drop (j*z+r)).take k=vs:=by
  have h1:=A8 h d xs j hj
  rw [<-hv,<-h1,List.drop_take,List.take_take,List.drop_drop,Nat.min_eq_left Z]
end Go.Proofs.YtpgncndhhhllfaaGreat
