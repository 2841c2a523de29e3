import Derived.Lib.ItoaNum
import Derived.Laws.Runes
import Derived.Test.YtpgncndhhhllfaaGreatDoorPart06
import Derived.Test.YtpgncndhhhllfaaGreatDoorPart08
import Derived.Test.YtpgncndhhhllfaaGreatDoorPart19
import Derived.Test.YtpgncndhhhllfaaGreatDoorPart20
namespace Go.Proofs.YtpgncndhhhllfaaGreatDoor
open Go Go.RowKit Go.Proofs.Tryz
set_option linter.unusedVariables false
set_option linter.unusedSimpArgs false
section
set_option maxRecDepth 100000
theorem UZ {a b:Nat} (h:b<a):0<Cy a b:=by unfold Cy;rw [if_neg (by omega),if_neg (by omega)];omega
theorem Rp {a b:Nat} (h:¬Cy a b<=0):b<a:=by
 unfold Cy at h
 split at h
 ·omega
 ·split at h<;>omega
theorem Oy (a b:NV) (hb0:0<b.x) (hla:(dg a.x).length<=274877906944) (hlb:(dg b.x).length<=274877906944) (w:World) (ha:Holds w (nA a)) (hb:Holds w (nA b)):Calls Tryz.prog 196 #[(nV a),(nV b)] w (IT w [] [a.p.map (·.block)] (a.x/b.x) (a.x%b.x)):=by
 obtain ⟨k,hk⟩:∃k,k=(dg b.x).length-3:=⟨_,rfl⟩
 obtain ⟨tp,htp⟩:∃tp,tp=b.x/10000^k:=⟨_,rfl⟩
 have htb:=VH b.x
 have htp1:=N8 hb0
 rw [<-hk] at htb htp1
 rw [<-htp] at htp1
 have htb2:=htb
 rw [<-htp] at htb2
 have hlb1:=(Jq hb0).2
 refine Ah (args:=[(nV a),(nV b)]) (L:=[nA a,nA b]) Tryz.func196 rfl rfl (AY rfl) (Bv rfl ha (Bv rfl hb (Ar))) (AF.subF (sL [0,1] rfl) (q4 (asg' rfl (asg' rfl (AD.nil ?_)))))
 refine q1 (q4 (AJ rfl (AJ rfl (DC Tryz.call198 (λw hw=>Oe a b (by first|omega|(dsimp only;omega)) (by first|omega|(dsimp only;omega)) w (hw.holds (i:=0) rfl) (hw.holds (i:=1) rfl)) rfl (AH (Ad (c:=(decide ((Cy a.x b.x)<(0:Int)))) rfl rfl rfl) rfl ?_)))))
 refine AD.nil (AC.subF (sL [0,1,4,5,18] rfl) (AC.then_ ?_))
 refine AF.cond rfl (λhc0=>?_) (λhc0=>?_)
 ·replace hc0:=of_decide_eq_true hc0
  rw [GB] at hc0
  refine q4 (AJ rfl (asg' rfl (asg' rfl (AD.nil (AC.subF (sL [0,1,4,5] rfl) ?_)))))
  exact AC.then_ (AF.ret (AC.then_ret (Br rfl (AQ (v:=(Value.slice none 0 0)) rfl) (AQ (v:=(nV a)) rfl) (λw hw=>(by rw [Nat.mod_eq_of_lt hc0];exact Wp hw (Nat.div_eq_of_lt hc0) (k:=0) rfl)))))
 ·replace hc0:=of_decide_eq_false hc0
  rw [GB] at hc0
  have hlab:=HB (Nat.le_of_not_lt hc0)
  obtain ⟨m,hm1⟩:∃m,m=(dg a.x).length-(dg b.x).length+1:=⟨_,rfl⟩
  have hm:m+(dg b.x).length=(dg a.x).length+1:=by omega
  refine AF.skip (q2 (AJ rfl (AH (v:=(vN ((dg b.x).length))) (AE rfl Tryz.underlying71) rfl (AH (BL (c:=((((dg b.x).length:Nat):Int)-3)) rfl rfl (BK (by omega) (by omega))) rfl (AH (Ds (c:=((k:Nat):Int)) rfl rfl (by split<;>omega)) rfl ?_)))))
  refine asg' rfl (q3 (sL [0,1,4,5,6] rfl) (AJ rfl (AJ rfl (DC (args:=[(nV b),(vN k)]) (v:=(vN tp)) Tryz.call245 (λw hw=>(by rw [htp];exact L3 b k (by omega) (by first|omega|(dsimp only;omega)) (by first|omega|(dsimp only;omega)) w (hw.holds (i:=1) rfl))) rfl (asg' rfl ?_)))))
  refine q3 (sL [0,1,4,5,6,7] rfl) (AJ rfl (AH (v:=(vN ((dg a.x).length))) (AE rfl Tryz.underlying71) rfl (AJ rfl (AH (v:=(vN ((dg b.x).length))) (AE rfl Tryz.underlying71) rfl (AH (BL (c:=(((m:Nat):Int)-1)) rfl rfl (by rw [BK (by omega) (by omega)];omega)) rfl ?_)))))
  refine asg' rfl (q3 (sL [0,1,4,5,6,7,8] rfl) (AJ rfl (AH (AW (c:=((m:Nat):Int)) rfl rfl (by rw [BK (by omega) (by omega)];omega)) rfl (AD.makeDig (m:=m) Xg rfl rfl (by omega) rfl rfl λb1 ho_b1=>asg' rfl ?_))))
  refine q3 (sL [0,1,4,5,6,7,8,9] rfl) (AD.openV (V:=λb2=>(Value.slice (some ⟨b2,0,none⟩) 0 0)) (T:=3) (cs:=[]) (AO rfl) (Ey Tryz.underlying71 Tryz.sizeOf3) rfl (AY rfl) λb2=>AD.asRow0 (z:=1) 0 rfl (by omega) λho_b2=>AJ rfl (AJ rfl (AH (AW (c:=((m:Nat):Int)) rfl rfl (by rw [BK (by omega) (by omega)];omega)) rfl ?_)))
  refine AH (v:=(Value.slice (NS a.p m a.c 1) ((dg a.x).length-m) (a.c-m))) (H_ (i:=m) rfl rfl Tryz.underlying71 Tryz.sizeOf3 (by omega) a.ok.le) rfl (AD.appendS0 (cs2:=dgL (([])++(((dg a.x)).drop m))) (news:=dgL (((dg a.x)).drop m)) TF rfl ho_b2 rfl rfl (WO (k:=2) rfl a.ok (by omega)) (by simp [B_]) (O7 _) (GR (by omega)) (by omega) (by rw [EK];rfl) rfl λp_1 c_1 ho_1=>AD.frozenD 0 (X:=a.x/10000^m) rfl ho_1 (by simp) (by rw [<-PL];exact (List.take_length).symm) rfl λhok0 hloc0=>AD.retell (k:=40) (u:=(Value.slice p_1 ((dg (a.x/10000^m)).length) c_1)) rfl (by rw [show 0+((dg a.x).length-m)=(dg (a.x/10000^m)).length by rw [<-PL];simp]) (asg' rfl (q6 (sL [0,1,4,5,6,7,8,9,10] rfl) ?_)))
  refine AF.block ?_
  refine AF.lp5 (tg λ(j:Nat) (qs:List Nat) (R:Nat) (p:Option Addr) (c:Nat)=>j<=m/\H2 qs/\m=qs.length/\val10 qs=10000^j*(a.x/10000^j/b.x)/\R=a.x/10000^j%b.x/\A6 p (dg R).length c/\DN w [] p) (tg λ(j:Nat) (qs:List Nat) (R:Nat) (p:Option Addr) (c:Nat)=>[(0,(nV a)),(1,(nV b)),(4,(Value.slice none 0 0)),(5,(Value.slice none 0 0)),(6,(vN k)),(7,(vN tp)),(9,(Value.slice (some ⟨b1,0,none⟩) m m)),(8,(vI (((j:Nat):Int)-1))),(10,(Value.slice p ((dg R).length) c))]) (tg λ(j:Nat) (qs:List Nat) (R:Nat) (p:Option Addr) (c:Nat)=>[AI p (dgL (dg R)),rowW (some ⟨b1,0,none⟩) 3 1 m m (dgL qs),nA a,nA b]) (tg λ(j:Nat) (qs:List Nat) (R:Nat) (p:Option Addr) (c:Nat)=>j) m (List.replicate m 0) (a.x/10000^m) p_1 c_1 (⟨Nat.le_refl _,Ko _,by simp,by rw [H7,Nat.div_eq_of_lt (Lt hb0 hm),Nat.mul_zero],(Nat.mod_eq_of_lt (Lt hb0 hm)).symm,hok0,hloc0⟩) (sF rfl) sr (λj qs R p c hJ=>?_)
  obtain ⟨hj,hdd,hk,hv,hR,hok,hloc⟩:=hJ
  refine AF.seq (q4 (AJ rfl (AH (C_ (c:=(decide ((0:Int)<=(((j:Nat):Int)-1)))) rfl rfl rfl) rfl (AD.nil (AC.subF (sL [0,1,4,5,6,7,9,8,10,42] rfl) ?_)))))
  refine AC.then_ ?_
  refine AF.cond rfl (λhc1=>?_) (λhc1=>?_)
  ·replace hc1:=of_decide_eq_true hc1
   have hj1:1<=j:=by omega
   obtain ⟨R1,hR1⟩:∃R1,R1=10000*R+(dg a.x).getD (j-1) 0:=⟨_,rfl⟩
   have hRb:R<b.x:=by rw [hR];exact Nat.mod_lt _ hb0
   have hd1:=Fg a.x (j-1)
   have hR1b:R1<10000*b.x:=by omega
   have hA:=PG a.x (j-1)
   rw [Nat.sub_add_cancel hj1] at hA
   have hst:=OM hb0 hA hR hR1
   have hR1l:(dg R1).length<=(dg b.x).length+1:=by refine FT (Nat.lt_of_lt_of_le hR1b ?_);rw [Nat.pow_succ];have h8:=Cd (Dj b.x);rw [CJ] at h8;omega
   have hRl:=HB (Nat.le_of_lt hRb)
   have hd9:H2 ([(dg a.x).getD (j-1) 0]++dg R):=λe he=>(List.mem_append.1 he).elim (λh=>by rw [List.mem_singleton.1 h];omega) (λh=>Dj R e h)
   have hv9:val10 ([(dg a.x).getD (j-1) 0]++dg R)=R1:=by rw [List.singleton_append,val10,CJ];omega
   have hk9:1+(dg R).length=([(dg a.x).getD (j-1) 0]++dg R).length:=by simp [Nat.add_comm]
   obtain ⟨f,hf⟩:∃f,f=R1/10000^k:=⟨_,rfl⟩
   have hfb:=P5 hR1b htb
   rw [<-hf] at hfb
   obtain ⟨q,hq⟩:∃q,q=R1/b.x:=⟨_,rfl⟩
   have hq1:q<=9999:=by have:=(Nat.div_lt_iff_lt_mul hb0).2 hR1b;omega
   have hqR:b.x*q<=R1:=by rw [hq];exact Nat.mul_div_le _ _
   have hlow:f/(tp+1)<=q:=by rw [hf,htp,hq];exact U_ hb0
   have hhigh:q<=f/tp:=by rw [hf,htp,hq];exact SW (by rw [<-htp];exact htp1)
   have hf2:f/(tp+1)<=f:=Nat.div_le_self _ _
   refine AF.retell (k:=8) (u:=(vN (j-1))) rfl (by show Value.int _ _=Value.int _ _;congr 1;omega) (AF.skip (q1 (AF.block (q4 (AJ rfl ?_)))))
   refine AJ rfl (AH (v:=(pP (pB a.p) (pO a.p+(j-1)*1))) (AL (j:=j-1) rfl rfl a.ok Tryz.underlying71 Tryz.sizeOf3 rfl (by omega)) rfl (AH (AZ (v:=(vN ((dg a.x).getD (j-1) 0))) (i:=2) rfl rfl (a.ok.ne (by omega)) Be (C8 (ds:=dg a.x) (j:=j-1) (by omega))) rfl (AD.openV (V:=λb3=>(Value.slice (some ⟨b3,0,none⟩) 1 1)) (T:=3) (cs:=[(vN ((dg a.x).getD (j-1) 0))]) (AO rfl) (Am (cs:=[(vN ((dg a.x).getD (j-1) 0))]) (pv:=[(0,(vN ((dg a.x).getD (j-1) 0)))]) Tryz.underlying71 Tryz.sizeOf3 Tryz.zeroValue3 (by decide) (by decide) rfl (by kernel_rfl)) rfl (AY rfl) λb3=>AD.asRow0 (z:=1) 1 rfl (by omega) λho_b3=>AJ rfl ?_)))
   refine AD.appendS0 (cs2:=dgL (([(dg a.x).getD (j-1) 0])++(dg R))) (news:=dgL (dg R)) TF rfl ho_b3 rfl rfl (K_ (k:=1) rfl hok) (by simp [B_]) (O7 _) (GR (by omega)) (by omega) (by rw [EK];rfl) rfl λp_2 c_2 ho_2=>DC (args:=[(Value.slice p_2 (1+((dg R).length)) c_2)]) (v:=(Value.slice p_2 ((dg R1).length) c_2)) Tryz.call200 (λw hw=>(by have h9:=Fr p_2 c_2 (([(dg a.x).getD (j-1) 0])++(dg R)) hd9 (by rw [<-hk9];exact ho_2.row) (by simp;omega) w (Iy (hw.holds (i:=0) rfl) ho_2 hk9);rw [hv9,<-hk9] at h9;exact h9)) rfl (AD.frozenD 0 (X:=R1) rfl ho_2 hk9 (by rw [<-hv9];exact Eu hd9) rfl λhok1 hloc1=>asg' rfl (q3 (sL [0,1,4,5,6,7,9,8,10] rfl) (AJ rfl ?_)))
   refine AJ rfl (DC (args:=[(Value.slice p_2 ((dg R1).length) c_2),(vN k)]) (v:=(vN f)) Tryz.call245 (λw hw=>(by rw [hf];exact L3 (NV.mk p_2 c_2 R1 hok1) k (by omega) (by first|omega|(dsimp only;omega)) (by first|omega|(dsimp only;omega)) w (hw.holds (i:=0) rfl))) rfl (asg' rfl (q6 (sL [0,1,4,5,6,7,9,8,10,11] rfl) (Cw [(0,true),(1,true),(2,true),(3,true),(4,true),(5,true),(6,true),(7,true),(8,true),(9,true)] sr (BS rfl ?_)))))
   refine BS rfl (Aw rfl (AW (c:=((tp+1:Nat):Int)) rfl rfl (AR (a:=tp) (b:=1) (by omega))) (Aw rfl (EA (c:=((f/(tp+1):Nat):Int)) rfl rfl (by omega) (ED (a:=f) (b:=tp+1) (by omega))) (BS rfl (BS rfl (Aw rfl (EA (c:=((f/tp:Nat):Int)) rfl rfl (by omega) (ED (a:=f) (b:=tp) (by omega))) ?_)))))
   refine Aw rfl (Ek (c:=((min (f/tp) 9999:Nat):Int)) rfl rfl (by split<;>omega)) (pS' rfl (pS' rfl (OkE.nil (AC.subF (sL [0,1,4,5,6,7,9,8,10,12,13] rfl) (q1 ?_)))))
   refine AF.block ?_
   refine AF.lp2 (tg λ(lo:Nat) (hi:Nat)=>lo<=q/\q<=hi/\hi<=9999) (tg λ(lo:Nat) (hi:Nat)=>[(0,(nV a)),(1,(nV b)),(4,(Value.slice none 0 0)),(5,(Value.slice none 0 0)),(6,(vN k)),(7,(vN tp)),(9,(Value.slice (some ⟨b1,0,none⟩) m m)),(8,(vN (j-1))),(10,(Value.slice p_2 ((dg R1).length) c_2)),(12,(vN lo)),(13,(vN hi))]) (tg λ(lo:Nat) (hi:Nat)=>[AI p_2 (dgL (dg R1)),AI p (dgL (dg R)),rowW (some ⟨b1,0,none⟩) 3 1 m m (dgL qs),nA a,nA b]) (tg λ(lo:Nat) (hi:Nat)=>hi-lo) (f/(tp+1)) (min (f/tp) 9999) (⟨hlow,by omega,by omega⟩) (sF rfl) sr (λlo hi hJ=>?_)
   obtain ⟨hlo,hhi,hh9⟩:=hJ
   refine AF.seq (q4 (AJ rfl (AJ rfl (AH (Ad (c:=(decide (lo<hi))) rfl rfl (CB (a:=lo) (b:=hi))) rfl (AD.nil ?_)))))
   refine AC.subF (sL [0,1,4,5,6,7,9,8,10,12,13,66] rfl) (AC.then_ ?_)
   refine AF.cond rfl (λhc2=>?_) (λhc2=>?_)
   ·replace hc2:=of_decide_eq_true hc2
    refine AF.skip (AC.then_ (AF.block (q4 (AJ rfl (AJ rfl ?_)))))
    refine AH (AW (c:=((lo+hi:Nat):Int)) rfl rfl (AR (a:=lo) (b:=hi) (by omega))) rfl (AH (AW (c:=(((lo+hi)+1:Nat):Int)) rfl rfl (AR (a:=lo+hi) (b:=1) (by omega))) rfl (AH (EA (c:=((((lo+hi)+1)/2:Nat):Int)) rfl rfl (by omega) (ED (a:=(lo+hi)+1) (b:=2) (by omega))) rfl (asg' rfl (q3 (sL [0,1,4,5,6,7,9,8,10,12,13,14] rfl) (AJ rfl ?_)))))
    refine AJ rfl (AH (Au (c:=((((lo+hi)+1)/2:Nat):Int)) rfl Tryz.underlying3 Tryz.underlying40 (BH (by omega))) rfl (AD.callN (args:=[(vK .u64 (((lo+hi)+1)/2))]) Tryz.call194 (λw hw=>OG (((lo+hi)+1)/2) (by omega) w) Ny rfl rfl rfl λv1 hv1 lv1=>?_))
    have hlv1:(dg v1.x).length<=1:=FT (by omega)
    refine AD.callN (args:=[(nV b),(nV v1)]) Tryz.call143 (λw hw=>Lo b v1 (by first|omega|(dsimp only;omega)) (by first|omega|(dsimp only;omega)) w (hw.holds (i:=5) rfl) (hw.holds (i:=0) rfl)) Ny rfl rfl rfl λv2 hv2 lv2=>?_
    have hlv2:(dg v2.x).length<=(dg b.x).length+1:=by refine FT ?_;rw [hv2,Nat.pow_succ];have h8:=Cd (Dj b.x);rw [CJ] at h8;exact Nat.mul_lt_mul_of_lt_of_le h8 (by omega) (by omega)
    refine AJ rfl (DC Tryz.call198 (λw hw=>Oe v2 (NV.mk p_2 c_2 R1 hok1) (by first|omega|(dsimp only;omega)) (by first|omega|(dsimp only;omega)) w (hw.holds (i:=0) rfl) (hw.holds (i:=2) rfl)) rfl (AH (FU (c:=(decide ((Cy v2.x R1)<=(0:Int)))) rfl rfl rfl) rfl (AD.nil (AC.subF (sL [0,1,4,5,6,7,9,8,10,12,13,14,79] rfl) (AC.then_ ?_)))))
    refine AF.cond rfl (λhc3=>?_) (λhc3=>?_)
    ·replace hc3:=of_decide_eq_true hc3
     have hmq:(lo+hi+1)/2<=q:=by rw [hq];refine (Nat.le_div_iff_mul_le hb0).2 ?_;rw [Nat.mul_comm,<-hv1,<-hv2];exact Nat.le_of_not_lt λh=>by have h8:=UZ h;omega
     exact AF.region (AJ rfl (asg' rfl (AD.nil (AC.subF (sL [0,1,4,5,6,7,9,8,10,12,13,14] rfl) (AC.in_normal (AC.round2 (((lo+hi)+1)/2) hi (⟨by omega,by omega,by omega⟩) (by omega) (sF rfl) (sl (sl sr))))))))
    ·replace hc3:=of_decide_eq_false hc3
     have hmq:q<(lo+hi+1)/2:=by rw [hq];refine (Nat.div_lt_iff_lt_mul hb0).2 ?_;rw [Nat.mul_comm,<-hv1,<-hv2];exact Rp (by omega)
     refine AF.region (AJ rfl (AH (BL (c:=(((((lo+hi)+1)/2)-1:Nat):Int)) rfl rfl (Bj (a:=((lo+hi)+1)/2) (b:=1) (by omega) (by omega))) rfl (asg' rfl (AD.nil (AC.subF (sL [0,1,4,5,6,7,9,8,10,12,13,14] rfl) ?_)))))
     exact AC.in_normal (AC.round2 lo ((((lo+hi)+1)/2)-1) (⟨by omega,by omega,by omega⟩) (by omega) (sF rfl) (sl (sl sr)))
   ·replace hc2:=of_decide_eq_false hc2
    have hlq:lo=q:=by omega
    refine AF.exit (AC.then_exit (AC.round2_exit (AC.in_exit (q2 (AJ rfl ?_)))))
    refine AJ rfl (AJ rfl (AH (v:=(pP (pB (some ⟨b1,0,none⟩)) (pO (some ⟨b1,0,none⟩)+(j-1)*1))) (AL (j:=j-1) rfl rfl ho_b1.row Tryz.underlying71 Tryz.sizeOf3 rfl (by omega)) rfl (AD.storeRow2 (j:=j-1) (v:=(vN lo)) rfl rfl ho_b1 (by simp [B_];omega) (by omega) rfl Tryz.sizeOf3 rfl (Pb _ _ _) (AD.nil (AC.subF (sL [0,1,4,5,6,7,9,8,10,12,13] rfl) ?_)))))
    refine AC.then_ (AF.region (AJ rfl (AJ rfl (AJ rfl (AH (Au (c:=((lo:Nat):Int)) rfl Tryz.underlying3 Tryz.underlying40 (BH (by omega))) rfl ?_)))))
    refine AD.callN (args:=[(vK .u64 lo)]) Tryz.call194 (λw hw=>OG lo (by omega) w) Ny rfl rfl rfl λv3 hv3 lv3=>?_
    have hlv3:(dg v3.x).length<=1:=FT (by omega)
    refine AD.callN (args:=[(nV b),(nV v3)]) Tryz.call143 (λw hw=>Lo b v3 (by first|omega|(dsimp only;omega)) (by first|omega|(dsimp only;omega)) w (hw.holds (i:=5) rfl) (hw.holds (i:=0) rfl)) Ny rfl rfl rfl λv4 hv4 lv4=>?_
    have hlv4:(dg v4.x).length<=(dg b.x).length+1:=by refine FT ?_;rw [hv4,Nat.pow_succ];have h8:=Cd (Dj b.x);rw [CJ] at h8;exact Nat.mul_lt_mul_of_lt_of_le h8 (by omega) (by omega)
    have hv4R:v4.x<=R1:=by rw [hv4,hv3,hlq];exact hqR
    refine AD.callN (args:=[(Value.slice p_2 ((dg R1).length) c_2),(nV v4)]) Tryz.call197 (λw hw=>Om (NV.mk p_2 c_2 R1 hok1) v4 hv4R (by first|omega|(dsimp only;omega)) w (hw.holds (i:=2) rfl) (hw.holds (i:=0) rfl)) Ny rfl rfl rfl λv5 hv5 lv5=>asg' rfl (AD.nil (AC.subF (sL [0,1,4,5,6,7,9,8,10,12,13] rfl) (AC.in_normal (AC.then_ ?_))))
    exact AF.region (AJ rfl (AH (BL (c:=(((j-1:Nat):Int)-1)) rfl rfl (BK (by omega) (by omega))) rfl (asg' rfl (AD.nil (AC.subF (sL [0,1,4,5,6,7,9,8,10,12,13] rfl) (AC.round5 (j-1) (qs.set (j-1) lo) v5.x v5.p v5.c (⟨by omega,Pk hdd (by omega),by simpa using hk,QS hdd hk hj1 hj hv (by rw [hlq,hq];exact hst.1),by rw [hv5,hv4,hv3,hlq,hst.2,hq];exact Nat.sub_eq_of_eq_add (Nat.mod_add_div _ _).symm,v5.ok,lv5⟩) (by omega) (sF rfl) (sk (sl (sl (sl (sl sr)))))))))))
  ·replace hc1:=of_decide_eq_false hc1
   obtain rfl:j=0:=by omega
   have hfin:val10 qs=a.x/b.x:=by rw [hv];simp
   have hfin2:R=a.x%b.x:=by rw [hR];simp
   refine AF.exit (AC.then_exit (AC.round5_exit (AC.in_exit (q2 (AJ rfl ?_)))))
   refine DC (args:=[(Value.slice (some ⟨b1,0,none⟩) m m)]) (v:=(Value.slice (some ⟨b1,0,none⟩) ((dg (val10 qs)).length) m)) Tryz.call200 (λw hw=>(by have h9:=Fr (some ⟨b1,0,none⟩) m qs hdd (by rw [<-hk];exact ho_b1.row) (by omega) w (Iy (hw.holds (i:=1) rfl) ho_b1 hk);rw [<-hk] at h9;exact h9)) rfl (AJ rfl (asg' rfl (asg' rfl (AD.nil (AC.subF (sL [0,1,4,5,6,7,9,8,10] rfl) ?_)))))
   exact AC.then_ (AF.ret (Br rfl (AQ (v:=(Value.slice (some ⟨b1,0,none⟩) ((dg (val10 qs)).length) m)) rfl) (AQ (v:=(Value.slice p ((dg R).length) c)) rfl) (λw hw=>XT hw (i:=1) (k:=0) rfl ho_b1 hk (by rw [<-hfin];exact Eu hdd) (by rw [hfin]) (by rw [<-hfin2];rfl) (by rw [<-hfin2];exact hok) hloc (by rw [<-hfin2]))))
theorem Ue (a b:NV) (hla:(dg a.x).length<=274877906944) (hlb:(dg b.x).length<=274877906944) (w:World) (ha:Holds w (nA a)) (hb:Holds w (nA b)):Calls Tryz.prog 195 #[(nV a),(nV b)] w (F5 w [a.p.map (·.block),b.p.map (·.block)] (Nat.gcd a.x b.x)):=by
 refine Ah (args:=[(nV a),(nV b)]) (L:=[nA b,nA a]) Tryz.func195 rfl rfl (AY rfl) (Bv rfl hb (Bv rfl ha (Ar))) (AF.subF (sL [0,1] rfl) (q4 (asg' rfl (AD.nil (q1 ?_)))))
 refine AF.block ?_
 refine AF.lp2 (tg λ(u:NV) (v:NV)=>Nat.gcd u.x v.x=Nat.gcd a.x b.x/\(dg u.x).length<=274877906944/\(dg v.x).length<=274877906944/\DN w [a.p.map (·.block),b.p.map (·.block)] u.p/\DN w [a.p.map (·.block),b.p.map (·.block)] v.p) (tg λ(u:NV) (v:NV)=>[(4,(Value.slice none 0 0)),(0,(nV u)),(1,(nV v))]) (tg λ(u:NV) (v:NV)=>[nA v,nA u]) (tg λ(u:NV) (v:NV)=>v.x) a b (⟨rfl,hla,hlb,λs e=>.inr (by rw [<-e];exact List.mem_cons_self),λs e=>.inr (by rw [<-e];exact List.mem_cons_of_mem _ List.mem_cons_self)⟩) (sF rfl) sr (λu v hJ=>?_)
 obtain ⟨hg,hlu,hlv,hu,hv⟩:=hJ
 refine AF.seq (q4 (AJ rfl (AH (v:=(vN ((dg v.x).length))) (AE rfl Tryz.underlying71) rfl (AH (Bg (c:=(decide (0<((dg v.x).length)))) rfl rfl (CB (a:=0) (b:=(dg v.x).length))) rfl (AD.nil ?_)))))
 refine AC.subF (sL [4,0,1,9] rfl) (AC.then_ ?_)
 refine AF.cond rfl (λhc0=>?_) (λhc0=>?_)
 ·replace hc0:=of_decide_eq_true hc0
  have hv0:0<v.x:=by
     rcases Nat.eq_zero_or_pos v.x with h|h
     ·rw [h] at hc0;exact absurd hc0 (by decide)
     ·exact h
  refine AF.skip (AC.then_ (AF.block (q4 (AJ rfl (AJ rfl ?_)))))
  refine AD.callNN (args:=[(nV u),(nV v)]) Tryz.call196 (λw hw=>Oy u v hv0 hlu hlv w (hw.holds (i:=1) rfl) (hw.holds (i:=0) rfl)) Ny (Yc (y:=nA u) 1 rfl rfl Ny) rfl rfl rfl λq1 r1 hq1 hr1 lq1 lr1=>AJ rfl (AH (AS (v:=(nV q1)) rfl rfl) rfl (AH (AS (v:=(nV r1)) rfl rfl) rfl (asg' rfl (asg' rfl ?_))))
  refine q3 (sL [4,0,1,6] rfl) (AJ rfl (asg' rfl (AD.nil (AC.subF (sL [4,0,1,6] rfl) (AC.then_ ?_)))))
  exact AF.region (AJ rfl (asg' rfl (AD.nil (AC.subF (sL [4,0,1] rfl) (AC.in_normal (AC.round2 v r1 (⟨by rw [<-hg,hr1,Nat.gcd_comm,<-Nat.gcd_rec,Nat.gcd_comm],hlv,Nat.le_trans (HB (by rw [hr1];exact Nat.le_of_lt (Nat.mod_lt _ hv0))) hlv,hv,lr1.mono (λs hs c e=>hu c (by rw [List.mem_singleton.1 hs] at e;exact e))⟩) (by rw [hr1];exact Nat.mod_lt _ hv0) (sF rfl) (sl (sk (sk (sl sr))))))))))
 ·replace hc0:=of_decide_eq_false hc0
  have hv0:v.x=0:=by
     rcases Nat.eq_zero_or_pos v.x with h|h
     ·exact h
     ·have:=(Jq h).2;omega
  rw [hv0,Nat.gcd_zero_right] at hg
  refine AF.exit (AC.then_exit (AC.round2_exit (AC.in_exit (q2 (AJ rfl ?_)))))
  exact asg' rfl (AD.nil (AC.subF (sL [4,0,1] rfl) (AC.then_ (AF.ret (AN rfl (AQ (v:=(nV u)) rfl) (λw hw=>⟨u,hg,rfl,hw.out,hw.holds (i:=1) rfl,hu⟩))))))
end
section
def txB (l:List UInt8):ByteArray:=⟨l.toArray⟩
theorem C7 (l:List UInt8):(txB l).size=l.length:=by simp [txB,ByteArray.size]
theorem DA (a b:List UInt8):txB a++txB b=txB (a++b):=by
  apply ByteArray.ext
  simp [txB]
def En:Nat->Nat->List UInt8
  | 0,_=>[]
  | k+1,x=>UInt8.ofNat (48+x/10^k%10)::En k x
theorem MI (k x:Nat):(En k x).length=k:=by
  induction k with
  | zero=>rfl
  | succ k ih=>rw [En,List.length_cons,ih]
theorem Qy (k x:Nat):En (k+1) x=En k (x/10)++[UInt8.ofNat (48+x%10)]:=by
  induction k with
  | zero=>simp [En]
  | succ k ih =>
    rw [En,ih,En,List.cons_append,Nat.pow_succ',<-Nat.div_div_eq_div_mul]
theorem Jz (m x:Nat) (h0:x/10^(m+1)=0) (h1:m=0\/x/10^m≠0):Lib.decDigits x=En (m+1) x:=by
  induction m generalizing x with
  | zero =>
    have hx:x<10:=by omega
    rw [Lib.decDigits,dif_pos hx]
    simp [En,Nat.mod_eq_of_lt hx]
  | succ m ih =>
    have h2:x/10^(m+1)≠0:=h1.resolve_left (by omega)
    rw [Nat.pow_succ',<-Nat.div_div_eq_div_mul] at h0 h2
    have hx:¬x<10:=λh=>h2 (by rw [Nat.div_eq_of_lt h];exact Nat.zero_div _)
    rw [Lib.decDigits,dif_neg hx,Qy (m+1),ih (x/10) h0 (.inr h2)]
theorem YD (i:Nat):10^(4*i)=10000^i:=by rw [Nat.pow_mul]
theorem XD {x i k:Nat} (hk:k<4):x/10^(4*i+k)%10=(dg x).getD i 0/10^k%10:=by
  rw [Nat.pow_add,YD,<-Nat.div_div_eq_div_mul,OL]
  generalize x/10000^i=y
  match k,hk with
  | 0,_=>simp only [Nat.pow_zero,Nat.div_one];omega
  | 1,_=>show y/10%10=y%10000/10%10;omega
  | 2,_=>show y/100%10=y%10000/100%10;omega
  | 3,_=>show y/1000%10=y%10000/1000%10;omega
theorem TW {x i k d:Nat} (hk:k<4) (hd:d=(dg x).getD i 0/10^k):txB [UInt8.ofNat (48+d%10)]++txB (En (4*i+k) x)=txB (En (4*i+(k+1)) x):=by
  rw [DA,<-Nat.add_assoc,En,XD hk,hd]
  rfl
theorem TO {x i k d:Nat} (hx:0<x) (hi:i+1=(dg x).length) (hk:k<=4) (hd:d=(dg x).getD i 0/10^k) (hnz:k=0\/(dg x).getD i 0/10^(k-1)≠0) (hex:k=4\/d=0):En (4*i+k) x=Lib.decDigits x:=by
  have h1:=Cd (Dj x)
  rw [CJ,<-hi,Nat.pow_succ] at h1
  have h2:=Jq hx
  rw [<-hi,Nat.add_sub_cancel] at h2
  have hy:x/10000^i<10000:=Nat.div_lt_of_lt_mul h1
  have hy1:1<=x/10000^i:=(Nat.le_div_iff_mul_le (Nat.pow_pos (by omega))).2 (by omega)
  rw [OL,Nat.mod_eq_of_lt hy] at hd hnz
  have e:∀j,x/10^(4*i+j)=x/10000^i/10^j:=λj=>by rw [Nat.pow_add,YD,<-Nat.div_div_eq_div_mul]
  generalize hyy:x/10000^i=y at *
  have hk1:1<=k:=by
    rcases Nat.eq_zero_or_pos k with h|h
    · subst h;simp at hd;omega
    · exact h
  have hz:y/10^k=0:=by
    rcases hex with h|h
    · subst h;exact Nat.div_eq_of_lt hy
    · omega
  obtain ⟨m,hm⟩:∃m,m+1=4*i+k:=⟨4*i+k-1,by omega⟩
  rw [<-hm]
  refine (Jz m x ?_ (.inr ?_)).symm
  · rw [hm,e,hz]
  · rw [show m=4*i+(k-1) by omega,e]
    exact hnz.resolve_left (by omega)
theorem I5:Lib.decDigits 0=[48]:=by rw [Lib.decDigits,dif_pos (by omega)];rfl
section
variable {P:Program} {n:Nat} {F:List (Nat×Value)} {w0:A7} {L:List As} {t:TypeId} {p:String} {af:Array Edge} {d:Option Tmp} {g:Option (Nat×Bool)} {x:Operand}
theorem NG {k:IntKind} {a:Nat} {src dst:TypeId} {ds:TypeDesc} (hx:evF F x=some (.int k (a:Nat))) (h1:P.underlying src=some ds) (h2:P.underlying dst=some .string) (ha:a<128):Ex P n F w0 L ⟨d,.convert src dst x,t,p,af,g⟩ (.string (txB [UInt8.ofNat a])):=λA w hf _=>by
  have e:Utf8.encode (a:Nat)=txB [UInt8.ofNat a]:=by
    have hv:Utf8.valid (a:Int)=true:=by simp [Utf8.valid];omega
    simp only [Utf8.encode,hv,if_true,Int.toNat_natCast]
    rw [if_pos (by omega)]
    rfl
  simp only [execOp,hf.ev hx,Sem.run_bind,run_convert_int_string w src dst k (a:Nat) (by rw [h1];rfl) h2,Result.andThen_ok,Sem.run_pure,e]
end
end
section
set_option maxRecDepth 100000
theorem SB (a:NV) (hla:(dg a.x).length<=549755813888) (w:World) (ha:Holds w (nA a)):Calls Tryz.prog 134 #[(nV a)] w (An w (Value.string (txB (Lib.decDigits a.x)))):=by
 refine Ah (args:=[(nV a)]) (L:=[nA a]) Tryz.func134 rfl rfl (AY rfl) (Bv rfl ha (Ar)) (AF.subF (sL [0] rfl) (q4 (asg' rfl (AD.nil (q1 ?_)))))
 refine q4 (AJ rfl (AH (v:=(vN ((dg a.x).length))) (AE rfl Tryz.underlying71) rfl (AH (BJ (c:=(decide (((dg a.x).length)=0))) rfl rfl (RG (a:=(dg a.x).length) (b:=0))) rfl (AD.nil (AC.subF (sL [0,2,9] rfl) ?_)))))
 refine AC.then_ ?_
 refine AF.cond rfl (λhc0=>?_) (λhc0=>?_)
 ·replace hc0:=of_decide_eq_true hc0
  have hx0:a.x=0:=by rcases Nat.eq_zero_or_pos a.x with h|h;exact h;have:=(Jq h).2;omega
  exact q4 (asg' rfl (AD.nil (AC.then_ (AF.ret (AC.then_ret (AN rfl (AQ (v:=(Value.string (ByteArray.mk #[48]))) rfl) (λw hw=>⟨by rw [hx0,I5];rfl,hw.out⟩)))))))
 ·replace hc0:=of_decide_eq_false hc0
  have hx0:0<a.x:=by rcases Nat.eq_zero_or_pos a.x with h|h;(exact absurd (by rw [h];rfl) hc0);exact h
  refine AF.skip (q2 (asg' rfl (AD.nil (q1 (q4 ?_)))))
  refine asg' rfl (AD.nil (AC.then_ (AF.block ?_)))
  refine AF.lp2 (tg λ(i:Nat) (s:List UInt8)=>i<(dg a.x).length/\s=En (4*i) a.x\/i=(dg a.x).length/\s=Lib.decDigits a.x) (tg λ(i:Nat) (s:List UInt8)=>[(0,(nV a)),(2,(Value.string (ByteArray.mk #[]))),(4,(vN i)),(3,(Value.string (txB s)))]) (tg λ(i:Nat) (s:List UInt8)=>[nA a]) (tg λ(i:Nat) (s:List UInt8)=>(dg a.x).length-i) 0 ([]) (.inl ⟨by omega,rfl⟩) (sF rfl) sr (λi s hJ=>?_)
  have hj:=hJ
  refine AF.seq (q4 (AJ rfl (AJ rfl (AH (v:=(vN ((dg a.x).length))) (AE rfl Tryz.underlying71) rfl (AH (Ad (c:=(decide (i<((dg a.x).length)))) rfl rfl (CB (a:=i) (b:=(dg a.x).length))) rfl ?_)))))
  refine AD.nil (AC.subF (sL [0,2,4,3,13] rfl) (AC.then_ ?_))
  refine AF.cond rfl (λhc1=>?_) (λhc1=>?_)
  ·replace hc1:=of_decide_eq_true hc1
   have hs:s=En (4*i) a.x:=(hj.resolve_right (by omega)).2
   have gd:=Fg a.x i
   refine AF.skip (q1 (AF.block (q4 (AJ rfl (AJ rfl ?_)))))
   refine AH (v:=(pP (pB a.p) (pO a.p+i*1))) (AL (j:=i) rfl rfl a.ok Tryz.underlying71 Tryz.sizeOf3 rfl (by omega)) rfl (AH (AZ (v:=(vN ((dg a.x).getD i 0))) (i:=0) rfl rfl (a.ok.ne (by omega)) Be (C8 (ds:=dg a.x) (j:=i) (by omega))) rfl (asg' rfl (q3 (sL [0,2,4,3,5] rfl) (asg' rfl (AD.nil ?_)))))
   refine AC.then_ (AF.block ?_)
   refine AF.lp3 (tg λ(d:Nat) (k:Nat) (s2:List UInt8)=>k<=4/\d=(dg a.x).getD i 0/10^k/\s2=En (4*i+k) a.x/\(i+1=(dg a.x).length->k=0\/(dg a.x).getD i 0/10^(k-1)≠0)) (tg λ(d:Nat) (k:Nat) (s2:List UInt8)=>[(0,(nV a)),(2,(Value.string (ByteArray.mk #[]))),(4,(vN i)),(5,(vN d)),(6,(vN k)),(3,(Value.string (txB s2)))]) (tg λ(d:Nat) (k:Nat) (s2:List UInt8)=>[nA a]) (tg λ(d:Nat) (k:Nat) (s2:List UInt8)=>4-k) ((dg a.x).getD i 0) 0 s (⟨by omega,by simp,by rw [hs];rfl,λ_=>.inl rfl⟩) (sF rfl) sr (λd k s2 hJ=>?_)
   obtain ⟨hk4,hd,hs2,hnz⟩:=hJ
   have hdl:d<=(dg a.x).getD i 0:=by rw [hd];exact Nat.div_le_self _ _
   refine AF.seq (q4 (AJ rfl (AH (Ad (c:=(decide (k<4))) rfl rfl (CB (a:=k) (b:=4))) rfl (AJ rfl ?_))))
   refine AD.mid (FM:=[(0,(nV a)),(2,(Value.string (ByteArray.mk #[]))),(4,(vN i)),(5,(vN d)),(6,(vN k)),(3,(Value.string (txB s2))),(20,(vN k)),(21,(Value.bool (decide (k<4)))),(22,(Value.bool (decide (k<4)))),(32,(Value.bool ((decide (k<4))&&((decide ((i+1)<((dg a.x).length)))||(decide (0<d))))))]) (LM:=[nA a]) 10 ?_ ?_
   ·rcases Bool.eq_false_or_eq_true (decide (k<4)) with hg1|hg1
    ·skip
     refine AD.retell (k:=22) (u:=Value.bool true) rfl (by rw [hg1]) ?_
     have hg1':=hg1
     replace hg1':=of_decide_eq_true hg1'
     refine AD.step (v:=(vN i)) (AB rfl) (Ai rfl) rfl (AY rfl) (AD.step (v:=(vN (i+1))) (AB rfl) (AW (c:=((i+1:Nat):Int)) rfl rfl (AR (a:=i) (b:=1) (by omega))) rfl (AY rfl) (AD.step (v:=(nV a)) (AB rfl) (Ai rfl) rfl (AY rfl) (AD.step (v:=(vN ((dg a.x).length))) (AB rfl) (AE rfl Tryz.underlying71) rfl (AY rfl) (AD.step (v:=(Value.bool (decide ((i+1)<((dg a.x).length))))) (AB rfl) (Ad (c:=(decide ((i+1)<((dg a.x).length)))) rfl rfl (CB (a:=i+1) (b:=(dg a.x).length))) rfl (AY rfl) (AD.step (v:=(Value.bool (decide ((i+1)<((dg a.x).length))))) (AB rfl) (Ai rfl) rfl (AY rfl) ?_)))))
     refine AD.mid (FM:=[(0,(nV a)),(2,(Value.string (ByteArray.mk #[]))),(4,(vN i)),(5,(vN d)),(6,(vN k)),(3,(Value.string (txB s2))),(20,(vN k)),(21,(Value.bool (decide (k<4)))),(22,(Value.bool true)),(23,(vN i)),(24,(vN (i+1))),(25,(nV a)),(26,(vN ((dg a.x).length))),(27,(Value.bool (decide ((i+1)<((dg a.x).length))))),(28,(Value.bool (decide ((i+1)<((dg a.x).length))))),(31,(Value.bool ((decide ((i+1)<((dg a.x).length)))||(decide (0<d)))))]) (LM:=[nA a]) 3 ?_ ?_
     ·rcases Bool.eq_false_or_eq_true (decide ((i+1)<((dg a.x).length))) with hg2|hg2
      ·skip
       refine AD.retell (k:=28) (u:=Value.bool true) rfl (by rw [hg2]) ?_
       have hg2':=hg2
       replace hg2':=of_decide_eq_true hg2'
       exact AD.skip (AG rfl) rfl (AY rfl) (AD.skip (AG rfl) rfl (AY rfl) (AD.step (v:=(Value.bool true)) (AB rfl) (AT rfl rfl) rfl (AY rfl) (AD.nil (AC.mid (sS rfl (sS rfl (sS rfl (sS rfl (sS rfl (sS rfl (sS rfl (sS rfl (sS rfl (sS rfl (sS rfl (sS rfl (sS rfl (sS rfl (sS (by first|rfl|(rw [hg2];rfl)|rw [hg2]) (sS (by first|rfl|(rw [hg2];rfl)|rw [hg2]) (sN))))))))))))))))) (List.Sublist.refl _)))))
      ·skip
       refine AD.retell (k:=28) (u:=Value.bool false) rfl (by rw [hg2]) ?_
       have hg2':=hg2
       replace hg2':=of_decide_eq_false hg2'
       exact AD.step (v:=(vN d)) (AB rfl) (Ai rfl) rfl (AY rfl) (AD.step (v:=(Value.bool (decide (0<d)))) (AB rfl) (Bg (c:=(decide (0<d))) rfl rfl (CB (a:=0) (b:=d))) rfl (AY rfl) (AD.step (v:=(Value.bool (decide (0<d)))) (AB rfl) (AV rfl rfl) rfl (AY rfl) (AD.nil (AC.mid (sS rfl (sS rfl (sS rfl (sS rfl (sS rfl (sS rfl (sS rfl (sS rfl (sS rfl (sS rfl (sS rfl (sS rfl (sS rfl (sS rfl (sS (by first|rfl|(rw [hg2];rfl)|rw [hg2]) (sS (by first|rfl|(rw [hg2];rfl)|rw [hg2]) (sN))))))))))))))))) (List.Sublist.refl _)))))
     exact AH (v:=(Value.bool ((decide ((i+1)<((dg a.x).length)))||(decide (0<d))))) (AT rfl rfl) rfl (AD.nil (AC.mid (sS rfl (sS rfl (sS rfl (sS rfl (sS rfl (sS rfl (sS rfl (sS rfl (sS (by first|rfl|(rw [hg1];rfl)|rw [hg1]) (sS (by first|rfl|(rw [hg1];rfl)|rw [hg1]) (sN))))))))))) (List.Sublist.refl _)))
    ·skip
     refine AD.retell (k:=22) (u:=Value.bool false) rfl (by rw [hg1]) ?_
     have hg1':=hg1
     replace hg1':=of_decide_eq_false hg1'
     refine AD.skip (AG rfl) rfl (AY rfl) (AD.skip (AG rfl) rfl (AY rfl) (AD.skip (AG rfl) rfl (AY rfl) (AD.skip (AG rfl) rfl (AY rfl) (AD.skip (AG rfl) rfl (AY rfl) (AD.skip (AG rfl) rfl (AY rfl) ?_)))))
     exact AD.skip (Bi rfl rfl rfl) rfl (AY rfl) (AD.skip (Bi rfl rfl rfl) rfl (AY rfl) (AD.skip (AG rfl) rfl (AY rfl) (AH (v:=(Value.bool false)) (AV rfl rfl) rfl (AD.nil (AC.mid (sS rfl (sS rfl (sS rfl (sS rfl (sS rfl (sS rfl (sS rfl (sS rfl (sS (by first|rfl|(rw [hg1];rfl)|rw [hg1]) (sS (by first|rfl|(rw [hg1];rfl)|rw [hg1]) (sN))))))))))) (List.Sublist.refl _))))))
   refine AD.nil (AC.subF (sL [0,2,4,5,6,3,32] rfl) (AC.then_ ?_))
   refine AF.cond rfl (λhc2=>?_) (λhc2=>?_)
   ·simp only [Bool.and_eq_true,Bool.or_eq_true,Bool.and_eq_false_iff,Bool.or_eq_false_iff,Bool.not_eq_true',Bool.not_eq_false',decide_eq_true_eq,decide_eq_false_iff_not] at hc2
    refine AF.skip (q1 (AF.block (q4 (AJ rfl (AH (Cg (c:=((d%10:Nat):Int)) rfl rfl (by omega) (K7 (a:=d) (b:=10))) rfl ?_)))))
    refine AH (AW (c:=((48+(d%10):Nat):Int)) rfl rfl (AR (a:=48) (b:=d%10) (by omega))) rfl (AH (Au (c:=((48+(d%10):Nat):Int)) rfl Tryz.underlying3 Tryz.underlying5 (MH (by omega))) rfl (AH (v:=(Value.string (txB [UInt8.ofNat (48+d%10)]))) (NG (a:=48+d%10) rfl Tryz.underlying5 Tryz.underlying9 (by omega)) rfl (AJ rfl (AH (v:=(Value.string (txB (En (4*i+(k+1)) a.x)))) (CH (r:=(txB (En (4*i+(k+1)) a.x))) rfl rfl (by rw [C7,C7,hs2,MI];simp;omega) (by rw [hs2];exact TW hc2.1 hd)) rfl (asg' rfl ?_)))))
    refine AD.nil (AC.subF (sL [0,2,4,5,6,3] rfl) (AC.then_ (AF.region (AJ rfl (AH (EA (c:=((d/10:Nat):Int)) rfl rfl (by omega) (ED (a:=d) (b:=10) (by omega))) rfl ?_)))))
    refine asg' rfl (AD.nil (AC.subF (sL [0,2,4,5,6,3] rfl) (AC.in_normal (AC.then_ (AF.region ?_)))))
    exact AJ rfl (AH (AW (c:=((k+1:Nat):Int)) rfl rfl (AR (a:=k) (b:=1) (by omega))) rfl (asg' rfl (AD.nil (AC.subF (sL [0,2,4,5,6,3] rfl) (AC.round3 (d/10) (k+1) (En (4*i+(k+1)) a.x) (⟨by omega,by rw [hd,Nat.div_div_eq_div_mul,<-Nat.pow_succ],rfl,λh=>.inr (by rw [Nat.add_sub_cancel,<-hd];omega)⟩) (by omega) (sF rfl) sr)))))
   ·simp only [Bool.and_eq_true,Bool.or_eq_true,Bool.and_eq_false_iff,Bool.or_eq_false_iff,Bool.not_eq_true',Bool.not_eq_false',decide_eq_true_eq,decide_eq_false_iff_not] at hc2
    have hout:i+1<(dg a.x).length/\s2=En (4*(i+1)) a.x\/i+1=(dg a.x).length/\s2=Lib.decDigits a.x:=by
        rcases Nat.lt_or_ge (i+1) (dg a.x).length with h|h
        ·exact .inl ⟨h,by rw [hs2,show k=4 by omega];rfl⟩
        ·exact .inr ⟨by omega,by rw [hs2];exact TO hx0 (by omega) hk4 hd (hnz (by omega)) (by omega)⟩
    refine AF.exit (AC.then_exit (AC.round3_exit (AC.in_exit (AC.in_normal (AC.then_ ?_)))))
    exact AF.region (AJ rfl (AH (AW (c:=((i+1:Nat):Int)) rfl rfl (AR (a:=i) (b:=1) (by omega))) rfl (asg' rfl (AD.nil (AC.subF (sL [0,2,4,5,6,3] rfl) (AC.round2 (i+1) s2 (hout) (by omega) (sF rfl) sr))))))
  ·replace hc1:=of_decide_eq_false hc1
   have hs:s=Lib.decDigits a.x:=(hj.resolve_left (by omega)).2
   refine AF.exit (AC.then_exit (AC.round2_exit (AC.in_exit (q2 (AJ rfl ?_)))))
   exact asg' rfl (AD.nil (AC.subF (sL [0,2,4,3] rfl) (AC.then_ (AF.ret (AN rfl (AQ (v:=(Value.string (txB s))) rfl) (λw hw=>⟨by rw [hs],hw.out⟩))))))
end
section
set_option maxRecDepth 100000
end
end Go.Proofs.YtpgncndhhhllfaaGreatDoor
