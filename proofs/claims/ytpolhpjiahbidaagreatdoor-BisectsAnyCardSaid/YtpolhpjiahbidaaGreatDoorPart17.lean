import Derived.Test.YtpolhpjiahbidaaGreatDoorPart16
namespace Go.Proofs.YtpolhpjiahbidaaGreatDoor
open Go Go.RowKit Go.Proofs.Tryz
open Go.Value renaming slice→qw,bool→qa
set_option linter.unusedVariables false
set_option linter.unusedSimpArgs false
section
set_option maxRecDepth 100000
theorem bu:Ou prog 79 3 (vN 0) 8:=⟨underlying79,_,_,rfl,rfl,rfl,rfl,rfl⟩
theorem Pw (a:NV) (k:Nat) (hk:k<=1099511627776) (hla:(dg a.x).length<=1099511627776) (hv:a.x/10000^k<9223372036854775808) (w:World) (ha:Holds w (nA a)):Calls prog 245 #[(nV a),(vN k)] w (Ak w (vN (a.x/10000^k))):=by
 refine AX (args:=[(nV a),(vN k)]) (L:=[nA a]) func245 O O (Av O) (CO O ha (Ah)) (zN (sL [0,1] O) (q4 (asg' O (oNl' (q2 (asg' O (oNl' (q1 (q4 (AM O (AG (v:=(vN ((dg a.x).length))) (AC O underlying79) O ?_)))))))))))
 refine AG (BY (c:=((((dg a.x).length:Nat):Int)-1)) O O (BP Z Z)) O (asg' O (oNl' (zB (sL [0,1,4,5,6] O) (zA (zI ?_)))))
 refine yA (tg λ(n:Nat) (j:Nat)=>j<=(dg a.x).length/\(k<=j\/j=(dg a.x).length)/\n=a.x/10000^j) (tg λ(n:Nat) (j:Nat)=>[(0,(nV a)),(1,(vN k)),(4,(vI 0)),(5,(vN n)),(6,(vI (((j:Nat):Int)-1)))]) (tg λ(n:Nat) (j:Nat)=>[nA a]) (tg λ(n:Nat) (j:Nat)=>j) 0 ((dg a.x).length) (⟨Nat.le_refl _,.inr O,(Vb a.x).symm⟩) (sF O) sr (λn j hJ=>?_)
 obtain ⟨hm,hkj,hn⟩:=hJ
 refine zV (q4 (AM O (AM O (AG (Bp (c:=(decide (((k:Nat):Int)<=(((j:Nat):Int)-1)))) O O O) O (oNl' (zB (sL [0,1,4,5,6,12] O) (zA ?_)))))))
 refine zM O (λhc0=>?_) (λhc0=>?_)
 ·replace hc0:=xR hc0
  have hj1:1<=j:=by omega
  have hst:=Sx a.x (j-1)
  rw [Nat.sub_add_cancel hj1,<-hn] at hst
  have hle:=LP a.x (show k<=j-1 by omega)
  refine yF (k:=6) (u:=(vN (j-1))) O (by show Value.int _ _=Value.int _ _;congr 1;omega) (zG (q1 (zI (zH (AM O (AG (EV (c:=((10000*n:Nat):Int)) O O (GC (a:=10000) (b:=n) Z)) O (AM O (AM O (AG (v:=(pP (pB a.p) (pO a.p+(j-1)*1))) (AF (j:=j-1) O O a.ok underlying79 sizeOf3 O Z) O (AG (AK (v:=(vN ((dg a.x).getD (j-1) 0))) (i:=0) O O (a.ok.ne Z) BN (EA (ds:=dg a.x) (j:=j-1) Z)) O (AG (AW (c:=(((10000*n)+((dg a.x).getD (j-1) 0):Nat):Int)) O O (AU (a:=10000*n) (b:=(dg a.x).getD (j-1) 0) Z)) O ?_)))))))))))
  exact asg' O (oNl' (zB (sL [0,1,4,5,6] O) (zJ (zA (zH (AM O (AG (BY (c:=(((j-1:Nat):Int)-1)) O O (BP Z Z)) O (asg' O (oNl' (zB (sL [0,1,4,5,6] O) (zn ((10000*n)+((dg a.x).getD (j-1) 0)) (j-1) (⟨Z,Z,Z⟩) Z (sF O) sr)))))))))))
 ·replace hc0:=xQ hc0
  have hfin:n=a.x/10000^k:=PA hn hkj Z
  exact zU (zP (zi (zS (q2 (AM O (asg' O (oNl' (zB (sL [0,1,4,5,6] O) (zA (zF (ret_one O (rd_tmp (v:=(vN n)) O) (λw hw=>⟨by rw [hfin],hw.out⟩))))))))))))
theorem Nt (a b:NV) (hla:(dg a.x).length<=549755813888) (hlb:(dg b.x).length<=549755813888) (w:World) (ha:Holds w (nA a)) (hb:Holds w (nA b)):Calls prog 162 #[(nV a),(nV b)] w (HP w [] (a.x*b.x)):=by
 refine AX (args:=[(nV a),(nV b)]) (L:=[nA a,nA b]) func162 O O (Av O) (CO O ha (CO O hb (Ah))) (zN (sL [0,1] O) (q4 (asg' O (oNl' (q2 (AM O (AG (v:=(vN ((dg a.x).length))) (AC O underlying79) O (AM O (AG (v:=(vN ((dg b.x).length))) (AC O underlying79) O (AG (AW (c:=((((dg a.x).length)+((dg b.x).length):Nat):Int)) O O (AU (a:=(dg a.x).length) (b:=(dg b.x).length) Z)) O (y4 (m:=((dg a.x).length)+((dg b.x).length)) bu O O Z O O λb1 ho_b1=>?_)))))))))))
 refine asg' O (q6 (sL [0,1,4,5] O) (q4 (asg' O (oNl' (zA (zI ?_))))))
 refine yA (tg λ(i:Nat) (ds:List Nat)=>J3 ds/\(dg a.x).length+(dg b.x).length=ds.length/\i<=(dg a.x).length/\val10 ds=val10 ((dg a.x).take i)*b.x) (tg λ(i:Nat) (ds:List Nat)=>[(0,(nV a)),(1,(nV b)),(4,jj),(5,(qw (jk b1) (((dg a.x).length)+((dg b.x).length)) (((dg a.x).length)+((dg b.x).length)))),(6,(vN i))]) (tg λ(i:Nat) (ds:List Nat)=>[rowW (jk b1) 3 1 ((dg a.x).length+(dg b.x).length) ((dg a.x).length+(dg b.x).length) (dgL ds),nA a,nA b]) (tg λ(i:Nat) (ds:List Nat)=>(dg a.x).length-i) 0 (List.replicate ((dg a.x).length+(dg b.x).length) 0) (⟨M8 _,by simp,xH _,by rw [Jw];simp [val10]⟩) (sF O) sr (λi ds hJ=>?_)
 obtain ⟨hdd,hk,hm,hv⟩:=hJ
 have ga:=Gr a.x i
 refine zV (q4 (AM O (AM O (AG (v:=(vN ((dg a.x).length))) (AC O underlying79) O (AG (Ae (c:=(decide (i<((dg a.x).length)))) O O (CM (a:=i) (b:=(dg a.x).length))) O (oNl' (zB (sL [0,1,4,5,6,19] O) (zA ?_))))))))
 refine zM O (λhc0=>?_) (λhc0=>?_)
 ·replace hc0:=xR hc0
  refine zG (q1 (zI (q4 (asg' O (oNl' (q2 (asg' O (oNl' (zA (zI ?_))))))))))
  refine yS (tg λ(cy:Nat) (k:Nat) (es:List Nat)=>J3 es/\(dg a.x).length+(dg b.x).length=es.length/\cy<10000/\(k<=(dg b.x).length\/k=(dg b.x).length+1/\cy=0)/\val10 es+10000^(i+k)*cy=val10 ds+10000^i*(dg a.x).getD i 0*val10 ((dg b.x).take k)) (tg λ(cy:Nat) (k:Nat) (es:List Nat)=>[(0,(nV a)),(1,(nV b)),(4,jj),(5,(qw (jk b1) (((dg a.x).length)+((dg b.x).length)) (((dg a.x).length)+((dg b.x).length)))),(6,(vN i)),(7,(vN cy)),(8,(vN k))]) (tg λ(cy:Nat) (k:Nat) (es:List Nat)=>[rowW (jk b1) 3 1 ((dg a.x).length+(dg b.x).length) ((dg a.x).length+(dg b.x).length) (dgL es),nA a,nA b]) (tg λ(cy:Nat) (k:Nat) (es:List Nat)=>(dg b.x).length+2-k) 0 0 ds (⟨hdd,hk,Z,.inl (xH _),by simp [val10]⟩) (sF O) sr (λcy k es hJ=>?_)
  obtain ⟨hee,hke,hcy,hme,hve⟩:=hJ
  have gb:=Gr b.x k
  have ge:=Xe hee (i+k)
  have hbd:=Tz ge ga gb hcy
  have hab:(dg a.x).getD i 0*(dg b.x).getD k 0<=9999*9999:=Nat.mul_le_mul Z Z
  refine zV (q4 (AM O (AM O (AG (v:=(vN ((dg b.x).length))) (AC O underlying79) O (AG (Ae (c:=(decide (k<((dg b.x).length)))) O O (CM (a:=k) (b:=(dg b.x).length))) O (AM O ?_))))))
  refine zX (FM:=[(0,(nV a)),(1,(nV b)),(4,jj),(5,(qw (jk b1) (((dg a.x).length)+((dg b.x).length)) (((dg a.x).length)+((dg b.x).length)))),(6,(vN i)),(7,(vN cy)),(8,(vN k)),(22,(vN k)),(23,(nV b)),(24,(vN ((dg b.x).length))),(25,(qa (decide (k<((dg b.x).length))))),(26,(qa (decide (k<((dg b.x).length))))),(29,(qa ((decide (k<((dg b.x).length)))||(decide (0<cy)))))]) (LM:=[rowW (jk b1) 3 1 ((dg a.x).length+(dg b.x).length) ((dg a.x).length+(dg b.x).length) (dgL es),nA a,nA b]) 3 ?_ ?_
  ·rcases xO (decide (k<((dg b.x).length))) with hg1|hg1
   ·refine zC (k:=26) (u:=qa true) O (by rw [hg1]) ?_
    have hg1':=xR hg1
    exact Ar O (Ar O (AG (v:=(qa true)) (AN O O) O (oNl' (zR Bg (xP _)))))
   ·refine zC (k:=26) (u:=qa false) O (by rw [hg1]) ?_
    have hg1':=xQ hg1
    exact Ds O (Au (v:=(qa (decide (0<cy)))) O (Bv (c:=(decide (0<cy))) O O (CM (a:=0) (b:=cy))) (AG (v:=(qa (decide (0<cy)))) (AI O O) O (oNl' (zR Bg (xP _)))))
  refine oNl' (zB (sL [0,1,4,5,6,7,8,29] O) (zA ?_))
  refine zM O (λhc1=>?_) (λhc1=>?_)
  ·simp only [jK] at hc1
   refine zG (q1 (zI (zV (CQ (Db 12++[(15,true),(12,false),(13,true),(14,true),(16,true),(17,true)]) sr (BT O (BT O (BT O (Aj O (AW (c:=((i+k:Nat):Int)) O O (AU (a:=i) (b:=k) Z)) (Aj (v:=(pP (pB (jk b1)) (pO (jk b1)+(i+k)*1))) O (AF (j:=i+k) O O ho_b1.row underlying79 sizeOf3 O Z) (Aj O (CH (v:=(vN (es.getD (i+k) 0))) (i:=0) O O ho_b1 (by simp [Ck];omega) (ho_b1.row.ne Z) BN (EA (ds:=es) (j:=i+k) Z)) (BT O ?_)))))))))))
   refine BT O (Aj (v:=(pP (pB a.p) (pO a.p+i*1))) O (AF (j:=i) O O a.ok underlying79 sizeOf3 O Z) (Aj O (AK (v:=(vN ((dg a.x).getD i 0))) (i:=1) O O (a.ok.ne Z) BN (EA (ds:=dg a.x) (j:=i) Z)) (BT O (BT O (BT O (zK O ?_))))))
   have hz1:=Gr b.x k
   refine Ct call212 (λw hw=>Np b k Z w (hw.holds (i:=2) O)) O (zD sr (Aj O (EV (c:=((((dg a.x).getD i 0)*((dg b.x).getD k 0):Nat):Int)) O O (GC (a:=(dg a.x).getD i 0) (b:=(dg b.x).getD k 0) Z)) (Aj O (AW (c:=(((es.getD (i+k) 0)+(((dg a.x).getD i 0)*((dg b.x).getD k 0)):Nat):Int)) O O (AU (a:=es.getD (i+k) 0) (b:=((dg a.x).getD i 0)*((dg b.x).getD k 0)) Z)) (Aj O (AW (c:=((((es.getD (i+k) 0)+(((dg a.x).getD i 0)*((dg b.x).getD k 0)))+cy:Nat):Int)) O O (AU (a:=(es.getD (i+k) 0)+(((dg a.x).getD i 0)*((dg b.x).getD k 0))) (b:=cy) Z)) (pS' O (zT (zB (sL [0,1,4,5,6,7,8,9] O) (q2 (AM O (AM O (AM O ?_)))))))))))
   refine AG (AW (c:=((i+k:Nat):Int)) O O (AU (a:=i) (b:=k) Z)) O (AM O (AG (Dh (c:=(((((es.getD (i+k) 0)+(((dg a.x).getD i 0)*((dg b.x).getD k 0)))+cy)%10000:Nat):Int)) O O Z (L6 (a:=((es.getD (i+k) 0)+(((dg a.x).getD i 0)*((dg b.x).getD k 0)))+cy) (b:=10000))) O (AG (v:=(pP (pB (jk b1)) (pO (jk b1)+(i+k)*1))) (AF (j:=i+k) O O ho_b1.row underlying79 sizeOf3 O Z) O (yq (j:=i+k) (v:=(vN ((((es.getD (i+k) 0)+(((dg a.x).getD i 0)*((dg b.x).getD k 0)))+cy)%10000))) O O ho_b1 (by simp [Ck];omega) Z O sizeOf3 O (R3 _ _ _) (oNl' (zB (sL [0,1,4,5,6,7,8,9] O) (zA (zH (AM O (AG (Fc (c:=(((((es.getD (i+k) 0)+(((dg a.x).getD i 0)*((dg b.x).getD k 0)))+cy)/10000:Nat):Int)) O O Z (Fb (a:=((es.getD (i+k) 0)+(((dg a.x).getD i 0)*((dg b.x).getD k 0)))+cy) (b:=10000) Z)) O (asg' O ?_)))))))))))
   refine oNl' (zB (sL [0,1,4,5,6,7,8,9] O) (zJ (zA (zH (AM O (AG (AW (c:=((k+1:Nat):Int)) O O (AU (a:=k) (b:=1) Z)) O (asg' O (oNl' (zB (sL [0,1,4,5,6,7,8,9] O) ?_)))))))))
   have hnx:k+1<=(dg b.x).length\/k+1=(dg b.x).length+1/\(es.getD (i+k) 0+(dg a.x).getD i 0*(dg b.x).getD k 0+cy)/10000=0:=by
            by_cases hkb:k<(dg b.x).length
            ·exact .inl Z
            ·obtain rfl:k=(dg b.x).length:=by omega
             refine .inr ⟨rfl,?_⟩
             rw [DO Z,Cx] at hve
             have h9:=U4 (hV:=XW a.x b.x i hv) hve
             rw [EO (show ¬(dg b.x).length<(dg b.x).length by omega),Nat.mul_zero,Nat.add_zero]
             omega
   exact yB ((((es.getD (i+k) 0)+(((dg a.x).getD i 0)*((dg b.x).getD k 0)))+cy)/10000) (k+1) (es.set (i+k) ((es.getD (i+k) 0+(dg a.x).getD i 0*(dg b.x).getD k 0+cy)%10000)) (⟨Su hee Z,by simpa using hke,Z,hnx,by rw [B8];exact RH Z hve O⟩) Z (sF O) sr
  ·simp only [jK] at hc1
   have hve2:val10 es=val10 ((dg a.x).take (i+1))*b.x:=by
        rw [show cy=0 by omega,DO Z,Cx,hv,Nat.mul_zero,Nat.add_zero] at hve
        rw [hve,B8,Nat.add_mul]
   exact zU (zP (zx (zS (zJ (zA (zH (AM O (AG (AW (c:=((i+1:Nat):Int)) O O (AU (a:=i) (b:=1) Z)) O (asg' O (oNl' (zB (sL [0,1,4,5,6,7,8] O) (zn (i+1) es (⟨hee,hke,Z,hve2⟩) Z (sF O) sr))))))))))))
 ·replace hc0:=xQ hc0
  have hfin:val10 ds=a.x*b.x:=by rw [hv,DO Z,Cx]
  exact zU (zP (zi (zS (q2 (AM O (Ct (args:=[(qw (jk b1) (((dg a.x).length)+((dg b.x).length)) (((dg a.x).length)+((dg b.x).length)))]) (v:=(qw (jk b1) ((dg (val10 ds)).length) (((dg a.x).length)+((dg b.x).length)))) call213 (λw hw=>(by have h9:=HX (jk b1) (((dg a.x).length)+((dg b.x).length)) ds hdd (by rw [<-hk];exact ho_b1.row) Z w (K_ (hw.holds (i:=0) O) ho_b1 hk);rw [<-hk] at h9;exact h9)) O (asg' O (oNl' (zB (sL [0,1,4,5,6] O) (zA (zF (ret_one O (rd_tmp (v:=(qw (jk b1) ((dg (val10 ds)).length) (((dg a.x).length)+((dg b.x).length)))) O) (λw hw=>VT hw (i:=0) O ho_b1 hk (by rw [<-hfin];exact F7 hdd) (by rw [hfin]))))))))))))))
end
section
set_option maxRecDepth 100000
theorem Xd {a b:Nat} (h:b<a):0<DZ a b:=by unfold DZ;rw [if_neg Z,if_neg Z];omega
theorem Wj {a b:Nat} (h:¬DZ a b<=0):b<a:=by
 unfold DZ at h
 split at h
 ·omega
 ·split at h<;>omega
theorem SV (a b:NV) (hb0:0<b.x) (hla:(dg a.x).length<=274877906944) (hlb:(dg b.x).length<=274877906944) (w:World) (ha:Holds w (nA a)) (hb:Holds w (nA b)):Calls prog 209 #[(nV a),(nV b)] w (Kl w [] [a.p.map (·.block)] (a.x/b.x) (a.x%b.x)):=by
 obtain ⟨k,hk⟩:∃k,k=(dg b.x).length-3:=⟨_,rfl⟩
 obtain ⟨tp,htp⟩:∃tp,tp=b.x/10000^k:=⟨_,rfl⟩
 have htb:=YJ b.x
 have htp1:=Rh hb0
 rw [<-hk] at htb htp1
 rw [<-htp] at htp1
 have htb2:=htb
 rw [<-htp] at htb2
 have hlb1:=(K4 hb0).2
 refine AX (args:=[(nV a),(nV b)]) (L:=[nA a,nA b]) func209 O O (Av O) (CO O ha (CO O hb (Ah))) (zN (sL [0,1] O) (q4 (asg' O (asg' O (oNl' (q1 (q4 (AM O (AM O (Ct call211 (λw hw=>Oe a b (by first|omega|(dsimp only;omega)) (by first|omega|(dsimp only;omega)) w (hw.holds (i:=0) O) (hw.holds (i:=1) O)) O (AG (Ae (c:=(decide ((DZ a.x b.x)<(0:Int)))) O O O) O ?_)))))))))))
 refine oNl' (zB (sL [0,1,4,5,18] O) (zA ?_))
 refine zM O (λhc0=>?_) (λhc0=>?_)
 ·replace hc0:=xR hc0
  rw [Fs] at hc0
  exact q4 (AM O (asg' O (asg' O (oNl' (zB (sL [0,1,4,5] O) (zA (zF (zO (Dq O (rd_tmp (v:=jj) O) (rd_tmp (v:=(nV a)) O) (λw hw=>(by rw [Nat.mod_eq_of_lt hc0];exact bM hw (Nat.div_eq_of_lt hc0) (k:=0) O)))))))))))
 ·replace hc0:=xQ hc0
  rw [Fs] at hc0
  have hlab:=IY (Nat.le_of_not_lt hc0)
  obtain ⟨m,hm1⟩:∃m,m=(dg a.x).length-(dg b.x).length+1:=⟨_,rfl⟩
  have hm:m+(dg b.x).length=(dg a.x).length+1:=by omega
  refine zG (q2 (AM O (AG (v:=(vN ((dg b.x).length))) (AC O underlying79) O (AG (BY (c:=((((dg b.x).length:Nat):Int)-3)) O O (BP Z Z)) O (AG (Eu (c:=((k:Nat):Int)) O O (by split<;>omega)) O (asg' O (q3 (sL [0,1,4,5,6] O) (AM O (AM O (Ct (args:=[(nV b),(vN k)]) (v:=(vN tp)) call245 (λw hw=>(by rw [htp];exact Pw b k Z (by first|omega|(dsimp only;omega)) (by first|omega|(dsimp only;omega)) w (hw.holds (i:=1) O))) O (asg' O ?_)))))))))))
  refine q3 (sL [0,1,4,5,6,7] O) (AM O (AG (v:=(vN ((dg a.x).length))) (AC O underlying79) O (AM O (AG (v:=(vN ((dg b.x).length))) (AC O underlying79) O (AG (BY (c:=(((m:Nat):Int)-1)) O O (by rw [BP Z Z];omega)) O (asg' O (q3 (sL [0,1,4,5,6,7,8] O) (AM O (AG (AW (c:=((m:Nat):Int)) O O (by rw [BP Z Z];omega)) O (y4 (m:=m) bu O O Z O O λb1 ho_b1=>asg' O ?_))))))))))
  refine q3 (sL [0,1,4,5,6,7,8,9] O) (zZ (V:=λb2=>(qw (jk b2) 0 0)) (T:=3) (cs:=[]) (AJ O) (Hg underlying79 sizeOf3) O (Av O) λb2=>yJ (z:=1) 0 O Z λho_b2=>AM O (AM O (AG (AW (c:=((m:Nat):Int)) O O (by rw [BP Z Z];omega)) O (AG (v:=(qw (be a.p m a.c 1) ((dg a.x).length-m) (a.c-m))) (Px (i:=m) O O underlying79 sizeOf3 Z a.ok.le) O (yl (cs2:=dgL (([])++(((dg a.x)).drop m))) (news:=dgL (((dg a.x)).drop m)) V0 O ho_b2 O O (aH (k:=2) O a.ok Z) (by simp [Ck]) (SZ _) (FD Z) Z (by rw [FT];rfl) O λp_1 c_1 ho_1=>y5 0 (X:=a.x/10000^m) O ho_1 jX (by rw [<-Se];exact (List.take_length).symm) O λhok0 hloc0=>zC (k:=40) (u:=(qw p_1 ((dg (a.x/10000^m)).length) c_1)) O (by rw [show 0+((dg a.x).length-m)=(dg (a.x/10000^m)).length by rw [<-Se];simp]) (asg' O (q6 (sL [0,1,4,5,6,7,8,9,10] O) ?_)))))))
  refine zI ?_
  refine yZ (tg λ(j:Nat) (qs:List Nat) (R:Nat) (p:Option Addr) (c:Nat)=>j<=m/\J3 qs/\m=qs.length/\val10 qs=10000^j*(a.x/10000^j/b.x)/\R=a.x/10000^j%b.x/\An p (dg R).length c/\Eb w [] p) (tg λ(j:Nat) (qs:List Nat) (R:Nat) (p:Option Addr) (c:Nat)=>[(0,(nV a)),(1,(nV b)),(4,jj),(5,jj),(6,(vN k)),(7,(vN tp)),(9,(qw (jk b1) m m)),(8,(vI (((j:Nat):Int)-1))),(10,(qw p ((dg R).length) c))]) (tg λ(j:Nat) (qs:List Nat) (R:Nat) (p:Option Addr) (c:Nat)=>[AB p (dgL (dg R)),rowW (jk b1) 3 1 m m (dgL qs),nA a,nA b]) (tg λ(j:Nat) (qs:List Nat) (R:Nat) (p:Option Addr) (c:Nat)=>j) m (List.replicate m 0) (a.x/10000^m) p_1 c_1 (⟨Nat.le_refl _,M8 _,by simp,by rw [Jw,Nat.div_eq_of_lt (P3 hb0 hm),Nat.mul_zero],(Nat.mod_eq_of_lt (P3 hb0 hm)).symm,hok0,hloc0⟩) (sF O) sr (λj qs R p c hJ=>?_)
  obtain ⟨hj,hdd,hk,hv,hR,hok,hloc⟩:=hJ
  refine zV (q4 (AM O (AG (Bp (c:=(decide ((0:Int)<=(((j:Nat):Int)-1)))) O O O) O (oNl' (zB (sL [0,1,4,5,6,7,9,8,10,42] O) (zA ?_))))))
  refine zM O (λhc1=>?_) (λhc1=>?_)
  ·replace hc1:=xR hc1
   have hj1:1<=j:=by omega
   obtain ⟨R1,hR1⟩:∃R1,R1=10000*R+(dg a.x).getD (j-1) 0:=⟨_,rfl⟩
   have hRb:R<b.x:=by rw [hR];exact Nat.mod_lt _ hb0
   have hd1:=Gr a.x (j-1)
   have hR1b:R1<10000*b.x:=by omega
   have hA:=Sx a.x (j-1)
   rw [Nat.sub_add_cancel hj1] at hA
   have hst:=RG hb0 hA hR hR1
   have hR1l:(dg R1).length<=(dg b.x).length+1:=by refine GM (Nat.lt_of_lt_of_le hR1b ?_);rw [Nat.pow_succ];have h8:=DR (Et b.x);rw [Cx] at h8;omega
   have hRl:=IY (Nat.le_of_lt hRb)
   have hd9:J3 ([(dg a.x).getD (j-1) 0]++dg R):=λe he=>(List.mem_append.1 he).elim (λh=>by rw [xM.1 h];omega) (λh=>Et R e h)
   have hv9:val10 ([(dg a.x).getD (j-1) 0]++dg R)=R1:=by rw [List.singleton_append,val10,Cx];omega
   have hk9:1+(dg R).length=([(dg a.x).getD (j-1) 0]++dg R).length:=by simp [Nat.add_comm]
   obtain ⟨f,hf⟩:∃f,f=R1/10000^k:=⟨_,rfl⟩
   have hfb:=TS hR1b htb
   rw [<-hf] at hfb
   obtain ⟨q,hq⟩:∃q,q=R1/b.x:=⟨_,rfl⟩
   have hq1:q<=9999:=by have:=(Nat.div_lt_iff_lt_mul hb0).2 hR1b;omega
   have hqR:b.x*q<=R1:=by rw [hq];exact Nat.mul_div_le _ _
   have hlow:f/(tp+1)<=q:=by rw [hf,htp,hq];exact Xh hb0
   have hhigh:q<=f/tp:=by rw [hf,htp,hq];exact Uf (by rw [<-htp];exact htp1)
   have hf2:f/(tp+1)<=f:=Nat.div_le_self _ _
   refine yF (k:=8) (u:=(vN (j-1))) O (by show Value.int _ _=Value.int _ _;congr 1;omega) (zG (q1 (zI (q4 (AM O (AM O (AG (v:=(pP (pB a.p) (pO a.p+(j-1)*1))) (AF (j:=j-1) O O a.ok underlying79 sizeOf3 O Z) O (AG (AK (v:=(vN ((dg a.x).getD (j-1) 0))) (i:=2) O O (a.ok.ne Z) BN (EA (ds:=dg a.x) (j:=j-1) Z)) O (zZ (V:=λb3=>(qw (jk b3) 1 1)) (T:=3) (cs:=[(vN ((dg a.x).getD (j-1) 0))]) (AJ O) (Af (cs:=[(vN ((dg a.x).getD (j-1) 0))]) (pv:=[(0,(vN ((dg a.x).getD (j-1) 0)))]) underlying79 sizeOf3 zeroValue3 jY jY O jV) O (Av O) λb3=>yJ (z:=1) 1 O Z λho_b3=>AM O ?_)))))))))
   refine yl (cs2:=dgL (([(dg a.x).getD (j-1) 0])++(dg R))) (news:=dgL (dg R)) V0 O ho_b3 O O (JV (k:=1) O hok) (by simp [Ck]) (SZ _) (FD Z) Z (by rw [FT];rfl) O λp_2 c_2 ho_2=>Ct (args:=[(qw p_2 (1+((dg R).length)) c_2)]) (v:=(qw p_2 ((dg R1).length) c_2)) call213 (λw hw=>(by have h9:=HX p_2 c_2 (([(dg a.x).getD (j-1) 0])++(dg R)) hd9 (by rw [<-hk9];exact ho_2.row) (by simp;omega) w (K_ (hw.holds (i:=0) O) ho_2 hk9);rw [hv9,<-hk9] at h9;exact h9)) O (y5 0 (X:=R1) O ho_2 hk9 (by rw [<-hv9];exact F7 hd9) O λhok1 hloc1=>asg' O (q3 (sL [0,1,4,5,6,7,9,8,10] O) (AM O (AM O (Ct (args:=[(qw p_2 ((dg R1).length) c_2),(vN k)]) (v:=(vN f)) call245 (λw hw=>(by rw [hf];exact Pw (NV.mk p_2 c_2 R1 hok1) k Z (by first|omega|(dsimp only;omega)) (by first|omega|(dsimp only;omega)) w (hw.holds (i:=0) O))) O (asg' O (q6 (sL [0,1,4,5,6,7,9,8,10,11] O) (CQ (Db 10) sr (BT O ?_)))))))))
   refine BT O (Aj O (AW (c:=((tp+1:Nat):Int)) O O (AU (a:=tp) (b:=1) Z)) (Aj O (Fc (c:=((f/(tp+1):Nat):Int)) O O Z (Fb (a:=f) (b:=tp+1) Z)) (BT O (BT O (Aj O (Fc (c:=((f/tp:Nat):Int)) O O Z (Fb (a:=f) (b:=tp) Z)) (Aj O (FS (c:=((min (f/tp) 9999:Nat):Int)) O O (by split<;>omega)) (pS' O (pS' O (zT (zB (sL [0,1,4,5,6,7,9,8,10,12,13] O) (q1 ?_)))))))))))
   refine zI ?_
   refine yA (tg λ(lo:Nat) (hi:Nat)=>lo<=q/\q<=hi/\hi<=9999) (tg λ(lo:Nat) (hi:Nat)=>[(0,(nV a)),(1,(nV b)),(4,jj),(5,jj),(6,(vN k)),(7,(vN tp)),(9,(qw (jk b1) m m)),(8,(vN (j-1))),(10,(qw p_2 ((dg R1).length) c_2)),(12,(vN lo)),(13,(vN hi))]) (tg λ(lo:Nat) (hi:Nat)=>[AB p_2 (dgL (dg R1)),AB p (dgL (dg R)),rowW (jk b1) 3 1 m m (dgL qs),nA a,nA b]) (tg λ(lo:Nat) (hi:Nat)=>hi-lo) (f/(tp+1)) (min (f/tp) 9999) (⟨hlow,Z,Z⟩) (sF O) sr (λlo hi hJ=>?_)
   obtain ⟨hlo,hhi,hh9⟩:=hJ
   refine zV (q4 (AM O (AM O (AG (Ae (c:=(decide (lo<hi))) O O (CM (a:=lo) (b:=hi))) O (oNl' (zB (sL [0,1,4,5,6,7,9,8,10,12,13,66] O) (zA ?_)))))))
   refine zM O (λhc2=>?_) (λhc2=>?_)
   ·replace hc2:=xR hc2
    refine zG (zA (zI (q4 (AM O (AM O (AG (AW (c:=((lo+hi:Nat):Int)) O O (AU (a:=lo) (b:=hi) Z)) O (AG (AW (c:=(((lo+hi)+1:Nat):Int)) O O (AU (a:=lo+hi) (b:=1) Z)) O (AG (Fc (c:=((((lo+hi)+1)/2:Nat):Int)) O O Z (Fb (a:=(lo+hi)+1) (b:=2) Z)) O (asg' O (q3 (sL [0,1,4,5,6,7,9,8,10,12,13,14] O) (AM O ?_)))))))))))
    refine AM O (AG (A9 (c:=((((lo+hi)+1)/2:Nat):Int)) O underlying3 underlying69 (BV Z)) O (yj (args:=[(vK .u64 (((lo+hi)+1)/2))]) call207 (λw hw=>Qr (((lo+hi)+1)/2) Z w) Qh O O O λv1 hv1 lv1=>?_))
    have hlv1:(dg v1.x).length<=1:=GM Z
    refine yj (args:=[(nV b),(nV v1)]) call162 (λw hw=>Nt b v1 (by first|omega|(dsimp only;omega)) (by first|omega|(dsimp only;omega)) w (hw.holds (i:=5) O) (hw.holds (i:=0) O)) Qh O O O λv2 hv2 lv2=>?_
    have hlv2:(dg v2.x).length<=(dg b.x).length+1:=by refine GM ?_;rw [hv2,Nat.pow_succ];have h8:=DR (Et b.x);rw [Cx] at h8;exact Nat.mul_lt_mul_of_lt_of_le h8 Z Z
    refine AM O (Ct call211 (λw hw=>Oe v2 (NV.mk p_2 c_2 R1 hok1) (by first|omega|(dsimp only;omega)) (by first|omega|(dsimp only;omega)) w (hw.holds (i:=0) O) (hw.holds (i:=2) O)) O (AG (Gi (c:=(decide ((DZ v2.x R1)<=(0:Int)))) O O O) O (oNl' (zB (sL [0,1,4,5,6,7,9,8,10,12,13,14,79] O) (zA ?_)))))
    refine zM O (λhc3=>?_) (λhc3=>?_)
    ·replace hc3:=xR hc3
     have hmq:(lo+hi+1)/2<=q:=by rw [hq];refine (Nat.le_div_iff_mul_le hb0).2 ?_;rw [Nat.mul_comm,<-hv1,<-hv2];exact Nat.le_of_not_lt λh=>by have h8:=Xd h;omega
     exact zH (AM O (asg' O (oNl' (zB (sL [0,1,4,5,6,7,9,8,10,12,13,14] O) (zJ (zn (((lo+hi)+1)/2) hi (⟨Z,Z,Z⟩) Z (sF O) (sl (sl sr))))))))
    ·replace hc3:=xQ hc3
     have hmq:q<(lo+hi+1)/2:=by rw [hq];refine (Nat.div_lt_iff_lt_mul hb0).2 ?_;rw [Nat.mul_comm,<-hv1,<-hv2];exact Wj Z
     exact zH (AM O (AG (BY (c:=(((((lo+hi)+1)/2)-1:Nat):Int)) O O (CN (a:=((lo+hi)+1)/2) (b:=1) Z Z)) O (asg' O (oNl' (zB (sL [0,1,4,5,6,7,9,8,10,12,13,14] O) (zJ (zn lo ((((lo+hi)+1)/2)-1) (⟨Z,Z,Z⟩) Z (sF O) (sl (sl sr)))))))))
   ·replace hc2:=xQ hc2
    have hlq:lo=q:=by omega
    refine zU (zP (zi (zS (q2 (AM O (AM O (AM O (AG (v:=(pP (pB (jk b1)) (pO (jk b1)+(j-1)*1))) (AF (j:=j-1) O O ho_b1.row underlying79 sizeOf3 O Z) O (AL.storeRow2 (j:=j-1) (v:=(vN lo)) O O ho_b1 (by simp [Ck];omega) Z O sizeOf3 O (R3 _ _ _) (oNl' (zB (sL [0,1,4,5,6,7,9,8,10,12,13] O) ?_)))))))))))
    refine zA (zH (AM O (AM O (AM O (AG (A9 (c:=((lo:Nat):Int)) O underlying3 underlying69 (BV Z)) O (yj (args:=[(vK .u64 lo)]) call207 (λw hw=>Qr lo Z w) Qh O O O λv3 hv3 lv3=>?_))))))
    have hlv3:(dg v3.x).length<=1:=GM Z
    refine yj (args:=[(nV b),(nV v3)]) call162 (λw hw=>Nt b v3 (by first|omega|(dsimp only;omega)) (by first|omega|(dsimp only;omega)) w (hw.holds (i:=5) O) (hw.holds (i:=0) O)) Qh O O O λv4 hv4 lv4=>?_
    have hlv4:(dg v4.x).length<=(dg b.x).length+1:=by refine GM ?_;rw [hv4,Nat.pow_succ];have h8:=DR (Et b.x);rw [Cx] at h8;exact Nat.mul_lt_mul_of_lt_of_le h8 Z Z
    have hv4R:v4.x<=R1:=by rw [hv4,hv3,hlq];exact hqR
    exact yj (args:=[(qw p_2 ((dg R1).length) c_2),(nV v4)]) call210 (λw hw=>SO (NV.mk p_2 c_2 R1 hok1) v4 hv4R (by first|omega|(dsimp only;omega)) w (hw.holds (i:=2) O) (hw.holds (i:=0) O)) Qh O O O λv5 hv5 lv5=>asg' O (oNl' (zB (sL [0,1,4,5,6,7,9,8,10,12,13] O) (zJ (zA (zH (AM O (AG (BY (c:=(((j-1:Nat):Int)-1)) O O (BP Z Z)) O (asg' O (oNl' (zB (sL [0,1,4,5,6,7,9,8,10,12,13] O) (yK (j-1) (qs.set (j-1) lo) v5.x v5.p v5.c (⟨Z,Su hdd Z,by simpa using hk,TA hdd hk hj1 hj hv (by rw [hlq,hq];exact hst.1),by rw [hv5,hv4,hv3,hlq,hst.2,hq];exact Nat.sub_eq_of_eq_add (Nat.mod_add_div _ _).symm,v5.ok,lv5⟩) Z (sF O) (sk (sl (sl (sl (sl sr))))))))))))))))
  ·replace hc1:=xQ hc1
   obtain rfl:j=0:=by omega
   have hfin:val10 qs=a.x/b.x:=by rw [hv];simp
   have hfin2:R=a.x%b.x:=by rw [hR];simp
   refine zU (zP (z8 (zS (q2 (AM O (Ct (args:=[(qw (jk b1) m m)]) (v:=(qw (jk b1) ((dg (val10 qs)).length) m)) call213 (λw hw=>(by have h9:=HX (jk b1) m qs hdd (by rw [<-hk];exact ho_b1.row) Z w (K_ (hw.holds (i:=1) O) ho_b1 hk);rw [<-hk] at h9;exact h9)) O (AM O (asg' O (asg' O (oNl' (zB (sL [0,1,4,5,6,7,9,8,10] O) ?_)))))))))))
   exact zA (zF (Dq O (rd_tmp (v:=(qw (jk b1) ((dg (val10 qs)).length) m)) O) (rd_tmp (v:=(qw p ((dg R).length) c)) O) (λw hw=>cJ hw (i:=1) (k:=0) O ho_b1 hk (by rw [<-hfin];exact F7 hdd) (by rw [hfin]) (by rw [<-hfin2];rfl) (by rw [<-hfin2];exact hok) hloc (by rw [<-hfin2]))))
theorem Yq (a b:NV) (hla:(dg a.x).length<=274877906944) (hlb:(dg b.x).length<=274877906944) (w:World) (ha:Holds w (nA a)) (hb:Holds w (nA b)):Calls prog 208 #[(nV a),(nV b)] w (HP w [a.p.map (·.block),b.p.map (·.block)] (Nat.gcd a.x b.x)):=by
 refine AX (args:=[(nV a),(nV b)]) (L:=[nA b,nA a]) func208 O O (Av O) (CO O hb (CO O ha (Ah))) (zN (sL [0,1] O) (q4 (asg' O (oNl' (q1 (zI ?_))))))
 refine yA (tg λ(u:NV) (v:NV)=>Nat.gcd u.x v.x=Nat.gcd a.x b.x/\(dg u.x).length<=274877906944/\(dg v.x).length<=274877906944/\Eb w [a.p.map (·.block),b.p.map (·.block)] u.p/\Eb w [a.p.map (·.block),b.p.map (·.block)] v.p) (tg λ(u:NV) (v:NV)=>[(4,jj),(0,(nV u)),(1,(nV v))]) (tg λ(u:NV) (v:NV)=>[nA v,nA u]) (tg λ(u:NV) (v:NV)=>v.x) a b (⟨rfl,hla,hlb,λs e=>.inr (by rw [<-e];exact List.mem_cons_self),λs e=>.inr (by rw [<-e];exact List.mem_cons_of_mem _ List.mem_cons_self)⟩) (sF O) sr (λu v hJ=>?_)
 obtain ⟨hg,hlu,hlv,hu,hv⟩:=hJ
 refine zV (q4 (AM O (AG (v:=(vN ((dg v.x).length))) (AC O underlying79) O (AG (Bv (c:=(decide (0<((dg v.x).length)))) O O (CM (a:=0) (b:=(dg v.x).length))) O (oNl' (zB (sL [4,0,1,9] O) (zA ?_)))))))
 refine zM O (λhc0=>?_) (λhc0=>?_)
 ·replace hc0:=xR hc0
  have hv0:0<v.x:=by
     rcases Nat.eq_zero_or_pos v.x with h|h
     ·rw [h] at hc0;exact absurd hc0 jY
     ·exact h
  refine zG (zA (zI (q4 (AM O (AM O (AL.callNN (args:=[(nV u),(nV v)]) call209 (λw hw=>SV u v hv0 hlu hlv w (hw.holds (i:=1) O) (hw.holds (i:=0) O)) Qh (eT (y:=nA u) 1 O O Qh) O O O λq1 r1 hq1 hr1 lq1 lr1=>AM O (AG (AZ (v:=(nV q1)) O O) O (AG (AZ (v:=(nV r1)) O O) O (asg' O (asg' O ?_))))))))))
  exact q3 (sL [4,0,1,6] O) (AM O (asg' O (oNl' (zB (sL [4,0,1,6] O) (zA (zH (AM O (asg' O (oNl' (zB (sL [4,0,1] O) (zJ (zn v r1 (⟨by rw [<-hg,hr1,Nat.gcd_comm,<-Nat.gcd_rec,Nat.gcd_comm],hlv,xK (IY (by rw [hr1];exact Nat.le_of_lt (Nat.mod_lt _ hv0))) hlv,hv,lr1.mono (λs hs c e=>hu c (by rw [xM.1 hs] at e;exact e))⟩) (by rw [hr1];exact Nat.mod_lt _ hv0) (sF O) (sl (sk (sk (sl sr))))))))))))))))
 ·replace hc0:=xQ hc0
  have hv0:v.x=0:=by
     rcases Nat.eq_zero_or_pos v.x with h|h
     ·exact h
     ·have:=(K4 h).2;omega
  rw [hv0,Nat.gcd_zero_right] at hg
  exact zU (zP (zi (zS (q2 (AM O (asg' O (oNl' (zB (sL [4,0,1] O) (zA (zF (ret_one O (rd_tmp (v:=(nV u)) O) (λw hw=>⟨u,hg,rfl,hw.out,hw.holds (i:=1) O,hu⟩))))))))))))
end
section
set_option maxRecDepth 100000
theorem Ve (a:NV) (hla:(dg a.x).length<=549755813888) (w:World) (ha:Holds w (nA a)):Calls prog 146 #[(nV a)] w (Ak w (Value.string (txB (Lib.decDigits a.x)))):=by
 refine AX (args:=[(nV a)]) (L:=[nA a]) func146 O O (Av O) (CO O ha (Ah)) (zN (sL [0] O) (q4 (asg' O (oNl' (q1 (q4 (AM O (AG (v:=(vN ((dg a.x).length))) (AC O underlying79) O (AG (BO (c:=(decide (((dg a.x).length)=0))) O O (Mf (a:=(dg a.x).length) (b:=0))) O (oNl' (zB (sL [0,2,9] O) ?_)))))))))))
 refine zA ?_
 refine zM O (λhc0=>?_) (λhc0=>?_)
 ·replace hc0:=xR hc0
  have hx0:a.x=0:=by rcases Nat.eq_zero_or_pos a.x with h|h;exact h;have:=(K4 h).2;omega
  exact q4 (asg' O (oNl' (zA (zF (zO (ret_one O (rd_tmp (v:=(Value.string (ByteArray.mk #[48]))) O) (λw hw=>⟨by rw [hx0,Kr];rfl,hw.out⟩)))))))
 ·replace hc0:=xQ hc0
  have hx0:0<a.x:=by rcases Nat.eq_zero_or_pos a.x with h|h;(exact absurd (by rw [h];rfl) hc0);exact h
  refine zG (q2 (asg' O (oNl' (q1 (q4 (asg' O (oNl' (zA (zI ?_)))))))))
  refine yA (tg λ(i:Nat) (s:List UInt8)=>i<(dg a.x).length/\s=Fz (4*i) a.x\/i=(dg a.x).length/\s=Lib.decDigits a.x) (tg λ(i:Nat) (s:List UInt8)=>[(0,(nV a)),(2,(Value.string (ByteArray.mk #[]))),(4,(vN i)),(3,(Value.string (txB s)))]) (tg λ(i:Nat) (s:List UInt8)=>[nA a]) (tg λ(i:Nat) (s:List UInt8)=>(dg a.x).length-i) 0 ([]) (.inl ⟨Z,rfl⟩) (sF O) sr (λi s hJ=>?_)
  have hj:=hJ
  refine zV (q4 (AM O (AM O (AG (v:=(vN ((dg a.x).length))) (AC O underlying79) O (AG (Ae (c:=(decide (i<((dg a.x).length)))) O O (CM (a:=i) (b:=(dg a.x).length))) O (oNl' (zB (sL [0,2,4,3,13] O) (zA ?_))))))))
  refine zM O (λhc1=>?_) (λhc1=>?_)
  ·replace hc1:=xR hc1
   have hs:s=Fz (4*i) a.x:=(hj.resolve_right Z).2
   have gd:=Gr a.x i
   refine zG (q1 (zI (q4 (AM O (AM O (AG (v:=(pP (pB a.p) (pO a.p+i*1))) (AF (j:=i) O O a.ok underlying79 sizeOf3 O Z) O (AG (AK (v:=(vN ((dg a.x).getD i 0))) (i:=0) O O (a.ok.ne Z) BN (EA (ds:=dg a.x) (j:=i) Z)) O (asg' O (q3 (sL [0,2,4,3,5] O) (asg' O (oNl' ?_)))))))))))
   refine zA (zI ?_)
   refine yS (tg λ(d:Nat) (k:Nat) (s2:List UInt8)=>k<=4/\d=(dg a.x).getD i 0/10^k/\s2=Fz (4*i+k) a.x/\(i+1=(dg a.x).length->k=0\/(dg a.x).getD i 0/10^(k-1)≠0)) (tg λ(d:Nat) (k:Nat) (s2:List UInt8)=>[(0,(nV a)),(2,(Value.string (ByteArray.mk #[]))),(4,(vN i)),(5,(vN d)),(6,(vN k)),(3,(Value.string (txB s2)))]) (tg λ(d:Nat) (k:Nat) (s2:List UInt8)=>[nA a]) (tg λ(d:Nat) (k:Nat) (s2:List UInt8)=>4-k) ((dg a.x).getD i 0) 0 s (⟨Z,by simp,by rw [hs];rfl,λ_=>.inl O⟩) (sF O) sr (λd k s2 hJ=>?_)
   obtain ⟨hk4,hd,hs2,hnz⟩:=hJ
   have hdl:d<=(dg a.x).getD i 0:=by rw [hd];exact Nat.div_le_self _ _
   refine zV (q4 (AM O (AG (Ae (c:=(decide (k<4))) O O (CM (a:=k) (b:=4))) O (AM O ?_))))
   refine zX (FM:=[(0,(nV a)),(2,(Value.string (ByteArray.mk #[]))),(4,(vN i)),(5,(vN d)),(6,(vN k)),(3,(Value.string (txB s2))),(20,(vN k)),(21,(qa (decide (k<4)))),(22,(qa (decide (k<4)))),(32,(qa ((decide (k<4))&&((decide ((i+1)<((dg a.x).length)))||(decide (0<d))))))]) (LM:=[nA a]) 10 ?_ ?_
   ·rcases xO (decide (k<4)) with hg1|hg1
    ·refine zC (k:=22) (u:=qa true) O (by rw [hg1]) ?_
     have hg1':=xR hg1
     refine Ds O (Au (v:=(vN (i+1))) O (AW (c:=((i+1:Nat):Int)) O O (AU (a:=i) (b:=1) Z)) (Ds O (Au (v:=(vN ((dg a.x).length))) O (AC O underlying79) (Au (v:=(qa (decide ((i+1)<((dg a.x).length))))) O (Ae (c:=(decide ((i+1)<((dg a.x).length)))) O O (CM (a:=i+1) (b:=(dg a.x).length))) (Ds O ?_)))))
     refine zX (FM:=[(0,(nV a)),(2,(Value.string (ByteArray.mk #[]))),(4,(vN i)),(5,(vN d)),(6,(vN k)),(3,(Value.string (txB s2))),(20,(vN k)),(21,(qa (decide (k<4)))),(22,(qa true)),(23,(vN i)),(24,(vN (i+1))),(25,(nV a)),(26,(vN ((dg a.x).length))),(27,(qa (decide ((i+1)<((dg a.x).length))))),(28,(qa (decide ((i+1)<((dg a.x).length))))),(31,(qa ((decide ((i+1)<((dg a.x).length)))||(decide (0<d)))))]) (LM:=[nA a]) 3 ?_ ?_
     ·rcases xO (decide ((i+1)<((dg a.x).length))) with hg2|hg2
      ·refine zC (k:=28) (u:=qa true) O (by rw [hg2]) ?_
       have hg2':=xR hg2
       exact Ar O (Ar O (Au (v:=(qa true)) O (AN O O) (oNl' (zR EQ (xP _)))))
      ·refine zC (k:=28) (u:=qa false) O (by rw [hg2]) ?_
       have hg2':=xQ hg2
       exact Ds O (Au (v:=(qa (decide (0<d)))) O (Bv (c:=(decide (0<d))) O O (CM (a:=0) (b:=d))) (Au (v:=(qa (decide (0<d)))) O (AI O O) (oNl' (zR EQ (xP _)))))
     exact AG (v:=(qa ((decide ((i+1)<((dg a.x).length)))||(decide (0<d))))) (AN O O) O (oNl' (zR Bg (xP _)))
    ·refine zC (k:=22) (u:=qa false) O (by rw [hg1]) ?_
     have hg1':=xQ hg1
     exact Ar O (Ar O (Ar O (Ar O (Ar O (Ar O (zg (BJ O O O) O (Av O) (zg (BJ O O O) O (Av O) (Ar O (AG (v:=(qa false)) (AI O O) O (oNl' (zR Bg (xP _))))))))))))
   refine oNl' (zB (sL [0,2,4,5,6,3,32] O) (zA ?_))
   refine zM O (λhc2=>?_) (λhc2=>?_)
   ·simp only [jK] at hc2
    refine zG (q1 (zI (q4 (AM O (AG (Dh (c:=((d%10:Nat):Int)) O O Z (L6 (a:=d) (b:=10))) O (AG (AW (c:=((48+(d%10):Nat):Int)) O O (AU (a:=48) (b:=d%10) Z)) O (AG (A9 (c:=((48+(d%10):Nat):Int)) O underlying3 underlying5 (Ph Z)) O (AG (v:=(Value.string (txB [UInt8.ofNat (48+d%10)]))) (QL (a:=48+d%10) O underlying5 underlying9 Z) O (AM O (AG (v:=(Value.string (txB (Fz (4*i+(k+1)) a.x)))) (C0 (r:=(txB (Fz (4*i+(k+1)) a.x))) O O (by rw [D6,D6,hs2,Pj];simp;omega) (by rw [hs2];exact XE hc2.1 hd)) O (asg' O ?_)))))))))))
    refine oNl' (zB (sL [0,2,4,5,6,3] O) (zA (zH (AM O (AG (Fc (c:=((d/10:Nat):Int)) O O Z (Fb (a:=d) (b:=10) Z)) O (asg' O (oNl' (zB (sL [0,2,4,5,6,3] O) (zJ (zA (zH ?_)))))))))))
    exact AM O (AG (AW (c:=((k+1:Nat):Int)) O O (AU (a:=k) (b:=1) Z)) O (asg' O (oNl' (zB (sL [0,2,4,5,6,3] O) (yB (d/10) (k+1) (Fz (4*i+(k+1)) a.x) (⟨Z,by rw [hd,Nat.div_div_eq_div_mul,<-Nat.pow_succ],rfl,λh=>.inr (by rw [Nat.add_sub_cancel,<-hd];omega)⟩) Z (sF O) sr)))))
   ·simp only [jK] at hc2
    have hout:i+1<(dg a.x).length/\s2=Fz (4*(i+1)) a.x\/i+1=(dg a.x).length/\s2=Lib.decDigits a.x:=by
        rcases Nat.lt_or_ge (i+1) (dg a.x).length with h|h
        ·exact .inl ⟨h,by rw [hs2,show k=4 by omega];rfl⟩
        ·exact .inr ⟨Z,by rw [hs2];exact Wv hx0 Z hk4 hd (hnz Z) Z⟩
    exact zU (zP (zx (zS (zJ (zA (zH (AM O (AG (AW (c:=((i+1:Nat):Int)) O O (AU (a:=i) (b:=1) Z)) O (asg' O (oNl' (zB (sL [0,2,4,5,6,3] O) (zn (i+1) s2 (hout) Z (sF O) sr))))))))))))
  ·replace hc1:=xQ hc1
   have hs:s=Lib.decDigits a.x:=(hj.resolve_left Z).2
   exact zU (zP (zi (zS (q2 (AM O (asg' O (oNl' (zB (sL [0,2,4,3] O) (zA (zF (ret_one O (rd_tmp (v:=(Value.string (txB s))) O) (λw hw=>⟨by rw [hs],hw.out⟩))))))))))))
end
section
structure dP (x y:Nat) where
  q:NX x
  r:NX y
instance {x y:Nat}:C8 (dP x y):=⟨λa=>.tuple #[CV a.q,CV a.r],λa=>[Bj a.q,Bj a.r],λa y hy=>Q0 rfl rfl hy⟩
section
variable {S:Nat->Prop} {w:World} {x y:Nat}
theorem cY {a:dP x y} (h:Ro S w a):Ro S w a.q:=λz hz=>h z (by rcases xM.1 hz with rfl;exact List.mem_cons_self)
theorem gN {W:World} {src:List (Option Nat)} {e:Ending} (hs:∀s∈src,∀b,s=some b->S b) (h:HP W src x e w):Ad (NX x) S W e w:=by
  obtain ⟨v,rfl,rfl,hb,hh,hl⟩:=h
  refine ⟨⟨v.p,v.c,v.ok⟩,rfl,hb,λy hy=>?_⟩
  rcases xM.1 hy with rfl
  exact ⟨hh,λb e=>(hl b e).imp_right λh=>hs _ h b O⟩
theorem dl {a:NX x} (h:Ro S w a) {b:Nat} (e:a.p.map (·.block)=some b):S b:=(h _ List.mem_cons_self).2 b e
theorem R0 {x:Nat} (h:nw x<=67108864):(dg x).length<=274877906944:=by have:=Zh x;omega
theorem HL {x:Nat} (h:nw x<=67108864):(dg x).length<=549755813888:=by have:=Zh x;omega
theorem Rf (x:Nat) (hx:x<18446744073709551616) (w:World) {S:Nat->Prop}:Calls prog 207 #[(vK .u64 x)] w (Ad (NX x) S w):=(Qr x hx w).mono λe w' h=>gN (λs hs=>by cases hs) h
theorem S3 (a:NX x) (b:NX y) (hx:nw x<=67108864) (hy:nw y<=67108864) (w:World) (ha:Ro S w a) (hb:Ro S w b):Calls prog 198 #[CV a,CV b] w (Ad (NX (x+y)) S w) :=
  (ZI a.nv b.nv (HL hx) (HL hy) w (TZ ha) (TZ hb)).mono λe w' h=>gN (λs hs=>by cases hs) h
theorem OW (a:NX x) (b:NX y) (hxy:y<=x) (hx:nw x<=67108864) (w:World) (ha:Ro S w a) (hb:Ro S w b):Calls prog 210 #[CV a,CV b] w (Ad (NX (x-y)) S w) :=
  (SO a.nv b.nv hxy (HL hx) w (TZ ha) (TZ hb)).mono λe w' h=>gN (λs hs=>by cases hs) h
theorem OV (a:NX x) (b:NX y) (hx:nw x<=67108864) (hy:nw y<=67108864) (w:World) (ha:Ro S w a) (hb:Ro S w b):Calls prog 162 #[CV a,CV b] w (Ad (NX (x*y)) S w) :=
  (Nt a.nv b.nv (HL hx) (HL hy) w (TZ ha) (TZ hb)).mono λe w' h=>gN (λs hs=>by cases hs) h
theorem Yf (a:NX x) (b:NX y) (hx:nw x<=67108864) (hy:nw y<=67108864) (w:World) (ha:Ro S w a) (hb:Ro S w b):Calls prog 211 #[CV a,CV b] w (Ak w (vI (DZ x y))) :=
  Oe a.nv b.nv (HL hx) (HL hy) w (TZ ha) (TZ hb)
theorem XV (a:NX x) (b:NX y) (hx:nw x<=67108864) (hy:nw y<=67108864) (w:World) (ha:Ro S w a) (hb:Ro S w b):Calls prog 208 #[CV a,CV b] w (Ad (NX (Nat.gcd x y)) S w) :=
  (Yq a.nv b.nv (R0 hx) (R0 hy) w (TZ ha) (TZ hb)).mono λe w' h=>gN (λs hs c e=>by
    rcases xL.1 hs with rfl|hs
    · exact dl ha e
    · rcases xM.1 hs with rfl;exact dl hb e) h
theorem Sj (a:NX x) (b:NX y) (hy0:0<y) (hx:nw x<=67108864) (hy:nw y<=67108864) (w:World) (ha:Ro S w a) (hb:Ro S w b):Calls prog 209 #[CV a,CV b] w (Ad (dP (x/y) (x%y)) S w) :=
  (SV a.nv b.nv hy0 (R0 hx) (R0 hy) w (TZ ha) (TZ hb)).mono λe w' h=>by
    obtain ⟨u,v,hu,hv,rfl,hB,hhu,hhv,lu,lv⟩:=h
    obtain ⟨up,uc,ux,uok⟩:=u
    obtain ⟨vp,vc,vx,vok⟩:=v
    dsimp only at hu hv
    subst hu;subst hv
    refine ⟨⟨⟨up,uc,uok⟩,⟨vp,vc,vok⟩⟩,rfl,hB,λz hz=>?_⟩
    rcases xL.1 hz with rfl|hz
    · exact ⟨hhu,λb e=>(lu b e).elim .inl λh=>by cases h⟩
    · rcases xM.1 hz with rfl
      exact ⟨hhv,λb e=>(lv b e).imp_right λh=>by
        have:=xM.1 h
        exact dl ha this.symm⟩
theorem Lf (a:NX x) (hx:nw x<=67108864) (w:World) (ha:Ro S w a):Calls prog 146 #[CV a] w (Ak w (Value.string (txB (Lib.decDigits x)))):=Ve a.nv (HL hx) w (TZ ha)
end
section
variable {P:Program} {ops:Array Oper} {rest:List Oper} {Q:Exit->Act->World->Prop} {n d:Nat} {F:List (Nat×Value)} {w0:BC} {S:Nat->Prop} {L:List As} {t:TypeId} {p:String} {af:Array Edge} {y:Operand} {f:FuncId} {xs:List Operand} {args:List Value} {ts:Array TypeId}
theorem cD {u v:Nat} (hc:∀args w,(callFunc f args).run P w=.ok (.enter f args) w) (h:∀w,Own w0 w L->Calls P f args.toArray w (Ad (dP u v) (SL w0 S L) w))
    (hf:evF F y=some (.func (.func f) #[] #[])) (hargs:xs.map (evF F)=args.map some) (hd:Nat.ble (d+1) n=true) (next:∀a:dP u v,At w0 S a->AL P ops rest Q n ((d,.tuple #[CV a.q,CV a.r])::F) w0 (Bj a.q::Bj a.r::L)) :
    AL P ops (⟨some d,.call { callee:=.value y,args:=xs.toArray,argTypes:=ts },t,p,af,none⟩::rest) Q n F w0 L:=zm hc h hf hargs hd next
end
end
theorem SP:∀{k x:Nat},x<10^(k+1)->(Lib.decDigits x).length<=k+1
  | 0,x,h=>by rw [Lib.decDigits,dif_pos Z];simp
  | k+1,x,h=>by
    rw [Lib.decDigits]
    split
    · simp
    · have:=SP (k:=k) (x:=x/10) (by rw [Nat.pow_succ] at h;omega)
      rw [xJ,List.length_singleton];omega
theorem Qs (n:Nat):(Lib.decDigits n).length<=10*nw n+1 :=
  SP (Nat.lt_of_lt_of_le (Nat.lt_of_lt_of_le (Bz n) (by rw [Nat.pow_mul];exact Nat.pow_le_pow_left jY _)) (Nat.pow_le_pow_right Z (Nat.le_succ _)))
theorem N8 (x:Nat):0<(dg x).length↔x≠0:=by
  constructor
  · intro h e;rw [e,Fu] at h;simp at h
  · intro h;exact (K4 Z).2
theorem ae (neg:Bool) (x:Nat):decide (EM neg x<0)=(neg&&decide (0<(dg x).length)):=by
  have h:=N8 x
  cases neg
  · simp [EM]
  · by_cases h0:x=0
    · subst h0;simp [EM,Fu]
    · have:0<(dg x).length:=h.2 h0
      simp [EM,this];omega
def Z4 (neg:Bool) {x:Nat} (n:NX x):ZX (EM neg x):=⟨n.cast (A6 neg x).symm⟩
theorem bK (neg:Bool) {x:Nat} (n:NX x):DV (Z4 neg n)=[.bool (neg&&decide (0<(dg x).length)),CV n]:=by
  unfold DV Z4 CV
  rw [ae]
  simp only [A6]
theorem PS {x:Nat} (h:(dg x).length=0):x=0:=Classical.byContradiction λe=>by have:=(N8 x).2 e;omega
theorem I5 {x:Nat} (h:¬(dg x).length=0):x≠0:=(N8 x).1 Z
def txI (z:Int):List UInt8:=if z<0 then 45::Lib.decDigits z.natAbs else Lib.decDigits z.natAbs
section
set_option maxRecDepth 100000
theorem D8 {x:Nat} (neg:Bool) (n:NX x) (w:World) {S:Nat->Prop} (hn:Ro S w n)  :Calls prog 163 #[(qa neg),(CV n)] w (Ad (ZX (EM neg x)) S w):=by
 have ln:=Bx (W:=w) hn
 refine AX (args:=[(qa neg),(CV n)]) (L:=[Bj n]) func163 O O (Av O) (de hn Ah) (zN (sL [0,1] O) (q4 (al TJ O λb1=>oNl' (q2 (AM O (AM O ?_))))))
 refine zX (FM:=[(0,(qa neg)),(1,(CV n)),(4,(pP b1 0)),(5,(qa neg)),(6,(qa neg)),(10,(qa (neg&&(decide (0<((dg x).length))))))]) (LM:=[AR b1 81 ([(qa false),jj]),Bj n]) 4 ?_ ?_
 ·rcases xO neg with hg1|hg1
  ·refine zC (k:=6) (u:=qa true) O (by rw [hg1]) ?_
   have hg1':=hg1
   skip
   exact Ds O (Au (v:=(vN ((dg x).length))) O (AC O underlying79) (Au (v:=(qa (decide (0<((dg x).length))))) O (Bv (c:=(decide (0<((dg x).length)))) O O (CM (a:=0) (b:=(dg x).length))) (AG (v:=(qa (decide (0<((dg x).length))))) (AN O O) O (oNl' (zR Bg (xP _))))))
  ·refine zC (k:=6) (u:=qa false) O (by rw [hg1]) ?_
   have hg1':=hg1
   skip
   exact Ar O (Ar O (Ar O (AG (v:=(qa false)) (AI O O) O (oNl' (zR Bg (xP _))))))
 exact AM O (AG (v:=(aG ([(qa (neg&&(decide (0<((dg x).length))))),(CV n)]))) (AT (zs:=[(qa false),jj]) (vs:=[(qa (neg&&(decide (0<((dg x).length))))),(CV n)]) (pv:=[(0,(qa (neg&&(decide (0<((dg x).length)))))),(1,(CV n))]) (places:=[(0,1),(1,1)]) zeroValue81 underlying81 (λw=>by simp [sizeOf4,sizeOf79]) O O) O (Ax O sizeOf81 O (oNl' (zB (sL [4] O) (zA (zF (ret_one O (Ai (i:=0) (cs:=[(qa (neg&&(decide (0<((dg x).length))))),(CV n)]) O O isAgg81 sizeOf81 O) (λw hw=>EH (a:=Z4 neg n) hw (fJ (Zv (inS hw 1 O ln))) (by rw [<-bK];rfl)))))))))
theorem aW (z:Int) (hz:-9223372036854775808<=z) (hz2:z<9223372036854775808) (w:World) {S:Nat->Prop}  :Calls prog 157 #[(vI z)] w (Ad (ZX z) S w):=by
 refine Ab (args:=[(vI z)]) func157 O O (Av O) (zN (sL [0] O) (q4 (al TJ O λb1=>oNl' (q1 (q4 (AM O (AG (Ae (c:=(decide (z<(0:Int)))) O O O) O (oNl' (zB (sL [0,2,4] O) (zA ?_))))))))))
 refine zM O (λhc0=>?_) (λhc0=>?_)
 ·replace hc0:=xR hc0
  refine q4 (AM O (AG (AW (c:=(z+1)) O O (BP Z Z)) O (AG (Vg (c:=(((-(z+1)).toNat:Nat):Int)) O (by rw [BP Z Z];omega)) O (AG (A9 (c:=(((-(z+1)).toNat:Nat):Int)) O underlying2 underlying69 (BV Z)) O (AG (AW (c:=((z.natAbs:Nat):Int)) O O (by rw [Df Z Z];omega)) O (cN (S:=S) (x:=z.natAbs) (args:=[(vK .u64 z.natAbs)]) call207 (λw hw=>Rf z.natAbs (by first|omega|(simp only [Int.natAbs_neg];omega)) w) O O O λg1 lg1=>cZ (S:=S) (x:=z) (args:=[(qa true),(CV g1)]) call163 (λw hw=>(Ad.cast (T:=λi=>ZX i) (G8 hc0) (D8 true g1 w (inS hw 0 O lg1)))) O O O λg2 lg2=>H6 O sizeOf81 O (oNl' (zB (sL [0,2] O) (zA ?_)))))))))
  exact zF (zO (ret_one O (Ai (i:=2) (cs:=DV g2) O O isAgg81 sizeOf81 O) (λw hw=>EH (a:=(g2:ZX z)) hw (inS hw 0 O lg2) O)))
 ·replace hc0:=xQ hc0
  exact zG (q2 (AM O (AG (A9 (c:=((z.natAbs:Nat):Int)) O underlying2 underlying69 (by rw [Df Z Z];omega)) O (cN (S:=S) (x:=z.natAbs) (args:=[(vK .u64 z.natAbs)]) call207 (λw hw=>Rf z.natAbs (by first|omega|(simp only [Int.natAbs_neg];omega)) w) O O O λg3 lg3=>cZ (S:=S) (x:=z) (args:=[(qa false),(CV g3)]) call163 (λw hw=>(Ad.cast (T:=λi=>ZX i) (Nk hc0) (D8 false g3 w (inS hw 0 O lg3)))) O O O λg4 lg4=>H6 O sizeOf81 O (oNl' (zB (sL [0,2] O) (zA (zF (ret_one O (Ai (i:=2) (cs:=DV g4) O O isAgg81 sizeOf81 O) (λw hw=>EH (a:=(g4:ZX z)) hw (inS hw 0 O lg4) O))))))))))
theorem U9 {x:Int} (a:ZX x) (w:World) {S:Nat->Prop} (ha:Ro S w a)  :Calls prog 180 #[(aG (DV a))] w (Ak w (vI x.sign)):=by
 have la:=Bx (W:=w) ha
 refine AX (args:=[(aG (DV a))]) (L:=[Bj a.n]) func180 O O (Av O) (Yx ha Ah) (zN (sL [0] O) (q4 (Bb (cs:=DV a) O λb1=>asg' O (q6 (sL [1,2] O) (q4 (AG (v:=(pP b1 1)) (AA O underlying81 O sizeOf79 O) O (Az 0 (CV a.n) GI O (AG (v:=(vN ((dg x.natAbs).length))) (AC O underlying79) O (AG (BO (c:=(decide (((dg x.natAbs).length)=0))) O O (Mf (a:=(dg x.natAbs).length) (b:=0))) O (oNl' ?_))))))))))
 refine zB (sL [1,2,6] O) (zA ?_)
 refine zM O (λhc0=>?_) (λhc0=>?_)
 ·replace hc0:=xR hc0
  have he:x.sign=0:=by rw [show x=0 by have:=PS hc0;omega];rfl
  exact q4 (asg' O (oNl' (zA (zF (zO (ret_one O (rd_tmp (v:=(vI 0)) O) (λw hw=>⟨by rw [he],hw.out⟩)))))))
 ·replace hc0:=xQ hc0
  have hx0:=I5 hc0
  refine zG (q1 (q4 (AG (v:=(pP b1 0)) (AA O underlying81 O sizeOf4 O) O (Az 0 (qa (decide (x<0))) J2 O (oNl' (zB (sL [1,2,8] O) (zA ?_)))))))
  refine zM O (λhc1=>?_) (λhc1=>?_)
  ·replace hc1:=xR hc1
   have he:x.sign = -1:=Int.sign_eq_neg_one_of_neg hc1
   exact q4 (asg' O (oNl' (zA (zF (zO (ret_one O (rd_tmp (v:=(vI (-1:Int))) O) (λw hw=>⟨by rw [he],hw.out⟩)))))))
  ·replace hc1:=xQ hc1
   have he:x.sign=1:=Int.sign_eq_one_of_pos Z
   exact zG (q2 (asg' O (oNl' (zA (zF (ret_one O (rd_tmp (v:=(vI 1)) O) (λw hw=>⟨by rw [he],hw.out⟩)))))))
theorem ZJ {x:Int} (a:ZX x) (w:World) {S:Nat->Prop} (ha:Ro S w a)  :Calls prog 219 #[(aG (DV a))] w (Ad (ZX (-x)) S w):=by
 have la:=Bx (W:=w) ha
 refine AX (args:=[(aG (DV a))]) (L:=[Bj a.n]) func219 O O (Av O) (Yx ha Ah) (zN (sL [0] O) (q4 (Bb (cs:=DV a) O λb1=>al TJ O λb2=>q3 (sL [1,2] O) (AG (v:=(pP b1 0)) (AA O underlying81 O sizeOf4 O) O (Az 1 (qa (decide (x<0))) J2 O (AG (BQ (c:=(!(decide (x<0)))) O O) O (AG (v:=(pP b1 1)) (AA O underlying81 O sizeOf79 O) O (Az 1 (CV a.n) GI O (cZ (S:=S) (x:=(-x)) (args:=[(qa (!(decide (x<0)))),(CV a.n)]) call163 (λw hw=>(Ad.cast (T:=λi=>ZX i) (R7 x) (D8 (!(decide (x<0))) a.n w (Pv (inS hw 2 O la))))) O O O λg1 lg1=>?_)))))))))
 exact EK O sizeOf81 O (oNl' (zB (sL [2] O) (zA (zF (ret_one O (Ai (i:=1) (cs:=DV g1) O O isAgg81 sizeOf81 O) (λw hw=>EH (a:=(g1:ZX (-x))) hw (inS hw 0 O lg1) O))))))
theorem Ys {x y:Int} (a:ZX x) (b:ZX y) (hx:nw x.natAbs<=67108864) (hy:nw y.natAbs<=67108864) (w:World) {S:Nat->Prop} (ha:Ro S w a) (hb:Ro S w b)  :Calls prog 159 #[(aG (DV a)),(aG (DV b))] w (Ad (ZX (x+y)) S w):=by
 have la:=Bx (W:=w) ha
 have lb:=Bx (W:=w) hb
 refine AX (args:=[(aG (DV a)),(aG (DV b))]) (L:=[Bj a.n,Bj b.n]) func159 O O (Av O) (Yx ha (Yx hb Ah)) (zN (sL [0,1] O) (q4 (Bb (cs:=DV a) O λb1=>Bb (cs:=DV b) O λb2=>al TJ O λb3=>q6 (sL [2,3,4] O) (q4 (AG (v:=(pP b1 0)) (AA O underlying81 O sizeOf4 O) O (Az 2 (qa (decide (x<0))) J2 O (AG (v:=(pP b2 0)) (AA O underlying81 O sizeOf4 O) O (Az 1 (qa (decide (y<0))) J2 O ?_))))))))
 refine AG (Jq (c:=(decide (x<0) == decide (y<0))) O O underlying4 O) O (oNl' (zB (sL [2,3,4,9] O) (zA ?_)))
 refine zM O (λhc0=>?_) (λhc0=>?_)
 ·refine zV (CQ (Db 6++[(6,false),(7,false),(8,false)]) (sl sr) (Aj (v:=(pP b1 0)) O (AA O underlying81 O sizeOf4 O) (Be 1 (qa (decide (x<0))) J2 O (Aj (v:=(pP b1 1)) O (AA O underlying81 O sizeOf79 O) (Be 1 (CV a.n) GI O (Aj (v:=(pP b2 1)) O (AA O underlying81 O sizeOf79 O) (Be 0 (CV b.n) GI O (zK O (cN (S:=S) (x:=(x.natAbs+y.natAbs)) (args:=[(CV a.n),(CV b.n)]) call198 (λw hw=>S3 a.n b.n (by first|omega|(simp only [Int.natAbs_neg];omega)) (by first|omega|(simp only [Int.natAbs_neg];omega)) w (Pv (inS hw 3 O la)) (Pv (inS hw 4 O lb))) O O O λg1 lg1=>zD (sl (sl sr)) (zK O ?_))))))))))
  exact cZ (S:=S) (x:=(x+y)) (args:=[(qa (decide (x<0))),(CV g1)]) call163 (λw hw=>(Ad.cast (T:=λi=>ZX i) (Ij hc0) (D8 (decide (x<0)) g1 w (inS hw 0 O lg1)))) O O O λg2 lg2=>zD (sl (sl (sl sr))) (zK O (H6 O sizeOf81 O (zD (sl (sl (sl sr))) (zT (zB (sL [2,3,4] O) (zA (zF (zO (ret_one O (Ai (i:=2) (cs:=DV g2) O O isAgg81 sizeOf81 O) (λw hw=>EH (a:=(g2:ZX (x+y))) hw (inS hw 0 O lg2) O))))))))))
 ·have hc0:(decide (x<0) == decide (y<0))=false:=by simpa using hc0
  refine zG (q1 (q4 (AG (v:=(pP b1 1)) (AA O underlying81 O sizeOf79 O) O (Az 2 (CV a.n) GI O (AG (v:=(pP b2 1)) (AA O underlying81 O sizeOf79 O) O (Az 1 (CV b.n) GI O (Ct call211 (λw hw=>Yf a.n b.n (by first|omega|(simp only [Int.natAbs_neg];omega)) (by first|omega|(simp only [Int.natAbs_neg];omega)) w (Pv (inS hw 3 O la)) (Pv (inS hw 4 O lb))) O (AG (Bp (c:=(decide ((0:Int)<=(DZ x.natAbs y.natAbs)))) O O O) O (oNl' (zB (sL [2,3,4,23] O) (zA ?_)))))))))))
  refine zM O (λhc1=>?_) (λhc1=>?_)
  ·replace hc1:=xR hc1
   have hge:y.natAbs<=x.natAbs:=by exact Nat.le_of_not_lt λh=>by have:=(Fs (a:=x.natAbs) (b:=y.natAbs)).2 h;omega
   refine zV (CQ (Db 6++[(6,false),(7,false),(8,false)]) (sl sr) (Aj (v:=(pP b1 0)) O (AA O underlying81 O sizeOf4 O) (Be 1 (qa (decide (x<0))) J2 O (Aj (v:=(pP b1 1)) O (AA O underlying81 O sizeOf79 O) (Be 1 (CV a.n) GI O (Aj (v:=(pP b2 1)) O (AA O underlying81 O sizeOf79 O) (Be 0 (CV b.n) GI O (zK O (cN (S:=S) (x:=(x.natAbs-y.natAbs)) (args:=[(CV a.n),(CV b.n)]) call210 (λw hw=>OW a.n b.n (by first|omega|(simp only [Int.natAbs_neg];omega)) (by first|omega|(simp only [Int.natAbs_neg];omega)) w (Pv (inS hw 3 O la)) (Pv (inS hw 4 O lb))) O O O λg3 lg3=>zD (sl (sl sr)) (zK O ?_))))))))))
   exact cZ (S:=S) (x:=(x+y)) (args:=[(qa (decide (x<0))),(CV g3)]) call163 (λw hw=>(Ad.cast (T:=λi=>ZX i) (Kz hc0 hge) (D8 (decide (x<0)) g3 w (inS hw 0 O lg3)))) O O O λg4 lg4=>zD (sl (sl (sl sr))) (zK O (H6 O sizeOf81 O (zD (sl (sl (sl sr))) (zT (zB (sL [2,3,4] O) (zA (zF (zO (ret_one O (Ai (i:=2) (cs:=DV g4) O O isAgg81 sizeOf81 O) (λw hw=>EH (a:=(g4:ZX (x+y))) hw (inS hw 0 O lg4) O))))))))))
  ·replace hc1:=xQ hc1
   have hge:¬y.natAbs<=x.natAbs:=by have:=(Fs (a:=x.natAbs) (b:=y.natAbs)).1 Z;omega
   refine zG (q1 (CQ (Db 6++[(6,false),(7,false),(8,false)]) (sl sr) (Aj (v:=(pP b2 0)) O (AA O underlying81 O sizeOf4 O) (Be 0 (qa (decide (y<0))) J2 O (Aj (v:=(pP b2 1)) O (AA O underlying81 O sizeOf79 O) (Be 0 (CV b.n) GI O (Aj (v:=(pP b1 1)) O (AA O underlying81 O sizeOf79 O) (Be 1 (CV a.n) GI O (zK O (cN (S:=S) (x:=(y.natAbs-x.natAbs)) (args:=[(CV b.n),(CV a.n)]) call210 (λw hw=>OW b.n a.n (by first|omega|(simp only [Int.natAbs_neg];omega)) (by first|omega|(simp only [Int.natAbs_neg];omega)) w (Pv (inS hw 4 O lb)) (Pv (inS hw 3 O la))) O O O λg5 lg5=>zD (sl (sl sr)) ?_))))))))))
   exact zK O (cZ (S:=S) (x:=(x+y)) (args:=[(qa (decide (y<0))),(CV g5)]) call163 (λw hw=>(Ad.cast (T:=λi=>ZX i) (L9 hc0 hge) (D8 (decide (y<0)) g5 w (inS hw 0 O lg5)))) O O O λg6 lg6=>zD (sl (sl (sl sr))) (zK O (H6 O sizeOf81 O (zD (sl (sl (sl sr))) (zT (zB (sL [2,3,4] O) (zA (zF (ret_one O (Ai (i:=2) (cs:=DV g6) O O isAgg81 sizeOf81 O) (λw hw=>EH (a:=(g6:ZX (x+y))) hw (inS hw 0 O lg6) O))))))))))
theorem Om {x y:Int} (a:ZX x) (b:ZX y) (hx:nw x.natAbs<=67108864) (hy:nw y.natAbs<=67108864) (w:World) {S:Nat->Prop} (ha:Ro S w a) (hb:Ro S w b)  :Calls prog 160 #[(aG (DV a)),(aG (DV b))] w (Ad (ZX (x*y)) S w):=by
 have la:=Bx (W:=w) ha
 have lb:=Bx (W:=w) hb
 refine AX (args:=[(aG (DV a)),(aG (DV b))]) (L:=[Bj a.n,Bj b.n]) func160 O O (Av O) (Yx ha (Yx hb Ah)) (zN (sL [0,1] O) (q4 (Bb (cs:=DV a) O λb1=>Bb (cs:=DV b) O λb2=>al TJ O λb3=>q6 (sL [2,3,4] O) (CQ (Db 9++[(9,false),(10,false),(11,false)]) (sl sr) (Aj (v:=(pP b1 0)) O (AA O underlying81 O sizeOf4 O) (Be 1 (qa (decide (x<0))) J2 O (Aj (v:=(pP b2 0)) O (AA O underlying81 O sizeOf4 O) (Be 0 (qa (decide (y<0))) J2 O ?_))))))))
 refine Aj O (Jx (c:=(!(decide (x<0) == decide (y<0)))) O O underlying4 O) (Aj (v:=(pP b1 1)) O (AA O underlying81 O sizeOf79 O) (Be 1 (CV a.n) GI O (Aj (v:=(pP b2 1)) O (AA O underlying81 O sizeOf79 O) (Be 0 (CV b.n) GI O (zK O (cN (S:=S) (x:=(x.natAbs*y.natAbs)) (args:=[(CV a.n),(CV b.n)]) call162 (λw hw=>OV a.n b.n (by first|omega|(simp only [Int.natAbs_neg];omega)) (by first|omega|(simp only [Int.natAbs_neg];omega)) w (Pv (inS hw 3 O la)) (Pv (inS hw 4 O lb))) O O O λg1 lg1=>zD (sl (sl sr)) (zK O (cZ (S:=S) (x:=(x*y)) (args:=[(qa (!(decide (x<0) == decide (y<0)))),(CV g1)]) call163 (λw hw=>(Ad.cast (T:=λi=>ZX i) (SF x y) (D8 (!(decide (x<0) == decide (y<0))) g1 w (inS hw 0 O lg1)))) O O O λg2 lg2=>zD (sl (sl (sl sr))) (zK O ?_)))))))))
 exact H6 O sizeOf81 O (zD (sl (sl (sl sr))) (zT (zB (sL [4] O) (zA (zF (ret_one O (Ai (i:=2) (cs:=DV g2) O O isAgg81 sizeOf81 O) (λw hw=>EH (a:=(g2:ZX (x*y))) hw (inS hw 0 O lg2) O)))))))
theorem Pr {x:Int} (a:ZX x) (hx:nw x.natAbs<=67108864) (w:World) {S:Nat->Prop} (ha:Ro S w a)  :Calls prog 145 #[(aG (DV a))] w (Ak w (Value.string (txB (txI x)))):=by
 have la:=Bx (W:=w) ha
 refine AX (args:=[(aG (DV a))]) (L:=[Bj a.n]) func145 O O (Av O) (Yx ha Ah) (zN (sL [0] O) (q4 (Bb (cs:=DV a) O λb1=>asg' O (q6 (sL [1,2] O) (q4 (AG (v:=(pP b1 0)) (AA O underlying81 O sizeOf4 O) O (Az 0 (qa (decide (x<0))) J2 O (oNl' (zB (sL [1,2,4] O) (zA ?_))))))))))
 refine zM O (λhc0=>?_) (λhc0=>?_)
 ·replace hc0:=xR hc0
  have he:txI x=45::Lib.decDigits x.natAbs:=by unfold txI;rw [if_pos hc0]
  exact q4 (AG (v:=(pP b1 1)) (AA O underlying81 O sizeOf79 O) O (Az 0 (CV a.n) GI O (Ct call146 (λw hw=>Lf a.n (by first|omega|(simp only [Int.natAbs_neg];omega)) w (Pv (inS hw 1 O la))) O (AG (v:=(Value.string (txB (45::Lib.decDigits x.natAbs)))) (C0 (r:=(txB (45::Lib.decDigits x.natAbs))) O O (by have:=Qs x.natAbs;rw [D6];show 1+_<=_;omega) (EG [45] _)) O (asg' O (oNl' (zB (sL [1,2] O) (zA (zF (zO (ret_one O (rd_tmp (v:=(Value.string (txB (45::Lib.decDigits x.natAbs)))) O) (λw hw=>⟨by rw [he],hw.out⟩))))))))))))
 ·replace hc0:=xQ hc0
  have he:txI x=Lib.decDigits x.natAbs:=by unfold txI;rw [if_neg hc0]
  exact zG (q2 (AG (v:=(pP b1 1)) (AA O underlying81 O sizeOf79 O) O (Az 0 (CV a.n) GI O (Ct call146 (λw hw=>Lf a.n (by first|omega|(simp only [Int.natAbs_neg];omega)) w (Pv (inS hw 1 O la))) O (asg' O (oNl' (zB (sL [1,2] O) (zA (zF (ret_one O (rd_tmp (v:=(Value.string (txB (Lib.decDigits x.natAbs)))) O) (λw hw=>⟨by rw [he],hw.out⟩)))))))))))
end
theorem Ir (n:Int):decide (n.sign<0)=decide (n<0):=by
  rcases Int.lt_trichotomy n 0 with h|h|h
  · rw [Int.sign_eq_neg_one_of_neg h];simp [h]
  · subst h;rfl
  · rw [Int.sign_eq_one_of_pos h];simp;omega
theorem U8 {n:Int} {d:Nat} (hd:d≠0):EM (decide (n<0)) (n.natAbs/Nat.gcd n.natAbs d)=(mkRat n d).num:=by rw [Of hd,Ir]
theorem Vv {n:Int} {d:Nat} (hd:d≠0):d/Nat.gcd n.natAbs d-1=(mkRat n d).den-1:=by rw [R8 hd]
theorem e7 {b:Rat} (h:b≠0):mkRat (EM (decide (b.num<0)) b.den) b.num.natAbs=b⁻¹:=by rw [<-Jd h,Ir]
theorem XZ {a b:Rat}:a*b⁻¹=a/b:=(Rat.div_def a b).symm
theorem WD {a b:Rat} (h:b.num.sign=0):(0:Rat)=a/b:=by
  have h1:b=0:=Rat.num_eq_zero.1 (Int.sign_eq_zero_iff_zero.1 h)
  rw [h1,Rat.div_def,Rat.inv_zero,Rat.mul_zero]
theorem eP (a b:Rat):(a-b).num.sign=EW a b:=by
  rw [<-ID]
  rw [Rat.sub_eq_add_neg,<-Ho a (-b),Rat.neg_num,Rat.neg_den,Int.neg_mul,<-Int.sub_eq_add_neg]
  have hd:a.den*b.den≠0:=Nat.mul_ne_zero a.den_nz b.den_nz
  rw [Of hd]
  have h:∀z:Int,(EM (decide (z.sign<0)) (z.natAbs/Nat.gcd z.natAbs (a.den*b.den))).sign=z.sign:=λz=>by
    rcases Int.lt_trichotomy z 0 with h|h|h
    · have hg:0<z.natAbs/Nat.gcd z.natAbs (a.den*b.den):=Nat.div_pos (Nat.gcd_le_left _ Z) (Nat.gcd_pos_of_pos_left _ Z)
      rw [Ir,Int.sign_eq_neg_one_of_neg h]
      exact Int.sign_eq_neg_one_of_neg (by unfold EM;simp [h];omega)
    · subst h;simp [EM]
    · have hg:0<z.natAbs/Nat.gcd z.natAbs (a.den*b.den):=Nat.div_pos (Nat.gcd_le_left _ Z) (Nat.gcd_pos_of_pos_left _ Z)
      rw [Ir,Int.sign_eq_one_of_pos h]
      refine Int.sign_eq_one_of_pos ?_
      have:¬z<0:=by omega
      unfold EM;simp [this];omega
  exact h _
def FX.zero:FX 0:=⟨⟨NX.zero⟩,NX.zero⟩
theorem VN {x0:Pt} (f0:PX x0):Instr.fill (λi=>some (i*6,6)) ((Array.range (1*6)).map ((Value.agg (#[(qa false),jj,jj,(qa false),jj,jj])).cells[·%(Value.agg (#[(qa false),jj,jj,(qa false),jj,jj])).cells.size]!)) [(0,.agg (C2 f0).toArray)]=some (C2 f0).toArray:=by kernel_rfl
def Ot (q:Rat):List UInt8:=if q.den-1=0 then txI q.num else txI q.num++47::Lib.decDigits q.den
theorem Yr (z:Int):(txI z).length<=10*nw z.natAbs+2:=by
  have:=Qs z.natAbs
  unfold txI;split<;>simp<;>omega
theorem K9 {α:Type} {enc:α->List Value} {z:Nat} (h:∀x,(enc x).length=z) (d:α) (xs:List α) (j r k:Nat) (hj:j<xs.length) (hr:r+k<=z) {vs:List Value} (hv:((enc (xs.getD j d)).drop r).take k=vs):((rowsL enc xs).drop (j*z+r)).take k=vs:=by
  have h1:=Al h d xs j hj
  rw [<-hv,<-h1,List.drop_take,List.take_take,List.drop_drop,Nat.min_eq_left Z]
end Go.Proofs.YtpolhpjiahbidaaGreatDoor
