import Derived.Test.YtpolhpjiahbidaaGreatDoorPart26
namespace Go.Proofs.YtpolhpjiahbidaaGreatDoor
open Go Go.RowKit Go.Proofs.Tryz
open Go.Value renaming slice→qz,bool→qa
set_option linter.unusedVariables false
set_option linter.unusedSimpArgs false
section
set_option maxRecDepth 100000
theorem ZD (us:List Bool) (n:Nat) (x:RX (bL us) n) (hn:us.length=n) (hl:n<=1000000) (hu:∀j,j<n->us.getD j false=true) (w:World) {S:Nat->Prop} (hx:Ro S w x):Calls prog 256 #[(qz x.p n x.c),(qa false)] w (Ad w (vI (-1:Int))):=by
 have lx:=Da (W:=w) hx
 refine Ah (args:=[(qz x.p n x.c),(qa false)]) (L:=[AF x.p (bL us)]) func256 O O (BA O) (Db hx A7) (zM (sL [0,1] O) (q4 (asg' O (oNl' (q1 (q4 (AL O (AD (v:=(vN n)) (AE O underlying143) O (AL O (oNl' (zB (sL [0,1,4,7,8] O) ?_)))))))))))
 refine zA (zJ ?_)
 refine zw (tg λ(j:Nat)=>j<=n) (tg λ(j:Nat)=>[(0,(qz x.p n x.c)),(1,(qa false)),(7,(vN n)),(8,(vN j))]) (tg λ(j:Nat)=>[AF x.p (bL us)]) (tg λ(j:Nat)=>n-j) 0 (xJ _) (sF O) sr (λj hJ=>?_)
 have hj:=hJ
 refine q4 (AD (Aa (c:=(decide (j<n))) O O (DB (a:=j) (b:=n))) O (oNl' (q1 ?_)))
 refine zL O (λhc0=>?_) (λhc0=>?_)
 ·replace hc0:=xT hc0
  refine zC (q1 (zJ (q4 (AL O (asg' O (q3 (sL [0,1,7,8,5] O) (AL O (AL O (AL O (AD (v:=(pP (pB x.p) (pO x.p+j*1))) (AM (j:=j) O O x.ok underlying143 sizeOf4 O Z) O (AD (BG (v:=(qa (us.getD j false))) (i:=0) O O (x.ok.ne Z) WF (ZN (us:=us) (j:=j) Z)) O ?_)))))))))))
  refine AD (FY (c:=false) O O underlying4 (by rw [hu j Z];rfl)) O (oNl' (zB (sL [0,1,7,8,5,16] O) (zA (zT O (zC (zG (zA (zH (AD (AT (c:=((j+1:Nat):Int)) O O (AV (a:=j) (b:=1) Z)) O (AL O (oNl' ?_)))))))))))
  exact zB (sL [0,1,7,8,5] O) (zl (j+1) Z Z (sF O) sr)
 ·replace hc0:=xS hc0
  exact zU (zO (zW (zP (q2 (asg' O (oNl' (zA (zF (ret_one O (rd_tmp (v:=(vI (-1:Int))) O) (λw hw=>⟨rfl,hw.out⟩))))))))))
theorem TJ (us:List Bool) (n:Nat) (x:RX (bL us) n) (hn:us.length=n) (hl:n<=1000000) (hu:∀j,j<n->us.getD j false=true) (w:World) {S:Nat->Prop} (hx:Ro S w x):Calls prog 220 #[(qz x.p n x.c),(qa false)] w (Ad w (qa false)):=by
 have lx:=Da (W:=w) hx
 refine Ah (args:=[(qz x.p n x.c),(qa false)]) (L:=[AF x.p (bL us)]) func220 O O (BA O) (Db hx A7) (zM (sL [0,1] O) (q4 (asg' O (oNl' (q2 (AL O (AL O (DH call256 (λw hw=>ZD us n x hn hl hu w (Co hw 0 O lx)) O (AD (ER (c:=false) O O jY) O (asg' O (oNl' ?_)))))))))))
 exact zB (sL [4] O) (zA (zF (ret_one O (rd_tmp (v:=(qa false)) O) (λw hw=>⟨rfl,hw.out⟩))))
theorem PO (ys:List Pt) (n:Nat) (x:RX (rowsL AZ ys) n) (hn:ys.length=n) (hl:n<=1000000) (hy:ys.Nodup) (w:World) {S:Nat->Prop} (hx:Ro S w x):Calls prog 224 #[(qz x.p n x.c)] w (Ad w (qz x.p n x.c)):=by
 have lx:=Da (W:=w) hx
 refine Ah (args:=[(qz x.p n x.c)]) (L:=[AF x.p (rowsL AZ ys)]) func224 O O (BA O) (Db hx A7) (zM (sL [0] O) (q4 (asg' O (oNl' (q1 (q4 (AL O (AD (v:=(vN n)) (AE O underlying28) O (AD (Aa (c:=(decide (n<2))) O O (DB (a:=n) (b:=2))) O (oNl' (zB (sL [0,2,8] O) ?_)))))))))))
 refine zA ?_
 refine zL O (λhc0=>?_) (λhc0=>?_)
 ·replace hc0:=xT hc0
  exact q4 (AL O (asg' O (oNl' (zB (sL [0,2] O) (zA (zF (zK (ret_one O (rd_tmp (v:=(qz x.p n x.c)) O) (λw hw=>⟨rfl,hw.out⟩)))))))))
 ·replace hc0:=xS hc0
  refine zC (q1 (q4 (asg' O (oNl' (zA (zJ ?_))))))
  refine zw (tg λ(k:Nat)=>1<=k/\k<=n) (tg λ(k:Nat)=>[(0,(qz x.p n x.c)),(3,(vN k))]) (tg λ(k:Nat)=>[AF x.p (rowsL AZ ys)]) (tg λ(k:Nat)=>n-k) 1 (⟨Nat.le_refl _,Z⟩) (sF O) sr (λk hJ=>?_)
  obtain ⟨hk1,hk⟩:=hJ
  refine zX (q4 (AL O (AL O (AD (v:=(vN n)) (AE O underlying28) O (AD (Aa (c:=(decide (k<n))) O O (DB (a:=k) (b:=n))) O (oNl' (zB (sL [0,3,13] O) (zA ?_))))))))
  refine zL O (λhc1=>?_) (λhc1=>?_)
  ·replace hc1:=xT hc1
   refine zC (q1 (zJ (zX (DC (Er 10) sr (By O (By O (Am (v:=(pP (pB x.p) (pO x.p+k*10))) O (AM (j:=k) O O x.ok underlying28 sizeOf99 O Z) (Am (v:=(aG (AZ (ys.getD k (⟨0,0⟩:Pt))))) O (AO (vs:=AZ (ys.getD k (⟨0,0⟩:Pt))) (i:=0) O O (Ay.ne x.ok Z) A_ (Af An _ _ _ Z) (An _)) (By O (By O (Am O (B3 (c:=((k-1:Nat):Int)) O O (CZ (a:=k) (b:=1) Z Z)) ?_)))))))))))
   refine Am (v:=(pP (pB x.p) (pO x.p+(k-1)*10))) O (AM (j:=k-1) O O x.ok underlying28 sizeOf99 O Z) (Am (v:=(aG (AZ (ys.getD (k-1) (⟨0,0⟩:Pt))))) O (AO (vs:=AZ (ys.getD (k-1) (⟨0,0⟩:Pt))) (i:=0) O O (Ay.ne x.ok Z) A_ (Af An _ _ _ Z) (An _)) (Am O (B0 (c:=decide (ys.getD k (⟨0,0⟩:Pt)=ys.getD (k-1) (⟨0,0⟩:Pt))) O O eqGuardType99 (US 9994 (ys.getD k (⟨0,0⟩:Pt)) (ys.getD (k-1) (⟨0,0⟩:Pt)))) (zQ (zB (sL [0,3,25] O) (zA ?_)))))
   refine zL O (λhc2=>?_) (λhc2=>?_)
   ·replace hc2:=xT hc2
    exact (SW hy Z Z hc2).elim
   ·replace hc2:=xS hc2
    exact zC (zG (zA (zH (AL O (AD (AT (c:=((k+1:Nat):Int)) O O (AV (a:=k) (b:=1) Z)) O (asg' O (oNl' (zB (sL [0,3] O) (zl (k+1) (⟨Z,Z⟩) Z (sF O) sr)))))))))
  ·replace hc1:=xS hc1
   exact zU (zO (zW (zP (q2 (AL O (asg' O (oNl' (zB (sL [0,3,2] O) (zA (zF (ret_one O (rd_tmp (v:=(qz x.p n x.c)) O) (λw hw=>⟨rfl,hw.out⟩))))))))))))
theorem bW:TW prog 143 4 (.bool false) 1:=⟨underlying143,_,_,rfl,rfl,rfl,rfl,rfl⟩
set_option maxHeartbeats 1000000 in
theorem YA {ps:List Pt} {ts ss:List T3} (x:MX ps ts ss) (hv:It ps ts ss) (w:World) {S:Nat->Prop} (hx:Ro S w x):Calls prog 183 #[(aG (Dj x))] w (Ad w (qa true)):=by
 have hp:=hv.pl
 have htl:=hv.tl
 have hsl:=hv.sl
 have h0:=hv.t0
 have hbp:∀p∈ps,Bc p<=1000:=λp hp=>by obtain ⟨j,hj,rfl⟩:=List.getElem_of_mem hp;have h9:=hv.sz j;rwa [cor,List.getD,xP hj] at h9
 have hps0:0<ps.length:=by have h9:=(DQ (Cb hv.num hv.t0)).1;omega
 have lx:=Da (W:=w) hx
 refine Ah (args:=[(aG (Dj x))]) (L:=[AF x.a.p (rowsL AZ ps),AF x.b.p (rowsL Ac ts),AF x.c.p (rowsL Ac ss)]) func183 O O (BA O) (Db hx A7) (zM (sL [0] O) (q4 (BV (cs:=Dj x) O λb1=>asg' O (q3 (sL [1,2] O) (AD (v:=(pP b1 0)) (AA O underlying30 O sizeOf28 O) O (BF 0 (qz x.a.p ps.length x.a.c) C0 O (AD (v:=(vN ps.length)) (AE O underlying28) O ?_)))))))
 refine AR.makeBool (m:=ps.length) bW O O Z O O ?_;intro bm hbm;rw [S5 ts ps.length]
 refine asg' O (q6 (sL [1,2,3] O) (q4 (AD (v:=(pP b1 1)) (AA O underlying30 O sizeOf23 O) O (BF 1 (qz x.b.p ts.length x.b.c) C2 O (AD (v:=(vN ts.length)) (AE O underlying23) O (AL O (oNl' (zB (sL [1,2,3,12,13,14] O) (zA (zJ ?_))))))))))
 refine zw (tg λ(t:Nat)=>t<=ts.length) (tg λ(t:Nat)=>[(1,(pP b1 0)),(2,(qa false)),(3,(qz (jk bm) ps.length ps.length)),(12,(qz x.b.p ts.length x.b.c)),(13,(vN ts.length)),(14,(vN t))]) (tg λ(t:Nat)=>[rowW (jk bm) 4 1 ps.length ps.length (bL (Lr ts ps.length t)),AX b1 30 (Dj x),AF x.a.p (rowsL AZ ps),AF x.b.p (rowsL Ac ts),AF x.c.p (rowsL Ac ss)]) (tg λ(t:Nat)=>ts.length-t) 0 (xJ _) (sF O) sr (λt hJ=>?_)
 have ht:=hJ
 refine q4 (AD (Aa (c:=(decide (t<ts.length))) O O (DB (a:=t) (b:=ts.length))) O (oNl' (q1 ?_)))
 refine zL O (λhc0=>?_) (λhc0=>?_)
 ·replace hc0:=xT hc0
  obtain ⟨T,hT⟩:∃q,q=ts.getD t (0,0,0):=⟨_,rfl⟩
  obtain ⟨g1,g2,g3⟩:=DQ (Cb hv.num hc0)
  rw [<-hT] at g1 g2 g3
  refine zC (q1 (zJ (q4 (AD (v:=(pP (pB x.b.p) (pO x.b.p+t*3))) (AM (j:=t) O O x.b.ok underlying23 sizeOf105 O Z) O (AD (v:=(aG (Ac (ts.getD t jJ)))) (AO (vs:=Ac (ts.getD t jJ)) (i:=3) O O (Ay.ne x.b.ok Z) C8 (Af Aq _ _ _ Z) (Aq _)) O (zI (k:=17) (u:=(aG (Ac T))) O (by rw [hT]) (al HA O λb2=>Ag O sizeOf105 O (oNl' (zB (sL [1,2,3,12,13,14,5] O) (zA ?_))))))))))
  refine DC (Er 10++[(10,false),(11,true),(12,false),(13,true),(14,false)]) (sk (sl sr)) (By O (Am (v:=(pP b2 0)) O (AB (j:=0) O O underlying105 sizeOf3 O jY O) (BU 0 (vN T.1) Bm O (By O (Am (v:=(pP b2 1)) O (AB (j:=1) O O underlying105 sizeOf3 O jY O) (BU 0 (vN T.2.1) Bm O (By O (Am (v:=(pP b2 2)) O (AB (j:=2) O O underlying105 sizeOf3 O jY O) (BU 0 (vN T.2.2) Bm O (Am (v:=(pP (pB (jk bm)) (pO (jk bm)+T.1*1))) O (AM (j:=T.1) O O hbm.row underlying143 sizeOf4 O Z) (zN O ?_)))))))))))
  refine yb (j:=T.1) (v:=(qa true)) O O hbm (by rw [NB,Nat.mul_one];simp [HB]) Z O sizeOf4 O (Pa _ _ _) (zD (sk (sl sr)) (Am (v:=(pP (pB (jk bm)) (pO (jk bm)+T.2.1*1))) O (AM (j:=T.2.1) O O hbm.row underlying143 sizeOf4 O Z) (zN O (yb (j:=T.2.1) (v:=(qa true)) O O hbm (by rw [NB,Nat.mul_one];simp [HB]) Z O sizeOf4 O (Pa _ _ _) (zD (sk (sl sr)) (Am (v:=(pP (pB (jk bm)) (pO (jk bm)+T.2.2*1))) O (AM (j:=T.2.2) O O hbm.row underlying143 sizeOf4 O Z) (zN O (yb (j:=T.2.2) (v:=(qa true)) O O hbm (by rw [NB,Nat.mul_one];simp [HB]) Z O sizeOf4 O (Pa _ _ _) (zD (sk (sl sr)) (zQ (zB (sL [1,2,3,12,13,14,5] O) ?_)))))))))))
  refine zG (zA (zH (AD (AT (c:=((t+1:Nat):Int)) O O (AV (a:=t) (b:=1) Z)) O (AL O (oNl' (zB (sL [1,2,3,12,13,14,5] O) ?_))))))
  rw [hT,S4 Z]
  exact zl (t+1) Z Z (sF O) (sl sr)
 ·replace hc0:=xS hc0
  have htt:t=ts.length:=by omega
  refine zU (zO (zW (zP (q1 (q4 (AL O (zz 0 O hbm (by rw [NB,Nat.mul_one];simp [HB]) O O λhn_US=>DH call220 (λw hw=>TJ (Lr ts ps.length t) ps.length ⟨(jk bm),ps.length,hbm.row⟩ (HB _ _ _) Z (λj hj=>by rw [htt];exact WR hj (hv.use j hj)) w (Co (S:=S) hw 0 O (At.new hn_US))) O (oNl' (zB (sL [1,2,3,12,13,14,32] O) (zA ?_))))))))))
  refine zT O (zC (q2 (AD (v:=(pP b1 0)) (AA O underlying30 O sizeOf28 O) O (BF 1 (qz x.a.p ps.length x.a.c) C0 O (yD (S:=S) (V:=TD) (LW:=RG (T:=99) (z:=10) (cs:=rowsL AZ ps) (n:=ps.length)) (args:=[(qz x.a.p ps.length x.a.c)]) call51 (λw hw=>Iz ps x.a Z w (bG (Co hw 2 O lx))) O λcl1 hcl1=>asg' O (q3 (sL [1,2,3,12,13,14,6] O) (AL O ?_)))))))
  have hpn:cl1.p≠none:=λe=>by have:=(cl1.ok.nil e).1;omega
  refine AR.callWX 0 (α:=List Pt) (K:=λys=>ys.Perm ps) (cs':=λys=>rowsL AZ ys) (v:=(Value.tuple #[])) (AI O) (Ar (args:=[(qz cl1.p ps.length cl1.c),(Value.func (.func 222) #[] #[])]) O O call221) O (λw hw=>V4 ps _ _ _ 99 cl1.ok hpn O Z hbp w (hw.holds (i:=0) O)) (λd hd=>by cases hd<;>exact (BA O)) λys hys=>?_
  have hyl:=hys.length_eq
  refine zz 0 O cl1.ok (by rw [AS An,hyl]) O O λhn_cl1=>q6 (sL [1,2,3,12,13,14,6] O) (DC [(0,true),(3,true),(4,true),(5,true),(1,false),(2,true),(6,true),(7,true)] sr (By O (Am (v:=(pP b1 0)) O (AA O underlying30 O sizeOf28 O) (BU 2 (qz x.a.p ps.length x.a.c) C0 O (Am (v:=(vN ps.length)) O (AE O underlying28) (zN O (DH call224 (λw hw=>PO ys ps.length ⟨cl1.p,cl1.c,cl1.ok.row⟩ hyl Z (hys.nodup_iff.2 hv.dst) w (Co (S:=S) hw 0 O (At.new hn_cl1))) O (zD sr (Am (v:=(vN ps.length)) O (AE O underlying28) (Am O (BL (c:=true) O O (xI O)) ?_))))))))))
  exact pS' O (zQ (zB (sL [1,2,3,12,13,14,6] O) (zA (zF (ret_one O (rd_tmp (v:=(qa true)) O) (λw hw=>⟨rfl,hw.out⟩))))))
theorem YO (s r:T3) (h:s.1=r.1/\s.2.1=r.2.1) (w:World)  :Calls prog 229 #[(aG (Ac s)),(aG (Ac r))] w (Ad w (qa true)):=by
 refine AY (args:=[(aG (Ac s)),(aG (Ac r))]) func229 O O (BA O) (zM (sL [0,1] O) (q4 (BV (cs:=Ac s) O λb1=>BV (cs:=Ac r) O λb2=>asg' O (q3 (sL [2,3,4] O) (AD (v:=(pP b1 0)) (AA O underlying110 O sizeOf3 O) O (BF 1 (vN s.1) Bm O (AD (v:=(pP b2 0)) (AA O underlying110 O sizeOf3 O) O (BF 0 (vN r.1) Bm O (AD (BL (c:=true) O O (xI Z)) O ?_)))))))))
 exact AL O (BM (v:=(pP b1 1)) O (AA O underlying110 O sizeOf3 O) (BM (v:=(vN s.2.1)) O (AH (i:=1) (v:=(vN s.2.1)) O O Bm.a O) (BM (v:=(pP b2 1)) O (AA O underlying110 O sizeOf3 O) (BM (v:=(vN r.2.1)) O (AH (i:=0) (v:=(vN r.2.1)) O O Bm.a O) (BM (v:=(qa true)) O (BL (c:=true) O O (xI Z)) (AD (v:=(qa true)) (AW O O) O (asg' O (oNl' (zB (sL [4] O) (zA (zF (ret_one O (rd_tmp (v:=(qa true)) O) (λw hw=>⟨rfl,hw.out⟩)))))))))))))
theorem Vv (xs ys:List T3) (x:RX (rowsL Ac xs) xs.length) (y:RX (rowsL Ac ys) ys.length) (hn:xs.length=ys.length) (hl:xs.length<=1000000) (hk:∀j,j<xs.length->(xs.getD j (0,0,0)).1=(ys.getD j (0,0,0)).1/\(xs.getD j (0,0,0)).2.1=(ys.getD j (0,0,0)).2.1) (w:World) {S:Nat->Prop} (hx:Ro S w x) (hy:Ro S w y):Calls prog 138 #[(qz x.p xs.length x.c),(qz y.p ys.length y.c),(Value.func (.func 229) #[] #[])] w (Ad w (qa true)):=by
 have lx:=Da (W:=w) hx
 have ly:=Da (W:=w) hy
 refine Ah (args:=[(qz x.p xs.length x.c),(qz y.p ys.length y.c),(Value.func (.func 229) #[] #[])]) (L:=[AF x.p (rowsL Ac xs),AF y.p (rowsL Ac ys)]) func138 O O (BA O) (Db hx (Db hy A7)) (zM (sL [0,1,2] O) (q4 (asg' O (oNl' (q1 (q4 (AL O (AD (v:=(vN xs.length)) (AE O underlying24) O (AL O (AD (v:=(vN ys.length)) (AE O underlying24) O (AD (CT (c:=false) O O (xH Z)) O ?_)))))))))))
 refine oNl' (zB (sL [0,1,2,6,12] O) (zA (zT O (zC (q1 (q4 (AL O (AD (v:=(vN xs.length)) (AE O underlying24) O (AL O (oNl' (zB (sL [0,1,2,6,14,15] O) ?_)))))))))))
 refine zA (zJ ?_)
 refine zw (tg λ(j:Nat)=>j<=xs.length) (tg λ(j:Nat)=>[(0,(qz x.p xs.length x.c)),(1,(qz y.p ys.length y.c)),(2,(Value.func (.func 229) #[] #[])),(14,(vN xs.length)),(15,(vN j))]) (tg λ(j:Nat)=>[AF x.p (rowsL Ac xs),AF y.p (rowsL Ac ys)]) (tg λ(j:Nat)=>xs.length-j) 0 (xJ _) (sF O) sr (λj hJ=>?_)
 have hj:=hJ
 refine q4 (AD (Aa (c:=(decide (j<xs.length))) O O (DB (a:=j) (b:=xs.length))) O (oNl' (q1 ?_)))
 refine zL O (λhc1=>?_) (λhc1=>?_)
 ·replace hc1:=xT hc1
  refine zC (q1 (zJ (q4 (AL O (asg' O (q6 (sL [0,1,2,14,15,7] O) (DC (Er 9++[(9,false),(10,true)]) sr (By O (By O (By O (Am (v:=(pP (pB x.p) (pO x.p+j*3))) O (AM (j:=j) O O x.ok underlying24 sizeOf110 O Z) ?_)))))))))))
  refine Am (v:=(aG (Ac (xs.getD j jJ)))) O (AO (vs:=Ac (xs.getD j jJ)) (i:=0) O O (Ay.ne x.ok Z) Lg (Af Aq _ _ _ Z) (Aq _)) (By O (By O (Am (v:=(pP (pB y.p) (pO y.p+j*3))) O (AM (j:=j) O O y.ok underlying24 sizeOf110 O Z) (Am (v:=(aG (Ac (ys.getD j jJ)))) O (AO (vs:=Ac (ys.getD j jJ)) (i:=1) O O (Ay.ne y.ok Z) Lg (Af Aq _ _ _ Z) (Aq _)) (zN O (ck' call229 (YO _ _ (hk j Z)) O (zD sr (Am O (BK (c:=false) O O) (zQ (zB (sL [0,1,2,14,15,28] O) (zA ?_)))))))))))
  exact zT O (zC (zG (zA (zH (AD (AT (c:=((j+1:Nat):Int)) O O (AV (a:=j) (b:=1) Z)) O (AL O (oNl' (zB (sL [0,1,2,14,15] O) (zl (j+1) Z Z (sF O) sr)))))))))
 ·replace hc1:=xS hc1
  exact zU (zO (zW (zP (q2 (asg' O (oNl' (zA (zF (ret_one O (rd_tmp (v:=(qa true)) O) (λw hw=>⟨rfl,hw.out⟩))))))))))
theorem Sk {ps:List Pt} {ts ss:List T3} (x:MX ps ts ss) (hv:It ps ts ss) (w:World) {S:Nat->Prop} (hx:Ro S w x):Calls prog 185 #[(aG (Dj x))] w (Ad w (qa true)):=by
 have hp:=hv.pl
 have htl:=hv.tl
 have hsl:=hv.sl
 have h0:=hv.t0
 have lx:=Da (W:=w) hx
 refine Ah (args:=[(aG (Dj x))]) (L:=[AF x.a.p (rowsL AZ ps),AF x.b.p (rowsL Ac ts),AF x.c.p (rowsL Ac ss)]) func185 O O (BA O) (Db hx A7) (zM (sL [0] O) (q4 (BV (cs:=Dj x) O λb1=>asg' O (q6 (sL [1,2] O) (DC (Er 6++[(6,false),(7,false),(8,true)]) sr (Am (v:=(pP b1 2)) O (AA O underlying30 O sizeOf24 O) (BU 0 (qz x.c.p ss.length x.c.c) O7 O (Am (v:=(pP b1 0)) O (AA O underlying30 O sizeOf28 O) (BU 0 (qz x.a.p ps.length x.a.c) C0 O (Am (v:=(pP b1 1)) O (AA O underlying30 O sizeOf23 O) ?_))))))))))
 refine BU 0 (qz x.b.p ts.length x.b.c) C2 O (zN O (yD (S:=S) (V:=QK) (LW:=RG (T:=110) (z:=3) (cs:=rowsL Ac (FS ts)) (n:=(FS ts).length)) (args:=[(qz x.a.p ps.length x.a.c),(qz x.b.p ts.length x.b.c)]) call56 (λw hw=>ZI ts x.b x.a.p ps.length x.a.c hv.num Z Z w (Zu (Co hw 1 O lx))) O λrm hrm=>zz 0 O rm.ok (AS Aq _) O O λhn_rm=>zD (sl sr) (zN O (DH call138 (λw hw=>Vv ss (FS ts) x.c ⟨rm.p,(FS ts).length,rm.ok.clip⟩ hv.rl Z hv.rim w (bH (Co hw 2 O lx)) (Co (S:=S) hw 0 O (At.new hn_rm))) O (zD (sl sr) (pS' O (zQ (zB (sL [2] O) (zA ?_)))))))))
 exact zF (ret_one O (rd_tmp (v:=(qa true)) O) (λw hw=>⟨rfl,hw.out⟩))
theorem TH {ps:List Pt} {ts ss:List T3} (x:MX ps ts ss) (hv:It ps ts ss) (w:World) {S:Nat->Prop} (hx:Ro S w x):Calls prog 128 #[(aG (Dj x))] w (Ad w (vI 0)):=by
 have hp:=hv.pl
 have htl:=hv.tl
 have hsl:=hv.sl
 have h0:=hv.t0
 have lx:=Da (W:=w) hx
 refine Ah (args:=[(aG (Dj x))]) (L:=[AF x.a.p (rowsL AZ ps),AF x.b.p (rowsL Ac ts),AF x.c.p (rowsL Ac ss)]) func128 O O (BA O) (Db hx A7) (zM (sL [0] O) (q4 (BV (cs:=Dj x) O λb1=>asg' O (q6 (sL [1,2] O) (zJ (q4 (AD (v:=(pP b1 0)) (AA O underlying30 O sizeOf28 O) O (BF 0 (qz x.a.p ps.length x.a.c) C0 O (AD (v:=(vN ps.length)) (AE O underlying28) O (AD (D_ (c:=false) O O (xH Z)) O ?_))))))))))
 refine AL O (BM (v:=(pP b1 1)) O (AA O underlying30 O sizeOf23 O) (BM (v:=(qz x.b.p ts.length x.b.c)) O (AH (i:=0) (v:=(qz x.b.p ts.length x.b.c)) O O C2.a O) (BM (v:=(vN ts.length)) O (AE O underlying23) (BM (v:=(qa false)) O (D_ (c:=false) O O (xH Z)) (AD (v:=(qa false)) (AQ O O) O (AL O (BM (v:=(pP b1 2)) O (AA O underlying30 O sizeOf24 O) (BM (v:=(qz x.c.p ss.length x.c.c)) O (AH (i:=0) (v:=(qz x.c.p ss.length x.c.c)) O O O7.a O) (BM (v:=(vN ss.length)) O (AE O underlying24) (BM (v:=(qa false)) O (D_ (c:=false) O O (xH Z)) (AD (v:=(qa false)) (AQ O O) O ?_)))))))))))
 refine asg' O (oNl' (zB (sL [1,2,3] O) (zA (zT O (q4 (Al 0 Bz O (DH call182 (λw hw=>W7 x hv w (Co hw 1 O lx)) O (AD (BK (c:=false) O O) O (asg' O (oNl' (zB (sL [1,2,20] O) ?_)))))))))))
 refine zA (zT O (q4 (Al 0 Bz O (DH call183 (λw hw=>YA x hv w (Co hw 1 O lx)) O (AD (BK (c:=false) O O) O (AL O (BM (v:=(aG (Dj x))) O (Aj (i:=0) (vs:=Dj x) O O Bz.a Bz.s O O) (zh (v:=(qa true)) (Ab O) (Ar (args:=[(aG (Dj x))]) O O call184) (λw hw=>Tm x hv w (Co hw 1 O lx)) O (BA O) (BM (v:=(qa false)) O (BK (c:=false) O O) (AD (v:=(qa false)) (AQ O O) O (AL O ?_)))))))))))
 refine BM (v:=(aG (Dj x))) O (Aj (i:=0) (vs:=Dj x) O O Bz.a Bz.s O O) (zh (v:=(qa true)) (Ab O) (Ar (args:=[(aG (Dj x))]) O O call185) (λw hw=>Sk x hv w (Co hw 1 O lx)) O (BA O) (BM (v:=(qa false)) O (BK (c:=false) O O) (AD (v:=(qa false)) (AQ O O) O (asg' O (oNl' (zB (sL [1,2,24] O) (zA (zT O (zC (zG (q2 ?_)))))))))))
 exact asg' O (oNl' (zB (sL [1,2] O) (zA (zF (ret_one O (rd_tmp (v:=(vI 0)) O) (λw hw=>⟨rfl,hw.out⟩))))))
end
section
set_option maxRecDepth 100000
theorem Px (w:World):Calls prog 42 #[(vI 0),(vI (0))] w (Ad w (aG (AZ (⟨0,0⟩:Pt)))):=by
 have h:=KM 0 (0) jY jY jY jY w
 rw [show (⟨((0:Int):Rat),((0:Int):Rat)⟩:Pt)=(⟨0,0⟩:Pt) from by decide +kernel] at h
 exact h
theorem Oi (w:World):Calls prog 42 #[(vI 2),(vI (-1))] w (Ad w (aG (AZ (⟨2,-1⟩:Pt)))):=by
 have h:=KM 2 (-1) jY jY jY jY w
 rw [show (⟨((2:Int):Rat),((-1:Int):Rat)⟩:Pt)=(⟨2,-1⟩:Pt) from by decide +kernel] at h
 exact h
theorem Pz (w:World):Calls prog 42 #[(vI 4),(vI (0))] w (Ad w (aG (AZ (⟨4,0⟩:Pt)))):=by
 have h:=KM 4 (0) jY jY jY jY w
 rw [show (⟨((4:Int):Rat),((0:Int):Rat)⟩:Pt)=(⟨4,0⟩:Pt) from by decide +kernel] at h
 exact h
theorem Py (w:World):Calls prog 42 #[(vI 2),(vI (1))] w (Ad w (aG (AZ (⟨2,1⟩:Pt)))):=by
 have h:=KM 2 (1) jY jY jY jY w
 rw [show (⟨((2:Int):Rat),((1:Int):Rat)⟩:Pt)=(⟨2,1⟩:Pt) from by decide +kernel] at h
 exact h
theorem PV {ps:List Pt} {ts ss:List T3} (x:MX ps ts ss) (u v:Int) {b:Bool} {e:Nat} (h1:Mn ps ts u v=b) (h2:Wl ts u v=e) (hnb:Be ps.length ts=true) (htl:ts.length<=1000000) (hN:ps.length<=1000000) (hz:∀i,Bc (cor ps i)<=200000) (w:World) {S:Nat->Prop} (hx:Ro S w x):Calls prog 26 #[(aG (Dj x)),(vI u),(vI v)] w (Ad w (.tuple #[.bool b,vN e])):=by
 subst h1 h2
 obtain ⟨y,hy,hro⟩:=VJ x
 have h9:=TV y u v hnb htl hN hz w (hro hx)
 rw [hy] at h9
 exact h9
theorem TS {ps:List Pt} {ts ss:List T3} (x:MX ps ts ss) (u v:Int) {p':List Pt} {t':List T3} {s':List Z3} {e:Nat} (h:XX ps ts u v=p'/\XZ ps ts u v=t'/\XY ps ts (ss.map Eg) u v=s'/\Wh ps ts u v=e) (hnb:Be ps.length ts=true) (htl:ts.length<=1000000) (hN:ps.length<=1000000) (hsl:ss.length<=1000000) (hz:∀i,Bc (cor ps i)<=200000) (w:World) {S:Nat->Prop} (hx:Ro S w x):Calls prog 28 #[(aG (Dj x)),(vI u),(vI v)] w (Bf (TB p' t' s' e) S w):=by
 obtain ⟨rfl,rfl,rfl,rfl⟩:=h
 obtain ⟨y,hy,hro⟩:=VJ x
 have h9:=Ww y u v hnb htl hN (by rw [xK];exact hsl) hz w (hro hx)
 rw [hy] at h9
 exact h9
theorem cI {ps:List Pt} {ts ss:List T3} (x:MX ps ts ss) (hk:It ps ts ss) {t':List T3} (h1:H1 ps ts=true) (h2:FR ps ts=t') (h3:H1 ps t'=false) (hn2:Be ps.length t'=true) (hz:∀i,Bc (cor ps i)<=200000) (w:World) {S:Nat->Prop} (hx:Ro S w x):Calls prog 76 #[(aG (Dj x))] w (Bf (aW ps t' (ss.map Eg) 1 0) S w):=by
 subst h2
 have l1:=hk.pl
 have l2:=hk.tl
 have l3:=hk.sl
 have hcx:=λ(w:World) (S:Nat->Prop) (h:Ro S w x)=>TH x hk w h
 obtain ⟨y,hy,hro,hor⟩:=Zk x
 have h9:=Wu y hk.num Z Z (by rw [xK];omega) hz (λw S h=>by have h8:=hcx w S (hor h);rw [<-hy] at h8;exact h8) h1 h3 hn2 w (hro hx)
 rw [hy] at h9
 exact h9
theorem aY {ps:List Pt} {ts ss:List T3} (x:MX ps ts ss) (hnb:Be ps.length ts=true) (htl:ts.length<=8192) (hN:ps.length<=1000000) (hz:∀i,Bc (cor ps i)<=1000) (w:World) {S:Nat->Prop} (hx:Ro S w x):Calls prog 31 #[(aG (Dj x))] w (Ad w (aG (AC (I7 ps ts)))):=by
 obtain ⟨y,hy,hro⟩:=VJ x
 have h9:=Qe y htl hN hz hnb w (hro hx)
 rw [hy] at h9
 exact h9
theorem Tb {ps:List Pt} {ts:List T3} {ss:List Z3} (x y:MN ps ts ss) (hp:ps.length<=1000000) (ht:ts.length<=1000000) (hs:ss.length<=1000000) (w:World) {S:Nat->Prop} (hx:Ro S w x) (hy:Ro S w y):Calls prog 78 #[(aG (CR x)),(aG (CR y))] w (Ad w (qa true)):=by
 obtain ⟨y1,e1,r1⟩:=RD x
 obtain ⟨y2,e2,r2⟩:=RD y
 have h9:=Tc y1 y2 hp (by rw [xK];exact ht) hs w (r1 hx) (r2 hy)
 rw [xI ⟨rfl,rfl,rfl⟩,e1,e2] at h9
 exact h9
theorem Lm (x0 x1 x2 x3:Pt):Instr.fill (λi=>some (i*10,10)) ((Array.range (4*10)).map ((Value.agg (AZ (⟨0,0⟩:Pt)).toArray).cells[·%(Value.agg (AZ (⟨0,0⟩:Pt)).toArray).cells.size]!)) [(0,.agg (AZ x0).toArray),(1,.agg (AZ x1).toArray),(2,.agg (AZ x2).toArray),(3,.agg (AZ x3).toArray)]=some (AZ x0++AZ x1++AZ x2++AZ x3).toArray:=by kernel_rfl
theorem Dw (x0 x1 x2:Nat):Instr.fill (λi=>some (i*1,1)) (Ac jJ).toArray [(0,vN x0),(1,vN x1),(2,vN x2)]=some (Ac (x0,x1,x2)).toArray:=by kernel_rfl
theorem J3 (x0 x1:Tq3):Instr.fill (λi=>some (i*3,3)) ((Array.range (2*3)).map ((Value.agg (Ac jJ).toArray).cells[·%(Value.agg (Ac jJ).toArray).cells.size]!)) [(0,.agg (Ac x0).toArray),(1,.agg (Ac x1).toArray)]=some (Ac x0++Ac x1).toArray:=by kernel_rfl
theorem J4 (x0 x1 x2 x3:Tq3):Instr.fill (λi=>some (i*3,3)) ((Array.range (4*3)).map ((Value.agg (Ac jJ).toArray).cells[·%(Value.agg (Ac jJ).toArray).cells.size]!)) [(0,.agg (Ac x0).toArray),(1,.agg (Ac x1).toArray),(2,.agg (Ac x2).toArray),(3,.agg (Ac x3).toArray)]=some (Ac x0++Ac x1++Ac x2++Ac x3).toArray:=by kernel_rfl
set_option maxHeartbeats 1000000 in
theorem P5  (w:World) (hT:Rm w):Calls prog 25 #[] w (Ad w (qa true)):=by
 refine AY (args:=[]) func25 O O (BA O) (zM sN (q4 (asg' O (oNl' (q2 (ck' call42 (Px) O (ck' call42 (Oi) O (ck' call42 (Pz) O (ck' call42 (Py) O (zZ (V:=λb1=>(qz (jk b1) 4 4)) (T:=99) (cs:=AZ (⟨0,0⟩:Pt)++AZ (⟨2,-1⟩:Pt)++AZ (⟨4,0⟩:Pt)++AZ (⟨2,1⟩:Pt)) (AI O) (Az (z:=.agg (AZ (⟨0,0⟩:Pt)).toArray) (cs:=AZ (⟨0,0⟩:Pt)++AZ (⟨2,-1⟩:Pt)++AZ (⟨4,0⟩:Pt)++AZ (⟨2,1⟩:Pt)) (pv:=[(0,(aG (AZ (⟨0,0⟩:Pt)))),(1,(aG (AZ (⟨2,-1⟩:Pt)))),(2,(aG (AZ (⟨4,0⟩:Pt)))),(3,(aG (AZ (⟨2,1⟩:Pt))))]) underlying28 sizeOf99 zeroValue99 jY jY O (Lm (⟨0,0⟩:Pt) (⟨2,-1⟩:Pt) (⟨4,0⟩:Pt) (⟨2,1⟩:Pt))) O (BA O) λb1=>AD (v:=(aG (Ac (0,1,2)))) (Ap (zs:=Ac jJ) (vs:=Ac (0,1,2)) (pv:=[(0,(vI 0)),(1,(vI 1)),(2,(vI 2))]) zeroValue105 underlying105 sizeOf3 O (Dw 0 1 2)) O ?_))))))))))
 refine AD (v:=(aG (Ac (0,2,3)))) (Ap (zs:=Ac jJ) (vs:=Ac (0,2,3)) (pv:=[(0,(vI 0)),(1,(vI 2)),(2,(vI 3))]) zeroValue105 underlying105 sizeOf3 O (Dw 0 2 3)) O (zZ (V:=λb2=>(qz (jk b2) 2 2)) (T:=105) (cs:=Ac (0,1,2)++Ac (0,2,3)) (AI O) (Az (z:=.agg (Ac jJ).toArray) (cs:=Ac (0,1,2)++Ac (0,2,3)) (pv:=[(0,(aG (Ac (0,1,2)))),(1,(aG (Ac (0,2,3))))]) underlying23 sizeOf105 zeroValue105 jY jY O (J3 (0,1,2) (0,2,3))) O (BA O) λb2=>AD (v:=(aG ([(vI 0),(vI 1),(vI 0)]))) (AP (zs:=Ac jJ) (vs:=[(vI 0),(vI 1),(vI 0)]) (pv:=[(0,(vI 0)),(1,(vI 1))]) (places:=[(0,1),(1,1),(2,1)]) zeroValue110 underlying110 (λw=>by simp [sizeOf3]) O O) O (AD (v:=(aG ([(vI 0),(vI 3),(vI 0)]))) (AP (zs:=Ac jJ) (vs:=[(vI 0),(vI 3),(vI 0)]) (pv:=[(0,(vI 0)),(1,(vI 3))]) (places:=[(0,1),(1,1),(2,1)]) zeroValue110 underlying110 (λw=>by simp [sizeOf3]) O O) O (AD (v:=(aG ([(vI 1),(vI 2),(vI 0)]))) (AP (zs:=Ac jJ) (vs:=[(vI 1),(vI 2),(vI 0)]) (pv:=[(0,(vI 1)),(1,(vI 2))]) (places:=[(0,1),(1,1),(2,1)]) zeroValue110 underlying110 (λw=>by simp [sizeOf3]) O O) O (AD (v:=(aG ([(vI 2),(vI 3),(vI 0)]))) (AP (zs:=Ac jJ) (vs:=[(vI 2),(vI 3),(vI 0)]) (pv:=[(0,(vI 2)),(1,(vI 3))]) (places:=[(0,1),(1,1),(2,1)]) zeroValue110 underlying110 (λw=>by simp [sizeOf3]) O O) O (zZ (V:=λb3=>(qz (jk b3) 4 4)) (T:=110) (cs:=Ac ((0,1,0):T3)++Ac ((0,3,0):T3)++Ac ((1,2,0):T3)++Ac ((2,3,0):T3)) (AI O) (Az (z:=.agg (Ac jJ).toArray) (cs:=Ac ((0,1,0):T3)++Ac ((0,3,0):T3)++Ac ((1,2,0):T3)++Ac ((2,3,0):T3)) (pv:=[(0,(aG ([(vI 0),(vI 1),(vI 0)]))),(1,(aG ([(vI 0),(vI 3),(vI 0)]))),(2,(aG ([(vI 1),(vI 2),(vI 0)]))),(3,(aG ([(vI 2),(vI 3),(vI 0)])))]) underlying24 sizeOf110 zeroValue110 jY jY O (J4 ((0,1,0):T3) ((0,3,0):T3) ((1,2,0):T3) ((2,3,0):T3))) O (BA O) λb3=>AD (v:=(aG ([(qz (jk b1) 4 4),(qz (jk b2) 2 2),(qz (jk b3) 4 4)]))) (AP (zs:=[jj,jj,jj]) (vs:=[(qz (jk b1) 4 4),(qz (jk b2) 2 2),(qz (jk b3) 4 4)]) (pv:=[(0,(qz (jk b1) 4 4)),(1,(qz (jk b2) 2 2)),(2,(qz (jk b3) 4 4))]) (places:=[(0,1),(1,1),(2,1)]) zeroValue30 underlying30 (λw=>by simp [sizeOf23,sizeOf24,sizeOf28]) O O) O (al Hh O λb4=>Ag O sizeOf30 O (AR.litM (S:=λ_=>False) (ps:=BN) (ts:=Cp) (ss:=I6) (λmm=>[AX b4 30 (Dj mm),AF mm.c.p (rowsL Ac I6),AF mm.b.p (rowsL Ac Cp),AF mm.a.p (rowsL AZ BN)]) 3 2 1 jY O O O O O O λmm hmm=>q3 (sL [0,1] O) ?_)))))))
 refine Al 0 Bz O (DH call26 (λw hw=>PV mm 2 0 Ux.1 Ux.2 K_ jY jY IW w (Uq hw [3,2,1] O hmm)) O (AL O (AD (AK (v:=(qa false)) O O) O (AD (AK (v:=(vI 0)) O O) O (asg' O (asg' O (q3 (sL [0,1,2,3] O) (Al 0 Bz O (yM (S:=λ_=>False) (α:=TB BN Ae CI 0) (args:=[(aG (Dj mm)),(vI 0),(vI 2)]) call28 (λw hw=>TS mm 0 2 Zf K_ jY jY jY IW w (Uq hw [3,2,1] O hmm)) O O O λf lf=>AL O (AD (AK (v:=(aG ([(qz f.x.a.p BN.length f.x.a.c),(qz f.x.b.p Ae.length f.x.b.c),(qz f.x.c.p CI.length f.x.c.c)]))) O O) O ?_))))))))))
 refine AD (AK (v:=(vI 0)) O O) O (al Hh O λb5=>Ag O sizeOf30 O (asg' O (q3 (sL [0,1,2,3,4,5] O) (Al 4 Bz O (yM (S:=λ_=>False) (α:=aW BN Ae CI 1 0) (args:=[(aG (Dj mm))]) call76 (λw hw=>cI mm Xq Pw.1 Pw.2.1 Pw.2.2 Uy IW w (Uq hw [7,6,5] O hmm)) O O O λd ld=>AL O (AD (AK (v:=(aG ([(qz d.x.a.p BN.length d.x.a.c),(qz d.x.b.p Ae.length d.x.b.c),(qz d.x.c.p CI.length d.x.c.c)]))) O O) O (AD (AK (v:=(vI 1)) O O) O (AD (AK (v:=(vI 0)) O O) O (al Hh O λb6=>?_)))))))))
 refine Ag O sizeOf30 O (asg' O (asg' O (q3 (sL [0,1,2,3,4,5,6,7,8] O) (Al 8 Bz O (yM (S:=λ_=>False) (α:=TB [] [] [] 7) (args:=[(aG (Dj mm)),(vI 0),(vI 1)]) call28 (λw hw=>TS mm 0 1 Zd K_ jY jY jY IW w (Uq hw [11,10,9] O hmm)) O O O λg lg=>AL O (AD (AK (v:=(aG ([(qz g.x.a.p 0 g.x.a.c),(qz g.x.b.p 0 g.x.b.c),(qz g.x.c.p 0 g.x.c.c)]))) O O) O (AD (AK (v:=(vI 7)) O O) O (al Hh O λb7=>Ag O sizeOf30 O (asg' O ?_)))))))))
 refine q3 (sL [0,1,2,3,4,5,6,7,8,10] O) (Al 12 Bz O (yM (S:=λ_=>False) (α:=TB [] [] [] 1) (args:=[(aG (Dj mm)),(vI 1),(vI 3)]) call28 (λw hw=>TS mm 1 3 Ze K_ jY jY jY IW w (Uq hw [15,14,13] O hmm)) O O O λk lk=>AL O (AD (AK (v:=(aG ([(qz k.x.a.p 0 k.x.a.c),(qz k.x.b.p 0 k.x.b.c),(qz k.x.c.p 0 k.x.c.c)]))) O O) O (AD (AK (v:=(vI 1)) O O) O (al Hh O λb8=>Ag O sizeOf30 O (asg' O (q3 (sL [0,1,2,3,4,5,6,7,8,10,12] O) (AL O (AD (BK (c:=true) O O) O ?_)))))))))
 refine AL O (Hk O (BM (v:=(qa true)) O (BL (c:=true) O O jY) (AD (v:=(qa true)) (AW O O) O (AL O (Hk O (BM (v:=(qa true)) O (BL (c:=true) O O jY) (AD (v:=(qa true)) (AW O O) O (AL O (BM (v:=(pP b5 1)) O (AA O underlying30 O sizeOf23 O) (BM (v:=(qz f.x.b.p Ae.length f.x.b.c)) O (AH (i:=12) (v:=(qz f.x.b.p Ae.length f.x.b.c)) O O C2.a O) (BM (v:=(vN Ae.length)) O (AE O underlying23) ?_)))))))))))
 refine BM (v:=(qa (decide (Ae.length=2)))) O (BL (c:=(decide (Ae.length=2))) O O (N9 (a:=Ae.length) (b:=2))) (AD (v:=(qa (decide (Ae.length=2)))) (AW O O) O (AL O ?_))
 refine ze (FM:=[(0,(qa false)),(1,(pP b4 0)),(2,(qa false)),(3,(vI 0)),(4,(pP b5 0)),(5,(vI 0)),(6,(pP b6 0)),(7,(vI 1)),(8,(vI 0)),(10,(vI 7)),(12,(vI 1)),(53,(qa false)),(54,(qa true)),(55,(qa true)),(56,(vI 0)),(57,(qa true)),(58,(qa true)),(59,(qa true)),(60,(vI 0)),(61,(qa true)),(62,(qa true)),(63,(qa true)),(64,(pP b5 1)),(65,(qz f.x.b.p Ae.length f.x.b.c)),(66,(vN Ae.length)),(67,(qa (decide (Ae.length=2)))),(68,(qa (decide (Ae.length=2)))),(69,(qa (decide (Ae.length=2)))),(76,(qa (decide (Ae.length=2))))]) (LM:=[AX b8 30 ([(qz k.x.a.p 0 k.x.a.c),(qz k.x.b.p 0 k.x.b.c),(qz k.x.c.p 0 k.x.c.c)]),AF k.x.a.p (rowsL AZ ([])),AF k.x.b.p (rowsL Ac ([])),AF k.x.c.p (rowsL BP []),AX b7 30 ([(qz g.x.a.p 0 g.x.a.c),(qz g.x.b.p 0 g.x.b.c),(qz g.x.c.p 0 g.x.c.c)]),AF g.x.a.p (rowsL AZ ([])),AF g.x.b.p (rowsL Ac ([])),AF g.x.c.p (rowsL BP []),AX b6 30 ([(qz d.x.a.p BN.length d.x.a.c),(qz d.x.b.p Ae.length d.x.b.c),(qz d.x.c.p CI.length d.x.c.c)]),AF d.x.a.p (rowsL AZ BN),AF d.x.b.p (rowsL Ac Ae),AF d.x.c.p (rowsL BP CI),AX b5 30 ([(qz f.x.a.p BN.length f.x.a.c),(qz f.x.b.p Ae.length f.x.b.c),(qz f.x.c.p CI.length f.x.c.c)]),AF f.x.a.p (rowsL AZ BN),AF f.x.b.p (rowsL Ac Ae),AF f.x.c.p (rowsL BP CI),AX b4 30 (Dj mm),AF mm.c.p (rowsL Ac I6),AF mm.b.p (rowsL Ac Cp),AF mm.a.p (rowsL AZ BN)]) 7 ?_ ?_
 ·rcases xQ (decide (Ae.length=2)) with hg1|hg1
  ·refine zI (k:=69) (u:=qa true) O (by rw [hg1]) ?_
   have hg1':=xT hg1
   exact BM (v:=(pP b5 1)) O (AA O underlying30 O sizeOf23 O) (BM (v:=(qz f.x.b.p Ae.length f.x.b.c)) O (AH (i:=12) (v:=(qz f.x.b.p Ae.length f.x.b.c)) O O C2.a O) (BM (v:=(pP (pB f.x.b.p) (pO f.x.b.p+0*3))) O (AM (j:=0) O O f.x.b.ok underlying23 sizeOf105 O Z) (BM (v:=(aG (Ac (Ae.getD 0 jJ)))) O (AO (vs:=Ac (Ae.getD 0 jJ)) (i:=14) O O (Ay.ne f.x.b.ok Z) C8 (Af Aq _ _ _ Z) (Aq _)) (BM (v:=(aG (Ac (1,2,3)))) O (Ap (zs:=Ac jJ) (vs:=Ac (1,2,3)) (pv:=[(0,(vI 1)),(1,(vI 2)),(2,(vI 3))]) zeroValue105 underlying105 sizeOf3 O (Dw 1 2 3)) (BM (v:=(qa true)) O (B0 (c:=true) O O eqGuardType105 (Ob (a:=Ae.getD 0 jJ) (b:=(1,2,3)) 9998 (by decide +kernel))) (AD (v:=(qa true)) (AW O O) O (oNl' (zR Cc (xR _)))))))))
  ·refine zI (k:=69) (u:=qa false) O (by rw [hg1]) ?_
   have hg1':=xS hg1
   exact BO O (BO O (BO O (BO O (BO O (BO O (AD (v:=(qa false)) (AQ O O) O (oNl' (zR Cc (xR _)))))))))
 refine AL O ?_
 refine ze (FM:=[(0,(qa false)),(1,(pP b4 0)),(2,(qa false)),(3,(vI 0)),(4,(pP b5 0)),(5,(vI 0)),(6,(pP b6 0)),(7,(vI 1)),(8,(vI 0)),(10,(vI 7)),(12,(vI 1)),(53,(qa false)),(54,(qa true)),(55,(qa true)),(56,(vI 0)),(57,(qa true)),(58,(qa true)),(59,(qa true)),(60,(vI 0)),(61,(qa true)),(62,(qa true)),(63,(qa true)),(64,(pP b5 1)),(65,(qz f.x.b.p Ae.length f.x.b.c)),(66,(vN Ae.length)),(67,(qa (decide (Ae.length=2)))),(68,(qa (decide (Ae.length=2)))),(69,(qa (decide (Ae.length=2)))),(76,(qa (decide (Ae.length=2)))),(77,(qa (decide (Ae.length=2)))),(84,(qa (decide (Ae.length=2))))]) (LM:=[AX b8 30 ([(qz k.x.a.p 0 k.x.a.c),(qz k.x.b.p 0 k.x.b.c),(qz k.x.c.p 0 k.x.c.c)]),AF k.x.a.p (rowsL AZ ([])),AF k.x.b.p (rowsL Ac ([])),AF k.x.c.p (rowsL BP []),AX b7 30 ([(qz g.x.a.p 0 g.x.a.c),(qz g.x.b.p 0 g.x.b.c),(qz g.x.c.p 0 g.x.c.c)]),AF g.x.a.p (rowsL AZ ([])),AF g.x.b.p (rowsL Ac ([])),AF g.x.c.p (rowsL BP []),AX b6 30 ([(qz d.x.a.p BN.length d.x.a.c),(qz d.x.b.p Ae.length d.x.b.c),(qz d.x.c.p CI.length d.x.c.c)]),AF d.x.a.p (rowsL AZ BN),AF d.x.b.p (rowsL Ac Ae),AF d.x.c.p (rowsL BP CI),AX b5 30 ([(qz f.x.a.p BN.length f.x.a.c),(qz f.x.b.p Ae.length f.x.b.c),(qz f.x.c.p CI.length f.x.c.c)]),AF f.x.a.p (rowsL AZ BN),AF f.x.b.p (rowsL Ac Ae),AF f.x.c.p (rowsL BP CI),AX b4 30 (Dj mm),AF mm.c.p (rowsL Ac I6),AF mm.b.p (rowsL Ac Cp),AF mm.a.p (rowsL AZ BN)]) 7 ?_ ?_
 ·rcases xQ (decide (Ae.length=2)) with hg2|hg2
  ·refine zI (k:=77) (u:=qa true) O (by rw [hg2]) ?_
   have hg2':=xT hg2
   exact BM (v:=(pP b5 1)) O (AA O underlying30 O sizeOf23 O) (BM (v:=(qz f.x.b.p Ae.length f.x.b.c)) O (AH (i:=12) (v:=(qz f.x.b.p Ae.length f.x.b.c)) O O C2.a O) (BM (v:=(pP (pB f.x.b.p) (pO f.x.b.p+1*3))) O (AM (j:=1) O O f.x.b.ok underlying23 sizeOf105 O Z) (BM (v:=(aG (Ac (Ae.getD 1 jJ)))) O (AO (vs:=Ac (Ae.getD 1 jJ)) (i:=14) O O (Ay.ne f.x.b.ok Z) C8 (Af Aq _ _ _ Z) (Aq _)) (BM (v:=(aG (Ac (0,1,3)))) O (Ap (zs:=Ac jJ) (vs:=Ac (0,1,3)) (pv:=[(0,(vI 0)),(1,(vI 1)),(2,(vI 3))]) zeroValue105 underlying105 sizeOf3 O (Dw 0 1 3)) (BM (v:=(qa true)) O (B0 (c:=true) O O eqGuardType105 (Ob (a:=Ae.getD 1 jJ) (b:=(0,1,3)) 9998 (by decide +kernel))) (AD (v:=(qa true)) (AW O O) O (oNl' (zR Hi (xR _)))))))))
  ·refine zI (k:=77) (u:=qa false) O (by rw [hg2]) ?_
   have hg2':=xS hg2
   exact BO O (BO O (BO O (BO O (BO O (BO O (AD (v:=(qa false)) (AQ O O) O (oNl' (zR Hi (xR _)))))))))
 refine AL O ?_
 refine ze (FM:=[(0,(qa false)),(1,(pP b4 0)),(2,(qa false)),(3,(vI 0)),(4,(pP b5 0)),(5,(vI 0)),(6,(pP b6 0)),(7,(vI 1)),(8,(vI 0)),(10,(vI 7)),(12,(vI 1)),(53,(qa false)),(54,(qa true)),(55,(qa true)),(56,(vI 0)),(57,(qa true)),(58,(qa true)),(59,(qa true)),(60,(vI 0)),(61,(qa true)),(62,(qa true)),(63,(qa true)),(64,(pP b5 1)),(65,(qz f.x.b.p Ae.length f.x.b.c)),(66,(vN Ae.length)),(67,(qa (decide (Ae.length=2)))),(68,(qa (decide (Ae.length=2)))),(69,(qa (decide (Ae.length=2)))),(76,(qa (decide (Ae.length=2)))),(77,(qa (decide (Ae.length=2)))),(84,(qa (decide (Ae.length=2)))),(85,(qa (decide (Ae.length=2)))),(90,(qa (decide (Ae.length=2))))]) (LM:=[AX b8 30 ([(qz k.x.a.p 0 k.x.a.c),(qz k.x.b.p 0 k.x.b.c),(qz k.x.c.p 0 k.x.c.c)]),AF k.x.a.p (rowsL AZ ([])),AF k.x.b.p (rowsL Ac ([])),AF k.x.c.p (rowsL BP []),AX b7 30 ([(qz g.x.a.p 0 g.x.a.c),(qz g.x.b.p 0 g.x.b.c),(qz g.x.c.p 0 g.x.c.c)]),AF g.x.a.p (rowsL AZ ([])),AF g.x.b.p (rowsL Ac ([])),AF g.x.c.p (rowsL BP []),AX b6 30 ([(qz d.x.a.p BN.length d.x.a.c),(qz d.x.b.p Ae.length d.x.b.c),(qz d.x.c.p CI.length d.x.c.c)]),AF d.x.a.p (rowsL AZ BN),AF d.x.b.p (rowsL Ac Ae),AF d.x.c.p (rowsL BP CI),AX b5 30 ([(qz f.x.a.p BN.length f.x.a.c),(qz f.x.b.p Ae.length f.x.b.c),(qz f.x.c.p CI.length f.x.c.c)]),AF f.x.a.p (rowsL AZ BN),AF f.x.b.p (rowsL Ac Ae),AF f.x.c.p (rowsL BP CI),AX b4 30 (Dj mm),AF mm.c.p (rowsL Ac I6),AF mm.b.p (rowsL Ac Cp),AF mm.a.p (rowsL AZ BN)]) 5 ?_ ?_
 ·rcases xQ (decide (Ae.length=2)) with hg3|hg3
  ·refine zI (k:=85) (u:=qa true) O (by rw [hg3]) ?_
   have hg3':=xT hg3
   exact BM (v:=(aG (Dj mm))) O (Aj (i:=16) (vs:=Dj mm) O O Bz.a Bz.s O O) (zh (v:=(aG (AC (I7 BN Cp)))) (Ab O) (Ar (args:=[(aG (Dj mm))]) O O call31) (λw hw=>aY mm K_ jY jY Nh w (Uq hw [19,18,17] O hmm)) O (BA O) (zh (v:=(Value.string (txB (aF (I7 BN Cp))))) (Ab O) (Ar (args:=[(aG (AC (I7 BN Cp)))]) O O call77) (λw hw=>Md (I7 BN Cp) (by rw [Pu];decide +kernel) (by rw [Pu];decide +kernel) w (hT.below hw.out)) O (BA O) (BM (v:=(qa true)) O (Bj (c:=true) O O (by rw [Pu];decide +kernel)) (AD (v:=(qa true)) (AW O O) O (oNl' (zR PJ (xR _)))))))
  ·refine zI (k:=85) (u:=qa false) O (by rw [hg3]) ?_
   have hg3':=xS hg3
   exact BO O (BO O (BO O (BO O (AD (v:=(qa false)) (AQ O O) O (oNl' (zR PJ (xR _)))))))
 refine AL O ?_
 refine ze (FM:=[(0,(qa false)),(1,(pP b4 0)),(2,(qa false)),(3,(vI 0)),(4,(pP b5 0)),(5,(vI 0)),(6,(pP b6 0)),(7,(vI 1)),(8,(vI 0)),(10,(vI 7)),(12,(vI 1)),(53,(qa false)),(54,(qa true)),(55,(qa true)),(56,(vI 0)),(57,(qa true)),(58,(qa true)),(59,(qa true)),(60,(vI 0)),(61,(qa true)),(62,(qa true)),(63,(qa true)),(64,(pP b5 1)),(65,(qz f.x.b.p Ae.length f.x.b.c)),(66,(vN Ae.length)),(67,(qa (decide (Ae.length=2)))),(68,(qa (decide (Ae.length=2)))),(69,(qa (decide (Ae.length=2)))),(76,(qa (decide (Ae.length=2)))),(77,(qa (decide (Ae.length=2)))),(84,(qa (decide (Ae.length=2)))),(85,(qa (decide (Ae.length=2)))),(90,(qa (decide (Ae.length=2)))),(91,(qa (decide (Ae.length=2)))),(96,(qa (decide (Ae.length=2))))]) (LM:=[AX b8 30 ([(qz k.x.a.p 0 k.x.a.c),(qz k.x.b.p 0 k.x.b.c),(qz k.x.c.p 0 k.x.c.c)]),AF k.x.a.p (rowsL AZ ([])),AF k.x.b.p (rowsL Ac ([])),AF k.x.c.p (rowsL BP []),AX b7 30 ([(qz g.x.a.p 0 g.x.a.c),(qz g.x.b.p 0 g.x.b.c),(qz g.x.c.p 0 g.x.c.c)]),AF g.x.a.p (rowsL AZ ([])),AF g.x.b.p (rowsL Ac ([])),AF g.x.c.p (rowsL BP []),AX b6 30 ([(qz d.x.a.p BN.length d.x.a.c),(qz d.x.b.p Ae.length d.x.b.c),(qz d.x.c.p CI.length d.x.c.c)]),AF d.x.a.p (rowsL AZ BN),AF d.x.b.p (rowsL Ac Ae),AF d.x.c.p (rowsL BP CI),AX b5 30 ([(qz f.x.a.p BN.length f.x.a.c),(qz f.x.b.p Ae.length f.x.b.c),(qz f.x.c.p CI.length f.x.c.c)]),AF f.x.a.p (rowsL AZ BN),AF f.x.b.p (rowsL Ac Ae),AF f.x.c.p (rowsL BP CI),AX b4 30 (Dj mm),AF mm.c.p (rowsL Ac I6),AF mm.b.p (rowsL Ac Cp),AF mm.a.p (rowsL AZ BN)]) 5 ?_ ?_
 ·rcases xQ (decide (Ae.length=2)) with hg4|hg4
  ·refine zI (k:=91) (u:=qa true) O (by rw [hg4]) ?_
   have hg4':=xT hg4
   exact BM (v:=(aG ([(qz f.x.a.p BN.length f.x.a.c),(qz f.x.b.p Ae.length f.x.b.c),(qz f.x.c.p CI.length f.x.c.c)]))) O (Aj (i:=12) (vs:=[(qz f.x.a.p BN.length f.x.a.c),(qz f.x.b.p Ae.length f.x.b.c),(qz f.x.c.p CI.length f.x.c.c)]) O O Bz.a Bz.s O O) (zh (v:=(aG (AC (I7 BN Ae)))) (Ab O) (Ar (args:=[(aG ([(qz f.x.a.p BN.length f.x.a.c),(qz f.x.b.p Ae.length f.x.b.c),(qz f.x.c.p CI.length f.x.c.c)]))]) O O call31) (λw hw=>Qe f.x jY jY Nh Uy w (Uq (a:=f.x) hw [13,14,15] O lf)) O (BA O) (zh (v:=(Value.string (txB (aF (I7 BN Ae))))) (Ab O) (Ar (args:=[(aG (AC (I7 BN Ae)))]) O O call77) (λw hw=>Md (I7 BN Ae) (by rw [Pv];decide +kernel) (by rw [Pv];decide +kernel) w (hT.below hw.out)) O (BA O) (BM (v:=(qa true)) O (Bj (c:=true) O O (by rw [Pv];decide +kernel)) (AD (v:=(qa true)) (AW O O) O (oNl' (zR PK (xR _)))))))
  ·refine zI (k:=91) (u:=qa false) O (by rw [hg4]) ?_
   have hg4':=xS hg4
   exact BO O (BO O (BO O (BO O (AD (v:=(qa false)) (AQ O O) O (oNl' (zR PK (xR _)))))))
 refine AL O ?_
 refine ze (FM:=[(0,(qa false)),(1,(pP b4 0)),(2,(qa false)),(3,(vI 0)),(4,(pP b5 0)),(5,(vI 0)),(6,(pP b6 0)),(7,(vI 1)),(8,(vI 0)),(10,(vI 7)),(12,(vI 1)),(53,(qa false)),(54,(qa true)),(55,(qa true)),(56,(vI 0)),(57,(qa true)),(58,(qa true)),(59,(qa true)),(60,(vI 0)),(61,(qa true)),(62,(qa true)),(63,(qa true)),(64,(pP b5 1)),(65,(qz f.x.b.p Ae.length f.x.b.c)),(66,(vN Ae.length)),(67,(qa (decide (Ae.length=2)))),(68,(qa (decide (Ae.length=2)))),(69,(qa (decide (Ae.length=2)))),(76,(qa (decide (Ae.length=2)))),(77,(qa (decide (Ae.length=2)))),(84,(qa (decide (Ae.length=2)))),(85,(qa (decide (Ae.length=2)))),(90,(qa (decide (Ae.length=2)))),(91,(qa (decide (Ae.length=2)))),(96,(qa (decide (Ae.length=2)))),(97,(qa (decide (Ae.length=2)))),(100,(qa (decide (Ae.length=2))))]) (LM:=[AX b8 30 ([(qz k.x.a.p 0 k.x.a.c),(qz k.x.b.p 0 k.x.b.c),(qz k.x.c.p 0 k.x.c.c)]),AF k.x.a.p (rowsL AZ ([])),AF k.x.b.p (rowsL Ac ([])),AF k.x.c.p (rowsL BP []),AX b7 30 ([(qz g.x.a.p 0 g.x.a.c),(qz g.x.b.p 0 g.x.b.c),(qz g.x.c.p 0 g.x.c.c)]),AF g.x.a.p (rowsL AZ ([])),AF g.x.b.p (rowsL Ac ([])),AF g.x.c.p (rowsL BP []),AX b6 30 ([(qz d.x.a.p BN.length d.x.a.c),(qz d.x.b.p Ae.length d.x.b.c),(qz d.x.c.p CI.length d.x.c.c)]),AF d.x.a.p (rowsL AZ BN),AF d.x.b.p (rowsL Ac Ae),AF d.x.c.p (rowsL BP CI),AX b5 30 ([(qz f.x.a.p BN.length f.x.a.c),(qz f.x.b.p Ae.length f.x.b.c),(qz f.x.c.p CI.length f.x.c.c)]),AF f.x.a.p (rowsL AZ BN),AF f.x.b.p (rowsL Ac Ae),AF f.x.c.p (rowsL BP CI),AX b4 30 (Dj mm),AF mm.c.p (rowsL Ac I6),AF mm.b.p (rowsL Ac Cp),AF mm.a.p (rowsL AZ BN)]) 3 ?_ ?_
 ·rcases xQ (decide (Ae.length=2)) with hg5|hg5
  ·refine zI (k:=97) (u:=qa true) O (by rw [hg5]) ?_
   have hg5':=xT hg5
   exact Hk O (BM (v:=(qa true)) O (BL (c:=true) O O jY) (AD (v:=(qa true)) (AW O O) O (oNl' (zR PL (xR _)))))
  ·refine zI (k:=97) (u:=qa false) O (by rw [hg5]) ?_
   have hg5':=xS hg5
   exact BO O (BO O (AD (v:=(qa false)) (AQ O O) O (oNl' (zR PL (xR _)))))
 refine AL O ?_
 refine ze (FM:=[(0,(qa false)),(1,(pP b4 0)),(2,(qa false)),(3,(vI 0)),(4,(pP b5 0)),(5,(vI 0)),(6,(pP b6 0)),(7,(vI 1)),(8,(vI 0)),(10,(vI 7)),(12,(vI 1)),(53,(qa false)),(54,(qa true)),(55,(qa true)),(56,(vI 0)),(57,(qa true)),(58,(qa true)),(59,(qa true)),(60,(vI 0)),(61,(qa true)),(62,(qa true)),(63,(qa true)),(64,(pP b5 1)),(65,(qz f.x.b.p Ae.length f.x.b.c)),(66,(vN Ae.length)),(67,(qa (decide (Ae.length=2)))),(68,(qa (decide (Ae.length=2)))),(69,(qa (decide (Ae.length=2)))),(76,(qa (decide (Ae.length=2)))),(77,(qa (decide (Ae.length=2)))),(84,(qa (decide (Ae.length=2)))),(85,(qa (decide (Ae.length=2)))),(90,(qa (decide (Ae.length=2)))),(91,(qa (decide (Ae.length=2)))),(96,(qa (decide (Ae.length=2)))),(97,(qa (decide (Ae.length=2)))),(100,(qa (decide (Ae.length=2)))),(101,(qa (decide (Ae.length=2)))),(104,(qa (decide (Ae.length=2))))]) (LM:=[AX b8 30 ([(qz k.x.a.p 0 k.x.a.c),(qz k.x.b.p 0 k.x.b.c),(qz k.x.c.p 0 k.x.c.c)]),AF k.x.a.p (rowsL AZ ([])),AF k.x.b.p (rowsL Ac ([])),AF k.x.c.p (rowsL BP []),AX b7 30 ([(qz g.x.a.p 0 g.x.a.c),(qz g.x.b.p 0 g.x.b.c),(qz g.x.c.p 0 g.x.c.c)]),AF g.x.a.p (rowsL AZ ([])),AF g.x.b.p (rowsL Ac ([])),AF g.x.c.p (rowsL BP []),AX b6 30 ([(qz d.x.a.p BN.length d.x.a.c),(qz d.x.b.p Ae.length d.x.b.c),(qz d.x.c.p CI.length d.x.c.c)]),AF d.x.a.p (rowsL AZ BN),AF d.x.b.p (rowsL Ac Ae),AF d.x.c.p (rowsL BP CI),AX b5 30 ([(qz f.x.a.p BN.length f.x.a.c),(qz f.x.b.p Ae.length f.x.b.c),(qz f.x.c.p CI.length f.x.c.c)]),AF f.x.a.p (rowsL AZ BN),AF f.x.b.p (rowsL Ac Ae),AF f.x.c.p (rowsL BP CI),AX b4 30 (Dj mm),AF mm.c.p (rowsL Ac I6),AF mm.b.p (rowsL Ac Cp),AF mm.a.p (rowsL AZ BN)]) 3 ?_ ?_
 ·rcases xQ (decide (Ae.length=2)) with hg6|hg6
  ·refine zI (k:=101) (u:=qa true) O (by rw [hg6]) ?_
   have hg6':=xT hg6
   exact Hk O (BM (v:=(qa true)) O (BL (c:=true) O O jY) (AD (v:=(qa true)) (AW O O) O (oNl' (zR Yr (xR _)))))
  ·refine zI (k:=101) (u:=qa false) O (by rw [hg6]) ?_
   have hg6':=xS hg6
   exact BO O (BO O (AD (v:=(qa false)) (AQ O O) O (oNl' (zR Yr (xR _)))))
 refine AL O ?_
 refine ze (FM:=[(0,(qa false)),(1,(pP b4 0)),(2,(qa false)),(3,(vI 0)),(4,(pP b5 0)),(5,(vI 0)),(6,(pP b6 0)),(7,(vI 1)),(8,(vI 0)),(10,(vI 7)),(12,(vI 1)),(53,(qa false)),(54,(qa true)),(55,(qa true)),(56,(vI 0)),(57,(qa true)),(58,(qa true)),(59,(qa true)),(60,(vI 0)),(61,(qa true)),(62,(qa true)),(63,(qa true)),(64,(pP b5 1)),(65,(qz f.x.b.p Ae.length f.x.b.c)),(66,(vN Ae.length)),(67,(qa (decide (Ae.length=2)))),(68,(qa (decide (Ae.length=2)))),(69,(qa (decide (Ae.length=2)))),(76,(qa (decide (Ae.length=2)))),(77,(qa (decide (Ae.length=2)))),(84,(qa (decide (Ae.length=2)))),(85,(qa (decide (Ae.length=2)))),(90,(qa (decide (Ae.length=2)))),(91,(qa (decide (Ae.length=2)))),(96,(qa (decide (Ae.length=2)))),(97,(qa (decide (Ae.length=2)))),(100,(qa (decide (Ae.length=2)))),(101,(qa (decide (Ae.length=2)))),(104,(qa (decide (Ae.length=2)))),(105,(qa (decide (Ae.length=2)))),(109,(qa (decide (Ae.length=2))))]) (LM:=[AX b8 30 ([(qz k.x.a.p 0 k.x.a.c),(qz k.x.b.p 0 k.x.b.c),(qz k.x.c.p 0 k.x.c.c)]),AF k.x.a.p (rowsL AZ ([])),AF k.x.b.p (rowsL Ac ([])),AF k.x.c.p (rowsL BP []),AX b7 30 ([(qz g.x.a.p 0 g.x.a.c),(qz g.x.b.p 0 g.x.b.c),(qz g.x.c.p 0 g.x.c.c)]),AF g.x.a.p (rowsL AZ ([])),AF g.x.b.p (rowsL Ac ([])),AF g.x.c.p (rowsL BP []),AX b6 30 ([(qz d.x.a.p BN.length d.x.a.c),(qz d.x.b.p Ae.length d.x.b.c),(qz d.x.c.p CI.length d.x.c.c)]),AF d.x.a.p (rowsL AZ BN),AF d.x.b.p (rowsL Ac Ae),AF d.x.c.p (rowsL BP CI),AX b5 30 ([(qz f.x.a.p BN.length f.x.a.c),(qz f.x.b.p Ae.length f.x.b.c),(qz f.x.c.p CI.length f.x.c.c)]),AF f.x.a.p (rowsL AZ BN),AF f.x.b.p (rowsL Ac Ae),AF f.x.c.p (rowsL BP CI),AX b4 30 (Dj mm),AF mm.c.p (rowsL Ac I6),AF mm.b.p (rowsL Ac Cp),AF mm.a.p (rowsL AZ BN)]) 4 ?_ ?_
 ·rcases xQ (decide (Ae.length=2)) with hg7|hg7
  ·refine zI (k:=105) (u:=qa true) O (by rw [hg7]) ?_
   have hg7':=xT hg7
   exact BM (v:=(aG ([(qz d.x.a.p BN.length d.x.a.c),(qz d.x.b.p Ae.length d.x.b.c),(qz d.x.c.p CI.length d.x.c.c)]))) O (Aj (i:=8) (vs:=[(qz d.x.a.p BN.length d.x.a.c),(qz d.x.b.p Ae.length d.x.b.c),(qz d.x.c.p CI.length d.x.c.c)]) O O Bz.a Bz.s O O) (BM (v:=(aG ([(qz f.x.a.p BN.length f.x.a.c),(qz f.x.b.p Ae.length f.x.b.c),(qz f.x.c.p CI.length f.x.c.c)]))) O (Aj (i:=12) (vs:=[(qz f.x.a.p BN.length f.x.a.c),(qz f.x.b.p Ae.length f.x.b.c),(qz f.x.c.p CI.length f.x.c.c)]) O O Bz.a Bz.s O O) (zh (v:=(qa true)) (Ab O) (Ar (args:=[(aG ([(qz d.x.a.p BN.length d.x.a.c),(qz d.x.b.p Ae.length d.x.b.c),(qz d.x.c.p CI.length d.x.c.c)])),(aG ([(qz f.x.a.p BN.length f.x.a.c),(qz f.x.b.p Ae.length f.x.b.c),(qz f.x.c.p CI.length f.x.c.c)]))]) O O call78) (λw hw=>Tb d.x f.x jY jY jY w (Uq (a:=d.x) hw [9,10,11] O ld) (Uq (a:=f.x) hw [13,14,15] O lf)) O (BA O) (AD (v:=(qa true)) (AW O O) O (oNl' (zR bh (xR _))))))
  ·refine zI (k:=105) (u:=qa false) O (by rw [hg7]) ?_
   have hg7':=xS hg7
   exact BO O (BO O (BO O (AD (v:=(qa false)) (AQ O O) O (oNl' (zR bh (xR _))))))
 refine AL O ?_
 refine ze (FM:=[(0,(qa false)),(1,(pP b4 0)),(2,(qa false)),(3,(vI 0)),(4,(pP b5 0)),(5,(vI 0)),(6,(pP b6 0)),(7,(vI 1)),(8,(vI 0)),(10,(vI 7)),(12,(vI 1)),(53,(qa false)),(54,(qa true)),(55,(qa true)),(56,(vI 0)),(57,(qa true)),(58,(qa true)),(59,(qa true)),(60,(vI 0)),(61,(qa true)),(62,(qa true)),(63,(qa true)),(64,(pP b5 1)),(65,(qz f.x.b.p Ae.length f.x.b.c)),(66,(vN Ae.length)),(67,(qa (decide (Ae.length=2)))),(68,(qa (decide (Ae.length=2)))),(69,(qa (decide (Ae.length=2)))),(76,(qa (decide (Ae.length=2)))),(77,(qa (decide (Ae.length=2)))),(84,(qa (decide (Ae.length=2)))),(85,(qa (decide (Ae.length=2)))),(90,(qa (decide (Ae.length=2)))),(91,(qa (decide (Ae.length=2)))),(96,(qa (decide (Ae.length=2)))),(97,(qa (decide (Ae.length=2)))),(100,(qa (decide (Ae.length=2)))),(101,(qa (decide (Ae.length=2)))),(104,(qa (decide (Ae.length=2)))),(105,(qa (decide (Ae.length=2)))),(109,(qa (decide (Ae.length=2)))),(110,(qa (decide (Ae.length=2)))),(113,(qa (decide (Ae.length=2))))]) (LM:=[AX b8 30 ([(qz k.x.a.p 0 k.x.a.c),(qz k.x.b.p 0 k.x.b.c),(qz k.x.c.p 0 k.x.c.c)]),AF k.x.a.p (rowsL AZ ([])),AF k.x.b.p (rowsL Ac ([])),AF k.x.c.p (rowsL BP []),AX b7 30 ([(qz g.x.a.p 0 g.x.a.c),(qz g.x.b.p 0 g.x.b.c),(qz g.x.c.p 0 g.x.c.c)]),AF g.x.a.p (rowsL AZ ([])),AF g.x.b.p (rowsL Ac ([])),AF g.x.c.p (rowsL BP []),AX b6 30 ([(qz d.x.a.p BN.length d.x.a.c),(qz d.x.b.p Ae.length d.x.b.c),(qz d.x.c.p CI.length d.x.c.c)]),AF d.x.a.p (rowsL AZ BN),AF d.x.b.p (rowsL Ac Ae),AF d.x.c.p (rowsL BP CI),AX b5 30 ([(qz f.x.a.p BN.length f.x.a.c),(qz f.x.b.p Ae.length f.x.b.c),(qz f.x.c.p CI.length f.x.c.c)]),AF f.x.a.p (rowsL AZ BN),AF f.x.b.p (rowsL Ac Ae),AF f.x.c.p (rowsL BP CI),AX b4 30 (Dj mm),AF mm.c.p (rowsL Ac I6),AF mm.b.p (rowsL Ac Cp),AF mm.a.p (rowsL AZ BN)]) 3 ?_ ?_
 ·rcases xQ (decide (Ae.length=2)) with hg8|hg8
  ·refine zI (k:=110) (u:=qa true) O (by rw [hg8]) ?_
   have hg8':=xT hg8
   exact Hk O (BM (v:=(qa true)) O (BL (c:=true) O O jY) (AD (v:=(qa true)) (AW O O) O (oNl' (zR bj (xR _)))))
  ·refine zI (k:=110) (u:=qa false) O (by rw [hg8]) ?_
   have hg8':=xS hg8
   exact BO O (BO O (AD (v:=(qa false)) (AQ O O) O (oNl' (zR bj (xR _)))))
 refine AL O ?_
 refine ze (FM:=[(0,(qa false)),(1,(pP b4 0)),(2,(qa false)),(3,(vI 0)),(4,(pP b5 0)),(5,(vI 0)),(6,(pP b6 0)),(7,(vI 1)),(8,(vI 0)),(10,(vI 7)),(12,(vI 1)),(53,(qa false)),(54,(qa true)),(55,(qa true)),(56,(vI 0)),(57,(qa true)),(58,(qa true)),(59,(qa true)),(60,(vI 0)),(61,(qa true)),(62,(qa true)),(63,(qa true)),(64,(pP b5 1)),(65,(qz f.x.b.p Ae.length f.x.b.c)),(66,(vN Ae.length)),(67,(qa (decide (Ae.length=2)))),(68,(qa (decide (Ae.length=2)))),(69,(qa (decide (Ae.length=2)))),(76,(qa (decide (Ae.length=2)))),(77,(qa (decide (Ae.length=2)))),(84,(qa (decide (Ae.length=2)))),(85,(qa (decide (Ae.length=2)))),(90,(qa (decide (Ae.length=2)))),(91,(qa (decide (Ae.length=2)))),(96,(qa (decide (Ae.length=2)))),(97,(qa (decide (Ae.length=2)))),(100,(qa (decide (Ae.length=2)))),(101,(qa (decide (Ae.length=2)))),(104,(qa (decide (Ae.length=2)))),(105,(qa (decide (Ae.length=2)))),(109,(qa (decide (Ae.length=2)))),(110,(qa (decide (Ae.length=2)))),(113,(qa (decide (Ae.length=2)))),(114,(qa (decide (Ae.length=2)))),(117,(qa (decide (Ae.length=2))))]) (LM:=[AX b8 30 ([(qz k.x.a.p 0 k.x.a.c),(qz k.x.b.p 0 k.x.b.c),(qz k.x.c.p 0 k.x.c.c)]),AF k.x.a.p (rowsL AZ ([])),AF k.x.b.p (rowsL Ac ([])),AF k.x.c.p (rowsL BP []),AX b7 30 ([(qz g.x.a.p 0 g.x.a.c),(qz g.x.b.p 0 g.x.b.c),(qz g.x.c.p 0 g.x.c.c)]),AF g.x.a.p (rowsL AZ ([])),AF g.x.b.p (rowsL Ac ([])),AF g.x.c.p (rowsL BP []),AX b6 30 ([(qz d.x.a.p BN.length d.x.a.c),(qz d.x.b.p Ae.length d.x.b.c),(qz d.x.c.p CI.length d.x.c.c)]),AF d.x.a.p (rowsL AZ BN),AF d.x.b.p (rowsL Ac Ae),AF d.x.c.p (rowsL BP CI),AX b5 30 ([(qz f.x.a.p BN.length f.x.a.c),(qz f.x.b.p Ae.length f.x.b.c),(qz f.x.c.p CI.length f.x.c.c)]),AF f.x.a.p (rowsL AZ BN),AF f.x.b.p (rowsL Ac Ae),AF f.x.c.p (rowsL BP CI),AX b4 30 (Dj mm),AF mm.c.p (rowsL Ac I6),AF mm.b.p (rowsL Ac Cp),AF mm.a.p (rowsL AZ BN)]) 3 ?_ ?_
 ·rcases xQ (decide (Ae.length=2)) with hg9|hg9
  ·refine zI (k:=114) (u:=qa true) O (by rw [hg9]) ?_
   have hg9':=xT hg9
   exact Hk O (BM (v:=(qa true)) O (BL (c:=true) O O jY) (AD (v:=(qa true)) (AW O O) O (oNl' (zR bn (xR _)))))
  ·refine zI (k:=114) (u:=qa false) O (by rw [hg9]) ?_
   have hg9':=xS hg9
   exact BO O (BO O (AD (v:=(qa false)) (AQ O O) O (oNl' (zR bn (xR _)))))
 exact asg' O (oNl' (zB (sL [0,1,4,6] O) (zA (zF (ret_one O (rd_tmp (v:=(qa (decide (Ae.length=2)))) O) (λw hw=>⟨rfl,hw.out⟩))))))
end
end Go.Proofs.YtpolhpjiahbidaaGreatDoor
