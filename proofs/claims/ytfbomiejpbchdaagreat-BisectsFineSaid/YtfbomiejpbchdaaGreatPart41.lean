import Derived.Test.YtfbomiejpbchdaaGreatPart06
import Derived.Test.YtfbomiejpbchdaaGreatPart07
import Derived.Test.YtfbomiejpbchdaaGreatPart24
import Derived.Test.YtfbomiejpbchdaaGreatPart32
import Derived.Test.YtfbomiejpbchdaaGreatPart34
import Derived.Test.YtfbomiejpbchdaaGreatPart40
namespace Go.Proofs.YtfbomiejpbchdaaGreat
open Go Go.RowKit Go.Proofs.Tryz
set_option linter.unusedVariables false
set_option linter.unusedSimpArgs false
section
set_option maxRecDepth 100000
theorem Ye (us:List Bool) (n:Nat) (x:RX (bL us) n) (hn:us.length=n) (hl:n<=1000000) (hu:∀j,j<n->us.getD j false=true) (w:World) {S:Nat->Prop} (hx:Ro S w x):Calls prog 177 #[(Value.slice x.p n x.c),(Value.bool false)] w (Av w (vI (-1:Int))):=by
 have lx:=EA (W:=w) hx
 refine BF (args:=[(Value.slice x.p n x.c),(Value.bool false)]) (L:=[AZ x.p (bL us)]) func177 O O (Ab O) (EB hx BR) (AF.subF (sL [0,1] O) (q4 (AO O (AE.nil (q1 ?_)))))
 refine q4 (AR O (AI (v:=(vN n)) (AG O underlying208) O (AR O (AE.nil (AC.subF (sL [0,1,4,7,8] O) ?_)))))
 refine AC.then_ (AF.block ?_)
 refine AF.lp1 (tg λ(j:Nat)=>j<=n) (tg λ(j:Nat)=>[(0,(Value.slice x.p n x.c)),(1,(Value.bool false)),(7,(vN n)),(8,(vN j))]) (tg λ(j:Nat)=>[AZ x.p (bL us)]) (tg λ(j:Nat)=>n-j) 0 (Nat.zero_le _) (sF O) sr (λj hJ=>?_)
 have hj:=hJ
 refine q4 (AI (Am (c:=(decide (j<n))) O O (C6 (a:=j) (b:=n))) O (AE.nil (q1 ?_)))
 refine AF.cond O (λhc0=>?_) (λhc0=>?_)
 ·replace hc0:=of_decide_eq_true hc0
  refine AF.skip (q1 (AF.block (q4 (AR O (AO O ?_)))))
  refine q3 (sL [0,1,7,8,5] O) (AR O (AR O (AR O (AI (v:=(pP (pB x.p) (pO x.p+j*1))) (AQ (j:=j) O O x.ok underlying208 sizeOf4 O Z) O (AI (Ai (v:=(Value.bool (us.getD j false))) (i:=0) O O (x.ok.ne Z) VT (X1 (us:=us) (j:=j) Z)) O ?_)))))
  refine AI (I8 (c:=false) O O underlying4 (by rw [hu j Z];rfl)) O (AE.nil (AC.subF (sL [0,1,7,8,5,16] O) (AC.then_ (AF.cond_false O (AF.skip ?_)))))
  refine AC.in_normal (AC.then_ (AF.region (AI (AY (c:=((j+1:Nat):Int)) O O (AX (a:=j) (b:=1) Z)) O (AR O (AE.nil ?_)))))
  exact AC.subF (sL [0,1,7,8,5] O) (AC.round1 (j+1) Z Z (sF O) sr)
 ·replace hc0:=of_decide_eq_false hc0
  refine AF.exit (AC.then_exit (AC.round1_exit (AC.in_exit (q2 (AO O ?_)))))
  exact AE.nil (AC.then_ (AF.ret (AT O (Ak (v:=(vI (-1:Int))) O) (λw hw=>⟨rfl,hw.out⟩))))
theorem Sq (us:List Bool) (n:Nat) (x:RX (bL us) n) (hn:us.length=n) (hl:n<=1000000) (hu:∀j,j<n->us.getD j false=true) (w:World) {S:Nat->Prop} (hx:Ro S w x):Calls prog 129 #[(Value.slice x.p n x.c),(Value.bool false)] w (Av w (Value.bool false)):=by
 have lx:=EA (W:=w) hx
 refine BF (args:=[(Value.slice x.p n x.c),(Value.bool false)]) (L:=[AZ x.p (bL us)]) func129 O O (Ab O) (EB hx BR) (AF.subF (sL [0,1] O) (q4 (AO O (AE.nil (q2 ?_)))))
 refine AR O (AR O (Ew call177 (λw hw=>Ye us n x hn hl hu w (DB hw 0 O lx)) O (AI (DD (c:=false) O O (by decide)) O (AO O (AE.nil ?_)))))
 exact AC.subF (sL [4] O) (AC.then_ (AF.ret (AT O (Ak (v:=(Value.bool false)) O) (λw hw=>⟨rfl,hw.out⟩))))
theorem Pv (ys:List Pt) (n:Nat) (x:RX (rowsL Aj ys) n) (hn:ys.length=n) (hl:n<=1000000) (hy:ys.Nodup) (w:World) {S:Nat->Prop} (hx:Ro S w x):Calls prog 132 #[(Value.slice x.p n x.c)] w (Av w (Value.slice x.p n x.c)):=by
 have lx:=EA (W:=w) hx
 refine BF (args:=[(Value.slice x.p n x.c)]) (L:=[AZ x.p (rowsL Aj ys)]) func132 O O (Ab O) (EB hx BR) (AF.subF (sL [0] O) (q4 (AO O (AE.nil (q1 ?_)))))
 refine q4 (AR O (AI (v:=(vN n)) (AG O underlying27) O (AI (Am (c:=(decide (n<2))) O O (C6 (a:=n) (b:=2))) O (AE.nil (AC.subF (sL [0,2,8] O) ?_)))))
 refine AC.then_ ?_
 refine AF.cond O (λhc0=>?_) (λhc0=>?_)
 ·replace hc0:=of_decide_eq_true hc0
  refine q4 (AR O (AO O (AE.nil (AC.subF (sL [0,2] O) (AC.then_ ?_)))))
  exact AF.ret (AC.then_ret (AT O (Ak (v:=(Value.slice x.p n x.c)) O) (λw hw=>⟨rfl,hw.out⟩)))
 ·replace hc0:=of_decide_eq_false hc0
  refine AF.skip (q1 (q4 (AO O (AE.nil (AC.then_ ?_)))))
  refine AF.block ?_
  refine AF.lp1 (tg λ(k:Nat)=>1<=k/\k<=n) (tg λ(k:Nat)=>[(0,(Value.slice x.p n x.c)),(3,(vN k))]) (tg λ(k:Nat)=>[AZ x.p (rowsL Aj ys)]) (tg λ(k:Nat)=>n-k) 1 (⟨Nat.le_refl _,Z⟩) (sF O) sr (λk hJ=>?_)
  obtain ⟨hk1,hk⟩:=hJ
  refine AF.seq (q4 (AR O (AR O (AI (v:=(vN n)) (AG O underlying27) O (AI (Am (c:=(decide (k<n))) O O (C6 (a:=k) (b:=n))) O ?_)))))
  refine AE.nil (AC.subF (sL [0,3,13] O) (AC.then_ ?_))
  refine AF.cond O (λhc1=>?_) (λhc1=>?_)
  ·replace hc1:=of_decide_eq_true hc1
   refine AF.skip (q1 (AF.block (AF.seq (Cu [(0,true),(1,true),(2,true),(3,true),(4,true),(5,true),(6,true),(7,true),(8,true),(9,true)] sr (Bf O ?_)))))
   refine Bf O (Ax (v:=(pP (pB x.p) (pO x.p+k*10))) O (AQ (j:=k) O O x.ok underlying27 sizeOf55 O Z) (Ax (v:=(aG (Aj (ys.getD k (⟨0,0⟩:Pt))))) O (AW (vs:=Aj (ys.getD k (⟨0,0⟩:Pt))) (i:=0) O O (BQ.ne x.ok Z) BG (Aw BT _ _ _ Z) (BT _)) (Bf O (Bf O (Ax O (Br (c:=((k-1:Nat):Int)) O O (Ch (a:=k) (b:=1) Z Z)) ?_)))))
   refine Ax (v:=(pP (pB x.p) (pO x.p+(k-1)*10))) O (AQ (j:=k-1) O O x.ok underlying27 sizeOf55 O Z) (Ax (v:=(aG (Aj (ys.getD (k-1) (⟨0,0⟩:Pt))))) O (AW (vs:=Aj (ys.getD (k-1) (⟨0,0⟩:Pt))) (i:=0) O O (BQ.ne x.ok Z) BG (Aw BT _ _ _ Z) (BT _)) (Ax O (Bt (c:=decide (ys.getD k (⟨0,0⟩:Pt)=ys.getD (k-1) (⟨0,0⟩:Pt))) O O eqGuardType55 (Xu 9994 (ys.getD k (⟨0,0⟩:Pt)) (ys.getD (k-1) (⟨0,0⟩:Pt)))) (AV.nil (AC.subF (sL [0,3,25] O) (AC.then_ ?_)))))
   refine AF.cond O (λhc2=>?_) (λhc2=>?_)
   ·replace hc2:=of_decide_eq_true hc2
    exact (RW hy Z Z hc2).elim
   ·replace hc2:=of_decide_eq_false hc2
    refine AF.skip (AC.in_normal (AC.then_ (AF.region (AR O (AI (AY (c:=((k+1:Nat):Int)) O O (AX (a:=k) (b:=1) Z)) O ?_)))))
    exact AO O (AE.nil (AC.subF (sL [0,3] O) (AC.round1 (k+1) (⟨Z,Z⟩) Z (sF O) sr)))
  ·replace hc1:=of_decide_eq_false hc1
   refine AF.exit (AC.then_exit (AC.round1_exit (AC.in_exit (q2 (AR O ?_)))))
   exact AO O (AE.nil (AC.subF (sL [0,3,2] O) (AC.then_ (AF.ret (AT O (Ak (v:=(Value.slice x.p n x.c)) O) (λw hw=>⟨rfl,hw.out⟩))))))
theorem ZG:Oz prog 208 4 (.bool false) 1:=⟨underlying208,_,_,rfl,rfl,rfl,rfl,rfl⟩
set_option maxHeartbeats 1000000 in
theorem V1 {ps:List Pt} {ts ss:List T3} (x:MX ps ts ss) (hv:Lv ps ts ss) (w:World) {S:Nat->Prop} (hx:Ro S w x):Calls prog 58 #[(aG (Bk x))] w (Av w (Value.bool true)):=by
 have hp:=hv.pl
 have htl:=hv.tl
 have hsl:=hv.sl
 have h0:=hv.t0
 have hbp:∀p∈ps,B5 p<=1000:=λp hp=>by obtain ⟨j,hj,rfl⟩:=List.getElem_of_mem hp;have h9:=hv.sz j;rwa [cor,List.getD,List.getElem?_eq_getElem hj] at h9
 have hps0:0<ps.length:=by have h9:=(C4 (CU hv.num hv.t0)).1;omega
 have lx:=EA (W:=w) hx
 refine BF (args:=[(aG (Bk x))]) (L:=[AZ x.a.p (rowsL Aj ps),AZ x.b.p (rowsL An ts),AZ x.c.p (rowsL An ss)]) func58 O O (Ab O) (EB hx BR) (AF.subF (sL [0] O) (q4 (Bo (cs:=Bk x) O λb1=>AO O (q3 (sL [1,2] O) ?_))))
 refine AI (v:=(pP b1 0)) (AA O underlying31 O sizeOf27 O) O (BK 0 (Value.slice x.a.p ps.length x.a.c) Du O (AI (v:=(vN ps.length)) (AG O underlying27) O ?_))
 refine AE.makeBool (m:=ps.length) ZG O O Z O O ?_;intro bm hbm;rw [Rr ts ps.length]
 refine AO O (q6 (sL [1,2,3] O) (q4 (AI (v:=(pP b1 1)) (AA O underlying31 O sizeOf28 O) O (BK 1 (Value.slice x.b.p ts.length x.b.c) CR O (AI (v:=(vN ts.length)) (AG O underlying28) O ?_)))))
 refine AR O (AE.nil (AC.subF (sL [1,2,3,12,13,14] O) (AC.then_ (AF.block ?_))))
 refine AF.lp1 (tg λ(t:Nat)=>t<=ts.length) (tg λ(t:Nat)=>[(1,(pP b1 0)),(2,(Value.bool false)),(3,(Value.slice (some ⟨bm,0,none⟩) ps.length ps.length)),(12,(Value.slice x.b.p ts.length x.b.c)),(13,(vN ts.length)),(14,(vN t))]) (tg λ(t:Nat)=>[rowW (some ⟨bm,0,none⟩) 4 1 ps.length ps.length (bL (K7 ts ps.length t)),Af b1 31 (Bk x),AZ x.a.p (rowsL Aj ps),AZ x.b.p (rowsL An ts),AZ x.c.p (rowsL An ss)]) (tg λ(t:Nat)=>ts.length-t) 0 (Nat.zero_le _) (sF O) sr (λt hJ=>?_)
 have ht:=hJ
 refine q4 (AI (Am (c:=(decide (t<ts.length))) O O (C6 (a:=t) (b:=ts.length))) O (AE.nil (q1 ?_)))
 refine AF.cond O (λhc0=>?_) (λhc0=>?_)
 ·replace hc0:=of_decide_eq_true hc0
  obtain ⟨T,hT⟩:∃q,q=ts.getD t (0,0,0):=⟨_,rfl⟩
  obtain ⟨g1,g2,g3⟩:=C4 (CU hv.num hc0)
  rw [<-hT] at g1 g2 g3
  refine AF.skip (q1 (AF.block (q4 (AI (v:=(pP (pB x.b.p) (pO x.b.p+t*3))) (AQ (j:=t) O O x.b.ok underlying28 sizeOf76 O Z) O (AI (v:=(aG (An (ts.getD t ((0,0,0):Nat×Nat×Nat))))) (AW (vs:=An (ts.getD t ((0,0,0):Nat×Nat×Nat))) (i:=3) O O (BQ.ne x.b.ok Z) Ej (Aw Ar _ _ _ Z) (Ar _)) O ?_)))))
  refine AE.retell (k:=17) (u:=(aG (An T))) O (by rw [hT]) (al Nc O λb2=>Aq O sizeOf76 O (AE.nil (AC.subF (sL [1,2,3,12,13,14,5] O) (AC.then_ ?_))))
  refine Cu [(0,true),(1,true),(2,true),(3,true),(4,true),(5,true),(6,true),(7,true),(8,true),(9,true),(10,false),(11,true),(12,false),(13,true),(14,false)] (sk (sl sr)) (Bf O (Ax (v:=(pP b2 0)) O (AD (j:=0) O O underlying76 sizeOf3 O (by decide) O) (Bj 0 (vN T.1) Bm O (Bf O (Ax (v:=(pP b2 1)) O (AD (j:=1) O O underlying76 sizeOf3 O (by decide) O) ?_)))))
  refine Bj 0 (vN T.2.1) Bm O (Bf O (Ax (v:=(pP b2 2)) O (AD (j:=2) O O underlying76 sizeOf3 O (by decide) O) (Bj 0 (vN T.2.2) Bm O (Ax (v:=(pP (pB (some ⟨bm,0,none⟩)) (pO (some ⟨bm,0,none⟩)+T.1*1))) O (AQ (j:=T.1) O O hbm.row underlying208 sizeOf4 O Z) (AV.imp O ?_)))))
  refine AE.storeRow1 (j:=T.1) (v:=(Value.bool true)) O O hbm (by rw [M_,Nat.mul_one];simp [Gn]) Z O sizeOf4 O (Pl _ _ _) (AV.back (sk (sl sr)) (Ax (v:=(pP (pB (some ⟨bm,0,none⟩)) (pO (some ⟨bm,0,none⟩)+T.2.1*1))) O (AQ (j:=T.2.1) O O hbm.row underlying208 sizeOf4 O Z) (AV.imp O (AE.storeRow1 (j:=T.2.1) (v:=(Value.bool true)) O O hbm (by rw [M_,Nat.mul_one];simp [Gn]) Z O sizeOf4 O (Pl _ _ _) (AV.back (sk (sl sr)) ?_)))))
  refine Ax (v:=(pP (pB (some ⟨bm,0,none⟩)) (pO (some ⟨bm,0,none⟩)+T.2.2*1))) O (AQ (j:=T.2.2) O O hbm.row underlying208 sizeOf4 O Z) (AV.imp O (AE.storeRow1 (j:=T.2.2) (v:=(Value.bool true)) O O hbm (by rw [M_,Nat.mul_one];simp [Gn]) Z O sizeOf4 O (Pl _ _ _) (AV.back (sk (sl sr)) (AV.nil (AC.subF (sL [1,2,3,12,13,14,5] O) ?_)))))
  refine AC.in_normal (AC.then_ (AF.region (AI (AY (c:=((t+1:Nat):Int)) O O (AX (a:=t) (b:=1) Z)) O (AR O (AE.nil ?_)))))
  refine AC.subF (sL [1,2,3,12,13,14,5] O) ?_
  rw [hT,SP Z]
  exact AC.round1 (t+1) Z Z (sF O) (sl sr)
 ·replace hc0:=of_decide_eq_false hc0
  have htt:t=ts.length:=by omega
  refine AF.exit (AC.then_exit (AC.round1_exit (AC.in_exit (q1 (q4 ?_)))))
  refine AR O (AE.frzRow 0 O hbm (by rw [M_,Nat.mul_one];simp [Gn]) O O λhn_US=>Ew call129 (λw hw=>Sq (K7 ts ps.length t) ps.length ⟨(some ⟨bm,0,none⟩),ps.length,hbm.row⟩ (Gn _ _ _) Z (λj hj=>by rw [htt];exact Tn hj (hv.use j hj)) w (DB (S:=S) hw 0 O (At.new hn_US))) O (AE.nil (AC.subF (sL [1,2,3,12,13,14,32] O) (AC.then_ ?_))))
  refine AF.cond_false O (AF.skip (q2 (AI (v:=(pP b1 0)) (AA O underlying31 O sizeOf27 O) O (BK 1 (Value.slice x.a.p ps.length x.a.c) Du O (AE.callL (S:=S) (V:=ZV) (LW:=XU (T:=55) (z:=10) (cs:=rowsL Aj ps) (n:=ps.length)) (args:=[(Value.slice x.a.p ps.length x.a.c)]) call118 (λw hw=>Me ps x.a Z w (Zd (DB hw 2 O lx))) O λcl1 hcl1=>?_)))))
  refine AO O (q3 (sL [1,2,3,12,13,14,6] O) (AR O ?_))
  have hpn:cl1.p≠none:=λe=>by have:=(cl1.ok.nil e).1;omega
  refine AE.callWX 0 (α:=List Pt) (K:=λys=>ys.Perm ps) (cs':=λys=>rowsL Aj ys) (v:=(Value.tuple #[])) (AM O) (A8 (args:=[(Value.slice cl1.p ps.length cl1.c),(Value.func (.func 131) #[] #[])]) O O call130) O (λw hw=>TF ps _ _ _ 55 cl1.ok hpn O Z hbp w (hw.holds (i:=0) O)) (λd hd=>by cases hd<;>exact (Ab O)) λys hys=>?_
  have hyl:=hys.length_eq
  refine AE.frzRow 0 O cl1.ok (by rw [Al BT,hyl]) O O λhn_cl1=>q6 (sL [1,2,3,12,13,14,6] O) (Cu [(0,true),(3,true),(4,true),(5,true),(1,false),(2,true),(6,true),(7,true)] sr (Bf O (Ax (v:=(pP b1 0)) O (AA O underlying31 O sizeOf27 O) (Bj 2 (Value.slice x.a.p ps.length x.a.c) Du O ?_))))
  refine Ax (v:=(vN ps.length)) O (AG O underlying27) (AV.imp O (Ew call132 (λw hw=>Pv ys ps.length ⟨cl1.p,cl1.c,cl1.ok.row⟩ hyl Z (hys.nodup_iff.2 hv.dst) w (DB (S:=S) hw 0 O (At.new hn_cl1))) O (AV.back sr (Ax (v:=(vN ps.length)) O (AG O underlying27) (Ax O (BS (c:=true) O O (decide_eq_true O)) ?_)))))
  exact Ev O (AV.nil (AC.subF (sL [1,2,3,12,13,14,6] O) (AC.then_ (AF.ret (AT O (Ak (v:=(Value.bool true)) O) (λw hw=>⟨rfl,hw.out⟩))))))
theorem XJ (s r:T3) (h:s.1=r.1/\s.2.1=r.2.1) (w:World)  :Calls prog 136 #[(aG (An s)),(aG (An r))] w (Av w (Value.bool true)):=by
 refine Ag (args:=[(aG (An s)),(aG (An r))]) func136 O O (Ab O) (AF.subF (sL [0,1] O) (q4 (Bo (cs:=An s) O λb1=>Bo (cs:=An r) O λb2=>AO O ?_)))
 refine q3 (sL [2,3,4] O) (AI (v:=(pP b1 0)) (AA O underlying44 O sizeOf3 O) O (BK 1 (vN s.1) Bm O (AI (v:=(pP b2 0)) (AA O underlying44 O sizeOf3 O) O (BK 0 (vN r.1) Bm O (AI (BS (c:=true) O O (decide_eq_true Z)) O ?_)))))
 refine AR O (AE.step (v:=(pP b1 1)) (AB O) (AA O underlying44 O sizeOf3 O) O (Ab O) (AE.step (v:=(vN s.2.1)) (AB O) (AK (i:=1) (v:=(vN s.2.1)) O O Bm.a O) O (Ab O) (AE.step (v:=(pP b2 1)) (AB O) (AA O underlying44 O sizeOf3 O) O (Ab O) (AE.step (v:=(vN r.2.1)) (AB O) (AK (i:=0) (v:=(vN r.2.1)) O O Bm.a O) O (Ab O) (AE.step (v:=(Value.bool true)) (AB O) (BS (c:=true) O O (decide_eq_true Z)) O (Ab O) ?_)))))
 exact AI (v:=(Value.bool true)) (Ah O O) O (AO O (AE.nil (AC.subF (sL [4] O) (AC.then_ (AF.ret (AT O (Ak (v:=(Value.bool true)) O) (λw hw=>⟨rfl,hw.out⟩)))))))
theorem VP (xs ys:List T3) (x:RX (rowsL An xs) xs.length) (y:RX (rowsL An ys) ys.length) (hn:xs.length=ys.length) (hl:xs.length<=1000000) (hk:∀j,j<xs.length->(xs.getD j (0,0,0)).1=(ys.getD j (0,0,0)).1/\(xs.getD j (0,0,0)).2.1=(ys.getD j (0,0,0)).2.1) (w:World) {S:Nat->Prop} (hx:Ro S w x) (hy:Ro S w y):Calls prog 90 #[(Value.slice x.p xs.length x.c),(Value.slice y.p ys.length y.c),(Value.func (.func 136) #[] #[])] w (Av w (Value.bool true)):=by
 have lx:=EA (W:=w) hx
 have ly:=EA (W:=w) hy
 refine BF (args:=[(Value.slice x.p xs.length x.c),(Value.slice y.p ys.length y.c),(Value.func (.func 136) #[] #[])]) (L:=[AZ x.p (rowsL An xs),AZ y.p (rowsL An ys)]) func90 O O (Ab O) (EB hx (EB hy BR)) (AF.subF (sL [0,1,2] O) (q4 (AO O (AE.nil (q1 ?_)))))
 refine q4 (AR O (AI (v:=(vN xs.length)) (AG O underlying29) O (AR O (AI (v:=(vN ys.length)) (AG O underlying29) O (AI (CL (c:=false) O O (decide_eq_false Z)) O ?_)))))
 refine AE.nil (AC.subF (sL [0,1,2,6,12] O) (AC.then_ (AF.cond_false O (AF.skip (q1 ?_)))))
 refine q4 (AR O (AI (v:=(vN xs.length)) (AG O underlying29) O (AR O (AE.nil (AC.subF (sL [0,1,2,6,14,15] O) ?_)))))
 refine AC.then_ (AF.block ?_)
 refine AF.lp1 (tg λ(j:Nat)=>j<=xs.length) (tg λ(j:Nat)=>[(0,(Value.slice x.p xs.length x.c)),(1,(Value.slice y.p ys.length y.c)),(2,(Value.func (.func 136) #[] #[])),(14,(vN xs.length)),(15,(vN j))]) (tg λ(j:Nat)=>[AZ x.p (rowsL An xs),AZ y.p (rowsL An ys)]) (tg λ(j:Nat)=>xs.length-j) 0 (Nat.zero_le _) (sF O) sr (λj hJ=>?_)
 have hj:=hJ
 refine q4 (AI (Am (c:=(decide (j<xs.length))) O O (C6 (a:=j) (b:=xs.length))) O (AE.nil (q1 ?_)))
 refine AF.cond O (λhc1=>?_) (λhc1=>?_)
 ·replace hc1:=of_decide_eq_true hc1
  refine AF.skip (q1 (AF.block (q4 (AR O (AO O ?_)))))
  refine q6 (sL [0,1,2,14,15,7] O) (Cu [(0,true),(1,true),(2,true),(3,true),(4,true),(5,true),(6,true),(7,true),(8,true),(9,false),(10,true)] sr (Bf O (Bf O (Bf O (Ax (v:=(pP (pB x.p) (pO x.p+j*3))) O (AQ (j:=j) O O x.ok underlying29 sizeOf44 O Z) ?_)))))
  refine Ax (v:=(aG (An (xs.getD j ((0,0,0):Nat×Nat×Nat))))) O (AW (vs:=An (xs.getD j ((0,0,0):Nat×Nat×Nat))) (i:=0) O O (BQ.ne x.ok Z) UR (Aw Ar _ _ _ Z) (Ar _)) (Bf O (Bf O (Ax (v:=(pP (pB y.p) (pO y.p+j*3))) O (AQ (j:=j) O O y.ok underlying29 sizeOf44 O Z) (Ax (v:=(aG (An (ys.getD j ((0,0,0):Nat×Nat×Nat))))) O (AW (vs:=An (ys.getD j ((0,0,0):Nat×Nat×Nat))) (i:=1) O O (BQ.ne y.ok Z) UR (Aw Ar _ _ _ Z) (Ar _)) (AV.imp O ?_)))))
  refine BW call136 (XJ _ _ (hk j Z)) O (AV.back sr (Ax O (Bg (c:=false) O O) (AV.nil (AC.subF (sL [0,1,2,14,15,28] O) (AC.then_ ?_)))))
  refine AF.cond_false O (AF.skip (AC.in_normal (AC.then_ (AF.region (AI (AY (c:=((j+1:Nat):Int)) O O (AX (a:=j) (b:=1) Z)) O ?_)))))
  exact AR O (AE.nil (AC.subF (sL [0,1,2,14,15] O) (AC.round1 (j+1) Z Z (sF O) sr)))
 ·replace hc1:=of_decide_eq_false hc1
  refine AF.exit (AC.then_exit (AC.round1_exit (AC.in_exit (q2 (AO O ?_)))))
  exact AE.nil (AC.then_ (AF.ret (AT O (Ak (v:=(Value.bool true)) O) (λw hw=>⟨rfl,hw.out⟩))))
theorem R8 {ps:List Pt} {ts ss:List T3} (x:MX ps ts ss) (hv:Lv ps ts ss) (w:World) {S:Nat->Prop} (hx:Ro S w x):Calls prog 60 #[(aG (Bk x))] w (Av w (Value.bool true)):=by
 have hp:=hv.pl
 have htl:=hv.tl
 have hsl:=hv.sl
 have h0:=hv.t0
 have lx:=EA (W:=w) hx
 refine BF (args:=[(aG (Bk x))]) (L:=[AZ x.a.p (rowsL Aj ps),AZ x.b.p (rowsL An ts),AZ x.c.p (rowsL An ss)]) func60 O O (Ab O) (EB hx BR) (AF.subF (sL [0] O) (q4 (Bo (cs:=Bk x) O λb1=>AO O (q6 (sL [1,2] O) ?_))))
 refine Cu [(0,true),(1,true),(2,true),(3,true),(4,true),(5,true),(6,false),(7,false),(8,true)] sr (Ax (v:=(pP b1 2)) O (AA O underlying31 O sizeOf29 O) (Bj 0 (Value.slice x.c.p ss.length x.c.c) OA O (Ax (v:=(pP b1 0)) O (AA O underlying31 O sizeOf27 O) (Bj 0 (Value.slice x.a.p ps.length x.a.c) Du O (Ax (v:=(pP b1 1)) O (AA O underlying31 O sizeOf28 O) ?_)))))
 refine Bj 0 (Value.slice x.b.p ts.length x.b.c) CR O (AV.imp O (AE.callL (S:=S) (V:=Z2) (LW:=XU (T:=44) (z:=3) (cs:=rowsL An (B0 ts)) (n:=(B0 ts).length)) (args:=[(Value.slice x.a.p ps.length x.a.c),(Value.slice x.b.p ts.length x.b.c)]) call123 (λw hw=>UL ts x.b x.a.p ps.length x.a.c hv.num Z Z w (Vj (DB hw 1 O lx))) O λrm hrm=>AE.frzRow 0 O rm.ok (Al Ar _) O O λhn_rm=>AV.back (sl sr) (AV.imp O ?_)))
 refine Ew call90 (λw hw=>VP ss (B0 ts) x.c ⟨rm.p,(B0 ts).length,rm.ok.clip⟩ hv.rl Z hv.rim w (Z9 (DB hw 2 O lx)) (DB (S:=S) hw 0 O (At.new hn_rm))) O (AV.back (sl sr) (Ev O (AV.nil (AC.subF (sL [2] O) (AC.then_ ?_)))))
 exact AF.ret (AT O (Ak (v:=(Value.bool true)) O) (λw hw=>⟨rfl,hw.out⟩))
theorem TB {ps:List Pt} {ts ss:List T3} (x:MX ps ts ss) (hv:Lv ps ts ss) (w:World) {S:Nat->Prop} (hx:Ro S w x):Calls prog 19 #[(aG (Bk x))] w (Av w (vI 0)):=by
 have hp:=hv.pl
 have htl:=hv.tl
 have hsl:=hv.sl
 have h0:=hv.t0
 have lx:=EA (W:=w) hx
 refine BF (args:=[(aG (Bk x))]) (L:=[AZ x.a.p (rowsL Aj ps),AZ x.b.p (rowsL An ts),AZ x.c.p (rowsL An ss)]) func19 O O (Ab O) (EB hx BR) (AF.subF (sL [0] O) (q4 (Bo (cs:=Bk x) O λb1=>AO O (q6 (sL [1,2] O) ?_))))
 refine AF.block (q4 (AI (v:=(pP b1 0)) (AA O underlying31 O sizeOf27 O) O (BK 0 (Value.slice x.a.p ps.length x.a.c) Du O (AI (v:=(vN ps.length)) (AG O underlying27) O (AI (Cj (c:=false) O O (decide_eq_false Z)) O ?_)))))
 refine AR O (AE.step (v:=(pP b1 1)) (AB O) (AA O underlying31 O sizeOf28 O) O (Ab O) (AE.step (v:=(Value.slice x.b.p ts.length x.b.c)) (AB O) (AK (i:=0) (v:=(Value.slice x.b.p ts.length x.b.c)) O O CR.a O) O (Ab O) (AE.step (v:=(vN ts.length)) (AB O) (AG O underlying28) O (Ab O) (AE.step (v:=(Value.bool false)) (AB O) (Cj (c:=false) O O (decide_eq_false Z)) O (Ab O) (AI (v:=(Value.bool false)) (AS O O) O ?_)))))
 refine AR O (AE.step (v:=(pP b1 2)) (AB O) (AA O underlying31 O sizeOf29 O) O (Ab O) (AE.step (v:=(Value.slice x.c.p ss.length x.c.c)) (AB O) (AK (i:=0) (v:=(Value.slice x.c.p ss.length x.c.c)) O O OA.a O) O (Ab O) (AE.step (v:=(vN ss.length)) (AB O) (AG O underlying29) O (Ab O) (AE.step (v:=(Value.bool false)) (AB O) (Cj (c:=false) O O (decide_eq_false Z)) O (Ab O) (AI (v:=(Value.bool false)) (AS O O) O ?_)))))
 refine AO O (AE.nil (AC.subF (sL [1,2,3] O) (AC.then_ (AF.cond_false O (q4 ?_)))))
 refine A6 0 C9 O (Ew call57 (λw hw=>W7 x hv w (DB hw 1 O lx)) O (AI (Bg (c:=false) O O) O (AO O (AE.nil (AC.subF (sL [1,2,20] O) ?_)))))
 refine AC.then_ (AF.cond_false O (q4 (A6 0 C9 O (Ew call58 (λw hw=>V1 x hv w (DB hw 1 O lx)) O (AI (Bg (c:=false) O O) O ?_)))))
 refine AR O (AE.step (v:=(aG (Bk x))) (AB O) (Ac (i:=0) (vs:=Bk x) O O C9.a C9.s O O) O (Ab O) (AE.call (v:=(Value.bool true)) (AB O) (A8 (args:=[(aG (Bk x))]) O O call59) (λw hw=>St x hv w (DB hw 1 O lx)) O (Ab O) (AE.step (v:=(Value.bool false)) (AB O) (Bg (c:=false) O O) O (Ab O) (AI (v:=(Value.bool false)) (AS O O) O (AR O ?_)))))
 refine AE.step (v:=(aG (Bk x))) (AB O) (Ac (i:=0) (vs:=Bk x) O O C9.a C9.s O O) O (Ab O) (AE.call (v:=(Value.bool true)) (AB O) (A8 (args:=[(aG (Bk x))]) O O call60) (λw hw=>R8 x hv w (DB hw 1 O lx)) O (Ab O) (AE.step (v:=(Value.bool false)) (AB O) (Bg (c:=false) O O) O (Ab O) (AI (v:=(Value.bool false)) (AS O O) O (AO O (AE.nil ?_)))))
 refine AC.subF (sL [1,2,24] O) (AC.then_ (AF.cond_false O (AF.skip (AC.in_normal (q2 ?_)))))
 exact AO O (AE.nil (AC.subF (sL [1,2] O) (AC.then_ (AF.ret (AT O (Ak (v:=(vI 0)) O) (λw hw=>⟨rfl,hw.out⟩))))))
end
section
def dt (a b:Pt):Rat:=a.x*b.y-a.y*b.x
theorem Nd (a b:Pt):dt a b = -dt b a:=by unfold dt;grind
theorem J6 (a:Pt):dt a a=0:=by unfold dt;grind
theorem Hd {c z:Rat} (hc:0<c) (h:0<=z*c):0<=z:=Hb hc (by rw [Rat.mul_comm];exact h)
theorem XG {u:Pt} (h:∀z,dt u z=0):u=⟨0,0⟩:=by
  have h1:=h ⟨0,1⟩;have h2:=h ⟨1,0⟩
  obtain ⟨x,y⟩:=u
  unfold dt at h1 h2
  simp only at h1 h2
  have e1:x=0:=by grind
  have e2:y=0:=by grind
  rw [e1,e2]
section
variable {p q r s u w:Pt}
def aV (p q r s w x:Pt):Prop:=0<=dt p x/\0<=dt x q/\0<=dt r x/\0<=dt x s/\0<=dt x w
theorem QH {x:Pt} {k l:Rat} (hk:0<k) (hl:0<l) (h:∀z,k*dt u z=l*dt x z) (hp:0<=dt p u) (hq:0<=dt u q) (hr:0<=dt r u) (hs:0<=dt u s) (hw:0<=dt u w):aV p q r s w x:=by
  have key:∀z,0<=dt u z->0<=dt x z:=λz hz=>Hb hl (by rw [<-h];exact Rat.mul_nonneg (Rat.le_of_lt hk) hz)
  have key2:∀z,0<=dt z u->0<=dt z x:=λz hz=>by
    rw [Nd z x];rw [Nd z u] at hz
    have e:=h z
    have h1:0<=k * -dt u z:=Rat.mul_nonneg (Rat.le_of_lt hk) hz
    exact Hb hl (by grind)
  exact ⟨key2 _ hp,key _ hq,key2 _ hr,key _ hs,key _ hw⟩
theorem TO (hpq:0<dt p q) (hu:u≠⟨0,0⟩) (hp:0<=dt p u) (hq:0<=dt u q) (h:dt p u=0\/dt u q=0):∃x k l,(x=p\/x=q)/\0<k/\0<l/\∀z,k*dt u z=l*dt x z:=by
  have cr:∀z,dt p q*dt u z=dt u q*dt p z+dt p u*dt q z:=λz=>by unfold dt;grind
  have ne:¬(dt p u=0/\dt u q=0):=λ⟨a,b⟩=>hu (XG λz=>by
    have e:=cr z
    rw [a,b] at e
    have:dt p q*dt u z=0:=by grind
    rcases Rat.mul_eq_zero.1 this with c|c
    · rw [c] at hpq;exact absurd hpq (Rat.lt_irrefl)
    · exact c)
  rcases h with h|h
  · exact ⟨p,dt p q,dt u q,.inl O,hpq,by grind,λz=>by rw [cr,h];grind⟩
  · exact ⟨q,dt p q,dt p u,.inr O,hpq,by grind,λz=>by rw [cr,h];grind⟩
theorem Ty (hpq:0<dt p q) (hrs:0<dt r s) (hu:u≠⟨0,0⟩) (hp:0<=dt p u) (hq:0<=dt u q) (hr:0<=dt r u) (hs:0<=dt u s) (hw:0<=dt u w):∃x,(x=p\/x=q\/x=r\/x=s)/\aV p q r s w x:=by
  by_cases d1:dt p u=0\/dt u q=0
  · obtain ⟨x,k,l,hx,hk,hl,h⟩:=TO hpq hu hp hq d1
    exact ⟨x,hx.elim .inl (λe=>.inr (.inl e)),QH hk hl h hp hq hr hs hw⟩
  by_cases d2:dt r u=0\/dt u s=0
  · obtain ⟨x,k,l,hx,hk,hl,h⟩:=TO hrs hu hr hs d2
    exact ⟨x,.inr (.inr hx),QH hk hl h hp hq hr hs hw⟩
  have p1:0<dt p u:=by grind
  have p2:0<dt u q:=by grind
  have p3:0<dt r u:=by grind
  have p4:0<dt u s:=by grind
  have mn:∀{a b:Rat},0<=a->0<=b->0<=a*b:=λa b=>Rat.mul_nonneg a b
  have X:∃x,(x=p\/x=q\/x=r\/x=s)/\0<dt x u/\0<=dt p x/\0<=dt x q/\0<=dt r x/\0<=dt x s:=by
    by_cases c:0<=dt p r
    · have h1:0<=dt r q*dt p u:=by
        have e:dt r q*dt p u=dt p r*dt u q+dt r u*dt p q:=by unfold dt;grind
        have:=mn c hq;have:=mn hr (Rat.le_of_lt hpq);grind
      exact ⟨r,.inr (.inr (.inl O)),p3,c,Hd p1 h1,by rw [J6];exact Rat.le_refl,Rat.le_of_lt hrs⟩
    · have c':0<=dt r p:=by rw [Nd r p];grind
      have h1:0<=dt p s*dt r u:=by
        have e:dt p s*dt r u=dt r p*dt u s+dt p u*dt r s:=by unfold dt;grind
        have:=mn c' hs;have:=mn hp (Rat.le_of_lt hrs);grind
      exact ⟨p,.inl O,p1,by rw [J6];exact Rat.le_refl,Rat.le_of_lt hpq,c',Hd p3 h1⟩
  have Y:∃x,(x=p\/x=q\/x=r\/x=s)/\0<dt u x/\0<=dt p x/\0<=dt x q/\0<=dt r x/\0<=dt x s:=by
    by_cases c:0<=dt q s
    · have h1:0<=dt r q*dt u s:=by
        have e:dt r q*dt u s=dt r u*dt q s+dt r s*dt u q:=by unfold dt;grind
        have:=mn hr c;have:=mn (Rat.le_of_lt hrs) hq;grind
      exact ⟨q,.inr (.inl O),p2,Rat.le_of_lt hpq,by rw [J6];exact Rat.le_refl,Hd p4 h1,c⟩
    · have c':0<=dt s q:=by rw [Nd s q];grind
      have h1:0<=dt p s*dt u q:=by
        have e:dt p s*dt u q=dt p u*dt s q+dt p q*dt u s:=by unfold dt;grind
        have:=mn hp c';have:=mn (Rat.le_of_lt hpq) hs;grind
      exact ⟨s,.inr (.inr (.inr O)),p4,Hd p2 h1,c',Rat.le_of_lt hrs,by rw [J6];exact Rat.le_refl⟩
  obtain ⟨x,hx,x0,x1,x2,x3,x4⟩:=X
  obtain ⟨y,hy,y0,y1,y2,y3,y4⟩:=Y
  have hxy:0<=dt x y*dt p u:=by
    have e:dt x y*dt p u=dt p x*dt u y+dt x u*dt p y:=by unfold dt;grind
    have:=mn x1 (Rat.le_of_lt y0);have:=mn (Rat.le_of_lt x0) y1;grind
  have hxy:=Hd p1 hxy
  by_cases a:0<=dt x w
  · exact ⟨x,hx,x1,x2,x3,x4,a⟩
  by_cases b:0<=dt y w
  · exact ⟨y,hy,y1,y2,y3,y4,b⟩
  exfalso
  have e:dt x y*dt u w=dt u y*dt x w+dt x u*dt y w:=by unfold dt;grind
  have h1:=mn hxy hw
  have h2:0<dt u y * -dt x w:=Rat.mul_pos y0 (by grind)
  have h3:0<dt x u * -dt y w:=Rat.mul_pos x0 (by grind)
  grind
end
def O1 (a b c d e f:Pt):Prop:=(AJ a b d<=0/\AJ a b e<=0/\AJ a b f<=0)\/(AJ b c d<=0/\AJ b c e<=0/\AJ b c f<=0)\/(AJ c a d<=0/\AJ c a e<=0/\AJ c a f<=0)
def Ez (a b:Pt):Pt:=⟨a.x-b.x,a.y-b.y⟩
section
variable {a b c d e f u:Pt}
theorem YN (hA:0<AJ a b c) (hB:0<AJ d e f) (hu:u≠⟨0,0⟩) (h1:dt u a<=dt u b) (h2:dt u a<=dt u c) (h3:dt u e<=dt u d) (h4:dt u f<=dt u d) (h5:dt u d<=dt u a) :
    (AJ a b d<=0/\AJ a b e<=0/\AJ a b f<=0)\/(AJ c a d<=0/\AJ c a e<=0/\AJ c a f<=0)\/(AJ d e a<=0/\AJ d e b<=0/\AJ d e c<=0)\/(AJ f d a<=0/\AJ f d b<=0/\AJ f d c<=0):=by
  have key:=Ty (p:=Ez a c) (q:=Ez b a) (r:=Ez f d) (s:=Ez d e) (u:=u) (w:=Ez a d) (by simp only [Ci] at hA;unfold dt Ez;grind) (by simp only [Ci] at hB;unfold dt Ez;grind) hu
    (by unfold dt Ez at *;grind) (by unfold dt Ez at *;grind) (by unfold dt Ez at *;grind) (by unfold dt Ez at *;grind) (by unfold dt Ez at *;grind)
  clear h1 h2 h3 h4 h5 hA hB hu
  obtain ⟨x,hx,k1,k2,k3,k4,k5⟩:=key
  simp only [Ci]
  unfold dt Ez at k1 k2 k3 k4 k5
  rcases hx with rfl|rfl|rfl|rfl
  · right;left;simp only at k1 k2 k3 k4 k5;unfold Ez at *;simp only at k1 k2 k3 k4 k5;refine ⟨?_,?_,?_⟩<;>grind
  · left;simp only at k1 k2 k3 k4 k5;unfold Ez at *;simp only at k1 k2 k3 k4 k5;refine ⟨?_,?_,?_⟩<;>grind
  · right;right;right;simp only at k1 k2 k3 k4 k5;unfold Ez at *;simp only at k1 k2 k3 k4 k5;refine ⟨?_,?_,?_⟩<;>grind
  · right;right;left;simp only at k1 k2 k3 k4 k5;unfold Ez at *;simp only at k1 k2 k3 k4 k5;refine ⟨?_,?_,?_⟩<;>grind
theorem Ju (a b c:Pt):AJ b c a=AJ a b c:=by simp only [Ci];grind
def ZZ (u:Pt) (k:Rat) (a b c d e f:Pt):Prop:=(k<=dt u a/\k<=dt u b/\k<=dt u c)/\dt u d<=k/\dt u e<=k/\dt u f<=k
theorem ZO (x y z:Rat):(x<=y/\x<=z)\/(y<=z/\y<=x)\/(z<=x/\z<=y):=by grind
theorem Xy (hA:0<AJ a b c) (hB:0<AJ d e f) (hu:u≠⟨0,0⟩) (h1:dt u a<=dt u b) (h2:dt u a<=dt u c) (h3:dt u d<=dt u a) (h4:dt u e<=dt u a) (h5:dt u f<=dt u a):O1 a b c d e f\/O1 d e f a b c:=by
  rcases ZO (-dt u d) (-dt u e) (-dt u f) with m|m|m
  · rcases YN hA hB hu h1 h2 (by grind) (by grind) h3 with k|k|k|k
    · exact .inl (.inl k)
    · exact .inl (.inr (.inr k))
    · exact .inr (.inl k)
    · exact .inr (.inr (.inr k))
  · rcases YN (d:=e) (e:=f) (f:=d) hA (by rw [Ju];exact hB) hu h1 h2 (by grind) (by grind) h4 with k|k|k|k
    · exact .inl (.inl ⟨k.2.2,k.1,k.2.1⟩)
    · exact .inl (.inr (.inr ⟨k.2.2,k.1,k.2.1⟩))
    · exact .inr (.inr (.inl k))
    · exact .inr (.inl k)
  · rcases YN (d:=f) (e:=d) (f:=e) hA (by rw [<-Ju];exact hB) hu h1 h2 (by grind) (by grind) h5 with k|k|k|k
    · exact .inl (.inl ⟨k.2.1,k.2.2,k.1⟩)
    · exact .inl (.inr (.inr ⟨k.2.1,k.2.2,k.1⟩))
    · exact .inr (.inr (.inr k))
    · exact .inr (.inr (.inl k))
theorem O1.rot1 (h:O1 b c a d e f):O1 a b c d e f:=by
  rcases h with k|k|k
  · exact .inr (.inl k)
  · exact .inr (.inr k)
  · exact .inl k
theorem O1.rot2 (h:O1 d e f b c a):O1 d e f a b c:=by
  rcases h with k|k|k
  · exact .inl ⟨k.2.2,k.1,k.2.1⟩
  · exact .inr (.inl ⟨k.2.2,k.1,k.2.1⟩)
  · exact .inr (.inr ⟨k.2.2,k.1,k.2.1⟩)
theorem ah {k:Rat} (hA:0<AJ a b c) (hB:0<AJ d e f) (hu:u≠⟨0,0⟩) (h:ZZ u k a b c d e f):O1 a b c d e f\/O1 d e f a b c:=by
  obtain ⟨⟨h1,h2,h3⟩,h4,h5,h6⟩:=h
  rcases ZO (dt u a) (dt u b) (dt u c) with m|m|m
  · exact Xy hA hB hu m.1 m.2 (by grind) (by grind) (by grind)
  · exact (Xy (a:=b) (b:=c) (c:=a) (by rw [Ju];exact hA) hB hu m.1 m.2 (by grind) (by grind) (by grind)).imp O1.rot1 O1.rot2
  · exact (Xy (a:=c) (b:=a) (c:=b) (by rw [<-Ju];exact hA) hB hu m.1 m.2 (by grind) (by grind) (by grind)).imp (λq=>q.rot1.rot1) (λq=>q.rot2.rot2)
end
end
section
def Nb (ts:List T3):Nat->List (P2×Nat)
  | 0=>[]
  | s+1=>BU (Nb ts s) (B4 ts s) (s/3)
def Hr (ts:List T3):Nat->Bool
  | 0=>true
  | s+1=>Hr ts s&&(Ae (Nb ts s) (B4 ts s)).isNone
section
variable {ts:List T3} {N t r s:Nat}
theorem Qe:∀n,s<=n->Hr ts n=true->Hr ts s=true
  | 0,h,k=>by rw [show s=0 by omega];rfl
  | n+1,h,k=>by
    have k:(Hr ts n&&_)=true:=k
    rcases Nat.lt_or_ge s (n+1) with h1|h1
    · exact Qe n Z (Bool.and_eq_true _ _▸k).1
    · rw [show s=n+1 by omega];exact k
end
structure SX (ts:List T3) (o:Bool) where
  b:Nat
  kvs:List (P2×Nat)
  ok:Hq JU kvs
  fin:o=true->kvs=Nb ts (3*ts.length)
instance {ts:List T3} {o:Bool}:EQ (SX ts o):=⟨λx=>.tuple #[.map (some x.b),.bool o],λx=>[NO x.b Dv vN x.kvs],λx y hy=>by rcases List.mem_singleton.1 hy with rfl;rfl⟩
theorem Ve {ts:List T3}:(B0 ts).length<=3*ts.length:=by
  have h1:=Ks (ts:=ts) (Bq ts).length
  have h2:=Km ts
  show (Ia ts (Bq ts).length).length<=_
  omega
end
section
section
variable {P:Program} {Q:Exit->Act->World->Prop} {n:Nat} {F:List (Nat×Value)} {w0:BM} {L:List As} {c x y:Code}
end
end
end Go.Proofs.YtfbomiejpbchdaaGreat
