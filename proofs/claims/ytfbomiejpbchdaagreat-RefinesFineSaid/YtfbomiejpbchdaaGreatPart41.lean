import Derived.Test.YtfbomiejpbchdaaGreatPart06
import Derived.Test.YtfbomiejpbchdaaGreatPart07
import Derived.Test.YtfbomiejpbchdaaGreatPart26
import Derived.Test.YtfbomiejpbchdaaGreatPart31
import Derived.Test.YtfbomiejpbchdaaGreatPart33
import Derived.Test.YtfbomiejpbchdaaGreatPart35
import Derived.Test.YtfbomiejpbchdaaGreatPart37
import Derived.Test.YtfbomiejpbchdaaGreatPart40
namespace Go.Proofs.YtfbomiejpbchdaaGreat
open Go Go.RowKit
set_option linter.unusedVariables false
set_option linter.unusedSimpArgs false
section
set_option maxRecDepth 100000
theorem Xv (us:List Bool) (n:Nat) (x:RX (bL us) n) (hn:us.length=n) (hl:n<=1000000) (hu:∀j,j<n->us.getD j false=true) (w:World) {S:Nat->Prop} (hx:Ro S w x):Calls Tryz.prog 177 #[(Value.slice x.p n x.c),(Value.bool false)] w (Am w (vI (-1:Int))):=by
 have lx:=FS (W:=w) hx
 refine BH (args:=[(Value.slice x.p n x.c),(Value.bool false)]) (L:=[Ag x.p (bL us)]) Tryz.func177 rfl rfl (Ad rfl) (FP hx BY) (AG.subF (sL [0,1] rfl) (q4 (AK rfl (AF.nil (q1 ?_)))))
 refine q4 (AO rfl (AJ (v:=(vN n)) (AI rfl Tryz.underlying208) rfl (AO rfl (AF.nil (AC.subF (sL [0,1,4,7,8] rfl) ?_)))))
 refine AC.then_ (AG.block ?_)
 refine AG.lp1 (tg λ(j:Nat)=>j<=n) (tg λ(j:Nat)=>[(0,(Value.slice x.p n x.c)),(1,(Value.bool false)),(7,(vN n)),(8,(vN j))]) (tg λ(j:Nat)=>[Ag x.p (bL us)]) (tg λ(j:Nat)=>n-j) 0 (Nat.zero_le _) (sF rfl) sr (λj hJ=>?_)
 have hj:=hJ
 refine q4 (AJ (Af (c:=(decide (j<n))) rfl rfl (DL (a:=j) (b:=n))) rfl (AF.nil (q1 ?_)))
 refine AG.cond rfl (λhc0=>?_) (λhc0=>?_)
 ·replace hc0:=of_decide_eq_true hc0
  refine AG.skip (q1 (AG.block (q4 (AO rfl (AK rfl ?_)))))
  refine q3 (sL [0,1,7,8,5] rfl) (AO rfl (AO rfl (AO rfl (AJ (v:=(pP (pB x.p) (pO x.p+j*1))) (AW (j:=j) rfl rfl x.ok Tryz.underlying208 Tryz.sizeOf4 rfl (by omega)) rfl (AJ (BK (v:=(Value.bool (us.getD j false))) (i:=0) rfl rfl (x.ok.ne (by omega)) VG (Xk (us:=us) (j:=j) (by omega))) rfl ?_)))))
  refine AJ (I3 (c:=false) rfl rfl Tryz.underlying4 (by rw [hu j (by omega)];rfl)) rfl (AF.nil (AC.subF (sL [0,1,7,8,5,16] rfl) (AC.then_ (AG.cond_false rfl (AG.skip ?_)))))
  refine AC.in_normal (AC.then_ (AG.region (AJ (AX (c:=((j+1:Nat):Int)) rfl rfl (Ab (a:=j) (b:=1) (by omega))) rfl (AO rfl (AF.nil ?_)))))
  exact AC.subF (sL [0,1,7,8,5] rfl) (AC.round1 (j+1) (by omega) (by omega) (sF rfl) sr)
 ·replace hc0:=of_decide_eq_false hc0
  refine AG.exit (AC.then_exit (AC.round1_exit (AC.in_exit (q2 (AK rfl ?_)))))
  exact AF.nil (AC.then_ (AG.ret (AR rfl (Ai (v:=(vI (-1:Int))) rfl) (λw hw=>⟨rfl,hw.out⟩))))
theorem SR (us:List Bool) (n:Nat) (x:RX (bL us) n) (hn:us.length=n) (hl:n<=1000000) (hu:∀j,j<n->us.getD j false=true) (w:World) {S:Nat->Prop} (hx:Ro S w x):Calls Tryz.prog 129 #[(Value.slice x.p n x.c),(Value.bool false)] w (Am w (Value.bool false)):=by
 have lx:=FS (W:=w) hx
 refine BH (args:=[(Value.slice x.p n x.c),(Value.bool false)]) (L:=[Ag x.p (bL us)]) Tryz.func129 rfl rfl (Ad rfl) (FP hx BY) (AG.subF (sL [0,1] rfl) (q4 (AK rfl (AF.nil (q2 ?_)))))
 refine AO rfl (AO rfl (Ey Tryz.call177 (λw hw=>Xv us n x hn hl hu w (Dn hw 0 rfl lx)) rfl (AJ (DT (c:=false) rfl rfl (by decide)) rfl (AK rfl (AF.nil ?_)))))
 exact AC.subF (sL [4] rfl) (AC.then_ (AG.ret (AR rfl (Ai (v:=(Value.bool false)) rfl) (λw hw=>⟨rfl,hw.out⟩))))
theorem O4 (ys:List Pt) (n:Nat) (x:RX (rowsL Ae ys) n) (hn:ys.length=n) (hl:n<=1000000) (hy:ys.Nodup) (w:World) {S:Nat->Prop} (hx:Ro S w x):Calls Tryz.prog 132 #[(Value.slice x.p n x.c)] w (Am w (Value.slice x.p n x.c)):=by
 have lx:=FS (W:=w) hx
 refine BH (args:=[(Value.slice x.p n x.c)]) (L:=[Ag x.p (rowsL Ae ys)]) Tryz.func132 rfl rfl (Ad rfl) (FP hx BY) (AG.subF (sL [0] rfl) (q4 (AK rfl (AF.nil (q1 ?_)))))
 refine q4 (AO rfl (AJ (v:=(vN n)) (AI rfl Tryz.underlying27) rfl (AJ (Af (c:=(decide (n<2))) rfl rfl (DL (a:=n) (b:=2))) rfl (AF.nil (AC.subF (sL [0,2,8] rfl) ?_)))))
 refine AC.then_ ?_
 refine AG.cond rfl (λhc0=>?_) (λhc0=>?_)
 ·replace hc0:=of_decide_eq_true hc0
  refine q4 (AO rfl (AK rfl (AF.nil (AC.subF (sL [0,2] rfl) (AC.then_ ?_)))))
  exact AG.ret (AC.then_ret (AR rfl (Ai (v:=(Value.slice x.p n x.c)) rfl) (λw hw=>⟨rfl,hw.out⟩)))
 ·replace hc0:=of_decide_eq_false hc0
  refine AG.skip (q1 (q4 (AK rfl (AF.nil (AC.then_ ?_)))))
  refine AG.block ?_
  refine AG.lp1 (tg λ(k:Nat)=>1<=k/\k<=n) (tg λ(k:Nat)=>[(0,(Value.slice x.p n x.c)),(3,(vN k))]) (tg λ(k:Nat)=>[Ag x.p (rowsL Ae ys)]) (tg λ(k:Nat)=>n-k) 1 (⟨Nat.le_refl _,by omega⟩) (sF rfl) sr (λk hJ=>?_)
  obtain ⟨hk1,hk⟩:=hJ
  refine AG.seq (q4 (AO rfl (AO rfl (AJ (v:=(vN n)) (AI rfl Tryz.underlying27) rfl (AJ (Af (c:=(decide (k<n))) rfl rfl (DL (a:=k) (b:=n))) rfl ?_)))))
  refine AF.nil (AC.subF (sL [0,3,13] rfl) (AC.then_ ?_))
  refine AG.cond rfl (λhc1=>?_) (λhc1=>?_)
  ·replace hc1:=of_decide_eq_true hc1
   refine AG.skip (q1 (AG.block (AG.seq (Cq [(0,true),(1,true),(2,true),(3,true),(4,true),(5,true),(6,true),(7,true),(8,true),(9,true)] sr (Bc rfl ?_)))))
   refine Bc rfl (Av (v:=(pP (pB x.p) (pO x.p+k*10))) rfl (AW (j:=k) rfl rfl x.ok Tryz.underlying27 Tryz.sizeOf55 rfl (by omega)) (Av (v:=(aG (Ae (ys.getD k (⟨0,0⟩:Pt))))) rfl (AU (vs:=Ae (ys.getD k (⟨0,0⟩:Pt))) (i:=0) rfl rfl (BQ.ne x.ok (by omega)) BC (Au BI _ _ _ (by omega)) (BI _)) (Bc rfl (Bc rfl (Av rfl (BS (c:=((k-1:Nat):Int)) rfl rfl (Cm (a:=k) (b:=1) (by omega) (by omega))) ?_)))))
   refine Av (v:=(pP (pB x.p) (pO x.p+(k-1)*10))) rfl (AW (j:=k-1) rfl rfl x.ok Tryz.underlying27 Tryz.sizeOf55 rfl (by omega)) (Av (v:=(aG (Ae (ys.getD (k-1) (⟨0,0⟩:Pt))))) rfl (AU (vs:=Ae (ys.getD (k-1) (⟨0,0⟩:Pt))) (i:=0) rfl rfl (BQ.ne x.ok (by omega)) BC (Au BI _ _ _ (by omega)) (BI _)) (Av rfl (Bj (c:=decide (ys.getD k (⟨0,0⟩:Pt)=ys.getD (k-1) (⟨0,0⟩:Pt))) rfl rfl Tryz.eqGuardType55 (Tv 9994 (ys.getD k (⟨0,0⟩:Pt)) (ys.getD (k-1) (⟨0,0⟩:Pt)))) (AS.nil (AC.subF (sL [0,3,25] rfl) (AC.then_ ?_)))))
   refine AG.cond rfl (λhc2=>?_) (λhc2=>?_)
   ·replace hc2:=of_decide_eq_true hc2
    exact (Rv hy (by omega) (by omega) hc2).elim
   ·replace hc2:=of_decide_eq_false hc2
    refine AG.skip (AC.in_normal (AC.then_ (AG.region (AO rfl (AJ (AX (c:=((k+1:Nat):Int)) rfl rfl (Ab (a:=k) (b:=1) (by omega))) rfl ?_)))))
    exact AK rfl (AF.nil (AC.subF (sL [0,3] rfl) (AC.round1 (k+1) (⟨by omega,by omega⟩) (by omega) (sF rfl) sr)))
  ·replace hc1:=of_decide_eq_false hc1
   refine AG.exit (AC.then_exit (AC.round1_exit (AC.in_exit (q2 (AO rfl ?_)))))
   exact AK rfl (AF.nil (AC.subF (sL [0,3,2] rfl) (AC.then_ (AG.ret (AR rfl (Ai (v:=(Value.slice x.p n x.c)) rfl) (λw hw=>⟨rfl,hw.out⟩))))))
theorem Y2:Sk Tryz.prog 208 4 (.bool false) 1:=⟨Tryz.underlying208,_,_,rfl,rfl,rfl,rfl,rfl⟩
set_option maxHeartbeats 1000000 in
theorem WB {ps:List Pt} {ts ss:List T3} (x:MX ps ts ss) (hv:Kk ps ts ss) (w:World) {S:Nat->Prop} (hx:Ro S w x):Calls Tryz.prog 58 #[(aG (CG x))] w (Am w (Value.bool true)):=by
 have hp:=hv.pl
 have htl:=hv.tl
 have hsl:=hv.sl
 have h0:=hv.t0
 have hbp:∀p∈ps,Bo p<=1000:=λp hp=>by obtain ⟨j,hj,rfl⟩:=List.getElem_of_mem hp;have h9:=hv.sz j;rwa [cor,List.getD,List.getElem?_eq_getElem hj] at h9
 have hps0:0<ps.length:=by have h9:=(DH (Cv hv.num hv.t0)).1;omega
 have lx:=FS (W:=w) hx
 refine BH (args:=[(aG (CG x))]) (L:=[Ag x.a.p (rowsL Ae ps),Ag x.b.p (rowsL Al ts),Ag x.c.p (rowsL Al ss)]) Tryz.func58 rfl rfl (Ad rfl) (FP hx BY) (AG.subF (sL [0] rfl) (q4 (Bl (cs:=CG x) rfl λb1=>AK rfl (q3 (sL [1,2] rfl) ?_))))
 refine AJ (v:=(pP b1 0)) (AA rfl Tryz.underlying31 rfl Tryz.sizeOf27 rfl) rfl (BL 0 (Value.slice x.a.p ps.length x.a.c) C2 rfl (AJ (v:=(vN ps.length)) (AI rfl Tryz.underlying27) rfl ?_))
 refine AF.makeBool (m:=ps.length) Y2 rfl rfl (by omega) rfl rfl ?_;intro bm hbm;rw [Qp ts ps.length]
 refine AK rfl (q6 (sL [1,2,3] rfl) (q4 (AJ (v:=(pP b1 1)) (AA rfl Tryz.underlying31 rfl Tryz.sizeOf28 rfl) rfl (BL 1 (Value.slice x.b.p ts.length x.b.c) Dc rfl (AJ (v:=(vN ts.length)) (AI rfl Tryz.underlying28) rfl ?_)))))
 refine AO rfl (AF.nil (AC.subF (sL [1,2,3,12,13,14] rfl) (AC.then_ (AG.block ?_))))
 refine AG.lp1 (tg λ(t:Nat)=>t<=ts.length) (tg λ(t:Nat)=>[(1,(pP b1 0)),(2,(Value.bool false)),(3,(Value.slice (some ⟨bm,0,none⟩) ps.length ps.length)),(12,(Value.slice x.b.p ts.length x.b.c)),(13,(vN ts.length)),(14,(vN t))]) (tg λ(t:Nat)=>[rowW (some ⟨bm,0,none⟩) 4 1 ps.length ps.length (bL (Ka ts ps.length t)),Ah b1 31 (CG x),Ag x.a.p (rowsL Ae ps),Ag x.b.p (rowsL Al ts),Ag x.c.p (rowsL Al ss)]) (tg λ(t:Nat)=>ts.length-t) 0 (Nat.zero_le _) (sF rfl) sr (λt hJ=>?_)
 have ht:=hJ
 refine q4 (AJ (Af (c:=(decide (t<ts.length))) rfl rfl (DL (a:=t) (b:=ts.length))) rfl (AF.nil (q1 ?_)))
 refine AG.cond rfl (λhc0=>?_) (λhc0=>?_)
 ·replace hc0:=of_decide_eq_true hc0
  obtain ⟨T,hT⟩:∃q,q=ts.getD t (0,0,0):=⟨_,rfl⟩
  obtain ⟨g1,g2,g3⟩:=DH (Cv hv.num hc0)
  rw [<-hT] at g1 g2 g3
  refine AG.skip (q1 (AG.block (q4 (AJ (v:=(pP (pB x.b.p) (pO x.b.p+t*3))) (AW (j:=t) rfl rfl x.b.ok Tryz.underlying28 Tryz.sizeOf76 rfl (by omega)) rfl (AJ (v:=(aG (Al (ts.getD t ((0,0,0):Nat×Nat×Nat))))) (AU (vs:=Al (ts.getD t ((0,0,0):Nat×Nat×Nat))) (i:=3) rfl rfl (BQ.ne x.b.ok (by omega)) Ip (Au A6 _ _ _ (by omega)) (A6 _)) rfl ?_)))))
  refine AF.retell (k:=17) (u:=(aG (Al T))) rfl (by rw [hT]) (al ON rfl λb2=>Ap rfl Tryz.sizeOf76 rfl (AF.nil (AC.subF (sL [1,2,3,12,13,14,5] rfl) (AC.then_ ?_))))
  refine Cq [(0,true),(1,true),(2,true),(3,true),(4,true),(5,true),(6,true),(7,true),(8,true),(9,true),(10,false),(11,true),(12,false),(13,true),(14,false)] (sk (sl sr)) (Bc rfl (Av (v:=(pP b2 0)) rfl (AE (j:=0) rfl rfl Tryz.underlying76 Tryz.sizeOf3 rfl (by decide) rfl) (Bg 0 (vN T.1) B4 rfl (Bc rfl (Av (v:=(pP b2 1)) rfl (AE (j:=1) rfl rfl Tryz.underlying76 Tryz.sizeOf3 rfl (by decide) rfl) ?_)))))
  refine Bg 0 (vN T.2.1) B4 rfl (Bc rfl (Av (v:=(pP b2 2)) rfl (AE (j:=2) rfl rfl Tryz.underlying76 Tryz.sizeOf3 rfl (by decide) rfl) (Bg 0 (vN T.2.2) B4 rfl (Av (v:=(pP (pB (some ⟨bm,0,none⟩)) (pO (some ⟨bm,0,none⟩)+T.1*1))) rfl (AW (j:=T.1) rfl rfl hbm.row Tryz.underlying208 Tryz.sizeOf4 rfl (by omega)) (AS.imp rfl ?_)))))
  refine AF.storeRow1 (j:=T.1) (v:=(Value.bool true)) rfl rfl hbm (by rw [Mo,Nat.mul_one];simp [Gn]) (by omega) rfl Tryz.sizeOf4 rfl (O3 _ _ _) (AS.back (sk (sl sr)) (Av (v:=(pP (pB (some ⟨bm,0,none⟩)) (pO (some ⟨bm,0,none⟩)+T.2.1*1))) rfl (AW (j:=T.2.1) rfl rfl hbm.row Tryz.underlying208 Tryz.sizeOf4 rfl (by omega)) (AS.imp rfl (AF.storeRow1 (j:=T.2.1) (v:=(Value.bool true)) rfl rfl hbm (by rw [Mo,Nat.mul_one];simp [Gn]) (by omega) rfl Tryz.sizeOf4 rfl (O3 _ _ _) (AS.back (sk (sl sr)) ?_)))))
  refine Av (v:=(pP (pB (some ⟨bm,0,none⟩)) (pO (some ⟨bm,0,none⟩)+T.2.2*1))) rfl (AW (j:=T.2.2) rfl rfl hbm.row Tryz.underlying208 Tryz.sizeOf4 rfl (by omega)) (AS.imp rfl (AF.storeRow1 (j:=T.2.2) (v:=(Value.bool true)) rfl rfl hbm (by rw [Mo,Nat.mul_one];simp [Gn]) (by omega) rfl Tryz.sizeOf4 rfl (O3 _ _ _) (AS.back (sk (sl sr)) (AS.nil (AC.subF (sL [1,2,3,12,13,14,5] rfl) ?_)))))
  refine AC.in_normal (AC.then_ (AG.region (AJ (AX (c:=((t+1:Nat):Int)) rfl rfl (Ab (a:=t) (b:=1) (by omega))) rfl (AO rfl (AF.nil ?_)))))
  refine AC.subF (sL [1,2,3,12,13,14,5] rfl) ?_
  rw [hT,SF (by omega)]
  exact AC.round1 (t+1) (by omega) (by omega) (sF rfl) (sl sr)
 ·replace hc0:=of_decide_eq_false hc0
  have htt:t=ts.length:=by omega
  refine AG.exit (AC.then_exit (AC.round1_exit (AC.in_exit (q1 (q4 ?_)))))
  refine AO rfl (AF.frzRow 0 rfl hbm (by rw [Mo,Nat.mul_one];simp [Gn]) rfl rfl λhn_US=>Ey Tryz.call129 (λw hw=>SR (Ka ts ps.length t) ps.length ⟨(some ⟨bm,0,none⟩),ps.length,hbm.row⟩ (Gn _ _ _) (by omega) (λj hj=>by rw [htt];exact U5 hj (hv.use j hj)) w (Dn (S:=S) hw 0 rfl (At.new hn_US))) rfl (AF.nil (AC.subF (sL [1,2,3,12,13,14,32] rfl) (AC.then_ ?_))))
  refine AG.cond_false rfl (AG.skip (q2 (AJ (v:=(pP b1 0)) (AA rfl Tryz.underlying31 rfl Tryz.sizeOf27 rfl) rfl (BL 1 (Value.slice x.a.p ps.length x.a.c) C2 rfl (AF.callL (S:=S) (V:=Yt) (LW:=XQ (T:=55) (z:=10) (cs:=rowsL Ae ps) (n:=ps.length)) (args:=[(Value.slice x.a.p ps.length x.a.c)]) Tryz.call118 (λw hw=>Lv ps x.a (by omega) w (Yl (Dn hw 2 rfl lx))) rfl λcl1 hcl1=>?_)))))
  refine AK rfl (q3 (sL [1,2,3,12,13,14,6] rfl) (AO rfl ?_))
  have hpn:cl1.p≠none:=λe=>by have:=(cl1.ok.nil e).1;omega
  refine AF.callWX 0 (α:=List Pt) (K:=λys=>ys.Perm ps) (cs':=λys=>rowsL Ae ys) (v:=(Value.tuple #[])) (AN rfl) (Aq (args:=[(Value.slice cl1.p ps.length cl1.c),(Value.func (.func 131) #[] #[])]) rfl rfl Tryz.call130) rfl (λw hw=>U7 ps _ _ _ 55 cl1.ok hpn rfl (by omega) hbp w (hw.holds (i:=0) rfl)) (λd hd=>by cases hd<;>exact (Ad rfl)) λys hys=>?_
  have hyl:=hys.length_eq
  refine AF.frzRow 0 rfl cl1.ok (by rw [Ak BI,hyl]) rfl rfl λhn_cl1=>q6 (sL [1,2,3,12,13,14,6] rfl) (Cq [(0,true),(3,true),(4,true),(5,true),(1,false),(2,true),(6,true),(7,true)] sr (Bc rfl (Av (v:=(pP b1 0)) rfl (AA rfl Tryz.underlying31 rfl Tryz.sizeOf27 rfl) (Bg 2 (Value.slice x.a.p ps.length x.a.c) C2 rfl ?_))))
  refine Av (v:=(vN ps.length)) rfl (AI rfl Tryz.underlying27) (AS.imp rfl (Ey Tryz.call132 (λw hw=>O4 ys ps.length ⟨cl1.p,cl1.c,cl1.ok.row⟩ hyl (by omega) (hys.nodup_iff.2 hv.dst) w (Dn (S:=S) hw 0 rfl (At.new hn_cl1))) rfl (AS.back sr (Av (v:=(vN ps.length)) rfl (AI rfl Tryz.underlying27) (Av rfl (Be (c:=true) rfl rfl (decide_eq_true rfl)) ?_)))))
  exact FO rfl (AS.nil (AC.subF (sL [1,2,3,12,13,14,6] rfl) (AC.then_ (AG.ret (AR rfl (Ai (v:=(Value.bool true)) rfl) (λw hw=>⟨rfl,hw.out⟩))))))
theorem Va (s r:T3) (h:s.1=r.1/\s.2.1=r.2.1) (w:World)  :Calls Tryz.prog 136 #[(aG (Al s)),(aG (Al r))] w (Am w (Value.bool true)):=by
 refine Ac (args:=[(aG (Al s)),(aG (Al r))]) Tryz.func136 rfl rfl (Ad rfl) (AG.subF (sL [0,1] rfl) (q4 (Bl (cs:=Al s) rfl λb1=>Bl (cs:=Al r) rfl λb2=>AK rfl ?_)))
 refine q3 (sL [2,3,4] rfl) (AJ (v:=(pP b1 0)) (AA rfl Tryz.underlying44 rfl Tryz.sizeOf3 rfl) rfl (BL 1 (vN s.1) B4 rfl (AJ (v:=(pP b2 0)) (AA rfl Tryz.underlying44 rfl Tryz.sizeOf3 rfl) rfl (BL 0 (vN r.1) B4 rfl (AJ (Be (c:=true) rfl rfl (decide_eq_true (by omega))) rfl ?_)))))
 refine AO rfl (AF.step (v:=(pP b1 1)) (AB rfl) (AA rfl Tryz.underlying44 rfl Tryz.sizeOf3 rfl) rfl (Ad rfl) (AF.step (v:=(vN s.2.1)) (AB rfl) (AM (i:=1) (v:=(vN s.2.1)) rfl rfl B4.a rfl) rfl (Ad rfl) (AF.step (v:=(pP b2 1)) (AB rfl) (AA rfl Tryz.underlying44 rfl Tryz.sizeOf3 rfl) rfl (Ad rfl) (AF.step (v:=(vN r.2.1)) (AB rfl) (AM (i:=0) (v:=(vN r.2.1)) rfl rfl B4.a rfl) rfl (Ad rfl) (AF.step (v:=(Value.bool true)) (AB rfl) (Be (c:=true) rfl rfl (decide_eq_true (by omega))) rfl (Ad rfl) ?_)))))
 exact AJ (v:=(Value.bool true)) (Aj rfl rfl) rfl (AK rfl (AF.nil (AC.subF (sL [4] rfl) (AC.then_ (AG.ret (AR rfl (Ai (v:=(Value.bool true)) rfl) (λw hw=>⟨rfl,hw.out⟩)))))))
theorem Un (xs ys:List T3) (x:RX (rowsL Al xs) xs.length) (y:RX (rowsL Al ys) ys.length) (hn:xs.length=ys.length) (hl:xs.length<=1000000) (hk:∀j,j<xs.length->(xs.getD j (0,0,0)).1=(ys.getD j (0,0,0)).1/\(xs.getD j (0,0,0)).2.1=(ys.getD j (0,0,0)).2.1) (w:World) {S:Nat->Prop} (hx:Ro S w x) (hy:Ro S w y):Calls Tryz.prog 90 #[(Value.slice x.p xs.length x.c),(Value.slice y.p ys.length y.c),(Value.func (.func 136) #[] #[])] w (Am w (Value.bool true)):=by
 have lx:=FS (W:=w) hx
 have ly:=FS (W:=w) hy
 refine BH (args:=[(Value.slice x.p xs.length x.c),(Value.slice y.p ys.length y.c),(Value.func (.func 136) #[] #[])]) (L:=[Ag x.p (rowsL Al xs),Ag y.p (rowsL Al ys)]) Tryz.func90 rfl rfl (Ad rfl) (FP hx (FP hy BY)) (AG.subF (sL [0,1,2] rfl) (q4 (AK rfl (AF.nil (q1 ?_)))))
 refine q4 (AO rfl (AJ (v:=(vN xs.length)) (AI rfl Tryz.underlying29) rfl (AO rfl (AJ (v:=(vN ys.length)) (AI rfl Tryz.underlying29) rfl (AJ (B8 (c:=false) rfl rfl (decide_eq_false (by omega))) rfl ?_)))))
 refine AF.nil (AC.subF (sL [0,1,2,6,12] rfl) (AC.then_ (AG.cond_false rfl (AG.skip (q1 ?_)))))
 refine q4 (AO rfl (AJ (v:=(vN xs.length)) (AI rfl Tryz.underlying29) rfl (AO rfl (AF.nil (AC.subF (sL [0,1,2,6,14,15] rfl) ?_)))))
 refine AC.then_ (AG.block ?_)
 refine AG.lp1 (tg λ(j:Nat)=>j<=xs.length) (tg λ(j:Nat)=>[(0,(Value.slice x.p xs.length x.c)),(1,(Value.slice y.p ys.length y.c)),(2,(Value.func (.func 136) #[] #[])),(14,(vN xs.length)),(15,(vN j))]) (tg λ(j:Nat)=>[Ag x.p (rowsL Al xs),Ag y.p (rowsL Al ys)]) (tg λ(j:Nat)=>xs.length-j) 0 (Nat.zero_le _) (sF rfl) sr (λj hJ=>?_)
 have hj:=hJ
 refine q4 (AJ (Af (c:=(decide (j<xs.length))) rfl rfl (DL (a:=j) (b:=xs.length))) rfl (AF.nil (q1 ?_)))
 refine AG.cond rfl (λhc1=>?_) (λhc1=>?_)
 ·replace hc1:=of_decide_eq_true hc1
  refine AG.skip (q1 (AG.block (q4 (AO rfl (AK rfl ?_)))))
  refine q6 (sL [0,1,2,14,15,7] rfl) (Cq [(0,true),(1,true),(2,true),(3,true),(4,true),(5,true),(6,true),(7,true),(8,true),(9,false),(10,true)] sr (Bc rfl (Bc rfl (Bc rfl (Av (v:=(pP (pB x.p) (pO x.p+j*3))) rfl (AW (j:=j) rfl rfl x.ok Tryz.underlying29 Tryz.sizeOf44 rfl (by omega)) ?_)))))
  refine Av (v:=(aG (Al (xs.getD j ((0,0,0):Nat×Nat×Nat))))) rfl (AU (vs:=Al (xs.getD j ((0,0,0):Nat×Nat×Nat))) (i:=0) rfl rfl (BQ.ne x.ok (by omega)) OI (Au A6 _ _ _ (by omega)) (A6 _)) (Bc rfl (Bc rfl (Av (v:=(pP (pB y.p) (pO y.p+j*3))) rfl (AW (j:=j) rfl rfl y.ok Tryz.underlying29 Tryz.sizeOf44 rfl (by omega)) (Av (v:=(aG (Al (ys.getD j ((0,0,0):Nat×Nat×Nat))))) rfl (AU (vs:=Al (ys.getD j ((0,0,0):Nat×Nat×Nat))) (i:=1) rfl rfl (BQ.ne y.ok (by omega)) OI (Au A6 _ _ _ (by omega)) (A6 _)) (AS.imp rfl ?_)))))
  refine BU Tryz.call136 (Va _ _ (hk j (by omega))) rfl (AS.back sr (Av rfl (Bi (c:=false) rfl rfl) (AS.nil (AC.subF (sL [0,1,2,14,15,28] rfl) (AC.then_ ?_)))))
  refine AG.cond_false rfl (AG.skip (AC.in_normal (AC.then_ (AG.region (AJ (AX (c:=((j+1:Nat):Int)) rfl rfl (Ab (a:=j) (b:=1) (by omega))) rfl ?_)))))
  exact AO rfl (AF.nil (AC.subF (sL [0,1,2,14,15] rfl) (AC.round1 (j+1) (by omega) (by omega) (sF rfl) sr)))
 ·replace hc1:=of_decide_eq_false hc1
  refine AG.exit (AC.then_exit (AC.round1_exit (AC.in_exit (q2 (AK rfl ?_)))))
  exact AF.nil (AC.then_ (AG.ret (AR rfl (Ai (v:=(Value.bool true)) rfl) (λw hw=>⟨rfl,hw.out⟩))))
theorem R6 {ps:List Pt} {ts ss:List T3} (x:MX ps ts ss) (hv:Kk ps ts ss) (w:World) {S:Nat->Prop} (hx:Ro S w x):Calls Tryz.prog 60 #[(aG (CG x))] w (Am w (Value.bool true)):=by
 have hp:=hv.pl
 have htl:=hv.tl
 have hsl:=hv.sl
 have h0:=hv.t0
 have lx:=FS (W:=w) hx
 refine BH (args:=[(aG (CG x))]) (L:=[Ag x.a.p (rowsL Ae ps),Ag x.b.p (rowsL Al ts),Ag x.c.p (rowsL Al ss)]) Tryz.func60 rfl rfl (Ad rfl) (FP hx BY) (AG.subF (sL [0] rfl) (q4 (Bl (cs:=CG x) rfl λb1=>AK rfl (q6 (sL [1,2] rfl) ?_))))
 refine Cq [(0,true),(1,true),(2,true),(3,true),(4,true),(5,true),(6,false),(7,false),(8,true)] sr (Av (v:=(pP b1 2)) rfl (AA rfl Tryz.underlying31 rfl Tryz.sizeOf29 rfl) (Bg 0 (Value.slice x.c.p ss.length x.c.c) IY rfl (Av (v:=(pP b1 0)) rfl (AA rfl Tryz.underlying31 rfl Tryz.sizeOf27 rfl) (Bg 0 (Value.slice x.a.p ps.length x.a.c) C2 rfl (Av (v:=(pP b1 1)) rfl (AA rfl Tryz.underlying31 rfl Tryz.sizeOf28 rfl) ?_)))))
 refine Bg 0 (Value.slice x.b.p ts.length x.b.c) Dc rfl (AS.imp rfl (AF.callL (S:=S) (V:=Zy) (LW:=XQ (T:=44) (z:=3) (cs:=rowsL Al (Bt ts)) (n:=(Bt ts).length)) (args:=[(Value.slice x.a.p ps.length x.a.c),(Value.slice x.b.p ts.length x.b.c)]) Tryz.call123 (λw hw=>So ts x.b x.a.p ps.length x.a.c hv.num (by omega) (by omega) w (VV (Dn hw 1 rfl lx))) rfl λrm hrm=>AF.frzRow 0 rfl rm.ok (Ak A6 _) rfl rfl λhn_rm=>AS.back (sl sr) (AS.imp rfl ?_)))
 refine Ey Tryz.call90 (λw hw=>Un ss (Bt ts) x.c ⟨rm.p,(Bt ts).length,rm.ok.clip⟩ hv.rl (by omega) hv.rim w (Zs (Dn hw 2 rfl lx)) (Dn (S:=S) hw 0 rfl (At.new hn_rm))) rfl (AS.back (sl sr) (FO rfl (AS.nil (AC.subF (sL [2] rfl) (AC.then_ ?_)))))
 exact AG.ret (AR rfl (Ai (v:=(Value.bool true)) rfl) (λw hw=>⟨rfl,hw.out⟩))
theorem Uz {ps:List Pt} {ts ss:List T3} (x:MX ps ts ss) (hv:Kk ps ts ss) (w:World) {S:Nat->Prop} (hx:Ro S w x):Calls Tryz.prog 19 #[(aG (CG x))] w (Am w (vI 0)):=by
 have hp:=hv.pl
 have htl:=hv.tl
 have hsl:=hv.sl
 have h0:=hv.t0
 have lx:=FS (W:=w) hx
 refine BH (args:=[(aG (CG x))]) (L:=[Ag x.a.p (rowsL Ae ps),Ag x.b.p (rowsL Al ts),Ag x.c.p (rowsL Al ss)]) Tryz.func19 rfl rfl (Ad rfl) (FP hx BY) (AG.subF (sL [0] rfl) (q4 (Bl (cs:=CG x) rfl λb1=>AK rfl (q6 (sL [1,2] rfl) ?_))))
 refine AG.block (q4 (AJ (v:=(pP b1 0)) (AA rfl Tryz.underlying31 rfl Tryz.sizeOf27 rfl) rfl (BL 0 (Value.slice x.a.p ps.length x.a.c) C2 rfl (AJ (v:=(vN ps.length)) (AI rfl Tryz.underlying27) rfl (AJ (CK (c:=false) rfl rfl (decide_eq_false (by omega))) rfl ?_)))))
 refine AO rfl (AF.step (v:=(pP b1 1)) (AB rfl) (AA rfl Tryz.underlying31 rfl Tryz.sizeOf28 rfl) rfl (Ad rfl) (AF.step (v:=(Value.slice x.b.p ts.length x.b.c)) (AB rfl) (AM (i:=0) (v:=(Value.slice x.b.p ts.length x.b.c)) rfl rfl Dc.a rfl) rfl (Ad rfl) (AF.step (v:=(vN ts.length)) (AB rfl) (AI rfl Tryz.underlying28) rfl (Ad rfl) (AF.step (v:=(Value.bool false)) (AB rfl) (CK (c:=false) rfl rfl (decide_eq_false (by omega))) rfl (Ad rfl) (AJ (v:=(Value.bool false)) (AV rfl rfl) rfl ?_)))))
 refine AO rfl (AF.step (v:=(pP b1 2)) (AB rfl) (AA rfl Tryz.underlying31 rfl Tryz.sizeOf29 rfl) rfl (Ad rfl) (AF.step (v:=(Value.slice x.c.p ss.length x.c.c)) (AB rfl) (AM (i:=0) (v:=(Value.slice x.c.p ss.length x.c.c)) rfl rfl IY.a rfl) rfl (Ad rfl) (AF.step (v:=(vN ss.length)) (AB rfl) (AI rfl Tryz.underlying29) rfl (Ad rfl) (AF.step (v:=(Value.bool false)) (AB rfl) (CK (c:=false) rfl rfl (decide_eq_false (by omega))) rfl (Ad rfl) (AJ (v:=(Value.bool false)) (AV rfl rfl) rfl ?_)))))
 refine AK rfl (AF.nil (AC.subF (sL [1,2,3] rfl) (AC.then_ (AG.cond_false rfl (q4 ?_)))))
 refine A7 0 DU rfl (Ey Tryz.call57 (λw hw=>WY x hv w (Dn hw 1 rfl lx)) rfl (AJ (Bi (c:=false) rfl rfl) rfl (AK rfl (AF.nil (AC.subF (sL [1,2,20] rfl) ?_)))))
 refine AC.then_ (AG.cond_false rfl (q4 (A7 0 DU rfl (Ey Tryz.call58 (λw hw=>WB x hv w (Dn hw 1 rfl lx)) rfl (AJ (Bi (c:=false) rfl rfl) rfl ?_)))))
 refine AO rfl (AF.step (v:=(aG (CG x))) (AB rfl) (Aa (i:=0) (vs:=CG x) rfl rfl DU.a DU.s rfl rfl) rfl (Ad rfl) (AF.call (v:=(Value.bool true)) (AB rfl) (Aq (args:=[(aG (CG x))]) rfl rfl Tryz.call59) (λw hw=>ST x hv w (Dn hw 1 rfl lx)) rfl (Ad rfl) (AF.step (v:=(Value.bool false)) (AB rfl) (Bi (c:=false) rfl rfl) rfl (Ad rfl) (AJ (v:=(Value.bool false)) (AV rfl rfl) rfl (AO rfl ?_)))))
 refine AF.step (v:=(aG (CG x))) (AB rfl) (Aa (i:=0) (vs:=CG x) rfl rfl DU.a DU.s rfl rfl) rfl (Ad rfl) (AF.call (v:=(Value.bool true)) (AB rfl) (Aq (args:=[(aG (CG x))]) rfl rfl Tryz.call60) (λw hw=>R6 x hv w (Dn hw 1 rfl lx)) rfl (Ad rfl) (AF.step (v:=(Value.bool false)) (AB rfl) (Bi (c:=false) rfl rfl) rfl (Ad rfl) (AJ (v:=(Value.bool false)) (AV rfl rfl) rfl (AK rfl (AF.nil ?_)))))
 refine AC.subF (sL [1,2,24] rfl) (AC.then_ (AG.cond_false rfl (AG.skip (AC.in_normal (q2 ?_)))))
 exact AK rfl (AF.nil (AC.subF (sL [1,2] rfl) (AC.then_ (AG.ret (AR rfl (Ai (v:=(vI 0)) rfl) (λw hw=>⟨rfl,hw.out⟩))))))
end
section
def dt (a b:Pt):Rat:=a.x*b.y-a.y*b.x
theorem Mh (a b:Pt):dt a b = -dt b a:=by unfold dt;grind
theorem Js (a:Pt):dt a a=0:=by unfold dt;grind
theorem Hh {c z:Rat} (hc:0<c) (h:0<=z*c):0<=z:=HR hc (by rw [Rat.mul_comm];exact h)
theorem Wo {u:Pt} (h:∀z,dt u z=0):u=⟨0,0⟩:=by
  have h1:=h ⟨0,1⟩;have h2:=h ⟨1,0⟩
  obtain ⟨x,y⟩:=u
  unfold dt at h1 h2
  simp only at h1 h2
  have e1:x=0:=by grind
  have e2:y=0:=by grind
  rw [e1,e2]
section
variable {p q r s u w:Pt}
def Z7 (p q r s w x:Pt):Prop:=0<=dt p x/\0<=dt x q/\0<=dt r x/\0<=dt x s/\0<=dt x w
theorem QE {x:Pt} {k l:Rat} (hk:0<k) (hl:0<l) (h:∀z,k*dt u z=l*dt x z) (hp:0<=dt p u) (hq:0<=dt u q) (hr:0<=dt r u) (hs:0<=dt u s) (hw:0<=dt u w):Z7 p q r s w x:=by
  have key:∀z,0<=dt u z->0<=dt x z:=λz hz=>HR hl (by rw [<-h];exact Rat.mul_nonneg (Rat.le_of_lt hk) hz)
  have key2:∀z,0<=dt z u->0<=dt z x:=λz hz=>by
    rw [Mh z x];rw [Mh z u] at hz
    have e:=h z
    have h1:0<=k * -dt u z:=Rat.mul_nonneg (Rat.le_of_lt hk) hz
    exact HR hl (by grind)
  exact ⟨key2 _ hp,key _ hq,key2 _ hr,key _ hs,key _ hw⟩
theorem Sd (hpq:0<dt p q) (hu:u≠⟨0,0⟩) (hp:0<=dt p u) (hq:0<=dt u q) (h:dt p u=0\/dt u q=0):∃x k l,(x=p\/x=q)/\0<k/\0<l/\∀z,k*dt u z=l*dt x z:=by
  have cr:∀z,dt p q*dt u z=dt u q*dt p z+dt p u*dt q z:=λz=>by unfold dt;grind
  have ne:¬(dt p u=0/\dt u q=0):=λ⟨a,b⟩=>hu (Wo λz=>by
    have e:=cr z
    rw [a,b] at e
    have:dt p q*dt u z=0:=by grind
    rcases Rat.mul_eq_zero.1 this with c|c
    · rw [c] at hpq;exact absurd hpq (Rat.lt_irrefl)
    · exact c)
  rcases h with h|h
  · exact ⟨p,dt p q,dt u q,.inl rfl,hpq,by grind,λz=>by rw [cr,h];grind⟩
  · exact ⟨q,dt p q,dt p u,.inr rfl,hpq,by grind,λz=>by rw [cr,h];grind⟩
theorem TB (hpq:0<dt p q) (hrs:0<dt r s) (hu:u≠⟨0,0⟩) (hp:0<=dt p u) (hq:0<=dt u q) (hr:0<=dt r u) (hs:0<=dt u s) (hw:0<=dt u w):∃x,(x=p\/x=q\/x=r\/x=s)/\Z7 p q r s w x:=by
  by_cases d1:dt p u=0\/dt u q=0
  · obtain ⟨x,k,l,hx,hk,hl,h⟩:=Sd hpq hu hp hq d1
    exact ⟨x,hx.elim .inl (λe=>.inr (.inl e)),QE hk hl h hp hq hr hs hw⟩
  by_cases d2:dt r u=0\/dt u s=0
  · obtain ⟨x,k,l,hx,hk,hl,h⟩:=Sd hrs hu hr hs d2
    exact ⟨x,.inr (.inr hx),QE hk hl h hp hq hr hs hw⟩
  have p1:0<dt p u:=by grind
  have p2:0<dt u q:=by grind
  have p3:0<dt r u:=by grind
  have p4:0<dt u s:=by grind
  have mn:∀{a b:Rat},0<=a->0<=b->0<=a*b:=λa b=>Rat.mul_nonneg a b
  have X:∃x,(x=p\/x=q\/x=r\/x=s)/\0<dt x u/\0<=dt p x/\0<=dt x q/\0<=dt r x/\0<=dt x s:=by
    by_cases c:0<=dt p r
    · have h1:0<=dt r q*dt p u:=by
        have e:dt r q*dt p u=dt p r*dt u q+dt r u*dt p q:=by unfold dt;grind
        have:=mn c hq;have:=mn hr (Rat.le_of_lt hpq);grind
      exact ⟨r,.inr (.inr (.inl rfl)),p3,c,Hh p1 h1,by rw [Js];exact Rat.le_refl,Rat.le_of_lt hrs⟩
    · have c':0<=dt r p:=by rw [Mh r p];grind
      have h1:0<=dt p s*dt r u:=by
        have e:dt p s*dt r u=dt r p*dt u s+dt p u*dt r s:=by unfold dt;grind
        have:=mn c' hs;have:=mn hp (Rat.le_of_lt hrs);grind
      exact ⟨p,.inl rfl,p1,by rw [Js];exact Rat.le_refl,Rat.le_of_lt hpq,c',Hh p3 h1⟩
  have Y:∃x,(x=p\/x=q\/x=r\/x=s)/\0<dt u x/\0<=dt p x/\0<=dt x q/\0<=dt r x/\0<=dt x s:=by
    by_cases c:0<=dt q s
    · have h1:0<=dt r q*dt u s:=by
        have e:dt r q*dt u s=dt r u*dt q s+dt r s*dt u q:=by unfold dt;grind
        have:=mn hr c;have:=mn (Rat.le_of_lt hrs) hq;grind
      exact ⟨q,.inr (.inl rfl),p2,Rat.le_of_lt hpq,by rw [Js];exact Rat.le_refl,Hh p4 h1,c⟩
    · have c':0<=dt s q:=by rw [Mh s q];grind
      have h1:0<=dt p s*dt u q:=by
        have e:dt p s*dt u q=dt p u*dt s q+dt p q*dt u s:=by unfold dt;grind
        have:=mn hp c';have:=mn (Rat.le_of_lt hpq) hs;grind
      exact ⟨s,.inr (.inr (.inr rfl)),p4,Hh p2 h1,c',Rat.le_of_lt hrs,by rw [Js];exact Rat.le_refl⟩
  obtain ⟨x,hx,x0,x1,x2,x3,x4⟩:=X
  obtain ⟨y,hy,y0,y1,y2,y3,y4⟩:=Y
  have hxy:0<=dt x y*dt p u:=by
    have e:dt x y*dt p u=dt p x*dt u y+dt x u*dt p y:=by unfold dt;grind
    have:=mn x1 (Rat.le_of_lt y0);have:=mn (Rat.le_of_lt x0) y1;grind
  have hxy:=Hh p1 hxy
  by_cases a:0<=dt x w
  · exact ⟨x,hx,x1,x2,x3,x4,a⟩
  by_cases b:0<=dt y w
  · exact ⟨y,hy,y1,y2,y3,y4,b⟩
  exfalso
  have e:dt x y*dt u w=dt u y*dt x w+dt x u*dt y w:=by unfold dt;grind
  have h1:=mn hxy hw
  have h2:0<dt u y * -dt x w:=Rat.mul_pos y0 (by grind)
  have h3:0<dt x u * -dt y w:=Rat.mul_pos x0 (by grind)
  grind
end
def Of (a b c d e f:Pt):Prop:=(AQ a b d<=0/\AQ a b e<=0/\AQ a b f<=0)\/(AQ b c d<=0/\AQ b c e<=0/\AQ b c f<=0)\/(AQ c a d<=0/\AQ c a e<=0/\AQ c a f<=0)
def Ew (a b:Pt):Pt:=⟨a.x-b.x,a.y-b.y⟩
section
variable {a b c d e f u:Pt}
theorem X0 (hA:0<AQ a b c) (hB:0<AQ d e f) (hu:u≠⟨0,0⟩) (h1:dt u a<=dt u b) (h2:dt u a<=dt u c) (h3:dt u e<=dt u d) (h4:dt u f<=dt u d) (h5:dt u d<=dt u a) :
    (AQ a b d<=0/\AQ a b e<=0/\AQ a b f<=0)\/(AQ c a d<=0/\AQ c a e<=0/\AQ c a f<=0)\/(AQ d e a<=0/\AQ d e b<=0/\AQ d e c<=0)\/(AQ f d a<=0/\AQ f d b<=0/\AQ f d c<=0):=by
  have key:=TB (p:=Ew a c) (q:=Ew b a) (r:=Ew f d) (s:=Ew d e) (u:=u) (w:=Ew a d) (by simp only [Cb] at hA;unfold dt Ew;grind) (by simp only [Cb] at hB;unfold dt Ew;grind) hu
    (by unfold dt Ew at *;grind) (by unfold dt Ew at *;grind) (by unfold dt Ew at *;grind) (by unfold dt Ew at *;grind) (by unfold dt Ew at *;grind)
  clear h1 h2 h3 h4 h5 hA hB hu
  obtain ⟨x,hx,k1,k2,k3,k4,k5⟩:=key
  simp only [Cb]
  unfold dt Ew at k1 k2 k3 k4 k5
  rcases hx with rfl|rfl|rfl|rfl
  · right;left;simp only at k1 k2 k3 k4 k5;unfold Ew at *;simp only at k1 k2 k3 k4 k5;refine ⟨?_,?_,?_⟩<;>grind
  · left;simp only at k1 k2 k3 k4 k5;unfold Ew at *;simp only at k1 k2 k3 k4 k5;refine ⟨?_,?_,?_⟩<;>grind
  · right;right;right;simp only at k1 k2 k3 k4 k5;unfold Ew at *;simp only at k1 k2 k3 k4 k5;refine ⟨?_,?_,?_⟩<;>grind
  · right;right;left;simp only at k1 k2 k3 k4 k5;unfold Ew at *;simp only at k1 k2 k3 k4 k5;refine ⟨?_,?_,?_⟩<;>grind
theorem Jg (a b c:Pt):AQ b c a=AQ a b c:=by simp only [Cb];grind
def ZD (u:Pt) (k:Rat) (a b c d e f:Pt):Prop:=(k<=dt u a/\k<=dt u b/\k<=dt u c)/\dt u d<=k/\dt u e<=k/\dt u f<=k
theorem Y_ (x y z:Rat):(x<=y/\x<=z)\/(y<=z/\y<=x)\/(z<=x/\z<=y):=by grind
theorem XT (hA:0<AQ a b c) (hB:0<AQ d e f) (hu:u≠⟨0,0⟩) (h1:dt u a<=dt u b) (h2:dt u a<=dt u c) (h3:dt u d<=dt u a) (h4:dt u e<=dt u a) (h5:dt u f<=dt u a):Of a b c d e f\/Of d e f a b c:=by
  rcases Y_ (-dt u d) (-dt u e) (-dt u f) with m|m|m
  · rcases X0 hA hB hu h1 h2 (by grind) (by grind) h3 with k|k|k|k
    · exact .inl (.inl k)
    · exact .inl (.inr (.inr k))
    · exact .inr (.inl k)
    · exact .inr (.inr (.inr k))
  · rcases X0 (d:=e) (e:=f) (f:=d) hA (by rw [Jg];exact hB) hu h1 h2 (by grind) (by grind) h4 with k|k|k|k
    · exact .inl (.inl ⟨k.2.2,k.1,k.2.1⟩)
    · exact .inl (.inr (.inr ⟨k.2.2,k.1,k.2.1⟩))
    · exact .inr (.inr (.inl k))
    · exact .inr (.inl k)
  · rcases X0 (d:=f) (e:=d) (f:=e) hA (by rw [<-Jg];exact hB) hu h1 h2 (by grind) (by grind) h5 with k|k|k|k
    · exact .inl (.inl ⟨k.2.1,k.2.2,k.1⟩)
    · exact .inl (.inr (.inr ⟨k.2.1,k.2.2,k.1⟩))
    · exact .inr (.inr (.inr k))
    · exact .inr (.inr (.inl k))
theorem Of.rot1 (h:Of b c a d e f):Of a b c d e f:=by
  rcases h with k|k|k
  · exact .inr (.inl k)
  · exact .inr (.inr k)
  · exact .inl k
theorem Of.rot2 (h:Of d e f b c a):Of d e f a b c:=by
  rcases h with k|k|k
  · exact .inl ⟨k.2.2,k.1,k.2.1⟩
  · exact .inr (.inl ⟨k.2.2,k.1,k.2.1⟩)
  · exact .inr (.inr ⟨k.2.2,k.1,k.2.1⟩)
theorem aO {k:Rat} (hA:0<AQ a b c) (hB:0<AQ d e f) (hu:u≠⟨0,0⟩) (h:ZD u k a b c d e f):Of a b c d e f\/Of d e f a b c:=by
  obtain ⟨⟨h1,h2,h3⟩,h4,h5,h6⟩:=h
  rcases Y_ (dt u a) (dt u b) (dt u c) with m|m|m
  · exact XT hA hB hu m.1 m.2 (by grind) (by grind) (by grind)
  · exact (XT (a:=b) (b:=c) (c:=a) (by rw [Jg];exact hA) hB hu m.1 m.2 (by grind) (by grind) (by grind)).imp Of.rot1 Of.rot2
  · exact (XT (a:=c) (b:=a) (c:=b) (by rw [<-Jg];exact hA) hB hu m.1 m.2 (by grind) (by grind) (by grind)).imp (λq=>q.rot1.rot1) (λq=>q.rot2.rot2)
end
end
section
abbrev M3:=List Pt×List T3×List T3
def Zr (M:M3):Prop:=M.1.length+(BT M.2.1).length<=4096/\4*M.2.1.length<=8192
instance (M:M3):Decidable (Zr M):=inferInstanceAs (Decidable (_/\_))
theorem O2 (ts:List T3):(BT ts).length<=3*ts.length:=by rw [IE];exact H3 _
structure aE (ps:List Pt) (ts ss:List T3) (e:Nat) where
  m:MX ps ts ss
instance {ps:List Pt} {ts ss:List T3} {e:Nat}:D9 (aE ps ts ss e):=⟨λx=>.tuple #[aG (CG x.m),vN e],λx=>D9.rows x.m,λx y hy=>D9.ro x.m y hy⟩
section
variable {P:Program} {ops:Array Oper} {rest:List Oper} {Q:Exit->Act->World->Prop} {n d:Nat} {F:List (Nat×Value)} {w0:BP} {S:Nat->Prop} {L:List As} {t:TypeId} {p:String} {af:Array Edge} {y:Operand} {f:FuncId} {xs:List Operand} {args:List Value} {tys:Array TypeId} {ps:List Pt} {ts ss:List T3} {e:Nat}
end
def Zm (ts:List T3):List Value:=vI (-1)::vN 0::vN 1::rowsL Al ts
structure MB (ps:List Pt) (ts ss:List T3) where
  a:RX (rowsL Ae ps) ps.length
  b:RX (Zm ts) (1+ts.length)
  c:RX (rowsL Al ss) ss.length
def aM {ps:List Pt} {ts ss:List T3} (x:MB ps ts ss):List Value:=[x.a.val,x.b.val,x.c.val]
theorem ZF {ps:List Pt} {ts ss:List T3} {x:MB ps ts ss} {y:As} (hy:y∈[x.a.row,x.b.row,x.c.row]):y.ro=true:=by
  simp only [List.mem_cons,List.not_mem_nil,or_false] at hy
  rcases hy with rfl|rfl|rfl<;>rfl
instance {ps:List Pt} {ts ss:List T3}:D9 (MB ps ts ss):=⟨λx=>aG (aM x),λx=>[x.a.row,x.b.row,x.c.row],λx y hy=>ZF hy⟩
end
section
def zL (l:List Int):List Value:=l.map λ(d:Int)=>.int .i64 d
def Yi {α β:Type} (b:Nat) (enc:α->Value) (eV:β->Value) (kvs:List (α×β)):As:=⟨some b,λo=>o=.map (entsM enc eV kvs 0).toArray kvs.length,true⟩
section
variable {α β:Type} [DecidableEq α] {enc:α->Value} {eV:β->Value} {ok:α->Prop} {P:Program} {kt:TypeId} {n:Nat} {F:List (Nat×Value)} {w0:BP} {L:List As} {d:Option Tmp} {tx et t b:Nat} {pp:String} {af:Array Edge} {g:Option (Nat×Bool)} {mp kp:Operand}
end
def Nu (t:T3):P2:=Bh t.2.1 t.2.2
def WC (ts:List T3) (ms:List Int) (k:P2):Prop:=∃z∈ms,0<=z/\z<(ts.length:Int)/\k=Nu (ts.getD z.toNat (0,0,0))
inductive Nc (ts:List T3) (S:P2->Prop):P2->Prop
  | start {k:P2}:S k->Nc ts S k
  | up {t:T3} {k:P2}:t∈ts->Nc ts S k->(k=Bh t.1 t.2.1\/k=Bh t.2.2 t.1)->Nc ts S (Nu t)
theorem Nc.mono {ts:List T3} {S S':P2->Prop} (h:∀k,S k->S' k) {k:P2} (c:Nc ts S k):Nc ts S' k:=by
  induction c with
  | start hs=>exact .start (h _ hs)
  | up ht _ he ih=>exact .up ht ih he
theorem Nc.or {ts:List T3} {S S':P2->Prop} {k:P2} (c:Nc ts (λk=>S k\/S' k) k):Nc ts S k\/Nc ts S' k:=by
  induction c with
  | start hs=>exact hs.elim (λh=>.inl (.start h)) (λh=>.inr (.start h))
  | up ht _ he ih=>exact ih.elim (λh=>.inl (.up ht h he)) (λh=>.inr (.up ht h he))
structure JS (ts:List T3) (ms:List Int) (i:Nat) (kvs:List (P2×Nat)):Prop where
  ok:I0 NR kvs
  one:∀k,Ar kvs k=none\/Ar kvs k=some 1
  sub:∀k,Ar kvs k=some 1->Nc ts (WC ts ms) k
  mrk:∀k,WC ts (ms.take i) k->Ar kvs k=some 1
section
variable {ts:List T3} {ms:List Int} {i:Nat} {kvs:List (P2×Nat)}
theorem JS.zero (ts:List T3) (ms:List Int):JS ts ms 0 []:=⟨⟨λp hp=>(by cases hp),List.Pairwise.nil⟩,λk=>.inl rfl,λk h=>(by cases h),λk ⟨z,hz,_⟩=>by rw [List.take_zero] at hz;cases hz⟩
theorem JS.put (h:JS ts ms i kvs) {k:P2} (hk:NR k) (hc:Nc ts (WC ts ms) k):JS ts ms i (BZ kvs k 1):=⟨h.ok.put hk,λx=>by
    rw [B6];split
    · exact .inr rfl
    · exact h.one x,λx hx=>by
    rw [B6] at hx;split at hx
    · rename_i e;rw [e];exact hc
    · exact h.sub x hx,λx hx=>by
    rw [B6];split
    · rfl
    · exact h.mrk x hx⟩
theorem Pe {l:List Int} {j:Nat} (h:j<l.length):l.take (j+1)=l.take j++[l.getD j 0]:=by
  rw [List.take_add_one,List.getD,List.getElem?_eq_getElem h];rfl
theorem JS.skip (h:JS ts ms i kvs) (hi:i<ms.length) (hn:¬(0<=ms.getD i 0/\ms.getD i 0<(ts.length:Int))):JS ts ms (i+1) kvs:=by
  refine ⟨h.ok,h.one,h.sub,λx hx=>?_⟩
  rw [Pe hi] at hx
  obtain ⟨z,hz,a,b,rfl⟩:=hx
  rcases List.mem_append.1 hz with hz|hz
  · exact h.mrk _ ⟨z,hz,a,b,rfl⟩
  · exact absurd (by rw [<-List.mem_singleton.1 hz];exact ⟨a,b⟩) hn
def Zw (ts:List T3) (kvs:List (P2×Nat)) (j:Nat):Prop:=∀q,q<j->Ar kvs (Nu (ts.getD q (0,0,0)))=none->Ar kvs (Bh (ts.getD q (0,0,0)).1 (ts.getD q (0,0,0)).2.1)=none/\Ar kvs (Bh (ts.getD q (0,0,0)).2.2 (ts.getD q (0,0,0)).1)=none
theorem JS.no (h:JS ts ms i kvs) {k:P2} (e:(Ar kvs k).getD 0=0):Ar kvs k=none:=(h.one k).elim id λh1=>by rw [h1] at e;cases e
theorem JS.all (h:JS ts ms ms.length kvs) (hc:Zw ts kvs ts.length) (k:P2):Ar kvs k=some 1↔Nc ts (WC ts ms) k:=by
  refine ⟨h.sub k,λc=>?_⟩
  induction c with
  | start hs=>exact h.mrk _ (by rw [List.take_length];exact hs)
  | up ht _ he ih =>
    rename_i t k' _
    obtain ⟨q,hq,rfl⟩:=List.getElem_of_mem ht
    rcases h.one (Nu ts[q]) with h1|h1
    · have h2:=hc q hq (by rw [List.getD,List.getElem?_eq_getElem hq];exact h1)
      rw [List.getD,List.getElem?_eq_getElem hq] at h2
      rcases he with e|e
      · rw [e] at ih;rw [show Ar kvs (Bh ts[q].1 ts[q].2.1)=none from h2.1] at ih;cases ih
      · rw [e] at ih;rw [show Ar kvs (Bh ts[q].2.2 ts[q].1)=none from h2.2] at ih;cases ih
    · exact h1
end
structure HC (ts:List T3) (ms:List Int) where
  b:Nat
  kvs:List (P2×Nat)
  ok:I0 NR kvs
  one:∀k,Ar kvs k=none\/Ar kvs k=some 1
  all:∀k,Ar kvs k=some 1↔Nc ts (WC ts ms) k
instance {ts:List T3} {ms:List Int}:D9 (HC ts ms):=⟨λx=>.map (some x.b),λx=>[Yi x.b Gv vN x.kvs],λx y hy=>by rcases List.mem_singleton.1 hy with rfl;rfl⟩
structure DX (ts:List T3) (ms:List Int) where
  l:List E4
  r:RX (rowsL CL l) l.length
  p:E4->Bool
  el:l=(BT ts).filter p
  all:∀e,p e=true↔Nc ts (WC ts ms) (e.a,e.b)
instance {ts:List T3} {ms:List Int}:D9 (DX ts ms):=⟨λx=>x.r.val,λx=>[x.r.row],λx y hy=>by rcases List.mem_singleton.1 hy with rfl;rfl⟩
end
section
def NV (ts:List T3):Nat->List (P2×Nat)
  | 0=>[]
  | s+1=>BZ (NV ts s) (Bw ts s) (s/3)
def HT (ts:List T3):Nat->Bool
  | 0=>true
  | s+1=>HT ts s&&(Ar (NV ts s) (Bw ts s)).isNone
section
variable {ts:List T3} {N t r s:Nat}
theorem Qb:∀n,s<=n->HT ts n=true->HT ts s=true
  | 0,h,k=>by rw [show s=0 by omega];rfl
  | n+1,h,k=>by
    have k:(HT ts n&&_)=true:=k
    rcases Nat.lt_or_ge s (n+1) with h1|h1
    · exact Qb n (by omega) (Bool.and_eq_true _ _▸k).1
    · rw [show s=n+1 by omega];exact k
end
structure SX (ts:List T3) (o:Bool) where
  b:Nat
  kvs:List (P2×Nat)
  ok:I0 NR kvs
  fin:o=true->kvs=NV ts (3*ts.length)
instance {ts:List T3} {o:Bool}:D9 (SX ts o):=⟨λx=>.tuple #[.map (some x.b),.bool o],λx=>[Yi x.b Gv vN x.kvs],λx y hy=>by rcases List.mem_singleton.1 hy with rfl;rfl⟩
theorem VW {ts:List T3}:(Bt ts).length<=3*ts.length:=by
  have h1:=J8 (ts:=ts) (BT ts).length
  have h2:=O2 ts
  show (IU ts (BT ts).length).length<=_
  omega
end
section
section
variable {P:Program} {Q:Exit->Act->World->Prop} {n:Nat} {F:List (Nat×Value)} {w0:BP} {L:List As} {c x y:Code}
end
end
end Go.Proofs.YtfbomiejpbchdaaGreat
