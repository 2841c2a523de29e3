import Derived.Test.YtpgncndhhhllfaaGreatDoorPart06
import Derived.Test.YtpgncndhhhllfaaGreatDoorPart07
import Derived.Test.YtpgncndhhhllfaaGreatDoorPart15
import Derived.Test.YtpgncndhhhllfaaGreatDoorPart20
import Derived.Test.YtpgncndhhhllfaaGreatDoorPart27
import Derived.Test.YtpgncndhhhllfaaGreatDoorPart29
import Derived.Test.YtpgncndhhhllfaaGreatDoorPart32
import Derived.Test.YtpgncndhhhllfaaGreatDoorPart34
import Derived.Test.YtpgncndhhhllfaaGreatDoorPart37
import Derived.Test.YtpgncndhhhllfaaGreatDoorPart38
import Derived.Test.YtpgncndhhhllfaaGreatDoorPart39
import Derived.Test.YtpgncndhhhllfaaGreatDoorPart40
namespace Go.Proofs.YtpgncndhhhllfaaGreatDoor
open Go Go.RowKit Go.Proofs.Tryz
set_option linter.unusedVariables false
set_option linter.unusedSimpArgs false
section
set_option maxRecDepth 100000
theorem WK (us:List Bool) (n:Nat) (x:RX (bL us) n) (hn:us.length=n) (hl:n<=1000000) (hu:∀j,j<n->us.getD j false=true) (w:World) {S:Nat->Prop} (hx:Ro S w x):Calls Tryz.prog 182 #[(Value.slice x.p n x.c),(Value.bool false)] w (Al w (vI (-1:Int))):=by
 have lx:=Cx (W:=w) hx
 refine Aj (args:=[(Value.slice x.p n x.c),(Value.bool false)]) (L:=[AG x.p (bL us)]) Tryz.func182 rfl rfl (AV rfl) (Ds hx Ax) (AE.subF (sL [0,1] rfl) (q4 (asg' rfl (AD.nil (q1 ?_)))))
 refine q4 (AQ rfl (AK (v:=(vN n)) (AF rfl Tryz.underlying203) rfl (AQ rfl (AD.nil (AC.subF (sL [0,1,4,7,8] rfl) ?_)))))
 refine AC.then_ (AE.block ?_)
 refine AE.lp1 (tg λ(j:Nat)=>j<=n) (tg λ(j:Nat)=>[(0,(Value.slice x.p n x.c)),(1,(Value.bool false)),(7,(vN n)),(8,(vN j))]) (tg λ(j:Nat)=>[AG x.p (bL us)]) (tg λ(j:Nat)=>n-j) 0 (Nat.zero_le _) (sF rfl) sr (λj hJ=>?_)
 have hj:=hJ
 refine q4 (AK (Ai (c:=(decide (j<n))) rfl rfl (CI (a:=j) (b:=n))) rfl (AD.nil (q1 ?_)))
 refine AE.cond rfl (λhc0=>?_) (λhc0=>?_)
 ·replace hc0:=of_decide_eq_true hc0
  refine AE.skip (q1 (AE.block (q4 (AQ rfl (asg' rfl ?_)))))
  refine q3 (sL [0,1,7,8,5] rfl) (AQ rfl (AQ rfl (AQ rfl (AK (v:=(pP (pB x.p) (pO x.p+j*1))) (AO (j:=j) rfl rfl x.ok Tryz.underlying203 Tryz.sizeOf4 rfl (by omega)) rfl (AK (Ah (v:=(Value.bool (us.getD j false))) (i:=0) rfl rfl (x.ok.ne (by omega)) LT (Vn (us:=us) (j:=j) (by omega))) rfl ?_)))))
  refine AK (H2 (c:=false) rfl rfl Tryz.underlying4 (by rw [hu j (by omega)];rfl)) rfl (AD.nil (AC.subF (sL [0,1,7,8,5,16] rfl) (AC.then_ (AE.cond_false rfl (AE.skip ?_)))))
  refine AC.in_normal (AC.then_ (AE.region (AK (Ac (c:=((j+1:Nat):Int)) rfl rfl (Ae (a:=j) (b:=1) (by omega))) rfl (AQ rfl (AD.nil ?_)))))
  exact AC.subF (sL [0,1,7,8,5] rfl) (AC.round1 (j+1) (by omega) (by omega) (sF rfl) sr)
 ·replace hc0:=of_decide_eq_false hc0
  refine AE.exit (AC.then_exit (AC.round1_exit (AC.in_exit (q2 (asg' rfl ?_)))))
  exact AD.nil (AC.then_ (AE.ret (AJ rfl (AS (v:=(vI (-1:Int))) rfl) (λw hw=>⟨rfl,hw.out⟩))))
theorem Q5 (us:List Bool) (n:Nat) (x:RX (bL us) n) (hn:us.length=n) (hl:n<=1000000) (hu:∀j,j<n->us.getD j false=true) (w:World) {S:Nat->Prop} (hx:Ro S w x):Calls Tryz.prog 122 #[(Value.slice x.p n x.c),(Value.bool false)] w (Al w (Value.bool false)):=by
 have lx:=Cx (W:=w) hx
 refine Aj (args:=[(Value.slice x.p n x.c),(Value.bool false)]) (L:=[AG x.p (bL us)]) Tryz.func122 rfl rfl (AV rfl) (Ds hx Ax) (AE.subF (sL [0,1] rfl) (q4 (asg' rfl (AD.nil (q2 ?_)))))
 refine AQ rfl (AQ rfl (CN Tryz.call182 (λw hw=>WK us n x hn hl hu w (inS hw 0 rfl lx)) rfl (AK (DH (c:=false) rfl rfl (by decide)) rfl (asg' rfl (AD.nil ?_)))))
 exact AC.subF (sL [4] rfl) (AC.then_ (AE.ret (AJ rfl (AS (v:=(Value.bool false)) rfl) (λw hw=>⟨rfl,hw.out⟩))))
theorem Mt (ys:List Pt) (n:Nat) (x:RX (rowsL Af ys) n) (hn:ys.length=n) (hl:n<=1000000) (hy:ys.Nodup) (w:World) {S:Nat->Prop} (hx:Ro S w x):Calls Tryz.prog 126 #[(Value.slice x.p n x.c)] w (Al w (Value.slice x.p n x.c)):=by
 have lx:=Cx (W:=w) hx
 refine Aj (args:=[(Value.slice x.p n x.c)]) (L:=[AG x.p (rowsL Af ys)]) Tryz.func126 rfl rfl (AV rfl) (Ds hx Ax) (AE.subF (sL [0] rfl) (q4 (asg' rfl (AD.nil (q1 ?_)))))
 refine q4 (AQ rfl (AK (v:=(vN n)) (AF rfl Tryz.underlying28) rfl (AK (Ai (c:=(decide (n<2))) rfl rfl (CI (a:=n) (b:=2))) rfl (AD.nil (AC.subF (sL [0,2,8] rfl) ?_)))))
 refine AC.then_ ?_
 refine AE.cond rfl (λhc0=>?_) (λhc0=>?_)
 ·replace hc0:=of_decide_eq_true hc0
  refine q4 (AQ rfl (asg' rfl (AD.nil (AC.subF (sL [0,2] rfl) (AC.then_ ?_)))))
  exact AE.ret (AC.then_ret (AJ rfl (AS (v:=(Value.slice x.p n x.c)) rfl) (λw hw=>⟨rfl,hw.out⟩)))
 ·replace hc0:=of_decide_eq_false hc0
  refine AE.skip (q1 (q4 (asg' rfl (AD.nil (AC.then_ ?_)))))
  refine AE.block ?_
  refine AE.lp1 (tg λ(k:Nat)=>1<=k/\k<=n) (tg λ(k:Nat)=>[(0,(Value.slice x.p n x.c)),(3,(vN k))]) (tg λ(k:Nat)=>[AG x.p (rowsL Af ys)]) (tg λ(k:Nat)=>n-k) 1 (⟨Nat.le_refl _,by omega⟩) (sF rfl) sr (λk hJ=>?_)
  obtain ⟨hk1,hk⟩:=hJ
  refine AE.seq (q4 (AQ rfl (AQ rfl (AK (v:=(vN n)) (AF rfl Tryz.underlying28) rfl (AK (Ai (c:=(decide (k<n))) rfl rfl (CI (a:=k) (b:=n))) rfl ?_)))))
  refine AD.nil (AC.subF (sL [0,3,13] rfl) (AC.then_ ?_))
  refine AE.cond rfl (λhc1=>?_) (λhc1=>?_)
  ·replace hc1:=of_decide_eq_true hc1
   refine AE.skip (q1 (AE.block (AE.seq (CS [(0,true),(1,true),(2,true),(3,true),(4,true),(5,true),(6,true),(7,true),(8,true),(9,true)] sr (BT rfl ?_)))))
   refine BT rfl (Ap (v:=(pP (pB x.p) (pO x.p+k*10))) rfl (AO (j:=k) rfl rfl x.ok Tryz.underlying28 Tryz.sizeOf51 rfl (by omega)) (Ap (v:=(aG (Af (ys.getD k (⟨0,0⟩:Pt))))) rfl (AT (vs:=Af (ys.getD k (⟨0,0⟩:Pt))) (i:=0) rfl rfl (A7.ne x.ok (by omega)) BM (Aq Av _ _ _ (by omega)) (Av _)) (BT rfl (BT rfl (Ap rfl (BQ (c:=((k-1:Nat):Int)) rfl rfl (Bv (a:=k) (b:=1) (by omega) (by omega))) ?_)))))
   refine Ap (v:=(pP (pB x.p) (pO x.p+(k-1)*10))) rfl (AO (j:=k-1) rfl rfl x.ok Tryz.underlying28 Tryz.sizeOf51 rfl (by omega)) (Ap (v:=(aG (Af (ys.getD (k-1) (⟨0,0⟩:Pt))))) rfl (AT (vs:=Af (ys.getD (k-1) (⟨0,0⟩:Pt))) (i:=0) rfl rfl (A7.ne x.ok (by omega)) BM (Aq Av _ _ _ (by omega)) (Av _)) (Ap rfl (B1 (c:=decide (ys.getD k (⟨0,0⟩:Pt)=ys.getD (k-1) (⟨0,0⟩:Pt))) rfl rfl Tryz.eqGuardType51 (Sg 9994 (ys.getD k (⟨0,0⟩:Pt)) (ys.getD (k-1) (⟨0,0⟩:Pt)))) (OkE.nil (AC.subF (sL [0,3,25] rfl) (AC.then_ ?_)))))
   refine AE.cond rfl (λhc2=>?_) (λhc2=>?_)
   ·replace hc2:=of_decide_eq_true hc2
    exact (PP hy (by omega) (by omega) hc2).elim
   ·replace hc2:=of_decide_eq_false hc2
    refine AE.skip (AC.in_normal (AC.then_ (AE.region (AQ rfl (AK (Ac (c:=((k+1:Nat):Int)) rfl rfl (Ae (a:=k) (b:=1) (by omega))) rfl ?_)))))
    exact asg' rfl (AD.nil (AC.subF (sL [0,3] rfl) (AC.round1 (k+1) (⟨by omega,by omega⟩) (by omega) (sF rfl) sr)))
  ·replace hc1:=of_decide_eq_false hc1
   refine AE.exit (AC.then_exit (AC.round1_exit (AC.in_exit (q2 (AQ rfl ?_)))))
   exact asg' rfl (AD.nil (AC.subF (sL [0,3,2] rfl) (AC.then_ (AE.ret (AJ rfl (AS (v:=(Value.slice x.p n x.c)) rfl) (λw hw=>⟨rfl,hw.out⟩))))))
theorem W6:Ml Tryz.prog 203 4 (.bool false) 1:=⟨Tryz.underlying203,_,_,rfl,rfl,rfl,rfl,rfl⟩
set_option maxHeartbeats 1000000 in
theorem Tc {ps:List Pt} {ts ss:List T3} (x:MX ps ts ss) (hv:MM ps ts ss) (w:World) {S:Nat->Prop} (hx:Ro S w x):Calls Tryz.prog 69 #[(aG (DA x))] w (Al w (Value.bool true)):=by
 have hp:=hv.pl
 have htl:=hv.tl
 have hsl:=hv.sl
 have h0:=hv.t0
 have hbp:∀p∈ps,B3 p<=1000:=λp hp=>by obtain ⟨j,hj,rfl⟩:=List.getElem_of_mem hp;have h9:=hv.sz j;rwa [C2,List.getD,List.getElem?_eq_getElem hj] at h9
 have hps0:0<ps.length:=by have h9:=(DV (DD hv.num hv.t0)).1;omega
 have lx:=Cx (W:=w) hx
 refine Aj (args:=[(aG (DA x))]) (L:=[AG x.a.p (rowsL Af ps),AG x.b.p (rowsL BA ts),AG x.c.p (rowsL BA ss)]) Tryz.func69 rfl rfl (AV rfl) (Ds hx Ax) (AE.subF (sL [0] rfl) (q4 (BU (cs:=DA x) rfl λb1=>asg' rfl (q3 (sL [1,2] rfl) ?_))))
 refine AK (v:=(pP b1 0)) (AA rfl Tryz.underlying30 rfl Tryz.sizeOf28 rfl) rfl (BJ 0 (Value.slice x.a.p ps.length x.a.c) CW rfl (AK (v:=(vN ps.length)) (AF rfl Tryz.underlying28) rfl ?_))
 refine AD.makeBool (m:=ps.length) W6 rfl rfl (by omega) rfl rfl ?_;intro bm hbm;rw [PU ts ps.length]
 refine asg' rfl (q6 (sL [1,2,3] rfl) (q4 (AK (v:=(pP b1 1)) (AA rfl Tryz.underlying30 rfl Tryz.sizeOf23 rfl) rfl (BJ 1 (Value.slice x.b.p ts.length x.b.c) DG rfl (AK (v:=(vN ts.length)) (AF rfl Tryz.underlying23) rfl ?_)))))
 refine AQ rfl (AD.nil (AC.subF (sL [1,2,3,12,13,14] rfl) (AC.then_ (AE.block ?_))))
 refine AE.lp1 (tg λ(t:Nat)=>t<=ts.length) (tg λ(t:Nat)=>[(1,(pP b1 0)),(2,(Value.bool false)),(3,(Value.slice (some ⟨bm,0,none⟩) ps.length ps.length)),(12,(Value.slice x.b.p ts.length x.b.c)),(13,(vN ts.length)),(14,(vN t))]) (tg λ(t:Nat)=>[rowW (some ⟨bm,0,none⟩) 4 1 ps.length ps.length (bL (JO ts ps.length t)),Ad b1 30 (DA x),AG x.a.p (rowsL Af ps),AG x.b.p (rowsL BA ts),AG x.c.p (rowsL BA ss)]) (tg λ(t:Nat)=>ts.length-t) 0 (Nat.zero_le _) (sF rfl) sr (λt hJ=>?_)
 have ht:=hJ
 refine q4 (AK (Ai (c:=(decide (t<ts.length))) rfl rfl (CI (a:=t) (b:=ts.length))) rfl (AD.nil (q1 ?_)))
 refine AE.cond rfl (λhc0=>?_) (λhc0=>?_)
 ·replace hc0:=of_decide_eq_true hc0
  obtain ⟨T,hT⟩:∃q,q=ts.getD t (0,0,0):=⟨_,rfl⟩
  obtain ⟨g1,g2,g3⟩:=DV (DD hv.num hc0)
  rw [<-hT] at g1 g2 g3
  refine AE.skip (q1 (AE.block (q4 (AK (v:=(pP (pB x.b.p) (pO x.b.p+t*3))) (AO (j:=t) rfl rfl x.b.ok Tryz.underlying23 Tryz.sizeOf53 rfl (by omega)) rfl (AK (v:=(aG (BA (ts.getD t ((0,0,0):Nat×Nat×Nat))))) (AT (vs:=BA (ts.getD t ((0,0,0):Nat×Nat×Nat))) (i:=3) rfl rfl (A7.ne x.b.ok (by omega)) Gx (Aq Be _ _ _ (by omega)) (Be _)) rfl ?_)))))
  refine AD.retell (k:=17) (u:=(aG (BA T))) rfl (by rw [hT]) (al Ng rfl λb2=>A8 rfl Tryz.sizeOf53 rfl (AD.nil (AC.subF (sL [1,2,3,12,13,14,5] rfl) (AC.then_ ?_))))
  refine CS [(0,true),(1,true),(2,true),(3,true),(4,true),(5,true),(6,true),(7,true),(8,true),(9,true),(10,false),(11,true),(12,false),(13,true),(14,false)] (sk (sl sr)) (BT rfl (Ap (v:=(pP b2 0)) rfl (AI (j:=0) rfl rfl Tryz.underlying53 Tryz.sizeOf3 rfl (by decide) rfl) (Ba 0 (vN T.1) Bo rfl (BT rfl (Ap (v:=(pP b2 1)) rfl (AI (j:=1) rfl rfl Tryz.underlying53 Tryz.sizeOf3 rfl (by decide) rfl) ?_)))))
  refine Ba 0 (vN T.2.1) Bo rfl (BT rfl (Ap (v:=(pP b2 2)) rfl (AI (j:=2) rfl rfl Tryz.underlying53 Tryz.sizeOf3 rfl (by decide) rfl) (Ba 0 (vN T.2.2) Bo rfl (Ap (v:=(pP (pB (some ⟨bm,0,none⟩)) (pO (some ⟨bm,0,none⟩)+T.1*1))) rfl (AO (j:=T.1) rfl rfl hbm.row Tryz.underlying203 Tryz.sizeOf4 rfl (by omega)) (OkE.imp rfl ?_)))))
  refine AD.storeRow1 (j:=T.1) (v:=(Value.bool true)) rfl rfl hbm (by rw [K6,Nat.mul_one];simp [Fe]) (by omega) rfl Tryz.sizeOf4 rfl (NZ _ _ _) (OkE.back (sk (sl sr)) (Ap (v:=(pP (pB (some ⟨bm,0,none⟩)) (pO (some ⟨bm,0,none⟩)+T.2.1*1))) rfl (AO (j:=T.2.1) rfl rfl hbm.row Tryz.underlying203 Tryz.sizeOf4 rfl (by omega)) (OkE.imp rfl (AD.storeRow1 (j:=T.2.1) (v:=(Value.bool true)) rfl rfl hbm (by rw [K6,Nat.mul_one];simp [Fe]) (by omega) rfl Tryz.sizeOf4 rfl (NZ _ _ _) (OkE.back (sk (sl sr)) ?_)))))
  refine Ap (v:=(pP (pB (some ⟨bm,0,none⟩)) (pO (some ⟨bm,0,none⟩)+T.2.2*1))) rfl (AO (j:=T.2.2) rfl rfl hbm.row Tryz.underlying203 Tryz.sizeOf4 rfl (by omega)) (OkE.imp rfl (AD.storeRow1 (j:=T.2.2) (v:=(Value.bool true)) rfl rfl hbm (by rw [K6,Nat.mul_one];simp [Fe]) (by omega) rfl Tryz.sizeOf4 rfl (NZ _ _ _) (OkE.back (sk (sl sr)) (OkE.nil (AC.subF (sL [1,2,3,12,13,14,5] rfl) ?_)))))
  refine AC.in_normal (AC.then_ (AE.region (AK (Ac (c:=((t+1:Nat):Int)) rfl rfl (Ae (a:=t) (b:=1) (by omega))) rfl (AQ rfl (AD.nil ?_)))))
  refine AC.subF (sL [1,2,3,12,13,14,5] rfl) ?_
  rw [hT,Pr (by omega)]
  exact AC.round1 (t+1) (by omega) (by omega) (sF rfl) (sl sr)
 ·replace hc0:=of_decide_eq_false hc0
  have htt:t=ts.length:=by omega
  refine AE.exit (AC.then_exit (AC.round1_exit (AC.in_exit (q1 (q4 ?_)))))
  refine AQ rfl (AD.frzRow 0 rfl hbm (by rw [K6,Nat.mul_one];simp [Fe]) rfl rfl λhn_US=>CN Tryz.call122 (λw hw=>Q5 (JO ts ps.length t) ps.length ⟨(some ⟨bm,0,none⟩),ps.length,hbm.row⟩ (Fe _ _ _) (by omega) (λj hj=>by rw [htt];exact S7 hj (hv.use j hj)) w (inS (S:=S) hw 0 rfl (At.new hn_US))) rfl (AD.nil (AC.subF (sL [1,2,3,12,13,14,32] rfl) (AC.then_ ?_))))
  refine AE.cond_false rfl (AE.skip (q2 (AK (v:=(pP b1 0)) (AA rfl Tryz.underlying30 rfl Tryz.sizeOf28 rfl) rfl (BJ 1 (Value.slice x.a.p ps.length x.a.c) CW rfl (AD.callL (S:=S) (V:=Vh) (LW:=UZ (T:=51) (z:=10) (cs:=rowsL Af ps) (n:=ps.length)) (args:=[(Value.slice x.a.p ps.length x.a.c)]) Tryz.call41 (λw hw=>J9 ps x.a (by omega) w (X5 (inS hw 2 rfl lx))) rfl λcl1 hcl1=>?_)))))
  refine asg' rfl (q3 (sL [1,2,3,12,13,14,6] rfl) (AQ rfl ?_))
  have hpn:cl1.p≠none:=λe=>by have:=(cl1.ok.nil e).1;omega
  refine AD.callWX 0 (α:=List Pt) (K:=λys=>ys.Perm ps) (cs':=λys=>rowsL Af ys) (v:=(Value.tuple #[])) (AW rfl) (An (args:=[(Value.slice cl1.p ps.length cl1.c),(Value.func (.func 124) #[] #[])]) rfl rfl Tryz.call123) rfl (λw hw=>Rm ps _ _ _ 51 cl1.ok hpn rfl (by omega) hbp w (hw.holds (i:=0) rfl)) (λd hd=>by cases hd<;>exact (AV rfl)) λys hys=>?_
  have hyl:=hys.length_eq
  refine AD.frzRow 0 rfl cl1.ok (by rw [Ab Av,hyl]) rfl rfl λhn_cl1=>q6 (sL [1,2,3,12,13,14,6] rfl) (CS [(0,true),(3,true),(4,true),(5,true),(1,false),(2,true),(6,true),(7,true)] sr (BT rfl (Ap (v:=(pP b1 0)) rfl (AA rfl Tryz.underlying30 rfl Tryz.sizeOf28 rfl) (Ba 2 (Value.slice x.a.p ps.length x.a.c) CW rfl ?_))))
  refine Ap (v:=(vN ps.length)) rfl (AF rfl Tryz.underlying28) (OkE.imp rfl (CN Tryz.call126 (λw hw=>Mt ys ps.length ⟨cl1.p,cl1.c,cl1.ok.row⟩ hyl (by omega) (hys.nodup_iff.2 hv.dst) w (inS (S:=S) hw 0 rfl (At.new hn_cl1))) rfl (OkE.back sr (Ap (v:=(vN ps.length)) rfl (AF rfl Tryz.underlying28) (Ap rfl (BR (c:=true) rfl rfl (decide_eq_true rfl)) ?_)))))
  exact pS' rfl (OkE.nil (AC.subF (sL [1,2,3,12,13,14,6] rfl) (AC.then_ (AE.ret (AJ rfl (AS (v:=(Value.bool true)) rfl) (λw hw=>⟨rfl,hw.out⟩))))))
theorem TW (s r:T3) (h:s.1=r.1/\s.2.1=r.2.1) (w:World)  :Calls Tryz.prog 130 #[(aG (BA s)),(aG (BA r))] w (Al w (Value.bool true)):=by
 refine Aa (args:=[(aG (BA s)),(aG (BA r))]) Tryz.func130 rfl rfl (AV rfl) (AE.subF (sL [0,1] rfl) (q4 (BU (cs:=BA s) rfl λb1=>BU (cs:=BA r) rfl λb2=>asg' rfl ?_)))
 refine q3 (sL [2,3,4] rfl) (AK (v:=(pP b1 0)) (AA rfl Tryz.underlying55 rfl Tryz.sizeOf3 rfl) rfl (BJ 1 (vN s.1) Bo rfl (AK (v:=(pP b2 0)) (AA rfl Tryz.underlying55 rfl Tryz.sizeOf3 rfl) rfl (BJ 0 (vN r.1) Bo rfl (AK (BR (c:=true) rfl rfl (decide_eq_true (by omega))) rfl ?_)))))
 refine AQ rfl (AD.step (v:=(pP b1 1)) (AB rfl) (AA rfl Tryz.underlying55 rfl Tryz.sizeOf3 rfl) rfl (AV rfl) (AD.step (v:=(vN s.2.1)) (AB rfl) (AL (i:=1) (v:=(vN s.2.1)) rfl rfl Bo.a rfl) rfl (AV rfl) (AD.step (v:=(pP b2 1)) (AB rfl) (AA rfl Tryz.underlying55 rfl Tryz.sizeOf3 rfl) rfl (AV rfl) (AD.step (v:=(vN r.2.1)) (AB rfl) (AL (i:=0) (v:=(vN r.2.1)) rfl rfl Bo.a rfl) rfl (AV rfl) (AD.step (v:=(Value.bool true)) (AB rfl) (BR (c:=true) rfl rfl (decide_eq_true (by omega))) rfl (AV rfl) ?_)))))
 exact AK (v:=(Value.bool true)) (AX rfl rfl) rfl (asg' rfl (AD.nil (AC.subF (sL [4] rfl) (AC.then_ (AE.ret (AJ rfl (AS (v:=(Value.bool true)) rfl) (λw hw=>⟨rfl,hw.out⟩)))))))
theorem S0 (xs ys:List T3) (x:RX (rowsL BA xs) xs.length) (y:RX (rowsL BA ys) ys.length) (hn:xs.length=ys.length) (hl:xs.length<=1000000) (hk:∀j,j<xs.length->(xs.getD j (0,0,0)).1=(ys.getD j (0,0,0)).1/\(xs.getD j (0,0,0)).2.1=(ys.getD j (0,0,0)).2.1) (w:World) {S:Nat->Prop} (hx:Ro S w x) (hy:Ro S w y):Calls Tryz.prog 50 #[(Value.slice x.p xs.length x.c),(Value.slice y.p ys.length y.c),(Value.func (.func 130) #[] #[])] w (Al w (Value.bool true)):=by
 have lx:=Cx (W:=w) hx
 have ly:=Cx (W:=w) hy
 refine Aj (args:=[(Value.slice x.p xs.length x.c),(Value.slice y.p ys.length y.c),(Value.func (.func 130) #[] #[])]) (L:=[AG x.p (rowsL BA xs),AG y.p (rowsL BA ys)]) Tryz.func50 rfl rfl (AV rfl) (Ds hx (Ds hy Ax)) (AE.subF (sL [0,1,2] rfl) (q4 (asg' rfl (AD.nil (q1 ?_)))))
 refine q4 (AQ rfl (AK (v:=(vN xs.length)) (AF rfl Tryz.underlying24) rfl (AQ rfl (AK (v:=(vN ys.length)) (AF rfl Tryz.underlying24) rfl (AK (Bk (c:=false) rfl rfl (decide_eq_false (by omega))) rfl ?_)))))
 refine AD.nil (AC.subF (sL [0,1,2,6,12] rfl) (AC.then_ (AE.cond_false rfl (AE.skip (q1 ?_)))))
 refine q4 (AQ rfl (AK (v:=(vN xs.length)) (AF rfl Tryz.underlying24) rfl (AQ rfl (AD.nil (AC.subF (sL [0,1,2,6,14,15] rfl) ?_)))))
 refine AC.then_ (AE.block ?_)
 refine AE.lp1 (tg λ(j:Nat)=>j<=xs.length) (tg λ(j:Nat)=>[(0,(Value.slice x.p xs.length x.c)),(1,(Value.slice y.p ys.length y.c)),(2,(Value.func (.func 130) #[] #[])),(14,(vN xs.length)),(15,(vN j))]) (tg λ(j:Nat)=>[AG x.p (rowsL BA xs),AG y.p (rowsL BA ys)]) (tg λ(j:Nat)=>xs.length-j) 0 (Nat.zero_le _) (sF rfl) sr (λj hJ=>?_)
 have hj:=hJ
 refine q4 (AK (Ai (c:=(decide (j<xs.length))) rfl rfl (CI (a:=j) (b:=xs.length))) rfl (AD.nil (q1 ?_)))
 refine AE.cond rfl (λhc1=>?_) (λhc1=>?_)
 ·replace hc1:=of_decide_eq_true hc1
  refine AE.skip (q1 (AE.block (q4 (AQ rfl (asg' rfl ?_)))))
  refine q6 (sL [0,1,2,14,15,7] rfl) (CS [(0,true),(1,true),(2,true),(3,true),(4,true),(5,true),(6,true),(7,true),(8,true),(9,false),(10,true)] sr (BT rfl (BT rfl (BT rfl (Ap (v:=(pP (pB x.p) (pO x.p+j*3))) rfl (AO (j:=j) rfl rfl x.ok Tryz.underlying24 Tryz.sizeOf55 rfl (by omega)) ?_)))))
  refine Ap (v:=(aG (BA (xs.getD j ((0,0,0):Nat×Nat×Nat))))) rfl (AT (vs:=BA (xs.getD j ((0,0,0):Nat×Nat×Nat))) (i:=0) rfl rfl (A7.ne x.ok (by omega)) NB (Aq Be _ _ _ (by omega)) (Be _)) (BT rfl (BT rfl (Ap (v:=(pP (pB y.p) (pO y.p+j*3))) rfl (AO (j:=j) rfl rfl y.ok Tryz.underlying24 Tryz.sizeOf55 rfl (by omega)) (Ap (v:=(aG (BA (ys.getD j ((0,0,0):Nat×Nat×Nat))))) rfl (AT (vs:=BA (ys.getD j ((0,0,0):Nat×Nat×Nat))) (i:=1) rfl rfl (A7.ne y.ok (by omega)) NB (Aq Be _ _ _ (by omega)) (Be _)) (OkE.imp rfl ?_)))))
  refine ck' Tryz.call130 (TW _ _ (hk j (by omega))) rfl (OkE.back sr (Ap rfl (BF (c:=false) rfl rfl) (OkE.nil (AC.subF (sL [0,1,2,14,15,28] rfl) (AC.then_ ?_)))))
  refine AE.cond_false rfl (AE.skip (AC.in_normal (AC.then_ (AE.region (AK (Ac (c:=((j+1:Nat):Int)) rfl rfl (Ae (a:=j) (b:=1) (by omega))) rfl ?_)))))
  exact AQ rfl (AD.nil (AC.subF (sL [0,1,2,14,15] rfl) (AC.round1 (j+1) (by omega) (by omega) (sF rfl) sr)))
 ·replace hc1:=of_decide_eq_false hc1
  refine AE.exit (AC.then_exit (AC.round1_exit (AC.in_exit (q2 (asg' rfl ?_)))))
  exact AD.nil (AC.then_ (AE.ret (AJ rfl (AS (v:=(Value.bool true)) rfl) (λw hw=>⟨rfl,hw.out⟩))))
theorem Pi {ps:List Pt} {ts ss:List T3} (x:MX ps ts ss) (hv:MM ps ts ss) (w:World) {S:Nat->Prop} (hx:Ro S w x):Calls Tryz.prog 71 #[(aG (DA x))] w (Al w (Value.bool true)):=by
 have hp:=hv.pl
 have htl:=hv.tl
 have hsl:=hv.sl
 have h0:=hv.t0
 have lx:=Cx (W:=w) hx
 refine Aj (args:=[(aG (DA x))]) (L:=[AG x.a.p (rowsL Af ps),AG x.b.p (rowsL BA ts),AG x.c.p (rowsL BA ss)]) Tryz.func71 rfl rfl (AV rfl) (Ds hx Ax) (AE.subF (sL [0] rfl) (q4 (BU (cs:=DA x) rfl λb1=>asg' rfl (q6 (sL [1,2] rfl) ?_))))
 refine CS [(0,true),(1,true),(2,true),(3,true),(4,true),(5,true),(6,false),(7,false),(8,true)] sr (Ap (v:=(pP b1 2)) rfl (AA rfl Tryz.underlying30 rfl Tryz.sizeOf24 rfl) (Ba 0 (Value.slice x.c.p ss.length x.c.c) D5 rfl (Ap (v:=(pP b1 0)) rfl (AA rfl Tryz.underlying30 rfl Tryz.sizeOf28 rfl) (Ba 0 (Value.slice x.a.p ps.length x.a.c) CW rfl (Ap (v:=(pP b1 1)) rfl (AA rfl Tryz.underlying30 rfl Tryz.sizeOf23 rfl) ?_)))))
 refine Ba 0 (Value.slice x.b.p ts.length x.b.c) DG rfl (OkE.imp rfl (AD.callL (S:=S) (V:=Wy) (LW:=UZ (T:=55) (z:=3) (cs:=rowsL BA (Il ts)) (n:=(Il ts).length)) (args:=[(Value.slice x.a.p ps.length x.a.c),(Value.slice x.b.p ts.length x.b.c)]) Tryz.call73 (λw hw=>Vp ts x.b x.a.p ps.length x.a.c hv.num (by omega) (by omega) w (TD (inS hw 1 rfl lx))) rfl λrm hrm=>AD.frzRow 0 rfl rm.ok (Ab Be _) rfl rfl λhn_rm=>OkE.back (sl sr) (OkE.imp rfl ?_)))
 refine CN Tryz.call50 (λw hw=>S0 ss (Il ts) x.c ⟨rm.p,(Il ts).length,rm.ok.clip⟩ hv.rl (by omega) hv.rim w (X6 (inS hw 2 rfl lx)) (inS (S:=S) hw 0 rfl (At.new hn_rm))) rfl (OkE.back (sl sr) (pS' rfl (OkE.nil (AC.subF (sL [2] rfl) (AC.then_ ?_)))))
 exact AE.ret (AJ rfl (AS (v:=(Value.bool true)) rfl) (λw hw=>⟨rfl,hw.out⟩))
theorem RS {ps:List Pt} {ts ss:List T3} (x:MX ps ts ss) (hv:MM ps ts ss) (w:World) {S:Nat->Prop} (hx:Ro S w x):Calls Tryz.prog 21 #[(aG (DA x))] w (Al w (vI 0)):=by
 have hp:=hv.pl
 have htl:=hv.tl
 have hsl:=hv.sl
 have h0:=hv.t0
 have lx:=Cx (W:=w) hx
 refine Aj (args:=[(aG (DA x))]) (L:=[AG x.a.p (rowsL Af ps),AG x.b.p (rowsL BA ts),AG x.c.p (rowsL BA ss)]) Tryz.func21 rfl rfl (AV rfl) (Ds hx Ax) (AE.subF (sL [0] rfl) (q4 (BU (cs:=DA x) rfl λb1=>asg' rfl (q6 (sL [1,2] rfl) ?_))))
 refine AE.block (q4 (AK (v:=(pP b1 0)) (AA rfl Tryz.underlying30 rfl Tryz.sizeOf28 rfl) rfl (BJ 0 (Value.slice x.a.p ps.length x.a.c) CW rfl (AK (v:=(vN ps.length)) (AF rfl Tryz.underlying28) rfl (AK (Bb (c:=false) rfl rfl (decide_eq_false (by omega))) rfl ?_)))))
 refine AQ rfl (AD.step (v:=(pP b1 1)) (AB rfl) (AA rfl Tryz.underlying30 rfl Tryz.sizeOf23 rfl) rfl (AV rfl) (AD.step (v:=(Value.slice x.b.p ts.length x.b.c)) (AB rfl) (AL (i:=0) (v:=(Value.slice x.b.p ts.length x.b.c)) rfl rfl DG.a rfl) rfl (AV rfl) (AD.step (v:=(vN ts.length)) (AB rfl) (AF rfl Tryz.underlying23) rfl (AV rfl) (AD.step (v:=(Value.bool false)) (AB rfl) (Bb (c:=false) rfl rfl (decide_eq_false (by omega))) rfl (AV rfl) (AK (v:=(Value.bool false)) (AR rfl rfl) rfl ?_)))))
 refine AQ rfl (AD.step (v:=(pP b1 2)) (AB rfl) (AA rfl Tryz.underlying30 rfl Tryz.sizeOf24 rfl) rfl (AV rfl) (AD.step (v:=(Value.slice x.c.p ss.length x.c.c)) (AB rfl) (AL (i:=0) (v:=(Value.slice x.c.p ss.length x.c.c)) rfl rfl D5.a rfl) rfl (AV rfl) (AD.step (v:=(vN ss.length)) (AB rfl) (AF rfl Tryz.underlying24) rfl (AV rfl) (AD.step (v:=(Value.bool false)) (AB rfl) (Bb (c:=false) rfl rfl (decide_eq_false (by omega))) rfl (AV rfl) (AK (v:=(Value.bool false)) (AR rfl rfl) rfl ?_)))))
 refine asg' rfl (AD.nil (AC.subF (sL [1,2,3] rfl) (AC.then_ (AE.cond_false rfl (q4 ?_)))))
 refine BG 0 Bi rfl (CN Tryz.call68 (λw hw=>Ta x hv w (inS hw 1 rfl lx)) rfl (AK (BF (c:=false) rfl rfl) rfl (asg' rfl (AD.nil (AC.subF (sL [1,2,20] rfl) ?_)))))
 refine AC.then_ (AE.cond_false rfl (q4 (BG 0 Bi rfl (CN Tryz.call69 (λw hw=>Tc x hv w (inS hw 1 rfl lx)) rfl (AK (BF (c:=false) rfl rfl) rfl ?_)))))
 refine AQ rfl (AD.step (v:=(aG (DA x))) (AB rfl) (Ak (i:=0) (vs:=DA x) rfl rfl Bi.a Bi.s rfl rfl) rfl (AV rfl) (AD.call (v:=(Value.bool true)) (AB rfl) (An (args:=[(aG (DA x))]) rfl rfl Tryz.call70) (λw hw=>RO x hv w (inS hw 1 rfl lx)) rfl (AV rfl) (AD.step (v:=(Value.bool false)) (AB rfl) (BF (c:=false) rfl rfl) rfl (AV rfl) (AK (v:=(Value.bool false)) (AR rfl rfl) rfl (AQ rfl ?_)))))
 refine AD.step (v:=(aG (DA x))) (AB rfl) (Ak (i:=0) (vs:=DA x) rfl rfl Bi.a Bi.s rfl rfl) rfl (AV rfl) (AD.call (v:=(Value.bool true)) (AB rfl) (An (args:=[(aG (DA x))]) rfl rfl Tryz.call71) (λw hw=>Pi x hv w (inS hw 1 rfl lx)) rfl (AV rfl) (AD.step (v:=(Value.bool false)) (AB rfl) (BF (c:=false) rfl rfl) rfl (AV rfl) (AK (v:=(Value.bool false)) (AR rfl rfl) rfl (asg' rfl (AD.nil ?_)))))
 refine AC.subF (sL [1,2,24] rfl) (AC.then_ (AE.cond_false rfl (AE.skip (AC.in_normal (q2 ?_)))))
 exact asg' rfl (AD.nil (AC.subF (sL [1,2] rfl) (AC.then_ (AE.ret (AJ rfl (AS (v:=(vI 0)) rfl) (λw hw=>⟨rfl,hw.out⟩))))))
end
def QG (ps:List Pt) (t:T3):Rat:=Am (C2 ps t.1) (C2 ps t.2.1) (C2 ps t.2.2)*(1/2)
def G2 (ps:List Pt) (ts:List T3):Nat->Rat
  | 0=>0
  | i+1=>G2 ps ts i+QG ps (ts.getD i (0,0,0))
theorem Ok {ps:List Pt} (hz:∀k,B3 (C2 ps k)<=1000) (t:T3):Sz (QG ps t)<=8009:=by
  have h1:=DO (C2 ps t.1) (C2 ps t.2.1) (C2 ps t.2.2)
  have z1:=hz t.1
  have z2:=hz t.2.1
  have z3:=hz t.2.2
  have h2:=EJ (Am (C2 ps t.1) (C2 ps t.2.1) (C2 ps t.2.2)) (1/2)
  have h3:=Ou
  unfold QG
  omega
theorem OI {ps:List Pt} (hz:∀k,B3 (C2 ps k)<=1000) (ts:List T3):∀i,Sz (G2 ps ts i)<=2+i*8010
  | 0=>by show Sz (0:Rat)<=2+0*8010;decide +kernel
  | i+1=>by
    have h:=OI hz ts i
    have h1:=Ok hz (ts.getD i (0,0,0))
    have h4:=Kc (G2 ps ts i) (QG ps (ts.getD i (0,0,0)))
    show Sz (G2 ps ts i+QG ps (ts.getD i (0,0,0)))<=_
    omega
section
set_option maxRecDepth 100000
theorem Sc {ps:List Pt} {ts ss:List T3} (x:MX ps ts ss) (hl:ts.length<=8192) (hz:∀k,B3 (C2 ps k)<=1000) (hnb:DK ps.length ts=true) (w:World) {S:Nat->Prop} (hx:Ro S w x):Calls Tryz.prog 24 #[(aG (DA x))] w (Al w (aG (AN (G2 ps ts ts.length)))):=by
 have lx:=Cx (W:=w) hx
 refine Aj (args:=[(aG (DA x))]) (L:=[AG x.a.p (rowsL Af ps),AG x.b.p (rowsL BA ts),AG x.c.p (rowsL BA ss)]) Tryz.func24 rfl rfl (AV rfl) (Ds hx Ax) (AE.subF (sL [0] rfl) (q4 (BU (cs:=DA x) rfl λb1=>al Dr rfl λb2=>q3 (sL [1,2] rfl) ?_)))
 refine al Dr rfl λb3=>AD.nil (q1 (q4 (BG 2 Bi rfl (CN (args:=[(aG (DA x))]) (v:=(Value.bool true)) Tryz.call76 (λw hw=>(by have h9:=OJ x (by omega) w (inS hw 3 rfl lx);rw [hnb] at h9;exact h9)) rfl ?_))))
 refine AK (BF (c:=false) rfl rfl) rfl (AD.nil (AC.subF (sL [1,2,3,7] rfl) (AC.then_ (AE.cond_false rfl (AE.skip ?_)))))
 refine q1 (q4 (AK (v:=(pP b1 1)) (AA rfl Tryz.underlying30 rfl Tryz.sizeOf23 rfl) rfl (BJ 2 (Value.slice x.b.p ts.length x.b.c) DG rfl (AK (v:=(vN ts.length)) (AF rfl Tryz.underlying23) rfl (AQ rfl ?_)))))
 refine AD.nil (AC.subF (sL [1,2,3,11,12] rfl) (AC.then_ (AE.block ?_)))
 refine AE.lp1 (tg λ(i:Nat)=>i<=ts.length) (tg λ(i:Nat)=>[(1,(pP b1 0)),(2,(pP b2 0)),(3,(pP b3 0)),(11,(vN ts.length)),(12,(vN i))]) (tg λ(i:Nat)=>[Ad b3 48 (AN (G2 ps ts i)),Ad b2 48 (AN (0:Rat)),Ad b1 30 (DA x),AG x.a.p (rowsL Af ps),AG x.b.p (rowsL BA ts),AG x.c.p (rowsL BA ss)]) (tg λ(i:Nat)=>ts.length-i) 0 (Nat.zero_le _) (sF rfl) sr (λi hJ=>?_)
 have hi:=hJ
 refine q4 (AK (Ai (c:=(decide (i<ts.length))) rfl rfl (CI (a:=i) (b:=ts.length))) rfl (AD.nil (q1 ?_)))
 refine AE.cond rfl (λhc1=>?_) (λhc1=>?_)
 ·replace hc1:=of_decide_eq_true hc1
  have hi2:=hc1
  have ha:=OI hz ts i
  have hb:=Ok hz (ts.getD i (0,0,0))
  have z0:=hz (ts.getD i (0,0,0)).1
  have z1:=hz (ts.getD i (0,0,0)).2.1
  have z2:=hz (ts.getD i (0,0,0)).2.2
  refine AE.skip (q1 (AE.block (q4 (AQ rfl (asg' rfl ?_)))))
  refine AD.nil (AC.subF (sL [1,2,3,11,12,4] rfl) (AC.then_ (rC [(0,true),(1,true),(2,true),(3,false),(4,true),(5,true),(6,true),(7,false),(8,false)] 9 [] sr (sl sr) (by kernel_rfl) (λ_ _ d _ _ h=>by cases d<;>exact h) (vE (v:=(aG (AN (G2 ps ts i)))) rfl (Ak (i:=0) (vs:=AN (G2 ps ts i)) rfl rfl Bf.a Bf.s rfl rfl) rfl (vE (v:=(aG (DA x))) rfl (Ak (i:=2) (vs:=DA x) rfl rfl Bi.a Bi.s rfl rfl) rfl ?_)))))
  refine vM rfl rfl rfl (CZ.imp rfl (CN Tryz.call29 (λw hw=>Ny x i hi2 (DD hnb hi2) w (inS hw 3 rfl lx)) rfl (CZ.back sr (vE rfl (AZ (v:=(aG (Af (C2 ps (ts.getD i (0,0,0)).1)))) rfl rfl) rfl (vE rfl (AZ (v:=(aG (Af (C2 ps (ts.getD i (0,0,0)).2.1)))) rfl rfl) rfl ?_)))))
  refine vE rfl (AZ (v:=(aG (Af (C2 ps (ts.getD i (0,0,0)).2.2)))) rfl rfl) rfl (CZ.imp rfl ?_)
  have hz1:=DO (C2 ps (ts.getD i (0,0,0)).1) (C2 ps (ts.getD i (0,0,0)).2.1) (C2 ps (ts.getD i (0,0,0)).2.2)
  have hz2:=EJ (Am (C2 ps (ts.getD i (0,0,0)).1) (C2 ps (ts.getD i (0,0,0)).2.1) (C2 ps (ts.getD i (0,0,0)).2.2)) (1/2)
  refine ck' Tryz.call77 (UB (C2 ps (ts.getD i (0,0,0)).1) (C2 ps (ts.getD i (0,0,0)).2.1) (C2 ps (ts.getD i (0,0,0)).2.2) (by omega)) rfl (CZ.back sr (CZ.imp rfl (ck' Tryz.call14 (Kb (G2 ps ts i) (QG ps (ts.getD i (0,0,0))) (by omega)) rfl (CZ.back sr (CZ.cut rfl ?_)))))
  refine A8 rfl Tryz.sizeOf48 rfl (OkE.back (sl sr) (OkE.nil (AC.subF (sL [1,2,3,11,12] rfl) (AC.in_normal (AC.then_ ?_)))))
  exact AE.region (AK (Ac (c:=((i+1:Nat):Int)) rfl rfl (Ae (a:=i) (b:=1) (by omega))) rfl (AQ rfl (AD.nil (AC.subF (sL [1,2,3,11,12] rfl) (AC.round1 (i+1) (by omega) (by omega) (sF rfl) sr)))))
 ·replace hc1:=of_decide_eq_false hc1
  have hie:i=ts.length:=by omega
  refine AE.exit (AC.then_exit (AC.round1_exit (AC.in_exit (q2 (BG 0 Bf rfl ?_)))))
  exact C6 rfl Tryz.sizeOf48 rfl (AD.nil (AC.subF (sL [1,2,3,11,12] rfl) (AC.then_ (AE.ret (AJ rfl (Au (i:=1) (cs:=AN (G2 ps ts i)) rfl rfl Tryz.isAgg48 Tryz.sizeOf48 rfl) (λw hw=>⟨by rw [hie],hw.out⟩))))))
end
section
section
variable {ts:List T3} {ps:List Pt} {p:Int} {i:Nat}
end
end
section
def dt (a b:Pt):Rat:=a.x*b.y-a.y*b.x
section
variable {p q r s u w:Pt}
end
section
variable {a b c d e f u:Pt}
def YA (u:Pt) (k:Rat) (a b c d e f:Pt):Prop:=(k<=dt u a/\k<=dt u b/\k<=dt u c)/\dt u d<=k/\dt u e<=k/\dt u f<=k
end
end
section
abbrev M3:=List Pt×List T3×List T3
def Xp (M:M3):Prop:=M.1.length+(B0 M.2.1).length<=4096/\4*M.2.1.length<=8192
instance (M:M3):Decidable (Xp M):=inferInstanceAs (Decidable (_/\_))
structure Yl (ps:List Pt) (ts ss:List T3) (e:Nat) where
  m:MX ps ts ss
instance {ps:List Pt} {ts ss:List T3} {e:Nat}:Cy (Yl ps ts ss e):=⟨λx=>.tuple #[aG (DA x.m),vN e],λx=>Cy.rows x.m,λx y hy=>Cy.ro x.m y hy⟩
section
variable {P:Program} {ops:Array Oper} {rest:List Oper} {Q:Exit->Act->World->Prop} {n d:Nat} {F:List (Nat×Value)} {w0:A_} {S:Nat->Prop} {L:List As} {t:TypeId} {p:String} {af:Array Edge} {y:Operand} {f:FuncId} {xs:List Operand} {args:List Value} {tys:Array TypeId} {ps:List Pt} {ts ss:List T3} {e:Nat}
end
def X8 (ts:List T3):List Value:=vI (-1)::vN 0::vN 1::rowsL BA ts
structure MB (ps:List Pt) (ts ss:List T3) where
  a:RX (rowsL Af ps) ps.length
  b:RX (X8 ts) (1+ts.length)
  c:RX (rowsL BA ss) ss.length
def Yg {ps:List Pt} {ts ss:List T3} (x:MB ps ts ss):List Value:=[x.a.val,x.b.val,x.c.val]
theorem Wx {ps:List Pt} {ts ss:List T3} {x:MB ps ts ss} {y:As} (hy:y∈[x.a.row,x.b.row,x.c.row]):y.ro=true:=by
  simp only [List.mem_cons,List.not_mem_nil,or_false] at hy
  rcases hy with rfl|rfl|rfl<;>rfl
instance {ps:List Pt} {ts ss:List T3}:Cy (MB ps ts ss):=⟨λx=>aG (Yg x),λx=>[x.a.row,x.b.row,x.c.row],λx y hy=>Wx hy⟩
end
section
def W_ {α β:Type} (b:Nat) (enc:α->Value) (eV:β->Value) (kvs:List (α×β)):As:=⟨some b,λo=>o=.map (entsM enc eV kvs 0).toArray kvs.length,true⟩
section
variable {α β:Type} [DecidableEq α] {enc:α->Value} {eV:β->Value} {ok:α->Prop} {P:Program} {kt:TypeId} {n:Nat} {F:List (Nat×Value)} {w0:A_} {L:List As} {d:Option Tmp} {tx et t b:Nat} {pp:String} {af:Array Edge} {g:Option (Nat×Bool)} {mp kp:Operand}
end
def MS (t:T3):P2:=Dc t.2.1 t.2.2
def UW (ts:List T3) (ms:List Int) (k:P2):Prop:=∃z∈ms,0<=z/\z<(ts.length:Int)/\k=MS (ts.getD z.toNat (0,0,0))
inductive LR (ts:List T3) (S:P2->Prop):P2->Prop
  | start {k:P2}:S k->LR ts S k
  | up {t:T3} {k:P2}:t∈ts->LR ts S k->(k=Dc t.1 t.2.1\/k=Dc t.2.2 t.1)->LR ts S (MS t)
theorem LR.mono {ts:List T3} {S S':P2->Prop} (h:∀k,S k->S' k) {k:P2} (c:LR ts S k):LR ts S' k:=by
  induction c with
  | start hs=>exact .start (h _ hs)
  | up ht _ he ih=>exact .up ht ih he
theorem LR.or {ts:List T3} {S S':P2->Prop} {k:P2} (c:LR ts (λk=>S k\/S' k) k):LR ts S k\/LR ts S' k:=by
  induction c with
  | start hs=>exact hs.elim (λh=>.inl (.start h)) (λh=>.inr (.start h))
  | up ht _ he ih=>exact ih.elim (λh=>.inl (.up ht h he)) (λh=>.inr (.up ht h he))
structure II (ts:List T3) (ms:List Int) (i:Nat) (kvs:List (P2×Nat)):Prop where
  ok:Ja OD kvs
  one:∀k,BB kvs k=none\/BB kvs k=some 1
  sub:∀k,BB kvs k=some 1->LR ts (UW ts ms) k
  mrk:∀k,UW ts (ms.take i) k->BB kvs k=some 1
section
variable {ts:List T3} {ms:List Int} {i:Nat} {kvs:List (P2×Nat)}
theorem II.zero (ts:List T3) (ms:List Int):II ts ms 0 []:=⟨⟨λp hp=>(by cases hp),List.Pairwise.nil⟩,λk=>.inl rfl,λk h=>(by cases h),λk ⟨z,hz,_⟩=>by rw [List.take_zero] at hz;cases hz⟩
theorem II.put (h:II ts ms i kvs) {k:P2} (hk:OD k) (hc:LR ts (UW ts ms) k):II ts ms i (BW kvs k 1):=⟨h.ok.put hk,λx=>by
    rw [C8];split
    · exact .inr rfl
    · exact h.one x,λx hx=>by
    rw [C8] at hx;split at hx
    · rename_i e;rw [e];exact hc
    · exact h.sub x hx,λx hx=>by
    rw [C8];split
    · rfl
    · exact h.mrk x hx⟩
theorem My {l:List Int} {j:Nat} (h:j<l.length):l.take (j+1)=l.take j++[l.getD j 0]:=by
  rw [List.take_add_one,List.getD,List.getElem?_eq_getElem h];rfl
theorem II.skip (h:II ts ms i kvs) (hi:i<ms.length) (hn:¬(0<=ms.getD i 0/\ms.getD i 0<(ts.length:Int))):II ts ms (i+1) kvs:=by
  refine ⟨h.ok,h.one,h.sub,λx hx=>?_⟩
  rw [My hi] at hx
  obtain ⟨z,hz,a,b,rfl⟩:=hx
  rcases List.mem_append.1 hz with hz|hz
  · exact h.mrk _ ⟨z,hz,a,b,rfl⟩
  · exact absurd (by rw [<-List.mem_singleton.1 hz];exact ⟨a,b⟩) hn
def Xx (ts:List T3) (kvs:List (P2×Nat)) (j:Nat):Prop:=∀q,q<j->BB kvs (MS (ts.getD q (0,0,0)))=none->BB kvs (Dc (ts.getD q (0,0,0)).1 (ts.getD q (0,0,0)).2.1)=none/\BB kvs (Dc (ts.getD q (0,0,0)).2.2 (ts.getD q (0,0,0)).1)=none
theorem II.no (h:II ts ms i kvs) {k:P2} (e:(BB kvs k).getD 0=0):BB kvs k=none:=(h.one k).elim id λh1=>by rw [h1] at e;cases e
theorem II.all (h:II ts ms ms.length kvs) (hc:Xx ts kvs ts.length) (k:P2):BB kvs k=some 1↔LR ts (UW ts ms) k:=by
  refine ⟨h.sub k,λc=>?_⟩
  induction c with
  | start hs=>exact h.mrk _ (by rw [List.take_length];exact hs)
  | up ht _ he ih =>
    rename_i t k' _
    obtain ⟨q,hq,rfl⟩:=List.getElem_of_mem ht
    rcases h.one (MS ts[q]) with h1|h1
    · have h2:=hc q hq (by rw [List.getD,List.getElem?_eq_getElem hq];exact h1)
      rw [List.getD,List.getElem?_eq_getElem hq] at h2
      rcases he with e|e
      · rw [e] at ih;rw [show BB kvs (Dc ts[q].1 ts[q].2.1)=none from h2.1] at ih;cases ih
      · rw [e] at ih;rw [show BB kvs (Dc ts[q].2.2 ts[q].1)=none from h2.2] at ih;cases ih
    · exact h1
end
structure HC (ts:List T3) (ms:List Int) where
  b:Nat
  kvs:List (P2×Nat)
  ok:Ja OD kvs
  one:∀k,BB kvs k=none\/BB kvs k=some 1
  all:∀k,BB kvs k=some 1↔LR ts (UW ts ms) k
instance {ts:List T3} {ms:List Int}:Cy (HC ts ms):=⟨λx=>.map (some x.b),λx=>[W_ x.b IB vN x.kvs],λx y hy=>by rcases List.mem_singleton.1 hy with rfl;rfl⟩
structure DX (ts:List T3) (ms:List Int) where
  l:List E4
  r:RX (rowsL B6 l) l.length
  p:E4->Bool
  el:l=(B0 ts).filter p
  all:∀e,p e=true↔LR ts (UW ts ms) (e.a,e.b)
instance {ts:List T3} {ms:List Int}:Cy (DX ts ms):=⟨λx=>x.r.val,λx=>[x.r.row],λx y hy=>by rcases List.mem_singleton.1 hy with rfl;rfl⟩
end
section
def Kk (ts:List T3):Nat->List (P2×Nat)
  | 0=>[]
  | s+1=>BW (Kk ts s) (Bq ts s) (s/3)
def GY (ts:List T3):Nat->Bool
  | 0=>true
  | s+1=>GY ts s&&(BB (Kk ts s) (Bq ts s)).isNone
section
variable {ts:List T3} {N t r s:Nat}
theorem Ol:∀n,s<=n->GY ts n=true->GY ts s=true
  | 0,h,k=>by rw [show s=0 by omega];rfl
  | n+1,h,k=>by
    have k:(GY ts n&&_)=true:=k
    rcases Nat.lt_or_ge s (n+1) with h1|h1
    · exact Ol n (by omega) (Bool.and_eq_true _ _▸k).1
    · rw [show s=n+1 by omega];exact k
end
structure SX (ts:List T3) (o:Bool) where
  b:Nat
  kvs:List (P2×Nat)
  ok:Ja OD kvs
  fin:o=true->kvs=Kk ts (3*ts.length)
instance {ts:List T3} {o:Bool}:Cy (SX ts o):=⟨λx=>.tuple #[.map (some x.b),.bool o],λx=>[W_ x.b IB vN x.kvs],λx y hy=>by rcases List.mem_singleton.1 hy with rfl;rfl⟩
end
section
section
variable {P:Program} {Q:Exit->Act->World->Prop} {n:Nat} {F:List (Nat×Value)} {w0:A_} {L:List As} {c x y:Code}
end
end
end Go.Proofs.YtpgncndhhhllfaaGreatDoor
