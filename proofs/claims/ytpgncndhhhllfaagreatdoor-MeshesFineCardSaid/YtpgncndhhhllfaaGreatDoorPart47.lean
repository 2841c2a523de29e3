import Derived.Test.YtpgncndhhhllfaaGreatDoorPart03
import Derived.Test.YtpgncndhhhllfaaGreatDoorPart12
import Derived.Test.YtpgncndhhhllfaaGreatDoorPart17
import Derived.Test.YtpgncndhhhllfaaGreatDoorPart24
import Derived.Test.YtpgncndhhhllfaaGreatDoorPart30
import Derived.Test.YtpgncndhhhllfaaGreatDoorPart32
import Derived.Test.YtpgncndhhhllfaaGreatDoorPart43
import Derived.Test.YtpgncndhhhllfaaGreatDoorPart46
namespace Go.Proofs.YtpgncndhhhllfaaGreatDoor
open Go Go.RowKit Go.Proofs.Tryz
set_option linter.unusedVariables false
set_option linter.unusedSimpArgs false
section
set_option maxRecDepth 100000
theorem aD (us:List Bool) (n:Nat) (x:RX (bL us) n) (hn:us.length=n) (hl:n<=1000000) (hu:∀j,j<n->us.getD j false=true) (w:World) {S:Nat->Prop} (hx:Ro S w x):Calls prog 182 #[(Value.slice x.p n x.c),(Value.bool false)] w (An w (vI (-1:Int))):=by
 have lx:=Cl (W:=w) hx
 refine Ah (args:=[(Value.slice x.p n x.c),(Value.bool false)]) (L:=[AQ x.p (bL us)]) func182 O O (AT O) (Ed hx Ax) (AF.subF (sL [0,1] O) (q4 (asg' O (AE.nil (q1 ?_)))))
 refine q4 (AM O (AH (v:=(vN n)) (AG O underlying203) O (AM O (AE.nil (AC.subF (sL [0,1,4,7,8] O) ?_)))))
 refine AC.then_ (AF.block ?_)
 refine AF.lp1 (tg λ(j:Nat)=>j<=n) (tg λ(j:Nat)=>[(0,(Value.slice x.p n x.c)),(1,(Value.bool false)),(7,(vN n)),(8,(vN j))]) (tg λ(j:Nat)=>[AQ x.p (bL us)]) (tg λ(j:Nat)=>n-j) 0 (Nat.zero_le _) (sF O) sr (λj hJ=>?_)
 have hj:=hJ
 refine q4 (AH (Ae (c:=(decide (j<n))) O O (CL (a:=j) (b:=n))) O (AE.nil (q1 ?_)))
 refine AF.cond O (λhc0=>?_) (λhc0=>?_)
 ·replace hc0:=of_decide_eq_true hc0
  refine AF.skip (q1 (AF.block (q4 (AM O (asg' O ?_)))))
  refine q3 (sL [0,1,7,8,5] O) (AM O (AM O (AM O (AH (v:=(pP (pB x.p) (pO x.p+j*1))) (AN (j:=j) O O x.ok underlying203 sizeOf4 O Z) O (AH (Ad (v:=(Value.bool (us.getD j false))) (i:=0) O O (x.ok.ne Z) Jt (ZP (us:=us) (j:=j) Z)) O ?_)))))
  refine AH (G8 (c:=false) O O underlying4 (by rw [hu j Z];rfl)) O (AE.nil (AC.subF (sL [0,1,7,8,5,16] O) (AC.then_ (AF.cond_false O (AF.skip ?_)))))
  refine AC.in_normal (AC.then_ (AF.region (AH (AW (c:=((j+1:Nat):Int)) O O (AU (a:=j) (b:=1) Z)) O (AM O (AE.nil ?_)))))
  exact AC.subF (sL [0,1,7,8,5] O) (AC.round1 (j+1) Z Z (sF O) sr)
 ·replace hc0:=of_decide_eq_false hc0
  refine AF.exit (AC.then_exit (AC.round1_exit (AC.in_exit (q2 (asg' O ?_)))))
  exact AE.nil (AC.then_ (AF.ret (AI O (AY (v:=(vI (-1:Int))) O) (λw hw=>⟨rfl,hw.out⟩))))
theorem VK (us:List Bool) (n:Nat) (x:RX (bL us) n) (hn:us.length=n) (hl:n<=1000000) (hu:∀j,j<n->us.getD j false=true) (w:World) {S:Nat->Prop} (hx:Ro S w x):Calls prog 122 #[(Value.slice x.p n x.c),(Value.bool false)] w (An w (Value.bool false)):=by
 have lx:=Cl (W:=w) hx
 refine Ah (args:=[(Value.slice x.p n x.c),(Value.bool false)]) (L:=[AQ x.p (bL us)]) func122 O O (AT O) (Ed hx Ax) (AF.subF (sL [0,1] O) (q4 (asg' O (AE.nil (q2 ?_)))))
 refine AM O (AM O (Cj call182 (λw hw=>aD us n x hn hl hu w (inS hw 0 O lx)) O (AH (CU (c:=false) O O (by decide)) O (asg' O (AE.nil ?_)))))
 exact AC.subF (sL [4] O) (AC.then_ (AF.ret (AI O (AY (v:=(Value.bool false)) O) (λw hw=>⟨rfl,hw.out⟩))))
theorem QV (ys:List Pt) (n:Nat) (x:RX (rowsL Am ys) n) (hn:ys.length=n) (hl:n<=1000000) (hy:ys.Nodup) (w:World) {S:Nat->Prop} (hx:Ro S w x):Calls prog 126 #[(Value.slice x.p n x.c)] w (An w (Value.slice x.p n x.c)):=by
 have lx:=Cl (W:=w) hx
 refine Ah (args:=[(Value.slice x.p n x.c)]) (L:=[AQ x.p (rowsL Am ys)]) func126 O O (AT O) (Ed hx Ax) (AF.subF (sL [0] O) (q4 (asg' O (AE.nil (q1 ?_)))))
 refine q4 (AM O (AH (v:=(vN n)) (AG O underlying28) O (AH (Ae (c:=(decide (n<2))) O O (CL (a:=n) (b:=2))) O (AE.nil (AC.subF (sL [0,2,8] O) ?_)))))
 refine AC.then_ ?_
 refine AF.cond O (λhc0=>?_) (λhc0=>?_)
 ·replace hc0:=of_decide_eq_true hc0
  refine q4 (AM O (asg' O (AE.nil (AC.subF (sL [0,2] O) (AC.then_ ?_)))))
  exact AF.ret (AC.then_ret (AI O (AY (v:=(Value.slice x.p n x.c)) O) (λw hw=>⟨rfl,hw.out⟩)))
 ·replace hc0:=of_decide_eq_false hc0
  refine AF.skip (q1 (q4 (asg' O (AE.nil (AC.then_ ?_)))))
  refine AF.block ?_
  refine AF.lp1 (tg λ(k:Nat)=>1<=k/\k<=n) (tg λ(k:Nat)=>[(0,(Value.slice x.p n x.c)),(3,(vN k))]) (tg λ(k:Nat)=>[AQ x.p (rowsL Am ys)]) (tg λ(k:Nat)=>n-k) 1 (⟨Nat.le_refl _,Z⟩) (sF O) sr (λk hJ=>?_)
  obtain ⟨hk1,hk⟩:=hJ
  refine AF.seq (q4 (AM O (AM O (AH (v:=(vN n)) (AG O underlying28) O (AH (Ae (c:=(decide (k<n))) O O (CL (a:=k) (b:=n))) O ?_)))))
  refine AE.nil (AC.subF (sL [0,3,13] O) (AC.then_ ?_))
  refine AF.cond O (λhc1=>?_) (λhc1=>?_)
  ·replace hc1:=of_decide_eq_true hc1
   refine AF.skip (q1 (AF.block (AF.seq (Cd [(0,true),(1,true),(2,true),(3,true),(4,true),(5,true),(6,true),(7,true),(8,true),(9,true)] sr (Bb O ?_)))))
   refine Bb O (Aq (v:=(pP (pB x.p) (pO x.p+k*10))) O (AN (j:=k) O O x.ok underlying28 sizeOf51 O Z) (Aq (v:=(aG (Am (ys.getD k (⟨0,0⟩:Pt))))) O (AZ (vs:=Am (ys.getD k (⟨0,0⟩:Pt))) (i:=0) O O (BF.ne x.ok Z) BO (A7 BM _ _ _ Z) (BM _)) (Bb O (Bb O (Aq O (BW (c:=((k-1:Nat):Int)) O O (CM (a:=k) (b:=1) Z Z)) ?_)))))
   refine Aq (v:=(pP (pB x.p) (pO x.p+(k-1)*10))) O (AN (j:=k-1) O O x.ok underlying28 sizeOf51 O Z) (Aq (v:=(aG (Am (ys.getD (k-1) (⟨0,0⟩:Pt))))) O (AZ (vs:=Am (ys.getD (k-1) (⟨0,0⟩:Pt))) (i:=0) O O (BF.ne x.ok Z) BO (A7 BM _ _ _ Z) (BM _)) (Aq O (CJ (c:=decide (ys.getD k (⟨0,0⟩:Pt)=ys.getD (k-1) (⟨0,0⟩:Pt))) O O eqGuardType51 (aS 9994 (ys.getD k (⟨0,0⟩:Pt)) (ys.getD (k-1) (⟨0,0⟩:Pt)))) (OkE.nil (AC.subF (sL [0,3,25] O) (AC.then_ ?_)))))
   refine AF.cond O (λhc2=>?_) (λhc2=>?_)
   ·replace hc2:=of_decide_eq_true hc2
    exact (SC hy Z Z hc2).elim
   ·replace hc2:=of_decide_eq_false hc2
    refine AF.skip (AC.in_normal (AC.then_ (AF.region (AM O (AH (AW (c:=((k+1:Nat):Int)) O O (AU (a:=k) (b:=1) Z)) O ?_)))))
    exact asg' O (AE.nil (AC.subF (sL [0,3] O) (AC.round1 (k+1) (⟨Z,Z⟩) Z (sF O) sr)))
  ·replace hc1:=of_decide_eq_false hc1
   refine AF.exit (AC.then_exit (AC.round1_exit (AC.in_exit (q2 (AM O ?_)))))
   exact asg' O (AE.nil (AC.subF (sL [0,3,2] O) (AC.then_ (AF.ret (AI O (AY (v:=(Value.slice x.p n x.c)) O) (λw hw=>⟨rfl,hw.out⟩))))))
theorem bX:Oi prog 203 4 (.bool false) 1:=⟨underlying203,_,_,rfl,rfl,rfl,rfl,rfl⟩
set_option maxHeartbeats 1000000 in
theorem Xi {ps:List Pt} {ts ss:List T3} (x:MX ps ts ss) (hv:Jc ps ts ss) (w:World) {S:Nat->Prop} (hx:Ro S w x):Calls prog 69 #[(aG (CI x))] w (An w (Value.bool true)):=by
 have hp:=hv.pl
 have htl:=hv.tl
 have hsl:=hv.sl
 have h0:=hv.t0
 have hbp:∀p∈ps,B_ p<=1000:=λp hp=>by obtain ⟨j,hj,rfl⟩:=List.getElem_of_mem hp;have h9:=hv.sz j;rwa [cor,List.getD,List.getElem?_eq_getElem hj] at h9
 have hps0:0<ps.length:=by have h9:=(De (Cc hv.num hv.t0)).1;omega
 have lx:=Cl (W:=w) hx
 refine Ah (args:=[(aG (CI x))]) (L:=[AQ x.a.p (rowsL Am ps),AQ x.b.p (rowsL Ai ts),AQ x.c.p (rowsL Ai ss)]) func69 O O (AT O) (Ed hx Ax) (AF.subF (sL [0] O) (q4 (BU (cs:=CI x) O λb1=>asg' O (q3 (sL [1,2] O) ?_))))
 refine AH (v:=(pP b1 0)) (AA O underlying30 O sizeOf28 O) O (BA 0 (Value.slice x.a.p ps.length x.a.c) EB O (AH (v:=(vN ps.length)) (AG O underlying28) O ?_))
 refine AE.makeBool (m:=ps.length) bX O O Z O O ?_;intro bm hbm;rw [TI ts ps.length]
 refine asg' O (q6 (sL [1,2,3] O) (q4 (AH (v:=(pP b1 1)) (AA O underlying30 O sizeOf23 O) O (BA 1 (Value.slice x.b.p ts.length x.b.c) CP O (AH (v:=(vN ts.length)) (AG O underlying23) O ?_)))))
 refine AM O (AE.nil (AC.subF (sL [1,2,3,12,13,14] O) (AC.then_ (AF.block ?_))))
 refine AF.lp1 (tg λ(t:Nat)=>t<=ts.length) (tg λ(t:Nat)=>[(1,(pP b1 0)),(2,(Value.bool false)),(3,(Value.slice (some ⟨bm,0,none⟩) ps.length ps.length)),(12,(Value.slice x.b.p ts.length x.b.c)),(13,(vN ts.length)),(14,(vN t))]) (tg λ(t:Nat)=>[rowW (some ⟨bm,0,none⟩) 4 1 ps.length ps.length (bL (KT ts ps.length t)),Ag b1 30 (CI x),AQ x.a.p (rowsL Am ps),AQ x.b.p (rowsL Ai ts),AQ x.c.p (rowsL Ai ss)]) (tg λ(t:Nat)=>ts.length-t) 0 (Nat.zero_le _) (sF O) sr (λt hJ=>?_)
 have ht:=hJ
 refine q4 (AH (Ae (c:=(decide (t<ts.length))) O O (CL (a:=t) (b:=ts.length))) O (AE.nil (q1 ?_)))
 refine AF.cond O (λhc0=>?_) (λhc0=>?_)
 ·replace hc0:=of_decide_eq_true hc0
  obtain ⟨T,hT⟩:∃q,q=ts.getD t (0,0,0):=⟨_,rfl⟩
  obtain ⟨g1,g2,g3⟩:=De (Cc hv.num hc0)
  rw [<-hT] at g1 g2 g3
  refine AF.skip (q1 (AF.block (q4 (AH (v:=(pP (pB x.b.p) (pO x.b.p+t*3))) (AN (j:=t) O O x.b.ok underlying23 sizeOf53 O Z) O (AH (v:=(aG (Ai (ts.getD t ((0,0,0):Nat×Nat×Nat))))) (AZ (vs:=Ai (ts.getD t ((0,0,0):Nat×Nat×Nat))) (i:=3) O O (BF.ne x.b.ok Z) Gf (A7 Az _ _ _ Z) (Az _)) O ?_)))))
  refine AE.retell (k:=17) (u:=(aG (Ai T))) O (by rw [hT]) (al L1 O λb2=>A8 O sizeOf53 O (AE.nil (AC.subF (sL [1,2,3,12,13,14,5] O) (AC.then_ ?_))))
  refine Cd [(0,true),(1,true),(2,true),(3,true),(4,true),(5,true),(6,true),(7,true),(8,true),(9,true),(10,false),(11,true),(12,false),(13,true),(14,false)] (sk (sl sr)) (Bb O (Aq (v:=(pP b2 0)) O (AD (j:=0) O O underlying53 sizeOf3 O (by decide) O) (Bd 0 (vN T.1) Bj O (Bb O (Aq (v:=(pP b2 1)) O (AD (j:=1) O O underlying53 sizeOf3 O (by decide) O) ?_)))))
  refine Bd 0 (vN T.2.1) Bj O (Bb O (Aq (v:=(pP b2 2)) O (AD (j:=2) O O underlying53 sizeOf3 O (by decide) O) (Bd 0 (vN T.2.2) Bj O (Aq (v:=(pP (pB (some ⟨bm,0,none⟩)) (pO (some ⟨bm,0,none⟩)+T.1*1))) O (AN (j:=T.1) O O hbm.row underlying203 sizeOf4 O Z) (OkE.imp O ?_)))))
  refine AE.storeRow1 (j:=T.1) (v:=(Value.bool true)) O O hbm (by rw [Nl,Nat.mul_one];simp [G_]) Z O sizeOf4 O (PZ _ _ _) (OkE.back (sk (sl sr)) (Aq (v:=(pP (pB (some ⟨bm,0,none⟩)) (pO (some ⟨bm,0,none⟩)+T.2.1*1))) O (AN (j:=T.2.1) O O hbm.row underlying203 sizeOf4 O Z) (OkE.imp O (AE.storeRow1 (j:=T.2.1) (v:=(Value.bool true)) O O hbm (by rw [Nl,Nat.mul_one];simp [G_]) Z O sizeOf4 O (PZ _ _ _) (OkE.back (sk (sl sr)) ?_)))))
  refine Aq (v:=(pP (pB (some ⟨bm,0,none⟩)) (pO (some ⟨bm,0,none⟩)+T.2.2*1))) O (AN (j:=T.2.2) O O hbm.row underlying203 sizeOf4 O Z) (OkE.imp O (AE.storeRow1 (j:=T.2.2) (v:=(Value.bool true)) O O hbm (by rw [Nl,Nat.mul_one];simp [G_]) Z O sizeOf4 O (PZ _ _ _) (OkE.back (sk (sl sr)) (OkE.nil (AC.subF (sL [1,2,3,12,13,14,5] O) ?_)))))
  refine AC.in_normal (AC.then_ (AF.region (AH (AW (c:=((t+1:Nat):Int)) O O (AU (a:=t) (b:=1) Z)) O (AM O (AE.nil ?_)))))
  refine AC.subF (sL [1,2,3,12,13,14,5] O) ?_
  rw [hT,Sn Z]
  exact AC.round1 (t+1) Z Z (sF O) (sl sr)
 ·replace hc0:=of_decide_eq_false hc0
  have htt:t=ts.length:=by omega
  refine AF.exit (AC.then_exit (AC.round1_exit (AC.in_exit (q1 (q4 ?_)))))
  refine AM O (AE.frzRow 0 O hbm (by rw [Nl,Nat.mul_one];simp [G_]) O O λhn_US=>Cj call122 (λw hw=>VK (KT ts ps.length t) ps.length ⟨(some ⟨bm,0,none⟩),ps.length,hbm.row⟩ (G_ _ _ _) Z (λj hj=>by rw [htt];exact VV hj (hv.use j hj)) w (inS (S:=S) hw 0 O (At.new hn_US))) O (AE.nil (AC.subF (sL [1,2,3,12,13,14,32] O) (AC.then_ ?_))))
  refine AF.cond_false O (AF.skip (q2 (AH (v:=(pP b1 0)) (AA O underlying30 O sizeOf28 O) O (BA 1 (Value.slice x.a.p ps.length x.a.c) EB O (AE.callL (S:=S) (V:=dU) (LW:=ah (T:=51) (z:=10) (cs:=rowsL Am ps) (n:=ps.length)) (args:=[(Value.slice x.a.p ps.length x.a.c)]) call41 (λw hw=>S_ ps x.a Z w (dK (inS hw 2 O lx))) O λcl1 hcl1=>?_)))))
  refine asg' O (q3 (sL [1,2,3,12,13,14,6] O) (AM O ?_))
  have hpn:cl1.p≠none:=λe=>by have:=(cl1.ok.nil e).1;omega
  refine AE.callWX 0 (α:=List Pt) (K:=λys=>ys.Perm ps) (cs':=λys=>rowsL Am ys) (v:=(Value.tuple #[])) (AS O) (Ao (args:=[(Value.slice cl1.p ps.length cl1.c),(Value.func (.func 124) #[] #[])]) O O call123) O (λw hw=>UN ps _ _ _ 51 cl1.ok hpn O Z hbp w (hw.holds (i:=0) O)) (λd hd=>by cases hd<;>exact (AT O)) λys hys=>?_
  have hyl:=hys.length_eq
  refine AE.frzRow 0 O cl1.ok (by rw [Ak BM,hyl]) O O λhn_cl1=>q6 (sL [1,2,3,12,13,14,6] O) (Cd [(0,true),(3,true),(4,true),(5,true),(1,false),(2,true),(6,true),(7,true)] sr (Bb O (Aq (v:=(pP b1 0)) O (AA O underlying30 O sizeOf28 O) (Bd 2 (Value.slice x.a.p ps.length x.a.c) EB O ?_))))
  refine Aq (v:=(vN ps.length)) O (AG O underlying28) (OkE.imp O (Cj call126 (λw hw=>QV ys ps.length ⟨cl1.p,cl1.c,cl1.ok.row⟩ hyl Z (hys.nodup_iff.2 hv.dst) w (inS (S:=S) hw 0 O (At.new hn_cl1))) O (OkE.back sr (Aq (v:=(vN ps.length)) O (AG O underlying28) (Aq O (BL (c:=true) O O (decide_eq_true O)) ?_)))))
  exact pS' O (OkE.nil (AC.subF (sL [1,2,3,12,13,14,6] O) (AC.then_ (AF.ret (AI O (AY (v:=(Value.bool true)) O) (λw hw=>⟨rfl,hw.out⟩))))))
theorem Xf (s r:T3) (h:s.1=r.1/\s.2.1=r.2.1) (w:World)  :Calls prog 130 #[(aG (Ai s)),(aG (Ai r))] w (An w (Value.bool true)):=by
 refine Af (args:=[(aG (Ai s)),(aG (Ai r))]) func130 O O (AT O) (AF.subF (sL [0,1] O) (q4 (BU (cs:=Ai s) O λb1=>BU (cs:=Ai r) O λb2=>asg' O ?_)))
 refine q3 (sL [2,3,4] O) (AH (v:=(pP b1 0)) (AA O underlying55 O sizeOf3 O) O (BA 1 (vN s.1) Bj O (AH (v:=(pP b2 0)) (AA O underlying55 O sizeOf3 O) O (BA 0 (vN r.1) Bj O (AH (BL (c:=true) O O (decide_eq_true Z)) O ?_)))))
 refine AM O (AE.step (v:=(pP b1 1)) (AB O) (AA O underlying55 O sizeOf3 O) O (AT O) (AE.step (v:=(vN s.2.1)) (AB O) (AK (i:=1) (v:=(vN s.2.1)) O O Bj.a O) O (AT O) (AE.step (v:=(pP b2 1)) (AB O) (AA O underlying55 O sizeOf3 O) O (AT O) (AE.step (v:=(vN r.2.1)) (AB O) (AK (i:=0) (v:=(vN r.2.1)) O O Bj.a O) O (AT O) (AE.step (v:=(Value.bool true)) (AB O) (BL (c:=true) O O (decide_eq_true Z)) O (AT O) ?_)))))
 exact AH (v:=(Value.bool true)) (Ac O O) O (asg' O (AE.nil (AC.subF (sL [4] O) (AC.then_ (AF.ret (AI O (AY (v:=(Value.bool true)) O) (λw hw=>⟨rfl,hw.out⟩)))))))
theorem UT (xs ys:List T3) (x:RX (rowsL Ai xs) xs.length) (y:RX (rowsL Ai ys) ys.length) (hn:xs.length=ys.length) (hl:xs.length<=1000000) (hk:∀j,j<xs.length->(xs.getD j (0,0,0)).1=(ys.getD j (0,0,0)).1/\(xs.getD j (0,0,0)).2.1=(ys.getD j (0,0,0)).2.1) (w:World) {S:Nat->Prop} (hx:Ro S w x) (hy:Ro S w y):Calls prog 50 #[(Value.slice x.p xs.length x.c),(Value.slice y.p ys.length y.c),(Value.func (.func 130) #[] #[])] w (An w (Value.bool true)):=by
 have lx:=Cl (W:=w) hx
 have ly:=Cl (W:=w) hy
 refine Ah (args:=[(Value.slice x.p xs.length x.c),(Value.slice y.p ys.length y.c),(Value.func (.func 130) #[] #[])]) (L:=[AQ x.p (rowsL Ai xs),AQ y.p (rowsL Ai ys)]) func50 O O (AT O) (Ed hx (Ed hy Ax)) (AF.subF (sL [0,1,2] O) (q4 (asg' O (AE.nil (q1 ?_)))))
 refine q4 (AM O (AH (v:=(vN xs.length)) (AG O underlying24) O (AM O (AH (v:=(vN ys.length)) (AG O underlying24) O (AH (Bx (c:=false) O O (decide_eq_false Z)) O ?_)))))
 refine AE.nil (AC.subF (sL [0,1,2,6,12] O) (AC.then_ (AF.cond_false O (AF.skip (q1 ?_)))))
 refine q4 (AM O (AH (v:=(vN xs.length)) (AG O underlying24) O (AM O (AE.nil (AC.subF (sL [0,1,2,6,14,15] O) ?_)))))
 refine AC.then_ (AF.block ?_)
 refine AF.lp1 (tg λ(j:Nat)=>j<=xs.length) (tg λ(j:Nat)=>[(0,(Value.slice x.p xs.length x.c)),(1,(Value.slice y.p ys.length y.c)),(2,(Value.func (.func 130) #[] #[])),(14,(vN xs.length)),(15,(vN j))]) (tg λ(j:Nat)=>[AQ x.p (rowsL Ai xs),AQ y.p (rowsL Ai ys)]) (tg λ(j:Nat)=>xs.length-j) 0 (Nat.zero_le _) (sF O) sr (λj hJ=>?_)
 have hj:=hJ
 refine q4 (AH (Ae (c:=(decide (j<xs.length))) O O (CL (a:=j) (b:=xs.length))) O (AE.nil (q1 ?_)))
 refine AF.cond O (λhc1=>?_) (λhc1=>?_)
 ·replace hc1:=of_decide_eq_true hc1
  refine AF.skip (q1 (AF.block (q4 (AM O (asg' O ?_)))))
  refine q6 (sL [0,1,2,14,15,7] O) (Cd [(0,true),(1,true),(2,true),(3,true),(4,true),(5,true),(6,true),(7,true),(8,true),(9,false),(10,true)] sr (Bb O (Bb O (Bb O (Aq (v:=(pP (pB x.p) (pO x.p+j*3))) O (AN (j:=j) O O x.ok underlying24 sizeOf55 O Z) ?_)))))
  refine Aq (v:=(aG (Ai (xs.getD j ((0,0,0):Nat×Nat×Nat))))) O (AZ (vs:=Ai (xs.getD j ((0,0,0):Nat×Nat×Nat))) (i:=0) O O (BF.ne x.ok Z) Zs (A7 Az _ _ _ Z) (Az _)) (Bb O (Bb O (Aq (v:=(pP (pB y.p) (pO y.p+j*3))) O (AN (j:=j) O O y.ok underlying24 sizeOf55 O Z) (Aq (v:=(aG (Ai (ys.getD j ((0,0,0):Nat×Nat×Nat))))) O (AZ (vs:=Ai (ys.getD j ((0,0,0):Nat×Nat×Nat))) (i:=1) O O (BF.ne y.ok Z) Zs (A7 Az _ _ _ Z) (Az _)) (OkE.imp O ?_)))))
  refine ck' call130 (Xf _ _ (hk j Z)) O (OkE.back sr (Aq O (BQ (c:=false) O O) (OkE.nil (AC.subF (sL [0,1,2,14,15,28] O) (AC.then_ ?_)))))
  refine AF.cond_false O (AF.skip (AC.in_normal (AC.then_ (AF.region (AH (AW (c:=((j+1:Nat):Int)) O O (AU (a:=j) (b:=1) Z)) O ?_)))))
  exact AM O (AE.nil (AC.subF (sL [0,1,2,14,15] O) (AC.round1 (j+1) Z Z (sF O) sr)))
 ·replace hc1:=of_decide_eq_false hc1
  refine AF.exit (AC.then_exit (AC.round1_exit (AC.in_exit (q2 (asg' O ?_)))))
  exact AE.nil (AC.then_ (AF.ret (AI O (AY (v:=(Value.bool true)) O) (λw hw=>⟨rfl,hw.out⟩))))
theorem SR {ps:List Pt} {ts ss:List T3} (x:MX ps ts ss) (hv:Jc ps ts ss) (w:World) {S:Nat->Prop} (hx:Ro S w x):Calls prog 71 #[(aG (CI x))] w (An w (Value.bool true)):=by
 have hp:=hv.pl
 have htl:=hv.tl
 have hsl:=hv.sl
 have h0:=hv.t0
 have lx:=Cl (W:=w) hx
 refine Ah (args:=[(aG (CI x))]) (L:=[AQ x.a.p (rowsL Am ps),AQ x.b.p (rowsL Ai ts),AQ x.c.p (rowsL Ai ss)]) func71 O O (AT O) (Ed hx Ax) (AF.subF (sL [0] O) (q4 (BU (cs:=CI x) O λb1=>asg' O (q6 (sL [1,2] O) ?_))))
 refine Cd [(0,true),(1,true),(2,true),(3,true),(4,true),(5,true),(6,false),(7,false),(8,true)] sr (Aq (v:=(pP b1 2)) O (AA O underlying30 O sizeOf24 O) (Bd 0 (Value.slice x.c.p ss.length x.c.c) WR O (Aq (v:=(pP b1 0)) O (AA O underlying30 O sizeOf28 O) (Bd 0 (Value.slice x.a.p ps.length x.a.c) EB O (Aq (v:=(pP b1 1)) O (AA O underlying30 O sizeOf23 O) ?_)))))
 refine Bd 0 (Value.slice x.b.p ts.length x.b.c) CP O (OkE.imp O (AE.callL (S:=S) (V:=c9) (LW:=ah (T:=55) (z:=3) (cs:=rowsL Ai (Bi ts)) (n:=(Bi ts).length)) (args:=[(Value.slice x.a.p ps.length x.a.c),(Value.slice x.b.p ts.length x.b.c)]) call73 (λw hw=>Uf ts x.b x.a.p ps.length x.a.c hv.num Z Z w (Wg (inS hw 1 O lx))) O λrm hrm=>AE.frzRow 0 O rm.ok (Ak Az _) O O λhn_rm=>OkE.back (sl sr) (OkE.imp O ?_)))
 refine Cj call50 (λw hw=>UT ss (Bi ts) x.c ⟨rm.p,(Bi ts).length,rm.ok.clip⟩ hv.rl Z hv.rim w (cT (inS hw 2 O lx)) (inS (S:=S) hw 0 O (At.new hn_rm))) O (OkE.back (sl sr) (pS' O (OkE.nil (AC.subF (sL [2] O) (AC.then_ ?_)))))
 exact AF.ret (AI O (AY (v:=(Value.bool true)) O) (λw hw=>⟨rfl,hw.out⟩))
theorem N9 {ps:List Pt} {ts ss:List T3} (x:MX ps ts ss) (hv:Jc ps ts ss) (w:World) {S:Nat->Prop} (hx:Ro S w x):Calls prog 21 #[(aG (CI x))] w (An w (vI 0)):=by
 have hp:=hv.pl
 have htl:=hv.tl
 have hsl:=hv.sl
 have h0:=hv.t0
 have lx:=Cl (W:=w) hx
 refine Ah (args:=[(aG (CI x))]) (L:=[AQ x.a.p (rowsL Am ps),AQ x.b.p (rowsL Ai ts),AQ x.c.p (rowsL Ai ss)]) func21 O O (AT O) (Ed hx Ax) (AF.subF (sL [0] O) (q4 (BU (cs:=CI x) O λb1=>asg' O (q6 (sL [1,2] O) ?_))))
 refine AF.block (q4 (AH (v:=(pP b1 0)) (AA O underlying30 O sizeOf28 O) O (BA 0 (Value.slice x.a.p ps.length x.a.c) EB O (AH (v:=(vN ps.length)) (AG O underlying28) O (AH (B3 (c:=false) O O (decide_eq_false Z)) O ?_)))))
 refine AM O (AE.step (v:=(pP b1 1)) (AB O) (AA O underlying30 O sizeOf23 O) O (AT O) (AE.step (v:=(Value.slice x.b.p ts.length x.b.c)) (AB O) (AK (i:=0) (v:=(Value.slice x.b.p ts.length x.b.c)) O O CP.a O) O (AT O) (AE.step (v:=(vN ts.length)) (AB O) (AG O underlying23) O (AT O) (AE.step (v:=(Value.bool false)) (AB O) (B3 (c:=false) O O (decide_eq_false Z)) O (AT O) (AH (v:=(Value.bool false)) (AP O O) O ?_)))))
 refine AM O (AE.step (v:=(pP b1 2)) (AB O) (AA O underlying30 O sizeOf24 O) O (AT O) (AE.step (v:=(Value.slice x.c.p ss.length x.c.c)) (AB O) (AK (i:=0) (v:=(Value.slice x.c.p ss.length x.c.c)) O O WR.a O) O (AT O) (AE.step (v:=(vN ss.length)) (AB O) (AG O underlying24) O (AT O) (AE.step (v:=(Value.bool false)) (AB O) (B3 (c:=false) O O (decide_eq_false Z)) O (AT O) (AH (v:=(Value.bool false)) (AP O O) O ?_)))))
 refine asg' O (AE.nil (AC.subF (sL [1,2,3] O) (AC.then_ (AF.cond_false O (q4 ?_)))))
 refine BD 0 Dq O (Cj call68 (λw hw=>YQ x hv w (inS hw 1 O lx)) O (AH (BQ (c:=false) O O) O (asg' O (AE.nil (AC.subF (sL [1,2,20] O) ?_)))))
 refine AC.then_ (AF.cond_false O (q4 (BD 0 Dq O (Cj call69 (λw hw=>Xi x hv w (inS hw 1 O lx)) O (AH (BQ (c:=false) O O) O ?_)))))
 refine AM O (AE.step (v:=(aG (CI x))) (AB O) (Aj (i:=0) (vs:=CI x) O O Dq.a Dq.s O O) O (AT O) (AE.call (v:=(Value.bool true)) (AB O) (Ao (args:=[(aG (CI x))]) O O call70) (λw hw=>Uh x hv w (inS hw 1 O lx)) O (AT O) (AE.step (v:=(Value.bool false)) (AB O) (BQ (c:=false) O O) O (AT O) (AH (v:=(Value.bool false)) (AP O O) O (AM O ?_)))))
 refine AE.step (v:=(aG (CI x))) (AB O) (Aj (i:=0) (vs:=CI x) O O Dq.a Dq.s O O) O (AT O) (AE.call (v:=(Value.bool true)) (AB O) (Ao (args:=[(aG (CI x))]) O O call71) (λw hw=>SR x hv w (inS hw 1 O lx)) O (AT O) (AE.step (v:=(Value.bool false)) (AB O) (BQ (c:=false) O O) O (AT O) (AH (v:=(Value.bool false)) (AP O O) O (asg' O (AE.nil ?_)))))
 refine AC.subF (sL [1,2,24] O) (AC.then_ (AF.cond_false O (AF.skip (AC.in_normal (q2 ?_)))))
 exact asg' O (AE.nil (AC.subF (sL [1,2] O) (AC.then_ (AF.ret (AI O (AY (v:=(vI 0)) O) (λw hw=>⟨rfl,hw.out⟩))))))
end
section
set_option maxRecDepth 100000
theorem PK {ps:List Pt} {ts ss:List T3} (x:MX ps ts ss) (hl:ts.length<=8192) (hz:∀k,B_ (cor ps k)<=1000) (hnb:By ps.length ts=true) (w:World) {S:Nat->Prop} (hx:Ro S w x):Calls prog 24 #[(aG (CI x))] w (An w (aG (AO (EC ps ts ts.length)))):=by
 have lx:=Cl (W:=w) hx
 refine Ah (args:=[(aG (CI x))]) (L:=[AQ x.a.p (rowsL Am ps),AQ x.b.p (rowsL Ai ts),AQ x.c.p (rowsL Ai ss)]) func24 O O (AT O) (Ed hx Ax) (AF.subF (sL [0] O) (q4 (BU (cs:=CI x) O λb1=>al Eb O λb2=>q3 (sL [1,2] O) ?_)))
 refine al Eb O λb3=>AE.nil (q1 (q4 (BD 2 Dq O (Cj (args:=[(aG (CI x))]) (v:=(Value.bool true)) call76 (λw hw=>(by have h9:=M_ x Z w (inS hw 3 O lx);rw [hnb] at h9;exact h9)) O ?_))))
 refine AH (BQ (c:=false) O O) O (AE.nil (AC.subF (sL [1,2,3,7] O) (AC.then_ (AF.cond_false O (AF.skip ?_)))))
 refine q1 (q4 (AH (v:=(pP b1 1)) (AA O underlying30 O sizeOf23 O) O (BA 2 (Value.slice x.b.p ts.length x.b.c) CP O (AH (v:=(vN ts.length)) (AG O underlying23) O (AM O ?_)))))
 refine AE.nil (AC.subF (sL [1,2,3,11,12] O) (AC.then_ (AF.block ?_)))
 refine AF.lp1 (tg λ(i:Nat)=>i<=ts.length) (tg λ(i:Nat)=>[(1,(pP b1 0)),(2,(pP b2 0)),(3,(pP b3 0)),(11,(vN ts.length)),(12,(vN i))]) (tg λ(i:Nat)=>[Ag b3 48 (AO (EC ps ts i)),Ag b2 48 (AO (0:Rat)),Ag b1 30 (CI x),AQ x.a.p (rowsL Am ps),AQ x.b.p (rowsL Ai ts),AQ x.c.p (rowsL Ai ss)]) (tg λ(i:Nat)=>ts.length-i) 0 (Nat.zero_le _) (sF O) sr (λi hJ=>?_)
 have hi:=hJ
 refine q4 (AH (Ae (c:=(decide (i<ts.length))) O O (CL (a:=i) (b:=ts.length))) O (AE.nil (q1 ?_)))
 refine AF.cond O (λhc1=>?_) (λhc1=>?_)
 ·replace hc1:=of_decide_eq_true hc1
  have hi2:=hc1
  have ha:=J1 hz ts i
  have hb:=Rx hz (ts.getD i (0,0,0))
  have z0:=hz (ts.getD i (0,0,0)).1
  have z1:=hz (ts.getD i (0,0,0)).2.1
  have z2:=hz (ts.getD i (0,0,0)).2.2
  refine AF.skip (q1 (AF.block (q4 (AM O (asg' O ?_)))))
  refine AE.nil (AC.subF (sL [1,2,3,11,12,4] O) (AC.then_ (rC [(0,true),(1,true),(2,true),(3,false),(4,true),(5,true),(6,true),(7,false),(8,false)] 9 [] sr (sl sr) (by kernel_rfl) (λ_ _ d _ _ h=>by cases d<;>exact h) (vE (v:=(aG (AO (EC ps ts i)))) O (Aj (i:=0) (vs:=AO (EC ps ts i)) O O Bp.a Bp.s O O) O (vE (v:=(aG (CI x))) O (Aj (i:=2) (vs:=CI x) O O Dq.a Dq.s O O) O ?_)))))
  refine vM O O O (CK.imp O (Cj call29 (λw hw=>Kx x i hi2 (Cc hnb hi2) w (inS hw 3 O lx)) O (CK.back sr (vE O (Aa (v:=(aG (Am (cor ps (ts.getD i (0,0,0)).1)))) O O) O (vE O (Aa (v:=(aG (Am (cor ps (ts.getD i (0,0,0)).2.1)))) O O) O ?_)))))
  refine vE O (Aa (v:=(aG (Am (cor ps (ts.getD i (0,0,0)).2.2)))) O O) O (CK.imp O ?_)
  have hz1:=Dl (cor ps (ts.getD i (0,0,0)).1) (cor ps (ts.getD i (0,0,0)).2.1) (cor ps (ts.getD i (0,0,0)).2.2)
  have hz2:=EK (AX (cor ps (ts.getD i (0,0,0)).1) (cor ps (ts.getD i (0,0,0)).2.1) (cor ps (ts.getD i (0,0,0)).2.2)) (1/2)
  refine ck' call77 (Yi (cor ps (ts.getD i (0,0,0)).1) (cor ps (ts.getD i (0,0,0)).2.1) (cor ps (ts.getD i (0,0,0)).2.2) Z) O (CK.back sr (CK.imp O (ck' call14 (RL (EC ps ts i) (NE ps (ts.getD i (0,0,0))) Z) O (CK.back sr (CK.cut O ?_)))))
  refine A8 O sizeOf48 O (OkE.back (sl sr) (OkE.nil (AC.subF (sL [1,2,3,11,12] O) (AC.in_normal (AC.then_ ?_)))))
  exact AF.region (AH (AW (c:=((i+1:Nat):Int)) O O (AU (a:=i) (b:=1) Z)) O (AM O (AE.nil (AC.subF (sL [1,2,3,11,12] O) (AC.round1 (i+1) Z Z (sF O) sr)))))
 ·replace hc1:=of_decide_eq_false hc1
  have hie:i=ts.length:=by omega
  refine AF.exit (AC.then_exit (AC.round1_exit (AC.in_exit (q2 (BD 0 Bp O ?_)))))
  exact Cm O sizeOf48 O (AE.nil (AC.subF (sL [1,2,3,11,12] O) (AC.then_ (AF.ret (AI O (Ap (i:=1) (cs:=AO (EC ps ts i)) O O isAgg48 sizeOf48 O) (λw hw=>⟨by rw [hie],hw.out⟩))))))
end
section
section
variable {P:Program} {ops:Array Oper} {rest:List Oper} {Q:Exit->Act->World->Prop} {n:Nat} {F:List (Nat×Value)} {w0:BJ} {L:List As} {S:Nat->Prop} {ps:List Pt} {ts us ss:List T3}
theorem AE.litT {b U:Nat} {cs:List Value} (LL:RX (rowsL Ai ts) ts.length->List As) (i:Nat) (h:L[i]?=some (Ag b U cs)) (hex:w0.ex=none) (e:cs=rowsL Ai ts)
    (hL:L.set i (AQ (some ⟨b,0,none⟩) cs)=LL ⟨some ⟨b,0,none⟩,ts.length,HH _ _⟩)
    (next:∀tt:RX (rowsL Ai ts) ts.length,At w0 S tt->AE P ops rest Q n F w0 (LL tt)):AE P ops rest Q n F w0 L:=λa w ha hw=>by
  subst e
  have n1:=Na hw h hex
  have w1:=hw.freeze (x:=Ag b U (rowsL Ai ts)) (y:=AQ (some ⟨b,0,none⟩) (rowsL Ai ts)) h rfl (λo hp=>Fr hp) (λe=>by cases e)
  rw [hL] at w1
  refine next _ (λy hy c eb=>?_) a w ha w1
  rcases List.mem_singleton.1 hy with rfl
  injection eb with eb;subst eb;exact .inl (by assumption)
theorem At.withT {x:MX ps us ss} {t:RX (rowsL Ai ts) ts.length} (hx:At w0 S x) (ht:At w0 S t):At w0 S (⟨x.a,t,x.c⟩:MX ps ts ss):=λz hz b e=>by
  have hz:z∈[x.a.row,t.row,x.c.row]:=hz
  simp only [List.mem_cons,List.not_mem_nil,or_false] at hz
  rcases hz with rfl|rfl|rfl
  · exact hx _ (show x.a.row∈[x.a.row,x.b.row,x.c.row] by simp) b e
  · exact ht _ (List.mem_singleton.2 O) b e
  · exact hx _ (show x.c.row∈[x.a.row,x.b.row,x.c.row] by simp) b e
end
def FC:List Pt:=[⟨0,0⟩,⟨1,0⟩,⟨1,1⟩,⟨0,1⟩]
def DB:List T3:=[(0,1,2),(0,2,3)]
def Qd:List T3:=[(0,1,2),(0,3,2)]
def Lt:List T3:=[(0,1,1),(0,3,0),(1,2,0),(2,3,0)]
theorem QM (i:Nat):B_ (cor FC i)<=1000:=Zz (by decide +kernel) (by decide +kernel) i
theorem Zt:∀i,i<DB.length->∀k,k<i->(!EW (Bl FC (DB.getD i (0,0,0))) (Bl FC (DB.getD k (0,0,0)))&&!EW (Bl FC (DB.getD k (0,0,0))) (Bl FC (DB.getD i (0,0,0))))=false:=by decide +kernel
theorem aB:∀i,i<DB.length->∀p,p<FC.length->CS (DB.getD i (0,0,0)) p=false->KF FC (cor FC p) (DB.getD i (0,0,0))=0:=by decide +kernel
theorem YZ:Jc FC DB Lt:=by
  refine ⟨by decide,by decide,by decide,by decide,QM,by decide +kernel,by decide +kernel,by decide +kernel,λp hp=>?_,by decide +kernel,λi k hi hk=>Zt i hi k hk,λi p hi hp=>aB i hi p hp,by decide +kernel,by decide +kernel⟩
  have hp:p<4:=hp
  have e:p=0\/p=1\/p=2\/p=3:=by omega
  rcases e with rfl|rfl|rfl|rfl
  · exact ⟨0,by decide,by decide +kernel⟩
  · exact ⟨0,by decide,by decide +kernel⟩
  · exact ⟨0,by decide,by decide +kernel⟩
  · exact ⟨1,by decide,by decide +kernel⟩
end
end Go.Proofs.YtpgncndhhhllfaaGreatDoor
