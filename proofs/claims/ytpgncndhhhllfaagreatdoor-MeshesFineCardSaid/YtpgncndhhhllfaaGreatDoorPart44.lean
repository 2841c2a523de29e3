import Derived.Test.YtpgncndhhhllfaaGreatDoorPart03
import Derived.Test.YtpgncndhhhllfaaGreatDoorPart18
import Derived.Test.YtpgncndhhhllfaaGreatDoorPart29
import Derived.Test.YtpgncndhhhllfaaGreatDoorPart30
import Derived.Test.YtpgncndhhhllfaaGreatDoorPart31
import Derived.Test.YtpgncndhhhllfaaGreatDoorPart34
import Derived.Test.YtpgncndhhhllfaaGreatDoorPart43
namespace Go.Proofs.YtpgncndhhhllfaaGreatDoor
open Go Go.RowKit Go.Proofs.Tryz
set_option linter.unusedVariables false
set_option linter.unusedSimpArgs false
section
set_option maxRecDepth 100000
theorem TG (t:Nat×Nat×Nat) (p:Int) (g:Nat) (w:World) (hg:w.heap[g]?=some (.cells (Ai t).toArray 53 (0,0))):Calls prog 147 #[(Value.slice (some ⟨g,0,none⟩) 3 3),(vI p)] w (λe w'=>e=.returned (Value.int .i64 (Te t p))/\Ji w w' (some g)/\w'.heap[g]?=some (.cells (Ai t).toArray 53 (0,0))):=by
 refine Fw (args:=[(Value.slice (some ⟨g,0,none⟩) 3 3),(vI p)]) (g:=g) (T:=53) (cs:=Ai t) func147 O O (AT O) hg (AF.subF (sL [0,1] O) (q4 (asg' O (AE.nil (q1 ?_)))))
 refine q4 (AM O (AH (v:=(vI 3)) (AG O underlying70) O (AM O (AE.nil (AC.subF (sL [0,1,4,7,8] O) ?_)))))
 refine AC.then_ (AF.block (AF.unroll 4 (FP.step (q4 (AH (Ae (c:=true) O O (by decide)) O ?_)))))
 refine AE.nil (q1 (AF.cond_true O (AF.skip (q1 (AF.block ?_)))))
 refine q4 (AM O (asg' O (q3 (sL [0,1,4,7,8,5] O) (AM O (AM O ?_)))))
 refine AM O (AH (v:=(pP g 0)) (AL (j:=0) O O underlying70 sizeOf3 O Z O) O (BA 0 (vN t.1) Bj O (AH (BL (c:=(decide (p=((t.1:Nat):Int)))) O O O) O (AE.nil (AC.subF (sL [0,1,4,7,8,5,16] O) ?_)))))
 refine AC.then_ ?_
 refine AF.cond O (λhc1=>?_) (λhc1=>?_)
 ·replace hc1:=of_decide_eq_true hc1
  have hr:Te t p=0:=by unfold Te;rw [if_pos hc1.symm]
  refine q4 (AM O (asg' O (AE.nil (AC.subF (sL [0,1,4,7,8,5] O) (AC.then_ ?_)))))
  exact AF.ret (AC.in_ret (AC.then_ret (AC.then_ret (AC.in_ret (AC.then_ret (AI O (AY (v:=(vI 0)) O) (λw hw=>⟨by rw [hr]<;>rfl,hw.1,hw.get (i:=0) O⟩)))))))
 ·replace hc1:=of_decide_eq_false hc1
  have k0:=λh9=>hc1 (Eq.symm h9)
  refine AF.skip (AC.in_normal (AC.then_ (AF.region (AH (AW (c:=(1:Int)) O O (by decide)) O (AM O ?_)))))
  refine AE.nil (AC.subF (sL [0,1,4,7,8,5] O) (AC.again (FP.step (q4 (AH (Ae (c:=true) O O (by decide)) O ?_)))))
  refine AE.nil (q1 (AF.cond_true O (AF.skip (q1 (AF.block ?_)))))
  refine q4 (AM O (asg' O (q3 (sL [0,1,4,7,8,5] O) (AM O (AM O ?_)))))
  refine AM O (AH (v:=(pP g 1)) (AL (j:=1) O O underlying70 sizeOf3 O Z O) O (BA 0 (vN t.2.1) Bj O (AH (BL (c:=(decide (p=((t.2.1:Nat):Int)))) O O O) O (AE.nil (AC.subF (sL [0,1,4,7,8,5,16] O) ?_)))))
  refine AC.then_ ?_
  refine AF.cond O (λhc1=>?_) (λhc1=>?_)
  ·replace hc1:=of_decide_eq_true hc1
   have hr:Te t p=1:=by unfold Te;rw [if_neg k0,if_pos hc1.symm]
   refine q4 (AM O (asg' O (AE.nil (AC.subF (sL [0,1,4,7,8,5] O) (AC.then_ ?_)))))
   exact AF.ret (AC.in_ret (AC.then_ret (AC.then_ret (AC.in_ret (AC.then_ret (AI O (AY (v:=(vI 1)) O) (λw hw=>⟨by rw [hr]<;>rfl,hw.1,hw.get (i:=0) O⟩)))))))
  ·replace hc1:=of_decide_eq_false hc1
   have k1:=λh9=>hc1 (Eq.symm h9)
   refine AF.skip (AC.in_normal (AC.then_ (AF.region (AH (AW (c:=(2:Int)) O O (by decide)) O (AM O ?_)))))
   refine AE.nil (AC.subF (sL [0,1,4,7,8,5] O) (AC.again (FP.step (q4 (AH (Ae (c:=true) O O (by decide)) O ?_)))))
   refine AE.nil (q1 (AF.cond_true O (AF.skip (q1 (AF.block ?_)))))
   refine q4 (AM O (asg' O (q3 (sL [0,1,4,7,8,5] O) (AM O (AM O ?_)))))
   refine AM O (AH (v:=(pP g 2)) (AL (j:=2) O O underlying70 sizeOf3 O Z O) O (BA 0 (vN t.2.2) Bj O (AH (BL (c:=(decide (p=((t.2.2:Nat):Int)))) O O O) O (AE.nil (AC.subF (sL [0,1,4,7,8,5,16] O) ?_)))))
   refine AC.then_ ?_
   refine AF.cond O (λhc1=>?_) (λhc1=>?_)
   ·replace hc1:=of_decide_eq_true hc1
    have hr:Te t p=2:=by unfold Te;rw [if_neg k0,if_neg k1,if_pos hc1.symm]
    refine q4 (AM O (asg' O (AE.nil (AC.subF (sL [0,1,4,7,8,5] O) (AC.then_ ?_)))))
    exact AF.ret (AC.in_ret (AC.then_ret (AC.then_ret (AC.in_ret (AC.then_ret (AI O (AY (v:=(vI 2)) O) (λw hw=>⟨by rw [hr]<;>rfl,hw.1,hw.get (i:=0) O⟩)))))))
   ·replace hc1:=of_decide_eq_false hc1
    have k2:=λh9=>hc1 (Eq.symm h9)
    have hr:Te t p = -1:=by unfold Te;rw [if_neg k0,if_neg k1,if_neg k2]
    refine AF.skip (AC.in_normal (AC.then_ (AF.region (AH (AW (c:=(3:Int)) O O (by decide)) O (AM O ?_)))))
    refine AE.nil (AC.subF (sL [0,1,4,7,8,5] O) (AC.again (FP.step (q4 (AH (Ae (c:=false) O O (by decide)) O ?_)))))
    refine AE.nil (q1 (AF.cond_false O (AF.exit (AC.then_exit (AC.then_exit ?_)))))
    refine AC.in_exit (q2 (asg' O (AE.nil (AC.subF (sL [0,1,4,7,8,5] O) (AC.then_ ?_)))))
    exact AF.ret (AI O (AY (v:=(vI (-1:Int))) O) (λw hw=>⟨by rw [hr]<;>rfl,hw.1,hw.get (i:=0) O⟩))
theorem Nr (t:Nat×Nat×Nat) (p:Int) (g:Nat) (w:World) (hg:w.heap[g]?=some (.cells (Ai t).toArray 53 (0,0))):Calls prog 82 #[(Value.slice (some ⟨g,0,none⟩) 3 3),(vI p)] w (λe w'=>e=.returned (Value.bool (Jj t p))/\Ji w w' (some g)/\w'.heap[g]?=some (.cells (Ai t).toArray 53 (0,0))):=by
 refine Fw (args:=[(Value.slice (some ⟨g,0,none⟩) 3 3),(vI p)]) (g:=g) (T:=53) (cs:=Ai t) func82 O O (AT O) hg (AF.subF (sL [0,1] O) (q4 (asg' O (AE.nil (q2 ?_)))))
 refine AM O (AM O (AE.callM (v:=(vI (Te t p))) (i:=0) (cs':=Ai t) (L':=[Ag g 53 (Ai t)]) (AS O) (Ao (args:=[(Value.slice (some ⟨g,0,none⟩) 3 3),(vI p)]) O O call147) O (λw hw=>TG t p _ w (hw.get (i:=0) O)) (λd hd=>by cases hd<;>exact (AT O)) O (AH (CU (c:=(Jj t p)) O O (YH t p)) O (asg' O (AE.nil ?_)))))
 exact AC.subF (sL [4] O) (AC.then_ (AF.ret (AI O (AY (v:=(Value.bool (Jj t p))) O) (λw hw=>⟨rfl,hw.1,hw.get (i:=0) O⟩))))
set_option maxHeartbeats 2000000 in
theorem Qo {ps:List Pt} {ts ss:List (Nat×Nat×Nat)} (x:MX ps ts ss) (p:Int) (hl:ts.length<=1000000000) (hN:ps.length<=4611686018427387904) (hnb:By ps.length ts=true) (w:World) {S:Nat->Prop} (hx:Ro S w x):Calls prog 27 #[(aG (CI x)),(vI p)] w (Aw (CX (inL (N4 ts p ts.length)) (N4 ts p ts.length).length) S w):=by
 have lx:=Cl (W:=w) hx
 refine Ah (args:=[(aG (CI x)),(vI p)]) (L:=[AQ x.a.p (rowsL Am ps),AQ x.b.p (rowsL Ai ts),AQ x.c.p (rowsL Ai ss)]) func27 O O (AT O) (Ed hx Ax) (AF.subF (sL [0,1] O) (q4 (BU (cs:=CI x) O λb1=>asg' O (q6 (sL [1,2,4] O) ?_))))
 refine q4 (BD 0 Dq O (Cj (args:=[(aG (CI x))]) (v:=(Value.bool true)) call76 (λw hw=>(by have h9:=M_ x Z w (inS hw 1 O lx);rw [hnb] at h9;exact h9)) O (AH (BQ (c:=false) O O) O (AE.nil (AC.subF (sL [1,2,4,10] O) ?_)))))
 refine AC.then_ (AF.cond_false O (AF.skip (q2 (asg' O (AE.nilRow 3 1 ?_)))))
 refine q6 (sL [1,2,4,5] O) (q4 (AH (v:=(pP b1 1)) (AA O underlying30 O sizeOf23 O) O (BA 1 (Value.slice x.b.p ts.length x.b.c) CP O (AH (v:=(vN ts.length)) (AG O underlying23) O (AM O ?_)))))
 refine AE.nil (AC.subF (sL [1,2,4,5,12,13,14] O) (AC.then_ (AF.block ?_)))
 refine AF.lp4 (tg λ(t:Nat) (p1:Option Addr) (c1:Nat) (out:List Nat)=>t<=ts.length/\OwnOk p1 out.length c1/\out=N4 ts p t) (tg λ(t:Nat) (p1:Option Addr) (c1:Nat) (out:List Nat)=>[(1,(vI p)),(4,(Value.slice none 0 0)),(12,(Value.slice x.b.p ts.length x.b.c)),(13,(vN ts.length)),(14,(vN t)),(5,(Value.slice p1 out.length c1))]) (tg λ(t:Nat) (p1:Option Addr) (c1:Nat) (out:List Nat)=>[rowW p1 3 1 out.length c1 (inL out),Ag b1 30 (CI x),AQ x.a.p (rowsL Am ps),AQ x.b.p (rowsL Ai ts),AQ x.c.p (rowsL Ai ss)]) (tg λ(t:Nat) (p1:Option Addr) (c1:Nat) (out:List Nat)=>ts.length-t) 0 none 0 ([]:List Nat) (⟨Nat.zero_le _,OwnOk.none,rfl⟩) (sF O) sr (λt p1 c1 out hJ=>?_)
 obtain ⟨ht,ho,hout⟩:=hJ
 have hal:=V1 (ts:=ts) (p:=p) (i:=t)
 rw [<-hout] at hal
 refine q4 (AH (Ae (c:=(decide (t<ts.length))) O O (CL (a:=t) (b:=ts.length))) O (AE.nil (q1 ?_)))
 refine AF.cond O (λhc1=>?_) (λhc1=>?_)
 ·replace hc1:=of_decide_eq_true hc1
  refine AF.skip (q1 (AF.block (q4 (AM O (AH (v:=(pP (pB x.b.p) (pO x.b.p+t*3))) (AN (j:=t) O O x.b.ok underlying23 sizeOf53 O Z) O ?_)))))
  refine AH (v:=(aG (Ai (ts.getD t ((0,0,0):Nat×Nat×Nat))))) (AZ (vs:=Ai (ts.getD t ((0,0,0):Nat×Nat×Nat))) (i:=3) O O (BF.ne x.b.ok Z) Gf (A7 Az _ _ _ Z) (Az _)) O (al L1 O λb2=>asg' O (A8 O sizeOf53 O (q3 (sL [1,4,12,13,14,5,7,6] O) (AH (v:=(Value.slice (some ⟨b2,0,none⟩) 3 3)) (D0 O underlying53 sizeOf3 (by decide)) O ?_))))
  refine AM O (AE.callM (v:=(Value.bool (Jj (ts.getD t ((0,0,0):Nat×Nat×Nat)) p))) (i:=0) (cs':=Ai (ts.getD t ((0,0,0):Nat×Nat×Nat))) (L':=[Ag b2 53 (Ai (ts.getD t ((0,0,0):Nat×Nat×Nat))),rowW p1 3 1 out.length c1 (inL out),Ag b1 30 (CI x),AQ x.a.p (rowsL Am ps),AQ x.b.p (rowsL Ai ts),AQ x.c.p (rowsL Ai ss)]) (AS O) (Ao (args:=[(Value.slice (some ⟨b2,0,none⟩) 3 3),(vI p)]) O O call82) O (λw hw=>Nr (ts.getD t ((0,0,0):Nat×Nat×Nat)) p _ w (hw.get (i:=0) O)) (λd hd=>by cases hd<;>exact (AT O)) O (AE.nil (AC.subF (sL [1,4,12,13,14,5,7,6,21] O) (AC.then_ ?_))))
  refine AF.jn3 (tg λ(p2:Option Addr) (c2:Nat) (o2:List Nat)=>OwnOk p2 o2.length c2/\o2=N4 ts p (t+1)) (tg λ(p2:Option Addr) (c2:Nat) (o2:List Nat)=>[(1,(vI p)),(4,(Value.slice none 0 0)),(12,(Value.slice x.b.p ts.length x.b.c)),(13,(vN ts.length)),(14,(vN t)),(5,(Value.slice p2 o2.length c2))]) (tg λ(p2:Option Addr) (c2:Nat) (o2:List Nat)=>[Ag b2 53 (Ai (ts.getD t ((0,0,0):Nat×Nat×Nat))),rowW p2 3 1 o2.length c2 (inL o2),Ag b1 30 (CI x),AQ x.a.p (rowsL Am ps),AQ x.b.p (rowsL Ai ts),AQ x.c.p (rowsL Ai ss)]) ?_ ?_
  ·skip
   refine AF.cond O (λhc2=>?_) (λhc2=>?_)
   ·skip
    refine AF.region (AM O (AM O (AE.openV (V:=λb3=>(Value.slice (some ⟨b3,0,none⟩) 1 1)) (T:=3) (cs:=[(vN t)]) (AS O) (Av (cs:=[(vN t)]) (pv:=[(0,(vN t))]) underlying70 sizeOf3 zeroValue3 (by decide) (by decide) O (by kernel_rfl)) O (AT O) λb3=>AE.append2 (j:=0) (cs2:=inL (out++[t])) bk O ho (by simp [GJ]) O O O O (by decide) (Hx Z) Z (by rw [K3];rfl) O λp_1 c_1 ho_1 hne_1=>asg' O ?_)))
    refine AE.nil (AC.subF (sL [1,4,12,13,14,5,7] O) ?_)
    rw [show out.length+1=(out++[t]).length by simp]
    exact AC.join3 p_1 c_1 (out++[t]) (⟨by simpa using ho_1,by rw [hout];exact (XY hc2).symm⟩) (sF O) (sl sr)
   ·skip
    exact AF.skip (AC.join3 p1 c1 out (⟨ho,by rw [hout];exact (Z_ (by first|exact hc2|simpa using hc2)).symm⟩) (sF O) sr)
  ·intro p2 c2 o2 hJ
   obtain ⟨ho2,hout2⟩:=hJ
   refine AC.in_normal (AC.then_ (AF.region (AH (AW (c:=((t+1:Nat):Int)) O O (AU (a:=t) (b:=1) Z)) O (AM O (AE.nil ?_)))))
   exact AC.subF (sL [1,4,12,13,14,5] O) (AC.round4 (t+1) p2 c2 o2 (⟨Z,ho2,hout2⟩) Z (sF O) (sl sr))
 ·replace hc1:=of_decide_eq_false hc1
  refine AF.exit (AC.then_exit (AC.round4_exit (AC.in_exit (q2 (AM O ?_)))))
  exact ck' call83 (V3 p1 _ c1 ho.le) O (asg' O (AE.nil (AC.subF (sL [1,4,12,13,14,5] O) (AC.then_ (AF.ret (AI O (AY (v:=(Value.slice p1 out.length out.length)) O) (λw hw=>(by rw [show N4 ts p ts.length=out by rw [hout,show t=ts.length by omega]];exact Y2 hw 0 O ho (by rw [GJ,Nat.mul_one]) O))))))))
end
section
set_option maxRecDepth 100000
theorem XH (l:List Nat) (a:CX (inL l) l.length) (b:RX (inL l) l.length) (hl:l.length<=1000000) (w:World) {S:Nat->Prop} (ha:Ro S w a) (hb:Ro S w b):Calls prog 26 #[(Value.slice a.p l.length l.length),(Value.slice b.p l.length b.c)] w (An w (Value.bool true)):=by
 have la:=Cl (W:=w) ha
 have lb:=Cl (W:=w) hb
 refine Ah (args:=[(Value.slice a.p l.length l.length),(Value.slice b.p l.length b.c)]) (L:=[AQ a.p (inL l),AQ b.p (inL l)]) func26 O O (AT O) (Ed ha (Ed hb Ax)) (AF.subF (sL [0,1] O) (q4 (asg' O (AE.nil (q1 ?_)))))
 refine q4 (AM O (AH (v:=(vN l.length)) (AG O underlying70) O (AM O (AH (v:=(vN l.length)) (AG O underlying70) O (AH (Bx (c:=false) O O (decide_eq_false λh=>h O)) O ?_)))))
 refine AM O (AE.step (v:=(Value.slice a.p l.length l.length)) (AB O) (Al O) O (AT O) (AE.step (v:=(vN l.length)) (AB O) (GR O underlying70) O (AT O) (AE.step (v:=(Value.slice a.p l.length l.length)) (AB O) (Al O) O (AT O) (AE.step (v:=(vN l.length)) (AB O) (AG O underlying70) O (AT O) (AE.step (v:=(Value.bool false)) (AB O) (B3 (c:=false) O O (decide_eq_false Z)) O (AT O) ?_)))))
 refine AH (v:=(Value.bool false)) (AP O O) O (AE.nil (AC.subF (sL [0,1,4,17] O) (AC.then_ (AF.cond_false O (AF.skip ?_)))))
 refine q1 (q4 (asg' O (AE.nil (AC.subF (sL [0,1,4,5] O) (AC.then_ ?_)))))
 refine AF.block ?_
 refine AF.lp1 (tg λ(i:Nat)=>i<=l.length) (tg λ(i:Nat)=>[(0,(Value.slice a.p l.length l.length)),(1,(Value.slice b.p l.length b.c)),(5,(vN i))]) (tg λ(i:Nat)=>[AQ a.p (inL l),AQ b.p (inL l)]) (tg λ(i:Nat)=>l.length-i) 0 (Nat.zero_le _) (sF O) sr (λi hJ=>?_)
 have hi:=hJ
 refine AF.seq (q4 (AM O (AM O (AH (v:=(vN l.length)) (AG O underlying70) O (AH (Ae (c:=(decide (i<l.length))) O O (CL (a:=i) (b:=l.length))) O ?_)))))
 refine AE.nil (AC.subF (sL [0,1,5,21] O) (AC.then_ ?_))
 refine AF.cond O (λhc1=>?_) (λhc1=>?_)
 ·replace hc1:=of_decide_eq_true hc1
  refine AF.skip (q1 (AF.block (AF.seq (Cd [(0,true),(1,true),(2,true),(3,true),(4,true),(5,true),(6,true),(7,true),(8,true)] sr (Bb O ?_)))))
  refine Bb O (Aq (v:=(pP (pB a.p) (pO a.p+i*1))) O (AN (j:=i) O O a.ok underlying70 sizeOf3 O Z) (Aq O (Ad (v:=(vN (l.getD i 0))) (i:=0) O O (a.ok.ne Z) Bj (Qt (l:=l) (j:=i) Z)) (Bb O (Bb O (Aq (v:=(pP (pB b.p) (pO b.p+i*1))) O (AN (j:=i) O O b.ok underlying70 sizeOf3 O Z) ?_)))))
  refine Aq O (Ad (v:=(vN (l.getD i 0))) (i:=1) O O (b.ok.ne Z) Bj (Qt (l:=l) (j:=i) Z)) (Aq O (Bx (c:=false) O O (decide_eq_false λh=>h O)) (OkE.nil (AC.subF (sL [0,1,5,32] O) (AC.then_ (AF.cond_false O ?_)))))
  refine AF.skip (AC.in_normal (AC.then_ (AF.region (AM O (AH (AW (c:=((i+1:Nat):Int)) O O (AU (a:=i) (b:=1) Z)) O ?_)))))
  exact asg' O (AE.nil (AC.subF (sL [0,1,5] O) (AC.round1 (i+1) Z Z (sF O) sr)))
 ·replace hc1:=of_decide_eq_false hc1
  refine AF.exit (AC.then_exit (AC.round1_exit (AC.in_exit (q2 (asg' O ?_)))))
  exact AE.nil (AC.then_ (AF.ret (AI O (AY (v:=(Value.bool true)) O) (λw hw=>⟨rfl,hw.out⟩))))
theorem PI {ps:List Pt} {ts ss:List T3} (x:MX ps ts ss) (t:Int) (ht:¬(0<=t/\t<(ts.length:Int))) (w:World) {S:Nat->Prop} (hx:Ro S w x):Calls prog 29 #[(aG (CI x)),(vI t)] w (An w (Value.tuple #[(aG (Am (⟨0,0⟩:Pt))),(aG (Am (⟨0,0⟩:Pt))),(aG (Am (⟨0,0⟩:Pt)))])):=by
 have lx:=Cl (W:=w) hx
 refine Ah (args:=[(aG (CI x)),(vI t)]) (L:=[AQ x.a.p (rowsL Am ps),AQ x.b.p (rowsL Ai ts),AQ x.c.p (rowsL Ai ss)]) func29 O O (AT O) (Ed hx Ax) (AF.subF (sL [0,1] O) (q4 (BU (cs:=CI x) O λb1=>al E8 O λb2=>al E8 O λb3=>?_)))
 refine al E8 O λb4=>q6 (sL [1,2,4,5,6] O) (q4 (AM O (AH (Ae (c:=(decide (t<(0:Int)))) O O O) O (AM O ?_))))
 refine AE.mid (FM:=[(1,(vI t)),(2,(pP b1 0)),(4,(pP b2 0)),(5,(pP b3 0)),(6,(pP b4 0)),(9,(vI t)),(10,(Value.bool (decide (t<(0:Int))))),(11,(Value.bool (decide (t<(0:Int))))),(17,(Value.bool ((decide (t<(0:Int)))||(decide (((ts.length:Nat):Int)<=t)))))]) (LM:=[Ag b4 51 (Am (⟨0,0⟩:Pt)),Ag b3 51 (Am (⟨0,0⟩:Pt)),Ag b2 51 (Am (⟨0,0⟩:Pt)),Ag b1 30 (CI x),AQ x.a.p (rowsL Am ps),AQ x.b.p (rowsL Ai ts),AQ x.c.p (rowsL Ai ss)]) 6 ?_ ?_
 ·rcases Bool.eq_false_or_eq_true (decide (t<(0:Int))) with hg1|hg1
  ·skip
   refine AE.retell (k:=11) (u:=Value.bool true) O (by rw [hg1]) ?_
   have hg1':=hg1
   replace hg1':=of_decide_eq_true hg1'
   refine AE.skip (AJ O) O (AT O) (AE.skip (AJ O) O (AT O) (AE.skip (AJ O) O (AT O) (AE.skip (AJ O) O (AT O) (AE.skip (AJ O) O (AT O) (AH (v:=(Value.bool true)) (Ac O O) O ?_)))))
   exact AE.nil (AC.mid (sS O (sS O (sS O (sS O (sS O (sS O (sS O (sS (by first|rfl|(rw [hg1];rfl)|rw [hg1]) (sS (by first|rfl|(rw [hg1];rfl)|rw [hg1]) (sN)))))))))) (List.Sublist.refl _))
  ·skip
   refine AE.retell (k:=11) (u:=Value.bool false) O (by rw [hg1]) ?_
   have hg1':=hg1
   replace hg1':=of_decide_eq_false hg1'
   refine AE.step (v:=(vI t)) (AB O) (Al O) O (AT O) (AE.step (v:=(pP b1 1)) (AB O) (AA O underlying30 O sizeOf23 O) O (AT O) (AE.step (v:=(Value.slice x.b.p ts.length x.b.c)) (AB O) (AK (i:=3) (v:=(Value.slice x.b.p ts.length x.b.c)) O O CP.a O) O (AT O) (AE.step (v:=(vN ts.length)) (AB O) (AG O underlying23) O (AT O) (AE.step (v:=(Value.bool (decide (((ts.length:Nat):Int)<=t)))) (AB O) (CU (c:=(decide (((ts.length:Nat):Int)<=t))) O O O) O (AT O) (AH (v:=(Value.bool (decide (((ts.length:Nat):Int)<=t)))) (AP O O) O ?_)))))
   exact AE.nil (AC.mid (sS O (sS O (sS O (sS O (sS O (sS O (sS O (sS (by first|rfl|(rw [hg1];rfl)|rw [hg1]) (sS (by first|rfl|(rw [hg1];rfl)|rw [hg1]) (sN)))))))))) (List.Sublist.refl _))
 refine AE.nil (AC.subF (sL [1,2,4,5,6,17] O) (AC.then_ ?_))
 refine AF.cond O (λhc0=>?_) (λhc0=>?_)
 ·simp only [Bool.and_eq_true,Bool.or_eq_true,Bool.and_eq_false_iff,Bool.or_eq_false_iff,Bool.not_eq_true',Bool.not_eq_false',decide_eq_true_eq,decide_eq_false_iff_not] at hc0
  refine AF.seq (Cd [(0,true),(1,true),(2,true),(3,false),(4,false),(5,false)] sr (Da 2 BO O (Da 1 BO O (Da 0 BO O (OkE.imp O ?_)))))
  refine FN O sizeOf51 O (OkE.back sr (OkE.imp O (Cm O sizeOf51 O (OkE.back sr (OkE.imp O ?_)))))
  refine A8 O sizeOf51 O (OkE.back sr (OkE.nil (AC.subF (sL [1,2,4,5,6] O) (AC.then_ (AF.ret ?_)))))
  exact AC.then_ret (Et O (Ap (i:=2) (cs:=Am (⟨0,0⟩:Pt)) O O isAgg51 sizeOf51 O) (Ap (i:=1) (cs:=Am (⟨0,0⟩:Pt)) O O isAgg51 sizeOf51 O) (Ap (i:=0) (cs:=Am (⟨0,0⟩:Pt)) O O isAgg51 sizeOf51 O) (λw hw=>⟨rfl,hw.out⟩))
 ·simp only [Bool.and_eq_true,Bool.or_eq_true,Bool.and_eq_false_iff,Bool.or_eq_false_iff,Bool.not_eq_true',Bool.not_eq_false',decide_eq_true_eq,decide_eq_false_iff_not] at hc0
  exfalso;omega
set_option maxHeartbeats 2000000 in
theorem YM {ps qs:List Pt} {ts ss vs:List T3} (x:MX ps ts ss) (y:OQ qs ts vs) (hq:qs.length=ps.length) (hp:ps.length<=4096) (hl:ts.length<=2000) (hnb:By ps.length ts=true) (w:World) {S:Nat->Prop} (hx:Ro S w x) (hy:Ro S w y):Calls prog 22 #[(aG (CI x)),(aG (B9 y))] w (An w (Value.bool true)):=by
 have hyl:y.rs.length=ps.length:=y.len.trans hq
 have hel:=Wf ts
 have hrl:=YA (ts:=ts)
 have lx:=Cl (W:=w) hx
 have ly:=Cl (W:=w) hy
 refine Ah (args:=[(aG (CI x)),(aG (B9 y))]) (L:=(AQ x.a.p (rowsL Am ps)::AQ x.b.p (rowsL Ai ts)::AQ x.c.p (rowsL Ai ss)::AQ y.a.p (rowsL Ga y.rs)::AQ y.b.p (rowsL Ai ts)::AQ y.c.p (rowsL Ai vs)::F9 y.rs)) func22 O O (AT O) (Ed hx (dQ hy)) (AF.subF (sL [0,1] O) (q4 (BU (cs:=CI x) O λb1=>BU (cs:=B9 y) O λb2=>asg' O ?_)))
 refine q3 (sL [2,3,4] O) (BD 1 Dq O (AE.callR (S:=S) (α:=CX (rowsL Bo (BV ts)) (BV ts).length) (args:=[(aG (CI x))]) call37 (λw hw=>Mg x Z Z hnb w (inS hw 2 O lx)) O O O λea lea=>asg' O (q3 (sL [2,3,4,5] O) (BD 1 EA O ?_))))
 refine cX (S:=S) (cs:=rowsL Bo (BV ts)) (k:=(BV ts).length) (args:=[(aG (B9 y))]) call72 (λw hw=>SN y.rm (by rw [hyl];exact hnb) Z Z w (Ym (x:=y) (Gb (S:=S) hw 6 O (λz hz=>List.mem_append_right [AQ ea.p (rowsL Bo (BV ts)),Ag b2 38 (B9 y),Ag b1 30 (CI x),AQ x.a.p (rowsL Am ps),AQ x.b.p (rowsL Ai ts),AQ x.c.p (rowsL Ai ss),AQ y.a.p (rowsL Ga y.rs),AQ y.b.p (rowsL Ai ts),AQ y.c.p (rowsL Ai vs)] hz) ly))) O O O λeb leb=>asg' O (q3 (sL [2,3,4,5,6] O) (AH (v:=(pP b1 0)) (AA O underlying30 O sizeOf28 O) O (BA 3 (Value.slice x.a.p ps.length x.a.c) EB O (AH (v:=(pP b1 1)) (AA O underlying30 O sizeOf23 O) O ?_))))
 refine BA 3 (Value.slice x.b.p ts.length x.b.c) CP O (AE.callL (S:=S) (V:=c9) (LW:=ah (T:=55) (z:=3) (cs:=rowsL Ai (Bi ts)) (n:=(Bi ts).length)) (args:=[(Value.slice x.a.p ps.length x.a.c),(Value.slice x.b.p ts.length x.b.c)]) call73 (λw hw=>Uf ts x.b x.a.p ps.length x.a.c hnb Z Z w (Wg (inS hw 4 O lx))) O λra hra=>asg' O (q3 (sL [2,3,4,5,6,7] O) (BD 3 EA O (cX (S:=S) (cs:=rowsL Ai (Bi ts)) (k:=(Bi ts).length) (args:=[(aG (B9 y))]) call74 (λw hw=>Yg y.rm (by rw [hyl];exact hnb) Z Z w (Ym (x:=y) (Gb (S:=S) hw 8 O (λz hz=>List.mem_append_right [rowW ra.p 55 3 ((Bi ts).length) ra.c (rowsL Ai (Bi ts)),AQ eb.p (rowsL Bo (BV ts)),AQ ea.p (rowsL Bo (BV ts)),Ag b2 38 (B9 y),Ag b1 30 (CI x),AQ x.a.p (rowsL Am ps),AQ x.b.p (rowsL Ai ts),AQ x.c.p (rowsL Ai ss),AQ y.a.p (rowsL Ga y.rs),AQ y.b.p (rowsL Ai ts),AQ y.c.p (rowsL Ai vs)] hz) ly))) O O O λrb lrb=>?_))))
 refine asg' O (q6 (sL [2,3,4,5,6,7,8] O) (q4 (AM O (AH (v:=(vN ((BV ts).length))) (AG O underlying88) O (AM O ?_)))))
 refine AH (v:=(vN ((BV ts).length))) (AG O underlying89) O (AH (Bx (c:=false) O O (decide_eq_false λh=>h O)) O (AM O (AE.step (v:=(Value.slice ra.p ((Bi ts).length) ((Bi ts).length))) (AB O) (Al O) O (AT O) (AE.step (v:=(vN ((Bi ts).length))) (AB O) (AG O underlying24) O (AT O) (AE.step (v:=(Value.slice rb.p ((Bi ts).length) rb.c)) (AB O) (Al O) O (AT O) ?_)))))
 refine AE.step (v:=(vN ((Bi ts).length))) (AB O) (AG O underlying36) O (AT O) (AE.step (v:=(Value.bool false)) (AB O) (Bx (c:=false) O O (decide_eq_false λh=>h O)) O (AT O) (AH (v:=(Value.bool false)) (AP O O) O (AM O (AE.step (v:=(Value.slice ea.p ((BV ts).length) ((BV ts).length))) (AB O) (Al O) O (AT O) (AE.step (v:=(vN ((BV ts).length))) (AB O) (GR O underlying88) O (AT O) ?_)))))
 refine AE.step (v:=(Value.slice ea.p ((BV ts).length) ((BV ts).length))) (AB O) (Al O) O (AT O) (AE.step (v:=(vN ((BV ts).length))) (AB O) (AG O underlying88) O (AT O) (AE.step (v:=(Value.bool false)) (AB O) (B3 (c:=false) O O (decide_eq_false Z)) O (AT O) (AH (v:=(Value.bool false)) (AP O O) O (AM O (AE.step (v:=(Value.slice ra.p ((Bi ts).length) ((Bi ts).length))) (AB O) (Al O) O (AT O) ?_)))))
 refine AE.step (v:=(vN ((Bi ts).length))) (AB O) (GR O underlying24) O (AT O) (AE.step (v:=(Value.slice ra.p ((Bi ts).length) ((Bi ts).length))) (AB O) (Al O) O (AT O) (AE.step (v:=(vN ((Bi ts).length))) (AB O) (AG O underlying24) O (AT O) (AE.step (v:=(Value.bool false)) (AB O) (B3 (c:=false) O O (decide_eq_false Z)) O (AT O) (AH (v:=(Value.bool false)) (AP O O) O (AE.nil ?_)))))
 refine AC.subF (sL [2,3,4,5,6,7,8,47] O) (AC.then_ (AF.cond_false O (AF.skip (q1 (q4 ?_)))))
 refine asg' O (AE.nil (AC.subF (sL [2,3,4,5,6,7,8,9] O) (AC.then_ (AF.block ?_))))
 refine AF.lp1 (tg λ(i:Nat)=>i<=(BV ts).length) (tg λ(i:Nat)=>[(5,(Value.slice ea.p ((BV ts).length) ((BV ts).length))),(6,(Value.slice eb.p ((BV ts).length) eb.c)),(7,(Value.slice ra.p ((Bi ts).length) ((Bi ts).length))),(8,(Value.slice rb.p ((Bi ts).length) rb.c)),(9,(vN i))]) (tg λ(i:Nat)=>(AQ rb.p (rowsL Ai (Bi ts))::rowW ra.p 55 3 ((Bi ts).length) ra.c (rowsL Ai (Bi ts))::AQ eb.p (rowsL Bo (BV ts))::AQ ea.p (rowsL Bo (BV ts))::Ag b2 38 (B9 y)::Ag b1 30 (CI x)::AQ x.a.p (rowsL Am ps)::AQ x.b.p (rowsL Ai ts)::AQ x.c.p (rowsL Ai ss)::AQ y.a.p (rowsL Ga y.rs)::AQ y.b.p (rowsL Ai ts)::AQ y.c.p (rowsL Ai vs)::F9 y.rs)) (tg λ(i:Nat)=>(BV ts).length-i) 0 (Nat.zero_le _) (sF O) sr (λi hJ=>?_)
 have hil:=hJ
 refine AF.seq (q4 (AM O (AM O (AH (v:=(vN ((BV ts).length))) (AG O underlying88) O (AH (Ae (c:=(decide (i<((BV ts).length)))) O O (CL (a:=i) (b:=(BV ts).length))) O ?_)))))
 refine AE.nil (AC.subF (sL [5,6,7,8,9,51] O) (AC.then_ ?_))
 refine AF.cond O (λhc1=>?_) (λhc1=>?_)
 ·replace hc1:=of_decide_eq_true hc1
  refine AF.skip (q1 (AF.block (AF.seq (Cd [(0,true),(1,true),(2,true),(3,true),(4,true),(5,true),(6,true),(7,true),(8,true),(9,true),(10,true),(11,true),(12,true),(13,true),(14,true),(15,true),(16,true),(17,true),(18,true),(19,true),(20,true),(21,true),(22,true),(23,true),(24,true),(25,true),(26,true),(27,true),(28,true),(29,true),(30,true),(31,true),(32,true),(33,true),(34,true),(35,true),(36,true),(37,true),(38,true),(39,true),(40,true),(41,true),(42,true),(43,true),(44,true),(45,true),(46,true),(47,true),(48,true),(49,true)] sr (Bb O ?_)))))
  refine Bb O (Aq (v:=(pP (pB ea.p) (pO ea.p+i*4))) O (AN (j:=i) O O ea.ok underlying88 sizeOf91 O Z) (Aq (v:=(pP (pB ea.p) (pO ea.p+(i*4+0)))) O (AA O underlying91 O sizeOf3 (Nat.add_assoc _ _ _)) (Aq O (Ad (v:=(vN (((BV ts).getD i (⟨0,0,0,0⟩:E4)).a))) (i:=3) O O (BF.ne ea.ok Z) Bj (Bc Bw (⟨0,0,0,0⟩:E4) _ _ 0 Z (by decide) O)) (Bb O (Bb O ?_)))))
  refine Aq (v:=(pP (pB eb.p) (pO eb.p+i*4))) O (AN (j:=i) O O eb.ok underlying89 sizeOf92 O Z) (Aq (v:=(pP (pB eb.p) (pO eb.p+(i*4+0)))) O (AA O underlying92 O sizeOf3 (Nat.add_assoc _ _ _)) (Aq O (Ad (v:=(vN (((BV ts).getD i (⟨0,0,0,0⟩:E4)).a))) (i:=2) O O (BF.ne eb.ok Z) Bj (Bc Bw (⟨0,0,0,0⟩:E4) _ _ 0 Z (by decide) O)) (Aq O (Bx (c:=false) O O (decide_eq_false λh=>h O)) (Bb O (OkE.pas (v:=(Value.slice ea.p ((BV ts).length) ((BV ts).length))) O (AB O) (Al O) O O ?_)))))
  refine OkE.pas (v:=(vN i)) O (AB O) (Al O) O O (OkE.pas (v:=(pP (pB ea.p) (pO ea.p+i*4))) O (AB O) (AN (j:=i) O O ea.ok underlying88 sizeOf91 O Z) O O (OkE.pas (v:=(pP (pB ea.p) (pO ea.p+(i*4+1)))) O (AB O) (AA O underlying91 O sizeOf3 (Nat.add_assoc _ _ _)) O O (OkE.pas (v:=(vN (((BV ts).getD i (⟨0,0,0,0⟩:E4)).b))) O (AB O) (Ad (v:=(vN (((BV ts).getD i (⟨0,0,0,0⟩:E4)).b))) (i:=3) O O (BF.ne ea.ok Z) Bj (Bc Bw (⟨0,0,0,0⟩:E4) _ _ 1 Z (by decide) O)) O O (OkE.pas (v:=(Value.slice eb.p ((BV ts).length) eb.c)) O (AB O) (Al O) O O (OkE.pas (v:=(vN i)) O (AB O) (Al O) O O ?_)))))
  refine OkE.pas (v:=(pP (pB eb.p) (pO eb.p+i*4))) O (AB O) (AN (j:=i) O O eb.ok underlying89 sizeOf92 O Z) O O (OkE.pas (v:=(pP (pB eb.p) (pO eb.p+(i*4+1)))) O (AB O) (AA O underlying92 O sizeOf3 (Nat.add_assoc _ _ _)) O O (OkE.pas (v:=(vN (((BV ts).getD i (⟨0,0,0,0⟩:E4)).b))) O (AB O) (Ad (v:=(vN (((BV ts).getD i (⟨0,0,0,0⟩:E4)).b))) (i:=2) O O (BF.ne eb.ok Z) Bj (Bc Bw (⟨0,0,0,0⟩:E4) _ _ 1 Z (by decide) O)) O O (OkE.pas (v:=(Value.bool false)) O (AB O) (Bx (c:=false) O O (decide_eq_false λh=>h O)) O O (Aq (v:=(Value.bool false)) O (AP O O) (Bb O ?_)))))
  refine OkE.pas (v:=(Value.slice ea.p ((BV ts).length) ((BV ts).length))) O (AB O) (Al O) O O (OkE.pas (v:=(vN i)) O (AB O) (Al O) O O (OkE.pas (v:=(pP (pB ea.p) (pO ea.p+i*4))) O (AB O) (AN (j:=i) O O ea.ok underlying88 sizeOf91 O Z) O O (OkE.pas (v:=(pP (pB ea.p) (pO ea.p+(i*4+2)))) O (AB O) (AA O underlying91 O sizeOf3 (Nat.add_assoc _ _ _)) O O (OkE.pas (v:=(vI (((BV ts).getD i (⟨0,0,0,0⟩:E4)).l))) O (AB O) (Ad (v:=(vI (((BV ts).getD i (⟨0,0,0,0⟩:E4)).l))) (i:=3) O O (BF.ne ea.ok Z) Bj (Bc Bw (⟨0,0,0,0⟩:E4) _ _ 2 Z (by decide) O)) O O (OkE.pas (v:=(Value.slice eb.p ((BV ts).length) eb.c)) O (AB O) (Al O) O O ?_)))))
  refine OkE.pas (v:=(vN i)) O (AB O) (Al O) O O (OkE.pas (v:=(pP (pB eb.p) (pO eb.p+i*4))) O (AB O) (AN (j:=i) O O eb.ok underlying89 sizeOf92 O Z) O O (OkE.pas (v:=(pP (pB eb.p) (pO eb.p+(i*4+2)))) O (AB O) (AA O underlying92 O sizeOf3 (Nat.add_assoc _ _ _)) O O (OkE.pas (v:=(vI (((BV ts).getD i (⟨0,0,0,0⟩:E4)).l))) O (AB O) (Ad (v:=(vI (((BV ts).getD i (⟨0,0,0,0⟩:E4)).l))) (i:=2) O O (BF.ne eb.ok Z) Bj (Bc Bw (⟨0,0,0,0⟩:E4) _ _ 2 Z (by decide) O)) O O (OkE.pas (v:=(Value.bool false)) O (AB O) (Bx (c:=false) O O (decide_eq_false λh=>h O)) O O (Aq (v:=(Value.bool false)) O (AP O O) ?_)))))
  refine Bb O (OkE.pas (v:=(Value.slice ea.p ((BV ts).length) ((BV ts).length))) O (AB O) (Al O) O O (OkE.pas (v:=(vN i)) O (AB O) (Al O) O O (OkE.pas (v:=(pP (pB ea.p) (pO ea.p+i*4))) O (AB O) (AN (j:=i) O O ea.ok underlying88 sizeOf91 O Z) O O (OkE.pas (v:=(pP (pB ea.p) (pO ea.p+(i*4+3)))) O (AB O) (AA O underlying91 O sizeOf3 (Nat.add_assoc _ _ _)) O O (OkE.pas (v:=(vI (((BV ts).getD i (⟨0,0,0,0⟩:E4)).r))) O (AB O) (Ad (v:=(vI (((BV ts).getD i (⟨0,0,0,0⟩:E4)).r))) (i:=3) O O (BF.ne ea.ok Z) Bj (Bc Bw (⟨0,0,0,0⟩:E4) _ _ 3 Z (by decide) O)) O O ?_)))))
  refine OkE.pas (v:=(Value.slice eb.p ((BV ts).length) eb.c)) O (AB O) (Al O) O O (OkE.pas (v:=(vN i)) O (AB O) (Al O) O O (OkE.pas (v:=(pP (pB eb.p) (pO eb.p+i*4))) O (AB O) (AN (j:=i) O O eb.ok underlying89 sizeOf92 O Z) O O (OkE.pas (v:=(pP (pB eb.p) (pO eb.p+(i*4+3)))) O (AB O) (AA O underlying92 O sizeOf3 (Nat.add_assoc _ _ _)) O O (OkE.pas (v:=(vI (((BV ts).getD i (⟨0,0,0,0⟩:E4)).r))) O (AB O) (Ad (v:=(vI (((BV ts).getD i (⟨0,0,0,0⟩:E4)).r))) (i:=2) O O (BF.ne eb.ok Z) Bj (Bc Bw (⟨0,0,0,0⟩:E4) _ _ 3 Z (by decide) O)) O O (OkE.pas (v:=(Value.bool false)) O (AB O) (Bx (c:=false) O O (decide_eq_false λh=>h O)) O O ?_)))))
  refine Aq (v:=(Value.bool false)) O (AP O O) (OkE.nil (AC.subF (sL [5,6,7,8,9,103] O) (AC.then_ (AF.cond_false O (AF.skip ?_)))))
  refine AC.in_normal (AC.then_ (AF.region (AM O (AH (AW (c:=((i+1:Nat):Int)) O O (AU (a:=i) (b:=1) Z)) O (asg' O ?_)))))
  exact AE.nil (AC.subF (sL [5,6,7,8,9] O) (AC.round1 (i+1) Z Z (sF O) sr))
 ·replace hc1:=of_decide_eq_false hc1
  refine AF.exit (AC.then_exit (AC.round1_exit (AC.in_exit (q1 (q4 ?_)))))
  refine asg' O (AE.nil (AC.then_ (AF.block ?_)))
  refine AF.lp1 (tg λ(j:Nat)=>j<=(Bi ts).length) (tg λ(j:Nat)=>[(7,(Value.slice ra.p ((Bi ts).length) ((Bi ts).length))),(8,(Value.slice rb.p ((Bi ts).length) rb.c)),(10,(vN j))]) (tg λ(j:Nat)=>(AQ rb.p (rowsL Ai (Bi ts))::rowW ra.p 55 3 ((Bi ts).length) ra.c (rowsL Ai (Bi ts))::AQ eb.p (rowsL Bo (BV ts))::AQ ea.p (rowsL Bo (BV ts))::Ag b2 38 (B9 y)::Ag b1 30 (CI x)::AQ x.a.p (rowsL Am ps)::AQ x.b.p (rowsL Ai ts)::AQ x.c.p (rowsL Ai ss)::AQ y.a.p (rowsL Ga y.rs)::AQ y.b.p (rowsL Ai ts)::AQ y.c.p (rowsL Ai vs)::F9 y.rs)) (tg λ(j:Nat)=>(Bi ts).length-j) 0 (Nat.zero_le _) (sF O) sr (λj hJ=>?_)
  have hjl:=hJ
  refine AF.seq (q4 (AM O (AM O (AH (v:=(vN ((Bi ts).length))) (AG O underlying24) O (AH (Ae (c:=(decide (j<((Bi ts).length)))) O O (CL (a:=j) (b:=(Bi ts).length))) O ?_)))))
  refine AE.nil (AC.subF (sL [7,8,10,107] O) (AC.then_ ?_))
  refine AF.cond O (λhc3=>?_) (λhc3=>?_)
  ·replace hc3:=of_decide_eq_true hc3
   refine AF.skip (q1 (AF.block (AF.seq (Cd [(0,true),(1,true),(2,true),(3,true),(4,true),(5,true),(6,true),(7,true),(8,true),(9,true),(10,true),(11,true),(12,true),(13,true),(14,true),(15,true),(16,true),(17,true),(18,true),(19,true),(20,true),(21,true),(22,true),(23,true),(24,true),(25,true),(26,true),(27,true),(28,true),(29,true),(30,true),(31,true)] sr (Bb O ?_)))))
   refine Bb O (Aq (v:=(pP (pB ra.p) (pO ra.p+j*3))) O (AN (j:=j) O O ra.ok.clip underlying24 sizeOf55 O Z) (Aq (v:=(pP (pB ra.p) (pO ra.p+(j*3+0)))) O (AA O underlying55 O sizeOf3 (Nat.add_assoc _ _ _)) (Aq O (DY (v:=(vN (((Bi ts).getD j ((0,0,0):Nat×Nat×Nat)).1))) (i:=1) O O ra.ok (Ak Az _) (BF.ne ra.ok.clip Z) Bj (Bc Az ((0,0,0):Nat×Nat×Nat) _ _ 0 Z (by decide) O)) (Bb O (Bb O ?_)))))
   refine Aq (v:=(pP (pB rb.p) (pO rb.p+j*3))) O (AN (j:=j) O O rb.ok underlying36 sizeOf115 O Z) (Aq (v:=(pP (pB rb.p) (pO rb.p+(j*3+0)))) O (AA O underlying115 O sizeOf3 (Nat.add_assoc _ _ _)) (Aq O (Ad (v:=(vN (((Bi ts).getD j ((0,0,0):Nat×Nat×Nat)).1))) (i:=0) O O (BF.ne rb.ok Z) Bj (Bc Az ((0,0,0):Nat×Nat×Nat) _ _ 0 Z (by decide) O)) (Aq O (Bx (c:=false) O O (decide_eq_false λh=>h O)) (Bb O (OkE.pas (v:=(Value.slice ra.p ((Bi ts).length) ((Bi ts).length))) O (AB O) (Al O) O O ?_)))))
   refine OkE.pas (v:=(vN j)) O (AB O) (Al O) O O (OkE.pas (v:=(pP (pB ra.p) (pO ra.p+j*3))) O (AB O) (AN (j:=j) O O ra.ok.clip underlying24 sizeOf55 O Z) O O (OkE.pas (v:=(pP (pB ra.p) (pO ra.p+(j*3+1)))) O (AB O) (AA O underlying55 O sizeOf3 (Nat.add_assoc _ _ _)) O O (OkE.pas (v:=(vN (((Bi ts).getD j ((0,0,0):Nat×Nat×Nat)).2.1))) O (AB O) (DY (v:=(vN (((Bi ts).getD j ((0,0,0):Nat×Nat×Nat)).2.1))) (i:=1) O O ra.ok (Ak Az _) (BF.ne ra.ok.clip Z) Bj (Bc Az ((0,0,0):Nat×Nat×Nat) _ _ 1 Z (by decide) O)) O O (OkE.pas (v:=(Value.slice rb.p ((Bi ts).length) rb.c)) O (AB O) (Al O) O O (OkE.pas (v:=(vN j)) O (AB O) (Al O) O O ?_)))))
   refine OkE.pas (v:=(pP (pB rb.p) (pO rb.p+j*3))) O (AB O) (AN (j:=j) O O rb.ok underlying36 sizeOf115 O Z) O O (OkE.pas (v:=(pP (pB rb.p) (pO rb.p+(j*3+1)))) O (AB O) (AA O underlying115 O sizeOf3 (Nat.add_assoc _ _ _)) O O (OkE.pas (v:=(vN (((Bi ts).getD j ((0,0,0):Nat×Nat×Nat)).2.1))) O (AB O) (Ad (v:=(vN (((Bi ts).getD j ((0,0,0):Nat×Nat×Nat)).2.1))) (i:=0) O O (BF.ne rb.ok Z) Bj (Bc Az ((0,0,0):Nat×Nat×Nat) _ _ 1 Z (by decide) O)) O O (OkE.pas (v:=(Value.bool false)) O (AB O) (Bx (c:=false) O O (decide_eq_false λh=>h O)) O O (Aq (v:=(Value.bool false)) O (AP O O) (Bb O ?_)))))
   refine OkE.pas (v:=(Value.slice ra.p ((Bi ts).length) ((Bi ts).length))) O (AB O) (Al O) O O (OkE.pas (v:=(vN j)) O (AB O) (Al O) O O (OkE.pas (v:=(pP (pB ra.p) (pO ra.p+j*3))) O (AB O) (AN (j:=j) O O ra.ok.clip underlying24 sizeOf55 O Z) O O (OkE.pas (v:=(pP (pB ra.p) (pO ra.p+(j*3+2)))) O (AB O) (AA O underlying55 O sizeOf3 (Nat.add_assoc _ _ _)) O O (OkE.pas (v:=(vN (((Bi ts).getD j ((0,0,0):Nat×Nat×Nat)).2.2))) O (AB O) (DY (v:=(vN (((Bi ts).getD j ((0,0,0):Nat×Nat×Nat)).2.2))) (i:=1) O O ra.ok (Ak Az _) (BF.ne ra.ok.clip Z) Bj (Bc Az ((0,0,0):Nat×Nat×Nat) _ _ 2 Z (by decide) O)) O O (OkE.pas (v:=(Value.bool false)) O (AB O) (Bx (c:=false) O O (decide_eq_false (by rw [VO hnb Z hc3];omega))) O O ?_)))))
   refine Aq (v:=(Value.bool false)) O (AP O O) (OkE.nil (AC.subF (sL [7,8,10,141] O) (AC.then_ (AF.cond_false O (AF.skip ?_)))))
   refine AC.in_normal (AC.then_ (AF.region (AM O (AH (AW (c:=((j+1:Nat):Int)) O O (AU (a:=j) (b:=1) Z)) O (asg' O ?_)))))
   exact AE.nil (AC.subF (sL [7,8,10] O) (AC.round1 (j+1) Z Z (sF O) sr))
  ·replace hc3:=of_decide_eq_false hc3
   refine AF.exit (AC.then_exit (AC.round1_exit (AC.in_exit (q2 (asg' O ?_)))))
   exact AE.nil (AC.then_ (AF.ret (AI O (AY (v:=(Value.bool true)) O) (λw hw=>⟨rfl,hw.out⟩))))
theorem UX (l k:List Nat) (h:l=k) (a:CX (inL l) l.length) (b:RX (inL k) k.length) (hl:l.length<=1000000) (w:World) {S:Nat->Prop} (ha:Ro S w a) (hb:Ro S w b):Calls prog 26 #[(Value.slice a.p l.length l.length),(Value.slice b.p k.length b.c)] w (An w (Value.bool true)):=by
 subst h
 exact XH l a b hl w ha hb
theorem Ut {ps qs:List Pt} {ts us ss vs:List T3} (x:MX ps ts ss) (y:OQ qs us vs) (hu:ts=us) (hq:qs.length=ps.length) (hp:ps.length<=4096) (hl:ts.length<=2000) (hnb:By ps.length ts=true) (w:World) {S:Nat->Prop} (hx:Ro S w x) (hy:Ro S w y):Calls prog 22 #[(aG (CI x)),(aG (B9 y))] w (An w (Value.bool true)):=by
 subst hu
 exact YM x y hq hp hl hnb w hx hy
end
section
set_option maxRecDepth 100000
theorem MT (p q:Pt) (hp:B_ p<=1000) (hq:B_ q<=1000) (w:World)  :Calls prog 125 #[(aG (Am p)),(aG (Am q))] w (An w (Value.bool (decide (Vp p q)))):=by
 have y1:=Ez p
 have y2:=Ez q
 have y3:=E1 p
 have y4:=E1 q
 refine Af (args:=[(aG (Am p)),(aG (Am q))]) func125 O O (AT O) (AF.subF (sL [0,1] O) (q4 (BU (cs:=Am p) O λb1=>BU (cs:=Am q) O λb2=>asg' O ?_)))
 refine q6 (sL [2,3,4] O) (q4 (AH (v:=(pP b1 0)) (AA O underlying51 O sizeOf48 O) O (Cy 1 (AO p.x) Bp O (AH (v:=(pP b2 0)) (AA O underlying51 O sizeOf48 O) O (Cy 0 (AO q.x) Bp O ?_)))))
 refine ck' call184 (SA p.x q.x Z) O (asg' O (q3 (sL [2,3,4,5] O) (AM O (AH (Bx (c:=(decide ((G7 p.x q.x)≠(0:Int)))) O O O) O (AE.nil ?_)))))
 refine AC.subF (sL [2,3,4,5,12] O) (AC.then_ ?_)
 refine AF.cond O (λhc0=>?_) (λhc0=>?_)
 ·replace hc0:=of_decide_eq_true hc0
  refine q4 (AM O (AH (Ae (c:=(decide ((G7 p.x q.x)<(0:Int)))) O O O) O (asg' O (AE.nil (AC.subF (sL [2,3,4,5] O) ?_)))))
  exact AC.then_ (AF.ret (AC.then_ret (AI O (AY (v:=(Value.bool (decide ((G7 p.x q.x)<(0:Int))))) O) (λw hw=>⟨by rw [ZJ hc0],hw.out⟩))))
 ·replace hc0:=of_decide_eq_false hc0
  refine AF.skip (q2 (AH (v:=(pP b1 5)) (AA O underlying51 O sizeOf48 O) O (Cy 1 (AO p.y) Bp O (AH (v:=(pP b2 5)) (AA O underlying51 O sizeOf48 O) O (Cy 0 (AO q.y) Bp O ?_)))))
  refine ck' call184 (SA p.y q.y Z) O (AH (Ae (c:=(decide ((G7 p.y q.y)<(0:Int)))) O O O) O (asg' O (AE.nil (AC.subF (sL [2,3,4,5] O) (AC.then_ ?_)))))
  exact AF.ret (AI O (AY (v:=(Value.bool (decide ((G7 p.y q.y)<(0:Int))))) O) (λw hw=>⟨by rw [aT (Decidable.not_not.1 hc0)],hw.out⟩))
end
end Go.Proofs.YtpgncndhhhllfaaGreatDoor
