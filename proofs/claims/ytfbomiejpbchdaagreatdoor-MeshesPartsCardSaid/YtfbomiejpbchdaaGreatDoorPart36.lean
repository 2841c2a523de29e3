import Derived.Test.YtfbomiejpbchdaaGreatDoorTie
import Derived.Test.YtfbomiejpbchdaaGreatDoorCards
import Derived.ProofKit
import Derived.LaidMore
import Derived.Carry
import Derived.Stop.Joined
import Derived.SevenTiedAt
import Derived.Test.YtfbomiejpbchdaaGreatDoorPart06
import Derived.Test.YtfbomiejpbchdaaGreatDoorPart15
import Derived.Test.YtfbomiejpbchdaaGreatDoorPart21
import Derived.Test.YtfbomiejpbchdaaGreatDoorPart23
import Derived.Test.YtfbomiejpbchdaaGreatDoorPart26
import Derived.Test.YtfbomiejpbchdaaGreatDoorPart31
import Derived.Test.YtfbomiejpbchdaaGreatDoorPart32
import Derived.Test.YtfbomiejpbchdaaGreatDoorPart34
import Derived.Test.YtfbomiejpbchdaaGreatDoorPart35
namespace Go.Proofs.YtfbomiejpbchdaaGreatDoor
open Go Go.RowKit Go.Proofs.Tryz
set_option linter.unusedVariables false
set_option linter.unusedSimpArgs false
section
set_option maxRecDepth 100000
theorem OM (t:Nat×Nat×Nat) (p:Int) (g:Nat) (w:World) (hg:w.heap[g]?=some (.cells (An t).toArray 79 (0,0))):Calls prog 113 #[(Value.slice (some ⟨g,0,none⟩) 3 3),(vI p)] w (λe w'=>e=.returned (Value.int .i64 (PF t p))/\JH w w' (some g)/\w'.heap[g]?=some (.cells (An t).toArray 79 (0,0))):=by
 refine Ez (args:=[(Value.slice (some ⟨g,0,none⟩) 3 3),(vI p)]) (g:=g) (T:=79) (cs:=An t) func113 O O (Ad O) hg (AF.subF (sL [0,1] O) (q4 (AK O (AE.nil (q1 ?_)))))
 refine q4 (AO O (AH (v:=(vI 3)) (AG O underlying71) O (AO O (AE.nil (AC.subF (sL [0,1,4,7,8] O) ?_)))))
 refine AC.then_ (AF.block (AF.unroll 4 (Eb.step (q4 (AH (Af (c:=true) O O (by decide)) O ?_)))))
 refine AE.nil (q1 (AF.cond_true O (AF.skip (q1 (AF.block ?_)))))
 refine q4 (AO O (AK O (q3 (sL [0,1,4,7,8,5] O) (AO O (AO O ?_)))))
 refine AO O (AH (v:=(pP g 0)) (AI (j:=0) O O underlying71 sizeOf3 O Z O) O (BJ 0 (vN t.1) Bx O (AH (BQ (c:=(decide (p=((t.1:Nat):Int)))) O O O) O (AE.nil (AC.subF (sL [0,1,4,7,8,5,16] O) ?_)))))
 refine AC.then_ ?_
 refine AF.cond O (λhc1=>?_) (λhc1=>?_)
 ·replace hc1:=of_decide_eq_true hc1
  have hr:PF t p=0:=by unfold PF;rw [if_pos hc1.symm]
  refine q4 (AO O (AK O (AE.nil (AC.subF (sL [0,1,4,7,8,5] O) (AC.then_ ?_)))))
  exact AF.ret (AC.in_ret (AC.then_ret (AC.then_ret (AC.in_ret (AC.then_ret (AN O (Ab (v:=(vI 0)) O) (λw hw=>⟨by rw [hr]<;>rfl,hw.1,hw.get (i:=0) O⟩)))))))
 ·replace hc1:=of_decide_eq_false hc1
  have k0:=λh9=>hc1 (Eq.symm h9)
  refine AF.skip (AC.in_normal (AC.then_ (AF.region (AH (AW (c:=(1:Int)) O O (by decide)) O (AO O ?_)))))
  refine AE.nil (AC.subF (sL [0,1,4,7,8,5] O) (AC.again (Eb.step (q4 (AH (Af (c:=true) O O (by decide)) O ?_)))))
  refine AE.nil (q1 (AF.cond_true O (AF.skip (q1 (AF.block ?_)))))
  refine q4 (AO O (AK O (q3 (sL [0,1,4,7,8,5] O) (AO O (AO O ?_)))))
  refine AO O (AH (v:=(pP g 1)) (AI (j:=1) O O underlying71 sizeOf3 O Z O) O (BJ 0 (vN t.2.1) Bx O (AH (BQ (c:=(decide (p=((t.2.1:Nat):Int)))) O O O) O (AE.nil (AC.subF (sL [0,1,4,7,8,5,16] O) ?_)))))
  refine AC.then_ ?_
  refine AF.cond O (λhc1=>?_) (λhc1=>?_)
  ·replace hc1:=of_decide_eq_true hc1
   have hr:PF t p=1:=by unfold PF;rw [if_neg k0,if_pos hc1.symm]
   refine q4 (AO O (AK O (AE.nil (AC.subF (sL [0,1,4,7,8,5] O) (AC.then_ ?_)))))
   exact AF.ret (AC.in_ret (AC.then_ret (AC.then_ret (AC.in_ret (AC.then_ret (AN O (Ab (v:=(vI 1)) O) (λw hw=>⟨by rw [hr]<;>rfl,hw.1,hw.get (i:=0) O⟩)))))))
  ·replace hc1:=of_decide_eq_false hc1
   have k1:=λh9=>hc1 (Eq.symm h9)
   refine AF.skip (AC.in_normal (AC.then_ (AF.region (AH (AW (c:=(2:Int)) O O (by decide)) O (AO O ?_)))))
   refine AE.nil (AC.subF (sL [0,1,4,7,8,5] O) (AC.again (Eb.step (q4 (AH (Af (c:=true) O O (by decide)) O ?_)))))
   refine AE.nil (q1 (AF.cond_true O (AF.skip (q1 (AF.block ?_)))))
   refine q4 (AO O (AK O (q3 (sL [0,1,4,7,8,5] O) (AO O (AO O ?_)))))
   refine AO O (AH (v:=(pP g 2)) (AI (j:=2) O O underlying71 sizeOf3 O Z O) O (BJ 0 (vN t.2.2) Bx O (AH (BQ (c:=(decide (p=((t.2.2:Nat):Int)))) O O O) O (AE.nil (AC.subF (sL [0,1,4,7,8,5,16] O) ?_)))))
   refine AC.then_ ?_
   refine AF.cond O (λhc1=>?_) (λhc1=>?_)
   ·replace hc1:=of_decide_eq_true hc1
    have hr:PF t p=2:=by unfold PF;rw [if_neg k0,if_neg k1,if_pos hc1.symm]
    refine q4 (AO O (AK O (AE.nil (AC.subF (sL [0,1,4,7,8,5] O) (AC.then_ ?_)))))
    exact AF.ret (AC.in_ret (AC.then_ret (AC.then_ret (AC.in_ret (AC.then_ret (AN O (Ab (v:=(vI 2)) O) (λw hw=>⟨by rw [hr]<;>rfl,hw.1,hw.get (i:=0) O⟩)))))))
   ·replace hc1:=of_decide_eq_false hc1
    have k2:=λh9=>hc1 (Eq.symm h9)
    have hr:PF t p = -1:=by unfold PF;rw [if_neg k0,if_neg k1,if_neg k2]
    refine AF.skip (AC.in_normal (AC.then_ (AF.region (AH (AW (c:=(3:Int)) O O (by decide)) O (AO O ?_)))))
    refine AE.nil (AC.subF (sL [0,1,4,7,8,5] O) (AC.again (Eb.step (q4 (AH (Af (c:=false) O O (by decide)) O ?_)))))
    refine AE.nil (q1 (AF.cond_false O (AF.exit (AC.then_exit (AC.then_exit ?_)))))
    refine AC.in_exit (q2 (AK O (AE.nil (AC.subF (sL [0,1,4,7,8,5] O) (AC.then_ ?_)))))
    exact AF.ret (AN O (Ab (v:=(vI (-1:Int))) O) (λw hw=>⟨by rw [hr]<;>rfl,hw.1,hw.get (i:=0) O⟩))
theorem K5 (t:Nat×Nat×Nat) (p:Int) (g:Nat) (w:World) (hg:w.heap[g]?=some (.cells (An t).toArray 79 (0,0))):Calls prog 61 #[(Value.slice (some ⟨g,0,none⟩) 3 3),(vI p)] w (λe w'=>e=.returned (Value.bool (Em t p))/\JH w w' (some g)/\w'.heap[g]?=some (.cells (An t).toArray 79 (0,0))):=by
 refine Ez (args:=[(Value.slice (some ⟨g,0,none⟩) 3 3),(vI p)]) (g:=g) (T:=79) (cs:=An t) func61 O O (Ad O) hg (AF.subF (sL [0,1] O) (q4 (AK O (AE.nil (q2 ?_)))))
 refine AO O (AO O (AE.callM (v:=(vI (PF t p))) (i:=0) (cs':=An t) (L':=[Ae g 79 (An t)]) (AP O) (Ao (args:=[(Value.slice (some ⟨g,0,none⟩) 3 3),(vI p)]) O O call113) O (λw hw=>OM t p _ w (hw.get (i:=0) O)) (λd hd=>by cases hd<;>exact (Ad O)) O (AH (DW (c:=(Em t p)) O O (SS t p)) O (AK O (AE.nil ?_)))))
 exact AC.subF (sL [4] O) (AC.then_ (AF.ret (AN O (Ab (v:=(Value.bool (Em t p))) O) (λw hw=>⟨rfl,hw.1,hw.get (i:=0) O⟩))))
set_option maxHeartbeats 2000000 in
theorem HA {ps:List Pt} {ts ss:List (Nat×Nat×Nat)} (x:MX ps ts ss) (p:Int) (hl:ts.length<=1000000000) (hN:ps.length<=4611686018427387904) (hnb:CU ps.length ts=true) (w:World) {S:Nat->Prop} (hx:Ro S w x):Calls prog 22 #[(aG (CM x)),(vI p)] w (B3 (RX (inL (Fm ts p ts.length)) (Fm ts p ts.length).length) S w):=by
 have lx:=En (W:=w) hx
 refine BC (args:=[(aG (CM x)),(vI p)]) (L:=[Ag x.a.p (rowsL Ah ps),Ag x.b.p (rowsL An ts),Ag x.c.p (rowsL An ss)]) func22 O O (Ad O) (Eo hx BR) (AF.subF (sL [0,1] O) (q4 (Bi (cs:=CM x) O λb1=>AK O (q6 (sL [1,2,4] O) ?_))))
 refine q4 (BA 0 DG O (D1 (args:=[(aG (CM x))]) (v:=(Value.bool true)) call48 (λw hw=>(by have h9:=KT x Z w (Dz hw 1 O lx);rw [hnb] at h9;exact h9)) O (AH (BV (c:=false) O O) O (AE.nil (AC.subF (sL [1,2,4,10] O) ?_)))))
 refine AC.then_ (AF.cond_false O (AF.skip (q2 (AK O (AE.nilRow 3 1 ?_)))))
 refine q6 (sL [1,2,4,5] O) (q4 (AH (v:=(pP b1 1)) (AA O underlying30 O sizeOf23 O) O (BJ 1 (Value.slice x.b.p ts.length x.b.c) DV O (AH (v:=(vN ts.length)) (AG O underlying23) O (AO O ?_)))))
 refine AE.nil (AC.subF (sL [1,2,4,5,12,13,14] O) (AC.then_ (AF.block ?_)))
 refine AF.lp4 (tg λ(t:Nat) (p1:Option Addr) (c1:Nat) (out:List Nat)=>t<=ts.length/\OwnOk p1 out.length c1/\out=Fm ts p t) (tg λ(t:Nat) (p1:Option Addr) (c1:Nat) (out:List Nat)=>[(1,(vI p)),(4,(Value.slice none 0 0)),(12,(Value.slice x.b.p ts.length x.b.c)),(13,(vN ts.length)),(14,(vN t)),(5,(Value.slice p1 out.length c1))]) (tg λ(t:Nat) (p1:Option Addr) (c1:Nat) (out:List Nat)=>[rowW p1 3 1 out.length c1 (inL out),Ae b1 30 (CM x),Ag x.a.p (rowsL Ah ps),Ag x.b.p (rowsL An ts),Ag x.c.p (rowsL An ss)]) (tg λ(t:Nat) (p1:Option Addr) (c1:Nat) (out:List Nat)=>ts.length-t) 0 none 0 ([]:List Nat) (⟨Nat.zero_le _,OwnOk.none,rfl⟩) (sF O) sr (λt p1 c1 out hJ=>?_)
 obtain ⟨ht,ho,hout⟩:=hJ
 have hal:=K3 (ts:=ts) (p:=p) (i:=t)
 rw [<-hout] at hal
 refine q4 (AH (Af (c:=(decide (t<ts.length))) O O (C1 (a:=t) (b:=ts.length))) O (AE.nil (q1 ?_)))
 refine AF.cond O (λhc1=>?_) (λhc1=>?_)
 ·replace hc1:=of_decide_eq_true hc1
  refine AF.skip (q1 (AF.block (q4 (AO O (AH (v:=(pP (pB x.b.p) (pO x.b.p+t*3))) (AR (j:=t) O O x.b.ok underlying23 sizeOf79 O Z) O ?_)))))
  refine AH (v:=(aG (An (ts.getD t ((0,0,0):Nat×Nat×Nat))))) (AU (vs:=An (ts.getD t ((0,0,0):Nat×Nat×Nat))) (i:=3) O O (BO.ne x.b.ok Z) H0 (Ar BI _ _ _ Z) (BI _)) O (al KN O λb2=>AK O (Av O sizeOf79 O (q3 (sL [1,4,12,13,14,5,7,6] O) (AH (v:=(Value.slice (some ⟨b2,0,none⟩) 3 3)) (DT O underlying79 sizeOf3 (by decide)) O ?_))))
  refine AO O (AE.callM (v:=(Value.bool (Em (ts.getD t ((0,0,0):Nat×Nat×Nat)) p))) (i:=0) (cs':=An (ts.getD t ((0,0,0):Nat×Nat×Nat))) (L':=[Ae b2 79 (An (ts.getD t ((0,0,0):Nat×Nat×Nat))),rowW p1 3 1 out.length c1 (inL out),Ae b1 30 (CM x),Ag x.a.p (rowsL Ah ps),Ag x.b.p (rowsL An ts),Ag x.c.p (rowsL An ss)]) (AP O) (Ao (args:=[(Value.slice (some ⟨b2,0,none⟩) 3 3),(vI p)]) O O call61) O (λw hw=>K5 (ts.getD t ((0,0,0):Nat×Nat×Nat)) p _ w (hw.get (i:=0) O)) (λd hd=>by cases hd<;>exact (Ad O)) O (AE.nil (AC.subF (sL [1,4,12,13,14,5,7,6,21] O) (AC.then_ ?_))))
  refine AF.jn3 (tg λ(p2:Option Addr) (c2:Nat) (o2:List Nat)=>OwnOk p2 o2.length c2/\o2=Fm ts p (t+1)) (tg λ(p2:Option Addr) (c2:Nat) (o2:List Nat)=>[(1,(vI p)),(4,(Value.slice none 0 0)),(12,(Value.slice x.b.p ts.length x.b.c)),(13,(vN ts.length)),(14,(vN t)),(5,(Value.slice p2 o2.length c2))]) (tg λ(p2:Option Addr) (c2:Nat) (o2:List Nat)=>[Ae b2 79 (An (ts.getD t ((0,0,0):Nat×Nat×Nat))),rowW p2 3 1 o2.length c2 (inL o2),Ae b1 30 (CM x),Ag x.a.p (rowsL Ah ps),Ag x.b.p (rowsL An ts),Ag x.c.p (rowsL An ss)]) ?_ ?_
  ·skip
   refine AF.cond O (λhc2=>?_) (λhc2=>?_)
   ·skip
    refine AF.region (AO O (AO O (AE.openV (V:=λb3=>(Value.slice (some ⟨b3,0,none⟩) 1 1)) (T:=3) (cs:=[(vN t)]) (AP O) (A_ (cs:=[(vN t)]) (pv:=[(0,(vN t))]) underlying71 sizeOf3 zeroValue3 (by decide) (by decide) O (by kernel_rfl)) O (Ad O) λb3=>AE.append2 (j:=0) (cs2:=inL (out++[t])) Vr O ho (by simp [Iv]) O O O O (by decide) (Jc Z) Z (by rw [Mk];rfl) O λp_1 c_1 ho_1 hne_1=>AK O ?_)))
    refine AE.nil (AC.subF (sL [1,4,12,13,14,5,7] O) ?_)
    rw [show out.length+1=(out++[t]).length by simp]
    exact AC.join3 p_1 c_1 (out++[t]) (⟨by simpa using ho_1,by rw [hout];exact (S_ hc2).symm⟩) (sF O) (sl sr)
   ·skip
    exact AF.skip (AC.join3 p1 c1 out (⟨ho,by rw [hout];exact (UM (by first|exact hc2|simpa using hc2)).symm⟩) (sF O) sr)
  ·intro p2 c2 o2 hJ
   obtain ⟨ho2,hout2⟩:=hJ
   refine AC.in_normal (AC.then_ (AF.region (AH (AW (c:=((t+1:Nat):Int)) O O (AZ (a:=t) (b:=1) Z)) O (AO O (AE.nil ?_)))))
   exact AC.subF (sL [1,4,12,13,14,5] O) (AC.round4 (t+1) p2 c2 o2 (⟨Z,ho2,hout2⟩) Z (sF O) (sl sr))
 ·replace hc1:=of_decide_eq_false hc1
  refine AF.exit (AC.then_exit (AC.round4_exit (AC.in_exit (q2 (AO O ?_)))))
  exact BS call62 (QT p1 _ c1 ho.le) O (AK O (AE.nil (AC.subF (sL [1,4,12,13,14,5] O) (AC.then_ (AF.ret (AN O (Ab (v:=(Value.slice p1 out.length out.length)) O) (λw hw=>(by rw [show Fm ts p ts.length=out by rw [hout,show t=ts.length by omega]];exact Uk hw 0 O ho (by rw [Iv,Nat.mul_one]) O))))))))
end
section
section
variable {P:Program} {ops:Array Oper} {rest:List Oper} {Q:Exit->Act->World->Prop} {n:Nat} {F:List (Nat×Value)} {w0:BH} {L:List As} {d:Option Tmp} {op:Op} {t:TypeId} {p:String} {af:Array Edge} {g:Nat×Bool}
theorem AE.unguard (hw:Wt ops n F ⟨d,op,t,p,af,some g⟩) (next:AE P ops (⟨d,op,t,p,af,none⟩::rest) Q n F w0 L):AE P ops (⟨d,op,t,p,af,some g⟩::rest) Q n F w0 L:=λa w ha hW=>by
  have h:=next a w ha hW
  unfold wpList at h ⊢
  rw [if_pos (hw a ha)]
  rw [if_pos (AP rfl a ha)] at h
  exact h
end
end
section
set_option maxRecDepth 100000
theorem Iz {a b c:Pt} (h:Aa a b c≠0):EI a b c a=3:=by unfold EI;rw [if_neg h];exact R9 h
theorem PR {a b c:Pt} (h:Aa a b c≠0):EI a b c b=3:=by rw [<-GX];exact Iz (by rw [ID];exact h)
theorem Q5 {a b c:Pt} (h:Aa a b c≠0):EI a b c c=3:=by rw [<-GX,<-GX];exact Iz (by rw [ID,ID];exact h)
theorem Oq {ps:List Pt} {t:T3} {p:Nat} (h:Aa (B9 ps t.1) (B9 ps t.2.1) (B9 ps t.2.2)≠0) (hh:Em t ((p:Nat):Int)=true):EI (B9 ps t.1) (B9 ps t.2.1) (B9 ps t.2.2) (B9 ps p)=3:=by
 have e:p=t.1\/p=t.2.1\/p=t.2.2:=by have:=Hh hh;omega
 rcases e with rfl|rfl|rfl
 ·exact Iz h
 ·exact PR h
 ·exact Q5 h
set_option maxHeartbeats 1000000 in
theorem IM (m:MQ) (w:World) {S:Nat->Prop} (hm:Ro S w m):Calls prog 5 #[(aG (D5 m))] w (Al w (Value.bool true)):=by
 have lm:=En (W:=w) hm
 refine BC (args:=[(aG (D5 m))]) (L:=[Ag m.p (Cg m.cs)]) func5 O O (Ad O) (Eo hm BR) (AF.subF (sL [0] O) (q4 (Bi (cs:=D5 m) O λb1=>AK O (q3 (sL [1,2] O) ?_))))
 refine BA 0 K4 O (AE.callR (S:=S) (α:=MG) (args:=[(aG (D5 m))]) call15 (λw hw=>Q_ m w (Dz hw 1 O lm)) O O O λg lg=>?_)
 have hG:=g.good
 have hnb:CU g.ps.length g.ts=true:=Ox hG
 have htl:=hG.tl
 have hpl:=hG.pl
 have hz:∀i,B4 (B9 g.ps i)<=1000:=λi=>Nat.le_trans (hG.sz i) (by decide)
 refine al Ph O λb2=>Av O sizeOf30 O (q3 (sL [2,3] O) (al Df O λb3=>AE.nil (q2 ?_)))
 refine AK O (AE.nil (q1 (q4 (AK O (AE.nil ?_)))))
 refine AC.then_ (AF.block ?_)
 refine AF.lp1 (tg λ(p:Nat)=>p<=g.ps.length) (tg λ(p:Nat)=>[(3,(pP b2 0)),(4,(pP b3 0)),(6,(vN p)),(5,(vN (nA g.ts p)))]) (tg λ(p:Nat)=>[Ae b3 61 (AJ (sA g.ps g.ts p)),Ae b2 30 (CM g.mx),Ag g.mx.a.p (rowsL Ah g.ps),Ag g.mx.b.p (rowsL An g.ts),Ag g.mx.c.p (rowsL An g.ss),Ae b1 50 (D5 m),Ag m.p (Cg m.cs)]) (tg λ(p:Nat)=>g.ps.length-p) 0 (Nat.zero_le _) (sF O) sr (λp hJ=>?_)
 have hpl9:=hJ
 refine AF.seq (q4 (AO O (AH (v:=(pP b2 0)) (AA O underlying30 O sizeOf28 O) O (BJ 1 (Value.slice g.mx.a.p g.ps.length g.mx.a.c) DE O (AH (v:=(vN g.ps.length)) (AG O underlying28) O ?_)))))
 refine AH (Af (c:=(decide (p<g.ps.length))) O O (C1 (a:=p) (b:=g.ps.length))) O (AE.nil (AC.subF (sL [3,4,6,5,18] O) (AC.then_ ?_)))
 refine AF.cond O (λhc0=>?_) (λhc0=>?_)
 ·replace hc0:=of_decide_eq_true hc0
  obtain ⟨al,hal⟩:∃q,q=Fm g.ts ((p:Nat):Int) g.ts.length:=⟨_,rfl⟩
  have hll:al.length<=g.ts.length:=by rw [hal];exact K3
  have hup:∀k,k<al.length->0<k->al.getD (k-1) 0<al.getD k 0:=by rw [hal];exact λk h1 h2=>Tc h1 h2
  have hat:∀k,k<al.length->al.getD k 0<g.ts.length/\Em (g.ts.getD (al.getD k 0) (0,0,0)) ((p:Nat):Int)=true:=by rw [hal];exact λk h1=>Tn h1
  have hnl:=TO (ts:=g.ts) p
  have hmul:p*g.ts.length<=108*36:=Nat.mul_le_mul Z Z
  have hsz:=Qr (ts:=g.ts) hz p
  have hmul2:p*(g.ts.length*8010+3)<=108*288363:=Nat.mul_le_mul Z Z
  have hsk:=NB (ts:=g.ts) hz al
  refine AF.skip (q1 (AF.block (q4 (BA 1 DG O (AO O ?_)))))
  refine AE.callR (S:=S) (α:=RX (inL al) al.length) (args:=[(aG (CM g.mx)),(vN p)]) call22 (λw hw=>(by rw [hal];exact HA g.mx _ Z Z hnb w (Dz hw 2 O lg:Ro _ w g.mx))) O O O λar lar=>AK O (q3 (sL [3,4,6,5,7] O) (AO O (AO O (AH (v:=(vN al.length)) (AG O underlying71) O ?_))))
  refine AH (AW (c:=(((nA g.ts p)+al.length:Nat):Int)) O O (AZ (a:=nA g.ts p) (b:=al.length) Z)) O (AK O (q3 (sL [3,4,6,5,7] O) (AK O (AE.nil (AC.then_ ?_)))))
  refine AF.block ?_
  refine AF.lp1 (tg λ(i:Nat)=>i<=al.length) (tg λ(i:Nat)=>[(3,(pP b2 0)),(4,(pP b3 0)),(6,(vN p)),(5,(vN ((nA g.ts p)+al.length))),(7,(Value.slice ar.p al.length ar.c)),(8,(vN i))]) (tg λ(i:Nat)=>[Ag ar.p (inL al),Ae b3 61 (AJ (sB g.ps g.ts al (sA g.ps g.ts p) i)),Ae b2 30 (CM g.mx),Ag g.mx.a.p (rowsL Ah g.ps),Ag g.mx.b.p (rowsL An g.ts),Ag g.mx.c.p (rowsL An g.ss),Ae b1 50 (D5 m),Ag m.p (Cg m.cs)]) (tg λ(i:Nat)=>al.length-i) 0 (Nat.zero_le _) (sF O) sr (λi hJ=>?_)
  have hil:=hJ
  refine AF.seq (q4 (AO O (AO O (AH (v:=(vN al.length)) (AG O underlying71) O (AH (Af (c:=(decide (i<al.length))) O O (C1 (a:=i) (b:=al.length))) O ?_)))))
  refine AE.nil (AC.subF (sL [3,4,6,5,7,8,31] O) (AC.then_ ?_))
  refine AF.cond O (λhc1=>?_) (λhc1=>?_)
  ·replace hc1:=of_decide_eq_true hc1
   have hsh:=Kw
   have hic:=hc1
   obtain ⟨hkt,hhas⟩:=hat i hic
   have hski:=hsk i
   have hadd:=HG (sA g.ps g.ts p) (PI g.ps g.ts al i)
   rw [<-PL] at hadd
   have hne:Aa (B9 g.ps (g.ts.getD (al.getD i 0) (0,0,0)).1) (B9 g.ps (g.ts.getD (al.getD i 0) (0,0,0)).2.1) (B9 g.ps (g.ts.getD (al.getD i 0) (0,0,0)).2.2)≠0:=λh9=>by have h8:0<Aa (B9 g.ps (g.ts.getD (al.getD i 0) (0,0,0)).1) (B9 g.ps (g.ts.getD (al.getD i 0) (0,0,0)).2.1) (B9 g.ps (g.ts.getD (al.getD i 0) (0,0,0)).2.2):=(hG.tri _ hkt).pos;rw [h9] at h8;exact Rat.lt_irrefl h8
   have hw3:=Oq hne hhas
   obtain ⟨a,ha⟩:∃q,q=B9 g.ps (g.ts.getD (al.getD i 0) (0,0,0)).1:=⟨_,rfl⟩
   obtain ⟨b,hb⟩:∃q,q=B9 g.ps (g.ts.getD (al.getD i 0) (0,0,0)).2.1:=⟨_,rfl⟩
   obtain ⟨d,hd⟩:∃q,q=B9 g.ps (g.ts.getD (al.getD i 0) (0,0,0)).2.2:=⟨_,rfl⟩
   have sa:B4 a<=1000:=by rw [ha];exact hz _
   have sb:B4 b<=1000:=by rw [hb];exact hz _
   have sd:B4 d<=1000:=by rw [hd];exact hz _
   have sp9:B4 (g.ps.getD p ⟨0,0⟩)<=1000:=hz p
   rw [<-ha,<-hb,<-hd] at hw3
   unfold B9 at hw3
   refine AF.skip (q1 (AF.block (AF.seq (AF.seq ?_))))
   by_cases k0:0<i
   ·skip
    refine C2 [(0,true),(1,true),(2,true),(3,true),(4,true),(5,true),(6,true),(7,true),(8,true),(9,true),(10,true),(11,true),(12,true),(13,true),(14,true),(15,true),(16,true),(17,true),(18,true),(19,true),(20,true),(21,true),(22,true),(23,true),(24,true),(25,true),(26,true),(27,true),(28,true),(29,true),(30,true)] sr (Bm O (Bm O (Ay (v:=(pP (pB ar.p) (pO ar.p+i*1))) O (AR (j:=i) O O ar.ok underlying71 sizeOf3 O Z) (Ay O (Ax (v:=(vN (al.getD i 0))) (i:=0) O O (ar.ok.ne Z) Bx (Ee (l:=al) (j:=i) Z)) (Ay O (Af (c:=false) O O (decide_eq_false Z)) ?_)))))
    refine Bm O (AS.pas (v:=(Value.slice ar.p al.length ar.c)) O (AB O) (BB O) O O (AS.pas (v:=(vN i)) O (AB O) (BB O) O O (AS.pas (v:=(pP (pB ar.p) (pO ar.p+i*1))) O (AB O) (AR (j:=i) O O ar.ok underlying71 sizeOf3 O Z) O O (AS.pas (v:=(vN (al.getD i 0))) O (AB O) (Ax (v:=(vN (al.getD i 0))) (i:=0) O O (ar.ok.ne Z) Bx (Ee (l:=al) (j:=i) Z)) O O (AS.pas (v:=(pP b2 1)) O (AB O) (AA O underlying30 O sizeOf23 O) O O ?_)))))
    refine AS.pas (v:=(Value.slice g.mx.b.p g.ts.length g.mx.b.c)) O (AB O) (AM (i:=2) (v:=(Value.slice g.mx.b.p g.ts.length g.mx.b.c)) O O DV.a O) O O (AS.pas (v:=(vN g.ts.length)) O (AB O) (AG O underlying23) O O (AS.pas (v:=(Value.bool false)) O (AB O) (DW (c:=false) O O (decide_eq_false Z)) O O (Ay (v:=(Value.bool false)) O (AY O O) (Bm O (AS.pas (v:=(vN i)) O (AB O) (BB O) O O ?_)))))
    refine AS.pas (v:=(Value.bool true)) O (AB O) (CW (c:=true) O O (decide_eq_true Z)) O O (AS.pas (v:=(Value.bool true)) O (AB O) (BB O) O O (AS.pas (v:=(Value.slice ar.p al.length ar.c)) O (AB O) (BB O) O O (AS.pas (v:=(vN i)) O (AB O) (BB O) O O (AS.pas (v:=(pP (pB ar.p) (pO ar.p+i*1))) O (AB O) (AR (j:=i) O O ar.ok underlying71 sizeOf3 O Z) O O (AS.pas (v:=(vN (al.getD i 0))) O (AB O) (Ax (v:=(vN (al.getD i 0))) (i:=0) O O (ar.ok.ne Z) Bx (Ee (l:=al) (j:=i) Z)) O O ?_)))))
    refine AS.pas (v:=(Value.slice ar.p al.length ar.c)) O (AB O) (BB O) O O (AS.pas (v:=(vN i)) O (AB O) (BB O) O O (AS.pas (v:=(vN (i-1))) O (AB O) (Bo (c:=((i-1:Nat):Int)) O O (CJ (a:=i) (b:=1) Z Z)) O O (AS.pas (v:=(pP (pB ar.p) (pO ar.p+(i-1)*1))) O (AB O) (AR (j:=i-1) O O ar.ok underlying71 sizeOf3 O Z) O O (AS.pas (v:=(vN (al.getD (i-1) 0))) O (AB O) (Ax (v:=(vN (al.getD (i-1) 0))) (i:=0) O O (ar.ok.ne Z) Bx (Ee (l:=al) (j:=i-1) Z)) O O (AS.pas (v:=(Value.bool false)) O (AB O) (GJ (c:=false) O O (decide_eq_false (by have h9:=hup i hic k0;omega))) O O ?_)))))
    refine AS.pas (v:=(Value.bool false)) O (AB O) (Ai O O) O O (Ay (v:=(Value.bool false)) O (AY O O) (AS.nil (AC.subF (sL [3,4,6,5,7,8,64] O) (AC.then_ (AF.cond_false O ?_)))))
    refine AF.skip (q1 (rN [(0,true),(1,true),(2,true),(3,true),(4,true),(5,false),(6,true),(7,true),(8,true),(9,true)] [⟨10,9,63,Ah (⟨0,0⟩:Pt)⟩,⟨11,10,63,Ah (⟨0,0⟩:Pt)⟩,⟨12,11,63,Ah (⟨0,0⟩:Pt)⟩] [(13,false),(14,false),(15,false)] sr (by kernel_rfl) (λ_ _ d _ _ h=>by cases d<;>exact h) (EV O O E7 O (EV O O E7 O (EV O O E7 O (Gn)))) O (GZ 2 DG O (JW O (JW O ?_)))))
    refine E1 (v:=(pP (pB ar.p) (pO ar.p+i*1))) O (AR (j:=i) O O ar.ok underlying71 sizeOf3 O Z) O (E1 O (Ax (v:=(vN (al.getD i 0))) (i:=0) O O (ar.ok.ne Z) Bx (Ee (l:=al) (j:=i) Z)) O (B6.imp O λEF EL=>D1 (args:=[(aG (CM g.mx)),(vN (al.getD i 0))]) (v:=(Value.tuple #[(aG (Ah a)),(aG (Ah b)),(aG (Ah d))])) call23 (λw hw=>(by rw [ha,hb,hd];exact GA g.mx (al.getD i 0) hkt (CO hnb hkt) w (Dz hw 3 O lg:Ro _ w g.mx))) O (B6.back0 sr O (JW O ?_))))
    refine E1 O (AX (v:=(aG (Ah a))) O O) O (E1 O (AX (v:=(aG (Ah b))) O O) O (E1 O (AX (v:=(aG (Ah d))) O O) O (B6.news3 λb4 b5 b6=>AS.imp O (Av O sizeOf63 O ?_))))
    refine AS.back (sl (sl (sl sr))) (AS.imp O (Ci O sizeOf63 O (AS.back (sl (sl (sl sr))) (AS.imp O (Lt O sizeOf63 O ?_)))))
    refine AS.back (sl (sl (sl sr))) (AS.nil (AC.subF (sL [3,4,6,5,7,8,11,10,9] O) (q1 (AF.seq (C2 [(0,true),(1,true),(2,true),(3,true),(4,true),(5,true),(6,true),(7,true),(8,false),(9,true)] sr ?_)))))
    refine EH 0 BM O (EH 1 BM O (EH 2 BM O (Ay (v:=(pP b2 0)) O (AA O underlying30 O sizeOf28 O) (Bl 5 (Value.slice g.mx.a.p g.ps.length g.mx.a.c) DE O (Bm O ?_)))))
    refine Ay (v:=(pP (pB g.mx.a.p) (pO g.mx.a.p+p*10))) O (AR (j:=p) O O g.mx.a.ok underlying28 sizeOf63 O Z) (Ay (v:=(aG (Ah (g.ps.getD p (⟨0,0⟩:Pt))))) O (AU (vs:=Ah (g.ps.getD p (⟨0,0⟩:Pt))) (i:=6) O O (BO.ne g.mx.a.ok Z) BM (Ar BD _ _ _ Z) (BD _)) (AS.imp O (BS call24 (Mj a b d (g.ps.getD p ⟨0,0⟩) Z) O (AS.back sr (Ay O (CS (c:=false) O O (decide_eq_false Z)) ?_)))))
    refine AS.nil (AC.subF (sL [3,4,6,5,7,8,11,10,9,84] O) (AC.then_ (AF.cond_false O (AF.skip (AC.then_ ?_)))))
    refine rC [(0,true),(1,true),(2,true),(3,true),(4,false),(5,false)] 6 [] sr (sk (sk (sk (sk (sl sr))))) (by kernel_rfl) (λ_ _ d _ _ h=>by cases d<;>exact h) (vE (v:=(aG (AJ (sB g.ps g.ts al (sA g.ps g.ts p) i)))) O (Ak (i:=4) (vs:=AJ (sB g.ps g.ts al (sA g.ps g.ts p) i)) O O Bg.a Bg.s O O) O (vE (v:=(aG (Ah a))) O (Ak (i:=0) (vs:=Ah a) O O BM.a BM.s O O) O (vE (v:=(aG (Ah b))) O (Ak (i:=1) (vs:=Ah b) O O BM.a BM.s O O) O (vE (v:=(aG (Ah d))) O (Ak (i:=2) (vs:=Ah d) O O BM.a BM.s O O) O (CG.imp O ?_)))))
    have hz1:=Cz a b d
    have hz2:=Dd (Aa a b d) (1/2)
    refine BS call25 (Kp a b d Z) O (CG.back sr (CG.imp O (D1 (args:=[(aG (AJ (sB g.ps g.ts al (sA g.ps g.ts p) i))),(aG (AJ (Aa a b d*(1/2))))]) (v:=(aG (AJ (sB g.ps g.ts al (sA g.ps g.ts p) (i+1))))) call17 (λw hw=>(by have h9:=H9 (sB g.ps g.ts al (sA g.ps g.ts p) i) (Aa a b d*(1/2)) Z w;rw [ha,hb,hd,NZ] at h9;rw [ha,hb,hd];exact h9)) O (CG.back sr (CG.cut O ?_)))))
    refine Fc 4 (off:=0) (vs:=AJ (sB g.ps g.ts al (sA g.ps g.ts p) (i+1))) (cs':=AJ (sB g.ps g.ts al (sA g.ps g.ts p) (i+1))) (AP O) O sizeOf61 O (AS.back (sk (sk (sk (sk (sl sr))))) (AS.nil (AC.subF (sL [3,4,6,5,7,8,11,10,9] O) (AC.in_normal (AC.then_ ?_)))))
    exact AF.region (AO O (AH (AW (c:=((i+1:Nat):Int)) O O (AZ (a:=i) (b:=1) Z)) O (AK O (AE.nil (AC.subF (sL [3,4,6,5,7,8,11,10,9] O) (AC.round1 (i+1) Z Z (sF O) (sl (sl (sl sr)))))))))
   ·skip
    refine C2 [(0,true),(1,true),(2,true),(3,true),(4,true),(5,true),(6,true),(7,true),(8,true),(9,true),(10,true),(11,true),(12,true),(13,true),(14,true),(15,true),(16,true),(17,true),(18,true),(19,true),(20,true),(21,true),(22,true),(23,true),(24,true),(25,true),(26,true),(27,true),(28,true),(29,true),(30,true)] sr (Bm O (Bm O (Ay (v:=(pP (pB ar.p) (pO ar.p+i*1))) O (AR (j:=i) O O ar.ok underlying71 sizeOf3 O Z) (Ay O (Ax (v:=(vN (al.getD i 0))) (i:=0) O O (ar.ok.ne Z) Bx (Ee (l:=al) (j:=i) Z)) (Ay O (Af (c:=false) O O (decide_eq_false Z)) ?_)))))
    refine Bm O (AS.pas (v:=(Value.slice ar.p al.length ar.c)) O (AB O) (BB O) O O (AS.pas (v:=(vN i)) O (AB O) (BB O) O O (AS.pas (v:=(pP (pB ar.p) (pO ar.p+i*1))) O (AB O) (AR (j:=i) O O ar.ok underlying71 sizeOf3 O Z) O O (AS.pas (v:=(vN (al.getD i 0))) O (AB O) (Ax (v:=(vN (al.getD i 0))) (i:=0) O O (ar.ok.ne Z) Bx (Ee (l:=al) (j:=i) Z)) O O (AS.pas (v:=(pP b2 1)) O (AB O) (AA O underlying30 O sizeOf23 O) O O ?_)))))
    refine AS.pas (v:=(Value.slice g.mx.b.p g.ts.length g.mx.b.c)) O (AB O) (AM (i:=2) (v:=(Value.slice g.mx.b.p g.ts.length g.mx.b.c)) O O DV.a O) O O (AS.pas (v:=(vN g.ts.length)) O (AB O) (AG O underlying23) O O (AS.pas (v:=(Value.bool false)) O (AB O) (DW (c:=false) O O (decide_eq_false Z)) O O (Ay (v:=(Value.bool false)) O (AY O O) (Bm O (AS.pas (v:=(vN i)) O (AB O) (BB O) O O ?_)))))
    refine AS.pas (v:=(Value.bool false)) O (AB O) (CW (c:=false) O O (decide_eq_false Z)) O O (AS.pas (v:=(Value.bool false)) O (AB O) (BB O) O O (AS.skp O (AQ O) O O (AS.skp O (AQ O) O O (AS.skp O (AQ O) O O (AS.skp O (AQ O) O O ?_)))))
    refine AS.skp O (AQ O) O O (AS.skp O (AQ O) O O (AS.skp O (AQ O) O O (AS.skp O (AQ O) O O (AS.skp O (AQ O) O O (AS.skp O (AQ O) O O ?_)))))
    refine AS.pas (v:=(Value.bool false)) O (AB O) (AY O O) O O (Ay (v:=(Value.bool false)) O (AY O O) (AS.nil (AC.subF (sL [3,4,6,5,7,8,64] O) (AC.then_ (AF.cond_false O ?_)))))
    refine AF.skip (q1 (rN [(0,true),(1,true),(2,true),(3,true),(4,true),(5,false),(6,true),(7,true),(8,true),(9,true)] [⟨10,9,63,Ah (⟨0,0⟩:Pt)⟩,⟨11,10,63,Ah (⟨0,0⟩:Pt)⟩,⟨12,11,63,Ah (⟨0,0⟩:Pt)⟩] [(13,false),(14,false),(15,false)] sr (by kernel_rfl) (λ_ _ d _ _ h=>by cases d<;>exact h) (EV O O E7 O (EV O O E7 O (EV O O E7 O (Gn)))) O (GZ 2 DG O (JW O (JW O ?_)))))
    refine E1 (v:=(pP (pB ar.p) (pO ar.p+i*1))) O (AR (j:=i) O O ar.ok underlying71 sizeOf3 O Z) O (E1 O (Ax (v:=(vN (al.getD i 0))) (i:=0) O O (ar.ok.ne Z) Bx (Ee (l:=al) (j:=i) Z)) O (B6.imp O λEF EL=>D1 (args:=[(aG (CM g.mx)),(vN (al.getD i 0))]) (v:=(Value.tuple #[(aG (Ah a)),(aG (Ah b)),(aG (Ah d))])) call23 (λw hw=>(by rw [ha,hb,hd];exact GA g.mx (al.getD i 0) hkt (CO hnb hkt) w (Dz hw 3 O lg:Ro _ w g.mx))) O (B6.back0 sr O (JW O ?_))))
    refine E1 O (AX (v:=(aG (Ah a))) O O) O (E1 O (AX (v:=(aG (Ah b))) O O) O (E1 O (AX (v:=(aG (Ah d))) O O) O (B6.news3 λb4 b5 b6=>AS.imp O (Av O sizeOf63 O ?_))))
    refine AS.back (sl (sl (sl sr))) (AS.imp O (Ci O sizeOf63 O (AS.back (sl (sl (sl sr))) (AS.imp O (Lt O sizeOf63 O ?_)))))
    refine AS.back (sl (sl (sl sr))) (AS.nil (AC.subF (sL [3,4,6,5,7,8,11,10,9] O) (q1 (AF.seq (C2 [(0,true),(1,true),(2,true),(3,true),(4,true),(5,true),(6,true),(7,true),(8,false),(9,true)] sr ?_)))))
    refine EH 0 BM O (EH 1 BM O (EH 2 BM O (Ay (v:=(pP b2 0)) O (AA O underlying30 O sizeOf28 O) (Bl 5 (Value.slice g.mx.a.p g.ps.length g.mx.a.c) DE O (Bm O ?_)))))
    refine Ay (v:=(pP (pB g.mx.a.p) (pO g.mx.a.p+p*10))) O (AR (j:=p) O O g.mx.a.ok underlying28 sizeOf63 O Z) (Ay (v:=(aG (Ah (g.ps.getD p (⟨0,0⟩:Pt))))) O (AU (vs:=Ah (g.ps.getD p (⟨0,0⟩:Pt))) (i:=6) O O (BO.ne g.mx.a.ok Z) BM (Ar BD _ _ _ Z) (BD _)) (AS.imp O (BS call24 (Mj a b d (g.ps.getD p ⟨0,0⟩) Z) O (AS.back sr (Ay O (CS (c:=false) O O (decide_eq_false Z)) ?_)))))
    refine AS.nil (AC.subF (sL [3,4,6,5,7,8,11,10,9,84] O) (AC.then_ (AF.cond_false O (AF.skip (AC.then_ ?_)))))
    refine rC [(0,true),(1,true),(2,true),(3,true),(4,false),(5,false)] 6 [] sr (sk (sk (sk (sk (sl sr))))) (by kernel_rfl) (λ_ _ d _ _ h=>by cases d<;>exact h) (vE (v:=(aG (AJ (sB g.ps g.ts al (sA g.ps g.ts p) i)))) O (Ak (i:=4) (vs:=AJ (sB g.ps g.ts al (sA g.ps g.ts p) i)) O O Bg.a Bg.s O O) O (vE (v:=(aG (Ah a))) O (Ak (i:=0) (vs:=Ah a) O O BM.a BM.s O O) O (vE (v:=(aG (Ah b))) O (Ak (i:=1) (vs:=Ah b) O O BM.a BM.s O O) O (vE (v:=(aG (Ah d))) O (Ak (i:=2) (vs:=Ah d) O O BM.a BM.s O O) O (CG.imp O ?_)))))
    have hz3:=Cz a b d
    have hz4:=Dd (Aa a b d) (1/2)
    refine BS call25 (Kp a b d Z) O (CG.back sr (CG.imp O (D1 (args:=[(aG (AJ (sB g.ps g.ts al (sA g.ps g.ts p) i))),(aG (AJ (Aa a b d*(1/2))))]) (v:=(aG (AJ (sB g.ps g.ts al (sA g.ps g.ts p) (i+1))))) call17 (λw hw=>(by have h9:=H9 (sB g.ps g.ts al (sA g.ps g.ts p) i) (Aa a b d*(1/2)) Z w;rw [ha,hb,hd,NZ] at h9;rw [ha,hb,hd];exact h9)) O (CG.back sr (CG.cut O ?_)))))
    refine Fc 4 (off:=0) (vs:=AJ (sB g.ps g.ts al (sA g.ps g.ts p) (i+1))) (cs':=AJ (sB g.ps g.ts al (sA g.ps g.ts p) (i+1))) (AP O) O sizeOf61 O (AS.back (sk (sk (sk (sk (sl sr))))) (AS.nil (AC.subF (sL [3,4,6,5,7,8,11,10,9] O) (AC.in_normal (AC.then_ ?_)))))
    exact AF.region (AO O (AH (AW (c:=((i+1:Nat):Int)) O O (AZ (a:=i) (b:=1) Z)) O (AK O (AE.nil (AC.subF (sL [3,4,6,5,7,8,11,10,9] O) (AC.round1 (i+1) Z Z (sF O) (sl (sl (sl sr)))))))))
  ·replace hc1:=of_decide_eq_false hc1
   have hie:i=al.length:=by omega
   refine AF.exit (AC.then_exit (AC.round1_exit (AC.in_exit (AC.in_normal (AC.then_ ?_)))))
   refine AF.region (AO O (AH (AW (c:=((p+1:Nat):Int)) O O (AZ (a:=p) (b:=1) Z)) O (AK O (AE.nil (AC.subF (sL [3,4,6,5,7,8] O) ?_)))))
   rw [show sB g.ps g.ts al (sA g.ps g.ts p) i=sA g.ps g.ts (p+1) from by rw [hie,hal];exact UE p,show nA g.ts p+al.length=nA g.ts (p+1) from by rw [hal];rfl]
   exact AC.round1 (p+1) Z Z (sF O) (sl sr)
 ·replace hc0:=of_decide_eq_false hc0
  have hpe:p=g.ps.length:=by omega
  have hnn:nA g.ts p=3*g.ts.length:=by rw [hpe];exact SN hnb
  have hsz:=Qr (ts:=g.ts) hz p
  refine AF.exit (AC.then_exit (AC.round1_exit (AC.in_exit (q1 (C2 [(0,true),(1,true),(2,true),(3,true),(4,true),(5,true),(6,true),(7,true),(9,true),(8,false),(10,false),(11,false),(12,true),(13,true),(14,true),(15,true),(16,false),(17,true),(18,true),(19,true),(20,true),(21,true),(22,true),(23,true),(24,true),(25,false),(26,true),(27,true),(28,true),(29,true),(30,false),(31,true),(32,true)] sr ?_)))))
  refine Bm O (Ay (v:=(pP b2 1)) O (AA O underlying30 O sizeOf23 O) (Bl 1 (Value.slice g.mx.b.p g.ts.length g.mx.b.c) DV O (Ay (v:=(vN g.ts.length)) O (AG O underlying23) (Ay O (Bk (c:=((3*g.ts.length:Nat):Int)) O O (Cc (a:=3) (b:=g.ts.length) Z)) (Ay O (BQ (c:=true) O O (decide_eq_true Z)) ?_)))))
  refine Bm O (AS.pas (v:=(aG (AJ (sA g.ps g.ts p)))) O (AB O) (Ak (i:=0) (vs:=AJ (sA g.ps g.ts p)) O O Bg.a Bg.s O O) O O (AS.pas (v:=(aG (CM g.mx))) O (AB O) (Ak (i:=1) (vs:=CM g.mx) O O DG.a DG.s O O) O O (AS.imp O (AE.call (v:=(aG (AJ ((3:Int):Rat)))) (AB O) (Ao (args:=[(vI 3)]) O O call27) (λw hw=>G3 (3:Int) Z Z w) O (Ad O) (AS.back sr ?_)))))
  refine AS.imp O ?_
  have hsa:=K1 (ps:=g.ps) hz g.ts g.ts.length
  have hs3:=Io (z:=3) (by decide) (by decide)
  refine AE.call (v:=(aG (AJ (D7 g.ps g.ts g.ts.length)))) (AB O) (Ao (args:=[(aG (CM g.mx))]) O O call19) (λw hw=>Lr g.mx Z hz hnb w (Dz hw 2 O lg:Ro _ w g.mx)) O (Ad O) (AS.back sr (AS.imp O ?_))
  have hz5:=Dd ((3:Int):Rat) (D7 g.ps g.ts g.ts.length)
  refine AE.call (v:=(aG (AJ (((3:Int):Rat)*(D7 g.ps g.ts g.ts.length))))) (AB O) (Ao (args:=[(aG (AJ ((3:Int):Rat))),(aG (AJ (D7 g.ps g.ts g.ts.length)))]) O O call26) (λw hw=>Gl ((3:Int):Rat) (D7 g.ps g.ts g.ts.length) (by (try simp only [Ek]);omega) w) O (Ad O) (AS.back sr (AS.pas (v:=(Value.bool true)) O (AB O) (Bq (c:=true) O O eqGuardType61 (M6 9995 (by rw [hpe,RF hnb];first|rfl|simp))) O O (Ay (v:=(Value.bool true)) O (Ai O O) (Bm O (AS.pas (v:=(aG (CM g.mx))) O (AB O) (Ak (i:=1) (vs:=CM g.mx) O O DG.a DG.s O O) O O ?_)))))
  refine AS.imp O (AE.unguard (AB O) (AE.callR (S:=S) (α:=RX (inL ([]:List Nat)) 0) (args:=[(aG (CM g.mx)),(vI (-1:Int))]) call22 (λw hw=>(by have h9:=HA g.mx ((-1:Int)) Z Z hnb w (Dz hw 2 O lg:Ro _ w g.mx);rw [Nc hnb Z] at h9;exact h9)) O O O λax lax=>AS.back (sl sr) (AS.pas (v:=(vI 0)) O (AB O) (AG O underlying71) O O (AS.pas (v:=(Value.bool true)) O (AB O) (BQ (c:=true) O O (by decide)) O O ?_))))
  refine Ay (v:=(Value.bool true)) O (Ai O O) (Bm O (AS.pas (v:=(aG (CM g.mx))) O (AB O) (Ak (i:=1) (vs:=CM g.mx) O O DG.a DG.s O O) O O (AS.pas (v:=(pP b2 0)) O (AB O) (AA O underlying30 O sizeOf28 O) O O (AS.pas (v:=(Value.slice g.mx.a.p g.ps.length g.mx.a.c)) O (AB O) (AM (i:=1) (v:=(Value.slice g.mx.a.p g.ps.length g.mx.a.c)) O O DE.a O) O O (AS.pas (v:=(vN g.ps.length)) O (AB O) (AG O underlying28) O O ?_)))))
  refine AS.imp O (AE.unguard (AB O) (AE.callR (S:=S) (α:=RX (inL ([]:List Nat)) 0) (args:=[(aG (CM g.mx)),(vN g.ps.length)]) call22 (λw hw=>(by have h9:=HA g.mx (((g.ps.length:Nat):Int)) Z Z hnb w (Dz hw 3 O lg:Ro _ w g.mx);rw [Nc hnb Z] at h9;exact h9)) O O O λay GY=>AS.back (sl (sl sr)) (AS.pas (v:=(vI 0)) O (AB O) (AG O underlying71) O O (AS.pas (v:=(Value.bool true)) O (AB O) (BQ (c:=true) O O (by decide)) O O ?_))))
  refine Ay (v:=(Value.bool true)) O (Ai O O) (Bm O (AS.imp O (AE.call (v:=(Value.bool true)) (AB O) (Ao (args:=[]) O O call21) (λw hw=>Ms w) O (Ad O) (AS.back (sl (sl sr)) (Ay (v:=(Value.bool true)) O (Ai O O) ?_)))))
  exact EW O (AS.nil (AC.subF (sL [3,4,6,5,2] O) (AC.then_ (AF.ret (AN O (Ab (v:=(Value.bool true)) O) (λw hw=>⟨rfl,hw.out⟩))))))
end
section
open Go Go.RowKit Go.ChangeShapes Go.WideShapes Go.ChangeAt
theorem Sd:laidOutB Tryz.prog=true:=by kernel_rfl
theorem Qy:ownKnob Tryz.prog.godebug=none:=by kernel_rfl
theorem F8 {H:Type} {enc:TypeId×Value->H} {P:Program} (hl:laidOutB P=true) {W W':World} {sp:Nat->Bool} (hb:EU W.heap.size W W') :
    ∀{ts:List TypeId} {vs:List Value} {ds:List (DataW H)} {ps:List MemPlace},(∀t∈ts,P.readableRec t=true/\t<P.types.size)->DataW.TrodAll enc P W 0 (λ_=>true) true ts vs ds ps ->
      (∀p∈ps,p.block<W.heap.size)->(∀p∈ps,sp p.block=true)->DataW.TrodAll enc P W' 0 sp true ts vs ds ps
  | [],_,_,_,_,h,_,_=>by
    obtain ⟨rfl,rfl,rfl⟩:=trodAll_nil h
    exact trodAll_mk0
  | t::ts,_,_,_,hr,h,hlt,hs=>by
    obtain ⟨v,vs1,d,ds1,a,b,rfl,rfl,rfl,h1,h2⟩:=trodAll_cons h
    exact ⟨a,b,WideElems.Trod_stays hl (hr t (by simp)).1 (hr t (by simp)).2 h1 (λx hx=>hb.same (hlt x (by simp [hx]))) (λx hx=>hs x (by simp [hx])),
      F8 hl hb (λu hu=>hr u (by simp [hu])) h2 (λp hp=>hlt p (by simp [hp])) (λp hp=>hs p (by simp [hp])),rfl⟩
theorem Pz {H:Type} {enc:TypeId×Value->H} {P:Program} {f:Func} {s:ChangeSpec} {apart fresh handsOn again:Bool} {W W':World} {args:Array Value} {ds:List (DataW H)} {B7:List MemPlace} {tb:TypeId}
    (hW:DataW.Whole enc P f.params.toList s.vars apart W args.toList ds [] B7) (hv:s.vars=[]) (hfn:s.fn H ds=({ results:=[.lit (.bool true)],args:=ds }:Left H))
    (hrt:f.resultTypes=#[tb]) (hu:P.underlying tb=some .bool) (hb:EU W.heap.size W W') (hl:laidOutB P=true) (hr:∀t∈f.params.toList,P.readableRec t=true/\t<P.types.size) :
    s.post enc P f apart fresh handsOn again W args (.bool true) W':=by
  have hlt:∀p∈B7,p.block<W.heap.size:=λp hp=>hW.lt p hp
  have hW2:=hW
  obtain ⟨pa,q,hA,hV,he,hz,hn⟩:=hW2
  rw [hv] at hV
  obtain ⟨_,rfl⟩:=trodVars_none hV
  simp only [List.append_nil] at he
  subst he
  have hres:∀(b:Nat) (sp:Nat->Bool) (hd:Bool),DataW.TrodAll enc P W' b sp hd f.resultTypes.toList ((Value.bool true).resultList f.resultTypes.size) (s.fn H (ds++[])).results []:=λb sp hd=>by
    rw [hrt,List.append_nil,hfn]
    exact trodAll_mk1 (shut_bool hu _)
  have hargs:∀sp:Nat->Bool,(∀p∈B7,sp p.block=true)->DataW.TrodAll enc P W' 0 sp true f.params.toList args.toList (s.fn H (ds++[])).args B7:=λsp hs=>by
    rw [List.append_nil,hfn]
    exact F8 hl hb hr hA hlt hs
  have hvars:∀sp:Nat->Bool,DataW.TrodVars enc P W' sp s.vars (s.fn H (ds++[])).vars []:=λsp=>by
    rw [List.append_nil,hfn,hv];rfl
  have hold:∀p∈B7,(λb=>decide (b<W.heap.size)) p.block=true:=λp hp=>by simpa using hlt p hp
  refine ⟨ds,[],B7,[],B7,[],hW,hres _ _ _,hargs _ hold,hvars _,World.keptBut_mono (λp hp=>⟨hp,Or.inr (by simpa using hp)⟩) (hb.frame (·∈B7)),λ_=>⟨?_,_,_,([]++B7)++[],⟨[]++B7,[],trodAll_append (hargs _ (λ_ _=>rfl)) (hres _ _ _),hvars _,rfl,?_,?_⟩,?_⟩⟩
  · exact ok_one hrt O (okWide_bool_mk hu _)
  · intro b off hp
    have hp':MemPlace.cell b off∈B7:=by simpa using hp
    rw [hb.frozen (hlt _ hp')]
    exact hz b off hp'
  · intro ha
    have:=hn ha
    simpa using this
  · intro p hp _
    simpa using hp
end
end Go.Proofs.YtfbomiejpbchdaaGreatDoor
