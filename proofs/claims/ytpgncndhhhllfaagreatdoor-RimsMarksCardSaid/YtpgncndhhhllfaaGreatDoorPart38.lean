import Derived.Test.YtpgncndhhhllfaaGreatDoorPart06
import Derived.Test.YtpgncndhhhllfaaGreatDoorPart07
import Derived.Test.YtpgncndhhhllfaaGreatDoorPart32
import Derived.Test.YtpgncndhhhllfaaGreatDoorPart37
namespace Go.Proofs.YtpgncndhhhllfaaGreatDoor
open Go Go.RowKit Go.Proofs.Tryz
set_option linter.unusedVariables false
set_option linter.unusedSimpArgs false
section
set_option maxRecDepth 100000
theorem Ev:Hm Tryz.prog 190 Dw Kp:=Ph PT (by decide +kernel) (by kernel_rfl) (by kernel_rfl) Tryz.underlying190 Tryz.underlying3 (by kernel_rfl) (by kernel_rfl) (by kernel_rfl)
theorem Du (x0 x1:Nat):Instr.fill (λi=>some (i*1,1)) (BY ((0,0):P2)).toArray [(0,vN x0),(1,vN x1)]=some (BY (x0,x1)).toArray:=by kernel_rfl
set_option maxHeartbeats 1000000 in
theorem M7 {ps:List Pt} {ts ss:List T3} (x:MX ps ts ss) (hp:ps.length<=1000000) (htl:ts.length<=1000000) (w:World) {S:Nat->Prop} (hx:Ro S w x):Calls Tryz.prog 112 #[(aG (CC x))] w (Av (SX ts (By ps.length ts&&Cl ts (3*ts.length))) S w):=by
 have lx:=DF (W:=w) hx
 refine Ah (args:=[(aG (CC x))]) (L:=[AI x.a.p (rowsL BE ps),AI x.b.p (rowsL Aq ts),AI x.c.p (rowsL Aq ss)]) Tryz.func112 rfl rfl (AY rfl) (EV hx Ar) (AF.subF (sL [0] rfl) (q4 (B9 (cs:=CC x) rfl λb1=>asg' rfl (asg' rfl ?_))))
 refine q3 (sL [1,2,3] rfl) (AD.makeMap Dw vN (AO rfl) rfl λb2=>asg' rfl (q6 (sL [1,2,3,4] rfl) (q4 (BF 1 B1 rfl ?_))))
 refine DC Tryz.call76 (λw hw=>IY x (by omega) w (inS hw 2 rfl lx)) rfl (AH (Bw (c:=(!(By ps.length ts))) rfl rfl) rfl (AD.nil (AC.subF (sL [1,2,3,4,14] rfl) (AC.then_ ?_))))
 refine AF.cond rfl (λhc0=>?_) (λhc0=>?_)
 ·simp only [Bool.and_eq_true,Bool.or_eq_true,Bool.and_eq_false_iff,Bool.or_eq_false_iff,Bool.not_eq_true',Bool.not_eq_false',decide_eq_true_eq,decide_eq_false_iff_not] at hc0
  refine q4 (AJ rfl (asg' rfl (asg' rfl (AD.nil (AC.subF (sL [1,2,3,4] rfl) ?_)))))
  exact AC.then_ (AF.ret (AC.then_ret (Br rfl (AQ (v:=(Value.map (some b2))) rfl) (AQ (v:=(Value.bool false)) rfl) (λw hw=>(by rw [show (By ps.length ts&&Cl ts (3*ts.length))=false from by rw [hc0];rfl];exact NH hw 0 rfl ⟨λp hp=>(by cases hp),List.Pairwise.nil⟩ (λh=>by cases h) rfl)))))
 ·simp only [Bool.and_eq_true,Bool.or_eq_true,Bool.and_eq_false_iff,Bool.or_eq_false_iff,Bool.not_eq_true',Bool.not_eq_false',decide_eq_true_eq,decide_eq_false_iff_not] at hc0
  refine AF.skip (q1 (q4 (AH (v:=(pP b1 1)) (AA rfl Tryz.underlying30 rfl Tryz.sizeOf23 rfl) rfl (BD 1 (Value.slice x.b.p ts.length x.b.c) EU rfl (AH (v:=(vN ts.length)) (AE rfl Tryz.underlying23) rfl ?_)))))
  refine AJ rfl (AD.nil (AC.subF (sL [1,2,3,4,17,18,19] rfl) (AC.then_ (AF.block ?_))))
  refine AF.lp1 (tg λ(t:Nat)=>t<=ts.length/\Cl ts (3*t+0)=true) (tg λ(t:Nat)=>[(4,(Value.map (some b2))),(17,(Value.slice x.b.p ts.length x.b.c)),(18,(vN ts.length)),(19,(vN t))]) (tg λ(t:Nat)=>[Bd b2 Dw vN (CL ts (3*t+0)),Ab b1 30 (CC x),AI x.a.p (rowsL BE ps),AI x.b.p (rowsL Aq ts),AI x.c.p (rowsL Aq ss)]) (tg λ(t:Nat)=>ts.length-t) 0 (⟨Nat.zero_le _,rfl⟩) (sF rfl) sr (λt hJ=>?_)
  obtain ⟨ht,hor0⟩:=hJ
  refine q4 (AH (Ad (c:=(decide (t<ts.length))) rfl rfl (CB (a:=t) (b:=ts.length))) rfl (AD.nil (q1 ?_)))
  refine AF.cond rfl (λhc1=>?_) (λhc1=>?_)
  ·replace hc1:=of_decide_eq_true hc1
   obtain ⟨T,hT⟩:∃q,q=ts.getD t (0,0,0):=⟨_,rfl⟩
   obtain ⟨g1,g2,g3⟩:=DP (DK hc0 hc1)
   rw [<-hT] at g1 g2 g3
   refine AF.skip (q1 (AF.block (q4 (AJ rfl (AH (v:=(pP (pB x.b.p) (pO x.b.p+t*3))) (AL (j:=t) rfl rfl x.b.ok Tryz.underlying23 Tryz.sizeOf53 rfl (by omega)) rfl ?_)))))
   refine AH (v:=(aG (Aq (ts.getD t ((0,0,0):Nat×Nat×Nat))))) (Ae (vs:=Aq (ts.getD t ((0,0,0):Nat×Nat×Nat))) (i:=3) rfl rfl (A6.ne x.b.ok (by omega)) GL (Ax BR _ _ _ (by omega)) (BR _)) rfl (AD.retell (k:=23) (u:=(aG (Aq T))) rfl (by rw [hT]) (al R_ rfl λb3=>asg' rfl (BC rfl Tryz.sizeOf53 rfl (q3 (sL [4,17,18,19,6,5] rfl) ?_))))
   refine AJ rfl (AD.nil (AC.then_ (AF.block (AF.unroll 4 (Gd.step ?_)))))
   refine q4 (AH (Ad (c:=true) rfl rfl (by decide)) rfl (AD.nil (q1 (AF.cond_true rfl (AF.skip ?_)))))
   refine q1 (AF.block (q4 (AJ rfl (asg' rfl (q6 (sL [4,17,18,19,6,5,24,7] rfl) ?_)))))
   refine Cw [(0,true),(1,true),(2,true),(3,true),(4,true),(5,true),(6,true),(7,true),(8,true),(9,false),(10,false)] sr (BS rfl (Aw (v:=(pP b3 0)) rfl (AX (j:=0) rfl rfl Tryz.underlying53 Tryz.sizeOf3 rfl (by decide) rfl) (Bm 0 (vN T.1) Be rfl (BS rfl (Aw rfl (AW (c:=(1:Int)) rfl rfl (by decide)) ?_)))))
   refine Aw rfl (Cg (c:=(1:Int)) rfl rfl (by decide) (by decide)) (Aw (v:=(pP b3 1)) rfl (AX (j:=1) rfl rfl Tryz.underlying53 Tryz.sizeOf3 rfl (by decide) rfl) (Bm 0 (vN T.2.1) Be rfl (Aw (v:=(aG (BY (T.1,T.2.1)))) rfl (BN (zs:=BY ((0,0):P2)) (vs:=BY (T.1,T.2.1)) (pv:=[(0,(vN T.1)),(1,(vN T.2.1))]) Tryz.zeroValue190 Tryz.underlying190 Tryz.sizeOf3 rfl (Du T.1 T.2.1)) (OkE.imp rfl (al H4 rfl λb4=>?_)))))
   refine OkE.back (sl sr) (OkE.imp rfl (BC rfl Tryz.sizeOf190 rfl (OkE.back (sl sr) (OkE.nil (AC.subF (sL [4,17,18,19,6,5,24,8] rfl) ?_)))))
   refine q1 (q4 (AJ rfl (BF 0 EH rfl (AH (v:=(Value.tuple #[(vN ((Ac (CL ts (3*t+0)) (T.1,T.2.1)).getD 0)),(Value.bool ((Ac (CL ts (3*t+0)) (T.1,T.2.1)).isSome))])) (BZ Ev 2 (eV:=vN) (kvs:=CL ts (3*t+0)) (x:=(T.1,T.2.1)) (z0:=0) (co:=true) rfl rfl Tryz.underlying186 Tryz.zeroValue3 rfl (DY hc0 (by omega) _ (by omega)) (Fo (by omega) (by omega))) rfl (AJ rfl ?_)))))
   refine AH (AS (v:=(vN ((Ac (CL ts (3*t+0)) (T.1,T.2.1)).getD 0))) rfl rfl) rfl (AH (AS (v:=(Value.bool ((Ac (CL ts (3*t+0)) (T.1,T.2.1)).isSome))) rfl rfl) rfl (asg' rfl (asg' rfl (q3 (sL [4,17,18,19,6,5,24,8,10] rfl) (AJ rfl ?_)))))
   refine AD.nil (AC.subF (sL [4,17,18,19,6,5,24,8,42] rfl) (AC.then_ ?_))
   refine AF.cond rfl (λhc3=>?_) (λhc3=>?_)
   ·skip
    have hsy0:=hc3
    refine q4 (AJ rfl (asg' rfl (asg' rfl (AD.nil (AC.subF (sL [4,17,18,19,6,5,24,8,2,3] rfl) ?_)))))
    refine AC.then_ (AF.ret (AC.then_ret (AC.in_ret (AC.then_ret (AC.then_ret ?_)))))
    exact AC.in_ret (AC.in_ret (AC.then_ret (AC.round1_ret (AC.in_ret (AC.then_ret (Br rfl (AQ (v:=(Value.map (some b2))) rfl) (AQ (v:=(Value.bool false)) rfl) (λw hw=>(by rw [show (By ps.length ts&&Cl ts (3*ts.length))=false from by rw [hc0];exact K0 (r:=0) (by omega) hc1 (by rw [<-hT];exact hsy0)];exact NH hw 2 rfl (DY hc0 (by omega) _ (by omega)) (λh=>by cases h) rfl))))))))
   ·skip
    have hsn0:=hc3
    refine AF.skip (AC.then_ (AF.region (AJ rfl (BF 0 EH rfl (AJ rfl ?_)))))
    refine AD.mapUpdate Ev 2 (kvs:=CL ts (3*t+0)) (x:=(T.1,T.2.1)) (y:=t) (AO rfl) rfl rfl rfl Tryz.underlying186 rfl (DY hc0 (by omega) _ (by omega)) (Fo (by omega) (by omega)) ?_
    have hor1:Cl ts (3*t+0+1)=true:=Hv (by omega) hor0 (by rw [<-hT];exact hsn0)
    rw [show Az (CL ts (3*t+0)) (T.1,T.2.1) t=CL ts (3*t+1) from by rw [hT];exact HS (by omega)]
    refine AD.nil (AC.subF (sL [4,17,18,19,6,5,24,8] rfl) (AC.in_normal (AC.then_ (AF.region (AH (AW (c:=(1:Int)) rfl rfl (by decide)) rfl ?_)))))
    refine AJ rfl (AD.nil (AC.subF (sL [4,17,18,19,6,5,24,8] rfl) (AC.again (Gd.step (q4 ?_)))))
    refine AH (Ad (c:=true) rfl rfl (by decide)) rfl (AD.nil (q1 (AF.cond_true rfl (AF.skip (q1 ?_)))))
    refine AF.block (q4 (AJ rfl (asg' rfl (q6 (sL [4,17,18,19,6,5,24,8,7] rfl) (Cw [(0,true),(1,true),(2,true),(3,true),(4,true),(5,true),(6,true),(7,true),(8,true),(9,false),(10,false)] sr ?_)))))
    refine BS rfl (Aw (v:=(pP b3 1)) rfl (AX (j:=1) rfl rfl Tryz.underlying53 Tryz.sizeOf3 rfl (by decide) rfl) (Bm 1 (vN T.2.1) Be rfl (BS rfl (Aw rfl (AW (c:=(2:Int)) rfl rfl (by decide)) (Aw rfl (Cg (c:=(2:Int)) rfl rfl (by decide) (by decide)) ?_)))))
    refine Aw (v:=(pP b3 2)) rfl (AX (j:=2) rfl rfl Tryz.underlying53 Tryz.sizeOf3 rfl (by decide) rfl) (Bm 1 (vN T.2.2) Be rfl (Aw (v:=(aG (BY (T.2.1,T.2.2)))) rfl (BN (zs:=BY ((0,0):P2)) (vs:=BY (T.2.1,T.2.2)) (pv:=[(0,(vN T.2.1)),(1,(vN T.2.2))]) Tryz.zeroValue190 Tryz.underlying190 Tryz.sizeOf3 rfl (Du T.2.1 T.2.2)) (OkE.imp rfl (al H4 rfl λb5=>OkE.back (sl sr) ?_))))
    refine OkE.imp rfl (BC rfl Tryz.sizeOf190 rfl (OkE.back (sl sr) (OkE.nil (AC.subF (sL [4,17,18,19,6,5,24,8] rfl) (q1 ?_)))))
    refine q4 (AJ rfl (BF 0 EH rfl (AH (v:=(Value.tuple #[(vN ((Ac (CL ts (3*t+1)) (T.2.1,T.2.2)).getD 0)),(Value.bool ((Ac (CL ts (3*t+1)) (T.2.1,T.2.2)).isSome))])) (BZ Ev 3 (eV:=vN) (kvs:=CL ts (3*t+1)) (x:=(T.2.1,T.2.2)) (z0:=0) (co:=true) rfl rfl Tryz.underlying186 Tryz.zeroValue3 rfl (DY hc0 (by omega) _ (by omega)) (Fo (by omega) (by omega))) rfl (AJ rfl (AH (AS (v:=(vN ((Ac (CL ts (3*t+1)) (T.2.1,T.2.2)).getD 0))) rfl rfl) rfl ?_)))))
    refine AH (AS (v:=(Value.bool ((Ac (CL ts (3*t+1)) (T.2.1,T.2.2)).isSome))) rfl rfl) rfl (asg' rfl (asg' rfl (q3 (sL [4,17,18,19,6,5,24,8,10] rfl) (AJ rfl (AD.nil ?_)))))
    refine AC.subF (sL [4,17,18,19,6,5,24,8,42] rfl) (AC.then_ ?_)
    refine AF.cond rfl (λhc3=>?_) (λhc3=>?_)
    ·skip
     have hsy1:=hc3
     refine q4 (AJ rfl (asg' rfl (asg' rfl (AD.nil (AC.subF (sL [4,17,18,19,6,5,24,8,2,3] rfl) ?_)))))
     refine AC.then_ (AF.ret (AC.then_ret (AC.in_ret (AC.then_ret (AC.then_ret ?_)))))
     exact AC.in_ret (AC.in_ret (AC.then_ret (AC.round1_ret (AC.in_ret (AC.then_ret (Br rfl (AQ (v:=(Value.map (some b2))) rfl) (AQ (v:=(Value.bool false)) rfl) (λw hw=>(by rw [show (By ps.length ts&&Cl ts (3*ts.length))=false from by rw [hc0];exact K0 (r:=1) (by omega) hc1 (by rw [<-hT];exact hsy1)];exact NH hw 3 rfl (DY hc0 (by omega) _ (by omega)) (λh=>by cases h) rfl))))))))
    ·skip
     have hsn1:=hc3
     refine AF.skip (AC.then_ (AF.region (AJ rfl (BF 0 EH rfl (AJ rfl ?_)))))
     refine AD.mapUpdate Ev 3 (kvs:=CL ts (3*t+1)) (x:=(T.2.1,T.2.2)) (y:=t) (AO rfl) rfl rfl rfl Tryz.underlying186 rfl (DY hc0 (by omega) _ (by omega)) (Fo (by omega) (by omega)) ?_
     have hor2:Cl ts (3*t+1+1)=true:=Hv (by omega) hor1 (by rw [<-hT];exact hsn1)
     rw [show Az (CL ts (3*t+1)) (T.2.1,T.2.2) t=CL ts (3*t+2) from by rw [hT];exact HS (by omega)]
     refine AD.nil (AC.subF (sL [4,17,18,19,6,5,24,8] rfl) (AC.in_normal (AC.then_ (AF.region (AH (AW (c:=(2:Int)) rfl rfl (by decide)) rfl ?_)))))
     refine AJ rfl (AD.nil (AC.subF (sL [4,17,18,19,6,5,24,8] rfl) (AC.again (Gd.step (q4 ?_)))))
     refine AH (Ad (c:=true) rfl rfl (by decide)) rfl (AD.nil (q1 (AF.cond_true rfl (AF.skip (q1 ?_)))))
     refine AF.block (q4 (AJ rfl (asg' rfl (q6 (sL [4,17,18,19,6,5,24,8,7] rfl) (Cw [(0,true),(1,true),(2,true),(3,true),(4,true),(5,true),(6,true),(7,true),(8,true),(9,false),(10,false)] sr ?_)))))
     refine BS rfl (Aw (v:=(pP b3 2)) rfl (AX (j:=2) rfl rfl Tryz.underlying53 Tryz.sizeOf3 rfl (by decide) rfl) (Bm 2 (vN T.2.2) Be rfl (BS rfl (Aw rfl (AW (c:=(3:Int)) rfl rfl (by decide)) (Aw rfl (Cg (c:=(0:Int)) rfl rfl (by decide) (by decide)) ?_)))))
     refine Aw (v:=(pP b3 0)) rfl (AX (j:=0) rfl rfl Tryz.underlying53 Tryz.sizeOf3 rfl (by decide) rfl) (Bm 2 (vN T.1) Be rfl (Aw (v:=(aG (BY (T.2.2,T.1)))) rfl (BN (zs:=BY ((0,0):P2)) (vs:=BY (T.2.2,T.1)) (pv:=[(0,(vN T.2.2)),(1,(vN T.1))]) Tryz.zeroValue190 Tryz.underlying190 Tryz.sizeOf3 rfl (Du T.2.2 T.1)) (OkE.imp rfl (al H4 rfl λb6=>OkE.back (sl sr) ?_))))
     refine OkE.imp rfl (BC rfl Tryz.sizeOf190 rfl (OkE.back (sl sr) (OkE.nil (AC.subF (sL [4,17,18,19,6,5,24,8] rfl) (q1 ?_)))))
     refine q4 (AJ rfl (BF 0 EH rfl (AH (v:=(Value.tuple #[(vN ((Ac (CL ts (3*t+2)) (T.2.2,T.1)).getD 0)),(Value.bool ((Ac (CL ts (3*t+2)) (T.2.2,T.1)).isSome))])) (BZ Ev 4 (eV:=vN) (kvs:=CL ts (3*t+2)) (x:=(T.2.2,T.1)) (z0:=0) (co:=true) rfl rfl Tryz.underlying186 Tryz.zeroValue3 rfl (DY hc0 (by omega) _ (by omega)) (Fo (by omega) (by omega))) rfl (AJ rfl (AH (AS (v:=(vN ((Ac (CL ts (3*t+2)) (T.2.2,T.1)).getD 0))) rfl rfl) rfl ?_)))))
     refine AH (AS (v:=(Value.bool ((Ac (CL ts (3*t+2)) (T.2.2,T.1)).isSome))) rfl rfl) rfl (asg' rfl (asg' rfl (q3 (sL [4,17,18,19,6,5,24,8,10] rfl) (AJ rfl (AD.nil ?_)))))
     refine AC.subF (sL [4,17,18,19,6,5,24,8,42] rfl) (AC.then_ ?_)
     refine AF.cond rfl (λhc3=>?_) (λhc3=>?_)
     ·skip
      have hsy2:=hc3
      refine q4 (AJ rfl (asg' rfl (asg' rfl (AD.nil (AC.subF (sL [4,17,18,19,6,5,24,8,2,3] rfl) ?_)))))
      refine AC.then_ (AF.ret (AC.then_ret (AC.in_ret (AC.then_ret (AC.then_ret ?_)))))
      exact AC.in_ret (AC.in_ret (AC.then_ret (AC.round1_ret (AC.in_ret (AC.then_ret (Br rfl (AQ (v:=(Value.map (some b2))) rfl) (AQ (v:=(Value.bool false)) rfl) (λw hw=>(by rw [show (By ps.length ts&&Cl ts (3*ts.length))=false from by rw [hc0];exact K0 (r:=2) (by omega) hc1 (by rw [<-hT];exact hsy2)];exact NH hw 4 rfl (DY hc0 (by omega) _ (by omega)) (λh=>by cases h) rfl))))))))
     ·skip
      have hsn2:=hc3
      refine AF.skip (AC.then_ (AF.region (AJ rfl (BF 0 EH rfl (AJ rfl ?_)))))
      refine AD.mapUpdate Ev 4 (kvs:=CL ts (3*t+2)) (x:=(T.2.2,T.1)) (y:=t) (AO rfl) rfl rfl rfl Tryz.underlying186 rfl (DY hc0 (by omega) _ (by omega)) (Fo (by omega) (by omega)) ?_
      have hor3:Cl ts (3*t+2+1)=true:=Hv (by omega) hor2 (by rw [<-hT];exact hsn2)
      rw [show Az (CL ts (3*t+2)) (T.2.2,T.1) t=CL ts (3*t+3) from by rw [hT];exact HS (by omega)]
      refine AD.nil (AC.subF (sL [4,17,18,19,6,5,24,8] rfl) (AC.in_normal (AC.then_ (AF.region (AH (AW (c:=(3:Int)) rfl rfl (by decide)) rfl ?_)))))
      refine AJ rfl (AD.nil (AC.subF (sL [4,17,18,19,6,5,24,8] rfl) (AC.again (Gd.step (q4 ?_)))))
      refine AH (Ad (c:=false) rfl rfl (by decide)) rfl (AD.nil (q1 (AF.cond_false rfl (AF.exit (AC.then_exit ?_)))))
      refine AC.then_exit (AC.in_exit (AC.in_normal (AC.then_ (AF.region (AH (AW (c:=((t+1:Nat):Int)) rfl rfl (AR (a:=t) (b:=1) (by omega))) rfl ?_)))))
      refine AJ rfl (AD.nil (AC.subF (sL [4,17,18,19,6,5,24,8] rfl) ?_))
      rw [show 3*t+3=3*(t+1)+0 by omega]
      exact AC.round1 (t+1) (⟨by omega,hor3⟩) (by omega) (sF rfl) (sl (sl (sl (sl sr))))
  ·replace hc1:=of_decide_eq_false hc1
   refine AF.exit (AC.then_exit (AC.round1_exit (AC.in_exit (q2 (AJ rfl ?_)))))
   exact asg' rfl (asg' rfl (AD.nil (AC.subF (sL [4,17,18,19,2,3] rfl) (AC.then_ (AF.ret (Br rfl (AQ (v:=(Value.map (some b2))) rfl) (AQ (v:=(Value.bool true)) rfl) (λw hw=>(by rw [show (By ps.length ts&&Cl ts (3*ts.length))=true from by rw [hc0];rw [show t=ts.length by omega] at hor0;exact hor0];exact NH hw 0 rfl (DY hc0 (by omega) _ (by omega)) (λ_=>by rw [show t=ts.length by omega];rfl) rfl))))))))
end
section
set_option maxRecDepth 100000
theorem Vi:ElemT Tryz.prog 125 132 3 24:=⟨Tryz.underlying125,C3 (by kernel_rfl)⟩
theorem Ts (p:Option Addr) (n cp:Nat) (h:n<=cp) (w:World)  :Calls Tryz.prog 174 #[(Value.slice p n cp)] w (An w (Value.slice p n n)):=by
 refine Ag (args:=[(Value.slice p n cp)]) Tryz.func174 rfl rfl (AY rfl) (AF.subF (sL [0] rfl) (q4 (asg' rfl (AD.nil (q2 ?_)))))
 refine AJ rfl (AJ rfl (AH (v:=(vN n)) (AE rfl Tryz.underlying125) rfl (AJ rfl (AH (v:=(vN n)) (AE rfl Tryz.underlying125) rfl (AH (v:=(Value.slice p n n)) (CK (m:=n) rfl rfl rfl Tryz.underlying125 Tryz.sizeOf132 (by omega)) rfl ?_)))))
 exact asg' rfl (AD.nil (AC.subF (sL [2] rfl) (AC.then_ (AF.ret (AN rfl (AQ (v:=(Value.slice p n n)) rfl) (λw hw=>⟨rfl,hw.out⟩))))))
theorem Fe (x0 x1:Nat):Instr.fill (λi=>some (i*1,1)) (BY ((0,0):P2)).toArray [(0,vN x0),(1,vN x1)]=some (BY (x0,x1)).toArray:=by kernel_rfl
theorem Ff (x0:Nat×Nat×Nat):Instr.fill (λi=>some (i*3,3)) ((Array.range (1*3)).map ((Value.agg (Aq ((0,0,0):Nat×Nat×Nat)).toArray).cells[·%(Value.agg (Aq ((0,0,0):Nat×Nat×Nat)).toArray).cells.size]!)) [(0,.agg (Aq x0).toArray)]=some (Aq x0).toArray:=by kernel_rfl
set_option maxHeartbeats 1000000 in
theorem PM {ps:List Pt} {ts ss:List T3} (x:MX ps ts ss) (sx:SX ts true) (hnb:By ps.length ts=true) (hp:ps.length<=1000000) (htl:ts.length<=1000000) (w:World) {S:Nat->Prop} (hx:Ro S w x) (hsx:Ro S w sx):Calls Tryz.prog 113 #[(aG (CC x)),(Value.map (some sx.b))] w (Av (RX (rowsL Aq (B3 ts)) (B3 ts).length) S w):=by
 have hrl:=O0 (ts:=ts)
 have lx:=DF (W:=w) hx
 have lsx:=DF (W:=w) hsx
 refine Ah (args:=[(aG (CC x)),(Value.map (some sx.b))]) (L:=[AI x.a.p (rowsL BE ps),AI x.b.p (rowsL Aq ts),AI x.c.p (rowsL Aq ss),G1 sx.b Dw vN sx.kvs]) Tryz.func113 rfl rfl (AY rfl) (EV hx (EV hsx Ar)) (AF.subF (sL [0,1] rfl) (q4 (B9 (cs:=CC x) rfl λb1=>asg' rfl (q3 (sL [1,2,4] rfl) ?_))))
 refine asg' rfl (AD.nilRow 132 3 (AD.nil (q1 (q4 (AH (v:=(pP b1 0)) (AA rfl Tryz.underlying30 rfl Tryz.sizeOf28 rfl) rfl ?_)))))
 refine BD 1 (Value.slice x.a.p ps.length x.a.c) LT rfl (AH (v:=(pP b1 1)) (AA rfl Tryz.underlying30 rfl Tryz.sizeOf23 rfl) rfl (BD 1 (Value.slice x.b.p ts.length x.b.c) EU rfl (AD.callL (S:=S) (V:=Xt) (LW:=T9 (T:=55) (z:=3) (cs:=rowsL Aq (C6 ts)) (n:=(C6 ts).length)) (args:=[(Value.slice x.a.p ps.length x.a.c),(Value.slice x.b.p ts.length x.b.c)]) Tryz.call73 (λw hw=>Wd ts x.b x.a.p ps.length x.a.c hnb (by omega) (by omega) w (V9 (inS hw 2 rfl lx))) rfl λrm hrm=>AH (v:=(vN ((C6 ts).length))) (AE rfl Tryz.underlying24) rfl (AJ rfl ?_))))
 refine AD.nil (AC.subF (sL [1,4,5,14,15,16] rfl) (AC.then_ (AF.block ?_)))
 refine AF.lp4 (tg λ(i:Nat) (p1:Option Addr) (c1:Nat) (out:List T3)=>i<=(C6 ts).length/\OwnOk p1 out.length c1/\out=MM sx.kvs (C6 ts) i) (tg λ(i:Nat) (p1:Option Addr) (c1:Nat) (out:List T3)=>[(1,(Value.map (some sx.b))),(4,(Value.slice none 0 0)),(14,(Value.slice rm.p ((C6 ts).length) ((C6 ts).length))),(15,(vN ((C6 ts).length))),(16,(vN i)),(5,(Value.slice p1 out.length c1))]) (tg λ(i:Nat) (p1:Option Addr) (c1:Nat) (out:List T3)=>[rowW rm.p 55 3 ((C6 ts).length) rm.c (rowsL Aq (C6 ts)),rowW p1 132 3 out.length c1 (rowsL Aq out),Ab b1 30 (CC x),AI x.a.p (rowsL BE ps),AI x.b.p (rowsL Aq ts),AI x.c.p (rowsL Aq ss),G1 sx.b Dw vN sx.kvs]) (tg λ(i:Nat) (p1:Option Addr) (c1:Nat) (out:List T3)=>(C6 ts).length-i) 0 none 0 ([]:List T3) (⟨Nat.zero_le _,OwnOk.none,rfl⟩) (sF rfl) sr (λi p1 c1 out hJ=>?_)
 obtain ⟨hi,ho,hou⟩:=hJ
 have hol:=Ri (kvs:=sx.kvs) (rs:=C6 ts) i
 rw [<-hou] at hol
 refine q4 (AH (Ad (c:=(decide (i<((C6 ts).length)))) rfl rfl (CB (a:=i) (b:=(C6 ts).length))) rfl (AD.nil (q1 ?_)))
 refine AF.cond rfl (λhc0=>?_) (λhc0=>?_)
 ·replace hc0:=of_decide_eq_true hc0
  obtain ⟨sd,hsd⟩:∃q,q=(C6 ts).getD i (0,0,0):=⟨_,rfl⟩
  obtain ⟨hea,heb⟩:=UN hnb (by omega) (s:=sd) (by rw [hsd,List.getD,List.getElem?_eq_getElem hc0];exact List.getElem_mem hc0)
  refine AF.skip (q1 (AF.block (q4 (AH (v:=(pP (pB rm.p) (pO rm.p+i*3))) (AL (j:=i) rfl rfl rm.ok.clip Tryz.underlying24 Tryz.sizeOf55 rfl (by omega)) rfl (AH (v:=(aG (Aq ((C6 ts).getD i ((0,0,0):Nat×Nat×Nat))))) (Dg (vs:=Aq ((C6 ts).getD i ((0,0,0):Nat×Nat×Nat))) (i:=0) rfl rfl rm.ok (Af BR _) (A6.ne rm.ok.clip (by omega)) GP (Ax BR _ _ _ (by omega)) (BR _)) rfl ?_)))))
  refine AD.retell (k:=19) (u:=(aG (Aq sd))) rfl (by rw [hsd]) (al W4 rfl λb2=>BC rfl Tryz.sizeOf55 rfl (q3 (sL [1,4,14,15,16,5,7] rfl) (AJ rfl (AH (v:=(pP b2 0)) (AA rfl Tryz.underlying55 rfl Tryz.sizeOf3 rfl) rfl ?_))))
  refine BD 0 (vN sd.1) Be rfl (AH (v:=(pP b2 1)) (AA rfl Tryz.underlying55 rfl Tryz.sizeOf3 rfl) rfl (BD 0 (vN sd.2.1) Be rfl (AH (v:=(aG (BY (sd.1,sd.2.1)))) (BN (zs:=BY ((0,0):P2)) (vs:=BY (sd.1,sd.2.1)) (pv:=[(0,(vN sd.1)),(1,(vN sd.2.1))]) Tryz.zeroValue190 Tryz.underlying190 Tryz.sizeOf3 rfl (Fe sd.1 sd.2.1)) rfl (AH (v:=(Value.tuple #[(vN ((Ac sx.kvs (sd.1,sd.2.1)).getD 0)),(Value.bool ((Ac sx.kvs (sd.1,sd.2.1)).isSome))])) (FJ Ev 7 (eV:=vN) (kvs:=sx.kvs) (x:=(sd.1,sd.2.1)) (z0:=0) (co:=true) rfl rfl Tryz.underlying186 Tryz.zeroValue3 rfl (sx.ok) (⟨by show (_:Nat)<_;omega,by show (_:Nat)<_;omega⟩)) rfl (AJ rfl ?_)))))
  refine AH (AS (v:=(vN ((Ac sx.kvs (sd.1,sd.2.1)).getD 0))) rfl rfl) rfl (AH (AS (v:=(Value.bool ((Ac sx.kvs (sd.1,sd.2.1)).isSome))) rfl rfl) rfl (asg' rfl (asg' rfl (q3 (sL [1,4,14,15,16,5,7,8,9] rfl) (AJ rfl ?_)))))
  refine AD.nil (AC.subF (sL [1,4,14,15,16,5,7,8,30] rfl) (AC.then_ ?_))
  refine AF.cond rfl (λhc1=>?_) (λhc1=>?_)
  ·skip
   refine AF.region (AJ rfl (AH (v:=(pP b2 0)) (AA rfl Tryz.underlying55 rfl Tryz.sizeOf3 rfl) rfl (BD 0 (vN sd.1) Be rfl (AH (v:=(pP b2 1)) (AA rfl Tryz.underlying55 rfl Tryz.sizeOf3 rfl) rfl (BD 0 (vN sd.2.1) Be rfl ?_)))))
   refine AJ rfl (AH (v:=(aG ([(vN sd.1),(vN sd.2.1),(vN ((Ac sx.kvs (sd.1,sd.2.1)).getD 0))]))) (AU (zs:=Aq ((0,0,0):Nat×Nat×Nat)) (vs:=[(vN sd.1),(vN sd.2.1),(vN ((Ac sx.kvs (sd.1,sd.2.1)).getD 0))]) (pv:=[(0,(vN sd.1)),(1,(vN sd.2.1)),(2,(vN ((Ac sx.kvs (sd.1,sd.2.1)).getD 0)))]) (places:=[(0,1),(1,1),(2,1)]) Tryz.zeroValue132 Tryz.underlying132 (λw=>by simp [Tryz.sizeOf3]) rfl rfl) rfl (AD.openV (V:=λb3=>(Value.slice (some ⟨b3,0,none⟩) 1 1)) (T:=132) (cs:=Aq ((sd.1,sd.2.1,(Ac sx.kvs (sd.1,sd.2.1)).getD 0):T3)) (AO rfl) (Am (z:=.agg (Aq ((0,0,0):Nat×Nat×Nat)).toArray) (cs:=Aq ((sd.1,sd.2.1,(Ac sx.kvs (sd.1,sd.2.1)).getD 0):T3)) (pv:=[(0,(aG ([(vN sd.1),(vN sd.2.1),(vN ((Ac sx.kvs (sd.1,sd.2.1)).getD 0))])))]) Tryz.underlying125 Tryz.sizeOf132 Tryz.zeroValue132 (by decide) (by decide) rfl (Ff ((sd.1,sd.2.1,(Ac sx.kvs (sd.1,sd.2.1)).getD 0):T3))) rfl (AY rfl) λb3=>AD.appendAt 3 (j:=0) (cs2:=rowsL Aq (out++[((sd.1,sd.2.1,(Ac sx.kvs (sd.1,sd.2.1)).getD 0):T3)])) Vi rfl ho (Af BR _) rfl rfl rfl rfl rfl (by decide) (GR (by omega)) (by omega) (by rw [Bz];rfl) rfl λp_1 c_1 ho_1 hne_1=>asg' rfl (AD.nil ?_)))
   refine AC.subF (sL [1,4,14,15,16,5,7] rfl) (AC.in_normal (AC.then_ (AF.region (AH (AW (c:=((i+1:Nat):Int)) rfl rfl (AR (a:=i) (b:=1) (by omega))) rfl (AJ rfl ?_)))))
   refine AD.nil (AC.subF (sL [1,4,14,15,16,5,7] rfl) ?_)
   rw [show out.length+1=(out++[((sd.1,sd.2.1,(Ac sx.kvs (sd.1,sd.2.1)).getD 0):T3)]).length by simp]
   exact AC.round4 (i+1) p_1 c_1 (out++[((sd.1,sd.2.1,(Ac sx.kvs (sd.1,sd.2.1)).getD 0):T3)]) (⟨by omega,(by simpa using ho_1),by rw [hou,Kw hc0,<-hsd];first|rw [M1 hc1]|rw [PH hc1]⟩) (by omega) (sF rfl) (sl (sl sr))
  ·skip
   refine Cw [(0,true),(1,true),(2,true),(3,true),(4,true),(5,true),(6,true),(7,true),(8,true),(9,true),(10,true),(11,true),(12,true),(13,false),(14,false),(15,true)] (sk (sk (sl sr))) (BS rfl (Aw (v:=(pP b2 1)) rfl (AA rfl Tryz.underlying55 rfl Tryz.sizeOf3 rfl) (Bm 0 (vN sd.2.1) Be rfl (Aw (v:=(pP b2 0)) rfl (AA rfl Tryz.underlying55 rfl Tryz.sizeOf3 rfl) (Bm 0 (vN sd.1) Be rfl ?_)))))
   refine BS rfl (Aw (v:=(pP b2 1)) rfl (AA rfl Tryz.underlying55 rfl Tryz.sizeOf3 rfl) (Bm 0 (vN sd.2.1) Be rfl (Aw (v:=(pP b2 0)) rfl (AA rfl Tryz.underlying55 rfl Tryz.sizeOf3 rfl) (Bm 0 (vN sd.1) Be rfl (Aw (v:=(aG (BY (sd.2.1,sd.1)))) rfl (BN (zs:=BY ((0,0):P2)) (vs:=BY (sd.2.1,sd.1)) (pv:=[(0,(vN sd.2.1)),(1,(vN sd.1))]) Tryz.zeroValue190 Tryz.underlying190 Tryz.sizeOf3 rfl (Fe sd.2.1 sd.1)) ?_)))))
   refine Aw (v:=(vN ((Ac sx.kvs (sd.2.1,sd.1)).getD 0))) rfl (FJ Ev 6 (eV:=vN) (kvs:=sx.kvs) (x:=(sd.2.1,sd.1)) (z0:=0) (co:=false) rfl rfl Tryz.underlying186 Tryz.zeroValue3 rfl (sx.ok) (⟨by show (_:Nat)<_;omega,by show (_:Nat)<_;omega⟩)) (Aw (v:=(aG ([(vN sd.2.1),(vN sd.1),(vN ((Ac sx.kvs (sd.2.1,sd.1)).getD 0))]))) rfl (AU (zs:=Aq ((0,0,0):Nat×Nat×Nat)) (vs:=[(vN sd.2.1),(vN sd.1),(vN ((Ac sx.kvs (sd.2.1,sd.1)).getD 0))]) (pv:=[(0,(vN sd.2.1)),(1,(vN sd.1)),(2,(vN ((Ac sx.kvs (sd.2.1,sd.1)).getD 0)))]) (places:=[(0,1),(1,1),(2,1)]) Tryz.zeroValue132 Tryz.underlying132 (λw=>by simp [Tryz.sizeOf3]) rfl rfl) (OkE.imp rfl (AD.openV (V:=λb3=>(Value.slice (some ⟨b3,0,none⟩) 1 1)) (T:=132) (cs:=Aq ((sd.2.1,sd.1,(Ac sx.kvs (sd.2.1,sd.1)).getD 0):T3)) (AO rfl) (Am (z:=.agg (Aq ((0,0,0):Nat×Nat×Nat)).toArray) (cs:=Aq ((sd.2.1,sd.1,(Ac sx.kvs (sd.2.1,sd.1)).getD 0):T3)) (pv:=[(0,(aG ([(vN sd.2.1),(vN sd.1),(vN ((Ac sx.kvs (sd.2.1,sd.1)).getD 0))])))]) Tryz.underlying125 Tryz.sizeOf132 Tryz.zeroValue132 (by decide) (by decide) rfl (Ff ((sd.2.1,sd.1,(Ac sx.kvs (sd.2.1,sd.1)).getD 0):T3))) rfl (AY rfl) λb3=>OkE.back (sl (sk (sk (sl sr)))) (OkE.imp rfl ?_))))
   refine AD.appendAt 3 (j:=0) (cs2:=rowsL Aq (out++[((sd.2.1,sd.1,(Ac sx.kvs (sd.2.1,sd.1)).getD 0):T3)])) Vi rfl ho (Af BR _) rfl rfl rfl rfl rfl (by decide) (GR (by omega)) (by omega) (by rw [Bz];rfl) rfl λp_2 c_2 ho_2 hne_2=>OkE.back (sl (sk (sk (sl sr)))) (pS' rfl (OkE.nil (AC.subF (sL [1,4,14,15,16,5,7,8] rfl) (AC.in_normal ?_))))
   refine AC.then_ (AF.region (AH (AW (c:=((i+1:Nat):Int)) rfl rfl (AR (a:=i) (b:=1) (by omega))) rfl (AJ rfl (AD.nil (AC.subF (sL [1,4,14,15,16,5,7,8] rfl) ?_)))))
   rw [show out.length+1=(out++[((sd.2.1,sd.1,(Ac sx.kvs (sd.2.1,sd.1)).getD 0):T3)]).length by simp]
   exact AC.round4 (i+1) p_2 c_2 (out++[((sd.2.1,sd.1,(Ac sx.kvs (sd.2.1,sd.1)).getD 0):T3)]) (⟨by omega,(by simpa using ho_2),by rw [hou,Kw hc0,<-hsd];first|rw [M1 hc1]|rw [PH hc1]⟩) (by omega) (sF rfl) (sl (sl sr))
 ·replace hc0:=of_decide_eq_false hc0
  refine AF.exit (AC.then_exit (AC.round4_exit (AC.in_exit (q2 (AJ rfl ?_)))))
  exact ck' Tryz.call174 (Ts p1 out.length c1 ho.row.le) rfl (asg' rfl (AD.nil (AC.subF (sL [1,4,14,15,16,5] rfl) (AC.then_ (AF.ret (AN rfl (AQ (v:=(Value.slice p1 out.length out.length)) rfl) (λw hw=>(by rw [show B3 ts=out from by rw [hou,show i=(C6 ts).length by omega];exact (Tt (sx.fin rfl)).symm];exact Wg hw 1 rfl ho (Af BR _) rfl))))))))
theorem VU {ps:List Pt} {ts ss:List T3} (x:MX ps ts ss) (hor:(By ps.length ts&&Cl ts (3*ts.length))=true) (hp:ps.length<=1000000) (htl:ts.length<=1000000) (w:World) {S:Nat->Prop} (hx:Ro S w x):Calls Tryz.prog 62 #[(aG (CC x))] w (Av (RX (rowsL Aq (B3 ts)) (B3 ts).length) S w):=by
 have hnb:By ps.length ts=true:=(Bool.and_eq_true _ _▸hor).1
 have lx:=DF (W:=w) hx
 refine Ah (args:=[(aG (CC x))]) (L:=[AI x.a.p (rowsL BE ps),AI x.b.p (rowsL Aq ts),AI x.c.p (rowsL Aq ss)]) Tryz.func62 rfl rfl (AY rfl) (EV hx Ar) (AF.subF (sL [0] rfl) (q4 (B9 (cs:=CC x) rfl λb1=>asg' rfl (q3 (sL [1,2] rfl) ?_))))
 refine BF 0 B1 rfl (AD.callR (S:=S) (α:=SX ts true) (args:=[(aG (CC x))]) Tryz.call112 (λw hw=>(by have h9:=M7 x hp htl w (inS hw 1 rfl lx);rw [hor] at h9;exact h9)) rfl rfl rfl λsx lsx=>AJ rfl (AH (AS (v:=(Value.map (some sx.b))) rfl rfl) rfl (AH (AS (v:=(Value.bool true)) rfl rfl) rfl (asg' rfl ?_))))
 refine asg' rfl (q6 (sL [1,2,3,4] rfl) (q4 (AJ rfl (AH (Bw (c:=false) rfl rfl) rfl (AD.nil ?_)))))
 refine AC.subF (sL [1,2,3,11] rfl) (AC.then_ (AF.cond_false rfl (AF.skip (q2 (BF 1 B1 rfl ?_)))))
 refine AJ rfl (cX (S:=S) (cs:=rowsL Aq (B3 ts)) (k:=(B3 ts).length) (args:=[(aG (CC x)),(Value.map (some sx.b))]) Tryz.call113 (λw hw=>PM x sx hnb hp htl w (inS hw 2 rfl lx) (inS hw 0 rfl lsx)) rfl rfl rfl λwy lwy=>asg' rfl (AD.nil (AC.subF (sL [1,2] rfl) (AC.then_ ?_))))
 exact AF.ret (AN rfl (AQ (v:=(Value.slice wy.p ((B3 ts).length) wy.c)) rfl) (λw hw=>(GQ hw (inS hw 0 rfl lwy) rfl)))
end
section
set_option maxRecDepth 100000
end
section
section
variable {P:Program} {Q:Exit->Act->World->Prop} {n:Nat} {F:List (Nat×Value)} {w0:A7} {L:List As} {c x y:Code}
def Uw {α β γ δ ε ζ η:Type} (n:Nat) (w0:A7) (J:α->β->γ->δ->ε->ζ->η->Prop) (FI:α->β->γ->δ->ε->ζ->η->List (Nat×Value)) (LI:α->β->γ->δ->ε->ζ->η->List As) (m:α->β->γ->δ->ε->ζ->η->Nat) (i:α) (j:β) (k:γ) (l:δ) (o:ε) (q:ζ) (r:η) (Q:Exit->Act->World->Prop):Exit->Act->World->Prop :=
  Exit.then (λa w=>∃i' j' k' l' o' q' r',J i' j' k' l' o' q' r'/\m i' j' k' l' o' q' r'<m i j k l o q r/\CF n a (FI i' j' k' l' o' q' r')/\A_ w0 w (LI i' j' k' l' o' q' r')) Q
theorem AF.loop7 {α β γ δ ε ζ η:Type} (J:α->β->γ->δ->ε->ζ->η->Prop) (FI:α->β->γ->δ->ε->ζ->η->List (Nat×Value)) (LI:α->β->γ->δ->ε->ζ->η->List As) (m:α->β->γ->δ->ε->ζ->η->Nat) (round:∀i j k l o q r,J i j k l o q r->AF P c (Uw n w0 J FI LI m i j k l o q r Q) n (FI i j k l o q r) w0 (LI i j k l o q r))
    (i:α) (j:β) (k:γ) (l:δ) (o:ε) (q:ζ) (r:η) (h:J i j k l o q r):AF P (.loop c) Q n (FI i j k l o q r) w0 (LI i j k l o q r) :=
  AF.loop (σ:=α×β×γ×δ×ε×ζ×η) (λs=>J s.1 s.2.1 s.2.2.1 s.2.2.2.1 s.2.2.2.2.1 s.2.2.2.2.2.1 s.2.2.2.2.2.2) (λs=>FI s.1 s.2.1 s.2.2.1 s.2.2.2.1 s.2.2.2.2.1 s.2.2.2.2.2.1 s.2.2.2.2.2.2) (λs=>LI s.1 s.2.1 s.2.2.1 s.2.2.2.1 s.2.2.2.2.1 s.2.2.2.2.2.1 s.2.2.2.2.2.2) (λs=>m s.1 s.2.1 s.2.2.1 s.2.2.2.1 s.2.2.2.2.1 s.2.2.2.2.2.1 s.2.2.2.2.2.2) (λs hs a w ha hw=>by
    refine Code.wp_mono (λe a' w' hq=>?_) (round s.1 s.2.1 s.2.2.1 s.2.2.2.1 s.2.2.2.2.1 s.2.2.2.2.2.1 s.2.2.2.2.2.2 hs a w ha hw)
    cases e<;>first
      | (obtain ⟨i',j',k',l',o',q',r',h1,h2,h3,h4⟩:=hq;exact ⟨(i',j',k',l',o',q',r'),h1,h2,h3,h4⟩)
      | exact hq) (i,j,k,l,o,q,r) h
theorem AF.lp7 {α β γ δ ε ζ η:Type} {J:α->β->γ->δ->ε->ζ->η->Prop} {FI:α->β->γ->δ->ε->ζ->η->List (Nat×Value)} {LI:α->β->γ->δ->ε->ζ->η->List As} {m:α->β->γ->δ->ε->ζ->η->Nat} (_:Tg J) (_:Tg FI) (_:Tg LI) (_:Tg m) (i:α) (j:β) (k:γ) (l:δ) (o:ε) (q:ζ) (r:η) (h:J i j k l o q r) (hs:CW (FI i j k l o q r) F) (hl:(LI i j k l o q r).Sublist L)
    (round:∀i j k l o q r,J i j k l o q r->AF P c (Uw n w0 J FI LI m i j k l o q r Q) n (FI i j k l o q r) w0 (LI i j k l o q r)):AF P (.loop c) Q n F w0 L:=AF.sub hs hl (AF.loop7 J FI LI m round i j k l o q r h)
theorem AC.round7 {α β γ δ ε ζ η:Type} {J:α->β->γ->δ->ε->ζ->η->Prop} {FI:α->β->γ->δ->ε->ζ->η->List (Nat×Value)} {LI:α->β->γ->δ->ε->ζ->η->List As} {m:α->β->γ->δ->ε->ζ->η->Nat} {i:α} {j:β} {k:γ} {l:δ} {o:ε} {q:ζ} {r:η} (i':α) (j':β) (k':γ) (l':δ) (o':ε) (q':ζ) (r':η) (hJ:J i' j' k' l' o' q' r') (hm:m i' j' k' l' o' q' r'<m i j k l o q r) (hs:CW (FI i' j' k' l' o' q' r') F) (hl:(LI i' j' k' l' o' q' r').Sublist L):AC (Uw n w0 J FI LI m i j k l o q r Q) .normal n F w0 L:=λ_ _ ha hw=>⟨i',j',k',l',o',q',r',hJ,hm,ha.sub hs,hw.weak hl⟩
theorem AC.round7_exit {α β γ δ ε ζ η:Type} {J:α->β->γ->δ->ε->ζ->η->Prop} {FI:α->β->γ->δ->ε->ζ->η->List (Nat×Value)} {LI:α->β->γ->δ->ε->ζ->η->List As} {m:α->β->γ->δ->ε->ζ->η->Nat} {i:α} {j:β} {k:γ} {l:δ} {o:ε} {q:ζ} {r:η} {id:Nat} (h:AC Q (.exit id) n F w0 L):AC (Uw n w0 J FI LI m i j k l o q r Q) (.exit id) n F w0 L:=h
end
end
end Go.Proofs.YtpgncndhhhllfaaGreatDoor
