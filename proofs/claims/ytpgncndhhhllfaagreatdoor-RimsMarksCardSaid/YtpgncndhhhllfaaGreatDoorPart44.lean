import Derived.Test.YtpgncndhhhllfaaGreatDoorPart42
import Derived.Test.YtpgncndhhhllfaaGreatDoorPart43
namespace Go.Proofs.YtpgncndhhhllfaaGreatDoor
open Go Go.RowKit Go.Proofs.Tryz
set_option linter.unusedVariables false
set_option linter.unusedSimpArgs false
section
set_option maxRecDepth 100000
theorem Xf:Lu Tryz.prog 70 3 (vN 0) 8:=⟨Tryz.underlying70,_,_,rfl,rfl,rfl,rfl,rfl⟩
set_option maxHeartbeats 8000000 in
theorem Jm {ps:List Pt} {ts ss:List T3} (x:MX ps ts ss) (hnb:By ps.length ts=true) (hne:0<ts.length) (hp:ps.length<=1000000) (htl:ts.length<=1000000) (w:World) {S:Nat->Prop} (hx:Ro S w x):Calls Tryz.prog 64 #[(aG (CC x))] w (Av (XL ts) S w):=by
 have lx:=DF (W:=w) hx
 refine Ah (args:=[(aG (CC x))]) (L:=[AI x.a.p (rowsL BE ps),AI x.b.p (rowsL Aq ts),AI x.c.p (rowsL Aq ss)]) Tryz.func64 rfl rfl (AY rfl) (EV hx Ar) (AF.subF (sL [0] rfl) (q4 (B9 (cs:=CC x) rfl λb1=>asg' rfl (asg' rfl ?_))))
 refine AD.nil (AC.subF (sL [1,2,3] rfl) (AC.then_ (AF.scope (AF.seq (q4 ?_)))))
 refine BF 0 B1 rfl (DC (args:=[(aG (CC x))]) (v:=(Value.bool true)) Tryz.call76 (λw hw=>(by have h9:=IY x (by omega) w (inS hw 1 rfl lx);rw [hnb] at h9;exact h9)) rfl (AH (Bw (c:=false) rfl rfl) rfl (AJ rfl (AD.step (v:=(pP b1 1)) (AB rfl) (AA rfl Tryz.underlying30 rfl Tryz.sizeOf23 rfl) rfl (AY rfl) (AD.step (v:=(Value.slice x.b.p ts.length x.b.c)) (AB rfl) (AP (i:=0) (v:=(Value.slice x.b.p ts.length x.b.c)) rfl rfl EU.a rfl) rfl (AY rfl) ?_)))))
 refine AD.step (v:=(vN ts.length)) (AB rfl) (AE rfl Tryz.underlying23) rfl (AY rfl) (AD.step (v:=(Value.bool false)) (AB rfl) (BJ (c:=false) rfl rfl (decide_eq_false (by omega))) rfl (AY rfl) (AH (v:=(Value.bool false)) (AV rfl rfl) rfl (AD.nil (AC.subF (sL [1,2,3,25] rfl) (AC.then_ ?_)))))
 refine AF.cond_false rfl (AF.skip (q2 (AD.makeMap vN Ha (AO rfl) rfl λb2=>asg' rfl (q6 (sL [1,2,3,4] rfl) ?_))))
 refine q4 (AH (v:=(pP b1 1)) (AA rfl Tryz.underlying30 rfl Tryz.sizeOf23 rfl) rfl (BD 1 (Value.slice x.b.p ts.length x.b.c) EU rfl (AH (v:=(vN ts.length)) (AE rfl Tryz.underlying23) rfl (AJ rfl (AD.nil ?_)))))
 refine AC.subF (sL [1,2,3,4,28,29,30] rfl) (AC.then_ (AF.block ?_))
 refine AF.lp2 (tg λ(t:Nat) (kv:List (Nat×RO))=>t<=ts.length/\F_ TK kv/\RH kv=RK ts (3*t+0)) (tg λ(t:Nat) (kv:List (Nat×RO))=>[(1,(pP b1 0)),(2,(Value.slice none 0 0)),(3,(vI 0)),(4,(Value.map (some b2))),(28,(Value.slice x.b.p ts.length x.b.c)),(29,(vN ts.length)),(30,(vN t))]) (tg λ(t:Nat) (kv:List (Nat×RO))=>(Bd b2 vN Ha kv::Ab b1 30 (CC x)::AI x.a.p (rowsL BE ps)::AI x.b.p (rowsL Aq ts)::AI x.c.p (rowsL Aq ss)::Oh 3 kv)) (tg λ(t:Nat) (kv:List (Nat×RO))=>ts.length-t) 0 ([]:List (Nat×RO)) (⟨Nat.zero_le _,F_.nil,rfl⟩) (sF rfl) sr (λt kv hJ=>?_)
 obtain ⟨ht,hok,hat⟩:=hJ
 refine q4 (AH (Ad (c:=(decide (t<ts.length))) rfl rfl (CB (a:=t) (b:=ts.length))) rfl (AD.nil (q1 ?_)))
 refine AF.cond rfl (λhc1=>?_) (λhc1=>?_)
 ·replace hc1:=of_decide_eq_true hc1
  obtain ⟨T,hT⟩:∃q,q=ts.getD t (0,0,0):=⟨_,rfl⟩
  obtain ⟨g1,g2,g3⟩:=DP (DK hnb hc1)
  rw [<-hT] at g1 g2 g3
  refine AF.skip (q1 (AF.block (q4 (AJ rfl (AH (v:=(pP (pB x.b.p) (pO x.b.p+t*3))) (AL (j:=t) rfl rfl x.b.ok Tryz.underlying23 Tryz.sizeOf53 rfl (by omega)) rfl ?_)))))
  refine AH (v:=(aG (Aq (ts.getD t ((0,0,0):Nat×Nat×Nat))))) (Ae (vs:=Aq (ts.getD t ((0,0,0):Nat×Nat×Nat))) (i:=3) rfl rfl (A6.ne x.b.ok (by omega)) GL (Ax BR _ _ _ (by omega)) (BR _)) rfl (AD.retell (k:=34) (u:=(aG (Aq T))) rfl (by rw [hT]) (al R_ rfl λb3=>asg' rfl (BC rfl Tryz.sizeOf53 rfl (q3 (sL [1,2,3,4,28,29,30,6,5] rfl) ?_))))
  refine BF 0 GL rfl (AJ rfl (AD.nil (AC.then_ (AF.block (AF.unroll 4 ?_)))))
  refine Gd.step (q4 (AH (Ad (c:=true) rfl rfl (by decide)) rfl (AD.nil (q1 (AF.cond_true rfl ?_)))))
  refine AF.skip (q1 (AF.block (q4 (AH (v:=(vN T.1)) (B2 (j:=0) rfl rfl Tryz.underlying53 Tryz.sizeOf3 Tryz.isAgg3 (by decide) rfl) rfl (asg' rfl ?_)))))
  refine AD.nil (AC.subF (sL [1,2,3,4,28,29,30,6,5,35,36,8] rfl) (AC.then_ (AF.region (AJ rfl (AJ rfl ?_)))))
  refine AJ rfl (AJ rfl ?_)
  obtain ⟨sq0,hsq0⟩:∃q,q=(Ac kv T.1).getD LD:=⟨_,rfl⟩
  have hsn0:sq0.l.length<=3*t+0:=by rw [hsq0,<-Ip,hat];exact F9 _
  refine AH (v:=(Value.slice sq0.p sq0.l.length sq0.c)) ((by rw [hsq0];exact BZ EG 1 (eV:=Ha) (kvs:=kv) (x:=T.1) (z0:=LD) (co:=false) rfl rfl Tryz.underlying195 Tryz.zeroValue70 rfl (hok) (by show (_:Nat)<_;omega))) rfl (AD.pullRO (A:=[Ab b3 53 (Aq T),Bd b2 vN Ha kv,Ab b1 30 (CC x),AI x.a.p (rowsL BE ps),AI x.b.p (rowsL Aq ts),AI x.c.p (rowsL Aq ss)]) (kvs:=kv) (k:=T.1) hok hsq0 (AJ rfl (AD.openV (V:=λb4=>(Value.slice (some ⟨b4,0,none⟩) 1 1)) (T:=3) (cs:=[(vN t)]) (AO rfl) (Am (cs:=[(vN t)]) (pv:=[(0,(vN t))]) Tryz.underlying70 Tryz.sizeOf3 Tryz.zeroValue3 (by decide) (by decide) rfl (by kernel_rfl)) rfl (AY rfl) λb4=>AD.append1 (j:=0) (cs2:=inL (sq0.l++[t])) LN rfl sq0.ok (by rw [Bh,Nat.mul_one]) rfl rfl rfl rfl (by decide) (GR (by omega)) (by omega) (by rw [Cr];rfl) rfl λp_1 c_1 ho_1 hne_1=>?_)))
  have hro0:OwnOk p_1 (sq0.l++[t]).length c_1:=by simpa using ho_1
  rw [show sq0.l.length+1=(sq0.l++[t]).length by simp]
  refine AD.mapUpdate EG 3 (kvs:=kv) (x:=T.1) (y:=(⟨p_1,c_1,sq0.l++[t],hro0⟩:RO)) (AO rfl) rfl rfl rfl Tryz.underlying195 rfl (hok) (by show (_:Nat)<_;omega) (AD.permL (show List.Perm _ (Ab b4 3 ([(vN t)])::Ab b3 53 (Aq T)::Bd b2 vN Ha (Az kv T.1 (⟨p_1,c_1,sq0.l++[t],hro0⟩:RO))::Ab b1 30 (CC x)::AI x.a.p (rowsL BE ps)::AI x.b.p (rowsL Aq ts)::AI x.c.p (rowsL Aq ss)::Oh 3 (Az kv T.1 (⟨p_1,c_1,sq0.l++[t],hro0⟩:RO))) from LY (A1:=[Ab b4 3 ([(vN t)])]) (A2:=[Ab b3 53 (Aq T),Bd b2 vN Ha (Az kv T.1 (⟨p_1,c_1,sq0.l++[t],hro0⟩:RO)),Ab b1 30 (CC x),AI x.a.p (rowsL BE ps),AI x.b.p (rowsL Aq ts),AI x.c.p (rowsL Aq ss)]) (kvs:=kv) (k:=T.1) (s:=(⟨p_1,c_1,sq0.l++[t],hro0⟩:RO)) (T:=3) hok) ?_)
  obtain ⟨kv0,hkv0⟩:∃q,q=Az kv T.1 (⟨p_1,c_1,sq0.l++[t],hro0⟩:RO):=⟨_,rfl⟩
  rw [<-hkv0]
  have hok0:F_ TK kv0:=hkv0▸hok.put (by show (_:Nat)<_;omega)
  have hat0:RH kv0=RK ts (3*t+0+1):=by rw [hkv0,Ja,JD (show 0<3 by decide),<-hT,<-hat,Ip];show Az _ T.1 (sq0.l++[t])=Az _ (CU T 0) (((Ac kv (CU T 0)).getD LD).l++[t]);rw [show CU T 0=T.1 from rfl,<-hsq0]
  refine AD.nil (AC.subF (sL [1,2,3,4,28,29,30,6,5,35,36] rfl) (AC.in_normal (AC.then_ (AF.region (AH (AW (c:=(1:Int)) rfl rfl (by decide)) rfl ?_)))))
  refine AJ rfl (AD.nil (AC.subF (sL [1,2,3,4,28,29,30,6,5,35,36] rfl) (AC.again (Gd.step (q4 ?_)))))
  refine AH (Ad (c:=true) rfl rfl (by decide)) rfl (AD.nil (q1 (AF.cond_true rfl (AF.skip (q1 ?_)))))
  refine AF.block (q4 (AH (v:=(vN T.2.1)) (B2 (j:=1) rfl rfl Tryz.underlying53 Tryz.sizeOf3 Tryz.isAgg3 (by decide) rfl) rfl (asg' rfl (AD.nil (AC.subF (sL [1,2,3,4,28,29,30,6,5,35,36,8] rfl) ?_)))))
  refine AC.then_ (AF.region (AJ rfl (AJ rfl (AJ rfl (AJ rfl ?_)))))
  obtain ⟨sq1,hsq1⟩:∃q,q=(Ac kv0 T.2.1).getD LD:=⟨_,rfl⟩
  have hsn1:sq1.l.length<=3*t+1:=by rw [hsq1,<-Ip,hat0];exact F9 _
  refine AH (v:=(Value.slice sq1.p sq1.l.length sq1.c)) ((by rw [hsq1];exact BZ EG 2 (eV:=Ha) (kvs:=kv0) (x:=T.2.1) (z0:=LD) (co:=false) rfl rfl Tryz.underlying195 Tryz.zeroValue70 rfl (hok0) (by show (_:Nat)<_;omega))) rfl (AD.pullRO (A:=[Ab b4 3 ([(vN t)]),Ab b3 53 (Aq T),Bd b2 vN Ha kv0,Ab b1 30 (CC x),AI x.a.p (rowsL BE ps),AI x.b.p (rowsL Aq ts),AI x.c.p (rowsL Aq ss)]) (kvs:=kv0) (k:=T.2.1) hok0 hsq1 (AJ rfl (AD.openV (V:=λb5=>(Value.slice (some ⟨b5,0,none⟩) 1 1)) (T:=3) (cs:=[(vN t)]) (AO rfl) (Am (cs:=[(vN t)]) (pv:=[(0,(vN t))]) Tryz.underlying70 Tryz.sizeOf3 Tryz.zeroValue3 (by decide) (by decide) rfl (by kernel_rfl)) rfl (AY rfl) λb5=>AD.append1 (j:=0) (cs2:=inL (sq1.l++[t])) LN rfl sq1.ok (by rw [Bh,Nat.mul_one]) rfl rfl rfl rfl (by decide) (GR (by omega)) (by omega) (by rw [Cr];rfl) rfl λp_2 c_2 ho_2 hne_2=>?_)))
  have hro1:OwnOk p_2 (sq1.l++[t]).length c_2:=by simpa using ho_2
  rw [show sq1.l.length+1=(sq1.l++[t]).length by simp]
  refine AD.mapUpdate EG 4 (kvs:=kv0) (x:=T.2.1) (y:=(⟨p_2,c_2,sq1.l++[t],hro1⟩:RO)) (AO rfl) rfl rfl rfl Tryz.underlying195 rfl (hok0) (by show (_:Nat)<_;omega) (AD.permL (show List.Perm _ (Ab b5 3 ([(vN t)])::Ab b4 3 ([(vN t)])::Ab b3 53 (Aq T)::Bd b2 vN Ha (Az kv0 T.2.1 (⟨p_2,c_2,sq1.l++[t],hro1⟩:RO))::Ab b1 30 (CC x)::AI x.a.p (rowsL BE ps)::AI x.b.p (rowsL Aq ts)::AI x.c.p (rowsL Aq ss)::Oh 3 (Az kv0 T.2.1 (⟨p_2,c_2,sq1.l++[t],hro1⟩:RO))) from LY (A1:=[Ab b5 3 ([(vN t)])]) (A2:=[Ab b4 3 ([(vN t)]),Ab b3 53 (Aq T),Bd b2 vN Ha (Az kv0 T.2.1 (⟨p_2,c_2,sq1.l++[t],hro1⟩:RO)),Ab b1 30 (CC x),AI x.a.p (rowsL BE ps),AI x.b.p (rowsL Aq ts),AI x.c.p (rowsL Aq ss)]) (kvs:=kv0) (k:=T.2.1) (s:=(⟨p_2,c_2,sq1.l++[t],hro1⟩:RO)) (T:=3) hok0) ?_)
  obtain ⟨kv1,hkv1⟩:∃q,q=Az kv0 T.2.1 (⟨p_2,c_2,sq1.l++[t],hro1⟩:RO):=⟨_,rfl⟩
  rw [<-hkv1]
  have hok1:F_ TK kv1:=hkv1▸hok0.put (by show (_:Nat)<_;omega)
  have hat1:RH kv1=RK ts (3*t+1+1):=by rw [hkv1,Ja,JD (show 1<3 by decide),<-hT,<-hat0,Ip];show Az _ T.2.1 (sq1.l++[t])=Az _ (CU T 1) (((Ac kv0 (CU T 1)).getD LD).l++[t]);rw [show CU T 1=T.2.1 from rfl,<-hsq1]
  refine AD.nil (AC.subF (sL [1,2,3,4,28,29,30,6,5,35,36] rfl) (AC.in_normal (AC.then_ (AF.region (AH (AW (c:=(2:Int)) rfl rfl (by decide)) rfl ?_)))))
  refine AJ rfl (AD.nil (AC.subF (sL [1,2,3,4,28,29,30,6,5,35,36] rfl) (AC.again (Gd.step (q4 ?_)))))
  refine AH (Ad (c:=true) rfl rfl (by decide)) rfl (AD.nil (q1 (AF.cond_true rfl (AF.skip (q1 ?_)))))
  refine AF.block (q4 (AH (v:=(vN T.2.2)) (B2 (j:=2) rfl rfl Tryz.underlying53 Tryz.sizeOf3 Tryz.isAgg3 (by decide) rfl) rfl (asg' rfl (AD.nil (AC.subF (sL [1,2,3,4,28,29,30,6,5,35,36,8] rfl) ?_)))))
  refine AC.then_ (AF.region (AJ rfl (AJ rfl (AJ rfl (AJ rfl ?_)))))
  obtain ⟨sq2,hsq2⟩:∃q,q=(Ac kv1 T.2.2).getD LD:=⟨_,rfl⟩
  have hsn2:sq2.l.length<=3*t+2:=by rw [hsq2,<-Ip,hat1];exact F9 _
  refine AH (v:=(Value.slice sq2.p sq2.l.length sq2.c)) ((by rw [hsq2];exact BZ EG 3 (eV:=Ha) (kvs:=kv1) (x:=T.2.2) (z0:=LD) (co:=false) rfl rfl Tryz.underlying195 Tryz.zeroValue70 rfl (hok1) (by show (_:Nat)<_;omega))) rfl (AD.pullRO (A:=[Ab b5 3 ([(vN t)]),Ab b4 3 ([(vN t)]),Ab b3 53 (Aq T),Bd b2 vN Ha kv1,Ab b1 30 (CC x),AI x.a.p (rowsL BE ps),AI x.b.p (rowsL Aq ts),AI x.c.p (rowsL Aq ss)]) (kvs:=kv1) (k:=T.2.2) hok1 hsq2 (AJ rfl (AD.openV (V:=λb6=>(Value.slice (some ⟨b6,0,none⟩) 1 1)) (T:=3) (cs:=[(vN t)]) (AO rfl) (Am (cs:=[(vN t)]) (pv:=[(0,(vN t))]) Tryz.underlying70 Tryz.sizeOf3 Tryz.zeroValue3 (by decide) (by decide) rfl (by kernel_rfl)) rfl (AY rfl) λb6=>AD.append1 (j:=0) (cs2:=inL (sq2.l++[t])) LN rfl sq2.ok (by rw [Bh,Nat.mul_one]) rfl rfl rfl rfl (by decide) (GR (by omega)) (by omega) (by rw [Cr];rfl) rfl λp_3 c_3 ho_3 hne_3=>?_)))
  have hro2:OwnOk p_3 (sq2.l++[t]).length c_3:=by simpa using ho_3
  rw [show sq2.l.length+1=(sq2.l++[t]).length by simp]
  refine AD.mapUpdate EG 5 (kvs:=kv1) (x:=T.2.2) (y:=(⟨p_3,c_3,sq2.l++[t],hro2⟩:RO)) (AO rfl) rfl rfl rfl Tryz.underlying195 rfl (hok1) (by show (_:Nat)<_;omega) (AD.permL (show List.Perm _ (Ab b6 3 ([(vN t)])::Ab b5 3 ([(vN t)])::Ab b4 3 ([(vN t)])::Ab b3 53 (Aq T)::Bd b2 vN Ha (Az kv1 T.2.2 (⟨p_3,c_3,sq2.l++[t],hro2⟩:RO))::Ab b1 30 (CC x)::AI x.a.p (rowsL BE ps)::AI x.b.p (rowsL Aq ts)::AI x.c.p (rowsL Aq ss)::Oh 3 (Az kv1 T.2.2 (⟨p_3,c_3,sq2.l++[t],hro2⟩:RO))) from LY (A1:=[Ab b6 3 ([(vN t)])]) (A2:=[Ab b5 3 ([(vN t)]),Ab b4 3 ([(vN t)]),Ab b3 53 (Aq T),Bd b2 vN Ha (Az kv1 T.2.2 (⟨p_3,c_3,sq2.l++[t],hro2⟩:RO)),Ab b1 30 (CC x),AI x.a.p (rowsL BE ps),AI x.b.p (rowsL Aq ts),AI x.c.p (rowsL Aq ss)]) (kvs:=kv1) (k:=T.2.2) (s:=(⟨p_3,c_3,sq2.l++[t],hro2⟩:RO)) (T:=3) hok1) ?_)
  obtain ⟨kv2,hkv2⟩:∃q,q=Az kv1 T.2.2 (⟨p_3,c_3,sq2.l++[t],hro2⟩:RO):=⟨_,rfl⟩
  rw [<-hkv2]
  have hok2:F_ TK kv2:=hkv2▸hok1.put (by show (_:Nat)<_;omega)
  have hat2:RH kv2=RK ts (3*t+2+1):=by rw [hkv2,Ja,JD (show 2<3 by decide),<-hT,<-hat1,Ip];show Az _ T.2.2 (sq2.l++[t])=Az _ (CU T 2) (((Ac kv1 (CU T 2)).getD LD).l++[t]);rw [show CU T 2=T.2.2 from rfl,<-hsq2]
  refine AD.nil (AC.subF (sL [1,2,3,4,28,29,30,6,5,35,36] rfl) (AC.in_normal (AC.then_ (AF.region (AH (AW (c:=(3:Int)) rfl rfl (by decide)) rfl ?_)))))
  refine AJ rfl (AD.nil (AC.subF (sL [1,2,3,4,28,29,30,6,5,35,36] rfl) (AC.again (Gd.step (q4 ?_)))))
  refine AH (Ad (c:=false) rfl rfl (by decide)) rfl (AD.nil (q1 (AF.cond_false rfl (AF.exit (AC.then_exit ?_)))))
  refine AC.then_exit (AC.in_exit (AC.in_normal (AC.then_ (AF.region (AH (AW (c:=((t+1:Nat):Int)) rfl rfl (AR (a:=t) (b:=1) (by omega))) rfl ?_)))))
  exact AJ rfl (AD.nil (AC.subF (sL [1,2,3,4,28,29,30,6,5,35,36] rfl) (AC.round2 (t+1) kv2 (⟨by omega,hok2,hat2⟩) (by omega) (sF rfl) (sl (sl (sl (sl sr)))))))
 ·replace hc1:=of_decide_eq_false hc1
  have hatl:∀p,((Ac kv p).getD LD).l=Ik ts p:=λp=>by unfold Ik;rw [<-Ip,hat,show 3*t+0=3*ts.length by omega]
  refine AF.exit (AC.then_exit (AC.round2_exit (AC.in_exit (q2 (AH (v:=(pP b1 1)) (AA rfl Tryz.underlying30 rfl Tryz.sizeOf23 rfl) rfl ?_)))))
  refine AD.frzRO (A:=[Bd b2 vN Ha kv,Ab b1 30 (CC x),AI x.a.p (rowsL BE ps),AI x.b.p (rowsL Aq ts),AI x.c.p (rowsL Aq ss)]) (kvs:=kv) (BD 1 (Value.slice x.b.p ts.length x.b.c) EU rfl (AH (v:=(vN ts.length)) (AE rfl Tryz.underlying23) rfl ?_))
  refine AD.makeInt (m:=ts.length) Xf rfl rfl (by omega) rfl rfl ?_;intro bm hbm;rw [show List.replicate ts.length 0=RF ts.length 0 from rfl]
  refine asg' rfl (q6 (sL [1,2,3,4,28,29,30] rfl) (q4 (AJ rfl (AH (v:=(vN ts.length)) (AE rfl Tryz.underlying70) rfl (AJ rfl ?_)))))
  refine AD.nil (AC.subF (sL [1,2,3,4,28,29,30,54,55] rfl) (AC.then_ (AF.block ?_)))
  refine AF.lp1 (tg λ(q:Nat)=>q<=ts.length) (tg λ(q:Nat)=>[(1,(pP b1 0)),(2,(Value.slice (some ⟨bm,0,none⟩) ts.length ts.length)),(3,(vI 0)),(4,(Value.map (some b2))),(54,(vN ts.length)),(55,(vN q))]) (tg λ(q:Nat)=>(rowW (some ⟨bm,0,none⟩) 3 1 ts.length ts.length (zL (RF ts.length q))::Bd b2 vN Ha kv::Ab b1 30 (CC x)::AI x.a.p (rowsL BE ps)::AI x.b.p (rowsL Aq ts)::AI x.c.p (rowsL Aq ss)::RE kv)) (tg λ(q:Nat)=>ts.length-q) 0 (Nat.zero_le _) (sF rfl) sr (λq hJ=>?_)
  have hq:=hJ
  refine q4 (AH (Ad (c:=(decide (q<ts.length))) rfl rfl (CB (a:=q) (b:=ts.length))) rfl (AD.nil (q1 ?_)))
  refine AF.cond rfl (λhc3=>?_) (λhc3=>?_)
  ·replace hc3:=of_decide_eq_true hc3
   refine AF.skip (q1 (AF.block (q4 (AJ rfl (asg' rfl ?_)))))
   refine AD.nil (AC.subF (sL [1,2,3,4,54,55,9] rfl) (AC.then_ (AF.region (AJ rfl (AJ rfl ?_)))))
   refine AH (v:=(pP (pB (some ⟨bm,0,none⟩)) (pO (some ⟨bm,0,none⟩)+q*1))) (AL (j:=q) rfl rfl hbm.row Tryz.underlying70 Tryz.sizeOf3 rfl (by omega)) rfl (AD.storeRow0 (j:=q) (v:=(vI (-1:Int))) rfl rfl hbm (by rw [Ce,Nat.mul_one];exact (Pi (by omega))) (by omega) rfl Tryz.sizeOf3 rfl (JC _ _ _) (AD.nil (AC.subF (sL [1,2,3,4,54,55] rfl) (AC.in_normal (AC.then_ ?_)))))
   refine AF.region (AH (AW (c:=((q+1:Nat):Int)) rfl rfl (AR (a:=q) (b:=1) (by omega))) rfl (AJ rfl (AD.nil (AC.subF (sL [1,2,3,4,54,55] rfl) ?_))))
   rw [VO (by omega)]
   exact AC.round1 (q+1) (by omega) (by omega) (sF rfl) sr
  ·replace hc3:=of_decide_eq_false hc3
   rw [show RF ts.length q=RF ts.length ts.length by rw [show q=ts.length by omega]]
   refine AF.exit (AC.then_exit (AC.round1_exit (AC.in_exit (q1 (AF.label ?_)))))
   refine q1 (q4 (AJ rfl (AH (v:=(vN ts.length)) (AE rfl Tryz.underlying70) rfl (AJ rfl (AD.nil ?_)))))
   refine AC.subF (sL [1,2,3,4,54,55,63,64] rfl) (AC.then_ (AF.block ?_))
   refine AF.lp3 (tg λ(v:Nat) (n:Nat) (l:List Int)=>v<=ts.length/\Ox ts v n l) (tg λ(v:Nat) (n:Nat) (l:List Int)=>[(1,(pP b1 0)),(2,(Value.slice (some ⟨bm,0,none⟩) ts.length ts.length)),(4,(Value.map (some b2))),(63,(vN ts.length)),(64,(vN v)),(3,(vN n))]) (tg λ(v:Nat) (n:Nat) (l:List Int)=>(rowW (some ⟨bm,0,none⟩) 3 1 ts.length ts.length (zL l)::Bd b2 vN Ha kv::Ab b1 30 (CC x)::AI x.a.p (rowsL BE ps)::AI x.b.p (rowsL Aq ts)::AI x.c.p (rowsL Aq ss)::RE kv)) (tg λ(v:Nat) (n:Nat) (l:List Int)=>ts.length-v) 0 0 (RF ts.length ts.length) (⟨Nat.zero_le _,Ox.start (Pi (Nat.le_refl _)) (λs hs=>UY hs)⟩) (sF rfl) sr (λv n l hJ=>?_)
   obtain ⟨hv,hP⟩:=hJ
   have hnle:=hP.nle
   have hPl:=hP.len
   refine q4 (AH (Ad (c:=(decide (v<ts.length))) rfl rfl (CB (a:=v) (b:=ts.length))) rfl (AD.nil (q1 ?_)))
   refine AF.cond rfl (λhc4=>?_) (λhc4=>?_)
   ·replace hc4:=of_decide_eq_true hc4
    refine AF.skip (q1 (AF.block (q4 (AJ rfl (asg' rfl ?_)))))
    refine q6 (sL [1,2,4,63,64,3,10] rfl) (q4 (AJ rfl (AJ rfl (AH (v:=(pP (pB (some ⟨bm,0,none⟩)) (pO (some ⟨bm,0,none⟩)+v*1))) (AL (j:=v) rfl rfl hbm.row Tryz.underlying70 Tryz.sizeOf3 rfl (by omega)) rfl (AH (Bn (v:=(vI (l.getD v 0))) (i:=0) rfl rfl hbm (by rw [Ce,Nat.mul_one];exact hP.len) (hbm.row.ne (by omega)) Be (K4 (l:=l) (j:=v) (by omega))) rfl ?_)))))
    refine AH (C_ (c:=(decide ((0:Int)<=(l.getD v 0)))) rfl rfl rfl) rfl (AD.nil (AC.subF (sL [1,2,4,63,64,3,10,71] rfl) (AC.then_ ?_)))
    refine AF.cond rfl (λhc5=>?_) (λhc5=>?_)
    ·replace hc5:=of_decide_eq_true hc5
     refine AF.exit (AC.then_exit (AC.in_exit (AC.then_ (AF.region (AH (AW (c:=((v+1:Nat):Int)) rfl rfl (AR (a:=v) (b:=1) (by omega))) rfl ?_)))))
     exact AJ rfl (AD.nil (AC.subF (sL [1,2,4,63,64,3,10] rfl) (AC.round3 (v+1) n l (⟨by omega,hP.next hc5⟩) (by omega) (sF rfl) sr)))
    ·replace hc5:=of_decide_eq_false hc5
     have hng:gZ l v<0:=by show l.getD v 0<0;omega
     refine AF.skip (q2 (AJ rfl (AD.openV (V:=λbt=>(Value.slice (some ⟨bt,0,none⟩) 1 1)) (T:=3) (cs:=inL [v]) (AO rfl) (Am (cs:=inL [v]) (pv:=[(0,(vN v))]) Tryz.underlying70 Tryz.sizeOf3 Tryz.zeroValue3 (by decide) (by decide) rfl (by kernel_rfl)) rfl (AY rfl) λbt=>AD.asRow0 (z:=1) 1 rfl (by omega) λhbt=>asg' rfl ?_)))
     refine q3 (sL [1,2,4,63,64,3,10,11] rfl) (AJ rfl (AJ rfl (AJ rfl (AH (v:=(pP (pB (some ⟨bm,0,none⟩)) (pO (some ⟨bm,0,none⟩)+v*1))) (AL (j:=v) rfl rfl hbm.row Tryz.underlying70 Tryz.sizeOf3 rfl (by omega)) rfl (AD.storeRow1 (j:=v) (v:=(vN n)) rfl rfl hbm (by rw [Ce,Nat.mul_one];exact hP.len) (by omega) rfl Tryz.sizeOf3 rfl (JC _ _ _) ?_)))))
     refine q6 (sL [1,2,4,63,64,3,10,11] rfl) (AF.block ?_)
     refine AF.lp4 (tg λ(l2:List Int) (td:List Nat) (p2:Option Addr) (c2:Nat)=>Tx ts v n l l2 td/\OwnOk p2 td.length c2) (tg λ(l2:List Int) (td:List Nat) (p2:Option Addr) (c2:Nat)=>[(1,(pP b1 0)),(2,(Value.slice (some ⟨bm,0,none⟩) ts.length ts.length)),(4,(Value.map (some b2))),(63,(vN ts.length)),(64,(vN v)),(3,(vN n)),(11,(Value.slice p2 td.length c2))]) (tg λ(l2:List Int) (td:List Nat) (p2:Option Addr) (c2:Nat)=>(rowW p2 3 1 td.length c2 (inL td)::rowW (some ⟨bm,0,none⟩) 3 1 ts.length ts.length (zL l2)::Bd b2 vN Ha kv::Ab b1 30 (CC x)::AI x.a.p (rowsL BE ps)::AI x.b.p (rowsL Aq ts)::AI x.c.p (rowsL Aq ss)::RE kv)) (tg λ(l2:List Int) (td:List Nat) (p2:Option Addr) (c2:Nat)=>Qq l2 td) (l.set v ((n:Nat):Int)) ([v]) (some ⟨bt,0,none⟩) 1 (⟨Tx.start hP (by omega) hng,hbt⟩) (sF rfl) sr (λl2 td p2 c2 hJ=>?_)
     obtain ⟨hF,ho2⟩:=hJ
     have htl2:=hF.tl
     refine AF.seq (q4 (AJ rfl (AH (v:=(vN td.length)) (AE rfl Tryz.underlying70) rfl (AH (Bg (c:=(decide (0<td.length))) rfl rfl (CB (a:=0) (b:=td.length))) rfl (AD.nil ?_)))))
     refine AC.subF (sL [1,2,4,63,64,3,11,80] rfl) (AC.then_ ?_)
     refine AF.cond rfl (λhc6=>?_) (λhc6=>?_)
     ·replace hc6:=of_decide_eq_true hc6
      have hcl2:=ho2.le
      obtain ⟨k,hk⟩:∃q,q=td.getD (td.length-1) 0:=⟨_,rfl⟩
      have hfd:=hF.pop hc6
      rw [<-hk] at hfd
      have hkt:=hfd.kk.1
      obtain ⟨T,hT⟩:∃q,q=ts.getD k (0,0,0):=⟨_,rfl⟩
      obtain ⟨g1,g2,g3⟩:=DP (DK hnb hkt)
      rw [<-hT] at g1 g2 g3
      refine AF.skip (AC.then_ (AF.block (q4 (AJ rfl (AJ rfl ?_)))))
      refine AH (v:=(vN td.length)) (AE rfl Tryz.underlying70) rfl (AH (BL (c:=((td.length-1:Nat):Int)) rfl rfl (Bj (a:=td.length) (b:=1) (by omega) (by omega))) rfl (AH (v:=(pP (pB p2) (pO p2+(td.length-1)*1))) (AL (j:=td.length-1) rfl rfl ho2.row Tryz.underlying70 Tryz.sizeOf3 rfl (by omega)) rfl (AH (Bn (v:=(vN (td.getD (td.length-1) 0))) (i:=0) rfl rfl ho2 (by rw [Bh,Nat.mul_one]) (ho2.row.ne (by omega)) Be (DL (l:=td) (j:=td.length-1) (by omega))) rfl (AD.retell (k:=86) (u:=(vN k)) rfl (by rw [hk]) (asg' rfl ?_)))))
      refine q3 (sL [1,2,4,63,64,3,11,12] rfl) (AJ rfl (AJ rfl (AH (v:=(vN td.length)) (AE rfl Tryz.underlying70) rfl (AH (BL (c:=((td.length-1:Nat):Int)) rfl rfl (Bj (a:=td.length) (b:=1) (by omega) (by omega))) rfl (AH (v:=(Value.slice p2 (td.length-1) c2)) (Do (m:=td.length-1) rfl rfl Tryz.underlying70 Tryz.sizeOf3 (by omega)) rfl ?_)))))
      refine AD.shrink 0 rfl (show td.length-1<=td.length by omega) rfl ?_
      rw [show (inL td).take ((td.length-1)*1)=inL (td.take (td.length-1)) by rw [Nat.mul_one,M0]]
      obtain ⟨t2,ht2⟩:∃q,q=td.take (td.length-1):=⟨_,rfl⟩
      have hl2:td.length-1=t2.length:=by rw [ht2,List.length_take];omega
      rw [<-ht2,hl2]
      have ho3:OwnOk p2 t2.length c2:=ho2.less (by omega)
      rw [<-ht2] at hfd
      have hmu:=V7 (l:=l2) hc6
      rw [<-ht2] at hmu
      refine asg' rfl (q3 (sL [1,2,4,63,64,3,11,12] rfl) (AH (v:=(pP b1 1)) (AA rfl Tryz.underlying30 rfl Tryz.sizeOf23 rfl) rfl (BD 3 (Value.slice x.b.p ts.length x.b.c) EU rfl (AJ rfl (AH (v:=(pP (pB x.b.p) (pO x.b.p+k*3))) (AL (j:=k) rfl rfl x.b.ok Tryz.underlying23 Tryz.sizeOf53 rfl (by omega)) rfl ?_)))))
      refine AH (v:=(aG (Aq (ts.getD k ((0,0,0):Nat×Nat×Nat))))) (Ae (vs:=Aq (ts.getD k ((0,0,0):Nat×Nat×Nat))) (i:=5) rfl rfl (A6.ne x.b.ok (by omega)) GL (Ax BR _ _ _ (by omega)) (BR _)) rfl (AD.retell (k:=96) (u:=(aG (Aq T))) rfl (by rw [hT]) (AJ rfl (AD.nil (AC.subF (sL [1,2,4,63,64,3,11,96,97] rfl) (AC.then_ ?_)))))
      refine AF.block (AF.unroll 4 (Gd.step (q4 (AH (Ad (c:=true) rfl rfl (by decide)) rfl (AD.nil ?_)))))
      refine q1 (AF.cond_true rfl (AF.skip (q1 (AF.block (q4 ?_)))))
      refine AH (v:=(vN T.1)) (B2 (j:=0) rfl rfl Tryz.underlying53 Tryz.sizeOf3 Tryz.isAgg3 (by decide) rfl) rfl (asg' rfl (q3 (sL [1,2,4,63,64,3,11,96,97,14] rfl) (AJ rfl (AJ rfl ?_))))
      obtain ⟨sr0,hsr0⟩:∃q,q=(Ac kv T.1).getD LD:=⟨_,rfl⟩
      refine AH (v:=(Value.slice sr0.p sr0.l.length sr0.c)) ((by rw [hsr0];exact BZ EG 2 (eV:=Ha) (kvs:=kv) (x:=T.1) (z0:=LD) (co:=false) rfl rfl Tryz.underlying195 Tryz.zeroValue70 rfl (hok) (by show (_:Nat)<_;omega))) rfl (AD.dupRO (A:=[rowW p2 3 1 t2.length c2 (inL t2),rowW (some ⟨bm,0,none⟩) 3 1 ts.length ts.length (zL l2),Bd b2 vN Ha kv,Ab b1 30 (CC x),AI x.a.p (rowsL BE ps),AI x.b.p (rowsL Aq ts),AI x.c.p (rowsL Aq ss)]) (kvs:=kv) (k:=T.1) hsr0 ?_)
      have hsl0:sr0.l=Ik ts (CU (ts.getD k (0,0,0)) 0):=by rw [<-hT,hsr0];exact hatl _
      have hsn0:sr0.l.length<=3*ts.length:=by rw [hsl0];exact Kz _
      refine AH (v:=(vN sr0.l.length)) (AE rfl Tryz.underlying70) rfl (AJ rfl (AD.nil (AC.subF (sL [1,2,4,63,64,3,11,96,97,102,103,104] rfl) (AC.then_ (AF.block ?_)))))
      refine AF.lp5 (tg λ(j0:Nat) (la0:List Int) (ta0:List Nat) (pa0:Option Addr) (ca0:Nat)=>La ts v n l la0 ta0 k 0 j0/\OwnOk pa0 ta0.length ca0/\Qq la0 ta0<Qq l2 td/\j0<=sr0.l.length) (tg λ(j0:Nat) (la0:List Int) (ta0:List Nat) (pa0:Option Addr) (ca0:Nat)=>[(1,(pP b1 0)),(2,(Value.slice (some ⟨bm,0,none⟩) ts.length ts.length)),(4,(Value.map (some b2))),(63,(vN ts.length)),(64,(vN v)),(3,(vN n)),(96,(aG (Aq T))),(97,(vI 0)),(102,(Value.slice sr0.p sr0.l.length sr0.c)),(103,(vN sr0.l.length)),(104,(vN j0)),(11,(Value.slice pa0 ta0.length ca0))]) (tg λ(j0:Nat) (la0:List Int) (ta0:List Nat) (pa0:Option Addr) (ca0:Nat)=>(AI sr0.p (inL sr0.l)::rowW pa0 3 1 ta0.length ca0 (inL ta0)::rowW (some ⟨bm,0,none⟩) 3 1 ts.length ts.length (zL la0)::Bd b2 vN Ha kv::Ab b1 30 (CC x)::AI x.a.p (rowsL BE ps)::AI x.b.p (rowsL Aq ts)::AI x.c.p (rowsL Aq ss)::RE kv)) (tg λ(j0:Nat) (la0:List Int) (ta0:List Nat) (pa0:Option Addr) (ca0:Nat)=>sr0.l.length-j0) 0 l2 t2 p2 c2 (⟨hfd,ho3,hmu,Nat.zero_le _⟩) (sF rfl) sr (λj0 la0 ta0 pa0 ca0 hJ=>?_)
      obtain ⟨hf0,hoa0,hm0,hjs0⟩:=hJ
      have htt0:=hf0.tl
      have hLl0:=hf0.len
      refine q4 (AH (Ad (c:=(decide (j0<sr0.l.length))) rfl rfl (CB (a:=j0) (b:=sr0.l.length))) rfl (AD.nil (q1 ?_)))
      refine AF.cond rfl (λhc8=>?_) (λhc8=>?_)
      ·replace hc8:=of_decide_eq_true hc8
       obtain ⟨o,ho⟩:∃q,q=sr0.l.getD j0 0:=⟨_,rfl⟩
       have ho9:o=(Ik ts (CU (ts.getD k (0,0,0)) 0)).getD j0 0:=by rw [<-hsl0];exact ho
       have hjl:j0<(Ik ts (CU (ts.getD k (0,0,0)) 0)).length:=by rw [<-hsl0];exact hc8
       have hol:o<ts.length:=(FK.1 (by rw [ho9];exact E8 hjl)).1
       refine AF.skip (q1 (AF.block (q4 (AH (v:=(pP (pB sr0.p) (pO sr0.p+j0*1))) (AL (j:=j0) rfl rfl sr0.ok.row Tryz.underlying70 Tryz.sizeOf3 rfl (by omega)) rfl (AH (AZ (v:=(vN (sr0.l.getD j0 0))) (i:=0) rfl rfl (sr0.ok.row.ne (by omega)) Be (DL (l:=sr0.l) (j:=j0) (by omega))) rfl ?_)))))
       refine AD.retell (k:=107) (u:=(vN o)) rfl (by rw [ho]) (asg' rfl (q3 (sL [1,2,4,63,64,3,96,97,102,103,104,11,16] rfl) (AJ rfl (AJ rfl (AH (v:=(pP (pB (some ⟨bm,0,none⟩)) (pO (some ⟨bm,0,none⟩)+o*1))) (AL (j:=o) rfl rfl hbm.row Tryz.underlying70 Tryz.sizeOf3 rfl (by omega)) rfl ?_)))))
       refine AH (Bn (v:=(vI (la0.getD o 0))) (i:=2) rfl rfl hbm (by rw [Ce,Nat.mul_one];exact hf0.len) (hbm.row.ne (by omega)) Be (K4 (l:=la0) (j:=o) (by omega))) rfl (AH (Ad (c:=(decide ((la0.getD o 0)<(0:Int)))) rfl rfl rfl) rfl (AD.nil (AC.subF (sL [1,2,4,63,64,3,96,97,102,103,104,11,16,112] rfl) (AC.then_ ?_))))
       refine AF.cond rfl (λhc9=>?_) (λhc9=>?_)
       ·replace hc9:=of_decide_eq_true hc9
        refine q4 (AJ rfl (AJ rfl (AJ rfl (AH (v:=(pP (pB (some ⟨bm,0,none⟩)) (pO (some ⟨bm,0,none⟩)+o*1))) (AL (j:=o) rfl rfl hbm.row Tryz.underlying70 Tryz.sizeOf3 rfl (by omega)) rfl (AD.storeRow2 (j:=o) (v:=(vN n)) rfl rfl hbm (by rw [Ce,Nat.mul_one];exact hf0.len) (by omega) rfl Tryz.sizeOf3 rfl (JC _ _ _) ?_)))))
        refine AD.nil (AC.subF (sL [1,2,4,63,64,3,96,97,102,103,104,11,16] rfl) (AC.then_ (AF.region (AJ rfl (AJ rfl ?_)))))
        refine AD.openV (V:=λb3=>(Value.slice (some ⟨b3,0,none⟩) 1 1)) (T:=3) (cs:=[(vN o)]) (AO rfl) (Am (cs:=[(vN o)]) (pv:=[(0,(vN o))]) Tryz.underlying70 Tryz.sizeOf3 Tryz.zeroValue3 (by decide) (by decide) rfl (by kernel_rfl)) rfl (AY rfl) λb3=>AD.append2 (j:=0) (cs2:=inL (ta0++[o])) LN rfl hoa0 (by rw [Bh,Nat.mul_one]) rfl rfl rfl rfl (by decide) (GR (by omega)) (by omega) (by rw [Cr];rfl) rfl λp_4 c_4 ho_4 hne_4=>asg' rfl (AD.nil (AC.subF (sL [1,2,4,63,64,3,96,97,102,103,104,11,16] rfl) (AC.in_normal ?_)))
        refine AC.then_ (AF.region (AH (AW (c:=((j0+1:Nat):Int)) rfl rfl (AR (a:=j0) (b:=1) (by omega))) rfl (AJ rfl (AD.nil (AC.subF (sL [1,2,4,63,64,3,96,97,102,103,104,11,16] rfl) ?_)))))
        rw [show ta0.length+1=(ta0++[o]).length by simp]
        exact AC.round5 (j0+1) (la0.set o ((n:Nat):Int)) (ta0++[o]) p_4 c_4 (⟨hf0.push hP (by omega) ho9 hjl (by decide) hc9,by simpa using ho_4,Nat.lt_trans (Ln (by rw [hf0.len];exact hol) (hf0.isneg hol hc9)) hm0,by omega⟩) (by omega) (sF rfl) (sl sr)
       ·replace hc9:=of_decide_eq_false hc9
        refine AF.skip (AC.in_normal (AC.then_ (AF.region (AH (AW (c:=((j0+1:Nat):Int)) rfl rfl (AR (a:=j0) (b:=1) (by omega))) rfl (AJ rfl ?_)))))
        exact AD.nil (AC.subF (sL [1,2,4,63,64,3,96,97,102,103,104,11,16] rfl) (AC.round5 (j0+1) la0 ta0 pa0 ca0 (⟨hf0.keep hP ho9 hjl (by decide) (by show 0<=la0.getD o 0;omega),hoa0,hm0,by omega⟩) (by omega) (sF rfl) sr))
      ·replace hc8:=of_decide_eq_false hc8
       have hfe0:=hf0.corner (by rw [<-hsl0];omega)
       refine AF.exit (AC.then_exit (AC.round5_exit (AC.in_exit (AC.in_normal (AC.then_ ?_)))))
       refine AF.region (AH (AW (c:=(1:Int)) rfl rfl (by decide)) rfl (AJ rfl (AD.nil (AC.subF (sL [1,2,4,63,64,3,96,97,102,103,104,11] rfl) (AC.again ?_)))))
       refine Gd.step (q4 (AH (Ad (c:=true) rfl rfl (by decide)) rfl (AD.nil (q1 (AF.cond_true rfl ?_)))))
       refine AF.skip (q1 (AF.block (q4 (AH (v:=(vN T.2.1)) (B2 (j:=1) rfl rfl Tryz.underlying53 Tryz.sizeOf3 Tryz.isAgg3 (by decide) rfl) rfl (asg' rfl ?_)))))
       refine q3 (sL [1,2,4,63,64,3,96,97,102,103,104,11,14] rfl) (AJ rfl (AJ rfl ?_))
       obtain ⟨sr1,hsr1⟩:∃q,q=(Ac kv T.2.1).getD LD:=⟨_,rfl⟩
       refine AH (v:=(Value.slice sr1.p sr1.l.length sr1.c)) ((by rw [hsr1];exact BZ EG 3 (eV:=Ha) (kvs:=kv) (x:=T.2.1) (z0:=LD) (co:=false) rfl rfl Tryz.underlying195 Tryz.zeroValue70 rfl (hok) (by show (_:Nat)<_;omega))) rfl (AD.dupRO (A:=[AI sr0.p (inL sr0.l),rowW pa0 3 1 ta0.length ca0 (inL ta0),rowW (some ⟨bm,0,none⟩) 3 1 ts.length ts.length (zL la0),Bd b2 vN Ha kv,Ab b1 30 (CC x),AI x.a.p (rowsL BE ps),AI x.b.p (rowsL Aq ts),AI x.c.p (rowsL Aq ss)]) (kvs:=kv) (k:=T.2.1) hsr1 ?_)
       have hsl1:sr1.l=Ik ts (CU (ts.getD k (0,0,0)) 1):=by rw [<-hT,hsr1];exact hatl _
       have hsn1:sr1.l.length<=3*ts.length:=by rw [hsl1];exact Kz _
       refine AH (v:=(vN sr1.l.length)) (AE rfl Tryz.underlying70) rfl (AJ rfl (AD.nil (AC.subF (sL [1,2,4,63,64,3,96,97,102,103,104,11] rfl) (AC.then_ (AF.block ?_)))))
       refine AF.lp5 (tg λ(j1:Nat) (la1:List Int) (ta1:List Nat) (pa1:Option Addr) (ca1:Nat)=>La ts v n l la1 ta1 k 1 j1/\OwnOk pa1 ta1.length ca1/\Qq la1 ta1<Qq l2 td/\j1<=sr1.l.length) (tg λ(j1:Nat) (la1:List Int) (ta1:List Nat) (pa1:Option Addr) (ca1:Nat)=>[(1,(pP b1 0)),(2,(Value.slice (some ⟨bm,0,none⟩) ts.length ts.length)),(4,(Value.map (some b2))),(63,(vN ts.length)),(64,(vN v)),(3,(vN n)),(96,(aG (Aq T))),(97,(vI 1)),(102,(Value.slice sr1.p sr1.l.length sr1.c)),(103,(vN sr1.l.length)),(104,(vN j1)),(11,(Value.slice pa1 ta1.length ca1))]) (tg λ(j1:Nat) (la1:List Int) (ta1:List Nat) (pa1:Option Addr) (ca1:Nat)=>(AI sr1.p (inL sr1.l)::AI sr0.p (inL sr0.l)::rowW pa1 3 1 ta1.length ca1 (inL ta1)::rowW (some ⟨bm,0,none⟩) 3 1 ts.length ts.length (zL la1)::Bd b2 vN Ha kv::Ab b1 30 (CC x)::AI x.a.p (rowsL BE ps)::AI x.b.p (rowsL Aq ts)::AI x.c.p (rowsL Aq ss)::RE kv)) (tg λ(j1:Nat) (la1:List Int) (ta1:List Nat) (pa1:Option Addr) (ca1:Nat)=>sr1.l.length-j1) 0 la0 ta0 pa0 ca0 (⟨hfe0,hoa0,hm0,Nat.zero_le _⟩) (sF rfl) sr (λj1 la1 ta1 pa1 ca1 hJ=>?_)
       obtain ⟨hf1,hoa1,hm1,hjs1⟩:=hJ
       have htt1:=hf1.tl
       have hLl1:=hf1.len
       refine q4 (AH (Ad (c:=(decide (j1<sr1.l.length))) rfl rfl (CB (a:=j1) (b:=sr1.l.length))) rfl (AD.nil (q1 ?_)))
       refine AF.cond rfl (λhc8=>?_) (λhc8=>?_)
       ·replace hc8:=of_decide_eq_true hc8
        obtain ⟨o,ho⟩:∃q,q=sr1.l.getD j1 0:=⟨_,rfl⟩
        have ho9:o=(Ik ts (CU (ts.getD k (0,0,0)) 1)).getD j1 0:=by rw [<-hsl1];exact ho
        have hjl:j1<(Ik ts (CU (ts.getD k (0,0,0)) 1)).length:=by rw [<-hsl1];exact hc8
        have hol:o<ts.length:=(FK.1 (by rw [ho9];exact E8 hjl)).1
        refine AF.skip (q1 (AF.block (q4 (AH (v:=(pP (pB sr1.p) (pO sr1.p+j1*1))) (AL (j:=j1) rfl rfl sr1.ok.row Tryz.underlying70 Tryz.sizeOf3 rfl (by omega)) rfl (AH (AZ (v:=(vN (sr1.l.getD j1 0))) (i:=0) rfl rfl (sr1.ok.row.ne (by omega)) Be (DL (l:=sr1.l) (j:=j1) (by omega))) rfl ?_)))))
        refine AD.retell (k:=107) (u:=(vN o)) rfl (by rw [ho]) (asg' rfl (q3 (sL [1,2,4,63,64,3,96,97,102,103,104,11,16] rfl) (AJ rfl (AJ rfl (AH (v:=(pP (pB (some ⟨bm,0,none⟩)) (pO (some ⟨bm,0,none⟩)+o*1))) (AL (j:=o) rfl rfl hbm.row Tryz.underlying70 Tryz.sizeOf3 rfl (by omega)) rfl ?_)))))
        refine AH (Bn (v:=(vI (la1.getD o 0))) (i:=3) rfl rfl hbm (by rw [Ce,Nat.mul_one];exact hf1.len) (hbm.row.ne (by omega)) Be (K4 (l:=la1) (j:=o) (by omega))) rfl (AH (Ad (c:=(decide ((la1.getD o 0)<(0:Int)))) rfl rfl rfl) rfl (AD.nil (AC.subF (sL [1,2,4,63,64,3,96,97,102,103,104,11,16,112] rfl) (AC.then_ ?_))))
        refine AF.cond rfl (λhc9=>?_) (λhc9=>?_)
        ·replace hc9:=of_decide_eq_true hc9
         refine q4 (AJ rfl (AJ rfl (AJ rfl (AH (v:=(pP (pB (some ⟨bm,0,none⟩)) (pO (some ⟨bm,0,none⟩)+o*1))) (AL (j:=o) rfl rfl hbm.row Tryz.underlying70 Tryz.sizeOf3 rfl (by omega)) rfl (AD.storeRow3 (j:=o) (v:=(vN n)) rfl rfl hbm (by rw [Ce,Nat.mul_one];exact hf1.len) (by omega) rfl Tryz.sizeOf3 rfl (JC _ _ _) ?_)))))
         refine AD.nil (AC.subF (sL [1,2,4,63,64,3,96,97,102,103,104,11,16] rfl) (AC.then_ (AF.region (AJ rfl (AJ rfl ?_)))))
         refine AD.openV (V:=λb3=>(Value.slice (some ⟨b3,0,none⟩) 1 1)) (T:=3) (cs:=[(vN o)]) (AO rfl) (Am (cs:=[(vN o)]) (pv:=[(0,(vN o))]) Tryz.underlying70 Tryz.sizeOf3 Tryz.zeroValue3 (by decide) (by decide) rfl (by kernel_rfl)) rfl (AY rfl) λb3=>AD.appendAt 3 (j:=0) (cs2:=inL (ta1++[o])) LN rfl hoa1 (by rw [Bh,Nat.mul_one]) rfl rfl rfl rfl rfl (by decide) (GR (by omega)) (by omega) (by rw [Cr];rfl) rfl λp_5 c_5 ho_5 hne_5=>asg' rfl (AD.nil (AC.subF (sL [1,2,4,63,64,3,96,97,102,103,104,11,16] rfl) (AC.in_normal ?_)))
         refine AC.then_ (AF.region (AH (AW (c:=((j1+1:Nat):Int)) rfl rfl (AR (a:=j1) (b:=1) (by omega))) rfl (AJ rfl (AD.nil (AC.subF (sL [1,2,4,63,64,3,96,97,102,103,104,11,16] rfl) ?_)))))
         rw [show ta1.length+1=(ta1++[o]).length by simp]
         exact AC.round5 (j1+1) (la1.set o ((n:Nat):Int)) (ta1++[o]) p_5 c_5 (⟨hf1.push hP (by omega) ho9 hjl (by decide) hc9,by simpa using ho_5,Nat.lt_trans (Ln (by rw [hf1.len];exact hol) (hf1.isneg hol hc9)) hm1,by omega⟩) (by omega) (sF rfl) (sl sr)
        ·replace hc9:=of_decide_eq_false hc9
         refine AF.skip (AC.in_normal (AC.then_ (AF.region (AH (AW (c:=((j1+1:Nat):Int)) rfl rfl (AR (a:=j1) (b:=1) (by omega))) rfl (AJ rfl ?_)))))
         exact AD.nil (AC.subF (sL [1,2,4,63,64,3,96,97,102,103,104,11,16] rfl) (AC.round5 (j1+1) la1 ta1 pa1 ca1 (⟨hf1.keep hP ho9 hjl (by decide) (by show 0<=la1.getD o 0;omega),hoa1,hm1,by omega⟩) (by omega) (sF rfl) sr))
       ·replace hc8:=of_decide_eq_false hc8
        have hfe1:=hf1.corner (by rw [<-hsl1];omega)
        refine AF.exit (AC.then_exit (AC.round5_exit (AC.in_exit (AC.in_normal (AC.then_ ?_)))))
        refine AF.region (AH (AW (c:=(2:Int)) rfl rfl (by decide)) rfl (AJ rfl (AD.nil (AC.subF (sL [1,2,4,63,64,3,96,97,102,103,104,11] rfl) (AC.again ?_)))))
        refine Gd.step (q4 (AH (Ad (c:=true) rfl rfl (by decide)) rfl (AD.nil (q1 (AF.cond_true rfl ?_)))))
        refine AF.skip (q1 (AF.block (q4 (AH (v:=(vN T.2.2)) (B2 (j:=2) rfl rfl Tryz.underlying53 Tryz.sizeOf3 Tryz.isAgg3 (by decide) rfl) rfl (asg' rfl ?_)))))
        refine q3 (sL [1,2,4,63,64,3,96,97,102,103,104,11,14] rfl) (AJ rfl (AJ rfl ?_))
        obtain ⟨sr2,hsr2⟩:∃q,q=(Ac kv T.2.2).getD LD:=⟨_,rfl⟩
        refine AH (v:=(Value.slice sr2.p sr2.l.length sr2.c)) ((by rw [hsr2];exact BZ EG 4 (eV:=Ha) (kvs:=kv) (x:=T.2.2) (z0:=LD) (co:=false) rfl rfl Tryz.underlying195 Tryz.zeroValue70 rfl (hok) (by show (_:Nat)<_;omega))) rfl (AD.dupRO (A:=[AI sr1.p (inL sr1.l),AI sr0.p (inL sr0.l),rowW pa1 3 1 ta1.length ca1 (inL ta1),rowW (some ⟨bm,0,none⟩) 3 1 ts.length ts.length (zL la1),Bd b2 vN Ha kv,Ab b1 30 (CC x),AI x.a.p (rowsL BE ps),AI x.b.p (rowsL Aq ts),AI x.c.p (rowsL Aq ss)]) (kvs:=kv) (k:=T.2.2) hsr2 ?_)
        have hsl2:sr2.l=Ik ts (CU (ts.getD k (0,0,0)) 2):=by rw [<-hT,hsr2];exact hatl _
        have hsn2:sr2.l.length<=3*ts.length:=by rw [hsl2];exact Kz _
        refine AH (v:=(vN sr2.l.length)) (AE rfl Tryz.underlying70) rfl (AJ rfl (AD.nil (AC.subF (sL [1,2,4,63,64,3,96,97,102,103,104,11] rfl) (AC.then_ (AF.block ?_)))))
        refine AF.lp5 (tg λ(j2:Nat) (la2:List Int) (ta2:List Nat) (pa2:Option Addr) (ca2:Nat)=>La ts v n l la2 ta2 k 2 j2/\OwnOk pa2 ta2.length ca2/\Qq la2 ta2<Qq l2 td/\j2<=sr2.l.length) (tg λ(j2:Nat) (la2:List Int) (ta2:List Nat) (pa2:Option Addr) (ca2:Nat)=>[(1,(pP b1 0)),(2,(Value.slice (some ⟨bm,0,none⟩) ts.length ts.length)),(4,(Value.map (some b2))),(63,(vN ts.length)),(64,(vN v)),(3,(vN n)),(96,(aG (Aq T))),(97,(vI 2)),(102,(Value.slice sr2.p sr2.l.length sr2.c)),(103,(vN sr2.l.length)),(104,(vN j2)),(11,(Value.slice pa2 ta2.length ca2))]) (tg λ(j2:Nat) (la2:List Int) (ta2:List Nat) (pa2:Option Addr) (ca2:Nat)=>(AI sr2.p (inL sr2.l)::AI sr1.p (inL sr1.l)::AI sr0.p (inL sr0.l)::rowW pa2 3 1 ta2.length ca2 (inL ta2)::rowW (some ⟨bm,0,none⟩) 3 1 ts.length ts.length (zL la2)::Bd b2 vN Ha kv::Ab b1 30 (CC x)::AI x.a.p (rowsL BE ps)::AI x.b.p (rowsL Aq ts)::AI x.c.p (rowsL Aq ss)::RE kv)) (tg λ(j2:Nat) (la2:List Int) (ta2:List Nat) (pa2:Option Addr) (ca2:Nat)=>sr2.l.length-j2) 0 la1 ta1 pa1 ca1 (⟨hfe1,hoa1,hm1,Nat.zero_le _⟩) (sF rfl) sr (λj2 la2 ta2 pa2 ca2 hJ=>?_)
        obtain ⟨hf2,hoa2,hm2,hjs2⟩:=hJ
        have htt2:=hf2.tl
        have hLl2:=hf2.len
        refine q4 (AH (Ad (c:=(decide (j2<sr2.l.length))) rfl rfl (CB (a:=j2) (b:=sr2.l.length))) rfl (AD.nil (q1 ?_)))
        refine AF.cond rfl (λhc8=>?_) (λhc8=>?_)
        ·replace hc8:=of_decide_eq_true hc8
         obtain ⟨o,ho⟩:∃q,q=sr2.l.getD j2 0:=⟨_,rfl⟩
         have ho9:o=(Ik ts (CU (ts.getD k (0,0,0)) 2)).getD j2 0:=by rw [<-hsl2];exact ho
         have hjl:j2<(Ik ts (CU (ts.getD k (0,0,0)) 2)).length:=by rw [<-hsl2];exact hc8
         have hol:o<ts.length:=(FK.1 (by rw [ho9];exact E8 hjl)).1
         refine AF.skip (q1 (AF.block (q4 (AH (v:=(pP (pB sr2.p) (pO sr2.p+j2*1))) (AL (j:=j2) rfl rfl sr2.ok.row Tryz.underlying70 Tryz.sizeOf3 rfl (by omega)) rfl (AH (AZ (v:=(vN (sr2.l.getD j2 0))) (i:=0) rfl rfl (sr2.ok.row.ne (by omega)) Be (DL (l:=sr2.l) (j:=j2) (by omega))) rfl ?_)))))
         refine AD.retell (k:=107) (u:=(vN o)) rfl (by rw [ho]) (asg' rfl (q3 (sL [1,2,4,63,64,3,96,97,102,103,104,11,16] rfl) (AJ rfl (AJ rfl (AH (v:=(pP (pB (some ⟨bm,0,none⟩)) (pO (some ⟨bm,0,none⟩)+o*1))) (AL (j:=o) rfl rfl hbm.row Tryz.underlying70 Tryz.sizeOf3 rfl (by omega)) rfl ?_)))))
         refine AH (Bn (v:=(vI (la2.getD o 0))) (i:=4) rfl rfl hbm (by rw [Ce,Nat.mul_one];exact hf2.len) (hbm.row.ne (by omega)) Be (K4 (l:=la2) (j:=o) (by omega))) rfl (AH (Ad (c:=(decide ((la2.getD o 0)<(0:Int)))) rfl rfl rfl) rfl (AD.nil (AC.subF (sL [1,2,4,63,64,3,96,97,102,103,104,11,16,112] rfl) (AC.then_ ?_))))
         refine AF.cond rfl (λhc9=>?_) (λhc9=>?_)
         ·replace hc9:=of_decide_eq_true hc9
          refine q4 (AJ rfl (AJ rfl (AJ rfl (AH (v:=(pP (pB (some ⟨bm,0,none⟩)) (pO (some ⟨bm,0,none⟩)+o*1))) (AL (j:=o) rfl rfl hbm.row Tryz.underlying70 Tryz.sizeOf3 rfl (by omega)) rfl (AD.storeRow4 (j:=o) (v:=(vN n)) rfl rfl hbm (by rw [Ce,Nat.mul_one];exact hf2.len) (by omega) rfl Tryz.sizeOf3 rfl (JC _ _ _) ?_)))))
          refine AD.nil (AC.subF (sL [1,2,4,63,64,3,96,97,102,103,104,11,16] rfl) (AC.then_ (AF.region (AJ rfl (AJ rfl ?_)))))
          refine AD.openV (V:=λb3=>(Value.slice (some ⟨b3,0,none⟩) 1 1)) (T:=3) (cs:=[(vN o)]) (AO rfl) (Am (cs:=[(vN o)]) (pv:=[(0,(vN o))]) Tryz.underlying70 Tryz.sizeOf3 Tryz.zeroValue3 (by decide) (by decide) rfl (by kernel_rfl)) rfl (AY rfl) λb3=>AD.appendAt 4 (j:=0) (cs2:=inL (ta2++[o])) LN rfl hoa2 (by rw [Bh,Nat.mul_one]) rfl rfl rfl rfl rfl (by decide) (GR (by omega)) (by omega) (by rw [Cr];rfl) rfl λp_6 c_6 ho_6 hne_6=>asg' rfl (AD.nil (AC.subF (sL [1,2,4,63,64,3,96,97,102,103,104,11,16] rfl) (AC.in_normal ?_)))
          refine AC.then_ (AF.region (AH (AW (c:=((j2+1:Nat):Int)) rfl rfl (AR (a:=j2) (b:=1) (by omega))) rfl (AJ rfl (AD.nil (AC.subF (sL [1,2,4,63,64,3,96,97,102,103,104,11,16] rfl) ?_)))))
          rw [show ta2.length+1=(ta2++[o]).length by simp]
          exact AC.round5 (j2+1) (la2.set o ((n:Nat):Int)) (ta2++[o]) p_6 c_6 (⟨hf2.push hP (by omega) ho9 hjl (by decide) hc9,by simpa using ho_6,Nat.lt_trans (Ln (by rw [hf2.len];exact hol) (hf2.isneg hol hc9)) hm2,by omega⟩) (by omega) (sF rfl) (sl sr)
         ·replace hc9:=of_decide_eq_false hc9
          refine AF.skip (AC.in_normal (AC.then_ (AF.region (AH (AW (c:=((j2+1:Nat):Int)) rfl rfl (AR (a:=j2) (b:=1) (by omega))) rfl (AJ rfl ?_)))))
          exact AD.nil (AC.subF (sL [1,2,4,63,64,3,96,97,102,103,104,11,16] rfl) (AC.round5 (j2+1) la2 ta2 pa2 ca2 (⟨hf2.keep hP ho9 hjl (by decide) (by show 0<=la2.getD o 0;omega),hoa2,hm2,by omega⟩) (by omega) (sF rfl) sr))
        ·replace hc8:=of_decide_eq_false hc8
         have hfe2:=hf2.corner (by rw [<-hsl2];omega)
         refine AF.exit (AC.then_exit (AC.round5_exit (AC.in_exit (AC.in_normal (AC.then_ ?_)))))
         refine AF.region (AH (AW (c:=(3:Int)) rfl rfl (by decide)) rfl (AJ rfl (AD.nil (AC.subF (sL [1,2,4,63,64,3,96,97,102,103,104,11] rfl) (AC.again ?_)))))
         refine Gd.step (q4 (AH (Ad (c:=false) rfl rfl (by decide)) rfl (AD.nil (q1 (AF.cond_false rfl ?_)))))
         exact AF.exit (AC.then_exit (AC.then_exit (AC.in_exit (AC.in_normal (AC.round4 la2 ta2 pa2 ca2 (⟨hfe2.close,hoa2⟩) (hm2) (sF rfl) (sl (sl (sl sr))))))))
     ·replace hc6:=of_decide_eq_false hc6
      have hfin:=hF.finish hP (by omega) (by omega) hng
      refine AF.exit (AC.then_exit (AC.round4_exit (AC.in_exit (AC.then_ (AF.region ?_)))))
      refine AJ rfl (AH (AW (c:=((n+1:Nat):Int)) rfl rfl (AR (a:=n) (b:=1) (by omega))) rfl (asg' rfl (AD.nil (AC.subF (sL [1,2,4,63,64,3,11] rfl) (AC.in_normal ?_)))))
      exact AC.then_ (AF.region (AH (AW (c:=((v+1:Nat):Int)) rfl rfl (AR (a:=v) (b:=1) (by omega))) rfl (AJ rfl (AD.nil (AC.subF (sL [1,2,4,63,64,3,11] rfl) (AC.round3 (v+1) (n+1) l2 (⟨by omega,hfin⟩) (by omega) (sF rfl) (sl sr)))))))
   ·replace hc4:=of_decide_eq_false hc4
    refine AF.exit (AC.then_exit (AC.round3_exit (AC.in_exit (q2 (AJ rfl ?_)))))
    refine AJ rfl (asg' rfl (asg' rfl (AD.nil (AC.subF (sL [1,2,4,63,64,3] rfl) (AC.then_ ?_)))))
    exact AF.ret (AC.scope_ret (Br rfl (AQ (v:=(Value.slice (some ⟨bm,0,none⟩) ts.length ts.length)) rfl) (AQ (v:=(vN n)) rfl) (λw hw=>(Xp hw 0 rfl hbm hPl.symm (by have h9:=hP;rw [show v=ts.length by omega] at h9;exact h9.fin) rfl))))
end
end Go.Proofs.YtpgncndhhhllfaaGreatDoor
