import Derived.Test.YtfbomiejpbchdaaGreatPart39
namespace Go.Proofs.YtfbomiejpbchdaaGreat
open Go Go.RowKit
set_option linter.unusedVariables false
set_option linter.unusedSimpArgs false
section
set_option maxRecDepth 100000
theorem Xc:Tz Tryz.prog 33 3 (vN 0) 8:=⟨Tryz.underlying33,_,_,rfl,rfl,rfl,rfl,rfl⟩
set_option maxHeartbeats 8000000 in
theorem Jk {ps:List Pt} {ts ss:List T3} (x:MX ps ts ss) (hnb:Ba ps.length ts=true) (hne:0<ts.length) (hp:ps.length<=1000000) (htl:ts.length<=1000000) (w:World) {S:Nat->Prop} (hx:Ro S w x):Calls Tryz.prog 14 #[(aG (B5 x))] w (Bc (XH ts) S w):=by
 have lx:=H0 (W:=w) hx
 refine BQ (args:=[(aG (B5 x))]) (L:=[AX x.a.p (rowsL An ps),AX x.b.p (rowsL Ai ts),AX x.c.p (rowsL Ai ss)]) Tryz.func14 rfl rfl (Af rfl) (Hy hx Bo) (AE.subF (sL [0] rfl) (q4 (CB (cs:=B5 x) rfl λb1=>AL rfl (AL rfl ?_))))
 refine AD.nil (AC.subF (sL [1,2,3] rfl) (AC.then_ (AE.scope (AE.seq (q4 ?_)))))
 refine BF 0 DW rfl (IC (args:=[(aG (B5 x))]) (v:=(Value.bool true)) Tryz.call46 (λw hw=>(by have h9:=JL x (by omega) w (Eu hw 1 rfl lx);rw [hnb] at h9;exact h9)) rfl (AH (CR (c:=false) rfl rfl) rfl (AO rfl (AD.step (v:=(pP b1 1)) (AB rfl) (AA rfl Tryz.underlying31 rfl Tryz.sizeOf28 rfl) rfl (Af rfl) (AD.step (v:=(Value.slice x.b.p ts.length x.b.c)) (AB rfl) (AK (i:=0) (v:=(Value.slice x.b.p ts.length x.b.c)) rfl rfl Di.a rfl) rfl (Af rfl) ?_)))))
 refine AD.step (v:=(vN ts.length)) (AB rfl) (AF rfl Tryz.underlying28) rfl (Af rfl) (AD.step (v:=(Value.bool false)) (AB rfl) (Bp (c:=false) rfl rfl (decide_eq_false (by omega))) rfl (Af rfl) (AH (v:=(Value.bool false)) (Aa rfl rfl) rfl (AD.nil (AC.subF (sL [1,2,3,25] rfl) (AC.then_ ?_)))))
 refine AE.cond_false rfl (AE.skip (q2 (AD.makeMap vN IR (AN rfl) rfl λb2=>AL rfl (q6 (sL [1,2,3,4] rfl) ?_))))
 refine q4 (AH (v:=(pP b1 1)) (AA rfl Tryz.underlying31 rfl Tryz.sizeOf28 rfl) rfl (BI 1 (Value.slice x.b.p ts.length x.b.c) Di rfl (AH (v:=(vN ts.length)) (AF rfl Tryz.underlying28) rfl (AO rfl (AD.nil ?_)))))
 refine AC.subF (sL [1,2,3,4,28,29,30] rfl) (AC.then_ (AE.block ?_))
 refine AE.lp2 (tg λ(t:Nat) (kv:List (Nat×RO))=>t<=ts.length/\F3 Sv kv/\RT kv=RZ ts (3*t+0)) (tg λ(t:Nat) (kv:List (Nat×RO))=>[(1,(pP b1 0)),(2,(Value.slice none 0 0)),(3,(vI 0)),(4,(Value.map (some b2))),(28,(Value.slice x.b.p ts.length x.b.c)),(29,(vN ts.length)),(30,(vN t))]) (tg λ(t:Nat) (kv:List (Nat×RO))=>(Br b2 vN IR kv::Ac b1 31 (B5 x)::AX x.a.p (rowsL An ps)::AX x.b.p (rowsL Ai ts)::AX x.c.p (rowsL Ai ss)::Pv 3 kv)) (tg λ(t:Nat) (kv:List (Nat×RO))=>ts.length-t) 0 ([]:List (Nat×RO)) (⟨Nat.zero_le _,F3.nil,rfl⟩) (sF rfl) sr (λt kv hJ=>?_)
 obtain ⟨ht,hok,hat⟩:=hJ
 refine q4 (AH (Ag (c:=(decide (t<ts.length))) rfl rfl (DA (a:=t) (b:=ts.length))) rfl (AD.nil (q1 ?_)))
 refine AE.cond rfl (λhc1=>?_) (λhc1=>?_)
 ·replace hc1:=of_decide_eq_true hc1
  obtain ⟨T,hT⟩:∃q,q=ts.getD t (0,0,0):=⟨_,rfl⟩
  obtain ⟨g1,g2,g3⟩:=DE (DN hnb hc1)
  rw [<-hT] at g1 g2 g3
  refine AE.skip (q1 (AE.block (q4 (AO rfl (AH (v:=(pP (pB x.b.p) (pO x.b.p+t*3))) (AQ (j:=t) rfl rfl x.b.ok Tryz.underlying28 Tryz.sizeOf76 rfl (by omega)) rfl ?_)))))
  refine AH (v:=(aG (Ai (ts.getD t ((0,0,0):Nat×Nat×Nat))))) (AZ (vs:=Ai (ts.getD t ((0,0,0):Nat×Nat×Nat))) (i:=3) rfl rfl (BL.ne x.b.ok (by omega)) Hs (A7 Aq _ _ _ (by omega)) (Aq _)) rfl (AD.retell (k:=34) (u:=(aG (Ai T))) rfl (by rw [hT]) (al QZ rfl λb3=>AL rfl (A6 rfl Tryz.sizeOf76 rfl (q3 (sL [1,2,3,4,28,29,30,6,5] rfl) ?_))))
  refine BF 0 Hs rfl (AO rfl (AD.nil (AC.then_ (AE.block (AE.unroll 4 ?_)))))
  refine F1.step (q4 (AH (Ag (c:=true) rfl rfl (by decide)) rfl (AD.nil (q1 (AE.cond_true rfl ?_)))))
  refine AE.skip (q1 (AE.block (q4 (AH (v:=(vN T.1)) (CI (j:=0) rfl rfl Tryz.underlying76 Tryz.sizeOf3 Tryz.isAgg3 (by decide) rfl) rfl (AL rfl ?_)))))
  refine AD.nil (AC.subF (sL [1,2,3,4,28,29,30,6,5,35,36,8] rfl) (AC.then_ (AE.region (AO rfl (AO rfl ?_)))))
  refine AO rfl (AO rfl ?_)
  obtain ⟨sq0,hsq0⟩:∃q,q=(Ab kv T.1).getD L8:=⟨_,rfl⟩
  have hsn0:sq0.l.length<=3*t+0:=by rw [hsq0,<-J7,hat];exact GZ _
  refine AH (v:=(Value.slice sq0.p sq0.l.length sq0.c)) ((by rw [hsq0];exact Bi El 1 (eV:=IR) (kvs:=kv) (x:=T.1) (z0:=L8) (co:=false) rfl rfl Tryz.underlying116 Tryz.zeroValue33 rfl (hok) (by show (_:Nat)<_;omega))) rfl (AD.pullRO (A:=[Ac b3 76 (Ai T),Br b2 vN IR kv,Ac b1 31 (B5 x),AX x.a.p (rowsL An ps),AX x.b.p (rowsL Ai ts),AX x.c.p (rowsL Ai ss)]) (kvs:=kv) (k:=T.1) hok hsq0 (AO rfl (AD.openV (V:=λb4=>(Value.slice (some ⟨b4,0,none⟩) 1 1)) (T:=3) (cs:=[(vN t)]) (AN rfl) (Ah (cs:=[(vN t)]) (pv:=[(0,(vN t))]) Tryz.underlying33 Tryz.sizeOf3 Tryz.zeroValue3 (by decide) (by decide) rfl (by kernel_rfl)) rfl (Af rfl) λb4=>AD.append1 (j:=0) (cs2:=inL (sq0.l++[t])) NO rfl sq0.ok (by rw [CY,Nat.mul_one]) rfl rfl rfl rfl (by decide) (HM (by omega)) (by omega) (by rw [DR];rfl) rfl λp_1 c_1 ho_1 hne_1=>?_)))
  have hro0:OwnOk p_1 (sq0.l++[t]).length c_1:=by simpa using ho_1
  rw [show sq0.l.length+1=(sq0.l++[t]).length by simp]
  refine AD.mapUpdate El 3 (kvs:=kv) (x:=T.1) (y:=(⟨p_1,c_1,sq0.l++[t],hro0⟩:RO)) (AN rfl) rfl rfl rfl Tryz.underlying116 rfl (hok) (by show (_:Nat)<_;omega) (AD.permL (show List.Perm _ (Ac b4 3 ([(vN t)])::Ac b3 76 (Ai T)::Br b2 vN IR (BC kv T.1 (⟨p_1,c_1,sq0.l++[t],hro0⟩:RO))::Ac b1 31 (B5 x)::AX x.a.p (rowsL An ps)::AX x.b.p (rowsL Ai ts)::AX x.c.p (rowsL Ai ss)::Pv 3 (BC kv T.1 (⟨p_1,c_1,sq0.l++[t],hro0⟩:RO))) from L4 (A1:=[Ac b4 3 ([(vN t)])]) (A2:=[Ac b3 76 (Ai T),Br b2 vN IR (BC kv T.1 (⟨p_1,c_1,sq0.l++[t],hro0⟩:RO)),Ac b1 31 (B5 x),AX x.a.p (rowsL An ps),AX x.b.p (rowsL Ai ts),AX x.c.p (rowsL Ai ss)]) (kvs:=kv) (k:=T.1) (s:=(⟨p_1,c_1,sq0.l++[t],hro0⟩:RO)) (T:=3) hok) ?_)
  obtain ⟨kv0,hkv0⟩:∃q,q=BC kv T.1 (⟨p_1,c_1,sq0.l++[t],hro0⟩:RO):=⟨_,rfl⟩
  rw [<-hkv0]
  have hok0:F3 Sv kv0:=hkv0▸hok.put (by show (_:Nat)<_;omega)
  have hat0:RT kv0=RZ ts (3*t+0+1):=by rw [hkv0,Ke,J6 (show 0<3 by decide),<-hT,<-hat,J7];show BC _ T.1 (sq0.l++[t])=BC _ (CP T 0) (((Ab kv (CP T 0)).getD L8).l++[t]);rw [show CP T 0=T.1 from rfl,<-hsq0]
  refine AD.nil (AC.subF (sL [1,2,3,4,28,29,30,6,5,35,36] rfl) (AC.in_normal (AC.then_ (AE.region (AH (AT (c:=(1:Int)) rfl rfl (by decide)) rfl ?_)))))
  refine AO rfl (AD.nil (AC.subF (sL [1,2,3,4,28,29,30,6,5,35,36] rfl) (AC.again (F1.step (q4 ?_)))))
  refine AH (Ag (c:=true) rfl rfl (by decide)) rfl (AD.nil (q1 (AE.cond_true rfl (AE.skip (q1 ?_)))))
  refine AE.block (q4 (AH (v:=(vN T.2.1)) (CI (j:=1) rfl rfl Tryz.underlying76 Tryz.sizeOf3 Tryz.isAgg3 (by decide) rfl) rfl (AL rfl (AD.nil (AC.subF (sL [1,2,3,4,28,29,30,6,5,35,36,8] rfl) ?_)))))
  refine AC.then_ (AE.region (AO rfl (AO rfl (AO rfl (AO rfl ?_)))))
  obtain ⟨sq1,hsq1⟩:∃q,q=(Ab kv0 T.2.1).getD L8:=⟨_,rfl⟩
  have hsn1:sq1.l.length<=3*t+1:=by rw [hsq1,<-J7,hat0];exact GZ _
  refine AH (v:=(Value.slice sq1.p sq1.l.length sq1.c)) ((by rw [hsq1];exact Bi El 2 (eV:=IR) (kvs:=kv0) (x:=T.2.1) (z0:=L8) (co:=false) rfl rfl Tryz.underlying116 Tryz.zeroValue33 rfl (hok0) (by show (_:Nat)<_;omega))) rfl (AD.pullRO (A:=[Ac b4 3 ([(vN t)]),Ac b3 76 (Ai T),Br b2 vN IR kv0,Ac b1 31 (B5 x),AX x.a.p (rowsL An ps),AX x.b.p (rowsL Ai ts),AX x.c.p (rowsL Ai ss)]) (kvs:=kv0) (k:=T.2.1) hok0 hsq1 (AO rfl (AD.openV (V:=λb5=>(Value.slice (some ⟨b5,0,none⟩) 1 1)) (T:=3) (cs:=[(vN t)]) (AN rfl) (Ah (cs:=[(vN t)]) (pv:=[(0,(vN t))]) Tryz.underlying33 Tryz.sizeOf3 Tryz.zeroValue3 (by decide) (by decide) rfl (by kernel_rfl)) rfl (Af rfl) λb5=>AD.append1 (j:=0) (cs2:=inL (sq1.l++[t])) NO rfl sq1.ok (by rw [CY,Nat.mul_one]) rfl rfl rfl rfl (by decide) (HM (by omega)) (by omega) (by rw [DR];rfl) rfl λp_2 c_2 ho_2 hne_2=>?_)))
  have hro1:OwnOk p_2 (sq1.l++[t]).length c_2:=by simpa using ho_2
  rw [show sq1.l.length+1=(sq1.l++[t]).length by simp]
  refine AD.mapUpdate El 4 (kvs:=kv0) (x:=T.2.1) (y:=(⟨p_2,c_2,sq1.l++[t],hro1⟩:RO)) (AN rfl) rfl rfl rfl Tryz.underlying116 rfl (hok0) (by show (_:Nat)<_;omega) (AD.permL (show List.Perm _ (Ac b5 3 ([(vN t)])::Ac b4 3 ([(vN t)])::Ac b3 76 (Ai T)::Br b2 vN IR (BC kv0 T.2.1 (⟨p_2,c_2,sq1.l++[t],hro1⟩:RO))::Ac b1 31 (B5 x)::AX x.a.p (rowsL An ps)::AX x.b.p (rowsL Ai ts)::AX x.c.p (rowsL Ai ss)::Pv 3 (BC kv0 T.2.1 (⟨p_2,c_2,sq1.l++[t],hro1⟩:RO))) from L4 (A1:=[Ac b5 3 ([(vN t)])]) (A2:=[Ac b4 3 ([(vN t)]),Ac b3 76 (Ai T),Br b2 vN IR (BC kv0 T.2.1 (⟨p_2,c_2,sq1.l++[t],hro1⟩:RO)),Ac b1 31 (B5 x),AX x.a.p (rowsL An ps),AX x.b.p (rowsL Ai ts),AX x.c.p (rowsL Ai ss)]) (kvs:=kv0) (k:=T.2.1) (s:=(⟨p_2,c_2,sq1.l++[t],hro1⟩:RO)) (T:=3) hok0) ?_)
  obtain ⟨kv1,hkv1⟩:∃q,q=BC kv0 T.2.1 (⟨p_2,c_2,sq1.l++[t],hro1⟩:RO):=⟨_,rfl⟩
  rw [<-hkv1]
  have hok1:F3 Sv kv1:=hkv1▸hok0.put (by show (_:Nat)<_;omega)
  have hat1:RT kv1=RZ ts (3*t+1+1):=by rw [hkv1,Ke,J6 (show 1<3 by decide),<-hT,<-hat0,J7];show BC _ T.2.1 (sq1.l++[t])=BC _ (CP T 1) (((Ab kv0 (CP T 1)).getD L8).l++[t]);rw [show CP T 1=T.2.1 from rfl,<-hsq1]
  refine AD.nil (AC.subF (sL [1,2,3,4,28,29,30,6,5,35,36] rfl) (AC.in_normal (AC.then_ (AE.region (AH (AT (c:=(2:Int)) rfl rfl (by decide)) rfl ?_)))))
  refine AO rfl (AD.nil (AC.subF (sL [1,2,3,4,28,29,30,6,5,35,36] rfl) (AC.again (F1.step (q4 ?_)))))
  refine AH (Ag (c:=true) rfl rfl (by decide)) rfl (AD.nil (q1 (AE.cond_true rfl (AE.skip (q1 ?_)))))
  refine AE.block (q4 (AH (v:=(vN T.2.2)) (CI (j:=2) rfl rfl Tryz.underlying76 Tryz.sizeOf3 Tryz.isAgg3 (by decide) rfl) rfl (AL rfl (AD.nil (AC.subF (sL [1,2,3,4,28,29,30,6,5,35,36,8] rfl) ?_)))))
  refine AC.then_ (AE.region (AO rfl (AO rfl (AO rfl (AO rfl ?_)))))
  obtain ⟨sq2,hsq2⟩:∃q,q=(Ab kv1 T.2.2).getD L8:=⟨_,rfl⟩
  have hsn2:sq2.l.length<=3*t+2:=by rw [hsq2,<-J7,hat1];exact GZ _
  refine AH (v:=(Value.slice sq2.p sq2.l.length sq2.c)) ((by rw [hsq2];exact Bi El 3 (eV:=IR) (kvs:=kv1) (x:=T.2.2) (z0:=L8) (co:=false) rfl rfl Tryz.underlying116 Tryz.zeroValue33 rfl (hok1) (by show (_:Nat)<_;omega))) rfl (AD.pullRO (A:=[Ac b5 3 ([(vN t)]),Ac b4 3 ([(vN t)]),Ac b3 76 (Ai T),Br b2 vN IR kv1,Ac b1 31 (B5 x),AX x.a.p (rowsL An ps),AX x.b.p (rowsL Ai ts),AX x.c.p (rowsL Ai ss)]) (kvs:=kv1) (k:=T.2.2) hok1 hsq2 (AO rfl (AD.openV (V:=λb6=>(Value.slice (some ⟨b6,0,none⟩) 1 1)) (T:=3) (cs:=[(vN t)]) (AN rfl) (Ah (cs:=[(vN t)]) (pv:=[(0,(vN t))]) Tryz.underlying33 Tryz.sizeOf3 Tryz.zeroValue3 (by decide) (by decide) rfl (by kernel_rfl)) rfl (Af rfl) λb6=>AD.append1 (j:=0) (cs2:=inL (sq2.l++[t])) NO rfl sq2.ok (by rw [CY,Nat.mul_one]) rfl rfl rfl rfl (by decide) (HM (by omega)) (by omega) (by rw [DR];rfl) rfl λp_3 c_3 ho_3 hne_3=>?_)))
  have hro2:OwnOk p_3 (sq2.l++[t]).length c_3:=by simpa using ho_3
  rw [show sq2.l.length+1=(sq2.l++[t]).length by simp]
  refine AD.mapUpdate El 5 (kvs:=kv1) (x:=T.2.2) (y:=(⟨p_3,c_3,sq2.l++[t],hro2⟩:RO)) (AN rfl) rfl rfl rfl Tryz.underlying116 rfl (hok1) (by show (_:Nat)<_;omega) (AD.permL (show List.Perm _ (Ac b6 3 ([(vN t)])::Ac b5 3 ([(vN t)])::Ac b4 3 ([(vN t)])::Ac b3 76 (Ai T)::Br b2 vN IR (BC kv1 T.2.2 (⟨p_3,c_3,sq2.l++[t],hro2⟩:RO))::Ac b1 31 (B5 x)::AX x.a.p (rowsL An ps)::AX x.b.p (rowsL Ai ts)::AX x.c.p (rowsL Ai ss)::Pv 3 (BC kv1 T.2.2 (⟨p_3,c_3,sq2.l++[t],hro2⟩:RO))) from L4 (A1:=[Ac b6 3 ([(vN t)])]) (A2:=[Ac b5 3 ([(vN t)]),Ac b4 3 ([(vN t)]),Ac b3 76 (Ai T),Br b2 vN IR (BC kv1 T.2.2 (⟨p_3,c_3,sq2.l++[t],hro2⟩:RO)),Ac b1 31 (B5 x),AX x.a.p (rowsL An ps),AX x.b.p (rowsL Ai ts),AX x.c.p (rowsL Ai ss)]) (kvs:=kv1) (k:=T.2.2) (s:=(⟨p_3,c_3,sq2.l++[t],hro2⟩:RO)) (T:=3) hok1) ?_)
  obtain ⟨kv2,hkv2⟩:∃q,q=BC kv1 T.2.2 (⟨p_3,c_3,sq2.l++[t],hro2⟩:RO):=⟨_,rfl⟩
  rw [<-hkv2]
  have hok2:F3 Sv kv2:=hkv2▸hok1.put (by show (_:Nat)<_;omega)
  have hat2:RT kv2=RZ ts (3*t+2+1):=by rw [hkv2,Ke,J6 (show 2<3 by decide),<-hT,<-hat1,J7];show BC _ T.2.2 (sq2.l++[t])=BC _ (CP T 2) (((Ab kv1 (CP T 2)).getD L8).l++[t]);rw [show CP T 2=T.2.2 from rfl,<-hsq2]
  refine AD.nil (AC.subF (sL [1,2,3,4,28,29,30,6,5,35,36] rfl) (AC.in_normal (AC.then_ (AE.region (AH (AT (c:=(3:Int)) rfl rfl (by decide)) rfl ?_)))))
  refine AO rfl (AD.nil (AC.subF (sL [1,2,3,4,28,29,30,6,5,35,36] rfl) (AC.again (F1.step (q4 ?_)))))
  refine AH (Ag (c:=false) rfl rfl (by decide)) rfl (AD.nil (q1 (AE.cond_false rfl (AE.exit (AC.then_exit ?_)))))
  refine AC.then_exit (AC.in_exit (AC.in_normal (AC.then_ (AE.region (AH (AT (c:=((t+1:Nat):Int)) rfl rfl (AR (a:=t) (b:=1) (by omega))) rfl ?_)))))
  exact AO rfl (AD.nil (AC.subF (sL [1,2,3,4,28,29,30,6,5,35,36] rfl) (AC.round2 (t+1) kv2 (⟨by omega,hok2,hat2⟩) (by omega) (sF rfl) (sl (sl (sl (sl sr)))))))
 ·replace hc1:=of_decide_eq_false hc1
  have hatl:∀p,((Ab kv p).getD L8).l=JM ts p:=λp=>by unfold JM;rw [<-J7,hat,show 3*t+0=3*ts.length by omega]
  refine AE.exit (AC.then_exit (AC.round2_exit (AC.in_exit (q2 (AH (v:=(pP b1 1)) (AA rfl Tryz.underlying31 rfl Tryz.sizeOf28 rfl) rfl ?_)))))
  refine AD.frzRO (A:=[Br b2 vN IR kv,Ac b1 31 (B5 x),AX x.a.p (rowsL An ps),AX x.b.p (rowsL Ai ts),AX x.c.p (rowsL Ai ss)]) (kvs:=kv) (BI 1 (Value.slice x.b.p ts.length x.b.c) Di rfl (AH (v:=(vN ts.length)) (AF rfl Tryz.underlying28) rfl ?_))
  refine AD.makeInt (m:=ts.length) Xc rfl rfl (by omega) rfl rfl ?_;intro bm hbm;rw [show List.replicate ts.length 0=RU ts.length 0 from rfl]
  refine AL rfl (q6 (sL [1,2,3,4,28,29,30] rfl) (q4 (AO rfl (AH (v:=(vN ts.length)) (AF rfl Tryz.underlying33) rfl (AO rfl ?_)))))
  refine AD.nil (AC.subF (sL [1,2,3,4,28,29,30,54,55] rfl) (AC.then_ (AE.block ?_)))
  refine AE.lp1 (tg λ(q:Nat)=>q<=ts.length) (tg λ(q:Nat)=>[(1,(pP b1 0)),(2,(Value.slice (some ⟨bm,0,none⟩) ts.length ts.length)),(3,(vI 0)),(4,(Value.map (some b2))),(54,(vN ts.length)),(55,(vN q))]) (tg λ(q:Nat)=>(rowW (some ⟨bm,0,none⟩) 3 1 ts.length ts.length (zL (RU ts.length q))::Br b2 vN IR kv::Ac b1 31 (B5 x)::AX x.a.p (rowsL An ps)::AX x.b.p (rowsL Ai ts)::AX x.c.p (rowsL Ai ss)::RW kv)) (tg λ(q:Nat)=>ts.length-q) 0 (Nat.zero_le _) (sF rfl) sr (λq hJ=>?_)
  have hq:=hJ
  refine q4 (AH (Ag (c:=(decide (q<ts.length))) rfl rfl (DA (a:=q) (b:=ts.length))) rfl (AD.nil (q1 ?_)))
  refine AE.cond rfl (λhc3=>?_) (λhc3=>?_)
  ·replace hc3:=of_decide_eq_true hc3
   refine AE.skip (q1 (AE.block (q4 (AO rfl (AL rfl ?_)))))
   refine AD.nil (AC.subF (sL [1,2,3,4,54,55,9] rfl) (AC.then_ (AE.region (AO rfl (AO rfl ?_)))))
   refine AH (v:=(pP (pB (some ⟨bm,0,none⟩)) (pO (some ⟨bm,0,none⟩)+q*1))) (AQ (j:=q) rfl rfl hbm.row Tryz.underlying33 Tryz.sizeOf3 rfl (by omega)) rfl (AD.storeRow0 (j:=q) (v:=(vI (-1:Int))) rfl rfl hbm (by rw [Cr,Nat.mul_one];exact (P4 (by omega))) (by omega) rfl Tryz.sizeOf3 rfl (Kj _ _ _) (AD.nil (AC.subF (sL [1,2,3,4,54,55] rfl) (AC.in_normal (AC.then_ ?_)))))
   refine AE.region (AH (AT (c:=((q+1:Nat):Int)) rfl rfl (AR (a:=q) (b:=1) (by omega))) rfl (AO rfl (AD.nil (AC.subF (sL [1,2,3,4,54,55] rfl) ?_))))
   rw [Vh (by omega)]
   exact AC.round1 (q+1) (by omega) (by omega) (sF rfl) sr
  ·replace hc3:=of_decide_eq_false hc3
   rw [show RU ts.length q=RU ts.length ts.length by rw [show q=ts.length by omega]]
   refine AE.exit (AC.then_exit (AC.round1_exit (AC.in_exit (q1 (AE.label ?_)))))
   refine q1 (q4 (AO rfl (AH (v:=(vN ts.length)) (AF rfl Tryz.underlying33) rfl (AO rfl (AD.nil ?_)))))
   refine AC.subF (sL [1,2,3,4,54,55,63,64] rfl) (AC.then_ (AE.block ?_))
   refine AE.lp3 (tg λ(v:Nat) (n:Nat) (l:List Int)=>v<=ts.length/\PS ts v n l) (tg λ(v:Nat) (n:Nat) (l:List Int)=>[(1,(pP b1 0)),(2,(Value.slice (some ⟨bm,0,none⟩) ts.length ts.length)),(4,(Value.map (some b2))),(63,(vN ts.length)),(64,(vN v)),(3,(vN n))]) (tg λ(v:Nat) (n:Nat) (l:List Int)=>(rowW (some ⟨bm,0,none⟩) 3 1 ts.length ts.length (zL l)::Br b2 vN IR kv::Ac b1 31 (B5 x)::AX x.a.p (rowsL An ps)::AX x.b.p (rowsL Ai ts)::AX x.c.p (rowsL Ai ss)::RW kv)) (tg λ(v:Nat) (n:Nat) (l:List Int)=>ts.length-v) 0 0 (RU ts.length ts.length) (⟨Nat.zero_le _,PS.start (P4 (Nat.le_refl _)) (λs hs=>Ui hs)⟩) (sF rfl) sr (λv n l hJ=>?_)
   obtain ⟨hv,hP⟩:=hJ
   have hnle:=hP.nle
   have hPl:=hP.len
   refine q4 (AH (Ag (c:=(decide (v<ts.length))) rfl rfl (DA (a:=v) (b:=ts.length))) rfl (AD.nil (q1 ?_)))
   refine AE.cond rfl (λhc4=>?_) (λhc4=>?_)
   ·replace hc4:=of_decide_eq_true hc4
    refine AE.skip (q1 (AE.block (q4 (AO rfl (AL rfl ?_)))))
    refine q6 (sL [1,2,4,63,64,3,10] rfl) (q4 (AO rfl (AO rfl (AH (v:=(pP (pB (some ⟨bm,0,none⟩)) (pO (some ⟨bm,0,none⟩)+v*1))) (AQ (j:=v) rfl rfl hbm.row Tryz.underlying33 Tryz.sizeOf3 rfl (by omega)) rfl (AH (Cd (v:=(vI (l.getD v 0))) (i:=0) rfl rfl hbm (by rw [Cr,Nat.mul_one];exact hP.len) (hbm.row.ne (by omega)) B_ (Mx (l:=l) (j:=v) (by omega))) rfl ?_)))))
    refine AH (FB (c:=(decide ((0:Int)<=(l.getD v 0)))) rfl rfl rfl) rfl (AD.nil (AC.subF (sL [1,2,4,63,64,3,10,71] rfl) (AC.then_ ?_)))
    refine AE.cond rfl (λhc5=>?_) (λhc5=>?_)
    ·replace hc5:=of_decide_eq_true hc5
     refine AE.exit (AC.then_exit (AC.in_exit (AC.then_ (AE.region (AH (AT (c:=((v+1:Nat):Int)) rfl rfl (AR (a:=v) (b:=1) (by omega))) rfl ?_)))))
     exact AO rfl (AD.nil (AC.subF (sL [1,2,4,63,64,3,10] rfl) (AC.round3 (v+1) n l (⟨by omega,hP.next hc5⟩) (by omega) (sF rfl) sr)))
    ·replace hc5:=of_decide_eq_false hc5
     have hng:gZ l v<0:=by show l.getD v 0<0;omega
     refine AE.skip (q2 (AO rfl (AD.openV (V:=λbt=>(Value.slice (some ⟨bt,0,none⟩) 1 1)) (T:=3) (cs:=inL [v]) (AN rfl) (Ah (cs:=inL [v]) (pv:=[(0,(vN v))]) Tryz.underlying33 Tryz.sizeOf3 Tryz.zeroValue3 (by decide) (by decide) rfl (by kernel_rfl)) rfl (Af rfl) λbt=>AD.asRow0 (z:=1) 1 rfl (by omega) λhbt=>AL rfl ?_)))
     refine q3 (sL [1,2,4,63,64,3,10,11] rfl) (AO rfl (AO rfl (AO rfl (AH (v:=(pP (pB (some ⟨bm,0,none⟩)) (pO (some ⟨bm,0,none⟩)+v*1))) (AQ (j:=v) rfl rfl hbm.row Tryz.underlying33 Tryz.sizeOf3 rfl (by omega)) rfl (AD.storeRow1 (j:=v) (v:=(vN n)) rfl rfl hbm (by rw [Cr,Nat.mul_one];exact hP.len) (by omega) rfl Tryz.sizeOf3 rfl (Kj _ _ _) ?_)))))
     refine q6 (sL [1,2,4,63,64,3,10,11] rfl) (AE.block ?_)
     refine AE.lp4 (tg λ(l2:List Int) (td:List Nat) (p2:Option Addr) (c2:Nat)=>Tq ts v n l l2 td/\OwnOk p2 td.length c2) (tg λ(l2:List Int) (td:List Nat) (p2:Option Addr) (c2:Nat)=>[(1,(pP b1 0)),(2,(Value.slice (some ⟨bm,0,none⟩) ts.length ts.length)),(4,(Value.map (some b2))),(63,(vN ts.length)),(64,(vN v)),(3,(vN n)),(11,(Value.slice p2 td.length c2))]) (tg λ(l2:List Int) (td:List Nat) (p2:Option Addr) (c2:Nat)=>(rowW p2 3 1 td.length c2 (inL td)::rowW (some ⟨bm,0,none⟩) 3 1 ts.length ts.length (zL l2)::Br b2 vN IR kv::Ac b1 31 (B5 x)::AX x.a.p (rowsL An ps)::AX x.b.p (rowsL Ai ts)::AX x.c.p (rowsL Ai ss)::RW kv)) (tg λ(l2:List Int) (td:List Nat) (p2:Option Addr) (c2:Nat)=>RR l2 td) (l.set v ((n:Nat):Int)) ([v]) (some ⟨bt,0,none⟩) 1 (⟨Tq.start hP (by omega) hng,hbt⟩) (sF rfl) sr (λl2 td p2 c2 hJ=>?_)
     obtain ⟨hF,ho2⟩:=hJ
     have htl2:=hF.tl
     refine AE.seq (q4 (AO rfl (AH (v:=(vN td.length)) (AF rfl Tryz.underlying33) rfl (AH (Eb (c:=(decide (0<td.length))) rfl rfl (DA (a:=0) (b:=td.length))) rfl (AD.nil ?_)))))
     refine AC.subF (sL [1,2,4,63,64,3,11,80] rfl) (AC.then_ ?_)
     refine AE.cond rfl (λhc6=>?_) (λhc6=>?_)
     ·replace hc6:=of_decide_eq_true hc6
      have hcl2:=ho2.le
      obtain ⟨k,hk⟩:∃q,q=td.getD (td.length-1) 0:=⟨_,rfl⟩
      have hfd:=hF.pop hc6
      rw [<-hk] at hfd
      have hkt:=hfd.kk.1
      obtain ⟨T,hT⟩:∃q,q=ts.getD k (0,0,0):=⟨_,rfl⟩
      obtain ⟨g1,g2,g3⟩:=DE (DN hnb hkt)
      rw [<-hT] at g1 g2 g3
      refine AE.skip (AC.then_ (AE.block (q4 (AO rfl (AO rfl ?_)))))
      refine AH (v:=(vN td.length)) (AF rfl Tryz.underlying33) rfl (AH (Bf (c:=((td.length-1:Nat):Int)) rfl rfl (CV (a:=td.length) (b:=1) (by omega) (by omega))) rfl (AH (v:=(pP (pB p2) (pO p2+(td.length-1)*1))) (AQ (j:=td.length-1) rfl rfl ho2.row Tryz.underlying33 Tryz.sizeOf3 rfl (by omega)) rfl (AH (Cd (v:=(vN (td.getD (td.length-1) 0))) (i:=0) rfl rfl ho2 (by rw [CY,Nat.mul_one]) (ho2.row.ne (by omega)) B_ (JC (l:=td) (j:=td.length-1) (by omega))) rfl (AD.retell (k:=86) (u:=(vN k)) rfl (by rw [hk]) (AL rfl ?_)))))
      refine q3 (sL [1,2,4,63,64,3,11,12] rfl) (AO rfl (AO rfl (AH (v:=(vN td.length)) (AF rfl Tryz.underlying33) rfl (AH (Bf (c:=((td.length-1:Nat):Int)) rfl rfl (CV (a:=td.length) (b:=1) (by omega) (by omega))) rfl (AH (v:=(Value.slice p2 (td.length-1) c2)) (GC (m:=td.length-1) rfl rfl Tryz.underlying33 Tryz.sizeOf3 (by omega)) rfl ?_)))))
      refine AD.shrink 0 rfl (show td.length-1<=td.length by omega) rfl ?_
      rw [show (inL td).take ((td.length-1)*1)=inL (td.take (td.length-1)) by rw [Nat.mul_one,T8]]
      obtain ⟨t2,ht2⟩:∃q,q=td.take (td.length-1):=⟨_,rfl⟩
      have hl2:td.length-1=t2.length:=by rw [ht2,List.length_take];omega
      rw [<-ht2,hl2]
      have ho3:OwnOk p2 t2.length c2:=ho2.less (by omega)
      rw [<-ht2] at hfd
      have hmu:=Wh (l:=l2) hc6
      rw [<-ht2] at hmu
      refine AL rfl (q3 (sL [1,2,4,63,64,3,11,12] rfl) (AH (v:=(pP b1 1)) (AA rfl Tryz.underlying31 rfl Tryz.sizeOf28 rfl) rfl (BI 3 (Value.slice x.b.p ts.length x.b.c) Di rfl (AO rfl (AH (v:=(pP (pB x.b.p) (pO x.b.p+k*3))) (AQ (j:=k) rfl rfl x.b.ok Tryz.underlying28 Tryz.sizeOf76 rfl (by omega)) rfl ?_)))))
      refine AH (v:=(aG (Ai (ts.getD k ((0,0,0):Nat×Nat×Nat))))) (AZ (vs:=Ai (ts.getD k ((0,0,0):Nat×Nat×Nat))) (i:=5) rfl rfl (BL.ne x.b.ok (by omega)) Hs (A7 Aq _ _ _ (by omega)) (Aq _)) rfl (AD.retell (k:=96) (u:=(aG (Ai T))) rfl (by rw [hT]) (AO rfl (AD.nil (AC.subF (sL [1,2,4,63,64,3,11,96,97] rfl) (AC.then_ ?_)))))
      refine AE.block (AE.unroll 4 (F1.step (q4 (AH (Ag (c:=true) rfl rfl (by decide)) rfl (AD.nil ?_)))))
      refine q1 (AE.cond_true rfl (AE.skip (q1 (AE.block (q4 ?_)))))
      refine AH (v:=(vN T.1)) (CI (j:=0) rfl rfl Tryz.underlying76 Tryz.sizeOf3 Tryz.isAgg3 (by decide) rfl) rfl (AL rfl (q3 (sL [1,2,4,63,64,3,11,96,97,14] rfl) (AO rfl (AO rfl ?_))))
      obtain ⟨sr0,hsr0⟩:∃q,q=(Ab kv T.1).getD L8:=⟨_,rfl⟩
      refine AH (v:=(Value.slice sr0.p sr0.l.length sr0.c)) ((by rw [hsr0];exact Bi El 2 (eV:=IR) (kvs:=kv) (x:=T.1) (z0:=L8) (co:=false) rfl rfl Tryz.underlying116 Tryz.zeroValue33 rfl (hok) (by show (_:Nat)<_;omega))) rfl (AD.dupRO (A:=[rowW p2 3 1 t2.length c2 (inL t2),rowW (some ⟨bm,0,none⟩) 3 1 ts.length ts.length (zL l2),Br b2 vN IR kv,Ac b1 31 (B5 x),AX x.a.p (rowsL An ps),AX x.b.p (rowsL Ai ts),AX x.c.p (rowsL Ai ss)]) (kvs:=kv) (k:=T.1) hsr0 ?_)
      have hsl0:sr0.l=JM ts (CP (ts.getD k (0,0,0)) 0):=by rw [<-hT,hsr0];exact hatl _
      have hsn0:sr0.l.length<=3*ts.length:=by rw [hsl0];exact Mi _
      refine AH (v:=(vN sr0.l.length)) (AF rfl Tryz.underlying33) rfl (AO rfl (AD.nil (AC.subF (sL [1,2,4,63,64,3,11,96,97,102,103,104] rfl) (AC.then_ (AE.block ?_)))))
      refine AE.lp5 (tg λ(j0:Nat) (la0:List Int) (ta0:List Nat) (pa0:Option Addr) (ca0:Nat)=>L5 ts v n l la0 ta0 k 0 j0/\OwnOk pa0 ta0.length ca0/\RR la0 ta0<RR l2 td/\j0<=sr0.l.length) (tg λ(j0:Nat) (la0:List Int) (ta0:List Nat) (pa0:Option Addr) (ca0:Nat)=>[(1,(pP b1 0)),(2,(Value.slice (some ⟨bm,0,none⟩) ts.length ts.length)),(4,(Value.map (some b2))),(63,(vN ts.length)),(64,(vN v)),(3,(vN n)),(96,(aG (Ai T))),(97,(vI 0)),(102,(Value.slice sr0.p sr0.l.length sr0.c)),(103,(vN sr0.l.length)),(104,(vN j0)),(11,(Value.slice pa0 ta0.length ca0))]) (tg λ(j0:Nat) (la0:List Int) (ta0:List Nat) (pa0:Option Addr) (ca0:Nat)=>(AX sr0.p (inL sr0.l)::rowW pa0 3 1 ta0.length ca0 (inL ta0)::rowW (some ⟨bm,0,none⟩) 3 1 ts.length ts.length (zL la0)::Br b2 vN IR kv::Ac b1 31 (B5 x)::AX x.a.p (rowsL An ps)::AX x.b.p (rowsL Ai ts)::AX x.c.p (rowsL Ai ss)::RW kv)) (tg λ(j0:Nat) (la0:List Int) (ta0:List Nat) (pa0:Option Addr) (ca0:Nat)=>sr0.l.length-j0) 0 l2 t2 p2 c2 (⟨hfd,ho3,hmu,Nat.zero_le _⟩) (sF rfl) sr (λj0 la0 ta0 pa0 ca0 hJ=>?_)
      obtain ⟨hf0,hoa0,hm0,hjs0⟩:=hJ
      have htt0:=hf0.tl
      have hLl0:=hf0.len
      refine q4 (AH (Ag (c:=(decide (j0<sr0.l.length))) rfl rfl (DA (a:=j0) (b:=sr0.l.length))) rfl (AD.nil (q1 ?_)))
      refine AE.cond rfl (λhc8=>?_) (λhc8=>?_)
      ·replace hc8:=of_decide_eq_true hc8
       obtain ⟨o,ho⟩:∃q,q=sr0.l.getD j0 0:=⟨_,rfl⟩
       have ho9:o=(JM ts (CP (ts.getD k (0,0,0)) 0)).getD j0 0:=by rw [<-hsl0];exact ho
       have hjl:j0<(JM ts (CP (ts.getD k (0,0,0)) 0)).length:=by rw [<-hsl0];exact hc8
       have hol:o<ts.length:=(Fe.1 (by rw [ho9];exact FR hjl)).1
       refine AE.skip (q1 (AE.block (q4 (AH (v:=(pP (pB sr0.p) (pO sr0.p+j0*1))) (AQ (j:=j0) rfl rfl sr0.ok.row Tryz.underlying33 Tryz.sizeOf3 rfl (by omega)) rfl (AH (BD (v:=(vN (sr0.l.getD j0 0))) (i:=0) rfl rfl (sr0.ok.row.ne (by omega)) B_ (JC (l:=sr0.l) (j:=j0) (by omega))) rfl ?_)))))
       refine AD.retell (k:=107) (u:=(vN o)) rfl (by rw [ho]) (AL rfl (q3 (sL [1,2,4,63,64,3,96,97,102,103,104,11,16] rfl) (AO rfl (AO rfl (AH (v:=(pP (pB (some ⟨bm,0,none⟩)) (pO (some ⟨bm,0,none⟩)+o*1))) (AQ (j:=o) rfl rfl hbm.row Tryz.underlying33 Tryz.sizeOf3 rfl (by omega)) rfl ?_)))))
       refine AH (Cd (v:=(vI (la0.getD o 0))) (i:=2) rfl rfl hbm (by rw [Cr,Nat.mul_one];exact hf0.len) (hbm.row.ne (by omega)) B_ (Mx (l:=la0) (j:=o) (by omega))) rfl (AH (Ag (c:=(decide ((la0.getD o 0)<(0:Int)))) rfl rfl rfl) rfl (AD.nil (AC.subF (sL [1,2,4,63,64,3,96,97,102,103,104,11,16,112] rfl) (AC.then_ ?_))))
       refine AE.cond rfl (λhc9=>?_) (λhc9=>?_)
       ·replace hc9:=of_decide_eq_true hc9
        refine q4 (AO rfl (AO rfl (AO rfl (AH (v:=(pP (pB (some ⟨bm,0,none⟩)) (pO (some ⟨bm,0,none⟩)+o*1))) (AQ (j:=o) rfl rfl hbm.row Tryz.underlying33 Tryz.sizeOf3 rfl (by omega)) rfl (AD.storeRow2 (j:=o) (v:=(vN n)) rfl rfl hbm (by rw [Cr,Nat.mul_one];exact hf0.len) (by omega) rfl Tryz.sizeOf3 rfl (Kj _ _ _) ?_)))))
        refine AD.nil (AC.subF (sL [1,2,4,63,64,3,96,97,102,103,104,11,16] rfl) (AC.then_ (AE.region (AO rfl (AO rfl ?_)))))
        refine AD.openV (V:=λb3=>(Value.slice (some ⟨b3,0,none⟩) 1 1)) (T:=3) (cs:=[(vN o)]) (AN rfl) (Ah (cs:=[(vN o)]) (pv:=[(0,(vN o))]) Tryz.underlying33 Tryz.sizeOf3 Tryz.zeroValue3 (by decide) (by decide) rfl (by kernel_rfl)) rfl (Af rfl) λb3=>AD.append2 (j:=0) (cs2:=inL (ta0++[o])) NO rfl hoa0 (by rw [CY,Nat.mul_one]) rfl rfl rfl rfl (by decide) (HM (by omega)) (by omega) (by rw [DR];rfl) rfl λp_4 c_4 ho_4 hne_4=>AL rfl (AD.nil (AC.subF (sL [1,2,4,63,64,3,96,97,102,103,104,11,16] rfl) (AC.in_normal ?_)))
        refine AC.then_ (AE.region (AH (AT (c:=((j0+1:Nat):Int)) rfl rfl (AR (a:=j0) (b:=1) (by omega))) rfl (AO rfl (AD.nil (AC.subF (sL [1,2,4,63,64,3,96,97,102,103,104,11,16] rfl) ?_)))))
        rw [show ta0.length+1=(ta0++[o]).length by simp]
        exact AC.round5 (j0+1) (la0.set o ((n:Nat):Int)) (ta0++[o]) p_4 c_4 (⟨hf0.push hP (by omega) ho9 hjl (by decide) hc9,by simpa using ho_4,Nat.lt_trans (MN (by rw [hf0.len];exact hol) (hf0.isneg hol hc9)) hm0,by omega⟩) (by omega) (sF rfl) (sl sr)
       ·replace hc9:=of_decide_eq_false hc9
        refine AE.skip (AC.in_normal (AC.then_ (AE.region (AH (AT (c:=((j0+1:Nat):Int)) rfl rfl (AR (a:=j0) (b:=1) (by omega))) rfl (AO rfl ?_)))))
        exact AD.nil (AC.subF (sL [1,2,4,63,64,3,96,97,102,103,104,11,16] rfl) (AC.round5 (j0+1) la0 ta0 pa0 ca0 (⟨hf0.keep hP ho9 hjl (by decide) (by show 0<=la0.getD o 0;omega),hoa0,hm0,by omega⟩) (by omega) (sF rfl) sr))
      ·replace hc8:=of_decide_eq_false hc8
       have hfe0:=hf0.corner (by rw [<-hsl0];omega)
       refine AE.exit (AC.then_exit (AC.round5_exit (AC.in_exit (AC.in_normal (AC.then_ ?_)))))
       refine AE.region (AH (AT (c:=(1:Int)) rfl rfl (by decide)) rfl (AO rfl (AD.nil (AC.subF (sL [1,2,4,63,64,3,96,97,102,103,104,11] rfl) (AC.again ?_)))))
       refine F1.step (q4 (AH (Ag (c:=true) rfl rfl (by decide)) rfl (AD.nil (q1 (AE.cond_true rfl ?_)))))
       refine AE.skip (q1 (AE.block (q4 (AH (v:=(vN T.2.1)) (CI (j:=1) rfl rfl Tryz.underlying76 Tryz.sizeOf3 Tryz.isAgg3 (by decide) rfl) rfl (AL rfl ?_)))))
       refine q3 (sL [1,2,4,63,64,3,96,97,102,103,104,11,14] rfl) (AO rfl (AO rfl ?_))
       obtain ⟨sr1,hsr1⟩:∃q,q=(Ab kv T.2.1).getD L8:=⟨_,rfl⟩
       refine AH (v:=(Value.slice sr1.p sr1.l.length sr1.c)) ((by rw [hsr1];exact Bi El 3 (eV:=IR) (kvs:=kv) (x:=T.2.1) (z0:=L8) (co:=false) rfl rfl Tryz.underlying116 Tryz.zeroValue33 rfl (hok) (by show (_:Nat)<_;omega))) rfl (AD.dupRO (A:=[AX sr0.p (inL sr0.l),rowW pa0 3 1 ta0.length ca0 (inL ta0),rowW (some ⟨bm,0,none⟩) 3 1 ts.length ts.length (zL la0),Br b2 vN IR kv,Ac b1 31 (B5 x),AX x.a.p (rowsL An ps),AX x.b.p (rowsL Ai ts),AX x.c.p (rowsL Ai ss)]) (kvs:=kv) (k:=T.2.1) hsr1 ?_)
       have hsl1:sr1.l=JM ts (CP (ts.getD k (0,0,0)) 1):=by rw [<-hT,hsr1];exact hatl _
       have hsn1:sr1.l.length<=3*ts.length:=by rw [hsl1];exact Mi _
       refine AH (v:=(vN sr1.l.length)) (AF rfl Tryz.underlying33) rfl (AO rfl (AD.nil (AC.subF (sL [1,2,4,63,64,3,96,97,102,103,104,11] rfl) (AC.then_ (AE.block ?_)))))
       refine AE.lp5 (tg λ(j1:Nat) (la1:List Int) (ta1:List Nat) (pa1:Option Addr) (ca1:Nat)=>L5 ts v n l la1 ta1 k 1 j1/\OwnOk pa1 ta1.length ca1/\RR la1 ta1<RR l2 td/\j1<=sr1.l.length) (tg λ(j1:Nat) (la1:List Int) (ta1:List Nat) (pa1:Option Addr) (ca1:Nat)=>[(1,(pP b1 0)),(2,(Value.slice (some ⟨bm,0,none⟩) ts.length ts.length)),(4,(Value.map (some b2))),(63,(vN ts.length)),(64,(vN v)),(3,(vN n)),(96,(aG (Ai T))),(97,(vI 1)),(102,(Value.slice sr1.p sr1.l.length sr1.c)),(103,(vN sr1.l.length)),(104,(vN j1)),(11,(Value.slice pa1 ta1.length ca1))]) (tg λ(j1:Nat) (la1:List Int) (ta1:List Nat) (pa1:Option Addr) (ca1:Nat)=>(AX sr1.p (inL sr1.l)::AX sr0.p (inL sr0.l)::rowW pa1 3 1 ta1.length ca1 (inL ta1)::rowW (some ⟨bm,0,none⟩) 3 1 ts.length ts.length (zL la1)::Br b2 vN IR kv::Ac b1 31 (B5 x)::AX x.a.p (rowsL An ps)::AX x.b.p (rowsL Ai ts)::AX x.c.p (rowsL Ai ss)::RW kv)) (tg λ(j1:Nat) (la1:List Int) (ta1:List Nat) (pa1:Option Addr) (ca1:Nat)=>sr1.l.length-j1) 0 la0 ta0 pa0 ca0 (⟨hfe0,hoa0,hm0,Nat.zero_le _⟩) (sF rfl) sr (λj1 la1 ta1 pa1 ca1 hJ=>?_)
       obtain ⟨hf1,hoa1,hm1,hjs1⟩:=hJ
       have htt1:=hf1.tl
       have hLl1:=hf1.len
       refine q4 (AH (Ag (c:=(decide (j1<sr1.l.length))) rfl rfl (DA (a:=j1) (b:=sr1.l.length))) rfl (AD.nil (q1 ?_)))
       refine AE.cond rfl (λhc8=>?_) (λhc8=>?_)
       ·replace hc8:=of_decide_eq_true hc8
        obtain ⟨o,ho⟩:∃q,q=sr1.l.getD j1 0:=⟨_,rfl⟩
        have ho9:o=(JM ts (CP (ts.getD k (0,0,0)) 1)).getD j1 0:=by rw [<-hsl1];exact ho
        have hjl:j1<(JM ts (CP (ts.getD k (0,0,0)) 1)).length:=by rw [<-hsl1];exact hc8
        have hol:o<ts.length:=(Fe.1 (by rw [ho9];exact FR hjl)).1
        refine AE.skip (q1 (AE.block (q4 (AH (v:=(pP (pB sr1.p) (pO sr1.p+j1*1))) (AQ (j:=j1) rfl rfl sr1.ok.row Tryz.underlying33 Tryz.sizeOf3 rfl (by omega)) rfl (AH (BD (v:=(vN (sr1.l.getD j1 0))) (i:=0) rfl rfl (sr1.ok.row.ne (by omega)) B_ (JC (l:=sr1.l) (j:=j1) (by omega))) rfl ?_)))))
        refine AD.retell (k:=107) (u:=(vN o)) rfl (by rw [ho]) (AL rfl (q3 (sL [1,2,4,63,64,3,96,97,102,103,104,11,16] rfl) (AO rfl (AO rfl (AH (v:=(pP (pB (some ⟨bm,0,none⟩)) (pO (some ⟨bm,0,none⟩)+o*1))) (AQ (j:=o) rfl rfl hbm.row Tryz.underlying33 Tryz.sizeOf3 rfl (by omega)) rfl ?_)))))
        refine AH (Cd (v:=(vI (la1.getD o 0))) (i:=3) rfl rfl hbm (by rw [Cr,Nat.mul_one];exact hf1.len) (hbm.row.ne (by omega)) B_ (Mx (l:=la1) (j:=o) (by omega))) rfl (AH (Ag (c:=(decide ((la1.getD o 0)<(0:Int)))) rfl rfl rfl) rfl (AD.nil (AC.subF (sL [1,2,4,63,64,3,96,97,102,103,104,11,16,112] rfl) (AC.then_ ?_))))
        refine AE.cond rfl (λhc9=>?_) (λhc9=>?_)
        ·replace hc9:=of_decide_eq_true hc9
         refine q4 (AO rfl (AO rfl (AO rfl (AH (v:=(pP (pB (some ⟨bm,0,none⟩)) (pO (some ⟨bm,0,none⟩)+o*1))) (AQ (j:=o) rfl rfl hbm.row Tryz.underlying33 Tryz.sizeOf3 rfl (by omega)) rfl (AD.storeRow3 (j:=o) (v:=(vN n)) rfl rfl hbm (by rw [Cr,Nat.mul_one];exact hf1.len) (by omega) rfl Tryz.sizeOf3 rfl (Kj _ _ _) ?_)))))
         refine AD.nil (AC.subF (sL [1,2,4,63,64,3,96,97,102,103,104,11,16] rfl) (AC.then_ (AE.region (AO rfl (AO rfl ?_)))))
         refine AD.openV (V:=λb3=>(Value.slice (some ⟨b3,0,none⟩) 1 1)) (T:=3) (cs:=[(vN o)]) (AN rfl) (Ah (cs:=[(vN o)]) (pv:=[(0,(vN o))]) Tryz.underlying33 Tryz.sizeOf3 Tryz.zeroValue3 (by decide) (by decide) rfl (by kernel_rfl)) rfl (Af rfl) λb3=>AD.appendAt 3 (j:=0) (cs2:=inL (ta1++[o])) NO rfl hoa1 (by rw [CY,Nat.mul_one]) rfl rfl rfl rfl rfl (by decide) (HM (by omega)) (by omega) (by rw [DR];rfl) rfl λp_5 c_5 ho_5 hne_5=>AL rfl (AD.nil (AC.subF (sL [1,2,4,63,64,3,96,97,102,103,104,11,16] rfl) (AC.in_normal ?_)))
         refine AC.then_ (AE.region (AH (AT (c:=((j1+1:Nat):Int)) rfl rfl (AR (a:=j1) (b:=1) (by omega))) rfl (AO rfl (AD.nil (AC.subF (sL [1,2,4,63,64,3,96,97,102,103,104,11,16] rfl) ?_)))))
         rw [show ta1.length+1=(ta1++[o]).length by simp]
         exact AC.round5 (j1+1) (la1.set o ((n:Nat):Int)) (ta1++[o]) p_5 c_5 (⟨hf1.push hP (by omega) ho9 hjl (by decide) hc9,by simpa using ho_5,Nat.lt_trans (MN (by rw [hf1.len];exact hol) (hf1.isneg hol hc9)) hm1,by omega⟩) (by omega) (sF rfl) (sl sr)
        ·replace hc9:=of_decide_eq_false hc9
         refine AE.skip (AC.in_normal (AC.then_ (AE.region (AH (AT (c:=((j1+1:Nat):Int)) rfl rfl (AR (a:=j1) (b:=1) (by omega))) rfl (AO rfl ?_)))))
         exact AD.nil (AC.subF (sL [1,2,4,63,64,3,96,97,102,103,104,11,16] rfl) (AC.round5 (j1+1) la1 ta1 pa1 ca1 (⟨hf1.keep hP ho9 hjl (by decide) (by show 0<=la1.getD o 0;omega),hoa1,hm1,by omega⟩) (by omega) (sF rfl) sr))
       ·replace hc8:=of_decide_eq_false hc8
        have hfe1:=hf1.corner (by rw [<-hsl1];omega)
        refine AE.exit (AC.then_exit (AC.round5_exit (AC.in_exit (AC.in_normal (AC.then_ ?_)))))
        refine AE.region (AH (AT (c:=(2:Int)) rfl rfl (by decide)) rfl (AO rfl (AD.nil (AC.subF (sL [1,2,4,63,64,3,96,97,102,103,104,11] rfl) (AC.again ?_)))))
        refine F1.step (q4 (AH (Ag (c:=true) rfl rfl (by decide)) rfl (AD.nil (q1 (AE.cond_true rfl ?_)))))
        refine AE.skip (q1 (AE.block (q4 (AH (v:=(vN T.2.2)) (CI (j:=2) rfl rfl Tryz.underlying76 Tryz.sizeOf3 Tryz.isAgg3 (by decide) rfl) rfl (AL rfl ?_)))))
        refine q3 (sL [1,2,4,63,64,3,96,97,102,103,104,11,14] rfl) (AO rfl (AO rfl ?_))
        obtain ⟨sr2,hsr2⟩:∃q,q=(Ab kv T.2.2).getD L8:=⟨_,rfl⟩
        refine AH (v:=(Value.slice sr2.p sr2.l.length sr2.c)) ((by rw [hsr2];exact Bi El 4 (eV:=IR) (kvs:=kv) (x:=T.2.2) (z0:=L8) (co:=false) rfl rfl Tryz.underlying116 Tryz.zeroValue33 rfl (hok) (by show (_:Nat)<_;omega))) rfl (AD.dupRO (A:=[AX sr1.p (inL sr1.l),AX sr0.p (inL sr0.l),rowW pa1 3 1 ta1.length ca1 (inL ta1),rowW (some ⟨bm,0,none⟩) 3 1 ts.length ts.length (zL la1),Br b2 vN IR kv,Ac b1 31 (B5 x),AX x.a.p (rowsL An ps),AX x.b.p (rowsL Ai ts),AX x.c.p (rowsL Ai ss)]) (kvs:=kv) (k:=T.2.2) hsr2 ?_)
        have hsl2:sr2.l=JM ts (CP (ts.getD k (0,0,0)) 2):=by rw [<-hT,hsr2];exact hatl _
        have hsn2:sr2.l.length<=3*ts.length:=by rw [hsl2];exact Mi _
        refine AH (v:=(vN sr2.l.length)) (AF rfl Tryz.underlying33) rfl (AO rfl (AD.nil (AC.subF (sL [1,2,4,63,64,3,96,97,102,103,104,11] rfl) (AC.then_ (AE.block ?_)))))
        refine AE.lp5 (tg λ(j2:Nat) (la2:List Int) (ta2:List Nat) (pa2:Option Addr) (ca2:Nat)=>L5 ts v n l la2 ta2 k 2 j2/\OwnOk pa2 ta2.length ca2/\RR la2 ta2<RR l2 td/\j2<=sr2.l.length) (tg λ(j2:Nat) (la2:List Int) (ta2:List Nat) (pa2:Option Addr) (ca2:Nat)=>[(1,(pP b1 0)),(2,(Value.slice (some ⟨bm,0,none⟩) ts.length ts.length)),(4,(Value.map (some b2))),(63,(vN ts.length)),(64,(vN v)),(3,(vN n)),(96,(aG (Ai T))),(97,(vI 2)),(102,(Value.slice sr2.p sr2.l.length sr2.c)),(103,(vN sr2.l.length)),(104,(vN j2)),(11,(Value.slice pa2 ta2.length ca2))]) (tg λ(j2:Nat) (la2:List Int) (ta2:List Nat) (pa2:Option Addr) (ca2:Nat)=>(AX sr2.p (inL sr2.l)::AX sr1.p (inL sr1.l)::AX sr0.p (inL sr0.l)::rowW pa2 3 1 ta2.length ca2 (inL ta2)::rowW (some ⟨bm,0,none⟩) 3 1 ts.length ts.length (zL la2)::Br b2 vN IR kv::Ac b1 31 (B5 x)::AX x.a.p (rowsL An ps)::AX x.b.p (rowsL Ai ts)::AX x.c.p (rowsL Ai ss)::RW kv)) (tg λ(j2:Nat) (la2:List Int) (ta2:List Nat) (pa2:Option Addr) (ca2:Nat)=>sr2.l.length-j2) 0 la1 ta1 pa1 ca1 (⟨hfe1,hoa1,hm1,Nat.zero_le _⟩) (sF rfl) sr (λj2 la2 ta2 pa2 ca2 hJ=>?_)
        obtain ⟨hf2,hoa2,hm2,hjs2⟩:=hJ
        have htt2:=hf2.tl
        have hLl2:=hf2.len
        refine q4 (AH (Ag (c:=(decide (j2<sr2.l.length))) rfl rfl (DA (a:=j2) (b:=sr2.l.length))) rfl (AD.nil (q1 ?_)))
        refine AE.cond rfl (λhc8=>?_) (λhc8=>?_)
        ·replace hc8:=of_decide_eq_true hc8
         obtain ⟨o,ho⟩:∃q,q=sr2.l.getD j2 0:=⟨_,rfl⟩
         have ho9:o=(JM ts (CP (ts.getD k (0,0,0)) 2)).getD j2 0:=by rw [<-hsl2];exact ho
         have hjl:j2<(JM ts (CP (ts.getD k (0,0,0)) 2)).length:=by rw [<-hsl2];exact hc8
         have hol:o<ts.length:=(Fe.1 (by rw [ho9];exact FR hjl)).1
         refine AE.skip (q1 (AE.block (q4 (AH (v:=(pP (pB sr2.p) (pO sr2.p+j2*1))) (AQ (j:=j2) rfl rfl sr2.ok.row Tryz.underlying33 Tryz.sizeOf3 rfl (by omega)) rfl (AH (BD (v:=(vN (sr2.l.getD j2 0))) (i:=0) rfl rfl (sr2.ok.row.ne (by omega)) B_ (JC (l:=sr2.l) (j:=j2) (by omega))) rfl ?_)))))
         refine AD.retell (k:=107) (u:=(vN o)) rfl (by rw [ho]) (AL rfl (q3 (sL [1,2,4,63,64,3,96,97,102,103,104,11,16] rfl) (AO rfl (AO rfl (AH (v:=(pP (pB (some ⟨bm,0,none⟩)) (pO (some ⟨bm,0,none⟩)+o*1))) (AQ (j:=o) rfl rfl hbm.row Tryz.underlying33 Tryz.sizeOf3 rfl (by omega)) rfl ?_)))))
         refine AH (Cd (v:=(vI (la2.getD o 0))) (i:=4) rfl rfl hbm (by rw [Cr,Nat.mul_one];exact hf2.len) (hbm.row.ne (by omega)) B_ (Mx (l:=la2) (j:=o) (by omega))) rfl (AH (Ag (c:=(decide ((la2.getD o 0)<(0:Int)))) rfl rfl rfl) rfl (AD.nil (AC.subF (sL [1,2,4,63,64,3,96,97,102,103,104,11,16,112] rfl) (AC.then_ ?_))))
         refine AE.cond rfl (λhc9=>?_) (λhc9=>?_)
         ·replace hc9:=of_decide_eq_true hc9
          refine q4 (AO rfl (AO rfl (AO rfl (AH (v:=(pP (pB (some ⟨bm,0,none⟩)) (pO (some ⟨bm,0,none⟩)+o*1))) (AQ (j:=o) rfl rfl hbm.row Tryz.underlying33 Tryz.sizeOf3 rfl (by omega)) rfl (AD.storeRow4 (j:=o) (v:=(vN n)) rfl rfl hbm (by rw [Cr,Nat.mul_one];exact hf2.len) (by omega) rfl Tryz.sizeOf3 rfl (Kj _ _ _) ?_)))))
          refine AD.nil (AC.subF (sL [1,2,4,63,64,3,96,97,102,103,104,11,16] rfl) (AC.then_ (AE.region (AO rfl (AO rfl ?_)))))
          refine AD.openV (V:=λb3=>(Value.slice (some ⟨b3,0,none⟩) 1 1)) (T:=3) (cs:=[(vN o)]) (AN rfl) (Ah (cs:=[(vN o)]) (pv:=[(0,(vN o))]) Tryz.underlying33 Tryz.sizeOf3 Tryz.zeroValue3 (by decide) (by decide) rfl (by kernel_rfl)) rfl (Af rfl) λb3=>AD.appendAt 4 (j:=0) (cs2:=inL (ta2++[o])) NO rfl hoa2 (by rw [CY,Nat.mul_one]) rfl rfl rfl rfl rfl (by decide) (HM (by omega)) (by omega) (by rw [DR];rfl) rfl λp_6 c_6 ho_6 hne_6=>AL rfl (AD.nil (AC.subF (sL [1,2,4,63,64,3,96,97,102,103,104,11,16] rfl) (AC.in_normal ?_)))
          refine AC.then_ (AE.region (AH (AT (c:=((j2+1:Nat):Int)) rfl rfl (AR (a:=j2) (b:=1) (by omega))) rfl (AO rfl (AD.nil (AC.subF (sL [1,2,4,63,64,3,96,97,102,103,104,11,16] rfl) ?_)))))
          rw [show ta2.length+1=(ta2++[o]).length by simp]
          exact AC.round5 (j2+1) (la2.set o ((n:Nat):Int)) (ta2++[o]) p_6 c_6 (⟨hf2.push hP (by omega) ho9 hjl (by decide) hc9,by simpa using ho_6,Nat.lt_trans (MN (by rw [hf2.len];exact hol) (hf2.isneg hol hc9)) hm2,by omega⟩) (by omega) (sF rfl) (sl sr)
         ·replace hc9:=of_decide_eq_false hc9
          refine AE.skip (AC.in_normal (AC.then_ (AE.region (AH (AT (c:=((j2+1:Nat):Int)) rfl rfl (AR (a:=j2) (b:=1) (by omega))) rfl (AO rfl ?_)))))
          exact AD.nil (AC.subF (sL [1,2,4,63,64,3,96,97,102,103,104,11,16] rfl) (AC.round5 (j2+1) la2 ta2 pa2 ca2 (⟨hf2.keep hP ho9 hjl (by decide) (by show 0<=la2.getD o 0;omega),hoa2,hm2,by omega⟩) (by omega) (sF rfl) sr))
        ·replace hc8:=of_decide_eq_false hc8
         have hfe2:=hf2.corner (by rw [<-hsl2];omega)
         refine AE.exit (AC.then_exit (AC.round5_exit (AC.in_exit (AC.in_normal (AC.then_ ?_)))))
         refine AE.region (AH (AT (c:=(3:Int)) rfl rfl (by decide)) rfl (AO rfl (AD.nil (AC.subF (sL [1,2,4,63,64,3,96,97,102,103,104,11] rfl) (AC.again ?_)))))
         refine F1.step (q4 (AH (Ag (c:=false) rfl rfl (by decide)) rfl (AD.nil (q1 (AE.cond_false rfl ?_)))))
         exact AE.exit (AC.then_exit (AC.then_exit (AC.in_exit (AC.in_normal (AC.round4 la2 ta2 pa2 ca2 (⟨hfe2.close,hoa2⟩) (hm2) (sF rfl) (sl (sl (sl sr))))))))
     ·replace hc6:=of_decide_eq_false hc6
      have hfin:=hF.finish hP (by omega) (by omega) hng
      refine AE.exit (AC.then_exit (AC.round4_exit (AC.in_exit (AC.then_ (AE.region ?_)))))
      refine AO rfl (AH (AT (c:=((n+1:Nat):Int)) rfl rfl (AR (a:=n) (b:=1) (by omega))) rfl (AL rfl (AD.nil (AC.subF (sL [1,2,4,63,64,3,11] rfl) (AC.in_normal ?_)))))
      exact AC.then_ (AE.region (AH (AT (c:=((v+1:Nat):Int)) rfl rfl (AR (a:=v) (b:=1) (by omega))) rfl (AO rfl (AD.nil (AC.subF (sL [1,2,4,63,64,3,11] rfl) (AC.round3 (v+1) (n+1) l2 (⟨by omega,hfin⟩) (by omega) (sF rfl) (sl sr)))))))
   ·replace hc4:=of_decide_eq_false hc4
    refine AE.exit (AC.then_exit (AC.round3_exit (AC.in_exit (q2 (AO rfl ?_)))))
    refine AO rfl (AL rfl (AL rfl (AD.nil (AC.subF (sL [1,2,4,63,64,3] rfl) (AC.then_ ?_)))))
    exact AE.ret (AC.scope_ret (DM rfl (Am (v:=(Value.slice (some ⟨bm,0,none⟩) ts.length ts.length)) rfl) (Am (v:=(vN n)) rfl) (λw hw=>(Xd hw 0 rfl hbm hPl.symm (by have h9:=hP;rw [show v=ts.length by omega] at h9;exact h9.fin) rfl))))
end
end Go.Proofs.YtfbomiejpbchdaaGreat
