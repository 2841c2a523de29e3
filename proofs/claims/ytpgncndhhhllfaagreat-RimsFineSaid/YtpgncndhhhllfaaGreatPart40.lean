import Derived.Test.YtpgncndhhhllfaaGreatPart37
import Derived.Test.YtpgncndhhhllfaaGreatPart39
namespace Go.Proofs.YtpgncndhhhllfaaGreat
open Go Go.RowKit Go.Proofs.Tryz
set_option linter.unusedVariables false
set_option linter.unusedSimpArgs false
section
set_option maxRecDepth 100000
theorem Tx:Ix prog 86 3 (vN 0) 8:=⟨underlying86,_,_,rfl,rfl,rfl,rfl,rfl⟩
set_option maxHeartbeats 8000000 in
theorem L0 {ps:List Pt} {ts ss:List T3} (x:MX ps ts ss) (hnb:BI ps.length ts=true) (hne:0<ts.length) (hp:ps.length<=1000000) (htl:ts.length<=1000000) (w:World) {S:Nat->Prop} (hx:Ro S w x):Calls prog 22 #[(aG (Bp x))] w (Am (aW ts) S w):=by
 have lx:=Dk (W:=w) hx
 refine An (args:=[(aG (Bp x))]) (L:=[AK x.a.p (rowsL Bf ps),AK x.b.p (rowsL AZ ts),AK x.c.p (rowsL AZ ss)]) func22 O O (Ad O) (E3 hx BA) (AE.subF (sL [0] O) (q4 (Ca (cs:=Bp x) O λb1=>AI O (AI O (AC.nil (OkQ.subF (sL [1,2,3] O) (OkQ.then_ (AE.scope (AE.seq (q4 ?_))))))))))
 refine BF 0 DA O (DS (args:=[(aG (Bp x))]) (v:=(Value.bool true)) call35 (λw hw=>(by have h9:=Jc x Z w (Br hw 1 O lx);rw [hnb] at h9;exact h9)) O (AJ (Bj (c:=false) O O) O (AM O (AC.step (v:=(pP b1 1)) (AA O) (AB O underlying31 O sizeOf28 O) O (Ad O) (AC.step (v:=(Value.slice x.b.p ts.length x.b.c)) (AA O) (AS (i:=0) (v:=(Value.slice x.b.p ts.length x.b.c)) O O Bl.a O) O (Ad O) (AC.step (v:=(vN ts.length)) (AA O) (AF O underlying28) O (Ad O) (AC.step (v:=(Value.bool false)) (AA O) (BQ (c:=false) O O (decide_eq_false Z)) O (Ad O) (AJ (v:=(Value.bool false)) (AT O O) O (AC.nil (OkQ.subF (sL [1,2,3,25] O) (OkQ.then_ ?_)))))))))))
 refine AE.cond_false O (AE.skip (q2 (AC.makeMap vN IW (AP O) O λb2=>AI O (q6 (sL [1,2,3,4] O) (q4 (AJ (v:=(pP b1 1)) (AB O underlying31 O sizeOf28 O) O (BE 1 (Value.slice x.b.p ts.length x.b.c) Bl O (AJ (v:=(vN ts.length)) (AF O underlying28) O (AM O (AC.nil ?_))))))))))
 refine OkQ.subF (sL [1,2,3,4,28,29,30] O) (OkQ.then_ (AE.block ?_))
 refine AE.lp2 (tg λ(t:Nat) (kv:List (Nat×RO))=>t<=ts.length/\G8 Uc kv/\Tm kv=Tc ts (3*t+0)) (tg λ(t:Nat) (kv:List (Nat×RO))=>[(1,(pP b1 0)),(2,(Value.slice none 0 0)),(3,(vI 0)),(4,(Value.map (some b2))),(28,(Value.slice x.b.p ts.length x.b.c)),(29,(vN ts.length)),(30,(vN t))]) (tg λ(t:Nat) (kv:List (Nat×RO))=>(Bu b2 vN IW kv::Af b1 31 (Bp x)::AK x.a.p (rowsL Bf ps)::AK x.b.p (rowsL AZ ts)::AK x.c.p (rowsL AZ ss)::RL 3 kv)) (tg λ(t:Nat) (kv:List (Nat×RO))=>ts.length-t) 0 ([]:List (Nat×RO)) (⟨Nat.zero_le _,G8.nil,rfl⟩) (sF O) sr (λt kv hJ=>?_)
 obtain ⟨ht,hok,hat⟩:=hJ
 refine q4 (AJ (Ac (c:=(decide (t<ts.length))) O O (CD (a:=t) (b:=ts.length))) O (AC.nil (q1 ?_)))
 refine AE.cond O (λhc1=>?_) (λhc1=>?_)
 ·replace hc1:=of_decide_eq_true hc1
  obtain ⟨T,hT⟩:∃q,q=ts.getD t (0,0,0):=⟨_,rfl⟩
  obtain ⟨g1,g2,g3⟩:=Cy (CW hnb hc1)
  rw [<-hT] at g1 g2 g3
  refine AE.skip (q1 (AE.block (q4 (AM O (AJ (v:=(pP (pB x.b.p) (pO x.b.p+t*3))) (AG (j:=t) O O x.b.ok underlying28 sizeOf68 O Z) O (AJ (v:=(aG (AZ (ts.getD t ((0,0,0):Tq3))))) (Ak (vs:=AZ (ts.getD t ((0,0,0):Tq3))) (i:=3) O O (Aw.ne x.b.ok Z) Dj (BD Aa _ _ _ Z) (Aa _)) O (AC.retell (k:=34) (u:=(aG (AZ T))) O (by rw [hT]) (al O7 O λb3=>AI O (BN O sizeOf68 O (q3 (sL [1,2,3,4,28,29,30,6,5] O) ?_))))))))))
  refine BF 0 Dj O (AM O (AC.nil (OkQ.then_ (AE.block (AE.unroll 4 (Fr.step (q4 (AJ (Ac (c:=true) O O (by decide)) O (AC.nil (q1 (AE.cond_true O ?_)))))))))))
  refine AE.skip (q1 (AE.block (q4 (AJ (v:=(vN T.1)) (CM (j:=0) O O underlying68 sizeOf3 isAgg3 (by decide) O) O (AI O (AC.nil (OkQ.subF (sL [1,2,3,4,28,29,30,6,5,35,36,8] O) (OkQ.then_ (AE.region (AM O (AM O ?_)))))))))))
  refine AM O (AM O ?_)
  obtain ⟨sq0,hsq0⟩:∃q,q=(Ae kv T.1).getD M7:=⟨_,rfl⟩
  have hsn0:sq0.l.length<=3*t+0:=by rw [hsq0,<-KA,hat];exact Gm _
  refine AJ (v:=(Value.slice sq0.p sq0.l.length sq0.c)) ((by rw [hsq0];exact Bo Er 1 (eV:=IW) (kvs:=kv) (x:=T.1) (z0:=M7) (co:=false) O O underlying123 zeroValue86 O (hok) (by show (_:Nat)<_;omega))) O (AC.pullRO (A:=[Af b3 68 (AZ T),Bu b2 vN IW kv,Af b1 31 (Bp x),AK x.a.p (rowsL Bf ps),AK x.b.p (rowsL AZ ts),AK x.c.p (rowsL AZ ss)]) (kvs:=kv) (k:=T.1) hok hsq0 (AM O (AC.openV (V:=λb4=>(Value.slice (some ⟨b4,0,none⟩) 1 1)) (T:=3) (cs:=[(vN t)]) (AP O) (Ai (cs:=[(vN t)]) (pv:=[(0,(vN t))]) underlying86 sizeOf3 zeroValue3 (by decide) (by decide) O (by kernel_rfl)) O (Ad O) λb4=>AC.append1 (j:=0) (cs2:=inL (sq0.l++[t])) LJ O sq0.ok (by rw [BR,Nat.mul_one]) O O O O (by decide) (FE Z) Z (by rw [Cd];rfl) O λp_1 c_1 ho_1 hne_1=>?_)))
  have hro0:OwnOk p_1 (sq0.l++[t]).length c_1:=by simpa using ho_1
  rw [show sq0.l.length+1=(sq0.l++[t]).length by simp]
  refine AC.mapUpdate Er 3 (kvs:=kv) (x:=T.1) (y:=(⟨p_1,c_1,sq0.l++[t],hro0⟩:RO)) (AP O) O O O underlying123 O (hok) (by show (_:Nat)<_;omega) (AC.permL (show List.Perm _ (Af b4 3 ([(vN t)])::Af b3 68 (AZ T)::Bu b2 vN IW (BG kv T.1 (⟨p_1,c_1,sq0.l++[t],hro0⟩:RO))::Af b1 31 (Bp x)::AK x.a.p (rowsL Bf ps)::AK x.b.p (rowsL AZ ts)::AK x.c.p (rowsL AZ ss)::RL 3 (BG kv T.1 (⟨p_1,c_1,sq0.l++[t],hro0⟩:RO))) from Mo (A1:=[Af b4 3 ([(vN t)])]) (A2:=[Af b3 68 (AZ T),Bu b2 vN IW (BG kv T.1 (⟨p_1,c_1,sq0.l++[t],hro0⟩:RO)),Af b1 31 (Bp x),AK x.a.p (rowsL Bf ps),AK x.b.p (rowsL AZ ts),AK x.c.p (rowsL AZ ss)]) (kvs:=kv) (k:=T.1) (s:=(⟨p_1,c_1,sq0.l++[t],hro0⟩:RO)) (T:=3) hok) ?_)
  obtain ⟨kv0,hkv0⟩:∃q,q=BG kv T.1 (⟨p_1,c_1,sq0.l++[t],hro0⟩:RO):=⟨_,rfl⟩
  rw [<-hkv0]
  have hok0:G8 Uc kv0:=hkv0▸hok.put (by show (_:Nat)<_;omega)
  have hat0:Tm kv0=Tc ts (3*t+0+1):=by rw [hkv0,KT,KX (show 0<3 by decide),<-hT,<-hat,KA];show BG _ T.1 (sq0.l++[t])=BG _ (Bw T 0) (((Ae kv (Bw T 0)).getD M7).l++[t]);rw [show Bw T 0=T.1 from rfl,<-hsq0]
  refine AC.nil (OkQ.subF (sL [1,2,3,4,28,29,30,6,5,35,36] O) (OkQ.in_normal (OkQ.then_ (AE.region (AJ (AQ (c:=(1:Int)) O O (by decide)) O (AM O (AC.nil (OkQ.subF (sL [1,2,3,4,28,29,30,6,5,35,36] O) (OkQ.again (Fr.step (q4 ?_)))))))))))
  refine AJ (Ac (c:=true) O O (by decide)) O (AC.nil (q1 (AE.cond_true O (AE.skip (q1 (AE.block (q4 (AJ (v:=(vN T.2.1)) (CM (j:=1) O O underlying68 sizeOf3 isAgg3 (by decide) O) O (AI O (AC.nil (OkQ.subF (sL [1,2,3,4,28,29,30,6,5,35,36,8] O) ?_)))))))))))
  refine OkQ.then_ (AE.region (AM O (AM O (AM O (AM O ?_)))))
  obtain ⟨sq1,hsq1⟩:∃q,q=(Ae kv0 T.2.1).getD M7:=⟨_,rfl⟩
  have hsn1:sq1.l.length<=3*t+1:=by rw [hsq1,<-KA,hat0];exact Gm _
  refine AJ (v:=(Value.slice sq1.p sq1.l.length sq1.c)) ((by rw [hsq1];exact Bo Er 2 (eV:=IW) (kvs:=kv0) (x:=T.2.1) (z0:=M7) (co:=false) O O underlying123 zeroValue86 O (hok0) (by show (_:Nat)<_;omega))) O (AC.pullRO (A:=[Af b4 3 ([(vN t)]),Af b3 68 (AZ T),Bu b2 vN IW kv0,Af b1 31 (Bp x),AK x.a.p (rowsL Bf ps),AK x.b.p (rowsL AZ ts),AK x.c.p (rowsL AZ ss)]) (kvs:=kv0) (k:=T.2.1) hok0 hsq1 (AM O (AC.openV (V:=λb5=>(Value.slice (some ⟨b5,0,none⟩) 1 1)) (T:=3) (cs:=[(vN t)]) (AP O) (Ai (cs:=[(vN t)]) (pv:=[(0,(vN t))]) underlying86 sizeOf3 zeroValue3 (by decide) (by decide) O (by kernel_rfl)) O (Ad O) λb5=>AC.append1 (j:=0) (cs2:=inL (sq1.l++[t])) LJ O sq1.ok (by rw [BR,Nat.mul_one]) O O O O (by decide) (FE Z) Z (by rw [Cd];rfl) O λp_2 c_2 ho_2 hne_2=>?_)))
  have hro1:OwnOk p_2 (sq1.l++[t]).length c_2:=by simpa using ho_2
  rw [show sq1.l.length+1=(sq1.l++[t]).length by simp]
  refine AC.mapUpdate Er 4 (kvs:=kv0) (x:=T.2.1) (y:=(⟨p_2,c_2,sq1.l++[t],hro1⟩:RO)) (AP O) O O O underlying123 O (hok0) (by show (_:Nat)<_;omega) (AC.permL (show List.Perm _ (Af b5 3 ([(vN t)])::Af b4 3 ([(vN t)])::Af b3 68 (AZ T)::Bu b2 vN IW (BG kv0 T.2.1 (⟨p_2,c_2,sq1.l++[t],hro1⟩:RO))::Af b1 31 (Bp x)::AK x.a.p (rowsL Bf ps)::AK x.b.p (rowsL AZ ts)::AK x.c.p (rowsL AZ ss)::RL 3 (BG kv0 T.2.1 (⟨p_2,c_2,sq1.l++[t],hro1⟩:RO))) from Mo (A1:=[Af b5 3 ([(vN t)])]) (A2:=[Af b4 3 ([(vN t)]),Af b3 68 (AZ T),Bu b2 vN IW (BG kv0 T.2.1 (⟨p_2,c_2,sq1.l++[t],hro1⟩:RO)),Af b1 31 (Bp x),AK x.a.p (rowsL Bf ps),AK x.b.p (rowsL AZ ts),AK x.c.p (rowsL AZ ss)]) (kvs:=kv0) (k:=T.2.1) (s:=(⟨p_2,c_2,sq1.l++[t],hro1⟩:RO)) (T:=3) hok0) ?_)
  obtain ⟨kv1,hkv1⟩:∃q,q=BG kv0 T.2.1 (⟨p_2,c_2,sq1.l++[t],hro1⟩:RO):=⟨_,rfl⟩
  rw [<-hkv1]
  have hok1:G8 Uc kv1:=hkv1▸hok0.put (by show (_:Nat)<_;omega)
  have hat1:Tm kv1=Tc ts (3*t+1+1):=by rw [hkv1,KT,KX (show 1<3 by decide),<-hT,<-hat0,KA];show BG _ T.2.1 (sq1.l++[t])=BG _ (Bw T 1) (((Ae kv0 (Bw T 1)).getD M7).l++[t]);rw [show Bw T 1=T.2.1 from rfl,<-hsq1]
  refine AC.nil (OkQ.subF (sL [1,2,3,4,28,29,30,6,5,35,36] O) (OkQ.in_normal (OkQ.then_ (AE.region (AJ (AQ (c:=(2:Int)) O O (by decide)) O (AM O (AC.nil (OkQ.subF (sL [1,2,3,4,28,29,30,6,5,35,36] O) (OkQ.again (Fr.step (q4 ?_)))))))))))
  refine AJ (Ac (c:=true) O O (by decide)) O (AC.nil (q1 (AE.cond_true O (AE.skip (q1 (AE.block (q4 (AJ (v:=(vN T.2.2)) (CM (j:=2) O O underlying68 sizeOf3 isAgg3 (by decide) O) O (AI O (AC.nil (OkQ.subF (sL [1,2,3,4,28,29,30,6,5,35,36,8] O) ?_)))))))))))
  refine OkQ.then_ (AE.region (AM O (AM O (AM O (AM O ?_)))))
  obtain ⟨sq2,hsq2⟩:∃q,q=(Ae kv1 T.2.2).getD M7:=⟨_,rfl⟩
  have hsn2:sq2.l.length<=3*t+2:=by rw [hsq2,<-KA,hat1];exact Gm _
  refine AJ (v:=(Value.slice sq2.p sq2.l.length sq2.c)) ((by rw [hsq2];exact Bo Er 3 (eV:=IW) (kvs:=kv1) (x:=T.2.2) (z0:=M7) (co:=false) O O underlying123 zeroValue86 O (hok1) (by show (_:Nat)<_;omega))) O (AC.pullRO (A:=[Af b5 3 ([(vN t)]),Af b4 3 ([(vN t)]),Af b3 68 (AZ T),Bu b2 vN IW kv1,Af b1 31 (Bp x),AK x.a.p (rowsL Bf ps),AK x.b.p (rowsL AZ ts),AK x.c.p (rowsL AZ ss)]) (kvs:=kv1) (k:=T.2.2) hok1 hsq2 (AM O (AC.openV (V:=λb6=>(Value.slice (some ⟨b6,0,none⟩) 1 1)) (T:=3) (cs:=[(vN t)]) (AP O) (Ai (cs:=[(vN t)]) (pv:=[(0,(vN t))]) underlying86 sizeOf3 zeroValue3 (by decide) (by decide) O (by kernel_rfl)) O (Ad O) λb6=>AC.append1 (j:=0) (cs2:=inL (sq2.l++[t])) LJ O sq2.ok (by rw [BR,Nat.mul_one]) O O O O (by decide) (FE Z) Z (by rw [Cd];rfl) O λp_3 c_3 ho_3 hne_3=>?_)))
  have hro2:OwnOk p_3 (sq2.l++[t]).length c_3:=by simpa using ho_3
  rw [show sq2.l.length+1=(sq2.l++[t]).length by simp]
  refine AC.mapUpdate Er 5 (kvs:=kv1) (x:=T.2.2) (y:=(⟨p_3,c_3,sq2.l++[t],hro2⟩:RO)) (AP O) O O O underlying123 O (hok1) (by show (_:Nat)<_;omega) (AC.permL (show List.Perm _ (Af b6 3 ([(vN t)])::Af b5 3 ([(vN t)])::Af b4 3 ([(vN t)])::Af b3 68 (AZ T)::Bu b2 vN IW (BG kv1 T.2.2 (⟨p_3,c_3,sq2.l++[t],hro2⟩:RO))::Af b1 31 (Bp x)::AK x.a.p (rowsL Bf ps)::AK x.b.p (rowsL AZ ts)::AK x.c.p (rowsL AZ ss)::RL 3 (BG kv1 T.2.2 (⟨p_3,c_3,sq2.l++[t],hro2⟩:RO))) from Mo (A1:=[Af b6 3 ([(vN t)])]) (A2:=[Af b5 3 ([(vN t)]),Af b4 3 ([(vN t)]),Af b3 68 (AZ T),Bu b2 vN IW (BG kv1 T.2.2 (⟨p_3,c_3,sq2.l++[t],hro2⟩:RO)),Af b1 31 (Bp x),AK x.a.p (rowsL Bf ps),AK x.b.p (rowsL AZ ts),AK x.c.p (rowsL AZ ss)]) (kvs:=kv1) (k:=T.2.2) (s:=(⟨p_3,c_3,sq2.l++[t],hro2⟩:RO)) (T:=3) hok1) ?_)
  obtain ⟨kv2,hkv2⟩:∃q,q=BG kv1 T.2.2 (⟨p_3,c_3,sq2.l++[t],hro2⟩:RO):=⟨_,rfl⟩
  rw [<-hkv2]
  have hok2:G8 Uc kv2:=hkv2▸hok1.put (by show (_:Nat)<_;omega)
  have hat2:Tm kv2=Tc ts (3*t+2+1):=by rw [hkv2,KT,KX (show 2<3 by decide),<-hT,<-hat1,KA];show BG _ T.2.2 (sq2.l++[t])=BG _ (Bw T 2) (((Ae kv1 (Bw T 2)).getD M7).l++[t]);rw [show Bw T 2=T.2.2 from rfl,<-hsq2]
  refine AC.nil (OkQ.subF (sL [1,2,3,4,28,29,30,6,5,35,36] O) (OkQ.in_normal (OkQ.then_ (AE.region (AJ (AQ (c:=(3:Int)) O O (by decide)) O (AM O (AC.nil (OkQ.subF (sL [1,2,3,4,28,29,30,6,5,35,36] O) (OkQ.again (Fr.step (q4 ?_)))))))))))
  refine AJ (Ac (c:=false) O O (by decide)) O (AC.nil (q1 (AE.cond_false O (AE.exit (OkQ.then_exit (OkQ.then_exit (OkQ.in_exit (OkQ.in_normal (OkQ.then_ (AE.region (AJ (AQ (c:=((t+1:Nat):Int)) O O (AN (a:=t) (b:=1) Z)) O ?_)))))))))))
  exact AM O (AC.nil (OkQ.subF (sL [1,2,3,4,28,29,30,6,5,35,36] O) (OkQ.round2 (t+1) kv2 (⟨Z,hok2,hat2⟩) Z (sF O) (sl (sl (sl (sl sr)))))))
 ·replace hc1:=of_decide_eq_false hc1
  have hatl:∀p,((Ae kv p).getD M7).l=Jt ts p:=λp=>by unfold Jt;rw [<-KA,hat,show 3*t+0=3*ts.length by omega]
  refine AE.exit (OkQ.then_exit (OkQ.round2_exit (OkQ.in_exit (q2 (AJ (v:=(pP b1 1)) (AB O underlying31 O sizeOf28 O) O (AC.frzRO (A:=[Bu b2 vN IW kv,Af b1 31 (Bp x),AK x.a.p (rowsL Bf ps),AK x.b.p (rowsL AZ ts),AK x.c.p (rowsL AZ ss)]) (kvs:=kv) (BE 1 (Value.slice x.b.p ts.length x.b.c) Bl O (AJ (v:=(vN ts.length)) (AF O underlying28) O ?_))))))))
  refine AC.makeInt (m:=ts.length) Tx O O Z O O ?_;intro bm hbm;rw [show List.replicate ts.length 0=Pu ts.length 0 from O]
  refine AI O (q6 (sL [1,2,3,4,28,29,30] O) (q4 (AM O (AJ (v:=(vN ts.length)) (AF O underlying86) O (AM O (AC.nil (OkQ.subF (sL [1,2,3,4,28,29,30,54,55] O) (OkQ.then_ (AE.block ?_)))))))))
  refine AE.lp1 (tg λ(q:Nat)=>q<=ts.length) (tg λ(q:Nat)=>[(1,(pP b1 0)),(2,(Value.slice (some ⟨bm,0,none⟩) ts.length ts.length)),(3,(vI 0)),(4,(Value.map (some b2))),(54,(vN ts.length)),(55,(vN q))]) (tg λ(q:Nat)=>(rowW (some ⟨bm,0,none⟩) 3 1 ts.length ts.length (zL (Pu ts.length q))::Bu b2 vN IW kv::Af b1 31 (Bp x)::AK x.a.p (rowsL Bf ps)::AK x.b.p (rowsL AZ ts)::AK x.c.p (rowsL AZ ss)::Th kv)) (tg λ(q:Nat)=>ts.length-q) 0 (Nat.zero_le _) (sF O) sr (λq hJ=>?_)
  have hq:=hJ
  refine q4 (AJ (Ac (c:=(decide (q<ts.length))) O O (CD (a:=q) (b:=ts.length))) O (AC.nil (q1 ?_)))
  refine AE.cond O (λhc3=>?_) (λhc3=>?_)
  ·replace hc3:=of_decide_eq_true hc3
   refine AE.skip (q1 (AE.block (q4 (AM O (AI O (AC.nil (OkQ.subF (sL [1,2,3,4,54,55,9] O) (OkQ.then_ (AE.region (AM O (AM O ?_)))))))))))
   refine AJ (v:=(pP (pB (some ⟨bm,0,none⟩)) (pO (some ⟨bm,0,none⟩)+q*1))) (AG (j:=q) O O hbm.row underlying86 sizeOf3 O Z) O (AC.storeRow0 (j:=q) (v:=(vI (-1:Int))) O O hbm (by rw [CG,Nat.mul_one];exact (Nc Z)) Z O sizeOf3 O (HK _ _ _) (AC.nil (OkQ.subF (sL [1,2,3,4,54,55] O) (OkQ.in_normal (OkQ.then_ (AE.region (AJ (AQ (c:=((q+1:Nat):Int)) O O (AN (a:=q) (b:=1) Z)) O (AM O (AC.nil (OkQ.subF (sL [1,2,3,4,54,55] O) ?_))))))))))
   rw [Yb Z]
   exact OkQ.round1 (q+1) Z Z (sF O) sr
  ·replace hc3:=of_decide_eq_false hc3
   rw [show Pu ts.length q=Pu ts.length ts.length by rw [show q=ts.length by omega]]
   refine AE.exit (OkQ.then_exit (OkQ.round1_exit (OkQ.in_exit (q1 (AE.label (q1 (q4 (AM O (AJ (v:=(vN ts.length)) (AF O underlying86) O (AM O (AC.nil ?_)))))))))))
   refine OkQ.subF (sL [1,2,3,4,54,55,63,64] O) (OkQ.then_ (AE.block ?_))
   refine AE.lp3 (tg λ(v:Nat) (n:Nat) (l:List Int)=>v<=ts.length/\Ql ts v n l) (tg λ(v:Nat) (n:Nat) (l:List Int)=>[(1,(pP b1 0)),(2,(Value.slice (some ⟨bm,0,none⟩) ts.length ts.length)),(4,(Value.map (some b2))),(63,(vN ts.length)),(64,(vN v)),(3,(vN n))]) (tg λ(v:Nat) (n:Nat) (l:List Int)=>(rowW (some ⟨bm,0,none⟩) 3 1 ts.length ts.length (zL l)::Bu b2 vN IW kv::Af b1 31 (Bp x)::AK x.a.p (rowsL Bf ps)::AK x.b.p (rowsL AZ ts)::AK x.c.p (rowsL AZ ss)::Th kv)) (tg λ(v:Nat) (n:Nat) (l:List Int)=>ts.length-v) 0 0 (Pu ts.length ts.length) (⟨Nat.zero_le _,Ql.start (Nc (Nat.le_refl _)) (λs hs=>Xm hs)⟩) (sF O) sr (λv n l hJ=>?_)
   obtain ⟨hv,hP⟩:=hJ
   have hnle:=hP.nle
   have hPl:=hP.len
   refine q4 (AJ (Ac (c:=(decide (v<ts.length))) O O (CD (a:=v) (b:=ts.length))) O (AC.nil (q1 ?_)))
   refine AE.cond O (λhc4=>?_) (λhc4=>?_)
   ·replace hc4:=of_decide_eq_true hc4
    refine AE.skip (q1 (AE.block (q4 (AM O (AI O (q6 (sL [1,2,4,63,64,3,10] O) (q4 (AM O (AM O (AJ (v:=(pP (pB (some ⟨bm,0,none⟩)) (pO (some ⟨bm,0,none⟩)+v*1))) (AG (j:=v) O O hbm.row underlying86 sizeOf3 O Z) O (AJ (A7 (v:=(vI (l.getD v 0))) (i:=0) O O hbm (by rw [CG,Nat.mul_one];exact hP.len) (hbm.row.ne Z) BY (HO (l:=l) (j:=v) Z)) O ?_)))))))))))
    refine AJ (DR (c:=(decide ((0:Int)<=(l.getD v 0)))) O O O) O (AC.nil (OkQ.subF (sL [1,2,4,63,64,3,10,71] O) (OkQ.then_ ?_)))
    refine AE.cond O (λhc5=>?_) (λhc5=>?_)
    ·replace hc5:=of_decide_eq_true hc5
     exact AE.exit (OkQ.then_exit (OkQ.in_exit (OkQ.then_ (AE.region (AJ (AQ (c:=((v+1:Nat):Int)) O O (AN (a:=v) (b:=1) Z)) O (AM O (AC.nil (OkQ.subF (sL [1,2,4,63,64,3,10] O) (OkQ.round3 (v+1) n l (⟨Z,hP.next hc5⟩) Z (sF O) sr)))))))))
    ·replace hc5:=of_decide_eq_false hc5
     have hng:gZ l v<0:=by show l.getD v 0<0;omega
     refine AE.skip (q2 (AM O (AC.openV (V:=λbt=>(Value.slice (some ⟨bt,0,none⟩) 1 1)) (T:=3) (cs:=inL [v]) (AP O) (Ai (cs:=inL [v]) (pv:=[(0,(vN v))]) underlying86 sizeOf3 zeroValue3 (by decide) (by decide) O (by kernel_rfl)) O (Ad O) λbt=>AC.asRow0 (z:=1) 1 O Z λhbt=>AI O (q3 (sL [1,2,4,63,64,3,10,11] O) (AM O (AM O (AM O (AJ (v:=(pP (pB (some ⟨bm,0,none⟩)) (pO (some ⟨bm,0,none⟩)+v*1))) (AG (j:=v) O O hbm.row underlying86 sizeOf3 O Z) O (AC.storeRow1 (j:=v) (v:=(vN n)) O O hbm (by rw [CG,Nat.mul_one];exact hP.len) Z O sizeOf3 O (HK _ _ _) ?_)))))))))
     refine q6 (sL [1,2,4,63,64,3,10,11] O) (AE.block ?_)
     refine AE.lp4 (tg λ(l2:List Int) (td:List Nat) (p2:Option Addr) (c2:Nat)=>Ua ts v n l l2 td/\OwnOk p2 td.length c2) (tg λ(l2:List Int) (td:List Nat) (p2:Option Addr) (c2:Nat)=>[(1,(pP b1 0)),(2,(Value.slice (some ⟨bm,0,none⟩) ts.length ts.length)),(4,(Value.map (some b2))),(63,(vN ts.length)),(64,(vN v)),(3,(vN n)),(11,(Value.slice p2 td.length c2))]) (tg λ(l2:List Int) (td:List Nat) (p2:Option Addr) (c2:Nat)=>(rowW p2 3 1 td.length c2 (inL td)::rowW (some ⟨bm,0,none⟩) 3 1 ts.length ts.length (zL l2)::Bu b2 vN IW kv::Af b1 31 (Bp x)::AK x.a.p (rowsL Bf ps)::AK x.b.p (rowsL AZ ts)::AK x.c.p (rowsL AZ ss)::Th kv)) (tg λ(l2:List Int) (td:List Nat) (p2:Option Addr) (c2:Nat)=>SD l2 td) (l.set v ((n:Nat):Int)) ([v]) (some ⟨bt,0,none⟩) 1 (⟨Ua.start hP Z hng,hbt⟩) (sF O) sr (λl2 td p2 c2 hJ=>?_)
     obtain ⟨hF,ho2⟩:=hJ
     have htl2:=hF.tl
     refine AE.seq (q4 (AM O (AJ (v:=(vN td.length)) (AF O underlying86) O (AJ (CY (c:=(decide (0<td.length))) O O (CD (a:=0) (b:=td.length))) O (AC.nil (OkQ.subF (sL [1,2,4,63,64,3,11,80] O) (OkQ.then_ ?_)))))))
     refine AE.cond O (λhc6=>?_) (λhc6=>?_)
     ·replace hc6:=of_decide_eq_true hc6
      have hcl2:=ho2.le
      obtain ⟨k,hk⟩:∃q,q=td.getD (td.length-1) 0:=⟨_,rfl⟩
      have hfd:=hF.pop hc6
      rw [<-hk] at hfd
      have hkt:=hfd.kk.1
      obtain ⟨T,hT⟩:∃q,q=ts.getD k (0,0,0):=⟨_,rfl⟩
      obtain ⟨g1,g2,g3⟩:=Cy (CW hnb hkt)
      rw [<-hT] at g1 g2 g3
      refine AE.skip (OkQ.then_ (AE.block (q4 (AM O (AM O (AJ (v:=(vN td.length)) (AF O underlying86) O (AJ (BU (c:=((td.length-1:Nat):Int)) O O (By (a:=td.length) (b:=1) Z Z)) O (AJ (v:=(pP (pB p2) (pO p2+(td.length-1)*1))) (AG (j:=td.length-1) O O ho2.row underlying86 sizeOf3 O Z) O (AJ (A7 (v:=(vN (td.getD (td.length-1) 0))) (i:=0) O O ho2 (by rw [BR,Nat.mul_one]) (ho2.row.ne Z) BY (CV (l:=td) (j:=td.length-1) Z)) O (AC.retell (k:=86) (u:=(vN k)) O (by rw [hk]) (AI O ?_)))))))))))
      refine q3 (sL [1,2,4,63,64,3,11,12] O) (AM O (AM O (AJ (v:=(vN td.length)) (AF O underlying86) O (AJ (BU (c:=((td.length-1:Nat):Int)) O O (By (a:=td.length) (b:=1) Z Z)) O (AJ (v:=(Value.slice p2 (td.length-1) c2)) (ER (m:=td.length-1) O O underlying86 sizeOf3 Z) O (AC.shrink 0 O (show td.length-1<=td.length by omega) O ?_))))))
      rw [show (inL td).take ((td.length-1)*1)=inL (td.take (td.length-1)) by rw [Nat.mul_one,Oz]]
      obtain ⟨t2,ht2⟩:∃q,q=td.take (td.length-1):=⟨_,rfl⟩
      have hl2:td.length-1=t2.length:=by rw [ht2,List.length_take];omega
      rw [<-ht2,hl2]
      have ho3:OwnOk p2 t2.length c2:=ho2.less Z
      rw [<-ht2] at hfd
      have hmu:=aC (l:=l2) hc6
      rw [<-ht2] at hmu
      refine AI O (q3 (sL [1,2,4,63,64,3,11,12] O) (AJ (v:=(pP b1 1)) (AB O underlying31 O sizeOf28 O) O (BE 3 (Value.slice x.b.p ts.length x.b.c) Bl O (AM O (AJ (v:=(pP (pB x.b.p) (pO x.b.p+k*3))) (AG (j:=k) O O x.b.ok underlying28 sizeOf68 O Z) O (AJ (v:=(aG (AZ (ts.getD k ((0,0,0):Tq3))))) (Ak (vs:=AZ (ts.getD k ((0,0,0):Tq3))) (i:=5) O O (Aw.ne x.b.ok Z) Dj (BD Aa _ _ _ Z) (Aa _)) O (AC.retell (k:=96) (u:=(aG (AZ T))) O (by rw [hT]) (AM O (AC.nil (OkQ.subF (sL [1,2,4,63,64,3,11,96,97] O) (OkQ.then_ ?_)))))))))))
      refine AE.block (AE.unroll 4 (Fr.step (q4 (AJ (Ac (c:=true) O O (by decide)) O (AC.nil (q1 (AE.cond_true O (AE.skip (q1 (AE.block (q4 ?_)))))))))))
      refine AJ (v:=(vN T.1)) (CM (j:=0) O O underlying68 sizeOf3 isAgg3 (by decide) O) O (AI O (q3 (sL [1,2,4,63,64,3,11,96,97,14] O) (AM O (AM O ?_))))
      obtain ⟨sr0,hsr0⟩:∃q,q=(Ae kv T.1).getD M7:=⟨_,rfl⟩
      refine AJ (v:=(Value.slice sr0.p sr0.l.length sr0.c)) ((by rw [hsr0];exact Bo Er 2 (eV:=IW) (kvs:=kv) (x:=T.1) (z0:=M7) (co:=false) O O underlying123 zeroValue86 O (hok) (by show (_:Nat)<_;omega))) O (AC.dupRO (A:=[rowW p2 3 1 t2.length c2 (inL t2),rowW (some ⟨bm,0,none⟩) 3 1 ts.length ts.length (zL l2),Bu b2 vN IW kv,Af b1 31 (Bp x),AK x.a.p (rowsL Bf ps),AK x.b.p (rowsL AZ ts),AK x.c.p (rowsL AZ ss)]) (kvs:=kv) (k:=T.1) hsr0 ?_)
      have hsl0:sr0.l=Jt ts (Bw (ts.getD k (0,0,0)) 0):=by rw [<-hT,hsr0];exact hatl _
      have hsn0:sr0.l.length<=3*ts.length:=by rw [hsl0];exact NP _
      refine AJ (v:=(vN sr0.l.length)) (AF O underlying86) O (AM O (AC.nil (OkQ.subF (sL [1,2,4,63,64,3,11,96,97,102,103,104] O) (OkQ.then_ (AE.block ?_)))))
      refine AE.lp5 (tg λ(j0:Nat) (la0:List Int) (ta0:List Nat) (pa0:Option Addr) (ca0:Nat)=>M2 ts v n l la0 ta0 k 0 j0/\OwnOk pa0 ta0.length ca0/\SD la0 ta0<SD l2 td/\j0<=sr0.l.length) (tg λ(j0:Nat) (la0:List Int) (ta0:List Nat) (pa0:Option Addr) (ca0:Nat)=>[(1,(pP b1 0)),(2,(Value.slice (some ⟨bm,0,none⟩) ts.length ts.length)),(4,(Value.map (some b2))),(63,(vN ts.length)),(64,(vN v)),(3,(vN n)),(96,(aG (AZ T))),(97,(vI 0)),(102,(Value.slice sr0.p sr0.l.length sr0.c)),(103,(vN sr0.l.length)),(104,(vN j0)),(11,(Value.slice pa0 ta0.length ca0))]) (tg λ(j0:Nat) (la0:List Int) (ta0:List Nat) (pa0:Option Addr) (ca0:Nat)=>(AK sr0.p (inL sr0.l)::rowW pa0 3 1 ta0.length ca0 (inL ta0)::rowW (some ⟨bm,0,none⟩) 3 1 ts.length ts.length (zL la0)::Bu b2 vN IW kv::Af b1 31 (Bp x)::AK x.a.p (rowsL Bf ps)::AK x.b.p (rowsL AZ ts)::AK x.c.p (rowsL AZ ss)::Th kv)) (tg λ(j0:Nat) (la0:List Int) (ta0:List Nat) (pa0:Option Addr) (ca0:Nat)=>sr0.l.length-j0) 0 l2 t2 p2 c2 (⟨hfd,ho3,hmu,Nat.zero_le _⟩) (sF O) sr (λj0 la0 ta0 pa0 ca0 hJ=>?_)
      obtain ⟨hf0,hoa0,hm0,hjs0⟩:=hJ
      have htt0:=hf0.tl
      have hLl0:=hf0.len
      refine q4 (AJ (Ac (c:=(decide (j0<sr0.l.length))) O O (CD (a:=j0) (b:=sr0.l.length))) O (AC.nil (q1 ?_)))
      refine AE.cond O (λhc8=>?_) (λhc8=>?_)
      ·replace hc8:=of_decide_eq_true hc8
       obtain ⟨o,ho⟩:∃q,q=sr0.l.getD j0 0:=⟨_,rfl⟩
       have ho9:o=(Jt ts (Bw (ts.getD k (0,0,0)) 0)).getD j0 0:=by rw [<-hsl0];exact ho
       have hjl:j0<(Jt ts (Bw (ts.getD k (0,0,0)) 0)).length:=by rw [<-hsl0];exact hc8
       have hol:o<ts.length:=(Fo.1 (by rw [ho9];exact Fe hjl)).1
       refine AE.skip (q1 (AE.block (q4 (AJ (v:=(pP (pB sr0.p) (pO sr0.p+j0*1))) (AG (j:=j0) O O sr0.ok.row underlying86 sizeOf3 O Z) O (AJ (AL (v:=(vN (sr0.l.getD j0 0))) (i:=0) O O (sr0.ok.row.ne Z) BY (CV (l:=sr0.l) (j:=j0) Z)) O (AC.retell (k:=107) (u:=(vN o)) O (by rw [ho]) (AI O (q3 (sL [1,2,4,63,64,3,96,97,102,103,104,11,16] O) (AM O (AM O (AJ (v:=(pP (pB (some ⟨bm,0,none⟩)) (pO (some ⟨bm,0,none⟩)+o*1))) (AG (j:=o) O O hbm.row underlying86 sizeOf3 O Z) O ?_)))))))))))
       refine AJ (A7 (v:=(vI (la0.getD o 0))) (i:=2) O O hbm (by rw [CG,Nat.mul_one];exact hf0.len) (hbm.row.ne Z) BY (HO (l:=la0) (j:=o) Z)) O (AJ (Ac (c:=(decide ((la0.getD o 0)<(0:Int)))) O O O) O (AC.nil (OkQ.subF (sL [1,2,4,63,64,3,96,97,102,103,104,11,16,112] O) (OkQ.then_ ?_))))
       refine AE.cond O (λhc9=>?_) (λhc9=>?_)
       ·replace hc9:=of_decide_eq_true hc9
        refine q4 (AM O (AM O (AM O (AJ (v:=(pP (pB (some ⟨bm,0,none⟩)) (pO (some ⟨bm,0,none⟩)+o*1))) (AG (j:=o) O O hbm.row underlying86 sizeOf3 O Z) O (AC.storeRow2 (j:=o) (v:=(vN n)) O O hbm (by rw [CG,Nat.mul_one];exact hf0.len) Z O sizeOf3 O (HK _ _ _) (AC.nil (OkQ.subF (sL [1,2,4,63,64,3,96,97,102,103,104,11,16] O) (OkQ.then_ (AE.region (AM O (AM O ?_)))))))))))
        refine AC.openV (V:=λb3=>(Value.slice (some ⟨b3,0,none⟩) 1 1)) (T:=3) (cs:=[(vN o)]) (AP O) (Ai (cs:=[(vN o)]) (pv:=[(0,(vN o))]) underlying86 sizeOf3 zeroValue3 (by decide) (by decide) O (by kernel_rfl)) O (Ad O) λb3=>AC.append2 (j:=0) (cs2:=inL (ta0++[o])) LJ O hoa0 (by rw [BR,Nat.mul_one]) O O O O (by decide) (FE Z) Z (by rw [Cd];rfl) O λp_4 c_4 ho_4 hne_4=>AI O (AC.nil (OkQ.subF (sL [1,2,4,63,64,3,96,97,102,103,104,11,16] O) (OkQ.in_normal (OkQ.then_ (AE.region (AJ (AQ (c:=((j0+1:Nat):Int)) O O (AN (a:=j0) (b:=1) Z)) O (AM O (AC.nil (OkQ.subF (sL [1,2,4,63,64,3,96,97,102,103,104,11,16] O) ?_)))))))))
        rw [show ta0.length+1=(ta0++[o]).length by simp]
        exact OkQ.round5 (j0+1) (la0.set o ((n:Nat):Int)) (ta0++[o]) p_4 c_4 (⟨hf0.push hP Z ho9 hjl (by decide) hc9,by simpa using ho_4,Nat.lt_trans (ND (by rw [hf0.len];exact hol) (hf0.isneg hol hc9)) hm0,Z⟩) Z (sF O) (sl sr)
       ·replace hc9:=of_decide_eq_false hc9
        exact AE.skip (OkQ.in_normal (OkQ.then_ (AE.region (AJ (AQ (c:=((j0+1:Nat):Int)) O O (AN (a:=j0) (b:=1) Z)) O (AM O (AC.nil (OkQ.subF (sL [1,2,4,63,64,3,96,97,102,103,104,11,16] O) (OkQ.round5 (j0+1) la0 ta0 pa0 ca0 (⟨hf0.keep hP ho9 hjl (by decide) (by show 0<=la0.getD o 0;omega),hoa0,hm0,Z⟩) Z (sF O) sr))))))))
      ·replace hc8:=of_decide_eq_false hc8
       have hfe0:=hf0.corner (by rw [<-hsl0];omega)
       refine AE.exit (OkQ.then_exit (OkQ.round5_exit (OkQ.in_exit (OkQ.in_normal (OkQ.then_ (AE.region (AJ (AQ (c:=(1:Int)) O O (by decide)) O (AM O (AC.nil (OkQ.subF (sL [1,2,4,63,64,3,96,97,102,103,104,11] O) (OkQ.again ?_)))))))))))
       refine Fr.step (q4 (AJ (Ac (c:=true) O O (by decide)) O (AC.nil (q1 (AE.cond_true O (AE.skip (q1 (AE.block (q4 (AJ (v:=(vN T.2.1)) (CM (j:=1) O O underlying68 sizeOf3 isAgg3 (by decide) O) O (AI O ?_)))))))))))
       refine q3 (sL [1,2,4,63,64,3,96,97,102,103,104,11,14] O) (AM O (AM O ?_))
       obtain ⟨sr1,hsr1⟩:∃q,q=(Ae kv T.2.1).getD M7:=⟨_,rfl⟩
       refine AJ (v:=(Value.slice sr1.p sr1.l.length sr1.c)) ((by rw [hsr1];exact Bo Er 3 (eV:=IW) (kvs:=kv) (x:=T.2.1) (z0:=M7) (co:=false) O O underlying123 zeroValue86 O (hok) (by show (_:Nat)<_;omega))) O (AC.dupRO (A:=[AK sr0.p (inL sr0.l),rowW pa0 3 1 ta0.length ca0 (inL ta0),rowW (some ⟨bm,0,none⟩) 3 1 ts.length ts.length (zL la0),Bu b2 vN IW kv,Af b1 31 (Bp x),AK x.a.p (rowsL Bf ps),AK x.b.p (rowsL AZ ts),AK x.c.p (rowsL AZ ss)]) (kvs:=kv) (k:=T.2.1) hsr1 ?_)
       have hsl1:sr1.l=Jt ts (Bw (ts.getD k (0,0,0)) 1):=by rw [<-hT,hsr1];exact hatl _
       have hsn1:sr1.l.length<=3*ts.length:=by rw [hsl1];exact NP _
       refine AJ (v:=(vN sr1.l.length)) (AF O underlying86) O (AM O (AC.nil (OkQ.subF (sL [1,2,4,63,64,3,96,97,102,103,104,11] O) (OkQ.then_ (AE.block ?_)))))
       refine AE.lp5 (tg λ(j1:Nat) (la1:List Int) (ta1:List Nat) (pa1:Option Addr) (ca1:Nat)=>M2 ts v n l la1 ta1 k 1 j1/\OwnOk pa1 ta1.length ca1/\SD la1 ta1<SD l2 td/\j1<=sr1.l.length) (tg λ(j1:Nat) (la1:List Int) (ta1:List Nat) (pa1:Option Addr) (ca1:Nat)=>[(1,(pP b1 0)),(2,(Value.slice (some ⟨bm,0,none⟩) ts.length ts.length)),(4,(Value.map (some b2))),(63,(vN ts.length)),(64,(vN v)),(3,(vN n)),(96,(aG (AZ T))),(97,(vI 1)),(102,(Value.slice sr1.p sr1.l.length sr1.c)),(103,(vN sr1.l.length)),(104,(vN j1)),(11,(Value.slice pa1 ta1.length ca1))]) (tg λ(j1:Nat) (la1:List Int) (ta1:List Nat) (pa1:Option Addr) (ca1:Nat)=>(AK sr1.p (inL sr1.l)::AK sr0.p (inL sr0.l)::rowW pa1 3 1 ta1.length ca1 (inL ta1)::rowW (some ⟨bm,0,none⟩) 3 1 ts.length ts.length (zL la1)::Bu b2 vN IW kv::Af b1 31 (Bp x)::AK x.a.p (rowsL Bf ps)::AK x.b.p (rowsL AZ ts)::AK x.c.p (rowsL AZ ss)::Th kv)) (tg λ(j1:Nat) (la1:List Int) (ta1:List Nat) (pa1:Option Addr) (ca1:Nat)=>sr1.l.length-j1) 0 la0 ta0 pa0 ca0 (⟨hfe0,hoa0,hm0,Nat.zero_le _⟩) (sF O) sr (λj1 la1 ta1 pa1 ca1 hJ=>?_)
       obtain ⟨hf1,hoa1,hm1,hjs1⟩:=hJ
       have htt1:=hf1.tl
       have hLl1:=hf1.len
       refine q4 (AJ (Ac (c:=(decide (j1<sr1.l.length))) O O (CD (a:=j1) (b:=sr1.l.length))) O (AC.nil (q1 ?_)))
       refine AE.cond O (λhc8=>?_) (λhc8=>?_)
       ·replace hc8:=of_decide_eq_true hc8
        obtain ⟨o,ho⟩:∃q,q=sr1.l.getD j1 0:=⟨_,rfl⟩
        have ho9:o=(Jt ts (Bw (ts.getD k (0,0,0)) 1)).getD j1 0:=by rw [<-hsl1];exact ho
        have hjl:j1<(Jt ts (Bw (ts.getD k (0,0,0)) 1)).length:=by rw [<-hsl1];exact hc8
        have hol:o<ts.length:=(Fo.1 (by rw [ho9];exact Fe hjl)).1
        refine AE.skip (q1 (AE.block (q4 (AJ (v:=(pP (pB sr1.p) (pO sr1.p+j1*1))) (AG (j:=j1) O O sr1.ok.row underlying86 sizeOf3 O Z) O (AJ (AL (v:=(vN (sr1.l.getD j1 0))) (i:=0) O O (sr1.ok.row.ne Z) BY (CV (l:=sr1.l) (j:=j1) Z)) O (AC.retell (k:=107) (u:=(vN o)) O (by rw [ho]) (AI O (q3 (sL [1,2,4,63,64,3,96,97,102,103,104,11,16] O) (AM O (AM O (AJ (v:=(pP (pB (some ⟨bm,0,none⟩)) (pO (some ⟨bm,0,none⟩)+o*1))) (AG (j:=o) O O hbm.row underlying86 sizeOf3 O Z) O ?_)))))))))))
        refine AJ (A7 (v:=(vI (la1.getD o 0))) (i:=3) O O hbm (by rw [CG,Nat.mul_one];exact hf1.len) (hbm.row.ne Z) BY (HO (l:=la1) (j:=o) Z)) O (AJ (Ac (c:=(decide ((la1.getD o 0)<(0:Int)))) O O O) O (AC.nil (OkQ.subF (sL [1,2,4,63,64,3,96,97,102,103,104,11,16,112] O) (OkQ.then_ ?_))))
        refine AE.cond O (λhc9=>?_) (λhc9=>?_)
        ·replace hc9:=of_decide_eq_true hc9
         refine q4 (AM O (AM O (AM O (AJ (v:=(pP (pB (some ⟨bm,0,none⟩)) (pO (some ⟨bm,0,none⟩)+o*1))) (AG (j:=o) O O hbm.row underlying86 sizeOf3 O Z) O (AC.storeRow3 (j:=o) (v:=(vN n)) O O hbm (by rw [CG,Nat.mul_one];exact hf1.len) Z O sizeOf3 O (HK _ _ _) (AC.nil (OkQ.subF (sL [1,2,4,63,64,3,96,97,102,103,104,11,16] O) (OkQ.then_ (AE.region (AM O (AM O ?_)))))))))))
         refine AC.openV (V:=λb3=>(Value.slice (some ⟨b3,0,none⟩) 1 1)) (T:=3) (cs:=[(vN o)]) (AP O) (Ai (cs:=[(vN o)]) (pv:=[(0,(vN o))]) underlying86 sizeOf3 zeroValue3 (by decide) (by decide) O (by kernel_rfl)) O (Ad O) λb3=>AC.appendAt 3 (j:=0) (cs2:=inL (ta1++[o])) LJ O hoa1 (by rw [BR,Nat.mul_one]) O O O O O (by decide) (FE Z) Z (by rw [Cd];rfl) O λp_5 c_5 ho_5 hne_5=>AI O (AC.nil (OkQ.subF (sL [1,2,4,63,64,3,96,97,102,103,104,11,16] O) (OkQ.in_normal (OkQ.then_ (AE.region (AJ (AQ (c:=((j1+1:Nat):Int)) O O (AN (a:=j1) (b:=1) Z)) O (AM O (AC.nil (OkQ.subF (sL [1,2,4,63,64,3,96,97,102,103,104,11,16] O) ?_)))))))))
         rw [show ta1.length+1=(ta1++[o]).length by simp]
         exact OkQ.round5 (j1+1) (la1.set o ((n:Nat):Int)) (ta1++[o]) p_5 c_5 (⟨hf1.push hP Z ho9 hjl (by decide) hc9,by simpa using ho_5,Nat.lt_trans (ND (by rw [hf1.len];exact hol) (hf1.isneg hol hc9)) hm1,Z⟩) Z (sF O) (sl sr)
        ·replace hc9:=of_decide_eq_false hc9
         exact AE.skip (OkQ.in_normal (OkQ.then_ (AE.region (AJ (AQ (c:=((j1+1:Nat):Int)) O O (AN (a:=j1) (b:=1) Z)) O (AM O (AC.nil (OkQ.subF (sL [1,2,4,63,64,3,96,97,102,103,104,11,16] O) (OkQ.round5 (j1+1) la1 ta1 pa1 ca1 (⟨hf1.keep hP ho9 hjl (by decide) (by show 0<=la1.getD o 0;omega),hoa1,hm1,Z⟩) Z (sF O) sr))))))))
       ·replace hc8:=of_decide_eq_false hc8
        have hfe1:=hf1.corner (by rw [<-hsl1];omega)
        refine AE.exit (OkQ.then_exit (OkQ.round5_exit (OkQ.in_exit (OkQ.in_normal (OkQ.then_ (AE.region (AJ (AQ (c:=(2:Int)) O O (by decide)) O (AM O (AC.nil (OkQ.subF (sL [1,2,4,63,64,3,96,97,102,103,104,11] O) (OkQ.again ?_)))))))))))
        refine Fr.step (q4 (AJ (Ac (c:=true) O O (by decide)) O (AC.nil (q1 (AE.cond_true O (AE.skip (q1 (AE.block (q4 (AJ (v:=(vN T.2.2)) (CM (j:=2) O O underlying68 sizeOf3 isAgg3 (by decide) O) O (AI O ?_)))))))))))
        refine q3 (sL [1,2,4,63,64,3,96,97,102,103,104,11,14] O) (AM O (AM O ?_))
        obtain ⟨sr2,hsr2⟩:∃q,q=(Ae kv T.2.2).getD M7:=⟨_,rfl⟩
        refine AJ (v:=(Value.slice sr2.p sr2.l.length sr2.c)) ((by rw [hsr2];exact Bo Er 4 (eV:=IW) (kvs:=kv) (x:=T.2.2) (z0:=M7) (co:=false) O O underlying123 zeroValue86 O (hok) (by show (_:Nat)<_;omega))) O (AC.dupRO (A:=[AK sr1.p (inL sr1.l),AK sr0.p (inL sr0.l),rowW pa1 3 1 ta1.length ca1 (inL ta1),rowW (some ⟨bm,0,none⟩) 3 1 ts.length ts.length (zL la1),Bu b2 vN IW kv,Af b1 31 (Bp x),AK x.a.p (rowsL Bf ps),AK x.b.p (rowsL AZ ts),AK x.c.p (rowsL AZ ss)]) (kvs:=kv) (k:=T.2.2) hsr2 ?_)
        have hsl2:sr2.l=Jt ts (Bw (ts.getD k (0,0,0)) 2):=by rw [<-hT,hsr2];exact hatl _
        have hsn2:sr2.l.length<=3*ts.length:=by rw [hsl2];exact NP _
        refine AJ (v:=(vN sr2.l.length)) (AF O underlying86) O (AM O (AC.nil (OkQ.subF (sL [1,2,4,63,64,3,96,97,102,103,104,11] O) (OkQ.then_ (AE.block ?_)))))
        refine AE.lp5 (tg λ(j2:Nat) (la2:List Int) (ta2:List Nat) (pa2:Option Addr) (ca2:Nat)=>M2 ts v n l la2 ta2 k 2 j2/\OwnOk pa2 ta2.length ca2/\SD la2 ta2<SD l2 td/\j2<=sr2.l.length) (tg λ(j2:Nat) (la2:List Int) (ta2:List Nat) (pa2:Option Addr) (ca2:Nat)=>[(1,(pP b1 0)),(2,(Value.slice (some ⟨bm,0,none⟩) ts.length ts.length)),(4,(Value.map (some b2))),(63,(vN ts.length)),(64,(vN v)),(3,(vN n)),(96,(aG (AZ T))),(97,(vI 2)),(102,(Value.slice sr2.p sr2.l.length sr2.c)),(103,(vN sr2.l.length)),(104,(vN j2)),(11,(Value.slice pa2 ta2.length ca2))]) (tg λ(j2:Nat) (la2:List Int) (ta2:List Nat) (pa2:Option Addr) (ca2:Nat)=>(AK sr2.p (inL sr2.l)::AK sr1.p (inL sr1.l)::AK sr0.p (inL sr0.l)::rowW pa2 3 1 ta2.length ca2 (inL ta2)::rowW (some ⟨bm,0,none⟩) 3 1 ts.length ts.length (zL la2)::Bu b2 vN IW kv::Af b1 31 (Bp x)::AK x.a.p (rowsL Bf ps)::AK x.b.p (rowsL AZ ts)::AK x.c.p (rowsL AZ ss)::Th kv)) (tg λ(j2:Nat) (la2:List Int) (ta2:List Nat) (pa2:Option Addr) (ca2:Nat)=>sr2.l.length-j2) 0 la1 ta1 pa1 ca1 (⟨hfe1,hoa1,hm1,Nat.zero_le _⟩) (sF O) sr (λj2 la2 ta2 pa2 ca2 hJ=>?_)
        obtain ⟨hf2,hoa2,hm2,hjs2⟩:=hJ
        have htt2:=hf2.tl
        have hLl2:=hf2.len
        refine q4 (AJ (Ac (c:=(decide (j2<sr2.l.length))) O O (CD (a:=j2) (b:=sr2.l.length))) O (AC.nil (q1 ?_)))
        refine AE.cond O (λhc8=>?_) (λhc8=>?_)
        ·replace hc8:=of_decide_eq_true hc8
         obtain ⟨o,ho⟩:∃q,q=sr2.l.getD j2 0:=⟨_,rfl⟩
         have ho9:o=(Jt ts (Bw (ts.getD k (0,0,0)) 2)).getD j2 0:=by rw [<-hsl2];exact ho
         have hjl:j2<(Jt ts (Bw (ts.getD k (0,0,0)) 2)).length:=by rw [<-hsl2];exact hc8
         have hol:o<ts.length:=(Fo.1 (by rw [ho9];exact Fe hjl)).1
         refine AE.skip (q1 (AE.block (q4 (AJ (v:=(pP (pB sr2.p) (pO sr2.p+j2*1))) (AG (j:=j2) O O sr2.ok.row underlying86 sizeOf3 O Z) O (AJ (AL (v:=(vN (sr2.l.getD j2 0))) (i:=0) O O (sr2.ok.row.ne Z) BY (CV (l:=sr2.l) (j:=j2) Z)) O (AC.retell (k:=107) (u:=(vN o)) O (by rw [ho]) (AI O (q3 (sL [1,2,4,63,64,3,96,97,102,103,104,11,16] O) (AM O (AM O (AJ (v:=(pP (pB (some ⟨bm,0,none⟩)) (pO (some ⟨bm,0,none⟩)+o*1))) (AG (j:=o) O O hbm.row underlying86 sizeOf3 O Z) O ?_)))))))))))
         refine AJ (A7 (v:=(vI (la2.getD o 0))) (i:=4) O O hbm (by rw [CG,Nat.mul_one];exact hf2.len) (hbm.row.ne Z) BY (HO (l:=la2) (j:=o) Z)) O (AJ (Ac (c:=(decide ((la2.getD o 0)<(0:Int)))) O O O) O (AC.nil (OkQ.subF (sL [1,2,4,63,64,3,96,97,102,103,104,11,16,112] O) (OkQ.then_ ?_))))
         refine AE.cond O (λhc9=>?_) (λhc9=>?_)
         ·replace hc9:=of_decide_eq_true hc9
          refine q4 (AM O (AM O (AM O (AJ (v:=(pP (pB (some ⟨bm,0,none⟩)) (pO (some ⟨bm,0,none⟩)+o*1))) (AG (j:=o) O O hbm.row underlying86 sizeOf3 O Z) O (AC.storeRow4 (j:=o) (v:=(vN n)) O O hbm (by rw [CG,Nat.mul_one];exact hf2.len) Z O sizeOf3 O (HK _ _ _) (AC.nil (OkQ.subF (sL [1,2,4,63,64,3,96,97,102,103,104,11,16] O) (OkQ.then_ (AE.region (AM O (AM O ?_)))))))))))
          refine AC.openV (V:=λb3=>(Value.slice (some ⟨b3,0,none⟩) 1 1)) (T:=3) (cs:=[(vN o)]) (AP O) (Ai (cs:=[(vN o)]) (pv:=[(0,(vN o))]) underlying86 sizeOf3 zeroValue3 (by decide) (by decide) O (by kernel_rfl)) O (Ad O) λb3=>AC.appendAt 4 (j:=0) (cs2:=inL (ta2++[o])) LJ O hoa2 (by rw [BR,Nat.mul_one]) O O O O O (by decide) (FE Z) Z (by rw [Cd];rfl) O λp_6 c_6 ho_6 hne_6=>AI O (AC.nil (OkQ.subF (sL [1,2,4,63,64,3,96,97,102,103,104,11,16] O) (OkQ.in_normal (OkQ.then_ (AE.region (AJ (AQ (c:=((j2+1:Nat):Int)) O O (AN (a:=j2) (b:=1) Z)) O (AM O (AC.nil (OkQ.subF (sL [1,2,4,63,64,3,96,97,102,103,104,11,16] O) ?_)))))))))
          rw [show ta2.length+1=(ta2++[o]).length by simp]
          exact OkQ.round5 (j2+1) (la2.set o ((n:Nat):Int)) (ta2++[o]) p_6 c_6 (⟨hf2.push hP Z ho9 hjl (by decide) hc9,by simpa using ho_6,Nat.lt_trans (ND (by rw [hf2.len];exact hol) (hf2.isneg hol hc9)) hm2,Z⟩) Z (sF O) (sl sr)
         ·replace hc9:=of_decide_eq_false hc9
          exact AE.skip (OkQ.in_normal (OkQ.then_ (AE.region (AJ (AQ (c:=((j2+1:Nat):Int)) O O (AN (a:=j2) (b:=1) Z)) O (AM O (AC.nil (OkQ.subF (sL [1,2,4,63,64,3,96,97,102,103,104,11,16] O) (OkQ.round5 (j2+1) la2 ta2 pa2 ca2 (⟨hf2.keep hP ho9 hjl (by decide) (by show 0<=la2.getD o 0;omega),hoa2,hm2,Z⟩) Z (sF O) sr))))))))
        ·replace hc8:=of_decide_eq_false hc8
         have hfe2:=hf2.corner (by rw [<-hsl2];omega)
         refine AE.exit (OkQ.then_exit (OkQ.round5_exit (OkQ.in_exit (OkQ.in_normal (OkQ.then_ (AE.region (AJ (AQ (c:=(3:Int)) O O (by decide)) O (AM O (AC.nil (OkQ.subF (sL [1,2,4,63,64,3,96,97,102,103,104,11] O) (OkQ.again ?_)))))))))))
         exact Fr.step (q4 (AJ (Ac (c:=false) O O (by decide)) O (AC.nil (q1 (AE.cond_false O (AE.exit (OkQ.then_exit (OkQ.then_exit (OkQ.in_exit (OkQ.in_normal (OkQ.round4 la2 ta2 pa2 ca2 (⟨hfe2.close,hoa2⟩) (hm2) (sF O) (sl (sl (sl sr))))))))))))))
     ·replace hc6:=of_decide_eq_false hc6
      have hfin:=hF.finish hP Z Z hng
      refine AE.exit (OkQ.then_exit (OkQ.round4_exit (OkQ.in_exit (OkQ.then_ (AE.region (AM O (AJ (AQ (c:=((n+1:Nat):Int)) O O (AN (a:=n) (b:=1) Z)) O (AI O (AC.nil (OkQ.subF (sL [1,2,4,63,64,3,11] O) (OkQ.in_normal ?_)))))))))))
      exact OkQ.then_ (AE.region (AJ (AQ (c:=((v+1:Nat):Int)) O O (AN (a:=v) (b:=1) Z)) O (AM O (AC.nil (OkQ.subF (sL [1,2,4,63,64,3,11] O) (OkQ.round3 (v+1) (n+1) l2 (⟨Z,hfin⟩) Z (sF O) (sl sr)))))))
   ·replace hc4:=of_decide_eq_false hc4
    refine AE.exit (OkQ.then_exit (OkQ.round3_exit (OkQ.in_exit (q2 (AM O (AM O (AI O (AI O (AC.nil (OkQ.subF (sL [1,2,4,63,64,3] O) (OkQ.then_ ?_)))))))))))
    exact AE.ret (OkQ.scope_ret (CH O (Ah (v:=(Value.slice (some ⟨bm,0,none⟩) ts.length ts.length)) O) (Ah (v:=(vN n)) O) (λw hw=>(ZC hw 0 O hbm hPl.symm (by have h9:=hP;rw [show v=ts.length by omega] at h9;exact h9.fin) O))))
theorem LN {ps:List Pt} {ts ss:List T3} (x:MX ps ts ss) (hnb:BI ps.length ts=true) (hne:0<ts.length) (hp:ps.length<=1000000) (htl:ts.length<=1000000) (w:World) {S:Nat->Prop} (hx:Ro S w x):Calls prog 22 #[(aG (Bp x))] w (Am (We ts) S w):=(L0 x hnb hne hp htl w hx).mono λe w1 h=>h.ofPaD
end
end Go.Proofs.YtpgncndhhhllfaaGreat
