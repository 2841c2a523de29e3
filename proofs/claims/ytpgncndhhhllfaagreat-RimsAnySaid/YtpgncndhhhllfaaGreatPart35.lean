import Derived.Test.YtpgncndhhhllfaaGreatPart32
import Derived.Test.YtpgncndhhhllfaaGreatPart34
namespace Go.Proofs.YtpgncndhhhllfaaGreat
open Go Go.RowKit Go.Proofs.Tryz
set_option linter.unusedVariables false
set_option linter.unusedSimpArgs false
section
set_option maxRecDepth 100000
theorem TH:HH prog 86 3 (vN 0) 8:=⟨underlying86,_,_,rfl,rfl,rfl,rfl,rfl⟩
set_option maxHeartbeats 8000000 in
theorem Ik {N:Nat} {ts ss:List T3} (x:RM N ts ss) (hnb:A_ N ts=true) (hne:0<ts.length) (hp:N<=1000000) (htl:ts.length<=1000000) (w:World) {S:Nat->Prop} (hx:Ro S w x):Calls prog 22 #[(aG (BN x))] w (Al (ZP ts) S w):=by
 have lx:=CV (W:=w) hx
 refine Ag (args:=[(aG (BN x))]) (L:=[AJ x.a.p (x.cs),AJ x.b.p (rowsL Am ts),AJ x.c.p (x.ds)]) func22 O O (AV O) (C4 hx Ao) (AE.subF (sL [0] O) (q4 (B0 (cs:=BN x) O λb1=>AI O (AI O (AC.nil (OkQ.subF (sL [1,2,3] O) (OkQ.then_ (AE.scope (AE.seq (q4 ?_))))))))))
 refine BC 0 CF O (Cc (args:=[(aG (BN x))]) (v:=(Value.bool true)) call35 (λw hw=>(by have h9:=E_ x Z w (Bc hw 1 O lx);rw [hnb] at h9;exact h9)) O (AK (BF (c:=false) O O) O (AM O (AC.step (v:=(pP b1 1)) (AA O) (AB O underlying31 O sizeOf28 O) O (AV O) (AC.step (v:=(Value.slice x.b.p ts.length x.b.c)) (AA O) (AN (i:=0) (v:=(Value.slice x.b.p ts.length x.b.c)) O O Bp.a O) O (AV O) (AC.step (v:=(vN ts.length)) (AA O) (AF O underlying28) O (AV O) (AC.step (v:=(Value.bool false)) (AA O) (BA (c:=false) O O (decide_eq_false Z)) O (AV O) (AK (v:=(Value.bool false)) (AO O O) O (AC.nil (OkQ.subF (sL [1,2,3,25] O) (OkQ.then_ ?_)))))))))))
 refine AE.cond_false O (AE.skip (q2 (AC.makeMap vN IG (AT O) O λb2=>AI O (q6 (sL [1,2,3,4] O) (q4 (AK (v:=(pP b1 1)) (AB O underlying31 O sizeOf28 O) O (BL 1 (Value.slice x.b.p ts.length x.b.c) Bp O (AK (v:=(vN ts.length)) (AF O underlying28) O (AM O (AC.nil ?_))))))))))
 refine OkQ.subF (sL [1,2,3,4,28,29,30] O) (OkQ.then_ (AE.block ?_))
 refine AE.lp2 (tg λ(t:Nat) (kv:List (Nat×RO))=>t<=ts.length/\GM TV kv/\SV kv=SS ts (3*t+0)) (tg λ(t:Nat) (kv:List (Nat×RO))=>[(1,(pP b1 0)),(2,(Value.slice none 0 0)),(3,(vI 0)),(4,(Value.map (some b2))),(28,(Value.slice x.b.p ts.length x.b.c)),(29,(vN ts.length)),(30,(vN t))]) (tg λ(t:Nat) (kv:List (Nat×RO))=>(Bm b2 vN IG kv::Ah b1 31 (BN x)::AJ x.a.p (x.cs)::AJ x.b.p (rowsL Am ts)::AJ x.c.p (x.ds)::Qk 3 kv)) (tg λ(t:Nat) (kv:List (Nat×RO))=>ts.length-t) 0 ([]:List (Nat×RO)) (⟨Nat.zero_le _,GM.nil,rfl⟩) (sF O) sr (λt kv hJ=>?_)
 obtain ⟨ht,hok,hat⟩:=hJ
 refine q4 (AK (Ad (c:=(decide (t<ts.length))) O O (B7 (a:=t) (b:=ts.length))) O (AC.nil (q1 ?_)))
 refine AE.cond O (λhc1=>?_) (λhc1=>?_)
 ·replace hc1:=of_decide_eq_true hc1
  obtain ⟨T,hT⟩:∃q,q=ts.getD t (0,0,0):=⟨_,rfl⟩
  obtain ⟨g1,g2,g3⟩:=Cn (CL hnb hc1)
  rw [<-hT] at g1 g2 g3
  refine AE.skip (q1 (AE.block (q4 (AM O (AK (v:=(pP (pB x.b.p) (pO x.b.p+t*3))) (AH (j:=t) O O x.b.ok underlying28 sizeOf68 O Z) O (AK (v:=(aG (Am (ts.getD t ((0,0,0):Tq3))))) (Ai (vs:=Am (ts.getD t ((0,0,0):Tq3))) (i:=3) O O (Ar.ne x.b.ok Z) DL (A8 Af _ _ _ Z) (Af _)) O (AC.retell (k:=34) (u:=(aG (Am T))) O (by rw [hT]) (al Ng O λb3=>AI O (BP O sizeOf68 O (q3 (sL [1,2,3,4,28,29,30,6,5] O) ?_))))))))))
  refine BC 0 DL O (AM O (AC.nil (OkQ.then_ (AE.block (AE.unroll 4 (FF.step (q4 (AK (Ad (c:=true) O O (by decide)) O (AC.nil (q1 (AE.cond_true O ?_)))))))))))
  refine AE.skip (q1 (AE.block (q4 (AK (v:=(vN T.1)) (CD (j:=0) O O underlying68 sizeOf3 isAgg3 (by decide) O) O (AI O (AC.nil (OkQ.subF (sL [1,2,3,4,28,29,30,6,5,35,36,8] O) (OkQ.then_ (AE.region (AM O (AM O ?_)))))))))))
  refine AM O (AM O ?_)
  obtain ⟨sq0,hsq0⟩:∃q,q=(Ac kv T.1).getD Ll:=⟨_,rfl⟩
  have hsn0:sq0.l.length<=3*t+0:=by rw [hsq0,<-J1,hat];exact GV _
  refine AK (v:=(Value.slice sq0.p sq0.l.length sq0.c)) ((by rw [hsq0];exact Bj EK 1 (eV:=IG) (kvs:=kv) (x:=T.1) (z0:=Ll) (co:=false) O O underlying123 zeroValue86 O (hok) (by show (_:Nat)<_;omega))) O (AC.pullRO (A:=[Ah b3 68 (Am T),Bm b2 vN IG kv,Ah b1 31 (BN x),AJ x.a.p (x.cs),AJ x.b.p (rowsL Am ts),AJ x.c.p (x.ds)]) (kvs:=kv) (k:=T.1) hok hsq0 (AM O (AC.openV (V:=λb4=>(Value.slice (some ⟨b4,0,none⟩) 1 1)) (T:=3) (cs:=[(vN t)]) (AT O) (Ap (cs:=[(vN t)]) (pv:=[(0,(vN t))]) underlying86 sizeOf3 zeroValue3 (by decide) (by decide) O (by kernel_rfl)) O (AV O) λb4=>AC.append1 (j:=0) (cs2:=inL (sq0.l++[t])) Jv O sq0.ok (by rw [BG,Nat.mul_one]) O O O O (by decide) (Fl Z) Z (by rw [CS];rfl) O λp_1 c_1 ho_1 hne_1=>?_)))
  have hro0:OwnOk p_1 (sq0.l++[t]).length c_1:=by simpa using ho_1
  rw [show sq0.l.length+1=(sq0.l++[t]).length by simp]
  refine AC.mapUpdate EK 3 (kvs:=kv) (x:=T.1) (y:=(⟨p_1,c_1,sq0.l++[t],hro0⟩:RO)) (AT O) O O O underlying123 O (hok) (by show (_:Nat)<_;omega) (AC.permL (show List.Perm _ (Ah b4 3 ([(vN t)])::Ah b3 68 (Am T)::Bm b2 vN IG (A9 kv T.1 (⟨p_1,c_1,sq0.l++[t],hro0⟩:RO))::Ah b1 31 (BN x)::AJ x.a.p (x.cs)::AJ x.b.p (rowsL Am ts)::AJ x.c.p (x.ds)::Qk 3 (A9 kv T.1 (⟨p_1,c_1,sq0.l++[t],hro0⟩:RO))) from Lz (A1:=[Ah b4 3 ([(vN t)])]) (A2:=[Ah b3 68 (Am T),Bm b2 vN IG (A9 kv T.1 (⟨p_1,c_1,sq0.l++[t],hro0⟩:RO)),Ah b1 31 (BN x),AJ x.a.p (x.cs),AJ x.b.p (rowsL Am ts),AJ x.c.p (x.ds)]) (kvs:=kv) (k:=T.1) (s:=(⟨p_1,c_1,sq0.l++[t],hro0⟩:RO)) (T:=3) hok) ?_)
  obtain ⟨kv0,hkv0⟩:∃q,q=A9 kv T.1 (⟨p_1,c_1,sq0.l++[t],hro0⟩:RO):=⟨_,rfl⟩
  rw [<-hkv0]
  have hok0:GM TV kv0:=hkv0▸hok.put (by show (_:Nat)<_;omega)
  have hat0:SV kv0=SS ts (3*t+0+1):=by rw [hkv0,Ji,KO (show 0<3 by decide),<-hT,<-hat,J1];show A9 _ T.1 (sq0.l++[t])=A9 _ (Bl T 0) (((Ac kv (Bl T 0)).getD Ll).l++[t]);rw [show Bl T 0=T.1 from rfl,<-hsq0]
  refine AC.nil (OkQ.subF (sL [1,2,3,4,28,29,30,6,5,35,36] O) (OkQ.in_normal (OkQ.then_ (AE.region (AK (AY (c:=(1:Int)) O O (by decide)) O (AM O (AC.nil (OkQ.subF (sL [1,2,3,4,28,29,30,6,5,35,36] O) (OkQ.again (FF.step (q4 ?_)))))))))))
  refine AK (Ad (c:=true) O O (by decide)) O (AC.nil (q1 (AE.cond_true O (AE.skip (q1 (AE.block (q4 (AK (v:=(vN T.2.1)) (CD (j:=1) O O underlying68 sizeOf3 isAgg3 (by decide) O) O (AI O (AC.nil (OkQ.subF (sL [1,2,3,4,28,29,30,6,5,35,36,8] O) ?_)))))))))))
  refine OkQ.then_ (AE.region (AM O (AM O (AM O (AM O ?_)))))
  obtain ⟨sq1,hsq1⟩:∃q,q=(Ac kv0 T.2.1).getD Ll:=⟨_,rfl⟩
  have hsn1:sq1.l.length<=3*t+1:=by rw [hsq1,<-J1,hat0];exact GV _
  refine AK (v:=(Value.slice sq1.p sq1.l.length sq1.c)) ((by rw [hsq1];exact Bj EK 2 (eV:=IG) (kvs:=kv0) (x:=T.2.1) (z0:=Ll) (co:=false) O O underlying123 zeroValue86 O (hok0) (by show (_:Nat)<_;omega))) O (AC.pullRO (A:=[Ah b4 3 ([(vN t)]),Ah b3 68 (Am T),Bm b2 vN IG kv0,Ah b1 31 (BN x),AJ x.a.p (x.cs),AJ x.b.p (rowsL Am ts),AJ x.c.p (x.ds)]) (kvs:=kv0) (k:=T.2.1) hok0 hsq1 (AM O (AC.openV (V:=λb5=>(Value.slice (some ⟨b5,0,none⟩) 1 1)) (T:=3) (cs:=[(vN t)]) (AT O) (Ap (cs:=[(vN t)]) (pv:=[(0,(vN t))]) underlying86 sizeOf3 zeroValue3 (by decide) (by decide) O (by kernel_rfl)) O (AV O) λb5=>AC.append1 (j:=0) (cs2:=inL (sq1.l++[t])) Jv O sq1.ok (by rw [BG,Nat.mul_one]) O O O O (by decide) (Fl Z) Z (by rw [CS];rfl) O λp_2 c_2 ho_2 hne_2=>?_)))
  have hro1:OwnOk p_2 (sq1.l++[t]).length c_2:=by simpa using ho_2
  rw [show sq1.l.length+1=(sq1.l++[t]).length by simp]
  refine AC.mapUpdate EK 4 (kvs:=kv0) (x:=T.2.1) (y:=(⟨p_2,c_2,sq1.l++[t],hro1⟩:RO)) (AT O) O O O underlying123 O (hok0) (by show (_:Nat)<_;omega) (AC.permL (show List.Perm _ (Ah b5 3 ([(vN t)])::Ah b4 3 ([(vN t)])::Ah b3 68 (Am T)::Bm b2 vN IG (A9 kv0 T.2.1 (⟨p_2,c_2,sq1.l++[t],hro1⟩:RO))::Ah b1 31 (BN x)::AJ x.a.p (x.cs)::AJ x.b.p (rowsL Am ts)::AJ x.c.p (x.ds)::Qk 3 (A9 kv0 T.2.1 (⟨p_2,c_2,sq1.l++[t],hro1⟩:RO))) from Lz (A1:=[Ah b5 3 ([(vN t)])]) (A2:=[Ah b4 3 ([(vN t)]),Ah b3 68 (Am T),Bm b2 vN IG (A9 kv0 T.2.1 (⟨p_2,c_2,sq1.l++[t],hro1⟩:RO)),Ah b1 31 (BN x),AJ x.a.p (x.cs),AJ x.b.p (rowsL Am ts),AJ x.c.p (x.ds)]) (kvs:=kv0) (k:=T.2.1) (s:=(⟨p_2,c_2,sq1.l++[t],hro1⟩:RO)) (T:=3) hok0) ?_)
  obtain ⟨kv1,hkv1⟩:∃q,q=A9 kv0 T.2.1 (⟨p_2,c_2,sq1.l++[t],hro1⟩:RO):=⟨_,rfl⟩
  rw [<-hkv1]
  have hok1:GM TV kv1:=hkv1▸hok0.put (by show (_:Nat)<_;omega)
  have hat1:SV kv1=SS ts (3*t+1+1):=by rw [hkv1,Ji,KO (show 1<3 by decide),<-hT,<-hat0,J1];show A9 _ T.2.1 (sq1.l++[t])=A9 _ (Bl T 1) (((Ac kv0 (Bl T 1)).getD Ll).l++[t]);rw [show Bl T 1=T.2.1 from rfl,<-hsq1]
  refine AC.nil (OkQ.subF (sL [1,2,3,4,28,29,30,6,5,35,36] O) (OkQ.in_normal (OkQ.then_ (AE.region (AK (AY (c:=(2:Int)) O O (by decide)) O (AM O (AC.nil (OkQ.subF (sL [1,2,3,4,28,29,30,6,5,35,36] O) (OkQ.again (FF.step (q4 ?_)))))))))))
  refine AK (Ad (c:=true) O O (by decide)) O (AC.nil (q1 (AE.cond_true O (AE.skip (q1 (AE.block (q4 (AK (v:=(vN T.2.2)) (CD (j:=2) O O underlying68 sizeOf3 isAgg3 (by decide) O) O (AI O (AC.nil (OkQ.subF (sL [1,2,3,4,28,29,30,6,5,35,36,8] O) ?_)))))))))))
  refine OkQ.then_ (AE.region (AM O (AM O (AM O (AM O ?_)))))
  obtain ⟨sq2,hsq2⟩:∃q,q=(Ac kv1 T.2.2).getD Ll:=⟨_,rfl⟩
  have hsn2:sq2.l.length<=3*t+2:=by rw [hsq2,<-J1,hat1];exact GV _
  refine AK (v:=(Value.slice sq2.p sq2.l.length sq2.c)) ((by rw [hsq2];exact Bj EK 3 (eV:=IG) (kvs:=kv1) (x:=T.2.2) (z0:=Ll) (co:=false) O O underlying123 zeroValue86 O (hok1) (by show (_:Nat)<_;omega))) O (AC.pullRO (A:=[Ah b5 3 ([(vN t)]),Ah b4 3 ([(vN t)]),Ah b3 68 (Am T),Bm b2 vN IG kv1,Ah b1 31 (BN x),AJ x.a.p (x.cs),AJ x.b.p (rowsL Am ts),AJ x.c.p (x.ds)]) (kvs:=kv1) (k:=T.2.2) hok1 hsq2 (AM O (AC.openV (V:=λb6=>(Value.slice (some ⟨b6,0,none⟩) 1 1)) (T:=3) (cs:=[(vN t)]) (AT O) (Ap (cs:=[(vN t)]) (pv:=[(0,(vN t))]) underlying86 sizeOf3 zeroValue3 (by decide) (by decide) O (by kernel_rfl)) O (AV O) λb6=>AC.append1 (j:=0) (cs2:=inL (sq2.l++[t])) Jv O sq2.ok (by rw [BG,Nat.mul_one]) O O O O (by decide) (Fl Z) Z (by rw [CS];rfl) O λp_3 c_3 ho_3 hne_3=>?_)))
  have hro2:OwnOk p_3 (sq2.l++[t]).length c_3:=by simpa using ho_3
  rw [show sq2.l.length+1=(sq2.l++[t]).length by simp]
  refine AC.mapUpdate EK 5 (kvs:=kv1) (x:=T.2.2) (y:=(⟨p_3,c_3,sq2.l++[t],hro2⟩:RO)) (AT O) O O O underlying123 O (hok1) (by show (_:Nat)<_;omega) (AC.permL (show List.Perm _ (Ah b6 3 ([(vN t)])::Ah b5 3 ([(vN t)])::Ah b4 3 ([(vN t)])::Ah b3 68 (Am T)::Bm b2 vN IG (A9 kv1 T.2.2 (⟨p_3,c_3,sq2.l++[t],hro2⟩:RO))::Ah b1 31 (BN x)::AJ x.a.p (x.cs)::AJ x.b.p (rowsL Am ts)::AJ x.c.p (x.ds)::Qk 3 (A9 kv1 T.2.2 (⟨p_3,c_3,sq2.l++[t],hro2⟩:RO))) from Lz (A1:=[Ah b6 3 ([(vN t)])]) (A2:=[Ah b5 3 ([(vN t)]),Ah b4 3 ([(vN t)]),Ah b3 68 (Am T),Bm b2 vN IG (A9 kv1 T.2.2 (⟨p_3,c_3,sq2.l++[t],hro2⟩:RO)),Ah b1 31 (BN x),AJ x.a.p (x.cs),AJ x.b.p (rowsL Am ts),AJ x.c.p (x.ds)]) (kvs:=kv1) (k:=T.2.2) (s:=(⟨p_3,c_3,sq2.l++[t],hro2⟩:RO)) (T:=3) hok1) ?_)
  obtain ⟨kv2,hkv2⟩:∃q,q=A9 kv1 T.2.2 (⟨p_3,c_3,sq2.l++[t],hro2⟩:RO):=⟨_,rfl⟩
  rw [<-hkv2]
  have hok2:GM TV kv2:=hkv2▸hok1.put (by show (_:Nat)<_;omega)
  have hat2:SV kv2=SS ts (3*t+2+1):=by rw [hkv2,Ji,KO (show 2<3 by decide),<-hT,<-hat1,J1];show A9 _ T.2.2 (sq2.l++[t])=A9 _ (Bl T 2) (((Ac kv1 (Bl T 2)).getD Ll).l++[t]);rw [show Bl T 2=T.2.2 from rfl,<-hsq2]
  refine AC.nil (OkQ.subF (sL [1,2,3,4,28,29,30,6,5,35,36] O) (OkQ.in_normal (OkQ.then_ (AE.region (AK (AY (c:=(3:Int)) O O (by decide)) O (AM O (AC.nil (OkQ.subF (sL [1,2,3,4,28,29,30,6,5,35,36] O) (OkQ.again (FF.step (q4 ?_)))))))))))
  refine AK (Ad (c:=false) O O (by decide)) O (AC.nil (q1 (AE.cond_false O (AE.exit (OkQ.then_exit (OkQ.then_exit (OkQ.in_exit (OkQ.in_normal (OkQ.then_ (AE.region (AK (AY (c:=((t+1:Nat):Int)) O O (AU (a:=t) (b:=1) Z)) O ?_)))))))))))
  exact AM O (AC.nil (OkQ.subF (sL [1,2,3,4,28,29,30,6,5,35,36] O) (OkQ.round2 (t+1) kv2 (⟨Z,hok2,hat2⟩) Z (sF O) (sl (sl (sl (sl sr)))))))
 ·replace hc1:=of_decide_eq_false hc1
  have hatl:∀p,((Ac kv p).getD Ll).l=I1 ts p:=λp=>by unfold I1;rw [<-J1,hat,show 3*t+0=3*ts.length by omega]
  refine AE.exit (OkQ.then_exit (OkQ.round2_exit (OkQ.in_exit (q2 (AK (v:=(pP b1 1)) (AB O underlying31 O sizeOf28 O) O (AC.frzRO (A:=[Bm b2 vN IG kv,Ah b1 31 (BN x),AJ x.a.p (x.cs),AJ x.b.p (rowsL Am ts),AJ x.c.p (x.ds)]) (kvs:=kv) (BL 1 (Value.slice x.b.p ts.length x.b.c) Bp O (AK (v:=(vN ts.length)) (AF O underlying28) O ?_))))))))
  refine AC.makeInt (m:=ts.length) TH O O Z O O ?_;intro bm hbm;rw [show List.replicate ts.length 0=Oc ts.length 0 from O]
  refine AI O (q6 (sL [1,2,3,4,28,29,30] O) (q4 (AM O (AK (v:=(vN ts.length)) (AF O underlying86) O (AM O (AC.nil (OkQ.subF (sL [1,2,3,4,28,29,30,54,55] O) (OkQ.then_ (AE.block ?_)))))))))
  refine AE.lp1 (tg λ(q:Nat)=>q<=ts.length) (tg λ(q:Nat)=>[(1,(pP b1 0)),(2,(Value.slice (some ⟨bm,0,none⟩) ts.length ts.length)),(3,(vI 0)),(4,(Value.map (some b2))),(54,(vN ts.length)),(55,(vN q))]) (tg λ(q:Nat)=>(rowW (some ⟨bm,0,none⟩) 3 1 ts.length ts.length (zL (Oc ts.length q))::Bm b2 vN IG kv::Ah b1 31 (BN x)::AJ x.a.p (x.cs)::AJ x.b.p (rowsL Am ts)::AJ x.c.p (x.ds)::Sc kv)) (tg λ(q:Nat)=>ts.length-q) 0 (Nat.zero_le _) (sF O) sr (λq hJ=>?_)
  have hq:=hJ
  refine q4 (AK (Ad (c:=(decide (q<ts.length))) O O (B7 (a:=q) (b:=ts.length))) O (AC.nil (q1 ?_)))
  refine AE.cond O (λhc3=>?_) (λhc3=>?_)
  ·replace hc3:=of_decide_eq_true hc3
   refine AE.skip (q1 (AE.block (q4 (AM O (AI O (AC.nil (OkQ.subF (sL [1,2,3,4,54,55,9] O) (OkQ.then_ (AE.region (AM O (AM O ?_)))))))))))
   refine AK (v:=(pP (pB (some ⟨bm,0,none⟩)) (pO (some ⟨bm,0,none⟩)+q*1))) (AH (j:=q) O O hbm.row underlying86 sizeOf3 O Z) O (AC.storeRow0 (j:=q) (v:=(vI (-1:Int))) O O hbm (by rw [B6,Nat.mul_one];exact (Lo Z)) Z O sizeOf3 O (G3 _ _ _) (AC.nil (OkQ.subF (sL [1,2,3,4,54,55] O) (OkQ.in_normal (OkQ.then_ (AE.region (AK (AY (c:=((q+1:Nat):Int)) O O (AU (a:=q) (b:=1) Z)) O (AM O (AC.nil (OkQ.subF (sL [1,2,3,4,54,55] O) ?_))))))))))
   rw [XD Z]
   exact OkQ.round1 (q+1) Z Z (sF O) sr
  ·replace hc3:=of_decide_eq_false hc3
   rw [show Oc ts.length q=Oc ts.length ts.length by rw [show q=ts.length by omega]]
   refine AE.exit (OkQ.then_exit (OkQ.round1_exit (OkQ.in_exit (q1 (AE.label (q1 (q4 (AM O (AK (v:=(vN ts.length)) (AF O underlying86) O (AM O (AC.nil ?_)))))))))))
   refine OkQ.subF (sL [1,2,3,4,54,55,63,64] O) (OkQ.then_ (AE.block ?_))
   refine AE.lp3 (tg λ(v:Nat) (n:Nat) (l:List Int)=>v<=ts.length/\Qu ts v n l) (tg λ(v:Nat) (n:Nat) (l:List Int)=>[(1,(pP b1 0)),(2,(Value.slice (some ⟨bm,0,none⟩) ts.length ts.length)),(4,(Value.map (some b2))),(63,(vN ts.length)),(64,(vN v)),(3,(vN n))]) (tg λ(v:Nat) (n:Nat) (l:List Int)=>(rowW (some ⟨bm,0,none⟩) 3 1 ts.length ts.length (zL l)::Bm b2 vN IG kv::Ah b1 31 (BN x)::AJ x.a.p (x.cs)::AJ x.b.p (rowsL Am ts)::AJ x.c.p (x.ds)::Sc kv)) (tg λ(v:Nat) (n:Nat) (l:List Int)=>ts.length-v) 0 0 (Oc ts.length ts.length) (⟨Nat.zero_le _,Qu.start (Lo (Nat.le_refl _)) (λs hs=>W7 hs)⟩) (sF O) sr (λv n l hJ=>?_)
   obtain ⟨hv,hP⟩:=hJ
   have hnle:=hP.nle
   have hPl:=hP.len
   refine q4 (AK (Ad (c:=(decide (v<ts.length))) O O (B7 (a:=v) (b:=ts.length))) O (AC.nil (q1 ?_)))
   refine AE.cond O (λhc4=>?_) (λhc4=>?_)
   ·replace hc4:=of_decide_eq_true hc4
    refine AE.skip (q1 (AE.block (q4 (AM O (AI O (q6 (sL [1,2,4,63,64,3,10] O) (q4 (AM O (AM O (AK (v:=(pP (pB (some ⟨bm,0,none⟩)) (pO (some ⟨bm,0,none⟩)+v*1))) (AH (j:=v) O O hbm.row underlying86 sizeOf3 O Z) O (AK (Ay (v:=(vI (l.getD v 0))) (i:=0) O O hbm (by rw [B6,Nat.mul_one];exact hP.len) (hbm.row.ne Z) BR (G6 (l:=l) (j:=v) Z)) O ?_)))))))))))
    refine AK (CI (c:=(decide ((0:Int)<=(l.getD v 0)))) O O O) O (AC.nil (OkQ.subF (sL [1,2,4,63,64,3,10,71] O) (OkQ.then_ ?_)))
    refine AE.cond O (λhc5=>?_) (λhc5=>?_)
    ·replace hc5:=of_decide_eq_true hc5
     exact AE.exit (OkQ.then_exit (OkQ.in_exit (OkQ.then_ (AE.region (AK (AY (c:=((v+1:Nat):Int)) O O (AU (a:=v) (b:=1) Z)) O (AM O (AC.nil (OkQ.subF (sL [1,2,4,63,64,3,10] O) (OkQ.round3 (v+1) n l (⟨Z,hP.next hc5⟩) Z (sF O) sr)))))))))
    ·replace hc5:=of_decide_eq_false hc5
     have hng:gZ l v<0:=by show l.getD v 0<0;omega
     refine AE.skip (q2 (AM O (AC.openV (V:=λbt=>(Value.slice (some ⟨bt,0,none⟩) 1 1)) (T:=3) (cs:=inL [v]) (AT O) (Ap (cs:=inL [v]) (pv:=[(0,(vN v))]) underlying86 sizeOf3 zeroValue3 (by decide) (by decide) O (by kernel_rfl)) O (AV O) λbt=>AC.asRow0 (z:=1) 1 O Z λhbt=>AI O (q3 (sL [1,2,4,63,64,3,10,11] O) (AM O (AM O (AM O (AK (v:=(pP (pB (some ⟨bm,0,none⟩)) (pO (some ⟨bm,0,none⟩)+v*1))) (AH (j:=v) O O hbm.row underlying86 sizeOf3 O Z) O (AC.storeRow1 (j:=v) (v:=(vN n)) O O hbm (by rw [B6,Nat.mul_one];exact hP.len) Z O sizeOf3 O (G3 _ _ _) ?_)))))))))
     refine q6 (sL [1,2,4,63,64,3,10,11] O) (AE.block ?_)
     refine AE.lp4 (tg λ(l2:List Int) (td:List Nat) (p2:Option Addr) (c2:Nat)=>TS ts v n l l2 td/\OwnOk p2 td.length c2) (tg λ(l2:List Int) (td:List Nat) (p2:Option Addr) (c2:Nat)=>[(1,(pP b1 0)),(2,(Value.slice (some ⟨bm,0,none⟩) ts.length ts.length)),(4,(Value.map (some b2))),(63,(vN ts.length)),(64,(vN v)),(3,(vN n)),(11,(Value.slice p2 td.length c2))]) (tg λ(l2:List Int) (td:List Nat) (p2:Option Addr) (c2:Nat)=>(rowW p2 3 1 td.length c2 (inL td)::rowW (some ⟨bm,0,none⟩) 3 1 ts.length ts.length (zL l2)::Bm b2 vN IG kv::Ah b1 31 (BN x)::AJ x.a.p (x.cs)::AJ x.b.p (rowsL Am ts)::AJ x.c.p (x.ds)::Sc kv)) (tg λ(l2:List Int) (td:List Nat) (p2:Option Addr) (c2:Nat)=>SO l2 td) (l.set v ((n:Nat):Int)) ([v]) (some ⟨bt,0,none⟩) 1 (⟨TS.start hP Z hng,hbt⟩) (sF O) sr (λl2 td p2 c2 hJ=>?_)
     obtain ⟨hF,ho2⟩:=hJ
     have htl2:=hF.tl
     refine AE.seq (q4 (AM O (AK (v:=(vN td.length)) (AF O underlying86) O (AK (CC (c:=(decide (0<td.length))) O O (B7 (a:=0) (b:=td.length))) O (AC.nil (OkQ.subF (sL [1,2,4,63,64,3,11,80] O) (OkQ.then_ ?_)))))))
     refine AE.cond O (λhc6=>?_) (λhc6=>?_)
     ·replace hc6:=of_decide_eq_true hc6
      have hcl2:=ho2.le
      obtain ⟨k,hk⟩:∃q,q=td.getD (td.length-1) 0:=⟨_,rfl⟩
      have hfd:=hF.pop hc6
      rw [<-hk] at hfd
      have hkt:=hfd.kk.1
      obtain ⟨T,hT⟩:∃q,q=ts.getD k (0,0,0):=⟨_,rfl⟩
      obtain ⟨g1,g2,g3⟩:=Cn (CL hnb hkt)
      rw [<-hT] at g1 g2 g3
      refine AE.skip (OkQ.then_ (AE.block (q4 (AM O (AM O (AK (v:=(vN td.length)) (AF O underlying86) O (AK (BO (c:=((td.length-1:Nat):Int)) O O (Br (a:=td.length) (b:=1) Z Z)) O (AK (v:=(pP (pB p2) (pO p2+(td.length-1)*1))) (AH (j:=td.length-1) O O ho2.row underlying86 sizeOf3 O Z) O (AK (Ay (v:=(vN (td.getD (td.length-1) 0))) (i:=0) O O ho2 (by rw [BG,Nat.mul_one]) (ho2.row.ne Z) BR (CM (l:=td) (j:=td.length-1) Z)) O (AC.retell (k:=86) (u:=(vN k)) O (by rw [hk]) (AI O ?_)))))))))))
      refine q3 (sL [1,2,4,63,64,3,11,12] O) (AM O (AM O (AK (v:=(vN td.length)) (AF O underlying86) O (AK (BO (c:=((td.length-1:Nat):Int)) O O (Br (a:=td.length) (b:=1) Z Z)) O (AK (v:=(Value.slice p2 (td.length-1) c2)) (Dx (m:=td.length-1) O O underlying86 sizeOf3 Z) O (AC.shrink 0 O (show td.length-1<=td.length by omega) O ?_))))))
      rw [show (inL td).take ((td.length-1)*1)=inL (td.take (td.length-1)) by rw [Nat.mul_one,NC]]
      obtain ⟨t2,ht2⟩:∃q,q=td.take (td.length-1):=⟨_,rfl⟩
      have hl2:td.length-1=t2.length:=by rw [ht2,List.length_take];omega
      rw [<-ht2,hl2]
      have ho3:OwnOk p2 t2.length c2:=ho2.less Z
      rw [<-ht2] at hfd
      have hmu:=X6 (l:=l2) hc6
      rw [<-ht2] at hmu
      refine AI O (q3 (sL [1,2,4,63,64,3,11,12] O) (AK (v:=(pP b1 1)) (AB O underlying31 O sizeOf28 O) O (BL 3 (Value.slice x.b.p ts.length x.b.c) Bp O (AM O (AK (v:=(pP (pB x.b.p) (pO x.b.p+k*3))) (AH (j:=k) O O x.b.ok underlying28 sizeOf68 O Z) O (AK (v:=(aG (Am (ts.getD k ((0,0,0):Tq3))))) (Ai (vs:=Am (ts.getD k ((0,0,0):Tq3))) (i:=5) O O (Ar.ne x.b.ok Z) DL (A8 Af _ _ _ Z) (Af _)) O (AC.retell (k:=96) (u:=(aG (Am T))) O (by rw [hT]) (AM O (AC.nil (OkQ.subF (sL [1,2,4,63,64,3,11,96,97] O) (OkQ.then_ ?_)))))))))))
      refine AE.block (AE.unroll 4 (FF.step (q4 (AK (Ad (c:=true) O O (by decide)) O (AC.nil (q1 (AE.cond_true O (AE.skip (q1 (AE.block (q4 ?_)))))))))))
      refine AK (v:=(vN T.1)) (CD (j:=0) O O underlying68 sizeOf3 isAgg3 (by decide) O) O (AI O (q3 (sL [1,2,4,63,64,3,11,96,97,14] O) (AM O (AM O ?_))))
      obtain ⟨sr0,hsr0⟩:∃q,q=(Ac kv T.1).getD Ll:=⟨_,rfl⟩
      refine AK (v:=(Value.slice sr0.p sr0.l.length sr0.c)) ((by rw [hsr0];exact Bj EK 2 (eV:=IG) (kvs:=kv) (x:=T.1) (z0:=Ll) (co:=false) O O underlying123 zeroValue86 O (hok) (by show (_:Nat)<_;omega))) O (AC.dupRO (A:=[rowW p2 3 1 t2.length c2 (inL t2),rowW (some ⟨bm,0,none⟩) 3 1 ts.length ts.length (zL l2),Bm b2 vN IG kv,Ah b1 31 (BN x),AJ x.a.p (x.cs),AJ x.b.p (rowsL Am ts),AJ x.c.p (x.ds)]) (kvs:=kv) (k:=T.1) hsr0 ?_)
      have hsl0:sr0.l=I1 ts (Bl (ts.getD k (0,0,0)) 0):=by rw [<-hT,hsr0];exact hatl _
      have hsn0:sr0.l.length<=3*ts.length:=by rw [hsl0];exact MO _
      refine AK (v:=(vN sr0.l.length)) (AF O underlying86) O (AM O (AC.nil (OkQ.subF (sL [1,2,4,63,64,3,11,96,97,102,103,104] O) (OkQ.then_ (AE.block ?_)))))
      refine AE.lp5 (tg λ(j0:Nat) (la0:List Int) (ta0:List Nat) (pa0:Option Addr) (ca0:Nat)=>Lt ts v n l la0 ta0 k 0 j0/\OwnOk pa0 ta0.length ca0/\SO la0 ta0<SO l2 td/\j0<=sr0.l.length) (tg λ(j0:Nat) (la0:List Int) (ta0:List Nat) (pa0:Option Addr) (ca0:Nat)=>[(1,(pP b1 0)),(2,(Value.slice (some ⟨bm,0,none⟩) ts.length ts.length)),(4,(Value.map (some b2))),(63,(vN ts.length)),(64,(vN v)),(3,(vN n)),(96,(aG (Am T))),(97,(vI 0)),(102,(Value.slice sr0.p sr0.l.length sr0.c)),(103,(vN sr0.l.length)),(104,(vN j0)),(11,(Value.slice pa0 ta0.length ca0))]) (tg λ(j0:Nat) (la0:List Int) (ta0:List Nat) (pa0:Option Addr) (ca0:Nat)=>(AJ sr0.p (inL sr0.l)::rowW pa0 3 1 ta0.length ca0 (inL ta0)::rowW (some ⟨bm,0,none⟩) 3 1 ts.length ts.length (zL la0)::Bm b2 vN IG kv::Ah b1 31 (BN x)::AJ x.a.p (x.cs)::AJ x.b.p (rowsL Am ts)::AJ x.c.p (x.ds)::Sc kv)) (tg λ(j0:Nat) (la0:List Int) (ta0:List Nat) (pa0:Option Addr) (ca0:Nat)=>sr0.l.length-j0) 0 l2 t2 p2 c2 (⟨hfd,ho3,hmu,Nat.zero_le _⟩) (sF O) sr (λj0 la0 ta0 pa0 ca0 hJ=>?_)
      obtain ⟨hf0,hoa0,hm0,hjs0⟩:=hJ
      have htt0:=hf0.tl
      have hLl0:=hf0.len
      refine q4 (AK (Ad (c:=(decide (j0<sr0.l.length))) O O (B7 (a:=j0) (b:=sr0.l.length))) O (AC.nil (q1 ?_)))
      refine AE.cond O (λhc8=>?_) (λhc8=>?_)
      ·replace hc8:=of_decide_eq_true hc8
       obtain ⟨o,ho⟩:∃q,q=sr0.l.getD j0 0:=⟨_,rfl⟩
       have ho9:o=(I1 ts (Bl (ts.getD k (0,0,0)) 0)).getD j0 0:=by rw [<-hsl0];exact ho
       have hjl:j0<(I1 ts (Bl (ts.getD k (0,0,0)) 0)).length:=by rw [<-hsl0];exact hc8
       have hol:o<ts.length:=(FN.1 (by rw [ho9];exact Ez hjl)).1
       refine AE.skip (q1 (AE.block (q4 (AK (v:=(pP (pB sr0.p) (pO sr0.p+j0*1))) (AH (j:=j0) O O sr0.ok.row underlying86 sizeOf3 O Z) O (AK (AL (v:=(vN (sr0.l.getD j0 0))) (i:=0) O O (sr0.ok.row.ne Z) BR (CM (l:=sr0.l) (j:=j0) Z)) O (AC.retell (k:=107) (u:=(vN o)) O (by rw [ho]) (AI O (q3 (sL [1,2,4,63,64,3,96,97,102,103,104,11,16] O) (AM O (AM O (AK (v:=(pP (pB (some ⟨bm,0,none⟩)) (pO (some ⟨bm,0,none⟩)+o*1))) (AH (j:=o) O O hbm.row underlying86 sizeOf3 O Z) O ?_)))))))))))
       refine AK (Ay (v:=(vI (la0.getD o 0))) (i:=2) O O hbm (by rw [B6,Nat.mul_one];exact hf0.len) (hbm.row.ne Z) BR (G6 (l:=la0) (j:=o) Z)) O (AK (Ad (c:=(decide ((la0.getD o 0)<(0:Int)))) O O O) O (AC.nil (OkQ.subF (sL [1,2,4,63,64,3,96,97,102,103,104,11,16,112] O) (OkQ.then_ ?_))))
       refine AE.cond O (λhc9=>?_) (λhc9=>?_)
       ·replace hc9:=of_decide_eq_true hc9
        refine q4 (AM O (AM O (AM O (AK (v:=(pP (pB (some ⟨bm,0,none⟩)) (pO (some ⟨bm,0,none⟩)+o*1))) (AH (j:=o) O O hbm.row underlying86 sizeOf3 O Z) O (AC.storeRow2 (j:=o) (v:=(vN n)) O O hbm (by rw [B6,Nat.mul_one];exact hf0.len) Z O sizeOf3 O (G3 _ _ _) (AC.nil (OkQ.subF (sL [1,2,4,63,64,3,96,97,102,103,104,11,16] O) (OkQ.then_ (AE.region (AM O (AM O ?_)))))))))))
        refine AC.openV (V:=λb3=>(Value.slice (some ⟨b3,0,none⟩) 1 1)) (T:=3) (cs:=[(vN o)]) (AT O) (Ap (cs:=[(vN o)]) (pv:=[(0,(vN o))]) underlying86 sizeOf3 zeroValue3 (by decide) (by decide) O (by kernel_rfl)) O (AV O) λb3=>AC.append2 (j:=0) (cs2:=inL (ta0++[o])) Jv O hoa0 (by rw [BG,Nat.mul_one]) O O O O (by decide) (Fl Z) Z (by rw [CS];rfl) O λp_4 c_4 ho_4 hne_4=>AI O (AC.nil (OkQ.subF (sL [1,2,4,63,64,3,96,97,102,103,104,11,16] O) (OkQ.in_normal (OkQ.then_ (AE.region (AK (AY (c:=((j0+1:Nat):Int)) O O (AU (a:=j0) (b:=1) Z)) O (AM O (AC.nil (OkQ.subF (sL [1,2,4,63,64,3,96,97,102,103,104,11,16] O) ?_)))))))))
        rw [show ta0.length+1=(ta0++[o]).length by simp]
        exact OkQ.round5 (j0+1) (la0.set o ((n:Nat):Int)) (ta0++[o]) p_4 c_4 (⟨hf0.push hP Z ho9 hjl (by decide) hc9,by simpa using ho_4,Nat.lt_trans (ML (by rw [hf0.len];exact hol) (hf0.isneg hol hc9)) hm0,Z⟩) Z (sF O) (sl sr)
       ·replace hc9:=of_decide_eq_false hc9
        exact AE.skip (OkQ.in_normal (OkQ.then_ (AE.region (AK (AY (c:=((j0+1:Nat):Int)) O O (AU (a:=j0) (b:=1) Z)) O (AM O (AC.nil (OkQ.subF (sL [1,2,4,63,64,3,96,97,102,103,104,11,16] O) (OkQ.round5 (j0+1) la0 ta0 pa0 ca0 (⟨hf0.keep hP ho9 hjl (by decide) (by show 0<=la0.getD o 0;omega),hoa0,hm0,Z⟩) Z (sF O) sr))))))))
      ·replace hc8:=of_decide_eq_false hc8
       have hfe0:=hf0.corner (by rw [<-hsl0];omega)
       refine AE.exit (OkQ.then_exit (OkQ.round5_exit (OkQ.in_exit (OkQ.in_normal (OkQ.then_ (AE.region (AK (AY (c:=(1:Int)) O O (by decide)) O (AM O (AC.nil (OkQ.subF (sL [1,2,4,63,64,3,96,97,102,103,104,11] O) (OkQ.again ?_)))))))))))
       refine FF.step (q4 (AK (Ad (c:=true) O O (by decide)) O (AC.nil (q1 (AE.cond_true O (AE.skip (q1 (AE.block (q4 (AK (v:=(vN T.2.1)) (CD (j:=1) O O underlying68 sizeOf3 isAgg3 (by decide) O) O (AI O ?_)))))))))))
       refine q3 (sL [1,2,4,63,64,3,96,97,102,103,104,11,14] O) (AM O (AM O ?_))
       obtain ⟨sr1,hsr1⟩:∃q,q=(Ac kv T.2.1).getD Ll:=⟨_,rfl⟩
       refine AK (v:=(Value.slice sr1.p sr1.l.length sr1.c)) ((by rw [hsr1];exact Bj EK 3 (eV:=IG) (kvs:=kv) (x:=T.2.1) (z0:=Ll) (co:=false) O O underlying123 zeroValue86 O (hok) (by show (_:Nat)<_;omega))) O (AC.dupRO (A:=[AJ sr0.p (inL sr0.l),rowW pa0 3 1 ta0.length ca0 (inL ta0),rowW (some ⟨bm,0,none⟩) 3 1 ts.length ts.length (zL la0),Bm b2 vN IG kv,Ah b1 31 (BN x),AJ x.a.p (x.cs),AJ x.b.p (rowsL Am ts),AJ x.c.p (x.ds)]) (kvs:=kv) (k:=T.2.1) hsr1 ?_)
       have hsl1:sr1.l=I1 ts (Bl (ts.getD k (0,0,0)) 1):=by rw [<-hT,hsr1];exact hatl _
       have hsn1:sr1.l.length<=3*ts.length:=by rw [hsl1];exact MO _
       refine AK (v:=(vN sr1.l.length)) (AF O underlying86) O (AM O (AC.nil (OkQ.subF (sL [1,2,4,63,64,3,96,97,102,103,104,11] O) (OkQ.then_ (AE.block ?_)))))
       refine AE.lp5 (tg λ(j1:Nat) (la1:List Int) (ta1:List Nat) (pa1:Option Addr) (ca1:Nat)=>Lt ts v n l la1 ta1 k 1 j1/\OwnOk pa1 ta1.length ca1/\SO la1 ta1<SO l2 td/\j1<=sr1.l.length) (tg λ(j1:Nat) (la1:List Int) (ta1:List Nat) (pa1:Option Addr) (ca1:Nat)=>[(1,(pP b1 0)),(2,(Value.slice (some ⟨bm,0,none⟩) ts.length ts.length)),(4,(Value.map (some b2))),(63,(vN ts.length)),(64,(vN v)),(3,(vN n)),(96,(aG (Am T))),(97,(vI 1)),(102,(Value.slice sr1.p sr1.l.length sr1.c)),(103,(vN sr1.l.length)),(104,(vN j1)),(11,(Value.slice pa1 ta1.length ca1))]) (tg λ(j1:Nat) (la1:List Int) (ta1:List Nat) (pa1:Option Addr) (ca1:Nat)=>(AJ sr1.p (inL sr1.l)::AJ sr0.p (inL sr0.l)::rowW pa1 3 1 ta1.length ca1 (inL ta1)::rowW (some ⟨bm,0,none⟩) 3 1 ts.length ts.length (zL la1)::Bm b2 vN IG kv::Ah b1 31 (BN x)::AJ x.a.p (x.cs)::AJ x.b.p (rowsL Am ts)::AJ x.c.p (x.ds)::Sc kv)) (tg λ(j1:Nat) (la1:List Int) (ta1:List Nat) (pa1:Option Addr) (ca1:Nat)=>sr1.l.length-j1) 0 la0 ta0 pa0 ca0 (⟨hfe0,hoa0,hm0,Nat.zero_le _⟩) (sF O) sr (λj1 la1 ta1 pa1 ca1 hJ=>?_)
       obtain ⟨hf1,hoa1,hm1,hjs1⟩:=hJ
       have htt1:=hf1.tl
       have hLl1:=hf1.len
       refine q4 (AK (Ad (c:=(decide (j1<sr1.l.length))) O O (B7 (a:=j1) (b:=sr1.l.length))) O (AC.nil (q1 ?_)))
       refine AE.cond O (λhc8=>?_) (λhc8=>?_)
       ·replace hc8:=of_decide_eq_true hc8
        obtain ⟨o,ho⟩:∃q,q=sr1.l.getD j1 0:=⟨_,rfl⟩
        have ho9:o=(I1 ts (Bl (ts.getD k (0,0,0)) 1)).getD j1 0:=by rw [<-hsl1];exact ho
        have hjl:j1<(I1 ts (Bl (ts.getD k (0,0,0)) 1)).length:=by rw [<-hsl1];exact hc8
        have hol:o<ts.length:=(FN.1 (by rw [ho9];exact Ez hjl)).1
        refine AE.skip (q1 (AE.block (q4 (AK (v:=(pP (pB sr1.p) (pO sr1.p+j1*1))) (AH (j:=j1) O O sr1.ok.row underlying86 sizeOf3 O Z) O (AK (AL (v:=(vN (sr1.l.getD j1 0))) (i:=0) O O (sr1.ok.row.ne Z) BR (CM (l:=sr1.l) (j:=j1) Z)) O (AC.retell (k:=107) (u:=(vN o)) O (by rw [ho]) (AI O (q3 (sL [1,2,4,63,64,3,96,97,102,103,104,11,16] O) (AM O (AM O (AK (v:=(pP (pB (some ⟨bm,0,none⟩)) (pO (some ⟨bm,0,none⟩)+o*1))) (AH (j:=o) O O hbm.row underlying86 sizeOf3 O Z) O ?_)))))))))))
        refine AK (Ay (v:=(vI (la1.getD o 0))) (i:=3) O O hbm (by rw [B6,Nat.mul_one];exact hf1.len) (hbm.row.ne Z) BR (G6 (l:=la1) (j:=o) Z)) O (AK (Ad (c:=(decide ((la1.getD o 0)<(0:Int)))) O O O) O (AC.nil (OkQ.subF (sL [1,2,4,63,64,3,96,97,102,103,104,11,16,112] O) (OkQ.then_ ?_))))
        refine AE.cond O (λhc9=>?_) (λhc9=>?_)
        ·replace hc9:=of_decide_eq_true hc9
         refine q4 (AM O (AM O (AM O (AK (v:=(pP (pB (some ⟨bm,0,none⟩)) (pO (some ⟨bm,0,none⟩)+o*1))) (AH (j:=o) O O hbm.row underlying86 sizeOf3 O Z) O (AC.storeRow3 (j:=o) (v:=(vN n)) O O hbm (by rw [B6,Nat.mul_one];exact hf1.len) Z O sizeOf3 O (G3 _ _ _) (AC.nil (OkQ.subF (sL [1,2,4,63,64,3,96,97,102,103,104,11,16] O) (OkQ.then_ (AE.region (AM O (AM O ?_)))))))))))
         refine AC.openV (V:=λb3=>(Value.slice (some ⟨b3,0,none⟩) 1 1)) (T:=3) (cs:=[(vN o)]) (AT O) (Ap (cs:=[(vN o)]) (pv:=[(0,(vN o))]) underlying86 sizeOf3 zeroValue3 (by decide) (by decide) O (by kernel_rfl)) O (AV O) λb3=>AC.appendAt 3 (j:=0) (cs2:=inL (ta1++[o])) Jv O hoa1 (by rw [BG,Nat.mul_one]) O O O O O (by decide) (Fl Z) Z (by rw [CS];rfl) O λp_5 c_5 ho_5 hne_5=>AI O (AC.nil (OkQ.subF (sL [1,2,4,63,64,3,96,97,102,103,104,11,16] O) (OkQ.in_normal (OkQ.then_ (AE.region (AK (AY (c:=((j1+1:Nat):Int)) O O (AU (a:=j1) (b:=1) Z)) O (AM O (AC.nil (OkQ.subF (sL [1,2,4,63,64,3,96,97,102,103,104,11,16] O) ?_)))))))))
         rw [show ta1.length+1=(ta1++[o]).length by simp]
         exact OkQ.round5 (j1+1) (la1.set o ((n:Nat):Int)) (ta1++[o]) p_5 c_5 (⟨hf1.push hP Z ho9 hjl (by decide) hc9,by simpa using ho_5,Nat.lt_trans (ML (by rw [hf1.len];exact hol) (hf1.isneg hol hc9)) hm1,Z⟩) Z (sF O) (sl sr)
        ·replace hc9:=of_decide_eq_false hc9
         exact AE.skip (OkQ.in_normal (OkQ.then_ (AE.region (AK (AY (c:=((j1+1:Nat):Int)) O O (AU (a:=j1) (b:=1) Z)) O (AM O (AC.nil (OkQ.subF (sL [1,2,4,63,64,3,96,97,102,103,104,11,16] O) (OkQ.round5 (j1+1) la1 ta1 pa1 ca1 (⟨hf1.keep hP ho9 hjl (by decide) (by show 0<=la1.getD o 0;omega),hoa1,hm1,Z⟩) Z (sF O) sr))))))))
       ·replace hc8:=of_decide_eq_false hc8
        have hfe1:=hf1.corner (by rw [<-hsl1];omega)
        refine AE.exit (OkQ.then_exit (OkQ.round5_exit (OkQ.in_exit (OkQ.in_normal (OkQ.then_ (AE.region (AK (AY (c:=(2:Int)) O O (by decide)) O (AM O (AC.nil (OkQ.subF (sL [1,2,4,63,64,3,96,97,102,103,104,11] O) (OkQ.again ?_)))))))))))
        refine FF.step (q4 (AK (Ad (c:=true) O O (by decide)) O (AC.nil (q1 (AE.cond_true O (AE.skip (q1 (AE.block (q4 (AK (v:=(vN T.2.2)) (CD (j:=2) O O underlying68 sizeOf3 isAgg3 (by decide) O) O (AI O ?_)))))))))))
        refine q3 (sL [1,2,4,63,64,3,96,97,102,103,104,11,14] O) (AM O (AM O ?_))
        obtain ⟨sr2,hsr2⟩:∃q,q=(Ac kv T.2.2).getD Ll:=⟨_,rfl⟩
        refine AK (v:=(Value.slice sr2.p sr2.l.length sr2.c)) ((by rw [hsr2];exact Bj EK 4 (eV:=IG) (kvs:=kv) (x:=T.2.2) (z0:=Ll) (co:=false) O O underlying123 zeroValue86 O (hok) (by show (_:Nat)<_;omega))) O (AC.dupRO (A:=[AJ sr1.p (inL sr1.l),AJ sr0.p (inL sr0.l),rowW pa1 3 1 ta1.length ca1 (inL ta1),rowW (some ⟨bm,0,none⟩) 3 1 ts.length ts.length (zL la1),Bm b2 vN IG kv,Ah b1 31 (BN x),AJ x.a.p (x.cs),AJ x.b.p (rowsL Am ts),AJ x.c.p (x.ds)]) (kvs:=kv) (k:=T.2.2) hsr2 ?_)
        have hsl2:sr2.l=I1 ts (Bl (ts.getD k (0,0,0)) 2):=by rw [<-hT,hsr2];exact hatl _
        have hsn2:sr2.l.length<=3*ts.length:=by rw [hsl2];exact MO _
        refine AK (v:=(vN sr2.l.length)) (AF O underlying86) O (AM O (AC.nil (OkQ.subF (sL [1,2,4,63,64,3,96,97,102,103,104,11] O) (OkQ.then_ (AE.block ?_)))))
        refine AE.lp5 (tg λ(j2:Nat) (la2:List Int) (ta2:List Nat) (pa2:Option Addr) (ca2:Nat)=>Lt ts v n l la2 ta2 k 2 j2/\OwnOk pa2 ta2.length ca2/\SO la2 ta2<SO l2 td/\j2<=sr2.l.length) (tg λ(j2:Nat) (la2:List Int) (ta2:List Nat) (pa2:Option Addr) (ca2:Nat)=>[(1,(pP b1 0)),(2,(Value.slice (some ⟨bm,0,none⟩) ts.length ts.length)),(4,(Value.map (some b2))),(63,(vN ts.length)),(64,(vN v)),(3,(vN n)),(96,(aG (Am T))),(97,(vI 2)),(102,(Value.slice sr2.p sr2.l.length sr2.c)),(103,(vN sr2.l.length)),(104,(vN j2)),(11,(Value.slice pa2 ta2.length ca2))]) (tg λ(j2:Nat) (la2:List Int) (ta2:List Nat) (pa2:Option Addr) (ca2:Nat)=>(AJ sr2.p (inL sr2.l)::AJ sr1.p (inL sr1.l)::AJ sr0.p (inL sr0.l)::rowW pa2 3 1 ta2.length ca2 (inL ta2)::rowW (some ⟨bm,0,none⟩) 3 1 ts.length ts.length (zL la2)::Bm b2 vN IG kv::Ah b1 31 (BN x)::AJ x.a.p (x.cs)::AJ x.b.p (rowsL Am ts)::AJ x.c.p (x.ds)::Sc kv)) (tg λ(j2:Nat) (la2:List Int) (ta2:List Nat) (pa2:Option Addr) (ca2:Nat)=>sr2.l.length-j2) 0 la1 ta1 pa1 ca1 (⟨hfe1,hoa1,hm1,Nat.zero_le _⟩) (sF O) sr (λj2 la2 ta2 pa2 ca2 hJ=>?_)
        obtain ⟨hf2,hoa2,hm2,hjs2⟩:=hJ
        have htt2:=hf2.tl
        have hLl2:=hf2.len
        refine q4 (AK (Ad (c:=(decide (j2<sr2.l.length))) O O (B7 (a:=j2) (b:=sr2.l.length))) O (AC.nil (q1 ?_)))
        refine AE.cond O (λhc8=>?_) (λhc8=>?_)
        ·replace hc8:=of_decide_eq_true hc8
         obtain ⟨o,ho⟩:∃q,q=sr2.l.getD j2 0:=⟨_,rfl⟩
         have ho9:o=(I1 ts (Bl (ts.getD k (0,0,0)) 2)).getD j2 0:=by rw [<-hsl2];exact ho
         have hjl:j2<(I1 ts (Bl (ts.getD k (0,0,0)) 2)).length:=by rw [<-hsl2];exact hc8
         have hol:o<ts.length:=(FN.1 (by rw [ho9];exact Ez hjl)).1
         refine AE.skip (q1 (AE.block (q4 (AK (v:=(pP (pB sr2.p) (pO sr2.p+j2*1))) (AH (j:=j2) O O sr2.ok.row underlying86 sizeOf3 O Z) O (AK (AL (v:=(vN (sr2.l.getD j2 0))) (i:=0) O O (sr2.ok.row.ne Z) BR (CM (l:=sr2.l) (j:=j2) Z)) O (AC.retell (k:=107) (u:=(vN o)) O (by rw [ho]) (AI O (q3 (sL [1,2,4,63,64,3,96,97,102,103,104,11,16] O) (AM O (AM O (AK (v:=(pP (pB (some ⟨bm,0,none⟩)) (pO (some ⟨bm,0,none⟩)+o*1))) (AH (j:=o) O O hbm.row underlying86 sizeOf3 O Z) O ?_)))))))))))
         refine AK (Ay (v:=(vI (la2.getD o 0))) (i:=4) O O hbm (by rw [B6,Nat.mul_one];exact hf2.len) (hbm.row.ne Z) BR (G6 (l:=la2) (j:=o) Z)) O (AK (Ad (c:=(decide ((la2.getD o 0)<(0:Int)))) O O O) O (AC.nil (OkQ.subF (sL [1,2,4,63,64,3,96,97,102,103,104,11,16,112] O) (OkQ.then_ ?_))))
         refine AE.cond O (λhc9=>?_) (λhc9=>?_)
         ·replace hc9:=of_decide_eq_true hc9
          refine q4 (AM O (AM O (AM O (AK (v:=(pP (pB (some ⟨bm,0,none⟩)) (pO (some ⟨bm,0,none⟩)+o*1))) (AH (j:=o) O O hbm.row underlying86 sizeOf3 O Z) O (AC.storeRow4 (j:=o) (v:=(vN n)) O O hbm (by rw [B6,Nat.mul_one];exact hf2.len) Z O sizeOf3 O (G3 _ _ _) (AC.nil (OkQ.subF (sL [1,2,4,63,64,3,96,97,102,103,104,11,16] O) (OkQ.then_ (AE.region (AM O (AM O ?_)))))))))))
          refine AC.openV (V:=λb3=>(Value.slice (some ⟨b3,0,none⟩) 1 1)) (T:=3) (cs:=[(vN o)]) (AT O) (Ap (cs:=[(vN o)]) (pv:=[(0,(vN o))]) underlying86 sizeOf3 zeroValue3 (by decide) (by decide) O (by kernel_rfl)) O (AV O) λb3=>AC.appendAt 4 (j:=0) (cs2:=inL (ta2++[o])) Jv O hoa2 (by rw [BG,Nat.mul_one]) O O O O O (by decide) (Fl Z) Z (by rw [CS];rfl) O λp_6 c_6 ho_6 hne_6=>AI O (AC.nil (OkQ.subF (sL [1,2,4,63,64,3,96,97,102,103,104,11,16] O) (OkQ.in_normal (OkQ.then_ (AE.region (AK (AY (c:=((j2+1:Nat):Int)) O O (AU (a:=j2) (b:=1) Z)) O (AM O (AC.nil (OkQ.subF (sL [1,2,4,63,64,3,96,97,102,103,104,11,16] O) ?_)))))))))
          rw [show ta2.length+1=(ta2++[o]).length by simp]
          exact OkQ.round5 (j2+1) (la2.set o ((n:Nat):Int)) (ta2++[o]) p_6 c_6 (⟨hf2.push hP Z ho9 hjl (by decide) hc9,by simpa using ho_6,Nat.lt_trans (ML (by rw [hf2.len];exact hol) (hf2.isneg hol hc9)) hm2,Z⟩) Z (sF O) (sl sr)
         ·replace hc9:=of_decide_eq_false hc9
          exact AE.skip (OkQ.in_normal (OkQ.then_ (AE.region (AK (AY (c:=((j2+1:Nat):Int)) O O (AU (a:=j2) (b:=1) Z)) O (AM O (AC.nil (OkQ.subF (sL [1,2,4,63,64,3,96,97,102,103,104,11,16] O) (OkQ.round5 (j2+1) la2 ta2 pa2 ca2 (⟨hf2.keep hP ho9 hjl (by decide) (by show 0<=la2.getD o 0;omega),hoa2,hm2,Z⟩) Z (sF O) sr))))))))
        ·replace hc8:=of_decide_eq_false hc8
         have hfe2:=hf2.corner (by rw [<-hsl2];omega)
         refine AE.exit (OkQ.then_exit (OkQ.round5_exit (OkQ.in_exit (OkQ.in_normal (OkQ.then_ (AE.region (AK (AY (c:=(3:Int)) O O (by decide)) O (AM O (AC.nil (OkQ.subF (sL [1,2,4,63,64,3,96,97,102,103,104,11] O) (OkQ.again ?_)))))))))))
         exact FF.step (q4 (AK (Ad (c:=false) O O (by decide)) O (AC.nil (q1 (AE.cond_false O (AE.exit (OkQ.then_exit (OkQ.then_exit (OkQ.in_exit (OkQ.in_normal (OkQ.round4 la2 ta2 pa2 ca2 (⟨hfe2.close,hoa2⟩) (hm2) (sF O) (sl (sl (sl sr))))))))))))))
     ·replace hc6:=of_decide_eq_false hc6
      have hfin:=hF.finish hP Z Z hng
      refine AE.exit (OkQ.then_exit (OkQ.round4_exit (OkQ.in_exit (OkQ.then_ (AE.region (AM O (AK (AY (c:=((n+1:Nat):Int)) O O (AU (a:=n) (b:=1) Z)) O (AI O (AC.nil (OkQ.subF (sL [1,2,4,63,64,3,11] O) (OkQ.in_normal ?_)))))))))))
      exact OkQ.then_ (AE.region (AK (AY (c:=((v+1:Nat):Int)) O O (AU (a:=v) (b:=1) Z)) O (AM O (AC.nil (OkQ.subF (sL [1,2,4,63,64,3,11] O) (OkQ.round3 (v+1) (n+1) l2 (⟨Z,hfin⟩) Z (sF O) (sl sr)))))))
   ·replace hc4:=of_decide_eq_false hc4
    refine AE.exit (OkQ.then_exit (OkQ.round3_exit (OkQ.in_exit (q2 (AM O (AM O (AI O (AI O (AC.nil (OkQ.subF (sL [1,2,4,63,64,3] O) (OkQ.then_ ?_)))))))))))
    exact AE.ret (OkQ.scope_ret (Bo O (AZ (v:=(Value.slice (some ⟨bm,0,none⟩) ts.length ts.length)) O) (AZ (v:=(vN n)) O) (λw hw=>(YT hw 0 O hbm hPl.symm (by have h9:=hP;rw [show v=ts.length by omega] at h9;exact h9.fin) O))))
theorem J5 {N:Nat} {ts ss:List T3} (x:RM N ts ss) (hnb:A_ N ts=true) (hne:0<ts.length) (hp:N<=1000000) (htl:ts.length<=1000000) (w:World) {S:Nat->Prop} (hx:Ro S w x):Calls prog 22 #[(aG (BN x))] w (Al (VF ts) S w):=(Ik x hnb hne hp htl w hx).mono λe w1 h=>h.ofPaD
theorem Nt {ps:List Pt} {ts ss:List T3} (x:MX ps ts ss) (hnb:A_ ps.length ts=true) (hne:0<ts.length) (hp:ps.length<=1000000) (htl:ts.length<=1000000) (w:World) {S:Nat->Prop} (hx:Ro S w x):Calls prog 22 #[(aG (IM x))] w (Al (VF ts) S w):=J5 x.rm hnb hne hp htl w (VW hx)
theorem Ie {N:Nat} {ts ss:List T3} (x:RM N ts ss) (hnb:A_ N ts=true) (hne:ts.length=0) (hp:N<=1000000) (w:World) {S:Nat->Prop} (hx:Ro S w x):Calls prog 22 #[(aG (BN x))] w (Ak w (Value.tuple #[(Value.slice none 0 0),(vI 0)])):=by
 have lx:=CV (W:=w) hx
 refine Ag (args:=[(aG (BN x))]) (L:=[AJ x.a.p (x.cs),AJ x.b.p (rowsL Am ts),AJ x.c.p (x.ds)]) func22 O O (AV O) (C4 hx Ao) (AE.subF (sL [0] O) (q4 (B0 (cs:=BN x) O λb1=>AI O (AI O (AC.nil (OkQ.subF (sL [1,2,3] O) (OkQ.then_ (AE.scope (AE.seq (q4 ?_))))))))))
 refine BC 0 CF O (Cc (args:=[(aG (BN x))]) (v:=(Value.bool true)) call35 (λw hw=>(by have h9:=E_ x Z w (Bc hw 1 O lx);rw [hnb] at h9;exact h9)) O (AK (BF (c:=false) O O) O (AM O (AC.step (v:=(pP b1 1)) (AA O) (AB O underlying31 O sizeOf28 O) O (AV O) (AC.step (v:=(Value.slice x.b.p ts.length x.b.c)) (AA O) (AN (i:=0) (v:=(Value.slice x.b.p ts.length x.b.c)) O O Bp.a O) O (AV O) (AC.step (v:=(vN ts.length)) (AA O) (AF O underlying28) O (AV O) (AC.step (v:=(Value.bool true)) (AA O) (BA (c:=true) O O (decide_eq_true Z)) O (AV O) (AK (v:=(Value.bool true)) (AO O O) O (AC.nil (OkQ.subF (sL [1,2,3,25] O) (OkQ.then_ ?_)))))))))))
 exact AE.cond_true O (q4 (AI O (AI O (AC.nil (OkQ.subF (sL [1,2,3] O) (OkQ.then_ (AE.ret (OkQ.then_ret (OkQ.scope_ret (Bo O (AZ (v:=(Value.slice none 0 0)) O) (AZ (v:=(vI 0)) O) (λw hw=>⟨rfl,hw.out⟩)))))))))))
end
end Go.Proofs.YtpgncndhhhllfaaGreat
