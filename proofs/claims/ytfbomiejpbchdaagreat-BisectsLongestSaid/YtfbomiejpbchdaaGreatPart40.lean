import Derived.Test.YtfbomiejpbchdaaGreatPart06
import Derived.Test.YtfbomiejpbchdaaGreatPart30
import Derived.Test.YtfbomiejpbchdaaGreatPart32
import Derived.Test.YtfbomiejpbchdaaGreatPart39
namespace Go.Proofs.YtfbomiejpbchdaaGreat
open Go Go.RowKit Go.Proofs.Tryz
set_option linter.unusedVariables false
set_option linter.unusedSimpArgs false
section
set_option maxRecDepth 100000
theorem HL:Kg prog 144 Dr JJ:=QC QZ (by decide +kernel) (by kernel_rfl) (by kernel_rfl) underlying144 underlying3 (by kernel_rfl) (by kernel_rfl) (by kernel_rfl)
set_option maxHeartbeats 1000000 in
theorem Og {ps:List Pt} {ts ss:List T3} (x:MX ps ts ss) (ms:List Int) (y:RX (zL ms) ms.length) (hnb:CD ps.length ts=true) (hp:ps.length<=1000000) (htl:ts.length<=1000000) (hml:ms.length<=1000000) (w:World) {S:Nat->Prop} (hx:Ro S w x) (hy:Ro S w y):Calls prog 78 #[(aG (Bk x)),(Value.slice y.p ms.length y.c)] w (BV (HC ts ms) S w):=by
 have lx:=DU (W:=w) hx
 have ly:=DU (W:=w) hy
 refine A6 (args:=[(aG (Bk x)),(Value.slice y.p ms.length y.c)]) (L:=[AY x.a.p (rowsL Am ps),AY x.b.p (rowsL Af ts),AY x.c.p (rowsL Af ss),AY y.p (zL ms)]) func78 O O (Ac O) (DV hx (DV hy BN)) (AF.subF (sL [0,1] O) (q4 (Bg (cs:=Bk x) O λb1=>AL O (AE.nil ?_))))
 refine AD.subF (sL [1,2,4] O) (AD.then_ (AF.scope (q4 (AE.makeMap Dr vN (AK O) O λb2=>AL O ?_))))
 refine q6 (sL [1,2,4,5] O) (q4 (AS O (AH (v:=(vN ms.length)) (AG O underlying33) O (AS O (AE.nil ?_)))))
 refine AD.subF (sL [2,4,5,12,13,14] O) (AD.then_ (AF.block ?_))
 refine AF.lp2 (tg λ(i:Nat) (kvs:List (P2×Nat))=>i<=ms.length/\FU ts ms i kvs) (tg λ(i:Nat) (kvs:List (P2×Nat))=>[(2,(pP b1 0)),(4,(Value.map none)),(5,(Value.map (some b2))),(12,(Value.slice y.p ms.length y.c)),(13,(vN ms.length)),(14,(vN i))]) (tg λ(i:Nat) (kvs:List (P2×Nat))=>[CE b2 Dr vN kvs,Ag b1 31 (Bk x),AY x.a.p (rowsL Am ps),AY x.b.p (rowsL Af ts),AY x.c.p (rowsL Af ss),AY y.p (zL ms)]) (tg λ(i:Nat) (kvs:List (P2×Nat))=>ms.length-i) 0 ([]:List (P2×Nat)) (⟨Nat.zero_le _,FU.zero ts ms⟩) (sF O) sr (λi kvs hJ=>?_)
 obtain ⟨hi,hci⟩:=hJ
 refine q4 (AH (Ak (c:=(decide (i<ms.length))) O O (C1 (a:=i) (b:=ms.length))) O (AE.nil (q1 ?_)))
 refine AF.cond O (λhc0=>?_) (λhc0=>?_)
 ·replace hc0:=of_decide_eq_true hc0
  refine AF.skip (q1 (AF.block (q4 (AH (v:=(pP (pB y.p) (pO y.p+i*1))) (AQ (j:=i) O O y.ok underlying33 sizeOf3 O Z) O (AH (Ap (v:=(vI (ms.getD i 0))) (i:=5) O O (y.ok.ne Z) Bn (TF (l:=ms) (j:=i) Z)) O ?_)))))
  refine AL O (q3 (sL [2,4,5,12,13,14,7] O) (AS O (AH (DY (c:=(decide ((0:Int)<=(ms.getD i 0)))) O O O) O (AS O ?_))))
  refine AE.mid (FM:=[(2,(pP b1 0)),(4,(Value.map none)),(5,(Value.map (some b2))),(12,(Value.slice y.p ms.length y.c)),(13,(vN ms.length)),(14,(vN i)),(7,(vI (ms.getD i 0))),(18,(vI (ms.getD i 0))),(19,(Value.bool (decide ((0:Int)<=(ms.getD i 0))))),(20,(Value.bool (decide ((0:Int)<=(ms.getD i 0))))),(26,(Value.bool ((decide ((0:Int)<=(ms.getD i 0)))&&(decide ((ms.getD i 0)<((ts.length:Nat):Int))))))]) (LM:=[CE b2 Dr vN kvs,Ag b1 31 (Bk x),AY x.a.p (rowsL Am ps),AY x.b.p (rowsL Af ts),AY x.c.p (rowsL Af ss),AY y.p (zL ms)]) 6 ?_ ?_
  ·rcases Bool.eq_false_or_eq_true (decide ((0:Int)<=(ms.getD i 0))) with hg1|hg1
   ·skip
    refine AE.retell (k:=20) (u:=Value.bool true) O (by rw [hg1]) ?_
    have hg1':=hg1
    replace hg1':=of_decide_eq_true hg1'
    refine AE.step (v:=(vI (ms.getD i 0))) (AB O) (BK O) O (Ac O) (AE.step (v:=(pP b1 1)) (AB O) (AA O underlying31 O sizeOf28 O) O (Ac O) (AE.step (v:=(Value.slice x.b.p ts.length x.b.c)) (AB O) (AI (i:=1) (v:=(Value.slice x.b.p ts.length x.b.c)) O O B4.a O) O (Ac O) (AE.step (v:=(vN ts.length)) (AB O) (AG O underlying28) O (Ac O) (AE.step (v:=(Value.bool (decide ((ms.getD i 0)<((ts.length:Nat):Int))))) (AB O) (Ak (c:=(decide ((ms.getD i 0)<((ts.length:Nat):Int)))) O O O) O (Ac O) (AH (v:=(Value.bool (decide ((ms.getD i 0)<((ts.length:Nat):Int))))) (Aj O O) O ?_)))))
    exact AE.nil (AD.mid (sS O (sS O (sS O (sS O (sS O (sS O (sS O (sS O (sS O (sS (by first|rfl|(rw [hg1];rfl)|rw [hg1]) (sS (by first|rfl|(rw [hg1];rfl)|rw [hg1]) (sN)))))))))))) (List.Sublist.refl _))
   ·skip
    refine AE.retell (k:=20) (u:=Value.bool false) O (by rw [hg1]) ?_
    have hg1':=hg1
    replace hg1':=of_decide_eq_false hg1'
    refine AE.skip (AN O) O (Ac O) (AE.skip (AN O) O (Ac O) (AE.skip (AN O) O (Ac O) (AE.skip (AN O) O (Ac O) (AE.skip (AN O) O (Ac O) (AH (v:=(Value.bool false)) (AV O O) O ?_)))))
    exact AE.nil (AD.mid (sS O (sS O (sS O (sS O (sS O (sS O (sS O (sS O (sS O (sS (by first|rfl|(rw [hg1];rfl)|rw [hg1]) (sS (by first|rfl|(rw [hg1];rfl)|rw [hg1]) (sN)))))))))))) (List.Sublist.refl _))
  refine AE.nil (AD.subF (sL [2,4,5,12,13,14,7,26] O) (AD.then_ ?_))
  refine AF.cond O (λhc1=>?_) (λhc1=>?_)
  ·simp only [Bool.and_eq_true,Bool.or_eq_true,Bool.and_eq_false_iff,Bool.or_eq_false_iff,Bool.not_eq_true',Bool.not_eq_false',decide_eq_true_eq,decide_eq_false_iff_not] at hc1
   obtain ⟨hz0,hz1⟩:0<=ms.getD i 0/\ms.getD i 0<(ts.length:Int):=by omega
   obtain ⟨tn,htn⟩:∃q,q=(ms.getD i 0).toNat:=⟨_,rfl⟩
   have htl2:tn<ts.length:=by omega
   obtain ⟨g1,g2,g3⟩:=Cd (Cf hnb htl2)
   refine AF.retell (k:=7) (u:=(vN tn)) O (by show Value.int _ _=Value.int _ _;congr 1;omega) (Cm [(0,true),(1,true),(2,true),(3,true),(4,true),(5,true),(6,true),(7,true),(8,true),(9,true),(10,true),(11,true),(12,true),(13,false),(14,false)] (sl sr) (Bc O (Au (v:=(pP b1 1)) O (AA O underlying31 O sizeOf28 O) (Be 0 (Value.slice x.b.p ts.length x.b.c) B4 O (Bc O ?_)))))
   refine Au (v:=(pP (pB x.b.p) (pO x.b.p+tn*3))) O (AQ (j:=tn) O O x.b.ok underlying28 sizeOf76 O Z) (Au (v:=(pP (pB x.b.p) (pO x.b.p+(tn*3+1)))) O (AC (j:=1) O O underlying76 sizeOf3 O (by decide) (Nat.add_assoc _ _ _)) (Au O (Ap (v:=(vN ((ts.getD tn ((0,0,0):Nat×Nat×Nat)).2.1))) (i:=2) O O (BI.ne x.b.ok Z) Bn (Dx Ah ((0,0,0):Nat×Nat×Nat) _ _ 1 Z (by decide) O)) (Au (v:=(pP b1 1)) O (AA O underlying31 O sizeOf28 O) (Be 0 (Value.slice x.b.p ts.length x.b.c) B4 O (Bc O ?_)))))
   refine Au (v:=(pP (pB x.b.p) (pO x.b.p+tn*3))) O (AQ (j:=tn) O O x.b.ok underlying28 sizeOf76 O Z) (Au (v:=(pP (pB x.b.p) (pO x.b.p+(tn*3+2)))) O (AC (j:=2) O O underlying76 sizeOf3 O (by decide) (Nat.add_assoc _ _ _)) (Au O (Ap (v:=(vN ((ts.getD tn ((0,0,0):Nat×Nat×Nat)).2.2))) (i:=2) O O (BI.ne x.b.ok Z) Bn (Dx Ah ((0,0,0):Nat×Nat×Nat) _ _ 2 Z (by decide) O)) (AT.imp O (BR call80 (Ip ((ts.getD tn ((0,0,0):Nat×Nat×Nat)).2.1) ((ts.getD tn ((0,0,0):Nat×Nat×Nat)).2.2)) O (AT.back (sl sr) ?_)))))
   refine AT.imp O (AE.mapUpdate HL 0 (kvs:=kvs) (x:=(min ((ts.getD tn ((0,0,0):Nat×Nat×Nat)).2.1) ((ts.getD tn ((0,0,0):Nat×Nat×Nat)).2.2),max ((ts.getD tn ((0,0,0):Nat×Nat×Nat)).2.1) ((ts.getD tn ((0,0,0):Nat×Nat×Nat)).2.2))) (y:=1) (AK O) O O O underlying142 O (hci.ok) (Bl Z Z) (AT.back (sl sr) (AT.nil (AD.subF (sL [2,4,5,12,13,14,7] O) (AD.in_normal ?_)))))
   exact AD.then_ (AF.region (AH (AW (c:=((i+1:Nat):Int)) O O (AX (a:=i) (b:=1) Z)) O (AS O (AE.nil (AD.subF (sL [2,4,5,12,13,14,7] O) (AD.round2 (i+1) (BT kvs (min ((ts.getD tn ((0,0,0):Nat×Nat×Nat)).2.1) ((ts.getD tn ((0,0,0):Nat×Nat×Nat)).2.2),max ((ts.getD tn ((0,0,0):Nat×Nat×Nat)).2.1) ((ts.getD tn ((0,0,0):Nat×Nat×Nat)).2.2)) 1) (⟨Z,(by have h9:=hci.mark hc0 hz0 hz1 (by rw [<-htn];exact Bl Z Z);rw [<-htn] at h9;exact h9)⟩) Z (sF O) sr))))))
  ·simp only [Bool.and_eq_true,Bool.or_eq_true,Bool.and_eq_false_iff,Bool.or_eq_false_iff,Bool.not_eq_true',Bool.not_eq_false',decide_eq_true_eq,decide_eq_false_iff_not] at hc1
   refine AF.skip (AD.in_normal (AD.then_ (AF.region (AH (AW (c:=((i+1:Nat):Int)) O O (AX (a:=i) (b:=1) Z)) O (AS O ?_)))))
   exact AE.nil (AD.subF (sL [2,4,5,12,13,14,7] O) (AD.round2 (i+1) kvs (⟨Z,hci.skip hc0 Z⟩) Z (sF O) sr))
 ·replace hc0:=of_decide_eq_false hc0
  refine AF.exit (AD.then_exit (AD.round2_exit (AD.in_exit (q1 (AF.label ?_)))))
  refine AD.then_ (AF.block ?_)
  refine AF.lp1 (tg λ(kvs:List (P2×Nat))=>FU ts ms ms.length kvs) (tg λ(kvs:List (P2×Nat))=>[(2,(pP b1 0)),(5,(Value.map (some b2)))]) (tg λ(kvs:List (P2×Nat))=>[CE b2 Dr vN kvs,Ag b1 31 (Bk x),AY x.a.p (rowsL Am ps),AY x.b.p (rowsL Af ts),AY x.c.p (rowsL Af ss),AY y.p (zL ms)]) (tg λ(kvs:List (P2×Nat))=>Rh ts kvs) kvs ((by rw [show i=ms.length by omega] at hci;exact hci)) (sF O) sr (λkvs hJ=>?_)
  have hci:=hJ
  refine AF.block (AF.seq (q4 (AH (v:=(pP b1 1)) (AA O underlying31 O sizeOf28 O) O (BJ 1 (Value.slice x.b.p ts.length x.b.c) B4 O (AH (v:=(vN ts.length)) (AG O underlying28) O ?_)))))
  refine AS O (AE.nil (AD.subF (sL [2,5,43,44,45] O) (AD.then_ (AF.block ?_))))
  refine AF.lp1 (tg λ(j:Nat)=>j<=ts.length/\SN ts kvs j) (tg λ(j:Nat)=>[(2,(pP b1 0)),(5,(Value.map (some b2))),(43,(Value.slice x.b.p ts.length x.b.c)),(44,(vN ts.length)),(45,(vN j))]) (tg λ(j:Nat)=>[CE b2 Dr vN kvs,Ag b1 31 (Bk x),AY x.a.p (rowsL Am ps),AY x.b.p (rowsL Af ts),AY x.c.p (rowsL Af ss),AY y.p (zL ms)]) (tg λ(j:Nat)=>ts.length-j) 0 (⟨Nat.zero_le _,λq h=>absurd h (Nat.not_lt_zero _)⟩) (sF O) sr (λj hJ=>?_)
  obtain ⟨hj,hcm⟩:=hJ
  refine q4 (AH (Ak (c:=(decide (j<ts.length))) O O (C1 (a:=j) (b:=ts.length))) O (AE.nil (q1 ?_)))
  refine AF.cond O (λhc2=>?_) (λhc2=>?_)
  ·replace hc2:=of_decide_eq_true hc2
   obtain ⟨T,hT⟩:∃q,q=ts.getD j (0,0,0):=⟨_,rfl⟩
   obtain ⟨g1,g2,g3⟩:=Cd (Cf hnb hc2)
   rw [<-hT] at g1 g2 g3
   have hmT:T∈ts:=by rw [hT,List.getD,List.getElem?_eq_getElem hc2];exact List.getElem_mem hc2
   obtain ⟨vc,hvc⟩:∃q,q=(Ao kvs ((min T.2.1 T.2.2,max T.2.1 T.2.2):P2)).getD 0:=⟨_,rfl⟩
   have hvc1:vc<=1:=by rw [hvc];rcases hci.one ((min T.2.1 T.2.2,max T.2.1 T.2.2):P2) with h9|h9<;>rw [h9]<;>decide
   obtain ⟨va,hva⟩:∃q,q=(Ao kvs ((min T.1 T.2.1,max T.1 T.2.1):P2)).getD 0:=⟨_,rfl⟩
   have hva1:va<=1:=by rw [hva];rcases hci.one ((min T.1 T.2.1,max T.1 T.2.1):P2) with h9|h9<;>rw [h9]<;>decide
   obtain ⟨vb,hvb⟩:∃q,q=(Ao kvs ((min T.2.2 T.1,max T.2.2 T.1):P2)).getD 0:=⟨_,rfl⟩
   have hvb1:vb<=1:=by rw [hvb];rcases hci.one ((min T.2.2 T.1,max T.2.2 T.1):P2) with h9|h9<;>rw [h9]<;>decide
   refine AF.skip (q1 (AF.block (q4 (AH (v:=(pP (pB x.b.p) (pO x.b.p+j*3))) (AQ (j:=j) O O x.b.ok underlying28 sizeOf76 O Z) O (AH (v:=(aG (Af (ts.getD j ((0,0,0):Nat×Nat×Nat))))) (AO (vs:=Af (ts.getD j ((0,0,0):Nat×Nat×Nat))) (i:=3) O O (BI.ne x.b.ok Z) Cr (An Ah _ _ _ Z) (Ah _)) O ?_)))))
   refine AE.retell (k:=48) (u:=(aG (Af T))) O (by rw [hT]) (al J3 O λb3=>Aw O sizeOf76 O (q3 (sL [2,5,43,44,45,9] O) (AH (v:=(pP b3 1)) (AC (j:=1) O O underlying76 sizeOf3 O (by decide) O) O (BJ 0 (vN T.2.1) Bn O ?_))))
   refine AH (v:=(pP b3 2)) (AC (j:=2) O O underlying76 sizeOf3 O (by decide) O) O (BJ 0 (vN T.2.2) Bn O (BR call80 (Ip T.2.1 T.2.2) O (al XF O λb4=>Aw O sizeOf144 O (q6 (sL [2,5,43,44,45,9,10] O) ?_))))
   by_cases hbz:vc=0
   ·skip
    refine Cm [(0,true),(1,true),(2,true),(3,true),(4,true),(5,true),(6,true),(7,true),(8,true),(9,true),(12,true),(13,true),(14,true),(15,true),(16,true),(10,false),(11,true),(17,false),(18,true),(19,true),(20,true),(21,true)] sr (Bc O (En 0 Ul O (Au (v:=(vN vc)) O ((by rw [hvc];exact Cb HL 2 (eV:=vN) (kvs:=kvs) (x:=(min T.2.1 T.2.2,max T.2.1 T.2.2)) (z0:=0) (co:=false) O O underlying142 zeroValue3 O (hci.ok) (Bl Z Z))) (Au O (BY (c:=true) O O (decide_eq_true Z)) (Bc O ?_)))))
    refine AT.pas (v:=(Value.map (some b2))) O (AB O) (BK O) O O (AT.pas (v:=(pP b3 0)) O (AB O) (AC (j:=0) O O underlying76 sizeOf3 O (by decide) O) O O (AT.pas (v:=(vN T.1)) O (AB O) (AI (i:=1) (v:=(vN T.1)) O O Bn.a O) O O (AT.pas (v:=(pP b3 1)) O (AB O) (AC (j:=1) O O underlying76 sizeOf3 O (by decide) O) O O (AT.pas (v:=(vN T.2.1)) O (AB O) (AI (i:=1) (v:=(vN T.2.1)) O O Bn.a O) O O (AT.pas (v:=(Value.map (some b2))) O (AB O) (BK O) O O ?_)))))
    refine AT.pas (v:=(pP b3 2)) O (AB O) (AC (j:=2) O O underlying76 sizeOf3 O (by decide) O) O O (AT.pas (v:=(vN T.2.2)) O (AB O) (AI (i:=1) (v:=(vN T.2.2)) O O Bn.a O) O O (AT.pas (v:=(pP b3 0)) O (AB O) (AC (j:=0) O O underlying76 sizeOf3 O (by decide) O) O O (AT.pas (v:=(vN T.1)) O (AB O) (AI (i:=1) (v:=(vN T.1)) O O Bn.a O) O O (AT.imp O (AE.call (v:=(aG (Ay (min T.1 T.2.1,max T.1 T.2.1)))) (AB O) (A_ (args:=[(vN T.1),(vN T.2.1)]) O O call80) (λw hw=>Ip T.1 T.2.1 w) O (Ac O) ?_)))))
    refine AT.back sr (AT.pas (v:=(vN va)) O (AB O) ((by rw [hva];exact Cb HL 2 (eV:=vN) (kvs:=kvs) (x:=(min T.1 T.2.1,max T.1 T.2.1)) (z0:=0) (co:=false) O O underlying142 zeroValue3 O (hci.ok) (Bl Z Z))) O O (AT.imp O (AE.call (v:=(aG (Ay (min T.2.2 T.1,max T.2.2 T.1)))) (AB O) (A_ (args:=[(vN T.2.2),(vN T.1)]) O O call80) (λw hw=>Ip T.2.2 T.1 w) O (Ac O) (AT.back sr (AT.pas (v:=(vN vb)) O (AB O) ((by rw [hvb];exact Cb HL 2 (eV:=vN) (kvs:=kvs) (x:=(min T.2.2 T.1,max T.2.2 T.1)) (z0:=0) (co:=false) O O underlying142 zeroValue3 O (hci.ok) (Bl Z Z))) O O ?_)))))
    refine AT.pas (v:=(vN (va+vb))) O (AB O) (AW (c:=((va+vb:Nat):Int)) O O (AX (a:=va) (b:=vb) Z)) O O (AT.pas (v:=(Value.bool (decide (0<(va+vb))))) O (AB O) (CW (c:=(decide (0<(va+vb)))) O O (C1 (a:=0) (b:=va+vb))) O O (Au (v:=(Value.bool (decide (0<(va+vb))))) O (Aj O O) (AT.nil (AD.subF (sL [2,5,43,44,45,9,10,75] O) (AD.then_ ?_)))))
    refine AF.cond O (λhc3=>?_) (λhc3=>?_)
    ·replace hc3:=of_decide_eq_true hc3
     have hcl:JE ts (OF ts ms) (B7 T):=by rcases Nat.lt_or_ge 0 va with h9|h9;exact .up hmT (hci.sub _ (hci.is1 (k:=B_ T.1 T.2.1) (by show 0<(Ao kvs ((min T.1 T.2.1,max T.1 T.2.1):P2)).getD 0;rw [<-hva];exact h9))) (.inl rfl);exact .up hmT (hci.sub _ (hci.is1 (k:=B_ T.2.2 T.1) (by show 0<(Ao kvs ((min T.2.2 T.1,max T.2.2 T.1):P2)).getD 0;rw [<-hvb];omega))) (.inr rfl)
     have hop:Rh ts (BT kvs (B7 T) 1)<Rh ts kvs:=YC hmT (hci.no (by show (Ao kvs ((min T.2.1 T.2.2,max T.2.1 T.2.2):P2)).getD 0=0;rw [<-hvc];exact hbz))
     refine q4 (AS O (BA 0 Ul O (AE.mapUpdate HL 2 (kvs:=kvs) (x:=(min T.2.1 T.2.2,max T.2.1 T.2.2)) (y:=1) (AK O) O O O underlying142 O (hci.ok) (Bl Z Z) (AE.nil (AD.subF (sL [2,5,43,44,45,9,10] O) ?_)))))
     refine AD.then_ (AF.exit (AD.in_exit_ne O (AD.then_exit (AD.round1_exit (AD.in_exit_ne O ?_)))))
     exact AD.then_exit (AD.in_exit (AD.round1 (BT kvs (min T.2.1 T.2.2,max T.2.1 T.2.2) 1) ((hci.put (Bl Z Z) hcl)) (hop) (sF O) (sl (sl sr))))
    ·replace hc3:=of_decide_eq_false hc3
     refine AF.skip (AD.in_normal (AD.then_ (AF.region (AH (AW (c:=((j+1:Nat):Int)) O O (AX (a:=j) (b:=1) Z)) O (AS O ?_)))))
     exact AE.nil (AD.subF (sL [2,5,43,44,45,9,10] O) (AD.round1 (j+1) (⟨Z,MI hcm (by rw [<-hT];intro hn;first|exact absurd (by rw [hvc];show (Ao kvs (B7 T)).getD 0=0;rw [hn];rfl) hbz|exact ⟨hci.no (k:=B_ T.1 T.2.1) (by show (Ao kvs ((min T.1 T.2.1,max T.1 T.2.1):P2)).getD 0=0;rw [<-hva];omega),hci.no (k:=B_ T.2.2 T.1) (by show (Ao kvs ((min T.2.2 T.1,max T.2.2 T.1):P2)).getD 0=0;rw [<-hvb];omega)⟩)⟩) Z (sF O) (sl (sl sr))))
   ·skip
    refine Cm [(0,true),(1,true),(2,true),(3,true),(4,true),(5,true),(6,true),(7,true),(8,true),(9,true),(12,true),(13,true),(14,true),(15,true),(16,true),(10,false),(11,true),(17,false),(18,true),(19,true),(20,true),(21,true)] sr (Bc O (En 0 Ul O (Au (v:=(vN vc)) O ((by rw [hvc];exact Cb HL 2 (eV:=vN) (kvs:=kvs) (x:=(min T.2.1 T.2.2,max T.2.1 T.2.2)) (z0:=0) (co:=false) O O underlying142 zeroValue3 O (hci.ok) (Bl Z Z))) (Au O (BY (c:=false) O O (decide_eq_false Z)) (Bc O ?_)))))
    refine AT.skp O (AN O) O O (AT.skp O (AN O) O O (AT.skp O (AN O) O O (AT.skp O (AN O) O O (AT.skp O (AN O) O O (AT.skp O (AN O) O O ?_)))))
    refine AT.skp O (AN O) O O (AT.skp O (AN O) O O (AT.skp O (AN O) O O (AT.skp O (AN O) O O (AT.imp O (AE.skip (AN O) O (Ac O) ?_)))))
    refine AT.back sr (AT.skp O (AN O) O O (AT.imp O (AE.skip (AN O) O (Ac O) (AT.back sr (AT.skp O (AN O) O O ?_)))))
    refine AT.skp O (AN O) O O (AT.skp O (AN O) O O (Au (v:=(Value.bool false)) O (AV O O) (AT.nil (AD.subF (sL [2,5,43,44,45,9,10,75] O) (AD.then_ ?_)))))
    refine AF.cond_false O (AF.skip (AD.in_normal (AD.then_ (AF.region (AH (AW (c:=((j+1:Nat):Int)) O O (AX (a:=j) (b:=1) Z)) O ?_)))))
    exact AS O (AE.nil (AD.subF (sL [2,5,43,44,45,9,10] O) (AD.round1 (j+1) (⟨Z,MI hcm (by rw [<-hT];intro hn;first|exact absurd (by rw [hvc];show (Ao kvs (B7 T)).getD 0=0;rw [hn];rfl) hbz|exact ⟨hci.no (k:=B_ T.1 T.2.1) (by show (Ao kvs ((min T.1 T.2.1,max T.1 T.2.1):P2)).getD 0=0;rw [<-hva];omega),hci.no (k:=B_ T.2.2 T.1) (by show (Ao kvs ((min T.2.2 T.1,max T.2.2 T.1):P2)).getD 0=0;rw [<-hvb];omega)⟩)⟩) Z (sF O) (sl (sl sr)))))
  ·replace hc2:=of_decide_eq_false hc2
   refine AF.exit (AD.then_exit (AD.round1_exit (AD.in_exit (q2 (AS O ?_)))))
   refine AL O (AE.nil (AD.subF (sL [2,5,43,44,45,4] O) (AD.then_ (AF.ret (AD.in_ret ?_)))))
   exact AD.round1_ret (AD.in_ret (AD.scope_ret (AR O (Ai (v:=(Value.map (some b2))) O) (λw hw=>(ZB hw 0 O hci (by rw [show j=ts.length by omega] at hcm;exact hcm) O)))))
end
section
set_option maxRecDepth 100000
theorem JH (x0 x1:Nat):Instr.fill (λi=>some (i*1,1)) (Ay ((0,0):P2)).toArray [(0,vN x0),(1,vN x1)]=some (Ay (x0,x1)).toArray:=by kernel_rfl
theorem JT (x0:E4):Instr.fill (λi=>some (i*4,4)) ((Array.range (1*4)).map ((Value.agg (B6 (⟨0,0,0,0⟩:E4)).toArray).cells[·%(Value.agg (B6 (⟨0,0,0,0⟩:E4)).toArray).cells.size]!)) [(0,.agg (B6 x0).toArray)]=some (B6 x0).toArray:=by kernel_rfl
set_option maxHeartbeats 1000000 in
theorem RA {ps:List Pt} {ts ss:List T3} (x:MX ps ts ss) {ms:List Int} (h:HC ts ms) (hnb:CD ps.length ts=true) (hp:ps.length<=1000000) (htl:ts.length<=1000000) (w:World) {S:Nat->Prop} (hx:Ro S w x) (hh:Ro S w h):Calls prog 77 #[(aG (Bk x)),(Value.map (some h.b))] w (BV (DX ts ms) S w):=by
 have hel0:=Tc ts
 have lx:=DU (W:=w) hx
 have lh:=DU (W:=w) hh
 refine A6 (args:=[(aG (Bk x)),(Value.map (some h.b))]) (L:=[AY x.a.p (rowsL Am ps),AY x.b.p (rowsL Af ts),AY x.c.p (rowsL Af ss),M7 h.b Dr vN h.kvs]) func77 O O (Ac O) (DV hx (DV hh BN)) (AF.subF (sL [0,1] O) (q4 (Bg (cs:=Bk x) O λb1=>AL O (q3 (sL [1,2,4] O) ?_))))
 refine AL O (AE.nilRow 110 4 (AE.nil (q1 (q4 (BA 1 C_ O ?_)))))
 refine cX (S:=S) (cs:=rowsL B6 (Br ts)) (k:=(Br ts).length) (args:=[(aG (Bk x))]) call13 (λw hw=>Us x Z Z hnb w (Cq hw 2 O lx)) O O O λo lo=>AH (v:=(vN ((Br ts).length))) (AG O underlying37) O (AS O (AE.nil (AD.subF (sL [1,4,5,9,10,11] O) (AD.then_ ?_))))
 refine AF.block ?_
 refine AF.lp4 (tg λ(i:Nat) (p1:Option Addr) (c1:Nat) (out:List E4)=>i<=(Br ts).length/\OwnOk p1 out.length c1/\out=J8 ts h.kvs i) (tg λ(i:Nat) (p1:Option Addr) (c1:Nat) (out:List E4)=>[(1,(Value.map (some h.b))),(4,(Value.slice none 0 0)),(9,(Value.slice o.p ((Br ts).length) o.c)),(10,(vN ((Br ts).length))),(11,(vN i)),(5,(Value.slice p1 out.length c1))]) (tg λ(i:Nat) (p1:Option Addr) (c1:Nat) (out:List E4)=>[AY o.p (rowsL B6 (Br ts)),rowW p1 110 4 out.length c1 (rowsL B6 out),Ag b1 31 (Bk x),AY x.a.p (rowsL Am ps),AY x.b.p (rowsL Af ts),AY x.c.p (rowsL Af ss),M7 h.b Dr vN h.kvs]) (tg λ(i:Nat) (p1:Option Addr) (c1:Nat) (out:List E4)=>(Br ts).length-i) 0 none 0 ([]:List E4) (⟨Nat.zero_le _,OwnOk.none,rfl⟩) (sF O) sr (λi p1 c1 out hJ=>?_)
 obtain ⟨hi,ho,hou⟩:=hJ
 have hol:=UI (ts:=ts) (kvs:=h.kvs) i
 rw [<-hou] at hol
 refine q4 (AH (Ak (c:=(decide (i<((Br ts).length)))) O O (C1 (a:=i) (b:=(Br ts).length))) O (AE.nil (q1 ?_)))
 refine AF.cond O (λhc0=>?_) (λhc0=>?_)
 ·replace hc0:=of_decide_eq_true hc0
  obtain ⟨ed,hed⟩:∃q,q=(Br ts).getD i (⟨0,0,0,0⟩:E4):=⟨_,rfl⟩
  obtain ⟨hea,heb⟩:=Hx hnb Z ed (by rw [hed,List.getD,List.getElem?_eq_getElem hc0];exact List.getElem_mem hc0)
  refine AF.skip (q1 (AF.block (q4 (AH (v:=(pP (pB o.p) (pO o.p+i*4))) (AQ (j:=i) O O o.ok underlying37 sizeOf110 O Z) O (AH (v:=(aG (B6 ((Br ts).getD i (⟨0,0,0,0⟩:E4))))) (AO (vs:=B6 ((Br ts).getD i (⟨0,0,0,0⟩:E4))) (i:=0) O O (BI.ne o.ok Z) II (An Ck _ _ _ Z) (Ck _)) O ?_)))))
  refine AE.retell (k:=14) (u:=(aG (B6 ed))) O (by rw [hed]) (al JD O λb2=>Aw O sizeOf110 O (q3 (sL [1,4,9,10,11,5,7] O) (AS O (AH (v:=(pP b2 0)) (AA O underlying110 O sizeOf3 O) O ?_))))
  refine BJ 0 (vN ed.a) Bn O (AH (v:=(pP b2 1)) (AA O underlying110 O sizeOf3 O) O (BJ 0 (vN ed.b) Bn O (AH (v:=(aG (Ay (ed.a,ed.b)))) (Al (zs:=Ay ((0,0):P2)) (vs:=Ay (ed.a,ed.b)) (pv:=[(0,(vN ed.a)),(1,(vN ed.b))]) zeroValue144 underlying144 sizeOf3 O (JH ed.a ed.b)) O (AH (v:=(vN ((Ao h.kvs (ed.a,ed.b)).getD 0))) (Ph HL 7 (eV:=vN) (kvs:=h.kvs) (x:=(ed.a,ed.b)) (z0:=0) (co:=false) O O underlying142 zeroValue3 O (h.ok) (⟨by show ed.a<_;omega,by show ed.b<_;omega⟩)) O (AH (CW (c:=(decide (0<((Ao h.kvs (ed.a,ed.b)).getD 0)))) O O (C1 (a:=0) (b:=(Ao h.kvs (ed.a,ed.b)).getD 0))) O ?_)))))
  refine AE.nil (AD.subF (sL [1,4,9,10,11,5,7,22] O) (AD.then_ ?_))
  refine AF.cond O (λhc1=>?_) (λhc1=>?_)
  ·replace hc1:=of_decide_eq_true hc1
   refine AF.region (AS O (BA 0 II O (AE.openV (V:=λb3=>(Value.slice (some ⟨b3,0,none⟩) 1 1)) (T:=110) (cs:=B6 ed) (AK O) (Ar (z:=.agg (B6 (⟨0,0,0,0⟩:E4)).toArray) (cs:=B6 ed) (pv:=[(0,(aG (B6 ed)))]) underlying37 sizeOf110 zeroValue110 (by decide) (by decide) O (JT ed)) O (Ac O) λb3=>AE.appendAt 3 (j:=0) (cs2:=rowsL B6 (out++[ed])) XV O ho (Aa Ck _) O O O O O (by decide) (Ga Z) Z (by rw [BO];rfl) O λp_1 c_1 ho_1 hne_1=>AL O ?_)))
   refine AE.nil (AD.subF (sL [1,4,9,10,11,5,7] O) (AD.in_normal (AD.then_ (AF.region (AH (AW (c:=((i+1:Nat):Int)) O O (AX (a:=i) (b:=1) Z)) O ?_)))))
   refine AS O (AE.nil (AD.subF (sL [1,4,9,10,11,5,7] O) ?_))
   rw [show out.length+1=(out++[ed]).length by simp]
   exact AD.round4 (i+1) p_1 c_1 (out++[ed]) (⟨Z,(by simpa using ho_1),by rw [hou,hed];exact (UF hc0 (by rw [<-hed];exact h.gt.1 hc1)).symm⟩) Z (sF O) (sl (sl sr))
  ·replace hc1:=of_decide_eq_false hc1
   refine AF.skip (AD.in_normal (AD.then_ (AF.region (AH (AW (c:=((i+1:Nat):Int)) O O (AX (a:=i) (b:=1) Z)) O (AS O ?_)))))
   exact AE.nil (AD.subF (sL [1,4,9,10,11,5,7] O) (AD.round4 (i+1) p1 c1 out (⟨Z,ho,by rw [hou];exact (W3 hc0 (by rw [<-hed];exact λk=>hc1 (h.gt.2 k))).symm⟩) Z (sF O) (sl sr)))
 ·replace hc0:=of_decide_eq_false hc0
  refine AF.exit (AD.then_exit (AD.round4_exit (AD.in_exit (q2 (AS O ?_)))))
  exact BR call128 (Nr p1 out.length c1 ho.row.le) O (AL O (AE.nil (AD.subF (sL [1,4,9,10,11,5] O) (AD.then_ (AF.ret (AR O (Ai (v:=(Value.slice p1 out.length out.length)) O) (λw hw=>(Yk h hw 1 (by rw [show i=(Br ts).length by omega] at hou;rw [<-hou];rfl) ho (by rw [hou,show i=(Br ts).length by omega]) O))))))))
end
end Go.Proofs.YtfbomiejpbchdaaGreat
