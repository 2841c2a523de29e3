import Derived.Test.YtpgncndhhhllfaaGreatDoorPart03
import Derived.Test.YtpgncndhhhllfaaGreatDoorPart12
import Derived.Test.YtpgncndhhhllfaaGreatDoorPart21
import Derived.Test.YtpgncndhhhllfaaGreatDoorPart22
namespace Go.Proofs.YtpgncndhhhllfaaGreatDoor
open Go Go.RowKit Go.Proofs.Tryz
set_option linter.unusedVariables false
set_option linter.unusedSimpArgs false
section
set_option maxRecDepth 100000
theorem bN:ElemT prog 24 55 3 24:=⟨underlying24,DA (by kernel_rfl)⟩
theorem ag:ElemT prog 28 51 10 112:=⟨underlying28,DA (by kernel_rfl)⟩
theorem K7 (x0:Pt):Instr.fill (λi=>some (i*10,10)) ((Array.range (1*10)).map ((Value.agg (Am (⟨0,0⟩:Pt)).toArray).cells[·%(Value.agg (Am (⟨0,0⟩:Pt)).toArray).cells.size]!)) [(0,.agg (Am x0).toArray)]=some (Am x0).toArray:=by kernel_rfl
theorem LY (x0:Nat×Nat×Nat):Instr.fill (λi=>some (i*3,3)) ((Array.range (1*3)).map ((Value.agg (Ai ((0,0,0):Nat×Nat×Nat)).toArray).cells[·%(Value.agg (Ai ((0,0,0):Nat×Nat×Nat)).toArray).cells.size]!)) [(0,.agg (Ai x0).toArray)]=some (Ai x0).toArray:=by kernel_rfl
set_option maxHeartbeats 2000000 in
theorem Sl (m:MQ) (w:World) {S:Nat->Prop} (hm:Ro S w m):Calls prog 19 #[(aG (DZ m))] w (Aw (aa m) (λ_=>False) w):=by
 have hd:=m.hden
 have hdm:BT m<256:=by unfold BT;omega
 have lm:=Cl (W:=w) hm
 refine Ah (args:=[(aG (DZ m))]) (L:=[AQ m.p (CF m.cs)]) func19 O O (AT O) (Ed hm Ax) (AF.subF (sL [0] O) (q4 (BU (cs:=DZ m) O λb1=>al Ti O λb2=>q3 (sL [1,2] O) ?_)))
 refine BD 1 K4 O (AE.callR (S:=λ_=>False) (α:=ZB m) (args:=[(aG (DZ m))]) call67 (λw hw=>(LF m w (inS hw 2 O lm)).mono λe w1 h=>h.weak λb k=>k.elim) O O O λgf lgf=>al RU O λb3=>A8 O sizeOf137 O (q3 (sL [1,2,3] O) (al Ti O λb4=>?_)))
 refine AE.nilRow 51 10 (AE.nilRow 55 3 (AE.nil (q2 (AH (v:=(pP b1 7)) (AA O underlying66 O sizeOf5 O) O (BA 9 (vK .u8 m.den) Tc O ?_)))))
 refine AH (Bs (c:=((m.den%6:Nat):Int)) O O Z (Gh (a:=m.den) (b:=6))) O (AH (AW (c:=((BT m:Nat):Int)) O O (RI (a:=1) (b:=m.den%6) Z)) O (AH (Ay (c:=((BT m:Nat):Int)) O underlying5 underlying97 (CQ Z)) O (asg' O (q6 (sL [1,2,3,4,5] O) (q4 ?_)))))
 refine asg' O (AE.nil (AC.then_ (AF.block ?_)))
 refine AF.lp4 (tg λ(i:Nat) (p1:Option Addr) (c1:Nat) (ps:List Pt)=>i<=gf.x.pl.length/\OwnOk p1 ps.length c1/\ps=PU m (Ch m gf.x.pl) i) (tg λ(i:Nat) (p1:Option Addr) (c1:Nat) (ps:List Pt)=>[(2,(pP b2 0)),(3,(pP b3 0)),(4,(pP b4 0)),(5,(vK .u32 (BT m))),(6,(vN i))]) (tg λ(i:Nat) (p1:Option Addr) (c1:Nat) (ps:List Pt)=>[rowW none 55 3 0 0 (rowsL Ai ([])),rowW p1 51 10 ps.length c1 (rowsL Am ps),Ag b4 30 ([(Value.slice p1 ps.length c1),(Value.slice none 0 0),(Value.slice none 0 0)]),Ag b3 137 ([(Value.slice gf.x.a.p gf.x.pl.length gf.x.a.c),(Value.slice gf.x.b.p gf.x.ts.length gf.x.b.c),(Value.slice gf.x.c.p gf.x.ss.length gf.x.c.c)]),AQ gf.x.a.p (rowsL CG (Ch m gf.x.pl)),AQ gf.x.b.p (rowsL Ai gf.x.ts),AQ gf.x.c.p (rowsL Ai gf.x.ss),Lm gf,Ag b2 30 ([(Value.slice none 0 0),(Value.slice none 0 0),(Value.slice none 0 0)]),Ag b1 66 (DZ m),AQ m.p (CF m.cs)]) (tg λ(i:Nat) (p1:Option Addr) (c1:Nat) (ps:List Pt)=>gf.x.pl.length-i) 0 none 0 ([]:List Pt) (⟨Nat.zero_le _,OwnOk.none,rfl⟩) (sF O) sr (λi p1 c1 ps hJ=>?_)
 obtain ⟨hi,h1,hps⟩:=hJ
 have hzl:(Ch m gf.x.pl).length=gf.x.pl.length:=by simp [Ch]
 have hll:=gf.x.inv.pll
 have hcl:=GI m
 have hpl:ps.length<=108:=by rw [hps,F_ (by rw [hzl];omega)];omega
 refine AF.seq (q4 (AM O (AH (v:=(pP b3 0)) (AA O underlying137 O sizeOf135 O) O (BA 3 (Value.slice gf.x.a.p gf.x.pl.length gf.x.a.c) II O (AH (v:=(vN gf.x.pl.length)) (AG O underlying135) O ?_)))))
 refine AH (Ae (c:=(decide (i<gf.x.pl.length))) O O (CL (a:=i) (b:=gf.x.pl.length))) O (AE.nil (AC.subF (sL [2,3,4,5,6,20] O) (AC.then_ ?_)))
 refine AF.cond O (λhc0=>?_) (λhc0=>?_)
 ·replace hc0:=of_decide_eq_true hc0
  refine AF.skip (q1 (AF.block (AF.seq (Cd [(0,true),(1,true),(2,true),(3,true),(4,true),(5,true),(6,true),(7,true),(8,true),(9,true),(10,true),(11,true),(12,true),(13,true),(14,true),(15,true),(16,true),(17,false),(18,false)] sr (Aq (v:=(pP b3 0)) O (AA O underlying137 O sizeOf135 O) ?_)))))
  refine Bd 3 (Value.slice gf.x.a.p gf.x.pl.length gf.x.a.c) II O (Bb O (Aq (v:=(pP (pB gf.x.a.p) (pO gf.x.a.p+i*2))) O (AN (j:=i) O O gf.x.a.ok underlying135 sizeOf139 O Z) (Aq (v:=(pP (pB gf.x.a.p) (pO gf.x.a.p+(i*2+0)))) O (AD (j:=0) O O underlying139 sizeOf2 O (by decide) (Nat.add_assoc _ _ _)) (Aq O (Ad (v:=(vI (((Ch m gf.x.pl).getD i ((0,0):Int×Int)).1))) (i:=4) O O (BF.ne gf.x.a.ok Z) Lh (Bc EX ((0,0):Int×Int) _ _ 0 Z (by decide) O)) (Bb O ?_)))))
  refine Aq (v:=(aG ([(vI (((Ch m gf.x.pl).getD i ((0,0):Int×Int)).1)),(vK .u32 (BT m))]))) O (AV (zs:=[(vI 0),(Value.int .u32 (0:Int))]) (vs:=[(vI (((Ch m gf.x.pl).getD i ((0,0):Int×Int)).1)),(vK .u32 (BT m))]) (pv:=[(0,(vI (((Ch m gf.x.pl).getD i ((0,0):Int×Int)).1))),(1,(vK .u32 (BT m)))]) (places:=[(0,1),(1,1)]) zeroValue99 underlying99 (λw=>by simp [sizeOf2,sizeOf97]) O O) (Aq (v:=(pP b3 0)) O (AA O underlying137 O sizeOf135 O) (Bd 3 (Value.slice gf.x.a.p gf.x.pl.length gf.x.a.c) II O (Bb O (Aq (v:=(pP (pB gf.x.a.p) (pO gf.x.a.p+i*2))) O (AN (j:=i) O O gf.x.a.ok underlying135 sizeOf139 O Z) (Aq (v:=(pP (pB gf.x.a.p) (pO gf.x.a.p+(i*2+1)))) O (AD (j:=1) O O underlying139 sizeOf2 O (by decide) (Nat.add_assoc _ _ _)) ?_)))))
  refine Aq O (Ad (v:=(vI (((Ch m gf.x.pl).getD i ((0,0):Int×Int)).2))) (i:=4) O O (BF.ne gf.x.a.ok Z) Lh (Bc EX ((0,0):Int×Int) _ _ 1 Z (by decide) O)) (Bb O (Aq (v:=(aG ([(vI (((Ch m gf.x.pl).getD i ((0,0):Int×Int)).2)),(vK .u32 (BT m))]))) O (AV (zs:=[(vI 0),(Value.int .u32 (0:Int))]) (vs:=[(vI (((Ch m gf.x.pl).getD i ((0,0):Int×Int)).2)),(vK .u32 (BT m))]) (pv:=[(0,(vI (((Ch m gf.x.pl).getD i ((0,0):Int×Int)).2))),(1,(vK .u32 (BT m)))]) (places:=[(0,1),(1,1)]) zeroValue99 underlying99 (λw=>by simp [sizeOf2,sizeOf97]) O O) (Aq (v:=(aG ([(vI (((Ch m gf.x.pl).getD i ((0,0):Int×Int)).1)),(vK .u32 (BT m)),(vI (((Ch m gf.x.pl).getD i ((0,0):Int×Int)).2)),(vK .u32 (BT m))]))) O (AV (zs:=[(vI 0),(Value.int .u32 (0:Int)),(vI 0),(Value.int .u32 (0:Int))]) (vs:=[(vI (((Ch m gf.x.pl).getD i ((0,0):Int×Int)).1)),(vK .u32 (BT m)),(vI (((Ch m gf.x.pl).getD i ((0,0):Int×Int)).2)),(vK .u32 (BT m))]) (pv:=[(0,(aG ([(vI (((Ch m gf.x.pl).getD i ((0,0):Int×Int)).1)),(vK .u32 (BT m))]))),(1,(aG ([(vI (((Ch m gf.x.pl).getD i ((0,0):Int×Int)).2)),(vK .u32 (BT m))])))]) (places:=[(0,2),(2,2)]) zeroValue101 underlying101 (λw=>by simp [sizeOf99]) O O) (OkE.imp O (al Y6 O λb5=>?_)))))
  refine OkE.back (sl sr) (OkE.imp O (A8 O sizeOf101 O (OkE.back (sl sr) (OkE.nil (AC.subF (sL [2,3,4,5,6,7] O) ?_)))))
  refine AC.then_ (rC [(0,true),(1,true),(2,true),(3,false),(4,false),(5,false),(6,true)] 7 [] (sk (sk (sl sr))) (sk (sk (sl sr))) (by kernel_rfl) (λ_ _ d _ _ h=>by cases d<;>exact h) (vE (v:=(pP b4 0)) O (AA O underlying30 O sizeOf28 O) O (vE O (AK (i:=2) (v:=(Value.slice p1 ps.length c1)) O O EB.a O) O (vE (v:=(aG ([(vI (((Ch m gf.x.pl).getD i ((0,0):Int×Int)).1)),(vK .u32 (BT m)),(vI (((Ch m gf.x.pl).getD i ((0,0):Int×Int)).2)),(vK .u32 (BT m))]))) O (Aj (i:=0) (vs:=[(vI (((Ch m gf.x.pl).getD i ((0,0):Int×Int)).1)),(vK .u32 (BT m)),(vI (((Ch m gf.x.pl).getD i ((0,0):Int×Int)).2)),(vK .u32 (BT m))]) O O Rt.a Rt.s O O) O (CK.imp O ?_)))))
  refine ck' call39 (ZY (QA m ((Ch m gf.x.pl).getD i (0,0))) (Rs gf.x.inv.small Z)) O (CK.back (sk (sk (sl sr))) (CK.imp O (AE.openV (V:=λb6=>(Value.slice (some ⟨b6,0,none⟩) 1 1)) (T:=51) (cs:=Am (CC (QA m ((Ch m gf.x.pl).getD i (0,0))))) (AS O) (Av (z:=.agg (Am (⟨0,0⟩:Pt)).toArray) (cs:=Am (CC (QA m ((Ch m gf.x.pl).getD i (0,0))))) (pv:=[(0,(aG (Am (CC (QA m ((Ch m gf.x.pl).getD i (0,0)))))))]) underlying28 sizeOf51 zeroValue51 (by decide) (by decide) O (K7 (CC (QA m ((Ch m gf.x.pl).getD i (0,0)))))) O (AT O) λb6=>CK.back (sl (sk (sk (sl sr)))) (CK.imp O ?_))))
  refine AE.appendAt 3 (j:=0) (cs2:=rowsL Am (ps++[CC (QA m ((Ch m gf.x.pl).getD i (0,0)))])) ag O h1 (Ak BM _) O O O O O (by decide) (Hx Z) Z (by rw [BP];rfl) O λp_1 c_1 ho_1 hne_1=>CK.back (sl (sk (sk (sl sr)))) (vE (v:=(pP b4 0)) O (AA O underlying30 O sizeOf28 O) O (CK.cut O (Eg 4 (off:=0) (vs:=[(Value.slice p_1 (ps.length+1) c_1)]) (cs':=[(Value.slice p_1 (ps.length+1) c_1),(Value.slice none 0 0),(Value.slice none 0 0)]) (AS O) O sizeOf28 O (OkE.back (sl (sk (sk (sl (sl sr))))) ?_))))
  refine OkE.nil (AC.subF (sL [2,3,4,5,6,7] O) (AC.in_normal (AC.then_ (AF.region (AM O ?_)))))
  refine AH (AW (c:=((i+1:Nat):Int)) O O (AU (a:=i) (b:=1) Z)) O (asg' O (AE.nil (AC.subF (sL [2,3,4,5,6,7] O) ?_)))
  rw [show ps.length+1=(ps++[CC (QA m ((Ch m gf.x.pl).getD i (0,0)))]).length by simp]
  exact AC.round4 (i+1) p_1 c_1 (ps++[CC (QA m ((Ch m gf.x.pl).getD i (0,0)))]) (⟨Z,(by simpa using ho_1),by rw [hps,Ox (by rw [hzl];omega)]⟩) Z (sF O) (sl (sl sr))
 ·replace hc0:=of_decide_eq_false hc0
  have hps9:ps.length=gf.x.pl.length:=by rw [hps,show i=gf.x.pl.length by omega,F_ (by rw [hzl];omega)]
  have hfin:ps=PU m (Ch m gf.x.pl) gf.x.pl.length:=by rw [hps,show i=gf.x.pl.length by omega]
  refine AF.exit (AC.then_exit (AC.round4_exit (AC.in_exit (q2 (AH (v:=(pP b3 1)) (AA O underlying137 O sizeOf23 O) O ?_)))))
  refine BA 3 (Value.slice gf.x.b.p gf.x.ts.length gf.x.b.c) CP O (AH (v:=(pP b4 1)) (AA O underlying30 O sizeOf23 O) O (Eg 2 (off:=1) (vs:=[(Value.slice gf.x.b.p gf.x.ts.length gf.x.b.c)]) (cs':=[(Value.slice p1 ps.length c1),(Value.slice gf.x.b.p gf.x.ts.length gf.x.b.c),(Value.slice none 0 0)]) (AS O) O sizeOf23 O (q6 (sL [2,3,4,5,6] O) (q4 (asg' O ?_)))))
  refine AE.nil (AC.then_ (AF.block ?_))
  refine AF.lp4 (tg λ(j:Nat) (p2:Option Addr) (c2:Nat) (ss:List (Nat×Nat×Nat))=>j<=gf.x.ss.length/\OwnOk p2 ss.length c2/\ss.length=j/\ss=gf.x.ss.take j) (tg λ(j:Nat) (p2:Option Addr) (c2:Nat) (ss:List (Nat×Nat×Nat))=>[(2,(pP b2 0)),(3,(pP b3 0)),(4,(pP b4 0)),(8,(vN j))]) (tg λ(j:Nat) (p2:Option Addr) (c2:Nat) (ss:List (Nat×Nat×Nat))=>[rowW p2 55 3 ss.length c2 (rowsL Ai ss),rowW p1 51 10 ps.length c1 (rowsL Am ps),Ag b4 30 ([(Value.slice p1 ps.length c1),(Value.slice gf.x.b.p gf.x.ts.length gf.x.b.c),(Value.slice p2 ss.length c2)]),Ag b3 137 ([(Value.slice gf.x.a.p gf.x.pl.length gf.x.a.c),(Value.slice gf.x.b.p gf.x.ts.length gf.x.b.c),(Value.slice gf.x.c.p gf.x.ss.length gf.x.c.c)]),AQ gf.x.a.p (rowsL CG (Ch m gf.x.pl)),AQ gf.x.b.p (rowsL Ai gf.x.ts),AQ gf.x.c.p (rowsL Ai gf.x.ss),Lm gf,Ag b2 30 ([(Value.slice none 0 0),(Value.slice none 0 0),(Value.slice none 0 0)]),Ag b1 66 (DZ m),AQ m.p (CF m.cs)]) (tg λ(j:Nat) (p2:Option Addr) (c2:Nat) (ss:List (Nat×Nat×Nat))=>gf.x.ss.length-j) 0 none 0 ([]:List (Nat×Nat×Nat)) (⟨Nat.zero_le _,OwnOk.none,rfl,rfl⟩) (sF O) sr (λj p2 c2 ss hJ=>?_)
  obtain ⟨hj,h2,hsl,hsd⟩:=hJ
  have hgs:=gf.x.sl
  refine AF.seq (q4 (AM O (AH (v:=(pP b3 2)) (AA O underlying137 O sizeOf23 O) O (BA 3 (Value.slice gf.x.c.p gf.x.ss.length gf.x.c.c) CP O (AH (v:=(vN gf.x.ss.length)) (AG O underlying23) O ?_)))))
  refine AH (Ae (c:=(decide (j<gf.x.ss.length))) O O (CL (a:=j) (b:=gf.x.ss.length))) O (AE.nil (AC.subF (sL [2,3,4,8,54] O) (AC.then_ ?_)))
  refine AF.cond O (λhc1=>?_) (λhc1=>?_)
  ·replace hc1:=of_decide_eq_true hc1
   refine AF.skip (q1 (AF.block (rC [(0,true),(1,true),(2,true),(3,true),(4,true),(5,true),(6,true),(7,true),(8,true),(9,true),(10,true),(11,true),(12,true),(13,true),(14,true),(15,true),(16,true),(17,true),(18,true),(19,true),(20,true),(21,false),(22,false),(23,true)] 24 [] (sl sr) (sk (sl sr)) (by kernel_rfl) (λ_ _ d _ _ h=>by cases d<;>exact h) (vE (v:=(pP b4 2)) O (AA O underlying30 O sizeOf24 O) O (vE O (AK (i:=1) (v:=(Value.slice p2 ss.length c2)) O O WR.a O) O ?_)))))
   refine vE (v:=(pP b3 2)) O (AA O underlying137 O sizeOf23 O) O (vE O (AK (i:=2) (v:=(Value.slice gf.x.c.p gf.x.ss.length gf.x.c.c)) O O CP.a O) O (vM O O O (vE (v:=(pP (pB gf.x.c.p) (pO gf.x.c.p+j*3))) O (AN (j:=j) O O gf.x.c.ok underlying23 sizeOf53 O Z) O (vE (v:=(pP (pB gf.x.c.p) (pO gf.x.c.p+(j*3+0)))) O (AD (j:=0) O O underlying53 sizeOf3 O (by decide) (Nat.add_assoc _ _ _)) O (vE O (Ad (v:=(vN ((gf.x.ss.getD j ((0,0,0):Nat×Nat×Nat)).1))) (i:=5) O O (BF.ne gf.x.c.ok Z) Bj (Bc Az ((0,0,0):Nat×Nat×Nat) _ _ 0 Z (by decide) O)) O ?_)))))
   refine vE (v:=(pP b3 2)) O (AA O underlying137 O sizeOf23 O) O (vE O (AK (i:=2) (v:=(Value.slice gf.x.c.p gf.x.ss.length gf.x.c.c)) O O CP.a O) O (vM O O O (vE (v:=(pP (pB gf.x.c.p) (pO gf.x.c.p+j*3))) O (AN (j:=j) O O gf.x.c.ok underlying23 sizeOf53 O Z) O (vE (v:=(pP (pB gf.x.c.p) (pO gf.x.c.p+(j*3+1)))) O (AD (j:=1) O O underlying53 sizeOf3 O (by decide) (Nat.add_assoc _ _ _)) O (vE O (Ad (v:=(vN ((gf.x.ss.getD j ((0,0,0):Nat×Nat×Nat)).2.1))) (i:=5) O O (BF.ne gf.x.c.ok Z) Bj (Bc Az ((0,0,0):Nat×Nat×Nat) _ _ 1 Z (by decide) O)) O ?_)))))
   refine vE (v:=(pP b3 2)) O (AA O underlying137 O sizeOf23 O) O (vE O (AK (i:=2) (v:=(Value.slice gf.x.c.p gf.x.ss.length gf.x.c.c)) O O CP.a O) O (vM O O O (vE (v:=(pP (pB gf.x.c.p) (pO gf.x.c.p+j*3))) O (AN (j:=j) O O gf.x.c.ok underlying23 sizeOf53 O Z) O (vE (v:=(pP (pB gf.x.c.p) (pO gf.x.c.p+(j*3+2)))) O (AD (j:=2) O O underlying53 sizeOf3 O (by decide) (Nat.add_assoc _ _ _)) O (vE O (Ad (v:=(vN ((gf.x.ss.getD j ((0,0,0):Nat×Nat×Nat)).2.2))) (i:=5) O O (BF.ne gf.x.c.ok Z) Bj (Bc Az ((0,0,0):Nat×Nat×Nat) _ _ 2 Z (by decide) O)) O ?_)))))
   refine vE (v:=(aG ([(vN ((gf.x.ss.getD j ((0,0,0):Nat×Nat×Nat)).1)),(vN ((gf.x.ss.getD j ((0,0,0):Nat×Nat×Nat)).2.1)),(vN ((gf.x.ss.getD j ((0,0,0):Nat×Nat×Nat)).2.2))]))) O (AV (zs:=Ai ((0,0,0):Nat×Nat×Nat)) (vs:=[(vN ((gf.x.ss.getD j ((0,0,0):Nat×Nat×Nat)).1)),(vN ((gf.x.ss.getD j ((0,0,0):Nat×Nat×Nat)).2.1)),(vN ((gf.x.ss.getD j ((0,0,0):Nat×Nat×Nat)).2.2))]) (pv:=[(0,(vN ((gf.x.ss.getD j ((0,0,0):Nat×Nat×Nat)).1))),(1,(vN ((gf.x.ss.getD j ((0,0,0):Nat×Nat×Nat)).2.1))),(2,(vN ((gf.x.ss.getD j ((0,0,0):Nat×Nat×Nat)).2.2)))]) (places:=[(0,1),(1,1),(2,1)]) zeroValue55 underlying55 (λw=>by simp [sizeOf3]) O O) O (CK.imp O (AE.openV (V:=λb5=>(Value.slice (some ⟨b5,0,none⟩) 1 1)) (T:=55) (cs:=Ai ((gf.x.ss.getD j ((0,0,0):Nat×Nat×Nat)).1,(gf.x.ss.getD j ((0,0,0):Nat×Nat×Nat)).2.1,(gf.x.ss.getD j ((0,0,0):Nat×Nat×Nat)).2.2)) (AS O) (Av (z:=.agg (Ai ((0,0,0):Nat×Nat×Nat)).toArray) (cs:=Ai ((gf.x.ss.getD j ((0,0,0):Nat×Nat×Nat)).1,(gf.x.ss.getD j ((0,0,0):Nat×Nat×Nat)).2.1,(gf.x.ss.getD j ((0,0,0):Nat×Nat×Nat)).2.2)) (pv:=[(0,(aG ([(vN ((gf.x.ss.getD j ((0,0,0):Nat×Nat×Nat)).1)),(vN ((gf.x.ss.getD j ((0,0,0):Nat×Nat×Nat)).2.1)),(vN ((gf.x.ss.getD j ((0,0,0):Nat×Nat×Nat)).2.2))])))]) underlying24 sizeOf55 zeroValue55 (by decide) (by decide) O (LY ((gf.x.ss.getD j ((0,0,0):Nat×Nat×Nat)).1,(gf.x.ss.getD j ((0,0,0):Nat×Nat×Nat)).2.1,(gf.x.ss.getD j ((0,0,0):Nat×Nat×Nat)).2.2))) O (AT O) λb5=>CK.back (sl (sl sr)) (CK.imp O (AE.append1 (j:=0) (cs2:=rowsL Ai (ss++[((gf.x.ss.getD j ((0,0,0):Nat×Nat×Nat)).1,(gf.x.ss.getD j ((0,0,0):Nat×Nat×Nat)).2.1,(gf.x.ss.getD j ((0,0,0):Nat×Nat×Nat)).2.2)])) bN O h2 (Ak Az _) O O O O (by decide) (Hx Z) Z (by rw [BP];rfl) O λp_2 c_2 ho_2 hne_2=>?_))))
   refine CK.back (sl (sl sr)) (vE (v:=(pP b4 2)) O (AA O underlying30 O sizeOf24 O) O (CK.cut O (Eg 3 (off:=2) (vs:=[(Value.slice p_2 (ss.length+1) c_2)]) (cs':=[(Value.slice p1 ps.length c1),(Value.slice gf.x.b.p gf.x.ts.length gf.x.b.c),(Value.slice p_2 (ss.length+1) c_2)]) (AS O) O sizeOf24 O (OkE.back (sl (sl (sk (sl sr)))) (OkE.nil ?_)))))
   refine AC.subF (sL [2,3,4,8] O) (AC.in_normal (AC.then_ (AF.region (AM O (AH (AW (c:=((j+1:Nat):Int)) O O (AU (a:=j) (b:=1) Z)) O ?_)))))
   refine asg' O (AE.nil (AC.subF (sL [2,3,4,8] O) ?_))
   rw [show ss.length+1=(ss++[((gf.x.ss.getD j ((0,0,0):Nat×Nat×Nat)).1,(gf.x.ss.getD j ((0,0,0):Nat×Nat×Nat)).2.1,(gf.x.ss.getD j ((0,0,0):Nat×Nat×Nat)).2.2)]).length by simp]
   exact AC.round4 (j+1) p_2 c_2 (ss++[((gf.x.ss.getD j ((0,0,0):Nat×Nat×Nat)).1,(gf.x.ss.getD j ((0,0,0):Nat×Nat×Nat)).2.1,(gf.x.ss.getD j ((0,0,0):Nat×Nat×Nat)).2.2)]) (⟨Z,(by simpa using ho_2),by simp [hsl],by rw [hsd];exact (Mk Z).symm⟩) Z (sF O) (sl sr)
  ·replace hc1:=of_decide_eq_false hc1
   refine AF.exit (AC.then_exit (AC.round4_exit (AC.in_exit (q2 (BD 2 Dq O ?_)))))
   exact Eg 8 (off:=0) (vs:=[(Value.slice p1 ps.length c1),(Value.slice gf.x.b.p gf.x.ts.length gf.x.b.c),(Value.slice p2 ss.length c2)]) (cs':=[(Value.slice p1 ps.length c1),(Value.slice gf.x.b.p gf.x.ts.length gf.x.b.c),(Value.slice p2 ss.length c2)]) (AS O) O sizeOf30 O (AE.nil (AC.subF (sL [2,3,4,8] O) (AC.then_ (AF.ret (AI O (Ap (i:=8) (cs:=[(Value.slice p1 ps.length c1),(Value.slice gf.x.b.p gf.x.ts.length gf.x.b.c),(Value.slice p2 ss.length c2)]) O O isAgg30 sizeOf30 O) (λw hw=>(aM hw ⟨⟨MG.mk ps gf.x.ts ss (W4 gf.x hfin) (by have h9:=gf.x.sl;omega) ⟨m,by rw [hps9,hsd,show j=gf.x.ss.length by omega,List.take_length];exact gf.x.sd⟩ ⟨p1,c1,h1.row⟩ gf.x.b ⟨p2,c2,h2.row⟩,XU gf.x hfin⟩,gf.ob,hw.asunder (i:=1) (j:=5) O O (by decide) O,hw.asunder (i:=0) (j:=5) O O (by decide) O⟩ (FR (S:=λ_=>False) hw 1 O h1 (Ak BM _)) (cS (inS hw 4 O (At.wm lgf))) (FR (S:=λ_=>False) hw 0 O h2 (Ak Az _)) (Xg hw 7 O (At.wmf lgf)) O)))))))
theorem TK (m:MQ) (w:World) {S:Nat->Prop} (hm:Ro S w m):Calls prog 19 #[(aG (DZ m))] w (Aw (MF m) S w):=(Sl m w hm).mono λe w1 h=>h.ofMGF
end
section
structure MX (ps:List Pt) (ts ss:List (Nat×Nat×Nat)) where
  a:RX (rowsL Am ps) ps.length
  b:RX (rowsL Ai ts) ts.length
  c:RX (rowsL Ai ss) ss.length
def CI {ps:List Pt} {ts ss:List (Nat×Nat×Nat)} (x:MX ps ts ss):List Value:=[x.a.val,x.b.val,x.c.val]
theorem bI {ps:List Pt} {ts ss:List (Nat×Nat×Nat)} {x:MX ps ts ss} {y:As} (hy:y∈[x.a.row,x.b.row,x.c.row]):y.ro=true:=by
  simp only [List.mem_cons,List.not_mem_nil,or_false] at hy
  rcases hy with rfl|rfl|rfl<;>rfl
instance {ps:List Pt} {ts ss:List (Nat×Nat×Nat)}:DN (MX ps ts ss):=⟨λx=>aG (CI x),λx=>[x.a.row,x.b.row,x.c.row],λx y hy=>bI hy⟩
def MG.mx (g:MG):MX g.ps g.ts g.ss:=⟨g.a,g.b,g.c⟩
structure BX (cs:List Value) where
  b:Nat
instance {cs:List Value}:DN (BX cs):=⟨λx=>pP x.b 0,λx=>[AQ (some ⟨x.b,0,none⟩) cs],λx y hy=>by rcases List.mem_singleton.1 hy with rfl;rfl⟩
theorem Fr {b:Nat} {T:TypeId} {cs:List Value} {o:Obj} (h:(Ag b T cs).P o):(AQ (some ⟨b,0,none⟩) cs).P o:=⟨cs.toArray,T,(0,0),h,by show (cs.toArray.toList.drop 0).take cs.length=cs;simp⟩
section
variable {S:Nat->Prop} {w W:World} {w0:BJ} {L:List As} {ps:List Pt} {ts ss:List (Nat×Nat×Nat)} {cs:List Value}
theorem dK {x:MX ps ts ss} (h:Ro S w x):Ro S w x.a:=λy hy=>by rcases List.mem_singleton.1 hy with rfl;exact h _ List.mem_cons_self
theorem Wg {x:MX ps ts ss} (h:Ro S w x):Ro S w x.b:=λy hy=>by rcases List.mem_singleton.1 hy with rfl;exact h _ (List.mem_cons_of_mem _ List.mem_cons_self)
theorem Ww (hw:BN w0 w L) (i:Nat) {x:BX cs} (hi:L[i]?=some (AQ (some ⟨x.b,0,none⟩) cs)) (hb:w0.w.heap.size<=x.b):Ro (SL w0 S L) w x:=λy hy=>by
  rcases List.mem_singleton.1 hy with rfl
  exact ⟨hw.holds hi,λc e=>⟨⟨_,List.mem_of_getElem? hi,rfl,e⟩,.inl (by injection e with e;rw [<-e];exact hb)⟩⟩
end
section
variable {P:Program} {ops:Array Oper} {rest:List Oper} {Q:Exit->Act->World->Prop} {n d:Nat} {F:List (Nat×Value)} {w0:BJ} {S:Nat->Prop} {L:List As} {t:TypeId} {p:String} {af:Array Edge} {y:Operand} {f:FuncId} {xs:List Operand} {args:List Value} {ts:Array TypeId}
theorem AE.frzX (i:Nat) {b:Nat} {T:TypeId} {cs:List Value} (hi:L[i]?=some (Ag b T cs)) (hex:w0.ex=none) (next:w0.w.heap.size<=b->AE P ops rest Q n F w0 (L.set i (AQ (some ⟨b,0,none⟩) cs))):AE P ops rest Q n F w0 L:=λa w ha hw=>by
  refine next ?_ a w ha (hw.freeze hi O (λo hp=>Fr hp) (λe=>by cases e))
  rcases (hw.2.1 _ (List.mem_of_getElem? hi) b rfl).1 with h1|h1|h1
  · cases h1
  · exact h1
  · rw [hex] at h1;cases h1
end
def Oc (n:Nat) (t:Nat×Nat×Nat):Bool:=decide (t.1<n)&&decide (t.2.1<n)&&decide (t.2.2<n)&&!decide (t.1=t.2.1)&&!decide (t.2.1=t.2.2)&&!decide (t.2.2=t.1)
def By (n:Nat) (ts:List (Nat×Nat×Nat)):Bool:=ts.all (Oc n)
theorem Sd {ps:List Pt} {ts:List (Nat×Nat×Nat)} (h:FJ ps ts):By ps.length ts=true:=List.all_eq_true.2 λt ht=>by
  obtain ⟨j,hj,rfl⟩:=List.getElem_of_mem ht
  have k:=h.tri j hj
  rw [show ts.getD j (0,0,0)=ts[j] by rw [List.getD,List.getElem?_eq_getElem hj];rfl] at k
  simp [Oc,k.a,k.b,k.c,k.ab,k.bc,k.ca]
theorem Cc {n:Nat} {ts:List (Nat×Nat×Nat)} (h:By n ts=true) {j:Nat} (hj:j<ts.length):Oc n (ts.getD j (0,0,0))=true:=by
  rw [List.getD,List.getElem?_eq_getElem hj]
  exact List.all_eq_true.1 h _ (List.getElem_mem hj)
theorem De {n:Nat} {t:Nat×Nat×Nat} (h:Oc n t=true):t.1<n/\t.2.1<n/\t.2.2<n:=by
  simp [Oc] at h;omega
def idxB (n:Nat):List (Nat×Nat×Nat)->Nat->Int
  | [],_ => -1
  | t::r,i=>if Oc n t=true then idxB n r (i+1) else (i:Int)
theorem Qu {α:Type} {ts:List α} {d:α} {j:Nat} (hj:j<ts.length):ts.drop j=ts.getD j d::ts.drop (j+1):=by
  rw [List.drop_eq_getElem_cons hj,List.getD,List.getElem?_eq_getElem hj];rfl
theorem TA {n:Nat} {ts:List (Nat×Nat×Nat)} {j:Nat} (hj:j<ts.length) (h:Oc n (ts.getD j (0,0,0))=true):idxB n (ts.drop j) j=idxB n (ts.drop (j+1)) (j+1):=by
  rw [Qu (d:=(0,0,0)) hj];exact if_pos h
theorem Vw {n:Nat} {ts:List (Nat×Nat×Nat)} {j:Nat} (hj:j<ts.length) (h:Oc n (ts.getD j (0,0,0))=false):idxB n (ts.drop j) j=(j:Int):=by
  rw [Qu (d:=(0,0,0)) hj];exact if_neg (by rw [h];exact Bool.false_ne_true)
theorem Tm {n:Nat} {ts:List (Nat×Nat×Nat)} {j:Nat} (hj:¬j<ts.length):idxB n (ts.drop j) j = -1:=by
  rw [List.drop_of_length_le Z];rfl
theorem Mr (n:Nat):∀(ts:List (Nat×Nat×Nat)) (i:Nat),decide (0<=idxB n ts i)=!By n ts
  | [],i=>rfl
  | t::r,i=>by
    unfold idxB By
    rw [List.all_cons]
    cases h:Oc n t with
    | true=>rw [if_pos rfl,Bool.true_and];exact Mr n r (i+1)
    | false=>rw [if_neg Bool.false_ne_true,Bool.false_and];simp
def cor (ps:List Pt) (k:Nat):Pt:=ps.getD k ⟨0,0⟩
def Qs (a b c p:Pt):Nat:=if AX a b c=0 then 0 else GP (AX p b c/AX a b c) (AX a p c/AX a b c) (AX a b p/AX a b c)
def KF (ps:List Pt) (q:Pt) (t:Nat×Nat×Nat):Nat:=Qs (cor ps t.1) (cor ps t.2.1) (cor ps t.2.2) q
end
end Go.Proofs.YtpgncndhhhllfaaGreatDoor
