import Derived.Test.YtfbomiejpbchdaaGreatPart06
import Derived.Test.YtfbomiejpbchdaaGreatPart14
import Derived.Test.YtfbomiejpbchdaaGreatPart22
import Derived.Test.YtfbomiejpbchdaaGreatPart23
namespace Go.Proofs.YtfbomiejpbchdaaGreat
open Go Go.RowKit
set_option linter.unusedVariables false
set_option linter.unusedSimpArgs false
section
set_option maxRecDepth 100000
theorem WU:ElemT Tryz.prog 29 44 3 24:=⟨Tryz.underlying29,D9 (by kernel_rfl)⟩
theorem WF:ElemT Tryz.prog 27 55 10 112:=⟨Tryz.underlying27,D9 (by kernel_rfl)⟩
theorem Jr (x0:Pt):Instr.fill (λi=>some (i*10,10)) ((Array.range (1*10)).map ((Value.agg (An (⟨0,0⟩:Pt)).toArray).cells[·%(Value.agg (An (⟨0,0⟩:Pt)).toArray).cells.size]!)) [(0,.agg (An x0).toArray)]=some (An x0).toArray:=by kernel_rfl
theorem Jq (x0:Nat×Nat×Nat):Instr.fill (λi=>some (i*3,3)) ((Array.range (1*3)).map ((Value.agg (Ai ((0,0,0):Nat×Nat×Nat)).toArray).cells[·%(Value.agg (Ai ((0,0,0):Nat×Nat×Nat)).toArray).cells.size]!)) [(0,.agg (Ai x0).toArray)]=some (Ai x0).toArray:=by kernel_rfl
set_option maxHeartbeats 2000000 in
theorem Qi (m:MQ) (w:World) {S:Nat->Prop} (hm:Ro S w m):Calls Tryz.prog 11 #[(aG (EJ m))] w (Bc (XI m) (λ_=>False) w):=by
 have hd:=m.hden
 have hdm:C9 m<256:=by unfold C9;omega
 have lm:=H0 (W:=w) hm
 refine BQ (args:=[(aG (EJ m))]) (L:=[AX m.p (Cp m.cs)]) Tryz.func11 rfl rfl (Af rfl) (Hy hm Bo) (AE.subF (sL [0] rfl) (q4 (CB (cs:=EJ m) rfl λb1=>al Ml rfl λb2=>q3 (sL [1,2] rfl) ?_)))
 refine BF 1 Mr rfl (AD.callR (S:=λ_=>False) (α:=WJ m) (args:=[(aG (EJ m))]) Tryz.call44 (λw hw=>(Ou m w (Eu hw 2 rfl lm)).mono λe w1 h=>h.weak λb k=>k.elim) rfl rfl rfl λgf lgf=>al W2 rfl λb3=>A6 rfl Tryz.sizeOf99 rfl (q3 (sL [1,2,3] rfl) (al Ml rfl λb4=>?_)))
 refine AD.nilRow 55 10 (AD.nilRow 44 3 (AD.nil (q2 (AH (v:=(pP b1 7)) (AA rfl Tryz.underlying26 rfl Tryz.sizeOf5 rfl) rfl (BI 9 (vK .u8 m.den) TH rfl ?_)))))
 refine AH (CN (c:=((m.den%6:Nat):Int)) rfl rfl (by omega) (IS (a:=m.den) (b:=6))) rfl (AH (AT (c:=((C9 m:Nat):Int)) rfl rfl (Uj (a:=1) (b:=m.den%6) (by omega))) rfl (AH (Ar (c:=((C9 m:Nat):Int)) rfl Tryz.underlying5 Tryz.underlying101 (CS (by omega))) rfl (AL rfl (q6 (sL [1,2,3,4,5] rfl) (q4 ?_)))))
 refine AL rfl (AD.nil (AC.then_ (AE.block ?_)))
 refine AE.lp4 (tg λ(i:Nat) (p1:Option Addr) (c1:Nat) (ps:List Pt)=>i<=gf.x.pl.length/\OwnOk p1 ps.length c1/\ps=Qe m (E8 m gf.x.pl) i) (tg λ(i:Nat) (p1:Option Addr) (c1:Nat) (ps:List Pt)=>[(2,(pP b2 0)),(3,(pP b3 0)),(4,(pP b4 0)),(5,(vK .u32 (C9 m))),(6,(vN i))]) (tg λ(i:Nat) (p1:Option Addr) (c1:Nat) (ps:List Pt)=>[rowW none 44 3 0 0 (rowsL Ai ([])),rowW p1 55 10 ps.length c1 (rowsL An ps),Ac b4 31 ([(Value.slice p1 ps.length c1),(Value.slice none 0 0),(Value.slice none 0 0)]),Ac b3 99 ([(Value.slice gf.x.a.p gf.x.pl.length gf.x.a.c),(Value.slice gf.x.b.p gf.x.ts.length gf.x.b.c),(Value.slice gf.x.c.p gf.x.ss.length gf.x.c.c)]),AX gf.x.a.p (rowsL CO (E8 m gf.x.pl)),AX gf.x.b.p (rowsL Ai gf.x.ts),AX gf.x.c.p (rowsL Ai gf.x.ss),L7 gf,Ac b2 31 ([(Value.slice none 0 0),(Value.slice none 0 0),(Value.slice none 0 0)]),Ac b1 26 (EJ m),AX m.p (Cp m.cs)]) (tg λ(i:Nat) (p1:Option Addr) (c1:Nat) (ps:List Pt)=>gf.x.pl.length-i) 0 none 0 ([]:List Pt) (⟨Nat.zero_le _,OwnOk.none,rfl⟩) (sF rfl) sr (λi p1 c1 ps hJ=>?_)
 obtain ⟨hi,h1,hps⟩:=hJ
 have hzl:(E8 m gf.x.pl).length=gf.x.pl.length:=by simp [E8]
 have hll:=gf.x.inv.pll
 have hcl:=Gz m
 have hpl:ps.length<=108:=by rw [hps,JO (by rw [hzl];omega)];omega
 refine AE.seq (q4 (AO rfl (AH (v:=(pP b3 0)) (AA rfl Tryz.underlying99 rfl Tryz.sizeOf97 rfl) rfl (BI 3 (Value.slice gf.x.a.p gf.x.pl.length gf.x.a.c) QX rfl (AH (v:=(vN gf.x.pl.length)) (AF rfl Tryz.underlying97) rfl ?_)))))
 refine AH (Ag (c:=(decide (i<gf.x.pl.length))) rfl rfl (DA (a:=i) (b:=gf.x.pl.length))) rfl (AD.nil (AC.subF (sL [2,3,4,5,6,20] rfl) (AC.then_ ?_)))
 refine AE.cond rfl (λhc0=>?_) (λhc0=>?_)
 ·replace hc0:=of_decide_eq_true hc0
  refine AE.skip (q1 (AE.block (AE.seq (C7 [(0,true),(1,true),(2,true),(3,true),(4,true),(5,true),(6,true),(7,true),(8,true),(9,true),(10,true),(11,true),(12,true),(13,true),(14,true),(15,true),(16,true),(17,false),(18,false)] sr (Au (v:=(pP b3 0)) rfl (AA rfl Tryz.underlying99 rfl Tryz.sizeOf97 rfl) ?_)))))
  refine Bk 3 (Value.slice gf.x.a.p gf.x.pl.length gf.x.a.c) QX rfl (Bl rfl (Au (v:=(pP (pB gf.x.a.p) (pO gf.x.a.p+i*2))) rfl (AQ (j:=i) rfl rfl gf.x.a.ok Tryz.underlying97 Tryz.sizeOf102 rfl (by omega)) (Au (v:=(pP (pB gf.x.a.p) (pO gf.x.a.p+(i*2+0)))) rfl (AG (j:=0) rfl rfl Tryz.underlying102 Tryz.sizeOf2 rfl (by decide) (Nat.add_assoc _ _ _)) (Au rfl (BD (v:=(vI (((E8 m gf.x.pl).getD i ((0,0):Int×Int)).1))) (i:=4) rfl rfl (BL.ne gf.x.a.ok (by omega)) Mf (Cx FL ((0,0):Int×Int) _ _ 0 (by omega) (by decide) rfl)) (Bl rfl ?_)))))
  refine Au (v:=(aG ([(vI (((E8 m gf.x.pl).getD i ((0,0):Int×Int)).1)),(vK .u32 (C9 m))]))) rfl (AS (zs:=[(vI 0),(Value.int .u32 (0:Int))]) (vs:=[(vI (((E8 m gf.x.pl).getD i ((0,0):Int×Int)).1)),(vK .u32 (C9 m))]) (pv:=[(0,(vI (((E8 m gf.x.pl).getD i ((0,0):Int×Int)).1))),(1,(vK .u32 (C9 m)))]) (places:=[(0,1),(1,1)]) Tryz.zeroValue104 Tryz.underlying104 (λw=>by simp [Tryz.sizeOf2,Tryz.sizeOf101]) rfl rfl) (Au (v:=(pP b3 0)) rfl (AA rfl Tryz.underlying99 rfl Tryz.sizeOf97 rfl) (Bk 3 (Value.slice gf.x.a.p gf.x.pl.length gf.x.a.c) QX rfl (Bl rfl (Au (v:=(pP (pB gf.x.a.p) (pO gf.x.a.p+i*2))) rfl (AQ (j:=i) rfl rfl gf.x.a.ok Tryz.underlying97 Tryz.sizeOf102 rfl (by omega)) (Au (v:=(pP (pB gf.x.a.p) (pO gf.x.a.p+(i*2+1)))) rfl (AG (j:=1) rfl rfl Tryz.underlying102 Tryz.sizeOf2 rfl (by decide) (Nat.add_assoc _ _ _)) ?_)))))
  refine Au rfl (BD (v:=(vI (((E8 m gf.x.pl).getD i ((0,0):Int×Int)).2))) (i:=4) rfl rfl (BL.ne gf.x.a.ok (by omega)) Mf (Cx FL ((0,0):Int×Int) _ _ 1 (by omega) (by decide) rfl)) (Bl rfl (Au (v:=(aG ([(vI (((E8 m gf.x.pl).getD i ((0,0):Int×Int)).2)),(vK .u32 (C9 m))]))) rfl (AS (zs:=[(vI 0),(Value.int .u32 (0:Int))]) (vs:=[(vI (((E8 m gf.x.pl).getD i ((0,0):Int×Int)).2)),(vK .u32 (C9 m))]) (pv:=[(0,(vI (((E8 m gf.x.pl).getD i ((0,0):Int×Int)).2))),(1,(vK .u32 (C9 m)))]) (places:=[(0,1),(1,1)]) Tryz.zeroValue104 Tryz.underlying104 (λw=>by simp [Tryz.sizeOf2,Tryz.sizeOf101]) rfl rfl) (Au (v:=(aG ([(vI (((E8 m gf.x.pl).getD i ((0,0):Int×Int)).1)),(vK .u32 (C9 m)),(vI (((E8 m gf.x.pl).getD i ((0,0):Int×Int)).2)),(vK .u32 (C9 m))]))) rfl (AS (zs:=[(vI 0),(Value.int .u32 (0:Int)),(vI 0),(Value.int .u32 (0:Int))]) (vs:=[(vI (((E8 m gf.x.pl).getD i ((0,0):Int×Int)).1)),(vK .u32 (C9 m)),(vI (((E8 m gf.x.pl).getD i ((0,0):Int×Int)).2)),(vK .u32 (C9 m))]) (pv:=[(0,(aG ([(vI (((E8 m gf.x.pl).getD i ((0,0):Int×Int)).1)),(vK .u32 (C9 m))]))),(1,(aG ([(vI (((E8 m gf.x.pl).getD i ((0,0):Int×Int)).2)),(vK .u32 (C9 m))])))]) (places:=[(0,2),(2,2)]) Tryz.zeroValue106 Tryz.underlying106 (λw=>by simp [Tryz.sizeOf104]) rfl rfl) (AP.imp rfl (al Xh rfl λb5=>?_)))))
  refine AP.back (sl sr) (AP.imp rfl (A6 rfl Tryz.sizeOf106 rfl (AP.back (sl sr) (AP.nil (AC.subF (sL [2,3,4,5,6,7] rfl) ?_)))))
  refine AC.then_ (rC [(0,true),(1,true),(2,true),(3,false),(4,false),(5,false),(6,true)] 7 [] (sk (sk (sl sr))) (sk (sk (sl sr))) (by kernel_rfl) (λ_ _ d _ _ h=>by cases d<;>exact h) (vE (v:=(pP b4 0)) rfl (AA rfl Tryz.underlying31 rfl Tryz.sizeOf27 rfl) rfl (vE rfl (AK (i:=2) (v:=(Value.slice p1 ps.length c1)) rfl rfl Dr.a rfl) rfl (vE (v:=(aG ([(vI (((E8 m gf.x.pl).getD i ((0,0):Int×Int)).1)),(vK .u32 (C9 m)),(vI (((E8 m gf.x.pl).getD i ((0,0):Int×Int)).2)),(vK .u32 (C9 m))]))) rfl (Ak (i:=0) (vs:=[(vI (((E8 m gf.x.pl).getD i ((0,0):Int×Int)).1)),(vK .u32 (C9 m)),(vI (((E8 m gf.x.pl).getD i ((0,0):Int×Int)).2)),(vK .u32 (C9 m))]) rfl rfl V2.a V2.s rfl rfl) rfl (Cg.imp rfl ?_)))))
  refine BY Tryz.call45 (W_ (RY m ((E8 m gf.x.pl).getD i (0,0))) (V4 gf.x.inv.small (by omega))) rfl (Cg.back (sk (sk (sl sr))) (Cg.imp rfl (AD.openV (V:=λb6=>(Value.slice (some ⟨b6,0,none⟩) 1 1)) (T:=55) (cs:=An (DY (RY m ((E8 m gf.x.pl).getD i (0,0))))) (AN rfl) (Ah (z:=.agg (An (⟨0,0⟩:Pt)).toArray) (cs:=An (DY (RY m ((E8 m gf.x.pl).getD i (0,0))))) (pv:=[(0,(aG (An (DY (RY m ((E8 m gf.x.pl).getD i (0,0)))))))]) Tryz.underlying27 Tryz.sizeOf55 Tryz.zeroValue55 (by decide) (by decide) rfl (Jr (DY (RY m ((E8 m gf.x.pl).getD i (0,0)))))) rfl (Af rfl) λb6=>Cg.back (sl (sk (sk (sl sr)))) (Cg.imp rfl ?_))))
  refine AD.appendAt 3 (j:=0) (cs2:=rowsL An (ps++[DY (RY m ((E8 m gf.x.pl).getD i (0,0)))])) WF rfl h1 (Aj BP _) rfl rfl rfl rfl rfl (by decide) (HM (by omega)) (by omega) (by rw [BN];rfl) rfl λp_1 c_1 ho_1 hne_1=>Cg.back (sl (sk (sk (sl sr)))) (vE (v:=(pP b4 0)) rfl (AA rfl Tryz.underlying31 rfl Tryz.sizeOf27 rfl) rfl (Cg.cut rfl (Gn 4 (off:=0) (vs:=[(Value.slice p_1 (ps.length+1) c_1)]) (cs':=[(Value.slice p_1 (ps.length+1) c_1),(Value.slice none 0 0),(Value.slice none 0 0)]) (AN rfl) rfl Tryz.sizeOf27 rfl (AP.back (sl (sk (sk (sl (sl sr))))) ?_))))
  refine AP.nil (AC.subF (sL [2,3,4,5,6,7] rfl) (AC.in_normal (AC.then_ (AE.region (AO rfl ?_)))))
  refine AH (AT (c:=((i+1:Nat):Int)) rfl rfl (AR (a:=i) (b:=1) (by omega))) rfl (AL rfl (AD.nil (AC.subF (sL [2,3,4,5,6,7] rfl) ?_)))
  rw [show ps.length+1=(ps++[DY (RY m ((E8 m gf.x.pl).getD i (0,0)))]).length by simp]
  exact AC.round4 (i+1) p_1 c_1 (ps++[DY (RY m ((E8 m gf.x.pl).getD i (0,0)))]) (⟨by omega,(by simpa using ho_1),by rw [hps,Ts (by rw [hzl];omega)]⟩) (by omega) (sF rfl) (sl (sl sr))
 ·replace hc0:=of_decide_eq_false hc0
  have hps9:ps.length=gf.x.pl.length:=by rw [hps,show i=gf.x.pl.length by omega,JO (by rw [hzl];omega)]
  have hfin:ps=Qe m (E8 m gf.x.pl) gf.x.pl.length:=by rw [hps,show i=gf.x.pl.length by omega]
  refine AE.exit (AC.then_exit (AC.round4_exit (AC.in_exit (q2 (AH (v:=(pP b3 1)) (AA rfl Tryz.underlying99 rfl Tryz.sizeOf28 rfl) rfl ?_)))))
  refine BI 3 (Value.slice gf.x.b.p gf.x.ts.length gf.x.b.c) Di rfl (AH (v:=(pP b4 1)) (AA rfl Tryz.underlying31 rfl Tryz.sizeOf28 rfl) rfl (Gn 2 (off:=1) (vs:=[(Value.slice gf.x.b.p gf.x.ts.length gf.x.b.c)]) (cs':=[(Value.slice p1 ps.length c1),(Value.slice gf.x.b.p gf.x.ts.length gf.x.b.c),(Value.slice none 0 0)]) (AN rfl) rfl Tryz.sizeOf28 rfl (q6 (sL [2,3,4,5,6] rfl) (q4 (AL rfl ?_)))))
  refine AD.nil (AC.then_ (AE.block ?_))
  refine AE.lp4 (tg λ(j:Nat) (p2:Option Addr) (c2:Nat) (ss:List (Nat×Nat×Nat))=>j<=gf.x.ss.length/\OwnOk p2 ss.length c2/\ss.length=j/\ss=gf.x.ss.take j) (tg λ(j:Nat) (p2:Option Addr) (c2:Nat) (ss:List (Nat×Nat×Nat))=>[(2,(pP b2 0)),(3,(pP b3 0)),(4,(pP b4 0)),(8,(vN j))]) (tg λ(j:Nat) (p2:Option Addr) (c2:Nat) (ss:List (Nat×Nat×Nat))=>[rowW p2 44 3 ss.length c2 (rowsL Ai ss),rowW p1 55 10 ps.length c1 (rowsL An ps),Ac b4 31 ([(Value.slice p1 ps.length c1),(Value.slice gf.x.b.p gf.x.ts.length gf.x.b.c),(Value.slice p2 ss.length c2)]),Ac b3 99 ([(Value.slice gf.x.a.p gf.x.pl.length gf.x.a.c),(Value.slice gf.x.b.p gf.x.ts.length gf.x.b.c),(Value.slice gf.x.c.p gf.x.ss.length gf.x.c.c)]),AX gf.x.a.p (rowsL CO (E8 m gf.x.pl)),AX gf.x.b.p (rowsL Ai gf.x.ts),AX gf.x.c.p (rowsL Ai gf.x.ss),L7 gf,Ac b2 31 ([(Value.slice none 0 0),(Value.slice none 0 0),(Value.slice none 0 0)]),Ac b1 26 (EJ m),AX m.p (Cp m.cs)]) (tg λ(j:Nat) (p2:Option Addr) (c2:Nat) (ss:List (Nat×Nat×Nat))=>gf.x.ss.length-j) 0 none 0 ([]:List (Nat×Nat×Nat)) (⟨Nat.zero_le _,OwnOk.none,rfl,rfl⟩) (sF rfl) sr (λj p2 c2 ss hJ=>?_)
  obtain ⟨hj,h2,hsl,hsd⟩:=hJ
  have hgs:=gf.x.sl
  refine AE.seq (q4 (AO rfl (AH (v:=(pP b3 2)) (AA rfl Tryz.underlying99 rfl Tryz.sizeOf28 rfl) rfl (BI 3 (Value.slice gf.x.c.p gf.x.ss.length gf.x.c.c) Di rfl (AH (v:=(vN gf.x.ss.length)) (AF rfl Tryz.underlying28) rfl ?_)))))
  refine AH (Ag (c:=(decide (j<gf.x.ss.length))) rfl rfl (DA (a:=j) (b:=gf.x.ss.length))) rfl (AD.nil (AC.subF (sL [2,3,4,8,54] rfl) (AC.then_ ?_)))
  refine AE.cond rfl (λhc1=>?_) (λhc1=>?_)
  ·replace hc1:=of_decide_eq_true hc1
   refine AE.skip (q1 (AE.block (rC [(0,true),(1,true),(2,true),(3,true),(4,true),(5,true),(6,true),(7,true),(8,true),(9,true),(10,true),(11,true),(12,true),(13,true),(14,true),(15,true),(16,true),(17,true),(18,true),(19,true),(20,true),(21,false),(22,false),(23,true)] 24 [] (sl sr) (sk (sl sr)) (by kernel_rfl) (λ_ _ d _ _ h=>by cases d<;>exact h) (vE (v:=(pP b4 2)) rfl (AA rfl Tryz.underlying31 rfl Tryz.sizeOf29 rfl) rfl (vE rfl (AK (i:=1) (v:=(Value.slice p2 ss.length c2)) rfl rfl FT.a rfl) rfl ?_)))))
   refine vE (v:=(pP b3 2)) rfl (AA rfl Tryz.underlying99 rfl Tryz.sizeOf28 rfl) rfl (vE rfl (AK (i:=2) (v:=(Value.slice gf.x.c.p gf.x.ss.length gf.x.c.c)) rfl rfl Di.a rfl) rfl (vM rfl rfl rfl (vE (v:=(pP (pB gf.x.c.p) (pO gf.x.c.p+j*3))) rfl (AQ (j:=j) rfl rfl gf.x.c.ok Tryz.underlying28 Tryz.sizeOf76 rfl (by omega)) rfl (vE (v:=(pP (pB gf.x.c.p) (pO gf.x.c.p+(j*3+0)))) rfl (AG (j:=0) rfl rfl Tryz.underlying76 Tryz.sizeOf3 rfl (by decide) (Nat.add_assoc _ _ _)) rfl (vE rfl (BD (v:=(vN ((gf.x.ss.getD j ((0,0,0):Nat×Nat×Nat)).1))) (i:=5) rfl rfl (BL.ne gf.x.c.ok (by omega)) B_ (Cx Aq ((0,0,0):Nat×Nat×Nat) _ _ 0 (by omega) (by decide) rfl)) rfl ?_)))))
   refine vE (v:=(pP b3 2)) rfl (AA rfl Tryz.underlying99 rfl Tryz.sizeOf28 rfl) rfl (vE rfl (AK (i:=2) (v:=(Value.slice gf.x.c.p gf.x.ss.length gf.x.c.c)) rfl rfl Di.a rfl) rfl (vM rfl rfl rfl (vE (v:=(pP (pB gf.x.c.p) (pO gf.x.c.p+j*3))) rfl (AQ (j:=j) rfl rfl gf.x.c.ok Tryz.underlying28 Tryz.sizeOf76 rfl (by omega)) rfl (vE (v:=(pP (pB gf.x.c.p) (pO gf.x.c.p+(j*3+1)))) rfl (AG (j:=1) rfl rfl Tryz.underlying76 Tryz.sizeOf3 rfl (by decide) (Nat.add_assoc _ _ _)) rfl (vE rfl (BD (v:=(vN ((gf.x.ss.getD j ((0,0,0):Nat×Nat×Nat)).2.1))) (i:=5) rfl rfl (BL.ne gf.x.c.ok (by omega)) B_ (Cx Aq ((0,0,0):Nat×Nat×Nat) _ _ 1 (by omega) (by decide) rfl)) rfl ?_)))))
   refine vE (v:=(pP b3 2)) rfl (AA rfl Tryz.underlying99 rfl Tryz.sizeOf28 rfl) rfl (vE rfl (AK (i:=2) (v:=(Value.slice gf.x.c.p gf.x.ss.length gf.x.c.c)) rfl rfl Di.a rfl) rfl (vM rfl rfl rfl (vE (v:=(pP (pB gf.x.c.p) (pO gf.x.c.p+j*3))) rfl (AQ (j:=j) rfl rfl gf.x.c.ok Tryz.underlying28 Tryz.sizeOf76 rfl (by omega)) rfl (vE (v:=(pP (pB gf.x.c.p) (pO gf.x.c.p+(j*3+2)))) rfl (AG (j:=2) rfl rfl Tryz.underlying76 Tryz.sizeOf3 rfl (by decide) (Nat.add_assoc _ _ _)) rfl (vE rfl (BD (v:=(vN ((gf.x.ss.getD j ((0,0,0):Nat×Nat×Nat)).2.2))) (i:=5) rfl rfl (BL.ne gf.x.c.ok (by omega)) B_ (Cx Aq ((0,0,0):Nat×Nat×Nat) _ _ 2 (by omega) (by decide) rfl)) rfl ?_)))))
   refine vE (v:=(aG ([(vN ((gf.x.ss.getD j ((0,0,0):Nat×Nat×Nat)).1)),(vN ((gf.x.ss.getD j ((0,0,0):Nat×Nat×Nat)).2.1)),(vN ((gf.x.ss.getD j ((0,0,0):Nat×Nat×Nat)).2.2))]))) rfl (AS (zs:=Ai ((0,0,0):Nat×Nat×Nat)) (vs:=[(vN ((gf.x.ss.getD j ((0,0,0):Nat×Nat×Nat)).1)),(vN ((gf.x.ss.getD j ((0,0,0):Nat×Nat×Nat)).2.1)),(vN ((gf.x.ss.getD j ((0,0,0):Nat×Nat×Nat)).2.2))]) (pv:=[(0,(vN ((gf.x.ss.getD j ((0,0,0):Nat×Nat×Nat)).1))),(1,(vN ((gf.x.ss.getD j ((0,0,0):Nat×Nat×Nat)).2.1))),(2,(vN ((gf.x.ss.getD j ((0,0,0):Nat×Nat×Nat)).2.2)))]) (places:=[(0,1),(1,1),(2,1)]) Tryz.zeroValue44 Tryz.underlying44 (λw=>by simp [Tryz.sizeOf3]) rfl rfl) rfl (Cg.imp rfl (AD.openV (V:=λb5=>(Value.slice (some ⟨b5,0,none⟩) 1 1)) (T:=44) (cs:=Ai ((gf.x.ss.getD j ((0,0,0):Nat×Nat×Nat)).1,(gf.x.ss.getD j ((0,0,0):Nat×Nat×Nat)).2.1,(gf.x.ss.getD j ((0,0,0):Nat×Nat×Nat)).2.2)) (AN rfl) (Ah (z:=.agg (Ai ((0,0,0):Nat×Nat×Nat)).toArray) (cs:=Ai ((gf.x.ss.getD j ((0,0,0):Nat×Nat×Nat)).1,(gf.x.ss.getD j ((0,0,0):Nat×Nat×Nat)).2.1,(gf.x.ss.getD j ((0,0,0):Nat×Nat×Nat)).2.2)) (pv:=[(0,(aG ([(vN ((gf.x.ss.getD j ((0,0,0):Nat×Nat×Nat)).1)),(vN ((gf.x.ss.getD j ((0,0,0):Nat×Nat×Nat)).2.1)),(vN ((gf.x.ss.getD j ((0,0,0):Nat×Nat×Nat)).2.2))])))]) Tryz.underlying29 Tryz.sizeOf44 Tryz.zeroValue44 (by decide) (by decide) rfl (Jq ((gf.x.ss.getD j ((0,0,0):Nat×Nat×Nat)).1,(gf.x.ss.getD j ((0,0,0):Nat×Nat×Nat)).2.1,(gf.x.ss.getD j ((0,0,0):Nat×Nat×Nat)).2.2))) rfl (Af rfl) λb5=>Cg.back (sl (sl sr)) (Cg.imp rfl (AD.append1 (j:=0) (cs2:=rowsL Ai (ss++[((gf.x.ss.getD j ((0,0,0):Nat×Nat×Nat)).1,(gf.x.ss.getD j ((0,0,0):Nat×Nat×Nat)).2.1,(gf.x.ss.getD j ((0,0,0):Nat×Nat×Nat)).2.2)])) WU rfl h2 (Aj Aq _) rfl rfl rfl rfl (by decide) (HM (by omega)) (by omega) (by rw [BN];rfl) rfl λp_2 c_2 ho_2 hne_2=>?_))))
   refine Cg.back (sl (sl sr)) (vE (v:=(pP b4 2)) rfl (AA rfl Tryz.underlying31 rfl Tryz.sizeOf29 rfl) rfl (Cg.cut rfl (Gn 3 (off:=2) (vs:=[(Value.slice p_2 (ss.length+1) c_2)]) (cs':=[(Value.slice p1 ps.length c1),(Value.slice gf.x.b.p gf.x.ts.length gf.x.b.c),(Value.slice p_2 (ss.length+1) c_2)]) (AN rfl) rfl Tryz.sizeOf29 rfl (AP.back (sl (sl (sk (sl sr)))) (AP.nil ?_)))))
   refine AC.subF (sL [2,3,4,8] rfl) (AC.in_normal (AC.then_ (AE.region (AO rfl (AH (AT (c:=((j+1:Nat):Int)) rfl rfl (AR (a:=j) (b:=1) (by omega))) rfl ?_)))))
   refine AL rfl (AD.nil (AC.subF (sL [2,3,4,8] rfl) ?_))
   rw [show ss.length+1=(ss++[((gf.x.ss.getD j ((0,0,0):Nat×Nat×Nat)).1,(gf.x.ss.getD j ((0,0,0):Nat×Nat×Nat)).2.1,(gf.x.ss.getD j ((0,0,0):Nat×Nat×Nat)).2.2)]).length by simp]
   exact AC.round4 (j+1) p_2 c_2 (ss++[((gf.x.ss.getD j ((0,0,0):Nat×Nat×Nat)).1,(gf.x.ss.getD j ((0,0,0):Nat×Nat×Nat)).2.1,(gf.x.ss.getD j ((0,0,0):Nat×Nat×Nat)).2.2)]) (⟨by omega,(by simpa using ho_2),by simp [hsl],by rw [hsd];exact (FP (by omega)).symm⟩) (by omega) (sF rfl) (sl sr)
  ·replace hc1:=of_decide_eq_false hc1
   refine AE.exit (AC.then_exit (AC.round4_exit (AC.in_exit (q2 (BF 2 DW rfl ?_)))))
   exact Gn 8 (off:=0) (vs:=[(Value.slice p1 ps.length c1),(Value.slice gf.x.b.p gf.x.ts.length gf.x.b.c),(Value.slice p2 ss.length c2)]) (cs':=[(Value.slice p1 ps.length c1),(Value.slice gf.x.b.p gf.x.ts.length gf.x.b.c),(Value.slice p2 ss.length c2)]) (AN rfl) rfl Tryz.sizeOf31 rfl (AD.nil (AC.subF (sL [2,3,4,8] rfl) (AC.then_ (AE.ret (AU rfl (Ay (i:=8) (cs:=[(Value.slice p1 ps.length c1),(Value.slice gf.x.b.p gf.x.ts.length gf.x.b.c),(Value.slice p2 ss.length c2)]) rfl rfl Tryz.isAgg31 Tryz.sizeOf31 rfl) (λw hw=>(WB hw ⟨⟨MG.mk ps gf.x.ts ss (Vm gf.x hfin) (by have h9:=gf.x.sl;omega) ⟨m,by rw [hps9,hsd,show j=gf.x.ss.length by omega,List.take_length];exact gf.x.sd⟩ ⟨p1,c1,h1.row⟩ gf.x.b ⟨p2,c2,h2.row⟩,Ux gf.x hfin⟩,gf.ob,hw.asunder (i:=1) (j:=5) rfl rfl (by decide) rfl,hw.asunder (i:=0) (j:=5) rfl rfl (by decide) rfl⟩ (EN (S:=λ_=>False) hw 1 rfl h1 (Aj BP _)) (YK (Eu hw 4 rfl (At.wm lgf))) (EN (S:=λ_=>False) hw 0 rfl h2 (Aj Aq _)) (VP hw 7 rfl (At.wmf lgf)) rfl)))))))
theorem RC (m:MQ) (w:World) {S:Nat->Prop} (hm:Ro S w m):Calls Tryz.prog 11 #[(aG (EJ m))] w (Bc (MF m) S w):=(Qi m w hm).mono λe w1 h=>h.ofMGF
theorem Sg (m:MQ) (w:World) {S:Nat->Prop} (hm:Ro S w m):Calls Tryz.prog 11 #[(aG (EJ m))] w (Bc MG S w):=(RC m w hm).mono λe w1 h=>h.ofMF
end
section
structure MX (ps : List Pt) (ts ss : List (Nat × Nat × Nat)) where
  a : RX (rowsL An ps) ps.length
  b : RX (rowsL Ai ts) ts.length
  c : RX (rowsL Ai ss) ss.length
def B5 {ps : List Pt} {ts ss : List (Nat × Nat × Nat)} (x : MX ps ts ss) : List Value := [x.a.val, x.b.val, x.c.val]
theorem XJ {ps : List Pt} {ts ss : List (Nat × Nat × Nat)} {x : MX ps ts ss} {y : As} (hy : y ∈ [x.a.row, x.b.row, x.c.row]) : y.ro = true := by
  simp only [List.mem_cons, List.not_mem_nil, or_false] at hy
  rcases hy with rfl | rfl | rfl <;> rfl
instance {ps : List Pt} {ts ss : List (Nat × Nat × Nat)} : Dx (MX ps ts ss) := ⟨fun x => aG (B5 x), fun x => [x.a.row, x.b.row, x.c.row], fun x y hy => XJ hy⟩
def MG.mx (g : MG) : MX g.ps g.ts g.ss := ⟨g.a, g.b, g.c⟩
structure BX (cs : List Value) where
  b : Nat
instance {cs : List Value} : Dx (BX cs) := ⟨fun x => pP x.b 0, fun x => [AX (some ⟨x.b, 0, none⟩) cs], fun x y hy => by rcases List.mem_singleton.1 hy with rfl; rfl⟩
theorem FN {b : Nat} {T : TypeId} {cs : List Value} {o : Obj} (h : (Ac b T cs).P o) : (AX (some ⟨b, 0, none⟩) cs).P o := ⟨cs.toArray, T, (0, 0), h, by show (cs.toArray.toList.drop 0).take cs.length = cs; simp⟩
section
variable {S : Nat → Prop} {w W : World} {w0 : BJ} {L : List As} {ps : List Pt} {ts ss : List (Nat × Nat × Nat)} {cs : List Value}
theorem X8 {x : MX ps ts ss} (h : Ro S w x) : Ro S w x.a := fun y hy => by rcases List.mem_singleton.1 hy with rfl; exact h _ List.mem_cons_self
theorem XT {x : MX ps ts ss} (h : Ro S w x) : Ro S w x.b := fun y hy => by rcases List.mem_singleton.1 hy with rfl; exact h _ (List.mem_cons_of_mem _ List.mem_cons_self)
theorem Yd (hw : BK w0 w L) (i : Nat) {x : BX cs} (hi : L[i]? = some (AX (some ⟨x.b, 0, none⟩) cs)) (hb : w0.w.heap.size ≤ x.b) : Ro (SL w0 S L) w x := fun y hy => by
  rcases List.mem_singleton.1 hy with rfl
  exact ⟨hw.holds hi, fun c e => ⟨⟨_, List.mem_of_getElem? hi, rfl, e⟩, .inl (by injection e with e; rw [← e]; exact hb)⟩⟩
end
section
variable {P : Program} {ops : Array Oper} {rest : List Oper} {Q : Exit → Act → World → Prop} {n d : Nat} {F : List (Nat × Value)} {w0 : BJ} {S : Nat → Prop} {L : List As} {t : TypeId} {p : String} {af : Array Edge} {y : Operand} {f : FuncId} {xs : List Operand} {args : List Value} {ts : Array TypeId}
theorem AD.frzX (i : Nat) {b : Nat} {T : TypeId} {cs : List Value} (hi : L[i]? = some (Ac b T cs)) (hex : w0.ex = none) (next : w0.w.heap.size ≤ b → AD P ops rest Q n F w0 (L.set i (AX (some ⟨b, 0, none⟩) cs))) : AD P ops rest Q n F w0 L := fun a w ha hw => by
  refine next ?_ a w ha (hw.freeze hi rfl (fun o hp => FN hp) (fun e => by cases e))
  rcases (hw.2.1 _ (List.mem_of_getElem? hi) b rfl).1 with h1 | h1 | h1
  · cases h1
  · exact h1
  · rw [hex] at h1; cases h1
end
def M2 (n : Nat) (t : Nat × Nat × Nat) : Bool := decide (t.1 < n) && decide (t.2.1 < n) && decide (t.2.2 < n) && !decide (t.1 = t.2.1) && !decide (t.2.1 = t.2.2) && !decide (t.2.2 = t.1)
def Ba (n : Nat) (ts : List (Nat × Nat × Nat)) : Bool := ts.all (M2 n)
theorem QL {ps : List Pt} {ts : List (Nat × Nat × Nat)} (h : GoodM ps ts) : Ba ps.length ts = true := List.all_eq_true.2 fun t ht => by
  obtain ⟨j, hj, rfl⟩ := List.getElem_of_mem ht
  have k := h.tri j hj
  rw [show ts.getD j (0, 0, 0) = ts[j] by rw [List.getD, List.getElem?_eq_getElem hj]; rfl] at k
  simp [M2, k.a, k.b, k.c, k.ab, k.bc, k.ca]
theorem DN {n : Nat} {ts : List (Nat × Nat × Nat)} (h : Ba n ts = true) {j : Nat} (hj : j < ts.length) : M2 n (ts.getD j (0, 0, 0)) = true := by
  rw [List.getD, List.getElem?_eq_getElem hj]
  exact List.all_eq_true.1 h _ (List.getElem_mem hj)
theorem DE {n : Nat} {t : Nat × Nat × Nat} (h : M2 n t = true) : t.1 < n ∧ t.2.1 < n ∧ t.2.2 < n := by
  simp [M2] at h; omega
def idxB (n : Nat) : List (Nat × Nat × Nat) → Nat → Int
  | [], _ => -1
  | t :: r, i => if M2 n t = true then idxB n r (i + 1) else (i : Int)
theorem Mo {α : Type} {ts : List α} {d : α} {j : Nat} (hj : j < ts.length) : ts.drop j = ts.getD j d :: ts.drop (j + 1) := by
  rw [List.drop_eq_getElem_cons hj, List.getD, List.getElem?_eq_getElem hj]; rfl
theorem QT {n : Nat} {ts : List (Nat × Nat × Nat)} {j : Nat} (hj : j < ts.length) (h : M2 n (ts.getD j (0, 0, 0)) = true) : idxB n (ts.drop j) j = idxB n (ts.drop (j + 1)) (j + 1) := by
  rw [Mo (d := (0, 0, 0)) hj]; exact if_pos h
theorem TZ {n : Nat} {ts : List (Nat × Nat × Nat)} {j : Nat} (hj : j < ts.length) (h : M2 n (ts.getD j (0, 0, 0)) = false) : idxB n (ts.drop j) j = (j : Int) := by
  rw [Mo (d := (0, 0, 0)) hj]; exact if_neg (by rw [h]; exact Bool.false_ne_true)
theorem Sj {n : Nat} {ts : List (Nat × Nat × Nat)} {j : Nat} (hj : ¬ j < ts.length) : idxB n (ts.drop j) j = -1 := by
  rw [List.drop_of_length_le (by omega)]; rfl
theorem LU (n : Nat) : ∀ (ts : List (Nat × Nat × Nat)) (i : Nat), decide (0 ≤ idxB n ts i) = !Ba n ts
  | [], i => rfl
  | t :: r, i => by
    unfold idxB Ba
    rw [List.all_cons]
    cases h : M2 n t with
    | true => rw [if_pos rfl, Bool.true_and]; exact LU n r (i + 1)
    | false => rw [if_neg Bool.false_ne_true, Bool.false_and]; simp
def RP (ps : List Pt) (k : Nat) : Pt := ps.getD k ⟨0, 0⟩
end
end Go.Proofs.YtfbomiejpbchdaaGreat
