import Derived.Test.YtfbomiejpbchdaaGreatPart06
import Derived.Test.YtfbomiejpbchdaaGreatPart14
import Derived.Test.YtfbomiejpbchdaaGreatPart25
import Derived.Test.YtfbomiejpbchdaaGreatPart26
namespace Go.Proofs.YtfbomiejpbchdaaGreat
open Go Go.RowKit
set_option linter.unusedVariables false
set_option linter.unusedSimpArgs false
section
set_option maxRecDepth 100000
theorem Yu:ElemT Tryz.prog 29 44 3 24:=⟨Tryz.underlying29,EX (by kernel_rfl)⟩
theorem YA:ElemT Tryz.prog 27 55 10 112:=⟨Tryz.underlying27,EX (by kernel_rfl)⟩
theorem KP (x0:Pt):Instr.fill (λi=>some (i*10,10)) ((Array.range (1*10)).map ((Value.agg (Ae (⟨0,0⟩:Pt)).toArray).cells[·%(Value.agg (Ae (⟨0,0⟩:Pt)).toArray).cells.size]!)) [(0,.agg (Ae x0).toArray)]=some (Ae x0).toArray:=by kernel_rfl
theorem KI (x0:Nat×Nat×Nat):Instr.fill (λi=>some (i*3,3)) ((Array.range (1*3)).map ((Value.agg (Al ((0,0,0):Nat×Nat×Nat)).toArray).cells[·%(Value.agg (Al ((0,0,0):Nat×Nat×Nat)).toArray).cells.size]!)) [(0,.agg (Al x0).toArray)]=some (Al x0).toArray:=by kernel_rfl
set_option maxHeartbeats 2000000 in
theorem Qr (m:MQ) (w:World) {S:Nat->Prop} (hm:Ro S w m):Calls Tryz.prog 11 #[(aG (Eu m))] w (Bp (YQ m) (λ_=>False) w):=by
 have hd:=m.hden
 have hdm:B3 m<256:=by unfold B3;omega
 have lm:=FS (W:=w) hm
 refine BH (args:=[(aG (Eu m))]) (L:=[Ag m.p (C8 m.cs)]) Tryz.func11 rfl rfl (Ad rfl) (FP hm BY) (AG.subF (sL [0] rfl) (q4 (Bl (cs:=Eu m) rfl λb1=>al NS rfl λb2=>q3 (sL [1,2] rfl) ?_)))
 refine A7 1 NG rfl (AF.callR (S:=λ_=>False) (α:=Xr m) (args:=[(aG (Eu m))]) Tryz.call44 (λw hw=>(Pr m w (Dn hw 2 rfl lm)).mono λe w1 h=>h.weak λb k=>k.elim) rfl rfl rfl λgf lgf=>al Xx rfl λb3=>Ap rfl Tryz.sizeOf99 rfl (q3 (sL [1,2,3] rfl) (al NS rfl λb4=>?_)))
 refine AF.nilRow 55 10 (AF.nilRow 44 3 (AF.nil (q2 (AJ (v:=(pP b1 7)) (AA rfl Tryz.underlying26 rfl Tryz.sizeOf5 rfl) rfl (BL 9 (vK .u8 m.den) Tn rfl ?_)))))
 refine AJ (CF (c:=((m.den%6:Nat):Int)) rfl rfl (by omega) (Ie (a:=m.den) (b:=6))) rfl (AJ (AX (c:=((B3 m:Nat):Int)) rfl rfl (Wr (a:=1) (b:=m.den%6) (by omega))) rfl (AJ (Az (c:=((B3 m:Nat):Int)) rfl Tryz.underlying5 Tryz.underlying101 (CY (by omega))) rfl (AK rfl (q6 (sL [1,2,3,4,5] rfl) (q4 ?_)))))
 refine AK rfl (AF.nil (AC.then_ (AG.block ?_)))
 refine AG.lp4 (tg λ(i:Nat) (p1:Option Addr) (c1:Nat) (ps:List Pt)=>i<=gf.x.pl.length/\OwnOk p1 ps.length c1/\ps=RL m (Fe m gf.x.pl) i) (tg λ(i:Nat) (p1:Option Addr) (c1:Nat) (ps:List Pt)=>[(2,(pP b2 0)),(3,(pP b3 0)),(4,(pP b4 0)),(5,(vK .u32 (B3 m))),(6,(vN i))]) (tg λ(i:Nat) (p1:Option Addr) (c1:Nat) (ps:List Pt)=>[rowW none 44 3 0 0 (rowsL Al ([])),rowW p1 55 10 ps.length c1 (rowsL Ae ps),Ah b4 31 ([(Value.slice p1 ps.length c1),(Value.slice none 0 0),(Value.slice none 0 0)]),Ah b3 99 ([(Value.slice gf.x.a.p gf.x.pl.length gf.x.a.c),(Value.slice gf.x.b.p gf.x.ts.length gf.x.b.c),(Value.slice gf.x.c.p gf.x.ss.length gf.x.c.c)]),Ag gf.x.a.p (rowsL CT (Fe m gf.x.pl)),Ag gf.x.b.p (rowsL Al gf.x.ts),Ag gf.x.c.p (rowsL Al gf.x.ss),Mn gf,Ah b2 31 ([(Value.slice none 0 0),(Value.slice none 0 0),(Value.slice none 0 0)]),Ah b1 26 (Eu m),Ag m.p (C8 m.cs)]) (tg λ(i:Nat) (p1:Option Addr) (c1:Nat) (ps:List Pt)=>gf.x.pl.length-i) 0 none 0 ([]:List Pt) (⟨Nat.zero_le _,OwnOk.none,rfl⟩) (sF rfl) sr (λi p1 c1 ps hJ=>?_)
 obtain ⟨hi,h1,hps⟩:=hJ
 have hzl:(Fe m gf.x.pl).length=gf.x.pl.length:=by simp [Fe]
 have hll:=gf.x.inv.pll
 have hcl:=Hj m
 have hpl:ps.length<=108:=by rw [hps,Ja (by rw [hzl];omega)];omega
 refine AG.seq (q4 (AO rfl (AJ (v:=(pP b3 0)) (AA rfl Tryz.underlying99 rfl Tryz.sizeOf97 rfl) rfl (BL 3 (Value.slice gf.x.a.p gf.x.pl.length gf.x.a.c) RG rfl (AJ (v:=(vN gf.x.pl.length)) (AI rfl Tryz.underlying97) rfl ?_)))))
 refine AJ (Af (c:=(decide (i<gf.x.pl.length))) rfl rfl (DL (a:=i) (b:=gf.x.pl.length))) rfl (AF.nil (AC.subF (sL [2,3,4,5,6,20] rfl) (AC.then_ ?_)))
 refine AG.cond rfl (λhc0=>?_) (λhc0=>?_)
 ·replace hc0:=of_decide_eq_true hc0
  refine AG.skip (q1 (AG.block (AG.seq (Cq [(0,true),(1,true),(2,true),(3,true),(4,true),(5,true),(6,true),(7,true),(8,true),(9,true),(10,true),(11,true),(12,true),(13,true),(14,true),(15,true),(16,true),(17,false),(18,false)] sr (Av (v:=(pP b3 0)) rfl (AA rfl Tryz.underlying99 rfl Tryz.sizeOf97 rfl) ?_)))))
  refine Bg 3 (Value.slice gf.x.a.p gf.x.pl.length gf.x.a.c) RG rfl (Bc rfl (Av (v:=(pP (pB gf.x.a.p) (pO gf.x.a.p+i*2))) rfl (AW (j:=i) rfl rfl gf.x.a.ok Tryz.underlying97 Tryz.sizeOf102 rfl (by omega)) (Av (v:=(pP (pB gf.x.a.p) (pO gf.x.a.p+(i*2+0)))) rfl (AE (j:=0) rfl rfl Tryz.underlying102 Tryz.sizeOf2 rfl (by decide) (Nat.add_assoc _ _ _)) (Av rfl (BK (v:=(vI (((Fe m gf.x.pl).getD i ((0,0):Int×Int)).1))) (i:=4) rfl rfl (BQ.ne gf.x.a.ok (by omega)) My (ER Fu ((0,0):Int×Int) _ _ 0 (by omega) (by decide) rfl)) (Bc rfl ?_)))))
  refine Av (v:=(aG ([(vI (((Fe m gf.x.pl).getD i ((0,0):Int×Int)).1)),(vK .u32 (B3 m))]))) rfl (AY (zs:=[(vI 0),(Value.int .u32 (0:Int))]) (vs:=[(vI (((Fe m gf.x.pl).getD i ((0,0):Int×Int)).1)),(vK .u32 (B3 m))]) (pv:=[(0,(vI (((Fe m gf.x.pl).getD i ((0,0):Int×Int)).1))),(1,(vK .u32 (B3 m)))]) (places:=[(0,1),(1,1)]) Tryz.zeroValue104 Tryz.underlying104 (λw=>by simp [Tryz.sizeOf2,Tryz.sizeOf101]) rfl rfl) (Av (v:=(pP b3 0)) rfl (AA rfl Tryz.underlying99 rfl Tryz.sizeOf97 rfl) (Bg 3 (Value.slice gf.x.a.p gf.x.pl.length gf.x.a.c) RG rfl (Bc rfl (Av (v:=(pP (pB gf.x.a.p) (pO gf.x.a.p+i*2))) rfl (AW (j:=i) rfl rfl gf.x.a.ok Tryz.underlying97 Tryz.sizeOf102 rfl (by omega)) (Av (v:=(pP (pB gf.x.a.p) (pO gf.x.a.p+(i*2+1)))) rfl (AE (j:=1) rfl rfl Tryz.underlying102 Tryz.sizeOf2 rfl (by decide) (Nat.add_assoc _ _ _)) ?_)))))
  refine Av rfl (BK (v:=(vI (((Fe m gf.x.pl).getD i ((0,0):Int×Int)).2))) (i:=4) rfl rfl (BQ.ne gf.x.a.ok (by omega)) My (ER Fu ((0,0):Int×Int) _ _ 1 (by omega) (by decide) rfl)) (Bc rfl (Av (v:=(aG ([(vI (((Fe m gf.x.pl).getD i ((0,0):Int×Int)).2)),(vK .u32 (B3 m))]))) rfl (AY (zs:=[(vI 0),(Value.int .u32 (0:Int))]) (vs:=[(vI (((Fe m gf.x.pl).getD i ((0,0):Int×Int)).2)),(vK .u32 (B3 m))]) (pv:=[(0,(vI (((Fe m gf.x.pl).getD i ((0,0):Int×Int)).2))),(1,(vK .u32 (B3 m)))]) (places:=[(0,1),(1,1)]) Tryz.zeroValue104 Tryz.underlying104 (λw=>by simp [Tryz.sizeOf2,Tryz.sizeOf101]) rfl rfl) (Av (v:=(aG ([(vI (((Fe m gf.x.pl).getD i ((0,0):Int×Int)).1)),(vK .u32 (B3 m)),(vI (((Fe m gf.x.pl).getD i ((0,0):Int×Int)).2)),(vK .u32 (B3 m))]))) rfl (AY (zs:=[(vI 0),(Value.int .u32 (0:Int)),(vI 0),(Value.int .u32 (0:Int))]) (vs:=[(vI (((Fe m gf.x.pl).getD i ((0,0):Int×Int)).1)),(vK .u32 (B3 m)),(vI (((Fe m gf.x.pl).getD i ((0,0):Int×Int)).2)),(vK .u32 (B3 m))]) (pv:=[(0,(aG ([(vI (((Fe m gf.x.pl).getD i ((0,0):Int×Int)).1)),(vK .u32 (B3 m))]))),(1,(aG ([(vI (((Fe m gf.x.pl).getD i ((0,0):Int×Int)).2)),(vK .u32 (B3 m))])))]) (places:=[(0,2),(2,2)]) Tryz.zeroValue106 Tryz.underlying106 (λw=>by simp [Tryz.sizeOf104]) rfl rfl) (AS.imp rfl (al Yp rfl λb5=>?_)))))
  refine AS.back (sl sr) (AS.imp rfl (Ap rfl Tryz.sizeOf106 rfl (AS.back (sl sr) (AS.nil (AC.subF (sL [2,3,4,5,6,7] rfl) ?_)))))
  refine AC.then_ (rC [(0,true),(1,true),(2,true),(3,false),(4,false),(5,false),(6,true)] 7 [] (sk (sk (sl sr))) (sk (sk (sl sr))) (by kernel_rfl) (λ_ _ d _ _ h=>by cases d<;>exact h) (vE (v:=(pP b4 0)) rfl (AA rfl Tryz.underlying31 rfl Tryz.sizeOf27 rfl) rfl (vE rfl (AM (i:=2) (v:=(Value.slice p1 ps.length c1)) rfl rfl C2.a rfl) rfl (vE (v:=(aG ([(vI (((Fe m gf.x.pl).getD i ((0,0):Int×Int)).1)),(vK .u32 (B3 m)),(vI (((Fe m gf.x.pl).getD i ((0,0):Int×Int)).2)),(vK .u32 (B3 m))]))) rfl (Aa (i:=0) (vs:=[(vI (((Fe m gf.x.pl).getD i ((0,0):Int×Int)).1)),(vK .u32 (B3 m)),(vI (((Fe m gf.x.pl).getD i ((0,0):Int×Int)).2)),(vK .u32 (B3 m))]) rfl rfl XN.a XN.s rfl rfl) rfl (Cc.imp rfl ?_)))))
  refine BU Tryz.call45 (Xu (SH m ((Fe m gf.x.pl).getD i (0,0))) (XH gf.x.inv.small (by omega))) rfl (Cc.back (sk (sk (sl sr))) (Cc.imp rfl (AF.openV (V:=λb6=>(Value.slice (some ⟨b6,0,none⟩) 1 1)) (T:=55) (cs:=Ae (CJ (SH m ((Fe m gf.x.pl).getD i (0,0))))) (AN rfl) (BE (z:=.agg (Ae (⟨0,0⟩:Pt)).toArray) (cs:=Ae (CJ (SH m ((Fe m gf.x.pl).getD i (0,0))))) (pv:=[(0,(aG (Ae (CJ (SH m ((Fe m gf.x.pl).getD i (0,0)))))))]) Tryz.underlying27 Tryz.sizeOf55 Tryz.zeroValue55 (by decide) (by decide) rfl (KP (CJ (SH m ((Fe m gf.x.pl).getD i (0,0)))))) rfl (Ad rfl) λb6=>Cc.back (sl (sk (sk (sl sr)))) (Cc.imp rfl ?_))))
  refine AF.appendAt 3 (j:=0) (cs2:=rowsL Ae (ps++[CJ (SH m ((Fe m gf.x.pl).getD i (0,0)))])) YA rfl h1 (Ak BI _) rfl rfl rfl rfl rfl (by decide) (Kq (by omega)) (by omega) (by rw [BW];rfl) rfl λp_1 c_1 ho_1 hne_1=>Cc.back (sl (sk (sk (sl sr)))) (vE (v:=(pP b4 0)) rfl (AA rfl Tryz.underlying31 rfl Tryz.sizeOf27 rfl) rfl (Cc.cut rfl (GK 4 (off:=0) (vs:=[(Value.slice p_1 (ps.length+1) c_1)]) (cs':=[(Value.slice p_1 (ps.length+1) c_1),(Value.slice none 0 0),(Value.slice none 0 0)]) (AN rfl) rfl Tryz.sizeOf27 rfl (AS.back (sl (sk (sk (sl (sl sr))))) ?_))))
  refine AS.nil (AC.subF (sL [2,3,4,5,6,7] rfl) (AC.in_normal (AC.then_ (AG.region (AO rfl ?_)))))
  refine AJ (AX (c:=((i+1:Nat):Int)) rfl rfl (Ab (a:=i) (b:=1) (by omega))) rfl (AK rfl (AF.nil (AC.subF (sL [2,3,4,5,6,7] rfl) ?_)))
  rw [show ps.length+1=(ps++[CJ (SH m ((Fe m gf.x.pl).getD i (0,0)))]).length by simp]
  exact AC.round4 (i+1) p_1 c_1 (ps++[CJ (SH m ((Fe m gf.x.pl).getD i (0,0)))]) (⟨by omega,(by simpa using ho_1),by rw [hps,T0 (by rw [hzl];omega)]⟩) (by omega) (sF rfl) (sl (sl sr))
 ·replace hc0:=of_decide_eq_false hc0
  have hps9:ps.length=gf.x.pl.length:=by rw [hps,show i=gf.x.pl.length by omega,Ja (by rw [hzl];omega)]
  have hfin:ps=RL m (Fe m gf.x.pl) gf.x.pl.length:=by rw [hps,show i=gf.x.pl.length by omega]
  refine AG.exit (AC.then_exit (AC.round4_exit (AC.in_exit (q2 (AJ (v:=(pP b3 1)) (AA rfl Tryz.underlying99 rfl Tryz.sizeOf28 rfl) rfl ?_)))))
  refine BL 3 (Value.slice gf.x.b.p gf.x.ts.length gf.x.b.c) Dc rfl (AJ (v:=(pP b4 1)) (AA rfl Tryz.underlying31 rfl Tryz.sizeOf28 rfl) rfl (GK 2 (off:=1) (vs:=[(Value.slice gf.x.b.p gf.x.ts.length gf.x.b.c)]) (cs':=[(Value.slice p1 ps.length c1),(Value.slice gf.x.b.p gf.x.ts.length gf.x.b.c),(Value.slice none 0 0)]) (AN rfl) rfl Tryz.sizeOf28 rfl (q6 (sL [2,3,4,5,6] rfl) (q4 (AK rfl ?_)))))
  refine AF.nil (AC.then_ (AG.block ?_))
  refine AG.lp4 (tg λ(j:Nat) (p2:Option Addr) (c2:Nat) (ss:List (Nat×Nat×Nat))=>j<=gf.x.ss.length/\OwnOk p2 ss.length c2/\ss.length=j/\ss=gf.x.ss.take j) (tg λ(j:Nat) (p2:Option Addr) (c2:Nat) (ss:List (Nat×Nat×Nat))=>[(2,(pP b2 0)),(3,(pP b3 0)),(4,(pP b4 0)),(8,(vN j))]) (tg λ(j:Nat) (p2:Option Addr) (c2:Nat) (ss:List (Nat×Nat×Nat))=>[rowW p2 44 3 ss.length c2 (rowsL Al ss),rowW p1 55 10 ps.length c1 (rowsL Ae ps),Ah b4 31 ([(Value.slice p1 ps.length c1),(Value.slice gf.x.b.p gf.x.ts.length gf.x.b.c),(Value.slice p2 ss.length c2)]),Ah b3 99 ([(Value.slice gf.x.a.p gf.x.pl.length gf.x.a.c),(Value.slice gf.x.b.p gf.x.ts.length gf.x.b.c),(Value.slice gf.x.c.p gf.x.ss.length gf.x.c.c)]),Ag gf.x.a.p (rowsL CT (Fe m gf.x.pl)),Ag gf.x.b.p (rowsL Al gf.x.ts),Ag gf.x.c.p (rowsL Al gf.x.ss),Mn gf,Ah b2 31 ([(Value.slice none 0 0),(Value.slice none 0 0),(Value.slice none 0 0)]),Ah b1 26 (Eu m),Ag m.p (C8 m.cs)]) (tg λ(j:Nat) (p2:Option Addr) (c2:Nat) (ss:List (Nat×Nat×Nat))=>gf.x.ss.length-j) 0 none 0 ([]:List (Nat×Nat×Nat)) (⟨Nat.zero_le _,OwnOk.none,rfl,rfl⟩) (sF rfl) sr (λj p2 c2 ss hJ=>?_)
  obtain ⟨hj,h2,hsl,hsd⟩:=hJ
  have hgs:=gf.x.sl
  refine AG.seq (q4 (AO rfl (AJ (v:=(pP b3 2)) (AA rfl Tryz.underlying99 rfl Tryz.sizeOf28 rfl) rfl (BL 3 (Value.slice gf.x.c.p gf.x.ss.length gf.x.c.c) Dc rfl (AJ (v:=(vN gf.x.ss.length)) (AI rfl Tryz.underlying28) rfl ?_)))))
  refine AJ (Af (c:=(decide (j<gf.x.ss.length))) rfl rfl (DL (a:=j) (b:=gf.x.ss.length))) rfl (AF.nil (AC.subF (sL [2,3,4,8,54] rfl) (AC.then_ ?_)))
  refine AG.cond rfl (λhc1=>?_) (λhc1=>?_)
  ·replace hc1:=of_decide_eq_true hc1
   refine AG.skip (q1 (AG.block (rC [(0,true),(1,true),(2,true),(3,true),(4,true),(5,true),(6,true),(7,true),(8,true),(9,true),(10,true),(11,true),(12,true),(13,true),(14,true),(15,true),(16,true),(17,true),(18,true),(19,true),(20,true),(21,false),(22,false),(23,true)] 24 [] (sl sr) (sk (sl sr)) (by kernel_rfl) (λ_ _ d _ _ h=>by cases d<;>exact h) (vE (v:=(pP b4 2)) rfl (AA rfl Tryz.underlying31 rfl Tryz.sizeOf29 rfl) rfl (vE rfl (AM (i:=1) (v:=(Value.slice p2 ss.length c2)) rfl rfl IY.a rfl) rfl ?_)))))
   refine vE (v:=(pP b3 2)) rfl (AA rfl Tryz.underlying99 rfl Tryz.sizeOf28 rfl) rfl (vE rfl (AM (i:=2) (v:=(Value.slice gf.x.c.p gf.x.ss.length gf.x.c.c)) rfl rfl Dc.a rfl) rfl (vM rfl rfl rfl (vE (v:=(pP (pB gf.x.c.p) (pO gf.x.c.p+j*3))) rfl (AW (j:=j) rfl rfl gf.x.c.ok Tryz.underlying28 Tryz.sizeOf76 rfl (by omega)) rfl (vE (v:=(pP (pB gf.x.c.p) (pO gf.x.c.p+(j*3+0)))) rfl (AE (j:=0) rfl rfl Tryz.underlying76 Tryz.sizeOf3 rfl (by decide) (Nat.add_assoc _ _ _)) rfl (vE rfl (BK (v:=(vN ((gf.x.ss.getD j ((0,0,0):Nat×Nat×Nat)).1))) (i:=5) rfl rfl (BQ.ne gf.x.c.ok (by omega)) B4 (ER A6 ((0,0,0):Nat×Nat×Nat) _ _ 0 (by omega) (by decide) rfl)) rfl ?_)))))
   refine vE (v:=(pP b3 2)) rfl (AA rfl Tryz.underlying99 rfl Tryz.sizeOf28 rfl) rfl (vE rfl (AM (i:=2) (v:=(Value.slice gf.x.c.p gf.x.ss.length gf.x.c.c)) rfl rfl Dc.a rfl) rfl (vM rfl rfl rfl (vE (v:=(pP (pB gf.x.c.p) (pO gf.x.c.p+j*3))) rfl (AW (j:=j) rfl rfl gf.x.c.ok Tryz.underlying28 Tryz.sizeOf76 rfl (by omega)) rfl (vE (v:=(pP (pB gf.x.c.p) (pO gf.x.c.p+(j*3+1)))) rfl (AE (j:=1) rfl rfl Tryz.underlying76 Tryz.sizeOf3 rfl (by decide) (Nat.add_assoc _ _ _)) rfl (vE rfl (BK (v:=(vN ((gf.x.ss.getD j ((0,0,0):Nat×Nat×Nat)).2.1))) (i:=5) rfl rfl (BQ.ne gf.x.c.ok (by omega)) B4 (ER A6 ((0,0,0):Nat×Nat×Nat) _ _ 1 (by omega) (by decide) rfl)) rfl ?_)))))
   refine vE (v:=(pP b3 2)) rfl (AA rfl Tryz.underlying99 rfl Tryz.sizeOf28 rfl) rfl (vE rfl (AM (i:=2) (v:=(Value.slice gf.x.c.p gf.x.ss.length gf.x.c.c)) rfl rfl Dc.a rfl) rfl (vM rfl rfl rfl (vE (v:=(pP (pB gf.x.c.p) (pO gf.x.c.p+j*3))) rfl (AW (j:=j) rfl rfl gf.x.c.ok Tryz.underlying28 Tryz.sizeOf76 rfl (by omega)) rfl (vE (v:=(pP (pB gf.x.c.p) (pO gf.x.c.p+(j*3+2)))) rfl (AE (j:=2) rfl rfl Tryz.underlying76 Tryz.sizeOf3 rfl (by decide) (Nat.add_assoc _ _ _)) rfl (vE rfl (BK (v:=(vN ((gf.x.ss.getD j ((0,0,0):Nat×Nat×Nat)).2.2))) (i:=5) rfl rfl (BQ.ne gf.x.c.ok (by omega)) B4 (ER A6 ((0,0,0):Nat×Nat×Nat) _ _ 2 (by omega) (by decide) rfl)) rfl ?_)))))
   refine vE (v:=(aG ([(vN ((gf.x.ss.getD j ((0,0,0):Nat×Nat×Nat)).1)),(vN ((gf.x.ss.getD j ((0,0,0):Nat×Nat×Nat)).2.1)),(vN ((gf.x.ss.getD j ((0,0,0):Nat×Nat×Nat)).2.2))]))) rfl (AY (zs:=Al ((0,0,0):Nat×Nat×Nat)) (vs:=[(vN ((gf.x.ss.getD j ((0,0,0):Nat×Nat×Nat)).1)),(vN ((gf.x.ss.getD j ((0,0,0):Nat×Nat×Nat)).2.1)),(vN ((gf.x.ss.getD j ((0,0,0):Nat×Nat×Nat)).2.2))]) (pv:=[(0,(vN ((gf.x.ss.getD j ((0,0,0):Nat×Nat×Nat)).1))),(1,(vN ((gf.x.ss.getD j ((0,0,0):Nat×Nat×Nat)).2.1))),(2,(vN ((gf.x.ss.getD j ((0,0,0):Nat×Nat×Nat)).2.2)))]) (places:=[(0,1),(1,1),(2,1)]) Tryz.zeroValue44 Tryz.underlying44 (λw=>by simp [Tryz.sizeOf3]) rfl rfl) rfl (Cc.imp rfl (AF.openV (V:=λb5=>(Value.slice (some ⟨b5,0,none⟩) 1 1)) (T:=44) (cs:=Al ((gf.x.ss.getD j ((0,0,0):Nat×Nat×Nat)).1,(gf.x.ss.getD j ((0,0,0):Nat×Nat×Nat)).2.1,(gf.x.ss.getD j ((0,0,0):Nat×Nat×Nat)).2.2)) (AN rfl) (BE (z:=.agg (Al ((0,0,0):Nat×Nat×Nat)).toArray) (cs:=Al ((gf.x.ss.getD j ((0,0,0):Nat×Nat×Nat)).1,(gf.x.ss.getD j ((0,0,0):Nat×Nat×Nat)).2.1,(gf.x.ss.getD j ((0,0,0):Nat×Nat×Nat)).2.2)) (pv:=[(0,(aG ([(vN ((gf.x.ss.getD j ((0,0,0):Nat×Nat×Nat)).1)),(vN ((gf.x.ss.getD j ((0,0,0):Nat×Nat×Nat)).2.1)),(vN ((gf.x.ss.getD j ((0,0,0):Nat×Nat×Nat)).2.2))])))]) Tryz.underlying29 Tryz.sizeOf44 Tryz.zeroValue44 (by decide) (by decide) rfl (KI ((gf.x.ss.getD j ((0,0,0):Nat×Nat×Nat)).1,(gf.x.ss.getD j ((0,0,0):Nat×Nat×Nat)).2.1,(gf.x.ss.getD j ((0,0,0):Nat×Nat×Nat)).2.2))) rfl (Ad rfl) λb5=>Cc.back (sl (sl sr)) (Cc.imp rfl (AF.append1 (j:=0) (cs2:=rowsL Al (ss++[((gf.x.ss.getD j ((0,0,0):Nat×Nat×Nat)).1,(gf.x.ss.getD j ((0,0,0):Nat×Nat×Nat)).2.1,(gf.x.ss.getD j ((0,0,0):Nat×Nat×Nat)).2.2)])) Yu rfl h2 (Ak A6 _) rfl rfl rfl rfl (by decide) (Kq (by omega)) (by omega) (by rw [BW];rfl) rfl λp_2 c_2 ho_2 hne_2=>?_))))
   refine Cc.back (sl (sl sr)) (vE (v:=(pP b4 2)) rfl (AA rfl Tryz.underlying31 rfl Tryz.sizeOf29 rfl) rfl (Cc.cut rfl (GK 3 (off:=2) (vs:=[(Value.slice p_2 (ss.length+1) c_2)]) (cs':=[(Value.slice p1 ps.length c1),(Value.slice gf.x.b.p gf.x.ts.length gf.x.b.c),(Value.slice p_2 (ss.length+1) c_2)]) (AN rfl) rfl Tryz.sizeOf29 rfl (AS.back (sl (sl (sk (sl sr)))) (AS.nil ?_)))))
   refine AC.subF (sL [2,3,4,8] rfl) (AC.in_normal (AC.then_ (AG.region (AO rfl (AJ (AX (c:=((j+1:Nat):Int)) rfl rfl (Ab (a:=j) (b:=1) (by omega))) rfl ?_)))))
   refine AK rfl (AF.nil (AC.subF (sL [2,3,4,8] rfl) ?_))
   rw [show ss.length+1=(ss++[((gf.x.ss.getD j ((0,0,0):Nat×Nat×Nat)).1,(gf.x.ss.getD j ((0,0,0):Nat×Nat×Nat)).2.1,(gf.x.ss.getD j ((0,0,0):Nat×Nat×Nat)).2.2)]).length by simp]
   exact AC.round4 (j+1) p_2 c_2 (ss++[((gf.x.ss.getD j ((0,0,0):Nat×Nat×Nat)).1,(gf.x.ss.getD j ((0,0,0):Nat×Nat×Nat)).2.1,(gf.x.ss.getD j ((0,0,0):Nat×Nat×Nat)).2.2)]) (⟨by omega,(by simpa using ho_2),by simp [hsl],by rw [hsd];exact (MT (by omega)).symm⟩) (by omega) (sF rfl) (sl sr)
  ·replace hc1:=of_decide_eq_false hc1
   refine AG.exit (AC.then_exit (AC.round4_exit (AC.in_exit (q2 (A7 2 DU rfl ?_)))))
   exact GK 8 (off:=0) (vs:=[(Value.slice p1 ps.length c1),(Value.slice gf.x.b.p gf.x.ts.length gf.x.b.c),(Value.slice p2 ss.length c2)]) (cs':=[(Value.slice p1 ps.length c1),(Value.slice gf.x.b.p gf.x.ts.length gf.x.b.c),(Value.slice p2 ss.length c2)]) (AN rfl) rfl Tryz.sizeOf31 rfl (AF.nil (AC.subF (sL [2,3,4,8] rfl) (AC.then_ (AG.ret (AR rfl (Ay (i:=8) (cs:=[(Value.slice p1 ps.length c1),(Value.slice gf.x.b.p gf.x.ts.length gf.x.b.c),(Value.slice p2 ss.length c2)]) rfl rfl Tryz.isAgg31 Tryz.sizeOf31 rfl) (λw hw=>(XX hw ⟨⟨MG.mk ps gf.x.ts ss (Wj gf.x hfin) (by have h9:=gf.x.sl;omega) ⟨m,by rw [hps9,hsd,show j=gf.x.ss.length by omega,List.take_length];exact gf.x.sd⟩ ⟨p1,c1,h1.row⟩ gf.x.b ⟨p2,c2,h2.row⟩,Vh gf.x hfin⟩,gf.ob,hw.asunder (i:=1) (j:=5) rfl rfl (by decide) rfl,hw.asunder (i:=0) (j:=5) rfl rfl (by decide) rfl⟩ (Fa (S:=λ_=>False) hw 1 rfl h1 (Ak BI _)) (Zb (Dn hw 4 rfl (At.wm lgf))) (Fa (S:=λ_=>False) hw 0 rfl h2 (Ak A6 _)) (WF hw 7 rfl (At.wmf lgf)) rfl)))))))
theorem Rl (m:MQ) (w:World) {S:Nat->Prop} (hm:Ro S w m):Calls Tryz.prog 11 #[(aG (Eu m))] w (Bp (MF m) S w):=(Qr m w hm).mono λe w1 h=>h.ofMGF
theorem SS (m:MQ) (w:World) {S:Nat->Prop} (hm:Ro S w m):Calls Tryz.prog 11 #[(aG (Eu m))] w (Bp MG S w):=(Rl m w hm).mono λe w1 h=>h.ofMF
end
section
structure MX (ps:List Pt) (ts ss:List (Nat×Nat×Nat)) where
  a:RX (rowsL Ae ps) ps.length
  b:RX (rowsL Al ts) ts.length
  c:RX (rowsL Al ss) ss.length
def CG {ps:List Pt} {ts ss:List (Nat×Nat×Nat)} (x:MX ps ts ss):List Value:=[x.a.val,x.b.val,x.c.val]
theorem Yd {ps:List Pt} {ts ss:List (Nat×Nat×Nat)} {x:MX ps ts ss} {y:As} (hy:y∈[x.a.row,x.b.row,x.c.row]):y.ro=true:=by
  simp only [List.mem_cons,List.not_mem_nil,or_false] at hy
  rcases hy with rfl|rfl|rfl<;>rfl
instance {ps:List Pt} {ts ss:List (Nat×Nat×Nat)}:D9 (MX ps ts ss):=⟨λx=>aG (CG x),λx=>[x.a.row,x.b.row,x.c.row],λx y hy=>Yd hy⟩
def MG.mx (g:MG):MX g.ps g.ts g.ss:=⟨g.a,g.b,g.c⟩
structure BX (cs:List Value) where
  b:Nat
instance {cs:List Value}:D9 (BX cs):=⟨λx=>pP x.b 0,λx=>[Ag (some ⟨x.b,0,none⟩) cs],λx y hy=>by rcases List.mem_singleton.1 hy with rfl;rfl⟩
theorem HA {b:Nat} {T:TypeId} {cs:List Value} {o:Obj} (h:(Ah b T cs).P o):(Ag (some ⟨b,0,none⟩) cs).P o:=⟨cs.toArray,T,(0,0),h,by show (cs.toArray.toList.drop 0).take cs.length=cs;simp⟩
section
variable {S:Nat->Prop} {w W:World} {w0:BP} {L:List As} {ps:List Pt} {ts ss:List (Nat×Nat×Nat)} {cs:List Value}
theorem Yl {x:MX ps ts ss} (h:Ro S w x):Ro S w x.a:=λy hy=>by rcases List.mem_singleton.1 hy with rfl;exact h _ List.mem_cons_self
theorem VV {x:MX ps ts ss} (h:Ro S w x):Ro S w x.b:=λy hy=>by rcases List.mem_singleton.1 hy with rfl;exact h _ (List.mem_cons_of_mem _ List.mem_cons_self)
theorem VE (hw:BR w0 w L) (i:Nat) {x:BX cs} (hi:L[i]?=some (Ag (some ⟨x.b,0,none⟩) cs)) (hb:w0.w.heap.size<=x.b):Ro (SL w0 S L) w x:=λy hy=>by
  rcases List.mem_singleton.1 hy with rfl
  exact ⟨hw.holds hi,λc e=>⟨⟨_,List.mem_of_getElem? hi,rfl,e⟩,.inl (by injection e with e;rw [<-e];exact hb)⟩⟩
end
section
variable {P:Program} {ops:Array Oper} {rest:List Oper} {Q:Exit->Act->World->Prop} {n d:Nat} {F:List (Nat×Value)} {w0:BP} {S:Nat->Prop} {L:List As} {t:TypeId} {p:String} {af:Array Edge} {y:Operand} {f:FuncId} {xs:List Operand} {args:List Value} {ts:Array TypeId}
theorem AF.frzX (i:Nat) {b:Nat} {T:TypeId} {cs:List Value} (hi:L[i]?=some (Ah b T cs)) (hex:w0.ex=none) (next:w0.w.heap.size<=b->AF P ops rest Q n F w0 (L.set i (Ag (some ⟨b,0,none⟩) cs))):AF P ops rest Q n F w0 L:=λa w ha hw=>by
  refine next ?_ a w ha (hw.freeze hi rfl (λo hp=>HA hp) (λe=>by cases e))
  rcases (hw.2.1 _ (List.mem_of_getElem? hi) b rfl).1 with h1|h1|h1
  · cases h1
  · exact h1
  · rw [hex] at h1;cases h1
end
def Lk (n:Nat) (t:Nat×Nat×Nat):Bool:=decide (t.1<n)&&decide (t.2.1<n)&&decide (t.2.2<n)&&!decide (t.1=t.2.1)&&!decide (t.2.1=t.2.2)&&!decide (t.2.2=t.1)
def B5 (n:Nat) (ts:List (Nat×Nat×Nat)):Bool:=ts.all (Lk n)
theorem Re {ps:List Pt} {ts:List (Nat×Nat×Nat)} (h:ET ps ts):B5 ps.length ts=true:=List.all_eq_true.2 λt ht=>by
  obtain ⟨j,hj,rfl⟩:=List.getElem_of_mem ht
  have k:=h.tri j hj
  rw [show ts.getD j (0,0,0)=ts[j] by rw [List.getD,List.getElem?_eq_getElem hj];rfl] at k
  simp [Lk,k.a,k.b,k.c,k.ab,k.bc,k.ca]
theorem Cv {n:Nat} {ts:List (Nat×Nat×Nat)} (h:B5 n ts=true) {j:Nat} (hj:j<ts.length):Lk n (ts.getD j (0,0,0))=true:=by
  rw [List.getD,List.getElem?_eq_getElem hj]
  exact List.all_eq_true.1 h _ (List.getElem_mem hj)
theorem DH {n:Nat} {t:Nat×Nat×Nat} (h:Lk n t=true):t.1<n/\t.2.1<n/\t.2.2<n:=by
  simp [Lk] at h;omega
def idxB (n:Nat):List (Nat×Nat×Nat)->Nat->Int
  | [],_ => -1
  | t::r,i=>if Lk n t=true then idxB n r (i+1) else (i:Int)
theorem Mm {α:Type} {ts:List α} {d:α} {j:Nat} (hj:j<ts.length):ts.drop j=ts.getD j d::ts.drop (j+1):=by
  rw [List.drop_eq_getElem_cons hj,List.getD,List.getElem?_eq_getElem hj];rfl
theorem Rn {n:Nat} {ts:List (Nat×Nat×Nat)} {j:Nat} (hj:j<ts.length) (h:Lk n (ts.getD j (0,0,0))=true):idxB n (ts.drop j) j=idxB n (ts.drop (j+1)) (j+1):=by
  rw [Mm (d:=(0,0,0)) hj];exact if_pos h
theorem SI {n:Nat} {ts:List (Nat×Nat×Nat)} {j:Nat} (hj:j<ts.length) (h:Lk n (ts.getD j (0,0,0))=false):idxB n (ts.drop j) j=(j:Int):=by
  rw [Mm (d:=(0,0,0)) hj];exact if_neg (by rw [h];exact Bool.false_ne_true)
theorem US {n:Nat} {ts:List (Nat×Nat×Nat)} {j:Nat} (hj:¬j<ts.length):idxB n (ts.drop j) j = -1:=by
  rw [List.drop_of_length_le (by omega)];rfl
theorem Lu (n:Nat):∀(ts:List (Nat×Nat×Nat)) (i:Nat),decide (0<=idxB n ts i)=!B5 n ts
  | [],i=>rfl
  | t::r,i=>by
    unfold idxB B5
    rw [List.all_cons]
    cases h:Lk n t with
    | true=>rw [if_pos rfl,Bool.true_and];exact Lu n r (i+1)
    | false=>rw [if_neg Bool.false_ne_true,Bool.false_and];simp
def cor (ps:List Pt) (k:Nat):Pt:=ps.getD k ⟨0,0⟩
def GA (a b c p:Pt):Nat:=if AQ a b c=0 then 0 else F7 (AQ p b c/AQ a b c) (AQ a p c/AQ a b c) (AQ a b p/AQ a b c)
def KT (ps:List Pt) (q:Pt) (t:Nat×Nat×Nat):Nat:=GA (cor ps t.1) (cor ps t.2.1) (cor ps t.2.2) q
end
end Go.Proofs.YtfbomiejpbchdaaGreat
