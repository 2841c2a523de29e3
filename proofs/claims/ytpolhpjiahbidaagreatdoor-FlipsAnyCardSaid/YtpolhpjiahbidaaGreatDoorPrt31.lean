import Derived.Test.YtpolhpjiahbidaaGreatDoorTie
import Derived.Test.YtpolhpjiahbidaaGreatDoorCards
import Derived.ProofKit
import Derived.Carry
import Derived.Stop.Joined
import Derived.SevenTiedAt
import Derived.OpenShut
import Derived.Test.YtpolhpjiahbidaaGreatDoorPrt30
namespace Go.Proofs.YtpolhpjiahbidaaGreatDoor
open Go Go.RowKit Go.Proofs.Tryz
open Go.Value renaming slice→qz,bool→qa
set_option linter.unusedVariables false
set_option linter.unusedSimpArgs false
section
set_option maxRecDepth 100000
theorem aV {r:RW} {u v:Int} {i:Nat} (h:i<(Jx r.ps r.ts u v).length):PW ((Jx r.ps r.ts u v).getD i ⟨0,0⟩)/\BV ((Jx r.ps r.ts u v).getD i ⟨0,0⟩)<=1000:=by
 rcases Mx (ps:=r.ps) (zt:=r.ts) (x:=u) (y:=v) with e|e
 ·rw [e] at h ⊢
  exact ⟨r.pw i h,Ip r i⟩
 ·rw [e] at h;cases h
theorem Yo {ps:List Pt} {zt:List Z3} {u v:Int}:(Jx ps zt u v).length<=ps.length:=by
 rcases Mx (ps:=ps) (zt:=zt) (x:=u) (y:=v) with e|e
 ·rw [e];exact Nat.le_refl _
 ·rw [e];exact xu _
set_option maxHeartbeats 8000000 in
theorem Ob (r:RW) (u v:Int) (w:World) {S:Nat->Prop} (hr:Ro S w r) (hT:Kh w):Calls prog 6 #[(aG (FN r)),(vI u),(vI v)] w (H3 w (qa true)):=by
 have hrp:=r.pl
 have hf1:=Yo (ps:=r.ps) (zt:=r.ts) (u:=u) (v:=v)
 have hf2:=Yq (ps:=r.ps) (zt:=r.ts) (x:=u) (y:=v)
 have hf3:=Yp (ps:=r.ps) (zt:=r.ts) (ss:=r.ss) (x:=u) (y:=v)
 have hlf:=bZ (ps:=r.ps) (zt:=r.ts) (λk=>Ip r k)
 have hT:=Lu hT
 have lr:=Bq (W:=z0 w) hr
 refine Km (args:=[(aG (FN r)),(vI u),(vI v)]) (L:=[AC r.a.p (rowsL F0 r.ds),AC r.b.p (rowsL Af r.ts),AC r.c.p (rowsL Af r.ss)]) func6 O O (leB O) (C7 hr Ae) (zM (sL [0,1,2] O) (q4 (BG (cs:=FN r) O λb1=>asg' O (q6 (sL [1,2,3,6] O) (q4 (An 0 Px O (Bx call8 (λw hw=>U0 r w (inS hw 1 O lr)) O (oNl' (zF (sL [1,2,3,6,17] O) (zC ?_))))))))))
 refine zO O (λhc0=>?_) (λhc0=>?_)
 ·exact q4 (Bx call25 (λw hw=>LS w (hT.below hw.out)) O (asg' O (oNl' (zF (sL [1,2,3,6] O) (zC (zH (zI (ret_one O (rd_tmp (v:=(qa true)) O) (λw hw=>⟨rfl,hw.outB⟩)))))))))
 ·have hgr:JG r=false:=hc0
  obtain ⟨hr1,hr2,hr3⟩:=V7 (r:=r) hgr
  refine zJ (q2 (An 0 Px O (yE (S:=S) (α:=MZ r.ps r.ts r.ss) (args:=[(aG (FN r))]) call10 (λw hw=>U7 r hr1 hr2 hr3 w (inS hw 1 O lr)) O O O λm lm=>al Hw O λb2=>Aj O sizeOf30 O (q3 (sL [1,2,3,6,7] O) (An 0 Bu O (AJ O (AJ O (Bx call26 (λw hw=>YK m u v (λk=>Ip r k) (by rw [r.pl];omega) Z w (inS hw 1 O lm)) O (AJ O ?_)))))))))
  refine st' (AK (v:=(qa (dB r.ps r.ts u v))) O O) O (st' (AK (v:=(vN (aN r.ps.length r.ts u v))) O O) O (asg' O (asg' O (q3 (sL [1,2,3,6,7,8,9] O) (An 4 Px O (yE (S:=S) (α:=Hy r.ps r.ts r.ss) (args:=[(aG (FN r))]) call13 (λw hw=>KD r hr1 hr2 hr3 w (inS hw 5 O lr)) O O O λo1 lo1=>yc (L2:=(AC o1.a.p (rowsL CW o1.rs)::AC o1.b.p (rowsL Af r.ts)::AC o1.c.p (rowsL Af r.ss)::AU b2 30 (Cv m)::AC m.a.p (rowsL Ad r.ps)::AC m.b.p (rowsL Af r.ts)::AC m.c.p (rowsL Af r.ss)::AU b1 26 (FN r)::AC r.a.p (rowsL F0 r.ds)::AC r.b.p (rowsL Af r.ts)::AC r.c.p (rowsL Af r.ss)::B5 o1.rs)) (show List.Perm _ (AC o1.a.p (rowsL CW o1.rs)::AC o1.b.p (rowsL Af r.ts)::AC o1.c.p (rowsL Af r.ss)::AU b2 30 (Cv m)::AC m.a.p (rowsL Ad r.ps)::AC m.b.p (rowsL Af r.ts)::AC m.c.p (rowsL Af r.ss)::AU b1 26 (FN r)::AC r.a.p (rowsL F0 r.ds)::AC r.b.p (rowsL Af r.ts)::AC r.c.p (rowsL Af r.ss)::B5 o1.rs) from Ld [AC o1.a.p (rowsL CW o1.rs),AC o1.b.p (rowsL Af r.ts),AC o1.c.p (rowsL Af r.ss)] (B5 o1.rs) [AU b2 30 (Cv m),AC m.a.p (rowsL Ad r.ps),AC m.b.p (rowsL Af r.ts),AC m.c.p (rowsL Af r.ss),AU b1 26 (FN r),AC r.a.p (rowsL F0 r.ds),AC r.b.p (rowsL Af r.ts),AC r.c.p (rowsL Af r.ss)]) (AJ O (AJ O (Bx call27 (λw hw=>XA o1 u v (λk=>Ip r k) (by rw [r.pl];omega) Z w (WE (x:=o1) hw 0 O 11 (λz hz=>hz) lo1)) O (AJ O ?_))))))))))
  refine st' (AK (v:=(qa (dB r.ps r.ts u v))) O O) O (st' (AK (v:=(vN (aN r.ps.length r.ts u v))) O O) O (asg' O (asg' O (q3 (sL [1,2,3,6,7,8,9,10,11] O) (An 3 Bu O (AJ O (AJ O (yE (S:=S) (α:=dH (Jx r.ps r.ts u v) (IZ r.ps r.ts u v) (IY r.ps r.ts r.ss u v) (YB r.ps r.ts u v)) (args:=[(aG (Cv m)),(vI u),(vI v)]) call28 (λw hw=>YJ m u v (λk=>Ip r k) (by rw [r.pl];omega) Z Z w (inS hw 4 O lm)) O O O λga lga=>AJ O (st' (AK (v:=(aG (Cv ga.x))) O O) O (st' (AK (v:=(vN (YB r.ps r.ts u v))) O O) O ?_))))))))))
  refine al Hw O λb3=>Aj O sizeOf30 O (asg' O (q3 (sL [1,2,3,6,7,8,9,10,11,12,13] O) (An 11 Px O (yE (S:=S) (α:=Hy r.ps r.ts r.ss) (args:=[(aG (FN r))]) call13 (λw hw=>KD r hr1 hr2 hr3 w (inS hw 12 O lr)) O O O λo2 lo2=>yc (L2:=(AC o2.a.p (rowsL CW o2.rs)::AC o2.b.p (rowsL Af r.ts)::AC o2.c.p (rowsL Af r.ss)::AU b3 30 (Cv ga.x)::AC ga.x.a.p (rowsL Ad (Jx r.ps r.ts u v))::AC ga.x.b.p (rowsL Af (IZ r.ps r.ts u v))::AC ga.x.c.p (rowsL Af (IY r.ps r.ts r.ss u v))::AC o1.a.p (rowsL CW o1.rs)::AC o1.b.p (rowsL Af r.ts)::AC o1.c.p (rowsL Af r.ss)::AU b2 30 (Cv m)::AC m.a.p (rowsL Ad r.ps)::AC m.b.p (rowsL Af r.ts)::AC m.c.p (rowsL Af r.ss)::AU b1 26 (FN r)::AC r.a.p (rowsL F0 r.ds)::AC r.b.p (rowsL Af r.ts)::AC r.c.p (rowsL Af r.ss)::(B5 o1.rs++B5 o2.rs))) (show List.Perm _ (AC o2.a.p (rowsL CW o2.rs)::AC o2.b.p (rowsL Af r.ts)::AC o2.c.p (rowsL Af r.ss)::AU b3 30 (Cv ga.x)::AC ga.x.a.p (rowsL Ad (Jx r.ps r.ts u v))::AC ga.x.b.p (rowsL Af (IZ r.ps r.ts u v))::AC ga.x.c.p (rowsL Af (IY r.ps r.ts r.ss u v))::AC o1.a.p (rowsL CW o1.rs)::AC o1.b.p (rowsL Af r.ts)::AC o1.c.p (rowsL Af r.ss)::AU b2 30 (Cv m)::AC m.a.p (rowsL Ad r.ps)::AC m.b.p (rowsL Af r.ts)::AC m.c.p (rowsL Af r.ss)::AU b1 26 (FN r)::AC r.a.p (rowsL F0 r.ds)::AC r.b.p (rowsL Af r.ts)::AC r.c.p (rowsL Af r.ss)::(B5 o1.rs++B5 o2.rs)) from Ld [AC o2.a.p (rowsL CW o2.rs),AC o2.b.p (rowsL Af r.ts),AC o2.c.p (rowsL Af r.ss)] (B5 o2.rs) (AU b3 30 (Cv ga.x)::AC ga.x.a.p (rowsL Ad (Jx r.ps r.ts u v))::AC ga.x.b.p (rowsL Af (IZ r.ps r.ts u v))::AC ga.x.c.p (rowsL Af (IY r.ps r.ts r.ss u v))::AC o1.a.p (rowsL CW o1.rs)::AC o1.b.p (rowsL Af r.ts)::AC o1.c.p (rowsL Af r.ss)::AU b2 30 (Cv m)::AC m.a.p (rowsL Ad r.ps)::AC m.b.p (rowsL Af r.ts)::AC m.c.p (rowsL Af r.ss)::AU b1 26 (FN r)::AC r.a.p (rowsL F0 r.ds)::AC r.b.p (rowsL Af r.ts)::AC r.c.p (rowsL Af r.ss)::B5 o1.rs)) (AJ O (AJ O (yE (S:=S) (α:=X_ (Jx r.ps r.ts u v) (IZ r.ps r.ts u v) (IY r.ps r.ts r.ss u v) (YB r.ps r.ts u v)) (args:=[(aG (HN o2)),(vI u),(vI v)]) call29 (λw hw=>W_ o2 u v (λk=>Ip r k) (by rw [r.pl];omega) Z Z w (WE (x:=o2) hw 0 O 18 (λz hz=>(xt _ hz)) lo2)) O O O λgb lgb=>yc (L2:=(AC gb.x.a.p (rowsL CW gb.x.rs)::AC gb.x.b.p (rowsL Af (IZ r.ps r.ts u v))::AC gb.x.c.p (rowsL Af (IY r.ps r.ts r.ss u v))::AC o2.a.p (rowsL CW o2.rs)::AC o2.b.p (rowsL Af r.ts)::AC o2.c.p (rowsL Af r.ss)::AU b3 30 (Cv ga.x)::AC ga.x.a.p (rowsL Ad (Jx r.ps r.ts u v))::AC ga.x.b.p (rowsL Af (IZ r.ps r.ts u v))::AC ga.x.c.p (rowsL Af (IY r.ps r.ts r.ss u v))::AC o1.a.p (rowsL CW o1.rs)::AC o1.b.p (rowsL Af r.ts)::AC o1.c.p (rowsL Af r.ss)::AU b2 30 (Cv m)::AC m.a.p (rowsL Ad r.ps)::AC m.b.p (rowsL Af r.ts)::AC m.c.p (rowsL Af r.ss)::AU b1 26 (FN r)::AC r.a.p (rowsL F0 r.ds)::AC r.b.p (rowsL Af r.ts)::AC r.c.p (rowsL Af r.ss)::((B5 o1.rs++B5 o2.rs)++B5 gb.x.rs))) (show List.Perm _ (AC gb.x.a.p (rowsL CW gb.x.rs)::AC gb.x.b.p (rowsL Af (IZ r.ps r.ts u v))::AC gb.x.c.p (rowsL Af (IY r.ps r.ts r.ss u v))::AC o2.a.p (rowsL CW o2.rs)::AC o2.b.p (rowsL Af r.ts)::AC o2.c.p (rowsL Af r.ss)::AU b3 30 (Cv ga.x)::AC ga.x.a.p (rowsL Ad (Jx r.ps r.ts u v))::AC ga.x.b.p (rowsL Af (IZ r.ps r.ts u v))::AC ga.x.c.p (rowsL Af (IY r.ps r.ts r.ss u v))::AC o1.a.p (rowsL CW o1.rs)::AC o1.b.p (rowsL Af r.ts)::AC o1.c.p (rowsL Af r.ss)::AU b2 30 (Cv m)::AC m.a.p (rowsL Ad r.ps)::AC m.b.p (rowsL Af r.ts)::AC m.c.p (rowsL Af r.ss)::AU b1 26 (FN r)::AC r.a.p (rowsL F0 r.ds)::AC r.b.p (rowsL Af r.ts)::AC r.c.p (rowsL Af r.ss)::((B5 o1.rs++B5 o2.rs)++B5 gb.x.rs)) from Ld [AC gb.x.a.p (rowsL CW gb.x.rs),AC gb.x.b.p (rowsL Af (IZ r.ps r.ts u v)),AC gb.x.c.p (rowsL Af (IY r.ps r.ts r.ss u v))] (B5 gb.x.rs) (AC o2.a.p (rowsL CW o2.rs)::AC o2.b.p (rowsL Af r.ts)::AC o2.c.p (rowsL Af r.ss)::AU b3 30 (Cv ga.x)::AC ga.x.a.p (rowsL Ad (Jx r.ps r.ts u v))::AC ga.x.b.p (rowsL Af (IZ r.ps r.ts u v))::AC ga.x.c.p (rowsL Af (IY r.ps r.ts r.ss u v))::AC o1.a.p (rowsL CW o1.rs)::AC o1.b.p (rowsL Af r.ts)::AC o1.c.p (rowsL Af r.ss)::AU b2 30 (Cv m)::AC m.a.p (rowsL Ad r.ps)::AC m.b.p (rowsL Af r.ts)::AC m.c.p (rowsL Af r.ss)::AU b1 26 (FN r)::AC r.a.p (rowsL F0 r.ds)::AC r.b.p (rowsL Af r.ts)::AC r.c.p (rowsL Af r.ss)::(B5 o1.rs++B5 o2.rs))) (AJ O ?_))))))))
  refine st' (AK (v:=(aG (HN gb.x))) O O) O (st' (AK (v:=(vN (YB r.ps r.ts u v))) O O) O (al OJ O λb4=>Aj O sizeOf39 O (asg' O (q6 (sL [1,2,3,6,7,8,9,10,11,12,13,14,15] O) (CE (Dm 16++[(16,false),(17,true),(18,true),(19,true),(21,true),(20,false),(22,false),(23,false),(24,false),(25,true),(26,true),(27,true),(28,true),(29,false),(30,false),(31,true),(32,true),(33,false),(34,true),(35,true)]) sr (Bl O (Bl O (Ag O (Fu (c:=true) O O underlying4 jX) (Bl O (zW (v:=(vN (aN r.ps.length r.ts u v))) O (AN O) (Bv O) O O ?_))))))))))
  refine zW (v:=(vN (aN r.ps.length r.ts u v))) O (AN O) (Bv O) O O (zW (v:=(qa true)) O (AN O) (A9 (c:=true) O O jX) O O (Ag (v:=(qa true)) O (ex_pick_true O O) (Bl O (zW (v:=(vN (YB r.ps r.ts u v))) O (AN O) (Bv O) O O (zW (v:=(vN (YB r.ps r.ts u v))) O (AN O) (Bv O) O O (zW (v:=(qa true)) O (AN O) (A9 (c:=true) O O jX) O O (Ag (v:=(qa true)) O (ex_pick_true O O) (Bl O (zW (v:=(aG (Cv ga.x))) O (AN O) (Ac (i:=7) (vs:=Cv ga.x) O O Bu.a Bu.s O O) O O (zW (v:=(aG (HN gb.x))) O (AN O) (Ac (i:=0) (vs:=HN gb.x) O O C1.a C1.s O O) O O (zL O ?_)))))))))))
  refine zj (v:=(qa true)) (AN O) (Ak (args:=[(aG (Cv ga.x)),(aG (HN gb.x))]) O O call14) (λw hw=>(by have h9:=Oc (S:=dQ) ga.x gb.x (λi h=>(aV h).1) (λi h=>xx (aV h).2 jY) Z Z Z w (Pm (λy hy=>(inS (S:=S) (a:=ga) hw 8 O lga) y hy)) (aM (x:=gb.x) hw 1 O 22 (λz hz=>(xt _ hz))) (hT.below hw.out);rw [xr ⟨rfl,rfl,rfl⟩] at h9;exact h9)) O (leB O) (zG sr (Ag (v:=(qa true)) O (ex_pick_true O O) (Bl O (zW (v:=(aG (Cv m))) O (AN O) (Ac (i:=14) (vs:=Cv m) O O Bu.a Bu.s O O) O O (zW (v:=(aG (FN r))) O (AN O) (Ac (i:=18) (vs:=FN r) O O Px.a Px.s O O) O O (zL O (zj (v:=(aG (AG (YC r.ps r.ts)))) (AN O) (Ak (args:=[(aG (Cv m))]) O O call31) (λw hw=>YL m (λk=>Ip r k) (by rw [r.pl];omega) Z w (inS hw 15 O lm)) O (leB O) (zG sr (zL O (y7 (AN O) (yE (S:=S) (α:=Hy r.ps r.ts r.ss) (args:=[(aG (FN r))]) call13 (λw hw=>KD r hr1 hr2 hr3 w (inS hw 19 O lr)) O O O λo3 lo3=>?_)))))))))))
  refine yc (L2:=(AC o3.a.p (rowsL CW o3.rs)::AC o3.b.p (rowsL Af r.ts)::AC o3.c.p (rowsL Af r.ss)::AU b4 39 (HN gb.x)::AC gb.x.a.p (rowsL CW gb.x.rs)::AC gb.x.b.p (rowsL Af (IZ r.ps r.ts u v))::AC gb.x.c.p (rowsL Af (IY r.ps r.ts r.ss u v))::AC o2.a.p (rowsL CW o2.rs)::AC o2.b.p (rowsL Af r.ts)::AC o2.c.p (rowsL Af r.ss)::AU b3 30 (Cv ga.x)::AC ga.x.a.p (rowsL Ad (Jx r.ps r.ts u v))::AC ga.x.b.p (rowsL Af (IZ r.ps r.ts u v))::AC ga.x.c.p (rowsL Af (IY r.ps r.ts r.ss u v))::AC o1.a.p (rowsL CW o1.rs)::AC o1.b.p (rowsL Af r.ts)::AC o1.c.p (rowsL Af r.ss)::AU b2 30 (Cv m)::AC m.a.p (rowsL Ad r.ps)::AC m.b.p (rowsL Af r.ts)::AC m.c.p (rowsL Af r.ss)::AU b1 26 (FN r)::AC r.a.p (rowsL F0 r.ds)::AC r.b.p (rowsL Af r.ts)::AC r.c.p (rowsL Af r.ss)::(((B5 o1.rs++B5 o2.rs)++B5 gb.x.rs)++B5 o3.rs))) (show List.Perm _ (AC o3.a.p (rowsL CW o3.rs)::AC o3.b.p (rowsL Af r.ts)::AC o3.c.p (rowsL Af r.ss)::AU b4 39 (HN gb.x)::AC gb.x.a.p (rowsL CW gb.x.rs)::AC gb.x.b.p (rowsL Af (IZ r.ps r.ts u v))::AC gb.x.c.p (rowsL Af (IY r.ps r.ts r.ss u v))::AC o2.a.p (rowsL CW o2.rs)::AC o2.b.p (rowsL Af r.ts)::AC o2.c.p (rowsL Af r.ss)::AU b3 30 (Cv ga.x)::AC ga.x.a.p (rowsL Ad (Jx r.ps r.ts u v))::AC ga.x.b.p (rowsL Af (IZ r.ps r.ts u v))::AC ga.x.c.p (rowsL Af (IY r.ps r.ts r.ss u v))::AC o1.a.p (rowsL CW o1.rs)::AC o1.b.p (rowsL Af r.ts)::AC o1.c.p (rowsL Af r.ss)::AU b2 30 (Cv m)::AC m.a.p (rowsL Ad r.ps)::AC m.b.p (rowsL Af r.ts)::AC m.c.p (rowsL Af r.ss)::AU b1 26 (FN r)::AC r.a.p (rowsL F0 r.ds)::AC r.b.p (rowsL Af r.ts)::AC r.c.p (rowsL Af r.ss)::(((B5 o1.rs++B5 o2.rs)++B5 gb.x.rs)++B5 o3.rs)) from Ld [AC o3.a.p (rowsL CW o3.rs),AC o3.b.p (rowsL Af r.ts),AC o3.c.p (rowsL Af r.ss)] (B5 o3.rs) (AU b4 39 (HN gb.x)::AC gb.x.a.p (rowsL CW gb.x.rs)::AC gb.x.b.p (rowsL Af (IZ r.ps r.ts u v))::AC gb.x.c.p (rowsL Af (IY r.ps r.ts r.ss u v))::AC o2.a.p (rowsL CW o2.rs)::AC o2.b.p (rowsL Af r.ts)::AC o2.c.p (rowsL Af r.ss)::AU b3 30 (Cv ga.x)::AC ga.x.a.p (rowsL Ad (Jx r.ps r.ts u v))::AC ga.x.b.p (rowsL Af (IZ r.ps r.ts u v))::AC ga.x.c.p (rowsL Af (IY r.ps r.ts r.ss u v))::AC o1.a.p (rowsL CW o1.rs)::AC o1.b.p (rowsL Af r.ts)::AC o1.c.p (rowsL Af r.ss)::AU b2 30 (Cv m)::AC m.a.p (rowsL Ad r.ps)::AC m.b.p (rowsL Af r.ts)::AC m.c.p (rowsL Af r.ss)::AU b1 26 (FN r)::AC r.a.p (rowsL F0 r.ds)::AC r.b.p (rowsL Af r.ts)::AC r.c.p (rowsL Af r.ss)::((B5 o1.rs++B5 o2.rs)++B5 gb.x.rs))) (zG (sl (sl (sl (sk (sk (sk (sk (sk (sk (sk (sk (sk (sk (sk (sk (sk (sk (sk (sk (sk (sk (sk (sk (sk (sk (List.sublist_append_left _ _)))))))))))))))))))))))))) (zL O (y7 (AN O) (cF (S:=S) (x:=(YC r.ps r.ts)) (args:=[(aG (HN o3))]) call32 (λw hw=>XB o3 (λk=>Ip r k) (by rw [r.pl];omega) Z w (WE (x:=o3) hw 0 O 25 (λz hz=>(xt _ hz)) lo3)) O O O λg1 lg1=>zG (sl (sl (sl (sl (sl (sk (sk (sk (sk (sk (sk (sk (sk (sk (sk (sk (sk (sk (sk (sk (sk (sk (sk (sk (sk (sk (sk (List.sublist_append_left _ _)))))))))))))))))))))))))))) (zL O (xL O (v:=(qa true)) (AN O) (Ak (args:=[(aG (AG (YC r.ps r.ts))),(aG (fxL g1))]) O O call30) (λw hw=>am (YC r.ps r.ts) g1 Z w (inS hw 0 O lg1) (hT.below hw.out)) O (leB O) (zG (sl (sl (sl (sl (sl (sk (sk (sk (sk (sk (sk (sk (sk (sk (sk (sk (sk (sk (sk (sk (sk (sk (sk (sk (sk (sk (sk (List.sublist_append_left _ _)))))))))))))))))))))))))))) (Ag (v:=(qa true)) O (ex_pick_true O O) (Bl O (zW (v:=(aG (Cv m))) O (AN O) (Ac (i:=14) (vs:=Cv m) O O Bu.a Bu.s O O) O O ?_))))))))))
  refine zW (v:=(aG (FN r))) O (AN O) (Ac (i:=18) (vs:=FN r) O O Px.a Px.s O O) O O (zL O (y7 (AN O) (yE (S:=S) (α:=Hy r.ps r.ts r.ss) (args:=[(aG (FN r))]) call13 (λw hw=>KD r hr1 hr2 hr3 w (inS hw 24 O lr)) O O O λo4 lo4=>yc (L2:=(AC o4.a.p (rowsL CW o4.rs)::AC o4.b.p (rowsL Af r.ts)::AC o4.c.p (rowsL Af r.ss)::BM g1.z.n::BM g1.m::AC o3.a.p (rowsL CW o3.rs)::AC o3.b.p (rowsL Af r.ts)::AC o3.c.p (rowsL Af r.ss)::AU b4 39 (HN gb.x)::AC gb.x.a.p (rowsL CW gb.x.rs)::AC gb.x.b.p (rowsL Af (IZ r.ps r.ts u v))::AC gb.x.c.p (rowsL Af (IY r.ps r.ts r.ss u v))::AC o2.a.p (rowsL CW o2.rs)::AC o2.b.p (rowsL Af r.ts)::AC o2.c.p (rowsL Af r.ss)::AU b3 30 (Cv ga.x)::AC ga.x.a.p (rowsL Ad (Jx r.ps r.ts u v))::AC ga.x.b.p (rowsL Af (IZ r.ps r.ts u v))::AC ga.x.c.p (rowsL Af (IY r.ps r.ts r.ss u v))::AC o1.a.p (rowsL CW o1.rs)::AC o1.b.p (rowsL Af r.ts)::AC o1.c.p (rowsL Af r.ss)::AU b2 30 (Cv m)::AC m.a.p (rowsL Ad r.ps)::AC m.b.p (rowsL Af r.ts)::AC m.c.p (rowsL Af r.ss)::AU b1 26 (FN r)::AC r.a.p (rowsL F0 r.ds)::AC r.b.p (rowsL Af r.ts)::AC r.c.p (rowsL Af r.ss)::((((B5 o1.rs++B5 o2.rs)++B5 gb.x.rs)++B5 o3.rs)++B5 o4.rs))) (show List.Perm _ (AC o4.a.p (rowsL CW o4.rs)::AC o4.b.p (rowsL Af r.ts)::AC o4.c.p (rowsL Af r.ss)::BM g1.z.n::BM g1.m::AC o3.a.p (rowsL CW o3.rs)::AC o3.b.p (rowsL Af r.ts)::AC o3.c.p (rowsL Af r.ss)::AU b4 39 (HN gb.x)::AC gb.x.a.p (rowsL CW gb.x.rs)::AC gb.x.b.p (rowsL Af (IZ r.ps r.ts u v))::AC gb.x.c.p (rowsL Af (IY r.ps r.ts r.ss u v))::AC o2.a.p (rowsL CW o2.rs)::AC o2.b.p (rowsL Af r.ts)::AC o2.c.p (rowsL Af r.ss)::AU b3 30 (Cv ga.x)::AC ga.x.a.p (rowsL Ad (Jx r.ps r.ts u v))::AC ga.x.b.p (rowsL Af (IZ r.ps r.ts u v))::AC ga.x.c.p (rowsL Af (IY r.ps r.ts r.ss u v))::AC o1.a.p (rowsL CW o1.rs)::AC o1.b.p (rowsL Af r.ts)::AC o1.c.p (rowsL Af r.ss)::AU b2 30 (Cv m)::AC m.a.p (rowsL Ad r.ps)::AC m.b.p (rowsL Af r.ts)::AC m.c.p (rowsL Af r.ss)::AU b1 26 (FN r)::AC r.a.p (rowsL F0 r.ds)::AC r.b.p (rowsL Af r.ts)::AC r.c.p (rowsL Af r.ss)::((((B5 o1.rs++B5 o2.rs)++B5 gb.x.rs)++B5 o3.rs)++B5 o4.rs)) from Ld [AC o4.a.p (rowsL CW o4.rs),AC o4.b.p (rowsL Af r.ts),AC o4.c.p (rowsL Af r.ss)] (B5 o4.rs) (BM g1.z.n::BM g1.m::AC o3.a.p (rowsL CW o3.rs)::AC o3.b.p (rowsL Af r.ts)::AC o3.c.p (rowsL Af r.ss)::AU b4 39 (HN gb.x)::AC gb.x.a.p (rowsL CW gb.x.rs)::AC gb.x.b.p (rowsL Af (IZ r.ps r.ts u v))::AC gb.x.c.p (rowsL Af (IY r.ps r.ts r.ss u v))::AC o2.a.p (rowsL CW o2.rs)::AC o2.b.p (rowsL Af r.ts)::AC o2.c.p (rowsL Af r.ss)::AU b3 30 (Cv ga.x)::AC ga.x.a.p (rowsL Ad (Jx r.ps r.ts u v))::AC ga.x.b.p (rowsL Af (IZ r.ps r.ts u v))::AC ga.x.c.p (rowsL Af (IY r.ps r.ts r.ss u v))::AC o1.a.p (rowsL CW o1.rs)::AC o1.b.p (rowsL Af r.ts)::AC o1.c.p (rowsL Af r.ss)::AU b2 30 (Cv m)::AC m.a.p (rowsL Ad r.ps)::AC m.b.p (rowsL Af r.ts)::AC m.c.p (rowsL Af r.ss)::AU b1 26 (FN r)::AC r.a.p (rowsL F0 r.ds)::AC r.b.p (rowsL Af r.ts)::AC r.c.p (rowsL Af r.ss)::(((B5 o1.rs++B5 o2.rs)++B5 gb.x.rs)++B5 o3.rs))) (zG (sl (sl (sl (sl (sl (sl (sl (sl (sk (sk (sk (sk (sk (sk (sk (sk (sk (sk (sk (sk (sk (sk (sk (sk (sk (sk (sk (sk (sk (sk ((List.sublist_append_left _ _).trans (List.sublist_append_left _ _)))))))))))))))))))))))))))))))) (zL O (zj (v:=(qa true)) (AN O) (Ak (args:=[(aG (Cv m)),(aG (HN o4))]) O O call14) (λw hw=>(by have h9:=Oc (S:=dQ) m o4 (λi h=>r.pw i h) (λi h=>xx (Ip r i) jY) (by rw [r.pl];omega) Z Z w (Pm (inS (S:=S) hw 23 O lm)) (aM (x:=o4) hw 0 O 30 (λz hz=>(xt _ hz))) (hT.below hw.out);rw [xr ⟨rfl,rfl,rfl⟩] at h9;exact h9)) O (leB O) (zG (sl (sl (sl (sl (sl (sl (sl (sl (sk (sk (sk (sk (sk (sk (sk (sk (sk (sk (sk (sk (sk (sk (sk (sk (sk (sk (sk (sk (sk (sk ((List.sublist_append_left _ _).trans (List.sublist_append_left _ _)))))))))))))))))))))))))))))))) (Ag (v:=(qa true)) O (ex_pick_true O O) (Bl O (zL O ?_))))))))))
  exact zj (v:=(qa true)) (AN O) (Ak (args:=[]) O O call25) (λw hw=>LS w (hT.below hw.out)) O (leB O) (zG (sl (sl (sl (sl (sl (sl (sl (sl (sk (sk (sk (sk (sk (sk (sk (sk (sk (sk (sk (sk (sk (sk (sk (sk (sk (sk (sk (sk (sk (sk ((List.sublist_append_left _ _).trans (List.sublist_append_left _ _)))))))))))))))))))))))))))))))) (Ag (v:=(qa true)) O (ex_pick_true O O) (pS' O (zT (zF (sL [1,2,3,6,7,12,14] O) (zC (zH (ret_one O (rd_tmp (v:=(qa true)) O) (λw hw=>⟨rfl,hw.outB⟩)))))))))
end
section
open Go Go.RowKit Go.ChangeShapes Go.WideShapes Go.ChangeAt
theorem Y6:laidOutB Tryz.prog=true:=by kernel_rfl
theorem Wz:ownKnob Tryz.prog.godebug=none:=by kernel_rfl
theorem H2 {H:Type} {enc:TypeId×Value->H} {P:Program} (hl:laidOutB P=true) {W W':World} {sp:Nat->Bool} (hb:Below W.heap.size W W') :
    ∀{ts:List TypeId} {vs:List Value} {ds:List (DataW H)} {ps:List MemPlace},(∀t∈ts,P.readableRec t=true/\t<P.types.size)->DataW.TrodAll enc P W 0 (λ_=>true) true ts vs ds ps ->
      (∀p∈ps,p.block<W.heap.size)->(∀p∈ps,sp p.block=true)->DataW.TrodAll enc P W' 0 sp true ts vs ds ps
  | [],_,_,_,_,h,_,_=>by
    obtain ⟨rfl,rfl,rfl⟩:=trodAll_nil h
    exact trodAll_mk0
  | t::ts,_,_,_,hr,h,hlt,hs=>by
    obtain ⟨v,vs1,d,ds1,a,b,rfl,rfl,rfl,h1,h2⟩:=trodAll_cons h
    exact ⟨a,b,WideElems.Trod_stays hl (hr t jX).1 (hr t jX).2 h1 (λx hx=>hb.same (hlt x (by simp [hx]))) (λx hx=>hs x (by simp [hx])),
      H2 hl hb (λu hu=>hr u (by simp [hu])) h2 (λp hp=>hlt p (by simp [hp])) (λp hp=>hs p (by simp [hp])),rfl⟩
theorem WQ {H:Type} {enc:TypeId×Value->H} {P:Program} {f:Func} {s:ChangeSpec} {apart fresh handsOn again:Bool} {W W':World} {args:Array Value} {ds:List (DataW H)} {CS:List MemPlace} {tb:TypeId}
    (hW:DataW.Whole enc P f.params.toList s.vars apart W args.toList ds [] CS) (hv:s.vars=[]) (hfn:s.fn H ds=({ results:=[.lit (.bool true)],args:=ds }:Left H))
    (hrt:f.resultTypes=#[tb]) (hu:P.underlying tb=some .bool) (hb:Below W.heap.size W W') (hl:laidOutB P=true) (hr:∀t∈f.params.toList,P.readableRec t=true/\t<P.types.size) :
    s.post enc P f apart fresh handsOn again W args (.bool true) W':=by
  have hlt:∀p∈CS,p.block<W.heap.size:=λp hp=>hW.lt p hp
  have hW2:=hW
  obtain ⟨pa,q,hA,hV,he,hz,hn⟩:=hW2
  rw [hv] at hV
  obtain ⟨_,rfl⟩:=trodVars_none hV
  simp only [List.append_nil] at he
  subst he
  have hres:∀(b:Nat) (sp:Nat->Bool) (hd:Bool),DataW.TrodAll enc P W' b sp hd f.resultTypes.toList ((qa true).resultList f.resultTypes.size) (s.fn H (ds++[])).results []:=λb sp hd=>by
    rw [hrt,List.append_nil,hfn]
    exact trodAll_mk1 (shut_bool hu _)
  have hargs:∀sp:Nat->Bool,(∀p∈CS,sp p.block=true)->DataW.TrodAll enc P W' 0 sp true f.params.toList args.toList (s.fn H (ds++[])).args CS:=λsp hs=>by
    rw [List.append_nil,hfn]
    exact H2 hl hb hr hA hlt hs
  have hvars:∀sp:Nat->Bool,DataW.TrodVars enc P W' sp s.vars (s.fn H (ds++[])).vars []:=λsp=>by
    rw [List.append_nil,hfn,hv];rfl
  have hold:∀p∈CS,(λb=>decide (b<W.heap.size)) p.block=true:=λp hp=>by simpa using hlt p hp
  refine ⟨ds,[],CS,[],CS,[],hW,hres _ _ _,hargs _ hold,hvars _,World.keptBut_mono (λp hp=>⟨hp,Or.inr (by simpa using hp)⟩) (hb.frame (·∈CS)),λ_=>⟨?_,_,_,([]++CS)++[],⟨[]++CS,[],trodAll_append (hargs _ (λ_ _=>rfl)) (hres _ _ _),hvars _,rfl,?_,?_⟩,?_⟩⟩
  · exact ok_one hrt O (okWide_bool_mk hu _)
  · intro b off hp
    have hp':MemPlace.cell b off∈CS:=by simpa using hp
    rw [hb.frozen (hlt _ hp')]
    exact hz b off hp'
  · intro ha
    have:=hn ha
    simpa using this
  · intro p hp _
    simpa using hp
end
section
open Go Go.RowKit Go.WideShapes
section
variable {P:Program} {w:World} {r:Reach} {base:Nat}
theorem VV {u:TypeId} {v:Value} {k:IntKind} (hu:P.underlying u=some (.int k)) (h:Cell.okWide P w r base u v):∃n,v=.int k n/\k.has n:=by
  simp only [Cell.okWide,hu] at h
  unfold Cell.ok at h
  rw [hu] at h
  cases v<;>simp at h
  exact ⟨_,by rw [h.1],h.2⟩
theorem QZ {u e:TypeId} {v:Value} (hu:P.underlying u=some (.slice e)) (h:Cell.okWide P w r base u v) :
    v=.slice none 0 0\/∃a len cap,v=.slice (some a) len cap/\len<=cap/\a.spot=none/\∃cur T fr,w.heap[a.block]?=some (.cells cur T fr):=by
  simp only [Cell.okWide,hu] at h
  unfold Cell.ok at h
  rw [hu] at h
  cases v with
  | slice p len cap =>
    cases p with
    | none =>
      left
      split at h<;>simp_all
    | some a =>
      right
      have h':len<=cap/\(cap:Int)<=IntKind.i64.max/\w.has P r base a e cap:=h
      obtain ⟨h1,_,_,h2,row,cells,h3,_⟩:=h'
      refine ⟨a,len,cap,rfl,h1,h2,?_⟩
      unfold World.shape? at h3
      split at h3
      · rename_i cur T fr e;exact ⟨cur,T,fr,e⟩
      · cases h3
  | _=>simp at h
theorem R3 {t:TypeId} {v:Value} (ht:P.underlying t=some (.int .i64)) (h:Value.okWide P w r base t v):∃n:Int,v=.int .i64 n:=by
  have h1:Cell.okWide P w r base t v:=by unfold Value.okWide at h;rw [ht] at h;exact h
  obtain ⟨n,rfl,hn⟩:=VV ht h1
  exact ⟨n,rfl⟩
end
end
section
open Go Go.RowKit Go.WideShapes
section
variable {H:Type} {enc:TypeId×Value->H} {P:Program} {w:World} {base fuel:Nat} {sp:Nat->Bool} {hd:Bool} {t:TypeId} {cs:List Value} {x:DataW H×List MemPlace}
theorem FO {fs:Array Field} {i u o z:Nat} (ht:P.underlying t=some (.struct fs)) (hf:∃f,fs[i]?=some f/\f.type=u/\f.offset=o) (hz:P.cellsOf u=z) (h:DataW.trod enc P w base sp hd fuel t cs=some x) :
    ∃m y,DataW.trod enc P w base sp hd m u ((cs.drop o).take z)=some y:=by
  obtain ⟨xs,n,_,_,_,hxl,hx⟩:=DataW.trod_struct ht h
  obtain ⟨f,h1,rfl,rfl⟩:=hf
  have h2:=hx i f h1
  have hlt:i<xs.length:=by
    rw [hxl]
    rcases Nat.lt_or_ge i fs.size with k|k
    · exact k
    · rw [Array.getElem?_eq_none k] at h1;cases h1
  rw [xN hlt,hz] at h2
  exact ⟨n,_,h2⟩
theorem L1 {fs:Array Field} {z:Nat} (ht:P.underlying t=some (.struct fs)) (hz:P.cellsOf t=z) (h:DataW.trod enc P w base sp hd fuel t cs=some x):cs.length=z:=by
  obtain ⟨xs,n,_,_,hl,_,_⟩:=DataW.trod_struct ht h
  rw [hl,hz]
theorem G8 {fs:Array Field} {k:IntKind} {i u o:Nat} (hu:P.underlying u=some (.int k)) (ht:P.underlying t=some (.struct fs)) (hf:∃f,fs[i]?=some f/\f.type=u/\f.offset=o) (hz:P.cellsOf u=1) (h:DataW.trod enc P w base sp hd fuel t cs=some x) :
    ∃n,(cs.drop o).take 1=[.int k n]/\(Lit.int k n).wf=true:=by
  obtain ⟨m,y,h1⟩:=FO ht hf hz h
  obtain ⟨n,h2,_,h3⟩:=DataW.trod_int hu h1
  exact ⟨n,h2,h3⟩
theorem V8 {k:IntKind} {n:Int} (h:(Lit.int k n).wf=true):k.has n:=by
  have h9:(decide (k.min<=n)&&decide (n<=k.max))=true:=h
  rw [xZ,xT,xT] at h9
  exact h9
theorem a8 {e:TypeId} (ht:P.underlying t=some (.array 3 e)) (he:P.underlying e=some (.int .i64)) (h1e:P.cellsOf e=1) (h3:P.cellsOf t=3) (h:DataW.trod enc P w base sp hd fuel t cs=some x):∃a:Z3,cs=Af a:=by
  obtain ⟨xs,m,_,_,hl,hxl,hx⟩:=DataW.trod_array ht h
  rw [h3] at hl
  have g:∀i,i<3->∃n,(cs.drop i).take 1=[.int .i64 n]:=λi hi=>by
    have h2:=hx i hi
    rw [xN Z,h1e,Nat.mul_one] at h2
    obtain ⟨n,h2,_,_⟩:=DataW.trod_int he h2
    exact ⟨n,h2⟩
  obtain ⟨a,ha⟩:=g 0 jY
  obtain ⟨b,hb⟩:=g 1 jY
  obtain ⟨c,hc⟩:=g 2 jY
  match cs,hl with
  | [c0,c1,c2],_ =>
    obtain rfl:c0=.int .i64 a:=by simpa using ha
    obtain rfl:c1=.int .i64 b:=by simpa using hb
    obtain rfl:c2=.int .i64 c:=by simpa using hc
    exact ⟨(a,b,c),rfl⟩
theorem a_ {fs:Array Field} {e:TypeId} (ht:P.underlying t=some (.struct fs)) (f0:∃f,fs[0]?=some f/\f.type=e/\f.offset=0) (f1:∃f,fs[1]?=some f/\f.type=e/\f.offset=1) (f2:∃f,fs[2]?=some f/\f.type=e/\f.offset=2)
    (he:P.underlying e=some (.int .i64)) (h1e:P.cellsOf e=1) (h3:P.cellsOf t=3) (h:DataW.trod enc P w base sp hd fuel t cs=some x):∃a:Z3,cs=Af a:=by
  have hl:=L1 ht h3 h
  obtain ⟨a,ha,_⟩:=G8 he ht f0 h1e h
  obtain ⟨b,hb,_⟩:=G8 he ht f1 h1e h
  obtain ⟨c,hc,_⟩:=G8 he ht f2 h1e h
  match cs,hl with
  | [c0,c1,c2],_ =>
    obtain rfl:c0=.int .i64 a:=by simpa using ha
    obtain rfl:c1=.int .i64 b:=by simpa using hb
    obtain rfl:c2=.int .i64 c:=by simpa using hc
    exact ⟨(a,b,c),rfl⟩
theorem aJ {fs:Array Field} {e u:TypeId} (ht:P.underlying t=some (.struct fs)) (f0:∃f,fs[0]?=some f/\f.type=e/\f.offset=0) (f1:∃f,fs[1]?=some f/\f.type=u/\f.offset=1)
    (he:P.underlying e=some (.int .i64)) (h1e:P.cellsOf e=1) (hu:P.underlying u=some (.int .u32)) (h1u:P.cellsOf u=1) (h2:P.cellsOf t=2) (h:DataW.trod enc P w base sp hd fuel t cs=some x):∃q:QD,q.ok/\cs=Ir q:=by
  have hl:=L1 ht h2 h
  obtain ⟨a,ha,wa⟩:=G8 he ht f0 h1e h
  obtain ⟨b,hb,wb⟩:=G8 hu ht f1 h1u h
  match cs,hl with
  | [c0,c1],_ =>
    obtain rfl:c0=.int .i64 a:=by simpa using ha
    obtain rfl:c1=.int .u32 b:=by simpa using hb
    have k1:=Yy (V8 wa)
    have k2:=Z0 (V8 wb)
    refine ⟨⟨a,b.toNat⟩,⟨k1.1,k1.2,by show b.toNat<_;omega⟩,?_⟩
    simp only [Ir]
    rw [Int.toNat_of_nonneg k2.1]
theorem dY {fs gs:Array Field} {q e u:TypeId} (ht:P.underlying t=some (.struct fs)) (f0:∃f,fs[0]?=some f/\f.type=q/\f.offset=0) (f1:∃f,fs[1]?=some f/\f.type=q/\f.offset=2) (hq:P.underlying q=some (.struct gs)) (g0:∃f,gs[0]?=some f/\f.type=e/\f.offset=0) (g1:∃f,gs[1]?=some f/\f.type=u/\f.offset=1)
    (he:P.underlying e=some (.int .i64)) (h1e:P.cellsOf e=1) (hu:P.underlying u=some (.int .u32)) (h1u:P.cellsOf u=1) (h2:P.cellsOf q=2) (h4:P.cellsOf t=4) (h:DataW.trod enc P w base sp hd fuel t cs=some x):∃p:PD,p.ok/\cs=F0 p:=by
  have hl:=L1 ht h4 h
  obtain ⟨m,y,k1⟩:=FO ht f0 h2 h
  obtain ⟨m2,y2,k2⟩:=FO ht f1 h2 h
  obtain ⟨a,ha,ea⟩:=aJ hq g0 g1 he h1e hu h1u h2 k1
  obtain ⟨b,hb,eb⟩:=aJ hq g0 g1 he h1e hu h1u h2 k2
  refine ⟨⟨a,b⟩,⟨ha,hb⟩,?_⟩
  show cs=Ir a++Ir b
  rw [<-ea,<-eb,List.drop_zero,List.take_of_length_le (l:=cs.drop 2) (by simp [hl]),List.take_append_drop]
theorem Sr {α:Type} {en:α->List Value} {ok:α->Prop} {z:Nat} {L:List Value}:∀len,(∀i,i<len->∃a,ok a/\(L.drop (i*z)).take z=en a)->∃l:List α,l.length=len/\(∀a∈l,ok a)/\L.take (len*z)=rowsL en l
  | 0,_=>⟨[],rfl,(λa h=>by cases h),by simp [rowsL]⟩
  | n+1,h=>by
    obtain ⟨l,h1,h2,h3⟩:=Sr n λi hi=>h i Z
    obtain ⟨a,h4,h5⟩:=h n Z
    refine ⟨l++[a],by simp [h1],λy hy=>?_,?_⟩
    · rcases List.mem_append.1 hy with hy|hy
      · exact h2 y hy
      · rcases xz.1 hy with rfl;exact h4
    · rw [Nat.succ_mul,List.take_add,h3,h5,DE];simp [rowsL]
theorem JX {α:Type} {en:α->List Value} {ok:α->Prop} {W:World} {r:Reach} {z b0:Nat} {ts e:TypeId} {c:Value} {y:DataW H×List MemPlace} (hts:P.underlying ts=some (.slice e)) (hz:P.cellsOf e=z) (hlen:∀a,(en a).length=z)
    (hdec:∀fuel cs x,DataW.trod enc P W 0 sp hd fuel e cs=some x->∃a:α,ok a/\cs=en a) (hok:Cell.okWide P W r b0 ts c) (hT:DataW.trod enc P W 0 sp hd fuel ts [c]=some y) :
    ∃(l:List α) (p:Option Addr) (cap:Nat),c=.slice p l.length cap/\(∀a∈l,ok a)/\Ao p l.length cap/\Holds W (AC p (rowsL en l)):=by
  rcases QZ hts hok with rfl|⟨a,len,cap,rfl,hlc,hsp,cur,T,fr,hcur⟩
  · exact ⟨[],none,0,rfl,(λx h=>by cases h),⟨λ_=>⟨rfl,rfl⟩,(λa e=>by cases e),Nat.le_refl _⟩,λb e=>by cases e⟩
  · rcases DataW.trod_slice hts hT with ⟨h2,_⟩|⟨a',len',cap',elems,rest,n',_,h2,_,_,_,_,hel,hes,_⟩
    · cases h2
    · obtain ⟨rfl,rfl,rfl⟩:a=a'/\len=len'/\cap=cap':=by
        simp only [List.cons.injEq,qz.injEq,Option.some.injEq,and_true] at h2
        exact h2
      have ha:a=⟨a.block,a.off,none⟩:=by rw [<-hsp]
      have hel2:∀i,i<len->∃u:α,ok u/\((cur.toList.drop a.off).drop (i*z)).take z=en u:=λi hi=>by
        have h3:=hes i hi
        rw [xN Z,Option.bind_eq_some_iff] at h3
        obtain ⟨cs',h4,h5⟩:=h3
        obtain ⟨u,hu,rfl⟩:=hdec _ _ _ h5
        refine ⟨u,hu,?_⟩
        unfold World.cells? at h4
        rw [if_pos (xu _),hz] at h4
        refine List.ext_getElem? λj=>?_
        by_cases hj:j<z
        · have h6:=mapM_some_get h4 j j (by simp [hj])
          rw [ha,add_plain,add_plain] at h6
          unfold World.cell? at h6
          simp only [hcur] at h6
          rw [List.getElem?_take_of_lt hj,List.getElem?_drop,List.getElem?_drop,Array.getElem?_toList,<-h6]
          simp [Nat.add_assoc]
        · rw [List.getElem?_eq_none (by simp;omega),List.getElem?_eq_none (by rw [hlen];omega)]
      obtain ⟨l,hl1,hl2,hl3⟩:=Sr len hel2
      refine ⟨l,some a,cap,by rw [hl1],hl2,⟨(λe=>by cases e),(λa' e=>by cases e;exact hsp),Z⟩,λb e=>?_⟩
      have hb:a.block=b:=Option.some.inj e
      subst hb
      exact ⟨_,hcur,cur,T,fr,rfl,by rw [Al hlen,hl1];exact hl3⟩
theorem dS {W:World} {r:Reach} {b0:Nat} {v:Value} {d:DataW H} {ps:List MemPlace} {fs gp gq gs:Array Field} {t0 t1 t2 p q i64 u32 a3 sd:TypeId} (ht:P.underlying t=some (.struct fs))
    (f0:∃f,fs[0]?=some f/\f.type=t0/\f.offset=0) (f1:∃f,fs[1]?=some f/\f.type=t1/\f.offset=1) (f2:∃f,fs[2]?=some f/\f.type=t2/\f.offset=2) (h0:P.underlying t0=some (.slice p)) (h1:P.underlying t1=some (.slice a3)) (h2:P.underlying t2=some (.slice sd))
    (c0:P.cellsOf t0=1) (c1:P.cellsOf t1=1) (c2:P.cellsOf t2=1) (hp:P.underlying p=some (.struct gp)) (p0:∃f,gp[0]?=some f/\f.type=q/\f.offset=0) (p1:∃f,gp[1]?=some f/\f.type=q/\f.offset=2) (hq:P.underlying q=some (.struct gq)) (q0:∃f,gq[0]?=some f/\f.type=i64/\f.offset=0) (q1:∃f,gq[1]?=some f/\f.type=u32/\f.offset=1)
    (hi:P.underlying i64=some (.int .i64)) (ci:P.cellsOf i64=1) (hu:P.underlying u32=some (.int .u32)) (cu:P.cellsOf u32=1) (cq:P.cellsOf q=2) (cp:P.cellsOf p=4) {it:TypeId} (ha:P.underlying a3=some (.array 3 it)) (hit:P.underlying it=some (.int .i64)) (cit:P.cellsOf it=1) (ca:P.cellsOf a3=3)
    (hs:P.underlying sd=some (.struct gs)) (s0:∃f,gs[0]?=some f/\f.type=it/\f.offset=0) (s1:∃f,gs[1]?=some f/\f.type=it/\f.offset=1) (s2:∃f,gs[2]?=some f/\f.type=it/\f.offset=2) (csd:P.cellsOf sd=3) (hct:P.cellTypes P.depth t=some [t0,t1,t2]) (hsz:P.cellsOf t=3)
    (hv:Value.okWide P W r b0 t v) (hT:DataW.Trod enc P W 0 sp hd t v d ps):∃m:RW,v=aG (FN m)/\Ro (λ_=>True) W m:=by
  unfold Value.okWide at hv
  rw [ht] at hv
  obtain ⟨⟨cs⟩,rfl,hcs,ts',hts',_,hc⟩:=hv
  obtain rfl:=Option.some.inj (hct.symm.trans hts')
  have hl:cs.length=3:=by rw [<-hsz,<-hcs];simp
  match cs,hl,hc,hT with
  | [k0,k1,k2],_,hc,hT =>
    have g:∀(i:Nat) (u:TypeId) (v:Value),i<3->[t0,t1,t2][i]?=some u->[k0,k1,k2][i]?=some v->Cell.okWide P W r b0 u v:=λi u v hi hu hv=>by
      obtain ⟨u',h2,h3⟩:=hc i v (by simpa using hv)
      rw [Nat.mod_eq_of_lt (by simpa using hi),hu] at h2
      cases h2;exact h3
    obtain ⟨fuel,hT⟩:=hT
    have hT:DataW.trod enc P W 0 sp hd fuel t [k0,k1,k2]=some (d,ps):=hT
    obtain ⟨m0,y0,j0⟩:=FO ht f0 c0 hT
    obtain ⟨m1,y1,j1⟩:=FO ht f1 c1 hT
    obtain ⟨m2,y2,j2⟩:=FO ht f2 c2 hT
    obtain ⟨ds,pa,ca',rfl,hd1,ok1,hh1⟩:=JX (ok:=PD.ok) h0 cp Gg (λfuel cs x h=>dY hp p0 p1 hq q0 q1 hi ci hu cu cq cp h) (g 0 _ _ jY rfl rfl) j0
    obtain ⟨tl,pb,cb,rfl,_,ok2,hh2⟩:=JX (ok:=λ_=>True) h1 ca BF (λfuel cs x h=>(a8 ha hit cit ca h).imp λa k=>⟨trivial,k⟩) (g 1 _ _ jY rfl rfl) j1
    obtain ⟨sl,pc,cc,rfl,_,ok3,hh3⟩:=JX (ok:=λ_=>True) h2 csd BF (λfuel cs x h=>(a_ hs s0 s1 s2 hit cit csd h).imp λa k=>⟨trivial,k⟩) (g 2 _ _ jY rfl rfl) j2
    refine ⟨⟨ds,tl,sl,⟨pa,ca',ok1⟩,⟨pb,cb,ok2⟩,⟨pc,cc,ok3⟩,hd1⟩,rfl,λy hy=>?_⟩
    have hy:y∈[AC pa (rowsL F0 ds),AC pb (rowsL Af tl),AC pc (rowsL Af sl)]:=hy
    simp only [xy,List.not_mem_nil,or_false] at hy
    rcases hy with rfl|rfl|rfl
    · exact ⟨hh1,λ_ _=>trivial⟩
    · exact ⟨hh2,λ_ _=>trivial⟩
    · exact ⟨hh3,λ_ _=>trivial⟩
end
end
end Go.Proofs.YtpolhpjiahbidaaGreatDoor
