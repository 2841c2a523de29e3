import Derived.Test.YtfbomiejpbchdaaGreatDoorTie
import Derived.Test.YtfbomiejpbchdaaGreatDoorCards
import Derived.ProofKit
import Derived.LaidMore
import Derived.Carry
import Derived.Stop.Joined
import Derived.SevenTiedAt
import Derived.Test.YtfbomiejpbchdaaGreatDoorPart06
import Derived.Test.YtfbomiejpbchdaaGreatDoorPart15
import Derived.Test.YtfbomiejpbchdaaGreatDoorPart21
import Derived.Test.YtfbomiejpbchdaaGreatDoorPart26
import Derived.Test.YtfbomiejpbchdaaGreatDoorPart34
import Derived.Test.YtfbomiejpbchdaaGreatDoorPart35
import Derived.Test.YtfbomiejpbchdaaGreatDoorPart36
namespace Go.Proofs.YtfbomiejpbchdaaGreatDoor
open Go Go.RowKit Go.Proofs.Tryz
set_option linter.unusedVariables false
set_option linter.unusedSimpArgs false
section
set_option maxRecDepth 100000
set_option maxHeartbeats 1000000 in
theorem Kv (m:MQ) (w:World) {S:Nat->Prop} (hm:Ro S w m):Calls prog 4 #[(aG (EA m))] w (Am w (Value.bool true)):=by
 have lm:=Er (W:=w) hm
 refine BI (args:=[(aG (EA m))]) (L:=[Ai m.p (Co m.cs)]) func4 O O (Ab O) (En hm BW) (AF.subF (sL [0] O) (q4 (Bq (cs:=EA m) O λb1=>AK O (q3 (sL [1,2] O) ?_))))
 refine BD 0 LG O (AE.callR (S:=S) (α:=MG) (args:=[(aG (EA m))]) call15 (λw hw=>P0 m w (ER hw 1 O lm)) O O O λg lg=>?_)
 have hG:=g.good
 have hnb:By g.ps.length g.ts=true:=OM hG
 have htl:=hG.tl
 have hpl:=hG.pl
 have hz:∀i,B8 (CG g.ps i)<=1000:=λi=>Nat.le_trans (hG.sz i) (by decide)
 have hsl:=g.sl
 have hel0:(BC g.ts).length<=3*g.ts.length:=Uh g.ts
 refine al Pv O λb2=>Au O sizeOf30 O (q3 (sL [2,3] O) (BD 0 EO O (cX (S:=S) (cs:=rowsL B9 (BC g.ts)) (k:=(BC g.ts).length) (args:=[(aG (C5 g.mx))]) call16 (λw hw=>Ll g.mx Z Z hnb w (ER hw 1 O lg:Ro _ w g.mx)) O O O λo lo=>AK O ?_)))
 refine q3 (sL [2,3,4] O) (al Dc O λb3=>AE.nil (q2 (AK O (AE.nil ?_))))
 refine q2 (AK O (AE.nil (q1 (q4 (AK O ?_)))))
 refine AE.nil (AD.then_ (AF.block ?_))
 refine AF.lp1 (tg λ(i:Nat)=>i<=(BC g.ts).length) (tg λ(i:Nat)=>[(3,(pP b2 0)),(4,(Value.slice o.p ((BC g.ts).length) o.c)),(5,(pP b3 0)),(8,(vN i)),(6,(vN ((Bm g.ts i).length))),(7,(vN (nD g.ts i)))]) (tg λ(i:Nat)=>[Ae b3 61 (AI (sR g.ps g.ts i)),Ai o.p (rowsL B9 (BC g.ts)),Ae b2 30 (C5 g.mx),Ai g.mx.a.p (rowsL Aj g.ps),Ai g.mx.b.p (rowsL Av g.ts),Ai g.mx.c.p (rowsL Av g.ss),Ae b1 50 (EA m),Ai m.p (Co m.cs)]) (tg λ(i:Nat)=>(BC g.ts).length-i) 0 (Nat.zero_le _) (sF O) sr (λi hJ=>?_)
 have hil:=hJ
 refine AF.seq (q4 (AO O (AO O (AG (v:=(vN ((BC g.ts).length))) (AH O underlying51) O (AG (Af (c:=(decide (i<((BC g.ts).length)))) O O (C6 (a:=i) (b:=(BC g.ts).length))) O ?_)))))
 refine AE.nil (AD.subF (sL [3,4,5,8,6,7,19] O) (AD.then_ ?_))
 refine AF.cond O (λhc0=>?_) (λhc0=>?_)
 ·replace hc0:=of_decide_eq_true hc0
  have hm:(BC g.ts).getD i (⟨0,0,0,0⟩:E4)∈BC g.ts:=by rw [List.getD,List.getElem?_eq_getElem hc0];exact List.getElem_mem hc0
  have hs:=KQ hnb Z hm
  have hcd:=UI hG hnb hm
  rw [LV] at hcd
  have hlr:=SS hnb Z hm
  have hend:=edge_ends hnb Z hm
  have hsd:=TY (ss:=g.ss) hnb Z g.sd hc0
  have hnd:=VK (ts:=g.ts) i
  have hrm:=Lo (ts:=g.ts) i
  have hsr:=Qu (ts:=g.ts) hz i
  have hns:=Se (ts:=g.ts) hc0
  rw [LV] at hns
  have za:B8 (g.ps.getD ((BC g.ts).getD i (⟨0,0,0,0⟩:E4)).a ⟨0,0⟩)<=1000:=hz _
  have zb:B8 (g.ps.getD ((BC g.ts).getD i (⟨0,0,0,0⟩:E4)).b ⟨0,0⟩)<=1000:=hz _
  refine AF.skip (q1 (AF.block (AF.seq (C4 [(0,true),(1,true),(2,true),(3,true),(4,true),(5,true),(6,true),(7,true),(8,true),(9,false),(10,false)] sr (Ay (v:=(pP b2 0)) O (AA O underlying30 O sizeOf28 O) ?_)))))
  refine Bn 2 (Value.slice g.mx.a.p g.ps.length g.mx.a.c) DV O (Bo O (Bo O (Ay (v:=(pP (pB o.p) (pO o.p+i*4))) O (AN (j:=i) O O o.ok underlying51 sizeOf65 O Z) (Ay (v:=(pP (pB o.p) (pO o.p+(i*4+0)))) O (AA O underlying65 O sizeOf3 (Nat.add_assoc _ _ _)) (Ay O (Aa (v:=(vN (((BC g.ts).getD i (⟨0,0,0,0⟩:E4)).a))) (i:=1) O O (BB.ne o.ok Z) Bs (BP BT (⟨0,0,0,0⟩:E4) _ _ 0 Z (by decide) O)) ?_)))))
  refine Ay (v:=(pP (pB g.mx.a.p) (pO g.mx.a.p+(((BC g.ts).getD i (⟨0,0,0,0⟩:E4)).a)*10))) O (AN (j:=((BC g.ts).getD i (⟨0,0,0,0⟩:E4)).a) O O g.mx.a.ok underlying28 sizeOf63 O Z) (Ay (v:=(aG (Aj (g.ps.getD (((BC g.ts).getD i (⟨0,0,0,0⟩:E4)).a) (⟨0,0⟩:Pt))))) O (AW (vs:=Aj (g.ps.getD (((BC g.ts).getD i (⟨0,0,0,0⟩:E4)).a) (⟨0,0⟩:Pt))) (i:=3) O O (BB.ne g.mx.a.ok Z) BQ (Ar BE _ _ _ Z) (BE _)) (AS.imp O (al F6 O λb4=>AS.back (sl sr) (AS.imp O ?_))))
  refine Au O sizeOf63 O (AS.back (sl sr) (AS.nil (AD.subF (sL [3,4,5,8,6,7,9] O) (q1 (C4 [(0,true),(1,true),(2,true),(3,true),(4,true),(5,true),(6,true),(7,true),(8,true),(9,false),(10,false)] sr ?_)))))
  refine Ay (v:=(pP b2 0)) O (AA O underlying30 O sizeOf28 O) (Bn 3 (Value.slice g.mx.a.p g.ps.length g.mx.a.c) DV O (Bo O (Bo O (Ay (v:=(pP (pB o.p) (pO o.p+i*4))) O (AN (j:=i) O O o.ok underlying51 sizeOf65 O Z) (Ay (v:=(pP (pB o.p) (pO o.p+(i*4+1)))) O (AA O underlying65 O sizeOf3 (Nat.add_assoc _ _ _)) ?_)))))
  refine Ay O (Aa (v:=(vN (((BC g.ts).getD i (⟨0,0,0,0⟩:E4)).b))) (i:=2) O O (BB.ne o.ok Z) Bs (BP BT (⟨0,0,0,0⟩:E4) _ _ 1 Z (by decide) O)) (Ay (v:=(pP (pB g.mx.a.p) (pO g.mx.a.p+(((BC g.ts).getD i (⟨0,0,0,0⟩:E4)).b)*10))) O (AN (j:=((BC g.ts).getD i (⟨0,0,0,0⟩:E4)).b) O O g.mx.a.ok underlying28 sizeOf63 O Z) (Ay (v:=(aG (Aj (g.ps.getD (((BC g.ts).getD i (⟨0,0,0,0⟩:E4)).b) (⟨0,0⟩:Pt))))) O (AW (vs:=Aj (g.ps.getD (((BC g.ts).getD i (⟨0,0,0,0⟩:E4)).b) (⟨0,0⟩:Pt))) (i:=4) O O (BB.ne g.mx.a.ok Z) BQ (Ar BE _ _ _ Z) (BE _)) (AS.imp O (al F6 O λb5=>AS.back (sl sr) ?_))))
  refine AS.imp O (Au O sizeOf63 O (AS.back (sl sr) (AS.nil (AD.subF (sL [3,4,5,8,6,7,9,10] O) (q1 ?_)))))
  refine AF.block (AF.seq ?_)
  by_cases hl:0<=((BC g.ts).getD i (⟨0,0,0,0⟩:E4)).l
  ·skip
   by_cases hr:0<=((BC g.ts).getD i (⟨0,0,0,0⟩:E4)).r
   ·skip
    refine AF.region (AO O (AO O (AG (v:=(pP (pB o.p) (pO o.p+i*4))) (AN (j:=i) O O o.ok underlying51 sizeOf65 O Z) O (AG (v:=(pP (pB o.p) (pO o.p+(i*4+2)))) (AA O underlying65 O sizeOf3 (Nat.add_assoc _ _ _)) O (AG (Aa (v:=(vI (((BC g.ts).getD i (⟨0,0,0,0⟩:E4)).l))) (i:=3) O O (BB.ne o.ok Z) Bs (BP BT (⟨0,0,0,0⟩:E4) _ _ 2 Z (by decide) O)) O ?_)))))
    refine AG (CQ (c:=true) O O (decide_eq_true Z)) O (AO O (AE.step (v:=(Value.slice o.p ((BC g.ts).length) o.c)) (AB O) (Az O) O (Ab O) (AE.step (v:=(vN i)) (AB O) (Az O) O (Ab O) (AE.step (v:=(pP (pB o.p) (pO o.p+i*4))) (AB O) (AN (j:=i) O O o.ok underlying51 sizeOf65 O Z) O (Ab O) (AE.step (v:=(pP (pB o.p) (pO o.p+(i*4+3)))) (AB O) (AA O underlying65 O sizeOf3 (Nat.add_assoc _ _ _)) O (Ab O) ?_)))))
    refine AE.step (v:=(vI (((BC g.ts).getD i (⟨0,0,0,0⟩:E4)).r))) (AB O) (Aa (v:=(vI (((BC g.ts).getD i (⟨0,0,0,0⟩:E4)).r))) (i:=3) O O (BB.ne o.ok Z) Bs (BP BT (⟨0,0,0,0⟩:E4) _ _ 3 Z (by decide) O)) O (Ab O) (AE.step (v:=(Value.bool true)) (AB O) (CQ (c:=true) O O (decide_eq_true Z)) O (Ab O) (AG (v:=(Value.bool true)) (Ah O O) O (AK O (AE.nil (AD.subF (sL [3,4,5,8,6,7,9,10,40] O) ?_)))))
    refine AD.then_ (AF.cond_true O (q4 (AO O (AG (AX (c:=(((nD g.ts i)+2:Nat):Int)) O O (AY (a:=nD g.ts i) (b:=2) Z)) O (AK O ?_)))))
    refine q6 (sL [3,4,5,8,6,7,9,10] O) (C4 [(0,true),(1,true),(2,true),(3,true),(4,true),(5,true),(6,true),(7,true),(8,true),(9,true),(10,true)] sr (Bo O (Bo O (Ay (v:=(pP (pB o.p) (pO o.p+i*4))) O (AN (j:=i) O O o.ok underlying51 sizeOf65 O Z) (Ay (v:=(pP (pB o.p) (pO o.p+(i*4+2)))) O (AA O underlying65 O sizeOf3 (Nat.add_assoc _ _ _)) ?_)))))
    refine Ay O (Aa (v:=(vI (((BC g.ts).getD i (⟨0,0,0,0⟩:E4)).l))) (i:=3) O O (BB.ne o.ok Z) Bs (BP BT (⟨0,0,0,0⟩:E4) _ _ 2 Z (by decide) O)) (Bo O (Bo O (Ay (v:=(pP (pB o.p) (pO o.p+i*4))) O (AN (j:=i) O O o.ok underlying51 sizeOf65 O Z) (Ay (v:=(pP (pB o.p) (pO o.p+(i*4+3)))) O (AA O underlying65 O sizeOf3 (Nat.add_assoc _ _ _)) (Ay O (Aa (v:=(vI (((BC g.ts).getD i (⟨0,0,0,0⟩:E4)).r))) (i:=3) O O (BB.ne o.ok Z) Bs (BP BT (⟨0,0,0,0⟩:E4) _ _ 3 Z (by decide) O)) ?_)))))
    refine Ay O (BU (c:=false) O O (decide_eq_false (by have h9:=hlr hl hr;omega))) (AS.nil (AD.subF (sL [3,4,5,8,6,7,9,10,67] O) (AD.then_ (AF.cond_false O (AF.skip ?_)))))
    refine AD.in_normal (q2 (AO O (AO O (AG (v:=(pP (pB o.p) (pO o.p+i*4))) (AN (j:=i) O O o.ok underlying51 sizeOf65 O Z) O (AG (v:=(pP (pB o.p) (pO o.p+(i*4+2)))) (AA O underlying65 O sizeOf3 (Nat.add_assoc _ _ _)) O ?_)))))
    refine AG (Aa (v:=(vI (((BC g.ts).getD i (⟨0,0,0,0⟩:E4)).l))) (i:=3) O O (BB.ne o.ok Z) Bs (BP BT (⟨0,0,0,0⟩:E4) _ _ 2 Z (by decide) O)) O (AG (Af (c:=false) O O (decide_eq_false Z)) O (AO O (AE.step (v:=(Value.slice o.p ((BC g.ts).length) o.c)) (AB O) (Az O) O (Ab O) (AE.step (v:=(vN i)) (AB O) (Az O) O (Ab O) (AE.step (v:=(pP (pB o.p) (pO o.p+i*4))) (AB O) (AN (j:=i) O O o.ok underlying51 sizeOf65 O Z) O (Ab O) ?_)))))
    refine AE.step (v:=(pP (pB o.p) (pO o.p+(i*4+3)))) (AB O) (AA O underlying65 O sizeOf3 (Nat.add_assoc _ _ _)) O (Ab O) (AE.step (v:=(vI (((BC g.ts).getD i (⟨0,0,0,0⟩:E4)).r))) (AB O) (Aa (v:=(vI (((BC g.ts).getD i (⟨0,0,0,0⟩:E4)).r))) (i:=3) O O (BB.ne o.ok Z) Bs (BP BT (⟨0,0,0,0⟩:E4) _ _ 3 Z (by decide) O)) O (Ab O) (AE.step (v:=(Value.bool false)) (AB O) (Af (c:=false) O O (decide_eq_false Z)) O (Ab O) (AG (v:=(Value.bool false)) (AU O O) O (AE.nil (AD.subF (sL [3,4,5,8,6,7,9,10,105] O) ?_)))))
    refine AD.then_ (AF.cond_false O (AF.skip (AD.in_normal (AD.then_ (AF.region ?_)))))
    refine AO O (AG (AX (c:=((i+1:Nat):Int)) O O (AY (a:=i) (b:=1) Z)) O (AK O (AE.nil (AD.subF (sL [3,4,5,8,6,7,9,10] O) ?_))))
    rw [show (nD g.ts i)+2=nD g.ts (i+1) from by rw [hns];first|rw [if_pos hl,if_pos hr]|rw [if_pos hl,if_neg hr]|rw [if_neg hl,if_pos (hs.resolve_left hl)]]
    rw [show (Bm g.ts i).length=(Bm g.ts (i+1)).length from by rw [Nv hc0 (by rw [hcd,if_pos hl,if_pos hr];decide)]]
    rw [show sR g.ps g.ts i=sR g.ps g.ts (i+1) from (K4 ⟨hl,hr⟩).symm]
    exact AD.round1 (i+1) Z Z (sF O) (sl (sl sr))
   ·skip
    refine AF.region (AO O (AO O (AG (v:=(pP (pB o.p) (pO o.p+i*4))) (AN (j:=i) O O o.ok underlying51 sizeOf65 O Z) O (AG (v:=(pP (pB o.p) (pO o.p+(i*4+2)))) (AA O underlying65 O sizeOf3 (Nat.add_assoc _ _ _)) O (AG (Aa (v:=(vI (((BC g.ts).getD i (⟨0,0,0,0⟩:E4)).l))) (i:=3) O O (BB.ne o.ok Z) Bs (BP BT (⟨0,0,0,0⟩:E4) _ _ 2 Z (by decide) O)) O ?_)))))
    refine AG (CQ (c:=true) O O (decide_eq_true Z)) O (AO O (AE.step (v:=(Value.slice o.p ((BC g.ts).length) o.c)) (AB O) (Az O) O (Ab O) (AE.step (v:=(vN i)) (AB O) (Az O) O (Ab O) (AE.step (v:=(pP (pB o.p) (pO o.p+i*4))) (AB O) (AN (j:=i) O O o.ok underlying51 sizeOf65 O Z) O (Ab O) (AE.step (v:=(pP (pB o.p) (pO o.p+(i*4+3)))) (AB O) (AA O underlying65 O sizeOf3 (Nat.add_assoc _ _ _)) O (Ab O) ?_)))))
    refine AE.step (v:=(vI (((BC g.ts).getD i (⟨0,0,0,0⟩:E4)).r))) (AB O) (Aa (v:=(vI (((BC g.ts).getD i (⟨0,0,0,0⟩:E4)).r))) (i:=3) O O (BB.ne o.ok Z) Bs (BP BT (⟨0,0,0,0⟩:E4) _ _ 3 Z (by decide) O)) O (Ab O) (AE.step (v:=(Value.bool false)) (AB O) (CQ (c:=false) O O (decide_eq_false Z)) O (Ab O) (AG (v:=(Value.bool false)) (Ah O O) O (AK O (AE.nil (AD.subF (sL [3,4,5,8,6,7,9,10,40] O) ?_)))))
    refine AD.then_ (AF.cond_false O (q4 (AO O (AO O (AG (v:=(pP (pB o.p) (pO o.p+i*4))) (AN (j:=i) O O o.ok underlying51 sizeOf65 O Z) O ?_)))))
    refine AG (v:=(pP (pB o.p) (pO o.p+(i*4+2)))) (AA O underlying65 O sizeOf3 (Nat.add_assoc _ _ _)) O (AG (Aa (v:=(vI (((BC g.ts).getD i (⟨0,0,0,0⟩:E4)).l))) (i:=3) O O (BB.ne o.ok Z) Bs (BP BT (⟨0,0,0,0⟩:E4) _ _ 2 Z (by decide) O)) O (AG (CQ (c:=true) O O (decide_eq_true Z)) O (AK O (AE.nil (AD.subF (sL [3,4,5,8,6,7,9,10,68] O) ?_)))))
    refine AD.then_ (AF.cond_true O (rC [(0,true),(1,true),(2,true),(3,false),(4,false)] 5 [] sr (sk (sk (sl sr))) (by kernel_rfl) (λ_ _ d _ _ h=>by cases d<;>exact h) (vE (v:=(aG (AI (sR g.ps g.ts i)))) O (Al (i:=2) (vs:=AI (sR g.ps g.ts i)) O O Bh.a Bh.s O O) O (vE (v:=(aG (Aj (g.ps.getD (((BC g.ts).getD i (⟨0,0,0,0⟩:E4)).a) (⟨0,0⟩:Pt))))) O (Al (i:=1) (vs:=Aj (g.ps.getD (((BC g.ts).getD i (⟨0,0,0,0⟩:E4)).a) (⟨0,0⟩:Pt))) O O BQ.a BQ.s O O) O (vE (v:=(aG (Aj (g.ps.getD (((BC g.ts).getD i (⟨0,0,0,0⟩:E4)).b) (⟨0,0⟩:Pt))))) O (Al (i:=0) (vs:=Aj (g.ps.getD (((BC g.ts).getD i (⟨0,0,0,0⟩:E4)).b) (⟨0,0⟩:Pt))) O O BQ.a BQ.s O O) O ?_)))))
    refine CK.imp O ?_
    have hz1:=Et (g.ps.getD (((BC g.ts).getD i (⟨0,0,0,0⟩:E4)).a) (⟨0,0⟩:Pt)) (g.ps.getD (((BC g.ts).getD i (⟨0,0,0,0⟩:E4)).b) (⟨0,0⟩:Pt))
    refine BV call18 (F0 (g.ps.getD (((BC g.ts).getD i (⟨0,0,0,0⟩:E4)).a) (⟨0,0⟩:Pt)) (g.ps.getD (((BC g.ts).getD i (⟨0,0,0,0⟩:E4)).b) (⟨0,0⟩:Pt)) Z) O (CK.back sr (CK.imp O ?_))
    have hz2:=GY (sR g.ps g.ts i) (Ca (g.ps.getD (((BC g.ts).getD i (⟨0,0,0,0⟩:E4)).a) (⟨0,0⟩:Pt)) (g.ps.getD (((BC g.ts).getD i (⟨0,0,0,0⟩:E4)).b) (⟨0,0⟩:Pt)))
    refine BV call17 (G2 (sR g.ps g.ts i) (Ca (g.ps.getD (((BC g.ts).getD i (⟨0,0,0,0⟩:E4)).a) (⟨0,0⟩:Pt)) (g.ps.getD (((BC g.ts).getD i (⟨0,0,0,0⟩:E4)).b) (⟨0,0⟩:Pt))) (by (try simp only [Dw]);omega)) O (CK.back sr (CK.cut O (Le O sizeOf61 O (AS.back (sk (sk (sl sr))) (AS.nil ?_)))))
    refine AD.subF (sL [3,4,5,8,6,7,9,10] O) (AD.in_normal (q2 (AO O (AO O (AG (v:=(pP (pB o.p) (pO o.p+i*4))) (AN (j:=i) O O o.ok underlying51 sizeOf65 O Z) O ?_)))))
    refine AG (v:=(pP (pB o.p) (pO o.p+(i*4+2)))) (AA O underlying65 O sizeOf3 (Nat.add_assoc _ _ _)) O (AG (Aa (v:=(vI (((BC g.ts).getD i (⟨0,0,0,0⟩:E4)).l))) (i:=3) O O (BB.ne o.ok Z) Bs (BP BT (⟨0,0,0,0⟩:E4) _ _ 2 Z (by decide) O)) O (AG (Af (c:=false) O O (decide_eq_false Z)) O (AO O (AE.step (v:=(Value.slice o.p ((BC g.ts).length) o.c)) (AB O) (Az O) O (Ab O) (AE.step (v:=(vN i)) (AB O) (Az O) O (Ab O) ?_)))))
    refine AE.step (v:=(pP (pB o.p) (pO o.p+i*4))) (AB O) (AN (j:=i) O O o.ok underlying51 sizeOf65 O Z) O (Ab O) (AE.step (v:=(pP (pB o.p) (pO o.p+(i*4+3)))) (AB O) (AA O underlying65 O sizeOf3 (Nat.add_assoc _ _ _)) O (Ab O) (AE.step (v:=(vI (((BC g.ts).getD i (⟨0,0,0,0⟩:E4)).r))) (AB O) (Aa (v:=(vI (((BC g.ts).getD i (⟨0,0,0,0⟩:E4)).r))) (i:=3) O O (BB.ne o.ok Z) Bs (BP BT (⟨0,0,0,0⟩:E4) _ _ 3 Z (by decide) O)) O (Ab O) (AE.step (v:=(Value.bool true)) (AB O) (Af (c:=true) O O (decide_eq_true Z)) O (Ab O) (AG (v:=(Value.bool true)) (AU O O) O (AE.nil ?_)))))
    refine AD.subF (sL [3,4,5,8,6,7,9,10,105] O) (AD.then_ (AF.cond_true O (q4 (AO O (AG (AX (c:=(((nD g.ts i)+1:Nat):Int)) O O (AY (a:=nD g.ts i) (b:=1) Z)) O ?_)))))
    have hcn:I4 g.ts (((BC g.ts).getD i (⟨0,0,0,0⟩:E4)).a,((BC g.ts).getD i (⟨0,0,0,0⟩:E4)).b)=1:=by rw [hcd];first|rw [if_pos hl,if_neg hr]|rw [if_neg hl,if_pos (hs.resolve_left hl)]
    obtain ⟨k1,k2,k3⟩:=hsd hcn
    have hry:=Gn hc0 hcn
    have hln:(Bm g.ts (i+1)).length=(Bm g.ts i).length+1:=by rw [hry,List.length_append];rfl
    refine AK O (q6 (sL [3,4,5,8,6,7,9,10] O) (AF.seq (C4 [(0,true),(1,true),(2,true),(3,true),(4,true),(5,true),(6,true),(7,true),(8,true),(9,true),(10,true),(11,true),(12,true),(13,true),(14,true),(15,true),(16,true),(17,true),(18,true),(19,true),(20,true),(21,true),(22,true),(23,true),(24,true),(25,true),(26,true),(27,true),(28,true),(29,true),(30,true),(31,true),(32,true)] sr (Bo O (Ay (v:=(pP b2 2)) O (AA O underlying30 O sizeOf24 O) ?_)))))
    refine Bn 4 (Value.slice g.mx.c.p g.ss.length g.mx.c.c) H6 O (Ay (v:=(vN g.ss.length)) O (AH O underlying24) (Ay O (CQ (c:=false) O O (decide_eq_false Z)) (Bo O (AS.pas (v:=(pP b2 2)) O (AB O) (AA O underlying30 O sizeOf24 O) O O (AS.pas (v:=(Value.slice g.mx.c.p g.ss.length g.mx.c.c)) O (AB O) (AM (i:=4) (v:=(Value.slice g.mx.c.p g.ss.length g.mx.c.c)) O O H6.a O) O O ?_)))))
    refine AS.pas (v:=(vN ((Bm g.ts i).length))) O (AB O) (Az O) O O (AS.pas (v:=(pP (pB g.mx.c.p) (pO g.mx.c.p+((Bm g.ts i).length)*3))) O (AB O) (AN (j:=(Bm g.ts i).length) O O g.mx.c.ok underlying24 sizeOf43 O Z) O O (AS.pas (v:=(pP (pB g.mx.c.p) (pO g.mx.c.p+(((Bm g.ts i).length)*3+0)))) O (AB O) (AA O underlying43 O sizeOf3 (Nat.add_assoc _ _ _)) O O (AS.pas (v:=(vN ((g.ss.getD ((Bm g.ts i).length) ((0,0,0):Nat×Nat×Nat)).1))) O (AB O) (Aa (v:=(vN ((g.ss.getD ((Bm g.ts i).length) ((0,0,0):Nat×Nat×Nat)).1))) (i:=7) O O (BB.ne g.mx.c.ok Z) Bs (BP BK ((0,0,0):Nat×Nat×Nat) _ _ 0 Z (by decide) O)) O O (AS.pas (v:=(Value.slice o.p ((BC g.ts).length) o.c)) O (AB O) (Az O) O O (AS.pas (v:=(vN i)) O (AB O) (Az O) O O ?_)))))
    refine AS.pas (v:=(pP (pB o.p) (pO o.p+i*4))) O (AB O) (AN (j:=i) O O o.ok underlying51 sizeOf65 O Z) O O (AS.pas (v:=(pP (pB o.p) (pO o.p+(i*4+0)))) O (AB O) (AA O underlying65 O sizeOf3 (Nat.add_assoc _ _ _)) O O (AS.pas (v:=(vN (((BC g.ts).getD i (⟨0,0,0,0⟩:E4)).a))) O (AB O) (Aa (v:=(vN (((BC g.ts).getD i (⟨0,0,0,0⟩:E4)).a))) (i:=3) O O (BB.ne o.ok Z) Bs (BP BT (⟨0,0,0,0⟩:E4) _ _ 0 Z (by decide) O)) O O (AS.pas (v:=(Value.bool false)) O (AB O) (CL (c:=false) O O (decide_eq_false Z)) O O (Ay (v:=(Value.bool false)) O (AU O O) (Bo O ?_)))))
    refine AS.pas (v:=(pP b2 2)) O (AB O) (AA O underlying30 O sizeOf24 O) O O (AS.pas (v:=(Value.slice g.mx.c.p g.ss.length g.mx.c.c)) O (AB O) (AM (i:=4) (v:=(Value.slice g.mx.c.p g.ss.length g.mx.c.c)) O O H6.a O) O O (AS.pas (v:=(vN ((Bm g.ts i).length))) O (AB O) (Az O) O O (AS.pas (v:=(pP (pB g.mx.c.p) (pO g.mx.c.p+((Bm g.ts i).length)*3))) O (AB O) (AN (j:=(Bm g.ts i).length) O O g.mx.c.ok underlying24 sizeOf43 O Z) O O (AS.pas (v:=(pP (pB g.mx.c.p) (pO g.mx.c.p+(((Bm g.ts i).length)*3+1)))) O (AB O) (AA O underlying43 O sizeOf3 (Nat.add_assoc _ _ _)) O O (AS.pas (v:=(vN ((g.ss.getD ((Bm g.ts i).length) ((0,0,0):Nat×Nat×Nat)).2.1))) O (AB O) (Aa (v:=(vN ((g.ss.getD ((Bm g.ts i).length) ((0,0,0):Nat×Nat×Nat)).2.1))) (i:=7) O O (BB.ne g.mx.c.ok Z) Bs (BP BK ((0,0,0):Nat×Nat×Nat) _ _ 1 Z (by decide) O)) O O ?_)))))
    refine AS.pas (v:=(Value.slice o.p ((BC g.ts).length) o.c)) O (AB O) (Az O) O O (AS.pas (v:=(vN i)) O (AB O) (Az O) O O (AS.pas (v:=(pP (pB o.p) (pO o.p+i*4))) O (AB O) (AN (j:=i) O O o.ok underlying51 sizeOf65 O Z) O O (AS.pas (v:=(pP (pB o.p) (pO o.p+(i*4+1)))) O (AB O) (AA O underlying65 O sizeOf3 (Nat.add_assoc _ _ _)) O O (AS.pas (v:=(vN (((BC g.ts).getD i (⟨0,0,0,0⟩:E4)).b))) O (AB O) (Aa (v:=(vN (((BC g.ts).getD i (⟨0,0,0,0⟩:E4)).b))) (i:=3) O O (BB.ne o.ok Z) Bs (BP BT (⟨0,0,0,0⟩:E4) _ _ 1 Z (by decide) O)) O O (AS.pas (v:=(Value.bool false)) O (AB O) (CL (c:=false) O O (decide_eq_false Z)) O O ?_)))))
    refine Ay (v:=(Value.bool false)) O (AU O O) (AS.nil (AD.subF (sL [3,4,5,8,6,7,9,10,140] O) (AD.then_ (AF.cond_false O (AF.skip ?_)))))
    refine AD.then_ (AF.region (AO O (AG (AX (c:=((((Bm g.ts i).length)+1:Nat):Int)) O O (AY (a:=(Bm g.ts i).length) (b:=1) Z)) O (AK O (AE.nil ?_)))))
    refine AD.subF (sL [3,4,5,8,6,7,9,10] O) (AD.in_normal (AD.then_ (AF.region (AO O (AG (AX (c:=((i+1:Nat):Int)) O O (AY (a:=i) (b:=1) Z)) O ?_)))))
    refine AK O (AE.nil (AD.subF (sL [3,4,5,8,6,7,9,10] O) ?_))
    rw [show (nD g.ts i)+1=nD g.ts (i+1) from by rw [hns];first|rw [if_pos hl,if_pos hr]|rw [if_pos hl,if_neg hr]|rw [if_neg hl,if_pos (hs.resolve_left hl)]]
    rw [show ((Bm g.ts i).length)+1=(Bm g.ts (i+1)).length from hln.symm]
    rw [show (sR g.ps g.ts i)+(Ca (g.ps.getD (((BC g.ts).getD i (⟨0,0,0,0⟩:E4)).a) (⟨0,0⟩:Pt)) (g.ps.getD (((BC g.ts).getD i (⟨0,0,0,0⟩:E4)).b) (⟨0,0⟩:Pt)))=sR g.ps g.ts (i+1) from by first|exact (II hr hl).symm|exact (Gx hl).symm]
    exact AD.round1 (i+1) Z Z (sF O) (sl (sl sr))
  ·skip
   refine AF.region (AO O (AO O (AG (v:=(pP (pB o.p) (pO o.p+i*4))) (AN (j:=i) O O o.ok underlying51 sizeOf65 O Z) O (AG (v:=(pP (pB o.p) (pO o.p+(i*4+2)))) (AA O underlying65 O sizeOf3 (Nat.add_assoc _ _ _)) O (AG (Aa (v:=(vI (((BC g.ts).getD i (⟨0,0,0,0⟩:E4)).l))) (i:=3) O O (BB.ne o.ok Z) Bs (BP BT (⟨0,0,0,0⟩:E4) _ _ 2 Z (by decide) O)) O ?_)))))
   refine AG (CQ (c:=false) O O (decide_eq_false Z)) O (AO O (AE.skip (AR O) O (Ab O) (AE.skip (AR O) O (Ab O) (AE.skip (AR O) O (Ab O) (AE.skip (AR O) O (Ab O) ?_)))))
   refine AE.skip (AR O) O (Ab O) (AE.skip (AR O) O (Ab O) (AG (v:=(Value.bool false)) (AU O O) O (AK O (AE.nil (AD.subF (sL [3,4,5,8,6,7,9,10,40] O) ?_)))))
   refine AD.then_ (AF.cond_false O (q4 (AO O (AO O (AG (v:=(pP (pB o.p) (pO o.p+i*4))) (AN (j:=i) O O o.ok underlying51 sizeOf65 O Z) O ?_)))))
   refine AG (v:=(pP (pB o.p) (pO o.p+(i*4+2)))) (AA O underlying65 O sizeOf3 (Nat.add_assoc _ _ _)) O (AG (Aa (v:=(vI (((BC g.ts).getD i (⟨0,0,0,0⟩:E4)).l))) (i:=3) O O (BB.ne o.ok Z) Bs (BP BT (⟨0,0,0,0⟩:E4) _ _ 2 Z (by decide) O)) O (AG (CQ (c:=false) O O (decide_eq_false Z)) O (AK O (AE.nil (AD.subF (sL [3,4,5,8,6,7,9,10,68] O) ?_)))))
   refine AD.then_ (AF.cond_false O (q4 (AO O (AO O (AG (v:=(pP (pB o.p) (pO o.p+i*4))) (AN (j:=i) O O o.ok underlying51 sizeOf65 O Z) O ?_)))))
   refine AG (v:=(pP (pB o.p) (pO o.p+(i*4+3)))) (AA O underlying65 O sizeOf3 (Nat.add_assoc _ _ _)) O (AG (Aa (v:=(vI (((BC g.ts).getD i (⟨0,0,0,0⟩:E4)).r))) (i:=3) O O (BB.ne o.ok Z) Bs (BP BT (⟨0,0,0,0⟩:E4) _ _ 3 Z (by decide) O)) O (AG (CQ (c:=true) O O (decide_eq_true Z)) O (AK O (AE.nil (AD.subF (sL [3,4,5,8,6,7,9,10,80] O) ?_)))))
   refine AD.then_ (AF.cond_true O (rC [(0,true),(1,true),(2,true),(3,false),(4,false)] 5 [] sr (sk (sk (sl sr))) (by kernel_rfl) (λ_ _ d _ _ h=>by cases d<;>exact h) (vE (v:=(aG (AI (sR g.ps g.ts i)))) O (Al (i:=2) (vs:=AI (sR g.ps g.ts i)) O O Bh.a Bh.s O O) O (vE (v:=(aG (Aj (g.ps.getD (((BC g.ts).getD i (⟨0,0,0,0⟩:E4)).b) (⟨0,0⟩:Pt))))) O (Al (i:=0) (vs:=Aj (g.ps.getD (((BC g.ts).getD i (⟨0,0,0,0⟩:E4)).b) (⟨0,0⟩:Pt))) O O BQ.a BQ.s O O) O (vE (v:=(aG (Aj (g.ps.getD (((BC g.ts).getD i (⟨0,0,0,0⟩:E4)).a) (⟨0,0⟩:Pt))))) O (Al (i:=1) (vs:=Aj (g.ps.getD (((BC g.ts).getD i (⟨0,0,0,0⟩:E4)).a) (⟨0,0⟩:Pt))) O O BQ.a BQ.s O O) O ?_)))))
   refine CK.imp O ?_
   have hz3:=Et (g.ps.getD (((BC g.ts).getD i (⟨0,0,0,0⟩:E4)).b) (⟨0,0⟩:Pt)) (g.ps.getD (((BC g.ts).getD i (⟨0,0,0,0⟩:E4)).a) (⟨0,0⟩:Pt))
   refine BV call18 (F0 (g.ps.getD (((BC g.ts).getD i (⟨0,0,0,0⟩:E4)).b) (⟨0,0⟩:Pt)) (g.ps.getD (((BC g.ts).getD i (⟨0,0,0,0⟩:E4)).a) (⟨0,0⟩:Pt)) Z) O (CK.back sr (CK.imp O ?_))
   have hz4:=GY (sR g.ps g.ts i) (Ca (g.ps.getD (((BC g.ts).getD i (⟨0,0,0,0⟩:E4)).b) (⟨0,0⟩:Pt)) (g.ps.getD (((BC g.ts).getD i (⟨0,0,0,0⟩:E4)).a) (⟨0,0⟩:Pt)))
   refine BV call17 (G2 (sR g.ps g.ts i) (Ca (g.ps.getD (((BC g.ts).getD i (⟨0,0,0,0⟩:E4)).b) (⟨0,0⟩:Pt)) (g.ps.getD (((BC g.ts).getD i (⟨0,0,0,0⟩:E4)).a) (⟨0,0⟩:Pt))) (by (try simp only [Dw]);omega)) O (CK.back sr (CK.cut O (Le O sizeOf61 O (AS.back (sk (sk (sl sr))) (AS.nil ?_)))))
   refine AD.subF (sL [3,4,5,8,6,7,9,10] O) (AD.in_normal (q2 (AO O (AO O (AG (v:=(pP (pB o.p) (pO o.p+i*4))) (AN (j:=i) O O o.ok underlying51 sizeOf65 O Z) O ?_)))))
   refine AG (v:=(pP (pB o.p) (pO o.p+(i*4+2)))) (AA O underlying65 O sizeOf3 (Nat.add_assoc _ _ _)) O (AG (Aa (v:=(vI (((BC g.ts).getD i (⟨0,0,0,0⟩:E4)).l))) (i:=3) O O (BB.ne o.ok Z) Bs (BP BT (⟨0,0,0,0⟩:E4) _ _ 2 Z (by decide) O)) O (AG (Af (c:=true) O O (decide_eq_true Z)) O (AO O (AE.skip (AR O) O (Ab O) (AE.skip (AR O) O (Ab O) ?_)))))
   refine AE.skip (AR O) O (Ab O) (AE.skip (AR O) O (Ab O) (AE.skip (AR O) O (Ab O) (AE.skip (AR O) O (Ab O) (AG (v:=(Value.bool true)) (Ah O O) O (AE.nil ?_)))))
   refine AD.subF (sL [3,4,5,8,6,7,9,10,105] O) (AD.then_ (AF.cond_true O (q4 (AO O (AG (AX (c:=(((nD g.ts i)+1:Nat):Int)) O O (AY (a:=nD g.ts i) (b:=1) Z)) O ?_)))))
   have hcn:I4 g.ts (((BC g.ts).getD i (⟨0,0,0,0⟩:E4)).a,((BC g.ts).getD i (⟨0,0,0,0⟩:E4)).b)=1:=by rw [hcd];first|rw [if_pos hl,if_neg hr]|rw [if_neg hl,if_pos (hs.resolve_left hl)]
   obtain ⟨k1,k2,k3⟩:=hsd hcn
   have hry:=Gn hc0 hcn
   have hln:(Bm g.ts (i+1)).length=(Bm g.ts i).length+1:=by rw [hry,List.length_append];rfl
   refine AK O (q6 (sL [3,4,5,8,6,7,9,10] O) (AF.seq (C4 [(0,true),(1,true),(2,true),(3,true),(4,true),(5,true),(6,true),(7,true),(8,true),(9,true),(10,true),(11,true),(12,true),(13,true),(14,true),(15,true),(16,true),(17,true),(18,true),(19,true),(20,true),(21,true),(22,true),(23,true),(24,true),(25,true),(26,true),(27,true),(28,true),(29,true),(30,true),(31,true),(32,true)] sr (Bo O (Ay (v:=(pP b2 2)) O (AA O underlying30 O sizeOf24 O) ?_)))))
   refine Bn 4 (Value.slice g.mx.c.p g.ss.length g.mx.c.c) H6 O (Ay (v:=(vN g.ss.length)) O (AH O underlying24) (Ay O (CQ (c:=false) O O (decide_eq_false Z)) (Bo O (AS.pas (v:=(pP b2 2)) O (AB O) (AA O underlying30 O sizeOf24 O) O O (AS.pas (v:=(Value.slice g.mx.c.p g.ss.length g.mx.c.c)) O (AB O) (AM (i:=4) (v:=(Value.slice g.mx.c.p g.ss.length g.mx.c.c)) O O H6.a O) O O ?_)))))
   refine AS.pas (v:=(vN ((Bm g.ts i).length))) O (AB O) (Az O) O O (AS.pas (v:=(pP (pB g.mx.c.p) (pO g.mx.c.p+((Bm g.ts i).length)*3))) O (AB O) (AN (j:=(Bm g.ts i).length) O O g.mx.c.ok underlying24 sizeOf43 O Z) O O (AS.pas (v:=(pP (pB g.mx.c.p) (pO g.mx.c.p+(((Bm g.ts i).length)*3+0)))) O (AB O) (AA O underlying43 O sizeOf3 (Nat.add_assoc _ _ _)) O O (AS.pas (v:=(vN ((g.ss.getD ((Bm g.ts i).length) ((0,0,0):Nat×Nat×Nat)).1))) O (AB O) (Aa (v:=(vN ((g.ss.getD ((Bm g.ts i).length) ((0,0,0):Nat×Nat×Nat)).1))) (i:=7) O O (BB.ne g.mx.c.ok Z) Bs (BP BK ((0,0,0):Nat×Nat×Nat) _ _ 0 Z (by decide) O)) O O (AS.pas (v:=(Value.slice o.p ((BC g.ts).length) o.c)) O (AB O) (Az O) O O (AS.pas (v:=(vN i)) O (AB O) (Az O) O O ?_)))))
   refine AS.pas (v:=(pP (pB o.p) (pO o.p+i*4))) O (AB O) (AN (j:=i) O O o.ok underlying51 sizeOf65 O Z) O O (AS.pas (v:=(pP (pB o.p) (pO o.p+(i*4+0)))) O (AB O) (AA O underlying65 O sizeOf3 (Nat.add_assoc _ _ _)) O O (AS.pas (v:=(vN (((BC g.ts).getD i (⟨0,0,0,0⟩:E4)).a))) O (AB O) (Aa (v:=(vN (((BC g.ts).getD i (⟨0,0,0,0⟩:E4)).a))) (i:=3) O O (BB.ne o.ok Z) Bs (BP BT (⟨0,0,0,0⟩:E4) _ _ 0 Z (by decide) O)) O O (AS.pas (v:=(Value.bool false)) O (AB O) (CL (c:=false) O O (decide_eq_false Z)) O O (Ay (v:=(Value.bool false)) O (AU O O) (Bo O ?_)))))
   refine AS.pas (v:=(pP b2 2)) O (AB O) (AA O underlying30 O sizeOf24 O) O O (AS.pas (v:=(Value.slice g.mx.c.p g.ss.length g.mx.c.c)) O (AB O) (AM (i:=4) (v:=(Value.slice g.mx.c.p g.ss.length g.mx.c.c)) O O H6.a O) O O (AS.pas (v:=(vN ((Bm g.ts i).length))) O (AB O) (Az O) O O (AS.pas (v:=(pP (pB g.mx.c.p) (pO g.mx.c.p+((Bm g.ts i).length)*3))) O (AB O) (AN (j:=(Bm g.ts i).length) O O g.mx.c.ok underlying24 sizeOf43 O Z) O O (AS.pas (v:=(pP (pB g.mx.c.p) (pO g.mx.c.p+(((Bm g.ts i).length)*3+1)))) O (AB O) (AA O underlying43 O sizeOf3 (Nat.add_assoc _ _ _)) O O (AS.pas (v:=(vN ((g.ss.getD ((Bm g.ts i).length) ((0,0,0):Nat×Nat×Nat)).2.1))) O (AB O) (Aa (v:=(vN ((g.ss.getD ((Bm g.ts i).length) ((0,0,0):Nat×Nat×Nat)).2.1))) (i:=7) O O (BB.ne g.mx.c.ok Z) Bs (BP BK ((0,0,0):Nat×Nat×Nat) _ _ 1 Z (by decide) O)) O O ?_)))))
   refine AS.pas (v:=(Value.slice o.p ((BC g.ts).length) o.c)) O (AB O) (Az O) O O (AS.pas (v:=(vN i)) O (AB O) (Az O) O O (AS.pas (v:=(pP (pB o.p) (pO o.p+i*4))) O (AB O) (AN (j:=i) O O o.ok underlying51 sizeOf65 O Z) O O (AS.pas (v:=(pP (pB o.p) (pO o.p+(i*4+1)))) O (AB O) (AA O underlying65 O sizeOf3 (Nat.add_assoc _ _ _)) O O (AS.pas (v:=(vN (((BC g.ts).getD i (⟨0,0,0,0⟩:E4)).b))) O (AB O) (Aa (v:=(vN (((BC g.ts).getD i (⟨0,0,0,0⟩:E4)).b))) (i:=3) O O (BB.ne o.ok Z) Bs (BP BT (⟨0,0,0,0⟩:E4) _ _ 1 Z (by decide) O)) O O (AS.pas (v:=(Value.bool false)) O (AB O) (CL (c:=false) O O (decide_eq_false Z)) O O ?_)))))
   refine Ay (v:=(Value.bool false)) O (AU O O) (AS.nil (AD.subF (sL [3,4,5,8,6,7,9,10,140] O) (AD.then_ (AF.cond_false O (AF.skip ?_)))))
   refine AD.then_ (AF.region (AO O (AG (AX (c:=((((Bm g.ts i).length)+1:Nat):Int)) O O (AY (a:=(Bm g.ts i).length) (b:=1) Z)) O (AK O (AE.nil ?_)))))
   refine AD.subF (sL [3,4,5,8,6,7,9,10] O) (AD.in_normal (AD.then_ (AF.region (AO O (AG (AX (c:=((i+1:Nat):Int)) O O (AY (a:=i) (b:=1) Z)) O ?_)))))
   refine AK O (AE.nil (AD.subF (sL [3,4,5,8,6,7,9,10] O) ?_))
   rw [show (nD g.ts i)+1=nD g.ts (i+1) from by rw [hns];first|rw [if_pos hl,if_pos hr]|rw [if_pos hl,if_neg hr]|rw [if_neg hl,if_pos (hs.resolve_left hl)]]
   rw [show ((Bm g.ts i).length)+1=(Bm g.ts (i+1)).length from hln.symm]
   rw [show (sR g.ps g.ts i)+(Ca (g.ps.getD (((BC g.ts).getD i (⟨0,0,0,0⟩:E4)).b) (⟨0,0⟩:Pt)) (g.ps.getD (((BC g.ts).getD i (⟨0,0,0,0⟩:E4)).a) (⟨0,0⟩:Pt)))=sR g.ps g.ts (i+1) from by first|exact (II hr hl).symm|exact (Gx hl).symm]
   exact AD.round1 (i+1) Z Z (sF O) (sl (sl sr))
 ·replace hc0:=of_decide_eq_false hc0
  have hie:i=(BC g.ts).length:=by omega
  have hss:(Bm g.ts i).length=g.ss.length:=by rw [hie];exact Ps hnb Z g.sd
  have hnn:nD g.ts i=3*g.ts.length:=by rw [hie];exact UP hG hnb
  have hsum:CP g.ps g.ts g.ts.length+CP g.ps g.ts g.ts.length=sR g.ps g.ts i:=by rw [hie];exact (TW hG hnb).symm
  have hsa:=KZ (ps:=g.ps) hz g.ts g.ts.length
  have hap:=Ra hG
  have hsr:=Qu (ts:=g.ts) hz i
  refine AF.exit (AD.then_exit (AD.round1_exit (AD.in_exit (q2 (BD 2 EO O ?_)))))
  refine ET call19 (λw hw=>Lw g.mx Z hz hnb w (ER hw 3 O lg:Ro _ w g.mx)) O (al Dc O λb4=>Au O sizeOf61 O (q6 (sL [3,4,5,8,6,7,11] O) (C4 [(0,true),(1,true),(2,true),(3,true),(4,true),(5,true),(6,true),(7,true),(8,true),(9,true),(10,true),(11,true),(12,true),(13,true),(14,true),(15,true),(17,true),(16,false),(18,true),(19,true),(20,true),(21,true),(22,false),(23,true),(24,true),(25,true),(26,false),(27,true),(28,true)] sr (Bo O ?_))))
  refine Ay (v:=(pP b2 2)) O (AA O underlying30 O sizeOf24 O) (Bn 3 (Value.slice g.mx.c.p g.ss.length g.mx.c.c) H6 O (Ay (v:=(vN g.ss.length)) O (AH O underlying24) (Ay O (BU (c:=true) O O (decide_eq_true Z)) (Bo O (AS.pas (v:=(vN (nD g.ts i))) O (AB O) (Az O) O O ?_)))))
  refine AS.pas (v:=(pP b2 1)) O (AB O) (AA O underlying30 O sizeOf23 O) O O (AS.pas (v:=(Value.slice g.mx.b.p g.ts.length g.mx.b.c)) O (AB O) (AM (i:=3) (v:=(Value.slice g.mx.b.p g.ts.length g.mx.b.c)) O O Dn.a O) O O (AS.pas (v:=(vN g.ts.length)) O (AB O) (AH O underlying23) O O (AS.pas (v:=(vN (3*g.ts.length))) O (AB O) (Br (c:=((3*g.ts.length:Nat):Int)) O O (Cd (a:=3) (b:=g.ts.length) Z)) O O (AS.pas (v:=(Value.bool true)) O (AB O) (BU (c:=true) O O (decide_eq_true Z)) O O (Ay (v:=(Value.bool true)) O (Ah O O) ?_)))))
  refine Bo O (AS.pas (v:=(aG (AI (CP g.ps g.ts g.ts.length)))) O (AB O) (Al (i:=0) (vs:=AI (CP g.ps g.ts g.ts.length)) O O Bh.a Bh.s O O) O O (AS.pas (v:=(aG (AI (CP g.ps g.ts g.ts.length)))) O (AB O) (Al (i:=0) (vs:=AI (CP g.ps g.ts g.ts.length)) O O Bh.a Bh.s O O) O O (AS.pas (v:=(aG (AI (sR g.ps g.ts i)))) O (AB O) (Al (i:=1) (vs:=AI (sR g.ps g.ts i)) O O Bh.a Bh.s O O) O O (AS.imp O ?_))))
  have hz5:=GY (CP g.ps g.ts g.ts.length) (CP g.ps g.ts g.ts.length)
  refine AE.call (v:=(aG (AI ((CP g.ps g.ts g.ts.length)+(CP g.ps g.ts g.ts.length))))) (AB O) (Aw (args:=[(aG (AI (CP g.ps g.ts g.ts.length))),(aG (AI (CP g.ps g.ts g.ts.length)))]) O O call17) (λw hw=>G2 (CP g.ps g.ts g.ts.length) (CP g.ps g.ts g.ts.length) (by (try simp only [Dw]);omega) w) O (Ab O) (AS.back sr (AS.pas (v:=(Value.bool true)) O (AB O) (Bx (c:=true) O O eqGuardType61 (Mf 9995 hsum)) O O (Ay (v:=(Value.bool true)) O (Ah O O) (Bo O (AS.pas (v:=(aG (AI (CP g.ps g.ts g.ts.length)))) O (AB O) (Al (i:=0) (vs:=AI (CP g.ps g.ts g.ts.length)) O O Bh.a Bh.s O O) O O ?_)))))
  refine AS.imp O (AE.call (v:=(vI ((CP g.ps g.ts g.ts.length).num.sign))) (AB O) (Aw (args:=[(aG (AI (CP g.ps g.ts g.ts.length)))]) O O call20) (λw hw=>Dr (CP g.ps g.ts g.ts.length) w) O (Ab O) (AS.back sr (AS.pas (v:=(Value.bool true)) O (AB O) (BU (c:=true) O O (decide_eq_true (SH hap))) O O (Ay (v:=(Value.bool true)) O (Ah O O) (Bo O ?_)))))
  refine AS.imp O (AE.call (v:=(Value.bool true)) (AB O) (Aw (args:=[]) O O call21) (λw hw=>Na w) O (Ab O) (AS.back sr (Ay (v:=(Value.bool true)) O (Ah O O) (EZ O (AS.nil ?_)))))
  exact AD.subF (sL [3,4,5,8,6,7,11,2] O) (AD.then_ (AF.ret (AP O (Ad (v:=(Value.bool true)) O) (λw hw=>⟨rfl,hw.out⟩))))
end
section
open Go Go.RowKit Go.ChangeShapes Go.WideShapes Go.ChangeAt
theorem TR:laidOutB Tryz.prog=true:=by kernel_rfl
theorem Rp:ownKnob Tryz.prog.godebug=none:=by kernel_rfl
theorem GH {H:Type} {enc:TypeId×Value->H} {P:Program} (hl:laidOutB P=true) {W W':World} {sp:Nat->Bool} (hb:EU W.heap.size W W') :
    ∀{ts:List TypeId} {vs:List Value} {ds:List (DataW H)} {ps:List MemPlace},(∀t∈ts,P.readableRec t=true/\t<P.types.size)->DataW.TrodAll enc P W 0 (λ_=>true) true ts vs ds ps ->
      (∀p∈ps,p.block<W.heap.size)->(∀p∈ps,sp p.block=true)->DataW.TrodAll enc P W' 0 sp true ts vs ds ps
  | [],_,_,_,_,h,_,_=>by
    obtain ⟨rfl,rfl,rfl⟩:=trodAll_nil h
    exact trodAll_mk0
  | t::ts,_,_,_,hr,h,hlt,hs=>by
    obtain ⟨v,vs1,d,ds1,a,b,rfl,rfl,rfl,h1,h2⟩:=trodAll_cons h
    exact ⟨a,b,WideElems.Trod_stays hl (hr t (by simp)).1 (hr t (by simp)).2 h1 (λx hx=>hb.same (hlt x (by simp [hx]))) (λx hx=>hs x (by simp [hx])),
      GH hl hb (λu hu=>hr u (by simp [hu])) h2 (λp hp=>hlt p (by simp [hp])) (λp hp=>hs p (by simp [hp])),rfl⟩
theorem Qt {H:Type} {enc:TypeId×Value->H} {P:Program} {f:Func} {s:ChangeSpec} {apart fresh handsOn again:Bool} {W W':World} {args:Array Value} {ds:List (DataW H)} {CB:List MemPlace} {tb:TypeId}
    (hW:DataW.Whole enc P f.params.toList s.vars apart W args.toList ds [] CB) (hv:s.vars=[]) (hfn:s.fn H ds=({ results:=[.lit (.bool true)],args:=ds }:Left H))
    (hrt:f.resultTypes=#[tb]) (hu:P.underlying tb=some .bool) (hb:EU W.heap.size W W') (hl:laidOutB P=true) (hr:∀t∈f.params.toList,P.readableRec t=true/\t<P.types.size) :
    s.post enc P f apart fresh handsOn again W args (.bool true) W':=by
  have hlt:∀p∈CB,p.block<W.heap.size:=λp hp=>hW.lt p hp
  have hW2:=hW
  obtain ⟨pa,q,hA,hV,he,hz,hn⟩:=hW2
  rw [hv] at hV
  obtain ⟨_,rfl⟩:=trodVars_none hV
  simp only [List.append_nil] at he
  subst he
  have hres:∀(b:Nat) (sp:Nat->Bool) (hd:Bool),DataW.TrodAll enc P W' b sp hd f.resultTypes.toList ((Value.bool true).resultList f.resultTypes.size) (s.fn H (ds++[])).results []:=λb sp hd=>by
    rw [hrt,List.append_nil,hfn]
    exact trodAll_mk1 (shut_bool hu _)
  have hargs:∀sp:Nat->Bool,(∀p∈CB,sp p.block=true)->DataW.TrodAll enc P W' 0 sp true f.params.toList args.toList (s.fn H (ds++[])).args CB:=λsp hs=>by
    rw [List.append_nil,hfn]
    exact GH hl hb hr hA hlt hs
  have hvars:∀sp:Nat->Bool,DataW.TrodVars enc P W' sp s.vars (s.fn H (ds++[])).vars []:=λsp=>by
    rw [List.append_nil,hfn,hv];rfl
  have hold:∀p∈CB,(λb=>decide (b<W.heap.size)) p.block=true:=λp hp=>by simpa using hlt p hp
  refine ⟨ds,[],CB,[],CB,[],hW,hres _ _ _,hargs _ hold,hvars _,World.keptBut_mono (λp hp=>⟨hp,Or.inr (by simpa using hp)⟩) (hb.frame (·∈CB)),λ_=>⟨?_,_,_,([]++CB)++[],⟨[]++CB,[],trodAll_append (hargs _ (λ_ _=>rfl)) (hres _ _ _),hvars _,rfl,?_,?_⟩,?_⟩⟩
  · exact ok_one hrt O (okWide_bool_mk hu _)
  · intro b off hp
    have hp':MemPlace.cell b off∈CB:=by simpa using hp
    rw [hb.frozen (hlt _ hp')]
    exact hz b off hp'
  · intro ha
    have:=hn ha
    simpa using this
  · intro p hp _
    simpa using hp
end
end Go.Proofs.YtfbomiejpbchdaaGreatDoor
