import Derived.Test.YtfbomiejpbchdaaGreatPart06
import Derived.Test.YtfbomiejpbchdaaGreatPart14
import Derived.Test.YtfbomiejpbchdaaGreatPart25
import Derived.Test.YtfbomiejpbchdaaGreatPart32
import Derived.Test.YtfbomiejpbchdaaGreatPart38
namespace Go.Proofs.YtfbomiejpbchdaaGreat
open Go Go.RowKit Go.Proofs.Tryz
set_option linter.unusedVariables false
set_option linter.unusedSimpArgs false
section
set_option maxRecDepth 100000
theorem YS (p:Pt) (w:World)  :Calls prog 87 #[(aG (Am p)),(aG (Am p))] w (Aq w (Value.bool true)):=by
 refine Ae (args:=[(aG (Am p)),(aG (Am p))]) func87 O O (Ac O) (AF.subF (sL [0,1] O) (q4 (Bg (cs:=Am p) O λb1=>Bg (cs:=Am p) O λb2=>AL O ?_)))
 refine q3 (sL [2,3,4] O) (BA 1 BQ O (BA 0 BQ O (AH (Bd (c:=true) O O eqGuardType55 (Sj 9994 O)) O (AL O (AE.nil ?_)))))
 exact AD.subF (sL [4] O) (AD.then_ (AF.ret (AR O (Ai (v:=(Value.bool true)) O) (λw hw=>⟨rfl,hw.out⟩))))
theorem U_ (xs:List Pt) (x y:RX (rowsL Am xs) xs.length) (hl:xs.length<=1000000) (w:World) {S:Nat->Prop} (hx:Ro S w x) (hy:Ro S w y):Calls prog 86 #[(Value.slice x.p xs.length x.c),(Value.slice y.p xs.length y.c),(Value.func (.func 87) #[] #[])] w (Aq w (Value.bool true)):=by
 have lx:=DU (W:=w) hx
 have ly:=DU (W:=w) hy
 refine A6 (args:=[(Value.slice x.p xs.length x.c),(Value.slice y.p xs.length y.c),(Value.func (.func 87) #[] #[])]) (L:=[AY x.p (rowsL Am xs),AY y.p (rowsL Am xs)]) func86 O O (Ac O) (DV hx (DV hy BN)) (AF.subF (sL [0,1,2] O) (q4 (AL O (AE.nil (q1 ?_)))))
 refine q4 (AS O (AH (v:=(vN xs.length)) (AG O underlying27) O (AS O (AH (v:=(vN xs.length)) (AG O underlying27) O (AH (CB (c:=false) O O (decide_eq_false Z)) O ?_)))))
 refine AE.nil (AD.subF (sL [0,1,2,6,12] O) (AD.then_ (AF.cond_false O (AF.skip (q1 ?_)))))
 refine q4 (AS O (AH (v:=(vN xs.length)) (AG O underlying27) O (AS O (AE.nil (AD.subF (sL [0,1,2,6,14,15] O) ?_)))))
 refine AD.then_ (AF.block ?_)
 refine AF.lp1 (tg λ(j:Nat)=>j<=xs.length) (tg λ(j:Nat)=>[(0,(Value.slice x.p xs.length x.c)),(1,(Value.slice y.p xs.length y.c)),(2,(Value.func (.func 87) #[] #[])),(14,(vN xs.length)),(15,(vN j))]) (tg λ(j:Nat)=>[AY x.p (rowsL Am xs),AY y.p (rowsL Am xs)]) (tg λ(j:Nat)=>xs.length-j) 0 (Nat.zero_le _) (sF O) sr (λj hJ=>?_)
 have hj:=hJ
 refine q4 (AH (Ak (c:=(decide (j<xs.length))) O O (C1 (a:=j) (b:=xs.length))) O (AE.nil (q1 ?_)))
 refine AF.cond O (λhc1=>?_) (λhc1=>?_)
 ·replace hc1:=of_decide_eq_true hc1
  refine AF.skip (q1 (AF.block (q4 (AS O (AL O ?_)))))
  refine q6 (sL [0,1,2,14,15,7] O) (Cm [(0,true),(1,true),(2,true),(3,true),(4,true),(5,true),(6,true),(7,true),(8,true),(9,false),(10,true)] sr (Bc O (Bc O (Bc O (Au (v:=(pP (pB x.p) (pO x.p+j*10))) O (AQ (j:=j) O O x.ok underlying27 sizeOf55 O Z) ?_)))))
  refine Au (v:=(aG (Am (xs.getD j (⟨0,0⟩:Pt))))) O (AO (vs:=Am (xs.getD j (⟨0,0⟩:Pt))) (i:=0) O O (BI.ne x.ok Z) BQ (An BG _ _ _ Z) (BG _)) (Bc O (Bc O (Au (v:=(pP (pB y.p) (pO y.p+j*10))) O (AQ (j:=j) O O y.ok underlying27 sizeOf55 O Z) (Au (v:=(aG (Am (xs.getD j (⟨0,0⟩:Pt))))) O (AO (vs:=Am (xs.getD j (⟨0,0⟩:Pt))) (i:=1) O O (BI.ne y.ok Z) BQ (An BG _ _ _ Z) (BG _)) (AT.imp O ?_)))))
  refine BR call87 (YS (xs.getD j (⟨0,0⟩:Pt))) O (AT.back sr (Au O (BZ (c:=false) O O) (AT.nil (AD.subF (sL [0,1,2,14,15,28] O) (AD.then_ ?_)))))
  refine AF.cond_false O (AF.skip (AD.in_normal (AD.then_ (AF.region (AH (AW (c:=((j+1:Nat):Int)) O O (AX (a:=j) (b:=1) Z)) O ?_)))))
  exact AS O (AE.nil (AD.subF (sL [0,1,2,14,15] O) (AD.round1 (j+1) Z Z (sF O) sr)))
 ·replace hc1:=of_decide_eq_false hc1
  refine AF.exit (AD.then_exit (AD.round1_exit (AD.in_exit (q2 (AL O ?_)))))
  exact AE.nil (AD.then_ (AF.ret (AR O (Ai (v:=(Value.bool true)) O) (λw hw=>⟨rfl,hw.out⟩))))
theorem XY (p:T3) (w:World)  :Calls prog 89 #[(aG (Af p)),(aG (Af p))] w (Aq w (Value.bool true)):=by
 refine Ae (args:=[(aG (Af p)),(aG (Af p))]) func89 O O (Ac O) (AF.subF (sL [0,1] O) (q4 (Bg (cs:=Af p) O λb1=>Bg (cs:=Af p) O λb2=>AL O ?_)))
 refine q3 (sL [2,3,4] O) (BA 1 Cr O (BA 0 Cr O (AH (Bd (c:=true) O O eqGuardType76 (DE (a:=p) (b:=p) 9998 O)) O (AL O (AE.nil ?_)))))
 exact AD.subF (sL [4] O) (AD.then_ (AF.ret (AR O (Ai (v:=(Value.bool true)) O) (λw hw=>⟨rfl,hw.out⟩))))
theorem SY (xs:List T3) (x y:RX (rowsL Af xs) xs.length) (hl:xs.length<=1000000) (w:World) {S:Nat->Prop} (hx:Ro S w x) (hy:Ro S w y):Calls prog 88 #[(Value.slice x.p xs.length x.c),(Value.slice y.p xs.length y.c),(Value.func (.func 89) #[] #[])] w (Aq w (Value.bool true)):=by
 have lx:=DU (W:=w) hx
 have ly:=DU (W:=w) hy
 refine A6 (args:=[(Value.slice x.p xs.length x.c),(Value.slice y.p xs.length y.c),(Value.func (.func 89) #[] #[])]) (L:=[AY x.p (rowsL Af xs),AY y.p (rowsL Af xs)]) func88 O O (Ac O) (DV hx (DV hy BN)) (AF.subF (sL [0,1,2] O) (q4 (AL O (AE.nil (q1 ?_)))))
 refine q4 (AS O (AH (v:=(vN xs.length)) (AG O underlying28) O (AS O (AH (v:=(vN xs.length)) (AG O underlying28) O (AH (CB (c:=false) O O (decide_eq_false Z)) O ?_)))))
 refine AE.nil (AD.subF (sL [0,1,2,6,12] O) (AD.then_ (AF.cond_false O (AF.skip (q1 ?_)))))
 refine q4 (AS O (AH (v:=(vN xs.length)) (AG O underlying28) O (AS O (AE.nil (AD.subF (sL [0,1,2,6,14,15] O) ?_)))))
 refine AD.then_ (AF.block ?_)
 refine AF.lp1 (tg λ(j:Nat)=>j<=xs.length) (tg λ(j:Nat)=>[(0,(Value.slice x.p xs.length x.c)),(1,(Value.slice y.p xs.length y.c)),(2,(Value.func (.func 89) #[] #[])),(14,(vN xs.length)),(15,(vN j))]) (tg λ(j:Nat)=>[AY x.p (rowsL Af xs),AY y.p (rowsL Af xs)]) (tg λ(j:Nat)=>xs.length-j) 0 (Nat.zero_le _) (sF O) sr (λj hJ=>?_)
 have hj:=hJ
 refine q4 (AH (Ak (c:=(decide (j<xs.length))) O O (C1 (a:=j) (b:=xs.length))) O (AE.nil (q1 ?_)))
 refine AF.cond O (λhc1=>?_) (λhc1=>?_)
 ·replace hc1:=of_decide_eq_true hc1
  refine AF.skip (q1 (AF.block (q4 (AS O (AL O ?_)))))
  refine q6 (sL [0,1,2,14,15,7] O) (Cm [(0,true),(1,true),(2,true),(3,true),(4,true),(5,true),(6,true),(7,true),(8,true),(9,false),(10,true)] sr (Bc O (Bc O (Bc O (Au (v:=(pP (pB x.p) (pO x.p+j*3))) O (AQ (j:=j) O O x.ok underlying28 sizeOf76 O Z) ?_)))))
  refine Au (v:=(aG (Af (xs.getD j ((0,0,0):Nat×Nat×Nat))))) O (AO (vs:=Af (xs.getD j ((0,0,0):Nat×Nat×Nat))) (i:=0) O O (BI.ne x.ok Z) Cr (An Ah _ _ _ Z) (Ah _)) (Bc O (Bc O (Au (v:=(pP (pB y.p) (pO y.p+j*3))) O (AQ (j:=j) O O y.ok underlying28 sizeOf76 O Z) (Au (v:=(aG (Af (xs.getD j ((0,0,0):Nat×Nat×Nat))))) O (AO (vs:=Af (xs.getD j ((0,0,0):Nat×Nat×Nat))) (i:=1) O O (BI.ne y.ok Z) Cr (An Ah _ _ _ Z) (Ah _)) (AT.imp O ?_)))))
  refine BR call89 (XY (xs.getD j ((0,0,0):Nat×Nat×Nat))) O (AT.back sr (Au O (BZ (c:=false) O O) (AT.nil (AD.subF (sL [0,1,2,14,15,28] O) (AD.then_ ?_)))))
  refine AF.cond_false O (AF.skip (AD.in_normal (AD.then_ (AF.region (AH (AW (c:=((j+1:Nat):Int)) O O (AX (a:=j) (b:=1) Z)) O ?_)))))
  exact AS O (AE.nil (AD.subF (sL [0,1,2,14,15] O) (AD.round1 (j+1) Z Z (sF O) sr)))
 ·replace hc1:=of_decide_eq_false hc1
  refine AF.exit (AD.then_exit (AD.round1_exit (AD.in_exit (q2 (AL O ?_)))))
  exact AE.nil (AD.then_ (AF.ret (AR O (Ai (v:=(Value.bool true)) O) (λw hw=>⟨rfl,hw.out⟩))))
theorem Xg (p:T3) (w:World)  :Calls prog 91 #[(aG (Af p)),(aG (Af p))] w (Aq w (Value.bool true)):=by
 refine Ae (args:=[(aG (Af p)),(aG (Af p))]) func91 O O (Ac O) (AF.subF (sL [0,1] O) (q4 (Bg (cs:=Af p) O λb1=>Bg (cs:=Af p) O λb2=>AL O ?_)))
 refine q3 (sL [2,3,4] O) (BA 1 NG O (BA 0 NG O (AH (Bd (c:=true) O O eqGuardType44 (Pm (a:=p) (b:=p) 9998 O)) O (AL O (AE.nil ?_)))))
 exact AD.subF (sL [4] O) (AD.then_ (AF.ret (AR O (Ai (v:=(Value.bool true)) O) (λw hw=>⟨rfl,hw.out⟩))))
theorem TL (xs:List T3) (x y:RX (rowsL Af xs) xs.length) (hl:xs.length<=1000000) (w:World) {S:Nat->Prop} (hx:Ro S w x) (hy:Ro S w y):Calls prog 90 #[(Value.slice x.p xs.length x.c),(Value.slice y.p xs.length y.c),(Value.func (.func 91) #[] #[])] w (Aq w (Value.bool true)):=by
 have lx:=DU (W:=w) hx
 have ly:=DU (W:=w) hy
 refine A6 (args:=[(Value.slice x.p xs.length x.c),(Value.slice y.p xs.length y.c),(Value.func (.func 91) #[] #[])]) (L:=[AY x.p (rowsL Af xs),AY y.p (rowsL Af xs)]) func90 O O (Ac O) (DV hx (DV hy BN)) (AF.subF (sL [0,1,2] O) (q4 (AL O (AE.nil (q1 ?_)))))
 refine q4 (AS O (AH (v:=(vN xs.length)) (AG O underlying29) O (AS O (AH (v:=(vN xs.length)) (AG O underlying29) O (AH (CB (c:=false) O O (decide_eq_false Z)) O ?_)))))
 refine AE.nil (AD.subF (sL [0,1,2,6,12] O) (AD.then_ (AF.cond_false O (AF.skip (q1 ?_)))))
 refine q4 (AS O (AH (v:=(vN xs.length)) (AG O underlying29) O (AS O (AE.nil (AD.subF (sL [0,1,2,6,14,15] O) ?_)))))
 refine AD.then_ (AF.block ?_)
 refine AF.lp1 (tg λ(j:Nat)=>j<=xs.length) (tg λ(j:Nat)=>[(0,(Value.slice x.p xs.length x.c)),(1,(Value.slice y.p xs.length y.c)),(2,(Value.func (.func 91) #[] #[])),(14,(vN xs.length)),(15,(vN j))]) (tg λ(j:Nat)=>[AY x.p (rowsL Af xs),AY y.p (rowsL Af xs)]) (tg λ(j:Nat)=>xs.length-j) 0 (Nat.zero_le _) (sF O) sr (λj hJ=>?_)
 have hj:=hJ
 refine q4 (AH (Ak (c:=(decide (j<xs.length))) O O (C1 (a:=j) (b:=xs.length))) O (AE.nil (q1 ?_)))
 refine AF.cond O (λhc1=>?_) (λhc1=>?_)
 ·replace hc1:=of_decide_eq_true hc1
  refine AF.skip (q1 (AF.block (q4 (AS O (AL O ?_)))))
  refine q6 (sL [0,1,2,14,15,7] O) (Cm [(0,true),(1,true),(2,true),(3,true),(4,true),(5,true),(6,true),(7,true),(8,true),(9,false),(10,true)] sr (Bc O (Bc O (Bc O (Au (v:=(pP (pB x.p) (pO x.p+j*3))) O (AQ (j:=j) O O x.ok underlying29 sizeOf44 O Z) ?_)))))
  refine Au (v:=(aG (Af (xs.getD j ((0,0,0):Nat×Nat×Nat))))) O (AO (vs:=Af (xs.getD j ((0,0,0):Nat×Nat×Nat))) (i:=0) O O (BI.ne x.ok Z) NG (An Ah _ _ _ Z) (Ah _)) (Bc O (Bc O (Au (v:=(pP (pB y.p) (pO y.p+j*3))) O (AQ (j:=j) O O y.ok underlying29 sizeOf44 O Z) (Au (v:=(aG (Af (xs.getD j ((0,0,0):Nat×Nat×Nat))))) O (AO (vs:=Af (xs.getD j ((0,0,0):Nat×Nat×Nat))) (i:=1) O O (BI.ne y.ok Z) NG (An Ah _ _ _ Z) (Ah _)) (AT.imp O ?_)))))
  refine BR call91 (Xg (xs.getD j ((0,0,0):Nat×Nat×Nat))) O (AT.back sr (Au O (BZ (c:=false) O O) (AT.nil (AD.subF (sL [0,1,2,14,15,28] O) (AD.then_ ?_)))))
  refine AF.cond_false O (AF.skip (AD.in_normal (AD.then_ (AF.region (AH (AW (c:=((j+1:Nat):Int)) O O (AX (a:=j) (b:=1) Z)) O ?_)))))
  exact AS O (AE.nil (AD.subF (sL [0,1,2,14,15] O) (AD.round1 (j+1) Z Z (sF O) sr)))
 ·replace hc1:=of_decide_eq_false hc1
  refine AF.exit (AD.then_exit (AD.round1_exit (AD.in_exit (q2 (AL O ?_)))))
  exact AE.nil (AD.then_ (AF.ret (AR O (Ai (v:=(Value.bool true)) O) (λw hw=>⟨rfl,hw.out⟩))))
theorem Qg {ps:List Pt} {ts ss:List T3} (x y:MX ps ts ss) (hp:ps.length<=1000000) (ht:ts.length<=1000000) (hs:ss.length<=1000000) (w:World) {S:Nat->Prop} (hx:Ro S w x) (hy:Ro S w y):Calls prog 31 #[(aG (Bk x)),(aG (Bk y))] w (Aq w (Value.bool true)):=by
 have lx:=DU (W:=w) hx
 have ly:=DU (W:=w) hy
 refine A6 (args:=[(aG (Bk x)),(aG (Bk y))]) (L:=[AY x.a.p (rowsL Am ps),AY x.b.p (rowsL Af ts),AY x.c.p (rowsL Af ss),AY y.a.p (rowsL Am ps),AY y.b.p (rowsL Af ts),AY y.c.p (rowsL Af ss)]) func31 O O (Ac O) (DV hx (DV hy BN)) (AF.subF (sL [0,1] O) (q4 (Bg (cs:=Bk x) O λb1=>Bg (cs:=Bk y) O λb2=>AL O ?_)))
 refine q3 (sL [2,3,4] O) (AH (v:=(pP b1 0)) (AA O underlying31 O sizeOf27 O) O (BJ 1 (Value.slice x.a.p ps.length x.a.c) DG O (AH (v:=(pP b2 0)) (AA O underlying31 O sizeOf27 O) O (BJ 0 (Value.slice y.a.p ps.length y.a.c) DG O (Ee call86 (λw hw=>U_ ps x.a y.a Z w (Tb (Cq hw 2 O lx)) (Tb (Cq hw 5 O ly))) O ?_)))))
 refine AS O (AE.step (v:=(pP b1 1)) (AB O) (AA O underlying31 O sizeOf28 O) O (Ac O) (AE.step (v:=(Value.slice x.b.p ts.length x.b.c)) (AB O) (AI (i:=1) (v:=(Value.slice x.b.p ts.length x.b.c)) O O B4.a O) O (Ac O) (AE.step (v:=(pP b2 1)) (AB O) (AA O underlying31 O sizeOf28 O) O (Ac O) (AE.step (v:=(Value.slice y.b.p ts.length y.b.c)) (AB O) (AI (i:=0) (v:=(Value.slice y.b.p ts.length y.b.c)) O O B4.a O) O (Ac O) (AE.call (v:=(Value.bool true)) (AB O) (A_ (args:=[(Value.slice x.b.p ts.length x.b.c),(Value.slice y.b.p ts.length y.b.c),(Value.func (.func 89) #[] #[])]) O O call88) (λw hw=>SY ts x.b y.b Z w (Ot (Cq hw 2 O lx)) (Ot (Cq hw 5 O ly))) O (Ac O) ?_)))))
 refine AH (v:=(Value.bool true)) (Aj O O) O (AS O (AE.step (v:=(pP b1 2)) (AB O) (AA O underlying31 O sizeOf29 O) O (Ac O) (AE.step (v:=(Value.slice x.c.p ss.length x.c.c)) (AB O) (AI (i:=1) (v:=(Value.slice x.c.p ss.length x.c.c)) O O KN.a O) O (Ac O) (AE.step (v:=(pP b2 2)) (AB O) (AA O underlying31 O sizeOf29 O) O (Ac O) (AE.step (v:=(Value.slice y.c.p ss.length y.c.c)) (AB O) (AI (i:=0) (v:=(Value.slice y.c.p ss.length y.c.c)) O O KN.a O) O (Ac O) ?_)))))
 refine AE.call (v:=(Value.bool true)) (AB O) (A_ (args:=[(Value.slice x.c.p ss.length x.c.c),(Value.slice y.c.p ss.length y.c.c),(Value.func (.func 91) #[] #[])]) O O call90) (λw hw=>TL ss x.c y.c Z w (WE (Cq hw 2 O lx)) (WE (Cq hw 5 O ly))) O (Ac O) (AH (v:=(Value.bool true)) (Aj O O) O (AL O (AE.nil (AD.subF (sL [4] O) (AD.then_ ?_)))))
 exact AF.ret (AR O (Ai (v:=(Value.bool true)) O) (λw hw=>⟨rfl,hw.out⟩))
end
section
set_option maxRecDepth 100000
theorem HI:Kg prog 112 Dr JJ:=QC QZ (by decide +kernel) (by kernel_rfl) (by kernel_rfl) underlying112 underlying3 (by kernel_rfl) (by kernel_rfl) (by kernel_rfl)
theorem K7 (x0:Pt):Instr.fill (λi=>some (i*10,10)) ((Array.range (1*10)).map ((Value.agg (Am (⟨0,0⟩:Pt)).toArray).cells[·%(Value.agg (Am (⟨0,0⟩:Pt)).toArray).cells.size]!)) [(0,.agg (Am x0).toArray)]=some (Am x0).toArray:=by kernel_rfl
set_option maxHeartbeats 8000000 in
theorem Re {ps:List Pt} {ts ss:List T3} (x:MX ps ts ss) (es:List E4) (o:RX (rowsL B6 es) es.length) (us:List T3) (y:RX (rowsL Af us) us.length) (hes:∀e∈es,e.a<ps.length/\e.b<ps.length) (hu:CD (ps.length+es.length) us=true) (hz:∀i,B5 (cor ps i)<=1000000) (hp:ps.length<=1000000) (hel:es.length<=1000000) (hul:us.length<=1000000) (hsl:ss.length<=1000000) (w:World) {S:Nat->Prop} (hx:Ro S w x) (ho:Ro S w o) (hy:Ro S w y):Calls prog 48 #[(aG (Bk x)),(Value.slice o.p es.length o.c),(Value.slice y.p us.length y.c)] w (BV (MX (O9 ps es) us (Pp ps.length ss es us)) S w):=by
 have lx:=DU (W:=w) hx
 have lo:=DU (W:=w) ho
 have ly:=DU (W:=w) hy
 refine A6 (args:=[(aG (Bk x)),(Value.slice o.p es.length o.c),(Value.slice y.p us.length y.c)]) (L:=[AY x.a.p (rowsL Am ps),AY x.b.p (rowsL Af ts),AY x.c.p (rowsL Af ss),AY o.p (rowsL B6 es),AY y.p (rowsL Af us)]) func48 O O (Ac O) (DV hx (DV ho (DV hy BN))) (AF.subF (sL [0,1,2] O) (q4 (Bg (cs:=Bk x) O λb1=>al JP O λb2=>q3 (sL [1,2,3,6] O) ?_)))
 refine AE.makeMap Dr vN (AK O) O λb3=>?_
 rw [show ([]:List (P2×Nat))=Fd ps.length ss 0 from rfl]
 refine AL O (q6 (sL [1,2,3,6,7] O) (q4 (AH (v:=(pP b1 2)) (AA O underlying31 O sizeOf29 O) O (BJ 2 (Value.slice x.c.p ss.length x.c.c) KN O (AH (v:=(vN ss.length)) (AG O underlying29) O ?_)))))
 refine AH (Bq (c:=(((ss.length:Nat):Int)-1-((0:Nat):Int))) O O (by rw [BL Z Z];omega)) O (AL O (AE.nil (AD.subF (sL [1,2,3,6,7,8] O) (AD.then_ (AF.block ?_)))))
 refine AF.lp1 (tg λ(k:Nat)=>k<=ss.length) (tg λ(k:Nat)=>[(1,(Value.slice o.p es.length o.c)),(2,(Value.slice y.p us.length y.c)),(3,(pP b1 0)),(6,(pP b2 0)),(7,(Value.map (some b3))),(8,(vI (((ss.length:Nat):Int)-1-((k:Nat):Int))))]) (tg λ(k:Nat)=>[CE b3 Dr vN (Fd ps.length ss k),Ag b2 31 ([(Value.slice none 0 0),(Value.slice none 0 0),(Value.slice none 0 0)]),Ag b1 31 (Bk x),AY x.a.p (rowsL Am ps),AY x.b.p (rowsL Af ts),AY x.c.p (rowsL Af ss),AY o.p (rowsL B6 es),AY y.p (rowsL Af us)]) (tg λ(k:Nat)=>ss.length-k) 0 (Nat.zero_le _) (sF O) sr (λk hJ=>?_)
 have hk:=hJ
 refine AF.seq (q4 (AS O (AH (DY (c:=(decide ((0:Int)<=(((ss.length:Nat):Int)-1-((k:Nat):Int))))) O O O) O (AE.nil (AD.subF (sL [1,2,3,6,7,8,23] O) ?_)))))
 refine AD.then_ ?_
 refine AF.cond O (λhc0=>?_) (λhc0=>?_)
 ·replace hc0:=of_decide_eq_true hc0
  obtain ⟨sd,hsd⟩:∃q,q=ss.getD (ss.length-1-k) (0,0,0):=⟨_,rfl⟩
  refine AF.skip (q1 (AF.block (q4 (AH (v:=(pP b1 2)) (AA O underlying31 O sizeOf29 O) O (BJ 2 (Value.slice x.c.p ss.length x.c.c) KN O ?_)))))
  refine AS O (AE.retell (k:=28) (u:=(vN (ss.length-1-k))) O (by show Value.int _ _=Value.int _ _;congr 1;omega) (AH (v:=(pP (pB x.c.p) (pO x.c.p+(ss.length-1-k)*3))) (AQ (j:=ss.length-1-k) O O x.c.ok underlying29 sizeOf44 O Z) O (AH (v:=(aG (Af (ss.getD (ss.length-1-k) ((0,0,0):Nat×Nat×Nat))))) (AO (vs:=Af (ss.getD (ss.length-1-k) ((0,0,0):Nat×Nat×Nat))) (i:=5) O O (BI.ne x.c.ok Z) NG (An Ah _ _ _ Z) (Ah _)) O (AE.retell (k:=30) (u:=(aG (Af sd))) O (by rw [hsd]) (al X5 O λb4=>?_)))))
  refine Aw O sizeOf44 O (q3 (sL [1,2,3,6,7,8,9] O) (BA 3 C_ O (AH (v:=(pP b4 0)) (AA O underlying44 O sizeOf3 O) O (BJ 0 (vN sd.1) Bn O (Ee call117 (λw hw=>G0 x sd.1 w (Cq hw 4 O lx)) O ?_)))))
  refine AS O ?_
  refine AE.mid (FM:=[(1,(Value.slice o.p es.length o.c)),(2,(Value.slice y.p us.length y.c)),(3,(pP b1 0)),(6,(pP b2 0)),(7,(Value.map (some b3))),(8,(vI (((ss.length:Nat):Int)-1-((k:Nat):Int)))),(9,(pP b4 0)),(31,(aG (Bk x))),(32,(pP b4 0)),(33,(vN sd.1)),(34,(Value.bool (decide (sd.1<ps.length)))),(35,(Value.bool (decide (sd.1<ps.length)))),(40,(Value.bool ((decide (sd.1<ps.length))&&(decide (sd.2.1<ps.length)))))]) (LM:=[Ag b4 44 (Af sd),CE b3 Dr vN (Fd ps.length ss k),Ag b2 31 ([(Value.slice none 0 0),(Value.slice none 0 0),(Value.slice none 0 0)]),Ag b1 31 (Bk x),AY x.a.p (rowsL Am ps),AY x.b.p (rowsL Af ts),AY x.c.p (rowsL Af ss),AY o.p (rowsL B6 es),AY y.p (rowsL Af us)]) 5 ?_ ?_
  ·rcases Bool.eq_false_or_eq_true (decide (sd.1<ps.length)) with hg1|hg1
   ·skip
    refine AE.retell (k:=35) (u:=Value.bool true) O (by rw [hg1]) ?_
    have hg1':=hg1
    replace hg1':=of_decide_eq_true hg1'
    exact AE.step (v:=(aG (Bk x))) (AB O) (A7 (i:=3) (vs:=Bk x) O O C_.a C_.s O O) O (Ac O) (AE.step (v:=(pP b4 1)) (AB O) (AA O underlying44 O sizeOf3 O) O (Ac O) (AE.step (v:=(vN sd.2.1)) (AB O) (AI (i:=0) (v:=(vN sd.2.1)) O O Bn.a O) O (Ac O) (AE.call (v:=(Value.bool (decide (sd.2.1<ps.length)))) (AB O) (A_ (args:=[(aG (Bk x)),(vN sd.2.1)]) O O call117) (λw hw=>G0 x sd.2.1 w (Cq hw 4 O lx)) O (Ac O) (AH (v:=(Value.bool (decide (sd.2.1<ps.length)))) (Aj O O) O (AE.nil (AD.mid (sS O (sS O (sS O (sS O (sS O (sS O (sS O (sS O (sS O (sS O (sS O (sS (by first|rfl|(rw [hg1];rfl)|rw [hg1]) (sS (by first|rfl|(rw [hg1];rfl)|rw [hg1]) (sN)))))))))))))) (List.Sublist.refl _)))))))
   ·skip
    refine AE.retell (k:=35) (u:=Value.bool false) O (by rw [hg1]) ?_
    have hg1':=hg1
    replace hg1':=of_decide_eq_false hg1'
    exact AE.skip (AN O) O (Ac O) (AE.skip (AN O) O (Ac O) (AE.skip (AN O) O (Ac O) (AE.skip (AN O) O (Ac O) (AH (v:=(Value.bool false)) (AV O O) O (AE.nil (AD.mid (sS O (sS O (sS O (sS O (sS O (sS O (sS O (sS O (sS O (sS O (sS O (sS (by first|rfl|(rw [hg1];rfl)|rw [hg1]) (sS (by first|rfl|(rw [hg1];rfl)|rw [hg1]) (sN)))))))))))))) (List.Sublist.refl _)))))))
  refine AE.nil (AD.subF (sL [1,2,3,6,7,8,9,40] O) (AD.then_ ?_))
  refine AF.cond O (λhc1=>?_) (λhc1=>?_)
  ·simp only [Bool.and_eq_true,Bool.or_eq_true,Bool.and_eq_false_iff,Bool.or_eq_false_iff,Bool.not_eq_true',Bool.not_eq_false',decide_eq_true_eq,decide_eq_false_iff_not] at hc1
   refine Cm [(0,true),(1,true),(2,true),(3,true),(4,true),(6,true),(7,true),(5,false),(8,false)] (sk (sl sr)) (Bc O (Au (v:=(pP b4 0)) O (AA O underlying44 O sizeOf3 O) (Be 0 (vN sd.1) Bn O (Au (v:=(pP b4 1)) O (AA O underlying44 O sizeOf3 O) (Be 0 (vN sd.2.1) Bn O ?_)))))
   refine Au (v:=(pP b4 2)) O (AA O underlying44 O sizeOf3 O) (Be 0 (vN sd.2.2) Bn O (AT.imp O (BR call47 (KO sd.1 sd.2.1) O (AT.back (sk (sl sr)) (AT.imp O ?_)))))
   refine AE.mapUpdate HI 1 (kvs:=Fd ps.length ss k) (x:=(min sd.1 sd.2.1,max sd.1 sd.2.1)) (y:=sd.2.2) (AK O) O O O underlying108 O (Jn Z _) (Bl Z Z) ?_
   rw [show BT (Fd ps.length ss k) (min sd.1 sd.2.1,max sd.1 sd.2.1) sd.2.2=Fd ps.length ss (k+1) from by rw [hsd];exact S2 (by rw [<-hsd];exact hc1)]
   refine AT.back (sk (sl sr)) (AT.nil (AD.subF (sL [1,2,3,6,7,8,9] O) (AD.in_normal (AD.then_ (AF.region ?_)))))
   exact AS O (AH (Bq (c:=(((ss.length:Nat):Int)-1-((k+1:Nat):Int))) O O (by rw [BL Z Z];omega)) O (AL O (AE.nil (AD.subF (sL [1,2,3,6,7,8,9] O) (AD.round1 (k+1) Z Z (sF O) (sl sr))))))
  ·simp only [Bool.and_eq_true,Bool.or_eq_true,Bool.and_eq_false_iff,Bool.or_eq_false_iff,Bool.not_eq_true',Bool.not_eq_false',decide_eq_true_eq,decide_eq_false_iff_not] at hc1
   refine AF.skip (AD.in_normal (AD.then_ (AF.region (AS O (AH (Bq (c:=(((ss.length:Nat):Int)-1-((k+1:Nat):Int))) O O (by rw [BL Z Z];omega)) O ?_)))))
   refine AL O (AE.nil (AD.subF (sL [1,2,3,6,7,8,9] O) ?_))
   rw [show Fd ps.length ss k=Fd ps.length ss (k+1) from WW (by rw [<-hsd];intro hh;rcases hc1 with h9|h9;exact h9 hh.1;exact h9 hh.2)]
   exact AD.round1 (k+1) Z Z (sF O) (sl sr)
 ·replace hc0:=of_decide_eq_false hc0
  have hk2:k=ss.length:=by omega
  rw [show Fd ps.length ss k=EA ps.length ss es 0 by rw [hk2];rfl]
  refine AF.exit (AD.then_exit (AD.round1_exit (AD.in_exit (q2 (AH (v:=(pP b1 0)) (AA O underlying31 O sizeOf27 O) O ?_)))))
  refine BJ 2 (Value.slice x.a.p ps.length x.a.c) DG O (AE.callL (S:=S) (V:=V0) (LW:=SB (T:=55) (z:=10) (cs:=rowsL Am ps) (n:=ps.length)) (args:=[(Value.slice x.a.p ps.length x.a.c)]) call118 (λw hw=>IN ps x.a Z w (Tb (Cq hw 3 O lx))) O λcl1 hcl1=>AS O (AE.callL (S:=S) (V:=V0) (LW:=SB (T:=76) (z:=3) (cs:=rowsL Af us) (n:=us.length)) (args:=[(Value.slice y.p us.length y.c)]) call120 (λw hw=>L3 us y Z w (Cq hw 8 O ly)) O λcl2 hcl2=>BR call119 (Nk cl2.p us.length cl2.c cl2.ok.row.le) O (AH (v:=(aG ([(Value.slice cl1.p ps.length cl1.c),(Value.slice cl2.p us.length us.length),(Value.slice none 0 0)]))) (Ad (zs:=[(Value.slice none 0 0),(Value.slice none 0 0),(Value.slice none 0 0)]) (vs:=[(Value.slice cl1.p ps.length cl1.c),(Value.slice cl2.p us.length us.length),(Value.slice none 0 0)]) (pv:=[(0,(Value.slice cl1.p ps.length cl1.c)),(1,(Value.slice cl2.p us.length us.length))]) (places:=[(0,1),(1,1),(2,1)]) zeroValue31 underlying31 (λw=>by simp [sizeOf27,sizeOf28,sizeOf29]) O O) O ?_)))
  refine al JP O λb4=>Aw O sizeOf31 O (q6 (sL [1,2,3,6,7,8,10] O) (q4 (AS O (AH (v:=(vN es.length)) (AG O underlying37) O ?_))))
  refine AS O (AE.nil (AD.then_ (AF.block ?_)))
  refine AF.lp3 (tg λ(i:Nat) (p1:Option Addr) (c1:Nat)=>i<=es.length/\OwnOk p1 (ps.length+i) c1) (tg λ(i:Nat) (p1:Option Addr) (c1:Nat)=>[(3,(pP b1 0)),(6,(pP b2 0)),(7,(Value.map (some b3))),(10,(pP b4 0)),(56,(Value.slice o.p es.length o.c)),(57,(vN es.length)),(58,(vN i))]) (tg λ(i:Nat) (p1:Option Addr) (c1:Nat)=>[Ag b4 31 ([(Value.slice p1 (ps.length+i) c1),(Value.slice cl2.p us.length us.length),(Value.slice none 0 0)]),rowW cl2.p 76 3 us.length cl2.c (rowsL Af us),rowW p1 55 10 (ps.length+i) c1 (rowsL Am (LC ps es i)),CE b3 Dr vN (EA ps.length ss es i),Ag b2 31 ([(Value.slice none 0 0),(Value.slice none 0 0),(Value.slice none 0 0)]),Ag b1 31 (Bk x),AY x.a.p (rowsL Am ps),AY x.b.p (rowsL Af ts),AY x.c.p (rowsL Af ss),AY o.p (rowsL B6 es),AY y.p (rowsL Af us)]) (tg λ(i:Nat) (p1:Option Addr) (c1:Nat)=>es.length-i) 0 cl1.p cl1.c (⟨Nat.zero_le _,cl1.ok⟩) (sF O) sr (λi p1 c1 hJ=>?_)
  obtain ⟨hi,ho⟩:=hJ
  refine q4 (AH (Ak (c:=(decide (i<es.length))) O O (C1 (a:=i) (b:=es.length))) O (AE.nil (q1 ?_)))
  refine AF.cond O (λhc2=>?_) (λhc2=>?_)
  ·replace hc2:=of_decide_eq_true hc2
   obtain ⟨ed,hed⟩:∃q,q=es.getD i (⟨0,0,0,0⟩:E4):=⟨_,rfl⟩
   obtain ⟨hea,heb⟩:=hes ed (by rw [hed,List.getD,List.getElem?_eq_getElem hc2];exact List.getElem_mem hc2)
   refine AF.skip (q1 (AF.block (q4 (AH (v:=(pP (pB o.p) (pO o.p+i*4))) (AQ (j:=i) O O o.ok underlying37 sizeOf110 O Z) O (AH (v:=(aG (B6 (es.getD i (⟨0,0,0,0⟩:E4))))) (AO (vs:=B6 (es.getD i (⟨0,0,0,0⟩:E4))) (i:=9) O O (BI.ne o.ok Z) II (An Ck _ _ _ Z) (Ck _)) O ?_)))))
   refine AE.retell (k:=61) (u:=(aG (B6 ed))) O (by rw [hed]) (al JD O λb5=>Aw O sizeOf110 O (q6 (sL [3,6,7,10,56,57,58,12] O) (q4 (BA 6 C_ O ?_))))
   refine AH (v:=(pP b5 0)) (AA O underlying110 O sizeOf3 O) O (BJ 0 (vN ed.a) Bn O (Ee (args:=[(aG (Bk x)),(vN ed.a)]) (v:=(Value.bool true)) call117 (λw hw=>(by have h9:=G0 x ed.a w (Cq hw 7 O lx);rw [decide_eq_true Z] at h9;exact h9)) O (AH (BZ (c:=false) O O) O (AS O (AE.step (v:=(aG (Bk x))) (AB O) (A7 (i:=6) (vs:=Bk x) O O C_.a C_.s O O) O (Ac O) ?_)))))
   refine AE.step (v:=(pP b5 1)) (AB O) (AA O underlying110 O sizeOf3 O) O (Ac O) (AE.step (v:=(vN ed.b)) (AB O) (AI (i:=0) (v:=(vN ed.b)) O O Bn.a O) O (Ac O) (AE.call (v:=(Value.bool true)) (AB O) (A_ (args:=[(aG (Bk x)),(vN ed.b)]) O O call117) (λw hw=>(by have h9:=G0 x ed.b w (Cq hw 7 O lx);rw [decide_eq_true Z] at h9;exact h9)) O (Ac O) (AE.step (v:=(Value.bool false)) (AB O) (BZ (c:=false) O O) O (Ac O) (AH (v:=(Value.bool false)) (AV O O) O (AE.nil ?_)))))
   refine AD.subF (sL [3,6,7,10,56,57,58,12,73] O) (AD.then_ (AF.cond_false O (AF.skip (q2 (AH (v:=(pP b4 0)) (AA O underlying31 O sizeOf27 O) O ?_)))))
   refine BJ 1 (Value.slice p1 (ps.length+i) c1) DG O (AH (v:=(vN (ps.length+i))) (AG O underlying27) O (AL O (q6 (sL [3,6,7,10,56,57,58,12,13] O) (rC [(0,true),(1,true),(2,true),(3,true),(4,true),(5,true),(6,true),(7,true),(8,true),(9,true),(10,true),(11,true),(12,true),(13,true),(14,false),(15,false),(16,false),(17,true)] 18 [] (sk (sk (sk (sl sr)))) (sk (sl sr)) (by kernel_rfl) (λ_ _ d _ _ h=>by cases d<;>exact h) (vE (v:=(pP b4 0)) O (AA O underlying31 O sizeOf27 O) O ?_)))))
   refine vE O (AI (i:=1) (v:=(Value.slice p1 (ps.length+i) c1)) O O DG.a O) O (vE (v:=(pP b1 0)) O (AA O underlying31 O sizeOf27 O) O (vE O (AI (i:=5) (v:=(Value.slice x.a.p ps.length x.a.c)) O O DG.a O) O (vE (v:=(pP b5 0)) O (AA O underlying110 O sizeOf3 O) O (vE O (AI (i:=0) (v:=(vN ed.a)) O O Bn.a O) O (vE (v:=(pP (pB x.a.p) (pO x.a.p+ed.a*10))) O (AQ (j:=ed.a) O O x.a.ok underlying27 sizeOf55 O Z) O ?_)))))
   refine vE (v:=(aG (Am (ps.getD ed.a (⟨0,0⟩:Pt))))) O (AO (vs:=Am (ps.getD ed.a (⟨0,0⟩:Pt))) (i:=6) O O (BI.ne x.a.ok Z) BQ (An BG _ _ _ Z) (BG _)) O ?_
   have hz84:B5 (ps.getD ed.a (⟨0,0⟩:Pt))<=1000000:=hz _
   refine vE (v:=(pP b1 0)) O (AA O underlying31 O sizeOf27 O) O (vE O (AI (i:=5) (v:=(Value.slice x.a.p ps.length x.a.c)) O O DG.a O) O (vE (v:=(pP b5 1)) O (AA O underlying110 O sizeOf3 O) O (vE O (AI (i:=0) (v:=(vN ed.b)) O O Bn.a O) O (vE (v:=(pP (pB x.a.p) (pO x.a.p+ed.b*10))) O (AQ (j:=ed.b) O O x.a.ok underlying27 sizeOf55 O Z) O (vE (v:=(aG (Am (ps.getD ed.b (⟨0,0⟩:Pt))))) O (AO (vs:=Am (ps.getD ed.b (⟨0,0⟩:Pt))) (i:=6) O O (BI.ne x.a.ok Z) BQ (An BG _ _ _ Z) (BG _)) O ?_)))))
   have hz90:B5 (ps.getD ed.b (⟨0,0⟩:Pt))<=1000000:=hz _
   refine Bu.imp O ?_
   have hz1:=Ps (ps.getD ed.a (⟨0,0⟩:Pt)) (ps.getD ed.b (⟨0,0⟩:Pt))
   have hz2:=Lg ((ps.getD ed.a (⟨0,0⟩:Pt))+(ps.getD ed.b (⟨0,0⟩:Pt))) (1/2)
   refine BR call121 (Vj (ps.getD ed.a (⟨0,0⟩:Pt)) (ps.getD ed.b (⟨0,0⟩:Pt)) Z) O (Bu.back (sk (sk (sk (sl sr)))) (Bu.imp O (AE.openV (V:=λb6=>(Value.slice (some ⟨b6,0,none⟩) 1 1)) (T:=55) (cs:=Am (Cp ((ps.getD ed.a (⟨0,0⟩:Pt))+(ps.getD ed.b (⟨0,0⟩:Pt))) (1/2))) (AK O) (Ar (z:=.agg (Am (⟨0,0⟩:Pt)).toArray) (cs:=Am (Cp ((ps.getD ed.a (⟨0,0⟩:Pt))+(ps.getD ed.b (⟨0,0⟩:Pt))) (1/2))) (pv:=[(0,(aG (Am (Cp ((ps.getD ed.a (⟨0,0⟩:Pt))+(ps.getD ed.b (⟨0,0⟩:Pt))) (1/2)))))]) underlying27 sizeOf55 zeroValue55 (by decide) (by decide) O (K7 (Cp ((ps.getD ed.a (⟨0,0⟩:Pt))+(ps.getD ed.b (⟨0,0⟩:Pt))) (1/2)))) O (Ac O) λb6=>Bu.back (sl (sk (sk (sk (sl sr))))) (Bu.imp O ?_))))
   refine AE.appendAt 4 (j:=0) (cs2:=rowsL Am ((LC ps es i)++[Cp ((ps.getD ed.a (⟨0,0⟩:Pt))+(ps.getD ed.b (⟨0,0⟩:Pt))) (1/2)])) YO O ho (by rw [Aa BG,KE]) O O O O O (by decide) (Ga Z) Z (by rw [BO];rfl) O λp_1 c_1 ho_1 hne_1=>Bu.back (sl (sk (sk (sk (sl sr))))) (vE (v:=(pP b4 0)) O (AA O underlying31 O sizeOf27 O) O (Bu.cut O (EW 2 (off:=0) (vs:=[(Value.slice p_1 ((ps.length+i)+1) c_1)]) (cs':=[(Value.slice p_1 ((ps.length+i)+1) c_1),(Value.slice cl2.p us.length us.length),(Value.slice none 0 0)]) (AK O) O sizeOf27 O (AT.back (sl (sk (sl (sk (sl sr))))) ?_))))
   refine AT.nil (AD.subF (sL [3,6,7,10,56,57,58,12,13] O) (q2 (AS O (AH (v:=(pP b5 0)) (AA O underlying110 O sizeOf3 O) O (BJ 1 (vN ed.a) Bn O ?_)))))
   refine AH (v:=(pP b5 1)) (AA O underlying110 O sizeOf3 O) O (BJ 1 (vN ed.b) Bn O (BR call47 (KO ed.a ed.b) O (AH (v:=(vN ((Ao (EA ps.length ss es i) (min ed.a ed.b,max ed.a ed.b)).getD 0))) (Cb HI 5 (eV:=vN) (kvs:=EA ps.length ss es i) (x:=(min ed.a ed.b,max ed.a ed.b)) (z0:=0) (co:=false) O O underlying108 zeroValue3 O (IG hes Z _ Z) (Bl Z Z)) O (AL O (AE.nil ?_)))))
   refine AD.subF (sL [3,6,7,10,56,57,58,12,13,14] O) (AD.then_ (Cm [(0,true),(1,true),(2,true),(3,true),(5,true),(6,true),(7,true),(8,true),(10,true),(11,true),(4,false),(9,false),(12,false),(13,true),(14,false),(15,false)] (sk (sk (sk (sk (sk (sl sr)))))) (Bc O (Au (v:=(pP b5 0)) O (AA O underlying110 O sizeOf3 O) (Be 1 (vN ed.a) Bn O ?_)))))
   refine Bc O (Bc O (Au (v:=(pP b5 1)) O (AA O underlying110 O sizeOf3 O) (Be 1 (vN ed.b) Bn O (Bc O (Bc O ?_)))))
   refine Bc O (AT.imp O (BR call47 (KO ed.a (ps.length+i)) O (AT.back (sk (sk (sk (sk (sk (sl sr)))))) (AT.imp O (BR call47 (KO ed.b (ps.length+i)) O ?_)))))
   refine AT.back (sk (sk (sk (sk (sk (sl sr)))))) (AT.imp O (AE.mapEntry HI 5 (kvs:=EA ps.length ss es i) (x:=(min ed.a (ps.length+i),max ed.a (ps.length+i))) (z0:=0) (v:=((Ao (EA ps.length ss es i) (min ed.a (ps.length+i),max ed.a (ps.length+i))).getD 0)) O O underlying108 zeroValue3 O (IG hes Z _ Z) (Bl Z Z) O O (AT.back (sk (sk (sk (sk (sk (sl sr)))))) (Au O (AZ (v:=(vN (C3 (EA ps.length ss es i) (min ed.a (ps.length+i),max ed.a (ps.length+i))))) O O) (AT.imp O ?_)))))
   refine AE.entryStore 5 (kvs:=EA ps.length ss es i) (x:=(min ed.a (ps.length+i),max ed.a (ps.length+i))) (u:=((Ao (EA ps.length ss es i) (min ed.a (ps.length+i),max ed.a (ps.length+i))).getD 0)) (y:=(Ao (EA ps.length ss es i) (min ed.a ed.b,max ed.a ed.b)).getD 0) O O O O (AT.back (sk (sk (sk (sk (sk (sl sr)))))) (AT.imp O (AE.mapUpdate HI 5 (kvs:=BT (EA ps.length ss es i) (min ed.a (ps.length+i),max ed.a (ps.length+i)) ((Ao (EA ps.length ss es i) (min ed.a ed.b,max ed.a ed.b)).getD 0)) (x:=(min ed.b (ps.length+i),max ed.b (ps.length+i))) (y:=(Ao (EA ps.length ss es i) (min ed.a ed.b,max ed.a ed.b)).getD 0) (AK O) O O O underlying108 O ((IG hes Z _ Z).put (Bl Z Z)) (Bl Z Z) ?_)))
   rw [show BT (BT (EA ps.length ss es i) (min ed.a (ps.length+i),max ed.a (ps.length+i)) ((Ao (EA ps.length ss es i) (min ed.a ed.b,max ed.a ed.b)).getD 0)) (min ed.b (ps.length+i),max ed.b (ps.length+i)) ((Ao (EA ps.length ss es i) (min ed.a ed.b,max ed.a ed.b)).getD 0)=EA ps.length ss es (i+1) from by rw [hed];rfl]
   refine AT.back (sk (sk (sk (sk (sk (sl sr)))))) (AT.nil (AD.subF (sL [3,6,7,10,56,57,58,12] O) (AD.in_normal (AD.then_ (AF.region ?_)))))
   refine AH (AW (c:=((i+1:Nat):Int)) O O (AX (a:=i) (b:=1) Z)) O (AS O (AE.nil (AD.subF (sL [3,6,7,10,56,57,58,12] O) ?_)))
   rw [hed,show LC ps es i++[Cp (ps.getD (es.getD i (⟨0,0,0,0⟩:E4)).a (⟨0,0⟩:Pt)+ps.getD (es.getD i (⟨0,0,0,0⟩:E4)).b (⟨0,0⟩:Pt)) (1/2)]=LC ps es (i+1) from rfl]
   exact AD.round3 (i+1) p_1 c_1 (⟨Z,ho_1⟩) Z (sF O) (sl (sl sr))
  ·replace hc2:=of_decide_eq_false hc2
   have hie:i=es.length:=by omega
   have hrl:(Bx us).length<=3*us.length:=by have h1:=OU (ts:=us) (Br us).length;have h2:=H7 (ts:=us) (3*us.length);rw [<-H2] at h2;exact Nat.le_trans h1 h2
   refine AF.exit (AD.then_exit (AD.round3_exit (AD.in_exit (q2 (AH (v:=(pP b4 0)) (AA O underlying31 O sizeOf27 O) O ?_)))))
   refine BJ 0 (Value.slice p1 (ps.length+i) c1) DG O (BR call122 (Nv p1 (ps.length+i) c1 ho.row.le) O (AH (v:=(pP b4 0)) (AA O underlying31 O sizeOf27 O) O (EW 0 (off:=0) (vs:=[(Value.slice p1 (ps.length+i) (ps.length+i))]) (cs':=[(Value.slice p1 (ps.length+i) (ps.length+i)),(Value.slice cl2.p us.length us.length),(Value.slice none 0 0)]) (AK O) O sizeOf27 O (q3 (sL [3,6,7,10,56,57,58] O) (AH (v:=(pP b4 0)) (AA O underlying31 O sizeOf27 O) O ?_)))))
   refine BJ 0 (Value.slice p1 (ps.length+i) (ps.length+i)) DG O (AH (v:=(pP b4 1)) (AA O underlying31 O sizeOf28 O) O (BJ 0 (Value.slice cl2.p us.length us.length) B4 O (AE.frzRow 1 O cl2.ok (Aa Ah _) O O λhn_cl2=>AE.callL (S:=S) (V:=Yj) (LW:=SB (T:=44) (z:=3) (cs:=rowsL Af (Bx us)) (n:=(Bx us).length)) (args:=[(Value.slice p1 (ps.length+i) (ps.length+i)),(Value.slice cl2.p us.length us.length)]) call123 (λw hw=>Uo us ⟨cl2.p,us.length,cl2.ok.clip⟩ p1 (ps.length+i) (ps.length+i) (by rw [hie];exact hu) Z Z w (Cq hw 1 O (At.new hn_cl2))) O λrm hrm=>AH (v:=(pP b4 2)) (AA O underlying31 O sizeOf29 O) O ?_)))
   refine EW 1 (off:=2) (vs:=[(Value.slice rm.p ((Bx us).length) ((Bx us).length))]) (cs':=[(Value.slice p1 (ps.length+i) (ps.length+i)),(Value.slice cl2.p us.length us.length),(Value.slice rm.p ((Bx us).length) ((Bx us).length))]) (AK O) O sizeOf29 O (q6 (sL [3,6,7,10,56,57,58] O) (q4 (AH (v:=(pP b4 2)) (AA O underlying31 O sizeOf29 O) O (BJ 1 (Value.slice rm.p ((Bx us).length) ((Bx us).length)) KN O (AH (v:=(vN ((Bx us).length))) (AG O underlying29) O ?_)))))
   refine AS O (AE.nil (AD.subF (sL [3,6,7,10,56,57,58,128,129,130] O) (AD.then_ (AF.block ?_))))
   refine AF.lp1 (tg λ(j:Nat)=>j<=(Bx us).length) (tg λ(j:Nat)=>[(6,(pP b2 0)),(7,(Value.map (some b3))),(10,(pP b4 0)),(128,(Value.slice rm.p ((Bx us).length) ((Bx us).length))),(129,(vN ((Bx us).length))),(130,(vN j))]) (tg λ(j:Nat)=>[rowW rm.p 44 3 ((Bx us).length) rm.c (rowsL Af (Fc ps.length ss es (Bx us) j)),Ag b4 31 ([(Value.slice p1 (ps.length+i) (ps.length+i)),(Value.slice cl2.p us.length us.length),(Value.slice rm.p ((Bx us).length) ((Bx us).length))]),AY cl2.p (rowsL Af us),rowW p1 55 10 (ps.length+i) c1 (rowsL Am (LC ps es i)),CE b3 Dr vN (EA ps.length ss es i),Ag b2 31 ([(Value.slice none 0 0),(Value.slice none 0 0),(Value.slice none 0 0)]),Ag b1 31 (Bk x),AY x.a.p (rowsL Am ps),AY x.b.p (rowsL Af ts),AY x.c.p (rowsL Af ss),AY o.p (rowsL B6 es),AY y.p (rowsL Af us)]) (tg λ(j:Nat)=>(Bx us).length-j) 0 (Nat.zero_le _) (sF O) sr (λj hJ=>?_)
   have hj:=hJ
   refine q4 (AH (Ak (c:=(decide (j<((Bx us).length)))) O O (C1 (a:=j) (b:=(Bx us).length))) O (AE.nil (q1 ?_)))
   refine AF.cond O (λhc4=>?_) (λhc4=>?_)
   ·replace hc4:=of_decide_eq_true hc4
    obtain ⟨sd2,hsd2⟩:∃q,q=(Bx us).getD j (0,0,0):=⟨_,rfl⟩
    have hml:(Fc ps.length ss es (Bx us) j).length=(Bx us).length:=H6
    obtain ⟨hs1,hs2⟩:=Vk hu Z (show sd2∈Bx us from by rw [hsd2,List.getD,List.getElem?_eq_getElem hc4];exact List.getElem_mem hc4)
    refine AF.skip (q1 (AF.block (q4 (AS O (AH (v:=(pP (pB rm.p) (pO rm.p+j*3))) (AQ (j:=j) O O rm.ok.clip underlying29 sizeOf44 O Z) O ?_)))))
    refine AH (v:=(aG (Af ((Fc ps.length ss es (Bx us) j).getD j ((0,0,0):Nat×Nat×Nat))))) (CC (vs:=Af ((Fc ps.length ss es (Bx us) j).getD j ((0,0,0):Nat×Nat×Nat))) (i:=0) O O rm.ok (by rw [Aa Ah,H6]) (BI.ne rm.ok.clip Z) NG (An Ah _ _ _ Z) (Ah _)) O (AE.retell (k:=134) (u:=(aG (Af sd2))) O (by rw [hsd2,N5 Z]) (al X5 O λb5=>AL O (Aw O sizeOf44 O (AE.nil ?_))))
    refine AD.subF (sL [6,7,10,128,129,130,16,15] O) (AD.then_ (Cm [(0,true),(1,true),(2,true),(3,true),(4,true),(5,true),(6,true),(7,true),(8,false),(9,true),(10,true),(11,true),(12,false)] (sk (sl sr)) (Au (v:=(pP b4 2)) O (AA O underlying31 O sizeOf29 O) (Be 1 (Value.slice rm.p ((Bx us).length) ((Bx us).length)) KN O (Bc O ?_)))))
    refine Bc O (Au (v:=(pP b5 0)) O (AA O underlying44 O sizeOf3 O) (Be 0 (vN sd2.1) Bn O (Au (v:=(pP b5 1)) O (AA O underlying44 O sizeOf3 O) (Be 0 (vN sd2.2.1) Bn O (AT.imp O ?_)))))
    refine BR call47 (KO sd2.1 sd2.2.1) O (AT.back (sk (sl sr)) (Au (v:=(vN ((Ao (EA ps.length ss es i) (min sd2.1 sd2.2.1,max sd2.1 sd2.2.1)).getD 0))) O (Cb HI 4 (eV:=vN) (kvs:=EA ps.length ss es i) (x:=(min sd2.1 sd2.2.1,max sd2.1 sd2.2.1)) (z0:=0) (co:=false) O O underlying108 zeroValue3 O (IG hes Z _ Z) (Bl Z Z)) (Au (v:=(pP (pB rm.p) (pO rm.p+j*3))) O (AQ (j:=j) O O rm.ok.clip underlying29 sizeOf44 O Z) (Au (v:=(pP (pB rm.p) (pO rm.p+(j*3+2)))) O (AA O underlying44 O sizeOf3 (Nat.add_assoc _ _ _)) (AT.imp O ?_)))))
    refine AE.storeObj 1 (enc:=Af) (j:=j) (r:=2) (x':=(((Fc ps.length ss es (Bx us) j).getD j ((0,0,0):Nat×Nat×Nat)).1,((Fc ps.length ss es (Bx us) j).getD j ((0,0,0):Nat×Nat×Nat)).2.1,(Ao (EA ps.length ss es i) (min sd2.1 sd2.2.1,max sd2.1 sd2.2.1)).getD 0)) (vs:=[(vN ((Ao (EA ps.length ss es i) (min sd2.1 sd2.2.1,max sd2.1 sd2.2.1)).getD 0))]) ((0,0,0):Nat×Nat×Nat) Ah rm.ok H6 O O O (BI.ne rm.ok.clip Z) Z O sizeOf3 O O (AT.back (sk (sl sr)) (AT.nil (AD.subF (sL [6,7,10,128,129,130,16] O) (AD.in_normal (AD.then_ ?_)))))
    refine AF.region (AH (AW (c:=((j+1:Nat):Int)) O O (AX (a:=j) (b:=1) Z)) O (AS O (AE.nil (AD.subF (sL [6,7,10,128,129,130,16] O) ?_))))
    rw [R7 Z (by rw [hsd2,hie];rfl)]
    exact AD.round1 (j+1) Z Z (sF O) (sl sr)
   ·replace hc4:=of_decide_eq_false hc4
    refine AF.exit (AD.then_exit (AD.round1_exit (AD.in_exit (q2 (BA 1 C_ O ?_)))))
    exact EW 5 (off:=0) (vs:=[(Value.slice p1 (ps.length+i) (ps.length+i)),(Value.slice cl2.p us.length us.length),(Value.slice rm.p ((Bx us).length) ((Bx us).length))]) (cs':=[(Value.slice p1 (ps.length+i) (ps.length+i)),(Value.slice cl2.p us.length us.length),(Value.slice rm.p ((Bx us).length) ((Bx us).length))]) (AK O) O sizeOf31 O (AE.nil (AD.subF (sL [6,7,10,128,129,130] O) (AD.then_ (AF.ret (AR O (Az (i:=5) (cs:=[(Value.slice p1 (ps.length+i) (ps.length+i)),(Value.slice cl2.p us.length us.length),(Value.slice rm.p ((Bx us).length) ((Bx us).length))]) O O isAgg31 sizeOf31 O) (λw hw=>(by rw [show O9 ps es=LC ps es i from by rw [hie];rfl,show Pp ps.length ss es us=Fc ps.length ss es (Bx us) j from by rw [show j=(Bx us).length from by omega,TS];rfl];exact Y_ hw 3 2 0 O O O ho cl2.ok.clip hn_cl2 rm.ok (by rw [KE]) O (by rw [H6]) O)))))))
end
section
set_option maxRecDepth 100000
end
end Go.Proofs.YtfbomiejpbchdaaGreat
