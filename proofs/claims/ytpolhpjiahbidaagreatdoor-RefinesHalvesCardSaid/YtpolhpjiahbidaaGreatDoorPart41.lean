import Derived.Test.YtpolhpjiahbidaaGreatDoorPart05
import Derived.Test.YtpolhpjiahbidaaGreatDoorPart15
import Derived.Test.YtpolhpjiahbidaaGreatDoorPart27
import Derived.Test.YtpolhpjiahbidaaGreatDoorPart29
import Derived.Test.YtpolhpjiahbidaaGreatDoorPart30
import Derived.Test.YtpolhpjiahbidaaGreatDoorPart32
import Derived.Test.YtpolhpjiahbidaaGreatDoorPart34
import Derived.Test.YtpolhpjiahbidaaGreatDoorPart40
namespace Go.Proofs.YtpolhpjiahbidaaGreatDoor
open Go Go.RowKit Go.Proofs.Tryz
set_option linter.unusedVariables false
set_option linter.unusedSimpArgs false
section
set_option maxRecDepth 100000
theorem DR:LF Tryz.prog 114 FG Li:=Uj TE (by decide +kernel) (by kernel_rfl) (by kernel_rfl) Tryz.underlying114 Tryz.underlying3 (by kernel_rfl) (by kernel_rfl) (by kernel_rfl)
theorem I9 (x0:Pt):Instr.fill (λi=>some (i*10,10)) ((Array.range (1*10)).map ((Value.agg (BC (⟨0,0⟩:Pt)).toArray).cells[·%(Value.agg (BC (⟨0,0⟩:Pt)).toArray).cells.size]!)) [(0,.agg (BC x0).toArray)]=some (BC x0).toArray:=by kernel_rfl
set_option maxHeartbeats 8000000 in
theorem Q4 {ps:List Pt} {ts ss:List T3} (x:MX ps ts ss) (es:List E4) (o:RX (rowsL Bx es) es.length) (us:List T3) (y:RX (rowsL Aq us) us.length) (hes:∀e∈es,e.a<ps.length/\e.b<ps.length) (hu:B8 (ps.length+es.length) us=true) (hz:∀i,D9 (OP ps i)<=1000000) (hp:ps.length<=1000000) (hel:es.length<=1000000) (hul:us.length<=1000000) (hsl:ss.length<=1000000) (w:World) {S:Nat->Prop} (hx:Ro S w x) (ho:Ro S w o) (hy:Ro S w y):Calls Tryz.prog 16 #[(aG (E6 x)),(Value.slice o.p es.length o.c),(Value.slice y.p us.length y.c)] w (Ah (MX (RJ ps es) us (TI ps.length ss es us)) S w):=by
 have lx:=CU (W:=w) hx
 have lo:=CU (W:=w) ho
 have ly:=CU (W:=w) hy
 refine Aa (args:=[(aG (E6 x)),(Value.slice o.p es.length o.c),(Value.slice y.p us.length y.c)]) (L:=[AF x.a.p (rowsL BC ps),AF x.b.p (rowsL Aq ts),AF x.c.p (rowsL Aq ss),AF o.p (rowsL Bx es),AF y.p (rowsL Aq us)]) Tryz.func16 rfl rfl (AK rfl) (Ee hx (Ee ho (Ee hy Al))) (OkC.subF (sL [0,1,2] rfl) (q4 (Bg (cs:=E6 x) rfl λb1=>al Ll rfl λb2=>q3 (sL [1,2,3,6] rfl) (OkL.makeMap FG vN (AP rfl) rfl λb3=>?_))))
 rw [show ([]:List (P2×Nat))=E5 ps.length ss 0 from rfl]
 refine asg' rfl (q6 (sL [1,2,3,6,7] rfl) (q4 (AG (v:=(pP b1 2)) (AA rfl Tryz.underlying30 rfl Tryz.sizeOf24 rfl) rfl (Aw 2 (Value.slice x.c.p ss.length x.c.c) Dk rfl (AG (v:=(vN ss.length)) (AD rfl Tryz.underlying24) rfl (AG (BJ (c:=(((ss.length:Nat):Int)-1-((0:Nat):Int))) rfl rfl (by rw [BD (by omega) (by omega)];omega)) rfl (asg' rfl (OkL.nil (OkQ.subF (sL [1,2,3,6,7,8] rfl) (OkQ.then_ (OkC.block ?_)))))))))))
 refine OkC.lp1 (tg λ(k:Nat)=>k<=ss.length) (tg λ(k:Nat)=>[(1,(Value.slice o.p es.length o.c)),(2,(Value.slice y.p us.length y.c)),(3,(pP b1 0)),(6,(pP b2 0)),(7,(Value.map (some b3))),(8,(vI (((ss.length:Nat):Int)-1-((k:Nat):Int))))]) (tg λ(k:Nat)=>[CE b3 FG vN (E5 ps.length ss k),AX b2 30 ([(Value.slice none 0 0),(Value.slice none 0 0),(Value.slice none 0 0)]),AX b1 30 (E6 x),AF x.a.p (rowsL BC ps),AF x.b.p (rowsL Aq ts),AF x.c.p (rowsL Aq ss),AF o.p (rowsL Bx es),AF y.p (rowsL Aq us)]) (tg λ(k:Nat)=>ss.length-k) 0 (Nat.zero_le _) (sF rfl) sr (λk hJ=>?_)
 have hk:=hJ
 refine OkC.seq (q4 (AO rfl (AG (B_ (c:=(decide ((0:Int)<=(((ss.length:Nat):Int)-1-((k:Nat):Int))))) rfl rfl rfl) rfl (OkL.nil (OkQ.subF (sL [1,2,3,6,7,8,23] rfl) (OkQ.then_ ?_))))))
 refine OkC.cond rfl (λhc0=>?_) (λhc0=>?_)
 ·replace hc0:=of_decide_eq_true hc0
  obtain ⟨sd,hsd⟩:∃q,q=ss.getD (ss.length-1-k) (0,0,0):=⟨_,rfl⟩
  refine OkC.skip (q1 (OkC.block (q4 (AG (v:=(pP b1 2)) (AA rfl Tryz.underlying30 rfl Tryz.sizeOf24 rfl) rfl (Aw 2 (Value.slice x.c.p ss.length x.c.c) Dk rfl (AO rfl (OkL.retell (k:=28) (u:=(vN (ss.length-1-k))) rfl (by show Value.int _ _=Value.int _ _;congr 1;omega) (AG (v:=(pP (pB x.c.p) (pO x.c.p+(ss.length-1-k)*3))) (AI (j:=ss.length-1-k) rfl rfl x.c.ok Tryz.underlying24 Tryz.sizeOf110 rfl (by omega)) rfl (AG (v:=(aG (Aq (ss.getD (ss.length-1-k) ((0,0,0):Nat×Nat×Nat))))) (AU (vs:=Aq (ss.getD (ss.length-1-k) ((0,0,0):Nat×Nat×Nat))) (i:=5) rfl rfl (Ak.ne x.c.ok (by omega)) I7 (An BF _ _ _ (by omega)) (BF _)) rfl (OkL.retell (k:=30) (u:=(aG (Aq sd))) rfl (by rw [hsd]) (al Pf rfl λb4=>?_)))))))))))
  refine Ay rfl Tryz.sizeOf110 rfl (q3 (sL [1,2,3,6,7,8,9] rfl) (BU 3 E8 rfl (AG (v:=(pP b4 0)) (AA rfl Tryz.underlying110 rfl Tryz.sizeOf3 rfl) rfl (Aw 0 (vN sd.1) BH rfl (Cq Tryz.call50 (λw hw=>GU x sd.1 w (inS hw 4 rfl lx)) rfl (AO rfl ?_))))))
  refine OkL.mid (FM:=[(1,(Value.slice o.p es.length o.c)),(2,(Value.slice y.p us.length y.c)),(3,(pP b1 0)),(6,(pP b2 0)),(7,(Value.map (some b3))),(8,(vI (((ss.length:Nat):Int)-1-((k:Nat):Int)))),(9,(pP b4 0)),(31,(aG (E6 x))),(32,(pP b4 0)),(33,(vN sd.1)),(34,(Value.bool (decide (sd.1<ps.length)))),(35,(Value.bool (decide (sd.1<ps.length)))),(40,(Value.bool ((decide (sd.1<ps.length))&&(decide (sd.2.1<ps.length)))))]) (LM:=[AX b4 110 (Aq sd),CE b3 FG vN (E5 ps.length ss k),AX b2 30 ([(Value.slice none 0 0),(Value.slice none 0 0),(Value.slice none 0 0)]),AX b1 30 (E6 x),AF x.a.p (rowsL BC ps),AF x.b.p (rowsL Aq ts),AF x.c.p (rowsL Aq ss),AF o.p (rowsL Bx es),AF y.p (rowsL Aq us)]) 5 ?_ ?_
  ·rcases Bool.eq_false_or_eq_true (decide (sd.1<ps.length)) with hg1|hg1
   ·skip
    refine OkL.retell (k:=35) (u:=Value.bool true) rfl (by rw [hg1]) ?_
    have hg1':=hg1
    replace hg1':=of_decide_eq_true hg1'
    exact OkL.step (v:=(aG (E6 x))) (AB rfl) (BA (i:=3) (vs:=E6 x) rfl rfl E8.a E8.s rfl rfl) rfl (AK rfl) (OkL.step (v:=(pP b4 1)) (AB rfl) (AA rfl Tryz.underlying110 rfl Tryz.sizeOf3 rfl) rfl (AK rfl) (OkL.step (v:=(vN sd.2.1)) (AB rfl) (AE (i:=0) (v:=(vN sd.2.1)) rfl rfl BH.a rfl) rfl (AK rfl) (OkL.call (v:=(Value.bool (decide (sd.2.1<ps.length)))) (AB rfl) (Ap (args:=[(aG (E6 x)),(vN sd.2.1)]) rfl rfl Tryz.call50) (λw hw=>GU x sd.2.1 w (inS hw 4 rfl lx)) rfl (AK rfl) (AG (v:=(Value.bool (decide (sd.2.1<ps.length)))) (AN rfl rfl) rfl (OkL.nil (OkQ.mid (sS rfl (sS rfl (sS rfl (sS rfl (sS rfl (sS rfl (sS rfl (sS rfl (sS rfl (sS rfl (sS rfl (sS (by first|rfl|(rw [hg1];rfl)|rw [hg1]) (sS (by first|rfl|(rw [hg1];rfl)|rw [hg1]) (sN)))))))))))))) (List.Sublist.refl _)))))))
   ·skip
    refine OkL.retell (k:=35) (u:=Value.bool false) rfl (by rw [hg1]) ?_
    have hg1':=hg1
    replace hg1':=of_decide_eq_false hg1'
    exact OkL.skip (AC rfl) rfl (AK rfl) (OkL.skip (AC rfl) rfl (AK rfl) (OkL.skip (AC rfl) rfl (AK rfl) (OkL.skip (AC rfl) rfl (AK rfl) (AG (v:=(Value.bool false)) (AJ rfl rfl) rfl (OkL.nil (OkQ.mid (sS rfl (sS rfl (sS rfl (sS rfl (sS rfl (sS rfl (sS rfl (sS rfl (sS rfl (sS rfl (sS rfl (sS (by first|rfl|(rw [hg1];rfl)|rw [hg1]) (sS (by first|rfl|(rw [hg1];rfl)|rw [hg1]) (sN)))))))))))))) (List.Sublist.refl _)))))))
  refine OkL.nil (OkQ.subF (sL [1,2,3,6,7,8,9,40] rfl) (OkQ.then_ ?_))
  refine OkC.cond rfl (λhc1=>?_) (λhc1=>?_)
  ·simp only [Bool.and_eq_true,Bool.or_eq_true,Bool.and_eq_false_iff,Bool.or_eq_false_iff,Bool.not_eq_true',Bool.not_eq_false',decide_eq_true_eq,decide_eq_false_iff_not] at hc1
   refine CV [(0,true),(1,true),(2,true),(3,true),(4,true),(6,true),(7,true),(5,false),(8,false)] (sk (sl sr)) (BN rfl (Ag (v:=(pP b4 0)) rfl (AA rfl Tryz.underlying110 rfl Tryz.sizeOf3 rfl) (BQ 0 (vN sd.1) BH rfl (Ag (v:=(pP b4 1)) rfl (AA rfl Tryz.underlying110 rfl Tryz.sizeOf3 rfl) (BQ 0 (vN sd.2.1) BH rfl (Ag (v:=(pP b4 2)) rfl (AA rfl Tryz.underlying110 rfl Tryz.sizeOf3 rfl) (BQ 0 (vN sd.2.2) BH rfl (OkE.imp rfl (ck' Tryz.call44 (Cl sd.1 sd.2.1) rfl (OkE.back (sk (sl sr)) (OkE.imp rfl ?_)))))))))))
   refine OkL.mapUpdate DR 1 (kvs:=E5 ps.length ss k) (x:=(min sd.1 sd.2.1,max sd.1 sd.2.1)) (y:=sd.2.2) (AP rfl) rfl rfl rfl Tryz.underlying112 rfl (Ik (by omega) _) (BV (by omega) (by omega)) ?_
   rw [show BL (E5 ps.length ss k) (min sd.1 sd.2.1,max sd.1 sd.2.1) sd.2.2=E5 ps.length ss (k+1) from by rw [hsd];exact Tq (by rw [<-hsd];exact hc1)]
   exact OkE.back (sk (sl sr)) (OkE.nil (OkQ.subF (sL [1,2,3,6,7,8,9] rfl) (OkQ.in_normal (OkQ.then_ (OkC.region (AO rfl (AG (BJ (c:=(((ss.length:Nat):Int)-1-((k+1:Nat):Int))) rfl rfl (by rw [BD (by omega) (by omega)];omega)) rfl (asg' rfl (OkL.nil (OkQ.subF (sL [1,2,3,6,7,8,9] rfl) (OkQ.round1 (k+1) (by omega) (by omega) (sF rfl) (sl sr))))))))))))
  ·simp only [Bool.and_eq_true,Bool.or_eq_true,Bool.and_eq_false_iff,Bool.or_eq_false_iff,Bool.not_eq_true',Bool.not_eq_false',decide_eq_true_eq,decide_eq_false_iff_not] at hc1
   refine OkC.skip (OkQ.in_normal (OkQ.then_ (OkC.region (AO rfl (AG (BJ (c:=(((ss.length:Nat):Int)-1-((k+1:Nat):Int))) rfl rfl (by rw [BD (by omega) (by omega)];omega)) rfl (asg' rfl (OkL.nil (OkQ.subF (sL [1,2,3,6,7,8,9] rfl) ?_))))))))
   rw [show E5 ps.length ss k=E5 ps.length ss (k+1) from VL (by rw [<-hsd];intro hh;rcases hc1 with h9|h9;exact h9 hh.1;exact h9 hh.2)]
   exact OkQ.round1 (k+1) (by omega) (by omega) (sF rfl) (sl sr)
 ·replace hc0:=of_decide_eq_false hc0
  have hk2:k=ss.length:=by omega
  rw [show E5 ps.length ss k=Dn ps.length ss es 0 by rw [hk2];rfl]
  refine OkC.exit (OkQ.then_exit (OkQ.round1_exit (OkQ.in_exit (q2 (AG (v:=(pP b1 0)) (AA rfl Tryz.underlying30 rfl Tryz.sizeOf28 rfl) rfl (Aw 2 (Value.slice x.a.p ps.length x.a.c) Dm rfl (OkL.callL (S:=S) (V:=Tx) (LW:=NC (T:=99) (z:=10) (cs:=rowsL BC ps) (n:=ps.length)) (args:=[(Value.slice x.a.p ps.length x.a.c)]) Tryz.call51 (λw hw=>Ko ps x.a (by omega) w (Yx (inS hw 3 rfl lx))) rfl λcl1 hcl1=>AO rfl (OkL.callL (S:=S) (V:=Tx) (LW:=NC (T:=105) (z:=3) (cs:=rowsL Aq us) (n:=us.length)) (args:=[(Value.slice y.p us.length y.c)]) Tryz.call53 (λw hw=>Qk us y (by omega) w (inS hw 8 rfl ly)) rfl λcl2 hcl2=>ck' Tryz.call52 (NE cl2.p us.length cl2.c cl2.ok.row.le) rfl (AG (v:=(aG ([(Value.slice cl1.p ps.length cl1.c),(Value.slice cl2.p us.length us.length),(Value.slice none 0 0)]))) (AR (zs:=[(Value.slice none 0 0),(Value.slice none 0 0),(Value.slice none 0 0)]) (vs:=[(Value.slice cl1.p ps.length cl1.c),(Value.slice cl2.p us.length us.length),(Value.slice none 0 0)]) (pv:=[(0,(Value.slice cl1.p ps.length cl1.c)),(1,(Value.slice cl2.p us.length us.length))]) (places:=[(0,1),(1,1),(2,1)]) Tryz.zeroValue30 Tryz.underlying30 (λw=>by simp [Tryz.sizeOf23,Tryz.sizeOf24,Tryz.sizeOf28]) rfl rfl) rfl ?_)))))))))
  refine al Ll rfl λb4=>Ay rfl Tryz.sizeOf30 rfl (q6 (sL [1,2,3,6,7,8,10] rfl) (q4 (AO rfl (AG (v:=(vN es.length)) (AD rfl Tryz.underlying46) rfl (AO rfl (OkL.nil (OkQ.then_ (OkC.block ?_))))))))
  refine OkC.lp3 (tg λ(i:Nat) (p1:Option Addr) (c1:Nat)=>i<=es.length/\OwnOk p1 (ps.length+i) c1) (tg λ(i:Nat) (p1:Option Addr) (c1:Nat)=>[(3,(pP b1 0)),(6,(pP b2 0)),(7,(Value.map (some b3))),(10,(pP b4 0)),(56,(Value.slice o.p es.length o.c)),(57,(vN es.length)),(58,(vN i))]) (tg λ(i:Nat) (p1:Option Addr) (c1:Nat)=>[AX b4 30 ([(Value.slice p1 (ps.length+i) c1),(Value.slice cl2.p us.length us.length),(Value.slice none 0 0)]),rowW cl2.p 105 3 us.length cl2.c (rowsL Aq us),rowW p1 99 10 (ps.length+i) c1 (rowsL BC (KD ps es i)),CE b3 FG vN (Dn ps.length ss es i),AX b2 30 ([(Value.slice none 0 0),(Value.slice none 0 0),(Value.slice none 0 0)]),AX b1 30 (E6 x),AF x.a.p (rowsL BC ps),AF x.b.p (rowsL Aq ts),AF x.c.p (rowsL Aq ss),AF o.p (rowsL Bx es),AF y.p (rowsL Aq us)]) (tg λ(i:Nat) (p1:Option Addr) (c1:Nat)=>es.length-i) 0 cl1.p cl1.c (⟨Nat.zero_le _,cl1.ok⟩) (sF rfl) sr (λi p1 c1 hJ=>?_)
  obtain ⟨hi,ho⟩:=hJ
  refine q4 (AG (Af (c:=(decide (i<es.length))) rfl rfl (B9 (a:=i) (b:=es.length))) rfl (OkL.nil (q1 ?_)))
  refine OkC.cond rfl (λhc2=>?_) (λhc2=>?_)
  ·replace hc2:=of_decide_eq_true hc2
   obtain ⟨ed,hed⟩:∃q,q=es.getD i (⟨0,0,0,0⟩:E4):=⟨_,rfl⟩
   obtain ⟨hea,heb⟩:=hes ed (by rw [hed,List.getD,List.getElem?_eq_getElem hc2];exact List.getElem_mem hc2)
   refine OkC.skip (q1 (OkC.block (q4 (AG (v:=(pP (pB o.p) (pO o.p+i*4))) (AI (j:=i) rfl rfl o.ok Tryz.underlying46 Tryz.sizeOf49 rfl (by omega)) rfl (AG (v:=(aG (Bx (es.getD i (⟨0,0,0,0⟩:E4))))) (AU (vs:=Bx (es.getD i (⟨0,0,0,0⟩:E4))) (i:=9) rfl rfl (Ak.ne o.ok (by omega)) MI (An DB _ _ _ (by omega)) (DB _)) rfl (OkL.retell (k:=61) (u:=(aG (Bx ed))) rfl (by rw [hed]) (al MK rfl λb5=>Ay rfl Tryz.sizeOf49 rfl (q6 (sL [3,6,7,10,56,57,58,12] rfl) (q4 (BU 6 E8 rfl ?_))))))))))
   refine AG (v:=(pP b5 0)) (AA rfl Tryz.underlying49 rfl Tryz.sizeOf3 rfl) rfl (Aw 0 (vN ed.a) BH rfl (Cq (args:=[(aG (E6 x)),(vN ed.a)]) (v:=(Value.bool true)) Tryz.call50 (λw hw=>(by have h9:=GU x ed.a w (inS hw 7 rfl lx);rw [decide_eq_true (by omega)] at h9;exact h9)) rfl (AG (Be (c:=false) rfl rfl) rfl (AO rfl (OkL.step (v:=(aG (E6 x))) (AB rfl) (BA (i:=6) (vs:=E6 x) rfl rfl E8.a E8.s rfl rfl) rfl (AK rfl) (OkL.step (v:=(pP b5 1)) (AB rfl) (AA rfl Tryz.underlying49 rfl Tryz.sizeOf3 rfl) rfl (AK rfl) (OkL.step (v:=(vN ed.b)) (AB rfl) (AE (i:=0) (v:=(vN ed.b)) rfl rfl BH.a rfl) rfl (AK rfl) (OkL.call (v:=(Value.bool true)) (AB rfl) (Ap (args:=[(aG (E6 x)),(vN ed.b)]) rfl rfl Tryz.call50) (λw hw=>(by have h9:=GU x ed.b w (inS hw 7 rfl lx);rw [decide_eq_true (by omega)] at h9;exact h9)) rfl (AK rfl) (OkL.step (v:=(Value.bool false)) (AB rfl) (Be (c:=false) rfl rfl) rfl (AK rfl) (AG (v:=(Value.bool false)) (AJ rfl rfl) rfl (OkL.nil ?_)))))))))))
   refine OkQ.subF (sL [3,6,7,10,56,57,58,12,73] rfl) (OkQ.then_ (OkC.cond_false rfl (OkC.skip (q2 (AG (v:=(pP b4 0)) (AA rfl Tryz.underlying30 rfl Tryz.sizeOf28 rfl) rfl (Aw 1 (Value.slice p1 (ps.length+i) c1) Dm rfl (AG (v:=(vN (ps.length+i))) (AD rfl Tryz.underlying28) rfl (asg' rfl (q6 (sL [3,6,7,10,56,57,58,12,13] rfl) (rC [(0,true),(1,true),(2,true),(3,true),(4,true),(5,true),(6,true),(7,true),(8,true),(9,true),(10,true),(11,true),(12,true),(13,true),(14,false),(15,false),(16,false),(17,true)] 18 [] (sk (sk (sk (sl sr)))) (sk (sl sr)) (by kernel_rfl) (λ_ _ d _ _ h=>by cases d<;>exact h) (vE (v:=(pP b4 0)) rfl (AA rfl Tryz.underlying30 rfl Tryz.sizeOf28 rfl) rfl ?_)))))))))))
   refine vE rfl (AE (i:=1) (v:=(Value.slice p1 (ps.length+i) c1)) rfl rfl Dm.a rfl) rfl (vE (v:=(pP b1 0)) rfl (AA rfl Tryz.underlying30 rfl Tryz.sizeOf28 rfl) rfl (vE rfl (AE (i:=5) (v:=(Value.slice x.a.p ps.length x.a.c)) rfl rfl Dm.a rfl) rfl (vE (v:=(pP b5 0)) rfl (AA rfl Tryz.underlying49 rfl Tryz.sizeOf3 rfl) rfl (vE rfl (AE (i:=0) (v:=(vN ed.a)) rfl rfl BH.a rfl) rfl (vE (v:=(pP (pB x.a.p) (pO x.a.p+ed.a*10))) rfl (AI (j:=ed.a) rfl rfl x.a.ok Tryz.underlying28 Tryz.sizeOf99 rfl (by omega)) rfl (vE (v:=(aG (BC (ps.getD ed.a (⟨0,0⟩:Pt))))) rfl (AU (vs:=BC (ps.getD ed.a (⟨0,0⟩:Pt))) (i:=6) rfl rfl (Ak.ne x.a.ok (by omega)) HM (An Bk _ _ _ (by omega)) (Bk _)) rfl ?_))))))
   have hz84:D9 (ps.getD ed.a (⟨0,0⟩:Pt))<=1000000:=hz _
   refine vE (v:=(pP b1 0)) rfl (AA rfl Tryz.underlying30 rfl Tryz.sizeOf28 rfl) rfl (vE rfl (AE (i:=5) (v:=(Value.slice x.a.p ps.length x.a.c)) rfl rfl Dm.a rfl) rfl (vE (v:=(pP b5 1)) rfl (AA rfl Tryz.underlying49 rfl Tryz.sizeOf3 rfl) rfl (vE rfl (AE (i:=0) (v:=(vN ed.b)) rfl rfl BH.a rfl) rfl (vE (v:=(pP (pB x.a.p) (pO x.a.p+ed.b*10))) rfl (AI (j:=ed.b) rfl rfl x.a.ok Tryz.underlying28 Tryz.sizeOf99 rfl (by omega)) rfl (vE (v:=(aG (BC (ps.getD ed.b (⟨0,0⟩:Pt))))) rfl (AU (vs:=BC (ps.getD ed.b (⟨0,0⟩:Pt))) (i:=6) rfl rfl (Ak.ne x.a.ok (by omega)) HM (An Bk _ _ _ (by omega)) (Bk _)) rfl ?_)))))
   have hz90:D9 (ps.getD ed.b (⟨0,0⟩:Pt))<=1000000:=hz _
   refine Cd.imp rfl ?_
   have hz1:=G_ (ps.getD ed.a (⟨0,0⟩:Pt)) (ps.getD ed.b (⟨0,0⟩:Pt))
   have hz2:=FE ((ps.getD ed.a (⟨0,0⟩:Pt))+(ps.getD ed.b (⟨0,0⟩:Pt))) (1/2)
   refine ck' Tryz.call54 (O3 (ps.getD ed.a (⟨0,0⟩:Pt)) (ps.getD ed.b (⟨0,0⟩:Pt)) (by omega)) rfl (Cd.back (sk (sk (sk (sl sr)))) (Cd.imp rfl (OkL.openV (V:=λb6=>(Value.slice (some ⟨b6,0,none⟩) 1 1)) (T:=99) (cs:=BC (Bc ((ps.getD ed.a (⟨0,0⟩:Pt))+(ps.getD ed.b (⟨0,0⟩:Pt))) (1/2))) (AP rfl) (Av (z:=.agg (BC (⟨0,0⟩:Pt)).toArray) (cs:=BC (Bc ((ps.getD ed.a (⟨0,0⟩:Pt))+(ps.getD ed.b (⟨0,0⟩:Pt))) (1/2))) (pv:=[(0,(aG (BC (Bc ((ps.getD ed.a (⟨0,0⟩:Pt))+(ps.getD ed.b (⟨0,0⟩:Pt))) (1/2)))))]) Tryz.underlying28 Tryz.sizeOf99 Tryz.zeroValue99 (by decide) (by decide) rfl (I9 (Bc ((ps.getD ed.a (⟨0,0⟩:Pt))+(ps.getD ed.b (⟨0,0⟩:Pt))) (1/2)))) rfl (AK rfl) λb6=>Cd.back (sl (sk (sk (sk (sl sr))))) (Cd.imp rfl (OkL.appendAt 4 (j:=0) (cs2:=rowsL BC ((KD ps es i)++[Bc ((ps.getD ed.a (⟨0,0⟩:Pt))+(ps.getD ed.b (⟨0,0⟩:Pt))) (1/2)])) Vt rfl ho (by rw [Ab Bk,JV]) rfl rfl rfl rfl rfl (by decide) (HL (by omega)) (by omega) (by rw [Ba];rfl) rfl λp_1 c_1 ho_1 hne_1=>Cd.back (sl (sk (sk (sk (sl sr))))) (vE (v:=(pP b4 0)) rfl (AA rfl Tryz.underlying30 rfl Tryz.sizeOf28 rfl) rfl (Cd.cut rfl (FZ 2 (off:=0) (vs:=[(Value.slice p_1 ((ps.length+i)+1) c_1)]) (cs':=[(Value.slice p_1 ((ps.length+i)+1) c_1),(Value.slice cl2.p us.length us.length),(Value.slice none 0 0)]) (AP rfl) rfl Tryz.sizeOf28 rfl (OkE.back (sl (sk (sl (sk (sl sr))))) ?_)))))))))
   refine OkE.nil (OkQ.subF (sL [3,6,7,10,56,57,58,12,13] rfl) (q2 (AO rfl (AG (v:=(pP b5 0)) (AA rfl Tryz.underlying49 rfl Tryz.sizeOf3 rfl) rfl (Aw 1 (vN ed.a) BH rfl (AG (v:=(pP b5 1)) (AA rfl Tryz.underlying49 rfl Tryz.sizeOf3 rfl) rfl (Aw 1 (vN ed.b) BH rfl (ck' Tryz.call44 (Cl ed.a ed.b) rfl (AG (v:=(vN ((Az (Dn ps.length ss es i) (min ed.a ed.b,max ed.a ed.b)).getD 0))) (CR DR 5 (eV:=vN) (kvs:=Dn ps.length ss es i) (x:=(min ed.a ed.b,max ed.a ed.b)) (z0:=0) (co:=false) rfl rfl Tryz.underlying112 Tryz.zeroValue3 rfl (G5 hes (by omega) _ (by omega)) (BV (by omega) (by omega))) rfl (asg' rfl (OkL.nil ?_)))))))))))
   refine OkQ.subF (sL [3,6,7,10,56,57,58,12,13,14] rfl) (OkQ.then_ (CV [(0,true),(1,true),(2,true),(3,true),(5,true),(6,true),(7,true),(8,true),(10,true),(11,true),(4,false),(9,false),(12,false),(13,true),(14,false),(15,false)] (sk (sk (sk (sk (sk (sl sr)))))) (BN rfl (Ag (v:=(pP b5 0)) rfl (AA rfl Tryz.underlying49 rfl Tryz.sizeOf3 rfl) (BQ 1 (vN ed.a) BH rfl (BN rfl (BN rfl (Ag (v:=(pP b5 1)) rfl (AA rfl Tryz.underlying49 rfl Tryz.sizeOf3 rfl) (BQ 1 (vN ed.b) BH rfl (BN rfl (BN rfl ?_)))))))))))
   refine BN rfl (OkE.imp rfl (ck' Tryz.call44 (Cl ed.a (ps.length+i)) rfl (OkE.back (sk (sk (sk (sk (sk (sl sr)))))) (OkE.imp rfl (ck' Tryz.call44 (Cl ed.b (ps.length+i)) rfl (OkE.back (sk (sk (sk (sk (sk (sl sr)))))) (OkE.imp rfl (OkL.mapEntry DR 5 (kvs:=Dn ps.length ss es i) (x:=(min ed.a (ps.length+i),max ed.a (ps.length+i))) (z0:=0) (v:=((Az (Dn ps.length ss es i) (min ed.a (ps.length+i),max ed.a (ps.length+i))).getD 0)) rfl rfl Tryz.underlying112 Tryz.zeroValue3 rfl (G5 hes (by omega) _ (by omega)) (BV (by omega) (by omega)) rfl rfl (OkE.back (sk (sk (sk (sk (sk (sl sr)))))) (Ag rfl (AV (v:=(vN (CW (Dn ps.length ss es i) (min ed.a (ps.length+i),max ed.a (ps.length+i))))) rfl rfl) (OkE.imp rfl ?_)))))))))))
   refine OkL.entryStore 5 (kvs:=Dn ps.length ss es i) (x:=(min ed.a (ps.length+i),max ed.a (ps.length+i))) (u:=((Az (Dn ps.length ss es i) (min ed.a (ps.length+i),max ed.a (ps.length+i))).getD 0)) (y:=(Az (Dn ps.length ss es i) (min ed.a ed.b,max ed.a ed.b)).getD 0) rfl rfl rfl rfl (OkE.back (sk (sk (sk (sk (sk (sl sr)))))) (OkE.imp rfl (OkL.mapUpdate DR 5 (kvs:=BL (Dn ps.length ss es i) (min ed.a (ps.length+i),max ed.a (ps.length+i)) ((Az (Dn ps.length ss es i) (min ed.a ed.b,max ed.a ed.b)).getD 0)) (x:=(min ed.b (ps.length+i),max ed.b (ps.length+i))) (y:=(Az (Dn ps.length ss es i) (min ed.a ed.b,max ed.a ed.b)).getD 0) (AP rfl) rfl rfl rfl Tryz.underlying112 rfl ((G5 hes (by omega) _ (by omega)).put (BV (by omega) (by omega))) (BV (by omega) (by omega)) ?_)))
   rw [show BL (BL (Dn ps.length ss es i) (min ed.a (ps.length+i),max ed.a (ps.length+i)) ((Az (Dn ps.length ss es i) (min ed.a ed.b,max ed.a ed.b)).getD 0)) (min ed.b (ps.length+i),max ed.b (ps.length+i)) ((Az (Dn ps.length ss es i) (min ed.a ed.b,max ed.a ed.b)).getD 0)=Dn ps.length ss es (i+1) from by rw [hed];rfl]
   refine OkE.back (sk (sk (sk (sk (sk (sl sr)))))) (OkE.nil (OkQ.subF (sL [3,6,7,10,56,57,58,12] rfl) (OkQ.in_normal (OkQ.then_ (OkC.region (AG (AY (c:=((i+1:Nat):Int)) rfl rfl (AT (a:=i) (b:=1) (by omega))) rfl (AO rfl (OkL.nil (OkQ.subF (sL [3,6,7,10,56,57,58,12] rfl) ?_)))))))))
   rw [hed,show KD ps es i++[Bc (ps.getD (es.getD i (⟨0,0,0,0⟩:E4)).a (⟨0,0⟩:Pt)+ps.getD (es.getD i (⟨0,0,0,0⟩:E4)).b (⟨0,0⟩:Pt)) (1/2)]=KD ps es (i+1) from rfl]
   exact OkQ.round3 (i+1) p_1 c_1 (⟨by omega,ho_1⟩) (by omega) (sF rfl) (sl (sl sr))
  ·replace hc2:=of_decide_eq_false hc2
   have hie:i=es.length:=by omega
   have hrl:(Bl us).length<=3*us.length:=by have h1:=I2 (ts:=us) (BS us).length;have h2:=HU (ts:=us) (3*us.length);rw [<-HO] at h2;exact Nat.le_trans h1 h2
   refine OkC.exit (OkQ.then_exit (OkQ.round3_exit (OkQ.in_exit (q2 (AG (v:=(pP b4 0)) (AA rfl Tryz.underlying30 rfl Tryz.sizeOf28 rfl) rfl (Aw 0 (Value.slice p1 (ps.length+i) c1) Dm rfl (ck' Tryz.call55 (Mq p1 (ps.length+i) c1 ho.row.le) rfl (AG (v:=(pP b4 0)) (AA rfl Tryz.underlying30 rfl Tryz.sizeOf28 rfl) rfl (FZ 0 (off:=0) (vs:=[(Value.slice p1 (ps.length+i) (ps.length+i))]) (cs':=[(Value.slice p1 (ps.length+i) (ps.length+i)),(Value.slice cl2.p us.length us.length),(Value.slice none 0 0)]) (AP rfl) rfl Tryz.sizeOf28 rfl (q3 (sL [3,6,7,10,56,57,58] rfl) (AG (v:=(pP b4 0)) (AA rfl Tryz.underlying30 rfl Tryz.sizeOf28 rfl) rfl ?_)))))))))))
   refine Aw 0 (Value.slice p1 (ps.length+i) (ps.length+i)) Dm rfl (AG (v:=(pP b4 1)) (AA rfl Tryz.underlying30 rfl Tryz.sizeOf23 rfl) rfl (Aw 0 (Value.slice cl2.p us.length us.length) Ds rfl (OkL.frzRow 1 rfl cl2.ok (Ab BF _) rfl rfl λhn_cl2=>OkL.callL (S:=S) (V:=XE) (LW:=NC (T:=110) (z:=3) (cs:=rowsL Aq (Bl us)) (n:=(Bl us).length)) (args:=[(Value.slice p1 (ps.length+i) (ps.length+i)),(Value.slice cl2.p us.length us.length)]) Tryz.call56 (λw hw=>Sk us ⟨cl2.p,us.length,cl2.ok.clip⟩ p1 (ps.length+i) (ps.length+i) (by rw [hie];exact hu) (by omega) (by omega) w (inS hw 1 rfl (At.new hn_cl2))) rfl λrm hrm=>AG (v:=(pP b4 2)) (AA rfl Tryz.underlying30 rfl Tryz.sizeOf24 rfl) rfl (FZ 1 (off:=2) (vs:=[(Value.slice rm.p ((Bl us).length) ((Bl us).length))]) (cs':=[(Value.slice p1 (ps.length+i) (ps.length+i)),(Value.slice cl2.p us.length us.length),(Value.slice rm.p ((Bl us).length) ((Bl us).length))]) (AP rfl) rfl Tryz.sizeOf24 rfl (q6 (sL [3,6,7,10,56,57,58] rfl) (q4 (AG (v:=(pP b4 2)) (AA rfl Tryz.underlying30 rfl Tryz.sizeOf24 rfl) rfl (Aw 1 (Value.slice rm.p ((Bl us).length) ((Bl us).length)) Dk rfl (AG (v:=(vN ((Bl us).length))) (AD rfl Tryz.underlying24) rfl ?_)))))))))
   refine AO rfl (OkL.nil (OkQ.subF (sL [3,6,7,10,56,57,58,128,129,130] rfl) (OkQ.then_ (OkC.block ?_))))
   refine OkC.lp1 (tg λ(j:Nat)=>j<=(Bl us).length) (tg λ(j:Nat)=>[(6,(pP b2 0)),(7,(Value.map (some b3))),(10,(pP b4 0)),(128,(Value.slice rm.p ((Bl us).length) ((Bl us).length))),(129,(vN ((Bl us).length))),(130,(vN j))]) (tg λ(j:Nat)=>[rowW rm.p 110 3 ((Bl us).length) rm.c (rowsL Aq (FK ps.length ss es (Bl us) j)),AX b4 30 ([(Value.slice p1 (ps.length+i) (ps.length+i)),(Value.slice cl2.p us.length us.length),(Value.slice rm.p ((Bl us).length) ((Bl us).length))]),AF cl2.p (rowsL Aq us),rowW p1 99 10 (ps.length+i) c1 (rowsL BC (KD ps es i)),CE b3 FG vN (Dn ps.length ss es i),AX b2 30 ([(Value.slice none 0 0),(Value.slice none 0 0),(Value.slice none 0 0)]),AX b1 30 (E6 x),AF x.a.p (rowsL BC ps),AF x.b.p (rowsL Aq ts),AF x.c.p (rowsL Aq ss),AF o.p (rowsL Bx es),AF y.p (rowsL Aq us)]) (tg λ(j:Nat)=>(Bl us).length-j) 0 (Nat.zero_le _) (sF rfl) sr (λj hJ=>?_)
   have hj:=hJ
   refine q4 (AG (Af (c:=(decide (j<((Bl us).length)))) rfl rfl (B9 (a:=j) (b:=(Bl us).length))) rfl (OkL.nil (q1 ?_)))
   refine OkC.cond rfl (λhc4=>?_) (λhc4=>?_)
   ·replace hc4:=of_decide_eq_true hc4
    obtain ⟨sd2,hsd2⟩:∃q,q=(Bl us).getD j (0,0,0):=⟨_,rfl⟩
    have hml:(FK ps.length ss es (Bl us) j).length=(Bl us).length:=Hg
    obtain ⟨hs1,hs2⟩:=Pb hu (by omega) (show sd2∈Bl us from by rw [hsd2,List.getD,List.getElem?_eq_getElem hc4];exact List.getElem_mem hc4)
    refine OkC.skip (q1 (OkC.block (q4 (AO rfl (AG (v:=(pP (pB rm.p) (pO rm.p+j*3))) (AI (j:=j) rfl rfl rm.ok.clip Tryz.underlying24 Tryz.sizeOf110 rfl (by omega)) rfl (AG (v:=(aG (Aq ((FK ps.length ss es (Bl us) j).getD j ((0,0,0):Nat×Nat×Nat))))) (Dg (vs:=Aq ((FK ps.length ss es (Bl us) j).getD j ((0,0,0):Nat×Nat×Nat))) (i:=0) rfl rfl rm.ok (by rw [Ab BF,Hg]) (Ak.ne rm.ok.clip (by omega)) I7 (An BF _ _ _ (by omega)) (BF _)) rfl (OkL.retell (k:=134) (u:=(aG (Aq sd2))) rfl (by rw [hsd2,Mr (by omega)]) (al Pf rfl λb5=>asg' rfl (Ay rfl Tryz.sizeOf110 rfl (OkL.nil ?_))))))))))
    refine OkQ.subF (sL [6,7,10,128,129,130,16,15] rfl) (OkQ.then_ (CV [(0,true),(1,true),(2,true),(3,true),(4,true),(5,true),(6,true),(7,true),(8,false),(9,true),(10,true),(11,true),(12,false)] (sk (sl sr)) (Ag (v:=(pP b4 2)) rfl (AA rfl Tryz.underlying30 rfl Tryz.sizeOf24 rfl) (BQ 1 (Value.slice rm.p ((Bl us).length) ((Bl us).length)) Dk rfl (BN rfl (BN rfl (Ag (v:=(pP b5 0)) rfl (AA rfl Tryz.underlying110 rfl Tryz.sizeOf3 rfl) (BQ 0 (vN sd2.1) BH rfl (Ag (v:=(pP b5 1)) rfl (AA rfl Tryz.underlying110 rfl Tryz.sizeOf3 rfl) (BQ 0 (vN sd2.2.1) BH rfl (OkE.imp rfl ?_)))))))))))
    refine ck' Tryz.call44 (Cl sd2.1 sd2.2.1) rfl (OkE.back (sk (sl sr)) (Ag (v:=(vN ((Az (Dn ps.length ss es i) (min sd2.1 sd2.2.1,max sd2.1 sd2.2.1)).getD 0))) rfl (CR DR 4 (eV:=vN) (kvs:=Dn ps.length ss es i) (x:=(min sd2.1 sd2.2.1,max sd2.1 sd2.2.1)) (z0:=0) (co:=false) rfl rfl Tryz.underlying112 Tryz.zeroValue3 rfl (G5 hes (by omega) _ (by omega)) (BV (by omega) (by omega))) (Ag (v:=(pP (pB rm.p) (pO rm.p+j*3))) rfl (AI (j:=j) rfl rfl rm.ok.clip Tryz.underlying24 Tryz.sizeOf110 rfl (by omega)) (Ag (v:=(pP (pB rm.p) (pO rm.p+(j*3+2)))) rfl (AA rfl Tryz.underlying110 rfl Tryz.sizeOf3 (Nat.add_assoc _ _ _)) (OkE.imp rfl (OkL.storeObj 1 (enc:=Aq) (j:=j) (r:=2) (x':=(((FK ps.length ss es (Bl us) j).getD j ((0,0,0):Nat×Nat×Nat)).1,((FK ps.length ss es (Bl us) j).getD j ((0,0,0):Nat×Nat×Nat)).2.1,(Az (Dn ps.length ss es i) (min sd2.1 sd2.2.1,max sd2.1 sd2.2.1)).getD 0)) (vs:=[(vN ((Az (Dn ps.length ss es i) (min sd2.1 sd2.2.1,max sd2.1 sd2.2.1)).getD 0))]) ((0,0,0):Nat×Nat×Nat) BF rm.ok Hg rfl rfl rfl (Ak.ne rm.ok.clip (by omega)) (by omega) rfl Tryz.sizeOf3 rfl rfl (OkE.back (sk (sl sr)) (OkE.nil (OkQ.subF (sL [6,7,10,128,129,130,16] rfl) (OkQ.in_normal (OkQ.then_ ?_)))))))))))
    refine OkC.region (AG (AY (c:=((j+1:Nat):Int)) rfl rfl (AT (a:=j) (b:=1) (by omega))) rfl (AO rfl (OkL.nil (OkQ.subF (sL [6,7,10,128,129,130,16] rfl) ?_))))
    rw [P0 (by omega) (by rw [hsd2,hie];rfl)]
    exact OkQ.round1 (j+1) (by omega) (by omega) (sF rfl) (sl sr)
   ·replace hc4:=of_decide_eq_false hc4
    exact OkC.exit (OkQ.then_exit (OkQ.round1_exit (OkQ.in_exit (q2 (BU 1 E8 rfl (FZ 5 (off:=0) (vs:=[(Value.slice p1 (ps.length+i) (ps.length+i)),(Value.slice cl2.p us.length us.length),(Value.slice rm.p ((Bl us).length) ((Bl us).length))]) (cs':=[(Value.slice p1 (ps.length+i) (ps.length+i)),(Value.slice cl2.p us.length us.length),(Value.slice rm.p ((Bl us).length) ((Bl us).length))]) (AP rfl) rfl Tryz.sizeOf30 rfl (OkL.nil (OkQ.subF (sL [6,7,10,128,129,130] rfl) (OkQ.then_ (OkC.ret (ret_one rfl (Aj (i:=5) (cs:=[(Value.slice p1 (ps.length+i) (ps.length+i)),(Value.slice cl2.p us.length us.length),(Value.slice rm.p ((Bl us).length) ((Bl us).length))]) rfl rfl Tryz.isAgg30 Tryz.sizeOf30 rfl) (λw hw=>(by rw [show RJ ps es=KD ps es i from by rw [hie];rfl,show TI ps.length ss es us=FK ps.length ss es (Bl us) j from by rw [show j=(Bl us).length from by omega,R8];rfl];exact X9 hw 3 2 0 rfl rfl rfl ho cl2.ok.clip hn_cl2 rm.ok (by rw [JV]) rfl (by rw [Hg]) rfl)))))))))))))
end
section
set_option maxRecDepth 100000
theorem Ol (ts:List Z3) (x:RX (rowsL Ad ts) ts.length) (hl:ts.length<=1000000000) (w:World) {S:Nat->Prop} (hx:Ro S w x):Calls Tryz.prog 53 #[(Value.slice x.p ts.length x.c)] w (DJ Tx (NC (T:=105) (z:=3) (cs:=rowsL Ad ts) (n:=ts.length)) S w):=by
 have lx:=CU (W:=w) hx
 refine Aa (args:=[(Value.slice x.p ts.length x.c)]) (L:=[AF x.p (rowsL Ad ts)]) Tryz.func53 rfl rfl (AK rfl) (Ee hx Al) (OkC.subF (sL [0] rfl) (q4 (asg' rfl (OkL.nilRow 105 3 (OkL.nil (q1 (q4 (AO rfl (AG (v:=(Value.bool x.p.isNone)) (Gx rfl rfl Tryz.underlying23) rfl (OkL.nil (OkQ.subF (sL [0,2,4] rfl) ?_)))))))))))
 refine OkQ.then_ ?_
 refine OkC.cond rfl (λhc0=>?_) (λhc0=>?_)
 ·skip
  have hts:ts=[]:=List.eq_nil_of_length_eq_zero (x.ok.nil (Option.isNone_iff_eq_none.1 hc0)).1
  exact q4 (asg' rfl (OkL.nilRow 105 3 (OkL.nil (OkQ.then_ (OkC.ret (OkQ.then_ret (ret_one rfl (rd_tmp (v:=(Value.slice none 0 0)) rfl) (λw hw=>(by subst hts;exact J7 hw (OX.mk none 0 OwnOk.none) (by exact (sk (sl (sl sr)))) (G0.own rfl G0.nil) (by show Value.slice none 0 0=_;rfl))))))))))
 ·skip
  exact OkC.skip (q2 (OkL.openV (V:=λb1=>(Value.slice (some ⟨b1,0,none⟩) 0 0)) (T:=105) (cs:=[]) (AP rfl) (GL Tryz.underlying23 Tryz.sizeOf105) rfl (AK rfl) λb1=>OkL.asRow0 (z:=3) 0 rfl (by omega) λho_b1=>AO rfl (OkL.appendE0 N9 rfl ho_b1 rfl (Lh (k:=2) rfl x.ok) (Ab Au _) (C1 HG _) (HL (by omega)) (by omega) rfl λp_1 c_1 ho_1=>asg' rfl (OkL.nil (OkQ.subF (sL [0,2] rfl) (OkQ.then_ (OkC.ret (ret_one rfl (rd_tmp (v:=(Value.slice p_1 ts.length c_1)) rfl) (λw hw=>(J7 hw (OX.mk p_1 c_1 ho_1) (sk (sl (sl sr))) (G0.own rfl G0.nil) rfl))))))))))
end
section
section
variable {N:Nat} {ts:List T3} {zs ss:List Z3} {ps:List Pt}
end
structure MN (ps:List Pt) (ts:List T3) (ss:List Z3) where
  a:RX (rowsL BC ps) ps.length
  b:RX (rowsL Aq ts) ts.length
  c:RX (rowsL Ad ss) ss.length
def ZT {ps:List Pt} {ts:List T3} {ss:List Z3} (x:MN ps ts ss):List Value:=[x.a.val,x.b.val,x.c.val]
theorem XR {ps:List Pt} {ts:List T3} {ss:List Z3} {x:MN ps ts ss} {y:As} (hy:y∈[x.a.row,x.b.row,x.c.row]):y.ro=true:=by
  simp only [List.mem_cons,List.not_mem_nil,or_false] at hy
  rcases hy with rfl|rfl|rfl<;>rfl
instance {ps:List Pt} {ts:List T3} {ss:List Z3}:Ci (MN ps ts ss):=⟨λx=>aG (ZT x),λx=>[x.a.row,x.b.row,x.c.row],λx y hy=>XR hy⟩
section
variable {N:Nat} {ts:List T3} {zs ss:List Z3} {ps:List Pt}
end
structure XK (ps:List Pt) (ts:List T3) (ss:List Z3) where
  rs:List RP
  e:rs.map (·.p)=ps
  a:RX (rowsL Cs rs) rs.length
  b:RX (rowsL Aq ts) ts.length
  c:RX (rowsL Ad ss) ss.length
def Zk {ps:List Pt} {ts:List T3} {ss:List Z3} (x:XK ps ts ss):List Value:=[x.a.val,x.b.val,x.c.val]
theorem XZ {ps:List Pt} {ts:List T3} {ss:List Z3} {x:XK ps ts ss} {y:As} (hy:y∈[x.a.row,x.b.row,x.c.row]++Db x.rs):y.ro=true:=by
  rcases List.mem_append.1 hy with hy|hy
  · simp only [List.mem_cons,List.not_mem_nil,or_false] at hy
    rcases hy with rfl|rfl|rfl<;>rfl
  · exact OV hy
instance {ps:List Pt} {ts:List T3} {ss:List Z3}:Ci (XK ps ts ss):=⟨λx=>aG (Zk x),λx=>[x.a.row,x.b.row,x.c.row]++Db x.rs,λx y hy=>XZ hy⟩
section
variable {N:Nat} {ts:List T3} {zs ss:List Z3} {ps:List Pt}
theorem XK.len (x:XK ps ts ss):x.rs.length=ps.length:=by
  have h:=congrArg List.length x.e
  rwa [List.length_map] at h
end
structure YC (ps:List Pt) (ts ss:List Z3) where
  m:MZ ps ts ss
  ha:m.a.c=ps.length
  hb:m.b.c=ts.length
instance {ps:List Pt} {ts ss:List Z3}:Ci (YC ps ts ss):=⟨λx=>aG (Fr x.m),λx=>[x.m.a.row,x.m.b.row,x.m.c.row],λx y hy=>Rp hy⟩
theorem Ah.ofMZc {S:Nat->Prop} {W w:World} {e:Ending} {ps:List Pt} {ts ss:List Z3} (h:Ah (YC ps ts ss) S W e w):Ah (MZ ps ts ss) S W e w:=by
  obtain ⟨a,h1,h2,h3⟩:=h
  exact ⟨a.m,h1,h2,λy hy=>h3 y hy⟩
theorem WV {S:Nat->Prop} {W w:World} {L:List As} {ps:List Pt} {ts ss:List Z3} (hw:BB ⟨W,none⟩ w L) (i j k:Nat) {p1 p2 p3:Option Addr} {T1 T3 n1 n2 n3 c1 c3:Nat}
    (h1:L[i]?=some (rowW p1 T1 10 n1 c1 (rowsL BC ps))) (h2:L[j]?=some (AF p2 (rowsL Ad ts))) (h3:L[k]?=some (rowW p3 T3 3 n3 c3 (rowsL Ad ss))) (o1:OwnOk p1 n1 c1) (o2:Ak p2 n2 n2) (b2:∀b,p2.map (·.block)=some b->W.heap.size<=b) (o3:OwnOk p3 n3 c3) (e1:n1=ps.length) (e2:n2=ts.length) (e3:n3=ss.length)
    {v:Value} (hv:v=aG [.slice p1 n1 n1,.slice p2 n2 n2,.slice p3 n3 n3]):Ah (YC ps ts ss) S W (.returned v) w:=by
  subst e1;subst e2;subst e3
  refine ⟨⟨⟨⟨p1,ps.length,o1.clip⟩,⟨p2,ts.length,o2⟩,⟨p3,ss.length,o3.clip⟩⟩,rfl,rfl⟩,by rw [hv];rfl,hw.out,λy hy=>?_⟩
  have hy:y∈[AF p1 (rowsL BC ps),AF p2 (rowsL Ad ts),AF p3 (rowsL Ad ss)]:=hy
  simp only [List.mem_cons,List.not_mem_nil,or_false] at hy
  rcases hy with rfl|rfl|rfl
  · exact DC hw i h1 o1 (Ab Bk _)
  · exact ⟨hw.holds h2,λb e=>.inl (b2 b e)⟩
  · exact DC hw k h3 o3 (Ab Au _)
structure ZY (ps:List Pt) (ts ss:List Z3) (l:List Nat) (e:Nat) where
  x:YC ps ts ss
  q:CX (inL l) l.length
instance {ps:List Pt} {ts ss:List Z3} {l:List Nat} {e:Nat}:Ci (ZY ps ts ss l e):=⟨λr=>.tuple #[aG (Fr r.x.m),.slice r.q.p l.length l.length,vN e],λr=>[r.x.m.a.row,r.x.m.b.row,r.x.m.c.row,AF r.q.p (inL l)],λr y hy=>by
  rcases List.mem_append.1 (show y∈[r.x.m.a.row,r.x.m.b.row,r.x.m.c.row]++[AF r.q.p (inL l)] from hy) with hy|hy
  · exact Rp hy
  · rcases List.mem_singleton.1 hy with rfl;rfl⟩
structure Zs (ps:List Pt) (ts ss:List Z3) (l:List Nat) (e:Nat) where
  x:In ps ts ss
  q:RX (inL l) l.length
instance {ps:List Pt} {ts ss:List Z3} {l:List Nat} {e:Nat}:Ci (Zs ps ts ss l e):=⟨λr=>.tuple #[aG (E1 r.x),r.q.val,vN e],λr=>r.q.row::([r.x.a.row,r.x.b.row,r.x.c.row]++Db r.x.rs),λr y hy=>by
  rcases List.mem_cons.1 hy with rfl|hy
  · rfl
  · exact Vy hy⟩
section
variable {N M i j a b:Nat} {ts:List T3}
end
end
end Go.Proofs.YtpolhpjiahbidaaGreatDoor
