import Derived.Test.YtfbomiejpbchdaaGreatPart06
import Derived.Test.YtfbomiejpbchdaaGreatPart14
import Derived.Test.YtfbomiejpbchdaaGreatPart22
import Derived.Test.YtfbomiejpbchdaaGreatPart30
import Derived.Test.YtfbomiejpbchdaaGreatPart31
import Derived.Test.YtfbomiejpbchdaaGreatPart32
namespace Go.Proofs.YtfbomiejpbchdaaGreat
open Go Go.RowKit Go.Proofs.Tryz
set_option linter.unusedVariables false
set_option linter.unusedSimpArgs false
section
set_option maxRecDepth 100000
theorem HY:KE prog 112 Dv JU:=Qs QR (by decide +kernel) (by kernel_rfl) (by kernel_rfl) underlying112 underlying3 (by kernel_rfl) (by kernel_rfl) (by kernel_rfl)
theorem LQ (x0:Pt):Instr.fill (λi=>some (i*10,10)) ((Array.range (1*10)).map ((Value.agg (Aj (⟨0,0⟩:Pt)).toArray).cells[·%(Value.agg (Aj (⟨0,0⟩:Pt)).toArray).cells.size]!)) [(0,.agg (Aj x0).toArray)]=some (Aj x0).toArray:=by kernel_rfl
set_option maxHeartbeats 8000000 in
theorem Rh {ps:List Pt} {ts ss:List T3} (x:MX ps ts ss) (es:List E4) (o:RX (rowsL B9 es) es.length) (us:List T3) (y:RX (rowsL An us) us.length) (hes:∀e∈es,e.a<ps.length/\e.b<ps.length) (hu:CN (ps.length+es.length) us=true) (hz:∀i,B5 (cor ps i)<=1000000) (hp:ps.length<=1000000) (hel:es.length<=1000000) (hul:us.length<=1000000) (hsl:ss.length<=1000000) (w:World) {S:Nat->Prop} (hx:Ro S w x) (ho:Ro S w o) (hy:Ro S w y):Calls prog 48 #[(aG (Bk x)),(Value.slice o.p es.length o.c),(Value.slice y.p us.length y.c)] w (Bb (MX (Dn ps es) us (IA ps.length ss es us)) S w):=by
 have lx:=EA (W:=w) hx
 have lo:=EA (W:=w) ho
 have ly:=EA (W:=w) hy
 refine BF (args:=[(aG (Bk x)),(Value.slice o.p es.length o.c),(Value.slice y.p us.length y.c)]) (L:=[AZ x.a.p (rowsL Aj ps),AZ x.b.p (rowsL An ts),AZ x.c.p (rowsL An ss),AZ o.p (rowsL B9 es),AZ y.p (rowsL An us)]) func48 O O (Ab O) (EB hx (EB ho (EB hy BR))) (AF.subF (sL [0,1,2] O) (q4 (Bo (cs:=Bk x) O λb1=>al Le O λb2=>q3 (sL [1,2,3,6] O) ?_)))
 refine AE.makeMap Dv vN (AM O) O λb3=>?_
 rw [show ([]:List (P2×Nat))=FN ps.length ss 0 from rfl]
 refine AO O (q6 (sL [1,2,3,6,7] O) (q4 (AI (v:=(pP b1 2)) (AA O underlying31 O sizeOf29 O) O (BK 2 (Value.slice x.c.p ss.length x.c.c) OA O (AI (v:=(vN ss.length)) (AG O underlying29) O ?_)))))
 refine AI (Br (c:=(((ss.length:Nat):Int)-1-((0:Nat):Int))) O O (by rw [BL Z Z];omega)) O (AO O (AE.nil (AC.subF (sL [1,2,3,6,7,8] O) (AC.then_ (AF.block ?_)))))
 refine AF.lp1 (tg λ(k:Nat)=>k<=ss.length) (tg λ(k:Nat)=>[(1,(Value.slice o.p es.length o.c)),(2,(Value.slice y.p us.length y.c)),(3,(pP b1 0)),(6,(pP b2 0)),(7,(Value.map (some b3))),(8,(vI (((ss.length:Nat):Int)-1-((k:Nat):Int))))]) (tg λ(k:Nat)=>[CD b3 Dv vN (FN ps.length ss k),Af b2 31 ([(Value.slice none 0 0),(Value.slice none 0 0),(Value.slice none 0 0)]),Af b1 31 (Bk x),AZ x.a.p (rowsL Aj ps),AZ x.b.p (rowsL An ts),AZ x.c.p (rowsL An ss),AZ o.p (rowsL B9 es),AZ y.p (rowsL An us)]) (tg λ(k:Nat)=>ss.length-k) 0 (Nat.zero_le _) (sF O) sr (λk hJ=>?_)
 have hk:=hJ
 refine AF.seq (q4 (AR O (AI (DD (c:=(decide ((0:Int)<=(((ss.length:Nat):Int)-1-((k:Nat):Int))))) O O O) O (AE.nil (AC.subF (sL [1,2,3,6,7,8,23] O) ?_)))))
 refine AC.then_ ?_
 refine AF.cond O (λhc0=>?_) (λhc0=>?_)
 ·replace hc0:=of_decide_eq_true hc0
  obtain ⟨sd,hsd⟩:∃q,q=ss.getD (ss.length-1-k) (0,0,0):=⟨_,rfl⟩
  refine AF.skip (q1 (AF.block (q4 (AI (v:=(pP b1 2)) (AA O underlying31 O sizeOf29 O) O (BK 2 (Value.slice x.c.p ss.length x.c.c) OA O ?_)))))
  refine AR O (AE.retell (k:=28) (u:=(vN (ss.length-1-k))) O (by show Value.int _ _=Value.int _ _;congr 1;omega) (AI (v:=(pP (pB x.c.p) (pO x.c.p+(ss.length-1-k)*3))) (AQ (j:=ss.length-1-k) O O x.c.ok underlying29 sizeOf44 O Z) O (AI (v:=(aG (An (ss.getD (ss.length-1-k) ((0,0,0):Nat×Nat×Nat))))) (AW (vs:=An (ss.getD (ss.length-1-k) ((0,0,0):Nat×Nat×Nat))) (i:=5) O O (BQ.ne x.c.ok Z) UR (Aw Ar _ _ _ Z) (Ar _)) O (AE.retell (k:=30) (u:=(aG (An sd))) O (by rw [hsd]) (al X3 O λb4=>?_)))))
  refine Aq O sizeOf44 O (q3 (sL [1,2,3,6,7,8,9] O) (A6 3 C9 O (AI (v:=(pP b4 0)) (AA O underlying44 O sizeOf3 O) O (BK 0 (vN sd.1) Bm O (Ew call117 (λw hw=>HQ x sd.1 w (DB hw 4 O lx)) O ?_)))))
  refine AR O ?_
  refine AE.mid (FM:=[(1,(Value.slice o.p es.length o.c)),(2,(Value.slice y.p us.length y.c)),(3,(pP b1 0)),(6,(pP b2 0)),(7,(Value.map (some b3))),(8,(vI (((ss.length:Nat):Int)-1-((k:Nat):Int)))),(9,(pP b4 0)),(31,(aG (Bk x))),(32,(pP b4 0)),(33,(vN sd.1)),(34,(Value.bool (decide (sd.1<ps.length)))),(35,(Value.bool (decide (sd.1<ps.length)))),(40,(Value.bool ((decide (sd.1<ps.length))&&(decide (sd.2.1<ps.length)))))]) (LM:=[Af b4 44 (An sd),CD b3 Dv vN (FN ps.length ss k),Af b2 31 ([(Value.slice none 0 0),(Value.slice none 0 0),(Value.slice none 0 0)]),Af b1 31 (Bk x),AZ x.a.p (rowsL Aj ps),AZ x.b.p (rowsL An ts),AZ x.c.p (rowsL An ss),AZ o.p (rowsL B9 es),AZ y.p (rowsL An us)]) 5 ?_ ?_
  ·rcases Bool.eq_false_or_eq_true (decide (sd.1<ps.length)) with hg1|hg1
   ·skip
    refine AE.retell (k:=35) (u:=Value.bool true) O (by rw [hg1]) ?_
    have hg1':=hg1
    replace hg1':=of_decide_eq_true hg1'
    exact AE.step (v:=(aG (Bk x))) (AB O) (Ac (i:=3) (vs:=Bk x) O O C9.a C9.s O O) O (Ab O) (AE.step (v:=(pP b4 1)) (AB O) (AA O underlying44 O sizeOf3 O) O (Ab O) (AE.step (v:=(vN sd.2.1)) (AB O) (AK (i:=0) (v:=(vN sd.2.1)) O O Bm.a O) O (Ab O) (AE.call (v:=(Value.bool (decide (sd.2.1<ps.length)))) (AB O) (A8 (args:=[(aG (Bk x)),(vN sd.2.1)]) O O call117) (λw hw=>HQ x sd.2.1 w (DB hw 4 O lx)) O (Ab O) (AI (v:=(Value.bool (decide (sd.2.1<ps.length)))) (Ah O O) O (AE.nil (AC.mid (sS O (sS O (sS O (sS O (sS O (sS O (sS O (sS O (sS O (sS O (sS O (sS (by first|rfl|(rw [hg1];rfl)|rw [hg1]) (sS (by first|rfl|(rw [hg1];rfl)|rw [hg1]) (sN)))))))))))))) (List.Sublist.refl _)))))))
   ·skip
    refine AE.retell (k:=35) (u:=Value.bool false) O (by rw [hg1]) ?_
    have hg1':=hg1
    replace hg1':=of_decide_eq_false hg1'
    exact AE.skip (AL O) O (Ab O) (AE.skip (AL O) O (Ab O) (AE.skip (AL O) O (Ab O) (AE.skip (AL O) O (Ab O) (AI (v:=(Value.bool false)) (AS O O) O (AE.nil (AC.mid (sS O (sS O (sS O (sS O (sS O (sS O (sS O (sS O (sS O (sS O (sS O (sS (by first|rfl|(rw [hg1];rfl)|rw [hg1]) (sS (by first|rfl|(rw [hg1];rfl)|rw [hg1]) (sN)))))))))))))) (List.Sublist.refl _)))))))
  refine AE.nil (AC.subF (sL [1,2,3,6,7,8,9,40] O) (AC.then_ ?_))
  refine AF.cond O (λhc1=>?_) (λhc1=>?_)
  ·simp only [Bool.and_eq_true,Bool.or_eq_true,Bool.and_eq_false_iff,Bool.or_eq_false_iff,Bool.not_eq_true',Bool.not_eq_false',decide_eq_true_eq,decide_eq_false_iff_not] at hc1
   refine Cu [(0,true),(1,true),(2,true),(3,true),(4,true),(6,true),(7,true),(5,false),(8,false)] (sk (sl sr)) (Bf O (Ax (v:=(pP b4 0)) O (AA O underlying44 O sizeOf3 O) (Bj 0 (vN sd.1) Bm O (Ax (v:=(pP b4 1)) O (AA O underlying44 O sizeOf3 O) (Bj 0 (vN sd.2.1) Bm O ?_)))))
   refine Ax (v:=(pP b4 2)) O (AA O underlying44 O sizeOf3 O) (Bj 0 (vN sd.2.2) Bm O (AV.imp O (BW call47 (LH sd.1 sd.2.1) O (AV.back (sk (sl sr)) (AV.imp O ?_)))))
   refine AE.mapUpdate HY 1 (kvs:=FN ps.length ss k) (x:=(min sd.1 sd.2.1,max sd.1 sd.2.1)) (y:=sd.2.2) (AM O) O O O underlying108 O (Jh Z _) (Bn Z Z) ?_
   rw [show BU (FN ps.length ss k) (min sd.1 sd.2.1,max sd.1 sd.2.1) sd.2.2=FN ps.length ss (k+1) from by rw [hsd];exact N2 (by rw [<-hsd];exact hc1)]
   refine AV.back (sk (sl sr)) (AV.nil (AC.subF (sL [1,2,3,6,7,8,9] O) (AC.in_normal (AC.then_ (AF.region ?_)))))
   exact AR O (AI (Br (c:=(((ss.length:Nat):Int)-1-((k+1:Nat):Int))) O O (by rw [BL Z Z];omega)) O (AO O (AE.nil (AC.subF (sL [1,2,3,6,7,8,9] O) (AC.round1 (k+1) Z Z (sF O) (sl sr))))))
  ·simp only [Bool.and_eq_true,Bool.or_eq_true,Bool.and_eq_false_iff,Bool.or_eq_false_iff,Bool.not_eq_true',Bool.not_eq_false',decide_eq_true_eq,decide_eq_false_iff_not] at hc1
   refine AF.skip (AC.in_normal (AC.then_ (AF.region (AR O (AI (Br (c:=(((ss.length:Nat):Int)-1-((k+1:Nat):Int))) O O (by rw [BL Z Z];omega)) O ?_)))))
   refine AO O (AE.nil (AC.subF (sL [1,2,3,6,7,8,9] O) ?_))
   rw [show FN ps.length ss k=FN ps.length ss (k+1) from Vs (by rw [<-hsd];intro hh;rcases hc1 with h9|h9;exact h9 hh.1;exact h9 hh.2)]
   exact AC.round1 (k+1) Z Z (sF O) (sl sr)
 ·replace hc0:=of_decide_eq_false hc0
  have hk2:k=ss.length:=by omega
  rw [show FN ps.length ss k=Dt ps.length ss es 0 by rw [hk2];rfl]
  refine AF.exit (AC.then_exit (AC.round1_exit (AC.in_exit (q2 (AI (v:=(pP b1 0)) (AA O underlying31 O sizeOf27 O) O ?_)))))
  refine BK 2 (Value.slice x.a.p ps.length x.a.c) Du O (AE.callL (S:=S) (V:=ZV) (LW:=XU (T:=55) (z:=10) (cs:=rowsL Aj ps) (n:=ps.length)) (args:=[(Value.slice x.a.p ps.length x.a.c)]) call118 (λw hw=>Me ps x.a Z w (Zd (DB hw 3 O lx))) O λcl1 hcl1=>AR O (AE.callL (S:=S) (V:=ZV) (LW:=XU (T:=76) (z:=3) (cs:=rowsL An us) (n:=us.length)) (args:=[(Value.slice y.p us.length y.c)]) call120 (λw hw=>RJ us y Z w (DB hw 8 O ly)) O λcl2 hcl2=>BW call119 (UK cl2.p us.length cl2.c cl2.ok.row.le) O (AI (v:=(aG ([(Value.slice cl1.p ps.length cl1.c),(Value.slice cl2.p us.length us.length),(Value.slice none 0 0)]))) (Ad (zs:=[(Value.slice none 0 0),(Value.slice none 0 0),(Value.slice none 0 0)]) (vs:=[(Value.slice cl1.p ps.length cl1.c),(Value.slice cl2.p us.length us.length),(Value.slice none 0 0)]) (pv:=[(0,(Value.slice cl1.p ps.length cl1.c)),(1,(Value.slice cl2.p us.length us.length))]) (places:=[(0,1),(1,1),(2,1)]) zeroValue31 underlying31 (λw=>by simp [sizeOf27,sizeOf28,sizeOf29]) O O) O ?_)))
  refine al Le O λb4=>Aq O sizeOf31 O (q6 (sL [1,2,3,6,7,8,10] O) (q4 (AR O (AI (v:=(vN es.length)) (AG O underlying37) O ?_))))
  refine AR O (AE.nil (AC.then_ (AF.block ?_)))
  refine AF.lp3 (tg λ(i:Nat) (p1:Option Addr) (c1:Nat)=>i<=es.length/\OwnOk p1 (ps.length+i) c1) (tg λ(i:Nat) (p1:Option Addr) (c1:Nat)=>[(3,(pP b1 0)),(6,(pP b2 0)),(7,(Value.map (some b3))),(10,(pP b4 0)),(56,(Value.slice o.p es.length o.c)),(57,(vN es.length)),(58,(vN i))]) (tg λ(i:Nat) (p1:Option Addr) (c1:Nat)=>[Af b4 31 ([(Value.slice p1 (ps.length+i) c1),(Value.slice cl2.p us.length us.length),(Value.slice none 0 0)]),rowW cl2.p 76 3 us.length cl2.c (rowsL An us),rowW p1 55 10 (ps.length+i) c1 (rowsL Aj (Iv ps es i)),CD b3 Dv vN (Dt ps.length ss es i),Af b2 31 ([(Value.slice none 0 0),(Value.slice none 0 0),(Value.slice none 0 0)]),Af b1 31 (Bk x),AZ x.a.p (rowsL Aj ps),AZ x.b.p (rowsL An ts),AZ x.c.p (rowsL An ss),AZ o.p (rowsL B9 es),AZ y.p (rowsL An us)]) (tg λ(i:Nat) (p1:Option Addr) (c1:Nat)=>es.length-i) 0 cl1.p cl1.c (⟨Nat.zero_le _,cl1.ok⟩) (sF O) sr (λi p1 c1 hJ=>?_)
  obtain ⟨hi,ho⟩:=hJ
  refine q4 (AI (Am (c:=(decide (i<es.length))) O O (C6 (a:=i) (b:=es.length))) O (AE.nil (q1 ?_)))
  refine AF.cond O (λhc2=>?_) (λhc2=>?_)
  ·replace hc2:=of_decide_eq_true hc2
   obtain ⟨ed,hed⟩:∃q,q=es.getD i (⟨0,0,0,0⟩:E4):=⟨_,rfl⟩
   obtain ⟨hea,heb⟩:=hes ed (by rw [hed,List.getD,List.getElem?_eq_getElem hc2];exact List.getElem_mem hc2)
   refine AF.skip (q1 (AF.block (q4 (AI (v:=(pP (pB o.p) (pO o.p+i*4))) (AQ (j:=i) O O o.ok underlying37 sizeOf110 O Z) O (AI (v:=(aG (B9 (es.getD i (⟨0,0,0,0⟩:E4))))) (AW (vs:=B9 (es.getD i (⟨0,0,0,0⟩:E4))) (i:=9) O O (BQ.ne o.ok Z) IC (Aw Cn _ _ _ Z) (Cn _)) O ?_)))))
   refine AE.retell (k:=61) (u:=(aG (B9 ed))) O (by rw [hed]) (al JK O λb5=>Aq O sizeOf110 O (q6 (sL [3,6,7,10,56,57,58,12] O) (q4 (A6 6 C9 O ?_))))
   refine AI (v:=(pP b5 0)) (AA O underlying110 O sizeOf3 O) O (BK 0 (vN ed.a) Bm O (Ew (args:=[(aG (Bk x)),(vN ed.a)]) (v:=(Value.bool true)) call117 (λw hw=>(by have h9:=HQ x ed.a w (DB hw 7 O lx);rw [decide_eq_true Z] at h9;exact h9)) O (AI (Bg (c:=false) O O) O (AR O (AE.step (v:=(aG (Bk x))) (AB O) (Ac (i:=6) (vs:=Bk x) O O C9.a C9.s O O) O (Ab O) ?_)))))
   refine AE.step (v:=(pP b5 1)) (AB O) (AA O underlying110 O sizeOf3 O) O (Ab O) (AE.step (v:=(vN ed.b)) (AB O) (AK (i:=0) (v:=(vN ed.b)) O O Bm.a O) O (Ab O) (AE.call (v:=(Value.bool true)) (AB O) (A8 (args:=[(aG (Bk x)),(vN ed.b)]) O O call117) (λw hw=>(by have h9:=HQ x ed.b w (DB hw 7 O lx);rw [decide_eq_true Z] at h9;exact h9)) O (Ab O) (AE.step (v:=(Value.bool false)) (AB O) (Bg (c:=false) O O) O (Ab O) (AI (v:=(Value.bool false)) (AS O O) O (AE.nil ?_)))))
   refine AC.subF (sL [3,6,7,10,56,57,58,12,73] O) (AC.then_ (AF.cond_false O (AF.skip (q2 (AI (v:=(pP b4 0)) (AA O underlying31 O sizeOf27 O) O ?_)))))
   refine BK 1 (Value.slice p1 (ps.length+i) c1) Du O (AI (v:=(vN (ps.length+i))) (AG O underlying27) O (AO O (q6 (sL [3,6,7,10,56,57,58,12,13] O) (rC [(0,true),(1,true),(2,true),(3,true),(4,true),(5,true),(6,true),(7,true),(8,true),(9,true),(10,true),(11,true),(12,true),(13,true),(14,false),(15,false),(16,false),(17,true)] 18 [] (sk (sk (sk (sl sr)))) (sk (sl sr)) (by kernel_rfl) (λ_ _ d _ _ h=>by cases d<;>exact h) (vE (v:=(pP b4 0)) O (AA O underlying31 O sizeOf27 O) O ?_)))))
   refine vE O (AK (i:=1) (v:=(Value.slice p1 (ps.length+i) c1)) O O Du.a O) O (vE (v:=(pP b1 0)) O (AA O underlying31 O sizeOf27 O) O (vE O (AK (i:=5) (v:=(Value.slice x.a.p ps.length x.a.c)) O O Du.a O) O (vE (v:=(pP b5 0)) O (AA O underlying110 O sizeOf3 O) O (vE O (AK (i:=0) (v:=(vN ed.a)) O O Bm.a O) O (vE (v:=(pP (pB x.a.p) (pO x.a.p+ed.a*10))) O (AQ (j:=ed.a) O O x.a.ok underlying27 sizeOf55 O Z) O ?_)))))
   refine vE (v:=(aG (Aj (ps.getD ed.a (⟨0,0⟩:Pt))))) O (AW (vs:=Aj (ps.getD ed.a (⟨0,0⟩:Pt))) (i:=6) O O (BQ.ne x.a.ok Z) BG (Aw BT _ _ _ Z) (BT _)) O ?_
   have hz84:B5 (ps.getD ed.a (⟨0,0⟩:Pt))<=1000000:=hz _
   refine vE (v:=(pP b1 0)) O (AA O underlying31 O sizeOf27 O) O (vE O (AK (i:=5) (v:=(Value.slice x.a.p ps.length x.a.c)) O O Du.a O) O (vE (v:=(pP b5 1)) O (AA O underlying110 O sizeOf3 O) O (vE O (AK (i:=0) (v:=(vN ed.b)) O O Bm.a O) O (vE (v:=(pP (pB x.a.p) (pO x.a.p+ed.b*10))) O (AQ (j:=ed.b) O O x.a.ok underlying27 sizeOf55 O Z) O (vE (v:=(aG (Aj (ps.getD ed.b (⟨0,0⟩:Pt))))) O (AW (vs:=Aj (ps.getD ed.b (⟨0,0⟩:Pt))) (i:=6) O O (BQ.ne x.a.ok Z) BG (Aw BT _ _ _ Z) (BT _)) O ?_)))))
   have hz90:B5 (ps.getD ed.b (⟨0,0⟩:Pt))<=1000000:=hz _
   refine Bu.imp O ?_
   have hz1:=Na (ps.getD ed.a (⟨0,0⟩:Pt)) (ps.getD ed.b (⟨0,0⟩:Pt))
   have hz2:=Id ((ps.getD ed.a (⟨0,0⟩:Pt))+(ps.getD ed.b (⟨0,0⟩:Pt))) (1/2)
   refine BW call121 (WN (ps.getD ed.a (⟨0,0⟩:Pt)) (ps.getD ed.b (⟨0,0⟩:Pt)) Z) O (Bu.back (sk (sk (sk (sl sr)))) (Bu.imp O (AE.openV (V:=λb6=>(Value.slice (some ⟨b6,0,none⟩) 1 1)) (T:=55) (cs:=Aj (Cb ((ps.getD ed.a (⟨0,0⟩:Pt))+(ps.getD ed.b (⟨0,0⟩:Pt))) (1/2))) (AM O) (Ap (z:=.agg (Aj (⟨0,0⟩:Pt)).toArray) (cs:=Aj (Cb ((ps.getD ed.a (⟨0,0⟩:Pt))+(ps.getD ed.b (⟨0,0⟩:Pt))) (1/2))) (pv:=[(0,(aG (Aj (Cb ((ps.getD ed.a (⟨0,0⟩:Pt))+(ps.getD ed.b (⟨0,0⟩:Pt))) (1/2)))))]) underlying27 sizeOf55 zeroValue55 (by decide) (by decide) O (LQ (Cb ((ps.getD ed.a (⟨0,0⟩:Pt))+(ps.getD ed.b (⟨0,0⟩:Pt))) (1/2)))) O (Ab O) λb6=>Bu.back (sl (sk (sk (sk (sl sr))))) (Bu.imp O ?_))))
   refine AE.appendAt 4 (j:=0) (cs2:=rowsL Aj ((Iv ps es i)++[Cb ((ps.getD ed.a (⟨0,0⟩:Pt))+(ps.getD ed.b (⟨0,0⟩:Pt))) (1/2)])) X9 O ho (by rw [Al BT,H8]) O O O O O (by decide) (Gt Z) Z (by rw [BN];rfl) O λp_1 c_1 ho_1 hne_1=>Bu.back (sl (sk (sk (sk (sl sr))))) (vE (v:=(pP b4 0)) O (AA O underlying31 O sizeOf27 O) O (Bu.cut O (Eu 2 (off:=0) (vs:=[(Value.slice p_1 ((ps.length+i)+1) c_1)]) (cs':=[(Value.slice p_1 ((ps.length+i)+1) c_1),(Value.slice cl2.p us.length us.length),(Value.slice none 0 0)]) (AM O) O sizeOf27 O (AV.back (sl (sk (sl (sk (sl sr))))) ?_))))
   refine AV.nil (AC.subF (sL [3,6,7,10,56,57,58,12,13] O) (q2 (AR O (AI (v:=(pP b5 0)) (AA O underlying110 O sizeOf3 O) O (BK 1 (vN ed.a) Bm O ?_)))))
   refine AI (v:=(pP b5 1)) (AA O underlying110 O sizeOf3 O) O (BK 1 (vN ed.b) Bm O (BW call47 (LH ed.a ed.b) O (AI (v:=(vN ((Ae (Dt ps.length ss es i) (min ed.a ed.b,max ed.a ed.b)).getD 0))) (Ce HY 5 (eV:=vN) (kvs:=Dt ps.length ss es i) (x:=(min ed.a ed.b,max ed.a ed.b)) (z0:=0) (co:=false) O O underlying108 zeroValue3 O (IX hes Z _ Z) (Bn Z Z)) O (AO O (AE.nil ?_)))))
   refine AC.subF (sL [3,6,7,10,56,57,58,12,13,14] O) (AC.then_ (Cu [(0,true),(1,true),(2,true),(3,true),(5,true),(6,true),(7,true),(8,true),(10,true),(11,true),(4,false),(9,false),(12,false),(13,true),(14,false),(15,false)] (sk (sk (sk (sk (sk (sl sr)))))) (Bf O (Ax (v:=(pP b5 0)) O (AA O underlying110 O sizeOf3 O) (Bj 1 (vN ed.a) Bm O ?_)))))
   refine Bf O (Bf O (Ax (v:=(pP b5 1)) O (AA O underlying110 O sizeOf3 O) (Bj 1 (vN ed.b) Bm O (Bf O (Bf O ?_)))))
   refine Bf O (AV.imp O (BW call47 (LH ed.a (ps.length+i)) O (AV.back (sk (sk (sk (sk (sk (sl sr)))))) (AV.imp O (BW call47 (LH ed.b (ps.length+i)) O ?_)))))
   refine AV.back (sk (sk (sk (sk (sk (sl sr)))))) (AV.imp O (AE.mapEntry HY 5 (kvs:=Dt ps.length ss es i) (x:=(min ed.a (ps.length+i),max ed.a (ps.length+i))) (z0:=0) (v:=((Ae (Dt ps.length ss es i) (min ed.a (ps.length+i),max ed.a (ps.length+i))).getD 0)) O O underlying108 zeroValue3 O (IX hes Z _ Z) (Bn Z Z) O O (AV.back (sk (sk (sk (sk (sk (sl sr)))))) (Ax O (AU (v:=(vN (C2 (Dt ps.length ss es i) (min ed.a (ps.length+i),max ed.a (ps.length+i))))) O O) (AV.imp O ?_)))))
   refine AE.entryStore 5 (kvs:=Dt ps.length ss es i) (x:=(min ed.a (ps.length+i),max ed.a (ps.length+i))) (u:=((Ae (Dt ps.length ss es i) (min ed.a (ps.length+i),max ed.a (ps.length+i))).getD 0)) (y:=(Ae (Dt ps.length ss es i) (min ed.a ed.b,max ed.a ed.b)).getD 0) O O O O (AV.back (sk (sk (sk (sk (sk (sl sr)))))) (AV.imp O (AE.mapUpdate HY 5 (kvs:=BU (Dt ps.length ss es i) (min ed.a (ps.length+i),max ed.a (ps.length+i)) ((Ae (Dt ps.length ss es i) (min ed.a ed.b,max ed.a ed.b)).getD 0)) (x:=(min ed.b (ps.length+i),max ed.b (ps.length+i))) (y:=(Ae (Dt ps.length ss es i) (min ed.a ed.b,max ed.a ed.b)).getD 0) (AM O) O O O underlying108 O ((IX hes Z _ Z).put (Bn Z Z)) (Bn Z Z) ?_)))
   rw [show BU (BU (Dt ps.length ss es i) (min ed.a (ps.length+i),max ed.a (ps.length+i)) ((Ae (Dt ps.length ss es i) (min ed.a ed.b,max ed.a ed.b)).getD 0)) (min ed.b (ps.length+i),max ed.b (ps.length+i)) ((Ae (Dt ps.length ss es i) (min ed.a ed.b,max ed.a ed.b)).getD 0)=Dt ps.length ss es (i+1) from by rw [hed];rfl]
   refine AV.back (sk (sk (sk (sk (sk (sl sr)))))) (AV.nil (AC.subF (sL [3,6,7,10,56,57,58,12] O) (AC.in_normal (AC.then_ (AF.region ?_)))))
   refine AI (AY (c:=((i+1:Nat):Int)) O O (AX (a:=i) (b:=1) Z)) O (AR O (AE.nil (AC.subF (sL [3,6,7,10,56,57,58,12] O) ?_)))
   rw [hed,show Iv ps es i++[Cb (ps.getD (es.getD i (⟨0,0,0,0⟩:E4)).a (⟨0,0⟩:Pt)+ps.getD (es.getD i (⟨0,0,0,0⟩:E4)).b (⟨0,0⟩:Pt)) (1/2)]=Iv ps es (i+1) from rfl]
   exact AC.round3 (i+1) p_1 c_1 (⟨Z,ho_1⟩) Z (sF O) (sl (sl sr))
  ·replace hc2:=of_decide_eq_false hc2
   have hie:i=es.length:=by omega
   have hrl:(B0 us).length<=3*us.length:=by have h1:=Ks (ts:=us) (Bq us).length;have h2:=IN (ts:=us) (3*us.length);rw [<-H_] at h2;exact Nat.le_trans h1 h2
   refine AF.exit (AC.then_exit (AC.round3_exit (AC.in_exit (q2 (AI (v:=(pP b4 0)) (AA O underlying31 O sizeOf27 O) O ?_)))))
   refine BK 0 (Value.slice p1 (ps.length+i) c1) Du O (BW call122 (S4 p1 (ps.length+i) c1 ho.row.le) O (AI (v:=(pP b4 0)) (AA O underlying31 O sizeOf27 O) O (Eu 0 (off:=0) (vs:=[(Value.slice p1 (ps.length+i) (ps.length+i))]) (cs':=[(Value.slice p1 (ps.length+i) (ps.length+i)),(Value.slice cl2.p us.length us.length),(Value.slice none 0 0)]) (AM O) O sizeOf27 O (q3 (sL [3,6,7,10,56,57,58] O) (AI (v:=(pP b4 0)) (AA O underlying31 O sizeOf27 O) O ?_)))))
   refine BK 0 (Value.slice p1 (ps.length+i) (ps.length+i)) Du O (AI (v:=(pP b4 1)) (AA O underlying31 O sizeOf28 O) O (BK 0 (Value.slice cl2.p us.length us.length) CR O (AE.frzRow 1 O cl2.ok (Al Ar _) O O λhn_cl2=>AE.callL (S:=S) (V:=Z2) (LW:=XU (T:=44) (z:=3) (cs:=rowsL An (B0 us)) (n:=(B0 us).length)) (args:=[(Value.slice p1 (ps.length+i) (ps.length+i)),(Value.slice cl2.p us.length us.length)]) call123 (λw hw=>UL us ⟨cl2.p,us.length,cl2.ok.clip⟩ p1 (ps.length+i) (ps.length+i) (by rw [hie];exact hu) Z Z w (DB hw 1 O (At.new hn_cl2))) O λrm hrm=>AI (v:=(pP b4 2)) (AA O underlying31 O sizeOf29 O) O ?_)))
   refine Eu 1 (off:=2) (vs:=[(Value.slice rm.p ((B0 us).length) ((B0 us).length))]) (cs':=[(Value.slice p1 (ps.length+i) (ps.length+i)),(Value.slice cl2.p us.length us.length),(Value.slice rm.p ((B0 us).length) ((B0 us).length))]) (AM O) O sizeOf29 O (q6 (sL [3,6,7,10,56,57,58] O) (q4 (AI (v:=(pP b4 2)) (AA O underlying31 O sizeOf29 O) O (BK 1 (Value.slice rm.p ((B0 us).length) ((B0 us).length)) OA O (AI (v:=(vN ((B0 us).length))) (AG O underlying29) O ?_)))))
   refine AR O (AE.nil (AC.subF (sL [3,6,7,10,56,57,58,128,129,130] O) (AC.then_ (AF.block ?_))))
   refine AF.lp1 (tg λ(j:Nat)=>j<=(B0 us).length) (tg λ(j:Nat)=>[(6,(pP b2 0)),(7,(Value.map (some b3))),(10,(pP b4 0)),(128,(Value.slice rm.p ((B0 us).length) ((B0 us).length))),(129,(vN ((B0 us).length))),(130,(vN j))]) (tg λ(j:Nat)=>[rowW rm.p 44 3 ((B0 us).length) rm.c (rowsL An (F3 ps.length ss es (B0 us) j)),Af b4 31 ([(Value.slice p1 (ps.length+i) (ps.length+i)),(Value.slice cl2.p us.length us.length),(Value.slice rm.p ((B0 us).length) ((B0 us).length))]),AZ cl2.p (rowsL An us),rowW p1 55 10 (ps.length+i) c1 (rowsL Aj (Iv ps es i)),CD b3 Dv vN (Dt ps.length ss es i),Af b2 31 ([(Value.slice none 0 0),(Value.slice none 0 0),(Value.slice none 0 0)]),Af b1 31 (Bk x),AZ x.a.p (rowsL Aj ps),AZ x.b.p (rowsL An ts),AZ x.c.p (rowsL An ss),AZ o.p (rowsL B9 es),AZ y.p (rowsL An us)]) (tg λ(j:Nat)=>(B0 us).length-j) 0 (Nat.zero_le _) (sF O) sr (λj hJ=>?_)
   have hj:=hJ
   refine q4 (AI (Am (c:=(decide (j<((B0 us).length)))) O O (C6 (a:=j) (b:=(B0 us).length))) O (AE.nil (q1 ?_)))
   refine AF.cond O (λhc4=>?_) (λhc4=>?_)
   ·replace hc4:=of_decide_eq_true hc4
    obtain ⟨sd2,hsd2⟩:∃q,q=(B0 us).getD j (0,0,0):=⟨_,rfl⟩
    have hml:(F3 ps.length ss es (B0 us) j).length=(B0 us).length:=IY
    obtain ⟨hs1,hs2⟩:=Qh hu Z (show sd2∈B0 us from by rw [hsd2,List.getD,List.getElem?_eq_getElem hc4];exact List.getElem_mem hc4)
    refine AF.skip (q1 (AF.block (q4 (AR O (AI (v:=(pP (pB rm.p) (pO rm.p+j*3))) (AQ (j:=j) O O rm.ok.clip underlying29 sizeOf44 O Z) O ?_)))))
    refine AI (v:=(aG (An ((F3 ps.length ss es (B0 us) j).getD j ((0,0,0):Nat×Nat×Nat))))) (CV (vs:=An ((F3 ps.length ss es (B0 us) j).getD j ((0,0,0):Nat×Nat×Nat))) (i:=0) O O rm.ok (by rw [Al Ar,IY]) (BQ.ne rm.ok.clip Z) UR (Aw Ar _ _ _ Z) (Ar _)) O (AE.retell (k:=134) (u:=(aG (An sd2))) O (by rw [hsd2,OW Z]) (al X3 O λb5=>AO O (Aq O sizeOf44 O (AE.nil ?_))))
    refine AC.subF (sL [6,7,10,128,129,130,16,15] O) (AC.then_ (Cu [(0,true),(1,true),(2,true),(3,true),(4,true),(5,true),(6,true),(7,true),(8,false),(9,true),(10,true),(11,true),(12,false)] (sk (sl sr)) (Ax (v:=(pP b4 2)) O (AA O underlying31 O sizeOf29 O) (Bj 1 (Value.slice rm.p ((B0 us).length) ((B0 us).length)) OA O (Bf O ?_)))))
    refine Bf O (Ax (v:=(pP b5 0)) O (AA O underlying44 O sizeOf3 O) (Bj 0 (vN sd2.1) Bm O (Ax (v:=(pP b5 1)) O (AA O underlying44 O sizeOf3 O) (Bj 0 (vN sd2.2.1) Bm O (AV.imp O ?_)))))
    refine BW call47 (LH sd2.1 sd2.2.1) O (AV.back (sk (sl sr)) (Ax (v:=(vN ((Ae (Dt ps.length ss es i) (min sd2.1 sd2.2.1,max sd2.1 sd2.2.1)).getD 0))) O (Ce HY 4 (eV:=vN) (kvs:=Dt ps.length ss es i) (x:=(min sd2.1 sd2.2.1,max sd2.1 sd2.2.1)) (z0:=0) (co:=false) O O underlying108 zeroValue3 O (IX hes Z _ Z) (Bn Z Z)) (Ax (v:=(pP (pB rm.p) (pO rm.p+j*3))) O (AQ (j:=j) O O rm.ok.clip underlying29 sizeOf44 O Z) (Ax (v:=(pP (pB rm.p) (pO rm.p+(j*3+2)))) O (AA O underlying44 O sizeOf3 (Nat.add_assoc _ _ _)) (AV.imp O ?_)))))
    refine AE.storeObj 1 (enc:=An) (j:=j) (r:=2) (x':=(((F3 ps.length ss es (B0 us) j).getD j ((0,0,0):Nat×Nat×Nat)).1,((F3 ps.length ss es (B0 us) j).getD j ((0,0,0):Nat×Nat×Nat)).2.1,(Ae (Dt ps.length ss es i) (min sd2.1 sd2.2.1,max sd2.1 sd2.2.1)).getD 0)) (vs:=[(vN ((Ae (Dt ps.length ss es i) (min sd2.1 sd2.2.1,max sd2.1 sd2.2.1)).getD 0))]) ((0,0,0):Nat×Nat×Nat) Ar rm.ok IY O O O (BQ.ne rm.ok.clip Z) Z O sizeOf3 O O (AV.back (sk (sl sr)) (AV.nil (AC.subF (sL [6,7,10,128,129,130,16] O) (AC.in_normal (AC.then_ ?_)))))
    refine AF.region (AI (AY (c:=((j+1:Nat):Int)) O O (AX (a:=j) (b:=1) Z)) O (AR O (AE.nil (AC.subF (sL [6,7,10,128,129,130,16] O) ?_))))
    rw [RS Z (by rw [hsd2,hie];rfl)]
    exact AC.round1 (j+1) Z Z (sF O) (sl sr)
   ·replace hc4:=of_decide_eq_false hc4
    refine AF.exit (AC.then_exit (AC.round1_exit (AC.in_exit (q2 (A6 1 C9 O ?_)))))
    exact Eu 5 (off:=0) (vs:=[(Value.slice p1 (ps.length+i) (ps.length+i)),(Value.slice cl2.p us.length us.length),(Value.slice rm.p ((B0 us).length) ((B0 us).length))]) (cs':=[(Value.slice p1 (ps.length+i) (ps.length+i)),(Value.slice cl2.p us.length us.length),(Value.slice rm.p ((B0 us).length) ((B0 us).length))]) (AM O) O sizeOf31 O (AE.nil (AC.subF (sL [6,7,10,128,129,130] O) (AC.then_ (AF.ret (AT O (A7 (i:=5) (cs:=[(Value.slice p1 (ps.length+i) (ps.length+i)),(Value.slice cl2.p us.length us.length),(Value.slice rm.p ((B0 us).length) ((B0 us).length))]) O O isAgg31 sizeOf31 O) (λw hw=>(by rw [show Dn ps es=Iv ps es i from by rw [hie];rfl,show IA ps.length ss es us=F3 ps.length ss es (B0 us) j from by rw [show j=(B0 us).length from by omega,TP];rfl];exact Zb hw 3 2 0 O O O ho cl2.ok.clip hn_cl2 rm.ok (by rw [H8]) O (by rw [IY]) O)))))))
end
section
set_option maxRecDepth 100000
end
section
theorem YY (a b:T3):(((a.1:Int) == (b.1:Int))&&(((a.2.1:Int) == (b.2.1:Int))&&(((a.2.2:Int) == (b.2.2:Int))&&true)))=decide (a=b):=by
  obtain ⟨a1,a2,a3⟩:=a
  obtain ⟨b1,b2,b3⟩:=b
  rw [Bool.eq_iff_iff]
  simp
  constructor<;>(rintro ⟨h1,h2,h3⟩;refine ⟨?_,?_,?_⟩<;>omega)
theorem Yd (D:Nat) (a b:T3):Ft prog (D+2) 76 (.agg (An a).toArray) (.agg (An b).toArray) (decide (a=b)):=by
  rw [<-YY]
  exact Ft.array underlying76 Ou ME (O0.one isAgg3 O O (Ft.int underlying3) (O0.one isAgg3 O O (Ft.int underlying3) (O0.one isAgg3 O O (Ft.int underlying3) O0.nil)))
theorem FJ (D:Nat) {a b:T3} (h:a=b):Ft prog (D+2) 76 (.agg (An a).toArray) (.agg (An b).toArray) true:=by
  have:=Yd D a b;rwa [decide_eq_true h] at this
theorem MW (b n:Nat):BQ (some ⟨b,0,none⟩) n n:=⟨λe=>(by cases e),λa e=>(by injection e with e;subst e;rfl),Nat.le_refl _⟩
theorem US {ps:List Pt} {k:Nat} (h:(ps.all λp=>decide (B5 p<=k))=true) (h0:B5 (⟨0,0⟩:Pt)<=k) (i:Nat):B5 (cor ps i)<=k:=by
  unfold cor
  rcases Nat.lt_or_ge i ps.length with hi|hi
  · rw [List.getD,List.getElem?_eq_getElem hi]
    exact of_decide_eq_true (List.all_eq_true.1 h _ (List.getElem_mem hi))
  · rw [List.getD,List.getElem?_eq_none hi];exact h0
theorem At.mx {w0:BM} {S:Nat->Prop} {ps:List Pt} {ts ss:List T3} {x:MX ps ts ss} (h1:At w0 S x.a) (h2:At w0 S x.b) (h3:At w0 S x.c):At w0 S x:=λy hy b e=>by
  have hy:y∈[x.a.row,x.b.row,x.c.row]:=hy
  simp only [List.mem_cons,List.not_mem_nil,or_false] at hy
  rcases hy with rfl|rfl|rfl
  · exact h1 _ List.mem_cons_self b e
  · exact h2 _ List.mem_cons_self b e
  · exact h3 _ List.mem_cons_self b e
section
variable {P:Program} {ops:Array Oper} {rest:List Oper} {Q:Exit->Act->World->Prop} {n:Nat} {F:List (Nat×Value)} {w0:BM} {S:Nat->Prop} {L:List As} {ps:List Pt} {ts ss:List T3}
theorem TQ {w:World} {i b:Nat} {T:TypeId} {cs:List Value} (hw:Own w0 w L) (hi:L[i]?=some (Af b T cs)) (hex:w0.ex=none):w0.w.heap.size<=b:=by
  rcases (hw.2.1 _ (List.mem_of_getElem? hi) b rfl).1 with h1|h1|h1
  · cases h1
  · exact h1
  · rw [hex] at h1;cases h1
theorem AE.litM2 {b1 b2 U1 U2:Nat} {cs1 cs2:List Value} (LL:MX ps ts []->List As) (i j:Nat) (hn:i≠j) (h1:L[i]?=some (Af b1 U1 cs1)) (h2:L[j]?=some (Af b2 U2 cs2)) (hex:w0.ex=none)
    (e:(cs1,cs2)=(rowsL Aj ps,rowsL An ts))
    (hL:AZ none (rowsL An [])::(L.set i (AZ (some ⟨b1,0,none⟩) cs1)).set j (AZ (some ⟨b2,0,none⟩) cs2)=LL ⟨⟨some ⟨b1,0,none⟩,ps.length,MW _ _⟩,⟨some ⟨b2,0,none⟩,ts.length,MW _ _⟩,⟨none,0,OwnOk.none.row⟩⟩)
    (next:∀mm:MX ps ts [],At w0 S mm->AE P ops rest Q n F w0 (LL mm)):AE P ops rest Q n F w0 L:=λa w ha hw=>by
  have n1:=TQ hw h1 hex
  have n2:=TQ hw h2 hex
  have w1:=hw.freeze (x:=Af b1 U1 cs1) (y:=AZ (some ⟨b1,0,none⟩) cs1) h1 rfl (λo hp=>Io hp) (λe=>by cases e)
  have w2:=w1.freeze (i:=j) (x:=Af b2 U2 cs2) (y:=AZ (some ⟨b2,0,none⟩) cs2) (by rw [List.getElem?_set_ne hn];exact h2) rfl (λo hp=>Io hp) (λe=>by cases e)
  have w3:=w2.addRo (a:=AZ none (rowsL An [])) (FZ.refl _ _) rfl (λb e=>by cases e) (λb e=>by cases e)
  rw [hL] at w3
  refine next _ (λy hy b eb=>?_) a w ha w3
  have hy:y∈[AZ (some ⟨b1,0,none⟩) (rowsL Aj ps),AZ (some ⟨b2,0,none⟩) (rowsL An ts),AZ none (rowsL An [])]:=hy
  simp only [List.mem_cons,List.not_mem_nil,or_false] at hy
  rcases hy with rfl|rfl|rfl
  · injection eb with eb;subst eb;exact .inl (by assumption)
  · injection eb with eb;subst eb;exact .inl (by assumption)
  · cases eb
end
theorem aj {α:Type} [EQ α] {w0:BM} {w:World} {S:Nat->Prop} {L:List As} (hw:Own w0 w L) (is:List Nat) {a:α} (hi:(is.map λi=>L[i]?)=(EQ.rows a).map some) (ha:At w0 S a):Ro (SL w0 S L) w a:=λy hy=>by
  have h1:some y∈(is.map λi=>L[i]?):=by rw [hi];exact List.mem_map.2 ⟨y,hy,rfl⟩
  obtain ⟨i,_,h2⟩:=List.mem_map.1 h1
  have hm:=List.mem_of_getElem? h2
  exact ⟨λb e=>(hw.2.1 y hm b e).2,λb e=>⟨⟨y,hm,EQ.ro a y hy,e⟩,ha y hy b e⟩⟩
end
section
abbrev M3:=List Pt×List T3×List T3
def Zx (M:M3):Prop:=M.1.length+(Bq M.2.1).length<=4096/\4*M.2.1.length<=8192
instance (M:M3):Decidable (Zx M):=inferInstanceAs (Decidable (_/\_))
theorem Km (ts:List T3):(Bq ts).length<=3*ts.length:=by rw [H_];exact IN _
structure au (ps:List Pt) (ts ss:List T3) (e:Nat) where
  m:MX ps ts ss
instance {ps:List Pt} {ts ss:List T3} {e:Nat}:EQ (au ps ts ss e):=⟨λx=>.tuple #[aG (Bk x.m),vN e],λx=>EQ.rows x.m,λx y hy=>EQ.ro x.m y hy⟩
section
variable {P:Program} {ops:Array Oper} {rest:List Oper} {Q:Exit->Act->World->Prop} {n d:Nat} {F:List (Nat×Value)} {w0:BM} {S:Nat->Prop} {L:List As} {t:TypeId} {p:String} {af:Array Edge} {y:Operand} {f:FuncId} {xs:List Operand} {args:List Value} {tys:Array TypeId} {ps:List Pt} {ts ss:List T3} {e:Nat}
end
def aB (ts:List T3):List Value:=vI (-1)::vN 0::vN 1::rowsL An ts
structure MB (ps:List Pt) (ts ss:List T3) where
  a:RX (rowsL Aj ps) ps.length
  b:RX (aB ts) (1+ts.length)
  c:RX (rowsL An ss) ss.length
def av {ps:List Pt} {ts ss:List T3} (x:MB ps ts ss):List Value:=[x.a.val,x.b.val,x.c.val]
theorem Y5 {ps:List Pt} {ts ss:List T3} {x:MB ps ts ss} {y:As} (hy:y∈[x.a.row,x.b.row,x.c.row]):y.ro=true:=by
  simp only [List.mem_cons,List.not_mem_nil,or_false] at hy
  rcases hy with rfl|rfl|rfl<;>rfl
instance {ps:List Pt} {ts ss:List T3}:EQ (MB ps ts ss):=⟨λx=>aG (av x),λx=>[x.a.row,x.b.row,x.c.row],λx y hy=>Y5 hy⟩
end
end Go.Proofs.YtfbomiejpbchdaaGreat
