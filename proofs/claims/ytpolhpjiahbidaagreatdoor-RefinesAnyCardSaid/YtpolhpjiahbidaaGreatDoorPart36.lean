import Derived.Test.YtpolhpjiahbidaaGreatDoorPart03
import Derived.Test.YtpolhpjiahbidaaGreatDoorPart05
import Derived.Test.YtpolhpjiahbidaaGreatDoorPart13
import Derived.Test.YtpolhpjiahbidaaGreatDoorPart26
import Derived.Test.YtpolhpjiahbidaaGreatDoorPart27
import Derived.Test.YtpolhpjiahbidaaGreatDoorPart31
import Derived.Test.YtpolhpjiahbidaaGreatDoorPart34
import Derived.Test.YtpolhpjiahbidaaGreatDoorPart35
namespace Go.Proofs.YtpolhpjiahbidaaGreatDoor
open Go Go.RowKit Go.Proofs.Tryz
set_option linter.unusedVariables false
set_option linter.unusedSimpArgs false
section
set_option maxRecDepth 100000
theorem Fu {ps:List Pt} {zt ss:List Z3} (x:MZ ps zt ss) (p:Int) (w:World) {S:Nat->Prop} (hx:Ro S w x):Calls prog 50 #[(aG (Cy x)),(vI p)] w (Ah w (Value.bool (Ar ps.length p))):=by
 have lx:=CI (W:=w) hx
 refine AY (args:=[(aG (Cy x)),(vI p)]) (L:=[AE x.a.p (rowsL BC ps),AE x.b.p (rowsL Ac zt),AE x.c.p (rowsL Ac ss)]) func50 O O (AI O) (D9 hx Aj) (OkC.subF (sL [0,1] O) (q4 (Be (cs:=Cy x) O λb1=>asg' O (q3 (sL [1,2,4] O) (AM O (AH (Bx (c:=(decide ((0:Int)<=p))) O O O) O (AM O ?_)))))))
 refine OkL.mid (FM:=[(1,(vI p)),(2,(pP b1 0)),(4,(Value.bool false)),(5,(vI p)),(6,(Value.bool (decide ((0:Int)<=p)))),(7,(Value.bool (decide ((0:Int)<=p)))),(13,(Value.bool ((decide ((0:Int)<=p))&&(decide (p<((ps.length:Nat):Int))))))]) (LM:=[AU b1 30 (Cy x),AE x.a.p (rowsL BC ps),AE x.b.p (rowsL Ac zt),AE x.c.p (rowsL Ac ss)]) 6 ?_ ?_
 ·rcases Bool.eq_false_or_eq_true (decide ((0:Int)<=p)) with hg1|hg1
  ·skip
   refine OkL.retell (k:=7) (u:=Value.bool true) O (by rw [hg1]) ?_
   have hg1':=hg1
   replace hg1':=of_decide_eq_true hg1'
   exact OkL.step (v:=(vI p)) (AB O) (Ai O) O (AI O) (OkL.step (v:=(pP b1 0)) (AB O) (AA O underlying30 O sizeOf28 O) O (AI O) (OkL.step (v:=(Value.slice x.a.p ps.length x.a.c)) (AB O) (AF (i:=0) (v:=(Value.slice x.a.p ps.length x.a.c)) O O DE.a O) O (AI O) (OkL.step (v:=(vN ps.length)) (AB O) (AD O underlying28) O (AI O) (OkL.step (v:=(Value.bool (decide (p<((ps.length:Nat):Int))))) (AB O) (Ae (c:=(decide (p<((ps.length:Nat):Int)))) O O O) O (AI O) (AH (v:=(Value.bool (decide (p<((ps.length:Nat):Int))))) (AO O O) O (OkL.nil (OkQ.mid (sS O (sS O (sS O (sS O (sS O (sS (by first|rfl|(rw [hg1];rfl)|rw [hg1]) (sS (by first|rfl|(rw [hg1];rfl)|rw [hg1]) (sN)))))))) (List.Sublist.refl _))))))))
  ·skip
   refine OkL.retell (k:=7) (u:=Value.bool false) O (by rw [hg1]) ?_
   have hg1':=hg1
   replace hg1':=of_decide_eq_false hg1'
   exact OkL.skip (AC O) O (AI O) (OkL.skip (AC O) O (AI O) (OkL.skip (AC O) O (AI O) (OkL.skip (AC O) O (AI O) (OkL.skip (AC O) O (AI O) (AH (v:=(Value.bool false)) (AJ O O) O (OkL.nil (OkQ.mid (sS O (sS O (sS O (sS O (sS O (sS (by first|rfl|(rw [hg1];rfl)|rw [hg1]) (sS (by first|rfl|(rw [hg1];rfl)|rw [hg1]) (sN)))))))) (List.Sublist.refl _))))))))
 exact asg' O (OkL.nil (OkQ.subF (sL [4] O) (OkQ.then_ (OkC.ret (ret_one O (rd_tmp (v:=(Value.bool ((decide ((0:Int)<=p))&&(decide (p<((ps.length:Nat):Int)))))) O) (λw hw=>⟨by unfold Ar;first|rfl|simp,hw.out⟩))))))
theorem SG (us:List Z3) (y:RX (rowsL Ac us) us.length) (pp:Option Addr) (n pc:Nat) (hu:DL n us=false) (hl:us.length<=1000000000) (w:World) {S:Nat->Prop} (hy:Ro S w y):Calls prog 56 #[(Value.slice pp n pc),(Value.slice y.p us.length y.c)] w (DT YV (Nq (T:=110) (z:=3) (cs:=rowsL Ac ([]:List Z3)) (n:=0)) S w):=by
 have ly:=CI (W:=w) hy
 refine AY (args:=[(Value.slice pp n pc),(Value.slice y.p us.length y.c)]) (L:=[AE y.p (rowsL Ac us)]) func56 O O (AI O) (D9 hy Aj) (OkC.subF (sL [0,1] O) (q4 (asg' O (OkL.nilRow 110 3 (OkL.nil (q1 (q4 (AM O (AM O (AH (v:=(vN n)) (AD O underlying28) O (Ce (args:=[(Value.slice y.p us.length y.c),(vN n)]) (v:=(Value.bool false)) call110 (λw hw=>(by have h9:=N3 n us y Z w (inS hw 1 O ly);rw [hu] at h9;exact h9)) O ?_)))))))))))
 refine AH (BU (c:=true) O O) O (OkL.nil (OkQ.subF (sL [1,4,18] O) (OkQ.then_ (OkC.cond_true O (q4 (asg' O (OkL.nilRow 110 3 (OkL.nil (OkQ.subF (sL [1,4] O) (OkQ.then_ (OkC.ret ?_)))))))))))
 exact OkQ.then_ret (ret_one O (rd_tmp (v:=(Value.slice none 0 0)) O) (λw hw=>(Km hw (OX.mk none 0 OwnOk.none) (sk (sl (sl sr))) (HN.own O HN.nil) O)))
theorem WF (us:List Z3) (y:RX (rowsL Ac us) us.length) (pp:Option Addr) (n pc:Nat) (hN:n<=4611686018427387904) (hl:us.length<=1000000000) (w:World) {S:Nat->Prop} (hy:Ro S w y):Calls prog 56 #[(Value.slice pp n pc),(Value.slice y.p us.length y.c)] w (DT YV (Nq (T:=110) (z:=3) (cs:=rowsL Ac ((BB n us).map CQ)) (n:=(BB n us).length)) S w):=by
 obtain ⟨yp,yc,yok⟩:=y
 cases h:DL n us with
 | true =>
  obtain ⟨h1,h2⟩:=F8 h
  have hl2:us.length=(us.map Db).length:=(List.length_map _).symm
  have k:Calls prog 56 #[(Value.slice pp n pc),(Value.slice yp (us.map Db).length yc)] w (DT YV (Nq (T:=110) (z:=3) (cs:=rowsL Ad (Bl (us.map Db))) (n:=(Bl (us.map Db)).length)) S w):=Tw (us.map Db) ⟨yp,yc,hl2▸yok⟩ pp n pc h1 hN Z w (S:=S) (λz hz=>hy z (by rcases List.mem_singleton.1 hz with rfl;rw [<-h2];exact List.mem_singleton.2 rfl))
  rw [<-hl2] at k
  unfold BB
  rw [if_pos h,<-DY]
  exact k
 | false =>
  have k:=SG us ⟨yp,yc,yok⟩ pp n pc h hl w hy
  unfold BB
  rw [h]
  exact k
theorem KL (x0:Pt):Instr.fill (λi=>some (i*10,10)) ((Array.range (1*10)).map ((Value.agg (BC (⟨0,0⟩:Pt)).toArray).cells[·%(Value.agg (BC (⟨0,0⟩:Pt)).toArray).cells.size]!)) [(0,.agg (BC x0).toArray)]=some (BC x0).toArray:=by kernel_rfl
set_option maxHeartbeats 8000000 in
theorem Ng {ps:List Pt} {zt ss:List Z3} (x:MZ ps zt ss) (es:List EZ) (o:RX (rowsL C5 es) es.length) (us:List Z3) (y:RX (rowsL Ac us) us.length) (hz:∀i,Ds (ps.getD i ⟨0,0⟩)<=1000000) (hp:ps.length<=1000000) (hel:es.length<=1000000) (hul:us.length<=1000000) (hsl:ss.length<=1000000) (w:World) {S:Nat->Prop} (hx:Ro S w x) (ho:Ro S w o) (hy:Ro S w y):Calls prog 16 #[(aG (Cy x)),(Value.slice o.p es.length o.c),(Value.slice y.p us.length y.c)] w (Af (Xp (Ke ps (EJ ps.length es es.length)) us (L8 ps.length ss (EJ ps.length es es.length) us)) S w):=by
 have lx:=CI (W:=w) hx
 have lo:=CI (W:=w) ho
 have ly:=CI (W:=w) hy
 refine AY (args:=[(aG (Cy x)),(Value.slice o.p es.length o.c),(Value.slice y.p us.length y.c)]) (L:=[AE x.a.p (rowsL BC ps),AE x.b.p (rowsL Ac zt),AE x.c.p (rowsL Ac ss),AE o.p (rowsL C5 es),AE y.p (rowsL Ac us)]) func16 O O (AI O) (D9 hx (D9 ho (D9 hy Aj))) (OkC.subF (sL [0,1,2] O) (q4 (Be (cs:=Cy x) O λb1=>al IW O λb2=>q3 (sL [1,2,3,6] O) (OkL.makeMap E3 vI (AP O) O λb3=>?_))))
 rw [show ([]:List (P2×Int))=El ps.length ss 0 from rfl]
 refine asg' O (q6 (sL [1,2,3,6,7] O) (q4 (AH (v:=(pP b1 2)) (AA O underlying30 O sizeOf24 O) O (Au 2 (Value.slice x.c.p ss.length x.c.c) D4 O (AH (v:=(vN ss.length)) (AD O underlying24) O (AH (BI (c:=(((ss.length:Nat):Int)-1-((0:Nat):Int))) O O (by rw [BE Z Z];omega)) O (asg' O (OkL.nil (OkQ.subF (sL [1,2,3,6,7,8] O) (OkQ.then_ (OkC.block ?_)))))))))))
 refine OkC.lp1 (tg λ(k:Nat)=>k<=ss.length) (tg λ(k:Nat)=>[(1,(Value.slice o.p es.length o.c)),(2,(Value.slice y.p us.length y.c)),(3,(pP b1 0)),(6,(pP b2 0)),(7,(Value.map (some b3))),(8,(vI (((ss.length:Nat):Int)-1-((k:Nat):Int))))]) (tg λ(k:Nat)=>[CE b3 E3 vI (El ps.length ss k),AU b2 30 ([(Value.slice none 0 0),(Value.slice none 0 0),(Value.slice none 0 0)]),AU b1 30 (Cy x),AE x.a.p (rowsL BC ps),AE x.b.p (rowsL Ac zt),AE x.c.p (rowsL Ac ss),AE o.p (rowsL C5 es),AE y.p (rowsL Ac us)]) (tg λ(k:Nat)=>ss.length-k) 0 (Nat.zero_le _) (sF O) sr (λk hJ=>?_)
 have hk:=hJ
 refine OkC.seq (q4 (AM O (AH (Bx (c:=(decide ((0:Int)<=(((ss.length:Nat):Int)-1-((k:Nat):Int))))) O O O) O (OkL.nil (OkQ.subF (sL [1,2,3,6,7,8,23] O) (OkQ.then_ ?_))))))
 refine OkC.cond O (λhc0=>?_) (λhc0=>?_)
 ·replace hc0:=of_decide_eq_true hc0
  obtain ⟨sd,hsd⟩:∃q,q=ss.getD (ss.length-1-k) (0,0,0):=⟨_,rfl⟩
  refine OkC.skip (q1 (OkC.block (q4 (AH (v:=(pP b1 2)) (AA O underlying30 O sizeOf24 O) O (Au 2 (Value.slice x.c.p ss.length x.c.c) D4 O (AM O (OkL.retell (k:=28) (u:=(vN (ss.length-1-k))) O (by show Value.int _ _=Value.int _ _;congr 1;omega) (AH (v:=(pP (pB x.c.p) (pO x.c.p+(ss.length-1-k)*3))) (AL (j:=ss.length-1-k) O O x.c.ok underlying24 sizeOf110 O Z) O (AH (v:=(aG (Ac (ss.getD (ss.length-1-k) ((0,0,0):Z3))))) (AT (vs:=Ac (ss.getD (ss.length-1-k) ((0,0,0):Z3))) (i:=5) O O (Av.ne x.c.ok Z) Jb (Am Ay _ _ _ Z) (Ay _)) O (OkL.retell (k:=30) (u:=(aG (Ac sd))) O (by rw [hsd]) (al QU O λb4=>?_)))))))))))
  refine Ax O sizeOf110 O (q3 (sL [1,2,3,6,7,8,9] O) (BH 3 Dn O (AH (v:=(pP b4 0)) (AA O underlying110 O sizeOf3 O) O (Au 0 (vI sd.1) BL O (Ce call50 (λw hw=>Fu x sd.1 w (inS hw 4 O lx)) O (AM O ?_))))))
  refine OkL.mid (FM:=[(1,(Value.slice o.p es.length o.c)),(2,(Value.slice y.p us.length y.c)),(3,(pP b1 0)),(6,(pP b2 0)),(7,(Value.map (some b3))),(8,(vI (((ss.length:Nat):Int)-1-((k:Nat):Int)))),(9,(pP b4 0)),(31,(aG (Cy x))),(32,(pP b4 0)),(33,(vI sd.1)),(34,(Value.bool (Ar ps.length sd.1))),(35,(Value.bool (Ar ps.length sd.1))),(40,(Value.bool ((Ar ps.length sd.1)&&(Ar ps.length sd.2.1))))]) (LM:=[AU b4 110 (Ac sd),CE b3 E3 vI (El ps.length ss k),AU b2 30 ([(Value.slice none 0 0),(Value.slice none 0 0),(Value.slice none 0 0)]),AU b1 30 (Cy x),AE x.a.p (rowsL BC ps),AE x.b.p (rowsL Ac zt),AE x.c.p (rowsL Ac ss),AE o.p (rowsL C5 es),AE y.p (rowsL Ac us)]) 5 ?_ ?_
  ·rcases Bool.eq_false_or_eq_true (Ar ps.length sd.1) with hg1|hg1
   ·skip
    refine OkL.retell (k:=35) (u:=Value.bool true) O (by rw [hg1]) ?_
    have hg1':=hg1
    skip
    exact OkL.step (v:=(aG (Cy x))) (AB O) (A6 (i:=3) (vs:=Cy x) O O Dn.a Dn.s O O) O (AI O) (OkL.step (v:=(pP b4 1)) (AB O) (AA O underlying110 O sizeOf3 O) O (AI O) (OkL.step (v:=(vI sd.2.1)) (AB O) (AF (i:=0) (v:=(vI sd.2.1)) O O BL.a O) O (AI O) (OkL.call (v:=(Value.bool (Ar ps.length sd.2.1))) (AB O) (Ap (args:=[(aG (Cy x)),(vI sd.2.1)]) O O call50) (λw hw=>Fu x sd.2.1 w (inS hw 4 O lx)) O (AI O) (AH (v:=(Value.bool (Ar ps.length sd.2.1))) (AO O O) O (OkL.nil (OkQ.mid (sS O (sS O (sS O (sS O (sS O (sS O (sS O (sS O (sS O (sS O (sS O (sS (by first|rfl|(rw [hg1];rfl)|rw [hg1]) (sS (by first|rfl|(rw [hg1];rfl)|rw [hg1]) (sN)))))))))))))) (List.Sublist.refl _)))))))
   ·skip
    refine OkL.retell (k:=35) (u:=Value.bool false) O (by rw [hg1]) ?_
    have hg1':=hg1
    skip
    exact OkL.skip (AC O) O (AI O) (OkL.skip (AC O) O (AI O) (OkL.skip (AC O) O (AI O) (OkL.skip (AC O) O (AI O) (AH (v:=(Value.bool false)) (AJ O O) O (OkL.nil (OkQ.mid (sS O (sS O (sS O (sS O (sS O (sS O (sS O (sS O (sS O (sS O (sS O (sS (by first|rfl|(rw [hg1];rfl)|rw [hg1]) (sS (by first|rfl|(rw [hg1];rfl)|rw [hg1]) (sN)))))))))))))) (List.Sublist.refl _)))))))
  refine OkL.nil (OkQ.subF (sL [1,2,3,6,7,8,9,40] O) (OkQ.then_ ?_))
  refine OkC.cond O (λhc1=>?_) (λhc1=>?_)
  ·simp only [Bool.and_eq_true,Bool.or_eq_true,Bool.and_eq_false_iff,Bool.or_eq_false_iff,Bool.not_eq_true',Bool.not_eq_false',decide_eq_true_eq,decide_eq_false_iff_not] at hc1
   refine Cd [(0,true),(1,true),(2,true),(3,true),(4,true),(6,true),(7,true),(5,false),(8,false)] (sk (sl sr)) (BV O (Al (v:=(pP b4 0)) O (AA O underlying110 O sizeOf3 O) (BM 0 (vI sd.1) BL O (Al (v:=(pP b4 1)) O (AA O underlying110 O sizeOf3 O) (BM 0 (vI sd.2.1) BL O (Al (v:=(pP b4 2)) O (AA O underlying110 O sizeOf3 O) (BM 0 (vI sd.2.2) BL O (OkE.imp O (Ce (args:=[(vI sd.1),(vI sd.2.1)]) (v:=(aG (Ew (min sd.1.toNat sd.2.1.toNat,max sd.1.toNat sd.2.1.toNat)))) call44 (λw hw=>(by have h9:=B_ sd.1.toNat sd.2.1.toNat w;rw [NZ hc1.1,NZ hc1.2] at h9;exact h9)) O (OkE.back (sk (sl sr)) (OkE.imp O ?_)))))))))))
   refine OkL.mapUpdate C4 1 (kvs:=El ps.length ss k) (x:=(min sd.1.toNat sd.2.1.toNat,max sd.1.toNat sd.2.1.toNat)) (y:=sd.2.2) (AP O) O O O underlying112 O (I8 Z _) (BQ (Nat.lt_of_lt_of_le (Bp hc1.1).2 Z) (Nat.lt_of_lt_of_le (Bp hc1.2).2 Z)) ?_
   rw [show BN (El ps.length ss k) (min sd.1.toNat sd.2.1.toNat,max sd.1.toNat sd.2.1.toNat) sd.2.2=El ps.length ss (k+1) from by rw [hsd];exact Tz (by rw [<-hsd];exact hc1)]
   exact OkE.back (sk (sl sr)) (OkE.nil (OkQ.subF (sL [1,2,3,6,7,8,9] O) (OkQ.in_normal (OkQ.then_ (OkC.region (AM O (AH (BI (c:=(((ss.length:Nat):Int)-1-((k+1:Nat):Int))) O O (by rw [BE Z Z];omega)) O (asg' O (OkL.nil (OkQ.subF (sL [1,2,3,6,7,8,9] O) (OkQ.round1 (k+1) Z Z (sF O) (sl sr))))))))))))
  ·simp only [Bool.and_eq_true,Bool.or_eq_true,Bool.and_eq_false_iff,Bool.or_eq_false_iff,Bool.not_eq_true',Bool.not_eq_false',decide_eq_true_eq,decide_eq_false_iff_not] at hc1
   have hnk:¬(Ar ps.length sd.1=true/\Ar ps.length sd.2.1=true):=λh9=>by rcases hc1 with h8|h8<;>simp [h9.1,h9.2] at h8
   refine OkC.skip (OkQ.in_normal (OkQ.then_ (OkC.region (AM O (AH (BI (c:=(((ss.length:Nat):Int)-1-((k+1:Nat):Int))) O O (by rw [BE Z Z];omega)) O (asg' O (OkL.nil (OkQ.subF (sL [1,2,3,6,7,8,9] O) ?_))))))))
   rw [show El ps.length ss k=El ps.length ss (k+1) from VY (by rw [<-hsd];exact hnk)]
   exact OkQ.round1 (k+1) Z Z (sF O) (sl sr)
 ·replace hc0:=of_decide_eq_false hc0
  have hk2:k=ss.length:=by omega
  rw [show El ps.length ss k=Ci ps.length ss ([]:List P2) by rw [hk2];rfl]
  refine OkC.exit (OkQ.then_exit (OkQ.round1_exit (OkQ.in_exit (q2 (AH (v:=(pP b1 0)) (AA O underlying30 O sizeOf28 O) O (Au 2 (Value.slice x.a.p ps.length x.a.c) DE O (OkL.callL (S:=S) (V:=UE) (LW:=Nq (T:=99) (z:=10) (cs:=rowsL BC ps) (n:=ps.length)) (args:=[(Value.slice x.a.p ps.length x.a.c)]) call51 (λw hw=>Lm ps x.a Z w (aN (inS hw 3 O lx))) O λcl1 hcl1=>AM O (OkL.callL (S:=S) (V:=UE) (LW:=Nq (T:=105) (z:=3) (cs:=rowsL Ac us) (n:=us.length)) (args:=[(Value.slice y.p us.length y.c)]) call53 (λw hw=>Oe us y Z w (inS hw 8 O ly)) O λcl2 hcl2=>ck' call52 (Mz cl2.p us.length cl2.c cl2.ok.row.le) O (AH (v:=(aG ([(Value.slice cl1.p ps.length cl1.c),(Value.slice cl2.p us.length us.length),(Value.slice none 0 0)]))) (AQ (zs:=[(Value.slice none 0 0),(Value.slice none 0 0),(Value.slice none 0 0)]) (vs:=[(Value.slice cl1.p ps.length cl1.c),(Value.slice cl2.p us.length us.length),(Value.slice none 0 0)]) (pv:=[(0,(Value.slice cl1.p ps.length cl1.c)),(1,(Value.slice cl2.p us.length us.length))]) (places:=[(0,1),(1,1),(2,1)]) zeroValue30 underlying30 (λw=>by simp [sizeOf23,sizeOf24,sizeOf28]) O O) O ?_)))))))))
  refine al IW O λb4=>Ax O sizeOf30 O (q6 (sL [1,2,3,6,7,8,10] O) (q4 (AM O (AH (v:=(vN es.length)) (AD O underlying46) O (AM O (OkL.nil (OkQ.then_ (OkC.block ?_))))))))
  refine OkC.lp4 (tg λ(i:Nat) (vs:List P2) (p1:Option Addr) (c1:Nat)=>i<=es.length/\vs=EJ ps.length es i/\OwnOk p1 (ps.length+vs.length) c1) (tg λ(i:Nat) (vs:List P2) (p1:Option Addr) (c1:Nat)=>[(3,(pP b1 0)),(6,(pP b2 0)),(7,(Value.map (some b3))),(10,(pP b4 0)),(56,(Value.slice o.p es.length o.c)),(57,(vN es.length)),(58,(vN i))]) (tg λ(i:Nat) (vs:List P2) (p1:Option Addr) (c1:Nat)=>[AU b4 30 ([(Value.slice p1 (ps.length+vs.length) c1),(Value.slice cl2.p us.length us.length),(Value.slice none 0 0)]),rowW cl2.p 105 3 us.length cl2.c (rowsL Ac us),rowW p1 99 10 (ps.length+vs.length) c1 (rowsL BC (Ke ps vs)),CE b3 E3 vI (Ci ps.length ss vs),AU b2 30 ([(Value.slice none 0 0),(Value.slice none 0 0),(Value.slice none 0 0)]),AU b1 30 (Cy x),AE x.a.p (rowsL BC ps),AE x.b.p (rowsL Ac zt),AE x.c.p (rowsL Ac ss),AE o.p (rowsL C5 es),AE y.p (rowsL Ac us)]) (tg λ(i:Nat) (vs:List P2) (p1:Option Addr) (c1:Nat)=>es.length-i) 0 ([]:List P2) cl1.p cl1.c (⟨Nat.zero_le _,rfl,cl1.ok⟩) (sF O) sr (λi vs p1 c1 hJ=>?_)
  obtain ⟨hi,hvs,ho⟩:=hJ
  have hvn:=QY (N:=ps.length) (es:=es) (i:=i)
  rw [<-hvs] at hvn
  have hvl:∀v∈vs,v.1<ps.length/\v.2<ps.length:=λv hv=>PY (by rw [<-hvs];exact hv)
  have hpn:(Ke ps vs).length=ps.length+vs.length:=Gj
  refine q4 (AH (Ae (c:=(decide (i<es.length))) O O (CB (a:=i) (b:=es.length))) O (OkL.nil (q1 ?_)))
  refine OkC.cond O (λhc2=>?_) (λhc2=>?_)
  ·replace hc2:=of_decide_eq_true hc2
   obtain ⟨ed,hed⟩:∃q,q=es.getD i Gl:=⟨_,rfl⟩
   refine OkC.skip (q1 (OkC.block (q4 (AH (v:=(pP (pB o.p) (pO o.p+i*4))) (AL (j:=i) O O o.ok underlying46 sizeOf49 O Z) O (AH (v:=(aG (C5 (es.getD i Gl)))) (AT (vs:=C5 (es.getD i Gl)) (i:=9) O O (Av.ne o.ok Z) MP (Am FA _ _ _ Z) (FA _)) O (OkL.retell (k:=61) (u:=(aG (C5 ed))) O (by rw [hed]) (al L0 O λb5=>Ax O sizeOf49 O (q6 (sL [3,6,7,10,56,57,58,12] O) (q4 (BH 6 Dn O ?_))))))))))
   refine AH (v:=(pP b5 0)) (AA O underlying49 O sizeOf3 O) O (Au 0 (vI ed.1) BL O (Ce call50 (λw hw=>Fu x ed.1 w (inS hw 7 O lx)) O (AH (BU (c:=(!(Ar ps.length ed.1))) O O) O (AM O ?_))))
   refine OkL.mid (FM:=[(3,(pP b1 0)),(6,(pP b2 0)),(7,(Value.map (some b3))),(10,(pP b4 0)),(56,(Value.slice o.p es.length o.c)),(57,(vN es.length)),(58,(vN i)),(12,(pP b5 0)),(62,(aG (Cy x))),(63,(pP b5 0)),(64,(vI ed.1)),(65,(Value.bool (Ar ps.length ed.1))),(66,(Value.bool (!(Ar ps.length ed.1)))),(67,(Value.bool (!(Ar ps.length ed.1)))),(73,(Value.bool ((!(Ar ps.length ed.1))||(!(Ar ps.length ed.2.1)))))]) (LM:=[AU b5 49 (C5 ed),AU b4 30 ([(Value.slice p1 (ps.length+vs.length) c1),(Value.slice cl2.p us.length us.length),(Value.slice none 0 0)]),rowW cl2.p 105 3 us.length cl2.c (rowsL Ac us),rowW p1 99 10 (ps.length+vs.length) c1 (rowsL BC (Ke ps vs)),CE b3 E3 vI (Ci ps.length ss vs),AU b2 30 ([(Value.slice none 0 0),(Value.slice none 0 0),(Value.slice none 0 0)]),AU b1 30 (Cy x),AE x.a.p (rowsL BC ps),AE x.b.p (rowsL Ac zt),AE x.c.p (rowsL Ac ss),AE o.p (rowsL C5 es),AE y.p (rowsL Ac us)]) 6 ?_ ?_
   ·rcases Bool.eq_false_or_eq_true (!(Ar ps.length ed.1)) with hg2|hg2
    ·skip
     refine OkL.retell (k:=67) (u:=Value.bool true) O (by rw [hg2]) ?_
     have hg2':=hg2
     simp only [Bool.and_eq_true,Bool.or_eq_true,Bool.and_eq_false_iff,Bool.or_eq_false_iff,Bool.not_eq_true',Bool.not_eq_false',decide_eq_true_eq,decide_eq_false_iff_not] at hg2'
     exact OkL.skip (AC O) O (AI O) (OkL.skip (AC O) O (AI O) (OkL.skip (AC O) O (AI O) (OkL.skip (AC O) O (AI O) (OkL.skip (AC O) O (AI O) (AH (v:=(Value.bool true)) (AO O O) O (OkL.nil (OkQ.mid (sS O (sS O (sS O (sS O (sS O (sS O (sS O (sS O (sS O (sS O (sS O (sS O (sS O (sS (by first|rfl|(rw [hg2];rfl)|rw [hg2]) (sS (by first|rfl|(rw [hg2];rfl)|rw [hg2]) (sN)))))))))))))))) (List.Sublist.refl _))))))))
    ·skip
     refine OkL.retell (k:=67) (u:=Value.bool false) O (by rw [hg2]) ?_
     have hg2':=hg2
     simp only [Bool.and_eq_true,Bool.or_eq_true,Bool.and_eq_false_iff,Bool.or_eq_false_iff,Bool.not_eq_true',Bool.not_eq_false',decide_eq_true_eq,decide_eq_false_iff_not] at hg2'
     exact OkL.step (v:=(aG (Cy x))) (AB O) (A6 (i:=6) (vs:=Cy x) O O Dn.a Dn.s O O) O (AI O) (OkL.step (v:=(pP b5 1)) (AB O) (AA O underlying49 O sizeOf3 O) O (AI O) (OkL.step (v:=(vI ed.2.1)) (AB O) (AF (i:=0) (v:=(vI ed.2.1)) O O BL.a O) O (AI O) (OkL.call (v:=(Value.bool (Ar ps.length ed.2.1))) (AB O) (Ap (args:=[(aG (Cy x)),(vI ed.2.1)]) O O call50) (λw hw=>Fu x ed.2.1 w (inS hw 7 O lx)) O (AI O) (OkL.step (v:=(Value.bool (!(Ar ps.length ed.2.1)))) (AB O) (BU (c:=(!(Ar ps.length ed.2.1))) O O) O (AI O) (AH (v:=(Value.bool (!(Ar ps.length ed.2.1)))) (AJ O O) O (OkL.nil (OkQ.mid (sS O (sS O (sS O (sS O (sS O (sS O (sS O (sS O (sS O (sS O (sS O (sS O (sS O (sS (by first|rfl|(rw [hg2];rfl)|rw [hg2]) (sS (by first|rfl|(rw [hg2];rfl)|rw [hg2]) (sN)))))))))))))))) (List.Sublist.refl _))))))))
   refine OkL.nil (OkQ.subF (sL [3,6,7,10,56,57,58,12,73] O) (OkQ.then_ ?_))
   refine OkC.cond O (λhc3=>?_) (λhc3=>?_)
   ·simp only [Bool.and_eq_true,Bool.or_eq_true,Bool.and_eq_false_iff,Bool.or_eq_false_iff,Bool.not_eq_true',Bool.not_eq_false',decide_eq_true_eq,decide_eq_false_iff_not] at hc3
    have hok0:GY ps.length (es.getD i Gl)=false:=by rw [<-hed];unfold GY;rcases hc3 with h8|h8<;>simp [h8]
    exact OkC.exit (OkQ.then_exit (OkQ.in_exit (OkQ.then_ (OkC.region (AH (AX (c:=((i+1:Nat):Int)) O O (AR (a:=i) (b:=1) Z)) O (AM O (OkL.nil (OkQ.subF (sL [3,6,7,10,56,57,58,12] O) (OkQ.round4 (i+1) vs p1 c1 (⟨Z,by rw [hvs,UL Z hok0],ho⟩) Z (sF O) (sl sr))))))))))
   ·simp only [Bool.and_eq_true,Bool.or_eq_true,Bool.and_eq_false_iff,Bool.or_eq_false_iff,Bool.not_eq_true',Bool.not_eq_false',decide_eq_true_eq,decide_eq_false_iff_not] at hc3
    have hok1:GY ps.length (es.getD i Gl)=true:=by rw [<-hed];unfold GY;simp [hc3.1,hc3.2]
    obtain ⟨ea,eb,el,er,hE,hea,heb⟩:∃(ea eb:Nat) (el er:Int),ed=((ea:Int),(eb:Int),el,er)/\ea<ps.length/\eb<ps.length:=⟨ed.1.toNat,ed.2.1.toNat,ed.2.2.1,ed.2.2.2,Prod.ext (Bp (by simpa using hc3.1)).1.symm (Prod.ext (Bp (by simpa using hc3.2)).1.symm rfl),(Bp (by simpa using hc3.1)).2,(Bp (by simpa using hc3.2)).2⟩
    have hed2:Rc (es.getD i Gl)=(ea,eb):=by rw [<-hed,hE];rfl
    rw [show C5 ed=[vN ea,vN eb,vI el,vI er] by rw [hE];rfl]
    refine OkC.skip (q2 (AH (v:=(pP b4 0)) (AA O underlying30 O sizeOf28 O) O (Au 1 (Value.slice p1 (ps.length+vs.length) c1) DE O (AH (v:=(vN (ps.length+vs.length))) (AD O underlying28) O (asg' O (q6 (sL [3,6,7,10,56,57,58,12,13] O) (rC [(0,true),(1,true),(2,true),(3,true),(4,true),(5,true),(6,true),(7,true),(8,true),(9,true),(10,true),(11,true),(12,true),(13,true),(14,false),(15,false),(16,false),(17,true)] 18 [] (sk (sk (sk (sl sr)))) (sk (sl sr)) (by kernel_rfl) (λ_ _ d _ _ h=>by cases d<;>exact h) (vE (v:=(pP b4 0)) O (AA O underlying30 O sizeOf28 O) O (vE O (AF (i:=1) (v:=(Value.slice p1 (ps.length+vs.length) c1)) O O DE.a O) O (vE (v:=(pP b1 0)) O (AA O underlying30 O sizeOf28 O) O (vE O (AF (i:=5) (v:=(Value.slice x.a.p ps.length x.a.c)) O O DE.a O) O ?_)))))))))))
    refine vE (v:=(pP b5 0)) O (AA O underlying49 O sizeOf3 O) O (vE O (AF (i:=0) (v:=(vN ea)) O O BL.a O) O (vE (v:=(pP (pB x.a.p) (pO x.a.p+ea*10))) O (AL (j:=ea) O O x.a.ok underlying28 sizeOf99 O Z) O (vE (v:=(aG (BC (ps.getD ea (⟨0,0⟩:Pt))))) O (AT (vs:=BC (ps.getD ea (⟨0,0⟩:Pt))) (i:=6) O O (Av.ne x.a.ok Z) Ha (Am Bk _ _ _ Z) (Bk _)) O ?_)))
    have hz84:Ds (ps.getD ea (⟨0,0⟩:Pt))<=1000000:=hz _
    refine vE (v:=(pP b1 0)) O (AA O underlying30 O sizeOf28 O) O (vE O (AF (i:=5) (v:=(Value.slice x.a.p ps.length x.a.c)) O O DE.a O) O (vE (v:=(pP b5 1)) O (AA O underlying49 O sizeOf3 O) O (vE O (AF (i:=0) (v:=(vN eb)) O O BL.a O) O (vE (v:=(pP (pB x.a.p) (pO x.a.p+eb*10))) O (AL (j:=eb) O O x.a.ok underlying28 sizeOf99 O Z) O (vE (v:=(aG (BC (ps.getD eb (⟨0,0⟩:Pt))))) O (AT (vs:=BC (ps.getD eb (⟨0,0⟩:Pt))) (i:=6) O O (Av.ne x.a.ok Z) Ha (Am Bk _ _ _ Z) (Bk _)) O ?_)))))
    have hz90:Ds (ps.getD eb (⟨0,0⟩:Pt))<=1000000:=hz _
    refine Ch.imp O ?_
    have hz1:=Hl (ps.getD ea (⟨0,0⟩:Pt)) (ps.getD eb (⟨0,0⟩:Pt))
    have hz2:=Fc ((ps.getD ea (⟨0,0⟩:Pt))+(ps.getD eb (⟨0,0⟩:Pt))) (1/2)
    refine ck' call54 (Pn (ps.getD ea (⟨0,0⟩:Pt)) (ps.getD eb (⟨0,0⟩:Pt)) Z) O (Ch.back (sk (sk (sk (sl sr)))) (Ch.imp O (OkL.openV (V:=λb6=>(Value.slice (some ⟨b6,0,none⟩) 1 1)) (T:=99) (cs:=BC (Bd ((ps.getD ea (⟨0,0⟩:Pt))+(ps.getD eb (⟨0,0⟩:Pt))) (1/2))) (AP O) (Ao (z:=.agg (BC (⟨0,0⟩:Pt)).toArray) (cs:=BC (Bd ((ps.getD ea (⟨0,0⟩:Pt))+(ps.getD eb (⟨0,0⟩:Pt))) (1/2))) (pv:=[(0,(aG (BC (Bd ((ps.getD ea (⟨0,0⟩:Pt))+(ps.getD eb (⟨0,0⟩:Pt))) (1/2)))))]) underlying28 sizeOf99 zeroValue99 (by decide) (by decide) O (KL (Bd ((ps.getD ea (⟨0,0⟩:Pt))+(ps.getD eb (⟨0,0⟩:Pt))) (1/2)))) O (AI O) λb6=>Ch.back (sl (sk (sk (sk (sl sr))))) (Ch.imp O (OkL.appendAt 4 (j:=0) (cs2:=rowsL BC ((Ke ps vs)++[Bd ((ps.getD ea (⟨0,0⟩:Pt))+(ps.getD eb (⟨0,0⟩:Pt))) (1/2)])) VG O ho (by rw [Aa Bk,Gj]) O O O O O (by decide) (G0 Z) Z (by rw [BT];rfl) O λp_1 c_1 ho_1 hne_1=>Ch.back (sl (sk (sk (sk (sl sr))))) (vE (v:=(pP b4 0)) O (AA O underlying30 O sizeOf28 O) O (Ch.cut O (FG 2 (off:=0) (vs:=[(Value.slice p_1 ((ps.length+vs.length)+1) c_1)]) (cs':=[(Value.slice p_1 ((ps.length+vs.length)+1) c_1),(Value.slice cl2.p us.length us.length),(Value.slice none 0 0)]) (AP O) O sizeOf28 O (OkE.back (sl (sk (sl (sk (sl sr))))) ?_)))))))))
    refine OkE.nil (OkQ.subF (sL [3,6,7,10,56,57,58,12,13] O) (q2 (AM O (AH (v:=(pP b5 0)) (AA O underlying49 O sizeOf3 O) O (Au 1 (vN ea) BL O (AH (v:=(pP b5 1)) (AA O underlying49 O sizeOf3 O) O (Au 1 (vN eb) BL O (ck' call44 (B_ ea eb) O (AH (v:=(vI ((A7 (Ci ps.length ss vs) (min ea eb,max ea eb)).getD 0))) (Bu C4 5 (eV:=vI) (kvs:=Ci ps.length ss vs) (x:=(min ea eb,max ea eb)) (z0:=0) (co:=false) O O underlying112 zeroValue3 O (JI hvl Z) (BQ Z Z)) O (asg' O (OkL.nil ?_)))))))))))
    refine OkQ.subF (sL [3,6,7,10,56,57,58,12,13,14] O) (OkQ.then_ (Cd [(0,true),(1,true),(2,true),(3,true),(5,true),(6,true),(7,true),(8,true),(10,true),(11,true),(4,false),(9,false),(12,false),(13,true),(14,false),(15,false)] (sk (sk (sk (sk (sk (sl sr)))))) (BV O (Al (v:=(pP b5 0)) O (AA O underlying49 O sizeOf3 O) (BM 1 (vN ea) BL O (BV O (BV O (Al (v:=(pP b5 1)) O (AA O underlying49 O sizeOf3 O) (BM 1 (vN eb) BL O (BV O (BV O ?_)))))))))))
    refine BV O (OkE.imp O (ck' call44 (B_ ea (ps.length+vs.length)) O (OkE.back (sk (sk (sk (sk (sk (sl sr)))))) (OkE.imp O (ck' call44 (B_ eb (ps.length+vs.length)) O (OkE.back (sk (sk (sk (sk (sk (sl sr)))))) (OkE.imp O (OkL.mapEntry C4 5 (kvs:=Ci ps.length ss vs) (x:=(min ea (ps.length+vs.length),max ea (ps.length+vs.length))) (z0:=0) (v:=((A7 (Ci ps.length ss vs) (min ea (ps.length+vs.length),max ea (ps.length+vs.length))).getD 0)) O O underlying112 zeroValue3 O (JI hvl Z) (BQ Z Z) O O (OkE.back (sk (sk (sk (sk (sk (sl sr)))))) (Al O (AV (v:=(vN (Cf (Ci ps.length ss vs) (min ea (ps.length+vs.length),max ea (ps.length+vs.length))))) O O) (OkE.imp O ?_)))))))))))
    refine OkL.entryStore 5 (kvs:=Ci ps.length ss vs) (x:=(min ea (ps.length+vs.length),max ea (ps.length+vs.length))) (u:=((A7 (Ci ps.length ss vs) (min ea (ps.length+vs.length),max ea (ps.length+vs.length))).getD 0)) (y:=((A7 (Ci ps.length ss vs) (min ea eb,max ea eb)).getD 0)) O O O O (OkE.back (sk (sk (sk (sk (sk (sl sr)))))) (OkE.imp O (OkL.mapUpdate C4 5 (kvs:=BN (Ci ps.length ss vs) (min ea (ps.length+vs.length),max ea (ps.length+vs.length)) ((A7 (Ci ps.length ss vs) (min ea eb,max ea eb)).getD 0)) (x:=(min eb (ps.length+vs.length),max eb (ps.length+vs.length))) (y:=((A7 (Ci ps.length ss vs) (min ea eb,max ea eb)).getD 0)) (AP O) O O O underlying112 O ((JI hvl Z).put (BQ Z Z)) (BQ Z Z) ?_)))
    rw [show BN (BN (Ci ps.length ss vs) (min ea (ps.length+vs.length),max ea (ps.length+vs.length)) ((A7 (Ci ps.length ss vs) (min ea eb,max ea eb)).getD 0)) (min eb (ps.length+vs.length),max eb (ps.length+vs.length)) ((A7 (Ci ps.length ss vs) (min ea eb,max ea eb)).getD 0)=Ci ps.length ss (vs++[(ea,eb)]) from by rw [K5];rfl]
    refine OkE.back (sk (sk (sk (sk (sk (sl sr)))))) (OkE.nil (OkQ.subF (sL [3,6,7,10,56,57,58,12] O) (OkQ.in_normal (OkQ.then_ (OkC.region (AH (AX (c:=((i+1:Nat):Int)) O O (AR (a:=i) (b:=1) Z)) O (AM O (OkL.nil (OkQ.subF (sL [3,6,7,10,56,57,58,12] O) ?_)))))))))
    rw [show Ke ps vs++[Bd (ps.getD ea (⟨0,0⟩:Pt)+ps.getD eb (⟨0,0⟩:Pt)) (1/2)]=Ke ps (vs++[(ea,eb)]) from NP (v:=(ea,eb)),show ps.length+vs.length+1=ps.length+(vs++[(ea,eb)]).length by rw [List.length_append];rfl]
    exact OkQ.round4 (i+1) (vs++[(ea,eb)]) p_1 c_1 (⟨Z,by rw [hvs,Po Z hok1,hed2],by rw [List.length_append];exact ho_1⟩) Z (sF O) (sl (sl sr))
  ·replace hc2:=of_decide_eq_false hc2
   have hie:i=es.length:=by omega
   have hrzl:=KB (n:=ps.length+vs.length) (us:=us)
   refine OkC.exit (OkQ.then_exit (OkQ.round4_exit (OkQ.in_exit (q2 (AH (v:=(pP b4 0)) (AA O underlying30 O sizeOf28 O) O (Au 0 (Value.slice p1 (ps.length+vs.length) c1) DE O (ck' call55 (OA p1 (ps.length+vs.length) c1 ho.row.le) O (AH (v:=(pP b4 0)) (AA O underlying30 O sizeOf28 O) O (FG 0 (off:=0) (vs:=[(Value.slice p1 (ps.length+vs.length) (ps.length+vs.length))]) (cs':=[(Value.slice p1 (ps.length+vs.length) (ps.length+vs.length)),(Value.slice cl2.p us.length us.length),(Value.slice none 0 0)]) (AP O) O sizeOf28 O (q3 (sL [3,6,7,10,56,57,58] O) (AH (v:=(pP b4 0)) (AA O underlying30 O sizeOf28 O) O ?_)))))))))))
   refine Au 0 (Value.slice p1 (ps.length+vs.length) (ps.length+vs.length)) DE O (AH (v:=(pP b4 1)) (AA O underlying30 O sizeOf23 O) O (Au 0 (Value.slice cl2.p us.length us.length) CU O (OkL.frzRow 1 O cl2.ok (Aa Ay _) O O λhn_cl2=>OkL.callL (S:=S) (V:=YV) (LW:=Nq (T:=110) (z:=3) (cs:=rowsL Ac ((BB (ps.length+vs.length) us).map CQ)) (n:=(BB (ps.length+vs.length) us).length)) (args:=[(Value.slice p1 (ps.length+vs.length) (ps.length+vs.length)),(Value.slice cl2.p us.length us.length)]) call56 (λw hw=>WF us ⟨cl2.p,us.length,cl2.ok.clip⟩ p1 (ps.length+vs.length) (ps.length+vs.length) Z Z w (inS hw 1 O (At.new hn_cl2))) O λrm hrm=>AH (v:=(pP b4 2)) (AA O underlying30 O sizeOf24 O) O (FG 1 (off:=2) (vs:=[(Value.slice rm.p ((BB (ps.length+vs.length) us).length) ((BB (ps.length+vs.length) us).length))]) (cs':=[(Value.slice p1 (ps.length+vs.length) (ps.length+vs.length)),(Value.slice cl2.p us.length us.length),(Value.slice rm.p ((BB (ps.length+vs.length) us).length) ((BB (ps.length+vs.length) us).length))]) (AP O) O sizeOf24 O (q6 (sL [3,6,7,10,56,57,58] O) (q4 (AH (v:=(pP b4 2)) (AA O underlying30 O sizeOf24 O) O (Au 1 (Value.slice rm.p ((BB (ps.length+vs.length) us).length) ((BB (ps.length+vs.length) us).length)) D4 O (AH (v:=(vN ((BB (ps.length+vs.length) us).length))) (AD O underlying24) O ?_)))))))))
   refine AM O (OkL.nil (OkQ.subF (sL [3,6,7,10,56,57,58,128,129,130] O) (OkQ.then_ (OkC.block ?_))))
   refine OkC.lp1 (tg λ(j:Nat)=>j<=(BB (ps.length+vs.length) us).length) (tg λ(j:Nat)=>[(6,(pP b2 0)),(7,(Value.map (some b3))),(10,(pP b4 0)),(128,(Value.slice rm.p ((BB (ps.length+vs.length) us).length) ((BB (ps.length+vs.length) us).length))),(129,(vN ((BB (ps.length+vs.length) us).length))),(130,(vN j))]) (tg λ(j:Nat)=>[rowW rm.p 110 3 ((BB (ps.length+vs.length) us).length) rm.c (rowsL Ac (F4 (Ci ps.length ss vs) (BB (ps.length+vs.length) us) j)),AU b4 30 ([(Value.slice p1 (ps.length+vs.length) (ps.length+vs.length)),(Value.slice cl2.p us.length us.length),(Value.slice rm.p ((BB (ps.length+vs.length) us).length) ((BB (ps.length+vs.length) us).length))]),AE cl2.p (rowsL Ac us),rowW p1 99 10 (ps.length+vs.length) c1 (rowsL BC (Ke ps vs)),CE b3 E3 vI (Ci ps.length ss vs),AU b2 30 ([(Value.slice none 0 0),(Value.slice none 0 0),(Value.slice none 0 0)]),AU b1 30 (Cy x),AE x.a.p (rowsL BC ps),AE x.b.p (rowsL Ac zt),AE x.c.p (rowsL Ac ss),AE o.p (rowsL C5 es),AE y.p (rowsL Ac us)]) (tg λ(j:Nat)=>(BB (ps.length+vs.length) us).length-j) 0 (Nat.zero_le _) (sF O) sr (λj hJ=>?_)
   have hj:=hJ
   refine q4 (AH (Ae (c:=(decide (j<((BB (ps.length+vs.length) us).length)))) O O (CB (a:=j) (b:=(BB (ps.length+vs.length) us).length))) O (OkL.nil (q1 ?_)))
   refine OkC.cond O (λhc4=>?_) (λhc4=>?_)
   ·replace hc4:=of_decide_eq_true hc4
    obtain ⟨sd2,hsd2⟩:∃q,q=(BB (ps.length+vs.length) us).getD j (0,0,0):=⟨_,rfl⟩
    have hml:(F4 (Ci ps.length ss vs) (BB (ps.length+vs.length) us) j).length=(BB (ps.length+vs.length) us).length:=Hu
    obtain ⟨hs1,hs2⟩:=Px (show sd2∈BB (ps.length+vs.length) us from by rw [hsd2,List.getD,List.getElem?_eq_getElem hc4];exact List.getElem_mem hc4) Z
    refine OkC.skip (q1 (OkC.block (q4 (AM O (AH (v:=(pP (pB rm.p) (pO rm.p+j*3))) (AL (j:=j) O O rm.ok.clip underlying24 sizeOf110 O Z) O (AH (v:=(aG (Ac ((F4 (Ci ps.length ss vs) (BB (ps.length+vs.length) us) j).getD j ((0,0,0):Z3))))) (D1 (vs:=Ac ((F4 (Ci ps.length ss vs) (BB (ps.length+vs.length) us) j).getD j ((0,0,0):Z3))) (i:=0) O O rm.ok (by rw [Aa Ay,Hu]) (Av.ne rm.ok.clip Z) Jb (Am Ay _ _ _ Z) (Ay _)) O (OkL.retell (k:=134) (u:=(aG (Ac (CQ sd2)))) O (by rw [hsd2,Nn Z]) (al QU O λb5=>asg' O (Ax O sizeOf110 O (OkL.nil ?_))))))))))
    refine OkQ.subF (sL [6,7,10,128,129,130,16,15] O) (OkQ.then_ (Cd [(0,true),(1,true),(2,true),(3,true),(4,true),(5,true),(6,true),(7,true),(8,false),(9,true),(10,true),(11,true),(12,false)] (sk (sl sr)) (Al (v:=(pP b4 2)) O (AA O underlying30 O sizeOf24 O) (BM 1 (Value.slice rm.p ((BB (ps.length+vs.length) us).length) ((BB (ps.length+vs.length) us).length)) D4 O (BV O (BV O (Al (v:=(pP b5 0)) O (AA O underlying110 O sizeOf3 O) (BM 0 (vI ((CQ sd2).1)) BL O (Al (v:=(pP b5 1)) O (AA O underlying110 O sizeOf3 O) (BM 0 (vI ((CQ sd2).2.1)) BL O (OkE.imp O ?_)))))))))))
    refine ck' call44 (B_ sd2.1 sd2.2.1) O (OkE.back (sk (sl sr)) (Al (v:=(vI ((A7 (Ci ps.length ss vs) (min sd2.1 sd2.2.1,max sd2.1 sd2.2.1)).getD 0))) O (Bu C4 4 (eV:=vI) (kvs:=Ci ps.length ss vs) (x:=(min sd2.1 sd2.2.1,max sd2.1 sd2.2.1)) (z0:=0) (co:=false) O O underlying112 zeroValue3 O (JI hvl Z) (BQ Z Z)) (Al (v:=(pP (pB rm.p) (pO rm.p+j*3))) O (AL (j:=j) O O rm.ok.clip underlying24 sizeOf110 O Z) (Al (v:=(pP (pB rm.p) (pO rm.p+(j*3+2)))) O (AA O underlying110 O sizeOf3 (Nat.add_assoc _ _ _)) (OkE.imp O (OkL.storeObj 1 (enc:=Ac) (j:=j) (r:=2) (x':=(((((F4 (Ci ps.length ss vs) (BB (ps.length+vs.length) us) j).getD j ((0,0,0):Z3)).1),(((F4 (Ci ps.length ss vs) (BB (ps.length+vs.length) us) j).getD j ((0,0,0):Z3)).2.1),((A7 (Ci ps.length ss vs) (min sd2.1 sd2.2.1,max sd2.1 sd2.2.1)).getD 0)):Z3)) (vs:=[(vI ((A7 (Ci ps.length ss vs) (min sd2.1 sd2.2.1,max sd2.1 sd2.2.1)).getD 0))]) ((0,0,0):Z3) Ay rm.ok Hu O O O (Av.ne rm.ok.clip Z) Z O sizeOf3 O O (OkE.back (sk (sl sr)) (OkE.nil (OkQ.subF (sL [6,7,10,128,129,130,16] O) (OkQ.in_normal (OkQ.then_ ?_)))))))))))
    refine OkC.region (AH (AX (c:=((j+1:Nat):Int)) O O (AR (a:=j) (b:=1) Z)) O (AM O (OkL.nil (OkQ.subF (sL [6,7,10,128,129,130,16] O) ?_))))
    rw [Qo Z (by rw [hsd2];rfl)]
    exact OkQ.round1 (j+1) Z Z (sF O) (sl sr)
   ·replace hc4:=of_decide_eq_false hc4
    exact OkC.exit (OkQ.then_exit (OkQ.round1_exit (OkQ.in_exit (q2 (BH 1 Dn O (FG 5 (off:=0) (vs:=[(Value.slice p1 (ps.length+vs.length) (ps.length+vs.length)),(Value.slice cl2.p us.length us.length),(Value.slice rm.p ((BB (ps.length+vs.length) us).length) ((BB (ps.length+vs.length) us).length))]) (cs':=[(Value.slice p1 (ps.length+vs.length) (ps.length+vs.length)),(Value.slice cl2.p us.length us.length),(Value.slice rm.p ((BB (ps.length+vs.length) us).length) ((BB (ps.length+vs.length) us).length))]) (AP O) O sizeOf30 O (OkL.nil (OkQ.subF (sL [6,7,10,128,129,130] O) (OkQ.then_ (OkC.ret (ret_one O (Ak (i:=5) (cs:=[(Value.slice p1 (ps.length+vs.length) (ps.length+vs.length)),(Value.slice cl2.p us.length us.length),(Value.slice rm.p ((BB (ps.length+vs.length) us).length) ((BB (ps.length+vs.length) us).length))]) O O isAgg30 sizeOf30 O) (λw hw=>(by rw [show EJ ps.length es es.length=vs by rw [hvs,hie]];rw [show L8 ps.length ss vs us=F4 (Ci ps.length ss vs) (BB (ps.length+vs.length) us) j from by rw [show j=(BB (ps.length+vs.length) us).length by omega,Sc];rfl];exact XN hw 3 2 0 O O O ho cl2.ok.clip hn_cl2 rm.ok (by rw [Gj]) O (by rw [Hu]) O)))))))))))))
end
section
open Go Go.RowKit Go.Builtin
section
variable {P:Program} {t:TypeId} {q:Option Addr} {c c2:Nat} {cs news:List Value}
theorem Iy (w:World) {n m:Nat} {ty e:TypeId} {z bytes:Nat} (ht:ElemT P t e z bytes) (ho:OwnOk q n c) (hl:cs.length=n*z) (hold:∀b,q.map (·.block)=some b->∃o,w.heap[b]?=some o/\(rowW q e z n c cs).P o)
    (a:Addr) (hnl:news.length=m*z) (hnews:∀j u,news[j]?=some u->w.cell? (a.add j)=some u) (h1:∀u∈news,u.oneCell'=true) (hm:0<m) (hroom:n+m<=c) :
    ∃w',(Builtin.append_ #[t,t] ty #[.slice q n c,.slice (some a) m c2]).run P w=.ok (.slice q (n+m) c) w'/\OwnOk q (n+m) c/\Kc w w' (q.map (·.block)) /\
      ∀b,q.map (·.block)=some b->(q.map (·.block)=some b\/w.heap.size<=b)/\∃o,w'.heap[b]?=some o/\(rowW q e z (n+m) c (cs++news)).P o:=by
  obtain ⟨i,zv,hi,hz,rfl,rfl,hzs⟩:=ht.i
  have hlen:(cs++news).length=(n+m)*i.size:=by rw [List.length_append,hl,hnl,Nat.add_mul]
  cases hq:q with
  | none =>
    subst hq
    obtain ⟨rfl,rfl⟩:=ho.nil rfl
    omega
  | some ad =>
    subst hq
    obtain ⟨o,hob,cur,rfl,hcs,htake⟩:=hold ad.block rfl
    have hat:=ho.at0 ad rfl
    rw [hat]
    have hfit:n*i.size+news.length<=cur.size:=by rw [hnl,hcs,<-Nat.add_mul];exact Nat.mul_le_mul_right _ hroom
    have hr:=run_append_room (P:=P) w t ty e i ht.u hi ad.block n c cur hob a m c2 news hnl hnews h1 hroom hfit
    refine ⟨_,hr,⟨λh=>(by cases h),λa h=>(by injection h with h;subst h;rfl),hroom,ho.max⟩,⟨⟨rfl,rfl,rfl,by simp,λk _ hk=>setRow_other w ad.block k _ (λe=>hk (by simp [e]))⟩,Nat.le_refl _⟩,λb e=>?_⟩
    injection e with e;subst e
    refine ⟨.inl O,_,setRow_heap w ad.block cur _ e _ hob,_,rfl,?_,?_⟩
    · simp only [List.size_toArray,List.length_append,List.length_take,List.length_drop,Array.length_toList]
      omega
    · rw [htake,<-hlen]
      exact List.take_left
end
section
variable {P:Program} {ops:Array Oper} {rest:List Oper} {Q:Exit->Act->World->Prop} {n d b z m c c2:Nat} {F:List (Nat×Value)} {w0:A_} {L:List As} {t ty T:TypeId} {p:String} {af:Array Edge} {x:Operand} {cs cs2 news:List Value} {q:Option Addr}
theorem OkL.appendK (i j:Nat) {s:Operand} {n' bytes:Nat} {tn:TypeId} (ht:ElemT P t T z bytes) (hs:evF F s=some (.slice q n' c)) (hi:L[i]?=some (rowW q T z n' c cs)) (ho:OwnOk q n' c) (hl:cs.length=n'*z)
    (hx:evF F x=some (.slice (some ⟨b,0,none⟩) m c2)) (hj:L[j]?=some (AU b tn news)) (hnl:news.length=m*z) (h1:(news.all λu=>u.oneCell')=true) (hm:0<m) (hroom:n'+m<=c) (hcs:cs++news=cs2) (hd:Nat.ble (d+1) n=true)
    (next:OwnOk q (n'+m) c->OkL P ops rest Q n ((d,.slice q (n'+m) c)::F) w0 (L.set i (rowW q T z (n'+m) c cs2))) :
    OkL P ops (⟨some d,.call { callee:=.builtin .append,args:=#[s,x],argTypes:=#[t,t] },ty,p,af,none⟩::rest) Q n F w0 L:=λa w ha hW=>by
  subst hcs
  have hnews:∀j u,news[j]?=some u->w.cell? ((⟨b,0,none⟩:Addr).add j)=some u:=λj u hu=>by
    have h:=cell_of_row w b j _ tn (0,0) (hW.get hj)
    rw [Addr.add_lit]
    simp only [Nat.zero_add]
    rw [h];simpa using hu
  obtain ⟨w',hr,h2,h4,h5⟩:=Iy (P:=P) (c2:=c2) (ty:=ty) w ht ho hl (hW.holds hi) ⟨b,0,none⟩ hnl hnews (λu hu=>List.all_eq_true.1 h1 u hu) hm hroom
  unfold wpList
  rw [if_pos (AP rfl a ha)]
  left
  unfold Oper.wp
  have e1:=ha.ev hs
  have e2:=ha.ev hx
  have he:(execOp a.eval ⟨some d,.call { callee:=.builtin .append,args:=#[s,x],argTypes:=#[t,t] },ty,p,af,none⟩).run P w=.ok (.value (.slice q (n'+m) c)) w':=by
    simp only [execOp,resolve,invoke,builtin,Sem.run_bind,Sem.run_pure,Result.andThen_ok,List.map_toArray,List.map_cons,List.map_nil,e1,e2,hr]
  rw [he,Oper.upon_value]
  exact next h2 _ _ (ha.put (Bj hd)) (hW.renew hi O h4 h5)
end
end
end Go.Proofs.YtpolhpjiahbidaaGreatDoor
