import Derived.Test.YtpolhpjiahbidaaGreatDoorPart15
import Derived.Test.YtpolhpjiahbidaaGreatDoorPart26
namespace Go.Proofs.YtpolhpjiahbidaaGreatDoor
open Go Go.RowKit Go.Proofs.Tryz
open Go.Value renaming slice→qw,bool→qa
set_option linter.unusedVariables false
set_option linter.unusedSimpArgs false
section
set_option maxRecDepth 100000
theorem YT {N M K:Nat} (x:RU N M K) (bo:BX (FF x)) (z:Int) (w:World) {S:Nat->Prop} (hbo:Ro S w bo):Calls prog 62 #[(vI z),(pP bo.b 0)] w (Ak w (qa (!Ay M z))):=by
 have lbo:=Bx (W:=w) hbo
 refine AX (args:=[(vI z),(pP bo.b 0)]) (L:=[AB (some ⟨bo.b,0,none⟩) (FF x)]) func62 O O (Av O) (DF hbo Ah) (zN (sL [0,1] O) (q4 (asg' O (oNl' (q2 (AM O (AG (Ae (c:=(decide (z<(0:Int)))) O O O) O (AM O ?_))))))))
 refine zX (FM:=[(0,(vI z)),(1,(pP bo.b 0)),(3,(qa false)),(4,(vI z)),(5,(qa (decide (z<(0:Int))))),(6,(qa (decide (z<(0:Int))))),(12,(qa ((decide (z<(0:Int)))||(decide (((M:Nat):Int)<=z)))))]) (LM:=[AB (some ⟨bo.b,0,none⟩) (FF x)]) 6 ?_ ?_
 ·rcases xO (decide (z<(0:Int))) with hg1|hg1
  ·refine zC (k:=6) (u:=qa true) O (by rw [hg1]) ?_
   have hg1':=xR hg1
   exact Ar O (Ar O (Ar O (Ar O (Ar O (AG (v:=(qa true)) (AN O O) O (oNl' (zR Bg (xP _))))))))
  ·refine zC (k:=6) (u:=qa false) O (by rw [hg1]) ?_
   have hg1':=xQ hg1
   exact Ds O (Au (v:=(pP bo.b 1)) O (AA O underlying30 O sizeOf23 O) (Au (v:=(qw x.b.p M x.b.c)) O (AK (q:=some ⟨bo.b,0,none⟩) (v:=(qw x.b.p M x.b.c)) (off:=1) (i:=0) O O (λe=>by cases e) B1 O) (Au (v:=(vN M)) O (AC O underlying23) (Au (v:=(qa (decide (((M:Nat):Int)<=z)))) O (Bp (c:=(decide (((M:Nat):Int)<=z))) O O O) (AG (v:=(qa (decide (((M:Nat):Int)<=z)))) (AI O O) O (oNl' (zR Bg (xP _))))))))
 exact asg' O (oNl' (zB (sL [3] O) (zA (zF (ret_one O (rd_tmp (v:=(qa ((decide (z<(0:Int)))||(decide (((M:Nat):Int)<=z))))) O) (λw hw=>⟨by congr 2;rw [Bool.eq_iff_iff];unfold Ay;simp<;>omega,hw.out⟩))))))
theorem YV {N M K:Nat} (x:RU N M K) (bo:BX (FF x)) (ms:List Int) (y:RX (zL ms) ms.length) (hml:ms.length<=1000000) (w:World) {S:Nat->Prop} (hbo:Ro S w bo) (hy:Ro S w y):Calls prog 118 #[(qw y.p ms.length y.c),(Value.func (.func 62) #[] #[(pP bo.b 0)])] w (Ak w (vI (idxM M ms 0))):=by
 have lbo:=Bx (W:=w) hbo
 have ly:=Bx (W:=w) hy
 refine AX (args:=[(qw y.p ms.length y.c),(Value.func (.func 62) #[] #[(pP bo.b 0)])]) (L:=[AB (some ⟨bo.b,0,none⟩) (FF x),AB y.p (zL ms)]) func118 O O (Av O) (DF hbo (DF hy Ah)) (zN (sL [0,1] O) (q4 (asg' O (oNl' (q1 (q4 (AM O (AG (v:=(vN ms.length)) (AC O underlying32) O (AM O (oNl' (zB (sL [0,1,4,7,8] O) ?_)))))))))))
 refine zA (zI ?_)
 refine zo (tg λ(j:Nat)=>j<=ms.length/\idxM M ms 0=idxM M (ms.drop j) j) (tg λ(j:Nat)=>[(0,(qw y.p ms.length y.c)),(1,(Value.func (.func 62) #[] #[(pP bo.b 0)])),(7,(vN ms.length)),(8,(vN j))]) (tg λ(j:Nat)=>[AB (some ⟨bo.b,0,none⟩) (FF x),AB y.p (zL ms)]) (tg λ(j:Nat)=>ms.length-j) 0 (⟨xH _,rfl⟩) (sF O) sr (λj hJ=>?_)
 obtain ⟨hj,he⟩:=hJ
 refine q4 (AG (Ae (c:=(decide (j<ms.length))) O O (CM (a:=j) (b:=ms.length))) O (oNl' (q1 ?_)))
 refine zM O (λhc0=>?_) (λhc0=>?_)
 ·replace hc0:=xR hc0
  refine zG (q1 (zI (q4 (AM O (asg' O (q3 (sL [0,1,7,8,5] O) (AM O (AM O (AM O (AG (v:=(pP (pB y.p) (pO y.p+j*1))) (AF (j:=j) O O y.ok underlying32 sizeOf3 O Z) O (AG (AK (v:=(vI (ms.getD j 0))) (i:=1) O O (y.ok.ne Z) BN (Ea (l:=ms) (j:=j) Z)) O ?_)))))))))))
  refine zd (v:=(qa (!Ay M (ms.getD j 0)))) (AJ O) (DM (args:=[(vI (ms.getD j 0))]) (caps:=[(pP bo.b 0)]) (all:=[(vI (ms.getD j 0)),(pP bo.b 0)]) O O O call62) (λw hw=>YT x bo (ms.getD j 0) w (inS hw 0 O lbo)) O (Av O) (oNl' (zB (sL [0,1,7,8,5,16] O) (zA ?_)))
  refine zM O (λhc1=>?_) (λhc1=>?_)
  ·simp only [jK] at hc1
   have hfin:=he.trans (WS Z (by simpa using hc1))
   exact q4 (AM O (asg' O (oNl' (zB (sL [0,1,7,8,5,4] O) (zA (zF (zY (zO (zk (zY (zO (ret_one O (rd_tmp (v:=(vN j)) O) (λw hw=>⟨by rw [hfin],hw.out⟩)))))))))))))
  ·simp only [jK] at hc1
   exact zG (zJ (zA (zH (AG (AW (c:=((j+1:Nat):Int)) O O (AU (a:=j) (b:=1) Z)) O (AM O (oNl' (zB (sL [0,1,7,8,5] O) (zc (j+1) (⟨Z,he.trans (UJ Z (by simpa using hc1))⟩) Z (sF O) sr))))))))
 ·replace hc0:=xQ hc0
  have hfin:=he.trans (VZ hc0)
  exact zU (zP (za (zS (q2 (asg' O (oNl' (zA (zF (ret_one O (rd_tmp (v:=(vI (-1:Int))) O) (λw hw=>⟨by rw [hfin],hw.out⟩))))))))))
theorem QK {N M K:Nat} (x:RU N M K) (bo:BX (FF x)) (ms:List Int) (y:RX (zL ms) ms.length) (hml:ms.length<=1000000) (w:World) {S:Nat->Prop} (hbo:Ro S w bo) (hy:Ro S w y):Calls prog 61 #[(qw y.p ms.length y.c),(Value.func (.func 62) #[] #[(pP bo.b 0)])] w (Ak w (qa (!ms.all (Ay M)))):=by
 have lbo:=Bx (W:=w) hbo
 have ly:=Bx (W:=w) hy
 refine AX (args:=[(qw y.p ms.length y.c),(Value.func (.func 62) #[] #[(pP bo.b 0)])]) (L:=[AB (some ⟨bo.b,0,none⟩) (FF x),AB y.p (zL ms)]) func61 O O (Av O) (DF hbo (DF hy Ah)) (zN (sL [0,1] O) (q4 (asg' O (oNl' (q2 (AM O (AM O (Ct call118 (λw hw=>YV x bo ms y hml w (inS hw 0 O lbo) (inS hw 1 O ly)) O (AG (Bp (c:=(!ms.all (Ay M))) O O (NN M ms 0)) O (asg' O (oNl' ?_)))))))))))
 exact zB (sL [4] O) (zA (zF (ret_one O (rd_tmp (v:=(qa (!ms.all (Ay M)))) O) (λw hw=>⟨rfl,hw.out⟩))))
theorem HA  :Instr.fill ([(0,1),(1,1),(2,1)].toArray[·]?) ([jj,jj,jj]).toArray []=some ([jj,jj,jj]).toArray:=by kernel_rfl
theorem Uu {N M K:Nat} (x:RU N M K) (hu:∀(S:Nat->Prop) (w:World),Ro S w x->Calls prog 43 #[(aG (FF x))] w (Ak w (qa false))) (ms:List Int) (y:RX (zL ms) ms.length) (hml:ms.length<=1000000) (w:World) {S:Nat->Prop} (hx:Ro S w x) (hy:Ro S w y):Calls prog 19 #[(aG (FF x)),(qw y.p ms.length y.c)] w (Ad (S8 [] [] [] [] 1) S w):=by
 have lx:=Bx (W:=w) hx
 have ly:=Bx (W:=w) hy
 refine AX (args:=[(aG (FF x)),(qw y.p ms.length y.c)]) (L:=[AB x.a.p (x.cs),AB x.b.p (x.es),AB x.c.p (x.ds),AB y.p (zL ms)]) func19 O O (Av O) (DF hx (DF hy Ah)) (zN (sL [0,1] O) (q4 (Bb (cs:=FF x) O λb1=>al IM O λb2=>al bO O λb3=>asg' O (q6 (sL [1,2,4,5,6] O) (q4 (BD 2 Do O (Ct call43 (λw hw=>hu _ w (inS hw 3 O lx)) O (AG (BQ (c:=true) O O) O ?_))))))))
 refine AM O (Ar O (Ar O (Ar O (AG (v:=(qa true)) (AN O O) O (oNl' (zB (sL [1,2,4,5,6,22] O) (zA (ze O (q4 (AG (v:=(aG ([jj,jj,jj]))) (AT (zs:=[jj,jj,jj]) (vs:=[jj,jj,jj]) (pv:=[]) (places:=[(0,1),(1,1),(2,1)]) zeroValue30 underlying30 (λw=>by simp [sizeOf23,sizeOf24,sizeOf28]) O (HA )) O (EK O sizeOf30 O ?_)))))))))))
 exact Ax O sizeOf32 O (asg' O (oNl' (zB (sL [1,2,4,5,6] O) (zA (zF (zO (DD O (Ai (i:=1) (cs:=[jj,jj,jj]) O O isAgg30 sizeOf30 O) (Q9 (i:=0) (v:=jj) O O isAgg32 O) (rd_tmp (v:=(vI 1)) O) (λw hw=>(Sr hw 1 O)))))))))
theorem Y8 {N M K:Nat} (x:RU N M K) (hu:∀(S:Nat->Prop) (w:World),Ro S w x->Calls prog 43 #[(aG (FF x))] w (Ak w (qa false))) (ms:List Int) (y:RX (zL ms) ms.length) (hml:ms.length<=1000000) (w:World) {S:Nat->Prop} (hx:Ro S w x) (hy:Ro S w y):Calls prog 21 #[(aG (FF x)),(qw y.p ms.length y.c)] w (Ad (CX (rowsL BL ([]:List E4)) 0) S w):=by
 have lx:=Bx (W:=w) hx
 have ly:=Bx (W:=w) hy
 refine AX (args:=[(aG (FF x)),(qw y.p ms.length y.c)]) (L:=[AB x.a.p (x.cs),AB x.b.p (x.es),AB x.c.p (x.ds),AB y.p (zL ms)]) func21 O O (Av O) (DF hx (DF hy Ah)) (zN (sL [0,1] O) (q4 (Bb (cs:=FF x) O λb1=>asg' O (q6 (sL [1,2,4] O) (q4 (BD 0 Do O (Ct call43 (λw hw=>hu _ w (inS hw 1 O lx)) O (AG (BQ (c:=true) O O) O (oNl' (zB (sL [1,2,4,7] O) ?_))))))))))
 exact zA (ze O (q4 (asg' O (oNl' (zB (sL [1,2,4] O) (zA (zF (zO (ret_one O (rd_tmp (v:=jj) O) (λw hw=>⟨⟨none,OwnOk.none.row⟩,rfl,hw.out,λy hy=>by rcases xM.1 hy with rfl;exact ⟨(λb e=>by cases e),(λb e=>by cases e)⟩⟩))))))))))
theorem VH {N M K:Nat} (x:RU N M K) (hu:∀(S:Nat->Prop) (w:World),Ro S w x->Calls prog 43 #[(aG (FF x))] w (Ak w (qa true))) (ms:List Int) (y:RX (zL ms) ms.length) (hml:ms.length<=1000000) (hva:ms.all (Ay M)=false) (w:World) {S:Nat->Prop} (hx:Ro S w x) (hy:Ro S w y):Calls prog 19 #[(aG (FF x)),(qw y.p ms.length y.c)] w (Ad (S8 [] [] [] [] 1) S w):=by
 have lx:=Bx (W:=w) hx
 have ly:=Bx (W:=w) hy
 refine AX (args:=[(aG (FF x)),(qw y.p ms.length y.c)]) (L:=[AB x.a.p (x.cs),AB x.b.p (x.es),AB x.c.p (x.ds),AB y.p (zL ms)]) func19 O O (Av O) (DF hx (DF hy Ah)) (zN (sL [0,1] O) (q4 (Bb (cs:=FF x) O λb1=>yn 0 O O λhnb1=>al IM O λb2=>al bO O λb3=>asg' O (q6 (sL [1,2,4,5,6] O) (q4 (AG (v:=(aG (FF x))) (AQ (q:=some ⟨b1,0,none⟩) (vs:=FF x) (off:=0) (i:=2) O O (λe=>by cases e) Do O O) O (Ct call43 (λw hw=>hu _ w (inS hw 3 O lx)) O ?_)))))))
 refine AG (BQ (c:=false) O O) O (AM O (Ds O (Au (v:=(Value.func (.func 62) #[] #[(pP b1 0)])) O (Dl (vs:=[]) (us:=[(pP b1 0)]) O O) (zd (v:=(qa true)) (AH O) (Aw (args:=[(qw y.p ms.length y.c),(Value.func (.func 62) #[] #[(pP b1 0)])]) O O call61) (λw hw=>(by have h9:=QK x ⟨b1⟩ ms y hml w (dW (x:=(⟨b1⟩:BX (FF x))) hw 2 O hnb1) (inS hw 6 O ly);rw [hva] at h9;exact h9)) O (Av O) (AG (v:=(qa true)) (AI O O) O (oNl' (zB (sL [1,2,4,5,6,22] O) (zA (ze O (q4 (AG (v:=(aG ([jj,jj,jj]))) (AT (zs:=[jj,jj,jj]) (vs:=[jj,jj,jj]) (pv:=[]) (places:=[(0,1),(1,1),(2,1)]) zeroValue30 underlying30 (λw=>by simp [sizeOf23,sizeOf24,sizeOf28]) O (HA )) O ?_)))))))))))
 exact EK O sizeOf30 O (Ax O sizeOf32 O (asg' O (oNl' (zB (sL [1,2,4,5,6] O) (zA (zF (zO (DD O (Ai (i:=1) (cs:=[jj,jj,jj]) O O isAgg30 sizeOf30 O) (Q9 (i:=0) (v:=jj) O O isAgg32 O) (rd_tmp (v:=(vI 1)) O) (λw hw=>(Sr hw 1 O))))))))))
theorem KL (x0 x1:Nat):Instr.fill (λi=>some (i*1,1)) (DC ((0,0):P2)).toArray [(0,vN x0),(1,vN x1)]=some (DC (x0,x1)).toArray:=by kernel_rfl
set_option maxHeartbeats 4000000 in
theorem OQ {ps:List Pt} {ts:List T3} {ss:List Z3} (x:MN ps ts ss) (ms:List Int) (y:RX (zL ms) ms.length) (hnb:Bu ps.length ts=true) (hz:∀i,DU (IR ps i)<=1000000) (hsl:ss.length<=1000000) (hml:ms.length<=1000000) (hva:ms.all (Ay ts.length)=true) (hlim:ps.length+(BG ts).length<=4096/\4*ts.length<=8192) (w:World) {S:Nat->Prop} (hx:Ro S w x) (hy:Ro S w y):Calls prog 19 #[(aG (Hi x)),(qw y.p ms.length y.c)] w (Ad (ez ps ts ss ms) S w):=by
 obtain ⟨hl1,hl2⟩:=hlim
 have hel0:=IG ts
 have lx:=Bx (W:=w) hx
 have ly:=Bx (W:=w) hy
 refine AX (args:=[(aG (Hi x)),(qw y.p ms.length y.c)]) (L:=[AB x.a.p (rowsL BB ps),AB x.b.p (rowsL Ac ts),AB x.c.p (rowsL AS ss),AB y.p (zL ms)]) func19 O O (Av O) (DF hx (DF hy Ah)) (zN (sL [0,1] O) (q4 (Bb (cs:=Hi x) O λb1=>yn 0 O O λhnb1=>al IM O λb2=>al bO O λb3=>zf 3 1 (asg' O (q6 (sL [1,2,4,5,6] O) (q4 (AG (v:=(aG (Hi x))) (AQ (q:=some ⟨b1,0,none⟩) (vs:=Hi x) (off:=0) (i:=3) O O (λe=>by cases e) Do O O) O ?_)))))))
 refine Ct (args:=[(aG (Hi x))]) (v:=(qa true)) call43 (λw hw=>(by obtain ⟨y2,hy2,hro⟩:=Pc x;have h9:=G2 y2.rq (by rw [xI];omega) w (Ta (hro (inS hw 4 O lx)));rw [Hm,hnb,show Hr y2.rq=Hi x from hy2] at h9;exact h9)) O (AG (BQ (c:=false) O O) O (AM O (Ds O (Au (v:=(Value.func (.func 62) #[] #[(pP b1 0)])) O (Dl (vs:=[]) (us:=[(pP b1 0)]) O O) (zd (v:=(qa false)) (AH O) (Aw (args:=[(qw y.p ms.length y.c),(Value.func (.func 62) #[] #[(pP b1 0)])]) O O call61) (λw hw=>(by have h9:=QK x.ru ⟨b1⟩ ms y Z w (dW (x:=(⟨b1⟩:BX (Hi x))) hw 3 O hnb1) (inS hw 7 O ly);rw [hva] at h9;exact h9)) O (Av O) (AG (v:=(qa false)) (AI O O) O (oNl' (zB (sL [1,2,4,5,6,22] O) (zA (zb O (zG ?_)))))))))))
 refine q1 (CQ [(0,true),(1,true),(2,true),(3,false),(4,false),(5,true)] sr (Aj (v:=(aG (Hi x))) O (AQ (q:=some ⟨b1,0,none⟩) (vs:=Hi x) (off:=0) (i:=3) O O (λe=>by cases e) Do O O) (Aj (v:=(aG (Hi x))) O (AQ (q:=some ⟨b1,0,none⟩) (vs:=Hi x) (off:=0) (i:=3) O O (λe=>by cases e) Do O O) (BT O (zK O (zm (S:=S) (α:=HC ts ms) (args:=[(aG (Hi x)),(qw y.p ms.length y.c)]) call64 (λw hw=>(by obtain ⟨y2,hy2,hro⟩:=WN x;have h9:=I6 y2 ms y hnb Z Z Z w (hro (inS hw 4 O lx)) (inS hw 7 O ly);rw [hy2] at h9;exact h9)) O O O λh lh=>zD (sl sr) (zK O (zm (S:=S) (α:=DX ts ms) (args:=[(aG (Hi x)),(Value.map (some h.b))]) call63 (λw hw=>(by obtain ⟨y2,hy2,hro⟩:=WN x;have h9:=Jm y2 h hnb Z Z w (hro (inS hw 5 O lx)) (inS hw 0 O lh);rw [hy2] at h9;exact h9)) O O O λu lu=>zD (sl (sl sr)) (pS' O ?_)))))))))
 have hul:=TP u.el
 refine zT (zB (sL [1,2,4,5,6,7] O) (q2 (yV ER vN (AJ O) O λb4=>?_)))
 rw [show ([]:List (P2×Nat))=Aq ps.length u.l 0 from rfl]
 refine al bn O λb5=>Ax O sizeOf135 O (q6 (sL [1,2,4,5,6,7,8] O) (q4 (AM O (AG (v:=(vN u.l.length)) (AC O underlying46) O (AM O (oNl' (zA (zI ?_))))))))
 refine zo (tg λ(i:Nat)=>i<=u.l.length) (tg λ(i:Nat)=>[(2,(pP b1 0)),(4,(pP b2 0)),(5,(pP b3 0)),(6,(vI 0)),(7,(qw u.r.p u.l.length u.r.c)),(8,(pP b5 0)),(30,(qw u.r.p u.l.length u.r.c)),(31,(vN u.l.length)),(32,(vN i))]) (tg λ(i:Nat)=>[AR b5 135 ([(Value.map (some b4))]),CC b4 ER vN (Aq ps.length u.l i),AB u.r.p (rowsL BL u.l),OE h.b ER vN h.kvs,rowW none 3 1 0 0 (inL ([])),AR b3 32 ([jj]),AR b2 30 ([jj,jj,jj]),AB (jk b1) (Hi x),AB x.a.p (rowsL BB ps),AB x.b.p (rowsL Ac ts),AB x.c.p (rowsL AS ss),AB y.p (zL ms)]) (tg λ(i:Nat)=>u.l.length-i) 0 (xH _) (sF O) sr (λi hJ=>?_)
 have hi:=hJ
 refine q4 (AG (Ae (c:=(decide (i<u.l.length))) O O (CM (a:=i) (b:=u.l.length))) O (oNl' (q1 ?_)))
 refine zM O (λhc1=>?_) (λhc1=>?_)
 ·replace hc1:=xR hc1
  obtain ⟨ed,hed⟩:∃q,q=u.l.getD i jA:=⟨_,rfl⟩
  obtain ⟨hea,heb⟩:=GD hnb Z (e:=ed) (by have h9:ed∈u.l:=(by rw [hed,List.getD,xN hc1];exact List.getElem_mem hc1);rw [u.el] at h9;exact (List.mem_filter.1 h9).1)
  refine zG (q1 (zI (q4 (AM O (AG (v:=(pP (pB u.r.p) (pO u.r.p+i*4))) (AF (j:=i) O O u.r.ok underlying46 sizeOf49 O Z) O (AG (v:=(aG (BL (u.l.getD i jA)))) (AQ (vs:=BL (u.l.getD i jA)) (i:=2) O O (An.ne u.r.ok Z) OL (Al Bh _ _ _ Z) (Bh _)) O (zC (k:=36) (u:=(aG (BL ed))) O (by rw [hed]) (al PJ O λb6=>asg' O (Ax O sizeOf49 O (oNl' ?_))))))))))
  refine zB (sL [2,4,5,6,7,8,30,31,32,10,9] O) (zA (zH (Az 1 (Value.map (some b4)) Uv O (AG (v:=(pP b6 0)) (AA O underlying49 O sizeOf3 O) O (Az 0 (vN ed.a) BN O (AG (v:=(pP b6 1)) (AA O underlying49 O sizeOf3 O) O (Az 0 (vN ed.b) BN O (AG (v:=(aG (DC (ed.a,ed.b)))) (BF (zs:=DC ((0,0):P2)) (vs:=DC (ed.a,ed.b)) (pv:=[(0,(vN ed.a)),(1,(vN ed.b))]) zeroValue137 underlying137 sizeOf3 O (KL ed.a ed.b)) O (AG (v:=(pP b1 0)) (AA O underlying30 O sizeOf28 O) O (AG (AK (q:=some ⟨b1,0,none⟩) (v:=(qw x.a.p ps.length x.a.c)) (off:=0) (i:=8) O O (λe=>by cases e) GG O) O (AG (v:=(vN ps.length)) (AC O underlying28) O ?_)))))))))))
  refine AM O (AG (AW (c:=((ps.length+i:Nat):Int)) O O (AU (a:=ps.length) (b:=i) Z)) O (yE H7 2 (kvs:=Aq ps.length u.l i) (x:=(ed.a,ed.b)) (y:=ps.length+i) (AJ O) O O O underlying135 O (No (MJ hnb Z u.el) Z _ Z) (⟨by show ed.a<_;omega,by show ed.b<_;omega⟩) ?_))
  rw [show BZ (Aq ps.length u.l i) (ed.a,ed.b) (ps.length+i)=Aq ps.length u.l (i+1) from by rw [show ((ed.a,ed.b):P2)=Br ed.a ed.b from Prod.ext (by show _=min _ _;omega) (by show _=max _ _;omega),hed];rfl]
  exact oNl' (zB (sL [2,4,5,6,7,8,30,31,32,10] O) (zJ (zA (zH (AG (AW (c:=((i+1:Nat):Int)) O O (AU (a:=i) (b:=1) Z)) O (AM O (oNl' (zB (sL [2,4,5,6,7,8,30,31,32,10] O) (zc (i+1) Z Z (sF O) (sl sr))))))))))
 ·replace hc1:=xQ hc1
  have hie:i=u.l.length:=by omega
  obtain ⟨md,hmdq⟩:∃q,q=Aq ps.length u.l u.l.length:=⟨_,rfl⟩
  have hmd1:H3 KD md:=hmdq▸No (MJ hnb Z u.el) Z _ (Nat.le_refl _)
  have hmd2:∀k n,Ap md k=some n->n<4611686018427387904:=λk n h=>by have:=Y2 (N:=ps.length) _ (Nat.le_refl _) k n (by rw [<-hmdq];exact h);omega
  rw [show Aq ps.length u.l i=md by rw [hie,hmdq]]
  refine zU (zP (za (zS (q2 (al eK O λb6=>zf 105 3 (oNl' (q2 (al br O λb7=>oNl' (q2 ?_)))))))))
  refine AG (v:=(Value.func (.func 65) #[] #[(pP b5 0),(pP b6 0),(pP b3 0),(pP b7 0)])) (Dl (vs:=[]) (us:=[(pP b5 0),(pP b6 0),(pP b3 0),(pP b7 0)]) O O) O (Ax O sizeOf138 O (q6 (sL [2,4,5,6,7,8,30,31,32,11,12] O) (q4 (AG (v:=(pP b1 1)) (AA O underlying30 O sizeOf23 O) O (AG (AK (q:=some ⟨b1,0,none⟩) (v:=(qw x.b.p ts.length x.b.c)) (off:=1) (i:=10) O O (λe=>by cases e) B1 O) O (AG (v:=(vN ts.length)) (AC O underlying23) O (AM O (oNl' (zB (sL [2,4,5,6,7,8,30,31,32,11,12,51,52,53] O) (zA (zI ?_)))))))))))
  refine yZ (tg λ(t:Nat) (p1:Option Addr) (c1:Nat) (p2:Option Addr) (c2:Nat)=>t<=ts.length/\OwnOk p1 (Da md ts t).length c1/\OwnOk p2 (CY md ts t).length c2) (tg λ(t:Nat) (p1:Option Addr) (c1:Nat) (p2:Option Addr) (c2:Nat)=>[(2,(pP b1 0)),(4,(pP b2 0)),(5,(pP b3 0)),(6,(vI 0)),(7,(qw u.r.p u.l.length u.r.c)),(11,(pP b6 0)),(12,(pP b7 0)),(51,(qw x.b.p ts.length x.b.c)),(52,(vN ts.length)),(53,(vN t))]) (tg λ(t:Nat) (p1:Option Addr) (c1:Nat) (p2:Option Addr) (c2:Nat)=>[AR b7 138 ([(Value.func (.func 65) #[] #[(pP b5 0),(pP b6 0),(pP b3 0),(pP b7 0)])]),rowW p1 105 3 ((Da md ts t).length) c1 (rowsL Ac (Da md ts t)),AR b6 23 ([(qw p1 ((Da md ts t).length) c1)]),AR b5 135 ([(Value.map (some b4))]),CC b4 ER vN md,AB u.r.p (rowsL BL u.l),OE h.b ER vN h.kvs,rowW p2 3 1 ((CY md ts t).length) c2 (inL (CY md ts t)),AR b3 32 ([(qw p2 ((CY md ts t).length) c2)]),AR b2 30 ([jj,jj,jj]),AB (jk b1) (Hi x),AB x.a.p (rowsL BB ps),AB x.b.p (rowsL Ac ts),AB x.c.p (rowsL AS ss),AB y.p (zL ms)]) (tg λ(t:Nat) (p1:Option Addr) (c1:Nat) (p2:Option Addr) (c2:Nat)=>ts.length-t) 0 none 0 none 0 (⟨xH _,OwnOk.none,OwnOk.none⟩) (sF O) sr (λt p1 c1 p2 c2 hJ=>?_)
  obtain ⟨ht,ho1,ho2⟩:=hJ
  have hvl:=Li (md:=md) t ht
  have hvp:=Ka (md:=md) t ht
  refine q4 (AG (Ae (c:=(decide (t<ts.length))) O O (CM (a:=t) (b:=ts.length))) O (oNl' (q1 ?_)))
  refine zM O (λhc2=>?_) (λhc2=>?_)
  ·replace hc2:=xR hc2
   obtain ⟨T,hT⟩:∃q,q=ts.getD t (0,0,0):=⟨_,rfl⟩
   obtain ⟨g1,g2,g3⟩:=Ee (Dt hnb hc2)
   rw [<-hT] at g1 g2 g3
   refine zG (q1 (zI (q4 (AM O (AG (v:=(pP (pB x.b.p) (pO x.b.p+t*3))) (AF (j:=t) O O x.b.ok underlying23 sizeOf105 O Z) O (AG (v:=(aG (Ac (ts.getD t jJ)))) (AQ (vs:=Ac (ts.getD t jJ)) (i:=12) O O (An.ne x.b.ok Z) B_ (Al Am _ _ _ Z) (Am _)) O (zC (k:=57) (u:=(aG (Ac T))) O (by rw [hT]) (al Id O λb8=>asg' O (Ax O sizeOf105 O (oNl' ?_))))))))))
   refine zB (sL [2,4,5,6,7,11,12,51,52,53,14,13] O) (zA (zH (Az 1 (Value.func (.func 65) #[] #[(pP b5 0),(pP b6 0),(pP b3 0),(pP b7 0)]) VG O (BD 0 B_ O (AM O ?_)))))
   have hq:=Hq md 2 T
   refine yw (v:=.tuple #[]) (α:=bZ) (K:=λa=>OwnOk a.pa (Da md ts t++Cg md 2 T).length a.ca/\OwnOk a.pp (CY md ts t++CU (Cg md 2 T).length t).length a.cp) (LO:=λa=>[AR b8 105 (Ac T),AR b7 138 ([(Value.func (.func 65) #[] #[(pP b5 0),(pP b6 0),(pP b3 0),(pP b7 0)])]),rowW a.pa 105 3 ((Da md ts t++Cg md 2 T).length) a.ca (rowsL Ac (Da md ts t++Cg md 2 T)),AR b6 23 ([(qw a.pa ((Da md ts t++Cg md 2 T).length) a.ca)]),AR b5 135 ([(Value.map (some b4))]),CC b4 ER vN md,AB u.r.p (rowsL BL u.l),OE h.b ER vN h.kvs,rowW a.pp 3 1 ((CY md ts t++CU (Cg md 2 T).length t).length) a.cp (inL (CY md ts t++CU (Cg md 2 T).length t)),AR b3 32 ([(qw a.pp ((CY md ts t++CU (Cg md 2 T).length t).length) a.cp)]),AR b2 30 ([jj,jj,jj]),AB (jk b1) (Hi x),AB x.a.p (rowsL BB ps),AB x.b.p (rowsL Ac ts),AB x.c.p (rowsL AS ss),AB y.p (zL ms)]) (AJ O) (DM (args:=[(aG (Ac T)),(vN t),(vI 2)]) (caps:=[(pP b5 0),(pP b6 0),(pP b3 0),(pP b7 0)]) (all:=[(aG (Ac T)),(vN t),(vI 2),(pP b5 0),(pP b6 0),(pP b3 0),(pP b7 0)]) O O O call65) (QI [5,4,2,3,8,9,1,0,6,7,10,11,12,13,14,15] (show List.Perm [5,4,2,3,8,9,1,0,6,7,10,11,12,13,14,15] (List.range 16) by decide) O) (λw hw=>(UK ⟨b4,b5,b6,b3,b7⟩ md t hmd1 hmd2 Z (Da md ts t) p1 c1 ho1 (CY md ts t) p2 c2 ho2 T ⟨Z,Z,Z⟩ (by simp only [Nat.reducePow];omega) (by simp only [Nat.reducePow];omega) w _ [AR b8 105 (Ac T),AB u.r.p (rowsL BL u.l),OE h.b ER vN h.kvs,AR b2 30 ([jj,jj,jj]),AB (jk b1) (Hi x),AB x.a.p (rowsL BB ps),AB x.b.p (rowsL Ac ts),AB x.c.p (rowsL AS ss),AB y.p (zL ms)] hw).mono λe w' ⟨h1,a,h2,h3⟩=>⟨h1,a,h2,h3.perm (QI [7,6,2,3,1,0,8,9,4,5,10,11,12,13,14,15] (show List.Perm [7,6,2,3,1,0,8,9,4,5,10,11,12,13,14,15] (List.range 16) by decide) O)⟩) (λd hd=>by cases hd<;>exact (Av O)) ?_;intro a ⟨ho3,ho4⟩
   have hsA:Da md ts (t+1)=Da md ts t++Cg md 2 T:=by rw [hT];exact HK Z
   have hsP:CY md ts (t+1)=CY md ts t++CU (Cg md 2 T).length t:=by rw [hT];rfl
   refine oNl' (zB (sL [2,4,5,6,7,11,12,51,52,53,14] O) (zJ (zA (zH (AG (AW (c:=((t+1:Nat):Int)) O O (AU (a:=t) (b:=1) Z)) O (AM O (oNl' (zB (sL [2,4,5,6,7,11,12,51,52,53,14] O) ?_))))))))
   rw [<-hsA,<-hsP]
   exact yK (t+1) a.pa a.ca a.pp a.cp (⟨Z,(by rw [hsA];exact ho3),(by rw [hsP];exact ho4)⟩) Z (sF O) (sl sr)
  ·replace hc2:=xQ hc2
   have hte:t=ts.length:=by omega
   have hA:Da md ts t=Gw md ts:=by rw [hte,ON]
   have hP:CY md ts t=CY md ts ts.length:=by rw [hte]
   rw [hA] at ho1 hvl
   rw [hP] at ho2
   rw [hA,hP]
   refine zU (zP (z8 (zS (q1 (q4 (AG (v:=(pP b1 0)) (AA O underlying30 O sizeOf28 O) O (AG (AK (q:=some ⟨b1,0,none⟩) (v:=(qw x.a.p ps.length x.a.c)) (off:=0) (i:=10) O O (λe=>by cases e) GG O) O (AG (v:=(vN ps.length)) (AC O underlying28) O (AM O (AG (v:=(vN u.l.length)) (AC O underlying46) O (AG (AW (c:=((ps.length+u.l.length:Nat):Int)) O O (AU (a:=ps.length) (b:=u.l.length) Z)) O ?_)))))))))))
   refine AG (Bv (c:=false) O O (xx Z)) O (AM O (Au (v:=(qw p1 ((Gw md ts).length) c1)) O (AE (i:=2) (v:=(qw p1 ((Gw md ts).length) c1)) O O B1.a O) (Au (v:=(vN ((Gw md ts).length))) O (AC O underlying23) (Au (v:=(qa false)) O (Bv (c:=false) O O (xx Z)) (AG (v:=(qa false)) (AI O O) O (yL 1 O ho1 (AV Am _) O O λhn_AL=>oNl' (zB (sL [2,4,5,6,7,11,12,51,52,53,74] O) (zA (zb O (zG ?_))))))))))
   refine q1 (eR 3 [0,1,2,4] [(5,false)] 6 [(7,false),(8,true)] sr (sk (sk (sk (sk (sk (sk (sk (sk (sl (sl sr)))))))))) jV (λ_ _ d _ _ h=>by cases d<;>exact h) (yQ (v:=(aG (Hi x))) O (AJ O) (AQ (q:=some ⟨b1,0,none⟩) (vs:=Hi x) (off:=0) (i:=10) O O (λe=>by cases e) Do O O) O O (yQ (v:=(qw u.r.p u.l.length u.r.c)) O (AJ O) (BE O) O O (yQ (v:=(qw p1 ((Gw md ts).length) c1)) O (AJ O) (AE (i:=2) (v:=(qw p1 ((Gw md ts).length) c1)) O O B1.a O) O O (yQ (v:=(qw p2 ((CY md ts ts.length).length) c2)) O (AJ O) (AE (i:=8) (v:=(qw p2 ((CY md ts ts.length).length) c2)) O O aj.a O) O O (y9 (xA O O jV (zm (S:=S) (α:=an (IP ps (JS ps.length u.l)) ((Gw md ts).map Ba) (Fj ps.length ss (JS ps.length u.l) ((Gw md ts).map Ba))) (args:=[(aG (Hi x)),(qw u.r.p u.l.length u.r.c),(qw p1 ((Gw md ts).length) c1)]) call16 (λw hw=>Q4 x u.l u.r (Gw md ts) ⟨p1,c1,ho1.row⟩ hz Z Z Z Z w (inS hw 11 O lx) (inS hw 5 O lu) (inS hw 1 O (At.new hn_AL))) O O O λf hf=>zj (sl (sl (sl sr))) (zp O (ck' call67 (Ww p2 ((CY md ts ts.length).length) c2 ho2.row.le) O ?_))))))))))
   exact zj (sl (sl (sl sr))) (yC O (Ek 12 (off:=0) (vs:=B9 f.m) (cs':=B9 f.m) (AJ O) O sizeOf30 O (zD (sl (sl (sl (sk (sk (sk (sk (sk (sk (sk (sk (sl (sl sr))))))))))))) (zK O (Ek 11 (off:=0) (vs:=[(qw p2 ((CY md ts ts.length).length) ((CY md ts ts.length).length))]) (cs':=[(qw p2 ((CY md ts ts.length).length) ((CY md ts ts.length).length))]) (AJ O) O sizeOf32 O (zD (sl (sl (sl (sk (sk (sk (sk (sk (sk (sk (sk (sl (sl sr))))))))))))) (pS' O (zT (zB (sL [2,4,5,6,7,11,12,51,52,53] O) (zA (zF (DD O (Ai (i:=12) (cs:=B9 f.m) O O isAgg30 sizeOf30 O) (Q9 (i:=11) (v:=(qw p2 ((CY md ts ts.length).length) ((CY md ts ts.length).length))) O O isAgg32 O) (rd_tmp (v:=(vI 0)) O) (λw hw=>(ZL u (by unfold Oq;rw [<-hmdq];exact Xa hw (inS hw 0 O hf) 10 O ho2 O O)))))))))))))))
theorem Yb {ps:List Pt} {zt ss:List Z3} (ms:List Int) (y:RX (zL ms) ms.length) (x:MZ ps zt ss) (l:List E4) (hc:Jg (zt.map DN) ms l) (hz:∀i,DU (IR ps i)<=1000000) (hp:ps.length<=1000) (ht:zt.length<=1000) (hs:ss.length<=1000000) (hml:ms.length<=1000000) (w:World) {S:Nat->Prop} (hx:Ro S w x) (hy:Ro S w y) :
  Calls prog 19 #[(aG (B9 x)),(qw y.p ms.length y.c)] w (Ad (S8 (Gq ps zt ms l) (El ps.length zt ms l) (Em ps.length zt ss ms l) (Dy ps.length zt ms l) (Zc ps.length zt ms)) S w):=by
 unfold Gq El Em Dy Zc
 by_cases h:VD ps.length zt ms=true
 ·rw [if_pos h,if_pos h,if_pos h,if_pos h,if_pos h]
  unfold VD at h
  rw [xZ] at h
  obtain ⟨h1,h2⟩:=h
  obtain ⟨ts,rfl,hnb⟩:=GE h1
  obtain ⟨x2,hx2,hro⟩:=Wm x
  rw [F_] at hc ⊢
  rw [xI] at h2 ht ⊢
  have hel:=IG ts
  have k:=OQ x2 ms y hnb hz hs hml h2 ⟨Z,Z⟩ w (hro hx) hy
  rw [hx2] at k
  refine k.mono λe w' h9=>?_
  obtain ⟨b,g1,g2,g3⟩:=h9
  have e:b.l=l:=NK b.cut hc
  subst e
  exact ⟨b.x,g1,g2,g3⟩
 ·rw [if_neg h,if_neg h,if_neg h,if_neg h,if_neg h]
  have hu:∀(v:Bool),DG ps.length zt=v->∀(S:Nat->Prop) (w:World),Ro S w x.rq.ru->Calls prog 43 #[(aG (FF x.rq.ru))] w (Ak w (qa v)):=λv hv S w hh=>by
   have h9:=G2 x.rq Z w (S:=S) (λy hy=>hh y hy)
   rw [hv] at h9;exact h9
  cases hn:DG ps.length zt with
  | false=>exact Uu x.rq.ru (hu false hn) ms y hml w (N1 (Ta hx)) hy
  | true =>
   unfold VD at h
   rw [hn,Bool.true_and,Bool.not_eq_true] at h
   exact VH x.rq.ru (hu true hn) ms y hml h w (N1 (Ta hx)) hy
theorem XT {ps:List Pt} {zt ss:List Z3} (ms:List Int) (y:RX (zL ms) ms.length) (x:MZ ps zt ss) (l:List E4) (hc:Jg (zt.map DN) ms l) (hp:ps.length<=1000) (ht:zt.length<=1000) (hml:ms.length<=1000000) (w:World) {S:Nat->Prop} (hx:Ro S w x) (hy:Ro S w y) :
  Calls prog 21 #[(aG (B9 x)),(qw y.p ms.length y.c)] w (Ad (CX (rowsL BL (Cv ps.length zt l)) (Cv ps.length zt l).length) S w):=by
 unfold Cv
 by_cases h:DG ps.length zt=true
 ·rw [if_pos h]
  obtain ⟨ts,rfl,hnb⟩:=GE h
  obtain ⟨x2,hx2,hro⟩:=Wm x
  obtain ⟨x3,hx3,hro3⟩:=WN x2
  rw [F_] at hc
  rw [xI] at ht
  have k:=OA x3 ms y hnb Z Z hml w (S:=S) (hro3 (hro hx)) hy
  rw [hx3,hx2] at k
  refine k.mono λe w' h9=>?_
  obtain ⟨u,g1,g2,g3⟩:=h9
  have e:u.l=l:=NK u.cut hc
  subst e
  obtain ⟨ul,⟨up,uc,uok⟩,pp,el,all,hcc⟩:=u
  have hcc:uc=ul.length:=hcc
  subst hcc
  exact ⟨⟨up,uok⟩,g1,g2,g3⟩
 ·rw [if_neg h]
  rw [Bool.not_eq_true] at h
  exact Y8 x.rq.ru (λS w hh=>by have h9:=G2 x.rq Z w (S:=S) (λy hy=>hh y hy);rw [h] at h9;exact h9) ms y hml w (N1 (Ta hx)) hy
end
end Go.Proofs.YtpolhpjiahbidaaGreatDoor
