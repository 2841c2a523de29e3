import Derived.Test.YtfbomiejpbchdaaGreatPart06
import Derived.Test.YtfbomiejpbchdaaGreatPart32
import Derived.Test.YtfbomiejpbchdaaGreatPart34
import Derived.Test.YtfbomiejpbchdaaGreatPart42
namespace Go.Proofs.YtfbomiejpbchdaaGreat
open Go Go.RowKit Go.Proofs.Tryz
set_option linter.unusedVariables false
set_option linter.unusedSimpArgs false
section
set_option maxRecDepth 100000
theorem JK (x0 x1:Nat):Instr.fill (λi=>some (i*1,1)) (Ay ((0,0):P2)).toArray [(0,vN x0),(1,vN x1)]=some (Ay (x0,x1)).toArray:=by kernel_rfl
set_option maxHeartbeats 4000000 in
theorem MT {ps:List Pt} {ts ss:List T3} (x:MX ps ts ss) (ms:List Int) (y:RX (zL ms) ms.length) (hnb:CD ps.length ts=true) (hz:∀i,B5 (cor ps i)<=1000000) (hsl:ss.length<=1000000) (hml:ms.length<=1000000) (hv:∀j,j<ms.length->0<=ms.getD j 0/\ms.getD j 0<(ts.length:Int)) (hlim:ps.length+(Br ts).length<=4096/\4*ts.length<=8192) (w:World) {S:Nat->Prop} (hx:Ro S w x) (hy:Ro S w y):Calls prog 28 #[(aG (Bk x)),(Value.slice y.p ms.length y.c)] w (BV (Zd ps ts ss ms) S w):=by
 obtain ⟨hl1,hl2⟩:=hlim
 have hel0:=Tc ts
 have lx:=DU (W:=w) hx
 have ly:=DU (W:=w) hy
 refine A6 (args:=[(aG (Bk x)),(Value.slice y.p ms.length y.c)]) (L:=[AY x.a.p (rowsL Am ps),AY x.b.p (rowsL Af ts),AY x.c.p (rowsL Af ss),AY y.p (zL ms)]) func28 O O (Ac O) (DV hx (DV hy BN)) (AF.subF (sL [0,1] O) (q4 (Bg (cs:=Bk x) O λb1=>AE.frzX 0 O O λhnb1=>al JP O λb2=>?_)))
 refine al aA O λb3=>AE.nilRow 3 1 (AL O (q6 (sL [1,2,4,5,6] O) (q4 (AH (v:=(aG (Bk x))) (AO (q:=some ⟨b1,0,none⟩) (vs:=Bk x) (off:=0) (i:=3) O O (λe=>by cases e) C_ O O) O ?_))))
 refine Ee (args:=[(aG (Bk x))]) (v:=(Value.bool true)) call46 (λw hw=>(by have h9:=My x Z w (Cq hw 4 O lx);rw [hnb] at h9;exact h9)) O (AH (BZ (c:=false) O O) O (AS O (AE.step (v:=(Value.slice y.p ms.length y.c)) (AB O) (BK O) O (Ac O) (AE.step (v:=(Value.func (.func 76) #[] #[(pP b1 0)])) (AB O) (Cu (vs:=[]) (us:=[(pP b1 0)]) O O) O (Ac O) (AE.call (v:=(Value.bool false)) (AB O) (A_ (args:=[(Value.slice y.p ms.length y.c),(Value.func (.func 76) #[] #[(pP b1 0)])]) O O call75) (λw hw=>V7 x ⟨b1⟩ ms y Z hv w (UO (x:=(⟨b1⟩:BX (Bk x))) hw 3 O hnb1) (Cq hw 7 O ly)) O (Ac O) ?_)))))
 refine AH (v:=(Value.bool false)) (AV O O) O (AE.nil (AD.subF (sL [1,2,4,5,6,22] O) (AD.then_ (AF.cond_false O (AF.skip ?_)))))
 refine q1 (Cm [(0,true),(1,true),(2,true),(3,false),(4,false),(5,true)] sr (Au (v:=(aG (Bk x))) O (AO (q:=some ⟨b1,0,none⟩) (vs:=Bk x) (off:=0) (i:=3) O O (λe=>by cases e) C_ O O) (Au (v:=(aG (Bk x))) O (AO (q:=some ⟨b1,0,none⟩) (vs:=Bk x) (off:=0) (i:=3) O O (λe=>by cases e) C_ O O) (Bc O (AT.imp O ?_)))))
 refine AE.callR (S:=S) (α:=HC ts ms) (args:=[(aG (Bk x)),(Value.slice y.p ms.length y.c)]) call78 (λw hw=>Og x ms y hnb Z Z Z w (Cq hw 4 O lx) (Cq hw 7 O ly)) O O O λh lh=>AT.back (sl sr) (AT.imp O (AE.callR (S:=S) (α:=DX ts ms) (args:=[(aG (Bk x)),(Value.map (some h.b))]) call77 (λw hw=>RA x h hnb Z Z w (Cq hw 5 O lx) (Cq hw 0 O lh)) O O O λu lu=>AT.back (sl (sl sr)) (Eg O ?_)))
 have hul:=Qx u.el
 refine AT.nil (AD.subF (sL [1,2,4,5,6,7] O) (q2 (AE.makeMap Dr vN (AK O) O λb4=>?_)))
 rw [show ([]:List (P2×Nat))=De ps.length u.l 0 from rfl]
 refine al ZH O λb5=>Aw O sizeOf142 O (q6 (sL [1,2,4,5,6,7,8] O) (q4 (AS O (AH (v:=(vN u.l.length)) (AG O underlying37) O ?_))))
 refine AS O (AE.nil (AD.then_ (AF.block ?_)))
 refine AF.lp1 (tg λ(i:Nat)=>i<=u.l.length) (tg λ(i:Nat)=>[(2,(pP b1 0)),(4,(pP b2 0)),(5,(pP b3 0)),(6,(vI 0)),(7,(Value.slice u.r.p u.l.length u.r.c)),(8,(pP b5 0)),(30,(Value.slice u.r.p u.l.length u.r.c)),(31,(vN u.l.length)),(32,(vN i))]) (tg λ(i:Nat)=>[Ag b5 142 ([(Value.map (some b4))]),CE b4 Dr vN (De ps.length u.l i),AY u.r.p (rowsL B6 u.l),M7 h.b Dr vN h.kvs,rowW none 3 1 0 0 (inL ([])),Ag b3 33 ([(Value.slice none 0 0)]),Ag b2 31 ([(Value.slice none 0 0),(Value.slice none 0 0),(Value.slice none 0 0)]),AY (some ⟨b1,0,none⟩) (Bk x),AY x.a.p (rowsL Am ps),AY x.b.p (rowsL Af ts),AY x.c.p (rowsL Af ss),AY y.p (zL ms)]) (tg λ(i:Nat)=>u.l.length-i) 0 (Nat.zero_le _) (sF O) sr (λi hJ=>?_)
 have hi:=hJ
 refine q4 (AH (Ak (c:=(decide (i<u.l.length))) O O (C1 (a:=i) (b:=u.l.length))) O (AE.nil (q1 ?_)))
 refine AF.cond O (λhc1=>?_) (λhc1=>?_)
 ·replace hc1:=of_decide_eq_true hc1
  obtain ⟨ed,hed⟩:∃q,q=u.l.getD i (⟨0,0,0,0⟩:E4):=⟨_,rfl⟩
  obtain ⟨hea,heb⟩:=IW hnb Z (e:=ed) (by have h9:ed∈u.l:=(by rw [hed,List.getD,List.getElem?_eq_getElem hc1];exact List.getElem_mem hc1);rw [u.el] at h9;exact (List.mem_filter.1 h9).1)
  refine AF.skip (q1 (AF.block (q4 (AS O (AH (v:=(pP (pB u.r.p) (pO u.r.p+i*4))) (AQ (j:=i) O O u.r.ok underlying37 sizeOf110 O Z) O ?_)))))
  refine AH (v:=(aG (B6 (u.l.getD i (⟨0,0,0,0⟩:E4))))) (AO (vs:=B6 (u.l.getD i (⟨0,0,0,0⟩:E4))) (i:=2) O O (BI.ne u.r.ok Z) II (An Ck _ _ _ Z) (Ck _)) O (AE.retell (k:=36) (u:=(aG (B6 ed))) O (by rw [hed]) (al JD O λb6=>AL O (Aw O sizeOf110 O (AE.nil ?_))))
  refine AD.subF (sL [2,4,5,6,7,8,30,31,32,10,9] O) (AD.then_ (AF.region (BJ 1 (Value.map (some b4)) SJ O (AH (v:=(pP b6 0)) (AA O underlying110 O sizeOf3 O) O (BJ 0 (vN ed.a) Bn O ?_)))))
  refine AH (v:=(pP b6 1)) (AA O underlying110 O sizeOf3 O) O (BJ 0 (vN ed.b) Bn O (AH (v:=(aG (Ay (ed.a,ed.b)))) (Al (zs:=Ay ((0,0):P2)) (vs:=Ay (ed.a,ed.b)) (pv:=[(0,(vN ed.a)),(1,(vN ed.b))]) zeroValue144 underlying144 sizeOf3 O (JK ed.a ed.b)) O (AH (v:=(pP b1 0)) (AA O underlying31 O sizeOf27 O) O (AH (Ap (q:=some ⟨b1,0,none⟩) (v:=(Value.slice x.a.p ps.length x.a.c)) (off:=0) (i:=8) O O (λe=>by cases e) DG O) O (AH (v:=(vN ps.length)) (AG O underlying27) O ?_)))))
  refine AS O (AH (AW (c:=((ps.length+i:Nat):Int)) O O (AX (a:=ps.length) (b:=i) Z)) O (AE.mapUpdate HL 2 (kvs:=De ps.length u.l i) (x:=(ed.a,ed.b)) (y:=ps.length+i) (AK O) O O O underlying142 O (NN (Hm hnb Z u.el) Z _ Z) (⟨by show ed.a<_;omega,by show ed.b<_;omega⟩) ?_))
  rw [show BT (De ps.length u.l i) (ed.a,ed.b) (ps.length+i)=De ps.length u.l (i+1) from by rw [show ((ed.a,ed.b):P2)=B_ ed.a ed.b from Prod.ext (by show _=min _ _;omega) (by show _=max _ _;omega),hed];rfl]
  refine AE.nil (AD.subF (sL [2,4,5,6,7,8,30,31,32,10] O) (AD.in_normal (AD.then_ (AF.region (AH (AW (c:=((i+1:Nat):Int)) O O (AX (a:=i) (b:=1) Z)) O ?_)))))
  exact AS O (AE.nil (AD.subF (sL [2,4,5,6,7,8,30,31,32,10] O) (AD.round1 (i+1) Z Z (sF O) (sl sr))))
 ·replace hc1:=of_decide_eq_false hc1
  have hie:i=u.l.length:=by omega
  obtain ⟨md,hmdq⟩:∃q,q=De ps.length u.l u.l.length:=⟨_,rfl⟩
  have hmd1:HT JJ md:=hmdq▸NN (Hm hnb Z u.el) Z _ (Nat.le_refl _)
  have hmd2:∀k n,Ao md k=some n->n<4611686018427387904:=λk n h=>by have:=Vt (N:=ps.length) _ (Nat.le_refl _) k n (by rw [<-hmdq];exact h);omega
  rw [show De ps.length u.l i=md by rw [hie,hmdq]]
  refine AF.exit (AD.then_exit (AD.round1_exit (AD.in_exit (q2 (al Z2 O λb6=>?_)))))
  refine AE.nilRow 76 3 (AE.nil (q2 (al Yn O λb7=>AE.nil (q2 ?_))))
  refine AH (v:=(Value.func (.func 79) #[] #[(pP b5 0),(pP b6 0),(pP b3 0),(pP b7 0)])) (Cu (vs:=[]) (us:=[(pP b5 0),(pP b6 0),(pP b3 0),(pP b7 0)]) O O) O (Aw O sizeOf145 O (q6 (sL [2,4,5,6,7,8,30,31,32,11,12] O) (q4 (AH (v:=(pP b1 1)) (AA O underlying31 O sizeOf28 O) O (AH (Ap (q:=some ⟨b1,0,none⟩) (v:=(Value.slice x.b.p ts.length x.b.c)) (off:=1) (i:=10) O O (λe=>by cases e) B4 O) O ?_)))))
  refine AH (v:=(vN ts.length)) (AG O underlying28) O (AS O (AE.nil (AD.subF (sL [2,4,5,6,7,8,30,31,32,11,12,51,52,53] O) (AD.then_ (AF.block ?_)))))
  refine AF.lp5 (tg λ(t:Nat) (p1:Option Addr) (c1:Nat) (p2:Option Addr) (c2:Nat)=>t<=ts.length/\OwnOk p1 (LT md ts t).length c1/\OwnOk p2 (Hh md ts t).length c2) (tg λ(t:Nat) (p1:Option Addr) (c1:Nat) (p2:Option Addr) (c2:Nat)=>[(2,(pP b1 0)),(4,(pP b2 0)),(5,(pP b3 0)),(6,(vI 0)),(7,(Value.slice u.r.p u.l.length u.r.c)),(11,(pP b6 0)),(12,(pP b7 0)),(51,(Value.slice x.b.p ts.length x.b.c)),(52,(vN ts.length)),(53,(vN t))]) (tg λ(t:Nat) (p1:Option Addr) (c1:Nat) (p2:Option Addr) (c2:Nat)=>[Ag b7 145 ([(Value.func (.func 79) #[] #[(pP b5 0),(pP b6 0),(pP b3 0),(pP b7 0)])]),rowW p1 76 3 ((LT md ts t).length) c1 (rowsL Af (LT md ts t)),Ag b6 28 ([(Value.slice p1 ((LT md ts t).length) c1)]),Ag b5 142 ([(Value.map (some b4))]),CE b4 Dr vN md,AY u.r.p (rowsL B6 u.l),M7 h.b Dr vN h.kvs,rowW p2 3 1 ((Hh md ts t).length) c2 (inL (Hh md ts t)),Ag b3 33 ([(Value.slice p2 ((Hh md ts t).length) c2)]),Ag b2 31 ([(Value.slice none 0 0),(Value.slice none 0 0),(Value.slice none 0 0)]),AY (some ⟨b1,0,none⟩) (Bk x),AY x.a.p (rowsL Am ps),AY x.b.p (rowsL Af ts),AY x.c.p (rowsL Af ss),AY y.p (zL ms)]) (tg λ(t:Nat) (p1:Option Addr) (c1:Nat) (p2:Option Addr) (c2:Nat)=>ts.length-t) 0 none 0 none 0 (⟨Nat.zero_le _,OwnOk.none,OwnOk.none⟩) (sF O) sr (λt p1 c1 p2 c2 hJ=>?_)
  obtain ⟨ht,ho1,ho2⟩:=hJ
  have hvl:=S7 (md:=md) t ht
  have hvp:=Qf (md:=md) t ht
  refine q4 (AH (Ak (c:=(decide (t<ts.length))) O O (C1 (a:=t) (b:=ts.length))) O (AE.nil (q1 ?_)))
  refine AF.cond O (λhc2=>?_) (λhc2=>?_)
  ·replace hc2:=of_decide_eq_true hc2
   obtain ⟨T,hT⟩:∃q,q=ts.getD t (0,0,0):=⟨_,rfl⟩
   obtain ⟨g1,g2,g3⟩:=Cd (Cf hnb hc2)
   rw [<-hT] at g1 g2 g3
   refine AF.skip (q1 (AF.block (q4 (AS O (AH (v:=(pP (pB x.b.p) (pO x.b.p+t*3))) (AQ (j:=t) O O x.b.ok underlying28 sizeOf76 O Z) O ?_)))))
   refine AH (v:=(aG (Af (ts.getD t ((0,0,0):Nat×Nat×Nat))))) (AO (vs:=Af (ts.getD t ((0,0,0):Nat×Nat×Nat))) (i:=12) O O (BI.ne x.b.ok Z) Cr (An Ah _ _ _ Z) (Ah _)) O (AE.retell (k:=57) (u:=(aG (Af T))) O (by rw [hT]) (al J3 O λb8=>AL O (Aw O sizeOf76 O (AE.nil ?_))))
   refine AD.subF (sL [2,4,5,6,7,11,12,51,52,53,14,13] O) (AD.then_ (AF.region (BJ 1 (Value.func (.func 79) #[] #[(pP b5 0),(pP b6 0),(pP b3 0),(pP b7 0)]) SH O (BA 0 Cr O (AS O ?_)))))
   have hq:=Gz md 2 T
   refine AE.callT (v:=.tuple #[]) (α:=Yi) (K:=λa=>OwnOk a.pa (LT md ts t++CX md 2 T).length a.ca/\OwnOk a.pp (Hh md ts t++Ep (CX md 2 T).length t).length a.cp) (LO:=λa=>[Ag b8 76 (Af T),Ag b7 145 ([(Value.func (.func 79) #[] #[(pP b5 0),(pP b6 0),(pP b3 0),(pP b7 0)])]),rowW a.pa 76 3 ((LT md ts t++CX md 2 T).length) a.ca (rowsL Af (LT md ts t++CX md 2 T)),Ag b6 28 ([(Value.slice a.pa ((LT md ts t++CX md 2 T).length) a.ca)]),Ag b5 142 ([(Value.map (some b4))]),CE b4 Dr vN md,AY u.r.p (rowsL B6 u.l),M7 h.b Dr vN h.kvs,rowW a.pp 3 1 ((Hh md ts t++Ep (CX md 2 T).length t).length) a.cp (inL (Hh md ts t++Ep (CX md 2 T).length t)),Ag b3 33 ([(Value.slice a.pp ((Hh md ts t++Ep (CX md 2 T).length t).length) a.cp)]),Ag b2 31 ([(Value.slice none 0 0),(Value.slice none 0 0),(Value.slice none 0 0)]),AY (some ⟨b1,0,none⟩) (Bk x),AY x.a.p (rowsL Am ps),AY x.b.p (rowsL Af ts),AY x.c.p (rowsL Af ss),AY y.p (zL ms)]) (AK O) (Cg (args:=[(aG (Af T)),(vN t),(vI 2)]) (caps:=[(pP b5 0),(pP b6 0),(pP b3 0),(pP b7 0)]) (all:=[(aG (Af T)),(vN t),(vI 2),(pP b5 0),(pP b6 0),(pP b3 0),(pP b7 0)]) O O O call79) (Nz [5,4,2,3,8,9,1,0,6,7,10,11,12,13,14,15] (show List.Perm [5,4,2,3,8,9,1,0,6,7,10,11,12,13,14,15] (List.range 16) by decide) O) (λw hw=>(R0 ⟨b4,b5,b6,b3,b7⟩ md t hmd1 hmd2 Z (LT md ts t) p1 c1 ho1 (Hh md ts t) p2 c2 ho2 T ⟨Z,Z,Z⟩ (by simp only [Nat.reducePow];omega) (by simp only [Nat.reducePow];omega) w _ [Ag b8 76 (Af T),AY u.r.p (rowsL B6 u.l),M7 h.b Dr vN h.kvs,Ag b2 31 ([(Value.slice none 0 0),(Value.slice none 0 0),(Value.slice none 0 0)]),AY (some ⟨b1,0,none⟩) (Bk x),AY x.a.p (rowsL Am ps),AY x.b.p (rowsL Af ts),AY x.c.p (rowsL Af ss),AY y.p (zL ms)] hw).mono λe w' ⟨h1,a,h2,h3⟩=>⟨h1,a,h2,h3.perm (Nz [7,6,2,3,1,0,8,9,4,5,10,11,12,13,14,15] (show List.Perm [7,6,2,3,1,0,8,9,4,5,10,11,12,13,14,15] (List.range 16) by decide) O)⟩) (λd hd=>by cases hd<;>exact (Ac O)) ?_;intro a ⟨ho3,ho4⟩
   have hsA:LT md ts (t+1)=LT md ts t++CX md 2 T:=by rw [hT];exact Kr Z
   have hsP:Hh md ts (t+1)=Hh md ts t++Ep (CX md 2 T).length t:=by rw [hT];rfl
   refine AE.nil (AD.subF (sL [2,4,5,6,7,11,12,51,52,53,14] O) (AD.in_normal (AD.then_ (AF.region (AH (AW (c:=((t+1:Nat):Int)) O O (AX (a:=t) (b:=1) Z)) O ?_)))))
   refine AS O (AE.nil (AD.subF (sL [2,4,5,6,7,11,12,51,52,53,14] O) ?_))
   rw [<-hsA,<-hsP]
   exact AD.round5 (t+1) a.pa a.ca a.pp a.cp (⟨Z,(by rw [hsA];exact ho3),(by rw [hsP];exact ho4)⟩) Z (sF O) (sl sr)
  ·replace hc2:=of_decide_eq_false hc2
   have hte:t=ts.length:=by omega
   have hA:LT md ts t=Mr md ts:=by rw [hte,V_]
   have hP:Hh md ts t=Hh md ts ts.length:=by rw [hte]
   rw [hA] at ho1 hvl
   rw [hP] at ho2
   rw [hA,hP]
   refine AF.exit (AD.then_exit (AD.round5_exit (AD.in_exit (q1 (q4 ?_)))))
   refine AH (v:=(pP b1 0)) (AA O underlying31 O sizeOf27 O) O (AH (Ap (q:=some ⟨b1,0,none⟩) (v:=(Value.slice x.a.p ps.length x.a.c)) (off:=0) (i:=10) O O (λe=>by cases e) DG O) O (AH (v:=(vN ps.length)) (AG O underlying27) O (AS O (AH (v:=(vN u.l.length)) (AG O underlying37) O (AH (AW (c:=((ps.length+u.l.length:Nat):Int)) O O (AX (a:=ps.length) (b:=u.l.length) Z)) O ?_)))))
   refine AH (CW (c:=false) O O (decide_eq_false Z)) O (AS O (AE.step (v:=(Value.slice p1 ((Mr md ts).length) c1)) (AB O) (AI (i:=2) (v:=(Value.slice p1 ((Mr md ts).length) c1)) O O B4.a O) O (Ac O) (AE.step (v:=(vN ((Mr md ts).length))) (AB O) (AG O underlying28) O (Ac O) (AE.step (v:=(Value.bool false)) (AB O) (CW (c:=false) O O (decide_eq_false Z)) O (Ac O) (AH (v:=(Value.bool false)) (AV O O) O ?_)))))
   refine AE.frzRow 1 O ho1 (Aa Ah _) O O λhn_AL=>AE.nil (AD.subF (sL [2,4,5,6,7,11,12,51,52,53,74] O) (AD.then_ (AF.cond_false O (AF.skip ?_))))
   refine q1 (Zj 3 [0,1,2,4] [(5,false)] 6 [(7,false),(8,true)] sr (sk (sk (sk (sk (sk (sk (sk (sk (sl (sl sr)))))))))) (by kernel_rfl) (λ_ _ d _ _ h=>by cases d<;>exact h) (OkP.pas (v:=(aG (Bk x))) O (AK O) (AO (q:=some ⟨b1,0,none⟩) (vs:=Bk x) (off:=0) (i:=10) O O (λe=>by cases e) C_ O O) O O (OkP.pas (v:=(Value.slice u.r.p u.l.length u.r.c)) O (AK O) (BK O) O O (OkP.pas (v:=(Value.slice p1 ((Mr md ts).length) c1)) O (AK O) (AI (i:=2) (v:=(Value.slice p1 ((Mr md ts).length) c1)) O O B4.a O) O O (OkP.pas (v:=(Value.slice p2 ((Hh md ts ts.length).length) c2)) O (AK O) (AI (i:=8) (v:=(Value.slice p2 ((Hh md ts ts.length).length) c2)) O O Xt.a O) O O ?_)))))
   refine OkP.nil (JC.one O O (by kernel_rfl) (cM (S:=S) (args:=[(aG (Bk x)),(Value.slice u.r.p u.l.length u.r.c),(Value.slice p1 ((Mr md ts).length) c1)]) call48 (λw hw=>Re x u.l u.r (Mr md ts) ⟨p1,c1,ho1.row⟩ (Hm hnb Z u.el) (by rw [hmdq];exact V4 hnb) hz Z Z Z Z w (Cq hw 11 O lx) (Cq hw 5 O lu) (Cq hw 1 O (At.new hn_AL))) O λf hf=>Bu.back (sl (sl (sl sr))) (Bu.imp O (BR call81 (TB p2 ((Hh md ts ts.length).length) c2 ho2.row.le) O ?_))))
   refine Bu.back (sl (sl (sl sr))) (Bu.cut O (EW 12 (off:=0) (vs:=Bk f) (cs':=Bk f) (AK O) O sizeOf31 O (AT.back (sl (sl (sl (sk (sk (sk (sk (sk (sk (sk (sk (sl (sl sr))))))))))))) (AT.imp O (EW 11 (off:=0) (vs:=[(Value.slice p2 ((Hh md ts ts.length).length) ((Hh md ts ts.length).length))]) (cs':=[(Value.slice p2 ((Hh md ts ts.length).length) ((Hh md ts ts.length).length))]) (AK O) O sizeOf33 O ?_)))))
   exact AT.back (sl (sl (sl (sk (sk (sk (sk (sk (sk (sk (sk (sl (sl sr))))))))))))) (Eg O (AT.nil (AD.subF (sL [2,4,5,6,7,11,12,51,52,53] O) (AD.then_ (AF.ret (Eu O (Az (i:=12) (cs:=Bk f) O O isAgg31 sizeOf31 O) (XR (i:=11) (v:=(Value.slice p2 ((Hh md ts ts.length).length) ((Hh md ts ts.length).length))) O O isAgg33 O) (Ai (v:=(vI 0)) O) (λw hw=>(YP u (by rw [<-hmdq];exact Xp hw (Cq hw 0 O hf) 10 O ho2 O O)))))))))
end
section
set_option maxRecDepth 100000
end
section
set_option maxRecDepth 100000
theorem O6 (w:World):Calls prog 56 #[(vI 0),(vI 0)] w (Aq w (aG (Am (⟨0,0⟩:Pt)))):=by
 have h:=JV 0 0 (by decide) (by decide) (by decide) (by decide) w
 rw [show (⟨((0:Int):Rat),((0:Int):Rat)⟩:Pt)=(⟨0,0⟩:Pt) from by decide +kernel] at h
 exact h
theorem Pi (w:World):Calls prog 56 #[(vI 1),(vI 0)] w (Aq w (aG (Am (⟨1,0⟩:Pt)))):=by
 have h:=JV 1 0 (by decide) (by decide) (by decide) (by decide) w
 rw [show (⟨((1:Int):Rat),((0:Int):Rat)⟩:Pt)=(⟨1,0⟩:Pt) from by decide +kernel] at h
 exact h
theorem PI (w:World):Calls prog 56 #[(vI 1),(vI 1)] w (Aq w (aG (Am (⟨1,1⟩:Pt)))):=by
 have h:=JV 1 1 (by decide) (by decide) (by decide) (by decide) w
 rw [show (⟨((1:Int):Rat),((1:Int):Rat)⟩:Pt)=(⟨1,1⟩:Pt) from by decide +kernel] at h
 exact h
theorem Po (w:World):Calls prog 56 #[(vI 0),(vI 1)] w (Aq w (aG (Am (⟨0,1⟩:Pt)))):=by
 have h:=JV 0 1 (by decide) (by decide) (by decide) (by decide) w
 rw [show (⟨((0:Int):Rat),((1:Int):Rat)⟩:Pt)=(⟨0,1⟩:Pt) from by decide +kernel] at h
 exact h
def PO:List Pt:=[⟨0,0⟩,⟨1,0⟩,⟨1,1⟩,⟨0,1⟩]
def KB:List T3:=[(1,2,0),(3,0,2)]
def LE:List Pt:=[⟨0,0⟩,⟨1,0⟩,⟨1,1⟩,⟨0,1⟩,⟨1/2,1/2⟩]
def Cx:List T3:=[(4,1,2),(4,0,1),(4,3,0),(4,2,3)]
def Wd:List T3:=[(0,1,0),(0,3,0),(1,2,0),(2,3,0)]
def ZV:List Pt:=[⟨0,0⟩,⟨1,0⟩,⟨1,1⟩,⟨0,1⟩,⟨1/2,1/2⟩,⟨1,1/2⟩]
def FV:List T3:=[(5,4,1),(5,2,4),(4,0,1),(4,3,0),(4,2,3)]
def Yt:List T3:=[(0,1,0),(0,3,0),(1,5,0),(2,3,0),(2,5,0)]
theorem Xd:∀(l:List E4) (p:E4->Bool),l=(Br KB).filter p->(∀e,p e=true↔JE KB (OF KB [0]) (e.a,e.b))->l=(Br KB).filter λe=>decide ((e.a,e.b)∈[((0,2):P2)]):=λl p h ha =>
 QG [((0,2):P2)] (by decide +kernel) (by decide +kernel) (λk hk=>.start ⟨0,List.mem_singleton.2 rfl,by decide,by decide,by rw [List.mem_singleton.1 hk];decide +kernel⟩) h ha
theorem Xk:∀(l:List E4) (p:E4->Bool),l=(Br Cx).filter p->(∀e,p e=true↔JE Cx (OF Cx [0]) (e.a,e.b))->l=(Br Cx).filter λe=>decide ((e.a,e.b)∈[((1,2):P2)]):=λl p h ha =>
 QG [((1,2):P2)] (by decide +kernel) (by decide +kernel) (λk hk=>.start ⟨0,List.mem_singleton.2 rfl,by decide,by decide,by rw [List.mem_singleton.1 hk];decide +kernel⟩) h ha
theorem XG {n:Nat} (hn:0<n):∀j,j<([0]:List Int).length->0<=([0]:List Int).getD j 0/\([0]:List Int).getD j 0<(n:Int):=λj hj=>by
 have e:j=0:=by simpa using hj
 subst e;exact ⟨by decide,by show (0:Int)<_;omega⟩
theorem Xy (x:MX PO KB []) (y:RX (zL [0]) ([0]:List Int).length) (w:World) {S:Nat->Prop} (hx:Ro S w x) (hy:Ro S w y):Calls prog 28 #[(aG (Bk x)),y.val] w (BV (VD LE Cx Wd [0,0,1,1] 0) S w):=by
 refine (MT x [0] y (by decide +kernel) (UB (by decide +kernel) (by decide +kernel)) (by decide) (by decide) (XG (by decide)) (by decide +kernel) w hx hy).mono λe w' h=>?_
 have h:=S6 _ h Xd
 generalize hl:(Br KB).filter (λe=>decide ((e.a,e.b)∈[((0,2):P2)]))=l at h
 have hl:l=[⟨0,2,1,0⟩]:=by rw [<-hl];decide +kernel
 subst hl
 rw [show O9 PO [⟨0,2,1,0⟩]=LE from by decide +kernel,show Mr (De PO.length [⟨0,2,1,0⟩] ([⟨0,2,1,0⟩]:List E4).length) KB=Cx from by decide +kernel,show Pp PO.length [] [⟨0,2,1,0⟩] Cx=Wd from by decide +kernel,show Hh (De PO.length [⟨0,2,1,0⟩] ([⟨0,2,1,0⟩]:List E4).length) KB KB.length=[0,0,1,1] from by decide +kernel] at h
 exact h
theorem Xf (x:MX LE Cx Wd) (y:RX (zL [0]) ([0]:List Int).length) (w:World) {S:Nat->Prop} (hx:Ro S w x) (hy:Ro S w y):Calls prog 28 #[(aG (Bk x)),y.val] w (BV (VD ZV FV Yt [0,0,1,2,3] 0) S w):=by
 refine (MT x [0] y (by decide +kernel) (UB (by decide +kernel) (by decide +kernel)) (by decide) (by decide) (XG (by decide)) (by decide +kernel) w hx hy).mono λe w' h=>?_
 have h:=S6 _ h Xk
 generalize hl:(Br Cx).filter (λe=>decide ((e.a,e.b)∈[((1,2):P2)]))=l at h
 have hl:l=[⟨1,2,0,-1⟩]:=by rw [<-hl];decide +kernel
 subst hl
 rw [show O9 LE [⟨1,2,0,-1⟩]=ZV from by decide +kernel,show Mr (De LE.length [⟨1,2,0,-1⟩] ([⟨1,2,0,-1⟩]:List E4).length) Cx=FV from by decide +kernel,show Pp LE.length Wd [⟨1,2,0,-1⟩] FV=Yt from by decide +kernel,show Hh (De LE.length [⟨1,2,0,-1⟩] ([⟨1,2,0,-1⟩]:List E4).length) Cx Cx.length=[0,0,1,2,3] from by decide +kernel] at h
 exact h
theorem K1 (x0 x1 x2 x3:Pt):Instr.fill (λi=>some (i*10,10)) ((Array.range (4*10)).map ((Value.agg (Am (⟨0,0⟩:Pt)).toArray).cells[·%(Value.agg (Am (⟨0,0⟩:Pt)).toArray).cells.size]!)) [(0,.agg (Am x0).toArray),(1,.agg (Am x1).toArray),(2,.agg (Am x2).toArray),(3,.agg (Am x3).toArray)]=some (Am x0++Am x1++Am x2++Am x3).toArray:=by kernel_rfl
theorem CM (x0 x1 x2:Nat):Instr.fill (λi=>some (i*1,1)) (Af ((0,0,0):Nat×Nat×Nat)).toArray [(0,vN x0),(1,vN x1),(2,vN x2)]=some (Af (x0,x1,x2)).toArray:=by kernel_rfl
theorem Ku (x0 x1:Nat×Nat×Nat):Instr.fill (λi=>some (i*3,3)) ((Array.range (2*3)).map ((Value.agg (Af ((0,0,0):Nat×Nat×Nat)).toArray).cells[·%(Value.agg (Af ((0,0,0):Nat×Nat×Nat)).toArray).cells.size]!)) [(0,.agg (Af x0).toArray),(1,.agg (Af x1).toArray)]=some (Af x0++Af x1).toArray:=by kernel_rfl
set_option maxHeartbeats 1000000 in
theorem Oz  (w:World)  :Calls prog 27 #[] w (Aq w (Value.bool true)):=by
 refine Ae (args:=[]) func27 O O (Ac O) (AF.subF sN (q4 (AL O (AE.nil (q2 ?_)))))
 refine BR call56 (O6) O (BR call56 (Pi) O (BR call56 (PI) O (BR call56 (Po) O (AE.openV (V:=λb1=>(Value.slice (some ⟨b1,0,none⟩) 4 4)) (T:=55) (cs:=Am (⟨0,0⟩:Pt)++Am (⟨1,0⟩:Pt)++Am (⟨1,1⟩:Pt)++Am (⟨0,1⟩:Pt)) (AK O) (Ar (z:=.agg (Am (⟨0,0⟩:Pt)).toArray) (cs:=Am (⟨0,0⟩:Pt)++Am (⟨1,0⟩:Pt)++Am (⟨1,1⟩:Pt)++Am (⟨0,1⟩:Pt)) (pv:=[(0,(aG (Am (⟨0,0⟩:Pt)))),(1,(aG (Am (⟨1,0⟩:Pt)))),(2,(aG (Am (⟨1,1⟩:Pt)))),(3,(aG (Am (⟨0,1⟩:Pt))))]) underlying27 sizeOf55 zeroValue55 (by decide) (by decide) O (K1 (⟨0,0⟩:Pt) (⟨1,0⟩:Pt) (⟨1,1⟩:Pt) (⟨0,1⟩:Pt))) O (Ac O) λb1=>AH (v:=(aG (Af (1,2,0)))) (Al (zs:=Af ((0,0,0):Nat×Nat×Nat)) (vs:=Af (1,2,0)) (pv:=[(0,(vI 1)),(1,(vI 2)),(2,(vI 0))]) zeroValue76 underlying76 sizeOf3 O (CM 1 2 0)) O ?_))))
 refine AH (v:=(aG (Af (3,0,2)))) (Al (zs:=Af ((0,0,0):Nat×Nat×Nat)) (vs:=Af (3,0,2)) (pv:=[(0,(vI 3)),(1,(vI 0)),(2,(vI 2))]) zeroValue76 underlying76 sizeOf3 O (CM 3 0 2)) O (AE.openV (V:=λb2=>(Value.slice (some ⟨b2,0,none⟩) 2 2)) (T:=76) (cs:=Af (1,2,0)++Af (3,0,2)) (AK O) (Ar (z:=.agg (Af ((0,0,0):Nat×Nat×Nat)).toArray) (cs:=Af (1,2,0)++Af (3,0,2)) (pv:=[(0,(aG (Af (1,2,0)))),(1,(aG (Af (3,0,2))))]) underlying28 sizeOf76 zeroValue76 (by decide) (by decide) O (Ku (1,2,0) (3,0,2))) O (Ac O) λb2=>AH (v:=(aG ([(Value.slice (some ⟨b1,0,none⟩) 4 4),(Value.slice (some ⟨b2,0,none⟩) 2 2),(Value.slice none 0 0)]))) (Ad (zs:=[(Value.slice none 0 0),(Value.slice none 0 0),(Value.slice none 0 0)]) (vs:=[(Value.slice (some ⟨b1,0,none⟩) 4 4),(Value.slice (some ⟨b2,0,none⟩) 2 2),(Value.slice none 0 0)]) (pv:=[(0,(Value.slice (some ⟨b1,0,none⟩) 4 4)),(1,(Value.slice (some ⟨b2,0,none⟩) 2 2))]) (places:=[(0,1),(1,1),(2,1)]) zeroValue31 underlying31 (λw=>by simp [sizeOf27,sizeOf28,sizeOf29]) O O) O (al JP O λb3=>Aw O sizeOf31 O (AE.litM2 (S:=λ_=>False) (ps:=PO) (ts:=KB) (λmm=>[AY mm.c.p (rowsL Af ([]:List T3)),Ag b3 31 (Bk mm),AY mm.b.p (rowsL Af KB),AY mm.a.p (rowsL Am PO)]) 2 1 (by decide) O O O O O λmm hmm=>?_)))
 refine q3 (sL [0,1] O) (BA 1 C_ O (AE.openV (V:=λb4=>(Value.slice (some ⟨b4,0,none⟩) 1 1)) (T:=3) (cs:=zL [0]) (AK O) (Ar (cs:=zL [0]) (pv:=[(0,(vI 0))]) underlying33 sizeOf3 zeroValue3 (by decide) (by decide) O (by kernel_rfl)) O (Ac O) λb4=>AE.asRow0 (z:=1) 1 O Z λho_b4=>AE.frzRow 0 O ho_b4 O O O λhn_b4=>aD (S:=λ_=>False) (args:=[(aG (Bk mm)),(Value.slice (some ⟨b4,0,none⟩) 1 1)]) call28 (λw hw=>Xy mm ⟨(some ⟨b4,0,none⟩),1,ho_b4.row⟩ w (Zr hw [4,3,1] O hmm) (Cq hw 0 O (At.new hn_b4))) O λr1x hmr1x hqr1x=>?_))
 refine AS O (AH (AZ (v:=(aG (Bk r1x.m))) O O) O (AH (AZ (v:=(Value.slice r1x.q.p 4 r1x.q.c)) O O) O (AH (AZ (v:=(vI 0)) O O) O (al JP O λb5=>Aw O sizeOf31 O ?_))))
 refine AL O (AL O (q3 (sL [0,1,2,3,4] O) (BA 0 C_ O (AE.openV (V:=λb6=>(Value.slice (some ⟨b6,0,none⟩) 1 1)) (T:=3) (cs:=zL [0]) (AK O) (Ar (cs:=zL [0]) (pv:=[(0,(vI 0))]) underlying33 sizeOf3 zeroValue3 (by decide) (by decide) O (by kernel_rfl)) O (Ac O) λb6=>AE.asRow0 (z:=1) 1 O Z λho_b6=>?_))))
 refine AE.frzRow 0 O ho_b6 O O O λhn_b6=>aD (S:=λ_=>False) (args:=[(aG (Bk r1x.m)),(Value.slice (some ⟨b6,0,none⟩) 1 1)]) call28 (λw hw=>Xf r1x.m ⟨(some ⟨b6,0,none⟩),1,ho_b6.row⟩ w (Cq hw 2 O hmr1x) (Cq hw 0 O (At.new hn_b6))) O λr2x hmr2x hqr2x=>AS O (AH (AZ (v:=(aG (Bk r2x.m))) O O) O (AH (AZ (v:=(Value.slice r2x.q.p 5 r2x.q.c)) O O) O (AH (AZ (v:=(vI 0)) O O) O ?_)))
 refine al JP O λb7=>Aw O sizeOf31 O (AL O (AL O (q6 (sL [0,1,2,3,4,5,6,7] O) (q4 ?_))))
 refine AS O (AH (CB (c:=false) O O (by decide)) O (AS O (AE.step (v:=(vI 0)) (AB O) (BK O) O (Ac O) (AE.step (v:=(Value.bool false)) (AB O) (CB (c:=false) O O (by decide)) O (Ac O) (AH (v:=(Value.bool false)) (AV O O) O ?_)))))
 refine AS O (AE.step (v:=(pP b5 1)) (AB O) (AA O underlying31 O sizeOf28 O) O (Ac O) (AE.step (v:=(Value.slice r1x.m.b.p Cx.length r1x.m.b.c)) (AB O) (AI (i:=6) (v:=(Value.slice r1x.m.b.p Cx.length r1x.m.b.c)) O O B4.a O) O (Ac O) (AE.step (v:=(vN Cx.length)) (AB O) (AG O underlying28) O (Ac O) (AE.step (v:=(Value.bool false)) (AB O) (CB (c:=false) O O (by decide)) O (Ac O) (AH (v:=(Value.bool false)) (AV O O) O ?_)))))
 refine AS O (AE.step (v:=(pP b5 0)) (AB O) (AA O underlying31 O sizeOf27 O) O (Ac O) (AE.step (v:=(Value.slice r1x.m.a.p LE.length r1x.m.a.c)) (AB O) (AI (i:=6) (v:=(Value.slice r1x.m.a.p LE.length r1x.m.a.c)) O O DG.a O) O (Ac O) (AE.step (v:=(vN LE.length)) (AB O) (AG O underlying27) O (Ac O) (AE.step (v:=(Value.bool false)) (AB O) (CB (c:=false) O O (by decide)) O (Ac O) (AH (v:=(Value.bool false)) (AV O O) O ?_)))))
 refine AS O (AE.step (v:=(Value.slice r1x.q.p 4 r1x.q.c)) (AB O) (BK O) O (Ac O) (AE.step (v:=(vI 4)) (AB O) (AG O underlying33) O (Ac O) (AE.step (v:=(Value.bool false)) (AB O) (CB (c:=false) O O (by decide)) O (Ac O) (AH (v:=(Value.bool false)) (AV O O) O (AS O ?_)))))
 refine AE.step (v:=(pP b7 1)) (AB O) (AA O underlying31 O sizeOf28 O) O (Ac O) (AE.step (v:=(Value.slice r2x.m.b.p FV.length r2x.m.b.c)) (AB O) (AI (i:=0) (v:=(Value.slice r2x.m.b.p FV.length r2x.m.b.c)) O O B4.a O) O (Ac O) (AE.step (v:=(vN FV.length)) (AB O) (AG O underlying28) O (Ac O) (AE.step (v:=(Value.bool false)) (AB O) (CB (c:=false) O O (by decide)) O (Ac O) (AH (v:=(Value.bool false)) (AV O O) O (AS O ?_)))))
 refine AE.step (v:=(Value.slice r2x.q.p 5 r2x.q.c)) (AB O) (BK O) O (Ac O) (AE.step (v:=(vI 5)) (AB O) (AG O underlying33) O (Ac O) (AE.step (v:=(Value.bool false)) (AB O) (CB (c:=false) O O (by decide)) O (Ac O) (AH (v:=(Value.bool false)) (AV O O) O (AE.nil (AD.subF (sL [0,1,2,3,5,6,65] O) ?_)))))
 refine AD.then_ (AF.cond_false O (AF.skip (q2 (AH (v:=(pP b5 1)) (AA O underlying31 O sizeOf28 O) O (BJ 6 (Value.slice r1x.m.b.p Cx.length r1x.m.b.c) B4 O ?_)))))
 refine AH (v:=(pP (pB r1x.m.b.p) (pO r1x.m.b.p+0*3))) (AQ (j:=0) O O r1x.m.b.ok underlying28 sizeOf76 O (by decide)) O (AH (v:=(aG (Af (Cx.getD 0 ((0,0,0):Nat×Nat×Nat))))) (AO (vs:=Af (Cx.getD 0 ((0,0,0):Nat×Nat×Nat))) (i:=8) O O (BI.ne r1x.m.b.ok (by decide)) Cr (An Ah _ _ _ (by decide)) (Ah _)) O (AH (v:=(aG (Af (4,1,2)))) (Al (zs:=Af ((0,0,0):Nat×Nat×Nat)) (vs:=Af (4,1,2)) (pv:=[(0,(vI 4)),(1,(vI 1)),(2,(vI 2))]) zeroValue76 underlying76 sizeOf3 O (CM 4 1 2)) O (AH (Bd (c:=true) O O eqGuardType76 (DE (a:=Cx.getD 0 ((0,0,0):Nat×Nat×Nat)) (b:=(4,1,2)) 9998 O)) O (AS O (AE.step (v:=(pP b5 1)) (AB O) (AA O underlying31 O sizeOf28 O) O (Ac O) ?_)))))
 refine AE.step (v:=(Value.slice r1x.m.b.p Cx.length r1x.m.b.c)) (AB O) (AI (i:=6) (v:=(Value.slice r1x.m.b.p Cx.length r1x.m.b.c)) O O B4.a O) O (Ac O) (AE.step (v:=(pP (pB r1x.m.b.p) (pO r1x.m.b.p+1*3))) (AB O) (AQ (j:=1) O O r1x.m.b.ok underlying28 sizeOf76 O (by decide)) O (Ac O) (AE.step (v:=(aG (Af (Cx.getD 1 ((0,0,0):Nat×Nat×Nat))))) (AB O) (AO (vs:=Af (Cx.getD 1 ((0,0,0):Nat×Nat×Nat))) (i:=8) O O (BI.ne r1x.m.b.ok (by decide)) Cr (An Ah _ _ _ (by decide)) (Ah _)) O (Ac O) (AE.step (v:=(aG (Af (4,0,1)))) (AB O) (Al (zs:=Af ((0,0,0):Nat×Nat×Nat)) (vs:=Af (4,0,1)) (pv:=[(0,(vI 4)),(1,(vI 0)),(2,(vI 1))]) zeroValue76 underlying76 sizeOf3 O (CM 4 0 1)) O (Ac O) (AE.step (v:=(Value.bool true)) (AB O) (Bd (c:=true) O O eqGuardType76 (DE (a:=Cx.getD 1 ((0,0,0):Nat×Nat×Nat)) (b:=(4,0,1)) 9998 O)) O (Ac O) (AH (v:=(Value.bool true)) (Aj O O) O ?_)))))
 refine AS O (AE.step (v:=(pP b5 1)) (AB O) (AA O underlying31 O sizeOf28 O) O (Ac O) (AE.step (v:=(Value.slice r1x.m.b.p Cx.length r1x.m.b.c)) (AB O) (AI (i:=6) (v:=(Value.slice r1x.m.b.p Cx.length r1x.m.b.c)) O O B4.a O) O (Ac O) (AE.step (v:=(pP (pB r1x.m.b.p) (pO r1x.m.b.p+2*3))) (AB O) (AQ (j:=2) O O r1x.m.b.ok underlying28 sizeOf76 O (by decide)) O (Ac O) (AE.step (v:=(aG (Af (Cx.getD 2 ((0,0,0):Nat×Nat×Nat))))) (AB O) (AO (vs:=Af (Cx.getD 2 ((0,0,0):Nat×Nat×Nat))) (i:=8) O O (BI.ne r1x.m.b.ok (by decide)) Cr (An Ah _ _ _ (by decide)) (Ah _)) O (Ac O) (AE.step (v:=(aG (Af (4,3,0)))) (AB O) (Al (zs:=Af ((0,0,0):Nat×Nat×Nat)) (vs:=Af (4,3,0)) (pv:=[(0,(vI 4)),(1,(vI 3)),(2,(vI 0))]) zeroValue76 underlying76 sizeOf3 O (CM 4 3 0)) O (Ac O) ?_)))))
 refine AE.step (v:=(Value.bool true)) (AB O) (Bd (c:=true) O O eqGuardType76 (DE (a:=Cx.getD 2 ((0,0,0):Nat×Nat×Nat)) (b:=(4,3,0)) 9998 O)) O (Ac O) (AH (v:=(Value.bool true)) (Aj O O) O (AS O (AE.step (v:=(pP b5 1)) (AB O) (AA O underlying31 O sizeOf28 O) O (Ac O) (AE.step (v:=(Value.slice r1x.m.b.p Cx.length r1x.m.b.c)) (AB O) (AI (i:=6) (v:=(Value.slice r1x.m.b.p Cx.length r1x.m.b.c)) O O B4.a O) O (Ac O) (AE.step (v:=(pP (pB r1x.m.b.p) (pO r1x.m.b.p+3*3))) (AB O) (AQ (j:=3) O O r1x.m.b.ok underlying28 sizeOf76 O (by decide)) O (Ac O) ?_)))))
 refine AE.step (v:=(aG (Af (Cx.getD 3 ((0,0,0):Nat×Nat×Nat))))) (AB O) (AO (vs:=Af (Cx.getD 3 ((0,0,0):Nat×Nat×Nat))) (i:=8) O O (BI.ne r1x.m.b.ok (by decide)) Cr (An Ah _ _ _ (by decide)) (Ah _)) O (Ac O) (AE.step (v:=(aG (Af (4,2,3)))) (AB O) (Al (zs:=Af ((0,0,0):Nat×Nat×Nat)) (vs:=Af (4,2,3)) (pv:=[(0,(vI 4)),(1,(vI 2)),(2,(vI 3))]) zeroValue76 underlying76 sizeOf3 O (CM 4 2 3)) O (Ac O) (AE.step (v:=(Value.bool true)) (AB O) (Bd (c:=true) O O eqGuardType76 (DE (a:=Cx.getD 3 ((0,0,0):Nat×Nat×Nat)) (b:=(4,2,3)) 9998 O)) O (Ac O) (AH (v:=(Value.bool true)) (Aj O O) O (AS O (AE.step (v:=(Value.slice r1x.q.p 4 r1x.q.c)) (AB O) (BK O) O (Ac O) ?_)))))
 refine AE.step (v:=(pP (pB r1x.q.p) (pO r1x.q.p+1*1))) (AB O) (AQ (j:=1) O O r1x.q.ok underlying33 sizeOf3 O (by decide)) O (Ac O) (AE.step (v:=(vN (([0,0,1,1]).getD 1 0))) (AB O) (Ap (v:=(vN (([0,0,1,1]).getD 1 0))) (i:=10) O O (r1x.q.ok.ne (by decide)) Bn (NL (l:=[0,0,1,1]) (j:=1) (by decide))) O (Ac O) (AE.step (v:=(Value.bool true)) (AB O) (BY (c:=true) O O (by decide)) O (Ac O) (AH (v:=(Value.bool true)) (Aj O O) O (AS O (AE.step (v:=(Value.slice r1x.q.p 4 r1x.q.c)) (AB O) (BK O) O (Ac O) ?_)))))
 refine AE.step (v:=(pP (pB r1x.q.p) (pO r1x.q.p+2*1))) (AB O) (AQ (j:=2) O O r1x.q.ok underlying33 sizeOf3 O (by decide)) O (Ac O) (AE.step (v:=(vN (([0,0,1,1]).getD 2 0))) (AB O) (Ap (v:=(vN (([0,0,1,1]).getD 2 0))) (i:=10) O O (r1x.q.ok.ne (by decide)) Bn (NL (l:=[0,0,1,1]) (j:=2) (by decide))) O (Ac O) (AE.step (v:=(Value.bool true)) (AB O) (BY (c:=true) O O (by decide)) O (Ac O) (AH (v:=(Value.bool true)) (Aj O O) O (AL O (q6 (sL [0,1,2,3,5,6,8] O) ?_)))))
 refine Cm [(0,true),(1,true),(2,true),(3,true),(4,true),(5,true),(6,true),(7,true),(8,true),(9,true),(10,true),(11,true),(12,true),(13,true),(14,true),(15,true),(16,true),(17,true),(18,true),(19,true),(20,true),(21,true),(22,true),(23,true),(24,true),(25,true),(26,true),(27,true),(28,true),(29,true),(30,true),(31,true),(32,true),(33,true),(34,true)] sr (Bc O (Bc O (AT.pas (v:=(pP b7 1)) O (AB O) (AA O underlying31 O sizeOf28 O) O O (AT.pas (v:=(Value.slice r2x.m.b.p FV.length r2x.m.b.c)) O (AB O) (AI (i:=0) (v:=(Value.slice r2x.m.b.p FV.length r2x.m.b.c)) O O B4.a O) O O (AT.pas (v:=(pP (pB r2x.m.b.p) (pO r2x.m.b.p+0*3))) O (AB O) (AQ (j:=0) O O r2x.m.b.ok underlying28 sizeOf76 O (by decide)) O O ?_)))))
 refine AT.pas (v:=(aG (Af (FV.getD 0 ((0,0,0):Nat×Nat×Nat))))) O (AB O) (AO (vs:=Af (FV.getD 0 ((0,0,0):Nat×Nat×Nat))) (i:=2) O O (BI.ne r2x.m.b.ok (by decide)) Cr (An Ah _ _ _ (by decide)) (Ah _)) O O (AT.pas (v:=(aG (Af (5,4,1)))) O (AB O) (Al (zs:=Af ((0,0,0):Nat×Nat×Nat)) (vs:=Af (5,4,1)) (pv:=[(0,(vI 5)),(1,(vI 4)),(2,(vI 1))]) zeroValue76 underlying76 sizeOf3 O (CM 5 4 1)) O O (AT.pas (v:=(Value.bool true)) O (AB O) (Bd (c:=true) O O eqGuardType76 (DE (a:=FV.getD 0 ((0,0,0):Nat×Nat×Nat)) (b:=(5,4,1)) 9998 O)) O O (Au (v:=(Value.bool true)) O (Aj O O) (Bc O (AT.pas (v:=(pP b7 1)) O (AB O) (AA O underlying31 O sizeOf28 O) O O ?_)))))
 refine AT.pas (v:=(Value.slice r2x.m.b.p FV.length r2x.m.b.c)) O (AB O) (AI (i:=0) (v:=(Value.slice r2x.m.b.p FV.length r2x.m.b.c)) O O B4.a O) O O (AT.pas (v:=(pP (pB r2x.m.b.p) (pO r2x.m.b.p+1*3))) O (AB O) (AQ (j:=1) O O r2x.m.b.ok underlying28 sizeOf76 O (by decide)) O O (AT.pas (v:=(aG (Af (FV.getD 1 ((0,0,0):Nat×Nat×Nat))))) O (AB O) (AO (vs:=Af (FV.getD 1 ((0,0,0):Nat×Nat×Nat))) (i:=2) O O (BI.ne r2x.m.b.ok (by decide)) Cr (An Ah _ _ _ (by decide)) (Ah _)) O O (AT.pas (v:=(aG (Af (5,2,4)))) O (AB O) (Al (zs:=Af ((0,0,0):Nat×Nat×Nat)) (vs:=Af (5,2,4)) (pv:=[(0,(vI 5)),(1,(vI 2)),(2,(vI 4))]) zeroValue76 underlying76 sizeOf3 O (CM 5 2 4)) O O (AT.pas (v:=(Value.bool true)) O (AB O) (Bd (c:=true) O O eqGuardType76 (DE (a:=FV.getD 1 ((0,0,0):Nat×Nat×Nat)) (b:=(5,2,4)) 9998 O)) O O (Au (v:=(Value.bool true)) O (Aj O O) ?_)))))
 refine Bc O (AT.pas (v:=(pP b7 1)) O (AB O) (AA O underlying31 O sizeOf28 O) O O (AT.pas (v:=(Value.slice r2x.m.b.p FV.length r2x.m.b.c)) O (AB O) (AI (i:=0) (v:=(Value.slice r2x.m.b.p FV.length r2x.m.b.c)) O O B4.a O) O O (AT.pas (v:=(pP (pB r2x.m.b.p) (pO r2x.m.b.p+2*3))) O (AB O) (AQ (j:=2) O O r2x.m.b.ok underlying28 sizeOf76 O (by decide)) O O (AT.pas (v:=(aG (Af (FV.getD 2 ((0,0,0):Nat×Nat×Nat))))) O (AB O) (AO (vs:=Af (FV.getD 2 ((0,0,0):Nat×Nat×Nat))) (i:=2) O O (BI.ne r2x.m.b.ok (by decide)) Cr (An Ah _ _ _ (by decide)) (Ah _)) O O (AT.pas (v:=(pP b5 1)) O (AB O) (AA O underlying31 O sizeOf28 O) O O ?_)))))
 refine AT.pas (v:=(Value.slice r1x.m.b.p Cx.length r1x.m.b.c)) O (AB O) (AI (i:=6) (v:=(Value.slice r1x.m.b.p Cx.length r1x.m.b.c)) O O B4.a O) O O (AT.pas (v:=(pP (pB r1x.m.b.p) (pO r1x.m.b.p+1*3))) O (AB O) (AQ (j:=1) O O r1x.m.b.ok underlying28 sizeOf76 O (by decide)) O O (AT.pas (v:=(aG (Af (Cx.getD 1 ((0,0,0):Nat×Nat×Nat))))) O (AB O) (AO (vs:=Af (Cx.getD 1 ((0,0,0):Nat×Nat×Nat))) (i:=8) O O (BI.ne r1x.m.b.ok (by decide)) Cr (An Ah _ _ _ (by decide)) (Ah _)) O O (AT.pas (v:=(Value.bool true)) O (AB O) (Bd (c:=true) O O eqGuardType76 (DE (a:=FV.getD 2 ((0,0,0):Nat×Nat×Nat)) (b:=Cx.getD 1 ((0,0,0):Nat×Nat×Nat)) 9998 O)) O O (Au (v:=(Value.bool true)) O (Aj O O) (Bc O ?_)))))
 refine AT.pas (v:=(Value.slice r2x.q.p 5 r2x.q.c)) O (AB O) (BK O) O O (AT.pas (v:=(pP (pB r2x.q.p) (pO r2x.q.p+4*1))) O (AB O) (AQ (j:=4) O O r2x.q.ok underlying33 sizeOf3 O (by decide)) O O (AT.pas (v:=(vN (([0,0,1,2,3]).getD 4 0))) O (AB O) (Ap (v:=(vN (([0,0,1,2,3]).getD 4 0))) (i:=4) O O (r2x.q.ok.ne (by decide)) Bn (NL (l:=[0,0,1,2,3]) (j:=4) (by decide))) O O (AT.pas (v:=(Value.bool true)) O (AB O) (BY (c:=true) O O (by decide)) O O (Au (v:=(Value.bool true)) O (Aj O O) (Eg O ?_)))))
 exact AT.nil (AD.subF (sL [0,1,2,3,5,6] O) (AD.then_ (AF.ret (AR O (Ai (v:=(Value.bool true)) O) (λw hw=>⟨rfl,hw.out⟩)))))
end
end Go.Proofs.YtfbomiejpbchdaaGreat
