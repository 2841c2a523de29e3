import Derived.Shelf.SlSortCmp.Whole1
import Derived.Test.YtpgncndhhhllfaaGreatPart03
import Derived.Test.YtpgncndhhhllfaaGreatPart20
import Derived.Test.YtpgncndhhhllfaaGreatPart22
import Derived.Test.YtpgncndhhhllfaaGreatPart24
import Derived.Test.YtpgncndhhhllfaaGreatPart27
import Derived.Test.YtpgncndhhhllfaaGreatPart29
namespace Go.Proofs.YtpgncndhhhllfaaGreat
open Go Go.RowKit Go.Proofs.Tryz
set_option linter.unusedVariables false
set_option linter.unusedSimpArgs false
section
set_option maxRecDepth 100000
theorem Su (T:T3) (k:P2) (hT:T.1<1099511627776/\T.2.1<1099511627776/\T.2.2<1099511627776) (hk:k.1+k.2<=T.1+T.2.1+T.2.2) (w:World)  :Calls prog 57 #[(aG (Am T)),(aG (Bh k))] w (Ak w (vN (Ft T k))):=by
 refine An (args:=[(aG (Am T)),(aG (Bh k))]) func57 O O (AV O) (AE.subF (sL [0,1] O) (q4 (B0 (cs:=Am T) O λb1=>B0 (cs:=Bh k) O λb2=>AI O (q3 (sL [2,3,4] O) (AK (v:=(pP b1 0)) (AG (j:=0) O O underlying68 sizeOf3 O (by decide) O) O (BL 1 (vN T.1) BR O (AK (v:=(pP b1 1)) (AG (j:=1) O O underlying68 sizeOf3 O (by decide) O) O (BL 1 (vN T.2.1) BR O (AK (AY (c:=((T.1+T.2.1:Nat):Int)) O O (AU (a:=T.1) (b:=T.2.1) Z)) O ?_)))))))))
 refine AK (v:=(pP b1 2)) (AG (j:=2) O O underlying68 sizeOf3 O (by decide) O) O (BL 1 (vN T.2.2) BR O (AK (AY (c:=(((T.1+T.2.1)+T.2.2:Nat):Int)) O O (AU (a:=T.1+T.2.1) (b:=T.2.2) Z)) O (AK (v:=(pP b2 0)) (AG (j:=0) O O underlying112 sizeOf3 O (by decide) O) O (BL 0 (vN k.1) BR O (AK (BO (c:=((((T.1+T.2.1)+T.2.2)-k.1:Nat):Int)) O O (Br (a:=(T.1+T.2.1)+T.2.2) (b:=k.1) Z Z)) O (AK (v:=(pP b2 1)) (AG (j:=1) O O underlying112 sizeOf3 O (by decide) O) O (BL 0 (vN k.2) BR O (AK (BO (c:=(((((T.1+T.2.1)+T.2.2)-k.1)-k.2:Nat):Int)) O O (Br (a:=((T.1+T.2.1)+T.2.2)-k.1) (b:=k.2) Z Z)) O (AI O (AC.nil (OkQ.subF (sL [4] O) ?_)))))))))))
 exact OkQ.then_ (AE.ret (AS O (AZ (v:=(vN ((((T.1+T.2.1)+T.2.2)-k.1)-k.2))) O) (λw hw=>⟨rfl,hw.out⟩)))
theorem D6 (x0 x1:Nat):Instr.fill (λi=>some (i*1,1)) (Bh ((0,0):P2)).toArray [(0,vN x0),(1,vN x1)]=some (Bh (x0,x1)).toArray:=by kernel_rfl
set_option maxHeartbeats 1000000 in
theorem M1 {N:Nat} {ts ss:List T3} (x:RM N ts ss) (sx:SX ts true) (k0:P2) (hnb:A_ N ts=true) (ho:BV ts (3*ts.length)=true) (h0:Ea ts k0) (hp:N<=1000000) (htl:ts.length<=1000000) (w:World) {S:Nat->Prop} (hx:Ro S w x) (hsx:Ro S w sx):Calls prog 40 #[(aG (BN x)),(Value.map (some sx.b)),(aG (Bh k0))] w (Ak w (aG (Bh (DA ts k0)))):=by
 have hkv:sx.kvs=HE ts:=sx.fin rfl
 obtain ⟨hs0,hs1,hs2,hs3⟩:=Sg hnb ho h0.1
 have lx:=CV (W:=w) hx
 have lsx:=CV (W:=w) hsx
 refine Ag (args:=[(aG (BN x)),(Value.map (some sx.b)),(aG (Bh k0))]) (L:=[AJ x.a.p (x.cs),AJ x.b.p (rowsL Am ts),AJ x.c.p (x.ds),He sx.b D5 vN sx.kvs]) func40 O O (AV O) (C4 hx (C4 hsx Ao)) (AE.subF (sL [0,1,2] O) (q4 (B0 (cs:=BN x) O λb1=>B0 (cs:=Bh k0) O λb2=>al IZ O λb3=>q3 (sL [1,3,5,6] O) (AM O (BC 1 EM O (AK (v:=(vN ((Ac sx.kvs k0).getD 0))) (FH E9 6 (eV:=vN) (kvs:=sx.kvs) (x:=k0) (z0:=0) (co:=false) O O underlying71 zeroValue3 O (sx.ok) (Mg hnb Z h0.1)) O (AI O (AC.nil ?_))))))))
 refine OkQ.subF (sL [1,3,5,6,7] O) (OkQ.then_ (AE.block ?_))
 refine AE.lp3 (tg λ(i:Nat) (k:P2) (tq:Nat)=>D_ ts k0 i k/\tq=(Ac (HE ts) k).getD 0) (tg λ(i:Nat) (k:P2) (tq:Nat)=>[(1,(Value.map (some sx.b))),(3,(pP b1 0)),(5,(pP b2 0)),(6,(pP b3 0)),(7,(vN tq))]) (tg λ(i:Nat) (k:P2) (tq:Nat)=>[Ah b3 112 (Bh ((0,0):P2)),Ah b2 112 (Bh k),Ah b1 31 (BN x),AJ x.a.p (x.cs),AJ x.b.p (rowsL Am ts),AJ x.c.p (x.ds),He sx.b D5 vN sx.kvs]) (tg λ(i:Nat) (k:P2) (tq:Nat)=>3*ts.length-i) 0 k0 ((Ac sx.kvs k0).getD 0) (⟨D_.zero h0.1,by rw [hkv]⟩) (sF O) sr (λi k tq hJ=>?_)
 obtain ⟨hb,htq⟩:=hJ
 obtain ⟨hk0,hk1,hk2,hk3⟩:=Sg hnb ho hb.isS
 rw [<-htq] at hk0 hk3
 have hil:=hb.lt ho h0
 obtain ⟨g1,g2,g3⟩:=Cn (CL hnb hk0)
 have hth:Ft (ts.getD tq (0,0,0)) k<=3000000:=by unfold Ft;omega
 have hnx:Eu ts k=(k.2,Ft (ts.getD tq (0,0,0)) k):=by unfold Eu;rw [<-htq]
 refine AE.block (AE.seq (rN [(0,true),(1,true),(2,true),(3,true),(4,true),(5,true),(6,true),(7,true),(8,false),(9,true)] [⟨10,8,112,Bh ((0,0):P2)⟩] [(11,false)] sr (by kernel_rfl) (λ_ _ d _ _ h=>by cases d<;>exact h) (OW O O IZ O (Q7)) O (OI (v:=(pP b2 1)) O (AG (j:=1) O O underlying112 sizeOf3 O (by decide) O) O (T9 1 (vN k.2) BR O (OI (v:=(pP b1 1)) O (AB O underlying31 O sizeOf28 O) O (T9 2 (Value.slice x.b.p ts.length x.b.c) Bp O (aJ O (OI (v:=(pP (pB x.b.p) (pO x.b.p+tq*3))) O (AH (j:=tq) O O x.b.ok underlying28 sizeOf68 O Z) O (OI (v:=(aG (Am (ts.getD tq ((0,0,0):Tq3))))) O (Ai (vs:=Am (ts.getD tq ((0,0,0):Tq3))) (i:=4) O O (Ar.ne x.b.ok Z) DL (A8 Af _ _ _ Z) (Af _)) O (XR 1 EM O (Ci.imp O λEF EL=>?_)))))))))))
 refine ck' call57 (Su (ts.getD tq (0,0,0)) k ⟨Z,Z,Z⟩ hk3) O (Ci.back0 sr O (OI (v:=(aG (Bh (k.2,Ft (ts.getD tq (0,0,0)) k)))) O (BY (zs:=Bh ((0,0):P2)) (vs:=Bh (k.2,Ft (ts.getD tq (0,0,0)) k)) (pv:=[(0,(vN k.2)),(1,(vN (Ft (ts.getD tq (0,0,0)) k)))]) zeroValue112 underlying112 sizeOf3 O (D6 k.2 (Ft (ts.getD tq (0,0,0)) k))) O (Ci.news1 λb4=>OkE.imp O (BP O sizeOf112 O (OkE.back (sl sr) (OkE.nil (OkQ.subF (sL [1,3,5,6,7,8] O) (q2 (AM O (AK (v:=(pP b4 1)) (AG (j:=1) O O underlying112 sizeOf3 O (by decide) O) O ?_))))))))))
 refine BL 0 (vN (Ft (ts.getD tq (0,0,0)) k)) BR O (AK (v:=(pP b4 0)) (AG (j:=0) O O underlying112 sizeOf3 O (by decide) O) O (BL 0 (vN k.2) BR O (AK (v:=(aG (Bh (Ft (ts.getD tq (0,0,0)) k,k.2)))) (BY (zs:=Bh ((0,0):P2)) (vs:=Bh (Ft (ts.getD tq (0,0,0)) k,k.2)) (pv:=[(0,(vN (Ft (ts.getD tq (0,0,0)) k))),(1,(vN k.2))]) zeroValue112 underlying112 sizeOf3 O (D6 (Ft (ts.getD tq (0,0,0)) k) k.2)) O (AK (v:=(Value.tuple #[(vN ((Ac sx.kvs (Ft (ts.getD tq (0,0,0)) k,k.2)).getD 0)),(Value.bool ((Ac sx.kvs (Ft (ts.getD tq (0,0,0)) k,k.2)).isSome))])) (FH E9 7 (eV:=vN) (kvs:=sx.kvs) (x:=(Ft (ts.getD tq (0,0,0)) k,k.2)) (z0:=0) (co:=true) O O underlying71 zeroValue3 O (sx.ok) (Fy (by show (_:Nat)<_;omega) (by show (_:Nat)<_;omega))) O (AM O (AK (AX (v:=(vN ((Ac sx.kvs (Ft (ts.getD tq (0,0,0)) k,k.2)).getD 0))) O O) O (AK (AX (v:=(Value.bool ((Ac sx.kvs (Ft (ts.getD tq (0,0,0)) k,k.2)).isSome))) O O) O (AI O (AI O (q6 (sL [1,3,5,6,7,8,9,10] O) (q4 ?_)))))))))))
 refine AM O (AK (BF (c:=(!((Ac sx.kvs (Ft (ts.getD tq (0,0,0)) k,k.2)).isSome))) O O) O (AC.nil (OkQ.subF (sL [1,3,5,6,7,8,9,35] O) (OkQ.then_ ?_))))
 refine AE.cond O (λhc0=>?_) (λhc0=>?_)
 ·simp only [Bool.and_eq_true,Bool.or_eq_true,Bool.and_eq_false_iff,Bool.or_eq_false_iff,Bool.not_eq_true',Bool.not_eq_false',decide_eq_true_eq,decide_eq_false_iff_not] at hc0
  exact q4 (BC 0 EM O (Ed O sizeOf112 O (AC.nil (OkQ.subF (sL [1,3,5,6,7,8,9] O) (OkQ.then_ (AE.ret (OkQ.then_ret (OkQ.in_ret (OkQ.round3_ret (OkQ.in_ret (AS O (BH (i:=1) (cs:=Bh (k.2,Ft (ts.getD tq (0,0,0)) k)) O O isAgg112 sizeOf112 O) (λw hw=>⟨by rw [(hb.stop ho h0 (by rw [hnx,<-hkv];intro h9;rw [show (Ac sx.kvs (Ff (k.2,Ft (ts.getD tq (0,0,0)) k))).isSome=false from hc0] at h9;cases h9)).1,hnx],hw.out⟩))))))))))))
 ·simp only [Bool.and_eq_true,Bool.or_eq_true,Bool.and_eq_false_iff,Bool.or_eq_false_iff,Bool.not_eq_true',Bool.not_eq_false',decide_eq_true_eq,decide_eq_false_iff_not] at hc0
  refine AE.skip (OkQ.then_ (AE.region (AK (v:=(pP b4 1)) (AG (j:=1) O O underlying112 sizeOf3 O (by decide) O) O (BL 0 (vN (Ft (ts.getD tq (0,0,0)) k)) BR O (AK (v:=(pP b4 0)) (AG (j:=0) O O underlying112 sizeOf3 O (by decide) O) O (BL 0 (vN k.2) BR O (AK (v:=(aG (Bh (Ft (ts.getD tq (0,0,0)) k,k.2)))) (BY (zs:=Bh ((0,0):P2)) (vs:=Bh (Ft (ts.getD tq (0,0,0)) k,k.2)) (pv:=[(0,(vN (Ft (ts.getD tq (0,0,0)) k))),(1,(vN k.2))]) zeroValue112 underlying112 sizeOf3 O (D6 (Ft (ts.getD tq (0,0,0)) k) k.2)) O (AM O (Ku O sizeOf112 O (AI O (AC.nil ?_)))))))))))
  exact OkQ.subF (sL [1,3,5,6,7,8] O) (OkQ.in_normal (OkQ.round3 (i+1) (Ft (ts.getD tq (0,0,0)) k,k.2) ((Ac sx.kvs (Ft (ts.getD tq (0,0,0)) k,k.2)).getD 0) (⟨by have h9:=hb.succ (by rw [hnx,<-hkv];exact hc0);rw [hnx] at h9;exact h9,by rw [hkv]⟩) Z (sF O) (sl sr)))
theorem Q_ (l:List Nat) (n:Nat) (y:RX (inL l) n) (hn:l.length=n) (hl:n<=1000000000) (w:World) {S:Nat->Prop} (hy:Ro S w y):Calls prog 59 #[(Value.slice y.p n y.c)] w (Mc bu (aF (T:=3) (z:=1) (cs:=inL l) (n:=n)) S w):=by
 have ly:=CV (W:=w) hy
 refine Ag (args:=[(Value.slice y.p n y.c)]) (L:=[AJ y.p (inL l)]) func59 O O (AV O) (C4 hy Ao) (AE.subF (sL [0] O) (q4 (AI O (AC.nilRow 3 1 (AC.nil (q1 (q4 (AM O (AK (v:=(Value.bool y.p.isNone)) (Oj O O underlying86) O (AC.nil (OkQ.subF (sL [0,2,4] O) ?_)))))))))))
 refine OkQ.then_ ?_
 refine AE.cond O (λhc0=>?_) (λhc0=>?_)
 ·skip
  have h00:=(y.ok.nil (Option.isNone_iff_eq_none.1 hc0)).1
  have hts:l=[]:=List.eq_nil_of_length_eq_zero Z
  exact q4 (AI O (AC.nilRow 3 1 (AC.nil (OkQ.then_ (AE.ret (OkQ.then_ret (AS O (AZ (v:=(Value.slice none 0 0)) O) (λw hw=>(by subst hts;subst h00;exact YK hw (OX.mk none 0 OwnOk.none) (by exact (sk (sl (sl sr)))) (Ms.own O Ms.nil) (by show Value.slice none 0 0=_;rfl))))))))))
 ·skip
  exact AE.skip (q2 (AC.openV (V:=λb1=>(Value.slice (some ⟨b1,0,none⟩) 0 0)) (T:=3) (cs:=[]) (AT O) (Kz underlying86 sizeOf3) O (AV O) λb1=>AC.asRow0 (z:=1) 0 O Z λho_b1=>AM O (AC.appendE0 Jv O ho_b1 O (R6 (k:=2) O y.ok) (by rw [BG,hn,Nat.mul_one]) (Q2 _) (Fl Z) Z O λpq cq hq=>AI O (AC.nil (OkQ.subF (sL [0,2] O) (OkQ.then_ (AE.ret (AS O (AZ (v:=(Value.slice pq n cq)) O) (λw hw=>(YK hw (OX.mk pq cq hq) (sk (sl (sl sr))) (Ms.own O Ms.nil) O))))))))))
set_option maxHeartbeats 1000000 in
theorem PM (l:List Nat) (y:RX (inL l) l.length) (hl0:0<l.length) (hl:l.length<=10000000) (w:World) {S:Nat->Prop} (hy:Ro S w y):Calls prog 41 #[(Value.slice y.p l.length y.c)] w (Al (CX (inL (DG l)) (DG l).length) S w):=by
 have hyc:=y.ok.le
 have ly:=CV (W:=w) hy
 refine Ag (args:=[(Value.slice y.p l.length y.c)]) (L:=[AJ y.p (inL l)]) func41 O O (AV O) (C4 hy Ao) (AE.subF (sL [0] O) (q4 (AI O (AC.nil (q2 (AI O (AC.nil (q1 (q4 (AM O (AK (v:=(vN l.length)) (AF O underlying86) O ?_)))))))))))
 refine AM O (AC.nil (OkQ.subF (sL [0,2,3,8,9] O) (OkQ.then_ (AE.block ?_))))
 refine AE.lp2 (tg λ(i:Nat) (bq:Nat)=>i<=l.length/\bq=De l i) (tg λ(i:Nat) (bq:Nat)=>[(0,(Value.slice y.p l.length y.c)),(2,(Value.slice none 0 0)),(8,(vN l.length)),(9,(vN i)),(3,(vN bq))]) (tg λ(i:Nat) (bq:Nat)=>[AJ y.p (inL l)]) (tg λ(i:Nat) (bq:Nat)=>l.length-i) 0 0 (⟨Nat.zero_le _,rfl⟩) (sF O) sr (λi bq hJ=>?_)
 obtain ⟨hi,hb⟩:=hJ
 have hbl:bq<l.length:=by rw [hb];exact JC i hi hl0
 refine q4 (AK (Ad (c:=(decide (i<l.length))) O O (B7 (a:=i) (b:=l.length))) O (AC.nil (q1 ?_)))
 refine AE.cond O (λhc0=>?_) (λhc0=>?_)
 ·replace hc0:=of_decide_eq_true hc0
  refine AE.skip (q1 (AE.block (q4 (AM O (AI O (q6 (sL [0,2,8,9,3,4] O) (Cu [(0,true),(1,true),(2,true),(3,true),(4,true),(5,true),(6,true),(7,true),(8,true),(9,true)] sr (BU O (BU O (Av (v:=(pP (pB y.p) (pO y.p+i*1))) O (AH (j:=i) O O y.ok underlying86 sizeOf3 O Z) (Av O (AL (v:=(vN (l.getD i 0))) (i:=0) O O (y.ok.ne Z) BR (CM (l:=l) (j:=i) Z)) ?_)))))))))))
  refine BU O (BU O (Av (v:=(pP (pB y.p) (pO y.p+bq*1))) O (AH (j:=bq) O O y.ok underlying86 sizeOf3 O Z) (Av O (AL (v:=(vN (l.getD bq 0))) (i:=0) O O (y.ok.ne Z) BR (CM (l:=l) (j:=bq) Z)) (pS' O (pS' O (OkE.nil (OkQ.subF (sL [0,2,8,9,3,4,5,6] O) (q1 ?_))))))))
  by_cases hs1:l.getD i 0<l.getD bq 0
  ·skip
   refine Cu [(0,true),(1,true),(2,true),(3,true),(4,true),(5,true),(6,true),(7,true),(8,true),(9,true),(10,true),(11,true),(12,true),(13,true),(14,true),(15,true),(16,true),(17,true),(18,true),(19,true),(20,true),(21,true),(22,true),(23,true),(24,true),(25,true),(26,true)] sr (BU O (BU O (Av O (Ad (c:=true) O O (decide_eq_true Z)) (BU O (OkE.skp O (AD O) O O (OkE.skp O (AD O) O O (OkE.skp O (AD O) O O (OkE.skp O (AD O) O O (OkE.skp O (Aj O O O) O O (OkE.skp O (Aj O O O) O O (OkE.skp O (Aj O O O) O O ?_)))))))))))
   refine OkE.skp O (Aj O O O) O O (OkE.skp O (Aj O O O) O O (OkE.skp O (Aj O O O) O O (OkE.skp O (Aj O O O) O O (OkE.skp O (Aj O O O) O O (OkE.skp O (Aj O O O) O O (OkE.skp O (Aj O O O) O O (OkE.skp O (Aj O O O) O O (OkE.skp O (Aj O O O) O O (OkE.skp O (Aj O O O) O O (OkE.skp O (Aj O O O) O O (OkE.skp O (Aj O O O) O O ?_)))))))))))
   refine OkE.skp O (Aj O O O) O O (OkE.skp O (Aj O O O) O O (OkE.skp O (AD O) O O (Av (v:=(Value.bool true)) O (AR O O) (OkE.nil (OkQ.subF (sL [0,2,8,9,3,4,46] O) (OkQ.then_ (AE.cond_true O (AE.region (AM O (AI O (AC.nil ?_)))))))))))
   exact OkQ.subF (sL [0,2,8,9,3,4] O) (OkQ.in_normal (OkQ.then_ (AE.region (AK (AY (c:=((i+1:Nat):Int)) O O (AU (a:=i) (b:=1) Z)) O (AM O (AC.nil (OkQ.subF (sL [0,2,8,9,3,4] O) (OkQ.round2 (i+1) i (⟨Z,by first|exact HS hb hs1|exact HW hb hs2 hc1|exact JE hb hs1 hs2|exact I6 hb hs1 hc1⟩) Z (sF O) sr))))))))
  ·skip
   by_cases hs2:l.getD i 0=l.getD bq 0
   ·skip
    refine Cu [(0,true),(1,true),(2,true),(3,true),(4,true),(5,true),(6,true),(7,true),(8,true),(9,true),(10,true),(11,true),(12,true),(13,true),(14,true),(15,true),(16,true),(17,true),(18,true),(19,true),(20,true),(21,true),(22,true),(23,true),(24,true),(25,true),(26,true)] sr (BU O (BU O (Av O (Ad (c:=false) O O (decide_eq_false Z)) (BU O (OkE.pas (v:=(vN (l.getD i 0))) O (AA O) (AW O) O O (OkE.pas (v:=(vN (l.getD bq 0))) O (AA O) (AW O) O O (OkE.pas (v:=(Value.bool true)) O (AA O) (BA (c:=true) O O (decide_eq_true Z)) O O (OkE.pas (v:=(Value.bool true)) O (AA O) (AW O) O O (OkE.pas (v:=(Value.slice y.p l.length y.c)) O (AA O) (AW O) O O (OkE.pas (v:=(vN i)) O (AA O) (AW O) O O (OkE.pas (v:=(vN (i+1))) O (AA O) (AY (c:=((i+1:Nat):Int)) O O (AU (a:=i) (b:=1) Z)) O O ?_)))))))))))
    refine OkE.pas (v:=(Value.slice y.p l.length y.c)) O (AA O) (AW O) O O (OkE.pas (v:=(vN l.length)) O (AA O) (AF O underlying86) O O (OkE.pas (v:=(vN ((i+1)%l.length))) O (AA O) (Cb (c:=(((i+1)%l.length:Nat):Int)) O O Z (NQ (a:=i+1) (b:=l.length))) O O (OkE.pas (v:=(pP (pB y.p) (pO y.p+((i+1)%l.length)*1))) O (AA O) (AH (j:=(i+1)%l.length) O O y.ok underlying86 sizeOf3 O (by first|exact Nat.mod_lt _ hl0|omega)) O O (OkE.pas (v:=(vN (l.getD ((i+1)%l.length) 0))) O (AA O) (AL (v:=(vN (l.getD ((i+1)%l.length) 0))) (i:=0) O O (y.ok.ne (by first|exact Nat.mod_lt _ hl0|omega)) BR (CM (l:=l) (j:=(i+1)%l.length) (by first|exact Nat.mod_lt _ hl0|omega))) O O (OkE.pas (v:=(Value.slice y.p l.length y.c)) O (AA O) (AW O) O O (OkE.pas (v:=(vN bq)) O (AA O) (AW O) O O (OkE.pas (v:=(vN (bq+1))) O (AA O) (AY (c:=((bq+1:Nat):Int)) O O (AU (a:=bq) (b:=1) Z)) O O (OkE.pas (v:=(Value.slice y.p l.length y.c)) O (AA O) (AW O) O O (OkE.pas (v:=(vN l.length)) O (AA O) (AF O underlying86) O O (OkE.pas (v:=(vN ((bq+1)%l.length))) O (AA O) (Cb (c:=(((bq+1)%l.length:Nat):Int)) O O Z (NQ (a:=bq+1) (b:=l.length))) O O (OkE.pas (v:=(pP (pB y.p) (pO y.p+((bq+1)%l.length)*1))) O (AA O) (AH (j:=(bq+1)%l.length) O O y.ok underlying86 sizeOf3 O (by first|exact Nat.mod_lt _ hl0|omega)) O O ?_)))))))))))
    refine OkE.pas (v:=(vN (l.getD ((bq+1)%l.length) 0))) O (AA O) (AL (v:=(vN (l.getD ((bq+1)%l.length) 0))) (i:=0) O O (y.ok.ne (by first|exact Nat.mod_lt _ hl0|omega)) BR (CM (l:=l) (j:=(bq+1)%l.length) (by first|exact Nat.mod_lt _ hl0|omega))) O O (OkE.pas (v:=(Value.bool (decide ((l.getD ((i+1)%l.length) 0)<(l.getD ((bq+1)%l.length) 0))))) O (AA O) (Ad (c:=(decide ((l.getD ((i+1)%l.length) 0)<(l.getD ((bq+1)%l.length) 0)))) O O (B7 (a:=l.getD ((i+1)%l.length) 0) (b:=l.getD ((bq+1)%l.length) 0))) O O (OkE.pas (v:=(Value.bool (decide ((l.getD ((i+1)%l.length) 0)<(l.getD ((bq+1)%l.length) 0))))) O (AA O) (AR O O) O O (Av (v:=(Value.bool (decide ((l.getD ((i+1)%l.length) 0)<(l.getD ((bq+1)%l.length) 0))))) O (AO O O) (OkE.nil (OkQ.subF (sL [0,2,8,9,3,4,46] O) (OkQ.then_ ?_))))))
    refine AE.cond O (λhc1=>?_) (λhc1=>?_)
    ·replace hc1:=of_decide_eq_true hc1
     exact AE.region (AM O (AI O (AC.nil (OkQ.subF (sL [0,2,8,9,3,4] O) (OkQ.in_normal (OkQ.then_ (AE.region (AK (AY (c:=((i+1:Nat):Int)) O O (AU (a:=i) (b:=1) Z)) O (AM O (AC.nil (OkQ.subF (sL [0,2,8,9,3,4] O) (OkQ.round2 (i+1) i (⟨Z,by first|exact HS hb hs1|exact HW hb hs2 hc1|exact JE hb hs1 hs2|exact I6 hb hs1 hc1⟩) Z (sF O) sr))))))))))))
    ·replace hc1:=of_decide_eq_false hc1
     exact AE.skip (OkQ.in_normal (OkQ.then_ (AE.region (AK (AY (c:=((i+1:Nat):Int)) O O (AU (a:=i) (b:=1) Z)) O (AM O (AC.nil (OkQ.subF (sL [0,2,8,9,3,4] O) (OkQ.round2 (i+1) bq (⟨Z,by first|exact HS hb hs1|exact HW hb hs2 hc1|exact JE hb hs1 hs2|exact I6 hb hs1 hc1⟩) Z (sF O) sr))))))))
   ·skip
    refine Cu [(0,true),(1,true),(2,true),(3,true),(4,true),(5,true),(6,true),(7,true),(8,true),(9,true),(10,true),(11,true),(12,true),(13,true),(14,true),(15,true),(16,true),(17,true),(18,true),(19,true),(20,true),(21,true),(22,true),(23,true),(24,true),(25,true),(26,true)] sr (BU O (BU O (Av O (Ad (c:=false) O O (decide_eq_false Z)) (BU O (OkE.pas (v:=(vN (l.getD i 0))) O (AA O) (AW O) O O (OkE.pas (v:=(vN (l.getD bq 0))) O (AA O) (AW O) O O (OkE.pas (v:=(Value.bool false)) O (AA O) (BA (c:=false) O O (decide_eq_false Z)) O O (OkE.pas (v:=(Value.bool false)) O (AA O) (AW O) O O (OkE.skp O (AD O) O O (OkE.skp O (AD O) O O (OkE.skp O (AD O) O O ?_)))))))))))
    refine OkE.skp O (AD O) O O (OkE.skp O (AD O) O O (OkE.skp O (AD O) O O (OkE.skp O (AD O) O O (OkE.skp O (AD O) O O (OkE.skp O (AD O) O O (OkE.skp O (AD O) O O (OkE.skp O (AD O) O O (OkE.skp O (AD O) O O (OkE.skp O (AD O) O O (OkE.skp O (AD O) O O (OkE.skp O (AD O) O O ?_)))))))))))
    refine OkE.skp O (AD O) O O (OkE.skp O (AD O) O O (OkE.pas (v:=(Value.bool false)) O (AA O) (AO O O) O O (Av (v:=(Value.bool false)) O (AO O O) (OkE.nil (OkQ.subF (sL [0,2,8,9,3,4,46] O) (OkQ.then_ (AE.cond_false O (AE.skip (OkQ.in_normal (OkQ.then_ (AE.region ?_)))))))))))
    exact AK (AY (c:=((i+1:Nat):Int)) O O (AU (a:=i) (b:=1) Z)) O (AM O (AC.nil (OkQ.subF (sL [0,2,8,9,3,4] O) (OkQ.round2 (i+1) bq (⟨Z,by first|exact HS hb hs1|exact HW hb hs2 hc1|exact JE hb hs1 hs2|exact I6 hb hs1 hc1⟩) Z (sF O) sr))))
 ·replace hc0:=of_decide_eq_false hc0
  have hb2:bq=De l l.length:=by rw [hb,show i=l.length by omega]
  refine AE.exit (OkQ.then_exit (OkQ.round2_exit (OkQ.in_exit (q1 (Cu [(0,true),(1,true),(2,true),(4,true),(5,true),(6,true),(3,false),(7,false),(8,false),(9,true)] sr (BU O (BU O (Av (v:=(Value.slice (OK y.p bq y.c 1) (l.length-bq) (y.c-bq))) O (IV (i:=bq) O O underlying86 sizeOf3 Z y.ok.le) (BU O (BU O (Av (v:=(Value.slice y.p bq y.c)) O (Dx (m:=bq) O O underlying86 sizeOf3 Z) ?_)))))))))))
  refine OkE.imp O (AC.callL (S:=S) (V:=bu) (LW:=aF (T:=3) (z:=1) (cs:=inL (l.drop bq)) (n:=l.length-bq)) (args:=[(Value.slice (OK y.p bq y.c 1) (l.length-bq) (y.c-bq))]) call59 (λw hw=>Q_ (l.drop bq) (l.length-bq) ⟨OK y.p bq y.c 1,y.c-bq,Pz y.ok hbl⟩ (List.length_drop ..) Z w (aX (Bc hw 0 O ly) hbl)) O λcl hcl=>OkE.back (sl sr) (OkE.imp O (AC.appendS0 (cs2:=inL (l.drop bq++l.take bq)) (news:=inL (l.take bq)) Jv O cl.ok (by rw [BG,List.length_drop,Nat.mul_one]) O (Z8 (k:=1) O y.ok Z) (by rw [BG,List.length_take,Nat.mul_one];omega) (Q2 _) (Fl Z) Z (CS _ _).symm O λpt ct ht=>OkE.back (sl sr) (OkE.imp O (ck' call58 (clipI_ok pt ((l.length-bq)+bq) ct ht.row.le) O (OkE.back (sl sr) (pS' O (OkE.nil (OkQ.subF (sL [0,2,8,9,3] O) ?_)))))))))
  exact OkQ.then_ (AE.ret (AS O (AZ (v:=(Value.slice pt ((l.length-bq)+bq) ((l.length-bq)+bq))) O) (λw hw=>(by rw [show (DG l).length=(l.length-bq)+bq by rw [Mn];omega,show DG l=l.drop bq++l.take bq by rw [DG,hb2]];exact UQ hw 0 O ht (by rw [BG,List.length_append,List.length_drop,List.length_take,Nat.mul_one];omega) O))))
theorem Pa (a b:List Nat) (x:RX (inL a) a.length) (y:RX (inL b) b.length) (hal:a.length<=10000000) (w:World) {S:Nat->Prop} (hx:Ro S w x) (hy:Ro S w y):Calls prog 43 #[(Value.slice x.p a.length x.c),(Value.slice y.p b.length y.c)] w (Ak w (vI (cmpL a b))):=by
 have lx:=CV (W:=w) hx
 have ly:=CV (W:=w) hy
 refine Ag (args:=[(Value.slice x.p a.length x.c),(Value.slice y.p b.length y.c)]) (L:=[AJ x.p (inL a),AJ y.p (inL b)]) func43 O O (AV O) (C4 hx (C4 hy Ao)) (AE.subF (sL [0,1] O) (q4 (AI O (AC.nil (q1 (q4 (AM O (AK (v:=(vN a.length)) (AF O underlying86) O (AM O (AC.nil (OkQ.then_ ?_)))))))))))
 refine AE.block ?_
 refine AE.lp1 (tg λ(i:Nat)=>i<=a.length/\i<=b.length/\cmpL a b=cmpL (a.drop i) (b.drop i)) (tg λ(i:Nat)=>[(0,(Value.slice x.p a.length x.c)),(1,(Value.slice y.p b.length y.c)),(9,(Value.slice x.p a.length x.c)),(10,(vN a.length)),(11,(vN i))]) (tg λ(i:Nat)=>[AJ x.p (inL a),AJ y.p (inL b)]) (tg λ(i:Nat)=>a.length-i) 0 (⟨Nat.zero_le _,Nat.zero_le _,rfl⟩) (sF O) sr (λi hJ=>?_)
 obtain ⟨hi1,hi2,he⟩:=hJ
 refine q4 (AK (Ad (c:=(decide (i<a.length))) O O (B7 (a:=i) (b:=a.length))) O (AC.nil (q1 ?_)))
 refine AE.cond O (λhc0=>?_) (λhc0=>?_)
 ·replace hc0:=of_decide_eq_true hc0
  refine AE.skip (q1 (AE.block (q4 (AM O (AK (v:=(pP (pB x.p) (pO x.p+i*1))) (AH (j:=i) O O x.ok underlying86 sizeOf3 O Z) O (AK (AL (v:=(vN (a.getD i 0))) (i:=0) O O (x.ok.ne Z) BR (CM (l:=a) (j:=i) Z)) O (AI O (AI O (q6 (sL [0,1,9,10,11,5,6] O) (q4 (AM O ?_)))))))))))
  refine AM O (AK (v:=(vN b.length)) (AF O underlying86) O (AK (CI (c:=(decide (b.length<=i))) O O (SW (a:=b.length) (b:=i))) O (AC.nil (OkQ.subF (sL [0,1,9,10,11,5,6,19] O) (OkQ.then_ ?_)))))
  refine AE.cond O (λhc1=>?_) (λhc1=>?_)
  ·replace hc1:=of_decide_eq_true hc1
   exact q4 (AI O (AC.nil (OkQ.then_ (AE.ret (OkQ.then_ret (OkQ.in_ret (OkQ.then_ret (OkQ.round1_ret (OkQ.in_ret (OkQ.then_ret (AS O (AZ (v:=(vI 1)) O) (λw hw=>⟨by rw [he,SB hc0 Z]<;>rfl,hw.out⟩))))))))))))
  ·replace hc1:=of_decide_eq_false hc1
   obtain ⟨cc,hcc⟩:∃q,q=Dd (a.getD i 0) (b.getD i 0):=⟨_,rfl⟩
   have h3:=Gz (a.getD i 0) (b.getD i 0)
   rw [<-hcc] at h3
   refine AE.skip (q2 (AM O (AM O (AK (v:=(pP (pB y.p) (pO y.p+i*1))) (AH (j:=i) O O y.ok underlying86 sizeOf3 O Z) O (AK (AL (v:=(vN (b.getD i 0))) (i:=1) O O (y.ok.ne Z) BR (CM (l:=b) (j:=i) Z)) O (AI O (q3 (sL [0,1,9,10,11,5,6,7] O) (AM O (AM O (ck' call62 (Lv (a.getD i 0) (b.getD i 0)) O (AC.retell (k:=26) (u:=(vI cc)) O (by rw [hcc]) ?_)))))))))))
   refine AI O (q3 (sL [0,1,9,10,11,5,8] O) (AM O (AK (Ce (c:=(decide (cc≠(0:Int)))) O O O) O (AC.nil (OkQ.subF (sL [0,1,9,10,11,5,8,28] O) (OkQ.then_ ?_))))))
   refine AE.cond O (λhc2=>?_) (λhc2=>?_)
   ·replace hc2:=of_decide_eq_true hc2
    exact q4 (AM O (AI O (AC.nil (OkQ.subF (sL [0,1,9,10,11,5,8,4] O) (OkQ.then_ (AE.ret (OkQ.in_ret (OkQ.then_ret (OkQ.round1_ret (OkQ.in_ret (OkQ.then_ret (AS O (AZ (v:=(vI cc)) O) (λw hw=>⟨by rw [he,GW hc0 Z];rcases h3 with ⟨h4,h5⟩|⟨h4,h5⟩|⟨h4,h5⟩;rw [if_pos h4,h5];rw [if_neg Z,if_pos h4,h5];exact absurd h5 hc2,hw.out⟩)))))))))))))
   ·replace hc2:=of_decide_eq_false hc2
    exact AE.skip (OkQ.in_normal (OkQ.then_ (AE.region (AK (AY (c:=((i+1:Nat):Int)) O O (AU (a:=i) (b:=1) Z)) O (AM O (AC.nil (OkQ.subF (sL [0,1,9,10,11,5,8] O) (OkQ.round1 (i+1) (⟨Z,Z,by rw [he,GW hc0 Z];rcases h3 with ⟨h4,h5⟩|⟨h4,h5⟩|⟨h4,h5⟩;(exfalso;omega);(exfalso;omega);rw [if_neg Z,if_neg Z]⟩) Z (sF O) sr))))))))
 ·replace hc0:=of_decide_eq_false hc0
  refine AE.exit (OkQ.then_exit (OkQ.round1_exit (OkQ.in_exit (q1 (q4 (AM O (AK (v:=(vN a.length)) (AF O underlying86) O (AM O (AK (v:=(vN b.length)) (AF O underlying86) O (AK (Ad (c:=(decide (a.length<b.length))) O O (B7 (a:=a.length) (b:=b.length))) O (AC.nil ?_)))))))))))
  refine OkQ.subF (sL [0,1,9,10,11,35] O) (OkQ.then_ ?_)
  refine AE.cond O (λhc3=>?_) (λhc3=>?_)
  ·replace hc3:=of_decide_eq_true hc3
   exact q4 (AI O (AC.nil (OkQ.then_ (AE.ret (OkQ.then_ret (AS O (AZ (v:=(vI (-1:Int))) O) (λw hw=>⟨by rw [he,NJ Z hi1 hi2,if_pos hc3]<;>rfl,hw.out⟩)))))))
  ·replace hc3:=of_decide_eq_false hc3
   exact AE.skip (q2 (AI O (AC.nil (OkQ.then_ (AE.ret (AS O (AZ (v:=(vI 0)) O) (λw hw=>⟨by rw [he,NJ Z hi1 hi2,if_neg hc3]<;>rfl,hw.out⟩)))))))
end
section
structure RI where
  l:List Nat
  p:Option Addr
  c:Nat
  ok:Ar p l.length c
  sm:l.length<=10000000
instance:Inhabited RI:=⟨⟨[],none,0,OwnOk.none.row,by decide⟩⟩
def Sb (x:RI):Value:=.slice x.p x.l.length x.c
def riR (x:RI):As:=AJ x.p (inL x.l)
def Dn (rs:List RI):List As:=rs.map riR
def rvL (rs:List RI):List Value:=rs.map Sb
def Y7 (x:RI):RX (inL x.l) x.l.length:=⟨x.p,x.c,x.ok⟩
theorem EV (rs:List RI):(rvL rs).length=rs.length:=by simp [rvL]
theorem Js (a b:List RI):rvL (a++b)=rvL a++rvL b:=by simp [rvL]
theorem QJ {rs:List RI} {j:Nat} (h:j<rs.length):(rvL rs)[j*1]?=some (Sb (rs.getD j default)):=by simp [rvL,h]
theorem UX (a:RI) (A:List As) (rs:List RI):(riR a::(A++Dn rs)).Perm (A++Dn (rs++[a])):=by
  have e:A++Dn (rs++[a])=(A++Dn rs)++[riR a]:=by unfold Dn;rw [List.map_append,List.append_assoc];rfl
  rw [e]
  exact (List.perm_append_singleton (riR a) (A++Dn rs)).symm
theorem Z0 {A:List As} {rs ys:List RI} (h:ys.Perm rs):(A++Dn rs).Perm (A++Dn ys):=(List.Perm.refl A).append (h.map riR).symm
section
variable {P:Program} {ops:Array Oper} {rest:List Oper} {Q:Exit->Act->World->Prop} {n:Nat} {F:List (Nat×Value)} {w0:BE} {L L2:List As}
theorem AC.permL (hp:L.Perm L2) (next:AC P ops rest Q n F w0 L2):AC P ops rest Q n F w0 L:=λa w ha hW=>next a w ha (hW.perm hp)
theorem AC.callWE {o:Oper} {f:FuncId} {args:Array Value} {v:Value} {α:Type} {K:α->Prop} {cs':α->List Value} (i:Nat) {q:Option Addr} {T:TypeId} {z m c:Nat} {cs:List Value} (hw:Wt ops n F o)
    (he:∀a w,Cp n a F->BM w0 w L->(execOp a.eval o).run P w=.ok (.enter f args) w) (hi:L[i]?=some (rowW q T z m c cs))
    (hc:∀w,BM w0 w L->Calls P f args w λe w'=>e=.returned v/\K0 w w' (q.map (·.block))/\∃y,K y/\∀b,q.map (·.block)=some b->∃o,w'.heap[b]?=some o/\(rowW q T z m c (cs' y)).P o)
    (hd:∀d,o.dst=some d->d<n) (next:∀y,K y->AC P ops rest Q n (match o.dst with|some d=>(d,v)::F|none=>F) w0 (L.set i (rowW q T z m c (cs' y)))):AC P ops (o::rest) Q n F w0 L:=λa w ha hW=>by
  unfold wpList
  rw [if_pos (hw a ha)]
  left
  unfold Oper.wp
  rw [he a w ha hW,Oper.upon_enter]
  refine (hc w hW).mono ?_
  rintro e w' ⟨rfl,hg,y,hk,hr⟩
  have hW':=hW.renew hi rfl hg (y:=rowW q T z m c (cs' y)) λb e=>⟨.inl e,hr b e⟩
  have next:=next y hk
  cases hdd:o.dst with
  | none=>rw [hdd] at next;exact next _ _ ha.put_none hW'
  | some d=>rw [hdd] at next;exact next _ _ (ha.put (hd d hdd)) hW'
end
def aL (x y:RI):Prop:=¬cmpL y.l x.l<0
theorem bU {α:Type} (f:α->RI):Go.Sort.SWO (ltOf λx y:α=>cmpL (f x).l (f y).l) where
  irrefl x:=decide_eq_false (by show ¬cmpL (f x).l (f x).l<0;rw [LS];decide)
  trans x y z h1 h2:=decide_eq_true (Fb _ _ _ (of_decide_eq_true h1) (of_decide_eq_true h2))
  ntrans x y z h1 h2:=by
    have h1:¬cmpL (f x).l (f y).l<0:=of_decide_eq_false h1
    have h2:¬cmpL (f y).l (f z).l<0:=of_decide_eq_false h2
    refine decide_eq_false λ(h3:cmpL (f x).l (f z).l<0)=>?_
    rcases Int.lt_trichotomy (cmpL (f x).l (f y).l) 0 with h4|h4|h4
    · exact h1 h4
    · rw [<-FC _ _ h4] at h2;exact h2 h3
    · rcases Int.lt_trichotomy (cmpL (f y).l (f z).l) 0 with h5|h5|h5
      · exact h2 h5
      · rw [FC _ _ h5] at h1;exact h1 h3
      · have e1:=DJ (f x).l (f y).l
        have e2:=DJ (f y).l (f z).l
        have e3:=DJ (f x).l (f z).l
        have:=Fb (f z).l (f y).l (f x).l Z Z
        omega
def F_ (w:World) (Ah:Nat) (x:RI):Prop:=Go.Proofs.YtpgncndhhhllfaaGreat.Holds w (riR x)/\∀b,(riR x).foot=some b->Ah≠b
instance goodInh (w:World) (Ah:Nat):Inhabited {x:RI // F_ w Ah x}:=⟨⟨default,(λb e=>by cases e),(λb e=>by cases e)⟩⟩
theorem Gh {α:Type} [Inhabited α] {enc:α->Value} {w:World} {Ah off m b:Nat} {dk:Array α} {os:Array Obj} {o:Obj} (hb:w.heap[b]?=some o) (hne:Ah≠b):(sortWorld enc w Ah off m dk os).heap[b]?=some o:=by
  have hlt:b<w.heap.size:=by
    rcases Nat.lt_or_ge b w.heap.size with h|h
    · exact h
    · rw [Array.getElem?_eq_none h] at hb;cases hb
  unfold sortWorld
  rw [Go.Sort.heap_grow_old _ _ (by simpa [Go.Sort.putRow,Go.Sort.mapBlock,Go.Sort.ahead] using hlt)]
  simp [Go.Sort.putRow,Go.Sort.mapBlock,Go.Sort.ahead,Array.getElem?_modify,hne,hb]
theorem ZG (Ah off size:Nat) (w:World):CmpLays1 prog 43 #[] (λx:{x:RI // F_ w Ah x}=>Sb x.1) (λx y=>cmpL x.1.l y.1.l) Ah off size w:=λm os dk _ x y=>by
  rw [Array.append_empty]
  have ro:∀x:{x:RI // F_ w Ah x},Ro (λ_=>True) (sortWorld (λx:{x:RI // F_ w Ah x}=>Sb x.1) w Ah off m dk os) (Y7 x.1):=λx y hy=>by
    rcases List.mem_singleton.1 hy with rfl
    refine ⟨λb e=>?_,λ_ _=>trivial⟩
    obtain ⟨o,ho,hp⟩:=x.2.1 b e
    exact ⟨o,Gh ho (x.2.2 b e),hp⟩
  exact (Pa x.1.l y.1.l (Y7 x.1) (Y7 y.1) x.1.sm _ (ro x) (ro y)).mono λe w' h=>⟨h.1,P5 h.2⟩
theorem Mw {α:Type} {p:α->Prop}:∀(l:List α) (h:∀x∈l,p x),(l.pmap Subtype.mk h).map Subtype.val=l
  | [],_=>rfl
  | x::r,h=>by rw [List.pmap_cons,List.map_cons,Mw r]
theorem Sh (rs:List RI) (p:Option Addr) (n c:Nat) (T:TypeId) (ho:OwnOk p n c) (hp0:p≠none) (hn:n=rs.length) (hN:n<4611686018427387904) (w:World) (hrow:∀b,p.map (·.block)=some b->∃o,w.heap[b]?=some o/\(rowW p T 1 n c (rvL rs)).P o)
    (hg:∀r∈rs,Go.Proofs.YtpgncndhhhllfaaGreat.Holds w (riR r)/\∀b,(riR r).foot=some b->p.map (·.block)≠some b) :
    Calls prog 42 #[.slice p n c,.func (.func 43) #[] #[]] w λe w'=>e=.returned (.tuple #[])/\K0 w w' (p.map (·.block))/\∃ys:List RI,(ys.Perm rs/\ys.Pairwise aL)/\∀b,p.map (·.block)=some b->∃o,w'.heap[b]?=some o/\(rowW p T 1 n c (rvL ys)).P o:=by
  cases hp:p with
  | none=>exact absurd hp hp0
  | some a =>
    subst hp
    obtain ⟨o,hob,cur,rfl,hsz,hcur⟩:=hrow a.block rfl
    have hat:=ho.at0 a rfl
    have hle:=ho.le
    rw [Nat.mul_one] at hsz hcur
    have hg':∀r∈rs,F_ w a.block r:=λr hr=>⟨(hg r hr).1,λb e h=>(hg r hr).2 b e (by rw [<-h];rfl)⟩
    obtain ⟨d,hd⟩:∃d,d=(rs.pmap (Subtype.mk (p:=F_ w a.block)) hg').toArray:=⟨_,rfl⟩
    have hdz:d.size=n:=by rw [hd,hn];simp
    have hdx:d.toList.map Subtype.val=rs:=by rw [hd];exact Mw _ _
    have flat:∀(d:Array {x:RI // F_ w a.block x}) j,j<d.size->(rvL (d.toList.map Subtype.val))[j]?=some (Sb (d[j]!).1):=λd j hj=>by
      unfold rvL
      rw [List.map_map,List.getElem?_map,Array.getElem?_toList,Array.getElem?_eq_getElem hj,getElem!_pos d j hj];rfl
    have hH:Go.Sort.Holds (λx:{x:RI // F_ w a.block x}=>Sb x.1) w a.block 0 d:=λj hj=>by
      refine ⟨?_,by simp [World.frozen?,hob]⟩
      have h1:(cur.toList.take n)[j]?=(rvL rs)[j]?:=by rw [hcur]
      rw [List.getElem?_take_of_lt Z,Array.getElem?_toList,<-hdx,flat d j hj] at h1
      unfold World.cell?
      simp only [hob,Nat.zero_add]
      exact h1
    have hlt:a.block<w.heap.size:=by
      rcases Nat.lt_or_ge a.block w.heap.size with h|h
      · exact h
      · rw [Array.getElem?_eq_none h] at hob;cases hob
    have h:=Tryz.slices_SortFunc_int (λx:{x:RI // F_ w a.block x}=>Sb x.1) (λx=>rfl) (λx y=>cmpL x.1.l y.1.l) (bU λx:{x:RI // F_ w a.block x}=>x.1) 43 #[] a.block 0 c d w call43 (ZG a.block 0 d.size w) hH hlt Z
    rw [hdz] at h
    rw [hat]
    refine h.mono ?_
    rintro e w' ⟨rfl,d',m,os,⟨hz',_,hperm⟩,hsort,rfl⟩
    have hz2:d'.size=n:=by rw [hz',hdz]
    have hperm':d'.toList.Perm d.toList:=by
      have e1:d'.extract 0 n=d':=by rw [<-hz2];exact Array.extract_size
      have e2:d.extract 0 n=d:=by rw [<-hdz];exact Array.extract_size
      rw [e1,e2] at hperm
      exact hperm
    refine ⟨rfl,⟨⟨rfl,rfl,rfl,by simp [sortWorld,Go.Sort.grow,Go.Sort.putRow,Go.Sort.mapBlock,Go.Sort.ahead],λj hj hne=>?_⟩,by show w.drawn<=w.drawn+m;omega⟩,d'.toList.map Subtype.val,⟨by rw [<-hdx];exact hperm'.map _,List.pairwise_map.2 (List.pairwise_iff_getElem.2 λi j hi hj hij=>?_)⟩,λb e=>?_⟩
    · have hne':a.block≠j:=λe=>hne (by rw [e];rfl)
      rw [Array.getElem?_eq_getElem hj]
      exact Gh (Array.getElem?_eq_getElem hj) hne'
    · have hi':i<d'.size:=by simpa using hi
      have hj':j<d'.size:=by simpa using hj
      have h9:=of_decide_eq_false (hsort i j (Nat.zero_le _) hij Z)
      rw [getElem!_pos d' j hj',getElem!_pos d' i hi'] at h9
      simpa [aL] using h9
    · injection e with e
      subst e
      refine ⟨.cells (Go.Sort.putCells (λx:{x:RI // F_ w a.block x}=>Sb x.1) 0 d' cur) T (0,0),?_,_,rfl,by simp [Go.Sort.putCells,hsz],?_⟩
      · unfold sortWorld
        rw [Go.Sort.heap_grow_old _ _ (by simpa [Go.Sort.putRow,Go.Sort.mapBlock,Go.Sort.ahead] using hlt)]
        simp [Go.Sort.putRow,Go.Sort.mapBlock,Go.Sort.ahead,Array.getElem?_modify,hob,Go.Sort.onCells]
      · rw [Nat.mul_one]
        apply List.ext_getElem?
        intro j
        have hlen:(rvL (d'.toList.map Subtype.val)).length=n:=by rw [EV,List.length_map,Array.length_toList,hz2]
        by_cases hj:j<n
        · rw [List.getElem?_take_of_lt hj,Array.getElem?_toList,flat d' j (by rw [hz2];exact hj)]
          unfold Go.Sort.putCells
          rw [Array.getElem?_mapIdx,Array.getElem?_eq_getElem Z,Option.map_some,if_pos ⟨Nat.zero_le _,Z⟩]
          rfl
        · rw [List.getElem?_take_eq_none Z,List.getElem?_eq_none Z]
theorem RL {w0:BE} {w:World} {A:List As} {rs:List RI} {i:Nat} {p:Option Addr} {T n c:Nat} {cs:List Value} (hw:BM w0 w (A++Dn rs)) (hi:A[i]?=some (rowW p T 1 n c cs)):∀r∈rs,Go.Proofs.YtpgncndhhhllfaaGreat.Holds w (riR r)/\∀b,(riR r).foot=some b->p.map (·.block)≠some b:=λr hr=>by
  have hm:riR r∈Dn rs:=List.mem_map.2 ⟨r,hr,rfl⟩
  have hm2:riR r∈A++Dn rs:=List.mem_append_right _ hm
  refine ⟨λb e=>(hw.2.1 _ hm2 b e).2,λb e h=>?_⟩
  have h1:=(List.pairwise_append.1 hw.2.2).2.2 _ (List.mem_of_getElem? hi) _ hm
  rcases h1 with ⟨h2,_⟩|h2
  · cases h2
  · exact h2 b h e
structure Qt (ls:List (List Nat)) where
  rs:List RI
  e:rs.map (·.l)=ls
  q:RX (rvL rs) rs.length
instance {ls:List (List Nat)}:CO (Qt ls):=⟨λx=>x.q.val,λx=>x.q.row::Dn x.rs,λx y hy=>by
  rcases List.mem_cons.1 hy with rfl|hy
  · rfl
  · obtain ⟨r,_,rfl⟩:=List.mem_map.1 hy;rfl⟩
structure XX (ls:List (List Nat)) where
  x:Qt ls
  hc:x.q.c=x.rs.length
  hr:∀r∈x.rs,r.c=r.l.length
instance {ls:List (List Nat)}:CO (XX ls):=⟨λy=>CO.val y.x,λy=>CO.rows y.x,λy z hz=>CO.ro y.x z hz⟩
theorem Al.ofLPD {S:Nat->Prop} {W w:World} {e:Ending} {ls:List (List Nat)} (h:Al (XX ls) S W e w):Al (Qt ls) S W e w:=by
  obtain ⟨a,h1,h2,h3⟩:=h
  exact ⟨a.x,h1,h2,h3⟩
theorem Y0 {S:Nat->Prop} {W w:World} {A:List As} {rs:List RI} {ls:List (List Nat)} (hw:BM ⟨W,none⟩ w (A++Dn rs)) (i:Nat) {p:Option Addr} {T n c:Nat} (hi:A[i]?=some (rowW p T 1 n c (rvL rs))) (ho:OwnOk p n c) (hn:n=rs.length) (he:rs.map (·.l)=ls) (hat:∀r∈rs,∀b,(riR r).foot=some b->Nw ⟨W,none⟩ S b) (hr:∀r∈rs,r.c=r.l.length) {v:Value} (hv:v=.slice p n n):Al (XX ls) S W (.returned v) w:=by
  subst hn
  have hi':(A++Dn rs)[i]?=some (rowW p T 1 rs.length c (rvL rs)):=by
    rw [List.getElem?_append_left (List.getElem?_eq_some_iff.1 hi).1];exact hi
  refine ⟨⟨⟨rs,he,⟨p,rs.length,ho.clip⟩⟩,rfl,hr⟩,by rw [hv];rfl,hw.out,λy hy=>?_⟩
  have hy:y∈AJ p (rvL rs)::Dn rs:=hy
  rcases List.mem_cons.1 hy with rfl|hy
  · exact DS hw i hi' ho (by rw [EV,Nat.mul_one])
  · obtain ⟨r,hr,rfl⟩:=List.mem_map.1 hy
    exact ⟨λb e=>(hw.2.1 _ (List.mem_append_right _ hy) b e).2,hat r hr⟩
def OH (a b:List Nat):Prop:=¬cmpL b a<0
theorem TI {a b:List Nat} (h1:OH a b) (h2:OH b a):a=b:=by
  unfold OH at h1 h2
  have:=DJ a b
  exact FC _ _ Z
theorem SH {a b c:List Nat} (h1:OH a b) (h2:OH b c):OH a c:=by
  unfold OH at *
  intro h3
  rcases Int.lt_trichotomy (cmpL a b) 0 with h|h|h
  · exact h2 (Fb _ _ _ h3 h)
  · rw [FC _ _ h] at h3;exact h2 h3
  · have:=DJ a b;omega
def Rf (x:List Nat):List (List Nat)->List (List Nat)
  | []=>[x]
  | y::r=>if cmpL x y<0 then x::y::r else y::Rf x r
def O8:List (List Nat)->List (List Nat)
  | []=>[]
  | x::r=>Rf x (O8 r)
theorem H2 (x:List Nat):∀l,(Rf x l).Perm (x::l)
  | []=>List.Perm.refl _
  | y::r=>by
    unfold Rf
    split
    · exact List.Perm.refl _
    · exact (List.Perm.cons y (H2 x r)).trans (List.Perm.swap x y r)
theorem H1:∀l,(O8 l).Perm l
  | []=>List.Perm.refl _
  | x::r=>(H2 x (O8 r)).trans (List.Perm.cons x (H1 r))
theorem IR (x:List Nat):∀l,l.Pairwise OH->(Rf x l).Pairwise OH
  | [],_=>List.pairwise_singleton _ _
  | y::r,h=>by
    obtain ⟨h1,h2⟩:=List.pairwise_cons.1 h
    unfold Rf
    split
    · rename_i k
      have hxy:OH x y:=by unfold OH;have:=DJ x y;omega
      refine List.pairwise_cons.2 ⟨λz hz=>?_,h⟩
      rcases List.mem_cons.1 hz with rfl|hz
      · exact hxy
      · exact SH hxy (h1 z hz)
    · rename_i k
      refine List.pairwise_cons.2 ⟨λz hz=>?_,IR x r h2⟩
      rcases List.mem_cons.1 ((H2 x r).mem_iff.1 hz) with rfl|hz
      · exact k
      · exact h1 z hz
theorem Im:∀l,(O8 l).Pairwise OH
  | []=>List.Pairwise.nil
  | x::r=>IR x _ (Im r)
theorem Ky {l l':List (List Nat)} (hp:l'.Perm l) (hs:l'.Pairwise OH):l'=O8 l :=
  List.Perm.eq_of_pairwise (le:=OH) (λx y _ _ h1 h2=>TI h1 h2) hs (Im l) (hp.trans (H1 l).symm)
theorem SQ {rs ys:List RI} (hp:ys.Perm rs) (hs:ys.Pairwise aL):ys.map (·.l)=O8 (rs.map (·.l)):=Ky (hp.map _) (List.pairwise_map.2 hs)
def Hl (ts:List T3):List (List Nat):=O8 (Dr ts (Ab ts).length).2
end
end Go.Proofs.YtpgncndhhhllfaaGreat
