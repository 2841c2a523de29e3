import Derived.Shelf.SlSortCmp.Whole1
import Derived.Test.YtpgncndhhhllfaaGreatPart03
import Derived.Test.YtpgncndhhhllfaaGreatPart24
import Derived.Test.YtpgncndhhhllfaaGreatPart26
import Derived.Test.YtpgncndhhhllfaaGreatPart28
import Derived.Test.YtpgncndhhhllfaaGreatPart32
import Derived.Test.YtpgncndhhhllfaaGreatPart34
namespace Go.Proofs.YtpgncndhhhllfaaGreat
open Go Go.RowKit Go.Proofs.Tryz
set_option linter.unusedVariables false
set_option linter.unusedSimpArgs false
section
set_option maxRecDepth 100000
theorem Vw (T:T3) (k:P2) (hT:T.1<1099511627776/\T.2.1<1099511627776/\T.2.2<1099511627776) (hk:k.1+k.2<=T.1+T.2.1+T.2.2) (w:World)  :Calls prog 57 #[(aG (AZ T)),(aG (Ap k))] w (A9 w (vN (Gi T k))):=by
 refine Aq (args:=[(aG (AZ T)),(aG (Ap k))]) func57 O O (Ad O) (AE.subF (sL [0,1] O) (q4 (Ca (cs:=AZ T) O λb1=>Ca (cs:=Ap k) O λb2=>AI O (q3 (sL [2,3,4] O) (AJ (v:=(pP b1 0)) (AD (j:=0) O O underlying68 sizeOf3 O (by decide) O) O (BE 1 (vN T.1) BY O (AJ (v:=(pP b1 1)) (AD (j:=1) O O underlying68 sizeOf3 O (by decide) O) O (BE 1 (vN T.2.1) BY O (AJ (AQ (c:=((T.1+T.2.1:Nat):Int)) O O (AN (a:=T.1) (b:=T.2.1) Z)) O ?_)))))))))
 refine AJ (v:=(pP b1 2)) (AD (j:=2) O O underlying68 sizeOf3 O (by decide) O) O (BE 1 (vN T.2.2) BY O (AJ (AQ (c:=(((T.1+T.2.1)+T.2.2:Nat):Int)) O O (AN (a:=T.1+T.2.1) (b:=T.2.2) Z)) O (AJ (v:=(pP b2 0)) (AD (j:=0) O O underlying112 sizeOf3 O (by decide) O) O (BE 0 (vN k.1) BY O (AJ (BU (c:=((((T.1+T.2.1)+T.2.2)-k.1:Nat):Int)) O O (By (a:=(T.1+T.2.1)+T.2.2) (b:=k.1) Z Z)) O (AJ (v:=(pP b2 1)) (AD (j:=1) O O underlying112 sizeOf3 O (by decide) O) O (BE 0 (vN k.2) BY O (AJ (BU (c:=(((((T.1+T.2.1)+T.2.2)-k.1)-k.2:Nat):Int)) O O (By (a:=((T.1+T.2.1)+T.2.2)-k.1) (b:=k.2) Z Z)) O (AI O (AC.nil (OkQ.subF (sL [4] O) ?_)))))))))))
 exact OkQ.then_ (AE.ret (AV O (Ah (v:=(vN ((((T.1+T.2.1)+T.2.2)-k.1)-k.2))) O) (λw hw=>⟨rfl,hw.out⟩)))
theorem Ea (x0 x1:Nat):Instr.fill (λi=>some (i*1,1)) (Ap ((0,0):P2)).toArray [(0,vN x0),(1,vN x1)]=some (Ap (x0,x1)).toArray:=by kernel_rfl
set_option maxHeartbeats 1000000 in
theorem TK {ps:List Pt} {ts ss:List T3} (x:MX ps ts ss) (sx:SX ts true) (k0:P2) (hnb:BI ps.length ts=true) (ho:Bc ts (3*ts.length)=true) (h0:E7 ts k0) (hp:ps.length<=1000000) (htl:ts.length<=1000000) (w:World) {S:Nat->Prop} (hx:Ro S w x) (hsx:Ro S w sx):Calls prog 40 #[(aG (Bp x)),(Value.map (some sx.b)),(aG (Ap k0))] w (A9 w (aG (Ap (DW ts k0)))):=by
 have hkv:sx.kvs=Hh ts:=sx.fin rfl
 obtain ⟨hs0,hs1,hs2,hs3⟩:=Wd hnb ho h0.1
 have lx:=Dk (W:=w) hx
 have lsx:=Dk (W:=w) hsx
 refine An (args:=[(aG (Bp x)),(Value.map (some sx.b)),(aG (Ap k0))]) (L:=[AK x.a.p (rowsL Bf ps),AK x.b.p (rowsL AZ ts),AK x.c.p (rowsL AZ ss),II sx.b Ee vN sx.kvs]) func40 O O (Ad O) (E3 hx (E3 hsx BA)) (AE.subF (sL [0,1,2] O) (q4 (Ca (cs:=Bp x) O λb1=>Ca (cs:=Ap k0) O λb2=>al I4 O λb3=>q3 (sL [1,3,5,6] O) (AM O (BF 1 Eq O (AJ (v:=(vN ((Ae sx.kvs k0).getD 0))) (F0 FY 6 (eV:=vN) (kvs:=sx.kvs) (x:=k0) (z0:=0) (co:=false) O O underlying71 zeroValue3 O (sx.ok) (Mn hnb Z h0.1)) O (AI O (AC.nil ?_))))))))
 refine OkQ.subF (sL [1,3,5,6,7] O) (OkQ.then_ (AE.block ?_))
 refine AE.lp3 (tg λ(i:Nat) (k:P2) (tq:Nat)=>Eh ts k0 i k/\tq=(Ae (Hh ts) k).getD 0) (tg λ(i:Nat) (k:P2) (tq:Nat)=>[(1,(Value.map (some sx.b))),(3,(pP b1 0)),(5,(pP b2 0)),(6,(pP b3 0)),(7,(vN tq))]) (tg λ(i:Nat) (k:P2) (tq:Nat)=>[Af b3 112 (Ap ((0,0):P2)),Af b2 112 (Ap k),Af b1 31 (Bp x),AK x.a.p (rowsL Bf ps),AK x.b.p (rowsL AZ ts),AK x.c.p (rowsL AZ ss),II sx.b Ee vN sx.kvs]) (tg λ(i:Nat) (k:P2) (tq:Nat)=>3*ts.length-i) 0 k0 ((Ae sx.kvs k0).getD 0) (⟨Eh.zero h0.1,by rw [hkv]⟩) (sF O) sr (λi k tq hJ=>?_)
 obtain ⟨hb,htq⟩:=hJ
 obtain ⟨hk0,hk1,hk2,hk3⟩:=Wd hnb ho hb.isS
 rw [<-htq] at hk0 hk3
 have hil:=hb.lt ho h0
 obtain ⟨g1,g2,g3⟩:=Cy (CW hnb hk0)
 have hth:Gi (ts.getD tq (0,0,0)) k<=3000000:=by unfold Gi;omega
 have hnx:FP ts k=(k.2,Gi (ts.getD tq (0,0,0)) k):=by unfold FP;rw [<-htq]
 refine AE.block (AE.seq (rN [(0,true),(1,true),(2,true),(3,true),(4,true),(5,true),(6,true),(7,true),(8,false),(9,true)] [⟨10,8,112,Ap ((0,0):P2)⟩] [(11,false)] sr (by kernel_rfl) (λ_ _ d _ _ h=>by cases d<;>exact h) (Ta O O I4 O (WX)) O (TM (v:=(pP b2 1)) O (AD (j:=1) O O underlying112 sizeOf3 O (by decide) O) O (ZS 1 (vN k.2) BY O (TM (v:=(pP b1 1)) O (AB O underlying31 O sizeOf28 O) O (ZS 2 (Value.slice x.b.p ts.length x.b.c) Bl O (ci O (TM (v:=(pP (pB x.b.p) (pO x.b.p+tq*3))) O (AG (j:=tq) O O x.b.ok underlying28 sizeOf68 O Z) O (TM (v:=(aG (AZ (ts.getD tq ((0,0,0):Tq3))))) O (Ak (vs:=AZ (ts.getD tq ((0,0,0):Tq3))) (i:=4) O O (Aw.ne x.b.ok Z) Dj (BD Aa _ _ _ Z) (Aa _)) O (Yw 1 Eq O (DL.imp O λEF EL=>?_)))))))))))
 refine ck' call57 (Vw (ts.getD tq (0,0,0)) k ⟨Z,Z,Z⟩ hk3) O (DL.back0 sr O (TM (v:=(aG (Ap (k.2,Gi (ts.getD tq (0,0,0)) k)))) O (Ar (zs:=Ap ((0,0):P2)) (vs:=Ap (k.2,Gi (ts.getD tq (0,0,0)) k)) (pv:=[(0,(vN k.2)),(1,(vN (Gi (ts.getD tq (0,0,0)) k)))]) zeroValue112 underlying112 sizeOf3 O (Ea k.2 (Gi (ts.getD tq (0,0,0)) k))) O (DL.news1 λb4=>OkE.imp O (BN O sizeOf112 O (OkE.back (sl sr) (OkE.nil (OkQ.subF (sL [1,3,5,6,7,8] O) (q2 (AM O (AJ (v:=(pP b4 1)) (AD (j:=1) O O underlying112 sizeOf3 O (by decide) O) O ?_))))))))))
 refine BE 0 (vN (Gi (ts.getD tq (0,0,0)) k)) BY O (AJ (v:=(pP b4 0)) (AD (j:=0) O O underlying112 sizeOf3 O (by decide) O) O (BE 0 (vN k.2) BY O (AJ (v:=(aG (Ap (Gi (ts.getD tq (0,0,0)) k,k.2)))) (Ar (zs:=Ap ((0,0):P2)) (vs:=Ap (Gi (ts.getD tq (0,0,0)) k,k.2)) (pv:=[(0,(vN (Gi (ts.getD tq (0,0,0)) k))),(1,(vN k.2))]) zeroValue112 underlying112 sizeOf3 O (Ea (Gi (ts.getD tq (0,0,0)) k) k.2)) O (AJ (v:=(Value.tuple #[(vN ((Ae sx.kvs (Gi (ts.getD tq (0,0,0)) k,k.2)).getD 0)),(Value.bool ((Ae sx.kvs (Gi (ts.getD tq (0,0,0)) k,k.2)).isSome))])) (F0 FY 7 (eV:=vN) (kvs:=sx.kvs) (x:=(Gi (ts.getD tq (0,0,0)) k,k.2)) (z0:=0) (co:=true) O O underlying71 zeroValue3 O (sx.ok) (Gh (by show (_:Nat)<_;omega) (by show (_:Nat)<_;omega))) O (AM O (AJ (Ab (v:=(vN ((Ae sx.kvs (Gi (ts.getD tq (0,0,0)) k,k.2)).getD 0))) O O) O (AJ (Ab (v:=(Value.bool ((Ae sx.kvs (Gi (ts.getD tq (0,0,0)) k,k.2)).isSome))) O O) O (AI O (AI O (q6 (sL [1,3,5,6,7,8,9,10] O) (q4 ?_)))))))))))
 refine AM O (AJ (Bj (c:=(!((Ae sx.kvs (Gi (ts.getD tq (0,0,0)) k,k.2)).isSome))) O O) O (AC.nil (OkQ.subF (sL [1,3,5,6,7,8,9,35] O) (OkQ.then_ ?_))))
 refine AE.cond O (λhc0=>?_) (λhc0=>?_)
 ·simp only [Bool.and_eq_true,Bool.or_eq_true,Bool.and_eq_false_iff,Bool.or_eq_false_iff,Bool.not_eq_true',Bool.not_eq_false',decide_eq_true_eq,decide_eq_false_iff_not] at hc0
  exact q4 (BF 0 Eq O (Ed O sizeOf112 O (AC.nil (OkQ.subF (sL [1,3,5,6,7,8,9] O) (OkQ.then_ (AE.ret (OkQ.then_ret (OkQ.in_ret (OkQ.round3_ret (OkQ.in_ret (AV O (BP (i:=1) (cs:=Ap (k.2,Gi (ts.getD tq (0,0,0)) k)) O O isAgg112 sizeOf112 O) (λw hw=>⟨by rw [(hb.stop ho h0 (by rw [hnx,<-hkv];intro h9;rw [show (Ae sx.kvs (F8 (k.2,Gi (ts.getD tq (0,0,0)) k))).isSome=false from hc0] at h9;cases h9)).1,hnx],hw.out⟩))))))))))))
 ·simp only [Bool.and_eq_true,Bool.or_eq_true,Bool.and_eq_false_iff,Bool.or_eq_false_iff,Bool.not_eq_true',Bool.not_eq_false',decide_eq_true_eq,decide_eq_false_iff_not] at hc0
  refine AE.skip (OkQ.then_ (AE.region (AJ (v:=(pP b4 1)) (AD (j:=1) O O underlying112 sizeOf3 O (by decide) O) O (BE 0 (vN (Gi (ts.getD tq (0,0,0)) k)) BY O (AJ (v:=(pP b4 0)) (AD (j:=0) O O underlying112 sizeOf3 O (by decide) O) O (BE 0 (vN k.2) BY O (AJ (v:=(aG (Ap (Gi (ts.getD tq (0,0,0)) k,k.2)))) (Ar (zs:=Ap ((0,0):P2)) (vs:=Ap (Gi (ts.getD tq (0,0,0)) k,k.2)) (pv:=[(0,(vN (Gi (ts.getD tq (0,0,0)) k))),(1,(vN k.2))]) zeroValue112 underlying112 sizeOf3 O (Ea (Gi (ts.getD tq (0,0,0)) k) k.2)) O (AM O (Me O sizeOf112 O (AI O (AC.nil ?_)))))))))))
  exact OkQ.subF (sL [1,3,5,6,7,8] O) (OkQ.in_normal (OkQ.round3 (i+1) (Gi (ts.getD tq (0,0,0)) k,k.2) ((Ae sx.kvs (Gi (ts.getD tq (0,0,0)) k,k.2)).getD 0) (⟨by have h9:=hb.succ (by rw [hnx,<-hkv];exact hc0);rw [hnx] at h9;exact h9,by rw [hkv]⟩) Z (sF O) (sl sr)))
theorem Sj (l:List Nat) (n:Nat) (y:RX (inL l) n) (hn:l.length=n) (hl:n<=1000000000) (w:World) {S:Nat->Prop} (hy:Ro S w y):Calls prog 59 #[(Value.slice y.p n y.c)] w (Mz eB (cd (T:=3) (z:=1) (cs:=inL l) (n:=n)) S w):=by
 have ly:=Dk (W:=w) hy
 refine An (args:=[(Value.slice y.p n y.c)]) (L:=[AK y.p (inL l)]) func59 O O (Ad O) (E3 hy BA) (AE.subF (sL [0] O) (q4 (AI O (AC.nilRow 3 1 (AC.nil (q1 (q4 (AM O (AJ (v:=(Value.bool y.p.isNone)) (Qa O O underlying86) O (AC.nil (OkQ.subF (sL [0,2,4] O) ?_)))))))))))
 refine OkQ.then_ ?_
 refine AE.cond O (λhc0=>?_) (λhc0=>?_)
 ·skip
  have h00:=(y.ok.nil (Option.isNone_iff_eq_none.1 hc0)).1
  have hts:l=[]:=List.eq_nil_of_length_eq_zero Z
  exact q4 (AI O (AC.nilRow 3 1 (AC.nil (OkQ.then_ (AE.ret (OkQ.then_ret (AV O (Ah (v:=(Value.slice none 0 0)) O) (λw hw=>(by subst hts;subst h00;exact Y8 hw (OX.mk none 0 OwnOk.none) (by exact (sk (sl (sl sr)))) (RG.own O RG.nil) (by show Value.slice none 0 0=_;rfl))))))))))
 ·skip
  exact AE.skip (q2 (AC.openV (V:=λb1=>(Value.slice (some ⟨b1,0,none⟩) 0 0)) (T:=3) (cs:=[]) (AP O) (MI underlying86 sizeOf3) O (Ad O) λb1=>AC.asRow0 (z:=1) 0 O Z λho_b1=>AM O (AC.appendE0 LJ O ho_b1 O (ZW (k:=2) O y.ok) (by rw [BR,hn,Nat.mul_one]) (Rf _) (FE Z) Z O λpq cq hq=>AI O (AC.nil (OkQ.subF (sL [0,2] O) (OkQ.then_ (AE.ret (AV O (Ah (v:=(Value.slice pq n cq)) O) (λw hw=>(Y8 hw (OX.mk pq cq hq) (sk (sl (sl sr))) (RG.own O RG.nil) O))))))))))
set_option maxHeartbeats 1000000 in
theorem Qd (l:List Nat) (y:RX (inL l) l.length) (hl0:0<l.length) (hl:l.length<=10000000) (w:World) {S:Nat->Prop} (hy:Ro S w y):Calls prog 41 #[(Value.slice y.p l.length y.c)] w (Am (CX (inL (Dc l)) (Dc l).length) S w):=by
 have hyc:=y.ok.le
 have ly:=Dk (W:=w) hy
 refine An (args:=[(Value.slice y.p l.length y.c)]) (L:=[AK y.p (inL l)]) func41 O O (Ad O) (E3 hy BA) (AE.subF (sL [0] O) (q4 (AI O (AC.nil (q2 (AI O (AC.nil (q1 (q4 (AM O (AJ (v:=(vN l.length)) (AF O underlying86) O ?_)))))))))))
 refine AM O (AC.nil (OkQ.subF (sL [0,2,3,8,9] O) (OkQ.then_ (AE.block ?_))))
 refine AE.lp2 (tg λ(i:Nat) (bq:Nat)=>i<=l.length/\bq=D4 l i) (tg λ(i:Nat) (bq:Nat)=>[(0,(Value.slice y.p l.length y.c)),(2,(Value.slice none 0 0)),(8,(vN l.length)),(9,(vN i)),(3,(vN bq))]) (tg λ(i:Nat) (bq:Nat)=>[AK y.p (inL l)]) (tg λ(i:Nat) (bq:Nat)=>l.length-i) 0 0 (⟨Nat.zero_le _,rfl⟩) (sF O) sr (λi bq hJ=>?_)
 obtain ⟨hi,hb⟩:=hJ
 have hbl:bq<l.length:=by rw [hb];exact Jp i hi hl0
 refine q4 (AJ (Ac (c:=(decide (i<l.length))) O O (CD (a:=i) (b:=l.length))) O (AC.nil (q1 ?_)))
 refine AE.cond O (λhc0=>?_) (λhc0=>?_)
 ·replace hc0:=of_decide_eq_true hc0
  refine AE.skip (q1 (AE.block (q4 (AM O (AI O (q6 (sL [0,2,8,9,3,4] O) (Ck [(0,true),(1,true),(2,true),(3,true),(4,true),(5,true),(6,true),(7,true),(8,true),(9,true)] sr (BT O (BT O (Ao (v:=(pP (pB y.p) (pO y.p+i*1))) O (AG (j:=i) O O y.ok underlying86 sizeOf3 O Z) (Ao O (AL (v:=(vN (l.getD i 0))) (i:=0) O O (y.ok.ne Z) BY (CV (l:=l) (j:=i) Z)) ?_)))))))))))
  refine BT O (BT O (Ao (v:=(pP (pB y.p) (pO y.p+bq*1))) O (AG (j:=bq) O O y.ok underlying86 sizeOf3 O Z) (Ao O (AL (v:=(vN (l.getD bq 0))) (i:=0) O O (y.ok.ne Z) BY (CV (l:=l) (j:=bq) Z)) (pS' O (pS' O (OkE.nil (OkQ.subF (sL [0,2,8,9,3,4,5,6] O) (q1 ?_))))))))
  by_cases hs1:l.getD i 0<l.getD bq 0
  ·skip
   refine Ck [(0,true),(1,true),(2,true),(3,true),(4,true),(5,true),(6,true),(7,true),(8,true),(9,true),(10,true),(11,true),(12,true),(13,true),(14,true),(15,true),(16,true),(17,true),(18,true),(19,true),(20,true),(21,true),(22,true),(23,true),(24,true),(25,true),(26,true)] sr (BT O (BT O (Ao O (Ac (c:=true) O O (decide_eq_true Z)) (BT O (OkE.skp O (AH O) O O (OkE.skp O (AH O) O O (OkE.skp O (AH O) O O (OkE.skp O (AH O) O O (OkE.skp O (Aj O O O) O O (OkE.skp O (Aj O O O) O O (OkE.skp O (Aj O O O) O O ?_)))))))))))
   refine OkE.skp O (Aj O O O) O O (OkE.skp O (Aj O O O) O O (OkE.skp O (Aj O O O) O O (OkE.skp O (Aj O O O) O O (OkE.skp O (Aj O O O) O O (OkE.skp O (Aj O O O) O O (OkE.skp O (Aj O O O) O O (OkE.skp O (Aj O O O) O O (OkE.skp O (Aj O O O) O O (OkE.skp O (Aj O O O) O O (OkE.skp O (Aj O O O) O O (OkE.skp O (Aj O O O) O O ?_)))))))))))
   refine OkE.skp O (Aj O O O) O O (OkE.skp O (Aj O O O) O O (OkE.skp O (AH O) O O (Ao (v:=(Value.bool true)) O (AW O O) (OkE.nil (OkQ.subF (sL [0,2,8,9,3,4,46] O) (OkQ.then_ (AE.cond_true O (AE.region (AM O (AI O (AC.nil ?_)))))))))))
   exact OkQ.subF (sL [0,2,8,9,3,4] O) (OkQ.in_normal (OkQ.then_ (AE.region (AJ (AQ (c:=((i+1:Nat):Int)) O O (AN (a:=i) (b:=1) Z)) O (AM O (AC.nil (OkQ.subF (sL [0,2,8,9,3,4] O) (OkQ.round2 (i+1) i (⟨Z,by first|exact IL hb hs1|exact Hv hb hs2 hc1|exact Ji hb hs1 hs2|exact Jg hb hs1 hc1⟩) Z (sF O) sr))))))))
  ·skip
   by_cases hs2:l.getD i 0=l.getD bq 0
   ·skip
    refine Ck [(0,true),(1,true),(2,true),(3,true),(4,true),(5,true),(6,true),(7,true),(8,true),(9,true),(10,true),(11,true),(12,true),(13,true),(14,true),(15,true),(16,true),(17,true),(18,true),(19,true),(20,true),(21,true),(22,true),(23,true),(24,true),(25,true),(26,true)] sr (BT O (BT O (Ao O (Ac (c:=false) O O (decide_eq_false Z)) (BT O (OkE.pas (v:=(vN (l.getD i 0))) O (AA O) (AU O) O O (OkE.pas (v:=(vN (l.getD bq 0))) O (AA O) (AU O) O O (OkE.pas (v:=(Value.bool true)) O (AA O) (BQ (c:=true) O O (decide_eq_true Z)) O O (OkE.pas (v:=(Value.bool true)) O (AA O) (AU O) O O (OkE.pas (v:=(Value.slice y.p l.length y.c)) O (AA O) (AU O) O O (OkE.pas (v:=(vN i)) O (AA O) (AU O) O O (OkE.pas (v:=(vN (i+1))) O (AA O) (AQ (c:=((i+1:Nat):Int)) O O (AN (a:=i) (b:=1) Z)) O O ?_)))))))))))
    refine OkE.pas (v:=(Value.slice y.p l.length y.c)) O (AA O) (AU O) O O (OkE.pas (v:=(vN l.length)) O (AA O) (AF O underlying86) O O (OkE.pas (v:=(vN ((i+1)%l.length))) O (AA O) (Bg (c:=(((i+1)%l.length:Nat):Int)) O O Z (F3 (a:=i+1) (b:=l.length))) O O (OkE.pas (v:=(pP (pB y.p) (pO y.p+((i+1)%l.length)*1))) O (AA O) (AG (j:=(i+1)%l.length) O O y.ok underlying86 sizeOf3 O (by first|exact Nat.mod_lt _ hl0|omega)) O O (OkE.pas (v:=(vN (l.getD ((i+1)%l.length) 0))) O (AA O) (AL (v:=(vN (l.getD ((i+1)%l.length) 0))) (i:=0) O O (y.ok.ne (by first|exact Nat.mod_lt _ hl0|omega)) BY (CV (l:=l) (j:=(i+1)%l.length) (by first|exact Nat.mod_lt _ hl0|omega))) O O (OkE.pas (v:=(Value.slice y.p l.length y.c)) O (AA O) (AU O) O O (OkE.pas (v:=(vN bq)) O (AA O) (AU O) O O (OkE.pas (v:=(vN (bq+1))) O (AA O) (AQ (c:=((bq+1:Nat):Int)) O O (AN (a:=bq) (b:=1) Z)) O O (OkE.pas (v:=(Value.slice y.p l.length y.c)) O (AA O) (AU O) O O (OkE.pas (v:=(vN l.length)) O (AA O) (AF O underlying86) O O (OkE.pas (v:=(vN ((bq+1)%l.length))) O (AA O) (Bg (c:=(((bq+1)%l.length:Nat):Int)) O O Z (F3 (a:=bq+1) (b:=l.length))) O O (OkE.pas (v:=(pP (pB y.p) (pO y.p+((bq+1)%l.length)*1))) O (AA O) (AG (j:=(bq+1)%l.length) O O y.ok underlying86 sizeOf3 O (by first|exact Nat.mod_lt _ hl0|omega)) O O ?_)))))))))))
    refine OkE.pas (v:=(vN (l.getD ((bq+1)%l.length) 0))) O (AA O) (AL (v:=(vN (l.getD ((bq+1)%l.length) 0))) (i:=0) O O (y.ok.ne (by first|exact Nat.mod_lt _ hl0|omega)) BY (CV (l:=l) (j:=(bq+1)%l.length) (by first|exact Nat.mod_lt _ hl0|omega))) O O (OkE.pas (v:=(Value.bool (decide ((l.getD ((i+1)%l.length) 0)<(l.getD ((bq+1)%l.length) 0))))) O (AA O) (Ac (c:=(decide ((l.getD ((i+1)%l.length) 0)<(l.getD ((bq+1)%l.length) 0)))) O O (CD (a:=l.getD ((i+1)%l.length) 0) (b:=l.getD ((bq+1)%l.length) 0))) O O (OkE.pas (v:=(Value.bool (decide ((l.getD ((i+1)%l.length) 0)<(l.getD ((bq+1)%l.length) 0))))) O (AA O) (AW O O) O O (Ao (v:=(Value.bool (decide ((l.getD ((i+1)%l.length) 0)<(l.getD ((bq+1)%l.length) 0))))) O (AT O O) (OkE.nil (OkQ.subF (sL [0,2,8,9,3,4,46] O) (OkQ.then_ ?_))))))
    refine AE.cond O (λhc1=>?_) (λhc1=>?_)
    ·replace hc1:=of_decide_eq_true hc1
     exact AE.region (AM O (AI O (AC.nil (OkQ.subF (sL [0,2,8,9,3,4] O) (OkQ.in_normal (OkQ.then_ (AE.region (AJ (AQ (c:=((i+1:Nat):Int)) O O (AN (a:=i) (b:=1) Z)) O (AM O (AC.nil (OkQ.subF (sL [0,2,8,9,3,4] O) (OkQ.round2 (i+1) i (⟨Z,by first|exact IL hb hs1|exact Hv hb hs2 hc1|exact Ji hb hs1 hs2|exact Jg hb hs1 hc1⟩) Z (sF O) sr))))))))))))
    ·replace hc1:=of_decide_eq_false hc1
     exact AE.skip (OkQ.in_normal (OkQ.then_ (AE.region (AJ (AQ (c:=((i+1:Nat):Int)) O O (AN (a:=i) (b:=1) Z)) O (AM O (AC.nil (OkQ.subF (sL [0,2,8,9,3,4] O) (OkQ.round2 (i+1) bq (⟨Z,by first|exact IL hb hs1|exact Hv hb hs2 hc1|exact Ji hb hs1 hs2|exact Jg hb hs1 hc1⟩) Z (sF O) sr))))))))
   ·skip
    refine Ck [(0,true),(1,true),(2,true),(3,true),(4,true),(5,true),(6,true),(7,true),(8,true),(9,true),(10,true),(11,true),(12,true),(13,true),(14,true),(15,true),(16,true),(17,true),(18,true),(19,true),(20,true),(21,true),(22,true),(23,true),(24,true),(25,true),(26,true)] sr (BT O (BT O (Ao O (Ac (c:=false) O O (decide_eq_false Z)) (BT O (OkE.pas (v:=(vN (l.getD i 0))) O (AA O) (AU O) O O (OkE.pas (v:=(vN (l.getD bq 0))) O (AA O) (AU O) O O (OkE.pas (v:=(Value.bool false)) O (AA O) (BQ (c:=false) O O (decide_eq_false Z)) O O (OkE.pas (v:=(Value.bool false)) O (AA O) (AU O) O O (OkE.skp O (AH O) O O (OkE.skp O (AH O) O O (OkE.skp O (AH O) O O ?_)))))))))))
    refine OkE.skp O (AH O) O O (OkE.skp O (AH O) O O (OkE.skp O (AH O) O O (OkE.skp O (AH O) O O (OkE.skp O (AH O) O O (OkE.skp O (AH O) O O (OkE.skp O (AH O) O O (OkE.skp O (AH O) O O (OkE.skp O (AH O) O O (OkE.skp O (AH O) O O (OkE.skp O (AH O) O O (OkE.skp O (AH O) O O ?_)))))))))))
    refine OkE.skp O (AH O) O O (OkE.skp O (AH O) O O (OkE.pas (v:=(Value.bool false)) O (AA O) (AT O O) O O (Ao (v:=(Value.bool false)) O (AT O O) (OkE.nil (OkQ.subF (sL [0,2,8,9,3,4,46] O) (OkQ.then_ (AE.cond_false O (AE.skip (OkQ.in_normal (OkQ.then_ (AE.region ?_)))))))))))
    exact AJ (AQ (c:=((i+1:Nat):Int)) O O (AN (a:=i) (b:=1) Z)) O (AM O (AC.nil (OkQ.subF (sL [0,2,8,9,3,4] O) (OkQ.round2 (i+1) bq (⟨Z,by first|exact IL hb hs1|exact Hv hb hs2 hc1|exact Ji hb hs1 hs2|exact Jg hb hs1 hc1⟩) Z (sF O) sr))))
 ·replace hc0:=of_decide_eq_false hc0
  have hb2:bq=D4 l l.length:=by rw [hb,show i=l.length by omega]
  refine AE.exit (OkQ.then_exit (OkQ.round2_exit (OkQ.in_exit (q1 (Ck [(0,true),(1,true),(2,true),(4,true),(5,true),(6,true),(3,false),(7,false),(8,false),(9,true)] sr (BT O (BT O (Ao (v:=(Value.slice (PJ y.p bq y.c 1) (l.length-bq) (y.c-bq))) O (I6 (i:=bq) O O underlying86 sizeOf3 Z y.ok.le) (BT O (BT O (Ao (v:=(Value.slice y.p bq y.c)) O (ER (m:=bq) O O underlying86 sizeOf3 Z) ?_)))))))))))
  refine OkE.imp O (AC.callL (S:=S) (V:=eB) (LW:=cd (T:=3) (z:=1) (cs:=inL (l.drop bq)) (n:=l.length-bq)) (args:=[(Value.slice (PJ y.p bq y.c 1) (l.length-bq) (y.c-bq))]) call59 (λw hw=>Sj (l.drop bq) (l.length-bq) ⟨PJ y.p bq y.c 1,y.c-bq,Rr y.ok hbl⟩ (List.length_drop ..) Z w (dv (Br hw 0 O ly) hbl)) O λcl hcl=>OkE.back (sl sr) (OkE.imp O (AC.appendS0 (cs2:=inL (l.drop bq++l.take bq)) (news:=inL (l.take bq)) LJ O cl.ok (by rw [BR,List.length_drop,Nat.mul_one]) O (bX (k:=1) O y.ok Z) (by rw [BR,List.length_take,Nat.mul_one];omega) (Rf _) (FE Z) Z (Cd _ _).symm O λpt ct ht=>OkE.back (sl sr) (OkE.imp O (ck' call58 (clipI_ok pt ((l.length-bq)+bq) ct ht.row.le) O (OkE.back (sl sr) (pS' O (OkE.nil (OkQ.subF (sL [0,2,8,9,3] O) ?_)))))))))
  exact OkQ.then_ (AE.ret (AV O (Ah (v:=(Value.slice pt ((l.length-bq)+bq) ((l.length-bq)+bq))) O) (λw hw=>(by rw [show (Dc l).length=(l.length-bq)+bq by rw [Ou];omega,show Dc l=l.drop bq++l.take bq by rw [Dc,hb2]];exact Wg hw 0 O ht (by rw [BR,List.length_append,List.length_drop,List.length_take,Nat.mul_one];omega) O))))
theorem PU (a b:List Nat) (x:RX (inL a) a.length) (y:RX (inL b) b.length) (hal:a.length<=10000000) (w:World) {S:Nat->Prop} (hx:Ro S w x) (hy:Ro S w y):Calls prog 43 #[(Value.slice x.p a.length x.c),(Value.slice y.p b.length y.c)] w (A9 w (vI (cmpL a b))):=by
 have lx:=Dk (W:=w) hx
 have ly:=Dk (W:=w) hy
 refine An (args:=[(Value.slice x.p a.length x.c),(Value.slice y.p b.length y.c)]) (L:=[AK x.p (inL a),AK y.p (inL b)]) func43 O O (Ad O) (E3 hx (E3 hy BA)) (AE.subF (sL [0,1] O) (q4 (AI O (AC.nil (q1 (q4 (AM O (AJ (v:=(vN a.length)) (AF O underlying86) O (AM O (AC.nil (OkQ.then_ ?_)))))))))))
 refine AE.block ?_
 refine AE.lp1 (tg λ(i:Nat)=>i<=a.length/\i<=b.length/\cmpL a b=cmpL (a.drop i) (b.drop i)) (tg λ(i:Nat)=>[(0,(Value.slice x.p a.length x.c)),(1,(Value.slice y.p b.length y.c)),(9,(Value.slice x.p a.length x.c)),(10,(vN a.length)),(11,(vN i))]) (tg λ(i:Nat)=>[AK x.p (inL a),AK y.p (inL b)]) (tg λ(i:Nat)=>a.length-i) 0 (⟨Nat.zero_le _,Nat.zero_le _,rfl⟩) (sF O) sr (λi hJ=>?_)
 obtain ⟨hi1,hi2,he⟩:=hJ
 refine q4 (AJ (Ac (c:=(decide (i<a.length))) O O (CD (a:=i) (b:=a.length))) O (AC.nil (q1 ?_)))
 refine AE.cond O (λhc0=>?_) (λhc0=>?_)
 ·replace hc0:=of_decide_eq_true hc0
  refine AE.skip (q1 (AE.block (q4 (AM O (AJ (v:=(pP (pB x.p) (pO x.p+i*1))) (AG (j:=i) O O x.ok underlying86 sizeOf3 O Z) O (AJ (AL (v:=(vN (a.getD i 0))) (i:=0) O O (x.ok.ne Z) BY (CV (l:=a) (j:=i) Z)) O (AI O (AI O (q6 (sL [0,1,9,10,11,5,6] O) (q4 (AM O ?_)))))))))))
  refine AM O (AJ (v:=(vN b.length)) (AF O underlying86) O (AJ (DR (c:=(decide (b.length<=i))) O O (Wh (a:=b.length) (b:=i))) O (AC.nil (OkQ.subF (sL [0,1,9,10,11,5,6,19] O) (OkQ.then_ ?_)))))
  refine AE.cond O (λhc1=>?_) (λhc1=>?_)
  ·replace hc1:=of_decide_eq_true hc1
   exact q4 (AI O (AC.nil (OkQ.then_ (AE.ret (OkQ.then_ret (OkQ.in_ret (OkQ.then_ret (OkQ.round1_ret (OkQ.in_ret (OkQ.then_ret (AV O (Ah (v:=(vI 1)) O) (λw hw=>⟨by rw [he,TT hc0 Z]<;>rfl,hw.out⟩))))))))))))
  ·replace hc1:=of_decide_eq_false hc1
   obtain ⟨cc,hcc⟩:∃q,q=D1 (a.getD i 0) (b.getD i 0):=⟨_,rfl⟩
   have h3:=HQ (a.getD i 0) (b.getD i 0)
   rw [<-hcc] at h3
   refine AE.skip (q2 (AM O (AM O (AJ (v:=(pP (pB y.p) (pO y.p+i*1))) (AG (j:=i) O O y.ok underlying86 sizeOf3 O Z) O (AJ (AL (v:=(vN (b.getD i 0))) (i:=1) O O (y.ok.ne Z) BY (CV (l:=b) (j:=i) Z)) O (AI O (q3 (sL [0,1,9,10,11,5,6,7] O) (AM O (AM O (ck' call62 (NM (a.getD i 0) (b.getD i 0)) O (AC.retell (k:=26) (u:=(vI cc)) O (by rw [hcc]) ?_)))))))))))
   refine AI O (q3 (sL [0,1,9,10,11,5,8] O) (AM O (AJ (Cv (c:=(decide (cc≠(0:Int)))) O O O) O (AC.nil (OkQ.subF (sL [0,1,9,10,11,5,8,28] O) (OkQ.then_ ?_))))))
   refine AE.cond O (λhc2=>?_) (λhc2=>?_)
   ·replace hc2:=of_decide_eq_true hc2
    exact q4 (AM O (AI O (AC.nil (OkQ.subF (sL [0,1,9,10,11,5,8,4] O) (OkQ.then_ (AE.ret (OkQ.in_ret (OkQ.then_ret (OkQ.round1_ret (OkQ.in_ret (OkQ.then_ret (AV O (Ah (v:=(vI cc)) O) (λw hw=>⟨by rw [he,Gt hc0 Z];rcases h3 with ⟨h4,h5⟩|⟨h4,h5⟩|⟨h4,h5⟩;rw [if_pos h4,h5];rw [if_neg Z,if_pos h4,h5];exact absurd h5 hc2,hw.out⟩)))))))))))))
   ·replace hc2:=of_decide_eq_false hc2
    exact AE.skip (OkQ.in_normal (OkQ.then_ (AE.region (AJ (AQ (c:=((i+1:Nat):Int)) O O (AN (a:=i) (b:=1) Z)) O (AM O (AC.nil (OkQ.subF (sL [0,1,9,10,11,5,8] O) (OkQ.round1 (i+1) (⟨Z,Z,by rw [he,Gt hc0 Z];rcases h3 with ⟨h4,h5⟩|⟨h4,h5⟩|⟨h4,h5⟩;(exfalso;omega);(exfalso;omega);rw [if_neg Z,if_neg Z]⟩) Z (sF O) sr))))))))
 ·replace hc0:=of_decide_eq_false hc0
  refine AE.exit (OkQ.then_exit (OkQ.round1_exit (OkQ.in_exit (q1 (q4 (AM O (AJ (v:=(vN a.length)) (AF O underlying86) O (AM O (AJ (v:=(vN b.length)) (AF O underlying86) O (AJ (Ac (c:=(decide (a.length<b.length))) O O (CD (a:=a.length) (b:=b.length))) O (AC.nil ?_)))))))))))
  refine OkQ.subF (sL [0,1,9,10,11,35] O) (OkQ.then_ ?_)
  refine AE.cond O (λhc3=>?_) (λhc3=>?_)
  ·replace hc3:=of_decide_eq_true hc3
   exact q4 (AI O (AC.nil (OkQ.then_ (AE.ret (OkQ.then_ret (AV O (Ah (v:=(vI (-1:Int))) O) (λw hw=>⟨by rw [he,Of Z hi1 hi2,if_pos hc3]<;>rfl,hw.out⟩)))))))
  ·replace hc3:=of_decide_eq_false hc3
   exact AE.skip (q2 (AI O (AC.nil (OkQ.then_ (AE.ret (AV O (Ah (v:=(vI 0)) O) (λw hw=>⟨by rw [he,Of Z hi1 hi2,if_neg hc3]<;>rfl,hw.out⟩)))))))
end
section
structure RI where
  l:List Nat
  p:Option Addr
  c:Nat
  ok:Aw p l.length c
  sm:l.length<=10000000
instance:Inhabited RI:=⟨⟨[],none,0,OwnOk.none.row,by decide⟩⟩
def Tb (x:RI):Value:=.slice x.p x.l.length x.c
def riR (x:RI):As:=AK x.p (inL x.l)
def D8 (rs:List RI):List As:=rs.map riR
def rvL (rs:List RI):List Value:=rs.map Tb
def ae (x:RI):RX (inL x.l) x.l.length:=⟨x.p,x.c,x.ok⟩
theorem Es (rs:List RI):(rvL rs).length=rs.length:=by simp [rvL]
theorem LF (a b:List RI):rvL (a++b)=rvL a++rvL b:=by simp [rvL]
theorem Q_ {rs:List RI} {j:Nat} (h:j<rs.length):(rvL rs)[j*1]?=some (Tb (rs.getD j default)):=by simp [rvL,h]
theorem WG (a:RI) (A:List As) (rs:List RI):(riR a::(A++D8 rs)).Perm (A++D8 (rs++[a])):=by
  have e:A++D8 (rs++[a])=(A++D8 rs)++[riR a]:=by unfold D8;rw [List.map_append,List.append_assoc];rfl
  rw [e]
  exact (List.perm_append_singleton (riR a) (A++D8 rs)).symm
theorem bI {A:List As} {rs ys:List RI} (h:ys.Perm rs):(A++D8 rs).Perm (A++D8 ys):=(List.Perm.refl A).append (h.map riR).symm
section
variable {P:Program} {ops:Array Oper} {rest:List Oper} {Q:Exit->Act->World->Prop} {n:Nat} {F:List (Nat×Value)} {w0:BL} {L L2:List As}
theorem AC.permL (hp:L.Perm L2) (next:AC P ops rest Q n F w0 L2):AC P ops rest Q n F w0 L:=λa w ha hW=>next a w ha (hW.perm hp)
theorem AC.callWE {o:Oper} {f:FuncId} {args:Array Value} {v:Value} {α:Type} {K:α->Prop} {cs':α->List Value} (i:Nat) {q:Option Addr} {T:TypeId} {z m c:Nat} {cs:List Value} (hw:Wt ops n F o)
    (he:∀a w,C2 n a F->BS w0 w L->(execOp a.eval o).run P w=.ok (.enter f args) w) (hi:L[i]?=some (rowW q T z m c cs))
    (hc:∀w,BS w0 w L->Calls P f args w λe w'=>e=.returned v/\Lz w w' (q.map (·.block))/\∃y,K y/\∀b,q.map (·.block)=some b->∃o,w'.heap[b]?=some o/\(rowW q T z m c (cs' y)).P o)
    (hd:∀d,o.dst=some d->d<n) (next:∀y,K y->AC P ops rest Q n (match o.dst with|some d=>(d,v)::F|none=>F) w0 (L.set i (rowW q T z m c (cs' y)))):AC P ops (o::rest) Q n F w0 L:=λa w ha hW=>by
  unfold wpList
  rw [if_pos (hw a ha)]
  left
  unfold Oper.wp
  rw [he a w ha hW,Oper.upon_enter]
  refine (hc w hW).mono ?_
  rintro e w' ⟨rfl,hg,y,hk,hr⟩
  have hW':=hW.renew hi rfl hg (y:=rowW q T z m c (cs' y)) λb e=>⟨.inl e,hr b e⟩
  have next:=next y hk
  cases hdd:o.dst with
  | none=>rw [hdd] at next;exact next _ _ ha.put_none hW'
  | some d=>rw [hdd] at next;exact next _ _ (ha.put (hd d hdd)) hW'
end
def cf (x y:RI):Prop:=¬cmpL y.l x.l<0
theorem dz {α:Type} (f:α->RI):Go.Sort.SWO (ltOf λx y:α=>cmpL (f x).l (f y).l) where
  irrefl x:=decide_eq_false (by show ¬cmpL (f x).l (f x).l<0;rw [MT];decide)
  trans x y z h1 h2:=decide_eq_true (Ft _ _ _ (of_decide_eq_true h1) (of_decide_eq_true h2))
  ntrans x y z h1 h2:=by
    have h1:¬cmpL (f x).l (f y).l<0:=of_decide_eq_false h1
    have h2:¬cmpL (f y).l (f z).l<0:=of_decide_eq_false h2
    refine decide_eq_false λ(h3:cmpL (f x).l (f z).l<0)=>?_
    rcases Int.lt_trichotomy (cmpL (f x).l (f y).l) 0 with h4|h4|h4
    · exact h1 h4
    · rw [<-Fa _ _ h4] at h2;exact h2 h3
    · rcases Int.lt_trichotomy (cmpL (f y).l (f z).l) 0 with h5|h5|h5
      · exact h2 h5
      · rw [Fa _ _ h5] at h1;exact h1 h3
      · have e1:=Di (f x).l (f y).l
        have e2:=Di (f y).l (f z).l
        have e3:=Di (f x).l (f z).l
        have:=Ft (f z).l (f y).l (f x).l Z Z
        omega
def GQ (w:World) (Af:Nat) (x:RI):Prop:=Go.Proofs.YtpgncndhhhllfaaGreat.Holds w (riR x)/\∀b,(riR x).foot=some b->Af≠b
instance goodInh (w:World) (Af:Nat):Inhabited {x:RI // GQ w Af x}:=⟨⟨default,(λb e=>by cases e),(λb e=>by cases e)⟩⟩
theorem HD {α:Type} [Inhabited α] {enc:α->Value} {w:World} {Af off m b:Nat} {dk:Array α} {os:Array Obj} {o:Obj} (hb:w.heap[b]?=some o) (hne:Af≠b):(sortWorld enc w Af off m dk os).heap[b]?=some o:=by
  have hlt:b<w.heap.size:=by
    rcases Nat.lt_or_ge b w.heap.size with h|h
    · exact h
    · rw [Array.getElem?_eq_none h] at hb;cases hb
  unfold sortWorld
  rw [Go.Sort.heap_grow_old _ _ (by simpa [Go.Sort.putRow,Go.Sort.mapBlock,Go.Sort.ahead] using hlt)]
  simp [Go.Sort.putRow,Go.Sort.mapBlock,Go.Sort.ahead,Array.getElem?_modify,hne,hb]
theorem az (Af off size:Nat) (w:World):CmpLays1 prog 43 #[] (λx:{x:RI // GQ w Af x}=>Tb x.1) (λx y=>cmpL x.1.l y.1.l) Af off size w:=λm os dk _ x y=>by
  rw [Array.append_empty]
  have ro:∀x:{x:RI // GQ w Af x},Ro (λ_=>True) (sortWorld (λx:{x:RI // GQ w Af x}=>Tb x.1) w Af off m dk os) (ae x.1):=λx y hy=>by
    rcases List.mem_singleton.1 hy with rfl
    refine ⟨λb e=>?_,λ_ _=>trivial⟩
    obtain ⟨o,ho,hp⟩:=x.2.1 b e
    exact ⟨o,HD ho (x.2.2 b e),hp⟩
  exact (PU x.1.l y.1.l (ae x.1) (ae y.1) x.1.sm _ (ro x) (ro y)).mono λe w' h=>⟨h.1,Ru h.2⟩
theorem Ns {α:Type} {p:α->Prop}:∀(l:List α) (h:∀x∈l,p x),(l.pmap Subtype.mk h).map Subtype.val=l
  | [],_=>rfl
  | x::r,h=>by rw [List.pmap_cons,List.map_cons,Ns r]
theorem UC (rs:List RI) (p:Option Addr) (n c:Nat) (T:TypeId) (ho:OwnOk p n c) (hp0:p≠none) (hn:n=rs.length) (hN:n<4611686018427387904) (w:World) (hrow:∀b,p.map (·.block)=some b->∃o,w.heap[b]?=some o/\(rowW p T 1 n c (rvL rs)).P o)
    (hg:∀r∈rs,Go.Proofs.YtpgncndhhhllfaaGreat.Holds w (riR r)/\∀b,(riR r).foot=some b->p.map (·.block)≠some b) :
    Calls prog 42 #[.slice p n c,.func (.func 43) #[] #[]] w λe w'=>e=.returned (.tuple #[])/\Lz w w' (p.map (·.block))/\∃ys:List RI,(ys.Perm rs/\ys.Pairwise cf)/\∀b,p.map (·.block)=some b->∃o,w'.heap[b]?=some o/\(rowW p T 1 n c (rvL ys)).P o:=by
  cases hp:p with
  | none=>exact absurd hp hp0
  | some a =>
    subst hp
    obtain ⟨o,hob,cur,rfl,hsz,hcur⟩:=hrow a.block rfl
    have hat:=ho.at0 a rfl
    have hle:=ho.le
    rw [Nat.mul_one] at hsz hcur
    have hg':∀r∈rs,GQ w a.block r:=λr hr=>⟨(hg r hr).1,λb e h=>(hg r hr).2 b e (by rw [<-h];rfl)⟩
    obtain ⟨d,hd⟩:∃d,d=(rs.pmap (Subtype.mk (p:=GQ w a.block)) hg').toArray:=⟨_,rfl⟩
    have hdz:d.size=n:=by rw [hd,hn];simp
    have hdx:d.toList.map Subtype.val=rs:=by rw [hd];exact Ns _ _
    have flat:∀(d:Array {x:RI // GQ w a.block x}) j,j<d.size->(rvL (d.toList.map Subtype.val))[j]?=some (Tb (d[j]!).1):=λd j hj=>by
      unfold rvL
      rw [List.map_map,List.getElem?_map,Array.getElem?_toList,Array.getElem?_eq_getElem hj,getElem!_pos d j hj];rfl
    have hH:Go.Sort.Holds (λx:{x:RI // GQ w a.block x}=>Tb x.1) w a.block 0 d:=λj hj=>by
      refine ⟨?_,by simp [World.frozen?,hob]⟩
      have h1:(cur.toList.take n)[j]?=(rvL rs)[j]?:=by rw [hcur]
      rw [List.getElem?_take_of_lt Z,Array.getElem?_toList,<-hdx,flat d j hj] at h1
      unfold World.cell?
      simp only [hob,Nat.zero_add]
      exact h1
    have hlt:a.block<w.heap.size:=by
      rcases Nat.lt_or_ge a.block w.heap.size with h|h
      · exact h
      · rw [Array.getElem?_eq_none h] at hob;cases hob
    have h:=Tryz.slices_SortFunc_int (λx:{x:RI // GQ w a.block x}=>Tb x.1) (λx=>rfl) (λx y=>cmpL x.1.l y.1.l) (dz λx:{x:RI // GQ w a.block x}=>x.1) 43 #[] a.block 0 c d w call43 (az a.block 0 d.size w) hH hlt Z
    rw [hdz] at h
    rw [hat]
    refine h.mono ?_
    rintro e w' ⟨rfl,d',m,os,⟨hz',_,hperm⟩,hsort,rfl⟩
    have hz2:d'.size=n:=by rw [hz',hdz]
    have hperm':d'.toList.Perm d.toList:=by
      have e1:d'.extract 0 n=d':=by rw [<-hz2];exact Array.extract_size
      have e2:d.extract 0 n=d:=by rw [<-hdz];exact Array.extract_size
      rw [e1,e2] at hperm
      exact hperm
    refine ⟨rfl,⟨⟨rfl,rfl,rfl,by simp [sortWorld,Go.Sort.grow,Go.Sort.putRow,Go.Sort.mapBlock,Go.Sort.ahead],λj hj hne=>?_⟩,by show w.drawn<=w.drawn+m;omega⟩,d'.toList.map Subtype.val,⟨by rw [<-hdx];exact hperm'.map _,List.pairwise_map.2 (List.pairwise_iff_getElem.2 λi j hi hj hij=>?_)⟩,λb e=>?_⟩
    · have hne':a.block≠j:=λe=>hne (by rw [e];rfl)
      rw [Array.getElem?_eq_getElem hj]
      exact HD (Array.getElem?_eq_getElem hj) hne'
    · have hi':i<d'.size:=by simpa using hi
      have hj':j<d'.size:=by simpa using hj
      have h9:=of_decide_eq_false (hsort i j (Nat.zero_le _) hij Z)
      rw [getElem!_pos d' j hj',getElem!_pos d' i hi'] at h9
      simpa [cf] using h9
    · injection e with e
      subst e
      refine ⟨.cells (Go.Sort.putCells (λx:{x:RI // GQ w a.block x}=>Tb x.1) 0 d' cur) T (0,0),?_,_,rfl,by simp [Go.Sort.putCells,hsz],?_⟩
      · unfold sortWorld
        rw [Go.Sort.heap_grow_old _ _ (by simpa [Go.Sort.putRow,Go.Sort.mapBlock,Go.Sort.ahead] using hlt)]
        simp [Go.Sort.putRow,Go.Sort.mapBlock,Go.Sort.ahead,Array.getElem?_modify,hob,Go.Sort.onCells]
      · rw [Nat.mul_one]
        apply List.ext_getElem?
        intro j
        have hlen:(rvL (d'.toList.map Subtype.val)).length=n:=by rw [Es,List.length_map,Array.length_toList,hz2]
        by_cases hj:j<n
        · rw [List.getElem?_take_of_lt hj,Array.getElem?_toList,flat d' j (by rw [hz2];exact hj)]
          unfold Go.Sort.putCells
          rw [Array.getElem?_mapIdx,Array.getElem?_eq_getElem Z,Option.map_some,if_pos ⟨Nat.zero_le _,Z⟩]
          rfl
        · rw [List.getElem?_take_eq_none Z,List.getElem?_eq_none Z]
theorem SZ {w0:BL} {w:World} {A:List As} {rs:List RI} {i:Nat} {p:Option Addr} {T n c:Nat} {cs:List Value} (hw:BS w0 w (A++D8 rs)) (hi:A[i]?=some (rowW p T 1 n c cs)):∀r∈rs,Go.Proofs.YtpgncndhhhllfaaGreat.Holds w (riR r)/\∀b,(riR r).foot=some b->p.map (·.block)≠some b:=λr hr=>by
  have hm:riR r∈D8 rs:=List.mem_map.2 ⟨r,hr,rfl⟩
  have hm2:riR r∈A++D8 rs:=List.mem_append_right _ hm
  refine ⟨λb e=>(hw.2.1 _ hm2 b e).2,λb e h=>?_⟩
  have h1:=(List.pairwise_append.1 hw.2.2).2.2 _ (List.mem_of_getElem? hi) _ hm
  rcases h1 with ⟨h2,_⟩|h2
  · cases h2
  · exact h2 b h e
structure V_ (ls:List (List Nat)) where
  rs:List RI
  e:rs.map (·.l)=ls
  q:RX (rvL rs) rs.length
instance {ls:List (List Nat)}:Cf (V_ ls):=⟨λx=>x.q.val,λx=>x.q.row::D8 x.rs,λx y hy=>by
  rcases List.mem_cons.1 hy with rfl|hy
  · rfl
  · obtain ⟨r,_,rfl⟩:=List.mem_map.1 hy;rfl⟩
structure bK (ls:List (List Nat)) where
  x:V_ ls
  hc:x.q.c=x.rs.length
  hr:∀r∈x.rs,r.c=r.l.length
instance {ls:List (List Nat)}:Cf (bK ls):=⟨λy=>Cf.val y.x,λy=>Cf.rows y.x,λy z hz=>Cf.ro y.x z hz⟩
theorem Am.ofLPD {S:Nat->Prop} {W w:World} {e:Ending} {ls:List (List Nat)} (h:Am (bK ls) S W e w):Am (V_ ls) S W e w:=by
  obtain ⟨a,h1,h2,h3⟩:=h
  exact ⟨a.x,h1,h2,h3⟩
theorem Zp {S:Nat->Prop} {W w:World} {A:List As} {rs:List RI} {ls:List (List Nat)} (hw:BS ⟨W,none⟩ w (A++D8 rs)) (i:Nat) {p:Option Addr} {T n c:Nat} (hi:A[i]?=some (rowW p T 1 n c (rvL rs))) (ho:OwnOk p n c) (hn:n=rs.length) (he:rs.map (·.l)=ls) (hat:∀r∈rs,∀b,(riR r).foot=some b->Nw ⟨W,none⟩ S b) (hr:∀r∈rs,r.c=r.l.length) {v:Value} (hv:v=.slice p n n):Am (bK ls) S W (.returned v) w:=by
  subst hn
  have hi':(A++D8 rs)[i]?=some (rowW p T 1 rs.length c (rvL rs)):=by
    rw [List.getElem?_append_left (List.getElem?_eq_some_iff.1 hi).1];exact hi
  refine ⟨⟨⟨rs,he,⟨p,rs.length,ho.clip⟩⟩,rfl,hr⟩,by rw [hv];rfl,hw.out,λy hy=>?_⟩
  have hy:y∈AK p (rvL rs)::D8 rs:=hy
  rcases List.mem_cons.1 hy with rfl|hy
  · exact Db hw i hi' ho (by rw [Es,Nat.mul_one])
  · obtain ⟨r,hr,rfl⟩:=List.mem_map.1 hy
    exact ⟨λb e=>(hw.2.1 _ (List.mem_append_right _ hy) b e).2,hat r hr⟩
def PI (a b:List Nat):Prop:=¬cmpL b a<0
theorem V9 {a b:List Nat} (h1:PI a b) (h2:PI b a):a=b:=by
  unfold PI at h1 h2
  have:=Di a b
  exact Fa _ _ Z
theorem Sl {a b c:List Nat} (h1:PI a b) (h2:PI b c):PI a c:=by
  unfold PI at *
  intro h3
  rcases Int.lt_trichotomy (cmpL a b) 0 with h|h|h
  · exact h2 (Ft _ _ _ h3 h)
  · rw [Fa _ _ h] at h3;exact h2 h3
  · have:=Di a b;omega
def TA (x:List Nat):List (List Nat)->List (List Nat)
  | []=>[x]
  | y::r=>if cmpL x y<0 then x::y::r else y::TA x r
def PK:List (List Nat)->List (List Nat)
  | []=>[]
  | x::r=>TA x (PK r)
theorem In (x:List Nat):∀l,(TA x l).Perm (x::l)
  | []=>List.Perm.refl _
  | y::r=>by
    unfold TA
    split
    · exact List.Perm.refl _
    · exact (List.Perm.cons y (In x r)).trans (List.Perm.swap x y r)
theorem Ip:∀l,(PK l).Perm l
  | []=>List.Perm.refl _
  | x::r=>(In x (PK r)).trans (List.Perm.cons x (Ip r))
theorem I1 (x:List Nat):∀l,l.Pairwise PI->(TA x l).Pairwise PI
  | [],_=>List.pairwise_singleton _ _
  | y::r,h=>by
    obtain ⟨h1,h2⟩:=List.pairwise_cons.1 h
    unfold TA
    split
    · rename_i k
      have hxy:PI x y:=by unfold PI;have:=Di x y;omega
      refine List.pairwise_cons.2 ⟨λz hz=>?_,h⟩
      rcases List.mem_cons.1 hz with rfl|hz
      · exact hxy
      · exact Sl hxy (h1 z hz)
    · rename_i k
      refine List.pairwise_cons.2 ⟨λz hz=>?_,I1 x r h2⟩
      rcases List.mem_cons.1 ((In x r).mem_iff.1 hz) with rfl|hz
      · exact k
      · exact h1 z hz
theorem JE:∀l,(PK l).Pairwise PI
  | []=>List.Pairwise.nil
  | x::r=>I1 x _ (JE r)
theorem Lr {l l':List (List Nat)} (hp:l'.Perm l) (hs:l'.Pairwise PI):l'=PK l :=
  List.Perm.eq_of_pairwise (le:=PI) (λx y _ _ h1 h2=>V9 h1 h2) hs (JE l) (hp.trans (Ip l).symm)
theorem Sg {rs ys:List RI} (hp:ys.Perm rs) (hs:ys.Pairwise cf):ys.map (·.l)=PK (rs.map (·.l)):=Lr (hp.map _) (List.pairwise_map.2 hs)
def Ir (ts:List T3):List (List Nat):=PK (EO ts (AX ts).length).2
end
end Go.Proofs.YtpgncndhhhllfaaGreat
