import Derived.Test.YtpgncndhhhllfaaGreatPart03
import Derived.Test.YtpgncndhhhllfaaGreatPart16
import Derived.Test.YtpgncndhhhllfaaGreatPart17
import Derived.Test.YtpgncndhhhllfaaGreatPart39
import Derived.Test.YtpgncndhhhllfaaGreatPart42
import Derived.Test.YtpgncndhhhllfaaGreatPart43
import Derived.Test.YtpgncndhhhllfaaGreatPart44
namespace Go.Proofs.YtpgncndhhhllfaaGreat
open Go Go.RowKit Go.Proofs.Tryz
set_option linter.unusedVariables false
set_option linter.unusedSimpArgs false
section
structure Xa (Q:List Int->Nat->Prop) where
  l:List Int
  n:Nat
  q:Q l n
  r:RX (zL l) l.length
instance {Q:List Int->Nat->Prop}:CO (Xa Q):=⟨λx=>.tuple #[x.r.val,vN x.n],λx=>[x.r.row],λx y hy=>by rcases List.mem_singleton.1 hy with rfl;rfl⟩
structure XS (Q:List Int->Nat->Prop) where
  x:Xa Q
  hc:x.r.c=x.l.length
instance {Q:List Int->Nat->Prop}:CO (XS Q):=⟨λy=>CO.val y.x,λy=>CO.rows y.x,λy z hz=>CO.ro y.x z hz⟩
section
variable {S:Nat->Prop} {W w:World} {e:Ending} {ts:List T3}
def QN (l:List Int) (n:Nat):Prop:=l=[]/\n=0
theorem ofPaD (h:Al (ZP ts) S W e w):Al (XS (Hv ts)) S W e w:=by
  obtain ⟨a,h1,h2,h3⟩:=h
  exact ⟨⟨⟨a.x.l,a.x.n,a.x.pts,a.x.r⟩,a.hc⟩,h1,h2,h3⟩
theorem Zn (h:Al (VF ts) S W e w):Al (Xa (Hv ts)) S W e w:=by
  obtain ⟨a,h1,h2,h3⟩:=h
  exact ⟨⟨a.l,a.n,a.pts,a.r⟩,h1,h2,h3⟩
theorem Gr:Ar none 0 0:=OwnOk.none.row
theorem FO {y:As} {cs:List Value} (hy:y∈[AJ none cs]):Holds w y/\∀b,y.foot=some b->Nw ⟨W,none⟩ S b:=by
  rcases List.mem_singleton.1 hy with rfl
  exact ⟨λb e=>(by cases e),λb e=>(by cases e)⟩
theorem ZS (h:Ak W (.tuple #[.slice none 0 0,vN 0]) e w):Al (Xa QN) S W e w :=
  ⟨⟨[],0,⟨rfl,rfl⟩,⟨none,0,Gr⟩⟩,h.1,h.2,λy hy=>FO hy⟩
theorem X4 (h:Ak W (.tuple #[.slice none 0 0,vN 0]) e w):Al (XS QN) S W e w :=
  ⟨⟨⟨[],0,⟨rfl,rfl⟩,⟨none,0,Gr⟩⟩,rfl⟩,h.1,h.2,λy hy=>FO hy⟩
theorem XO {cs:List Value} (h:Ak W (.slice none 0 0) e w):Al (CX cs 0) S W e w:=⟨⟨none,Gr⟩,h.1,h.2,λy hy=>FO hy⟩
theorem Xc {cs:List Value} (h:Ak W (.slice none 0 0) e w):Al (RX cs 0) S W e w:=⟨⟨none,0,Gr⟩,h.1,h.2,λy hy=>FO hy⟩
theorem PY (h:Ak W (.slice none 0 0) e w):Al (XX []) S W e w:=⟨⟨⟨[],rfl,⟨none,0,Gr⟩⟩,rfl,λr hr=>by cases hr⟩,h.1,h.2,λy hy=>FO hy⟩
theorem Uk (h:Ak W (.slice none 0 0) e w):Al (Qt []) S W e w:=⟨⟨[],rfl,⟨none,0,Gr⟩⟩,h.1,h.2,λy hy=>FO hy⟩
theorem QY (h:ts.length=0):Hv ts [] 0:=⟨h.symm,λs hs=>by omega,λs u hs=>by omega,λk hk=>by omega,λs u hs=>by omega,Nat.zero_le _⟩
theorem Yq (h0:ts.length=0) (h:Ak W (.tuple #[.slice none 0 0,vN 0]) e w):Al (XS (Hv ts)) S W e w :=
  ⟨⟨⟨[],0,QY h0,⟨none,0,Gr⟩⟩,rfl⟩,h.1,h.2,λy hy=>FO hy⟩
end
end
section
set_option maxRecDepth 100000
theorem Si {Q:List Int->Nat->Prop} (hQ:∀l n l' n',Q l n->Q l' n'->l=l'/\n=n') (hQn:∀l n,Q l n->n<=1000000/\l.length<=1000000) (a:XS Q) (b:Xa Q) (w:World) {S:Nat->Prop} (ha:Ro S w a) (hb:Ro S w b):Calls prog 24 #[(Value.slice a.x.r.p a.x.l.length a.x.r.c),(Value.slice b.r.p b.l.length b.r.c)] w (Ak w (Value.bool true)):=by
 obtain ⟨⟨al,an,aq,⟨ap,ac,aok⟩⟩,hc⟩:=a
 obtain ⟨bl,bn,bq,⟨bp,bc,bok⟩⟩:=b
 have hc:ac=al.length:=hc
 obtain ⟨he,_⟩:=hQ _ _ _ _ aq bq
 subst hc he
 have:=(hQn _ _ aq).2
 exact N_ al ⟨ap,aok⟩ ⟨bp,bc,bok⟩ Z w ha hb
set_option maxHeartbeats 4000000 in
theorem Gv {N M K N2 M2 K2:Nat} (x:RU N M K) (y:RU N2 M2 K2) {ws:List T3} {ls:List (List Nat)} {bb:Bool} {ez:Int} {Q:List Int->Nat->Prop} (hQ:∀l n l' n',Q l n->Q l' n'->l=l'/\n=n') (hQn:∀l n,Q l n->n<=1000000/\l.length<=1000000) (hwn:ws.length<=10000000) (hln:ls.length<=1000000000) (hez:-1000000000<=ez/\ez<=1000000000) (h1:∀(S:Nat->Prop) (w:World),Ro S w x->Calls prog 16 #[(aG (Bt x))] w (Al (CX (rowsL Am ws) ws.length) S w)) (h2:∀(S:Nat->Prop) (w:World),Ro S w y->Calls prog 17 #[(aG (Bt y))] w (Al (RX (rowsL Am ws) ws.length) S w)) (h3:∀(S:Nat->Prop) (w:World),Ro S w x->Calls prog 6 #[(aG (Bt x))] w (Ak w (Value.bool bb))) (h4:∀(S:Nat->Prop) (w:World),Ro S w y->Calls prog 18 #[(aG (Bt y))] w (Ak w (Value.bool bb))) (h5:∀(S:Nat->Prop) (w:World),Ro S w x->Calls prog 20 #[(aG (Bt x))] w (Al (XX ls) S w)) (h6:∀(S:Nat->Prop) (w:World),Ro S w y->Calls prog 21 #[(aG (Bt y))] w (Al (Qt ls) S w)) (h7:∀(S:Nat->Prop) (w:World),Ro S w x->Calls prog 22 #[(aG (Bt x))] w (Al (XS Q) S w)) (h8:∀(S:Nat->Prop) (w:World),Ro S w y->Calls prog 23 #[(aG (Bt y))] w (Al (Xa Q) S w)) (h9:∀(S:Nat->Prop) (w:World),Ro S w x->Calls prog 25 #[(aG (Bt x))] w (Ak w (vI ez))) (h10:∀(S:Nat->Prop) (w:World),Ro S w y->Calls prog 26 #[(aG (Bt y))] w (Ak w (vI ez))) (h11:∀(l:List Int) (n:Nat),Q l n->∀(S:Nat->Prop) (w:World),Ro S w x->Calls prog 27 #[(aG (Bt x))] w (Ak w (vI (((n:Nat):Int)-ez)))) (w:World) {S:Nat->Prop} (hx:Ro S w x) (hy:Ro S w y):Calls prog 7 #[(aG (Bt x)),(aG (Bt y))] w (Ak w (Value.bool true)):=by
 have lx:=CV (W:=w) hx
 have ly:=CV (W:=w) hy
 refine Ag (args:=[(aG (Bt x)),(aG (Bt y))]) (L:=[AJ x.a.p (x.cs),AJ x.b.p (x.es),AJ x.c.p (x.ds),AJ y.a.p (y.cs),AJ y.b.p (y.es),AJ y.c.p (y.ds)]) func7 O O (AV O) (C4 hx (C4 hy Ao)) (AE.subF (sL [0,1] O) (q4 (B0 (cs:=Bt x) O λb1=>B0 (cs:=Bt y) O λb2=>AI O (q3 (sL [2,3,4] O) (BC 1 CF O (AC.callR (S:=S) (α:=CX (rowsL Am ws) ws.length) (args:=[(aG (Bt x))]) call16 (λw hw=>h1 _ w (Bc hw 2 O lx)) O O O λwa lwa=>AI O (q3 (sL [2,3,4,5] O) (BC 1 CH O ?_))))))))
 refine AC.callR (S:=S) (α:=RX (rowsL Am ws) ws.length) (args:=[(aG (Bt y))]) call17 (λw hw=>h2 _ w (Bc hw 6 O ly)) O O O λwb lwb=>AI O (q6 (sL [2,3,4,5,6] O) (AE.seq (Cu [(0,true),(2,true),(1,false),(3,false),(4,true),(5,true),(6,true),(7,true),(8,true),(9,true),(10,true),(11,true),(12,true),(13,true),(14,true),(15,true),(16,true),(17,true),(18,true),(19,true),(20,true),(22,true),(21,false),(23,false),(24,false),(25,true),(26,true)] sr (Gx 3 CF O (Gx 2 CH O (OkE.imp O (Cc call6 (λw hw=>h3 _ w (Bc hw 4 O lx)) O (OkE.back sr (OkE.imp O (Cc call18 (λw hw=>h4 _ w (Bc hw 7 O ly)) O ?_))))))))))
 refine OkE.back sr (Av O (Fj (c:=false) O O underlying4 (by cases bb<;>rfl)) (BU O (OkE.pas (v:=(Value.slice wa.p ws.length ws.length)) O (AA O) (AW O) O O (OkE.pas (v:=(vN ws.length)) O (AA O) (AF O underlying74) O O (OkE.pas (v:=(Value.slice wb.p ws.length wb.c)) O (AA O) (AW O) O O (OkE.pas (v:=(vN ws.length)) O (AA O) (AF O underlying76) O O (OkE.pas (v:=(Value.bool false)) O (AA O) (Ce (c:=false) O O (decide_eq_false λh=>h O)) O O (Av (v:=(Value.bool false)) O (AO O O) (BU O (OkE.pas (v:=(Value.slice wa.p ws.length ws.length)) O (AA O) (AW O) O O (OkE.pas (v:=(vN ws.length)) O (AA O) (FK O underlying74) O O ?_)))))))))))
 refine OkE.pas (v:=(Value.slice wa.p ws.length ws.length)) O (AA O) (AW O) O O (OkE.pas (v:=(vN ws.length)) O (AA O) (AF O underlying74) O O (OkE.pas (v:=(Value.bool false)) O (AA O) (CC (c:=false) O O (decide_eq_false Z)) O O (Av (v:=(Value.bool false)) O (AO O O) (BU O (OkE.pas (v:=(aG (Bt x))) O (AA O) (BK (i:=3) (vs:=Bt x) O O CF.a CF.s O O) O O (OkE.pas (v:=(aG (Bt y))) O (AA O) (BK (i:=2) (vs:=Bt y) O O CH.a CH.s O O) O O (OkE.imp O (AC.unguard (AA O) (AC.callR (S:=S) (α:=XX ls) (args:=[(aG (Bt x))]) call20 (λw hw=>h5 _ w (Bc hw 4 O lx)) O O O λla lla=>?_)))))))))
 have hlal:la.x.rs.length<=1000000000:=by have h9:=congrArg List.length la.x.e;rw [List.length_map] at h9;rw [h9];exact hln
 refine AC.permR (L2:=(AJ la.x.q.p (rvL la.x.rs)::AJ wb.p (rowsL Am ws)::AJ wa.p (rowsL Am ws)::Ah b2 38 (Bt y)::Ah b1 31 (Bt x)::AJ x.a.p (x.cs)::AJ x.b.p (x.es)::AJ x.c.p (x.ds)::AJ y.a.p (y.cs)::AJ y.b.p (y.es)::AJ y.c.p (y.ds)::Dn la.x.rs)) (show List.Perm _ (AJ la.x.q.p (rvL la.x.rs)::AJ wb.p (rowsL Am ws)::AJ wa.p (rowsL Am ws)::Ah b2 38 (Bt y)::Ah b1 31 (Bt x)::AJ x.a.p (x.cs)::AJ x.b.p (x.es)::AJ x.c.p (x.ds)::AJ y.a.p (y.cs)::AJ y.b.p (y.es)::AJ y.c.p (y.ds)::Dn la.x.rs) from OR [AJ la.x.q.p (rvL la.x.rs)] (Dn la.x.rs) [AJ wb.p (rowsL Am ws),AJ wa.p (rowsL Am ws),Ah b2 38 (Bt y),Ah b1 31 (Bt x),AJ x.a.p (x.cs),AJ x.b.p (x.es),AJ x.c.p (x.ds),AJ y.a.p (y.cs),AJ y.b.p (y.es),AJ y.c.p (y.ds)]) (OkE.back (sl (sk (sk (sk (sk (sk (sk (sk (sk (sk (sk (List.nil_sublist _)))))))))))) (OkE.imp O (AC.unguard (AA O) (AC.callR (S:=S) (α:=Qt ls) (args:=[(aG (Bt y))]) call21 (λw hw=>h6 _ w (Bc hw 8 O ly)) O O O λlb llb=>AC.permR (L2:=(AJ lb.q.p (rvL lb.rs)::AJ la.x.q.p (rvL la.x.rs)::AJ wb.p (rowsL Am ws)::AJ wa.p (rowsL Am ws)::Ah b2 38 (Bt y)::Ah b1 31 (Bt x)::AJ x.a.p (x.cs)::AJ x.b.p (x.es)::AJ x.c.p (x.ds)::AJ y.a.p (y.cs)::AJ y.b.p (y.es)::AJ y.c.p (y.ds)::(Dn la.x.rs++Dn lb.rs))) (show List.Perm _ (AJ lb.q.p (rvL lb.rs)::AJ la.x.q.p (rvL la.x.rs)::AJ wb.p (rowsL Am ws)::AJ wa.p (rowsL Am ws)::Ah b2 38 (Bt y)::Ah b1 31 (Bt x)::AJ x.a.p (x.cs)::AJ x.b.p (x.es)::AJ x.c.p (x.ds)::AJ y.a.p (y.cs)::AJ y.b.p (y.es)::AJ y.c.p (y.ds)::(Dn la.x.rs++Dn lb.rs)) from OR [AJ lb.q.p (rvL lb.rs)] (Dn lb.rs) (AJ la.x.q.p (rvL la.x.rs)::AJ wb.p (rowsL Am ws)::AJ wa.p (rowsL Am ws)::Ah b2 38 (Bt y)::Ah b1 31 (Bt x)::AJ x.a.p (x.cs)::AJ x.b.p (x.es)::AJ x.c.p (x.ds)::AJ y.a.p (y.cs)::AJ y.b.p (y.es)::AJ y.c.p (y.ds)::Dn la.x.rs)) (OkE.back (sl (sl (sk (sk (sk (sk (sk (sk (sk (sk (sk (sk (List.nil_sublist _))))))))))))) (OkE.imp O (AC.call (v:=(Value.bool true)) (AA O) (Aw (args:=[(Value.slice la.x.q.p la.x.rs.length la.x.q.c),(Value.slice lb.q.p lb.rs.length lb.q.c)]) O O call19) (λw hw=>NH (⟨la.x,lb,la.hc,la.hr⟩:Zc ls) hlal w (ZL hw _ (W0 (A:=[AJ lb.q.p (rvL lb.rs),AJ la.x.q.p (rvL la.x.rs),AJ wb.p (rowsL Am ws),AJ wa.p (rowsL Am ws),Ah b2 38 (Bt y),Ah b1 31 (Bt x),AJ x.a.p (x.cs),AJ x.b.p (x.es),AJ x.c.p (x.ds),AJ y.a.p (y.cs),AJ y.b.p (y.es),AJ y.c.p (y.ds)]) (.tail _ (.head _)) (.head _)))) O (AV O) (OkE.back (sl (sl (sk (sk (sk (sk (sk (sk (sk (sk (sk (sk (List.nil_sublist _))))))))))))) (OkE.pas (v:=(Value.bool false)) O (AA O) (BF (c:=false) O O) O O (Av (v:=(Value.bool false)) O (AO O O) ?_))))))))))
 refine OkE.nil (OkQ.subF (sL [2,3,4,5,6,42] O) (OkQ.then_ (AE.cond_false O (AE.skip (q1 (q4 (AI O (AC.nil (OkQ.subF (sL [2,3,4,5,6,7] O) (OkQ.then_ (AE.block ?_)))))))))))
 refine AE.lp1 (tg λ(i:Nat)=>i<=ws.length) (tg λ(i:Nat)=>[(2,(pP b1 0)),(3,(pP b2 0)),(5,(Value.slice wa.p ws.length ws.length)),(6,(Value.slice wb.p ws.length wb.c)),(7,(vN i))]) (tg λ(i:Nat)=>(AJ lb.q.p (rvL lb.rs)::AJ la.x.q.p (rvL la.x.rs)::AJ wb.p (rowsL Am ws)::AJ wa.p (rowsL Am ws)::Ah b2 38 (Bt y)::Ah b1 31 (Bt x)::AJ x.a.p (x.cs)::AJ x.b.p (x.es)::AJ x.c.p (x.ds)::AJ y.a.p (y.cs)::AJ y.b.p (y.es)::AJ y.c.p (y.ds)::(Dn la.x.rs++Dn lb.rs))) (tg λ(i:Nat)=>ws.length-i) 0 (Nat.zero_le _) (sF O) sr (λi hJ=>?_)
 have hi:=hJ
 refine AE.seq (q4 (AM O (AM O (AK (v:=(vN ws.length)) (AF O underlying74) O (AK (Ad (c:=(decide (i<ws.length))) O O (B7 (a:=i) (b:=ws.length))) O (AC.nil (OkQ.subF (sL [2,3,5,6,7,46] O) (OkQ.then_ ?_))))))))
 refine AE.cond O (λhc1=>?_) (λhc1=>?_)
 ·replace hc1:=of_decide_eq_true hc1
  refine AE.skip (q1 (AE.block (AE.seq (Cu [(0,true),(1,true),(2,true),(3,true),(4,true),(5,true),(6,true),(7,true),(8,true),(9,true),(10,true),(11,true),(12,true),(13,true),(14,true),(15,true),(16,true),(17,true),(18,true),(19,true),(20,true),(21,true),(22,true),(23,true),(24,true),(25,true),(26,true),(27,true),(28,true),(29,true),(30,true),(31,true),(32,true),(33,true),(34,true),(35,true),(36,true)] sr (BU O (BU O (Av (v:=(pP (pB wa.p) (pO wa.p+i*3))) O (AH (j:=i) O O wa.ok underlying74 sizeOf84 O Z) (Av (v:=(pP (pB wa.p) (pO wa.p+(i*3+0)))) O (AB O underlying84 O sizeOf3 (Nat.add_assoc _ _ _)) (Av O (AL (v:=(vN ((ws.getD i ((0,0,0):Tq3)).1))) (i:=3) O O (Ar.ne wa.ok Z) BR (Az Af ((0,0,0):Tq3) _ _ 0 Z (by decide) O)) (BU O (BU O ?_)))))))))))
  refine Av (v:=(pP (pB wb.p) (pO wb.p+i*3))) O (AH (j:=i) O O wb.ok underlying76 sizeOf85 O Z) (Av (v:=(pP (pB wb.p) (pO wb.p+(i*3+0)))) O (AB O underlying85 O sizeOf3 (Nat.add_assoc _ _ _)) (Av O (AL (v:=(vN ((ws.getD i ((0,0,0):Tq3)).1))) (i:=2) O O (Ar.ne wb.ok Z) BR (Az Af ((0,0,0):Tq3) _ _ 0 Z (by decide) O)) (Av O (Ce (c:=false) O O (decide_eq_false λh=>h O)) (BU O (OkE.pas (v:=(Value.slice wa.p ws.length ws.length)) O (AA O) (AW O) O O (OkE.pas (v:=(vN i)) O (AA O) (AW O) O O (OkE.pas (v:=(pP (pB wa.p) (pO wa.p+i*3))) O (AA O) (AH (j:=i) O O wa.ok underlying74 sizeOf84 O Z) O O (OkE.pas (v:=(pP (pB wa.p) (pO wa.p+(i*3+1)))) O (AA O) (AB O underlying84 O sizeOf3 (Nat.add_assoc _ _ _)) O O (OkE.pas (v:=(vN ((ws.getD i ((0,0,0):Tq3)).2.1))) O (AA O) (AL (v:=(vN ((ws.getD i ((0,0,0):Tq3)).2.1))) (i:=3) O O (Ar.ne wa.ok Z) BR (Az Af ((0,0,0):Tq3) _ _ 1 Z (by decide) O)) O O (OkE.pas (v:=(Value.slice wb.p ws.length wb.c)) O (AA O) (AW O) O O (OkE.pas (v:=(vN i)) O (AA O) (AW O) O O ?_)))))))))))
  refine OkE.pas (v:=(pP (pB wb.p) (pO wb.p+i*3))) O (AA O) (AH (j:=i) O O wb.ok underlying76 sizeOf85 O Z) O O (OkE.pas (v:=(pP (pB wb.p) (pO wb.p+(i*3+1)))) O (AA O) (AB O underlying85 O sizeOf3 (Nat.add_assoc _ _ _)) O O (OkE.pas (v:=(vN ((ws.getD i ((0,0,0):Tq3)).2.1))) O (AA O) (AL (v:=(vN ((ws.getD i ((0,0,0):Tq3)).2.1))) (i:=2) O O (Ar.ne wb.ok Z) BR (Az Af ((0,0,0):Tq3) _ _ 1 Z (by decide) O)) O O (OkE.pas (v:=(Value.bool false)) O (AA O) (Ce (c:=false) O O (decide_eq_false λh=>h O)) O O (Av (v:=(Value.bool false)) O (AO O O) (BU O (OkE.pas (v:=(Value.slice wa.p ws.length ws.length)) O (AA O) (AW O) O O (OkE.pas (v:=(vN i)) O (AA O) (AW O) O O (OkE.pas (v:=(pP (pB wa.p) (pO wa.p+i*3))) O (AA O) (AH (j:=i) O O wa.ok underlying74 sizeOf84 O Z) O O (OkE.pas (v:=(pP (pB wa.p) (pO wa.p+(i*3+2)))) O (AA O) (AB O underlying84 O sizeOf3 (Nat.add_assoc _ _ _)) O O (OkE.pas (v:=(vN ((ws.getD i ((0,0,0):Tq3)).2.2))) O (AA O) (AL (v:=(vN ((ws.getD i ((0,0,0):Tq3)).2.2))) (i:=3) O O (Ar.ne wa.ok Z) BR (Az Af ((0,0,0):Tq3) _ _ 2 Z (by decide) O)) O O (OkE.pas (v:=(Value.slice wb.p ws.length wb.c)) O (AA O) (AW O) O O ?_)))))))))))
  refine OkE.pas (v:=(vN i)) O (AA O) (AW O) O O (OkE.pas (v:=(pP (pB wb.p) (pO wb.p+i*3))) O (AA O) (AH (j:=i) O O wb.ok underlying76 sizeOf85 O Z) O O (OkE.pas (v:=(pP (pB wb.p) (pO wb.p+(i*3+2)))) O (AA O) (AB O underlying85 O sizeOf3 (Nat.add_assoc _ _ _)) O O (OkE.pas (v:=(vN ((ws.getD i ((0,0,0):Tq3)).2.2))) O (AA O) (AL (v:=(vN ((ws.getD i ((0,0,0):Tq3)).2.2))) (i:=2) O O (Ar.ne wb.ok Z) BR (Az Af ((0,0,0):Tq3) _ _ 2 Z (by decide) O)) O O (OkE.pas (v:=(Value.bool false)) O (AA O) (Ce (c:=false) O O (decide_eq_false λh=>h O)) O O (Av (v:=(Value.bool false)) O (AO O O) (OkE.nil (OkQ.subF (sL [2,3,5,6,7,85] O) (OkQ.then_ (AE.cond_false O (AE.skip (OkQ.in_normal ?_)))))))))))
  exact OkQ.then_ (AE.region (AM O (AK (AY (c:=((i+1:Nat):Int)) O O (AU (a:=i) (b:=1) Z)) O (AI O (AC.nil (OkQ.subF (sL [2,3,5,6,7] O) (OkQ.round1 (i+1) Z Z (sF O) sr)))))))
 ·replace hc1:=of_decide_eq_false hc1
  refine AE.exit (OkQ.then_exit (OkQ.round1_exit (OkQ.in_exit (q2 (BC 5 CF O (AC.callR (S:=S) (α:=XS Q) (args:=[(aG (Bt x))]) call22 (λw hw=>h7 _ w (Bc hw 6 O lx)) O O O λpa lpa=>AM O (AK (AX (v:=(Value.slice pa.x.r.p pa.x.l.length pa.x.r.c)) O O) O (AK (AX (v:=(vN pa.x.n)) O O) O (AI O (AI O ?_))))))))))
  refine q3 (sL [2,3,5,6,7,8,9] O) (BC 5 CH O (AC.callR (S:=S) (α:=Xa Q) (args:=[(aG (Bt y))]) call23 (λw hw=>h8 _ w (Bc hw 10 O ly)) O O O λpb lpb=>?_))
  have hpn:=(hQ _ _ _ _ pa.x.q pb.q).2
  have hpl:=(hQn _ _ pa.x.q).1
  refine AM O (AK (AX (v:=(Value.slice pb.r.p pb.l.length pb.r.c)) O O) O (AK (AX (v:=(vN pb.n)) O O) O (AI O (AI O (q6 (sL [2,3,5,6,7,8,9,10,11] O) (Cu [(0,true),(1,true),(2,false),(3,true),(4,true),(5,true),(6,true),(7,true),(8,true),(9,true),(11,true),(10,false),(12,false),(13,true),(14,true),(15,true),(16,true),(18,true),(19,true),(17,false),(20,false),(21,true),(22,true),(23,true),(24,true)] sr (BU O (BU O (OkE.imp O (Cc call24 (λw hw=>Si hQ hQn pa pb w (Bc (S:=S) hw 1 O lpa) (Bc (S:=S) hw 0 O lpb)) O (OkE.back sr ?_)))))))))))
  refine BU O (OkE.pas (v:=(vN pa.x.n)) O (AA O) (AW O) O O (OkE.pas (v:=(vN pb.n)) O (AA O) (AW O) O O (OkE.pas (v:=(Value.bool true)) O (AA O) (BA (c:=true) O O (decide_eq_true Z)) O O (Av (v:=(Value.bool true)) O (AR O O) (BU O (OkE.pas (v:=(aG (Bt x))) O (AA O) (BK (i:=7) (vs:=Bt x) O O CF.a CF.s O O) O O (OkE.pas (v:=(aG (Bt y))) O (AA O) (BK (i:=6) (vs:=Bt y) O O CH.a CH.s O O) O O (OkE.imp O (AC.call (v:=(vI ez)) (AA O) (Aw (args:=[(aG (Bt x))]) O O call25) (λw hw=>h9 _ w (Bc hw 8 O lx)) O (AV O) (OkE.back sr (OkE.imp O ?_)))))))))))
  refine AC.call (v:=(vI ez)) (AA O) (Aw (args:=[(aG (Bt y))]) O O call26) (λw hw=>h10 _ w (Bc hw 11 O ly)) O (AV O) (OkE.back sr (OkE.pas (v:=(Value.bool true)) O (AA O) (BA (c:=true) O O (decide_eq_true O)) O O (Av (v:=(Value.bool true)) O (AR O O) (BU O (OkE.pas (v:=(aG (Bt x))) O (AA O) (BK (i:=7) (vs:=Bt x) O O CF.a CF.s O O) O O (OkE.pas (v:=(vN pb.n)) O (AA O) (AW O) O O (OkE.pas (v:=(aG (Bt y))) O (AA O) (BK (i:=6) (vs:=Bt y) O O CH.a CH.s O O) O O (OkE.imp O (AC.call (v:=(vI (((pa.x.n:Nat):Int)-ez))) (AA O) (Aw (args:=[(aG (Bt x))]) O O call27) (λw hw=>h11 pa.x.l pa.x.n pa.x.q _ w (Bc hw 8 O lx)) O (AV O) (OkE.back sr (OkE.imp O ?_)))))))))))
  exact AC.call (v:=(vI ez)) (AA O) (Aw (args:=[(aG (Bt y))]) O O call26) (λw hw=>h10 _ w (Bc hw 11 O ly)) O (AV O) (OkE.back sr (OkE.pas (v:=(vI (((pb.n:Nat):Int)-ez))) O (AA O) (BO (c:=(((pb.n:Nat):Int)-ez)) O O (by rw [BJ Z Z])) O O (OkE.pas (v:=(Value.bool true)) O (AA O) (BA (c:=true) O O (decide_eq_true (by rw [hpn]))) O O (Av (v:=(Value.bool true)) O (AR O O) (pS' O (OkE.nil (OkQ.subF (sL [2,3,5,6,7,4] O) (OkQ.then_ (AE.ret (AS O (AZ (v:=(Value.bool true)) O) (λw hw=>⟨rfl,hw.out⟩)))))))))))
end
section
set_option maxRecDepth 100000
theorem Pv  (w:World) {S:Nat->Prop}  :Calls prog 133 #[] w (Al (NX 1) S w):=by
 exact An (args:=[]) func133 O O (AV O) (AE.subF sN (q4 (AI O (AC.nil (q2 (cN (S:=S) (x:=1) (args:=[(Value.int .u64 (1:Int))]) call135 (λw hw=>Pb 1 (by first|omega|(simp only [Int.natAbs_neg];omega)) w) O O O λg1 lg1=>AI O (AC.nil (OkQ.subF (sL [0] O) (OkQ.then_ (AE.ret (AS O (AZ (v:=(C5 g1)) O) (λw hw=>Gd (a:=(g1:NX 1)) hw (Bc hw 0 O lg1) O))))))))))))
theorem L3 {x:Rat} (a:FX x) (hs:Sz x<=16777216) (w:World) {S:Nat->Prop} (ha:Ro S w a)  :Calls prog 107 #[(aG (Dj a))] w (Al (NX x.den) S w):=by
 have s0:=Df x
 have s1:=DE x
 have s2:=Hp x
 have h1w:=IC
 have la:=CV (W:=w) ha
 refine Ag (args:=[(aG (Dj a))]) (L:=[Ew a.z.n,Ew a.m]) func107 O O (AV O) (Y2 ha Ao) (AE.subF (sL [0] O) (q4 (B0 (cs:=Dj a) O λb1=>AI O (q6 (sL [1,2] O) (Cu [(0,true),(1,true),(2,false),(3,false),(4,true)] sr (Av (v:=(pP b1 2)) O (AB O underlying97 O sizeOf93 O) (Bx 0 (C5 a.m) PH O (OkE.imp O (cN (S:=S) (x:=1) (args:=[]) call133 (λw hw=>Pv w) O O O λg1 lg1=>OkE.back (sl sr) ?_)))))))))
 exact OkE.imp O (cN (S:=S) (x:=x.den) (args:=[(C5 a.m),(C5 g1)]) call134 (λw hw=>(Al.cast (T:=λi=>NX i) (Nat.sub_add_cancel x.den_pos) (WR a.m g1 (by first|omega|(simp only [Int.natAbs_neg];omega)) (by first|omega|(simp only [Int.natAbs_neg];omega)) w (bw (Bc hw 2 O la)) (Bc hw 0 O lg1)))) O O O λg2 lg2=>OkE.back (sl (sl sr)) (pS' O (OkE.nil (OkQ.subF (sL [2] O) (OkQ.then_ (AE.ret (AS O (AZ (v:=(C5 g2)) O) (λw hw=>Gd (a:=(g2:NX x.den)) hw (Bc hw 0 O lg2) O))))))))
theorem Nz {n:Int} {k:Nat} (z:ZX n) (d:NX k) (hn:nw n.natAbs<=67108864) (hk:nw k<=67108864) (h0:k≠0) (w:World) {S:Nat->Prop} (hz:Ro S w z) (hd:Ro S w d)  :Calls prog 105 #[(aG (FU z)),(C5 d)] w (Al (FX (mkRat n k)) S w):=by
 have hg:0<Nat.gcd n.natAbs k:=Nat.pos_of_ne_zero λh=>h0 (Nat.eq_zero_of_gcd_eq_zero_right h)
 have hgw:nw (Nat.gcd n.natAbs k)<=nw k:=Ck (Nat.gcd_le_right _ (Nat.pos_of_ne_zero h0))
 have hqw:nw (k/Nat.gcd n.natAbs k)<=nw k:=Ck (Nat.div_le_self _ _)
 have hq1:1<=k/Nat.gcd n.natAbs k:=Nat.div_pos (Nat.gcd_le_right _ (Nat.pos_of_ne_zero h0)) hg
 have lz:=CV (W:=w) hz
 have ld:=CV (W:=w) hd
 refine Ag (args:=[(aG (FU z)),(C5 d)]) (L:=[Ew z.n,Ew d]) func105 O O (AV O) (Z_ hz (aK hd Ao)) (AE.subF (sL [0,1] O) (q4 (B0 (cs:=FU z) O λb1=>al Q3 O λb2=>q3 (sL [1,2,4] O) (AK (v:=(pP b1 1)) (AB O underlying95 O sizeOf93 O) O (BL 1 (C5 z.n) PH O (AM O (cN (S:=S) (x:=(Nat.gcd n.natAbs k)) (args:=[(C5 z.n),(C5 d)]) call130 (λw hw=>Vr z.n d (by first|omega|(simp only [Int.natAbs_neg];omega)) (by first|omega|(simp only [Int.natAbs_neg];omega)) w (Y3 (Bc hw 2 O lz)) (Bc hw 3 O ld)) O O O λg1 lg1=>AI O (q3 (sL [1,2,4,5] O) ?_))))))))
 refine AK (v:=(pP b1 1)) (AB O underlying95 O sizeOf93 O) O (BL 2 (C5 z.n) PH O (AM O (cD (S:=S) (u:=(n.natAbs/(Nat.gcd n.natAbs k))) (v:=(n.natAbs%(Nat.gcd n.natAbs k))) (args:=[(C5 z.n),(C5 g1)]) call131 (λw hw=>Qi z.n g1 hg Z Z w (Y3 (Bc hw 3 O lz)) (Bc hw 0 O lg1)) O O O λg2 lg2=>AM O (AK (AX (v:=(C5 g2.q)) O O) O (AK (AX (v:=(C5 g2.r)) O O) O (AI O (AI O (q3 (sL [1,2,4,5,6] O) (AM O (AM O ?_))))))))))
 refine cD (S:=S) (u:=(k/(Nat.gcd n.natAbs k))) (v:=(k%(Nat.gcd n.natAbs k))) (args:=[(C5 d),(C5 g1)]) call131 (λw hw=>Qi d g1 hg Z Z w (Bc hw 6 O ld) (Bc hw 2 O lg1)) O O O λg3 lg3=>AM O (AK (AX (v:=(C5 g3.q)) O O) O (AK (AX (v:=(C5 g3.r)) O O) O (AI O (AI O (q3 (sL [1,2,4,5,6,8] O) (AK (v:=(pP b1 0)) (AB O underlying95 O sizeOf4 O) O (BL 6 (Value.bool (decide (n<0))) PP O (AM O (cZ (S:=S) (x:=((mkRat n k).num)) (args:=[(Value.bool (decide (n<0))),(C5 g2.q)]) call106 (λw hw=>(Al.cast (T:=λi=>ZX i) (U0 h0) (GG (decide (n<0)) g2.q w (Zu (Bc hw 2 O lg2))))) O O O λg4 lg4=>AM O ?_)))))))))
 exact cN (S:=S) (x:=1) (args:=[]) call133 (λw hw=>Pv w) O O O λg5 lg5=>cN (S:=S) (x:=((mkRat n k).den-1)) (args:=[(C5 g3.q),(C5 g5)]) call132 (λw hw=>(Al.cast (T:=λi=>NX i) (TW h0) (WB g3.q g5 hq1 Z w (Zu (Bc hw 2 O lg3)) (Bc hw 0 O lg5)))) O O O λg6 lg6=>AK (v:=(aG (FU g4++[(C5 g6)]))) (Aa (zs:=[(Value.bool false),(Value.slice none 0 0),(Value.slice none 0 0)]) (vs:=FU g4++[(C5 g6)]) (pv:=[(0,(aG (FU g4))),(1,(C5 g6))]) (places:=[(0,2),(2,1)]) zeroValue97 underlying97 (λw=>by simp [sizeOf93,sizeOf95]) O O) O (JZ 8 (off:=0) (vs:=FU g4++[(C5 g6)]) (cs':=FU g4++[(C5 g6)]) (AT O) O sizeOf97 O (AC.nil (OkQ.subF (sL [1,2,4,5] O) (OkQ.then_ (AE.ret (AS O (BH (i:=8) (cs:=FU g4++[(C5 g6)]) O O isAgg97 sizeOf97 O) (λw hw=>Gd (a:=((FX.mk g4 g6):FX (mkRat n k))) hw (bR (Bc hw 2 O lg4) (Bc hw 0 O lg6)) O)))))))
theorem G4 {r0:Int} (x0:ZX r0):Instr.fill ([(0,2),(2,1)].toArray[·]?) ([(Value.bool false),(Value.slice none 0 0),(Value.slice none 0 0)]).toArray [(0,.agg (FU x0).toArray)]=some (FU x0++[(Value.slice none 0 0)]).toArray:=by kernel_rfl
theorem P4 (z:Int) (hz:-9223372036854775808<=z) (hz2:z<9223372036854775808) (w:World) {S:Nat->Prop}  :Calls prog 88 #[(vI z)] w (Al (FX ((z:Int):Rat)) S w):=by
 refine An (args:=[(vI z)]) func88 O O (AV O) (AE.subF (sL [0] O) (q4 (al Q3 O λb1=>AC.nil (q2 (AM O (cZ (S:=S) (x:=(((z:Int):Rat).num)) (args:=[(vI z)]) call108 (λw hw=>(Al.cast (T:=λi=>ZX i) (show z=((z:Int):Rat).num from O) (Yu z Z Z w))) O O O λg1 lg1=>AK (v:=(aG (FU g1++[(Value.slice none 0 0)]))) (Aa (zs:=[(Value.bool false),(Value.slice none 0 0),(Value.slice none 0 0)]) (vs:=FU g1++[(Value.slice none 0 0)]) (pv:=[(0,(aG (FU g1)))]) (places:=[(0,2),(2,1)]) zeroValue97 underlying97 (λw=>by simp [sizeOf93,sizeOf95]) O (G4 g1)) O (Ed O sizeOf97 O (AC.nil (OkQ.subF (sL [2] O) ?_)))))))))
 exact OkQ.then_ (AE.ret (AS O (BH (i:=1) (cs:=FU g1++[(Value.slice none 0 0)]) O O isAgg97 sizeOf97 O) (λw hw=>Gd (a:=((FX.mk g1 NX.zero):FX ((z:Int):Rat))) hw (bR (Bc hw 0 O lg1) Yp) O)))
theorem TA {x:Rat} (a:FX x) (w:World) {S:Nat->Prop} (ha:Ro S w a)  :Calls prog 103 #[(aG (Dj a))] w (Ak w (vI x.num.sign)):=by
 have la:=CV (W:=w) ha
 refine Ag (args:=[(aG (Dj a))]) (L:=[Ew a.z.n,Ew a.m]) func103 O O (AV O) (Y2 ha Ao) (AE.subF (sL [0] O) (q4 (B0 (cs:=Dj a) O λb1=>AI O (q3 (sL [1,2] O) (AK (v:=(pP b1 0)) (AB O underlying97 O sizeOf95 O) O (OZ 0 (FU a.z) YQ O (Cc call127 (λw hw=>UY a.z w (Zl (Bc hw 1 O la))) O (AI O (AC.nil (OkQ.subF (sL [2] O) ?_))))))))))
 exact OkQ.then_ (AE.ret (AS O (AZ (v:=(vI x.num.sign)) O) (λw hw=>⟨rfl,hw.out⟩)))
theorem Vv {x y:Rat} (a:FX x) (b:FX y) (hs:Sz x+Sz y<=16777216) (w:World) {S:Nat->Prop} (ha:Ro S w a) (hb:Ro S w b)  :Calls prog 104 #[(aG (Dj a)),(aG (Dj b))] w (Al (FX (x*y)) S w):=by
 have s0:=Df x
 have s1:=DE x
 have s2:=Hp x
 have s3:=Df y
 have s4:=DE y
 have s5:=Hp y
 have s6:=Dt x y
 have s7:=Dt y x
 have s8:=J7 x y
 have s9:=Jz x y
 have s10:=GQ (x.num*((y.den:Nat):Int)) (y.num*((x.den:Nat):Int))
 have h0x:=x.den_nz
 have h0y:=y.den_nz
 have h0xy:=Nat.mul_ne_zero h0x h0y
 have la:=CV (W:=w) ha
 have lb:=CV (W:=w) hb
 refine Ag (args:=[(aG (Dj a)),(aG (Dj b))]) (L:=[Ew a.z.n,Ew a.m,Ew b.z.n,Ew b.m]) func104 O O (AV O) (Y2 ha (Y2 hb Ao)) (AE.subF (sL [0,1] O) (q4 (B0 (cs:=Dj a) O λb1=>B0 (cs:=Dj b) O λb2=>al Q3 O λb3=>q6 (sL [2,3,4] O) (Cu [(0,true),(1,true),(2,true),(3,true),(5,true),(7,true),(4,false),(6,false),(8,false),(9,false),(10,false),(11,false)] (sl sr) (Av (v:=(pP b1 0)) O (AB O underlying97 O sizeOf95 O) (Uz 1 (FU a.z) YQ O (Av (v:=(pP b2 0)) O (AB O underlying97 O sizeOf95 O) (Uz 0 (FU b.z) YQ O ?_))))))))
 refine Gx 1 VS O (Gx 0 VS O (OkE.imp O (cZ (S:=S) (x:=(x.num*y.num)) (args:=[(aG (FU a.z)),(aG (FU b.z))]) call128 (λw hw=>W9 a.z b.z Z Z w (Zl (Bc hw 3 O la)) (Zl (Bc hw 5 O lb))) O O O λg1 lg1=>OkE.back (sl (sl sr)) (OkE.imp O (cN (S:=S) (x:=x.den) (args:=[(aG (Dj a))]) call107 (λw hw=>L3 a Z w (Bc hw 4 O la)) O O O λg2 lg2=>OkE.back (sl (sl (sl sr))) (OkE.imp O (cN (S:=S) (x:=y.den) (args:=[(aG (Dj b))]) call107 (λw hw=>L3 b Z w (Bc hw 7 O lb)) O O O λg3 lg3=>OkE.back (sl (sl (sl (sl sr)))) (OkE.imp O ?_))))))))
 exact cN (S:=S) (x:=(x.den*y.den)) (args:=[(C5 g2),(C5 g3)]) call129 (λw hw=>Qf g2 g3 (by first|omega|(simp only [Int.natAbs_neg];omega)) (by first|omega|(simp only [Int.natAbs_neg];omega)) w (Bc hw 1 O lg2) (Bc hw 0 O lg3)) O O O λg4 lg4=>OkE.back (sl (sl (sl (sl (sl sr))))) (OkE.imp O (cF (S:=S) (x:=(x*y)) (args:=[(aG (FU g1)),(C5 g4)]) call105 (λw hw=>(Al.cast (T:=λi=>FX i) (H3 x y) (Nz g1 g4 Z Z h0xy w (Bc hw 3 O lg1) (Bc hw 0 O lg4)))) O O O λg5 lg5=>OkE.back (sl (sl (sl (sl (sl (sl (sl sr))))))) (OkE.imp O (JZ 6 (off:=0) (vs:=Dj g5) (cs':=Dj g5) (AT O) O sizeOf97 O (OkE.back (sl (sl (sl (sl (sl (sl (sl sr))))))) (OkE.nil (OkQ.subF (sL [4] O) (OkQ.then_ (AE.ret (AS O (BH (i:=6) (cs:=Dj g5) O O isAgg97 sizeOf97 O) (λw hw=>Gd (a:=(g5:FX (x*y))) hw (Bc hw 0 O lg5) O)))))))))))
theorem Vg (a b:Rat):Sz (a/b)<=Sz a+Sz b:=by
 by_cases h:b=0
 ·subst h;rw [Rat.div_def,Rat.inv_zero,Rat.mul_zero];have h1:=PJ a;exact Nat.le_trans (show Sz (0:Rat)<=1 by decide +kernel) Z
 ·exact Sf h
theorem Ju  :Instr.fill ([(0,2),(2,1)].toArray[·]?) ([(Value.bool false),(Value.slice none 0 0),(Value.slice none 0 0)]).toArray []=some ([(Value.bool false),(Value.slice none 0 0),(Value.slice none 0 0)]).toArray:=by kernel_rfl
theorem Vl {x y:Rat} (a:FX x) (b:FX y) (hs:Sz x+Sz y<=16777216) (w:World) {S:Nat->Prop} (ha:Ro S w a) (hb:Ro S w b)  :Calls prog 87 #[(aG (Dj a)),(aG (Dj b))] w (Al (FX (x/y)) S w):=by
 have s0:=Df x
 have s1:=DE x
 have s2:=Hp x
 have s3:=Df y
 have s4:=DE y
 have s5:=Hp y
 have s6:=Dt x y
 have s7:=Dt y x
 have s8:=J7 x y
 have s9:=Jz x y
 have s10:=GQ (x.num*((y.den:Nat):Int)) (y.num*((x.den:Nat):Int))
 have h0x:=x.den_nz
 have h0y:=y.den_nz
 have h0xy:=Nat.mul_ne_zero h0x h0y
 have la:=CV (W:=w) ha
 have lb:=CV (W:=w) hb
 refine Ag (args:=[(aG (Dj a)),(aG (Dj b))]) (L:=[Ew a.z.n,Ew a.m,Ew b.z.n,Ew b.m]) func87 O O (AV O) (Y2 ha (Y2 hb Ao)) (AE.subF (sL [0,1] O) (q4 (B0 (cs:=Dj a) O λb1=>B0 (cs:=Dj b) O λb2=>al Q3 O λb3=>q6 (sL [2,3,4] O) (q4 (BC 1 VS O (Cc call103 (λw hw=>TA b w (Bc hw 5 O lb)) O (AK (BA (c:=(decide (y.num.sign=(0:Int)))) O O O) O (AC.nil ?_))))))))
 refine OkQ.subF (sL [2,3,4,7] O) (OkQ.then_ ?_)
 refine AE.cond O (λhc0=>?_) (λhc0=>?_)
 ·replace hc0:=of_decide_eq_true hc0
  exact q4 (AK (v:=(aG ([(Value.bool false),(Value.slice none 0 0),(Value.slice none 0 0)]))) (Aa (zs:=[(Value.bool false),(Value.slice none 0 0),(Value.slice none 0 0)]) (vs:=[(Value.bool false),(Value.slice none 0 0),(Value.slice none 0 0)]) (pv:=[]) (places:=[(0,2),(2,1)]) zeroValue97 underlying97 (λw=>by simp [sizeOf93,sizeOf95]) O (Ju )) O (BP O sizeOf97 O (AC.nil (OkQ.subF (sL [2,3,4] O) (OkQ.then_ (AE.ret (OkQ.then_ret (AS O (BH (i:=0) (cs:=[(Value.bool false),(Value.slice none 0 0),(Value.slice none 0 0)]) O O isAgg97 sizeOf97 O) (λw hw=>(by rw [<-UH (a:=x) hc0];exact Gd (a:=FX.zero) hw (bR (bh Yp) Yp) O))))))))))
 ·replace hc0:=of_decide_eq_false hc0
  have hy:y≠0:=λe=>hc0 (by rw [e];rfl)
  have hi:=OT hy
  have hyn:y.num.natAbs≠0:=λe=>hy (Rat.num_eq_zero.1 Z)
  refine AE.skip (q1 (Cu [(0,true),(1,true),(2,true),(3,true),(4,true),(7,true),(8,true),(9,true),(5,false),(6,false),(10,false),(11,false),(12,false)] (sl sr) (Gx 1 VS O (Av (v:=(pP b2 0)) O (AB O underlying97 O sizeOf95 O) (Av (v:=(pP b2 0)) O (AB O underlying95 O sizeOf4 O) (Bx 0 (Value.bool (decide (y.num<0))) PP O (Gx 0 VS O (Av (v:=(pP b2 0)) O (AB O underlying97 O sizeOf95 O) (Av (v:=(pP b2 1)) O (AB O underlying95 O sizeOf93 O) (Bx 0 (C5 b.z.n) PH O (OkE.imp O ?_)))))))))))
  refine cN (S:=S) (x:=y.den) (args:=[(aG (Dj b))]) call107 (λw hw=>L3 b Z w (Bc hw 5 O lb)) O O O λg1 lg1=>OkE.back (sl (sl sr)) (OkE.imp O (cZ (S:=S) (x:=(Eg (decide (y.num<0)) y.den)) (args:=[(Value.bool (decide (y.num<0))),(C5 g1)]) call106 (λw hw=>GG (decide (y.num<0)) g1 w (Bc hw 0 O lg1)) O O O λg2 lg2=>OkE.back (sl (sl (sl sr))) (OkE.imp O (cF (S:=S) (x:=(y⁻¹)) (args:=[(aG (FU g2)),(C5 b.z.n)]) call105 (λw hw=>(Al.cast (T:=λi=>FX i) (az hy) (Nz g2 b.z.n (by rw [By];omega) Z hyn w (Bc hw 0 O lg2) (Y3 (Zl (Bc hw 7 O lb)))))) O O O λg3 lg3=>OkE.back (sl (sl (sl (sl (sl sr))))) (OkE.imp O ?_)))))
  have hz1:=OP x (y⁻¹)
  exact cF (S:=S) (x:=(x/y)) (args:=[(aG (Dj a)),(aG (Dj g3))]) call104 (λw hw=>(Al.cast (T:=λi=>FX i) Wc (Vv a g3 (by (try simp only [OQ]);omega) w (Bc hw 7 O la) (Bc hw 0 O lg3)))) O O O λg4 lg4=>OkE.back (sl (sl (sl (sl (sl (sl (sl sr))))))) (OkE.imp O (JZ 6 (off:=0) (vs:=Dj g4) (cs':=Dj g4) (AT O) O sizeOf97 O (OkE.back (sl (sl (sl (sl (sl (sl (sl sr))))))) (OkE.nil (OkQ.subF (sL [3,4] O) (OkQ.then_ (AE.ret (AS O (BH (i:=6) (cs:=Dj g4) O O isAgg97 sizeOf97 O) (λw hw=>Gd (a:=(g4:FX (x/y))) hw (Bc hw 0 O lg4) O)))))))))
theorem Xe (n d:Int) (h1:-9223372036854775808<=n) (h2:n<9223372036854775808) (h3:-9223372036854775808<=d) (h4:d<9223372036854775808) (w:World) {S:Nat->Prop}  :Calls prog 64 #[(vI n),(vI d)] w (Al (FX (((n:Int):Rat)/((d:Int):Rat))) S w):=by
 have s1:=MK h1 h2
 have s2:=MK h3 h4
 refine An (args:=[(vI n),(vI d)]) func64 O O (AV O) (AE.subF (sL [0,1] O) (q4 (al Q3 O λb1=>AC.nil (q2 (AM O (cF (S:=S) (x:=((n:Int):Rat)) (args:=[(vI n)]) call88 (λw hw=>P4 n Z Z w) O O O λg1 lg1=>AM O (cF (S:=S) (x:=((d:Int):Rat)) (args:=[(vI d)]) call88 (λw hw=>P4 d Z Z w) O O O λg2 lg2=>?_)))))))
 have hz1:=Vg ((n:Int):Rat) ((d:Int):Rat)
 exact cF (S:=S) (x:=(((n:Int):Rat)/((d:Int):Rat))) (args:=[(aG (Dj g1)),(aG (Dj g2))]) call87 (λw hw=>Vl g1 g2 (by (try simp only [OQ]);omega) w (Bc hw 2 O lg1) (Bc hw 0 O lg2)) O O O λg3 lg3=>JZ 6 (off:=0) (vs:=Dj g3) (cs':=Dj g3) (AT O) O sizeOf97 O (AC.nil (OkQ.subF (sL [4] O) (OkQ.then_ (AE.ret (AS O (BH (i:=6) (cs:=Dj g3) O O isAgg97 sizeOf97 O) (λw hw=>Gd (a:=(g3:FX (((n:Int):Rat)/((d:Int):Rat)))) hw (Bc hw 0 O lg3) O))))))
end
section
set_option maxRecDepth 100000
theorem Qh (z:QD) (h:z.ok) (w:World) {S:Nat->Prop}  :Calls prog 49 #[(aG (HZ z))] w (Al (FX (Lb z)) S w):=by
 obtain ⟨h1,h2,h3⟩:=h
 refine An (args:=[(aG (HZ z))]) func49 O O (AV O) (AE.subF (sL [0] O) (q4 (B0 (cs:=HZ z) O λb1=>al Q3 O λb2=>q3 (sL [1,2] O) (AK (v:=(pP b1 0)) (AB O underlying53 O sizeOf2 O) O (BL 1 (vI z.n) aN O (AK (v:=(pP b1 1)) (AB O underlying53 O sizeOf50 O) O (BL 1 (vK .u32 z.d) YA O (AK (Eo (c:=((max z.d 1:Nat):Int)) O O (by split<;>omega)) O (AK (A7 (c:=((max z.d 1:Nat):Int)) O underlying50 underlying2 (E2 Z)) O ?_)))))))))
 exact cF (S:=S) (x:=(Lb z)) (args:=[(vI z.n),(vN (max z.d 1))]) call64 (λw hw=>(Al.cast (T:=λi=>FX i) O (Xe z.n ((max z.d 1:Nat):Int) Z Z Z Z w))) O O O λg1 lg1=>Ku O sizeOf97 O (AC.nil (OkQ.subF (sL [2] O) (OkQ.then_ (AE.ret (AS O (BH (i:=2) (cs:=Dj g1) O O isAgg97 sizeOf97 O) (λw hw=>Gd (a:=(g1:FX (Lb z))) hw (Bc hw 0 O lg1) O))))))
theorem FB {r0:Rat} (x0:FX r0) {r1:Rat} (x1:FX r1):Instr.fill ([(0,3),(3,3)].toArray[·]?) ([(Value.bool false),(Value.slice none 0 0),(Value.slice none 0 0),(Value.bool false),(Value.slice none 0 0),(Value.slice none 0 0)]).toArray [(0,.agg (Dj x0).toArray),(1,.agg (Dj x1).toArray)]=some (Dj x0++Dj x1).toArray:=by kernel_rfl
theorem Wg (p:PD) (h:p.ok) (w:World) {S:Nat->Prop}  :Calls prog 28 #[(aG (Gj p))] w (Al (PX (HB p)) S w):=by
 have h1:=h.1
 have h2:=h.2
 refine An (args:=[(aG (Gj p))]) func28 O O (AV O) (AE.subF (sL [0] O) (q4 (B0 (cs:=Gj p) O λb1=>al be O λb2=>q6 (sL [1,2] O) (Cu [(0,true),(1,true),(3,true),(4,true),(2,false),(5,false),(6,true),(7,false)] (sl sr) (Av (v:=(pP b1 0)) O (AB O underlying55 O sizeOf53 O) (Uz 0 (HZ p.x) RF O (Av (v:=(pP b1 2)) O (AB O underlying55 O sizeOf53 O) (Uz 0 (HZ p.y) RF O (OkE.imp O ?_)))))))))
 refine cF (S:=S) (x:=(Lb p.x)) (args:=[(aG (HZ p.x))]) call49 (λw hw=>Qh p.x (by assumption) w) O O O λg1 lg1=>OkE.back (sl (sl (sl sr))) (OkE.imp O (cF (S:=S) (x:=(Lb p.y)) (args:=[(aG (HZ p.y))]) call49 (λw hw=>Qh p.y (by assumption) w) O O O λg2 lg2=>OkE.back (sl (sl (sl (sl (sl sr))))) (Av (v:=(aG (Dj g1++Dj g2))) O (Aa (zs:=[(Value.bool false),(Value.slice none 0 0),(Value.slice none 0 0),(Value.bool false),(Value.slice none 0 0),(Value.slice none 0 0)]) (vs:=Dj g1++Dj g2) (pv:=[(0,(aG (Dj g1))),(1,(aG (Dj g2)))]) (places:=[(0,3),(3,3)]) zeroValue99 underlying99 (λw=>by simp [sizeOf97]) O (FB g1 g2)) (OkE.imp O (JZ 4 (off:=0) (vs:=Dj g1++Dj g2) (cs':=Dj g1++Dj g2) (AT O) O sizeOf99 O (OkE.back (sl (sl (sl (sl (sl sr))))) (OkE.nil (OkQ.subF (sL [2] O) (OkQ.then_ ?_)))))))))
 exact AE.ret (AS O (BH (i:=4) (cs:=Dj g1++Dj g2) O O isAgg99 sizeOf99 O) (λw hw=>Gd (a:=((PX.mk g1 g2:PX (⟨Lb p.x,Lb p.y⟩:Pt)):PX (HB p))) hw (cg (Bc hw 2 O lg1) (Bc hw 0 O lg2)) O))
end
end Go.Proofs.YtpgncndhhhllfaaGreat
