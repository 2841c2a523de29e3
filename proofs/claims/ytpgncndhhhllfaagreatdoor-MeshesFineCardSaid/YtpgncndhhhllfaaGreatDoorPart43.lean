import Derived.Test.YtpgncndhhhllfaaGreatDoorPart03
import Derived.Test.YtpgncndhhhllfaaGreatDoorPart12
import Derived.Test.YtpgncndhhhllfaaGreatDoorPart30
import Derived.Test.YtpgncndhhhllfaaGreatDoorPart33
import Derived.Test.YtpgncndhhhllfaaGreatDoorPart40
import Derived.Test.YtpgncndhhhllfaaGreatDoorPart42
namespace Go.Proofs.YtpgncndhhhllfaaGreatDoor
open Go Go.RowKit Go.Proofs.Tryz
set_option linter.unusedVariables false
set_option linter.unusedSimpArgs false
section
set_option maxRecDepth 100000
theorem EO {ps:List Pt} {ts ss:List T3} (x:OQ ps ts ss) (t r:Nat) (ht:t<ts.length) (hr:r<3) (hnb:By ps.length ts=true) (w:World) {S:Nat->Prop} (hx:Ro S w x):Calls prog 30 #[(aG (B9 x)),(vN t),(vN r)] w (Aw (PX (cor ps (EE (ts.getD t (0,0,0)) r))) S w):=by
 have hxl:=x.len
 have hcr:EE (ts.getD t (0,0,0)) r<x.rs.length:=by rw [hxl];exact KG (Cc hnb ht) r
 have lx:=Cl (W:=w) hx
 refine Ah (args:=[(aG (B9 x)),(vN t),(vN r)]) (L:=(AQ x.a.p (rowsL Ga x.rs)::AQ x.b.p (rowsL Ai ts)::AQ x.c.p (rowsL Ai ss)::F9 x.rs)) func30 O O (AT O) (dQ hx) (AF.subF (sL [0,1,2] O) (q4 (BU (cs:=B9 x) O λb1=>al UC O λb2=>q6 (sL [1,2,3,6] O) ?_)))
 refine Cd [(0,true),(1,true),(2,true),(3,true),(4,true),(5,true),(6,true),(7,true),(8,true),(9,true),(10,true),(11,false)] (sl sr) (Aq (v:=(pP b1 0)) O (AA O underlying38 O sizeOf35 O) (Bd 0 (Value.slice x.a.p x.rs.length x.a.c) OP O (Aq (v:=(pP b1 1)) O (AA O underlying38 O sizeOf23 O) (Bd 0 (Value.slice x.b.p ts.length x.b.c) CP O (Bb O ?_)))))
 refine Bb O (Aq (v:=(pP (pB x.b.p) (pO x.b.p+t*3))) O (AN (j:=t) O O x.b.ok underlying23 sizeOf53 O Z) (Aq (v:=(pP (pB x.b.p) (pO x.b.p+(t*3+r)))) O (AD (j:=r) O O underlying53 sizeOf3 O Z (by rw [Nat.mul_one];exact Nat.add_assoc _ _ _)) (Aq O (Ad (v:=(vN (EE (ts.getD t ((0,0,0):Nat×Nat×Nat)) r))) (i:=2) O O (BF.ne x.b.ok Z) Bj (Bc Az ((0,0,0):Nat×Nat×Nat) _ _ r Z Z (bK Z))) (Aq (v:=(pP (pB x.a.p) (pO x.a.p+(EE (ts.getD t ((0,0,0):Nat×Nat×Nat)) r)*6))) O (AN (j:=EE (ts.getD t ((0,0,0):Nat×Nat×Nat)) r) O O x.a.ok underlying35 sizeOf83 O Z) (Aq (v:=(aG (DE ((x.rs.getD (EE (ts.getD t ((0,0,0):Nat×Nat×Nat)) r) Ws).x)))) O (AZ (vs:=DE ((x.rs.getD (EE (ts.getD t ((0,0,0):Nat×Nat×Nat)) r) Ws).x)) (i:=1) O O (BF.ne x.a.ok Z) Fa (A7 KC Ws _ _ Z) (KC _)) ?_)))))
 refine OkE.imp O (A8 O sizeOf83 O (OkE.back (sl sr) (OkE.nil (AC.subF (sL [6] O) (AC.then_ ?_)))))
 exact AF.ret (AI O (Ap (i:=0) (cs:=DE ((x.rs.getD (EE (ts.getD t ((0,0,0):Nat×Nat×Nat)) r) Ws).x)) O O isAgg83 sizeOf83 O) (λw hw=>(by rw [show cor ps (EE (ts.getD t (0,0,0)) r)=(x.rs.getD (EE (ts.getD t (0,0,0)) r) Ws).p from (x.at hcr).symm];exact ED (a:=(x.rs.getD (EE (ts.getD t (0,0,0)) r) Ws).x) hw (dJ (L:=(Ag b2 83 (DE ((x.rs.getD (EE (ts.getD t ((0,0,0):Nat×Nat×Nat)) r) Ws).x))::Ag b1 38 (B9 x)::AQ x.a.p (rowsL Ga x.rs)::AQ x.b.p (rowsL Ai ts)::AQ x.c.p (rowsL Ai ss)::F9 x.rs)) (rs:=x.rs) hw (λz hz=>List.mem_append_right [Ag b2 83 (DE ((x.rs.getD (EE (ts.getD t ((0,0,0):Nat×Nat×Nat)) r) Ws).x)),Ag b1 38 (B9 x),AQ x.a.p (rowsL Ga x.rs),AQ x.b.p (rowsL Ai ts),AQ x.c.p (rowsL Ai ss)] hz) hcr (bU lx)) O)))
set_option maxHeartbeats 1000000 in
theorem UR {ps:List Pt} {ts ss:List T3} (x:OQ ps ts ss) (hl:ts.length<=2000) (hN:ps.length<=1000000) (hz:∀k,B_ (cor ps k)<=1000) (hnb:By ps.length ts=true) (w:World) {S:Nat->Prop} (hx:Ro S w x):Calls prog 25 #[(aG (B9 x))] w (Aw (FX (EC ps ts ts.length)) S w):=by
 have hxl:=x.len
 have lx:=Cl (W:=w) hx
 refine Ah (args:=[(aG (B9 x))]) (L:=(AQ x.a.p (rowsL Ga x.rs)::AQ x.b.p (rowsL Ai ts)::AQ x.c.p (rowsL Ai ss)::F9 x.rs)) func25 O O (AT O) (dQ hx) (AF.subF (sL [0] O) (q4 (BU (cs:=B9 x) O λb1=>al Id O λb2=>q3 (sL [1,2] O) ?_)))
 refine cF (S:=S) (x:=(((0:Int):Int):Rat)) (args:=[(vI 0)]) call78 (λw hw=>J6 (0:Int) Z Z w) O O O λg1 lg1=>al Id O λb3=>A8 O sizeOf75 O (q6 (sL [1,2,3] O) (q4 (asg' O ?_)))
 refine AE.nil (AC.then_ (AF.block (AF.permR (L2:=(Be g1.z.n::Be g1.m::Ag b3 75 (fxL g1)::Ag b2 75 ([(Value.bool false),(Value.slice none 0 0),(Value.slice none 0 0)])::Ag b1 38 (B9 x)::AQ x.a.p (rowsL Ga x.rs)::AQ x.b.p (rowsL Ai ts)::AQ x.c.p (rowsL Ai ss)::F9 x.rs)) (List.perm_middle (l₁:=[Be g1.z.n,Be g1.m])).symm ?_)))
 refine AF.lp2 (tg λ(i:Nat) (s:FS)=>i<=ts.length/\(FS.q s)=EC ps ts i/\At ⟨w,none⟩ S (FS.f s)) (tg λ(i:Nat) (s:FS)=>[(1,(pP b1 0)),(2,(pP b2 0)),(3,(pP b3 0)),(4,(vN i))]) (tg λ(i:Nat) (s:FS)=>(Be s.f.z.n::Be s.f.m::Ag b3 75 (fxL s.f)::Ag b2 75 ([(Value.bool false),(Value.slice none 0 0),(Value.slice none 0 0)])::Ag b1 38 (B9 x)::AQ x.a.p (rowsL Ga x.rs)::AQ x.b.p (rowsL Ai ts)::AQ x.c.p (rowsL Ai ss)::F9 x.rs)) (tg λ(i:Nat) (s:FS)=>ts.length-i) 0 (⟨_,g1⟩:FS) (⟨Nat.zero_le _,rfl,lg1⟩) (sF O) sr (λi s hJ=>?_)
 obtain ⟨hi,hsq,hsa⟩:=hJ
 have ha:=J1 hz ts i
 rw [<-hsq] at ha
 have z0:=hz ((ts.getD i (0,0,0)).1)
 have z1:=hz ((ts.getD i (0,0,0)).2.1)
 have z2:=hz ((ts.getD i (0,0,0)).2.2)
 refine AF.seq (AF.seq ?_)
 by_cases hts:i<ts.length
 ·skip
  refine AF.region (AM O (AH (v:=(pP b1 1)) (AA O underlying38 O sizeOf23 O) O (BA 4 (Value.slice x.b.p ts.length x.b.c) CP O (AH (v:=(vN ts.length)) (AG O underlying23) O (AH (Ae (c:=true) O O (decide_eq_true Z)) O ?_)))))
  refine AM O (AE.step (v:=(aG (B9 x))) (AB O) (Aj (i:=4) (vs:=B9 x) O O EA.a EA.s O O) O (AT O) (AE.call (v:=(Value.bool true)) (AB O) (Ao (args:=[(aG (B9 x))]) O O call79) (λw hw=>J2 x.rm (by rw [hxl];exact hnb) Z Z w (Ym (x:=x) (Gb (S:=S) hw 5 O (λz hz=>List.mem_append_right [Be s.f.z.n,Be s.f.m,Ag b3 75 (fxL s.f),Ag b2 75 ([(Value.bool false),(Value.slice none 0 0),(Value.slice none 0 0)]),Ag b1 38 (B9 x),AQ x.a.p (rowsL Ga x.rs),AQ x.b.p (rowsL Ai ts),AQ x.c.p (rowsL Ai ss)] hz) lx))) O (AT O) (AH (v:=(Value.bool true)) (Ac O O) O (AE.nil (AC.subF (sL [1,2,3,4,14] O) ?_)))))
  refine AC.then_ (AF.cond_true O (AF.skip (q1 (AF.block (rC [(0,true),(1,true),(2,true),(4,true),(5,true),(7,true),(8,true),(3,false),(6,false),(9,false),(10,false),(11,false)] 12 [] sr (sk (sk (sl sr))) (by kernel_rfl) (λ_ _ d _ _ h=>by cases d<;>exact h) ?_)))))
  refine vE (v:=(aG (fxL s.f))) O (Aj (i:=2) (vs:=fxL s.f) O O D8.a D8.s O O) O (vE (v:=(aG (B9 x))) O (Aj (i:=4) (vs:=B9 x) O O EA.a EA.s O O) O (vM O O O (vE (v:=(aG (B9 x))) O (Aj (i:=4) (vs:=B9 x) O O EA.a EA.s O O) O (vM O O O (vE (v:=(aG (B9 x))) O (Aj (i:=4) (vs:=B9 x) O O EA.a EA.s O O) O ?_)))))
  refine vM O O O (CK.imp O (cP (S:=S) (x:=(cor ps (ts.getD i (0,0,0)).1)) (args:=[(aG (B9 x)),(vN i),(vI 0)]) call30 (λw hw=>EO x i 0 Z (by decide) hnb w (Gb (S:=S) hw 5 O (λz hz=>List.mem_append_right [Be s.f.z.n,Be s.f.m,Ag b3 75 (fxL s.f),Ag b2 75 ([(Value.bool false),(Value.slice none 0 0),(Value.slice none 0 0)]),Ag b1 38 (B9 x),AQ x.a.p (rowsL Ga x.rs),AQ x.b.p (rowsL Ai ts),AQ x.c.p (rowsL Ai ss)] hz) lx)) O O O λg2 lg2=>CK.back (sl (sl (sl (sl sr)))) (CK.imp O (cP (S:=S) (x:=(cor ps (ts.getD i (0,0,0)).2.1)) (args:=[(aG (B9 x)),(vN i),(vI 1)]) call30 (λw hw=>EO x i 1 Z (by decide) hnb w (Gb (S:=S) hw 9 O (λz hz=>List.mem_append_right [Be g2.x.z.n,Be g2.x.m,Be g2.y.z.n,Be g2.y.m,Be s.f.z.n,Be s.f.m,Ag b3 75 (fxL s.f),Ag b2 75 ([(Value.bool false),(Value.slice none 0 0),(Value.slice none 0 0)]),Ag b1 38 (B9 x),AQ x.a.p (rowsL Ga x.rs),AQ x.b.p (rowsL Ai ts),AQ x.c.p (rowsL Ai ss)] hz) lx)) O O O λg3 lg3=>?_))))
  refine CK.back (sl (sl (sl (sl (sl (sl (sl (sl sr)))))))) (CK.imp O (cP (S:=S) (x:=(cor ps (ts.getD i (0,0,0)).2.2)) (args:=[(aG (B9 x)),(vN i),(vI 2)]) call30 (λw hw=>EO x i 2 Z (by decide) hnb w (Gb (S:=S) hw 13 O (λz hz=>List.mem_append_right [Be g3.x.z.n,Be g3.x.m,Be g3.y.z.n,Be g3.y.m,Be g2.x.z.n,Be g2.x.m,Be g2.y.z.n,Be g2.y.m,Be s.f.z.n,Be s.f.m,Ag b3 75 (fxL s.f),Ag b2 75 ([(Value.bool false),(Value.slice none 0 0),(Value.slice none 0 0)]),Ag b1 38 (B9 x),AQ x.a.p (rowsL Ga x.rs),AQ x.b.p (rowsL Ai ts),AQ x.c.p (rowsL Ai ss)] hz) lx)) O O O λg4 lg4=>CK.back (sl (sl (sl (sl (sl (sl (sl (sl (sl (sl (sl (sl sr)))))))))))) (CK.imp O ?_)))
  have hz1:=UF (cor ps (ts.getD i (0,0,0)).1) (cor ps (ts.getD i (0,0,0)).2.1) (cor ps (ts.getD i (0,0,0)).2.2)
  refine cF (S:=S) (x:=(H2 (cor ps (ts.getD i (0,0,0)).1) (cor ps (ts.getD i (0,0,0)).2.1) (cor ps (ts.getD i (0,0,0)).2.2))) (args:=[(aG (DE g2)),(aG (DE g3)),(aG (DE g4))]) call81 (λw hw=>Sq g2 g3 g4 Z w (inS hw 8 O lg2) (inS hw 4 O lg3) (inS hw 0 O lg4)) O O O λg5 lg5=>CK.back (sl (sl (sl (sl (sl (sl (sl (sl (sl (sl (sl (sl (sl (sl sr)))))))))))))) (CK.imp O ?_)
  have hz2:=LZ s.q (H2 (cor ps (ts.getD i (0,0,0)).1) (cor ps (ts.getD i (0,0,0)).2.1) (cor ps (ts.getD i (0,0,0)).2.2))
  refine cF (S:=S) (x:=(s.q+(H2 (cor ps (ts.getD i (0,0,0)).1) (cor ps (ts.getD i (0,0,0)).2.1) (cor ps (ts.getD i (0,0,0)).2.2)))) (args:=[(aG (fxL s.f)),(aG (fxL g5))]) call80 (λw hw=>RY s.f g5 (by (try simp only [C5]);omega) w (inS hw 14 O hsa) (inS hw 0 O lg5)) O O O λg6 lg6=>CK.back (sl (sl (sl (sl (sl (sl (sl (sl (sl (sl (sl (sl (sl (sl (sl (sl sr)))))))))))))))) (CK.cut O (Eg 18 (off:=0) (vs:=fxL g6) (cs':=fxL g6) (AS O) O sizeOf75 O (OkE.back (sl (sl (sl (sl (sl (sl (sl (sl (sl (sl (sl (sl (sl (sl (sl (sl (sk (sk (sl sr))))))))))))))))))) (OkE.nil ?_))))
  refine AC.subF (sL [1,2,3,4] O) (AC.in_normal (AC.then_ (AF.region (AM O (AH (AW (c:=((i+1:Nat):Int)) O O (AU (a:=i) (b:=1) Z)) O ?_)))))
  exact asg' O (AE.nil (AC.subF (sL [1,2,3,4] O) (AC.round2 (i+1) (⟨_,g6⟩:FS) (⟨Z,by show s.q+H2 _ _ _=_;rw [hsq,Ud];rfl,lg6⟩) Z (sF O) (sk (sk (sl (sl (sl (sl (sl (sl (sl (sl (sl (sl (sl (sl (sl (sl (sl (sl sr)))))))))))))))))))))
 ·skip
  refine AF.region (AM O (AH (v:=(pP b1 1)) (AA O underlying38 O sizeOf23 O) O (BA 4 (Value.slice x.b.p ts.length x.b.c) CP O (AH (v:=(vN ts.length)) (AG O underlying23) O (AH (Ae (c:=false) O O (decide_eq_false Z)) O ?_)))))
  refine AM O (AE.skip (AJ O) O (AT O) (AE.skip (AJ O) O (AT O) (AH (v:=(Value.bool false)) (AP O O) O (AE.nil (AC.subF (sL [1,2,3,4,14] O) ?_)))))
  refine AC.then_ (AF.cond_false O (AF.exit (AC.then_exit (AC.round2_exit (AC.in_exit ?_)))))
  refine q2 (BD 2 D8 O (JP O sizeOf75 O (AE.nil (AC.subF (sL [1,2,3,4] O) (AC.then_ ?_)))))
  exact AF.ret (AI O (Ap (i:=3) (cs:=fxL s.f) O O isAgg75 sizeOf75 O) (λw hw=>(by rw [show ts.length=i by omega,<-hsq];exact ED (a:=s.f) hw (inS hw 0 O hsa) O)))
end
section
set_option maxRecDepth 100000
set_option maxHeartbeats 1000000 in
theorem Qp {N:Nat} {ts ss:List T3} (x:RM N ts ss) (p:Nat) (hnb:By N ts=true) (hl:ts.length<=1000000) (hN:N<=1000000) (w:World) {S:Nat->Prop} (hx:Ro S w x):Calls prog 28 #[(aG (F1 x)),(vN p)] w (Aw (RX (inL (PR ts p ts.length)) (PR ts p ts.length).length) S w):=by
 have lx:=Cl (W:=w) hx
 refine Ah (args:=[(aG (F1 x)),(vN p)]) (L:=[AQ x.a.p (x.cs),AQ x.b.p (rowsL Ai ts),AQ x.c.p (rowsL Ai ss)]) func28 O O (AT O) (Ed hx Ax) (AF.subF (sL [0,1] O) (q4 (BU (cs:=F1 x) O λb1=>asg' O (q3 (sL [1,2,4] O) ?_))))
 refine asg' O (AE.nilRow 3 1 (AE.nil (q1 (q4 (asg' O ?_)))))
 refine AE.nil (AC.then_ (AF.block ?_))
 refine AF.lp4 (tg λ(t:Nat) (p1:Option Addr) (c1:Nat) (out:List Nat)=>t<=ts.length/\OwnOk p1 out.length c1/\out=PR ts p t) (tg λ(t:Nat) (p1:Option Addr) (c1:Nat) (out:List Nat)=>[(1,(vN p)),(2,(pP b1 0)),(4,(Value.slice none 0 0)),(6,(vN t)),(5,(Value.slice p1 out.length c1))]) (tg λ(t:Nat) (p1:Option Addr) (c1:Nat) (out:List Nat)=>[rowW p1 3 1 out.length c1 (inL out),Ag b1 38 (F1 x),AQ x.a.p (x.cs),AQ x.b.p (rowsL Ai ts),AQ x.c.p (rowsL Ai ss)]) (tg λ(t:Nat) (p1:Option Addr) (c1:Nat) (out:List Nat)=>ts.length-t) 0 none 0 ([]:List Nat) (⟨Nat.zero_le _,OwnOk.none,rfl⟩) (sF O) sr (λt p1 c1 out hJ=>?_)
 obtain ⟨ht,ho,hout⟩:=hJ
 have hal:=Yt (ts:=ts) p t
 rw [<-hout] at hal
 refine AF.seq (AF.seq ?_)
 by_cases hts:t<ts.length
 ·skip
  refine AF.region (AM O (AH (v:=(pP b1 1)) (AA O underlying38 O sizeOf23 O) O (BA 1 (Value.slice x.b.p ts.length x.b.c) CP O (AH (v:=(vN ts.length)) (AG O underlying23) O (AH (Ae (c:=true) O O (decide_eq_true Z)) O ?_)))))
  refine AM O (AE.step (v:=(aG (F1 x))) (AB O) (Aj (i:=1) (vs:=F1 x) O O EA.a EA.s O O) O (AT O) (AE.call (v:=(Value.bool true)) (AB O) (Ao (args:=[(aG (F1 x))]) O O call79) (λw hw=>J2 x hnb hl hN w (inS hw 2 O lx)) O (AT O) (AH (v:=(Value.bool true)) (Ac O O) O (AE.nil (AC.subF (sL [1,2,4,6,5,15] O) ?_)))))
  refine AC.then_ (AF.cond_true O (AF.skip (q1 (AF.block (q4 ?_)))))
  refine AH (v:=(pP b1 1)) (AA O underlying38 O sizeOf23 O) O (BA 1 (Value.slice x.b.p ts.length x.b.c) CP O (AM O (AH (v:=(pP (pB x.b.p) (pO x.b.p+t*3))) (AN (j:=t) O O x.b.ok underlying23 sizeOf53 O Z) O (AH (v:=(aG (Ai (ts.getD t ((0,0,0):Nat×Nat×Nat))))) (AZ (vs:=Ai (ts.getD t ((0,0,0):Nat×Nat×Nat))) (i:=3) O O (BF.ne x.b.ok Z) Gf (A7 Az _ _ _ Z) (Az _)) O (AM O ?_)))))
  refine ck' call84 (Pz (ts.getD t ((0,0,0):Nat×Nat×Nat)) p) O (AE.nil (AC.subF (sL [1,2,4,6,5,24] O) (AC.then_ ?_)))
  refine AF.cond O (λhc1=>?_) (λhc1=>?_)
  ·skip
   refine AF.region (AM O (AM O (AE.openV (V:=λb2=>(Value.slice (some ⟨b2,0,none⟩) 1 1)) (T:=3) (cs:=[(vN t)]) (AS O) (Av (cs:=[(vN t)]) (pv:=[(0,(vN t))]) underlying70 sizeOf3 zeroValue3 (by decide) (by decide) O (by kernel_rfl)) O (AT O) λb2=>AE.append1 (j:=0) (cs2:=inL (out++[t])) bk O ho (by simp [GJ]) O O O O (by decide) (Hx Z) Z (by rw [K3];rfl) O λp_1 c_1 ho_1 hne_1=>asg' O ?_)))
   refine AE.nil (AC.subF (sL [1,2,4,6,5] O) (AC.in_normal (AC.then_ (AF.region (AM O ?_)))))
   refine AH (AW (c:=((t+1:Nat):Int)) O O (AU (a:=t) (b:=1) Z)) O (asg' O (AE.nil (AC.subF (sL [1,2,4,6,5] O) ?_)))
   rw [show out.length+1=(out++[t]).length by simp]
   exact AC.round4 (t+1) p_1 c_1 (out++[t]) (⟨Z,(by simpa using ho_1),by rw [hout];exact (XG (by first|exact hc1|simpa using hc1)).symm⟩) Z (sF O) (sl sr)
  ·skip
   refine AF.skip (AC.in_normal (AC.then_ (AF.region (AM O (AH (AW (c:=((t+1:Nat):Int)) O O (AU (a:=t) (b:=1) Z)) O ?_)))))
   exact asg' O (AE.nil (AC.subF (sL [1,2,4,6,5] O) (AC.round4 (t+1) p1 c1 out (⟨Z,ho,by rw [hout];exact (aH (by first|exact hc1|simpa using hc1)).symm⟩) Z (sF O) sr)))
 ·skip
  refine AF.region (AM O (AH (v:=(pP b1 1)) (AA O underlying38 O sizeOf23 O) O (BA 1 (Value.slice x.b.p ts.length x.b.c) CP O (AH (v:=(vN ts.length)) (AG O underlying23) O (AH (Ae (c:=false) O O (decide_eq_false Z)) O ?_)))))
  refine AM O (AE.skip (AJ O) O (AT O) (AE.skip (AJ O) O (AT O) (AH (v:=(Value.bool false)) (AP O O) O (AE.nil (AC.subF (sL [1,2,4,6,5,15] O) ?_)))))
  refine AC.then_ (AF.cond_false O (AF.exit (AC.then_exit (AC.round4_exit (AC.in_exit ?_)))))
  refine q2 (AM O (asg' O (AE.nil (AC.subF (sL [1,2,4,6,5] O) (AC.then_ ?_)))))
  exact AF.ret (AI O (AY (v:=(Value.slice p1 out.length c1)) O) (λw hw=>(by rw [show PR ts p ts.length=out by rw [hout,show t=ts.length by omega]];exact YS hw 0 O ho (by rw [GJ,Nat.mul_one]) O)))
end
section
set_option maxRecDepth 100000
theorem Hi:QS prog 215 Jd XX where
 law:=.of_law (deep_law_laid Y4 (m:=2) (by decide) (by decide +kernel) (by kernel_rfl) (by kernel_rfl))
 key:=λa h=>Mj underlying215 ⟨rfl,rfl⟩ ⟨rfl,rfl⟩ (by decide +kernel) underlying3 (by kernel_rfl) (by kernel_rfl) (by kernel_rfl) (by decide +kernel) (My h.1) (My h.2)
 inj:=λa b h=>OZ h
theorem K2 (x0:Nat×Nat×Nat):Instr.fill (λi=>some (i*3,3)) ((Array.range (1*3)).map ((Value.agg (Ai ((0,0,0):Nat×Nat×Nat)).toArray).cells[·%(Value.agg (Ai ((0,0,0):Nat×Nat×Nat)).toArray).cells.size]!)) [(0,.agg (Ai x0).toArray)]=some (Ai x0).toArray:=by kernel_rfl
set_option maxHeartbeats 4000000 in
theorem Uf (ts:List T3) (x:RX (rowsL Ai ts) ts.length) (pp:Option Addr) (N pc:Nat) (hn:By N ts=true) (hN:N<=4611686018427387904) (hl:ts.length<=1000000000) (w:World) {S:Nat->Prop} (hx:Ro S w x):Calls prog 73 #[(Value.slice pp N pc),(Value.slice x.p ts.length x.c)] w (ND c9 (ah (T:=55) (z:=3) (cs:=rowsL Ai (Bi ts)) (n:=(Bi ts).length)) S w):=by
 have lx:=Cl (W:=w) hx
 refine Ah (args:=[(Value.slice pp N pc),(Value.slice x.p ts.length x.c)]) (L:=[AQ x.p (rowsL Ai ts)]) func73 O O (AT O) (Ed hx Ax) (AF.subF (sL [0,1] O) (q4 (asg' O (AE.nil (q1 ?_)))))
 refine q4 (AM O (AM O (AH (v:=(vN N)) (AG O underlying28) O (Cj (args:=[(Value.slice x.p ts.length x.c),(vN N)]) (v:=(Value.bool true)) call132 (λw hw=>(by have h9:=RT N ts x Z w (inS hw 0 O lx);rw [hn] at h9;exact h9)) O (AH (BQ (c:=false) O O) O ?_)))))
 refine AE.nil (AC.subF (sL [1,4,18] O) (AC.then_ (AF.cond_false O (AF.skip (q2 ?_)))))
 refine AE.makeMap Jd vN (AS O) O λb1=>asg' O (q6 (sL [1,4,5] O) (q4 (AM O (AH (v:=(vN ts.length)) (AG O underlying23) O ?_))))
 refine AM O (AE.nil (AC.then_ (AF.block ?_)))
 refine AF.lp1 (tg λ(t:Nat)=>t<=ts.length) (tg λ(t:Nat)=>[(1,(Value.slice x.p ts.length x.c)),(4,(Value.slice none 0 0)),(5,(Value.map (some b1))),(20,(Value.slice x.p ts.length x.c)),(21,(vN ts.length)),(22,(vN t))]) (tg λ(t:Nat)=>[Dh b1 Jd vN (Cz ts (3*t+0)),AQ x.p (rowsL Ai ts)]) (tg λ(t:Nat)=>ts.length-t) 0 (Nat.zero_le _) (sF O) sr (λt hJ=>?_)
 have ht:=hJ
 refine q4 (AH (Ae (c:=(decide (t<ts.length))) O O (CL (a:=t) (b:=ts.length))) O (AE.nil (q1 ?_)))
 refine AF.cond O (λhc1=>?_) (λhc1=>?_)
 ·replace hc1:=of_decide_eq_true hc1
  obtain ⟨T,hT⟩:∃q,q=ts.getD t (0,0,0):=⟨_,rfl⟩
  obtain ⟨g1,g2,g3⟩:=De (Cc hn hc1)
  rw [<-hT] at g1 g2 g3
  refine AF.skip (q1 (AF.block (q4 (AH (v:=(pP (pB x.p) (pO x.p+t*3))) (AN (j:=t) O O x.ok underlying23 sizeOf53 O Z) O (AH (v:=(aG (Ai (ts.getD t ((0,0,0):Nat×Nat×Nat))))) (AZ (vs:=Ai (ts.getD t ((0,0,0):Nat×Nat×Nat))) (i:=1) O O (BF.ne x.ok Z) Gf (A7 Az _ _ _ Z) (Az _)) O ?_)))))
  refine AE.retell (k:=25) (u:=(aG (Ai T))) O (by rw [hT]) (al L1 O λb2=>A8 O sizeOf53 O (q3 (sL [1,4,5,20,21,22,7] O) (AM O (AE.nil ?_))))
  refine AC.then_ (AF.block (AF.unroll 4 (FP.step (q4 (AH (Ae (c:=true) O O (by decide)) O ?_)))))
  refine AE.nil (q1 (AF.cond_true O (AF.skip (q1 (AF.block ?_)))))
  refine q4 (AM O (asg' O (q6 (sL [1,4,5,20,21,22,7,26,8] O) (Cd [(0,true),(1,true),(2,true),(3,true),(4,true),(5,true),(6,true),(7,true),(8,true),(9,true)] sr (Bb O ?_)))))
  refine Aq (v:=(pP b2 0)) O (AD (j:=0) O O underlying53 sizeOf3 O (by decide) O) (Bd 0 (vN T.1) Bj O (Bb O (Aq O (AW (c:=(1:Int)) O O (by decide)) (Aq O (Bs (c:=(1:Int)) O O (by decide) (by decide)) (Aq (v:=(pP b2 1)) O (AD (j:=1) O O underlying53 sizeOf3 O (by decide) O) ?_)))))
  refine Bd 0 (vN T.2.1) Bj O (pS' O (pS' O (OkE.nil (AC.subF (sL [1,4,5,20,21,22,7,26,9,10] O) (AC.then_ ?_)))))
  obtain ⟨vq1,hvq1⟩:∃q,q=(BZ (Cz ts (3*t+0)) ((min T.1 T.2.1,max T.1 T.2.1):P2)).getD 0:=⟨_,rfl⟩
  refine cI [(0,true),(1,true),(2,true),(3,true),(4,true),(5,true),(6,true),(7,true),(8,true),(9,true),(10,false),(11,true)] 12 [] (cc 1 (x:=((min T.1 T.2.1,max T.1 T.2.1):P2)) (v:=vq1) O O) (List.nil_sublist _) (by kernel_rfl) (λ_ _ d _ _ h=>by cases d<;>exact h) (vM O O O (vM O O O (vM O O O (vE O (Gq (c:=((min T.1 T.2.1:Nat):Int)) O O (by split<;>omega)) O (vM O O O ?_)))))
  refine vM O O O (vE O (Fe (c:=((max T.1 T.2.1:Nat):Int)) O O (by split<;>omega)) O (vE (v:=(aG ([(vN (min T.1 T.2.1)),(vN (max T.1 T.2.1))]))) O (AV (zs:=BH ((0,0):P2)) (vs:=[(vN (min T.1 T.2.1)),(vN (max T.1 T.2.1))]) (pv:=[(0,(vN (min T.1 T.2.1))),(1,(vN (max T.1 T.2.1)))]) (places:=[(0,1),(1,1)]) zeroValue215 underlying215 (λw=>by simp [sizeOf3]) O O) O (vE (v:=(vN vq1)) O (Hh Hi 1 (kvs:=Cz ts (3*t+0)) (x:=((min T.1 T.2.1,max T.1 T.2.1):P2)) (z0:=0) O O underlying213 zeroValue3 O (FT hn hN _ Z) (D1 Z Z) hvq1) O ?_)))
  have hmq:=M9 (ts:=ts) (3*t+0) ((min T.1 T.2.1,max T.1 T.2.1):P2)
  refine vE O (AW (c:=((vq1+1:Nat):Int)) O O (AU (a:=vq1) (b:=1) Z)) O (CK.imp O (AE.mapEntry Hi 1 (kvs:=Cz ts (3*t+0)) (x:=((min T.1 T.2.1,max T.1 T.2.1):P2)) (z0:=0) (v:=vq1) O O underlying213 zeroValue3 O (FT hn hN _ Z) (D1 Z Z) hvq1 O (CK.backW (aN 1 O O) (vE O (Aa (v:=(vN (DG (Cz ts (3*t+0)) ((min T.1 T.2.1,max T.1 T.2.1):P2)))) O O) O (CK.cut O ?_)))))
  refine AE.entryStore 1 (kvs:=Cz ts (3*t+0)) (x:=((min T.1 T.2.1,max T.1 T.2.1):P2)) (u:=vq1) (y:=vq1+1) O O O O ?_
  rw [show Bn (Cz ts (3*t+0)) ((min T.1 T.2.1,max T.1 T.2.1):P2) (vq1+1)=Cz ts (3*t+1) from by rw [hvq1,hT];exact (I2 (ts:=ts) (t:=t) (i:=0) Z).symm]
  refine OkE.back (List.nil_sublist _) (OkE.nil (AC.subF (sL [1,4,5,20,21,22,7,26] O) (AC.in_normal (AC.then_ (AF.region ?_)))))
  refine AH (AW (c:=(1:Int)) O O (by decide)) O (AM O (AE.nil (AC.subF (sL [1,4,5,20,21,22,7,26] O) (AC.again (FP.step ?_)))))
  refine q4 (AH (Ae (c:=true) O O (by decide)) O (AE.nil (q1 (AF.cond_true O (AF.skip ?_)))))
  refine q1 (AF.block (q4 (AM O (asg' O (q6 (sL [1,4,5,20,21,22,7,26,8] O) ?_)))))
  refine Cd [(0,true),(1,true),(2,true),(3,true),(4,true),(5,true),(6,true),(7,true),(8,true),(9,true)] sr (Bb O (Aq (v:=(pP b2 1)) O (AD (j:=1) O O underlying53 sizeOf3 O (by decide) O) (Bd 0 (vN T.2.1) Bj O (Bb O (Aq O (AW (c:=(2:Int)) O O (by decide)) ?_)))))
  refine Aq O (Bs (c:=(2:Int)) O O (by decide) (by decide)) (Aq (v:=(pP b2 2)) O (AD (j:=2) O O underlying53 sizeOf3 O (by decide) O) (Bd 0 (vN T.2.2) Bj O (pS' O (pS' O (OkE.nil ?_)))))
  refine AC.subF (sL [1,4,5,20,21,22,7,26,9,10] O) (AC.then_ ?_)
  obtain ⟨vq2,hvq2⟩:∃q,q=(BZ (Cz ts (3*t+1)) ((min T.2.1 T.2.2,max T.2.1 T.2.2):P2)).getD 0:=⟨_,rfl⟩
  refine cI [(0,true),(1,true),(2,true),(3,true),(4,true),(5,true),(6,true),(7,true),(8,true),(9,true),(10,false),(11,true)] 12 [] (cc 1 (x:=((min T.2.1 T.2.2,max T.2.1 T.2.2):P2)) (v:=vq2) O O) (List.nil_sublist _) (by kernel_rfl) (λ_ _ d _ _ h=>by cases d<;>exact h) (vM O O O (vM O O O (vM O O O (vE O (Gq (c:=((min T.2.1 T.2.2:Nat):Int)) O O (by split<;>omega)) O (vM O O O ?_)))))
  refine vM O O O (vE O (Fe (c:=((max T.2.1 T.2.2:Nat):Int)) O O (by split<;>omega)) O (vE (v:=(aG ([(vN (min T.2.1 T.2.2)),(vN (max T.2.1 T.2.2))]))) O (AV (zs:=BH ((0,0):P2)) (vs:=[(vN (min T.2.1 T.2.2)),(vN (max T.2.1 T.2.2))]) (pv:=[(0,(vN (min T.2.1 T.2.2))),(1,(vN (max T.2.1 T.2.2)))]) (places:=[(0,1),(1,1)]) zeroValue215 underlying215 (λw=>by simp [sizeOf3]) O O) O (vE (v:=(vN vq2)) O (Hh Hi 1 (kvs:=Cz ts (3*t+1)) (x:=((min T.2.1 T.2.2,max T.2.1 T.2.2):P2)) (z0:=0) O O underlying213 zeroValue3 O (FT hn hN _ Z) (D1 Z Z) hvq2) O ?_)))
  have hmq:=M9 (ts:=ts) (3*t+1) ((min T.2.1 T.2.2,max T.2.1 T.2.2):P2)
  refine vE O (AW (c:=((vq2+1:Nat):Int)) O O (AU (a:=vq2) (b:=1) Z)) O (CK.imp O (AE.mapEntry Hi 1 (kvs:=Cz ts (3*t+1)) (x:=((min T.2.1 T.2.2,max T.2.1 T.2.2):P2)) (z0:=0) (v:=vq2) O O underlying213 zeroValue3 O (FT hn hN _ Z) (D1 Z Z) hvq2 O (CK.backW (aN 1 O O) (vE O (Aa (v:=(vN (DG (Cz ts (3*t+1)) ((min T.2.1 T.2.2,max T.2.1 T.2.2):P2)))) O O) O (CK.cut O ?_)))))
  refine AE.entryStore 1 (kvs:=Cz ts (3*t+1)) (x:=((min T.2.1 T.2.2,max T.2.1 T.2.2):P2)) (u:=vq2) (y:=vq2+1) O O O O ?_
  rw [show Bn (Cz ts (3*t+1)) ((min T.2.1 T.2.2,max T.2.1 T.2.2):P2) (vq2+1)=Cz ts (3*t+2) from by rw [hvq2,hT];exact (I2 (ts:=ts) (t:=t) (i:=1) Z).symm]
  refine OkE.back (List.nil_sublist _) (OkE.nil (AC.subF (sL [1,4,5,20,21,22,7,26] O) (AC.in_normal (AC.then_ (AF.region ?_)))))
  refine AH (AW (c:=(2:Int)) O O (by decide)) O (AM O (AE.nil (AC.subF (sL [1,4,5,20,21,22,7,26] O) (AC.again (FP.step ?_)))))
  refine q4 (AH (Ae (c:=true) O O (by decide)) O (AE.nil (q1 (AF.cond_true O (AF.skip ?_)))))
  refine q1 (AF.block (q4 (AM O (asg' O (q6 (sL [1,4,5,20,21,22,7,26,8] O) ?_)))))
  refine Cd [(0,true),(1,true),(2,true),(3,true),(4,true),(5,true),(6,true),(7,true),(8,true),(9,true)] sr (Bb O (Aq (v:=(pP b2 2)) O (AD (j:=2) O O underlying53 sizeOf3 O (by decide) O) (Bd 0 (vN T.2.2) Bj O (Bb O (Aq O (AW (c:=(3:Int)) O O (by decide)) ?_)))))
  refine Aq O (Bs (c:=(0:Int)) O O (by decide) (by decide)) (Aq (v:=(pP b2 0)) O (AD (j:=0) O O underlying53 sizeOf3 O (by decide) O) (Bd 0 (vN T.1) Bj O (pS' O (pS' O (OkE.nil ?_)))))
  refine AC.subF (sL [1,4,5,20,21,22,7,26,9,10] O) (AC.then_ ?_)
  obtain ⟨vq3,hvq3⟩:∃q,q=(BZ (Cz ts (3*t+2)) ((min T.2.2 T.1,max T.2.2 T.1):P2)).getD 0:=⟨_,rfl⟩
  refine cI [(0,true),(1,true),(2,true),(3,true),(4,true),(5,true),(6,true),(7,true),(8,true),(9,true),(10,false),(11,true)] 12 [] (cc 1 (x:=((min T.2.2 T.1,max T.2.2 T.1):P2)) (v:=vq3) O O) (List.nil_sublist _) (by kernel_rfl) (λ_ _ d _ _ h=>by cases d<;>exact h) (vM O O O (vM O O O (vM O O O (vE O (Gq (c:=((min T.2.2 T.1:Nat):Int)) O O (by split<;>omega)) O (vM O O O ?_)))))
  refine vM O O O (vE O (Fe (c:=((max T.2.2 T.1:Nat):Int)) O O (by split<;>omega)) O (vE (v:=(aG ([(vN (min T.2.2 T.1)),(vN (max T.2.2 T.1))]))) O (AV (zs:=BH ((0,0):P2)) (vs:=[(vN (min T.2.2 T.1)),(vN (max T.2.2 T.1))]) (pv:=[(0,(vN (min T.2.2 T.1))),(1,(vN (max T.2.2 T.1)))]) (places:=[(0,1),(1,1)]) zeroValue215 underlying215 (λw=>by simp [sizeOf3]) O O) O (vE (v:=(vN vq3)) O (Hh Hi 1 (kvs:=Cz ts (3*t+2)) (x:=((min T.2.2 T.1,max T.2.2 T.1):P2)) (z0:=0) O O underlying213 zeroValue3 O (FT hn hN _ Z) (D1 Z Z) hvq3) O ?_)))
  have hmq:=M9 (ts:=ts) (3*t+2) ((min T.2.2 T.1,max T.2.2 T.1):P2)
  refine vE O (AW (c:=((vq3+1:Nat):Int)) O O (AU (a:=vq3) (b:=1) Z)) O (CK.imp O (AE.mapEntry Hi 1 (kvs:=Cz ts (3*t+2)) (x:=((min T.2.2 T.1,max T.2.2 T.1):P2)) (z0:=0) (v:=vq3) O O underlying213 zeroValue3 O (FT hn hN _ Z) (D1 Z Z) hvq3 O (CK.backW (aN 1 O O) (vE O (Aa (v:=(vN (DG (Cz ts (3*t+2)) ((min T.2.2 T.1,max T.2.2 T.1):P2)))) O O) O (CK.cut O ?_)))))
  refine AE.entryStore 1 (kvs:=Cz ts (3*t+2)) (x:=((min T.2.2 T.1,max T.2.2 T.1):P2)) (u:=vq3) (y:=vq3+1) O O O O ?_
  rw [show Bn (Cz ts (3*t+2)) ((min T.2.2 T.1,max T.2.2 T.1):P2) (vq3+1)=Cz ts (3*t+3) from by rw [hvq3,hT];exact (I2 (ts:=ts) (t:=t) (i:=2) Z).symm]
  refine OkE.back (List.nil_sublist _) (OkE.nil (AC.subF (sL [1,4,5,20,21,22,7,26] O) (AC.in_normal (AC.then_ (AF.region ?_)))))
  refine AH (AW (c:=(3:Int)) O O (by decide)) O (AM O (AE.nil (AC.subF (sL [1,4,5,20,21,22,7,26] O) (AC.again (FP.step ?_)))))
  refine q4 (AH (Ae (c:=false) O O (by decide)) O (AE.nil (q1 (AF.cond_false O (AF.exit ?_)))))
  refine AC.then_exit (AC.then_exit (AC.in_exit (AC.in_normal (AC.then_ (AF.region ?_)))))
  refine AH (AW (c:=((t+1:Nat):Int)) O O (AU (a:=t) (b:=1) Z)) O (AM O (AE.nil (AC.subF (sL [1,4,5,20,21,22,7,26] O) ?_)))
  rw [show 3*t+3=3*(t+1)+0 by omega]
  exact AC.round1 (t+1) Z Z (sF O) (sl sr)
 ·replace hc1:=of_decide_eq_false hc1
  have htl:t=ts.length:=by omega
  refine AF.exit (AC.then_exit (AC.round1_exit (AC.in_exit (q2 (asg' O ?_)))))
  refine AE.nilRow 55 3 (AE.nil (q1 (q4 (AM O ?_))))
  rw [show Cz ts (3*t+0)=(Cz ts (3*ts.length)) by rw [htl,Nat.add_zero]]
  refine cX (S:=S) (cs:=rowsL Bo (BV ts)) (k:=(BV ts).length) (args:=[(Value.slice x.p ts.length x.c)]) call93 (λw hw=>UK ts x N hn hN hl w (inS hw 2 O lx)) O O O λo lo=>AH (v:=(vN ((BV ts).length))) (AG O underlying88) O (AM O (AE.nil (AC.subF (sL [1,4,5,20,21,22,11,52,53,54] O) (AC.then_ ?_))))
  refine AF.block ?_
  refine AF.lp4 (tg λ(i:Nat) (p1:Option Addr) (c1:Nat) (out:List T3)=>i<=(BV ts).length/\OwnOk p1 out.length c1/\out=If ts i) (tg λ(i:Nat) (p1:Option Addr) (c1:Nat) (out:List T3)=>[(4,(Value.slice none 0 0)),(5,(Value.map (some b1))),(52,(Value.slice o.p ((BV ts).length) o.c)),(53,(vN ((BV ts).length))),(54,(vN i)),(11,(Value.slice p1 out.length c1))]) (tg λ(i:Nat) (p1:Option Addr) (c1:Nat) (out:List T3)=>[AQ o.p (rowsL Bo (BV ts)),rowW p1 55 3 out.length c1 (rowsL Ai out),Dh b1 Jd vN (Cz ts (3*ts.length)),AQ x.p (rowsL Ai ts)]) (tg λ(i:Nat) (p1:Option Addr) (c1:Nat) (out:List T3)=>(BV ts).length-i) 0 none 0 ([]:List T3) (⟨Nat.zero_le _,OwnOk.none,rfl⟩) (sF O) sr (λi p1 c1 out hJ=>?_)
  obtain ⟨hi,ho,hou⟩:=hJ
  have hol:=O7 (ts:=ts) i
  rw [<-hou] at hol
  refine q4 (AH (Ae (c:=(decide (i<((BV ts).length)))) O O (CL (a:=i) (b:=(BV ts).length))) O (AE.nil (q1 ?_)))
  refine AF.cond O (λhc3=>?_) (λhc3=>?_)
  ·replace hc3:=of_decide_eq_true hc3
   have hel:=Jk (ts:=ts) (3*ts.length)
   rw [<-Jv] at hel
   have hmem:((BV ts).getD i (⟨0,0,0,0⟩:E4))∈BV ts:=by rw [List.getD,List.getElem?_eq_getElem hc3];exact List.getElem_mem hc3
   obtain ⟨hea,heb⟩:=Vf hn hN _ hmem
   refine AF.skip (q1 (AF.block (q4 (AH (v:=(pP (pB o.p) (pO o.p+i*4))) (AN (j:=i) O O o.ok underlying88 sizeOf91 O Z) O (AH (v:=(aG (Bo ((BV ts).getD i (⟨0,0,0,0⟩:E4))))) (AZ (vs:=Bo ((BV ts).getD i (⟨0,0,0,0⟩:E4))) (i:=0) O O (BF.ne o.ok Z) O6 (A7 Bw _ _ _ Z) (Bw _)) O ?_)))))
   refine al Wj O λb2=>A8 O sizeOf91 O (q3 (sL [4,5,52,53,54,11,13] O) (AM O (AH (v:=(pP b2 0)) (AA O underlying91 O sizeOf3 O) O (BA 0 (vN (((BV ts).getD i (⟨0,0,0,0⟩:E4)).a)) Bj O ?_))))
   refine AH (v:=(pP b2 1)) (AA O underlying91 O sizeOf3 O) O (BA 0 (vN (((BV ts).getD i (⟨0,0,0,0⟩:E4)).b)) Bj O (AH (v:=(aG ([(vN (((BV ts).getD i (⟨0,0,0,0⟩:E4)).a)),(vN (((BV ts).getD i (⟨0,0,0,0⟩:E4)).b))]))) (AV (zs:=BH ((0,0):P2)) (vs:=[(vN (((BV ts).getD i (⟨0,0,0,0⟩:E4)).a)),(vN (((BV ts).getD i (⟨0,0,0,0⟩:E4)).b))]) (pv:=[(0,(vN (((BV ts).getD i (⟨0,0,0,0⟩:E4)).a))),(1,(vN (((BV ts).getD i (⟨0,0,0,0⟩:E4)).b)))]) (places:=[(0,1),(1,1)]) zeroValue215 underlying215 (λw=>by simp [sizeOf3]) O O) O (AH (v:=(vN ((BZ (Cz ts (3*ts.length)) ((((BV ts).getD i (⟨0,0,0,0⟩:E4)).a,((BV ts).getD i (⟨0,0,0,0⟩:E4)).b):P2)).getD 0))) (HG Hi 3 (eV:=vN) (kvs:=(Cz ts (3*ts.length))) (x:=((((BV ts).getD i (⟨0,0,0,0⟩:E4)).a,((BV ts).getD i (⟨0,0,0,0⟩:E4)).b):P2)) (z0:=0) (co:=false) O O underlying213 zeroValue3 O (FT hn hN _ Z) (ZF Z Z)) O (AH (BL (c:=(decide (((BZ (Cz ts (3*ts.length)) ((((BV ts).getD i (⟨0,0,0,0⟩:E4)).a,((BV ts).getD i (⟨0,0,0,0⟩:E4)).b):P2)).getD 0)=1))) O O (Iv (a:=(BZ (Cz ts (3*ts.length)) ((((BV ts).getD i (⟨0,0,0,0⟩:E4)).a,((BV ts).getD i (⟨0,0,0,0⟩:E4)).b):P2)).getD 0) (b:=1))) O (AE.nil ?_)))))
   refine AC.subF (sL [4,5,52,53,54,11,13,65] O) (AC.then_ ?_)
   refine AF.cond O (λhc4=>?_) (λhc4=>?_)
   ·replace hc4:=of_decide_eq_true hc4
    refine AF.region (AM O (AH (v:=(pP b2 0)) (AA O underlying91 O sizeOf3 O) O (BA 0 (vN (((BV ts).getD i (⟨0,0,0,0⟩:E4)).a)) Bj O (AH (v:=(pP b2 1)) (AA O underlying91 O sizeOf3 O) O (BA 0 (vN (((BV ts).getD i (⟨0,0,0,0⟩:E4)).b)) Bj O ?_)))))
    refine AH (v:=(aG ([(vN (((BV ts).getD i (⟨0,0,0,0⟩:E4)).a)),(vN (((BV ts).getD i (⟨0,0,0,0⟩:E4)).b)),(vI 0)]))) (AV (zs:=Ai ((0,0,0):Nat×Nat×Nat)) (vs:=[(vN (((BV ts).getD i (⟨0,0,0,0⟩:E4)).a)),(vN (((BV ts).getD i (⟨0,0,0,0⟩:E4)).b)),(vI 0)]) (pv:=[(0,(vN (((BV ts).getD i (⟨0,0,0,0⟩:E4)).a))),(1,(vN (((BV ts).getD i (⟨0,0,0,0⟩:E4)).b)))]) (places:=[(0,1),(1,1),(2,1)]) zeroValue55 underlying55 (λw=>by simp [sizeOf3]) O O) O (AE.openV (V:=λb3=>(Value.slice (some ⟨b3,0,none⟩) 1 1)) (T:=55) (cs:=Ai (((BV ts).getD i (⟨0,0,0,0⟩:E4)).a,((BV ts).getD i (⟨0,0,0,0⟩:E4)).b,0)) (AS O) (Av (z:=.agg (Ai ((0,0,0):Nat×Nat×Nat)).toArray) (cs:=Ai (((BV ts).getD i (⟨0,0,0,0⟩:E4)).a,((BV ts).getD i (⟨0,0,0,0⟩:E4)).b,0)) (pv:=[(0,(aG ([(vN (((BV ts).getD i (⟨0,0,0,0⟩:E4)).a)),(vN (((BV ts).getD i (⟨0,0,0,0⟩:E4)).b)),(vI 0)])))]) underlying24 sizeOf55 zeroValue55 (by decide) (by decide) O (K2 (((BV ts).getD i (⟨0,0,0,0⟩:E4)).a,((BV ts).getD i (⟨0,0,0,0⟩:E4)).b,0))) O (AT O) λb3=>AE.appendAt 3 (j:=0) (cs2:=rowsL Ai (out++[(((BV ts).getD i (⟨0,0,0,0⟩:E4)).a,((BV ts).getD i (⟨0,0,0,0⟩:E4)).b,0)])) bN O ho (Ak Az _) O O O O O (by decide) (Hx Z) Z (by rw [BP];rfl) O λp_1 c_1 ho_1 hne_1=>asg' O (AE.nil (AC.subF (sL [4,5,52,53,54,11,13] O) ?_)))
    refine AC.in_normal (AC.then_ (AF.region (AH (AW (c:=((i+1:Nat):Int)) O O (AU (a:=i) (b:=1) Z)) O (AM O (AE.nil ?_)))))
    refine AC.subF (sL [4,5,52,53,54,11,13] O) ?_
    rw [show out.length+1=(out++[(((BV ts).getD i (⟨0,0,0,0⟩:E4)).a,((BV ts).getD i (⟨0,0,0,0⟩:E4)).b,0)]).length by simp]
    exact AC.round4 (i+1) p_1 c_1 (out++[(((BV ts).getD i (⟨0,0,0,0⟩:E4)).a,((BV ts).getD i (⟨0,0,0,0⟩:E4)).b,0)]) (⟨Z,(by simpa using ho_1),by rw [hou];exact (UO Z hc4).symm⟩) Z (sF O) (sl (sl sr))
   ·replace hc4:=of_decide_eq_false hc4
    refine AF.skip (AC.in_normal (AC.then_ (AF.region (AH (AW (c:=((i+1:Nat):Int)) O O (AU (a:=i) (b:=1) Z)) O (AM O ?_)))))
    exact AE.nil (AC.subF (sL [4,5,52,53,54,11,13] O) (AC.round4 (i+1) p1 c1 out (⟨Z,ho,by rw [hou];exact (Ys Z hc4).symm⟩) Z (sF O) (sl sr)))
  ·replace hc3:=of_decide_eq_false hc3
   refine AF.exit (AC.then_exit (AC.round4_exit (AC.in_exit (q2 (AM O ?_)))))
   exact ck' call44 (Vb p1 out.length c1 ho.row.le) O (asg' O (AE.nil (AC.subF (sL [4,5,52,53,54,11] O) (AC.then_ (AF.ret (AI O (AY (v:=(Value.slice p1 out.length out.length)) O) (λw hw=>(by rw [show Bi ts=out by rw [hou,show i=(BV ts).length by omega];rfl];exact ZK hw (OX.mk p1 c1 ho) (sl (sk (sl (sl sr)))) (RK.own O RK.nil) O))))))))
end
end Go.Proofs.YtpgncndhhhllfaaGreatDoor
