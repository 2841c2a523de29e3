import Derived.Test.YtcpkbjjmcleplaaGreatDoorPart43
import Derived.Test.YtcpkbjjmcleplaaGreatDoorPart44
namespace Go.Proofs.YtcpkbjjmcleplaaGreatDoor
open Go Go.RowKit Go.Proofs.Tryz
open Go.Value renaming slice→qz,bool→qa
set_option linter.unusedVariables false
set_option linter.unusedSimpArgs false
section
set_option maxRecDepth 100000
theorem X7:ElemT prog 183 84 3 56:=⟨underlying183,Cx jV⟩
theorem Ln  :Instr.fill ([(0,1),(1,3),(4,3)].toArray[·]?) ([(vI 0),(qa false),jj,jj,(qa false),jj,jj]).toArray []=some ([(vI 0),(qa false),jj,jj,(qa false),jj,jj]).toArray:=by kernel_rfl
set_option maxHeartbeats 4000000 in
theorem U0 {ps:List Pt} {ts:List T3} {ss:List Z3} (x:PJ ps ts ss) {u v:Pt} (a:PX u) (b:PX v) (t:Nat) (ht:t<ts.length) (hnb:Ek ps.length ts=true) (hz:∀k,BO (BU ps k)<=6) (hu:BO u<=6) (hv:BO v<=6) (w:World) {S:Nat->Prop} (ha:Ro S w a) (hb:Ro S w b) (hx:Ro S w x):Calls prog 55 #[(aG (E6 x)),(vN t),(aG (Ae a)),(aG (Ae b))] w (Aj (VP t (TE Dj Dk (BU ps (ts.getD t (0,0,0)).1) (BU ps (ts.getD t (0,0,0)).2.1) (BU ps (ts.getD t (0,0,0)).2.2) u v)) S w):=by
 have z2z:Sz ((2:Int):Rat)<=8:=by decide +kernel
 have hzk:∀k,BO (BU ps k)<=1000:=λk=>xK (hz k) jY
 have la:=Bx (W:=w) ha
 have lb:=Bx (W:=w) hb
 have lx:=Bx (W:=w) hx
 refine AZ (args:=[(aG (E6 x)),(vN t),(aG (Ae a)),(aG (Ae b))]) (L:=(AM a.x.z.n::AM a.x.m::AM a.y.z.n::AM a.y.m::AM b.x.z.n::AM b.x.m::AM b.y.z.n::AM b.y.m::AI x.a.p (rowsL EE x.rs)::AI x.b.p (rowsL BC ts)::AI x.c.p (rowsL Bn ss)::(Jg ([]:List FS)++DJ x.rs))) func55 O O (leB O) (Fc ha (Fc hb (YZ hx))) (zI (sL [0,1,2,3] O) (q4 (BH (cs:=E6 x) O λb1=>BH (cs:=Ae a) O λb2=>BH (cs:=Ae b) O λb3=>al de O λb4=>asg' O (q3 (sL [1,4,6,7,8,9] O) (asg' O (zm 84 3 (oNl' ?_)))))))
 refine q1 (q4 (Af 4 Ey O (AK O (Af 3 Ar O (CQ call52 (λw hw=>MW x a t ht hnb hzk Z w (inS hw 5 O la) (P_ hw 13 O 16 O lx)) O (st' (CC (c:=(decide (0<(BZ ps u (ts.getD t (0,0,0)))))) O O (DE (a:=0) (b:=BZ ps u (ts.getD t (0,0,0))))) O (oNl' (zB (sL [1,4,6,7,8,9,10,21] O) (zA ?_)))))))))
 refine yo (tg λ(p0:Option Addr) (c0:Nat) (r0s:List FS)=>OwnOk p0 r0s.length c0/\r0s.map (·.q)=(if 0<CG (BU ps (ts.getD t (0,0,0)).1) (BU ps (ts.getD t (0,0,0)).2.1) (BU ps (ts.getD t (0,0,0)).2.2) u then [(0:Rat)] else [])/\(∀y∈Jg r0s,∀b,y.foot=some b->Nw ⟨w,none⟩ S b)/\(∀r∈r0s,Sz (FS.q r)<=346)/\r0s.length<=1) (tg λ(p0:Option Addr) (c0:Nat) (r0s:List FS)=>[(1,(vN t)),(4,(pP b1 0)),(6,(pP b2 0)),(7,(pP b3 0)),(8,(pP b4 0)),(9,(qa false)),(10,(qz p0 r0s.length c0))]) (tg λ(p0:Option Addr) (c0:Nat) (r0s:List FS)=>(rowW p0 84 3 r0s.length c0 (rowsL Qv r0s)::AO b4 93 ([(vI 0),(qa false),jj,jj,(qa false),jj,jj])::AO b3 86 (Ae b)::AO b2 86 (Ae a)::AO b1 42 (E6 x)::AM a.x.z.n::AM a.x.m::AM a.y.z.n::AM a.y.m::AM b.x.z.n::AM b.x.m::AM b.y.z.n::AM b.y.m::AI x.a.p (rowsL EE x.rs)::AI x.b.p (rowsL BC ts)::AI x.c.p (rowsL Bn ss)::(Jg r0s++DJ x.rs))) ?_ ?_
 ·refine zK O (λhc0=>?_) (λhc0=>?_)
  ·replace hc0:=xR hc0
   refine zH (AK O (cF (S:=S) (x:=(((0:Int):Int):Rat)) (args:=[(vI 0)]) call98 (λw hw=>IF (0:Int) Z Z w) O O O λg1 lg1=>zZ (V:=λb5=>(qz (jk b5) 1 1)) (T:=84) (cs:=fxL g1) (AG O) (Ai (z:=.agg #[(qa false),jj,jj]) (cs:=fxL g1) (pv:=[(0,(aG (fxL g1)))]) underlying183 sizeOf84 zeroValue84 jY jY O (RS g1)) O (leB O) λb5=>zj 3 (j:=0) (cs2:=rowsL Qv (([]:List FS)++[(⟨_,g1⟩:FS)])) X7 O OwnOk.none O O O O O O jY (GC Z) Z (by rw [Aw];rfl) O λp_1 c_1 ho_1 hne_1=>yU (sl sr) (yS (show List.Perm _ (rowW p_1 84 3 (0+1) c_1 (rowsL Qv (([]:List FS)++[(⟨_,g1⟩:FS)]))::AO b4 93 ([(vI 0),(qa false),jj,jj,(qa false),jj,jj])::AO b3 86 (Ae b)::AO b2 86 (Ae a)::AO b1 42 (E6 x)::AM a.x.z.n::AM a.x.m::AM a.y.z.n::AM a.y.m::AM b.x.z.n::AM b.x.m::AM b.y.z.n::AM b.y.m::AI x.a.p (rowsL EE x.rs)::AI x.b.p (rowsL BC ts)::AI x.c.p (rowsL Bn ss)::(Jg (([]:List FS)++[(⟨_,g1⟩:FS)])++DJ x.rs)) from Ru (⟨_,g1⟩:FS) [rowW p_1 84 3 (0+1) c_1 (rowsL Qv (([]:List FS)++[(⟨_,g1⟩:FS)])),AO b4 93 ([(vI 0),(qa false),jj,jj,(qa false),jj,jj]),AO b3 86 (Ae b),AO b2 86 (Ae a),AO b1 42 (E6 x),AM a.x.z.n,AM a.x.m,AM a.y.z.n,AM a.y.m,AM b.x.z.n,AM b.x.m,AM b.y.z.n,AM b.y.m,AI x.a.p (rowsL EE x.rs),AI x.b.p (rowsL BC ts),AI x.c.p (rowsL Bn ss)] ([]:List FS) (DJ x.rs)) (asg' O (oNl' (zB (sL [1,4,6,7,8,9,10] O) ?_))))))
   rw [show (0:Nat)+1=(([]:List FS)++[(⟨_,g1⟩:FS)]).length by simp]
   exact yI p_1 c_1 (([]:List FS)++[(⟨_,g1⟩:FS)]) (⟨(by simpa using ho_1),(by rw [if_pos (c:=0<CG _ _ _ u) hc0];rfl),AtF.snoc (λy hy=>by cases hy) lg1,(λr hr=>by rw [xM.1 hr];show Sz ((0:Int):Rat)<=346;decide +kernel),Nat.le_refl 1⟩) (sF O) sr
  ·replace hc0:=xQ hc0
   exact zG (yI none 0 ([]:List FS) (⟨OwnOk.none,(by rw [if_neg (c:=0<CG _ _ _ u) (show ¬0<BZ ps u (ts.getD t (0,0,0)) by omega)];rfl),(λy hy=>by cases hy),(λr hr=>by cases hr),jY⟩) (sF O) sr)
 ·intro p0 c0 r0s hJ
  obtain ⟨o0,e0,h0t,z0s,n0⟩:=hJ
  refine q1 (q4 (Af 4 Ey O (AK O (Af 2 Ar O (CQ call52 (λw hw=>MW x b t ht hnb hzk Z w (inS hw 9 O lb) (P_ hw 13 O 16 O lx)) O (st' (CC (c:=(decide (0<(BZ ps v (ts.getD t (0,0,0)))))) O O (DE (a:=0) (b:=BZ ps v (ts.getD t (0,0,0))))) O (oNl' (zB (sL [1,4,6,7,8,9,10,30] O) (zA ?_)))))))))
  refine yo (tg λ(p1:Option Addr) (c1:Nat) (r1s:List FS)=>OwnOk p1 r1s.length c1/\r1s.map (·.q)=e9 (BU ps (ts.getD t (0,0,0)).1) (BU ps (ts.getD t (0,0,0)).2.1) (BU ps (ts.getD t (0,0,0)).2.2) u v/\(∀y∈Jg r1s,∀b,y.foot=some b->Nw ⟨w,none⟩ S b)/\(∀r∈r1s,Sz (FS.q r)<=346)/\r1s.length<=2) (tg λ(p1:Option Addr) (c1:Nat) (r1s:List FS)=>[(1,(vN t)),(4,(pP b1 0)),(6,(pP b2 0)),(7,(pP b3 0)),(8,(pP b4 0)),(9,(qa false)),(10,(qz p1 r1s.length c1))]) (tg λ(p1:Option Addr) (c1:Nat) (r1s:List FS)=>(rowW p1 84 3 r1s.length c1 (rowsL Qv r1s)::AO b4 93 ([(vI 0),(qa false),jj,jj,(qa false),jj,jj])::AO b3 86 (Ae b)::AO b2 86 (Ae a)::AO b1 42 (E6 x)::AM a.x.z.n::AM a.x.m::AM a.y.z.n::AM a.y.m::AM b.x.z.n::AM b.x.m::AM b.y.z.n::AM b.y.m::AI x.a.p (rowsL EE x.rs)::AI x.b.p (rowsL BC ts)::AI x.c.p (rowsL Bn ss)::(Jg r1s++DJ x.rs))) ?_ ?_
  ·refine zK O (λhc1=>?_) (λhc1=>?_)
   ·replace hc1:=xR hc1
    refine zH (AK O (cF (S:=S) (x:=(((1:Int):Int):Rat)) (args:=[(vI 1)]) call98 (λw hw=>IF (1:Int) Z Z w) O O O λg2 lg2=>zZ (V:=λb5=>(qz (jk b5) 1 1)) (T:=84) (cs:=fxL g2) (AG O) (Ai (z:=.agg #[(qa false),jj,jj]) (cs:=fxL g2) (pv:=[(0,(aG (fxL g2)))]) underlying183 sizeOf84 zeroValue84 jY jY O (RS g2)) O (leB O) λb5=>zj 3 (j:=0) (cs2:=rowsL Qv (r0s++[(⟨_,g2⟩:FS)])) X7 O o0 (AT Cc _) O O O O O jY (GC Z) Z (by rw [Aw];rfl) O λp_2 c_2 ho_2 hne_2=>yU (sl sr) (yS (show List.Perm _ (rowW p_2 84 3 (r0s.length+1) c_2 (rowsL Qv (r0s++[(⟨_,g2⟩:FS)]))::AO b4 93 ([(vI 0),(qa false),jj,jj,(qa false),jj,jj])::AO b3 86 (Ae b)::AO b2 86 (Ae a)::AO b1 42 (E6 x)::AM a.x.z.n::AM a.x.m::AM a.y.z.n::AM a.y.m::AM b.x.z.n::AM b.x.m::AM b.y.z.n::AM b.y.m::AI x.a.p (rowsL EE x.rs)::AI x.b.p (rowsL BC ts)::AI x.c.p (rowsL Bn ss)::(Jg (r0s++[(⟨_,g2⟩:FS)])++DJ x.rs)) from Ru (⟨_,g2⟩:FS) [rowW p_2 84 3 (r0s.length+1) c_2 (rowsL Qv (r0s++[(⟨_,g2⟩:FS)])),AO b4 93 ([(vI 0),(qa false),jj,jj,(qa false),jj,jj]),AO b3 86 (Ae b),AO b2 86 (Ae a),AO b1 42 (E6 x),AM a.x.z.n,AM a.x.m,AM a.y.z.n,AM a.y.m,AM b.x.z.n,AM b.x.m,AM b.y.z.n,AM b.y.m,AI x.a.p (rowsL EE x.rs),AI x.b.p (rowsL BC ts),AI x.c.p (rowsL Bn ss)] r0s (DJ x.rs)) (asg' O (oNl' (zB (sL [1,4,6,7,8,9,10] O) ?_))))))
    rw [show r0s.length+1=(r0s++[(⟨_,g2⟩:FS)]).length by simp]
    exact yI p_2 c_2 (r0s++[(⟨_,g2⟩:FS)]) (⟨(by simpa using ho_2),(by rw [List.map_append,e0];unfold e9;rw [if_pos (c:=0<CG _ _ _ v) hc1];rfl),AtF.snoc h0t lg2,(λr hr=>(List.mem_append.1 hr).elim (z0s r) (λh=>by rw [xM.1 h];show Sz ((1:Int):Rat)<=346;decide +kernel)),(by rw [xJ,List.length_singleton];omega)⟩) (sF O) sr
   ·replace hc1:=xQ hc1
    exact zG (yI p0 c0 r0s (⟨o0,(by rw [e0];unfold e9;rw [if_neg (c:=0<CG _ _ _ v) (show ¬0<BZ ps v (ts.getD t (0,0,0)) by omega),List.append_nil]),h0t,z0s,Z⟩) (sF O) sr)
  ·intro p1 c1 r1s hJ
   obtain ⟨o1,e1,h1t,z1s,n1⟩:=hJ
   refine q1 (q4 (asg' O (oNl' (zA (zM ?_)))))
   refine yX (tg λ(i:Nat) (p2:Option Addr) (c2:Nat) (rs:List FS)=>i<=3/\OwnOk p2 rs.length c2/\rs.map (·.q)++Ss Dj Dk ps (ts.getD t (0,0,0)) u v (3-i)=Im Dj Dk (BU ps (ts.getD t (0,0,0)).1) (BU ps (ts.getD t (0,0,0)).2.1) (BU ps (ts.getD t (0,0,0)).2.2) u v/\(∀y∈Jg rs,∀b,y.foot=some b->Nw ⟨w,none⟩ S b)/\(∀r∈rs,Sz (FS.q r)<=346)/\rs.length<=2+i) (tg λ(i:Nat) (p2:Option Addr) (c2:Nat) (rs:List FS)=>[(1,(vN t)),(4,(pP b1 0)),(6,(pP b2 0)),(7,(pP b3 0)),(8,(pP b4 0)),(9,(qa false)),(11,(vN i)),(10,(qz p2 rs.length c2))]) (tg λ(i:Nat) (p2:Option Addr) (c2:Nat) (rs:List FS)=>(rowW p2 84 3 rs.length c2 (rowsL Qv rs)::AO b4 93 ([(vI 0),(qa false),jj,jj,(qa false),jj,jj])::AO b3 86 (Ae b)::AO b2 86 (Ae a)::AO b1 42 (E6 x)::AM a.x.z.n::AM a.x.m::AM a.y.z.n::AM a.y.m::AM b.x.z.n::AM b.x.m::AM b.y.z.n::AM b.y.m::AI x.a.p (rowsL EE x.rs)::AI x.b.p (rowsL BC ts)::AI x.c.p (rowsL Bn ss)::(Jg rs++DJ x.rs))) (tg λ(i:Nat) (p2:Option Addr) (c2:Nat) (rs:List FS)=>3-i) 0 p1 c1 r1s (⟨Z,o1,(by rw [e1];exact cz),h1t,z1s,n1⟩) (sF O) sr (λi p2 c2 rs hJ=>?_)
   obtain ⟨hi,ho,er,hat,hsz,hrl⟩:=hJ
   refine zS (q4 (AK O (st' (Aa (c:=(decide (i<3))) O O (DE (a:=i) (b:=3))) O (oNl' (zB (sL [1,4,6,7,8,9,11,10,36] O) (zA ?_))))))
   refine zK O (λhc2=>?_) (λhc2=>?_)
   ·replace hc2:=xR hc2
    refine zG (q1 (zM (zS (rN [(0,true),(1,true),(2,true),(3,true),(4,true),(6,true),(7,true),(8,true),(9,true),(10,true),(5,false),(11,false),(12,false),(13,true),(14,true),(15,true)] [⟨16,13,86,[(qa false),jj,jj,(qa false),jj,jj]⟩] [(17,true),(18,false)] sr jV (λ_ _ d _ _ h=>by cases d<;>exact h) (GD O O Ja O (GP)) O (En 3 Ar O (En 2 Ar O (En 4 Ey O (Kb O (Kb O (En 4 Ey O (Kb O ?_)))))))))))
    refine Kb O (HZ O (AX (c:=((i+1:Nat):Int)) O O (AU (a:=i) (b:=1) Z)) O (HZ O (Cz (c:=(((i+1)%3:Nat):Int)) O O Z (HD (a:=i+1) (b:=3))) O (zf O λEF EL=>cP (S:=S) (x:=(BU ps (It (ts.getD t (0,0,0)) i))) (args:=[(aG (E6 x)),(vN t),(vN i)]) call95 (λw hw=>Ge x t i ht Z hnb w (Za hw 13 O (λz hz=>List.mem_of_mem_drop (i:=16) (show z∈(Jg rs++DJ x.rs)++EL from xF EL (xG _ hz))) lx)) O O O λg3 lg3=>yc (sl (sl (sl (sl sr)))) O (zf O λEF EL=>cP (S:=S) (x:=(BU ps (It (ts.getD t (0,0,0)) ((i+1)%3)))) (args:=[(aG (E6 x)),(vN t),(vN ((i+1)%3))]) call95 (λw hw=>Ge x t ((i+1)%3) ht Z hnb w (Za hw 17 O (λz hz=>List.mem_of_mem_drop (i:=20) (show z∈(Jg rs++DJ x.rs)++EL from xF EL (xG _ hz))) lx)) O O O λg4 lg4=>yc (sl (sl (sl (sl (sl (sl (sl (sl sr)))))))) O (zf O λEF EL=>zw (S:=S) (α:=Qu (V9 ps (ts.getD t (0,0,0)) u v i).1 (V9 ps (ts.getD t (0,0,0)) u v i).2) (args:=[(aG (Ae a)),(aG (Ae b)),(aG (Ae g3)),(aG (Ae g4))]) call99 (λw hw=>aK a b g3 g4 (by have q1:=hz ((It (ts.getD t (0,0,0)) i));have q2:=hz (It (ts.getD t (0,0,0)) ((i+1)%3));omega) w (inS hw 13 O la) (inS hw 17 O lb) (inS hw 4 O lg3) (inS hw 0 O lg4)) O O O λct lct=>yc (sl (sl (sl (sl (sl (sl (sl (sl (sl (sl (sl (sl sr)))))))))))) O ?_)))))
    refine Kb O (HZ O (AJ (v:=(vN ((V9 ps (ts.getD t (0,0,0)) u v i).1))) O O) O (HZ O (AJ (v:=(aG (Ae ct.x))) O O) O (zx λb5=>pS' O (zD O (An O sizeOf86 O (zC (sl (sl (sl (sl (sl (sl (sl (sl (sl (sl (sl (sl (sl sr))))))))))))) (zP (zB (sL [1,4,6,7,8,9,11,10,13,12] O) (q2 (AK O ?_))))))))))
    refine st' (Au (c:=(decide (((V9 ps (ts.getD t (0,0,0)) u v i).1)=1))) O O (K0 (a:=(V9 ps (ts.getD t (0,0,0)) u v i).1) (b:=1))) O (oNl' (zB (sL [1,4,6,7,8,9,11,10,13,56] O) (zA ?_)))
    refine zK O (λhc3=>?_) (λhc3=>?_)
    ·replace hc3:=xR hc3
     refine zH (AK O (Af 16 Ar O (Af 15 Ar O (Af 0 Ar O (cF (S:=S) (x:=(NL u v ((V9 ps (ts.getD t (0,0,0)) u v i).2))) (args:=[(aG (Ae a)),(aG (Ae b)),(aG (Ae ct.x))]) call100 (λw hw=>R2 a b ct.x (by have q1:=OM (f:=Dj) (g:=Dk) hu hv (hz (It (ts.getD t (0,0,0)) i)) (hz (It (ts.getD t (0,0,0)) ((i+1)%3)));have q2:BO (V9 ps (ts.getD t (0,0,0)) u v i).2<=126:=q1;omega) w (inS hw 18 O la) (inS hw 22 O lb) (show Ro _ w ct.x from inS (a:=ct) hw 1 O lct)) O O O λg5 lg5=>zZ (V:=λb6=>(qz (jk b6) 1 1)) (T:=84) (cs:=fxL g5) (AG O) (Ai (z:=.agg #[(qa false),jj,jj]) (cs:=fxL g5) (pv:=[(0,(aG (fxL g5)))]) underlying183 sizeOf84 zeroValue84 jY jY O (RS g5)) O (leB O) λb6=>zj 16 (j:=0) (cs2:=rowsL Qv (rs++[(⟨_,g5⟩:FS)])) X7 O ho (AT Cc _) O O O O O jY (GC Z) Z (by rw [Aw];rfl) O λp_3 c_3 ho_3 hne_3=>yU (sl sr) (yS (show List.Perm _ (AO b5 86 (Ae ct.x)::AM ct.x.x.z.n::AM ct.x.x.m::AM ct.x.y.z.n::AM ct.x.y.m::AM g4.x.z.n::AM g4.x.m::AM g4.y.z.n::AM g4.y.m::AM g3.x.z.n::AM g3.x.m::AM g3.y.z.n::AM g3.y.m::rowW p_3 84 3 (rs.length+1) c_3 (rowsL Qv (rs++[(⟨_,g5⟩:FS)]))::AO b4 93 ([(vI 0),(qa false),jj,jj,(qa false),jj,jj])::AO b3 86 (Ae b)::AO b2 86 (Ae a)::AO b1 42 (E6 x)::AM a.x.z.n::AM a.x.m::AM a.y.z.n::AM a.y.m::AM b.x.z.n::AM b.x.m::AM b.y.z.n::AM b.y.m::AI x.a.p (rowsL EE x.rs)::AI x.b.p (rowsL BC ts)::AI x.c.p (rowsL Bn ss)::(Jg (rs++[(⟨_,g5⟩:FS)])++DJ x.rs)) from Ru (⟨_,g5⟩:FS) [AO b5 86 (Ae ct.x),AM ct.x.x.z.n,AM ct.x.x.m,AM ct.x.y.z.n,AM ct.x.y.m,AM g4.x.z.n,AM g4.x.m,AM g4.y.z.n,AM g4.y.m,AM g3.x.z.n,AM g3.x.m,AM g3.y.z.n,AM g3.y.m,rowW p_3 84 3 (rs.length+1) c_3 (rowsL Qv (rs++[(⟨_,g5⟩:FS)])),AO b4 93 ([(vI 0),(qa false),jj,jj,(qa false),jj,jj]),AO b3 86 (Ae b),AO b2 86 (Ae a),AO b1 42 (E6 x),AM a.x.z.n,AM a.x.m,AM a.y.z.n,AM a.y.m,AM b.x.z.n,AM b.x.m,AM b.y.z.n,AM b.y.m,AI x.a.p (rowsL EE x.rs),AI x.b.p (rowsL BC ts),AI x.c.p (rowsL Bn ss)] rs (DJ x.rs)) (asg' O (oNl' ?_))))))))
     refine zB (sL [1,4,6,7,8,9,11,10,13] O) (zJ (zA (zH (AK O (st' (AX (c:=((i+1:Nat):Int)) O O (AU (a:=i) (b:=1) Z)) O (asg' O (oNl' (zB (sL [1,4,6,7,8,9,11,10,13] O) ?_))))))))
     rw [show rs.length+1=(rs++[(⟨_,g5⟩:FS)]).length by simp]
     exact zr (i+1) p_3 c_3 (rs++[(⟨_,g5⟩:FS)]) (⟨Z,(by simpa using ho_3),(by rw [List.map_append];exact eH Z er hc3),AtF.snoc hat lg5,(λr hr=>(List.mem_append.1 hr).elim (hsz r) (λh=>by rw [xM.1 h];exact S9 hu hv (OM hu hv (hz (It (ts.getD t (0,0,0)) i)) (hz (It (ts.getD t (0,0,0)) ((i+1)%3)))))),(by rw [xJ,List.length_singleton];omega)⟩) Z (sF O) (sl (sl (sl (sl (sl (sl (sl (sl (sl (sl (sl (sl (sl sr)))))))))))))
    ·replace hc3:=xQ hc3
     exact zG (zJ (zA (zH (AK O (st' (AX (c:=((i+1:Nat):Int)) O O (AU (a:=i) (b:=1) Z)) O (asg' O (oNl' (zB (sL [1,4,6,7,8,9,11,10,13] O) (zr (i+1) p2 c2 rs (⟨Z,ho,eG Z er hc3,hat,hsz,Z⟩) Z (sF O) (sl (sl (sl (sl (sl (sl (sl (sl (sl (sl (sl (sl (sl sr))))))))))))))))))))))
   ·replace hc2:=xQ hc2
    have hpk:rs.map (·.q)=Im Dj Dk (BU ps (ts.getD t (0,0,0)).1) (BU ps (ts.getD t (0,0,0)).2.1) (BU ps (ts.getD t (0,0,0)).2.2) u v:=by rw [<-er,show i=3 by omega];exact (List.append_nil _).symm
    have hpl:rs.length=(Im Dj Dk (BU ps (ts.getD t (0,0,0)).1) (BU ps (ts.getD t (0,0,0)).2.1) (BU ps (ts.getD t (0,0,0)).2.2) u v).length:=by rw [<-hpk,xI]
    refine zW (zO (z7 (zR (q1 (q4 (AK O (st' (v:=(vN rs.length)) (AD O underlying183) O (st' (Au (c:=(decide (rs.length=0))) O O (K0 (a:=rs.length) (b:=0))) O (oNl' (zB (sL [1,4,6,7,8,9,11,10,66] O) (zA ?_)))))))))))
    refine zK O (λhc4=>?_) (λhc4=>?_)
    ·replace hc4:=xR hc4
     have hpn:Im Dj Dk (BU ps (ts.getD t (0,0,0)).1) (BU ps (ts.getD t (0,0,0)).2.1) (BU ps (ts.getD t (0,0,0)).2.2) u v=[]:=by rw [<-hpk,List.length_eq_zero_iff.1 (show rs.length=0 by omega)];rfl
     exact q4 (st' (v:=(aG ([(vI 0),(qa false),jj,jj,(qa false),jj,jj]))) (AS (zs:=[(vI 0),(qa false),jj,jj,(qa false),jj,jj]) (vs:=[(vI 0),(qa false),jj,jj,(qa false),jj,jj]) (pv:=[]) (places:=[(0,1),(1,3),(4,3)]) zeroValue93 underlying93 (λw=>by simp [sizeOf3,sizeOf84]) O (Ln )) O (DK O sizeOf93 O (asg' O (oNl' (zB (sL [1,4,6,7,8,9,11,10] O) (zA (zF (zL (Bl O (Ab (i:=1) (cs:=[(vI 0),(qa false),jj,jj,(qa false),jj,jj]) O O isAgg93 sizeOf93 O) (rd_tmp (v:=(qa false)) O) (λw hw=>(VP.cast (K7 hpn).symm (DU (a:=(⟨0,(λh=>by cases h),FX.zero,FX.zero⟩:VP t (0,0,false))) hw (fJ (bU (dx MT) MT) (bU (dx MT) MT)) O))))))))))))
    ·replace hc4:=xQ hc4
     refine zG (q1 (B9 (EV 8++[(8,false),(9,false)]) sr (Bi O (Bi O (Am (v:=(pP (pB p2) (pO p2+0*3))) O (AQ (j:=0) O O ho.row underlying183 sizeOf84 O Z) (Am (v:=(aG (fxL ((rs.getD 0 C4).f)))) O (BB (vs:=fxL ((rs.getD 0 C4).f)) (i:=0) O O ho (AT Cc _) (BG.ne ho.row Z) Br (BE Cc C4 _ _ Z) (Cc _)) (Bi O (Am (v:=(pP (pB p2) (pO p2+0*3))) O (AQ (j:=0) O O ho.row underlying183 sizeOf84 O Z) (Am (v:=(aG (fxL ((rs.getD 0 C4).f)))) O (BB (vs:=fxL ((rs.getD 0 C4).f)) (i:=0) O O ho (AT Cc _) (BG.ne ho.row Z) Br (BE Cc C4 _ _ Z) (Cc _)) (Am (v:=(aG ([(vN t)]++fxL ((rs.getD 0 C4).f)++fxL ((rs.getD 0 C4).f)))) O (AS (zs:=[(vI 0),(qa false),jj,jj,(qa false),jj,jj]) (vs:=[(vN t)]++fxL ((rs.getD 0 C4).f)++fxL ((rs.getD 0 C4).f)) (pv:=[(0,(vN t)),(1,(aG (fxL ((rs.getD 0 C4).f)))),(2,(aG (fxL ((rs.getD 0 C4).f))))]) (places:=[(0,1),(1,3),(4,3)]) zeroValue93 underlying93 (λw=>by simp [sizeOf3,sizeOf84]) O O) (zD O ?_)))))))))))
     refine al de O λb5=>zC (sl sr) (zD O (An O sizeOf93 O (zC (sl sr) (zP (zB (sL [1,4,6,7,8,9,11,10,14] O) (q1 (q4 (asg' O (oNl' (zA ?_))))))))))
     refine zM ?_
     refine yM (tg λ(j:Nat) (lo:Nat) (hi:Nat)=>j<rs.length/\lo<rs.length/\hi<rs.length/\(rs.getD lo C4).q=VR (Im Dj Dk (BU ps (ts.getD t (0,0,0)).1) (BU ps (ts.getD t (0,0,0)).2.1) (BU ps (ts.getD t (0,0,0)).2.2) u v) j/\(rs.getD hi C4).q=VS (Im Dj Dk (BU ps (ts.getD t (0,0,0)).1) (BU ps (ts.getD t (0,0,0)).2.1) (BU ps (ts.getD t (0,0,0)).2.2) u v) j) (tg λ(j:Nat) (lo:Nat) (hi:Nat)=>[(1,(vN t)),(4,(pP b1 0)),(6,(pP b2 0)),(7,(pP b3 0)),(8,(pP b4 0)),(9,(qa false)),(10,(qz p2 rs.length c2)),(14,(pP b5 0)),(15,(vN (j+1)))]) (tg λ(j:Nat) (lo:Nat) (hi:Nat)=>(AO b5 93 ([(vN t)]++fxL ((rs.getD lo C4).f)++fxL ((rs.getD hi C4).f))::rowW p2 84 3 rs.length c2 (rowsL Qv rs)::AO b4 93 ([(vI 0),(qa false),jj,jj,(qa false),jj,jj])::AO b3 86 (Ae b)::AO b2 86 (Ae a)::AO b1 42 (E6 x)::AM a.x.z.n::AM a.x.m::AM a.y.z.n::AM a.y.m::AM b.x.z.n::AM b.x.m::AM b.y.z.n::AM b.y.m::AI x.a.p (rowsL EE x.rs)::AI x.b.p (rowsL BC ts)::AI x.c.p (rowsL Bn ss)::(Jg rs++DJ x.rs))) (tg λ(j:Nat) (lo:Nat) (hi:Nat)=>rs.length-j) 0 0 0 (⟨Z,Z,Z,KP hpk Z,KP hpk Z⟩) (sF O) sr (λj lo hi hJ=>?_)
     obtain ⟨hj,hlo,hhi,kl,kh⟩:=hJ
     have szlo:=VA hsz hlo
     have szhi:=VA hsz hhi
     refine zS (q4 (AK O (AK O (st' (v:=(vN rs.length)) (AD O underlying183) O (st' (Aa (c:=(decide ((j+1)<rs.length))) O O (DE (a:=j+1) (b:=rs.length))) O (oNl' (zB (sL [1,4,6,7,8,9,10,14,15,79] O) (zA ?_))))))))
     refine zK O (λhc5=>?_) (λhc5=>?_)
     ·replace hc5:=xR hc5
      refine zG (q1 (zM (zS (zS (B9 (EV 6++[(6,false),(7,true)]) sr (Bi O (Bi O (Am (v:=(pP (pB p2) (pO p2+(j+1)*3))) O (AQ (j:=j+1) O O ho.row underlying183 sizeOf84 O Z) (Am (v:=(aG (fxL ((rs.getD (j+1) C4).f)))) O (BB (vs:=fxL ((rs.getD (j+1) C4).f)) (i:=1) O O ho (AT Cc _) (BG.ne ho.row Z) Br (BE Cc C4 _ _ Z) (Cc _)) (Am (v:=(pP b5 1)) O (AA O underlying93 O sizeOf84 O) (Dz 0 (fxL ((rs.getD lo C4).f)) Br O ?_)))))))))))
      refine zD O (CQ call56 (λw hw=>GJ ((rs.getD (j+1) C4).f) ((rs.getD lo C4).f) (by have s5:=VA hsz (show j+1<rs.length by omega);first|omega|(have s6:=VA hsz l2b;omega)) w (KR hw 17 O Z hat) (KR hw 17 O Z hat)) O (zC sr (Am O (Aa (c:=(decide ((BR ((rs.getD (j+1) C4).q) ((rs.getD lo C4).q))<(0:Int)))) O O O) (zP (zB (sL [1,4,6,7,8,9,10,14,15,89] O) (zA ?_))))))
      refine yL (tg λ(l2:Nat)=>l2<rs.length/\(rs.getD l2 C4).q=VR (Im Dj Dk (BU ps (ts.getD t (0,0,0)).1) (BU ps (ts.getD t (0,0,0)).2.1) (BU ps (ts.getD t (0,0,0)).2.2) u v) (j+1)) (tg λ(l2:Nat)=>[(1,(vN t)),(4,(pP b1 0)),(6,(pP b2 0)),(7,(pP b3 0)),(8,(pP b4 0)),(9,(qa false)),(10,(qz p2 rs.length c2)),(14,(pP b5 0)),(15,(vN (j+1)))]) (tg λ(l2:Nat)=>(AO b5 93 ([(vN t)]++fxL ((rs.getD l2 C4).f)++fxL ((rs.getD hi C4).f))::rowW p2 84 3 rs.length c2 (rowsL Qv rs)::AO b4 93 ([(vI 0),(qa false),jj,jj,(qa false),jj,jj])::AO b3 86 (Ae b)::AO b2 86 (Ae a)::AO b1 42 (E6 x)::AM a.x.z.n::AM a.x.m::AM a.y.z.n::AM a.y.m::AM b.x.z.n::AM b.x.m::AM b.y.z.n::AM b.y.m::AI x.a.p (rowsL EE x.rs)::AI x.b.p (rowsL BC ts)::AI x.c.p (rowsL Bn ss)::(Jg rs++DJ x.rs))) ?_ ?_
      ·refine zK O (λhc6=>?_) (λhc6=>?_)
       ·replace hc6:=xR hc6
        exact zH (AK O (AK O (st' (v:=(pP (pB p2) (pO p2+(j+1)*3))) (AQ (j:=j+1) O O ho.row underlying183 sizeOf84 O Z) O (st' (v:=(aG (fxL ((rs.getD (j+1) C4).f)))) (BB (vs:=fxL ((rs.getD (j+1) C4).f)) (i:=1) O O ho (AT Cc _) (BG.ne ho.row Z) Br (BE Cc C4 _ _ Z) (Cc _)) O (st' (v:=(pP b5 1)) (AA O underlying93 O sizeOf84 O) O (Dt 0 (off:=1) (vs:=fxL ((rs.getD (j+1) C4).f)) (cs':=[(vN t)]++fxL ((rs.getD (j+1) C4).f)++fxL ((rs.getD hi C4).f)) (AG O) O sizeOf84 O (oNl' (zB (sL [1,4,6,7,8,9,10,14,15] O) (zk (j+1) (⟨Z,(by rw [KP hpk Z];exact eZ Z kl (by rw [<-KP hpk Z];omega))⟩) (sF O) sr)))))))))
       ·replace hc6:=xQ hc6
        exact zG (zk lo (⟨Z,eY Z kl (by rw [<-KP hpk Z];omega)⟩) (sF O) sr)
      ·intro l2 hJ
       obtain ⟨l2b,l2k⟩:=hJ
       refine q1 (B9 (EV 6++[(6,false),(7,true)]) sr (Bi O (Bi O (Am (v:=(pP (pB p2) (pO p2+(j+1)*3))) O (AQ (j:=j+1) O O ho.row underlying183 sizeOf84 O Z) (Am (v:=(aG (fxL ((rs.getD (j+1) C4).f)))) O (BB (vs:=fxL ((rs.getD (j+1) C4).f)) (i:=1) O O ho (AT Cc _) (BG.ne ho.row Z) Br (BE Cc C4 _ _ Z) (Cc _)) (Am (v:=(pP b5 4)) O (AA O underlying93 O sizeOf84 O) (Dz 0 (fxL ((rs.getD hi C4).f)) Br O (zD O (CQ call56 (λw hw=>GJ ((rs.getD (j+1) C4).f) ((rs.getD hi C4).f) (by have s5:=VA hsz (show j+1<rs.length by omega);first|omega|(have s6:=VA hsz l2b;omega)) w (KR hw 17 O Z hat) (KR hw 17 O Z hat)) O (zC sr (Am O (CC (c:=(decide ((0:Int)<(BR ((rs.getD (j+1) C4).q) ((rs.getD hi C4).q))))) O O O) ?_)))))))))))
       refine zP (zB (sL [1,4,6,7,8,9,10,14,15,102] O) (zA ?_))
       refine yL (tg λ(h2:Nat)=>h2<rs.length/\(rs.getD h2 C4).q=VS (Im Dj Dk (BU ps (ts.getD t (0,0,0)).1) (BU ps (ts.getD t (0,0,0)).2.1) (BU ps (ts.getD t (0,0,0)).2.2) u v) (j+1)) (tg λ(h2:Nat)=>[(1,(vN t)),(4,(pP b1 0)),(6,(pP b2 0)),(7,(pP b3 0)),(8,(pP b4 0)),(9,(qa false)),(10,(qz p2 rs.length c2)),(14,(pP b5 0)),(15,(vN (j+1)))]) (tg λ(h2:Nat)=>(AO b5 93 ([(vN t)]++fxL ((rs.getD l2 C4).f)++fxL ((rs.getD h2 C4).f))::rowW p2 84 3 rs.length c2 (rowsL Qv rs)::AO b4 93 ([(vI 0),(qa false),jj,jj,(qa false),jj,jj])::AO b3 86 (Ae b)::AO b2 86 (Ae a)::AO b1 42 (E6 x)::AM a.x.z.n::AM a.x.m::AM a.y.z.n::AM a.y.m::AM b.x.z.n::AM b.x.m::AM b.y.z.n::AM b.y.m::AI x.a.p (rowsL EE x.rs)::AI x.b.p (rowsL BC ts)::AI x.c.p (rowsL Bn ss)::(Jg rs++DJ x.rs))) ?_ ?_
       ·refine zK O (λhc7=>?_) (λhc7=>?_)
        ·replace hc7:=xR hc7
         exact zH (AK O (AK O (st' (v:=(pP (pB p2) (pO p2+(j+1)*3))) (AQ (j:=j+1) O O ho.row underlying183 sizeOf84 O Z) O (st' (v:=(aG (fxL ((rs.getD (j+1) C4).f)))) (BB (vs:=fxL ((rs.getD (j+1) C4).f)) (i:=1) O O ho (AT Cc _) (BG.ne ho.row Z) Br (BE Cc C4 _ _ Z) (Cc _)) O (st' (v:=(pP b5 4)) (AA O underlying93 O sizeOf84 O) O (Dt 0 (off:=4) (vs:=fxL ((rs.getD (j+1) C4).f)) (cs':=[(vN t)]++fxL ((rs.getD l2 C4).f)++fxL ((rs.getD (j+1) C4).f)) (AG O) O sizeOf84 O (oNl' (zB (sL [1,4,6,7,8,9,10,14,15] O) (zk (j+1) (⟨Z,(by rw [KP hpk Z];exact eh Z kh (by rw [<-KP hpk Z];omega))⟩) (sF O) sr)))))))))
        ·replace hc7:=xQ hc7
         exact zG (zk hi (⟨Z,ef Z kh (by rw [<-KP hpk Z];omega)⟩) (sF O) sr)
       ·intro h2 hJ
        obtain ⟨h2b,h2k⟩:=hJ
        exact zJ (zA (zH (AK O (st' (AX (c:=(((j+1)+1:Nat):Int)) O O (AU (a:=j+1) (b:=1) Z)) O (asg' O (oNl' (zB (sL [1,4,6,7,8,9,10,14,15] O) (yD (j+1) l2 h2 (⟨Z,l2b,h2b,l2k,h2k⟩) Z (sF O) sr))))))))
     ·replace hc5:=xQ hc5
      have hPr:=fA (f:=Dj) (g:=Dk) (A:=BU ps (ts.getD t (0,0,0)).1) (B:=BU ps (ts.getD t (0,0,0)).2.1) (C:=BU ps (ts.getD t (0,0,0)).2.2) (a:=u) (b:=v) (n:=j) rfl Z
      rw [<-kl,<-kh] at hPr
      refine zW (zO (zo (zR (q2 (st' (v:=(pP b5 1)) (AA O underlying93 O sizeOf84 O) O (By 0 (fxL ((rs.getD lo C4).f)) Br O (st' (v:=(pP b5 4)) (AA O underlying93 O sizeOf84 O) O (By 0 (fxL ((rs.getD hi C4).f)) Br O ?_))))))))
      have hz1:=Ds ((rs.getD lo C4).q) ((rs.getD hi C4).q)
      refine cF (S:=S) (x:=(((rs.getD lo C4).q)+((rs.getD hi C4).q))) (args:=[(aG (fxL ((rs.getD lo C4).f))),(aG (fxL ((rs.getD hi C4).f)))]) call102 (λw hw=>JP ((rs.getD lo C4).f) ((rs.getD hi C4).f) (by (try simp only [BN]);omega) w (KR hw 17 O Z hat) (KR hw 17 O Z hat)) O O O λg6 lg6=>cF (S:=S) (x:=(((2:Int):Int):Rat)) (args:=[(vI 2)]) call98 (λw hw=>IF (2:Int) Z Z w) O O O λg7 lg7=>?_
      have hz2:=H6 (((rs.getD lo C4).q)+((rs.getD hi C4).q)) (((2:Int):Int):Rat)
      refine cF (S:=S) (x:=((((rs.getD lo C4).q)+((rs.getD hi C4).q))/(((2:Int):Int):Rat))) (args:=[(aG (fxL g6)),(aG (fxL g7))]) call101 (λw hw=>JQ g6 g7 (by (try simp only [BN]);omega) w (inS hw 2 O lg6) (inS hw 0 O lg7)) O O O λg8 lg8=>al Hz O λb6=>An O sizeOf84 O (q6 (sL [1,4,6,7,8,9,10,14,15,16] O) (B9 (EV 6++[(6,false),(7,false),(8,true),(9,false),(10,true)]) (sk (sk (sk (sk (sk (sk (sk (sk (sk (sl sr)))))))))) (B3 7 X4 O (B3 11 Ey O (Bi O (B3 10 Ar O (B3 9 Ar O (B3 0 Br O (zD O ?_)))))))))
      have hzpl:=c9 hu hv szlo szhi
      refine cP (S:=S) (x:=(Fb u v (((rs.getD lo C4).q+(rs.getD hi C4).q)*(1/2)))) (args:=[(aG (Ae a)),(aG (Ae b)),(aG (fxL g8))]) call103 (λw hw=>(Aj.cast (T:=λi=>PX i) (by rw [T8]) (U1 a b g8 (by have q1:=Ds (rs.getD lo C4).q (rs.getD hi C4).q;have q2:Sz ((2:Int):Rat)<=8:=(by decide +kernel);have q3:=Gv ((rs.getD lo C4).q+(rs.getD hi C4).q) ((2:Int):Rat);omega) w (inS hw 13 O la) (inS hw 17 O lb) (inS hw 1 O lg8)))) O O O λg9 lg9=>zC (sl (sl (sl (sl (sk (sk (sk (sk (sk (sk (sk (sk (sk (sl sr)))))))))))))) (zD O (CQ call52 (λw hw=>MW x g9 t ht hnb hzk Z w (inS hw 0 O lg9) (P_ hw 25 O 28 O lx)) O (zC (sl (sl (sl (sl (sk (sk (sk (sk (sk (sk (sk (sk (sk (sl sr)))))))))))))) (Am O (Au (c:=(decide ((BZ ps (Fb u v (((rs.getD lo C4).q+(rs.getD hi C4).q)*(1/2))) (ts.getD t (0,0,0)))=1))) O O (K0 (a:=BZ ps (Fb u v (((rs.getD lo C4).q+(rs.getD hi C4).q)*(1/2))) (ts.getD t (0,0,0))) (b:=1))) (zD O (Dt 13 (off:=0) (vs:=[(vN t)]++fxL ((rs.getD lo C4).f)++fxL ((rs.getD hi C4).f)) (cs':=[(vN t)]++fxL ((rs.getD lo C4).f)++fxL ((rs.getD hi C4).f)) (AG O) O sizeOf93 O (zC (sl (sl (sl (sl (sk (sk (sk (sk (sk (sk (sk (sk (sk (sl sr)))))))))))))) (pS' O (zP (zB (sL [1,4,6,7,8,9,10,14,15,16] O) ?_))))))))))
      exact zA (zF (Bl O (Ab (i:=13) (cs:=[(vN t)]++fxL ((rs.getD lo C4).f)++fxL ((rs.getD hi C4).f)) O O isAgg93 sizeOf93 O) (rd_tmp (v:=(qa (decide ((BZ ps (Fb u v (((rs.getD lo C4).q+(rs.getD hi C4).q)*(1/2))) (ts.getD t (0,0,0)))=1)))) O) (λw hw=>(VP.cast hPr.symm (DU (a:=(⟨t,(λ_=>rfl),(rs.getD lo C4).f,(rs.getD hi C4).f⟩:VP t ((rs.getD lo C4).q,(rs.getD hi C4).q,_))) hw (fJ (KR hw 28 O Z hat) (KR hw 28 O Z hat)) O)))))
end
section
set_option maxRecDepth 100000
theorem WH {ps:List Pt} {v:Pt} {k:Nat} (hv:BO v<=1000) (hz:BO (BU ps k)<=1000):Sz (Py ps v k)<=20000:=by
 have h1:=Bo v (BU ps k)
 have h2:=Gw (v-BU ps k) (v-BU ps k)
 unfold Py;omega
theorem cm {b:Int} (h:¬b<0):vI b=vN b.toNat:=by
 show vI b=vI ((b.toNat:Nat):Int)
 rw [Int.toNat_of_nonneg Z]
set_option maxHeartbeats 1000000 in
theorem XP {ps:List Pt} {zt ss:List Z3} (x:Ku ps zt ss) {v:Pt} (q:PX v) (hN:ps.length<=1000000) (hz:∀k,BO (BU ps k)<=1000) (hv:BO v<=1000) (w:World) {S:Nat->Prop} (hq:Ro S w q) (hx:Ro S w x):Calls prog 25 #[(aG (HI x)),(aG (Ae q))] w (Ac w (vI ((nerF (Py ps v) ps.length).1))):=by
 have hxl:=x.len
 have hzp:∀i,i<x.rs.length->BO (x.rs.getD i EP).p<=1000:=λi hi=>by rw [x.at hi];exact hz i
 have lq:=Bx (W:=w) hq
 have lx:=Bx (W:=w) hx
 refine AZ (args:=[(aG (HI x)),(aG (Ae q))]) (L:=(AM q.x.z.n::AM q.x.m::AM q.y.z.n::AM q.y.m::AI x.a.p (rowsL EE x.rs)::AI x.b.p (rowsL Bn zt)::AI x.c.p (rowsL Bn ss)::DJ x.rs)) func25 O O (leB O) (Fc hq (YZ hx)) (zI (sL [0,1] O) (q4 (BH (cs:=HI x) O λb1=>BH (cs:=Ae q) O λb2=>asg' O (q3 (sL [2,3,4] O) (asg' O (oNl' (q1 (q4 (asg' O ?_)))))))))
 refine oNl' (zA (zM ?_))
 refine yC (tg λ(i:Nat) (b:Int)=>i<=ps.length/\NrI (Py ps v) i b) (tg λ(i:Nat) (b:Int)=>[(2,(pP b1 0)),(3,(pP b2 0)),(4,(vI 0)),(6,(vN i)),(5,(vI b))]) (tg λ(i:Nat) (b:Int)=>(AO b2 86 (Ae q)::AO b1 42 (HI x)::AM q.x.z.n::AM q.x.m::AM q.y.z.n::AM q.y.m::AI x.a.p (rowsL EE x.rs)::AI x.b.p (rowsL Bn zt)::AI x.c.p (rowsL Bn ss)::DJ x.rs)) (tg λ(i:Nat) (b:Int)=>ps.length-i) 0 (-1) (⟨xH _,ew⟩) (sF O) sr (λi b hJ=>?_)
 obtain ⟨hi,hI⟩:=hJ
 refine zS (q4 (AK O (st' (v:=(pP b1 0)) (AA O underlying42 O sizeOf39 O) O (BL 1 (qz x.a.p x.rs.length x.a.c) VC O (st' (v:=(vN x.rs.length)) (AD O underlying39) O (st' (Aa (c:=(decide (i<x.rs.length))) O O (DE (a:=i) (b:=x.rs.length))) O (oNl' (zB (sL [2,3,4,6,5,11] O) (zA ?_)))))))))
 refine zK O (λhc0=>?_) (λhc0=>?_)
 ·replace hc0:=xR hc0
  refine zG (q1 (zM (zS ?_)))
  by_cases h0:b<0
  ·refine B9 (EV 9++[(10,true),(11,true),(12,true),(13,true),(14,true),(15,true),(9,false),(16,false),(17,false),(18,true),(19,true)]) sr (Bi O (Am O (Aa (c:=true) O O (xE h0)) (Bi O (zc O (A7 O) O O (zc O (A7 O) O O (zc O (A7 O) O O (zc O (A7 O) O O (zc O (A7 O) O O (zc O (A7 O) O O (zc O (A7 O) O O (zc O (A7 O) O O ?_)))))))))))
   refine zc O (A7 O) O O (zc O (A7 O) O O (zc O (A7 O) O O (zc O (A7 O) O O (zD O (BP O (zC sr (zD O (BP O (zC sr (zD O (BP O ?_)))))))))))
   refine zC sr (zc O (A7 O) O O (Am (v:=(qa true)) O (ex_pick_true O O) (zP (zB (sL [2,3,4,6,5,33] O) (zA (zY O (zH (AK O (asg' O (oNl' (zB (sL [2,3,4,6,5] O) ?_)))))))))))
   exact zJ (zA (zH (AK O (st' (AX (c:=((i+1:Nat):Int)) O O (AU (a:=i) (b:=1) Z)) O (asg' O (oNl' (zB (sL [2,3,4,6,5] O) (zi (i+1) ((i:Nat):Int) (⟨Z,Zw hI h0⟩) Z (sF O) sr))))))))
  ·have hbl:=cj hI h0
   refine yH (k:=5) (u:=vN b.toNat) O (cm h0) (B9 (EV 9++[(10,true),(11,true),(12,true),(13,true),(14,true),(15,true),(9,false),(16,false),(17,false),(18,true),(19,true)]) sr (Bi O (Am O (Aa (c:=false) O O (xD Z)) (Bi O (zQ (v:=(aG (Ae q))) O (AE O) (AY (i:=0) (vs:=Ae q) O O Ar.a Ar.s O O) O O (zQ (v:=(pP b1 0)) O (AE O) (AA O underlying42 O sizeOf39 O) O O (zQ (v:=(qz x.a.p x.rs.length x.a.c)) O (AE O) (AR (i:=1) (v:=(qz x.a.p x.rs.length x.a.c)) O O VC.a O) O O (zQ (v:=(vN i)) O (AE O) (BF O) O O (zQ (v:=(pP (pB x.a.p) (pO x.a.p+i*6))) O (AE O) (AQ (j:=i) O O x.a.ok underlying39 sizeOf86 O Z) O O (zQ (v:=(aG (Ae ((x.rs.getD i EP).x)))) O (AE O) (Ak (vs:=Ae ((x.rs.getD i EP).x)) (i:=6) O O (BG.ne x.a.ok Z) Ar (BE Bq EP _ _ Z) (Bq _)) O O (zQ (v:=(aG (Ae q))) O (AE O) (AY (i:=0) (vs:=Ae q) O O Ar.a Ar.s O O) O O ?_)))))))))))
   refine zQ (v:=(pP b1 0)) O (AE O) (AA O underlying42 O sizeOf39 O) O O (zQ (v:=(qz x.a.p x.rs.length x.a.c)) O (AE O) (AR (i:=1) (v:=(qz x.a.p x.rs.length x.a.c)) O O VC.a O) O O (zQ (v:=(vN b.toNat)) O (AE O) (BF O) O O (zQ (v:=(pP (pB x.a.p) (pO x.a.p+b.toNat*6))) O (AE O) (AQ (j:=b.toNat) O O x.a.ok underlying39 sizeOf86 O Z) O O (zQ (v:=(aG (Ae ((x.rs.getD b.toNat EP).x)))) O (AE O) (Ak (vs:=Ae ((x.rs.getD b.toNat EP).x)) (i:=6) O O (BG.ne x.a.ok Z) Ar (BE Bq EP _ _ Z) (Bq _)) O O (zD O ?_)))))
   have hzd0:=WH (k:=i) hv (hz i)
   refine yY (AE O) (cF (S:=S) (x:=(Py ps v i)) (args:=[(aG (Ae q)),(aG (Ae ((x.rs.getD i EP).x)))]) call58 (λw hw=>(Aj.cast (T:=λi=>FX i) (by rw [x.at Z];rfl) (KU q ((x.rs.getD i EP).x) (by have:=hzp i Z;omega) w (inS hw 2 O lq) (Wa hw 9 O Z (At.rpt lx))))) O O O λg1 lg1=>zC (sl (sl sr)) (zD O ?_))
   have hzd1:=WH (k:=b.toNat) hv (hz b.toNat)
   refine yY (AE O) (cF (S:=S) (x:=(Py ps v b.toNat)) (args:=[(aG (Ae q)),(aG (Ae ((x.rs.getD b.toNat EP).x)))]) call58 (λw hw=>(Aj.cast (T:=λi=>FX i) (by rw [x.at Z];rfl) (KU q ((x.rs.getD b.toNat EP).x) (by have:=hzp b.toNat Z;omega) w (inS hw 4 O lq) (Wa hw 11 O Z (At.rpt lx))))) O O O λg2 lg2=>zC (sl (sl (sl (sl sr)))) (zD O (zd (v:=(vI (BR (Py ps v i) (Py ps v b.toNat)))) (AE O) (Ag (args:=[(aG (fxL g1)),(aG (fxL g2))]) O O call56) (λw hw=>GJ g1 g2 Z w (inS hw 2 O lg1) (inS hw 0 O lg2)) O (leB O) (zC (sl (sl (sl (sl sr)))) (zQ (v:=(qa (decide ((BR (Py ps v i) (Py ps v b.toNat))<(0:Int))))) O (AE O) (Aa (c:=(decide ((BR (Py ps v i) (Py ps v b.toNat))<(0:Int)))) O O O) O O (Am (v:=(qa (decide ((BR (Py ps v i) (Py ps v b.toNat))<(0:Int))))) O (AN O O) (zP (zB (sL [2,3,4,6,5,33] O) (zA ?_)))))))))
   refine zK O (λhc1=>?_) (λhc1=>?_)
   ·replace hc1:=xR hc1
    refine zH (AK O (asg' O (oNl' (zB (sL [2,3,4,6,5] O) (zJ (zA (zH (AK O (st' (AX (c:=((i+1:Nat):Int)) O O (AU (a:=i) (b:=1) Z)) O (asg' O (oNl' ?_)))))))))))
    exact zB (sL [2,3,4,6,5] O) (zi (i+1) ((i:Nat):Int) (⟨Z,e8 hI h0 hc1⟩) Z (sF O) (sl (sl (sl (sl sr)))))
   ·replace hc1:=xQ hc1
    exact zG (zJ (zA (zH (AK O (st' (AX (c:=((i+1:Nat):Int)) O O (AU (a:=i) (b:=1) Z)) O (asg' O (oNl' (zB (sL [2,3,4,6,5] O) (zi (i+1) ((b.toNat:Nat):Int) (⟨Z,(by rw [Int.toNat_of_nonneg Z];exact ez hI h0 hc1)⟩) Z (sF O) (sl (sl (sl (sl sr)))))))))))))
 ·replace hc0:=xQ hc0
  exact zW (zO (zh (zR (q2 (AK O (asg' O (oNl' (zB (sL [2,3,4,6,5] O) (zA (zF (ret_one O (rd_tmp (v:=(vI b)) O) (λw hw=>⟨by rw [show ps.length=i by omega,Zv hI],hw.out⟩))))))))))))
theorem Uq {ps:List Pt} {zt ss:List Z3} (x:Ku ps zt ss) {v:Pt} (q:PX v) (hnb:EO ps.length zt=false) (hl:zt.length<=1000000) (w:World) {S:Nat->Prop} (hq:Ro S w q) (hx:Ro S w x):Calls prog 21 #[(aG (HI x)),(aG (Ae q))] w (Ac w (Value.tuple #[(vI (-1:Int)),(vI 0)])):=by
 have lq:=Bx (W:=w) hq
 have lx:=Bx (W:=w) hx
 refine AZ (args:=[(aG (HI x)),(aG (Ae q))]) (L:=(AM q.x.z.n::AM q.x.m::AM q.y.z.n::AM q.y.m::AI x.a.p (rowsL EE x.rs)::AI x.b.p (rowsL Bn zt)::AI x.c.p (rowsL Bn ss)::DJ x.rs)) func21 O O (leB O) (Fc hq (YZ hx)) (zI (sL [0,1] O) (q4 (BH (cs:=HI x) O λb1=>BH (cs:=Ae q) O λb2=>asg' O (asg' O (q6 (sL [2,3,4,5] O) (q4 (asg' O (oNl' (zA ?_)))))))))
 refine zM (yF 1 (zl (zS (q4 (AK O (st' (v:=(pP b1 1)) (AA O underlying42 O sizeOf23 O) O (BL 1 (qz x.b.p zt.length x.b.c) Ez O (st' (v:=(vN zt.length)) (AD O underlying23) O (st' (Aa (c:=(decide (0<zt.length))) O O (DE (a:=0) (b:=zt.length))) O (AK O ?_))))))))))
 refine zg (FM:=[(2,(pP b1 0)),(3,(pP b2 0)),(4,(vI 0)),(5,(vI 0)),(6,(vI 0)),(7,(vI 0)),(8,(pP b1 1)),(9,(qz x.b.p zt.length x.b.c)),(10,(vN zt.length)),(11,(qa (decide (0<zt.length)))),(12,(qa (decide (0<zt.length)))),(15,(qa ((decide (0<zt.length))&&false)))]) (LM:=(AO b2 86 (Ae q)::AO b1 42 (HI x)::AM q.x.z.n::AM q.x.m::AM q.y.z.n::AM q.y.m::AI x.a.p (rowsL EE x.rs)::AI x.b.p (rowsL Bn zt)::AI x.c.p (rowsL Bn ss)::DJ x.rs)) 3 ?_ ?_
 ·rcases xO (decide (0<zt.length)) with hg1|hg1
  ·refine zN (k:=12) (u:=qa true) O (by rw [hg1]) ?_
   have hg1':=xR hg1
   exact BV (v:=(aG (HI x))) O (AY (i:=1) (vs:=HI x) O O Ey.a Ey.s O O) (zd (v:=(qa false)) (AE O) (Ag (args:=[(aG (HI x))]) O O call51) (λw hw=>(by have h9:=JS x.rq Z w (aX (QA (x:=x) hw 6 O 9 (λz hz=>hz) lx));rw [show EO x.rs.length zt=false from (by rw [x.len];exact hnb)] at h9;exact h9)) O (leB O) (st' (v:=(qa false)) (ex_pick_true O O) O (oNl' (zT CT (xP _)))))
  ·refine zN (k:=12) (u:=qa false) O (by rw [hg1]) ?_
   have hg1':=xQ hg1
   exact BP O (BP O (st' (v:=(qa false)) (AN O O) O (oNl' (zT CT (xP _)))))
 refine oNl' (zB (sL [2,3,4,5,6,15] O) (zA ?_))
 refine zK O (λhc0=>?_) (λhc0=>?_)
 ·simp only [jK] at hc0
  simp at hc0
 ·simp only [jK] at hc0
  exact zW (zO (zO (zR (q2 (asg' O (asg' O (oNl' (zA (zF (Bl O (rd_tmp (v:=(vI (-1:Int))) O) (rd_tmp (v:=(vI 0)) O) (λw hw=>⟨rfl,hw.out⟩)))))))))))
theorem TQ {p q:Pt} (h:¬p=q):CW p q=false:=by
 cases h9:CW p q with
 | false=>rfl
 | true =>
  unfold CW at h9
  simp only [xZ,xT] at h9
  exact absurd (Pt.ext h9.1 h9.2) h
theorem aZ (p:Pt):CW p p=true:=by unfold CW;simp
theorem XT {ps:List Pt} {zt ss:List Z3} (x:Ku ps zt ss) {u v:Pt} (a:PX u) (b:PX v) (hab:¬u=v) (hs:BO u+BO v<=4000) (hnb:EO ps.length zt=false) (hl:zt.length<=1000000) (w:World) {S:Nat->Prop} (ha:Ro S w a) (hb:Ro S w b) (hx:Ro S w x):Calls prog 23 #[(aG (HI x)),(aG (Ae a)),(aG (Ae b))] w (Aj (Vh []) S w):=by
 have la:=Bx (W:=w) ha
 have lb:=Bx (W:=w) hb
 have lx:=Bx (W:=w) hx
 refine AZ (args:=[(aG (HI x)),(aG (Ae a)),(aG (Ae b))]) (L:=(AM a.x.z.n::AM a.x.m::AM a.y.z.n::AM a.y.m::AM b.x.z.n::AM b.x.m::AM b.y.z.n::AM b.y.m::AI x.a.p (rowsL EE x.rs)::AI x.b.p (rowsL Bn zt)::AI x.c.p (rowsL Bn ss)::DJ x.rs)) func23 O O (leB O) (Fc ha (Fc hb (YZ hx))) (zI (sL [0,1,2] O) (q4 (BH (cs:=HI x) O λb1=>BH (cs:=Ae a) O λb2=>BH (cs:=Ae b) O λb3=>asg' O (q3 (sL [3,4,5,6] O) (asg' O (oNl' (q1 (q4 ?_))))))))
 refine Af 1 Ar O (Af 0 Ar O (CQ (args:=[(aG (Ae a)),(aG (Ae b))]) (v:=(qa false)) call54 (λw hw=>(by have h9:=FF a b Z w (inS hw 3 O la) (inS hw 7 O lb);rw [TQ hab] at h9;exact h9)) O (AK O (BV (v:=(aG (HI x))) O (AY (i:=2) (vs:=HI x) O O Ey.a Ey.s O O) (zd (v:=(qa false)) (AE O) (Ag (args:=[(aG (HI x))]) O O call51) (λw hw=>(by have h9:=JS x.rq Z w (aX (QA (x:=x) hw 11 O 14 (λz hz=>hz) lx));rw [show EO x.rs.length zt=false from (by rw [x.len];exact hnb)] at h9;exact h9)) O (leB O) (BV (v:=(qa true)) O (Bs (c:=true) O O) (st' (v:=(qa true)) (AN O O) O (oNl' (zB (sL [3,4,5,6,7,19] O) (zA (zY O ?_)))))))))))
 exact q4 (AK O (asg' O (oNl' (zB (sL [3,4,5,6,7] O) (zA (zF (zL (ret_one O (rd_tmp (v:=jj) O) (λw hw=>(W4 hw.out O))))))))))
theorem XS {ps:List Pt} {zt ss:List Z3} (x:Ku ps zt ss) {u:Pt} (a b:PX u) (hs:BO u<=2000) (w:World) {S:Nat->Prop} (ha:Ro S w a) (hb:Ro S w b) (hx:Ro S w x):Calls prog 23 #[(aG (HI x)),(aG (Ae a)),(aG (Ae b))] w (Aj (Vh []) S w):=by
 have la:=Bx (W:=w) ha
 have lb:=Bx (W:=w) hb
 have lx:=Bx (W:=w) hx
 refine AZ (args:=[(aG (HI x)),(aG (Ae a)),(aG (Ae b))]) (L:=(AM a.x.z.n::AM a.x.m::AM a.y.z.n::AM a.y.m::AM b.x.z.n::AM b.x.m::AM b.y.z.n::AM b.y.m::AI x.a.p (rowsL EE x.rs)::AI x.b.p (rowsL Bn zt)::AI x.c.p (rowsL Bn ss)::DJ x.rs)) func23 O O (leB O) (Fc ha (Fc hb (YZ hx))) (zI (sL [0,1,2] O) (q4 (BH (cs:=HI x) O λb1=>BH (cs:=Ae a) O λb2=>BH (cs:=Ae b) O λb3=>asg' O (q3 (sL [3,4,5,6] O) (asg' O (oNl' (q1 (q4 ?_))))))))
 refine Af 1 Ar O (Af 0 Ar O (CQ (args:=[(aG (Ae a)),(aG (Ae b))]) (v:=(qa true)) call54 (λw hw=>(by have h9:=FF a b Z w (inS hw 3 O la) (inS hw 7 O lb);rw [aZ] at h9;exact h9)) O (AK O (BP O (BP O (BP O (st' (v:=(qa true)) (ex_pick_true O O) O (oNl' (zB (sL [3,4,5,6,7,19] O) (zA (zY O ?_)))))))))))
 exact q4 (AK O (asg' O (oNl' (zB (sL [3,4,5,6,7] O) (zA (zF (zL (ret_one O (rd_tmp (v:=jj) O) (λw hw=>(W4 hw.out O))))))))))
end
end Go.Proofs.YtcpkbjjmcleplaaGreatDoor
