import Derived.Test.YtcpkbjjmcleplaaGreatDoorPart39
import Derived.Test.YtcpkbjjmcleplaaGreatDoorPart40
namespace Go.Proofs.YtcpkbjjmcleplaaGreatDoor
open Go Go.RowKit Go.Proofs.Tryz
open Go.Value renaming slice→qz,bool→qa
set_option linter.unusedVariables false
set_option linter.unusedSimpArgs false
section
set_option maxRecDepth 100000
theorem Wn:ElemT prog 183 84 3 56:=⟨underlying183,DP jV⟩
theorem Ky  :Instr.fill ([(0,1),(1,3),(4,3)].toArray[·]?) ([(vI 0),(qa false),jj,jj,(qa false),jj,jj]).toArray []=some ([(vI 0),(qa false),jj,jj,(qa false),jj,jj]).toArray:=by kernel_rfl
set_option maxHeartbeats 4000000 in
theorem Ti {ps:List Pt} {ts:List T3} {ss:List Z3} (x:OG ps ts ss) {u v:Pt} (a:PX u) (b:PX v) (t:Nat) (ht:t<ts.length) (hnb:EG ps.length ts=true) (hz:∀k,BD (BJ ps k)<=6) (hu:BD u<=6) (hv:BD v<=6) (w:World) {S:Nat->Prop} (ha:Ro S w a) (hb:Ro S w b) (hx:Ro S w x):Calls prog 55 #[(aG (Ec x)),(vN t),(aG (AZ a)),(aG (AZ b))] w (Ai (UD t (R5 DS DT (BJ ps (ts.getD t (0,0,0)).1) (BJ ps (ts.getD t (0,0,0)).2.1) (BJ ps (ts.getD t (0,0,0)).2.2) u v)) S w):=by
 have z2z:Sz ((2:Int):Rat)<=8:=by decide +kernel
 have hzk:∀k,BD (BJ ps k)<=1000:=λk=>xK (hz k) jY
 have la:=Bs (W:=w) ha
 have lb:=Bs (W:=w) hb
 have lx:=Bs (W:=w) hx
 refine AX (args:=[(aG (Ec x)),(vN t),(aG (AZ a)),(aG (AZ b))]) (L:=(AM a.x.z.n::AM a.x.m::AM a.y.z.n::AM a.y.m::AM b.x.z.n::AM b.x.m::AM b.y.z.n::AM b.y.m::AI x.a.p (rowsL Dp x.rs)::AI x.b.p (rowsL Bk ts)::AI x.c.p (rowsL BB ss)::(I9 ([]:List FS)++DE x.rs))) func55 O O (leB O) (E1 ha (E1 hb (XF hx))) (zG (sL [0,1,2,3] O) (q4 (A9 (cs:=Ec x) O λb1=>A9 (cs:=AZ a) O λb2=>A9 (cs:=AZ b) O λb3=>al bE O λb4=>asg' O (q3 (sL [1,4,6,7,8,9] O) (asg' O (zk 84 3 (oNl' ?_)))))))
 refine q1 (q4 (Ah 4 EW O (AL O (Ah 3 Ap O (CC call52 (λw hw=>LZ x a t ht hnb hzk Z w (inS hw 5 O la) (O1 hw 13 O 16 O lx)) O (st' (Bu (c:=(decide (0<(BR ps u (ts.getD t (0,0,0)))))) O O (DL (a:=0) (b:=BR ps u (ts.getD t (0,0,0))))) O (oNl' (zB (sL [1,4,6,7,8,9,10,21] O) (zA ?_)))))))))
 refine ym (tg λ(p0:Option Addr) (c0:Nat) (r0s:List FS)=>OwnOk p0 r0s.length c0/\r0s.map (·.q)=(if 0<B3 (BJ ps (ts.getD t (0,0,0)).1) (BJ ps (ts.getD t (0,0,0)).2.1) (BJ ps (ts.getD t (0,0,0)).2.2) u then [(0:Rat)] else [])/\(∀y∈I9 r0s,∀b,y.foot=some b->Nw ⟨w,none⟩ S b)/\(∀r∈r0s,Sz (FS.q r)<=346)/\r0s.length<=1) (tg λ(p0:Option Addr) (c0:Nat) (r0s:List FS)=>[(1,(vN t)),(4,(pP b1 0)),(6,(pP b2 0)),(7,(pP b3 0)),(8,(pP b4 0)),(9,(qa false)),(10,(qz p0 r0s.length c0))]) (tg λ(p0:Option Addr) (c0:Nat) (r0s:List FS)=>(rowW p0 84 3 r0s.length c0 (rowsL Pp r0s)::AQ b4 93 ([(vI 0),(qa false),jj,jj,(qa false),jj,jj])::AQ b3 86 (AZ b)::AQ b2 86 (AZ a)::AQ b1 42 (Ec x)::AM a.x.z.n::AM a.x.m::AM a.y.z.n::AM a.y.m::AM b.x.z.n::AM b.x.m::AM b.y.z.n::AM b.y.m::AI x.a.p (rowsL Dp x.rs)::AI x.b.p (rowsL Bk ts)::AI x.c.p (rowsL BB ss)::(I9 r0s++DE x.rs))) ?_ ?_
 ·refine zK O (λhc0=>?_) (λhc0=>?_)
  ·replace hc0:=xR hc0
   refine zL (AL O (cF (S:=S) (x:=(((0:Int):Int):Rat)) (args:=[(vI 0)]) call98 (λw hw=>Hp (0:Int) Z Z w) O O O λg1 lg1=>zf (V:=λb5=>(qz (jk b5) 1 1)) (T:=84) (cs:=fxL g1) (AJ O) (Ar (z:=.agg #[(qa false),jj,jj]) (cs:=fxL g1) (pv:=[(0,(aG (fxL g1)))]) underlying183 sizeOf84 zeroValue84 jY jY O (QM g1)) O (leB O) λb5=>yF 3 (j:=0) (cs2:=rowsL Pp (([]:List FS)++[(⟨_,g1⟩:FS)])) Wn O OwnOk.none O O O O O O jY (G8 Z) Z (by rw [BM];rfl) O λp_1 c_1 ho_1 hne_1=>yT (sl sr) (yQ (show List.Perm _ (rowW p_1 84 3 (0+1) c_1 (rowsL Pp (([]:List FS)++[(⟨_,g1⟩:FS)]))::AQ b4 93 ([(vI 0),(qa false),jj,jj,(qa false),jj,jj])::AQ b3 86 (AZ b)::AQ b2 86 (AZ a)::AQ b1 42 (Ec x)::AM a.x.z.n::AM a.x.m::AM a.y.z.n::AM a.y.m::AM b.x.z.n::AM b.x.m::AM b.y.z.n::AM b.y.m::AI x.a.p (rowsL Dp x.rs)::AI x.b.p (rowsL Bk ts)::AI x.c.p (rowsL BB ss)::(I9 (([]:List FS)++[(⟨_,g1⟩:FS)])++DE x.rs)) from Qj (⟨_,g1⟩:FS) [rowW p_1 84 3 (0+1) c_1 (rowsL Pp (([]:List FS)++[(⟨_,g1⟩:FS)])),AQ b4 93 ([(vI 0),(qa false),jj,jj,(qa false),jj,jj]),AQ b3 86 (AZ b),AQ b2 86 (AZ a),AQ b1 42 (Ec x),AM a.x.z.n,AM a.x.m,AM a.y.z.n,AM a.y.m,AM b.x.z.n,AM b.x.m,AM b.y.z.n,AM b.y.m,AI x.a.p (rowsL Dp x.rs),AI x.b.p (rowsL Bk ts),AI x.c.p (rowsL BB ss)] ([]:List FS) (DE x.rs)) (asg' O (oNl' (zB (sL [1,4,6,7,8,9,10] O) ?_))))))
   rw [show (0:Nat)+1=(([]:List FS)++[(⟨_,g1⟩:FS)]).length by simp]
   exact yD p_1 c_1 (([]:List FS)++[(⟨_,g1⟩:FS)]) (⟨(by simpa using ho_1),(by rw [if_pos (c:=0<B3 _ _ _ u) hc0];rfl),AtF.snoc (λy hy=>by cases hy) lg1,(λr hr=>by rw [xM.1 hr];show Sz ((0:Int):Rat)<=346;decide +kernel),Nat.le_refl 1⟩) (sF O) sr
  ·replace hc0:=xQ hc0
   exact zI (yD none 0 ([]:List FS) (⟨OwnOk.none,(by rw [if_neg (c:=0<B3 _ _ _ u) (show ¬0<BR ps u (ts.getD t (0,0,0)) by omega)];rfl),(λy hy=>by cases hy),(λr hr=>by cases hr),jY⟩) (sF O) sr)
 ·intro p0 c0 r0s hJ
  obtain ⟨o0,e0,h0t,z0s,n0⟩:=hJ
  refine q1 (q4 (Ah 4 EW O (AL O (Ah 2 Ap O (CC call52 (λw hw=>LZ x b t ht hnb hzk Z w (inS hw 9 O lb) (O1 hw 13 O 16 O lx)) O (st' (Bu (c:=(decide (0<(BR ps v (ts.getD t (0,0,0)))))) O O (DL (a:=0) (b:=BR ps v (ts.getD t (0,0,0))))) O (oNl' (zB (sL [1,4,6,7,8,9,10,30] O) (zA ?_)))))))))
  refine ym (tg λ(p1:Option Addr) (c1:Nat) (r1s:List FS)=>OwnOk p1 r1s.length c1/\r1s.map (·.q)=cj (BJ ps (ts.getD t (0,0,0)).1) (BJ ps (ts.getD t (0,0,0)).2.1) (BJ ps (ts.getD t (0,0,0)).2.2) u v/\(∀y∈I9 r1s,∀b,y.foot=some b->Nw ⟨w,none⟩ S b)/\(∀r∈r1s,Sz (FS.q r)<=346)/\r1s.length<=2) (tg λ(p1:Option Addr) (c1:Nat) (r1s:List FS)=>[(1,(vN t)),(4,(pP b1 0)),(6,(pP b2 0)),(7,(pP b3 0)),(8,(pP b4 0)),(9,(qa false)),(10,(qz p1 r1s.length c1))]) (tg λ(p1:Option Addr) (c1:Nat) (r1s:List FS)=>(rowW p1 84 3 r1s.length c1 (rowsL Pp r1s)::AQ b4 93 ([(vI 0),(qa false),jj,jj,(qa false),jj,jj])::AQ b3 86 (AZ b)::AQ b2 86 (AZ a)::AQ b1 42 (Ec x)::AM a.x.z.n::AM a.x.m::AM a.y.z.n::AM a.y.m::AM b.x.z.n::AM b.x.m::AM b.y.z.n::AM b.y.m::AI x.a.p (rowsL Dp x.rs)::AI x.b.p (rowsL Bk ts)::AI x.c.p (rowsL BB ss)::(I9 r1s++DE x.rs))) ?_ ?_
  ·refine zK O (λhc1=>?_) (λhc1=>?_)
   ·replace hc1:=xR hc1
    refine zL (AL O (cF (S:=S) (x:=(((1:Int):Int):Rat)) (args:=[(vI 1)]) call98 (λw hw=>Hp (1:Int) Z Z w) O O O λg2 lg2=>zf (V:=λb5=>(qz (jk b5) 1 1)) (T:=84) (cs:=fxL g2) (AJ O) (Ar (z:=.agg #[(qa false),jj,jj]) (cs:=fxL g2) (pv:=[(0,(aG (fxL g2)))]) underlying183 sizeOf84 zeroValue84 jY jY O (QM g2)) O (leB O) λb5=>yF 3 (j:=0) (cs2:=rowsL Pp (r0s++[(⟨_,g2⟩:FS)])) Wn O o0 (AV CL _) O O O O O jY (G8 Z) Z (by rw [BM];rfl) O λp_2 c_2 ho_2 hne_2=>yT (sl sr) (yQ (show List.Perm _ (rowW p_2 84 3 (r0s.length+1) c_2 (rowsL Pp (r0s++[(⟨_,g2⟩:FS)]))::AQ b4 93 ([(vI 0),(qa false),jj,jj,(qa false),jj,jj])::AQ b3 86 (AZ b)::AQ b2 86 (AZ a)::AQ b1 42 (Ec x)::AM a.x.z.n::AM a.x.m::AM a.y.z.n::AM a.y.m::AM b.x.z.n::AM b.x.m::AM b.y.z.n::AM b.y.m::AI x.a.p (rowsL Dp x.rs)::AI x.b.p (rowsL Bk ts)::AI x.c.p (rowsL BB ss)::(I9 (r0s++[(⟨_,g2⟩:FS)])++DE x.rs)) from Qj (⟨_,g2⟩:FS) [rowW p_2 84 3 (r0s.length+1) c_2 (rowsL Pp (r0s++[(⟨_,g2⟩:FS)])),AQ b4 93 ([(vI 0),(qa false),jj,jj,(qa false),jj,jj]),AQ b3 86 (AZ b),AQ b2 86 (AZ a),AQ b1 42 (Ec x),AM a.x.z.n,AM a.x.m,AM a.y.z.n,AM a.y.m,AM b.x.z.n,AM b.x.m,AM b.y.z.n,AM b.y.m,AI x.a.p (rowsL Dp x.rs),AI x.b.p (rowsL Bk ts),AI x.c.p (rowsL BB ss)] r0s (DE x.rs)) (asg' O (oNl' (zB (sL [1,4,6,7,8,9,10] O) ?_))))))
    rw [show r0s.length+1=(r0s++[(⟨_,g2⟩:FS)]).length by simp]
    exact yD p_2 c_2 (r0s++[(⟨_,g2⟩:FS)]) (⟨(by simpa using ho_2),(by rw [List.map_append,e0];unfold cj;rw [if_pos (c:=0<B3 _ _ _ v) hc1];rfl),AtF.snoc h0t lg2,(λr hr=>(List.mem_append.1 hr).elim (z0s r) (λh=>by rw [xM.1 h];show Sz ((1:Int):Rat)<=346;decide +kernel)),(by rw [xJ,List.length_singleton];omega)⟩) (sF O) sr
   ·replace hc1:=xQ hc1
    exact zI (yD p0 c0 r0s (⟨o0,(by rw [e0];unfold cj;rw [if_neg (c:=0<B3 _ _ _ v) (show ¬0<BR ps v (ts.getD t (0,0,0)) by omega),List.append_nil]),h0t,z0s,Z⟩) (sF O) sr)
  ·intro p1 c1 r1s hJ
   obtain ⟨o1,e1,h1t,z1s,n1⟩:=hJ
   refine q1 (q4 (asg' O (oNl' (zA (zN ?_)))))
   refine yn (tg λ(i:Nat) (p2:Option Addr) (c2:Nat) (rs:List FS)=>i<=3/\OwnOk p2 rs.length c2/\rs.map (·.q)++Rh DS DT ps (ts.getD t (0,0,0)) u v (3-i)=ID DS DT (BJ ps (ts.getD t (0,0,0)).1) (BJ ps (ts.getD t (0,0,0)).2.1) (BJ ps (ts.getD t (0,0,0)).2.2) u v/\(∀y∈I9 rs,∀b,y.foot=some b->Nw ⟨w,none⟩ S b)/\(∀r∈rs,Sz (FS.q r)<=346)/\rs.length<=2+i) (tg λ(i:Nat) (p2:Option Addr) (c2:Nat) (rs:List FS)=>[(1,(vN t)),(4,(pP b1 0)),(6,(pP b2 0)),(7,(pP b3 0)),(8,(pP b4 0)),(9,(qa false)),(11,(vN i)),(10,(qz p2 rs.length c2))]) (tg λ(i:Nat) (p2:Option Addr) (c2:Nat) (rs:List FS)=>(rowW p2 84 3 rs.length c2 (rowsL Pp rs)::AQ b4 93 ([(vI 0),(qa false),jj,jj,(qa false),jj,jj])::AQ b3 86 (AZ b)::AQ b2 86 (AZ a)::AQ b1 42 (Ec x)::AM a.x.z.n::AM a.x.m::AM a.y.z.n::AM a.y.m::AM b.x.z.n::AM b.x.m::AM b.y.z.n::AM b.y.m::AI x.a.p (rowsL Dp x.rs)::AI x.b.p (rowsL Bk ts)::AI x.c.p (rowsL BB ss)::(I9 rs++DE x.rs))) (tg λ(i:Nat) (p2:Option Addr) (c2:Nat) (rs:List FS)=>3-i) 0 p1 c1 r1s (⟨Z,o1,(by rw [e1];exact ah),h1t,z1s,n1⟩) (sF O) sr (λi p2 c2 rs hJ=>?_)
   obtain ⟨hi,ho,er,hat,hsz,hrl⟩:=hJ
   refine zV (q4 (AL O (st' (Ag (c:=(decide (i<3))) O O (DL (a:=i) (b:=3))) O (oNl' (zB (sL [1,4,6,7,8,9,11,10,36] O) (zA ?_))))))
   refine zK O (λhc2=>?_) (λhc2=>?_)
   ·replace hc2:=xR hc2
    refine zI (q1 (zN (zV (rN [(0,true),(1,true),(2,true),(3,true),(4,true),(6,true),(7,true),(8,true),(9,true),(10,true),(5,false),(11,false),(12,false),(13,true),(14,true),(15,true)] [⟨16,13,86,[(qa false),jj,jj,(qa false),jj,jj]⟩] [(17,true),(18,false)] sr jV (λ_ _ d _ _ h=>by cases d<;>exact h) (FY O O I4 O (Fj)) O (EI 3 Ap O (EI 2 Ap O (EI 4 EW O (J1 O (J1 O (EI 4 EW O (J1 O ?_)))))))))))
    refine J1 O (GI O (Ad (c:=((i+1:Nat):Int)) O O (Ab (a:=i) (b:=1) Z)) O (GI O (HG (c:=(((i+1)%3:Nat):Int)) O O Z (PH (a:=i+1) (b:=3))) O (ze O λEF EL=>cP (S:=S) (x:=(BJ ps (IL (ts.getD t (0,0,0)) i))) (args:=[(aG (Ec x)),(vN t),(vN i)]) call95 (λw hw=>GB x t i ht Z hnb w (X9 hw 13 O (λz hz=>List.mem_of_mem_drop (i:=16) (show z∈(I9 rs++DE x.rs)++EL from xF EL (xG _ hz))) lx)) O O O λg3 lg3=>ya (sl (sl (sl (sl sr)))) O (ze O λEF EL=>cP (S:=S) (x:=(BJ ps (IL (ts.getD t (0,0,0)) ((i+1)%3)))) (args:=[(aG (Ec x)),(vN t),(vN ((i+1)%3))]) call95 (λw hw=>GB x t ((i+1)%3) ht Z hnb w (X9 hw 17 O (λz hz=>List.mem_of_mem_drop (i:=20) (show z∈(I9 rs++DE x.rs)++EL from xF EL (xG _ hz))) lx)) O O O λg4 lg4=>ya (sl (sl (sl (sl (sl (sl (sl (sl sr)))))))) O (ze O λEF EL=>zu (S:=S) (α:=Po (Uw ps (ts.getD t (0,0,0)) u v i).1 (Uw ps (ts.getD t (0,0,0)) u v i).2) (args:=[(aG (AZ a)),(aG (AZ b)),(aG (AZ g3)),(aG (AZ g4))]) call99 (λw hw=>Ym a b g3 g4 (by have q1:=hz ((IL (ts.getD t (0,0,0)) i));have q2:=hz (IL (ts.getD t (0,0,0)) ((i+1)%3));omega) w (inS hw 13 O la) (inS hw 17 O lb) (inS hw 4 O lg3) (inS hw 0 O lg4)) O O O λct lct=>ya (sl (sl (sl (sl (sl (sl (sl (sl (sl (sl (sl (sl sr)))))))))))) O ?_)))))
    refine J1 O (GI O (AH (v:=(vN ((Uw ps (ts.getD t (0,0,0)) u v i).1))) O O) O (GI O (AH (v:=(aG (AZ ct.x))) O O) O (zm λb5=>pS' O (zD O (Am O sizeOf86 O (zC (sl (sl (sl (sl (sl (sl (sl (sl (sl (sl (sl (sl (sl sr))))))))))))) (zP (zB (sL [1,4,6,7,8,9,11,10,13,12] O) (q2 (AL O ?_))))))))))
    refine st' (Az (c:=(decide (((Uw ps (ts.getD t (0,0,0)) u v i).1)=1))) O O (OI (a:=(Uw ps (ts.getD t (0,0,0)) u v i).1) (b:=1))) O (oNl' (zB (sL [1,4,6,7,8,9,11,10,13,56] O) (zA ?_)))
    refine zK O (λhc3=>?_) (λhc3=>?_)
    ·replace hc3:=xR hc3
     refine zL (AL O (Ah 16 Ap O (Ah 15 Ap O (Ah 0 Ap O (cF (S:=S) (x:=(MV u v ((Uw ps (ts.getD t (0,0,0)) u v i).2))) (args:=[(aG (AZ a)),(aG (AZ b)),(aG (AZ ct.x))]) call100 (λw hw=>Qp a b ct.x (by have q1:=NW (f:=DS) (g:=DT) hu hv (hz (IL (ts.getD t (0,0,0)) i)) (hz (IL (ts.getD t (0,0,0)) ((i+1)%3)));have q2:BD (Uw ps (ts.getD t (0,0,0)) u v i).2<=126:=q1;omega) w (inS hw 18 O la) (inS hw 22 O lb) (show Ro _ w ct.x from inS (a:=ct) hw 1 O lct)) O O O λg5 lg5=>zf (V:=λb6=>(qz (jk b6) 1 1)) (T:=84) (cs:=fxL g5) (AJ O) (Ar (z:=.agg #[(qa false),jj,jj]) (cs:=fxL g5) (pv:=[(0,(aG (fxL g5)))]) underlying183 sizeOf84 zeroValue84 jY jY O (QM g5)) O (leB O) λb6=>yF 16 (j:=0) (cs2:=rowsL Pp (rs++[(⟨_,g5⟩:FS)])) Wn O ho (AV CL _) O O O O O jY (G8 Z) Z (by rw [BM];rfl) O λp_3 c_3 ho_3 hne_3=>yT (sl sr) (yQ (show List.Perm _ (AQ b5 86 (AZ ct.x)::AM ct.x.x.z.n::AM ct.x.x.m::AM ct.x.y.z.n::AM ct.x.y.m::AM g4.x.z.n::AM g4.x.m::AM g4.y.z.n::AM g4.y.m::AM g3.x.z.n::AM g3.x.m::AM g3.y.z.n::AM g3.y.m::rowW p_3 84 3 (rs.length+1) c_3 (rowsL Pp (rs++[(⟨_,g5⟩:FS)]))::AQ b4 93 ([(vI 0),(qa false),jj,jj,(qa false),jj,jj])::AQ b3 86 (AZ b)::AQ b2 86 (AZ a)::AQ b1 42 (Ec x)::AM a.x.z.n::AM a.x.m::AM a.y.z.n::AM a.y.m::AM b.x.z.n::AM b.x.m::AM b.y.z.n::AM b.y.m::AI x.a.p (rowsL Dp x.rs)::AI x.b.p (rowsL Bk ts)::AI x.c.p (rowsL BB ss)::(I9 (rs++[(⟨_,g5⟩:FS)])++DE x.rs)) from Qj (⟨_,g5⟩:FS) [AQ b5 86 (AZ ct.x),AM ct.x.x.z.n,AM ct.x.x.m,AM ct.x.y.z.n,AM ct.x.y.m,AM g4.x.z.n,AM g4.x.m,AM g4.y.z.n,AM g4.y.m,AM g3.x.z.n,AM g3.x.m,AM g3.y.z.n,AM g3.y.m,rowW p_3 84 3 (rs.length+1) c_3 (rowsL Pp (rs++[(⟨_,g5⟩:FS)])),AQ b4 93 ([(vI 0),(qa false),jj,jj,(qa false),jj,jj]),AQ b3 86 (AZ b),AQ b2 86 (AZ a),AQ b1 42 (Ec x),AM a.x.z.n,AM a.x.m,AM a.y.z.n,AM a.y.m,AM b.x.z.n,AM b.x.m,AM b.y.z.n,AM b.y.m,AI x.a.p (rowsL Dp x.rs),AI x.b.p (rowsL Bk ts),AI x.c.p (rowsL BB ss)] rs (DE x.rs)) (asg' O (oNl' ?_))))))))
     refine zB (sL [1,4,6,7,8,9,11,10,13] O) (zM (zA (zL (AL O (st' (Ad (c:=((i+1:Nat):Int)) O O (Ab (a:=i) (b:=1) Z)) O (asg' O (oNl' (zB (sL [1,4,6,7,8,9,11,10,13] O) ?_))))))))
     rw [show rs.length+1=(rs++[(⟨_,g5⟩:FS)]).length by simp]
     exact yA (i+1) p_3 c_3 (rs++[(⟨_,g5⟩:FS)]) (⟨Z,(by simpa using ho_3),(by rw [List.map_append];exact br Z er hc3),AtF.snoc hat lg5,(λr hr=>(List.mem_append.1 hr).elim (hsz r) (λh=>by rw [xM.1 h];exact Ry hu hv (NW hu hv (hz (IL (ts.getD t (0,0,0)) i)) (hz (IL (ts.getD t (0,0,0)) ((i+1)%3)))))),(by rw [xJ,List.length_singleton];omega)⟩) Z (sF O) (sl (sl (sl (sl (sl (sl (sl (sl (sl (sl (sl (sl (sl sr)))))))))))))
    ·replace hc3:=xQ hc3
     exact zI (zM (zA (zL (AL O (st' (Ad (c:=((i+1:Nat):Int)) O O (Ab (a:=i) (b:=1) Z)) O (asg' O (oNl' (zB (sL [1,4,6,7,8,9,11,10,13] O) (yA (i+1) p2 c2 rs (⟨Z,ho,bq Z er hc3,hat,hsz,Z⟩) Z (sF O) (sl (sl (sl (sl (sl (sl (sl (sl (sl (sl (sl (sl (sl sr))))))))))))))))))))))
   ·replace hc2:=xQ hc2
    have hpk:rs.map (·.q)=ID DS DT (BJ ps (ts.getD t (0,0,0)).1) (BJ ps (ts.getD t (0,0,0)).2.1) (BJ ps (ts.getD t (0,0,0)).2.2) u v:=by rw [<-er,show i=3 by omega];exact (List.append_nil _).symm
    have hpl:rs.length=(ID DS DT (BJ ps (ts.getD t (0,0,0)).1) (BJ ps (ts.getD t (0,0,0)).2.1) (BJ ps (ts.getD t (0,0,0)).2.2) u v).length:=by rw [<-hpk,xI]
    refine zW (zO (yH (zR (q1 (q4 (AL O (st' (v:=(vN rs.length)) (AD O underlying183) O (st' (Az (c:=(decide (rs.length=0))) O O (OI (a:=rs.length) (b:=0))) O (oNl' (zB (sL [1,4,6,7,8,9,11,10,66] O) (zA ?_)))))))))))
    refine zK O (λhc4=>?_) (λhc4=>?_)
    ·replace hc4:=xR hc4
     have hpn:ID DS DT (BJ ps (ts.getD t (0,0,0)).1) (BJ ps (ts.getD t (0,0,0)).2.1) (BJ ps (ts.getD t (0,0,0)).2.2) u v=[]:=by rw [<-hpk,List.length_eq_zero_iff.1 (show rs.length=0 by omega)];rfl
     exact q4 (st' (v:=(aG ([(vI 0),(qa false),jj,jj,(qa false),jj,jj]))) (AR (zs:=[(vI 0),(qa false),jj,jj,(qa false),jj,jj]) (vs:=[(vI 0),(qa false),jj,jj,(qa false),jj,jj]) (pv:=[]) (places:=[(0,1),(1,3),(4,3)]) zeroValue93 underlying93 (λw=>by simp [sizeOf3,sizeOf84]) O (Ky )) O (DG O sizeOf93 O (asg' O (oNl' (zB (sL [1,4,6,7,8,9,11,10] O) (zA (zF (zH (Bf O (Aa (i:=1) (cs:=[(vI 0),(qa false),jj,jj,(qa false),jj,jj]) O O isAgg93 sizeOf93 O) (rd_tmp (v:=(qa false)) O) (λw hw=>(UD.cast (KS hpn).symm (DC (a:=(⟨0,(λh=>by cases h),FX.zero,FX.zero⟩:UD t (0,0,false))) hw (c9 (Zc (bP LV) LV) (Zc (bP LV) LV)) O))))))))))))
    ·replace hc4:=xQ hc4
     refine zI (q1 (B8 (Ed 8++[(8,false),(9,false)]) sr (Bq O (Bq O (Ao (v:=(pP (pB p2) (pO p2+0*3))) O (AU (j:=0) O O ho.row underlying183 sizeOf84 O Z) (Ao (v:=(aG (fxL ((rs.getD 0 Cl).f)))) O (BP (vs:=fxL ((rs.getD 0 Cl).f)) (i:=0) O O ho (AV CL _) (BI.ne ho.row Z) Bm (BG CL Cl _ _ Z) (CL _)) (Bq O (Ao (v:=(pP (pB p2) (pO p2+0*3))) O (AU (j:=0) O O ho.row underlying183 sizeOf84 O Z) (Ao (v:=(aG (fxL ((rs.getD 0 Cl).f)))) O (BP (vs:=fxL ((rs.getD 0 Cl).f)) (i:=0) O O ho (AV CL _) (BI.ne ho.row Z) Bm (BG CL Cl _ _ Z) (CL _)) (Ao (v:=(aG ([(vN t)]++fxL ((rs.getD 0 Cl).f)++fxL ((rs.getD 0 Cl).f)))) O (AR (zs:=[(vI 0),(qa false),jj,jj,(qa false),jj,jj]) (vs:=[(vN t)]++fxL ((rs.getD 0 Cl).f)++fxL ((rs.getD 0 Cl).f)) (pv:=[(0,(vN t)),(1,(aG (fxL ((rs.getD 0 Cl).f)))),(2,(aG (fxL ((rs.getD 0 Cl).f))))]) (places:=[(0,1),(1,3),(4,3)]) zeroValue93 underlying93 (λw=>by simp [sizeOf3,sizeOf84]) O O) (zD O ?_)))))))))))
     refine al bE O λb5=>zC (sl sr) (zD O (Am O sizeOf93 O (zC (sl sr) (zP (zB (sL [1,4,6,7,8,9,11,10,14] O) (q1 (q4 (asg' O (oNl' (zA ?_))))))))))
     refine zN ?_
     refine yI (tg λ(j:Nat) (lo:Nat) (hi:Nat)=>j<rs.length/\lo<rs.length/\hi<rs.length/\(rs.getD lo Cl).q=UF (ID DS DT (BJ ps (ts.getD t (0,0,0)).1) (BJ ps (ts.getD t (0,0,0)).2.1) (BJ ps (ts.getD t (0,0,0)).2.2) u v) j/\(rs.getD hi Cl).q=UG (ID DS DT (BJ ps (ts.getD t (0,0,0)).1) (BJ ps (ts.getD t (0,0,0)).2.1) (BJ ps (ts.getD t (0,0,0)).2.2) u v) j) (tg λ(j:Nat) (lo:Nat) (hi:Nat)=>[(1,(vN t)),(4,(pP b1 0)),(6,(pP b2 0)),(7,(pP b3 0)),(8,(pP b4 0)),(9,(qa false)),(10,(qz p2 rs.length c2)),(14,(pP b5 0)),(15,(vN (j+1)))]) (tg λ(j:Nat) (lo:Nat) (hi:Nat)=>(AQ b5 93 ([(vN t)]++fxL ((rs.getD lo Cl).f)++fxL ((rs.getD hi Cl).f))::rowW p2 84 3 rs.length c2 (rowsL Pp rs)::AQ b4 93 ([(vI 0),(qa false),jj,jj,(qa false),jj,jj])::AQ b3 86 (AZ b)::AQ b2 86 (AZ a)::AQ b1 42 (Ec x)::AM a.x.z.n::AM a.x.m::AM a.y.z.n::AM a.y.m::AM b.x.z.n::AM b.x.m::AM b.y.z.n::AM b.y.m::AI x.a.p (rowsL Dp x.rs)::AI x.b.p (rowsL Bk ts)::AI x.c.p (rowsL BB ss)::(I9 rs++DE x.rs))) (tg λ(j:Nat) (lo:Nat) (hi:Nat)=>rs.length-j) 0 0 0 (⟨Z,Z,Z,Js hpk Z,Js hpk Z⟩) (sF O) sr (λj lo hi hJ=>?_)
     obtain ⟨hj,hlo,hhi,kl,kh⟩:=hJ
     have szlo:=Ts hsz hlo
     have szhi:=Ts hsz hhi
     refine zV (q4 (AL O (AL O (st' (v:=(vN rs.length)) (AD O underlying183) O (st' (Ag (c:=(decide ((j+1)<rs.length))) O O (DL (a:=j+1) (b:=rs.length))) O (oNl' (zB (sL [1,4,6,7,8,9,10,14,15,79] O) (zA ?_))))))))
     refine zK O (λhc5=>?_) (λhc5=>?_)
     ·replace hc5:=xR hc5
      refine zI (q1 (zN (zV (zV (B8 (Ed 6++[(6,false),(7,true)]) sr (Bq O (Bq O (Ao (v:=(pP (pB p2) (pO p2+(j+1)*3))) O (AU (j:=j+1) O O ho.row underlying183 sizeOf84 O Z) (Ao (v:=(aG (fxL ((rs.getD (j+1) Cl).f)))) O (BP (vs:=fxL ((rs.getD (j+1) Cl).f)) (i:=1) O O ho (AV CL _) (BI.ne ho.row Z) Bm (BG CL Cl _ _ Z) (CL _)) (Ao (v:=(pP b5 1)) O (AA O underlying93 O sizeOf84 O) (Dd 0 (fxL ((rs.getD lo Cl).f)) Bm O ?_)))))))))))
      refine zD O (CC call56 (λw hw=>Fr ((rs.getD (j+1) Cl).f) ((rs.getD lo Cl).f) (by have s5:=Ts hsz (show j+1<rs.length by omega);first|omega|(have s6:=Ts hsz l2b;omega)) w (Jt hw 17 O Z hat) (Jt hw 17 O Z hat)) O (zC sr (Ao O (Ag (c:=(decide ((BK ((rs.getD (j+1) Cl).q) ((rs.getD lo Cl).q))<(0:Int)))) O O O) (zP (zB (sL [1,4,6,7,8,9,10,14,15,89] O) (zA ?_))))))
      refine yU (tg λ(l2:Nat)=>l2<rs.length/\(rs.getD l2 Cl).q=UF (ID DS DT (BJ ps (ts.getD t (0,0,0)).1) (BJ ps (ts.getD t (0,0,0)).2.1) (BJ ps (ts.getD t (0,0,0)).2.2) u v) (j+1)) (tg λ(l2:Nat)=>[(1,(vN t)),(4,(pP b1 0)),(6,(pP b2 0)),(7,(pP b3 0)),(8,(pP b4 0)),(9,(qa false)),(10,(qz p2 rs.length c2)),(14,(pP b5 0)),(15,(vN (j+1)))]) (tg λ(l2:Nat)=>(AQ b5 93 ([(vN t)]++fxL ((rs.getD l2 Cl).f)++fxL ((rs.getD hi Cl).f))::rowW p2 84 3 rs.length c2 (rowsL Pp rs)::AQ b4 93 ([(vI 0),(qa false),jj,jj,(qa false),jj,jj])::AQ b3 86 (AZ b)::AQ b2 86 (AZ a)::AQ b1 42 (Ec x)::AM a.x.z.n::AM a.x.m::AM a.y.z.n::AM a.y.m::AM b.x.z.n::AM b.x.m::AM b.y.z.n::AM b.y.m::AI x.a.p (rowsL Dp x.rs)::AI x.b.p (rowsL Bk ts)::AI x.c.p (rowsL BB ss)::(I9 rs++DE x.rs))) ?_ ?_
      ·refine zK O (λhc6=>?_) (λhc6=>?_)
       ·replace hc6:=xR hc6
        exact zL (AL O (AL O (st' (v:=(pP (pB p2) (pO p2+(j+1)*3))) (AU (j:=j+1) O O ho.row underlying183 sizeOf84 O Z) O (st' (v:=(aG (fxL ((rs.getD (j+1) Cl).f)))) (BP (vs:=fxL ((rs.getD (j+1) Cl).f)) (i:=1) O O ho (AV CL _) (BI.ne ho.row Z) Bm (BG CL Cl _ _ Z) (CL _)) O (st' (v:=(pP b5 1)) (AA O underlying93 O sizeOf84 O) O (EV 0 (off:=1) (vs:=fxL ((rs.getD (j+1) Cl).f)) (cs':=[(vN t)]++fxL ((rs.getD (j+1) Cl).f)++fxL ((rs.getD hi Cl).f)) (AJ O) O sizeOf84 O (oNl' (zB (sL [1,4,6,7,8,9,10,14,15] O) (zr (j+1) (⟨Z,(by rw [Js hpk Z];exact cO Z kl (by rw [<-Js hpk Z];omega))⟩) (sF O) sr)))))))))
       ·replace hc6:=xQ hc6
        exact zI (zr lo (⟨Z,cM Z kl (by rw [<-Js hpk Z];omega)⟩) (sF O) sr)
      ·intro l2 hJ
       obtain ⟨l2b,l2k⟩:=hJ
       refine q1 (B8 (Ed 6++[(6,false),(7,true)]) sr (Bq O (Bq O (Ao (v:=(pP (pB p2) (pO p2+(j+1)*3))) O (AU (j:=j+1) O O ho.row underlying183 sizeOf84 O Z) (Ao (v:=(aG (fxL ((rs.getD (j+1) Cl).f)))) O (BP (vs:=fxL ((rs.getD (j+1) Cl).f)) (i:=1) O O ho (AV CL _) (BI.ne ho.row Z) Bm (BG CL Cl _ _ Z) (CL _)) (Ao (v:=(pP b5 4)) O (AA O underlying93 O sizeOf84 O) (Dd 0 (fxL ((rs.getD hi Cl).f)) Bm O (zD O (CC call56 (λw hw=>Fr ((rs.getD (j+1) Cl).f) ((rs.getD hi Cl).f) (by have s5:=Ts hsz (show j+1<rs.length by omega);first|omega|(have s6:=Ts hsz l2b;omega)) w (Jt hw 17 O Z hat) (Jt hw 17 O Z hat)) O (zC sr (Ao O (Bu (c:=(decide ((0:Int)<(BK ((rs.getD (j+1) Cl).q) ((rs.getD hi Cl).q))))) O O O) ?_)))))))))))
       refine zP (zB (sL [1,4,6,7,8,9,10,14,15,102] O) (zA ?_))
       refine yU (tg λ(h2:Nat)=>h2<rs.length/\(rs.getD h2 Cl).q=UG (ID DS DT (BJ ps (ts.getD t (0,0,0)).1) (BJ ps (ts.getD t (0,0,0)).2.1) (BJ ps (ts.getD t (0,0,0)).2.2) u v) (j+1)) (tg λ(h2:Nat)=>[(1,(vN t)),(4,(pP b1 0)),(6,(pP b2 0)),(7,(pP b3 0)),(8,(pP b4 0)),(9,(qa false)),(10,(qz p2 rs.length c2)),(14,(pP b5 0)),(15,(vN (j+1)))]) (tg λ(h2:Nat)=>(AQ b5 93 ([(vN t)]++fxL ((rs.getD l2 Cl).f)++fxL ((rs.getD h2 Cl).f))::rowW p2 84 3 rs.length c2 (rowsL Pp rs)::AQ b4 93 ([(vI 0),(qa false),jj,jj,(qa false),jj,jj])::AQ b3 86 (AZ b)::AQ b2 86 (AZ a)::AQ b1 42 (Ec x)::AM a.x.z.n::AM a.x.m::AM a.y.z.n::AM a.y.m::AM b.x.z.n::AM b.x.m::AM b.y.z.n::AM b.y.m::AI x.a.p (rowsL Dp x.rs)::AI x.b.p (rowsL Bk ts)::AI x.c.p (rowsL BB ss)::(I9 rs++DE x.rs))) ?_ ?_
       ·refine zK O (λhc7=>?_) (λhc7=>?_)
        ·replace hc7:=xR hc7
         exact zL (AL O (AL O (st' (v:=(pP (pB p2) (pO p2+(j+1)*3))) (AU (j:=j+1) O O ho.row underlying183 sizeOf84 O Z) O (st' (v:=(aG (fxL ((rs.getD (j+1) Cl).f)))) (BP (vs:=fxL ((rs.getD (j+1) Cl).f)) (i:=1) O O ho (AV CL _) (BI.ne ho.row Z) Bm (BG CL Cl _ _ Z) (CL _)) O (st' (v:=(pP b5 4)) (AA O underlying93 O sizeOf84 O) O (EV 0 (off:=4) (vs:=fxL ((rs.getD (j+1) Cl).f)) (cs':=[(vN t)]++fxL ((rs.getD l2 Cl).f)++fxL ((rs.getD (j+1) Cl).f)) (AJ O) O sizeOf84 O (oNl' (zB (sL [1,4,6,7,8,9,10,14,15] O) (zr (j+1) (⟨Z,(by rw [Js hpk Z];exact cT Z kh (by rw [<-Js hpk Z];omega))⟩) (sF O) sr)))))))))
        ·replace hc7:=xQ hc7
         exact zI (zr hi (⟨Z,cS Z kh (by rw [<-Js hpk Z];omega)⟩) (sF O) sr)
       ·intro h2 hJ
        obtain ⟨h2b,h2k⟩:=hJ
        exact zM (zA (zL (AL O (st' (Ad (c:=(((j+1)+1:Nat):Int)) O O (Ab (a:=j+1) (b:=1) Z)) O (asg' O (oNl' (zB (sL [1,4,6,7,8,9,10,14,15] O) (z6 (j+1) l2 h2 (⟨Z,l2b,h2b,l2k,h2k⟩) Z (sF O) sr))))))))
     ·replace hc5:=xQ hc5
      have hPr:=cn (f:=DS) (g:=DT) (A:=BJ ps (ts.getD t (0,0,0)).1) (B:=BJ ps (ts.getD t (0,0,0)).2.1) (C:=BJ ps (ts.getD t (0,0,0)).2.2) (a:=u) (b:=v) (n:=j) rfl Z
      rw [<-kl,<-kh] at hPr
      refine zW (zO (zi (zR (q2 (st' (v:=(pP b5 1)) (AA O underlying93 O sizeOf84 O) O (Br 0 (fxL ((rs.getD lo Cl).f)) Bm O (st' (v:=(pP b5 4)) (AA O underlying93 O sizeOf84 O) O (Br 0 (fxL ((rs.getD hi Cl).f)) Bm O ?_))))))))
      have hz1:=DY ((rs.getD lo Cl).q) ((rs.getD hi Cl).q)
      refine cF (S:=S) (x:=(((rs.getD lo Cl).q)+((rs.getD hi Cl).q))) (args:=[(aG (fxL ((rs.getD lo Cl).f))),(aG (fxL ((rs.getD hi Cl).f)))]) call102 (λw hw=>Is ((rs.getD lo Cl).f) ((rs.getD hi Cl).f) (by (try simp only [BE]);omega) w (Jt hw 17 O Z hat) (Jt hw 17 O Z hat)) O O O λg6 lg6=>cF (S:=S) (x:=(((2:Int):Int):Rat)) (args:=[(vI 2)]) call98 (λw hw=>Hp (2:Int) Z Z w) O O O λg7 lg7=>?_
      have hz2:=Hf (((rs.getD lo Cl).q)+((rs.getD hi Cl).q)) (((2:Int):Int):Rat)
      refine cF (S:=S) (x:=((((rs.getD lo Cl).q)+((rs.getD hi Cl).q))/(((2:Int):Int):Rat))) (args:=[(aG (fxL g6)),(aG (fxL g7))]) call101 (λw hw=>It g6 g7 (by (try simp only [BE]);omega) w (inS hw 2 O lg6) (inS hw 0 O lg7)) O O O λg8 lg8=>al HZ O λb6=>Am O sizeOf84 O (q6 (sL [1,4,6,7,8,9,10,14,15,16] O) (B8 (Ed 6++[(6,false),(7,false),(8,true),(9,false),(10,true)]) (sk (sk (sk (sk (sk (sk (sk (sk (sk (sl sr)))))))))) (Bv 7 Wm O (Bv 11 EW O (Bq O (Bv 10 Ap O (Bv 9 Ap O (Bv 0 Bm O (zD O ?_)))))))))
      have hzpl:=ai hu hv szlo szhi
      refine cP (S:=S) (x:=(Ez u v (((rs.getD lo Cl).q+(rs.getD hi Cl).q)*(1/2)))) (args:=[(aG (AZ a)),(aG (AZ b)),(aG (fxL g8))]) call103 (λw hw=>(Ai.cast (T:=λi=>PX i) (by rw [So]) (Tj a b g8 (by have q1:=DY (rs.getD lo Cl).q (rs.getD hi Cl).q;have q2:Sz ((2:Int):Rat)<=8:=(by decide +kernel);have q3:=GQ ((rs.getD lo Cl).q+(rs.getD hi Cl).q) ((2:Int):Rat);omega) w (inS hw 13 O la) (inS hw 17 O lb) (inS hw 1 O lg8)))) O O O λg9 lg9=>zC (sl (sl (sl (sl (sk (sk (sk (sk (sk (sk (sk (sk (sk (sl sr)))))))))))))) (zD O (CC call52 (λw hw=>LZ x g9 t ht hnb hzk Z w (inS hw 0 O lg9) (O1 hw 25 O 28 O lx)) O (zC (sl (sl (sl (sl (sk (sk (sk (sk (sk (sk (sk (sk (sk (sl sr)))))))))))))) (Ao O (Az (c:=(decide ((BR ps (Ez u v (((rs.getD lo Cl).q+(rs.getD hi Cl).q)*(1/2))) (ts.getD t (0,0,0)))=1))) O O (OI (a:=BR ps (Ez u v (((rs.getD lo Cl).q+(rs.getD hi Cl).q)*(1/2))) (ts.getD t (0,0,0))) (b:=1))) (zD O (EV 13 (off:=0) (vs:=[(vN t)]++fxL ((rs.getD lo Cl).f)++fxL ((rs.getD hi Cl).f)) (cs':=[(vN t)]++fxL ((rs.getD lo Cl).f)++fxL ((rs.getD hi Cl).f)) (AJ O) O sizeOf93 O (zC (sl (sl (sl (sl (sk (sk (sk (sk (sk (sk (sk (sk (sk (sl sr)))))))))))))) (pS' O (zP (zB (sL [1,4,6,7,8,9,10,14,15,16] O) ?_))))))))))
      exact zA (zF (Bf O (Aa (i:=13) (cs:=[(vN t)]++fxL ((rs.getD lo Cl).f)++fxL ((rs.getD hi Cl).f)) O O isAgg93 sizeOf93 O) (rd_tmp (v:=(qa (decide ((BR ps (Ez u v (((rs.getD lo Cl).q+(rs.getD hi Cl).q)*(1/2))) (ts.getD t (0,0,0)))=1)))) O) (λw hw=>(UD.cast hPr.symm (DC (a:=(⟨t,(λ_=>rfl),(rs.getD lo Cl).f,(rs.getD hi Cl).f⟩:UD t ((rs.getD lo Cl).q,(rs.getD hi Cl).q,_))) hw (c9 (Jt hw 28 O Z hat) (Jt hw 28 O Z hat)) O)))))
end
section
set_option maxRecDepth 100000
theorem U5 {ps:List Pt} {v:Pt} {k:Nat} (hv:BD v<=1000) (hz:BD (BJ ps k)<=1000):Sz (Oo ps v k)<=20000:=by
 have h1:=Bi v (BJ ps k)
 have h2:=GR (v-BJ ps k) (v-BJ ps k)
 unfold Oo;omega
theorem aX {b:Int} (h:¬b<0):vI b=vN b.toNat:=by
 show vI b=vI ((b.toNat:Nat):Int)
 rw [Int.toNat_of_nonneg Z]
set_option maxHeartbeats 1000000 in
theorem V8 {ps:List Pt} {zt ss:List Z3} (x:Ji ps zt ss) {v:Pt} (q:PX v) (hN:ps.length<=1000000) (hz:∀k,BD (BJ ps k)<=1000) (hv:BD v<=1000) (w:World) {S:Nat->Prop} (hq:Ro S w q) (hx:Ro S w x):Calls prog 25 #[(aG (G1 x)),(aG (AZ q))] w (AY w (vI ((nerF (Oo ps v) ps.length).1))):=by
 have hxl:=x.len
 have hzp:∀i,i<x.rs.length->BD (x.rs.getD i Dv).p<=1000:=λi hi=>by rw [x.at hi];exact hz i
 have lq:=Bs (W:=w) hq
 have lx:=Bs (W:=w) hx
 refine AX (args:=[(aG (G1 x)),(aG (AZ q))]) (L:=(AM q.x.z.n::AM q.x.m::AM q.y.z.n::AM q.y.m::AI x.a.p (rowsL Dp x.rs)::AI x.b.p (rowsL BB zt)::AI x.c.p (rowsL BB ss)::DE x.rs)) func25 O O (leB O) (E1 hq (XF hx)) (zG (sL [0,1] O) (q4 (A9 (cs:=G1 x) O λb1=>A9 (cs:=AZ q) O λb2=>asg' O (q3 (sL [2,3,4] O) (asg' O (oNl' (q1 (q4 (asg' O ?_)))))))))
 refine oNl' (zA (zN ?_))
 refine yE (tg λ(i:Nat) (b:Int)=>i<=ps.length/\NrI (Oo ps v) i b) (tg λ(i:Nat) (b:Int)=>[(2,(pP b1 0)),(3,(pP b2 0)),(4,(vI 0)),(6,(vN i)),(5,(vI b))]) (tg λ(i:Nat) (b:Int)=>(AQ b2 86 (AZ q)::AQ b1 42 (G1 x)::AM q.x.z.n::AM q.x.m::AM q.y.z.n::AM q.y.m::AI x.a.p (rowsL Dp x.rs)::AI x.b.p (rowsL BB zt)::AI x.c.p (rowsL BB ss)::DE x.rs)) (tg λ(i:Nat) (b:Int)=>ps.length-i) 0 (-1) (⟨xH _,ce⟩) (sF O) sr (λi b hJ=>?_)
 obtain ⟨hi,hI⟩:=hJ
 refine zV (q4 (AL O (st' (v:=(pP b1 0)) (AA O underlying42 O sizeOf39 O) O (BZ 1 (qz x.a.p x.rs.length x.a.c) Tw O (st' (v:=(vN x.rs.length)) (AD O underlying39) O (st' (Ag (c:=(decide (i<x.rs.length))) O O (DL (a:=i) (b:=x.rs.length))) O (oNl' (zB (sL [2,3,4,6,5,11] O) (zA ?_)))))))))
 refine zK O (λhc0=>?_) (λhc0=>?_)
 ·replace hc0:=xR hc0
  refine zI (q1 (zN (zV ?_)))
  by_cases h0:b<0
  ·refine B8 (Ed 9++[(10,true),(11,true),(12,true),(13,true),(14,true),(15,true),(9,false),(16,false),(17,false),(18,true),(19,true)]) sr (Bq O (Ao O (Ag (c:=true) O O (xE h0)) (Bq O (zZ O (Aw O) O O (zZ O (Aw O) O O (zZ O (Aw O) O O (zZ O (Aw O) O O (zZ O (Aw O) O O (zZ O (Aw O) O O (zZ O (Aw O) O O (zZ O (Aw O) O O ?_)))))))))))
   refine zZ O (Aw O) O O (zZ O (Aw O) O O (zZ O (Aw O) O O (zZ O (Aw O) O O (zD O (BF O (zC sr (zD O (BF O (zC sr (zD O (BF O ?_)))))))))))
   refine zC sr (zZ O (Aw O) O O (Ao (v:=(qa true)) O (ex_pick_true O O) (zP (zB (sL [2,3,4,6,5,33] O) (zA (zY O (zL (AL O (asg' O (oNl' (zB (sL [2,3,4,6,5] O) ?_)))))))))))
   exact zM (zA (zL (AL O (st' (Ad (c:=((i+1:Nat):Int)) O O (Ab (a:=i) (b:=1) Z)) O (asg' O (oNl' (zB (sL [2,3,4,6,5] O) (zl (i+1) ((i:Nat):Int) (⟨Z,YR hI h0⟩) Z (sF O) sr))))))))
  ·have hbl:=aW hI h0
   refine yK (k:=5) (u:=vN b.toNat) O (aX h0) (B8 (Ed 9++[(10,true),(11,true),(12,true),(13,true),(14,true),(15,true),(9,false),(16,false),(17,false),(18,true),(19,true)]) sr (Bq O (Ao O (Ag (c:=false) O O (xz Z)) (Bq O (zQ (v:=(aG (AZ q))) O (AE O) (AW (i:=0) (vs:=AZ q) O O Ap.a Ap.s O O) O O (zQ (v:=(pP b1 0)) O (AE O) (AA O underlying42 O sizeOf39 O) O O (zQ (v:=(qz x.a.p x.rs.length x.a.c)) O (AE O) (AP (i:=1) (v:=(qz x.a.p x.rs.length x.a.c)) O O Tw.a O) O O (zQ (v:=(vN i)) O (AE O) (A7 O) O O (zQ (v:=(pP (pB x.a.p) (pO x.a.p+i*6))) O (AE O) (AU (j:=i) O O x.a.ok underlying39 sizeOf86 O Z) O O (zQ (v:=(aG (AZ ((x.rs.getD i Dv).x)))) O (AE O) (Af (vs:=AZ ((x.rs.getD i Dv).x)) (i:=6) O O (BI.ne x.a.ok Z) Ap (BG Bl Dv _ _ Z) (Bl _)) O O (zQ (v:=(aG (AZ q))) O (AE O) (AW (i:=0) (vs:=AZ q) O O Ap.a Ap.s O O) O O ?_)))))))))))
   refine zQ (v:=(pP b1 0)) O (AE O) (AA O underlying42 O sizeOf39 O) O O (zQ (v:=(qz x.a.p x.rs.length x.a.c)) O (AE O) (AP (i:=1) (v:=(qz x.a.p x.rs.length x.a.c)) O O Tw.a O) O O (zQ (v:=(vN b.toNat)) O (AE O) (A7 O) O O (zQ (v:=(pP (pB x.a.p) (pO x.a.p+b.toNat*6))) O (AE O) (AU (j:=b.toNat) O O x.a.ok underlying39 sizeOf86 O Z) O O (zQ (v:=(aG (AZ ((x.rs.getD b.toNat Dv).x)))) O (AE O) (Af (vs:=AZ ((x.rs.getD b.toNat Dv).x)) (i:=6) O O (BI.ne x.a.ok Z) Ap (BG Bl Dv _ _ Z) (Bl _)) O O (zD O ?_)))))
   have hzd0:=U5 (k:=i) hv (hz i)
   refine yW (AE O) (cF (S:=S) (x:=(Oo ps v i)) (args:=[(aG (AZ q)),(aG (AZ ((x.rs.getD i Dv).x)))]) call58 (λw hw=>(Ai.cast (T:=λi=>FX i) (by rw [x.at Z];rfl) (Jw q ((x.rs.getD i Dv).x) (by have:=hzp i Z;omega) w (inS hw 2 O lq) (VP hw 9 O Z (At.rpt lx))))) O O O λg1 lg1=>zC (sl (sl sr)) (zD O ?_))
   have hzd1:=U5 (k:=b.toNat) hv (hz b.toNat)
   refine yW (AE O) (cF (S:=S) (x:=(Oo ps v b.toNat)) (args:=[(aG (AZ q)),(aG (AZ ((x.rs.getD b.toNat Dv).x)))]) call58 (λw hw=>(Ai.cast (T:=λi=>FX i) (by rw [x.at Z];rfl) (Jw q ((x.rs.getD b.toNat Dv).x) (by have:=hzp b.toNat Z;omega) w (inS hw 4 O lq) (VP hw 11 O Z (At.rpt lx))))) O O O λg2 lg2=>zC (sl (sl (sl (sl sr)))) (zD O (zc (v:=(vI (BK (Oo ps v i) (Oo ps v b.toNat)))) (AE O) (Ac (args:=[(aG (fxL g1)),(aG (fxL g2))]) O O call56) (λw hw=>Fr g1 g2 Z w (inS hw 2 O lg1) (inS hw 0 O lg2)) O (leB O) (zC (sl (sl (sl (sl sr)))) (zQ (v:=(qa (decide ((BK (Oo ps v i) (Oo ps v b.toNat))<(0:Int))))) O (AE O) (Ag (c:=(decide ((BK (Oo ps v i) (Oo ps v b.toNat))<(0:Int)))) O O O) O O (Ao (v:=(qa (decide ((BK (Oo ps v i) (Oo ps v b.toNat))<(0:Int))))) O (AN O O) (zP (zB (sL [2,3,4,6,5,33] O) (zA ?_)))))))))
   refine zK O (λhc1=>?_) (λhc1=>?_)
   ·replace hc1:=xR hc1
    refine zL (AL O (asg' O (oNl' (zB (sL [2,3,4,6,5] O) (zM (zA (zL (AL O (st' (Ad (c:=((i+1:Nat):Int)) O O (Ab (a:=i) (b:=1) Z)) O (asg' O (oNl' ?_)))))))))))
    exact zB (sL [2,3,4,6,5] O) (zl (i+1) ((i:Nat):Int) (⟨Z,cg hI h0 hc1⟩) Z (sF O) (sl (sl (sl (sl sr)))))
   ·replace hc1:=xQ hc1
    exact zI (zM (zA (zL (AL O (st' (Ad (c:=((i+1:Nat):Int)) O O (Ab (a:=i) (b:=1) Z)) O (asg' O (oNl' (zB (sL [2,3,4,6,5] O) (zl (i+1) ((b.toNat:Nat):Int) (⟨Z,(by rw [Int.toNat_of_nonneg Z];exact cf hI h0 hc1)⟩) Z (sF O) (sl (sl (sl (sl sr)))))))))))))
 ·replace hc0:=xQ hc0
  exact zW (zO (zh (zR (q2 (AL O (asg' O (oNl' (zB (sL [2,3,4,6,5] O) (zA (zF (ret_one O (rd_tmp (v:=(vI b)) O) (λw hw=>⟨by rw [show ps.length=i by omega,YQ hI],hw.out⟩))))))))))))
theorem TY {ps:List Pt} {zt ss:List Z3} (x:Ji ps zt ss) {v:Pt} (q:PX v) (hnb:Du ps.length zt=false) (hl:zt.length<=1000000) (w:World) {S:Nat->Prop} (hq:Ro S w q) (hx:Ro S w x):Calls prog 21 #[(aG (G1 x)),(aG (AZ q))] w (AY w (Value.tuple #[(vI (-1:Int)),(vI 0)])):=by
 have lq:=Bs (W:=w) hq
 have lx:=Bs (W:=w) hx
 refine AX (args:=[(aG (G1 x)),(aG (AZ q))]) (L:=(AM q.x.z.n::AM q.x.m::AM q.y.z.n::AM q.y.m::AI x.a.p (rowsL Dp x.rs)::AI x.b.p (rowsL BB zt)::AI x.c.p (rowsL BB ss)::DE x.rs)) func21 O O (leB O) (E1 hq (XF hx)) (zG (sL [0,1] O) (q4 (A9 (cs:=G1 x) O λb1=>A9 (cs:=AZ q) O λb2=>asg' O (asg' O (q6 (sL [2,3,4,5] O) (q4 (asg' O (oNl' (zA ?_)))))))))
 refine zN (yB 1 (zj (zV (q4 (AL O (st' (v:=(pP b1 1)) (AA O underlying42 O sizeOf23 O) O (BZ 1 (qz x.b.p zt.length x.b.c) HY O (st' (v:=(vN zt.length)) (AD O underlying23) O (st' (Ag (c:=(decide (0<zt.length))) O O (DL (a:=0) (b:=zt.length))) O (AL O ?_))))))))))
 refine zg (FM:=[(2,(pP b1 0)),(3,(pP b2 0)),(4,(vI 0)),(5,(vI 0)),(6,(vI 0)),(7,(vI 0)),(8,(pP b1 1)),(9,(qz x.b.p zt.length x.b.c)),(10,(vN zt.length)),(11,(qa (decide (0<zt.length)))),(12,(qa (decide (0<zt.length)))),(15,(qa ((decide (0<zt.length))&&false)))]) (LM:=(AQ b2 86 (AZ q)::AQ b1 42 (G1 x)::AM q.x.z.n::AM q.x.m::AM q.y.z.n::AM q.y.m::AI x.a.p (rowsL Dp x.rs)::AI x.b.p (rowsL BB zt)::AI x.c.p (rowsL BB ss)::DE x.rs)) 3 ?_ ?_
 ·rcases xO (decide (0<zt.length)) with hg1|hg1
  ·refine zJ (k:=12) (u:=qa true) O (by rw [hg1]) ?_
   have hg1':=xR hg1
   exact BN (v:=(aG (G1 x))) O (AW (i:=1) (vs:=G1 x) O O EW.a EW.s O O) (zc (v:=(qa false)) (AE O) (Ac (args:=[(aG (G1 x))]) O O call51) (λw hw=>(by have h9:=Iv x.rq Z w (Yy (Mt (x:=x) hw 6 O 9 (λz hz=>hz) lx));rw [show Du x.rs.length zt=false from (by rw [x.len];exact hnb)] at h9;exact h9)) O (leB O) (st' (v:=(qa false)) (ex_pick_true O O) O (oNl' (zS CK (xP _)))))
  ·refine zJ (k:=12) (u:=qa false) O (by rw [hg1]) ?_
   have hg1':=xQ hg1
   exact BF O (BF O (st' (v:=(qa false)) (AN O O) O (oNl' (zS CK (xP _)))))
 refine oNl' (zB (sL [2,3,4,5,6,15] O) (zA ?_))
 refine zK O (λhc0=>?_) (λhc0=>?_)
 ·simp only [jK] at hc0
  simp at hc0
 ·simp only [jK] at hc0
  exact zW (zO (zO (zR (q2 (asg' O (asg' O (oNl' (zA (zF (Bf O (rd_tmp (v:=(vI (-1:Int))) O) (rd_tmp (v:=(vI 0)) O) (λw hw=>⟨rfl,hw.out⟩)))))))))))
theorem SH {p q:Pt} (h:¬p=q):CG p q=false:=by
 cases h9:CG p q with
 | false=>rfl
 | true =>
  unfold CG at h9
  simp only [xZ,xT] at h9
  exact absurd (Pt.ext h9.1 h9.2) h
theorem Y0 (p:Pt):CG p p=true:=by unfold CG;simp
theorem WB {ps:List Pt} {zt ss:List Z3} (x:Ji ps zt ss) {u v:Pt} (a:PX u) (b:PX v) (hab:¬u=v) (hs:BD u+BD v<=4000) (hnb:Du ps.length zt=false) (hl:zt.length<=1000000) (w:World) {S:Nat->Prop} (ha:Ro S w a) (hb:Ro S w b) (hx:Ro S w x):Calls prog 23 #[(aG (G1 x)),(aG (AZ a)),(aG (AZ b))] w (Ai (UU []) S w):=by
 have la:=Bs (W:=w) ha
 have lb:=Bs (W:=w) hb
 have lx:=Bs (W:=w) hx
 refine AX (args:=[(aG (G1 x)),(aG (AZ a)),(aG (AZ b))]) (L:=(AM a.x.z.n::AM a.x.m::AM a.y.z.n::AM a.y.m::AM b.x.z.n::AM b.x.m::AM b.y.z.n::AM b.y.m::AI x.a.p (rowsL Dp x.rs)::AI x.b.p (rowsL BB zt)::AI x.c.p (rowsL BB ss)::DE x.rs)) func23 O O (leB O) (E1 ha (E1 hb (XF hx))) (zG (sL [0,1,2] O) (q4 (A9 (cs:=G1 x) O λb1=>A9 (cs:=AZ a) O λb2=>A9 (cs:=AZ b) O λb3=>asg' O (q3 (sL [3,4,5,6] O) (asg' O (oNl' (q1 (q4 ?_))))))))
 refine Ah 1 Ap O (Ah 0 Ap O (CC (args:=[(aG (AZ a)),(aG (AZ b))]) (v:=(qa false)) call54 (λw hw=>(by have h9:=Ej a b Z w (inS hw 3 O la) (inS hw 7 O lb);rw [SH hab] at h9;exact h9)) O (AL O (BN (v:=(aG (G1 x))) O (AW (i:=2) (vs:=G1 x) O O EW.a EW.s O O) (zc (v:=(qa false)) (AE O) (Ac (args:=[(aG (G1 x))]) O O call51) (λw hw=>(by have h9:=Iv x.rq Z w (Yy (Mt (x:=x) hw 11 O 14 (λz hz=>hz) lx));rw [show Du x.rs.length zt=false from (by rw [x.len];exact hnb)] at h9;exact h9)) O (leB O) (BN (v:=(qa true)) O (Bh (c:=true) O O) (st' (v:=(qa true)) (AN O O) O (oNl' (zB (sL [3,4,5,6,7,19] O) (zA (zY O ?_)))))))))))
 exact q4 (AL O (asg' O (oNl' (zB (sL [3,4,5,6,7] O) (zA (zF (zH (ret_one O (rd_tmp (v:=jj) O) (λw hw=>(Vn hw.out O))))))))))
theorem WA {ps:List Pt} {zt ss:List Z3} (x:Ji ps zt ss) {u:Pt} (a b:PX u) (hs:BD u<=2000) (w:World) {S:Nat->Prop} (ha:Ro S w a) (hb:Ro S w b) (hx:Ro S w x):Calls prog 23 #[(aG (G1 x)),(aG (AZ a)),(aG (AZ b))] w (Ai (UU []) S w):=by
 have la:=Bs (W:=w) ha
 have lb:=Bs (W:=w) hb
 have lx:=Bs (W:=w) hx
 refine AX (args:=[(aG (G1 x)),(aG (AZ a)),(aG (AZ b))]) (L:=(AM a.x.z.n::AM a.x.m::AM a.y.z.n::AM a.y.m::AM b.x.z.n::AM b.x.m::AM b.y.z.n::AM b.y.m::AI x.a.p (rowsL Dp x.rs)::AI x.b.p (rowsL BB zt)::AI x.c.p (rowsL BB ss)::DE x.rs)) func23 O O (leB O) (E1 ha (E1 hb (XF hx))) (zG (sL [0,1,2] O) (q4 (A9 (cs:=G1 x) O λb1=>A9 (cs:=AZ a) O λb2=>A9 (cs:=AZ b) O λb3=>asg' O (q3 (sL [3,4,5,6] O) (asg' O (oNl' (q1 (q4 ?_))))))))
 refine Ah 1 Ap O (Ah 0 Ap O (CC (args:=[(aG (AZ a)),(aG (AZ b))]) (v:=(qa true)) call54 (λw hw=>(by have h9:=Ej a b Z w (inS hw 3 O la) (inS hw 7 O lb);rw [Y0] at h9;exact h9)) O (AL O (BF O (BF O (BF O (st' (v:=(qa true)) (ex_pick_true O O) O (oNl' (zB (sL [3,4,5,6,7,19] O) (zA (zY O ?_)))))))))))
 exact q4 (AL O (asg' O (oNl' (zB (sL [3,4,5,6,7] O) (zA (zF (zH (ret_one O (rd_tmp (v:=jj) O) (λw hw=>(Vn hw.out O))))))))))
end
end Go.Proofs.YtcpkbjjmcleplaaGreatDoor
