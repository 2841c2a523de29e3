import Derived.Test.YtcpkbjjmcleplaaGreatDoorPart45
namespace Go.Proofs.YtcpkbjjmcleplaaGreatDoor
open Go Go.RowKit Go.Proofs.Tryz
open Go.Value renaming slice→qz,bool→qa
set_option linter.unusedVariables false
set_option linter.unusedSimpArgs false
section
set_option maxRecDepth 100000
theorem HV:ElemT prog 88 93 7 120:=⟨underlying88,Cx jV⟩
theorem E1 (x0:DP):Instr.fill (λi=>some (i*7,7)) ((Array.range (1*7)).map ((Value.agg ([(vI 0),(qa false),jj,jj,(qa false),jj,jj]).toArray).cells[·%(Value.agg ([(vI 0),(qa false),jj,jj,(qa false),jj,jj]).toArray).cells.size]!)) [(0,.agg (Cf x0).toArray)]=some (Cf x0).toArray:=by kernel_rfl
set_option maxHeartbeats 4000000 in
theorem XR {ps:List Pt} {ts:List T3} {ss:List Z3} (x:PJ ps ts ss) {u v:Pt} (a:PX u) (b:PX v) (hab:¬u=v) (htl:ts.length<=1000000) (hN:ps.length<=1000000) (hnb:Ek ps.length ts=true) (hz:∀k,BO (BU ps k)<=6) (hu:BO u<=6) (hv:BO v<=6) (w:World) {S:Nat->Prop} (ha:Ro S w a) (hb:Ro S w b) (hx:Ro S w x):Calls prog 23 #[(aG (E6 x)),(aG (Ae a)),(aG (Ae b))] w (Aj (Vh (F6 Dj Dk ps ts u v ts.length)) S w):=by
 have la:=Bx (W:=w) ha
 have lb:=Bx (W:=w) hb
 have lx:=Bx (W:=w) hx
 refine AZ (args:=[(aG (E6 x)),(aG (Ae a)),(aG (Ae b))]) (L:=(AM a.x.z.n::AM a.x.m::AM a.y.z.n::AM a.y.m::AM b.x.z.n::AM b.x.m::AM b.y.z.n::AM b.y.m::AI x.a.p (rowsL EE x.rs)::AI x.b.p (rowsL BC ts)::AI x.c.p (rowsL Bn ss)::(C2 ([]:List DP)++DJ x.rs))) func23 O O (leB O) (Fc ha (Fc hb (YZ hx))) (zI (sL [0,1,2] O) (q4 (BH (cs:=E6 x) O λb1=>BH (cs:=Ae a) O λb2=>BH (cs:=Ae b) O λb3=>asg' O (q3 (sL [3,4,5,6] O) (asg' O (zm 93 7 (oNl' (q1 ?_))))))))
 refine q4 (Af 2 Ar O (Af 1 Ar O (CQ (args:=[(aG (Ae a)),(aG (Ae b))]) (v:=(qa false)) call54 (λw hw=>(by have h9:=FF a b Z w (inS hw 4 O la) (inS hw 8 O lb);rw [TQ hab] at h9;exact h9)) O (AK O (BV (v:=(aG (E6 x))) O (AY (i:=3) (vs:=E6 x) O O Ey.a Ey.s O O) (zd (v:=(qa true)) (AE O) (Ag (args:=[(aG (E6 x))]) O O call51) (λw hw=>(by obtain ⟨y2,hy2,_,hro⟩:=bY x;have h9:=JS y2.rq (by rw [xI];omega) w (aX (hro (P_ hw 12 O 15 O lx)));rw [Nu,show Ek y2.rs.length ts=true from (by rw [y2.len];exact hnb),show Iu y2.rq=E6 x from hy2] at h9;exact h9)) O (leB O) (BV (v:=(qa false)) O (Bs (c:=false) O O) (st' (v:=(qa false)) (AN O O) O (oNl' (zB (sL [3,4,5,6,7,19] O) (zA ?_)))))))))))
 refine zU O (zG (q1 (q4 (asg' O (oNl' (zB (sL [3,4,5,6,7,8] O) (zA (zM ?_))))))))
 refine yX (tg λ(t:Nat) (p:Option Addr) (c:Nat) (rs:List DP)=>t<=ts.length/\OwnOk p rs.length c/\rs.map (·.pc)=F6 Dj Dk ps ts u v t/\(∀y∈C2 rs,∀b,y.foot=some b->Nw ⟨w,none⟩ S b)/\(∀r∈rs,Sz r.u.q<=346/\Sz r.v.q<=346)/\rs.length<=t) (tg λ(t:Nat) (p:Option Addr) (c:Nat) (rs:List DP)=>[(3,(pP b1 0)),(4,(pP b2 0)),(5,(pP b3 0)),(6,jj),(8,(vN t)),(7,(qz p rs.length c))]) (tg λ(t:Nat) (p:Option Addr) (c:Nat) (rs:List DP)=>(rowW p 93 7 rs.length c (rowsL Cf rs)::AO b3 86 (Ae b)::AO b2 86 (Ae a)::AO b1 42 (E6 x)::AM a.x.z.n::AM a.x.m::AM a.y.z.n::AM a.y.m::AM b.x.z.n::AM b.x.m::AM b.y.z.n::AM b.y.m::AI x.a.p (rowsL EE x.rs)::AI x.b.p (rowsL BC ts)::AI x.c.p (rowsL Bn ss)::(C2 rs++DJ x.rs))) (tg λ(t:Nat) (p:Option Addr) (c:Nat) (rs:List DP)=>ts.length-t) 0 none 0 ([]:List DP) (⟨xH _,OwnOk.none,rfl,(λy hy=>by cases hy),(λr hr=>by cases hr),Nat.le_refl 0⟩) (sF O) sr (λt p c rs hJ=>?_)
 obtain ⟨ht,ho,her,hat,hsz,hrl⟩:=hJ
 obtain ⟨pv,hpv⟩:∃s,s=JM Dj Dk ps u v (ts.getD t (0,0,0)):=⟨_,rfl⟩
 have hzpv:=dB (f:=Dj) (g:=Dk) (T:=ts.getD t (0,0,0)) hz hu hv
 rw [<-hpv] at hzpv
 obtain ⟨zp1,zp2⟩:=hzpv
 obtain ⟨K,hK⟩:∃K,K=OD (F6 Dj Dk ps ts u v t) pv.1 (F6 Dj Dk ps ts u v t).length:=⟨_,rfl⟩
 have hll:(F6 Dj Dk ps ts u v t).length=rs.length:=by rw [<-her,xI]
 have hcl:=ho.le
 refine zS (q4 (AK O (st' (v:=(pP b1 1)) (AA O underlying42 O sizeOf23 O) O (BL 3 (qz x.b.p ts.length x.b.c) Ez O (st' (v:=(vN ts.length)) (AD O underlying23) O (st' (Aa (c:=(decide (t<ts.length))) O O (DE (a:=t) (b:=ts.length))) O (oNl' (zB (sL [3,4,5,6,8,7,25] O) (zA ?_)))))))))
 refine zK O (λhc1=>?_) (λhc1=>?_)
 ·replace hc1:=xR hc1
  refine zG (q1 (zM (q4 (Af 3 Ey O (AK O (Af 2 Ar O (Af 1 Ar O (zw (S:=S) (α:=VP t pv) (args:=[(aG (E6 x)),(vN t),(aG (Ae a)),(aG (Ae b))]) call55 (λw hw=>(by rw [hpv];exact U0 x a b t Z hnb hz hu hv w (inS hw 4 O la) (inS hw 8 O lb) (P_ hw 12 O 15 O lx))) O O O λpr lpr=>AK O (st' (AJ (v:=(aG ([(vN pr.tri)]++fxL pr.u++fxL pr.v))) O O) O (st' (AJ (v:=(qa pv.2.2)) O O) O ?_))))))))))
  refine al de O λb4=>An O sizeOf93 O (asg' O (q6 (sL [3,4,5,6,8,7,9,10] O) (zS ?_)))
  by_cases h1:pv.2.2=true
  ·refine zH (AK O (zN (k:=36) (u:=(qa true)) O (by rw [h1]) (st' (Bs (c:=false) O O) O (AK O (BV (v:=(pP b4 1)) O (AA O underlying93 O sizeOf84 O) (BV (v:=(aG (fxL pr.u))) O (AY (i:=0) (vs:=fxL pr.u) O O Br.a Br.s O O) (BV (v:=(pP b4 4)) O (AA O underlying93 O sizeOf84 O) (BV (v:=(aG (fxL pr.v))) O (AY (i:=0) (vs:=fxL pr.v) O O Br.a Br.s O O) (zd (v:=(vI (BR pv.1 pv.2.1))) (AE O) (Ag (args:=[(aG (fxL pr.u)),(aG (fxL pr.v))]) O O call56) (λw hw=>GJ pr.u pr.v (by first|omega|(have s6:=fV hsz (show k-1<rs.length by omega);omega)) w (fK (inS (a:=pr) hw 1 O lpr)) (fL (inS (a:=pr) hw 1 O lpr))) O (leB O) (BV (v:=(qa (decide ((BR pv.1 pv.2.1)=(0:Int))))) O (Au (c:=(decide ((BR pv.1 pv.2.1)=(0:Int)))) O O O) (st' (v:=(qa (decide ((BR pv.1 pv.2.1)=(0:Int))))) (AN O O) O ?_)))))))))))
   refine oNl' (zB (sL [3,4,5,6,8,7,9,45] O) (zA ?_))
   refine zK O (λhc2=>?_) (λhc2=>?_)
   ·replace hc2:=xR hc2
    exact zW (zO (zR (zA (zH (AK O (st' (AX (c:=((t+1:Nat):Int)) O O (AU (a:=t) (b:=1) Z)) O (asg' O (oNl' (zB (sL [3,4,5,6,8,7,9] O) (zr (t+1) p c rs (⟨Z,ho,her.trans (Uu (by rw [<-hpv];exact hc2)).symm,hat,hsz,Z⟩) Z (sF O) (sl (sl (sl (sl (sl sr)))))))))))))))
   ·replace hc2:=xQ hc2
    refine zG (q2 (AK O (yS (show List.Perm _ (AM pr.u.z.n::AM pr.u.m::AM pr.v.z.n::AM pr.v.m::AO b4 93 ([(vN pr.tri)]++fxL pr.u++fxL pr.v)::rowW p 93 7 rs.length c (rowsL Cf rs)::AO b3 86 (Ae b)::AO b2 86 (Ae a)::AO b1 42 (E6 x)::AM a.x.z.n::AM a.x.m::AM a.y.z.n::AM a.y.m::AM b.x.z.n::AM b.x.m::AM b.y.z.n::AM b.y.m::AI x.a.p (rowsL EE x.rs)::AI x.b.p (rowsL BC ts)::AI x.c.p (rowsL Bn ss)::(C2 rs++DJ x.rs)) from List.perm_append_comm_assoc [AO b4 93 ([(vN pr.tri)]++fxL pr.u++fxL pr.v)] [AM pr.u.z.n,AM pr.u.m,AM pr.v.z.n,AM pr.v.m] (rowW p 93 7 rs.length c (rowsL Cf rs)::AO b3 86 (Ae b)::AO b2 86 (Ae a)::AO b1 42 (E6 x)::AM a.x.z.n::AM a.x.m::AM a.y.z.n::AM a.y.m::AM b.x.z.n::AM b.x.m::AM b.y.z.n::AM b.y.m::AI x.a.p (rowsL EE x.rs)::AI x.b.p (rowsL BC ts)::AI x.c.p (rowsL Bn ss)::(C2 rs++DJ x.rs))) (yS (show List.Perm _ (AO b4 93 ([(vN pr.tri)]++fxL pr.u++fxL pr.v)::rowW p 93 7 rs.length c (rowsL Cf rs)::AO b3 86 (Ae b)::AO b2 86 (Ae a)::AO b1 42 (E6 x)::AM a.x.z.n::AM a.x.m::AM a.y.z.n::AM a.y.m::AM b.x.z.n::AM b.x.m::AM b.y.z.n::AM b.y.m::AI x.a.p (rowsL EE x.rs)::AI x.b.p (rowsL BC ts)::AI x.c.p (rowsL Bn ss)::(C2 (Da (⟨pr.tri,⟨_,pr.u⟩,⟨_,pr.v⟩⟩:DP) rs K)++DJ x.rs)) from Z_ (⟨pr.tri,⟨_,pr.u⟩,⟨_,pr.v⟩⟩:DP) [AO b4 93 ([(vN pr.tri)]++fxL pr.u++fxL pr.v),rowW p 93 7 rs.length c (rowsL Cf rs),AO b3 86 (Ae b),AO b2 86 (Ae a),AO b1 42 (E6 x),AM a.x.z.n,AM a.x.m,AM a.y.z.n,AM a.y.m,AM b.x.z.n,AM b.x.m,AM b.y.z.n,AM b.y.m,AI x.a.p (rowsL EE x.rs),AI x.b.p (rowsL BC ts),AI x.c.p (rowsL Bn ss)] rs K (DJ x.rs)) (st' (v:=(vN rs.length)) (AD O underlying88) O (asg' O (q6 (sL [3,4,5,6,8,7,9,11] O) (zM ?_))))))))
    refine yW (tg λ(k:Nat)=>k<=rs.length/\K=OD (F6 Dj Dk ps ts u v t) pv.1 k) (tg λ(k:Nat)=>[(3,(pP b1 0)),(4,(pP b2 0)),(5,(pP b3 0)),(6,jj),(8,(vN t)),(7,(qz p rs.length c)),(9,(pP b4 0)),(11,(vN k))]) (tg λ(k:Nat)=>(AO b4 93 ([(vN pr.tri)]++fxL pr.u++fxL pr.v)::rowW p 93 7 rs.length c (rowsL Cf rs)::AO b3 86 (Ae b)::AO b2 86 (Ae a)::AO b1 42 (E6 x)::AM a.x.z.n::AM a.x.m::AM a.y.z.n::AM a.y.m::AM b.x.z.n::AM b.x.m::AM b.y.z.n::AM b.y.m::AI x.a.p (rowsL EE x.rs)::AI x.b.p (rowsL BC ts)::AI x.c.p (rowsL Bn ss)::(C2 (Da (⟨pr.tri,⟨_,pr.u⟩,⟨_,pr.v⟩⟩:DP) rs K)++DJ x.rs))) (tg λ(k:Nat)=>k) rs.length (⟨Nat.le_refl _,by rw [hK,hll]⟩) (sF O) sr (λk hJ=>?_)
    obtain ⟨hk,hKk⟩:=hJ
    refine zS (zS ?_)
    by_cases h2:0<k
    ·refine B9 (EV 11++[(11,false),(12,true),(13,true)]) sr (Bi O (Am O (CC (c:=true) O O (xE Z)) (Bi O (zQ (v:=(qz p rs.length c)) O (AE O) (BF O) O O (zQ (v:=(vN k)) O (AE O) (BF O) O O (zQ (v:=(vN (k-1))) O (AE O) (BY (c:=((k-1:Nat):Int)) O O (CY (a:=k) (b:=1) Z Z)) O O (zQ (v:=(pP (pB p) (pO p+(k-1)*7))) O (AE O) (AQ (j:=k-1) O O ho.row underlying88 sizeOf93 O Z) O O (zQ (v:=(pP (pB p) (pO p+((k-1)*7+1)))) O (AE O) (AA O underlying93 O sizeOf84 (Nat.add_assoc _ _ _)) O O (zQ (v:=(aG (fxL ((rs.getD (k-1) El).u.f)))) O (AE O) (BB (vs:=fxL ((rs.getD (k-1) El).u.f)) (i:=1) O O ho (AT Bb _) (BG.ne ho.row Z) Br (D_ Bb El _ _ 1 3 Z jY O) O) O O (zQ (v:=(pP b4 1)) O (AE O) (AA O underlying93 O sizeOf84 O) O O (zQ (v:=(aG (fxL pr.u))) O (AE O) (AY (i:=0) (vs:=fxL pr.u) O O Br.a Br.s O O) O O ?_)))))))))))
     refine zD O (zd (v:=(vI (BR ((rs.getD (k-1) El).u.q) pv.1))) (AE O) (Ag (args:=[(aG (fxL ((rs.getD (k-1) El).u.f))),(aG (fxL pr.u))]) O O call56) (λw hw=>GJ ((rs.getD (k-1) El).u.f) pr.u (by first|omega|(have s6:=fV hsz (show k-1<rs.length by omega);omega)) w (cS hw 16 O Z hat) (cT (q:=(⟨pr.tri,⟨_,pr.u⟩,⟨_,pr.v⟩⟩:DP)) hw 16 O (Pa lpr))) O (leB O) (zC sr (zQ (v:=(qa (decide ((0:Int)<(BR ((rs.getD (k-1) El).u.q) pv.1))))) O (AE O) (CC (c:=(decide ((0:Int)<(BR ((rs.getD (k-1) El).u.q) pv.1)))) O O O) O O (Am (v:=(qa (decide ((0:Int)<(BR ((rs.getD (k-1) El).u.q) pv.1))))) O (ex_pick_true O O) (zP (zB (sL [3,4,5,6,8,7,9,11,61] O) (zA ?_)))))))
     refine zK O (λhc3=>?_) (λhc3=>?_)
     ·replace hc3:=xR hc3
      exact zG (zA (zM (zH (AK O (st' (BY (c:=((k-1:Nat):Int)) O O (CY (a:=k) (b:=1) Z Z)) O (asg' O (oNl' (zB (sL [3,4,5,6,8,7,9,11] O) (zJ (yJ (k-1) (⟨Z,hKk.trans (bn h2 (by rw [<-Rt her Z];exact hc3))⟩) Z (sF O) sr))))))))))
     ·replace hc3:=xQ hc3
      have hnk:k=K:=(hKk.trans (bq h2 (by rw [<-Rt her Z];exact hc3))).symm
      subst hnk
      refine zW (zO (zy (zR (zA (rA [(0,true),(1,true),(2,true),(4,true),(7,true),(8,true),(9,true),(3,false)] 5 [(6,false),(10,false),(11,true)] sr jV (λ_ _ d _ _ h=>by cases d<;>exact h) (Hc.pas (v:=(qz p rs.length c)) O (AG O) (BF O) O O (Hc.pas (v:=(vN k)) O (AG O) (BF O) O O (Hc.pas (v:=(qz p k c)) O (AG O) (FQ (m:=k) O O underlying88 sizeOf93 Z) O O (Hc.pas (v:=(aG ([(vN pr.tri)]++fxL pr.u++fxL pr.v))) O (AG O) (AY (i:=0) (vs:=[(vN pr.tri)]++fxL pr.u++fxL pr.v) O O X4.a X4.s O O) O O (Hc.pas (v:=(qz p rs.length c)) O (AG O) (BF O) O O (Hc.pas (v:=(vN k)) O (AG O) (BF O) O O ?_)))))))))))
      refine Hc.pas (v:=(qz (YY p k c 7) (rs.length-k) (c-k))) O (AG O) (Hk (i:=k) O O underlying88 sizeOf93 Z ho.row.le) O O ?_
      refine Hc.imp O O ?_ ?_
      ·refine zm 93 7 (yd HV O OwnOk.none O (TU (k:=2) (i:=k) Bb O ho Z) (by rw [AT Bb,List.length_take,Nat.min_eq_left Z]) (EJ FV _) (GC Z) Z O λp_1 c_1 ho_1=>Hc.back (sl sr) (Hc.last O (zZ (V:=λb5=>(qz (jk b5) 1 1)) (T:=93) (cs:=Cf (⟨pr.tri,⟨_,pr.u⟩,⟨_,pr.v⟩⟩:DP)) (AG O) (Ai (z:=.agg ([(vI 0),(qa false),jj,jj,(qa false),jj,jj]).toArray) (cs:=Cf (⟨pr.tri,⟨_,pr.u⟩,⟨_,pr.v⟩⟩:DP)) (pv:=[(0,(aG ([(vN pr.tri)]++fxL pr.u++fxL pr.v)))]) underlying88 sizeOf93 zeroValue93 jY jY O (E1 (⟨pr.tri,⟨_,pr.u⟩,⟨_,pr.v⟩⟩:DP))) O (leB O) λb5=>zC (sl (sl sr)) (zD O (yE (j:=0) (cs2:=rowsL Cf ((rs.take k)++[(⟨pr.tri,⟨_,pr.u⟩,⟨_,pr.v⟩⟩:DP)])) HV O ho_1 (by rw [AT Bb,List.length_take,Nat.min_eq_left Z]) O O O O jY (GC Z) Z (by rw [Aw];rfl) O λp_2 c_2 ho_2 hne_2=>zC (sl (sl sr)) (zD O (ye 1 (N:=rs.length+1) (cs2:=rowsL Cf (Da (⟨pr.tri,⟨_,pr.u⟩,⟨_,pr.v⟩⟩:DP) rs k)) HV O O ho_2 (by rw [AT Bb,xJ,List.length_take,Nat.min_eq_left Z];rfl) O (TT (k:=3) (i:=k) Bb O ho Z) (by rw [AT Bb,List.length_drop]) (EJ FV _) (GC Z) Z Z (I5 _ _ _) O λp_3 c_3 ho_3=>yU (L':=(AO b5 93 (Cf (⟨pr.tri,⟨_,pr.u⟩,⟨_,pr.v⟩⟩:DP))::rowW p_3 93 7 (rs.length+1) c_3 (rowsL Cf (Da (⟨pr.tri,⟨_,pr.u⟩,⟨_,pr.v⟩⟩:DP) rs k))::AO b4 93 ([(vN pr.tri)]++fxL pr.u++fxL pr.v)::rowW p 93 7 rs.length c (rowsL Cf rs)::AO b3 86 (Ae b)::AO b2 86 (Ae a)::AO b1 42 (E6 x)::AM a.x.z.n::AM a.x.m::AM a.y.z.n::AM a.y.m::AM b.x.z.n::AM b.x.m::AM b.y.z.n::AM b.y.m::AI x.a.p (rowsL EE x.rs)::AI x.b.p (rowsL BC ts)::AI x.c.p (rowsL Bn ss)::(C2 (Da (⟨pr.tri,⟨_,pr.u⟩,⟨_,pr.v⟩⟩:DP) rs k)++DJ x.rs))) (xP _) ?_)))))))
       refine zC (sl (sl sr)) (pS' O (zP (zB (sL [3,4,5,6,8,7,9,11] O) (zJ (zA (zH (AK O (st' (AX (c:=((t+1:Nat):Int)) O O (AU (a:=t) (b:=1) Z)) O (asg' O (oNl' (zB (sL [3,4,5,6,8,7,9,11] O) ?_)))))))))))
       rw [show rs.length+1=(Da (⟨pr.tri,⟨_,pr.u⟩,⟨_,pr.v⟩⟩:DP) rs k).length from Di.symm]
       exact zr (t+1) p_3 c_3 (Da (⟨pr.tri,⟨_,pr.u⟩,⟨_,pr.v⟩⟩:DP) rs k) (⟨Z,(by rw [Di];exact ho_3),(by rw [K2 her hK,LC (by rw [<-hpv];exact h1) (by rw [<-hpv];exact hc2),<-hpv];show Ki ⟨pr.tri,pv.1,pv.2.1⟩ _=_;rw [pr.ht h1]),Sc hat (Pa lpr),Oc hsz ⟨zp1,zp2⟩,(by rw [Di];omega)⟩) Z (sF O) (sl (sk (sl (sl sr))))
      ·refine zZ (V:=λb5=>(qz (jk b5) 1 1)) (T:=93) (cs:=Cf (⟨pr.tri,⟨_,pr.u⟩,⟨_,pr.v⟩⟩:DP)) (AG O) (Ai (z:=.agg ([(vI 0),(qa false),jj,jj,(qa false),jj,jj]).toArray) (cs:=Cf (⟨pr.tri,⟨_,pr.u⟩,⟨_,pr.v⟩⟩:DP)) (pv:=[(0,(aG ([(vN pr.tri)]++fxL pr.u++fxL pr.v)))]) underlying88 sizeOf93 zeroValue93 jY jY O (E1 (⟨pr.tri,⟨_,pr.u⟩,⟨_,pr.v⟩⟩:DP))) O (leB O) λb5=>zC (sl sr) (zD O (zm 93 7 (yd HV O OwnOk.none O (TU (k:=3) (i:=k) Bb O ho Z) (by rw [AT Bb,List.length_take,Nat.min_eq_left Z]) (EJ FV _) (GC Z) Z O λp_4 c_4 ho_4=>zC (sl (sl sr)) (zD O (yx (j:=1) (cs2:=rowsL Cf ((rs.take k)++[(⟨pr.tri,⟨_,pr.u⟩,⟨_,pr.v⟩⟩:DP)])) HV O ho_4 (by rw [AT Bb,List.length_take,Nat.min_eq_left Z]) O O O O jY (GC Z) Z (by rw [Aw];rfl) O λp_5 c_5 ho_5 hne_5=>zC (sl (sl sr)) (zD O (ye 0 (N:=rs.length+1) (cs2:=rowsL Cf (Da (⟨pr.tri,⟨_,pr.u⟩,⟨_,pr.v⟩⟩:DP) rs k)) HV O O ho_5 (by rw [AT Bb,xJ,List.length_take,Nat.min_eq_left Z];rfl) O (TT (k:=3) (i:=k) Bb O ho Z) (by rw [AT Bb,List.length_drop]) (EJ FV _) (GC Z) Z Z (I5 _ _ _) O λp_6 c_6 ho_6=>yU (L':=(rowW p_6 93 7 (rs.length+1) c_6 (rowsL Cf (Da (⟨pr.tri,⟨_,pr.u⟩,⟨_,pr.v⟩⟩:DP) rs k))::AO b5 93 (Cf (⟨pr.tri,⟨_,pr.u⟩,⟨_,pr.v⟩⟩:DP))::AO b4 93 ([(vN pr.tri)]++fxL pr.u++fxL pr.v)::rowW p 93 7 rs.length c (rowsL Cf rs)::AO b3 86 (Ae b)::AO b2 86 (Ae a)::AO b1 42 (E6 x)::AM a.x.z.n::AM a.x.m::AM a.y.z.n::AM a.y.m::AM b.x.z.n::AM b.x.m::AM b.y.z.n::AM b.y.m::AI x.a.p (rowsL EE x.rs)::AI x.b.p (rowsL BC ts)::AI x.c.p (rowsL Bn ss)::(C2 (Da (⟨pr.tri,⟨_,pr.u⟩,⟨_,pr.v⟩⟩:DP) rs k)++DJ x.rs))) (xP _) ?_)))))))
       refine zC (sl (sl sr)) (pS' O (zP (zB (sL [3,4,5,6,8,7,9,11] O) (zJ (zA (zH (AK O (st' (AX (c:=((t+1:Nat):Int)) O O (AU (a:=t) (b:=1) Z)) O (asg' O (oNl' (zB (sL [3,4,5,6,8,7,9,11] O) ?_)))))))))))
       rw [show rs.length+1=(Da (⟨pr.tri,⟨_,pr.u⟩,⟨_,pr.v⟩⟩:DP) rs k).length from Di.symm]
       exact zr (t+1) p_6 c_6 (Da (⟨pr.tri,⟨_,pr.u⟩,⟨_,pr.v⟩⟩:DP) rs k) (⟨Z,(by rw [Di];exact ho_6),(by rw [K2 her hK,LC (by rw [<-hpv];exact h1) (by rw [<-hpv];exact hc2),<-hpv];show Ki ⟨pr.tri,pv.1,pv.2.1⟩ _=_;rw [pr.ht h1]),Sc hat (Pa lpr),Oc hsz ⟨zp1,zp2⟩,(by rw [Di];omega)⟩) Z (sF O) (sk (sl (sl (sl sr))))
    ·have hnk:k=K:=(hKk.trans (show OD (F6 Dj Dk ps ts u v t) pv.1 k=k by rw [show k=0 by omega];rfl)).symm
     subst hnk
     refine B9 (EV 11++[(11,false),(12,true),(13,true)]) sr (Bi O (Am O (CC (c:=false) O O (xD Z)) (Bi O (zc O (A7 O) O O (zc O (A7 O) O O (zc O (A7 O) O O (zc O (A7 O) O O (zc O (A7 O) O O (zc O (A7 O) O O (zc O (A7 O) O O (zc O (A7 O) O O ?_)))))))))))
     refine zD O (BP O (zC sr (zc O (A7 O) O O (Am (v:=(qa false)) O (AN O O) (zP (zB (sL [3,4,5,6,8,7,9,11,61] O) (zA (zU O (zW (zO (zy ?_)))))))))))
     refine zR (zA (rA [(0,true),(1,true),(2,true),(4,true),(7,true),(8,true),(9,true),(3,false)] 5 [(6,false),(10,false),(11,true)] sr jV (λ_ _ d _ _ h=>by cases d<;>exact h) (Hc.pas (v:=(qz p rs.length c)) O (AG O) (BF O) O O (Hc.pas (v:=(vN k)) O (AG O) (BF O) O O (Hc.pas (v:=(qz p k c)) O (AG O) (FQ (m:=k) O O underlying88 sizeOf93 Z) O O (Hc.pas (v:=(aG ([(vN pr.tri)]++fxL pr.u++fxL pr.v))) O (AG O) (AY (i:=0) (vs:=[(vN pr.tri)]++fxL pr.u++fxL pr.v) O O X4.a X4.s O O) O O (Hc.pas (v:=(qz p rs.length c)) O (AG O) (BF O) O O (Hc.pas (v:=(vN k)) O (AG O) (BF O) O O (Hc.pas (v:=(qz (YY p k c 7) (rs.length-k) (c-k))) O (AG O) (Hk (i:=k) O O underlying88 sizeOf93 Z ho.row.le) O O ?_)))))))))
     refine Hc.imp O O ?_ ?_
     ·refine zm 93 7 (yd HV O OwnOk.none O (TU (k:=2) (i:=k) Bb O ho Z) (by rw [AT Bb,List.length_take,Nat.min_eq_left Z]) (EJ FV _) (GC Z) Z O λp_7 c_7 ho_7=>Hc.back (sl sr) (Hc.last O (zZ (V:=λb5=>(qz (jk b5) 1 1)) (T:=93) (cs:=Cf (⟨pr.tri,⟨_,pr.u⟩,⟨_,pr.v⟩⟩:DP)) (AG O) (Ai (z:=.agg ([(vI 0),(qa false),jj,jj,(qa false),jj,jj]).toArray) (cs:=Cf (⟨pr.tri,⟨_,pr.u⟩,⟨_,pr.v⟩⟩:DP)) (pv:=[(0,(aG ([(vN pr.tri)]++fxL pr.u++fxL pr.v)))]) underlying88 sizeOf93 zeroValue93 jY jY O (E1 (⟨pr.tri,⟨_,pr.u⟩,⟨_,pr.v⟩⟩:DP))) O (leB O) λb5=>zC (sl (sl sr)) (zD O (yE (j:=0) (cs2:=rowsL Cf ((rs.take k)++[(⟨pr.tri,⟨_,pr.u⟩,⟨_,pr.v⟩⟩:DP)])) HV O ho_7 (by rw [AT Bb,List.length_take,Nat.min_eq_left Z]) O O O O jY (GC Z) Z (by rw [Aw];rfl) O λp_8 c_8 ho_8 hne_8=>zC (sl (sl sr)) (zD O (ye 1 (N:=rs.length+1) (cs2:=rowsL Cf (Da (⟨pr.tri,⟨_,pr.u⟩,⟨_,pr.v⟩⟩:DP) rs k)) HV O O ho_8 (by rw [AT Bb,xJ,List.length_take,Nat.min_eq_left Z];rfl) O (TT (k:=3) (i:=k) Bb O ho Z) (by rw [AT Bb,List.length_drop]) (EJ FV _) (GC Z) Z Z (I5 _ _ _) O λp_9 c_9 ho_9=>yU (L':=(AO b5 93 (Cf (⟨pr.tri,⟨_,pr.u⟩,⟨_,pr.v⟩⟩:DP))::rowW p_9 93 7 (rs.length+1) c_9 (rowsL Cf (Da (⟨pr.tri,⟨_,pr.u⟩,⟨_,pr.v⟩⟩:DP) rs k))::AO b4 93 ([(vN pr.tri)]++fxL pr.u++fxL pr.v)::rowW p 93 7 rs.length c (rowsL Cf rs)::AO b3 86 (Ae b)::AO b2 86 (Ae a)::AO b1 42 (E6 x)::AM a.x.z.n::AM a.x.m::AM a.y.z.n::AM a.y.m::AM b.x.z.n::AM b.x.m::AM b.y.z.n::AM b.y.m::AI x.a.p (rowsL EE x.rs)::AI x.b.p (rowsL BC ts)::AI x.c.p (rowsL Bn ss)::(C2 (Da (⟨pr.tri,⟨_,pr.u⟩,⟨_,pr.v⟩⟩:DP) rs k)++DJ x.rs))) (xP _) ?_)))))))
      refine zC (sl (sl sr)) (pS' O (zP (zB (sL [3,4,5,6,8,7,9,11] O) (zJ (zA (zH (AK O (st' (AX (c:=((t+1:Nat):Int)) O O (AU (a:=t) (b:=1) Z)) O (asg' O (oNl' (zB (sL [3,4,5,6,8,7,9,11] O) ?_)))))))))))
      rw [show rs.length+1=(Da (⟨pr.tri,⟨_,pr.u⟩,⟨_,pr.v⟩⟩:DP) rs k).length from Di.symm]
      exact zr (t+1) p_9 c_9 (Da (⟨pr.tri,⟨_,pr.u⟩,⟨_,pr.v⟩⟩:DP) rs k) (⟨Z,(by rw [Di];exact ho_9),(by rw [K2 her hK,LC (by rw [<-hpv];exact h1) (by rw [<-hpv];exact hc2),<-hpv];show Ki ⟨pr.tri,pv.1,pv.2.1⟩ _=_;rw [pr.ht h1]),Sc hat (Pa lpr),Oc hsz ⟨zp1,zp2⟩,(by rw [Di];omega)⟩) Z (sF O) (sl (sk (sl (sl sr))))
     ·refine zZ (V:=λb5=>(qz (jk b5) 1 1)) (T:=93) (cs:=Cf (⟨pr.tri,⟨_,pr.u⟩,⟨_,pr.v⟩⟩:DP)) (AG O) (Ai (z:=.agg ([(vI 0),(qa false),jj,jj,(qa false),jj,jj]).toArray) (cs:=Cf (⟨pr.tri,⟨_,pr.u⟩,⟨_,pr.v⟩⟩:DP)) (pv:=[(0,(aG ([(vN pr.tri)]++fxL pr.u++fxL pr.v)))]) underlying88 sizeOf93 zeroValue93 jY jY O (E1 (⟨pr.tri,⟨_,pr.u⟩,⟨_,pr.v⟩⟩:DP))) O (leB O) λb5=>zC (sl sr) (zD O (zm 93 7 (yd HV O OwnOk.none O (TU (k:=3) (i:=k) Bb O ho Z) (by rw [AT Bb,List.length_take,Nat.min_eq_left Z]) (EJ FV _) (GC Z) Z O λp_10 c_10 ho_10=>zC (sl (sl sr)) (zD O (yx (j:=1) (cs2:=rowsL Cf ((rs.take k)++[(⟨pr.tri,⟨_,pr.u⟩,⟨_,pr.v⟩⟩:DP)])) HV O ho_10 (by rw [AT Bb,List.length_take,Nat.min_eq_left Z]) O O O O jY (GC Z) Z (by rw [Aw];rfl) O λp_11 c_11 ho_11 hne_11=>zC (sl (sl sr)) (zD O (ye 0 (N:=rs.length+1) (cs2:=rowsL Cf (Da (⟨pr.tri,⟨_,pr.u⟩,⟨_,pr.v⟩⟩:DP) rs k)) HV O O ho_11 (by rw [AT Bb,xJ,List.length_take,Nat.min_eq_left Z];rfl) O (TT (k:=3) (i:=k) Bb O ho Z) (by rw [AT Bb,List.length_drop]) (EJ FV _) (GC Z) Z Z (I5 _ _ _) O λp_12 c_12 ho_12=>yU (L':=(rowW p_12 93 7 (rs.length+1) c_12 (rowsL Cf (Da (⟨pr.tri,⟨_,pr.u⟩,⟨_,pr.v⟩⟩:DP) rs k))::AO b5 93 (Cf (⟨pr.tri,⟨_,pr.u⟩,⟨_,pr.v⟩⟩:DP))::AO b4 93 ([(vN pr.tri)]++fxL pr.u++fxL pr.v)::rowW p 93 7 rs.length c (rowsL Cf rs)::AO b3 86 (Ae b)::AO b2 86 (Ae a)::AO b1 42 (E6 x)::AM a.x.z.n::AM a.x.m::AM a.y.z.n::AM a.y.m::AM b.x.z.n::AM b.x.m::AM b.y.z.n::AM b.y.m::AI x.a.p (rowsL EE x.rs)::AI x.b.p (rowsL BC ts)::AI x.c.p (rowsL Bn ss)::(C2 (Da (⟨pr.tri,⟨_,pr.u⟩,⟨_,pr.v⟩⟩:DP) rs k)++DJ x.rs))) (xP _) ?_)))))))
      refine zC (sl (sl sr)) (pS' O (zP (zB (sL [3,4,5,6,8,7,9,11] O) (zJ (zA (zH (AK O (st' (AX (c:=((t+1:Nat):Int)) O O (AU (a:=t) (b:=1) Z)) O (asg' O (oNl' (zB (sL [3,4,5,6,8,7,9,11] O) ?_)))))))))))
      rw [show rs.length+1=(Da (⟨pr.tri,⟨_,pr.u⟩,⟨_,pr.v⟩⟩:DP) rs k).length from Di.symm]
      exact zr (t+1) p_12 c_12 (Da (⟨pr.tri,⟨_,pr.u⟩,⟨_,pr.v⟩⟩:DP) rs k) (⟨Z,(by rw [Di];exact ho_12),(by rw [K2 her hK,LC (by rw [<-hpv];exact h1) (by rw [<-hpv];exact hc2),<-hpv];show Ki ⟨pr.tri,pv.1,pv.2.1⟩ _=_;rw [pr.ht h1]),Sc hat (Pa lpr),Oc hsz ⟨zp1,zp2⟩,(by rw [Di];omega)⟩) Z (sF O) (sk (sl (sl (sl sr))))
  ·replace h1:pv.2.2=false:=by simpa using h1
   refine zH (AK O (zN (k:=36) (u:=(qa false)) O (by rw [h1]) (st' (Bs (c:=true) O O) O (AK O (BP O (BP O (BP O (BP O (BP O (BP O (st' (v:=(qa true)) (ex_pick_true O O) O ?_)))))))))))
   refine oNl' (zB (sL [3,4,5,6,8,7,9,45] O) (zA (zY O (zW (zO (zR (zA (zH (AK O (st' (AX (c:=((t+1:Nat):Int)) O O (AU (a:=t) (b:=1) Z)) O (asg' O ?_)))))))))))
   exact oNl' (zB (sL [3,4,5,6,8,7,9] O) (zr (t+1) p c rs (⟨Z,ho,her.trans (Ut (by rw [<-hpv];exact h1)).symm,hat,hsz,Z⟩) Z (sF O) (sl (sl (sl (sl (sl sr)))))))
 ·replace hc1:=xQ hc1
  have hfin:rs.map (·.pc)=F6 Dj Dk ps ts u v ts.length:=by rw [her,show t=ts.length by omega]
  exact zW (zO (z7 (zR (q2 (AK O (asg' O (oNl' (zB (sL [3,4,5,6,8,7] O) (zA (zF (ret_one O (rd_tmp (v:=(qz p rs.length c)) O) (λw hw=>(dJ (A:=[rowW p 93 7 rs.length c (rowsL Cf rs),AO b3 86 (Ae b),AO b2 86 (Ae a),AO b1 42 (E6 x),AM a.x.z.n,AM a.x.m,AM a.y.z.n,AM a.y.m,AM b.x.z.n,AM b.x.m,AM b.y.z.n,AM b.y.m,AI x.a.p (rowsL EE x.rs),AI x.b.p (rowsL BC ts),AI x.c.p (rowsL Bn ss)]) hw 0 O ho O hfin hat O)))))))))))))
end
def stL (ps:List (List UInt8)):List Value:=ps.map λl=>Value.string (txB l)
theorem Mf (ps:List (List UInt8)):(stL ps).length=ps.length:=by simp [stL]
theorem SB (a b:List (List UInt8)):stL (a++b)=stL a++stL b:=by simp [stL]
theorem aU (p:Option Addr) (k c:Nat) (ps:List (List UInt8)) (T:TypeId) (ho:OwnOk p k c) (hk:k=ps.length) (w:World) (hrow:∀b,p.map (·.block)=some b->∃o,w.heap[b]?=some o/\(rowW p T 1 k c (stL ps)).P o) :
    Calls prog 90 #[.slice p k c] w λe w'=>e=.returned (.tuple #[])/\LK w w' (p.map (·.block))/\∀b,p.map (·.block)=some b->∃o,w'.heap[b]?=some o/\(rowW p T 1 k c (stL ps.reverse)).P o:=by
  cases hp:p with
  | none =>
    subst hp
    obtain ⟨rfl,rfl⟩:=ho.nil rfl
    refine (Tryz.slices_Reverse_string_empty none 0 w).mono ?_
    rintro e w' ⟨rfl,rfl⟩
    exact ⟨rfl,⟨⟨rfl,rfl,rfl,Nat.le_refl _,λ_ _ _=>rfl⟩,Nat.le_refl _⟩,λb e=>by cases e⟩
  | some a =>
    subst hp
    obtain ⟨o,hob,cur,rfl,hsz,hcur⟩:=hrow a.block rfl
    have hat:=ho.at0 a rfl
    have hle:=ho.le
    have hmax:=ho.max
    have hget:∀j,j<k->cur[j]?=some (Value.string (txB (ps.toArray[j]!))):=λj hj=>by
      have h1:(cur.toList.take (k*1))[j]?=(stL ps)[j]?:=by rw [hcur]
      rw [List.getElem?_take_of_lt Z,Array.getElem?_toList] at h1
      rw [h1,stL,List.getElem?_map,xN Z]
      simp [show j<ps.length by omega]
    have hH:Go.Sort.Holds encStr w a.block 0 ps.toArray:=λj hj=>by
      have hj':j<k:=by rw [hk];simpa using hj
      refine ⟨?_,by simp [World.frozen?,hob]⟩
      rw [cell_of_row w a.block _ _ T (0,0) hob,Nat.zero_add,hget j hj']
      rfl
    have h:=Tryz.slices_Reverse_string a.block 0 c ps w hH (by simp only [maxLen] at hmax;omega)
    rw [<-hk] at h
    rw [hat]
    refine h.mono ?_
    rintro e w' ⟨rfl,n,rfl⟩
    refine ⟨rfl,⟨⟨rfl,rfl,rfl,by simp [Go.Sort.putRow,Go.Sort.mapBlock,Go.Sort.ahead],λj _ hne=>?_⟩,(by show w.drawn<=w.drawn+n;omega)⟩,λb e=>?_⟩
    · have:a.block≠j:=λe=>hne (by rw [e];rfl)
      simp [Go.Sort.putRow,Go.Sort.mapBlock,Go.Sort.ahead,Array.getElem?_modify,this]
    · injection e with e
      subst e
      refine ⟨.cells (Go.Sort.putCells encStr 0 ps.reverse.toArray cur) T (0,0),by simp [Go.Sort.putRow,Go.Sort.mapBlock,Go.Sort.ahead,Array.getElem?_modify,hob,Go.Sort.onCells],_,rfl,by simp [Go.Sort.putCells,hsz],?_⟩
      apply List.ext_getElem?
      intro j
      by_cases hj:j<k
      · rw [List.getElem?_take_of_lt Z,Array.getElem?_toList]
        have h1:j<cur.size:=by omega
        simp [Go.Sort.putCells,stL,h1,encStr,txB,show j<ps.length by omega]
      · rw [List.getElem?_take_eq_none Z,List.getElem?_eq_none (by rw [Mf,List.length_reverse];omega)]
theorem No (xs:List (List UInt8)):Lib.join xs []=xs.flatten:=by
  cases xs with
  | nil=>rfl
  | cons x r =>
    rw [Lib.join_cons,Lib.joinTail,List.flatten_cons]
    simp
theorem Wg (p:Option Addr) (k c:Nat) (ps:List (List UInt8)) (T:TypeId) (ho:OwnOk p k c) (hk:k=ps.length) (hkl:k<=140737488355328) (hlen:ps.flatten.length<=140737488355328) (w:World) (hrow:∀b,p.map (·.block)=some b->∃o,w.heap[b]?=some o/\(rowW p T 1 k c (stL ps)).P o) :
    Calls prog 91 #[.slice p k c,.string (ByteArray.mk #[])] w (λe w'=>e=.returned (.string (txB ps.flatten))/\Below w.heap.size w w'):=by
  cases hp:p with
  | none =>
    subst hp
    obtain ⟨rfl,rfl⟩:=ho.nil rfl
    have hps:ps=[]:=List.eq_nil_of_length_eq_zero hk.symm
    subst hps
    refine (Tryz.strings_Join_none none 0 (ByteArray.mk #[]) w).mono ?_
    rintro e w' ⟨rfl,rfl⟩
    exact ⟨rfl,Below.refl _ _⟩
  | some a =>
    subst hp
    obtain ⟨o,hob,cur,rfl,hsz,hcur⟩:=hrow a.block rfl
    have hat:=ho.at0 a rfl
    have hle:=ho.le
    have hfl:(ps.map txB).map (·.data.toList)=ps:=by
      rw [List.map_map]
      exact (List.map_congr_left λl _=>by simp [txB]).trans (List.map_id _)
    have hblt:a.block<w.heap.size:=(Array.getElem?_eq_some_iff.1 hob).1
    have h:=Tryz.strings_Join a.block 0 c (ps.map txB) (ByteArray.mk #[]) w (λj x hx=>by
      rw [cell_of_row w a.block _ _ T (0,0) hob,Nat.zero_add]
      have hj:j<k:=by
        have:=(List.getElem?_eq_some_iff.1 hx).1
        rw [xI] at this;omega
      have h1:(cur.toList.take (k*1))[j]?=(stL ps)[j]?:=by rw [hcur]
      rw [List.getElem?_take_of_lt Z,Array.getElem?_toList] at h1
      rw [h1,stL,List.getElem?_map]
      rw [List.getElem?_map] at hx
      cases hpj:ps[j]? with
      | none=>rw [hpj] at hx;cases hx
      | some l=>rw [hpj] at hx;injection hx with hx;subst hx;rfl) hblt (by rw [xI,<-hk];exact hkl) (by rw [xI,<-hk];exact hle) (by rw [hfl,show (ByteArray.mk #[]).data.toList=[] from rfl,No];exact hlen)
    rw [xI,<-hk,hfl,show (ByteArray.mk #[]).data.toList=[] from rfl,No] at h
    rw [hat]
    exact h.mono λe w' h=>⟨h.1,h.2⟩
theorem Wf (n:Nat) (hn:n<=9223372036854775807) (w:World) (hT:PK w):Calls prog 88 #[vN n] w (Ac w (.string (txB (Lib.decDigits n)))):=by
  refine (Tryz.strconv_Itoa (n:Int) Z Z w hT).mono ?_
  rintro e w' ⟨rfl,k,os,rfl⟩
  refine ⟨by rw [Lib.itoa_nonneg];rfl,⟨rfl,rfl,rfl,by simp,λj hj=>?_⟩,by show w.drawn<=w.drawn+k;omega⟩
  rw [Go.Sort.heap_grow_old _ _ (by simpa using hj)]
  rfl
theorem JT:∀(N v i:Nat),i<N->(Cb N v).getD i 0=v/4294967296^i%4294967296
  | 0,_,_,h=>absurd h Z
  | N+1,v,0,_=>by simp [Cb]
  | N+1,v,i+1,h=>by
    rw [Cb,List.getD_cons_succ,JT N _ i Z,Nat.div_div_eq_div_mul,Nat.pow_succ']
theorem Ty {N v:Nat}:∀m,nw v<=m->m<=N->Ej (Cb N v) m=nw v:=λm=>by
  induction m with
  | zero =>
    intro h _
    rw [show nw v=0 by omega]
    rfl
  | succ m ih =>
    intro h1 h2
    by_cases h:nw v=m+1
    · rw [h]
      refine Nd λh3=>?_
      have h4:¬nw v<=m:=by omega
      rw [Cp] at h4
      have h5:=Bt v
      rw [h,Nat.pow_succ] at h5
      have h6:=h3.2
      rw [Nat.add_sub_cancel,JT _ _ _ Z,Nat.mod_eq_of_lt (Nat.div_lt_of_lt_mul h5)] at h6
      have h7:1<=v/4294967296^m:=(Nat.le_div_iff_mul_le (Nat.pow_pos Z)).2 Z
      omega
    · have h4:nw v<=m:=by omega
      have h5:=Cp.1 h4
      have h6:(Cb N v).getD (m+1-1) 0=0:=by
        rw [Nat.add_sub_cancel,JT _ _ _ Z,Nat.div_eq_of_lt h5]
      rw [Nc Z h6]
      exact ih h4 Z
theorem cA (x:Nat):x<10^(Lib.decDigits x).length:=by rw [Lib.decDigits_length];exact Lib.lt_pow_nDigits x
theorem Q_ {n m k:Nat} {ps:List (List UInt8)} (hm:m=n/10^(9*k)) (hm0:m≠0) (hp:ps.reverse.flatten=DB (9*k) n) (h:m/1000000000≠0) :
    (ps++[List.replicate (9-(Lib.decDigits (m%1000000000)).length) 48++Lib.decDigits (m%1000000000)]).reverse.flatten=DB (9*(k+1)) n:=by
  have h1:m%1000000000<10^(8+1):=Nat.mod_lt _ jY
  rw [Ul (Ky h1) (cA _),show (1000000000:Nat)=10^9 from rfl,XE,hm,List.reverse_append,List.reverse_singleton,List.singleton_append,List.flatten_cons,hp,show 9*(k+1)=9+9*k by omega,QI 9 (9*k) n]
theorem Q9 {n m k:Nat} {ps:List (List UInt8)} (hm:m=n/10^(9*k)) (hm0:m≠0) (hp:ps.reverse.flatten=DB (9*k) n) (h:m/1000000000=0) :
    (ps++[Lib.decDigits (m%1000000000)]).reverse.flatten=Lib.decDigits n:=by
  rw [Nat.mod_eq_of_lt Z,List.reverse_append,List.reverse_singleton,List.singleton_append,List.flatten_cons,hp,M_ (k:=9*k) (x:=n) (by rw [<-hm];exact hm0),hm]
theorem XG {n m k:Nat} (hm:m=n/10^(9*k)) (h0:m≠0):k<2*nw n:=by
  have h1:10^(9*k)<=n:=Nat.le_of_not_lt λh=>h0 (by rw [hm,Nat.div_eq_of_lt h])
  have h2:n<10^(10*nw n):=Nat.lt_of_lt_of_le (Bt n) (by rw [Nat.pow_mul];exact Nat.pow_le_pow_left jY _)
  have h3:9*k<10*nw n:=Nat.lt_of_not_le λh=>by
    have:=Nat.pow_le_pow_right (n:=10) Z h
    omega
  omega
def TxJ (n:Nat) (bs:List Nat) (m:Nat) (p:Option Addr) (cq k:Nat) (ps:List (List UInt8)):Prop :=
  W32 bs/\nw m<=bs.length/\(∀i,i<nw m->bs.getD i 0=(AL m).getD i 0)/\nw m<=nw n/\OwnOk p k cq/\m=n/10^(9*k)/\k=ps.length/\k<=2*nw n /\
    (m≠0->ps.reverse.flatten=DB (9*k) n)/\(m=0->ps.reverse.flatten=Lib.decDigits n)
theorem YF {n:Nat} {bs:List Nat} {m:Nat} {p p':Option Addr} {cq cq' k:Nat} {ps:List (List UInt8)} {sx:List UInt8} (h:TxJ n bs m p cq k ps) (h0:0<nw m) (ho:OwnOk p' (k+1) cq')
    (hs1:m/1000000000≠0->sx=List.replicate (9-(Lib.decDigits (m%1000000000)).length) 48++Lib.decDigits (m%1000000000)) (hs0:m/1000000000=0->sx=Lib.decDigits (m%1000000000)) :
    TxJ n (Cb (nw m) (m/1000000000)) (m/1000000000) p' cq' (k+1) (ps++[sx]):=by
  obtain ⟨h1,h2,h3,h4,h5,h6,h7,h8,h9,h10⟩:=h
  have hm0:m≠0:=λe=>by rw [e,JG] at h0;omega
  have hle:nw (m/1000000000)<=nw m:=DA (Nat.div_le_self _ _)
  have hlt:=XG h6 hm0
  have hp:=h9 hm0
  subst h7
  refine ⟨D9 _ _,by rw [Bk];exact hle,λi hi=>?_,Z,ho,?_,by simp,Z,λe=>?_,λe=>?_⟩
  · rw [JT _ _ _ Z,HO]
  · rw [h6,Nat.div_div_eq_div_mul,show (1000000000:Nat)=10^9 from rfl,<-Nat.pow_add,Nat.mul_add]
  · rw [hs1 e];exact Q_ h6 hm0 hp e
  · rw [hs0 e];exact Q9 h6 hm0 hp e
theorem YE {n:Nat} {bs:List Nat} (h0:n≠0) (h1:W32 bs) (h2:nw n<=bs.length) (h3:∀i,i<nw n->bs.getD i 0=(AL n).getD i 0):TxJ n bs n none 0 0 [] :=
  ⟨h1,h2,h3,Nat.le_refl _,OwnOk.none,by simp,rfl,xH _,λ_=>rfl,λe=>absurd e h0⟩
theorem a_ {n:Nat} {bs:List Nat} {m:Nat} {p:Option Addr} {cq k:Nat} {ps:List (List UInt8)} (h:TxJ n bs m p cq k ps) (h0:¬0<nw m) (hn:nw n<=1073741824) :
    k<=140737488355328/\ps.reverse.flatten=Lib.decDigits n/\(Lib.decDigits n).length<=140737488355328:=by
  obtain ⟨h1,h2,h3,h4,h5,h6,h7,h8,h9,h10⟩:=h
  have h11:=Jl n
  exact ⟨Z,h10 (Classical.byContradiction λe=>by rw [Rq e] at h0;omega),Z⟩
section
def z0 (w:World):World:={ w with drawn:=0 }
def Gs (w:World) (v:Value) (e:Ending) (w':World):Prop:=e=.returned v/\Below w.heap.size w w'
theorem J8 {w:World} (h:PK w):PK (z0 w):=h
section
variable {P:Program} {w0:Ay} {w w' W:World} {L:List As} {v:Value} {ex:Option Nat}
theorem A_.zz (hz:w0.w.drawn=0) (h:A_ w0 w L):A_ w0 (z0 w) L:=⟨⟨⟨h.1.os,h.1.tape,h.1.output,h.1.size,h.1.block⟩,by rw [hz];exact xH _⟩,h.2.1,h.2.2⟩
theorem A_.belowB (hz:w0.w.drawn=0) (h:A_ w0 w L) (hb:Below w.heap.size w w'):A_ w0 w' L :=
  (h.zz hz).below ⟨⟨hb.os,hb.tape,hb.output,hb.size,hb.block⟩,xH _⟩
theorem A_.z0 (h:A_ ⟨W,ex⟩ w L):A_ ⟨Go.Proofs.YtcpkbjjmcleplaaGreatDoor.z0 W,ex⟩ w L:=⟨⟨⟨h.1.os,h.1.tape,h.1.output,h.1.size,h.1.block⟩,xH _⟩,h.2.1,h.2.2⟩
theorem A_.outB (h:A_ ⟨Go.Proofs.YtcpkbjjmcleplaaGreatDoor.z0 W,none⟩ w L):Below W.heap.size W w:=by
  have k:=h.out
  exact ⟨k.os,k.tape,k.output,k.size,k.block⟩
theorem Jh {f:FuncId} {fn:Func} {c:Code} {args:List Value} {R:Ending->World->Prop} {n:Nat}
    (hf:P.funcs[f]?=some fn) (hb:fn.body=some c) (hn:fn.ntmps=n) (hl:args.length<=n)
    (h:OkC P c (bodyPost P fn R) n (FL 0 args) ⟨Go.Proofs.YtcpkbjjmcleplaaGreatDoor.z0 w,none⟩ []):Calls P f args.toArray w R:=by
  refine calls_of_wp hf hb ?_
  rw [hn]
  exact h _ _ (Fu hl _ λk v hk=>by simpa using (C1 args 0 k v hk).2) (A_.start w).z0
theorem Ib {f:FuncId} {fn:Func} {c:Code} {args:List Value} {R:Ending->World->Prop} {n:Nat}
    (hf:P.funcs[f]?=some fn) (hb:fn.body=some c) (hn:fn.ntmps=n) (hl:args.length<=n) (hL:∀x∈L,x.ro=true/\Holds w x)
    (h:OkC P c (bodyPost P fn R) n (FL 0 args) ⟨Go.Proofs.YtcpkbjjmcleplaaGreatDoor.z0 w,none⟩ L):Calls P f args.toArray w R:=by
  refine calls_of_wp hf hb ?_
  rw [hn]
  exact h _ _ (Fu hl _ λk v hk=>by simpa using (C1 args 0 k v hk).2) (A_.startR hL).z0
end
theorem yu {P:Program} {ops:Array Oper} {rest:List Oper} {Q:Exit->Act->World->Prop} {n d:Nat} {F:List (Nat×Value)} {w0:Ay} {L:List As} {o:Oper} {v:Value} {f:FuncId} {args:Array Value} (hz:w0.w.drawn=0) (hw:Wt ops n F o)
    (he:∀a w,Cg n a F->A_ w0 w L->(execOp a.eval o).run P w=.ok (.enter f args) w)
    (hc:∀w,A_ w0 w L->Calls P f args w (Gs w v))
    (ho:o.dst=some d) (hd:d<n) (next:AP P ops rest Q n ((d,v)::F) w0 L):AP P ops (o::rest) Q n F w0 L:=λa w ha hW=>by
  unfold wpList
  rw [if_pos (hw a ha)]
  left
  unfold Oper.wp
  rw [he a w ha hW,Oper.upon_enter]
  refine (hc w hW).mono ?_
  rintro e w' ⟨rfl,hb⟩
  rw [ho]
  exact next _ _ (ha.put hd) (hW.belowB hz hb)
theorem Pk {P:Program} {ops:Array Oper} {rest:List Oper} {Q:Exit->Act->World->Prop} {n d:Nat} {F:List (Nat×Value)} {w0:Ay} {L:List As} {t:TypeId} {p:String} {af:Array Edge} {x:Operand} {v:Value} {f:FuncId} {xs:List Operand} {args:List Value} {ts:Array TypeId} (hz:w0.w.drawn=0) (hc:∀args w,(callFunc f args).run P w=.ok (.enter f args) w) (h:∀w,A_ w0 w L->Calls P f args.toArray w (Gs w v))
    (h2:(evF F x,xs.map (evF F),Nat.ble (d+1) n)=(some (.func (.func f) #[] #[]),args.map some,true)) (next:AP P ops rest Q n ((d,v)::F) w0 L) :
    AP P ops (⟨some d,.call { callee:=.value x,args:=xs.toArray,argTypes:=ts },t,p,af,none⟩::rest) Q n F w0 L:=yu hz (AG rfl) (Ag (DO h2) (DO (Bd h2)) hc) h rfl (CO (Bd (Bd h2))) next
end
end Go.Proofs.YtcpkbjjmcleplaaGreatDoor
