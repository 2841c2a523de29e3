import Derived.Test.YtcpkbjjmcleplaaGreatDoorPart41
namespace Go.Proofs.YtcpkbjjmcleplaaGreatDoor
open Go Go.RowKit Go.Proofs.Tryz
open Go.Value renaming slice→qz,bool→qa
set_option linter.unusedVariables false
set_option linter.unusedSimpArgs false
section
set_option maxRecDepth 100000
theorem U1 {x y:Pt} {s:Rat} (a:PX x) (b:PX y) (k:FX s) (hs:BO x+BO y+Sz s<=4096) (w:World) {S:Nat->Prop} (ha:Ro S w a) (hb:Ro S w b) (hk:Ro S w k)  :Calls prog 103 #[(aG (Ae a)),(aG (Ae b)),(aG (fxL k))] w (Aj (PX (Fb x y s)) S w):=by
 have la:=Bx (W:=w) ha
 have lb:=Bx (W:=w) hb
 have lk:=Bx (W:=w) hk
 refine AZ (args:=[(aG (Ae a)),(aG (Ae b)),(aG (fxL k))]) (L:=[AM a.x.z.n,AM a.x.m,AM a.y.z.n,AM a.y.m,AM b.x.z.n,AM b.x.m,AM b.y.z.n,AM b.y.m,AM k.z.n,AM k.m]) func103 O O (leB O) (Fc ha (Fc hb (M5 hk Ao))) (zI (sL [0,1,2] O) (q4 (BH (cs:=Ae a) O λb1=>BH (cs:=Ae b) O λb2=>BH (cs:=fxL k) O λb3=>al Ja O λb4=>q6 (sL [3,4,5,6] O) (B9 [(0,true),(1,true),(2,true),(4,true),(3,false),(5,false),(6,false),(7,false)] (sl sr) (B3 2 Ar O (B3 1 Ar O (B3 2 Ar O ?_)))))))
 refine B3 0 Br O (zD O ?_)
 have hz1:=Bo y x
 refine cP (S:=S) (x:=(y-x)) (args:=[(aG (Ae b)),(aG (Ae a))]) call108 (λw hw=>DD b a Z w (inS hw 8 O lb) (inS hw 4 O la)) O O O λg1 lg1=>zC (sl (sl (sl (sl (sl sr))))) (zD O ?_)
 have hz2:=E8 (y-x) s
 refine cP (S:=S) (x:=(Bm (y-x) s)) (args:=[(aG (Ae g1)),(aG (fxL k))]) call154 (λw hw=>MV g1 k Z w (inS hw 0 O lg1) (inS hw 16 O lk)) O O O λg2 lg2=>zC (sl (sl (sl (sl (sl (sl (sl (sl (sl sr))))))))) (zD O ?_)
 have hz3:=Gu x (Bm (y-x) s)
 exact cP (S:=S) (x:=(x+(Bm (y-x) s))) (args:=[(aG (Ae a)),(aG (Ae g2))]) call153 (λw hw=>QW a g2 Z w (inS hw 12 O la) (inS hw 0 O lg2)) O O O λg3 lg3=>zC (sl (sl (sl (sl (sl (sl (sl (sl (sl (sl (sl (sl (sl sr))))))))))))) (zD O (Dt 12 (off:=0) (vs:=Ae g3) (cs':=Ae g3) (AG O) O sizeOf86 O (zC (sl (sl (sl (sl (sl (sl (sl (sl (sl (sl (sl (sl (sl sr))))))))))))) (zP (zB (sL [6] O) (zA (zF (ret_one O (Ab (i:=12) (cs:=Ae g3) O O isAgg86 sizeOf86 O) (λw hw=>DU (a:=(g3:PX (Fb x y s))) hw (inS hw 0 O lg3) O)))))))))
theorem R2 {x y z:Pt} (a:PX x) (b:PX y) (d:PX z) (hs:BO x+BO y+BO z<=4096) (w:World) {S:Nat->Prop} (ha:Ro S w a) (hb:Ro S w b) (hd:Ro S w d)  :Calls prog 100 #[(aG (Ae a)),(aG (Ae b)),(aG (Ae d))] w (Aj (FX (NL x y z)) S w):=by
 have la:=Bx (W:=w) ha
 have lb:=Bx (W:=w) hb
 have ld:=Bx (W:=w) hd
 refine AZ (args:=[(aG (Ae a)),(aG (Ae b)),(aG (Ae d))]) (L:=[AM a.x.z.n,AM a.x.m,AM a.y.z.n,AM a.y.m,AM b.x.z.n,AM b.x.m,AM b.y.z.n,AM b.y.m,AM d.x.z.n,AM d.x.m,AM d.y.z.n,AM d.y.m]) func100 O O (leB O) (Fc ha (Fc hb (Fc hd Ao))) (zI (sL [0,1,2] O) (q4 (BH (cs:=Ae a) O λb1=>BH (cs:=Ae b) O λb2=>BH (cs:=Ae d) O λb3=>al Hz O λb4=>q3 (sL [3,4,5,6] O) (Af 2 Ar O (Af 3 Ar O ?_)))))
 have hz1:=Bo y x
 refine cP (S:=S) (x:=(y-x)) (args:=[(aG (Ae b)),(aG (Ae a))]) call108 (λw hw=>DD b a Z w (inS hw 8 O lb) (inS hw 4 O la)) O O O λg1 lg1=>al Ja O λb5=>An O sizeOf86 O (q6 (sL [3,5,6,7] O) (B9 [(0,true),(1,true),(3,true),(5,true),(6,true),(2,false),(4,false),(7,false),(8,false),(9,false)] (sk (sk (sk (sk (sk (sl sr)))))) (B3 5 Ar O (B3 7 Ar O (B3 0 Ar O (B3 0 Ar O (B3 0 Ar O (zD O ?_))))))))
 have hz2:=Bo z x
 refine cP (S:=S) (x:=(z-x)) (args:=[(aG (Ae d)),(aG (Ae a))]) call108 (λw hw=>DD d a Z w (inS hw 17 O ld) (inS hw 9 O la)) O O O λg2 lg2=>zC (sl (sl (sl (sl (sk (sk (sk (sk (sk (sl sr)))))))))) (zD O ?_)
 have hz3:=Gw (z-x) (y-x)
 refine cF (S:=S) (x:=(C8 (z-x) (y-x))) (args:=[(aG (Ae g2)),(aG (Ae g1))]) call107 (λw hw=>JU g2 g1 Z w (inS hw 0 O lg2) (inS hw 5 O lg1)) O O O λg3 lg3=>zC (sl (sl (sl (sl (sl (sl (sk (sk (sk (sk (sk (sl sr)))))))))))) (zD O ?_)
 have hz4:=Gw (y-x) (y-x)
 refine cF (S:=S) (x:=(C8 (y-x) (y-x))) (args:=[(aG (Ae g1)),(aG (Ae g1))]) call107 (λw hw=>JU g1 g1 Z w (inS hw 7 O lg1) (inS hw 7 O lg1)) O O O λg4 lg4=>zC (sl (sl (sl (sl (sl (sl (sl (sl (sk (sk (sk (sk (sk (sl sr)))))))))))))) (zD O ?_)
 have hz5:=H6 (C8 (z-x) (y-x)) (C8 (y-x) (y-x))
 exact cF (S:=S) (x:=((C8 (z-x) (y-x))/(C8 (y-x) (y-x)))) (args:=[(aG (fxL g3)),(aG (fxL g4))]) call101 (λw hw=>JQ g3 g4 (by (try simp only [BN]);omega) w (inS hw 2 O lg3) (inS hw 0 O lg4)) O O O λg5 lg5=>zC (sl (sl (sl (sl (sl (sl (sl (sl (sl (sl (sk (sk (sk (sk (sk (sl sr)))))))))))))))) (zD O (Dt 15 (off:=0) (vs:=fxL g5) (cs':=fxL g5) (AG O) O sizeOf84 O (zC (sl (sl (sl (sl (sl (sl (sl (sl (sl (sl (sk (sk (sk (sk (sk (sl sr)))))))))))))))) (zP (zB (sL [3,6,7] O) (zA (zF (ret_one O (Ab (i:=15) (cs:=fxL g5) O O isAgg84 sizeOf84 O) (λw hw=>DU (a:=(g5:FX (NL x y z))) hw (inS hw 0 O lg5) O)))))))))
theorem I3 {rs:List RP} {T:List Pt} {x y z u:Pt} (h:rs.map (·.p)++T=CU x y z u):rs.length<=4:=by
 have k:=congrArg List.length h
 have:=WJ (a:=x) (b:=y) (c:=z) (d:=u)
 rw [xJ,xI] at k;omega
theorem WI {rs:List RP} {x y z u:Pt} (h:rs.map (·.p)=CU x y z u):rs.length<=4:=I3 (T:=[]) (by rw [List.append_nil];exact h)
theorem aa {p q:Pt} (h:CW p q=true):p=q:=by
 unfold CW at h
 simp only [xZ,xT] at h
 exact Pt.ext h.1 h.2
theorem aY {p q:Pt} (h:¬CW p q=true):¬p=q:=λe=>h (by subst e;unfold CW;simp)
theorem dT {q:Rat} (h:q.num.sign=0):q=0:=Rat.num_eq_zero.1 (Int.sign_eq_zero_iff_zero.1 h)
theorem dU {q:Rat} (h:¬q.num.sign=0):¬q=0:=λe=>h (by subst e;rfl)
theorem TV:ElemT prog 39 86 6 112:=⟨underlying39,Cx jV⟩
theorem QP {x y:Pt} (a:PX x) (b:PX y) (hs:BO x+BO y<=65536) (w:World) {S:Nat->Prop} (ha:Ro S w a) (hb:Ro S w b)  :Calls prog 151 #[(aG (Ae a)),(aG (Ae b))] w (Ac w (qa (Od x y))):=by
 have sx:=Cr x
 have sy:=Cr y
 have sx2:=Ct x
 have sy2:=Ct y
 have la:=Bx (W:=w) ha
 have lb:=Bx (W:=w) hb
 refine AZ (args:=[(aG (Ae a)),(aG (Ae b))]) (L:=[AM a.x.z.n,AM a.x.m,AM a.y.z.n,AM a.y.m,AM b.x.z.n,AM b.x.m,AM b.y.z.n,AM b.y.m]) func151 O O (leB O) (Fc ha (Fc hb Ao)) (zI (sL [0,1] O) (q4 (BH (cs:=Ae a) O λb1=>BH (cs:=Ae b) O λb2=>asg' O (q3 (sL [2,3,4] O) (st' (v:=(pP b1 0)) (AA O underlying86 O sizeOf84 O) O (By 1 (fxL a.x) Br O (st' (v:=(pP b2 0)) (AA O underlying86 O sizeOf84 O) O (By 0 (fxL b.x) Br O (CQ call56 (λw hw=>GJ a.x b.x Z w (TM (inS hw 2 O la)) (TM (inS hw 6 O lb))) O ?_)))))))))
 refine asg' O (q6 (sL [2,3,4,5] O) ?_)
 by_cases h1:BR x.x y.x<0
 ·have hr:=cU h1
  refine zH (AK O (st' (Aa (c:=true) O O (xE h1)) O (AK O (BP O (BP O (BP O (yN (EW O O O) O (leB O) (yN (EW O O O) O (leB O) (yN (EW O O O) O (leB O) (yN (EW O O O) O (leB O) (yN (EW O O O) O (leB O) ?_)))))))))))
  exact yN (EW O O O) O (leB O) (BP O (st' (v:=(qa true)) (ex_pick_true O O) O (asg' O (oNl' (zB (sL [2,3,4] O) (zA (zF (ret_one O (rd_tmp (v:=(qa true)) O) (λw hw=>⟨by rw [hr],hw.out⟩)))))))))
 ·by_cases h2:BR x.x y.x=0
  ·have hr:=cV h1 h2
   refine zH (AK O (st' (Aa (c:=false) O O (xD h1)) O (AK O (FR O (BV (v:=(qa true)) O (Au (c:=true) O O (xE h2)) (FR O (BV (v:=(pP b1 3)) O (AA O underlying86 O sizeOf84 O) (BV (v:=(aG (fxL a.y))) O (AY (i:=1) (vs:=fxL a.y) O O Br.a Br.s O O) (BV (v:=(pP b2 3)) O (AA O underlying86 O sizeOf84 O) (BV (v:=(aG (fxL b.y))) O (AY (i:=0) (vs:=fxL b.y) O O Br.a Br.s O O) (zd (v:=(vI (BR x.y y.y))) (AE O) (Ag (args:=[(aG (fxL a.y)),(aG (fxL b.y))]) O O call56) (λw hw=>GJ a.y b.y Z w (TN (inS hw 2 O la)) (TN (inS hw 6 O lb))) O (leB O) ?_)))))))))))
   exact BV (v:=(qa (decide ((BR x.y y.y)<(0:Int))))) O (Aa (c:=(decide ((BR x.y y.y)<(0:Int)))) O O O) (BV (v:=(qa (decide ((BR x.y y.y)<(0:Int))))) O (ex_pick_true O O) (st' (v:=(qa (decide ((BR x.y y.y)<(0:Int))))) (AN O O) O (asg' O (oNl' (zB (sL [2,3,4] O) (zA (zF (ret_one O (rd_tmp (v:=(qa (decide ((BR x.y y.y)<(0:Int))))) O) (λw hw=>⟨by rw [hr],hw.out⟩)))))))))
  ·have hr:=cW h1 h2
   refine zH (AK O (st' (Aa (c:=false) O O (xD h1)) O (AK O (FR O (BV (v:=(qa false)) O (Au (c:=false) O O (xD h2)) (FR O (BP O (BP O (BP O (BP O (BP O ?_)))))))))))
   exact BP O (BV (v:=(qa false)) O (AN O O) (st' (v:=(qa false)) (AN O O) O (asg' O (oNl' (zB (sL [2,3,4] O) (zA (zF (ret_one O (rd_tmp (v:=(qa false)) O) (λw hw=>⟨by rw [hr],hw.out⟩)))))))))
theorem Hl  :Instr.fill ([(0,3),(3,3)].toArray[·]?) ([(qa false),jj,jj,(qa false),jj,jj]).toArray []=some ([(qa false),jj,jj,(qa false),jj,jj]).toArray:=by kernel_rfl
set_option maxHeartbeats 2000000 in
theorem aK {x y z u:Pt} (a:PX x) (b:PX y) (d:PX z) (e:PX u) (hs:BO x+BO y+BO z+BO u<=2048) (w:World) {S:Nat->Prop} (ha:Ro S w a) (hb:Ro S w b) (hd:Ro S w d) (he:Ro S w e):Calls prog 99 #[(aG (Ae a)),(aG (Ae b)),(aG (Ae d)),(aG (Ae e))] w (Aj (Qu (Hg Dj Dk x y z u).1 (Hg Dj Dk x y z u).2) S w):=by
 have la:=Bx (W:=w) ha
 have lb:=Bx (W:=w) hb
 have ld:=Bx (W:=w) hd
 have le:=Bx (W:=w) he
 refine AZ (args:=[(aG (Ae a)),(aG (Ae b)),(aG (Ae d)),(aG (Ae e))]) (L:=[AM a.x.z.n,AM a.x.m,AM a.y.z.n,AM a.y.m,AM b.x.z.n,AM b.x.m,AM b.y.z.n,AM b.y.m,AM d.x.z.n,AM d.x.m,AM d.y.z.n,AM d.y.m,AM e.x.z.n,AM e.x.m,AM e.y.z.n,AM e.y.m]) func99 O O (leB O) (Fc ha (Fc hb (Fc hd (Fc he Ao)))) (zI (sL [0,1,2,3] O) (q4 (BH (cs:=Ae a) O λb1=>BH (cs:=Ae b) O λb2=>BH (cs:=Ae d) O λb3=>BH (cs:=Ae e) O λb4=>asg' O (al Ja O λb5=>q3 (sL [4,5,6,7,8,9] O) (zZ (V:=λb6=>(qz (jk b6) 0 0)) (T:=86) (cs:=[]) (AG O) (Nx underlying39 sizeOf86) O (leB O) λb6=>yt (z:=6) 0 O Z λho_b6=>?_)))))
 refine asg' O (q6 (sL [4,5,6,7,8,9,10] O) (q4 (Af 3 Ar O (Af 2 Ar O (Af 5 Ar O (CQ call148 (λw hw=>Fq d e a Z w (inS hw 14 O ld) (inS hw 18 O le) (inS hw 6 O la)) O (oNl' (zB (sL [4,5,6,7,8,9,10,23] O) (zA ?_)))))))))
 refine yo (tg λ(p0:Option Addr) (c0:Nat) (r0s:List RP)=>OwnOk p0 r0s.length c0/\r0s.map (·.p)++Le x y z u=CU x y z u/\(∀r∈r0s,r=(⟨x,a⟩:RP)\/r=(⟨y,b⟩:RP)\/r=(⟨z,d⟩:RP)\/r=(⟨u,e⟩:RP))) (tg λ(p0:Option Addr) (c0:Nat) (r0s:List RP)=>[(4,(pP b1 0)),(5,(pP b2 0)),(6,(pP b3 0)),(7,(pP b4 0)),(8,(vI 0)),(9,(pP b5 0)),(10,(qz p0 r0s.length c0))]) (tg λ(p0:Option Addr) (c0:Nat) (r0s:List RP)=>[rowW p0 86 6 r0s.length c0 (rowsL EE r0s),AO b5 86 ([(qa false),jj,jj,(qa false),jj,jj]),AO b4 86 (Ae e),AO b3 86 (Ae d),AO b2 86 (Ae b),AO b1 86 (Ae a),AM a.x.z.n,AM a.x.m,AM a.y.z.n,AM a.y.m,AM b.x.z.n,AM b.x.m,AM b.y.z.n,AM b.y.m,AM d.x.z.n,AM d.x.m,AM d.y.z.n,AM d.y.m,AM e.x.z.n,AM e.x.m,AM e.y.z.n,AM e.y.m]) ?_ ?_
 ·refine zK O (λhc0=>?_) (λhc0=>?_)
  ·refine zH (AK O (Af 5 Ar O (zZ (V:=λb7=>(qz (jk b7) 1 1)) (T:=86) (cs:=Ae a) (AG O) (Ai (z:=.agg #[(qa false),jj,jj,(qa false),jj,jj]) (cs:=Ae a) (pv:=[(0,(aG (Ae a)))]) underlying39 sizeOf86 zeroValue86 jY jY O (Lk a)) O (leB O) λb7=>yE (j:=0) (cs2:=rowsL EE (([]:List RP)++[(⟨_,a⟩:RP)])) TV O ho_b6 O O O O O jY (GC Z) Z (by rw [Aw];rfl) O λp_1 c_1 ho_1 hne_1=>asg' O (oNl' (zB (sL [4,5,6,7,8,9,10] O) ?_)))))
   rw [show (0:Nat)+1=[(⟨_,a⟩:RP)].length by simp]
   exact yI p_1 c_1 ([(⟨_,a⟩:RP)]) (⟨(by simpa using ho_1),ZA hc0,(λr hr=>by rw [xM.1 hr];simp)⟩) (sF O) (sl sr)
  ·exact zG (yI (jk b6) 0 ([]:List RP) (⟨ho_b6,Y_ (ne_true_of_eq_false hc0),(λr hr=>by cases hr)⟩) (sF O) sr)
 ·intro p0 c0 r0s hJ
  obtain ⟨o0,e0,m0⟩:=hJ
  have n0:=I3 e0
  refine q1 (q4 (Af 3 Ar O (Af 2 Ar O (Af 4 Ar O (CQ call148 (λw hw=>Fq d e b Z w (inS hw 14 O ld) (inS hw 18 O le) (inS hw 10 O lb)) O (oNl' (zB (sL [4,5,6,7,8,9,10,31] O) (zA ?_))))))))
  refine yo (tg λ(p1:Option Addr) (c1:Nat) (r1s:List RP)=>OwnOk p1 r1s.length c1/\r1s.map (·.p)++KJ x y z u=CU x y z u/\(∀r∈r1s,r=(⟨x,a⟩:RP)\/r=(⟨y,b⟩:RP)\/r=(⟨z,d⟩:RP)\/r=(⟨u,e⟩:RP))) (tg λ(p1:Option Addr) (c1:Nat) (r1s:List RP)=>[(4,(pP b1 0)),(5,(pP b2 0)),(6,(pP b3 0)),(7,(pP b4 0)),(8,(vI 0)),(9,(pP b5 0)),(10,(qz p1 r1s.length c1))]) (tg λ(p1:Option Addr) (c1:Nat) (r1s:List RP)=>[rowW p1 86 6 r1s.length c1 (rowsL EE r1s),AO b5 86 ([(qa false),jj,jj,(qa false),jj,jj]),AO b4 86 (Ae e),AO b3 86 (Ae d),AO b2 86 (Ae b),AO b1 86 (Ae a),AM a.x.z.n,AM a.x.m,AM a.y.z.n,AM a.y.m,AM b.x.z.n,AM b.x.m,AM b.y.z.n,AM b.y.m,AM d.x.z.n,AM d.x.m,AM d.y.z.n,AM d.y.m,AM e.x.z.n,AM e.x.m,AM e.y.z.n,AM e.y.m]) ?_ ?_
  ·refine zK O (λhc1=>?_) (λhc1=>?_)
   ·refine zH (AK O (Af 4 Ar O (zZ (V:=λb7=>(qz (jk b7) 1 1)) (T:=86) (cs:=Ae b) (AG O) (Ai (z:=.agg #[(qa false),jj,jj,(qa false),jj,jj]) (cs:=Ae b) (pv:=[(0,(aG (Ae b)))]) underlying39 sizeOf86 zeroValue86 jY jY O (Lk b)) O (leB O) λb7=>yE (j:=0) (cs2:=rowsL EE (r0s++[(⟨_,b⟩:RP)])) TV O o0 (AT Bq _) O O O O jY (GC Z) Z (by rw [Aw];rfl) O λp_2 c_2 ho_2 hne_2=>asg' O (oNl' (zB (sL [4,5,6,7,8,9,10] O) ?_)))))
    rw [show r0s.length+1=(r0s++[(⟨_,b⟩:RP)]).length by simp]
    exact yI p_2 c_2 (r0s++[(⟨_,b⟩:RP)]) (⟨(by simpa using ho_2),(by rw [List.map_append];exact ZC hc1 e0),(λr hr=>(List.mem_append.1 hr).elim (m0 r) (λh=>by rw [xM.1 h];simp))⟩) (sF O) (sl sr)
   ·exact zG (yI p0 c0 r0s (⟨o0,ZB (ne_true_of_eq_false hc1) e0,m0⟩) (sF O) sr)
  ·intro p1 c1 r1s hJ
   obtain ⟨o1,e1,m1⟩:=hJ
   have n1:=I3 e1
   refine q1 (q4 (Af 5 Ar O (Af 4 Ar O (Af 3 Ar O (CQ call148 (λw hw=>Fq a b d Z w (inS hw 6 O la) (inS hw 10 O lb) (inS hw 14 O ld)) O (oNl' (zB (sL [4,5,6,7,8,9,10,39] O) (zA ?_))))))))
   refine yo (tg λ(p2:Option Addr) (c2:Nat) (r2s:List RP)=>OwnOk p2 r2s.length c2/\r2s.map (·.p)++KK x y u=CU x y z u/\(∀r∈r2s,r=(⟨x,a⟩:RP)\/r=(⟨y,b⟩:RP)\/r=(⟨z,d⟩:RP)\/r=(⟨u,e⟩:RP))) (tg λ(p2:Option Addr) (c2:Nat) (r2s:List RP)=>[(4,(pP b1 0)),(5,(pP b2 0)),(6,(pP b3 0)),(7,(pP b4 0)),(8,(vI 0)),(9,(pP b5 0)),(10,(qz p2 r2s.length c2))]) (tg λ(p2:Option Addr) (c2:Nat) (r2s:List RP)=>[rowW p2 86 6 r2s.length c2 (rowsL EE r2s),AO b5 86 ([(qa false),jj,jj,(qa false),jj,jj]),AO b4 86 (Ae e),AO b3 86 (Ae d),AO b2 86 (Ae b),AO b1 86 (Ae a),AM a.x.z.n,AM a.x.m,AM a.y.z.n,AM a.y.m,AM b.x.z.n,AM b.x.m,AM b.y.z.n,AM b.y.m,AM d.x.z.n,AM d.x.m,AM d.y.z.n,AM d.y.m,AM e.x.z.n,AM e.x.m,AM e.y.z.n,AM e.y.m]) ?_ ?_
   ·refine zK O (λhc2=>?_) (λhc2=>?_)
    ·refine zH (AK O (Af 3 Ar O (zZ (V:=λb7=>(qz (jk b7) 1 1)) (T:=86) (cs:=Ae d) (AG O) (Ai (z:=.agg #[(qa false),jj,jj,(qa false),jj,jj]) (cs:=Ae d) (pv:=[(0,(aG (Ae d)))]) underlying39 sizeOf86 zeroValue86 jY jY O (Lk d)) O (leB O) λb7=>yE (j:=0) (cs2:=rowsL EE (r1s++[(⟨_,d⟩:RP)])) TV O o1 (AT Bq _) O O O O jY (GC Z) Z (by rw [Aw];rfl) O λp_3 c_3 ho_3 hne_3=>asg' O (oNl' (zB (sL [4,5,6,7,8,9,10] O) ?_)))))
     rw [show r1s.length+1=(r1s++[(⟨_,d⟩:RP)]).length by simp]
     exact yI p_3 c_3 (r1s++[(⟨_,d⟩:RP)]) (⟨(by simpa using ho_3),(by rw [List.map_append];exact ZE hc2 e1),(λr hr=>(List.mem_append.1 hr).elim (m1 r) (λh=>by rw [xM.1 h];simp))⟩) (sF O) (sl sr)
    ·exact zG (yI p1 c1 r1s (⟨o1,ZD (ne_true_of_eq_false hc2) e1,m1⟩) (sF O) sr)
   ·intro p2 c2 r2s hJ
    obtain ⟨o2,e2,m2⟩:=hJ
    have n2:=I3 e2
    refine q1 (q4 (Af 5 Ar O (Af 4 Ar O (Af 2 Ar O (CQ call148 (λw hw=>Fq a b e Z w (inS hw 6 O la) (inS hw 10 O lb) (inS hw 18 O le)) O (oNl' (zB (sL [4,5,6,7,8,9,10,47] O) (zA ?_))))))))
    refine yo (tg λ(p3:Option Addr) (c3:Nat) (r3s:List RP)=>OwnOk p3 r3s.length c3/\r3s.map (·.p)=CU x y z u/\(∀r∈r3s,r=(⟨x,a⟩:RP)\/r=(⟨y,b⟩:RP)\/r=(⟨z,d⟩:RP)\/r=(⟨u,e⟩:RP))) (tg λ(p3:Option Addr) (c3:Nat) (r3s:List RP)=>[(4,(pP b1 0)),(5,(pP b2 0)),(6,(pP b3 0)),(7,(pP b4 0)),(8,(vI 0)),(9,(pP b5 0)),(10,(qz p3 r3s.length c3))]) (tg λ(p3:Option Addr) (c3:Nat) (r3s:List RP)=>[rowW p3 86 6 r3s.length c3 (rowsL EE r3s),AO b5 86 ([(qa false),jj,jj,(qa false),jj,jj]),AO b4 86 (Ae e),AO b3 86 (Ae d),AO b2 86 (Ae b),AO b1 86 (Ae a),AM a.x.z.n,AM a.x.m,AM a.y.z.n,AM a.y.m,AM b.x.z.n,AM b.x.m,AM b.y.z.n,AM b.y.m,AM d.x.z.n,AM d.x.m,AM d.y.z.n,AM d.y.m,AM e.x.z.n,AM e.x.m,AM e.y.z.n,AM e.y.m]) ?_ ?_
    ·refine zK O (λhc3=>?_) (λhc3=>?_)
     ·refine zH (AK O (Af 2 Ar O (zZ (V:=λb7=>(qz (jk b7) 1 1)) (T:=86) (cs:=Ae e) (AG O) (Ai (z:=.agg #[(qa false),jj,jj,(qa false),jj,jj]) (cs:=Ae e) (pv:=[(0,(aG (Ae e)))]) underlying39 sizeOf86 zeroValue86 jY jY O (Lk e)) O (leB O) λb7=>yE (j:=0) (cs2:=rowsL EE (r2s++[(⟨_,e⟩:RP)])) TV O o2 (AT Bq _) O O O O jY (GC Z) Z (by rw [Aw];rfl) O λp_4 c_4 ho_4 hne_4=>asg' O (oNl' (zB (sL [4,5,6,7,8,9,10] O) ?_)))))
      rw [show r2s.length+1=(r2s++[(⟨_,e⟩:RP)]).length by simp]
      exact yI p_4 c_4 (r2s++[(⟨_,e⟩:RP)]) (⟨(by simpa using ho_4),(by rw [List.map_append];exact ZG hc3 e2),(λr hr=>(List.mem_append.1 hr).elim (m2 r) (λh=>by rw [xM.1 h];simp))⟩) (sF O) (sl sr)
     ·exact zG (yI p2 c2 r2s (⟨o2,ZF (ne_true_of_eq_false hc3) e2,m2⟩) (sF O) sr)
    ·intro p3 c3 r3s hJ
     obtain ⟨o3,e3,m3⟩:=hJ
     have n3:=WI e3
     refine q1 (q4 (AK O (st' (v:=(vN r3s.length)) (AD O underlying39) O (st' (CC (c:=(decide (0<r3s.length))) O O (DE (a:=0) (b:=r3s.length))) O (oNl' (zB (sL [4,5,6,7,8,9,10,54] O) (zA ?_)))))))
     refine zK O (λhc4=>?_) (λhc4=>?_)
     ·replace hc4:=xR hc4
      have hsz:∀j,j<r3s.length->BO (r3s.getD j EP).p<=2048:=λj hj=>iF m3 hs hj
      have hel:r3s.length=(CU x y z u).length:=by rw [<-e3,xI]
      refine q4 (AK O (st' (v:=(pP (pB p3) (pO p3+0*6))) (AQ (j:=0) O O o3.row underlying39 sizeOf86 O Z) O (st' (v:=(aG (Ae ((r3s.getD 0 EP).x)))) (BB (vs:=Ae ((r3s.getD 0 EP).x)) (i:=0) O O o3 (AT Bq _) (BG.ne o3.row Z) Ar (BE Bq EP _ _ Z) (Bq _)) O (al Ja O λb7=>An O sizeOf86 O (q3 (sL [4,5,6,7,8,9,10,11] O) (AK O (st' (v:=(pP (pB p3) (pO p3+0*6))) (AQ (j:=0) O O o3.row underlying39 sizeOf86 O Z) O (st' (v:=(aG (Ae ((r3s.getD 0 EP).x)))) (BB (vs:=Ae ((r3s.getD 0 EP).x)) (i:=1) O O o3 (AT Bq _) (BG.ne o3.row Z) Ar (BE Bq EP _ _ Z) (Bq _)) O (al Ja O λb8=>An O sizeOf86 O ?_)))))))))
      refine q6 (sL [4,5,6,7,8,9,10,11,12] O) (q4 (asg' O (oNl' (zA (zM ?_)))))
      refine yM (tg λ(j:Nat) (lo:Nat) (hi:Nat)=>j<r3s.length/\lo<r3s.length/\hi<r3s.length/\(r3s.getD lo EP).p=PL Dj (CU x y z u) j/\(r3s.getD hi EP).p=PL Dk (CU x y z u) j) (tg λ(j:Nat) (lo:Nat) (hi:Nat)=>[(4,(pP b1 0)),(5,(pP b2 0)),(6,(pP b3 0)),(7,(pP b4 0)),(8,(vI 0)),(9,(pP b5 0)),(10,(qz p3 r3s.length c3)),(11,(pP b7 0)),(12,(pP b8 0)),(13,(vN (j+1)))]) (tg λ(j:Nat) (lo:Nat) (hi:Nat)=>[AO b8 86 (Ae ((r3s.getD hi EP).x)),AO b7 86 (Ae ((r3s.getD lo EP).x)),rowW p3 86 6 r3s.length c3 (rowsL EE r3s),AO b5 86 ([(qa false),jj,jj,(qa false),jj,jj]),AO b4 86 (Ae e),AO b3 86 (Ae d),AO b2 86 (Ae b),AO b1 86 (Ae a),AM a.x.z.n,AM a.x.m,AM a.y.z.n,AM a.y.m,AM b.x.z.n,AM b.x.m,AM b.y.z.n,AM b.y.m,AM d.x.z.n,AM d.x.m,AM d.y.z.n,AM d.y.m,AM e.x.z.n,AM e.x.m,AM e.y.z.n,AM e.y.m]) (tg λ(j:Nat) (lo:Nat) (hi:Nat)=>r3s.length-j) 0 0 0 (⟨Z,Z,Z,KV e3 Z,KV e3 Z⟩) (sF O) sr (λj lo hi hJ=>?_)
      obtain ⟨hj,hlo,hhi,kl,kh⟩:=hJ
      have s1:=hsz j hj
      have s2:=hsz lo hlo
      have s3:=hsz hi hhi
      refine zS (q4 (AK O (AK O (st' (v:=(vN r3s.length)) (AD O underlying39) O (st' (Aa (c:=(decide ((j+1)<r3s.length))) O O (DE (a:=j+1) (b:=r3s.length))) O (oNl' (zB (sL [4,5,6,7,8,9,10,11,12,13,64] O) (zA ?_))))))))
      refine zK O (λhc5=>?_) (λhc5=>?_)
      ·replace hc5:=xR hc5
       refine zG (q1 (zM (zS (zS (B9 (EV 5++[(5,false)]) sr (Bi O (Bi O (Am (v:=(pP (pB p3) (pO p3+(j+1)*6))) O (AQ (j:=j+1) O O o3.row underlying39 sizeOf86 O Z) (Am (v:=(aG (Ae ((r3s.getD (j+1) EP).x)))) O (BB (vs:=Ae ((r3s.getD (j+1) EP).x)) (i:=2) O O o3 (AT Bq _) (BG.ne o3.row Z) Ar (BE Bq EP _ _ Z) (Bq _)) (B3 1 Ar O (zD O ?_)))))))))))
       refine CQ call151 (λw hw=>QP ((r3s.getD (j+1) EP).x) ((r3s.getD lo EP).x) (by have s4:=hsz (j+1) Z;omega) w (QS m3 Z (inS hw 8 O la) (inS hw 12 O lb) (inS hw 16 O ld) (inS hw 20 O le)) (QS m3 Z (inS hw 8 O la) (inS hw 12 O lb) (inS hw 16 O ld) (inS hw 20 O le))) O (zC sr (zP (zB (sL [4,5,6,7,8,9,10,11,12,13,72] O) (zA ?_))))
       refine yL (tg λ(l2:Nat)=>l2<r3s.length/\(r3s.getD l2 EP).p=PL Dj (CU x y z u) (j+1)) (tg λ(l2:Nat)=>[(4,(pP b1 0)),(5,(pP b2 0)),(6,(pP b3 0)),(7,(pP b4 0)),(8,(vI 0)),(9,(pP b5 0)),(10,(qz p3 r3s.length c3)),(11,(pP b7 0)),(12,(pP b8 0)),(13,(vN (j+1)))]) (tg λ(l2:Nat)=>[AO b8 86 (Ae ((r3s.getD hi EP).x)),AO b7 86 (Ae ((r3s.getD l2 EP).x)),rowW p3 86 6 r3s.length c3 (rowsL EE r3s),AO b5 86 ([(qa false),jj,jj,(qa false),jj,jj]),AO b4 86 (Ae e),AO b3 86 (Ae d),AO b2 86 (Ae b),AO b1 86 (Ae a),AM a.x.z.n,AM a.x.m,AM a.y.z.n,AM a.y.m,AM b.x.z.n,AM b.x.m,AM b.y.z.n,AM b.y.m,AM d.x.z.n,AM d.x.m,AM d.y.z.n,AM d.y.m,AM e.x.z.n,AM e.x.m,AM e.y.z.n,AM e.y.m]) ?_ ?_
       ·refine zK O (λhc6=>?_) (λhc6=>?_)
        ·exact zH (AK O (AK O (st' (v:=(pP (pB p3) (pO p3+(j+1)*6))) (AQ (j:=j+1) O O o3.row underlying39 sizeOf86 O Z) O (st' (v:=(aG (Ae ((r3s.getD (j+1) EP).x)))) (BB (vs:=Ae ((r3s.getD (j+1) EP).x)) (i:=2) O O o3 (AT Bq _) (BG.ne o3.row Z) Ar (BE Bq EP _ _ Z) (Bq _)) O (DK O sizeOf86 O (oNl' (zB (sL [4,5,6,7,8,9,10,11,12,13] O) (zk (j+1) (⟨Z,(by rw [KV e3 Z];exact bO Z kl (by rw [<-KV e3 Z];exact hc6))⟩) (sF O) sr))))))))
        ·exact zG (zk lo (⟨Z,bN Z kl (by rw [<-KV e3 Z];exact ne_true_of_eq_false hc6)⟩) (sF O) sr)
       ·intro l2 hJ
        obtain ⟨l2b,l2k⟩:=hJ
        refine q1 (B9 (EV 5++[(5,false)]) sr (B3 0 Ar O (Bi O (Bi O (Am (v:=(pP (pB p3) (pO p3+(j+1)*6))) O (AQ (j:=j+1) O O o3.row underlying39 sizeOf86 O Z) (Am (v:=(aG (Ae ((r3s.getD (j+1) EP).x)))) O (BB (vs:=Ae ((r3s.getD (j+1) EP).x)) (i:=2) O O o3 (AT Bq _) (BG.ne o3.row Z) Ar (BE Bq EP _ _ Z) (Bq _)) (zD O (CQ call151 (λw hw=>QP ((r3s.getD hi EP).x) ((r3s.getD (j+1) EP).x) (by have s4:=hsz (j+1) Z;omega) w (QS m3 Z (inS hw 8 O la) (inS hw 12 O lb) (inS hw 16 O ld) (inS hw 20 O le)) (QS m3 Z (inS hw 8 O la) (inS hw 12 O lb) (inS hw 16 O ld) (inS hw 20 O le))) O (zC sr (zP (zB (sL [4,5,6,7,8,9,10,11,12,13,82] O) ?_)))))))))))
        refine zA ?_
        refine yL (tg λ(h2:Nat)=>h2<r3s.length/\(r3s.getD h2 EP).p=PL Dk (CU x y z u) (j+1)) (tg λ(h2:Nat)=>[(4,(pP b1 0)),(5,(pP b2 0)),(6,(pP b3 0)),(7,(pP b4 0)),(8,(vI 0)),(9,(pP b5 0)),(10,(qz p3 r3s.length c3)),(11,(pP b7 0)),(12,(pP b8 0)),(13,(vN (j+1)))]) (tg λ(h2:Nat)=>[AO b8 86 (Ae ((r3s.getD h2 EP).x)),AO b7 86 (Ae ((r3s.getD l2 EP).x)),rowW p3 86 6 r3s.length c3 (rowsL EE r3s),AO b5 86 ([(qa false),jj,jj,(qa false),jj,jj]),AO b4 86 (Ae e),AO b3 86 (Ae d),AO b2 86 (Ae b),AO b1 86 (Ae a),AM a.x.z.n,AM a.x.m,AM a.y.z.n,AM a.y.m,AM b.x.z.n,AM b.x.m,AM b.y.z.n,AM b.y.m,AM d.x.z.n,AM d.x.m,AM d.y.z.n,AM d.y.m,AM e.x.z.n,AM e.x.m,AM e.y.z.n,AM e.y.m]) ?_ ?_
        ·refine zK O (λhc7=>?_) (λhc7=>?_)
         ·exact zH (AK O (AK O (st' (v:=(pP (pB p3) (pO p3+(j+1)*6))) (AQ (j:=j+1) O O o3.row underlying39 sizeOf86 O Z) O (st' (v:=(aG (Ae ((r3s.getD (j+1) EP).x)))) (BB (vs:=Ae ((r3s.getD (j+1) EP).x)) (i:=2) O O o3 (AT Bq _) (BG.ne o3.row Z) Ar (BE Bq EP _ _ Z) (Bq _)) O (An O sizeOf86 O (oNl' (zB (sL [4,5,6,7,8,9,10,11,12,13] O) (zk (j+1) (⟨Z,(by rw [KV e3 Z];exact bO Z kh (by rw [<-KV e3 Z];exact hc7))⟩) (sF O) sr))))))))
         ·exact zG (zk hi (⟨Z,bN Z kh (by rw [<-KV e3 Z];exact ne_true_of_eq_false hc7)⟩) (sF O) sr)
        ·intro h2 hJ
         obtain ⟨h2b,h2k⟩:=hJ
         exact zJ (zA (zH (AK O (st' (AX (c:=(((j+1)+1:Nat):Int)) O O (AU (a:=j+1) (b:=1) Z)) O (asg' O (oNl' (zB (sL [4,5,6,7,8,9,10,11,12,13] O) (yD (j+1) l2 h2 (⟨Z,l2b,h2b,l2k,h2k⟩) Z (sF O) sr))))))))
      ·replace hc5:=xQ hc5
       have hcut:=V_ (f:=Dj) (g:=Dk) (n:=j) (show j+1=(CU x y z u).length by omega)
       rw [<-kl,<-kh] at hcut
       refine zW (zO (zo (zR (q1 (q4 (Af 1 Ar O (Af 0 Ar O (CQ call54 (λw hw=>FF ((r3s.getD lo EP).x) ((r3s.getD hi EP).x) Z w (QS m3 Z (inS hw 8 O la) (inS hw 12 O lb) (inS hw 16 O ld) (inS hw 20 O le)) (QS m3 Z (inS hw 8 O la) (inS hw 12 O lb) (inS hw 16 O ld) (inS hw 20 O le))) O (oNl' (zB (sL [4,5,6,7,8,9,10,11,12,13,89] O) (zA ?_)))))))))))
       refine zK O (λhc8=>?_) (λhc8=>?_)
       ·have hsm:=aa hc8
        refine zS (B9 [(0,true),(1,true),(2,false)] (sk (sk (sk (sl sr)))) (B3 1 Ar O (pS' O (zD O (F8 O sizeOf86 O (zC (sk (sk (sk (sl sr)))) (zP (zB (sL [4,5,6,7,8,9,10,11,12,13] O) (zA (zF (zL ?_)))))))))))
        exact zL (Bl O (rd_tmp (v:=(vI 1)) O) (Ab (i:=3) (cs:=Ae ((r3s.getD lo EP).x)) O O isAgg86 sizeOf86 O) (λw hw=>(Qu.cast (congrArg (·.1) (hcut.trans (if_pos hsm))).symm (congrArg (·.2) (hcut.trans (if_pos hsm))).symm (DU (a:=(⟨(r3s.getD lo EP).x⟩:Qu 1 ((r3s.getD lo EP).p))) hw (QS m3 Z (inS hw 8 O la) (inS hw 12 O lb) (inS hw 16 O ld) (inS hw 20 O le)) O))))
       ·have hsm:=aY (ne_true_of_eq_false hc8)
        refine zG (q1 (B9 [(0,true),(1,true),(2,false)] (sk (sk (sk (sl sr)))) (B3 1 Ar O (pS' O (zD O (F8 O sizeOf86 O (zC (sk (sk (sk (sl sr)))) (zP (zB (sL [4,5,6,7,8,9,10,11,12,13] O) (zA (zF ?_)))))))))))
        exact zL (Bl O (rd_tmp (v:=(vI 2)) O) (Ab (i:=3) (cs:=Ae ((r3s.getD lo EP).x)) O O isAgg86 sizeOf86 O) (λw hw=>(Qu.cast (congrArg (·.1) (hcut.trans (if_neg hsm))).symm (congrArg (·.2) (hcut.trans (if_neg hsm))).symm (DU (a:=(⟨(r3s.getD lo EP).x⟩:Qu 2 ((r3s.getD lo EP).p))) hw (QS m3 Z (inS hw 8 O la) (inS hw 12 O lb) (inS hw 16 O ld) (inS hw 20 O le)) O))))
     ·replace hc4:=xQ hc4
      have hE:CU x y z u=[]:=by rw [<-e3,List.length_eq_zero_iff.1 (show r3s.length=0 by omega)];rfl
      refine zG (q2 (Af 4 Ar O (Af 5 Ar O ?_)))
      have hz1:=Bo y x
      refine cP (S:=S) (x:=(y-x)) (args:=[(aG (Ae b)),(aG (Ae a))]) call108 (λw hw=>DD b a Z w (inS hw 10 O lb) (inS hw 6 O la)) O O O λg1 lg1=>al Ja O λb7=>An O sizeOf86 O (q3 (sL [4,5,6,7,8,9,10,14] O) (Af 7 Ar O (Af 8 Ar O ?_)))
      have hz2:=Bo u z
      refine cP (S:=S) (x:=(u-z)) (args:=[(aG (Ae e)),(aG (Ae d))]) call108 (λw hw=>DD e d Z w (inS hw 23 O le) (inS hw 19 O ld)) O O O λg2 lg2=>al Ja O λb8=>An O sizeOf86 O (q3 (sL [4,5,6,7,8,9,10,14,15] O) (Af 5 Ar O (Af 0 Ar O ?_)))
      have hz3:=FN (y-x) (u-z)
      refine cF (S:=S) (x:=(BI (y-x) (u-z))) (args:=[(aG (Ae g1)),(aG (Ae g2))]) call152 (λw hw=>HF g1 g2 Z w (inS hw 6 O lg1) (inS hw 1 O lg2)) O O O λg3 lg3=>al Hz O λb9=>An O sizeOf84 O (q6 (sL [4,5,6,7,8,9,10,14,15,16] O) (q4 (Af 0 Br O (CQ call104 (λw hw=>Gd g3 w (inS hw 1 O lg3)) O (st' (Au (c:=(decide (((BI (y-x) (u-z)).num.sign)=(0:Int)))) O O O) O (oNl' (zB (sL [4,5,6,7,8,9,10,14,15,16,103] O) (zA ?_))))))))
      refine zK O (λhc9=>?_) (λhc9=>?_)
      ·replace hc9:=xR hc9
       have hcut:=(Hh (f:=Dj) (g:=Dk) hE).trans (if_pos (dT hc9))
       exact q4 (st' (v:=(aG ([(qa false),jj,jj,(qa false),jj,jj]))) (AS (zs:=[(qa false),jj,jj,(qa false),jj,jj]) (vs:=[(qa false),jj,jj,(qa false),jj,jj]) (pv:=[]) (places:=[(0,3),(3,3)]) zeroValue86 underlying86 (λw=>by simp [sizeOf84]) O (Hl )) O (asg' O (Dt 14 (off:=0) (vs:=[(qa false),jj,jj,(qa false),jj,jj]) (cs':=[(qa false),jj,jj,(qa false),jj,jj]) (AG O) O sizeOf86 O (oNl' (zB (sL [4,5,6,7,8,9,10,14,15,16] O) (zA (zF (zL (Bl O (rd_tmp (v:=(vI 0)) O) (Ab (i:=14) (cs:=[(qa false),jj,jj,(qa false),jj,jj]) O O isAgg86 sizeOf86 O) (λw hw=>(Qu.cast (congrArg (·.1) hcut).symm (congrArg (·.2) hcut).symm (DU (a:=(⟨iM⟩:Qu 0 ⟨0,0⟩)) hw Xb O))))))))))))
      ·replace hc9:=xQ hc9
       have hkz:=dU hc9
       refine zG (q1 (rN [(0,true),(1,true),(3,true),(5,true),(2,false),(4,false),(6,false)] [⟨7,17,84,[(qa false),jj,jj]⟩] [(8,false)] sr jV (λ_ _ d _ _ h=>by cases d<;>exact h) (GD O O Hz O (GP)) O (En 16 Ar O (En 18 Ar O (En 3 Ar O (En 0 Br O (zf O λEF EL=>?_)))))))
       have hz4:=Bo z x
       refine cP (S:=S) (x:=(z-x)) (args:=[(aG (Ae d)),(aG (Ae a))]) call108 (λw hw=>DD d a Z w (inS hw 27 O ld) (inS hw 19 O la)) O O O λg4 lg4=>yc (sl (sl (sl (sl sr)))) O (zf O λEF EL=>?_)
       have hz5:=FN (z-x) (u-z)
       refine cF (S:=S) (x:=(BI (z-x) (u-z))) (args:=[(aG (Ae g4)),(aG (Ae g2))]) call152 (λw hw=>HF g4 g2 Z w (inS hw 0 O lg4) (inS hw 8 O lg2)) O O O λg5 lg5=>y8 (sl (sl (sl (sl (sl (sl sr)))))) O (zf O λEF EL=>?_)
       have hz6:=H6 (BI (z-x) (u-z)) (BI (y-x) (u-z))
       refine cF (S:=S) (x:=((BI (z-x) (u-z))/(BI (y-x) (u-z)))) (args:=[(aG (fxL g5)),(aG (fxL g3))]) call101 (λw hw=>JQ g5 g3 (by (try simp only [BN]);omega) w (inS hw 0 O lg5) (inS hw 7 O lg3)) O O O λg6 lg6=>y8 (sl (sl (sl (sl (sl (sl (sl (sl sr)))))))) O (zx λb10=>zD O (An O sizeOf84 O (zC (sl (sl (sl (sl (sl (sl (sl (sl (sl sr))))))))) (zP (zB (sL [4,5,6,7,8,9,10,14,15,16,17] O) (q1 (rN [(0,true),(1,true),(2,true),(3,false),(4,false)] [⟨5,18,86,[(qa false),jj,jj,(qa false),jj,jj]⟩] [(6,false)] sr jV (λ_ _ d _ _ h=>by cases d<;>exact h) (GD O O Ja O (GP)) O (En 27 Ar O (En 17 Ar O ?_)))))))))
       refine En 0 Br O (zf O λEF EL=>?_)
       have hz7:=E8 (y-x) ((BI (z-x) (u-z))/(BI (y-x) (u-z)))
       refine cP (S:=S) (x:=(Bm (y-x) ((BI (z-x) (u-z))/(BI (y-x) (u-z))))) (args:=[(aG (Ae g1)),(aG (fxL g6))]) call154 (λw hw=>MV g1 g6 Z w (inS hw 18 O lg1) (inS hw 1 O lg6)) O O O λg7 lg7=>yc (sl (sl (sl (sl sr)))) O (zf O λEF EL=>?_)
       have hz8:=Gu x (Bm (y-x) ((BI (z-x) (u-z))/(BI (y-x) (u-z))))
       refine cP (S:=S) (x:=(x+(Bm (y-x) ((BI (z-x) (u-z))/(BI (y-x) (u-z)))))) (args:=[(aG (Ae a)),(aG (Ae g7))]) call153 (λw hw=>QW a g7 Z w (inS hw 32 O la) (inS hw 0 O lg7)) O O O λg8 lg8=>yc (sl (sl (sl (sl (sl (sl (sl (sl sr)))))))) O (zx λb11=>zD O (An O sizeOf86 O (zC (sl (sl (sl (sl (sl (sl (sl (sl (sl sr))))))))) (zP (zB (sL [4,5,6,7,8,9,10,14,15,16,17,18] O) (q1 (q4 (Af 36 Ar O (Af 35 Ar O ?_)))))))))
       refine Af 0 Ar O (CQ call148 (λw hw=>Fq a b g8 Z w (inS hw 37 O la) (inS hw 41 O lb) (inS hw 1 O lg8)) O (AK O ?_))
       refine zg (FM:=[(4,(pP b1 0)),(5,(pP b2 0)),(6,(pP b3 0)),(7,(pP b4 0)),(8,(vI 0)),(9,(pP b5 0)),(10,(qz p3 r3s.length c3)),(14,(pP b7 0)),(15,(pP b8 0)),(16,(pP b9 0)),(17,(pP b10 0)),(18,(pP b11 0)),(117,(aG (Ae a))),(118,(aG (Ae b))),(119,(aG (Ae g8))),(120,(qa (Dw x y (x+(Bm (y-x) ((BI (z-x) (u-z))/(BI (y-x) (u-z)))))))),(121,(qa (Dw x y (x+(Bm (y-x) ((BI (z-x) (u-z))/(BI (y-x) (u-z)))))))),(126,(qa ((Dw x y (x+(Bm (y-x) ((BI (z-x) (u-z))/(BI (y-x) (u-z))))))&&(Dw z u (x+(Bm (y-x) ((BI (z-x) (u-z))/(BI (y-x) (u-z)))))))))]) (LM:=[AO b11 86 (Ae g8),AM g8.x.z.n,AM g8.x.m,AM g8.y.z.n,AM g8.y.m,AM g7.x.z.n,AM g7.x.m,AM g7.y.z.n,AM g7.y.m,AO b10 84 (fxL g6),AM g6.z.n,AM g6.m,AM g5.z.n,AM g5.m,AM g4.x.z.n,AM g4.x.m,AM g4.y.z.n,AM g4.y.m,AO b9 84 (fxL g3),AM g3.z.n,AM g3.m,AO b8 86 (Ae g2),AM g2.x.z.n,AM g2.x.m,AM g2.y.z.n,AM g2.y.m,AO b7 86 (Ae g1),AM g1.x.z.n,AM g1.x.m,AM g1.y.z.n,AM g1.y.m,rowW p3 86 6 r3s.length c3 (rowsL EE r3s),AO b5 86 ([(qa false),jj,jj,(qa false),jj,jj]),AO b4 86 (Ae e),AO b3 86 (Ae d),AO b2 86 (Ae b),AO b1 86 (Ae a),AM a.x.z.n,AM a.x.m,AM a.y.z.n,AM a.y.m,AM b.x.z.n,AM b.x.m,AM b.y.z.n,AM b.y.m,AM d.x.z.n,AM d.x.m,AM d.y.z.n,AM d.y.m,AM e.x.z.n,AM e.x.m,AM e.y.z.n,AM e.y.m]) 5 ?_ ?_
       ·rcases xO (Dw x y (x+(Bm (y-x) ((BI (z-x) (u-z))/(BI (y-x) (u-z)))))) with hg1|hg1
        ·refine zN (k:=121) (u:=qa true) O (by rw [hg1]) ?_
         have hg1':=hg1
         skip
         exact BV (v:=(aG (Ae d))) O (AY (i:=34) (vs:=Ae d) O O Ar.a Ar.s O O) (BV (v:=(aG (Ae e))) O (AY (i:=33) (vs:=Ae e) O O Ar.a Ar.s O O) (BV (v:=(aG (Ae g8))) O (AY (i:=0) (vs:=Ae g8) O O Ar.a Ar.s O O) (zd (v:=(qa (Dw z u (x+(Bm (y-x) ((BI (z-x) (u-z))/(BI (y-x) (u-z)))))))) (AE O) (Ag (args:=[(aG (Ae d)),(aG (Ae e)),(aG (Ae g8))]) O O call148) (λw hw=>Fq d e g8 Z w (inS hw 45 O ld) (inS hw 49 O le) (inS hw 1 O lg8)) O (leB O) (st' (v:=(qa (Dw z u (x+(Bm (y-x) ((BI (z-x) (u-z))/(BI (y-x) (u-z)))))))) (ex_pick_true O O) O (oNl' (zT CT (xP _)))))))
        ·refine zN (k:=121) (u:=qa false) O (by rw [hg1]) ?_
         have hg1':=hg1
         skip
         exact BP O (BP O (BP O (BP O (st' (v:=(qa false)) (AN O O) O (oNl' (zT CT (xP _)))))))
       refine oNl' (zB (sL [4,5,6,7,8,9,10,14,15,16,17,18,126] O) (zA ?_))
       refine zK O (λhc10=>?_) (λhc10=>?_)
       ·simp only [jK] at hc10
        have hcut:=(Hh (f:=Dj) (g:=Dk) hE).trans ((if_neg hkz).trans (if_pos hc10))
        exact zS (B9 [(0,true),(1,true),(2,false)] (sk (sk (sk (sk (sk (sk (sk (sk (sk (sk (sk (sk (sk (sk (sk (sk (sk (sk (sk (sk (sk (sk (sk (sk (sk (sk (sk (sk (sk (sk (sk (sk (sl sr))))))))))))))))))))))))))))))))) (B3 0 Ar O (pS' O (zD O (Dt 32 (off:=0) (vs:=Ae g8) (cs':=Ae g8) (AG O) O sizeOf86 O (zC (sk (sk (sk (sk (sk (sk (sk (sk (sk (sk (sk (sk (sk (sk (sk (sk (sk (sk (sk (sk (sk (sk (sk (sk (sk (sk (sk (sk (sk (sk (sk (sk (sl sr))))))))))))))))))))))))))))))))) (zP (zB (sL [4,5,6,7,8,9,10,14,15,16,17,18] O) (zA (zF (zL (Bl O (rd_tmp (v:=(vI 1)) O) (Ab (i:=32) (cs:=Ae g8) O O isAgg86 sizeOf86 O) (λw hw=>(Qu.cast (congrArg (·.1) hcut).symm (congrArg (·.2) hcut).symm (DU (a:=(⟨g8⟩:Qu 1 (x+(Bm (y-x) ((BI (z-x) (u-z))/(BI (y-x) (u-z))))))) hw (inS hw 1 O lg8) O)))))))))))))))
       ·simp only [jK] at hc10
        have hcut:=(Hh (f:=Dj) (g:=Dk) hE).trans ((if_neg hkz).trans (if_neg (λh=>hc10.elim (λk=>absurd h.1 (ne_true_of_eq_false k)) (λk=>absurd h.2 (ne_true_of_eq_false k)))))
        exact zG (q2 (st' (v:=(aG ([(qa false),jj,jj,(qa false),jj,jj]))) (AS (zs:=[(qa false),jj,jj,(qa false),jj,jj]) (vs:=[(qa false),jj,jj,(qa false),jj,jj]) (pv:=[]) (places:=[(0,3),(3,3)]) zeroValue86 underlying86 (λw=>by simp [sizeOf84]) O (Hl )) O (asg' O (Dt 32 (off:=0) (vs:=[(qa false),jj,jj,(qa false),jj,jj]) (cs':=[(qa false),jj,jj,(qa false),jj,jj]) (AG O) O sizeOf86 O (oNl' (zB (sL [4,5,6,7,8,9,10,14,15,16,17,18] O) (zA (zF (Bl O (rd_tmp (v:=(vI 0)) O) (Ab (i:=32) (cs:=[(qa false),jj,jj,(qa false),jj,jj]) O O isAgg86 sizeOf86 O) (λw hw=>(Qu.cast (congrArg (·.1) hcut).symm (congrArg (·.2) hcut).symm (DU (a:=(⟨iM⟩:Qu 0 ⟨0,0⟩)) hw Xb O))))))))))))
end
end Go.Proofs.YtcpkbjjmcleplaaGreatDoor
