import Derived.Test.YtcpkbjjmcleplaaGreatDoorPart37
namespace Go.Proofs.YtcpkbjjmcleplaaGreatDoor
open Go Go.RowKit Go.Proofs.Tryz
open Go.Value renaming slice→qz,bool→qa
set_option linter.unusedVariables false
set_option linter.unusedSimpArgs false
section
set_option maxRecDepth 100000
theorem Tj {x y:Pt} {s:Rat} (a:PX x) (b:PX y) (k:FX s) (hs:BD x+BD y+Sz s<=4096) (w:World) {S:Nat->Prop} (ha:Ro S w a) (hb:Ro S w b) (hk:Ro S w k)  :Calls prog 103 #[(aG (AZ a)),(aG (AZ b)),(aG (fxL k))] w (Ai (PX (Ez x y s)) S w):=by
 have la:=Bs (W:=w) ha
 have lb:=Bs (W:=w) hb
 have lk:=Bs (W:=w) hk
 refine AX (args:=[(aG (AZ a)),(aG (AZ b)),(aG (fxL k))]) (L:=[AM a.x.z.n,AM a.x.m,AM a.y.z.n,AM a.y.m,AM b.x.z.n,AM b.x.m,AM b.y.z.n,AM b.y.m,AM k.z.n,AM k.m]) func103 O O (leB O) (E1 ha (E1 hb (L_ hk Al))) (zG (sL [0,1,2] O) (q4 (A9 (cs:=AZ a) O λb1=>A9 (cs:=AZ b) O λb2=>A9 (cs:=fxL k) O λb3=>al I4 O λb4=>q6 (sL [3,4,5,6] O) (B8 [(0,true),(1,true),(2,true),(4,true),(3,false),(5,false),(6,false),(7,false)] (sl sr) (Bv 2 Ap O (Bv 1 Ap O (Bv 2 Ap O ?_)))))))
 refine Bv 0 Bm O (zD O ?_)
 have hz1:=Bi y x
 refine cP (S:=S) (x:=(y-x)) (args:=[(aG (AZ b)),(aG (AZ a))]) call108 (λw hw=>Cw b a Z w (inS hw 8 O lb) (inS hw 4 O la)) O O O λg1 lg1=>zC (sl (sl (sl (sl (sl sr))))) (zD O ?_)
 have hz2:=Ef (y-x) s
 refine cP (S:=S) (x:=(Bg (y-x) s)) (args:=[(aG (AZ g1)),(aG (fxL k))]) call154 (λw hw=>LY g1 k Z w (inS hw 0 O lg1) (inS hw 16 O lk)) O O O λg2 lg2=>zC (sl (sl (sl (sl (sl (sl (sl (sl (sl sr))))))))) (zD O ?_)
 have hz3:=GP x (Bg (y-x) s)
 exact cP (S:=S) (x:=(x+(Bg (y-x) s))) (args:=[(aG (AZ a)),(aG (AZ g2))]) call153 (λw hw=>PO a g2 Z w (inS hw 12 O la) (inS hw 0 O lg2)) O O O λg3 lg3=>zC (sl (sl (sl (sl (sl (sl (sl (sl (sl (sl (sl (sl (sl sr))))))))))))) (zD O (EV 12 (off:=0) (vs:=AZ g3) (cs':=AZ g3) (AJ O) O sizeOf86 O (zC (sl (sl (sl (sl (sl (sl (sl (sl (sl (sl (sl (sl (sl sr))))))))))))) (zP (zB (sL [6] O) (zA (zF (ret_one O (Aa (i:=12) (cs:=AZ g3) O O isAgg86 sizeOf86 O) (λw hw=>DC (a:=(g3:PX (Ez x y s))) hw (inS hw 0 O lg3) O)))))))))
theorem Qp {x y z:Pt} (a:PX x) (b:PX y) (d:PX z) (hs:BD x+BD y+BD z<=4096) (w:World) {S:Nat->Prop} (ha:Ro S w a) (hb:Ro S w b) (hd:Ro S w d)  :Calls prog 100 #[(aG (AZ a)),(aG (AZ b)),(aG (AZ d))] w (Ai (FX (MV x y z)) S w):=by
 have la:=Bs (W:=w) ha
 have lb:=Bs (W:=w) hb
 have ld:=Bs (W:=w) hd
 refine AX (args:=[(aG (AZ a)),(aG (AZ b)),(aG (AZ d))]) (L:=[AM a.x.z.n,AM a.x.m,AM a.y.z.n,AM a.y.m,AM b.x.z.n,AM b.x.m,AM b.y.z.n,AM b.y.m,AM d.x.z.n,AM d.x.m,AM d.y.z.n,AM d.y.m]) func100 O O (leB O) (E1 ha (E1 hb (E1 hd Al))) (zG (sL [0,1,2] O) (q4 (A9 (cs:=AZ a) O λb1=>A9 (cs:=AZ b) O λb2=>A9 (cs:=AZ d) O λb3=>al HZ O λb4=>q3 (sL [3,4,5,6] O) (Ah 2 Ap O (Ah 3 Ap O ?_)))))
 have hz1:=Bi y x
 refine cP (S:=S) (x:=(y-x)) (args:=[(aG (AZ b)),(aG (AZ a))]) call108 (λw hw=>Cw b a Z w (inS hw 8 O lb) (inS hw 4 O la)) O O O λg1 lg1=>al I4 O λb5=>Am O sizeOf86 O (q6 (sL [3,5,6,7] O) (B8 [(0,true),(1,true),(3,true),(5,true),(6,true),(2,false),(4,false),(7,false),(8,false),(9,false)] (sk (sk (sk (sk (sk (sl sr)))))) (Bv 5 Ap O (Bv 7 Ap O (Bv 0 Ap O (Bv 0 Ap O (Bv 0 Ap O (zD O ?_))))))))
 have hz2:=Bi z x
 refine cP (S:=S) (x:=(z-x)) (args:=[(aG (AZ d)),(aG (AZ a))]) call108 (λw hw=>Cw d a Z w (inS hw 17 O ld) (inS hw 9 O la)) O O O λg2 lg2=>zC (sl (sl (sl (sl (sk (sk (sk (sk (sk (sl sr)))))))))) (zD O ?_)
 have hz3:=GR (z-x) (y-x)
 refine cF (S:=S) (x:=(Cq (z-x) (y-x))) (args:=[(aG (AZ g2)),(aG (AZ g1))]) call107 (λw hw=>Ix g2 g1 Z w (inS hw 0 O lg2) (inS hw 5 O lg1)) O O O λg3 lg3=>zC (sl (sl (sl (sl (sl (sl (sk (sk (sk (sk (sk (sl sr)))))))))))) (zD O ?_)
 have hz4:=GR (y-x) (y-x)
 refine cF (S:=S) (x:=(Cq (y-x) (y-x))) (args:=[(aG (AZ g1)),(aG (AZ g1))]) call107 (λw hw=>Ix g1 g1 Z w (inS hw 7 O lg1) (inS hw 7 O lg1)) O O O λg4 lg4=>zC (sl (sl (sl (sl (sl (sl (sl (sl (sk (sk (sk (sk (sk (sl sr)))))))))))))) (zD O ?_)
 have hz5:=Hf (Cq (z-x) (y-x)) (Cq (y-x) (y-x))
 exact cF (S:=S) (x:=((Cq (z-x) (y-x))/(Cq (y-x) (y-x)))) (args:=[(aG (fxL g3)),(aG (fxL g4))]) call101 (λw hw=>It g3 g4 (by (try simp only [BE]);omega) w (inS hw 2 O lg3) (inS hw 0 O lg4)) O O O λg5 lg5=>zC (sl (sl (sl (sl (sl (sl (sl (sl (sl (sl (sk (sk (sk (sk (sk (sl sr)))))))))))))))) (zD O (EV 15 (off:=0) (vs:=fxL g5) (cs':=fxL g5) (AJ O) O sizeOf84 O (zC (sl (sl (sl (sl (sl (sl (sl (sl (sl (sl (sk (sk (sk (sk (sk (sl sr)))))))))))))))) (zP (zB (sL [3,6,7] O) (zA (zF (ret_one O (Aa (i:=15) (cs:=fxL g5) O O isAgg84 sizeOf84 O) (λw hw=>DC (a:=(g5:FX (MV x y z))) hw (inS hw 0 O lg5) O)))))))))
theorem IX {rs:List RP} {T:List Pt} {x y z u:Pt} (h:rs.map (·.p)++T=CD x y z u):rs.length<=4:=by
 have k:=congrArg List.length h
 have:=U7 (a:=x) (b:=y) (c:=z) (d:=u)
 rw [xJ,xI] at k;omega
theorem U6 {rs:List RP} {x y z u:Pt} (h:rs.map (·.p)=CD x y z u):rs.length<=4:=IX (T:=[]) (by rw [List.append_nil];exact h)
theorem Y1 {p q:Pt} (h:CG p q=true):p=q:=by
 unfold CG at h
 simp only [xZ,xT] at h
 exact Pt.ext h.1 h.2
theorem Yz {p q:Pt} (h:¬CG p q=true):¬p=q:=λe=>h (by subst e;unfold CG;simp)
theorem a7 {q:Rat} (h:q.num.sign=0):q=0:=Rat.num_eq_zero.1 (Int.sign_eq_zero_iff_zero.1 h)
theorem a8 {q:Rat} (h:¬q.num.sign=0):¬q=0:=λe=>h (by subst e;rfl)
theorem SN:ElemT prog 39 86 6 112:=⟨underlying39,DP jV⟩
theorem PF {x y:Pt} (a:PX x) (b:PX y) (hs:BD x+BD y<=65536) (w:World) {S:Nat->Prop} (ha:Ro S w a) (hb:Ro S w b)  :Calls prog 151 #[(aG (AZ a)),(aG (AZ b))] w (AY w (qa (Nm x y))):=by
 have sx:=Ca x
 have sy:=Ca y
 have sx2:=Cb x
 have sy2:=Cb y
 have la:=Bs (W:=w) ha
 have lb:=Bs (W:=w) hb
 refine AX (args:=[(aG (AZ a)),(aG (AZ b))]) (L:=[AM a.x.z.n,AM a.x.m,AM a.y.z.n,AM a.y.m,AM b.x.z.n,AM b.x.m,AM b.y.z.n,AM b.y.m]) func151 O O (leB O) (E1 ha (E1 hb Al)) (zG (sL [0,1] O) (q4 (A9 (cs:=AZ a) O λb1=>A9 (cs:=AZ b) O λb2=>asg' O (q3 (sL [2,3,4] O) (st' (v:=(pP b1 0)) (AA O underlying86 O sizeOf84 O) O (Br 1 (fxL a.x) Bm O (st' (v:=(pP b2 0)) (AA O underlying86 O sizeOf84 O) O (Br 0 (fxL b.x) Bm O (CC call56 (λw hw=>Fr a.x b.x Z w (SC (inS hw 2 O la)) (SC (inS hw 6 O lb))) O ?_)))))))))
 refine asg' O (q6 (sL [2,3,4,5] O) ?_)
 by_cases h1:BK x.x y.x<0
 ·have hr:=aN h1
  refine zL (AL O (st' (Ag (c:=true) O O (xE h1)) O (AL O (BF O (BF O (BF O (yR (Ey O O O) O (leB O) (yR (Ey O O O) O (leB O) (yR (Ey O O O) O (leB O) (yR (Ey O O O) O (leB O) (yR (Ey O O O) O (leB O) ?_)))))))))))
  exact yR (Ey O O O) O (leB O) (BF O (st' (v:=(qa true)) (ex_pick_true O O) O (asg' O (oNl' (zB (sL [2,3,4] O) (zA (zF (ret_one O (rd_tmp (v:=(qa true)) O) (λw hw=>⟨by rw [hr],hw.out⟩)))))))))
 ·by_cases h2:BK x.x y.x=0
  ·have hr:=aO h1 h2
   refine zL (AL O (st' (Ag (c:=false) O O (xz h1)) O (AL O (FV O (BN (v:=(qa true)) O (Az (c:=true) O O (xE h2)) (FV O (BN (v:=(pP b1 3)) O (AA O underlying86 O sizeOf84 O) (BN (v:=(aG (fxL a.y))) O (AW (i:=1) (vs:=fxL a.y) O O Bm.a Bm.s O O) (BN (v:=(pP b2 3)) O (AA O underlying86 O sizeOf84 O) (BN (v:=(aG (fxL b.y))) O (AW (i:=0) (vs:=fxL b.y) O O Bm.a Bm.s O O) (zc (v:=(vI (BK x.y y.y))) (AE O) (Ac (args:=[(aG (fxL a.y)),(aG (fxL b.y))]) O O call56) (λw hw=>Fr a.y b.y Z w (SD (inS hw 2 O la)) (SD (inS hw 6 O lb))) O (leB O) ?_)))))))))))
   exact BN (v:=(qa (decide ((BK x.y y.y)<(0:Int))))) O (Ag (c:=(decide ((BK x.y y.y)<(0:Int)))) O O O) (BN (v:=(qa (decide ((BK x.y y.y)<(0:Int))))) O (ex_pick_true O O) (st' (v:=(qa (decide ((BK x.y y.y)<(0:Int))))) (AN O O) O (asg' O (oNl' (zB (sL [2,3,4] O) (zA (zF (ret_one O (rd_tmp (v:=(qa (decide ((BK x.y y.y)<(0:Int))))) O) (λw hw=>⟨by rw [hr],hw.out⟩)))))))))
  ·have hr:=aP h1 h2
   refine zL (AL O (st' (Ag (c:=false) O O (xz h1)) O (AL O (FV O (BN (v:=(qa false)) O (Az (c:=false) O O (xz h2)) (FV O (BF O (BF O (BF O (BF O (BF O ?_)))))))))))
   exact BF O (BN (v:=(qa false)) O (AN O O) (st' (v:=(qa false)) (AN O O) O (asg' O (oNl' (zB (sL [2,3,4] O) (zA (zF (ret_one O (rd_tmp (v:=(qa false)) O) (λw hw=>⟨by rw [hr],hw.out⟩)))))))))
theorem HJ  :Instr.fill ([(0,3),(3,3)].toArray[·]?) ([(qa false),jj,jj,(qa false),jj,jj]).toArray []=some ([(qa false),jj,jj,(qa false),jj,jj]).toArray:=by kernel_rfl
set_option maxHeartbeats 2000000 in
theorem Ym {x y z u:Pt} (a:PX x) (b:PX y) (d:PX z) (e:PX u) (hs:BD x+BD y+BD z+BD u<=2048) (w:World) {S:Nat->Prop} (ha:Ro S w a) (hb:Ro S w b) (hd:Ro S w d) (he:Ro S w e):Calls prog 99 #[(aG (AZ a)),(aG (AZ b)),(aG (AZ d)),(aG (AZ e))] w (Ai (Po (HD DS DT x y z u).1 (HD DS DT x y z u).2) S w):=by
 have la:=Bs (W:=w) ha
 have lb:=Bs (W:=w) hb
 have ld:=Bs (W:=w) hd
 have le:=Bs (W:=w) he
 refine AX (args:=[(aG (AZ a)),(aG (AZ b)),(aG (AZ d)),(aG (AZ e))]) (L:=[AM a.x.z.n,AM a.x.m,AM a.y.z.n,AM a.y.m,AM b.x.z.n,AM b.x.m,AM b.y.z.n,AM b.y.m,AM d.x.z.n,AM d.x.m,AM d.y.z.n,AM d.y.m,AM e.x.z.n,AM e.x.m,AM e.y.z.n,AM e.y.m]) func99 O O (leB O) (E1 ha (E1 hb (E1 hd (E1 he Al)))) (zG (sL [0,1,2,3] O) (q4 (A9 (cs:=AZ a) O λb1=>A9 (cs:=AZ b) O λb2=>A9 (cs:=AZ d) O λb3=>A9 (cs:=AZ e) O λb4=>asg' O (al I4 O λb5=>q3 (sL [4,5,6,7,8,9] O) (zf (V:=λb6=>(qz (jk b6) 0 0)) (T:=86) (cs:=[]) (AJ O) (M4 underlying39 sizeOf86) O (leB O) λb6=>yr (z:=6) 0 O Z λho_b6=>?_)))))
 refine asg' O (q6 (sL [4,5,6,7,8,9,10] O) (q4 (Ah 3 Ap O (Ah 2 Ap O (Ah 5 Ap O (CC call148 (λw hw=>FC d e a Z w (inS hw 14 O ld) (inS hw 18 O le) (inS hw 6 O la)) O (oNl' (zB (sL [4,5,6,7,8,9,10,23] O) (zA ?_)))))))))
 refine ym (tg λ(p0:Option Addr) (c0:Nat) (r0s:List RP)=>OwnOk p0 r0s.length c0/\r0s.map (·.p)++Kp x y z u=CD x y z u/\(∀r∈r0s,r=(⟨x,a⟩:RP)\/r=(⟨y,b⟩:RP)\/r=(⟨z,d⟩:RP)\/r=(⟨u,e⟩:RP))) (tg λ(p0:Option Addr) (c0:Nat) (r0s:List RP)=>[(4,(pP b1 0)),(5,(pP b2 0)),(6,(pP b3 0)),(7,(pP b4 0)),(8,(vI 0)),(9,(pP b5 0)),(10,(qz p0 r0s.length c0))]) (tg λ(p0:Option Addr) (c0:Nat) (r0s:List RP)=>[rowW p0 86 6 r0s.length c0 (rowsL Dp r0s),AQ b5 86 ([(qa false),jj,jj,(qa false),jj,jj]),AQ b4 86 (AZ e),AQ b3 86 (AZ d),AQ b2 86 (AZ b),AQ b1 86 (AZ a),AM a.x.z.n,AM a.x.m,AM a.y.z.n,AM a.y.m,AM b.x.z.n,AM b.x.m,AM b.y.z.n,AM b.y.m,AM d.x.z.n,AM d.x.m,AM d.y.z.n,AM d.y.m,AM e.x.z.n,AM e.x.m,AM e.y.z.n,AM e.y.m]) ?_ ?_
 ·refine zK O (λhc0=>?_) (λhc0=>?_)
  ·refine zL (AL O (Ah 5 Ap O (zf (V:=λb7=>(qz (jk b7) 1 1)) (T:=86) (cs:=AZ a) (AJ O) (Ar (z:=.agg #[(qa false),jj,jj,(qa false),jj,jj]) (cs:=AZ a) (pv:=[(0,(aG (AZ a)))]) underlying39 sizeOf86 zeroValue86 jY jY O (Kv a)) O (leB O) λb7=>z8 (j:=0) (cs2:=rowsL Dp (([]:List RP)++[(⟨_,a⟩:RP)])) SN O ho_b6 O O O O O jY (G8 Z) Z (by rw [BM];rfl) O λp_1 c_1 ho_1 hne_1=>asg' O (oNl' (zB (sL [4,5,6,7,8,9,10] O) ?_)))))
   rw [show (0:Nat)+1=[(⟨_,a⟩:RP)].length by simp]
   exact yD p_1 c_1 ([(⟨_,a⟩:RP)]) (⟨(by simpa using ho_1),Xn hc0,(λr hr=>by rw [xM.1 hr];simp)⟩) (sF O) (sl sr)
  ·exact zI (yD (jk b6) 0 ([]:List RP) (⟨ho_b6,Xm (ne_true_of_eq_false hc0),(λr hr=>by cases hr)⟩) (sF O) sr)
 ·intro p0 c0 r0s hJ
  obtain ⟨o0,e0,m0⟩:=hJ
  have n0:=IX e0
  refine q1 (q4 (Ah 3 Ap O (Ah 2 Ap O (Ah 4 Ap O (CC call148 (λw hw=>FC d e b Z w (inS hw 14 O ld) (inS hw 18 O le) (inS hw 10 O lb)) O (oNl' (zB (sL [4,5,6,7,8,9,10,31] O) (zA ?_))))))))
  refine ym (tg λ(p1:Option Addr) (c1:Nat) (r1s:List RP)=>OwnOk p1 r1s.length c1/\r1s.map (·.p)++Jm x y z u=CD x y z u/\(∀r∈r1s,r=(⟨x,a⟩:RP)\/r=(⟨y,b⟩:RP)\/r=(⟨z,d⟩:RP)\/r=(⟨u,e⟩:RP))) (tg λ(p1:Option Addr) (c1:Nat) (r1s:List RP)=>[(4,(pP b1 0)),(5,(pP b2 0)),(6,(pP b3 0)),(7,(pP b4 0)),(8,(vI 0)),(9,(pP b5 0)),(10,(qz p1 r1s.length c1))]) (tg λ(p1:Option Addr) (c1:Nat) (r1s:List RP)=>[rowW p1 86 6 r1s.length c1 (rowsL Dp r1s),AQ b5 86 ([(qa false),jj,jj,(qa false),jj,jj]),AQ b4 86 (AZ e),AQ b3 86 (AZ d),AQ b2 86 (AZ b),AQ b1 86 (AZ a),AM a.x.z.n,AM a.x.m,AM a.y.z.n,AM a.y.m,AM b.x.z.n,AM b.x.m,AM b.y.z.n,AM b.y.m,AM d.x.z.n,AM d.x.m,AM d.y.z.n,AM d.y.m,AM e.x.z.n,AM e.x.m,AM e.y.z.n,AM e.y.m]) ?_ ?_
  ·refine zK O (λhc1=>?_) (λhc1=>?_)
   ·refine zL (AL O (Ah 4 Ap O (zf (V:=λb7=>(qz (jk b7) 1 1)) (T:=86) (cs:=AZ b) (AJ O) (Ar (z:=.agg #[(qa false),jj,jj,(qa false),jj,jj]) (cs:=AZ b) (pv:=[(0,(aG (AZ b)))]) underlying39 sizeOf86 zeroValue86 jY jY O (Kv b)) O (leB O) λb7=>z8 (j:=0) (cs2:=rowsL Dp (r0s++[(⟨_,b⟩:RP)])) SN O o0 (AV Bl _) O O O O jY (G8 Z) Z (by rw [BM];rfl) O λp_2 c_2 ho_2 hne_2=>asg' O (oNl' (zB (sL [4,5,6,7,8,9,10] O) ?_)))))
    rw [show r0s.length+1=(r0s++[(⟨_,b⟩:RP)]).length by simp]
    exact yD p_2 c_2 (r0s++[(⟨_,b⟩:RP)]) (⟨(by simpa using ho_2),(by rw [List.map_append];exact Xp hc1 e0),(λr hr=>(List.mem_append.1 hr).elim (m0 r) (λh=>by rw [xM.1 h];simp))⟩) (sF O) (sl sr)
   ·exact zI (yD p0 c0 r0s (⟨o0,Xo (ne_true_of_eq_false hc1) e0,m0⟩) (sF O) sr)
  ·intro p1 c1 r1s hJ
   obtain ⟨o1,e1,m1⟩:=hJ
   have n1:=IX e1
   refine q1 (q4 (Ah 5 Ap O (Ah 4 Ap O (Ah 3 Ap O (CC call148 (λw hw=>FC a b d Z w (inS hw 6 O la) (inS hw 10 O lb) (inS hw 14 O ld)) O (oNl' (zB (sL [4,5,6,7,8,9,10,39] O) (zA ?_))))))))
   refine ym (tg λ(p2:Option Addr) (c2:Nat) (r2s:List RP)=>OwnOk p2 r2s.length c2/\r2s.map (·.p)++Jn x y u=CD x y z u/\(∀r∈r2s,r=(⟨x,a⟩:RP)\/r=(⟨y,b⟩:RP)\/r=(⟨z,d⟩:RP)\/r=(⟨u,e⟩:RP))) (tg λ(p2:Option Addr) (c2:Nat) (r2s:List RP)=>[(4,(pP b1 0)),(5,(pP b2 0)),(6,(pP b3 0)),(7,(pP b4 0)),(8,(vI 0)),(9,(pP b5 0)),(10,(qz p2 r2s.length c2))]) (tg λ(p2:Option Addr) (c2:Nat) (r2s:List RP)=>[rowW p2 86 6 r2s.length c2 (rowsL Dp r2s),AQ b5 86 ([(qa false),jj,jj,(qa false),jj,jj]),AQ b4 86 (AZ e),AQ b3 86 (AZ d),AQ b2 86 (AZ b),AQ b1 86 (AZ a),AM a.x.z.n,AM a.x.m,AM a.y.z.n,AM a.y.m,AM b.x.z.n,AM b.x.m,AM b.y.z.n,AM b.y.m,AM d.x.z.n,AM d.x.m,AM d.y.z.n,AM d.y.m,AM e.x.z.n,AM e.x.m,AM e.y.z.n,AM e.y.m]) ?_ ?_
   ·refine zK O (λhc2=>?_) (λhc2=>?_)
    ·refine zL (AL O (Ah 3 Ap O (zf (V:=λb7=>(qz (jk b7) 1 1)) (T:=86) (cs:=AZ d) (AJ O) (Ar (z:=.agg #[(qa false),jj,jj,(qa false),jj,jj]) (cs:=AZ d) (pv:=[(0,(aG (AZ d)))]) underlying39 sizeOf86 zeroValue86 jY jY O (Kv d)) O (leB O) λb7=>z8 (j:=0) (cs2:=rowsL Dp (r1s++[(⟨_,d⟩:RP)])) SN O o1 (AV Bl _) O O O O jY (G8 Z) Z (by rw [BM];rfl) O λp_3 c_3 ho_3 hne_3=>asg' O (oNl' (zB (sL [4,5,6,7,8,9,10] O) ?_)))))
     rw [show r1s.length+1=(r1s++[(⟨_,d⟩:RP)]).length by simp]
     exact yD p_3 c_3 (r1s++[(⟨_,d⟩:RP)]) (⟨(by simpa using ho_3),(by rw [List.map_append];exact Xr hc2 e1),(λr hr=>(List.mem_append.1 hr).elim (m1 r) (λh=>by rw [xM.1 h];simp))⟩) (sF O) (sl sr)
    ·exact zI (yD p1 c1 r1s (⟨o1,Xq (ne_true_of_eq_false hc2) e1,m1⟩) (sF O) sr)
   ·intro p2 c2 r2s hJ
    obtain ⟨o2,e2,m2⟩:=hJ
    have n2:=IX e2
    refine q1 (q4 (Ah 5 Ap O (Ah 4 Ap O (Ah 2 Ap O (CC call148 (λw hw=>FC a b e Z w (inS hw 6 O la) (inS hw 10 O lb) (inS hw 18 O le)) O (oNl' (zB (sL [4,5,6,7,8,9,10,47] O) (zA ?_))))))))
    refine ym (tg λ(p3:Option Addr) (c3:Nat) (r3s:List RP)=>OwnOk p3 r3s.length c3/\r3s.map (·.p)=CD x y z u/\(∀r∈r3s,r=(⟨x,a⟩:RP)\/r=(⟨y,b⟩:RP)\/r=(⟨z,d⟩:RP)\/r=(⟨u,e⟩:RP))) (tg λ(p3:Option Addr) (c3:Nat) (r3s:List RP)=>[(4,(pP b1 0)),(5,(pP b2 0)),(6,(pP b3 0)),(7,(pP b4 0)),(8,(vI 0)),(9,(pP b5 0)),(10,(qz p3 r3s.length c3))]) (tg λ(p3:Option Addr) (c3:Nat) (r3s:List RP)=>[rowW p3 86 6 r3s.length c3 (rowsL Dp r3s),AQ b5 86 ([(qa false),jj,jj,(qa false),jj,jj]),AQ b4 86 (AZ e),AQ b3 86 (AZ d),AQ b2 86 (AZ b),AQ b1 86 (AZ a),AM a.x.z.n,AM a.x.m,AM a.y.z.n,AM a.y.m,AM b.x.z.n,AM b.x.m,AM b.y.z.n,AM b.y.m,AM d.x.z.n,AM d.x.m,AM d.y.z.n,AM d.y.m,AM e.x.z.n,AM e.x.m,AM e.y.z.n,AM e.y.m]) ?_ ?_
    ·refine zK O (λhc3=>?_) (λhc3=>?_)
     ·refine zL (AL O (Ah 2 Ap O (zf (V:=λb7=>(qz (jk b7) 1 1)) (T:=86) (cs:=AZ e) (AJ O) (Ar (z:=.agg #[(qa false),jj,jj,(qa false),jj,jj]) (cs:=AZ e) (pv:=[(0,(aG (AZ e)))]) underlying39 sizeOf86 zeroValue86 jY jY O (Kv e)) O (leB O) λb7=>z8 (j:=0) (cs2:=rowsL Dp (r2s++[(⟨_,e⟩:RP)])) SN O o2 (AV Bl _) O O O O jY (G8 Z) Z (by rw [BM];rfl) O λp_4 c_4 ho_4 hne_4=>asg' O (oNl' (zB (sL [4,5,6,7,8,9,10] O) ?_)))))
      rw [show r2s.length+1=(r2s++[(⟨_,e⟩:RP)]).length by simp]
      exact yD p_4 c_4 (r2s++[(⟨_,e⟩:RP)]) (⟨(by simpa using ho_4),(by rw [List.map_append];exact Xt hc3 e2),(λr hr=>(List.mem_append.1 hr).elim (m2 r) (λh=>by rw [xM.1 h];simp))⟩) (sF O) (sl sr)
     ·exact zI (yD p2 c2 r2s (⟨o2,Xs (ne_true_of_eq_false hc3) e2,m2⟩) (sF O) sr)
    ·intro p3 c3 r3s hJ
     obtain ⟨o3,e3,m3⟩:=hJ
     have n3:=U6 e3
     refine q1 (q4 (AL O (st' (v:=(vN r3s.length)) (AD O underlying39) O (st' (Bu (c:=(decide (0<r3s.length))) O O (DL (a:=0) (b:=r3s.length))) O (oNl' (zB (sL [4,5,6,7,8,9,10,54] O) (zA ?_)))))))
     refine zK O (λhc4=>?_) (λhc4=>?_)
     ·replace hc4:=xR hc4
      have hsz:∀j,j<r3s.length->BD (r3s.getD j Dv).p<=2048:=λj hj=>fH m3 hs hj
      have hel:r3s.length=(CD x y z u).length:=by rw [<-e3,xI]
      refine q4 (AL O (st' (v:=(pP (pB p3) (pO p3+0*6))) (AU (j:=0) O O o3.row underlying39 sizeOf86 O Z) O (st' (v:=(aG (AZ ((r3s.getD 0 Dv).x)))) (BP (vs:=AZ ((r3s.getD 0 Dv).x)) (i:=0) O O o3 (AV Bl _) (BI.ne o3.row Z) Ap (BG Bl Dv _ _ Z) (Bl _)) O (al I4 O λb7=>Am O sizeOf86 O (q3 (sL [4,5,6,7,8,9,10,11] O) (AL O (st' (v:=(pP (pB p3) (pO p3+0*6))) (AU (j:=0) O O o3.row underlying39 sizeOf86 O Z) O (st' (v:=(aG (AZ ((r3s.getD 0 Dv).x)))) (BP (vs:=AZ ((r3s.getD 0 Dv).x)) (i:=1) O O o3 (AV Bl _) (BI.ne o3.row Z) Ap (BG Bl Dv _ _ Z) (Bl _)) O (al I4 O λb8=>Am O sizeOf86 O ?_)))))))))
      refine q6 (sL [4,5,6,7,8,9,10,11,12] O) (q4 (asg' O (oNl' (zA (zN ?_)))))
      refine yI (tg λ(j:Nat) (lo:Nat) (hi:Nat)=>j<r3s.length/\lo<r3s.length/\hi<r3s.length/\(r3s.getD lo Dv).p=OH DS (CD x y z u) j/\(r3s.getD hi Dv).p=OH DT (CD x y z u) j) (tg λ(j:Nat) (lo:Nat) (hi:Nat)=>[(4,(pP b1 0)),(5,(pP b2 0)),(6,(pP b3 0)),(7,(pP b4 0)),(8,(vI 0)),(9,(pP b5 0)),(10,(qz p3 r3s.length c3)),(11,(pP b7 0)),(12,(pP b8 0)),(13,(vN (j+1)))]) (tg λ(j:Nat) (lo:Nat) (hi:Nat)=>[AQ b8 86 (AZ ((r3s.getD hi Dv).x)),AQ b7 86 (AZ ((r3s.getD lo Dv).x)),rowW p3 86 6 r3s.length c3 (rowsL Dp r3s),AQ b5 86 ([(qa false),jj,jj,(qa false),jj,jj]),AQ b4 86 (AZ e),AQ b3 86 (AZ d),AQ b2 86 (AZ b),AQ b1 86 (AZ a),AM a.x.z.n,AM a.x.m,AM a.y.z.n,AM a.y.m,AM b.x.z.n,AM b.x.m,AM b.y.z.n,AM b.y.m,AM d.x.z.n,AM d.x.m,AM d.y.z.n,AM d.y.m,AM e.x.z.n,AM e.x.m,AM e.y.z.n,AM e.y.m]) (tg λ(j:Nat) (lo:Nat) (hi:Nat)=>r3s.length-j) 0 0 0 (⟨Z,Z,Z,Jx e3 Z,Jx e3 Z⟩) (sF O) sr (λj lo hi hJ=>?_)
      obtain ⟨hj,hlo,hhi,kl,kh⟩:=hJ
      have s1:=hsz j hj
      have s2:=hsz lo hlo
      have s3:=hsz hi hhi
      refine zV (q4 (AL O (AL O (st' (v:=(vN r3s.length)) (AD O underlying39) O (st' (Ag (c:=(decide ((j+1)<r3s.length))) O O (DL (a:=j+1) (b:=r3s.length))) O (oNl' (zB (sL [4,5,6,7,8,9,10,11,12,13,64] O) (zA ?_))))))))
      refine zK O (λhc5=>?_) (λhc5=>?_)
      ·replace hc5:=xR hc5
       refine zI (q1 (zN (zV (zV (B8 (Ed 5++[(5,false)]) sr (Bq O (Bq O (Ao (v:=(pP (pB p3) (pO p3+(j+1)*6))) O (AU (j:=j+1) O O o3.row underlying39 sizeOf86 O Z) (Ao (v:=(aG (AZ ((r3s.getD (j+1) Dv).x)))) O (BP (vs:=AZ ((r3s.getD (j+1) Dv).x)) (i:=2) O O o3 (AV Bl _) (BI.ne o3.row Z) Ap (BG Bl Dv _ _ Z) (Bl _)) (Bv 1 Ap O (zD O ?_)))))))))))
       refine CC call151 (λw hw=>PF ((r3s.getD (j+1) Dv).x) ((r3s.getD lo Dv).x) (by have s4:=hsz (j+1) Z;omega) w (PJ m3 Z (inS hw 8 O la) (inS hw 12 O lb) (inS hw 16 O ld) (inS hw 20 O le)) (PJ m3 Z (inS hw 8 O la) (inS hw 12 O lb) (inS hw 16 O ld) (inS hw 20 O le))) O (zC sr (zP (zB (sL [4,5,6,7,8,9,10,11,12,13,72] O) (zA ?_))))
       refine yU (tg λ(l2:Nat)=>l2<r3s.length/\(r3s.getD l2 Dv).p=OH DS (CD x y z u) (j+1)) (tg λ(l2:Nat)=>[(4,(pP b1 0)),(5,(pP b2 0)),(6,(pP b3 0)),(7,(pP b4 0)),(8,(vI 0)),(9,(pP b5 0)),(10,(qz p3 r3s.length c3)),(11,(pP b7 0)),(12,(pP b8 0)),(13,(vN (j+1)))]) (tg λ(l2:Nat)=>[AQ b8 86 (AZ ((r3s.getD hi Dv).x)),AQ b7 86 (AZ ((r3s.getD l2 Dv).x)),rowW p3 86 6 r3s.length c3 (rowsL Dp r3s),AQ b5 86 ([(qa false),jj,jj,(qa false),jj,jj]),AQ b4 86 (AZ e),AQ b3 86 (AZ d),AQ b2 86 (AZ b),AQ b1 86 (AZ a),AM a.x.z.n,AM a.x.m,AM a.y.z.n,AM a.y.m,AM b.x.z.n,AM b.x.m,AM b.y.z.n,AM b.y.m,AM d.x.z.n,AM d.x.m,AM d.y.z.n,AM d.y.m,AM e.x.z.n,AM e.x.m,AM e.y.z.n,AM e.y.m]) ?_ ?_
       ·refine zK O (λhc6=>?_) (λhc6=>?_)
        ·exact zL (AL O (AL O (st' (v:=(pP (pB p3) (pO p3+(j+1)*6))) (AU (j:=j+1) O O o3.row underlying39 sizeOf86 O Z) O (st' (v:=(aG (AZ ((r3s.getD (j+1) Dv).x)))) (BP (vs:=AZ ((r3s.getD (j+1) Dv).x)) (i:=2) O O o3 (AV Bl _) (BI.ne o3.row Z) Ap (BG Bl Dv _ _ Z) (Bl _)) O (DG O sizeOf86 O (oNl' (zB (sL [4,5,6,7,8,9,10,11,12,13] O) (zr (j+1) (⟨Z,(by rw [Jx e3 Z];exact ZV Z kl (by rw [<-Jx e3 Z];exact hc6))⟩) (sF O) sr))))))))
        ·exact zI (zr lo (⟨Z,ZU Z kl (by rw [<-Jx e3 Z];exact ne_true_of_eq_false hc6)⟩) (sF O) sr)
       ·intro l2 hJ
        obtain ⟨l2b,l2k⟩:=hJ
        refine q1 (B8 (Ed 5++[(5,false)]) sr (Bv 0 Ap O (Bq O (Bq O (Ao (v:=(pP (pB p3) (pO p3+(j+1)*6))) O (AU (j:=j+1) O O o3.row underlying39 sizeOf86 O Z) (Ao (v:=(aG (AZ ((r3s.getD (j+1) Dv).x)))) O (BP (vs:=AZ ((r3s.getD (j+1) Dv).x)) (i:=2) O O o3 (AV Bl _) (BI.ne o3.row Z) Ap (BG Bl Dv _ _ Z) (Bl _)) (zD O (CC call151 (λw hw=>PF ((r3s.getD hi Dv).x) ((r3s.getD (j+1) Dv).x) (by have s4:=hsz (j+1) Z;omega) w (PJ m3 Z (inS hw 8 O la) (inS hw 12 O lb) (inS hw 16 O ld) (inS hw 20 O le)) (PJ m3 Z (inS hw 8 O la) (inS hw 12 O lb) (inS hw 16 O ld) (inS hw 20 O le))) O (zC sr (zP (zB (sL [4,5,6,7,8,9,10,11,12,13,82] O) ?_)))))))))))
        refine zA ?_
        refine yU (tg λ(h2:Nat)=>h2<r3s.length/\(r3s.getD h2 Dv).p=OH DT (CD x y z u) (j+1)) (tg λ(h2:Nat)=>[(4,(pP b1 0)),(5,(pP b2 0)),(6,(pP b3 0)),(7,(pP b4 0)),(8,(vI 0)),(9,(pP b5 0)),(10,(qz p3 r3s.length c3)),(11,(pP b7 0)),(12,(pP b8 0)),(13,(vN (j+1)))]) (tg λ(h2:Nat)=>[AQ b8 86 (AZ ((r3s.getD h2 Dv).x)),AQ b7 86 (AZ ((r3s.getD l2 Dv).x)),rowW p3 86 6 r3s.length c3 (rowsL Dp r3s),AQ b5 86 ([(qa false),jj,jj,(qa false),jj,jj]),AQ b4 86 (AZ e),AQ b3 86 (AZ d),AQ b2 86 (AZ b),AQ b1 86 (AZ a),AM a.x.z.n,AM a.x.m,AM a.y.z.n,AM a.y.m,AM b.x.z.n,AM b.x.m,AM b.y.z.n,AM b.y.m,AM d.x.z.n,AM d.x.m,AM d.y.z.n,AM d.y.m,AM e.x.z.n,AM e.x.m,AM e.y.z.n,AM e.y.m]) ?_ ?_
        ·refine zK O (λhc7=>?_) (λhc7=>?_)
         ·exact zL (AL O (AL O (st' (v:=(pP (pB p3) (pO p3+(j+1)*6))) (AU (j:=j+1) O O o3.row underlying39 sizeOf86 O Z) O (st' (v:=(aG (AZ ((r3s.getD (j+1) Dv).x)))) (BP (vs:=AZ ((r3s.getD (j+1) Dv).x)) (i:=2) O O o3 (AV Bl _) (BI.ne o3.row Z) Ap (BG Bl Dv _ _ Z) (Bl _)) O (Am O sizeOf86 O (oNl' (zB (sL [4,5,6,7,8,9,10,11,12,13] O) (zr (j+1) (⟨Z,(by rw [Jx e3 Z];exact ZV Z kh (by rw [<-Jx e3 Z];exact hc7))⟩) (sF O) sr))))))))
         ·exact zI (zr hi (⟨Z,ZU Z kh (by rw [<-Jx e3 Z];exact ne_true_of_eq_false hc7)⟩) (sF O) sr)
        ·intro h2 hJ
         obtain ⟨h2b,h2k⟩:=hJ
         exact zM (zA (zL (AL O (st' (Ad (c:=(((j+1)+1:Nat):Int)) O O (Ab (a:=j+1) (b:=1) Z)) O (asg' O (oNl' (zB (sL [4,5,6,7,8,9,10,11,12,13] O) (z6 (j+1) l2 h2 (⟨Z,l2b,h2b,l2k,h2k⟩) Z (sF O) sr))))))))
      ·replace hc5:=xQ hc5
       have hcut:=Ux (f:=DS) (g:=DT) (n:=j) (show j+1=(CD x y z u).length by omega)
       rw [<-kl,<-kh] at hcut
       refine zW (zO (zi (zR (q1 (q4 (Ah 1 Ap O (Ah 0 Ap O (CC call54 (λw hw=>Ej ((r3s.getD lo Dv).x) ((r3s.getD hi Dv).x) Z w (PJ m3 Z (inS hw 8 O la) (inS hw 12 O lb) (inS hw 16 O ld) (inS hw 20 O le)) (PJ m3 Z (inS hw 8 O la) (inS hw 12 O lb) (inS hw 16 O ld) (inS hw 20 O le))) O (oNl' (zB (sL [4,5,6,7,8,9,10,11,12,13,89] O) (zA ?_)))))))))))
       refine zK O (λhc8=>?_) (λhc8=>?_)
       ·have hsm:=Y1 hc8
        refine zV (B8 [(0,true),(1,true),(2,false)] (sk (sk (sk (sl sr)))) (Bv 1 Ap O (pS' O (zD O (Fd O sizeOf86 O (zC (sk (sk (sk (sl sr)))) (zP (zB (sL [4,5,6,7,8,9,10,11,12,13] O) (zA (zF (zH ?_)))))))))))
        exact zH (Bf O (rd_tmp (v:=(vI 1)) O) (Aa (i:=3) (cs:=AZ ((r3s.getD lo Dv).x)) O O isAgg86 sizeOf86 O) (λw hw=>(Po.cast (congrArg (·.1) (hcut.trans (if_pos hsm))).symm (congrArg (·.2) (hcut.trans (if_pos hsm))).symm (DC (a:=(⟨(r3s.getD lo Dv).x⟩:Po 1 ((r3s.getD lo Dv).p))) hw (PJ m3 Z (inS hw 8 O la) (inS hw 12 O lb) (inS hw 16 O ld) (inS hw 20 O le)) O))))
       ·have hsm:=Yz (ne_true_of_eq_false hc8)
        refine zI (q1 (B8 [(0,true),(1,true),(2,false)] (sk (sk (sk (sl sr)))) (Bv 1 Ap O (pS' O (zD O (Fd O sizeOf86 O (zC (sk (sk (sk (sl sr)))) (zP (zB (sL [4,5,6,7,8,9,10,11,12,13] O) (zA (zF ?_)))))))))))
        exact zH (Bf O (rd_tmp (v:=(vI 2)) O) (Aa (i:=3) (cs:=AZ ((r3s.getD lo Dv).x)) O O isAgg86 sizeOf86 O) (λw hw=>(Po.cast (congrArg (·.1) (hcut.trans (if_neg hsm))).symm (congrArg (·.2) (hcut.trans (if_neg hsm))).symm (DC (a:=(⟨(r3s.getD lo Dv).x⟩:Po 2 ((r3s.getD lo Dv).p))) hw (PJ m3 Z (inS hw 8 O la) (inS hw 12 O lb) (inS hw 16 O ld) (inS hw 20 O le)) O))))
     ·replace hc4:=xQ hc4
      have hE:CD x y z u=[]:=by rw [<-e3,List.length_eq_zero_iff.1 (show r3s.length=0 by omega)];rfl
      refine zI (q2 (Ah 4 Ap O (Ah 5 Ap O ?_)))
      have hz1:=Bi y x
      refine cP (S:=S) (x:=(y-x)) (args:=[(aG (AZ b)),(aG (AZ a))]) call108 (λw hw=>Cw b a Z w (inS hw 10 O lb) (inS hw 6 O la)) O O O λg1 lg1=>al I4 O λb7=>Am O sizeOf86 O (q3 (sL [4,5,6,7,8,9,10,14] O) (Ah 7 Ap O (Ah 8 Ap O ?_)))
      have hz2:=Bi u z
      refine cP (S:=S) (x:=(u-z)) (args:=[(aG (AZ e)),(aG (AZ d))]) call108 (λw hw=>Cw e d Z w (inS hw 23 O le) (inS hw 19 O ld)) O O O λg2 lg2=>al I4 O λb8=>Am O sizeOf86 O (q3 (sL [4,5,6,7,8,9,10,14,15] O) (Ah 5 Ap O (Ah 0 Ap O ?_)))
      have hz3:=Eq (y-x) (u-z)
      refine cF (S:=S) (x:=(A8 (y-x) (u-z))) (args:=[(aG (AZ g1)),(aG (AZ g2))]) call152 (λw hw=>Gl g1 g2 Z w (inS hw 6 O lg1) (inS hw 1 O lg2)) O O O λg3 lg3=>al HZ O λb9=>Am O sizeOf84 O (q6 (sL [4,5,6,7,8,9,10,14,15,16] O) (q4 (Ah 0 Bm O (CC call104 (λw hw=>GA g3 w (inS hw 1 O lg3)) O (st' (Az (c:=(decide (((A8 (y-x) (u-z)).num.sign)=(0:Int)))) O O O) O (oNl' (zB (sL [4,5,6,7,8,9,10,14,15,16,103] O) (zA ?_))))))))
      refine zK O (λhc9=>?_) (λhc9=>?_)
      ·replace hc9:=xR hc9
       have hcut:=(HE (f:=DS) (g:=DT) hE).trans (if_pos (a7 hc9))
       exact q4 (st' (v:=(aG ([(qa false),jj,jj,(qa false),jj,jj]))) (AR (zs:=[(qa false),jj,jj,(qa false),jj,jj]) (vs:=[(qa false),jj,jj,(qa false),jj,jj]) (pv:=[]) (places:=[(0,3),(3,3)]) zeroValue86 underlying86 (λw=>by simp [sizeOf84]) O (HJ )) O (asg' O (EV 14 (off:=0) (vs:=[(qa false),jj,jj,(qa false),jj,jj]) (cs':=[(qa false),jj,jj,(qa false),jj,jj]) (AJ O) O sizeOf86 O (oNl' (zB (sL [4,5,6,7,8,9,10,14,15,16] O) (zA (zF (zH (Bf O (rd_tmp (v:=(vI 0)) O) (Aa (i:=14) (cs:=[(qa false),jj,jj,(qa false),jj,jj]) O O isAgg86 sizeOf86 O) (λw hw=>(Po.cast (congrArg (·.1) hcut).symm (congrArg (·.2) hcut).symm (DC (a:=(⟨fP⟩:Po 0 ⟨0,0⟩)) hw WI O))))))))))))
      ·replace hc9:=xQ hc9
       have hkz:=a8 hc9
       refine zI (q1 (rN [(0,true),(1,true),(3,true),(5,true),(2,false),(4,false),(6,false)] [⟨7,17,84,[(qa false),jj,jj]⟩] [(8,false)] sr jV (λ_ _ d _ _ h=>by cases d<;>exact h) (FY O O HZ O (Fj)) O (EI 16 Ap O (EI 18 Ap O (EI 3 Ap O (EI 0 Bm O (ze O λEF EL=>?_)))))))
       have hz4:=Bi z x
       refine cP (S:=S) (x:=(z-x)) (args:=[(aG (AZ d)),(aG (AZ a))]) call108 (λw hw=>Cw d a Z w (inS hw 27 O ld) (inS hw 19 O la)) O O O λg4 lg4=>ya (sl (sl (sl (sl sr)))) O (ze O λEF EL=>?_)
       have hz5:=Eq (z-x) (u-z)
       refine cF (S:=S) (x:=(A8 (z-x) (u-z))) (args:=[(aG (AZ g4)),(aG (AZ g2))]) call152 (λw hw=>Gl g4 g2 Z w (inS hw 0 O lg4) (inS hw 8 O lg2)) O O O λg5 lg5=>xB (sl (sl (sl (sl (sl (sl sr)))))) O (ze O λEF EL=>?_)
       have hz6:=Hf (A8 (z-x) (u-z)) (A8 (y-x) (u-z))
       refine cF (S:=S) (x:=((A8 (z-x) (u-z))/(A8 (y-x) (u-z)))) (args:=[(aG (fxL g5)),(aG (fxL g3))]) call101 (λw hw=>It g5 g3 (by (try simp only [BE]);omega) w (inS hw 0 O lg5) (inS hw 7 O lg3)) O O O λg6 lg6=>xB (sl (sl (sl (sl (sl (sl (sl (sl sr)))))))) O (zm λb10=>zD O (Am O sizeOf84 O (zC (sl (sl (sl (sl (sl (sl (sl (sl (sl sr))))))))) (zP (zB (sL [4,5,6,7,8,9,10,14,15,16,17] O) (q1 (rN [(0,true),(1,true),(2,true),(3,false),(4,false)] [⟨5,18,86,[(qa false),jj,jj,(qa false),jj,jj]⟩] [(6,false)] sr jV (λ_ _ d _ _ h=>by cases d<;>exact h) (FY O O I4 O (Fj)) O (EI 27 Ap O (EI 17 Ap O ?_)))))))))
       refine EI 0 Bm O (ze O λEF EL=>?_)
       have hz7:=Ef (y-x) ((A8 (z-x) (u-z))/(A8 (y-x) (u-z)))
       refine cP (S:=S) (x:=(Bg (y-x) ((A8 (z-x) (u-z))/(A8 (y-x) (u-z))))) (args:=[(aG (AZ g1)),(aG (fxL g6))]) call154 (λw hw=>LY g1 g6 Z w (inS hw 18 O lg1) (inS hw 1 O lg6)) O O O λg7 lg7=>ya (sl (sl (sl (sl sr)))) O (ze O λEF EL=>?_)
       have hz8:=GP x (Bg (y-x) ((A8 (z-x) (u-z))/(A8 (y-x) (u-z))))
       refine cP (S:=S) (x:=(x+(Bg (y-x) ((A8 (z-x) (u-z))/(A8 (y-x) (u-z)))))) (args:=[(aG (AZ a)),(aG (AZ g7))]) call153 (λw hw=>PO a g7 Z w (inS hw 32 O la) (inS hw 0 O lg7)) O O O λg8 lg8=>ya (sl (sl (sl (sl (sl (sl (sl (sl sr)))))))) O (zm λb11=>zD O (Am O sizeOf86 O (zC (sl (sl (sl (sl (sl (sl (sl (sl (sl sr))))))))) (zP (zB (sL [4,5,6,7,8,9,10,14,15,16,17,18] O) (q1 (q4 (Ah 36 Ap O (Ah 35 Ap O ?_)))))))))
       refine Ah 0 Ap O (CC call148 (λw hw=>FC a b g8 Z w (inS hw 37 O la) (inS hw 41 O lb) (inS hw 1 O lg8)) O (AL O ?_))
       refine zg (FM:=[(4,(pP b1 0)),(5,(pP b2 0)),(6,(pP b3 0)),(7,(pP b4 0)),(8,(vI 0)),(9,(pP b5 0)),(10,(qz p3 r3s.length c3)),(14,(pP b7 0)),(15,(pP b8 0)),(16,(pP b9 0)),(17,(pP b10 0)),(18,(pP b11 0)),(117,(aG (AZ a))),(118,(aG (AZ b))),(119,(aG (AZ g8))),(120,(qa (Db x y (x+(Bg (y-x) ((A8 (z-x) (u-z))/(A8 (y-x) (u-z)))))))),(121,(qa (Db x y (x+(Bg (y-x) ((A8 (z-x) (u-z))/(A8 (y-x) (u-z)))))))),(126,(qa ((Db x y (x+(Bg (y-x) ((A8 (z-x) (u-z))/(A8 (y-x) (u-z))))))&&(Db z u (x+(Bg (y-x) ((A8 (z-x) (u-z))/(A8 (y-x) (u-z)))))))))]) (LM:=[AQ b11 86 (AZ g8),AM g8.x.z.n,AM g8.x.m,AM g8.y.z.n,AM g8.y.m,AM g7.x.z.n,AM g7.x.m,AM g7.y.z.n,AM g7.y.m,AQ b10 84 (fxL g6),AM g6.z.n,AM g6.m,AM g5.z.n,AM g5.m,AM g4.x.z.n,AM g4.x.m,AM g4.y.z.n,AM g4.y.m,AQ b9 84 (fxL g3),AM g3.z.n,AM g3.m,AQ b8 86 (AZ g2),AM g2.x.z.n,AM g2.x.m,AM g2.y.z.n,AM g2.y.m,AQ b7 86 (AZ g1),AM g1.x.z.n,AM g1.x.m,AM g1.y.z.n,AM g1.y.m,rowW p3 86 6 r3s.length c3 (rowsL Dp r3s),AQ b5 86 ([(qa false),jj,jj,(qa false),jj,jj]),AQ b4 86 (AZ e),AQ b3 86 (AZ d),AQ b2 86 (AZ b),AQ b1 86 (AZ a),AM a.x.z.n,AM a.x.m,AM a.y.z.n,AM a.y.m,AM b.x.z.n,AM b.x.m,AM b.y.z.n,AM b.y.m,AM d.x.z.n,AM d.x.m,AM d.y.z.n,AM d.y.m,AM e.x.z.n,AM e.x.m,AM e.y.z.n,AM e.y.m]) 5 ?_ ?_
       ·rcases xO (Db x y (x+(Bg (y-x) ((A8 (z-x) (u-z))/(A8 (y-x) (u-z)))))) with hg1|hg1
        ·refine zJ (k:=121) (u:=qa true) O (by rw [hg1]) ?_
         have hg1':=hg1
         skip
         exact BN (v:=(aG (AZ d))) O (AW (i:=34) (vs:=AZ d) O O Ap.a Ap.s O O) (BN (v:=(aG (AZ e))) O (AW (i:=33) (vs:=AZ e) O O Ap.a Ap.s O O) (BN (v:=(aG (AZ g8))) O (AW (i:=0) (vs:=AZ g8) O O Ap.a Ap.s O O) (zc (v:=(qa (Db z u (x+(Bg (y-x) ((A8 (z-x) (u-z))/(A8 (y-x) (u-z)))))))) (AE O) (Ac (args:=[(aG (AZ d)),(aG (AZ e)),(aG (AZ g8))]) O O call148) (λw hw=>FC d e g8 Z w (inS hw 45 O ld) (inS hw 49 O le) (inS hw 1 O lg8)) O (leB O) (st' (v:=(qa (Db z u (x+(Bg (y-x) ((A8 (z-x) (u-z))/(A8 (y-x) (u-z)))))))) (ex_pick_true O O) O (oNl' (zS CK (xP _)))))))
        ·refine zJ (k:=121) (u:=qa false) O (by rw [hg1]) ?_
         have hg1':=hg1
         skip
         exact BF O (BF O (BF O (BF O (st' (v:=(qa false)) (AN O O) O (oNl' (zS CK (xP _)))))))
       refine oNl' (zB (sL [4,5,6,7,8,9,10,14,15,16,17,18,126] O) (zA ?_))
       refine zK O (λhc10=>?_) (λhc10=>?_)
       ·simp only [jK] at hc10
        have hcut:=(HE (f:=DS) (g:=DT) hE).trans ((if_neg hkz).trans (if_pos hc10))
        exact zV (B8 [(0,true),(1,true),(2,false)] (sk (sk (sk (sk (sk (sk (sk (sk (sk (sk (sk (sk (sk (sk (sk (sk (sk (sk (sk (sk (sk (sk (sk (sk (sk (sk (sk (sk (sk (sk (sk (sk (sl sr))))))))))))))))))))))))))))))))) (Bv 0 Ap O (pS' O (zD O (EV 32 (off:=0) (vs:=AZ g8) (cs':=AZ g8) (AJ O) O sizeOf86 O (zC (sk (sk (sk (sk (sk (sk (sk (sk (sk (sk (sk (sk (sk (sk (sk (sk (sk (sk (sk (sk (sk (sk (sk (sk (sk (sk (sk (sk (sk (sk (sk (sk (sl sr))))))))))))))))))))))))))))))))) (zP (zB (sL [4,5,6,7,8,9,10,14,15,16,17,18] O) (zA (zF (zH (Bf O (rd_tmp (v:=(vI 1)) O) (Aa (i:=32) (cs:=AZ g8) O O isAgg86 sizeOf86 O) (λw hw=>(Po.cast (congrArg (·.1) hcut).symm (congrArg (·.2) hcut).symm (DC (a:=(⟨g8⟩:Po 1 (x+(Bg (y-x) ((A8 (z-x) (u-z))/(A8 (y-x) (u-z))))))) hw (inS hw 1 O lg8) O)))))))))))))))
       ·simp only [jK] at hc10
        have hcut:=(HE (f:=DS) (g:=DT) hE).trans ((if_neg hkz).trans (if_neg (λh=>hc10.elim (λk=>absurd h.1 (ne_true_of_eq_false k)) (λk=>absurd h.2 (ne_true_of_eq_false k)))))
        exact zI (q2 (st' (v:=(aG ([(qa false),jj,jj,(qa false),jj,jj]))) (AR (zs:=[(qa false),jj,jj,(qa false),jj,jj]) (vs:=[(qa false),jj,jj,(qa false),jj,jj]) (pv:=[]) (places:=[(0,3),(3,3)]) zeroValue86 underlying86 (λw=>by simp [sizeOf84]) O (HJ )) O (asg' O (EV 32 (off:=0) (vs:=[(qa false),jj,jj,(qa false),jj,jj]) (cs':=[(qa false),jj,jj,(qa false),jj,jj]) (AJ O) O sizeOf86 O (oNl' (zB (sL [4,5,6,7,8,9,10,14,15,16,17,18] O) (zA (zF (Bf O (rd_tmp (v:=(vI 0)) O) (Aa (i:=32) (cs:=[(qa false),jj,jj,(qa false),jj,jj]) O O isAgg86 sizeOf86 O) (λw hw=>(Po.cast (congrArg (·.1) hcut).symm (congrArg (·.2) hcut).symm (DC (a:=(⟨fP⟩:Po 0 ⟨0,0⟩)) hw WI O))))))))))))
end
end Go.Proofs.YtcpkbjjmcleplaaGreatDoor
