import Derived.Test.YtpolhpjiahbidaaGreatDoorPrt26
namespace Go.Proofs.YtpolhpjiahbidaaGreatDoor
open Go Go.RowKit Go.Proofs.Tryz
open Go.Value renaming slice→qz,bool→qa
set_option linter.unusedVariables false
set_option linter.unusedSimpArgs false
section
set_option maxRecDepth 100000
theorem FK {ps:List Pt} {ts:List T3} {ss:List Z3} (x:I5 ps ts ss) (t r:Nat) (ht:t<ts.length) (hr:r<3) (hnb:Bn ps.length ts=true) (w:World) {S:Nat->Prop} (hx:Ro S w x):Calls prog 95 #[(aG (Dj x)),(vN t),(vN r)] w (Ai (PX (BQ ps (FH (ts.getD t (0,0,0)) r))) S w):=by
 have hxl:=x.len
 have hcr:FH (ts.getD t (0,0,0)) r<x.rs.length:=by rw [hxl];exact Kq (Cs hnb ht) r
 have lx:=Bq (W:=w) hx
 refine AR (args:=[(aG (Dj x)),(vN t),(vN r)]) (L:=(AC x.a.p (rowsL CW x.rs)::AC x.b.p (rowsL Am ts)::AC x.c.p (rowsL Af ss)::B5 x.rs)) func95 O O (leB O) (Xk hx) (zM (sL [0,1,2] O) (q4 (BG (cs:=Dj x) O λb1=>al FA O λb2=>q6 (sL [1,2,3,6] O) (CE (Dm 11++[(11,false)]) (sl sr) (Ag (v:=(pP b1 0)) O (AA O underlying39 O sizeOf36 O) (BC 0 (qz x.a.p x.rs.length x.a.c) Fm O (Ag (v:=(pP b1 1)) O (AA O underlying39 O sizeOf23 O) (BC 0 (qz x.b.p ts.length x.b.c) CQ O (Bl O ?_)))))))))
 refine Bl O (Ag (v:=(pP (pB x.b.p) (pO x.b.p+t*3))) O (AF (j:=t) O O x.b.ok underlying23 sizeOf105 O Z) (Ag (v:=(pP (pB x.b.p) (pO x.b.p+(t*3+r)))) O (AB (j:=r) O O underlying105 sizeOf3 O Z (by rw [Nat.mul_one];exact Nat.add_assoc _ _ _)) (Ag O (Ab (v:=(vN (FH (ts.getD t jJ) r))) (i:=2) O O (Ao.ne x.b.ok Z) BN (By A8 jJ _ _ r Z Z (eK Z))) (Ag (v:=(pP (pB x.a.p) (pO x.a.p+(FH (ts.getD t jJ) r)*6))) O (AF (j:=FH (ts.getD t jJ) r) O O x.a.ok underlying36 sizeOf121 O Z) (Ag (v:=(aG (BU ((x.rs.getD (FH (ts.getD t jJ) r) Cn).x)))) O (AH (vs:=BU ((x.rs.getD (FH (ts.getD t jJ) r) Cn).x)) (i:=1) O O (Ao.ne x.a.ok Z) BK (AZ Bd Cn _ _ Z) (Bd _)) (zL O (Aj O sizeOf121 O (zG (sl sr) (zT (zF (sL [6] O) (zC ?_)))))))))))
 exact zH (ret_one O (Ah (i:=0) (cs:=BU ((x.rs.getD (FH (ts.getD t jJ) r) Cn).x)) O O isAgg121 sizeOf121 O) (λw hw=>(by rw [show BQ ps (FH (ts.getD t (0,0,0)) r)=(x.rs.getD (FH (ts.getD t (0,0,0)) r) Cn).p from (x.at hcr).symm];exact DR (a:=(x.rs.getD (FH (ts.getD t (0,0,0)) r) Cn).x) hw (bQ (L:=(AU b2 121 (BU ((x.rs.getD (FH (ts.getD t jJ) r) Cn).x))::AU b1 39 (Dj x)::AC x.a.p (rowsL CW x.rs)::AC x.b.p (rowsL Am ts)::AC x.c.p (rowsL Af ss)::B5 x.rs)) (rs:=x.rs) hw (λz hz=>xt [AU b2 121 (BU ((x.rs.getD (FH (ts.getD t jJ) r) Cn).x)),AU b1 39 (Dj x),AC x.a.p (rowsL CW x.rs),AC x.b.p (rowsL Am ts),AC x.c.p (rowsL Af ss)] hz) hcr (At.rnt lx)) O)))
theorem Dv {r0:Rat} (x0:FX r0) {r1:Rat} (x1:FX r1):Instr.fill ([(0,3),(3,3)].toArray[·]?) ([(qa false),jj,jj,(qa false),jj,jj]).toArray [(0,.agg (fxL x0).toArray),(1,.agg (fxL x1).toArray)]=some (fxL x0++fxL x1).toArray:=by kernel_rfl
set_option maxHeartbeats 1000000 in
theorem UE {ps:List Pt} {ts:List T3} {ss:List Z3} (x:I5 ps ts ss) (hl:ts.length<=500) (hN:ps.length<=1000000) (hz:∀k,BV (BQ ps k)<=1000) (hnb:Bn ps.length ts=true) (w:World) {S:Nat->Prop} (hx:Ro S w x):Calls prog 32 #[(aG (Dj x))] w (Ai (FX (WY ps ts ts.length)) S w):=by
 have hxl:=x.len
 have lx:=Bq (W:=w) hx
 refine AR (args:=[(aG (Dj x))]) (L:=(AC x.a.p (rowsL CW x.rs)::AC x.b.p (rowsL Am ts)::AC x.c.p (rowsL Af ss)::B5 x.rs)) func32 O O (leB O) (Xk hx) (zM (sL [0] O) (q4 (BG (cs:=Dj x) O λb1=>al Fo O λb2=>q3 (sL [1,2] O) (cF (S:=S) (x:=(((0:Int):Int):Rat)) (args:=[(vI 0)]) call94 (λw hw=>D1 (0:Int) Z Z w) O O O λg1 lg1=>al Fo O λb3=>Aj O sizeOf83 O (q3 (sL [1,2,3] O) (cF (S:=S) (x:=(((0:Int):Int):Rat)) (args:=[(vI 0)]) call94 (λw hw=>D1 (0:Int) Z Z w) O O O λg2 lg2=>cF (S:=S) (x:=(((0:Int):Int):Rat)) (args:=[(vI 0)]) call94 (λw hw=>D1 (0:Int) Z Z w) O O O λg3 lg3=>?_))))))
 refine st' (v:=(aG (fxL g2++fxL g3))) (AO (zs:=[(qa false),jj,jj,(qa false),jj,jj]) (vs:=fxL g2++fxL g3) (pv:=[(0,(aG (fxL g2))),(1,(aG (fxL g3)))]) (places:=[(0,3),(3,3)]) zeroValue121 underlying121 (λw=>by simp [sizeOf83]) O (Dv g2 g3)) O (al FA O λb4=>Aj O sizeOf121 O (q6 (sL [1,2,3,4] O) (q4 (asg' O (oNl' (zC (zN (OkC.permR (L2:=(BM g1.z.n::BM g1.m::AU b4 121 (fxL g2++fxL g3)::BM g3.z.n::BM g3.m::BM g2.z.n::BM g2.m::AU b3 83 (fxL g1)::AU b2 83 ([(qa false),jj,jj])::AU b1 39 (Dj x)::AC x.a.p (rowsL CW x.rs)::AC x.b.p (rowsL Am ts)::AC x.c.p (rowsL Af ss)::B5 x.rs)) (show List.Perm _ (BM g1.z.n::BM g1.m::AU b4 121 (fxL g2++fxL g3)::BM g3.z.n::BM g3.m::BM g2.z.n::BM g2.m::AU b3 83 (fxL g1)::AU b2 83 ([(qa false),jj,jj])::AU b1 39 (Dj x)::AC x.a.p (rowsL CW x.rs)::AC x.b.p (rowsL Am ts)::AC x.c.p (rowsL Af ss)::B5 x.rs) from Ty [AU b4 121 (fxL g2++fxL g3),BM g3.z.n,BM g3.m,BM g2.z.n,BM g2.m,AU b3 83 (fxL g1)] [BM g1.z.n,BM g1.m] (AU b2 83 ([(qa false),jj,jj])::AU b1 39 (Dj x)::AC x.a.p (rowsL CW x.rs)::AC x.b.p (rowsL Am ts)::AC x.c.p (rowsL Af ss)::B5 x.rs)) ?_))))))))
 refine yM (tg λ(i:Nat) (s:FS)=>i<=ts.length/\(FS.q s)=WY ps ts i/\At ⟨w,none⟩ S (FS.f s)) (tg λ(i:Nat) (s:FS)=>[(1,(pP b1 0)),(2,(pP b2 0)),(3,(pP b3 0)),(4,(pP b4 0)),(5,(vN i))]) (tg λ(i:Nat) (s:FS)=>(BM s.f.z.n::BM s.f.m::AU b4 121 (fxL g2++fxL g3)::BM g3.z.n::BM g3.m::BM g2.z.n::BM g2.m::AU b3 83 (fxL s.f)::AU b2 83 ([(qa false),jj,jj])::AU b1 39 (Dj x)::AC x.a.p (rowsL CW x.rs)::AC x.b.p (rowsL Am ts)::AC x.c.p (rowsL Af ss)::B5 x.rs)) (tg λ(i:Nat) (s:FS)=>ts.length-i) 0 (⟨_,g1⟩:FS) (⟨xu _,rfl,lg1⟩) (sF O) sr (λi s hJ=>?_)
 obtain ⟨hi,hsq,hsa⟩:=hJ
 have ha:=bb hz ts i
 rw [<-hsq] at ha
 have so:=Xl
 unfold aC at so
 have s3:Sz ((3:Int):Rat)<=8:=by decide +kernel
 obtain ⟨A,hA⟩:∃q,q=BQ ps (ts.getD i (0,0,0)).1:=⟨_,rfl⟩
 have zA:BV A<=1000:=by rw [hA];exact hz _
 have yA:=Ra zA
 obtain ⟨B,hB⟩:∃q,q=BQ ps (ts.getD i (0,0,0)).2.1:=⟨_,rfl⟩
 have zB:BV B<=1000:=by rw [hB];exact hz _
 have yB:=Ra zB
 obtain ⟨D,hD⟩:∃q,q=BQ ps (ts.getD i (0,0,0)).2.2:=⟨_,rfl⟩
 have zD:BV D<=1000:=by rw [hD];exact hz _
 have yD:=Ra zD
 refine zf (zf ?_)
 by_cases hts:i<ts.length
 ·refine zQ (AJ O (st' (v:=(pP b1 1)) (AA O underlying39 O sizeOf23 O) O (A_ 9 (qz x.b.p ts.length x.b.c) CQ O (st' (v:=(vN ts.length)) (AD O underlying23) O (st' (AW (c:=(decide (i<ts.length))) O O (B_ (a:=i) (b:=ts.length))) O (AJ O ?_))))))
  refine zg (FM:=[(1,(pP b1 0)),(2,(pP b2 0)),(3,(pP b3 0)),(4,(pP b4 0)),(5,(vN i)),(14,(vN i)),(15,(pP b1 1)),(16,(qz x.b.p ts.length x.b.c)),(17,(vN ts.length)),(18,(qa (decide (i<ts.length)))),(19,(qa (decide (i<ts.length)))),(22,(qa (decide (i<ts.length))))]) (LM:=(BM s.f.z.n::BM s.f.m::AU b4 121 (fxL g2++fxL g3)::BM g3.z.n::BM g3.m::BM g2.z.n::BM g2.m::AU b3 83 (fxL s.f)::AU b2 83 ([(qa false),jj,jj])::AU b1 39 (Dj x)::AC x.a.p (rowsL CW x.rs)::AC x.b.p (rowsL Am ts)::AC x.c.p (rowsL Af ss)::B5 x.rs)) 3 ?_ ?_
  ·rcases xO (decide (i<ts.length)) with hg1|hg1
   ·refine zK (k:=19) (u:=qa true) O (by rw [hg1]) ?_
    have hg1':=xR hg1
    exact Au (v:=(aG (Dj x))) O (Ac (i:=9) (vs:=Dj x) O O C1.a C1.s O O) (zj (v:=(qa true)) (AN O) (Ak (args:=[(aG (Dj x))]) O O call45) (λw hw=>(by obtain ⟨y2,hy2,_,hro⟩:=XL x;have h9:=Lj y2.rq (by rw [xv];omega) w (XS (hro (EY hw 10 O 13 O lx)));rw [JP,show Bn y2.rs.length ts=true from (by rw [y2.len];exact hnb),show IK y2.rq=Dj x from hy2] at h9;exact h9)) O (leB O) (st' (v:=(qa true)) (ex_pick_true O O) O (oNl' (zS Bi (xP _)))))
   ·refine zK (k:=19) (u:=qa false) O (by rw [hg1]) ?_
    have hg1':=xQ hg1
    exact Aw O (Aw O (st' (v:=(qa false)) (AI O O) O (oNl' (zS Bi (xP _)))))
  refine oNl' (zF (sL [1,2,3,4,5,22] O) (zC ?_))
  refine zO O (λhc0=>?_) (λhc0=>?_)
  ·replace hc0:=xR hc0
   refine zJ (q1 (zN (q4 (An 9 C1 O (AJ O (cP (S:=S) (x:=A) (args:=[(aG (Dj x)),(vN i),(vI 0)]) call95 (λw hw=>(Ai.cast (T:=λi=>PX i) hA.symm (FK x i 0 Z jY hnb w (EY hw 10 O 13 O lx)))) O O O λg4 lg4=>al FA O λb5=>Aj O sizeOf121 O (q3 (sL [1,2,3,4,5,6] O) (An 14 C1 O (AJ O ?_)))))))))
   refine cP (S:=S) (x:=B) (args:=[(aG (Dj x)),(vN i),(vI 1)]) call95 (λw hw=>(Ai.cast (T:=λi=>PX i) hB.symm (FK x i 1 Z jY hnb w (EY hw 15 O 18 O lx)))) O O O λg5 lg5=>al FA O λb6=>Aj O sizeOf121 O (q3 (sL [1,2,3,4,5,6,7] O) (An 19 C1 O (AJ O (cP (S:=S) (x:=D) (args:=[(aG (Dj x)),(vN i),(vI 2)]) call95 (λw hw=>(Ai.cast (T:=λi=>PX i) hD.symm (FK x i 2 Z jY hnb w (EY hw 20 O 23 O lx)))) O O O λg6 lg6=>al FA O λb7=>Aj O sizeOf121 O (q6 (sL [1,2,3,4,5,6,7,8] O) (rN [(0,true),(1,true),(3,true),(4,true),(6,true),(7,true),(2,false),(5,false),(8,false),(9,false),(10,false)] [⟨11,9,83,[(qa false),jj,jj]⟩] [(12,false)] sr jV (λ_ _ d _ _ h=>by cases d<;>exact h) (EP O O Fo O (Fk)) O (DN 17 BK O ?_)))))))
   refine DN 10 BK O (DN 17 BK O (DN 5 BK O (DN 17 BK O (DN 0 BK O (zi O λEF EL=>cF (S:=S) (x:=(DM A)) (args:=[(aG (fxL g2++fxL g3)),(aG (BU g4))]) call74 (λw hw=>(Ai.cast (T:=λi=>FX i) (show _=DM A from O) (DB (PX.mk g2 g3:PX (⟨(((0:Int):Int):Rat),(((0:Int):Int):Rat)⟩:Pt)) g4 Z w (YD (inS hw 20 O lg2) (inS hw 18 O lg3)) (inS hw 11 O lg4)))) O O O λg7 lg7=>zy (sl (sl sr)) O (zi O λEF EL=>cF (S:=S) (x:=(DM B)) (args:=[(aG (fxL g2++fxL g3)),(aG (BU g5))]) call74 (λw hw=>(Ai.cast (T:=λi=>FX i) (show _=DM B from O) (DB (PX.mk g2 g3:PX (⟨(((0:Int):Int):Rat),(((0:Int):Int):Rat)⟩:Pt)) g5 Z w (YD (inS hw 22 O lg2) (inS hw 20 O lg3)) (inS hw 8 O lg5)))) O O O λg8 lg8=>zy (sl (sl (sl (sl sr)))) O (zi O λEF EL=>?_)))))))
   refine cF (S:=S) (x:=(DM D)) (args:=[(aG (fxL g2++fxL g3)),(aG (BU g6))]) call74 (λw hw=>(Ai.cast (T:=λi=>FX i) (show _=DM D from O) (DB (PX.mk g2 g3:PX (⟨(((0:Int):Int):Rat),(((0:Int):Int):Rat)⟩:Pt)) g6 Z w (YD (inS hw 24 O lg2) (inS hw 22 O lg3)) (inS hw 5 O lg6)))) O O O λg9 lg9=>zy (sl (sl (sl (sl (sl (sl sr)))))) O (zi O λEF EL=>?_)
   have hz1:=Cb (DM B) (DM D)
   refine cF (S:=S) (x:=((DM B)+(DM D))) (args:=[(aG (fxL g8)),(aG (fxL g9))]) call96 (λw hw=>Eo g8 g9 (by (try simp only [BO]);omega) w (inS hw 2 O lg8) (inS hw 0 O lg9)) O O O λg10 lg10=>zy (sl (sl (sl (sl (sl (sl (sl (sl sr)))))))) O (zi O λEF EL=>?_)
   have hz2:=Cb (DM A) ((DM B)+(DM D))
   refine cF (S:=S) (x:=((DM A)+((DM B)+(DM D)))) (args:=[(aG (fxL g7)),(aG (fxL g10))]) call96 (λw hw=>Eo g7 g10 (by (try simp only [BO]);omega) w (inS hw 6 O lg7) (inS hw 0 O lg10)) O O O λg11 lg11=>zy (sl (sl (sl (sl (sl (sl (sl (sl (sl (sl sr)))))))))) O (yI λb8=>zL O (Aj O sizeOf83 O (zG (sl (sl (sl (sl (sl (sl (sl (sl (sl (sl (sl sr))))))))))) (zT (zF (sL [1,2,3,4,5,6,7,8,9] O) (zC (rC [(0,true),(1,true),(2,true),(3,true),(5,true),(4,false),(6,false),(7,false),(8,false),(9,false)] 10 [] sr (sk (sk (sk (sk (sk (sk (sk (sk (sk (sk (sk (sk (sk (sk (sk (sk (sk (sk (sk (sk (sk (sk (sk (sk (sk (sk (sk (sk (sk (sk (sk (sk (sk (sl sr)))))))))))))))))))))))))))))))))) jV (λ_ _ d _ _ h=>by cases d<;>exact h) (vE (v:=(aG (fxL s.f))) O (Ac (i:=33) (vs:=fxL s.f) O O B9.a B9.s O O) O (vE (v:=(aG (BU g4))) O (Ac (i:=21) (vs:=BU g4) O O BK.a BK.s O O) O ?_)))))))))
   refine vE (v:=(aG (BU g5))) O (Ac (i:=16) (vs:=BU g5) O O BK.a BK.s O O) O (vE (v:=(aG (BU g6))) O (Ac (i:=11) (vs:=BU g6) O O BK.a BK.s O O) O (vE (v:=(aG (fxL g11))) O (Ac (i:=0) (vs:=fxL g11) O O B9.a B9.s O O) O (yC O ?_)))
   have hz3:=Og A B D
   refine cF (S:=S) (x:=(D_ A B D)) (args:=[(aG (BU g4)),(aG (BU g5)),(aG (BU g6))]) call99 (λw hw=>NH g4 g5 g6 Z w (inS hw 22 O lg4) (inS hw 17 O lg5) (inS hw 12 O lg6)) O O O λg12 lg12=>z7 (sl (sl sr)) (yC O ?_)
   have hz4:=Bo (D_ A B D) ((DM A)+((DM B)+(DM D)))
   refine cF (S:=S) (x:=((D_ A B D)*((DM A)+((DM B)+(DM D))))) (args:=[(aG (fxL g12)),(aG (fxL g11))]) call98 (λw hw=>D4 g12 g11 (by (try simp only [BO]);omega) w (inS hw 0 O lg12) (inS hw 3 O lg11)) O O O λg13 lg13=>z7 (sl (sl (sl (sl sr)))) (yC O (cF (S:=S) (x:=(((3:Int):Int):Rat)) (args:=[(vI 3)]) call94 (λw hw=>D1 (3:Int) Z Z w) O O O λg14 lg14=>z7 (sl (sl (sl (sl (sl (sl sr)))))) (yC O ?_)))
   have hz5:=FB ((D_ A B D)*((DM A)+((DM B)+(DM D)))) (((3:Int):Int):Rat)
   refine cF (S:=S) (x:=(((D_ A B D)*((DM A)+((DM B)+(DM D))))/(((3:Int):Int):Rat))) (args:=[(aG (fxL g13)),(aG (fxL g14))]) call97 (λw hw=>Hk g13 g14 (by (try simp only [BO]);omega) w (inS hw 2 O lg13) (inS hw 0 O lg14)) O O O λg15 lg15=>z7 (sl (sl (sl (sl (sl (sl (sl (sl sr)))))))) (yC O ?_)
   have hz6:=Cb s.q (((D_ A B D)*((DM A)+((DM B)+(DM D))))/(((3:Int):Int):Rat))
   refine cF (S:=S) (x:=(s.q+(((D_ A B D)*((DM A)+((DM B)+(DM D))))/(((3:Int):Int):Rat)))) (args:=[(aG (fxL s.f)),(aG (fxL g15))]) call96 (λw hw=>Eo s.f g15 (by (try simp only [BO]);omega) w (inS hw 34 O hsa) (inS hw 0 O lg15)) O O O λg16 lg16=>z7 (sl (sl (sl (sl (sl (sl (sl (sl (sl (sl sr)))))))))) (yU O (Ei 43 (off:=0) (vs:=fxL g16) (cs':=fxL g16) (AM O) O sizeOf83 O (zG (sl (sl (sl (sl (sl (sl (sl (sl (sl (sl (sk (sk (sk (sk (sk (sk (sk (sk (sk (sk (sk (sk (sk (sk (sk (sk (sk (sk (sk (sk (sk (sk (sk (sk (sk (sk (sk (sk (sk (sk (sk (sk (sk (sl sr)))))))))))))))))))))))))))))))))))))))))))) (zT (zF (sL [1,2,3,4,5,6,7,8,9] O) (zP (zC (zQ (AJ O (st' (AV (c:=((i+1:Nat):Int)) O O (AY (a:=i) (b:=1) Z)) O ?_))))))))))
   exact asg' O (oNl' (zF (sL [1,2,3,4,5,6,7,8,9] O) (z6 (i+1) (⟨_,g16⟩:FS) (⟨Z,by rw [show WY ps ts (i+1)=WY ps ts i+aP ps (ts.getD i (0,0,0)) from O,<-hsq];unfold aP;rw [<-hA,<-hB,<-hD],lg16⟩) Z (sF O) (sk (sk (sl (sl (sl (sl (sl (sl (sl (sl (sl (sl (sl (sl (sl (sl (sl (sl (sl (sl (sl (sl (sl (sl (sl (sl (sl (sl (sl (sl (sl (sl (sl (sl (sl (sl (sl (sl sr)))))))))))))))))))))))))))))))))))))))))
  ·replace hc0:=xQ hc0
   have hie:i=ts.length:=by omega
   exact zY (zR (zp (zV (q2 (An 7 B9 O (Ei 8 (off:=0) (vs:=fxL s.f) (cs':=fxL s.f) (AM O) O sizeOf83 O (oNl' (zF (sL [1,2,3,4,5] O) (zC (zH (ret_one O (Ah (i:=8) (cs:=fxL s.f) O O isAgg83 sizeOf83 O) (λw hw=>(by rw [show ts.length=i by omega,<-hsq];exact DR (a:=s.f) hw (inS hw 0 O hsa) O)))))))))))))
 ·refine zQ (AJ O (st' (v:=(pP b1 1)) (AA O underlying39 O sizeOf23 O) O (A_ 9 (qz x.b.p ts.length x.b.c) CQ O (st' (v:=(vN ts.length)) (AD O underlying23) O (st' (AW (c:=(decide (i<ts.length))) O O (B_ (a:=i) (b:=ts.length))) O (AJ O ?_))))))
  refine zg (FM:=[(1,(pP b1 0)),(2,(pP b2 0)),(3,(pP b3 0)),(4,(pP b4 0)),(5,(vN i)),(14,(vN i)),(15,(pP b1 1)),(16,(qz x.b.p ts.length x.b.c)),(17,(vN ts.length)),(18,(qa (decide (i<ts.length)))),(19,(qa (decide (i<ts.length)))),(22,(qa (decide (i<ts.length))))]) (LM:=(BM s.f.z.n::BM s.f.m::AU b4 121 (fxL g2++fxL g3)::BM g3.z.n::BM g3.m::BM g2.z.n::BM g2.m::AU b3 83 (fxL s.f)::AU b2 83 ([(qa false),jj,jj])::AU b1 39 (Dj x)::AC x.a.p (rowsL CW x.rs)::AC x.b.p (rowsL Am ts)::AC x.c.p (rowsL Af ss)::B5 x.rs)) 3 ?_ ?_
  ·rcases xO (decide (i<ts.length)) with hg2|hg2
   ·refine zK (k:=19) (u:=qa true) O (by rw [hg2]) ?_
    have hg2':=xR hg2
    exact Au (v:=(aG (Dj x))) O (Ac (i:=9) (vs:=Dj x) O O C1.a C1.s O O) (zj (v:=(qa true)) (AN O) (Ak (args:=[(aG (Dj x))]) O O call45) (λw hw=>(by obtain ⟨y2,hy2,_,hro⟩:=XL x;have h9:=Lj y2.rq (by rw [xv];omega) w (XS (hro (EY hw 10 O 13 O lx)));rw [JP,show Bn y2.rs.length ts=true from (by rw [y2.len];exact hnb),show IK y2.rq=Dj x from hy2] at h9;exact h9)) O (leB O) (st' (v:=(qa true)) (ex_pick_true O O) O (oNl' (zS EW (xP _)))))
   ·refine zK (k:=19) (u:=qa false) O (by rw [hg2]) ?_
    have hg2':=xQ hg2
    exact Aw O (Aw O (st' (v:=(qa false)) (AI O O) O (oNl' (zS EW (xP _)))))
  refine oNl' (zF (sL [1,2,3,4,5,22] O) (zC ?_))
  refine zO O (λhc0=>?_) (λhc0=>?_)
  ·replace hc0:=xR hc0
   refine zJ (q1 (zN (q4 (An 9 C1 O (AJ O (cP (S:=S) (x:=A) (args:=[(aG (Dj x)),(vN i),(vI 0)]) call95 (λw hw=>(Ai.cast (T:=λi=>PX i) hA.symm (FK x i 0 Z jY hnb w (EY hw 10 O 13 O lx)))) O O O λg17 lg17=>al FA O λb5=>Aj O sizeOf121 O (q3 (sL [1,2,3,4,5,6] O) (An 14 C1 O (AJ O ?_)))))))))
   refine cP (S:=S) (x:=B) (args:=[(aG (Dj x)),(vN i),(vI 1)]) call95 (λw hw=>(Ai.cast (T:=λi=>PX i) hB.symm (FK x i 1 Z jY hnb w (EY hw 15 O 18 O lx)))) O O O λg18 lg18=>al FA O λb6=>Aj O sizeOf121 O (q3 (sL [1,2,3,4,5,6,7] O) (An 19 C1 O (AJ O (cP (S:=S) (x:=D) (args:=[(aG (Dj x)),(vN i),(vI 2)]) call95 (λw hw=>(Ai.cast (T:=λi=>PX i) hD.symm (FK x i 2 Z jY hnb w (EY hw 20 O 23 O lx)))) O O O λg19 lg19=>al FA O λb7=>Aj O sizeOf121 O (q6 (sL [1,2,3,4,5,6,7,8] O) (rN [(0,true),(1,true),(3,true),(4,true),(6,true),(7,true),(2,false),(5,false),(8,false),(9,false),(10,false)] [⟨11,9,83,[(qa false),jj,jj]⟩] [(12,false)] sr jV (λ_ _ d _ _ h=>by cases d<;>exact h) (EP O O Fo O (Fk)) O (DN 17 BK O ?_)))))))
   refine DN 10 BK O (DN 17 BK O (DN 5 BK O (DN 17 BK O (DN 0 BK O (zi O λEF EL=>cF (S:=S) (x:=(DM A)) (args:=[(aG (fxL g2++fxL g3)),(aG (BU g17))]) call74 (λw hw=>(Ai.cast (T:=λi=>FX i) (show _=DM A from O) (DB (PX.mk g2 g3:PX (⟨(((0:Int):Int):Rat),(((0:Int):Int):Rat)⟩:Pt)) g17 Z w (YD (inS hw 20 O lg2) (inS hw 18 O lg3)) (inS hw 11 O lg17)))) O O O λg20 lg20=>zy (sl (sl sr)) O (zi O λEF EL=>cF (S:=S) (x:=(DM B)) (args:=[(aG (fxL g2++fxL g3)),(aG (BU g18))]) call74 (λw hw=>(Ai.cast (T:=λi=>FX i) (show _=DM B from O) (DB (PX.mk g2 g3:PX (⟨(((0:Int):Int):Rat),(((0:Int):Int):Rat)⟩:Pt)) g18 Z w (YD (inS hw 22 O lg2) (inS hw 20 O lg3)) (inS hw 8 O lg18)))) O O O λg21 lg21=>zy (sl (sl (sl (sl sr)))) O (zi O λEF EL=>?_)))))))
   refine cF (S:=S) (x:=(DM D)) (args:=[(aG (fxL g2++fxL g3)),(aG (BU g19))]) call74 (λw hw=>(Ai.cast (T:=λi=>FX i) (show _=DM D from O) (DB (PX.mk g2 g3:PX (⟨(((0:Int):Int):Rat),(((0:Int):Int):Rat)⟩:Pt)) g19 Z w (YD (inS hw 24 O lg2) (inS hw 22 O lg3)) (inS hw 5 O lg19)))) O O O λg22 lg22=>zy (sl (sl (sl (sl (sl (sl sr)))))) O (zi O λEF EL=>?_)
   have hz7:=Cb (DM B) (DM D)
   refine cF (S:=S) (x:=((DM B)+(DM D))) (args:=[(aG (fxL g21)),(aG (fxL g22))]) call96 (λw hw=>Eo g21 g22 (by (try simp only [BO]);omega) w (inS hw 2 O lg21) (inS hw 0 O lg22)) O O O λg23 lg23=>zy (sl (sl (sl (sl (sl (sl (sl (sl sr)))))))) O (zi O λEF EL=>?_)
   have hz8:=Cb (DM A) ((DM B)+(DM D))
   refine cF (S:=S) (x:=((DM A)+((DM B)+(DM D)))) (args:=[(aG (fxL g20)),(aG (fxL g23))]) call96 (λw hw=>Eo g20 g23 (by (try simp only [BO]);omega) w (inS hw 6 O lg20) (inS hw 0 O lg23)) O O O λg24 lg24=>zy (sl (sl (sl (sl (sl (sl (sl (sl (sl (sl sr)))))))))) O (yI λb8=>zL O (Aj O sizeOf83 O (zG (sl (sl (sl (sl (sl (sl (sl (sl (sl (sl (sl sr))))))))))) (zT (zF (sL [1,2,3,4,5,6,7,8,9] O) (zC (rC [(0,true),(1,true),(2,true),(3,true),(5,true),(4,false),(6,false),(7,false),(8,false),(9,false)] 10 [] sr (sk (sk (sk (sk (sk (sk (sk (sk (sk (sk (sk (sk (sk (sk (sk (sk (sk (sk (sk (sk (sk (sk (sk (sk (sk (sk (sk (sk (sk (sk (sk (sk (sk (sl sr)))))))))))))))))))))))))))))))))) jV (λ_ _ d _ _ h=>by cases d<;>exact h) (vE (v:=(aG (fxL s.f))) O (Ac (i:=33) (vs:=fxL s.f) O O B9.a B9.s O O) O (vE (v:=(aG (BU g17))) O (Ac (i:=21) (vs:=BU g17) O O BK.a BK.s O O) O ?_)))))))))
   refine vE (v:=(aG (BU g18))) O (Ac (i:=16) (vs:=BU g18) O O BK.a BK.s O O) O (vE (v:=(aG (BU g19))) O (Ac (i:=11) (vs:=BU g19) O O BK.a BK.s O O) O (vE (v:=(aG (fxL g24))) O (Ac (i:=0) (vs:=fxL g24) O O B9.a B9.s O O) O (yC O ?_)))
   have hz9:=Og A B D
   refine cF (S:=S) (x:=(D_ A B D)) (args:=[(aG (BU g17)),(aG (BU g18)),(aG (BU g19))]) call99 (λw hw=>NH g17 g18 g19 Z w (inS hw 22 O lg17) (inS hw 17 O lg18) (inS hw 12 O lg19)) O O O λg25 lg25=>z7 (sl (sl sr)) (yC O ?_)
   have hz10:=Bo (D_ A B D) ((DM A)+((DM B)+(DM D)))
   refine cF (S:=S) (x:=((D_ A B D)*((DM A)+((DM B)+(DM D))))) (args:=[(aG (fxL g25)),(aG (fxL g24))]) call98 (λw hw=>D4 g25 g24 (by (try simp only [BO]);omega) w (inS hw 0 O lg25) (inS hw 3 O lg24)) O O O λg26 lg26=>z7 (sl (sl (sl (sl sr)))) (yC O (cF (S:=S) (x:=(((3:Int):Int):Rat)) (args:=[(vI 3)]) call94 (λw hw=>D1 (3:Int) Z Z w) O O O λg27 lg27=>z7 (sl (sl (sl (sl (sl (sl sr)))))) (yC O ?_)))
   have hz11:=FB ((D_ A B D)*((DM A)+((DM B)+(DM D)))) (((3:Int):Int):Rat)
   refine cF (S:=S) (x:=(((D_ A B D)*((DM A)+((DM B)+(DM D))))/(((3:Int):Int):Rat))) (args:=[(aG (fxL g26)),(aG (fxL g27))]) call97 (λw hw=>Hk g26 g27 (by (try simp only [BO]);omega) w (inS hw 2 O lg26) (inS hw 0 O lg27)) O O O λg28 lg28=>z7 (sl (sl (sl (sl (sl (sl (sl (sl sr)))))))) (yC O ?_)
   have hz12:=Cb s.q (((D_ A B D)*((DM A)+((DM B)+(DM D))))/(((3:Int):Int):Rat))
   refine cF (S:=S) (x:=(s.q+(((D_ A B D)*((DM A)+((DM B)+(DM D))))/(((3:Int):Int):Rat)))) (args:=[(aG (fxL s.f)),(aG (fxL g28))]) call96 (λw hw=>Eo s.f g28 (by (try simp only [BO]);omega) w (inS hw 34 O hsa) (inS hw 0 O lg28)) O O O λg29 lg29=>z7 (sl (sl (sl (sl (sl (sl (sl (sl (sl (sl sr)))))))))) (yU O (Ei 43 (off:=0) (vs:=fxL g29) (cs':=fxL g29) (AM O) O sizeOf83 O (zG (sl (sl (sl (sl (sl (sl (sl (sl (sl (sl (sk (sk (sk (sk (sk (sk (sk (sk (sk (sk (sk (sk (sk (sk (sk (sk (sk (sk (sk (sk (sk (sk (sk (sk (sk (sk (sk (sk (sk (sk (sk (sk (sk (sl sr)))))))))))))))))))))))))))))))))))))))))))) (zT (zF (sL [1,2,3,4,5,6,7,8,9] O) (zP (zC (zQ (AJ O (st' (AV (c:=((i+1:Nat):Int)) O O (AY (a:=i) (b:=1) Z)) O ?_))))))))))
   exact asg' O (oNl' (zF (sL [1,2,3,4,5,6,7,8,9] O) (z6 (i+1) (⟨_,g29⟩:FS) (⟨Z,by rw [show WY ps ts (i+1)=WY ps ts i+aP ps (ts.getD i (0,0,0)) from O,<-hsq];unfold aP;rw [<-hA,<-hB,<-hD],lg29⟩) Z (sF O) (sk (sk (sl (sl (sl (sl (sl (sl (sl (sl (sl (sl (sl (sl (sl (sl (sl (sl (sl (sl (sl (sl (sl (sl (sl (sl (sl (sl (sl (sl (sl (sl (sl (sl (sl (sl (sl (sl sr)))))))))))))))))))))))))))))))))))))))))
  ·replace hc0:=xQ hc0
   have hie:i=ts.length:=by omega
   exact zY (zR (zp (zV (q2 (An 7 B9 O (Ei 8 (off:=0) (vs:=fxL s.f) (cs':=fxL s.f) (AM O) O sizeOf83 O (oNl' (zF (sL [1,2,3,4,5] O) (zC (zH (ret_one O (Ah (i:=8) (cs:=fxL s.f) O O isAgg83 sizeOf83 O) (λw hw=>(by rw [show ts.length=i by omega,<-hsq];exact DR (a:=s.f) hw (inS hw 0 O hsa) O)))))))))))))
theorem UF {N M K:Nat} (x:RU N M K) (hu:∀(S:Nat->Prop) (w:World),Ro S w x->Calls prog 45 #[(aG (Jq x))] w (AX w (qa false))) (w:World) {S:Nat->Prop} (hx:Ro S w x):Calls prog 32 #[(aG (Jq x))] w (Ai (FX ((0:Int):Rat)) S w):=by
 have lx:=Bq (W:=w) hx
 refine AR (args:=[(aG (Jq x))]) (L:=[AC x.a.p (x.cs),AC x.b.p (x.es),AC x.c.p (x.ds)]) func32 O O (leB O) (C7 hx Ae) (zM (sL [0] O) (q4 (BG (cs:=Jq x) O λb1=>al Fo O λb2=>q3 (sL [1,2] O) (cF (S:=S) (x:=(((0:Int):Int):Rat)) (args:=[(vI 0)]) call94 (λw hw=>D1 (0:Int) Z Z w) O O O λg1 lg1=>al Fo O λb3=>Aj O sizeOf83 O (q3 (sL [1,2,3] O) (cF (S:=S) (x:=(((0:Int):Int):Rat)) (args:=[(vI 0)]) call94 (λw hw=>D1 (0:Int) Z Z w) O O O λg2 lg2=>cF (S:=S) (x:=(((0:Int):Int):Rat)) (args:=[(vI 0)]) call94 (λw hw=>D1 (0:Int) Z Z w) O O O λg3 lg3=>?_))))))
 refine st' (v:=(aG (fxL g2++fxL g3))) (AO (zs:=[(qa false),jj,jj,(qa false),jj,jj]) (vs:=fxL g2++fxL g3) (pv:=[(0,(aG (fxL g2))),(1,(aG (fxL g3)))]) (places:=[(0,3),(3,3)]) zeroValue121 underlying121 (λw=>by simp [sizeOf83]) O (Dv g2 g3)) O (al FA O λb4=>Aj O sizeOf121 O (q6 (sL [1,2,3,4] O) (q4 (asg' O (oNl' (zC (zN (yG 1 (zk (zf ?_))))))))))
 refine q4 (AJ O (st' (v:=(pP b1 1)) (AA O underlying39 O sizeOf23 O) O (A_ 9 (qz x.b.p M x.b.c) CQ O (st' (v:=(vN M)) (AD O underlying23) O (st' (AW (c:=(decide (0<M))) O O (B_ (a:=0) (b:=M))) O (AJ O ?_))))))
 refine zg (FM:=[(1,(pP b1 0)),(2,(pP b2 0)),(3,(pP b3 0)),(4,(pP b4 0)),(5,(vI 0)),(14,(vI 0)),(15,(pP b1 1)),(16,(qz x.b.p M x.b.c)),(17,(vN M)),(18,(qa (decide (0<M)))),(19,(qa (decide (0<M)))),(22,(qa ((decide (0<M))&&false)))]) (LM:=[AU b4 121 (fxL g2++fxL g3),BM g3.z.n,BM g3.m,BM g2.z.n,BM g2.m,AU b3 83 (fxL g1),BM g1.z.n,BM g1.m,AU b2 83 ([(qa false),jj,jj]),AU b1 39 (Jq x),AC x.a.p (x.cs),AC x.b.p (x.es),AC x.c.p (x.ds)]) 3 ?_ ?_
 ·rcases xO (decide (0<M)) with hg1|hg1
  ·refine zK (k:=19) (u:=qa true) O (by rw [hg1]) ?_
   have hg1':=xR hg1
   exact Au (v:=(aG (Jq x))) O (Ac (i:=9) (vs:=Jq x) O O C1.a C1.s O O) (zj (v:=(qa false)) (AN O) (Ak (args:=[(aG (Jq x))]) O O call45) (λw hw=>hu _ w (inS hw 10 O lx)) O (leB O) (st' (v:=(qa false)) (ex_pick_true O O) O (oNl' (zS Bi (xP _)))))
  ·refine zK (k:=19) (u:=qa false) O (by rw [hg1]) ?_
   have hg1':=xQ hg1
   exact Aw O (Aw O (st' (v:=(qa false)) (AI O O) O (oNl' (zS Bi (xP _)))))
 refine oNl' (zF (sL [1,2,3,4,5,22] O) (zC ?_))
 refine zO O (λhc0=>?_) (λhc0=>?_)
 ·simp only [jK] at hc0
  simp at hc0
 ·simp only [jK] at hc0
  exact zY (zR (zR (zV (q2 (An 5 B9 O (Ei 8 (off:=0) (vs:=fxL g1) (cs':=fxL g1) (AM O) O sizeOf83 O (oNl' (zF (sL [1,2,3,4,5] O) (zC (zH (ret_one O (Ah (i:=8) (cs:=fxL g1) O O isAgg83 sizeOf83 O) (λw hw=>(DR (a:=(g1:FX ((0:Int):Rat))) hw (inS hw 6 O lg1) O)))))))))))))
theorem XB {ps:List Pt} {zt ss:List Z3} (x:Hy ps zt ss) (hz:∀i,BV (BQ ps i)<=1000) (hp:ps.length<=4096) (hl:zt.length<=500) (w:World) {S:Nat->Prop} (hx:Ro S w x):Calls prog 32 #[(aG (HN x))] w (Ai (FX (YC ps zt)) S w):=by
 unfold YC
 by_cases h:DA ps.length zt=true
 ·rw [if_pos h]
  obtain ⟨ts,rfl,hnb⟩:=GO h
  obtain ⟨y,hy,_,hro⟩:=XQ x
  rw [xv] at hl
  rw [GM,<-ZC]
  have k:=UE y hl Z hz hnb w (hro hx)
  rw [hy] at k
  exact k
 ·rw [if_neg h]
  rw [Bool.not_eq_true] at h
  exact UF x.rq.ru (XP x h Z) w (cQ (XS hx))
end
section
set_option maxRecDepth 100000
set_option maxHeartbeats 1000000 in
theorem ZI {ps:List Pt} {ts:List T3} {ss:List Z3} (x:MN ps ts ss) (tc:Nat) (hnb:Bn ps.length ts=true) (htl:ts.length<=1000000) (hN:ps.length<=1000000) (hz:∀i,BV (BQ ps i)<=200000) (ho1:OwnOk x.b.p ts.length tc) (w:World) {w0:BA} {LR:List As} {S:Nat->Prop} (hnb2:∀b,x.b.p.map (·.block)=some b->w0.w.heap.size<=b) (hda:∀b,x.b.p.map (·.block)=some b->x.a.row.foot≠some b) (hdc:∀b,x.b.p.map (·.block)=some b->x.c.row.foot≠some b) (hdL:∀y∈LR,y.ro=false\/∀b,x.b.p.map (·.block)=some b->y.foot≠some b) (lx:At w0 S x) (hW:BE w0 w (AC x.a.p (rowsL Ad ps)::AC x.b.p (rowsL Am ts)::AC x.c.p (rowsL Af ss)::JV x.b.p 105 3 ts.length tc (rowsL Am ts)::LR)):Calls prog 129 #[(aG (Ca x))] w (λe w'=>e=.returned (qa (ID ps ts))/\∃u:Unit,True/\BE w0 w' (rowW x.b.p 105 3 ts.length tc (rowsL Am (Fl ps ts))::AC x.a.p (rowsL Ad ps)::AC x.c.p (rowsL Af ss)::LR)):=by
 refine Mj (args:=[(aG (Ca x))]) func129 O O (leB O) hW (zM (sL [0] O) (q4 (BG (cs:=Ca x) O λb1=>asg' O (q6 (sL [1,2] O) (q4 (An 0 Bu O (cX (S:=S) (cs:=rowsL Ba (BI ts)) (k:=(BI ts).length) (args:=[(aG (Ca x))]) call34 (λw hw=>(by obtain ⟨y2,hy2,hro⟩:=aR x;have h9:=Ke y2 Z Z hnb w (hro (inS hw 1 O lx));rw [hy2] at h9;exact h9)) O O O λo lo=>?_)))))))
 have hel:=JB ts
 refine st' (v:=(vN ((BI ts).length))) (AD O underlying46) O (AJ O (oNl' (zF (sL [1,2,8,9,10] O) (zC (zN ?_)))))
 refine zw (tg λ(i:Nat)=>i<=(BI ts).length/\Tr ps ts=nexI ps ts ((BI ts).drop i) i) (tg λ(i:Nat)=>[(1,(pP b1 0)),(8,(qz o.p ((BI ts).length) o.c)),(9,(vN ((BI ts).length))),(10,(vN i))]) (tg λ(i:Nat)=>(AC o.p (rowsL Ba (BI ts))::AU b1 30 (Ca x)::AC x.a.p (rowsL Ad ps)::AC x.b.p (rowsL Am ts)::AC x.c.p (rowsL Af ss)::JV x.b.p 105 3 ts.length tc (rowsL Am ts)::LR)) (tg λ(i:Nat)=>(BI ts).length-i) 0 (⟨xu _,rfl⟩) (sF O) sr (λi hJ=>?_)
 obtain ⟨hi,he⟩:=hJ
 refine q4 (st' (AW (c:=(decide (i<((BI ts).length)))) O O (B_ (a:=i) (b:=(BI ts).length))) O (oNl' (q1 ?_)))
 refine zO O (λhc0=>?_) (λhc0=>?_)
 ·replace hc0:=xR hc0
  obtain ⟨E,hE⟩:∃q,q=((BI ts).getD i jA):=⟨_,rfl⟩
  have hEm:E∈BI ts:=by rw [hE,List.getD,xN hc0];exact List.getElem_mem hc0
  refine zJ (q1 (zN (q4 (st' (v:=(pP (pB o.p) (pO o.p+i*4))) (AF (j:=i) O O o.ok underlying46 sizeOf49 O Z) O (st' (v:=(aG (Ba ((BI ts).getD i jA)))) (AH (vs:=Ba ((BI ts).getD i jA)) (i:=0) O O (Ao.ne o.ok Z) IN (AZ B6 _ _ _ Z) (B6 _)) O (zK (k:=13) (u:=(aG (Ba E))) O (by rw [hE]) (al Hx O λb2=>Aj O sizeOf49 O (q3 (sL [1,8,9,10,4] O) (An 2 Bu O (An 0 IN O ?_))))))))))
  refine Bx call80 (λw hw=>Le x E hEm hnb hN w (inS hw 3 O lx)) O (AJ O (st' (AK (v:=(aG (Jp (CB ts E)))) O O) O (st' (AK (v:=(qa (Cm E))) O O) O (al Lt O λb3=>Aj O sizeOf157 O (asg' O (q3 (sL [1,8,9,10,4,5,6] O) (AJ O (AJ O ?_))))))))
  refine zg (FM:=[(1,(pP b1 0)),(8,(qz o.p ((BI ts).length) o.c)),(9,(vN ((BI ts).length))),(10,(vN i)),(4,(pP b2 0)),(5,(pP b3 0)),(6,(qa (Cm E))),(20,(qa (Cm E))),(21,(qa (Cm E))),(26,(qa ((Cm E)&&(!(Ew ps ts E)))))]) (LM:=(AU b3 157 (Jp (CB ts E))::AU b2 49 (Ba E)::AC o.p (rowsL Ba (BI ts))::AU b1 30 (Ca x)::AC x.a.p (rowsL Ad ps)::AC x.b.p (rowsL Am ts)::AC x.c.p (rowsL Af ss)::JV x.b.p 105 3 ts.length tc (rowsL Am ts)::LR)) 5 ?_ ?_
  ·rcases xO (Cm E) with hg1|hg1
   ·refine zK (k:=21) (u:=qa true) O (by rw [hg1]) ?_
    have hg1':=hg1
    skip
    exact Au (v:=(aG (Jp (CB ts E)))) O (Ac (i:=0) (vs:=Jp (CB ts E)) O O HQ.a HQ.s O O) (Au (v:=(aG (Ca x))) O (Ac (i:=3) (vs:=Ca x) O O Bu.a Bu.s O O) (zj (v:=(qa (Ew ps ts E))) (AN O) (Ak (args:=[(aG (Jp (CB ts E))),(aG (Ca x))]) O O call81) (λw hw=>PT x E hEm (by simpa using hg1') hnb hN hz w (inS hw 4 O lx)) O (leB O) (Au (v:=(qa (!(Ew ps ts E)))) O (BB (c:=(!(Ew ps ts E))) O O) (st' (v:=(qa (!(Ew ps ts E)))) (ex_pick_true O O) O (oNl' (zS Bi (xP _)))))))
   ·refine zK (k:=21) (u:=qa false) O (by rw [hg1]) ?_
    have hg1':=hg1
    skip
    exact Aw O (Aw O (Aw O (Aw O (st' (v:=(qa false)) (AI O O) O (oNl' (zS Bi (xP _)))))))
  refine oNl' (zF (sL [1,8,9,10,4,5,26] O) (zC ?_))
  refine zO O (λhc1=>?_) (λhc1=>?_)
  ·simp only [jK] at hc1
   obtain ⟨hb1,hl1⟩:Cm E=true/\Ew ps ts E=false:=by simpa using hc1
   have hfin:=he.trans (Wm hc0 (by rw [<-hE];exact hl1))
   obtain ⟨g1,g2⟩:=EA.1 hb1
   obtain ⟨p,q,c,d,h2⟩:=JZ hnb Z hEm g1 g2
   have e9:Jp (CB ts E)=[vN E.a,vN E.b,vN p,vN q,vN c,vN d]:=by rw [(C5 h2).1];show [vN E.a,vN E.b,.int .i64 E.l,.int .i64 E.r,vN c,vN d]=_;rw [h2.l,h2.r]
   refine zf (xJ (A:=[AU b3 157 (Jp (CB ts E)),AU b2 49 (Ba E),AU b1 30 (Ca x),AC x.a.p (rowsL Ad ps),AC x.c.p (rowsL Af ss)]) (B:=LR) (p:=x.b.p) (T:=105) (z:=3) (m:=ts.length) (cp:=tc) (cs:=rowsL Am ts) (sk (sk (sl (sk (sk (sl sr)))))) hnb2 (by intro y hy;simp only [xy,List.not_mem_nil,or_false] at hy;rcases hy with rfl|rfl|rfl|rfl|rfl;exact .inl rfl;exact .inl rfl;exact .inl rfl;exact .inr hda;exact .inr hdc) hdL (zQ (An 0 HQ O (An 2 Bu O (yq (L2:=(rowW x.b.p 105 3 ts.length tc (rowsL Am ts)::AC x.a.p (rowsL Ad ps)::AU b3 157 (Jp (CB ts E))::AU b2 49 (Ba E)::AU b1 30 (Ca x)::AC x.c.p (rowsL Af ss)::LR)) (v:=qa (F_ ps E.a E.b c d)) (α:=Unit) (K:=λ_=>True) (LO:=λ_=>(AU b3 157 (Jp (CB ts E))::AU b2 49 (Ba E)::AU b1 30 (Ca x)::AC x.a.p (rowsL Ad ps)::AC x.c.p (rowsL Af ss)::rowW x.b.p 105 3 ts.length tc (rowsL Am (MT ps ts E.a E.b p q c d))::LR)) (AM O) (ER (args:=[(aG (Jp (CB ts E))),(aG (Ca x))]) (caps:=[]) (all:=[(aG (Jp (CB ts E))),(aG (Ca x))]) O O O call84) (List.Perm.append_right LR (Dc (L:=[AU b3 157 (Jp (CB ts E)),AU b2 49 (Ba E),AU b1 30 (Ca x),AC x.a.p (rowsL Ad ps),AC x.c.p (rowsL Af ss),rowW x.b.p 105 3 ts.length tc (rowsL Am ts)]) (L':=[rowW x.b.p 105 3 ts.length tc (rowsL Am ts),AC x.a.p (rowsL Ad ps),AU b3 157 (Jp (CB ts E)),AU b2 49 (Ba E),AU b1 30 (Ca x),AC x.c.p (rowsL Af ss)]) [5,3,0,1,2,4] (show List.Perm [5,3,0,1,2,4] (List.range 6) by decide) O)) (λw hw=>(by have h9:=Nv ps ts E.a E.b p q c d h2.sc.a h2.sc.b h2.sc.c h2.sd.c h2.pl h2.ql hN htl hz x.a.p x.b.p x.c.p x.a.c tc x.b.c ss.length x.c.c ho1 x.b.ok x.a.ok w hw;rw [<-e9] at h9;exact h9.mono λe w' ⟨h1,t,h3,h4⟩=>⟨h1,t,h3,h4.perm (List.Perm.append_right LR (Dc (L:=[rowW x.b.p 105 3 ts.length tc (rowsL Am (MT ps ts E.a E.b p q c d)),AC x.a.p (rowsL Ad ps),AU b3 157 (Jp (CB ts E)),AU b2 49 (Ba E),AU b1 30 (Ca x),AC x.c.p (rowsL Af ss)]) (L':=[AU b3 157 (Jp (CB ts E)),AU b2 49 (Ba E),AU b1 30 (Ca x),AC x.a.p (rowsL Ad ps),AC x.c.p (rowsL Af ss),rowW x.b.p 105 3 ts.length tc (rowsL Am (MT ps ts E.a E.b p q c d))]) [2,3,4,1,5,0] (show List.Perm [2,3,4,1,5,0] (List.range 6) by decide) O))⟩)) (λd hd=>by cases hd<;>exact (leB O)) λ_ _=>asg' O (oNl' (zF (sL [1,8,9,10,4,5,2] O) (zC (zH (zU ?_))))))))))
   exact zI (zr (zU (zI (ret_one O (rd_tmp (v:=(qa (F_ ps E.a E.b c d))) O) (λw hw=>⟨by rw [(aS hfin hE h2).1],(),trivial,by rw [(aS hfin hE h2).2];exact (hw.weak (sl (sl (sl sr)))).perm (List.perm_middle (l₁:=[x.a.row,x.c.row]) (l₂:=LR))⟩)))))
  ·simp only [jK] at hc1
   have hok:Ew ps ts E=true:=by have h9:=SV ps ts E;cases hb:Cm E with|false=>rw [<-h9,hb];rfl|true=>simpa [hb] using hc1
   exact zJ (zP (zC (zQ (st' (AV (c:=((i+1:Nat):Int)) O O (AY (a:=i) (b:=1) Z)) O (AJ O (oNl' (zF (sL [1,8,9,10,4,5] O) (zm (i+1) (⟨Z,he.trans (Ts Z (by rw [<-hE];exact hok))⟩) Z (sF O) (sl (sl sr))))))))))
 ·replace hc0:=xQ hc0
  have hfin:=he.trans (Wl hc0)
  exact zY (zR (zh (zV (q1 (xJ (A:=[AU b1 30 (Ca x),AC x.a.p (rowsL Ad ps),AC x.c.p (rowsL Af ss)]) (B:=LR) (p:=x.b.p) (T:=105) (z:=3) (m:=ts.length) (cp:=tc) (cs:=rowsL Am ts) (sl (sk (sk (sl sr)))) hnb2 (by intro y hy;simp only [xy,List.not_mem_nil,or_false] at hy;rcases hy with rfl|rfl|rfl;exact .inl rfl;exact .inr hda;exact .inr hdc) hdL (zQ (asg' O (oNl' (zC (zH (ret_one O (rd_tmp (v:=(qa false)) O) (λw hw=>⟨by rw [(aT hfin).1],(),trivial,by rw [(aT hfin).2];exact (hw.weak (sl sr)).perm (List.perm_middle (l₁:=[x.a.row,x.c.row]) (l₂:=LR))⟩))))))))))))
theorem Wo {ps:List Pt} {ts:List T3} {ss:List Z3} (x:MN ps ts ss) (tc:Nat) (hnb:Bn ps.length ts=true) (htl:ts.length<=1000000) (hN:ps.length<=1000000) (hz:∀i,BV (BQ ps i)<=200000) (ho1:OwnOk x.b.p ts.length tc) (w:World) {w0:BA} {LR:List As} (he0:w0.ex=none) (ha:∀b,x.a.p.map (·.block)=some b->w0.w.heap.size<=b) (hc:∀b,x.c.p.map (·.block)=some b->w0.w.heap.size<=b) (hW:BE w0 w (rowW x.b.p 105 3 ts.length tc (rowsL Am ts)::AC x.a.p (rowsL Ad ps)::AC x.c.p (rowsL Af ss)::LR)):Calls prog 129 #[(aG (Ca x))] w (λe w'=>e=.returned (qa (ID ps ts))/\∃u:Unit,True/\BE w0 w' (rowW x.b.p 105 3 ts.length tc (rowsL Am (Fl ps ts))::AC x.a.p (rowsL Ad ps)::AC x.c.p (rowsL Af ss)::LR)):=by
 obtain ⟨h1,h2,h3⟩:=hW.frz2 ho1 (Al A8 _) he0
 exact ZI x tc hnb htl hN hz ho1 w h2 (h3 _ List.mem_cons_self) (h3 _ (List.mem_cons_of_mem _ List.mem_cons_self)) (λy hy=>.inr (h3 y (List.mem_cons_of_mem _ (List.mem_cons_of_mem _ hy)))) (S:=λ_=>False) (At.mn (At.new ha) (At.new h2) (At.new hc)) (h1.perm (List.Perm.append_right LR (Dc (L:=[AC x.b.p (rowsL Am ts),JV x.b.p 105 3 ts.length tc (rowsL Am ts),x.a.row,x.c.row]) (L':=[x.a.row,AC x.b.p (rowsL Am ts),x.c.row,JV x.b.p 105 3 ts.length tc (rowsL Am ts)]) [2,0,3,1] (show List.Perm [2,0,3,1] (List.range 4) by decide) O)))
end
section
set_option maxRecDepth 100000
theorem Pa {ps:List Pt} {us:List T3} {ss:List Z3} (pa tp pc:Option Addr) (ka tk kc tc n:Nat) (okA:Ao pa ps.length ka) (okB:Ao tp n tk) (okC:Ao pc ss.length kc) (hn:us.length=n) (hnb:Bn ps.length us=true) (htl:n<=1000000) (hN:ps.length<=1000000) (hz:∀i,BV (BQ ps i)<=200000) (ho1:OwnOk tp n tc) (w:World) {w0:BA} {LR:List As} (he0:w0.ex=none) (ha:∀b,pa.map (·.block)=some b->w0.w.heap.size<=b) (hc:∀b,pc.map (·.block)=some b->w0.w.heap.size<=b) (hW:BE w0 w (rowW tp 105 3 n tc (rowsL Am us)::AC pa (rowsL Ad ps)::AC pc (rowsL Af ss)::LR)) :
  Calls prog 129 #[aG [.slice pa ps.length ka,.slice tp n tk,.slice pc ss.length kc]] w (λe w'=>e=.returned (qa (ID ps us))/\∃u:Unit,True/\BE w0 w' (rowW tp 105 3 n tc (rowsL Am (Fl ps us))::AC pa (rowsL Ad ps)::AC pc (rowsL Af ss)::LR)):=by
 subst hn
 exact Wo (⟨⟨pa,ka,okA⟩,⟨tp,tk,okB⟩,⟨pc,kc,okC⟩⟩:MN ps us ss) tc hnb htl hN hz ho1 w he0 ha hc hW
set_option maxHeartbeats 1000000 in
theorem YI {ps:List Pt} {ts:List T3} {ss:List Z3} (x:MN ps ts ss) (hnb:Bn ps.length ts=true) (htl:ts.length<=1000000) (hN:ps.length<=1000000) (hsl:ss.length<=1000000) (hz:∀i,BV (BQ ps i)<=200000) (hC:∀(w:World) (S:Nat->Prop),Ro S w x->Calls prog 128 #[(aG (Ca x))] w (AX w (vN 0))) (h1v:ID ps ts=true) (h2:ID ps (Fl ps ts)=false) (hnb2:Bn ps.length (Fl ps ts)=true) (w:World) {S:Nat->Prop} (hx:Ro S w x):Calls prog 76 #[(aG (Ca x))] w (Ai (dG ps (Fl ps ts) ss 1 0) S w):=by
 have lx:=Bq (W:=w) hx
 refine AR (args:=[(aG (Ca x))]) (L:=[AC x.a.p (rowsL Ad ps),AC x.b.p (rowsL Am ts),AC x.c.p (rowsL Af ss)]) func76 O O (leB O) (C7 hx Ae) (zM (sL [0] O) (q4 (BG (cs:=Ca x) O λb1=>al Hw O λb2=>asg' O (asg' O (q6 (sL [1,2,3,4] O) (q4 (An 1 Bu O (Bx call128 (λw hw=>hC w _ (inS hw 2 O lx)) O (asg' O ?_)))))))))
 refine q3 (sL [1,2,3,4] O) (AJ O (st' (Bf (c:=false) O O jY) O (oNl' (zF (sL [1,2,3,4,8] O) (zC (zX O (zJ (q2 (An 1 Bu O (yR (S:=S) (V:=λa:aB ps ts ss=>aG (c9 a)) (LW:=c_) (args:=[(aG (Ca x))]) call35 (λw hw=>IS x Z Z Z w (inS hw 2 O lx)) O λcp hcp=>Gt O sizeOf30 O ?_))))))))))
 refine q6 (sL [1,2,3,4] O) (zN (yG 2 (zk (zf (q4 (An 3 Bu O (yJ 2 O cp.a.ok (Al Az _) O O λhn_cp_a=>yJ 0 O cp.c.ok (Al BF _) O O λhn_cp_c=>yq (v:=qa true) (α:=Unit) (K:=λ_=>True) (LO:=λ_=>[AC cp.c.p (rowsL Af ss),rowW cp.b.p 105 3 ts.length cp.b.c (rowsL Am (Fl ps ts)),AC cp.a.p (rowsL Ad ps),AU b2 30 ([(qz cp.a.p ps.length ps.length),(qz cp.b.p ts.length ts.length),(qz cp.c.p ss.length ss.length)]),AU b1 30 (Ca x),AC x.a.p (rowsL Ad ps),AC x.b.p (rowsL Am ts),AC x.c.p (rowsL Af ss)]) (AM O) (ER (args:=[(aG ([(qz cp.a.p ps.length ps.length),(qz cp.b.p ts.length ts.length),(qz cp.c.p ss.length ss.length)]))]) (caps:=[]) (all:=[(aG ([(qz cp.a.p ps.length ps.length),(qz cp.b.p ts.length ts.length),(qz cp.c.p ss.length ss.length)]))]) O O O call129) (Dc [1,2,0,3,4,5,6,7] (show List.Perm [1,2,0,3,4,5,6,7] (List.range 8) by decide) O) (λw hw=>(Pa (us:=ts) cp.a.p cp.b.p cp.c.p ps.length ts.length ss.length cp.b.c ts.length cp.a.ok.clip cp.b.ok.clip cp.c.ok.clip O hnb htl hN hz cp.b.ok w O hn_cp_a hn_cp_c (LR:=[AU b2 30 ([(qz cp.a.p ps.length ps.length),(qz cp.b.p ts.length ts.length),(qz cp.c.p ss.length ss.length)]),AU b1 30 (Ca x),AC x.a.p (rowsL Ad ps),AC x.b.p (rowsL Am ts),AC x.c.p (rowsL Af ss)]) hw).mono λe w' ⟨h1,t,h3,h4⟩=>(by  exact ⟨by rw [h1,h1v],t,h3,h4.perm (Dc [2,0,1,3,4,5,6,7] (show List.Perm [2,0,1,3,4,5,6,7] (List.range 8) by decide) O)⟩)) (λd hd=>by cases hd<;>exact (leB O)) λ_ _=>oNl' (zF (sL [1,2,3,4,14] O) ?_))))))))
 refine zC (zZ O (zJ (zC (zN (zQ (AJ O (st' (AV (c:=(1:Int)) O O jY) O (asg' O (oNl' (zF (sL [1,2,3,4] O) (zP ?_)))))))))))
 refine zu (zk (zf (q4 (An 3 Bu O (yq (v:=qa false) (α:=Unit) (K:=λ_=>True) (LO:=λ_=>[AC cp.c.p (rowsL Af ss),rowW cp.b.p 105 3 ts.length cp.b.c (rowsL Am (Fl ps ts)),AC cp.a.p (rowsL Ad ps),AU b2 30 ([(qz cp.a.p ps.length ps.length),(qz cp.b.p ts.length ts.length),(qz cp.c.p ss.length ss.length)]),AU b1 30 (Ca x),AC x.a.p (rowsL Ad ps),AC x.b.p (rowsL Am ts),AC x.c.p (rowsL Af ss)]) (AM O) (ER (args:=[(aG ([(qz cp.a.p ps.length ps.length),(qz cp.b.p ts.length ts.length),(qz cp.c.p ss.length ss.length)]))]) (caps:=[]) (all:=[(aG ([(qz cp.a.p ps.length ps.length),(qz cp.b.p ts.length ts.length),(qz cp.c.p ss.length ss.length)]))]) O O O call129) (Dc [1,2,0,3,4,5,6,7] (show List.Perm [1,2,0,3,4,5,6,7] (List.range 8) by decide) O) (λw hw=>(Pa (us:=(Fl ps ts)) cp.a.p cp.b.p cp.c.p ps.length ts.length ss.length cp.b.c ts.length cp.a.ok.clip cp.b.ok.clip cp.c.ok.clip Ij hnb2 htl hN hz cp.b.ok w O hn_cp_a hn_cp_c (LR:=[AU b2 30 ([(qz cp.a.p ps.length ps.length),(qz cp.b.p ts.length ts.length),(qz cp.c.p ss.length ss.length)]),AU b1 30 (Ca x),AC x.a.p (rowsL Ad ps),AC x.b.p (rowsL Am ts),AC x.c.p (rowsL Af ss)]) hw).mono λe w' ⟨h1,t,h3,h4⟩=>(by rw [Wn h2] at h4;exact ⟨by rw [h1,h2],t,h3,h4.perm (Dc [2,0,1,3,4,5,6,7] (show List.Perm [2,0,1,3,4,5,6,7] (List.range 8) by decide) O)⟩)) (λd hd=>by cases hd<;>exact (leB O)) λ_ _=>oNl' (zF (sL [1,2,3,4,14] O) (zC (zX O (zY (zR ?_))))))))))
 refine zR (zV (q2 (An 3 Bu O (AJ O (yJ 1 O cp.b.ok (by rw [Al A8,Ij]) O O λhn_cp_b=>Gt O sizeOf30 O (asg' O (asg' O (oNl' (zF (sL [1,2,3,4] O) (zC ?_))))))))))
 exact zH (FL O (Ah (i:=3) (cs:=[(qz cp.a.p ps.length ps.length),(qz cp.b.p ts.length ts.length),(qz cp.c.p ss.length ss.length)]) O O isAgg30 sizeOf30 O) (rd_tmp (v:=(vI 1)) O) (rd_tmp (v:=(vI 0)) O) (λw hw=>(DR hw (a:=(⟨(⟨⟨cp.a.p,ps.length,cp.a.ok.clip⟩,⟨cp.b.p,ts.length,(Ij (ps:=ps) (ts:=ts)).symm▸cp.b.ok.clip⟩,⟨cp.c.p,ss.length,cp.c.ok.clip⟩⟩:MN ps (Fl ps ts) ss)⟩:dG ps (Fl ps ts) ss 1 0)) (WF hw [2,1,0] O (At.mn (At.new hn_cp_a) (At.new hn_cp_b) (At.new hn_cp_c))) (by show _=Value.tuple #[aG [.slice cp.a.p ps.length ps.length,.slice cp.b.p (Fl ps ts).length ts.length,.slice cp.c.p ss.length ss.length],vN 1,vN 0];rw [Ij];rfl))))
end
section
set_option maxRecDepth 100000
theorem NC (p q:Pt) (hp:BV p<=1000) (hq:BV q<=1000) (w:World)  :Calls prog 223 #[(aG (Ad p)),(aG (Ad q))] w (AX w (qa (decide (WZ p q)))):=by
 have y1:=Cp p
 have y2:=Cp q
 have y3:=Cq p
 have y4:=Cq q
 refine AS (args:=[(aG (Ad p)),(aG (Ad q))]) func223 O O (leB O) (zM (sL [0,1] O) (q4 (BG (cs:=Ad p) O λb1=>BG (cs:=Ad q) O λb2=>asg' O (q6 (sL [2,3,4] O) (q4 (st' (v:=(pP b1 0)) (AA O underlying99 O sizeOf77 O) O (C9 1 (AG p.x) Bj O (st' (v:=(pP b2 0)) (AA O underlying99 O sizeOf77 O) O (C9 0 (AG q.x) Bj O ?_)))))))))
 refine ck' call72 (SJ p.x q.x Z) O (asg' O (q3 (sL [2,3,4,5] O) (AJ O (st' (Bf (c:=(decide ((E5 p.x q.x)≠(0:Int)))) O O O) O (oNl' (zF (sL [2,3,4,5,12] O) (zC ?_)))))))
 refine zO O (λhc0=>?_) (λhc0=>?_)
 ·replace hc0:=xR hc0
  exact q4 (AJ O (st' (AW (c:=(decide ((E5 p.x q.x)<(0:Int)))) O O O) O (asg' O (oNl' (zF (sL [2,3,4,5] O) (zC (zH (zI (ret_one O (rd_tmp (v:=(qa (decide ((E5 p.x q.x)<(0:Int))))) O) (λw hw=>⟨by rw [bX hc0],hw.out⟩))))))))))
 ·replace hc0:=xQ hc0
  refine zJ (q2 (st' (v:=(pP b1 5)) (AA O underlying99 O sizeOf77 O) O (C9 1 (AG p.y) Bj O (st' (v:=(pP b2 5)) (AA O underlying99 O sizeOf77 O) O (C9 0 (AG q.y) Bj O (ck' call72 (SJ p.y q.y Z) O (st' (AW (c:=(decide ((E5 p.y q.y)<(0:Int)))) O O O) O (asg' O (oNl' (zF (sL [2,3,4,5] O) (zC ?_)))))))))))
  exact zH (ret_one O (rd_tmp (v:=(qa (decide ((E5 p.y q.y)<(0:Int))))) O) (λw hw=>⟨by rw [bY (Decidable.not_not.1 hc0)],hw.out⟩))
end
end Go.Proofs.YtpolhpjiahbidaaGreatDoor
