import Derived.Test.YtpolhpjiahbidaaGreatDoorPart20
import Derived.Test.YtpolhpjiahbidaaGreatDoorPart24
namespace Go.Proofs.YtpolhpjiahbidaaGreatDoor
open Go Go.RowKit Go.Proofs.Tryz
open Go.Value renaming slice→qw,bool→qa
set_option linter.unusedVariables false
set_option linter.unusedSimpArgs false
section
set_option maxRecDepth 100000
theorem Xl:ElemT prog 47 50 4 32:=⟨underlying47,D9 jV⟩
theorem L0 (x0:EZ):Instr.fill (λi=>some (i*4,4)) ((Array.range (1*4)).map ((Value.agg (De Hk).toArray).cells[·%(Value.agg (De Hk).toArray).cells.size]!)) [(0,.agg (De x0).toArray)]=some (De x0).toArray:=by kernel_rfl
set_option maxHeartbeats 8000000 in
theorem RT {ps:List Pt} {zt ss:List Z3} (es:List EZ) (o:RX (rowsL De es) es.length) (us:List Z3) (y:RX (rowsL AS us) us.length) (x:GK ps zt ss) (hz:∀i,i<ps.length->DU (ps.getD i ⟨0,0⟩)<=1000) (hp:ps.length+es.length<=4096) (hul:us.length<=1000000) (hsl:ss.length<=1000000) (w:World) {S:Nat->Prop} (ho:Ro S w o) (hy:Ro S w y) (hx:Ro S w x):Calls prog 17 #[(aG (Cn x)),(qw o.p es.length o.c),(qw y.p us.length y.c)] w (Ad (GK (IP ps (E6 ps.length es es.length)) us (Fj ps.length ss (E6 ps.length es es.length) us)) S w):=by
 have hxl:x.rs.length=ps.length:=x.len
 have hzp:∀i,i<ps.length->DU (x.rs.getD i BU).p<=1000:=λi hi=>by rw [x.at Z];exact hz i hi
 have lo:=Bx (W:=w) ho
 have ly:=Bx (W:=w) hy
 have lx:=Bx (W:=w) hx
 refine AX (args:=[(aG (Cn x)),(qw o.p es.length o.c),(qw y.p us.length y.c)]) (L:=(AB o.p (rowsL De es)::AB y.p (rowsL AS us)::AB x.a.p (rowsL BK x.rs)::AB x.b.p (rowsL AS zt)::AB x.c.p (rowsL AS ss)::Bi x.rs)) func17 O O (Av O) (DF ho (DF hy (bW hx))) (zN (sL [0,1,2] O) (q4 (Bb (cs:=Cn x) O λb1=>al JK O λb2=>q3 (sL [1,2,3,6] O) (AG (v:=(pP b1 0)) (AA O underlying39 O sizeOf36 O) O (Az 1 (qw x.a.p x.rs.length x.a.c) Ez O (zf 121 6 (zy X2 O OwnOk.none O (JV (k:=5) O x.a.ok) (AV B0 _) (Cu S4 _) (FD Z) Z O λpps cps ops=>AM O (zf 105 3 ?_))))))))
 refine zy I3 O OwnOk.none O (JV (k:=5) O y.ok) (AV A7 _) (Cu Fm _) (FD Z) Z O λptb ctb otb=>AG (v:=(aG ([(qw pps x.rs.length cps),(qw ptb us.length ctb),jj]))) (AT (zs:=[jj,jj,jj]) (vs:=[(qw pps x.rs.length cps),(qw ptb us.length ctb),jj]) (pv:=[(0,(qw pps x.rs.length cps)),(1,(qw ptb us.length ctb))]) (places:=[(0,1),(1,1),(2,1)]) zeroValue39 underlying39 (λw=>by simp [sizeOf23,sizeOf36,sizeOf37]) O O) O (al JK O λb3=>Ax O sizeOf39 O (q3 (sL [1,3,6,7] O) (asg' O (zf 50 4 (oNl' (q1 (q4 (asg' O (oNl' ?_)))))))))
 refine zA (zI ?_)
 refine OkC.lp7 (tg λ(i:Nat) (qs:List RP) (p1:Option Addr) (c1:Nat) (p2:Option Addr) (c2:Nat) (zz:Nat)=>i<=es.length/\OwnOk p1 (Bn x.rs qs).length c1/\OwnOk p2 (DT ps.length es i).length c2/\(Bn x.rs qs).map (·.p)=IP ps (E6 ps.length es i)/\∀y∈Bi (Bn x.rs qs),∀b,y.foot=some b->Nw ⟨w,none⟩ S b) (tg λ(i:Nat) (qs:List RP) (p1:Option Addr) (c1:Nat) (p2:Option Addr) (c2:Nat) (zz:Nat)=>[(1,(qw o.p es.length o.c)),(3,(pP b1 0)),(6,(pP b2 0)),(7,(pP b3 0)),(9,(vN i)),(8,(qw p2 ((DT ps.length es i).length) c2))]) (tg λ(i:Nat) (qs:List RP) (p1:Option Addr) (c1:Nat) (p2:Option Addr) (c2:Nat) (zz:Nat)=>(rowW p2 50 4 ((DT ps.length es i).length) c2 (rowsL De (DT ps.length es i))::AR b3 39 ([(qw p1 ((Bn x.rs qs).length) c1),(qw ptb us.length ctb),jj])::rowW ptb 105 3 us.length ctb (rowsL AS us)::rowW p1 121 6 ((Bn x.rs qs).length) c1 (rowsL BK (Bn x.rs qs))::AR b2 39 ([jj,jj,jj])::AR b1 39 (Cn x)::AB o.p (rowsL De es)::AB y.p (rowsL AS us)::AB x.a.p (rowsL BK x.rs)::AB x.b.p (rowsL AS zt)::AB x.c.p (rowsL AS ss)::Bi (Bn x.rs qs))) (tg λ(i:Nat) (qs:List RP) (p1:Option Addr) (c1:Nat) (p2:Option Addr) (c2:Nat) (zz:Nat)=>es.length-i) 0 ([]:List RP) pps cps none 0 0 (⟨xH _,ops,OwnOk.none,x.e,At.rpt lx⟩) (sF O) sr (λi qs p1 c1 p2 c2 zz hJ=>?_)
 obtain ⟨hi,h1,h2,hmp,hat⟩:=hJ
 have hpe:=YQ (N:=ps.length) (es:=es) (i:=i)
 have hpv:=RC (N:=ps.length) (es:=es) (i:=i)
 have har:(Bn x.rs qs).length=ps.length+(E6 ps.length es i).length:=by have h9:=congrArg List.length hmp;rwa [xI,Hn] at h9
 refine zV (q4 (AM O (AM O (AG (v:=(vN es.length)) (AC O underlying47) O (AG (Ae (c:=(decide (i<es.length))) O O (CM (a:=i) (b:=es.length))) O (oNl' (zB (sL [1,3,6,7,9,8,24] O) (zA ?_))))))))
 refine zM O (λhc0=>?_) (λhc0=>?_)
 ·replace hc0:=xR hc0
  obtain ⟨ed,hed⟩:∃q,q=es.getD i Hk:=⟨_,rfl⟩
  refine zG (q1 (zI (q4 (AM O (AM O (AG (v:=(pP (pB o.p) (pO o.p+i*4))) (AF (j:=i) O O o.ok underlying47 sizeOf50 O Z) O (AG (v:=(aG (De (es.getD i Hk)))) (AQ (vs:=De (es.getD i Hk)) (i:=6) O O (An.ne o.ok Z) WK (Al Fv _ _ _ Z) (Fv _)) O (zC (k:=30) (u:=(aG (De ed))) O (by rw [hed]) (al ak O λb4=>Ax O sizeOf50 O (q3 (sL [1,3,6,7,9,8,10] O) ?_))))))))))
  refine BD 6 Cp O (AG (v:=(pP b4 0)) (AA O underlying50 O sizeOf3 O) O (Az 0 (vI ed.1) BN O (Ct (args:=[(aG (Cn x)),(vI ed.1)]) (v:=(qa (Ay ps.length ed.1))) call57 (λw hw=>(by rw [<-hxl];exact Kp x.rq.ru ed.1 w (N1 (QS (QR (x:=x) hw 9 O (λz hz=>xG [AR b4 50 (De ed),rowW p2 50 4 ((DT ps.length es i).length) c2 (rowsL De (DT ps.length es i)),AR b3 39 ([(qw p1 ((Bn x.rs qs).length) c1),(qw ptb us.length ctb),jj]),rowW ptb 105 3 us.length ctb (rowsL AS us),rowW p1 121 6 ((Bn x.rs qs).length) c1 (rowsL BK (Bn x.rs qs)),AR b2 39 ([jj,jj,jj]),AR b1 39 (Cn x),AB o.p (rowsL De es),AB y.p (rowsL AS us),AB x.a.p (rowsL BK x.rs),AB x.b.p (rowsL AS zt),AB x.c.p (rowsL AS ss)] (GR hz))))))) O (AM O ?_))))
  refine zX (FM:=[(1,(qw o.p es.length o.c)),(3,(pP b1 0)),(6,(pP b2 0)),(7,(pP b3 0)),(9,(vN i)),(8,(qw p2 ((DT ps.length es i).length) c2)),(10,(pP b4 0)),(31,(aG (Cn x))),(32,(pP b4 0)),(33,(vI ed.1)),(34,(qa (Ay ps.length ed.1))),(35,(qa (Ay ps.length ed.1))),(40,(qa ((Ay ps.length ed.1)&&(Ay ps.length ed.2.1))))]) (LM:=(AR b4 50 (De ed)::rowW p2 50 4 ((DT ps.length es i).length) c2 (rowsL De (DT ps.length es i))::AR b3 39 ([(qw p1 ((Bn x.rs qs).length) c1),(qw ptb us.length ctb),jj])::rowW ptb 105 3 us.length ctb (rowsL AS us)::rowW p1 121 6 ((Bn x.rs qs).length) c1 (rowsL BK (Bn x.rs qs))::AR b2 39 ([jj,jj,jj])::AR b1 39 (Cn x)::AB o.p (rowsL De es)::AB y.p (rowsL AS us)::AB x.a.p (rowsL BK x.rs)::AB x.b.p (rowsL AS zt)::AB x.c.p (rowsL AS ss)::Bi (Bn x.rs qs))) 5 ?_ ?_
  ·rcases xO (Ay ps.length ed.1) with hg1|hg1
   ·refine zC (k:=35) (u:=qa true) O (by rw [hg1]) ?_
    have hg1':=hg1
    skip
    exact Au (v:=(aG (Cn x))) O (A_ (i:=6) (vs:=Cn x) O O Cp.a Cp.s O O) (Au (v:=(pP b4 1)) O (AA O underlying50 O sizeOf3 O) (Au (v:=(vI ed.2.1)) O (AE (i:=0) (v:=(vI ed.2.1)) O O BN.a O) (zd (v:=(qa (Ay ps.length ed.2.1))) (AH O) (Aw (args:=[(aG (Cn x)),(vI ed.2.1)]) O O call57) (λw hw=>(by rw [<-hxl];exact Kp x.rq.ru ed.2.1 w (N1 (QS (QR (x:=x) hw 9 O (λz hz=>xG [AR b4 50 (De ed),rowW p2 50 4 ((DT ps.length es i).length) c2 (rowsL De (DT ps.length es i)),AR b3 39 ([(qw p1 ((Bn x.rs qs).length) c1),(qw ptb us.length ctb),jj]),rowW ptb 105 3 us.length ctb (rowsL AS us),rowW p1 121 6 ((Bn x.rs qs).length) c1 (rowsL BK (Bn x.rs qs)),AR b2 39 ([jj,jj,jj]),AR b1 39 (Cn x),AB o.p (rowsL De es),AB y.p (rowsL AS us),AB x.a.p (rowsL BK x.rs),AB x.b.p (rowsL AS zt),AB x.c.p (rowsL AS ss)] (GR hz))))))) O (Av O) (AG (v:=(qa (Ay ps.length ed.2.1))) (AN O O) O (oNl' (zR Bg (xP _)))))))
   ·refine zC (k:=35) (u:=qa false) O (by rw [hg1]) ?_
    have hg1':=hg1
    skip
    exact Ar O (Ar O (Ar O (Ar O (AG (v:=(qa false)) (AI O O) O (oNl' (zR Bg (xP _)))))))
  refine oNl' (zB (sL [1,3,6,7,9,8,10,40] O) (zA ?_))
  refine zM O (λhc1=>?_) (λhc1=>?_)
  ·simp only [jK] at hc1
   have hok1:HF ps.length (es.getD i Hk)=true:=by rw [<-hed];unfold HF;simp [hc1.1,hc1.2]
   obtain ⟨ea,eb,el,er,hE,hea,heb⟩:∃(ea eb:Nat) (el er:Int),ed=((ea:Int),(eb:Int),el,er)/\ea<ps.length/\eb<ps.length:=⟨ed.1.toNat,ed.2.1.toNat,ed.2.2.1,ed.2.2.2,Prod.ext (CI (by simpa using hc1.1)).1.symm (Prod.ext (CI (by simpa using hc1.2)).1.symm rfl),(CI (by simpa using hc1.1)).2,(CI (by simpa using hc1.2)).2⟩
   have hed2:Tf (es.getD i Hk)=(ea,eb):=by rw [<-hed,hE];rfl
   rw [show De ed=[vN ea,vN eb,vI el,vI er] by rw [hE];rfl]
   have hmid:CE ((x.rs.getD ea BU).p+(x.rs.getD eb BU).p) (1/2)=Jr ps (ea,eb):=by rw [x.at Z,x.at Z];rfl
   refine zV (rC [(0,true),(1,true),(2,true),(3,true),(4,true),(5,true),(6,true),(7,true),(8,true),(9,true),(10,true),(11,true),(12,true),(13,true),(14,false),(15,false),(16,false),(17,true)] 18 [] (sk (sk (sk (sk (sl sr))))) (sk (sk (sl sr))) jV (λ_ _ d _ _ h=>by cases d<;>exact h) (vE (v:=(pP b3 0)) O (AA O underlying39 O sizeOf36 O) O (vE O (AE (i:=2) (v:=(qw p1 ((Bn x.rs qs).length) c1)) O O Ez.a O) O (vE (v:=(pP b1 0)) O (AA O underlying39 O sizeOf36 O) O (vE O (AE (i:=5) (v:=(qw x.a.p x.rs.length x.a.c)) O O Ez.a O) O (vE (v:=(pP b4 0)) O (AA O underlying50 O sizeOf3 O) O (vE O (AE (i:=0) (v:=(vN ea)) O O BN.a O) O (vE (v:=(pP (pB x.a.p) (pO x.a.p+ea*6))) O (AF (j:=ea) O O x.a.ok underlying36 sizeOf121 O Z) O (vE (v:=(aG (C2 ((x.rs.getD ea BU).x)))) O (AQ (vs:=C2 ((x.rs.getD ea BU).x)) (i:=8) O O (An.ne x.a.ok Z) FE (Al B0 BU _ _ Z) (B0 _)) O (vE (v:=(pP b1 0)) O (AA O underlying39 O sizeOf36 O) O (vE O (AE (i:=5) (v:=(qw x.a.p x.rs.length x.a.c)) O O Ez.a O) O ?_)))))))))))
   refine vE (v:=(pP b4 1)) O (AA O underlying50 O sizeOf3 O) O (vE O (AE (i:=0) (v:=(vN eb)) O O BN.a O) O (vE (v:=(pP (pB x.a.p) (pO x.a.p+eb*6))) O (AF (j:=eb) O O x.a.ok underlying36 sizeOf121 O Z) O (vE (v:=(aG (C2 ((x.rs.getD eb BU).x)))) O (AQ (vs:=C2 ((x.rs.getD eb BU).x)) (i:=8) O O (An.ne x.a.ok Z) FE (Al B0 BU _ _ Z) (B0 _)) O (zp O ?_))))
   have hza:=hzp ea hea
   have hzb:=hzp eb heb
   refine cP (S:=S) (x:=(CE ((x.rs.getD ea BU).p+(x.rs.getD eb BU).p) (1/2))) (args:=[(aG (C2 ((x.rs.getD ea BU).x))),(aG (C2 ((x.rs.getD eb BU).x)))]) call58 (λw hw=>Vm ((x.rs.getD ea BU).x) ((x.rs.getD eb BU).x) Z w (Oi (S:=S) (L:=(AR b4 50 ([(vN ea),(vN eb),(vI el),(vI er)])::rowW p2 50 4 ((DT ps.length es i).length) c2 (rowsL De (DT ps.length es i))::AR b3 39 ([(qw p1 ((Bn x.rs qs).length) c1),(qw ptb us.length ctb),jj])::rowW ptb 105 3 us.length ctb (rowsL AS us)::rowW p1 121 6 ((Bn x.rs qs).length) c1 (rowsL BK (Bn x.rs qs))::AR b2 39 ([jj,jj,jj])::AR b1 39 (Cn x)::AB o.p (rowsL De es)::AB y.p (rowsL AS us)::AB x.a.p (rowsL BK x.rs)::AB x.b.p (rowsL AS zt)::AB x.c.p (rowsL AS ss)::Bi (Bn x.rs qs))) (rs:=x.rs) hw (λz hz=>xG [AR b4 50 ([(vN ea),(vN eb),(vI el),(vI er)]),rowW p2 50 4 ((DT ps.length es i).length) c2 (rowsL De (DT ps.length es i)),AR b3 39 ([(qw p1 ((Bn x.rs qs).length) c1),(qw ptb us.length ctb),jj]),rowW ptb 105 3 us.length ctb (rowsL AS us),rowW p1 121 6 ((Bn x.rs qs).length) c1 (rowsL BK (Bn x.rs qs)),AR b2 39 ([jj,jj,jj]),AR b1 39 (Cn x),AB o.p (rowsL De es),AB y.p (rowsL AS us),AB x.a.p (rowsL BK x.rs),AB x.b.p (rowsL AS zt),AB x.c.p (rowsL AS ss)] (GR hz)) Z (At.rpt lx)) (Oi (S:=S) (L:=(AR b4 50 ([(vN ea),(vN eb),(vI el),(vI er)])::rowW p2 50 4 ((DT ps.length es i).length) c2 (rowsL De (DT ps.length es i))::AR b3 39 ([(qw p1 ((Bn x.rs qs).length) c1),(qw ptb us.length ctb),jj])::rowW ptb 105 3 us.length ctb (rowsL AS us)::rowW p1 121 6 ((Bn x.rs qs).length) c1 (rowsL BK (Bn x.rs qs))::AR b2 39 ([jj,jj,jj])::AR b1 39 (Cn x)::AB o.p (rowsL De es)::AB y.p (rowsL AS us)::AB x.a.p (rowsL BK x.rs)::AB x.b.p (rowsL AS zt)::AB x.c.p (rowsL AS ss)::Bi (Bn x.rs qs))) (rs:=x.rs) hw (λz hz=>xG [AR b4 50 ([(vN ea),(vN eb),(vI el),(vI er)]),rowW p2 50 4 ((DT ps.length es i).length) c2 (rowsL De (DT ps.length es i)),AR b3 39 ([(qw p1 ((Bn x.rs qs).length) c1),(qw ptb us.length ctb),jj]),rowW ptb 105 3 us.length ctb (rowsL AS us),rowW p1 121 6 ((Bn x.rs qs).length) c1 (rowsL BK (Bn x.rs qs)),AR b2 39 ([jj,jj,jj]),AR b1 39 (Cn x),AB o.p (rowsL De es),AB y.p (rowsL AS us),AB x.a.p (rowsL BK x.rs),AB x.b.p (rowsL AS zt),AB x.c.p (rowsL AS ss)] (GR hz)) Z (At.rpt lx))) O O O λg1 lg1=>zj (sl (sl (sl (sl (sk (sk (sk (sk (sl sr))))))))) (zp O (zZ (V:=λb5=>(qw (jk b5) 1 1)) (T:=121) (cs:=C2 g1) (AJ O) (Af (z:=.agg #[(qa false),jj,jj,(qa false),jj,jj]) (cs:=C2 g1) (pv:=[(0,(aG (C2 g1)))]) underlying36 sizeOf121 zeroValue121 jY jY O (VN g1)) O (Av O) λb5=>zj (sl (sl (sl (sl (sl (sk (sk (sk (sk (sl sr)))))))))) (zp O (zh 9 (j:=0) (cs2:=rowsL BK ((Bn x.rs qs)++[(⟨_,g1⟩:RP)])) X2 O h1 (AV B0 _) O O O O O jY (FD Z) Z (by rw [BI];rfl) O λp_1 c_1 ho_1 hne_1=>zj (sl (sl (sl (sl (sl (sk (sk (sk (sk (sl sr)))))))))) (vE (v:=(pP b3 0)) O (AA O underlying39 O sizeOf36 O) O (yC O (Ek 7 (off:=0) (vs:=[(qw p_1 (((Bn x.rs qs).length)+1) c_1)]) (cs':=[(qw p_1 (((Bn x.rs qs).length)+1) c_1),(qw ptb us.length ctb),jj]) (AJ O) O sizeOf36 O (zD (sl (sl (sl (sl (sl (sk (sk (sl (sk (sl sr)))))))))) ?_))))))))
   refine zT (zB (sL [1,3,6,7,9,8,10] O) (zA (zH (AM O (xF (sl sr) (yM (show List.Perm _ (AR b4 50 ([(vN ea),(vN eb),(vI el),(vI er)])::rowW p2 50 4 ((DT ps.length es i).length) c2 (rowsL De (DT ps.length es i))::AR b3 39 ([(qw p_1 (((Bn x.rs qs).length)+1) c_1),(qw ptb us.length ctb),jj])::rowW ptb 105 3 us.length ctb (rowsL AS us)::rowW p_1 121 6 (((Bn x.rs qs).length)+1) c_1 (rowsL BK ((Bn x.rs qs)++[(⟨_,g1⟩:RP)]))::AR b2 39 ([jj,jj,jj])::AR b1 39 (Cn x)::AB o.p (rowsL De es)::AB y.p (rowsL AS us)::AB x.a.p (rowsL BK x.rs)::AB x.b.p (rowsL AS zt)::AB x.c.p (rowsL AS ss)::Bi (Bn x.rs qs++[(⟨_,g1⟩:RP)])) from VO (⟨_,g1⟩:RP) [AR b4 50 ([(vN ea),(vN eb),(vI el),(vI er)]),rowW p2 50 4 ((DT ps.length es i).length) c2 (rowsL De (DT ps.length es i)),AR b3 39 ([(qw p_1 (((Bn x.rs qs).length)+1) c_1),(qw ptb us.length ctb),jj]),rowW ptb 105 3 us.length ctb (rowsL AS us),rowW p_1 121 6 (((Bn x.rs qs).length)+1) c_1 (rowsL BK ((Bn x.rs qs)++[(⟨_,g1⟩:RP)])),AR b2 39 ([jj,jj,jj]),AR b1 39 (Cn x),AB o.p (rowsL De es),AB y.p (rowsL AS us),AB x.a.p (rowsL BK x.rs),AB x.b.p (rowsL AS zt),AB x.c.p (rowsL AS ss)] (Bn x.rs qs)) (BD 0 WK O (zZ (V:=λb6=>(qw (jk b6) 1 1)) (T:=50) (cs:=De ((((ea:Nat):Int),((eb:Nat):Int),el,er):EZ)) (AJ O) (Af (z:=.agg (De Hk).toArray) (cs:=De ((((ea:Nat):Int),((eb:Nat):Int),el,er):EZ)) (pv:=[(0,(aG ([(vN ea),(vN eb),(vI el),(vI er)])))]) underlying47 sizeOf50 zeroValue50 jY jY O (L0 ((((ea:Nat):Int),((eb:Nat):Int),el,er):EZ))) O (Av O) λb6=>yy (j:=0) (cs2:=rowsL De ((DT ps.length es i)++[((((ea:Nat):Int),((eb:Nat):Int),el,er):EZ)])) Xl O h2 (AV Fv _) O O O O jY (FD Z) Z (by rw [BI];rfl) O λp_2 c_2 ho_2 hne_2=>asg' O (oNl' ?_)))))))))
   refine zB (sL [1,3,6,7,9,8,10] O) (zJ (zA (zH (AM O (AG (AW (c:=((i+1:Nat):Int)) O O (AU (a:=i) (b:=1) Z)) O (asg' O (oNl' (zB (sL [1,3,6,7,9,8,10] O) ?_))))))))
   rw [Iu,show (Bn x.rs qs).length+1=(Bn x.rs (qs++[(⟨_,g1⟩:RP)])).length by rw [SB,SB,xJ];rfl,show (DT ps.length es i).length+1=(DT ps.length es (i+1)).length by rw [Nm Z hok1,xJ];rfl,show DT ps.length es i++[((((ea:Nat):Int),((eb:Nat):Int),el,er):EZ)]=DT ps.length es (i+1) by rw [Nm Z hok1,<-hed,hE]]
   exact y7 (i+1) (qs++[(⟨_,g1⟩:RP)]) p_1 c_1 p_2 c_2 0 (⟨Z,by rw [<-Iu];simpa using ho_1,by rw [Nm Z hok1,xJ];simpa using ho_2,by rw [<-Iu,List.map_append,hmp,SA Z hok1,hed2,<-P9];congr 1;exact congrArg (λz=>[z]) hmid,by rw [<-Iu];exact At.snoc hat lg1⟩) Z (sF O) (sl (sl sr))
  ·simp only [jK] at hc1
   have hok0:HF ps.length (es.getD i Hk)=false:=by rw [<-hed];unfold HF;rcases hc1 with h8|h8<;>simp [h8]
   refine zG (zJ (zA (zH (AM O (AG (AW (c:=((i+1:Nat):Int)) O O (AU (a:=i) (b:=1) Z)) O (asg' O (oNl' (zB (sL [1,3,6,7,9,8,10] O) ?_))))))))
   rw [show DT ps.length es i=DT ps.length es (i+1) from (Wn Z hok0).symm]
   exact y7 (i+1) qs p1 c1 p2 c2 0 (⟨Z,h1,by rw [Wn Z hok0];exact h2,by rw [Vx Z hok0];exact hmp,hat⟩) Z (sF O) (sl sr)
 ·replace hc0:=xQ hc0
  have hie:i=es.length:=by omega
  have hrzl:=LU (n:=(Bn x.rs qs).length) (us:=us)
  refine zU (zP (OkQ.round7_exit (zS (q2 (BD 1 Cp O (yH (S:=S) (V:=MO) (LW:=Oy (T:=119) (z:=3) (cs:=rowsL AS ((BM (Bn x.rs qs).length us).map Ba)) (n:=(BM (Bn x.rs qs).length us).length)) (args:=[(aG ([(qw p1 ((Bn x.rs qs).length) c1),(qw ptb us.length ctb),jj]))]) call59 (λw hw=>(Wd (S:=UH) (⟨rowsL BK (Bn x.rs qs),[],⟨p1,c1,h1.row⟩,⟨ptb,ctb,otb.row⟩,⟨none,0,OwnOk.none.row⟩⟩:RQ (Bn x.rs qs).length 0 us) Z Z w (dj (Ze hw 3 O h1 (AV B0 _)) (Ze hw 2 O otb (AV A7 _)) Z6)).mono λe w1 h=>h.any λa y hy=>by rcases xM.1 hy with rfl;rfl) O λsd hsd=>AG (v:=(pP b3 2)) (AA O underlying39 O sizeOf37 O) O (Ek 2 (off:=2) (vs:=[(qw sd.p ((BM (Bn x.rs qs).length us).length) sd.c)]) (cs':=[(qw p1 ((Bn x.rs qs).length) c1),(qw ptb us.length ctb),(qw sd.p ((BM (Bn x.rs qs).length us).length) sd.c)]) (AJ O) O sizeOf37 O (q6 (sL [1,3,6,7,9,8] O) (q4 (asg' O ?_))))))))))
  refine oNl' (zA (zI ?_))
  refine zo (tg λ(j:Nat)=>j<=(BM (Bn x.rs qs).length us).length) (tg λ(j:Nat)=>[(3,(pP b1 0)),(6,(pP b2 0)),(7,(pP b3 0)),(8,(qw p2 ((DT ps.length es i).length) c2)),(11,(vN j))]) (tg λ(j:Nat)=>(rowW sd.p 119 3 ((BM (Bn x.rs qs).length us).length) sd.c (rowsL AS (Ej (D7 ps.length ss (E6 ps.length es i)) (BM (Bn x.rs qs).length us) j))::rowW p2 50 4 ((DT ps.length es i).length) c2 (rowsL De (DT ps.length es i))::AR b3 39 ([(qw p1 ((Bn x.rs qs).length) c1),(qw ptb us.length ctb),(qw sd.p ((BM (Bn x.rs qs).length us).length) sd.c)])::rowW ptb 105 3 us.length ctb (rowsL AS us)::rowW p1 121 6 ((Bn x.rs qs).length) c1 (rowsL BK (Bn x.rs qs))::AR b2 39 ([jj,jj,jj])::AR b1 39 (Cn x)::AB o.p (rowsL De es)::AB y.p (rowsL AS us)::AB x.a.p (rowsL BK x.rs)::AB x.b.p (rowsL AS zt)::AB x.c.p (rowsL AS ss)::Bi (Bn x.rs qs))) (tg λ(j:Nat)=>(BM (Bn x.rs qs).length us).length-j) 0 (xH _) (sF O) sr (λj hJ=>?_)
  have hj:=hJ
  refine zV (q4 (AM O (AG (v:=(pP b3 2)) (AA O underlying39 O sizeOf37 O) O (Az 2 (qw sd.p ((BM (Bn x.rs qs).length us).length) sd.c) HN O (AG (v:=(vN ((BM (Bn x.rs qs).length us).length))) (AC O underlying37) O (AG (Ae (c:=(decide (j<((BM (Bn x.rs qs).length us).length)))) O O (CM (a:=j) (b:=(BM (Bn x.rs qs).length us).length))) O (oNl' (zB (sL [3,6,7,8,11,70] O) (zA ?_)))))))))
  refine zM O (λhc2=>?_) (λhc2=>?_)
  ·replace hc2:=xR hc2
   obtain ⟨sq,hsq⟩:∃q,q=(BM (Bn x.rs qs).length us).getD j (0,0,0):=⟨_,rfl⟩
   have hml:(Ej (D7 ps.length ss (E6 ps.length es i)) (BM (Bn x.rs qs).length us) j).length=(BM (Bn x.rs qs).length us).length:=Fh
   obtain ⟨hs1,hs2⟩:=SG (show sq∈BM (Bn x.rs qs).length us from by rw [hsq,List.getD,xN hc2];exact List.getElem_mem hc2) Z
   refine zG (q1 (zI (q4 (AG (v:=(pP b3 2)) (AA O underlying39 O sizeOf37 O) O (Az 2 (qw sd.p ((BM (Bn x.rs qs).length us).length) sd.c) HN O (AM O (AG (v:=(pP (pB sd.p) (pO sd.p+j*3))) (AF (j:=j) O O sd.ok.row underlying37 sizeOf119 O Z) O (AG (v:=(pP (pB sd.p) (pO sd.p+(j*3+0)))) (AA O underlying119 O sizeOf3 (Nat.add_assoc _ _ _)) O (AG (CH (v:=(vI (((Ej (D7 ps.length ss (E6 ps.length es i)) (BM (Bn x.rs qs).length us) j).getD j ((0,0,0):Z3)).1))) (i:=0) O O sd.ok (by rw [AV A7,Fh]) (An.ne sd.ok.row Z) BN (BS A7 ((0,0,0):Z3) _ _ 0 Z jY O)) O (zC (k:=78) (u:=(vN sq.1)) O (by rw [L4 Z,<-hsq];rfl) (asg' O ?_)))))))))))
   refine q3 (sL [3,6,7,8,11,12] O) (AG (v:=(pP b3 2)) (AA O underlying39 O sizeOf37 O) O (Az 2 (qw sd.p ((BM (Bn x.rs qs).length us).length) sd.c) HN O (AM O (AG (v:=(pP (pB sd.p) (pO sd.p+j*3))) (AF (j:=j) O O sd.ok.row underlying37 sizeOf119 O Z) O (AG (v:=(pP (pB sd.p) (pO sd.p+(j*3+1)))) (AA O underlying119 O sizeOf3 (Nat.add_assoc _ _ _)) O (AG (CH (v:=(vI (((Ej (D7 ps.length ss (E6 ps.length es i)) (BM (Bn x.rs qs).length us) j).getD j ((0,0,0):Z3)).2.1))) (i:=0) O O sd.ok (by rw [AV A7,Fh]) (An.ne sd.ok.row Z) BN (BS A7 ((0,0,0):Z3) _ _ 1 Z jY O)) O (zC (k:=84) (u:=(vN sq.2.1)) O (by rw [L4 Z,<-hsq];rfl) (asg' O (q6 (sL [3,6,7,8,11,12,13] O) (q4 (AM O ?_)))))))))))
   refine AG (v:=(pP b1 0)) (AA O underlying39 O sizeOf36 O) O (Az 6 (qw x.a.p x.rs.length x.a.c) Ez O (AG (v:=(vN x.rs.length)) (AC O underlying36) O (AG (Bp (c:=(decide (x.rs.length<=sq.2.1))) O O (UT (a:=x.rs.length) (b:=sq.2.1))) O (AM O ?_))))
   refine zX (FM:=[(3,(pP b1 0)),(6,(pP b2 0)),(7,(pP b3 0)),(8,(qw p2 ((DT ps.length es i).length) c2)),(11,(vN j)),(12,(vN sq.1)),(13,(vN sq.2.1)),(85,(vN sq.2.1)),(86,(pP b1 0)),(87,(qw x.a.p x.rs.length x.a.c)),(88,(vN x.rs.length)),(89,(qa (decide (x.rs.length<=sq.2.1)))),(90,(qa (decide (x.rs.length<=sq.2.1)))),(99,(qa ((decide (x.rs.length<=sq.2.1))&&(decide ((sq.2.1-x.rs.length)<((DT ps.length es i).length))))))]) (LM:=(rowW sd.p 119 3 ((BM (Bn x.rs qs).length us).length) sd.c (rowsL AS (Ej (D7 ps.length ss (E6 ps.length es i)) (BM (Bn x.rs qs).length us) j))::rowW p2 50 4 ((DT ps.length es i).length) c2 (rowsL De (DT ps.length es i))::AR b3 39 ([(qw p1 ((Bn x.rs qs).length) c1),(qw ptb us.length ctb),(qw sd.p ((BM (Bn x.rs qs).length us).length) sd.c)])::rowW ptb 105 3 us.length ctb (rowsL AS us)::rowW p1 121 6 ((Bn x.rs qs).length) c1 (rowsL BK (Bn x.rs qs))::AR b2 39 ([jj,jj,jj])::AR b1 39 (Cn x)::AB o.p (rowsL De es)::AB y.p (rowsL AS us)::AB x.a.p (rowsL BK x.rs)::AB x.b.p (rowsL AS zt)::AB x.c.p (rowsL AS ss)::Bi (Bn x.rs qs))) 9 ?_ ?_
   ·rcases xO (decide (x.rs.length<=sq.2.1)) with hg2|hg2
    ·refine zC (k:=90) (u:=qa true) O (by rw [hg2]) ?_
     have hg2':=xR hg2
     exact Ds O (Au (v:=(pP b1 0)) O (AA O underlying39 O sizeOf36 O) (Au (v:=(qw x.a.p x.rs.length x.a.c)) O (AE (i:=6) (v:=(qw x.a.p x.rs.length x.a.c)) O O Ez.a O) (Au (v:=(vN x.rs.length)) O (AC O underlying36) (Au (v:=(vN (sq.2.1-x.rs.length))) O (BY (c:=((sq.2.1-x.rs.length:Nat):Int)) O O (CN Z Z)) (Ds O (Au (v:=(vN ((DT ps.length es i).length))) O (AC O underlying47) (Au (v:=(qa (decide ((sq.2.1-x.rs.length)<((DT ps.length es i).length))))) O (Ae (c:=(decide ((sq.2.1-x.rs.length)<((DT ps.length es i).length)))) O O (CM (a:=sq.2.1-x.rs.length) (b:=(DT ps.length es i).length))) (AG (v:=(qa (decide ((sq.2.1-x.rs.length)<((DT ps.length es i).length))))) (AN O O) O (oNl' (zR EQ (xP _)))))))))))
    ·refine zC (k:=90) (u:=qa false) O (by rw [hg2]) ?_
     have hg2':=xQ hg2
     exact Ar O (Ar O (Ar O (Ar O (Ar O (Ar O (Ar O (Ar O (AG (v:=(qa false)) (AI O O) O (oNl' (zR EQ (xP _)))))))))))
   refine oNl' (zB (sL [3,6,7,8,11,12,13,99] O) (zA ?_))
   refine zM O (λhc3=>?_) (λhc3=>?_)
   ·simp only [jK] at hc3
    obtain ⟨pq,hpq⟩:∃q,q=(DT ps.length es i).getD (sq.2.1-x.rs.length) Hk:=⟨_,rfl⟩
    refine q4 (AM O (AM O (AG (v:=(pP b1 0)) (AA O underlying39 O sizeOf36 O) O (Az 6 (qw x.a.p x.rs.length x.a.c) Ez O (AG (v:=(vN x.rs.length)) (AC O underlying36) O (AG (BY (c:=((sq.2.1-x.rs.length:Nat):Int)) O O (CN Z Z)) O (AG (v:=(pP (pB p2) (pO p2+(sq.2.1-x.rs.length)*4))) (AF (j:=sq.2.1-x.rs.length) O O h2.row underlying47 sizeOf50 O Z) O (AG (v:=(aG (De ((DT ps.length es i).getD (sq.2.1-x.rs.length) Hk)))) (Es (vs:=De ((DT ps.length es i).getD (sq.2.1-x.rs.length) Hk)) (i:=1) O O h2 (AV Fv _) (An.ne h2.row Z) WK (Al Fv _ _ _ Z) (Fv _)) O (zC (k:=107) (u:=(aG (De pq))) O (by rw [hpq]) (al ak O λb4=>Ax O sizeOf50 O ?_))))))))))
    refine q3 (sL [3,6,7,8,11,12,13,14] O) (AG (v:=(pP b4 0)) (AA O underlying50 O sizeOf3 O) O (Az 0 (vI pq.1) BN O (AM O (AG (BO (c:=(decide (pq.1=((sq.1:Nat):Int)))) O O O) O (AM O ?_)))))
    refine zX (FM:=[(3,(pP b1 0)),(6,(pP b2 0)),(7,(pP b3 0)),(8,(qw p2 ((DT ps.length es i).length) c2)),(11,(vN j)),(12,(vN sq.1)),(13,(vN sq.2.1)),(14,(pP b4 0)),(108,(pP b4 0)),(109,(vI pq.1)),(110,(vN sq.1)),(111,(qa (decide (pq.1=((sq.1:Nat):Int))))),(112,(qa (decide (pq.1=((sq.1:Nat):Int))))),(117,(qa ((decide (pq.1=((sq.1:Nat):Int)))||(decide (pq.2.1=((sq.1:Nat):Int))))))]) (LM:=(AR b4 50 (De pq)::rowW sd.p 119 3 ((BM (Bn x.rs qs).length us).length) sd.c (rowsL AS (Ej (D7 ps.length ss (E6 ps.length es i)) (BM (Bn x.rs qs).length us) j))::rowW p2 50 4 ((DT ps.length es i).length) c2 (rowsL De (DT ps.length es i))::AR b3 39 ([(qw p1 ((Bn x.rs qs).length) c1),(qw ptb us.length ctb),(qw sd.p ((BM (Bn x.rs qs).length us).length) sd.c)])::rowW ptb 105 3 us.length ctb (rowsL AS us)::rowW p1 121 6 ((Bn x.rs qs).length) c1 (rowsL BK (Bn x.rs qs))::AR b2 39 ([jj,jj,jj])::AR b1 39 (Cn x)::AB o.p (rowsL De es)::AB y.p (rowsL AS us)::AB x.a.p (rowsL BK x.rs)::AB x.b.p (rowsL AS zt)::AB x.c.p (rowsL AS ss)::Bi (Bn x.rs qs))) 5 ?_ ?_
    ·rcases xO (decide (pq.1=((sq.1:Nat):Int))) with hg3|hg3
     ·refine zC (k:=112) (u:=qa true) O (by rw [hg3]) ?_
      have hg3':=xR hg3
      exact Ar O (Ar O (Ar O (Ar O (AG (v:=(qa true)) (AN O O) O (oNl' (zR Hz (xP _)))))))
     ·refine zC (k:=112) (u:=qa false) O (by rw [hg3]) ?_
      have hg3':=xQ hg3
      exact Au (v:=(pP b4 1)) O (AA O underlying50 O sizeOf3 O) (Au (v:=(vI pq.2.1)) O (AE (i:=0) (v:=(vI pq.2.1)) O O BN.a O) (Ds O (Au (v:=(qa (decide (pq.2.1=((sq.1:Nat):Int))))) O (BO (c:=(decide (pq.2.1=((sq.1:Nat):Int)))) O O O) (AG (v:=(qa (decide (pq.2.1=((sq.1:Nat):Int))))) (AI O O) O (oNl' (zR Hz (xP _)))))))
    refine oNl' (zB (sL [3,6,7,8,11,12,13,14,117] O) (zA ?_))
    refine zM O (λhc4=>?_) (λhc4=>?_)
    ·simp only [jK] at hc4
     have hmk:Dx ps.length pq.1 pq.2.1 ss=D7 ps.length ss (E6 ps.length es i) sq.1 sq.2.1:=VY (n:=x.rs.length) hxl hc3.1 hc3.2 hpq hc4
     refine zV (CQ (Db 8++[(8,false),(9,true),(10,true),(11,false)]) (sk (sl sr)) (Aj (v:=(pP b3 2)) O (AA O underlying39 O sizeOf37 O) (Be 2 (qw sd.p ((BM (Bn x.rs qs).length us).length) sd.c) HN O (BT O (EC 6 Cp O (Aj (v:=(pP b4 0)) O (AA O underlying50 O sizeOf3 O) (Be 0 (vI pq.1) BN O (Aj (v:=(pP b4 1)) O (AA O underlying50 O sizeOf3 O) (Be 0 (vI pq.2.1) BN O (zK O (Ct (args:=[(aG (Cn x)),(vI pq.1),(vI pq.2.1)]) (v:=(vI (Dx ps.length pq.1 pq.2.1 ss))) call60 (λw hw=>(by rw [<-hxl];exact LE (S:=UH) x.rs' pq.1 pq.2.1 Z w (aU (QR (x:=x) hw 10 O (λz hz=>xG [AR b4 50 (De pq),rowW sd.p 119 3 ((BM (Bn x.rs qs).length us).length) sd.c (rowsL AS (Ej (D7 ps.length ss (E6 ps.length es i)) (BM (Bn x.rs qs).length us) j)),rowW p2 50 4 ((DT ps.length es i).length) c2 (rowsL De (DT ps.length es i)),AR b3 39 ([(qw p1 ((Bn x.rs qs).length) c1),(qw ptb us.length ctb),(qw sd.p ((BM (Bn x.rs qs).length us).length) sd.c)]),rowW ptb 105 3 us.length ctb (rowsL AS us),rowW p1 121 6 ((Bn x.rs qs).length) c1 (rowsL BK (Bn x.rs qs)),AR b2 39 ([jj,jj,jj]),AR b1 39 (Cn x),AB o.p (rowsL De es),AB y.p (rowsL AS us),AB x.a.p (rowsL BK x.rs),AB x.b.p (rowsL AS zt),AB x.c.p (rowsL AS ss)] (GR hz)))))) O ?_)))))))))))
     refine zD (sk (sl sr)) (Aj (v:=(pP (pB sd.p) (pO sd.p+j*3))) O (AF (j:=j) O O sd.ok.row underlying37 sizeOf119 O Z) (Aj (v:=(pP (pB sd.p) (pO sd.p+(j*3+2)))) O (AA O underlying119 O sizeOf3 (Nat.add_assoc _ _ _)) (zK O (yP 1 (enc:=AS) (j:=j) (r:=2) (x':=(((((Ej (D7 ps.length ss (E6 ps.length es i)) (BM (Bn x.rs qs).length us) j).getD j ((0,0,0):Z3)).1),(((Ej (D7 ps.length ss (E6 ps.length es i)) (BM (Bn x.rs qs).length us) j).getD j ((0,0,0):Z3)).2.1),(Dx ps.length pq.1 pq.2.1 ss)):Z3)) (vs:=[(vI (Dx ps.length pq.1 pq.2.1 ss))]) ((0,0,0):Z3) A7 sd.ok Fh O O O (An.ne sd.ok.row Z) Z O sizeOf3 O O (zD (sk (sl sr)) (zT (zB (sL [3,6,7,8,11,12,13,14] O) (zA (zU (zP (zS ?_)))))))))))
     refine zA (zH (AM O (AG (AW (c:=((j+1:Nat):Int)) O O (AU (a:=j) (b:=1) Z)) O (asg' O (oNl' (zB (sL [3,6,7,8,11,12,13,14] O) ?_))))))
     rw [JQ Z (by rw [<-hsq];exact hmk)]
     exact zc (j+1) Z Z (sF O) (sl sr)
    ·simp only [jK] at hc4
     have hmk:Dx ps.length ((sq.1:Nat):Int) ((sq.2.1:Nat):Int) ss=D7 ps.length ss (E6 ps.length es i) sq.1 sq.2.1:=Yz (n:=x.rs.length) hxl hc3.2 hpq Z
     refine zG (zA (CQ (Db 6++[(6,false),(7,true),(8,true),(9,false)]) (sk (sl sr)) (Aj (v:=(pP b3 2)) O (AA O underlying39 O sizeOf37 O) (Be 2 (qw sd.p ((BM (Bn x.rs qs).length us).length) sd.c) HN O (BT O (EC 6 Cp O (BT O (BT O (zK O (Ct (args:=[(aG (Cn x)),(vN sq.1),(vN sq.2.1)]) (v:=(vI (Dx ps.length ((sq.1:Nat):Int) ((sq.2.1:Nat):Int) ss))) call60 (λw hw=>(by rw [<-hxl];exact LE (S:=UH) x.rs' ((sq.1:Nat):Int) ((sq.2.1:Nat):Int) Z w (aU (QR (x:=x) hw 10 O (λz hz=>xG [AR b4 50 (De pq),rowW sd.p 119 3 ((BM (Bn x.rs qs).length us).length) sd.c (rowsL AS (Ej (D7 ps.length ss (E6 ps.length es i)) (BM (Bn x.rs qs).length us) j)),rowW p2 50 4 ((DT ps.length es i).length) c2 (rowsL De (DT ps.length es i)),AR b3 39 ([(qw p1 ((Bn x.rs qs).length) c1),(qw ptb us.length ctb),(qw sd.p ((BM (Bn x.rs qs).length us).length) sd.c)]),rowW ptb 105 3 us.length ctb (rowsL AS us),rowW p1 121 6 ((Bn x.rs qs).length) c1 (rowsL BK (Bn x.rs qs)),AR b2 39 ([jj,jj,jj]),AR b1 39 (Cn x),AB o.p (rowsL De es),AB y.p (rowsL AS us),AB x.a.p (rowsL BK x.rs),AB x.b.p (rowsL AS zt),AB x.c.p (rowsL AS ss)] (GR hz)))))) O (zD (sk (sl sr)) ?_)))))))))))
     refine Aj (v:=(pP (pB sd.p) (pO sd.p+j*3))) O (AF (j:=j) O O sd.ok.row underlying37 sizeOf119 O Z) (Aj (v:=(pP (pB sd.p) (pO sd.p+(j*3+2)))) O (AA O underlying119 O sizeOf3 (Nat.add_assoc _ _ _)) (zK O (yP 1 (enc:=AS) (j:=j) (r:=2) (x':=(((((Ej (D7 ps.length ss (E6 ps.length es i)) (BM (Bn x.rs qs).length us) j).getD j ((0,0,0):Z3)).1),(((Ej (D7 ps.length ss (E6 ps.length es i)) (BM (Bn x.rs qs).length us) j).getD j ((0,0,0):Z3)).2.1),(Dx ps.length ((sq.1:Nat):Int) ((sq.2.1:Nat):Int) ss)):Z3)) (vs:=[(vI (Dx ps.length ((sq.1:Nat):Int) ((sq.2.1:Nat):Int) ss))]) ((0,0,0):Z3) A7 sd.ok Fh O O O (An.ne sd.ok.row Z) Z O sizeOf3 O O (zD (sk (sl sr)) (zT (zB (sL [3,6,7,8,11,12,13,14] O) (zJ (zA (zH (AM O (AG (AW (c:=((j+1:Nat):Int)) O O (AU (a:=j) (b:=1) Z)) O ?_)))))))))))
     refine asg' O (oNl' (zB (sL [3,6,7,8,11,12,13,14] O) ?_))
     rw [JQ Z (by rw [<-hsq];exact hmk)]
     exact zc (j+1) Z Z (sF O) (sl sr)
   ·simp only [jK] at hc3
    have hmk:Dx ps.length ((sq.1:Nat):Int) ((sq.2.1:Nat):Int) ss=D7 ps.length ss (E6 ps.length es i) sq.1 sq.2.1:=WC (n:=x.rs.length) hxl Z
    refine zG (zA (CQ (Db 6++[(6,false),(7,true),(8,true),(9,false)]) (sl sr) (Aj (v:=(pP b3 2)) O (AA O underlying39 O sizeOf37 O) (Be 1 (qw sd.p ((BM (Bn x.rs qs).length us).length) sd.c) HN O (BT O (EC 5 Cp O (BT O (BT O (zK O (Ct (args:=[(aG (Cn x)),(vN sq.1),(vN sq.2.1)]) (v:=(vI (Dx ps.length ((sq.1:Nat):Int) ((sq.2.1:Nat):Int) ss))) call60 (λw hw=>(by rw [<-hxl];exact LE (S:=UH) x.rs' ((sq.1:Nat):Int) ((sq.2.1:Nat):Int) Z w (aU (QR (x:=x) hw 9 O (λz hz=>xG [rowW sd.p 119 3 ((BM (Bn x.rs qs).length us).length) sd.c (rowsL AS (Ej (D7 ps.length ss (E6 ps.length es i)) (BM (Bn x.rs qs).length us) j)),rowW p2 50 4 ((DT ps.length es i).length) c2 (rowsL De (DT ps.length es i)),AR b3 39 ([(qw p1 ((Bn x.rs qs).length) c1),(qw ptb us.length ctb),(qw sd.p ((BM (Bn x.rs qs).length us).length) sd.c)]),rowW ptb 105 3 us.length ctb (rowsL AS us),rowW p1 121 6 ((Bn x.rs qs).length) c1 (rowsL BK (Bn x.rs qs)),AR b2 39 ([jj,jj,jj]),AR b1 39 (Cn x),AB o.p (rowsL De es),AB y.p (rowsL AS us),AB x.a.p (rowsL BK x.rs),AB x.b.p (rowsL AS zt),AB x.c.p (rowsL AS ss)] (GR hz)))))) O (zD (sl sr) ?_)))))))))))
    refine Aj (v:=(pP (pB sd.p) (pO sd.p+j*3))) O (AF (j:=j) O O sd.ok.row underlying37 sizeOf119 O Z) (Aj (v:=(pP (pB sd.p) (pO sd.p+(j*3+2)))) O (AA O underlying119 O sizeOf3 (Nat.add_assoc _ _ _)) (zK O (yP 0 (enc:=AS) (j:=j) (r:=2) (x':=(((((Ej (D7 ps.length ss (E6 ps.length es i)) (BM (Bn x.rs qs).length us) j).getD j ((0,0,0):Z3)).1),(((Ej (D7 ps.length ss (E6 ps.length es i)) (BM (Bn x.rs qs).length us) j).getD j ((0,0,0):Z3)).2.1),(Dx ps.length ((sq.1:Nat):Int) ((sq.2.1:Nat):Int) ss)):Z3)) (vs:=[(vI (Dx ps.length ((sq.1:Nat):Int) ((sq.2.1:Nat):Int) ss))]) ((0,0,0):Z3) A7 sd.ok Fh O O O (An.ne sd.ok.row Z) Z O sizeOf3 O O (zD (sl sr) (zT (zB (sL [3,6,7,8,11,12,13] O) (zJ (zA (zH (AM O (AG (AW (c:=((j+1:Nat):Int)) O O (AU (a:=j) (b:=1) Z)) O ?_)))))))))))
    refine asg' O (oNl' (zB (sL [3,6,7,8,11,12,13] O) ?_))
    rw [JQ Z (by rw [<-hsq];exact hmk)]
    exact zc (j+1) Z Z (sF O) sr
  ·replace hc2:=xQ hc2
   exact zU (zP (za (zS (q2 (BD 2 Cp O (Ek 5 (off:=0) (vs:=[(qw p1 ((Bn x.rs qs).length) c1),(qw ptb us.length ctb),(qw sd.p ((BM (Bn x.rs qs).length us).length) sd.c)]) (cs':=[(qw p1 ((Bn x.rs qs).length) c1),(qw ptb us.length ctb),(qw sd.p ((BM (Bn x.rs qs).length us).length) sd.c)]) (AJ O) O sizeOf39 O (oNl' (zB (sL [3,6,7,8,11] O) (zA (zF (ret_one O (Ai (i:=5) (cs:=[(qw p1 ((Bn x.rs qs).length) c1),(qw ptb us.length ctb),(qw sd.p ((BM (Bn x.rs qs).length us).length) sd.c)]) O O isAgg39 sizeOf39 O) (λw hw=>(by rw [<-hie] at *;rw [show Fj ps.length ss (E6 ps.length es i) us=Ej (D7 ps.length ss (E6 ps.length es i)) (BM (Bn x.rs qs).length us) j from by rw [<-Xj (λv hv=>Qv hv) Z,show j=(BM (Bn x.rs qs).length us).length by omega,XJ];unfold bt;rw [har]];exact N3 (A:=[rowW sd.p 119 3 ((BM (Bn x.rs qs).length us).length) sd.c (rowsL AS (Ej (D7 ps.length ss (E6 ps.length es i)) (BM (Bn x.rs qs).length us) j)),rowW p2 50 4 ((DT ps.length es i).length) c2 (rowsL De (DT ps.length es i)),AR b3 39 ([(qw p1 ((Bn x.rs qs).length) c1),(qw ptb us.length ctb),(qw sd.p ((BM (Bn x.rs qs).length us).length) sd.c)]),rowW ptb 105 3 us.length ctb (rowsL AS us),rowW p1 121 6 ((Bn x.rs qs).length) c1 (rowsL BK (Bn x.rs qs)),AR b2 39 ([(qw p1 ((Bn x.rs qs).length) c1),(qw ptb us.length ctb),(qw sd.p ((BM (Bn x.rs qs).length us).length) sd.c)]),AR b1 39 (Cn x),AB o.p (rowsL De es),AB y.p (rowsL AS us),AB x.a.p (rowsL BK x.rs),AB x.b.p (rowsL AS zt),AB x.c.p (rowsL AS ss)]) hw 4 3 0 O O O h1 otb sd.ok O O (by rw [Fh]) hmp hat O)))))))))))))
end
section
def DY (ts:List T3) (a b:Nat):Nat->Int
  | 0 => -1
  | k+1=>if EP (ts.getD (ts.length-1-k) (0,0,0)) a b=true then ((ts.length-1-k:Nat):Int) else DY ts a b k
def UW (ts:List T3) (a b:Nat):E4:=⟨a,b,IX ts a b ts.length,IX ts b a ts.length⟩
def Iz (ts:List T3) (a:Nat):Nat->List E4
  | 0=>[]
  | j+1=>if 0<=(UW ts a (a+1+j)).l\/0<=(UW ts a (a+1+j)).r then Iz ts a j++[UW ts a (a+1+j)] else Iz ts a j
def aQ (ts:List T3) (N:Nat):Nat->List E4
  | 0=>[]
  | a+1=>aQ ts N a++Iz ts a (N-(a+1))
section
variable {ts:List T3} {a b N:Nat}
theorem Le:∀k,k<=ts.length->(DY ts a b k = -1/\∀j,ts.length-k<=j->j<ts.length->EP (ts.getD j (0,0,0)) a b=false)\/∃j,ts.length-k<=j/\j<ts.length/\EP (ts.getD j (0,0,0)) a b=true/\DY ts a b k=(j:Int)/\∀i,ts.length-k<=i->i<j->EP (ts.getD i (0,0,0)) a b=false
  | 0,_=>.inl ⟨rfl,λj h1 h2=>by omega⟩
  | k+1,hk=>by
    rw [DY]
    by_cases e:EP (ts.getD (ts.length-1-k) (0,0,0)) a b=true
    · rw [if_pos e]
      exact .inr ⟨ts.length-1-k,Z,Z,e,rfl,λi h1 h2=>by omega⟩
    · rw [if_neg e]
      have e2:EP (ts.getD (ts.length-1-k) (0,0,0)) a b=false:=by simpa using e
      rcases Le k Z with ⟨h1,h2⟩|⟨j,h1,h2,h3,h4,h5⟩
      · refine .inl ⟨h1,λj q1 q2=>?_⟩
        rcases Nat.lt_or_ge j (ts.length-k) with h|h
        · rw [show j=ts.length-1-k by omega];exact e2
        · exact h2 j h q2
      · refine .inr ⟨j,Z,h2,h3,h4,λi q1 q2=>?_⟩
        rcases Nat.lt_or_ge i (ts.length-k) with h|h
        · rw [show i=ts.length-1-k by omega];exact e2
        · exact h5 i h q2
theorem N_:DY ts a b ts.length=IX ts a b ts.length:=by
  rcases Le (ts:=ts) (a:=a) (b:=b) ts.length (Nat.le_refl _) with ⟨h1,h2⟩|⟨j,h1,h2,h3,h4,h5⟩
  · rw [h1,KZ _ λj hj=>h2 j Z hj]
  · rw [h4,Pb _ h2 h3 λi hi=>h5 i Z hi]
theorem L5 {j:Nat}:EP (ts.getD j (0,0,0)) a b=true↔Qi ts j a b:=by
  unfold Qi
  constructor
  · intro h
    unfold EP at h
    simp only [xY,xZ,xT] at h
    rcases h with ⟨h1,h2⟩|⟨h1,h2⟩|⟨h1,h2⟩
    · exact ⟨0,by decide,by rw [Fx jY];exact Prod.ext h1 h2⟩
    · exact ⟨1,by decide,by rw [Fx jY];exact Prod.ext h1 h2⟩
    · exact ⟨2,by decide,by rw [Fx jY];exact Prod.ext h1 h2⟩
  · rintro ⟨r,hr,h⟩
    rw [Fx hr] at h
    have h1:=congrArg Prod.fst h
    have h2:=congrArg Prod.snd h
    simp only at h1 h2
    have e:r=0\/r=1\/r=2:=by omega
    unfold EP
    rcases e with rfl|rfl|rfl<;>simp [CJ] at h1 h2<;>simp [h1,h2]
theorem Hs:H1 ts (3*ts.length) a b (IX ts a b ts.length):=by
  refine QV ?_
  by_cases h:∃j,j<ts.length/\EP (ts.getD j (0,0,0)) a b=true
  · rcases Le (ts:=ts) (a:=a) (b:=b) ts.length (Nat.le_refl _) with ⟨h1,h2⟩|⟨j,h1,h2,h3,h4,h5⟩
    · obtain ⟨j,k1,k2⟩:=h
      rw [h2 j Z k1] at k2
      cases k2
    · refine .inr ⟨j,h2,by rw [<-N_];exact h4,L5.1 h3,λi hi k=>?_⟩
      have:=h5 i Z hi
      rw [L5.2 k] at this
      cases this
  · have hn:∀j,j<ts.length->EP (ts.getD j (0,0,0)) a b=false:=λj hj=>by
      cases e:EP (ts.getD j (0,0,0)) a b with
      | false=>rfl
      | true=>exact absurd ⟨j,hj,e⟩ h
    exact .inl ⟨KZ _ hn,λj hj k=>by have:=hn j hj;rw [L5.2 k] at this;cases this⟩
theorem G3 {e:E4}:∀j,e∈Iz ts a j↔e.a=a/\a<e.b/\e.b<a+1+j/\e=UW ts e.a e.b/\(0<=e.l\/0<=e.r)
  | 0=>⟨λh=>(by cases h),λh=>Z⟩
  | j+1=>by
    rw [Iz]
    split
    · rename_i hc
      rw [List.mem_append,G3 j,xM]
      constructor
      · rintro (h|rfl)
        · exact ⟨h.1,h.2.1,Z,h.2.2.2⟩
        · exact ⟨rfl,(by show a<a+1+j;omega),(by show a+1+j<a+1+(j+1);omega),rfl,hc⟩
      · rintro ⟨h1,h2,h3,h4,h5⟩
        rcases Nat.lt_or_ge e.b (a+1+j) with h6|h6
        · exact .inl ⟨h1,h2,h6,h4,h5⟩
        · refine .inr ?_
          rw [h4,h1,show e.b=a+1+j by omega]
    · rename_i hc
      rw [G3 j]
      constructor
      · exact λh=>⟨h.1,h.2.1,Z,h.2.2.2⟩
      · rintro ⟨h1,h2,h3,h4,h5⟩
        rcases Nat.lt_or_ge e.b (a+1+j) with h6|h6
        · exact ⟨h1,h2,h6,h4,h5⟩
        · rw [h1,show e.b=a+1+j by omega] at h4
          rw [h4] at h5
          exact absurd h5 hc
theorem Ok {e:E4}:∀A,e∈aQ ts N A↔e.a<A/\e.a<e.b/\e.b<N/\e=UW ts e.a e.b/\(0<=e.l\/0<=e.r)
  | 0=>⟨λh=>(by cases h),λh=>Z⟩
  | A+1=>by
    rw [aQ,List.mem_append,Ok A,G3]
    constructor
    · rintro (h|h)
      · exact ⟨Z,h.2⟩
      · exact ⟨Z,Z,Z,h.2.2.2⟩
    · rintro ⟨h1,h2,h3,h4⟩
      rcases Nat.lt_or_ge e.a A with h5|h5
      · exact .inl ⟨h5,h2,h3,h4⟩
      · exact .inr ⟨Z,Z,Z,h4⟩
theorem HE:∀j,(Iz ts a j).Pairwise M6
  | 0=>List.Pairwise.nil
  | j+1=>by
    rw [Iz]
    split
    · refine List.pairwise_append.2 ⟨HE j,List.pairwise_singleton _ _,λx hx y hy=>?_⟩
      rw [xM] at hy
      subst hy
      have h:=(G3 j).1 hx
      exact .inr ⟨h.1,(by show x.b<a+1+j;exact h.2.2.1)⟩
    · exact HE j
theorem Lo:∀A,(aQ ts N A).Pairwise M6
  | 0=>List.Pairwise.nil
  | A+1=>List.pairwise_append.2 ⟨Lo A,HE _,λx hx y hy=>.inl (by
      have h1:=(Ok A).1 hx
      have h2:=(G3 _).1 hy
      omega)⟩
theorem aZ (hn:Bu N ts=true) (hN:N<=4611686018427387904):aQ ts N N=BG ts:=by
  refine L_ M6.asymm (Lo N) (Fi hn hN) λe=>?_
  rw [Ok,KO hn hN]
  constructor
  · rintro ⟨_,h2,_,h4,h5⟩
    have el:e.l=IX ts e.a e.b ts.length:=congrArg E4.l h4
    have er:e.r=IX ts e.b e.a ts.length:=congrArg E4.r h4
    refine ⟨rfl,rfl,h2,by rw [el];exact Hs,by rw [er];exact Hs,?_⟩
    rcases h5 with h5|h5
    · rw [el] at h5
      obtain ⟨u,hu,h⟩:=(H1.neg2 Hs).1 h5
      exact ⟨u,hu,.inl h⟩
    · rw [er] at h5
      obtain ⟨u,hu,h⟩:=(H1.neg2 Hs).1 h5
      exact ⟨u,hu,.inr h⟩
  · intro k
    have kl:H1 ts (3*ts.length) e.a e.b e.l:=k.l
    have kr:H1 ts (3*ts.length) e.b e.a e.r:=k.r
    have el:e.l=IX ts e.a e.b ts.length:=kl.uniq Hs
    have er:e.r=IX ts e.b e.a ts.length:=kr.uniq Hs
    have hk:(e.a,e.b)∈FJ ts:=(JA hn hN).2 ⟨e,(KO hn hN).2 k,rfl,rfl⟩
    obtain ⟨k1,k2⟩:=Ps hn hN hk
    refine ⟨Z,k1,k2,?_,?_⟩
    · obtain ⟨x,y,l,r⟩:=e
      simp only at el er
      rw [el,er]
      rfl
    · obtain ⟨u,hu,h⟩:=k.some
      rcases h with h|h
      · exact .inl ((H1.neg2 kl).2 ⟨u,hu,h⟩)
      · exact .inr ((H1.neg2 kr).2 ⟨u,hu,h⟩)
where
  H1.neg2 {s x y:Nat} {z:Int} (h:H1 ts s x y z):0<=z↔∃u,u<s/\Ch ts u=(x,y):=by
    rcases h with ⟨h1,h2⟩|⟨u,h1,h2,h3,_⟩
    · exact ⟨λ_=>by omega,λ⟨u,hu,e⟩=>absurd e (h2 u hu)⟩
    · exact ⟨λ_=>⟨u,h1,h3⟩,λ_=>by omega⟩
theorem SU {k:Nat} (h:EP (ts.getD (ts.length-1-k) (0,0,0)) a b=true):DY ts a b (k+1)=((ts.length-1-k:Nat):Int):=if_pos h
theorem Uj {k:Nat} (h:¬EP (ts.getD (ts.length-1-k) (0,0,0)) a b=true):DY ts a b (k+1)=DY ts a b k:=if_neg h
theorem Wc {j:Nat} (hj:a+1<=j) (h:0<=(UW ts a j).l\/0<=(UW ts a j).r):Iz ts a (j+1-(a+1))=Iz ts a (j-(a+1))++[UW ts a j]:=by
  rw [show j+1-(a+1)=(j-(a+1))+1 by omega,Iz,if_pos (by rw [show a+1+(j-(a+1))=j by omega];exact h),show a+1+(j-(a+1))=j by omega]
theorem ZD {j:Nat} (hj:a+1<=j) (h:¬(0<=(UW ts a j).l\/0<=(UW ts a j).r)):Iz ts a (j+1-(a+1))=Iz ts a (j-(a+1)):=by
  rw [show j+1-(a+1)=(j-(a+1))+1 by omega,Iz,if_neg (by rw [show a+1+(j-(a+1))=j by omega];exact h)]
theorem bF {k:Nat} (h:k=ts.length):(⟨a,b,DY ts a b k,DY ts b a k⟩:E4)=UW ts a b:=by
  subst h
  rw [N_,N_];rfl
end
end
section
set_option maxRecDepth 100000
theorem LS (x0:E4):Instr.fill (λi=>some (i*4,4)) ((Array.range (1*4)).map ((Value.agg (BL jA).toArray).cells[·%(Value.agg (BL jA).toArray).cells.size]!)) [(0,.agg (BL x0).toArray)]=some (BL x0).toArray:=by kernel_rfl
set_option maxHeartbeats 2000000 in
theorem TE {N:Nat} {ts ss:List T3} (x:RM N ts ss) (hnb:Bu N ts=true) (hl:ts.length<=1000000) (hN:N<=4096) (w:World) {S:Nat->Prop} (hx:Ro S w x):Calls prog 46 #[(aG (Dk x))] w (Ad (RX (rowsL BL (BG ts)) (BG ts).length) S w):=by
 have lx:=Bx (W:=w) hx
 refine AX (args:=[(aG (Dk x))]) (L:=[AB x.a.p (x.cs),AB x.b.p (rowsL Ac ts),AB x.c.p (x.ds)]) func46 O O (Av O) (DF hx Ah) (zN (sL [0] O) (q4 (Bb (cs:=Dk x) O λb1=>asg' O (q3 (sL [1,2] O) (asg' O (zf 50 4 (oNl' (q1 (q4 (BD 1 Cp O ?_))))))))))
 refine Ct call45 (λw hw=>OS x hnb hl Z w (inS hw 2 O lx)) O (AG (BQ (c:=false) O O) O (oNl' (zB (sL [1,2,3,10] O) (zA (zb O (zG (q1 (q4 (asg' O (oNl' (zB (sL [1,2,3,4] O) ?_)))))))))))
 refine zA (zI ?_)
 refine yO (tg λ(ai:Nat) (p1:Option Addr) (c1:Nat) (ou:List E4)=>ai<=N/\OwnOk p1 ou.length c1/\ou.length<=ai*4096/\ou=aQ ts N ai) (tg λ(ai:Nat) (p1:Option Addr) (c1:Nat) (ou:List E4)=>[(1,(pP b1 0)),(2,jj),(4,(vN ai)),(3,(qw p1 ou.length c1))]) (tg λ(ai:Nat) (p1:Option Addr) (c1:Nat) (ou:List E4)=>[rowW p1 50 4 ou.length c1 (rowsL BL ou),AR b1 39 (Dk x),AB x.a.p (x.cs),AB x.b.p (rowsL Ac ts),AB x.c.p (x.ds)]) (tg λ(ai:Nat) (p1:Option Addr) (c1:Nat) (ou:List E4)=>N-ai) 0 none 0 ([]:List E4) (⟨xH _,OwnOk.none,by simp,rfl⟩) (sF O) sr (λai p1 c1 ou hJ=>?_)
 obtain ⟨hai,h1,hln,hou⟩:=hJ
 refine zV (q4 (AM O (AG (v:=(pP b1 0)) (AA O underlying39 O sizeOf36 O) O (Az 1 (qw x.a.p N x.a.c) Ez O (AG (v:=(vN N)) (AC O underlying36) O (AG (Ae (c:=(decide (ai<N))) O O (CM (a:=ai) (b:=N))) O (oNl' (zB (sL [1,2,4,3,16] O) (zA ?_)))))))))
 refine zM O (λhc1=>?_) (λhc1=>?_)
 ·replace hc1:=xR hc1
  refine zG (q1 (zI (q4 (AM O (AG (AW (c:=((ai+1:Nat):Int)) O O (AU (a:=ai) (b:=1) Z)) O (asg' O (oNl' (zB (sL [1,2,4,3,5] O) (zA (zI ?_))))))))))
  refine yO (tg λ(bi:Nat) (p2:Option Addr) (c2:Nat) (oq:List E4)=>bi<=N/\ai+1<=bi/\OwnOk p2 oq.length c2/\oq.length<=ai*4096+(bi-(ai+1))/\oq=aQ ts N ai++Iz ts ai (bi-(ai+1))) (tg λ(bi:Nat) (p2:Option Addr) (c2:Nat) (oq:List E4)=>[(1,(pP b1 0)),(2,jj),(4,(vN ai)),(5,(vN bi)),(3,(qw p2 oq.length c2))]) (tg λ(bi:Nat) (p2:Option Addr) (c2:Nat) (oq:List E4)=>[rowW p2 50 4 oq.length c2 (rowsL BL oq),AR b1 39 (Dk x),AB x.a.p (x.cs),AB x.b.p (rowsL Ac ts),AB x.c.p (x.ds)]) (tg λ(bi:Nat) (p2:Option Addr) (c2:Nat) (oq:List E4)=>N-bi) (ai+1) p1 c1 ou (⟨Z,Nat.le_refl _,h1,Z,by rw [hou,Nat.sub_self];exact (List.append_nil _).symm⟩) (sF O) sr (λbi p2 c2 oq hJ=>?_)
  obtain ⟨hbi,hba,h2,hlq,hsq⟩:=hJ
  refine zV (q4 (AM O (AG (v:=(pP b1 0)) (AA O underlying39 O sizeOf36 O) O (Az 1 (qw x.a.p N x.a.c) Ez O (AG (v:=(vN N)) (AC O underlying36) O (AG (Ae (c:=(decide (bi<N))) O O (CM (a:=bi) (b:=N))) O (oNl' (zB (sL [1,2,4,5,3,25] O) (zA ?_)))))))))
  refine zM O (λhc2=>?_) (λhc2=>?_)
  ·replace hc2:=xR hc2
   refine zG (q1 (zI (q4 (AM O (AM O (AG (v:=(aG ([(vN ai),(vN bi),(vI (-1:Int)),(vI (-1:Int))]))) (AT (zs:=BL jA) (vs:=[(vN ai),(vN bi),(vI (-1:Int)),(vI (-1:Int))]) (pv:=[(0,(vN ai)),(1,(vN bi)),(2,(vI (-1:Int))),(3,(vI (-1:Int)))]) (places:=[(0,1),(1,1),(2,1),(3,1)]) zeroValue50 underlying50 (λw=>by simp [sizeOf3]) O O) O (al ak O λb2=>Ax O sizeOf50 O (q6 (sL [1,2,4,5,3,6] O) (q4 (AG (v:=(pP b1 1)) (AA O underlying39 O sizeOf23 O) O ?_))))))))))
   refine Az 2 (qw x.b.p ts.length x.b.c) B1 O (AG (v:=(vN ts.length)) (AC O underlying23) O (AG (BY (c:=(((ts.length:Nat):Int)-1-((0:Nat):Int))) O O (by rw [BP Z Z];omega)) O (asg' O (oNl' (zB (sL [1,2,4,5,3,6,7] O) (zA (zI ?_)))))))
   refine zo (tg λ(k:Nat)=>k<=ts.length) (tg λ(k:Nat)=>[(1,(pP b1 0)),(2,jj),(4,(vN ai)),(5,(vN bi)),(3,(qw p2 oq.length c2)),(6,(pP b2 0)),(7,(vI (((ts.length:Nat):Int)-1-((k:Nat):Int))))]) (tg λ(k:Nat)=>[AR b2 50 (BL (⟨ai,bi,DY ts ai bi k,DY ts bi ai k⟩:E4)),rowW p2 50 4 oq.length c2 (rowsL BL oq),AR b1 39 (Dk x),AB x.a.p (x.cs),AB x.b.p (rowsL Ac ts),AB x.c.p (x.ds)]) (tg λ(k:Nat)=>ts.length-k) 0 (xH _) (sF O) sr (λk hJ=>?_)
   have hk:=hJ
   refine zV (q4 (AM O (AG (Bp (c:=(decide ((0:Int)<=(((ts.length:Nat):Int)-1-((k:Nat):Int))))) O O O) O (oNl' (zB (sL [1,2,4,5,3,6,7,36] O) (zA ?_))))))
   refine zM O (λhc3=>?_) (λhc3=>?_)
   ·replace hc3:=xR hc3
    obtain ⟨u,hu⟩:∃u,u=ts.length-1-k:=⟨_,rfl⟩
    have hkl:k<ts.length:=by omega
    refine yF (k:=7) (u:=(vN u)) O (by show Value.int _ _=Value.int _ _;congr 1;omega) (zG (q1 (zI (zV (q4 (AG (v:=(pP b1 1)) (AA O underlying39 O sizeOf23 O) O (Az 2 (qw x.b.p ts.length x.b.c) B1 O (AM O (AG (v:=(pP (pB x.b.p) (pO x.b.p+u*3))) (AF (j:=u) O O x.b.ok underlying23 sizeOf105 O Z) O (AG (v:=(aG (Ac (ts.getD u jJ)))) (AQ (vs:=Ac (ts.getD u jJ)) (i:=4) O O (An.ne x.b.ok Z) B_ (Al Am _ _ _ Z) (Am _)) O (AM O ?_)))))))))))
    refine AM O (ck' call111 (KV (ts.getD u jJ) ai bi) O (oNl' (zB (sL [1,2,4,5,3,6,7,46] O) (zA ?_))))
    refine yN (tg λ(l1:Int)=>l1=DY ts ai bi (k+1)) (tg λ(l1:Int)=>[(1,(pP b1 0)),(2,jj),(4,(vN ai)),(5,(vN bi)),(3,(qw p2 oq.length c2)),(6,(pP b2 0)),(7,(vN u))]) (tg λ(l1:Int)=>[AR b2 50 (BL (⟨ai,bi,l1,DY ts bi ai k⟩:E4)),rowW p2 50 4 oq.length c2 (rowsL BL oq),AR b1 39 (Dk x),AB x.a.p (x.cs),AB x.b.p (rowsL Ac ts),AB x.c.p (x.ds)]) ?_ ?_
    ·refine zM O (λhc4=>?_) (λhc4=>?_)
     ·exact zH (AM O (AG (v:=(pP b2 2)) (AA O underlying50 O sizeOf3 O) O (Ek 0 (off:=2) (vs:=[(vN u)]) (cs':=[(vN ((⟨ai,bi,DY ts ai bi k,DY ts bi ai k⟩:E4).a)),(vN ((⟨ai,bi,DY ts ai bi k,DY ts bi ai k⟩:E4).b)),(vN u),(vI ((⟨ai,bi,DY ts ai bi k,DY ts bi ai k⟩:E4).r))]) (AJ O) O sizeOf3 O (oNl' (zB (sL [1,2,4,5,3,6,7] O) (zl ((u:Nat):Int) ((by rw [SU (by rw [<-hu];exact hc4),hu])) (sF O) sr))))))
     ·exact zG (zl ((⟨ai,bi,DY ts ai bi k,DY ts bi ai k⟩:E4).l) ((Uj (by rw [<-hu];exact λh9=>Bool.false_ne_true (hc4.symm.trans h9))).symm) (sF O) sr)
    ·intro l1 hJ
     have hl1:=hJ
     refine q2 (AG (v:=(pP b1 1)) (AA O underlying39 O sizeOf23 O) O (Az 2 (qw x.b.p ts.length x.b.c) B1 O (AM O (AG (v:=(pP (pB x.b.p) (pO x.b.p+u*3))) (AF (j:=u) O O x.b.ok underlying23 sizeOf105 O Z) O (AG (v:=(aG (Ac (ts.getD u jJ)))) (AQ (vs:=Ac (ts.getD u jJ)) (i:=4) O O (An.ne x.b.ok Z) B_ (Al Am _ _ _ Z) (Am _)) O (AM O (AM O (ck' call111 (KV (ts.getD u jJ) bi ai) O (oNl' (zB (sL [1,2,4,5,3,6,7,56] O) (zA ?_)))))))))))
     refine yN (tg λ(r1:Int)=>r1=DY ts bi ai (k+1)) (tg λ(r1:Int)=>[(1,(pP b1 0)),(2,jj),(4,(vN ai)),(5,(vN bi)),(3,(qw p2 oq.length c2)),(6,(pP b2 0)),(7,(vN u))]) (tg λ(r1:Int)=>[AR b2 50 (BL (⟨ai,bi,l1,r1⟩:E4)),rowW p2 50 4 oq.length c2 (rowsL BL oq),AR b1 39 (Dk x),AB x.a.p (x.cs),AB x.b.p (rowsL Ac ts),AB x.c.p (x.ds)]) ?_ ?_
     ·refine zM O (λhc5=>?_) (λhc5=>?_)
      ·exact zH (AM O (AG (v:=(pP b2 3)) (AA O underlying50 O sizeOf3 O) O (Ek 0 (off:=3) (vs:=[(vN u)]) (cs':=[(vN ((⟨ai,bi,l1,DY ts bi ai k⟩:E4).a)),(vN ((⟨ai,bi,l1,DY ts bi ai k⟩:E4).b)),(vI ((⟨ai,bi,l1,DY ts bi ai k⟩:E4).l)),(vN u)]) (AJ O) O sizeOf3 O (oNl' (zB (sL [1,2,4,5,3,6,7] O) (zl ((u:Nat):Int) ((by rw [SU (by rw [<-hu];exact hc5),hu])) (sF O) sr))))))
      ·exact zG (zl ((⟨ai,bi,l1,DY ts bi ai k⟩:E4).r) ((Uj (by rw [<-hu];exact λh9=>Bool.false_ne_true (hc5.symm.trans h9))).symm) (sF O) sr)
     ·intro r1 hJ
      have hr1:=hJ
      refine zJ (zA (zH (AM O (AG (BY (c:=(((ts.length:Nat):Int)-1-((k+1:Nat):Int))) O O (by rw [BP Z Z];omega)) O (asg' O (oNl' (zB (sL [1,2,4,5,3,6,7] O) ?_)))))))
      rw [show l1=DY ts ai bi (k+1) from hl1,show r1=DY ts bi ai (k+1) from hr1]
      exact zc (k+1) Z Z (sF O) sr
   ·replace hc3:=xQ hc3
    have hfe:(⟨ai,bi,DY ts ai bi k,DY ts bi ai k⟩:E4)=UW ts ai bi:=bF Z
    refine zU (zP (za (zS (q2 (AG (v:=(pP b2 2)) (AA O underlying50 O sizeOf3 O) O (Az 0 (vI ((⟨ai,bi,DY ts ai bi k,DY ts bi ai k⟩:E4).l)) BN O (AG (Bp (c:=(decide ((0:Int)<=((⟨ai,bi,DY ts ai bi k,DY ts bi ai k⟩:E4).l)))) O O O) O (AM O ?_))))))))
    refine zX (FM:=[(1,(pP b1 0)),(2,jj),(4,(vN ai)),(5,(vN bi)),(3,(qw p2 oq.length c2)),(6,(pP b2 0)),(7,(vI (((ts.length:Nat):Int)-1-((k:Nat):Int)))),(59,(pP b2 2)),(60,(vI ((⟨ai,bi,DY ts ai bi k,DY ts bi ai k⟩:E4).l))),(61,(qa (decide ((0:Int)<=((⟨ai,bi,DY ts ai bi k,DY ts bi ai k⟩:E4).l))))),(62,(qa (decide ((0:Int)<=((⟨ai,bi,DY ts ai bi k,DY ts bi ai k⟩:E4).l))))),(66,(qa ((decide ((0:Int)<=((⟨ai,bi,DY ts ai bi k,DY ts bi ai k⟩:E4).l)))||(decide ((0:Int)<=((⟨ai,bi,DY ts ai bi k,DY ts bi ai k⟩:E4).r))))))]) (LM:=[AR b2 50 (BL (⟨ai,bi,DY ts ai bi k,DY ts bi ai k⟩:E4)),rowW p2 50 4 oq.length c2 (rowsL BL oq),AR b1 39 (Dk x),AB x.a.p (x.cs),AB x.b.p (rowsL Ac ts),AB x.c.p (x.ds)]) 4 ?_ ?_
    ·rcases xO (decide ((0:Int)<=((⟨ai,bi,DY ts ai bi k,DY ts bi ai k⟩:E4).l))) with hg1|hg1
     ·refine zC (k:=62) (u:=qa true) O (by rw [hg1]) ?_
      have hg1':=xR hg1
      exact Ar O (Ar O (Ar O (AG (v:=(qa true)) (AN O O) O (oNl' (zR Bg (xP _))))))
     ·refine zC (k:=62) (u:=qa false) O (by rw [hg1]) ?_
      have hg1':=xQ hg1
      exact Au (v:=(pP b2 3)) O (AA O underlying50 O sizeOf3 O) (Au (v:=(vI ((⟨ai,bi,DY ts ai bi k,DY ts bi ai k⟩:E4).r))) O (AE (i:=0) (v:=(vI ((⟨ai,bi,DY ts ai bi k,DY ts bi ai k⟩:E4).r))) O O BN.a O) (Au (v:=(qa (decide ((0:Int)<=((⟨ai,bi,DY ts ai bi k,DY ts bi ai k⟩:E4).r))))) O (Bp (c:=(decide ((0:Int)<=((⟨ai,bi,DY ts ai bi k,DY ts bi ai k⟩:E4).r)))) O O O) (AG (v:=(qa (decide ((0:Int)<=((⟨ai,bi,DY ts ai bi k,DY ts bi ai k⟩:E4).r))))) (AI O O) O (oNl' (zR Bg (xP _))))))
    refine oNl' (zB (sL [1,2,4,5,3,6,7,66] O) (zA ?_))
    refine zM O (λhc6=>?_) (λhc6=>?_)
    ·simp only [jK] at hc6
     refine zH (AM O (BD 0 WK O (zZ (V:=λb3=>(qw (jk b3) 1 1)) (T:=50) (cs:=BL (⟨ai,bi,DY ts ai bi k,DY ts bi ai k⟩:E4)) (AJ O) (Af (z:=.agg (BL jA).toArray) (cs:=BL (⟨ai,bi,DY ts ai bi k,DY ts bi ai k⟩:E4)) (pv:=[(0,(aG (BL (⟨ai,bi,DY ts ai bi k,DY ts bi ai k⟩:E4))))]) underlying47 sizeOf50 zeroValue50 jY jY O (LS (⟨ai,bi,DY ts ai bi k,DY ts bi ai k⟩:E4))) O (Av O) λb3=>yy (j:=0) (cs2:=rowsL BL (oq++[(⟨ai,bi,DY ts ai bi k,DY ts bi ai k⟩:E4)])) Xl O h2 (AV Bh _) O O O O jY (FD Z) Z (by rw [BI];rfl) O λp_1 c_1 ho_1 hne_1=>asg' O (oNl' (zB (sL [1,2,4,5,3,6,7] O) (zJ (zA (zH (AM O ?_)))))))))
     refine AG (AW (c:=((bi+1:Nat):Int)) O O (AU (a:=bi) (b:=1) Z)) O (asg' O (oNl' (zB (sL [1,2,4,5,3,6,7] O) ?_)))
     rw [show oq.length+1=(oq++[(⟨ai,bi,DY ts ai bi k,DY ts bi ai k⟩:E4)]).length by simp]
     exact zu (bi+1) p_1 c_1 (oq++[(⟨ai,bi,DY ts ai bi k,DY ts bi ai k⟩:E4)]) (⟨Z,Z,(by simpa using ho_1),by rw [xJ];simp only [List.length_singleton];omega,(by rw [hsq,xw];congr 1;rw [hfe];exact (Wc Z (by rw [<-hfe];exact hc6)).symm)⟩) Z (sF O) (sl (sl sr))
    ·simp only [jK] at hc6
     exact zG (zJ (zA (zH (AM O (AG (AW (c:=((bi+1:Nat):Int)) O O (AU (a:=bi) (b:=1) Z)) O (asg' O (oNl' (zB (sL [1,2,4,5,3,6,7] O) (zu (bi+1) p2 c2 oq (⟨Z,Z,h2,Z,(by rw [hsq];congr 1;exact (ZD Z (by rw [<-hfe];dsimp only;omega)).symm)⟩) Z (sF O) (sl sr))))))))))
  ·replace hc2:=xQ hc2
   have hbn:bi=N:=by omega
   exact zU (zP (zr (zS (zJ (zA (zH (AM O (AG (AW (c:=((ai+1:Nat):Int)) O O (AU (a:=ai) (b:=1) Z)) O (asg' O (oNl' (zB (sL [1,2,4,5,3] O) (zu (ai+1) p2 c2 oq (⟨Z,h2,Z,by rw [hsq,show bi=N by omega];rfl⟩) Z (sF O) sr))))))))))))
 ·replace hc1:=xQ hc1
  exact zU (zP (zr (zS (q2 (AM O (asg' O (oNl' (zB (sL [1,2,4,3] O) (zA (zF (ret_one O (rd_tmp (v:=(qw p1 ou.length c1)) O) (λw hw=>(by rw [show BG ts=ou by rw [hou,show ai=N by omega];exact (aZ hnb Z).symm];exact Y4 hw 0 O h1 (AV Bh _) O)))))))))))))
end
section
set_option maxRecDepth 100000
theorem O8 {ps:List Pt} {ts:List T3} {ss:List Z3} (x:NP ps ts ss) (es:List E4) (o:RX (rowsL BL es) es.length) (us:List T3) (y:RX (rowsL Ac us) us.length) (hz:∀i,i<ps.length->DU (ps.getD i ⟨0,0⟩)<=1000) (hp:ps.length+es.length<=4096) (hul:us.length<=1000000) (hsl:ss.length<=1000000) (w:World) {S:Nat->Prop} (hx:Ro S w x) (ho:Ro S w o) (hy:Ro S w y) :
  Calls prog 17 #[(aG (Eh x)),(qw o.p es.length o.c),(qw y.p us.length y.c)] w (Ad (GK (IP ps (E6 ps.length (es.map O2) (es.map O2).length)) (us.map Ba) (Fj ps.length ss (E6 ps.length (es.map O2) (es.map O2).length) (us.map Ba))) S w):=by
 obtain ⟨x',h1,_,h2⟩:=SD x
 obtain ⟨op,oc,ook⟩:=o
 obtain ⟨yp,yc,yok⟩:=y
 have e1:es.length=(es.map O2).length:=(xI _).symm
 have e2:us.length=(us.map Ba).length:=(xI _).symm
 have k:=RT (es.map O2) ⟨op,oc,e1▸ook⟩ (us.map Ba) ⟨yp,yc,e2▸yok⟩ x' hz Z Z hsl w (S:=S) (λz h=>ho z (by rcases xM.1 h with rfl;rw [<-Py];exact xM.2 rfl)) (λz h=>hy z (by rcases xM.1 h with rfl;rw [<-CR];exact xM.2 rfl)) (h2 hx)
 dsimp only at k
 rw [h1] at k
 rw [<-e1,<-e2] at k
 rw [<-e1]
 exact k
end
end Go.Proofs.YtpolhpjiahbidaaGreatDoor
