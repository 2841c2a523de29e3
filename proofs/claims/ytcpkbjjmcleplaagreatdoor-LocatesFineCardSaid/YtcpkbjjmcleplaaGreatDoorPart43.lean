import Derived.Test.YtcpkbjjmcleplaaGreatDoorPart41
namespace Go.Proofs.YtcpkbjjmcleplaaGreatDoor
open Go Go.RowKit Go.Proofs.Tryz
open Go.Value renaming slice→qz,bool→qa
set_option linter.unusedVariables false
set_option linter.unusedSimpArgs false
section
theorem Xj (q:Rat):q.num.sign=0↔q=0:=by rw [Int.sign_eq_zero_iff_zero,Rat.num_eq_zero]
theorem ae (q:Rat):q.num.sign<=0↔q<=0:=by
  rcases O6 q 0 with h|h|h
  · rw [GK h];exact ⟨λ_=>by grind,λ_=>by omega⟩
  · subst h;simp
  · rw [GL h];exact ⟨λe=>by omega,λe=>by grind⟩
theorem C_ {a b:Rat} (ha:0<a) (hb:0<b):0<a*b:=Rat.mul_pos ha hb
theorem MY {t T:Rat} (h:T≠0):t.num.sign=T.num.sign↔0<t/T:=by
  have e:t=(t/T)*T:=(Rat.div_mul_cancel h).symm
  generalize t/T=q at *
  subst e
  rcases O6 q 0 with h1|h1|h1<;>rcases O6 T 0 with h2|h2|h2
  · have h3:=C_ (a := -q) (b := -T) (by grind) (by grind)
    rw [GL (q:=q*T) (by grind),GK h2];exact ⟨λe=>by omega,λe=>by grind⟩
  · exact absurd h2 h
  · have h3:=C_ (a := -q) (b:=T) (by grind) (by grind)
    rw [GK (q:=q*T) (by grind),GL h2];exact ⟨λe=>by omega,λe=>by grind⟩
  · subst h1;rw [Rat.zero_mul,GK h2];exact ⟨λe=>by simp at e,λe=>by grind⟩
  · exact absurd h2 h
  · subst h1;rw [Rat.zero_mul,GL h2];exact ⟨λe=>by simp at e,λe=>by grind⟩
  · have h3:=C_ (a:=q) (b := -T) (by grind) (by grind)
    rw [GK (q:=q*T) (by grind),GK h2];exact ⟨λ_=>h1,λ_=>rfl⟩
  · exact absurd h2 h
  · have h3:=C_ h1 h2
    rw [GL h3,GL h2];exact ⟨λ_=>h1,λ_=>rfl⟩
theorem iY (a:Rat):0<=a*a:=by
  rcases O6 a 0 with h|h|h
  · have:=C_ (a := -a) (b := -a) (by grind) (by grind);grind
  · subst h;grind
  · have:=C_ h h;grind
theorem WG {a b:Pt} {u v:Rat} (hn:a.x≠b.x\/a.y≠b.y) (h1:u+v=1) {p:Pt} (hx:p.x=a.x*u+b.x*v) (hy:p.y=a.y*u+b.y*v):C8 (a-p) (b-p)<=0↔0<=u/\0<=v:=by
  have e:C8 (a-p) (b-p) = -((u*v)*((a.x-b.x)*(a.x-b.x)+(a.y-b.y)*(a.y-b.y))):=by
    have hv:v=1-u:=by grind
    subst hv
    simp only [Kz,HT,HU,hx,hy];grind
  have hp:0<(a.x-b.x)*(a.x-b.x)+(a.y-b.y)*(a.y-b.y):=by
    have k1:=iY (a.x-b.x);have k2:=iY (a.y-b.y)
    rcases hn with h|h
    · have:0<(a.x-b.x)*(a.x-b.x):=by
        rcases O6 (a.x-b.x) 0 with h3|h3|h3
        · have:=C_ (a := -(a.x-b.x)) (b := -(a.x-b.x)) (by grind) (by grind);grind
        · exact absurd (show a.x=b.x by grind) h
        · exact C_ h3 h3
      grind
    · have:0<(a.y-b.y)*(a.y-b.y):=by
        rcases O6 (a.y-b.y) 0 with h3|h3|h3
        · have:=C_ (a := -(a.y-b.y)) (b := -(a.y-b.y)) (by grind) (by grind);grind
        · exact absurd (show a.y=b.y by grind) h
        · exact C_ h3 h3
      grind
  rw [e]
  generalize (a.x-b.x)*(a.x-b.x)+(a.y-b.y)*(a.y-b.y)=D at *
  constructor
  · intro h
    refine ⟨?_,?_⟩
    · refine Classical.byContradiction λhu=>?_
      have h3:=C_ (C_ (a := -u) (b:=v) (by grind) (by grind)) hp
      grind
    · refine Classical.byContradiction λhv=>?_
      have h3:=C_ (C_ (a:=u) (b := -v) (by grind) (by grind)) hp
      grind
  · rintro ⟨hu,hv⟩
    have h3:0<=u*v:=Rat.mul_nonneg hu hv
    have h4:0<=(u*v)*D:=Rat.mul_nonneg h3 (by grind)
    grind
theorem FZ (a b c:Pt):AF b c a=AF a b c:=by simp only [B0];grind
theorem XA {a b c p:Pt} (h:AF a b c≠0):Dw a b p=decide (AF a b p/AF a b c=0/\0<=AF p b c/AF a b c/\0<=AF a p c/AF a b c):=by
  have h1:=Sd (p:=p) h
  have h2:=LT (p:=p) h
  have hn:a.x≠b.x\/a.y≠b.y:=by
    refine Classical.byContradiction λe=>h ?_
    have e1:a.x=b.x:=Classical.byContradiction λe2=>e (.inl e2)
    have e2:a.y=b.y:=Classical.byContradiction λe2=>e (.inr e2)
    simp only [B0,e1,e2];grind
  have h3:AF a b p/AF a b c=0↔AF a b p=0:=⟨λe=>by rw [<-Rat.div_mul_cancel (a:=AF a b p) h,e,Rat.zero_mul],λe=>by rw [e,Rat.div_def,Rat.zero_mul]⟩
  unfold Dw
  rw [<-Bool.decide_and]
  refine decide_eq_decide.2 ?_
  rw [Xj,ae,<-h3]
  refine and_congr_right λhz=>?_
  rw [hz] at h1 h2
  refine WG hn (by rw [<-h2,Rat.add_zero]) ?_ ?_
  · have:=congrArg Pt.x h1
    simp only [LR,HJ] at this
    rw [<-this,Rat.mul_zero,Rat.add_zero]
  · have:=congrArg Pt.y h1
    simp only [LS,HK] at this
    rw [<-this,Rat.mul_zero,Rat.add_zero]
theorem Oz {a b c p:Pt} (h:AF a b c≠0):CW p a=decide (AF a p c/AF a b c=0/\AF a b p/AF a b c=0):=by
  have h1:=Sd (p:=p) h
  have h2:=LT (p:=p) h
  unfold CW
  rw [<-Bool.decide_and]
  refine decide_eq_decide.2 ⟨λ⟨hx,hy⟩=>?_,λ⟨hb,hc⟩=>?_⟩
  · have e:p=a:=Pt.ext hx hy
    subst e
    refine ⟨?_,?_⟩
    · rw [show AF p p c=0 by simp only [B0];grind,Rat.div_def,Rat.zero_mul]
    · rw [show AF p b p=0 by simp only [B0];grind,Rat.div_def,Rat.zero_mul]
  · rw [hb,hc] at h1 h2
    have e1:AF p b c/AF a b c=1:=by grind
    rw [e1] at h1
    have hx:=congrArg Pt.x h1
    have hy:=congrArg Pt.y h1
    simp only [LR,LS,HJ,HK] at hx hy
    exact ⟨by grind,by grind⟩
theorem Qo {u v q:Rat} (h:u+v+q=1):FH u v q=if (decide (v=0/\q=0)||decide (q=0/\u=0)||decide (u=0/\v=0))=true then 3 else if (decide (q=0/\0<=u/\0<=v)||decide (u=0/\0<=v/\0<=q)||decide (v=0/\0<=q/\0<=u))=true then 2
    else if ((decide (0<q)&&decide (0<u))&&decide (0<v))=true then 1 else 0:=by
  have ne1:∀{x:Rat},x<0->¬x=0:=λh e=>by grind
  have ne2:∀{x:Rat},0<x->¬x=0:=λh e=>by grind
  have nl1:∀{x:Rat},x<0->¬0<=x:=λh e=>by grind
  have nl2:∀{x:Rat},x<0->¬0<x:=λh e=>by grind
  have pl:∀{x:Rat},0<x->0<=x:=λh=>by grind
  unfold FH zq
  rcases O6 u 0 with h1|h1|h1<;>rcases O6 v 0 with h2|h2|h2<;>rcases O6 q 0 with h3|h3|h3 <;>
    first
      | (exfalso;grind)
      | skip
  all_goals (try subst h1)
  all_goals (try subst h2)
  all_goals (try subst h3)
  all_goals simp [*,GK,GL,ne1,ne2,nl1,nl2,pl,Rat.le_refl,Rat.lt_irrefl]
theorem VM {a b c p:Pt} (h:AF a b c≠0):FH (AF p b c/AF a b c) (AF a p c/AF a b c) (AF a b p/AF a b c)=GS a b c p:=by
  rw [Qo (LT (p:=p) h)]
  unfold GS
  rw [if_neg h]
  have r1:AF b c a=AF a b c:=FZ a b c
  have r2:AF c a b=AF a b c:=(FZ b c a).trans r1
  have k1:AF b c p=AF p b c:=FZ p b c
  have k2:AF b p a=AF a b p:=FZ a b p
  have k3:AF c p b=AF p b c:=(FZ b c p).trans k1
  have k5:AF p c a=AF a p c:=FZ a p c
  have k4:AF c a p=AF a p c:=(FZ p c a).trans k5
  have k6:AF p a b=AF a b p:=(FZ b p a).trans k2
  have s1:=Oz (p:=p) h
  have s2:=Oz (a:=b) (b:=c) (c:=a) (p:=p) (by rw [r1];exact h)
  have s3:=Oz (a:=c) (b:=a) (c:=b) (p:=p) (by rw [r2];exact h)
  have o1:=XA (p:=p) h
  have o2:=XA (a:=b) (b:=c) (c:=a) (p:=p) (by rw [r1];exact h)
  have o3:=XA (a:=c) (b:=a) (c:=b) (p:=p) (by rw [r2];exact h)
  rw [r1,k2,k1] at s2
  rw [r2,k3,k4] at s3
  rw [r1,k1,k5,k2] at o2
  rw [r2,k4,k6,k3] at o3
  rw [s1,s2,s3,o1,o2,o3,k1,k4,decide_eq_decide.2 (MY (t:=AF a b p) h),decide_eq_decide.2 (MY (t:=AF p b c) h),decide_eq_decide.2 (MY (t:=AF a p c) h)]
section
variable {P:Program} {ops:Array Oper} {rest:List Oper} {Q:Exit->Act->World->Prop} {n d:Nat} {F:List (Nat×Value)} {w0:Ay} {L:List As} {t:TypeId} {p:String} {af:Array Edge} {y:Operand} {f:FuncId} {xs:List Operand} {args:List Value} {ts:Array TypeId}
end
end
section
set_option maxRecDepth 100000
theorem Ge {ps:List Pt} {ts:List T3} {ss:List Z3} (x:PJ ps ts ss) (t r:Nat) (ht:t<ts.length) (hr:r<3) (hnb:Ek ps.length ts=true) (w:World) {S:Nat->Prop} (hx:Ro S w x):Calls prog 95 #[(aG (E6 x)),(vN t),(vN r)] w (Aj (PX (BU ps (It (ts.getD t (0,0,0)) r))) S w):=by
 have hxl:=x.len
 have hcr:It (ts.getD t (0,0,0)) r<x.rs.length:=by rw [hxl];exact bw (Oj hnb ht) r
 have lx:=Bx (W:=w) hx
 refine AZ (args:=[(aG (E6 x)),(vN t),(vN r)]) (L:=(AI x.a.p (rowsL EE x.rs)::AI x.b.p (rowsL BC ts)::AI x.c.p (rowsL Bn ss)::DJ x.rs)) func95 O O (leB O) (YZ hx) (zI (sL [0,1,2] O) (q4 (BH (cs:=E6 x) O λb1=>al Ja O λb2=>q6 (sL [1,2,3,6] O) (B9 (EV 11++[(11,false)]) (sl sr) (Am (v:=(pP b1 0)) O (AA O underlying42 O sizeOf39 O) (CL 0 (qz x.a.p x.rs.length x.a.c) VC O (Am (v:=(pP b1 1)) O (AA O underlying42 O sizeOf23 O) (CL 0 (qz x.b.p ts.length x.b.c) Ez O (Bi O ?_)))))))))
 refine Bi O (Am (v:=(pP (pB x.b.p) (pO x.b.p+t*3))) O (AQ (j:=t) O O x.b.ok underlying23 sizeOf64 O Z) (Am (v:=(pP (pB x.b.p) (pO x.b.p+(t*3+r)))) O (AB (j:=r) O O underlying64 sizeOf3 O Z (by rw [Nat.mul_one];exact Nat.add_assoc _ _ _)) (Am O (Ad (v:=(vN (It (ts.getD t jJ) r))) (i:=2) O O (BG.ne x.b.ok Z) Dc (Cj Bv jJ _ _ r Z Z (fW Z))) (Am (v:=(pP (pB x.a.p) (pO x.a.p+(It (ts.getD t jJ) r)*6))) O (AQ (j:=It (ts.getD t jJ) r) O O x.a.ok underlying39 sizeOf86 O Z) (Am (v:=(aG (Ae ((x.rs.getD (It (ts.getD t jJ) r) EP).x)))) O (Ak (vs:=Ae ((x.rs.getD (It (ts.getD t jJ) r) EP).x)) (i:=1) O O (BG.ne x.a.ok Z) Ar (BE Bq EP _ _ Z) (Bq _)) (zD O (An O sizeOf86 O (zC (sl sr) (zP (zB (sL [6] O) (zA ?_)))))))))))
 exact zF (ret_one O (Ab (i:=0) (cs:=Ae ((x.rs.getD (It (ts.getD t jJ) r) EP).x)) O O isAgg86 sizeOf86 O) (λw hw=>(by rw [show BU ps (It (ts.getD t (0,0,0)) r)=(x.rs.getD (It (ts.getD t (0,0,0)) r) EP).p from (x.at hcr).symm];exact DU (a:=(x.rs.getD (It (ts.getD t (0,0,0)) r) EP).x) hw (Wa hw 5 O hcr (At.rnt lx)) O)))
theorem VL (a b c p:Pt):GS a b c p=CG a b c p:=by
 by_cases h:AF a b c=0
 ·rw [show GS a b c p=0 from if_pos h,show CG a b c p=0 from if_pos h]
 ·rw [show CG a b c p=_ from if_neg h];exact (VM h).symm
theorem MW {ps:List Pt} {ts:List T3} {ss:List Z3} (x:PJ ps ts ss) {v:Pt} (q:PX v) (t:Nat) (ht:t<ts.length) (hnb:Ek ps.length ts=true) (hz:∀k,BO (BU ps k)<=1000) (hv:BO v<=4000) (w:World) {S:Nat->Prop} (hq:Ro S w q) (hx:Ro S w x):Calls prog 52 #[(aG (E6 x)),(vN t),(aG (Ae q))] w (Ac w (vN (BZ ps v (ts.getD t (0,0,0))))):=by
 have z0:=hz ((ts.getD t (0,0,0)).1)
 have z1:=hz ((ts.getD t (0,0,0)).2.1)
 have z2:=hz ((ts.getD t (0,0,0)).2.2)
 have lq:=Bx (W:=w) hq
 have lx:=Bx (W:=w) hx
 refine AZ (args:=[(aG (E6 x)),(vN t),(aG (Ae q))]) (L:=(AM q.x.z.n::AM q.x.m::AM q.y.z.n::AM q.y.m::AI x.a.p (rowsL EE x.rs)::AI x.b.p (rowsL BC ts)::AI x.c.p (rowsL Bn ss)::DJ x.rs)) func52 O O (leB O) (Fc hq (YZ hx)) (zI (sL [0,1,2] O) (q4 (BH (cs:=E6 x) O λb1=>BH (cs:=Ae q) O λb2=>asg' O (q6 (sL [1,3,5,6] O) (B9 [(0,true),(1,true),(3,true),(4,true),(6,true),(7,true),(9,true),(2,false),(5,false),(8,false),(10,false),(11,true)] sr (B3 1 Ey O (Bi O (B3 1 Ey O (Bi O ?_)))))))))
 refine B3 1 Ey O (Bi O (B3 0 Ar O (zD O (cP (S:=S) (x:=(BU ps (ts.getD t (0,0,0)).1)) (args:=[(aG (E6 x)),(vN t),(vI 0)]) call95 (λw hw=>Ge x t 0 ht jY hnb w (Nm hw 6 O 9 O lx)) O O O λg1 lg1=>zC (sl (sl (sl (sl sr)))) (zD O (cP (S:=S) (x:=(BU ps (ts.getD t (0,0,0)).2.1)) (args:=[(aG (E6 x)),(vN t),(vI 1)]) call95 (λw hw=>Ge x t 1 ht jY hnb w (Nm hw 10 O 13 O lx)) O O O λg2 lg2=>zC (sl (sl (sl (sl (sl (sl (sl (sl sr)))))))) (zD O (cP (S:=S) (x:=(BU ps (ts.getD t (0,0,0)).2.2)) (args:=[(aG (E6 x)),(vN t),(vI 2)]) call95 (λw hw=>Ge x t 2 ht jY hnb w (Nm hw 14 O 17 O lx)) O O O λg3 lg3=>zC (sl (sl (sl (sl (sl (sl (sl (sl (sl (sl (sl (sl sr)))))))))))) ?_))))))))
 exact zD O (CQ (args:=[(aG (Ae g1)),(aG (Ae g2)),(aG (Ae g3)),(aG (Ae q))]) (v:=(vN (BZ ps v (ts.getD t (0,0,0))))) call94 (λw hw=>(by have h9:=R5 g1 g2 g3 q Z w (inS hw 8 O lg1) (inS hw 4 O lg2) (inS hw 0 O lg3) (inS hw 14 O lq);rw [VL] at h9;exact h9)) O (zC (sl (sl (sl (sl (sl (sl (sl (sl (sl (sl (sl (sl sr)))))))))))) (pS' O (zP (zB (sL [6] O) (zA (zF (ret_one O (rd_tmp (v:=(vN (BZ ps v (ts.getD t (0,0,0))))) O) (λw hw=>⟨rfl,hw.out⟩)))))))))
set_option maxHeartbeats 1000000 in
theorem Ry {ps:List Pt} {ts:List T3} {ss:List Z3} (x:PJ ps ts ss) {v:Pt} (q:PX v) (htl:ts.length<=1000000) (hN:ps.length<=1000000) (hnb:Ek ps.length ts=true) (hz:∀k,BO (BU ps k)<=1000) (hv:BO v<=4000) (w:World) {S:Nat->Prop} (hq:Ro S w q) (hx:Ro S w x):Calls prog 21 #[(aG (E6 x)),(aG (Ae q))] w (Ac w (Value.tuple #[(vI ((findAt ps v ts 0).1)),(vN ((findAt ps v ts 0).2))])):=by
 have lq:=Bx (W:=w) hq
 have lx:=Bx (W:=w) hx
 refine AZ (args:=[(aG (E6 x)),(aG (Ae q))]) (L:=(AM q.x.z.n::AM q.x.m::AM q.y.z.n::AM q.y.m::AI x.a.p (rowsL EE x.rs)::AI x.b.p (rowsL BC ts)::AI x.c.p (rowsL Bn ss)::DJ x.rs)) func21 O O (leB O) (Fc hq (YZ hx)) (zI (sL [0,1] O) (q4 (BH (cs:=E6 x) O λb1=>BH (cs:=Ae q) O λb2=>asg' O (asg' O (q6 (sL [2,3,4,5] O) (q4 (asg' O (oNl' (zA ?_)))))))))
 refine zM ?_
 refine yW (tg λ(t:Nat)=>t<=ts.length/\findAt ps v ts 0=findAt ps v (ts.drop t) t) (tg λ(t:Nat)=>[(2,(pP b1 0)),(3,(pP b2 0)),(6,(vN t))]) (tg λ(t:Nat)=>(AO b2 86 (Ae q)::AO b1 42 (E6 x)::AM q.x.z.n::AM q.x.m::AM q.y.z.n::AM q.y.m::AI x.a.p (rowsL EE x.rs)::AI x.b.p (rowsL BC ts)::AI x.c.p (rowsL Bn ss)::DJ x.rs)) (tg λ(t:Nat)=>ts.length-t) 0 (⟨xH _,rfl⟩) (sF O) sr (λt hJ=>?_)
 obtain ⟨ht,he⟩:=hJ
 refine zS (q4 (AK O (st' (v:=(pP b1 1)) (AA O underlying42 O sizeOf23 O) O (BL 1 (qz x.b.p ts.length x.b.c) Ez O (st' (v:=(vN ts.length)) (AD O underlying23) O (st' (Aa (c:=(decide (t<ts.length))) O O (DE (a:=t) (b:=ts.length))) O (AK O ?_)))))))
 refine zg (FM:=[(2,(pP b1 0)),(3,(pP b2 0)),(6,(vN t)),(7,(vN t)),(8,(pP b1 1)),(9,(qz x.b.p ts.length x.b.c)),(10,(vN ts.length)),(11,(qa (decide (t<ts.length)))),(12,(qa (decide (t<ts.length)))),(15,(qa (decide (t<ts.length))))]) (LM:=(AO b2 86 (Ae q)::AO b1 42 (E6 x)::AM q.x.z.n::AM q.x.m::AM q.y.z.n::AM q.y.m::AI x.a.p (rowsL EE x.rs)::AI x.b.p (rowsL BC ts)::AI x.c.p (rowsL Bn ss)::DJ x.rs)) 3 ?_ ?_
 ·rcases xO (decide (t<ts.length)) with hg1|hg1
  ·refine zN (k:=12) (u:=qa true) O (by rw [hg1]) ?_
   have hg1':=xR hg1
   exact BV (v:=(aG (E6 x))) O (AY (i:=1) (vs:=E6 x) O O Ey.a Ey.s O O) (zd (v:=(qa true)) (AE O) (Ag (args:=[(aG (E6 x))]) O O call51) (λw hw=>(by obtain ⟨y2,hy2,_,hro⟩:=bY x;have h9:=JS y2.rq (by rw [xI];omega) w (aX (hro (Nm hw 6 O 9 O lx)));rw [Nu,show Ek y2.rs.length ts=true from (by rw [y2.len];exact hnb),show Iu y2.rq=E6 x from hy2] at h9;exact h9)) O (leB O) (st' (v:=(qa true)) (ex_pick_true O O) O (oNl' (zT CT (xP _)))))
  ·refine zN (k:=12) (u:=qa false) O (by rw [hg1]) ?_
   have hg1':=xQ hg1
   exact BP O (BP O (st' (v:=(qa false)) (AN O O) O (oNl' (zT CT (xP _)))))
 refine oNl' (zB (sL [2,3,6,15] O) (zA ?_))
 refine zK O (λhc0=>?_) (λhc0=>?_)
 ·replace hc0:=xR hc0
  refine zG (q1 (zM (q4 (Af 1 Ey O (AK O (Af 0 Ar O (CQ call52 (λw hw=>MW x q t Z hnb hz hv w (inS hw 2 O lq) (Nm hw 6 O 9 O lx)) O (st' (CC (c:=(decide (0<(BZ ps v (ts.getD t (0,0,0)))))) O O (DE (a:=0) (b:=BZ ps v (ts.getD t (0,0,0))))) O (oNl' (zB (sL [2,3,6,22] O) (zA ?_)))))))))))
  refine zK O (λhc1=>?_) (λhc1=>?_)
  ·replace hc1:=xR hc1
   refine q4 (AK O (Af 1 Ey O (AK O (Af 0 Ar O (CQ call52 (λw hw=>MW x q t Z hnb hz hv w (inS hw 2 O lq) (Nm hw 6 O 9 O lx)) O (asg' O (asg' O (oNl' (zB (sL [2,3,6,4,5] O) (zA (zF ?_)))))))))))
   exact zV (zL (yG (zV (zL (Bl O (rd_tmp (v:=(vN t)) O) (rd_tmp (v:=(vN (BZ ps v (ts.getD t (0,0,0))))) O) (λw hw=>⟨by rw [he.trans (Ig Z Z)];try rfl,hw.out⟩))))))
  ·replace hc1:=xQ hc1
   exact zG (zJ (zA (zH (AK O (st' (AX (c:=((t+1:Nat):Int)) O O (AU (a:=t) (b:=1) Z)) O (asg' O (oNl' (zB (sL [2,3,6] O) (yJ (t+1) (⟨Z,he.trans (Hm Z Z)⟩) Z (sF O) sr)))))))))
 ·replace hc0:=xQ hc0
  exact zW (zO (zy (zR (q2 (asg' O (asg' O (oNl' (zA (zF (Bl O (rd_tmp (v:=(vI (-1:Int))) O) (rd_tmp (v:=(vI 0)) O) (λw hw=>⟨by rw [he,List.drop_eq_nil_of_le Z];try rfl,hw.out⟩)))))))))))
end
end Go.Proofs.YtcpkbjjmcleplaaGreatDoor
