import Derived.Test.YtcpkbjjmcleplaaGreatDoorPart37
namespace Go.Proofs.YtcpkbjjmcleplaaGreatDoor
open Go Go.RowKit Go.Proofs.Tryz
open Go.Value renaming slice→qz,bool→qa
set_option linter.unusedVariables false
set_option linter.unusedSimpArgs false
section
theorem WP (q:Rat):q.num.sign=0↔q=0:=by rw [Int.sign_eq_zero_iff_zero,Rat.num_eq_zero]
theorem Y3 (q:Rat):q.num.sign<=0↔q<=0:=by
  rcases N6 q 0 with h|h|h
  · rw [Fs h];exact ⟨λ_=>by grind,λ_=>by omega⟩
  · subst h;simp
  · rw [Ft h];exact ⟨λe=>by omega,λe=>by grind⟩
theorem Cr {a b:Rat} (ha:0<a) (hb:0<b):0<a*b:=Rat.mul_pos ha hb
theorem La {t T:Rat} (h:T≠0):t.num.sign=T.num.sign↔0<t/T:=by
  have e:t=(t/T)*T:=(Rat.div_mul_cancel h).symm
  generalize t/T=q at *
  subst e
  rcases N6 q 0 with h1|h1|h1<;>rcases N6 T 0 with h2|h2|h2
  · have h3:=Cr (a := -q) (b := -T) (by grind) (by grind)
    rw [Ft (q:=q*T) (by grind),Fs h2];exact ⟨λe=>by omega,λe=>by grind⟩
  · exact absurd h2 h
  · have h3:=Cr (a := -q) (b:=T) (by grind) (by grind)
    rw [Fs (q:=q*T) (by grind),Ft h2];exact ⟨λe=>by omega,λe=>by grind⟩
  · subst h1;rw [Rat.zero_mul,Fs h2];exact ⟨λe=>by simp at e,λe=>by grind⟩
  · exact absurd h2 h
  · subst h1;rw [Rat.zero_mul,Ft h2];exact ⟨λe=>by simp at e,λe=>by grind⟩
  · have h3:=Cr (a:=q) (b := -T) (by grind) (by grind)
    rw [Fs (q:=q*T) (by grind),Fs h2];exact ⟨λ_=>h1,λ_=>rfl⟩
  · exact absurd h2 h
  · have h3:=Cr h1 h2
    rw [Ft h3,Ft h2];exact ⟨λ_=>h1,λ_=>rfl⟩
theorem ff (a:Rat):0<=a*a:=by
  rcases N6 a 0 with h|h|h
  · have:=Cr (a := -a) (b := -a) (by grind) (by grind);grind
  · subst h;grind
  · have:=Cr h h;grind
theorem U4 {a b:Pt} {u v:Rat} (hn:a.x≠b.x\/a.y≠b.y) (h1:u+v=1) {p:Pt} (hx:p.x=a.x*u+b.x*v) (hy:p.y=a.y*u+b.y*v):Cq (a-p) (b-p)<=0↔0<=u/\0<=v:=by
  have e:Cq (a-p) (b-p) = -((u*v)*((a.x-b.x)*(a.x-b.x)+(a.y-b.y)*(a.y-b.y))):=by
    have hv:v=1-u:=by grind
    subst hv
    simp only [KL,G2,G3,hx,hy];grind
  have hp:0<(a.x-b.x)*(a.x-b.x)+(a.y-b.y)*(a.y-b.y):=by
    have k1:=ff (a.x-b.x);have k2:=ff (a.y-b.y)
    rcases hn with h|h
    · have:0<(a.x-b.x)*(a.x-b.x):=by
        rcases N6 (a.x-b.x) 0 with h3|h3|h3
        · have:=Cr (a := -(a.x-b.x)) (b := -(a.x-b.x)) (by grind) (by grind);grind
        · exact absurd (show a.x=b.x by grind) h
        · exact Cr h3 h3
      grind
    · have:0<(a.y-b.y)*(a.y-b.y):=by
        rcases N6 (a.y-b.y) 0 with h3|h3|h3
        · have:=Cr (a := -(a.y-b.y)) (b := -(a.y-b.y)) (by grind) (by grind);grind
        · exact absurd (show a.y=b.y by grind) h
        · exact Cr h3 h3
      grind
  rw [e]
  generalize (a.x-b.x)*(a.x-b.x)+(a.y-b.y)*(a.y-b.y)=D at *
  constructor
  · intro h
    refine ⟨?_,?_⟩
    · refine Classical.byContradiction λhu=>?_
      have h3:=Cr (Cr (a := -u) (b:=v) (by grind) (by grind)) hp
      grind
    · refine Classical.byContradiction λhv=>?_
      have h3:=Cr (Cr (a:=u) (b := -v) (by grind) (by grind)) hp
      grind
  · rintro ⟨hu,hv⟩
    have h3:0<=u*v:=Rat.mul_nonneg hu hv
    have h4:0<=(u*v)*D:=Rat.mul_nonneg h3 (by grind)
    grind
theorem Ev (a b c:Pt):AF b c a=AF a b c:=by simp only [B2];grind
theorem Vt {a b c p:Pt} (h:AF a b c≠0):Db a b p=decide (AF a b p/AF a b c=0/\0<=AF p b c/AF a b c/\0<=AF a p c/AF a b c):=by
  have h1:=RR (p:=p) h
  have h2:=Kh (p:=p) h
  have hn:a.x≠b.x\/a.y≠b.y:=by
    refine Classical.byContradiction λe=>h ?_
    have e1:a.x=b.x:=Classical.byContradiction λe2=>e (.inl e2)
    have e2:a.y=b.y:=Classical.byContradiction λe2=>e (.inr e2)
    simp only [B2,e1,e2];grind
  have h3:AF a b p/AF a b c=0↔AF a b p=0:=⟨λe=>by rw [<-Rat.div_mul_cancel (a:=AF a b p) h,e,Rat.zero_mul],λe=>by rw [e,Rat.div_def,Rat.zero_mul]⟩
  unfold Db
  rw [<-Bool.decide_and]
  refine decide_eq_decide.2 ?_
  rw [WP,Y3,<-h3]
  refine and_congr_right λhz=>?_
  rw [hz] at h1 h2
  refine U4 hn (by rw [<-h2,Rat.add_zero]) ?_ ?_
  · have:=congrArg Pt.x h1
    simp only [Kf,Gp] at this
    rw [<-this,Rat.mul_zero,Rat.add_zero]
  · have:=congrArg Pt.y h1
    simp only [Kg,Gq] at this
    rw [<-this,Rat.mul_zero,Rat.add_zero]
theorem N0 {a b c p:Pt} (h:AF a b c≠0):CG p a=decide (AF a p c/AF a b c=0/\AF a b p/AF a b c=0):=by
  have h1:=RR (p:=p) h
  have h2:=Kh (p:=p) h
  unfold CG
  rw [<-Bool.decide_and]
  refine decide_eq_decide.2 ⟨λ⟨hx,hy⟩=>?_,λ⟨hb,hc⟩=>?_⟩
  · have e:p=a:=Pt.ext hx hy
    subst e
    refine ⟨?_,?_⟩
    · rw [show AF p p c=0 by simp only [B2];grind,Rat.div_def,Rat.zero_mul]
    · rw [show AF p b p=0 by simp only [B2];grind,Rat.div_def,Rat.zero_mul]
  · rw [hb,hc] at h1 h2
    have e1:AF p b c/AF a b c=1:=by grind
    rw [e1] at h1
    have hx:=congrArg Pt.x h1
    have hy:=congrArg Pt.y h1
    simp only [Kf,Kg,Gp,Gq] at hx hy
    exact ⟨by grind,by grind⟩
theorem Pj {u v q:Rat} (h:u+v+q=1):Em u v q=if (decide (v=0/\q=0)||decide (q=0/\u=0)||decide (u=0/\v=0))=true then 3 else if (decide (q=0/\0<=u/\0<=v)||decide (u=0/\0<=v/\0<=q)||decide (v=0/\0<=q/\0<=u))=true then 2
    else if ((decide (0<q)&&decide (0<u))&&decide (0<v))=true then 1 else 0:=by
  have ne1:∀{x:Rat},x<0->¬x=0:=λh e=>by grind
  have ne2:∀{x:Rat},0<x->¬x=0:=λh e=>by grind
  have nl1:∀{x:Rat},x<0->¬0<=x:=λh e=>by grind
  have nl2:∀{x:Rat},x<0->¬0<x:=λh e=>by grind
  have pl:∀{x:Rat},0<x->0<=x:=λh=>by grind
  unfold Em zq
  rcases N6 u 0 with h1|h1|h1<;>rcases N6 v 0 with h2|h2|h2<;>rcases N6 q 0 with h3|h3|h3 <;>
    first
      | (exfalso;grind)
      | skip
  all_goals (try subst h1)
  all_goals (try subst h2)
  all_goals (try subst h3)
  all_goals simp [*,Fs,Ft,ne1,ne2,nl1,nl2,pl,Rat.le_refl,Rat.lt_irrefl]
theorem UA {a b c p:Pt} (h:AF a b c≠0):Em (AF p b c/AF a b c) (AF a p c/AF a b c) (AF a b p/AF a b c)=F0 a b c p:=by
  rw [Pj (Kh (p:=p) h)]
  unfold F0
  rw [if_neg h]
  have r1:AF b c a=AF a b c:=Ev a b c
  have r2:AF c a b=AF a b c:=(Ev b c a).trans r1
  have k1:AF b c p=AF p b c:=Ev p b c
  have k2:AF b p a=AF a b p:=Ev a b p
  have k3:AF c p b=AF p b c:=(Ev b c p).trans k1
  have k5:AF p c a=AF a p c:=Ev a p c
  have k4:AF c a p=AF a p c:=(Ev p c a).trans k5
  have k6:AF p a b=AF a b p:=(Ev b p a).trans k2
  have s1:=N0 (p:=p) h
  have s2:=N0 (a:=b) (b:=c) (c:=a) (p:=p) (by rw [r1];exact h)
  have s3:=N0 (a:=c) (b:=a) (c:=b) (p:=p) (by rw [r2];exact h)
  have o1:=Vt (p:=p) h
  have o2:=Vt (a:=b) (b:=c) (c:=a) (p:=p) (by rw [r1];exact h)
  have o3:=Vt (a:=c) (b:=a) (c:=b) (p:=p) (by rw [r2];exact h)
  rw [r1,k2,k1] at s2
  rw [r2,k3,k4] at s3
  rw [r1,k1,k5,k2] at o2
  rw [r2,k4,k6,k3] at o3
  rw [s1,s2,s3,o1,o2,o3,k1,k4,decide_eq_decide.2 (La (t:=AF a b p) h),decide_eq_decide.2 (La (t:=AF p b c) h),decide_eq_decide.2 (La (t:=AF a p c) h)]
section
variable {P:Program} {ops:Array Oper} {rest:List Oper} {Q:Exit->Act->World->Prop} {n d:Nat} {F:List (Nat×Value)} {w0:Av} {L:List As} {t:TypeId} {p:String} {af:Array Edge} {y:Operand} {f:FuncId} {xs:List Operand} {args:List Value} {ts:Array TypeId}
end
end
section
set_option maxRecDepth 100000
theorem GB {ps:List Pt} {ts:List T3} {ss:List Z3} (x:OG ps ts ss) (t r:Nat) (ht:t<ts.length) (hr:r<3) (hnb:EG ps.length ts=true) (w:World) {S:Nat->Prop} (hx:Ro S w x):Calls prog 95 #[(aG (Ec x)),(vN t),(vN r)] w (Ai (PX (BJ ps (IL (ts.getD t (0,0,0)) r))) S w):=by
 have hxl:=x.len
 have hcr:IL (ts.getD t (0,0,0)) r<x.rs.length:=by rw [hxl];exact Z1 (Np hnb ht) r
 have lx:=Bs (W:=w) hx
 refine AX (args:=[(aG (Ec x)),(vN t),(vN r)]) (L:=(AI x.a.p (rowsL Dp x.rs)::AI x.b.p (rowsL Bk ts)::AI x.c.p (rowsL BB ss)::DE x.rs)) func95 O O (leB O) (XF hx) (zG (sL [0,1,2] O) (q4 (A9 (cs:=Ec x) O λb1=>al I4 O λb2=>q6 (sL [1,2,3,6] O) (B8 (Ed 11++[(11,false)]) (sl sr) (Ao (v:=(pP b1 0)) O (AA O underlying42 O sizeOf39 O) (Cm 0 (qz x.a.p x.rs.length x.a.c) Tw O (Ao (v:=(pP b1 1)) O (AA O underlying42 O sizeOf23 O) (Cm 0 (qz x.b.p ts.length x.b.c) HY O (Bq O ?_)))))))))
 refine Bq O (Ao (v:=(pP (pB x.b.p) (pO x.b.p+t*3))) O (AU (j:=t) O O x.b.ok underlying23 sizeOf64 O Z) (Ao (v:=(pP (pB x.b.p) (pO x.b.p+(t*3+r)))) O (AC (j:=r) O O underlying64 sizeOf3 O Z (by rw [Nat.mul_one];exact Nat.add_assoc _ _ _)) (Ao O (Aj (v:=(vN (IL (ts.getD t jJ) r))) (i:=2) O O (BI.ne x.b.ok Z) Dr (EU Gs jJ _ _ r Z Z (dO Z))) (Ao (v:=(pP (pB x.a.p) (pO x.a.p+(IL (ts.getD t jJ) r)*6))) O (AU (j:=IL (ts.getD t jJ) r) O O x.a.ok underlying39 sizeOf86 O Z) (Ao (v:=(aG (AZ ((x.rs.getD (IL (ts.getD t jJ) r) Dv).x)))) O (Af (vs:=AZ ((x.rs.getD (IL (ts.getD t jJ) r) Dv).x)) (i:=1) O O (BI.ne x.a.ok Z) Ap (BG Bl Dv _ _ Z) (Bl _)) (zD O (Am O sizeOf86 O (zC (sl sr) (zP (zB (sL [6] O) (zA ?_)))))))))))
 exact zF (ret_one O (Aa (i:=0) (cs:=AZ ((x.rs.getD (IL (ts.getD t jJ) r) Dv).x)) O O isAgg86 sizeOf86 O) (λw hw=>(by rw [show BJ ps (IL (ts.getD t (0,0,0)) r)=(x.rs.getD (IL (ts.getD t (0,0,0)) r) Dv).p from (x.at hcr).symm];exact DC (a:=(x.rs.getD (IL (ts.getD t (0,0,0)) r) Dv).x) hw (VP hw 5 O hcr (At.rnt lx)) O)))
theorem T_ (a b c p:Pt):F0 a b c p=B3 a b c p:=by
 by_cases h:AF a b c=0
 ·rw [show F0 a b c p=0 from if_pos h,show B3 a b c p=0 from if_pos h]
 ·rw [show B3 a b c p=_ from if_neg h];exact (UA h).symm
theorem LZ {ps:List Pt} {ts:List T3} {ss:List Z3} (x:OG ps ts ss) {v:Pt} (q:PX v) (t:Nat) (ht:t<ts.length) (hnb:EG ps.length ts=true) (hz:∀k,BD (BJ ps k)<=1000) (hv:BD v<=4000) (w:World) {S:Nat->Prop} (hq:Ro S w q) (hx:Ro S w x):Calls prog 52 #[(aG (Ec x)),(vN t),(aG (AZ q))] w (AY w (vN (BR ps v (ts.getD t (0,0,0))))):=by
 have z0:=hz ((ts.getD t (0,0,0)).1)
 have z1:=hz ((ts.getD t (0,0,0)).2.1)
 have z2:=hz ((ts.getD t (0,0,0)).2.2)
 have lq:=Bs (W:=w) hq
 have lx:=Bs (W:=w) hx
 refine AX (args:=[(aG (Ec x)),(vN t),(aG (AZ q))]) (L:=(AM q.x.z.n::AM q.x.m::AM q.y.z.n::AM q.y.m::AI x.a.p (rowsL Dp x.rs)::AI x.b.p (rowsL Bk ts)::AI x.c.p (rowsL BB ss)::DE x.rs)) func52 O O (leB O) (E1 hq (XF hx)) (zG (sL [0,1,2] O) (q4 (A9 (cs:=Ec x) O λb1=>A9 (cs:=AZ q) O λb2=>asg' O (q6 (sL [1,3,5,6] O) (B8 [(0,true),(1,true),(3,true),(4,true),(6,true),(7,true),(9,true),(2,false),(5,false),(8,false),(10,false),(11,true)] sr (Bv 1 EW O (Bq O (Bv 1 EW O (Bq O ?_)))))))))
 refine Bv 1 EW O (Bq O (Bv 0 Ap O (zD O (cP (S:=S) (x:=(BJ ps (ts.getD t (0,0,0)).1)) (args:=[(aG (Ec x)),(vN t),(vI 0)]) call95 (λw hw=>GB x t 0 ht jY hnb w (Ms hw 6 O 9 O lx)) O O O λg1 lg1=>zC (sl (sl (sl (sl sr)))) (zD O (cP (S:=S) (x:=(BJ ps (ts.getD t (0,0,0)).2.1)) (args:=[(aG (Ec x)),(vN t),(vI 1)]) call95 (λw hw=>GB x t 1 ht jY hnb w (Ms hw 10 O 13 O lx)) O O O λg2 lg2=>zC (sl (sl (sl (sl (sl (sl (sl (sl sr)))))))) (zD O (cP (S:=S) (x:=(BJ ps (ts.getD t (0,0,0)).2.2)) (args:=[(aG (Ec x)),(vN t),(vI 2)]) call95 (λw hw=>GB x t 2 ht jY hnb w (Ms hw 14 O 17 O lx)) O O O λg3 lg3=>zC (sl (sl (sl (sl (sl (sl (sl (sl (sl (sl (sl (sl sr)))))))))))) ?_))))))))
 exact zD O (CC (args:=[(aG (AZ g1)),(aG (AZ g2)),(aG (AZ g3)),(aG (AZ q))]) (v:=(vN (BR ps v (ts.getD t (0,0,0))))) call94 (λw hw=>(by have h9:=Qr g1 g2 g3 q Z w (inS hw 8 O lg1) (inS hw 4 O lg2) (inS hw 0 O lg3) (inS hw 14 O lq);rw [T_] at h9;exact h9)) O (zC (sl (sl (sl (sl (sl (sl (sl (sl (sl (sl (sl (sl sr)))))))))))) (pS' O (zP (zB (sL [6] O) (zA (zF (ret_one O (rd_tmp (v:=(vN (BR ps v (ts.getD t (0,0,0))))) O) (λw hw=>⟨rfl,hw.out⟩)))))))))
set_option maxHeartbeats 1000000 in
theorem Qm {ps:List Pt} {ts:List T3} {ss:List Z3} (x:OG ps ts ss) {v:Pt} (q:PX v) (htl:ts.length<=1000000) (hN:ps.length<=1000000) (hnb:EG ps.length ts=true) (hz:∀k,BD (BJ ps k)<=1000) (hv:BD v<=4000) (w:World) {S:Nat->Prop} (hq:Ro S w q) (hx:Ro S w x):Calls prog 21 #[(aG (Ec x)),(aG (AZ q))] w (AY w (Value.tuple #[(vI ((findAt ps v ts 0).1)),(vN ((findAt ps v ts 0).2))])):=by
 have lq:=Bs (W:=w) hq
 have lx:=Bs (W:=w) hx
 refine AX (args:=[(aG (Ec x)),(aG (AZ q))]) (L:=(AM q.x.z.n::AM q.x.m::AM q.y.z.n::AM q.y.m::AI x.a.p (rowsL Dp x.rs)::AI x.b.p (rowsL Bk ts)::AI x.c.p (rowsL BB ss)::DE x.rs)) func21 O O (leB O) (E1 hq (XF hx)) (zG (sL [0,1] O) (q4 (A9 (cs:=Ec x) O λb1=>A9 (cs:=AZ q) O λb2=>asg' O (asg' O (q6 (sL [2,3,4,5] O) (q4 (asg' O (oNl' (zA ?_)))))))))
 refine zN ?_
 refine yO (tg λ(t:Nat)=>t<=ts.length/\findAt ps v ts 0=findAt ps v (ts.drop t) t) (tg λ(t:Nat)=>[(2,(pP b1 0)),(3,(pP b2 0)),(6,(vN t))]) (tg λ(t:Nat)=>(AQ b2 86 (AZ q)::AQ b1 42 (Ec x)::AM q.x.z.n::AM q.x.m::AM q.y.z.n::AM q.y.m::AI x.a.p (rowsL Dp x.rs)::AI x.b.p (rowsL Bk ts)::AI x.c.p (rowsL BB ss)::DE x.rs)) (tg λ(t:Nat)=>ts.length-t) 0 (⟨xH _,rfl⟩) (sF O) sr (λt hJ=>?_)
 obtain ⟨ht,he⟩:=hJ
 refine zV (q4 (AL O (st' (v:=(pP b1 1)) (AA O underlying42 O sizeOf23 O) O (BZ 1 (qz x.b.p ts.length x.b.c) HY O (st' (v:=(vN ts.length)) (AD O underlying23) O (st' (Ag (c:=(decide (t<ts.length))) O O (DL (a:=t) (b:=ts.length))) O (AL O ?_)))))))
 refine zg (FM:=[(2,(pP b1 0)),(3,(pP b2 0)),(6,(vN t)),(7,(vN t)),(8,(pP b1 1)),(9,(qz x.b.p ts.length x.b.c)),(10,(vN ts.length)),(11,(qa (decide (t<ts.length)))),(12,(qa (decide (t<ts.length)))),(15,(qa (decide (t<ts.length))))]) (LM:=(AQ b2 86 (AZ q)::AQ b1 42 (Ec x)::AM q.x.z.n::AM q.x.m::AM q.y.z.n::AM q.y.m::AI x.a.p (rowsL Dp x.rs)::AI x.b.p (rowsL Bk ts)::AI x.c.p (rowsL BB ss)::DE x.rs)) 3 ?_ ?_
 ·rcases xO (decide (t<ts.length)) with hg1|hg1
  ·refine zJ (k:=12) (u:=qa true) O (by rw [hg1]) ?_
   have hg1':=xR hg1
   exact BN (v:=(aG (Ec x))) O (AW (i:=1) (vs:=Ec x) O O EW.a EW.s O O) (zc (v:=(qa true)) (AE O) (Ac (args:=[(aG (Ec x))]) O O call51) (λw hw=>(by obtain ⟨y2,hy2,_,hro⟩:=Zh x;have h9:=Iv y2.rq (by rw [xI];omega) w (Yy (hro (Ms hw 6 O 9 O lx)));rw [M1,show EG y2.rs.length ts=true from (by rw [y2.len];exact hnb),show IM y2.rq=Ec x from hy2] at h9;exact h9)) O (leB O) (st' (v:=(qa true)) (ex_pick_true O O) O (oNl' (zS CK (xP _)))))
  ·refine zJ (k:=12) (u:=qa false) O (by rw [hg1]) ?_
   have hg1':=xQ hg1
   exact BF O (BF O (st' (v:=(qa false)) (AN O O) O (oNl' (zS CK (xP _)))))
 refine oNl' (zB (sL [2,3,6,15] O) (zA ?_))
 refine zK O (λhc0=>?_) (λhc0=>?_)
 ·replace hc0:=xR hc0
  refine zI (q1 (zN (q4 (Ah 1 EW O (AL O (Ah 0 Ap O (CC call52 (λw hw=>LZ x q t Z hnb hz hv w (inS hw 2 O lq) (Ms hw 6 O 9 O lx)) O (st' (Bu (c:=(decide (0<(BR ps v (ts.getD t (0,0,0)))))) O O (DL (a:=0) (b:=BR ps v (ts.getD t (0,0,0))))) O (oNl' (zB (sL [2,3,6,22] O) (zA ?_)))))))))))
  refine zK O (λhc1=>?_) (λhc1=>?_)
  ·replace hc1:=xR hc1
   refine q4 (AL O (Ah 1 EW O (AL O (Ah 0 Ap O (CC call52 (λw hw=>LZ x q t Z hnb hz hv w (inS hw 2 O lq) (Ms hw 6 O 9 O lx)) O (asg' O (asg' O (oNl' (zB (sL [2,3,6,4,5] O) (zA (zF ?_)))))))))))
   exact zT (zH (zy (zT (zH (Bf O (rd_tmp (v:=(vN t)) O) (rd_tmp (v:=(vN (BR ps v (ts.getD t (0,0,0))))) O) (λw hw=>⟨by rw [he.trans (H_ Z Z)];try rfl,hw.out⟩))))))
  ·replace hc1:=xQ hc1
   exact zI (zM (zA (zL (AL O (st' (Ad (c:=((t+1:Nat):Int)) O O (Ab (a:=t) (b:=1) Z)) O (asg' O (oNl' (zB (sL [2,3,6] O) (yC (t+1) (⟨Z,he.trans (HK Z Z)⟩) Z (sF O) sr)))))))))
 ·replace hc0:=xQ hc0
  exact zW (zO (zn (zR (q2 (asg' O (asg' O (oNl' (zA (zF (Bf O (rd_tmp (v:=(vI (-1:Int))) O) (rd_tmp (v:=(vI 0)) O) (λw hw=>⟨by rw [he,List.drop_eq_nil_of_le Z];try rfl,hw.out⟩)))))))))))
end
end Go.Proofs.YtcpkbjjmcleplaaGreatDoor
