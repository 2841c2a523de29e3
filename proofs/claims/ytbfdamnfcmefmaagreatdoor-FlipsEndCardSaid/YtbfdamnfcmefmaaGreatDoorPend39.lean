import Derived.Test.YtbfdamnfcmefmaaGreatDoorPend35
namespace Go.Proofs.YtbfdamnfcmefmaaGreatDoor
open Go Go.RowKit Go.Proofs.Tryz
open Go.Value renaming slice→qz,bool→qa
set_option linter.unusedVariables false
set_option linter.unusedSimpArgs false
structure Hp where
  a:Rat
  b:Rat
  c:Rat
def Hp.v (h:Hp) (p:Pt):Rat:=h.a*p.x+h.b*p.y+h.c
def Ga (K:List Hp) (p:Pt):Prop:=∀h∈K,0<h.v p
theorem Cq {h:Hp} {K:List Hp} {p:Pt}:Ga (h::K) p↔0<h.v p/\Ga K p:=by
  unfold Ga
  constructor
  · intro k
    exact ⟨k h List.mem_cons_self,λg hg=>k g (List.mem_cons_of_mem _ hg)⟩
  · rintro ⟨k1,k2⟩ g hg
    rcases xN.1 hg with rfl|hg
    · exact k1
    · exact k2 g hg
theorem KH {p:Pt}:Ga [] p:=λh hh=>by cases hh
theorem dY (p q r s:Pt):∃c1 c2 c3 c4:Rat,c1+c2+c3+c4=0/\c1*p.x+c2*q.x+c3*r.x+c4*s.x=0/\c1*p.y+c2*q.y+c3*r.y+c4*s.y=0/\(c1≠0\/c2≠0\/c3≠0\/c4≠0):=by
  by_cases h:AC q r s=0/\AC p r s=0/\AC p q s=0/\AC p q r=0
  · obtain ⟨h1,h2,h3,h4⟩:=h
    simp only [BC] at h1 h2 h3 h4
    by_cases hx:p.x=q.x
    · by_cases hy:p.y=q.y
      · exact ⟨1,-1,0,0,by grind,by grind,by grind,.inl jY⟩
      · refine ⟨q.y-r.y,r.y-p.y,p.y-q.y,0,by grind,by grind,by grind,?_⟩
        exact .inr (.inr (.inl (by grind)))
    · refine ⟨q.x-r.x,r.x-p.x,p.x-q.x,0,by grind,by grind,by grind,?_⟩
      exact .inr (.inr (.inl (by grind)))
  · refine ⟨AC q r s,- AC p r s,AC p q s,- AC p q r,?_,?_,?_,?_⟩
    · simp only [BC];grind
    · simp only [BC];grind
    · simp only [BC];grind
    · grind
theorem PP {u v w A B C:Rat} (hu:0<=u) (hv:0<=v) (hw:0<=w) (hs:0<u+v+w) (hA:0<A) (hB:0<B) (hC:0<C):0<u*A+v*B+w*C:=by
  have h1:=Rat.mul_nonneg hu (Rat.le_of_lt hA)
  have h2:=Rat.mul_nonneg hv (Rat.le_of_lt hB)
  have h3:=Rat.mul_nonneg hw (Rat.le_of_lt hC)
  by_cases e1:0<u
  · have:=Rat.mul_pos e1 hA;grind
  · by_cases e2:0<v
    · have:=Rat.mul_pos e2 hB;grind
    · have e3:0<w:=by grind
      have:=Rat.mul_pos e3 hC;grind
def XJ (c:Rat):Rat:=if 0<c then c else 0
def XI (c:Rat):Rat:=if 0<c then 0 else -c
theorem OI (c:Rat):0<=XJ c:=by unfold XJ;split<;>grind
theorem OH (c:Rat):0<=XI c:=by unfold XI;split<;>grind
theorem Yt (c:Rat):c=XJ c-XI c:=by unfold XJ XI;split<;>grind
theorem Ry (c:Rat):XJ c=0\/XI c=0:=by unfold XJ XI;split<;>grind
theorem Qp {H1 H2 H3 H4:List Hp} {p q r s:Pt} (p2:Ga H2 p) (p3:Ga H3 p) (p4:Ga H4 p) (q1:Ga H1 q) (q3:Ga H3 q) (q4:Ga H4 q) (r1:Ga H1 r) (r2:Ga H2 r) (r4:Ga H4 r) (s1:Ga H1 s) (s2:Ga H2 s) (s3:Ga H3 s) :
    ∃x,Ga H1 x/\Ga H2 x/\Ga H3 x/\Ga H4 x:=by
  obtain ⟨c1,c2,c3,c4,h0,hx,hy,hne⟩:=dY p q r s
  have d1:=OI c1;have d2:=OI c2;have d3:=OI c3;have d4:=OI c4
  have e1:=OH c1;have e2:=OH c2;have e3:=OH c3;have e4:=OH c4
  have k1:=Yt c1;have k2:=Yt c2;have k3:=Yt c3;have k4:=Yt c4
  have z1:=Ry c1;have z2:=Ry c2;have z3:=Ry c3;have z4:=Ry c4
  generalize XJ c1=u1 at *
  generalize XJ c2=u2 at *
  generalize XJ c3=u3 at *
  generalize XJ c4=u4 at *
  generalize XI c1=v1 at *
  generalize XI c2=v2 at *
  generalize XI c3=v3 at *
  generalize XI c4=v4 at *
  have hS:0<u1+u2+u3+u4:=by grind
  have hT:v1+v2+v3+v4=u1+u2+u3+u4:=by grind
  obtain ⟨S,hSe⟩:∃S,S=u1+u2+u3+u4:=⟨_,rfl⟩
  have hSp:0<S:=by rw [hSe];exact hS
  have hi:S⁻¹*S=1:=Rat.inv_mul_cancel _ (by grind)
  have hip:0<S⁻¹:=Rat.inv_pos.2 hSp
  refine ⟨⟨(u1*p.x+u2*q.x+u3*r.x+u4*s.x)*S⁻¹,(u1*p.y+u2*q.y+u3*r.y+u4*s.y)*S⁻¹⟩,?_⟩
  have hv:∀h:Hp,h.v ⟨(u1*p.x+u2*q.x+u3*r.x+u4*s.x)*S⁻¹,(u1*p.y+u2*q.y+u3*r.y+u4*s.y)*S⁻¹⟩=(u1*h.v p+u2*h.v q+u3*h.v r+u4*h.v s)*S⁻¹:=λh=>by
    unfold Hp.v
    show h.a*((u1*p.x+u2*q.x+u3*r.x+u4*s.x)*S⁻¹)+h.b*((u1*p.y+u2*q.y+u3*r.y+u4*s.y)*S⁻¹)+h.c=_
    have:h.c=h.c*(S⁻¹*S):=by rw [hi,Rat.mul_one]
    rw [this,hSe]
    grind
  have hw:∀h:Hp,u1*h.v p+u2*h.v q+u3*h.v r+u4*h.v s=v1*h.v p+v2*h.v q+v3*h.v r+v4*h.v s:=λh=>by
    unfold Hp.v
    have y1:(u1-v1)*p.x+(u2-v2)*q.x+(u3-v3)*r.x+(u4-v4)*s.x=0:=by rw [<-k1,<-k2,<-k3,<-k4];exact hx
    have y2:(u1-v1)*p.y+(u2-v2)*q.y+(u3-v3)*r.y+(u4-v4)*s.y=0:=by rw [<-k1,<-k2,<-k3,<-k4];exact hy
    grind
  have mk:∀(h:Hp),0<u1*h.v p+u2*h.v q+u3*h.v r+u4*h.v s->0<h.v ⟨(u1*p.x+u2*q.x+u3*r.x+u4*s.x)*S⁻¹,(u1*p.y+u2*q.y+u3*r.y+u4*s.y)*S⁻¹⟩:=λh hp=>by
    rw [hv];exact Rat.mul_pos hp hip
  refine ⟨λh hh=>mk h ?_,λh hh=>mk h ?_,λh hh=>mk h ?_,λh hh=>mk h ?_⟩
  · rcases z1 with z|z
    · have:=PP d2 d3 d4 (by grind) (q1 h hh) (r1 h hh) (s1 h hh);rw [z];grind
    · rw [hw];have:=PP e2 e3 e4 (by grind) (q1 h hh) (r1 h hh) (s1 h hh);rw [z];grind
  · rcases z2 with z|z
    · have:=PP d1 d3 d4 (by grind) (p2 h hh) (r2 h hh) (s2 h hh);rw [z];grind
    · rw [hw];have:=PP e1 e3 e4 (by grind) (p2 h hh) (r2 h hh) (s2 h hh);rw [z];grind
  · rcases z3 with z|z
    · have:=PP d1 d2 d4 (by grind) (p3 h hh) (q3 h hh) (s3 h hh);rw [z];grind
    · rw [hw];have:=PP e1 e2 e4 (by grind) (p3 h hh) (q3 h hh) (s3 h hh);rw [z];grind
  · rcases z4 with z|z
    · have:=PP d1 d2 d3 (by grind) (p4 h hh) (q4 h hh) (r4 h hh);rw [z];grind
    · rw [hw];have:=PP e1 e2 e3 (by grind) (p4 h hh) (q4 h hh) (r4 h hh);rw [z];grind
theorem aA {f1 f2 f3 g1 g2 g3:Hp} {a1 a2 a3 b1 b2 b3:Pt} (ha1:Ga [f1,g1,g2,g3] a1) (ha2:Ga [f2,g1,g2,g3] a2) (ha3:Ga [f3,g1,g2,g3] a3) (hb1:Ga [g1,f1,f2,f3] b1) (hb2:Ga [g2,f1,f2,f3] b2) (hb3:Ga [g3,f1,f2,f3] b3):∃x,Ga [f1,f2,f3] x/\Ga [g1,g2,g3] x:=by
  simp only [Cq] at ha1 ha2 ha3 hb1 hb2 hb3
  obtain ⟨x11,x12,x13,x14,_⟩:=ha1
  obtain ⟨x21,x22,x23,x24,_⟩:=ha2
  obtain ⟨x31,x32,x33,x34,_⟩:=ha3
  obtain ⟨y11,y12,y13,y14,_⟩:=hb1
  obtain ⟨y21,y22,y23,y24,_⟩:=hb2
  obtain ⟨y31,y32,y33,y34,_⟩:=hb3
  have one:∀{h:Hp} {p:Pt},0<h.v p->Ga [h] p:=λh=>Cq.2 ⟨h,KH⟩
  have two:∀{h g:Hp} {p:Pt},0<h.v p->0<g.v p->Ga [h,g] p:=λh k=>Cq.2 ⟨h,Cq.2 ⟨k,KH⟩⟩
  have un:∀{h:Hp} {p:Pt},Ga [h] p->0<h.v p:=λh=>(Cq.1 h).1
  have un2:∀{h g:Hp} {p:Pt},Ga [h,g] p->0<h.v p/\0<g.v p:=λh=>⟨(Cq.1 h).1,(Cq.1 (Cq.1 h).2).1⟩
  -- two of the one and two of the other
  have D:∀{fi fj:Hp} {p q:Pt},(0<fi.v p/\0<g2.v p/\0<g3.v p)->(0<fj.v q/\0<g2.v q/\0<g3.v q)->(0<fi.v b2/\0<fj.v b2)->(0<fi.v b3/\0<fj.v b3)->∃x,0<fi.v x/\0<fj.v x/\0<g2.v x/\0<g3.v x:=λ{fi fj p q} hp hq h2 h3=>by
    obtain ⟨x,e1,e2,e3,e4⟩:=Qp (H1:=[fi]) (H2:=[fj]) (H3:=[g2]) (H4:=[g3]) (p:=q) (q:=p) (r:=b3) (s:=b2) (one hq.1) (one hq.2.1) (one hq.2.2) (one hp.1) (one hp.2.1) (one hp.2.2) (one h3.1) (one h3.2) (one y31) (one h2.1) (one h2.2) (one y21)
    exact ⟨x,un e1,un e2,un e3,un e4⟩
  -- two of the one and all of the other
  have E:∀{fi fj:Hp} {p q:Pt},(0<fi.v p/\0<g1.v p/\0<g2.v p/\0<g3.v p)->(0<fj.v q/\0<g1.v q/\0<g2.v q/\0<g3.v q)->(0<fi.v b1/\0<fj.v b1)->(0<fi.v b2/\0<fj.v b2)->(0<fi.v b3/\0<fj.v b3)->∃x,0<fi.v x/\0<fj.v x/\0<g1.v x/\0<g2.v x/\0<g3.v x:=λ{fi fj p q} hp hq h1 h2 h3=>by
    obtain ⟨r,r1,r2,r3,r4⟩:=D ⟨hp.1,hp.2.2.1,hp.2.2.2⟩ ⟨hq.1,hq.2.2.1,hq.2.2.2⟩ h2 h3
    obtain ⟨x,e1,e2,e3,e4⟩:=Qp (H1:=[fi]) (H2:=[fj]) (H3:=[g1]) (H4:=[g2,g3]) (p:=q) (q:=p) (r:=r) (s:=b1) (one hq.1) (one hq.2.1) (two hq.2.2.1 hq.2.2.2) (one hp.1) (one hp.2.1) (two hp.2.2.1 hp.2.2.2) (one r1) (one r2) (two r3 r4) (one h1.1) (one h1.2) (one y11)
    exact ⟨x,un e1,un e2,un e3,(un2 e4).1,(un2 e4).2⟩
  obtain ⟨p,p1,p2,p3,p4,p5⟩:=E ⟨x21,x22,x23,x24⟩ ⟨x31,x32,x33,x34⟩ ⟨y13,y14⟩ ⟨y23,y24⟩ ⟨y33,y34⟩
  obtain ⟨q,q1,q2,q3,q4,q5⟩:=E ⟨x11,x12,x13,x14⟩ ⟨x31,x32,x33,x34⟩ ⟨y12,y14⟩ ⟨y22,y24⟩ ⟨y32,y34⟩
  obtain ⟨r,r1,r2,r3,r4,r5⟩:=E ⟨x11,x12,x13,x14⟩ ⟨x21,x22,x23,x24⟩ ⟨y12,y13⟩ ⟨y22,y23⟩ ⟨y32,y33⟩
  have thr:∀{h g k:Hp} {p:Pt},0<h.v p->0<g.v p->0<k.v p->Ga [h,g,k] p:=λa b c=>Cq.2 ⟨a,Cq.2 ⟨b,Cq.2 ⟨c,KH⟩⟩⟩
  obtain ⟨x,e1,e2,e3,e4⟩:=Qp (H1:=[f1]) (H2:=[f2]) (H3:=[f3]) (H4:=[g1,g2,g3]) (p:=p) (q:=q) (r:=r) (s:=b1) (one p1) (one p2) (thr p3 p4 p5) (one q1) (one q2) (thr q3 q4 q5) (one r1) (one r2) (thr r3 r4 r5) (one y12) (one y13) (one y14)
  exact ⟨x,thr (un e1) (un e2) (un e3),e4⟩
theorem d_ {f g1 g2 g3:Hp} {b g:Pt} (hf:0<f.v b) (h1:0<=g1.v b) (h2:0<=g2.v b) (h3:0<=g3.v b) (k1:0<g1.v g) (k2:0<g2.v g) (k3:0<g3.v g):∃x,Ga [f,g1,g2,g3] x:=by
  have mk:∀e:Rat,0<e->e<=1->0<(1-e)*f.v b+e*f.v g->∃x,Ga [f,g1,g2,g3] x:=λe e0 e1 hp=>by
    refine ⟨⟨(1-e)*b.x+e*g.x,(1-e)*b.y+e*g.y⟩,?_⟩
    have hv:∀h:Hp,h.v ⟨(1-e)*b.x+e*g.x,(1-e)*b.y+e*g.y⟩=(1-e)*h.v b+e*h.v g:=λh=>by unfold Hp.v;grind
    have hn:∀h:Hp,0<=h.v b->0<h.v g->0<(1-e)*h.v b+e*h.v g:=λh y1 y2=>by
      have y3:=Rat.mul_nonneg (show 0<=1-e by grind) y1
      have y4:=Rat.mul_pos e0 y2
      grind
    simp only [Cq]
    refine ⟨by rw [hv];exact hp,by rw [hv];exact hn _ h1 k1,by rw [hv];exact hn _ h2 k2,by rw [hv];exact hn _ h3 k3,KH⟩
  by_cases hg:0<f.v g
  · exact mk 1 jY jY (by grind)
  · have hd:0<2*(f.v b-f.v g):=by grind
    have hi:(2*(f.v b-f.v g))⁻¹*(2*(f.v b-f.v g))=1:=Rat.inv_mul_cancel _ (by grind)
    have hip:0<(2*(f.v b-f.v g))⁻¹:=Rat.inv_pos.2 hd
    generalize (2*(f.v b-f.v g))⁻¹=z at *
    generalize f.v b=B at *
    generalize f.v g=G at *
    have h9:z*B=(1:Rat)/2+z*G:=by grind
    have h8:0<=z*(-G):=Rat.mul_nonneg (by grind) (by grind)
    have hz:0<z*B:=Rat.mul_pos hip hf
    have hB2:=Rat.mul_pos hz hf
    refine mk (z*B) hz (by grind) ?_
    have e1:(1-z*B)*B+z*B*G=B-B*(z*(B-G)):=by grind
    have e2:z*(B-G)=1/2:=by grind
    rw [e1,e2];grind
section
def tv (e:Pt×Pt) (x:Pt):Rat:=AC e.1 e.2 x
def E3 (a b c:Pt):List (Pt×Pt):=[(a,b),(b,c),(c,a)]
theorem N_ {a b c:Pt} {g:Pt×Pt}:g∈E3 a b c↔g=(a,b)\/g=(b,c)\/g=(c,a):=by unfold E3;simp
def XB (p q:Pt):Hp:=⟨-(q.y-p.y),q.x-p.x,(q.y-p.y)*p.x-(q.x-p.x)*p.y⟩
theorem Gr (p q x:Pt):(XB p q).v x=AC p q x:=by unfold Hp.v XB;simp only [BC];grind
theorem GW (a b:Pt):AC a b a=0:=by simp only [BC];grind
theorem G_ (a b:Pt):AC a b b=0:=by simp only [BC];grind
theorem He (a b c:Pt):AC b a c = - AC a b c:=by simp only [BC];grind
def ZP (a b c:Pt):Pt:=⟨(a.x+(b.x+c.x))*(1/3),(a.y+(b.y+c.y))*(1/3)⟩
theorem Wv (a b c:Pt):AC a b (ZP a b c)=AC a b c*(1/3):=by unfold ZP;simp only [BC];grind
theorem TQ (a b c:Pt):AC b c (ZP a b c)=AC a b c*(1/3):=by unfold ZP;simp only [BC];grind
theorem TR (a b c:Pt):AC c a (ZP a b c)=AC a b c*(1/3):=by unfold ZP;simp only [BC];grind
section
variable {a b c d e f X Y p q r:Pt}
def Ho (a b c X:Pt):Prop:=0<AC a b X/\0<AC b c X/\0<AC c a X
def ER (a b c X:Pt):Prop:=AC a b X<0\/AC b c X<0\/AC c a X<0
theorem YJ (hA:0<AC a b c):Ho a b c (ZP a b c):=by
  unfold Ho
  rw [Wv,TQ,TR]
  have:=Rat.mul_pos hA (show (0:Rat)<1/3 by decide +kernel)
  exact ⟨this,this,this⟩
theorem E5 (hB:0<AC d e f) (h:0<AC p q d\/0<AC p q e\/0<AC p q f):∃x,Ga [XB p q,XB d e,XB e f,XB f d] x:=by
  obtain ⟨k1,k2,k3⟩:=YJ hB
  have c1:=BZ d e f
  have c2:=BZ e f d
  have mk:∀t,0<AC p q t->0<=AC d e t->0<=AC e f t->0<=AC f d t->∃x,Ga [XB p q,XB d e,XB e f,XB f d] x:=λt h0 h1 h2 h3 =>
    d_ (b:=t) (g:=ZP d e f) (by rw [Gr];exact h0) (by rw [Gr];exact h1) (by rw [Gr];exact h2) (by rw [Gr];exact h3) (by rw [Gr];exact k1) (by rw [Gr];exact k2) (by rw [Gr];exact k3)
  rcases h with h|h|h
  · exact mk d h (by rw [GW];exact Rat.le_refl) (by rw [c1];exact Rat.le_of_lt hB) (by rw [G_];exact Rat.le_refl)
  · exact mk e h (by rw [G_];exact Rat.le_refl) (by rw [GW];exact Rat.le_refl) (by rw [c2,c1];exact Rat.le_of_lt hB)
  · exact mk f h (Rat.le_of_lt hB) (by rw [G_];exact Rat.le_refl) (by rw [GW];exact Rat.le_refl)
theorem bR (h:¬(AC p q d<=0/\AC p q e<=0/\AC p q f<=0)):0<AC p q d\/0<AC p q e\/0<AC p q f:=by grind
theorem Zz (hA:0<AC a b c) (hB:0<AC d e f) (h1:¬Fl a b c d e f) (h2:¬Fl d e f a b c):∃X,Ho a b c X/\Ho d e f X:=by
  unfold Fl at h1 h2
  obtain ⟨a1,ha1⟩:=E5 (p:=a) (q:=b) hB (bR λk=>h1 (.inl k))
  obtain ⟨a2,ha2⟩:=E5 (p:=b) (q:=c) hB (bR λk=>h1 (.inr (.inl k)))
  obtain ⟨a3,ha3⟩:=E5 (p:=c) (q:=a) hB (bR λk=>h1 (.inr (.inr k)))
  obtain ⟨b1,hb1⟩:=E5 (p:=d) (q:=e) hA (bR λk=>h2 (.inl k))
  obtain ⟨b2,hb2⟩:=E5 (p:=e) (q:=f) hA (bR λk=>h2 (.inr (.inl k)))
  obtain ⟨b3,hb3⟩:=E5 (p:=f) (q:=d) hA (bR λk=>h2 (.inr (.inr k)))
  obtain ⟨x,x1,x2⟩:=aA ha1 ha2 ha3 hb1 hb2 hb3
  simp only [Cq,Gr] at x1 x2
  exact ⟨x,⟨x1.1,x1.2.1,x1.2.2.1⟩,x2.1,x2.2.1,x2.2.2.1⟩
theorem Pk {u v s t:Rat} (hu:0<u) (hs:0<s) (hst:s<=t) (h:0<=(1-t)*u+t*v):0<=(1-s)*u+s*v:=by
  by_cases hv:0<=v-u
  · have:=Rat.mul_nonneg (Rat.le_of_lt hs) hv;grind
  · have h1:0<=(t-s)*(u-v):=Rat.mul_nonneg (by grind) (by grind)
    grind
theorem eH {u v t:Rat} (hu:0<u) (ht:0<t) (ht1:t<=1) (h:(1-t)*u+t*v<0):∃s,0<s/\s<t/\v<0/\(1-s)*u+s*v=0:=by
  have hv:v<0:=by
    by_cases k:v<0
    · exact k
    · have h1:=Rat.mul_nonneg (show 0<=1-t by grind) (Rat.le_of_lt hu)
      have h2:=Rat.mul_nonneg (Rat.le_of_lt ht) (show 0<=v by grind)
      grind
  have hd:0<u-v:=by grind
  have hi:(u-v)⁻¹*(u-v)=1:=Rat.inv_mul_cancel _ (by grind)
  have hip:0<(u-v)⁻¹:=Rat.inv_pos.2 hd
  generalize (u-v)⁻¹=z at *
  have h1:0<z*u:=Rat.mul_pos hip hu
  have e1:(1-z*u)*u+z*u*v=0:=by
    have:(1-z*u)*u+z*u*v=u-u*(z*(u-v)):=by grind
    rw [this,hi];grind
  have h3:0<t*(u-v)-u:=by grind
  have h4:0<z*(t*(u-v)-u):=Rat.mul_pos hip h3
  have h5:z*(t*(u-v)-u)=t*(z*(u-v))-z*u:=by grind
  have hlt:z*u<t:=by rw [h5,hi] at h4;grind
  exact ⟨z*u,h1,hlt,hv,e1⟩
theorem br {u1 v1 u2 v2 u3 v3:Rat} (h1:0<u1) (h2:0<u2) (h3:0<u3) (hn:v1<0\/v2<0\/v3<0) :
    ∃t,0<t/\t<1/\0<=(1-t)*u1+t*v1/\0<=(1-t)*u2+t*v2/\0<=(1-t)*u3+t*v3/\((v1<0/\(1-t)*u1+t*v1=0)\/(v2<0/\(1-t)*u2+t*v2=0)\/(v3<0/\(1-t)*u3+t*v3=0)):=by
  have step:∀{u v t:Rat},0<u->0<t->t<=1->∃s,0<s/\s<=t/\0<=(1-s)*u+s*v/\(s=t\/(s<t/\v<0/\(1-s)*u+s*v=0)):=λ{u v t} hu ht ht1=>by
    by_cases k:0<=(1-t)*u+t*v
    · exact ⟨t,ht,Rat.le_refl,k,.inl O⟩
    · obtain ⟨s,s1,s2,s3,s4⟩:=eH hu ht ht1 (v:=v) (by grind)
      exact ⟨s,s1,Rat.le_of_lt s2,by rw [s4];exact Rat.le_refl,.inr ⟨s2,s3,s4⟩⟩
  obtain ⟨s1,p1,l1,n1,e1⟩:=step (v:=v1) h1 (show (0:Rat)<1 by decide +kernel) Rat.le_refl
  obtain ⟨s2,p2,l2,n2,e2⟩:=step (v:=v2) h2 p1 l1
  obtain ⟨s3,p3,l3,n3,e3⟩:=step (v:=v3) h3 p2 (Rat.le_trans l2 l1)
  have m1:=Pk h1 p3 (Rat.le_trans l3 l2) n1
  have m2:=Pk h2 p3 l3 n2
  by_cases hs:s3<1
  · refine ⟨s3,p3,hs,m1,m2,n3,?_⟩
    rcases e3 with rfl|⟨_,k1,k2⟩
    · rcases e2 with rfl|⟨_,k1,k2⟩
      · rcases e1 with rfl|⟨_,k1,k2⟩
        · exact absurd hs (Rat.lt_irrefl)
        · exact .inl ⟨k1,k2⟩
      · exact .inr (.inl ⟨k1,k2⟩)
    · exact .inr (.inr ⟨k1,k2⟩)
  · have hs1:s3=1:=by grind
    subst hs1
    exfalso
    grind
def bO (X a:Pt) (t:Rat):Pt:=⟨(1-t)*X.x+t*a.x,(1-t)*X.y+t*a.y⟩
theorem bh (h:Hp) (X a:Pt) (t:Rat):h.v (bO X a t)=(1-t)*h.v X+t*h.v a:=by unfold Hp.v bO;grind
theorem Df (p q X a:Pt) (t:Rat):AC p q (bO X a t)=(1-t)*AC p q X+t*AC p q a:=by
  rw [<-Gr,<-Gr,<-Gr,bh]
end
end
section
section
variable {a b c d e f X Y p q r x:Pt}
theorem ER.rot (h:ER a b c x):ER b c a x:=by unfold ER at *;grind
theorem Ho.rot (h:Ho a b c x):Ho b c a x:=by unfold Ho at *;grind
theorem Fl.ex (h:Fl a b c d e f):∃g∈E3 a b c,tv g d<=0/\tv g e<=0/\tv g f<=0:=by
  rcases h with h|h|h
  · exact ⟨(a,b),N_.2 (.inl O),h⟩
  · exact ⟨(b,c),N_.2 (.inr (.inl O)),h⟩
  · exact ⟨(c,a),N_.2 (.inr (.inr O)),h⟩
end
end
section
noncomputable def dcP (p:Prop):Bool:=@decide p (Classical.propDecidable p)
theorem G1 {q:Rat}:q.num.sign=1↔0<q:=by
  rw [WV,Y5]
  constructor
  · intro h
    by_cases k2:q<0
    · rw [if_pos k2] at h;cases h
    · rw [if_neg k2] at h
      by_cases k:q=0
      · rw [if_pos k] at h;cases h
      · grind
  · intro h
    rw [if_neg (by grind),if_neg (by grind)]
theorem TE {q:Rat}:q.num.sign = -1↔q<0:=by
  rw [WV,Y5]
  constructor
  · intro h
    by_cases k2:q<0
    · exact k2
    · rw [if_neg k2] at h
      split at h<;>cases h
  · intro h
    rw [if_pos h]
theorem fg {x y z:Rat}:FT x y z=0↔x<0\/y<0\/z<0:=by
  unfold FT
  split
  · rename_i h
    rw [TE,TE,TE] at h
    exact ⟨λ_=>h,λ_=>rfl⟩
  · rename_i h
    rw [TE,TE,TE] at h
    exact ⟨λh=>by omega,λk=>absurd k h⟩
theorem P_ {D q:Rat} (hD:0<D):(q/D<0↔q<0)/\(0<q/D↔0<q):=by
  have hi:D⁻¹*D=1:=Rat.inv_mul_cancel _ (by grind)
  have hp:0<D⁻¹:=Rat.inv_pos.2 hD
  rw [Rat.div_def]
  generalize D⁻¹=z at *
  have e:q=q*z*D:=by rw [Rat.mul_assoc,hi,Rat.mul_one]
  refine ⟨⟨λh=>?_,λh=>?_⟩,λh=>?_,λh=>Rat.mul_pos h hp⟩
  · have:=Rat.mul_pos (show 0 < -(q*z) by grind) hD;grind
  · have:=Rat.mul_pos (show 0 < -q by grind) hp;grind
  · have:=Rat.mul_pos h hD;grind
section
variable {a b c p:Pt}
theorem IF (hA:0<AC a b c):IE a b c p=0↔ER a b c p:=by
  unfold IE
  rw [if_neg (by grind),fg,(P_ hA).1,(P_ hA).1,(P_ hA).1]
  have c1:=BZ p b c
  have c2:=BZ a p c
  have c3:=BZ p c a
  unfold ER
  rw [c1,c3.trans c2]
  grind
end
structure E_ (ps:List Pt) (ts:List T3):Prop where
  num:Ba ps.length ts=true
  pos:∀j,j<ts.length->(AC (cor ps (ts.getD j (0,0,0)).1) (cor ps (ts.getD j (0,0,0)).2.1) (cor ps (ts.getD j (0,0,0)).2.2)).num.sign=1
theorem KP {ps:List Pt} {t:T3} (h1:t.1<ps.length) (h2:t.2.1<ps.length) (h3:t.2.2<ps.length) (hp:(AC (cor ps t.1) (cor ps t.2.1) (cor ps t.2.2)).num.sign=1):Ig ps.length t=true:=by
  rw [G1] at hp
  obtain ⟨a,b,c⟩:=t
  have n0:∀x y,AC x x y=0:=λx y=>by simp only [BC];grind
  simp only [Ig,yz,xX,xV,xU]
  refine ⟨⟨⟨⟨⟨h1,h2⟩,h3⟩,λe=>?_⟩,λe=>?_⟩,λe=>?_⟩<;>(dsimp only at hp;subst e)
  · rw [n0] at hp;exact absurd hp Rat.lt_irrefl
  · rw [G_] at hp;exact absurd hp Rat.lt_irrefl
  · rw [GW] at hp;exact absurd hp Rat.lt_irrefl
theorem Rs {N:Nat} {ts:List T3} (h:∀j,j<ts.length->Ig N (ts.getD j (0,0,0))=true):Ba N ts=true:=by
  unfold Ba
  rw [List.all_eq_true]
  intro t ht
  obtain ⟨j,hj,rfl⟩:=List.getElem_of_mem ht
  have:=h j hj
  rwa [List.getD,xP hj] at this
def Zn (n:Nat) (ts:List T3):Prop:=∀p,p<n->∃j,j<ts.length/\B4 (ts.getD j (0,0,0)) p=true
def RB (ps:List Pt) (ts:List T3) (i k:Nat):Prop:=(!Dw (Bd ps (ts.getD i (0,0,0))) (Bd ps (ts.getD k (0,0,0)))&&!Dw (Bd ps (ts.getD k (0,0,0))) (Bd ps (ts.getD i (0,0,0))))=false
def Zb (ps:List Pt) (ts:List T3) (i p:Nat):Prop:=B4 (ts.getD i (0,0,0)) p=false->JR ps (cor ps p) (ts.getD i (0,0,0))=0
def NP (ps:List Pt) (ts:List T3):Prop:=∀i,i<ts.length->(∀k,k<i->RB ps ts i k)/\∀p,p<ps.length->Zb ps ts i p
def dR (s r:T3):Prop:=s.1=r.1/\s.2.1=r.2.1
def dQ (ts ss:List T3):Prop:=ss.length=(Ea ts).length/\∀j,j<ss.length->dR (ss.getD j (0,0,0)) ((Ea ts).getD j (0,0,0))
def dU (ps:List Pt) (ts ss:List T3):Prop:=(Zn ps.length ts/\ps.Nodup)/\NP ps ts/\dQ ts ss
theorem Rc {p q r:Pt}:MH p q r=true↔0<AC p q r:=by
  unfold MH
  rw [xV,<-G1]
  rcases (show ∀z:Int,z.sign = -1\/z.sign=0\/z.sign=1 from λz=>by
    rcases Int.lt_trichotomy z 0 with h|h|h
    · exact .inl (Int.sign_eq_neg_one_of_neg h)
    · exact .inr (.inl (by rw [h];rfl))
    · exact .inr (.inr (Int.sign_eq_one_of_pos h))) (AC p q r).num with h|h|h<;>rw [h]<;>decide
theorem Ny {p q a b c:Pt}:Fp p q (a,b,c)=false↔AC p q a<=0/\AC p q b<=0/\AC p q c<=0:=by
  have f:∀r,MH p q r=false↔AC p q r<=0:=λr=>by
    rw [Bool.eq_false_iff]
    constructor
    · intro h
      by_cases k:0<AC p q r
      · exact absurd (Rc.2 k) h
      · grind
    · intro h k
      have:=Rc.1 k;grind
  unfold Fp
  rw [xY,xY,f,f,f]
  exact ⟨λh=>⟨h.1.1,h.1.2,h.2⟩,λh=>⟨⟨h.1,h.2.1⟩,h.2.2⟩⟩
theorem On {a b c d e f:Pt}:Dw (a,b,c) (d,e,f)=true↔Fl a b c d e f:=by
  unfold Dw Fl
  rw [yy,yy,xX,xX,xX,Ny,Ny,Ny]
theorem LH {t:T3} {p:Nat}:B4 t p=true↔p=t.1\/p=t.2.1\/p=t.2.2:=by
  simp only [B4,yy,beq_iff_eq]
  constructor
  · intro h;omega
  · intro h;omega
section
variable {ps:List Pt} {ts ss:List T3}
theorem NZ (h:Eo ps ts ss):E_ ps ts/\dU ps ts ss:=⟨⟨h.num,h.pos⟩,⟨h.use,h.dst⟩,λi hi=>⟨λk hk=>h.apart i k hi hk,λp hp=>h.crn i p hi hp⟩,h.rl,h.rim⟩
end
end
section
def Fq (a b c d:Pt):Rat:=B0 (a-d) (a-d)*BL (b-d) (c-d)+B0 (b-d) (b-d)*BL (c-d) (a-d)+B0 (c-d) (c-d)*BL (a-d) (b-d)
def Yb (a b c:Pt):Rat:=AC a b c*(1/2)*(Ed a+Ed b+Ed c)
theorem We (p:Pt):Ed p=p.x*p.x+p.y*p.y:=by
  unfold Ed;rw [HJ,Pc,Pd];show (p.x-0)*(p.x-0)+(p.y-0)*(p.y-0)=_;grind
theorem So (a b c d:Pt):Yb a b c+Yb b a d-(Yb a d c+Yb d b c)=Fq a b c d*(1/2):=by
  unfold Yb Fq
  simp only [We,HJ,HI,BC,Pc,Pd]
  grind
theorem Do {N:Nat} {t:T3} {a b c:Nat} (h:Mj N t a b c) (ps:List Pt):Ib ps t=Yb (cor ps a) (cor ps b) (cor ps c)/\AC (cor ps t.1) (cor ps t.2.1) (cor ps t.2.2)=AC (cor ps a) (cor ps b) (cor ps c):=by
  unfold Ib F7 ZY Yb
  have c1:=BZ (cor ps a) (cor ps b) (cor ps c)
  have c2:=BZ (cor ps b) (cor ps c) (cor ps a)
  rcases h.w with ⟨e1,e2,e3⟩|⟨e1,e2,e3⟩|⟨e1,e2,e3⟩<;>rw [e1,e2,e3]
  · exact ⟨rfl,rfl⟩
  · rw [c2,c1];exact ⟨by grind,rfl⟩
  · rw [c1];exact ⟨by grind,rfl⟩
theorem DV {ts:List T3} {p n:Nat} {t:T3} (hp:p<ts.length):(ts.set p t).getD n (0,0,0)=if p=n then t else ts.getD n (0,0,0):=by
  rw [List.getD,List.getD,List.getElem?_set]
  split
  · rename_i h;subst h;simp [hp]
  · rfl
theorem LV {ps:List Pt} {ts:List T3} {p:Nat} {t:T3} (hp:p<ts.length):∀n,Gu ps (ts.set p t) n=Gu ps ts n+(if p<n then Ib ps t-Ib ps (ts.getD p (0,0,0)) else 0)
  | 0=>by
    show (0:Rat)=0+_
    rw [if_neg (Nat.not_lt_zero _)];grind
  | n+1=>by
    show Gu ps (ts.set p t) n+Ib ps ((ts.set p t).getD n (0,0,0))=Gu ps ts n+Ib ps (ts.getD n (0,0,0))+_
    rw [LV hp n,DV hp]
    by_cases h:p=n
    · subst h
      rw [if_pos rfl,if_neg (Nat.lt_irrefl _),if_pos (Nat.lt_succ_self _)];grind
    · rw [if_neg h]
      by_cases h2:p<n
      · rw [if_pos h2,if_pos Z];grind
      · rw [if_neg h2,if_neg Z];grind
theorem IJ.ne {N:Nat} {ts:List T3} {e:E4} {p q c d:Nat} (h:IJ N ts e p q c d):p≠q:=λk=>by
  subst k
  have h1:=h.sc.w;have h2:=h.sd.w;have h3:=h.sc.ab;have h4:=h.sc.bc;have h5:=h.sc.ca;have h6:=h.sd.bc;have h7:=h.sd.ca
  omega
theorem Vb {ps:List Pt} {ts:List T3} {e:E4} {p q c d:Nat} (h:IJ ps.length ts e p q c d):DE ps (CF ts e.a e.b p q c d)=DE ps ts-Fq (cor ps e.a) (cor ps e.b) (cor ps c) (cor ps d)*(1/6):=by
  have hne:=h.ne
  have hpl:=h.pl
  have hql:=h.ql
  unfold DE
  rw [Ca]
  unfold CF
  rw [LV (by rw [List.length_set];exact hql),LV hpl,if_pos hql,if_pos hpl,DV hpl,if_neg hne,(Do h.sc ps).1,(Do h.sd ps).1]
  have k:=So (cor ps e.a) (cor ps e.b) (cor ps c) (cor ps d)
  have e1:Ib ps (e.a,d,c)=Yb (cor ps e.a) (cor ps d) (cor ps c):=rfl
  have e2:Ib ps (d,e.b,c)=Yb (cor ps d) (cor ps e.b) (cor ps c):=rfl
  rw [e1,e2,show (((1:Int):Rat)/((3:Int):Rat))=1/3 by decide +kernel]
  grind
theorem LZ (ps:List Pt) (ts:List T3):Mb ps ts = -1\/∃j,j<(BK ts).length/\Mb ps ts=(j:Int)/\Dx ps ts ((BK ts).getD j E0)=false:=by
  have go:∀(es:List E4) (i:Nat),nexI ps ts es i = -1\/∃j,j<es.length/\nexI ps ts es i=((i+j:Nat):Int)/\Dx ps ts (es.getD j E0)=false:=by
    intro es
    induction es with
    | nil=>intro i;exact .inl rfl
    | cons e r ih =>
      intro i
      unfold nexI
      by_cases h:Dx ps ts e=true
      · rw [if_pos h]
        rcases ih (i+1) with k|⟨j,k1,k2,k3⟩
        · exact .inl k
        · exact .inr ⟨j+1,by simpa using k1,by rw [k2];congr 1;omega,k3⟩
      · rw [if_neg h]
        exact .inr ⟨0,by simp,rfl,by simpa using h⟩
  rcases go (BK ts) 0 with h|⟨j,h1,h2,h3⟩
  · exact .inl h
  · exact .inr ⟨j,h1,by rw [show Mb ps ts=nexI ps ts (BK ts) 0 from O,h2];congr 1;omega,h3⟩
section
variable {ps:List Pt} {ts:List T3}
theorem Rq (hP:E_ ps ts) (hN:ps.length<=4611686018427387904) (h:nexV ps ts=true):∃j p q c d,j<(BK ts).length/\Mb ps ts=(j:Int)/\IJ ps.length ts ((BK ts).getD j E0) p q c d/\Db ps ((BK ts).getD j E0).a ((BK ts).getD j E0).b c d=true/\Ko (cor ps ((BK ts).getD j E0).a) (cor ps ((BK ts).getD j E0).b) (cor ps c) (cor ps d)=1/\Cj ps ts=CF ts ((BK ts).getD j E0).a ((BK ts).getD j E0).b p q c d:=by
  rcases LZ ps ts with k|⟨j,hj,k1,k2⟩
  · rw [(V3 k).1] at h;cases h
  · have hb:0<=((BK ts).getD j E0).l/\0<=((BK ts).getD j E0).r:=by
      by_cases hb:0<=((BK ts).getD j E0).l/\0<=((BK ts).getD j E0).r
      · exact hb
      · rw [N5 hb] at k2;cases k2
    have hm:(BK ts).getD j E0∈BK ts:=by rw [List.getD,xP hj];exact List.getElem_mem hj
    obtain ⟨p,q,c,d,h2⟩:=JP hP.num hN hm hb.1 hb.2
    have h3:=Rv k1 rfl h2
    rw [h3.1] at h
    refine ⟨j,p,q,c,d,hj,k1,h2,h,?_,by rw [h3.2,LC h]⟩
    rw [LU h2] at k2
    simpa using k2
theorem Ie (hP:E_ ps ts) (hN:ps.length<=4611686018427387904) (h:nexV ps ts=true):DE ps (Cj ps ts)<DE ps ts/\E_ ps (Cj ps ts):=by
  obtain ⟨j,p,q,c,d,_,_,h2,hf,hc,ht⟩:=Rq hP hN h
  generalize (BK ts).getD j E0=e at *
  have hpl:=h2.pl
  have hql:=h2.ql
  have hne:=h2.ne
  rw [ht]
  constructor
  · rw [Vb h2]
    have hp:=hP.pos p hpl
    rw [(Do h2.sc ps).2] at hp
    have hi:(Fq (cor ps e.a) (cor ps e.b) (cor ps c) (cor ps d)).num.sign=1:=by
      have k:(Fq (cor ps e.a) (cor ps e.b) (cor ps c) (cor ps d)).num.sign*(AC (cor ps e.a) (cor ps e.b) (cor ps c)).num.sign=1:=hc
      rw [hp] at k;omega
    have:=Rat.mul_pos (G1.1 hi) (show (0:Rat)<1/6 by decide +kernel)
    grind
  · unfold Db at hf
    rw [yz,xV,xV] at hf
    have hpos:∀k,k<(CF ts e.a e.b p q c d).length->(AC (cor ps ((CF ts e.a e.b p q c d).getD k (0,0,0)).1) (cor ps ((CF ts e.a e.b p q c d).getD k (0,0,0)).2.1) (cor ps ((CF ts e.a e.b p q c d).getD k (0,0,0)).2.2)).num.sign=1/\Ig ps.length ((CF ts e.a e.b p q c d).getD k (0,0,0))=true:=λk hk=>by
      rw [Ca] at hk
      unfold CF
      rw [DV (by rw [List.length_set];exact hql),DV hpl]
      split
      · exact ⟨hf.2,KP h2.sd.c h2.sc.b h2.sc.c hf.2⟩
      · split
        · exact ⟨hf.1,KP h2.sc.a h2.sd.c h2.sc.c hf.1⟩
        · exact ⟨hP.pos k hk,Bw hP.num hk⟩
    exact ⟨Rs λk hk=>(hpos k hk).2,λk hk=>(hpos k hk).1⟩
end
def be (N:Nat):List T3:=(List.range N).flatMap λa=>(List.range N).flatMap λb=>(List.range N).map λc=>(a,b,c)
theorem Vf {N:Nat} {t:T3} (h1:t.1<N) (h2:t.2.1<N) (h3:t.2.2<N):t∈be N :=
  List.mem_flatMap.2 ⟨t.1,List.mem_range.2 h1,List.mem_flatMap.2 ⟨t.2.1,List.mem_range.2 h2,List.mem_map.2 ⟨t.2.2,List.mem_range.2 h3,rfl⟩⟩⟩
def Zq (N:Nat):Nat->List (List T3)
  | 0=>[[]]
  | n+1=>(be N).flatMap λt=>(Zq N n).map (t::·)
theorem PG {N:Nat}:∀{ts:List T3},(∀t∈ts,t.1<N/\t.2.1<N/\t.2.2<N)->ts∈Zq N ts.length
  | [],_=>xO.2 rfl
  | t::r,h=>List.mem_flatMap.2 ⟨t,Vf (h t List.mem_cons_self).1 (h t List.mem_cons_self).2.1 (h t List.mem_cons_self).2.2,List.mem_map.2 ⟨r,PG λx hx=>h x (List.mem_cons_of_mem _ hx),rfl⟩⟩
def Hy (ps:List Pt) (ts:List T3):Nat:=(Zq ps.length ts.length).countP λL=>decide (DE ps L<DE ps ts)
theorem Ms {α:Type} {f g:α->Bool}:∀{l:List α},(∀x,f x=true->g x=true)->(∃x∈l,g x=true/\f x=false)->l.countP f<l.countP g
  | [],_,h=>by obtain ⟨x,hx,_⟩:=h;cases hx
  | y::r,h1,h=>by
    have hle:r.countP f<=r.countP g:=List.countP_mono_left λx _=>h1 x
    obtain ⟨x,hx,h2,h3⟩:=h
    rw [List.countP_cons,List.countP_cons]
    rcases xN.1 hx with rfl|hx
    · rw [h2,h3];simp;omega
    · have:=Ms h1 ⟨x,hx,h2,h3⟩
      have h4:=h1 y
      cases hf:f y<;>cases hg:g y<;>simp [hf,hg] at h4 ⊢<;>omega
section
variable {ps:List Pt} {ts:List T3}
theorem Ic (hP:E_ ps ts) (hN:ps.length<=4611686018427387904) (h:nexV ps ts=true):Hy ps (Cj ps ts)<Hy ps ts:=by
  obtain ⟨h1,h2⟩:=Ie hP hN h
  unfold Hy
  rw [FN]
  refine Ms (λL hL=>xI (by have:=xT hL;grind)) ⟨Cj ps ts,?_,xI h1,xH (by grind)⟩
  rw [<-FN (ps:=ps) (ts:=ts)]
  refine PG λt ht=>?_
  obtain ⟨j,hj,rfl⟩:=List.getElem_of_mem ht
  have k:=Ct (Bw h2.num hj)
  rwa [List.getD,xP hj] at k
def Pp (ps:List Pt):Nat->List T3->List T3×Nat
  | 0,ts=>(ts,0)
  | k+1,ts=>if nexV ps ts=true then ((Pp ps k (Cj ps ts)).1,(Pp ps k (Cj ps ts)).2+1) else (ts,0)
def dl (ps:List Pt) (ts:List T3):List T3×Nat:=Pp ps (Hy ps ts) ts
theorem O1 (hN:ps.length<=4611686018427387904):∀(k m:Nat) (ts:List T3),E_ ps ts->Hy ps ts<=k->Hy ps ts<=m->Pp ps k ts=Pp ps m ts
  | 0,0,ts,_,_,_=>rfl
  | 0,m+1,ts,hP,h1,_=>by
    have hv:¬nexV ps ts=true:=λh=>by have:=Ic hP hN h;omega
    rw [Pp,Pp,if_neg hv]
  | k+1,0,ts,hP,_,h2=>by
    have hv:¬nexV ps ts=true:=λh=>by have:=Ic hP hN h;omega
    rw [Pp,Pp,if_neg hv]
  | k+1,m+1,ts,hP,h1,h2=>by
    rw [Pp,Pp]
    split
    · rename_i h
      have h3:=Ic hP hN h
      rw [O1 hN k m (Cj ps ts) (Ie hP hN h).2 Z Z]
    · rfl
theorem Xq (hP:E_ ps ts) (hN:ps.length<=4611686018427387904) (h:nexV ps ts=true):dl ps ts=((dl ps (Cj ps ts)).1,(dl ps (Cj ps ts)).2+1):=by
  have h3:=Ic hP hN h
  have e:dl ps ts=Pp ps (Hy ps (Cj ps ts)+1) ts:=by
    unfold dl
    obtain ⟨k,hk⟩:∃k,Hy ps ts=k+1:=⟨Hy ps ts-1,Z⟩
    rw [hk,Pp,Pp,if_pos h,if_pos h,O1 hN k (Hy ps (Cj ps ts)) (Cj ps ts) (Ie hP hN h).2 Z (Nat.le_refl _)]
  rw [e,Pp,if_pos h];rfl
theorem dl_stop (h:nexV ps ts=false):dl ps ts=(ts,0):=by
  unfold dl
  cases Hy ps ts with
  | zero=>rfl
  | succ k=>rw [Pp,if_neg (by rw [h];decide)]
end
end
end Go.Proofs.YtbfdamnfcmefmaaGreatDoor
