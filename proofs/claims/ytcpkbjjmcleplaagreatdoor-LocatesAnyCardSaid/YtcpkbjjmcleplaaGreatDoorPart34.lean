import Derived.Test.YtcpkbjjmcleplaaGreatDoorPart33
namespace Go.Proofs.YtcpkbjjmcleplaaGreatDoor
open Go Go.RowKit Go.Proofs.Tryz
open Go.Value renaming slice→qz,bool→qa
set_option linter.unusedVariables false
set_option linter.unusedSimpArgs false
section
theorem Q1 (u v:Rat) (s:Rat×Rat):(CB u v s).1=s.1\/u+(v-u)*(CB u v s).1=0:=by
  unfold CB
  split
  · rename_i h
    rw [Iz] at h
    have hk:=IW (u:=u) (d:=v-u) (by grind)
    rcases Hj s.1 (-u/(v-u)) with ⟨_,g⟩|⟨_,g⟩<;>dsimp only<;>rw [g]
    · right;generalize -u/(v-u)=k at *;grind
    · left;rfl
  · split
    · left;rfl
    · left;rfl
theorem Q0 (u v:Rat) (s:Rat×Rat):(CB u v s).2=s.2\/u+(v-u)*(CB u v s).2=0:=by
  unfold CB
  split
  · left;rfl
  · split
    · rename_i h
      rw [B1] at h
      have hk:=IW (u:=u) (d:=v-u) (by grind)
      rcases Hj (-s.2) (-(-u/(v-u))) with ⟨_,g⟩|⟨_,g⟩<;>dsimp only<;>rw [g]
      · right;generalize -u/(v-u)=k at *;grind
      · left;grind
    · left;rfl
section
variable {u v k s s0 u0 v0 u1 v1 u2 v2:Rat}
theorem ZC (h:(Bo u0 v0 u1 v1 u2 v2).2.2=true):(Bo u0 v0 u1 v1 u2 v2).1=0\/u0+(v0-u0)*(Bo u0 v0 u1 v1 u2 v2).1=0\/u1+(v1-u1)*(Bo u0 v0 u1 v1 u2 v2).1=0\/u2+(v2-u2)*(Bo u0 v0 u1 v1 u2 v2).1=0:=by
  obtain ⟨_,_,_,e,_⟩:=Le h
  rw [e]
  dsimp only
  rcases Q1 u2 v2 (CB u1 v1 (CB u0 v0 (0,1))) with h2|h2
  · rw [h2]
    rcases Q1 u1 v1 (CB u0 v0 (0,1)) with h1|h1
    · rw [h1]
      rcases Q1 u0 v0 (0,1) with h0|h0
      · exact .inl h0
      · exact .inr (.inl h0)
    · exact .inr (.inr (.inl h1))
  · exact .inr (.inr (.inr h2))
theorem ZB (h:(Bo u0 v0 u1 v1 u2 v2).2.2=true):(Bo u0 v0 u1 v1 u2 v2).2.1=1\/u0+(v0-u0)*(Bo u0 v0 u1 v1 u2 v2).2.1=0\/u1+(v1-u1)*(Bo u0 v0 u1 v1 u2 v2).2.1=0\/u2+(v2-u2)*(Bo u0 v0 u1 v1 u2 v2).2.1=0:=by
  obtain ⟨_,_,_,e,_⟩:=Le h
  rw [e]
  dsimp only
  rcases Q0 u2 v2 (CB u1 v1 (CB u0 v0 (0,1))) with h2|h2
  · rw [h2]
    rcases Q0 u1 v1 (CB u0 v0 (0,1)) with h1|h1
    · rw [h1]
      rcases Q0 u0 v0 (0,1) with h0|h0
      · exact .inl h0
      · exact .inr (.inl h0)
    · exact .inr (.inr (.inl h1))
  · exact .inr (.inr (.inr h2))
theorem K2 (h1:k<s) (h2:s<=s0) (hk:0<=u+(v-u)*k) (h0:0<u+(v-u)*s0):0<u+(v-u)*s:=by
  have e:(u+(v-u)*s)*(s0-k)=(u+(v-u)*k)*(s0-s)+(u+(v-u)*s0)*(s-k):=by grind
  have p1:=Rat.mul_nonneg hk (show 0<=s0-s by grind)
  have p2:=Rat.mul_pos h0 (show 0<s-k by grind)
  exact V4 (show 0<s0-k by grind) (by grind)
theorem K3 (h1:s<k) (h2:s0<=s) (hk:0<=u+(v-u)*k) (h0:0<u+(v-u)*s0):0<u+(v-u)*s:=by
  have e:(u+(v-u)*s)*(k-s0)=(u+(v-u)*k)*(s-s0)+(u+(v-u)*s0)*(k-s):=by grind
  have p1:=Rat.mul_nonneg hk (show 0<=s-s0 by grind)
  have p2:=Rat.mul_pos h0 (show 0<k-s by grind)
  exact V4 (show 0<k-s0 by grind) (by grind)
theorem Wc (h0:0<=s0) (h1:s0<=1) (l0:0<u0+(v0-u0)*s0) (l1:0<u1+(v1-u1)*s0) (l2:0<u2+(v2-u2)*s0) (k0:0<=k) (k1:k<=1) (m0:0<=u0+(v0-u0)*k) (m1:0<=u1+(v1-u1)*k) (m2:0<=u2+(v2-u2)*k) :
    (Bo u0 v0 u1 v1 u2 v2).1<=k/\k<=(Bo u0 v0 u1 v1 u2 v2).2.1:=by
  obtain ⟨_,g1,g2⟩:=KV h0 h1 l0 l1 l2
  generalize hf:(Bo u0 v0 u1 v1 u2 v2).1=f at *
  generalize ht:(Bo u0 v0 u1 v1 u2 v2).2.1=t at *
  constructor
  · rcases DB k f with h|h
    · have a1:k<(k+f)*(1/2):=by grind
      have a2:(k+f)*(1/2)<=s0:=by grind
      have a3:(k+f)*(1/2)<f:=by grind
      generalize (k+f)*(1/2)=s at a1 a2 a3
      have h5:=(KV (s:=s) (by grind) (by grind) (K2 a1 a2 m0 l0) (K2 a1 a2 m1 l1) (K2 a1 a2 m2 l2)).2.1
      rw [hf] at h5;grind
    · exact h
  · rcases DB t k with h|h
    · have a1:(k+t)*(1/2)<k:=by grind
      have a2:s0<=(k+t)*(1/2):=by grind
      have a3:t<(k+t)*(1/2):=by grind
      generalize (k+t)*(1/2)=s at a1 a2 a3
      have h5:=(KV (s:=s) (by grind) (by grind) (K3 a1 a2 m0 l0) (K3 a1 a2 m1 l1) (K3 a1 a2 m2 l2)).2.2
      rw [ht] at h5;grind
    · exact h
end
def L7:Rat->List Rat->Rat
  | m,[]=>m
  | m,e::r=>L7 (if BK e m<0 then e else m) r
def L8:Rat->List Rat->Rat
  | m,[]=>m
  | m,e::r=>L8 (if 0<BK e m then e else m) r
theorem KH {a b:Rat}:0<BK a b↔b<a:=by
  unfold BK
  split
  · exact ⟨λh=>absurd h jY,λh=>by grind⟩
  · split
    · exact ⟨λh=>absurd h jY,λh=>by grind⟩
    · exact ⟨λ_=>by grind,λ_=>by decide⟩
theorem K_:∀(l:List Rat) (m:Rat),L7 m l∈m::l/\∀x∈m::l,L7 m l<=x
  | [],m=>⟨xM.2 rfl,λx h=>by rw [xM.1 h];exact Rat.le_refl⟩
  | e::r,m=>by
    obtain ⟨h1,h2⟩:=K_ r (if BK e m<0 then e else m)
    unfold L7
    have hle:(if BK e m<0 then e else m)<=e/\(if BK e m<0 then e else m)<=m/\((if BK e m<0 then e else m)=e\/(if BK e m<0 then e else m)=m):=by
      split
      · rename_i h;rw [GV] at h;exact ⟨Rat.le_refl,by grind,.inl rfl⟩
      · rename_i h;rw [GV] at h;exact ⟨by grind,Rat.le_refl,.inr rfl⟩
    generalize (if BK e m<0 then e else m)=q at *
    have h3:=h2 q List.mem_cons_self
    refine ⟨?_,λx hx=>?_⟩
    · rcases xL.1 h1 with h4|h4
      · rcases hle.2.2 with h5|h5
        · rw [h4,h5];exact List.mem_cons_of_mem _ List.mem_cons_self
        · rw [h4,h5];exact List.mem_cons_self
      · exact List.mem_cons_of_mem _ (List.mem_cons_of_mem _ h4)
    · rcases xL.1 hx with rfl|hx
      · exact Rat.le_trans h3 hle.2.1
      · rcases xL.1 hx with rfl|hx
        · exact Rat.le_trans h3 hle.1
        · exact h2 x (List.mem_cons_of_mem _ hx)
theorem LE:∀(l:List Rat) (m:Rat),L8 m l∈m::l/\∀x∈m::l,x<=L8 m l
  | [],m=>⟨xM.2 rfl,λx h=>by rw [xM.1 h];exact Rat.le_refl⟩
  | e::r,m=>by
    obtain ⟨h1,h2⟩:=LE r (if 0<BK e m then e else m)
    unfold L8
    have hle:e<=(if 0<BK e m then e else m)/\m<=(if 0<BK e m then e else m)/\((if 0<BK e m then e else m)=e\/(if 0<BK e m then e else m)=m):=by
      split
      · rename_i h;rw [KH] at h;exact ⟨Rat.le_refl,by grind,.inl rfl⟩
      · rename_i h;rw [KH] at h;exact ⟨by grind,Rat.le_refl,.inr rfl⟩
    generalize (if 0<BK e m then e else m)=q at *
    have h3:=h2 q List.mem_cons_self
    refine ⟨?_,λx hx=>?_⟩
    · rcases xL.1 h1 with h4|h4
      · rcases hle.2.2 with h5|h5
        · rw [h4,h5];exact List.mem_cons_of_mem _ List.mem_cons_self
        · rw [h4,h5];exact List.mem_cons_self
      · exact List.mem_cons_of_mem _ (List.mem_cons_of_mem _ h4)
    · rcases xL.1 hx with rfl|hx
      · exact Rat.le_trans hle.2.1 h3
      · rcases xL.1 hx with rfl|hx
        · exact Rat.le_trans hle.1 h3
        · exact h2 x (List.mem_cons_of_mem _ hx)
def MV (a b p:Pt):Rat:=Cq (p-a) (b-a)/Cq (b-a) (b-a)
def UE (f g:Pt->Pt->Bool) (a b c d:Pt):List Rat:=if (HD f g a b c d).1=1 then [MV a b (HD f g a b c d).2] else []
def ID (f g:Pt->Pt->Bool) (A B C a b:Pt):List Rat:=(if 0<B3 A B C a then [0] else [])++((if 0<B3 A B C b then [1] else [])++(UE f g a b A B++(UE f g a b B C++UE f g a b C A)))
section
variable {A B C a b p:Pt} {s s0 k:Rat} {f g:Pt->Pt->Bool}
theorem Rz (h:a≠b) (s:Rat):MV a b (Ez a b s)=s:=by
  have hN:=Rq h
  have hi:((b.x-a.x)*(b.x-a.x)+(b.y-a.y)*(b.y-a.y))⁻¹*((b.x-a.x)*(b.x-a.x)+(b.y-a.y)*(b.y-a.y))=1:=Rat.inv_mul_cancel _ (by grind)
  unfold MV
  rw [Rat.div_def,KL,KL,G2,G3,G2,G3,Iq,Ir]
  generalize ((b.x-a.x)*(b.x-a.x)+(b.y-a.y)*(b.y-a.y))⁻¹=e at *
  grind
theorem Yi:Ez a b 0=a:=Pt.ext (by rw [Iq];grind) (by rw [Ir];grind)
theorem Yj:Ez a b 1=b:=Pt.ext (by rw [Iq];grind) (by rw [Ir];grind)
theorem Gu (h:AF A B C≠0):0<B3 A B C p↔0<=Ds A B C p/\0<=Dt A B C p/\0<=DJ A B C p:=by
  unfold B3
  rw [if_neg h]
  have e:=@Pi (Ds A B C p) (Dt A B C p) (DJ A B C p)
  unfold Ds Dt DJ at *
  constructor
  · intro h1
    exact Decidable.not_not.1 λh2=>by rw [e.2 h2] at h1;exact absurd h1 jY
  · intro h1
    exact Nat.pos_of_ne_zero λh2=>e.1 h2 h1
theorem RA (h:AF A B C≠0):B3 A B C p=1↔0<Ds A B C p/\0<Dt A B C p/\0<DJ A B C p:=by
  unfold B3
  rw [if_neg h]
  exact Q_
def MA (A B C a b:Pt) (k:Rat):Prop:=0<=k/\k<=1/\0<=Ds A B C (Ez a b k)/\0<=Dt A B C (Ez a b k)/\0<=DJ A B C (Ez a b k)
theorem QF (h:AF A B C≠0) (hab:a≠b) (hk:k∈UE f g a b A B):MA A B C a b k:=by
  unfold UE at hk
  split at hk
  · rename_i h1
    obtain ⟨o1,o2⟩:=Z2 hab (N7 h) h1
    obtain ⟨s,s1,s2,e⟩:=(HS hab).1 o1
    obtain ⟨m2,m0,m1⟩:=(LL h).1 o2
    rw [xM.1 hk,e,Rz hab]
    rw [e] at m0 m1 m2
    exact ⟨s1,s2,m0,m1,by rw [m2];exact Rat.le_refl⟩
  · cases hk
theorem MA.cyc (h:MA B C A a b k):MA A B C a b k:=by
  obtain ⟨h1,h2,h3,h4,h5⟩:=h
  obtain ⟨e0,e1,e2⟩:=@FB (Ez a b k) A B C
  rw [e0] at h3;rw [e1] at h4;rw [e2] at h5
  exact ⟨h1,h2,h5,h3,h4⟩
theorem GH (h:AF A B C≠0):AF B C A≠0:=by rw [Pa A B C];exact h
theorem Qk (h:AF A B C≠0) (hab:a≠b) (hk:k∈ID f g A B C a b):MA A B C a b k:=by
  unfold ID at hk
  rcases List.mem_append.1 hk with hk|hk
  · split at hk
    · rename_i h1
      rw [xM.1 hk]
      obtain ⟨m0,m1,m2⟩:=(Gu h).1 h1
      exact ⟨by grind,by grind,by rw [Yi];exact m0,by rw [Yi];exact m1,by rw [Yi];exact m2⟩
    · cases hk
  · rcases List.mem_append.1 hk with hk|hk
    · split at hk
      · rename_i h1
        rw [xM.1 hk]
        obtain ⟨m0,m1,m2⟩:=(Gu h).1 h1
        exact ⟨by grind,by grind,by rw [Yj];exact m0,by rw [Yj];exact m1,by rw [Yj];exact m2⟩
      · cases hk
    · rcases List.mem_append.1 hk with hk|hk
      · exact QF h hab hk
      · rcases List.mem_append.1 hk with hk|hk
        · exact (QF (GH h) hab hk).cyc
        · exact (QF (GH (GH h)) hab hk).cyc.cyc
theorem QG (h:AF A B C≠0) (hab:a≠b) (hk:MA A B C a b k) (h2:DJ A B C (Ez a b k)=0) (h3:0<DJ A B C (Ez a b s0)):k∈UE f g a b A B:=by
  obtain ⟨k0,k1,m0,m1,_⟩:=hk
  have l1:=(@Ia a b A B C k).2.2
  have l2:=(@Ia a b A B C s0).2.2
  rw [l1] at h2
  rw [l2] at h3
  have hd:DJ A B C b-DJ A B C a≠0:=λe=>by rw [e] at h2 h3;grind
  have hk2:A8 (b-a) (B-A)≠0:=λe=>hd (by
    have e1:AF A B b=AF A B a:=by simp only [B2,Mh,G2,G3] at *;grind
    unfold DJ;rw [e1];grind)
  have hc:HD f g a b A B=(1,Ez a b k):=by
    refine Xg hab (N7 h) hk2 (λe o1 o2=>?_) ((HS hab).2 ⟨k,k0,k1,rfl⟩) ((LL h).2 ⟨by rw [l1];exact h2,m0,m1⟩)
    obtain ⟨s,_,_,rfl⟩:=(HS hab).1 o1
    have h4:=((LL h).1 o2).1
    rw [(@Ia a b A B C s).2.2] at h4
    have e5:(DJ A B C b-DJ A B C a)*(s-k)=0:=by grind
    rcases Rat.mul_eq_zero.1 e5 with h6|h6
    · exact absurd h6 hd
    · rw [show s=k by grind]
  unfold UE
  rw [hc,if_pos rfl]
  exact xM.2 (Rz hab k).symm
theorem Ye (h:AF A B C≠0) (hab:a≠b) (h0:0<=s0) (h1:s0<=1) (hs:B3 A B C (Ez a b s0)=1) :
    (Bb (A,B,C) a b).2.2=true/\(Bb (A,B,C) a b).1∈ID f g A B C a b/\(Bb (A,B,C) a b).2.1∈ID f g A B C a b/\∀k∈ID f g A B C a b,(Bb (A,B,C) a b).1<=k/\k<=(Bb (A,B,C) a b).2.1:=by
  obtain ⟨p0,p1,p2⟩:=(RA h).1 hs
  have q0:=p0;have q1:=p1;have q2:=p2
  have lin:=λk=>@Ia a b A B C k
  rw [(lin s0).1] at p0;rw [(lin s0).2.1] at p1;rw [(lin s0).2.2] at p2
  have hsp:Bb (A,B,C) a b=Bo (Ds A B C a) (Ds A B C b) (Dt A B C a) (Dt A B C b) (DJ A B C a) (DJ A B C b):=rfl
  rw [hsp]
  obtain ⟨y,g1,g2⟩:=KV h0 h1 p0 p1 p2
  obtain ⟨b0,blt,b1,ball⟩:=NC y
  have hcl:∀k,(Bo (Ds A B C a) (Ds A B C b) (Dt A B C a) (Dt A B C b) (DJ A B C a) (DJ A B C b)).1<=k->k<=(Bo (Ds A B C a) (Ds A B C b) (Dt A B C a) (Dt A B C b) (DJ A B C a) (DJ A B C b)).2.1->MA A B C a b k:=λk c1 c2=>by
    obtain ⟨m0,m1,m2⟩:=ball k c1 c2
    exact ⟨by grind,by grind,by rw [(lin k).1];exact m0,by rw [(lin k).2.1];exact m1,by rw [(lin k).2.2];exact m2⟩
  have root:∀k,MA A B C a b k->(Ds A B C a+(Ds A B C b-Ds A B C a)*k=0\/Dt A B C a+(Dt A B C b-Dt A B C a)*k=0\/DJ A B C a+(DJ A B C b-DJ A B C a)*k=0)->k∈ID f g A B C a b:=λk hk hr=>by
    have c1:MA B C A a b k:=by
      obtain ⟨z1,z2,z3,z4,z5⟩:=hk
      obtain ⟨e0,e1,e2⟩:=@FB (Ez a b k) A B C
      exact ⟨z1,z2,by rw [e0];exact z4,by rw [e1];exact z5,by rw [e2];exact z3⟩
    have c2:MA C A B a b k:=by
      obtain ⟨z1,z2,z3,z4,z5⟩:=c1
      obtain ⟨e0,e1,e2⟩:=@FB (Ez a b k) B C A
      exact ⟨z1,z2,by rw [e0];exact z4,by rw [e1];exact z5,by rw [e2];exact z3⟩
    unfold ID
    refine xG _ (xG _ ?_)
    rcases hr with r|r|r
    · refine xG _ (xF _ (QG (C:=A) (s0:=s0) (GH h) hab c1 ?_ ?_))
      · rw [(@FB (Ez a b k) A B C).2.2,(lin k).1];exact r
      · rw [(@FB (Ez a b s0) A B C).2.2];exact q0
    · refine xG _ (xG _ (QG (C:=B) (s0:=s0) (GH (GH h)) hab c2 ?_ ?_))
      · rw [(@FB (Ez a b k) B C A).2.2,(@FB (Ez a b k) A B C).1,(lin k).2.1];exact r
      · rw [(@FB (Ez a b s0) B C A).2.2,(@FB (Ez a b s0) A B C).1];exact q1
    · refine xF _ (QG (C:=C) (s0:=s0) h hab hk ?_ q2)
      rw [(lin k).2.2];exact r
  refine ⟨y,?_,?_,λk hk=>?_⟩
  · have hc:=hcl _ Rat.le_refl (Rat.le_of_lt blt)
    rcases ZC y with r|r
    · rw [r] at hc ⊢
      unfold ID
      refine xF _ ?_
      obtain ⟨_,_,z0,z1,z2⟩:=hc
      rw [Yi] at z0 z1 z2
      rw [if_pos ((Gu h).2 ⟨z0,z1,z2⟩)]
      exact xM.2 O
    · exact root _ hc r
  · have hc:=hcl _ (Rat.le_of_lt blt) Rat.le_refl
    rcases ZB y with r|r
    · rw [r] at hc ⊢
      unfold ID
      refine xG _ (xF _ ?_)
      obtain ⟨_,_,z0,z1,z2⟩:=hc
      rw [Yj] at z0 z1 z2
      rw [if_pos ((Gu h).2 ⟨z0,z1,z2⟩)]
      exact xM.2 O
    · exact root _ hc r
  · obtain ⟨k0,k1,m0,m1,m2⟩:=Qk h hab hk
    rw [(lin k).1] at m0;rw [(lin k).2.1] at m1;rw [(lin k).2.2] at m2
    exact Wc h0 h1 p0 p1 p2 k0 k1 m0 m1 m2
end
def R5 (f g:Pt->Pt->Bool) (A B C a b:Pt):Rat×Rat×Bool:=match ID f g A B C a b with
  | []=>(0,0,false)
  | x::r=>(L7 x r,L8 x r,decide (B3 A B C (Ez a b ((L7 x r+L8 x r)*(1/2)))=1))
section
variable {A B C a b:Pt} {f g:Pt->Pt->Bool} {x:Rat} {r:List Rat}
theorem HT (h:ID f g A B C a b=x::r):R5 f g A B C a b=(L7 x r,L8 x r,decide (B3 A B C (Ez a b ((L7 x r+L8 x r)*(1/2)))=1)):=by unfold R5;rw [h]
theorem KS (h:ID f g A B C a b=[]):R5 f g A B C a b=(0,0,false):=by unfold R5;rw [h]
theorem R6 (h:AF A B C≠0) (hab:a≠b) {s0:Rat} (h0:0<=s0) (h1:s0<=1) (hs:B3 A B C (Ez a b s0)=1) :
    (Bb (A,B,C) a b).2.2=true/\R5 f g A B C a b=((Bb (A,B,C) a b).1,(Bb (A,B,C) a b).2.1,decide (B3 A B C (Ez a b (((Bb (A,B,C) a b).1+(Bb (A,B,C) a b).2.1)*(1/2)))=1)):=by
  obtain ⟨y,i1,i2,i3⟩:=Ye (f:=f) (g:=g) h hab h0 h1 hs
  refine ⟨y,?_⟩
  cases hn:ID f g A B C a b with
  | nil=>rw [hn] at i1;cases i1
  | cons x r =>
    rw [hn] at i1 i2 i3
    have m:=K_ r x
    have n:=LE r x
    have e1:L7 x r=(Bb (A,B,C) a b).1:=Rat.le_antisymm (m.2 _ i1) (i3 _ m.1).1
    have e2:L8 x r=(Bb (A,B,C) a b).2.1:=Rat.le_antisymm (i3 _ n.1).2 (n.2 _ i2)
    rw [HT hn,e1,e2]
theorem am (h:AF A B C≠0) (hab:a≠b) (h1:(Bb (A,B,C) a b).2.2=true) (h2:B3 A B C (Ez a b (((Bb (A,B,C) a b).1+(Bb (A,B,C) a b).2.1)*(1/2)))=1) :
    R5 f g A B C a b=((Bb (A,B,C) a b).1,(Bb (A,B,C) a b).2.1,true)/\(Bb (A,B,C) a b).1≠(Bb (A,B,C) a b).2.1:=by
  obtain ⟨b0,blt,b1,_⟩:=NC (show (Bo (Ds A B C a) (Ds A B C b) (Dt A B C a) (Dt A B C b) (DJ A B C a) (DJ A B C b)).2.2=true from h1)
  have b0:0<=(Bb (A,B,C) a b).1:=b0
  have blt:(Bb (A,B,C) a b).1<(Bb (A,B,C) a b).2.1:=blt
  have b1:(Bb (A,B,C) a b).2.1<=1:=b1
  have k:=(R6 (f:=f) (g:=g) h hab (by grind) (by grind) h2).2
  rw [xE h2] at k
  exact ⟨k,by grind⟩
theorem Ze (h:AF A B C≠0) (hab:a≠b) (hn:¬((Bb (A,B,C) a b).2.2=true/\B3 A B C (Ez a b (((Bb (A,B,C) a b).1+(Bb (A,B,C) a b).2.1)*(1/2)))=1)) :
    (R5 f g A B C a b).2.2=false\/(R5 f g A B C a b).1=(R5 f g A B C a b).2.1:=by
  cases hp:ID f g A B C a b with
  | nil=>rw [KS hp];exact .inl rfl
  | cons x r =>
    have e:=HT hp
    have m:=Qk h hab (show L7 x r∈ID f g A B C a b by rw [hp];exact (K_ r x).1)
    have n:=Qk h hab (show L8 x r∈ID f g A B C a b by rw [hp];exact (LE r x).1)
    by_cases hw:B3 A B C (Ez a b ((L7 x r+L8 x r)*(1/2)))=1
    · refine absurd ?_ hn
      have m1:=m.1;have m2:=m.2.1;have n1:=n.1;have n2:=n.2.1
      obtain ⟨y,k⟩:=R6 (f:=f) (g:=g) h hab (by grind) (by grind) hw
      refine ⟨y,?_⟩
      rw [e] at k
      have k1:L7 x r=(Bb (A,B,C) a b).1:=congrArg Prod.fst k
      have k2:L8 x r=(Bb (A,B,C) a b).2.1:=congrArg (λq=>q.2.1) k
      rw [<-k1,<-k2];exact hw
    · rw [e,xz hw];exact .inl rfl
end
end
section
def ac:Pc:=⟨0,0,0⟩
def NN (l:List Pc) (lo:Rat):Nat->Nat
  | 0=>0
  | n+1=>if 0<BK (l.getD n ac).lo lo then NN l lo n else n+1
def J7 (p:Pc) (l:List Pc):List Pc:=l.take (NN l p.lo l.length)++p::l.drop (NN l p.lo l.length)
theorem OS (l:List Pc) (lo:Rat):∀n,NN l lo n<=n/\(∀j,NN l lo n<=j->j<n->lo<(l.getD j ac).lo)/\(0<NN l lo n->(l.getD (NN l lo n-1) ac).lo<=lo)
  | 0=>⟨Nat.le_refl _,λj h1 h2=>absurd h2 (Nat.not_lt_zero _),λh=>absurd h (Nat.lt_irrefl 0)⟩
  | n+1=>by
    unfold NN
    split
    · rename_i h
      rw [KH] at h
      obtain ⟨h1,h2,h3⟩:=OS l lo n
      refine ⟨Z,λj k1 k2=>?_,h3⟩
      rcases Nat.lt_or_ge j n with h4|h4
      · exact h2 j k1 h4
      · rw [show j=n by omega];exact h
    · rename_i h
      rw [KH] at h
      refine ⟨Nat.le_refl _,λj k1 k2=>by omega,λ_=>?_⟩
      rw [Nat.add_sub_cancel];grind
theorem S9 (p:Pc) (l:List Pc):(J7 p l).Perm (l++[p]):=by
  unfold J7
  generalize NN l p.lo l.length=k
  refine (List.perm_middle).trans ?_
  rw [List.take_append_drop]
  exact (List.perm_append_singleton p l).symm
theorem O2 {p:Pc} {l:List Pc} (hs:l.Pairwise Md) (ht:∀q∈l,q.tri<p.tri):(J7 p l).Pairwise Md:=by
  obtain ⟨h1,h2,h3⟩:=OS l p.lo l.length
  unfold J7
  generalize hk:NN l p.lo l.length=k at *
  have gd:∀j (h:j<l.length),l.getD j ac=l[j]:=λj h=>by rw [List.getD,xN h];rfl
  have hle:∀q∈l.take k,Md q p:=λq hq=>by
    obtain ⟨j,hj,rfl⟩:=List.getElem_of_mem hq
    rw [List.length_take] at hj
    rw [List.getElem_take]
    have hjl:j<l.length:=by omega
    have hk0:k-1<l.length:=by omega
    have h4:=h3 Z
    rw [gd _ hk0] at h4
    rw [Hm]
    have hjk:l[j].lo<=l[k-1].lo:=by
      rcases Nat.lt_or_ge j (k-1) with h5|h5
      · have h6:=(List.pairwise_iff_getElem.1 hs) j (k-1) hjl hk0 h5
        rw [Hm] at h6
        rcases h6 with h6|⟨h6,_⟩<;>grind
      · have e:j=k-1:=by omega
        subst e;exact Rat.le_refl
    have h7:=ht l[j] (List.getElem_mem hjl)
    rcases (show l[j].lo<p.lo\/l[j].lo=p.lo by grind) with h8|h8
    · exact .inl h8
    · exact .inr ⟨h8,Z⟩
  have hge:∀q∈l.drop k,Md p q:=λq hq=>by
    obtain ⟨j,hj,rfl⟩:=List.getElem_of_mem hq
    rw [List.length_drop] at hj
    rw [List.getElem_drop]
    have h4:=h2 (k+j) Z Z
    rw [gd _ Z] at h4
    rw [Hm]
    exact .inl h4
  refine List.pairwise_append.2 ⟨hs.sublist (List.take_sublist k l),List.pairwise_cons.2 ⟨hge,hs.sublist (List.drop_sublist k l)⟩,λx hx y hy=>?_⟩
  rcases xL.1 hy with rfl|hy
  · exact hle x hx
  · exact (hle x hx).trans (hge y hy)
section
variable (f g:Pt->Pt->Bool) (ps:List Pt) (ts:List (Tq3)) (a b:Pt)
def Ip (T:Tq3):Rat×Rat×Bool:=R5 f g (BJ ps T.1) (BJ ps T.2.1) (BJ ps T.2.2) a b
def Fb:Nat->List Pc
  | 0=>[]
  | t+1=>if (Ip f g ps a b (ts.getD t (0,0,0))).2.2=true/\(Ip f g ps a b (ts.getD t (0,0,0))).1≠(Ip f g ps a b (ts.getD t (0,0,0))).2.1 then J7 ⟨t,(Ip f g ps a b (ts.getD t (0,0,0))).1,(Ip f g ps a b (ts.getD t (0,0,0))).2.1⟩ (Fb t) else Fb t
end
section
variable {f g:Pt->Pt->Bool} {ps:List Pt} {ts:List (Tq3)} {a b:Pt} {t:Nat} {T:Tq3}
theorem V0 (h:AF (BJ ps T.1) (BJ ps T.2.1) (BJ ps T.2.2)≠0) (hab:a≠b):Gf ps a b t T=if (Ip f g ps a b T).2.2=true/\(Ip f g ps a b T).1≠(Ip f g ps a b T).2.1 then [⟨t,(Ip f g ps a b T).1,(Ip f g ps a b T).2.1⟩] else []:=by
  have e1:Bb (Bz ps T) a b=Bb (BJ ps T.1,BJ ps T.2.1,BJ ps T.2.2) a b:=rfl
  unfold Gf Ip
  rw [YK,e1]
  by_cases h1:(Bb (BJ ps T.1,BJ ps T.2.1,BJ ps T.2.2) a b).2.2=true
  · rw [if_pos h1]
    by_cases h2:BR ps (Ez a b (((Bb (BJ ps T.1,BJ ps T.2.1,BJ ps T.2.2) a b).1+(Bb (BJ ps T.1,BJ ps T.2.1,BJ ps T.2.2) a b).2.1)*(1/2))) T=1
    · rw [if_pos h2]
      obtain ⟨k1,k2⟩:=am (f:=f) (g:=g) h hab h1 h2
      rw [k1,if_pos ⟨rfl,k2⟩]
    · rw [if_neg h2,if_neg]
      rintro ⟨k1,k2⟩
      rcases Ze (f:=f) (g:=g) h hab (λk=>h2 k.2) with k|k
      · rw [k] at k1;cases k1
      · exact k2 k
  · rw [if_neg h1,if_neg]
    rintro ⟨k1,k2⟩
    rcases Ze (f:=f) (g:=g) h hab (λk=>h1 k.1) with k|k
    · rw [k] at k1;cases k1
    · exact k2 k
theorem JY:∀n,(∀p∈BW ps ts a b n,p.tri<n)/\(BW ps ts a b n).Pairwise (λx y=>x.tri≠y.tri)
  | 0=>⟨(λp h=>by cases h),List.Pairwise.nil⟩
  | n+1=>by
    obtain ⟨h1,h2⟩:=JY n
    have h3:∀p∈Gf ps a b n (ts.getD n (0,0,0)),p.tri=n:=λp hp=>by
      unfold Gf at hp
      split at hp
      · split at hp
        · rw [xM.1 hp]
        · cases hp
      · cases hp
    have h4:(Gf ps a b n (ts.getD n (0,0,0))).Pairwise (λx y=>x.tri≠y.tri):=by
      unfold Gf
      split
      · split
        · exact List.pairwise_singleton _ _
        · exact List.Pairwise.nil
      · exact List.Pairwise.nil
    rw [BW]
    refine ⟨λp hp=>?_,List.pairwise_append.2 ⟨h2,h4,λx hx y hy=>?_⟩⟩
    · rcases List.mem_append.1 hp with hp|hp
      · have:=h1 p hp;omega
      · rw [h3 p hp];omega
    · rw [h3 y hy];have:=h1 x hx;omega
end
end
section
def Fc (c:P3) (a b:Pt):Rat×Rat×Bool:=if AF c.1 c.2.1 c.2.2=0 then (0,1,false) else Bb c a b
theorem Y6 {c0 c1 c2 a b:Pt} (h:AF c0 c1 c2=0):Fc (c0,c1,c2) a b=(0,1,false):=if_pos h
theorem Y7 {c0 c1 c2 a b:Pt} (h:¬AF c0 c1 c2=0):Fc (c0,c1,c2) a b=Bb (c0,c1,c2) a b:=if_neg h
theorem Wa {c:P3} {a b:Pt} (h1:BD c.1<=6) (h2:BD c.2.1<=6) (h3:BD c.2.2<=6) (ha:BD a<=6) (hb:BD b<=6):Sz (Fc c a b).1<=400/\Sz (Fc c a b).2.1<=400:=by
  unfold Fc
  split
  · constructor<;>decide +kernel
  · exact I2 ‹_› h1 h2 h3 ha hb
theorem NB {c:P3} {a b:Pt} (h:(Fc c a b).2.2=true):Fc c a b=Bb c a b/\AF c.1 c.2.1 c.2.2≠0:=by
  unfold Fc at *
  split at h
  · cases h
  · rw [if_neg ‹_›];exact ⟨rfl,‹_›⟩
theorem Lz {A B C p:Pt} (h:AF A B C=0):B3 A B C p=0:=if_pos h
section
variable {ps:List Pt} {ts:List (Tq3)} {a b:Pt} {t:Nat} {sv:Rat×Rat×Bool} {T:Tq3}
theorem JU (h:AF (BJ ps T.1) (BJ ps T.2.1) (BJ ps T.2.2)=0):Gf ps a b t T=[]:=by
  unfold Gf
  split
  · rw [if_neg]
    intro k
    have e:BR ps (F9 a b (Bb (Bz ps T) a b).1 (Bb (Bz ps T) a b).2.1) T=0:=Lz h
    rw [e] at k;cases k
  · rfl
theorem Ta (h:sv=Fc (Bz ps (ts.getD t (0,0,0))) a b) (h1:sv.2.2=false):BW ps ts a b (t+1)=BW ps ts a b t:=by
  by_cases h0:AF (Bz ps (ts.getD t (0,0,0))).1 (Bz ps (ts.getD t (0,0,0))).2.1 (Bz ps (ts.getD t (0,0,0))).2.2=0
  · rw [BW,JU h0,List.append_nil]
  · exact LT (h.trans (if_neg h0)) h1
theorem TZ (h:sv=Fc (Bz ps (ts.getD t (0,0,0))) a b) (h1:sv.2.2=true) (h2:¬BR ps (F9 a b sv.1 sv.2.1) (ts.getD t (0,0,0))=1):BW ps ts a b (t+1)=BW ps ts a b t :=
  LS (h.trans (NB (h▸h1)).1) h1 h2
theorem WE (h:sv=Fc (Bz ps (ts.getD t (0,0,0))) a b) (h1:sv.2.2=true) (h2:BR ps (F9 a b sv.1 sv.2.1) (ts.getD t (0,0,0))=1):BW ps ts a b (t+1)=BW ps ts a b t++[⟨t,sv.1,sv.2.1⟩] :=
  Ny (h.trans (NB (h▸h1)).1) h1 h2
theorem LU (hz:∀i,BD (BJ ps i)<=4) (sa:BD a<=6) (sb:BD b<=6):∀n,n<=ts.length->∀x∈BW ps ts a b n,ZR x
  | 0,_,x,h=>by cases h
  | n+1,hn,x,h=>by
    rcases List.mem_append.1 h with h|h
    · exact LU hz sa sb n Z x h
    · by_cases h0:AF (BJ ps (ts.getD n (0,0,0)).1) (BJ ps (ts.getD n (0,0,0)).2.1) (BJ ps (ts.getD n (0,0,0)).2.2)=0
      · rw [JU h0] at h;cases h
      · unfold Gf at h
        split at h
        · split at h
          · rw [xM.1 h]
            exact I2 (c:=Bz ps (ts.getD n (0,0,0))) h0 (xK (hz _) jY) (xK (hz _) jY) (xK (hz _) jY) sa sb
          · cases h
        · cases h
end
section
variable {f g:Pt->Pt->Bool} {ps:List Pt} {ts:List (Tq3)} {a b:Pt} {t:Nat} {T:Tq3}
theorem V6 (h:AF (BJ ps T.1) (BJ ps T.2.1) (BJ ps T.2.2)=0):(Ip f g ps a b T).2.2=false:=by
  unfold Ip
  cases hn:ID f g (BJ ps T.1) (BJ ps T.2.1) (BJ ps T.2.2) a b with
  | nil=>rw [KS hn]
  | cons x r=>rw [HT hn,Lz h];rfl
theorem TU (hab:a≠b):Gf ps a b t T=if (Ip f g ps a b T).2.2=true/\(Ip f g ps a b T).1≠(Ip f g ps a b T).2.1 then [⟨t,(Ip f g ps a b T).1,(Ip f g ps a b T).2.1⟩] else []:=by
  by_cases h:AF (BJ ps T.1) (BJ ps T.2.1) (BJ ps T.2.2)=0
  · rw [JU h,if_neg]
    rintro ⟨k,_⟩
    rw [V6 h] at k;cases k
  · exact V0 h hab
theorem JZ (hab:a≠b):∀n,(Fb f g ps ts a b n).Perm (BW ps ts a b n)/\(Fb f g ps ts a b n).Pairwise Md
  | 0=>⟨List.Perm.refl _,List.Pairwise.nil⟩
  | n+1=>by
    obtain ⟨h1,h2⟩:=JZ hab n
    have e:=TU (f:=f) (g:=g) (ps:=ps) (t:=n) (T:=ts.getD n (0,0,0)) hab
    unfold Fb
    rw [BW,e]
    split
    · refine ⟨(S9 _ _).trans (List.Perm.append_right _ h1),O2 h2 λq hq=>?_⟩
      exact (JY n).1 q (h1.mem_iff.1 hq)
    · rw [List.append_nil];exact ⟨h1,h2⟩
theorem WF (hab:a≠b) (n:Nat):Fb f g ps ts a b n=WG ps ts a b n :=
  ND (JZ hab n).1 (JZ hab n).2 (JY n).2
end
end
section
def fe (m:MQ):List P2:=(Zm m (JA m).length).1
def gP (m:MQ):List T3:=(Zm m (JA m).length).2
def gH (m:MQ):List Pt:=ek m (fQ m (fe m)) (fe m).length
structure ZS (ps:List Pt) (ts ss:List T3) where
  rs:List RP
  e:rs.map (·.p)=ps
  a:RX (rowsL Dp rs) rs.length
  b:RX (rowsL Bk ts) ts.length
  c:RX (rowsL Bk ss) ss.length
def ZS.rm {ps:List Pt} {ts ss:List T3} (x:ZS ps ts ss):RM x.rs.length ts ss:=⟨rowsL Dp x.rs,rowsL Bk ss,x.a,x.b,x.c⟩
def ew {ps:List Pt} {ts ss:List T3} (x:ZS ps ts ss):List Value:=cx x.rm
theorem av {ps:List Pt} {ts ss:List T3} {x:ZS ps ts ss} {y:As} (hy:y∈[x.a.row,x.b.row,x.c.row]++DE x.rs):y.ro=true:=by
  rcases List.mem_append.1 hy with hy|hy
  · simp only [xL,List.not_mem_nil,or_false] at hy
    rcases hy with rfl|rfl|rfl<;>rfl
  · exact Nz hy
instance {ps:List Pt} {ts ss:List T3}:CT (ZS ps ts ss):=⟨λx=>aG (ew x),λx=>[x.a.row,x.b.row,x.c.row]++DE x.rs,λx y hy=>av hy⟩
theorem ZS.len {ps:List Pt} {ts ss:List T3} (x:ZS ps ts ss):x.rs.length=ps.length:=by
  have h:=congrArg List.length x.e
  rwa [xI] at h
section
variable {S:Nat->Prop} {w W:World} {w0:Av} {L A:List As} {ps:List Pt} {ts ss:List T3} {rs:List RP}
end
structure fo (m:MQ) where
  ss:List T3
  o:ZS (gH m) (gP m) ss
instance {m:MQ}:CT (fo m):=⟨λx=>CT.val x.o,λx=>CT.rows x.o,λx y hy=>CT.ro x.o y hy⟩
end
section
set_option maxRecDepth 100000
theorem VJ (s:ByteArray) (r:Bool) (h1:1<=s.size) (hs:s.size<=4611686018427387904) (hr:((s.extract 0 1).toList == (ByteArray.mk #[48]).toList)=r) (w:World)  :Calls prog 184 #[(Value.string s),(Value.string (ByteArray.mk #[48]))] w (AY w (qa r)):=by
 refine AS (args:=[(Value.string s),(Value.string (ByteArray.mk #[48]))]) func184 O O (leB O) (zG (sL [0,1] O) (q4 (asg' O (oNl' (q2 (AL O (st' (v:=(vN ((s).size))) (C0 O underlying9) O (AL O (st' (v:=(vI 1)) ((show Ex _ _ _ _ _ _ (Value.int .i64 ((ByteArray.mk #[48]).size:Nat)) from C0 O underlying9)) O (st' (CW (c:=true) O O (Rp.trans (xE h1))) O (AL O ?_)))))))))))
 exact FV O (FV O (BN (v:=(vI 1)) O ((show Ex _ _ _ _ _ _ (Value.int .i64 ((ByteArray.mk #[48]).size:Nat)) from C0 O underlying9)) (BN (v:=(Value.string (s.extract 0 1))) O (FT (j:=1) O O underlying9 h1 O) (FV O (BN (v:=(qa r)) O (Bc (c:=r) O O hr) (st' (v:=(qa r)) (ex_pick_true O O) O (asg' O (oNl' (zB (sL [4] O) (zA (zF (ret_one O (rd_tmp (v:=(qa r)) O) (λw hw=>⟨rfl,hw.out⟩)))))))))))))
theorem hpre_ok (s:ByteArray) (r:Bool) (h1:1<=s.size) (hs:s.size<=4611686018427387904) (hr:((s.extract 0 1).toList == (ByteArray.mk #[48]).toList)=r) (w:World)  :Calls prog 140 #[(Value.string s),(Value.string (ByteArray.mk #[48]))] w (AY w (qa r)):=by
 refine AS (args:=[(Value.string s),(Value.string (ByteArray.mk #[48]))]) func140 O O (leB O) (zG (sL [0,1] O) (q4 (asg' O (oNl' (q2 (AL O (AL O (ck' call184 (VJ s r h1 hs hr) O (asg' O (oNl' (zB (sL [4] O) ?_)))))))))))
 exact zA (zF (ret_one O (rd_tmp (v:=(qa r)) O) (λw hw=>⟨rfl,hw.out⟩)))
theorem YM (x y:Nat) (hx:x<18446744073709551616) (hy:y<18446744073709551616) (w:World)  :Calls prog 139 #[(vK .u64 x),(vK .u64 y)] w (AY w (Value.tuple #[(vK .u64 (x*y/18446744073709551616)),(vK .u64 (x*y%18446744073709551616))])):=by
 refine AS (args:=[(vK .u64 x),(vK .u64 y)]) func139 O O (leB O) (zG (sL [0,1] O) (q4 (asg' O (asg' O (oNl' (q1 (zU O (zI (q2 (AL O (AL O ?_)))))))))))
 refine ck' call123 (O5 x y Z Z) O (AL O (st' (AH (v:=(vK .u64 (x*y/18446744073709551616))) O O) O (st' (AH (v:=(vK .u64 (x*y%18446744073709551616))) O O) O (asg' O (asg' O (q3 (sL [0,1,4,5,8,9] O) (AL O (AL O (asg' O (asg' O (oNl' ?_)))))))))))
 exact zB (sL [0,1,4,5] O) (zA (zF (Bf O (rd_tmp (v:=(vK .u64 (x*y/18446744073709551616))) O) (rd_tmp (v:=(vK .u64 (x*y%18446744073709551616))) O) (λw hw=>⟨rfl,hw.out⟩))))
theorem W9 {s:ByteArray} (h:((List.range 9).all λn=>(s.extract 0 n).data.toList == List.replicate n 48)=true) {n:Nat} (hn:n<=8):s.extract 0 n=txB (List.replicate n 48):=by
 have h1:=List.all_eq_true.1 h n (List.mem_range.2 Z)
 have h2:(s.extract 0 n).data.toList=List.replicate n 48:=by simpa using h1
 apply ByteArray.ext
 apply Array.toList_inj.1
 rw [h2];simp [txB]
theorem Ys (c:Nat) (h1:2<=c) (h2:c<=8) (w:World)  :Calls prog 89 #[(Value.string (ByteArray.mk #[48])),(vN c)] w (AY w (Value.string (txB (List.replicate c 48)))):=by
 refine AS (args:=[(Value.string (ByteArray.mk #[48])),(vN c)]) func89 O O (leB O) (zG (sL [0,1] O) (q4 (asg' O (oNl' (q1 (q4 (AL O (oNl' (zA (zN (q4 ?_)))))))))))
 refine st' (Az (c:=(decide (c=0))) O O (OI (a:=c) (b:=0))) O (asg' O (oNl' (zB (sL [0,1,4,11,12] O) (zA ?_))))
 refine zK O (λhc0=>?_) (λhc0=>?_)
 ·replace hc0:=xR hc0
  exfalso;omega
 ·replace hc0:=xQ hc0
  refine q4 (st' (Az (c:=(decide (c=1))) O O (OI (a:=c) (b:=1))) O (asg' O (oNl' (zB (sL [0,1,4,11,14] O) (zA ?_)))))
  refine zK O (λhc1=>?_) (λhc1=>?_)
  ·replace hc1:=xR hc1
   exfalso;omega
  ·replace hc1:=xQ hc1
   refine zI (zM (q1 (q4 (AL O (st' (Ag (c:=(decide (c<0))) O O (DL (a:=c) (b:=0))) O (oNl' (zB (sL [0,1,4,11,18] O) (zA ?_))))))))
   refine zK O (λhc2=>?_) (λhc2=>?_)
   ·replace hc2:=xR hc2
    exfalso;omega
   ·replace hc2:=xQ hc2
    refine zI (q2 (AL O (st' (v:=(vI 1)) ((show Ex _ _ _ _ _ _ (Value.int .i64 ((ByteArray.mk #[48]).size:Nat)) from C0 O underlying9)) O (st' (An (c:=(1:Int)) O underlying3 underlying164 jY) O (AL O (st' (An (c:=((c:Nat):Int)) O underlying3 underlying164 (BO Z)) O (ck' call139 (YM 1 c Z Z) O (AL O (st' (AH (v:=(vK .u64 (1*c/18446744073709551616))) O O) O (st' (AH (v:=(vK .u64 (1*c%18446744073709551616))) O O) O (asg' O ?_)))))))))))
    refine asg' O (q6 (sL [0,1,4,11,5,6] O) (q4 (AL O (st' (Bu (c:=false) O O (DL.trans (xz Z))) O (AL O (FV O (BN (v:=(qa false)) O (Bu (c:=false) O O ((DL (a:=9223372036854775807) (b:=1*c%18446744073709551616)).trans (xz Z))) (st' (v:=(qa false)) (AN O O) O (oNl' (zB (sL [0,1,4,11,6,34] O) (zA ?_)))))))))))
    refine zU O (zI (q2 (AL O (st' (An (c:=((c:Nat):Int)) O underlying164 underlying3 (by rw [BY Z Z];omega)) O (asg' O (q6 (sL [0,1,4,11,6,7] O) (q4 (AL O (st' (v:=(vI 1)) ((show Ex _ _ _ _ _ _ (Value.int .i64 ((ByteArray.mk #[48]).size:Nat)) from C0 O underlying9)) O (st' (Az (c:=false) O O jY) O (oNl' ?_)))))))))))
    refine zB (sL [0,1,4,11,6,7,40] O) (zA (zU O (zI (q1 (q4 (AL O (st' (v:=(Value.int .u8 (48:Int))) (Gy (j:=0) (b:=48) O O underlying9 O O) O (oNl' (zB (sL [0,1,4,11,6,7,42] O) (zA (zN ?_)))))))))))
    refine zV (q4 (st' (Az (c:=false) O O jY) O (asg' O (oNl' (zB (sL [0,1,4,11,6,7,42,43] O) (zA (zU O (q4 (st' (Az (c:=false) O O jY) O (asg' O (oNl' ?_)))))))))))
    refine zB (sL [0,1,4,11,6,7,42,43] O) (zA (zU O (q4 (st' (Az (c:=true) O O jY) O (asg' O (oNl' (zB (sL [0,1,4,11,6,7,42,43] O) (zA (zY O (zI (zA ?_)))))))))))
    refine zY O (zN (q4 (AL O (st' (D6 (c:=true) O O ((Rp (a:=c) (b:=128)).trans (xE Z))) O (AL O (FV O (zc (v:=(qa false)) (AE O) (Ac (args:=[(Value.string (ByteArray.mk (List.toArray (List.append [32,32,32,32,32,32,32,32,32,32,32,32,32,32,32,32,32,32,32,32,32,32,32,32,32,32,32,32,32,32,32,32,32,32,32,32,32,32,32,32,32,32,32,32,32,32,32,32,32,32,32,32,32,32,32,32,32,32,32,32,32,32,32,32] [32,32,32,32,32,32,32,32,32,32,32,32,32,32,32,32,32,32,32,32,32,32,32,32,32,32,32,32,32,32,32,32,32,32,32,32,32,32,32,32,32,32,32,32,32,32,32,32,32,32,32,32,32,32,32,32,32,32,32,32,32,32,32,32])))),(Value.string (ByteArray.mk #[48]))]) O O call140) (λw hw=>hpre_ok (ByteArray.mk (List.toArray (List.append [32,32,32,32,32,32,32,32,32,32,32,32,32,32,32,32,32,32,32,32,32,32,32,32,32,32,32,32,32,32,32,32,32,32,32,32,32,32,32,32,32,32,32,32,32,32,32,32,32,32,32,32,32,32,32,32,32,32,32,32,32,32,32,32] [32,32,32,32,32,32,32,32,32,32,32,32,32,32,32,32,32,32,32,32,32,32,32,32,32,32,32,32,32,32,32,32,32,32,32,32,32,32,32,32,32,32,32,32,32,32,32,32,32,32,32,32,32,32,32,32,32,32,32,32,32,32,32,32]))) false jY jY jV w) O (leB O) (st' (v:=(qa false)) (ex_pick_true O O) O (asg' O (oNl' (zB (sL [0,1,4,11,6,7,42,43,49] O) ?_)))))))))))
    refine zA (zU O (q4 (AL O (st' (D6 (c:=true) O O ((Rp (a:=c) (b:=128)).trans (xE Z))) O (AL O (FV O (zc (v:=(qa false)) (AE O) (Ac (args:=[(Value.string (ByteArray.mk (List.toArray (List.append [45,45,45,45,45,45,45,45,45,45,45,45,45,45,45,45,45,45,45,45,45,45,45,45,45,45,45,45,45,45,45,45,45,45,45,45,45,45,45,45,45,45,45,45,45,45,45,45,45,45,45,45,45,45,45,45,45,45,45,45,45,45,45,45] [45,45,45,45,45,45,45,45,45,45,45,45,45,45,45,45,45,45,45,45,45,45,45,45,45,45,45,45,45,45,45,45,45,45,45,45,45,45,45,45,45,45,45,45,45,45,45,45,45,45,45,45,45,45,45,45,45,45,45,45,45,45,45,45])))),(Value.string (ByteArray.mk #[48]))]) O O call140) (λw hw=>hpre_ok (ByteArray.mk (List.toArray (List.append [45,45,45,45,45,45,45,45,45,45,45,45,45,45,45,45,45,45,45,45,45,45,45,45,45,45,45,45,45,45,45,45,45,45,45,45,45,45,45,45,45,45,45,45,45,45,45,45,45,45,45,45,45,45,45,45,45,45,45,45,45,45,45,45] [45,45,45,45,45,45,45,45,45,45,45,45,45,45,45,45,45,45,45,45,45,45,45,45,45,45,45,45,45,45,45,45,45,45,45,45,45,45,45,45,45,45,45,45,45,45,45,45,45,45,45,45,45,45,45,45,45,45,45,45,45,45,45,45]))) false jY jY jV w) O (leB O) (st' (v:=(qa false)) (ex_pick_true O O) O (asg' O (oNl' (zB (sL [0,1,4,11,6,7,42,43,58] O) ?_)))))))))))
    refine zA (zU O (q4 (AL O (st' (D6 (c:=true) O O ((Rp (a:=c) (b:=64)).trans (xE Z))) O (AL O (FV O (zc (v:=(qa true)) (AE O) (Ac (args:=[(Value.string (ByteArray.mk #[48,48,48,48,48,48,48,48,48,48,48,48,48,48,48,48,48,48,48,48,48,48,48,48,48,48,48,48,48,48,48,48,48,48,48,48,48,48,48,48,48,48,48,48,48,48,48,48,48,48,48,48,48,48,48,48,48,48,48,48,48,48,48,48])),(Value.string (ByteArray.mk #[48]))]) O O call140) (λw hw=>hpre_ok (ByteArray.mk #[48,48,48,48,48,48,48,48,48,48,48,48,48,48,48,48,48,48,48,48,48,48,48,48,48,48,48,48,48,48,48,48,48,48,48,48,48,48,48,48,48,48,48,48,48,48,48,48,48,48,48,48,48,48,48,48,48,48,48,48,48,48,48,48]) true jY jY jV w) O (leB O) (st' (v:=(qa true)) (ex_pick_true O O) O (asg' O (oNl' (zB (sL [0,1,4,11,6,7,42,43,67] O) ?_)))))))))))
    refine zA (zY O (q4 (AL O (st' (v:=(Value.string (txB (List.replicate c 48)))) (FT (j:=c) O O underlying9 (xK h2 jY) (W9 jV h2)) O (asg' O (oNl' (zB (sL [0,1,4,11,6,7,42,43] O) (zA (zF (zT (zT ?_)))))))))))
    exact zH (ret_one O (rd_tmp (v:=(Value.string (txB (List.replicate c 48)))) O) (λw hw=>⟨rfl,hw.out⟩))
theorem Yv  (w:World)  :Calls prog 89 #[(Value.string (ByteArray.mk #[48])),(vI 0)] w (AY w (Value.string (ByteArray.mk #[]))):=by
 refine AS (args:=[(Value.string (ByteArray.mk #[48])),(vI 0)]) func89 O O (leB O) (zG (sL [0,1] O) (q4 (asg' O (oNl' (q1 (q4 (AL O (oNl' (zA (zN (q4 ?_)))))))))))
 refine st' (Az (c:=true) O O jY) O (asg' O (oNl' (zB (sL [0,1,4,11,12] O) (zA (zY O (q4 (asg' O (oNl' (zB (sL [0,1,4,11] O) (zA (zF ?_)))))))))))
 exact zT (zH (ret_one O (rd_tmp (v:=(Value.string (ByteArray.mk #[]))) O) (λw hw=>⟨rfl,hw.out⟩)))
theorem Yu  (w:World)  :Calls prog 89 #[(Value.string (ByteArray.mk #[48])),(vI 1)] w (AY w (Value.string (ByteArray.mk #[48]))):=by
 refine AS (args:=[(Value.string (ByteArray.mk #[48])),(vI 1)]) func89 O O (leB O) (zG (sL [0,1] O) (q4 (asg' O (oNl' (q1 (q4 (AL O (oNl' (zA (zN (q4 ?_)))))))))))
 refine st' (Az (c:=false) O O jY) O (asg' O (oNl' (zB (sL [0,1,4,11,12] O) (zA (zU O (q4 (st' (Az (c:=true) O O jY) O (asg' O (oNl' (zB (sL [0,1,4,11,14] O) (zA ?_)))))))))))
 exact zY O (q4 (AL O (asg' O (oNl' (zB (sL [0,1,4,11] O) (zA (zF (zT (zH (ret_one O (rd_tmp (v:=(Value.string (ByteArray.mk #[48]))) O) (λw hw=>⟨rfl,hw.out⟩)))))))))))
theorem Yt (c:Nat) (hc:c<=8) (w:World):Calls prog 89 #[Value.string (ByteArray.mk #[48]),vN c] w (AY w (Value.string (txB (List.replicate c 48)))):=by
 rcases Nat.lt_or_ge c 2 with h|h
 ·rcases Nat.lt_or_ge c 1 with h1|h1
  ·obtain rfl:c=0:=by omega
   exact Yv w
  ·obtain rfl:c=1:=by omega
   exact Yu w
 ·exact Ys c h hc w
end
end Go.Proofs.YtcpkbjjmcleplaaGreatDoor
