import Derived.Test.YtcpkbjjmcleplaaGreatDoorPart37
namespace Go.Proofs.YtcpkbjjmcleplaaGreatDoor
open Go Go.RowKit Go.Proofs.Tryz
open Go.Value renaming slice→qz,bool→qa
set_option linter.unusedVariables false
set_option linter.unusedSimpArgs false
section
theorem SD (u v:Rat) (s:Rat×Rat):(CS u v s).1=s.1\/u+(v-u)*(CS u v s).1=0:=by
  unfold CS
  split
  · rename_i h
    rw [JV] at h
    have hk:=I2 (u:=u) (d:=v-u) (by grind)
    rcases H_ s.1 (-u/(v-u)) with ⟨_,g⟩|⟨_,g⟩<;>dsimp only<;>rw [g]
    · right;generalize -u/(v-u)=k at *;grind
    · left;rfl
  · split
    · left;rfl
    · left;rfl
theorem SC (u v:Rat) (s:Rat×Rat):(CS u v s).2=s.2\/u+(v-u)*(CS u v s).2=0:=by
  unfold CS
  split
  · left;rfl
  · split
    · rename_i h
      rw [CE] at h
      have hk:=I2 (u:=u) (d:=v-u) (by grind)
      rcases H_ (-s.2) (-(-u/(v-u))) with ⟨_,g⟩|⟨_,g⟩<;>dsimp only<;>rw [g]
      · right;generalize -u/(v-u)=k at *;grind
      · left;grind
    · left;rfl
section
variable {u v k s s0 u0 v0 u1 v1 u2 v2:Rat}
theorem ar (h:(Bu u0 v0 u1 v1 u2 v2).2.2=true):(Bu u0 v0 u1 v1 u2 v2).1=0\/u0+(v0-u0)*(Bu u0 v0 u1 v1 u2 v2).1=0\/u1+(v1-u1)*(Bu u0 v0 u1 v1 u2 v2).1=0\/u2+(v2-u2)*(Bu u0 v0 u1 v1 u2 v2).1=0:=by
  obtain ⟨_,_,_,e,_⟩:=Md h
  rw [e]
  dsimp only
  rcases SD u2 v2 (CS u1 v1 (CS u0 v0 (0,1))) with h2|h2
  · rw [h2]
    rcases SD u1 v1 (CS u0 v0 (0,1)) with h1|h1
    · rw [h1]
      rcases SD u0 v0 (0,1) with h0|h0
      · exact .inl h0
      · exact .inr (.inl h0)
    · exact .inr (.inr (.inl h1))
  · exact .inr (.inr (.inr h2))
theorem aq (h:(Bu u0 v0 u1 v1 u2 v2).2.2=true):(Bu u0 v0 u1 v1 u2 v2).2.1=1\/u0+(v0-u0)*(Bu u0 v0 u1 v1 u2 v2).2.1=0\/u1+(v1-u1)*(Bu u0 v0 u1 v1 u2 v2).2.1=0\/u2+(v2-u2)*(Bu u0 v0 u1 v1 u2 v2).2.1=0:=by
  obtain ⟨_,_,_,e,_⟩:=Md h
  rw [e]
  dsimp only
  rcases SC u2 v2 (CS u1 v1 (CS u0 v0 (0,1))) with h2|h2
  · rw [h2]
    rcases SC u1 v1 (CS u0 v0 (0,1)) with h1|h1
    · rw [h1]
      rcases SC u0 v0 (0,1) with h0|h0
      · exact .inl h0
      · exact .inr (.inl h0)
    · exact .inr (.inr (.inl h1))
  · exact .inr (.inr (.inr h2))
theorem Lv (h1:k<s) (h2:s<=s0) (hk:0<=u+(v-u)*k) (h0:0<u+(v-u)*s0):0<u+(v-u)*s:=by
  have e:(u+(v-u)*s)*(s0-k)=(u+(v-u)*k)*(s0-s)+(u+(v-u)*s0)*(s-k):=by grind
  have p1:=Rat.mul_nonneg hk (show 0<=s0-s by grind)
  have p2:=Rat.mul_pos h0 (show 0<s-k by grind)
  exact MJ (show 0<s0-k by grind) (by grind)
theorem Lw (h1:s<k) (h2:s0<=s) (hk:0<=u+(v-u)*k) (h0:0<u+(v-u)*s0):0<u+(v-u)*s:=by
  have e:(u+(v-u)*s)*(k-s0)=(u+(v-u)*k)*(s-s0)+(u+(v-u)*s0)*(k-s):=by grind
  have p1:=Rat.mul_nonneg hk (show 0<=s-s0 by grind)
  have p2:=Rat.mul_pos h0 (show 0<k-s by grind)
  exact MJ (show 0<k-s0 by grind) (by grind)
theorem Xw (h0:0<=s0) (h1:s0<=1) (l0:0<u0+(v0-u0)*s0) (l1:0<u1+(v1-u1)*s0) (l2:0<u2+(v2-u2)*s0) (k0:0<=k) (k1:k<=1) (m0:0<=u0+(v0-u0)*k) (m1:0<=u1+(v1-u1)*k) (m2:0<=u2+(v2-u2)*k) :
    (Bu u0 v0 u1 v1 u2 v2).1<=k/\k<=(Bu u0 v0 u1 v1 u2 v2).2.1:=by
  obtain ⟨_,g1,g2⟩:=LD h0 h1 l0 l1 l2
  generalize hf:(Bu u0 v0 u1 v1 u2 v2).1=f at *
  generalize ht:(Bu u0 v0 u1 v1 u2 v2).2.1=t at *
  constructor
  · rcases C5 k f with h|h
    · have a1:k<(k+f)*(1/2):=by grind
      have a2:(k+f)*(1/2)<=s0:=by grind
      have a3:(k+f)*(1/2)<f:=by grind
      generalize (k+f)*(1/2)=s at a1 a2 a3
      have h5:=(LD (s:=s) (by grind) (by grind) (Lv a1 a2 m0 l0) (Lv a1 a2 m1 l1) (Lv a1 a2 m2 l2)).2.1
      rw [hf] at h5;grind
    · exact h
  · rcases C5 t k with h|h
    · have a1:(k+t)*(1/2)<k:=by grind
      have a2:s0<=(k+t)*(1/2):=by grind
      have a3:t<(k+t)*(1/2):=by grind
      generalize (k+t)*(1/2)=s at a1 a2 a3
      have h5:=(LD (s:=s) (by grind) (by grind) (Lw a1 a2 m0 l0) (Lw a1 a2 m1 l1) (Lw a1 a2 m2 l2)).2.2
      rw [ht] at h5;grind
    · exact h
end
def M2:Rat->List Rat->Rat
  | m,[]=>m
  | m,e::r=>M2 (if BR e m<0 then e else m) r
def M4:Rat->List Rat->Rat
  | m,[]=>m
  | m,e::r=>M4 (if 0<BR e m then e else m) r
theorem Kw {a b:Rat}:0<BR a b↔b<a:=by
  unfold BR
  split
  · exact ⟨λh=>absurd h jY,λh=>by grind⟩
  · split
    · exact ⟨λh=>absurd h jY,λh=>by grind⟩
    · exact ⟨λ_=>by grind,λ_=>by decide⟩
theorem L5:∀(l:List Rat) (m:Rat),M2 m l∈m::l/\∀x∈m::l,M2 m l<=x
  | [],m=>⟨xM.2 rfl,λx h=>by rw [xM.1 h];exact Rat.le_refl⟩
  | e::r,m=>by
    obtain ⟨h1,h2⟩:=L5 r (if BR e m<0 then e else m)
    unfold M2
    have hle:(if BR e m<0 then e else m)<=e/\(if BR e m<0 then e else m)<=m/\((if BR e m<0 then e else m)=e\/(if BR e m<0 then e else m)=m):=by
      split
      · rename_i h;rw [G1] at h;exact ⟨Rat.le_refl,by grind,.inl rfl⟩
      · rename_i h;rw [G1] at h;exact ⟨by grind,Rat.le_refl,.inr rfl⟩
    generalize (if BR e m<0 then e else m)=q at *
    have h3:=h2 q List.mem_cons_self
    refine ⟨?_,λx hx=>?_⟩
    · rcases xL.1 h1 with h4|h4
      · rcases hle.2.2 with h5|h5
        · rw [h4,h5];exact List.mem_cons_of_mem _ List.mem_cons_self
        · rw [h4,h5];exact List.mem_cons_self
      · exact List.mem_cons_of_mem _ (List.mem_cons_of_mem _ h4)
    · rcases xL.1 hx with rfl|hx
      · exact Rat.le_trans h3 hle.2.1
      · rcases xL.1 hx with rfl|hx
        · exact Rat.le_trans h3 hle.1
        · exact h2 x (List.mem_cons_of_mem _ hx)
theorem L9:∀(l:List Rat) (m:Rat),M4 m l∈m::l/\∀x∈m::l,x<=M4 m l
  | [],m=>⟨xM.2 rfl,λx h=>by rw [xM.1 h];exact Rat.le_refl⟩
  | e::r,m=>by
    obtain ⟨h1,h2⟩:=L9 r (if 0<BR e m then e else m)
    unfold M4
    have hle:e<=(if 0<BR e m then e else m)/\m<=(if 0<BR e m then e else m)/\((if 0<BR e m then e else m)=e\/(if 0<BR e m then e else m)=m):=by
      split
      · rename_i h;rw [Kw] at h;exact ⟨Rat.le_refl,by grind,.inl rfl⟩
      · rename_i h;rw [Kw] at h;exact ⟨by grind,Rat.le_refl,.inr rfl⟩
    generalize (if 0<BR e m then e else m)=q at *
    have h3:=h2 q List.mem_cons_self
    refine ⟨?_,λx hx=>?_⟩
    · rcases xL.1 h1 with h4|h4
      · rcases hle.2.2 with h5|h5
        · rw [h4,h5];exact List.mem_cons_of_mem _ List.mem_cons_self
        · rw [h4,h5];exact List.mem_cons_self
      · exact List.mem_cons_of_mem _ (List.mem_cons_of_mem _ h4)
    · rcases xL.1 hx with rfl|hx
      · exact Rat.le_trans hle.2.1 h3
      · rcases xL.1 hx with rfl|hx
        · exact Rat.le_trans hle.1 h3
        · exact h2 x (List.mem_cons_of_mem _ hx)
def NL (a b p:Pt):Rat:=C8 (p-a) (b-a)/C8 (b-a) (b-a)
def VQ (f g:Pt->Pt->Bool) (a b c d:Pt):List Rat:=if (Hg f g a b c d).1=1 then [NL a b (Hg f g a b c d).2] else []
def Im (f g:Pt->Pt->Bool) (A B C a b:Pt):List Rat:=(if 0<CG A B C a then [0] else [])++((if 0<CG A B C b then [1] else [])++(VQ f g a b A B++(VQ f g a b B C++VQ f g a b C A)))
section
variable {A B C a b p:Pt} {s s0 k:Rat} {f g:Pt->Pt->Bool}
theorem S_ (h:a≠b) (s:Rat):NL a b (Fb a b s)=s:=by
  have hN:=S0 h
  have hi:((b.x-a.x)*(b.x-a.x)+(b.y-a.y)*(b.y-a.y))⁻¹*((b.x-a.x)*(b.x-a.x)+(b.y-a.y)*(b.y-a.y))=1:=Rat.inv_mul_cancel _ (by grind)
  unfold NL
  rw [Rat.div_def,Kz,Kz,HT,HU,HT,HU,JN,JO]
  generalize ((b.x-a.x)*(b.x-a.x)+(b.y-a.y)*(b.y-a.y))⁻¹=e at *
  grind
theorem aF:Fb a b 0=a:=Pt.ext (by rw [JN];grind) (by rw [JO];grind)
theorem aH:Fb a b 1=b:=Pt.ext (by rw [JN];grind) (by rw [JO];grind)
theorem HN (h:AF A B C≠0):0<CG A B C p↔0<=EK A B C p/\0<=EM A B C p/\0<=Db A B C p:=by
  unfold CG
  rw [if_neg h]
  have e:=@Qn (EK A B C p) (EM A B C p) (Db A B C p)
  unfold EK EM Db at *
  constructor
  · intro h1
    exact Decidable.not_not.1 λh2=>by rw [e.2 h2] at h1;exact absurd h1 jY
  · intro h1
    exact Nat.pos_of_ne_zero λh2=>e.1 h2 h1
theorem SM (h:AF A B C≠0):CG A B C p=1↔0<EK A B C p/\0<EM A B C p/\0<Db A B C p:=by
  unfold CG
  rw [if_neg h]
  exact SK
def M7 (A B C a b:Pt) (k:Rat):Prop:=0<=k/\k<=1/\0<=EK A B C (Fb a b k)/\0<=EM A B C (Fb a b k)/\0<=Db A B C (Fb a b k)
theorem RH (h:AF A B C≠0) (hab:a≠b) (hk:k∈VQ f g a b A B):M7 A B C a b k:=by
  unfold VQ at hk
  split at hk
  · rename_i h1
    obtain ⟨o1,o2⟩:=b_ hab (O7 h) h1
    obtain ⟨s,s1,s2,e⟩:=(Hs hab).1 o1
    obtain ⟨m2,m0,m1⟩:=(MH h).1 o2
    rw [xM.1 hk,e,S_ hab]
    rw [e] at m0 m1 m2
    exact ⟨s1,s2,m0,m1,by rw [m2];exact Rat.le_refl⟩
  · cases hk
theorem M7.cyc (h:M7 B C A a b k):M7 A B C a b k:=by
  obtain ⟨h1,h2,h3,h4,h5⟩:=h
  obtain ⟨e0,e1,e2⟩:=@Fo (Fb a b k) A B C
  rw [e0] at h3;rw [e1] at h4;rw [e2] at h5
  exact ⟨h1,h2,h5,h3,h4⟩
theorem Gm (h:AF A B C≠0):AF B C A≠0:=by rw [Gl A B C];exact h
theorem Rv (h:AF A B C≠0) (hab:a≠b) (hk:k∈Im f g A B C a b):M7 A B C a b k:=by
  unfold Im at hk
  rcases List.mem_append.1 hk with hk|hk
  · split at hk
    · rename_i h1
      rw [xM.1 hk]
      obtain ⟨m0,m1,m2⟩:=(HN h).1 h1
      exact ⟨by grind,by grind,by rw [aF];exact m0,by rw [aF];exact m1,by rw [aF];exact m2⟩
    · cases hk
  · rcases List.mem_append.1 hk with hk|hk
    · split at hk
      · rename_i h1
        rw [xM.1 hk]
        obtain ⟨m0,m1,m2⟩:=(HN h).1 h1
        exact ⟨by grind,by grind,by rw [aH];exact m0,by rw [aH];exact m1,by rw [aH];exact m2⟩
      · cases hk
    · rcases List.mem_append.1 hk with hk|hk
      · exact RH h hab hk
      · rcases List.mem_append.1 hk with hk|hk
        · exact (RH (Gm h) hab hk).cyc
        · exact (RH (Gm (Gm h)) hab hk).cyc.cyc
theorem RI (h:AF A B C≠0) (hab:a≠b) (hk:M7 A B C a b k) (h2:Db A B C (Fb a b k)=0) (h3:0<Db A B C (Fb a b s0)):k∈VQ f g a b A B:=by
  obtain ⟨k0,k1,m0,m1,_⟩:=hk
  have l1:=(@I6 a b A B C k).2.2
  have l2:=(@I6 a b A B C s0).2.2
  rw [l1] at h2
  rw [l2] at h3
  have hd:Db A B C b-Db A B C a≠0:=λe=>by rw [e] at h2 h3;grind
  have hk2:BI (b-a) (B-A)≠0:=λe=>hd (by
    have e1:AF A B b=AF A B a:=by simp only [B0,Na,HT,HU] at *;grind
    unfold Db;rw [e1];grind)
  have hc:Hg f g a b A B=(1,Fb a b k):=by
    refine Y3 hab (O7 h) hk2 (λe o1 o2=>?_) ((Hs hab).2 ⟨k,k0,k1,rfl⟩) ((MH h).2 ⟨by rw [l1];exact h2,m0,m1⟩)
    obtain ⟨s,_,_,rfl⟩:=(Hs hab).1 o1
    have h4:=((MH h).1 o2).1
    rw [(@I6 a b A B C s).2.2] at h4
    have e5:(Db A B C b-Db A B C a)*(s-k)=0:=by grind
    rcases Rat.mul_eq_zero.1 e5 with h6|h6
    · exact absurd h6 hd
    · rw [show s=k by grind]
  unfold VQ
  rw [hc,if_pos rfl]
  exact xM.2 (S_ hab k).symm
theorem aA (h:AF A B C≠0) (hab:a≠b) (h0:0<=s0) (h1:s0<=1) (hs:CG A B C (Fb a b s0)=1) :
    (Bg (A,B,C) a b).2.2=true/\(Bg (A,B,C) a b).1∈Im f g A B C a b/\(Bg (A,B,C) a b).2.1∈Im f g A B C a b/\∀k∈Im f g A B C a b,(Bg (A,B,C) a b).1<=k/\k<=(Bg (A,B,C) a b).2.1:=by
  obtain ⟨p0,p1,p2⟩:=(SM h).1 hs
  have q0:=p0;have q1:=p1;have q2:=p2
  have lin:=λk=>@I6 a b A B C k
  rw [(lin s0).1] at p0;rw [(lin s0).2.1] at p1;rw [(lin s0).2.2] at p2
  have hsp:Bg (A,B,C) a b=Bu (EK A B C a) (EK A B C b) (EM A B C a) (EM A B C b) (Db A B C a) (Db A B C b):=rfl
  rw [hsp]
  obtain ⟨y,g1,g2⟩:=LD h0 h1 p0 p1 p2
  obtain ⟨b0,blt,b1,ball⟩:=N4 y
  have hcl:∀k,(Bu (EK A B C a) (EK A B C b) (EM A B C a) (EM A B C b) (Db A B C a) (Db A B C b)).1<=k->k<=(Bu (EK A B C a) (EK A B C b) (EM A B C a) (EM A B C b) (Db A B C a) (Db A B C b)).2.1->M7 A B C a b k:=λk c1 c2=>by
    obtain ⟨m0,m1,m2⟩:=ball k c1 c2
    exact ⟨by grind,by grind,by rw [(lin k).1];exact m0,by rw [(lin k).2.1];exact m1,by rw [(lin k).2.2];exact m2⟩
  have root:∀k,M7 A B C a b k->(EK A B C a+(EK A B C b-EK A B C a)*k=0\/EM A B C a+(EM A B C b-EM A B C a)*k=0\/Db A B C a+(Db A B C b-Db A B C a)*k=0)->k∈Im f g A B C a b:=λk hk hr=>by
    have c1:M7 B C A a b k:=by
      obtain ⟨z1,z2,z3,z4,z5⟩:=hk
      obtain ⟨e0,e1,e2⟩:=@Fo (Fb a b k) A B C
      exact ⟨z1,z2,by rw [e0];exact z4,by rw [e1];exact z5,by rw [e2];exact z3⟩
    have c2:M7 C A B a b k:=by
      obtain ⟨z1,z2,z3,z4,z5⟩:=c1
      obtain ⟨e0,e1,e2⟩:=@Fo (Fb a b k) B C A
      exact ⟨z1,z2,by rw [e0];exact z4,by rw [e1];exact z5,by rw [e2];exact z3⟩
    unfold Im
    refine xG _ (xG _ ?_)
    rcases hr with r|r|r
    · refine xG _ (xF _ (RI (C:=A) (s0:=s0) (Gm h) hab c1 ?_ ?_))
      · rw [(@Fo (Fb a b k) A B C).2.2,(lin k).1];exact r
      · rw [(@Fo (Fb a b s0) A B C).2.2];exact q0
    · refine xG _ (xG _ (RI (C:=B) (s0:=s0) (Gm (Gm h)) hab c2 ?_ ?_))
      · rw [(@Fo (Fb a b k) B C A).2.2,(@Fo (Fb a b k) A B C).1,(lin k).2.1];exact r
      · rw [(@Fo (Fb a b s0) B C A).2.2,(@Fo (Fb a b s0) A B C).1];exact q1
    · refine xF _ (RI (C:=C) (s0:=s0) h hab hk ?_ q2)
      rw [(lin k).2.2];exact r
  refine ⟨y,?_,?_,λk hk=>?_⟩
  · have hc:=hcl _ Rat.le_refl (Rat.le_of_lt blt)
    rcases ar y with r|r
    · rw [r] at hc ⊢
      unfold Im
      refine xF _ ?_
      obtain ⟨_,_,z0,z1,z2⟩:=hc
      rw [aF] at z0 z1 z2
      rw [if_pos ((HN h).2 ⟨z0,z1,z2⟩)]
      exact xM.2 O
    · exact root _ hc r
  · have hc:=hcl _ (Rat.le_of_lt blt) Rat.le_refl
    rcases aq y with r|r
    · rw [r] at hc ⊢
      unfold Im
      refine xG _ (xF _ ?_)
      obtain ⟨_,_,z0,z1,z2⟩:=hc
      rw [aH] at z0 z1 z2
      rw [if_pos ((HN h).2 ⟨z0,z1,z2⟩)]
      exact xM.2 O
    · exact root _ hc r
  · obtain ⟨k0,k1,m0,m1,m2⟩:=Rv h hab hk
    rw [(lin k).1] at m0;rw [(lin k).2.1] at m1;rw [(lin k).2.2] at m2
    exact Xw h0 h1 p0 p1 p2 k0 k1 m0 m1 m2
end
def TE (f g:Pt->Pt->Bool) (A B C a b:Pt):Rat×Rat×Bool:=match Im f g A B C a b with
  | []=>(0,0,false)
  | x::r=>(M2 x r,M4 x r,decide (CG A B C (Fb a b ((M2 x r+M4 x r)*(1/2)))=1))
section
variable {A B C a b:Pt} {f g:Pt->Pt->Bool} {x:Rat} {r:List Rat}
theorem Ht (h:Im f g A B C a b=x::r):TE f g A B C a b=(M2 x r,M4 x r,decide (CG A B C (Fb a b ((M2 x r+M4 x r)*(1/2)))=1)):=by unfold TE;rw [h]
theorem K7 (h:Im f g A B C a b=[]):TE f g A B C a b=(0,0,false):=by unfold TE;rw [h]
theorem TF (h:AF A B C≠0) (hab:a≠b) {s0:Rat} (h0:0<=s0) (h1:s0<=1) (hs:CG A B C (Fb a b s0)=1) :
    (Bg (A,B,C) a b).2.2=true/\TE f g A B C a b=((Bg (A,B,C) a b).1,(Bg (A,B,C) a b).2.1,decide (CG A B C (Fb a b (((Bg (A,B,C) a b).1+(Bg (A,B,C) a b).2.1)*(1/2)))=1)):=by
  obtain ⟨y,i1,i2,i3⟩:=aA (f:=f) (g:=g) h hab h0 h1 hs
  refine ⟨y,?_⟩
  cases hn:Im f g A B C a b with
  | nil=>rw [hn] at i1;cases i1
  | cons x r =>
    rw [hn] at i1 i2 i3
    have m:=L5 r x
    have n:=L9 r x
    have e1:M2 x r=(Bg (A,B,C) a b).1:=Rat.le_antisymm (m.2 _ i1) (i3 _ m.1).1
    have e2:M4 x r=(Bg (A,B,C) a b).2.1:=Rat.le_antisymm (i3 _ n.1).2 (n.2 _ i2)
    rw [Ht hn,e1,e2]
theorem dD (h:AF A B C≠0) (hab:a≠b) (h1:(Bg (A,B,C) a b).2.2=true) (h2:CG A B C (Fb a b (((Bg (A,B,C) a b).1+(Bg (A,B,C) a b).2.1)*(1/2)))=1) :
    TE f g A B C a b=((Bg (A,B,C) a b).1,(Bg (A,B,C) a b).2.1,true)/\(Bg (A,B,C) a b).1≠(Bg (A,B,C) a b).2.1:=by
  obtain ⟨b0,blt,b1,_⟩:=N4 (show (Bu (EK A B C a) (EK A B C b) (EM A B C a) (EM A B C b) (Db A B C a) (Db A B C b)).2.2=true from h1)
  have b0:0<=(Bg (A,B,C) a b).1:=b0
  have blt:(Bg (A,B,C) a b).1<(Bg (A,B,C) a b).2.1:=blt
  have b1:(Bg (A,B,C) a b).2.1<=1:=b1
  have k:=(TF (f:=f) (g:=g) h hab (by grind) (by grind) h2).2
  rw [xE h2] at k
  exact ⟨k,by grind⟩
theorem bW (h:AF A B C≠0) (hab:a≠b) (hn:¬((Bg (A,B,C) a b).2.2=true/\CG A B C (Fb a b (((Bg (A,B,C) a b).1+(Bg (A,B,C) a b).2.1)*(1/2)))=1)) :
    (TE f g A B C a b).2.2=false\/(TE f g A B C a b).1=(TE f g A B C a b).2.1:=by
  cases hp:Im f g A B C a b with
  | nil=>rw [K7 hp];exact .inl rfl
  | cons x r =>
    have e:=Ht hp
    have m:=Rv h hab (show M2 x r∈Im f g A B C a b by rw [hp];exact (L5 r x).1)
    have n:=Rv h hab (show M4 x r∈Im f g A B C a b by rw [hp];exact (L9 r x).1)
    by_cases hw:CG A B C (Fb a b ((M2 x r+M4 x r)*(1/2)))=1
    · refine absurd ?_ hn
      have m1:=m.1;have m2:=m.2.1;have n1:=n.1;have n2:=n.2.1
      obtain ⟨y,k⟩:=TF (f:=f) (g:=g) h hab (by grind) (by grind) hw
      refine ⟨y,?_⟩
      rw [e] at k
      have k1:M2 x r=(Bg (A,B,C) a b).1:=congrArg Prod.fst k
      have k2:M4 x r=(Bg (A,B,C) a b).2.1:=congrArg (λq=>q.2.1) k
      rw [<-k1,<-k2];exact hw
    · rw [e,xD hw];exact .inl rfl
end
end
section
def cv:Pc:=⟨0,0,0⟩
def OD (l:List Pc) (lo:Rat):Nat->Nat
  | 0=>0
  | n+1=>if 0<BR (l.getD n cv).lo lo then OD l lo n else n+1
def Ki (p:Pc) (l:List Pc):List Pc:=l.take (OD l p.lo l.length)++p::l.drop (OD l p.lo l.length)
theorem PZ (l:List Pc) (lo:Rat):∀n,OD l lo n<=n/\(∀j,OD l lo n<=j->j<n->lo<(l.getD j cv).lo)/\(0<OD l lo n->(l.getD (OD l lo n-1) cv).lo<=lo)
  | 0=>⟨Nat.le_refl _,λj h1 h2=>absurd h2 (Nat.not_lt_zero _),λh=>absurd h (Nat.lt_irrefl 0)⟩
  | n+1=>by
    unfold OD
    split
    · rename_i h
      rw [Kw] at h
      obtain ⟨h1,h2,h3⟩:=PZ l lo n
      refine ⟨Z,λj k1 k2=>?_,h3⟩
      rcases Nat.lt_or_ge j n with h4|h4
      · exact h2 j k1 h4
      · rw [show j=n by omega];exact h
    · rename_i h
      rw [Kw] at h
      refine ⟨Nat.le_refl _,λj k1 k2=>by omega,λ_=>?_⟩
      rw [Nat.add_sub_cancel];grind
theorem UM (p:Pc) (l:List Pc):(Ki p l).Perm (l++[p]):=by
  unfold Ki
  generalize OD l p.lo l.length=k
  refine (List.perm_middle).trans ?_
  rw [List.take_append_drop]
  exact (List.perm_append_singleton p l).symm
theorem QB {p:Pc} {l:List Pc} (hs:l.Pairwise NR) (ht:∀q∈l,q.tri<p.tri):(Ki p l).Pairwise NR:=by
  obtain ⟨h1,h2,h3⟩:=PZ l p.lo l.length
  unfold Ki
  generalize hk:OD l p.lo l.length=k at *
  have gd:∀j (h:j<l.length),l.getD j cv=l[j]:=λj h=>by rw [List.getD,xN h];rfl
  have hle:∀q∈l.take k,NR q p:=λq hq=>by
    obtain ⟨j,hj,rfl⟩:=List.getElem_of_mem hq
    rw [List.length_take] at hj
    rw [List.getElem_take]
    have hjl:j<l.length:=by omega
    have hk0:k-1<l.length:=by omega
    have h4:=h3 Z
    rw [gd _ hk0] at h4
    rw [IC]
    have hjk:l[j].lo<=l[k-1].lo:=by
      rcases Nat.lt_or_ge j (k-1) with h5|h5
      · have h6:=(List.pairwise_iff_getElem.1 hs) j (k-1) hjl hk0 h5
        rw [IC] at h6
        rcases h6 with h6|⟨h6,_⟩<;>grind
      · have e:j=k-1:=by omega
        subst e;exact Rat.le_refl
    have h7:=ht l[j] (List.getElem_mem hjl)
    rcases (show l[j].lo<p.lo\/l[j].lo=p.lo by grind) with h8|h8
    · exact .inl h8
    · exact .inr ⟨h8,Z⟩
  have hge:∀q∈l.drop k,NR p q:=λq hq=>by
    obtain ⟨j,hj,rfl⟩:=List.getElem_of_mem hq
    rw [List.length_drop] at hj
    rw [List.getElem_drop]
    have h4:=h2 (k+j) Z Z
    rw [gd _ Z] at h4
    rw [IC]
    exact .inl h4
  refine List.pairwise_append.2 ⟨hs.sublist (List.take_sublist k l),List.pairwise_cons.2 ⟨hge,hs.sublist (List.drop_sublist k l)⟩,λx hx y hy=>?_⟩
  rcases xL.1 hy with rfl|hy
  · exact hle x hx
  · exact (hle x hx).trans (hge y hy)
section
variable (f g:Pt->Pt->Bool) (ps:List Pt) (ts:List (Tq3)) (a b:Pt)
def JM (T:Tq3):Rat×Rat×Bool:=TE f g (BU ps T.1) (BU ps T.2.1) (BU ps T.2.2) a b
def F6:Nat->List Pc
  | 0=>[]
  | t+1=>if (JM f g ps a b (ts.getD t (0,0,0))).2.2=true/\(JM f g ps a b (ts.getD t (0,0,0))).1≠(JM f g ps a b (ts.getD t (0,0,0))).2.1 then Ki ⟨t,(JM f g ps a b (ts.getD t (0,0,0))).1,(JM f g ps a b (ts.getD t (0,0,0))).2.1⟩ (F6 t) else F6 t
end
section
variable {f g:Pt->Pt->Bool} {ps:List Pt} {ts:List (Tq3)} {a b:Pt} {t:Nat} {T:Tq3}
theorem XH (h:AF (BU ps T.1) (BU ps T.2.1) (BU ps T.2.2)≠0) (hab:a≠b):G_ ps a b t T=if (JM f g ps a b T).2.2=true/\(JM f g ps a b T).1≠(JM f g ps a b T).2.1 then [⟨t,(JM f g ps a b T).1,(JM f g ps a b T).2.1⟩] else []:=by
  have e1:Bg (B_ ps T) a b=Bg (BU ps T.1,BU ps T.2.1,BU ps T.2.2) a b:=rfl
  unfold G_ JM
  rw [Zp,e1]
  by_cases h1:(Bg (BU ps T.1,BU ps T.2.1,BU ps T.2.2) a b).2.2=true
  · rw [if_pos h1]
    by_cases h2:BZ ps (Fb a b (((Bg (BU ps T.1,BU ps T.2.1,BU ps T.2.2) a b).1+(Bg (BU ps T.1,BU ps T.2.1,BU ps T.2.2) a b).2.1)*(1/2))) T=1
    · rw [if_pos h2]
      obtain ⟨k1,k2⟩:=dD (f:=f) (g:=g) h hab h1 h2
      rw [k1,if_pos ⟨rfl,k2⟩]
    · rw [if_neg h2,if_neg]
      rintro ⟨k1,k2⟩
      rcases bW (f:=f) (g:=g) h hab (λk=>h2 k.2) with k|k
      · rw [k] at k1;cases k1
      · exact k2 k
  · rw [if_neg h1,if_neg]
    rintro ⟨k1,k2⟩
    rcases bW (f:=f) (g:=g) h hab (λk=>h1 k.1) with k|k
    · rw [k] at k1;cases k1
    · exact k2 k
theorem J6:∀n,(∀p∈Bc ps ts a b n,p.tri<n)/\(Bc ps ts a b n).Pairwise (λx y=>x.tri≠y.tri)
  | 0=>⟨(λp h=>by cases h),List.Pairwise.nil⟩
  | n+1=>by
    obtain ⟨h1,h2⟩:=J6 n
    have h3:∀p∈G_ ps a b n (ts.getD n (0,0,0)),p.tri=n:=λp hp=>by
      unfold G_ at hp
      split at hp
      · split at hp
        · rw [xM.1 hp]
        · cases hp
      · cases hp
    have h4:(G_ ps a b n (ts.getD n (0,0,0))).Pairwise (λx y=>x.tri≠y.tri):=by
      unfold G_
      split
      · split
        · exact List.pairwise_singleton _ _
        · exact List.Pairwise.nil
      · exact List.Pairwise.nil
    rw [Bc]
    refine ⟨λp hp=>?_,List.pairwise_append.2 ⟨h2,h4,λx hx y hy=>?_⟩⟩
    · rcases List.mem_append.1 hp with hp|hp
      · have:=h1 p hp;omega
      · rw [h3 p hp];omega
    · rw [h3 y hy];have:=h1 x hx;omega
end
end
section
def F7 (c:P3) (a b:Pt):Rat×Rat×Bool:=if AF c.1 c.2.1 c.2.2=0 then (0,1,false) else Bg c a b
theorem aj {c0 c1 c2 a b:Pt} (h:AF c0 c1 c2=0):F7 (c0,c1,c2) a b=(0,1,false):=if_pos h
theorem ak {c0 c1 c2 a b:Pt} (h:¬AF c0 c1 c2=0):F7 (c0,c1,c2) a b=Bg (c0,c1,c2) a b:=if_neg h
theorem Xu {c:P3} {a b:Pt} (h1:BO c.1<=6) (h2:BO c.2.1<=6) (h3:BO c.2.2<=6) (ha:BO a<=6) (hb:BO b<=6):Sz (F7 c a b).1<=400/\Sz (F7 c a b).2.1<=400:=by
  unfold F7
  split
  · constructor<;>decide +kernel
  · exact JY ‹_› h1 h2 h3 ha hb
theorem N3 {c:P3} {a b:Pt} (h:(F7 c a b).2.2=true):F7 c a b=Bg c a b/\AF c.1 c.2.1 c.2.2≠0:=by
  unfold F7 at *
  split at h
  · cases h
  · rw [if_neg ‹_›];exact ⟨rfl,‹_›⟩
theorem Mw {A B C p:Pt} (h:AF A B C=0):CG A B C p=0:=if_pos h
section
variable {ps:List Pt} {ts:List (Tq3)} {a b:Pt} {t:Nat} {sv:Rat×Rat×Bool} {T:Tq3}
theorem J2 (h:AF (BU ps T.1) (BU ps T.2.1) (BU ps T.2.2)=0):G_ ps a b t T=[]:=by
  unfold G_
  split
  · rw [if_neg]
    intro k
    have e:BZ ps (Gc a b (Bg (B_ ps T) a b).1 (Bg (B_ ps T) a b).2.1) T=0:=Mw h
    rw [e] at k;cases k
  · rfl
theorem Us (h:sv=F7 (B_ ps (ts.getD t (0,0,0))) a b) (h1:sv.2.2=false):Bc ps ts a b (t+1)=Bc ps ts a b t:=by
  by_cases h0:AF (B_ ps (ts.getD t (0,0,0))).1 (B_ ps (ts.getD t (0,0,0))).2.1 (B_ ps (ts.getD t (0,0,0))).2.2=0
  · rw [Bc,J2 h0,List.append_nil]
  · exact MR (h.trans (if_neg h0)) h1
theorem Ur (h:sv=F7 (B_ ps (ts.getD t (0,0,0))) a b) (h1:sv.2.2=true) (h2:¬BZ ps (Gc a b sv.1 sv.2.1) (ts.getD t (0,0,0))=1):Bc ps ts a b (t+1)=Bc ps ts a b t :=
  MP (h.trans (N3 (h▸h1)).1) h1 h2
theorem XW (h:sv=F7 (B_ ps (ts.getD t (0,0,0))) a b) (h1:sv.2.2=true) (h2:BZ ps (Gc a b sv.1 sv.2.1) (ts.getD t (0,0,0))=1):Bc ps ts a b (t+1)=Bc ps ts a b t++[⟨t,sv.1,sv.2.1⟩] :=
  Ox (h.trans (N3 (h▸h1)).1) h1 h2
theorem MS (hz:∀i,BO (BU ps i)<=4) (sa:BO a<=6) (sb:BO b<=6):∀n,n<=ts.length->∀x∈Bc ps ts a b n,bK x
  | 0,_,x,h=>by cases h
  | n+1,hn,x,h=>by
    rcases List.mem_append.1 h with h|h
    · exact MS hz sa sb n Z x h
    · by_cases h0:AF (BU ps (ts.getD n (0,0,0)).1) (BU ps (ts.getD n (0,0,0)).2.1) (BU ps (ts.getD n (0,0,0)).2.2)=0
      · rw [J2 h0] at h;cases h
      · unfold G_ at h
        split at h
        · split at h
          · rw [xM.1 h]
            exact JY (c:=B_ ps (ts.getD n (0,0,0))) h0 (xK (hz _) jY) (xK (hz _) jY) (xK (hz _) jY) sa sb
          · cases h
        · cases h
end
section
variable {f g:Pt->Pt->Bool} {ps:List Pt} {ts:List (Tq3)} {a b:Pt} {t:Nat} {T:Tq3}
theorem XN (h:AF (BU ps T.1) (BU ps T.2.1) (BU ps T.2.2)=0):(JM f g ps a b T).2.2=false:=by
  unfold JM
  cases hn:Im f g (BU ps T.1) (BU ps T.2.1) (BU ps T.2.2) a b with
  | nil=>rw [K7 hn]
  | cons x r=>rw [Ht hn,Mw h];rfl
theorem Um (hab:a≠b):G_ ps a b t T=if (JM f g ps a b T).2.2=true/\(JM f g ps a b T).1≠(JM f g ps a b T).2.1 then [⟨t,(JM f g ps a b T).1,(JM f g ps a b T).2.1⟩] else []:=by
  by_cases h:AF (BU ps T.1) (BU ps T.2.1) (BU ps T.2.2)=0
  · rw [J2 h,if_neg]
    rintro ⟨k,_⟩
    rw [XN h] at k;cases k
  · exact XH h hab
theorem J7 (hab:a≠b):∀n,(F6 f g ps ts a b n).Perm (Bc ps ts a b n)/\(F6 f g ps ts a b n).Pairwise NR
  | 0=>⟨List.Perm.refl _,List.Pairwise.nil⟩
  | n+1=>by
    obtain ⟨h1,h2⟩:=J7 hab n
    have e:=Um (f:=f) (g:=g) (ps:=ps) (t:=n) (T:=ts.getD n (0,0,0)) hab
    unfold F6
    rw [Bc,e]
    split
    · refine ⟨(UM _ _).trans (List.Perm.append_right _ h1),QB h2 λq hq=>?_⟩
      exact (J6 n).1 q (h1.mem_iff.1 hq)
    · rw [List.append_nil];exact ⟨h1,h2⟩
theorem XX (hab:a≠b) (n:Nat):F6 f g ps ts a b n=XY ps ts a b n :=
  N5 (J7 hab n).1 (J7 hab n).2 (J6 n).2
end
end
section
def gA (m:MQ):List P2:=(VU m (BT m).length).1
def a8 (m:MQ):List T3:=(VU m (BT m).length).2
def gB (m:MQ):List Pt:=Rw m (Dr m (gA m)) (gA m).length
theorem Zc {m:MQ} {ps:List Pt} {ts:List T3} (h:bg m ps ts):ts=a8 m/\ps=gB m:=by
  obtain ⟨pl,hi,_,hp⟩:=h
  have h1:pl=gA m:=congrArg Prod.fst hi.fn
  have h2:ts=a8 m:=congrArg Prod.snd hi.fn
  subst h1
  exact ⟨h2,hp⟩
theorem be {m:MQ} (x:WM m):x.pl=gA m/\x.ts=a8 m:=⟨congrArg Prod.fst x.inv.fn,congrArg Prod.snd x.inv.fn⟩
structure Yd (ps:List Pt) (ts ss:List T3) where
  rs:List RP
  e:rs.map (·.p)=ps
  a:RX (rowsL EE rs) rs.length
  b:RX (rowsL BC ts) ts.length
  c:RX (rowsL BC ss) ss.length
def Yd.rm {ps:List Pt} {ts ss:List T3} (x:Yd ps ts ss):RM x.rs.length ts ss:=⟨rowsL EE x.rs,rowsL BC ss,x.a,x.b,x.c⟩
def dK {ps:List Pt} {ts ss:List T3} (x:Yd ps ts ss):List Value:=fF x.rm
theorem Xa {ps:List Pt} {ts ss:List T3} {x:Yd ps ts ss} {y:As} (hy:y∈[x.a.row,x.b.row,x.c.row]++DJ x.rs):y.ro=true:=by
  rcases List.mem_append.1 hy with hy|hy
  · simp only [xL,List.not_mem_nil,or_false] at hy
    rcases hy with rfl|rfl|rfl<;>rfl
  · exact Oy hy
instance {ps:List Pt} {ts ss:List T3}:Cl (Yd ps ts ss):=⟨λx=>aG (dK x),λx=>[x.a.row,x.b.row,x.c.row]++DJ x.rs,λx y hy=>Xa hy⟩
section
variable {S:Nat->Prop} {w W:World} {w0:Ay} {L A:List As} {ps:List Pt} {ts ss:List T3} {rs:List RP}
theorem eO {x:Yd ps ts ss} (hw:A_ w0 w L) (i:Nat) (hi:(L.drop i).take 3=[x.a.row,x.b.row,x.c.row]) (hs:∀y∈DJ x.rs,y∈L) (ha:At w0 S x):Ro (SL w0 S L) w x:=λy hy=>by
  have hy':y∈[x.a.row,x.b.row,x.c.row]++DJ x.rs:=hy
  have hm:y∈L:=by
    rcases List.mem_append.1 hy' with hy|hy
    · exact List.mem_of_mem_drop (List.mem_of_mem_take (hi▸hy))
    · exact hs y hy
  exact ⟨λb e=>(hw.2.1 y hm b e).2,λb e=>⟨⟨y,hm,Xa hy',e⟩,ha y hy b e⟩⟩
end
structure f7 (m:MQ) where
  ss:List T3
  o:Yd (gB m) (a8 m) ss
instance {m:MQ}:Cl (f7 m):=⟨λx=>Cl.val x.o,λx=>Cl.rows x.o,λx y hy=>Cl.ro x.o y hy⟩
theorem dI {S:Nat->Prop} {m:MQ} {w W:World} {A:List As} {rs:List RP} {ts ss:List T3} (hw:A_ ⟨W,none⟩ w (A++DJ rs)) (i j k:Nat) {p1 p2 p3:Option Addr} {T1 T3' n1 n2 n3 c1 c2 c3:Nat} (h1:A[i]?=some (rowW p1 T1 6 n1 c1 (rowsL EE rs))) (h2:A[j]?=some (AI p2 (rowsL BC ts))) (h3:A[k]?=some (rowW p3 T3' 3 n3 c3 (rowsL BC ss)))
    (o1:OwnOk p1 n1 c1) (o2:BG p2 n2 c2) (b2:∀b,p2.map (·.block)=some b->Nw ⟨W,none⟩ S b) (o3:OwnOk p3 n3 c3) (e1:n1=rs.length) (e2:n2=ts.length) (e3:n3=ss.length) (he:rs.map (·.p)=gB m) (ht:ts=a8 m) (hat:∀y∈DJ rs,∀b,y.foot=some b->Nw ⟨W,none⟩ S b)
    {v:Value} (hv:v=aG [.slice p1 n1 c1,.slice p2 n2 c2,.slice p3 n3 c3]):Aj (f7 m) S W (.returned v) w:=by
  subst e1;subst e2;subst e3;subst ht
  have up:∀{i:Nat} {x:As},A[i]?=some x->(A++DJ rs)[i]?=some x:=λ{i x} h=>by rw [List.getElem?_append_left (List.getElem?_eq_some_iff.1 h).1];exact h
  refine ⟨⟨ss,⟨rs,he,⟨p1,c1,o1.row⟩,⟨p2,c2,o2⟩,⟨p3,c3,o3.row⟩⟩⟩,by rw [hv];rfl,hw.out,λy hy=>?_⟩
  have hy:y∈[AI p1 (rowsL EE rs),AI p2 (rowsL BC (a8 m)),AI p3 (rowsL BC ss)]++DJ rs:=hy
  rcases List.mem_append.1 hy with hy|hy
  · simp only [xL,List.not_mem_nil,or_false] at hy
    rcases hy with rfl|rfl|rfl
    · exact Fp hw i (up h1) o1 (AT Bq _)
    · exact ⟨hw.holds (up h2),λb e=>b2 b e⟩
    · exact Fp hw k (up h3) o3 (AT Bv _)
  · exact ⟨λb e=>(hw.2.1 _ (xG _ hy) b e).2,hat y hy⟩
end
section
set_option maxRecDepth 100000
theorem WU (s:ByteArray) (r:Bool) (h1:1<=s.size) (hs:s.size<=4611686018427387904) (hr:((s.extract 0 1).toList == (ByteArray.mk #[48]).toList)=r) (w:World)  :Calls prog 184 #[(Value.string s),(Value.string (ByteArray.mk #[48]))] w (Ac w (qa r)):=by
 refine AV (args:=[(Value.string s),(Value.string (ByteArray.mk #[48]))]) func184 O O (leB O) (zI (sL [0,1] O) (q4 (asg' O (oNl' (q2 (AK O (st' (v:=(vN ((s).size))) (DG O underlying9) O (AK O (st' (v:=(vI 1)) ((show Ex _ _ _ _ _ _ (Value.int .i64 ((ByteArray.mk #[48]).size:Nat)) from DG O underlying9)) O (st' (Cy (c:=true) O O (UP.trans (xE h1))) O (AK O ?_)))))))))))
 exact FR O (FR O (BV (v:=(vI 1)) O ((show Ex _ _ _ _ _ _ (Value.int .i64 ((ByteArray.mk #[48]).size:Nat)) from DG O underlying9)) (BV (v:=(Value.string (s.extract 0 1))) O (F3 (j:=1) O O underlying9 h1 O) (FR O (BV (v:=(qa r)) O (Bh (c:=r) O O hr) (st' (v:=(qa r)) (ex_pick_true O O) O (asg' O (oNl' (zB (sL [4] O) (zA (zF (ret_one O (rd_tmp (v:=(qa r)) O) (λw hw=>⟨rfl,hw.out⟩)))))))))))))
theorem hpre_ok (s:ByteArray) (r:Bool) (h1:1<=s.size) (hs:s.size<=4611686018427387904) (hr:((s.extract 0 1).toList == (ByteArray.mk #[48]).toList)=r) (w:World)  :Calls prog 140 #[(Value.string s),(Value.string (ByteArray.mk #[48]))] w (Ac w (qa r)):=by
 refine AV (args:=[(Value.string s),(Value.string (ByteArray.mk #[48]))]) func140 O O (leB O) (zI (sL [0,1] O) (q4 (asg' O (oNl' (q2 (AK O (AK O (ck' call184 (WU s r h1 hs hr) O (asg' O (oNl' (zB (sL [4] O) ?_)))))))))))
 exact zA (zF (ret_one O (rd_tmp (v:=(qa r)) O) (λw hw=>⟨rfl,hw.out⟩)))
theorem Zr (x y:Nat) (hx:x<18446744073709551616) (hy:y<18446744073709551616) (w:World)  :Calls prog 139 #[(vK .u64 x),(vK .u64 y)] w (Ac w (Value.tuple #[(vK .u64 (x*y/18446744073709551616)),(vK .u64 (x*y%18446744073709551616))])):=by
 refine AV (args:=[(vK .u64 x),(vK .u64 y)]) func139 O O (leB O) (zI (sL [0,1] O) (q4 (asg' O (asg' O (oNl' (q1 (zU O (zG (q2 (AK O (AK O ?_)))))))))))
 refine ck' call123 (QF x y Z Z) O (AK O (st' (AJ (v:=(vK .u64 (x*y/18446744073709551616))) O O) O (st' (AJ (v:=(vK .u64 (x*y%18446744073709551616))) O O) O (asg' O (asg' O (q3 (sL [0,1,4,5,8,9] O) (AK O (AK O (asg' O (asg' O (oNl' ?_)))))))))))
 exact zB (sL [0,1,4,5] O) (zA (zF (Bl O (rd_tmp (v:=(vK .u64 (x*y/18446744073709551616))) O) (rd_tmp (v:=(vK .u64 (x*y%18446744073709551616))) O) (λw hw=>⟨rfl,hw.out⟩))))
theorem YQ {s:ByteArray} (h:((List.range 9).all λn=>(s.extract 0 n).data.toList == List.replicate n 48)=true) {n:Nat} (hn:n<=8):s.extract 0 n=txB (List.replicate n 48):=by
 have h1:=List.all_eq_true.1 h n (List.mem_range.2 Z)
 have h2:(s.extract 0 n).data.toList=List.replicate n 48:=by simpa using h1
 apply ByteArray.ext
 apply Array.toList_inj.1
 rw [h2];simp [txB]
theorem aQ (c:Nat) (h1:2<=c) (h2:c<=8) (w:World)  :Calls prog 89 #[(Value.string (ByteArray.mk #[48])),(vN c)] w (Ac w (Value.string (txB (List.replicate c 48)))):=by
 refine AV (args:=[(Value.string (ByteArray.mk #[48])),(vN c)]) func89 O O (leB O) (zI (sL [0,1] O) (q4 (asg' O (oNl' (q1 (q4 (AK O (oNl' (zA (zM (q4 ?_)))))))))))
 refine st' (Au (c:=(decide (c=0))) O O (K0 (a:=c) (b:=0))) O (asg' O (oNl' (zB (sL [0,1,4,11,12] O) (zA ?_))))
 refine zK O (λhc0=>?_) (λhc0=>?_)
 ·replace hc0:=xR hc0
  exfalso;omega
 ·replace hc0:=xQ hc0
  refine q4 (st' (Au (c:=(decide (c=1))) O O (K0 (a:=c) (b:=1))) O (asg' O (oNl' (zB (sL [0,1,4,11,14] O) (zA ?_)))))
  refine zK O (λhc1=>?_) (λhc1=>?_)
  ·replace hc1:=xR hc1
   exfalso;omega
  ·replace hc1:=xQ hc1
   refine zG (zJ (q1 (q4 (AK O (st' (Aa (c:=(decide (c<0))) O O (DE (a:=c) (b:=0))) O (oNl' (zB (sL [0,1,4,11,18] O) (zA ?_))))))))
   refine zK O (λhc2=>?_) (λhc2=>?_)
   ·replace hc2:=xR hc2
    exfalso;omega
   ·replace hc2:=xQ hc2
    refine zG (q2 (AK O (st' (v:=(vI 1)) ((show Ex _ _ _ _ _ _ (Value.int .i64 ((ByteArray.mk #[48]).size:Nat)) from DG O underlying9)) O (st' (Al (c:=(1:Int)) O underlying3 underlying164 jY) O (AK O (st' (Al (c:=((c:Nat):Int)) O underlying3 underlying164 (BW Z)) O (ck' call139 (Zr 1 c Z Z) O (AK O (st' (AJ (v:=(vK .u64 (1*c/18446744073709551616))) O O) O (st' (AJ (v:=(vK .u64 (1*c%18446744073709551616))) O O) O (asg' O ?_)))))))))))
    refine asg' O (q6 (sL [0,1,4,11,5,6] O) (q4 (AK O (st' (CC (c:=false) O O (DE.trans (xD Z))) O (AK O (FR O (BV (v:=(qa false)) O (CC (c:=false) O O ((DE (a:=9223372036854775807) (b:=1*c%18446744073709551616)).trans (xD Z))) (st' (v:=(qa false)) (AN O O) O (oNl' (zB (sL [0,1,4,11,6,34] O) (zA ?_)))))))))))
    refine zU O (zG (q2 (AK O (st' (Al (c:=((c:Nat):Int)) O underlying164 underlying3 (by rw [A6 Z Z];omega)) O (asg' O (q6 (sL [0,1,4,11,6,7] O) (q4 (AK O (st' (v:=(vI 1)) ((show Ex _ _ _ _ _ _ (Value.int .i64 ((ByteArray.mk #[48]).size:Nat)) from DG O underlying9)) O (st' (Au (c:=false) O O jY) O (oNl' ?_)))))))))))
    refine zB (sL [0,1,4,11,6,7,40] O) (zA (zU O (zG (q1 (q4 (AK O (st' (v:=(Value.int .u8 (48:Int))) (HQ (j:=0) (b:=48) O O underlying9 O O) O (oNl' (zB (sL [0,1,4,11,6,7,42] O) (zA (zM ?_)))))))))))
    refine zS (q4 (st' (Au (c:=false) O O jY) O (asg' O (oNl' (zB (sL [0,1,4,11,6,7,42,43] O) (zA (zU O (q4 (st' (Au (c:=false) O O jY) O (asg' O (oNl' ?_)))))))))))
    refine zB (sL [0,1,4,11,6,7,42,43] O) (zA (zU O (q4 (st' (Au (c:=true) O O jY) O (asg' O (oNl' (zB (sL [0,1,4,11,6,7,42,43] O) (zA (zY O (zG (zA ?_)))))))))))
    refine zY O (zM (q4 (AK O (st' (FB (c:=true) O O ((UP (a:=c) (b:=128)).trans (xE Z))) O (AK O (FR O (zd (v:=(qa false)) (AE O) (Ag (args:=[(Value.string (ByteArray.mk (List.toArray (List.append [32,32,32,32,32,32,32,32,32,32,32,32,32,32,32,32,32,32,32,32,32,32,32,32,32,32,32,32,32,32,32,32,32,32,32,32,32,32,32,32,32,32,32,32,32,32,32,32,32,32,32,32,32,32,32,32,32,32,32,32,32,32,32,32] [32,32,32,32,32,32,32,32,32,32,32,32,32,32,32,32,32,32,32,32,32,32,32,32,32,32,32,32,32,32,32,32,32,32,32,32,32,32,32,32,32,32,32,32,32,32,32,32,32,32,32,32,32,32,32,32,32,32,32,32,32,32,32,32])))),(Value.string (ByteArray.mk #[48]))]) O O call140) (λw hw=>hpre_ok (ByteArray.mk (List.toArray (List.append [32,32,32,32,32,32,32,32,32,32,32,32,32,32,32,32,32,32,32,32,32,32,32,32,32,32,32,32,32,32,32,32,32,32,32,32,32,32,32,32,32,32,32,32,32,32,32,32,32,32,32,32,32,32,32,32,32,32,32,32,32,32,32,32] [32,32,32,32,32,32,32,32,32,32,32,32,32,32,32,32,32,32,32,32,32,32,32,32,32,32,32,32,32,32,32,32,32,32,32,32,32,32,32,32,32,32,32,32,32,32,32,32,32,32,32,32,32,32,32,32,32,32,32,32,32,32,32,32]))) false jY jY jV w) O (leB O) (st' (v:=(qa false)) (ex_pick_true O O) O (asg' O (oNl' (zB (sL [0,1,4,11,6,7,42,43,49] O) ?_)))))))))))
    refine zA (zU O (q4 (AK O (st' (FB (c:=true) O O ((UP (a:=c) (b:=128)).trans (xE Z))) O (AK O (FR O (zd (v:=(qa false)) (AE O) (Ag (args:=[(Value.string (ByteArray.mk (List.toArray (List.append [45,45,45,45,45,45,45,45,45,45,45,45,45,45,45,45,45,45,45,45,45,45,45,45,45,45,45,45,45,45,45,45,45,45,45,45,45,45,45,45,45,45,45,45,45,45,45,45,45,45,45,45,45,45,45,45,45,45,45,45,45,45,45,45] [45,45,45,45,45,45,45,45,45,45,45,45,45,45,45,45,45,45,45,45,45,45,45,45,45,45,45,45,45,45,45,45,45,45,45,45,45,45,45,45,45,45,45,45,45,45,45,45,45,45,45,45,45,45,45,45,45,45,45,45,45,45,45,45])))),(Value.string (ByteArray.mk #[48]))]) O O call140) (λw hw=>hpre_ok (ByteArray.mk (List.toArray (List.append [45,45,45,45,45,45,45,45,45,45,45,45,45,45,45,45,45,45,45,45,45,45,45,45,45,45,45,45,45,45,45,45,45,45,45,45,45,45,45,45,45,45,45,45,45,45,45,45,45,45,45,45,45,45,45,45,45,45,45,45,45,45,45,45] [45,45,45,45,45,45,45,45,45,45,45,45,45,45,45,45,45,45,45,45,45,45,45,45,45,45,45,45,45,45,45,45,45,45,45,45,45,45,45,45,45,45,45,45,45,45,45,45,45,45,45,45,45,45,45,45,45,45,45,45,45,45,45,45]))) false jY jY jV w) O (leB O) (st' (v:=(qa false)) (ex_pick_true O O) O (asg' O (oNl' (zB (sL [0,1,4,11,6,7,42,43,58] O) ?_)))))))))))
    refine zA (zU O (q4 (AK O (st' (FB (c:=true) O O ((UP (a:=c) (b:=64)).trans (xE Z))) O (AK O (FR O (zd (v:=(qa true)) (AE O) (Ag (args:=[(Value.string (ByteArray.mk #[48,48,48,48,48,48,48,48,48,48,48,48,48,48,48,48,48,48,48,48,48,48,48,48,48,48,48,48,48,48,48,48,48,48,48,48,48,48,48,48,48,48,48,48,48,48,48,48,48,48,48,48,48,48,48,48,48,48,48,48,48,48,48,48])),(Value.string (ByteArray.mk #[48]))]) O O call140) (λw hw=>hpre_ok (ByteArray.mk #[48,48,48,48,48,48,48,48,48,48,48,48,48,48,48,48,48,48,48,48,48,48,48,48,48,48,48,48,48,48,48,48,48,48,48,48,48,48,48,48,48,48,48,48,48,48,48,48,48,48,48,48,48,48,48,48,48,48,48,48,48,48,48,48]) true jY jY jV w) O (leB O) (st' (v:=(qa true)) (ex_pick_true O O) O (asg' O (oNl' (zB (sL [0,1,4,11,6,7,42,43,67] O) ?_)))))))))))
    refine zA (zY O (q4 (AK O (st' (v:=(Value.string (txB (List.replicate c 48)))) (F3 (j:=c) O O underlying9 (xK h2 jY) (YQ jV h2)) O (asg' O (oNl' (zB (sL [0,1,4,11,6,7,42,43] O) (zA (zF (zV (zV ?_)))))))))))
    exact zL (ret_one O (rd_tmp (v:=(Value.string (txB (List.replicate c 48)))) O) (λw hw=>⟨rfl,hw.out⟩))
theorem aT  (w:World)  :Calls prog 89 #[(Value.string (ByteArray.mk #[48])),(vI 0)] w (Ac w (Value.string (ByteArray.mk #[]))):=by
 refine AV (args:=[(Value.string (ByteArray.mk #[48])),(vI 0)]) func89 O O (leB O) (zI (sL [0,1] O) (q4 (asg' O (oNl' (q1 (q4 (AK O (oNl' (zA (zM (q4 ?_)))))))))))
 refine st' (Au (c:=true) O O jY) O (asg' O (oNl' (zB (sL [0,1,4,11,12] O) (zA (zY O (q4 (asg' O (oNl' (zB (sL [0,1,4,11] O) (zA (zF ?_)))))))))))
 exact zV (zL (ret_one O (rd_tmp (v:=(Value.string (ByteArray.mk #[]))) O) (λw hw=>⟨rfl,hw.out⟩)))
theorem aS  (w:World)  :Calls prog 89 #[(Value.string (ByteArray.mk #[48])),(vI 1)] w (Ac w (Value.string (ByteArray.mk #[48]))):=by
 refine AV (args:=[(Value.string (ByteArray.mk #[48])),(vI 1)]) func89 O O (leB O) (zI (sL [0,1] O) (q4 (asg' O (oNl' (q1 (q4 (AK O (oNl' (zA (zM (q4 ?_)))))))))))
 refine st' (Au (c:=false) O O jY) O (asg' O (oNl' (zB (sL [0,1,4,11,12] O) (zA (zU O (q4 (st' (Au (c:=true) O O jY) O (asg' O (oNl' (zB (sL [0,1,4,11,14] O) (zA ?_)))))))))))
 exact zY O (q4 (AK O (asg' O (oNl' (zB (sL [0,1,4,11] O) (zA (zF (zV (zL (ret_one O (rd_tmp (v:=(Value.string (ByteArray.mk #[48]))) O) (λw hw=>⟨rfl,hw.out⟩)))))))))))
theorem aR (c:Nat) (hc:c<=8) (w:World):Calls prog 89 #[Value.string (ByteArray.mk #[48]),vN c] w (Ac w (Value.string (txB (List.replicate c 48)))):=by
 rcases Nat.lt_or_ge c 2 with h|h
 ·rcases Nat.lt_or_ge c 1 with h1|h1
  ·obtain rfl:c=0:=by omega
   exact aT w
  ·obtain rfl:c=1:=by omega
   exact aS w
 ·exact aQ c h hc w
end
end Go.Proofs.YtcpkbjjmcleplaaGreatDoor
