import Derived.Test.YtpolhpjiahbidaaGreatDoorTie
import Derived.Test.YtpolhpjiahbidaaGreatDoorCards
import Derived.ProofKit
import Derived.Carry
import Derived.Stop.Joined
import Derived.SevenTiedAt
import Derived.Test.YtpolhpjiahbidaaGreatDoorPart27
namespace Go.Proofs.YtpolhpjiahbidaaGreatDoor
open Go Go.RowKit Go.Proofs.Tryz
open Go.Value renaming slice→qz,bool→qa
set_option linter.unusedVariables false
set_option linter.unusedSimpArgs false
section
def OV (a b c d:Pt):Rat:=CK (a-d) (a-d)*BI (b-d) (c-d)+CK (b-d) (b-d)*BI (c-d) (a-d)+CK (c-d) (c-d)*BI (a-d) (b-d)
theorem HI (a b c d:Pt):Gt a b c d=(OV a b c d*AN a b c).num.sign:=by rw [F7];rfl
def Bp (q p:Pt):Pt:=q+(⟨-p.y,p.x⟩:Pt)
def CL (p:Pt):Pt:=Dk (⟨p.y,p.x⟩:Pt) ((3:Int):Rat)
theorem XL (q a b c d:Pt):OV (Bp q a) (Bp q b) (Bp q c) (Bp q d)=OV a b c d:=by
  simp only [OV,Bp,CK,BI,Qi,Qj,O5,O6];grind
theorem Lp (q a b c:Pt):AN (Bp q a) (Bp q b) (Bp q c)=AN a b c:=by
  simp only [AN,Bp,BI,Qi,Qj,O5,O6];grind
theorem XK (a b c d:Pt):OV (CL a) (CL b) (CL d) (CL c)=81*OV a b c d:=by
  simp only [OV,CL,Dk,CK,BI,O5,O6,show ((3:Int):Rat)=3 from rfl];grind
theorem WO (a b d:Pt):AN (CL a) (CL b) (CL d)=9*AN b a d:=by
  simp only [AN,CL,Dk,BI,O5,O6,show ((3:Int):Rat)=3 from rfl];grind
theorem ON (q a b c d:Pt):Gt (Bp q a) (Bp q b) (Bp q c) (Bp q d)=Gt a b c d:=by
  rw [HI,HI,XL,Lp]
theorem T0 {a b c d:Pt} (h1:(AN a b c).num.sign=1) (h2:(AN b a d).num.sign=1):Gt (CL a) (CL b) (CL d) (CL c)=Gt a b c d:=by
  rw [HI,HI,XK,WO,F7,F7 (OV a b c d),F7,F7 (9:Rat),h1,h2,EI (q:=81) (by decide +kernel),EI (q:=9) (by decide +kernel)]
  omega
theorem FU {f:Pt->Pt} {ps:List Pt} {i:Nat} (h:i<ps.length):cor (ps.map f) i=f (cor ps i):=by
  unfold cor
  rw [List.getD,List.getElem?_map,List.getD,xP h];rfl
def DI (t:T3):T3:=(t.1,t.2.2,t.2.1)
section
variable {ts:List T3} {N a b:Nat}
theorem KP {j:Nat} (h:j<ts.length):(ts.map DI).getD j (0,0,0)=DI (ts.getD j (0,0,0)):=by
  rw [List.getD,List.getElem?_map,List.getD,xP h];rfl
theorem Nv (h:Be N ts=true):Be N (ts.map DI)=true:=by
  refine SZ λj hj=>?_
  rw [xK] at hj
  rw [KP hj]
  have hk:=Cb h hj
  generalize ts.getD j (0,0,0)=T at hk ⊢
  obtain ⟨p,q,r⟩:=T
  show LT N (p,r,q)=true
  simp [LT] at hk ⊢
  omega
def Ly (u:Nat):Nat:=3*(u/3)+(2-u%3)
theorem Ql (u:Nat):Ly u/3=u/3:=by unfold Ly;omega
theorem Ts (u:Nat):Ly (Ly u)=u:=by unfold Ly;omega
theorem NK {u:Nat} (h:u<3*ts.length):Bw (ts.map DI) (Ly u)=((Bw ts u).2,(Bw ts u).1):=by
  have hj:u/3<ts.length:=by omega
  unfold Bw
  rw [Ql,KP hj]
  generalize ts.getD (u/3) (0,0,0)=T
  have hr:Ly u%3=2-u%3:=by unfold Ly;omega
  rw [hr]
  have h3:u%3<3:=Nat.mod_lt _ jY
  generalize u%3=r at h3
  rcases (by omega:r=0\/r=1\/r=2) with rfl|rfl|rfl<;>rfl
theorem OW {u:Nat} (h:u<3*ts.length):Bw (ts.map DI) u=((Bw ts (Ly u)).2,(Bw ts (Ly u)).1):=by
  have h9:=NK (ts:=ts) (u:=Ly u) (by unfold Ly;omega)
  rw [Ts] at h9
  exact h9
theorem Uh (hi:∀u v,u<3*ts.length->v<3*ts.length->Bw ts u=Bw ts v->u=v) {z:Int} (h:KU ts (3*ts.length) a b z):KU (ts.map DI) (3*(ts.map DI).length) b a z:=by
  rw [xK]
  rcases h with ⟨h1,h2⟩|⟨u,h1,h2,h3,h4⟩
  · refine .inl ⟨h1,λu hu e=>h2 (Ly u) (by unfold Ly;omega) ?_⟩
    rw [OW hu] at e
    injection e with e1 e2
    exact Prod.ext e2 e1
  · refine .inr ⟨Ly u,by unfold Ly;omega,by rw [Ql];exact h2,by rw [NK h1,h3],λv hv e=>?_⟩
    have hvl:v<3*ts.length:=by unfold Ly at hv;omega
    rw [OW hvl] at e
    injection e with e1 e2
    have:=hi (Ly v) u (by unfold Ly;omega) h1 (by rw [h3];exact Prod.ext e2 e1)
    rw [<-this,Ts] at hv
    omega
def Ya (e:E4):E4:=⟨e.a,e.b,e.r,e.l⟩
theorem Yb (hn:Be N ts=true) (hN:N<=4611686018427387904) (hi:∀u v,u<3*ts.length->v<3*ts.length->Bw ts u=Bw ts v->u=v) {e:E4} (he:e∈BR ts):Ya e∈BR (ts.map DI):=by
  have h:=(IZ hn hN).1 he
  refine (IZ (Nv hn) hN).2 ⟨rfl,rfl,h.lt,Uh hi h.r,Uh hi h.l,?_⟩
  obtain ⟨u,hu,hs⟩:=h.some
  refine ⟨Ly u,by rw [xK];unfold Ly;omega,?_⟩
  rw [NK hu]
  rcases hs with hs|hs<;>rw [hs]
  · exact .inr O
  · exact .inl O
theorem UM (hn:Be N ts=true) (hN:N<=4611686018427387904) {e:E4} (he:e∈BR ts):0<=Gp ts (e.a:Int) (e.b:Int)/\Dl ts (e.a:Int) (e.b:Int)=e:=by
  have hlt:=(HL hn hN he).1
  have hmn:min (e.a:Int) (e.b:Int)=e.a:=by omega
  have hmx:max (e.a:Int) (e.b:Int)=e.b:=by omega
  rcases K8 (x:=min (e.a:Int) (e.b:Int)) (y:=max (e.a:Int) (e.b:Int)) (BR ts) 0 with ⟨_,h⟩|⟨j,h1,h2,h3,h4⟩
  · exact absurd ⟨hmn.symm,hmx.symm⟩ (h e he)
  · have h5:Gp ts (e.a:Int) (e.b:Int)=(j:Int):=by unfold Gp;rw [h2,Nat.zero_add]
    refine ⟨Z,?_⟩
    rw [(Ko h5).1]
    rw [hmn] at h3
    rw [hmx] at h4
    obtain ⟨k,hk,rfl⟩:=List.getElem_of_mem he
    have hp:=List.pairwise_iff_getElem.1 (Kp hn hN)
    rw [List.getD,xP h1] at h3 h4 ⊢
    simp only [Option.getD_some] at h3 h4 ⊢
    rcases Nat.lt_trichotomy j k with h|h|h
    · have:=hp j k h1 hk h;unfold bu at this;omega
    · subst h;rfl
    · have:=hp k j hk h1 h;unfold bu at this;omega
end
theorem S1 {ps:List Pt} {ts:List T3} (hn:Be ps.length ts=true) (hN:ps.length<=1000000) (hp:∀j,j<ts.length->(AN (cor ps (ts.getD j (0,0,0)).1) (cor ps (ts.getD j (0,0,0)).2.1) (cor ps (ts.getD j (0,0,0)).2.2)).num.sign=1)
    (hi:∀u v,u<3*ts.length->v<3*ts.length->Bw ts u=Bw ts v->u=v) (q:Pt) {e:E4} (he:e∈BR ts) :
    Mn (ps.map (Bp q)) ts (e.a:Int) (e.b:Int)=Mn ps ts (e.a:Int) (e.b:Int)/\Mn ((ps.map (Bp q)).map CL) (ts.map DI) (e.a:Int) (e.b:Int)=Mn ps ts (e.a:Int) (e.b:Int)/\Wl ts (e.a:Int) (e.b:Int)=0/\Wl (ts.map DI) (e.a:Int) (e.b:Int)=0:=by
  have hN4:ps.length<=4611686018427387904:=by omega
  have hn2:=Nv hn
  have hm2:=Yb hn hN4 hi he
  obtain ⟨g1,g2⟩:=UM hn hN4 he
  obtain ⟨k1,k2⟩:=UM hn2 hN4 hm2
  have g3:=λ(qs:List Pt)=>Nj (ps:=qs) g1
  have k3:=λ(qs:List Pt)=>Nj (ps:=qs) (ts:=ts.map DI) (x:=(e.a:Int)) (y:=(e.b:Int)) k1
  rw [(g3 _).1,(g3 ps).1,(k3 _).1,(g3 ps).2,(k3 ps).2,g2,show Dl (ts.map DI) (e.a:Int) (e.b:Int)=Ya e from k2]
  refine ⟨?_,?_,rfl,rfl⟩<;>by_cases h:0<=e.l/\0<=e.r
  · obtain ⟨r,s,c,d,h2⟩:=IA hn hN4 he h.1 h.2
    have h3:Rn (ps.map (Bp q)).length ts e r s c d:=by rw [xK];exact h2
    rw [G1 h3,G1 h2,FU h2.sc.a,FU h2.sc.b,FU h2.sc.c,FU h2.sd.c,ON]
  · rw [IX h,IX h]
  · obtain ⟨r,s,c,d,h2⟩:=IA hn hN4 he h.1 h.2
    obtain ⟨r',s',c',d',h4⟩:=IA hn2 hN4 hm2 h.2 h.1
    have hr:r'=s:=by have:=h4.l;have:=h2.r;have e9:(Ya e).l=e.r:=rfl;omega
    have hs:s'=r:=by have:=h4.r;have:=h2.l;have e9:(Ya e).r=e.l:=rfl;omega
    subst hr hs
    have hc:c'=d:=by
      have w1:=h4.sc;have w2:=h2.sd
      rw [KP h2.ql] at w1
      have u1:=w1.far.1;have u2:=w2.far.2.1
      rw [<-u1,<-u2]
      unfold IR DI
      show _=_
      have e8:(Ya e).a=e.a:=rfl
      have e9:(Ya e).b=e.b:=rfl
      rw [e8,e9];simp only;omega
    have hd:d'=c:=by
      have w1:=h4.sd;have w2:=h2.sc
      rw [KP h2.pl] at w1
      have u1:=w1.far.2.1;have u2:=w2.far.1
      rw [<-u1,<-u2]
      unfold IR DI
      have e8:(Ya e).a=e.a:=rfl
      have e9:(Ya e).b=e.b:=rfl
      rw [e8,e9];simp only;omega
    subst hc hd
    have h5:Rn ((ps.map (Bp q)).map CL).length (ts.map DI) (Ya e) r' s' c' d':=by rw [xK,xK];exact h4
    have pt:∀{t:T3} {x y z:Nat},Yw ps.length t x y z->(AN (cor ps t.1) (cor ps t.2.1) (cor ps t.2.2)).num.sign=1->(AN (cor ps x) (cor ps y) (cor ps z)).num.sign=1:=by
      intro t x y z hs ht
      have cyc:∀u v w:Pt,AN u v w=AN v w u:=λu v w=>by simp only [AN,BI,O5,O6];grind
      rcases hs.w with ⟨e1,e2,e3⟩|⟨e1,e2,e3⟩|⟨e1,e2,e3⟩<;>rw [<-e1,<-e2,<-e3]
      · exact ht
      · rw [<-cyc];exact ht
      · rw [cyc];exact ht
    have t1:=pt h2.sc (hp _ h2.pl)
    have t2:=pt h2.sd (hp _ h2.ql)
    have lm:∀i,i<ps.length->cor ((ps.map (Bp q)).map CL) i=CL (Bp q (cor ps i)):=λi hi=>by rw [FU (by rw [xK];exact hi),FU hi]
    rw [G1 h5,G1 h2]
    show decide (Gt (cor _ e.a) (cor _ e.b) (cor _ c') (cor _ d')≠1)=_
    rw [lm _ h2.sc.a,lm _ h2.sc.b,lm _ h2.sd.c,lm _ h2.sc.c,T0 (by rw [Lp];exact t1) (by rw [Lp];exact t2),ON]
  · rw [IX h,IX (λh9=>h ⟨h9.2,h9.1⟩)]
def BT {α:Type} (f:α->α) (l:List α) (i:Nat):List α:=(l.take i).map f++l.drop i
section
variable {α:Type} {f:α->α} {l:List α} {i:Nat} {d:α}
theorem ED:(BT f l i).length=l.length:=by unfold BT;rw [xL,xK,List.length_take,List.length_drop];omega
theorem LD (h:i=l.length):BT f l i=l.map f:=by unfold BT;rw [h,List.take_length,List.drop_length,List.append_nil]
theorem IY (h:i<l.length):(BT f l i).getD i d=l.getD i d:=by
  unfold BT
  rw [List.getD,List.getElem?_append_right (by rw [xK,List.length_take];omega),xK,List.length_take,show i-min i l.length=0 by omega,List.getElem?_drop,Nat.add_zero];rfl
theorem I9 (h:i<l.length) {x:α} (hx:x=f (l.getD i d)):(BT f l i).set i x=BT f l (i+1):=by
  unfold BT
  have e1:((l.take i).map f).length=i:=by rw [xK,List.length_take];omega
  rw [List.set_append_right _ _ Z,e1,Nat.sub_self,List.drop_eq_getElem_cons h,List.set_cons_zero,Lj (d:=d) h,List.map_append,List.append_assoc,hx]
  rfl
end
theorem Vr {q p:Pt} (hq:Bc q<=4) (hp:Bc p<=1000):Bc (⟨-p.y,p.x⟩:Pt)<=1000/\Bc (Bp q p)<=1005:=by
  have h0:Bc (⟨-p.y,p.x⟩:Pt)<=1000:=by
    have h1:=Dh p
    have h2:=Di p
    have h3:=Cw p.y
    show max (Sz (-p.y)) (Sz p.x)<=1000
    omega
  have h4:=W2 q (⟨-p.y,p.x⟩:Pt)
  exact ⟨h0,by unfold Bp;omega⟩
theorem Vl {p:Pt} (hp:Bc p<=1005):Bc (⟨p.y,p.x⟩:Pt)<=1005/\Bc (CL p)<=2000:=by
  have h0:Bc (⟨p.y,p.x⟩:Pt)<=1005:=by
    have h1:=Dh p
    have h2:=Di p
    show max (Sz p.y) (Sz p.x)<=1005
    omega
  have h4:=Rl (⟨p.y,p.x⟩:Pt) ((3:Int):Rat)
  have h5:Sz ((3:Int):Rat)<=10:=by decide +kernel
  exact ⟨h0,by unfold CL;omega⟩
theorem Qw {ps:List Pt} {i:Nat} (h:¬i<ps.length):cor ps i=(⟨0,0⟩:Pt):=by
  unfold cor;rw [List.getD,List.getElem?_eq_none Z];rfl
theorem Nt {ps:List Pt} {q:Pt} (hq:Bc q<=4) (hp:∀i,Bc (cor ps i)<=1000) (i:Nat):Bc (cor (ps.map (Bp q)) i)<=1005:=by
  by_cases h:i<ps.length
  · rw [FU h];exact (Vr hq (hp i)).2
  · rw [Qw (by rw [xK];exact h)];decide +kernel
theorem YN {ps:List Pt} (hp:∀i,Bc (cor ps i)<=1005) (i:Nat):Bc (cor (ps.map CL) i)<=200000:=by
  by_cases h:i<ps.length
  · rw [FU h];exact xM (Vl (hp i)).2 jY
  · rw [Qw (by rw [xK];exact h)];decide +kernel
theorem UN {ts:List T3} {N:Nat} (hn:Be N ts=true) (hN:N<=4611686018427387904) (h:0<ts.length):0<(BR ts).length:=by
  have h1:=Gv hn (show 0<3*ts.length by omega)
  have hd:=λu hu=>Gv (u:=u) hn hu
  have h2:=(IM (ts:=ts) hd _ (Nat.le_refl _)).2
  rw [IL]
  rcases Nat.eq_zero_or_pos (Cl ts (3*ts.length)).length with e|e
  · have e1:Cl ts (3*ts.length)=[]:=List.length_eq_zero_iff.1 e
    rcases Nat.lt_or_gt_of_ne h1 with k|k
    · have:=(h2 ((Bw ts 0).1,(Bw ts 0).2) (by rw [e1];rfl) k 0 Z).1
      exact absurd O this
    · have:=(h2 ((Bw ts 0).2,(Bw ts 0).1) (by rw [e1];rfl) k 0 Z).2
      exact absurd O this
  · exact e
end
section
section
variable {P:Program} {ops:Array Oper} {Q:Exit->Act->World->Prop} {n:Nat} {w0:BC} {LA LB L L':List As} {F F':List (Nat×Value)} {l:List Oper} {e2:List (Nat×Bool)} {k q:Nat}
theorem Kc {listed:Array Bool} (hcl:HH l.toArray listed):∀(f k i:Nat),Bv l f k i=true->listed.getD k false=true->listed.getD i false=true
  | 0,_,_,h,_=>by cases h
  | f+1,k,i,h,hk=>by
    unfold Bv at h
    cases ho:l[k]? with
    | none=>rw [ho] at h;cases h
    | some o =>
      rw [ho] at h
      simp only [yy,List.any_eq_true,yz] at h
      have st:∀m,B8 o m=true->listed.getD m false=true:=λm hm=>by
        obtain ⟨e,he,hb,rfl⟩:=BE hm
        exact hcl k o hk (by simpa using ho) e he hb
      rcases h with h|⟨m,_,h1,h2⟩
      · exact st i h
      · exact Kc hcl f m i h2 (st m h1)
variable {r:List (Nat×Bool)} {i d:Nat} {v:Value} {o oq:Oper} {K:List (Nat×Value)->List As->Prop}
end
end
section
def Dc (P:Program) (l:List Oper) (k:Nat) (Q:Exit->Act->World->Prop) (n:Nat) (w0:BC) (LA LB:List As) (K:List (Nat×Value)->List As->Prop):List (Nat×Bool)->List (Nat×Value)->List As->Prop
  | [],F,L=>K F L
  | (i,true)::r,F,L=>∃o d v,l.toArray[i]?=some o/\o.dst=some d/\d<n/\bw P l.toArray n w0 (if Bv l 8 k i=true then LA else LB) F o v/\Dc P l k Q n w0 LA LB K r ((d,v)::F) L
  | (_,false)::_,_,_=>False
def NE (l:List Oper) (e1:List (Nat×Bool)) (k:Nat) (e2:List (Nat×Bool)):Bool :=
  D1 l [] none (e1++(k,false)::e2)&&ND l [] (e1++(k,false)::e2)&&Nat.beq (e1.length+e2.length+1) l.length&&Region.noSelect l.toArray&&(l[k]?).isSome
section
variable {P:Program} {ops:Array Oper} {Q:Exit->Act->World->Prop} {n:Nat} {w0:BC} {LA LB L L':List As} {F F':List (Nat×Value)} {l:List Oper} {e2:List (Nat×Bool)} {k:Nat}
theorem S6 (hsel:Region.noSelect l.toArray=true) (hQ:∀c a d v w,Q (.panic c) (a.put d v) w->Q (.panic c) a w) (hAB:LB.Sublist LA) {ok:Oper} (hok:l[k]?=some ok) :
    ∀(es:List (Nat×Bool)) (D:List Nat) (p:Option Nat) (listed:Array Bool) (a:Act) (w:World) (F:List (Nat×Value)) (L:List As),
      k ∉ D->D1 l D p (es++(k,false)::e2)=true->M8 l D listed->(∀i,i<l.length->i∈D\/(es++(k,false)::e2).any (λe=>e.1 == i)=true)->Wk LA L->Ce n a F->BD w0 w L->Dc P l k Q n w0 LA LB (JR P l.toArray Q n w0 LB k e2) es F L ->
      IE P l.toArray Q (λlisted w=>BD w0 w (if listed.getD k false=true then LB else LA)) (es.length+e2.length+1) listed a w:=by
  have only:∀(i:Nat) (r:List (Nat×Bool)) (D:List Nat) (p:Option Nat) (listed:Array Bool),D1 l D p ((i,false)::r)=true->M8 l D listed->(∀j,j<l.length->j∈D\/((i,false)::r).any (λe=>e.1 == j)=true)->∀j,j∈Region.ready .any l.toArray listed->j=i:=λi r D p listed hc hL hall j hj=>by
    obtain ⟨o,hg⟩:=DK hc
    obtain ⟨h0,oj,hoj,_⟩:=mem_ready.1 hj
    have hjl:j<l.length:=by simpa using (Array.getElem?_eq_some_iff.1 hoj).1
    rw [Cj (by rw [hL.size];exact hjl)] at h0
    rcases hall j hjl with h1|h1
    · rw [(hL.mem j).1 h1] at h0;cases h0
    · obtain ⟨e,he,rfl⟩:=IK h1
      rcases xN.1 he with rfl|he
      · rfl
      · exact absurd hj (Eh hL.cl hg.tl (hL.no hg.nin) (λe he=>hL.no λhd=>(D4 hg.tl e he).1 (List.mem_cons_of_mem _ hd)) e he)
  have nxt:∀(i:Nat) (b:Bool) (r:List (Nat×Bool)) (D:List Nat),(∀j,j<l.length->j∈D\/((i,b)::r).any (λe=>e.1 == j)=true)->∀j,j<l.length->j∈i::D\/r.any (λe=>e.1 == j)=true:=λi b r D hall j hj=>by
    rcases hall j hj with h1|h1
    · exact .inl (List.mem_cons_of_mem _ h1)
    · simp only [List.any_cons,yy,beq_iff_eq] at h1
      rcases h1 with h1|h1
      · exact .inl (h1▸List.mem_cons_self)
      · exact .inr h1
  intro es
  induction es with
  | nil =>
    intro D p listed a w F L hkD hc hL hall hro ha hw h
    obtain ⟨o',ho',h⟩:=h
    simp only [List.nil_append,List.length_nil,Nat.zero_add] at hc hall ⊢
    obtain ⟨o,hg⟩:=DK hc
    have hat:l.toArray[k]?=some o:=by simpa using hg.at_
    rw [hat] at ho';injection ho' with ho';subst ho'
    have hkl:k<l.length:=(List.getElem?_eq_some_iff.1 hg.at_).1
    have hp:∀e∈o.after,Region.binds .any e=true->listed.getD e.on false=true:=λe he hb=>(hL.mem _).1 (hg.pre e he hb)
    have hrd:k∈Region.ready .any l.toArray listed:=mem_ready.2 ⟨by rw [Cj (by rw [hL.size];exact hkl)];exact hL.no hg.nin,o,hat,hp⟩
    refine ⟨λh0=>absurd hrd (by rw [h0];exact List.not_mem_nil),λj hj=>?_⟩
    have hjk:=only k e2 D p listed hc hL hall j hj
    subst hjk
    have hlk:(listed.setIfInBounds j true).getD j false=true:=by rw [C6 _ _ _ _ (by rw [hL.size];exact hkl)];simp
    refine KQ hat (h a w ha hw) λF' L' a' w' h1 h2 h3 h4=>⟨by show BD _ _ (ite _ _ _);rw [if_pos hlk];exact h3 _ _ h2,?_⟩
    exact HF (T:=λw=>BD w0 w LB) _ _ _ _ (λl' hl w hw=>by show BD _ _ (ite _ _ _);rw [if_pos (hl j hlk)];exact hw) (JP hsel hQ e2 (j::D) (some j) _ a' w' F' L' hg.tl (hL.add hg.at_ hp) (nxt j false e2 D hall) h3 h1 h2 h4)
  | cons e r ih =>
    intro D p listed a w F L hkD hc hL hall hro ha hw h
    obtain ⟨i,b⟩:=e
    rw [List.cons_append] at hc hall
    obtain ⟨o,hg⟩:=DK hc
    have hat:l.toArray[i]?=some o:=by simpa using hg.at_
    have hil:i<l.length:=(List.getElem?_eq_some_iff.1 hg.at_).1
    have hp:∀e∈o.after,Region.binds .any e=true->listed.getD e.on false=true:=λe he hb=>(hL.mem _).1 (hg.pre e he hb)
    have hrd:i∈Region.ready .any l.toArray listed:=mem_ready.2 ⟨by rw [Cj (by rw [hL.size];exact hil)];exact hL.no hg.nin,o,hat,hp⟩
    have hki:k≠i:=λe=>(D4 hg.tl (k,false) (List.mem_append_right _ List.mem_cons_self)).1 (e▸List.mem_cons_self)
    have hkD':k ∉ i::D:=λh=>(xN.1 h).elim hki hkD
    have hnk:listed.getD k false=false:=hL.no hkD
    have hnk':(listed.setIfInBounds i true).getD k false=false:=(hL.add hg.at_ hp).no hkD'
    rw [show ((i,b)::r).length+e2.length+1=r.length+e2.length+1+1 by simp only [List.length_cons];omega]
    cases b with
    | true =>
      obtain ⟨o',d,v,ho',hd,hdn,hy,hn⟩:=h
      rw [hat] at ho';injection ho' with ho';subst ho'
      by_cases hedge:Bv l 8 k i=true
      · rw [if_pos hedge] at hy
        have hyield:YieldsIf P l.toArray (λw=>BD w0 w LA) o v a:=by
          rcases hy with ⟨h1,h2⟩|⟨h1,h2⟩
          · exact .inl ⟨h1 a ha,λw hW=>h2 a w ha hW⟩
          · exact .inr ⟨h1 a ha,h2⟩
        refine Ez hat (Region.noSelect_spec hsel) (λc a w=>aQ hQ c a o.dst v w) (T:=λw=>BD w0 w LA) (λl' w hcl hr hS=>?_) (λl' w=>?_) _ listed a w (Fz hL hg.at_ (hg.fr O) hp) hrd hyield ?_ (λj oj hj ho e he hb=>hL.cl j oj hj (by simpa using ho) e he hb) ?_
        · have hkf:¬l'.getD k false=true:=λhk=>by
            have h1:=Kc hcl 8 k i hedge hk
            obtain ⟨h0,_⟩:=mem_ready.1 hr
            rcases Nat.lt_or_ge i l'.size with h5|h5
            · rw [Cj h5] at h0;rw [h0] at h1;cases h1
            · simp [Array.getElem?_eq_none h5] at h1
          have hS:BD w0 w (if l'.getD k false=true then LB else LA):=hS
          rw [if_neg hkf] at hS;exact hS
        · show BD _ _ (ite _ _ _)↔BD _ _ (ite _ _ _);rw [getD_set_ne false (Ne.symm hki)]
        · show BD _ _ (ite _ _ _);rw [if_neg (by rw [hnk];exact Bool.false_ne_true)];exact hro _ _ hw
        · exact ih (i::D) p _ _ w ((d,v)::F) L hkD' hg.tl (hL.add hg.at_ hp) (nxt i true _ D hall) hro (by rw [hd];exact ha.put hdn) hw hn
      · rw [if_neg hedge] at hy
        have hyield:YieldsIf P l.toArray (λw=>BD w0 w LB) o v a:=by
          rcases hy with ⟨h1,h2⟩|⟨h1,h2⟩
          · exact .inl ⟨h1 a ha,λw hW=>h2 a w ha hW⟩
          · exact .inr ⟨h1 a ha,h2⟩
        refine Ez hat (Region.noSelect_spec hsel) (λc a w=>aQ hQ c a o.dst v w) (T:=λw=>BD w0 w LB) (λl' w hcl hr hS=>?_) (λl' w=>?_) _ listed a w (Fz hL hg.at_ (hg.fr O) hp) hrd hyield ?_ (λj oj hj ho e he hb=>hL.cl j oj hj (by simpa using ho) e he hb) ?_
        · have hS:BD w0 w (if l'.getD k false=true then LB else LA):=hS
          by_cases hk:l'.getD k false=true
          · rw [if_pos hk] at hS;exact hS
          · rw [if_neg hk] at hS;exact hS.weak hAB
        · show BD _ _ (ite _ _ _)↔BD _ _ (ite _ _ _);rw [getD_set_ne false (Ne.symm hki)]
        · show BD _ _ (ite _ _ _);rw [if_neg (by rw [hnk];exact Bool.false_ne_true)];exact hro _ _ hw
        · exact ih (i::D) p _ _ w ((d,v)::F) L hkD' hg.tl (hL.add hg.at_ hp) (nxt i true _ D hall) hro (by rw [hd];exact ha.put hdn) hw hn
    | false=>exact h.elim
theorem cv {id:Nat} (e1:List (Nat×Bool)) (k:Nat) (e2:List (Nat×Bool)) (hA:Wk LA L) (hAB:LB.Sublist LA) (hc:NE l e1 k e2=true) (hQ:∀c a d v w,Q (.panic c) (a.put d v) w->Q (.panic c) a w)
    (h:Dc prog l k Q n w0 LA LB (JR prog l.toArray Q n w0 LB k e2) e1 F L):OkC prog (.region id l.toArray true) Q n F w0 L:=λa w ha hw=>by
  simp only [NE,yz] at hc
  obtain ⟨⟨⟨⟨h1,h2⟩,h3⟩,h4⟩,h5⟩:=hc
  have hlen:=Nat.eq_of_beq_eq_true h3
  cases hok:l[k]? with
  | none=>simp [hok] at h5
  | some ok =>
    refine wp_region_any Dq (IF (S:=λlisted w=>BD w0 w (if listed.getD k false=true then LB else LA)) _ _ _ _ ?_)
    rw [show l.toArray.size=e1.length+e2.length+1 by rw [hlen];simp]
    have hst:=HW (l:=l)
    rw [<-hlen] at hst
    refine S6 h4 hQ hAB hok e1 [] none _ a w.drew F L jX h1 hst (λi hi=>?_) hA ha hw.drew h
    have:=List.all_eq_true.1 h2 i (List.mem_range.2 hi)
    simpa using this
theorem eH {id:Nat} (e1:List (Nat×Bool)) (k:Nat) (e2:List (Nat×Bool)) (hA:LA.Sublist L) (hAB:LB.Sublist LA) (hc:NE l e1 k e2=true) (hQ:∀c a d v w,Q (.panic c) (a.put d v) w->Q (.panic c) a w)
    (h:Dc prog l k Q n w0 LA LB (JR prog l.toArray Q n w0 LB k e2) e1 F L):OkC prog (.region id l.toArray true) Q n F w0 L  :=cv e1 k e2 (Wk.of hA) hAB hc hQ h
theorem Dc.pasA {K:List (Nat×Value)->List As->Prop} {r:List (Nat×Bool)} {i d:Nat} {o:Oper} {v:Value} (ho:l.toArray[i]?=some o) (hb:Bv l 8 k i=true) (hw:Wt l.toArray n F o) (he:Ex P n F w0 LA o v) (hd:o.dst=some d) (hn:Nat.ble (d+1) n=true) (next:Dc P l k Q n w0 LA LB K r ((d,v)::F) L):Dc P l k Q n w0 LA LB K ((i,true)::r) F L:=⟨o,d,v,ho,hd,Nat.le_of_ble_eq_true hn,.inl ⟨hw,by rw [if_pos hb];exact he⟩,next⟩
theorem Dc.pasB {K:List (Nat×Value)->List As->Prop} {r:List (Nat×Bool)} {i d:Nat} {o:Oper} {v:Value} (ho:l.toArray[i]?=some o) (hb:Bv l 8 k i=false) (hw:Wt l.toArray n F o) (he:Ex P n F w0 LB o v) (hd:o.dst=some d) (hn:Nat.ble (d+1) n=true) (next:Dc P l k Q n w0 LA LB K r ((d,v)::F) L):Dc P l k Q n w0 LA LB K ((i,true)::r) F L:=⟨o,d,v,ho,hd,Nat.le_of_ble_eq_true hn,.inl ⟨hw,by rw [if_neg (by rw [hb];exact Bool.false_ne_true)];exact he⟩,next⟩
theorem Dc.cut {o:Oper} (ho:l.toArray[k]?=some o) (h:AR P l.toArray [o] (PE Q n w0 LB λF' L'=>OkE P l.toArray Q n w0 LB e2 F' L') n F w0 L):Dc P l k Q n w0 LA LB (JR P l.toArray Q n w0 LB k e2) [] F L:=⟨o,ho,h⟩
end
end
section
set_option maxRecDepth 100000
theorem TU {ps:List Pt} {ts ss:List T3} (pa tp pc:Option Addr) (ka tk kc n m k:Nat) (okA:Ay pa n ka) (okB:Ay tp m tk) (okC:Ay pc k kc) (hn:ps.length=n) (hm:ts.length=m) (hk:ss.length=k) (u v:Int) {b:Bool} {e:Nat} (h1:Mn ps ts u v=b) (h2:Wl ts u v=e) (hnb:Be n ts=true) (htl:m<=1000000) (hN:n<=1000000) (hz:∀i,Bc (cor ps i)<=200000) (w:World)
  (r1:Ro (λ_=>True) w (⟨pa,ka,okA⟩:RX (rowsL AZ ps) n)) (r2:Ro (λ_=>True) w (⟨tp,tk,okB⟩:RX (rowsL Ac ts) m)) (r3:Ro (λ_=>True) w (⟨pc,kc,okC⟩:RX (rowsL Ac ss) k)):Calls prog 26 #[aG [.slice pa n ka,.slice tp m tk,.slice pc k kc],(vI u),(vI v)] w (Ad w (.tuple #[.bool b,vN e])):=by
 subst hn hm hk
 exact PV (⟨⟨pa,ka,okA⟩,⟨tp,tk,okB⟩,⟨pc,kc,okC⟩⟩:MX ps ts ss) u v h1 h2 hnb htl hN hz w (bJ r1 r2 r3)
theorem Sy {ts:List T3} {t:Nat} (h:t<ts.length):((BT DI ts t).set t (((BT DI ts t).getD t (0,0,0)).1,((BT DI ts t).getD t (0,0,0)).2.2,((BT DI ts t).getD t (0,0,0)).2.2)).set t ((((BT DI ts t).set t (((BT DI ts t).getD t (0,0,0)).1,((BT DI ts t).getD t (0,0,0)).2.2,((BT DI ts t).getD t (0,0,0)).2.2)).getD t (0,0,0)).1,(((BT DI ts t).set t (((BT DI ts t).getD t (0,0,0)).1,((BT DI ts t).getD t (0,0,0)).2.2,((BT DI ts t).getD t (0,0,0)).2.2)).getD t (0,0,0)).2.1,((BT DI ts t).getD t (0,0,0)).2.1)=BT DI ts (t+1):=by
 have hl:t<(BT DI ts t).length:=by rw [ED];exact h
 have hg:∀x:T3,((BT DI ts t).set t x).getD t (0,0,0)=x:=λx=>by
  rw [List.getD,List.getElem?_set_self hl];rfl
 rw [hg,List.set_set]
 exact I9 (d:=(0,0,0)) h (by rw [IY h];rfl)
theorem DE (x0:Rat) (x1:Rat):Instr.fill ([(0,5),(5,5)].toArray[·]?) (AZ (⟨0,0⟩:Pt)).toArray [(0,.agg (AC x0).toArray),(1,.agg (AC x1).toArray)]=some (AC x0++AC x1).toArray:=by kernel_rfl
set_option maxHeartbeats 2000000 in
theorem KS (m:MQ) (nt:Nat) (b:PD) (hat:nt<65536) (kb:b.ok) (w:World) {S:Nat->Prop} (hm:Ro S w m) (hT:Rm w):Calls prog 7 #[(aG (Eu m)),(vK .u16 nt),(aG (RI b))] w (Ad w (qa true)):=by
 obtain ⟨q,hq⟩:∃z,z=CM b:=⟨_,rfl⟩
 have sq:Bc q<=4:=by rw [hq];exact OD kb
 have lm:=Da (W:=w) hm
 refine Ah (args:=[(aG (Eu m)),(vK .u16 nt),(aG (RI b))]) (L:=[AF m.p (C5 m.cs)]) func7 O O (BA O) (Db hm A7) (zM (sL [0,1,2] O) (q4 (BV (cs:=Eu m) O λb1=>BV (cs:=RI b) O λb2=>asg' O (q3 (sL [1,3,5,6] O) (Al 1 Nx O (yM (S:=S) (α:=MF m) (args:=[(aG (Eu m))]) call33 (λw hw=>SN m w (Co hw 2 O lm)) O O O λgf lg0=>?_))))))
 obtain ⟨g,hlat⟩:=gf
 have lg:At ⟨w,none⟩ S g.mx:=lg0
 have hG:=g.good
 have hnb:Be g.ps.length g.ts=true:=SY hG
 have htl:=hG.tl
 have hpl:=hG.pl
 have hz:∀i,Bc (cor g.ps i)<=1000:=λi=>xM (hG.sz i) jY
 have hz2:∀i,Bc (cor g.ps i)<=200000:=λi=>xM (hz i) jY
 have hsl:=g.sl
 have hck:It g.ps g.ts g.ss:=Ui hG hnb g.sd Z
 have ht0:=hck.t0
 have hel:=UN hnb Z ht0
 have hel2:=Pk g.ts
 have hla:g.ps.length=(g.ps.map (Bp q)).length:=(xK _).symm
 have hlb:g.ps.length=((g.ps.map (Bp q)).map CL).length:=by rw [xK,xK]
 have hlt:g.ts.length=(g.ts.map DI).length:=(xK _).symm
 have hzA:∀i,Bc (cor (g.ps.map (Bp q)) i)<=200000:=λi=>xM (Nt sq hz i) jY
 have hzB:∀i,Bc (cor ((g.ps.map (Bp q)).map CL) i)<=200000:=YN (Nt sq hz)
 refine al Hh O λb3=>Ag O sizeOf30 O (q3 (sL [1,5,6,7] O) (Al 0 Bz O (cX (S:=S) (cs:=rowsL Bg (BR g.ts)) (k:=(BR g.ts).length) (args:=[(aG (Dj g.mx))]) call34 (λw hw=>TM g.mx Z Z hnb w (Co hw 1 O lg:Ro _ w g.mx)) O O O λo lo=>asg' O (q6 (sL [1,5,6,7,8] O) (q4 (AL O (AD (v:=(vN ((BR g.ts).length))) (AE O underlying46) O (AD (BL (c:=(decide (((BR g.ts).length)=0))) O O (N9 (a:=(BR g.ts).length) (b:=0))) O (oNl' ?_)))))))))
 refine zB (sL [1,5,6,7,8,27] O) (zA ?_)
 refine zL O (λhc0=>?_) (λhc0=>?_)
 ·replace hc0:=xT hc0
  exfalso;omega
 ·replace hc0:=xS hc0
  have hml:nt%(BR g.ts).length<(BR g.ts).length:=Nat.mod_lt _ hel
  obtain ⟨E,hE⟩:∃q,q=((BR g.ts).getD (nt%(BR g.ts).length) jA):=⟨_,rfl⟩
  have hEm:E∈BR g.ts:=by rw [hE,List.getD,xP hml];exact List.getElem_mem hml
  have hEe:=HL hnb Z hEm
  have hTr:=S1 hnb Z hck.pos (λu v hu hv h=>UI hG hnb hu hv h) q hEm
  refine zC (q2 (AL O (AL O (AD (Au (c:=((nt:Nat):Int)) O underlying91 underlying3 (CJ Z)) O (AL O (AD (v:=(vN ((BR g.ts).length))) (AE O underlying46) O (AD (CB (c:=((nt%((BR g.ts).length):Nat):Int)) O O Z (Ij (a:=nt) (b:=(BR g.ts).length))) O (AD (v:=(pP (pB o.p) (pO o.p+(nt%((BR g.ts).length))*4))) (AM (j:=nt%((BR g.ts).length)) O O o.ok underlying46 sizeOf49 O Z) O (AD (v:=(aG (Bg ((BR g.ts).getD (nt%((BR g.ts).length)) jA)))) (AO (vs:=Bg ((BR g.ts).getD (nt%((BR g.ts).length)) jA)) (i:=0) O O (Ay.ne o.ok Z) Hg (Af DD _ _ _ Z) (DD _)) O (zI (k:=35) (u:=(aG (Bg E))) O (by rw [hE]) (al Io O λb4=>?_)))))))))))
  refine Ag O sizeOf49 O (q3 (sL [5,6,7,8,9] O) (Al 2 Bz O (AD (v:=(pP b4 0)) (AA O underlying49 O sizeOf3 O) O (BF 0 (vN E.a) Bm O (AD (v:=(pP b4 1)) (AA O underlying49 O sizeOf3 O) O (BF 0 (vN E.b) Bm O (DH call26 (λw hw=>PV g.mx (E.a:Int) (E.b:Int) O hTr.2.2.1 hnb Z Z hz2 w (Co hw 3 O lg:Ro _ w g.mx)) O (AL O (AD (AK (v:=(qa (Mn g.ps g.ts (E.a:Int) (E.b:Int)))) O O) O (AD (AK (v:=(vI 0)) O O) O (asg' O ?_)))))))))))
  refine asg' O (q3 (sL [5,6,7,8,9,10,11] O) (Al 2 Bz O (yD (S:=S) (V:=λa:aU g.ps g.ts g.ss=>aG (dQ a)) (LW:=dR) (args:=[(aG (Dj g.mx))]) call35 (λw hw=>Ws g.mx Z Z Z w (Co hw 3 O lg:Ro _ w g.mx)) O λcp hcp=>al Hh O λb5=>Ag O sizeOf30 O (q6 (sL [5,6,7,8,9,10,11,12] O) (q4 (asg' O (oNl' (zA (zJ ?_)))))))))
  refine zw (tg λ(i:Nat)=>i<=g.ps.length) (tg λ(i:Nat)=>[(5,(pP b2 0)),(6,(qa false)),(9,(pP b4 0)),(10,(qa (Mn g.ps g.ts (E.a:Int) (E.b:Int)))),(11,(vI 0)),(12,(pP b5 0)),(13,(vN i))]) (tg λ(i:Nat)=>[AX b5 30 ([(qz cp.a.p g.ps.length g.ps.length),(qz cp.b.p g.ts.length g.ts.length),(qz cp.c.p g.ss.length g.ss.length)]),rowW cp.c.p 110 3 g.ss.length cp.c.c (rowsL Ac g.ss),rowW cp.b.p 105 3 g.ts.length cp.b.c (rowsL Ac g.ts),rowW cp.a.p 99 10 g.ps.length cp.a.c (rowsL AZ (BT (Bp q) g.ps i)),AX b4 49 (Bg E),AF o.p (rowsL Bg (BR g.ts)),AX b3 30 (Dj g.mx),AF g.mx.a.p (rowsL AZ g.ps),AF g.mx.b.p (rowsL Ac g.ts),AF g.mx.c.p (rowsL Ac g.ss),AX b2 96 (RI b),AX b1 90 (Eu m),AF m.p (C5 m.cs)]) (tg λ(i:Nat)=>g.ps.length-i) 0 (xJ _) (sF O) sr (λi hJ=>?_)
  have hi:=hJ
  refine zX (q4 (AL O (AD (v:=(pP b5 0)) (AA O underlying30 O sizeOf28 O) O (BF 0 (qz cp.a.p g.ps.length g.ps.length) C0 O (AD (v:=(vN g.ps.length)) (AE O underlying28) O (AD (Aa (c:=(decide (i<g.ps.length))) O O (DB (a:=i) (b:=g.ps.length))) O (oNl' (zB (sL [5,6,9,10,11,12,13,51] O) (zA ?_)))))))))
  refine zL O (λhc1=>?_) (λhc1=>?_)
  ·replace hc1:=xT hc1
   obtain ⟨p,hp⟩:∃z,z=g.ps.getD i (⟨0,0⟩:Pt):=⟨_,rfl⟩
   have hp1:p=(BT (Bp q) g.ps i).getD i (⟨0,0⟩:Pt):=by rw [hp,IY Z]
   have hpz:Bc p<=1000:=by rw [hp];exact hz i
   have hlm:=ED (f:=Bp q) (l:=g.ps) (i:=i)
   obtain ⟨hp3,hp4⟩:=Vr sq hpz
   have hix:Bp q p=Bp q (g.ps.getD i (⟨0,0⟩:Pt)):=by rw [hp]
   refine zC (q1 (zJ (q4 (AD (v:=(pP b5 0)) (AA O underlying30 O sizeOf28 O) O (BF 0 (qz cp.a.p g.ps.length g.ps.length) C0 O (AL O (AD (v:=(pP (pB cp.a.p) (pO cp.a.p+i*10))) (AM (j:=i) O O cp.a.ok.clip underlying28 sizeOf99 O Z) O (AD (v:=(aG (AZ ((BT (Bp q) g.ps i).getD i (⟨0,0⟩:Pt))))) (Br (vs:=AZ ((BT (Bp q) g.ps i).getD i (⟨0,0⟩:Pt))) (i:=3) O O cp.a.ok (by rw [AS An,ED]) (Ay.ne cp.a.ok.clip Z) A_ (Af An _ _ _ Z) (An _)) O (zI (k:=58) (u:=(aG (AZ p))) O (by rw [hp1]) (al EU O λb6=>Ag O sizeOf99 O ?_))))))))))
   refine oNl' (zB (sL [5,6,9,10,11,12,13,14] O) (zA (DC (Er 4++[(5,true),(6,true),(8,true),(9,true),(4,false),(7,false),(10,true),(11,false),(12,true),(13,false)]) (sk (sk (sk (sk (sl sr))))) (Am (v:=(pP b5 0)) O (AA O underlying30 O sizeOf28 O) (BU 1 (qz cp.a.p g.ps.length g.ps.length) C0 O (By O (Ew 10 aB O (Am (v:=(pP b6 5)) O (AA O underlying99 O sizeOf77 O) (GE 0 (AC p.y) Ba O (Am (v:=(pP b6 0)) O (AA O underlying99 O sizeOf77 O) (GE 0 (AC p.x) Ba O ?_)))))))))))
   refine zN O (DH (args:=[(aG (RI b))]) (v:=(aG (AZ q))) call37 (λw hw=>(by rw [hq];exact TY b kb w)) O (zD (sk (sk (sk (sk (sl sr))))) (zN O (ck' call38 (Q0 p.y) O (zD (sk (sk (sk (sk (sl sr))))) (Am (v:=(aG (AC (-p.y)++AC p.x))) O (AP (zs:=AZ (⟨0,0⟩:Pt)) (vs:=AC (-p.y)++AC p.x) (pv:=[(0,(aG (AC (-p.y)))),(1,(aG (AC p.x)))]) (places:=[(0,5),(5,5)]) zeroValue99 underlying99 (λw=>by simp [sizeOf77]) O (DE (-p.y) p.x)) (zN O (ck' call36 (YD q (⟨-p.y,p.x⟩:Pt) Z) O (zD (sk (sk (sk (sk (sl sr))))) (Am (v:=(pP (pB cp.a.p) (pO cp.a.p+i*10))) O (AM (j:=i) O O cp.a.ok.clip underlying28 sizeOf99 O Z) (zN O ?_)))))))))))
   refine yL 4 (enc:=AZ) (j:=i) (r:=0) (x':=Bp q p) (vs:=AZ (Bp q p)) (⟨0,0⟩:Pt) An cp.a.ok (by first|exact hlm|(rw [List.length_set];exact hlm)|rfl|omega) O O O (Ay.ne cp.a.ok.clip Z) Z O sizeOf99 O O (zD (sk (sk (sk (sk (sl sr))))) (zQ (zB (sL [5,6,9,10,11,12,13,14] O) (zG (zA (zH (AL O (AD (AT (c:=((i+1:Nat):Int)) O O (AV (a:=i) (b:=1) Z)) O (asg' O (oNl' (zB (sL [5,6,9,10,11,12,13,14] O) ?_)))))))))))
   rw [show (BT (Bp q) g.ps i).set i (Bp q p)=(BT (Bp q) g.ps (i+1)) from I9 (by first|omega|(rw [xK];omega)) hix]
   exact zl (i+1) Z Z (sF O) (sl sr)
  ·replace hc1:=xS hc1
   have hie:i=g.ps.length:=by omega
   have hmA:BT (Bp q) g.ps i=(g.ps.map (Bp q)):=LD hie
   rw [hmA]
   refine zU (zO (zW (zP (q2 (Al 0 Bz O (AD (v:=(pP b4 0)) (AA O underlying49 O sizeOf3 O) O (BF 4 (vN E.a) Bm O (AD (v:=(pP b4 1)) (AA O underlying49 O sizeOf3 O) O (BF 4 (vN E.b) Bm O (DH call26 (λw hw=>TU (ps:=(g.ps.map (Bp q))) (ts:=g.ts) (ss:=g.ss) cp.a.p cp.b.p cp.c.p g.ps.length g.ts.length g.ss.length g.ps.length g.ts.length g.ss.length cp.a.ok.clip cp.b.ok.clip cp.c.ok.clip hla.symm O O (E.a:Int) (E.b:Int) hTr.1 hTr.2.2.1 hnb Z Z hzA w (GW hw 3 O cp.a.ok (by rw [AS An,<-hla]) cp.a.ok.clip) (GW hw 2 O cp.b.ok (AS Aq _) cp.b.ok.clip) (GW hw 1 O cp.c.ok (AS Aq _) cp.c.ok.clip)) O (AL O ?_)))))))))))
   refine AD (AK (v:=(qa (Mn g.ps g.ts (E.a:Int) (E.b:Int)))) O O) O (AD (AK (v:=(vI 0)) O O) O (asg' O (asg' O (q6 (sL [5,6,9,10,11,12,13,15,16] O) (q4 (asg' O (oNl' (zA (zJ ?_)))))))))
   refine zw (tg λ(j:Nat)=>j<=g.ps.length) (tg λ(j:Nat)=>[(6,(qa false)),(9,(pP b4 0)),(10,(qa (Mn g.ps g.ts (E.a:Int) (E.b:Int)))),(11,(vI 0)),(12,(pP b5 0)),(15,(qa (Mn g.ps g.ts (E.a:Int) (E.b:Int)))),(16,(vI 0)),(17,(vN j))]) (tg λ(j:Nat)=>[AX b5 30 ([(qz cp.a.p g.ps.length g.ps.length),(qz cp.b.p g.ts.length g.ts.length),(qz cp.c.p g.ss.length g.ss.length)]),rowW cp.c.p 110 3 g.ss.length cp.c.c (rowsL Ac g.ss),rowW cp.b.p 105 3 g.ts.length cp.b.c (rowsL Ac g.ts),rowW cp.a.p 99 10 g.ps.length cp.a.c (rowsL AZ (BT CL (g.ps.map (Bp q)) j)),AX b4 49 (Bg E),AF o.p (rowsL Bg (BR g.ts)),AX b3 30 (Dj g.mx),AF g.mx.a.p (rowsL AZ g.ps),AF g.mx.b.p (rowsL Ac g.ts),AF g.mx.c.p (rowsL Ac g.ss),AX b2 96 (RI b),AX b1 90 (Eu m),AF m.p (C5 m.cs)]) (tg λ(j:Nat)=>g.ps.length-j) 0 (xJ _) (sF O) sr (λj hJ=>?_)
   have hj:=hJ
   refine zX (q4 (AL O (AD (v:=(pP b5 0)) (AA O underlying30 O sizeOf28 O) O (BF 0 (qz cp.a.p g.ps.length g.ps.length) C0 O (AD (v:=(vN g.ps.length)) (AE O underlying28) O (AD (Aa (c:=(decide (j<g.ps.length))) O O (DB (a:=j) (b:=g.ps.length))) O (oNl' (zB (sL [6,9,10,11,12,15,16,17,85] O) (zA ?_)))))))))
   refine zL O (λhc2=>?_) (λhc2=>?_)
   ·replace hc2:=xT hc2
    obtain ⟨p,hp⟩:∃z,z=(g.ps.map (Bp q)).getD j (⟨0,0⟩:Pt):=⟨_,rfl⟩
    have hp2:p=(BT CL (g.ps.map (Bp q)) j).getD j (⟨0,0⟩:Pt):=by rw [hp,IY (by rw [<-hla];omega)]
    have hpz:Bc p<=1005:=by rw [hp];exact Nt sq hz j
    have hlm:(BT CL (g.ps.map (Bp q)) j).length=g.ps.length:=by rw [ED,<-hla]
    obtain ⟨hp3,hp4⟩:=Vl hpz
    have hz3:Sz ((3:Int):Rat)<=10:=by decide +kernel
    have hjx:CL p=CL ((g.ps.map (Bp q)).getD j (⟨0,0⟩:Pt)):=by rw [hp]
    refine zC (q1 (zJ (rC [(0,true),(1,true),(2,true),(3,true),(4,true),(5,true),(6,true),(7,true),(8,true),(9,true),(10,true),(11,true),(12,true),(13,true),(14,true),(15,true),(16,false),(17,false),(18,true)] 19 [] sr (sk (sk (sk (sl sr)))) jV (λ_ _ d _ _ h=>by cases d<;>exact h) (vE (v:=(pP b5 0)) O (AA O underlying30 O sizeOf28 O) O (vE O (AH (i:=0) (v:=(qz cp.a.p g.ps.length g.ps.length)) O O C0.a O) O (vM O O O (vE (v:=(pP b5 0)) O (AA O underlying30 O sizeOf28 O) O (vE O (AH (i:=0) (v:=(qz cp.a.p g.ps.length g.ps.length)) O O C0.a O) O (vM O O O (vE (v:=(pP (pB cp.a.p) (pO cp.a.p+j*10))) O (AM (j:=j) O O cp.a.ok.clip underlying28 sizeOf99 O Z) O (vE (v:=(pP (pB cp.a.p) (pO cp.a.p+(j*10+5)))) O (AA O underlying99 O sizeOf77 (Nat.add_assoc _ _ _)) O ?_)))))))))))
    refine vE (v:=(aG (AC (((BT CL (g.ps.map (Bp q)) j).getD j (⟨0,0⟩:Pt)).y)))) O (Br (vs:=AC (((BT CL (g.ps.map (Bp q)) j).getD j (⟨0,0⟩:Pt)).y)) (i:=3) O O cp.a.ok (by rw [AS An,ED,xK]) (Ay.ne cp.a.ok.clip Z) Ba (Lb An (⟨0,0⟩:Pt) _ _ 5 5 Z jY O) O) O (vE (v:=(pP b5 0)) O (AA O underlying30 O sizeOf28 O) O (vE O (AH (i:=0) (v:=(qz cp.a.p g.ps.length g.ps.length)) O O C0.a O) O (vM O O O (vE (v:=(pP (pB cp.a.p) (pO cp.a.p+j*10))) O (AM (j:=j) O O cp.a.ok.clip underlying28 sizeOf99 O Z) O (vE (v:=(pP (pB cp.a.p) (pO cp.a.p+(j*10+0)))) O (AA O underlying99 O sizeOf77 (Nat.add_assoc _ _ _)) O (vE (v:=(aG (AC (((BT CL (g.ps.map (Bp q)) j).getD j (⟨0,0⟩:Pt)).x)))) O (Br (vs:=AC (((BT CL (g.ps.map (Bp q)) j).getD j (⟨0,0⟩:Pt)).x)) (i:=3) O O cp.a.ok (by rw [AS An,ED,xK]) (Ay.ne cp.a.ok.clip Z) Ba (Lb An (⟨0,0⟩:Pt) _ _ 0 5 Z jY O) O) O (vE (v:=(aG (AC (((BT CL (g.ps.map (Bp q)) j).getD j (⟨0,0⟩:Pt)).y)++AC (((BT CL (g.ps.map (Bp q)) j).getD j (⟨0,0⟩:Pt)).x)))) O (AP (zs:=AZ (⟨0,0⟩:Pt)) (vs:=AC (((BT CL (g.ps.map (Bp q)) j).getD j (⟨0,0⟩:Pt)).y)++AC (((BT CL (g.ps.map (Bp q)) j).getD j (⟨0,0⟩:Pt)).x)) (pv:=[(0,(aG (AC (((BT CL (g.ps.map (Bp q)) j).getD j (⟨0,0⟩:Pt)).y)))),(1,(aG (AC (((BT CL (g.ps.map (Bp q)) j).getD j (⟨0,0⟩:Pt)).x))))]) (places:=[(0,5),(5,5)]) zeroValue99 underlying99 (λw=>by simp [sizeOf77]) O (DE (((BT CL (g.ps.map (Bp q)) j).getD j (⟨0,0⟩:Pt)).y) (((BT CL (g.ps.map (Bp q)) j).getD j (⟨0,0⟩:Pt)).x))) O (zx O (ck' call40 (IQ 3 jY jY) O (zu sr (zx O ?_)))))))))))
    refine DH (args:=[(aG (AC (((BT CL (g.ps.map (Bp q)) j).getD j (⟨0,0⟩:Pt)).y)++AC (((BT CL (g.ps.map (Bp q)) j).getD j (⟨0,0⟩:Pt)).x))),(aG (AC ((3:Int):Rat)))]) (v:=(aG (AZ (CL p)))) call39 (λw hw=>(by rw [<-hp2];exact Sc (⟨p.y,p.x⟩:Pt) ((3:Int):Rat) Z w)) O (zu sr (vE (v:=(pP (pB cp.a.p) (pO cp.a.p+j*10))) O (AM (j:=j) O O cp.a.ok.clip underlying28 sizeOf99 O Z) O (yJ O (yL 3 (enc:=AZ) (j:=j) (r:=0) (x':=CL p) (vs:=AZ (CL p)) (⟨0,0⟩:Pt) An cp.a.ok (by first|exact hlm|(rw [List.length_set];exact hlm)|rfl|omega) O O O (Ay.ne cp.a.ok.clip Z) Z O sizeOf99 O O (zD (sk (sk (sk (sl sr)))) (zQ (zB (sL [6,9,10,11,12,15,16,17] O) (zG (zA (zH (AL O ?_)))))))))))
    refine AD (AT (c:=((j+1:Nat):Int)) O O (AV (a:=j) (b:=1) Z)) O (asg' O (oNl' (zB (sL [6,9,10,11,12,15,16,17] O) ?_)))
    rw [show (BT CL (g.ps.map (Bp q)) j).set j (CL p)=(BT CL (g.ps.map (Bp q)) (j+1)) from I9 (by first|omega|(rw [xK];omega)) hjx]
    exact zl (j+1) Z Z (sF O) sr
   ·replace hc2:=xS hc2
    have hje:j=(g.ps.map (Bp q)).length:=by rw [<-hla];omega
    have hmB:BT CL (g.ps.map (Bp q)) j=((g.ps.map (Bp q)).map CL):=LD hje
    rw [hmB]
    refine zU (zO (zW (zP (q1 (q4 (asg' O (oNl' (zA (zJ ?_)))))))))
    refine zw (tg λ(t:Nat)=>t<=g.ts.length) (tg λ(t:Nat)=>[(6,(qa false)),(9,(pP b4 0)),(10,(qa (Mn g.ps g.ts (E.a:Int) (E.b:Int)))),(11,(vI 0)),(12,(pP b5 0)),(15,(qa (Mn g.ps g.ts (E.a:Int) (E.b:Int)))),(16,(vI 0)),(18,(vN t))]) (tg λ(t:Nat)=>[AX b5 30 ([(qz cp.a.p g.ps.length g.ps.length),(qz cp.b.p g.ts.length g.ts.length),(qz cp.c.p g.ss.length g.ss.length)]),rowW cp.c.p 110 3 g.ss.length cp.c.c (rowsL Ac g.ss),rowW cp.b.p 105 3 g.ts.length cp.b.c (rowsL Ac (BT DI g.ts t)),rowW cp.a.p 99 10 g.ps.length cp.a.c (rowsL AZ ((g.ps.map (Bp q)).map CL)),AX b4 49 (Bg E),AF o.p (rowsL Bg (BR g.ts)),AX b3 30 (Dj g.mx),AF g.mx.a.p (rowsL AZ g.ps),AF g.mx.b.p (rowsL Ac g.ts),AF g.mx.c.p (rowsL Ac g.ss),AX b2 96 (RI b),AX b1 90 (Eu m),AF m.p (C5 m.cs)]) (tg λ(t:Nat)=>g.ts.length-t) 0 (xJ _) (sF O) sr (λt hJ=>?_)
    have ht:=hJ
    refine zX (q4 (AL O (AD (v:=(pP b5 1)) (AA O underlying30 O sizeOf23 O) O (BF 0 (qz cp.b.p g.ts.length g.ts.length) C2 O (AD (v:=(vN g.ts.length)) (AE O underlying23) O (AD (Aa (c:=(decide (t<g.ts.length))) O O (DB (a:=t) (b:=g.ts.length))) O (oNl' (zB (sL [6,9,10,11,12,15,16,18,111] O) (zA ?_)))))))))
    refine zL O (λhc3=>?_) (λhc3=>?_)
    ·replace hc3:=xT hc3
     obtain ⟨T,hT0⟩:∃z,z=g.ts.getD t (0,0,0):=⟨_,rfl⟩
     have hlm:=ED (f:=DI) (l:=g.ts) (i:=t)
     have hT1:T=(BT DI g.ts t).getD t (0,0,0):=by rw [hT0,IY Z]
     obtain ⟨k1,k2,k3⟩:=DQ (Cb hnb (j:=t) Z)
     rw [<-hT0] at k1 k2 k3
     have htx:DI T=DI (g.ts.getD t (0,0,0)):=by rw [hT0]
     refine zC (q1 (zJ (eH [(0,true),(1,true),(2,true),(3,true),(4,true),(5,true),(6,true),(7,true),(8,true),(9,true),(10,true),(11,true),(12,true),(13,true),(14,true),(15,true),(16,true),(17,true),(18,true),(19,true),(21,true)] 20 [(22,true),(23,false)] sr (sk (sk (sl sr))) jV (λ_ _ d _ _ h=>by cases d<;>exact h) (Dc.pasA (v:=(pP b5 1)) O jV (AI O) (AA O underlying30 O sizeOf23 O) O O (Dc.pasA (v:=(qz cp.b.p g.ts.length g.ts.length)) O jV (AI O) (AH (i:=0) (v:=(qz cp.b.p g.ts.length g.ts.length)) O O C2.a O) O O (Dc.pasA (v:=(vN t)) O jV (AI O) (Ca O) O O (Dc.pasB (v:=(pP b5 1)) O jV (AI O) (AA O underlying30 O sizeOf23 O) O O (Dc.pasB (v:=(qz cp.b.p g.ts.length g.ts.length)) O jV (AI O) (AH (i:=0) (v:=(qz cp.b.p g.ts.length g.ts.length)) O O C2.a O) O O (Dc.pasB (v:=(vN t)) O jV (AI O) (Ca O) O O (Dc.pasA (v:=(pP b5 1)) O jV (AI O) (AA O underlying30 O sizeOf23 O) O O (Dc.pasA (v:=(qz cp.b.p g.ts.length g.ts.length)) O jV (AI O) (AH (i:=0) (v:=(qz cp.b.p g.ts.length g.ts.length)) O O C2.a O) O O ?_)))))))))))
     refine Dc.pasA (v:=(vN t)) O jV (AI O) (Ca O) O O (Dc.pasA (v:=(pP (pB cp.b.p) (pO cp.b.p+t*3))) O jV (AI O) (AM (j:=t) O O cp.b.ok.clip underlying23 sizeOf105 O Z) O O (Dc.pasA (v:=(pP (pB cp.b.p) (pO cp.b.p+(t*3+2)))) O jV (AI O) (AB (j:=2) O O underlying105 sizeOf3 O jY (Nat.add_assoc _ _ _)) O O (Dc.pasA (v:=(vN (((BT DI g.ts t).getD t jJ).2.2))) O jV (AI O) (Fy (v:=(vN (((BT DI g.ts t).getD t jJ).2.2))) (i:=2) O O cp.b.ok (by rw [AS Aq,ED]) (Ay.ne cp.b.ok.clip Z) Bm (EH Aq jJ _ _ 2 Z jY O)) O O (Dc.pasA (v:=(pP b5 1)) O jV (AI O) (AA O underlying30 O sizeOf23 O) O O (Dc.pasA (v:=(qz cp.b.p g.ts.length g.ts.length)) O jV (AI O) (AH (i:=0) (v:=(qz cp.b.p g.ts.length g.ts.length)) O O C2.a O) O O (Dc.pasA (v:=(vN t)) O jV (AI O) (Ca O) O O (Dc.pasA (v:=(pP (pB cp.b.p) (pO cp.b.p+t*3))) O jV (AI O) (AM (j:=t) O O cp.b.ok.clip underlying23 sizeOf105 O Z) O O (Dc.pasA (v:=(pP (pB cp.b.p) (pO cp.b.p+(t*3+1)))) O jV (AI O) (AB (j:=1) O O underlying105 sizeOf3 O jY (Nat.add_assoc _ _ _)) O O (Dc.pasA (v:=(vN (((BT DI g.ts t).getD t jJ).2.1))) O jV (AI O) (Fy (v:=(vN (((BT DI g.ts t).getD t jJ).2.1))) (i:=2) O O cp.b.ok (by rw [AS Aq,ED]) (Ay.ne cp.b.ok.clip Z) Bm (EH Aq jJ _ _ 1 Z jY O)) O O (Dc.pasA (v:=(pP (pB cp.b.p) (pO cp.b.p+t*3))) O jV (AI O) (AM (j:=t) O O cp.b.ok.clip underlying23 sizeOf105 O Z) O O (Dc.pasA (v:=(pP (pB cp.b.p) (pO cp.b.p+(t*3+1)))) O jV (AI O) (AB (j:=1) O O underlying105 sizeOf3 O jY (Nat.add_assoc _ _ _)) O O ?_)))))))))))
     refine Dc.pasB (v:=(pP (pB cp.b.p) (pO cp.b.p+t*3))) O jV (AI O) (AM (j:=t) O O cp.b.ok.clip underlying23 sizeOf105 O Z) O O (Dc.cut O (yL 2 (enc:=Ac) (j:=t) (r:=1) (x':=(((BT DI g.ts t).getD t jJ).1,((BT DI g.ts t).getD t jJ).2.2,((BT DI g.ts t).getD t jJ).2.2)) (vs:=[(vN (((BT DI g.ts t).getD t jJ).2.2))]) jJ Aq cp.b.ok (by first|exact hlm|(rw [List.length_set];exact hlm)|rfl|omega) O O O (Ay.ne cp.b.ok.clip Z) Z O sizeOf3 O O (zD (sk (sk (sl sr))) (Am (v:=(pP (pB cp.b.p) (pO cp.b.p+(t*3+2)))) O (AB (j:=2) O O underlying105 sizeOf3 O jY (Nat.add_assoc _ _ _)) (zN O (yL 2 (enc:=Ac) (j:=t) (r:=2) (x':=((((BT DI g.ts t).set t (((BT DI g.ts t).getD t jJ).1,((BT DI g.ts t).getD t jJ).2.2,((BT DI g.ts t).getD t jJ).2.2)).getD t jJ).1,(((BT DI g.ts t).set t (((BT DI g.ts t).getD t jJ).1,((BT DI g.ts t).getD t jJ).2.2,((BT DI g.ts t).getD t jJ).2.2)).getD t jJ).2.1,((BT DI g.ts t).getD t jJ).2.1)) (vs:=[(vN (((BT DI g.ts t).getD t jJ).2.1))]) jJ Aq cp.b.ok (by first|exact hlm|(rw [List.length_set];exact hlm)|rfl|omega) O O O (Ay.ne cp.b.ok.clip Z) Z O sizeOf3 O O (zD (sk (sk (sl sr))) (zQ (zB (sL [6,9,10,11,12,15,16,18] O) (zG (zA ?_)))))))))))
     refine zH (AL O (AD (AT (c:=((t+1:Nat):Int)) O O (AV (a:=t) (b:=1) Z)) O (asg' O (oNl' (zB (sL [6,9,10,11,12,15,16,18] O) ?_)))))
     rw [show ((BT DI g.ts t).set t (((BT DI g.ts t).getD t jJ).1,((BT DI g.ts t).getD t jJ).2.2,((BT DI g.ts t).getD t jJ).2.2)).set t ((((BT DI g.ts t).set t (((BT DI g.ts t).getD t jJ).1,((BT DI g.ts t).getD t jJ).2.2,((BT DI g.ts t).getD t jJ).2.2)).getD t jJ).1,(((BT DI g.ts t).set t (((BT DI g.ts t).getD t jJ).1,((BT DI g.ts t).getD t jJ).2.2,((BT DI g.ts t).getD t jJ).2.2)).getD t jJ).2.1,((BT DI g.ts t).getD t jJ).2.1)=(BT DI g.ts (t+1)) from Sy Z]
     exact zl (t+1) Z Z (sF O) sr
    ·replace hc3:=xS hc3
     have hte:t=g.ts.length:=by omega
     have hmT:BT DI g.ts t=(g.ts.map DI):=LD hte
     rw [hmT]
     refine zU (zO (zW (zP (q2 (Al 0 Bz O (AD (v:=(pP b4 0)) (AA O underlying49 O sizeOf3 O) O (BF 4 (vN E.a) Bm O (AD (v:=(pP b4 1)) (AA O underlying49 O sizeOf3 O) O (BF 4 (vN E.b) Bm O (DH call26 (λw hw=>TU (ps:=((g.ps.map (Bp q)).map CL)) (ts:=(g.ts.map DI)) (ss:=g.ss) cp.a.p cp.b.p cp.c.p g.ps.length g.ts.length g.ss.length g.ps.length g.ts.length g.ss.length cp.a.ok.clip cp.b.ok.clip cp.c.ok.clip hlb.symm hlt.symm O (E.a:Int) (E.b:Int) hTr.2.1 hTr.2.2.2 (Nv hnb) Z Z hzB w (GW hw 3 O cp.a.ok (by rw [AS An,<-hlb]) cp.a.ok.clip) (GW hw 2 O cp.b.ok (by rw [AS Aq,<-hlt]) cp.b.ok.clip) (GW hw 1 O cp.c.ok (AS Aq _) cp.c.ok.clip)) O (AL O ?_)))))))))))
     refine AD (AK (v:=(qa (Mn g.ps g.ts (E.a:Int) (E.b:Int)))) O O) O (AD (AK (v:=(vI 0)) O O) O (asg' O (asg' O (q3 (sL [6,9,10,11,12,15,16,18,19,20] O) (AL O (AL O (AD (FY (c:=true) O O underlying4 (xI O)) O (AL O (Hk O (Hk O (BM (v:=(qa true)) O (FY (c:=true) O O underlying4 (xI O)) ?_)))))))))))
     refine AD (v:=(qa true)) (AW O O) O (AL O (Hk O (BM (v:=(qa true)) O (BL (c:=true) O O jY) (AD (v:=(qa true)) (AW O O) O (AL O (Hk O (BM (v:=(qa true)) O (BL (c:=true) O O jY) (AD (v:=(qa true)) (AW O O) O (AL O (Hk O (BM (v:=(qa true)) O (BL (c:=true) O O jY) ?_)))))))))))
     exact AD (v:=(qa true)) (AW O O) O (AL O (zh (v:=(qa true)) (Ab O) (Ar (args:=[]) O O call25) (λw hw=>P5 w (hT.below hw.out)) O (BA O) (AD (v:=(qa true)) (AW O O) O (asg' O (oNl' (zB (sL [6,9,10,11,12,15,16,18] O) (zA (zF (ret_one O (rd_tmp (v:=(qa true)) O) (λw hw=>⟨rfl,hw.out⟩))))))))))
end
section
open Go Go.RowKit Go.ChangeShapes Go.WideShapes Go.ChangeAt
theorem Xt:laidOutB Tryz.prog=true:=by kernel_rfl
theorem Vb:ownKnob Tryz.prog.godebug=none:=by kernel_rfl
theorem Ho {H:Type} {enc:TypeId×Value->H} {P:Program} (hl:laidOutB P=true) {W W':World} {sp:Nat->Bool} (hb:Below W.heap.size W W') :
    ∀{ts:List TypeId} {vs:List Value} {ds:List (DataW H)} {ps:List MemPlace},(∀t∈ts,P.readableRec t=true/\t<P.types.size)->DataW.TrodAll enc P W 0 (λ_=>true) true ts vs ds ps ->
      (∀p∈ps,p.block<W.heap.size)->(∀p∈ps,sp p.block=true)->DataW.TrodAll enc P W' 0 sp true ts vs ds ps
  | [],_,_,_,_,h,_,_=>by
    obtain ⟨rfl,rfl,rfl⟩:=trodAll_nil h
    exact trodAll_mk0
  | t::ts,_,_,_,hr,h,hlt,hs=>by
    obtain ⟨v,vs1,d,ds1,a,b,rfl,rfl,rfl,h1,h2⟩:=trodAll_cons h
    exact ⟨a,b,WideElems.Trod_stays hl (hr t jX).1 (hr t jX).2 h1 (λx hx=>hb.same (hlt x (by simp [hx]))) (λx hx=>hs x (by simp [hx])),
      Ho hl hb (λu hu=>hr u (by simp [hu])) h2 (λp hp=>hlt p (by simp [hp])) (λp hp=>hs p (by simp [hp])),rfl⟩
theorem U0 {H:Type} {enc:TypeId×Value->H} {P:Program} {f:Func} {s:ChangeSpec} {apart fresh handsOn again:Bool} {W W':World} {args:Array Value} {ds:List (DataW H)} {Bv:List MemPlace} {tb:TypeId}
    (hW:DataW.Whole enc P f.params.toList s.vars apart W args.toList ds [] Bv) (hv:s.vars=[]) (hfn:s.fn H ds=({ results:=[.lit (.bool true)],args:=ds }:Left H))
    (hrt:f.resultTypes=#[tb]) (hu:P.underlying tb=some .bool) (hb:Below W.heap.size W W') (hl:laidOutB P=true) (hr:∀t∈f.params.toList,P.readableRec t=true/\t<P.types.size) :
    s.post enc P f apart fresh handsOn again W args (.bool true) W':=by
  have hlt:∀p∈Bv,p.block<W.heap.size:=λp hp=>hW.lt p hp
  have hW2:=hW
  obtain ⟨pa,q,hA,hV,he,hz,hn⟩:=hW2
  rw [hv] at hV
  obtain ⟨_,rfl⟩:=trodVars_none hV
  simp only [List.append_nil] at he
  subst he
  have hres:∀(b:Nat) (sp:Nat->Bool) (hd:Bool),DataW.TrodAll enc P W' b sp hd f.resultTypes.toList ((qa true).resultList f.resultTypes.size) (s.fn H (ds++[])).results []:=λb sp hd=>by
    rw [hrt,List.append_nil,hfn]
    exact trodAll_mk1 (shut_bool hu _)
  have hargs:∀sp:Nat->Bool,(∀p∈Bv,sp p.block=true)->DataW.TrodAll enc P W' 0 sp true f.params.toList args.toList (s.fn H (ds++[])).args Bv:=λsp hs=>by
    rw [List.append_nil,hfn]
    exact Ho hl hb hr hA hlt hs
  have hvars:∀sp:Nat->Bool,DataW.TrodVars enc P W' sp s.vars (s.fn H (ds++[])).vars []:=λsp=>by
    rw [List.append_nil,hfn,hv];rfl
  have hold:∀p∈Bv,(λb=>decide (b<W.heap.size)) p.block=true:=λp hp=>by simpa using hlt p hp
  refine ⟨ds,[],Bv,[],Bv,[],hW,hres _ _ _,hargs _ hold,hvars _,World.keptBut_mono (λp hp=>⟨hp,Or.inr (by simpa using hp)⟩) (hb.frame (·∈Bv)),λ_=>⟨?_,_,_,([]++Bv)++[],⟨[]++Bv,[],trodAll_append (hargs _ (λ_ _=>rfl)) (hres _ _ _),hvars _,rfl,?_,?_⟩,?_⟩⟩
  · exact ok_one hrt O (okWide_bool_mk hu _)
  · intro b off hp
    have hp':MemPlace.cell b off∈Bv:=by simpa using hp
    rw [hb.frozen (hlt _ hp')]
    exact hz b off hp'
  · intro ha
    have:=hn ha
    simpa using this
  · intro p hp _
    simpa using hp
end
section
open Go Go.RowKit Go.WideShapes
section
variable {P:Program} {w:World} {r:Reach} {base:Nat}
theorem D8 {u:TypeId} {v:Value} {k:IntKind} (hu:P.underlying u=some (.int k)) (h:Cell.okWide P w r base u v):∃n,v=.int k n/\k.has n:=by
  simp only [Cell.okWide,hu] at h
  unfold Cell.ok at h
  rw [hu] at h
  cases v<;>simp at h
  exact ⟨_,by rw [h.1],h.2⟩
theorem Pf {u e:TypeId} {v:Value} (hu:P.underlying u=some (.slice e)) (h:Cell.okWide P w r base u v) :
    v=.slice none 0 0\/∃a len cap,v=.slice (some a) len cap/\len<=cap/\a.spot=none/\∃cur T fr,w.heap[a.block]?=some (.cells cur T fr):=by
  simp only [Cell.okWide,hu] at h
  unfold Cell.ok at h
  rw [hu] at h
  cases v with
  | slice p len cap =>
    cases p with
    | none =>
      left
      split at h<;>simp_all
    | some a =>
      right
      have h':len<=cap/\(cap:Int)<=IntKind.i64.max/\w.has P r base a e cap:=h
      obtain ⟨h1,_,_,h2,row,cells,h3,_⟩:=h'
      refine ⟨a,len,cap,rfl,h1,h2,?_⟩
      unfold World.shape? at h3
      split at h3
      · rename_i cur T fr e;exact ⟨cur,T,fr,e⟩
      · cases h3
  | _=>simp at h
theorem Nc {n:Int} (h:IntKind.i8.has n):-128<=n/\n<=127:=by
  simp only [IntKind.has,IntKind.min,IntKind.max,IntKind.bits,IntKind.signed] at h;simp at h;omega
theorem aH {n:Int} (h:IntKind.u8.has n):0<=n/\n<256:=by
  simp only [IntKind.has,IntKind.min,IntKind.max,IntKind.bits,IntKind.signed] at h;simp at h;omega
theorem Lq {n:Int} (h:IntKind.u8.has n):∃m:Nat,n=(m:Int)/\m<256:=by
  have:=aH h
  exact ⟨n.toNat,Z,Z⟩
theorem Yi {n:Int} (h:IntKind.u16.has n):0<=n/\n<65536:=by
  simp only [IntKind.has,IntKind.min,IntKind.max,IntKind.bits,IntKind.signed] at h;simp at h;omega
theorem W6 {t:TypeId} {v:Value} (ht:P.underlying t=some (.int .u16)) (h:Value.okWide P w r base t v):∃m:Nat,v=.int .u16 (m:Nat)/\m<65536:=by
  have h1:Cell.okWide P w r base t v:=by unfold Value.okWide at h;rw [ht] at h;exact h
  obtain ⟨n,rfl,hn⟩:=D8 ht h1
  have:=Yi hn
  exact ⟨n.toNat,by congr 1;omega,Z⟩
theorem ZM {t:TypeId} {v:Value} {ts:List TypeId} (hag:(match P.underlying t with|some (.struct _)=>true|some (.array _ _)=>true|_=>false)=true) (hts:P.cellTypes P.depth t=some ts) (hsz:P.cellsOf t=ts.length)
    (hk:ts.map P.underlying=(kQ++kQ).map (λk=>some (.int k))) (hv:Value.okWide P w r base t v):∃p0:PD,p0.ok/\v=.agg (RI p0).toArray:=by
  obtain ⟨ns,rfl,h⟩:=Tn _ hag hts hsz hk hv
  obtain ⟨p0,m0,h0,e0,h⟩:=a_ (ks:=[]) h
  exact ⟨p0,h0,by rw [show kQ++kQ=[.i64,.u32,.i64,.u32] from O,e0,Wd];simp⟩
theorem OK {f:Nat->Option Value}:∀(len:Nat),(∀i,i<len->∃m:Nat,f i=some (.int .u8 (m:Nat))/\m<256)->∃l:List Nat,l.length=len/\(∀x∈l,x<256)/\∀i,i<len->f i=(C5 l)[i]?
  | 0,_=>⟨[],rfl,(λx h=>by cases h),λi h=>absurd h (Nat.not_lt_zero _)⟩
  | n+1,h=>by
    obtain ⟨l,h1,h2,h3⟩:=OK n λi hi=>h i Z
    obtain ⟨m,h4,h5⟩:=h n Z
    refine ⟨l++[m],by simp [h1],λx hx=>?_,λi hi=>?_⟩
    · rcases List.mem_append.1 hx with hx|hx
      · exact h2 x hx
      · rcases xO.1 hx with rfl;exact h5
    · rcases Nat.lt_or_ge i n with h6|h6
      · rw [h3 i h6];simp [C5,List.getElem?_append,h1,h6]
      · obtain rfl:i=n:=by omega
        rw [h4];simp [C5,List.getElem?_append,h1]
theorem P4 {cur:Array Value} {T:TypeId} {fr:Nat×Nat} {off len:Nat} {l:List Nat} (hl:l.length=len) (h:∀i,i<len->cur[off+i]?=(C5 l)[i]?):Hd off (C5 l) (.cells cur T fr):=by
  have hb:(C5 l).length=len:=by simp [C5,hl]
  refine ⟨cur,T,fr,rfl,List.ext_getElem? λi=>?_⟩
  rw [List.getElem?_take,hb]
  split
  · rename_i hi
    rw [List.getElem?_drop,Array.getElem?_toList,h i hi]
  · rw [List.getElem?_eq_none Z]
theorem aj {H:Type} {enc:TypeId×Value->H} {W:World} {sp:Nat->Bool} {hd:Bool} {t ts e a0 a1 a2 a3 a4 a5 a6 a7:TypeId} {v:Value} {d:DataW H} {ps:List MemPlace} {fs:Array Field} (ht:P.underlying t=some (.struct fs)) (hf:∃f,fs[2]?=some f/\f.type=ts/\f.offset=2)
    (hts:P.underlying ts=some (.slice e)) (h1:P.cellsOf ts=1) (he:P.underlying e=some (.int .u8)) (h1e:P.cellsOf e=1) (hct:P.cellTypes P.depth t=some [a0,a1,ts,a2,a3,a4,a5,a6,a7]) (hsz:P.cellsOf t=9)
    (hk:[a0,a1,a2,a3,a4,a5,a6,a7].map P.underlying=[IntKind.u8,.u8,.i8,.i8,.i8,.i8,.u8,.u8].map (λk=>some (.int k)))
    (hv:Value.okWide P W r base t v) (hT:DataW.Trod enc P W 0 sp hd t v d ps):∃m:MQ,v=aG (Eu m)/\Ro (λ_=>True) W m:=by
  unfold Value.okWide at hv
  rw [ht] at hv
  obtain ⟨⟨cs⟩,rfl,hs,ts',hts',_,hc⟩:=hv
  obtain rfl:=Option.some.inj (hct.symm.trans hts')
  have hl:cs.length=9:=by rw [<-hsz,<-hs];simp
  match cs,hl,hc,hT with
  | [c0,c1,c2,c3,c4,c5,c6,c7,c8],_,hc,hT =>
    simp only [List.map_cons,List.map_nil,List.cons.injEq,and_true] at hk
    obtain ⟨k0,k1,k2,k3,k4,k5,k6,k7⟩:=hk
    have g:∀(i:Nat) (u:TypeId) (v:Value),i<9->[a0,a1,ts,a2,a3,a4,a5,a6,a7][i]?=some u->[c0,c1,c2,c3,c4,c5,c6,c7,c8][i]?=some v->Cell.okWide P W r base u v:=λi u v hi hu hv=>by
      obtain ⟨u',h2,h3⟩:=hc i v (by simpa using hv)
      rw [Nat.mod_eq_of_lt (by simpa using hi),hu] at h2
      cases h2;exact h3
    obtain ⟨n0,rfl,b0⟩:=D8 k0 (g 0 _ _ jY rfl rfl)
    obtain ⟨n1,rfl,b1⟩:=D8 k1 (g 1 _ _ jY rfl rfl)
    obtain ⟨n2,rfl,b2⟩:=D8 k2 (g 3 _ _ jY rfl rfl)
    obtain ⟨n3,rfl,b3⟩:=D8 k3 (g 4 _ _ jY rfl rfl)
    obtain ⟨n4,rfl,b4⟩:=D8 k4 (g 5 _ _ jY rfl rfl)
    obtain ⟨n5,rfl,b5⟩:=D8 k5 (g 6 _ _ jY rfl rfl)
    obtain ⟨n6,rfl,b6⟩:=D8 k6 (g 7 _ _ jY rfl rfl)
    obtain ⟨n7,rfl,b7⟩:=D8 k7 (g 8 _ _ jY rfl rfl)
    obtain ⟨m0,rfl,e0⟩:=Lq b0
    obtain ⟨m1,rfl,e1⟩:=Lq b1
    obtain ⟨m6,rfl,e6⟩:=Lq b6
    obtain ⟨m7,rfl,e7⟩:=Lq b7
    have hsl:=Pf hts (g 2 _ _ jY rfl rfl)
    have key:∃(l:List Nat) (p:Option Addr) (cap:Nat),c2=.slice p l.length cap/\(∀x∈l,x<256)/\Ay p l.length cap/\Holds W (AF p (C5 l)):=by
      rcases hsl with rfl|⟨a,len,cap,rfl,hlc,hsp,cur,T,fr,hcur⟩
      · exact ⟨[],none,0,rfl,(λx h=>by cases h),⟨λ_=>⟨rfl,rfl⟩,(λa e=>by cases e),Nat.le_refl _⟩,λb e=>by cases e⟩
      · obtain ⟨fuel,hT⟩:=hT
        obtain ⟨xs,n,_,_,_,hxl,hx⟩:=DataW.trod_struct ht hT
        obtain ⟨f,hf1,rfl,hf3⟩:=hf
        have hx2:=hx 2 f hf1
        have hlt:2<xs.length:=by
          rw [hxl]
          rcases Nat.lt_or_ge 2 fs.size with h|h
          · exact h
          · rw [Array.getElem?_eq_none h] at hf1;cases hf1
        rw [hf3,h1,xP hlt] at hx2
        rcases DataW.trod_slice hts hx2 with ⟨h2,_⟩|⟨a',len',cap',elems,rest,n',_,h2,_,_,_,_,hel,hes,_⟩
        · cases h2
        · obtain ⟨rfl,rfl,rfl⟩:a=a'/\len=len'/\cap=cap':=by
            have h3:[qz (some a) len cap]=[qz (some a') len' cap']:=h2
            simp only [List.cons.injEq,qz.injEq,Option.some.injEq,and_true] at h3
            exact h3
          have hbyte:∀i,i<len->∃m:Nat,cur[a.off+i]?=some (.int .u8 (m:Nat))/\m<256:=λi hi=>by
            have h3:=hes i hi
            rw [xP Z,Option.bind_eq_some_iff] at h3
            obtain ⟨cs',h4,h5⟩:=h3
            obtain ⟨n,rfl,_,hwf⟩:=DataW.trod_int he h5
            rw [h1e,Nat.mul_one] at h4
            unfold World.cells? at h4
            rw [if_pos (xJ _)] at h4
            have h6:=mapM_some_get h4 0 0 jX
            rw [List.getElem?_cons_zero] at h6
            have ha:a=⟨a.block,a.off,none⟩:=by rw [<-hsp]
            have h7:W.cell? ((a.add i).add 0)=some (Value.int IntKind.u8 n):=h6
            rw [ha,add_plain,add_plain,Nat.add_zero] at h7
            unfold World.cell? at h7
            simp only [hcur] at h7
            have h8:IntKind.u8.has n:=by
              have h9:(decide (IntKind.u8.min<=n)&&decide (n<=IntKind.u8.max))=true:=hwf
              rw [yz,xV,xV] at h9
              exact h9
            obtain ⟨m,rfl,hm⟩:=Lq h8
            exact ⟨m,by simpa using h7,hm⟩
          obtain ⟨l,hl1,hl2,hl3⟩:=OK len hbyte
          refine ⟨l,some a,cap,by rw [hl1],hl2,⟨(λe=>by cases e),(λa' e=>by cases e;exact hsp),Z⟩,λb e=>?_⟩
          have hb:a.block=b:=Option.some.inj e
          subst hb
          exact ⟨_,hcur,P4 hl1 hl3⟩
    obtain ⟨l,p,cap,rfl,hl2,hok,hh⟩:=key
    exact ⟨⟨m0,m1,l,p,cap,n2,n3,n4,n5,m6,m7,e0,e1,Nc b2,Nc b3,Nc b4,Nc b5,e6,e7,hl2,hok⟩,rfl,λy hy=>by
      rcases xO.1 hy with rfl
      exact ⟨hh,λ_ _=>trivial⟩⟩
end
end
end Go.Proofs.YtpolhpjiahbidaaGreatDoor
