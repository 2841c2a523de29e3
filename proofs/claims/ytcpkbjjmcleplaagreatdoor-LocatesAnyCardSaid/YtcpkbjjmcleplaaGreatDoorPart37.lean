import Derived.Test.YtcpkbjjmcleplaaGreatDoorPart36
namespace Go.Proofs.YtcpkbjjmcleplaaGreatDoor
open Go Go.RowKit Go.Proofs.Tryz
open Go.Value renaming slice→qz,bool→qa
set_option linter.unusedVariables false
set_option linter.unusedSimpArgs false
section
def Nm (a b:Pt):Bool:=decide (BK a.x b.x<0)||(decide (BK a.x b.x=0)&&decide (BK a.y b.y<0))
def DS (e m:Pt):Bool:=Nm e m
def DT (e m:Pt):Bool:=Nm m e
def Jn (a b d:Pt):List Pt:=if Db a b d=true then [d] else []
def Jm (a b c d:Pt):List Pt:=(if Db a b c=true then [c] else [])++Jn a b d
def Kp (a b c d:Pt):List Pt:=(if Db c d b=true then [b] else [])++Jm a b c d
section
variable {a b c d e m:Pt} {f:Pt->Pt->Bool} {l:List Pt} {p:Pt->Prop}
theorem Xn (h:Db c d a=true):[a]++Kp a b c d=CD a b c d:=by unfold CD;rw [if_pos h];rfl
theorem Xm (h:¬Db c d a=true):[]++Kp a b c d=CD a b c d:=by unfold CD;rw [if_neg h];rfl
theorem Xp {E:List Pt} (h:Db c d b=true) (k:l++Kp a b c d=E):(l++[b])++Jm a b c d=E:=by rw [<-k];unfold Kp;rw [if_pos h,List.append_assoc]
theorem Xo {E:List Pt} (h:¬Db c d b=true) (k:l++Kp a b c d=E):l++Jm a b c d=E:=by rw [<-k];unfold Kp;rw [if_neg h];rfl
theorem Xr {E:List Pt} (h:Db a b c=true) (k:l++Jm a b c d=E):(l++[c])++Jn a b d=E:=by rw [<-k];unfold Jm;rw [if_pos h,List.append_assoc]
theorem Xq {E:List Pt} (h:¬Db a b c=true) (k:l++Jm a b c d=E):l++Jn a b d=E:=by rw [<-k];unfold Jm;rw [if_neg h];rfl
theorem Xt {E:List Pt} (h:Db a b d=true) (k:l++Jn a b d=E):l++[d]=E:=by rw [<-k];unfold Jn;rw [if_pos h]
theorem Xs {E:List Pt} (h:¬Db a b d=true) (k:l++Jn a b d=E):l=E:=by rw [<-k];unfold Jn;rw [if_neg h,List.append_nil]
def OH (f:Pt->Pt->Bool) (l:List Pt) (i:Nat):Pt:=EN f (l.getD 0 ⟨0,0⟩) ((l.drop 1).take i)
theorem Kj:∀(l:List Pt) (m e:Pt),EN f m (l++[e])=if f e (EN f m l)=true then e else EN f m l
  | [],m,e=>rfl
  | x::r,m,e=>by
    show EN f (if f x m=true then x else m) (r++[e])=_
    rw [Kj r];rfl
theorem OY {i:Nat} (h:i+1<l.length):OH f l (i+1)=if f (l.getD (i+1) ⟨0,0⟩) (OH f l i)=true then l.getD (i+1) ⟨0,0⟩ else OH f l i:=by
  have e:(l.drop 1).take (i+1)=(l.drop 1).take i++[l.getD (i+1) ⟨0,0⟩]:=by
    rw [Fe (d:=⟨0,0⟩) (by rw [List.length_drop];omega)]
    simp [List.getD,Nat.add_comm]
  unfold OH
  rw [e,Kj]
theorem ZV {i:Nat} {x:Pt} (h:i+1<l.length) (k:x=OH f l i) (hf:f (l.getD (i+1) ⟨0,0⟩) x=true):l.getD (i+1) ⟨0,0⟩=OH f l (i+1):=by rw [OY h,<-k,if_pos hf]
theorem ZU {i:Nat} {x:Pt} (h:i+1<l.length) (k:x=OH f l i) (hf:¬f (l.getD (i+1) ⟨0,0⟩) x=true):x=OH f l (i+1):=by rw [OY h,<-k,if_neg hf]
end
structure Po (n:Nat) (p:Pt) where
  x:PX p
instance {n:Nat} {p:Pt}:CT (Po n p):=⟨λr=>.tuple #[vN n,aG (AZ r.x)],λr=>CT.rows r.x,λr y hy=>CT.ro r.x y hy⟩
theorem Po.cast {n n':Nat} {p p':Pt} {S:Nat->Prop} {W w:World} {e:Ending} (hn:n=n') (hp:p=p') (h:Ai (Po n p) S W e w):Ai (Po n' p') S W e w:=by subst hn;subst hp;exact h
theorem Ux {a b c d:Pt} {f g:Pt->Pt->Bool} {n:Nat} (h:n+1=(CD a b c d).length):HD f g a b c d=if OH f (CD a b c d) n=OH g (CD a b c d) n then (1,OH f (CD a b c d) n) else (2,OH f (CD a b c d) n):=by
  cases hl:CD a b c d with
  | nil=>rw [hl] at h;cases h
  | cons x r =>
    rw [JB hl]
    rw [hl] at h
    have e:∀f,OH f (x::r) n=EN f x r:=λf=>by
      unfold OH
      rw [List.drop_one,List.tail_cons,List.take_of_length_le (by simp at h;omega)];rfl
    rw [e,e]
theorem Jx {rs:List RP} {l:List Pt} (h:rs.map (·.p)=l) {i:Nat} (hi:i<rs.length):(rs.getD i Dv).p=l.getD i ⟨0,0⟩:=by
  rw [<-h];simp [hi]
theorem PJ {T:Nat->Prop} {w:World} {rs:List RP} {A B C D:RP} (m:∀r∈rs,r=A\/r=B\/r=C\/r=D) {j:Nat} (hj:j<rs.length) (h1:Ro T w A.x) (h2:Ro T w B.x) (h3:Ro T w C.x) (h4:Ro T w D.x):Ro T w (rs.getD j Dv).x:=by
  have e:rs.getD j Dv∈rs:=by rw [List.getD,xN hj];exact List.getElem_mem hj
  rcases m _ e with e|e|e|e<;>rw [e]<;>assumption
theorem fH {rs:List RP} {A B C D:RP} (m:∀r∈rs,r=A\/r=B\/r=C\/r=D) {n:Nat} (h:BD A.p+BD B.p+BD C.p+BD D.p<=n) {j:Nat} (hj:j<rs.length):BD (rs.getD j Dv).p<=n:=by
  have e:rs.getD j Dv∈rs:=by rw [List.getD,xN hj];exact List.getElem_mem hj
  rcases m _ e with e|e|e|e<;>rw [e]<;>omega
theorem aN {a b:Pt} (h:BK a.x b.x<0):Nm a b=true:=by unfold Nm;rw [xE h];rfl
theorem aO {a b:Pt} (h:¬BK a.x b.x<0) (k:BK a.x b.x=0):Nm a b=decide (BK a.y b.y<0):=by unfold Nm;rw [xz h,xE k];rfl
theorem aP {a b:Pt} (h:¬BK a.x b.x<0) (k:¬BK a.x b.x=0):Nm a b=false:=by unfold Nm;rw [xz h,xz k];rfl
theorem U7 {a b c d:Pt}:(CD a b c d).length<=4:=by
  unfold CD
  rw [xJ,xJ,xJ]
  have e:∀(c:Prop) [Decidable c] (r:Pt),(if c then [r] else []).length<=1:=λc _ r=>by split<;>simp
  have h1:=e (Db c d a=true) a
  have h2:=e (Db c d b=true) b
  have h3:=e (Db a b c=true) c
  have h4:=e (Db a b d=true) d
  omega
def Cl:FS:=⟨0,FX.zero⟩
theorem NW {a b c d:Pt} {f g:Pt->Pt->Bool} (ha:BD a<=6) (hb:BD b<=6) (hc:BD c<=6) (hd:BD d<=6):BD (HD f g a b c d).2<=126:=by
  have h0:BD (⟨0,0⟩:Pt)<=126:=by decide +kernel
  have hm:BD (G0 a b c d)<=126:=by
    unfold G0
    have k1:=Bi b a
    have k2:=Bi c a
    have k3:=Bi d c
    have k4:=Eq (c-a) (d-c)
    have k5:=Eq (b-a) (d-c)
    have k6:=GQ (A8 (c-a) (d-c)) (A8 (b-a) (d-c))
    have k7:=Ef (b-a) (A8 (c-a) (d-c)/A8 (b-a) (d-c))
    have k8:=GP a (Bg (b-a) (A8 (c-a) (d-c)/A8 (b-a) (d-c)))
    omega
  have hmem:∀e∈CD a b c d,BD e<=126:=λe he=>by
    have hx:∀{c:Prop} [Decidable c] {r:Pt},e∈(if c then [r] else [])->e=r:=λ{c _ r} h=>by
      split at h
      · exact xM.1 h
      · cases h
    unfold CD at he
    rcases List.mem_append.1 he with he|he
    · rw [hx he];omega
    · rcases List.mem_append.1 he with he|he
      · rw [hx he];omega
      · rcases List.mem_append.1 he with he|he
        · rw [hx he];omega
        · rw [hx he];omega
  unfold HD
  split
  · split
    · exact h0
    · split
      · exact hm
      · exact h0
  · rename_i e r h
    rw [h] at hmem
    split
    · exact hmem _ (FD f r e)
    · exact hmem _ (FD f r e)
theorem Ry {a b p:Pt} (ha:BD a<=6) (hb:BD b<=6) (hp:BD p<=126):Sz (MV a b p)<=346:=by
  unfold MV
  have k1:=Bi p a
  have k2:=Bi b a
  have k3:=GR (p-a) (b-a)
  have k4:=GR (b-a) (b-a)
  have k5:=GQ (Cq (p-a) (b-a)) (Cq (b-a) (b-a))
  omega
theorem So (q:Rat):q/((2:Int):Rat)=q*(1/2):=by
  rw [Rat.div_def,show (((2:Int):Rat))⁻¹=1/2 from by decide +kernel]
theorem ai {a b:Pt} {s t:Rat} (ha:BD a<=6) (hb:BD b<=6) (hs:Sz s<=346) (ht:Sz t<=346):BD (Ez a b ((s+t)*(1/2)))<=4000:=by
  unfold Ez
  have k1:=DY s t
  have k2:=XU
  have k3:=CU (s+t) (1/2)
  have k4:=Bi b a
  have k5:=Ef (b-a) ((s+t)*(1/2))
  have k6:=GP a (Bg (b-a) ((s+t)*(1/2)))
  omega
theorem Ts {rs:List FS} {n:Nat} (h:∀r∈rs,Sz r.q<=n) {j:Nat} (hj:j<rs.length):Sz (rs.getD j Cl).q<=n:=by
  rw [List.getD,xN hj];exact h _ (List.getElem_mem hj)
@[reducible] def Pp (r:FS):List Value:=fxL r.f
theorem CL (r:FS):(Pp r).length=3:=rfl
theorem QM {x0:Rat} (f0:FX x0):Instr.fill (λi=>some (i*3,3)) ((Array.range (1*3)).map ((Value.agg (#[(qa false),jj,jj])).cells[·%(Value.agg (#[(qa false),jj,jj])).cells.size]!)) [(0,.agg (fxL f0).toArray)]=some (fxL f0).toArray:=by kernel_rfl
def I9 (rs:List FS):List As:=rs.flatMap λr=>CT.rows r.f
theorem aF {rs:List FS} {y:As} (h:y∈I9 rs):y.ro=true:=by
  obtain ⟨r,_,h⟩:=List.mem_flatMap.1 h
  exact CT.ro r.f y h
theorem Oy (rs:List FS) (r:FS):I9 (rs++[r])=I9 rs++CT.rows r.f:=by simp [I9]
theorem Qj (r:FS) (A:List As) (rs:List FS) (R:List As):(CT.rows r.f++(A++(I9 rs++R))).Perm (A++(I9 (rs++[r])++R)):=by
  rw [Oy,List.append_assoc]
  exact (List.perm_append_comm_assoc _ _ _).trans (List.Perm.append_left A (List.perm_append_comm_assoc _ _ _))
section
variable {w0:Av} {S:Nat->Prop} {L:List As} {w:World} {rs:List FS}
theorem eQ (hw:A6 w0 w L) (hs:∀y∈I9 rs,y∈L) {i:Nat} (hi:i<rs.length) (ha:∀y∈I9 rs,∀b,y.foot=some b->Nw w0 S b):Ro (SL w0 S L) w (rs.getD i Cl).f:=λy hy=>by
  have hm:y∈I9 rs:=List.mem_flatMap.2 ⟨rs[i],List.getElem_mem hi,by rw [List.getD,xN hi] at hy;exact hy⟩
  exact ⟨λb e=>(hw.2.1 y (hs y hm) b e).2,λb e=>⟨⟨y,hs y hm,aF hm,e⟩,ha y hm b e⟩⟩
theorem Jt {R:List As} (hw:A6 w0 w L) (k:Nat) (hk:L.drop k=I9 rs++R) {i:Nat} (hi:i<rs.length) (ha:∀y∈I9 rs,∀b,y.foot=some b->Nw w0 S b):Ro (SL w0 S L) w (rs.getD i Cl).f :=
  eQ hw (λy hy=>List.mem_of_mem_drop (i:=k) (by rw [hk];exact xF _ hy)) hi ha
theorem O1 {ps:List Pt} {ts:List T3} {ss:List Z3} {x:OG ps ts ss} {T:List As} (hw:A6 w0 w L) (i:Nat) (hi:(L.drop i).take 3=[x.a.row,x.b.row,x.c.row]) (k:Nat) (hk:L.drop k=T++DE x.rs) (ha:At w0 S x):Ro (SL w0 S L) w x :=
  X9 hw i hi (λy hy=>List.mem_of_mem_drop (i:=k) (by rw [hk];exact xG _ hy)) ha
theorem AtF.snoc {r:FS} (h:∀y∈I9 rs,∀b,y.foot=some b->Nw w0 S b) (k:At w0 S r.f):∀y∈I9 (rs++[r]),∀b,y.foot=some b->Nw w0 S b:=λy hy=>by
  rw [Oy] at hy
  rcases List.mem_append.1 hy with hy|hy
  · exact h y hy
  · exact k y hy
end
theorem Js {rs:List FS} {l:List Rat} (h:rs.map (·.q)=l) {i:Nat} (hi:i<rs.length):(rs.getD i Cl).q=l.getD i 0:=by
  rw [<-h];simp [hi]
def UF (l:List Rat) (i:Nat):Rat:=L7 (l.getD 0 0) ((l.drop 1).take i)
def UG (l:List Rat) (i:Nat):Rat:=L8 (l.getD 0 0) ((l.drop 1).take i)
theorem K9:∀(l:List Rat) (m e:Rat),L7 m (l++[e])=if BK e (L7 m l)<0 then e else L7 m l
  | [],m,e=>rfl
  | x::r,m,e=>by
    show L7 (if BK x m<0 then x else m) (r++[e])=_
    rw [K9 r];rfl
theorem LD:∀(l:List Rat) (m e:Rat),L8 m (l++[e])=if 0<BK e (L8 m l) then e else L8 m l
  | [],m,e=>rfl
  | x::r,m,e=>by
    show L8 (if 0<BK x m then x else m) (r++[e])=_
    rw [LD r];rfl
section
variable {l:List Rat} {i:Nat} {x:Rat}
theorem GZ (h:i+1<l.length):(l.drop 1).take (i+1)=(l.drop 1).take i++[l.getD (i+1) 0]:=by
  rw [Fe (d:=0) (by rw [List.length_drop];omega)]
  simp [List.getD,Nat.add_comm]
theorem cO (h:i+1<l.length) (k:x=UF l i) (hf:BK (l.getD (i+1) 0) x<0):l.getD (i+1) 0=UF l (i+1):=by
  unfold UF at *;rw [GZ h,K9,<-k,if_pos hf]
theorem cM (h:i+1<l.length) (k:x=UF l i) (hf:¬BK (l.getD (i+1) 0) x<0):x=UF l (i+1):=by
  unfold UF at *;rw [GZ h,K9,<-k,if_neg hf]
theorem cT (h:i+1<l.length) (k:x=UG l i) (hf:0<BK (l.getD (i+1) 0) x):l.getD (i+1) 0=UG l (i+1):=by
  unfold UG at *;rw [GZ h,LD,<-k,if_pos hf]
theorem cS (h:i+1<l.length) (k:x=UG l i) (hf:¬0<BK (l.getD (i+1) 0) x):x=UG l (i+1):=by
  unfold UG at *;rw [GZ h,LD,<-k,if_neg hf]
end
theorem cn {f g:Pt->Pt->Bool} {A B C a b:Pt} {l:List Rat} {n:Nat} (h:ID f g A B C a b=l) (hn:n+1=l.length):R5 f g A B C a b=(UF l n,UG l n,decide (B3 A B C (Ez a b ((UF l n+UG l n)*(1/2)))=1)):=by
  cases l with
  | nil=>cases hn
  | cons x r =>
    rw [HT h]
    have e1:UF (x::r) n=L7 x r:=by unfold UF;rw [List.drop_one,List.tail_cons,List.take_of_length_le (by simp at hn;omega)];rfl
    have e2:UG (x::r) n=L8 x r:=by unfold UG;rw [List.drop_one,List.tail_cons,List.take_of_length_le (by simp at hn;omega)];rfl
    rw [e1,e2]
def aB (f g:Pt->Pt->Bool) (ps:List Pt) (T:T3) (a b:Pt) (i:Nat):List Rat:=UE f g a b (BJ ps (IL T i)) (BJ ps (IL T ((i+1)%3)))
def Rh (f g:Pt->Pt->Bool) (ps:List Pt) (T:T3) (a b:Pt):Nat->List Rat
  | 0=>[]
  | n+1=>aB f g ps T a b (2-n)++Rh f g ps T a b n
def cj (A B C a b:Pt):List Rat:=(if 0<B3 A B C a then [0] else [])++(if 0<B3 A B C b then [1] else [])
section
variable {f g:Pt->Pt->Bool} {ps:List Pt} {T:T3} {a b:Pt} {l:List Rat} {i:Nat}
theorem ah:cj (BJ ps T.1) (BJ ps T.2.1) (BJ ps T.2.2) a b++Rh f g ps T a b 3=ID f g (BJ ps T.1) (BJ ps T.2.1) (BJ ps T.2.2) a b:=by
  unfold cj ID Rh Rh Rh Rh aB
  rw [List.append_assoc]
  simp only [List.append_nil]
  rfl
theorem Oq {E:List Rat} (h:i<3) (k:l++Rh f g ps T a b (3-i)=E):(l++aB f g ps T a b i)++Rh f g ps T a b (3-(i+1))=E:=by
  rw [<-k,show 3-i=(3-(i+1))+1 by omega,Rh,show 2-(3-(i+1))=i by omega,List.append_assoc]
def Uw (ps:List Pt) (T:T3) (a b:Pt) (i:Nat):Nat×Pt:=HD DS DT a b (BJ ps (IL T i)) (BJ ps (IL T ((i+1)%3)))
theorem br {E:List Rat} (h:i<3) (k:l++Rh DS DT ps T a b (3-i)=E) (h1:(Uw ps T a b i).1=1):(l++[MV a b (Uw ps T a b i).2])++Rh DS DT ps T a b (3-(i+1))=E:=by
  have e:aB DS DT ps T a b i=[MV a b (Uw ps T a b i).2]:=by unfold aB UE;exact if_pos h1
  rw [<-e];exact Oq h k
theorem bq {E:List Rat} (h:i<3) (k:l++Rh DS DT ps T a b (3-i)=E) (h1:¬(Uw ps T a b i).1=1):l++Rh DS DT ps T a b (3-(i+1))=E:=by
  have e:aB DS DT ps T a b i=[]:=by unfold aB UE;exact if_neg h1
  rw [<-List.append_nil l,<-e];exact Oq h k
end
def nerF (d:Nat->Rat):Nat->Int×Rat
  | 0=>(-1,0)
  | i+1=>if (nerF d i).1 = -1\/BK (d i) (nerF d i).2<0 then ((i:Int),d i) else nerF d i
theorem Vm {d:Nat->Rat} {i:Nat} {b:Int} {l:Rat} (h:(b,l)=nerF d i) (k:b = -1\/BK (d i) l<0):((i:Int),d i)=nerF d (i+1):=by
  unfold nerF;rw [<-h,if_pos k]
theorem Vl {d:Nat->Rat} {i:Nat} {b:Int} {l:Rat} (h:(b,l)=nerF d i) (k:¬(b = -1\/BK (d i) l<0)):(b,l)=nerF d (i+1):=by
  unfold nerF;rw [<-h,if_neg k]
def NrI (d:Nat->Rat) (i:Nat) (b:Int):Prop:=(b = -1/\i=0)\/∃j:Nat,j<i/\b=(j:Int)/\nerF d i=((j:Int),d j)
section
variable {d:Nat->Rat} {i:Nat} {b:Int}
theorem ce:NrI d 0 (-1):=.inl ⟨rfl,rfl⟩
theorem YQ (h:NrI d i b):(nerF d i).1=b:=by
  rcases h with ⟨rfl,rfl⟩|⟨j,_,rfl,h⟩
  · rfl
  · rw [h]
theorem aW (h:NrI d i b) (h0:¬b<0):b.toNat<i:=by
  rcases h with ⟨rfl,rfl⟩|⟨j,h1,rfl,h⟩
  · exact absurd jY h0
  · simpa using h1
theorem YR (h:NrI d i b) (h0:b<0):NrI d (i+1) (i:Int):=by
  rcases h with ⟨rfl,rfl⟩|⟨j,h1,rfl,h⟩
  · exact .inr ⟨0,Nat.lt_succ_self 0,rfl,rfl⟩
  · omega
theorem cg (h:NrI d i b) (h0:¬b<0) (hc:BK (d i) (d b.toNat)<0):NrI d (i+1) (i:Int):=by
  rcases h with ⟨rfl,rfl⟩|⟨j,h1,rfl,h⟩
  · exact absurd jY h0
  · refine .inr ⟨i,Nat.lt_succ_self i,rfl,?_⟩
    rw [Int.toNat_natCast] at hc
    exact (Vm h.symm (.inr hc)).symm
theorem cf (h:NrI d i b) (h0:¬b<0) (hc:¬BK (d i) (d b.toNat)<0):NrI d (i+1) b:=by
  rcases h with ⟨rfl,rfl⟩|⟨j,h1,rfl,h⟩
  · exact absurd jY h0
  · rw [Int.toNat_natCast] at hc
    refine .inr ⟨j,Z,rfl,?_⟩
    exact (Vl h.symm (λk=>k.elim (λe=>by omega) hc)).symm
end
def Oo (ps:List Pt) (q:Pt) (k:Nat):Rat:=Cq (q-BJ ps k) (q-BJ ps k)
def Z_ (ps:List Pt) (q:Pt) (k:Nat):Rat:=Cq (BJ ps k-q) (BJ ps k-q)
theorem aA (ps:List Pt) (q:Pt):Z_ ps q=Oo ps q:=by
  funext k
  unfold Z_ Oo
  simp only [Cq,G2,G3]
  grind
end
section
structure C7 where
  t:Nat
  u:FS
  v:FS
@[reducible] def CO (r:C7):List Value:=vN r.t::(fxL r.u.f++fxL r.v.f)
theorem BV (r:C7):(CO r).length=7:=rfl
theorem Eu (r:C7):((CO r).all λu=>u.oneCell')=true:=rfl
def C7.pc (r:C7):Pc:=⟨r.t,r.u.q,r.v.q⟩
def EH:C7:=⟨0,Cl,Cl⟩
def LN (r:C7):List As:=CT.rows r.u.f++CT.rows r.v.f
def Cj (rs:List C7):List As:=rs.flatMap LN
theorem Nr {rs:List C7} {y:As} (h:y∈Cj rs):y.ro=true:=by
  obtain ⟨r,_,h⟩:=List.mem_flatMap.1 h
  rcases List.mem_append.1 h with h|h
  · exact CT.ro r.u.f y h
  · exact CT.ro r.v.f y h
def DI (r:C7) (rs:List C7) (k:Nat):List C7:=rs.take k++r::rs.drop k
theorem DR {r:C7} {rs:List C7} {k:Nat}:(DI r rs k).length=rs.length+1:=by
  unfold DI
  rw [xJ,List.length_cons,List.length_take,List.length_drop];omega
theorem In (r:C7) (rs:List C7) (k:Nat):(LN r++Cj rs).Perm (Cj (DI r rs k)):=by
  have e:Cj rs=Cj (rs.take k)++Cj (rs.drop k):=by unfold Cj;rw [<-List.flatMap_append,List.take_append_drop]
  have e2:Cj (DI r rs k)=Cj (rs.take k)++(LN r++Cj (rs.drop k)):=by unfold DI Cj;rw [List.flatMap_append,List.flatMap_cons]
  rw [e,e2]
  exact List.perm_append_comm_assoc _ _ _
theorem Yd (r:C7) (A:List As) (rs:List C7) (k:Nat) (R:List As):(LN r++(A++(Cj rs++R))).Perm (A++(Cj (DI r rs k)++R)):=by
  refine (List.perm_append_comm_assoc _ _ _).trans (List.Perm.append_left A ?_)
  rw [<-List.append_assoc]
  exact (In r rs k).append_right R
theorem RO {w0:Av} {S:Nat->Prop} {r:C7} {rs:List C7} {k:Nat} (h:∀y∈Cj rs,∀b,y.foot=some b->Nw w0 S b) (h1:∀y∈LN r,∀b,y.foot=some b->Nw w0 S b):∀y∈Cj (DI r rs k),∀b,y.foot=some b->Nw w0 S b:=λy hy=>by
  rcases List.mem_append.1 ((In r rs k).mem_iff.2 hy) with hy|hy
  · exact h1 y hy
  · exact h y hy
theorem KN {r:C7} {rs:List C7} {l:List Pc} {k:Nat} (h:rs.map (·.pc)=l) (hk:k=NN l r.u.q l.length):(DI r rs k).map (·.pc)=J7 r.pc l:=by
  unfold DI J7
  rw [List.map_append,List.map_cons,List.map_take,List.map_drop,h,hk];rfl
theorem Zv {l:List Pc} {lo:Rat} {n:Nat} (h:0<n) (h1:0<BK (l.getD (n-1) ac).lo lo):NN l lo n=NN l lo (n-1):=by
  cases n with
  | zero=>exact absurd h (Nat.lt_irrefl 0)
  | succ n=>rw [Nat.add_sub_cancel] at *;rw [NN,if_pos h1]
theorem Zw {l:List Pc} {lo:Rat} {n:Nat} (h:0<n) (h1:¬0<BK (l.getD (n-1) ac).lo lo):NN l lo n=n:=by
  cases n with
  | zero=>exact absurd h (Nat.lt_irrefl 0)
  | succ n=>rw [Nat.add_sub_cancel] at h1;rw [NN,if_neg h1]
theorem Qi {rs:List C7} {l:List Pc} (h:rs.map (·.pc)=l) {i:Nat} (hi:i<rs.length):(rs.getD i EH).pc=l.getD i ac:=by
  rw [<-h];simp [hi]
section
variable {w0:Av} {S:Nat->Prop} {L R:List As} {w:World} {rs:List C7}
theorem VO (hw:A6 w0 w L) (hs:∀y∈Cj rs,y∈L) {i:Nat} (hi:i<rs.length) (ha:∀y∈Cj rs,∀b,y.foot=some b->Nw w0 S b):∀y∈LN (rs.getD i EH),Holds w y/\∀b,y.foot=some b->SL w0 S L b:=λy hy=>by
  have hm:y∈Cj rs:=List.mem_flatMap.2 ⟨rs[i],List.getElem_mem hi,by rw [List.getD,xN hi] at hy;exact hy⟩
  exact ⟨λb e=>(hw.2.1 y (hs y hm) b e).2,λb e=>⟨⟨y,hs y hm,Nr hm,e⟩,ha y hm b e⟩⟩
theorem dM {n:Nat} (h:∀r∈rs,Sz r.u.q<=n/\Sz r.v.q<=n) {i:Nat} (hi:i<rs.length):Sz (rs.getD i EH).u.q<=n/\Sz (rs.getD i EH).v.q<=n:=by
  rw [List.getD,xN hi];exact h _ (List.getElem_mem hi)
theorem VQ {r s:C7} {k:Nat} (h:s∈DI r rs k):s=r\/s∈rs:=by
  unfold DI at h
  rcases List.mem_append.1 h with h|h
  · exact .inr (List.mem_of_mem_take h)
  · rcases xL.1 h with h|h
    · exact .inl h
    · exact .inr (List.mem_of_mem_drop h)
end
section
variable {w0:Av} {L:List As} {q:Option Addr} {T:TypeId} {z n c:Nat} {cs:List Value} {α:Type} {enc:α->List Value} {xs:List α}
theorem OZ {w:World} {i j:Nat} {v:Value} (hw:A6 w0 w L) (hi:L[i]?=some (rowW q T z n c cs)) (ho:OwnOk q n c) (hl:cs.length=n*z) (hn:0<n) (hj:cs[j]?=some v):w.cell? ⟨pB q,pO q+j,none⟩=some v:=by
  obtain ⟨o,h1,h2⟩:=hw.holds hi (pB q) (by cases q with|none=>exact absurd rfl (ho.row.ne hn)|some a=>rfl)
  exact GO.cell (DK ho hl h2) h1 hj
theorem LX (i:Nat):rowsL enc xs=rowsL enc (xs.take i)++rowsL enc (xs.drop i):=by rw [<-BM,List.take_append_drop]
theorem SM {k i:Nat} (hlen:∀x,(enc x).length=z) (hi:L[k]?=some (rowW q T z xs.length c (rowsL enc xs))) (ho:OwnOk q xs.length c) (hle:i<=xs.length):XT w0 L q i (rowsL enc (xs.take i)):=λw hw hm=>by
  refine ⟨_,ho.row.some Z,λj u hu=>?_⟩
  rw [Addr.add_lit]
  refine OZ hw hi ho (AV hlen _) Z ?_
  rw [LX i,List.getElem?_append_left (List.getElem?_eq_some_iff.1 hu).1];exact hu
theorem SK {k i:Nat} (hlen:∀x,(enc x).length=z) (hi:L[k]?=some (rowW q T z xs.length c (rowsL enc xs))) (ho:OwnOk q xs.length c) (hle:i<=xs.length):XT w0 L (XE q i c z) (xs.length-i) (rowsL enc (xs.drop i)):=λw hw hm=>by
  have hc:=ho.le
  have hq:=ho.row.some Z
  refine ⟨⟨pB q,pO q+i*z,none⟩,?_,λj u hu=>?_⟩
  · unfold XE
    rw [if_neg Z]
    conv=>lhs;rw [hq]
    simp [Addr.add_lit,pB,pO]
  · rw [Addr.add_lit,Nat.add_assoc]
    refine OZ hw hi ho (AV hlen _) Z ?_
    have e:(rowsL enc (xs.take i)).length=i*z:=by rw [AV hlen,List.length_take,Nat.min_eq_left hle]
    rw [LX i,List.getElem?_append_right (by rw [e];exact Nat.le_add_right _ _),e,Nat.add_sub_cancel_left];exact hu
end
section
variable {f g:Pt->Pt->Bool} {ps:List Pt} {ts:List (Tq3)} {a b:Pt} {t:Nat}
theorem Tb (h:(Ip f g ps a b (ts.getD t (0,0,0))).2.2=false):Fb f g ps ts a b (t+1)=Fb f g ps ts a b t:=by
  rw [Fb,if_neg (λk=>by rw [h] at k;cases k.1)]
theorem Tc (h:BK (Ip f g ps a b (ts.getD t (0,0,0))).1 (Ip f g ps a b (ts.getD t (0,0,0))).2.1=0):Fb f g ps ts a b (t+1)=Fb f g ps ts a b t:=by
  rw [Fb,if_neg (λk=>k.2 (IU.1 h))]
theorem KU (h:(Ip f g ps a b (ts.getD t (0,0,0))).2.2=true) (h2:¬BK (Ip f g ps a b (ts.getD t (0,0,0))).1 (Ip f g ps a b (ts.getD t (0,0,0))).2.1=0):Fb f g ps ts a b (t+1)=J7 ⟨t,(Ip f g ps a b (ts.getD t (0,0,0))).1,(Ip f g ps a b (ts.getD t (0,0,0))).2.1⟩ (Fb f g ps ts a b t):=by
  rw [Fb,if_pos ⟨h,λk=>h2 (IU.2 k)⟩]
end
structure UD (t:Nat) (s:Rat×Rat×Bool) where
  tri:Nat
  ht:s.2.2=true->tri=t
  u:FX s.1
  v:FX s.2.1
instance {t:Nat} {s:Rat×Rat×Bool}:CT (UD t s):=⟨λr=>.tuple #[aG (vN r.tri::(fxL r.u++fxL r.v)),.bool s.2.2],λr=>CT.rows r.u++CT.rows r.v,λr y hy=>(List.mem_append.1 hy).elim (CT.ro r.u y) (CT.ro r.v y)⟩
theorem c9 {S:Nat->Prop} {w:World} {t:Nat} {s:Rat×Rat×Bool} {r:UD t s} (h1:Ro S w r.u) (h2:Ro S w r.v):Ro S w r:=λy hy=>(List.mem_append.1 hy).elim (h1 y) (h2 y)
theorem UD.cast {t:Nat} {s s':Rat×Rat×Bool} {S:Nat->Prop} {W w:World} {e:Ending} (hn:s=s') (h:Ai (UD t s) S W e w):Ai (UD t s') S W e w:=by subst hn;exact h
structure UU (l:List Pc) where
  rs:List C7
  e:rs.map (·.pc)=l
  a:RX (rowsL CO rs) rs.length
theorem ay {l:List Pc} {x:UU l} {y:As} (hy:y∈[x.a.row]++Cj x.rs):y.ro=true:=by
  rcases List.mem_append.1 hy with hy|hy
  · rcases xM.1 hy with rfl;rfl
  · exact Nr hy
instance {l:List Pc}:CT (UU l):=⟨λx=>x.a.val,λx=>[x.a.row]++Cj x.rs,λx y hy=>ay hy⟩
theorem UU.len {l:List Pc} (x:UU l):x.rs.length=l.length:=by
  have h:=congrArg List.length x.e
  rwa [xI] at h
section
variable {S:Nat->Prop} {W w:World} {A R:List As} {rs:List C7} {l:List Pc}
theorem au (hw:A6 ⟨W,none⟩ w (A++(Cj rs++R))) (i:Nat) {p:Option Addr} {T n c:Nat} (h1:A[i]?=some (rowW p T 7 n c (rowsL CO rs))) (o1:OwnOk p n c) (e1:n=rs.length) (he:rs.map (·.pc)=l) (hat:∀y∈Cj rs,∀b,y.foot=some b->Nw ⟨W,none⟩ S b)
    {v:Value} (hv:v=.slice p n c):Ai (UU l) S W (.returned v) w:=by
  subst e1
  have up:(A++(Cj rs++R))[i]?=some (rowW p T 7 rs.length c (rowsL CO rs)):=by rw [List.getElem?_append_left (List.getElem?_eq_some_iff.1 h1).1];exact h1
  refine ⟨⟨rs,he,⟨p,c,o1.row⟩⟩,by rw [hv];rfl,hw.out,λy hy=>?_⟩
  have hy:y∈[AI p (rowsL CO rs)]++Cj rs:=hy
  rcases List.mem_append.1 hy with hy|hy
  · rcases xM.1 hy with rfl
    exact Fq hw i up o1 (AV BV _)
  · exact ⟨λb e=>(hw.2.1 _ (xG _ (xF _ hy)) b e).2,hat y hy⟩
theorem Vn (hb:E8 W.heap.size W w) {v:Value} (hv:v=.slice none 0 0):Ai (UU []) S W (.returned v) w :=
  ⟨⟨[],rfl,⟨none,0,OwnOk.none.row⟩⟩,by rw [hv];rfl,hb,λy hy=>by
    have hy:y∈[AI none (rowsL CO [])]++Cj []:=hy
    rcases List.mem_append.1 hy with hy|hy
    · rcases xM.1 hy with rfl
      exact ⟨(λb e=>by cases e),(λb e=>by cases e)⟩
    · cases hy⟩
end
end
section
def nZ (N:Nat) (zt:List Z3):Nat:=if Du N zt=true then zt.length else 0
theorem Vi {N t:Nat} {zt:List Z3} (h:t<nZ N zt):Du N zt=true/\t<(zt.map natT).length/\t<zt.length:=by
  unfold nZ at h
  split at h
  · exact ⟨by assumption,by rw [xI];exact h,h⟩
  · omega
theorem Vh (N:Nat) (zt:List Z3):nZ N zt<=zt.length:=by unfold nZ;split<;>omega
def fdA (ps:List Pt) (zt:List Z3) (q:Pt):Int×Nat:=if Du ps.length zt=true then findAt ps q (zt.map natT) 0 else (-1,0)
theorem Xy {ps:List Pt} {q:Pt} {zt:List Z3} (h:findAt ps q (zt.map natT) 0=findAt ps q ((zt.map natT).drop (nZ ps.length zt)) (nZ ps.length zt)):fdA ps zt q=(-1,0):=by
  unfold fdA
  split
  · rename_i k
    rw [h,nZ,if_pos k,List.drop_of_length_le (by rw [xI];exact Nat.le_refl _)]
    rfl
  · rfl
theorem Xz {ps:List Pt} {q:Pt} {zt:List Z3} {r:Int×Nat} (hn:Du ps.length zt=true) (h:findAt ps q (zt.map natT) 0=r):fdA ps zt q=r:=by
  rw [fdA,if_pos hn,h]
def JX (ps:List Pt) (zt:List Z3) (a b:Pt):List Pc:=if a=b then [] else WG ps (zt.map natT) a b (nZ ps.length zt)
theorem Yq {ps:List Pt} {zt:List Z3} {a:Pt}:JX ps zt a a=[]:=if_pos rfl
theorem Yp {ps:List Pt} {zt:List Z3} {a b:Pt} (h:Du ps.length zt=false):JX ps zt a b=[]:=by
  unfold JX
  split
  · rfl
  · rw [nZ,if_neg (by rw [h];decide)];rfl
theorem Ru:∀(l:List Rat) (m:Rat),L7 m l=m\/L7 m l∈l
  | [],m=>.inl rfl
  | e::r,m=>by
    rcases Ru r (if BK e m<0 then e else m) with h|h
    · have h1:L7 m (e::r)=if BK e m<0 then e else m:=h
      rw [h1]
      split
      · exact .inr List.mem_cons_self
      · exact .inl O
    · exact .inr (List.mem_cons_of_mem _ h)
theorem Rv:∀(l:List Rat) (m:Rat),L8 m l=m\/L8 m l∈l
  | [],m=>.inl rfl
  | e::r,m=>by
    rcases Rv r (if 0<BK e m then e else m) with h|h
    · have h1:L8 m (e::r)=if 0<BK e m then e else m:=h
      rw [h1]
      split
      · exact .inr List.mem_cons_self
      · exact .inl O
    · exact .inr (List.mem_cons_of_mem _ h)
section
variable {f g:Pt->Pt->Bool} {A B C a b:Pt}
theorem QE (hA:BD A<=6) (hB:BD B<=6) (ha:BD a<=6) (hb:BD b<=6):∀q∈UE f g a b A B,Sz q<=346:=λq h=>by
  unfold UE at h
  split at h
  · rw [xM.1 h];exact Ry ha hb (NW ha hb hA hB)
  · cases h
theorem ag (hA:BD A<=6) (hB:BD B<=6) (hC:BD C<=6) (ha:BD a<=6) (hb:BD b<=6):∀q∈ID f g A B C a b,Sz q<=346:=λq h=>by
  have h0:Sz (0:Rat)<=346:=by decide +kernel
  have h1:Sz (1:Rat)<=346:=by decide +kernel
  unfold ID at h
  rcases List.mem_append.1 h with h|h
  · split at h
    · rw [xM.1 h];exact h0
    · cases h
  · rcases List.mem_append.1 h with h|h
    · split at h
      · rw [xM.1 h];exact h1
      · cases h
    · rcases List.mem_append.1 h with h|h
      · exact QE hA hB ha hb q h
      · rcases List.mem_append.1 h with h|h
        · exact QE hB hC ha hb q h
        · exact QE hC hA ha hb q h
theorem aj (hA:BD A<=6) (hB:BD B<=6) (hC:BD C<=6) (ha:BD a<=6) (hb:BD b<=6):Sz (R5 f g A B C a b).1<=346/\Sz (R5 f g A B C a b).2.1<=346:=by
  have h:=ag (f:=f) (g:=g) hA hB hC ha hb
  cases hl:ID f g A B C a b with
  | nil=>rw [KS hl];constructor<;>decide +kernel
  | cons x r =>
    rw [HT hl]
    rw [hl] at h
    constructor
    · show Sz (L7 x r)<=346
      rcases Ru r x with e|e
      · rw [e];exact h _ List.mem_cons_self
      · exact h _ (List.mem_cons_of_mem _ e)
    · show Sz (L8 x r)<=346
      rcases Rv r x with e|e
      · rw [e];exact h _ List.mem_cons_self
      · exact h _ (List.mem_cons_of_mem _ e)
end
theorem ak {f g:Pt->Pt->Bool} {ps:List Pt} {a b:Pt} {T:Tq3} (hz:∀k,BD (BJ ps k)<=6) (ha:BD a<=6) (hb:BD b<=6):Sz (Ip f g ps a b T).1<=346/\Sz (Ip f g ps a b T).2.1<=346:=aj (hz _) (hz _) (hz _) ha hb
section
variable {S:Nat->Prop} {w:World} {t K:Nat} {s:Rat×Rat×Bool} {r:UD t s} {w0:Av} {L R:List As} {rs:List C7} {q:C7}
theorem c_ (h:Ro S w r):Ro S w r.u:=λy hy=>h y (xF _ hy)
theorem dB (h:Ro S w r):Ro S w r.v:=λy hy=>h y (xG _ hy)
theorem OT (h:At w0 S r):∀y∈LN (⟨t,⟨_,r.u⟩,⟨_,r.v⟩⟩:C7),∀b,y.foot=some b->Nw w0 S b:=λy hy=>h y hy
theorem b_ (hw:A6 w0 w L) (k:Nat) (hk:L.drop k=Cj (DI q rs K)++R) {i:Nat} (hi:i<rs.length) (ha:∀y∈Cj rs,∀b,y.foot=some b->Nw w0 S b):∀y∈LN (rs.getD i EH),Holds w y/\∀b,y.foot=some b->SL w0 S L b :=
  VO hw (λy hy=>List.mem_of_mem_drop (i:=k) (by rw [hk];exact xF _ ((In q rs K).mem_iff.1 (xG _ hy)))) hi ha
theorem aL (hw:A6 w0 w L) (k:Nat) (hk:L.drop k=Cj (DI q rs K)++R) {i:Nat} (hi:i<rs.length) (ha:∀y∈Cj rs,∀b,y.foot=some b->Nw w0 S b):Ro (SL w0 S L) w (rs.getD i EH).u.f:=λy hy=>b_ hw k hk hi ha y (xF _ hy)
theorem cA (hw:A6 w0 w L) (k:Nat) (hk:L.drop k=Cj (DI q rs K)++R) (ha:∀y∈LN q,∀b,y.foot=some b->Nw w0 S b):∀y∈LN q,Holds w y/\∀b,y.foot=some b->SL w0 S L b:=λy hy=>by
  have hm:y∈L:=List.mem_of_mem_drop (i:=k) (by rw [hk];exact xF _ ((In q rs K).mem_iff.1 (xF _ hy)))
  have hr:y.ro=true:=Nr (rs:=[q]) (by simpa [Cj] using hy)
  exact ⟨λb e=>(hw.2.1 y hm b e).2,λb e=>⟨⟨y,hm,hr,e⟩,ha y hy b e⟩⟩
theorem aM (hw:A6 w0 w L) (k:Nat) (hk:L.drop k=Cj (DI q rs K)++R) (ha:∀y∈LN q,∀b,y.foot=some b->Nw w0 S b):Ro (SL w0 S L) w q.u.f:=λy hy=>cA hw k hk ha y (xF _ hy)
theorem IZ (q:C7) (rs:List C7) (K:Nat):rowsL CO (rs.take K++[q])++rowsL CO (rs.drop K)=rowsL CO (DI q rs K):=by
  rw [<-BM,List.append_assoc];rfl
theorem Nl {n:Nat} (h:∀r∈rs,Sz r.u.q<=n/\Sz r.v.q<=n) (hq:Sz q.u.q<=n/\Sz q.v.q<=n):∀r∈DI q rs K,Sz r.u.q<=n/\Sz r.v.q<=n:=λr hr=>by
  rcases VQ hr with rfl|hr
  · exact hq
  · exact h r hr
end
section
variable {P:Program} {ops:Array Oper} {rest:List Oper} {Q:Exit->Act->World->Prop} {n d z m c c2:Nat} {F:List (Nat×Value)} {w0:Av} {L:List As} {t ty T:TypeId} {p:String} {af:Array Edge} {x s:Operand} {cs cs2 news:List Value} {q q2:Option Addr}
theorem yb (i:Nat) {n' bytes N:Nat} (ht:ElemT P t T z bytes) (hs:evF F s=some (.slice q n' c)) (hi:L[i]?=some (rowW q T z n' c cs)) (ho:OwnOk q n' c) (hl:cs.length=n'*z)
    (hx:evF F x=some (.slice q2 m c2)) (hsrc:XT w0 L q2 m news) (hnl:news.length=m*z) (h1:(news.all λu=>u.oneCell')=true) (h63:N<=maxLen) (hbytes:N*bytes<=140737488355328) (hN:n'+m=N) (hcs:cs++news=cs2) (hd:Nat.ble (d+1) n=true)
    (next:∀p' c',OwnOk p' N c'->AO P ops rest Q n ((d,.slice p' N c')::F) w0 (L.set i (rowW p' T z N c' cs2))) :
    AO P ops (⟨some d,.call { callee:=.builtin .append,args:=#[s,x],argTypes:=#[t,t] },ty,p,af,none⟩::rest) Q n F w0 L:=by
  subst hN;subst hcs
  exact yz i ht hs hi ho hl hx hsrc hnl h1 h63 hbytes hd next
end
def QU:List (Nat×Bool)->List Nat
  | (i,true)::r=>i::QU r
  | _=>[]
def Zz (l:List Oper) (e1:List (Nat×Bool)) (j:Nat) (e2:List (Nat×Bool)):Bool :=
  Df l [] none e1&&Df l [j] none (e1++e2)&&Df l (j::(e1.map (·.1))) (some j) e2&&NS l [j] (e1++e2)&&(match l[j]? with|some o=>o.after.all λe=>!Region.binds .any e||(QU e1).contains e.on|none=>false)&&Nat.beq (e1.length+e2.length+1) l.length&&Region.noSelect l.toArray
section
variable {P:Program} {ops:Array Oper} {Q:Exit->Act->World->Prop} {n:Nat} {w0:Av} {Lro L L':List As} {F F':List (Nat×Value)} {l:List Oper}
theorem Q9 (hsel:Region.noSelect l.toArray=true) (hQ:∀c a d v w,Q (.panic c) (a.put d v) w->Q (.panic c) a w) {j:Nat} {oj:Oper} (hoj:l[j]?=some oj) {e2:List (Nat×Bool)} {E:List Nat} (hE:Df l E (some j) e2=true) :
    ∀(es:List (Nat×Bool)) (D:List Nat) (p:Option Nat) (listed:Array Bool) (a:Act) (w:World) (F:List (Nat×Value)) (L:List As),
      Df l D p es=true->Df l (D++[j]) p (es++e2)=true->(∀x,x∈E↔x=j\/x∈D\/es.any (λe=>e.1 == x)=true)->Me l D listed->(∀e∈oj.after,Region.binds .any e=true->e.on∈D\/e.on∈QU es)->j ∉ D->(∀i,i<l.length->i=j\/i∈D\/(es++e2).any (λe=>e.1 == i)=true)->Wk Lro L->CP n a F->A6 w0 w L->G7 P l.toArray Q n w0 Lro j e2 es F L ->
      wpAnyH P .any l.toArray Q (λw=>A6 w0 w Lro) (es.length+e2.length+1) listed a w
  | [],D,p,listed,a,w,F,L,hc,hc2,hEm,hL,hjr,hjD,hall,hro,ha,hw,h=>by
    obtain ⟨o',ho',h⟩:=h
    have hat:l.toArray[j]?=some oj:=by simpa using hoj
    rw [hat] at ho';injection ho' with ho';subst ho'
    have hjl:j<l.length:=(List.getElem?_eq_some_iff.1 hoj).1
    have hp:∀e∈oj.after,Region.binds .any e=true->listed.getD e.on false=true:=λe he hb=>(hL.mem _).1 ((hjr e he hb).resolve_right (by simp [QU]))
    have hun:=hL.no hjD
    have hrd:j∈Region.ready .any l.toArray listed:=mem_ready.2 ⟨by rw [Ck (by rw [hL.size];exact hjl)];exact hun,oj,hat,hp⟩
    have hE2:Me l E (listed.setIfInBounds j true):=(hL.add hoj hp).congr λx=>by rw [hEm];simp
    rw [show ([]:List (Nat×Bool)).length+e2.length+1=e2.length+1 by simp]
    refine ⟨λh0=>absurd hrd (by rw [h0];exact List.not_mem_nil),λk hk=>?_⟩
    have hkj:k=j:=by
      obtain ⟨h0,ok,hok,_⟩:=mem_ready.1 hk
      have hkl:k<l.length:=by simpa using (Array.getElem?_eq_some_iff.1 hok).1
      rw [Ck (by rw [hL.size];exact hkl)] at h0
      rcases hall k hkl with h1|h1|h1
      · exact h1
      · rw [(hL.mem k).1 h1] at h0;cases h0
      · obtain ⟨e,he,rfl⟩:=GS (by simpa using h1)
        exact absurd hk (EQ hL.cl hE hun (λe he=>hL.no λhd=>(D9 hE e he).1 ((hEm _).2 (.inr (.inl hd)))) e he)
    subst hkj
    exact Hs hat (h a w ha hw) λF' L' a' w' h1 h2 h3 h4=>⟨h3 _ _ h2,IK hsel hQ e2 E (some k) _ a' w' F' L' hE hE2 (λi hi=>by
      rcases hall i hi with h5|h5|h5
      · exact .inl ((hEm i).2 (.inl h5))
      · exact .inl ((hEm i).2 (.inr (.inl h5)))
      · exact .inr (by simpa using h5)) h3 h1 h2 h4⟩
  | (i,true)::r,D,p,listed,a,w,F,L,hc,hc2,hEm,hL,hjr,hjD,hall,hro,ha,hw,h=>by
    obtain ⟨o,hg⟩:=DO hc
    obtain ⟨o2,hg2⟩:=DO hc2
    obtain ⟨o',d,v,ho',hd,hdn,hy,hn⟩:=h
    have hat:l.toArray[i]?=some o:=by simpa using hg.at_
    rw [hat] at ho';injection ho' with ho';subst ho'
    have hil:i<l.length:=(List.getElem?_eq_some_iff.1 hg.at_).1
    have hp:∀e∈o.after,Region.binds .any e=true->listed.getD e.on false=true:=λe he hb=>(hL.mem _).1 (hg.pre e he hb)
    have hun:=hL.no hg.nin
    have hrd:i∈Region.ready .any l.toArray listed:=mem_ready.2 ⟨by rw [Ck (by rw [hL.size];exact hil)];exact hun,o,hat,hp⟩
    have hyield:YieldsIf P l.toArray (λw=>A6 w0 w Lro) o v a:=by
      rcases hy with ⟨h1,h2⟩|⟨h1,h2⟩
      · exact .inl ⟨h1 a ha,λw hW=>h2 a w ha hW⟩
      · exact .inr ⟨h1 a ha,h2⟩
    have hij:i≠j:=λe=>hg2.nin (by simp [e])
    rw [show ((i,true)::r).length+e2.length+1=r.length+e2.length+1+1 by simp;omega]
    refine wpAnyH_first hat (Region.noSelect_spec hsel) (λc a w=>bt hQ c a o.dst v w) _ listed a w (HL hL hg.at_ (hg.fr O) hp) hrd hyield (hro _ _ hw) ?_
    refine Q9 hsel hQ hoj hE r (i::D) p _ _ w ((d,v)::F) L hg.tl hg2.tl (λx=>?_) (hL.add hg.at_ hp) (λe he hb=>by
      rcases hjr e he hb with h9|h9
      · exact .inl (List.mem_cons_of_mem _ h9)
      · rcases xL.1 (show e.on∈i::QU r from h9) with h8|h8
        · exact .inl (h8▸List.mem_cons_self)
        · exact .inr h8) (λhd=>(xL.1 hd).elim (λe=>hij e.symm) hjD) (λk hk=>?_) hro (by rw [hd];exact ha.put hdn) hw hn
    · rw [hEm];simp only [List.any_cons,xY,beq_iff_eq,xL]
      constructor
      · rintro (h|h|h|h)
        · exact .inl h
        · exact .inr (.inl (.inr h))
        · exact .inr (.inl (.inl h.symm))
        · exact .inr (.inr h)
      · rintro (h|(h|h)|h)
        · exact .inl h
        · exact .inr (.inr (.inl h.symm))
        · exact .inr (.inl h)
        · exact .inr (.inr (.inr h))
    · rcases hall k hk with h1|h1|h1
      · exact .inl h1
      · exact .inr (.inl (List.mem_cons_of_mem _ h1))
      · simp only [List.cons_append,List.any_cons,xY,beq_iff_eq] at h1
        rcases h1 with h1|h1
        · exact .inr (.inl (h1▸List.mem_cons_self))
        · exact .inr (.inr h1)
  | (i,false)::r,D,p,listed,a,w,F,L,hc,hc2,hEm,hL,hjr,hjD,hall,hro,ha,hw,h=>by
    obtain ⟨o,hg⟩:=DO hc
    obtain ⟨o2,hg2⟩:=DO hc2
    obtain ⟨⟨o',ho',h⟩,oj',hoj',hj⟩:=h
    have hat:l.toArray[i]?=some o:=by simpa using hg.at_
    rw [hat] at ho';injection ho' with ho';subst ho'
    have hatj:l.toArray[j]?=some oj:=by simpa using hoj
    rw [hatj] at hoj';injection hoj' with hoj';subst hoj'
    have hil:i<l.length:=(List.getElem?_eq_some_iff.1 hg.at_).1
    have hp:∀e∈o.after,Region.binds .any e=true->listed.getD e.on false=true:=λe he hb=>(hL.mem _).1 (hg.pre e he hb)
    have hpj:∀e∈oj.after,Region.binds .any e=true->listed.getD e.on false=true:=λe he hb=>(hL.mem _).1 ((hjr e he hb).resolve_right (by simp [QU]))
    have hun:=hL.no hg.nin
    have hrd:i∈Region.ready .any l.toArray listed:=mem_ready.2 ⟨by rw [Ck (by rw [hL.size];exact hil)];exact hun,o,hat,hp⟩
    have hij:i≠j:=λe=>hg2.nin (by simp [e])
    have hunj:=hL.no hjD
    rw [show ((i,false)::r).length+e2.length+1=r.length+e2.length+1+1 by simp;omega]
    refine ⟨λh0=>absurd hrd (by rw [h0];exact List.not_mem_nil),λk hk=>?_⟩
    have hki:k=i\/k=j:=by
      obtain ⟨h0,ok,hok,_⟩:=mem_ready.1 hk
      have hkl:k<l.length:=by simpa using (Array.getElem?_eq_some_iff.1 hok).1
      rw [Ck (by rw [hL.size];exact hkl)] at h0
      rcases hall k hkl with h1|h1|h1
      · exact .inr h1
      · rw [(hL.mem k).1 h1] at h0;cases h0
      · obtain ⟨e,he,rfl⟩:=GS h1
        rcases xL.1 (by simpa using he:e∈(i,false)::(r++e2)) with rfl|he2
        · exact .inl O
        · exact absurd hk (EQ hL.cl hg2.tl hun (λe he=>hL.no λhd=>(D9 hg2.tl e he).1 (List.mem_cons_of_mem _ (xF _ hd))) e he2)
    rcases hki with rfl|rfl
    · refine Hs hat (h a w ha hw) λF' L' a' w' h1 h2 h3 h4=>⟨h3 _ _ h2,Q9 hsel hQ hoj hE r (k::D) (some k) _ a' w' F' L' hg.tl hg2.tl (λx=>?_) (hL.add hg.at_ hp) (λe he hb=>.inl (List.mem_cons_of_mem _ ((hjr e he hb).resolve_right (by simp [QU])))) (λhd=>(xL.1 hd).elim (λe=>hij e.symm) hjD) (λm hm=>?_) h3 h1 h2 h4⟩
      · rw [hEm];simp only [List.any_cons,xY,beq_iff_eq,xL]
        constructor
        · rintro (h|h|h|h)
          · exact .inl h
          · exact .inr (.inl (.inr h))
          · exact .inr (.inl (.inl h.symm))
          · exact .inr (.inr h)
        · rintro (h|(h|h)|h)
          · exact .inl h
          · exact .inr (.inr (.inl h.symm))
          · exact .inr (.inl h)
          · exact .inr (.inr (.inr h))
      · rcases hall m hm with h1|h1|h1
        · exact .inl h1
        · exact .inr (.inl (List.mem_cons_of_mem _ h1))
        · simp only [List.cons_append,List.any_cons,xY,beq_iff_eq] at h1
          rcases h1 with h1|h1
          · exact .inr (.inl (h1▸List.mem_cons_self))
          · exact .inr (.inr h1)
    · have hcong:Me l (D++[k]) (listed.setIfInBounds k true):=(hL.add hoj hpj).congr λx=>by simp [or_comm]
      have hlen:((i,false)::r++e2).length=r.length+e2.length+1:=by simp
      rw [<-hlen]
      exact Hs hatj (hj a w ha hw) λF' L' a' w' h1 h2 h3 h4=>⟨h3 _ _ h2,IK hsel hQ ((i,false)::r++e2) (D++[k]) p _ a' w' F' L' hc2 hcong (λm hm=>by
        rcases hall m hm with h5|h5|h5
        · exact .inl (by simp [h5])
        · exact .inl (by simp [h5])
        · exact .inr h5) h3 h1 h2 h4⟩
theorem OkC.chainB {id:Nat} (e1:List (Nat×Bool)) (j:Nat) (e2:List (Nat×Bool)) (hro:Lro.Sublist L) (hm:P.follows .mixedOrders=true) (hc:Zz l e1 j e2=true) (hQ:∀c a d v w,Q (.panic c) (a.put d v) w->Q (.panic c) a w)
    (h:G7 P l.toArray Q n w0 Lro j e2 e1 F L):OkC P (.region id l.toArray true) Q n F w0 L:=by
  simp only [Zz,xZ] at hc
  obtain ⟨⟨⟨⟨⟨⟨h1,h2⟩,h3⟩,h4⟩,h5⟩,h6⟩,h7⟩:=hc
  cases hoj:l[j]? with
  | none=>simp [hoj] at h5
  | some oj =>
    simp only [hoj] at h5
    refine L5 hm (Nat.eq_of_beq_eq_true h6) λa w ha hw=>Q9 h7 hQ hoj h3 e1 [] none _ a w F L h1 h2 (λx=>by simp) F8 (λe he hb=>.inr ?_) jX (λi hi=>?_) (Wk.of hro) ha hw h
    · have h8:=Array.all_eq_true_iff_forall_mem.1 h5 e he
      simpa [hb] using h8
    · have:=List.all_eq_true.1 h4 i (List.mem_range.2 hi)
      simpa using this
end
theorem rA {n:Nat} {F:List (Nat×Value)} {w0:Av} {L Lro:List As} {Q:Exit->Act->World->Prop} {l:List Oper} {id:Nat} (e1:List (Nat×Bool)) (j:Nat) (e2:List (Nat×Bool)) (hro:Lro.Sublist L) (hc:Zz l e1 j e2=true) (hQ:∀c a d v w,Q (.panic c) (a.put d v) w->Q (.panic c) a w)
    (h:G7 prog l.toArray Q n w0 Lro j e2 e1 F L):OkC prog (.region id l.toArray true) Q n F w0 L:=OkC.chainB e1 j e2 hro DW hc hQ h
end
end Go.Proofs.YtcpkbjjmcleplaaGreatDoor
