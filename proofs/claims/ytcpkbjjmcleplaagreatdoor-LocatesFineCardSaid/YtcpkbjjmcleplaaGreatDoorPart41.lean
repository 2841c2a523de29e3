import Derived.Test.YtcpkbjjmcleplaaGreatDoorPart40
namespace Go.Proofs.YtcpkbjjmcleplaaGreatDoor
open Go Go.RowKit Go.Proofs.Tryz
open Go.Value renaming slice→qz,bool→qa
set_option linter.unusedVariables false
set_option linter.unusedSimpArgs false
section
def Od (a b:Pt):Bool:=decide (BR a.x b.x<0)||(decide (BR a.x b.x=0)&&decide (BR a.y b.y<0))
def Dj (e m:Pt):Bool:=Od e m
def Dk (e m:Pt):Bool:=Od m e
def KK (a b d:Pt):List Pt:=if Dw a b d=true then [d] else []
def KJ (a b c d:Pt):List Pt:=(if Dw a b c=true then [c] else [])++KK a b d
def Le (a b c d:Pt):List Pt:=(if Dw c d b=true then [b] else [])++KJ a b c d
section
variable {a b c d e m:Pt} {f:Pt->Pt->Bool} {l:List Pt} {p:Pt->Prop}
theorem ZA (h:Dw c d a=true):[a]++Le a b c d=CU a b c d:=by unfold CU;rw [if_pos h];rfl
theorem Y_ (h:¬Dw c d a=true):[]++Le a b c d=CU a b c d:=by unfold CU;rw [if_neg h];rfl
theorem ZC {E:List Pt} (h:Dw c d b=true) (k:l++Le a b c d=E):(l++[b])++KJ a b c d=E:=by rw [<-k];unfold Le;rw [if_pos h,xC]
theorem ZB {E:List Pt} (h:¬Dw c d b=true) (k:l++Le a b c d=E):l++KJ a b c d=E:=by rw [<-k];unfold Le;rw [if_neg h];rfl
theorem ZE {E:List Pt} (h:Dw a b c=true) (k:l++KJ a b c d=E):(l++[c])++KK a b d=E:=by rw [<-k];unfold KJ;rw [if_pos h,xC]
theorem ZD {E:List Pt} (h:¬Dw a b c=true) (k:l++KJ a b c d=E):l++KK a b d=E:=by rw [<-k];unfold KJ;rw [if_neg h];rfl
theorem ZG {E:List Pt} (h:Dw a b d=true) (k:l++KK a b d=E):l++[d]=E:=by rw [<-k];unfold KK;rw [if_pos h]
theorem ZF {E:List Pt} (h:¬Dw a b d=true) (k:l++KK a b d=E):l=E:=by rw [<-k];unfold KK;rw [if_neg h,List.append_nil]
def PL (f:Pt->Pt->Bool) (l:List Pt) (i:Nat):Pt:=Es f (l.getD 0 ⟨0,0⟩) ((l.drop 1).take i)
theorem LV:∀(l:List Pt) (m e:Pt),Es f m (l++[e])=if f e (Es f m l)=true then e else Es f m l
  | [],m,e=>rfl
  | x::r,m,e=>by
    show Es f (if f x m=true then x else m) (r++[e])=_
    rw [LV r];rfl
theorem Pf {i:Nat} (h:i+1<l.length):PL f l (i+1)=if f (l.getD (i+1) ⟨0,0⟩) (PL f l i)=true then l.getD (i+1) ⟨0,0⟩ else PL f l i:=by
  have e:(l.drop 1).take (i+1)=(l.drop 1).take i++[l.getD (i+1) ⟨0,0⟩]:=by
    rw [F9 (d:=⟨0,0⟩) (by rw [List.length_drop];omega)]
    simp [List.getD,Nat.add_comm]
  unfold PL
  rw [e,LV]
theorem bO {i:Nat} {x:Pt} (h:i+1<l.length) (k:x=PL f l i) (hf:f (l.getD (i+1) ⟨0,0⟩) x=true):l.getD (i+1) ⟨0,0⟩=PL f l (i+1):=by rw [Pf h,<-k,if_pos hf]
theorem bN {i:Nat} {x:Pt} (h:i+1<l.length) (k:x=PL f l i) (hf:¬f (l.getD (i+1) ⟨0,0⟩) x=true):x=PL f l (i+1):=by rw [Pf h,<-k,if_neg hf]
end
structure Qu (n:Nat) (p:Pt) where
  x:PX p
instance {n:Nat} {p:Pt}:Cl (Qu n p):=⟨λr=>.tuple #[vN n,aG (Ae r.x)],λr=>Cl.rows r.x,λr y hy=>Cl.ro r.x y hy⟩
theorem Qu.cast {n n':Nat} {p p':Pt} {S:Nat->Prop} {W w:World} {e:Ending} (hn:n=n') (hp:p=p') (h:Aj (Qu n p) S W e w):Aj (Qu n' p') S W e w:=by subst hn;subst hp;exact h
theorem V_ {a b c d:Pt} {f g:Pt->Pt->Bool} {n:Nat} (h:n+1=(CU a b c d).length):Hg f g a b c d=if PL f (CU a b c d) n=PL g (CU a b c d) n then (1,PL f (CU a b c d) n) else (2,PL f (CU a b c d) n):=by
  cases hl:CU a b c d with
  | nil=>rw [hl] at h;cases h
  | cons x r =>
    rw [Jj hl]
    rw [hl] at h
    have e:∀f,PL f (x::r) n=Es f x r:=λf=>by
      unfold PL
      rw [List.drop_one,List.tail_cons,List.take_of_length_le (by simp at h;omega)];rfl
    rw [e,e]
theorem KV {rs:List RP} {l:List Pt} (h:rs.map (·.p)=l) {i:Nat} (hi:i<rs.length):(rs.getD i EP).p=l.getD i ⟨0,0⟩:=by
  rw [<-h];simp [hi]
theorem QS {T:Nat->Prop} {w:World} {rs:List RP} {A B C D:RP} (m:∀r∈rs,r=A\/r=B\/r=C\/r=D) {j:Nat} (hj:j<rs.length) (h1:Ro T w A.x) (h2:Ro T w B.x) (h3:Ro T w C.x) (h4:Ro T w D.x):Ro T w (rs.getD j EP).x:=by
  have e:rs.getD j EP∈rs:=by rw [List.getD,xN hj];exact List.getElem_mem hj
  rcases m _ e with e|e|e|e<;>rw [e]<;>assumption
theorem iF {rs:List RP} {A B C D:RP} (m:∀r∈rs,r=A\/r=B\/r=C\/r=D) {n:Nat} (h:BO A.p+BO B.p+BO C.p+BO D.p<=n) {j:Nat} (hj:j<rs.length):BO (rs.getD j EP).p<=n:=by
  have e:rs.getD j EP∈rs:=by rw [List.getD,xN hj];exact List.getElem_mem hj
  rcases m _ e with e|e|e|e<;>rw [e]<;>omega
theorem cU {a b:Pt} (h:BR a.x b.x<0):Od a b=true:=by unfold Od;rw [xE h];rfl
theorem cV {a b:Pt} (h:¬BR a.x b.x<0) (k:BR a.x b.x=0):Od a b=decide (BR a.y b.y<0):=by unfold Od;rw [xD h,xE k];rfl
theorem cW {a b:Pt} (h:¬BR a.x b.x<0) (k:¬BR a.x b.x=0):Od a b=false:=by unfold Od;rw [xD h,xD k];rfl
theorem WJ {a b c d:Pt}:(CU a b c d).length<=4:=by
  unfold CU
  rw [xJ,xJ,xJ]
  have e:∀(c:Prop) [Decidable c] (r:Pt),(if c then [r] else []).length<=1:=λc _ r=>by split<;>simp
  have h1:=e (Dw c d a=true) a
  have h2:=e (Dw c d b=true) b
  have h3:=e (Dw a b c=true) c
  have h4:=e (Dw a b d=true) d
  omega
def C4:FS:=⟨0,FX.zero⟩
theorem OM {a b c d:Pt} {f g:Pt->Pt->Bool} (ha:BO a<=6) (hb:BO b<=6) (hc:BO c<=6) (hd:BO d<=6):BO (Hg f g a b c d).2<=126:=by
  have h0:BO (⟨0,0⟩:Pt)<=126:=by decide +kernel
  have hm:BO (HS a b c d)<=126:=by
    unfold HS
    have k1:=Bo b a
    have k2:=Bo c a
    have k3:=Bo d c
    have k4:=FN (c-a) (d-c)
    have k5:=FN (b-a) (d-c)
    have k6:=Gv (BI (c-a) (d-c)) (BI (b-a) (d-c))
    have k7:=E8 (b-a) (BI (c-a) (d-c)/BI (b-a) (d-c))
    have k8:=Gu a (Bm (b-a) (BI (c-a) (d-c)/BI (b-a) (d-c)))
    omega
  have hmem:∀e∈CU a b c d,BO e<=126:=λe he=>by
    have hx:∀{c:Prop} [Decidable c] {r:Pt},e∈(if c then [r] else [])->e=r:=λ{c _ r} h=>by
      split at h
      · exact xM.1 h
      · cases h
    unfold CU at he
    rcases List.mem_append.1 he with he|he
    · rw [hx he];omega
    · rcases List.mem_append.1 he with he|he
      · rw [hx he];omega
      · rcases List.mem_append.1 he with he|he
        · rw [hx he];omega
        · rw [hx he];omega
  unfold Hg
  split
  · split
    · exact h0
    · split
      · exact hm
      · exact h0
  · rename_i e r h
    rw [h] at hmem
    split
    · exact hmem _ (Fr f r e)
    · exact hmem _ (Fr f r e)
theorem S9 {a b p:Pt} (ha:BO a<=6) (hb:BO b<=6) (hp:BO p<=126):Sz (NL a b p)<=346:=by
  unfold NL
  have k1:=Bo p a
  have k2:=Bo b a
  have k3:=Gw (p-a) (b-a)
  have k4:=Gw (b-a) (b-a)
  have k5:=Gv (C8 (p-a) (b-a)) (C8 (b-a) (b-a))
  omega
theorem T8 (q:Rat):q/((2:Int):Rat)=q*(1/2):=by
  rw [Rat.div_def,show (((2:Int):Rat))⁻¹=1/2 from by decide +kernel]
theorem c9 {a b:Pt} {s t:Rat} (ha:BO a<=6) (hb:BO b<=6) (hs:Sz s<=346) (ht:Sz t<=346):BO (Fb a b ((s+t)*(1/2)))<=4000:=by
  unfold Fb
  have k1:=Ds s t
  have k2:=Yo
  have k3:=Cm (s+t) (1/2)
  have k4:=Bo b a
  have k5:=E8 (b-a) ((s+t)*(1/2))
  have k6:=Gu a (Bm (b-a) ((s+t)*(1/2)))
  omega
theorem VA {rs:List FS} {n:Nat} (h:∀r∈rs,Sz r.q<=n) {j:Nat} (hj:j<rs.length):Sz (rs.getD j C4).q<=n:=by
  rw [List.getD,xN hj];exact h _ (List.getElem_mem hj)
@[reducible] def Qv (r:FS):List Value:=fxL r.f
theorem Cc (r:FS):(Qv r).length=3:=rfl
theorem RS {x0:Rat} (f0:FX x0):Instr.fill (λi=>some (i*3,3)) ((Array.range (1*3)).map ((Value.agg (#[(qa false),jj,jj])).cells[·%(Value.agg (#[(qa false),jj,jj])).cells.size]!)) [(0,.agg (fxL f0).toArray)]=some (fxL f0).toArray:=by kernel_rfl
def Jg (rs:List FS):List As:=rs.flatMap λr=>Cl.rows r.f
theorem cM {rs:List FS} {y:As} (h:y∈Jg rs):y.ro=true:=by
  obtain ⟨r,_,h⟩:=List.mem_flatMap.1 h
  exact Cl.ro r.f y h
theorem P7 (rs:List FS) (r:FS):Jg (rs++[r])=Jg rs++Cl.rows r.f:=by simp [Jg]
theorem Ru (r:FS) (A:List As) (rs:List FS) (R:List As):(Cl.rows r.f++(A++(Jg rs++R))).Perm (A++(Jg (rs++[r])++R)):=by
  rw [P7,xC]
  exact (List.perm_append_comm_assoc _ _ _).trans (List.Perm.append_left A (List.perm_append_comm_assoc _ _ _))
section
variable {w0:Ay} {S:Nat->Prop} {L:List As} {w:World} {rs:List FS}
theorem gY (hw:A_ w0 w L) (hs:∀y∈Jg rs,y∈L) {i:Nat} (hi:i<rs.length) (ha:∀y∈Jg rs,∀b,y.foot=some b->Nw w0 S b):Ro (SL w0 S L) w (rs.getD i C4).f:=λy hy=>by
  have hm:y∈Jg rs:=List.mem_flatMap.2 ⟨rs[i],List.getElem_mem hi,by rw [List.getD,xN hi] at hy;exact hy⟩
  exact ⟨λb e=>(hw.2.1 y (hs y hm) b e).2,λb e=>⟨⟨y,hs y hm,cM hm,e⟩,ha y hm b e⟩⟩
theorem KR {R:List As} (hw:A_ w0 w L) (k:Nat) (hk:L.drop k=Jg rs++R) {i:Nat} (hi:i<rs.length) (ha:∀y∈Jg rs,∀b,y.foot=some b->Nw w0 S b):Ro (SL w0 S L) w (rs.getD i C4).f :=
  gY hw (λy hy=>List.mem_of_mem_drop (i:=k) (by rw [hk];exact xF _ hy)) hi ha
theorem P_ {ps:List Pt} {ts:List T3} {ss:List Z3} {x:PJ ps ts ss} {T:List As} (hw:A_ w0 w L) (i:Nat) (hi:(L.drop i).take 3=[x.a.row,x.b.row,x.c.row]) (k:Nat) (hk:L.drop k=T++DJ x.rs) (ha:At w0 S x):Ro (SL w0 S L) w x :=
  Za hw i hi (λy hy=>List.mem_of_mem_drop (i:=k) (by rw [hk];exact xG _ hy)) ha
theorem AtF.snoc {r:FS} (h:∀y∈Jg rs,∀b,y.foot=some b->Nw w0 S b) (k:At w0 S r.f):∀y∈Jg (rs++[r]),∀b,y.foot=some b->Nw w0 S b:=λy hy=>by
  rw [P7] at hy
  rcases List.mem_append.1 hy with hy|hy
  · exact h y hy
  · exact k y hy
end
theorem KP {rs:List FS} {l:List Rat} (h:rs.map (·.q)=l) {i:Nat} (hi:i<rs.length):(rs.getD i C4).q=l.getD i 0:=by
  rw [<-h];simp [hi]
def VR (l:List Rat) (i:Nat):Rat:=M2 (l.getD 0 0) ((l.drop 1).take i)
def VS (l:List Rat) (i:Nat):Rat:=M4 (l.getD 0 0) ((l.drop 1).take i)
theorem L4:∀(l:List Rat) (m e:Rat),M2 m (l++[e])=if BR e (M2 m l)<0 then e else M2 m l
  | [],m,e=>rfl
  | x::r,m,e=>by
    show M2 (if BR x m<0 then x else m) (r++[e])=_
    rw [L4 r];rfl
theorem L8:∀(l:List Rat) (m e:Rat),M4 m (l++[e])=if 0<BR e (M4 m l) then e else M4 m l
  | [],m,e=>rfl
  | x::r,m,e=>by
    show M4 (if 0<BR x m then x else m) (r++[e])=_
    rw [L8 r];rfl
section
variable {l:List Rat} {i:Nat} {x:Rat}
theorem G4 (h:i+1<l.length):(l.drop 1).take (i+1)=(l.drop 1).take i++[l.getD (i+1) 0]:=by
  rw [F9 (d:=0) (by rw [List.length_drop];omega)]
  simp [List.getD,Nat.add_comm]
theorem eZ (h:i+1<l.length) (k:x=VR l i) (hf:BR (l.getD (i+1) 0) x<0):l.getD (i+1) 0=VR l (i+1):=by
  unfold VR at *;rw [G4 h,L4,<-k,if_pos hf]
theorem eY (h:i+1<l.length) (k:x=VR l i) (hf:¬BR (l.getD (i+1) 0) x<0):x=VR l (i+1):=by
  unfold VR at *;rw [G4 h,L4,<-k,if_neg hf]
theorem eh (h:i+1<l.length) (k:x=VS l i) (hf:0<BR (l.getD (i+1) 0) x):l.getD (i+1) 0=VS l (i+1):=by
  unfold VS at *;rw [G4 h,L8,<-k,if_pos hf]
theorem ef (h:i+1<l.length) (k:x=VS l i) (hf:¬0<BR (l.getD (i+1) 0) x):x=VS l (i+1):=by
  unfold VS at *;rw [G4 h,L8,<-k,if_neg hf]
end
theorem fA {f g:Pt->Pt->Bool} {A B C a b:Pt} {l:List Rat} {n:Nat} (h:Im f g A B C a b=l) (hn:n+1=l.length):TE f g A B C a b=(VR l n,VS l n,decide (CG A B C (Fb a b ((VR l n+VS l n)*(1/2)))=1)):=by
  cases l with
  | nil=>cases hn
  | cons x r =>
    rw [Ht h]
    have e1:VR (x::r) n=M2 x r:=by unfold VR;rw [List.drop_one,List.tail_cons,List.take_of_length_le (by simp at hn;omega)];rfl
    have e2:VS (x::r) n=M4 x r:=by unfold VS;rw [List.drop_one,List.tail_cons,List.take_of_length_le (by simp at hn;omega)];rfl
    rw [e1,e2]
def cI (f g:Pt->Pt->Bool) (ps:List Pt) (T:T3) (a b:Pt) (i:Nat):List Rat:=VQ f g a b (BU ps (It T i)) (BU ps (It T ((i+1)%3)))
def Ss (f g:Pt->Pt->Bool) (ps:List Pt) (T:T3) (a b:Pt):Nat->List Rat
  | 0=>[]
  | n+1=>cI f g ps T a b (2-n)++Ss f g ps T a b n
def e9 (A B C a b:Pt):List Rat:=(if 0<CG A B C a then [0] else [])++(if 0<CG A B C b then [1] else [])
section
variable {f g:Pt->Pt->Bool} {ps:List Pt} {T:T3} {a b:Pt} {l:List Rat} {i:Nat}
theorem cz:e9 (BU ps T.1) (BU ps T.2.1) (BU ps T.2.2) a b++Ss f g ps T a b 3=Im f g (BU ps T.1) (BU ps T.2.1) (BU ps T.2.2) a b:=by
  unfold e9 Im Ss Ss Ss Ss cI
  rw [xC]
  simp only [List.append_nil]
  rfl
theorem Pz {E:List Rat} (h:i<3) (k:l++Ss f g ps T a b (3-i)=E):(l++cI f g ps T a b i)++Ss f g ps T a b (3-(i+1))=E:=by
  rw [<-k,show 3-i=(3-(i+1))+1 by omega,Ss,show 2-(3-(i+1))=i by omega,xC]
def V9 (ps:List Pt) (T:T3) (a b:Pt) (i:Nat):Nat×Pt:=Hg Dj Dk a b (BU ps (It T i)) (BU ps (It T ((i+1)%3)))
theorem eH {E:List Rat} (h:i<3) (k:l++Ss Dj Dk ps T a b (3-i)=E) (h1:(V9 ps T a b i).1=1):(l++[NL a b (V9 ps T a b i).2])++Ss Dj Dk ps T a b (3-(i+1))=E:=by
  have e:cI Dj Dk ps T a b i=[NL a b (V9 ps T a b i).2]:=by unfold cI VQ;exact if_pos h1
  rw [<-e];exact Pz h k
theorem eG {E:List Rat} (h:i<3) (k:l++Ss Dj Dk ps T a b (3-i)=E) (h1:¬(V9 ps T a b i).1=1):l++Ss Dj Dk ps T a b (3-(i+1))=E:=by
  have e:cI Dj Dk ps T a b i=[]:=by unfold cI VQ;exact if_neg h1
  rw [<-List.append_nil l,<-e];exact Pz h k
end
def nerF (d:Nat->Rat):Nat->Int×Rat
  | 0=>(-1,0)
  | i+1=>if (nerF d i).1 = -1\/BR (d i) (nerF d i).2<0 then ((i:Int),d i) else nerF d i
theorem W3 {d:Nat->Rat} {i:Nat} {b:Int} {l:Rat} (h:(b,l)=nerF d i) (k:b = -1\/BR (d i) l<0):((i:Int),d i)=nerF d (i+1):=by
  unfold nerF;rw [<-h,if_pos k]
theorem Wz {d:Nat->Rat} {i:Nat} {b:Int} {l:Rat} (h:(b,l)=nerF d i) (k:¬(b = -1\/BR (d i) l<0)):(b,l)=nerF d (i+1):=by
  unfold nerF;rw [<-h,if_neg k]
def NrI (d:Nat->Rat) (i:Nat) (b:Int):Prop:=(b = -1/\i=0)\/∃j:Nat,j<i/\b=(j:Int)/\nerF d i=((j:Int),d j)
section
variable {d:Nat->Rat} {i:Nat} {b:Int}
theorem ew:NrI d 0 (-1):=.inl ⟨rfl,rfl⟩
theorem Zv (h:NrI d i b):(nerF d i).1=b:=by
  rcases h with ⟨rfl,rfl⟩|⟨j,_,rfl,h⟩
  · rfl
  · rw [h]
theorem cj (h:NrI d i b) (h0:¬b<0):b.toNat<i:=by
  rcases h with ⟨rfl,rfl⟩|⟨j,h1,rfl,h⟩
  · exact absurd jY h0
  · simpa using h1
theorem Zw (h:NrI d i b) (h0:b<0):NrI d (i+1) (i:Int):=by
  rcases h with ⟨rfl,rfl⟩|⟨j,h1,rfl,h⟩
  · exact .inr ⟨0,Nat.lt_succ_self 0,rfl,rfl⟩
  · omega
theorem e8 (h:NrI d i b) (h0:¬b<0) (hc:BR (d i) (d b.toNat)<0):NrI d (i+1) (i:Int):=by
  rcases h with ⟨rfl,rfl⟩|⟨j,h1,rfl,h⟩
  · exact absurd jY h0
  · refine .inr ⟨i,Nat.lt_succ_self i,rfl,?_⟩
    rw [Int.toNat_natCast] at hc
    exact (W3 h.symm (.inr hc)).symm
theorem ez (h:NrI d i b) (h0:¬b<0) (hc:¬BR (d i) (d b.toNat)<0):NrI d (i+1) b:=by
  rcases h with ⟨rfl,rfl⟩|⟨j,h1,rfl,h⟩
  · exact absurd jY h0
  · rw [Int.toNat_natCast] at hc
    refine .inr ⟨j,Z,rfl,?_⟩
    exact (Wz h.symm (λk=>k.elim (λe=>by omega) hc)).symm
end
def Py (ps:List Pt) (q:Pt) (k:Nat):Rat:=C8 (q-BU ps k) (q-BU ps k)
def cG (ps:List Pt) (q:Pt) (k:Nat):Rat:=C8 (BU ps k-q) (BU ps k-q)
theorem cH (ps:List Pt) (q:Pt):cG ps q=Py ps q:=by
  funext k
  unfold cG Py
  simp only [C8,HT,HU]
  grind
end
section
structure DP where
  t:Nat
  u:FS
  v:FS
@[reducible] def Cf (r:DP):List Value:=vN r.t::(fxL r.u.f++fxL r.v.f)
theorem Bb (r:DP):(Cf r).length=7:=rfl
theorem FV (r:DP):((Cf r).all λu=>u.oneCell')=true:=rfl
def DP.pc (r:DP):Pc:=⟨r.t,r.u.q,r.v.q⟩
def El:DP:=⟨0,C4,C4⟩
def MI (r:DP):List As:=Cl.rows r.u.f++Cl.rows r.v.f
def C2 (rs:List DP):List As:=rs.flatMap MI
theorem Oo {rs:List DP} {y:As} (h:y∈C2 rs):y.ro=true:=by
  obtain ⟨r,_,h⟩:=List.mem_flatMap.1 h
  rcases List.mem_append.1 h with h|h
  · exact Cl.ro r.u.f y h
  · exact Cl.ro r.v.f y h
def Da (r:DP) (rs:List DP) (k:Nat):List DP:=rs.take k++r::rs.drop k
theorem Di {r:DP} {rs:List DP} {k:Nat}:(Da r rs k).length=rs.length+1:=by
  unfold Da
  rw [xJ,List.length_cons,List.length_take,List.length_drop];omega
theorem JK (r:DP) (rs:List DP) (k:Nat):(MI r++C2 rs).Perm (C2 (Da r rs k)):=by
  have e:C2 rs=C2 (rs.take k)++C2 (rs.drop k):=by unfold C2;rw [<-List.flatMap_append,List.take_append_drop]
  have e2:C2 (Da r rs k)=C2 (rs.take k)++(MI r++C2 (rs.drop k)):=by unfold Da C2;rw [List.flatMap_append,List.flatMap_cons]
  rw [e,e2]
  exact List.perm_append_comm_assoc _ _ _
theorem Z_ (r:DP) (A:List As) (rs:List DP) (k:Nat) (R:List As):(MI r++(A++(C2 rs++R))).Perm (A++(C2 (Da r rs k)++R)):=by
  refine (List.perm_append_comm_assoc _ _ _).trans (List.Perm.append_left A ?_)
  rw [<-xC]
  exact (JK r rs k).append_right R
theorem Sc {w0:Ay} {S:Nat->Prop} {r:DP} {rs:List DP} {k:Nat} (h:∀y∈C2 rs,∀b,y.foot=some b->Nw w0 S b) (h1:∀y∈MI r,∀b,y.foot=some b->Nw w0 S b):∀y∈C2 (Da r rs k),∀b,y.foot=some b->Nw w0 S b:=λy hy=>by
  rcases List.mem_append.1 ((JK r rs k).mem_iff.2 hy) with hy|hy
  · exact h1 y hy
  · exact h y hy
theorem K2 {r:DP} {rs:List DP} {l:List Pc} {k:Nat} (h:rs.map (·.pc)=l) (hk:k=OD l r.u.q l.length):(Da r rs k).map (·.pc)=Ki r.pc l:=by
  unfold Da Ki
  rw [List.map_append,List.map_cons,List.map_take,List.map_drop,h,hk];rfl
theorem bn {l:List Pc} {lo:Rat} {n:Nat} (h:0<n) (h1:0<BR (l.getD (n-1) cv).lo lo):OD l lo n=OD l lo (n-1):=by
  cases n with
  | zero=>exact absurd h (Nat.lt_irrefl 0)
  | succ n=>rw [Nat.add_sub_cancel] at *;rw [OD,if_pos h1]
theorem bq {l:List Pc} {lo:Rat} {n:Nat} (h:0<n) (h1:¬0<BR (l.getD (n-1) cv).lo lo):OD l lo n=n:=by
  cases n with
  | zero=>exact absurd h (Nat.lt_irrefl 0)
  | succ n=>rw [Nat.add_sub_cancel] at h1;rw [OD,if_neg h1]
theorem Rt {rs:List DP} {l:List Pc} (h:rs.map (·.pc)=l) {i:Nat} (hi:i<rs.length):(rs.getD i El).pc=l.getD i cv:=by
  rw [<-h];simp [hi]
section
variable {w0:Ay} {S:Nat->Prop} {L R:List As} {w:World} {rs:List DP}
theorem WZ (hw:A_ w0 w L) (hs:∀y∈C2 rs,y∈L) {i:Nat} (hi:i<rs.length) (ha:∀y∈C2 rs,∀b,y.foot=some b->Nw w0 S b):∀y∈MI (rs.getD i El),Holds w y/\∀b,y.foot=some b->SL w0 S L b:=λy hy=>by
  have hm:y∈C2 rs:=List.mem_flatMap.2 ⟨rs[i],List.getElem_mem hi,by rw [List.getD,xN hi] at hy;exact hy⟩
  exact ⟨λb e=>(hw.2.1 y (hs y hm) b e).2,λb e=>⟨⟨y,hs y hm,Oo hm,e⟩,ha y hm b e⟩⟩
theorem fV {n:Nat} (h:∀r∈rs,Sz r.u.q<=n/\Sz r.v.q<=n) {i:Nat} (hi:i<rs.length):Sz (rs.getD i El).u.q<=n/\Sz (rs.getD i El).v.q<=n:=by
  rw [List.getD,xN hi];exact h _ (List.getElem_mem hi)
theorem Wc {r s:DP} {k:Nat} (h:s∈Da r rs k):s=r\/s∈rs:=by
  unfold Da at h
  rcases List.mem_append.1 h with h|h
  · exact .inr (List.mem_of_mem_take h)
  · rcases xL.1 h with h|h
    · exact .inl h
    · exact .inr (List.mem_of_mem_drop h)
end
section
variable {w0:Ay} {L:List As} {q:Option Addr} {T:TypeId} {z n c:Nat} {cs:List Value} {α:Type} {enc:α->List Value} {xs:List α}
theorem Pi {w:World} {i j:Nat} {v:Value} (hw:A_ w0 w L) (hi:L[i]?=some (rowW q T z n c cs)) (ho:OwnOk q n c) (hl:cs.length=n*z) (hn:0<n) (hj:cs[j]?=some v):w.cell? ⟨pB q,pO q+j,none⟩=some v:=by
  obtain ⟨o,h1,h2⟩:=hw.holds hi (pB q) (by cases q with|none=>exact absurd rfl (ho.row.ne hn)|some a=>rfl)
  exact GU.cell (C9 ho hl h2) h1 hj
theorem MU (i:Nat):rowsL enc xs=rowsL enc (xs.take i)++rowsL enc (xs.drop i):=by rw [<-Aw,List.take_append_drop]
theorem TU {k i:Nat} (hlen:∀x,(enc x).length=z) (hi:L[k]?=some (rowW q T z xs.length c (rowsL enc xs))) (ho:OwnOk q xs.length c) (hle:i<=xs.length):Yn w0 L q i (rowsL enc (xs.take i)):=λw hw hm=>by
  refine ⟨_,ho.row.some Z,λj u hu=>?_⟩
  rw [Addr.add_lit]
  refine Pi hw hi ho (AT hlen _) Z ?_
  rw [MU i,List.getElem?_append_left (List.getElem?_eq_some_iff.1 hu).1];exact hu
theorem TT {k i:Nat} (hlen:∀x,(enc x).length=z) (hi:L[k]?=some (rowW q T z xs.length c (rowsL enc xs))) (ho:OwnOk q xs.length c) (hle:i<=xs.length):Yn w0 L (YY q i c z) (xs.length-i) (rowsL enc (xs.drop i)):=λw hw hm=>by
  have hc:=ho.le
  have hq:=ho.row.some Z
  refine ⟨⟨pB q,pO q+i*z,none⟩,?_,λj u hu=>?_⟩
  · unfold YY
    rw [if_neg Z]
    conv=>lhs;rw [hq]
    simp [Addr.add_lit,pB,pO]
  · rw [Addr.add_lit,Nat.add_assoc]
    refine Pi hw hi ho (AT hlen _) Z ?_
    have e:(rowsL enc (xs.take i)).length=i*z:=by rw [AT hlen,List.length_take,Nat.min_eq_left hle]
    rw [MU i,List.getElem?_append_right (by rw [e];exact Nat.le_add_right _ _),e,Nat.add_sub_cancel_left];exact hu
end
section
variable {f g:Pt->Pt->Bool} {ps:List Pt} {ts:List (Tq3)} {a b:Pt} {t:Nat}
theorem Ut (h:(JM f g ps a b (ts.getD t (0,0,0))).2.2=false):F6 f g ps ts a b (t+1)=F6 f g ps ts a b t:=by
  rw [F6,if_neg (λk=>by rw [h] at k;cases k.1)]
theorem Uu (h:BR (JM f g ps a b (ts.getD t (0,0,0))).1 (JM f g ps a b (ts.getD t (0,0,0))).2.1=0):F6 f g ps ts a b (t+1)=F6 f g ps ts a b t:=by
  rw [F6,if_neg (λk=>k.2 (I0.1 h))]
theorem LC (h:(JM f g ps a b (ts.getD t (0,0,0))).2.2=true) (h2:¬BR (JM f g ps a b (ts.getD t (0,0,0))).1 (JM f g ps a b (ts.getD t (0,0,0))).2.1=0):F6 f g ps ts a b (t+1)=Ki ⟨t,(JM f g ps a b (ts.getD t (0,0,0))).1,(JM f g ps a b (ts.getD t (0,0,0))).2.1⟩ (F6 f g ps ts a b t):=by
  rw [F6,if_pos ⟨h,λk=>h2 (I0.2 k)⟩]
end
structure VP (t:Nat) (s:Rat×Rat×Bool) where
  tri:Nat
  ht:s.2.2=true->tri=t
  u:FX s.1
  v:FX s.2.1
instance {t:Nat} {s:Rat×Rat×Bool}:Cl (VP t s):=⟨λr=>.tuple #[aG (vN r.tri::(fxL r.u++fxL r.v)),.bool s.2.2],λr=>Cl.rows r.u++Cl.rows r.v,λr y hy=>(List.mem_append.1 hy).elim (Cl.ro r.u y) (Cl.ro r.v y)⟩
theorem fJ {S:Nat->Prop} {w:World} {t:Nat} {s:Rat×Rat×Bool} {r:VP t s} (h1:Ro S w r.u) (h2:Ro S w r.v):Ro S w r:=λy hy=>(List.mem_append.1 hy).elim (h1 y) (h2 y)
theorem VP.cast {t:Nat} {s s':Rat×Rat×Bool} {S:Nat->Prop} {W w:World} {e:Ending} (hn:s=s') (h:Aj (VP t s) S W e w):Aj (VP t s') S W e w:=by subst hn;exact h
structure Vh (l:List Pc) where
  rs:List DP
  e:rs.map (·.pc)=l
  a:RX (rowsL Cf rs) rs.length
theorem dP {l:List Pc} {x:Vh l} {y:As} (hy:y∈[x.a.row]++C2 x.rs):y.ro=true:=by
  rcases List.mem_append.1 hy with hy|hy
  · rcases xM.1 hy with rfl;rfl
  · exact Oo hy
instance {l:List Pc}:Cl (Vh l):=⟨λx=>x.a.val,λx=>[x.a.row]++C2 x.rs,λx y hy=>dP hy⟩
theorem Vh.len {l:List Pc} (x:Vh l):x.rs.length=l.length:=by
  have h:=congrArg List.length x.e
  rwa [xI] at h
section
variable {S:Nat->Prop} {W w:World} {A R:List As} {rs:List DP} {l:List Pc}
theorem dJ (hw:A_ ⟨W,none⟩ w (A++(C2 rs++R))) (i:Nat) {p:Option Addr} {T n c:Nat} (h1:A[i]?=some (rowW p T 7 n c (rowsL Cf rs))) (o1:OwnOk p n c) (e1:n=rs.length) (he:rs.map (·.pc)=l) (hat:∀y∈C2 rs,∀b,y.foot=some b->Nw ⟨W,none⟩ S b)
    {v:Value} (hv:v=.slice p n c):Aj (Vh l) S W (.returned v) w:=by
  subst e1
  have up:(A++(C2 rs++R))[i]?=some (rowW p T 7 rs.length c (rowsL Cf rs)):=by rw [List.getElem?_append_left (List.getElem?_eq_some_iff.1 h1).1];exact h1
  refine ⟨⟨rs,he,⟨p,c,o1.row⟩⟩,by rw [hv];rfl,hw.out,λy hy=>?_⟩
  have hy:y∈[AI p (rowsL Cf rs)]++C2 rs:=hy
  rcases List.mem_append.1 hy with hy|hy
  · rcases xM.1 hy with rfl
    exact Fp hw i up o1 (AT Bb _)
  · exact ⟨λb e=>(hw.2.1 _ (xG _ (xF _ hy)) b e).2,hat y hy⟩
theorem W4 (hb:GB W.heap.size W w) {v:Value} (hv:v=.slice none 0 0):Aj (Vh []) S W (.returned v) w :=
  ⟨⟨[],rfl,⟨none,0,OwnOk.none.row⟩⟩,by rw [hv];rfl,hb,λy hy=>by
    have hy:y∈[AI none (rowsL Cf [])]++C2 []:=hy
    rcases List.mem_append.1 hy with hy|hy
    · rcases xM.1 hy with rfl
      exact ⟨(λb e=>by cases e),(λb e=>by cases e)⟩
    · cases hy⟩
end
end
section
def nZ (N:Nat) (zt:List Z3):Nat:=if EO N zt=true then zt.length else 0
theorem Ww {N t:Nat} {zt:List Z3} (h:t<nZ N zt):EO N zt=true/\t<(zt.map natT).length/\t<zt.length:=by
  unfold nZ at h
  split at h
  · exact ⟨by assumption,by rw [xI];exact h,h⟩
  · omega
theorem Wv (N:Nat) (zt:List Z3):nZ N zt<=zt.length:=by unfold nZ;split<;>omega
def fdA (ps:List Pt) (zt:List Z3) (q:Pt):Int×Nat:=if EO ps.length zt=true then findAt ps q (zt.map natT) 0 else (-1,0)
theorem ZL {ps:List Pt} {q:Pt} {zt:List Z3} (h:findAt ps q (zt.map natT) 0=findAt ps q ((zt.map natT).drop (nZ ps.length zt)) (nZ ps.length zt)):fdA ps zt q=(-1,0):=by
  unfold fdA
  split
  · rename_i k
    rw [h,nZ,if_pos k,List.drop_of_length_le (by rw [xI];exact Nat.le_refl _)]
    rfl
  · rfl
theorem ZM {ps:List Pt} {q:Pt} {zt:List Z3} {r:Int×Nat} (hn:EO ps.length zt=true) (h:findAt ps q (zt.map natT) 0=r):fdA ps zt q=r:=by
  rw [fdA,if_pos hn,h]
def J5 (ps:List Pt) (zt:List Z3) (a b:Pt):List Pc:=if a=b then [] else XY ps (zt.map natT) a b (nZ ps.length zt)
theorem aO {ps:List Pt} {zt:List Z3} {a:Pt}:J5 ps zt a a=[]:=if_pos rfl
theorem aN {ps:List Pt} {zt:List Z3} {a b:Pt} (h:EO ps.length zt=false):J5 ps zt a b=[]:=by
  unfold J5
  split
  · rfl
  · rw [nZ,if_neg (by rw [h];decide)];rfl
theorem S5:∀(l:List Rat) (m:Rat),M2 m l=m\/M2 m l∈l
  | [],m=>.inl rfl
  | e::r,m=>by
    rcases S5 r (if BR e m<0 then e else m) with h|h
    · have h1:M2 m (e::r)=if BR e m<0 then e else m:=h
      rw [h1]
      split
      · exact .inr List.mem_cons_self
      · exact .inl O
    · exact .inr (List.mem_cons_of_mem _ h)
theorem S6:∀(l:List Rat) (m:Rat),M4 m l=m\/M4 m l∈l
  | [],m=>.inl rfl
  | e::r,m=>by
    rcases S6 r (if 0<BR e m then e else m) with h|h
    · have h1:M4 m (e::r)=if 0<BR e m then e else m:=h
      rw [h1]
      split
      · exact .inr List.mem_cons_self
      · exact .inl O
    · exact .inr (List.mem_cons_of_mem _ h)
section
variable {f g:Pt->Pt->Bool} {A B C a b:Pt}
theorem RG (hA:BO A<=6) (hB:BO B<=6) (ha:BO a<=6) (hb:BO b<=6):∀q∈VQ f g a b A B,Sz q<=346:=λq h=>by
  unfold VQ at h
  split at h
  · rw [xM.1 h];exact S9 ha hb (OM ha hb hA hB)
  · cases h
theorem cx (hA:BO A<=6) (hB:BO B<=6) (hC:BO C<=6) (ha:BO a<=6) (hb:BO b<=6):∀q∈Im f g A B C a b,Sz q<=346:=λq h=>by
  have h0:Sz (0:Rat)<=346:=by decide +kernel
  have h1:Sz (1:Rat)<=346:=by decide +kernel
  unfold Im at h
  rcases List.mem_append.1 h with h|h
  · split at h
    · rw [xM.1 h];exact h0
    · cases h
  · rcases List.mem_append.1 h with h|h
    · split at h
      · rw [xM.1 h];exact h1
      · cases h
    · rcases List.mem_append.1 h with h|h
      · exact RG hA hB ha hb q h
      · rcases List.mem_append.1 h with h|h
        · exact RG hB hC ha hb q h
        · exact RG hC hA ha hb q h
theorem c_ (hA:BO A<=6) (hB:BO B<=6) (hC:BO C<=6) (ha:BO a<=6) (hb:BO b<=6):Sz (TE f g A B C a b).1<=346/\Sz (TE f g A B C a b).2.1<=346:=by
  have h:=cx (f:=f) (g:=g) hA hB hC ha hb
  cases hl:Im f g A B C a b with
  | nil=>rw [K7 hl];constructor<;>decide +kernel
  | cons x r =>
    rw [Ht hl]
    rw [hl] at h
    constructor
    · show Sz (M2 x r)<=346
      rcases S5 r x with e|e
      · rw [e];exact h _ List.mem_cons_self
      · exact h _ (List.mem_cons_of_mem _ e)
    · show Sz (M4 x r)<=346
      rcases S6 r x with e|e
      · rw [e];exact h _ List.mem_cons_self
      · exact h _ (List.mem_cons_of_mem _ e)
end
theorem dB {f g:Pt->Pt->Bool} {ps:List Pt} {a b:Pt} {T:Tq3} (hz:∀k,BO (BU ps k)<=6) (ha:BO a<=6) (hb:BO b<=6):Sz (JM f g ps a b T).1<=346/\Sz (JM f g ps a b T).2.1<=346:=c_ (hz _) (hz _) (hz _) ha hb
section
variable {S:Nat->Prop} {w:World} {t K:Nat} {s:Rat×Rat×Bool} {r:VP t s} {w0:Ay} {L R:List As} {rs:List DP} {q:DP}
theorem fK (h:Ro S w r):Ro S w r.u:=λy hy=>h y (xF _ hy)
theorem fL (h:Ro S w r):Ro S w r.v:=λy hy=>h y (xG _ hy)
theorem Pa (h:At w0 S r):∀y∈MI (⟨t,⟨_,r.u⟩,⟨_,r.v⟩⟩:DP),∀b,y.foot=some b->Nw w0 S b:=λy hy=>h y hy
theorem eL (hw:A_ w0 w L) (k:Nat) (hk:L.drop k=C2 (Da q rs K)++R) {i:Nat} (hi:i<rs.length) (ha:∀y∈C2 rs,∀b,y.foot=some b->Nw w0 S b):∀y∈MI (rs.getD i El),Holds w y/\∀b,y.foot=some b->SL w0 S L b :=
  WZ hw (λy hy=>List.mem_of_mem_drop (i:=k) (by rw [hk];exact xF _ ((JK q rs K).mem_iff.1 (xG _ hy)))) hi ha
theorem cS (hw:A_ w0 w L) (k:Nat) (hk:L.drop k=C2 (Da q rs K)++R) {i:Nat} (hi:i<rs.length) (ha:∀y∈C2 rs,∀b,y.foot=some b->Nw w0 S b):Ro (SL w0 S L) w (rs.getD i El).u.f:=λy hy=>eL hw k hk hi ha y (xF _ hy)
theorem eM (hw:A_ w0 w L) (k:Nat) (hk:L.drop k=C2 (Da q rs K)++R) (ha:∀y∈MI q,∀b,y.foot=some b->Nw w0 S b):∀y∈MI q,Holds w y/\∀b,y.foot=some b->SL w0 S L b:=λy hy=>by
  have hm:y∈L:=List.mem_of_mem_drop (i:=k) (by rw [hk];exact xF _ ((JK q rs K).mem_iff.1 (xF _ hy)))
  have hr:y.ro=true:=Oo (rs:=[q]) (by simpa [C2] using hy)
  exact ⟨λb e=>(hw.2.1 y hm b e).2,λb e=>⟨⟨y,hm,hr,e⟩,ha y hy b e⟩⟩
theorem cT (hw:A_ w0 w L) (k:Nat) (hk:L.drop k=C2 (Da q rs K)++R) (ha:∀y∈MI q,∀b,y.foot=some b->Nw w0 S b):Ro (SL w0 S L) w q.u.f:=λy hy=>eM hw k hk ha y (xF _ hy)
theorem I5 (q:DP) (rs:List DP) (K:Nat):rowsL Cf (rs.take K++[q])++rowsL Cf (rs.drop K)=rowsL Cf (Da q rs K):=by
  rw [<-Aw,xC];rfl
theorem Oc {n:Nat} (h:∀r∈rs,Sz r.u.q<=n/\Sz r.v.q<=n) (hq:Sz q.u.q<=n/\Sz q.v.q<=n):∀r∈Da q rs K,Sz r.u.q<=n/\Sz r.v.q<=n:=λr hr=>by
  rcases Wc hr with rfl|hr
  · exact hq
  · exact h r hr
end
section
variable {P:Program} {ops:Array Oper} {rest:List Oper} {Q:Exit->Act->World->Prop} {n d z m c c2:Nat} {F:List (Nat×Value)} {w0:Ay} {L:List As} {t ty T:TypeId} {p:String} {af:Array Edge} {x s:Operand} {cs cs2 news:List Value} {q q2:Option Addr}
theorem ye (i:Nat) {n' bytes N:Nat} (ht:ElemT P t T z bytes) (hs:evF F s=some (.slice q n' c)) (hi:L[i]?=some (rowW q T z n' c cs)) (ho:OwnOk q n' c) (hl:cs.length=n'*z)
    (hx:evF F x=some (.slice q2 m c2)) (hsrc:Yn w0 L q2 m news) (hnl:news.length=m*z) (h1:(news.all λu=>u.oneCell')=true) (h63:N<=maxLen) (hbytes:N*bytes<=140737488355328) (hN:n'+m=N) (hcs:cs++news=cs2) (hd:Nat.ble (d+1) n=true)
    (next:∀p' c',OwnOk p' N c'->AP P ops rest Q n ((d,.slice p' N c')::F) w0 (L.set i (rowW p' T z N c' cs2))) :
    AP P ops (⟨some d,.call { callee:=.builtin .append,args:=#[s,x],argTypes:=#[t,t] },ty,p,af,none⟩::rest) Q n F w0 L:=by
  subst hN;subst hcs
  exact yy i ht hs hi ho hl hx hsrc hnl h1 h63 hbytes hd next
end
def Rc:List (Nat×Bool)->List Nat
  | (i,true)::r=>i::Rc r
  | _=>[]
def bu (l:List Oper) (e1:List (Nat×Bool)) (j:Nat) (e2:List (Nat×Bool)):Bool :=
  D1 l [] none e1&&D1 l [j] none (e1++e2)&&D1 l (j::(e1.map (·.1))) (some j) e2&&OI l [j] (e1++e2)&&(match l[j]? with|some o=>o.after.all λe=>!Region.binds .any e||(Rc e1).contains e.on|none=>false)&&Nat.beq (e1.length+e2.length+1) l.length&&Region.noSelect l.toArray
section
variable {P:Program} {ops:Array Oper} {Q:Exit->Act->World->Prop} {n:Nat} {w0:Ay} {Lro L L':List As} {F F':List (Nat×Value)} {l:List Oper}
theorem SJ (hsel:Region.noSelect l.toArray=true) (hQ:∀c a d v w,Q (.panic c) (a.put d v) w->Q (.panic c) a w) {j:Nat} {oj:Oper} (hoj:l[j]?=some oj) {e2:List (Nat×Bool)} {E:List Nat} (hE:D1 l E (some j) e2=true) :
    ∀(es:List (Nat×Bool)) (D:List Nat) (p:Option Nat) (listed:Array Bool) (a:Act) (w:World) (F:List (Nat×Value)) (L:List As),
      D1 l D p es=true->D1 l (D++[j]) p (es++e2)=true->(∀x,x∈E↔x=j\/x∈D\/es.any (λe=>e.1 == x)=true)->NS l D listed->(∀e∈oj.after,Region.binds .any e=true->e.on∈D\/e.on∈Rc es)->j ∉ D->(∀i,i<l.length->i=j\/i∈D\/(es++e2).any (λe=>e.1 == i)=true)->Wk Lro L->Cg n a F->A_ w0 w L->Hc P l.toArray Q n w0 Lro j e2 es F L ->
      wpAnyH P .any l.toArray Q (λw=>A_ w0 w Lro) (es.length+e2.length+1) listed a w
  | [],D,p,listed,a,w,F,L,hc,hc2,hEm,hL,hjr,hjD,hall,hro,ha,hw,h=>by
    obtain ⟨o',ho',h⟩:=h
    have hat:l.toArray[j]?=some oj:=by simpa using hoj
    rw [hat] at ho';injection ho' with ho';subst ho'
    have hjl:j<l.length:=(List.getElem?_eq_some_iff.1 hoj).1
    have hp:∀e∈oj.after,Region.binds .any e=true->listed.getD e.on false=true:=λe he hb=>(hL.mem _).1 ((hjr e he hb).resolve_right (by simp [Rc]))
    have hun:=hL.no hjD
    have hrd:j∈Region.ready .any l.toArray listed:=mem_ready.2 ⟨by rw [C3 (by rw [hL.size];exact hjl)];exact hun,oj,hat,hp⟩
    have hE2:NS l E (listed.setIfInBounds j true):=(hL.add hoj hp).congr λx=>by rw [hEm];simp
    rw [show ([]:List (Nat×Bool)).length+e2.length+1=e2.length+1 by simp]
    refine ⟨λh0=>absurd hrd (by rw [h0];exact List.not_mem_nil),λk hk=>?_⟩
    have hkj:k=j:=by
      obtain ⟨h0,ok,hok,_⟩:=mem_ready.1 hk
      have hkl:k<l.length:=by simpa using (Array.getElem?_eq_some_iff.1 hok).1
      rw [C3 (by rw [hL.size];exact hkl)] at h0
      rcases hall k hkl with h1|h1|h1
      · exact h1
      · rw [(hL.mem k).1 h1] at h0;cases h0
      · obtain ⟨e,he,rfl⟩:=Gx (by simpa using h1)
        exact absurd hk (Eu hL.cl hE hun (λe he=>hL.no λhd=>(Ef hE e he).1 ((hEm _).2 (.inr (.inl hd)))) e he)
    subst hkj
    exact II hat (h a w ha hw) λF' L' a' w' h1 h2 h3 h4=>⟨h3 _ _ h2,Is hsel hQ e2 E (some k) _ a' w' F' L' hE hE2 (λi hi=>by
      rcases hall i hi with h5|h5|h5
      · exact .inl ((hEm i).2 (.inl h5))
      · exact .inl ((hEm i).2 (.inr (.inl h5)))
      · exact .inr (by simpa using h5)) h3 h1 h2 h4⟩
  | (i,true)::r,D,p,listed,a,w,F,L,hc,hc2,hEm,hL,hjr,hjD,hall,hro,ha,hw,h=>by
    obtain ⟨o,hg⟩:=Dg hc
    obtain ⟨o2,hg2⟩:=Dg hc2
    obtain ⟨o',d,v,ho',hd,hdn,hy,hn⟩:=h
    have hat:l.toArray[i]?=some o:=by simpa using hg.at_
    rw [hat] at ho';injection ho' with ho';subst ho'
    have hil:i<l.length:=(List.getElem?_eq_some_iff.1 hg.at_).1
    have hp:∀e∈o.after,Region.binds .any e=true->listed.getD e.on false=true:=λe he hb=>(hL.mem _).1 (hg.pre e he hb)
    have hun:=hL.no hg.nin
    have hrd:i∈Region.ready .any l.toArray listed:=mem_ready.2 ⟨by rw [C3 (by rw [hL.size];exact hil)];exact hun,o,hat,hp⟩
    have hyield:YieldsIf P l.toArray (λw=>A_ w0 w Lro) o v a:=by
      rcases hy with ⟨h1,h2⟩|⟨h1,h2⟩
      · exact .inl ⟨h1 a ha,λw hW=>h2 a w ha hW⟩
      · exact .inr ⟨h1 a ha,h2⟩
    have hij:i≠j:=λe=>hg2.nin (by simp [e])
    rw [show ((i,true)::r).length+e2.length+1=r.length+e2.length+1+1 by simp;omega]
    refine wpAnyH_first hat (Region.noSelect_spec hsel) (λc a w=>eI hQ c a o.dst v w) _ listed a w (Hn hL hg.at_ (hg.fr O) hp) hrd hyield (hro _ _ hw) ?_
    refine SJ hsel hQ hoj hE r (i::D) p _ _ w ((d,v)::F) L hg.tl hg2.tl (λx=>?_) (hL.add hg.at_ hp) (λe he hb=>by
      rcases hjr e he hb with h9|h9
      · exact .inl (List.mem_cons_of_mem _ h9)
      · rcases xL.1 (show e.on∈i::Rc r from h9) with h8|h8
        · exact .inl (h8▸List.mem_cons_self)
        · exact .inr h8) (λhd=>(xL.1 hd).elim (λe=>hij e.symm) hjD) (λk hk=>?_) hro (by rw [hd];exact ha.put hdn) hw hn
    · rw [hEm];simp only [List.any_cons,xY,beq_iff_eq,xL]
      constructor
      · rintro (h|h|h|h)
        · exact .inl h
        · exact .inr (.inl (.inr h))
        · exact .inr (.inl (.inl h.symm))
        · exact .inr (.inr h)
      · rintro (h|(h|h)|h)
        · exact .inl h
        · exact .inr (.inr (.inl h.symm))
        · exact .inr (.inl h)
        · exact .inr (.inr (.inr h))
    · rcases hall k hk with h1|h1|h1
      · exact .inl h1
      · exact .inr (.inl (List.mem_cons_of_mem _ h1))
      · simp only [List.cons_append,List.any_cons,xY,beq_iff_eq] at h1
        rcases h1 with h1|h1
        · exact .inr (.inl (h1▸List.mem_cons_self))
        · exact .inr (.inr h1)
  | (i,false)::r,D,p,listed,a,w,F,L,hc,hc2,hEm,hL,hjr,hjD,hall,hro,ha,hw,h=>by
    obtain ⟨o,hg⟩:=Dg hc
    obtain ⟨o2,hg2⟩:=Dg hc2
    obtain ⟨⟨o',ho',h⟩,oj',hoj',hj⟩:=h
    have hat:l.toArray[i]?=some o:=by simpa using hg.at_
    rw [hat] at ho';injection ho' with ho';subst ho'
    have hatj:l.toArray[j]?=some oj:=by simpa using hoj
    rw [hatj] at hoj';injection hoj' with hoj';subst hoj'
    have hil:i<l.length:=(List.getElem?_eq_some_iff.1 hg.at_).1
    have hp:∀e∈o.after,Region.binds .any e=true->listed.getD e.on false=true:=λe he hb=>(hL.mem _).1 (hg.pre e he hb)
    have hpj:∀e∈oj.after,Region.binds .any e=true->listed.getD e.on false=true:=λe he hb=>(hL.mem _).1 ((hjr e he hb).resolve_right (by simp [Rc]))
    have hun:=hL.no hg.nin
    have hrd:i∈Region.ready .any l.toArray listed:=mem_ready.2 ⟨by rw [C3 (by rw [hL.size];exact hil)];exact hun,o,hat,hp⟩
    have hij:i≠j:=λe=>hg2.nin (by simp [e])
    have hunj:=hL.no hjD
    rw [show ((i,false)::r).length+e2.length+1=r.length+e2.length+1+1 by simp;omega]
    refine ⟨λh0=>absurd hrd (by rw [h0];exact List.not_mem_nil),λk hk=>?_⟩
    have hki:k=i\/k=j:=by
      obtain ⟨h0,ok,hok,_⟩:=mem_ready.1 hk
      have hkl:k<l.length:=by simpa using (Array.getElem?_eq_some_iff.1 hok).1
      rw [C3 (by rw [hL.size];exact hkl)] at h0
      rcases hall k hkl with h1|h1|h1
      · exact .inr h1
      · rw [(hL.mem k).1 h1] at h0;cases h0
      · obtain ⟨e,he,rfl⟩:=Gx h1
        rcases xL.1 (by simpa using he:e∈(i,false)::(r++e2)) with rfl|he2
        · exact .inl O
        · exact absurd hk (Eu hL.cl hg2.tl hun (λe he=>hL.no λhd=>(Ef hg2.tl e he).1 (List.mem_cons_of_mem _ (xF _ hd))) e he2)
    rcases hki with rfl|rfl
    · refine II hat (h a w ha hw) λF' L' a' w' h1 h2 h3 h4=>⟨h3 _ _ h2,SJ hsel hQ hoj hE r (k::D) (some k) _ a' w' F' L' hg.tl hg2.tl (λx=>?_) (hL.add hg.at_ hp) (λe he hb=>.inl (List.mem_cons_of_mem _ ((hjr e he hb).resolve_right (by simp [Rc])))) (λhd=>(xL.1 hd).elim (λe=>hij e.symm) hjD) (λm hm=>?_) h3 h1 h2 h4⟩
      · rw [hEm];simp only [List.any_cons,xY,beq_iff_eq,xL]
        constructor
        · rintro (h|h|h|h)
          · exact .inl h
          · exact .inr (.inl (.inr h))
          · exact .inr (.inl (.inl h.symm))
          · exact .inr (.inr h)
        · rintro (h|(h|h)|h)
          · exact .inl h
          · exact .inr (.inr (.inl h.symm))
          · exact .inr (.inl h)
          · exact .inr (.inr (.inr h))
      · rcases hall m hm with h1|h1|h1
        · exact .inl h1
        · exact .inr (.inl (List.mem_cons_of_mem _ h1))
        · simp only [List.cons_append,List.any_cons,xY,beq_iff_eq] at h1
          rcases h1 with h1|h1
          · exact .inr (.inl (h1▸List.mem_cons_self))
          · exact .inr (.inr h1)
    · have hcong:NS l (D++[k]) (listed.setIfInBounds k true):=(hL.add hoj hpj).congr λx=>by simp [or_comm]
      have hlen:((i,false)::r++e2).length=r.length+e2.length+1:=by simp
      rw [<-hlen]
      exact II hatj (hj a w ha hw) λF' L' a' w' h1 h2 h3 h4=>⟨h3 _ _ h2,Is hsel hQ ((i,false)::r++e2) (D++[k]) p _ a' w' F' L' hc2 hcong (λm hm=>by
        rcases hall m hm with h5|h5|h5
        · exact .inl (by simp [h5])
        · exact .inl (by simp [h5])
        · exact .inr h5) h3 h1 h2 h4⟩
theorem OkC.chainB {id:Nat} (e1:List (Nat×Bool)) (j:Nat) (e2:List (Nat×Bool)) (hro:Lro.Sublist L) (hm:P.follows .mixedOrders=true) (hc:bu l e1 j e2=true) (hQ:∀c a d v w,Q (.panic c) (a.put d v) w->Q (.panic c) a w)
    (h:Hc P l.toArray Q n w0 Lro j e2 e1 F L):OkC P (.region id l.toArray true) Q n F w0 L:=by
  simp only [bu,xZ] at hc
  obtain ⟨⟨⟨⟨⟨⟨h1,h2⟩,h3⟩,h4⟩,h5⟩,h6⟩,h7⟩:=hc
  cases hoj:l[j]? with
  | none=>simp [hoj] at h5
  | some oj =>
    simp only [hoj] at h5
    refine M0 hm (Nat.eq_of_beq_eq_true h6) λa w ha hw=>SJ h7 hQ hoj h3 e1 [] none _ a w F L h1 h2 (λx=>by simp) Gb (λe he hb=>.inr ?_) jX (λi hi=>?_) (Wk.of hro) ha hw h
    · have h8:=Array.all_eq_true_iff_forall_mem.1 h5 e he
      simpa [hb] using h8
    · have:=List.all_eq_true.1 h4 i (List.mem_range.2 hi)
      simpa using this
end
theorem rA {n:Nat} {F:List (Nat×Value)} {w0:Ay} {L Lro:List As} {Q:Exit->Act->World->Prop} {l:List Oper} {id:Nat} (e1:List (Nat×Bool)) (j:Nat) (e2:List (Nat×Bool)) (hro:Lro.Sublist L) (hc:bu l e1 j e2=true) (hQ:∀c a d v w,Q (.panic c) (a.put d v) w->Q (.panic c) a w)
    (h:Hc prog l.toArray Q n w0 Lro j e2 e1 F L):OkC prog (.region id l.toArray true) Q n F w0 L:=OkC.chainB e1 j e2 hro Dp hc hQ h
end
end Go.Proofs.YtcpkbjjmcleplaaGreatDoor
