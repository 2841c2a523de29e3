import Derived.Test.YtpgncndhhhllfaaGreatDoorPart04
import Derived.Test.YtpgncndhhhllfaaGreatDoorPart06
import Derived.Test.YtpgncndhhhllfaaGreatDoorPart07
namespace Go.Proofs.YtpgncndhhhllfaaGreatDoor
open Go Go.RowKit Go.Proofs.Tryz
set_option linter.unusedVariables false
set_option linter.unusedSimpArgs false
section
section
variable {w0:A_} {L:List As}
theorem BE.addRo {w w':World} {a:As} (h:BE w0 w L) (hb:Dz w.heap.size w w') (hr:a.ro=true) (hh:Holds w' a) (hs:∀b,a.foot=some b->w.heap.size<=b\/∃y∈L,y.ro=true/\y.foot=some b):BE w0 w' (a::L):=by
  have h1:=h.below hb
  refine ⟨h1.1,λz hz b e=>?_,List.pairwise_cons.2 ⟨λz hz=>?_,h1.2.2⟩⟩
  · rcases List.mem_cons.1 hz with rfl|hz
    · exact ⟨.inl hr,hh b e⟩
    · exact h1.2.1 z hz b e
  · cases hf:a.foot with
    | none=>exact .inr λb e=>by cases e
    | some b =>
      rcases hs b hf with h2|⟨y,hy,hyr,hyf⟩
      · refine .inr λb' e e2=>?_
        injection e with e;subst e
        exact absurd (h.lt hz e2) (by omega)
      · have h3:=FZ hr hyr hf hyf (FL h.2.2 y hy z hz)
        rw [<-hf];exact h3
end
class Cy (α:Type) where
  val:α->Value
  rows:α->List As
  ro:∀a,∀y∈rows a,y.ro=true
def Ro (S:Nat->Prop) (w:World) {α:Type} [Cy α] (a:α):Prop:=∀y∈Cy.rows a,Holds w y/\∀b,y.foot=some b->S b
def BH (α:Type) [Cy α] (S:Nat->Prop) (W:World) (e:Ending) (w:World):Prop :=
  ∃a:α,e=.returned (Cy.val a)/\Dz W.heap.size W w/\Ro (λb=>W.heap.size<=b\/S b) w a
def Nw (w0:A_) (S:Nat->Prop) (b:Nat):Prop:=w0.w.heap.size<=b\/S b
def SL (w0:A_) (S:Nat->Prop) (L:List As) (b:Nat):Prop:=(∃y∈L,y.ro=true/\y.foot=some b)/\Nw w0 S b
def At (w0:A_) (S:Nat->Prop) {α:Type} [Cy α] (a:α):Prop:=∀y∈Cy.rows a,∀b,y.foot=some b->Nw w0 S b
section
variable {w0:A_} {S:Nat->Prop} {w W:World} {L:List As} {α:Type} [Cy α]
theorem inS (hw:BE w0 w L) (i:Nat) {a:α} (hi:(L.drop i).take (Cy.rows a).length=Cy.rows a) (ha:At w0 S a):Ro (SL w0 S L) w a:=λy hy=>by
  have hm:y∈L:=List.mem_of_mem_drop (i:=i) (List.mem_of_mem_take (i:=(Cy.rows a).length) (by rw [hi];exact hy))
  exact ⟨λb e=>(hw.2.1 y hm b e).2,λb e=>⟨⟨y,hm,Cy.ro a y hy,e⟩,ha y hy b e⟩⟩
theorem Ro.mono {S':Nat->Prop} {a:α} (h:Ro S w a) (hs:∀b,S b->S' b):Ro S' w a:=λy hy=>⟨(h y hy).1,λb e=>hs b ((h y hy).2 b e)⟩
theorem Cx {a:α} (h:Ro S w a):At ⟨W,none⟩ S a:=λy hy b e=>.inr ((h y hy).2 b e)
theorem GT {a:α} {v:Value} (hw:BE ⟨W,none⟩ w L) (h:Ro (SL ⟨W,none⟩ S L) w a) (hv:v=Cy.val a):BH α S W (.returned v) w:=⟨a,by rw [hv],hw.out,h.mono λb h=>h.2⟩
theorem BH.cast {ι:Type} {T:ι->Type} [∀i,Cy (T i)] {i j:ι} (h:i=j) {f:FuncId} {P:Program} {args:Array Value} (k:Calls P f args W (BH (T i) S W)):Calls P f args W (BH (T j) S W):=h▸k
theorem Ds {a:α} (h:Ro S w a) (t:∀y∈L,y.ro=true/\Holds w y):∀y∈Cy.rows a++L,y.ro=true/\Holds w y:=λy hy=>(List.mem_append.1 hy).elim (λk=>⟨Cy.ro a y k,(h y k).1⟩) (t y)
end
theorem BE.addRos {w0:A_} {w w':World} {L:List As} (h:BE w0 w L) (hb:Dz w.heap.size w w'):∀(xs:List As),(∀x∈xs,x.ro=true/\Holds w' x/\∀b,x.foot=some b->w.heap.size<=b\/∃y∈L,y.ro=true/\y.foot=some b)->BE w0 w' (xs++L)
  | [],_=>h.below hb
  | x::xs,hx=>by
    have h1:=BE.addRos h hb xs λy hy=>hx y (List.mem_cons_of_mem _ hy)
    obtain ⟨hr,hh,hs⟩:=hx x List.mem_cons_self
    have h2:=h.addRo hb hr hh hs
    refine ⟨h1.1,λy hy=>(List.mem_cons.1 hy).elim (λe=>h2.2.1 y (e▸List.mem_cons_self)) (λe=>h1.2.1 y e),List.pairwise_cons.2 ⟨λy hy=>?_,h1.2.2⟩⟩
    rcases List.mem_append.1 hy with hy|hy
    · exact .inl ⟨hr,(hx y (List.mem_cons_of_mem _ hy)).1⟩
    · exact (List.pairwise_cons.1 h2.2.2).1 y hy
section
variable {P:Program} {ops:Array Oper} {rest:List Oper} {Q:Exit->Act->World->Prop} {n d:Nat} {F:List (Nat×Value)} {w0:A_} {S:Nat->Prop} {L:List As} {t:TypeId} {p:String} {af:Array Edge} {y:Operand} {f:FuncId} {xs:List Operand} {args:List Value} {ts:Array TypeId}
theorem AD.callRg {α:Type} [Cy α] {g:Option (Nat×Bool)} (hw:Wt ops n F ⟨some d,.call { callee:=.value y,args:=xs.toArray,argTypes:=ts },t,p,af,g⟩) (hc:∀args w,(callFunc f args).run P w=.ok (.enter f args) w) (h:∀w,BE w0 w L->Calls P f args.toArray w (BH α (SL w0 S L) w))
    (hf:evF F y=some (.func (.func f) #[] #[])) (hargs:xs.map (evF F)=args.map some) (hd:Nat.ble (d+1) n=true) (next:∀a:α,At w0 S a->AD P ops rest Q n ((d,Cy.val a)::F) w0 (Cy.rows a++L)) :
    AD P ops (⟨some d,.call { callee:=.value y,args:=xs.toArray,argTypes:=ts },t,p,af,g⟩::rest) Q n F w0 L:=λa w ha hW=>by
  unfold wpList
  rw [if_pos (hw a ha)]
  left
  unfold Oper.wp
  rw [An hf hargs hc a w ha hW,Oper.upon_enter]
  refine (h w hW).mono ?_
  rintro e w' ⟨v,rfl,hb,hr⟩
  exact next v (λy hy b e=>((hr y hy).2 b e).elim (λh=>.inl (Nat.le_trans hW.1.size h)) λh=>h.2) _ _ (ha.put (Bj hd)) (hW.addRos hb _ λx hx=>⟨Cy.ro v x hx,(hr x hx).1,λb e=>((hr x hx).2 b e).imp_right λh=>h.1⟩)
theorem AD.callR {α:Type} [Cy α] (hc:∀args w,(callFunc f args).run P w=.ok (.enter f args) w) (h:∀w,BE w0 w L->Calls P f args.toArray w (BH α (SL w0 S L) w))
    (hf:evF F y=some (.func (.func f) #[] #[])) (hargs:xs.map (evF F)=args.map some) (hd:Nat.ble (d+1) n=true) (next:∀a:α,At w0 S a->AD P ops rest Q n ((d,Cy.val a)::F) w0 (Cy.rows a++L)) :
    AD P ops (⟨some d,.call { callee:=.value y,args:=xs.toArray,argTypes:=ts },t,p,af,none⟩::rest) Q n F w0 L:=AD.callRg (AW rfl) hc h hf hargs hd next
theorem Md {ops:Array Oper} {o:Oper} {j t:Nat} {b:Bool} (h:o.guard=some (j,b)) (hj:(ops[j]?).bind (·.dst)=some t) (ht:F.lookup t=some undef):∀a,CG n a F->Region.wanted o (yielded ops a.tmps)=false:=λa ha=>by
  have h1:=ha.2.2 t _ ht
  simp [Region.wanted,h,yielded,hj,h1,undef]
end
end
section
def val10:List Nat->Nat
  | []=>0
  | d::r=>d+10000*val10 r
def Ux:Nat->Nat->List Nat
  | 0,_=>[]
  | f+1,x=>if x=0 then [] else x%10000::Ux f (x/10000)
def dg (x:Nat):List Nat:=Ux x x
theorem MT:∀(f g x:Nat),x<=f->x<=g->Ux f x=Ux g x
  | 0,0,_,_,_=>rfl
  | 0,g+1,x,h,_=>by
    obtain rfl:x=0:=by omega
    simp [Ux]
  | f+1,0,x,_,h=>by
    obtain rfl:x=0:=by omega
    simp [Ux]
  | f+1,g+1,x,h1,h2=>by
    unfold Ux
    split
    · rfl
    · rw [MT f g (x/10000) (by omega) (by omega)]
theorem Ee:dg 0=[]:=rfl
theorem Em {x:Nat} (h:x≠0):dg x=x%10000::dg (x/10000):=by
  unfold dg
  cases x with
  | zero=>exact absurd rfl h
  | succ k =>
    rw [Ux,if_neg h,MT k ((k+1)/10000) ((k+1)/10000) (by omega) (Nat.le_refl _)]
def Hv (ds:List Nat):Prop:=∀d∈ds,d<10000
theorem Di (x:Nat):Hv (dg x):=by
  induction x using Nat.strongRecOn with
  | _ x ih =>
    by_cases h:x=0
    · subst h;intro d hd;cases hd
    · rw [Em h]
      intro d hd
      rcases List.mem_cons.1 hd with rfl|hd
      · exact Nat.mod_lt _ (by omega)
      · exact ih (x/10000) (by omega) d hd
theorem CJ (x:Nat):val10 (dg x)=x:=by
  induction x using Nat.strongRecOn with
  | _ x ih =>
    by_cases h:x=0
    · subst h;rfl
    · rw [Em h,val10,ih (x/10000) (by omega)]
      omega
def O8 (ds:List Nat):Prop:=Hv ds/\ds.getLast?≠some 0
theorem Ns {ds:List Nat} (h:O8 ds) (h0:val10 ds=0):ds=[]:=by
  induction ds with
  | nil=>rfl
  | cons d r ih =>
    rw [val10] at h0
    have hr:r=[]:=by
      refine ih ⟨λe he=>h.1 e (List.mem_cons_of_mem _ he),λe=>?_⟩ (by omega)
      cases r with
      | nil=>cases e
      | cons e' r'=>exact h.2 (by rw [List.getLast?_cons_cons];exact e)
    subst hr
    exact absurd (by simp;omega) h.2
theorem Rt {ds:List Nat} (h:O8 ds):dg (val10 ds)=ds:=by
  induction ds with
  | nil=>rfl
  | cons d r ih =>
    have hd:=h.1 d (by simp)
    have hcr:O8 r:=⟨λe he=>h.1 e (List.mem_cons_of_mem _ he),λe=>by
      cases r with
      | nil=>cases e
      | cons e' r'=>exact h.2 (by rw [List.getLast?_cons_cons];exact e)⟩
    by_cases h0:val10 (d::r)=0
    · exact absurd (Ns h h0) (by simp)
    · rw [Em h0,val10]
      have e1:(d+10000*val10 r)%10000=d:=by omega
      have e2:(d+10000*val10 r)/10000=val10 r:=by omega
      rw [e1,e2,ih hcr]
theorem Db (a b:List Nat):val10 (a++b)=val10 a+10000^a.length*val10 b:=by
  induction a with
  | nil=>simp [val10]
  | cons d r ih =>
    simp only [List.cons_append,val10,ih,List.length_cons]
    rw [Nat.pow_succ,Nat.mul_add,<-Nat.mul_assoc,Nat.mul_comm (10000^r.length) 10000,Nat.add_assoc]
theorem Ce {ds:List Nat} (h:Hv ds):val10 ds<10000^ds.length:=by
  induction ds with
  | nil=>simp [val10]
  | cons d r ih =>
    have h1:=ih λe he=>h e (List.mem_cons_of_mem _ he)
    have h2:=h d (by simp)
    rw [val10,List.length_cons,Nat.pow_succ]
    omega
theorem Jj (ds:List Nat):val10 (ds++[0])=val10 ds:=by rw [Db];simp [val10]
def dgL (ds:List Nat):List Value:=ds.map λ(d:Nat)=>vN d
theorem CC (ds:List Nat):(dgL ds).length=ds.length:=by simp [dgL]
theorem DC {ds:List Nat} {j:Nat} (h:j<ds.length):(dgL ds)[j*1]?=some (vN (ds.getD j 0)):=by simp [dgL,h]
theorem EE (a b:List Nat):dgL (a++b)=dgL a++dgL b:=by simp [dgL]
theorem L9 (ds:List Nat) (k:Nat):dgL (ds.take k)=(dgL ds).take k:=by simp [dgL,List.map_take]
theorem OU (ds:List Nat):((dgL ds).all λu=>u.oneCell')=true:=by
  rw [List.all_eq_true]
  intro u hu
  obtain ⟨d,_,rfl⟩:=List.mem_map.1 hu
  rfl
structure NV where
  p:Option Addr
  c:Nat
  x:Nat
  ok:A7 p (dg x).length c
@[reducible] def NV.n (v:NV):Nat:=(dg v.x).length
@[reducible] def nV (v:NV):Value:=.slice v.p (dg v.x).length v.c
def nA (v:NV):As:=AG v.p (dgL (dg v.x))
theorem Ot (v:NV):(nA v).ro=true:=rfl
theorem Es.take {off k:Nat} {cs:List Value} {o:Obj} (h:Es off cs o):Es off (cs.take k) o:=by
  obtain ⟨cur,T,fr,rfl,hcs⟩:=h
  refine ⟨cur,T,fr,rfl,?_⟩
  rw [List.length_take]
  conv=>rhs;rw [<-hcs,List.take_take]
theorem Jw {ds:List Nat} {k:Nat} (hk:k<ds.length) (h0:ds.getD k 0=0):val10 (ds.take k)=val10 (ds.take (k+1)):=by
  rw [List.take_add_one]
  have:ds[k]?=some 0:=by simp [hk] at h0 ⊢;exact h0
  rw [this]
  exact (Jj _).symm
theorem NF {ds:List Nat} {k:Nat} (hd:Hv ds) (hk:k<=ds.length) (h:k=0\/ds.getD (k-1) 0≠0):O8 (ds.take k):=by
  refine ⟨λd hd'=>hd d (List.mem_of_mem_take hd'),λe=>?_⟩
  rcases Nat.eq_zero_or_pos k with h0|h0
  · subst h0;simp at e
  · have h1:=h.resolve_left (by omega)
    rw [List.getLast?_eq_getElem?] at e
    simp only [List.length_take,Nat.min_eq_left hk] at e
    rw [List.getElem?_take,if_pos (by omega)] at e
    exact h1 (by simp [List.getD,e])
theorem SJ {ds:List Nat} {k:Nat} (hd:Hv ds) (hk:k<=ds.length) (hv:val10 (ds.take k)=val10 ds) (h:k=0\/ds.getD (k-1) 0≠0):k=(dg (val10 ds)).length:=by
  have:=Rt (NF hd hk h)
  rw [<-hv,this,List.length_take,Nat.min_eq_left hk]
theorem DI {ds:List Nat} {i:Nat} (h:¬i<ds.length):ds.getD i 0=0:=by
  rw [List.getD_eq_getElem?_getD,List.getElem?_eq_none (by omega)];rfl
theorem FD {x k:Nat} (h:x<10000^k):(dg x).length<=k:=by
  induction k generalizing x with
  | zero =>
    obtain rfl:x=0:=by simpa using h
    simp [Ee]
  | succ k ih =>
    by_cases h0:x=0
    · subst h0;simp [Ee]
    · rw [Em h0,List.length_cons]
      have:=ih (x:=x/10000) (by rw [Nat.pow_succ] at h;omega)
      omega
def F1 (W:World) (src:List (Option Nat)) (x:Nat) (e:Ending) (w:World):Prop :=
  ∃v:NV,v.x=x/\e=.returned (nV v)/\Dz W.heap.size W w/\Holds w (nA v)/\∀b,v.p.map (·.block)=some b->W.heap.size<=b\/some b∈src
theorem NY {w:World} {q:Option Addr} {cs:List Value} (k:Nat) (h:Holds w (AG q cs)):Holds w (AG q (cs.take k)):=λb e=>by
  obtain ⟨o,ho,hp⟩:=h b e
  exact ⟨o,ho,Es.take hp⟩
theorem St {W w:World} {L:List As} {i m c x:Nat} {p:Option Addr} {T:TypeId} {ds:List Nat} {src:List (Option Nat)} (hw:BE ⟨W,none⟩ w L) (hi:L[i]?=some (rowW p T 1 m c (dgL ds))) (ho:OwnOk p m c) (hm:m=ds.length)
    (hx:dg x=ds.take (dg x).length) {v:Value} (hv:v=.slice p (dg x).length c):F1 W src x (.returned v) w:=by
  have hle:(dg x).length<=m:=by rw [hm];have:=congrArg List.length hx;rw [List.length_take] at this;omega
  have h0:Holds w (AG p (dgL ds)):=λb e=>by
    obtain ⟨o,hob,hp⟩:=hw.holds hi b e
    exact ⟨o,hob,Bu ho (by rw [CC,hm,Nat.mul_one]) hp⟩
  have h1:=NY (dg x).length h0
  rw [<-L9,<-hx] at h1
  refine ⟨⟨p,c,x,⟨λe=>?_,λa e=>ho.row.spot a e,Nat.le_trans hle ho.le⟩⟩,rfl,by rw [hv],hw.out,h1,λb e=>.inl (hw.newRow hi b e)⟩
  have:=ho.nil e
  exact ⟨by omega,this.2⟩
theorem FS (x i:Nat):(dg x).getD i 0<10000:=by
  by_cases h:i<(dg x).length
  · refine Di x _ ?_
    rw [List.getD_eq_getElem?_getD,List.getElem?_eq_getElem h]
    exact List.getElem_mem h
  · rw [DI h];omega
theorem Bp (ds:List Nat) (k:Nat):val10 (ds.take (k+1))=val10 (ds.take k)+10000^k*ds.getD k 0:=by
  by_cases h:k<ds.length
  · have h1:ds[k]?=some (ds.getD k 0):=by simp [h]
    rw [List.take_add_one,h1,Db,List.length_take,Nat.min_eq_left (by omega)]
    simp [val10]
  · rw [DI h,List.take_of_length_le (by omega),List.take_of_length_le (by omega)]
    simp
theorem CV {ds:List Nat} {k:Nat} (h:¬k<ds.length):val10 (ds.take k)=val10 ds:=by rw [List.take_of_length_le (by omega)]
theorem SK {ds:List Nat} {k c s A B a b:Nat} (hk:k=ds.length) (h:val10 ds+10000^k*c=A+B) (hs:s=a+b+c):val10 (ds++[s%10000])+10000^(k+1)*(s/10000)=(A+10000^k*a)+(B+10000^k*b):=by
  rw [Db,<-hk]
  simp only [val10,Nat.mul_zero,Nat.add_zero]
  have h1:10000^(k+1)*(s/10000)=10000^k*(10000*(s/10000)):=by rw [Nat.pow_succ,Nat.mul_assoc]
  have h2:s%10000+10000*(s/10000)=s:=by omega
  have h3:10000^k*(s%10000)+10000^k*(10000*(s/10000))=10000^k*(a+b+c):=by rw [<-Nat.mul_add,h2,hs]
  rw [h1,Nat.add_assoc,h3,Nat.mul_add,Nat.mul_add]
  omega
theorem Lq {ds:List Nat} {d:Nat} (h:Hv ds) (hd:d<10000):Hv (ds++[d]):=λe he=>by
  rcases List.mem_append.1 he with he|he
  · exact h e he
  · rcases List.mem_singleton.1 he with rfl
    exact hd
theorem Oz:Hv []:=λ_ h=>by cases h
theorem E3 {ds:List Nat} (h:Hv ds):dg (val10 ds)=ds.take (dg (val10 ds)).length:=by
  induction ds with
  | nil=>rfl
  | cons d r ih =>
    have ih:=ih λe he=>h e (List.mem_cons_of_mem _ he)
    have hd:=h d (by simp)
    by_cases h0:val10 (d::r)=0
    · rw [h0,Ee];rfl
    · rw [Em h0,val10]
      have e1:(d+10000*val10 r)%10000=d:=by omega
      have e2:(d+10000*val10 r)/10000=val10 r:=by omega
      rw [e1,e2,List.length_cons,List.take_succ_cons,<-ih]
theorem G4 {x y:Nat} (h:x<=y):(dg x).length<=(dg y).length:=by
  have h1:=Ce (Di y)
  rw [CJ] at h1
  exact FD (by omega)
theorem LP {ds:List Nat} {k l l2 d A B a b:Nat} (hk:k=ds.length) (h:val10 ds+B=A+10000^k*l) (hd:d+b+l=a+10000*l2):val10 (ds++[d])+(B+10000^k*b)=A+10000^k*a+10000^(k+1)*l2:=by
  rw [Db,<-hk]
  simp only [val10,Nat.mul_zero,Nat.add_zero]
  have h1:10000^(k+1)*l2=10000^k*(10000*l2):=by rw [Nat.pow_succ,Nat.mul_assoc]
  have h3:10000^k*d+10000^k*b+10000^k*l=10000^k*a+10000^k*(10000*l2):=by rw [<-Nat.mul_add,<-Nat.mul_add,<-Nat.mul_add,hd]
  rw [h1]
  omega
theorem MY {ds:List Nat} {k l a b:Nat} (hd:Hv ds) (hk:k=ds.length) (hl:l<=1) (hab:b<=a) (h:val10 ds+b=a+10000^k*l):val10 ds=a-b:=by
  have h1:=Ce hd
  rw [<-hk] at h1
  rcases Nat.eq_zero_or_pos l with h0|h0
  · subst h0;omega
  · obtain rfl:l=1:=by omega
    omega
theorem LN (ds:List Nat) (j:Nat) (hj:j<ds.length):val10 ds=val10 (ds.take j)+10000^j*ds.getD j 0+10000^(j+1)*val10 (ds.drop (j+1)):=by
  conv=>lhs;rw [<-List.take_append_drop (j+1) ds]
  rw [Db,Bp,List.length_take,Nat.min_eq_left (by omega)]
theorem Me {ds:List Nat} (h:Hv ds) (k:Nat):Hv (ds.take k):=λd hd=>h d (List.mem_of_mem_take hd)
theorem UH {ds es:List Nat} {j:Nat} (hd:Hv ds) (hl:ds.length=es.length) (hj:j<ds.length) (h:ds.drop (j+1)=es.drop (j+1)) (hlt:ds.getD j 0<es.getD j 0):val10 ds<val10 es:=by
  rw [LN ds j hj,LN es j (hl▸hj),h]
  have h1:=Ce (Me hd j)
  rw [List.length_take,Nat.min_eq_left (by omega)] at h1
  have h2:10000^j*(ds.getD j 0+1)<=10000^j*es.getD j 0:=Nat.mul_le_mul_left _ hlt
  rw [Nat.mul_add,Nat.mul_one] at h2
  omega
theorem Lr {ds es:List Nat} {j:Nat} (hl:ds.length=es.length) (hj:j<ds.length) (h:ds.drop (j+1)=es.drop (j+1)) (he:ds.getD j 0=es.getD j 0):ds.drop j=es.drop j:=by
  rw [List.drop_eq_getElem_cons hj,List.drop_eq_getElem_cons (l:=es) (i:=j) (hl▸hj),h]
  simp only [List.getD_eq_getElem?_getD,List.getElem?_eq_getElem hj,List.getElem?_eq_getElem (show j<es.length from hl▸hj),Option.getD_some] at he
  rw [he]
theorem KJ {x y:Nat} (h:(dg x).length<(dg y).length):x<y:=by
  rcases Nat.lt_or_ge x y with h1|h1
  · exact h1
  · exact absurd (G4 h1) (by omega)
theorem RJ {x y j:Nat} (hl:(dg x).length=(dg y).length) (hj:j<(dg x).length) (h:(dg x).drop (j+1)=(dg y).drop (j+1)) (hlt:(dg x).getD j 0<(dg y).getD j 0):x<y:=by
  have:=UH (Di x) hl hj h hlt
  rwa [CJ,CJ] at this
theorem V0 {x y:Nat} (h:dg x=dg y):x=y:=by rw [<-CJ x,h,CJ]
theorem JX {w:World} {p:Option Addr} {T:TypeId} {m c:Nat} {ds:List Nat} (h:Holds w (rowW p T 1 m c (dgL ds))) (ho:OwnOk p m c) (hm:m=ds.length):Holds w (AG p (dgL ds)):=λb e=>by
  obtain ⟨o,hob,hp⟩:=h b e
  exact ⟨o,hob,Bu ho (by rw [CC,hm,Nat.mul_one]) hp⟩
def DR (W:World) (src:List (Option Nat)) (p:Option Addr):Prop:=∀b,p.map (·.block)=some b->W.heap.size<=b\/some b∈src
theorem DR.mono {W:World} {src src2:List (Option Nat)} {p:Option Addr} (h:DR W src p) (hs:∀s∈src,∀b,s=some b->W.heap.size<=b\/some b∈src2):DR W src2 p:=λb e=>(h b e).elim .inl λh1=>hs _ h1 b rfl
theorem DR.new {W:World} {src2:List (Option Nat)} {p:Option Addr} (h:DR W [] p):DR W src2 p:=h.mono λs hs=>by cases hs
theorem DR.nil {W:World} {src:List (Option Nat)}:DR W src none:=λb e=>by cases e
section
variable {P:Program} {ops:Array Oper} {rest:List Oper} {Q:Exit->Act->World->Prop} {n d x:Nat} {F:List (Nat×Value)} {w0:A_} {L:List As} {t:TypeId} {p:String} {af:Array Edge} {y:Operand}
def GR (L:List As):List (Option Nat)->Prop
  | []=>True
  | s::r=>(∃y∈L,y.ro=true/\y.foot=s)/\GR L r
theorem Nb {L:List As}:GR L []:=trivial
theorem Xt {L:List As} {y:As} {r:List (Option Nat)} (i:Nat) (hi:L[i]?=some y) (hr:y.ro=true) (h:GR L r):GR L (y.foot::r):=⟨⟨y,List.mem_of_getElem? hi,hr,rfl⟩,h⟩
theorem GR.get {L:List As}:∀{src:List (Option Nat)},GR L src->∀s∈src,∃y∈L,y.ro=true/\y.foot=s
  | [],_,s,hs=>by cases hs
  | a::r,h,s,hs=>by
    rcases List.mem_cons.1 hs with rfl|hs
    · exact h.1
    · exact GR.get h.2 s hs
theorem AD.callN {src:List (Option Nat)} {f:FuncId} {xs:List Operand} {args:List Value} {ts:Array TypeId} (hc:∀args w,(callFunc f args).run P w=.ok (.enter f args) w) (h:∀w,BE w0 w L->Calls P f args.toArray w (F1 w src x)) (hsrc:GR L src)
    (hf:evF F y=some (.func (.func f) #[] #[])) (hargs:xs.map (evF F)=args.map some) (hd:Nat.ble (d+1) n=true) (next:∀v:NV,v.x=x->DR w0.w src v.p->AD P ops rest Q n ((d,nV v)::F) w0 (nA v::L)) :
    AD P ops (⟨some d,.call { callee:=.value y,args:=xs.toArray,argTypes:=ts },t,p,af,none⟩::rest) Q n F w0 L:=λa w ha hW=>by
  unfold wpList
  rw [if_pos (AW rfl a ha)]
  left
  unfold Oper.wp
  rw [An hf hargs hc a w ha hW,Oper.upon_enter]
  refine (h w hW).mono ?_
  rintro e w' ⟨v,hx,rfl,hb,hh,hs⟩
  exact next v hx (λb e=>(hs b e).imp_left λh=>Nat.le_trans hW.1.size h) _ _ (ha.put (Bj hd)) (hW.addRo hb rfl hh λb e=>(hs b e).imp_right λh=>hsrc.get _ h)
end
theorem Jp (m:Nat):dgL (List.replicate m 0)=List.replicate m (vN 0):=by simp [dgL,List.map_replicate]
theorem O4 (ds:List Nat) (j d:Nat):(dgL ds).set j (vN d)=dgL (ds.set j d):=by simp [dgL,List.map_set]
theorem AD.makeDig {P:Program} {ops:Array Oper} {rest:List Oper} {Q:Exit->Act->World->Prop} {n d m:Nat} {F:List (Nat×Value)} {w0:A_} {L:List As} {t ty T:TypeId} {p:String} {af:Array Edge} {x y:Operand}
    {ki kj:IntKind} {bytes:Nat} (ht:Ml P t T (vN 0) bytes) (hx:evF F x=some (.int ki (m:Nat))) (hy:evF F y=some (.int kj (m:Nat))) (hm:m<=1099511627776) (hb:Nat.ble bytes 16=true) (hd:Nat.ble (d+1) n=true)
    (next:∀b,OwnOk (some ⟨b,0,none⟩) m m->AD P ops rest Q n ((d,.slice (some ⟨b,0,none⟩) m m)::F) w0 (rowW (some ⟨b,0,none⟩) T 1 m m (dgL (List.replicate m 0))::L)) :
    AD P ops (⟨some d,.makeSlice t x y,ty,p,af,none⟩::rest) Q n F w0 L:=AD.makeRow ht hx hy hm hb hd λb ho=>by rw [<-Jp];exact next b ho
theorem KF (m:Nat):Hv (List.replicate m 0):=λd hd=>by rw [(List.mem_replicate.1 hd).2];omega
theorem H1 (m:Nat):val10 (List.replicate m 0)=0:=by
  induction m with
  | zero=>rfl
  | succ k ih=>rw [List.replicate_succ,val10,ih]
theorem OF {ds:List Nat} {j d:Nat} (h:Hv ds) (hd:d<10000):Hv (ds.set j d):=λe he=>by
  rcases List.mem_or_eq_of_mem_set he with h1|h1
  · exact h e h1
  · omega
theorem KU {ds:List Nat} {j d:Nat} (hj:j<ds.length):val10 (ds.set j d)+10000^j*ds.getD j 0=val10 ds+10000^j*d:=by
  induction ds generalizing j with
  | nil=>cases hj
  | cons e r ih =>
    cases j with
    | zero=>simp [val10];omega
    | succ j =>
      have h1:=ih (j:=j) (by simpa using hj)
      simp only [List.set_cons_succ,val10,List.getD_cons_succ]
      rw [Nat.pow_succ',Nat.mul_assoc,Nat.mul_assoc]
      omega
theorem TX {ds:List Nat} (h:Hv ds) (j:Nat):ds.getD j 0<10000:=by
  by_cases hj:j<ds.length
  · refine h _ ?_
    rw [List.getD_eq_getElem?_getD,List.getElem?_eq_getElem hj]
    exact List.getElem_mem hj
  · rw [DI hj];omega
theorem Ku (ds:List Nat) (j:Nat):10000^j*ds.getD j 0<=val10 ds:=by
  by_cases hj:j<ds.length
  · rw [LN ds j hj];omega
  · rw [DI hj];omega
theorem NQ {ds:List Nat} {i k cy V a b B s:Nat} (hj:i+k<ds.length) (h:val10 ds+10000^(i+k)*cy=V+10000^i*a*B) (hs:s=ds.getD (i+k) 0+a*b+cy) :
    val10 (ds.set (i+k) (s%10000))+10000^(i+(k+1))*(s/10000)=V+10000^i*a*(B+10000^k*b):=by
  have h1:=KU (ds:=ds) (j:=i+k) (d:=s%10000) hj
  have h2:10000^(i+(k+1))*(s/10000)=10000^(i+k)*(10000*(s/10000)):=by rw [<-Nat.add_assoc,Nat.pow_succ,Nat.mul_assoc]
  have h3:10000^(i+k)*(s%10000)+10000^(i+k)*(10000*(s/10000))=10000^(i+k)*s:=by rw [<-Nat.mul_add];congr 1;omega
  have h4:10000^(i+k)*s=10000^(i+k)*ds.getD (i+k) 0+10000^(i+k)*(a*b)+10000^(i+k)*cy:=by rw [hs,Nat.mul_add,Nat.mul_add]
  have h5:10000^i*a*(B+10000^k*b)=10000^i*a*B+10000^(i+k)*(a*b):=by
    rw [Nat.mul_add,Nat.pow_add]
    congr 1
    simp only [Nat.mul_assoc,Nat.mul_left_comm,Nat.mul_comm]
  rw [h2,h5]
  omega
theorem P7 {o a b c:Nat} (ho:o<10000) (ha:a<10000) (hb:b<10000) (hc:c<10000):o+a*b+c<100000000:=by
  have:a*b<=9999*9999:=Nat.mul_le_mul (by omega) (by omega)
  omega
theorem QY {ds:List Nat} {i k cy V a B:Nat} (hV:V+10000^i*a*B<10000^(i+k+1)) (h:val10 ds+10000^(i+k)*cy=V+10000^i*a*B):ds.getD (i+k) 0+cy<10000:=by
  have h1:=Ku ds (i+k)
  have h2:10000^(i+k)*(ds.getD (i+k) 0+cy)<10000^(i+k)*10000:=by
    rw [Nat.mul_add,<-Nat.pow_succ];omega
  exact Nat.lt_of_mul_lt_mul_left h2
theorem Pw {x y i:Nat}:val10 ((dg x).take i)*y<10000^(i+(dg y).length):=by
  have h1:=Ce (Me (Di x) i)
  have h2:=Ce (Di y)
  rw [CJ] at h2
  have h3:10000^((dg x).take i).length<=10000^i:=Nat.pow_le_pow_right (by omega) (by rw [List.length_take];omega)
  rw [Nat.pow_add]
  exact Nat.mul_lt_mul_of_lt_of_le (by omega) (Nat.le_of_lt h2) (Nat.pow_pos (by omega))
theorem SF (x:Nat):x/10000^(dg x).length=0:=by
  have h:=Ce (Di x)
  rw [CJ] at h
  exact Nat.div_eq_of_lt h
theorem NS (x j:Nat):(dg x).getD j 0=x/10000^j%10000:=by
  induction j generalizing x with
  | zero =>
    by_cases h:x=0
    · subst h;rfl
    · rw [Em h];simp
  | succ j ih =>
    by_cases h:x=0
    · subst h;simp [Ee]
    · rw [Em h,List.getD_cons_succ,ih,Nat.div_div_eq_div_mul,Nat.pow_succ']
theorem O1 (x j:Nat):x/10000^j=10000*(x/10000^(j+1))+(dg x).getD j 0:=by
  rw [NS,Nat.pow_succ,<-Nat.div_div_eq_div_mul]
  omega
theorem Ip (x:Nat) {k j:Nat} (h:k<=j):x/10000^j<=x/10000^k:=Nat.div_le_div_left (Nat.pow_le_pow_right (by omega) h) (Nat.pow_pos (by omega))
theorem MO {x n j k:Nat} (hn:n=x/10000^j) (h:k<=j\/j=(dg x).length) (hj:j<=k):n=x/10000^k:=by
  rcases h with h|h
  · rw [hn,show j=k by omega]
  · have h1:=SF x
    have h2:=Ip x hj
    rw [<-h] at h1
    have h3:x/10000^k=0:=Nat.le_zero.1 (h1▸h2)
    rw [hn,h1,h3]
theorem UI {ds:List Nat} (x y i:Nat) (h:val10 ds=val10 ((dg x).take i)*y):val10 ds+10000^i*(dg x).getD i 0*y<10000^(i+(dg y).length+1):=by
  have:=Pw (x:=x) (y:=y) (i:=i+1)
  rw [Bp,Nat.add_mul] at this
  rw [h]
  exact Nat.lt_of_lt_of_eq this (by congr 1;omega)
def IR (W:World) (src src2:List (Option Nat)) (x y:Nat) (e:Ending) (w:World):Prop :=
  ∃u v:NV,u.x=x/\v.x=y/\e=.returned (.tuple #[nV u,nV v])/\Dz W.heap.size W w/\Holds w (nA u)/\Holds w (nA v)/\DR W src u.p/\DR W src2 v.p
theorem BE.both {w0:A_} {w:World} {L:List As} {a b:As} (ha:BE w0 w (a::L)) (hb:BE w0 w (b::L)) (ra:a.ro=true) (rb:b.ro=true):BE w0 w (a::b::L) :=
  ⟨ha.1,λy hy=>(List.mem_cons.1 hy).elim (λe=>ha.2.1 y (e▸List.mem_cons_self)) (λe=>hb.2.1 y e),List.pairwise_cons.2 ⟨λy hy=>(List.mem_cons.1 hy).elim (λe=>.inl ⟨ra,e▸rb⟩) (λe=>(List.pairwise_cons.1 ha.2.2).1 y e),hb.2.2⟩⟩
section
variable {P:Program} {ops:Array Oper} {rest:List Oper} {Q:Exit->Act->World->Prop} {n d x z:Nat} {F:List (Nat×Value)} {w0:A_} {L:List As} {t T:TypeId} {p:String} {af:Array Edge} {y:Operand}
theorem AD.callNN {src src2:List (Option Nat)} {f:FuncId} {xs:List Operand} {args:List Value} {ts:Array TypeId} (hc:∀args w,(callFunc f args).run P w=.ok (.enter f args) w) (h:∀w,BE w0 w L->Calls P f args.toArray w (IR w src src2 x z)) (hsrc:GR L src) (hsrc2:GR L src2)
    (hf:evF F y=some (.func (.func f) #[] #[])) (hargs:xs.map (evF F)=args.map some) (hd:Nat.ble (d+1) n=true) (next:∀u v:NV,u.x=x->v.x=z->DR w0.w src u.p->DR w0.w src2 v.p->AD P ops rest Q n ((d,.tuple #[nV u,nV v])::F) w0 (nA u::nA v::L)) :
    AD P ops (⟨some d,.call { callee:=.value y,args:=xs.toArray,argTypes:=ts },t,p,af,none⟩::rest) Q n F w0 L:=λa w ha hW=>by
  unfold wpList
  rw [if_pos (AW rfl a ha)]
  left
  unfold Oper.wp
  rw [An hf hargs hc a w ha hW,Oper.upon_enter]
  refine (h w hW).mono ?_
  rintro e w' ⟨u,v,hx,hz,rfl,hb,hu,hv,hs,hs2⟩
  have h1:=hW.addRo hb (Ot v) hv λb e=>(hs2 b e).imp_right λh=>hsrc2.get _ h
  have h2:=hW.addRo hb (Ot u) hu λb e=>(hs b e).imp_right λh=>hsrc.get _ h
  exact next u v hx hz (λb e=>(hs b e).imp_left λh=>Nat.le_trans hW.1.size h) (λb e=>(hs2 b e).imp_left λh=>Nat.le_trans hW.1.size h) _ _ (ha.put (Bj hd)) (h2.both h1 (Ot u) (Ot v))
theorem AD.frozenD (i:Nat) {q:Option Addr} {m c X:Nat} {ds:List Nat} (hi:L[i]?=some (rowW q T 1 m c (dgL ds))) (ho:OwnOk q m c) (hm:m=ds.length) (hx:dg X=ds.take (dg X).length) (hex:w0.ex=none)
    (next:A7 q (dg X).length c->DR w0.w [] q->AD P ops rest Q n F w0 (L.set i (AG q (dgL (dg X))))):AD P ops rest Q n F w0 L:=λa w ha hw=>by
  have hle:(dg X).length<=m:=by rw [hm];have:=congrArg List.length hx;rw [List.length_take] at this;omega
  refine next ⟨λe=>?_,λa e=>ho.row.spot a e,Nat.le_trans hle ho.le⟩ ?_ a w ha (hw.freeze hi rfl (λo hp=>?_) (λe=>by cases e))
  · have:=ho.nil e
    exact ⟨by omega,this.2⟩
  · intro b e
    rcases (hw.2.1 _ (List.mem_of_getElem? hi) b e).1 with h1|h1|h1
    · cases h1
    · exact .inl h1
    · rw [hex] at h1;cases h1
  · have h1:=Es.take (k:=(dg X).length) (Bu ho (by rw [CC,hm,Nat.mul_one]) hp)
    rw [<-L9,<-hx] at h1
    exact h1
end
theorem Qb {ds:List Nat} (h:Hv ds) (j:Nat):ds.getD j 0=val10 ds/10000^j%10000:=by
  induction ds generalizing j with
  | nil=>simp [val10]
  | cons d r ih =>
    have hd:=h d (by simp)
    cases j with
    | zero=>simp [val10];omega
    | succ j =>
      rw [List.getD_cons_succ,ih (λe he=>h e (List.mem_cons_of_mem _ he)) j,val10,Nat.pow_succ',<-Nat.div_div_eq_div_mul]
      congr 2
      omega
theorem Oy (x k:Nat):(dg x).drop k=dg (x/10000^k):=by
  induction k generalizing x with
  | zero=>simp
  | succ k ih =>
    by_cases h:x=0
    · subst h;simp [Ee]
    · rw [Em h,List.drop_succ_cons,ih,Nat.div_div_eq_div_mul,Nat.pow_succ']
theorem If {x:Nat} (h:0<x):10000^((dg x).length-1)<=x/\1<=(dg x).length:=by
  have h0:1<=(dg x).length:=by rw [Em (by omega)];simp
  refine ⟨?_,h0⟩
  rcases Nat.lt_or_ge x (10000^((dg x).length-1)) with h1|h1
  · have:=FD h1;omega
  · exact h1
theorem UO (x:Nat):x/10000^((dg x).length-3)<1000000000000:=by
  have h:=Ce (Di x)
  rw [CJ] at h
  have h2:10000^(dg x).length<=10000^((dg x).length-3+3):=Nat.pow_le_pow_right (by omega) (by omega)
  rw [Nat.pow_add] at h2
  exact Nat.div_lt_of_lt_mul (Nat.lt_of_lt_of_le h h2)
theorem Nc {x:Nat} (h:0<x):1<=x/10000^((dg x).length-3):=by
  have h1:=If h
  have h2:10000^((dg x).length-3)<=10000^((dg x).length-1):=Nat.pow_le_pow_right (by omega) (by omega)
  exact (Nat.le_div_iff_mul_le (Nat.pow_pos (by omega))).2 (by omega)
theorem PB {r b k:Nat} (hr:r<10000*b) (hb:b/10000^k<1000000000000):r/10000^k<10000000000000000:=by
  have h1:b<10000^k*1000000000000:=by
    have:=(Nat.div_lt_iff_lt_mul (Nat.pow_pos (by omega))).1 hb
    rw [Nat.mul_comm];exact this
  exact Nat.div_lt_of_lt_mul (by omega)
theorem Tj {r b k:Nat} (hb:0<b):r/10000^k/(b/10000^k+1)<=r/b:=by
  rw [Nat.div_div_eq_div_mul]
  refine Nat.div_le_div_left ?_ hb
  have:=Nat.lt_div_mul_add (a:=b) (b:=10000^k) (Nat.pow_pos (by omega))
  rw [Nat.mul_add,Nat.mul_one,Nat.mul_comm]
  omega
theorem RE {r b k:Nat} (h:1<=b/10000^k):r/b<=r/10000^k/(b/10000^k):=by
  rw [Nat.div_div_eq_div_mul]
  exact Nat.div_le_div_left (Nat.mul_div_le _ _) (Nat.mul_pos (Nat.pow_pos (by omega)) h)
theorem Nf {A A1 b d R R1:Nat} (hb:0<b) (h1:A1=10000*A+d) (hR:R=A%b) (hR1:R1=10000*R+d):A1/b=10000*(A/b)+R1/b/\A1%b=R1%b:=by
  have h2:A1=b*(10000*(A/b))+R1:=by
    have:=Nat.div_add_mod A b
    have h3:b*(10000*(A/b))=10000*(b*(A/b)):=Nat.mul_left_comm _ _ _
    rw [h3];omega
  rw [h2]
  exact ⟨Nat.mul_add_div hb _ _,Nat.mul_add_mod _ _ _⟩
theorem Py {qs:List Nat} {j m q X Y:Nat} (hd:Hv qs) (hm:m=qs.length) (hj:1<=j) (hjm:j<=m) (hv:val10 qs=10000^j*X) (hY:Y=10000*X+q):val10 (qs.set (j-1) q)=10000^(j-1)*Y:=by
  have h1:=KU (ds:=qs) (j:=j-1) (d:=q) (by omega)
  have h2:10000^j*X=10000^(j-1)*(10000*X):=by
    rw [<-Nat.mul_assoc,<-Nat.pow_succ,show (j-1).succ=j by omega]
  rw [Qb hd,hv,h2,Nat.mul_div_cancel_left _ (Nat.pow_pos (by omega)),Nat.mul_mod_right,Nat.mul_zero,Nat.add_zero] at h1
  rw [h1,hY,Nat.mul_add]
theorem Lw {a b m:Nat} (hb:0<b) (hm:m+(dg b).length=(dg a).length+1):a/10000^m<b:=by
  have h:=Ce (Di a)
  rw [CJ] at h
  have h1:=If hb
  refine Nat.div_lt_of_lt_mul (Nat.lt_of_lt_of_le h ?_)
  rw [show (dg a).length=m+((dg b).length-1) by omega,Nat.pow_add]
  exact Nat.mul_le_mul_left _ h1.1
theorem Wo {W w:World} {L:List As} {i k m c c2 x y:Nat} {p p2:Option Addr} {T:TypeId} {ds:List Nat} {src2:List (Option Nat)} (hw:BE ⟨W,none⟩ w L) (hi:L[i]?=some (rowW p T 1 m c (dgL ds))) (ho:OwnOk p m c) (hm:m=ds.length)
    (hx:dg x=ds.take (dg x).length) {v v2:Value} (hv:v=.slice p (dg x).length c) (hk:L[k]?=some (AG p2 (dgL (dg y)))) (hok:A7 p2 (dg y).length c2) (hloc:DR W [] p2) (hv2:v2=.slice p2 (dg y).length c2):IR W [] src2 x y (.returned (.tuple #[v,v2])) w:=by
  obtain ⟨u,hux,hue,hub,huh,hul⟩:=St (src:=[]) hw hi ho hm hx hv
  have e:=hue
  rw [Ending.returned.injEq] at e
  exact ⟨u,⟨p2,c2,y,hok⟩,hux,rfl,by rw [e,hv2],hub,huh,hw.holds hk,hul,hloc.new⟩
theorem Va {W w:World} {L:List As} {k x:Nat} {a:NV} (hw:BE ⟨W,none⟩ w L) (hx:x=0) (hk:L[k]?=some (nA a)):IR W [] [a.p.map (·.block)] x a.x (.returned (.tuple #[.slice none 0 0,nV a])) w :=
  ⟨⟨none,0,0,OwnOk.none.row⟩,a,hx.symm,rfl,rfl,hw.out,(λb e=>by cases e),hw.holds hk,DR.nil,λb e=>.inr (by rw [<-e];exact List.mem_cons_self)⟩
theorem VM {w0:A_} {L:List As} {q:Option Addr} {ds:List Nat} {k n' i c:Nat} (hi:L[k]?=some (AG q (dgL ds))) (hok:A7 q n' c) (hl:i<=n'):WU w0 L (WT q i c 1) (n'-i) (dgL (ds.drop i)):=by
  have h:=WY (w0:=w0) (z:=1) hi hok hl
  rw [Nat.mul_one] at h
  rw [show dgL (ds.drop i)=(dgL ds).drop i by simp [dgL,List.map_drop]]
  exact h
end
end Go.Proofs.YtpgncndhhhllfaaGreatDoor
