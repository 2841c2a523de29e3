import Derived.Lib.ItoaNum
import Derived.Laws.Runes
import Derived.Test.YtpolhpjiahbidaaGreatDoorPart09
namespace Go.Proofs.YtpolhpjiahbidaaGreatDoor
open Go Go.RowKit Go.Proofs.Tryz
open Go.Value renaming slice→qw,bool→qa
set_option linter.unusedVariables false
set_option linter.unusedSimpArgs false
section
def val10:List Nat->Nat
  | []=>0
  | d::r=>d+10000*val10 r
def ZW:Nat->Nat->List Nat
  | 0,_=>[]
  | f+1,x=>if x=0 then [] else x%10000::ZW f (x/10000)
def dg (x:Nat):List Nat:=ZW x x
theorem QG:∀(f g x:Nat),x<=f->x<=g->ZW f x=ZW g x
  | 0,0,_,_,_=>rfl
  | 0,g+1,x,h,_=>by
    obtain rfl:x=0:=by omega
    simp [ZW]
  | f+1,0,x,_,h=>by
    obtain rfl:x=0:=by omega
    simp [ZW]
  | f+1,g+1,x,h1,h2=>by
    unfold ZW
    split
    · rfl
    · rw [QG f g (x/10000) Z Z]
theorem Fu:dg 0=[]:=rfl
theorem F4 {x:Nat} (h:x≠0):dg x=x%10000::dg (x/10000):=by
  unfold dg
  cases x with
  | zero=>exact absurd rfl h
  | succ k =>
    rw [ZW,if_neg h,QG k ((k+1)/10000) ((k+1)/10000) Z (Nat.le_refl _)]
def J3 (ds:List Nat):Prop:=∀d∈ds,d<10000
theorem Et (x:Nat):J3 (dg x):=by
  induction x using Nat.strongRecOn with
  | _ x ih =>
    by_cases h:x=0
    · subst h;intro d hd;cases hd
    · rw [F4 h]
      intro d hd
      rcases xL.1 hd with rfl|hd
      · exact Nat.mod_lt _ Z
      · exact ih (x/10000) Z d hd
theorem Cx (x:Nat):val10 (dg x)=x:=by
  induction x using Nat.strongRecOn with
  | _ x ih =>
    by_cases h:x=0
    · subst h;rfl
    · rw [F4 h,val10,ih (x/10000) Z]
      omega
def SK (ds:List Nat):Prop:=J3 ds/\ds.getLast?≠some 0
theorem Re {ds:List Nat} (h:SK ds) (h0:val10 ds=0):ds=[]:=by
  induction ds with
  | nil=>rfl
  | cons d r ih =>
    rw [val10] at h0
    have hr:r=[]:=by
      refine ih ⟨λe he=>h.1 e (List.mem_cons_of_mem _ he),λe=>?_⟩ Z
      cases r with
      | nil=>cases e
      | cons e' r'=>exact h.2 (by rw [List.getLast?_cons_cons];exact e)
    subst hr
    exact absurd (by simp;omega) h.2
theorem Ue {ds:List Nat} (h:SK ds):dg (val10 ds)=ds:=by
  induction ds with
  | nil=>rfl
  | cons d r ih =>
    have hd:=h.1 d jX
    have hcr:SK r:=⟨λe he=>h.1 e (List.mem_cons_of_mem _ he),λe=>by
      cases r with
      | nil=>cases e
      | cons e' r'=>exact h.2 (by rw [List.getLast?_cons_cons];exact e)⟩
    by_cases h0:val10 (d::r)=0
    · exact absurd (Re h h0) jX
    · rw [F4 h0,val10]
      have e1:(d+10000*val10 r)%10000=d:=by omega
      have e2:(d+10000*val10 r)/10000=val10 r:=by omega
      rw [e1,e2,ih hcr]
theorem EY (a b:List Nat):val10 (a++b)=val10 a+10000^a.length*val10 b:=by
  induction a with
  | nil=>simp [val10]
  | cons d r ih =>
    simp only [List.cons_append,val10,ih,List.length_cons]
    rw [Nat.pow_succ,Nat.mul_add,<-Nat.mul_assoc,Nat.mul_comm (10000^r.length) 10000,Nat.add_assoc]
theorem DR {ds:List Nat} (h:J3 ds):val10 ds<10000^ds.length:=by
  induction ds with
  | nil=>simp [val10]
  | cons d r ih =>
    have h1:=ih λe he=>h e (List.mem_cons_of_mem _ he)
    have h2:=h d jX
    rw [val10,List.length_cons,Nat.pow_succ]
    omega
theorem Mc (ds:List Nat):val10 (ds++[0])=val10 ds:=by rw [EY];simp [val10]
def dgL (ds:List Nat):List Value:=ds.map λ(d:Nat)=>vN d
theorem Ck (ds:List Nat):(dgL ds).length=ds.length:=by simp [dgL]
theorem EA {ds:List Nat} {j:Nat} (h:j<ds.length):(dgL ds)[j*1]?=some (vN (ds.getD j 0)):=by simp [dgL,h]
theorem FT (a b:List Nat):dgL (a++b)=dgL a++dgL b:=by simp [dgL]
theorem P0 (ds:List Nat) (k:Nat):dgL (ds.take k)=(dgL ds).take k:=by simp [dgL,List.map_take]
theorem SZ (ds:List Nat):((dgL ds).all λu=>u.oneCell')=true:=by
  rw [List.all_eq_true]
  intro u hu
  obtain ⟨d,_,rfl⟩:=List.mem_map.1 hu
  rfl
structure NV where
  p:Option Addr
  c:Nat
  x:Nat
  ok:An p (dg x).length c
@[reducible] def NV.n (v:NV):Nat:=(dg v.x).length
@[reducible] def nV (v:NV):Value:=.slice v.p (dg v.x).length v.c
def nA (v:NV):As:=AB v.p (dgL (dg v.x))
theorem So (v:NV):(nA v).ro=true:=rfl
theorem Gv.take {off k:Nat} {cs:List Value} {o:Obj} (h:Gv off cs o):Gv off (cs.take k) o:=by
  obtain ⟨cur,T,fr,rfl,hcs⟩:=h
  refine ⟨cur,T,fr,rfl,?_⟩
  rw [List.length_take]
  conv=>rhs;rw [<-hcs,List.take_take]
theorem Ma {ds:List Nat} {k:Nat} (hk:k<ds.length) (h0:ds.getD k 0=0):val10 (ds.take k)=val10 (ds.take (k+1)):=by
  rw [List.take_add_one]
  have:ds[k]?=some 0:=by simp [hk] at h0 ⊢;exact h0
  rw [this]
  exact (Mc _).symm
theorem Rp {ds:List Nat} {k:Nat} (hd:J3 ds) (hk:k<=ds.length) (h:k=0\/ds.getD (k-1) 0≠0):SK (ds.take k):=by
  refine ⟨λd hd'=>hd d (List.mem_of_mem_take hd'),λe=>?_⟩
  rcases Nat.eq_zero_or_pos k with h0|h0
  · subst h0;simp at e
  · have h1:=h.resolve_left Z
    rw [List.getLast?_eq_getElem?] at e
    simp only [List.length_take,Nat.min_eq_left hk] at e
    rw [List.getElem?_take,if_pos Z] at e
    exact h1 (by simp [List.getD,e])
theorem Ua {ds:List Nat} {k:Nat} (hd:J3 ds) (hk:k<=ds.length) (hv:val10 (ds.take k)=val10 ds) (h:k=0\/ds.getD (k-1) 0≠0):k=(dg (val10 ds)).length:=by
  have:=Ue (Rp hd hk h)
  rw [<-hv,this,List.length_take,Nat.min_eq_left hk]
theorem EO {ds:List Nat} {i:Nat} (h:¬i<ds.length):ds.getD i 0=0:=by
  rw [List.getD_eq_getElem?_getD,List.getElem?_eq_none Z];rfl
theorem GM {x k:Nat} (h:x<10000^k):(dg x).length<=k:=by
  induction k generalizing x with
  | zero =>
    obtain rfl:x=0:=by simpa using h
    simp [Fu]
  | succ k ih =>
    by_cases h0:x=0
    · subst h0;simp [Fu]
    · rw [F4 h0,List.length_cons]
      have:=ih (x:=x/10000) (by rw [Nat.pow_succ] at h;omega)
      omega
def HP (W:World) (src:List (Option Nat)) (x:Nat) (e:Ending) (w:World):Prop :=
  ∃v:NV,v.x=x/\e=.returned (nV v)/\Gx W.heap.size W w/\Holds w (nA v)/\∀b,v.p.map (·.block)=some b->W.heap.size<=b\/some b∈src
theorem Rw {w:World} {q:Option Addr} {cs:List Value} (k:Nat) (h:Holds w (AB q cs)):Holds w (AB q (cs.take k)):=λb e=>by
  obtain ⟨o,ho,hp⟩:=h b e
  exact ⟨o,ho,Gv.take hp⟩
theorem VT {W w:World} {L:List As} {i m c x:Nat} {p:Option Addr} {T:TypeId} {ds:List Nat} {src:List (Option Nat)} (hw:Own ⟨W,none⟩ w L) (hi:L[i]?=some (rowW p T 1 m c (dgL ds))) (ho:OwnOk p m c) (hm:m=ds.length)
    (hx:dg x=ds.take (dg x).length) {v:Value} (hv:v=.slice p (dg x).length c):HP W src x (.returned v) w:=by
  have hle:(dg x).length<=m:=by rw [hm];have:=congrArg List.length hx;rw [List.length_take] at this;omega
  have h0:Holds w (AB p (dgL ds)):=λb e=>by
    obtain ⟨o,hob,hp⟩:=hw.holds hi b e
    exact ⟨o,hob,Cd ho (by rw [Ck,hm,Nat.mul_one]) hp⟩
  have h1:=Rw (dg x).length h0
  rw [<-P0,<-hx] at h1
  refine ⟨⟨p,c,x,⟨λe=>?_,λa e=>ho.row.spot a e,xK hle ho.le⟩⟩,rfl,by rw [hv],hw.out,h1,λb e=>.inl (hw.newRow hi b e)⟩
  have:=ho.nil e
  exact ⟨Z,this.2⟩
theorem Gr (x i:Nat):(dg x).getD i 0<10000:=by
  by_cases h:i<(dg x).length
  · refine Et x _ ?_
    rw [List.getD_eq_getElem?_getD,xN h]
    exact List.getElem_mem h
  · rw [EO h];omega
theorem B8 (ds:List Nat) (k:Nat):val10 (ds.take (k+1))=val10 (ds.take k)+10000^k*ds.getD k 0:=by
  by_cases h:k<ds.length
  · have h1:ds[k]?=some (ds.getD k 0):=by simp [h]
    rw [List.take_add_one,h1,EY,List.length_take,Nat.min_eq_left Z]
    simp [val10]
  · rw [EO h,List.take_of_length_le Z,List.take_of_length_le Z]
    simp
theorem DO {ds:List Nat} {k:Nat} (h:¬k<ds.length):val10 (ds.take k)=val10 ds:=by rw [List.take_of_length_le Z]
theorem Uw {ds:List Nat} {k c s A B a b:Nat} (hk:k=ds.length) (h:val10 ds+10000^k*c=A+B) (hs:s=a+b+c):val10 (ds++[s%10000])+10000^(k+1)*(s/10000)=(A+10000^k*a)+(B+10000^k*b):=by
  rw [EY,<-hk]
  simp only [val10,Nat.mul_zero,Nat.add_zero]
  have h1:10000^(k+1)*(s/10000)=10000^k*(10000*(s/10000)):=by rw [Nat.pow_succ,Nat.mul_assoc]
  have h2:s%10000+10000*(s/10000)=s:=by omega
  have h3:10000^k*(s%10000)+10000^k*(10000*(s/10000))=10000^k*(a+b+c):=by rw [<-Nat.mul_add,h2,hs]
  rw [h1,Nat.add_assoc,h3,Nat.mul_add,Nat.mul_add]
  omega
theorem PT {ds:List Nat} {d:Nat} (h:J3 ds) (hd:d<10000):J3 (ds++[d]):=λe he=>by
  rcases List.mem_append.1 he with he|he
  · exact h e he
  · rcases xM.1 he with rfl
    exact hd
theorem R4:J3 []:=λ_ h=>by cases h
theorem F7 {ds:List Nat} (h:J3 ds):dg (val10 ds)=ds.take (dg (val10 ds)).length:=by
  induction ds with
  | nil=>rfl
  | cons d r ih =>
    have ih:=ih λe he=>h e (List.mem_cons_of_mem _ he)
    have hd:=h d jX
    by_cases h0:val10 (d::r)=0
    · rw [h0,Fu];rfl
    · rw [F4 h0,val10]
      have e1:(d+10000*val10 r)%10000=d:=by omega
      have e2:(d+10000*val10 r)/10000=val10 r:=by omega
      rw [e1,e2,List.length_cons,List.take_succ_cons,<-ih]
theorem IY {x y:Nat} (h:x<=y):(dg x).length<=(dg y).length:=by
  have h1:=DR (Et y)
  rw [Cx] at h1
  exact GM Z
theorem Oc {ds:List Nat} {k l l2 d A B a b:Nat} (hk:k=ds.length) (h:val10 ds+B=A+10000^k*l) (hd:d+b+l=a+10000*l2):val10 (ds++[d])+(B+10000^k*b)=A+10000^k*a+10000^(k+1)*l2:=by
  rw [EY,<-hk]
  simp only [val10,Nat.mul_zero,Nat.add_zero]
  have h1:10000^(k+1)*l2=10000^k*(10000*l2):=by rw [Nat.pow_succ,Nat.mul_assoc]
  have h3:10000^k*d+10000^k*b+10000^k*l=10000^k*a+10000^k*(10000*l2):=by rw [<-Nat.mul_add,<-Nat.mul_add,<-Nat.mul_add,hd]
  rw [h1]
  omega
theorem Ov {ds:List Nat} {k l a b:Nat} (hd:J3 ds) (hk:k=ds.length) (hl:l<=1) (hab:b<=a) (h:val10 ds+b=a+10000^k*l):val10 ds=a-b:=by
  have h1:=DR hd
  rw [<-hk] at h1
  rcases Nat.eq_zero_or_pos l with h0|h0
  · subst h0;omega
  · obtain rfl:l=1:=by omega
    omega
theorem OC (ds:List Nat) (j:Nat) (hj:j<ds.length):val10 ds=val10 (ds.take j)+10000^j*ds.getD j 0+10000^(j+1)*val10 (ds.drop (j+1)):=by
  conv=>lhs;rw [<-List.take_append_drop (j+1) ds]
  rw [EY,B8,List.length_take,Nat.min_eq_left Z]
theorem Pd {ds:List Nat} (h:J3 ds) (k:Nat):J3 (ds.take k):=λd hd=>h d (List.mem_of_mem_take hd)
theorem ZC {ds es:List Nat} {j:Nat} (hd:J3 ds) (hl:ds.length=es.length) (hj:j<ds.length) (h:ds.drop (j+1)=es.drop (j+1)) (hlt:ds.getD j 0<es.getD j 0):val10 ds<val10 es:=by
  rw [OC ds j hj,OC es j (hl▸hj),h]
  have h1:=DR (Pd hd j)
  rw [List.length_take,Nat.min_eq_left Z] at h1
  have h2:10000^j*(ds.getD j 0+1)<=10000^j*es.getD j 0:=Nat.mul_le_mul_left _ hlt
  rw [Nat.mul_add,Nat.mul_one] at h2
  omega
theorem Pz {ds es:List Nat} {j:Nat} (hl:ds.length=es.length) (hj:j<ds.length) (h:ds.drop (j+1)=es.drop (j+1)) (he:ds.getD j 0=es.getD j 0):ds.drop j=es.drop j:=by
  rw [List.drop_eq_getElem_cons hj,List.drop_eq_getElem_cons (l:=es) (i:=j) (hl▸hj),h]
  simp only [List.getD_eq_getElem?_getD,xN hj,xN (show j<es.length from hl▸hj),Option.getD_some] at he
  rw [he]
theorem M2 {x y:Nat} (h:(dg x).length<(dg y).length):x<y:=by
  rcases Nat.lt_or_ge x y with h1|h1
  · exact h1
  · exact absurd (IY h1) Z
theorem Ut {x y j:Nat} (hl:(dg x).length=(dg y).length) (hj:j<(dg x).length) (h:(dg x).drop (j+1)=(dg y).drop (j+1)) (hlt:(dg x).getD j 0<(dg y).getD j 0):x<y:=by
  have:=ZC (Et x) hl hj h hlt
  rwa [Cx,Cx] at this
theorem ay {x y:Nat} (h:dg x=dg y):x=y:=by rw [<-Cx x,h,Cx]
theorem K_ {w:World} {p:Option Addr} {T:TypeId} {m c:Nat} {ds:List Nat} (h:Holds w (rowW p T 1 m c (dgL ds))) (ho:OwnOk p m c) (hm:m=ds.length):Holds w (AB p (dgL ds)):=λb e=>by
  obtain ⟨o,hob,hp⟩:=h b e
  exact ⟨o,hob,Cd ho (by rw [Ck,hm,Nat.mul_one]) hp⟩
def Eb (W:World) (src:List (Option Nat)) (p:Option Addr):Prop:=∀b,p.map (·.block)=some b->W.heap.size<=b\/some b∈src
theorem Eb.mono {W:World} {src src2:List (Option Nat)} {p:Option Addr} (h:Eb W src p) (hs:∀s∈src,∀b,s=some b->W.heap.size<=b\/some b∈src2):Eb W src2 p:=λb e=>(h b e).elim .inl λh1=>hs _ h1 b rfl
theorem Eb.new {W:World} {src2:List (Option Nat)} {p:Option Addr} (h:Eb W [] p):Eb W src2 p:=h.mono λs hs=>by cases hs
theorem Eb.nil {W:World} {src:List (Option Nat)}:Eb W src none:=λb e=>by cases e
section
variable {P:Program} {ops:Array Oper} {rest:List Oper} {Q:Exit->Act->World->Prop} {n d x:Nat} {F:List (Nat×Value)} {w0:BC} {L:List As} {t:TypeId} {p:String} {af:Array Edge} {y:Operand}
def H_ (L:List As):List (Option Nat)->Prop
  | []=>True
  | s::r=>(∃y∈L,y.ro=true/\y.foot=s)/\H_ L r
theorem Qh {L:List As}:H_ L []:=trivial
theorem eT {L:List As} {y:As} {r:List (Option Nat)} (i:Nat) (hi:L[i]?=some y) (hr:y.ro=true) (h:H_ L r):H_ L (y.foot::r):=⟨⟨y,List.mem_of_getElem? hi,hr,rfl⟩,h⟩
theorem H_.get {L:List As}:∀{src:List (Option Nat)},H_ L src->∀s∈src,∃y∈L,y.ro=true/\y.foot=s
  | [],_,s,hs=>by cases hs
  | a::r,h,s,hs=>by
    rcases xL.1 hs with rfl|hs
    · exact h.1
    · exact H_.get h.2 s hs
theorem yj {src:List (Option Nat)} {f:FuncId} {xs:List Operand} {args:List Value} {ts:Array TypeId} (hc:∀args w,(callFunc f args).run P w=.ok (.enter f args) w) (h:∀w,Own w0 w L->Calls P f args.toArray w (HP w src x)) (hsrc:H_ L src)
    (hf:evF F y=some (.func (.func f) #[] #[])) (hargs:xs.map (evF F)=args.map some) (hd:Nat.ble (d+1) n=true) (next:∀v:NV,v.x=x->Eb w0.w src v.p->AL P ops rest Q n ((d,nV v)::F) w0 (nA v::L)) :
    AL P ops (⟨some d,.call { callee:=.value y,args:=xs.toArray,argTypes:=ts },t,p,af,none⟩::rest) Q n F w0 L:=λa w ha hW=>by
  unfold wpList
  rw [if_pos (AJ rfl a ha)]
  left
  unfold Oper.wp
  rw [Aw hf hargs hc a w ha hW,Oper.upon_enter]
  refine (h w hW).mono ?_
  rintro e w' ⟨v,hx,rfl,hb,hh,hs⟩
  exact next v hx (λb e=>(hs b e).imp_left λh=>xK hW.1.size h) _ _ (ha.put (B5 hd)) (hW.addRo hb O hh λb e=>(hs b e).imp_right λh=>hsrc.get _ h)
end
theorem Mp (m:Nat):dgL (List.replicate m 0)=List.replicate m (vN 0):=by simp [dgL,List.map_replicate]
theorem R3 (ds:List Nat) (j d:Nat):(dgL ds).set j (vN d)=dgL (ds.set j d):=by simp [dgL,List.map_set]
theorem y4 {P:Program} {ops:Array Oper} {rest:List Oper} {Q:Exit->Act->World->Prop} {n d m:Nat} {F:List (Nat×Value)} {w0:BC} {L:List As} {t ty T:TypeId} {p:String} {af:Array Edge} {x y:Operand}
    {ki kj:IntKind} {bytes:Nat} (ht:Ou P t T (vN 0) bytes) (hx:evF F x=some (.int ki (m:Nat))) (hy:evF F y=some (.int kj (m:Nat))) (hm:m<=1099511627776) (hb:Nat.ble bytes 16=true) (hd:Nat.ble (d+1) n=true)
    (next:∀b,OwnOk (jk b) m m->AL P ops rest Q n ((d,.slice (jk b) m m)::F) w0 (rowW (jk b) T 1 m m (dgL (List.replicate m 0))::L)) :
    AL P ops (⟨some d,.makeSlice t x y,ty,p,af,none⟩::rest) Q n F w0 L:=yz ht hx hy hm hb hd λb ho=>by rw [<-Mp];exact next b ho
theorem M8 (m:Nat):J3 (List.replicate m 0):=λd hd=>by rw [(List.mem_replicate.1 hd).2];omega
theorem Jw (m:Nat):val10 (List.replicate m 0)=0:=by
  induction m with
  | zero=>rfl
  | succ k ih=>rw [List.replicate_succ,val10,ih]
theorem Su {ds:List Nat} {j d:Nat} (h:J3 ds) (hd:d<10000):J3 (ds.set j d):=λe he=>by
  rcases List.mem_or_eq_of_mem_set he with h1|h1
  · exact h e h1
  · omega
theorem Nj {ds:List Nat} {j d:Nat} (hj:j<ds.length):val10 (ds.set j d)+10000^j*ds.getD j 0=val10 ds+10000^j*d:=by
  induction ds generalizing j with
  | nil=>cases hj
  | cons e r ih =>
    cases j with
    | zero=>simp [val10];omega
    | succ j =>
      have h1:=ih (j:=j) (by simpa using hj)
      simp only [List.set_cons_succ,val10,List.getD_cons_succ]
      rw [Nat.pow_succ',Nat.mul_assoc,Nat.mul_assoc]
      omega
theorem Xe {ds:List Nat} (h:J3 ds) (j:Nat):ds.getD j 0<10000:=by
  by_cases hj:j<ds.length
  · refine h _ ?_
    rw [List.getD_eq_getElem?_getD,xN hj]
    exact List.getElem_mem hj
  · rw [EO hj];omega
theorem OO (ds:List Nat) (j:Nat):10000^j*ds.getD j 0<=val10 ds:=by
  by_cases hj:j<ds.length
  · rw [OC ds j hj];omega
  · rw [EO hj];omega
theorem RH {ds:List Nat} {i k cy V a b B s:Nat} (hj:i+k<ds.length) (h:val10 ds+10000^(i+k)*cy=V+10000^i*a*B) (hs:s=ds.getD (i+k) 0+a*b+cy) :
    val10 (ds.set (i+k) (s%10000))+10000^(i+(k+1))*(s/10000)=V+10000^i*a*(B+10000^k*b):=by
  have h1:=Nj (ds:=ds) (j:=i+k) (d:=s%10000) hj
  have h2:10000^(i+(k+1))*(s/10000)=10000^(i+k)*(10000*(s/10000)):=by rw [<-Nat.add_assoc,Nat.pow_succ,Nat.mul_assoc]
  have h3:10000^(i+k)*(s%10000)+10000^(i+k)*(10000*(s/10000))=10000^(i+k)*s:=by rw [<-Nat.mul_add];congr 1;omega
  have h4:10000^(i+k)*s=10000^(i+k)*ds.getD (i+k) 0+10000^(i+k)*(a*b)+10000^(i+k)*cy:=by rw [hs,Nat.mul_add,Nat.mul_add]
  have h5:10000^i*a*(B+10000^k*b)=10000^i*a*B+10000^(i+k)*(a*b):=by
    rw [Nat.mul_add,Nat.pow_add]
    congr 1
    simp only [Nat.mul_assoc,Nat.mul_left_comm,Nat.mul_comm]
  rw [h2,h5]
  omega
theorem Tz {o a b c:Nat} (ho:o<10000) (ha:a<10000) (hb:b<10000) (hc:c<10000):o+a*b+c<100000000:=by
  have:a*b<=9999*9999:=Nat.mul_le_mul Z Z
  omega
theorem U4 {ds:List Nat} {i k cy V a B:Nat} (hV:V+10000^i*a*B<10000^(i+k+1)) (h:val10 ds+10000^(i+k)*cy=V+10000^i*a*B):ds.getD (i+k) 0+cy<10000:=by
  have h1:=OO ds (i+k)
  have h2:10000^(i+k)*(ds.getD (i+k) 0+cy)<10000^(i+k)*10000:=by
    rw [Nat.mul_add,<-Nat.pow_succ];omega
  exact Nat.lt_of_mul_lt_mul_left h2
theorem TC {x y i:Nat}:val10 ((dg x).take i)*y<10000^(i+(dg y).length):=by
  have h1:=DR (Pd (Et x) i)
  have h2:=DR (Et y)
  rw [Cx] at h2
  have h3:10000^((dg x).take i).length<=10000^i:=Nat.pow_le_pow_right Z (by rw [List.length_take];omega)
  rw [Nat.pow_add]
  exact Nat.mul_lt_mul_of_lt_of_le Z (Nat.le_of_lt h2) (Nat.pow_pos Z)
theorem Vb (x:Nat):x/10000^(dg x).length=0:=by
  have h:=DR (Et x)
  rw [Cx] at h
  exact Nat.div_eq_of_lt h
theorem Qa (x j:Nat):(dg x).getD j 0=x/10000^j%10000:=by
  induction j generalizing x with
  | zero =>
    by_cases h:x=0
    · subst h;rfl
    · rw [F4 h];simp
  | succ j ih =>
    by_cases h:x=0
    · subst h;simp [Fu]
    · rw [F4 h,List.getD_cons_succ,ih,Nat.div_div_eq_div_mul,Nat.pow_succ']
theorem Sx (x j:Nat):x/10000^j=10000*(x/10000^(j+1))+(dg x).getD j 0:=by
  rw [Qa,Nat.pow_succ,<-Nat.div_div_eq_div_mul]
  omega
theorem LP (x:Nat) {k j:Nat} (h:k<=j):x/10000^j<=x/10000^k:=Nat.div_le_div_left (Nat.pow_le_pow_right Z h) (Nat.pow_pos Z)
theorem PA {x n j k:Nat} (hn:n=x/10000^j) (h:k<=j\/j=(dg x).length) (hj:j<=k):n=x/10000^k:=by
  rcases h with h|h
  · rw [hn,show j=k by omega]
  · have h1:=Vb x
    have h2:=LP x hj
    rw [<-h] at h1
    have h3:x/10000^k=0:=Nat.le_zero.1 (h1▸h2)
    rw [hn,h1,h3]
theorem XW {ds:List Nat} (x y i:Nat) (h:val10 ds=val10 ((dg x).take i)*y):val10 ds+10000^i*(dg x).getD i 0*y<10000^(i+(dg y).length+1):=by
  have:=TC (x:=x) (y:=y) (i:=i+1)
  rw [B8,Nat.add_mul] at this
  rw [h]
  exact Nat.lt_of_lt_of_eq this (by congr 1;omega)
def Kl (W:World) (src src2:List (Option Nat)) (x y:Nat) (e:Ending) (w:World):Prop :=
  ∃u v:NV,u.x=x/\v.x=y/\e=.returned (.tuple #[nV u,nV v])/\Gx W.heap.size W w/\Holds w (nA u)/\Holds w (nA v)/\Eb W src u.p/\Eb W src2 v.p
theorem Own.both {w0:BC} {w:World} {L:List As} {a b:As} (ha:Own w0 w (a::L)) (hb:Own w0 w (b::L)) (ra:a.ro=true) (rb:b.ro=true):Own w0 w (a::b::L) :=
  ⟨ha.1,λy hy=>(xL.1 hy).elim (λe=>ha.2.1 y (e▸List.mem_cons_self)) (λe=>hb.2.1 y e),List.pairwise_cons.2 ⟨λy hy=>(xL.1 hy).elim (λe=>.inl ⟨ra,e▸rb⟩) (λe=>(List.pairwise_cons.1 ha.2.2).1 y e),hb.2.2⟩⟩
section
variable {P:Program} {ops:Array Oper} {rest:List Oper} {Q:Exit->Act->World->Prop} {n d x z:Nat} {F:List (Nat×Value)} {w0:BC} {L:List As} {t T:TypeId} {p:String} {af:Array Edge} {y:Operand}
theorem AL.callNN {src src2:List (Option Nat)} {f:FuncId} {xs:List Operand} {args:List Value} {ts:Array TypeId} (hc:∀args w,(callFunc f args).run P w=.ok (.enter f args) w) (h:∀w,Own w0 w L->Calls P f args.toArray w (Kl w src src2 x z)) (hsrc:H_ L src) (hsrc2:H_ L src2)
    (hf:evF F y=some (.func (.func f) #[] #[])) (hargs:xs.map (evF F)=args.map some) (hd:Nat.ble (d+1) n=true) (next:∀u v:NV,u.x=x->v.x=z->Eb w0.w src u.p->Eb w0.w src2 v.p->AL P ops rest Q n ((d,.tuple #[nV u,nV v])::F) w0 (nA u::nA v::L)) :
    AL P ops (⟨some d,.call { callee:=.value y,args:=xs.toArray,argTypes:=ts },t,p,af,none⟩::rest) Q n F w0 L:=λa w ha hW=>by
  unfold wpList
  rw [if_pos (AJ rfl a ha)]
  left
  unfold Oper.wp
  rw [Aw hf hargs hc a w ha hW,Oper.upon_enter]
  refine (h w hW).mono ?_
  rintro e w' ⟨u,v,hx,hz,rfl,hb,hu,hv,hs,hs2⟩
  have h1:=hW.addRo hb (So v) hv λb e=>(hs2 b e).imp_right λh=>hsrc2.get _ h
  have h2:=hW.addRo hb (So u) hu λb e=>(hs b e).imp_right λh=>hsrc.get _ h
  exact next u v hx hz (λb e=>(hs b e).imp_left λh=>xK hW.1.size h) (λb e=>(hs2 b e).imp_left λh=>xK hW.1.size h) _ _ (ha.put (B5 hd)) (h2.both h1 (So u) (So v))
theorem y5 (i:Nat) {q:Option Addr} {m c X:Nat} {ds:List Nat} (hi:L[i]?=some (rowW q T 1 m c (dgL ds))) (ho:OwnOk q m c) (hm:m=ds.length) (hx:dg X=ds.take (dg X).length) (hex:w0.ex=none)
    (next:An q (dg X).length c->Eb w0.w [] q->AL P ops rest Q n F w0 (L.set i (AB q (dgL (dg X))))):AL P ops rest Q n F w0 L:=λa w ha hw=>by
  have hle:(dg X).length<=m:=by rw [hm];have:=congrArg List.length hx;rw [List.length_take] at this;omega
  refine next ⟨λe=>?_,λa e=>ho.row.spot a e,xK hle ho.le⟩ ?_ a w ha (hw.freeze hi O (λo hp=>?_) (λe=>by cases e))
  · have:=ho.nil e
    exact ⟨Z,this.2⟩
  · intro b e
    rcases (hw.2.1 _ (List.mem_of_getElem? hi) b e).1 with h1|h1|h1
    · cases h1
    · exact .inl h1
    · rw [hex] at h1;cases h1
  · have h1:=Gv.take (k:=(dg X).length) (Cd ho (by rw [Ck,hm,Nat.mul_one]) hp)
    rw [<-P0,<-hx] at h1
    exact h1
end
theorem WA {ds:List Nat} (h:J3 ds) (j:Nat):ds.getD j 0=val10 ds/10000^j%10000:=by
  induction ds generalizing j with
  | nil=>simp [val10]
  | cons d r ih =>
    have hd:=h d jX
    cases j with
    | zero=>simp [val10];omega
    | succ j =>
      rw [List.getD_cons_succ,ih (λe he=>h e (List.mem_cons_of_mem _ he)) j,val10,Nat.pow_succ',<-Nat.div_div_eq_div_mul]
      congr 2
      omega
theorem Se (x k:Nat):(dg x).drop k=dg (x/10000^k):=by
  induction k generalizing x with
  | zero=>simp
  | succ k ih =>
    by_cases h:x=0
    · subst h;simp [Fu]
    · rw [F4 h,List.drop_succ_cons,ih,Nat.div_div_eq_div_mul,Nat.pow_succ']
theorem K4 {x:Nat} (h:0<x):10000^((dg x).length-1)<=x/\1<=(dg x).length:=by
  have h0:1<=(dg x).length:=by rw [F4 Z];simp
  refine ⟨?_,h0⟩
  rcases Nat.lt_or_ge x (10000^((dg x).length-1)) with h1|h1
  · have:=GM h1;omega
  · exact h1
theorem YJ (x:Nat):x/10000^((dg x).length-3)<1000000000000:=by
  have h:=DR (Et x)
  rw [Cx] at h
  have h2:10000^(dg x).length<=10000^((dg x).length-3+3):=Nat.pow_le_pow_right Z Z
  rw [Nat.pow_add] at h2
  exact Nat.div_lt_of_lt_mul (Nat.lt_of_lt_of_le h h2)
theorem Rh {x:Nat} (h:0<x):1<=x/10000^((dg x).length-3):=by
  have h1:=K4 h
  have h2:10000^((dg x).length-3)<=10000^((dg x).length-1):=Nat.pow_le_pow_right Z Z
  exact (Nat.le_div_iff_mul_le (Nat.pow_pos Z)).2 Z
theorem TS {r b k:Nat} (hr:r<10000*b) (hb:b/10000^k<1000000000000):r/10000^k<10000000000000000:=by
  have h1:b<10000^k*1000000000000:=by
    have:=(Nat.div_lt_iff_lt_mul (Nat.pow_pos Z)).1 hb
    rw [Nat.mul_comm];exact this
  exact Nat.div_lt_of_lt_mul Z
theorem Xh {r b k:Nat} (hb:0<b):r/10000^k/(b/10000^k+1)<=r/b:=by
  rw [Nat.div_div_eq_div_mul]
  refine Nat.div_le_div_left ?_ hb
  have:=Nat.lt_div_mul_add (a:=b) (b:=10000^k) (Nat.pow_pos Z)
  rw [Nat.mul_add,Nat.mul_one,Nat.mul_comm]
  omega
theorem Uf {r b k:Nat} (h:1<=b/10000^k):r/b<=r/10000^k/(b/10000^k):=by
  rw [Nat.div_div_eq_div_mul]
  exact Nat.div_le_div_left (Nat.mul_div_le _ _) (Nat.mul_pos (Nat.pow_pos Z) h)
theorem RG {A A1 b d R R1:Nat} (hb:0<b) (h1:A1=10000*A+d) (hR:R=A%b) (hR1:R1=10000*R+d):A1/b=10000*(A/b)+R1/b/\A1%b=R1%b:=by
  have h2:A1=b*(10000*(A/b))+R1:=by
    have:=Nat.div_add_mod A b
    have h3:b*(10000*(A/b))=10000*(b*(A/b)):=Nat.mul_left_comm _ _ _
    rw [h3];omega
  rw [h2]
  exact ⟨Nat.mul_add_div hb _ _,Nat.mul_add_mod _ _ _⟩
theorem TA {qs:List Nat} {j m q X Y:Nat} (hd:J3 qs) (hm:m=qs.length) (hj:1<=j) (hjm:j<=m) (hv:val10 qs=10000^j*X) (hY:Y=10000*X+q):val10 (qs.set (j-1) q)=10000^(j-1)*Y:=by
  have h1:=Nj (ds:=qs) (j:=j-1) (d:=q) Z
  have h2:10000^j*X=10000^(j-1)*(10000*X):=by
    rw [<-Nat.mul_assoc,<-Nat.pow_succ,show (j-1).succ=j by omega]
  rw [WA hd,hv,h2,Nat.mul_div_cancel_left _ (Nat.pow_pos Z),Nat.mul_mod_right,Nat.mul_zero,Nat.add_zero] at h1
  rw [h1,hY,Nat.mul_add]
theorem P3 {a b m:Nat} (hb:0<b) (hm:m+(dg b).length=(dg a).length+1):a/10000^m<b:=by
  have h:=DR (Et a)
  rw [Cx] at h
  have h1:=K4 hb
  refine Nat.div_lt_of_lt_mul (Nat.lt_of_lt_of_le h ?_)
  rw [show (dg a).length=m+((dg b).length-1) by omega,Nat.pow_add]
  exact Nat.mul_le_mul_left _ h1.1
theorem cJ {W w:World} {L:List As} {i k m c c2 x y:Nat} {p p2:Option Addr} {T:TypeId} {ds:List Nat} {src2:List (Option Nat)} (hw:Own ⟨W,none⟩ w L) (hi:L[i]?=some (rowW p T 1 m c (dgL ds))) (ho:OwnOk p m c) (hm:m=ds.length)
    (hx:dg x=ds.take (dg x).length) {v v2:Value} (hv:v=.slice p (dg x).length c) (hk:L[k]?=some (AB p2 (dgL (dg y)))) (hok:An p2 (dg y).length c2) (hloc:Eb W [] p2) (hv2:v2=.slice p2 (dg y).length c2):Kl W [] src2 x y (.returned (.tuple #[v,v2])) w:=by
  obtain ⟨u,hux,hue,hub,huh,hul⟩:=VT (src:=[]) hw hi ho hm hx hv
  have e:=hue
  rw [Ending.returned.injEq] at e
  exact ⟨u,⟨p2,c2,y,hok⟩,hux,rfl,by rw [e,hv2],hub,huh,hw.holds hk,hul,hloc.new⟩
theorem bM {W w:World} {L:List As} {k x:Nat} {a:NV} (hw:Own ⟨W,none⟩ w L) (hx:x=0) (hk:L[k]?=some (nA a)):Kl W [] [a.p.map (·.block)] x a.x (.returned (.tuple #[.slice none 0 0,nV a])) w :=
  ⟨⟨none,0,0,OwnOk.none.row⟩,a,hx.symm,rfl,rfl,hw.out,(λb e=>by cases e),hw.holds hk,Eb.nil,λb e=>.inr (by rw [<-e];exact List.mem_cons_self)⟩
theorem aH {w0:BC} {L:List As} {q:Option Addr} {ds:List Nat} {k n' i c:Nat} (hi:L[k]?=some (AB q (dgL ds))) (hok:An q n' c) (hl:i<=n'):bS w0 L (be q i c 1) (n'-i) (dgL (ds.drop i)):=by
  have h:=dQ (w0:=w0) (z:=1) hi hok hl
  rw [Nat.mul_one] at h
  rw [show dgL (ds.drop i)=(dgL ds).drop i by simp [dgL,List.map_drop]]
  exact h
end
section
def txB (l:List UInt8):ByteArray:=⟨l.toArray⟩
theorem D6 (l:List UInt8):(txB l).size=l.length:=by simp [txB,ByteArray.size]
theorem EG (a b:List UInt8):txB a++txB b=txB (a++b):=by
  apply ByteArray.ext
  simp [txB]
def Fz:Nat->Nat->List UInt8
  | 0,_=>[]
  | k+1,x=>UInt8.ofNat (48+x/10^k%10)::Fz k x
theorem Pj (k x:Nat):(Fz k x).length=k:=by
  induction k with
  | zero=>rfl
  | succ k ih=>rw [Fz,List.length_cons,ih]
theorem TG (k x:Nat):Fz (k+1) x=Fz k (x/10)++[UInt8.ofNat (48+x%10)]:=by
  induction k with
  | zero=>simp [Fz]
  | succ k ih =>
    rw [Fz,ih,Fz,List.cons_append,Nat.pow_succ',<-Nat.div_div_eq_div_mul]
theorem MU (m x:Nat) (h0:x/10^(m+1)=0) (h1:m=0\/x/10^m≠0):Lib.decDigits x=Fz (m+1) x:=by
  induction m generalizing x with
  | zero =>
    have hx:x<10:=by omega
    rw [Lib.decDigits,dif_pos hx]
    simp [Fz,Nat.mod_eq_of_lt hx]
  | succ m ih =>
    have h2:x/10^(m+1)≠0:=h1.resolve_left Z
    rw [Nat.pow_succ',<-Nat.div_div_eq_div_mul] at h0 h2
    have hx:¬x<10:=λh=>h2 (by rw [Nat.div_eq_of_lt h];exact Nat.zero_div _)
    rw [Lib.decDigits,dif_neg hx,TG (m+1),ih (x/10) h0 (.inr h2)]
theorem cS (i:Nat):10^(4*i)=10000^i:=by rw [Nat.pow_mul]
theorem Zn {x i k:Nat} (hk:k<4):x/10^(4*i+k)%10=(dg x).getD i 0/10^k%10:=by
  rw [Nat.pow_add,cS,<-Nat.div_div_eq_div_mul,Qa]
  generalize x/10000^i=y
  match k,hk with
  | 0,_=>simp only [Nat.pow_zero,Nat.div_one];omega
  | 1,_=>show y/10%10=y%10000/10%10;omega
  | 2,_=>show y/100%10=y%10000/100%10;omega
  | 3,_=>show y/1000%10=y%10000/1000%10;omega
theorem XE {x i k d:Nat} (hk:k<4) (hd:d=(dg x).getD i 0/10^k):txB [UInt8.ofNat (48+d%10)]++txB (Fz (4*i+k) x)=txB (Fz (4*i+(k+1)) x):=by
  rw [EG,<-Nat.add_assoc,Fz,Zn hk,hd]
  rfl
theorem Wv {x i k d:Nat} (hx:0<x) (hi:i+1=(dg x).length) (hk:k<=4) (hd:d=(dg x).getD i 0/10^k) (hnz:k=0\/(dg x).getD i 0/10^(k-1)≠0) (hex:k=4\/d=0):Fz (4*i+k) x=Lib.decDigits x:=by
  have h1:=DR (Et x)
  rw [Cx,<-hi,Nat.pow_succ] at h1
  have h2:=K4 hx
  rw [<-hi,Nat.add_sub_cancel] at h2
  have hy:x/10000^i<10000:=Nat.div_lt_of_lt_mul h1
  have hy1:1<=x/10000^i:=(Nat.le_div_iff_mul_le (Nat.pow_pos Z)).2 Z
  rw [Qa,Nat.mod_eq_of_lt hy] at hd hnz
  have e:∀j,x/10^(4*i+j)=x/10000^i/10^j:=λj=>by rw [Nat.pow_add,cS,<-Nat.div_div_eq_div_mul]
  generalize hyy:x/10000^i=y at *
  have hk1:1<=k:=by
    rcases Nat.eq_zero_or_pos k with h|h
    · subst h;simp at hd;omega
    · exact h
  have hz:y/10^k=0:=by
    rcases hex with h|h
    · subst h;exact Nat.div_eq_of_lt hy
    · omega
  obtain ⟨m,hm⟩:∃m,m+1=4*i+k:=⟨4*i+k-1,Z⟩
  rw [<-hm]
  refine (MU m x ?_ (.inr ?_)).symm
  · rw [hm,e,hz]
  · rw [show m=4*i+(k-1) by omega,e]
    exact hnz.resolve_left Z
theorem Kr:Lib.decDigits 0=[48]:=by rw [Lib.decDigits,dif_pos Z];rfl
section
variable {P:Program} {n:Nat} {F:List (Nat×Value)} {w0:BC} {L:List As} {t:TypeId} {p:String} {af:Array Edge} {d:Option Tmp} {g:Option (Nat×Bool)} {x:Operand}
theorem QL {k:IntKind} {a:Nat} {src dst:TypeId} {ds:TypeDesc} (hx:evF F x=some (.int k (a:Nat))) (h1:P.underlying src=some ds) (h2:P.underlying dst=some .string) (ha:a<128):Ex P n F w0 L ⟨d,.convert src dst x,t,p,af,g⟩ (.string (txB [UInt8.ofNat a])):=λA w hf _=>by
  have e:Utf8.encode (a:Nat)=txB [UInt8.ofNat a]:=by
    have hv:Utf8.valid (a:Int)=true:=by simp [Utf8.valid];omega
    simp only [Utf8.encode,hv,if_true,Int.toNat_natCast]
    rw [if_pos Z]
    rfl
  simp only [execOp,hf.ev hx,Sem.run_bind,run_convert_int_string w src dst k (a:Nat) (by rw [h1];rfl) h2,Result.andThen_ok,Sem.run_pure,e]
end
end
section
structure NX (x:Nat) where
  p:Option Addr
  c:Nat
  ok:An p (dg x).length c
@[reducible] def NX.nv {x:Nat} (a:NX x):NV:=⟨a.p,a.c,x,a.ok⟩
@[reducible] def NX.cast {x y:Nat} (h:x=y) (a:NX x):NX y:=⟨a.p,a.c,h▸a.ok⟩
def NX.zero:NX 0:=⟨none,0,⟨λ_=>⟨rfl,rfl⟩,(λ_ e=>by cases e),Nat.le_refl _⟩⟩
@[reducible] def CV {x:Nat} (a:NX x):Value:=.slice a.p (dg x).length a.c
def Bj {x:Nat} (a:NX x):As:=AB a.p (dgL (dg x))
structure ZX (z:Int) where
  n:NX z.natAbs
structure FX (q:Rat) where
  z:ZX q.num
  m:NX (q.den-1)
structure PX (p:Pt) where
  x:FX p.x
  y:FX p.y
def DV {z:Int} (a:ZX z):List Value:=[.bool (decide (z<0)),CV a.n]
def fxL {q:Rat} (a:FX q):List Value:=DV a.z++[CV a.m]
def C2 {p:Pt} (a:PX p):List Value:=fxL a.x++fxL a.y
instance {x:Nat}:C8 (NX x):=⟨λa=>CV a,λa=>[Bj a],λa y hy=>by rcases xM.1 hy with rfl;rfl⟩
instance {z:Int}:C8 (ZX z):=⟨λa=>aG (DV a),λa=>[Bj a.n],λa y hy=>by rcases xM.1 hy with rfl;rfl⟩
theorem Q0 {a b y:As} (ha:a.ro=true) (hb:b.ro=true) (hy:y∈[a,b]):y.ro=true:=by
  rcases xL.1 hy with rfl|hy
  · exact ha
  · rcases xM.1 hy with rfl;exact hb
instance {q:Rat}:C8 (FX q):=⟨λa=>aG (fxL a),λa=>[Bj a.z.n,Bj a.m],λa y hy=>Q0 rfl rfl hy⟩
instance {p:Pt}:C8 (PX p):=⟨λa=>aG (C2 a),λa=>[Bj a.x.z.n,Bj a.x.m,Bj a.y.z.n,Bj a.y.m],λa y hy=>by
  rcases xL.1 hy with rfl|hy
  · rfl
  · rcases xL.1 hy with rfl|hy
    · rfl
    · exact Q0 O O hy⟩
section
variable {w0:BC} {S:Nat->Prop} {w W:World} {L:List As} {α:Type} [C8 α]
-- parts
theorem XS {q:Rat} {a:FX q} (h:Ro S w a):Ro S w a.z:=λy hy=>h y (by rcases xM.1 hy with rfl;exact List.mem_cons_self)
theorem eX {q:Rat} {a:FX q} (h:Ro S w a):Ro S w a.m:=λy hy=>h y (by rcases xM.1 hy with rfl;exact List.mem_cons_of_mem _ List.mem_cons_self)
theorem Pv {z:Int} {a:ZX z} (h:Ro S w a):Ro S w a.n:=λy hy=>h y hy
theorem XQ {p:Pt} {a:PX p} (h:Ro S w a):Ro S w a.x:=λy hy=>h y (by
  rcases xL.1 hy with rfl|hy
  · exact List.mem_cons_self
  · rcases xM.1 hy with rfl;exact List.mem_cons_of_mem _ List.mem_cons_self)
theorem ZG {p:Pt} {a:PX p} (h:Ro S w a):Ro S w a.y:=λy hy=>h y (List.mem_cons_of_mem _ (List.mem_cons_of_mem _ hy))
theorem fJ {z:Int} {a:NX z.natAbs} (h:Ro S w a):Ro S w (ZX.mk a:ZX z):=λy hy=>h y hy
theorem dX {q:Rat} {a:ZX q.num} {b:NX (q.den-1)} (h:Ro S w a) (k:Ro S w b):Ro S w (FX.mk a b:FX q):=λy hy=>by
  rcases xL.1 hy with rfl|hy
  · exact h _ List.mem_cons_self
  · exact k y hy
theorem dh {p:Pt} {a:FX p.x} {b:FX p.y} (h:Ro S w a) (k:Ro S w b):Ro S w (PX.mk a b:PX p):=λy hy=>by
  rcases xL.1 hy with rfl|hy
  · exact h _ List.mem_cons_self
  · rcases xL.1 hy with rfl|hy
    · exact h _ (List.mem_cons_of_mem _ List.mem_cons_self)
    · exact k y hy
theorem bQ:Ro S w NX.zero:=λy hy=>by
  rcases xM.1 hy with rfl
  exact ⟨(λb e=>by cases e),(λb e=>by cases e)⟩
theorem Zv {x y:Nat} {h:x=y} {a:NX x} (k:Ro S w a):Ro S w (a.cast h):=by subst h;exact k
theorem TZ {x:Nat} {a:NX x} (h:Ro S w a):Holds w (nA a.nv):=(h _ List.mem_cons_self).1
-- what a walk starts with
theorem de {x:Nat} {a:NX x} (h:Ro S w a) (t:∀y∈L,y.ro=true/\Holds w y):∀y∈Bj a::L,y.ro=true/\Holds w y:=CO rfl (h _ List.mem_cons_self).1 t
theorem Yx {z:Int} {a:ZX z} (h:Ro S w a) (t:∀y∈L,y.ro=true/\Holds w y):∀y∈Bj a.n::L,y.ro=true/\Holds w y:=de (Pv h) t
theorem N2 {q:Rat} {a:FX q} (h:Ro S w a) (t:∀y∈L,y.ro=true/\Holds w y):∀y∈Bj a.z.n::Bj a.m::L,y.ro=true/\Holds w y:=Yx (XS h) (de (eX h) t)
theorem US {p:Pt} {a:PX p} (h:Ro S w a) (t:∀y∈L,y.ro=true/\Holds w y):∀y∈Bj a.x.z.n::Bj a.x.m::Bj a.y.z.n::Bj a.y.m::L,y.ro=true/\Holds w y:=N2 (XQ h) (N2 (ZG h) t)
end
section
variable {P:Program} {ops:Array Oper} {rest:List Oper} {Q:Exit->Act->World->Prop} {n d:Nat} {F:List (Nat×Value)} {w0:BC} {S:Nat->Prop} {L:List As} {t:TypeId} {p:String} {af:Array Edge} {y:Operand} {f:FuncId} {xs:List Operand} {args:List Value} {ts:Array TypeId}
theorem cN {x:Nat} (hc:∀args w,(callFunc f args).run P w=.ok (.enter f args) w) (h:∀w,Own w0 w L->Calls P f args.toArray w (Ad (NX x) (SL w0 S L) w))
    (hf:evF F y=some (.func (.func f) #[] #[])) (hargs:xs.map (evF F)=args.map some) (hd:Nat.ble (d+1) n=true) (next:∀a:NX x,At w0 S a->AL P ops rest Q n ((d,CV a)::F) w0 (Bj a::L)) :
    AL P ops (⟨some d,.call { callee:=.value y,args:=xs.toArray,argTypes:=ts },t,p,af,none⟩::rest) Q n F w0 L:=zm hc h hf hargs hd next
theorem cZ {x:Int} (hc:∀args w,(callFunc f args).run P w=.ok (.enter f args) w) (h:∀w,Own w0 w L->Calls P f args.toArray w (Ad (ZX x) (SL w0 S L) w))
    (hf:evF F y=some (.func (.func f) #[] #[])) (hargs:xs.map (evF F)=args.map some) (hd:Nat.ble (d+1) n=true) (next:∀a:ZX x,At w0 S a->AL P ops rest Q n ((d,aG (DV a))::F) w0 (Bj a.n::L)) :
    AL P ops (⟨some d,.call { callee:=.value y,args:=xs.toArray,argTypes:=ts },t,p,af,none⟩::rest) Q n F w0 L:=zm hc h hf hargs hd next
theorem cF {x:Rat} (hc:∀args w,(callFunc f args).run P w=.ok (.enter f args) w) (h:∀w,Own w0 w L->Calls P f args.toArray w (Ad (FX x) (SL w0 S L) w))
    (hf:evF F y=some (.func (.func f) #[] #[])) (hargs:xs.map (evF F)=args.map some) (hd:Nat.ble (d+1) n=true) (next:∀a:FX x,At w0 S a->AL P ops rest Q n ((d,aG (fxL a))::F) w0 (Bj a.z.n::Bj a.m::L)) :
    AL P ops (⟨some d,.call { callee:=.value y,args:=xs.toArray,argTypes:=ts },t,p,af,none⟩::rest) Q n F w0 L:=zm hc h hf hargs hd next
theorem cP {x:Pt} (hc:∀args w,(callFunc f args).run P w=.ok (.enter f args) w) (h:∀w,Own w0 w L->Calls P f args.toArray w (Ad (PX x) (SL w0 S L) w))
    (hf:evF F y=some (.func (.func f) #[] #[])) (hargs:xs.map (evF F)=args.map some) (hd:Nat.ble (d+1) n=true) (next:∀a:PX x,At w0 S a->AL P ops rest Q n ((d,aG (C2 a))::F) w0 (Bj a.x.z.n::Bj a.x.m::Bj a.y.z.n::Bj a.y.m::L)) :
    AL P ops (⟨some d,.call { callee:=.value y,args:=xs.toArray,argTypes:=ts },t,p,af,none⟩::rest) Q n F w0 L:=zm hc h hf hargs hd next
end
theorem Zh (x:Nat):(dg x).length<=3*nw x:=GM (Nat.lt_of_lt_of_le (Bz x) (by rw [Nat.pow_mul];exact Nat.pow_le_pow_left jY _))
end
section
set_option maxRecDepth 100000
theorem V0:ElemT prog 79 3 1 8:=⟨underlying79,D9 jV⟩
theorem HX (p:Option Addr) (c:Nat) (ds:List Nat) (hd:J3 ds) (ho:An p ds.length c) (hl:ds.length<=1099511627776) (w:World) (h:Holds w (AB p (dgL ds))):Calls prog 213 #[(qw p ds.length c)] w (Ak w (qw p ((dg (val10 ds)).length) c)):=by
 refine AX (args:=[(qw p ds.length c)]) (L:=[AB p (dgL ds)]) func213 O O (Av O) (CO O h (Ah)) (zN (sL [0] O) (q4 (asg' O (oNl' (q1 (zI ?_))))))
 refine zo (tg λ(k:Nat)=>k<=ds.length/\val10 (ds.take k)=val10 ds) (tg λ(k:Nat)=>[(2,jj),(0,(qw p k c))]) (tg λ(k:Nat)=>[AB p (dgL ds)]) (tg λ(k:Nat)=>k) ds.length (⟨Nat.le_refl _,by rw [List.take_length]⟩) (sF O) sr (λk hJ=>?_)
 obtain ⟨hk,hv⟩:=hJ
 have hok:An p k c:=⟨λe=>⟨by have:=(ho.nil e).1;omega,(ho.nil e).2⟩,ho.spot,xK hk ho.le⟩
 have hkc:=hok.le
 refine zV (q4 (AM O (AG (v:=(vN k)) (AC O underlying79) O (AG (Bv (c:=(decide (0<k))) O O (CM (a:=0) (b:=k))) O (AM O ?_)))))
 refine zX (FM:=[(2,jj),(0,(qw p k c)),(3,(qw p k c)),(4,(vN k)),(5,(qa (decide (0<k)))),(6,(qa (decide (0<k)))),(14,(qa ((decide (0<k))&&(decide ((ds.getD (k-1) 0)=0)))))]) (LM:=[AB p (dgL ds)]) 8 ?_ ?_
 ·rcases xO (decide (0<k)) with hg1|hg1
  ·refine zC (k:=6) (u:=qa true) O (by rw [hg1]) ?_
   have hg1':=xR hg1
   exact Ds O (Ds O (Au (v:=(vN k)) O (AC O underlying79) (Au (v:=(vN (k-1))) O (BY (c:=((k-1:Nat):Int)) O O (CN (a:=k) (b:=1) Z Z)) (Au (v:=(pP (pB p) (pO p+(k-1)*1))) O (AF (j:=k-1) O O hok underlying79 sizeOf3 O Z) (Au (v:=(vN (ds.getD (k-1) 0))) O (AK (v:=(vN (ds.getD (k-1) 0))) (i:=0) O O (hok.ne Z) BN (EA (ds:=ds) (j:=k-1) Z)) (Au (v:=(qa (decide ((ds.getD (k-1) 0)=0)))) O (BO (c:=(decide ((ds.getD (k-1) 0)=0))) O O (Mf (a:=ds.getD (k-1) 0) (b:=0))) (AG (v:=(qa (decide ((ds.getD (k-1) 0)=0)))) (AN O O) O (oNl' (zR Bg (xP _))))))))))
  ·refine zC (k:=6) (u:=qa false) O (by rw [hg1]) ?_
   have hg1':=xQ hg1
   exact Ar O (Ar O (Ar O (Ar O (Ar O (Ar O (Ar O (AG (v:=(qa false)) (AI O O) O (oNl' (zR Bg (xP _))))))))))
 refine oNl' (zB (sL [2,0,14] O) (zA ?_))
 refine zM O (λhc0=>?_) (λhc0=>?_)
 ·simp only [jK] at hc0
  refine zG (zA (zI (zH (AM O (AM O (AG (v:=(vN k)) (AC O underlying79) O (AG (BY (c:=((k-1:Nat):Int)) O O (CN (a:=k) (b:=1) Z Z)) O (AG (v:=(qw p (k-1) c)) (HO (m:=k-1) O O underlying79 sizeOf3 Z) O (asg' O (oNl' (zB (sL [2,0] O) ?_)))))))))))
  exact zJ (zc (k-1) (⟨Z,by rw [Ma Z hc0.2,Nat.sub_add_cancel hc0.1,hv]⟩) Z (sF O) sr)
 ·simp only [jK] at hc0
  have htl:=Ua hd hk hv (hc0.imp (λh=>by omega) id)
  exact zU (zP (za (zS (q2 (AM O (asg' O (oNl' (zB (sL [2,0] O) (zA (zF (ret_one O (rd_tmp (v:=(qw p k c)) O) (λw hw=>⟨by rw [<-htl],hw.out⟩))))))))))))
theorem Np (a:NV) (i:Nat) (hi:i<=1099511627776) (w:World) (ha:Holds w (nA a)):Calls prog 212 #[(nV a),(vN i)] w (Ak w (vN ((dg a.x).getD i 0))):=by
 refine AX (args:=[(nV a),(vN i)]) (L:=[nA a]) func212 O O (Av O) (CO O ha (Ah)) (zN (sL [0,1] O) (q4 (asg' O (oNl' (q1 (q4 (AM O (AM O (AG (v:=(vN ((dg a.x).length))) (AC O underlying79) O (AG (Ae (c:=(decide (i<((dg a.x).length)))) O O (CM (a:=i) (b:=(dg a.x).length))) O (oNl' ?_)))))))))))
 refine zB (sL [0,1,4,8] O) (zA ?_)
 refine zM O (λhc0=>?_) (λhc0=>?_)
 ·replace hc0:=xR hc0
  exact q4 (AM O (AM O (AG (v:=(pP (pB a.p) (pO a.p+i*1))) (AF (j:=i) O O a.ok underlying79 sizeOf3 O Z) O (AG (AK (v:=(vN ((dg a.x).getD i 0))) (i:=0) O O (a.ok.ne Z) BN (EA (ds:=dg a.x) (j:=i) Z)) O (asg' O (oNl' (zB (sL [0,1,4] O) (zA (zF (zO (ret_one O (rd_tmp (v:=(vN ((dg a.x).getD i 0))) O) (λw hw=>⟨rfl,hw.out⟩))))))))))))
 ·replace hc0:=xQ hc0
  have hg:=EO hc0
  exact zG (q2 (asg' O (oNl' (zA (zF (ret_one O (rd_tmp (v:=(vI 0)) O) (λw hw=>⟨by rw [hg];rfl,hw.out⟩)))))))
theorem Qr (x:Nat) (hx:x<18446744073709551616) (w:World)  :Calls prog 207 #[(vK .u64 x)] w (HP w [] x):=by
 have hlen:(dg x).length<=5:=GM Z
 refine Ab (args:=[(vK .u64 x)]) func207 O O (Av O) (zN (sL [0] O) (q4 (asg' O (oNl' (q2 (asg' O (zf 3 1 (oNl' (q1 (zI ?_))))))))))
 refine yZ (tg λ(y:Nat) (p:Option Addr) (c:Nat) (k:Nat) (ds:List Nat)=>dg x=ds++dg y/\k=ds.length/\OwnOk p k c/\y<=x) (tg λ(y:Nat) (p:Option Addr) (c:Nat) (k:Nat) (ds:List Nat)=>[(2,jj),(0,(vK .u64 y)),(3,(qw p k c))]) (tg λ(y:Nat) (p:Option Addr) (c:Nat) (k:Nat) (ds:List Nat)=>[rowW p 3 1 k c (dgL ds)]) (tg λ(y:Nat) (p:Option Addr) (c:Nat) (k:Nat) (ds:List Nat)=>y) x none 0 0 ([]) (⟨rfl,rfl,OwnOk.none,Nat.le_refl _⟩) (sF O) sr (λy p c k ds hJ=>?_)
 obtain ⟨hd,hk,ho,hy⟩:=hJ
 have hkl:k<=5:=by have:=congrArg List.length hd;rw [xJ] at this;omega
 refine zV (q4 (AM O (AG (Bv (c:=(decide (0<y))) O O (CM (a:=0) (b:=y))) O (oNl' (zB (sL [2,0,3,5] O) (zA ?_))))))
 refine zM O (λhc0=>?_) (λhc0=>?_)
 ·replace hc0:=xR hc0
  refine zG (zA (zI (q4 (AM O (AM O (AG (Dh (c:=((y%10000:Nat):Int)) O O Z (L6 (a:=y) (b:=10000))) O (AG (A9 (c:=((y%10000:Nat):Int)) O underlying69 underlying3 (FQ Z)) O (zZ (V:=λb1=>(qw (jk b1) 1 1)) (T:=3) (cs:=[(vN (y%10000))]) (AJ O) (Af (cs:=[(vN (y%10000))]) (pv:=[(0,(vN (y%10000)))]) underlying79 sizeOf3 zeroValue3 jY jY O jV) O (Av O) λb1=>yT (j:=0) (cs2:=dgL (ds++[y%10000])) V0 O ho (by simp [Ck];omega) O O O O jY (FD Z) Z (by rw [FT];rfl) O λp_1 c_1 ho_1 hne_1=>asg' O (oNl' ?_)))))))))
  exact zB (sL [2,0,3] O) (zA (zH (AM O (AG (Fc (c:=((y/10000:Nat):Int)) O O Z (I_ (a:=y) (b:=10000) Z)) O (asg' O (oNl' (zB (sL [2,0,3] O) (zJ (yK (y/10000) p_1 c_1 (k+1) (ds++[y%10000]) (⟨by rw [hd,F4 Z,xw];rfl,by simp [hk],ho_1,Z⟩) Z (sF O) (sl sr))))))))))
 ·replace hc0:=xQ hc0
  refine zU (zP (z8 (zS (q2 (AM O (asg' O (oNl' (zB (sL [2,0,3] O) (zA (zF ?_))))))))))
  obtain rfl:y=0:=by omega
  rw [Fu,List.append_nil] at hd
  exact ret_one O (rd_tmp (v:=(qw p k c)) O) (λw hw=>VT hw (i:=0) O ho hk (by rw [hd,List.take_length]) (by rw [hd,<-hk]))
end
section
set_option maxRecDepth 100000
theorem ZI (a b:NV) (hla:(dg a.x).length<=549755813888) (hlb:(dg b.x).length<=549755813888) (w:World) (ha:Holds w (nA a)) (hb:Holds w (nA b)):Calls prog 198 #[(nV a),(nV b)] w (HP w [] (a.x+b.x)):=by
 refine AX (args:=[(nV a),(nV b)]) (L:=[nA a,nA b]) func198 O O (Av O) (CO O ha (CO O hb (Ah))) (zN (sL [0,1] O) (q4 (asg' O (oNl' (q2 (asg' O (zf 3 1 (oNl' (q2 (asg' O (oNl' ?_)))))))))))
 refine q1 (q4 (asg' O (oNl' (zA (zI ?_)))))
 refine yZ (tg λ(i:Nat) (cy:Nat) (p:Option Addr) (c:Nat) (ds:List Nat)=>J3 ds/\i=ds.length/\OwnOk p i c/\cy<=1/\val10 ds+10000^i*cy=val10 ((dg a.x).take i)+val10 ((dg b.x).take i)/\(i<=max (dg a.x).length (dg b.x).length\/i<=max (dg a.x).length (dg b.x).length+1/\cy=0)) (tg λ(i:Nat) (cy:Nat) (p:Option Addr) (c:Nat) (ds:List Nat)=>[(0,(nV a)),(1,(nV b)),(4,jj),(6,(vN cy)),(7,(vN i)),(5,(qw p i c))]) (tg λ(i:Nat) (cy:Nat) (p:Option Addr) (c:Nat) (ds:List Nat)=>[rowW p 3 1 i c (dgL ds),nA a,nA b]) (tg λ(i:Nat) (cy:Nat) (p:Option Addr) (c:Nat) (ds:List Nat)=>max (dg a.x).length (dg b.x).length+2-i) 0 0 none 0 ([]) (⟨R4,rfl,OwnOk.none,Z,rfl,.inl Z⟩) (sF O) sr (λi cy p c ds hJ=>?_)
 obtain ⟨hdd,hk,ho,hcy,hv,hm⟩:=hJ
 have ga:=Gr a.x i
 have gb:=Gr b.x i
 refine zV (q4 (AM O (AM O (AG (v:=(vN ((dg a.x).length))) (AC O underlying79) O (AG (Ae (c:=(decide (i<((dg a.x).length)))) O O (CM (a:=i) (b:=(dg a.x).length))) O (AM O ?_))))))
 refine zX (FM:=[(0,(nV a)),(1,(nV b)),(4,jj),(6,(vN cy)),(7,(vN i)),(5,(qw p i c)),(9,(vN i)),(10,(nV a)),(11,(vN ((dg a.x).length))),(12,(qa (decide (i<((dg a.x).length))))),(13,(qa (decide (i<((dg a.x).length))))),(18,(qa ((decide (i<((dg a.x).length)))||(decide (i<((dg b.x).length))))))]) (LM:=[rowW p 3 1 i c (dgL ds),nA a,nA b]) 5 ?_ ?_
 ·rcases xO (decide (i<((dg a.x).length))) with hg1|hg1
  ·refine zC (k:=13) (u:=qa true) O (by rw [hg1]) ?_
   have hg1':=xR hg1
   exact Ar O (Ar O (Ar O (Ar O (AG (v:=(qa true)) (AN O O) O (oNl' (zR Bg (xP _)))))))
  ·refine zC (k:=13) (u:=qa false) O (by rw [hg1]) ?_
   have hg1':=xQ hg1
   exact Ds O (Ds O (Au (v:=(vN ((dg b.x).length))) O (AC O underlying79) (Au (v:=(qa (decide (i<((dg b.x).length))))) O (Ae (c:=(decide (i<((dg b.x).length)))) O O (CM (a:=i) (b:=(dg b.x).length))) (AG (v:=(qa (decide (i<((dg b.x).length))))) (AI O O) O (oNl' (zR Bg (xP _)))))))
 refine AM O ?_
 refine zX (FM:=[(0,(nV a)),(1,(nV b)),(4,jj),(6,(vN cy)),(7,(vN i)),(5,(qw p i c)),(9,(vN i)),(10,(nV a)),(11,(vN ((dg a.x).length))),(12,(qa (decide (i<((dg a.x).length))))),(13,(qa (decide (i<((dg a.x).length))))),(18,(qa ((decide (i<((dg a.x).length)))||(decide (i<((dg b.x).length)))))),(19,(qa ((decide (i<((dg a.x).length)))||(decide (i<((dg b.x).length)))))),(22,(qa (((decide (i<((dg a.x).length)))||(decide (i<((dg b.x).length))))||(decide (0<cy)))))]) (LM:=[rowW p 3 1 i c (dgL ds),nA a,nA b]) 3 ?_ ?_
 ·rcases xO ((decide (i<((dg a.x).length)))||(decide (i<((dg b.x).length)))) with hg2|hg2
  ·refine zC (k:=19) (u:=qa true) O (by rw [hg2]) ?_
   have hg2':=hg2
   simp only [jK] at hg2'
   exact Ar O (Ar O (AG (v:=(qa true)) (AN O O) O (oNl' (zR EQ (xP _)))))
  ·refine zC (k:=19) (u:=qa false) O (by rw [hg2]) ?_
   have hg2':=hg2
   simp only [jK] at hg2'
   exact Ds O (Au (v:=(qa (decide (0<cy)))) O (Bv (c:=(decide (0<cy))) O O (CM (a:=0) (b:=cy))) (AG (v:=(qa (decide (0<cy)))) (AI O O) O (oNl' (zR EQ (xP _)))))
 refine oNl' (zB (sL [0,1,4,6,7,5,22] O) (zA ?_))
 refine zM O (λhc0=>?_) (λhc0=>?_)
 ·simp only [jK] at hc0
  refine zG (q1 (zI (q4 (AM O (AM O ?_)))))
  have hz1:=Gr a.x i
  refine Ct call212 (λw hw=>Np a i Z w (hw.holds (i:=1) O)) O (AM O (AM O ?_))
  have hz2:=Gr b.x i
  refine Ct call212 (λw hw=>Np b i Z w (hw.holds (i:=2) O)) O (AG (AW (c:=((((dg a.x).getD i 0)+((dg b.x).getD i 0):Nat):Int)) O O (AU (a:=(dg a.x).getD i 0) (b:=(dg b.x).getD i 0) Z)) O (AM O (AG (AW (c:=(((((dg a.x).getD i 0)+((dg b.x).getD i 0))+cy:Nat):Int)) O O (AU (a:=((dg a.x).getD i 0)+((dg b.x).getD i 0)) (b:=cy) Z)) O (asg' O (q3 (sL [0,1,4,6,7,5,8] O) (AM O (AM O (AG (Dh (c:=((((((dg a.x).getD i 0)+((dg b.x).getD i 0))+cy)%10000:Nat):Int)) O O Z (L6 (a:=(((dg a.x).getD i 0)+((dg b.x).getD i 0))+cy) (b:=10000))) O (zZ (V:=λb1=>(qw (jk b1) 1 1)) (T:=3) (cs:=[(vN (((((dg a.x).getD i 0)+((dg b.x).getD i 0))+cy)%10000))]) (AJ O) (Af (cs:=[(vN (((((dg a.x).getD i 0)+((dg b.x).getD i 0))+cy)%10000))]) (pv:=[(0,(vN (((((dg a.x).getD i 0)+((dg b.x).getD i 0))+cy)%10000)))]) underlying79 sizeOf3 zeroValue3 jY jY O jV) O (Av O) λb1=>yT (j:=0) (cs2:=dgL (ds++[((((dg a.x).getD i 0)+((dg b.x).getD i 0))+cy)%10000])) V0 O ho (by simp [Ck];omega) O O O O jY (FD Z) Z (by rw [FT];rfl) O λp_1 c_1 ho_1 hne_1=>asg' O ?_)))))))))
  refine oNl' (zB (sL [0,1,4,6,7,5,8] O) (zA (zH (AM O (AG (Fc (c:=((((((dg a.x).getD i 0)+((dg b.x).getD i 0))+cy)/10000:Nat):Int)) O O Z (Fb (a:=(((dg a.x).getD i 0)+((dg b.x).getD i 0))+cy) (b:=10000) Z)) O (asg' O (oNl' (zB (sL [0,1,4,6,7,5,8] O) (zJ (zA (zH ?_)))))))))))
  refine AM O (AG (AW (c:=((i+1:Nat):Int)) O O (AU (a:=i) (b:=1) Z)) O (asg' O (oNl' (zB (sL [0,1,4,6,7,5,8] O) ?_))))
  have hnx:i+1<=max (dg a.x).length (dg b.x).length\/i+1<=max (dg a.x).length (dg b.x).length+1/\((dg a.x).getD i 0+(dg b.x).getD i 0+cy)/10000=0:=by
            by_cases hi:i<max (dg a.x).length (dg b.x).length
            ·exact .inl Z
            ·refine .inr ⟨Z,?_⟩
             rw [EO (show ¬i<(dg a.x).length by omega),EO (show ¬i<(dg b.x).length by omega)]
             omega
  exact yK (i+1) (((dg a.x).getD i 0+(dg b.x).getD i 0+cy)/10000) p_1 c_1 (ds++[((dg a.x).getD i 0+(dg b.x).getD i 0+cy)%10000]) (⟨PT hdd Z,by simp [hk],ho_1,Z,by rw [B8,B8];exact Uw hk hv O,hnx⟩) Z (sF O) (sl sr)
 ·simp only [jK] at hc0
  have hfin:val10 ds=a.x+b.x:=by rw [DO Z,DO Z,Cx,Cx,show cy=0 by omega] at hv;simpa using hv
  exact zU (zP (z8 (zS (q2 (AM O (Ct (args:=[(qw p i c)]) (v:=(qw p ((dg (val10 ds)).length) c)) call213 (λw hw=>(by have h9:=HX p c ds hdd (by rw [<-hk];exact ho.row) Z w (K_ (hw.holds (i:=0) O) ho hk);rw [<-hk] at h9;exact h9)) O (asg' O (oNl' (zB (sL [0,1,4,6,7,5] O) (zA (zF (ret_one O (rd_tmp (v:=(qw p ((dg (val10 ds)).length) c)) O) (λw hw=>VT hw (i:=0) O ho hk (by rw [<-hfin];exact F7 hdd) (by rw [hfin]))))))))))))))
theorem SO (a b:NV) (hab:b.x<=a.x) (hla:(dg a.x).length<=549755813888) (w:World) (ha:Holds w (nA a)) (hb:Holds w (nA b)):Calls prog 210 #[(nV a),(nV b)] w (HP w [] (a.x-b.x)):=by
 have hlb:=IY hab
 refine AX (args:=[(nV a),(nV b)]) (L:=[nA a,nA b]) func210 O O (Av O) (CO O ha (CO O hb (Ah))) (zN (sL [0,1] O) (q4 (asg' O (oNl' (q2 (asg' O (zf 3 1 (oNl' (q2 (asg' O (oNl' ?_)))))))))))
 refine q1 (q4 (asg' O (oNl' (zA (zI ?_)))))
 refine yZ (tg λ(i:Nat) (ld:Nat) (p:Option Addr) (c:Nat) (ds:List Nat)=>J3 ds/\i=ds.length/\OwnOk p i c/\ld<=1/\val10 ds+val10 ((dg b.x).take i)=val10 ((dg a.x).take i)+10000^i*ld/\i<=(dg a.x).length) (tg λ(i:Nat) (ld:Nat) (p:Option Addr) (c:Nat) (ds:List Nat)=>[(0,(nV a)),(1,(nV b)),(4,jj),(6,(vN ld)),(7,(vN i)),(5,(qw p i c))]) (tg λ(i:Nat) (ld:Nat) (p:Option Addr) (c:Nat) (ds:List Nat)=>[rowW p 3 1 i c (dgL ds),nA a,nA b]) (tg λ(i:Nat) (ld:Nat) (p:Option Addr) (c:Nat) (ds:List Nat)=>(dg a.x).length-i) 0 0 none 0 ([]) (⟨R4,rfl,OwnOk.none,Z,rfl,Z⟩) (sF O) sr (λi ld p c ds hJ=>?_)
 obtain ⟨hdd,hk,ho,hcy,hv,hm⟩:=hJ
 have ga:=Gr a.x i
 have gb:=Gr b.x i
 refine zV (q4 (AM O (AM O (AG (v:=(vN ((dg a.x).length))) (AC O underlying79) O (AG (Ae (c:=(decide (i<((dg a.x).length)))) O O (CM (a:=i) (b:=(dg a.x).length))) O (oNl' (zB (sL [0,1,4,6,7,5,12] O) (zA ?_))))))))
 refine zM O (λhc0=>?_) (λhc0=>?_)
 ·replace hc0:=xR hc0
  refine zG (q1 (zI (zV (CQ (Db 6++[(8,true),(6,false),(7,true),(9,true),(10,true)]) sr (BT O (BT O (Aj (v:=(pP (pB a.p) (pO a.p+i*1))) O (AF (j:=i) O O a.ok underlying79 sizeOf3 O Z) (Aj O (AK (v:=(vN ((dg a.x).getD i 0))) (i:=1) O O (a.ok.ne Z) BN (EA (ds:=dg a.x) (j:=i) Z)) (BT O (BT O (BT O ?_)))))))))))
  refine zK O ?_
  have hz1:=Gr b.x i
  refine Ct call212 (λw hw=>Np b i Z w (hw.holds (i:=2) O)) O (zD sr (Aj O (BY (c:=((((dg a.x).getD i 0:Nat):Int)-(((dg b.x).getD i 0:Nat):Int))) O O (BP Z Z)) (Aj O (BY (c:=((((dg a.x).getD i 0:Nat):Int)-(((dg b.x).getD i 0:Nat):Int)-(ld:Int))) O O (BP Z Z)) (pS' O (zT (zB (sL [0,1,4,6,7,5,8] O) (q2 (asg' O (oNl' (q1 (q4 ?_)))))))))))
  refine AM O (AG (Ae (c:=(decide (((((dg a.x).getD i 0:Nat):Int)-(((dg b.x).getD i 0:Nat):Int)-(ld:Int))<(0:Int)))) O O O) O (oNl' (zB (sL [0,1,4,6,7,5,8,26] O) (zA ?_))))
  refine y8 (tg λ(d:Nat) (ld2:Nat)=>d<10000/\ld2<=1/\d+(dg b.x).getD i 0+ld=(dg a.x).getD i 0+10000*ld2) (tg λ(d:Nat) (ld2:Nat)=>[(0,(nV a)),(1,(nV b)),(4,jj),(7,(vN i)),(5,(qw p i c)),(8,(vN d)),(6,(vN ld2))]) (tg λ(d:Nat) (ld2:Nat)=>[rowW p 3 1 i c (dgL ds),nA a,nA b]) ?_ ?_
  ·refine zM O (λhc1=>?_) (λhc1=>?_)
   ·replace hc1:=xR hc1
    exact q4 (AM O (AG (AW (c:=(((dg a.x).getD i 0+10000-(dg b.x).getD i 0-ld:Nat):Int)) O O (by rw [BP Z Z];omega)) O (asg' O (oNl' (zB (sL [0,1,4,6,7,5,8] O) (zA (zH (asg' O (oNl' (yY ((dg a.x).getD i 0+10000-(dg b.x).getD i 0-ld) 1 (⟨Z,Z,Z⟩) (sF O) sr))))))))))
   ·replace hc1:=xQ hc1
    exact yF (k:=8) (u:=(vN ((dg a.x).getD i 0-(dg b.x).getD i 0-ld))) O (by show Value.int _ _=Value.int _ _;congr 1;omega) (zG (yY ((dg a.x).getD i 0-(dg b.x).getD i 0-ld) 0 (⟨Z,Z,Z⟩) (sF O) sr))
  ·intro d ld2 hJ
   obtain ⟨hd,hl2,hd2⟩:=hJ
   refine zA (zH (AM O (AM O (zZ (V:=λb1=>(qw (jk b1) 1 1)) (T:=3) (cs:=[(vN d)]) (AJ O) (Af (cs:=[(vN d)]) (pv:=[(0,(vN d))]) underlying79 sizeOf3 zeroValue3 jY jY O jV) O (Av O) λb1=>yT (j:=0) (cs2:=dgL (ds++[d])) V0 O ho (by simp [Ck];omega) O O O O jY (FD Z) Z (by rw [FT];rfl) O λp_1 c_1 ho_1 hne_1=>asg' O (oNl' (zB (sL [0,1,4,7,5,8,6] O) (zJ (zA (zH ?_)))))))))
   exact AM O (AG (AW (c:=((i+1:Nat):Int)) O O (AU (a:=i) (b:=1) Z)) O (asg' O (oNl' (zB (sL [0,1,4,7,5,8,6] O) (yK (i+1) ld2 p_1 c_1 (ds++[d]) (⟨PT hdd Z,by simp [hk],ho_1,Z,by rw [B8,B8];exact Oc hk hv hd2,Z⟩) Z (sF O) (sl sr))))))
 ·replace hc0:=xQ hc0
  have hfin:val10 ds=a.x-b.x:=by
   rw [DO Z,DO Z,Cx,Cx] at hv
   exact Ov hdd hk Z hab hv
  exact zU (zP (z8 (zS (q2 (AM O (Ct (args:=[(qw p i c)]) (v:=(qw p ((dg (val10 ds)).length) c)) call213 (λw hw=>(by have h9:=HX p c ds hdd (by rw [<-hk];exact ho.row) Z w (K_ (hw.holds (i:=0) O) ho hk);rw [<-hk] at h9;exact h9)) O (asg' O (oNl' (zB (sL [0,1,4,6,7,5] O) (zA (zF (ret_one O (rd_tmp (v:=(qw p ((dg (val10 ds)).length) c)) O) (λw hw=>VT hw (i:=0) O ho hk (by rw [<-hfin];exact F7 hdd) (by rw [hfin]))))))))))))))
theorem Oe (a b:NV) (hla:(dg a.x).length<=549755813888) (hlb:(dg b.x).length<=549755813888) (w:World) (ha:Holds w (nA a)) (hb:Holds w (nA b)):Calls prog 211 #[(nV a),(nV b)] w (Ak w (vI (DZ a.x b.x))):=by
 refine AX (args:=[(nV a),(nV b)]) (L:=[nA a,nA b]) func211 O O (Av O) (CO O ha (CO O hb (Ah))) (zN (sL [0,1] O) (q4 (asg' O (oNl' (q1 (q4 (AM O (AG (v:=(vN ((dg a.x).length))) (AC O underlying79) O (AM O (AG (v:=(vN ((dg b.x).length))) (AC O underlying79) O (AG (Ae (c:=(decide (((dg a.x).length)<((dg b.x).length)))) O O (CM (a:=(dg a.x).length) (b:=(dg b.x).length))) O ?_)))))))))))
 refine oNl' (zB (sL [0,1,4,10] O) (zA ?_))
 refine zM O (λhc0=>?_) (λhc0=>?_)
 ·replace hc0:=xR hc0
  have hz:DZ a.x b.x = -1:=if_pos (M2 hc0)
  exact q4 (asg' O (oNl' (zA (zF (zO (ret_one O (rd_tmp (v:=(vI (-1:Int))) O) (λw hw=>⟨by rw [hz],hw.out⟩)))))))
 ·replace hc0:=xQ hc0
  refine zG (q1 (q4 (AM O (AG (v:=(vN ((dg a.x).length))) (AC O underlying79) O (AM O (AG (v:=(vN ((dg b.x).length))) (AC O underlying79) O (AG (Bv (c:=(decide (((dg b.x).length)<((dg a.x).length)))) O O (CM (a:=(dg b.x).length) (b:=(dg a.x).length))) O (oNl' (zB (sL [0,1,4,15] O) (zA ?_))))))))))
  refine zM O (λhc1=>?_) (λhc1=>?_)
  ·replace hc1:=xR hc1
   have hz:DZ a.x b.x=1:=by
      have h9:=M2 hc1
      unfold DZ;rw [if_neg Z,if_neg Z]
   exact q4 (asg' O (oNl' (zA (zF (zO (ret_one O (rd_tmp (v:=(vI 1)) O) (λw hw=>⟨by rw [hz],hw.out⟩)))))))
  ·replace hc1:=xQ hc1
   refine zG (q1 (q4 (AM O (AG (v:=(vN ((dg a.x).length))) (AC O underlying79) O (AG (BY (c:=((((dg a.x).length:Nat):Int)-1)) O O (BP Z Z)) O (asg' O (oNl' (zB (sL [0,1,4,5] O) (zA (zI ?_))))))))))
   refine zo (tg λ(j:Nat)=>j<=(dg a.x).length/\(dg a.x).drop j=(dg b.x).drop j) (tg λ(j:Nat)=>[(0,(nV a)),(1,(nV b)),(5,(vI (((j:Nat):Int)-1)))]) (tg λ(j:Nat)=>[nA a,nA b]) (tg λ(j:Nat)=>j) ((dg a.x).length) (⟨Nat.le_refl _,by rw [List.drop_length,List.drop_of_length_le Z]⟩) (sF O) sr (λj hJ=>?_)
   obtain ⟨hm,hd⟩:=hJ
   have hl:(dg a.x).length=(dg b.x).length:=by omega
   refine zV (q4 (AM O (AG (Bp (c:=(decide ((0:Int)<=(((j:Nat):Int)-1)))) O O O) O (oNl' (zB (sL [0,1,5,20] O) (zA ?_))))))
   refine zM O (λhc2=>?_) (λhc2=>?_)
   ·replace hc2:=xR hc2
    have hdj:(dg a.x).drop (j-1+1)=(dg b.x).drop (j-1+1):=by rw [Nat.sub_add_cancel Z];exact hd
    refine yF (k:=5) (u:=(vN (j-1))) O (by show Value.int _ _=Value.int _ _;congr 1;omega) (zG (q1 (zI (zV (zV (CQ (Db 9) sr (BT O (BT O (Aj (v:=(pP (pB a.p) (pO a.p+(j-1)*1))) O (AF (j:=j-1) O O a.ok underlying79 sizeOf3 O Z) (Aj O (AK (v:=(vN ((dg a.x).getD (j-1) 0))) (i:=0) O O (a.ok.ne Z) BN (EA (ds:=dg a.x) (j:=j-1) Z)) (BT O ?_)))))))))))
    refine BT O (Aj (v:=(pP (pB b.p) (pO b.p+(j-1)*1))) O (AF (j:=j-1) O O b.ok underlying79 sizeOf3 O Z) (Aj O (AK (v:=(vN ((dg b.x).getD (j-1) 0))) (i:=1) O O (b.ok.ne Z) BN (EA (ds:=dg b.x) (j:=j-1) Z)) (Aj O (Ae (c:=(decide (((dg a.x).getD (j-1) 0)<((dg b.x).getD (j-1) 0)))) O O (CM (a:=(dg a.x).getD (j-1) 0) (b:=(dg b.x).getD (j-1) 0))) (zT (zB (sL [0,1,5,31] O) (zA ?_))))))
    refine zM O (λhc3=>?_) (λhc3=>?_)
    ·replace hc3:=xR hc3
     have hz:DZ a.x b.x = -1:=if_pos (Ut hl Z hdj hc3)
     exact q4 (asg' O (oNl' (zA (zF (zO (zY (zO (zk (zY (zO (ret_one O (rd_tmp (v:=(vI (-1:Int))) O) (λw hw=>⟨by rw [hz],hw.out⟩))))))))))))
    ·replace hc3:=xQ hc3
     refine zG (q1 (CQ (Db 9) sr (BT O (BT O (Aj (v:=(pP (pB a.p) (pO a.p+(j-1)*1))) O (AF (j:=j-1) O O a.ok underlying79 sizeOf3 O Z) (Aj O (AK (v:=(vN ((dg a.x).getD (j-1) 0))) (i:=0) O O (a.ok.ne Z) BN (EA (ds:=dg a.x) (j:=j-1) Z)) (BT O (BT O (Aj (v:=(pP (pB b.p) (pO b.p+(j-1)*1))) O (AF (j:=j-1) O O b.ok underlying79 sizeOf3 O Z) (Aj O (AK (v:=(vN ((dg b.x).getD (j-1) 0))) (i:=1) O O (b.ok.ne Z) BN (EA (ds:=dg b.x) (j:=j-1) Z)) (Aj O (Bv (c:=(decide (((dg b.x).getD (j-1) 0)<((dg a.x).getD (j-1) 0)))) O O (CM (a:=(dg b.x).getD (j-1) 0) (b:=(dg a.x).getD (j-1) 0))) ?_)))))))))))
     refine zT (zB (sL [0,1,5,40] O) (zA ?_))
     refine zM O (λhc4=>?_) (λhc4=>?_)
     ·replace hc4:=xR hc4
      have hz:DZ a.x b.x=1:=by
        have h9:=Ut hl.symm Z hdj.symm hc4
        unfold DZ;rw [if_neg Z,if_neg Z]
      exact q4 (asg' O (oNl' (zA (zF (zY (zO (zk (zY (zO (ret_one O (rd_tmp (v:=(vI 1)) O) (λw hw=>⟨by rw [hz],hw.out⟩)))))))))))
     ·replace hc4:=xQ hc4
      exact zG (zJ (zA (zH (AM O (AG (BY (c:=(((j-1:Nat):Int)-1)) O O (BP Z Z)) O (asg' O (oNl' (zB (sL [0,1,5] O) (zc (j-1) (⟨Z,Pz hl Z hdj Z⟩) Z (sF O) sr)))))))))
   ·replace hc2:=xQ hc2
    obtain rfl:j=0:=by omega
    have hz:DZ a.x b.x=0:=Nl.2 (ay hd)
    exact zU (zP (za (zS (q2 (asg' O (oNl' (zA (zF (ret_one O (rd_tmp (v:=(vI 0)) O) (λw hw=>⟨by rw [hz],hw.out⟩))))))))))
end
end Go.Proofs.YtpolhpjiahbidaaGreatDoor
