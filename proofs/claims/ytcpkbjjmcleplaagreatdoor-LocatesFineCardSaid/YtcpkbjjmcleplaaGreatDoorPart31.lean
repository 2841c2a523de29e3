import Derived.Lib.ItoaNum
import Derived.Laws.Runes
import Derived.Test.YtcpkbjjmcleplaaGreatDoorPart16
namespace Go.Proofs.YtcpkbjjmcleplaaGreatDoor
open Go Go.RowKit Go.Proofs.Tryz
open Go.Value renaming slice→qz,bool→qa
set_option linter.unusedVariables false
set_option linter.unusedSimpArgs false
section
def val10:List Nat->Nat
  | []=>0
  | d::r=>d+10000*val10 r
def bQ:Nat->Nat->List Nat
  | 0,_=>[]
  | f+1,x=>if x=0 then [] else x%10000::bQ f (x/10000)
def dg (x:Nat):List Nat:=bQ x x
theorem Ps:∀(f g x:Nat),x<=f->x<=g->bQ f x=bQ g x
  | 0,0,_,_,_=>rfl
  | 0,g+1,x,h,_=>by
    obtain rfl:x=0:=by omega
    simp [bQ]
  | f+1,0,x,_,h=>by
    obtain rfl:x=0:=by omega
    simp [bQ]
  | f+1,g+1,x,h1,h2=>by
    unfold bQ
    split
    · rfl
    · rw [Ps f g (x/10000) Z Z]
theorem GH:dg 0=[]:=rfl
theorem GO {x:Nat} (h:x≠0):dg x=x%10000::dg (x/10000):=by
  unfold dg
  cases x with
  | zero=>exact absurd rfl h
  | succ k =>
    rw [bQ,if_neg h,Ps k ((k+1)/10000) ((k+1)/10000) Z (Nat.le_refl _)]
def KC (ds:List Nat):Prop:=∀d∈ds,d<10000
theorem FA (x:Nat):KC (dg x):=by
  induction x using Nat.strongRecOn with
  | _ x ih =>
    by_cases h:x=0
    · subst h;intro d hd;cases hd
    · rw [GO h]
      intro d hd
      rcases xL.1 hd with rfl|hd
      · exact Nat.mod_lt _ Z
      · exact ih (x/10000) Z d hd
theorem DI (x:Nat):val10 (dg x)=x:=by
  induction x using Nat.strongRecOn with
  | _ x ih =>
    by_cases h:x=0
    · subst h;rfl
    · rw [GO h,val10,ih (x/10000) Z]
      omega
def SV (ds:List Nat):Prop:=KC ds/\ds.getLast?≠some 0
theorem RD {ds:List Nat} (h:SV ds) (h0:val10 ds=0):ds=[]:=by
  induction ds with
  | nil=>rfl
  | cons d r ih =>
    rw [val10] at h0
    have hr:r=[]:=by
      refine ih ⟨λe he=>h.1 e (List.mem_cons_of_mem _ he),λe=>?_⟩ Z
      cases r with
      | nil=>cases e
      | cons e' r'=>exact h.2 (by rw [List.getLast?_cons_cons];exact e)
    subst hr
    exact absurd (by simp;omega) h.2
theorem V0 {ds:List Nat} (h:SV ds):dg (val10 ds)=ds:=by
  induction ds with
  | nil=>rfl
  | cons d r ih =>
    have hd:=h.1 d jX
    have hcr:SV r:=⟨λe he=>h.1 e (List.mem_cons_of_mem _ he),λe=>by
      cases r with
      | nil=>cases e
      | cons e' r'=>exact h.2 (by rw [List.getLast?_cons_cons];exact e)⟩
    by_cases h0:val10 (d::r)=0
    · exact absurd (RD h h0) jX
    · rw [GO h0,val10]
      have e1:(d+10000*val10 r)%10000=d:=by omega
      have e2:(d+10000*val10 r)/10000=val10 r:=by omega
      rw [e1,e2,ih hcr]
theorem E2 (a b:List Nat):val10 (a++b)=val10 a+10000^a.length*val10 b:=by
  induction a with
  | nil=>simp [val10]
  | cons d r ih =>
    simp only [List.cons_append,val10,ih,List.length_cons]
    rw [Nat.pow_succ,Nat.mul_add,<-Nat.mul_assoc,Nat.mul_comm (10000^r.length) 10000,Nat.add_assoc]
theorem Dn {ds:List Nat} (h:KC ds):val10 ds<10000^ds.length:=by
  induction ds with
  | nil=>simp [val10]
  | cons d r ih =>
    have h1:=ih λe he=>h e (List.mem_cons_of_mem _ he)
    have h2:=h d jX
    rw [val10,List.length_cons,Nat.pow_succ]
    omega
theorem NP (ds:List Nat):val10 (ds++[0])=val10 ds:=by rw [E2];simp [val10]
def dgL (ds:List Nat):List Value:=ds.map λ(d:Nat)=>vN d
theorem Cw (ds:List Nat):(dgL ds).length=ds.length:=by simp [dgL]
theorem Ea {ds:List Nat} {j:Nat} (h:j<ds.length):(dgL ds)[j*1]?=some (vN (ds.getD j 0)):=by simp [dgL,h]
theorem F1 (a b:List Nat):dgL (a++b)=dgL a++dgL b:=by simp [dgL]
theorem Pu (ds:List Nat) (k:Nat):dgL (ds.take k)=(dgL ds).take k:=by simp [dgL,List.map_take]
theorem Sm (ds:List Nat):((dgL ds).all λu=>u.oneCell')=true:=by
  rw [List.all_eq_true]
  intro u hu
  obtain ⟨d,_,rfl⟩:=List.mem_map.1 hu
  rfl
structure NV where
  p:Option Addr
  c:Nat
  x:Nat
  ok:BG p (dg x).length c
@[reducible] def NV.n (v:NV):Nat:=(dg v.x).length
@[reducible] def nV (v:NV):Value:=.slice v.p (dg v.x).length v.c
def nA (v:NV):As:=AI v.p (dgL (dg v.x))
theorem S7 (v:NV):(nA v).ro=true:=rfl
theorem GU.take {off k:Nat} {cs:List Value} {o:Obj} (h:GU off cs o):GU off (cs.take k) o:=by
  obtain ⟨cur,T,fr,rfl,hcs⟩:=h
  refine ⟨cur,T,fr,rfl,?_⟩
  rw [List.length_take]
  conv=>rhs;rw [<-hcs,List.take_take]
theorem NO {ds:List Nat} {k:Nat} (hk:k<ds.length) (h0:ds.getD k 0=0):val10 (ds.take k)=val10 (ds.take (k+1)):=by
  rw [List.take_add_one]
  have:ds[k]?=some 0:=by simp [hk] at h0 ⊢;exact h0
  rw [this]
  exact (NP _).symm
theorem SG {ds:List Nat} {k:Nat} (hd:KC ds) (hk:k<=ds.length) (h:k=0\/ds.getD (k-1) 0≠0):SV (ds.take k):=by
  refine ⟨λd hd'=>hd d (List.mem_of_mem_take hd'),λe=>?_⟩
  rcases Nat.eq_zero_or_pos k with h0|h0
  · subst h0;simp at e
  · have h1:=h.resolve_left Z
    rw [List.getLast?_eq_getElem?] at e
    simp only [List.length_take,Nat.min_eq_left hk] at e
    rw [List.getElem?_take,if_pos Z] at e
    exact h1 (by simp [List.getD,e])
theorem YB {ds:List Nat} {k:Nat} (hd:KC ds) (hk:k<=ds.length) (hv:val10 (ds.take k)=val10 ds) (h:k=0\/ds.getD (k-1) 0≠0):k=(dg (val10 ds)).length:=by
  have:=V0 (SG hd hk h)
  rw [<-hv,this,List.length_take,Nat.min_eq_left hk]
theorem Eg {ds:List Nat} {i:Nat} (h:¬i<ds.length):ds.getD i 0=0:=by
  rw [List.getD_eq_getElem?_getD,List.getElem?_eq_none Z];rfl
theorem G3 {x k:Nat} (h:x<10000^k):(dg x).length<=k:=by
  induction k generalizing x with
  | zero =>
    obtain rfl:x=0:=by simpa using h
    simp [GH]
  | succ k ih =>
    by_cases h0:x=0
    · subst h0;simp [GH]
    · rw [GO h0,List.length_cons]
      have:=ih (x:=x/10000) (by rw [Nat.pow_succ] at h;omega)
      omega
def Hd (W:World) (src:List (Option Nat)) (x:Nat) (e:Ending) (w:World):Prop :=
  ∃v:NV,v.x=x/\e=.returned (nV v)/\GB W.heap.size W w/\Holds w (nA v)/\∀b,v.p.map (·.block)=some b->W.heap.size<=b\/some b∈src
theorem Ra {w:World} {q:Option Addr} {cs:List Value} (k:Nat) (h:Holds w (AI q cs)):Holds w (AI q (cs.take k)):=λb e=>by
  obtain ⟨o,ho,hp⟩:=h b e
  exact ⟨o,ho,GU.take hp⟩
theorem XZ {W w:World} {L:List As} {i m c x:Nat} {p:Option Addr} {T:TypeId} {ds:List Nat} {src:List (Option Nat)} (hw:A_ ⟨W,none⟩ w L) (hi:L[i]?=some (rowW p T 1 m c (dgL ds))) (ho:OwnOk p m c) (hm:m=ds.length)
    (hx:dg x=ds.take (dg x).length) {v:Value} (hv:v=.slice p (dg x).length c):Hd W src x (.returned v) w:=by
  have hle:(dg x).length<=m:=by rw [hm];have:=congrArg List.length hx;rw [List.length_take] at this;omega
  have h0:Holds w (AI p (dgL ds)):=λb e=>by
    obtain ⟨o,hob,hp⟩:=hw.holds hi b e
    exact ⟨o,hob,C9 ho (by rw [Cw,hm,Nat.mul_one]) hp⟩
  have h1:=Ra (dg x).length h0
  rw [<-Pu,<-hx] at h1
  refine ⟨⟨p,c,x,⟨λe=>?_,λa e=>ho.row.spot a e,xK hle ho.le⟩⟩,rfl,by rw [hv],hw.out,h1,λb e=>.inl (hw.newRow hi b e)⟩
  have:=ho.nil e
  exact ⟨Z,this.2⟩
theorem HP (x i:Nat):(dg x).getD i 0<10000:=by
  by_cases h:i<(dg x).length
  · refine FA x _ ?_
    rw [List.getD_eq_getElem?_getD,xN h]
    exact List.getElem_mem h
  · rw [Eg h];omega
theorem CJ (ds:List Nat) (k:Nat):val10 (ds.take (k+1))=val10 (ds.take k)+10000^k*ds.getD k 0:=by
  by_cases h:k<ds.length
  · have h1:ds[k]?=some (ds.getD k 0):=by simp [h]
    rw [List.take_add_one,h1,E2,List.length_take,Nat.min_eq_left Z]
    simp [val10]
  · rw [Eg h,List.take_of_length_le Z,List.take_of_length_le Z]
    simp
theorem Dd {ds:List Nat} {k:Nat} (h:¬k<ds.length):val10 (ds.take k)=val10 ds:=by rw [List.take_of_length_le Z]
theorem YH {ds:List Nat} {k c s A B a b:Nat} (hk:k=ds.length) (h:val10 ds+10000^k*c=A+B) (hs:s=a+b+c):val10 (ds++[s%10000])+10000^(k+1)*(s/10000)=(A+10000^k*a)+(B+10000^k*b):=by
  rw [E2,<-hk]
  simp only [val10,Nat.mul_zero,Nat.add_zero]
  have h1:10000^(k+1)*(s/10000)=10000^k*(10000*(s/10000)):=by rw [Nat.pow_succ,Nat.mul_assoc]
  have h2:s%10000+10000*(s/10000)=s:=by omega
  have h3:10000^k*(s%10000)+10000^k*(10000*(s/10000))=10000^k*(a+b+c):=by rw [<-Nat.mul_add,h2,hs]
  rw [h1,Nat.add_assoc,h3,Nat.mul_add,Nat.mul_add]
  omega
theorem Po {ds:List Nat} {d:Nat} (h:KC ds) (hd:d<10000):KC (ds++[d]):=λe he=>by
  rcases List.mem_append.1 he with he|he
  · exact h e he
  · rcases xM.1 he with rfl
    exact hd
theorem Si:KC []:=λ_ h=>by cases h
theorem GZ {ds:List Nat} (h:KC ds):dg (val10 ds)=ds.take (dg (val10 ds)).length:=by
  induction ds with
  | nil=>rfl
  | cons d r ih =>
    have ih:=ih λe he=>h e (List.mem_cons_of_mem _ he)
    have hd:=h d jX
    by_cases h0:val10 (d::r)=0
    · rw [h0,GH];rfl
    · rw [GO h0,val10]
      have e1:(d+10000*val10 r)%10000=d:=by omega
      have e2:(d+10000*val10 r)/10000=val10 r:=by omega
      rw [e1,e2,List.length_cons,List.take_succ_cons,<-ih]
theorem I1 {x y:Nat} (h:x<=y):(dg x).length<=(dg y).length:=by
  have h1:=Dn (FA y)
  rw [DI] at h1
  exact G3 Z
theorem OO {ds:List Nat} {k l l2 d A B a b:Nat} (hk:k=ds.length) (h:val10 ds+B=A+10000^k*l) (hd:d+b+l=a+10000*l2):val10 (ds++[d])+(B+10000^k*b)=A+10000^k*a+10000^(k+1)*l2:=by
  rw [E2,<-hk]
  simp only [val10,Nat.mul_zero,Nat.add_zero]
  have h1:10000^(k+1)*l2=10000^k*(10000*l2):=by rw [Nat.pow_succ,Nat.mul_assoc]
  have h3:10000^k*d+10000^k*b+10000^k*l=10000^k*a+10000^k*(10000*l2):=by rw [<-Nat.mul_add,<-Nat.mul_add,<-Nat.mul_add,hd]
  rw [h1]
  omega
theorem Pp {ds:List Nat} {k l a b:Nat} (hd:KC ds) (hk:k=ds.length) (hl:l<=1) (hab:b<=a) (h:val10 ds+b=a+10000^k*l):val10 ds=a-b:=by
  have h1:=Dn hd
  rw [<-hk] at h1
  rcases Nat.eq_zero_or_pos l with h0|h0
  · subst h0;omega
  · obtain rfl:l=1:=by omega
    omega
theorem ON (ds:List Nat) (j:Nat) (hj:j<ds.length):val10 ds=val10 (ds.take j)+10000^j*ds.getD j 0+10000^(j+1)*val10 (ds.drop (j+1)):=by
  conv=>lhs;rw [<-List.take_append_drop (j+1) ds]
  rw [E2,CJ,List.length_take,Nat.min_eq_left Z]
theorem Pq {ds:List Nat} (h:KC ds) (k:Nat):KC (ds.take k):=λd hd=>h d (List.mem_of_mem_take hd)
theorem Y4 {ds es:List Nat} {j:Nat} (hd:KC ds) (hl:ds.length=es.length) (hj:j<ds.length) (h:ds.drop (j+1)=es.drop (j+1)) (hlt:ds.getD j 0<es.getD j 0):val10 ds<val10 es:=by
  rw [ON ds j hj,ON es j (hl▸hj),h]
  have h1:=Dn (Pq hd j)
  rw [List.length_take,Nat.min_eq_left Z] at h1
  have h2:10000^j*(ds.getD j 0+1)<=10000^j*es.getD j 0:=Nat.mul_le_mul_left _ hlt
  rw [Nat.mul_add,Nat.mul_one] at h2
  omega
theorem Pn {ds es:List Nat} {j:Nat} (hl:ds.length=es.length) (hj:j<ds.length) (h:ds.drop (j+1)=es.drop (j+1)) (he:ds.getD j 0=es.getD j 0):ds.drop j=es.drop j:=by
  rw [List.drop_eq_getElem_cons hj,List.drop_eq_getElem_cons (l:=es) (i:=j) (hl▸hj),h]
  simp only [List.getD_eq_getElem?_getD,xN hj,xN (show j<es.length from hl▸hj),Option.getD_some] at he
  rw [he]
theorem Ng {x y:Nat} (h:(dg x).length<(dg y).length):x<y:=by
  rcases Nat.lt_or_ge x y with h1|h1
  · exact h1
  · exact absurd (I1 h1) Z
theorem WB {x y j:Nat} (hl:(dg x).length=(dg y).length) (hj:j<(dg x).length) (h:(dg x).drop (j+1)=(dg y).drop (j+1)) (hlt:(dg x).getD j 0<(dg y).getD j 0):x<y:=by
  have:=Y4 (FA x) hl hj h hlt
  rwa [DI,DI] at this
theorem cC {x y:Nat} (h:dg x=dg y):x=y:=by rw [<-DI x,h,DI]
theorem Lq {w:World} {p:Option Addr} {T:TypeId} {m c:Nat} {ds:List Nat} (h:Holds w (rowW p T 1 m c (dgL ds))) (ho:OwnOk p m c) (hm:m=ds.length):Holds w (AI p (dgL ds)):=λb e=>by
  obtain ⟨o,hob,hp⟩:=h b e
  exact ⟨o,hob,C9 ho (by rw [Cw,hm,Nat.mul_one]) hp⟩
def Eo (W:World) (src:List (Option Nat)) (p:Option Addr):Prop:=∀b,p.map (·.block)=some b->W.heap.size<=b\/some b∈src
theorem Eo.mono {W:World} {src src2:List (Option Nat)} {p:Option Addr} (h:Eo W src p) (hs:∀s∈src,∀b,s=some b->W.heap.size<=b\/some b∈src2):Eo W src2 p:=λb e=>(h b e).elim .inl λh1=>hs _ h1 b rfl
theorem Eo.new {W:World} {src2:List (Option Nat)} {p:Option Addr} (h:Eo W [] p):Eo W src2 p:=h.mono λs hs=>by cases hs
theorem Eo.nil {W:World} {src:List (Option Nat)}:Eo W src none:=λb e=>by cases e
section
variable {P:Program} {ops:Array Oper} {rest:List Oper} {Q:Exit->Act->World->Prop} {n d x:Nat} {F:List (Nat×Value)} {w0:Ay} {L:List As} {t:TypeId} {p:String} {af:Array Edge} {y:Operand}
def IR (L:List As):List (Option Nat)->Prop
  | []=>True
  | s::r=>(∃y∈L,y.ro=true/\y.foot=s)/\IR L r
theorem R_ {L:List As}:IR L []:=trivial
theorem hO {L:List As} {y:As} {r:List (Option Nat)} (i:Nat) (hi:L[i]?=some y) (hr:y.ro=true) (h:IR L r):IR L (y.foot::r):=⟨⟨y,List.mem_of_getElem? hi,hr,rfl⟩,h⟩
theorem IR.get {L:List As}:∀{src:List (Option Nat)},IR L src->∀s∈src,∃y∈L,y.ro=true/\y.foot=s
  | [],_,s,hs=>by cases hs
  | a::r,h,s,hs=>by
    rcases xL.1 hs with rfl|hs
    · exact h.1
    · exact IR.get h.2 s hs
theorem yk {src:List (Option Nat)} {f:FuncId} {xs:List Operand} {args:List Value} {ts:Array TypeId} (hc:∀args w,(callFunc f args).run P w=.ok (.enter f args) w) (h:∀w,A_ w0 w L->Calls P f args.toArray w (Hd w src x)) (hsrc:IR L src)
    (hf:evF F y=some (.func (.func f) #[] #[])) (hargs:xs.map (evF F)=args.map some) (hd:Nat.ble (d+1) n=true) (next:∀v:NV,v.x=x->Eo w0.w src v.p->AP P ops rest Q n ((d,nV v)::F) w0 (nA v::L)) :
    AP P ops (⟨some d,.call { callee:=.value y,args:=xs.toArray,argTypes:=ts },t,p,af,none⟩::rest) Q n F w0 L:=λa w ha hW=>by
  unfold wpList
  rw [if_pos (AG rfl a ha)]
  left
  unfold Oper.wp
  rw [Ag hf hargs hc a w ha hW,Oper.upon_enter]
  refine (h w hW).mono ?_
  rintro e w' ⟨v,hx,rfl,hb,hh,hs⟩
  exact next v hx (λb e=>(hs b e).imp_left λh=>xK hW.1.size h) _ _ (ha.put (CO hd)) (hW.addRo hb O hh λb e=>(hs b e).imp_right λh=>hsrc.get _ h)
end
theorem NB (m:Nat):dgL (List.replicate m 0)=List.replicate m (vN 0):=by simp [dgL,List.map_replicate]
theorem Sn (ds:List Nat) (j d:Nat):(dgL ds).set j (vN d)=dgL (ds.set j d):=by simp [dgL,List.map_set]
theorem y0 {P:Program} {ops:Array Oper} {rest:List Oper} {Q:Exit->Act->World->Prop} {n d m:Nat} {F:List (Nat×Value)} {w0:Ay} {L:List As} {t ty T:TypeId} {p:String} {af:Array Edge} {x y:Operand}
    {ki kj:IntKind} {bytes:Nat} (ht:VZ P t T (vN 0) bytes) (hx:evF F x=some (.int ki (m:Nat))) (hy:evF F y=some (.int kj (m:Nat))) (hm:m<=1099511627776) (hb:Nat.ble bytes 16=true) (hd:Nat.ble (d+1) n=true)
    (next:∀b,OwnOk (jk b) m m->AP P ops rest Q n ((d,.slice (jk b) m m)::F) w0 (rowW (jk b) T 1 m m (dgL (List.replicate m 0))::L)) :
    AP P ops (⟨some d,.makeSlice t x y,ty,p,af,none⟩::rest) Q n F w0 L:=AP.makeRow ht hx hy hm hb hd λb ho=>by rw [<-NB];exact next b ho
theorem Nf (m:Nat):KC (List.replicate m 0):=λd hd=>by rw [(List.mem_replicate.1 hd).2];omega
theorem Kc (m:Nat):val10 (List.replicate m 0)=0:=by
  induction m with
  | zero=>rfl
  | succ k ih=>rw [List.replicate_succ,val10,ih]
theorem Sj {ds:List Nat} {j d:Nat} (h:KC ds) (hd:d<10000):KC (ds.set j d):=λe he=>by
  rcases List.mem_or_eq_of_mem_set he with h1|h1
  · exact h e h1
  · omega
theorem N8 {ds:List Nat} {j d:Nat} (hj:j<ds.length):val10 (ds.set j d)+10000^j*ds.getD j 0=val10 ds+10000^j*d:=by
  induction ds generalizing j with
  | nil=>cases hj
  | cons e r ih =>
    cases j with
    | zero=>simp [val10];omega
    | succ j =>
      have h1:=ih (j:=j) (by simpa using hj)
      simp only [List.set_cons_succ,val10,List.getD_cons_succ]
      rw [Nat.pow_succ',Nat.mul_assoc,Nat.mul_assoc]
      omega
theorem Y5 {ds:List Nat} (h:KC ds) (j:Nat):ds.getD j 0<10000:=by
  by_cases hj:j<ds.length
  · refine h _ ?_
    rw [List.getD_eq_getElem?_getD,xN hj]
    exact List.getElem_mem hj
  · rw [Eg hj];omega
theorem O8 (ds:List Nat) (j:Nat):10000^j*ds.getD j 0<=val10 ds:=by
  by_cases hj:j<ds.length
  · rw [ON ds j hj];omega
  · rw [Eg hj];omega
theorem Rk {ds:List Nat} {i k cy V a b B s:Nat} (hj:i+k<ds.length) (h:val10 ds+10000^(i+k)*cy=V+10000^i*a*B) (hs:s=ds.getD (i+k) 0+a*b+cy) :
    val10 (ds.set (i+k) (s%10000))+10000^(i+(k+1))*(s/10000)=V+10000^i*a*(B+10000^k*b):=by
  have h1:=N8 (ds:=ds) (j:=i+k) (d:=s%10000) hj
  have h2:10000^(i+(k+1))*(s/10000)=10000^(i+k)*(10000*(s/10000)):=by rw [<-Nat.add_assoc,Nat.pow_succ,Nat.mul_assoc]
  have h3:10000^(i+k)*(s%10000)+10000^(i+k)*(10000*(s/10000))=10000^(i+k)*s:=by rw [<-Nat.mul_add];congr 1;omega
  have h4:10000^(i+k)*s=10000^(i+k)*ds.getD (i+k) 0+10000^(i+k)*(a*b)+10000^(i+k)*cy:=by rw [hs,Nat.mul_add,Nat.mul_add]
  have h5:10000^i*a*(B+10000^k*b)=10000^i*a*B+10000^(i+k)*(a*b):=by
    rw [Nat.mul_add,Nat.pow_add]
    congr 1
    simp only [Nat.mul_assoc,Nat.mul_left_comm,Nat.mul_comm]
  rw [h2,h5]
  omega
theorem Ud {o a b c:Nat} (ho:o<10000) (ha:a<10000) (hb:b<10000) (hc:c<10000):o+a*b+c<100000000:=by
  have:a*b<=9999*9999:=Nat.mul_le_mul Z Z
  omega
theorem Wr {ds:List Nat} {i k cy V a B:Nat} (hV:V+10000^i*a*B<10000^(i+k+1)) (h:val10 ds+10000^(i+k)*cy=V+10000^i*a*B):ds.getD (i+k) 0+cy<10000:=by
  have h1:=O8 ds (i+k)
  have h2:10000^(i+k)*(ds.getD (i+k) 0+cy)<10000^(i+k)*10000:=by
    rw [Nat.mul_add,<-Nat.pow_succ];omega
  exact Nat.lt_of_mul_lt_mul_left h2
theorem Uc {x y i:Nat}:val10 ((dg x).take i)*y<10000^(i+(dg y).length):=by
  have h1:=Dn (Pq (FA x) i)
  have h2:=Dn (FA y)
  rw [DI] at h2
  have h3:10000^((dg x).take i).length<=10000^i:=Nat.pow_le_pow_right Z (by rw [List.length_take];omega)
  rw [Nat.pow_add]
  exact Nat.mul_lt_mul_of_lt_of_le Z (Nat.le_of_lt h2) (Nat.pow_pos Z)
theorem WC (x:Nat):x/10000^(dg x).length=0:=by
  have h:=Dn (FA x)
  rw [DI] at h
  exact Nat.div_eq_of_lt h
theorem RK (x j:Nat):(dg x).getD j 0=x/10000^j%10000:=by
  induction j generalizing x with
  | zero =>
    by_cases h:x=0
    · subst h;rfl
    · rw [GO h];simp
  | succ j ih =>
    by_cases h:x=0
    · subst h;simp [GH]
    · rw [GO h,List.getD_cons_succ,ih,Nat.div_div_eq_div_mul,Nat.pow_succ']
theorem Sq (x j:Nat):x/10000^j=10000*(x/10000^(j+1))+(dg x).getD j 0:=by
  rw [RK,Nat.pow_succ,<-Nat.div_div_eq_div_mul]
  omega
theorem Lc (x:Nat) {k j:Nat} (h:k<=j):x/10000^j<=x/10000^k:=Nat.div_le_div_left (Nat.pow_le_pow_right Z h) (Nat.pow_pos Z)
theorem Pv {x n j k:Nat} (hn:n=x/10000^j) (h:k<=j\/j=(dg x).length) (hj:j<=k):n=x/10000^k:=by
  rcases h with h|h
  · rw [hn,show j=k by omega]
  · have h1:=WC x
    have h2:=Lc x hj
    rw [<-h] at h1
    have h3:x/10000^k=0:=Nat.le_zero.1 (h1▸h2)
    rw [hn,h1,h3]
theorem Zt {ds:List Nat} (x y i:Nat) (h:val10 ds=val10 ((dg x).take i)*y):val10 ds+10000^i*(dg x).getD i 0*y<10000^(i+(dg y).length+1):=by
  have:=Uc (x:=x) (y:=y) (i:=i+1)
  rw [CJ,Nat.add_mul] at this
  rw [h]
  exact Nat.lt_of_lt_of_eq this (by congr 1;omega)
def Kt (W:World) (src src2:List (Option Nat)) (x y:Nat) (e:Ending) (w:World):Prop :=
  ∃u v:NV,u.x=x/\v.x=y/\e=.returned (.tuple #[nV u,nV v])/\GB W.heap.size W w/\Holds w (nA u)/\Holds w (nA v)/\Eo W src u.p/\Eo W src2 v.p
theorem A_.both {w0:Ay} {w:World} {L:List As} {a b:As} (ha:A_ w0 w (a::L)) (hb:A_ w0 w (b::L)) (ra:a.ro=true) (rb:b.ro=true):A_ w0 w (a::b::L) :=
  ⟨ha.1,λy hy=>(xL.1 hy).elim (λe=>ha.2.1 y (e▸List.mem_cons_self)) (λe=>hb.2.1 y e),List.pairwise_cons.2 ⟨λy hy=>(xL.1 hy).elim (λe=>.inl ⟨ra,e▸rb⟩) (λe=>(List.pairwise_cons.1 ha.2.2).1 y e),hb.2.2⟩⟩
section
variable {P:Program} {ops:Array Oper} {rest:List Oper} {Q:Exit->Act->World->Prop} {n d x z:Nat} {F:List (Nat×Value)} {w0:Ay} {L:List As} {t T:TypeId} {p:String} {af:Array Edge} {y:Operand}
theorem AP.callNN {src src2:List (Option Nat)} {f:FuncId} {xs:List Operand} {args:List Value} {ts:Array TypeId} (hc:∀args w,(callFunc f args).run P w=.ok (.enter f args) w) (h:∀w,A_ w0 w L->Calls P f args.toArray w (Kt w src src2 x z)) (hsrc:IR L src) (hsrc2:IR L src2)
    (hf:evF F y=some (.func (.func f) #[] #[])) (hargs:xs.map (evF F)=args.map some) (hd:Nat.ble (d+1) n=true) (next:∀u v:NV,u.x=x->v.x=z->Eo w0.w src u.p->Eo w0.w src2 v.p->AP P ops rest Q n ((d,.tuple #[nV u,nV v])::F) w0 (nA u::nA v::L)) :
    AP P ops (⟨some d,.call { callee:=.value y,args:=xs.toArray,argTypes:=ts },t,p,af,none⟩::rest) Q n F w0 L:=λa w ha hW=>by
  unfold wpList
  rw [if_pos (AG rfl a ha)]
  left
  unfold Oper.wp
  rw [Ag hf hargs hc a w ha hW,Oper.upon_enter]
  refine (h w hW).mono ?_
  rintro e w' ⟨u,v,hx,hz,rfl,hb,hu,hv,hs,hs2⟩
  have h1:=hW.addRo hb (S7 v) hv λb e=>(hs2 b e).imp_right λh=>hsrc2.get _ h
  have h2:=hW.addRo hb (S7 u) hu λb e=>(hs b e).imp_right λh=>hsrc.get _ h
  exact next u v hx hz (λb e=>(hs b e).imp_left λh=>xK hW.1.size h) (λb e=>(hs2 b e).imp_left λh=>xK hW.1.size h) _ _ (ha.put (CO hd)) (h2.both h1 (S7 u) (S7 v))
theorem yz (i:Nat) {q:Option Addr} {m c X:Nat} {ds:List Nat} (hi:L[i]?=some (rowW q T 1 m c (dgL ds))) (ho:OwnOk q m c) (hm:m=ds.length) (hx:dg X=ds.take (dg X).length) (hex:w0.ex=none)
    (next:BG q (dg X).length c->Eo w0.w [] q->AP P ops rest Q n F w0 (L.set i (AI q (dgL (dg X))))):AP P ops rest Q n F w0 L:=λa w ha hw=>by
  have hle:(dg X).length<=m:=by rw [hm];have:=congrArg List.length hx;rw [List.length_take] at this;omega
  refine next ⟨λe=>?_,λa e=>ho.row.spot a e,xK hle ho.le⟩ ?_ a w ha (hw.freeze hi O (λo hp=>?_) (λe=>by cases e))
  · have:=ho.nil e
    exact ⟨Z,this.2⟩
  · intro b e
    rcases (hw.2.1 _ (List.mem_of_getElem? hi) b e).1 with h1|h1|h1
    · cases h1
    · exact .inl h1
    · rw [hex] at h1;cases h1
  · have h1:=GU.take (k:=(dg X).length) (C9 ho (by rw [Cw,hm,Nat.mul_one]) hp)
    rw [<-Pu,<-hx] at h1
    exact h1
end
theorem WA {ds:List Nat} (h:KC ds) (j:Nat):ds.getD j 0=val10 ds/10000^j%10000:=by
  induction ds generalizing j with
  | nil=>simp [val10]
  | cons d r ih =>
    have hd:=h d jX
    cases j with
    | zero=>simp [val10];omega
    | succ j =>
      rw [List.getD_cons_succ,ih (λe he=>h e (List.mem_cons_of_mem _ he)) j,val10,Nat.pow_succ',<-Nat.div_div_eq_div_mul]
      congr 2
      omega
theorem So (x k:Nat):(dg x).drop k=dg (x/10000^k):=by
  induction k generalizing x with
  | zero=>simp
  | succ k ih =>
    by_cases h:x=0
    · subst h;simp [GH]
    · rw [GO h,List.drop_succ_cons,ih,Nat.div_div_eq_div_mul,Nat.pow_succ']
theorem Lb {x:Nat} (h:0<x):10000^((dg x).length-1)<=x/\1<=(dg x).length:=by
  have h0:1<=(dg x).length:=by rw [GO Z];simp
  refine ⟨?_,h0⟩
  rcases Nat.lt_or_ge x (10000^((dg x).length-1)) with h1|h1
  · have:=G3 h1;omega
  · exact h1
theorem Y6 (x:Nat):x/10000^((dg x).length-3)<1000000000000:=by
  have h:=Dn (FA x)
  rw [DI] at h
  have h2:10000^(dg x).length<=10000^((dg x).length-3+3):=Nat.pow_le_pow_right Z Z
  rw [Nat.pow_add] at h2
  exact Nat.div_lt_of_lt_mul (Nat.lt_of_lt_of_le h h2)
theorem RL {x:Nat} (h:0<x):1<=x/10000^((dg x).length-3):=by
  have h1:=Lb h
  have h2:10000^((dg x).length-3)<=10000^((dg x).length-1):=Nat.pow_le_pow_right Z Z
  exact (Nat.le_div_iff_mul_le (Nat.pow_pos Z)).2 Z
theorem T_ {r b k:Nat} (hr:r<10000*b) (hb:b/10000^k<1000000000000):r/10000^k<10000000000000000:=by
  have h1:b<10000^k*1000000000000:=by
    have:=(Nat.div_lt_iff_lt_mul (Nat.pow_pos Z)).1 hb
    rw [Nat.mul_comm];exact this
  exact Nat.div_lt_of_lt_mul Z
theorem Y7 {r b k:Nat} (hb:0<b):r/10000^k/(b/10000^k+1)<=r/b:=by
  rw [Nat.div_div_eq_div_mul]
  refine Nat.div_le_div_left ?_ hb
  have:=Nat.lt_div_mul_add (a:=b) (b:=10000^k) (Nat.pow_pos Z)
  rw [Nat.mul_add,Nat.mul_one,Nat.mul_comm]
  omega
theorem WE {r b k:Nat} (h:1<=b/10000^k):r/b<=r/10000^k/(b/10000^k):=by
  rw [Nat.div_div_eq_div_mul]
  exact Nat.div_le_div_left (Nat.mul_div_le _ _) (Nat.mul_pos (Nat.pow_pos Z) h)
theorem RR {A A1 b d R R1:Nat} (hb:0<b) (h1:A1=10000*A+d) (hR:R=A%b) (hR1:R1=10000*R+d):A1/b=10000*(A/b)+R1/b/\A1%b=R1%b:=by
  have h2:A1=b*(10000*(A/b))+R1:=by
    have:=Nat.div_add_mod A b
    have h3:b*(10000*(A/b))=10000*(b*(A/b)):=Nat.mul_left_comm _ _ _
    rw [h3];omega
  rw [h2]
  exact ⟨Nat.mul_add_div hb _ _,Nat.mul_add_mod _ _ _⟩
theorem T9 {qs:List Nat} {j m q X Y:Nat} (hd:KC qs) (hm:m=qs.length) (hj:1<=j) (hjm:j<=m) (hv:val10 qs=10000^j*X) (hY:Y=10000*X+q):val10 (qs.set (j-1) q)=10000^(j-1)*Y:=by
  have h1:=N8 (ds:=qs) (j:=j-1) (d:=q) Z
  have h2:10000^j*X=10000^(j-1)*(10000*X):=by
    rw [<-Nat.mul_assoc,<-Nat.pow_succ,show (j-1).succ=j by omega]
  rw [WA hd,hv,h2,Nat.mul_div_cancel_left _ (Nat.pow_pos Z),Nat.mul_mod_right,Nat.mul_zero,Nat.add_zero] at h1
  rw [h1,hY,Nat.mul_add]
theorem Px {a b m:Nat} (hb:0<b) (hm:m+(dg b).length=(dg a).length+1):a/10000^m<b:=by
  have h:=Dn (FA a)
  rw [DI] at h
  have h1:=Lb hb
  refine Nat.div_lt_of_lt_mul (Nat.lt_of_lt_of_le h ?_)
  rw [show (dg a).length=m+((dg b).length-1) by omega,Nat.pow_add]
  exact Nat.mul_le_mul_left _ h1.1
theorem fD {W w:World} {L:List As} {i k m c c2 x y:Nat} {p p2:Option Addr} {T:TypeId} {ds:List Nat} {src2:List (Option Nat)} (hw:A_ ⟨W,none⟩ w L) (hi:L[i]?=some (rowW p T 1 m c (dgL ds))) (ho:OwnOk p m c) (hm:m=ds.length)
    (hx:dg x=ds.take (dg x).length) {v v2:Value} (hv:v=.slice p (dg x).length c) (hk:L[k]?=some (AI p2 (dgL (dg y)))) (hok:BG p2 (dg y).length c2) (hloc:Eo W [] p2) (hv2:v2=.slice p2 (dg y).length c2):Kt W [] src2 x y (.returned (.tuple #[v,v2])) w:=by
  obtain ⟨u,hux,hue,hub,huh,hul⟩:=XZ (src:=[]) hw hi ho hm hx hv
  have e:=hue
  rw [Ending.returned.injEq] at e
  exact ⟨u,⟨p2,c2,y,hok⟩,hux,rfl,by rw [e,hv2],hub,huh,hw.holds hk,hul,hloc.new⟩
theorem dH {W w:World} {L:List As} {k x:Nat} {a:NV} (hw:A_ ⟨W,none⟩ w L) (hx:x=0) (hk:L[k]?=some (nA a)):Kt W [] [a.p.map (·.block)] x a.x (.returned (.tuple #[.slice none 0 0,nV a])) w :=
  ⟨⟨none,0,0,OwnOk.none.row⟩,a,hx.symm,rfl,rfl,hw.out,(λb e=>by cases e),hw.holds hk,Eo.nil,λb e=>.inr (by rw [<-e];exact List.mem_cons_self)⟩
theorem dV {w0:Ay} {L:List As} {q:Option Addr} {ds:List Nat} {k n' i c:Nat} (hi:L[k]?=some (AI q (dgL ds))) (hok:BG q n' c) (hl:i<=n'):Yn w0 L (YY q i c 1) (n'-i) (dgL (ds.drop i)):=by
  have h:=fS (w0:=w0) (z:=1) hi hok hl
  rw [Nat.mul_one] at h
  rw [show dgL (ds.drop i)=(dgL ds).drop i by simp [dgL,List.map_drop]]
  exact h
end
section
def txB (l:List UInt8):ByteArray:=⟨l.toArray⟩
theorem DW (l:List UInt8):(txB l).size=l.length:=by simp [txB,ByteArray.size]
theorem EB (a b:List UInt8):txB a++txB b=txB (a++b):=by
  apply ByteArray.ext
  simp [txB]
def DB:Nat->Nat->List UInt8
  | 0,_=>[]
  | k+1,x=>UInt8.ofNat (48+x/10^k%10)::DB k x
theorem QJ (k x:Nat):(DB k x).length=k:=by
  induction k with
  | zero=>rfl
  | succ k ih=>rw [DB,List.length_cons,ih]
theorem J1 (k x:Nat):DB (k+1) x=DB k (x/10)++[UInt8.ofNat (48+x%10)]:=by
  induction k with
  | zero=>simp [DB]
  | succ k ih =>
    rw [DB,ih,DB,List.cons_append,Nat.pow_succ',<-Nat.div_div_eq_div_mul]
theorem NA (m x:Nat) (h0:x/10^(m+1)=0) (h1:m=0\/x/10^m≠0):Lib.decDigits x=DB (m+1) x:=by
  induction m generalizing x with
  | zero =>
    have hx:x<10:=by omega
    rw [Lib.decDigits,dif_pos hx]
    simp [DB,Nat.mod_eq_of_lt hx]
  | succ m ih =>
    have h2:x/10^(m+1)≠0:=h1.resolve_left Z
    rw [Nat.pow_succ',<-Nat.div_div_eq_div_mul] at h0 h2
    have hx:¬x<10:=λh=>h2 (by rw [Nat.div_eq_of_lt h];exact Nat.zero_div _)
    rw [Lib.decDigits,dif_neg hx,J1 (m+1),ih (x/10) h0 (.inr h2)]
theorem e_ (i:Nat):10^(4*i)=10000^i:=by rw [Nat.pow_mul]
theorem cB {x i k:Nat} (hk:k<4):x/10^(4*i+k)%10=(dg x).getD i 0/10^k%10:=by
  rw [Nat.pow_add,e_,<-Nat.div_div_eq_div_mul,RK]
  generalize x/10000^i=y
  match k,hk with
  | 0,_=>simp only [Nat.pow_zero,Nat.div_one];omega
  | 1,_=>show y/10%10=y%10000/10%10;omega
  | 2,_=>show y/100%10=y%10000/100%10;omega
  | 3,_=>show y/1000%10=y%10000/1000%10;omega
theorem XF {x i k d:Nat} (hk:k<4) (hd:d=(dg x).getD i 0/10^k):txB [UInt8.ofNat (48+d%10)]++txB (DB (4*i+k) x)=txB (DB (4*i+(k+1)) x):=by
  rw [EB,<-Nat.add_assoc,DB,cB hk,hd]
  rfl
theorem X9 {x i k d:Nat} (hx:0<x) (hi:i+1=(dg x).length) (hk:k<=4) (hd:d=(dg x).getD i 0/10^k) (hnz:k=0\/(dg x).getD i 0/10^(k-1)≠0) (hex:k=4\/d=0):DB (4*i+k) x=Lib.decDigits x:=by
  have h1:=Dn (FA x)
  rw [DI,<-hi,Nat.pow_succ] at h1
  have h2:=Lb hx
  rw [<-hi,Nat.add_sub_cancel] at h2
  have hy:x/10000^i<10000:=Nat.div_lt_of_lt_mul h1
  have hy1:1<=x/10000^i:=(Nat.le_div_iff_mul_le (Nat.pow_pos Z)).2 Z
  rw [RK,Nat.mod_eq_of_lt hy] at hd hnz
  have e:∀j,x/10^(4*i+j)=x/10000^i/10^j:=λj=>by rw [Nat.pow_add,e_,<-Nat.div_div_eq_div_mul]
  generalize hyy:x/10000^i=y at *
  have hk1:1<=k:=by
    rcases Nat.eq_zero_or_pos k with h|h
    · subst h;simp at hd;omega
    · exact h
  have hz:y/10^k=0:=by
    rcases hex with h|h
    · subst h;exact Nat.div_eq_of_lt hy
    · omega
  obtain ⟨m,hm⟩:∃m,m+1=4*i+k:=⟨4*i+k-1,Z⟩
  rw [<-hm]
  refine (NA m x ?_ (.inr ?_)).symm
  · rw [hm,e,hz]
  · rw [show m=4*i+(k-1) by omega,e]
    exact hnz.resolve_left Z
theorem La:Lib.decDigits 0=[48]:=by rw [Lib.decDigits,dif_pos Z];rfl
theorem QI (a b x:Nat):DB (a+b) x=DB a (x/10^b)++DB b x:=by
  induction a with
  | zero=>simp [DB]
  | succ a ih =>
    rw [show a+1+b=(a+b)+1 by omega,DB,DB,List.cons_append,ih,Nat.div_div_eq_div_mul,<-Nat.pow_add,Nat.add_comm b a]
theorem XE (k x:Nat):DB k (x%10^k)=DB k x:=by
  have h:∀j,j<=k->DB j (x%10^k)=DB j x:=λj=>by
    induction j with
    | zero=>intro _;rfl
    | succ j ih =>
      intro hj
      rw [DB,DB,ih Z]
      congr 2
      have e:10^k=10^j*10^(k-j):=by rw [<-Nat.pow_add];congr 1;omega
      rw [e,Nat.mod_mul_right_div_self]
      have e2:10^(k-j)=10*10^(k-j-1):=by rw [<-Nat.pow_succ'];congr 1;omega
      rw [e2,Nat.mod_mul_right_mod]
  exact h k (Nat.le_refl _)
theorem Uk (k:Nat):DB k 0=List.replicate k 48:=by
  induction k with
  | zero=>rfl
  | succ k ih=>rw [DB,ih,List.replicate_succ];simp
theorem Jk (x:Nat):Lib.decDigits x=DB (Lib.decDigits x).length x:=by
  induction x using Nat.strongRecOn with
  | _ x ih =>
    rw [Lib.decDigits]
    split
    · rename_i h
      simp [DB,Nat.mod_eq_of_lt h]
    · rename_i h
      have h1:=ih (x/10) Z
      rw [xJ,List.length_singleton,J1,<-h1]
theorem Ul {k x:Nat} (h:(Lib.decDigits x).length<=k) (hx:x<10^(Lib.decDigits x).length):List.replicate (k-(Lib.decDigits x).length) 48++Lib.decDigits x=DB k x:=by
  have e:=QI (k-(Lib.decDigits x).length) (Lib.decDigits x).length x
  rw [Nat.sub_add_cancel h,Nat.div_eq_of_lt hx,Uk,<-Jk] at e
  exact e.symm
theorem M_ {k x:Nat} (h:x/10^k≠0):Lib.decDigits x=Lib.decDigits (x/10^k)++DB k x:=by
  induction k generalizing x with
  | zero=>simp [DB]
  | succ k ih =>
    rw [Nat.pow_succ',<-Nat.div_div_eq_div_mul] at h ⊢
    have hx:¬x<10:=λh1=>h (by rw [Nat.div_eq_of_lt h1];exact Nat.zero_div _)
    have h2:=ih h
    rw [J1,<-xC,<-h2]
    conv=>lhs;rw [Lib.decDigits,dif_neg hx]
section
variable {P:Program} {n:Nat} {F:List (Nat×Value)} {w0:Ay} {L:List As} {t:TypeId} {p:String} {af:Array Edge} {d:Option Tmp} {g:Option (Nat×Bool)} {x:Operand}
theorem F3 {s r:ByteArray} {kj:IntKind} {j:Nat} {tx:TypeId} {hi:Operand} (hx:evF F x=some (.string s)) (hh:evF F hi=some (.int kj (j:Nat))) (hu:P.underlying tx=some .string) (h2:j<=s.size) (hr:s.extract 0 j=r) :
    Ex P n F w0 L ⟨d,.slice tx x none (some hi) none,t,p,af,g⟩ (.string r):=λA w ha _=>by
  subst hr
  simp only [execOp,ha.ev hx,Instr.sliceAt,run_underlying hu,Instr.slice,Option.map_some,Option.map_none,ha.ev hh,Instr.sliceBounds,Instr.sliceBound,asIntOf,Sem.run_bind,Result.andThen_ok,Sem.run_pure]
  simp [h2]
theorem P1 {k:IntKind} {a:Nat} {src dst:TypeId} {ds:TypeDesc} (hx:evF F x=some (.int k (a:Nat))) (h1:P.underlying src=some ds) (h2:P.underlying dst=some .string) (ha:a<128):Ex P n F w0 L ⟨d,.convert src dst x,t,p,af,g⟩ (.string (txB [UInt8.ofNat a])):=λA w hf _=>by
  have e:Utf8.encode (a:Nat)=txB [UInt8.ofNat a]:=by
    have hv:Utf8.valid (a:Int)=true:=by simp [Utf8.valid];omega
    simp only [Utf8.encode,hv,if_true,Int.toNat_natCast]
    rw [if_pos Z]
    rfl
  simp only [execOp,hf.ev hx,Sem.run_bind,run_convert_int_string w src dst k (a:Nat) (by rw [h1];rfl) h2,Result.andThen_ok,Sem.run_pure,e]
end
end
section
structure NX (x:Nat) where
  p:Option Addr
  c:Nat
  ok:BG p (dg x).length c
@[reducible] def NX.nv {x:Nat} (a:NX x):NV:=⟨a.p,a.c,x,a.ok⟩
@[reducible] def NX.cast {x y:Nat} (h:x=y) (a:NX x):NX y:=⟨a.p,a.c,h▸a.ok⟩
def NX.zero:NX 0:=⟨none,0,⟨λ_=>⟨rfl,rfl⟩,(λ_ e=>by cases e),Nat.le_refl _⟩⟩
@[reducible] def Ce {x:Nat} (a:NX x):Value:=.slice a.p (dg x).length a.c
def AM {x:Nat} (a:NX x):As:=AI a.p (dgL (dg x))
structure ZX (z:Int) where
  n:NX z.natAbs
structure FX (q:Rat) where
  z:ZX q.num
  m:NX (q.den-1)
structure PX (p:Pt) where
  x:FX p.x
  y:FX p.y
def Dx {z:Int} (a:ZX z):List Value:=[.bool (decide (z<0)),Ce a.n]
def fxL {q:Rat} (a:FX q):List Value:=Dx a.z++[Ce a.m]
def Ae {p:Pt} (a:PX p):List Value:=fxL a.x++fxL a.y
instance {x:Nat}:Cl (NX x):=⟨λa=>Ce a,λa=>[AM a],λa y hy=>by rcases xM.1 hy with rfl;rfl⟩
instance {z:Int}:Cl (ZX z):=⟨λa=>aG (Dx a),λa=>[AM a.n],λa y hy=>by rcases xM.1 hy with rfl;rfl⟩
theorem R3 {a b y:As} (ha:a.ro=true) (hb:b.ro=true) (hy:y∈[a,b]):y.ro=true:=by
  rcases xL.1 hy with rfl|hy
  · exact ha
  · rcases xM.1 hy with rfl;exact hb
instance {q:Rat}:Cl (FX q):=⟨λa=>aG (fxL a),λa=>[AM a.z.n,AM a.m],λa y hy=>R3 rfl rfl hy⟩
instance {p:Pt}:Cl (PX p):=⟨λa=>aG (Ae a),λa=>[AM a.x.z.n,AM a.x.m,AM a.y.z.n,AM a.y.m],λa y hy=>by
  rcases xL.1 hy with rfl|hy
  · rfl
  · rcases xL.1 hy with rfl|hy
    · rfl
    · exact R3 O O hy⟩
section
variable {w0:Ay} {S:Nat->Prop} {w W:World} {L:List As} {α:Type} [Cl α]
-- parts
theorem YX {q:Rat} {a:FX q} (h:Ro S w a):Ro S w a.z:=λy hy=>h y (by rcases xM.1 hy with rfl;exact List.mem_cons_self)
theorem gv {q:Rat} {a:FX q} (h:Ro S w a):Ro S w a.m:=λy hy=>h y (by rcases xM.1 hy with rfl;exact List.mem_cons_of_mem _ List.mem_cons_self)
theorem QT {z:Int} {a:ZX z} (h:Ro S w a):Ro S w a.n:=λy hy=>h y hy
theorem TM {p:Pt} {a:PX p} (h:Ro S w a):Ro S w a.x:=λy hy=>h y (by
  rcases xL.1 hy with rfl|hy
  · exact List.mem_cons_self
  · rcases xM.1 hy with rfl;exact List.mem_cons_of_mem _ List.mem_cons_self)
theorem TN {p:Pt} {a:PX p} (h:Ro S w a):Ro S w a.y:=λy hy=>h y (List.mem_cons_of_mem _ (List.mem_cons_of_mem _ hy))
theorem dx {z:Int} {a:NX z.natAbs} (h:Ro S w a):Ro S w (ZX.mk a:ZX z):=λy hy=>h y hy
theorem bU {q:Rat} {a:ZX q.num} {b:NX (q.den-1)} (h:Ro S w a) (k:Ro S w b):Ro S w (FX.mk a b:FX q):=λy hy=>by
  rcases xL.1 hy with rfl|hy
  · exact h _ List.mem_cons_self
  · exact k y hy
theorem eX {p:Pt} {a:FX p.x} {b:FX p.y} (h:Ro S w a) (k:Ro S w b):Ro S w (PX.mk a b:PX p):=λy hy=>by
  rcases xL.1 hy with rfl|hy
  · exact h _ List.mem_cons_self
  · rcases xL.1 hy with rfl|hy
    · exact h _ (List.mem_cons_of_mem _ List.mem_cons_self)
    · exact k y hy
theorem MT:Ro S w NX.zero:=λy hy=>by
  rcases xM.1 hy with rfl
  exact ⟨(λb e=>by cases e),(λb e=>by cases e)⟩
theorem dM {x y:Nat} {h:x=y} {a:NX x} (k:Ro S w a):Ro S w (a.cast h):=by subst h;exact k
theorem Uy {x:Nat} {a:NX x} (h:Ro S w a):Holds w (nA a.nv):=(h _ List.mem_cons_self).1
-- what a walk starts with
theorem gD {x:Nat} {a:NX x} (h:Ro S w a) (t:∀y∈L,y.ro=true/\Holds w y):∀y∈AM a::L,y.ro=true/\Holds w y:=CV rfl (h _ List.mem_cons_self).1 t
theorem au {z:Int} {a:ZX z} (h:Ro S w a) (t:∀y∈L,y.ro=true/\Holds w y):∀y∈AM a.n::L,y.ro=true/\Holds w y:=gD (QT h) t
theorem M5 {q:Rat} {a:FX q} (h:Ro S w a) (t:∀y∈L,y.ro=true/\Holds w y):∀y∈AM a.z.n::AM a.m::L,y.ro=true/\Holds w y:=au (YX h) (gD (gv h) t)
theorem Fc {p:Pt} {a:PX p} (h:Ro S w a) (t:∀y∈L,y.ro=true/\Holds w y):∀y∈AM a.x.z.n::AM a.x.m::AM a.y.z.n::AM a.y.m::L,y.ro=true/\Holds w y:=M5 (TM h) (M5 (TN h) t)
end
section
variable {P:Program} {ops:Array Oper} {rest:List Oper} {Q:Exit->Act->World->Prop} {n d:Nat} {F:List (Nat×Value)} {w0:Ay} {S:Nat->Prop} {L:List As} {t:TypeId} {p:String} {af:Array Edge} {y:Operand} {f:FuncId} {xs:List Operand} {args:List Value} {ts:Array TypeId}
theorem cN {x:Nat} (hc:∀args w,(callFunc f args).run P w=.ok (.enter f args) w) (h:∀w,A_ w0 w L->Calls P f args.toArray w (Aj (NX x) (SL w0 S L) w))
    (hf:evF F y=some (.func (.func f) #[] #[])) (hargs:xs.map (evF F)=args.map some) (hd:Nat.ble (d+1) n=true) (next:∀a:NX x,At w0 S a->AP P ops rest Q n ((d,Ce a)::F) w0 (AM a::L)) :
    AP P ops (⟨some d,.call { callee:=.value y,args:=xs.toArray,argTypes:=ts },t,p,af,none⟩::rest) Q n F w0 L:=zw hc h hf hargs hd next
theorem cZ {x:Int} (hc:∀args w,(callFunc f args).run P w=.ok (.enter f args) w) (h:∀w,A_ w0 w L->Calls P f args.toArray w (Aj (ZX x) (SL w0 S L) w))
    (hf:evF F y=some (.func (.func f) #[] #[])) (hargs:xs.map (evF F)=args.map some) (hd:Nat.ble (d+1) n=true) (next:∀a:ZX x,At w0 S a->AP P ops rest Q n ((d,aG (Dx a))::F) w0 (AM a.n::L)) :
    AP P ops (⟨some d,.call { callee:=.value y,args:=xs.toArray,argTypes:=ts },t,p,af,none⟩::rest) Q n F w0 L:=zw hc h hf hargs hd next
theorem cF {x:Rat} (hc:∀args w,(callFunc f args).run P w=.ok (.enter f args) w) (h:∀w,A_ w0 w L->Calls P f args.toArray w (Aj (FX x) (SL w0 S L) w))
    (hf:evF F y=some (.func (.func f) #[] #[])) (hargs:xs.map (evF F)=args.map some) (hd:Nat.ble (d+1) n=true) (next:∀a:FX x,At w0 S a->AP P ops rest Q n ((d,aG (fxL a))::F) w0 (AM a.z.n::AM a.m::L)) :
    AP P ops (⟨some d,.call { callee:=.value y,args:=xs.toArray,argTypes:=ts },t,p,af,none⟩::rest) Q n F w0 L:=zw hc h hf hargs hd next
theorem cP {x:Pt} (hc:∀args w,(callFunc f args).run P w=.ok (.enter f args) w) (h:∀w,A_ w0 w L->Calls P f args.toArray w (Aj (PX x) (SL w0 S L) w))
    (hf:evF F y=some (.func (.func f) #[] #[])) (hargs:xs.map (evF F)=args.map some) (hd:Nat.ble (d+1) n=true) (next:∀a:PX x,At w0 S a->AP P ops rest Q n ((d,aG (Ae a))::F) w0 (AM a.x.z.n::AM a.x.m::AM a.y.z.n::AM a.y.m::L)) :
    AP P ops (⟨some d,.call { callee:=.value y,args:=xs.toArray,argTypes:=ts },t,p,af,none⟩::rest) Q n F w0 L:=zw hc h hf hargs hd next
end
theorem bR (x:Nat):(dg x).length<=3*nw x:=G3 (Nat.lt_of_lt_of_le (Bt x) (by rw [Nat.pow_mul];exact Nat.pow_le_pow_left jY _))
end
end Go.Proofs.YtcpkbjjmcleplaaGreatDoor
