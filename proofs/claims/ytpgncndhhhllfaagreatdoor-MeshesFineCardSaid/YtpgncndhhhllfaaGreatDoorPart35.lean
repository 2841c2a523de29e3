import Derived.Lib.ItoaNum
import Derived.Laws.Runes
import Derived.Test.YtpgncndhhhllfaaGreatDoorPart03
import Derived.Test.YtpgncndhhhllfaaGreatDoorPart04
import Derived.Test.YtpgncndhhhllfaaGreatDoorPart06
import Derived.Test.YtpgncndhhhllfaaGreatDoorPart16
namespace Go.Proofs.YtpgncndhhhllfaaGreatDoor
open Go Go.RowKit Go.Proofs.Tryz
set_option linter.unusedVariables false
set_option linter.unusedSimpArgs false
section
def val10:List Nat->Nat
  | []=>0
  | d::r=>d+10000*val10 r
def Yy:Nat->Nat->List Nat
  | 0,_=>[]
  | f+1,x=>if x=0 then [] else x%10000::Yy f (x/10000)
def dg (x:Nat):List Nat:=Yy x x
theorem PA:∀(f g x:Nat),x<=f->x<=g->Yy f x=Yy g x
  | 0,0,_,_,_=>rfl
  | 0,g+1,x,h,_=>by
    obtain rfl:x=0:=by omega
    simp [Yy]
  | f+1,0,x,_,h=>by
    obtain rfl:x=0:=by omega
    simp [Yy]
  | f+1,g+1,x,h1,h2=>by
    unfold Yy
    split
    · rfl
    · rw [PA f g (x/10000) Z Z]
theorem FO:dg 0=[]:=rfl
theorem Fg {x:Nat} (h:x≠0):dg x=x%10000::dg (x/10000):=by
  unfold dg
  cases x with
  | zero=>exact absurd rfl h
  | succ k =>
    rw [Yy,if_neg h,PA k ((k+1)/10000) ((k+1)/10000) Z (Nat.le_refl _)]
def I8 (ds:List Nat):Prop:=∀d∈ds,d<10000
theorem EI (x:Nat):I8 (dg x):=by
  induction x using Nat.strongRecOn with
  | _ x ih =>
    by_cases h:x=0
    · subst h;intro d hd;cases hd
    · rw [Fg h]
      intro d hd
      rcases List.mem_cons.1 hd with rfl|hd
      · exact Nat.mod_lt _ Z
      · exact ih (x/10000) Z d hd
theorem Ck (x:Nat):val10 (dg x)=x:=by
  induction x using Nat.strongRecOn with
  | _ x ih =>
    by_cases h:x=0
    · subst h;rfl
    · rw [Fg h,val10,ih (x/10000) Z]
      omega
def Q_ (ds:List Nat):Prop:=I8 ds/\ds.getLast?≠some 0
theorem P9 {ds:List Nat} (h:Q_ ds) (h0:val10 ds=0):ds=[]:=by
  induction ds with
  | nil=>rfl
  | cons d r ih =>
    rw [val10] at h0
    have hr:r=[]:=by
      refine ih ⟨λe he=>h.1 e (List.mem_cons_of_mem _ he),λe=>?_⟩ Z
      cases r with
      | nil=>cases e
      | cons e' r'=>exact h.2 (by rw [List.getLast?_cons_cons];exact e)
    subst hr
    exact absurd (by simp;omega) h.2
theorem U_ {ds:List Nat} (h:Q_ ds):dg (val10 ds)=ds:=by
  induction ds with
  | nil=>rfl
  | cons d r ih =>
    have hd:=h.1 d (by simp)
    have hcr:Q_ r:=⟨λe he=>h.1 e (List.mem_cons_of_mem _ he),λe=>by
      cases r with
      | nil=>cases e
      | cons e' r'=>exact h.2 (by rw [List.getLast?_cons_cons];exact e)⟩
    by_cases h0:val10 (d::r)=0
    · exact absurd (P9 h h0) (by simp)
    · rw [Fg h0,val10]
      have e1:(d+10000*val10 r)%10000=d:=by omega
      have e2:(d+10000*val10 r)/10000=val10 r:=by omega
      rw [e1,e2,ih hcr]
theorem D4 (a b:List Nat):val10 (a++b)=val10 a+10000^a.length*val10 b:=by
  induction a with
  | nil=>simp [val10]
  | cons d r ih =>
    simp only [List.cons_append,val10,ih,List.length_cons]
    rw [Nat.pow_succ,Nat.mul_add,<-Nat.mul_assoc,Nat.mul_comm (10000^r.length) 10000,Nat.add_assoc]
theorem C_ {ds:List Nat} (h:I8 ds):val10 ds<10000^ds.length:=by
  induction ds with
  | nil=>simp [val10]
  | cons d r ih =>
    have h1:=ih λe he=>h e (List.mem_cons_of_mem _ he)
    have h2:=h d (by simp)
    rw [val10,List.length_cons,Nat.pow_succ]
    omega
theorem L4 (ds:List Nat):val10 (ds++[0])=val10 ds:=by rw [D4];simp [val10]
def dgL (ds:List Nat):List Value:=ds.map λ(d:Nat)=>vN d
theorem CW (ds:List Nat):(dgL ds).length=ds.length:=by simp [dgL]
theorem Dj {ds:List Nat} {j:Nat} (h:j<ds.length):(dgL ds)[j*1]?=some (vN (ds.getD j 0)):=by simp [dgL,h]
theorem E2 (a b:List Nat):dgL (a++b)=dgL a++dgL b:=by simp [dgL]
theorem Oj (ds:List Nat) (k:Nat):dgL (ds.take k)=(dgL ds).take k:=by simp [dgL,List.map_take]
theorem R3 (ds:List Nat):((dgL ds).all λu=>u.oneCell')=true:=by
  rw [List.all_eq_true]
  intro u hu
  obtain ⟨d,_,rfl⟩:=List.mem_map.1 hu
  rfl
structure NV where
  p:Option Addr
  c:Nat
  x:Nat
  ok:BF p (dg x).length c
@[reducible] def NV.n (v:NV):Nat:=(dg v.x).length
@[reducible] def nV (v:NV):Value:=.slice v.p (dg v.x).length v.c
def nA (v:NV):As:=AQ v.p (dgL (dg v.x))
theorem Rq (v:NV):(nA v).ro=true:=rfl
theorem GM.take {off k:Nat} {cs:List Value} {o:Obj} (h:GM off cs o):GM off (cs.take k) o:=by
  obtain ⟨cur,T,fr,rfl,hcs⟩:=h
  refine ⟨cur,T,fr,rfl,?_⟩
  rw [List.length_take]
  conv=>rhs;rw [<-hcs,List.take_take]
theorem L6 {ds:List Nat} {k:Nat} (hk:k<ds.length) (h0:ds.getD k 0=0):val10 (ds.take k)=val10 (ds.take (k+1)):=by
  rw [List.take_add_one]
  have:ds[k]?=some 0:=by simp [hk] at h0 ⊢;exact h0
  rw [this]
  exact (L4 _).symm
theorem Qh {ds:List Nat} {k:Nat} (hd:I8 ds) (hk:k<=ds.length) (h:k=0\/ds.getD (k-1) 0≠0):Q_ (ds.take k):=by
  refine ⟨λd hd'=>hd d (List.mem_of_mem_take hd'),λe=>?_⟩
  rcases Nat.eq_zero_or_pos k with h0|h0
  · subst h0;simp at e
  · have h1:=h.resolve_left Z
    rw [List.getLast?_eq_getElem?] at e
    simp only [List.length_take,Nat.min_eq_left hk] at e
    rw [List.getElem?_take,if_pos Z] at e
    exact h1 (by simp [List.getD,e])
theorem WX {ds:List Nat} {k:Nat} (hd:I8 ds) (hk:k<=ds.length) (hv:val10 (ds.take k)=val10 ds) (h:k=0\/ds.getD (k-1) 0≠0):k=(dg (val10 ds)).length:=by
  have:=U_ (Qh hd hk h)
  rw [<-hv,this,List.length_take,Nat.min_eq_left hk]
theorem Ds {ds:List Nat} {i:Nat} (h:¬i<ds.length):ds.getD i 0=0:=by
  rw [List.getD_eq_getElem?_getD,List.getElem?_eq_none Z];rfl
theorem F4 {x k:Nat} (h:x<10000^k):(dg x).length<=k:=by
  induction k generalizing x with
  | zero =>
    obtain rfl:x=0:=by simpa using h
    simp [FO]
  | succ k ih =>
    by_cases h0:x=0
    · subst h0;simp [FO]
    · rw [Fg h0,List.length_cons]
      have:=ih (x:=x/10000) (by rw [Nat.pow_succ] at h;omega)
      omega
def Gs (W:World) (src:List (Option Nat)) (x:Nat) (e:Ending) (w:World):Prop :=
  ∃v:NV,v.x=x/\e=.returned (nV v)/\Gj W.heap.size W w/\Holds w (nA v)/\∀b,v.p.map (·.block)=some b->W.heap.size<=b\/some b∈src
theorem Py {w:World} {q:Option Addr} {cs:List Value} (k:Nat) (h:Holds w (AQ q cs)):Holds w (AQ q (cs.take k)):=λb e=>by
  obtain ⟨o,ho,hp⟩:=h b e
  exact ⟨o,ho,GM.take hp⟩
theorem Wi {W w:World} {L:List As} {i m c x:Nat} {p:Option Addr} {T:TypeId} {ds:List Nat} {src:List (Option Nat)} (hw:BN ⟨W,none⟩ w L) (hi:L[i]?=some (rowW p T 1 m c (dgL ds))) (ho:OwnOk p m c) (hm:m=ds.length)
    (hx:dg x=ds.take (dg x).length) {v:Value} (hv:v=.slice p (dg x).length c):Gs W src x (.returned v) w:=by
  have hle:(dg x).length<=m:=by rw [hm];have:=congrArg List.length hx;rw [List.length_take] at this;omega
  have h0:Holds w (AQ p (dgL ds)):=λb e=>by
    obtain ⟨o,hob,hp⟩:=hw.holds hi b e
    exact ⟨o,hob,Cg ho (by rw [CW,hm,Nat.mul_one]) hp⟩
  have h1:=Py (dg x).length h0
  rw [<-Oj,<-hx] at h1
  refine ⟨⟨p,c,x,⟨λe=>?_,λa e=>ho.row.spot a e,Nat.le_trans hle ho.le⟩⟩,rfl,by rw [hv],hw.out,h1,λb e=>.inl (hw.newRow hi b e)⟩
  have:=ho.nil e
  exact ⟨Z,this.2⟩
theorem GZ (x i:Nat):(dg x).getD i 0<10000:=by
  by_cases h:i<(dg x).length
  · refine EI x _ ?_
    rw [List.getD_eq_getElem?_getD,List.getElem?_eq_getElem h]
    exact List.getElem_mem h
  · rw [Ds h];omega
theorem B5 (ds:List Nat) (k:Nat):val10 (ds.take (k+1))=val10 (ds.take k)+10000^k*ds.getD k 0:=by
  by_cases h:k<ds.length
  · have h1:ds[k]?=some (ds.getD k 0):=by simp [h]
    rw [List.take_add_one,h1,D4,List.length_take,Nat.min_eq_left Z]
    simp [val10]
  · rw [Ds h,List.take_of_length_le Z,List.take_of_length_le Z]
    simp
theorem C4 {ds:List Nat} {k:Nat} (h:¬k<ds.length):val10 (ds.take k)=val10 ds:=by rw [List.take_of_length_le Z]
theorem U5 {ds:List Nat} {k c s A B a b:Nat} (hk:k=ds.length) (h:val10 ds+10000^k*c=A+B) (hs:s=a+b+c):val10 (ds++[s%10000])+10000^(k+1)*(s/10000)=(A+10000^k*a)+(B+10000^k*b):=by
  rw [D4,<-hk]
  simp only [val10,Nat.mul_zero,Nat.add_zero]
  have h1:10000^(k+1)*(s/10000)=10000^k*(10000*(s/10000)):=by rw [Nat.pow_succ,Nat.mul_assoc]
  have h2:s%10000+10000*(s/10000)=s:=by omega
  have h3:10000^k*(s%10000)+10000^k*(10000*(s/10000))=10000^k*(a+b+c):=by rw [<-Nat.mul_add,h2,hs]
  rw [h1,Nat.add_assoc,h3,Nat.mul_add,Nat.mul_add]
  omega
theorem OI {ds:List Nat} {d:Nat} (h:I8 ds) (hd:d<10000):I8 (ds++[d]):=λe he=>by
  rcases List.mem_append.1 he with he|he
  · exact h e he
  · rcases List.mem_singleton.1 he with rfl
    exact hd
theorem RB:I8 []:=λ_ h=>by cases h
theorem Fs {ds:List Nat} (h:I8 ds):dg (val10 ds)=ds.take (dg (val10 ds)).length:=by
  induction ds with
  | nil=>rfl
  | cons d r ih =>
    have ih:=ih λe he=>h e (List.mem_cons_of_mem _ he)
    have hd:=h d (by simp)
    by_cases h0:val10 (d::r)=0
    · rw [h0,FO];rfl
    · rw [Fg h0,val10]
      have e1:(d+10000*val10 r)%10000=d:=by omega
      have e2:(d+10000*val10 r)/10000=val10 r:=by omega
      rw [e1,e2,List.length_cons,List.take_succ_cons,<-ih]
theorem H5 {x y:Nat} (h:x<=y):(dg x).length<=(dg y).length:=by
  have h1:=C_ (EI y)
  rw [Ck] at h1
  exact F4 Z
theorem Nd {ds:List Nat} {k l l2 d A B a b:Nat} (hk:k=ds.length) (h:val10 ds+B=A+10000^k*l) (hd:d+b+l=a+10000*l2):val10 (ds++[d])+(B+10000^k*b)=A+10000^k*a+10000^(k+1)*l2:=by
  rw [D4,<-hk]
  simp only [val10,Nat.mul_zero,Nat.add_zero]
  have h1:10000^(k+1)*l2=10000^k*(10000*l2):=by rw [Nat.pow_succ,Nat.mul_assoc]
  have h3:10000^k*d+10000^k*b+10000^k*l=10000^k*a+10000^k*(10000*l2):=by rw [<-Nat.mul_add,<-Nat.mul_add,<-Nat.mul_add,hd]
  rw [h1]
  omega
theorem On {ds:List Nat} {k l a b:Nat} (hd:I8 ds) (hk:k=ds.length) (hl:l<=1) (hab:b<=a) (h:val10 ds+b=a+10000^k*l):val10 ds=a-b:=by
  have h1:=C_ hd
  rw [<-hk] at h1
  rcases Nat.eq_zero_or_pos l with h0|h0
  · subst h0;omega
  · obtain rfl:l=1:=by omega
    omega
theorem NA (ds:List Nat) (j:Nat) (hj:j<ds.length):val10 ds=val10 (ds.take j)+10000^j*ds.getD j 0+10000^(j+1)*val10 (ds.drop (j+1)):=by
  conv=>lhs;rw [<-List.take_append_drop (j+1) ds]
  rw [D4,B5,List.length_take,Nat.min_eq_left Z]
theorem O8 {ds:List Nat} (h:I8 ds) (k:Nat):I8 (ds.take k):=λd hd=>h d (List.mem_of_mem_take hd)
theorem YW {ds es:List Nat} {j:Nat} (hd:I8 ds) (hl:ds.length=es.length) (hj:j<ds.length) (h:ds.drop (j+1)=es.drop (j+1)) (hlt:ds.getD j 0<es.getD j 0):val10 ds<val10 es:=by
  rw [NA ds j hj,NA es j (hl▸hj),h]
  have h1:=C_ (O8 hd j)
  rw [List.length_take,Nat.min_eq_left Z] at h1
  have h2:10000^j*(ds.getD j 0+1)<=10000^j*es.getD j 0:=Nat.mul_le_mul_left _ hlt
  rw [Nat.mul_add,Nat.mul_one] at h2
  omega
theorem OH {ds es:List Nat} {j:Nat} (hl:ds.length=es.length) (hj:j<ds.length) (h:ds.drop (j+1)=es.drop (j+1)) (he:ds.getD j 0=es.getD j 0):ds.drop j=es.drop j:=by
  rw [List.drop_eq_getElem_cons hj,List.drop_eq_getElem_cons (l:=es) (i:=j) (hl▸hj),h]
  simp only [List.getD_eq_getElem?_getD,List.getElem?_eq_getElem hj,List.getElem?_eq_getElem (show j<es.length from hl▸hj),Option.getD_some] at he
  rw [he]
theorem MA {x y:Nat} (h:(dg x).length<(dg y).length):x<y:=by
  rcases Nat.lt_or_ge x y with h1|h1
  · exact h1
  · exact absurd (H5 h1) Z
theorem UL {x y j:Nat} (hl:(dg x).length=(dg y).length) (hj:j<(dg x).length) (h:(dg x).drop (j+1)=(dg y).drop (j+1)) (hlt:(dg x).getD j 0<(dg y).getD j 0):x<y:=by
  have:=YW (EI x) hl hj h hlt
  rwa [Ck,Ck] at this
theorem Ze {x y:Nat} (h:dg x=dg y):x=y:=by rw [<-Ck x,h,Ck]
theorem Ku {w:World} {p:Option Addr} {T:TypeId} {m c:Nat} {ds:List Nat} (h:Holds w (rowW p T 1 m c (dgL ds))) (ho:OwnOk p m c) (hm:m=ds.length):Holds w (AQ p (dgL ds)):=λb e=>by
  obtain ⟨o,hob,hp⟩:=h b e
  exact ⟨o,hob,Cg ho (by rw [CW,hm,Nat.mul_one]) hp⟩
def D9 (W:World) (src:List (Option Nat)) (p:Option Addr):Prop:=∀b,p.map (·.block)=some b->W.heap.size<=b\/some b∈src
theorem D9.mono {W:World} {src src2:List (Option Nat)} {p:Option Addr} (h:D9 W src p) (hs:∀s∈src,∀b,s=some b->W.heap.size<=b\/some b∈src2):D9 W src2 p:=λb e=>(h b e).elim .inl λh1=>hs _ h1 b rfl
theorem D9.new {W:World} {src2:List (Option Nat)} {p:Option Addr} (h:D9 W [] p):D9 W src2 p:=h.mono λs hs=>by cases hs
theorem D9.nil {W:World} {src:List (Option Nat)}:D9 W src none:=λb e=>by cases e
section
variable {P:Program} {ops:Array Oper} {rest:List Oper} {Q:Exit->Act->World->Prop} {n d x:Nat} {F:List (Nat×Value)} {w0:BJ} {L:List As} {t:TypeId} {p:String} {af:Array Edge} {y:Operand}
def Hb (L:List As):List (Option Nat)->Prop
  | []=>True
  | s::r=>(∃y∈L,y.ro=true/\y.foot=s)/\Hb L r
theorem Pp {L:List As}:Hb L []:=trivial
theorem cY {L:List As} {y:As} {r:List (Option Nat)} (i:Nat) (hi:L[i]?=some y) (hr:y.ro=true) (h:Hb L r):Hb L (y.foot::r):=⟨⟨y,List.mem_of_getElem? hi,hr,rfl⟩,h⟩
theorem Hb.get {L:List As}:∀{src:List (Option Nat)},Hb L src->∀s∈src,∃y∈L,y.ro=true/\y.foot=s
  | [],_,s,hs=>by cases hs
  | a::r,h,s,hs=>by
    rcases List.mem_cons.1 hs with rfl|hs
    · exact h.1
    · exact Hb.get h.2 s hs
theorem AE.callN {src:List (Option Nat)} {f:FuncId} {xs:List Operand} {args:List Value} {ts:Array TypeId} (hc:∀args w,(callFunc f args).run P w=.ok (.enter f args) w) (h:∀w,BN w0 w L->Calls P f args.toArray w (Gs w src x)) (hsrc:Hb L src)
    (hf:evF F y=some (.func (.func f) #[] #[])) (hargs:xs.map (evF F)=args.map some) (hd:Nat.ble (d+1) n=true) (next:∀v:NV,v.x=x->D9 w0.w src v.p->AE P ops rest Q n ((d,nV v)::F) w0 (nA v::L)) :
    AE P ops (⟨some d,.call { callee:=.value y,args:=xs.toArray,argTypes:=ts },t,p,af,none⟩::rest) Q n F w0 L:=λa w ha hW=>by
  unfold wpList
  rw [if_pos (AS rfl a ha)]
  left
  unfold Oper.wp
  rw [Ao hf hargs hc a w ha hW,Oper.upon_enter]
  refine (h w hW).mono ?_
  rintro e w' ⟨v,hx,rfl,hb,hh,hs⟩
  exact next v hx (λb e=>(hs b e).imp_left λh=>Nat.le_trans hW.1.size h) _ _ (ha.put (B0 hd)) (hW.addRo hb O hh λb e=>(hs b e).imp_right λh=>hsrc.get _ h)
end
theorem Lq (m:Nat):dgL (List.replicate m 0)=List.replicate m (vN 0):=by simp [dgL,List.map_replicate]
theorem R0 (ds:List Nat) (j d:Nat):(dgL ds).set j (vN d)=dgL (ds.set j d):=by simp [dgL,List.map_set]
theorem AE.makeDig {P:Program} {ops:Array Oper} {rest:List Oper} {Q:Exit->Act->World->Prop} {n d m:Nat} {F:List (Nat×Value)} {w0:BJ} {L:List As} {t ty T:TypeId} {p:String} {af:Array Edge} {x y:Operand}
    {ki kj:IntKind} {bytes:Nat} (ht:Oi P t T (vN 0) bytes) (hx:evF F x=some (.int ki (m:Nat))) (hy:evF F y=some (.int kj (m:Nat))) (hm:m<=1099511627776) (hb:Nat.ble bytes 16=true) (hd:Nat.ble (d+1) n=true)
    (next:∀b,OwnOk (some ⟨b,0,none⟩) m m->AE P ops rest Q n ((d,.slice (some ⟨b,0,none⟩) m m)::F) w0 (rowW (some ⟨b,0,none⟩) T 1 m m (dgL (List.replicate m 0))::L)) :
    AE P ops (⟨some d,.makeSlice t x y,ty,p,af,none⟩::rest) Q n F w0 L:=AE.makeRow ht hx hy hm hb hd λb ho=>by rw [<-Lq];exact next b ho
theorem Me (m:Nat):I8 (List.replicate m 0):=λd hd=>by rw [(List.mem_replicate.1 hd).2];omega
theorem JF (m:Nat):val10 (List.replicate m 0)=0:=by
  induction m with
  | zero=>rfl
  | succ k ih=>rw [List.replicate_succ,val10,ih]
theorem Qv {ds:List Nat} {j d:Nat} (h:I8 ds) (hd:d<10000):I8 (ds.set j d):=λe he=>by
  rcases List.mem_or_eq_of_mem_set he with h1|h1
  · exact h e h1
  · omega
theorem L9 {ds:List Nat} {j d:Nat} (hj:j<ds.length):val10 (ds.set j d)+10000^j*ds.getD j 0=val10 ds+10000^j*d:=by
  induction ds generalizing j with
  | nil=>cases hj
  | cons e r ih =>
    cases j with
    | zero=>simp [val10];omega
    | succ j =>
      have h1:=ih (j:=j) (by simpa using hj)
      simp only [List.set_cons_succ,val10,List.getD_cons_succ]
      rw [Nat.pow_succ',Nat.mul_assoc,Nat.mul_assoc]
      omega
theorem X0 {ds:List Nat} (h:I8 ds) (j:Nat):ds.getD j 0<10000:=by
  by_cases hj:j<ds.length
  · refine h _ ?_
    rw [List.getD_eq_getElem?_getD,List.getElem?_eq_getElem hj]
    exact List.getElem_mem hj
  · rw [Ds hj];omega
theorem Nc (ds:List Nat) (j:Nat):10000^j*ds.getD j 0<=val10 ds:=by
  by_cases hj:j<ds.length
  · rw [NA ds j hj];omega
  · rw [Ds hj];omega
theorem Pg {ds:List Nat} {i k cy V a b B s:Nat} (hj:i+k<ds.length) (h:val10 ds+10000^(i+k)*cy=V+10000^i*a*B) (hs:s=ds.getD (i+k) 0+a*b+cy) :
    val10 (ds.set (i+k) (s%10000))+10000^(i+(k+1))*(s/10000)=V+10000^i*a*(B+10000^k*b):=by
  have h1:=L9 (ds:=ds) (j:=i+k) (d:=s%10000) hj
  have h2:10000^(i+(k+1))*(s/10000)=10000^(i+k)*(10000*(s/10000)):=by rw [<-Nat.add_assoc,Nat.pow_succ,Nat.mul_assoc]
  have h3:10000^(i+k)*(s%10000)+10000^(i+k)*(10000*(s/10000))=10000^(i+k)*s:=by rw [<-Nat.mul_add];congr 1;omega
  have h4:10000^(i+k)*s=10000^(i+k)*ds.getD (i+k) 0+10000^(i+k)*(a*b)+10000^(i+k)*cy:=by rw [hs,Nat.mul_add,Nat.mul_add]
  have h5:10000^i*a*(B+10000^k*b)=10000^i*a*B+10000^(i+k)*(a*b):=by
    rw [Nat.mul_add,Nat.pow_add]
    congr 1
    simp only [Nat.mul_assoc,Nat.mul_left_comm,Nat.mul_comm]
  rw [h2,h5]
  omega
theorem SQ {o a b c:Nat} (ho:o<10000) (ha:a<10000) (hb:b<10000) (hc:c<10000):o+a*b+c<100000000:=by
  have:a*b<=9999*9999:=Nat.mul_le_mul Z Z
  omega
theorem Vn {ds:List Nat} {i k cy V a B:Nat} (hV:V+10000^i*a*B<10000^(i+k+1)) (h:val10 ds+10000^(i+k)*cy=V+10000^i*a*B):ds.getD (i+k) 0+cy<10000:=by
  have h1:=Nc ds (i+k)
  have h2:10000^(i+k)*(ds.getD (i+k) 0+cy)<10000^(i+k)*10000:=by
    rw [Nat.mul_add,<-Nat.pow_succ];omega
  exact Nat.lt_of_mul_lt_mul_left h2
theorem SS {x y i:Nat}:val10 ((dg x).take i)*y<10000^(i+(dg y).length):=by
  have h1:=C_ (O8 (EI x) i)
  have h2:=C_ (EI y)
  rw [Ck] at h2
  have h3:10000^((dg x).take i).length<=10000^i:=Nat.pow_le_pow_right Z (by rw [List.length_take];omega)
  rw [Nat.pow_add]
  exact Nat.mul_lt_mul_of_lt_of_le Z (Nat.le_of_lt h2) (Nat.pow_pos Z)
theorem T_ (x:Nat):x/10000^(dg x).length=0:=by
  have h:=C_ (EI x)
  rw [Ck] at h
  exact Nat.div_eq_of_lt h
theorem Qe (x j:Nat):(dg x).getD j 0=x/10000^j%10000:=by
  induction j generalizing x with
  | zero =>
    by_cases h:x=0
    · subst h;rfl
    · rw [Fg h];simp
  | succ j ih =>
    by_cases h:x=0
    · subst h;simp [FO]
    · rw [Fg h,List.getD_cons_succ,ih,Nat.div_div_eq_div_mul,Nat.pow_succ']
theorem Qw (x j:Nat):x/10000^j=10000*(x/10000^(j+1))+(dg x).getD j 0:=by
  rw [Qe,Nat.pow_succ,<-Nat.div_div_eq_div_mul]
  omega
theorem Kp (x:Nat) {k j:Nat} (h:k<=j):x/10000^j<=x/10000^k:=Nat.div_le_div_left (Nat.pow_le_pow_right Z h) (Nat.pow_pos Z)
theorem Oy {x n j k:Nat} (hn:n=x/10000^j) (h:k<=j\/j=(dg x).length) (hj:j<=k):n=x/10000^k:=by
  rcases h with h|h
  · rw [hn,show j=k by omega]
  · have h1:=T_ x
    have h2:=Kp x hj
    rw [<-h] at h1
    have h3:x/10000^k=0:=Nat.le_zero.1 (h1▸h2)
    rw [hn,h1,h3]
theorem YV {ds:List Nat} (x y i:Nat) (h:val10 ds=val10 ((dg x).take i)*y):val10 ds+10000^i*(dg x).getD i 0*y<10000^(i+(dg y).length+1):=by
  have:=SS (x:=x) (y:=y) (i:=i+1)
  rw [B5,Nat.add_mul] at this
  rw [h]
  exact Nat.lt_of_lt_of_eq this (by congr 1;omega)
def KB (W:World) (src src2:List (Option Nat)) (x y:Nat) (e:Ending) (w:World):Prop :=
  ∃u v:NV,u.x=x/\v.x=y/\e=.returned (.tuple #[nV u,nV v])/\Gj W.heap.size W w/\Holds w (nA u)/\Holds w (nA v)/\D9 W src u.p/\D9 W src2 v.p
theorem BN.both {w0:BJ} {w:World} {L:List As} {a b:As} (ha:BN w0 w (a::L)) (hb:BN w0 w (b::L)) (ra:a.ro=true) (rb:b.ro=true):BN w0 w (a::b::L) :=
  ⟨ha.1,λy hy=>(List.mem_cons.1 hy).elim (λe=>ha.2.1 y (e▸List.mem_cons_self)) (λe=>hb.2.1 y e),List.pairwise_cons.2 ⟨λy hy=>(List.mem_cons.1 hy).elim (λe=>.inl ⟨ra,e▸rb⟩) (λe=>(List.pairwise_cons.1 ha.2.2).1 y e),hb.2.2⟩⟩
section
variable {P:Program} {ops:Array Oper} {rest:List Oper} {Q:Exit->Act->World->Prop} {n d x z:Nat} {F:List (Nat×Value)} {w0:BJ} {L:List As} {t T:TypeId} {p:String} {af:Array Edge} {y:Operand}
theorem AE.callNN {src src2:List (Option Nat)} {f:FuncId} {xs:List Operand} {args:List Value} {ts:Array TypeId} (hc:∀args w,(callFunc f args).run P w=.ok (.enter f args) w) (h:∀w,BN w0 w L->Calls P f args.toArray w (KB w src src2 x z)) (hsrc:Hb L src) (hsrc2:Hb L src2)
    (hf:evF F y=some (.func (.func f) #[] #[])) (hargs:xs.map (evF F)=args.map some) (hd:Nat.ble (d+1) n=true) (next:∀u v:NV,u.x=x->v.x=z->D9 w0.w src u.p->D9 w0.w src2 v.p->AE P ops rest Q n ((d,.tuple #[nV u,nV v])::F) w0 (nA u::nA v::L)) :
    AE P ops (⟨some d,.call { callee:=.value y,args:=xs.toArray,argTypes:=ts },t,p,af,none⟩::rest) Q n F w0 L:=λa w ha hW=>by
  unfold wpList
  rw [if_pos (AS rfl a ha)]
  left
  unfold Oper.wp
  rw [Ao hf hargs hc a w ha hW,Oper.upon_enter]
  refine (h w hW).mono ?_
  rintro e w' ⟨u,v,hx,hz,rfl,hb,hu,hv,hs,hs2⟩
  have h1:=hW.addRo hb (Rq v) hv λb e=>(hs2 b e).imp_right λh=>hsrc2.get _ h
  have h2:=hW.addRo hb (Rq u) hu λb e=>(hs b e).imp_right λh=>hsrc.get _ h
  exact next u v hx hz (λb e=>(hs b e).imp_left λh=>Nat.le_trans hW.1.size h) (λb e=>(hs2 b e).imp_left λh=>Nat.le_trans hW.1.size h) _ _ (ha.put (B0 hd)) (h2.both h1 (Rq u) (Rq v))
theorem AE.frozenD (i:Nat) {q:Option Addr} {m c X:Nat} {ds:List Nat} (hi:L[i]?=some (rowW q T 1 m c (dgL ds))) (ho:OwnOk q m c) (hm:m=ds.length) (hx:dg X=ds.take (dg X).length) (hex:w0.ex=none)
    (next:BF q (dg X).length c->D9 w0.w [] q->AE P ops rest Q n F w0 (L.set i (AQ q (dgL (dg X))))):AE P ops rest Q n F w0 L:=λa w ha hw=>by
  have hle:(dg X).length<=m:=by rw [hm];have:=congrArg List.length hx;rw [List.length_take] at this;omega
  refine next ⟨λe=>?_,λa e=>ho.row.spot a e,Nat.le_trans hle ho.le⟩ ?_ a w ha (hw.freeze hi O (λo hp=>?_) (λe=>by cases e))
  · have:=ho.nil e
    exact ⟨Z,this.2⟩
  · intro b e
    rcases (hw.2.1 _ (List.mem_of_getElem? hi) b e).1 with h1|h1|h1
    · cases h1
    · exact .inl h1
    · rw [hex] at h1;cases h1
  · have h1:=GM.take (k:=(dg X).length) (Cg ho (by rw [CW,hm,Nat.mul_one]) hp)
    rw [<-Oj,<-hx] at h1
    exact h1
end
theorem WZ {ds:List Nat} (h:I8 ds) (j:Nat):ds.getD j 0=val10 ds/10000^j%10000:=by
  induction ds generalizing j with
  | nil=>simp [val10]
  | cons d r ih =>
    have hd:=h d (by simp)
    cases j with
    | zero=>simp [val10];omega
    | succ j =>
      rw [List.getD_cons_succ,ih (λe he=>h e (List.mem_cons_of_mem _ he)) j,val10,Nat.pow_succ',<-Nat.div_div_eq_div_mul]
      congr 2
      omega
theorem R9 (x k:Nat):(dg x).drop k=dg (x/10000^k):=by
  induction k generalizing x with
  | zero=>simp
  | succ k ih =>
    by_cases h:x=0
    · subst h;simp [FO]
    · rw [Fg h,List.drop_succ_cons,ih,Nat.div_div_eq_div_mul,Nat.pow_succ']
theorem KK {x:Nat} (h:0<x):10000^((dg x).length-1)<=x/\1<=(dg x).length:=by
  have h0:1<=(dg x).length:=by rw [Fg Z];simp
  refine ⟨?_,h0⟩
  rcases Nat.lt_or_ge x (10000^((dg x).length-1)) with h1|h1
  · have:=F4 h1;omega
  · exact h1
theorem XL (x:Nat):x/10000^((dg x).length-3)<1000000000000:=by
  have h:=C_ (EI x)
  rw [Ck] at h
  have h2:10000^(dg x).length<=10000^((dg x).length-3+3):=Nat.pow_le_pow_right Z Z
  rw [Nat.pow_add] at h2
  exact Nat.div_lt_of_lt_mul (Nat.lt_of_lt_of_le h h2)
theorem Qg {x:Nat} (h:0<x):1<=x/10000^((dg x).length-3):=by
  have h1:=KK h
  have h2:10000^((dg x).length-3)<=10000^((dg x).length-1):=Nat.pow_le_pow_right Z Z
  exact (Nat.le_div_iff_mul_le (Nat.pow_pos Z)).2 Z
theorem SO {r b k:Nat} (hr:r<10000*b) (hb:b/10000^k<1000000000000):r/10000^k<10000000000000000:=by
  have h1:b<10000^k*1000000000000:=by
    have:=(Nat.div_lt_iff_lt_mul (Nat.pow_pos Z)).1 hb
    rw [Nat.mul_comm];exact this
  exact Nat.div_lt_of_lt_mul Z
theorem Wz {r b k:Nat} (hb:0<b):r/10000^k/(b/10000^k+1)<=r/b:=by
  rw [Nat.div_div_eq_div_mul]
  refine Nat.div_le_div_left ?_ hb
  have:=Nat.lt_div_mul_add (a:=b) (b:=10000^k) (Nat.pow_pos Z)
  rw [Nat.mul_add,Nat.mul_one,Nat.mul_comm]
  omega
theorem V7 {r b k:Nat} (h:1<=b/10000^k):r/b<=r/10000^k/(b/10000^k):=by
  rw [Nat.div_div_eq_div_mul]
  exact Nat.div_le_div_left (Nat.mul_div_le _ _) (Nat.mul_pos (Nat.pow_pos Z) h)
theorem P3 {A A1 b d R R1:Nat} (hb:0<b) (h1:A1=10000*A+d) (hR:R=A%b) (hR1:R1=10000*R+d):A1/b=10000*(A/b)+R1/b/\A1%b=R1%b:=by
  have h2:A1=b*(10000*(A/b))+R1:=by
    have:=Nat.div_add_mod A b
    have h3:b*(10000*(A/b))=10000*(b*(A/b)):=Nat.mul_left_comm _ _ _
    rw [h3];omega
  rw [h2]
  exact ⟨Nat.mul_add_div hb _ _,Nat.mul_add_mod _ _ _⟩
theorem TU {qs:List Nat} {j m q X Y:Nat} (hd:I8 qs) (hm:m=qs.length) (hj:1<=j) (hjm:j<=m) (hv:val10 qs=10000^j*X) (hY:Y=10000*X+q):val10 (qs.set (j-1) q)=10000^(j-1)*Y:=by
  have h1:=L9 (ds:=qs) (j:=j-1) (d:=q) Z
  have h2:10000^j*X=10000^(j-1)*(10000*X):=by
    rw [<-Nat.mul_assoc,<-Nat.pow_succ,show (j-1).succ=j by omega]
  rw [WZ hd,hv,h2,Nat.mul_div_cancel_left _ (Nat.pow_pos Z),Nat.mul_mod_right,Nat.mul_zero,Nat.add_zero] at h1
  rw [h1,hY,Nat.mul_add]
theorem Oe {a b m:Nat} (hb:0<b) (hm:m+(dg b).length=(dg a).length+1):a/10000^m<b:=by
  have h:=C_ (EI a)
  rw [Ck] at h
  have h1:=KK hb
  refine Nat.div_lt_of_lt_mul (Nat.lt_of_lt_of_le h ?_)
  rw [show (dg a).length=m+((dg b).length-1) by omega,Nat.pow_add]
  exact Nat.mul_le_mul_left _ h1.1
theorem bR {W w:World} {L:List As} {i k m c c2 x y:Nat} {p p2:Option Addr} {T:TypeId} {ds:List Nat} {src2:List (Option Nat)} (hw:BN ⟨W,none⟩ w L) (hi:L[i]?=some (rowW p T 1 m c (dgL ds))) (ho:OwnOk p m c) (hm:m=ds.length)
    (hx:dg x=ds.take (dg x).length) {v v2:Value} (hv:v=.slice p (dg x).length c) (hk:L[k]?=some (AQ p2 (dgL (dg y)))) (hok:BF p2 (dg y).length c2) (hloc:D9 W [] p2) (hv2:v2=.slice p2 (dg y).length c2):KB W [] src2 x y (.returned (.tuple #[v,v2])) w:=by
  obtain ⟨u,hux,hue,hub,huh,hul⟩:=Wi (src:=[]) hw hi ho hm hx hv
  have e:=hue
  rw [Ending.returned.injEq] at e
  exact ⟨u,⟨p2,c2,y,hok⟩,hux,rfl,by rw [e,hv2],hub,huh,hw.holds hk,hul,hloc.new⟩
theorem ZL {W w:World} {L:List As} {k x:Nat} {a:NV} (hw:BN ⟨W,none⟩ w L) (hx:x=0) (hk:L[k]?=some (nA a)):KB W [] [a.p.map (·.block)] x a.x (.returned (.tuple #[.slice none 0 0,nV a])) w :=
  ⟨⟨none,0,0,OwnOk.none.row⟩,a,hx.symm,rfl,rfl,hw.out,(λb e=>by cases e),hw.holds hk,D9.nil,λb e=>.inr (by rw [<-e];exact List.mem_cons_self)⟩
theorem Z1 {w0:BJ} {L:List As} {q:Option Addr} {ds:List Nat} {k n' i c:Nat} (hi:L[k]?=some (AQ q (dgL ds))) (hok:BF q n' c) (hl:i<=n'):aZ w0 L (aY q i c 1) (n'-i) (dgL (ds.drop i)):=by
  have h:=bA (w0:=w0) (z:=1) hi hok hl
  rw [Nat.mul_one] at h
  rw [show dgL (ds.drop i)=(dgL ds).drop i by simp [dgL,List.map_drop]]
  exact h
end
section
def txB (l:List UInt8):ByteArray:=⟨l.toArray⟩
theorem Di (l:List UInt8):(txB l).size=l.length:=by simp [txB,ByteArray.size]
theorem Dn (a b:List UInt8):txB a++txB b=txB (a++b):=by
  apply ByteArray.ext
  simp [txB]
def Fd:Nat->Nat->List UInt8
  | 0,_=>[]
  | k+1,x=>UInt8.ofNat (48+x/10^k%10)::Fd k x
theorem Oz (k x:Nat):(Fd k x).length=k:=by
  induction k with
  | zero=>rfl
  | succ k ih=>rw [Fd,List.length_cons,ih]
theorem Sj (k x:Nat):Fd (k+1) x=Fd k (x/10)++[UInt8.ofNat (48+x%10)]:=by
  induction k with
  | zero=>simp [Fd]
  | succ k ih =>
    rw [Fd,ih,Fd,List.cons_append,Nat.pow_succ',<-Nat.div_div_eq_div_mul]
theorem Lx (m x:Nat) (h0:x/10^(m+1)=0) (h1:m=0\/x/10^m≠0):Lib.decDigits x=Fd (m+1) x:=by
  induction m generalizing x with
  | zero =>
    have hx:x<10:=by omega
    rw [Lib.decDigits,dif_pos hx]
    simp [Fd,Nat.mod_eq_of_lt hx]
  | succ m ih =>
    have h2:x/10^(m+1)≠0:=h1.resolve_left Z
    rw [Nat.pow_succ',<-Nat.div_div_eq_div_mul] at h0 h2
    have hx:¬x<10:=λh=>h2 (by rw [Nat.div_eq_of_lt h];exact Nat.zero_div _)
    rw [Lib.decDigits,dif_neg hx,Sj (m+1),ih (x/10) h0 (.inr h2)]
theorem bg (i:Nat):10^(4*i)=10000^i:=by rw [Nat.pow_mul]
theorem ZC {x i k:Nat} (hk:k<4):x/10^(4*i+k)%10=(dg x).getD i 0/10^k%10:=by
  rw [Nat.pow_add,bg,<-Nat.div_div_eq_div_mul,Qe]
  generalize x/10000^i=y
  match k,hk with
  | 0,_=>simp only [Nat.pow_zero,Nat.div_one];omega
  | 1,_=>show y/10%10=y%10000/10%10;omega
  | 2,_=>show y/100%10=y%10000/100%10;omega
  | 3,_=>show y/1000%10=y%10000/1000%10;omega
theorem Vr {x i k d:Nat} (hk:k<4) (hd:d=(dg x).getD i 0/10^k):txB [UInt8.ofNat (48+d%10)]++txB (Fd (4*i+k) x)=txB (Fd (4*i+(k+1)) x):=by
  rw [Dn,<-Nat.add_assoc,Fd,ZC hk,hd]
  rfl
theorem Ul {x i k d:Nat} (hx:0<x) (hi:i+1=(dg x).length) (hk:k<=4) (hd:d=(dg x).getD i 0/10^k) (hnz:k=0\/(dg x).getD i 0/10^(k-1)≠0) (hex:k=4\/d=0):Fd (4*i+k) x=Lib.decDigits x:=by
  have h1:=C_ (EI x)
  rw [Ck,<-hi,Nat.pow_succ] at h1
  have h2:=KK hx
  rw [<-hi,Nat.add_sub_cancel] at h2
  have hy:x/10000^i<10000:=Nat.div_lt_of_lt_mul h1
  have hy1:1<=x/10000^i:=(Nat.le_div_iff_mul_le (Nat.pow_pos Z)).2 Z
  rw [Qe,Nat.mod_eq_of_lt hy] at hd hnz
  have e:∀j,x/10^(4*i+j)=x/10000^i/10^j:=λj=>by rw [Nat.pow_add,bg,<-Nat.div_div_eq_div_mul]
  generalize hyy:x/10000^i=y at *
  have hk1:1<=k:=by
    rcases Nat.eq_zero_or_pos k with h|h
    · subst h;simp at hd;omega
    · exact h
  have hz:y/10^k=0:=by
    rcases hex with h|h
    · subst h;exact Nat.div_eq_of_lt hy
    · omega
  obtain ⟨m,hm⟩:∃m,m+1=4*i+k:=⟨4*i+k-1,Z⟩
  rw [<-hm]
  refine (Lx m x ?_ (.inr ?_)).symm
  · rw [hm,e,hz]
  · rw [show m=4*i+(k-1) by omega,e]
    exact hnz.resolve_left Z
theorem KN:Lib.decDigits 0=[48]:=by rw [Lib.decDigits,dif_pos Z];rfl
section
variable {P:Program} {n:Nat} {F:List (Nat×Value)} {w0:BJ} {L:List As} {t:TypeId} {p:String} {af:Array Edge} {d:Option Tmp} {g:Option (Nat×Bool)} {x:Operand}
theorem PO {k:IntKind} {a:Nat} {src dst:TypeId} {ds:TypeDesc} (hx:evF F x=some (.int k (a:Nat))) (h1:P.underlying src=some ds) (h2:P.underlying dst=some .string) (ha:a<128):Ex P n F w0 L ⟨d,.convert src dst x,t,p,af,g⟩ (.string (txB [UInt8.ofNat a])):=λA w hf _=>by
  have e:Utf8.encode (a:Nat)=txB [UInt8.ofNat a]:=by
    have hv:Utf8.valid (a:Int)=true:=by simp [Utf8.valid];omega
    simp only [Utf8.encode,hv,if_true,Int.toNat_natCast]
    rw [if_pos Z]
    rfl
  simp only [execOp,hf.ev hx,Sem.run_bind,run_convert_int_string w src dst k (a:Nat) (by rw [h1];rfl) h2,Result.andThen_ok,Sem.run_pure,e]
end
end
section
structure NX (x:Nat) where
  p:Option Addr
  c:Nat
  ok:BF p (dg x).length c
@[reducible] def NX.nv {x:Nat} (a:NX x):NV:=⟨a.p,a.c,x,a.ok⟩
@[reducible] def NX.cast {x y:Nat} (h:x=y) (a:NX x):NX y:=⟨a.p,a.c,h▸a.ok⟩
def NX.zero:NX 0:=⟨none,0,⟨λ_=>⟨rfl,rfl⟩,(λ_ e=>by cases e),Nat.le_refl _⟩⟩
@[reducible] def CH {x:Nat} (a:NX x):Value:=.slice a.p (dg x).length a.c
def Be {x:Nat} (a:NX x):As:=AQ a.p (dgL (dg x))
structure ZX (z:Int) where
  n:NX z.natAbs
structure FX (q:Rat) where
  z:ZX q.num
  m:NX (q.den-1)
structure PX (p:Pt) where
  x:FX p.x
  y:FX p.y
def DK {z:Int} (a:ZX z):List Value:=[.bool (decide (z<0)),CH a.n]
def fxL {q:Rat} (a:FX q):List Value:=DK a.z++[CH a.m]
def DE {p:Pt} (a:PX p):List Value:=fxL a.x++fxL a.y
instance {x:Nat}:DN (NX x):=⟨λa=>CH a,λa=>[Be a],λa y hy=>by rcases List.mem_singleton.1 hy with rfl;rfl⟩
instance {z:Int}:DN (ZX z):=⟨λa=>aG (DK a),λa=>[Be a.n],λa y hy=>by rcases List.mem_singleton.1 hy with rfl;rfl⟩
theorem Pa {a b y:As} (ha:a.ro=true) (hb:b.ro=true) (hy:y∈[a,b]):y.ro=true:=by
  rcases List.mem_cons.1 hy with rfl|hy
  · exact ha
  · rcases List.mem_singleton.1 hy with rfl;exact hb
instance {q:Rat}:DN (FX q):=⟨λa=>aG (fxL a),λa=>[Be a.z.n,Be a.m],λa y hy=>Pa rfl rfl hy⟩
instance {p:Pt}:DN (PX p):=⟨λa=>aG (DE a),λa=>[Be a.x.z.n,Be a.x.m,Be a.y.z.n,Be a.y.m],λa y hy=>by
  rcases List.mem_cons.1 hy with rfl|hy
  · rfl
  · rcases List.mem_cons.1 hy with rfl|hy
    · rfl
    · exact Pa O O hy⟩
section
variable {w0:BJ} {S:Nat->Prop} {w W:World} {L:List As} {α:Type} [DN α]
-- parts
theorem Wu {q:Rat} {a:FX q} (h:Ro S w a):Ro S w a.z:=λy hy=>h y (by rcases List.mem_singleton.1 hy with rfl;exact List.mem_cons_self)
theorem dL {q:Rat} {a:FX q} (h:Ro S w a):Ro S w a.m:=λy hy=>h y (by rcases List.mem_singleton.1 hy with rfl;exact List.mem_cons_of_mem _ List.mem_cons_self)
theorem OE {z:Int} {a:ZX z} (h:Ro S w a):Ro S w a.n:=λy hy=>h y hy
theorem Z4 {p:Pt} {a:PX p} (h:Ro S w a):Ro S w a.x:=λy hy=>h y (by
  rcases List.mem_cons.1 hy with rfl|hy
  · exact List.mem_cons_self
  · rcases List.mem_singleton.1 hy with rfl;exact List.mem_cons_of_mem _ List.mem_cons_self)
theorem aV {p:Pt} {a:PX p} (h:Ro S w a):Ro S w a.y:=λy hy=>h y (List.mem_cons_of_mem _ (List.mem_cons_of_mem _ hy))
theorem bu {z:Int} {a:NX z.natAbs} (h:Ro S w a):Ro S w (ZX.mk a:ZX z):=λy hy=>h y hy
theorem aW {q:Rat} {a:ZX q.num} {b:NX (q.den-1)} (h:Ro S w a) (k:Ro S w b):Ro S w (FX.mk a b:FX q):=λy hy=>by
  rcases List.mem_cons.1 hy with rfl|hy
  · exact h _ List.mem_cons_self
  · exact k y hy
theorem cU {p:Pt} {a:FX p.x} {b:FX p.y} (h:Ro S w a) (k:Ro S w b):Ro S w (PX.mk a b:PX p):=λy hy=>by
  rcases List.mem_cons.1 hy with rfl|hy
  · exact h _ List.mem_cons_self
  · rcases List.mem_cons.1 hy with rfl|hy
    · exact h _ (List.mem_cons_of_mem _ List.mem_cons_self)
    · exact k y hy
theorem Pe:Ro S w NX.zero:=λy hy=>by
  rcases List.mem_singleton.1 hy with rfl
  exact ⟨(λb e=>by cases e),(λb e=>by cases e)⟩
theorem ZW {x y:Nat} {h:x=y} {a:NX x} (k:Ro S w a):Ro S w (a.cast h):=by subst h;exact k
theorem TV {x:Nat} {a:NX x} (h:Ro S w a):Holds w (nA a.nv):=(h _ List.mem_cons_self).1
-- what a walk starts with
theorem cE {x:Nat} {a:NX x} (h:Ro S w a) (t:∀y∈L,y.ro=true/\Holds w y):∀y∈Be a::L,y.ro=true/\Holds w y:=CE rfl (h _ List.mem_cons_self).1 t
theorem YD {z:Int} {a:ZX z} (h:Ro S w a) (t:∀y∈L,y.ro=true/\Holds w y):∀y∈Be a.n::L,y.ro=true/\Holds w y:=cE (OE h) t
theorem PS {q:Rat} {a:FX q} (h:Ro S w a) (t:∀y∈L,y.ro=true/\Holds w y):∀y∈Be a.z.n::Be a.m::L,y.ro=true/\Holds w y:=YD (Wu h) (cE (dL h) t)
theorem Yx {p:Pt} {a:PX p} (h:Ro S w a) (t:∀y∈L,y.ro=true/\Holds w y):∀y∈Be a.x.z.n::Be a.x.m::Be a.y.z.n::Be a.y.m::L,y.ro=true/\Holds w y:=PS (Z4 h) (PS (aV h) t)
end
section
variable {P:Program} {ops:Array Oper} {rest:List Oper} {Q:Exit->Act->World->Prop} {n d:Nat} {F:List (Nat×Value)} {w0:BJ} {S:Nat->Prop} {L:List As} {t:TypeId} {p:String} {af:Array Edge} {y:Operand} {f:FuncId} {xs:List Operand} {args:List Value} {ts:Array TypeId}
theorem cN {x:Nat} (hc:∀args w,(callFunc f args).run P w=.ok (.enter f args) w) (h:∀w,BN w0 w L->Calls P f args.toArray w (Aw (NX x) (SL w0 S L) w))
    (hf:evF F y=some (.func (.func f) #[] #[])) (hargs:xs.map (evF F)=args.map some) (hd:Nat.ble (d+1) n=true) (next:∀a:NX x,At w0 S a->AE P ops rest Q n ((d,CH a)::F) w0 (Be a::L)) :
    AE P ops (⟨some d,.call { callee:=.value y,args:=xs.toArray,argTypes:=ts },t,p,af,none⟩::rest) Q n F w0 L:=AE.callR hc h hf hargs hd next
theorem cZ {x:Int} (hc:∀args w,(callFunc f args).run P w=.ok (.enter f args) w) (h:∀w,BN w0 w L->Calls P f args.toArray w (Aw (ZX x) (SL w0 S L) w))
    (hf:evF F y=some (.func (.func f) #[] #[])) (hargs:xs.map (evF F)=args.map some) (hd:Nat.ble (d+1) n=true) (next:∀a:ZX x,At w0 S a->AE P ops rest Q n ((d,aG (DK a))::F) w0 (Be a.n::L)) :
    AE P ops (⟨some d,.call { callee:=.value y,args:=xs.toArray,argTypes:=ts },t,p,af,none⟩::rest) Q n F w0 L:=AE.callR hc h hf hargs hd next
theorem cF {x:Rat} (hc:∀args w,(callFunc f args).run P w=.ok (.enter f args) w) (h:∀w,BN w0 w L->Calls P f args.toArray w (Aw (FX x) (SL w0 S L) w))
    (hf:evF F y=some (.func (.func f) #[] #[])) (hargs:xs.map (evF F)=args.map some) (hd:Nat.ble (d+1) n=true) (next:∀a:FX x,At w0 S a->AE P ops rest Q n ((d,aG (fxL a))::F) w0 (Be a.z.n::Be a.m::L)) :
    AE P ops (⟨some d,.call { callee:=.value y,args:=xs.toArray,argTypes:=ts },t,p,af,none⟩::rest) Q n F w0 L:=AE.callR hc h hf hargs hd next
theorem cP {x:Pt} (hc:∀args w,(callFunc f args).run P w=.ok (.enter f args) w) (h:∀w,BN w0 w L->Calls P f args.toArray w (Aw (PX x) (SL w0 S L) w))
    (hf:evF F y=some (.func (.func f) #[] #[])) (hargs:xs.map (evF F)=args.map some) (hd:Nat.ble (d+1) n=true) (next:∀a:PX x,At w0 S a->AE P ops rest Q n ((d,aG (DE a))::F) w0 (Be a.x.z.n::Be a.x.m::Be a.y.z.n::Be a.y.m::L)) :
    AE P ops (⟨some d,.call { callee:=.value y,args:=xs.toArray,argTypes:=ts },t,p,af,none⟩::rest) Q n F w0 L:=AE.callR hc h hf hargs hd next
end
theorem ZA (x:Nat):(dg x).length<=3*nw x:=F4 (Nat.lt_of_lt_of_le (Bt x) (by rw [Nat.pow_mul];exact Nat.pow_le_pow_left (by decide) _))
end
end Go.Proofs.YtpgncndhhhllfaaGreatDoor
