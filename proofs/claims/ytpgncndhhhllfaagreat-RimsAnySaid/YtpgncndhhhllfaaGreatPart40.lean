import Derived.Lib.ItoaNum
import Derived.Laws.Runes
import Derived.Test.YtpgncndhhhllfaaGreatPart03
import Derived.Test.YtpgncndhhhllfaaGreatPart04
import Derived.Test.YtpgncndhhhllfaaGreatPart06
import Derived.Test.YtpgncndhhhllfaaGreatPart15
import Derived.Test.YtpgncndhhhllfaaGreatPart16
namespace Go.Proofs.YtpgncndhhhllfaaGreat
open Go Go.RowKit Go.Proofs.Tryz
set_option linter.unusedVariables false
set_option linter.unusedSimpArgs false
section
def val10:List Nat->Nat
  | []=>0
  | d::r=>d+10000*val10 r
def XP:Nat->Nat->List Nat
  | 0,_=>[]
  | f+1,x=>if x=0 then [] else x%10000::XP f (x/10000)
def dg (x:Nat):List Nat:=XP x x
theorem Ny:∀(f g x:Nat),x<=f->x<=g->XP f x=XP g x
  | 0,0,_,_,_=>rfl
  | 0,g+1,x,h,_=>by
    obtain rfl:x=0:=by omega
    simp [XP]
  | f+1,0,x,_,h=>by
    obtain rfl:x=0:=by omega
    simp [XP]
  | f+1,g+1,x,h1,h2=>by
    unfold XP
    split
    · rfl
    · rw [Ny f g (x/10000) Z Z]
theorem Ef:dg 0=[]:=rfl
theorem Er {x:Nat} (h:x≠0):dg x=x%10000::dg (x/10000):=by
  unfold dg
  cases x with
  | zero=>exact absurd rfl h
  | succ k =>
    rw [XP,if_neg h,Ny k ((k+1)/10000) ((k+1)/10000) Z (Nat.le_refl _)]
def Il (ds:List Nat):Prop:=∀d∈ds,d<10000
theorem D1 (x:Nat):Il (dg x):=by
  induction x using Nat.strongRecOn with
  | _ x ih =>
    by_cases h:x=0
    · subst h;intro d hd;cases hd
    · rw [Er h]
      intro d hd
      rcases List.mem_cons.1 hd with rfl|hd
      · exact Nat.mod_lt _ Z
      · exact ih (x/10000) Z d hd
theorem CZ (x:Nat):val10 (dg x)=x:=by
  induction x using Nat.strongRecOn with
  | _ x ih =>
    by_cases h:x=0
    · subst h;rfl
    · rw [Er h,val10,ih (x/10000) Z]
      omega
def QO (ds:List Nat):Prop:=Il ds/\ds.getLast?≠some 0
theorem O3 {ds:List Nat} (h:QO ds) (h0:val10 ds=0):ds=[]:=by
  induction ds with
  | nil=>rfl
  | cons d r ih =>
    rw [val10] at h0
    have hr:r=[]:=by
      refine ih ⟨λe he=>h.1 e (List.mem_cons_of_mem _ he),λe=>?_⟩ Z
      cases r with
      | nil=>cases e
      | cons e' r'=>exact h.2 (by rw [List.getLast?_cons_cons];exact e)
    subst hr
    exact absurd (by simp;omega) h.2
theorem St {ds:List Nat} (h:QO ds):dg (val10 ds)=ds:=by
  induction ds with
  | nil=>rfl
  | cons d r ih =>
    have hd:=h.1 d (by simp)
    have hcr:QO r:=⟨λe he=>h.1 e (List.mem_cons_of_mem _ he),λe=>by
      cases r with
      | nil=>cases e
      | cons e' r'=>exact h.2 (by rw [List.getLast?_cons_cons];exact e)⟩
    by_cases h0:val10 (d::r)=0
    · exact absurd (O3 h h0) (by simp)
    · rw [Er h0,val10]
      have e1:(d+10000*val10 r)%10000=d:=by omega
      have e2:(d+10000*val10 r)/10000=val10 r:=by omega
      rw [e1,e2,ih hcr]
theorem DW (a b:List Nat):val10 (a++b)=val10 a+10000^a.length*val10 b:=by
  induction a with
  | nil=>simp [val10]
  | cons d r ih =>
    simp only [List.cons_append,val10,ih,List.length_cons]
    rw [Nat.pow_succ,Nat.mul_add,<-Nat.mul_assoc,Nat.mul_comm (10000^r.length) 10000,Nat.add_assoc]
theorem Cz {ds:List Nat} (h:Il ds):val10 ds<10000^ds.length:=by
  induction ds with
  | nil=>simp [val10]
  | cons d r ih =>
    have h1:=ih λe he=>h e (List.mem_cons_of_mem _ he)
    have h2:=h d (by simp)
    rw [val10,List.length_cons,Nat.pow_succ]
    omega
theorem Kj (ds:List Nat):val10 (ds++[0])=val10 ds:=by rw [DW];simp [val10]
def dgL (ds:List Nat):List Value:=ds.map λ(d:Nat)=>vN d
theorem CK (ds:List Nat):(dgL ds).length=ds.length:=by simp [dgL]
theorem DV {ds:List Nat} {j:Nat} (h:j<ds.length):(dgL ds)[j*1]?=some (vN (ds.getD j 0)):=by simp [dgL,h]
theorem EZ (a b:List Nat):dgL (a++b)=dgL a++dgL b:=by simp [dgL]
theorem Mv (ds:List Nat) (k:Nat):dgL (ds.take k)=(dgL ds).take k:=by simp [dgL,List.map_take]
theorem Px (ds:List Nat):((dgL ds).all λu=>u.oneCell')=true:=by
  rw [List.all_eq_true]
  intro u hu
  obtain ⟨d,_,rfl⟩:=List.mem_map.1 hu
  rfl
structure NV where
  p:Option Addr
  c:Nat
  x:Nat
  ok:Ar p (dg x).length c
@[reducible] def NV.n (v:NV):Nat:=(dg v.x).length
@[reducible] def nV (v:NV):Value:=.slice v.p (dg v.x).length v.c
def nA (v:NV):As:=AJ v.p (dgL (dg v.x))
theorem Pn (v:NV):(nA v).ro=true:=rfl
theorem G0.take {off k:Nat} {cs:List Value} {o:Obj} (h:G0 off cs o):G0 off (cs.take k) o:=by
  obtain ⟨cur,T,fr,rfl,hcs⟩:=h
  refine ⟨cur,T,fr,rfl,?_⟩
  rw [List.length_take]
  conv=>rhs;rw [<-hcs,List.take_take]
theorem Ko {ds:List Nat} {k:Nat} (hk:k<ds.length) (h0:ds.getD k 0=0):val10 (ds.take k)=val10 (ds.take (k+1)):=by
  rw [List.take_add_one]
  have:ds[k]?=some 0:=by simp [hk] at h0 ⊢;exact h0
  rw [this]
  exact (Kj _).symm
theorem Ph {ds:List Nat} {k:Nat} (hd:Il ds) (hk:k<=ds.length) (h:k=0\/ds.getD (k-1) 0≠0):QO (ds.take k):=by
  refine ⟨λd hd'=>hd d (List.mem_of_mem_take hd'),λe=>?_⟩
  rcases Nat.eq_zero_or_pos k with h0|h0
  · subst h0;simp at e
  · have h1:=h.resolve_left Z
    rw [List.getLast?_eq_getElem?] at e
    simp only [List.length_take,Nat.min_eq_left hk] at e
    rw [List.getElem?_take,if_pos Z] at e
    exact h1 (by simp [List.getD,e])
theorem Tu {ds:List Nat} {k:Nat} (hd:Il ds) (hk:k<=ds.length) (hv:val10 (ds.take k)=val10 ds) (h:k=0\/ds.getD (k-1) 0≠0):k=(dg (val10 ds)).length:=by
  have:=St (Ph hd hk h)
  rw [<-hv,this,List.length_take,Nat.min_eq_left hk]
theorem DI {ds:List Nat} {i:Nat} (h:¬i<ds.length):ds.getD i 0=0:=by
  rw [List.getD_eq_getElem?_getD,List.getElem?_eq_none Z];rfl
theorem FW {x k:Nat} (h:x<10000^k):(dg x).length<=k:=by
  induction k generalizing x with
  | zero =>
    obtain rfl:x=0:=by simpa using h
    simp [Ef]
  | succ k ih =>
    by_cases h0:x=0
    · subst h0;simp [Ef]
    · rw [Er h0,List.length_cons]
      have:=ih (x:=x/10000) (by rw [Nat.pow_succ] at h;omega)
      omega
def F6 (W:World) (src:List (Option Nat)) (x:Nat) (e:Ending) (w:World):Prop :=
  ∃v:NV,v.x=x/\e=.returned (nV v)/\F0 W.heap.size W w/\Holds w (nA v)/\∀b,v.p.map (·.block)=some b->W.heap.size<=b\/some b∈src
theorem Pc {w:World} {q:Option Addr} {cs:List Value} (k:Nat) (h:Holds w (AJ q cs)):Holds w (AJ q (cs.take k)):=λb e=>by
  obtain ⟨o,ho,hp⟩:=h b e
  exact ⟨o,ho,G0.take hp⟩
theorem U6 {W w:World} {L:List As} {i m c x:Nat} {p:Option Addr} {T:TypeId} {ds:List Nat} {src:List (Option Nat)} (hw:BM ⟨W,none⟩ w L) (hi:L[i]?=some (rowW p T 1 m c (dgL ds))) (ho:OwnOk p m c) (hm:m=ds.length)
    (hx:dg x=ds.take (dg x).length) {v:Value} (hv:v=.slice p (dg x).length c):F6 W src x (.returned v) w:=by
  have hle:(dg x).length<=m:=by rw [hm];have:=congrArg List.length hx;rw [List.length_take] at this;omega
  have h0:Holds w (AJ p (dgL ds)):=λb e=>by
    obtain ⟨o,hob,hp⟩:=hw.holds hi b e
    exact ⟨o,hob,B_ ho (by rw [CK,hm,Nat.mul_one]) hp⟩
  have h1:=Pc (dg x).length h0
  rw [<-Mv,<-hx] at h1
  refine ⟨⟨p,c,x,⟨λe=>?_,λa e=>ho.row.spot a e,Nat.le_trans hle ho.le⟩⟩,rfl,by rw [hv],hw.out,h1,λb e=>.inl (hw.newRow hi b e)⟩
  have:=ho.nil e
  exact ⟨Z,this.2⟩
theorem GI (x i:Nat):(dg x).getD i 0<10000:=by
  by_cases h:i<(dg x).length
  · refine D1 x _ ?_
    rw [List.getD_eq_getElem?_getD,List.getElem?_eq_getElem h]
    exact List.getElem_mem h
  · rw [DI h];omega
theorem Bu (ds:List Nat) (k:Nat):val10 (ds.take (k+1))=val10 (ds.take k)+10000^k*ds.getD k 0:=by
  by_cases h:k<ds.length
  · have h1:ds[k]?=some (ds.getD k 0):=by simp [h]
    rw [List.take_add_one,h1,DW,List.length_take,Nat.min_eq_left Z]
    simp [val10]
  · rw [DI h,List.take_of_length_le Z,List.take_of_length_le Z]
    simp
theorem Ch {ds:List Nat} {k:Nat} (h:¬k<ds.length):val10 (ds.take k)=val10 ds:=by rw [List.take_of_length_le Z]
theorem VR {ds:List Nat} {k c s A B a b:Nat} (hk:k=ds.length) (h:val10 ds+10000^k*c=A+B) (hs:s=a+b+c):val10 (ds++[s%10000])+10000^(k+1)*(s/10000)=(A+10000^k*a)+(B+10000^k*b):=by
  rw [DW,<-hk]
  simp only [val10,Nat.mul_zero,Nat.add_zero]
  have h1:10000^(k+1)*(s/10000)=10000^k*(10000*(s/10000)):=by rw [Nat.pow_succ,Nat.mul_assoc]
  have h2:s%10000+10000*(s/10000)=s:=by omega
  have h3:10000^k*(s%10000)+10000^k*(10000*(s/10000))=10000^k*(a+b+c):=by rw [<-Nat.mul_add,h2,hs]
  rw [h1,Nat.add_assoc,h3,Nat.mul_add,Nat.mul_add]
  omega
theorem Nh {ds:List Nat} {d:Nat} (h:Il ds) (hd:d<10000):Il (ds++[d]):=λe he=>by
  rcases List.mem_append.1 he with he|he
  · exact h e he
  · rcases List.mem_singleton.1 he with rfl
    exact hd
theorem P_:Il []:=λ_ h=>by cases h
theorem E8 {ds:List Nat} (h:Il ds):dg (val10 ds)=ds.take (dg (val10 ds)).length:=by
  induction ds with
  | nil=>rfl
  | cons d r ih =>
    have ih:=ih λe he=>h e (List.mem_cons_of_mem _ he)
    have hd:=h d (by simp)
    by_cases h0:val10 (d::r)=0
    · rw [h0,Ef];rfl
    · rw [Er h0,val10]
      have e1:(d+10000*val10 r)%10000=d:=by omega
      have e2:(d+10000*val10 r)/10000=val10 r:=by omega
      rw [e1,e2,List.length_cons,List.take_succ_cons,<-ih]
theorem HL {x y:Nat} (h:x<=y):(dg x).length<=(dg y).length:=by
  have h1:=Cz (D1 y)
  rw [CZ] at h1
  exact FW Z
theorem MH {ds:List Nat} {k l l2 d A B a b:Nat} (hk:k=ds.length) (h:val10 ds+B=A+10000^k*l) (hd:d+b+l=a+10000*l2):val10 (ds++[d])+(B+10000^k*b)=A+10000^k*a+10000^(k+1)*l2:=by
  rw [DW,<-hk]
  simp only [val10,Nat.mul_zero,Nat.add_zero]
  have h1:10000^(k+1)*l2=10000^k*(10000*l2):=by rw [Nat.pow_succ,Nat.mul_assoc]
  have h3:10000^k*d+10000^k*b+10000^k*l=10000^k*a+10000^k*(10000*l2):=by rw [<-Nat.mul_add,<-Nat.mul_add,<-Nat.mul_add,hd]
  rw [h1]
  omega
theorem Mu {ds:List Nat} {k l a b:Nat} (hd:Il ds) (hk:k=ds.length) (hl:l<=1) (hab:b<=a) (h:val10 ds+b=a+10000^k*l):val10 ds=a-b:=by
  have h1:=Cz hd
  rw [<-hk] at h1
  rcases Nat.eq_zero_or_pos l with h0|h0
  · subst h0;omega
  · obtain rfl:l=1:=by omega
    omega
theorem L5 (ds:List Nat) (j:Nat) (hj:j<ds.length):val10 ds=val10 (ds.take j)+10000^j*ds.getD j 0+10000^(j+1)*val10 (ds.drop (j+1)):=by
  conv=>lhs;rw [<-List.take_append_drop (j+1) ds]
  rw [DW,Bu,List.length_take,Nat.min_eq_left Z]
theorem Nu {ds:List Nat} (h:Il ds) (k:Nat):Il (ds.take k):=λd hd=>h d (List.mem_of_mem_take hd)
theorem WC {ds es:List Nat} {j:Nat} (hd:Il ds) (hl:ds.length=es.length) (hj:j<ds.length) (h:ds.drop (j+1)=es.drop (j+1)) (hlt:ds.getD j 0<es.getD j 0):val10 ds<val10 es:=by
  rw [L5 ds j hj,L5 es j (hl▸hj),h]
  have h1:=Cz (Nu hd j)
  rw [List.length_take,Nat.min_eq_left Z] at h1
  have h2:10000^j*(ds.getD j 0+1)<=10000^j*es.getD j 0:=Nat.mul_le_mul_left _ hlt
  rw [Nat.mul_add,Nat.mul_one] at h2
  omega
theorem Mo {ds es:List Nat} {j:Nat} (hl:ds.length=es.length) (hj:j<ds.length) (h:ds.drop (j+1)=es.drop (j+1)) (he:ds.getD j 0=es.getD j 0):ds.drop j=es.drop j:=by
  rw [List.drop_eq_getElem_cons hj,List.drop_eq_getElem_cons (l:=es) (i:=j) (hl▸hj),h]
  simp only [List.getD_eq_getElem?_getD,List.getElem?_eq_getElem hj,List.getElem?_eq_getElem (show j<es.length from hl▸hj),Option.getD_some] at he
  rw [he]
theorem Kr {x y:Nat} (h:(dg x).length<(dg y).length):x<y:=by
  rcases Nat.lt_or_ge x y with h1|h1
  · exact h1
  · exact absurd (HL h1) Z
theorem UZ {x y j:Nat} (hl:(dg x).length=(dg y).length) (hj:j<(dg x).length) (h:(dg x).drop (j+1)=(dg y).drop (j+1)) (hlt:(dg x).getD j 0<(dg y).getD j 0):x<y:=by
  have:=WC (D1 x) hl hj h hlt
  rwa [CZ,CZ] at this
theorem Xj {x y:Nat} (h:dg x=dg y):x=y:=by rw [<-CZ x,h,CZ]
theorem J3 {w:World} {p:Option Addr} {T:TypeId} {m c:Nat} {ds:List Nat} (h:Holds w (rowW p T 1 m c (dgL ds))) (ho:OwnOk p m c) (hm:m=ds.length):Holds w (AJ p (dgL ds)):=λb e=>by
  obtain ⟨o,hob,hp⟩:=h b e
  exact ⟨o,hob,B_ ho (by rw [CK,hm,Nat.mul_one]) hp⟩
def DM (W:World) (src:List (Option Nat)) (p:Option Addr):Prop:=∀b,p.map (·.block)=some b->W.heap.size<=b\/some b∈src
theorem DM.mono {W:World} {src src2:List (Option Nat)} {p:Option Addr} (h:DM W src p) (hs:∀s∈src,∀b,s=some b->W.heap.size<=b\/some b∈src2):DM W src2 p:=λb e=>(h b e).elim .inl λh1=>hs _ h1 b rfl
theorem DM.new {W:World} {src2:List (Option Nat)} {p:Option Addr} (h:DM W [] p):DM W src2 p:=h.mono λs hs=>by cases hs
theorem DM.nil {W:World} {src:List (Option Nat)}:DM W src none:=λb e=>by cases e
section
variable {P:Program} {ops:Array Oper} {rest:List Oper} {Q:Exit->Act->World->Prop} {n d x:Nat} {F:List (Nat×Value)} {w0:BE} {L:List As} {t:TypeId} {p:String} {af:Array Edge} {y:Operand}
def Gl (L:List As):List (Option Nat)->Prop
  | []=>True
  | s::r=>(∃y∈L,y.ro=true/\y.foot=s)/\Gl L r
theorem O2 {L:List As}:Gl L []:=trivial
theorem ae {L:List As} {y:As} {r:List (Option Nat)} (i:Nat) (hi:L[i]?=some y) (hr:y.ro=true) (h:Gl L r):Gl L (y.foot::r):=⟨⟨y,List.mem_of_getElem? hi,hr,rfl⟩,h⟩
theorem Gl.get {L:List As}:∀{src:List (Option Nat)},Gl L src->∀s∈src,∃y∈L,y.ro=true/\y.foot=s
  | [],_,s,hs=>by cases hs
  | a::r,h,s,hs=>by
    rcases List.mem_cons.1 hs with rfl|hs
    · exact h.1
    · exact Gl.get h.2 s hs
theorem AC.callN {src:List (Option Nat)} {f:FuncId} {xs:List Operand} {args:List Value} {ts:Array TypeId} (hc:∀args w,(callFunc f args).run P w=.ok (.enter f args) w) (h:∀w,BM w0 w L->Calls P f args.toArray w (F6 w src x)) (hsrc:Gl L src)
    (hf:evF F y=some (.func (.func f) #[] #[])) (hargs:xs.map (evF F)=args.map some) (hd:Nat.ble (d+1) n=true) (next:∀v:NV,v.x=x->DM w0.w src v.p->AC P ops rest Q n ((d,nV v)::F) w0 (nA v::L)) :
    AC P ops (⟨some d,.call { callee:=.value y,args:=xs.toArray,argTypes:=ts },t,p,af,none⟩::rest) Q n F w0 L:=λa w ha hW=>by
  unfold wpList
  rw [if_pos (AT rfl a ha)]
  left
  unfold Oper.wp
  rw [Aw hf hargs hc a w ha hW,Oper.upon_enter]
  refine (h w hW).mono ?_
  rintro e w' ⟨v,hx,rfl,hb,hh,hs⟩
  exact next v hx (λb e=>(hs b e).imp_left λh=>Nat.le_trans hW.1.size h) _ _ (ha.put (Bq hd)) (hW.addRo hb O hh λb e=>(hs b e).imp_right λh=>hsrc.get _ h)
end
theorem Ki (m:Nat):dgL (List.replicate m 0)=List.replicate m (vN 0):=by simp [dgL,List.map_replicate]
theorem Q1 (ds:List Nat) (j d:Nat):(dgL ds).set j (vN d)=dgL (ds.set j d):=by simp [dgL,List.map_set]
theorem AC.makeDig {P:Program} {ops:Array Oper} {rest:List Oper} {Q:Exit->Act->World->Prop} {n d m:Nat} {F:List (Nat×Value)} {w0:BE} {L:List As} {t ty T:TypeId} {p:String} {af:Array Edge} {x y:Operand}
    {ki kj:IntKind} {bytes:Nat} (ht:HH P t T (vN 0) bytes) (hx:evF F x=some (.int ki (m:Nat))) (hy:evF F y=some (.int kj (m:Nat))) (hm:m<=1099511627776) (hb:Nat.ble bytes 16=true) (hd:Nat.ble (d+1) n=true)
    (next:∀b,OwnOk (some ⟨b,0,none⟩) m m->AC P ops rest Q n ((d,.slice (some ⟨b,0,none⟩) m m)::F) w0 (rowW (some ⟨b,0,none⟩) T 1 m m (dgL (List.replicate m 0))::L)) :
    AC P ops (⟨some d,.makeSlice t x y,ty,p,af,none⟩::rest) Q n F w0 L:=AC.makeRow ht hx hy hm hb hd λb ho=>by rw [<-Ki];exact next b ho
theorem Ld (m:Nat):Il (List.replicate m 0):=λd hd=>by rw [(List.mem_replicate.1 hd).2];omega
theorem IW (m:Nat):val10 (List.replicate m 0)=0:=by
  induction m with
  | zero=>rfl
  | succ k ih=>rw [List.replicate_succ,val10,ih]
theorem P3 {ds:List Nat} {j d:Nat} (h:Il ds) (hd:d<10000):Il (ds.set j d):=λe he=>by
  rcases List.mem_or_eq_of_mem_set he with h1|h1
  · exact h e h1
  · omega
theorem LU {ds:List Nat} {j d:Nat} (hj:j<ds.length):val10 (ds.set j d)+10000^j*ds.getD j 0=val10 ds+10000^j*d:=by
  induction ds generalizing j with
  | nil=>cases hj
  | cons e r ih =>
    cases j with
    | zero=>simp [val10];omega
    | succ j =>
      have h1:=ih (j:=j) (by simpa using hj)
      simp only [List.set_cons_succ,val10,List.getD_cons_succ]
      rw [Nat.pow_succ',Nat.mul_assoc,Nat.mul_assoc]
      omega
theorem XJ {ds:List Nat} (h:Il ds) (j:Nat):ds.getD j 0<10000:=by
  by_cases hj:j<ds.length
  · refine h _ ?_
    rw [List.getD_eq_getElem?_getD,List.getElem?_eq_getElem hj]
    exact List.getElem_mem hj
  · rw [DI hj];omega
theorem Ln (ds:List Nat) (j:Nat):10000^j*ds.getD j 0<=val10 ds:=by
  by_cases hj:j<ds.length
  · rw [L5 ds j hj];omega
  · rw [DI hj];omega
theorem PB {ds:List Nat} {i k cy V a b B s:Nat} (hj:i+k<ds.length) (h:val10 ds+10000^(i+k)*cy=V+10000^i*a*B) (hs:s=ds.getD (i+k) 0+a*b+cy) :
    val10 (ds.set (i+k) (s%10000))+10000^(i+(k+1))*(s/10000)=V+10000^i*a*(B+10000^k*b):=by
  have h1:=LU (ds:=ds) (j:=i+k) (d:=s%10000) hj
  have h2:10000^(i+(k+1))*(s/10000)=10000^(i+k)*(10000*(s/10000)):=by rw [<-Nat.add_assoc,Nat.pow_succ,Nat.mul_assoc]
  have h3:10000^(i+k)*(s%10000)+10000^(i+k)*(10000*(s/10000))=10000^(i+k)*s:=by rw [<-Nat.mul_add];congr 1;omega
  have h4:10000^(i+k)*s=10000^(i+k)*ds.getD (i+k) 0+10000^(i+k)*(a*b)+10000^(i+k)*cy:=by rw [hs,Nat.mul_add,Nat.mul_add]
  have h5:10000^i*a*(B+10000^k*b)=10000^i*a*B+10000^(i+k)*(a*b):=by
    rw [Nat.mul_add,Nat.pow_add]
    congr 1
    simp only [Nat.mul_assoc,Nat.mul_left_comm,Nat.mul_comm]
  rw [h2,h5]
  omega
theorem Rg {o a b c:Nat} (ho:o<10000) (ha:a<10000) (hb:b<10000) (hc:c<10000):o+a*b+c<100000000:=by
  have:a*b<=9999*9999:=Nat.mul_le_mul Z Z
  omega
theorem VD {ds:List Nat} {i k cy V a B:Nat} (hV:V+10000^i*a*B<10000^(i+k+1)) (h:val10 ds+10000^(i+k)*cy=V+10000^i*a*B):ds.getD (i+k) 0+cy<10000:=by
  have h1:=Ln ds (i+k)
  have h2:10000^(i+k)*(ds.getD (i+k) 0+cy)<10000^(i+k)*10000:=by
    rw [Nat.mul_add,<-Nat.pow_succ];omega
  exact Nat.lt_of_mul_lt_mul_left h2
theorem RT {x y i:Nat}:val10 ((dg x).take i)*y<10000^(i+(dg y).length):=by
  have h1:=Cz (Nu (D1 x) i)
  have h2:=Cz (D1 y)
  rw [CZ] at h2
  have h3:10000^((dg x).take i).length<=10000^i:=Nat.pow_le_pow_right Z (by rw [List.length_take];omega)
  rw [Nat.pow_add]
  exact Nat.mul_lt_mul_of_lt_of_le Z (Nat.le_of_lt h2) (Nat.pow_pos Z)
theorem Ti (x:Nat):x/10000^(dg x).length=0:=by
  have h:=Cz (D1 x)
  rw [CZ] at h
  exact Nat.div_eq_of_lt h
theorem X2 (x j:Nat):(dg x).getD j 0=x/10000^j%10000:=by
  induction j generalizing x with
  | zero =>
    by_cases h:x=0
    · subst h;rfl
    · rw [Er h];simp
  | succ j ih =>
    by_cases h:x=0
    · subst h;simp [Ef]
    · rw [Er h,List.getD_cons_succ,ih,Nat.div_div_eq_div_mul,Nat.pow_succ']
theorem QH (x j:Nat):x/10000^j=10000*(x/10000^(j+1))+(dg x).getD j 0:=by
  rw [X2,Nat.pow_succ,<-Nat.div_div_eq_div_mul]
  omega
theorem JO (x:Nat) {k j:Nat} (h:k<=j):x/10000^j<=x/10000^k:=Nat.div_le_div_left (Nat.pow_le_pow_right Z h) (Nat.pow_pos Z)
theorem Mz {x n j k:Nat} (hn:n=x/10000^j) (h:k<=j\/j=(dg x).length) (hj:j<=k):n=x/10000^k:=by
  rcases h with h|h
  · rw [hn,show j=k by omega]
  · have h1:=Ti x
    have h2:=JO x hj
    rw [<-h] at h1
    have h3:x/10000^k=0:=Nat.le_zero.1 (h1▸h2)
    rw [hn,h1,h3]
theorem V0 {ds:List Nat} (x y i:Nat) (h:val10 ds=val10 ((dg x).take i)*y):val10 ds+10000^i*(dg x).getD i 0*y<10000^(i+(dg y).length+1):=by
  have:=RT (x:=x) (y:=y) (i:=i+1)
  rw [Bu,Nat.add_mul] at this
  rw [h]
  exact Nat.lt_of_lt_of_eq this (by congr 1;omega)
def JL (W:World) (src src2:List (Option Nat)) (x y:Nat) (e:Ending) (w:World):Prop :=
  ∃u v:NV,u.x=x/\v.x=y/\e=.returned (.tuple #[nV u,nV v])/\F0 W.heap.size W w/\Holds w (nA u)/\Holds w (nA v)/\DM W src u.p/\DM W src2 v.p
theorem BM.both {w0:BE} {w:World} {L:List As} {a b:As} (ha:BM w0 w (a::L)) (hb:BM w0 w (b::L)) (ra:a.ro=true) (rb:b.ro=true):BM w0 w (a::b::L) :=
  ⟨ha.1,λy hy=>(List.mem_cons.1 hy).elim (λe=>ha.2.1 y (e▸List.mem_cons_self)) (λe=>hb.2.1 y e),List.pairwise_cons.2 ⟨λy hy=>(List.mem_cons.1 hy).elim (λe=>.inl ⟨ra,e▸rb⟩) (λe=>(List.pairwise_cons.1 ha.2.2).1 y e),hb.2.2⟩⟩
section
variable {P:Program} {ops:Array Oper} {rest:List Oper} {Q:Exit->Act->World->Prop} {n d x z:Nat} {F:List (Nat×Value)} {w0:BE} {L:List As} {t T:TypeId} {p:String} {af:Array Edge} {y:Operand}
theorem AC.callNN {src src2:List (Option Nat)} {f:FuncId} {xs:List Operand} {args:List Value} {ts:Array TypeId} (hc:∀args w,(callFunc f args).run P w=.ok (.enter f args) w) (h:∀w,BM w0 w L->Calls P f args.toArray w (JL w src src2 x z)) (hsrc:Gl L src) (hsrc2:Gl L src2)
    (hf:evF F y=some (.func (.func f) #[] #[])) (hargs:xs.map (evF F)=args.map some) (hd:Nat.ble (d+1) n=true) (next:∀u v:NV,u.x=x->v.x=z->DM w0.w src u.p->DM w0.w src2 v.p->AC P ops rest Q n ((d,.tuple #[nV u,nV v])::F) w0 (nA u::nA v::L)) :
    AC P ops (⟨some d,.call { callee:=.value y,args:=xs.toArray,argTypes:=ts },t,p,af,none⟩::rest) Q n F w0 L:=λa w ha hW=>by
  unfold wpList
  rw [if_pos (AT rfl a ha)]
  left
  unfold Oper.wp
  rw [Aw hf hargs hc a w ha hW,Oper.upon_enter]
  refine (h w hW).mono ?_
  rintro e w' ⟨u,v,hx,hz,rfl,hb,hu,hv,hs,hs2⟩
  have h1:=hW.addRo hb (Pn v) hv λb e=>(hs2 b e).imp_right λh=>hsrc2.get _ h
  have h2:=hW.addRo hb (Pn u) hu λb e=>(hs b e).imp_right λh=>hsrc.get _ h
  exact next u v hx hz (λb e=>(hs b e).imp_left λh=>Nat.le_trans hW.1.size h) (λb e=>(hs2 b e).imp_left λh=>Nat.le_trans hW.1.size h) _ _ (ha.put (Bq hd)) (h2.both h1 (Pn u) (Pn v))
theorem AC.frozenD (i:Nat) {q:Option Addr} {m c X:Nat} {ds:List Nat} (hi:L[i]?=some (rowW q T 1 m c (dgL ds))) (ho:OwnOk q m c) (hm:m=ds.length) (hx:dg X=ds.take (dg X).length) (hex:w0.ex=none)
    (next:Ar q (dg X).length c->DM w0.w [] q->AC P ops rest Q n F w0 (L.set i (AJ q (dgL (dg X))))):AC P ops rest Q n F w0 L:=λa w ha hw=>by
  have hle:(dg X).length<=m:=by rw [hm];have:=congrArg List.length hx;rw [List.length_take] at this;omega
  refine next ⟨λe=>?_,λa e=>ho.row.spot a e,Nat.le_trans hle ho.le⟩ ?_ a w ha (hw.freeze hi O (λo hp=>?_) (λe=>by cases e))
  · have:=ho.nil e
    exact ⟨Z,this.2⟩
  · intro b e
    rcases (hw.2.1 _ (List.mem_of_getElem? hi) b e).1 with h1|h1|h1
    · cases h1
    · exact .inl h1
    · rw [hex] at h1;cases h1
  · have h1:=G0.take (k:=(dg X).length) (B_ ho (by rw [CK,hm,Nat.mul_one]) hp)
    rw [<-Mv,<-hx] at h1
    exact h1
end
theorem U9 {ds:List Nat} (h:Il ds) (j:Nat):ds.getD j 0=val10 ds/10000^j%10000:=by
  induction ds generalizing j with
  | nil=>simp [val10]
  | cons d r ih =>
    have hd:=h d (by simp)
    cases j with
    | zero=>simp [val10];omega
    | succ j =>
      rw [List.getD_cons_succ,ih (λe he=>h e (List.mem_cons_of_mem _ he)) j,val10,Nat.pow_succ',<-Nat.div_div_eq_div_mul]
      congr 2
      omega
theorem Qv (x k:Nat):(dg x).drop k=dg (x/10000^k):=by
  induction k generalizing x with
  | zero=>simp
  | succ k ih =>
    by_cases h:x=0
    · subst h;simp [Ef]
    · rw [Er h,List.drop_succ_cons,ih,Nat.div_div_eq_div_mul,Nat.pow_succ']
theorem M6 {x:Nat} (h:0<x):10000^((dg x).length-1)<=x/\1<=(dg x).length:=by
  have h0:1<=(dg x).length:=by rw [Er Z];simp
  refine ⟨?_,h0⟩
  rcases Nat.lt_or_ge x (10000^((dg x).length-1)) with h1|h1
  · have:=FW h1;omega
  · exact h1
theorem W6 (x:Nat):x/10000^((dg x).length-3)<1000000000000:=by
  have h:=Cz (D1 x)
  rw [CZ] at h
  have h2:10000^(dg x).length<=10000^((dg x).length-3+3):=Nat.pow_le_pow_right Z Z
  rw [Nat.pow_add] at h2
  exact Nat.div_lt_of_lt_mul (Nat.lt_of_lt_of_le h h2)
theorem OO {x:Nat} (h:0<x):1<=x/10000^((dg x).length-3):=by
  have h1:=M6 h
  have h2:10000^((dg x).length-3)<=10000^((dg x).length-1):=Nat.pow_le_pow_right Z Z
  exact (Nat.le_div_iff_mul_le (Nat.pow_pos Z)).2 Z
theorem RS {r b k:Nat} (hr:r<10000*b) (hb:b/10000^k<1000000000000):r/10000^k<10000000000000000:=by
  have h1:b<10000^k*1000000000000:=by
    have:=(Nat.div_lt_iff_lt_mul (Nat.pow_pos Z)).1 hb
    rw [Nat.mul_comm];exact this
  exact Nat.div_lt_of_lt_mul Z
theorem WT {r b k:Nat} (hb:0<b):r/10000^k/(b/10000^k+1)<=r/b:=by
  rw [Nat.div_div_eq_div_mul]
  refine Nat.div_le_div_left ?_ hb
  have:=Nat.lt_div_mul_add (a:=b) (b:=10000^k) (Nat.pow_pos Z)
  rw [Nat.mul_add,Nat.mul_one,Nat.mul_comm]
  omega
theorem Tw {r b k:Nat} (h:1<=b/10000^k):r/b<=r/10000^k/(b/10000^k):=by
  rw [Nat.div_div_eq_div_mul]
  exact Nat.div_le_div_left (Nat.mul_div_le _ _) (Nat.mul_pos (Nat.pow_pos Z) h)
theorem Oo {A A1 b d R R1:Nat} (hb:0<b) (h1:A1=10000*A+d) (hR:R=A%b) (hR1:R1=10000*R+d):A1/b=10000*(A/b)+R1/b/\A1%b=R1%b:=by
  have h2:A1=b*(10000*(A/b))+R1:=by
    have:=Nat.div_add_mod A b
    have h3:b*(10000*(A/b))=10000*(b*(A/b)):=Nat.mul_left_comm _ _ _
    rw [h3];omega
  rw [h2]
  exact ⟨Nat.mul_add_div hb _ _,Nat.mul_add_mod _ _ _⟩
theorem RN {qs:List Nat} {j m q X Y:Nat} (hd:Il qs) (hm:m=qs.length) (hj:1<=j) (hjm:j<=m) (hv:val10 qs=10000^j*X) (hY:Y=10000*X+q):val10 (qs.set (j-1) q)=10000^(j-1)*Y:=by
  have h1:=LU (ds:=qs) (j:=j-1) (d:=q) Z
  have h2:10000^j*X=10000^(j-1)*(10000*X):=by
    rw [<-Nat.mul_assoc,<-Nat.pow_succ,show (j-1).succ=j by omega]
  rw [U9 hd,hv,h2,Nat.mul_div_cancel_left _ (Nat.pow_pos Z),Nat.mul_mod_right,Nat.mul_zero,Nat.add_zero] at h1
  rw [h1,hY,Nat.mul_add]
theorem NO {a b m:Nat} (hb:0<b) (hm:m+(dg b).length=(dg a).length+1):a/10000^m<b:=by
  have h:=Cz (D1 a)
  rw [CZ] at h
  have h1:=M6 hb
  refine Nat.div_lt_of_lt_mul (Nat.lt_of_lt_of_le h ?_)
  rw [show (dg a).length=m+((dg b).length-1) by omega,Nat.pow_add]
  exact Nat.mul_le_mul_left _ h1.1
theorem ZJ {W w:World} {L:List As} {i k m c c2 x y:Nat} {p p2:Option Addr} {T:TypeId} {ds:List Nat} {src2:List (Option Nat)} (hw:BM ⟨W,none⟩ w L) (hi:L[i]?=some (rowW p T 1 m c (dgL ds))) (ho:OwnOk p m c) (hm:m=ds.length)
    (hx:dg x=ds.take (dg x).length) {v v2:Value} (hv:v=.slice p (dg x).length c) (hk:L[k]?=some (AJ p2 (dgL (dg y)))) (hok:Ar p2 (dg y).length c2) (hloc:DM W [] p2) (hv2:v2=.slice p2 (dg y).length c2):JL W [] src2 x y (.returned (.tuple #[v,v2])) w:=by
  obtain ⟨u,hux,hue,hub,huh,hul⟩:=U6 (src:=[]) hw hi ho hm hx hv
  have e:=hue
  rw [Ending.returned.injEq] at e
  exact ⟨u,⟨p2,c2,y,hok⟩,hux,rfl,by rw [e,hv2],hub,huh,hw.holds hk,hul,hloc.new⟩
theorem Yc {W w:World} {L:List As} {k x:Nat} {a:NV} (hw:BM ⟨W,none⟩ w L) (hx:x=0) (hk:L[k]?=some (nA a)):JL W [] [a.p.map (·.block)] x a.x (.returned (.tuple #[.slice none 0 0,nV a])) w :=
  ⟨⟨none,0,0,OwnOk.none.row⟩,a,hx.symm,rfl,rfl,hw.out,(λb e=>by cases e),hw.holds hk,DM.nil,λb e=>.inr (by rw [<-e];exact List.mem_cons_self)⟩
theorem Xm {w0:BE} {L:List As} {q:Option Addr} {ds:List Nat} {k n' i c:Nat} (hi:L[k]?=some (AJ q (dgL ds))) (hok:Ar q n' c) (hl:i<=n'):YN w0 L (OK q i c 1) (n'-i) (dgL (ds.drop i)):=by
  have h:=ZF (w0:=w0) (z:=1) hi hok hl
  rw [Nat.mul_one] at h
  rw [show dgL (ds.drop i)=(dgL ds).drop i by simp [dgL,List.map_drop]]
  exact h
end
section
section
variable {P:Program} {n:Nat} {F:List (Nat×Value)} {w0:BE} {L:List As} {t:TypeId} {p:String} {af:Array Edge} {d:Option Tmp} {g:Option (Nat×Bool)} {x:Operand}
end
end
section
structure NX (x:Nat) where
  p:Option Addr
  c:Nat
  ok:Ar p (dg x).length c
@[reducible] def NX.nv {x:Nat} (a:NX x):NV:=⟨a.p,a.c,x,a.ok⟩
@[reducible] def NX.cast {x y:Nat} (h:x=y) (a:NX x):NX y:=⟨a.p,a.c,h▸a.ok⟩
def NX.zero:NX 0:=⟨none,0,⟨λ_=>⟨rfl,rfl⟩,(λ_ e=>by cases e),Nat.le_refl _⟩⟩
@[reducible] def C5 {x:Nat} (a:NX x):Value:=.slice a.p (dg x).length a.c
def Ew {x:Nat} (a:NX x):As:=AJ a.p (dgL (dg x))
structure ZX (z:Int) where
  n:NX z.natAbs
structure FX (q:Rat) where
  z:ZX q.num
  m:NX (q.den-1)
structure PX (p:Pt) where
  x:FX p.x
  y:FX p.y
def FU {z:Int} (a:ZX z):List Value:=[.bool (decide (z<0)),C5 a.n]
def Dj {q:Rat} (a:FX q):List Value:=FU a.z++[C5 a.m]
def XW {p:Pt} (a:PX p):List Value:=Dj a.x++Dj a.y
instance {x:Nat}:CO (NX x):=⟨λa=>C5 a,λa=>[Ew a],λa y hy=>by rcases List.mem_singleton.1 hy with rfl;rfl⟩
instance {z:Int}:CO (ZX z):=⟨λa=>aG (FU a),λa=>[Ew a.n],λa y hy=>by rcases List.mem_singleton.1 hy with rfl;rfl⟩
theorem OM {a b y:As} (ha:a.ro=true) (hb:b.ro=true) (hy:y∈[a,b]):y.ro=true:=by
  rcases List.mem_cons.1 hy with rfl|hy
  · exact ha
  · rcases List.mem_singleton.1 hy with rfl;exact hb
instance {q:Rat}:CO (FX q):=⟨λa=>aG (Dj a),λa=>[Ew a.z.n,Ew a.m],λa y hy=>OM rfl rfl hy⟩
instance {p:Pt}:CO (PX p):=⟨λa=>aG (XW a),λa=>[Ew a.x.z.n,Ew a.x.m,Ew a.y.z.n,Ew a.y.m],λa y hy=>by
  rcases List.mem_cons.1 hy with rfl|hy
  · rfl
  · rcases List.mem_cons.1 hy with rfl|hy
    · rfl
    · exact OM O O hy⟩
section
variable {w0:BE} {S:Nat->Prop} {w W:World} {L:List As} {α:Type} [CO α]
-- parts
theorem Zl {q:Rat} {a:FX q} (h:Ro S w a):Ro S w a.z:=λy hy=>h y (by rcases List.mem_singleton.1 hy with rfl;exact List.mem_cons_self)
theorem bw {q:Rat} {a:FX q} (h:Ro S w a):Ro S w a.m:=λy hy=>h y (by rcases List.mem_singleton.1 hy with rfl;exact List.mem_cons_of_mem _ List.mem_cons_self)
theorem Y3 {z:Int} {a:ZX z} (h:Ro S w a):Ro S w a.n:=λy hy=>h y hy
theorem bh {z:Int} {a:NX z.natAbs} (h:Ro S w a):Ro S w (ZX.mk a:ZX z):=λy hy=>h y hy
theorem bR {q:Rat} {a:ZX q.num} {b:NX (q.den-1)} (h:Ro S w a) (k:Ro S w b):Ro S w (FX.mk a b:FX q):=λy hy=>by
  rcases List.mem_cons.1 hy with rfl|hy
  · exact h _ List.mem_cons_self
  · exact k y hy
theorem cg {p:Pt} {a:FX p.x} {b:FX p.y} (h:Ro S w a) (k:Ro S w b):Ro S w (PX.mk a b:PX p):=λy hy=>by
  rcases List.mem_cons.1 hy with rfl|hy
  · exact h _ List.mem_cons_self
  · rcases List.mem_cons.1 hy with rfl|hy
    · exact h _ (List.mem_cons_of_mem _ List.mem_cons_self)
    · exact k y hy
theorem Yp:Ro S w NX.zero:=λy hy=>by
  rcases List.mem_singleton.1 hy with rfl
  exact ⟨(λb e=>by cases e),(λb e=>by cases e)⟩
theorem YW {x y:Nat} {h:x=y} {a:NX x} (k:Ro S w a):Ro S w (a.cast h):=by subst h;exact k
theorem Va {x:Nat} {a:NX x} (h:Ro S w a):Holds w (nA a.nv):=(h _ List.mem_cons_self).1
-- what a walk starts with
theorem aK {x:Nat} {a:NX x} (h:Ro S w a) (t:∀y∈L,y.ro=true/\Holds w y):∀y∈Ew a::L,y.ro=true/\Holds w y:=B8 rfl (h _ List.mem_cons_self).1 t
theorem Z_ {z:Int} {a:ZX z} (h:Ro S w a) (t:∀y∈L,y.ro=true/\Holds w y):∀y∈Ew a.n::L,y.ro=true/\Holds w y:=aK (Y3 h) t
theorem Y2 {q:Rat} {a:FX q} (h:Ro S w a) (t:∀y∈L,y.ro=true/\Holds w y):∀y∈Ew a.z.n::Ew a.m::L,y.ro=true/\Holds w y:=Z_ (Zl h) (aK (bw h) t)
end
section
variable {P:Program} {ops:Array Oper} {rest:List Oper} {Q:Exit->Act->World->Prop} {n d:Nat} {F:List (Nat×Value)} {w0:BE} {S:Nat->Prop} {L:List As} {t:TypeId} {p:String} {af:Array Edge} {y:Operand} {f:FuncId} {xs:List Operand} {args:List Value} {ts:Array TypeId}
theorem cN {x:Nat} (hc:∀args w,(callFunc f args).run P w=.ok (.enter f args) w) (h:∀w,BM w0 w L->Calls P f args.toArray w (Al (NX x) (SL w0 S L) w))
    (hf:evF F y=some (.func (.func f) #[] #[])) (hargs:xs.map (evF F)=args.map some) (hd:Nat.ble (d+1) n=true) (next:∀a:NX x,At w0 S a->AC P ops rest Q n ((d,C5 a)::F) w0 (Ew a::L)) :
    AC P ops (⟨some d,.call { callee:=.value y,args:=xs.toArray,argTypes:=ts },t,p,af,none⟩::rest) Q n F w0 L:=AC.callR hc h hf hargs hd next
theorem cZ {x:Int} (hc:∀args w,(callFunc f args).run P w=.ok (.enter f args) w) (h:∀w,BM w0 w L->Calls P f args.toArray w (Al (ZX x) (SL w0 S L) w))
    (hf:evF F y=some (.func (.func f) #[] #[])) (hargs:xs.map (evF F)=args.map some) (hd:Nat.ble (d+1) n=true) (next:∀a:ZX x,At w0 S a->AC P ops rest Q n ((d,aG (FU a))::F) w0 (Ew a.n::L)) :
    AC P ops (⟨some d,.call { callee:=.value y,args:=xs.toArray,argTypes:=ts },t,p,af,none⟩::rest) Q n F w0 L:=AC.callR hc h hf hargs hd next
theorem cF {x:Rat} (hc:∀args w,(callFunc f args).run P w=.ok (.enter f args) w) (h:∀w,BM w0 w L->Calls P f args.toArray w (Al (FX x) (SL w0 S L) w))
    (hf:evF F y=some (.func (.func f) #[] #[])) (hargs:xs.map (evF F)=args.map some) (hd:Nat.ble (d+1) n=true) (next:∀a:FX x,At w0 S a->AC P ops rest Q n ((d,aG (Dj a))::F) w0 (Ew a.z.n::Ew a.m::L)) :
    AC P ops (⟨some d,.call { callee:=.value y,args:=xs.toArray,argTypes:=ts },t,p,af,none⟩::rest) Q n F w0 L:=AC.callR hc h hf hargs hd next
theorem cP {x:Pt} (hc:∀args w,(callFunc f args).run P w=.ok (.enter f args) w) (h:∀w,BM w0 w L->Calls P f args.toArray w (Al (PX x) (SL w0 S L) w))
    (hf:evF F y=some (.func (.func f) #[] #[])) (hargs:xs.map (evF F)=args.map some) (hd:Nat.ble (d+1) n=true) (next:∀a:PX x,At w0 S a->AC P ops rest Q n ((d,aG (XW a))::F) w0 (Ew a.x.z.n::Ew a.x.m::Ew a.y.z.n::Ew a.y.m::L)) :
    AC P ops (⟨some d,.call { callee:=.value y,args:=xs.toArray,argTypes:=ts },t,p,af,none⟩::rest) Q n F w0 L:=AC.callR hc h hf hargs hd next
end
theorem XM (x:Nat):(dg x).length<=3*nw x:=FW (Nat.lt_of_lt_of_le (Bs x) (by rw [Nat.pow_mul];exact Nat.pow_le_pow_left (by decide) _))
end
end Go.Proofs.YtpgncndhhhllfaaGreat
