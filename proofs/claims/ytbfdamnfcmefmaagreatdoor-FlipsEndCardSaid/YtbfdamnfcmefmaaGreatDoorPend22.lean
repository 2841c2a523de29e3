import Derived.Maps.RangeRun
import Derived.DeepKeys4
import Derived.Maps.Keyed
import Derived.LaidMore
import Derived.Test.YtbfdamnfcmefmaaGreatDoorPend21
namespace Go.Proofs.YtbfdamnfcmefmaaGreatDoor
open Go Go.RowKit Go.Proofs.Tryz
open Go.Value renaming slice→qz,bool→qa
set_option linter.unusedVariables false
set_option linter.unusedSimpArgs false
section
structure Pw (P:Program) (kt:TypeId) {α:Type} (enc:α->Value) (ok:α->Prop):Prop where
  law:Maps.Keyed P kt
  key:∀a,ok a->∃l,keyOf P kt (enc a)=some l
  inj:∀a b,enc a=enc b->a=b
section
variable {α β:Type} {enc:α->Value} {eV:β->Value} {ok:α->Prop} {P:Program} {kt:TypeId} {n:Nat} {F:List (Nat×Value)} {w0:BD} {L:List As} {d:Option Tmp} {mp kp vp:Operand} {t:TypeId} {pp:String} {af:Array Edge} {g:Option (Nat×Bool)} {tx et:TypeId} {b:Nat} {ops:Array Oper} {rest:List Oper} {Q:Exit->Act->World->Prop}
def entsM {α β:Type} (enc:α->Value) (eV:β->Value):List (α×β)->Nat->List MapEntry
  | [],_=>[]
  | (k,v)::r,i=>⟨enc k,eV v,i⟩::entsM enc eV r (i+1)
def Dk {α β:Type} (b:Nat) (enc:α->Value) (eV:β->Value) (kvs:List (α×β)):As:=⟨some b,λo=>o=.map (entsM enc eV kvs 0).toArray kvs.length,false⟩
def bw (r b n:Nat) (seen:List Nat):As:=⟨some r,λo=>o=.mapIter (some b) n seen.toArray n,false⟩
structure OZ {α β:Type} (ok:α->Prop) (kvs:List (α×β)):Prop where
  ok:∀p∈kvs,ok p.1
  once:kvs.Pairwise (λp q=>p.1≠q.1)
theorem Mx:∀(kvs:List (α×β)) (i:Nat),(entsM enc eV kvs i).length=kvs.length
  | [],_=>rfl
  | (k,v)::r,i=>by rw [entsM,List.length_cons,Mx r,List.length_cons]
theorem C6:∀(kvs:List (α×β)) (i j:Nat),(entsM enc eV kvs i)[j]?=(kvs[j]?).map λp=>⟨enc p.1,eV p.2,i+j⟩
  | [],_,j=>by simp [entsM]
  | (k,v)::r,i,0=>rfl
  | (k,v)::r,i,j+1=>by
    rw [entsM,List.getElem?_cons_succ,List.getElem?_cons_succ,C6 r (i+1) j,show i+1+j=i+(j+1) by omega]
theorem I0 {kvs:List (α×β)} {i:Nat} {e:MapEntry} (h:e∈entsM enc eV kvs i):∃j p,kvs[j]?=some p/\e=⟨enc p.1,eV p.2,i+j⟩:=by
  obtain ⟨j,hj,e1⟩:=List.getElem_of_mem h
  have h1:(entsM enc eV kvs i)[j]?=some e:=by rw [xP hj,e1]
  rw [C6,Option.map_eq_some_iff] at h1
  obtain ⟨p,h2,h3⟩:=h1
  exact ⟨j,p,h2,h3.symm⟩
theorem GG:∀(kvs:List (α×β)) (i:Nat) (x:α) (y:β),entsM enc eV (kvs++[(x,y)]) i=entsM enc eV kvs i++[⟨enc x,eV y,i+kvs.length⟩]
  | [],_,_,_=>rfl
  | (k,v)::r,i,x,y=>by
    rw [List.cons_append,entsM,GG r (i+1),entsM,List.cons_append,List.length_cons,show i+1+r.length=i+(r.length+1) by omega]
theorem My:∀(kvs:List (α×β)) (i j:Nat) (x:α) (y:β),entsM enc eV (kvs.set j (x,y)) i=(entsM enc eV kvs i).set j ⟨enc x,eV y,i+j⟩
  | [],_,_,_,_=>rfl
  | (k,v)::r,i,0,x,y=>rfl
  | (k,v)::r,i,j+1,x,y=>by
    rw [List.set_cons_succ,entsM,My r (i+1) j,entsM,List.set_cons_succ,show i+1+j=i+(j+1) by omega]
theorem OZ.nil:OZ ok ([]:List (α×β)):=⟨(λp h=>by cases h),List.Pairwise.nil⟩
theorem CS {w:World} {es:Array MapEntry} {c:Nat} (h:w.heap[b]?=some (.map es c)):(getObj b).run P w=.ok (.map es c) w:=by simp [getObj,Sem.run,h]
theorem Et (w:World) (b:Nat) (o:Obj):Jq w (Go.ChangeMaps.setBlock w b o) (some b):=⟨⟨rfl,rfl,rfl,by simp [Go.ChangeMaps.setBlock],λk hk hne=>by
  have h:b≠k:=λe=>hne (by rw [e])
  simp [Go.ChangeMaps.setBlock,Array.getElem?_setIfInBounds,h]⟩,Nat.le_refl _⟩
theorem Fg {w:World} {b:Nat} {o o':Obj} (h:w.heap[b]?=some o):(Go.ChangeMaps.setBlock w b o').heap[b]?=some o':=by
  have hlt:b<w.heap.size:=by
    rcases Nat.lt_or_ge b w.heap.size with h1|h1
    · exact h1
    · rw [Array.getElem?_eq_none h1] at h;cases h
  simp [Go.ChangeMaps.setBlock,Array.getElem?_setIfInBounds,hlt]
theorem EK {w:World} {es:Array MapEntry} {c:Nat} (h:w.heap[b]?=some (.map es c)) (o':Obj):(setObj b o').run P w=.ok () (Go.ChangeMaps.setBlock w b o'):=by
  simp [setObj,Sem.run,h,Go.ChangeMaps.setBlock]
theorem Gl {kvs:List (α×β)} {j:Nat} {x:α} {v y:β} (h:kvs[j]?=some (x,v)):(entsM enc eV kvs 0).toArray.modify j (λe=>{ e with key:=enc x,val:=eV y })=(entsM enc eV (kvs.set j (x,y)) 0).toArray:=by
  have h1:(entsM enc eV kvs 0)[j]?=some ⟨enc x,eV v,0+j⟩:=by rw [C6,h];rfl
  apply Array.ext_getElem?
  intro k
  rw [Array.getElem?_modify,My]
  simp only [List.getElem?_toArray]
  by_cases e:j=k
  · subst e
    have hlt:j<(entsM enc eV kvs 0).length:=(List.getElem?_eq_some_iff.1 h1).1
    rw [if_pos rfl,h1,List.getElem?_set_self hlt]
    rfl
  · rw [if_neg e,List.getElem?_set_ne e]
theorem yo (enc:α->Value) (eV:β->Value) {dd:Nat} (hw:Wt ops n F ⟨some dd,.makeMap tx none,t,pp,af,g⟩) (hd:Nat.ble (dd+1) n=true) (next:∀b,AR P ops rest Q n ((dd,.map (some b))::F) w0 (Dk b enc eV ([]:List (α×β))::L)):AR P ops (⟨some dd,.makeMap tx none,t,pp,af,g⟩::rest) Q n F w0 L:=λa w ha hW=>by
  have hrun:(execOp a.eval ⟨some dd,.makeMap tx none,t,pp,af,g⟩).run P w=.ok (.value (.map (some w.heap.size))) (w.alloc (.map #[] 0)):=by
    rfl
  unfold wpList
  rw [if_pos (hw a ha)]
  left
  unfold Oper.wp
  rw [hrun,Oper.upon_value]
  exact next _ _ _ (ha.put (B_ hd)) (hW.alloc (.map #[] 0) O O)
theorem AR.range (i:Nat) {kvs:List (α×β)} {dd:Nat} (hw:Wt ops n F ⟨some dd,.range tx mp,t,pp,af,g⟩) (hx:evF F mp=some (.map (some b))) (ht:P.underlying tx=some (.map kt et)) (hi:L[i]?=some (Dk b enc eV kvs)) (hd:Nat.ble (dd+1) n=true)
    (next:∀r,AR P ops rest Q n ((dd,.pointer (jk r))::F) w0 (bw r b kvs.length []::L)):AR P ops (⟨some dd,.range tx mp,t,pp,af,g⟩::rest) Q n F w0 L:=λa w ha hW=>by
  obtain ⟨_,o,ho,hp⟩:=hW.2.1 _ (List.mem_of_getElem? hi) b rfl
  have ho:w.heap[b]?=some (.map (entsM enc eV kvs 0).toArray kvs.length):=by rw [ho,hp]
  have hrun:(execOp a.eval ⟨some dd,.range tx mp,t,pp,af,g⟩).run P w=.ok (.value (.pointer (some ⟨w.heap.size,0,none⟩))) (w.alloc (.mapIter (some b) kvs.length #[] kvs.length)):=by
    simp only [execOp,ha.ev hx,Instr.range,Sem.run_bind,run_underlying ht,Result.andThen_ok,CS ho,Sem.run_pure]
    rfl
  unfold wpList
  rw [if_pos (hw a ha)]
  left
  unfold Oper.wp
  rw [hrun,Oper.upon_value]
  exact next _ _ _ (ha.put (B_ hd)) (hW.alloc _ O O)
theorem VZ {kvs:List (α×β)} {seen:List Nat} {e:MapEntry} (h:e∈(leftOf (entsM enc eV kvs 0).toArray seen.toArray).toList):∃q p,kvs[q]?=some p/\q ∉ seen/\e=⟨enc p.1,eV p.2,q⟩:=by
  unfold leftOf at h
  simp only [Array.toList_filter,List.toList_toArray,List.mem_filter] at h
  obtain ⟨h1,h2⟩:=h
  obtain ⟨q,p,hq,rfl⟩:=I0 h1
  refine ⟨q,p,hq,?_,by rw [Nat.zero_add]⟩
  simpa using h2
theorem Sk {kvs:List (α×β)} {seen:List Nat} (h:(leftOf (entsM enc eV kvs 0).toArray seen.toArray).size=0):∀q,q<kvs.length->q∈seen:=λq hq=>by
  rcases Classical.em (q∈seen) with k|k
  · exact k
  · exfalso
    have h1:(entsM enc eV kvs 0)[q]?=some ⟨enc (kvs[q]).1,eV (kvs[q]).2,q⟩:=by rw [C6,xP hq,Option.map_some,Nat.zero_add]
    have h2:(⟨enc (kvs[q]).1,eV (kvs[q]).2,q⟩:MapEntry)∈(leftOf (entsM enc eV kvs 0).toArray seen.toArray).toList:=by
      unfold leftOf
      simp only [Array.toList_filter,List.toList_toArray,List.mem_filter]
      exact ⟨List.mem_of_getElem? h1,by simpa using k⟩
    have h3:(leftOf (entsM enc eV kvs 0).toArray seen.toArray).toList=[]:=List.eq_nil_of_length_eq_zero (by simpa using h)
    rw [h3] at h2
    cases h2
theorem AR.next (i j:Nat) {kvs:List (α×β)} {seen:List Nat} {r dd:Nat} {ip:Operand} (hw:Wt ops n F ⟨some dd,.next ip false,t,pp,af,g⟩) (hx:evF F ip=some (.pointer (jk r))) (hi:L[i]?=some (Dk b enc eV kvs)) (hj:L[j]?=some (bw r b kvs.length seen)) (hd:Nat.ble (dd+1) n=true)
    (done:(∀q,q<kvs.length->q∈seen)->AR P ops rest Q n ((dd,.tuple #[.bool false])::F) w0 L)
    (step:∀q k v,kvs[q]?=some (k,v)->q ∉ seen->AR P ops rest Q n ((dd,.tuple #[.bool true,enc k,eV v])::F) w0 (L.set j (bw r b kvs.length (seen++[q])))):AR P ops (⟨some dd,.next ip false,t,pp,af,g⟩::rest) Q n F w0 L:=λa w ha hW=>by
  obtain ⟨_,o,ho,hp⟩:=hW.2.1 _ (List.mem_of_getElem? hi) b rfl
  have ho:w.heap[b]?=some (.map (entsM enc eV kvs 0).toArray kvs.length):=by rw [ho,hp]
  obtain ⟨_,o2,ho2,hp2⟩:=hW.2.1 _ (List.mem_of_getElem? hj) r rfl
  have ho2:w.heap[r]?=some (.mapIter (some b) kvs.length seen.toArray kvs.length):=by rw [ho2,hp2]
  unfold wpList
  rw [if_pos (hw a ha)]
  left
  unfold Oper.wp
  have hex:execOp a.eval ⟨some dd,.next ip false,t,pp,af,g⟩=(Instr.next (.pointer (jk r)) false t >>= λv=>pure (.value v)):=by simp only [execOp,ha.ev hx]
  rcases run_next_at (P:=P) w t r b kvs.length kvs.length seen.toArray (entsM enc eV kvs 0).toArray kvs.length ho2 ho (λx hx=>by
    obtain ⟨q,p,hq,rfl⟩:=I0 (by simpa using hx)
    have:=(List.getElem?_eq_some_iff.1 hq).1
    show 0+q<kvs.length
    omega) (Nat.le_refl _) with ⟨h1,h2⟩|⟨e,he,w1,hw1,h2⟩
  · have hrun:(execOp a.eval ⟨some dd,.next ip false,t,pp,af,g⟩).run P w=.ok (.value (.tuple #[.bool false])) w:=by rw [hex,Sem.run_bind,h2];rfl
    rw [hrun,Oper.upon_value]
    exact done (Sk h1) _ _ (ha.put (B_ hd)) hW
  · obtain ⟨q,⟨k,v⟩,hq,hns,rfl⟩:=VZ he
    have hrun:(execOp a.eval ⟨some dd,.next ip false,t,pp,af,g⟩).run P w=.ok (.value (.tuple #[.bool true,enc k,eV v])) (Go.ChangeMaps.setBlock w1 r (.mapIter (some b) kvs.length (seen.toArray.push q) kvs.length)):=by rw [hex,Sem.run_bind,h2];rfl
    rw [hrun,Oper.upon_value]
    have hW1:BH w0 w1 L:=by
      rcases hw1 with rfl|rfl
      · exact hW
      · exact hW.drew
    have ho3:w1.heap[r]?=some (.mapIter (some b) kvs.length seen.toArray kvs.length):=by rcases hw1 with rfl|rfl<;>exact ho2
    exact step q k v hq hns _ _ (ha.put (B_ hd)) (hW1.turn hj O O (Et _ _ _) ⟨_,Fg ho3,by show Obj.mapIter _ _ _ _=Obj.mapIter _ _ _ _;simp⟩)
theorem U0 (i j:Nat) {kvs:List (α×β)} {seen:List Nat} {r q:Nat} {ip:Operand} {k:α} {v:β} (hx:evF F ip=some (.pointer (jk r))) (hi:L[i]?=some (Dk b enc eV kvs)) (hj:L[j]?=some (bw r b kvs.length (seen++[q]))) (hq:kvs[q]?=some (k,v)) :
    Ex P n F w0 L ⟨d,.entry ip,t,pp,af,g⟩ (.tuple #[enc k,eV v]):=λA w ha hW=>by
  obtain ⟨_,o,ho,hp⟩:=hW.2.1 _ (List.mem_of_getElem? hi) b rfl
  have ho:w.heap[b]?=some (.map (entsM enc eV kvs 0).toArray kvs.length):=by rw [ho,hp]
  obtain ⟨_,o2,ho2,hp2⟩:=hW.2.1 _ (List.mem_of_getElem? hj) r rfl
  have ho2:w.heap[r]?=some (.mapIter (some b) kvs.length (seen.toArray.push q) kvs.length):=by rw [ho2,hp2];simp
  have he:(⟨enc k,eV v,q⟩:MapEntry)∈(entsM enc eV kvs 0).toArray.toList:=by
    have h1:(entsM enc eV kvs 0)[q]?=some ⟨enc k,eV v,q⟩:=by rw [C6,hq,Option.map_some,Nat.zero_add]
    exact List.mem_of_getElem? h1
  have hnd:((entsM enc eV kvs 0).toArray.toList.map (·.born)).Nodup:=by
    have e1:∀(l:List (α×β)) (s:Nat),(entsM enc eV l s).map (·.born)=List.range' s l.length:=by
      intro l
      induction l with
      | nil=>intro s;rfl
      | cons p r ih=>intro s;rw [entsM,List.map_cons,ih,List.length_cons,List.range'_succ]
    show ((entsM enc eV kvs 0).map (·.born)).Nodup
    rw [e1];exact List.nodup_range'
  have h:=run_entry_at (P:=P) w r b kvs.length seen.toArray (entsM enc eV kvs 0).toArray kvs.length ⟨enc k,eV v,q⟩ ho2 ho he hnd
  simp only [execOp,ha.ev hx]
  rw [Sem.run_bind,h]
  rfl
variable [DecidableEq α]
def BR:List (α×β)->α->Option β
  | [],_=>none
  | (k,v)::r,x=>if x=k then some v else BR r x
def Bj:List (α×β)->α->β->List (α×β)
  | [],x,y=>[(x,y)]
  | (k,v)::r,x,y=>if x=k then (k,y)::r else (k,v)::Bj r x y
theorem M4:∀{kvs:List (α×β)} {x:α},(∀p∈kvs,p.1≠x)->BR kvs x=none
  | [],_,_=>rfl
  | (k,v)::r,x,h=>by
    rw [BR,if_neg (λe=>h (k,v) List.mem_cons_self e.symm)]
    exact M4 λp hp=>h p (List.mem_cons_of_mem _ hp)
theorem Nt:∀{kvs:List (α×β)} {j:Nat} {x:α} {v:β},kvs.Pairwise (λp q=>p.1≠q.1)->kvs[j]?=some (x,v)->BR kvs x=some v
  | (k,u)::r,0,x,v,_,h=>by
    simp only [List.getElem?_cons_zero,Option.some.injEq,Prod.mk.injEq] at h
    rw [BR,if_pos h.1.symm,h.2]
  | (k,u)::r,j+1,x,v,hp,h=>by
    obtain ⟨h1,h2⟩:=List.pairwise_cons.1 hp
    rw [List.getElem?_cons_succ] at h
    rw [BR,if_neg (λe=>h1 (x,v) (List.mem_of_getElem? h) e.symm)]
    exact Nt h2 h
theorem JG:∀{kvs:List (α×β)} {x:α} {y:β},(∀p∈kvs,p.1≠x)->Bj kvs x y=kvs++[(x,y)]
  | [],_,_,_=>rfl
  | (k,v)::r,x,y,h=>by
    rw [Bj,if_neg (λe=>h (k,v) List.mem_cons_self e.symm),JG λp hp=>h p (List.mem_cons_of_mem _ hp)];rfl
theorem R1:∀{kvs:List (α×β)} {j:Nat} {x:α} {u y:β},kvs.Pairwise (λp q=>p.1≠q.1)->kvs[j]?=some (x,u)->Bj kvs x y=kvs.set j (x,y)
  | (k,v)::r,0,x,u,y,_,h=>by
    simp only [List.getElem?_cons_zero,Option.some.injEq,Prod.mk.injEq] at h
    rw [Bj,if_pos h.1.symm,h.1];rfl
  | (k,v)::r,j+1,x,u,y,hp,h=>by
    obtain ⟨h1,h2⟩:=List.pairwise_cons.1 hp
    rw [List.getElem?_cons_succ] at h
    rw [Bj,if_neg (λe=>h1 (x,u) (List.mem_of_getElem? h) e.symm),R1 h2 h];rfl
theorem Lj {x:α} {y:β}:∀{kvs:List (α×β)} {p:α×β},p∈Bj kvs x y->p.1=x\/p∈kvs
  | [],p,h=>by rcases xO.1 h with rfl;exact .inl rfl
  | (k,v)::r,p,h=>by
    unfold Bj at h
    split at h
    · rename_i e
      rcases xN.1 h with rfl|h
      · exact .inl e.symm
      · exact .inr (List.mem_cons_of_mem _ h)
    · rcases xN.1 h with rfl|h
      · exact .inr List.mem_cons_self
      · rcases Lj h with h|h
        · exact .inl h
        · exact .inr (List.mem_cons_of_mem _ h)
theorem NE {x:α} {y:β}:∀{kvs:List (α×β)},kvs.Pairwise (λp q=>p.1≠q.1)->(Bj kvs x y).Pairwise (λp q=>p.1≠q.1)
  | [],_=>List.pairwise_singleton _ _
  | (k,v)::r,h=>by
    obtain ⟨h1,h2⟩:=List.pairwise_cons.1 h
    unfold Bj
    split
    · exact List.pairwise_cons.2 ⟨λq hq=>h1 q hq,h2⟩
    · rename_i hne
      refine List.pairwise_cons.2 ⟨λq hq=>?_,NE h2⟩
      rcases Lj hq with e|hq
      · rw [e];exact λe2=>hne e2.symm
      · exact h1 q hq
theorem OZ.put {kvs:List (α×β)} (h:OZ ok kvs) {x:α} {y:β} (hx:ok x):OZ ok (Bj kvs x y):=⟨λp hp=>by
  rcases Lj hp with e|hp
  · rw [e];exact hx
  · exact h.ok p hp,NE h.once⟩
theorem HZ (K:Pw P kt enc ok) {kvs:List (α×β)} (hm:OZ ok kvs) {x:α} (hx:ok x) (w:World) :
    (BR kvs x=none/\(∀p∈kvs,p.1≠x)/\(Instr.findKey kt (enc x) (entsM enc eV kvs 0)).run P w=.ok none w) \/
    ∃j v,kvs[j]?=some (x,v)/\BR kvs x=some v/\(Instr.findKey kt (enc x) (entsM enc eV kvs 0)).run P w=.ok (some (j,eV v)) w:=by
  obtain ⟨lx,hlx⟩:=K.key x hx
  rcases K.law.find w hlx (entsM enc eV kvs 0) (λe he=>by
    obtain ⟨j,p,hj,rfl⟩:=I0 he
    exact K.key p.1 (hm.ok p (List.mem_of_getElem? hj))) with ⟨h1,h2⟩|⟨j,e,h1,h2,h3⟩
  · have hne:∀p∈kvs,p.1≠x:=λp hp e=>by
      obtain ⟨j,hj,hp⟩:=List.getElem_of_mem hp
      have h4:(entsM enc eV kvs 0)[j]?=some ⟨enc p.1,eV p.2,0+j⟩:=by rw [C6,xP hj,hp];rfl
      exact h2 _ (List.mem_of_getElem? h4) (by rw [e])
    exact .inl ⟨M4 hne,hne,h1⟩
  · rw [C6,Option.map_eq_some_iff] at h2
    obtain ⟨⟨k,v⟩,hj,rfl⟩:=h2
    have hk:k=x:=K.inj _ _ h3
    subst hk
    exact .inr ⟨j,v,hj,Nt hm.once hj,h1⟩
theorem HN (K:Pw P kt enc ok) (i:Nat) {kvs:List (α×β)} {x:α} {z0:β} {co:Bool} (hx:evF F mp=some (.map (some b))) (hk:evF F kp=some (enc x)) (ht:P.underlying tx=some (.map kt et)) (hz:∀w,(zeroValue et).run P w=.ok (eV z0) w) (hi:L[i]?=some (Dk b enc eV kvs)) (hm:OZ ok kvs) (hok:ok x) :
    Ex P n F w0 L ⟨d,.lookup tx mp kp co,t,pp,af,g⟩ (if co then .tuple #[eV ((BR kvs x).getD z0),.bool (BR kvs x).isSome] else eV ((BR kvs x).getD z0)):=λA w ha hw=>by
  obtain ⟨_,o,ho,hp⟩:=hw.2.1 _ (List.mem_of_getElem? hi) b rfl
  have ho:w.heap[b]?=some (.map (entsM enc eV kvs 0).toArray kvs.length):=by rw [ho,hp]
  obtain ⟨lx,hlx⟩:=K.key x hok
  have hc:=λem=>K.law.check w em hlx
  rcases HZ (eV:=eV) K hm hok w with ⟨h1,_,h2⟩|⟨j,v,_,h1,h2⟩
  · simp only [execOp,ha.ev hx,ha.ev hk,Instr.lookup,Sem.run_bind,run_underlying ht,CS ho,Result.andThen_ok,Sem.run_pure,hc,List.toList_toArray,h2,hz,h1,Option.getD_none,Option.isSome_none]
  · simp only [execOp,ha.ev hx,ha.ev hk,Instr.lookup,Sem.run_bind,run_underlying ht,CS ho,Result.andThen_ok,Sem.run_pure,hc,List.toList_toArray,h2,h1,Option.getD_some,Option.isSome_some]
theorem yX (K:Pw P kt enc ok) (i:Nat) {kvs:List (α×β)} {x:α} {y:β} (hw:Wt ops n F ⟨none,.mapUpdate tx mp kp vp,t,pp,af,g⟩) (hx:evF F mp=some (.map (some b))) (hk:evF F kp=some (enc x)) (hv:evF F vp=some (eV y)) (ht:P.underlying tx=some (.map kt et)) (hi:L[i]?=some (Dk b enc eV kvs)) (hm:OZ ok kvs) (hok:ok x)
    (next:AR P ops rest Q n F w0 (L.set i (Dk b enc eV (Bj kvs x y)))):AR P ops (⟨none,.mapUpdate tx mp kp vp,t,pp,af,g⟩::rest) Q n F w0 L:=λa w ha hW=>by
  obtain ⟨_,o,ho,hp⟩:=hW.2.1 _ (List.mem_of_getElem? hi) b rfl
  have ho:w.heap[b]?=some (.map (entsM enc eV kvs 0).toArray kvs.length):=by rw [ho,hp]
  obtain ⟨lx,hlx⟩:=K.key x hok
  have hc:=λem=>K.law.check w em hlx
  have hst:=K.law.stays w hlx
  have hrun:(execOp a.eval ⟨none,.mapUpdate tx mp kp vp,t,pp,af,g⟩).run P w=.ok .skip (Go.ChangeMaps.setBlock w b (.map (entsM enc eV (Bj kvs x y) 0).toArray (Bj kvs x y).length)):=by
    rcases HZ (eV:=eV) K hm hok w with ⟨_,h1,h2⟩|⟨j,v,hj,_,h2⟩
    · rw [JG h1,GG,xL]
      simp only [execOp,ha.ev hx,ha.ev hk,ha.ev hv,Instr.mapUpdate,Sem.run_bind,run_underlying ht,CS ho,Result.andThen_ok,hc,List.toList_toArray,h2,EK ho,Sem.run_pure,List.push_toArray,Nat.zero_add,List.length_singleton]
    · rw [R1 hm.once hj,<-Gl hj,List.length_set]
      have e1:(((entsM enc eV kvs 0).toArray[j]?).map (·.key)).getD (enc x)=enc x:=by
        rw [List.getElem?_toArray,C6,hj];rfl
      simp only [execOp,ha.ev hx,ha.ev hk,ha.ev hv,Instr.mapUpdate,Sem.run_bind,run_underlying ht,CS ho,Result.andThen_ok,hc,List.toList_toArray,h2,e1,hst,EK ho,Sem.run_pure]
  unfold wpList
  rw [if_pos (hw a ha)]
  left
  unfold Oper.wp
  rw [hrun,Oper.upon_skip]
  exact next _ _ ha.put_none (hW.turn hi O O (Et _ _ _) ⟨_,Fg ho,rfl⟩)
end
end
section
structure E4 where
  a:Nat
  b:Nat
  l:Int
  r:Int
deriving DecidableEq
def Bn (e:E4):List Value:=[vN e.a,vN e.b,.int .i64 e.l,.int .i64 e.r]
theorem C9 (e:E4):(Bn e).length=4:=rfl
def Ow (x y:E4):Int:=V9 (EH x.a y.a) (EH x.b y.b)
abbrev Jv (k:P2):Value:=aG (Ay k)
abbrev OR (e:E4):Value:=aG (Bn e)
def Yj (k:P2):Prop:=k.1<4611686018427387904/\k.2<4611686018427387904
theorem ZR:laidOutB prog=true:=by kernel_rfl
theorem Jh {P:Program} {t:TypeId} (h:P.underlying t=some (.int .i64)) (d:Nat) {z:Int} (hz:(Lit.int .i64 z).wf=true):P.keyLits (d+1) t [.int .i64 z]=some [.int .i64 z]:=by
  unfold Program.keyLits
  rw [h]
  exact if_pos ⟨rfl,hz⟩
theorem M_ {P : Program} {k e : TypeId} {f0 f1 : Field} (hu : P.underlying k = some (.struct #[f0, f1])) (h0 : f0.type = e ∧ f0.offset = 0) (h1 : f1.type = e ∧ f1.offset = 1) (hn : (#[f0, f1].all (·.name != "_")) = true) (he : P.underlying e = some (.int .i64)) (ce : P.cellsOf e = 1) (ck : P.cellsOf k = 2) (hk : P.keyType k = true) (hz : 0 < P.types.size)
    {a b:Int} (wa:(Lit.int .i64 a).wf=true) (wb:(Lit.int .i64 b).wf=true):∃l,keyOf P k (.agg #[.int .i64 a,.int .i64 b])=some l:=by
  obtain ⟨d,hd⟩:∃d,P.types.size=d+1:=⟨P.types.size-1,Z⟩
  have hf:(Value.agg #[.int .i64 a,.int .i64 b]).formed P k=true:=by
    unfold Value.formed
    simp only [hu,ck]
    rfl
  have hl:P.keyLits (P.types.size+1) k (Value.agg #[.int .i64 a,.int .i64 b]).cells.toList=some [.int .i64 a,.int .i64 b]:=by
    rw [hd]
    unfold Program.keyLits
    simp only [hu]
    show (if ([Value.int .i64 a, Value.int .i64 b] : List Value).length = P.cellsOf k ∧ (#[f0, f1].all (·.name != "_")) = true then _ else _) = _
    rw [if_pos ⟨by rw [ck];rfl,hn⟩]
    have e0:P.keyLits (d+1) f0.type ((([Value.int .i64 a,Value.int .i64 b]:List Value).drop f0.offset).take (P.cellsOf f0.type))=some [.int .i64 a]:=by
      rw [h0.1,h0.2,ce];exact Jh he d wa
    have e1:P.keyLits (d+1) f1.type ((([Value.int .i64 a,Value.int .i64 b]:List Value).drop f1.offset).take (P.cellsOf f1.type))=some [.int .i64 b]:=by
      rw [h1.1,h1.2,ce];exact Jh he d wb
    show (List.mapM (λf=>P.keyLits (d+1) f.type ((([Value.int .i64 a,Value.int .i64 b]:List Value).drop f.offset).take (P.cellsOf f.type))) [f0,f1]).map List.flatten=_
    simp only [List.mapM_cons,List.mapM_nil,e0,e1]
    rfl
  refine ⟨.string (keyBytes [.int .i64 a,.int .i64 b]),?_⟩
  unfold keyOf
  simp only [hu,hk,hf,Bool.and_self,if_true,hl]
  rfl
theorem OS {a:Nat} (h:a<4611686018427387904):(Lit.int .i64 ((a:Nat):Int)).wf=true:=by
  show (decide (IntKind.i64.min<=((a:Nat):Int))&&decide (((a:Nat):Int)<=IntKind.i64.max))=true
  rw [yz,xV,xV]
  simp only [IntKind.min,IntKind.max,IntKind.bits,IntKind.signed]
  simp
  omega
theorem PS {a b:P2} (h:Jv a=Jv b):a=b:=by
  have h1:(Ay a).toArray=(Ay b).toArray:=by injection h
  have h2:Ay a=Ay b:=by simpa using h1
  simp only [Ay,List.cons.injEq,Value.int.injEq,true_and,and_true] at h2
  exact Prod.ext Z Z
def FW (t:Tq3) (r:Nat):Nat:=if r=0 then t.1 else if r=1 then t.2.1 else t.2.2
def Fr (e:E4) (t a b:Nat):E4:=if a<b/\e.l = -1 then { e with l:=t } else if b<a/\e.r = -1 then { e with r:=t } else e
def I8 (k:P2):E4:=⟨k.1,k.2,-1,-1⟩
def B5 (a b:Nat):P2:=(min a b,max a b)
def TM (kvs:List (P2×E4)) (t a b:Nat):List (P2×E4):=Bj kvs (B5 a b) (Fr ((BR kvs (B5 a b)).getD (I8 (B5 a b))) t a b)
def Ci (ts:List (Tq3)):Nat->List (P2×E4)
  | 0=>[]
  | s+1=>TM (Ci ts s) (s/3) (FW (ts.getD (s/3) (0,0,0)) (s%3)) (FW (ts.getD (s/3) (0,0,0)) ((s%3+1)%3))
section
variable {ts:List (Tq3)} {t i N:Nat}
theorem Ky (hi:i<3):Ci ts (3*t+i+1)=TM (Ci ts (3*t+i)) t (FW (ts.getD t (0,0,0)) i) (FW (ts.getD t (0,0,0)) ((i+1)%3)):=by
  rw [Ci,show (3*t+i)/3=t by omega,show (3*t+i)%3=i by omega]
theorem Ng {t:Tq3} (h:Ig N t=true) (r:Nat):FW t r<N:=by
  obtain ⟨h1,h2,h3⟩:=Ct h
  unfold FW
  split
  · exact h1
  · split<;>assumption
theorem D8 {a b:Nat} (ha:a<4611686018427387904) (hb:b<4611686018427387904):Yj (B5 a b):=by
  unfold Yj B5
  simp only
  omega
theorem Fm (hn:Ba N ts=true) (hN:N<=4611686018427387904):∀s,s<=3*ts.length->OZ Yj (Ci ts s)
  | 0,_=>OZ.nil
  | s+1,hs=>by
    have ht:=Bw hn (show s/3<ts.length by omega)
    exact (Fm hn hN s Z).put (D8 (Nat.lt_of_lt_of_le (Ng ht _) hN) (Nat.lt_of_lt_of_le (Ng ht _) hN))
theorem WE {kvs:List (P2×E4)} {x:P2} {y:E4}:(Bj kvs x y).length<=kvs.length+1:=by
  induction kvs with
  | nil=>simp [Bj]
  | cons p r ih =>
    obtain ⟨k,v⟩:=p
    unfold Bj
    split
    · simp
    · simp only [List.length_cons];omega
theorem KB:∀s,(Ci ts s).length<=s
  | 0=>Nat.le_refl _
  | s+1=>by
    have h:=KB s
    have h2:=@WE (Ci ts s) (B5 (FW (ts.getD (s/3) (0,0,0)) (s%3)) (FW (ts.getD (s/3) (0,0,0)) ((s%3+1)%3))) (Fr ((BR (Ci ts s) (B5 (FW (ts.getD (s/3) (0,0,0)) (s%3)) (FW (ts.getD (s/3) (0,0,0)) ((s%3+1)%3)))).getD (I8 (B5 (FW (ts.getD (s/3) (0,0,0)) (s%3)) (FW (ts.getD (s/3) (0,0,0)) ((s%3+1)%3))))) (s/3) (FW (ts.getD (s/3) (0,0,0)) (s%3)) (FW (ts.getD (s/3) (0,0,0)) ((s%3+1)%3)))
    show (TM _ _ _ _).length<=_
    unfold TM
    omega
end
section
variable {α β:Type} {enc:α->Value} {eV:β->Value} {P:Program} {n d:Nat} {F:List (Nat×Value)} {w0:BD} {L:List As} {dd:Option Tmp} {x y:Operand} {t:TypeId} {p:String} {af:Array Edge} {g:Option (Nat×Bool)} {tx kt et:TypeId} {b:Nat} {ops:Array Oper} {rest:List Oper} {Q:Exit->Act->World->Prop}
theorem QE (i:Nat) {kvs:List (α×β)} (hx:evF F x=some (.map (some b))) (ht:P.underlying tx=some (.map kt et)) (hi:L[i]?=some (Dk b enc eV kvs)) :
    Ex P n F w0 L ⟨dd,.call { callee:=.builtin .len,args:=#[x],argTypes:=#[tx] },t,p,af,g⟩ (vN kvs.length):=λA w ha hw=>by
  obtain ⟨_,o,ho,hp⟩:=hw.2.1 _ (List.mem_of_getElem? hi) b rfl
  have ho:w.heap[b]?=some (.map (entsM enc eV kvs 0).toArray kvs.length):=by rw [ho,hp]
  simp [execOp,resolve,invoke,builtin,ha.ev hx,Builtin.len_,run_underlying ht,CS ho,Mx,goInt]
variable {T:TypeId} {z c bytes:Nat}
theorem AR.make0 {ki kj:IntKind} (ht:ElemT P t T z bytes) (hx:evF F x=some (.int ki ((0:Nat):Int))) (hy:evF F y=some (.int kj (c:Nat))) (hc:c<=1099511627776) (hb:Nat.ble bytes 128=true) (hd:Nat.ble (d+1) n=true)
    (next:∀b,OwnOk (jk b) 0 c->AR P ops rest Q n ((d,.slice (jk b) 0 c)::F) w0 (rowW (jk b) T z 0 c []::L)) :
    AR P ops (⟨some d,.makeSlice t x y,tx,p,af,none⟩::rest) Q n F w0 L:=λa w ha hW=>by
  obtain ⟨inf,zv,hi,hz,hs,hby,hzc⟩:=ht.i
  have hble:=Nat.le_of_ble_eq_true hb
  have h1:=run_make (P:=P) w t T inf zv ht.u hi hz ki kj ((0:Nat):Int) (c:Nat) Z Z (by
    rw [hby]
    have:bytes*c<=128*c:=Nat.mul_le_mul_right c hble
    have e:((bytes:Nat):Int)*((c:Nat):Int)=((bytes*c:Nat):Int):=by rw [Int.natCast_mul]
    rw [e];omega) Z
  unfold wpList
  rw [if_pos (AI rfl a ha)]
  left
  unfold Oper.wp
  have he:(execOp a.eval ⟨some d,.makeSlice t x y,tx,p,af,none⟩).run P w=.ok (.value (.slice (some ⟨w.heap.size,0,none⟩) 0 c)) (w.alloc (.cells (madeCells zv.cells (c*inf.size)) T)):=by
    simp only [execOp,ha.ev hx,ha.ev hy,Sem.run_bind,h1,Result.andThen_ok,Sem.run_pure,Int.toNat_natCast]
  rw [he,Oper.upon_value]
  refine next _ (JE (xJ _) (Ma hc)) _ _ (ha.put (B_ hd)) (hW.alloc _ O ⟨_,rfl,?_,by simp⟩)
  rw [<-hs]
  exact size_madeCells _ _
end
abbrev jA:E4:=⟨0,0,0,0⟩
end
section
set_option maxRecDepth 100000
theorem Xj (x y:E4) (w:World)  :Calls prog 105 #[(aG (Bn x)),(aG (Bn y))] w (Ac w (vI (Ow x y))):=by
 refine AW (args:=[(aG (Bn x)),(aG (Bn y))]) func105 O O (A_ O) (zM (sL [0,1] O) (q4 (BV (cs:=Bn x) O λb1=>BV (cs:=Bn y) O λb2=>asg' O (q6 (sL [2,3,4] O) (C8 (El 4++[(5,true),(6,true),(7,true),(8,true),(4,false),(9,false),(10,false),(11,false),(12,true)]) sr (Al (v:=(pP b1 0)) O (AA O underlying54 O sizeOf3 O) (BQ 1 (vN x.a) Bk O (Al (v:=(pP b2 0)) O (AA O underlying54 O sizeOf3 O) (BQ 0 (vN y.a) Bk O ?_)))))))))
 refine Al (v:=(pP b1 1)) O (AA O underlying54 O sizeOf3 O) (BQ 1 (vN x.b) Bk O (Al (v:=(pP b2 1)) O (AA O underlying54 O sizeOf3 O) (BQ 0 (vN y.b) Bk O (zN O (ck' call107 (RO x.a y.a) O (zD sr (zN O (ck' call107 (RO x.b y.b) O (zD sr (zN O (ze (V:=λb3=>(qz (jk b3) 2 2)) (T:=3) (cs:=[(vI (EH x.a y.a)),(vI (EH x.b y.b))]) (AI O) (Ax (cs:=[(vI (EH x.a y.a)),(vI (EH x.b y.b))]) (pv:=[(0,(vI (EH x.a y.a))),(1,(vI (EH x.b y.b)))]) underlying102 sizeOf3 zeroValue3 jY jY O jV) O (A_ O) λb3=>?_)))))))))))
 exact zD (sl sr) (zN O (yV (v:=(vI (V9 (EH x.a y.a) (EH x.b y.b)))) (i:=0) (cs':=[(vI (EH x.a y.a)),(vI (EH x.b y.b))]) (L':=[AY b3 3 ([(vI (EH x.a y.a)),(vI (EH x.b y.b))]),AY b2 54 (Bn y),AY b1 54 (Bn x)]) (AI O) (Am (args:=[(qz (jk b3) 2 2)]) O O call106) O (λw hw=>Uf (EH x.a y.a) (EH x.b y.b) _ w (hw.get (i:=0) O)) (λd hd=>by cases hd<;>exact (A_ O)) O (zD (sl sr) (pS' O (zQ (zB (sL [4] O) (zA (zG (ret_one O (rd_tmp (v:=(vI (V9 (EH x.a y.a) (EH x.b y.b)))) O) (λw hw=>⟨rfl,hw.out⟩))))))))))
end
end Go.Proofs.YtbfdamnfcmefmaaGreatDoor
