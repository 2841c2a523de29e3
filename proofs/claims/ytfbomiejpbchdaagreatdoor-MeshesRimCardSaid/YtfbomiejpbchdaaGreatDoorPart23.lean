import Derived.Maps.RangeRun
import Derived.DeepKeys4
import Derived.Maps.Keyed
import Derived.LaidMore
import Derived.Test.YtfbomiejpbchdaaGreatDoorPart06
import Derived.Test.YtfbomiejpbchdaaGreatDoorPart07
import Derived.Test.YtfbomiejpbchdaaGreatDoorPart09
import Derived.Test.YtfbomiejpbchdaaGreatDoorPart22
namespace Go.Proofs.YtfbomiejpbchdaaGreatDoor
open Go Go.RowKit Go.Proofs.Tryz
set_option linter.unusedVariables false
set_option linter.unusedSimpArgs false
section
structure NB (P:Program) (kt:TypeId) {α:Type} (enc:α->Value) (ok:α->Prop):Prop where
  law:Maps.Keyed P kt
  key:∀a,ok a->∃l,keyOf P kt (enc a)=some l
  inj:∀a b,enc a=enc b->a=b
section
variable {α β:Type} {enc:α->Value} {eV:β->Value} {ok:α->Prop} {P:Program} {kt:TypeId} {n:Nat} {F:List (Nat×Value)} {w0:BL} {L:List As} {d:Option Tmp} {mp kp vp:Operand} {t:TypeId} {pp:String} {af:Array Edge} {g:Option (Nat×Bool)} {tx et:TypeId} {b:Nat} {ops:Array Oper} {rest:List Oper} {Q:Exit->Act->World->Prop}
def entsM {α β:Type} (enc:α->Value) (eV:β->Value):List (α×β)->Nat->List MapEntry
  | [],_=>[]
  | (k,v)::r,i=>⟨enc k,eV v,i⟩::entsM enc eV r (i+1)
def DD {α β:Type} (b:Nat) (enc:α->Value) (eV:β->Value) (kvs:List (α×β)):As:=⟨some b,λo=>o=.map (entsM enc eV kvs 0).toArray kvs.length,false⟩
def Uu (r b n:Nat) (seen:List Nat):As:=⟨some r,λo=>o=.mapIter (some b) n seen.toArray n,false⟩
structure Jm {α β:Type} (ok:α->Prop) (kvs:List (α×β)):Prop where
  ok:∀p∈kvs,ok p.1
  once:kvs.Pairwise (λp q=>p.1≠q.1)
theorem J5:∀(kvs:List (α×β)) (i:Nat),(entsM enc eV kvs i).length=kvs.length
  | [],_=>rfl
  | (k,v)::r,i=>by rw [entsM,List.length_cons,J5 r,List.length_cons]
theorem Ck:∀(kvs:List (α×β)) (i j:Nat),(entsM enc eV kvs i)[j]?=(kvs[j]?).map λp=>⟨enc p.1,eV p.2,i+j⟩
  | [],_,j=>by simp [entsM]
  | (k,v)::r,i,0=>rfl
  | (k,v)::r,i,j+1=>by
    rw [entsM,List.getElem?_cons_succ,List.getElem?_cons_succ,Ck r (i+1) j,show i+1+j=i+(j+1) by omega]
theorem HS {kvs:List (α×β)} {i:Nat} {e:MapEntry} (h:e∈entsM enc eV kvs i):∃j p,kvs[j]?=some p/\e=⟨enc p.1,eV p.2,i+j⟩:=by
  obtain ⟨j,hj,e1⟩:=List.getElem_of_mem h
  have h1:(entsM enc eV kvs i)[j]?=some e:=by rw [List.getElem?_eq_getElem hj,e1]
  rw [Ck,Option.map_eq_some_iff] at h1
  obtain ⟨p,h2,h3⟩:=h1
  exact ⟨j,p,h2,h3.symm⟩
theorem E8:∀(kvs:List (α×β)) (i:Nat) (x:α) (y:β),entsM enc eV (kvs++[(x,y)]) i=entsM enc eV kvs i++[⟨enc x,eV y,i+kvs.length⟩]
  | [],_,_,_=>rfl
  | (k,v)::r,i,x,y=>by
    rw [List.cons_append,entsM,E8 r (i+1),entsM,List.cons_append,List.length_cons,show i+1+r.length=i+(r.length+1) by omega]
theorem KA:∀(kvs:List (α×β)) (i j:Nat) (x:α) (y:β),entsM enc eV (kvs.set j (x,y)) i=(entsM enc eV kvs i).set j ⟨enc x,eV y,i+j⟩
  | [],_,_,_,_=>rfl
  | (k,v)::r,i,0,x,y=>rfl
  | (k,v)::r,i,j+1,x,y=>by
    rw [List.set_cons_succ,entsM,KA r (i+1) j,entsM,List.set_cons_succ,show i+1+j=i+(j+1) by omega]
theorem Jm.nil:Jm ok ([]:List (α×β)):=⟨(λp h=>by cases h),List.Pairwise.nil⟩
theorem CF {w:World} {es:Array MapEntry} {c:Nat} (h:w.heap[b]?=some (.map es c)):(getObj b).run P w=.ok (.map es c) w:=by simp [getObj,Sem.run,h]
theorem D6 (w:World) (b:Nat) (o:Obj):J2 w (Go.ChangeMaps.setBlock w b o) (some b):=⟨⟨rfl,rfl,rfl,by simp [Go.ChangeMaps.setBlock],λk hk hne=>by
  have h:b≠k:=λe=>hne (by rw [e])
  simp [Go.ChangeMaps.setBlock,Array.getElem?_setIfInBounds,h]⟩,Nat.le_refl _⟩
theorem Ec {w:World} {b:Nat} {o o':Obj} (h:w.heap[b]?=some o):(Go.ChangeMaps.setBlock w b o').heap[b]?=some o':=by
  have hlt:b<w.heap.size:=by
    rcases Nat.lt_or_ge b w.heap.size with h1|h1
    · exact h1
    · rw [Array.getElem?_eq_none h1] at h;cases h
  simp [Go.ChangeMaps.setBlock,Array.getElem?_setIfInBounds,hlt]
theorem Di {w:World} {es:Array MapEntry} {c:Nat} (h:w.heap[b]?=some (.map es c)) (o':Obj):(setObj b o').run P w=.ok () (Go.ChangeMaps.setBlock w b o'):=by
  simp [setObj,Sem.run,h,Go.ChangeMaps.setBlock]
theorem FY {kvs:List (α×β)} {j:Nat} {x:α} {v y:β} (h:kvs[j]?=some (x,v)):(entsM enc eV kvs 0).toArray.modify j (λe=>{ e with key:=enc x,val:=eV y })=(entsM enc eV (kvs.set j (x,y)) 0).toArray:=by
  have h1:(entsM enc eV kvs 0)[j]?=some ⟨enc x,eV v,0+j⟩:=by rw [Ck,h];rfl
  apply Array.ext_getElem?
  intro k
  rw [Array.getElem?_modify,KA]
  simp only [List.getElem?_toArray]
  by_cases e:j=k
  · subst e
    have hlt:j<(entsM enc eV kvs 0).length:=(List.getElem?_eq_some_iff.1 h1).1
    rw [if_pos rfl,h1,List.getElem?_set_self hlt]
    rfl
  · rw [if_neg e,List.getElem?_set_ne e]
theorem AE.makeMap (enc:α->Value) (eV:β->Value) {dd:Nat} (hw:Wt ops n F ⟨some dd,.makeMap tx none,t,pp,af,g⟩) (hd:Nat.ble (dd+1) n=true) (next:∀b,AE P ops rest Q n ((dd,.map (some b))::F) w0 (DD b enc eV ([]:List (α×β))::L)):AE P ops (⟨some dd,.makeMap tx none,t,pp,af,g⟩::rest) Q n F w0 L:=λa w ha hW=>by
  have hrun:(execOp a.eval ⟨some dd,.makeMap tx none,t,pp,af,g⟩).run P w=.ok (.value (.map (some w.heap.size))) (w.alloc (.map #[] 0)):=by
    rfl
  unfold wpList
  rw [if_pos (hw a ha)]
  left
  unfold Oper.wp
  rw [hrun,Oper.upon_value]
  exact next _ _ _ (ha.put (B3 hd)) (hW.alloc (.map #[] 0) O O)
theorem AE.range (i:Nat) {kvs:List (α×β)} {dd:Nat} (hw:Wt ops n F ⟨some dd,.range tx mp,t,pp,af,g⟩) (hx:evF F mp=some (.map (some b))) (ht:P.underlying tx=some (.map kt et)) (hi:L[i]?=some (DD b enc eV kvs)) (hd:Nat.ble (dd+1) n=true)
    (next:∀r,AE P ops rest Q n ((dd,.pointer (some ⟨r,0,none⟩))::F) w0 (Uu r b kvs.length []::L)):AE P ops (⟨some dd,.range tx mp,t,pp,af,g⟩::rest) Q n F w0 L:=λa w ha hW=>by
  obtain ⟨_,o,ho,hp⟩:=hW.2.1 _ (List.mem_of_getElem? hi) b rfl
  have ho:w.heap[b]?=some (.map (entsM enc eV kvs 0).toArray kvs.length):=by rw [ho,hp]
  have hrun:(execOp a.eval ⟨some dd,.range tx mp,t,pp,af,g⟩).run P w=.ok (.value (.pointer (some ⟨w.heap.size,0,none⟩))) (w.alloc (.mapIter (some b) kvs.length #[] kvs.length)):=by
    simp only [execOp,ha.ev hx,Instr.range,Sem.run_bind,run_underlying ht,Result.andThen_ok,CF ho,Sem.run_pure]
    rfl
  unfold wpList
  rw [if_pos (hw a ha)]
  left
  unfold Oper.wp
  rw [hrun,Oper.upon_value]
  exact next _ _ _ (ha.put (B3 hd)) (hW.alloc _ O O)
theorem RR {kvs:List (α×β)} {seen:List Nat} {e:MapEntry} (h:e∈(leftOf (entsM enc eV kvs 0).toArray seen.toArray).toList):∃q p,kvs[q]?=some p/\q ∉ seen/\e=⟨enc p.1,eV p.2,q⟩:=by
  unfold leftOf at h
  simp only [Array.toList_filter,List.toList_toArray,List.mem_filter] at h
  obtain ⟨h1,h2⟩:=h
  obtain ⟨q,p,hq,rfl⟩:=HS h1
  refine ⟨q,p,hq,?_,by rw [Nat.zero_add]⟩
  simpa using h2
theorem O3 {kvs:List (α×β)} {seen:List Nat} (h:(leftOf (entsM enc eV kvs 0).toArray seen.toArray).size=0):∀q,q<kvs.length->q∈seen:=λq hq=>by
  rcases Classical.em (q∈seen) with k|k
  · exact k
  · exfalso
    have h1:(entsM enc eV kvs 0)[q]?=some ⟨enc (kvs[q]).1,eV (kvs[q]).2,q⟩:=by rw [Ck,List.getElem?_eq_getElem hq,Option.map_some,Nat.zero_add]
    have h2:(⟨enc (kvs[q]).1,eV (kvs[q]).2,q⟩:MapEntry)∈(leftOf (entsM enc eV kvs 0).toArray seen.toArray).toList:=by
      unfold leftOf
      simp only [Array.toList_filter,List.toList_toArray,List.mem_filter]
      exact ⟨List.mem_of_getElem? h1,by simpa using k⟩
    have h3:(leftOf (entsM enc eV kvs 0).toArray seen.toArray).toList=[]:=List.eq_nil_of_length_eq_zero (by simpa using h)
    rw [h3] at h2
    cases h2
theorem AE.next (i j:Nat) {kvs:List (α×β)} {seen:List Nat} {r dd:Nat} {ip:Operand} (hw:Wt ops n F ⟨some dd,.next ip false,t,pp,af,g⟩) (hx:evF F ip=some (.pointer (some ⟨r,0,none⟩))) (hi:L[i]?=some (DD b enc eV kvs)) (hj:L[j]?=some (Uu r b kvs.length seen)) (hd:Nat.ble (dd+1) n=true)
    (done:(∀q,q<kvs.length->q∈seen)->AE P ops rest Q n ((dd,.tuple #[.bool false])::F) w0 L)
    (step:∀q k v,kvs[q]?=some (k,v)->q ∉ seen->AE P ops rest Q n ((dd,.tuple #[.bool true,enc k,eV v])::F) w0 (L.set j (Uu r b kvs.length (seen++[q])))):AE P ops (⟨some dd,.next ip false,t,pp,af,g⟩::rest) Q n F w0 L:=λa w ha hW=>by
  obtain ⟨_,o,ho,hp⟩:=hW.2.1 _ (List.mem_of_getElem? hi) b rfl
  have ho:w.heap[b]?=some (.map (entsM enc eV kvs 0).toArray kvs.length):=by rw [ho,hp]
  obtain ⟨_,o2,ho2,hp2⟩:=hW.2.1 _ (List.mem_of_getElem? hj) r rfl
  have ho2:w.heap[r]?=some (.mapIter (some b) kvs.length seen.toArray kvs.length):=by rw [ho2,hp2]
  unfold wpList
  rw [if_pos (hw a ha)]
  left
  unfold Oper.wp
  have hex:execOp a.eval ⟨some dd,.next ip false,t,pp,af,g⟩=(Instr.next (.pointer (some ⟨r,0,none⟩)) false t >>= λv=>pure (.value v)):=by simp only [execOp,ha.ev hx]
  rcases run_next_at (P:=P) w t r b kvs.length kvs.length seen.toArray (entsM enc eV kvs 0).toArray kvs.length ho2 ho (λx hx=>by
    obtain ⟨q,p,hq,rfl⟩:=HS (by simpa using hx)
    have:=(List.getElem?_eq_some_iff.1 hq).1
    show 0+q<kvs.length
    omega) (Nat.le_refl _) with ⟨h1,h2⟩|⟨e,he,w1,hw1,h2⟩
  · have hrun:(execOp a.eval ⟨some dd,.next ip false,t,pp,af,g⟩).run P w=.ok (.value (.tuple #[.bool false])) w:=by rw [hex,Sem.run_bind,h2];rfl
    rw [hrun,Oper.upon_value]
    exact done (O3 h1) _ _ (ha.put (B3 hd)) hW
  · obtain ⟨q,⟨k,v⟩,hq,hns,rfl⟩:=RR he
    have hrun:(execOp a.eval ⟨some dd,.next ip false,t,pp,af,g⟩).run P w=.ok (.value (.tuple #[.bool true,enc k,eV v])) (Go.ChangeMaps.setBlock w1 r (.mapIter (some b) kvs.length (seen.toArray.push q) kvs.length)):=by rw [hex,Sem.run_bind,h2];rfl
    rw [hrun,Oper.upon_value]
    have hW1:BN w0 w1 L:=by
      rcases hw1 with rfl|rfl
      · exact hW
      · exact hW.drew
    have ho3:w1.heap[r]?=some (.mapIter (some b) kvs.length seen.toArray kvs.length):=by rcases hw1 with rfl|rfl<;>exact ho2
    exact step q k v hq hns _ _ (ha.put (B3 hd)) (hW1.turn hj O O (D6 _ _ _) ⟨_,Ec ho3,by show Obj.mapIter _ _ _ _=Obj.mapIter _ _ _ _;simp⟩)
theorem Pr (i j:Nat) {kvs:List (α×β)} {seen:List Nat} {r q:Nat} {ip:Operand} {k:α} {v:β} (hx:evF F ip=some (.pointer (some ⟨r,0,none⟩))) (hi:L[i]?=some (DD b enc eV kvs)) (hj:L[j]?=some (Uu r b kvs.length (seen++[q]))) (hq:kvs[q]?=some (k,v)) :
    Ex P n F w0 L ⟨d,.entry ip,t,pp,af,g⟩ (.tuple #[enc k,eV v]):=λA w ha hW=>by
  obtain ⟨_,o,ho,hp⟩:=hW.2.1 _ (List.mem_of_getElem? hi) b rfl
  have ho:w.heap[b]?=some (.map (entsM enc eV kvs 0).toArray kvs.length):=by rw [ho,hp]
  obtain ⟨_,o2,ho2,hp2⟩:=hW.2.1 _ (List.mem_of_getElem? hj) r rfl
  have ho2:w.heap[r]?=some (.mapIter (some b) kvs.length (seen.toArray.push q) kvs.length):=by rw [ho2,hp2];simp
  have he:(⟨enc k,eV v,q⟩:MapEntry)∈(entsM enc eV kvs 0).toArray.toList:=by
    have h1:(entsM enc eV kvs 0)[q]?=some ⟨enc k,eV v,q⟩:=by rw [Ck,hq,Option.map_some,Nat.zero_add]
    exact List.mem_of_getElem? h1
  have hnd:((entsM enc eV kvs 0).toArray.toList.map (·.born)).Nodup:=by
    have e1:∀(l:List (α×β)) (s:Nat),(entsM enc eV l s).map (·.born)=List.range' s l.length:=by
      intro l
      induction l with
      | nil=>intro s;rfl
      | cons p r ih=>intro s;rw [entsM,List.map_cons,ih,List.length_cons,List.range'_succ]
    show ((entsM enc eV kvs 0).map (·.born)).Nodup
    rw [e1];exact List.nodup_range'
  have h:=run_entry_at (P:=P) w r b kvs.length seen.toArray (entsM enc eV kvs 0).toArray kvs.length ⟨enc k,eV v,q⟩ ho2 ho he hnd
  simp only [execOp,ha.ev hx]
  rw [Sem.run_bind,h]
  rfl
variable [DecidableEq α]
def BG:List (α×β)->α->Option β
  | [],_=>none
  | (k,v)::r,x=>if x=k then some v else BG r x
def Be:List (α×β)->α->β->List (α×β)
  | [],x,y=>[(x,y)]
  | (k,v)::r,x,y=>if x=k then (k,y)::r else (k,v)::Be r x y
theorem Jv:∀{kvs:List (α×β)} {x:α},(∀p∈kvs,p.1≠x)->BG kvs x=none
  | [],_,_=>rfl
  | (k,v)::r,x,h=>by
    rw [BG,if_neg (λe=>h (k,v) List.mem_cons_self e.symm)]
    exact Jv λp hp=>h p (List.mem_cons_of_mem _ hp)
theorem IB:∀{kvs:List (α×β)} {j:Nat} {x:α} {v:β},kvs.Pairwise (λp q=>p.1≠q.1)->kvs[j]?=some (x,v)->BG kvs x=some v
  | (k,u)::r,0,x,v,_,h=>by
    simp only [List.getElem?_cons_zero,Option.some.injEq,Prod.mk.injEq] at h
    rw [BG,if_pos h.1.symm,h.2]
  | (k,u)::r,j+1,x,v,hp,h=>by
    obtain ⟨h1,h2⟩:=List.pairwise_cons.1 hp
    rw [List.getElem?_cons_succ] at h
    rw [BG,if_neg (λe=>h1 (x,v) (List.mem_of_getElem? h) e.symm)]
    exact IB h2 h
theorem HM:∀{kvs:List (α×β)} {x:α} {y:β},(∀p∈kvs,p.1≠x)->Be kvs x y=kvs++[(x,y)]
  | [],_,_,_=>rfl
  | (k,v)::r,x,y,h=>by
    rw [Be,if_neg (λe=>h (k,v) List.mem_cons_self e.symm),HM λp hp=>h p (List.mem_cons_of_mem _ hp)];rfl
theorem Nr:∀{kvs:List (α×β)} {j:Nat} {x:α} {u y:β},kvs.Pairwise (λp q=>p.1≠q.1)->kvs[j]?=some (x,u)->Be kvs x y=kvs.set j (x,y)
  | (k,v)::r,0,x,u,y,_,h=>by
    simp only [List.getElem?_cons_zero,Option.some.injEq,Prod.mk.injEq] at h
    rw [Be,if_pos h.1.symm,h.1];rfl
  | (k,v)::r,j+1,x,u,y,hp,h=>by
    obtain ⟨h1,h2⟩:=List.pairwise_cons.1 hp
    rw [List.getElem?_cons_succ] at h
    rw [Be,if_neg (λe=>h1 (x,u) (List.mem_of_getElem? h) e.symm),Nr h2 h];rfl
theorem I2 {x:α} {y:β}:∀{kvs:List (α×β)} {p:α×β},p∈Be kvs x y->p.1=x\/p∈kvs
  | [],p,h=>by rcases List.mem_singleton.1 h with rfl;exact .inl rfl
  | (k,v)::r,p,h=>by
    unfold Be at h
    split at h
    · rename_i e
      rcases List.mem_cons.1 h with rfl|h
      · exact .inl e.symm
      · exact .inr (List.mem_cons_of_mem _ h)
    · rcases List.mem_cons.1 h with rfl|h
      · exact .inr List.mem_cons_self
      · rcases I2 h with h|h
        · exact .inl h
        · exact .inr (List.mem_cons_of_mem _ h)
theorem J3 {x:α} {y:β}:∀{kvs:List (α×β)},kvs.Pairwise (λp q=>p.1≠q.1)->(Be kvs x y).Pairwise (λp q=>p.1≠q.1)
  | [],_=>List.pairwise_singleton _ _
  | (k,v)::r,h=>by
    obtain ⟨h1,h2⟩:=List.pairwise_cons.1 h
    unfold Be
    split
    · exact List.pairwise_cons.2 ⟨λq hq=>h1 q hq,h2⟩
    · rename_i hne
      refine List.pairwise_cons.2 ⟨λq hq=>?_,J3 h2⟩
      rcases I2 hq with e|hq
      · rw [e];exact λe2=>hne e2.symm
      · exact h1 q hq
theorem Jm.put {kvs:List (α×β)} (h:Jm ok kvs) {x:α} {y:β} (hx:ok x):Jm ok (Be kvs x y):=⟨λp hp=>by
  rcases I2 hp with e|hp
  · rw [e];exact hx
  · exact h.ok p hp,J3 h.once⟩
theorem Fz (K:NB P kt enc ok) {kvs:List (α×β)} (hm:Jm ok kvs) {x:α} (hx:ok x) (w:World) :
    (BG kvs x=none/\(∀p∈kvs,p.1≠x)/\(Instr.findKey kt (enc x) (entsM enc eV kvs 0)).run P w=.ok none w) \/
    ∃j v,kvs[j]?=some (x,v)/\BG kvs x=some v/\(Instr.findKey kt (enc x) (entsM enc eV kvs 0)).run P w=.ok (some (j,eV v)) w:=by
  obtain ⟨lx,hlx⟩:=K.key x hx
  rcases K.law.find w hlx (entsM enc eV kvs 0) (λe he=>by
    obtain ⟨j,p,hj,rfl⟩:=HS he
    exact K.key p.1 (hm.ok p (List.mem_of_getElem? hj))) with ⟨h1,h2⟩|⟨j,e,h1,h2,h3⟩
  · have hne:∀p∈kvs,p.1≠x:=λp hp e=>by
      obtain ⟨j,hj,hp⟩:=List.getElem_of_mem hp
      have h4:(entsM enc eV kvs 0)[j]?=some ⟨enc p.1,eV p.2,0+j⟩:=by rw [Ck,List.getElem?_eq_getElem hj,hp];rfl
      exact h2 _ (List.mem_of_getElem? h4) (by rw [e])
    exact .inl ⟨Jv hne,hne,h1⟩
  · rw [Ck,Option.map_eq_some_iff] at h2
    obtain ⟨⟨k,v⟩,hj,rfl⟩:=h2
    have hk:k=x:=K.inj _ _ h3
    subst hk
    exact .inr ⟨j,v,hj,IB hm.once hj,h1⟩
theorem Fs (K:NB P kt enc ok) (i:Nat) {kvs:List (α×β)} {x:α} {z0:β} {co:Bool} (hx:evF F mp=some (.map (some b))) (hk:evF F kp=some (enc x)) (ht:P.underlying tx=some (.map kt et)) (hz:∀w,(zeroValue et).run P w=.ok (eV z0) w) (hi:L[i]?=some (DD b enc eV kvs)) (hm:Jm ok kvs) (hok:ok x) :
    Ex P n F w0 L ⟨d,.lookup tx mp kp co,t,pp,af,g⟩ (if co then .tuple #[eV ((BG kvs x).getD z0),.bool (BG kvs x).isSome] else eV ((BG kvs x).getD z0)):=λA w ha hw=>by
  obtain ⟨_,o,ho,hp⟩:=hw.2.1 _ (List.mem_of_getElem? hi) b rfl
  have ho:w.heap[b]?=some (.map (entsM enc eV kvs 0).toArray kvs.length):=by rw [ho,hp]
  obtain ⟨lx,hlx⟩:=K.key x hok
  have hc:=λem=>K.law.check w em hlx
  rcases Fz (eV:=eV) K hm hok w with ⟨h1,_,h2⟩|⟨j,v,_,h1,h2⟩
  · simp only [execOp,ha.ev hx,ha.ev hk,Instr.lookup,Sem.run_bind,run_underlying ht,CF ho,Result.andThen_ok,Sem.run_pure,hc,List.toList_toArray,h2,hz,h1,Option.getD_none,Option.isSome_none]
  · simp only [execOp,ha.ev hx,ha.ev hk,Instr.lookup,Sem.run_bind,run_underlying ht,CF ho,Result.andThen_ok,Sem.run_pure,hc,List.toList_toArray,h2,h1,Option.getD_some,Option.isSome_some]
theorem AE.mapUpdate (K:NB P kt enc ok) (i:Nat) {kvs:List (α×β)} {x:α} {y:β} (hw:Wt ops n F ⟨none,.mapUpdate tx mp kp vp,t,pp,af,g⟩) (hx:evF F mp=some (.map (some b))) (hk:evF F kp=some (enc x)) (hv:evF F vp=some (eV y)) (ht:P.underlying tx=some (.map kt et)) (hi:L[i]?=some (DD b enc eV kvs)) (hm:Jm ok kvs) (hok:ok x)
    (next:AE P ops rest Q n F w0 (L.set i (DD b enc eV (Be kvs x y)))):AE P ops (⟨none,.mapUpdate tx mp kp vp,t,pp,af,g⟩::rest) Q n F w0 L:=λa w ha hW=>by
  obtain ⟨_,o,ho,hp⟩:=hW.2.1 _ (List.mem_of_getElem? hi) b rfl
  have ho:w.heap[b]?=some (.map (entsM enc eV kvs 0).toArray kvs.length):=by rw [ho,hp]
  obtain ⟨lx,hlx⟩:=K.key x hok
  have hc:=λem=>K.law.check w em hlx
  have hst:=K.law.stays w hlx
  have hrun:(execOp a.eval ⟨none,.mapUpdate tx mp kp vp,t,pp,af,g⟩).run P w=.ok .skip (Go.ChangeMaps.setBlock w b (.map (entsM enc eV (Be kvs x y) 0).toArray (Be kvs x y).length)):=by
    rcases Fz (eV:=eV) K hm hok w with ⟨_,h1,h2⟩|⟨j,v,hj,_,h2⟩
    · rw [HM h1,E8,List.length_append]
      simp only [execOp,ha.ev hx,ha.ev hk,ha.ev hv,Instr.mapUpdate,Sem.run_bind,run_underlying ht,CF ho,Result.andThen_ok,hc,List.toList_toArray,h2,Di ho,Sem.run_pure,List.push_toArray,Nat.zero_add,List.length_singleton]
    · rw [Nr hm.once hj,<-FY hj,List.length_set]
      have e1:(((entsM enc eV kvs 0).toArray[j]?).map (·.key)).getD (enc x)=enc x:=by
        rw [List.getElem?_toArray,Ck,hj];rfl
      simp only [execOp,ha.ev hx,ha.ev hk,ha.ev hv,Instr.mapUpdate,Sem.run_bind,run_underlying ht,CF ho,Result.andThen_ok,hc,List.toList_toArray,h2,e1,hst,Di ho,Sem.run_pure]
  unfold wpList
  rw [if_pos (hw a ha)]
  left
  unfold Oper.wp
  rw [hrun,Oper.upon_skip]
  exact next _ _ ha.put_none (hW.turn hi O O (D6 _ _ _) ⟨_,Ec ho,rfl⟩)
end
end
section
def Df (a b:Nat):Int:=if a<b then -1 else if b<a then 1 else 0
theorem Nm {a b:Nat} (h:a<b):Df a b = -1:=if_pos h
theorem OE {a b:Nat} (h:¬a<b) (h2:b<a):Df a b=1:=by rw [Df,if_neg h,if_pos h2]
theorem OA {a b:Nat} (h:¬a<b) (h2:¬b<a):Df a b=0:=by rw [Df,if_neg h,if_neg h2]
def Qb (a b:Int):Int:=if a≠0 then a else if b≠0 then b else 0
section
variable {P:Program} {n:Nat} {F:List (Nat×Value)} {w0:BL} {L:List As} {d:Option Tmp} {x:Operand} {t:TypeId} {p:String} {af:Array Edge} {g:Option (Nat×Bool)}
theorem GF {tx e:TypeId} {a:Option Addr} {len cap k:Nat} {hi mx:Operand} {ki kj:IntKind} {m:Nat} (hx:evF F x=some (.slice a len cap)) (hh:evF F hi=some (.int ki (m:Nat))) (hj:evF F mx=some (.int kj (m:Nat))) (hu:P.underlying tx=some (.slice e)) (hs:∀w,(sizeOf e).run P w=.ok k w) (hm:m<=cap) :
    Ex P n F w0 L ⟨d,.slice tx x none (some hi) (some mx),t,p,af,g⟩ (.slice a m m):=λA w ha _=>by
  simp only [execOp,ha.ev hx,Instr.sliceAt,run_underlying hu,Instr.slice,Option.map_some,Option.map_none,ha.ev hh,ha.ev hj,Instr.sliceBounds,Instr.sliceBound,asIntOf,Sem.run_bind,Result.andThen_ok,Sem.run_pure]
  have h1:(0:Int)<=(m:Int)/\(m:Int)<=(cap:Int):=⟨Z,Z⟩
  simp [h1.2,hs]
  cases a<;>simp [Addr.add]
end
section
variable {P:Program} {ops:Array Oper} {rest:List Oper} {Q:Exit->Act->World->Prop} {n:Nat} {F:List (Nat×Value)} {w0:BL} {L L':List As}
end
end
section
structure E4 where
  a:Nat
  b:Nat
  l:Int
  r:Int
deriving DecidableEq
def B9 (e:E4):List Value:=[vN e.a,vN e.b,.int .i64 e.l,.int .i64 e.r]
theorem BT (e:E4):(B9 e).length=4:=rfl
def MV (x y:E4):Int:=Qb (Df x.a y.a) (Df x.b y.b)
abbrev IA (k:P2):Value:=aG (A7 k)
abbrev K_ (e:E4):Value:=aG (B9 e)
def N9 (k:P2):Prop:=k.1<4611686018427387904/\k.2<4611686018427387904
theorem Tm:laidOutB prog=true:=by kernel_rfl
theorem Hi {P:Program} {t:TypeId} (h:P.underlying t=some (.int .i64)) (d:Nat) {z:Int} (hz:(Lit.int .i64 z).wf=true):P.keyLits (d+1) t [.int .i64 z]=some [.int .i64 z]:=by
  unfold Program.keyLits
  rw [h]
  exact if_pos ⟨rfl,hz⟩
theorem KI {P : Program} {k e : TypeId} {f0 f1 : Field} (hu : P.underlying k = some (.struct #[f0, f1])) (h0 : f0.type = e ∧ f0.offset = 0) (h1 : f1.type = e ∧ f1.offset = 1) (hn : (#[f0, f1].all (·.name != "_")) = true) (he : P.underlying e = some (.int .i64)) (ce : P.cellsOf e = 1) (ck : P.cellsOf k = 2) (hk : P.keyType k = true) (hz : 0 < P.types.size)
    {a b:Int} (wa:(Lit.int .i64 a).wf=true) (wb:(Lit.int .i64 b).wf=true):∃l,keyOf P k (.agg #[.int .i64 a,.int .i64 b])=some l:=by
  obtain ⟨d,hd⟩:∃d,P.types.size=d+1:=⟨P.types.size-1,Z⟩
  have hf:(Value.agg #[.int .i64 a,.int .i64 b]).formed P k=true:=by
    unfold Value.formed
    simp only [hu,ck]
    rfl
  have hl:P.keyLits (P.types.size+1) k (Value.agg #[.int .i64 a,.int .i64 b]).cells.toList=some [.int .i64 a,.int .i64 b]:=by
    rw [hd]
    unfold Program.keyLits
    simp only [hu]
    show (if ([Value.int .i64 a, Value.int .i64 b] : List Value).length = P.cellsOf k ∧ (#[f0, f1].all (·.name != "_")) = true then _ else _) = _
    rw [if_pos ⟨by rw [ck];rfl,hn⟩]
    have e0:P.keyLits (d+1) f0.type ((([Value.int .i64 a,Value.int .i64 b]:List Value).drop f0.offset).take (P.cellsOf f0.type))=some [.int .i64 a]:=by
      rw [h0.1,h0.2,ce];exact Hi he d wa
    have e1:P.keyLits (d+1) f1.type ((([Value.int .i64 a,Value.int .i64 b]:List Value).drop f1.offset).take (P.cellsOf f1.type))=some [.int .i64 b]:=by
      rw [h1.1,h1.2,ce];exact Hi he d wb
    show (List.mapM (λf=>P.keyLits (d+1) f.type ((([Value.int .i64 a,Value.int .i64 b]:List Value).drop f.offset).take (P.cellsOf f.type))) [f0,f1]).map List.flatten=_
    simp only [List.mapM_cons,List.mapM_nil,e0,e1]
    rfl
  refine ⟨.string (keyBytes [.int .i64 a,.int .i64 b]),?_⟩
  unfold keyOf
  simp only [hu,hk,hf,Bool.and_self,if_true,hl]
  rfl
theorem LU {a:Nat} (h:a<4611686018427387904):(Lit.int .i64 ((a:Nat):Int)).wf=true:=by
  show (decide (IntKind.i64.min<=((a:Nat):Int))&&decide (((a:Nat):Int)<=IntKind.i64.max))=true
  rw [Bool.and_eq_true,decide_eq_true_eq,decide_eq_true_eq]
  simp only [IntKind.min,IntKind.max,IntKind.bits,IntKind.signed]
  simp
  omega
theorem MD {a b:P2} (h:IA a=IA b):a=b:=by
  have h1:(A7 a).toArray=(A7 b).toArray:=by injection h
  have h2:A7 a=A7 b:=by simpa using h1
  simp only [A7,List.cons.injEq,Value.int.injEq,true_and,and_true] at h2
  exact Prod.ext Z Z
def Fj (t:Nat×Nat×Nat) (r:Nat):Nat:=if r=0 then t.1 else if r=1 then t.2.1 else t.2.2
def Ej (e:E4) (t a b:Nat):E4:=if a<b/\e.l = -1 then { e with l:=t } else if b<a/\e.r = -1 then { e with r:=t } else e
def HX (k:P2):E4:=⟨k.1,k.2,-1,-1⟩
def Cc (a b:Nat):P2:=(min a b,max a b)
def PC (kvs:List (P2×E4)) (t a b:Nat):List (P2×E4):=Be kvs (Cc a b) (Ej ((BG kvs (Cc a b)).getD (HX (Cc a b))) t a b)
def CS (ts:List (Nat×Nat×Nat)):Nat->List (P2×E4)
  | 0=>[]
  | s+1=>PC (CS ts s) (s/3) (Fj (ts.getD (s/3) (0,0,0)) (s%3)) (Fj (ts.getD (s/3) (0,0,0)) ((s%3+1)%3))
section
variable {ts:List (Nat×Nat×Nat)} {t i N:Nat}
theorem Ir (hi:i<3):CS ts (3*t+i+1)=PC (CS ts (3*t+i)) t (Fj (ts.getD t (0,0,0)) i) (Fj (ts.getD t (0,0,0)) ((i+1)%3)):=by
  rw [CS,show (3*t+i)/3=t by omega,show (3*t+i)%3=i by omega]
theorem Ku {t:Nat×Nat×Nat} (h:L9 N t=true) (r:Nat):Fj t r<N:=by
  obtain ⟨h1,h2,h3⟩:=DW h
  unfold Fj
  split
  · exact h1
  · split<;>assumption
theorem DZ {a b:Nat} (ha:a<4611686018427387904) (hb:b<4611686018427387904):N9 (Cc a b):=by
  unfold N9 Cc
  simp only
  omega
theorem Ei (hn:By N ts=true) (hN:N<=4611686018427387904):∀s,s<=3*ts.length->Jm N9 (CS ts s)
  | 0,_=>Jm.nil
  | s+1,hs=>by
    have ht:=Cb hn (show s/3<ts.length by omega)
    exact (Ei hn hN s Z).put (DZ (Nat.lt_of_lt_of_le (Ku ht _) hN) (Nat.lt_of_lt_of_le (Ku ht _) hN))
theorem RH {kvs:List (P2×E4)} {x:P2} {y:E4}:(Be kvs x y).length<=kvs.length+1:=by
  induction kvs with
  | nil=>simp [Be]
  | cons p r ih =>
    obtain ⟨k,v⟩:=p
    unfold Be
    split
    · simp
    · simp only [List.length_cons];omega
theorem IE:∀s,(CS ts s).length<=s
  | 0=>Nat.le_refl _
  | s+1=>by
    have h:=IE s
    have h2:=@RH (CS ts s) (Cc (Fj (ts.getD (s/3) (0,0,0)) (s%3)) (Fj (ts.getD (s/3) (0,0,0)) ((s%3+1)%3))) (Ej ((BG (CS ts s) (Cc (Fj (ts.getD (s/3) (0,0,0)) (s%3)) (Fj (ts.getD (s/3) (0,0,0)) ((s%3+1)%3)))).getD (HX (Cc (Fj (ts.getD (s/3) (0,0,0)) (s%3)) (Fj (ts.getD (s/3) (0,0,0)) ((s%3+1)%3))))) (s/3) (Fj (ts.getD (s/3) (0,0,0)) (s%3)) (Fj (ts.getD (s/3) (0,0,0)) ((s%3+1)%3)))
    show (PC _ _ _ _).length<=_
    unfold PC
    omega
end
section
variable {α β:Type} {enc:α->Value} {eV:β->Value} {P:Program} {n d:Nat} {F:List (Nat×Value)} {w0:BL} {L:List As} {dd:Option Tmp} {x y:Operand} {t:TypeId} {p:String} {af:Array Edge} {g:Option (Nat×Bool)} {tx kt et:TypeId} {b:Nat} {ops:Array Oper} {rest:List Oper} {Q:Exit->Act->World->Prop}
theorem NN (i:Nat) {kvs:List (α×β)} (hx:evF F x=some (.map (some b))) (ht:P.underlying tx=some (.map kt et)) (hi:L[i]?=some (DD b enc eV kvs)) :
    Ex P n F w0 L ⟨dd,.call { callee:=.builtin .len,args:=#[x],argTypes:=#[tx] },t,p,af,g⟩ (vN kvs.length):=λA w ha hw=>by
  obtain ⟨_,o,ho,hp⟩:=hw.2.1 _ (List.mem_of_getElem? hi) b rfl
  have ho:w.heap[b]?=some (.map (entsM enc eV kvs 0).toArray kvs.length):=by rw [ho,hp]
  simp [execOp,resolve,invoke,builtin,ha.ev hx,Builtin.len_,run_underlying ht,CF ho,J5,goInt]
variable {T:TypeId} {z c bytes:Nat}
theorem AE.make0 {ki kj:IntKind} (ht:ElemT P t T z bytes) (hx:evF F x=some (.int ki ((0:Nat):Int))) (hy:evF F y=some (.int kj (c:Nat))) (hc:c<=1099511627776) (hb:Nat.ble bytes 128=true) (hd:Nat.ble (d+1) n=true)
    (next:∀b,OwnOk (some ⟨b,0,none⟩) 0 c->AE P ops rest Q n ((d,.slice (some ⟨b,0,none⟩) 0 c)::F) w0 (rowW (some ⟨b,0,none⟩) T z 0 c []::L)) :
    AE P ops (⟨some d,.makeSlice t x y,tx,p,af,none⟩::rest) Q n F w0 L:=λa w ha hW=>by
  obtain ⟨inf,zv,hi,hz,hs,hby,hzc⟩:=ht.i
  have hble:=Nat.le_of_ble_eq_true hb
  have h1:=run_make (P:=P) w t T inf zv ht.u hi hz ki kj ((0:Nat):Int) (c:Nat) Z Z (by
    rw [hby]
    have:bytes*c<=128*c:=Nat.mul_le_mul_right c hble
    have e:((bytes:Nat):Int)*((c:Nat):Int)=((bytes*c:Nat):Int):=by rw [Int.natCast_mul]
    rw [e];omega) Z
  unfold wpList
  rw [if_pos (AQ rfl a ha)]
  left
  unfold Oper.wp
  have he:(execOp a.eval ⟨some d,.makeSlice t x y,tx,p,af,none⟩).run P w=.ok (.value (.slice (some ⟨w.heap.size,0,none⟩) 0 c)) (w.alloc (.cells (madeCells zv.cells (c*inf.size)) T)):=by
    simp only [execOp,ha.ev hx,ha.ev hy,Sem.run_bind,h1,Result.andThen_ok,Sem.run_pure,Int.toNat_natCast]
  rw [he,Oper.upon_value]
  refine next _ (HK (Nat.zero_le _) (Ka hc)) _ _ (ha.put (B3 hd)) (hW.alloc _ O ⟨_,rfl,?_,by simp⟩)
  rw [<-hs]
  exact size_madeCells _ _
end
end
end Go.Proofs.YtfbomiejpbchdaaGreatDoor
