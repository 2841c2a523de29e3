import Derived.Maps.RangeRun
import Derived.DeepKeys4
import Derived.Maps.Keyed
import Derived.LaidMore
import Derived.Test.YtpolhpjiahbidaaGreatDoorPrt10
namespace Go.Proofs.YtpolhpjiahbidaaGreatDoor
open Go Go.RowKit Go.Proofs.Tryz
open Go.Value renaming slice→qz,bool→qa
set_option linter.unusedVariables false
set_option linter.unusedSimpArgs false
section
set_option maxRecDepth 100000
theorem Wi (a:Nat) (w:World)  :Calls prog 216 #[(vN a)] w (AX w (qa false)):=by
 refine AS (args:=[(vN a)]) func216 O O (leB O) (zM (sL [0] O) (q4 (asg' O (oNl' (q2 (AJ O (AJ O (st' (Bf (c:=false) O O jX) O (asg' O (oNl' (zF (sL [2] O) ?_)))))))))))
 exact zC (zH (ret_one O (rd_tmp (v:=(qa false)) O) (λw hw=>⟨rfl,hw.out⟩)))
theorem R9 (a b:Nat) (w:World)  :Calls prog 170 #[(vN a),(vN b)] w (AX w (vI (Eb a b))):=by
 refine AS (args:=[(vN a),(vN b)]) func170 O O (leB O) (zM (sL [0,1] O) (q4 (asg' O (oNl' (q2 (AJ O (ck' call216 (Wi a) O (asg' O (q3 (sL [0,1,4,5] O) (AJ O (ck' call216 (Wi b) O ?_)))))))))))
 refine asg' O (q6 (sL [0,1,4,5,6] O) (q4 (AJ O (oNl' (zF (sL [0,1,4,6,11] O) (zC (zX O (zJ (q1 (q4 (AJ O ?_)))))))))))
 refine oNl' (zF (sL [0,1,4,6,13] O) (zC (zX O (zJ (q1 (q4 (AJ O (AJ O (st' (AW (c:=(decide (a<b))) O O (B_ (a:=a) (b:=b))) O (oNl' (zF (sL [0,1,4,6,16] O) ?_)))))))))))
 refine zC ?_
 refine zO O (λhc3=>?_) (λhc3=>?_)
 ·replace hc3:=xR hc3
  have hr:=R8 hc3
  exact q4 (asg' O (oNl' (zC (zH (zI (ret_one O (rd_tmp (v:=(vI (-1:Int))) O) (λw hw=>⟨by rw [hr]<;>rfl,hw.out⟩)))))))
 ·replace hc3:=xQ hc3
  refine zJ (q1 (q4 (AJ O (AJ O (st' (B2 (c:=(decide (b<a))) O O (B_ (a:=b) (b:=a))) O (oNl' (zF (sL [0,1,4,6,19] O) (zC ?_))))))))
  refine zO O (λhc4=>?_) (λhc4=>?_)
  ·replace hc4:=xR hc4
   have hr:=R7 hc3 hc4
   exact q4 (asg' O (oNl' (zC (zH (zI (ret_one O (rd_tmp (v:=(vI 1)) O) (λw hw=>⟨by rw [hr]<;>rfl,hw.out⟩)))))))
  ·replace hc4:=xQ hc4
   have hr:=R6 hc3 hc4
   exact zJ (q2 (asg' O (oNl' (zC (zH (ret_one O (rd_tmp (v:=(vI 0)) O) (λw hw=>⟨by rw [hr]<;>rfl,hw.out⟩)))))))
theorem Vd (a b:Int) (g:Nat) (w:World) (hg:w.heap[g]?=some (.cells ([(vI a),(vI b)]).toArray 3 (0,0))):Calls prog 169 #[(qz (jk g) 2 2)] w (λe w'=>e=.returned (Value.int .i64 (Wy a b))/\Jf w w' (some g)/\w'.heap[g]?=some (.cells ([(vI a),(vI b)]).toArray 3 (0,0))):=by
 refine GE (args:=[(qz (jk g) 2 2)]) (g:=g) (T:=3) (cs:=[(vI a),(vI b)]) func169 O O (leB O) hg (zM (sL [0] O) (q4 (asg' O (oNl' (q2 (asg' O (oNl' (q1 (q4 (AJ O (st' (v:=(vI 2)) (AD O underlying32) O ?_)))))))))))
 refine AJ O (oNl' (zF (sL [2,3,6,7,8] O) (zC (zN (yG 4 (zk (q4 (st' (AW (c:=true) O O jY) O (oNl' (q1 (zZ O ?_)))))))))))
 refine zJ (q1 (zN (q4 (st' (v:=(pP g 0)) (AL (j:=0) O O underlying32 sizeOf3 O Z O) O (A_ 0 (vI a) BN O (asg' O (q3 (sL [2,3,6,7,8,5] O) (AJ O (AJ O (st' (Bf (c:=(decide (a≠(0:Int)))) O O O) O (oNl' ?_)))))))))))
 refine zF (sL [2,3,6,7,8,5,14] O) (zC ?_)
 refine zO O (λhc1=>?_) (λhc1=>?_)
 ·replace hc1:=xR hc1
  have hr:Wy a b=a:=if_pos hc1
  exact q4 (AJ O (asg' O (oNl' (zF (sL [2,3,6,7,8,5] O) (zC (zH (zU (zI (zI (zU (zI (ret_one O (rd_tmp (v:=(vI a)) O) (λw hw=>⟨by rw [hr]<;>rfl,hw.1,hw.get (i:=0) O⟩)))))))))))))
 ·replace hc1:=xQ hc1
  have hq:=hc1
  refine zJ (zP (zC (zQ (st' (AV (c:=(1:Int)) O O jY) O (AJ O (oNl' (zF (sL [2,3,6,7,8,5] O) (zu (zk (q4 (st' (AW (c:=true) O O jY) O ?_)))))))))))
  refine oNl' (q1 (zZ O (zJ (q1 (zN (q4 (st' (v:=(pP g 1)) (AL (j:=1) O O underlying32 sizeOf3 O Z O) O (A_ 0 (vI b) BN O (asg' O (q3 (sL [2,3,6,7,8,5] O) (AJ O ?_)))))))))))
  refine AJ O (st' (Bf (c:=(decide (b≠(0:Int)))) O O O) O (oNl' (zF (sL [2,3,6,7,8,5,14] O) (zC ?_))))
  refine zO O (λhc1=>?_) (λhc1=>?_)
  ·replace hc1:=xR hc1
   have hr:Wy a b=b:=by rw [Wy,if_neg hq,if_pos hc1]
   exact q4 (AJ O (asg' O (oNl' (zF (sL [2,3,6,7,8,5] O) (zC (zH (zU (zI (zI (zU (zI (ret_one O (rd_tmp (v:=(vI b)) O) (λw hw=>⟨by rw [hr]<;>rfl,hw.1,hw.get (i:=0) O⟩)))))))))))))
  ·replace hc1:=xQ hc1
   have hr:Wy a b=0:=by rw [Wy,if_neg hq,if_neg hc1]
   refine zJ (zP (zC (zQ (st' (AV (c:=(2:Int)) O O jY) O (AJ O (oNl' (zF (sL [2,3,6,7,8,5] O) (zu (zk (q4 (st' (AW (c:=false) O O jY) O ?_)))))))))))
   refine oNl' (q1 (zX O (zY (zR (zR (zV (q2 (AJ O (asg' O (oNl' (zF (sL [2,3,6,7,8,5] O) ?_)))))))))))
   exact zC (zH (ret_one O (rd_tmp (v:=(vI 0)) O) (λw hw=>⟨by rw [hr]<;>rfl,hw.1,hw.get (i:=0) O⟩)))
end
section
structure QI (P:Program) (kt:TypeId) {α:Type} (enc:α->Value) (ok:α->Prop):Prop where
  law:Maps.Keyed P kt
  key:∀a,ok a->∃l,keyOf P kt (enc a)=some l
  inj:∀a b,enc a=enc b->a=b
section
variable {α β:Type} {enc:α->Value} {eV:β->Value} {ok:α->Prop} {P:Program} {kt:TypeId} {n:Nat} {F:List (Nat×Value)} {w0:BA} {L:List As} {d:Option Tmp} {mp kp vp:Operand} {t:TypeId} {pp:String} {af:Array Edge} {g:Option (Nat×Bool)} {tx et:TypeId} {b:Nat} {ops:Array Oper} {rest:List Oper} {Q:Exit->Act->World->Prop}
def entsM {α β:Type} (enc:α->Value) (eV:β->Value):List (α×β)->Nat->List MapEntry
  | [],_=>[]
  | (k,v)::r,i=>⟨enc k,eV v,i⟩::entsM enc eV r (i+1)
def Dw {α β:Type} (b:Nat) (enc:α->Value) (eV:β->Value) (kvs:List (α×β)):As:=⟨some b,λo=>o=.map (entsM enc eV kvs 0).toArray kvs.length,false⟩
def dm (r b n:Nat) (seen:List Nat):As:=⟨some r,λo=>o=.mapIter (some b) n seen.toArray n,false⟩
structure Nb {α β:Type} (ok:α->Prop) (kvs:List (α×β)):Prop where
  ok:∀p∈kvs,ok p.1
  once:kvs.Pairwise (λp q=>p.1≠q.1)
theorem Mu:∀(kvs:List (α×β)) (i:Nat),(entsM enc eV kvs i).length=kvs.length
  | [],_=>rfl
  | (k,v)::r,i=>by rw [entsM,List.length_cons,Mu r,List.length_cons]
theorem DI:∀(kvs:List (α×β)) (i j:Nat),(entsM enc eV kvs i)[j]?=(kvs[j]?).map λp=>⟨enc p.1,eV p.2,i+j⟩
  | [],_,j=>by simp [entsM]
  | (k,v)::r,i,0=>rfl
  | (k,v)::r,i,j+1=>by
    rw [entsM,List.getElem?_cons_succ,List.getElem?_cons_succ,DI r (i+1) j,show i+1+j=i+(j+1) by omega]
theorem JC {kvs:List (α×β)} {i:Nat} {e:MapEntry} (h:e∈entsM enc eV kvs i):∃j p,kvs[j]?=some p/\e=⟨enc p.1,eV p.2,i+j⟩:=by
  obtain ⟨j,hj,e1⟩:=List.getElem_of_mem h
  have h1:(entsM enc eV kvs i)[j]?=some e:=by rw [xN hj,e1]
  rw [DI,Option.map_eq_some_iff] at h1
  obtain ⟨p,h2,h3⟩:=h1
  exact ⟨j,p,h2,h3.symm⟩
theorem Gb:∀(kvs:List (α×β)) (i:Nat) (x:α) (y:β),entsM enc eV (kvs++[(x,y)]) i=entsM enc eV kvs i++[⟨enc x,eV y,i+kvs.length⟩]
  | [],_,_,_=>rfl
  | (k,v)::r,i,x,y=>by
    rw [List.cons_append,entsM,Gb r (i+1),entsM,List.cons_append,List.length_cons,show i+1+r.length=i+(r.length+1) by omega]
theorem Mv:∀(kvs:List (α×β)) (i j:Nat) (x:α) (y:β),entsM enc eV (kvs.set j (x,y)) i=(entsM enc eV kvs i).set j ⟨enc x,eV y,i+j⟩
  | [],_,_,_,_=>rfl
  | (k,v)::r,i,0,x,y=>rfl
  | (k,v)::r,i,j+1,x,y=>by
    rw [List.set_cons_succ,entsM,Mv r (i+1) j,entsM,List.set_cons_succ,show i+1+j=i+(j+1) by omega]
theorem Nb.nil:Nb ok ([]:List (α×β)):=⟨(λp h=>by cases h),List.Pairwise.nil⟩
theorem Ch {w:World} {es:Array MapEntry} {c:Nat} (h:w.heap[b]?=some (.map es c)):(getObj b).run P w=.ok (.map es c) w:=by simp [getObj,Sem.run,h]
theorem FE (w:World) (b:Nat) (o:Obj):Jf w (Go.ChangeMaps.setBlock w b o) (some b):=⟨⟨rfl,rfl,rfl,by simp [Go.ChangeMaps.setBlock],λk hk hne=>by
  have h:b≠k:=λe=>hne (by rw [e])
  simp [Go.ChangeMaps.setBlock,Array.getElem?_setIfInBounds,h]⟩,Nat.le_refl _⟩
theorem F1 {w:World} {b:Nat} {o o':Obj} (h:w.heap[b]?=some o):(Go.ChangeMaps.setBlock w b o').heap[b]?=some o':=by
  have hlt:b<w.heap.size:=by
    rcases Nat.lt_or_ge b w.heap.size with h1|h1
    · exact h1
    · rw [Array.getElem?_eq_none h1] at h;cases h
  simp [Go.ChangeMaps.setBlock,Array.getElem?_setIfInBounds,hlt]
theorem Eg {w:World} {es:Array MapEntry} {c:Nat} (h:w.heap[b]?=some (.map es c)) (o':Obj):(setObj b o').run P w=.ok () (Go.ChangeMaps.setBlock w b o'):=by
  simp [setObj,Sem.run,h,Go.ChangeMaps.setBlock]
theorem G2 {kvs:List (α×β)} {j:Nat} {x:α} {v y:β} (h:kvs[j]?=some (x,v)):(entsM enc eV kvs 0).toArray.modify j (λe=>{ e with key:=enc x,val:=eV y })=(entsM enc eV (kvs.set j (x,y)) 0).toArray:=by
  have h1:(entsM enc eV kvs 0)[j]?=some ⟨enc x,eV v,0+j⟩:=by rw [DI,h];rfl
  apply Array.ext_getElem?
  intro k
  rw [Array.getElem?_modify,Mv]
  simp only [List.getElem?_toArray]
  by_cases e:j=k
  · subst e
    have hlt:j<(entsM enc eV kvs 0).length:=(List.getElem?_eq_some_iff.1 h1).1
    rw [if_pos rfl,h1,List.getElem?_set_self hlt]
    rfl
  · rw [if_neg e,List.getElem?_set_ne e]
theorem xE (enc:α->Value) (eV:β->Value) {dd:Nat} (hw:Wt ops n F ⟨some dd,.makeMap tx none,t,pp,af,g⟩) (hd:Nat.ble (dd+1) n=true) (next:∀b,AQ P ops rest Q n ((dd,.map (some b))::F) w0 (Dw b enc eV ([]:List (α×β))::L)):AQ P ops (⟨some dd,.makeMap tx none,t,pp,af,g⟩::rest) Q n F w0 L:=λa w ha hW=>by
  have hrun:(execOp a.eval ⟨some dd,.makeMap tx none,t,pp,af,g⟩).run P w=.ok (.value (.map (some w.heap.size))) (w.alloc (.map #[] 0)):=by
    rfl
  unfold wpList
  rw [if_pos (hw a ha)]
  left
  unfold Oper.wp
  rw [hrun,Oper.upon_value]
  exact next _ _ _ (ha.put (B1 hd)) (hW.alloc (.map #[] 0) O O)
theorem AQ.range (i:Nat) {kvs:List (α×β)} {dd:Nat} (hw:Wt ops n F ⟨some dd,.range tx mp,t,pp,af,g⟩) (hx:evF F mp=some (.map (some b))) (ht:P.underlying tx=some (.map kt et)) (hi:L[i]?=some (Dw b enc eV kvs)) (hd:Nat.ble (dd+1) n=true)
    (next:∀r,AQ P ops rest Q n ((dd,.pointer (jk r))::F) w0 (dm r b kvs.length []::L)):AQ P ops (⟨some dd,.range tx mp,t,pp,af,g⟩::rest) Q n F w0 L:=λa w ha hW=>by
  obtain ⟨_,o,ho,hp⟩:=hW.2.1 _ (List.mem_of_getElem? hi) b rfl
  have ho:w.heap[b]?=some (.map (entsM enc eV kvs 0).toArray kvs.length):=by rw [ho,hp]
  have hrun:(execOp a.eval ⟨some dd,.range tx mp,t,pp,af,g⟩).run P w=.ok (.value (.pointer (some ⟨w.heap.size,0,none⟩))) (w.alloc (.mapIter (some b) kvs.length #[] kvs.length)):=by
    simp only [execOp,ha.ev hx,Instr.range,Sem.run_bind,run_underlying ht,Result.andThen_ok,Ch ho,Sem.run_pure]
    rfl
  unfold wpList
  rw [if_pos (hw a ha)]
  left
  unfold Oper.wp
  rw [hrun,Oper.upon_value]
  exact next _ _ _ (ha.put (B1 hd)) (hW.alloc _ O O)
theorem WS {kvs:List (α×β)} {seen:List Nat} {e:MapEntry} (h:e∈(leftOf (entsM enc eV kvs 0).toArray seen.toArray).toList):∃q p,kvs[q]?=some p/\q ∉ seen/\e=⟨enc p.1,eV p.2,q⟩:=by
  unfold leftOf at h
  simp only [Array.toList_filter,List.toList_toArray,List.mem_filter] at h
  obtain ⟨h1,h2⟩:=h
  obtain ⟨q,p,hq,rfl⟩:=JC h1
  refine ⟨q,p,hq,?_,by rw [Nat.zero_add]⟩
  simpa using h2
theorem Tf {kvs:List (α×β)} {seen:List Nat} (h:(leftOf (entsM enc eV kvs 0).toArray seen.toArray).size=0):∀q,q<kvs.length->q∈seen:=λq hq=>by
  rcases Classical.em (q∈seen) with k|k
  · exact k
  · exfalso
    have h1:(entsM enc eV kvs 0)[q]?=some ⟨enc (kvs[q]).1,eV (kvs[q]).2,q⟩:=by rw [DI,xN hq,Option.map_some,Nat.zero_add]
    have h2:(⟨enc (kvs[q]).1,eV (kvs[q]).2,q⟩:MapEntry)∈(leftOf (entsM enc eV kvs 0).toArray seen.toArray).toList:=by
      unfold leftOf
      simp only [Array.toList_filter,List.toList_toArray,List.mem_filter]
      exact ⟨List.mem_of_getElem? h1,by simpa using k⟩
    have h3:(leftOf (entsM enc eV kvs 0).toArray seen.toArray).toList=[]:=List.eq_nil_of_length_eq_zero (by simpa using h)
    rw [h3] at h2
    cases h2
theorem AQ.next (i j:Nat) {kvs:List (α×β)} {seen:List Nat} {r dd:Nat} {ip:Operand} (hw:Wt ops n F ⟨some dd,.next ip false,t,pp,af,g⟩) (hx:evF F ip=some (.pointer (jk r))) (hi:L[i]?=some (Dw b enc eV kvs)) (hj:L[j]?=some (dm r b kvs.length seen)) (hd:Nat.ble (dd+1) n=true)
    (done:(∀q,q<kvs.length->q∈seen)->AQ P ops rest Q n ((dd,.tuple #[.bool false])::F) w0 L)
    (step:∀q k v,kvs[q]?=some (k,v)->q ∉ seen->AQ P ops rest Q n ((dd,.tuple #[.bool true,enc k,eV v])::F) w0 (L.set j (dm r b kvs.length (seen++[q])))):AQ P ops (⟨some dd,.next ip false,t,pp,af,g⟩::rest) Q n F w0 L:=λa w ha hW=>by
  obtain ⟨_,o,ho,hp⟩:=hW.2.1 _ (List.mem_of_getElem? hi) b rfl
  have ho:w.heap[b]?=some (.map (entsM enc eV kvs 0).toArray kvs.length):=by rw [ho,hp]
  obtain ⟨_,o2,ho2,hp2⟩:=hW.2.1 _ (List.mem_of_getElem? hj) r rfl
  have ho2:w.heap[r]?=some (.mapIter (some b) kvs.length seen.toArray kvs.length):=by rw [ho2,hp2]
  unfold wpList
  rw [if_pos (hw a ha)]
  left
  unfold Oper.wp
  have hex:execOp a.eval ⟨some dd,.next ip false,t,pp,af,g⟩=(Instr.next (.pointer (jk r)) false t >>= λv=>pure (.value v)):=by simp only [execOp,ha.ev hx]
  rcases run_next_at (P:=P) w t r b kvs.length kvs.length seen.toArray (entsM enc eV kvs 0).toArray kvs.length ho2 ho (λx hx=>by
    obtain ⟨q,p,hq,rfl⟩:=JC (by simpa using hx)
    have:=(List.getElem?_eq_some_iff.1 hq).1
    show 0+q<kvs.length
    omega) (Nat.le_refl _) with ⟨h1,h2⟩|⟨e,he,w1,hw1,h2⟩
  · have hrun:(execOp a.eval ⟨some dd,.next ip false,t,pp,af,g⟩).run P w=.ok (.value (.tuple #[.bool false])) w:=by rw [hex,Sem.run_bind,h2];rfl
    rw [hrun,Oper.upon_value]
    exact done (Tf h1) _ _ (ha.put (B1 hd)) hW
  · obtain ⟨q,⟨k,v⟩,hq,hns,rfl⟩:=WS he
    have hrun:(execOp a.eval ⟨some dd,.next ip false,t,pp,af,g⟩).run P w=.ok (.value (.tuple #[.bool true,enc k,eV v])) (Go.ChangeMaps.setBlock w1 r (.mapIter (some b) kvs.length (seen.toArray.push q) kvs.length)):=by rw [hex,Sem.run_bind,h2];rfl
    rw [hrun,Oper.upon_value]
    have hW1:BE w0 w1 L:=by
      rcases hw1 with rfl|rfl
      · exact hW
      · exact hW.drew
    have ho3:w1.heap[r]?=some (.mapIter (some b) kvs.length seen.toArray kvs.length):=by rcases hw1 with rfl|rfl<;>exact ho2
    exact step q k v hq hns _ _ (ha.put (B1 hd)) (hW1.turn hj O O (FE _ _ _) ⟨_,F1 ho3,by show Obj.mapIter _ _ _ _=Obj.mapIter _ _ _ _;simp⟩)
theorem Vw (i j:Nat) {kvs:List (α×β)} {seen:List Nat} {r q:Nat} {ip:Operand} {k:α} {v:β} (hx:evF F ip=some (.pointer (jk r))) (hi:L[i]?=some (Dw b enc eV kvs)) (hj:L[j]?=some (dm r b kvs.length (seen++[q]))) (hq:kvs[q]?=some (k,v)) :
    Ex P n F w0 L ⟨d,.entry ip,t,pp,af,g⟩ (.tuple #[enc k,eV v]):=λA w ha hW=>by
  obtain ⟨_,o,ho,hp⟩:=hW.2.1 _ (List.mem_of_getElem? hi) b rfl
  have ho:w.heap[b]?=some (.map (entsM enc eV kvs 0).toArray kvs.length):=by rw [ho,hp]
  obtain ⟨_,o2,ho2,hp2⟩:=hW.2.1 _ (List.mem_of_getElem? hj) r rfl
  have ho2:w.heap[r]?=some (.mapIter (some b) kvs.length (seen.toArray.push q) kvs.length):=by rw [ho2,hp2];simp
  have he:(⟨enc k,eV v,q⟩:MapEntry)∈(entsM enc eV kvs 0).toArray.toList:=by
    have h1:(entsM enc eV kvs 0)[q]?=some ⟨enc k,eV v,q⟩:=by rw [DI,hq,Option.map_some,Nat.zero_add]
    exact List.mem_of_getElem? h1
  have hnd:((entsM enc eV kvs 0).toArray.toList.map (·.born)).Nodup:=by
    have e1:∀(l:List (α×β)) (s:Nat),(entsM enc eV l s).map (·.born)=List.range' s l.length:=by
      intro l
      induction l with
      | nil=>intro s;rfl
      | cons p r ih=>intro s;rw [entsM,List.map_cons,ih,List.length_cons,List.range'_succ]
    show ((entsM enc eV kvs 0).map (·.born)).Nodup
    rw [e1];exact List.nodup_range'
  have h:=run_entry_at (P:=P) w r b kvs.length seen.toArray (entsM enc eV kvs 0).toArray kvs.length ⟨enc k,eV v,q⟩ ho2 ho he hnd
  simp only [execOp,ha.ev hx]
  rw [Sem.run_bind,h]
  rfl
variable [DecidableEq α]
def Bb:List (α×β)->α->Option β
  | [],_=>none
  | (k,v)::r,x=>if x=k then some v else Bb r x
def Br:List (α×β)->α->β->List (α×β)
  | [],x,y=>[(x,y)]
  | (k,v)::r,x,y=>if x=k then (k,y)::r else (k,v)::Br r x y
theorem M0:∀{kvs:List (α×β)} {x:α},(∀p∈kvs,p.1≠x)->Bb kvs x=none
  | [],_,_=>rfl
  | (k,v)::r,x,h=>by
    rw [Bb,if_neg (λe=>h (k,v) List.mem_cons_self e.symm)]
    exact M0 λp hp=>h p (List.mem_cons_of_mem _ hp)
theorem KQ:∀{kvs:List (α×β)} {j:Nat} {x:α} {v:β},kvs.Pairwise (λp q=>p.1≠q.1)->kvs[j]?=some (x,v)->Bb kvs x=some v
  | (k,u)::r,0,x,v,_,h=>by
    simp only [List.getElem?_cons_zero,Option.some.injEq,Prod.mk.injEq] at h
    rw [Bb,if_pos h.1.symm,h.2]
  | (k,u)::r,j+1,x,v,hp,h=>by
    obtain ⟨h1,h2⟩:=List.pairwise_cons.1 hp
    rw [List.getElem?_cons_succ] at h
    rw [Bb,if_neg (λe=>h1 (x,v) (List.mem_of_getElem? h) e.symm)]
    exact KQ h2 h
theorem JU:∀{kvs:List (α×β)} {x:α} {y:β},(∀p∈kvs,p.1≠x)->Br kvs x y=kvs++[(x,y)]
  | [],_,_,_=>rfl
  | (k,v)::r,x,y,h=>by
    rw [Br,if_neg (λe=>h (k,v) List.mem_cons_self e.symm),JU λp hp=>h p (List.mem_cons_of_mem _ hp)];rfl
theorem Si:∀{kvs:List (α×β)} {j:Nat} {x:α} {u y:β},kvs.Pairwise (λp q=>p.1≠q.1)->kvs[j]?=some (x,u)->Br kvs x y=kvs.set j (x,y)
  | (k,v)::r,0,x,u,y,_,h=>by
    simp only [List.getElem?_cons_zero,Option.some.injEq,Prod.mk.injEq] at h
    rw [Br,if_pos h.1.symm,h.1];rfl
  | (k,v)::r,j+1,x,u,y,hp,h=>by
    obtain ⟨h1,h2⟩:=List.pairwise_cons.1 hp
    rw [List.getElem?_cons_succ] at h
    rw [Br,if_neg (λe=>h1 (x,u) (List.mem_of_getElem? h) e.symm),Si h2 h];rfl
theorem Lf {x:α} {y:β}:∀{kvs:List (α×β)} {p:α×β},p∈Br kvs x y->p.1=x\/p∈kvs
  | [],p,h=>by rcases xz.1 h with rfl;exact .inl rfl
  | (k,v)::r,p,h=>by
    unfold Br at h
    split at h
    · rename_i e
      rcases xy.1 h with rfl|h
      · exact .inl e.symm
      · exact .inr (List.mem_cons_of_mem _ h)
    · rcases xy.1 h with rfl|h
      · exact .inr List.mem_cons_self
      · rcases Lf h with h|h
        · exact .inl h
        · exact .inr (List.mem_cons_of_mem _ h)
theorem ND {x:α} {y:β}:∀{kvs:List (α×β)},kvs.Pairwise (λp q=>p.1≠q.1)->(Br kvs x y).Pairwise (λp q=>p.1≠q.1)
  | [],_=>List.pairwise_singleton _ _
  | (k,v)::r,h=>by
    obtain ⟨h1,h2⟩:=List.pairwise_cons.1 h
    unfold Br
    split
    · exact List.pairwise_cons.2 ⟨λq hq=>h1 q hq,h2⟩
    · rename_i hne
      refine List.pairwise_cons.2 ⟨λq hq=>?_,ND h2⟩
      rcases Lf hq with e|hq
      · rw [e];exact λe2=>hne e2.symm
      · exact h1 q hq
theorem Nb.put {kvs:List (α×β)} (h:Nb ok kvs) {x:α} {y:β} (hx:ok x):Nb ok (Br kvs x y):=⟨λp hp=>by
  rcases Lf hp with e|hp
  · rw [e];exact hx
  · exact h.ok p hp,ND h.once⟩
theorem Ho (K:QI P kt enc ok) {kvs:List (α×β)} (hm:Nb ok kvs) {x:α} (hx:ok x) (w:World) :
    (Bb kvs x=none/\(∀p∈kvs,p.1≠x)/\(Instr.findKey kt (enc x) (entsM enc eV kvs 0)).run P w=.ok none w) \/
    ∃j v,kvs[j]?=some (x,v)/\Bb kvs x=some v/\(Instr.findKey kt (enc x) (entsM enc eV kvs 0)).run P w=.ok (some (j,eV v)) w:=by
  obtain ⟨lx,hlx⟩:=K.key x hx
  rcases K.law.find w hlx (entsM enc eV kvs 0) (λe he=>by
    obtain ⟨j,p,hj,rfl⟩:=JC he
    exact K.key p.1 (hm.ok p (List.mem_of_getElem? hj))) with ⟨h1,h2⟩|⟨j,e,h1,h2,h3⟩
  · have hne:∀p∈kvs,p.1≠x:=λp hp e=>by
      obtain ⟨j,hj,hp⟩:=List.getElem_of_mem hp
      have h4:(entsM enc eV kvs 0)[j]?=some ⟨enc p.1,eV p.2,0+j⟩:=by rw [DI,xN hj,hp];rfl
      exact h2 _ (List.mem_of_getElem? h4) (by rw [e])
    exact .inl ⟨M0 hne,hne,h1⟩
  · rw [DI,Option.map_eq_some_iff] at h2
    obtain ⟨⟨k,v⟩,hj,rfl⟩:=h2
    have hk:k=x:=K.inj _ _ h3
    subst hk
    exact .inr ⟨j,v,hj,KQ hm.once hj,h1⟩
theorem Hb (K:QI P kt enc ok) (i:Nat) {kvs:List (α×β)} {x:α} {z0:β} {co:Bool} (hx:evF F mp=some (.map (some b))) (hk:evF F kp=some (enc x)) (ht:P.underlying tx=some (.map kt et)) (hz:∀w,(zeroValue et).run P w=.ok (eV z0) w) (hi:L[i]?=some (Dw b enc eV kvs)) (hm:Nb ok kvs) (hok:ok x) :
    Ex P n F w0 L ⟨d,.lookup tx mp kp co,t,pp,af,g⟩ (if co then .tuple #[eV ((Bb kvs x).getD z0),.bool (Bb kvs x).isSome] else eV ((Bb kvs x).getD z0)):=λA w ha hw=>by
  obtain ⟨_,o,ho,hp⟩:=hw.2.1 _ (List.mem_of_getElem? hi) b rfl
  have ho:w.heap[b]?=some (.map (entsM enc eV kvs 0).toArray kvs.length):=by rw [ho,hp]
  obtain ⟨lx,hlx⟩:=K.key x hok
  have hc:=λem=>K.law.check w em hlx
  rcases Ho (eV:=eV) K hm hok w with ⟨h1,_,h2⟩|⟨j,v,_,h1,h2⟩
  · simp only [execOp,ha.ev hx,ha.ev hk,Instr.lookup,Sem.run_bind,run_underlying ht,Ch ho,Result.andThen_ok,Sem.run_pure,hc,List.toList_toArray,h2,hz,h1,Option.getD_none,Option.isSome_none]
  · simp only [execOp,ha.ev hx,ha.ev hk,Instr.lookup,Sem.run_bind,run_underlying ht,Ch ho,Result.andThen_ok,Sem.run_pure,hc,List.toList_toArray,h2,h1,Option.getD_some,Option.isSome_some]
theorem yu (K:QI P kt enc ok) (i:Nat) {kvs:List (α×β)} {x:α} {y:β} (hw:Wt ops n F ⟨none,.mapUpdate tx mp kp vp,t,pp,af,g⟩) (hx:evF F mp=some (.map (some b))) (hk:evF F kp=some (enc x)) (hv:evF F vp=some (eV y)) (ht:P.underlying tx=some (.map kt et)) (hi:L[i]?=some (Dw b enc eV kvs)) (hm:Nb ok kvs) (hok:ok x)
    (next:AQ P ops rest Q n F w0 (L.set i (Dw b enc eV (Br kvs x y)))):AQ P ops (⟨none,.mapUpdate tx mp kp vp,t,pp,af,g⟩::rest) Q n F w0 L:=λa w ha hW=>by
  obtain ⟨_,o,ho,hp⟩:=hW.2.1 _ (List.mem_of_getElem? hi) b rfl
  have ho:w.heap[b]?=some (.map (entsM enc eV kvs 0).toArray kvs.length):=by rw [ho,hp]
  obtain ⟨lx,hlx⟩:=K.key x hok
  have hc:=λem=>K.law.check w em hlx
  have hst:=K.law.stays w hlx
  have hrun:(execOp a.eval ⟨none,.mapUpdate tx mp kp vp,t,pp,af,g⟩).run P w=.ok .skip (Go.ChangeMaps.setBlock w b (.map (entsM enc eV (Br kvs x y) 0).toArray (Br kvs x y).length)):=by
    rcases Ho (eV:=eV) K hm hok w with ⟨_,h1,h2⟩|⟨j,v,hj,_,h2⟩
    · rw [JU h1,Gb,xw]
      simp only [execOp,ha.ev hx,ha.ev hk,ha.ev hv,Instr.mapUpdate,Sem.run_bind,run_underlying ht,Ch ho,Result.andThen_ok,hc,List.toList_toArray,h2,Eg ho,Sem.run_pure,List.push_toArray,Nat.zero_add,List.length_singleton]
    · rw [Si hm.once hj,<-G2 hj,List.length_set]
      have e1:(((entsM enc eV kvs 0).toArray[j]?).map (·.key)).getD (enc x)=enc x:=by
        rw [List.getElem?_toArray,DI,hj];rfl
      simp only [execOp,ha.ev hx,ha.ev hk,ha.ev hv,Instr.mapUpdate,Sem.run_bind,run_underlying ht,Ch ho,Result.andThen_ok,hc,List.toList_toArray,h2,e1,hst,Eg ho,Sem.run_pure]
  unfold wpList
  rw [if_pos (hw a ha)]
  left
  unfold Oper.wp
  rw [hrun,Oper.upon_skip]
  exact next _ _ ha.put_none (hW.turn hi O O (FE _ _ _) ⟨_,F1 ho,rfl⟩)
end
end
section
structure E4 where
  a:Nat
  b:Nat
  l:Int
  r:Int
deriving DecidableEq
def Ba (e:E4):List Value:=[vN e.a,vN e.b,.int .i64 e.l,.int .i64 e.r]
theorem B6 (e:E4):(Ba e).length=4:=rfl
def Oo (x y:E4):Int:=Wy (Eb x.a y.a) (Eb x.b y.b)
abbrev J0 (k:P2):Value:=aG (In k)
abbrev OO (e:E4):Value:=aG (Ba e)
def YE (k:P2):Prop:=k.1<4611686018427387904/\k.2<4611686018427387904
theorem aO:laidOutB prog=true:=by kernel_rfl
theorem Jn {P:Program} {t:TypeId} (h:P.underlying t=some (.int .i64)) (d:Nat) {z:Int} (hz:(Lit.int .i64 z).wf=true):P.keyLits (d+1) t [.int .i64 z]=some [.int .i64 z]:=by
  unfold Program.keyLits
  rw [h]
  exact if_pos ⟨rfl,hz⟩
theorem M8 {P : Program} {k e : TypeId} {f0 f1 : Field} (hu : P.underlying k = some (.struct #[f0, f1])) (h0 : f0.type = e ∧ f0.offset = 0) (h1 : f1.type = e ∧ f1.offset = 1) (hn : (#[f0, f1].all (·.name != "_")) = true) (he : P.underlying e = some (.int .i64)) (ce : P.cellsOf e = 1) (ck : P.cellsOf k = 2) (hk : P.keyType k = true) (hz : 0 < P.types.size)
    {a b:Int} (wa:(Lit.int .i64 a).wf=true) (wb:(Lit.int .i64 b).wf=true):∃l,keyOf P k (.agg #[.int .i64 a,.int .i64 b])=some l:=by
  obtain ⟨d,hd⟩:∃d,P.types.size=d+1:=⟨P.types.size-1,Z⟩
  have hf:(Value.agg #[.int .i64 a,.int .i64 b]).formed P k=true:=by
    unfold Value.formed
    simp only [hu,ck]
    rfl
  have hl:P.keyLits (P.types.size+1) k (Value.agg #[.int .i64 a,.int .i64 b]).cells.toList=some [.int .i64 a,.int .i64 b]:=by
    rw [hd]
    unfold Program.keyLits
    simp only [hu]
    show (if ([Value.int .i64 a, Value.int .i64 b] : List Value).length = P.cellsOf k ∧ (#[f0, f1].all (·.name != "_")) = true then _ else _) = _
    rw [if_pos ⟨by rw [ck];rfl,hn⟩]
    have e0:P.keyLits (d+1) f0.type ((([Value.int .i64 a,Value.int .i64 b]:List Value).drop f0.offset).take (P.cellsOf f0.type))=some [.int .i64 a]:=by
      rw [h0.1,h0.2,ce];exact Jn he d wa
    have e1:P.keyLits (d+1) f1.type ((([Value.int .i64 a,Value.int .i64 b]:List Value).drop f1.offset).take (P.cellsOf f1.type))=some [.int .i64 b]:=by
      rw [h1.1,h1.2,ce];exact Jn he d wb
    show (List.mapM (λf=>P.keyLits (d+1) f.type ((([Value.int .i64 a,Value.int .i64 b]:List Value).drop f.offset).take (P.cellsOf f.type))) [f0,f1]).map List.flatten=_
    simp only [List.mapM_cons,List.mapM_nil,e0,e1]
    rfl
  refine ⟨.string (keyBytes [.int .i64 a,.int .i64 b]),?_⟩
  unfold keyOf
  simp only [hu,hk,hf,Bool.and_self,if_true,hl]
  rfl
theorem OQ {a:Nat} (h:a<4611686018427387904):(Lit.int .i64 ((a:Nat):Int)).wf=true:=by
  show (decide (IntKind.i64.min<=((a:Nat):Int))&&decide (((a:Nat):Int)<=IntKind.i64.max))=true
  rw [xZ,xT,xT]
  simp only [IntKind.min,IntKind.max,IntKind.bits,IntKind.signed]
  simp
  omega
theorem Pg {a b:P2} (h:J0 a=J0 b):a=b:=by
  have h1:(In a).toArray=(In b).toArray:=by injection h
  have h2:In a=In b:=by simpa using h1
  simp only [In,List.cons.injEq,Value.int.injEq,true_and,and_true] at h2
  exact Prod.ext Z Z
def FH (t:Tq3) (r:Nat):Nat:=if r=0 then t.1 else if r=1 then t.2.1 else t.2.2
def GA (e:E4) (t a b:Nat):E4:=if a<b/\e.l = -1 then { e with l:=t } else if b<a/\e.r = -1 then { e with r:=t } else e
def JO (k:P2):E4:=⟨k.1,k.2,-1,-1⟩
def D8 (a b:Nat):P2:=(min a b,max a b)
def UR (kvs:List (P2×E4)) (t a b:Nat):List (P2×E4):=Br kvs (D8 a b) (GA ((Bb kvs (D8 a b)).getD (JO (D8 a b))) t a b)
def C0 (ts:List (Tq3)):Nat->List (P2×E4)
  | 0=>[]
  | s+1=>UR (C0 ts s) (s/3) (FH (ts.getD (s/3) (0,0,0)) (s%3)) (FH (ts.getD (s/3) (0,0,0)) ((s%3+1)%3))
section
variable {ts:List (Tq3)} {t i N:Nat}
theorem Ky (hi:i<3):C0 ts (3*t+i+1)=UR (C0 ts (3*t+i)) t (FH (ts.getD t (0,0,0)) i) (FH (ts.getD t (0,0,0)) ((i+1)%3)):=by
  rw [C0,show (3*t+i)/3=t by omega,show (3*t+i)%3=i by omega]
theorem Kq {t:Tq3} (h:MV N t=true) (r:Nat):FH t r<N:=by
  obtain ⟨h1,h2,h3⟩:=DZ h
  unfold FH
  split
  · exact h1
  · split<;>assumption
theorem EQ {a b:Nat} (ha:a<4611686018427387904) (hb:b<4611686018427387904):YE (D8 a b):=by
  unfold YE D8
  simp only
  omega
theorem F6 (hn:Bn N ts=true) (hN:N<=4611686018427387904):∀s,s<=3*ts.length->Nb YE (C0 ts s)
  | 0,_=>Nb.nil
  | s+1,hs=>by
    have ht:=Cs hn (show s/3<ts.length by omega)
    exact (F6 hn hN s Z).put (EQ (Nat.lt_of_lt_of_le (Kq ht _) hN) (Nat.lt_of_lt_of_le (Kq ht _) hN))
theorem W7 {kvs:List (P2×E4)} {x:P2} {y:E4}:(Br kvs x y).length<=kvs.length+1:=by
  induction kvs with
  | nil=>simp [Br]
  | cons p r ih =>
    obtain ⟨k,v⟩:=p
    unfold Br
    split
    · simp
    · simp only [List.length_cons];omega
theorem KK:∀s,(C0 ts s).length<=s
  | 0=>Nat.le_refl _
  | s+1=>by
    have h:=KK s
    have h2:=@W7 (C0 ts s) (D8 (FH (ts.getD (s/3) (0,0,0)) (s%3)) (FH (ts.getD (s/3) (0,0,0)) ((s%3+1)%3))) (GA ((Bb (C0 ts s) (D8 (FH (ts.getD (s/3) (0,0,0)) (s%3)) (FH (ts.getD (s/3) (0,0,0)) ((s%3+1)%3)))).getD (JO (D8 (FH (ts.getD (s/3) (0,0,0)) (s%3)) (FH (ts.getD (s/3) (0,0,0)) ((s%3+1)%3))))) (s/3) (FH (ts.getD (s/3) (0,0,0)) (s%3)) (FH (ts.getD (s/3) (0,0,0)) ((s%3+1)%3)))
    show (UR _ _ _ _).length<=_
    unfold UR
    omega
end
section
variable {α β:Type} {enc:α->Value} {eV:β->Value} {P:Program} {n d:Nat} {F:List (Nat×Value)} {w0:BA} {L:List As} {dd:Option Tmp} {x y:Operand} {t:TypeId} {p:String} {af:Array Edge} {g:Option (Nat×Bool)} {tx kt et:TypeId} {b:Nat} {ops:Array Oper} {rest:List Oper} {Q:Exit->Act->World->Prop}
theorem Qm (i:Nat) {kvs:List (α×β)} (hx:evF F x=some (.map (some b))) (ht:P.underlying tx=some (.map kt et)) (hi:L[i]?=some (Dw b enc eV kvs)) :
    Ex P n F w0 L ⟨dd,.call { callee:=.builtin .len,args:=#[x],argTypes:=#[tx] },t,p,af,g⟩ (vN kvs.length):=λA w ha hw=>by
  obtain ⟨_,o,ho,hp⟩:=hw.2.1 _ (List.mem_of_getElem? hi) b rfl
  have ho:w.heap[b]?=some (.map (entsM enc eV kvs 0).toArray kvs.length):=by rw [ho,hp]
  simp [execOp,resolve,invoke,builtin,ha.ev hx,Builtin.len_,run_underlying ht,Ch ho,Mu,goInt]
variable {T:TypeId} {z c bytes:Nat}
theorem AQ.make0 {ki kj:IntKind} (ht:ElemT P t T z bytes) (hx:evF F x=some (.int ki ((0:Nat):Int))) (hy:evF F y=some (.int kj (c:Nat))) (hc:c<=1099511627776) (hb:Nat.ble bytes 128=true) (hd:Nat.ble (d+1) n=true)
    (next:∀b,OwnOk (jk b) 0 c->AQ P ops rest Q n ((d,.slice (jk b) 0 c)::F) w0 (rowW (jk b) T z 0 c []::L)) :
    AQ P ops (⟨some d,.makeSlice t x y,tx,p,af,none⟩::rest) Q n F w0 L:=λa w ha hW=>by
  obtain ⟨inf,zv,hi,hz,hs,hby,hzc⟩:=ht.i
  have hble:=Nat.le_of_ble_eq_true hb
  have h1:=run_make (P:=P) w t T inf zv ht.u hi hz ki kj ((0:Nat):Int) (c:Nat) Z Z (by
    rw [hby]
    have:bytes*c<=128*c:=Nat.mul_le_mul_right c hble
    have e:((bytes:Nat):Int)*((c:Nat):Int)=((bytes*c:Nat):Int):=by rw [Int.natCast_mul]
    rw [e];omega) Z
  unfold wpList
  rw [if_pos (AM rfl a ha)]
  left
  unfold Oper.wp
  have he:(execOp a.eval ⟨some d,.makeSlice t x y,tx,p,af,none⟩).run P w=.ok (.value (.slice (some ⟨w.heap.size,0,none⟩) 0 c)) (w.alloc (.cells (madeCells zv.cells (c*inf.size)) T)):=by
    simp only [execOp,ha.ev hx,ha.ev hy,Sem.run_bind,h1,Result.andThen_ok,Sem.run_pure,Int.toNat_natCast]
  rw [he,Oper.upon_value]
  refine next _ (JR (xu _) (KU hc)) _ _ (ha.put (B1 hd)) (hW.alloc _ O ⟨_,rfl,?_,by simp⟩)
  rw [<-hs]
  exact size_madeCells _ _
end
abbrev jA:E4:=⟨0,0,0,0⟩
end
section
set_option maxRecDepth 100000
theorem YY (x y:E4) (w:World)  :Calls prog 168 #[(aG (Ba x)),(aG (Ba y))] w (AX w (vI (Oo x y))):=by
 refine AS (args:=[(aG (Ba x)),(aG (Ba y))]) func168 O O (leB O) (zM (sL [0,1] O) (q4 (BG (cs:=Ba x) O λb1=>BG (cs:=Ba y) O λb2=>asg' O (q6 (sL [2,3,4] O) (CE (Dm 4++[(5,true),(6,true),(7,true),(8,true),(4,false),(9,false),(10,false),(11,false),(12,true)]) sr (Ag (v:=(pP b1 0)) O (AA O underlying49 O sizeOf3 O) (BC 1 (vN x.a) BN O (Ag (v:=(pP b2 0)) O (AA O underlying49 O sizeOf3 O) (BC 0 (vN y.a) BN O ?_)))))))))
 refine Ag (v:=(pP b1 1)) O (AA O underlying49 O sizeOf3 O) (BC 1 (vN x.b) BN O (Ag (v:=(pP b2 1)) O (AA O underlying49 O sizeOf3 O) (BC 0 (vN y.b) BN O (zL O (ck' call170 (R9 x.a y.a) O (zG sr (zL O (ck' call170 (R9 x.b y.b) O (zG sr (zL O (zn (V:=λb3=>(qz (jk b3) 2 2)) (T:=3) (cs:=[(vI (Eb x.a y.a)),(vI (Eb x.b y.b))]) (AM O) (BH (cs:=[(vI (Eb x.a y.a)),(vI (Eb x.b y.b))]) (pv:=[(0,(vI (Eb x.a y.a))),(1,(vI (Eb x.b y.b)))]) underlying32 sizeOf3 zeroValue3 jY jY O jV) O (leB O) λb3=>?_)))))))))))
 exact zG (sl sr) (zL O (yo (v:=(vI (Wy (Eb x.a y.a) (Eb x.b y.b)))) (i:=0) (cs':=[(vI (Eb x.a y.a)),(vI (Eb x.b y.b))]) (L':=[AU b3 3 ([(vI (Eb x.a y.a)),(vI (Eb x.b y.b))]),AU b2 49 (Ba y),AU b1 49 (Ba x)]) (AM O) (Ak (args:=[(qz (jk b3) 2 2)]) O O call169) O (λw hw=>Vd (Eb x.a y.a) (Eb x.b y.b) _ w (hw.get (i:=0) O)) (λd hd=>by cases hd<;>exact (leB O)) O (zG (sl sr) (pS' O (zT (zF (sL [4] O) (zC (zH (ret_one O (rd_tmp (v:=(vI (Wy (Eb x.a y.a) (Eb x.b y.b)))) O) (λw hw=>⟨rfl,hw.out⟩))))))))))
end
end Go.Proofs.YtpolhpjiahbidaaGreatDoor
