import Derived.WideKeyEntry
import Derived.Lib.ItoaNum
import Derived.Laws.Runes
import Derived.Test.YtbfdamnfcmefmaaGreatDoorPend26
namespace Go.Proofs.YtbfdamnfcmefmaaGreatDoor
open Go Go.RowKit Go.Proofs.Tryz
open Go.Value renaming slice→qz,bool→qa
set_option linter.unusedVariables false
set_option linter.unusedSimpArgs false
section
theorem aT {a b:Nat} (ha:a<4611686018427387904) (hb:b<4611686018427387904):Yj (a,b):=⟨ha,hb⟩
def C_ {α β:Type} [DecidableEq α]:List (α×β)->α->Nat
  | [],_=>0
  | (k,v)::r,x=>if x=k then 0 else C_ r x+1
section
variable {α β:Type} {enc:α->Value} {eV:β->Value} {ok:α->Prop} {P:Program} {kt:TypeId} {n:Nat} {F:List (Nat×Value)} {w0:BD} {L:List As} {d:Nat} {mp kp vp sp:Operand} {t:TypeId} {pp:String} {af:Array Edge} {g:Option (Nat×Bool)} {tx et:TypeId} {b:Nat} {ops:Array Oper} {rest:List Oper} {Q:Exit->Act->World->Prop}
def Qa {α β:Type} [DecidableEq α] (b:Nat) (enc:α->Value) (eV:β->Value) (kvs:List (α×β)) (x:α) (v:β):As:=⟨some b,λo=>o=.map (entsM enc eV kvs 0).toArray kvs.length\/o=.map (entsM enc eV (Bj kvs x v) 0).toArray (Bj kvs x v).length,false⟩
variable [DecidableEq α]
theorem NF:∀{kvs:List (α×β)} {x:α} {v:β},BR kvs x=some v->Bj kvs x v=kvs
  | (k,u)::r,x,v,h=>by
    unfold BR at h
    unfold Bj
    split at h
    · rename_i e;injection h with h;rw [if_pos e,h]
    · rename_i e;rw [if_neg e,NF h]
theorem Ij:∀{kvs:List (α×β)} {x:α} {v:β},(Bj kvs x v)[C_ kvs x]?=some (x,v)
  | [],_,_=>rfl
  | (k,u)::r,x,v=>by
    unfold Bj C_
    split
    · rename_i e;rw [List.getElem?_cons_zero,e]
    · rw [List.getElem?_cons_succ,Ij]
theorem PT {x:α} {u v:β}:∀{kvs:List (α×β)},(Bj kvs x u).set (C_ kvs x) (x,v)=Bj kvs x v
  | []=>rfl
  | (k,w)::r=>by
    by_cases e:x=k
    · simp [Bj,C_,e]
    · simp [Bj,C_,e,PT]
theorem O7:∀{kvs:List (α×β)} {j:Nat} {x:α} {v:β},kvs.Pairwise (λp q=>p.1≠q.1)->kvs[j]?=some (x,v)->C_ kvs x=j
  | (k,u)::r,0,x,v,_,h=>by
    simp only [List.getElem?_cons_zero,Option.some.injEq,Prod.mk.injEq] at h
    rw [C_,if_pos h.1.symm]
  | (k,u)::r,j+1,x,v,hp,h=>by
    obtain ⟨h1,h2⟩:=List.pairwise_cons.1 hp
    rw [List.getElem?_cons_succ] at h
    rw [C_,if_neg (λe=>h1 (x,v) (List.mem_of_getElem? h) e.symm),O7 h2 h]
theorem K8:∀{kvs:List (α×β)} {x:α},(∀p∈kvs,p.1≠x)->C_ kvs x=kvs.length
  | [],_,_=>rfl
  | (k,v)::r,x,h=>by
    rw [C_,if_neg (λe=>h (k,v) List.mem_cons_self e.symm),K8 λp hp=>h p (List.mem_cons_of_mem _ hp)];rfl
theorem ZF {i:Nat} {kvs:List (α×β)} (x:α) (v:β) (hi:L[i]?=some (Dk b enc eV kvs)):Wk (L.set i (Qa b enc eV kvs x v)) L:=λw0 w hw=>by
  exact hw.freeze (i:=i) (y:=Qa b enc eV kvs x v) hi O (λo h=>.inl h) (λe=>by cases e)
theorem W5 {i:Nat} {kvs:List (α×β)} (x:α) (v:β) (hi:L[i]?=some (Dk b enc eV (Bj kvs x v))):Wk (L.set i (Qa b enc eV kvs x v)) L:=λw0 w hw=>by
  exact hw.freeze (i:=i) (y:=Qa b enc eV kvs x v) hi O (λo h=>.inr h) (λe=>by cases e)
theorem eU (i:Nat) {kvs:List (α×β)} {x:α} {v:β} {LA:List As} (hi:L[i]?=some (Dk b enc eV kvs)) (hs:Pa L i (Qa b enc eV kvs x v)=some LA):Wk LA L:=Ha hs▸ZF x v hi
theorem bJ (i:Nat) {kvs:List (α×β)} {x:α} {v:β} {LA:List As} (hi:L[i]?=some (Dk b enc eV (Bj kvs x v))) (hs:Pa L i (Qa b enc eV kvs x v)=some LA):Wk LA L:=Ha hs▸W5 x v hi
theorem Hv (K:Pw P kt enc ok) (i:Nat) {kvs:List (α×β)} {x:α} {z0 v:β} {dd:Option Tmp} (hx:evF F mp=some (.map (some b))) (hk:evF F kp=some (enc x)) (ht:P.underlying tx=some (.map kt et)) (hz:∀w,(zeroValue et).run P w=.ok (eV z0) w) (hi:L[i]?=some (Qa b enc eV kvs x v)) (hm:OZ ok kvs) (hok:ok x) (hv:v=(BR kvs x).getD z0) :
    Ex P n F w0 L ⟨dd,.lookup tx mp kp false,t,pp,af,g⟩ (eV v):=λA w ha hw=>by
  obtain ⟨_,o,ho,hp⟩:=hw.2.1 _ (List.mem_of_getElem? hi) b rfl
  obtain ⟨lx,hlx⟩:=K.key x hok
  have hc:=λem=>K.law.check w em hlx
  have key:∀kvs':List (α×β),OZ ok kvs'->(BR kvs' x).getD z0=v->w.heap[b]?=some (.map (entsM enc eV kvs' 0).toArray kvs'.length)->(execOp A.eval ⟨dd,.lookup tx mp kp false,t,pp,af,g⟩).run P w=.ok (.value (eV v)) w:=λkvs' hm' hg ho=>by
    rcases HZ (eV:=eV) K hm' hok w with ⟨h1,_,h2⟩|⟨j,u,_,h1,h2⟩
    · rw [h1] at hg
      simp only [execOp,ha.ev hx,ha.ev hk,Instr.lookup,Sem.run_bind,run_underlying ht,CS ho,Result.andThen_ok,Sem.run_pure,hc,List.toList_toArray,h2,hz]
      rw [<-hg];rfl
    · rw [h1] at hg
      simp only [execOp,ha.ev hx,ha.ev hk,Instr.lookup,Sem.run_bind,run_underlying ht,CS ho,Result.andThen_ok,Sem.run_pure,hc,List.toList_toArray,h2]
      rw [<-hg];rfl
  rcases hp with hp|hp
  · exact key kvs hm hv.symm (by rw [ho,hp])
  · exact key (Bj kvs x v) (hm.put hok) (by rw [IX,if_pos O];rfl) (by rw [ho,hp])
theorem yg (K:Pw P kt enc ok) (i:Nat) {kvs:List (α×β)} {x:α} {z0 v:β} (hx:evF F mp=some (.map (some b))) (hk:evF F kp=some (enc x)) (ht:P.underlying tx=some (.map kt et)) (hz:∀w,(zeroValue et).run P w=.ok (eV z0) w) (hi:L[i]?=some (Dk b enc eV kvs)) (hm:OZ ok kvs) (hok:ok x) (hv:v=(BR kvs x).getD z0) (hd:Nat.ble (d+1) n=true)
    (next:AR P ops rest Q n ((d,.tuple #[eV v,vN (C_ kvs x)])::F) w0 (L.set i (Dk b enc eV (Bj kvs x v)))):AR P ops (⟨some d,.mapEntry tx mp kp,t,pp,af,none⟩::rest) Q n F w0 L:=λa w ha hW=>by
  obtain ⟨_,o,ho,hp⟩:=hW.2.1 _ (List.mem_of_getElem? hi) b rfl
  have ho:w.heap[b]?=some (.map (entsM enc eV kvs 0).toArray kvs.length):=by rw [ho,hp]
  obtain ⟨lx,hlx⟩:=K.key x hok
  have hc:=λem=>K.law.check w em hlx
  have hst:=K.law.stays w hlx
  have hrun:(execOp a.eval ⟨some d,.mapEntry tx mp kp,t,pp,af,none⟩).run P w=.ok (.value (.tuple #[eV v,vN (C_ kvs x)])) (Go.ChangeMaps.setBlock w b (.map (entsM enc eV (Bj kvs x v) 0).toArray (Bj kvs x v).length)):=by
    rcases HZ (eV:=eV) K hm hok w with ⟨h0,h1,h2⟩|⟨j,u,hj,h1,h2⟩
    · rw [h0] at hv
      simp only [Option.getD_none] at hv
      subst hv
      rw [JG h1,K8 h1,GG,xL]
      simp only [execOp,ha.ev hx,ha.ev hk,Instr.mapEntry,Sem.run_bind,run_underlying ht,CS ho,Result.andThen_ok,hc,List.toList_toArray,h2,hz,EK ho,Sem.run_pure,List.push_toArray,Nat.zero_add,List.length_singleton]
      rfl
    · rw [h1] at hv
      simp only [Option.getD_some] at hv
      subst hv
      rw [NF h1,O7 hm.once hj]
      have e1:(entsM enc eV kvs 0)[j]?=some ⟨enc x,eV v,0+j⟩:=by rw [C6,hj];rfl
      have e2:=Gl (enc:=enc) (eV:=eV) (y:=v) hj
      have e3:kvs.set j (x,v)=kvs:=by
        apply List.ext_getElem?
        intro q
        rw [List.getElem?_set]
        split
        · rename_i e;subst e;split
          · exact hj.symm
          · rename_i h9;rw [List.getElem?_eq_none Z]
        · rfl
      rw [e3] at e2
      have e4:(entsM enc eV kvs 0).toArray.modify j (λe=>{ e with key:=enc x })=(entsM enc eV kvs 0).toArray:=by
        apply Array.ext_getElem?
        intro q
        rw [Array.getElem?_modify]
        simp only [List.getElem?_toArray]
        split
        · rename_i e;subst e;rw [e1];rfl
        · rfl
      simp only [execOp,ha.ev hx,ha.ev hk,Instr.mapEntry,Sem.run_bind,run_underlying ht,CS ho,Result.andThen_ok,hc,List.toList_toArray,List.getElem?_toArray,h2,e1,hst,e4,EK ho,Sem.run_pure,Option.map_some,Option.getD_some]
      simp [goInt,e1,hst,e4,EK ho,Result.andThen]
  unfold wpList
  rw [if_pos (AI rfl a ha)]
  left
  unfold Oper.wp
  rw [hrun,Oper.upon_value]
  exact next _ _ (ha.put (B_ hd)) (hW.turn hi O O (Et _ _ _) ⟨_,Fg ho,rfl⟩)
theorem yU (i:Nat) {kvs:List (α×β)} {x:α} {u y:β} (hx:evF F mp=some (.map (some b))) (hs:evF F sp=some (vN (C_ kvs x))) (hv:evF F vp=some (eV y)) (hi:L[i]?=some (Dk b enc eV (Bj kvs x u)))
    (next:AR P ops rest Q n F w0 (L.set i (Dk b enc eV (Bj kvs x y)))):AR P ops (⟨none,.entryStore tx mp sp vp,t,pp,af,none⟩::rest) Q n F w0 L:=λa w ha hW=>by
  obtain ⟨_,o,ho,hp⟩:=hW.2.1 _ (List.mem_of_getElem? hi) b rfl
  have ho:w.heap[b]?=some (.map (entsM enc eV (Bj kvs x u) 0).toArray (Bj kvs x u).length):=by rw [ho,hp]
  have hf:=Ij (kvs:=kvs) (x:=x) (v:=u)
  have hlt:C_ kvs x<(Bj kvs x u).length:=(List.getElem?_eq_some_iff.1 hf).1
  have e0:(entsM enc eV (Bj kvs x u) 0)[C_ kvs x]?=some ⟨enc x,eV u,C_ kvs x⟩:=by rw [C6,hf];simp
  have hnd:((entsM enc eV (Bj kvs x u) 0).map (·.born)).Nodup:=by
    have e1:∀(l:List (α×β)) (s:Nat),(entsM enc eV l s).map (·.born)=List.range' s l.length:=by
      intro l
      induction l with
      | nil=>intro s;rfl
      | cons p r ih=>intro s;rw [entsM,List.map_cons,ih,List.length_cons,List.range'_succ]
    rw [e1];exact List.nodup_range'
  have hidx:(entsM enc eV (Bj kvs x u) 0).toArray.findIdx? (λe=>((e.born:Nat):Int) == ((C_ kvs x:Nat):Int))=some (C_ kvs x):=by
    rw [WideElems.findIdx_arr]
    exact WideElems.findIdx_born hnd e0
  have hset:(Bj kvs x u).set (C_ kvs x) (x,y)=Bj kvs x y:=PT
  have hmod:=Gl (enc:=enc) (eV:=eV) (y:=y) hf
  have hmod2:(entsM enc eV (Bj kvs x u) 0).toArray.modify (C_ kvs x) (λe=>{ e with val:=eV y })=(entsM enc eV (Bj kvs x y) 0).toArray:=by
    rw [<-hset,<-hmod]
    apply Array.ext_getElem?
    intro q
    rw [Array.getElem?_modify,Array.getElem?_modify]
    simp only [List.getElem?_toArray]
    split
    · rename_i e;subst e;rw [e0];rfl
    · rfl
  have hl2:(Bj kvs x y).length=(Bj kvs x u).length:=by rw [<-hset,List.length_set]
  have hrun:(execOp a.eval ⟨none,.entryStore tx mp sp vp,t,pp,af,none⟩).run P w=.ok .skip (Go.ChangeMaps.setBlock w b (.map (entsM enc eV (Bj kvs x y) 0).toArray (Bj kvs x y).length)):=by
    rw [<-hmod2,hl2]
    simp only [execOp,ha.ev hx,ha.ev hs,ha.ev hv,Instr.entryStore,Sem.run_bind,CS ho,Result.andThen_ok,asInt,asIntOf,Sem.run_pure,hidx,EK ho]
  unfold wpList
  rw [if_pos (AI rfl a ha)]
  left
  unfold Oper.wp
  rw [hrun,Oper.upon_skip]
  exact next _ _ ha.put_none (hW.turn hi O O (Et _ _ _) ⟨_,Fg ho,rfl⟩)
end
end
section
def cA {α β:Type} (b:Nat) (enc:α->Value) (eV:β->Value) (kvs:List (α×β)):As:=⟨some b,λo=>o=.map (entsM enc eV kvs 0).toArray kvs.length,true⟩
section
variable {α β:Type} [DecidableEq α] {enc:α->Value} {eV:β->Value} {ok:α->Prop} {P:Program} {kt:TypeId} {n:Nat} {F:List (Nat×Value)} {w0:BD} {L:List As} {d:Option Tmp} {tx et t b:Nat} {pp:String} {af:Array Edge} {g:Option (Nat×Bool)} {mp kp:Operand}
end
def UQ (t:T3):P2:=B5 t.2.1 t.2.2
def c_ (ts:List T3) (ms:List Int) (k:P2):Prop:=∃z∈ms,0<=z/\z<(ts.length:Int)/\k=UQ (ts.getD z.toNat (0,0,0))
inductive Za (ts:List T3) (S:P2->Prop):P2->Prop
  | start {k:P2}:S k->Za ts S k
  | up {t:T3} {k:P2}:t∈ts->Za ts S k->(k=B5 t.1 t.2.1\/k=B5 t.2.2 t.1)->Za ts S (UQ t)
section
variable {ts:List T3} {ms:List Int} {i:Nat} {kvs:List (P2×Nat)}
end
structure HC (ts:List T3) (ms:List Int) where
  b:Nat
  kvs:List (P2×Nat)
  ok:OZ Yj kvs
  one:∀k,BR kvs k=none\/BR kvs k=some 1
  all:∀k,BR kvs k=some 1↔Za ts (c_ ts ms) k
instance {ts:List T3} {ms:List Int}:Cy (HC ts ms):=⟨λx=>.map (some x.b),λx=>[cA x.b Jv vN x.kvs],λx y hy=>by rcases xO.1 hy with rfl;rfl⟩
structure DX (ts:List T3) (ms:List Int) where
  l:List E4
  r:RX (rowsL Bn l) l.length
  p:E4->Bool
  el:l=(BK ts).filter p
  all:∀e,p e=true↔Za ts (c_ ts ms) (e.a,e.b)
  hc:r.c=l.length
instance {ts:List T3} {ms:List Int}:Cy (DX ts ms):=⟨λx=>x.r.val,λx=>[x.r.row],λx y hy=>by rcases xO.1 hy with rfl;rfl⟩
end
theorem Mm {P:Program} {f:FuncId} {fn:Func} {c:Code} {args:List Value} {w:World} {R:Ending->World->Prop} {n:Nat} {w0:BD} {L:List As}
    (hf:P.funcs[f]?=some fn) (hb:fn.body=some c) (hn:fn.ntmps=n) (hl:args.length<=n) (hW:BH w0 w L)
    (h:OkC P c (bodyPost P fn R) n (Fh 0 args) w0 L):Calls P f args.toArray w R:=by
  refine calls_of_wp hf hb ?_
  rw [hn]
  exact h _ _ (HO hl _ λk v hk=>by simpa using (DJ args 0 k v hk).2) hW
theorem yS {P:Program} {ops:Array Oper} {rest:List Oper} {Q:Exit->Act->World->Prop} {n:Nat} {F:List (Nat×Value)} {w0:BD} {L L2:List As} {o:Oper} {f:FuncId} {args:List Value} {v:Value} {α:Type} {K:α->Prop} {LO:α->List As} (hw:Wt ops n F o)
    (he:∀a w,Cx n a F->BH w0 w L->(execOp a.eval o).run P w=.ok (.enter f args.toArray) w) (hp:L.Perm L2)
    (hc:∀w,BH w0 w L2->Calls P f args.toArray w λe w'=>e=.returned v/\∃a:α,K a/\BH w0 w' (LO a))
    (hd:∀d,o.dst=some d->d<n) (next:∀a,K a->AR P ops rest Q n (match o.dst with|some d=>(d,v)::F|none=>F) w0 (LO a)):AR P ops (o::rest) Q n F w0 L:=λa w ha hW=>by
  unfold wpList
  rw [if_pos (hw a ha)]
  left
  unfold Oper.wp
  rw [he a w ha hW,Oper.upon_enter]
  refine (hc w (hW.perm hp)).mono ?_
  rintro e w' ⟨rfl,x,hk,hW'⟩
  have next:=next x hk
  cases hdst:o.dst with
  | none=>rw [hdst] at next;exact next _ _ ha.put_none hW'
  | some d=>rw [hdst] at next;exact next _ _ (ha.put (hd d hdst)) hW'
theorem FH {α:Type}:∀l:List α,(l.map some).filterMap id=l
  | []=>rfl
  | x::r=>by show x::(r.map some).filterMap id=x::r;rw [FH r]
theorem Cv {α:Type} {L L':List α} (idx:List Nat) (h1:idx.Perm (List.range L.length)) (h2:(idx.map λi=>L[i]?)=L'.map some):L.Perm L':=by
  have h3:((List.range L.length).map λi=>L[i]?)=L.map some:=by
    refine List.ext_getElem jX λj a b=>?_
    simp at a
    simp [a]
  have h4:=(h1.map λi=>L[i]?)
  rw [h2,h3] at h4
  have h5:=h4.filterMap id
  rw [FH,FH] at h5
  exact h5.symm
def dE (md:List (P2×Nat)):Nat->T3->List T3
  | 0,c=>[c]
  | d+1,c=>match BR md (UQ c) with
    | none=>[c]
    | some n=>dE md d (n,c.1,c.2.1)++dE md d (n,c.2.2,c.1)
def fZ (n p:Nat):List Nat:=List.replicate n p
section
section
variable {N:Nat} {es:List E4} {T:T3}
end
end
section
section
variable {m:MQ} {ts:List T3} {a b N:Nat}
theorem Ik {s:T3}:∀j,s∈Jy m ts a j↔s.1=a/\a<s.2.1/\s.2.1<a+1+j/\Ht ts s.1 s.2.1 ts.length=1/\s=Y7 m s.1 s.2.1
  | 0=>⟨λh=>(by cases h),λh=>Z⟩
  | j+1=>by
    show s∈Jy m ts a j++(if _ then _ else _)↔_
    rw [List.mem_append,Ik j]
    constructor
    · rintro (h|h)
      · exact ⟨h.1,h.2.1,Z,h.2.2.2⟩
      · split at h
        · rename_i hc
          rw [xO] at h
          subst h
          exact ⟨rfl,(by show a<a+1+j;omega),(by show a+1+j<a+1+(j+1);omega),hc,rfl⟩
        · cases h
    · rintro ⟨h1,h2,h3,h4,h5⟩
      rcases Nat.lt_or_ge s.2.1 (a+1+j) with h6|h6
      · exact .inl ⟨h1,h2,h6,h4,h5⟩
      · have e:s.2.1=a+1+j:=by omega
        rw [h1,e] at h4 h5
        rw [if_pos h4]
        exact .inr (xO.2 h5)
theorem GU {s:T3}:∀A,s∈FP m ts N A↔s.1<A/\s.1<s.2.1/\s.2.1<N/\Ht ts s.1 s.2.1 ts.length=1/\s=Y7 m s.1 s.2.1
  | 0=>⟨λh=>(by cases h),λh=>Z⟩
  | A+1=>by
    show s∈FP m ts N A++Jy m ts A (N-(A+1))↔_
    rw [List.mem_append,GU A,Ik]
    constructor
    · rintro (h|h)
      · exact ⟨Z,h.2⟩
      · exact ⟨Z,Z,Z,h.2.2.2⟩
    · rintro ⟨h1,h2,h3,h4⟩
      rcases Nat.lt_or_ge s.1 A with h5|h5
      · exact .inl ⟨h5,h2,h3,h4⟩
      · exact .inr ⟨Z,Z,Z,h4⟩
theorem Gx:∀j,(Jy m ts a j).Pairwise T8
  | 0=>List.Pairwise.nil
  | j+1=>by
    show (Jy m ts a j++(if _ then _ else _)).Pairwise T8
    split
    · refine List.pairwise_append.2 ⟨Gx j,List.pairwise_singleton _ _,λx hx y hy=>?_⟩
      rw [xO] at hy
      subst hy
      have h:=(Ik j).1 hx
      exact .inr ⟨h.1,(by show x.2.1<a+1+j;exact h.2.2.1)⟩
    · rw [List.append_nil];exact Gx j
theorem Hk:∀A,(FP m ts N A).Pairwise T8
  | 0=>List.Pairwise.nil
  | A+1=>List.pairwise_append.2 ⟨Hk A,Gx _,λx hx y hy=>.inl (by
      have h1:=(GU A).1 hx
      have h2:=(Ik _).1 hy
      omega)⟩
theorem N3 {x y:Nat} (hab:a<b) (hxy:x≠y):B5 x y=(a,b)↔(x=a/\y=b)\/(x=b/\y=a):=by
  unfold B5
  rw [Prod.mk.injEq]
  omega
theorem Xo {t:T3} (hab:a<b) (h:t.1≠t.2.1/\t.2.1≠t.2.2/\t.2.2≠t.1):[B5 t.1 t.2.1,B5 t.2.1 t.2.2,B5 t.2.2 t.1].count (a,b)=if Gb t a=true/\Gb t b=true then 1 else 0:=by
  obtain ⟨h1,h2,h3⟩:=h
  simp only [List.count_cons,List.count_nil,beq_iff_eq,N3 hab h1,N3 hab h2,N3 hab h3,Gb,yy,xV]
  split<;>split<;>split<;>split<;>omega
theorem RT (hn:Ba N ts=true) (hab:a<b):∀i,i<=ts.length->Ht ts a b i=((ts.take i).flatMap λt=>[B5 t.1 t.2.1,B5 t.2.1 t.2.2,B5 t.2.2 t.1]).count (a,b)
  | 0,_=>rfl
  | i+1,hi=>by
    rw [NL Z,List.flatMap_append,List.count_append,<-RT hn hab i Z]
    have h:=V6 (Bw hn (show i<ts.length by omega))
    have e:=Xo hab h
    show Ht ts a b i+(if _ then 1 else 0)=_
    rw [<-e]
    simp [List.flatMap]
theorem Ox (hn:Ba N ts=true) (hab:a<b):Ht ts a b ts.length=(Ep ts).count (a,b):=by
  rw [RT hn hab _ (Nat.le_refl _),List.take_length];rfl
theorem VT (hn:Ba N ts=true) (hN:N<=4611686018427387904) (h:(a,b)∈Ep ts):a<b/\b<N:=by
  obtain ⟨e,he,rfl,rfl⟩:=(PH hn hN).1 h
  exact HL hn hN he
theorem TH (hn:Ba N ts=true) (hN:N<=4611686018427387904):FP m ts N N=(Ea ts).map λs=>Y7 m s.1 s.2.1:=by
  refine IA T8.asymm (Hk N) ?_ λs=>?_
  · exact List.pairwise_map.2 ((Eb hn hN).imp λ{x y} h=>h)
  · rw [GU,List.mem_map]
    constructor
    · rintro ⟨h1,h2,h3,h4,h5⟩
      refine ⟨(s.1,s.2.1,0),(F3 hn hN).2 ⟨?_,rfl⟩,h5.symm⟩
      rw [<-Ox hn h2];exact h4
    · rintro ⟨r,hr,rfl⟩
      have h:=(F3 hn hN).1 hr
      have hk:=VT hn hN (List.count_pos_iff.1 (by rw [h.1];decide))
      exact ⟨by show r.1<N;omega,hk.1,hk.2,by show Ht ts r.1 r.2.1 ts.length=1;rw [Ox hn hk.1];exact h.1,rfl⟩
end
end
section
def dv (md:List (P2×Nat)) (ts:List T3):List T3:=ts.flatMap (dE md 2)
def du (md:List (P2×Nat)) (ts:List T3):Nat->List Nat
  | 0=>[]
  | i+1=>du md ts i++fZ (dE md 2 (ts.getD i (0,0,0))).length i
section
variable {md:List (P2×Nat)} {ts ss:List T3} {i N:Nat} {es:List E4}
end
structure fA (ps:List Pt) (ts ss:List T3) (ms:List Int) where
  l:List E4
  p:E4->Bool
  el:l=(BK ts).filter p
  all:∀e,p e=true↔Za ts (c_ ts ms) (e.a,e.b)
  x:dP (di ps l) (dv (Sv ps.length l l.length) ts) (dm ps.length ss l (dv (Sv ps.length l l.length) ts)) (du (Sv ps.length l l.length) ts ts.length) 0
instance {ps:List Pt} {ts ss:List T3} {ms:List Int}:Cy (fA ps ts ss ms):=⟨λb=>Cy.val b.x,λb=>Cy.rows b.x,λb y hy=>Cy.ro b.x y hy⟩
section
variable {ts ss:List T3} {N:Nat} {es:List E4} {ms:List Int}
structure dJ (ts:List T3) (ms:List Int) (l:List E4):Prop where
  ex:∃p:E4->Bool,l=(BK ts).filter p/\∀e,p e=true↔Za ts (c_ ts ms) (e.a,e.b)
end
section
variable {P:Program} {ops:Array Oper} {rest:List Oper} {Q:Exit->Act->World->Prop} {n d:Nat} {F:List (Nat×Value)} {w0:BD} {S:Nat->Prop} {L:List As} {t:TypeId} {p:String} {af:Array Edge} {y:Operand} {f:FuncId} {xs:List Operand} {args:List Value} {tys:Array TypeId} {ps:List Pt} {ts ss:List T3} {ms:List Int}
end
end
section
def eh:Nat->Nat->List Nat
  | 0,_=>[]
  | f+1,x=>if x=0 then [] else x%10000::eh f (x/10000)
def dg (x:Nat):List Nat:=eh x x
def fK (ds:List Nat):List Value:=ds.map λ(d:Nat)=>vN d
structure NV where
  p:Option Addr
  c:Nat
  x:Nat
  ok:A8 p (dg x).length c
@[reducible] def NV.n (v:NV):Nat:=(dg v.x).length
@[reducible] def nV (v:NV):Value:=.slice v.p (dg v.x).length v.c
theorem Hf.take {off k:Nat} {cs:List Value} {o:Obj} (h:Hf off cs o):Hf off (cs.take k) o:=by
  obtain ⟨cur,T,fr,rfl,hcs⟩:=h
  refine ⟨cur,T,fr,rfl,?_⟩
  rw [List.length_take]
  conv=>rhs;rw [<-hcs,List.take_take]
section
variable {P:Program} {ops:Array Oper} {rest:List Oper} {Q:Exit->Act->World->Prop} {n d x:Nat} {F:List (Nat×Value)} {w0:BD} {L:List As} {t:TypeId} {p:String} {af:Array Edge} {y:Operand}
end
section
variable {P:Program} {ops:Array Oper} {rest:List Oper} {Q:Exit->Act->World->Prop} {n d x z:Nat} {F:List (Nat×Value)} {w0:BD} {L:List As} {t T:TypeId} {p:String} {af:Array Edge} {y:Operand}
end
end
section
def txB (l:List UInt8):ByteArray:=⟨l.toArray⟩
theorem Iq (l:List UInt8):(txB l).size=l.length:=by simp [txB,ByteArray.size]
theorem IC (a b:List UInt8):txB a++txB b=txB (a++b):=by
  apply ByteArray.ext
  simp [txB]
section
variable {P:Program} {n:Nat} {F:List (Nat×Value)} {w0:BD} {L:List As} {t:TypeId} {p:String} {af:Array Edge} {d:Option Tmp} {g:Option (Nat×Bool)} {x:Operand}
end
end
section
structure NX (x:Nat) where
  p:Option Addr
  c:Nat
  ok:A8 p (dg x).length c
@[reducible] def NX.nv {x:Nat} (a:NX x):NV:=⟨a.p,a.c,x,a.ok⟩
@[reducible] def NX.cast {x y:Nat} (h:x=y) (a:NX x):NX y:=⟨a.p,a.c,h▸a.ok⟩
@[reducible] def cG {x:Nat} (a:NX x):Value:=.slice a.p (dg x).length a.c
def XG {x:Nat} (a:NX x):As:=AN a.p (fK (dg x))
structure ZX (z:Int) where
  n:NX z.natAbs
structure FX (q:Rat) where
  z:ZX q.num
  m:NX (q.den-1)
structure PX (p:Pt) where
  x:FX p.x
  y:FX p.y
def e8 {z:Int} (a:ZX z):List Value:=[.bool (decide (z<0)),cG a.n]
def dZ {q:Rat} (a:FX q):List Value:=e8 a.z++[cG a.m]
def eu {p:Pt} (a:PX p):List Value:=dZ a.x++dZ a.y
instance {x:Nat}:Cy (NX x):=⟨λa=>cG a,λa=>[XG a],λa y hy=>by rcases xO.1 hy with rfl;rfl⟩
instance {z:Int}:Cy (ZX z):=⟨λa=>aG (e8 a),λa=>[XG a.n],λa y hy=>by rcases xO.1 hy with rfl;rfl⟩
theorem Qs {a b y:As} (ha:a.ro=true) (hb:b.ro=true) (hy:y∈[a,b]):y.ro=true:=by
  rcases xN.1 hy with rfl|hy
  · exact ha
  · rcases xO.1 hy with rfl;exact hb
instance {q:Rat}:Cy (FX q):=⟨λa=>aG (dZ a),λa=>[XG a.z.n,XG a.m],λa y hy=>Qs rfl rfl hy⟩
instance {p:Pt}:Cy (PX p):=⟨λa=>aG (eu a),λa=>[XG a.x.z.n,XG a.x.m,XG a.y.z.n,XG a.y.m],λa y hy=>by
  rcases xN.1 hy with rfl|hy
  · rfl
  · rcases xN.1 hy with rfl|hy
    · rfl
    · exact Qs O O hy⟩
section
variable {w0:BD} {S:Nat->Prop} {w W:World} {L:List As} {α:Type} [Cy α]
-- parts
end
section
variable {P:Program} {ops:Array Oper} {rest:List Oper} {Q:Exit->Act->World->Prop} {n d:Nat} {F:List (Nat×Value)} {w0:BD} {S:Nat->Prop} {L:List As} {t:TypeId} {p:String} {af:Array Edge} {y:Operand} {f:FuncId} {xs:List Operand} {args:List Value} {ts:Array TypeId}
end
end
section
set_option maxRecDepth 100000
end
section
set_option maxRecDepth 100000
end
section
set_option maxRecDepth 100000
end
section
set_option maxRecDepth 100000
end
section
set_option maxRecDepth 100000
end
section
structure fF (x y:Nat) where
  q:NX x
  r:NX y
instance {x y:Nat}:Cy (fF x y):=⟨λa=>.tuple #[cG a.q,cG a.r],λa=>[XG a.q,XG a.r],λa y hy=>Qs rfl rfl hy⟩
section
variable {S:Nat->Prop} {w:World} {x y:Nat}
end
section
variable {P:Program} {ops:Array Oper} {rest:List Oper} {Q:Exit->Act->World->Prop} {n d:Nat} {F:List (Nat×Value)} {w0:BD} {S:Nat->Prop} {L:List As} {t:TypeId} {p:String} {af:Array Edge} {y:Operand} {f:FuncId} {xs:List Operand} {args:List Value} {ts:Array TypeId}
end
end

def txI (z:Int):List UInt8:=if z<0 then 45::Lib.decDigits z.natAbs else Lib.decDigits z.natAbs
section
set_option maxRecDepth 100000
end
def FX.cast {a b:Rat} (h:a=b) (f:FX a):FX b:=h▸f
def bF (q:Rat):List UInt8:=if q.den-1=0 then txI q.num else txI q.num++47::Lib.decDigits q.den

section
abbrev Z3:=Int×Int×Int
def BU (t:Z3):List Value:=[vI t.1,vI t.2.1,vI t.2.2]
theorem Ce (t:Z3):(BU t).length=3:=rfl
theorem SA (t:Z3):((BU t).all λu=>u.oneCell')=true:=rfl
structure MZ (ps:List Pt) (ts ss:List Z3) where
  a:RX (rowsL Aa ps) ps.length
  b:RX (rowsL BU ts) ts.length
  c:RX (rowsL BU ss) ss.length
def PJ {ps:List Pt} {ts ss:List Z3} (x:MZ ps ts ss):List Value:=[x.a.val,x.b.val,x.c.val]
theorem Vt {ps:List Pt} {ts ss:List Z3} {x:MZ ps ts ss} {y:As} (hy:y∈[x.a.row,x.b.row,x.c.row]):y.ro=true:=by
  simp only [xN,List.not_mem_nil,or_false] at hy
  rcases hy with rfl|rfl|rfl<;>rfl
instance {ps:List Pt} {ts ss:List Z3}:Cy (MZ ps ts ss):=⟨λx=>aG (PJ x),λx=>[x.a.row,x.b.row,x.c.row],λx y hy=>Vt hy⟩
structure RW where
  ds:List PD
  ts:List Z3
  ss:List Z3
  a:RX (rowsL dH ds) ds.length
  b:RX (rowsL BU ts) ts.length
  c:RX (rowsL BU ss) ss.length
  hd:∀d∈ds,d.ok
def fc (x:RW):List Value:=[x.a.val,x.b.val,x.c.val]
theorem cW {x:RW} {y:As} (hy:y∈[x.a.row,x.b.row,x.c.row]):y.ro=true:=by
  simp only [xN,List.not_mem_nil,or_false] at hy
  rcases hy with rfl|rfl|rfl<;>rfl
instance:Cy RW:=⟨λx=>aG (fc x),λx=>[x.a.row,x.b.row,x.c.row],λx y hy=>cW hy⟩
def fV:PD:=⟨⟨0,0⟩,⟨0,0⟩⟩
section
variable {S:Nat->Prop} {w:World} {ps:List Pt} {ts ss:List Z3} {x:MZ ps ts ss} {r:RW}
theorem ae (h:Ro S w x):Ro S w x.a:=λy hy=>by rcases xO.1 hy with rfl;exact h _ List.mem_cons_self
theorem ag (h:Ro S w x):Ro S w x.b:=λy hy=>by rcases xO.1 hy with rfl;exact h _ (List.mem_cons_of_mem _ List.mem_cons_self)
theorem ah (h:Ro S w x):Ro S w x.c:=λy hy=>by rcases xO.1 hy with rfl;exact h _ (List.mem_cons_of_mem _ (List.mem_cons_of_mem _ List.mem_cons_self))
end
structure RP where
  p:Pt
  x:PX p
@[reducible] def bT (r:RP):List Value:=eu r.x
def bU (rs:List RP):List As:=rs.flatMap λr=>Cy.rows r.x
theorem WP {rs:List RP} {y:As} (h:y∈bU rs):y.ro=true:=by
  obtain ⟨r,_,h⟩:=List.mem_flatMap.1 h
  exact Cy.ro r.x y h
structure dB (ps:List Pt) (ts ss:List Z3) where
  rs:List RP
  e:rs.map (·.p)=ps
  a:RX (rowsL bT rs) rs.length
  b:RX (rowsL BU ts) ts.length
  c:RX (rowsL BU ss) ss.length
def ew {ps:List Pt} {ts ss:List Z3} (x:dB ps ts ss):List Value:=[x.a.val,x.b.val,x.c.val]
theorem ZW {ps:List Pt} {ts ss:List Z3} {x:dB ps ts ss} {y:As} (hy:y∈[x.a.row,x.b.row,x.c.row]++bU x.rs):y.ro=true:=by
  rcases List.mem_append.1 hy with hy|hy
  · simp only [xN,List.not_mem_nil,or_false] at hy
    rcases hy with rfl|rfl|rfl<;>rfl
  · exact WP hy
instance {ps:List Pt} {ts ss:List Z3}:Cy (dB ps ts ss):=⟨λx=>aG (ew x),λx=>[x.a.row,x.b.row,x.c.row]++bU x.rs,λx y hy=>ZW hy⟩
section
variable {P:Program} {ops:Array Oper} {rest:List Oper} {Q:Exit->Act->World->Prop} {n:Nat} {F:List (Nat×Value)} {w0:BD} {S:Nat->Prop} {L L2 A:List As} {w W:World} {rs:List RP} {i:Nat} {ps:List Pt} {ts ss:List Z3}
end
theorem W8 (a b:Z3):((a.1 == b.1)&&((a.2.1 == b.2.1)&&((a.2.2 == b.2.2)&&true)))=decide (a=b):=by
  obtain ⟨a1,a2,a3⟩:=a
  obtain ⟨b1,b2,b3⟩:=b
  rw [Bool.eq_iff_iff]
  simp
theorem Z7 (D:Nat) (a b:Z3):Ef prog (D+2) 71 (.agg (BU a).toArray) (.agg (BU b).toArray) (decide (a=b)):=by
  rw [<-W8]
  exact Ef.array underlying71 LQ Ix (Oe.one isAgg3 O O (Ef.int underlying3) (Oe.one isAgg3 O O (Ef.int underlying3) (Oe.one isAgg3 O O (Ef.int underlying3) Oe.nil)))
theorem Z8 (D:Nat) (a b:Z3):Ef prog (D+2) 80 (.agg (BU a).toArray) (.agg (BU b).toArray) (decide (a=b)):=by
  rw [<-W8]
  exact Ef.struct underlying80 Tryz.stoodInHeld80 (Iu.one jY isAgg3 O O (Ef.int underlying3) (Iu.one jY isAgg3 O O (Ef.int underlying3) (Iu.one jY isAgg3 O O (Ef.int underlying3) Iu.nil)))
theorem K3 {α:Type} {d:α} {xs ys:List α} (hl:xs.length=ys.length) (h:∀i,i<xs.length->xs.getD i d=ys.getD i d):xs=ys:=by
  refine List.ext_getElem hl λi h1 h2=>?_
  have:=h i h1
  rwa [List.getD,List.getD,xP h1,xP h2] at this
theorem OC {α:Type} {d:α} {xs ys:List α} {i:Nat} (h:xs.getD i d≠ys.getD i d):xs≠ys:=λe=>h (by rw [e])
theorem RW.ok (r:RW) {i:Nat} (h:i<r.ds.length):(r.ds.getD i fV).ok:=by
  rw [List.getD,xP h]
  exact r.hd _ (List.getElem_mem h)
structure bV (ps:List Pt) (ts ss:List Z3) where
  a:OX 78 10 (rowsL Aa ps) ps.length
  b:OX 71 3 (rowsL BU ts) ts.length
  c:OX 80 3 (rowsL BU ss) ss.length
def ef {ps:List Pt} {ts ss:List Z3} (x:bV ps ts ss):List Value:=[Ti x.a,Ti x.b,Ti x.c]
@[reducible] def eg {ps:List Pt} {ts ss:List Z3} (x:bV ps ts ss):List As:=[rowW x.c.p 80 3 ss.length x.c.c (rowsL BU ss),rowW x.b.p 71 3 ts.length x.b.c (rowsL BU ts),rowW x.a.p 78 10 ps.length x.a.c (rowsL Aa ps)]
section
variable {S:Nat->Prop} {w:World} {w0:BD} {L:List As} {ps:List Pt} {ts ss:List Z3}
abbrev fI (_:Nat):Prop:=True
theorem Lp {α:Type} [Cy α] {a:α} (h:Ro S w a):Ro fI w a:=h.mono λ_ _=>trivial
end
end
section
def Bx (n:Nat) (p:Int):Bool:=decide (0<=p)&&decide (p<(n:Int))
def XH (n:Nat) (t:Z3):Bool:=Bx n t.1&&Bx n t.2.1&&Bx n t.2.2&&!decide (t.1=t.2.1)&&!decide (t.2.1=t.2.2)&&!decide (t.2.2=t.1)
def JA (n:Nat) (ts:List Z3):Bool:=ts.all (XH n)
def idxZ (n:Nat):List Z3->Nat->Int
  | [],_ => -1
  | t::r,i=>if XH n t=true then idxZ n r (i+1) else (i:Int)
theorem Sh {n:Nat} {ts:List Z3} {j:Nat} (hj:j<ts.length) (h:XH n (ts.getD j (0,0,0))=true):idxZ n (ts.drop j) j=idxZ n (ts.drop (j+1)) (j+1):=by
  rw [Fb (d:=(0,0,0)) hj];exact if_pos h
theorem VL {n:Nat} {ts:List Z3} {j:Nat} (hj:j<ts.length) (h:XH n (ts.getD j (0,0,0))=false):idxZ n (ts.drop j) j=(j:Int):=by
  rw [Fb (d:=(0,0,0)) hj];exact if_neg (by rw [h];exact Bool.false_ne_true)
theorem VK {n:Nat} {ts:List Z3} {j:Nat} (hj:¬j<ts.length):idxZ n (ts.drop j) j = -1:=by
  rw [List.drop_of_length_le Z];rfl
theorem M7 (n:Nat):∀(ts:List Z3) (i:Nat),decide (0<=idxZ n ts i)=!JA n ts
  | [],i=>rfl
  | t::r,i=>by
    unfold idxZ JA
    rw [List.all_cons]
    cases h:XH n t with
    | true=>rw [if_pos rfl,Bool.true_and];exact M7 n r (i+1)
    | false=>rw [if_neg Bool.false_ne_true,Bool.false_and];simp
def d9 (t:Z3):Tq3:=(t.1.toNat,t.2.1.toNat,t.2.2.toNat)
structure RQ (N K:Nat) (zs:List Z3) where
  cs:List Value
  ds:List Value
  a:RX cs N
  b:RX (rowsL BU zs) zs.length
  c:RX ds K
def cS {N K:Nat} {zs:List Z3} (x:RQ N K zs):List Value:=[x.a.val,x.b.val,x.c.val]
theorem cT {N K:Nat} {zs:List Z3} {x:RQ N K zs} {y:As} (hy:y∈[x.a.row,x.b.row,x.c.row]):y.ro=true:=by
  simp only [xN,List.not_mem_nil,or_false] at hy
  rcases hy with rfl|rfl|rfl<;>rfl
instance {N K:Nat} {zs:List Z3}:Cy (RQ N K zs):=⟨λx=>aG (cS x),λx=>[x.a.row,x.b.row,x.c.row],λx y hy=>cT hy⟩
section
variable {S:Nat->Prop} {w:World} {N K:Nat} {zs ss:List Z3} {ps:List Pt}
theorem eF {x:RQ N K zs} (h:Ro S w x):Ro S w x.b:=λy hy=>by rcases xO.1 hy with rfl;exact h _ (List.mem_cons_of_mem _ List.mem_cons_self)
def MZ.rq (x:MZ ps zs ss):RQ ps.length ss.length zs:=⟨rowsL Aa ps,rowsL BU ss,x.a,x.b,x.c⟩
theorem d7 {x:MZ ps zs ss} (h:Ro S w x):Ro S w x.rq:=λy hy=>h y hy
end
end
def Vd (p q:Pt):Prop:=p.x<q.x\/(p.x=q.x/\p.y<q.y)
instance (p q:Pt):Decidable (Vd p q):=by unfold Vd;infer_instance
theorem aL {p q:Pt} (h:FV p.x q.x≠0):decide (FV p.x q.x<0)=decide (Vd p q):=by
  have h2:¬p.x=q.x:=λe=>h (Na.2 e)
  refine decide_eq_decide.2 ⟨λk=>.inl (IQ.1 k),λk=>?_⟩
  rcases k with k|k
  · exact IQ.2 k
  · exact absurd k.1 h2
theorem aM {p q:Pt} (h:FV p.x q.x=0):decide (FV p.y q.y<0)=decide (Vd p q):=by
  have h2:p.x=q.x:=Na.1 h
  refine decide_eq_decide.2 ⟨λk=>.inr ⟨h2,IQ.1 k⟩,λk=>?_⟩
  rcases k with k|k
  · rw [h2] at k;exact absurd k (by grind)
  · exact IQ.2 k.2
end Go.Proofs.YtbfdamnfcmefmaaGreatDoor
