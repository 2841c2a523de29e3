import Derived.Laws.AppendOwn
import Derived.ChangeKeysEq
import Derived.Test.YtpolhpjiahbidaaGreatDoorRows
import Derived.Test.YtpolhpjiahbidaaGreatDoorPart10
namespace Go.Proofs.YtpolhpjiahbidaaGreatDoor
open Go Go.RowKit Go.Proofs.Tryz
open Go.Value renaming slice→qz,bool→qa
set_option linter.unusedVariables false
set_option linter.unusedSimpArgs false
section
def Holds (w:World) (x:As):Prop:=∀b,x.foot=some b->∃o,w.heap[b]?=some o/\x.P o
theorem BD.holds {w0:BC} {w:World} {L:List As} {x:As} {i:Nat} (h:BD w0 w L) (hi:L[i]?=some x):Holds w x:=λb e=>(h.2.1 x (List.mem_of_getElem? hi) b e).2
theorem BD.startR {w:World} {L:List As} (h:∀x∈L,x.ro=true/\Holds w x):BD ⟨w,none⟩ w L:=by
  refine ⟨EB (Fr.refl _ _) _,λx hx b e=>⟨.inl (h x hx).1,(h x hx).2 b e⟩,?_⟩
  refine List.Pairwise.imp_of_mem (R:=λ_ _=>True) (λ{a b} ha hb _=>.inl ⟨(h a ha).1,(h b hb).1⟩) ?_
  exact List.pairwise_of_forall (λ_ _=>trivial)
theorem Ah {P:Program} {f:FuncId} {fn:Func} {c:Code} {args:List Value} {w:World} {R:Ending->World->Prop} {n:Nat} {L:List As}
    (hf:P.funcs[f]?=some fn) (hb:fn.body=some c) (hn:fn.ntmps=n) (hl:args.length<=n) (hL:∀x∈L,x.ro=true/\Holds w x)
    (h:OkC P c (bodyPost P fn R) n (Fg 0 args) ⟨w,none⟩ L):Calls P f args.toArray w R:=by
  refine calls_of_wp hf hb ?_
  rw [hn]
  exact h _ _ (HP hl _ λk v hk=>by simpa using (DN args 0 k v hk).2) (BD.startR hL)
theorem A7 {w:World}:∀x∈([]:List As),x.ro=true/\Holds w x:=λx hx=>by cases hx
theorem BD.renew {w0:BC} {w w':World} {L:List As} {x y:As} {i:Nat} (h:BD w0 w L) (hi:L[i]?=some x) (hx:x.ro=false) (hg:Jm w w' x.foot)
    (hy:∀b,y.foot=some b->(x.foot=some b\/w.heap.size<=b)/\∃o,w'.heap[b]?=some o/\y.P o):BD w0 w' (L.set i y):=by
  have hil:i<L.length:=by
    rcases Nat.lt_or_ge i L.length with h1|h1
    · exact h1
    · rw [List.getElem?_eq_none h1] at hi;cases hi
  have hxi:L[i]=x:=by rw [xP hil] at hi;injection hi
  have hpair:=List.pairwise_iff_getElem.1 h.2.2
  have hcond:∀b,x.foot=some b->w0.w.heap.size<=b\/w0.ex=some b:=λb e=>((h.2.1 x (List.mem_of_getElem? hi) b e).1).resolve_left (by simp [hx])
  have apartx:∀j (hj:j<L.length),j≠i->∀c,L[j].foot=some c->x.foot≠some c:=λj hj hji c e e2=>by
    have hxr:¬L[i].ro=true:=by rw [hxi,hx];simp
    rcases Nat.lt_or_gt_of_ne hji with hlt|hgt
    · exact (hpair j i hj hil hlt).resolve_left (λk=>hxr k.2) c e (by rw [hxi];exact e2)
    · exact (hpair i j hil hj hgt).resolve_left (λk=>hxr k.1) c (by rw [hxi];exact e2) e
  have aparty:∀j (hj:j<L.length),j≠i->∀c,L[j].foot=some c->y.foot≠some c:=λj hj hji c e e2=>by
    rcases (hy c e2).1 with h1|h1
    · exact apartx j hj hji c e h1
    · exact absurd (h.lt (List.getElem_mem hj) e) Z
  refine ⟨⟨⟨hg.os.trans h.1.os,hg.tape.trans h.1.tape,hg.output.trans h.1.output,xM h.1.size hg.size,λk hk hne=>?_⟩,xM h.1.drawn hg.drawn⟩,λz hz c e=>?_,List.pairwise_iff_getElem.2 λp q hp hq hpq=>?_⟩
  · refine (hg.block k (Nat.lt_of_lt_of_le hk h.1.size) λe=>?_).trans (h.1.block k hk hne)
    rcases hcond k e.symm with h1|h1
    · omega
    · exact hne h1.symm
  · obtain ⟨j,hj,rfl⟩:=List.getElem_of_mem hz
    simp only [List.length_set] at hj
    by_cases hji:j=i
    · subst hji
      simp only [List.getElem_set_self] at e ⊢
      obtain ⟨h1,h2⟩:=hy c e
      refine ⟨?_,h2⟩
      rcases h1 with h1|h1
      · exact .inr (hcond c h1)
      · exact .inr (.inl (xM h.size h1))
    · rw [List.getElem_set_ne (Ne.symm hji)] at e ⊢
      obtain ⟨h1,o,h2,h3⟩:=h.2.1 _ (List.getElem_mem hj) c e
      exact ⟨h1,o,(hg.block c (h.lt (List.getElem_mem hj) e) (λhc=>apartx j hj hji c e hc.symm)).trans h2,h3⟩
  · simp only [List.length_set] at hp hq
    by_cases hpi:p=i
    · subst hpi
      have hqi:q≠p:=by omega
      rw [List.getElem_set_self,List.getElem_set_ne (Ne.symm hqi)]
      exact .inr λc e e2=>aparty q (by simpa using hq) hqi c e2 e
    · by_cases hqi:q=i
      · subst hqi
        rw [List.getElem_set_self,List.getElem_set_ne (Ne.symm hpi)]
        exact .inr λc e e2=>aparty p (by simpa using hp) hpi c e e2
      · rw [List.getElem_set_ne (Ne.symm hpi),List.getElem_set_ne (Ne.symm hqi)]
        exact hpair p q hp hq hpq
theorem BD.freeze {w0:BC} {w:World} {L:List As} {x y:As} {i:Nat} (h:BD w0 w L) (hi:L[i]?=some x) (hf:y.foot=x.foot) (hp:∀o,x.P o->y.P o) (hr:x.ro=true->y.ro=true):BD w0 w (L.set i y):=by
  have hil:i<L.length:=by
    rcases Nat.lt_or_ge i L.length with h1|h1
    · exact h1
    · rw [List.getElem?_eq_none h1] at hi;cases hi
  have hxi:L[i]=x:=by rw [xP hil] at hi;injection hi
  have hpair:=List.pairwise_iff_getElem.1 h.2.2
  refine ⟨h.1,λz hz c e=>?_,List.pairwise_iff_getElem.2 λp q hp hq hpq=>?_⟩
  · obtain ⟨j,hj,rfl⟩:=List.getElem_of_mem hz
    simp only [List.length_set] at hj
    by_cases hji:j=i
    · subst hji
      simp only [List.getElem_set_self] at e ⊢
      obtain ⟨h1,o,h2,h3⟩:=h.2.1 x (List.mem_of_getElem? hi) c (hf▸e)
      exact ⟨h1.imp_left hr,o,h2,hp o h3⟩
    · rw [List.getElem_set_ne (Ne.symm hji)] at e ⊢
      exact h.2.1 _ (List.getElem_mem hj) c e
  · simp only [List.length_set] at hp hq
    have key:∀j (hj:j<L.length),((L.set i y)[j]'(by simpa using hj)).foot=L[j].foot/\(L[j].ro=true->((L.set i y)[j]'(by simpa using hj)).ro=true):=λj hj=>by
      by_cases hji:j=i
      · subst hji
        simp only [List.getElem_set_self]
        rw [hxi]
        exact ⟨hf,hr⟩
      · rw [List.getElem_set_ne (Ne.symm hji)]
        exact ⟨rfl,id⟩
    rcases hpair p q hp hq hpq with h1|h1
    · exact .inl ⟨(key p hp).2 h1.1,(key q hq).2 h1.2⟩
    · refine .inr λb e=>?_
      rw [(key p hp).1] at e
      rw [(key q hq).1]
      exact h1 b e
def pB:Option Addr->Nat
  | some a=>a.block
  | none=>0
def pO:Option Addr->Nat
  | some a=>a.off
  | none=>0
def Hd (off:Nat) (cs:List Value) (o:Obj):Prop:=∃cur T fr,o=.cells cur T fr/\(cur.toList.drop off).take cs.length=cs
def AF (p:Option Addr) (cs:List Value):As:=⟨p.map (·.block),Hd (pO p) cs,true⟩
def rowW (p:Option Addr) (T:TypeId) (z n c:Nat) (cs:List Value):As:=⟨p.map (·.block),λo=>∃cur,o=.cells cur T (0,0)/\cur.size=c*z/\cur.toList.take (n*z)=cs,false⟩
structure Ay (p:Option Addr) (n c:Nat):Prop where
  nil:p=none->n=0/\c=0
  spot:∀a,p=some a->a.spot=none
  le:n<=c
structure OwnOk (p:Option Addr) (n c:Nat):Prop where
  nil:p=none->n=0/\c=0
  at0:∀a,p=some a->a=⟨a.block,0,none⟩
  le:n<=c
  max:c<=maxLen
theorem OwnOk.row {p:Option Addr} {n c:Nat} (h:OwnOk p n c):Ay p n c:=⟨h.nil,λa e=>by rw [h.at0 a e],h.le⟩
theorem OwnOk.none:OwnOk none 0 0:=⟨λ_=>⟨rfl,rfl⟩,(λ_ e=>by cases e),Nat.le_refl _,by decide⟩
theorem OwnOk.pO {p:Option Addr} {n c:Nat} (h:OwnOk p n c):pO p=0:=by
  cases p with
  | none=>rfl
  | some a=>show a.off=0;rw [h.at0 a rfl]
theorem Ay.some {p:Option Addr} {n c:Nat} (h:Ay p n c) (hn:0<n):p=some ⟨pB p,Go.Proofs.YtpolhpjiahbidaaGreatDoor.pO p,none⟩:=by
  cases p with
  | none=>have:=(h.nil rfl).1;omega
  | some a =>
    have hs:=h.spot a rfl
    cases a with|mk b o s=>simp only at hs;subst hs;rfl
theorem Dd {p:Option Addr} {T:TypeId} {z n c:Nat} {cs:List Value} {o:Obj} (ho:OwnOk p n c) (hl:cs.length=n*z) (h:(rowW p T z n c cs).P o):Hd (pO p) cs o:=by
  obtain ⟨cur,rfl,_,h2⟩:=h
  exact ⟨cur,T,(0,0),rfl,by rw [ho.pO,List.drop_zero,hl];exact h2⟩
theorem Hd.cell {w:World} {b off j:Nat} {cs:List Value} {o:Obj} {v:Value} (h:Hd off cs o) (hb:w.heap[b]?=some o) (hj:cs[j]?=some v):w.cell? ⟨b,off+j,none⟩=some v:=by
  obtain ⟨cur,T,fr,rfl,hcs⟩:=h
  rw [cell_of_row w b _ _ T fr hb]
  rw [<-hcs,List.getElem?_take] at hj
  split at hj
  · simpa using hj
  · cases hj
section
variable {P:Program} {ops:Array Oper} {rest:List Oper} {Q:Exit->Act->World->Prop} {n d i b off k z m c c2:Nat} {F F':List (Nat×Value)} {w0:BC} {L L' Lro:List As} {t ty T:TypeId} {p:String} {af:Array Edge} {dd:Option Tmp} {g:Option (Nat×Bool)} {v:Value} {x y:Operand} {cs vs news:List Value} {q:Option Addr}
theorem RN {w:World} (hw:BD w0 w L) (hi:L[i]?=some (AF q cs)) (hq:q≠none):CA w (pB q) (pO q+k) ((cs.drop k).take m):=λj u hu=>by
  cases hqe:q with
  | none=>exact absurd hqe hq
  | some a =>
    subst hqe
    obtain ⟨o,ho,hp⟩:=hw.holds hi a.block rfl
    rw [Nat.add_assoc]
    refine Hd.cell hp ho ?_
    rw [List.getElem?_take] at hu
    split at hu
    · simpa using hu
    · cases hu
theorem RO {w:World} {n':Nat} (hw:BD w0 w L) (hi:L[i]?=some (rowW q T z n' c cs)) (ho:OwnOk q n' c) (hl:cs.length=n'*z) (hq:q≠none):CA w (pB q) (pO q+k) ((cs.drop k).take m):=λj u hu=>by
  cases hqe:q with
  | none=>exact absurd hqe hq
  | some a =>
    subst hqe
    obtain ⟨o,ho',hp⟩:=hw.holds hi a.block rfl
    rw [Nat.add_assoc]
    refine Hd.cell (Dd ho hl hp) ho' ?_
    rw [List.getElem?_take] at hu
    split at hu
    · simpa using hu
    · cases hu
theorem AM {s e:TypeId} {ki:IntKind} {i:Int} {j n':Nat} (hx:evF F x=some (.slice q n' c)) (hy:evF F y=some (.int ki i)) (ho:Ay q n' c)
    (hu:P.underlying s=some (.slice e)) (hs:∀w,(sizeOf e).run P w=.ok z w) (hi:i=(j:Int)) (hj:j<n'):Ex P n F w0 L ⟨dd,.indexAddr s x y,t,p,af,g⟩ (pP (pB q) (pO q+j*z)):=by
  have he:=ho.some Z
  rw [he] at hx
  exact AG (len:=n') hx hy hu hs hi hj O
theorem AO {off:Nat} (hx:evF F x=some (pP (pB q) (pO q+off))) (hi:L[i]?=some (AF q cs)) (hq:q≠none) (ht:Dm P ty k) (hv:(cs.drop off).take k=vs) (hl:vs.length=k):Ex P n F w0 L ⟨dd,.load ty x,t,p,af,g⟩ (aG vs) :=
  EA hx (λw hw=>hv▸RN hw hi hq) ht.a ht.s hl
theorem BG {off:Nat} (hx:evF F x=some (pP (pB q) (pO q+off))) (hi:L[i]?=some (AF q cs)) (hq:q≠none) (ht:Fj P ty) (hv:cs[off]?=some v):Ex P n F w0 L ⟨dd,.load ty x,t,p,af,g⟩ v :=
  BZ hx (λw hw=>by
    have h:=RN (k:=off) (m:=1) hw hi hq 0 v (by rw [List.getElem?_take,if_pos Z];simpa using hv)
    simpa using h) ht.a
theorem Br {off n':Nat} (hx:evF F x=some (pP (pB q) (pO q+off))) (hi:L[i]?=some (rowW q T z n' c cs)) (ho:OwnOk q n' c) (hcl:cs.length=n'*z) (hq:q≠none) (ht:Dm P ty k) (hv:(cs.drop off).take k=vs) (hl:vs.length=k):Ex P n F w0 L ⟨dd,.load ty x,t,p,af,g⟩ (aG vs) :=
  EA hx (λw hw=>hv▸RO hw hi ho hcl hq) ht.a ht.s hl
theorem Fy {off n':Nat} (hx:evF F x=some (pP (pB q) (pO q+off))) (hi:L[i]?=some (rowW q T z n' c cs)) (ho:OwnOk q n' c) (hcl:cs.length=n'*z) (hq:q≠none) (ht:Fj P ty) (hv:cs[off]?=some v):Ex P n F w0 L ⟨dd,.load ty x,t,p,af,g⟩ v :=
  BZ hx (λw hw=>by
    have h:=RO (k:=off) (m:=1) hw hi ho hcl hq 0 v (by rw [List.getElem?_take,if_pos Z];simpa using hv)
    simpa using h) ht.a
structure ElemT (P:Program) (t e:TypeId) (z bytes:Nat):Prop where
  u:P.underlying t=some (.slice e)
  i:∃(i:TypeInfo) (zv:Value),P.info? e=some i/\i.zero=some zv/\i.size=z/\i.bytes=bytes/\zv.cells.size=z
theorem LG {k:Nat} (h:k<=1099511627776):k<=maxLen:=xM h jY
theorem FC {P:Program} {e:TypeId} {z bytes:Nat} (h:(match P.info? e with|some i=>Nat.beq i.size z&&Nat.beq i.bytes bytes&&(match i.zero with|some zv=>Nat.beq zv.cells.size z|none=>false)|none=>false)=true) :
    ∃(i:TypeInfo) (zv:Value),P.info? e=some i/\i.zero=some zv/\i.size=z/\i.bytes=bytes/\zv.cells.size=z:=by
  cases hi:P.info? e with
  | none=>rw [hi] at h;cases h
  | some i =>
    rw [hi] at h
    simp only [yz] at h
    cases hz:i.zero with
    | none=>rw [hz] at h;cases h.2
    | some zv =>
      rw [hz] at h
      exact ⟨i,zv,rfl,hz,Nat.eq_of_beq_eq_true h.1.1,Nat.eq_of_beq_eq_true h.1.2,Nat.eq_of_beq_eq_true h.2⟩
theorem G6 (w:World) {n m:Nat} {ty e:TypeId} {z bytes:Nat} (ht:ElemT P t e z bytes) (ho:OwnOk q n c) (hl:cs.length=n*z) (hold:∀b,q.map (·.block)=some b->∃o,w.heap[b]?=some o/\(rowW q e z n c cs).P o)
    (a:Addr) (hnl:news.length=m*z) (hnews:∀j u,news[j]?=some u->w.cell? (a.add j)=some u) (h1:∀u∈news,u.oneCell'=true) (hm:0<m) (h63:n+m<=maxLen) (hbytes:(n+m)*bytes<=140737488355328) :
    ∃p' c' w',(Builtin.append_ #[t,t] ty #[.slice q n c,.slice (some a) m c2]).run P w=.ok (.slice p' (n+m) c') w'/\OwnOk p' (n+m) c'/\p'≠none/\Jm w w' (q.map (·.block)) /\
      ∀b,p'.map (·.block)=some b->(q.map (·.block)=some b\/w.heap.size<=b)/\∃o,w'.heap[b]?=some o/\(rowW p' e z (n+m) c' (cs++news)).P o:=by
  obtain ⟨i,zv,hi,hz,rfl,rfl,hzs⟩:=ht.i
  have hlen:(cs++news).length=(n+m)*i.size:=by rw [xL,hl,hnl,Nat.add_mul]
  have grown:∀(old:Nat),old<n+m->∀row,OwnOk (some ⟨w.heap.size,0,none⟩) (n+m) (grownCap w (n+m) old e) /\
      Jm w (w.drew.alloc (.cells (cs.toArray++news.toArray++Builtin.zeroCells zv.cells (grownCap w (n+m) old e-(n+m))) e)) row /\
      ∃o,(w.drew.alloc (.cells (cs.toArray++news.toArray++Builtin.zeroCells zv.cells (grownCap w (n+m) old e-(n+m))) e)).heap[w.heap.size]?=some o/\(rowW (some ⟨w.heap.size,0,none⟩) e i.size (n+m) (grownCap w (n+m) old e) (cs++news)).P o:=by
    intro old hold' row
    have hge:=grownCap_ge w (n+m) old e
    refine ⟨⟨λh=>(by cases h),λa h=>(by injection h with h;subst h;rfl),hge,grownCap_le_maxLen w (n+m) old e h63⟩,⟨⟨rfl,rfl,rfl,by simp,λk hk _=>by first|exact heap_alloc_old w.drew _ k hk|exact heap_alloc_old w.drew _ hk⟩,Nat.le_succ _⟩,_,heap_alloc_new w.drew _,_,rfl,?_,?_⟩
    · simp only [Array.size_append,List.size_toArray,size_zeroCells,hzs,hl,hnl,<-Nat.add_mul]
      congr 1
      omega
    · simp only [Array.toList_append,List.append_assoc]
      rw [<-List.append_assoc,<-hlen]
      exact List.take_left
  cases hq:q with
  | none =>
    subst hq
    obtain ⟨rfl,rfl⟩:=ho.nil rfl
    have hx:cs=[]:=List.eq_nil_of_length_eq_zero (by simpa using hl)
    subst hx
    have hr:=run_append_nil (P:=P) w t ty e i zv ht.u hi hz a m c2 news hnl hnews hm (by simp only [maxLen] at h63;omega) (by have hb:=hbytes;simp only [Nat.zero_add] at hb;omega)
    obtain ⟨g1,g2,g3⟩:=grown 0 Z ((none:Option Addr).map (·.block))
    simp only [Nat.zero_add,List.nil_append,Array.empty_append] at g1 g2 g3 ⊢
    refine ⟨_,_,_,hr,g1,by simp,g2,λb e=>?_⟩
    injection e with e;subst e
    exact ⟨.inr (Nat.le_refl _),g3⟩
  | some ad =>
    subst hq
    obtain ⟨o,hob,cur,rfl,hcs,htake⟩:=hold ad.block rfl
    have hat:=ho.at0 ad rfl
    rw [hat]
    by_cases hroom:n+m<=c
    · have hfit:n*i.size+news.length<=cur.size:=by rw [hnl,hcs,<-Nat.add_mul];exact Nat.mul_le_mul_right _ hroom
      have hr:=run_append_room (P:=P) w t ty e i ht.u hi ad.block n c cur hob a m c2 news hnl hnews h1 hroom hfit
      refine ⟨_,_,_,hr,⟨λh=>(by cases h),λa h=>(by injection h with h;subst h;rfl),hroom,ho.max⟩,by simp,⟨⟨rfl,rfl,rfl,by simp,λk _ hk=>setRow_other w ad.block k _ (λe=>hk (by simp [e]))⟩,Nat.le_refl _⟩,λb e=>?_⟩
      injection e with e;subst e
      refine ⟨.inl O,_,setRow_heap w ad.block cur _ e _ hob,_,rfl,?_,?_⟩
      · simp only [List.size_toArray,xL,List.length_take,List.length_drop,Array.length_toList]
        omega
      · rw [htake,<-hlen]
        exact List.take_left
    · have holds:∀j u,cs[j]?=some u->w.cell? ((⟨ad.block,0,none⟩:Addr).add j)=some u:=λj u hu=>by
        have:=Hd.cell (Dd (p:=some ad) ho hl ⟨cur,rfl,hcs,htake⟩) hob hu
        rw [ho.pO] at this
        rw [Addr.add_lit]
        simpa using this
      have hr:=run_append_grow (P:=P) w t ty e i zv ht.u hi hz ⟨ad.block,0,none⟩ n c cs hl holds a m c2 news hnl hnews Z (by simp only [maxLen] at h63;omega) (growslice_fits Z hbytes)
      obtain ⟨g1,g2,g3⟩:=grown c Z ((some (⟨ad.block,0,none⟩:Addr)).map (·.block))
      refine ⟨_,_,_,hr,g1,by simp,g2,λb e=>?_⟩
      injection e with e;subst e
      exact ⟨.inr (Nat.le_refl _),g3⟩
theorem yr (i j:Nat) {s:Operand} {n' bytes:Nat} {tn:TypeId} (ht:ElemT P t T z bytes) (hs:evF F s=some (.slice q n' c)) (hi:L[i]?=some (rowW q T z n' c cs)) (ho:OwnOk q n' c) (hl:cs.length=n'*z)
    (hx:evF F x=some (.slice (jk b) m c2)) (hj:L[j]?=some (AX b tn news)) (hnl:news.length=m*z) (h1:(news.all λu=>u.oneCell')=true) (hm:0<m) (h63:n'+m<=maxLen) (hbytes:(n'+m)*bytes<=140737488355328) (hd:Nat.ble (d+1) n=true)
    (next:∀p' c',OwnOk p' (n'+m) c'->p'≠none->AR P ops rest Q n ((d,.slice p' (n'+m) c')::F) w0 (L.set i (rowW p' T z (n'+m) c' (cs++news)))) :
    AR P ops (⟨some d,.call { callee:=.builtin .append,args:=#[s,x],argTypes:=#[t,t] },ty,p,af,none⟩::rest) Q n F w0 L:=λa w ha hW=>by
  have hnews:∀j u,news[j]?=some u->w.cell? ((⟨b,0,none⟩:Addr).add j)=some u:=λj u hu=>by
    have h:=cell_of_row w b j _ tn (0,0) (hW.get hj)
    rw [Addr.add_lit]
    simp only [Nat.zero_add]
    rw [h];simpa using hu
  obtain ⟨p',c',w',hr,h2,h3,h4,h5⟩:=G6 (P:=P) (c2:=c2) (ty:=ty) w ht ho hl (hW.holds hi) ⟨b,0,none⟩ hnl hnews (λu hu=>List.all_eq_true.1 h1 u hu) hm h63 hbytes
  unfold wpList
  rw [if_pos (AI rfl a ha)]
  left
  unfold Oper.wp
  have e1:=ha.ev hs
  have e2:=ha.ev hx
  have he:(execOp a.eval ⟨some d,.call { callee:=.builtin .append,args:=#[s,x],argTypes:=#[t,t] },ty,p,af,none⟩).run P w=.ok (.value (.slice p' (n'+m) c')) w':=by
    simp only [execOp,resolve,invoke,builtin,Sem.run_bind,Sem.run_pure,Result.andThen_ok,List.map_toArray,List.map_cons,List.map_nil,e1,e2,hr]
  rw [he,Oper.upon_value]
  exact next p' c' h2 h3 _ _ (ha.put (CG hd)) (hW.renew hi O h4 h5)
end
theorem Ay.ne {p:Option Addr} {n c:Nat} (h:Ay p n c) (hn:0<n):p≠none:=λe=>by have:=(h.nil e).1;omega
section
variable {P:Program} {ops:Array Oper} {rest:List Oper} {Q:Exit->Act->World->Prop} {n d b z m c c2:Nat} {F:List (Nat×Value)} {w0:BC} {L:List As} {t ty T:TypeId} {p:String} {af:Array Edge} {x:Operand} {cs cs2 news:List Value} {q:Option Addr} {A0 A1 A2:As}
theorem zr (i:Nat) {j:Nat} {s:Operand} {n' bytes:Nat} {tn:TypeId} (ht:ElemT P t T z bytes) (hs:evF F s=some (.slice q n' c)) (ho:OwnOk q n' c) (hl:cs.length=n'*z)
    (hi:L[i]?=some (rowW q T z n' c cs)) (hx:evF F x=some (.slice (jk b) m c2)) (hj:L[j]?=some (AX b tn news)) (hnl:news.length=m*z) (h1:(news.all λu=>u.oneCell')=true) (hm:0<m) (h63:n'+m<=maxLen) (hbytes:(n'+m)*bytes<=140737488355328) (hcs:cs++news=cs2) (hd:Nat.ble (d+1) n=true)
    (next:∀p' c',OwnOk p' (n'+m) c'->p'≠none->AR P ops rest Q n ((d,.slice p' (n'+m) c')::F) w0 (L.set i (rowW p' T z (n'+m) c' cs2))) :
    AR P ops (⟨some d,.call { callee:=.builtin .append,args:=#[s,x],argTypes:=#[t,t] },ty,p,af,none⟩::rest) Q n F w0 L:=by
  subst hcs
  exact yr i j ht hs hi ho hl hx hj hnl h1 hm h63 hbytes hd next
theorem AR.append1 {j:Nat} {s:Operand} {n' bytes:Nat} {tn:TypeId} (ht:ElemT P t T z bytes) (hs:evF F s=some (.slice q n' c)) (ho:OwnOk q n' c) (hl:cs.length=n'*z)
    (hx:evF F x=some (.slice (jk b) m c2)) (hj:(A0::rowW q T z n' c cs::L)[j]?=some (AX b tn news)) (hnl:news.length=m*z) (h1:(news.all λu=>u.oneCell')=true) (hm:0<m) (h63:n'+m<=maxLen) (hbytes:(n'+m)*bytes<=140737488355328) (hcs:cs++news=cs2) (hd:Nat.ble (d+1) n=true)
    (next:∀p' c',OwnOk p' (n'+m) c'->p'≠none->AR P ops rest Q n ((d,.slice p' (n'+m) c')::F) w0 (A0::rowW p' T z (n'+m) c' cs2::L)) :
    AR P ops (⟨some d,.call { callee:=.builtin .append,args:=#[s,x],argTypes:=#[t,t] },ty,p,af,none⟩::rest) Q n F w0 (A0::rowW q T z n' c cs::L):=by
  subst hcs
  exact yr 1 j ht hs O ho hl hx hj hnl h1 hm h63 hbytes hd next
theorem BD.nilRow {w:World} {T:TypeId} {z:Nat} (h:BD w0 w L):BD w0 w (rowW none T z 0 0 []::L) :=
  ⟨h.1,λx hx b e=>by
    rcases xN.1 hx with rfl|hx
    · cases e
    · exact h.2.1 x hx b e,List.pairwise_cons.2 ⟨λy hy=>.inr (λb e=>by cases e),h.2.2⟩⟩
theorem zo (T:TypeId) (z:Nat) (h:AR P ops rest Q n F w0 (rowW none T z 0 0 []::L)):AR P ops rest Q n F w0 L:=λa w ha hw=>h a w ha hw.nilRow
theorem BD.newRow {W w:World} {i:Nat} (h:BD ⟨W,none⟩ w L) (hi:L[i]?=some (rowW q T z m c cs)):∀b,q.map (·.block)=some b->W.heap.size<=b:=λb e=>by
  rcases (h.2.1 _ (List.mem_of_getElem? hi) b e).1 with h1|h1|h1
  · cases h1
  · exact h1
  · cases h1
end
structure TW (P:Program) (t e:TypeId) (u:Value) (bytes:Nat):Prop where
  un:P.underlying t=some (.slice e)
  i:∃(i:TypeInfo) (zv:Value),P.info? e=some i/\i.zero=some zv/\i.size=1/\i.bytes=bytes/\zv.cells=#[u]
theorem JG {b m c:Nat} (h:m<=c) (hc:c<=maxLen):OwnOk (jk b) m c:=⟨λe=>(by cases e),λa e=>(by injection e with e;subst e;rfl),h,hc⟩
section
variable {P:Program} {ops:Array Oper} {rest:List Oper} {Q:Exit->Act->World->Prop} {n d i z m c c2:Nat} {F:List (Nat×Value)} {w0:BC} {L:List As} {t ty T:TypeId} {p:String} {af:Array Edge} {x y:Operand} {cs vs cs':List Value} {q:Option Addr} {v u:Value} {A0 A1 A2:As}
theorem AR.makeRow {ki kj:IntKind} {bytes:Nat} (ht:TW P t T u bytes) (hx:evF F x=some (.int ki (m:Nat))) (hy:evF F y=some (.int kj (m:Nat))) (hm:m<=1099511627776) (hb:Nat.ble bytes 16=true) (hd:Nat.ble (d+1) n=true)
    (next:∀b,OwnOk (jk b) m m->AR P ops rest Q n ((d,.slice (jk b) m m)::F) w0 (rowW (jk b) T 1 m m (List.replicate m u)::L)) :
    AR P ops (⟨some d,.makeSlice t x y,ty,p,af,none⟩::rest) Q n F w0 L:=λa w ha hW=>by
  obtain ⟨inf,zv,hi,hz,hs,hby,hzc⟩:=ht.i
  have hble:=Nat.le_of_ble_eq_true hb
  have h1:=run_make (P:=P) w t T inf zv ht.un hi hz ki kj (m:Nat) (m:Nat) Z Z (by
    rw [hby]
    have:bytes*m<=16*m:=Nat.mul_le_mul_right m hble
    have e:((bytes:Nat):Int)*((m:Nat):Int)=((bytes*m:Nat):Int):=by rw [Int.natCast_mul]
    rw [e];omega) Z
  have e1:madeCells zv.cells ((m:Int).toNat*inf.size)=(List.replicate m u).toArray:=by
    rw [hs,hzc]
    apply Array.toList_inj.1
    rw [toList_madeCells_one]
    simp
  rw [e1] at h1
  unfold wpList
  rw [if_pos (AI rfl a ha)]
  left
  unfold Oper.wp
  have he:(execOp a.eval ⟨some d,.makeSlice t x y,ty,p,af,none⟩).run P w=.ok (.value (.slice (some ⟨w.heap.size,0,none⟩) m m)) (w.alloc (.cells (List.replicate m u).toArray T)):=by
    simp only [execOp,ha.ev hx,ha.ev hy,Sem.run_bind,h1,Result.andThen_ok,Sem.run_pure,Int.toNat_natCast]
  rw [he,Oper.upon_value]
  refine next _ (JG (Nat.le_refl _) (LG hm)) _ _ (ha.put (CG hd)) (hW.alloc _ O ⟨_,rfl,by simp,by simp⟩)
theorem ym (i:Nat) {off n':Nat} (hx:evF F x=some (pP (pB q) (pO q+off))) (hy:evF F y=some v) (hi:L[i]?=some (rowW q T z n' c cs)) (ho:OwnOk q n' c) (hcl:cs.length=n'*z) (hq:q≠none)
    (hv:v.cells=vs.toArray) (hs:∀w,(sizeOf ty).run P w=.ok vs.length w) (h1:(vs.all λu=>u.oneCell')=true) (hl:off+vs.length<=n'*z)
    (next:AR P ops rest Q n F w0 (L.set i (rowW q T z n' c (Gd cs off vs)))):AR P ops (⟨none,.store ty x y,t,p,af,none⟩::rest) Q n F w0 L:=λa w ha hW=>by
  cases hqe:q with
  | none=>exact absurd hqe hq
  | some ad =>
    subst hqe
    obtain ⟨o,hob,cur,rfl,hsz,hcur⟩:=hW.holds hi ad.block rfl
    rw [ho.pO,Nat.zero_add] at hx
    have hnc:n'*z<=c*z:=Nat.mul_le_mul_right z ho.le
    have h2:=run_storeCells_at P ad.block off T vs 0 cur w hob Z (λu hu=>List.all_eq_true.1 h1 u hu)
    simp only [Nat.add_zero] at h2
    have he:(execOp a.eval ⟨none,.store ty x y,t,p,af,none⟩).run P w=.ok .skip (w.setRow ad.block (Gd cur.toList off vs).toArray):=by
      simp [execOp,ha.ev hx,ha.ev hy,Instr.storeAt,Instr.sureAddr,storeVar,hs,hv,h2,Gd,pB]
    unfold wpList
    rw [if_pos (AI rfl a ha)]
    left
    unfold Oper.wp
    rw [he,Oper.upon_skip]
    refine next _ _ ha.put_none (hW.turn hi O O ⟨⟨rfl,rfl,rfl,by simp,λk _ hk=>setRow_other w ad.block k _ (λe=>hk (by simp [e]))⟩,Nat.le_refl _⟩ ⟨_,setRow_heap w ad.block cur _ T _ hob,_,rfl,?_,?_⟩)
    · simp only [Gd,List.size_toArray,xL,List.length_take,List.length_drop,Array.length_toList,hsz]
      omega
    · show (Gd cur.toList off vs).take (n'*z)=Gd cs off vs
      have hlc:cur.toList.length=c*z:=by rw [Array.length_toList,hsz]
      rw [<-hcur]
      unfold Gd
      apply List.ext_getElem?
      intro j
      simp only [List.getElem?_take,List.getElem?_append,xL,List.length_take,List.getElem?_drop,hlc]
      split<;>split<;>split<;>(try split)<;>(try split)<;>(try split)<;>first|rfl|omega|(simp_all;done)|(congr 1;omega)|(simp_all;omega)
theorem Xw {cs:List Value} {j:Nat} {v:Value} (h:j<cs.length):Gd cs (j*1) [v]=cs.set j v:=by
  unfold Gd
  rw [Nat.mul_one,List.set_eq_take_append_cons_drop,if_pos h,List.append_assoc]
  rfl
theorem yb {j n':Nat} (hx:evF F x=some (pP (pB q) (pO q+j*1))) (hy:evF F y=some v) (ho:OwnOk q n' c) (hcl:cs.length=n'*1) (hj:j<n')
    (hv:v.cells=#[v]) (hs:∀w,(sizeOf ty).run P w=.ok 1 w) (h1:v.oneCell'=true) (hc:cs.set j v=cs') (next:AR P ops rest Q n F w0 (A0::rowW q T 1 n' c cs'::L)):AR P ops (⟨none,.store ty x y,t,p,af,none⟩::rest) Q n F w0 (A0::rowW q T 1 n' c cs::L):=by
  subst hc
  rw [<-Xw Z] at next
  exact ym 1 (vs:=[v]) hx hy O ho hcl (ho.row.ne Z) hv hs (by simp [h1]) (by simp;omega) next
end
theorem Ju {P:Program} {t ty e:TypeId} {i:TypeInfo} (w:World) (ht:P.underlying t=some (.slice e)) (hi:P.info? e=some i) (q q2:Option Addr) (n c c2:Nat) (hn:n<=c) :
    (Builtin.append_ #[t,t] ty #[.slice q n c,.slice q2 0 c2]).run P w=.ok (.slice q n c) w:=by
  have hf:(Builtin.firstCells i.size 0 (.slice q2 0 c2)).run P w=.ok #[] w:=by
    cases q2 with
    | none=>exact run_firstCells_none (P:=P) (w:=w) i.size 0 0 c2
    | some a=>exact run_firstCells_some (P:=P) (w:=w) i.size 0 a 0 c2 [] jX (λj v h=>by simp at h)
  cases q with
  | none=>simp [Builtin.append_,run_underlying ht,sizeOf,typeInfo,hi,Builtin.lenOf,hn,hf]
  | some a=>simp [Builtin.append_,run_underlying ht,sizeOf,typeInfo,hi,Builtin.lenOf,hn,hf,storeCells]
section
variable {P:Program} {ops:Array Oper} {rest:List Oper} {Q:Exit->Act->World->Prop} {n d z m c c2:Nat} {F:List (Nat×Value)} {w0:BC} {L:List As} {t ty T:TypeId} {p:String} {af:Array Edge} {x y lo:Operand} {cs cs2 news:List Value} {q q2:Option Addr} {A0:As} {dd:Option Tmp} {g:Option (Nat×Bool)}
def cA (w0:BC) (L:List As) (q2:Option Addr) (m:Nat) (news:List Value):Prop:=∀w,BD w0 w L->0<m->∃a,q2=some a/\∀j u,news[j]?=some u->w.cell? (a.add j)=some u
theorem V8 {k n':Nat} (hi:L[k]?=some (AF q cs)) (hok:Ay q n' c):cA w0 L q n' cs:=λw hw hm=>by
  refine ⟨_,hok.some hm,λj u hu=>?_⟩
  obtain ⟨o,ho,hp⟩:=hw.holds hi (pB q) (by cases q with|none=>exact absurd rfl (hok.ne hm)|some a=>rfl)
  rw [Addr.add_lit]
  exact Hd.cell hp ho hu
theorem AR.appendS (i:Nat) {s:Operand} {n' bytes:Nat} (ht:ElemT P t T z bytes) (hs:evF F s=some (.slice q n' c)) (hi:L[i]?=some (rowW q T z n' c cs)) (ho:OwnOk q n' c) (hl:cs.length=n'*z)
    (hx:evF F x=some (.slice q2 m c2)) (hsrc:cA w0 L q2 m news) (hnl:news.length=m*z) (h1:(news.all λu=>u.oneCell')=true) (h63:n'+m<=maxLen) (hbytes:(n'+m)*bytes<=140737488355328) (hd:Nat.ble (d+1) n=true)
    (next:∀p' c',OwnOk p' (n'+m) c'->AR P ops rest Q n ((d,.slice p' (n'+m) c')::F) w0 (L.set i (rowW p' T z (n'+m) c' (cs++news)))) :
    AR P ops (⟨some d,.call { callee:=.builtin .append,args:=#[s,x],argTypes:=#[t,t] },ty,p,af,none⟩::rest) Q n F w0 L:=λa w ha hW=>by
  have e1:=ha.ev hs
  have e2:=ha.ev hx
  unfold wpList
  rw [if_pos (AI rfl a ha)]
  left
  unfold Oper.wp
  rcases Nat.eq_zero_or_pos m with h0|h0
  · subst h0
    obtain ⟨inf,zv,hinf,_⟩:=ht.i
    have hnn:news=[]:=List.eq_nil_of_length_eq_zero (by simpa using hnl)
    subst hnn
    have he:(execOp a.eval ⟨some d,.call { callee:=.builtin .append,args:=#[s,x],argTypes:=#[t,t] },ty,p,af,none⟩).run P w=.ok (.value (.slice q n' c)) w:=by
      simp only [execOp,resolve,invoke,builtin,Sem.run_bind,Sem.run_pure,Result.andThen_ok,List.map_toArray,List.map_cons,List.map_nil,e1,e2,Ju w ht.u hinf q q2 n' c c2 ho.le]
    rw [he,Oper.upon_value]
    have h9:=next q c (by simpa using ho)
    simp only [Nat.add_zero,List.append_nil] at h9
    refine h9 _ _ (ha.put (CG hd)) ?_
    have:L.set i (rowW q T z n' c cs)=L:=by
      apply List.ext_getElem?
      intro j
      rw [List.getElem?_set]
      split
      · rename_i hij;subst hij
        split
        · exact hi.symm
        · rename_i hlt;rw [List.getElem?_eq_none Z]
      · rfl
    rw [this]
    exact hW
  · obtain ⟨ad,rfl,hnews⟩:=hsrc w hW h0
    obtain ⟨p',c',w',hr,h2,h3,h4,h5⟩:=G6 (P:=P) (c2:=c2) (ty:=ty) w ht ho hl (hW.holds hi) ad hnl hnews (λu hu=>List.all_eq_true.1 h1 u hu) h0 h63 hbytes
    have he:(execOp a.eval ⟨some d,.call { callee:=.builtin .append,args:=#[s,x],argTypes:=#[t,t] },ty,p,af,none⟩).run P w=.ok (.value (.slice p' (n'+m) c')) w':=by
      simp only [execOp,resolve,invoke,builtin,Sem.run_bind,Sem.run_pure,Result.andThen_ok,List.map_toArray,List.map_cons,List.map_nil,e1,e2,hr]
    rw [he,Oper.upon_value]
    exact next p' c' h2 _ _ (ha.put (CG hd)) (hW.renew hi O h4 h5)
theorem yT {b:Nat} (m:Nat) (hl:cs.length=m*z) (hm:m<=1099511627776) (next:OwnOk (jk b) m m->AR P ops rest Q n F w0 (rowW (jk b) T z m m cs::L)):AR P ops rest Q n F w0 (AX b T cs::L):=λa w ha hw =>
  next (JG (Nat.le_refl _) (LG hm)) a w ha (hw.freeze (i:=0) (y:=rowW (jk b) T z m m cs) rfl rfl (λo hp=>by subst hp;exact ⟨_,rfl,by simp [hl],by rw [<-hl];simp⟩) (λe=>by cases e))
end
section
variable {P:Program} {ops:Array Oper} {rest:List Oper} {Q:Exit->Act->World->Prop} {n d z m c c2:Nat} {F:List (Nat×Value)} {w0:BC} {L:List As} {t ty T:TypeId} {p:String} {af:Array Edge} {x y lo:Operand} {cs cs2 news:List Value} {q q2:Option Addr} {A0:As} {dd:Option Tmp} {g:Option (Nat×Bool)}
theorem AR.appendS0 {s:Operand} {n' bytes:Nat} (ht:ElemT P t T z bytes) (hs:evF F s=some (.slice q n' c)) (ho:OwnOk q n' c) (hl:cs.length=n'*z)
    (hx:evF F x=some (.slice q2 m c2)) (hsrc:cA w0 (rowW q T z n' c cs::L) q2 m news) (hnl:news.length=m*z) (h1:(news.all λu=>u.oneCell')=true) (h63:n'+m<=maxLen) (hbytes:(n'+m)*bytes<=140737488355328) (hcs:cs++news=cs2) (hd:Nat.ble (d+1) n=true)
    (next:∀p' c',OwnOk p' (n'+m) c'->AR P ops rest Q n ((d,.slice p' (n'+m) c')::F) w0 (rowW p' T z (n'+m) c' cs2::L)) :
    AR P ops (⟨some d,.call { callee:=.builtin .append,args:=#[s,x],argTypes:=#[t,t] },ty,p,af,none⟩::rest) Q n F w0 (rowW q T z n' c cs::L):=by
  subst hcs
  exact AR.appendS 0 ht hs O ho hl hx hsrc hnl h1 h63 hbytes hd next
theorem F3 {T e:TypeId} {k:Nat} (hu:P.underlying T=some (.slice e)) (hs:∀w,(sizeOf e).run P w=.ok k w) :
    ∀a w,Ce n a F->BD w0 w L->(execOp a.eval ⟨dd,.buildSlice T 0 #[],t,p,af,g⟩).run P w=.ok (.value (.slice (some ⟨w.heap.size,0,none⟩) 0 0)) (w.alloc (.cells [].toArray e)):=λA w ha _=>by
  have e1:¬(0*k>2^24):=by omega
  have e2:Array.range 0=#[]:=Array.eq_empty_of_size_eq_zero jX
  simp [execOp,Instr.buildSlice,run_underlying hu,hs,newRow,Instr.fill,e2]
end
section
variable {P:Program} {ops:Array Oper} {rest:List Oper} {Q:Exit->Act->World->Prop} {n:Nat} {F:List (Nat×Value)} {w0:BC} {L:List As}
theorem AR.callW {o:Oper} {f:FuncId} {args:Array Value} {v:Value} (i:Nat) {q:Option Addr} {T:TypeId} {z m c:Nat} {cs cs':List Value} (hw:Wt ops n F o)
    (he:∀a w,Ce n a F->BD w0 w L->(execOp a.eval o).run P w=.ok (.enter f args) w) (hi:L[i]?=some (rowW q T z m c cs))
    (hc:∀w,BD w0 w L->Calls P f args w λe w'=>e=.returned v/\Jm w w' (q.map (·.block))/\∀b,q.map (·.block)=some b->∃o,w'.heap[b]?=some o/\(rowW q T z m c cs').P o)
    (hd:∀d,o.dst=some d->d<n) (next:AR P ops rest Q n (match o.dst with|some d=>(d,v)::F|none=>F) w0 (L.set i (rowW q T z m c cs'))):AR P ops (o::rest) Q n F w0 L:=λa w ha hW=>by
  unfold wpList
  rw [if_pos (hw a ha)]
  left
  unfold Oper.wp
  rw [he a w ha hW,Oper.upon_enter]
  refine (hc w hW).mono ?_
  rintro e w' ⟨rfl,hg,hr⟩
  have hW':=hW.renew hi rfl hg (y:=rowW q T z m c cs') λb e=>⟨.inl e,hr b e⟩
  cases hdd:o.dst with
  | none=>rw [hdd] at next;exact next _ _ ha.put_none hW'
  | some d=>rw [hdd] at next;exact next _ _ (ha.put (hd d hdd)) hW'
end
end
section
section
variable {w0:BC} {L:List As}
theorem BD.addRo {w w':World} {a:As} (h:BD w0 w L) (hb:Fr w.heap.size w w') (hr:a.ro=true) (hh:Holds w' a) (hs:∀b,a.foot=some b->w.heap.size<=b\/∃y∈L,y.ro=true/\y.foot=some b):BD w0 w' (a::L):=by
  have h1:=h.below hb
  refine ⟨h1.1,λz hz b e=>?_,List.pairwise_cons.2 ⟨λz hz=>?_,h1.2.2⟩⟩
  · rcases xN.1 hz with rfl|hz
    · exact ⟨.inl hr,hh b e⟩
    · exact h1.2.1 z hz b e
  · cases hf:a.foot with
    | none=>exact .inr λb e=>by cases e
    | some b =>
      rcases hs b hf with h2|⟨y,hy,hyr,hyf⟩
      · refine .inr λb' e e2=>?_
        injection e with e;subst e
        exact absurd (h.lt hz e2) Z
      · have h3:=Gr hr hyr hf hyf (GT h.2.2 y hy z hz)
        rw [<-hf];exact h3
end
class C4 (α:Type) where
  val:α->Value
  rows:α->List As
  ro:∀a,∀y∈rows a,y.ro=true
def Ro (S:Nat->Prop) (w:World) {α:Type} [C4 α] (a:α):Prop:=∀y∈C4.rows a,Holds w y/\∀b,y.foot=some b->S b
def Bf (α:Type) [C4 α] (S:Nat->Prop) (W:World) (e:Ending) (w:World):Prop :=
  ∃a:α,e=.returned (C4.val a)/\Fr W.heap.size W w/\Ro (λb=>W.heap.size<=b\/S b) w a
def Nw (w0:BC) (S:Nat->Prop) (b:Nat):Prop:=w0.w.heap.size<=b\/S b
def SL (w0:BC) (S:Nat->Prop) (L:List As) (b:Nat):Prop:=(∃y∈L,y.ro=true/\y.foot=some b)/\Nw w0 S b
def At (w0:BC) (S:Nat->Prop) {α:Type} [C4 α] (a:α):Prop:=∀y∈C4.rows a,∀b,y.foot=some b->Nw w0 S b
section
variable {w0:BC} {S:Nat->Prop} {w W:World} {L:List As} {α:Type} [C4 α]
theorem Co (hw:BD w0 w L) (i:Nat) {a:α} (hi:(L.drop i).take (C4.rows a).length=C4.rows a) (ha:At w0 S a):Ro (SL w0 S L) w a:=λy hy=>by
  have hm:y∈L:=List.mem_of_mem_drop (i:=i) (List.mem_of_mem_take (i:=(C4.rows a).length) (by rw [hi];exact hy))
  exact ⟨λb e=>(hw.2.1 y hm b e).2,λb e=>⟨⟨y,hm,C4.ro a y hy,e⟩,ha y hy b e⟩⟩
theorem Ro.mono {S':Nat->Prop} {a:α} (h:Ro S w a) (hs:∀b,S b->S' b):Ro S' w a:=λy hy=>⟨(h y hy).1,λb e=>hs b ((h y hy).2 b e)⟩
theorem Da {a:α} (h:Ro S w a):At ⟨W,none⟩ S a:=λy hy b e=>.inr ((h y hy).2 b e)
theorem Zt {a:α} {v:Value} (hw:BD ⟨W,none⟩ w L) (h:Ro (SL ⟨W,none⟩ S L) w a) (hv:v=C4.val a):Bf α S W (.returned v) w:=⟨a,by rw [hv],hw.out,h.mono λb h=>h.2⟩
theorem Bf.cast {ι:Type} {T:ι->Type} [∀i,C4 (T i)] {i j:ι} (h:i=j) {f:FuncId} {P:Program} {args:Array Value} (k:Calls P f args W (Bf (T i) S W)):Calls P f args W (Bf (T j) S W):=h▸k
theorem Db {a:α} (h:Ro S w a) (t:∀y∈L,y.ro=true/\Holds w y):∀y∈C4.rows a++L,y.ro=true/\Holds w y:=λy hy=>(List.mem_append.1 hy).elim (λk=>⟨C4.ro a y k,(h y k).1⟩) (t y)
end
theorem BD.addRos {w0:BC} {w w':World} {L:List As} (h:BD w0 w L) (hb:Fr w.heap.size w w'):∀(xs:List As),(∀x∈xs,x.ro=true/\Holds w' x/\∀b,x.foot=some b->w.heap.size<=b\/∃y∈L,y.ro=true/\y.foot=some b)->BD w0 w' (xs++L)
  | [],_=>h.below hb
  | x::xs,hx=>by
    have h1:=BD.addRos h hb xs λy hy=>hx y (List.mem_cons_of_mem _ hy)
    obtain ⟨hr,hh,hs⟩:=hx x List.mem_cons_self
    have h2:=h.addRo hb hr hh hs
    refine ⟨h1.1,λy hy=>(xN.1 hy).elim (λe=>h2.2.1 y (e▸List.mem_cons_self)) (λe=>h1.2.1 y e),List.pairwise_cons.2 ⟨λy hy=>?_,h1.2.2⟩⟩
    rcases List.mem_append.1 hy with hy|hy
    · exact .inl ⟨hr,(hx y (List.mem_cons_of_mem _ hy)).1⟩
    · exact (List.pairwise_cons.1 h2.2.2).1 y hy
section
variable {P:Program} {ops:Array Oper} {rest:List Oper} {Q:Exit->Act->World->Prop} {n d:Nat} {F:List (Nat×Value)} {w0:BC} {S:Nat->Prop} {L:List As} {t:TypeId} {p:String} {af:Array Edge} {y:Operand} {f:FuncId} {xs:List Operand} {args:List Value} {ts:Array TypeId}
theorem AR.callRg {α:Type} [C4 α] {g:Option (Nat×Bool)} (hw:Wt ops n F ⟨some d,.call { callee:=.value y,args:=xs.toArray,argTypes:=ts },t,p,af,g⟩) (hc:∀args w,(callFunc f args).run P w=.ok (.enter f args) w) (h:∀w,BD w0 w L->Calls P f args.toArray w (Bf α (SL w0 S L) w))
    (hf:evF F y=some (.func (.func f) #[] #[])) (hargs:xs.map (evF F)=args.map some) (hd:Nat.ble (d+1) n=true) (next:∀a:α,At w0 S a->AR P ops rest Q n ((d,C4.val a)::F) w0 (C4.rows a++L)) :
    AR P ops (⟨some d,.call { callee:=.value y,args:=xs.toArray,argTypes:=ts },t,p,af,g⟩::rest) Q n F w0 L:=λa w ha hW=>by
  unfold wpList
  rw [if_pos (hw a ha)]
  left
  unfold Oper.wp
  rw [Ar hf hargs hc a w ha hW,Oper.upon_enter]
  refine (h w hW).mono ?_
  rintro e w' ⟨v,rfl,hb,hr⟩
  exact next v (λy hy b e=>((hr y hy).2 b e).elim (λh=>.inl (xM hW.1.size h)) λh=>h.2) _ _ (ha.put (CG hd)) (hW.addRos hb _ λx hx=>⟨C4.ro v x hx,(hr x hx).1,λb e=>((hr x hx).2 b e).imp_right λh=>h.1⟩)
theorem yM {α:Type} [C4 α] (hc:∀args w,(callFunc f args).run P w=.ok (.enter f args) w) (h:∀w,BD w0 w L->Calls P f args.toArray w (Bf α (SL w0 S L) w))
    (hf:evF F y=some (.func (.func f) #[] #[])) (hargs:xs.map (evF F)=args.map some) (hd:Nat.ble (d+1) n=true) (next:∀a:α,At w0 S a->AR P ops rest Q n ((d,C4.val a)::F) w0 (C4.rows a++L)) :
    AR P ops (⟨some d,.call { callee:=.value y,args:=xs.toArray,argTypes:=ts },t,p,af,none⟩::rest) Q n F w0 L:=AR.callRg (AI rfl) hc h hf hargs hd next
theorem PH {ops:Array Oper} {o:Oper} {j t:Nat} {b:Bool} (h:o.guard=some (j,b)) (hj:(ops[j]?).bind (·.dst)=some t) (ht:F.lookup t=some undef):∀a,Ce n a F->Region.wanted o (yielded ops a.tmps)=false:=λa ha=>by
  have h1:=ha.2.2 t _ ht
  simp [Region.wanted,h,yielded,hj,h1,undef]
end
end
section
def EP (a b:Nat):Int:=if a<b then -1 else if b<a then 1 else 0
theorem Qq {a b:Nat} (h:a<b):EP a b = -1:=if_pos h
theorem Qp {a b:Nat} (h:¬a<b) (h2:b<a):EP a b=1:=by rw [EP,if_neg h,if_pos h2]
theorem Qo {a b:Nat} (h:¬a<b) (h2:¬b<a):EP a b=0:=by rw [EP,if_neg h,if_neg h2]
def Va (a b:Int):Int:=if a≠0 then a else if b≠0 then b else 0
section
variable {P:Program} {n:Nat} {F:List (Nat×Value)} {w0:BC} {L:List As} {d:Option Tmp} {x:Operand} {t:TypeId} {p:String} {af:Array Edge} {g:Option (Nat×Bool)}
theorem EY {tx e:TypeId} {a:Option Addr} {len cap k:Nat} {hi mx:Operand} {ki kj:IntKind} {m:Nat} (hx:evF F x=some (.slice a len cap)) (hh:evF F hi=some (.int ki (m:Nat))) (hj:evF F mx=some (.int kj (m:Nat))) (hu:P.underlying tx=some (.slice e)) (hs:∀w,(sizeOf e).run P w=.ok k w) (hm:m<=cap) :
    Ex P n F w0 L ⟨d,.slice tx x none (some hi) (some mx),t,p,af,g⟩ (.slice a m m):=λA w ha _=>by
  simp only [execOp,ha.ev hx,Instr.sliceAt,run_underlying hu,Instr.slice,Option.map_some,Option.map_none,ha.ev hh,ha.ev hj,Instr.sliceBounds,Instr.sliceBound,asIntOf,Sem.run_bind,Result.andThen_ok,Sem.run_pure]
  have h1:(0:Int)<=(m:Int)/\(m:Int)<=(cap:Int):=⟨Z,Z⟩
  simp [h1.2,hs]
  cases a<;>simp [Addr.add]
end
section
variable {P:Program} {ops:Array Oper} {rest:List Oper} {Q:Exit->Act->World->Prop} {n:Nat} {F:List (Nat×Value)} {w0:BC} {L L':List As}
end
end
section
set_option maxRecDepth 100000
end
section
set_option maxRecDepth 100000
end
section
set_option maxRecDepth 100000
end
section
section
variable {P:Program} {n:Nat} {F:List (Nat×Value)} {w0:BC} {L:List As} {v:Value} {x lo hi:Operand} {d:Option Tmp} {t:TypeId} {p:String} {af:Array Edge} {g:Option (Nat×Bool)}
end
end
section
set_option maxRecDepth 100000
end
theorem Qi (a b:Pt):(a+b).x=a.x+b.x:=rfl
theorem Qj (a b:Pt):(a+b).y=a.y+b.y:=rfl
theorem O5 (a b:Pt):(a-b).x=a.x-b.x:=rfl
theorem O6 (a b:Pt):(a-b).y=a.y-b.y:=rfl
theorem RS (a:Pt) (k:Rat):(Dk a k).x=a.x*k:=rfl
theorem RT (a:Pt) (k:Rat):(Dk a k).y=a.y*k:=rfl
theorem Ck (a b c:Pt):AN a b c=(b.x-a.x)*(c.y-a.y)-(b.y-a.y)*(c.x-a.x):=rfl
theorem aE (a b:Rat):a<b\/a=b\/b<a:=by grind
theorem Ff {q:Rat} (h:q<0):q.num.sign = -1:=by
  have h1:¬0<=q.num:=λe=>by have:=Rat.num_nonneg.1 e;grind
  exact Int.sign_eq_neg_one_of_neg Z
theorem EI {q:Rat} (h:0<q):q.num.sign=1:=by
  have h1:0<=q.num:=Rat.num_nonneg.2 (by grind)
  have h2:q.num≠0:=λe=>by have:=Rat.num_eq_zero.1 e;grind
  exact Int.sign_eq_one_of_pos Z
theorem O2 {q:Rat} (h:q=0):q.num.sign=0:=by subst h;rfl
theorem F7 (a b:Rat):(a*b).num.sign=a.num.sign*b.num.sign:=by
  rcases aE a 0 with h|h|h
  · rcases aE b 0 with k|k|k
    · have h3:=Rat.mul_pos (a := -a) (b := -b) (by grind) (by grind)
      rw [Ff h,Ff k,EI (q:=a*b) (by grind)];rfl
    · subst k;rw [Rat.mul_zero];simp
    · have h3:=Rat.mul_pos (a := -a) (b:=b) (by grind) (by grind)
      rw [Ff h,EI k,Ff (q:=a*b) (by grind)];rfl
  · subst h;rw [Rat.zero_mul];simp
  · rcases aE b 0 with k|k|k
    · have h3:=Rat.mul_pos (a:=a) (b := -b) (by grind) (by grind)
      rw [EI h,Ff k,Ff (q:=a*b) (by grind)];rfl
    · subst k;rw [Rat.mul_zero];simp
    · have h3:=Rat.mul_pos (a:=a) (b:=b) (by grind) (by grind)
      rw [EI h,EI k,EI (q:=a*b) (by grind)];rfl
theorem F_ (a b c:Pt):AN b c a=AN a b c:=by simp only [Ck];grind
section
theorem XS (a b:Int):(decide (a.natAbs=b.natAbs)&&((decide (a<0) == decide (b<0))&&true))=decide (a=b):=by
  by_cases e:a=b
  · subst e;simp
  · rw [xH e]
    by_cases h1:a<0<;>by_cases h2:b<0<;>simp [h1,h2]<;>omega
theorem XR (D:Nat) (a b:Int):E1 prog (D+4) 75 (.agg (A8 a).toArray) (.agg (A8 b).toArray) (decide (a=b)):=by
  rw [<-XS]
  exact E1.struct underlying75 Tryz.stoodInHeld75 (Iu.agg (us:=AU a.natAbs) (bs:=AU b.natAbs) jY isAgg73 sizeOf73 O O (Oa D _ _) (Iu.one jY isAgg4 O O (E1.bool underlying4) Iu.nil))
theorem UT (a b:Rat):(decide (a.num=b.num)&&(decide (a.den-1=b.den-1)&&true))=decide (a=b):=by
  by_cases e:a=b
  · subst e;simp
  · rw [xH e]
    have h1:=a.den_pos
    have h2:=b.den_pos
    simp only [Bool.and_true,xZ,xU]
    apply Classical.byContradiction
    intro h
    refine e (Rat.ext ?_ ?_)
    · exact Classical.byContradiction λk=>h (.inl k)
    · exact Classical.byContradiction λk=>h (.inr Z)
theorem OZ (D:Nat) (a b:Rat):E1 prog (D+5) 77 (.agg (AC a).toArray) (.agg (AC b).toArray) (decide (a=b)):=by
  rw [<-UT]
  exact E1.struct underlying77 Tryz.stoodInHeld77 (Iu.agg (us:=A8 a.num) (bs:=A8 b.num) jY isAgg75 sizeOf75 O O (XR D _ _) (Iu.agg (us:=AU (a.den-1)) (bs:=AU (b.den-1)) jY isAgg71 sizeOf71 O O (HM (D+2) _ _) Iu.nil))
instance:DecidableEq Pt:=λa b=>decidable_of_iff (a.x=b.x/\a.y=b.y) ⟨λh=>Pt.ext h.1 h.2,λh=>h▸⟨rfl,rfl⟩⟩
theorem ZV (a b:Pt):(decide (a.x=b.x)&&(decide (a.y=b.y)&&true))=decide (a=b):=by
  by_cases e:a=b
  · subst e;simp
  · rw [xH e]
    simp only [Bool.and_true,xZ,xU]
    apply Classical.byContradiction
    intro h
    refine e (Pt.ext ?_ ?_)
    · exact Classical.byContradiction λk=>h (.inl k)
    · exact Classical.byContradiction λk=>h (.inr k)
theorem US (D:Nat) (a b:Pt):E1 prog (D+6) 99 (.agg (AZ a).toArray) (.agg (AZ b).toArray) (decide (a=b)):=by
  rw [<-ZV]
  exact E1.struct underlying99 Tryz.stoodInHeld99 (Iu.agg (us:=AC a.x) (bs:=AC b.x) jY isAgg77 sizeOf77 O O (OZ D _ _) (Iu.agg (us:=AC a.y) (bs:=AC b.y) jY isAgg77 sizeOf77 O O (OZ D _ _) Iu.nil))
section
variable {P:Program}
def OC (P:Program) (D:Nat) (e:TypeId) (c:Nat) (xs ys:List Value) (is:List Nat) (b:Bool):Prop:=∀w,(Go.Op.eqItems D e c xs.toArray ys.toArray is).run P w=.ok b w
theorem OC.nil {D c:Nat} {e:TypeId} {xs ys:List Value}:OC P D e c xs ys [] true:=λw=>rfl
theorem E1.array {D n c:Nat} {T e:TypeId} {xs ys:List Value} {b:Bool} (hu:P.underlying T=some (.array n e)) (hi:∃i,P.info? e=some i) (hc:P.cellsOf e=c) (h:OC P D e c xs ys (List.range n) b) :
    E1 P (D+1) T (.agg xs.toArray) (.agg ys.toArray) b:=λw=>by
  obtain ⟨i,hi⟩:=hi
  rw [Go.run_equalIn_array w D xs.toArray ys.toArray hu hi,hc]
  exact h w
end
section
variable {P:Program} {n:Nat} {F:List (Nat×Value)} {w0:BC} {L:List As} {x y:Operand} {d:Option Tmp} {t:TypeId} {p:String} {af:Array Edge} {g:Option (Nat×Bool)}
end
end
section
structure QD where
  n:Int
  d:Nat
structure PD where
  x:QD
  y:QD
def YM (q:QD):List Value:=[.int .i64 q.n,.int .u32 (q.d:Nat)]
def RI (p:PD):List Value:=YM p.x++YM p.y
def QD.ok (q:QD):Prop := -9223372036854775808<=q.n/\q.n<9223372036854775808/\q.d<4294967296
def PD.ok (p:PD):Prop:=p.x.ok/\p.y.ok
def N_ (q:QD):Rat:=((q.n:Int):Rat)/(((max q.d 1:Nat):Int):Rat)
def CM (p:PD):Pt:=⟨N_ p.x,N_ p.y⟩
theorem Tf {q:QD} (h:q.ok):Sz (N_ q)<=4:=by
  obtain ⟨h1,h2,h3⟩:=h
  have s1:=M_ h1 h2
  have s2:=M_ (z:=((max q.d 1:Nat):Int)) Z Z
  have hb:(((max q.d 1:Nat):Int):Rat)≠0:=λe=>by
    have:((max q.d 1:Nat):Int)=0:=by exact_mod_cast e
    omega
  have:=KW (a:=((q.n:Int):Rat)) hb
  unfold N_
  omega
theorem OD {p:PD} (h:p.ok):Bc (CM p)<=4:=M9 (Tf h.1) (Tf h.2)
section
variable {P:Program} {w:World} {r:Reach} {base:Nat}
def N6:List IntKind->List Int->List Value
  | k::ks,n::ns=>.int k n::N6 ks ns
  | _,_=>[]
def Hp:List IntKind->List Int->Prop
  | [],[]=>True
  | k::ks,n::ns=>k.has n/\Hp ks ns
  | _,_=>False
theorem Kh:∀(ts:List TypeId) (ks:List IntKind) (cs:List Value),ts.map P.underlying=ks.map (λk=>some (.int k))->cs.length=ts.length ->
    (∀(i:Nat) v,cs[i]?=some v->∃u,ts[i]?=some u/\Cell.okWide P w r base u v)->∃ns,cs=N6 ks ns/\Hp ks ns
  | [],[],[],_,_,_=>⟨[],rfl,trivial⟩
  | t::ts,k::ks,c::cs,hk,hl,hc=>by
    simp only [List.map_cons,List.cons.injEq] at hk
    obtain ⟨ns,hns,hh⟩:=Kh ts ks cs hk.2 (by simpa using hl) (λi v hv=>by simpa using hc (i+1) v (by simpa using hv))
    obtain ⟨u,hu,ho⟩:=hc 0 c jX
    simp only [List.getElem?_cons_zero,Option.some.injEq] at hu
    subst hu
    simp only [Cell.okWide,hk.1] at ho
    have ho':∃n,c=.int k n/\k.has n:=by
      unfold Cell.ok at ho
      rw [hk.1] at ho
      cases c<;>simp at ho
      exact ⟨_,by rw [ho.1],ho.2⟩
    obtain ⟨n,rfl,hn⟩:=ho'
    exact ⟨n::ns,by rw [hns];rfl,hn,hh⟩
  | [],_::_,_,hk,_,_=>by simp at hk
  | _::_,[],_,hk,_,_=>by simp at hk
  | _::_,_::_,[],_,hl,_=>by simp at hl
  | [],[],_::_,_,hl,_=>by simp at hl
theorem Tn {t:TypeId} {v:Value} {ts:List TypeId} (ks:List IntKind) (hag:(match P.underlying t with|some (.struct _)=>true|some (.array _ _)=>true|_=>false)=true) (hts:P.cellTypes P.depth t=some ts) (hsz:P.cellsOf t=ts.length)
    (hk:ts.map P.underlying=ks.map (λk=>some (.int k))) (hv:Value.okWide P w r base t v):∃ns,v=.agg (N6 ks ns).toArray/\Hp ks ns:=by
  have h1:∃cs,v=.agg cs/\cs.size=P.cellsOf t/\Row.okWide P w r base t cs:=by
    unfold Value.okWide at hv
    split at hv
    · exact hv
    · exact hv
    · rename_i h2 h3
      split at hag
      · rename_i e;exact absurd e (h2 _)
      · rename_i e;exact absurd e (h3 _ _)
      · cases hag
  obtain ⟨cs,rfl,hs,ts',hts',⟨n,hn⟩,hc⟩:=h1
  obtain rfl:=Option.some.inj (hts.symm.trans hts')
  obtain ⟨ns,h2,h3⟩:=Kh (P:=P) (w:=w) (r:=r) (base:=base) ts ks cs.toList hk (by simp [hs,hsz]) (λi v hv=>by
    have hlt:i<ts.length:=by
      rcases Nat.lt_or_ge i cs.toList.length with h|h
      · simpa [hs,hsz] using h
      · rw [List.getElem?_eq_none h] at hv;cases hv
    have:=hc i v (by simpa using hv)
    rwa [Nat.mod_eq_of_lt hlt] at this)
  exact ⟨ns,by rw [<-h2],h3⟩
end
theorem Xi {n:Int} (h:IntKind.i64.has n):-9223372036854775808<=n/\n<9223372036854775808:=by
  simp only [IntKind.has,IntKind.min,IntKind.max,IntKind.bits,IntKind.signed] at h;simp at h;omega
theorem Yj {n:Int} (h:IntKind.u32.has n):0<=n/\n<4294967296:=by
  simp only [IntKind.has,IntKind.min,IntKind.max,IntKind.bits,IntKind.signed] at h;simp at h;omega
theorem Y8 {ks:List IntKind}:∀{ns:List Int},Hp (.i64::.u32::ks) ns->∃(q:QD) (ms:List Int),q.ok/\N6 (.i64::.u32::ks) ns=YM q++N6 ks ms/\Hp ks ms
  | [],h=>h.elim
  | [_],h=>h.2.elim
  | a::b::ms,h=>by
    have h1:=Xi h.1
    have h2:=Yj h.2.1
    refine ⟨⟨a,b.toNat⟩,ms,⟨h1.1,h1.2,by show b.toNat<_;omega⟩,?_,h.2.2⟩
    simp only [N6,YM,List.cons_append,List.nil_append]
    rw [Int.toNat_of_nonneg h2.1]
theorem a_ {ks:List IntKind} {ns:List Int} (h:Hp (.i64::.u32::.i64::.u32::ks) ns):∃(p:PD) (ms:List Int),p.ok/\N6 (.i64::.u32::.i64::.u32::ks) ns=RI p++N6 ks ms/\Hp ks ms:=by
  obtain ⟨q,ms,hq,e,h1⟩:=Y8 h
  obtain ⟨q',ms',hq',e',h2⟩:=Y8 h1
  exact ⟨⟨q,q'⟩,ms',⟨hq,hq'⟩,by rw [e,e',RI,List.append_assoc],h2⟩
def kQ:List IntKind:=[.i64,.u32]
theorem Wd (ms:List Int):N6 [] ms=[]:=by cases ms<;>rfl
section
variable {P:Program} {w:World} {r:Reach} {base:Nat} {t:TypeId} {v:Value} {ts:List TypeId}
end
end
end Go.Proofs.YtpolhpjiahbidaaGreatDoor
