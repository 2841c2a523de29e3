import Derived.Laws.AppendOwn
import Derived.Test.YtbfdamnfcmefmaaGreatDoorPend14
namespace Go.Proofs.YtbfdamnfcmefmaaGreatDoor
open Go Go.RowKit Go.Proofs.Tryz
open Go.Value renaming slice→qz,bool→qa
set_option linter.unusedVariables false
set_option linter.unusedSimpArgs false
section
def Holds (w:World) (x:As):Prop:=∀b,x.foot=some b->∃o,w.heap[b]?=some o/\x.P o
theorem BH.holds {w0:BD} {w:World} {L:List As} {x:As} {i:Nat} (h:BH w0 w L) (hi:L[i]?=some x):Holds w x:=λb e=>(h.2.1 x (List.mem_of_getElem? hi) b e).2
theorem BH.startR {w:World} {L:List As} (h:∀x∈L,x.ro=true/\Holds w x):BH ⟨w,none⟩ w L:=by
  refine ⟨D6 (Hm.refl _ _) _,λx hx b e=>⟨.inl (h x hx).1,(h x hx).2 b e⟩,?_⟩
  refine List.Pairwise.imp_of_mem (R:=λ_ _=>True) (λ{a b} ha hb _=>.inl ⟨(h a ha).1,(h b hb).1⟩) ?_
  exact List.pairwise_of_forall (λ_ _=>trivial)
theorem Ag {P:Program} {f:FuncId} {fn:Func} {c:Code} {args:List Value} {w:World} {R:Ending->World->Prop} {n:Nat} {L:List As}
    (hf:P.funcs[f]?=some fn) (hb:fn.body=some c) (hn:fn.ntmps=n) (hl:args.length<=n) (hL:∀x∈L,x.ro=true/\Holds w x)
    (h:OkC P c (bodyPost P fn R) n (Fh 0 args) ⟨w,none⟩ L):Calls P f args.toArray w R:=by
  refine calls_of_wp hf hb ?_
  rw [hn]
  exact h _ _ (HO hl _ λk v hk=>by simpa using (DJ args 0 k v hk).2) (BH.startR hL)
theorem Az {w:World}:∀x∈([]:List As),x.ro=true/\Holds w x:=λx hx=>by cases hx
theorem BH.renew {w0:BD} {w w':World} {L:List As} {x y:As} {i:Nat} (h:BH w0 w L) (hi:L[i]?=some x) (hx:x.ro=false) (hg:Jq w w' x.foot)
    (hy:∀b,y.foot=some b->(x.foot=some b\/w.heap.size<=b)/\∃o,w'.heap[b]?=some o/\y.P o):BH w0 w' (L.set i y):=by
  have hil:i<L.length:=by
    rcases Nat.lt_or_ge i L.length with h1|h1
    · exact h1
    · rw [List.getElem?_eq_none h1] at hi;cases hi
  have hxi:L[i]=x:=by rw [xP hil] at hi;injection hi
  have hpair:=List.pairwise_iff_getElem.1 h.2.2
  have hcond:∀b,x.foot=some b->w0.w.heap.size<=b\/w0.ex=some b:=λb e=>((h.2.1 x (List.mem_of_getElem? hi) b e).1).resolve_left (by simp [hx])
  have apartx:∀j (hj:j<L.length),j≠i->∀c,L[j].foot=some c->x.foot≠some c:=λj hj hji c e e2=>by
    have hxr:¬L[i].ro=true:=by rw [hxi,hx];simp
    rcases Nat.lt_or_gt_of_ne hji with hlt|hgt
    · exact (hpair j i hj hil hlt).resolve_left (λk=>hxr k.2) c e (by rw [hxi];exact e2)
    · exact (hpair i j hil hj hgt).resolve_left (λk=>hxr k.1) c (by rw [hxi];exact e2) e
  have aparty:∀j (hj:j<L.length),j≠i->∀c,L[j].foot=some c->y.foot≠some c:=λj hj hji c e e2=>by
    rcases (hy c e2).1 with h1|h1
    · exact apartx j hj hji c e h1
    · exact absurd (h.lt (List.getElem_mem hj) e) Z
  refine ⟨⟨⟨hg.os.trans h.1.os,hg.tape.trans h.1.tape,hg.output.trans h.1.output,xM h.1.size hg.size,λk hk hne=>?_⟩,xM h.1.drawn hg.drawn⟩,λz hz c e=>?_,List.pairwise_iff_getElem.2 λp q hp hq hpq=>?_⟩
  · refine (hg.block k (Nat.lt_of_lt_of_le hk h.1.size) λe=>?_).trans (h.1.block k hk hne)
    rcases hcond k e.symm with h1|h1
    · omega
    · exact hne h1.symm
  · obtain ⟨j,hj,rfl⟩:=List.getElem_of_mem hz
    simp only [List.length_set] at hj
    by_cases hji:j=i
    · subst hji
      simp only [List.getElem_set_self] at e ⊢
      obtain ⟨h1,h2⟩:=hy c e
      refine ⟨?_,h2⟩
      rcases h1 with h1|h1
      · exact .inr (hcond c h1)
      · exact .inr (.inl (xM h.size h1))
    · rw [List.getElem_set_ne (Ne.symm hji)] at e ⊢
      obtain ⟨h1,o,h2,h3⟩:=h.2.1 _ (List.getElem_mem hj) c e
      exact ⟨h1,o,(hg.block c (h.lt (List.getElem_mem hj) e) (λhc=>apartx j hj hji c e hc.symm)).trans h2,h3⟩
  · simp only [List.length_set] at hp hq
    by_cases hpi:p=i
    · subst hpi
      have hqi:q≠p:=by omega
      rw [List.getElem_set_self,List.getElem_set_ne (Ne.symm hqi)]
      exact .inr λc e e2=>aparty q (by simpa using hq) hqi c e2 e
    · by_cases hqi:q=i
      · subst hqi
        rw [List.getElem_set_self,List.getElem_set_ne (Ne.symm hpi)]
        exact .inr λc e e2=>aparty p (by simpa using hp) hpi c e e2
      · rw [List.getElem_set_ne (Ne.symm hpi),List.getElem_set_ne (Ne.symm hqi)]
        exact hpair p q hp hq hpq
theorem BH.freeze {w0:BD} {w:World} {L:List As} {x y:As} {i:Nat} (h:BH w0 w L) (hi:L[i]?=some x) (hf:y.foot=x.foot) (hp:∀o,x.P o->y.P o) (hr:x.ro=true->y.ro=true):BH w0 w (L.set i y):=by
  have hil:i<L.length:=by
    rcases Nat.lt_or_ge i L.length with h1|h1
    · exact h1
    · rw [List.getElem?_eq_none h1] at hi;cases hi
  have hxi:L[i]=x:=by rw [xP hil] at hi;injection hi
  have hpair:=List.pairwise_iff_getElem.1 h.2.2
  refine ⟨h.1,λz hz c e=>?_,List.pairwise_iff_getElem.2 λp q hp hq hpq=>?_⟩
  · obtain ⟨j,hj,rfl⟩:=List.getElem_of_mem hz
    simp only [List.length_set] at hj
    by_cases hji:j=i
    · subst hji
      simp only [List.getElem_set_self] at e ⊢
      obtain ⟨h1,o,h2,h3⟩:=h.2.1 x (List.mem_of_getElem? hi) c (hf▸e)
      exact ⟨h1.imp_left hr,o,h2,hp o h3⟩
    · rw [List.getElem_set_ne (Ne.symm hji)] at e ⊢
      exact h.2.1 _ (List.getElem_mem hj) c e
  · simp only [List.length_set] at hp hq
    have key:∀j (hj:j<L.length),((L.set i y)[j]'(by simpa using hj)).foot=L[j].foot/\(L[j].ro=true->((L.set i y)[j]'(by simpa using hj)).ro=true):=λj hj=>by
      by_cases hji:j=i
      · subst hji
        simp only [List.getElem_set_self]
        rw [hxi]
        exact ⟨hf,hr⟩
      · rw [List.getElem_set_ne (Ne.symm hji)]
        exact ⟨rfl,id⟩
    rcases hpair p q hp hq hpq with h1|h1
    · exact .inl ⟨(key p hp).2 h1.1,(key q hq).2 h1.2⟩
    · refine .inr λb e=>?_
      rw [(key p hp).1] at e
      rw [(key q hq).1]
      exact h1 b e
def pB:Option Addr->Nat
  | some a=>a.block
  | none=>0
def pO:Option Addr->Nat
  | some a=>a.off
  | none=>0
def Hf (off:Nat) (cs:List Value) (o:Obj):Prop:=∃cur T fr,o=.cells cur T fr/\(cur.toList.drop off).take cs.length=cs
def AN (p:Option Addr) (cs:List Value):As:=⟨p.map (·.block),Hf (pO p) cs,true⟩
def rowW (p:Option Addr) (T:TypeId) (z n c:Nat) (cs:List Value):As:=⟨p.map (·.block),λo=>∃cur,o=.cells cur T (0,0)/\cur.size=c*z/\cur.toList.take (n*z)=cs,false⟩
structure A8 (p:Option Addr) (n c:Nat):Prop where
  nil:p=none->n=0/\c=0
  spot:∀a,p=some a->a.spot=none
  le:n<=c
structure OwnOk (p:Option Addr) (n c:Nat):Prop where
  nil:p=none->n=0/\c=0
  at0:∀a,p=some a->a=⟨a.block,0,none⟩
  le:n<=c
  max:c<=maxLen
theorem OwnOk.row {p:Option Addr} {n c:Nat} (h:OwnOk p n c):A8 p n c:=⟨h.nil,λa e=>by rw [h.at0 a e],h.le⟩
theorem OwnOk.none:OwnOk none 0 0:=⟨λ_=>⟨rfl,rfl⟩,(λ_ e=>by cases e),Nat.le_refl _,by decide⟩
theorem OwnOk.pO {p:Option Addr} {n c:Nat} (h:OwnOk p n c):pO p=0:=by
  cases p with
  | none=>rfl
  | some a=>show a.off=0;rw [h.at0 a rfl]
theorem A8.some {p:Option Addr} {n c:Nat} (h:A8 p n c) (hn:0<n):p=some ⟨pB p,Go.Proofs.YtbfdamnfcmefmaaGreatDoor.pO p,none⟩:=by
  cases p with
  | none=>have:=(h.nil rfl).1;omega
  | some a =>
    have hs:=h.spot a rfl
    cases a with|mk b o s=>simp only at hs;subst hs;rfl
theorem DY {p:Option Addr} {T:TypeId} {z n c:Nat} {cs:List Value} {o:Obj} (ho:OwnOk p n c) (hl:cs.length=n*z) (h:(rowW p T z n c cs).P o):Hf (pO p) cs o:=by
  obtain ⟨cur,rfl,_,h2⟩:=h
  exact ⟨cur,T,(0,0),rfl,by rw [ho.pO,List.drop_zero,hl];exact h2⟩
theorem Hf.cell {w:World} {b off j:Nat} {cs:List Value} {o:Obj} {v:Value} (h:Hf off cs o) (hb:w.heap[b]?=some o) (hj:cs[j]?=some v):w.cell? ⟨b,off+j,none⟩=some v:=by
  obtain ⟨cur,T,fr,rfl,hcs⟩:=h
  rw [cell_of_row w b _ _ T fr hb]
  rw [<-hcs,List.getElem?_take] at hj
  split at hj
  · simpa using hj
  · cases hj
section
variable {P:Program} {ops:Array Oper} {rest:List Oper} {Q:Exit->Act->World->Prop} {n d i b off k z m c c2:Nat} {F F':List (Nat×Value)} {w0:BD} {L L' Lro:List As} {t ty T:TypeId} {p:String} {af:Array Edge} {dd:Option Tmp} {g:Option (Nat×Bool)} {v:Value} {x y:Operand} {cs vs news:List Value} {q:Option Addr}
theorem R4 {w:World} (hw:BH w0 w L) (hi:L[i]?=some (AN q cs)) (hq:q≠none):CA w (pB q) (pO q+k) ((cs.drop k).take m):=λj u hu=>by
  cases hqe:q with
  | none=>exact absurd hqe hq
  | some a =>
    subst hqe
    obtain ⟨o,ho,hp⟩:=hw.holds hi a.block rfl
    rw [Nat.add_assoc]
    refine Hf.cell hp ho ?_
    rw [List.getElem?_take] at hu
    split at hu
    · simpa using hu
    · cases hu
theorem Y3 {w:World} {n':Nat} (hw:BH w0 w L) (hi:L[i]?=some (rowW q T z n' c cs)) (ho:OwnOk q n' c) (hl:cs.length=n'*z) (hq:q≠none):CA w (pB q) (pO q+k) ((cs.drop k).take m):=λj u hu=>by
  cases hqe:q with
  | none=>exact absurd hqe hq
  | some a =>
    subst hqe
    obtain ⟨o,ho',hp⟩:=hw.holds hi a.block rfl
    rw [Nat.add_assoc]
    refine Hf.cell (DY ho hl hp) ho' ?_
    rw [List.getElem?_take] at hu
    split at hu
    · simpa using hu
    · cases hu
theorem AO {s e:TypeId} {ki:IntKind} {i:Int} {j n':Nat} (hx:evF F x=some (.slice q n' c)) (hy:evF F y=some (.int ki i)) (ho:A8 q n' c)
    (hu:P.underlying s=some (.slice e)) (hs:∀w,(sizeOf e).run P w=.ok z w) (hi:i=(j:Int)) (hj:j<n'):Ex P n F w0 L ⟨dd,.indexAddr s x y,t,p,af,g⟩ (pP (pB q) (pO q+j*z)):=by
  have he:=ho.some Z
  rw [he] at hx
  exact AG (len:=n') hx hy hu hs hi hj O
theorem AM {off:Nat} (hx:evF F x=some (pP (pB q) (pO q+off))) (hi:L[i]?=some (AN q cs)) (hq:q≠none) (ht:Dd P ty k) (hv:(cs.drop off).take k=vs) (hl:vs.length=k):Ex P n F w0 L ⟨dd,.load ty x,t,p,af,g⟩ (aG vs) :=
  FD hx (λw hw=>hv▸R4 hw hi hq) ht.a ht.s hl
theorem BA {off:Nat} (hx:evF F x=some (pP (pB q) (pO q+off))) (hi:L[i]?=some (AN q cs)) (hq:q≠none) (ht:Fu P ty) (hv:cs[off]?=some v):Ex P n F w0 L ⟨dd,.load ty x,t,p,af,g⟩ v :=
  Bc hx (λw hw=>by
    have h:=R4 (k:=off) (m:=1) hw hi hq 0 v (by rw [List.getElem?_take,if_pos Z];simpa using hv)
    simpa using h) ht.a
theorem Cp {off n':Nat} (hx:evF F x=some (pP (pB q) (pO q+off))) (hi:L[i]?=some (rowW q T z n' c cs)) (ho:OwnOk q n' c) (hcl:cs.length=n'*z) (hq:q≠none) (ht:Dd P ty k) (hv:(cs.drop off).take k=vs) (hl:vs.length=k):Ex P n F w0 L ⟨dd,.load ty x,t,p,af,g⟩ (aG vs) :=
  FD hx (λw hw=>hv▸Y3 hw hi ho hcl hq) ht.a ht.s hl
structure ElemT (P:Program) (t e:TypeId) (z bytes:Nat):Prop where
  u:P.underlying t=some (.slice e)
  i:∃(i:TypeInfo) (zv:Value),P.info? e=some i/\i.zero=some zv/\i.size=z/\i.bytes=bytes/\zv.cells.size=z
theorem Ma {k:Nat} (h:k<=1099511627776):k<=maxLen:=xM h jY
theorem FC {P:Program} {e:TypeId} {z bytes:Nat} (h:(match P.info? e with|some i=>Nat.beq i.size z&&Nat.beq i.bytes bytes&&(match i.zero with|some zv=>Nat.beq zv.cells.size z|none=>false)|none=>false)=true) :
    ∃(i:TypeInfo) (zv:Value),P.info? e=some i/\i.zero=some zv/\i.size=z/\i.bytes=bytes/\zv.cells.size=z:=by
  cases hi:P.info? e with
  | none=>rw [hi] at h;cases h
  | some i =>
    rw [hi] at h
    simp only [yz] at h
    cases hz:i.zero with
    | none=>rw [hz] at h;cases h.2
    | some zv =>
      rw [hz] at h
      exact ⟨i,zv,rfl,hz,Nat.eq_of_beq_eq_true h.1.1,Nat.eq_of_beq_eq_true h.1.2,Nat.eq_of_beq_eq_true h.2⟩
theorem Gy (w:World) {n m:Nat} {ty e:TypeId} {z bytes:Nat} (ht:ElemT P t e z bytes) (ho:OwnOk q n c) (hl:cs.length=n*z) (hold:∀b,q.map (·.block)=some b->∃o,w.heap[b]?=some o/\(rowW q e z n c cs).P o)
    (a:Addr) (hnl:news.length=m*z) (hnews:∀j u,news[j]?=some u->w.cell? (a.add j)=some u) (h1:∀u∈news,u.oneCell'=true) (hm:0<m) (h63:n+m<=maxLen) (hbytes:(n+m)*bytes<=140737488355328) :
    ∃p' c' w',(Builtin.append_ #[t,t] ty #[.slice q n c,.slice (some a) m c2]).run P w=.ok (.slice p' (n+m) c') w'/\OwnOk p' (n+m) c'/\p'≠none/\Jq w w' (q.map (·.block)) /\
      ∀b,p'.map (·.block)=some b->(q.map (·.block)=some b\/w.heap.size<=b)/\∃o,w'.heap[b]?=some o/\(rowW p' e z (n+m) c' (cs++news)).P o:=by
  obtain ⟨i,zv,hi,hz,rfl,rfl,hzs⟩:=ht.i
  have hlen:(cs++news).length=(n+m)*i.size:=by rw [xL,hl,hnl,Nat.add_mul]
  have grown:∀(old:Nat),old<n+m->∀row,OwnOk (some ⟨w.heap.size,0,none⟩) (n+m) (grownCap w (n+m) old e) /\
      Jq w (w.drew.alloc (.cells (cs.toArray++news.toArray++Builtin.zeroCells zv.cells (grownCap w (n+m) old e-(n+m))) e)) row /\
      ∃o,(w.drew.alloc (.cells (cs.toArray++news.toArray++Builtin.zeroCells zv.cells (grownCap w (n+m) old e-(n+m))) e)).heap[w.heap.size]?=some o/\(rowW (some ⟨w.heap.size,0,none⟩) e i.size (n+m) (grownCap w (n+m) old e) (cs++news)).P o:=by
    intro old hold' row
    have hge:=grownCap_ge w (n+m) old e
    refine ⟨⟨λh=>(by cases h),λa h=>(by injection h with h;subst h;rfl),hge,grownCap_le_maxLen w (n+m) old e h63⟩,⟨⟨rfl,rfl,rfl,by simp,λk hk _=>by first|exact heap_alloc_old w.drew _ k hk|exact heap_alloc_old w.drew _ hk⟩,Nat.le_succ _⟩,_,heap_alloc_new w.drew _,_,rfl,?_,?_⟩
    · simp only [Array.size_append,List.size_toArray,size_zeroCells,hzs,hl,hnl,<-Nat.add_mul]
      congr 1
      omega
    · simp only [Array.toList_append,List.append_assoc]
      rw [<-List.append_assoc,<-hlen]
      exact List.take_left
  cases hq:q with
  | none =>
    subst hq
    obtain ⟨rfl,rfl⟩:=ho.nil rfl
    have hx:cs=[]:=List.eq_nil_of_length_eq_zero (by simpa using hl)
    subst hx
    have hr:=run_append_nil (P:=P) w t ty e i zv ht.u hi hz a m c2 news hnl hnews hm (by simp only [maxLen] at h63;omega) (by have hb:=hbytes;simp only [Nat.zero_add] at hb;omega)
    obtain ⟨g1,g2,g3⟩:=grown 0 Z ((none:Option Addr).map (·.block))
    simp only [Nat.zero_add,List.nil_append,Array.empty_append] at g1 g2 g3 ⊢
    refine ⟨_,_,_,hr,g1,by simp,g2,λb e=>?_⟩
    injection e with e;subst e
    exact ⟨.inr (Nat.le_refl _),g3⟩
  | some ad =>
    subst hq
    obtain ⟨o,hob,cur,rfl,hcs,htake⟩:=hold ad.block rfl
    have hat:=ho.at0 ad rfl
    rw [hat]
    by_cases hroom:n+m<=c
    · have hfit:n*i.size+news.length<=cur.size:=by rw [hnl,hcs,<-Nat.add_mul];exact Nat.mul_le_mul_right _ hroom
      have hr:=run_append_room (P:=P) w t ty e i ht.u hi ad.block n c cur hob a m c2 news hnl hnews h1 hroom hfit
      refine ⟨_,_,_,hr,⟨λh=>(by cases h),λa h=>(by injection h with h;subst h;rfl),hroom,ho.max⟩,by simp,⟨⟨rfl,rfl,rfl,by simp,λk _ hk=>setRow_other w ad.block k _ (λe=>hk (by simp [e]))⟩,Nat.le_refl _⟩,λb e=>?_⟩
      injection e with e;subst e
      refine ⟨.inl O,_,setRow_heap w ad.block cur _ e _ hob,_,rfl,?_,?_⟩
      · simp only [List.size_toArray,xL,List.length_take,List.length_drop,Array.length_toList]
        omega
      · rw [htake,<-hlen]
        exact List.take_left
    · have holds:∀j u,cs[j]?=some u->w.cell? ((⟨ad.block,0,none⟩:Addr).add j)=some u:=λj u hu=>by
        have:=Hf.cell (DY (p:=some ad) ho hl ⟨cur,rfl,hcs,htake⟩) hob hu
        rw [ho.pO] at this
        rw [Addr.add_lit]
        simpa using this
      have hr:=run_append_grow (P:=P) w t ty e i zv ht.u hi hz ⟨ad.block,0,none⟩ n c cs hl holds a m c2 news hnl hnews Z (by simp only [maxLen] at h63;omega) (growslice_fits Z hbytes)
      obtain ⟨g1,g2,g3⟩:=grown c Z ((some (⟨ad.block,0,none⟩:Addr)).map (·.block))
      refine ⟨_,_,_,hr,g1,by simp,g2,λb e=>?_⟩
      injection e with e;subst e
      exact ⟨.inr (Nat.le_refl _),g3⟩
theorem yr (i j:Nat) {s:Operand} {n' bytes:Nat} {tn:TypeId} (ht:ElemT P t T z bytes) (hs:evF F s=some (.slice q n' c)) (hi:L[i]?=some (rowW q T z n' c cs)) (ho:OwnOk q n' c) (hl:cs.length=n'*z)
    (hx:evF F x=some (.slice (jk b) m c2)) (hj:L[j]?=some (AY b tn news)) (hnl:news.length=m*z) (h1:(news.all λu=>u.oneCell')=true) (hm:0<m) (h63:n'+m<=maxLen) (hbytes:(n'+m)*bytes<=140737488355328) (hd:Nat.ble (d+1) n=true)
    (next:∀p' c',OwnOk p' (n'+m) c'->p'≠none->AR P ops rest Q n ((d,.slice p' (n'+m) c')::F) w0 (L.set i (rowW p' T z (n'+m) c' (cs++news)))) :
    AR P ops (⟨some d,.call { callee:=.builtin .append,args:=#[s,x],argTypes:=#[t,t] },ty,p,af,none⟩::rest) Q n F w0 L:=λa w ha hW=>by
  have hnews:∀j u,news[j]?=some u->w.cell? ((⟨b,0,none⟩:Addr).add j)=some u:=λj u hu=>by
    have h:=cell_of_row w b j _ tn (0,0) (hW.get hj)
    rw [Addr.add_lit]
    simp only [Nat.zero_add]
    rw [h];simpa using hu
  obtain ⟨p',c',w',hr,h2,h3,h4,h5⟩:=Gy (P:=P) (c2:=c2) (ty:=ty) w ht ho hl (hW.holds hi) ⟨b,0,none⟩ hnl hnews (λu hu=>List.all_eq_true.1 h1 u hu) hm h63 hbytes
  unfold wpList
  rw [if_pos (AI rfl a ha)]
  left
  unfold Oper.wp
  have e1:=ha.ev hs
  have e2:=ha.ev hx
  have he:(execOp a.eval ⟨some d,.call { callee:=.builtin .append,args:=#[s,x],argTypes:=#[t,t] },ty,p,af,none⟩).run P w=.ok (.value (.slice p' (n'+m) c')) w':=by
    simp only [execOp,resolve,invoke,builtin,Sem.run_bind,Sem.run_pure,Result.andThen_ok,List.map_toArray,List.map_cons,List.map_nil,e1,e2,hr]
  rw [he,Oper.upon_value]
  exact next p' c' h2 h3 _ _ (ha.put (B_ hd)) (hW.renew hi O h4 h5)
end
theorem A8.ne {p:Option Addr} {n c:Nat} (h:A8 p n c) (hn:0<n):p≠none:=λe=>by have:=(h.nil e).1;omega
section
variable {P:Program} {ops:Array Oper} {rest:List Oper} {Q:Exit->Act->World->Prop} {n d b z m c c2:Nat} {F:List (Nat×Value)} {w0:BD} {L:List As} {t ty T:TypeId} {p:String} {af:Array Edge} {x:Operand} {cs cs2 news:List Value} {q:Option Addr} {A0 A1 A2:As}
theorem zw (i:Nat) {j:Nat} {s:Operand} {n' bytes:Nat} {tn:TypeId} (ht:ElemT P t T z bytes) (hs:evF F s=some (.slice q n' c)) (ho:OwnOk q n' c) (hl:cs.length=n'*z)
    (hi:L[i]?=some (rowW q T z n' c cs)) (hx:evF F x=some (.slice (jk b) m c2)) (hj:L[j]?=some (AY b tn news)) (hnl:news.length=m*z) (h1:(news.all λu=>u.oneCell')=true) (hm:0<m) (h63:n'+m<=maxLen) (hbytes:(n'+m)*bytes<=140737488355328) (hcs:cs++news=cs2) (hd:Nat.ble (d+1) n=true)
    (next:∀p' c',OwnOk p' (n'+m) c'->p'≠none->AR P ops rest Q n ((d,.slice p' (n'+m) c')::F) w0 (L.set i (rowW p' T z (n'+m) c' cs2))) :
    AR P ops (⟨some d,.call { callee:=.builtin .append,args:=#[s,x],argTypes:=#[t,t] },ty,p,af,none⟩::rest) Q n F w0 L:=by
  subst hcs
  exact yr i j ht hs hi ho hl hx hj hnl h1 hm h63 hbytes hd next
theorem AR.append1 {j:Nat} {s:Operand} {n' bytes:Nat} {tn:TypeId} (ht:ElemT P t T z bytes) (hs:evF F s=some (.slice q n' c)) (ho:OwnOk q n' c) (hl:cs.length=n'*z)
    (hx:evF F x=some (.slice (jk b) m c2)) (hj:(A0::rowW q T z n' c cs::L)[j]?=some (AY b tn news)) (hnl:news.length=m*z) (h1:(news.all λu=>u.oneCell')=true) (hm:0<m) (h63:n'+m<=maxLen) (hbytes:(n'+m)*bytes<=140737488355328) (hcs:cs++news=cs2) (hd:Nat.ble (d+1) n=true)
    (next:∀p' c',OwnOk p' (n'+m) c'->p'≠none->AR P ops rest Q n ((d,.slice p' (n'+m) c')::F) w0 (A0::rowW p' T z (n'+m) c' cs2::L)) :
    AR P ops (⟨some d,.call { callee:=.builtin .append,args:=#[s,x],argTypes:=#[t,t] },ty,p,af,none⟩::rest) Q n F w0 (A0::rowW q T z n' c cs::L):=by
  subst hcs
  exact yr 1 j ht hs O ho hl hx hj hnl h1 hm h63 hbytes hd next
theorem BH.nilRow {w:World} {T:TypeId} {z:Nat} (h:BH w0 w L):BH w0 w (rowW none T z 0 0 []::L) :=
  ⟨h.1,λx hx b e=>by
    rcases xN.1 hx with rfl|hx
    · cases e
    · exact h.2.1 x hx b e,List.pairwise_cons.2 ⟨λy hy=>.inr (λb e=>by cases e),h.2.2⟩⟩
theorem z6 (T:TypeId) (z:Nat) (h:AR P ops rest Q n F w0 (rowW none T z 0 0 []::L)):AR P ops rest Q n F w0 L:=λa w ha hw=>h a w ha hw.nilRow
theorem BH.newRow {W w:World} {i:Nat} (h:BH ⟨W,none⟩ w L) (hi:L[i]?=some (rowW q T z m c cs)):∀b,q.map (·.block)=some b->W.heap.size<=b:=λb e=>by
  rcases (h.2.1 _ (List.mem_of_getElem? hi) b e).1 with h1|h1|h1
  · cases h1
  · exact h1
  · cases h1
end
structure T9 (P:Program) (t e:TypeId) (u:Value) (bytes:Nat):Prop where
  un:P.underlying t=some (.slice e)
  i:∃(i:TypeInfo) (zv:Value),P.info? e=some i/\i.zero=some zv/\i.size=1/\i.bytes=bytes/\zv.cells=#[u]
theorem JE {b m c:Nat} (h:m<=c) (hc:c<=maxLen):OwnOk (jk b) m c:=⟨λe=>(by cases e),λa e=>(by injection e with e;subst e;rfl),h,hc⟩
section
variable {P:Program} {ops:Array Oper} {rest:List Oper} {Q:Exit->Act->World->Prop} {n d i z m c c2:Nat} {F:List (Nat×Value)} {w0:BD} {L:List As} {t ty T:TypeId} {p:String} {af:Array Edge} {x y:Operand} {cs vs cs':List Value} {q:Option Addr} {v u:Value} {A0 A1 A2:As}
theorem AR.makeRow {ki kj:IntKind} {bytes:Nat} (ht:T9 P t T u bytes) (hx:evF F x=some (.int ki (m:Nat))) (hy:evF F y=some (.int kj (m:Nat))) (hm:m<=1099511627776) (hb:Nat.ble bytes 16=true) (hd:Nat.ble (d+1) n=true)
    (next:∀b,OwnOk (jk b) m m->AR P ops rest Q n ((d,.slice (jk b) m m)::F) w0 (rowW (jk b) T 1 m m (List.replicate m u)::L)) :
    AR P ops (⟨some d,.makeSlice t x y,ty,p,af,none⟩::rest) Q n F w0 L:=λa w ha hW=>by
  obtain ⟨inf,zv,hi,hz,hs,hby,hzc⟩:=ht.i
  have hble:=Nat.le_of_ble_eq_true hb
  have h1:=run_make (P:=P) w t T inf zv ht.un hi hz ki kj (m:Nat) (m:Nat) Z Z (by
    rw [hby]
    have:bytes*m<=16*m:=Nat.mul_le_mul_right m hble
    have e:((bytes:Nat):Int)*((m:Nat):Int)=((bytes*m:Nat):Int):=by rw [Int.natCast_mul]
    rw [e];omega) Z
  have e1:madeCells zv.cells ((m:Int).toNat*inf.size)=(List.replicate m u).toArray:=by
    rw [hs,hzc]
    apply Array.toList_inj.1
    rw [toList_madeCells_one]
    simp
  rw [e1] at h1
  unfold wpList
  rw [if_pos (AI rfl a ha)]
  left
  unfold Oper.wp
  have he:(execOp a.eval ⟨some d,.makeSlice t x y,ty,p,af,none⟩).run P w=.ok (.value (.slice (some ⟨w.heap.size,0,none⟩) m m)) (w.alloc (.cells (List.replicate m u).toArray T)):=by
    simp only [execOp,ha.ev hx,ha.ev hy,Sem.run_bind,h1,Result.andThen_ok,Sem.run_pure,Int.toNat_natCast]
  rw [he,Oper.upon_value]
  refine next _ (JE (Nat.le_refl _) (Ma hm)) _ _ (ha.put (B_ hd)) (hW.alloc _ O ⟨_,rfl,by simp,by simp⟩)
theorem yn (i:Nat) {off n':Nat} (hx:evF F x=some (pP (pB q) (pO q+off))) (hy:evF F y=some v) (hi:L[i]?=some (rowW q T z n' c cs)) (ho:OwnOk q n' c) (hcl:cs.length=n'*z) (hq:q≠none)
    (hv:v.cells=vs.toArray) (hs:∀w,(sizeOf ty).run P w=.ok vs.length w) (h1:(vs.all λu=>u.oneCell')=true) (hl:off+vs.length<=n'*z)
    (next:AR P ops rest Q n F w0 (L.set i (rowW q T z n' c (Gc cs off vs)))):AR P ops (⟨none,.store ty x y,t,p,af,none⟩::rest) Q n F w0 L:=λa w ha hW=>by
  cases hqe:q with
  | none=>exact absurd hqe hq
  | some ad =>
    subst hqe
    obtain ⟨o,hob,cur,rfl,hsz,hcur⟩:=hW.holds hi ad.block rfl
    rw [ho.pO,Nat.zero_add] at hx
    have hnc:n'*z<=c*z:=Nat.mul_le_mul_right z ho.le
    have h2:=run_storeCells_at P ad.block off T vs 0 cur w hob Z (λu hu=>List.all_eq_true.1 h1 u hu)
    simp only [Nat.add_zero] at h2
    have he:(execOp a.eval ⟨none,.store ty x y,t,p,af,none⟩).run P w=.ok .skip (w.setRow ad.block (Gc cur.toList off vs).toArray):=by
      simp [execOp,ha.ev hx,ha.ev hy,Instr.storeAt,Instr.sureAddr,storeVar,hs,hv,h2,Gc,pB]
    unfold wpList
    rw [if_pos (AI rfl a ha)]
    left
    unfold Oper.wp
    rw [he,Oper.upon_skip]
    refine next _ _ ha.put_none (hW.turn hi O O ⟨⟨rfl,rfl,rfl,by simp,λk _ hk=>setRow_other w ad.block k _ (λe=>hk (by simp [e]))⟩,Nat.le_refl _⟩ ⟨_,setRow_heap w ad.block cur _ T _ hob,_,rfl,?_,?_⟩)
    · simp only [Gc,List.size_toArray,xL,List.length_take,List.length_drop,Array.length_toList,hsz]
      omega
    · show (Gc cur.toList off vs).take (n'*z)=Gc cs off vs
      have hlc:cur.toList.length=c*z:=by rw [Array.length_toList,hsz]
      rw [<-hcur]
      unfold Gc
      apply List.ext_getElem?
      intro j
      simp only [List.getElem?_take,List.getElem?_append,xL,List.length_take,List.getElem?_drop,hlc]
      split<;>split<;>split<;>(try split)<;>(try split)<;>(try split)<;>first|rfl|omega|(simp_all;done)|(congr 1;omega)|(simp_all;omega)
theorem YU {cs:List Value} {j:Nat} {v:Value} (h:j<cs.length):Gc cs (j*1) [v]=cs.set j v:=by
  unfold Gc
  rw [Nat.mul_one,List.set_eq_take_append_cons_drop,if_pos h,List.append_assoc]
  rfl
theorem yY {j n':Nat} (hx:evF F x=some (pP (pB q) (pO q+j*1))) (hy:evF F y=some v) (ho:OwnOk q n' c) (hcl:cs.length=n'*1) (hj:j<n')
    (hv:v.cells=#[v]) (hs:∀w,(sizeOf ty).run P w=.ok 1 w) (h1:v.oneCell'=true) (hc:cs.set j v=cs') (next:AR P ops rest Q n F w0 (A0::rowW q T 1 n' c cs'::L)):AR P ops (⟨none,.store ty x y,t,p,af,none⟩::rest) Q n F w0 (A0::rowW q T 1 n' c cs::L):=by
  subst hc
  rw [<-YU Z] at next
  exact yn 1 (vs:=[v]) hx hy O ho hcl (ho.row.ne Z) hv hs (by simp [h1]) (by simp;omega) next
end
theorem Jz {P:Program} {t ty e:TypeId} {i:TypeInfo} (w:World) (ht:P.underlying t=some (.slice e)) (hi:P.info? e=some i) (q q2:Option Addr) (n c c2:Nat) (hn:n<=c) :
    (Builtin.append_ #[t,t] ty #[.slice q n c,.slice q2 0 c2]).run P w=.ok (.slice q n c) w:=by
  have hf:(Builtin.firstCells i.size 0 (.slice q2 0 c2)).run P w=.ok #[] w:=by
    cases q2 with
    | none=>exact run_firstCells_none (P:=P) (w:=w) i.size 0 0 c2
    | some a=>exact run_firstCells_some (P:=P) (w:=w) i.size 0 a 0 c2 [] jX (λj v h=>by simp at h)
  cases q with
  | none=>simp [Builtin.append_,run_underlying ht,sizeOf,typeInfo,hi,Builtin.lenOf,hn,hf]
  | some a=>simp [Builtin.append_,run_underlying ht,sizeOf,typeInfo,hi,Builtin.lenOf,hn,hf,storeCells]
section
variable {P:Program} {ops:Array Oper} {rest:List Oper} {Q:Exit->Act->World->Prop} {n d z m c c2:Nat} {F:List (Nat×Value)} {w0:BD} {L:List As} {t ty T:TypeId} {p:String} {af:Array Edge} {x y lo:Operand} {cs cs2 news:List Value} {q q2:Option Addr} {A0:As} {dd:Option Tmp} {g:Option (Nat×Bool)}
def dC (w0:BD) (L:List As) (q2:Option Addr) (m:Nat) (news:List Value):Prop:=∀w,BH w0 w L->0<m->∃a,q2=some a/\∀j u,news[j]?=some u->w.cell? (a.add j)=some u
theorem az {k n':Nat} (hi:L[k]?=some (AN q cs)) (hok:A8 q n' c):dC w0 L q n' cs:=λw hw hm=>by
  refine ⟨_,hok.some hm,λj u hu=>?_⟩
  obtain ⟨o,ho,hp⟩:=hw.holds hi (pB q) (by cases q with|none=>exact absurd rfl (hok.ne hm)|some a=>rfl)
  rw [Addr.add_lit]
  exact Hf.cell hp ho hu
theorem AR.appendS (i:Nat) {s:Operand} {n' bytes:Nat} (ht:ElemT P t T z bytes) (hs:evF F s=some (.slice q n' c)) (hi:L[i]?=some (rowW q T z n' c cs)) (ho:OwnOk q n' c) (hl:cs.length=n'*z)
    (hx:evF F x=some (.slice q2 m c2)) (hsrc:dC w0 L q2 m news) (hnl:news.length=m*z) (h1:(news.all λu=>u.oneCell')=true) (h63:n'+m<=maxLen) (hbytes:(n'+m)*bytes<=140737488355328) (hd:Nat.ble (d+1) n=true)
    (next:∀p' c',OwnOk p' (n'+m) c'->AR P ops rest Q n ((d,.slice p' (n'+m) c')::F) w0 (L.set i (rowW p' T z (n'+m) c' (cs++news)))) :
    AR P ops (⟨some d,.call { callee:=.builtin .append,args:=#[s,x],argTypes:=#[t,t] },ty,p,af,none⟩::rest) Q n F w0 L:=λa w ha hW=>by
  have e1:=ha.ev hs
  have e2:=ha.ev hx
  unfold wpList
  rw [if_pos (AI rfl a ha)]
  left
  unfold Oper.wp
  rcases Nat.eq_zero_or_pos m with h0|h0
  · subst h0
    obtain ⟨inf,zv,hinf,_⟩:=ht.i
    have hnn:news=[]:=List.eq_nil_of_length_eq_zero (by simpa using hnl)
    subst hnn
    have he:(execOp a.eval ⟨some d,.call { callee:=.builtin .append,args:=#[s,x],argTypes:=#[t,t] },ty,p,af,none⟩).run P w=.ok (.value (.slice q n' c)) w:=by
      simp only [execOp,resolve,invoke,builtin,Sem.run_bind,Sem.run_pure,Result.andThen_ok,List.map_toArray,List.map_cons,List.map_nil,e1,e2,Jz w ht.u hinf q q2 n' c c2 ho.le]
    rw [he,Oper.upon_value]
    have h9:=next q c (by simpa using ho)
    simp only [Nat.add_zero,List.append_nil] at h9
    refine h9 _ _ (ha.put (B_ hd)) ?_
    have:L.set i (rowW q T z n' c cs)=L:=by
      apply List.ext_getElem?
      intro j
      rw [List.getElem?_set]
      split
      · rename_i hij;subst hij
        split
        · exact hi.symm
        · rename_i hlt;rw [List.getElem?_eq_none Z]
      · rfl
    rw [this]
    exact hW
  · obtain ⟨ad,rfl,hnews⟩:=hsrc w hW h0
    obtain ⟨p',c',w',hr,h2,h3,h4,h5⟩:=Gy (P:=P) (c2:=c2) (ty:=ty) w ht ho hl (hW.holds hi) ad hnl hnews (λu hu=>List.all_eq_true.1 h1 u hu) h0 h63 hbytes
    have he:(execOp a.eval ⟨some d,.call { callee:=.builtin .append,args:=#[s,x],argTypes:=#[t,t] },ty,p,af,none⟩).run P w=.ok (.value (.slice p' (n'+m) c')) w':=by
      simp only [execOp,resolve,invoke,builtin,Sem.run_bind,Sem.run_pure,Result.andThen_ok,List.map_toArray,List.map_cons,List.map_nil,e1,e2,hr]
    rw [he,Oper.upon_value]
    exact next p' c' h2 _ _ (ha.put (B_ hd)) (hW.renew hi O h4 h5)
theorem yi {b:Nat} (m:Nat) (hl:cs.length=m*z) (hm:m<=1099511627776) (next:OwnOk (jk b) m m->AR P ops rest Q n F w0 (rowW (jk b) T z m m cs::L)):AR P ops rest Q n F w0 (AY b T cs::L):=λa w ha hw =>
  next (JE (Nat.le_refl _) (Ma hm)) a w ha (hw.freeze (i:=0) (y:=rowW (jk b) T z m m cs) rfl rfl (λo hp=>by subst hp;exact ⟨_,rfl,by simp [hl],by rw [<-hl];simp⟩) (λe=>by cases e))
end
section
variable {P:Program} {ops:Array Oper} {rest:List Oper} {Q:Exit->Act->World->Prop} {n d z m c c2:Nat} {F:List (Nat×Value)} {w0:BD} {L:List As} {t ty T:TypeId} {p:String} {af:Array Edge} {x y lo:Operand} {cs cs2 news:List Value} {q q2:Option Addr} {A0:As} {dd:Option Tmp} {g:Option (Nat×Bool)}
theorem AR.appendS0 {s:Operand} {n' bytes:Nat} (ht:ElemT P t T z bytes) (hs:evF F s=some (.slice q n' c)) (ho:OwnOk q n' c) (hl:cs.length=n'*z)
    (hx:evF F x=some (.slice q2 m c2)) (hsrc:dC w0 (rowW q T z n' c cs::L) q2 m news) (hnl:news.length=m*z) (h1:(news.all λu=>u.oneCell')=true) (h63:n'+m<=maxLen) (hbytes:(n'+m)*bytes<=140737488355328) (hcs:cs++news=cs2) (hd:Nat.ble (d+1) n=true)
    (next:∀p' c',OwnOk p' (n'+m) c'->AR P ops rest Q n ((d,.slice p' (n'+m) c')::F) w0 (rowW p' T z (n'+m) c' cs2::L)) :
    AR P ops (⟨some d,.call { callee:=.builtin .append,args:=#[s,x],argTypes:=#[t,t] },ty,p,af,none⟩::rest) Q n F w0 (rowW q T z n' c cs::L):=by
  subst hcs
  exact AR.appendS 0 ht hs O ho hl hx hsrc hnl h1 h63 hbytes hd next
theorem JD {T e:TypeId} {k:Nat} (hu:P.underlying T=some (.slice e)) (hs:∀w,(sizeOf e).run P w=.ok k w) :
    ∀a w,Cx n a F->BH w0 w L->(execOp a.eval ⟨dd,.buildSlice T 0 #[],t,p,af,g⟩).run P w=.ok (.value (.slice (some ⟨w.heap.size,0,none⟩) 0 0)) (w.alloc (.cells [].toArray e)):=λA w ha _=>by
  have e1:¬(0*k>2^24):=by omega
  have e2:Array.range 0=#[]:=Array.eq_empty_of_size_eq_zero jX
  simp [execOp,Instr.buildSlice,run_underlying hu,hs,newRow,Instr.fill,e2]
end
section
variable {P:Program} {ops:Array Oper} {rest:List Oper} {Q:Exit->Act->World->Prop} {n:Nat} {F:List (Nat×Value)} {w0:BD} {L:List As}
theorem AR.callW {o:Oper} {f:FuncId} {args:Array Value} {v:Value} (i:Nat) {q:Option Addr} {T:TypeId} {z m c:Nat} {cs cs':List Value} (hw:Wt ops n F o)
    (he:∀a w,Cx n a F->BH w0 w L->(execOp a.eval o).run P w=.ok (.enter f args) w) (hi:L[i]?=some (rowW q T z m c cs))
    (hc:∀w,BH w0 w L->Calls P f args w λe w'=>e=.returned v/\Jq w w' (q.map (·.block))/\∀b,q.map (·.block)=some b->∃o,w'.heap[b]?=some o/\(rowW q T z m c cs').P o)
    (hd:∀d,o.dst=some d->d<n) (next:AR P ops rest Q n (match o.dst with|some d=>(d,v)::F|none=>F) w0 (L.set i (rowW q T z m c cs'))):AR P ops (o::rest) Q n F w0 L:=λa w ha hW=>by
  unfold wpList
  rw [if_pos (hw a ha)]
  left
  unfold Oper.wp
  rw [he a w ha hW,Oper.upon_enter]
  refine (hc w hW).mono ?_
  rintro e w' ⟨rfl,hg,hr⟩
  have hW':=hW.renew hi rfl hg (y:=rowW q T z m c cs') λb e=>⟨.inl e,hr b e⟩
  cases hdd:o.dst with
  | none=>rw [hdd] at next;exact next _ _ ha.put_none hW'
  | some d=>rw [hdd] at next;exact next _ _ (ha.put (hd d hdd)) hW'
end
end
section
section
variable {w0:BD} {L:List As}
theorem BH.addRo {w w':World} {a:As} (h:BH w0 w L) (hb:Hm w.heap.size w w') (hr:a.ro=true) (hh:Holds w' a) (hs:∀b,a.foot=some b->w.heap.size<=b\/∃y∈L,y.ro=true/\y.foot=some b):BH w0 w' (a::L):=by
  have h1:=h.below hb
  refine ⟨h1.1,λz hz b e=>?_,List.pairwise_cons.2 ⟨λz hz=>?_,h1.2.2⟩⟩
  · rcases xN.1 hz with rfl|hz
    · exact ⟨.inl hr,hh b e⟩
    · exact h1.2.1 z hz b e
  · cases hf:a.foot with
    | none=>exact .inr λb e=>by cases e
    | some b =>
      rcases hs b hf with h2|⟨y,hy,hyr,hyf⟩
      · refine .inr λb' e e2=>?_
        injection e with e;subst e
        exact absurd (h.lt hz e2) Z
      · have h3:=Ol hr hyr hf hyf (OG h.2.2 y hy z hz)
        rw [<-hf];exact h3
end
class Cy (α:Type) where
  val:α->Value
  rows:α->List As
  ro:∀a,∀y∈rows a,y.ro=true
def Ro (S:Nat->Prop) (w:World) {α:Type} [Cy α] (a:α):Prop:=∀y∈Cy.rows a,Holds w y/\∀b,y.foot=some b->S b
def BP (α:Type) [Cy α] (S:Nat->Prop) (W:World) (e:Ending) (w:World):Prop :=
  ∃a:α,e=.returned (Cy.val a)/\Hm W.heap.size W w/\Ro (λb=>W.heap.size<=b\/S b) w a
def Nw (w0:BD) (S:Nat->Prop) (b:Nat):Prop:=w0.w.heap.size<=b\/S b
def SL (w0:BD) (S:Nat->Prop) (L:List As) (b:Nat):Prop:=(∃y∈L,y.ro=true/\y.foot=some b)/\Nw w0 S b
def At (w0:BD) (S:Nat->Prop) {α:Type} [Cy α] (a:α):Prop:=∀y∈Cy.rows a,∀b,y.foot=some b->Nw w0 S b
section
variable {w0:BD} {S:Nat->Prop} {w W:World} {L:List As} {α:Type} [Cy α]
theorem CL (hw:BH w0 w L) (i:Nat) {a:α} (hi:(L.drop i).take (Cy.rows a).length=Cy.rows a) (ha:At w0 S a):Ro (SL w0 S L) w a:=λy hy=>by
  have hm:y∈L:=List.mem_of_mem_drop (i:=i) (List.mem_of_mem_take (i:=(Cy.rows a).length) (by rw [hi];exact hy))
  exact ⟨λb e=>(hw.2.1 y hm b e).2,λb e=>⟨⟨y,hm,Cy.ro a y hy,e⟩,ha y hy b e⟩⟩
theorem Ro.mono {S':Nat->Prop} {a:α} (h:Ro S w a) (hs:∀b,S b->S' b):Ro S' w a:=λy hy=>⟨(h y hy).1,λb e=>hs b ((h y hy).2 b e)⟩
theorem DT {a:α} (h:Ro S w a):At ⟨W,none⟩ S a:=λy hy b e=>.inr ((h y hy).2 b e)
theorem retR {a:α} {v:Value} (hw:BH ⟨W,none⟩ w L) (h:Ro (SL ⟨W,none⟩ S L) w a) (hv:v=Cy.val a):BP α S W (.returned v) w:=⟨a,by rw [hv],hw.out,h.mono λb h=>h.2⟩
theorem BP.cast {ι:Type} {T:ι->Type} [∀i,Cy (T i)] {i j:ι} (h:i=j) {f:FuncId} {P:Program} {args:Array Value} (k:Calls P f args W (BP (T i) S W)):Calls P f args W (BP (T j) S W):=h▸k
theorem DU {a:α} (h:Ro S w a) (t:∀y∈L,y.ro=true/\Holds w y):∀y∈Cy.rows a++L,y.ro=true/\Holds w y:=λy hy=>(List.mem_append.1 hy).elim (λk=>⟨Cy.ro a y k,(h y k).1⟩) (t y)
end
theorem BH.addRos {w0:BD} {w w':World} {L:List As} (h:BH w0 w L) (hb:Hm w.heap.size w w'):∀(xs:List As),(∀x∈xs,x.ro=true/\Holds w' x/\∀b,x.foot=some b->w.heap.size<=b\/∃y∈L,y.ro=true/\y.foot=some b)->BH w0 w' (xs++L)
  | [],_=>h.below hb
  | x::xs,hx=>by
    have h1:=BH.addRos h hb xs λy hy=>hx y (List.mem_cons_of_mem _ hy)
    obtain ⟨hr,hh,hs⟩:=hx x List.mem_cons_self
    have h2:=h.addRo hb hr hh hs
    refine ⟨h1.1,λy hy=>(xN.1 hy).elim (λe=>h2.2.1 y (e▸List.mem_cons_self)) (λe=>h1.2.1 y e),List.pairwise_cons.2 ⟨λy hy=>?_,h1.2.2⟩⟩
    rcases List.mem_append.1 hy with hy|hy
    · exact .inl ⟨hr,(hx y (List.mem_cons_of_mem _ hy)).1⟩
    · exact (List.pairwise_cons.1 h2.2.2).1 y hy
section
variable {P:Program} {ops:Array Oper} {rest:List Oper} {Q:Exit->Act->World->Prop} {n d:Nat} {F:List (Nat×Value)} {w0:BD} {S:Nat->Prop} {L:List As} {t:TypeId} {p:String} {af:Array Edge} {y:Operand} {f:FuncId} {xs:List Operand} {args:List Value} {ts:Array TypeId}
theorem AR.callRg {α:Type} [Cy α] {g:Option (Nat×Bool)} (hw:Wt ops n F ⟨some d,.call { callee:=.value y,args:=xs.toArray,argTypes:=ts },t,p,af,g⟩) (hc:∀args w,(callFunc f args).run P w=.ok (.enter f args) w) (h:∀w,BH w0 w L->Calls P f args.toArray w (BP α (SL w0 S L) w))
    (hf:evF F y=some (.func (.func f) #[] #[])) (hargs:xs.map (evF F)=args.map some) (hd:Nat.ble (d+1) n=true) (next:∀a:α,At w0 S a->AR P ops rest Q n ((d,Cy.val a)::F) w0 (Cy.rows a++L)) :
    AR P ops (⟨some d,.call { callee:=.value y,args:=xs.toArray,argTypes:=ts },t,p,af,g⟩::rest) Q n F w0 L:=λa w ha hW=>by
  unfold wpList
  rw [if_pos (hw a ha)]
  left
  unfold Oper.wp
  rw [Am hf hargs hc a w ha hW,Oper.upon_enter]
  refine (h w hW).mono ?_
  rintro e w' ⟨v,rfl,hb,hr⟩
  exact next v (λy hy b e=>((hr y hy).2 b e).elim (λh=>.inl (xM hW.1.size h)) λh=>h.2) _ _ (ha.put (B_ hd)) (hW.addRos hb _ λx hx=>⟨Cy.ro v x hx,(hr x hx).1,λb e=>((hr x hx).2 b e).imp_right λh=>h.1⟩)
theorem yI {α:Type} [Cy α] (hc:∀args w,(callFunc f args).run P w=.ok (.enter f args) w) (h:∀w,BH w0 w L->Calls P f args.toArray w (BP α (SL w0 S L) w))
    (hf:evF F y=some (.func (.func f) #[] #[])) (hargs:xs.map (evF F)=args.map some) (hd:Nat.ble (d+1) n=true) (next:∀a:α,At w0 S a->AR P ops rest Q n ((d,Cy.val a)::F) w0 (Cy.rows a++L)) :
    AR P ops (⟨some d,.call { callee:=.value y,args:=xs.toArray,argTypes:=ts },t,p,af,none⟩::rest) Q n F w0 L:=AR.callRg (AI rfl) hc h hf hargs hd next
theorem Pn {ops:Array Oper} {o:Oper} {j t:Nat} {b:Bool} (h:o.guard=some (j,b)) (hj:(ops[j]?).bind (·.dst)=some t) (ht:F.lookup t=some undef):∀a,Cx n a F->Region.wanted o (yielded ops a.tmps)=false:=λa ha=>by
  have h1:=ha.2.2 t _ ht
  simp [Region.wanted,h,yielded,hj,h1,undef]
end
end
section
def EH (a b:Nat):Int:=if a<b then -1 else if b<a then 1 else 0
theorem RN {a b:Nat} (h:a<b):EH a b = -1:=if_pos h
theorem RL {a b:Nat} (h:¬a<b) (h2:b<a):EH a b=1:=by rw [EH,if_neg h,if_pos h2]
theorem RK {a b:Nat} (h:¬a<b) (h2:¬b<a):EH a b=0:=by rw [EH,if_neg h,if_neg h2]
def V9 (a b:Int):Int:=if a≠0 then a else if b≠0 then b else 0
section
variable {P:Program} {n:Nat} {F:List (Nat×Value)} {w0:BD} {L:List As} {d:Option Tmp} {x:Operand} {t:TypeId} {p:String} {af:Array Edge} {g:Option (Nat×Bool)}
theorem EO {tx e:TypeId} {a:Option Addr} {len cap k:Nat} {hi mx:Operand} {ki kj:IntKind} {m:Nat} (hx:evF F x=some (.slice a len cap)) (hh:evF F hi=some (.int ki (m:Nat))) (hj:evF F mx=some (.int kj (m:Nat))) (hu:P.underlying tx=some (.slice e)) (hs:∀w,(sizeOf e).run P w=.ok k w) (hm:m<=cap) :
    Ex P n F w0 L ⟨d,.slice tx x none (some hi) (some mx),t,p,af,g⟩ (.slice a m m):=λA w ha _=>by
  simp only [execOp,ha.ev hx,Instr.sliceAt,run_underlying hu,Instr.slice,Option.map_some,Option.map_none,ha.ev hh,ha.ev hj,Instr.sliceBounds,Instr.sliceBound,asIntOf,Sem.run_bind,Result.andThen_ok,Sem.run_pure]
  have h1:(0:Int)<=(m:Int)/\(m:Int)<=(cap:Int):=⟨Z,Z⟩
  simp [h1.2,hs]
  cases a<;>simp [Addr.add]
end
section
variable {P:Program} {ops:Array Oper} {rest:List Oper} {Q:Exit->Act->World->Prop} {n:Nat} {F:List (Nat×Value)} {w0:BD} {L L':List As}
end
end
section
set_option maxRecDepth 100000
end
section
set_option maxRecDepth 100000
end
section
set_option maxRecDepth 100000
end
end Go.Proofs.YtbfdamnfcmefmaaGreatDoor
