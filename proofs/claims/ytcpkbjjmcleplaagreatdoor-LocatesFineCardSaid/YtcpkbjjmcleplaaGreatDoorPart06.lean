import Derived.Laws.AppendOwn
import Derived.Laws.MakeOwn
import Derived.Laws.OwnMore
import Derived.Test.YtcpkbjjmcleplaaGreatDoorPart04
namespace Go.Proofs.YtcpkbjjmcleplaaGreatDoor
open Go Go.RowKit Go.Proofs.Tryz
open Go.Value renaming slice→qz,bool→qa
set_option linter.unusedVariables false
set_option linter.unusedSimpArgs false
section
def Holds (w:World) (x:As):Prop:=∀b,x.foot=some b->∃o,w.heap[b]?=some o/\x.P o
theorem A_.holds {w0:Ay} {w:World} {L:List As} {x:As} {i:Nat} (h:A_ w0 w L) (hi:L[i]?=some x):Holds w x:=λb e=>(h.2.1 x (List.mem_of_getElem? hi) b e).2
theorem A_.startR {w:World} {L:List As} (h:∀x∈L,x.ro=true/\Holds w x):A_ ⟨w,none⟩ w L:=by
  refine ⟨D6 (GB.refl _ _) _,λx hx b e=>⟨.inl (h x hx).1,(h x hx).2 b e⟩,?_⟩
  refine List.Pairwise.imp_of_mem (R:=λ_ _=>True) (λ{a b} ha hb _=>.inl ⟨(h a ha).1,(h b hb).1⟩) ?_
  exact List.pairwise_of_forall (λ_ _=>trivial)
theorem AZ {P:Program} {f:FuncId} {fn:Func} {c:Code} {args:List Value} {w:World} {R:Ending->World->Prop} {n:Nat} {L:List As}
    (hf:P.funcs[f]?=some fn) (hb:fn.body=some c) (hn:fn.ntmps=n) (hl:args.length<=n) (hL:∀x∈L,x.ro=true/\Holds w x)
    (h:OkC P c (bodyPost P fn R) n (FL 0 args) ⟨w,none⟩ L):Calls P f args.toArray w R:=by
  refine calls_of_wp hf hb ?_
  rw [hn]
  exact h _ _ (Fu hl _ λk v hk=>by simpa using (C1 args 0 k v hk).2) (A_.startR hL)
theorem Ao {w:World}:∀x∈([]:List As),x.ro=true/\Holds w x:=λx hx=>by cases hx
theorem CV {w:World} {x:As} {L:List As} (h1:x.ro=true) (h2:Holds w x) (h:∀y∈L,y.ro=true/\Holds w y):∀y∈x::L,y.ro=true/\Holds w y:=λy hy=>by
  rcases xL.1 hy with rfl|hy
  · exact ⟨h1,h2⟩
  · exact h y hy
theorem A_.renew {w0:Ay} {w w':World} {L:List As} {x y:As} {i:Nat} (h:A_ w0 w L) (hi:L[i]?=some x) (hx:x.ro=false) (hg:LK w w' x.foot)
    (hy:∀b,y.foot=some b->(x.foot=some b\/w.heap.size<=b)/\∃o,w'.heap[b]?=some o/\y.P o):A_ w0 w' (L.set i y):=by
  have hil:i<L.length:=by
    rcases Nat.lt_or_ge i L.length with h1|h1
    · exact h1
    · rw [List.getElem?_eq_none h1] at hi;cases hi
  have hxi:L[i]=x:=by rw [xN hil] at hi;injection hi
  have hpair:=List.pairwise_iff_getElem.1 h.2.2
  have hcond:∀b,x.foot=some b->w0.w.heap.size<=b\/w0.ex=some b:=λb e=>((h.2.1 x (List.mem_of_getElem? hi) b e).1).resolve_left (by simp [hx])
  have apartx:∀j (hj:j<L.length),j≠i->∀c,L[j].foot=some c->x.foot≠some c:=λj hj hji c e e2=>by
    have hxr:¬L[i].ro=true:=by rw [hxi,hx];simp
    rcases Nat.lt_or_gt_of_ne hji with hlt|hgt
    · exact (hpair j i hj hil hlt).resolve_left (λk=>hxr k.2) c e (by rw [hxi];exact e2)
    · exact (hpair i j hil hj hgt).resolve_left (λk=>hxr k.1) c (by rw [hxi];exact e2) e
  have aparty:∀j (hj:j<L.length),j≠i->∀c,L[j].foot=some c->y.foot≠some c:=λj hj hji c e e2=>by
    rcases (hy c e2).1 with h1|h1
    · exact apartx j hj hji c e h1
    · exact absurd (h.lt (List.getElem_mem hj) e) Z
  refine ⟨⟨⟨hg.os.trans h.1.os,hg.tape.trans h.1.tape,hg.output.trans h.1.output,xK h.1.size hg.size,λk hk hne=>?_⟩,xK h.1.drawn hg.drawn⟩,λz hz c e=>?_,List.pairwise_iff_getElem.2 λp q hp hq hpq=>?_⟩
  · refine (hg.block k (Nat.lt_of_lt_of_le hk h.1.size) λe=>?_).trans (h.1.block k hk hne)
    rcases hcond k e.symm with h1|h1
    · omega
    · exact hne h1.symm
  · obtain ⟨j,hj,rfl⟩:=List.getElem_of_mem hz
    simp only [List.length_set] at hj
    by_cases hji:j=i
    · subst hji
      simp only [List.getElem_set_self] at e ⊢
      obtain ⟨h1,h2⟩:=hy c e
      refine ⟨?_,h2⟩
      rcases h1 with h1|h1
      · exact .inr (hcond c h1)
      · exact .inr (.inl (xK h.size h1))
    · rw [List.getElem_set_ne (Ne.symm hji)] at e ⊢
      obtain ⟨h1,o,h2,h3⟩:=h.2.1 _ (List.getElem_mem hj) c e
      exact ⟨h1,o,(hg.block c (h.lt (List.getElem_mem hj) e) (λhc=>apartx j hj hji c e hc.symm)).trans h2,h3⟩
  · simp only [List.length_set] at hp hq
    by_cases hpi:p=i
    · subst hpi
      have hqi:q≠p:=by omega
      rw [List.getElem_set_self,List.getElem_set_ne (Ne.symm hqi)]
      exact .inr λc e e2=>aparty q (by simpa using hq) hqi c e2 e
    · by_cases hqi:q=i
      · subst hqi
        rw [List.getElem_set_self,List.getElem_set_ne (Ne.symm hpi)]
        exact .inr λc e e2=>aparty p (by simpa using hp) hpi c e e2
      · rw [List.getElem_set_ne (Ne.symm hpi),List.getElem_set_ne (Ne.symm hqi)]
        exact hpair p q hp hq hpq
theorem A_.freeze {w0:Ay} {w:World} {L:List As} {x y:As} {i:Nat} (h:A_ w0 w L) (hi:L[i]?=some x) (hf:y.foot=x.foot) (hp:∀o,x.P o->y.P o) (hr:x.ro=true->y.ro=true):A_ w0 w (L.set i y):=by
  have hil:i<L.length:=by
    rcases Nat.lt_or_ge i L.length with h1|h1
    · exact h1
    · rw [List.getElem?_eq_none h1] at hi;cases hi
  have hxi:L[i]=x:=by rw [xN hil] at hi;injection hi
  have hpair:=List.pairwise_iff_getElem.1 h.2.2
  refine ⟨h.1,λz hz c e=>?_,List.pairwise_iff_getElem.2 λp q hp hq hpq=>?_⟩
  · obtain ⟨j,hj,rfl⟩:=List.getElem_of_mem hz
    simp only [List.length_set] at hj
    by_cases hji:j=i
    · subst hji
      simp only [List.getElem_set_self] at e ⊢
      obtain ⟨h1,o,h2,h3⟩:=h.2.1 x (List.mem_of_getElem? hi) c (hf▸e)
      exact ⟨h1.imp_left hr,o,h2,hp o h3⟩
    · rw [List.getElem_set_ne (Ne.symm hji)] at e ⊢
      exact h.2.1 _ (List.getElem_mem hj) c e
  · simp only [List.length_set] at hp hq
    have key:∀j (hj:j<L.length),((L.set i y)[j]'(by simpa using hj)).foot=L[j].foot/\(L[j].ro=true->((L.set i y)[j]'(by simpa using hj)).ro=true):=λj hj=>by
      by_cases hji:j=i
      · subst hji
        simp only [List.getElem_set_self]
        rw [hxi]
        exact ⟨hf,hr⟩
      · rw [List.getElem_set_ne (Ne.symm hji)]
        exact ⟨rfl,id⟩
    rcases hpair p q hp hq hpq with h1|h1
    · exact .inl ⟨(key p hp).2 h1.1,(key q hq).2 h1.2⟩
    · refine .inr λb e=>?_
      rw [(key p hp).1] at e
      rw [(key q hq).1]
      exact h1 b e
def pB:Option Addr->Nat
  | some a=>a.block
  | none=>0
def pO:Option Addr->Nat
  | some a=>a.off
  | none=>0
def GU (off:Nat) (cs:List Value) (o:Obj):Prop:=∃cur T fr,o=.cells cur T fr/\(cur.toList.drop off).take cs.length=cs
def AI (p:Option Addr) (cs:List Value):As:=⟨p.map (·.block),GU (pO p) cs,true⟩
def rowW (p:Option Addr) (T:TypeId) (z n c:Nat) (cs:List Value):As:=⟨p.map (·.block),λo=>∃cur,o=.cells cur T (0,0)/\cur.size=c*z/\cur.toList.take (n*z)=cs,false⟩
structure BG (p:Option Addr) (n c:Nat):Prop where
  nil:p=none->n=0/\c=0
  spot:∀a,p=some a->a.spot=none
  le:n<=c
structure OwnOk (p:Option Addr) (n c:Nat):Prop where
  nil:p=none->n=0/\c=0
  at0:∀a,p=some a->a=⟨a.block,0,none⟩
  le:n<=c
  max:c<=maxLen
theorem OwnOk.row {p:Option Addr} {n c:Nat} (h:OwnOk p n c):BG p n c:=⟨h.nil,λa e=>by rw [h.at0 a e],h.le⟩
theorem OwnOk.none:OwnOk none 0 0:=⟨λ_=>⟨rfl,rfl⟩,(λ_ e=>by cases e),Nat.le_refl _,by decide⟩
theorem OwnOk.pO {p:Option Addr} {n c:Nat} (h:OwnOk p n c):pO p=0:=by
  cases p with
  | none=>rfl
  | some a=>show a.off=0;rw [h.at0 a rfl]
theorem BG.some {p:Option Addr} {n c:Nat} (h:BG p n c) (hn:0<n):p=some ⟨pB p,Go.Proofs.YtcpkbjjmcleplaaGreatDoor.pO p,none⟩:=by
  cases p with
  | none=>have:=(h.nil rfl).1;omega
  | some a =>
    have hs:=h.spot a rfl
    cases a with|mk b o s=>simp only at hs;subst hs;rfl
theorem C9 {p:Option Addr} {T:TypeId} {z n c:Nat} {cs:List Value} {o:Obj} (ho:OwnOk p n c) (hl:cs.length=n*z) (h:(rowW p T z n c cs).P o):GU (pO p) cs o:=by
  obtain ⟨cur,rfl,_,h2⟩:=h
  exact ⟨cur,T,(0,0),rfl,by rw [ho.pO,List.drop_zero,hl];exact h2⟩
theorem GU.cell {w:World} {b off j:Nat} {cs:List Value} {o:Obj} {v:Value} (h:GU off cs o) (hb:w.heap[b]?=some o) (hj:cs[j]?=some v):w.cell? ⟨b,off+j,none⟩=some v:=by
  obtain ⟨cur,T,fr,rfl,hcs⟩:=h
  rw [cell_of_row w b _ _ T fr hb]
  rw [<-hcs,List.getElem?_take] at hj
  split at hj
  · simpa using hj
  · cases hj
section
variable {P:Program} {ops:Array Oper} {rest:List Oper} {Q:Exit->Act->World->Prop} {n d i b off k z m c c2:Nat} {F F':List (Nat×Value)} {w0:Ay} {L L' Lro:List As} {t ty T:TypeId} {p:String} {af:Array Edge} {dd:Option Tmp} {g:Option (Nat×Bool)} {v:Value} {x y:Operand} {cs vs news:List Value} {q:Option Addr}
theorem TO {w:World} (hw:A_ w0 w L) (hi:L[i]?=some (AI q cs)) (hq:q≠none):CA w (pB q) (pO q+k) ((cs.drop k).take m):=λj u hu=>by
  cases hqe:q with
  | none=>exact absurd hqe hq
  | some a =>
    subst hqe
    obtain ⟨o,ho,hp⟩:=hw.holds hi a.block rfl
    rw [Nat.add_assoc]
    refine GU.cell hp ho ?_
    rw [List.getElem?_take] at hu
    split at hu
    · simpa using hu
    · cases hu
theorem TP {w:World} {n':Nat} (hw:A_ w0 w L) (hi:L[i]?=some (rowW q T z n' c cs)) (ho:OwnOk q n' c) (hl:cs.length=n'*z) (hq:q≠none):CA w (pB q) (pO q+k) ((cs.drop k).take m):=λj u hu=>by
  cases hqe:q with
  | none=>exact absurd hqe hq
  | some a =>
    subst hqe
    obtain ⟨o,ho',hp⟩:=hw.holds hi a.block rfl
    rw [Nat.add_assoc]
    refine GU.cell (C9 ho hl hp) ho' ?_
    rw [List.getElem?_take] at hu
    split at hu
    · simpa using hu
    · cases hu
theorem AQ {s e:TypeId} {ki:IntKind} {i:Int} {j n':Nat} (hx:evF F x=some (.slice q n' c)) (hy:evF F y=some (.int ki i)) (ho:BG q n' c)
    (hu:P.underlying s=some (.slice e)) (hs:∀w,(sizeOf e).run P w=.ok z w) (hi:i=(j:Int)) (hj:j<n'):Ex P n F w0 L ⟨dd,.indexAddr s x y,t,p,af,g⟩ (pP (pB q) (pO q+j*z)):=by
  have he:=ho.some Z
  rw [he] at hx
  exact AH (len:=n') hx hy hu hs hi hj O
theorem Ak {off:Nat} (hx:evF F x=some (pP (pB q) (pO q+off))) (hi:L[i]?=some (AI q cs)) (hq:q≠none) (ht:EG P ty k) (hv:(cs.drop off).take k=vs) (hl:vs.length=k):Ex P n F w0 L ⟨dd,.load ty x,t,p,af,g⟩ (aG vs) :=
  F2 hx (λw hw=>hv▸TO hw hi hq) ht.a ht.s hl
theorem Ad {off:Nat} (hx:evF F x=some (pP (pB q) (pO q+off))) (hi:L[i]?=some (AI q cs)) (hq:q≠none) (ht:Fy P ty) (hv:cs[off]?=some v):Ex P n F w0 L ⟨dd,.load ty x,t,p,af,g⟩ v :=
  Bf hx (λw hw=>by
    have h:=TO (k:=off) (m:=1) hw hi hq 0 v (by rw [List.getElem?_take,if_pos Z];simpa using hv)
    simpa using h) ht.a
theorem BB {off n':Nat} (hx:evF F x=some (pP (pB q) (pO q+off))) (hi:L[i]?=some (rowW q T z n' c cs)) (ho:OwnOk q n' c) (hcl:cs.length=n'*z) (hq:q≠none) (ht:EG P ty k) (hv:(cs.drop off).take k=vs) (hl:vs.length=k):Ex P n F w0 L ⟨dd,.load ty x,t,p,af,g⟩ (aG vs) :=
  F2 hx (λw hw=>hv▸TP hw hi ho hcl hq) ht.a ht.s hl
theorem Jn {off n':Nat} (hx:evF F x=some (pP (pB q) (pO q+off))) (hi:L[i]?=some (rowW q T z n' c cs)) (ho:OwnOk q n' c) (hcl:cs.length=n'*z) (hq:q≠none) (ht:Fy P ty) (hv:cs[off]?=some v):Ex P n F w0 L ⟨dd,.load ty x,t,p,af,g⟩ v :=
  Bf hx (λw hw=>by
    have h:=TP (k:=off) (m:=1) hw hi ho hcl hq 0 v (by rw [List.getElem?_take,if_pos Z];simpa using hv)
    simpa using h) ht.a
structure ElemT (P:Program) (t e:TypeId) (z bytes:Nat):Prop where
  u:P.underlying t=some (.slice e)
  i:∃(i:TypeInfo) (zv:Value),P.info? e=some i/\i.zero=some zv/\i.size=z/\i.bytes=bytes/\zv.cells.size=z
theorem GC {k:Nat} (h:k<=1099511627776):k<=maxLen:=xK h jY
theorem Cx {P:Program} {e:TypeId} {z bytes:Nat} (h:(match P.info? e with|some i=>Nat.beq i.size z&&Nat.beq i.bytes bytes&&(match i.zero with|some zv=>Nat.beq zv.cells.size z|none=>false)|none=>false)=true) :
    ∃(i:TypeInfo) (zv:Value),P.info? e=some i/\i.zero=some zv/\i.size=z/\i.bytes=bytes/\zv.cells.size=z:=by
  cases hi:P.info? e with
  | none=>rw [hi] at h;cases h
  | some i =>
    rw [hi] at h
    simp only [xZ] at h
    cases hz:i.zero with
    | none=>rw [hz] at h;cases h.2
    | some zv =>
      rw [hz] at h
      exact ⟨i,zv,rfl,hz,Nat.eq_of_beq_eq_true h.1.1,Nat.eq_of_beq_eq_true h.1.2,Nat.eq_of_beq_eq_true h.2⟩
theorem Hw (w:World) {n m:Nat} {ty e:TypeId} {z bytes:Nat} (ht:ElemT P t e z bytes) (ho:OwnOk q n c) (hl:cs.length=n*z) (hold:∀b,q.map (·.block)=some b->∃o,w.heap[b]?=some o/\(rowW q e z n c cs).P o)
    (a:Addr) (hnl:news.length=m*z) (hnews:∀j u,news[j]?=some u->w.cell? (a.add j)=some u) (h1:∀u∈news,u.oneCell'=true) (hm:0<m) (h63:n+m<=maxLen) (hbytes:(n+m)*bytes<=140737488355328) :
    ∃p' c' w',(Builtin.append_ #[t,t] ty #[.slice q n c,.slice (some a) m c2]).run P w=.ok (.slice p' (n+m) c') w'/\OwnOk p' (n+m) c'/\p'≠none/\LK w w' (q.map (·.block)) /\
      ∀b,p'.map (·.block)=some b->(q.map (·.block)=some b\/w.heap.size<=b)/\∃o,w'.heap[b]?=some o/\(rowW p' e z (n+m) c' (cs++news)).P o:=by
  obtain ⟨i,zv,hi,hz,rfl,rfl,hzs⟩:=ht.i
  have hlen:(cs++news).length=(n+m)*i.size:=by rw [xJ,hl,hnl,Nat.add_mul]
  have grown:∀(old:Nat),old<n+m->∀row,OwnOk (some ⟨w.heap.size,0,none⟩) (n+m) (grownCap w (n+m) old e) /\
      LK w (w.drew.alloc (.cells (cs.toArray++news.toArray++Builtin.zeroCells zv.cells (grownCap w (n+m) old e-(n+m))) e)) row /\
      ∃o,(w.drew.alloc (.cells (cs.toArray++news.toArray++Builtin.zeroCells zv.cells (grownCap w (n+m) old e-(n+m))) e)).heap[w.heap.size]?=some o/\(rowW (some ⟨w.heap.size,0,none⟩) e i.size (n+m) (grownCap w (n+m) old e) (cs++news)).P o:=by
    intro old hold' row
    have hge:=grownCap_ge w (n+m) old e
    refine ⟨⟨λh=>(by cases h),λa h=>(by injection h with h;subst h;rfl),hge,grownCap_le_maxLen w (n+m) old e h63⟩,⟨⟨rfl,rfl,rfl,by simp,λk hk _=>by first|exact heap_alloc_old w.drew _ k hk|exact heap_alloc_old w.drew _ hk⟩,Nat.le_succ _⟩,_,heap_alloc_new w.drew _,_,rfl,?_,?_⟩
    · simp only [Array.size_append,List.size_toArray,size_zeroCells,hzs,hl,hnl,<-Nat.add_mul]
      congr 1
      omega
    · simp only [Array.toList_append,xC]
      rw [<-xC,<-hlen]
      exact List.take_left
  cases hq:q with
  | none =>
    subst hq
    obtain ⟨rfl,rfl⟩:=ho.nil rfl
    have hx:cs=[]:=List.eq_nil_of_length_eq_zero (by simpa using hl)
    subst hx
    have hr:=run_append_nil (P:=P) w t ty e i zv ht.u hi hz a m c2 news hnl hnews hm (by simp only [maxLen] at h63;omega) (by have hb:=hbytes;simp only [Nat.zero_add] at hb;omega)
    obtain ⟨g1,g2,g3⟩:=grown 0 Z ((none:Option Addr).map (·.block))
    simp only [Nat.zero_add,List.nil_append,Array.empty_append] at g1 g2 g3 ⊢
    refine ⟨_,_,_,hr,g1,by simp,g2,λb e=>?_⟩
    injection e with e;subst e
    exact ⟨.inr (Nat.le_refl _),g3⟩
  | some ad =>
    subst hq
    obtain ⟨o,hob,cur,rfl,hcs,htake⟩:=hold ad.block rfl
    have hat:=ho.at0 ad rfl
    rw [hat]
    by_cases hroom:n+m<=c
    · have hfit:n*i.size+news.length<=cur.size:=by rw [hnl,hcs,<-Nat.add_mul];exact Nat.mul_le_mul_right _ hroom
      have hr:=run_append_room (P:=P) w t ty e i ht.u hi ad.block n c cur hob a m c2 news hnl hnews h1 hroom hfit
      refine ⟨_,_,_,hr,⟨λh=>(by cases h),λa h=>(by injection h with h;subst h;rfl),hroom,ho.max⟩,by simp,⟨⟨rfl,rfl,rfl,by simp,λk _ hk=>setRow_other w ad.block k _ (λe=>hk (by simp [e]))⟩,Nat.le_refl _⟩,λb e=>?_⟩
      injection e with e;subst e
      refine ⟨.inl O,_,setRow_heap w ad.block cur _ e _ hob,_,rfl,?_,?_⟩
      · simp only [List.size_toArray,xJ,List.length_take,List.length_drop,Array.length_toList]
        omega
      · rw [htake,<-hlen]
        exact List.take_left
    · have holds:∀j u,cs[j]?=some u->w.cell? ((⟨ad.block,0,none⟩:Addr).add j)=some u:=λj u hu=>by
        have:=GU.cell (C9 (p:=some ad) ho hl ⟨cur,rfl,hcs,htake⟩) hob hu
        rw [ho.pO] at this
        rw [Addr.add_lit]
        simpa using this
      have hr:=run_append_grow (P:=P) w t ty e i zv ht.u hi hz ⟨ad.block,0,none⟩ n c cs hl holds a m c2 news hnl hnews Z (by simp only [maxLen] at h63;omega) (growslice_fits Z hbytes)
      obtain ⟨g1,g2,g3⟩:=grown c Z ((some (⟨ad.block,0,none⟩:Addr)).map (·.block))
      refine ⟨_,_,_,hr,g1,by simp,g2,λb e=>?_⟩
      injection e with e;subst e
      exact ⟨.inr (Nat.le_refl _),g3⟩
theorem yr (i j:Nat) {s:Operand} {n' bytes:Nat} {tn:TypeId} (ht:ElemT P t T z bytes) (hs:evF F s=some (.slice q n' c)) (hi:L[i]?=some (rowW q T z n' c cs)) (ho:OwnOk q n' c) (hl:cs.length=n'*z)
    (hx:evF F x=some (.slice (jk b) m c2)) (hj:L[j]?=some (AO b tn news)) (hnl:news.length=m*z) (h1:(news.all λu=>u.oneCell')=true) (hm:0<m) (h63:n'+m<=maxLen) (hbytes:(n'+m)*bytes<=140737488355328) (hd:Nat.ble (d+1) n=true)
    (next:∀p' c',OwnOk p' (n'+m) c'->p'≠none->AP P ops rest Q n ((d,.slice p' (n'+m) c')::F) w0 (L.set i (rowW p' T z (n'+m) c' (cs++news)))) :
    AP P ops (⟨some d,.call { callee:=.builtin .append,args:=#[s,x],argTypes:=#[t,t] },ty,p,af,none⟩::rest) Q n F w0 L:=λa w ha hW=>by
  have hnews:∀j u,news[j]?=some u->w.cell? ((⟨b,0,none⟩:Addr).add j)=some u:=λj u hu=>by
    have h:=cell_of_row w b j _ tn (0,0) (hW.get hj)
    rw [Addr.add_lit]
    simp only [Nat.zero_add]
    rw [h];simpa using hu
  obtain ⟨p',c',w',hr,h2,h3,h4,h5⟩:=Hw (P:=P) (c2:=c2) (ty:=ty) w ht ho hl (hW.holds hi) ⟨b,0,none⟩ hnl hnews (λu hu=>List.all_eq_true.1 h1 u hu) hm h63 hbytes
  unfold wpList
  rw [if_pos (AG rfl a ha)]
  left
  unfold Oper.wp
  have e1:=ha.ev hs
  have e2:=ha.ev hx
  have he:(execOp a.eval ⟨some d,.call { callee:=.builtin .append,args:=#[s,x],argTypes:=#[t,t] },ty,p,af,none⟩).run P w=.ok (.value (.slice p' (n'+m) c')) w':=by
    simp only [execOp,resolve,invoke,builtin,Sem.run_bind,Sem.run_pure,Result.andThen_ok,List.map_toArray,List.map_cons,List.map_nil,e1,e2,hr]
  rw [he,Oper.upon_value]
  exact next p' c' h2 h3 _ _ (ha.put (CO hd)) (hW.renew hi O h4 h5)
end
theorem BG.ne {p:Option Addr} {n c:Nat} (h:BG p n c) (hn:0<n):p≠none:=λe=>by have:=(h.nil e).1;omega
section
variable {P:Program} {ops:Array Oper} {rest:List Oper} {Q:Exit->Act->World->Prop} {n d b z m c c2:Nat} {F:List (Nat×Value)} {w0:Ay} {L:List As} {t ty T:TypeId} {p:String} {af:Array Edge} {x:Operand} {cs cs2 news:List Value} {q:Option Addr} {A0 A1 A2:As}
theorem zj (i:Nat) {j:Nat} {s:Operand} {n' bytes:Nat} {tn:TypeId} (ht:ElemT P t T z bytes) (hs:evF F s=some (.slice q n' c)) (ho:OwnOk q n' c) (hl:cs.length=n'*z)
    (hi:L[i]?=some (rowW q T z n' c cs)) (hx:evF F x=some (.slice (jk b) m c2)) (hj:L[j]?=some (AO b tn news)) (hnl:news.length=m*z) (h1:(news.all λu=>u.oneCell')=true) (hm:0<m) (h63:n'+m<=maxLen) (hbytes:(n'+m)*bytes<=140737488355328) (hcs:cs++news=cs2) (hd:Nat.ble (d+1) n=true)
    (next:∀p' c',OwnOk p' (n'+m) c'->p'≠none->AP P ops rest Q n ((d,.slice p' (n'+m) c')::F) w0 (L.set i (rowW p' T z (n'+m) c' cs2))) :
    AP P ops (⟨some d,.call { callee:=.builtin .append,args:=#[s,x],argTypes:=#[t,t] },ty,p,af,none⟩::rest) Q n F w0 L:=by
  subst hcs
  exact yr i j ht hs hi ho hl hx hj hnl h1 hm h63 hbytes hd next
theorem yx {j:Nat} {s:Operand} {n' bytes:Nat} {tn:TypeId} (ht:ElemT P t T z bytes) (hs:evF F s=some (.slice q n' c)) (ho:OwnOk q n' c) (hl:cs.length=n'*z)
    (hx:evF F x=some (.slice (jk b) m c2)) (hj:(rowW q T z n' c cs::L)[j]?=some (AO b tn news)) (hnl:news.length=m*z) (h1:(news.all λu=>u.oneCell')=true) (hm:0<m) (h63:n'+m<=maxLen) (hbytes:(n'+m)*bytes<=140737488355328) (hcs:cs++news=cs2) (hd:Nat.ble (d+1) n=true)
    (next:∀p' c',OwnOk p' (n'+m) c'->p'≠none->AP P ops rest Q n ((d,.slice p' (n'+m) c')::F) w0 (rowW p' T z (n'+m) c' cs2::L)) :
    AP P ops (⟨some d,.call { callee:=.builtin .append,args:=#[s,x],argTypes:=#[t,t] },ty,p,af,none⟩::rest) Q n F w0 (rowW q T z n' c cs::L):=by
  subst hcs
  exact yr 0 j ht hs O ho hl hx hj hnl h1 hm h63 hbytes hd next
theorem yE {j:Nat} {s:Operand} {n' bytes:Nat} {tn:TypeId} (ht:ElemT P t T z bytes) (hs:evF F s=some (.slice q n' c)) (ho:OwnOk q n' c) (hl:cs.length=n'*z)
    (hx:evF F x=some (.slice (jk b) m c2)) (hj:(A0::rowW q T z n' c cs::L)[j]?=some (AO b tn news)) (hnl:news.length=m*z) (h1:(news.all λu=>u.oneCell')=true) (hm:0<m) (h63:n'+m<=maxLen) (hbytes:(n'+m)*bytes<=140737488355328) (hcs:cs++news=cs2) (hd:Nat.ble (d+1) n=true)
    (next:∀p' c',OwnOk p' (n'+m) c'->p'≠none->AP P ops rest Q n ((d,.slice p' (n'+m) c')::F) w0 (A0::rowW p' T z (n'+m) c' cs2::L)) :
    AP P ops (⟨some d,.call { callee:=.builtin .append,args:=#[s,x],argTypes:=#[t,t] },ty,p,af,none⟩::rest) Q n F w0 (A0::rowW q T z n' c cs::L):=by
  subst hcs
  exact yr 1 j ht hs O ho hl hx hj hnl h1 hm h63 hbytes hd next
theorem A_.nilRow {w:World} {T:TypeId} {z:Nat} (h:A_ w0 w L):A_ w0 w (rowW none T z 0 0 []::L) :=
  ⟨h.1,λx hx b e=>by
    rcases xL.1 hx with rfl|hx
    · cases e
    · exact h.2.1 x hx b e,List.pairwise_cons.2 ⟨λy hy=>.inr (λb e=>by cases e),h.2.2⟩⟩
theorem zm (T:TypeId) (z:Nat) (h:AP P ops rest Q n F w0 (rowW none T z 0 0 []::L)):AP P ops rest Q n F w0 L:=λa w ha hw=>h a w ha hw.nilRow
theorem A_.newRow {W w:World} {i:Nat} (h:A_ ⟨W,none⟩ w L) (hi:L[i]?=some (rowW q T z m c cs)):∀b,q.map (·.block)=some b->W.heap.size<=b:=λb e=>by
  rcases (h.2.1 _ (List.mem_of_getElem? hi) b e).1 with h1|h1|h1
  · cases h1
  · exact h1
  · cases h1
end
structure VZ (P:Program) (t e:TypeId) (u:Value) (bytes:Nat):Prop where
  un:P.underlying t=some (.slice e)
  i:∃(i:TypeInfo) (zv:Value),P.info? e=some i/\i.zero=some zv/\i.size=1/\i.bytes=bytes/\zv.cells=#[u]
theorem Ny {b m c:Nat} (h:m<=c) (hc:c<=maxLen):OwnOk (jk b) m c:=⟨λe=>(by cases e),λa e=>(by injection e with e;subst e;rfl),h,hc⟩
section
variable {P:Program} {ops:Array Oper} {rest:List Oper} {Q:Exit->Act->World->Prop} {n d i z m c c2:Nat} {F:List (Nat×Value)} {w0:Ay} {L:List As} {t ty T:TypeId} {p:String} {af:Array Edge} {x y:Operand} {cs vs cs':List Value} {q:Option Addr} {v u:Value} {A0 A1 A2:As}
theorem AP.makeRow {ki kj:IntKind} {bytes:Nat} (ht:VZ P t T u bytes) (hx:evF F x=some (.int ki (m:Nat))) (hy:evF F y=some (.int kj (m:Nat))) (hm:m<=1099511627776) (hb:Nat.ble bytes 16=true) (hd:Nat.ble (d+1) n=true)
    (next:∀b,OwnOk (jk b) m m->AP P ops rest Q n ((d,.slice (jk b) m m)::F) w0 (rowW (jk b) T 1 m m (List.replicate m u)::L)) :
    AP P ops (⟨some d,.makeSlice t x y,ty,p,af,none⟩::rest) Q n F w0 L:=λa w ha hW=>by
  obtain ⟨inf,zv,hi,hz,hs,hby,hzc⟩:=ht.i
  have hble:=Nat.le_of_ble_eq_true hb
  have h1:=run_make (P:=P) w t T inf zv ht.un hi hz ki kj (m:Nat) (m:Nat) Z Z (by
    rw [hby]
    have:bytes*m<=16*m:=Nat.mul_le_mul_right m hble
    have e:((bytes:Nat):Int)*((m:Nat):Int)=((bytes*m:Nat):Int):=by rw [Int.natCast_mul]
    rw [e];omega) Z
  have e1:madeCells zv.cells ((m:Int).toNat*inf.size)=(List.replicate m u).toArray:=by
    rw [hs,hzc]
    apply Array.toList_inj.1
    rw [toList_madeCells_one]
    simp
  rw [e1] at h1
  unfold wpList
  rw [if_pos (AG rfl a ha)]
  left
  unfold Oper.wp
  have he:(execOp a.eval ⟨some d,.makeSlice t x y,ty,p,af,none⟩).run P w=.ok (.value (.slice (some ⟨w.heap.size,0,none⟩) m m)) (w.alloc (.cells (List.replicate m u).toArray T)):=by
    simp only [execOp,ha.ev hx,ha.ev hy,Sem.run_bind,h1,Result.andThen_ok,Sem.run_pure,Int.toNat_natCast]
  rw [he,Oper.upon_value]
  refine next _ (Ny (Nat.le_refl _) (GC hm)) _ _ (ha.put (CO hd)) (hW.alloc _ O ⟨_,rfl,by simp,by simp⟩)
theorem yw (i:Nat) {off n':Nat} (hx:evF F x=some (pP (pB q) (pO q+off))) (hy:evF F y=some v) (hi:L[i]?=some (rowW q T z n' c cs)) (ho:OwnOk q n' c) (hcl:cs.length=n'*z) (hq:q≠none)
    (hv:v.cells=vs.toArray) (hs:∀w,(sizeOf ty).run P w=.ok vs.length w) (h1:(vs.all λu=>u.oneCell')=true) (hl:off+vs.length<=n'*z)
    (next:AP P ops rest Q n F w0 (L.set i (rowW q T z n' c (I7 cs off vs)))):AP P ops (⟨none,.store ty x y,t,p,af,none⟩::rest) Q n F w0 L:=λa w ha hW=>by
  cases hqe:q with
  | none=>exact absurd hqe hq
  | some ad =>
    subst hqe
    obtain ⟨o,hob,cur,rfl,hsz,hcur⟩:=hW.holds hi ad.block rfl
    rw [ho.pO,Nat.zero_add] at hx
    have hnc:n'*z<=c*z:=Nat.mul_le_mul_right z ho.le
    have h2:=run_storeCells_at P ad.block off T vs 0 cur w hob Z (λu hu=>List.all_eq_true.1 h1 u hu)
    simp only [Nat.add_zero] at h2
    have he:(execOp a.eval ⟨none,.store ty x y,t,p,af,none⟩).run P w=.ok .skip (w.setRow ad.block (I7 cur.toList off vs).toArray):=by
      simp [execOp,ha.ev hx,ha.ev hy,Instr.storeAt,Instr.sureAddr,storeVar,hs,hv,h2,I7,pB]
    unfold wpList
    rw [if_pos (AG rfl a ha)]
    left
    unfold Oper.wp
    rw [he,Oper.upon_skip]
    refine next _ _ ha.put_none (hW.turn hi O O ⟨⟨rfl,rfl,rfl,by simp,λk _ hk=>setRow_other w ad.block k _ (λe=>hk (by simp [e]))⟩,Nat.le_refl _⟩ ⟨_,setRow_heap w ad.block cur _ T _ hob,_,rfl,?_,?_⟩)
    · simp only [I7,List.size_toArray,xJ,List.length_take,List.length_drop,Array.length_toList,hsz]
      omega
    · show (I7 cur.toList off vs).take (n'*z)=I7 cs off vs
      have hlc:cur.toList.length=c*z:=by rw [Array.length_toList,hsz]
      rw [<-hcur]
      unfold I7
      apply List.ext_getElem?
      intro j
      simp only [List.getElem?_take,List.getElem?_append,xJ,List.length_take,List.getElem?_drop,hlc]
      split<;>split<;>split<;>(try split)<;>(try split)<;>(try split)<;>first|rfl|omega|(simp_all;done)|(congr 1;omega)|(simp_all;omega)
theorem Sy {cs:List Value} {j:Nat} {v:Value} (h:j<cs.length):I7 cs (j*1) [v]=cs.set j v:=by
  unfold I7
  rw [Nat.mul_one,List.set_eq_take_append_cons_drop,if_pos h,xC]
  rfl
theorem AP.storeRow0 {j n':Nat} (hx:evF F x=some (pP (pB q) (pO q+j*1))) (hy:evF F y=some v) (ho:OwnOk q n' c) (hcl:cs.length=n'*1) (hj:j<n')
    (hv:v.cells=#[v]) (hs:∀w,(sizeOf ty).run P w=.ok 1 w) (h1:v.oneCell'=true) (hc:cs.set j v=cs') (next:AP P ops rest Q n F w0 (rowW q T 1 n' c cs'::L)):AP P ops (⟨none,.store ty x y,t,p,af,none⟩::rest) Q n F w0 (rowW q T 1 n' c cs::L):=by
  subst hc
  rw [<-Sy Z] at next
  exact yw 0 (vs:=[v]) hx hy O ho hcl (ho.row.ne Z) hv hs (by simp [h1]) (by simp;omega) next
theorem AP.storeRow2 {j n':Nat} (hx:evF F x=some (pP (pB q) (pO q+j*1))) (hy:evF F y=some v) (ho:OwnOk q n' c) (hcl:cs.length=n'*1) (hj:j<n')
    (hv:v.cells=#[v]) (hs:∀w,(sizeOf ty).run P w=.ok 1 w) (h1:v.oneCell'=true) (hc:cs.set j v=cs') (next:AP P ops rest Q n F w0 (A0::A1::rowW q T 1 n' c cs'::L)):AP P ops (⟨none,.store ty x y,t,p,af,none⟩::rest) Q n F w0 (A0::A1::rowW q T 1 n' c cs::L):=by
  subst hc
  rw [<-Sy Z] at next
  exact yw 2 (vs:=[v]) hx hy O ho hcl (ho.row.ne Z) hv hs (by simp [h1]) (by simp;omega) next
end
def YY (p:Option Addr) (lo c z:Nat):Option Addr:=if c-lo=0 then p else p.map λy=>y.add (lo*z)
theorem Kj {P:Program} {t ty e:TypeId} {i:TypeInfo} (w:World) (ht:P.underlying t=some (.slice e)) (hi:P.info? e=some i) (q q2:Option Addr) (n c c2:Nat) (hn:n<=c) :
    (Builtin.append_ #[t,t] ty #[.slice q n c,.slice q2 0 c2]).run P w=.ok (.slice q n c) w:=by
  have hf:(Builtin.firstCells i.size 0 (.slice q2 0 c2)).run P w=.ok #[] w:=by
    cases q2 with
    | none=>exact run_firstCells_none (P:=P) (w:=w) i.size 0 0 c2
    | some a=>exact run_firstCells_some (P:=P) (w:=w) i.size 0 a 0 c2 [] jX (λj v h=>by simp at h)
  cases q with
  | none=>simp [Builtin.append_,run_underlying ht,sizeOf,typeInfo,hi,Builtin.lenOf,hn,hf]
  | some a=>simp [Builtin.append_,run_underlying ht,sizeOf,typeInfo,hi,Builtin.lenOf,hn,hf,storeCells]
section
variable {P:Program} {ops:Array Oper} {rest:List Oper} {Q:Exit->Act->World->Prop} {n d z m c c2:Nat} {F:List (Nat×Value)} {w0:Ay} {L:List As} {t ty T:TypeId} {p:String} {af:Array Edge} {x y lo:Operand} {cs cs2 news:List Value} {q q2:Option Addr} {A0:As} {dd:Option Tmp} {g:Option (Nat×Bool)}
theorem Hk {tx e:TypeId} {len cap k i:Nat} {ki:IntKind} (hx:evF F x=some (.slice q len cap)) (hl:evF F lo=some (.int ki (i:Nat))) (hu:P.underlying tx=some (.slice e)) (hs:∀w,(sizeOf e).run P w=.ok k w) (hi:i<=len) (hc:len<=cap) :
    Ex P n F w0 L ⟨dd,.slice tx x (some lo) none none,t,p,af,g⟩ (.slice (YY q i cap k) (len-i) (cap-i)):=λA w ha _=>by
  have e1:(0:Int)<=(i:Int)/\(i:Int)<=(len:Int):=⟨Z,Z⟩
  have e2:(0:Int)<=(len:Int)/\(len:Int)<=(cap:Int):=⟨Z,Z⟩
  simp only [execOp,ha.ev hx,Instr.sliceAt,run_underlying hu,Instr.slice,Option.map_some,Option.map_none,ha.ev hl,Instr.sliceBounds,Instr.sliceBound,asIntOf,Sem.run_bind,Result.andThen_ok,Sem.run_pure]
  simp [hs,hi,YY]
  by_cases h:cap=i
  · simp [h]
  · simp [h,show ¬cap-i=0 by omega]
def Yn (w0:Ay) (L:List As) (q2:Option Addr) (m:Nat) (news:List Value):Prop:=∀w,A_ w0 w L->0<m->∃a,q2=some a/\∀j u,news[j]?=some u->w.cell? (a.add j)=some u
theorem hU {k n':Nat} (hi:L[k]?=some (AI q cs)) (hok:BG q n' c):Yn w0 L q n' cs:=λw hw hm=>by
  refine ⟨_,hok.some hm,λj u hu=>?_⟩
  obtain ⟨o,ho,hp⟩:=hw.holds hi (pB q) (by cases q with|none=>exact absurd rfl (hok.ne hm)|some a=>rfl)
  rw [Addr.add_lit]
  exact GU.cell hp ho hu
theorem fS {k n' i:Nat} (hi:L[k]?=some (AI q cs)) (hok:BG q n' c) (hl:i<=n'):Yn w0 L (YY q i c z) (n'-i) (cs.drop (i*z)):=λw hw hm=>by
  have hle:=hok.le
  have hq:=hok.some Z
  refine ⟨⟨pB q,pO q+i*z,none⟩,?_,λj u hu=>?_⟩
  · unfold YY
    rw [if_neg Z]
    conv=>lhs;rw [hq]
    simp [Addr.add_lit,pB,pO]
  · obtain ⟨o,ho,hp⟩:=hw.holds hi (pB q) (by cases q with|none=>exact absurd rfl (hok.ne Z)|some a=>rfl)
    rw [Addr.add_lit,Nat.add_assoc]
    rw [List.getElem?_drop] at hu
    exact GU.cell hp ho hu
theorem yy (i:Nat) {s:Operand} {n' bytes:Nat} (ht:ElemT P t T z bytes) (hs:evF F s=some (.slice q n' c)) (hi:L[i]?=some (rowW q T z n' c cs)) (ho:OwnOk q n' c) (hl:cs.length=n'*z)
    (hx:evF F x=some (.slice q2 m c2)) (hsrc:Yn w0 L q2 m news) (hnl:news.length=m*z) (h1:(news.all λu=>u.oneCell')=true) (h63:n'+m<=maxLen) (hbytes:(n'+m)*bytes<=140737488355328) (hd:Nat.ble (d+1) n=true)
    (next:∀p' c',OwnOk p' (n'+m) c'->AP P ops rest Q n ((d,.slice p' (n'+m) c')::F) w0 (L.set i (rowW p' T z (n'+m) c' (cs++news)))) :
    AP P ops (⟨some d,.call { callee:=.builtin .append,args:=#[s,x],argTypes:=#[t,t] },ty,p,af,none⟩::rest) Q n F w0 L:=λa w ha hW=>by
  have e1:=ha.ev hs
  have e2:=ha.ev hx
  unfold wpList
  rw [if_pos (AG rfl a ha)]
  left
  unfold Oper.wp
  rcases Nat.eq_zero_or_pos m with h0|h0
  · subst h0
    obtain ⟨inf,zv,hinf,_⟩:=ht.i
    have hnn:news=[]:=List.eq_nil_of_length_eq_zero (by simpa using hnl)
    subst hnn
    have he:(execOp a.eval ⟨some d,.call { callee:=.builtin .append,args:=#[s,x],argTypes:=#[t,t] },ty,p,af,none⟩).run P w=.ok (.value (.slice q n' c)) w:=by
      simp only [execOp,resolve,invoke,builtin,Sem.run_bind,Sem.run_pure,Result.andThen_ok,List.map_toArray,List.map_cons,List.map_nil,e1,e2,Kj w ht.u hinf q q2 n' c c2 ho.le]
    rw [he,Oper.upon_value]
    have h9:=next q c (by simpa using ho)
    simp only [Nat.add_zero,List.append_nil] at h9
    refine h9 _ _ (ha.put (CO hd)) ?_
    have:L.set i (rowW q T z n' c cs)=L:=by
      apply List.ext_getElem?
      intro j
      rw [List.getElem?_set]
      split
      · rename_i hij;subst hij
        split
        · exact hi.symm
        · rename_i hlt;rw [List.getElem?_eq_none Z]
      · rfl
    rw [this]
    exact hW
  · obtain ⟨ad,rfl,hnews⟩:=hsrc w hW h0
    obtain ⟨p',c',w',hr,h2,h3,h4,h5⟩:=Hw (P:=P) (c2:=c2) (ty:=ty) w ht ho hl (hW.holds hi) ad hnl hnews (λu hu=>List.all_eq_true.1 h1 u hu) h0 h63 hbytes
    have he:(execOp a.eval ⟨some d,.call { callee:=.builtin .append,args:=#[s,x],argTypes:=#[t,t] },ty,p,af,none⟩).run P w=.ok (.value (.slice p' (n'+m) c')) w':=by
      simp only [execOp,resolve,invoke,builtin,Sem.run_bind,Sem.run_pure,Result.andThen_ok,List.map_toArray,List.map_cons,List.map_nil,e1,e2,hr]
    rw [he,Oper.upon_value]
    exact next p' c' h2 _ _ (ha.put (CO hd)) (hW.renew hi O h4 h5)
theorem yt {b:Nat} (m:Nat) (hl:cs.length=m*z) (hm:m<=1099511627776) (next:OwnOk (jk b) m m->AP P ops rest Q n F w0 (rowW (jk b) T z m m cs::L)):AP P ops rest Q n F w0 (AO b T cs::L):=λa w ha hw =>
  next (Ny (Nat.le_refl _) (GC hm)) a w ha (hw.freeze (i:=0) (y:=rowW (jk b) T z m m cs) rfl rfl (λo hp=>by subst hp;exact ⟨_,rfl,by simp [hl],by rw [<-hl];simp⟩) (λe=>by cases e))
end
section
variable {P:Program} {ops:Array Oper} {rest:List Oper} {Q:Exit->Act->World->Prop} {n d z m c c2:Nat} {F:List (Nat×Value)} {w0:Ay} {L:List As} {t ty T:TypeId} {p:String} {af:Array Edge} {x y lo:Operand} {cs cs2 news:List Value} {q q2:Option Addr} {A0:As} {dd:Option Tmp} {g:Option (Nat×Bool)}
theorem yp {s:Operand} {n' bytes:Nat} (ht:ElemT P t T z bytes) (hs:evF F s=some (.slice q n' c)) (ho:OwnOk q n' c) (hl:cs.length=n'*z)
    (hx:evF F x=some (.slice q2 m c2)) (hsrc:Yn w0 (rowW q T z n' c cs::L) q2 m news) (hnl:news.length=m*z) (h1:(news.all λu=>u.oneCell')=true) (h63:n'+m<=maxLen) (hbytes:(n'+m)*bytes<=140737488355328) (hcs:cs++news=cs2) (hd:Nat.ble (d+1) n=true)
    (next:∀p' c',OwnOk p' (n'+m) c'->AP P ops rest Q n ((d,.slice p' (n'+m) c')::F) w0 (rowW p' T z (n'+m) c' cs2::L)) :
    AP P ops (⟨some d,.call { callee:=.builtin .append,args:=#[s,x],argTypes:=#[t,t] },ty,p,af,none⟩::rest) Q n F w0 (rowW q T z n' c cs::L):=by
  subst hcs
  exact yy 0 ht hs O ho hl hx hsrc hnl h1 h63 hbytes hd next
theorem Nx {T e:TypeId} {k:Nat} (hu:P.underlying T=some (.slice e)) (hs:∀w,(sizeOf e).run P w=.ok k w) :
    ∀a w,Cg n a F->A_ w0 w L->(execOp a.eval ⟨dd,.buildSlice T 0 #[],t,p,af,g⟩).run P w=.ok (.value (.slice (some ⟨w.heap.size,0,none⟩) 0 0)) (w.alloc (.cells [].toArray e)):=λA w ha _=>by
  have e1:¬(0*k>2^24):=by omega
  have e2:Array.range 0=#[]:=Array.eq_empty_of_size_eq_zero jX
  simp [execOp,Instr.buildSlice,run_underlying hu,hs,newRow,Instr.fill,e2]
end
section
variable {P:Program} {ops:Array Oper} {rest:List Oper} {Q:Exit->Act->World->Prop} {n:Nat} {F:List (Nat×Value)} {w0:Ay} {L:List As}
theorem y6 {o:Oper} {f:FuncId} {args:Array Value} {v:Value} (i:Nat) {q:Option Addr} {T:TypeId} {z m c:Nat} {cs cs':List Value} (hw:Wt ops n F o)
    (he:∀a w,Cg n a F->A_ w0 w L->(execOp a.eval o).run P w=.ok (.enter f args) w) (hi:L[i]?=some (rowW q T z m c cs))
    (hc:∀w,A_ w0 w L->Calls P f args w λe w'=>e=.returned v/\LK w w' (q.map (·.block))/\∀b,q.map (·.block)=some b->∃o,w'.heap[b]?=some o/\(rowW q T z m c cs').P o)
    (hd:∀d,o.dst=some d->d<n) (next:AP P ops rest Q n (match o.dst with|some d=>(d,v)::F|none=>F) w0 (L.set i (rowW q T z m c cs'))):AP P ops (o::rest) Q n F w0 L:=λa w ha hW=>by
  unfold wpList
  rw [if_pos (hw a ha)]
  left
  unfold Oper.wp
  rw [he a w ha hW,Oper.upon_enter]
  refine (hc w hW).mono ?_
  rintro e w' ⟨rfl,hg,hr⟩
  have hW':=hW.renew hi rfl hg (y:=rowW q T z m c cs') λb e=>⟨.inl e,hr b e⟩
  cases hdd:o.dst with
  | none=>rw [hdd] at next;exact next _ _ ha.put_none hW'
  | some d=>rw [hdd] at next;exact next _ _ (ha.put (hd d hdd)) hW'
end
end
end Go.Proofs.YtcpkbjjmcleplaaGreatDoor
