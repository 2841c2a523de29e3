import Derived.Test.YtbfdamnfcmefmaaGreatDoorProg
import Derived.WalkKit
import Derived.LoopN
namespace Go.Proofs.YtbfdamnfcmefmaaGreatDoor
open Go Go.RowKit Go.Proofs.Tryz
open Go.Value renaming slice→qz,bool→qa
set_option linter.unusedVariables false
set_option linter.unusedSimpArgs false
section
theorem O.{u} {α : Sort u} {a : α} : a = a := rfl
theorem Z {p : Prop} (h : p := by omega) : p := h
abbrev Tq3 := Nat × Nat × Nat
set_option linter.defProp false
abbrev jj:Value:=.slice none 0 0
abbrev jk(b:Nat):Option Addr:=some ⟨b,0,none⟩
abbrev jJ:Tq3:=(0,0,0)
theorem jY {p : Prop} (h : p := by decide) : p := h
theorem jV {p : Prop} (h : p := by kernel_rfl) : p := h
theorem jX {p : Prop} (h : p := by simp) : p := h
def jK := And.intro @Bool.and_eq_true (And.intro @Bool.or_eq_true (And.intro @Bool.and_eq_false_iff (And.intro @Bool.or_eq_false_iff (And.intro @Bool.not_eq_true' (And.intro @Bool.not_eq_false' (And.intro @decide_eq_true_eq (@decide_eq_false_iff_not)))))))
set_option linter.defProp false
def yz := @Bool.and_eq_true
def yy := @Bool.or_eq_true
def xZ := @Bool.and_eq_false_iff
def xY := @Bool.or_eq_false_iff
def xX := @Bool.not_eq_true'
def xW := @Bool.not_eq_false'
def xV := @decide_eq_true_eq
def xU := @decide_eq_false_iff_not
def xT := @of_decide_eq_true
def xS := @of_decide_eq_false
def xR := @List.Sublist.refl
def xQ := @Bool.eq_false_or_eq_true
def xP := @List.getElem?_eq_getElem
def xO := @List.mem_singleton
def xN := @List.mem_cons
def xM := @Nat.le_trans
def xL := @List.length_append
def xK := @List.length_map
def xJ := @Nat.zero_le
def xI := @decide_eq_true
def xH := @decide_eq_false
def Cx (n:Nat) (a:Act) (F:List (Nat×Value)):Prop :=
  a.defers=[]/\a.tmps.size=n/\∀k v,F.lookup k=some v->a.tmps[k]?=some v
section
variable {n d:Nat} {a:Act} {F F':List (Nat×Value)} {v:Value}
theorem Cx.put (h:Cx n a F) (hd:d<n):Cx n (a.put (some d) v) ((d,v)::F):=by
  obtain ⟨h1,h2,h3⟩:=h
  refine ⟨h1,by simpa [Act.put] using h2,λk u hk=>?_⟩
  simp only [Act.put]
  rw [List.lookup_cons] at hk
  by_cases e:k=d
  · subst e
    simp only [beq_self_eq_true,Option.some.injEq] at hk
    subst hk
    simp [h2,hd]
  · have e':(k == d)=false:=by simpa using e
    simp only [e'] at hk
    rw [Array.getElem?_setIfInBounds_ne (Ne.symm e)]
    exact h3 k u hk
theorem Cx.put_none (h:Cx n a F):Cx n (a.put none v) F:=h
def evF (F:List (Nat×Value)):Operand->Option Value
  | .tmp t=>F.lookup t
  | .const v=>some v
  | .global g=>some (.pointer (some ⟨g,0,none⟩))
  | .func f=>some (.func (.func f) #[] #[])
theorem Cx.ev (h:Cx n a F) {x:Operand} (hx:evF F x=some v):a.eval x=v:=by
  cases x with
  | tmp t=>simp [Act.eval,h.2.2 t v hx]
  | const u=>simpa [evF,Act.eval] using hx
  | global g=>simpa [evF,Act.eval] using hx
  | func f=>simpa [evF,Act.eval] using hx
def CO:List (Nat×Value)->List (Nat×Value)->Prop
  | [],_=>True
  | p::r,F=>F.lookup p.1=some p.2/\CO r F
theorem CO.lookup:∀{F' F:List (Nat×Value)},CO F' F->∀k v,F'.lookup k=some v->F.lookup k=some v
  | [],_,_,k,v,h=>by simp at h
  | (d,u)::r,F,hs,k,v,h=>by
    rw [List.lookup_cons] at h
    by_cases e:k=d
    · subst e
      simp only [beq_self_eq_true,Option.some.injEq] at h
      subst h
      exact hs.1
    · have e':(k == d)=false:=by simpa using e
      simp only [e'] at h
      exact CO.lookup hs.2 k v h
theorem Cx.sub (h:Cx n a F) (hs:CO F' F):Cx n a F':=⟨h.1,h.2.1,λk v hk=>h.2.2 k v (hs.lookup k v hk)⟩
end
structure As where
  foot:Option Nat
  P:Obj->Prop
  ro:Bool
@[reducible] def AY (b:Nat) (T:TypeId) (cs:List Value):As:=⟨some b,λo=>o=.cells cs.toArray T (0,0),false⟩
structure BD where
  w:World
  ex:Option Nat
structure Hm (B:Nat) (w w':World):Prop extends Below B w w' where
  drawn:w.drawn<=w'.drawn
structure Jq (w w':World) (row:Option Nat):Prop extends World.grownBy w w' row where
  drawn:w.drawn<=w'.drawn
theorem Hm.refl (B:Nat) (w:World):Hm B w w:=⟨Below.refl B w,Nat.le_refl _⟩
theorem Hm.alloc {B:Nat} {a w:World} (h:Hm B a w) (hB:B<=w.heap.size) (o:Obj):Hm B a (w.alloc o):=⟨h.toBelow.alloc hB o,h.drawn⟩
theorem Kl {w w':World} (h:Jq w w' none):Hm w.heap.size w w':=⟨⟨h.os,h.tape,h.output,h.size,λk hk=>h.block k hk (by simp)⟩,h.drawn⟩
theorem D6 {w w':World} (h:Hm w.heap.size w w') (ex:Option Nat):Jq w w' ex:=⟨⟨h.os,h.tape,h.output,h.size,λk hk _=>h.block k hk⟩,h.drawn⟩
theorem Nu {a b c:World} {ex:Option Nat} (h:Jq a b ex) (k:Jq b c ex):Jq a c ex :=
  ⟨⟨k.os.trans h.os,k.tape.trans h.tape,k.output.trans h.output,Nat.le_trans h.size k.size,λi hi hne=>(k.block i (Nat.lt_of_lt_of_le hi h.size) hne).trans (h.block i hi hne)⟩,Nat.le_trans h.drawn k.drawn⟩
def BH (w0:BD) (w:World) (L:List As):Prop :=
  Jq w0.w w w0.ex/\(∀x∈L,∀b,x.foot=some b->(x.ro=true\/w0.w.heap.size<=b\/w0.ex=some b)/\∃o,w.heap[b]?=some o/\x.P o) /\
    L.Pairwise λx y=>(x.ro=true/\y.ro=true)\/∀b,x.foot=some b->y.foot≠some b
section
variable {w0:BD} {w w':World} {L L':List As}
theorem BH.start (w:World):BH ⟨w,none⟩ w []:=⟨D6 (Hm.refl _ _) _,by simp,by simp⟩
theorem BH.startM {g:Nat} {T:TypeId} {cs:List Value} (h:w.heap[g]?=some (.cells cs.toArray T (0,0))):BH ⟨w,some g⟩ w [AY g T cs] :=
  ⟨D6 (Hm.refl _ _) _,λx hx b e=>by
    rcases List.mem_singleton.1 hx with rfl
    injection e with e;subst e
    exact ⟨.inr (.inr rfl),_,h,rfl⟩,by simp⟩
theorem BH.size (h:BH w0 w L):w0.w.heap.size<=w.heap.size:=h.1.size
theorem BH.out {W:World} (h:BH ⟨W,none⟩ w L):Hm W.heap.size W w:=Kl h.1
theorem BH.lt (h:BH w0 w L) {x:As} (hx:x∈L) {b:Nat} (hb:x.foot=some b):b<w.heap.size:=by
  obtain ⟨_,o,ho,_⟩:=h.2.1 x hx b hb
  rcases Nat.lt_or_ge b w.heap.size with hlt|hge
  · exact hlt
  · rw [Array.getElem?_eq_none hge] at ho;cases ho
theorem BH.below (h:BH w0 w L) (hb:Hm w.heap.size w w'):BH w0 w' L:=by
  refine ⟨Nu h.1 (D6 hb _),λx hx b e=>?_,h.2.2⟩
  obtain ⟨h1,o,ho,hp⟩:=h.2.1 x hx b e
  exact ⟨h1,o,(hb.block b (h.lt hx e)).trans ho,hp⟩
theorem BH.drew (h:BH w0 w L):BH w0 w.drew L:=⟨⟨⟨h.1.os,h.1.tape,h.1.output,h.1.size,h.1.block⟩,Nat.le_trans h.1.drawn (Nat.le_succ _)⟩,h.2⟩
theorem BH.alloc (h:BH w0 w L) (o:Obj) {x:As} (hf:x.foot=some w.heap.size) (hp:x.P o):BH w0 (w.alloc o) (x::L):=by
  have h1:BH w0 (w.alloc o) L:=h.below ((Hm.refl _ _).alloc (Nat.le_refl _) o)
  refine ⟨h1.1,λy hy b e=>?_,List.pairwise_cons.2 ⟨λy hy=>.inr λb e=>?_,h1.2.2⟩⟩
  · rcases List.mem_cons.1 hy with rfl|hy
    · rw [hf] at e;injection e with e;subst e
      exact ⟨.inr (.inl h.size),o,heap_alloc_new w o,hp⟩
    · exact h1.2.1 y hy b e
  · rw [hf] at e;injection e with e;subst e
    intro e2
    exact absurd (h.lt hy e2) (Nat.lt_irrefl _)
theorem BH.add (h:BH w0 w L) {b:Nat} {x:As} (hf:x.foot=some b) (hb:Hm w.heap.size w w') (hlt:w.heap.size<=b) (ho:∃o,w'.heap[b]?=some o/\x.P o):BH w0 w' (x::L):=by
  have h1:=h.below hb
  refine ⟨h1.1,λy hy c e=>?_,List.pairwise_cons.2 ⟨λy hy=>.inr λc e e2=>?_,h1.2.2⟩⟩
  · rcases List.mem_cons.1 hy with rfl|hy
    · rw [hf] at e;injection e with e;subst e
      exact ⟨.inr (.inl (Nat.le_trans h.size hlt)),ho⟩
    · exact h1.2.1 y hy c e
  · rw [hf] at e;injection e with e;subst e
    exact absurd (h.lt hy e2) (by omega)
theorem BH.get (h:BH w0 w L) {i b:Nat} {T:TypeId} {cs:List Value} (hi:L[i]?=some (AY b T cs)):w.heap[b]?=some (.cells cs.toArray T (0,0)):=by
  obtain ⟨_,o,ho,hp⟩:=h.2.1 _ (List.mem_of_getElem? hi) b rfl
  rw [ho,hp]
theorem BH.turn (h:BH w0 w L) {i b:Nat} {x y:As} (hi:L[i]?=some x) (hx:x.foot=some b) (hy:y.foot=some b)
    (hg:Jq w w' (some b)) (ho:∃o,w'.heap[b]?=some o/\y.P o) (hro:x.ro=false:=by rfl):BH w0 w' (L.set i y):=by
  have hbb:w0.w.heap.size<=b\/w0.ex=some b:=(h.2.1 x (List.mem_of_getElem? hi) b hx).1.resolve_left (by simp [hro])
  have hil:i<L.length:=by
    rcases Nat.lt_or_ge i L.length with h1|h1
    · exact h1
    · rw [List.getElem?_eq_none h1] at hi;cases hi
  have hpair:=List.pairwise_iff_getElem.1 h.2.2
  have hxi:L[i]=x:=by rw [List.getElem?_eq_getElem hil] at hi;injection hi
  refine ⟨?_,λz hz c e=>?_,List.pairwise_iff_getElem.2 λp q hp hq hpq=>?_⟩
  · refine ⟨⟨hg.os.trans h.1.os,hg.tape.trans h.1.tape,hg.output.trans h.1.output,Nat.le_trans h.1.size hg.size,λk hk hne=>?_⟩,Nat.le_trans h.1.drawn hg.drawn⟩
    refine (hg.block k (Nat.lt_of_lt_of_le hk h.1.size) λe=>?_).trans (h.1.block k hk hne)
    injection e with e;subst e
    rcases hbb with hbb|hbb
    · omega
    · exact hne hbb.symm
  · obtain ⟨j,hj,rfl⟩:=List.getElem_of_mem hz
    simp only [List.length_set] at hj
    by_cases hji:j=i
    · subst hji
      simp only [List.getElem_set_self] at e ⊢
      rw [hy] at e;injection e with e;subst e
      exact ⟨.inr hbb,ho⟩
    · rw [List.getElem_set_ne (Ne.symm hji)] at e ⊢
      obtain ⟨h1,o,h2,h3⟩:=h.2.1 _ (List.getElem_mem hj) c e
      refine ⟨h1,o,?_,h3⟩
      rw [hg.block c (h.lt (List.getElem_mem hj) e) ?_,h2]
      intro hc
      injection hc with hc
      subst hc
      have hxr:¬L[i].ro=true:=by rw [hxi,hro];simp
      rcases Nat.lt_or_gt_of_ne hji with hlt|hgt
      · exact (hpair j i hj hil hlt).resolve_left (λk=>hxr k.2) _ e (by rw [hxi];exact hx)
      · exact (hpair i j hil hj hgt).resolve_left (λk=>hxr k.1) _ (by rw [hxi];exact hx) e
  · simp only [List.length_set] at hp hq
    have foots:∀j (hj:j<L.length),((L.set i y)[j]'(by simpa using hj)).foot=L[j].foot:=by
      intro j hj
      by_cases hji:j=i
      · subst hji;simp only [List.getElem_set_self];rw [hxi,hx,hy]
      · rw [List.getElem_set_ne (Ne.symm hji)]
    by_cases hpi:p=i\/q=i
    · right
      intro c e
      rw [foots p hp] at e
      rw [foots q hq]
      refine (hpair p q hp hq hpq).resolve_left (λk=>?_) c e
      rcases hpi with rfl|rfl
      · have:=k.1;rw [hxi,hro] at this;cases this
      · have:=k.2;rw [hxi,hro] at this;cases this
    · have h1:¬i=p:=λe=>hpi (.inl e.symm)
      have h2:¬i=q:=λe=>hpi (.inr e.symm)
      rw [List.getElem_set_ne h1,List.getElem_set_ne h2]
      exact hpair p q hp hq hpq
theorem BH.weak (h:BH w0 w L) (hs:L'.Sublist L):BH w0 w L' :=
  ⟨h.1,λx hx=>h.2.1 x (hs.subset hx),h.2.2.sublist hs⟩
theorem BH.old (h:BH w0 w L) {b:Nat} {o:Obj} (hne:some b≠w0.ex) (hb:w0.w.heap[b]?=some o):w.heap[b]?=some o:=by
  have hlt:b<w0.w.heap.size:=by
    rcases Nat.lt_or_ge b w0.w.heap.size with h1|h1
    · exact h1
    · rw [Array.getElem?_eq_none h1] at hb;cases hb
  rw [h.1.block b hlt hne,hb]
end
def Wt (ops:Array Oper) (n:Nat) (F:List (Nat×Value)) (o:Oper):Prop:=∀a,Cx n a F->Region.wanted o (yielded ops a.tmps)=true
def Ex (P:Program) (n:Nat) (F:List (Nat×Value)) (w0:BD) (L:List As) (o:Oper) (v:Value):Prop :=
  ∀a w,Cx n a F->BH w0 w L->(execOp a.eval o).run P w=.ok (.value v) w
def AR (P:Program) (ops:Array Oper) (rest:List Oper) (Q:Exit->Act->World->Prop) (n:Nat) (F:List (Nat×Value)) (w0:BD) (L:List As):Prop :=
  ∀a w,Cx n a F->BH w0 w L->wpList P ops Q rest a w
def OkC (P:Program) (c:Code) (Q:Exit->Act->World->Prop) (n:Nat) (F:List (Nat×Value)) (w0:BD) (L:List As):Prop :=
  ∀a w,Cx n a F->BH w0 w L->c.wp P Q a w
def OkQ (Q:Exit->Act->World->Prop) (e:Exit) (n:Nat) (F:List (Nat×Value)) (w0:BD) (L:List As):Prop :=
  ∀a w,Cx n a F->BH w0 w L->Q e a w
section
variable {P:Program} {ops:Array Oper} {rest:List Oper} {Q:Exit->Act->World->Prop} {n:Nat} {F F':List (Nat×Value)} {w0:BD} {L L':List As} {o:Oper} {v:Value}
theorem AI (h:o.guard=none):Wt ops n F o:=λa _=>by simp [Region.wanted,h]
theorem OW {j t:Nat} {b:Bool} (h:o.guard=some (j,b)) (hj:(ops[j]?).bind (·.dst)=some t) (ht:F.lookup t=some (.bool b)):Wt ops n F o:=λa ha=>by
  have h1:=ha.2.2 t _ ht
  simp [Region.wanted,h,yielded,hj,h1]
theorem AR.nil (h:OkQ Q .normal n F w0 L):AR P ops [] Q n F w0 L:=λa w ha hw=>h a w ha hw
theorem AR.step {d:Nat} (hw:Wt ops n F o) (he:Ex P n F w0 L o v) (ho:o.dst=some d) (hd:d<n) (next:AR P ops rest Q n ((d,v)::F) w0 L):AR P ops (o::rest) Q n F w0 L:=λa w ha hW=>by
  unfold wpList
  rw [if_pos (hw a ha)]
  left
  unfold Oper.wp
  rw [he a w ha hW,Oper.upon_value,ho]
  exact next _ _ (ha.put hd) hW
theorem yq {d:Nat} (hw:∀a,Cx n a F->Region.wanted o (yielded ops a.tmps)=false) (ho:o.dst=some d) (hd:d<n) (next:AR P ops rest Q n ((d,undef)::F) w0 L):AR P ops (o::rest) Q n F w0 L:=λa w ha hW=>by
  unfold wpList
  rw [if_neg (by simp [hw a ha]),ho]
  exact next _ _ (ha.put hd) hW
theorem W7 {j t:Nat} {b:Bool} (h:o.guard=some (j,b)) (hj:(ops[j]?).bind (·.dst)=some t) (ht:F.lookup t=some (.bool (!b))):∀a,Cx n a F->Region.wanted o (yielded ops a.tmps)=false:=λa ha=>by
  have h1:=ha.2.2 t _ ht
  simp [Region.wanted,h,yielded,hj,h1]
theorem yv {d:Nat} {T:TypeId} {cs:List Value} (hw:Wt ops n F o)
    (he:∀a w,Cx n a F->BH w0 w L->(execOp a.eval o).run P w=.ok (.value (.pointer (some ⟨w.heap.size,0,none⟩))) (w.alloc (.cells cs.toArray T)))
    (ho:o.dst=some d) (hd:d<n) (next:∀b,AR P ops rest Q n ((d,.pointer (some ⟨b,0,none⟩))::F) w0 (AY b T cs::L)):AR P ops (o::rest) Q n F w0 L:=λa w ha hW=>by
  unfold wpList
  rw [if_pos (hw a ha)]
  left
  unfold Oper.wp
  rw [he a w ha hW,Oper.upon_value,ho]
  exact next _ _ _ (ha.put hd) (hW.alloc _ rfl rfl)
theorem AR.store {i b:Nat} {T:TypeId} {cs cs':List Value} (hw:Wt ops n F o)
    (he:∀a w,Cx n a F->BH w0 w L->(execOp a.eval o).run P w=.ok .skip (w.setRow b cs'.toArray))
    (ho:o.dst=none) (hi:L[i]?=some (AY b T cs)) (next:AR P ops rest Q n F w0 (L.set i (AY b T cs'))):AR P ops (o::rest) Q n F w0 L:=λa w ha hW=>by
  unfold wpList
  rw [if_pos (hw a ha)]
  left
  unfold Oper.wp
  rw [he a w ha hW,Oper.upon_skip,ho]
  have hg:=hW.get hi
  exact next _ _ ha.put_none (hW.turn hi rfl rfl ⟨⟨rfl,rfl,rfl,by simp,λk _ hk=>setRow_other w b k _ (λe=>hk (by simp [e]))⟩,Nat.le_refl _⟩ ⟨_,setRow_heap w b cs.toArray _ T _ hg,rfl⟩)
def Ac (w:World) (v:Value) (e:Ending) (w':World):Prop:=e=.returned v/\Hm w.heap.size w w'
theorem zg {d:Nat} {f:FuncId} {args:Array Value} (hw:Wt ops n F o)
    (he:∀a w,Cx n a F->BH w0 w L->(execOp a.eval o).run P w=.ok (.enter f args) w)
    (hc:∀w,BH w0 w L->Calls P f args w (Ac w v))
    (ho:o.dst=some d) (hd:d<n) (next:AR P ops rest Q n ((d,v)::F) w0 L):AR P ops (o::rest) Q n F w0 L:=λa w ha hW=>by
  unfold wpList
  rw [if_pos (hw a ha)]
  left
  unfold Oper.wp
  rw [he a w ha hW,Oper.upon_enter]
  refine (hc w hW).mono ?_
  rintro e w' ⟨rfl,hb⟩
  rw [ho]
  exact next _ _ (ha.put hd) (hW.below hb)
theorem zH {id:Nat} {l:List Oper} (h:AR P l.toArray l Q n F w0 L):OkC P (.region id l.toArray false) Q n F w0 L:=λa w ha hw=>wp_region_lit (h a w ha hw)
theorem zX {x y:Code} (h:OkC P x (Exit.then (y.wp P Q) Q) n F w0 L):OkC P (.seq x y) Q n F w0 L:=λa w ha hw=>wp_seq (h a w ha hw)
theorem zC (h:OkQ Q .normal n F w0 L):OkC P .skip Q n F w0 L:=λa w ha hw=>wp_skip (h a w ha hw)
theorem zG (h:OkQ Q .ret n F w0 L):OkC P .ret Q n F w0 L:=λa w ha hw=>wp_ret (h a w ha hw)
theorem zU {id:Nat} (h:OkQ Q (.exit id) n F w0 L):OkC P (.exit id) Q n F w0 L:=λa w ha hw=>wp_exit (h a w ha hw)
theorem zI {id:Nat} {c:Code} (h:OkC P c (Exit.inBlock id Q) n F w0 L):OkC P (.block id c) Q n F w0 L:=λa w ha hw=>wp_block (h a w ha hw)
theorem zK {c:Operand} {x y:Code} {t:Bool} (hc:evF F c=some (.bool t)) (h1:t=true->OkC P x Q n F w0 L) (h2:t=false->OkC P y Q n F w0 L):OkC P (.cond c x y) Q n F w0 L:=λa w ha hw =>
  wp_cond_split (ha.ev hc) (λe=>h1 e a w ha hw) (λe=>h2 e a w ha hw)
theorem zV {c:Operand} {x y:Code} (hc:evF F c=some (.bool true)) (h1:OkC P x Q n F w0 L):OkC P (.cond c x y) Q n F w0 L:=λa w ha hw =>
  wp_cond_true (ha.ev hc) (h1 a w ha hw)
theorem zS {c:Operand} {x y:Code} (hc:evF F c=some (.bool false)) (h1:OkC P y Q n F w0 L):OkC P (.cond c x y) Q n F w0 L:=λa w ha hw =>
  wp_cond_false (ha.ev hc) (h1 a w ha hw)
theorem zA {y:Code} (h:OkC P y Q n F w0 L):OkQ (Exit.then (y.wp P Q) Q) .normal n F w0 L:=h
theorem zJ {K:Act->World->Prop} (h:OkQ Q .ret n F w0 L):OkQ (Exit.then K Q) .ret n F w0 L:=h
theorem zO {K:Act->World->Prop} {id:Nat} (h:OkQ Q (.exit id) n F w0 L):OkQ (Exit.then K Q) (.exit id) n F w0 L:=h
theorem zF {id:Nat} (h:OkQ Q .normal n F w0 L):OkQ (Exit.inBlock id Q) .normal n F w0 L:=h
theorem zR {id:Nat} (h:OkQ Q .ret n F w0 L):OkQ (Exit.inBlock id Q) .ret n F w0 L:=h
theorem zP {id:Nat} (h:OkQ Q .normal n F w0 L):OkQ (Exit.inBlock id Q) (.exit id) n F w0 L:=λa w ha hw=>by
  simpa [Exit.inBlock] using h a w ha hw
theorem OkQ.in_exit_ne {id id':Nat} (hne:(id' == id)=false) (h:OkQ Q (.exit id') n F w0 L):OkQ (Exit.inBlock id Q) (.exit id') n F w0 L:=λa w ha hw=>by
  have:¬id'=id:=by simpa using hne
  simpa [Exit.inBlock,this] using h a w ha hw
theorem yc {c:Code} (hs:CO F' F) (hl:L'.Sublist L) (h:OkC P c Q n F' w0 L'):OkC P c Q n F w0 L:=λa w ha hw=>h a w (ha.sub hs) (hw.weak hl)
theorem OkQ.sub {e:Exit} (hs:CO F' F) (hl:L'.Sublist L) (h:OkQ Q e n F' w0 L'):OkQ Q e n F w0 L:=λa w ha hw=>h a w (ha.sub hs) (hw.weak hl)
theorem yd {c:Code} {σ:Type} (J:σ->Prop) (FI:σ->List (Nat×Value)) (LI:σ->List As) (m:σ->Nat)
    (round:∀s,J s->OkC P c (Exit.then (λa w=>∃s',J s'/\m s'<m s/\Cx n a (FI s')/\BH w0 w (LI s')) Q) n (FI s) w0 (LI s))
    (s:σ) (hs:J s):OkC P (.loop c) Q n (FI s) w0 (LI s):=λa w ha hw=>by
  refine wp_loop_rounds (m s+1) ?_
  have key:∀k s a w,m s<k->J s->Cx n a (FI s)->BH w0 w (LI s)->Code.rounds P c Q k a w:=by
    intro k
    induction k with
    | zero=>intro s a w h;omega
    | succ k ih =>
      intro s a w h hs ha hw
      rw [rounds_succ]
      refine Code.wp_mono (λe a' w' hq=>?_) (round s hs a w ha hw)
      cases e<;>first
        | (obtain ⟨s',h1,h2,h3,h4⟩:=hq;exact ih s' a' w' (by omega) h1 h3 h4)
        | exact hq
  exact key _ s a w (by omega) hs ha hw
end
theorem HO {args:List Value} {n:Nat} (hn:args.length<=n) (F:List (Nat×Value)) (hF:∀k v,F.lookup k=some v->args[k]?=some v) :
    Cx n { tmps:=args.toArray++Array.replicate (n-args.toArray.size) undef,defers:=[] } F:=by
  refine ⟨rfl,by simp;omega,λk v h=>?_⟩
  have h1:=hF k v h
  have hlt:k<args.length:=by
    rcases Nat.lt_or_ge k args.length with h2|h2
    · exact h2
    · rw [List.getElem?_eq_none h2] at h1;cases h1
  rw [Array.getElem?_append_left (by simpa using hlt)]
  simpa using h1
def Fh:Nat->List Value->List (Nat×Value)
  | _,[]=>[]
  | k,v::r=>(k,v)::Fh (k+1) r
theorem DJ:∀(l:List Value) (s k:Nat) (v:Value),(Fh s l).lookup k=some v->s<=k/\l[k-s]?=some v
  | [],s,k,v,h=>by simp [Fh] at h
  | u::r,s,k,v,h=>by
    rw [Fh,List.lookup_cons] at h
    by_cases e:k=s
    · subst e
      simp only [beq_self_eq_true,Option.some.injEq] at h
      subst h
      simp
    · have e':(k == s)=false:=by simpa using e
      simp only [e'] at h
      have:=DJ r (s+1) k v h
      refine ⟨by omega,?_⟩
      have e2:k-s=(k-(s+1))+1:=by omega
      rw [e2,List.getElem?_cons_succ]
      exact this.2
theorem AW {P:Program} {f:FuncId} {fn:Func} {c:Code} {args:List Value} {w:World} {R:Ending->World->Prop} {n:Nat}
    (hf:P.funcs[f]?=some fn) (hb:fn.body=some c) (hn:fn.ntmps=n) (hl:args.length<=n)
    (h:OkC P c (bodyPost P fn R) n (Fh 0 args) ⟨w,none⟩ []):Calls P f args.toArray w R:=by
  refine calls_of_wp hf hb ?_
  rw [hn]
  exact h _ _ (HO hl _ λk v hk=>by simpa using (DJ args 0 k v hk).2) (BH.start w)
theorem Fw {P:Program} {f:FuncId} {fn:Func} {c:Code} {args:List Value} {w:World} {R:Ending->World->Prop} {n g:Nat} {T:TypeId} {cs:List Value}
    (hf:P.funcs[f]?=some fn) (hb:fn.body=some c) (hn:fn.ntmps=n) (hl:args.length<=n) (hg:w.heap[g]?=some (.cells cs.toArray T (0,0)))
    (h:OkC P c (bodyPost P fn R) n (Fh 0 args) ⟨w,some g⟩ [AY g T cs]):Calls P f args.toArray w R:=by
  refine calls_of_wp hf hb ?_
  rw [hn]
  exact h _ _ (HO hl _ λk v hk=>by simpa using (DJ args 0 k v hk).2) (BH.startM hg)
def oNl':=@AR.nil
def fT:=@AR.step
end
end Go.Proofs.YtbfdamnfcmefmaaGreatDoor
