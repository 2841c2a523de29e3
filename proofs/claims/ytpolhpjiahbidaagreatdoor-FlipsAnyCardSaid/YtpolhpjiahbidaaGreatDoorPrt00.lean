import Derived.Test.YtpolhpjiahbidaaGreatDoorProg
import Derived.WalkKit
import Derived.LoopN
import Derived.Orders
import Derived.OrdersHeld
namespace Go.Proofs.YtpolhpjiahbidaaGreatDoor
open Go Go.RowKit Go.Proofs.Tryz
open Go.Value renaming slice→qz,bool→qa
set_option linter.unusedVariables false
set_option linter.unusedSimpArgs false
section
theorem O.{u} {α : Sort u} {a : α} : a = a := rfl
theorem Z {p : Prop} (h : p := by omega) : p := h
abbrev Tq3 := Nat × Nat × Nat
set_option linter.defProp false
abbrev jj:Value:=.slice none 0 0
abbrev jk(b:Nat):Option Addr:=some ⟨b,0,none⟩
abbrev jJ:Tq3:=(0,0,0)
theorem jY {p : Prop} (h : p := by decide) : p := h
theorem jV {p : Prop} (h : p := by kernel_rfl) : p := h
theorem jX {p : Prop} (h : p := by simp) : p := h
def jK := And.intro @Bool.and_eq_true (And.intro @Bool.or_eq_true (And.intro @Bool.and_eq_false_iff (And.intro @Bool.or_eq_false_iff (And.intro @Bool.not_eq_true' (And.intro @Bool.not_eq_false' (And.intro @decide_eq_true_eq (@decide_eq_false_iff_not)))))))
set_option linter.defProp false
def xZ := @Bool.and_eq_true
def xY := @Bool.or_eq_true
def xX := @Bool.and_eq_false_iff
def xW := @Bool.or_eq_false_iff
def xV := @Bool.not_eq_true'
def xU := @Bool.not_eq_false'
def xT := @decide_eq_true_eq
def xS := @decide_eq_false_iff_not
def xR := @of_decide_eq_true
def xQ := @of_decide_eq_false
def xP := @List.Sublist.refl
def xO := @Bool.eq_false_or_eq_true
def xN := @List.getElem?_eq_getElem
def xz := @List.mem_singleton
def xy := @List.mem_cons
def xx := @Nat.le_trans
def xw := @List.length_append
def xv := @List.length_map
def xu := @Nat.zero_le
def xt := @List.mem_append_right
def xr := @decide_eq_true
def xq := @decide_eq_false
def C8 (n:Nat) (a:Act) (F:List (Nat×Value)):Prop :=
  a.defers=[]/\a.tmps.size=n/\∀k v,F.lookup k=some v->a.tmps[k]?=some v
section
variable {n d:Nat} {a:Act} {F F':List (Nat×Value)} {v:Value}
theorem C8.put (h:C8 n a F) (hd:d<n):C8 n (a.put (some d) v) ((d,v)::F):=by
  obtain ⟨h1,h2,h3⟩:=h
  refine ⟨h1,by simpa [Act.put] using h2,λk u hk=>?_⟩
  simp only [Act.put]
  rw [List.lookup_cons] at hk
  by_cases e:k=d
  · subst e
    simp only [beq_self_eq_true,Option.some.injEq] at hk
    subst hk
    simp [h2,hd]
  · have e':(k == d)=false:=by simpa using e
    simp only [e'] at hk
    rw [Array.getElem?_setIfInBounds_ne (Ne.symm e)]
    exact h3 k u hk
theorem C8.put_none (h:C8 n a F):C8 n (a.put none v) F:=h
def evF (F:List (Nat×Value)):Operand->Option Value
  | .tmp t=>F.lookup t
  | .const v=>some v
  | .global g=>some (.pointer (some ⟨g,0,none⟩))
  | .func f=>some (.func (.func f) #[] #[])
theorem C8.ev (h:C8 n a F) {x:Operand} (hx:evF F x=some v):a.eval x=v:=by
  cases x with
  | tmp t=>simp [Act.eval,h.2.2 t v hx]
  | const u=>simpa [evF,Act.eval] using hx
  | global g=>simpa [evF,Act.eval] using hx
  | func f=>simpa [evF,Act.eval] using hx
def CM:List (Nat×Value)->List (Nat×Value)->Prop
  | [],_=>True
  | p::r,F=>F.lookup p.1=some p.2/\CM r F
theorem CM.lookup:∀{F' F:List (Nat×Value)},CM F' F->∀k v,F'.lookup k=some v->F.lookup k=some v
  | [],_,_,k,v,h=>by simp at h
  | (d,u)::r,F,hs,k,v,h=>by
    rw [List.lookup_cons] at h
    by_cases e:k=d
    · subst e
      simp only [beq_self_eq_true,Option.some.injEq] at h
      subst h
      exact hs.1
    · have e':(k == d)=false:=by simpa using e
      simp only [e'] at h
      exact CM.lookup hs.2 k v h
theorem C8.sub (h:C8 n a F) (hs:CM F' F):C8 n a F':=⟨h.1,h.2.1,λk v hk=>h.2.2 k v (hs.lookup k v hk)⟩
end
structure As where
  foot:Option Nat
  P:Obj->Prop
  ro:Bool
@[reducible] def AU (b:Nat) (T:TypeId) (cs:List Value):As:=⟨some b,λo=>o=.cells cs.toArray T (0,0),false⟩
structure BA where
  w:World
  ex:Option Nat
structure Hu (B:Nat) (w w':World):Prop extends Below B w w' where
  drawn:w.drawn<=w'.drawn
structure Jf (w w':World) (row:Option Nat):Prop extends World.grownBy w w' row where
  drawn:w.drawn<=w'.drawn
theorem Hu.refl (B:Nat) (w:World):Hu B w w:=⟨Below.refl B w,Nat.le_refl _⟩
theorem Hu.alloc {B:Nat} {a w:World} (h:Hu B a w) (hB:B<=w.heap.size) (o:Obj):Hu B a (w.alloc o):=⟨h.toBelow.alloc hB o,h.drawn⟩
theorem Kk {w w':World} (h:Jf w w' none):Hu w.heap.size w w':=⟨⟨h.os,h.tape,h.output,h.size,λk hk=>h.block k hk (by simp)⟩,h.drawn⟩
theorem EO {w w':World} (h:Hu w.heap.size w w') (ex:Option Nat):Jf w w' ex:=⟨⟨h.os,h.tape,h.output,h.size,λk hk _=>h.block k hk⟩,h.drawn⟩
theorem Nx {a b c:World} {ex:Option Nat} (h:Jf a b ex) (k:Jf b c ex):Jf a c ex :=
  ⟨⟨k.os.trans h.os,k.tape.trans h.tape,k.output.trans h.output,Nat.le_trans h.size k.size,λi hi hne=>(k.block i (Nat.lt_of_lt_of_le hi h.size) hne).trans (h.block i hi hne)⟩,Nat.le_trans h.drawn k.drawn⟩
def BE (w0:BA) (w:World) (L:List As):Prop :=
  Jf w0.w w w0.ex/\(∀x∈L,∀b,x.foot=some b->(x.ro=true\/w0.w.heap.size<=b\/w0.ex=some b)/\∃o,w.heap[b]?=some o/\x.P o) /\
    L.Pairwise λx y=>(x.ro=true/\y.ro=true)\/∀b,x.foot=some b->y.foot≠some b
section
variable {w0:BA} {w w':World} {L L':List As}
theorem BE.start (w:World):BE ⟨w,none⟩ w []:=⟨EO (Hu.refl _ _) _,by simp,by simp⟩
theorem BE.startM {g:Nat} {T:TypeId} {cs:List Value} (h:w.heap[g]?=some (.cells cs.toArray T (0,0))):BE ⟨w,some g⟩ w [AU g T cs] :=
  ⟨EO (Hu.refl _ _) _,λx hx b e=>by
    rcases List.mem_singleton.1 hx with rfl
    injection e with e;subst e
    exact ⟨.inr (.inr rfl),_,h,rfl⟩,by simp⟩
theorem BE.size (h:BE w0 w L):w0.w.heap.size<=w.heap.size:=h.1.size
theorem BE.out {W:World} (h:BE ⟨W,none⟩ w L):Hu W.heap.size W w:=Kk h.1
theorem BE.lt (h:BE w0 w L) {x:As} (hx:x∈L) {b:Nat} (hb:x.foot=some b):b<w.heap.size:=by
  obtain ⟨_,o,ho,_⟩:=h.2.1 x hx b hb
  rcases Nat.lt_or_ge b w.heap.size with hlt|hge
  · exact hlt
  · rw [Array.getElem?_eq_none hge] at ho;cases ho
theorem BE.below (h:BE w0 w L) (hb:Hu w.heap.size w w'):BE w0 w' L:=by
  refine ⟨Nx h.1 (EO hb _),λx hx b e=>?_,h.2.2⟩
  obtain ⟨h1,o,ho,hp⟩:=h.2.1 x hx b e
  exact ⟨h1,o,(hb.block b (h.lt hx e)).trans ho,hp⟩
theorem BE.drew (h:BE w0 w L):BE w0 w.drew L:=⟨⟨⟨h.1.os,h.1.tape,h.1.output,h.1.size,h.1.block⟩,Nat.le_trans h.1.drawn (Nat.le_succ _)⟩,h.2⟩
theorem BE.alloc (h:BE w0 w L) (o:Obj) {x:As} (hf:x.foot=some w.heap.size) (hp:x.P o):BE w0 (w.alloc o) (x::L):=by
  have h1:BE w0 (w.alloc o) L:=h.below ((Hu.refl _ _).alloc (Nat.le_refl _) o)
  refine ⟨h1.1,λy hy b e=>?_,List.pairwise_cons.2 ⟨λy hy=>.inr λb e=>?_,h1.2.2⟩⟩
  · rcases List.mem_cons.1 hy with rfl|hy
    · rw [hf] at e;injection e with e;subst e
      exact ⟨.inr (.inl h.size),o,heap_alloc_new w o,hp⟩
    · exact h1.2.1 y hy b e
  · rw [hf] at e;injection e with e;subst e
    intro e2
    exact absurd (h.lt hy e2) (Nat.lt_irrefl _)
theorem BE.add (h:BE w0 w L) {b:Nat} {x:As} (hf:x.foot=some b) (hb:Hu w.heap.size w w') (hlt:w.heap.size<=b) (ho:∃o,w'.heap[b]?=some o/\x.P o):BE w0 w' (x::L):=by
  have h1:=h.below hb
  refine ⟨h1.1,λy hy c e=>?_,List.pairwise_cons.2 ⟨λy hy=>.inr λc e e2=>?_,h1.2.2⟩⟩
  · rcases List.mem_cons.1 hy with rfl|hy
    · rw [hf] at e;injection e with e;subst e
      exact ⟨.inr (.inl (Nat.le_trans h.size hlt)),ho⟩
    · exact h1.2.1 y hy c e
  · rw [hf] at e;injection e with e;subst e
    exact absurd (h.lt hy e2) (by omega)
theorem BE.get (h:BE w0 w L) {i b:Nat} {T:TypeId} {cs:List Value} (hi:L[i]?=some (AU b T cs)):w.heap[b]?=some (.cells cs.toArray T (0,0)):=by
  obtain ⟨_,o,ho,hp⟩:=h.2.1 _ (List.mem_of_getElem? hi) b rfl
  rw [ho,hp]
theorem BE.turn (h:BE w0 w L) {i b:Nat} {x y:As} (hi:L[i]?=some x) (hx:x.foot=some b) (hy:y.foot=some b)
    (hg:Jf w w' (some b)) (ho:∃o,w'.heap[b]?=some o/\y.P o) (hro:x.ro=false:=by rfl):BE w0 w' (L.set i y):=by
  have hbb:w0.w.heap.size<=b\/w0.ex=some b:=(h.2.1 x (List.mem_of_getElem? hi) b hx).1.resolve_left (by simp [hro])
  have hil:i<L.length:=by
    rcases Nat.lt_or_ge i L.length with h1|h1
    · exact h1
    · rw [List.getElem?_eq_none h1] at hi;cases hi
  have hpair:=List.pairwise_iff_getElem.1 h.2.2
  have hxi:L[i]=x:=by rw [List.getElem?_eq_getElem hil] at hi;injection hi
  refine ⟨?_,λz hz c e=>?_,List.pairwise_iff_getElem.2 λp q hp hq hpq=>?_⟩
  · refine ⟨⟨hg.os.trans h.1.os,hg.tape.trans h.1.tape,hg.output.trans h.1.output,Nat.le_trans h.1.size hg.size,λk hk hne=>?_⟩,Nat.le_trans h.1.drawn hg.drawn⟩
    refine (hg.block k (Nat.lt_of_lt_of_le hk h.1.size) λe=>?_).trans (h.1.block k hk hne)
    injection e with e;subst e
    rcases hbb with hbb|hbb
    · omega
    · exact hne hbb.symm
  · obtain ⟨j,hj,rfl⟩:=List.getElem_of_mem hz
    simp only [List.length_set] at hj
    by_cases hji:j=i
    · subst hji
      simp only [List.getElem_set_self] at e ⊢
      rw [hy] at e;injection e with e;subst e
      exact ⟨.inr hbb,ho⟩
    · rw [List.getElem_set_ne (Ne.symm hji)] at e ⊢
      obtain ⟨h1,o,h2,h3⟩:=h.2.1 _ (List.getElem_mem hj) c e
      refine ⟨h1,o,?_,h3⟩
      rw [hg.block c (h.lt (List.getElem_mem hj) e) ?_,h2]
      intro hc
      injection hc with hc
      subst hc
      have hxr:¬L[i].ro=true:=by rw [hxi,hro];simp
      rcases Nat.lt_or_gt_of_ne hji with hlt|hgt
      · exact (hpair j i hj hil hlt).resolve_left (λk=>hxr k.2) _ e (by rw [hxi];exact hx)
      · exact (hpair i j hil hj hgt).resolve_left (λk=>hxr k.1) _ (by rw [hxi];exact hx) e
  · simp only [List.length_set] at hp hq
    have foots:∀j (hj:j<L.length),((L.set i y)[j]'(by simpa using hj)).foot=L[j].foot:=by
      intro j hj
      by_cases hji:j=i
      · subst hji;simp only [List.getElem_set_self];rw [hxi,hx,hy]
      · rw [List.getElem_set_ne (Ne.symm hji)]
    by_cases hpi:p=i\/q=i
    · right
      intro c e
      rw [foots p hp] at e
      rw [foots q hq]
      refine (hpair p q hp hq hpq).resolve_left (λk=>?_) c e
      rcases hpi with rfl|rfl
      · have:=k.1;rw [hxi,hro] at this;cases this
      · have:=k.2;rw [hxi,hro] at this;cases this
    · have h1:¬i=p:=λe=>hpi (.inl e.symm)
      have h2:¬i=q:=λe=>hpi (.inr e.symm)
      rw [List.getElem_set_ne h1,List.getElem_set_ne h2]
      exact hpair p q hp hq hpq
theorem BE.weak (h:BE w0 w L) (hs:L'.Sublist L):BE w0 w L' :=
  ⟨h.1,λx hx=>h.2.1 x (hs.subset hx),h.2.2.sublist hs⟩
theorem BE.old (h:BE w0 w L) {b:Nat} {o:Obj} (hne:some b≠w0.ex) (hb:w0.w.heap[b]?=some o):w.heap[b]?=some o:=by
  have hlt:b<w0.w.heap.size:=by
    rcases Nat.lt_or_ge b w0.w.heap.size with h1|h1
    · exact h1
    · rw [Array.getElem?_eq_none h1] at hb;cases hb
  rw [h.1.block b hlt hne,hb]
end
def Wt (ops:Array Oper) (n:Nat) (F:List (Nat×Value)) (o:Oper):Prop:=∀a,C8 n a F->Region.wanted o (yielded ops a.tmps)=true
def Ex (P:Program) (n:Nat) (F:List (Nat×Value)) (w0:BA) (L:List As) (o:Oper) (v:Value):Prop :=
  ∀a w,C8 n a F->BE w0 w L->(execOp a.eval o).run P w=.ok (.value v) w
def AQ (P:Program) (ops:Array Oper) (rest:List Oper) (Q:Exit->Act->World->Prop) (n:Nat) (F:List (Nat×Value)) (w0:BA) (L:List As):Prop :=
  ∀a w,C8 n a F->BE w0 w L->wpList P ops Q rest a w
def OkC (P:Program) (c:Code) (Q:Exit->Act->World->Prop) (n:Nat) (F:List (Nat×Value)) (w0:BA) (L:List As):Prop :=
  ∀a w,C8 n a F->BE w0 w L->c.wp P Q a w
def OkQ (Q:Exit->Act->World->Prop) (e:Exit) (n:Nat) (F:List (Nat×Value)) (w0:BA) (L:List As):Prop :=
  ∀a w,C8 n a F->BE w0 w L->Q e a w
section
variable {P:Program} {ops:Array Oper} {rest:List Oper} {Q:Exit->Act->World->Prop} {n:Nat} {F F':List (Nat×Value)} {w0:BA} {L L':List As} {o:Oper} {v:Value}
theorem AM (h:o.guard=none):Wt ops n F o:=λa _=>by simp [Region.wanted,h]
theorem OS {j t:Nat} {b:Bool} (h:o.guard=some (j,b)) (hj:(ops[j]?).bind (·.dst)=some t) (ht:F.lookup t=some (.bool b)):Wt ops n F o:=λa ha=>by
  have h1:=ha.2.2 t _ ht
  simp [Region.wanted,h,yielded,hj,h1]
theorem AQ.nil (h:OkQ Q .normal n F w0 L):AQ P ops [] Q n F w0 L:=λa w ha hw=>h a w ha hw
theorem AQ.step {d:Nat} (hw:Wt ops n F o) (he:Ex P n F w0 L o v) (ho:o.dst=some d) (hd:d<n) (next:AQ P ops rest Q n ((d,v)::F) w0 L):AQ P ops (o::rest) Q n F w0 L:=λa w ha hW=>by
  unfold wpList
  rw [if_pos (hw a ha)]
  left
  unfold Oper.wp
  rw [he a w ha hW,Oper.upon_value,ho]
  exact next _ _ (ha.put hd) hW
theorem yS {d:Nat} (hw:∀a,C8 n a F->Region.wanted o (yielded ops a.tmps)=false) (ho:o.dst=some d) (hd:d<n) (next:AQ P ops rest Q n ((d,undef)::F) w0 L):AQ P ops (o::rest) Q n F w0 L:=λa w ha hW=>by
  unfold wpList
  rw [if_neg (by simp [hw a ha]),ho]
  exact next _ _ (ha.put hd) hW
theorem X5 {j t:Nat} {b:Bool} (h:o.guard=some (j,b)) (hj:(ops[j]?).bind (·.dst)=some t) (ht:F.lookup t=some (.bool (!b))):∀a,C8 n a F->Region.wanted o (yielded ops a.tmps)=false:=λa ha=>by
  have h1:=ha.2.2 t _ ht
  simp [Region.wanted,h,yielded,hj,h1]
theorem xM {d:Nat} {T:TypeId} {cs:List Value} (hw:Wt ops n F o)
    (he:∀a w,C8 n a F->BE w0 w L->(execOp a.eval o).run P w=.ok (.value (.pointer (some ⟨w.heap.size,0,none⟩))) (w.alloc (.cells cs.toArray T)))
    (ho:o.dst=some d) (hd:d<n) (next:∀b,AQ P ops rest Q n ((d,.pointer (some ⟨b,0,none⟩))::F) w0 (AU b T cs::L)):AQ P ops (o::rest) Q n F w0 L:=λa w ha hW=>by
  unfold wpList
  rw [if_pos (hw a ha)]
  left
  unfold Oper.wp
  rw [he a w ha hW,Oper.upon_value,ho]
  exact next _ _ _ (ha.put hd) (hW.alloc _ rfl rfl)
theorem AQ.store {i b:Nat} {T:TypeId} {cs cs':List Value} (hw:Wt ops n F o)
    (he:∀a w,C8 n a F->BE w0 w L->(execOp a.eval o).run P w=.ok .skip (w.setRow b cs'.toArray))
    (ho:o.dst=none) (hi:L[i]?=some (AU b T cs)) (next:AQ P ops rest Q n F w0 (L.set i (AU b T cs'))):AQ P ops (o::rest) Q n F w0 L:=λa w ha hW=>by
  unfold wpList
  rw [if_pos (hw a ha)]
  left
  unfold Oper.wp
  rw [he a w ha hW,Oper.upon_skip,ho]
  have hg:=hW.get hi
  exact next _ _ ha.put_none (hW.turn hi rfl rfl ⟨⟨rfl,rfl,rfl,by simp,λk _ hk=>setRow_other w b k _ (λe=>hk (by simp [e]))⟩,Nat.le_refl _⟩ ⟨_,setRow_heap w b cs.toArray _ T _ hg,rfl⟩)
def AX (w:World) (v:Value) (e:Ending) (w':World):Prop:=e=.returned v/\Hu w.heap.size w w'
theorem zj {d:Nat} {f:FuncId} {args:Array Value} (hw:Wt ops n F o)
    (he:∀a w,C8 n a F->BE w0 w L->(execOp a.eval o).run P w=.ok (.enter f args) w)
    (hc:∀w,BE w0 w L->Calls P f args w (AX w v))
    (ho:o.dst=some d) (hd:d<n) (next:AQ P ops rest Q n ((d,v)::F) w0 L):AQ P ops (o::rest) Q n F w0 L:=λa w ha hW=>by
  unfold wpList
  rw [if_pos (hw a ha)]
  left
  unfold Oper.wp
  rw [he a w ha hW,Oper.upon_enter]
  refine (hc w hW).mono ?_
  rintro e w' ⟨rfl,hb⟩
  rw [ho]
  exact next _ _ (ha.put hd) (hW.below hb)
theorem zQ {id:Nat} {l:List Oper} (h:AQ P l.toArray l Q n F w0 L):OkC P (.region id l.toArray false) Q n F w0 L:=λa w ha hw=>wp_region_lit (h a w ha hw)
theorem zf {x y:Code} (h:OkC P x (Exit.then (y.wp P Q) Q) n F w0 L):OkC P (.seq x y) Q n F w0 L:=λa w ha hw=>wp_seq (h a w ha hw)
theorem zJ (h:OkQ Q .normal n F w0 L):OkC P .skip Q n F w0 L:=λa w ha hw=>wp_skip (h a w ha hw)
theorem zH (h:OkQ Q .ret n F w0 L):OkC P .ret Q n F w0 L:=λa w ha hw=>wp_ret (h a w ha hw)
theorem zY {id:Nat} (h:OkQ Q (.exit id) n F w0 L):OkC P (.exit id) Q n F w0 L:=λa w ha hw=>wp_exit (h a w ha hw)
theorem zN {id:Nat} {c:Code} (h:OkC P c (Exit.inBlock id Q) n F w0 L):OkC P (.block id c) Q n F w0 L:=λa w ha hw=>wp_block (h a w ha hw)
theorem zO {c:Operand} {x y:Code} {t:Bool} (hc:evF F c=some (.bool t)) (h1:t=true->OkC P x Q n F w0 L) (h2:t=false->OkC P y Q n F w0 L):OkC P (.cond c x y) Q n F w0 L:=λa w ha hw =>
  wp_cond_split (ha.ev hc) (λe=>h1 e a w ha hw) (λe=>h2 e a w ha hw)
theorem zZ {c:Operand} {x y:Code} (hc:evF F c=some (.bool true)) (h1:OkC P x Q n F w0 L):OkC P (.cond c x y) Q n F w0 L:=λa w ha hw =>
  wp_cond_true (ha.ev hc) (h1 a w ha hw)
theorem zX {c:Operand} {x y:Code} (hc:evF F c=some (.bool false)) (h1:OkC P y Q n F w0 L):OkC P (.cond c x y) Q n F w0 L:=λa w ha hw =>
  wp_cond_false (ha.ev hc) (h1 a w ha hw)
theorem zC {y:Code} (h:OkC P y Q n F w0 L):OkQ (Exit.then (y.wp P Q) Q) .normal n F w0 L:=h
theorem zI {K:Act->World->Prop} (h:OkQ Q .ret n F w0 L):OkQ (Exit.then K Q) .ret n F w0 L:=h
theorem zR {K:Act->World->Prop} {id:Nat} (h:OkQ Q (.exit id) n F w0 L):OkQ (Exit.then K Q) (.exit id) n F w0 L:=h
theorem zP {id:Nat} (h:OkQ Q .normal n F w0 L):OkQ (Exit.inBlock id Q) .normal n F w0 L:=h
theorem zU {id:Nat} (h:OkQ Q .ret n F w0 L):OkQ (Exit.inBlock id Q) .ret n F w0 L:=h
theorem zV {id:Nat} (h:OkQ Q .normal n F w0 L):OkQ (Exit.inBlock id Q) (.exit id) n F w0 L:=λa w ha hw=>by
  simpa [Exit.inBlock] using h a w ha hw
theorem OkQ.in_exit_ne {id id':Nat} (hne:(id' == id)=false) (h:OkQ Q (.exit id') n F w0 L):OkQ (Exit.inBlock id Q) (.exit id') n F w0 L:=λa w ha hw=>by
  have:¬id'=id:=by simpa using hne
  simpa [Exit.inBlock,this] using h a w ha hw
theorem ym {c:Code} (hs:CM F' F) (hl:L'.Sublist L) (h:OkC P c Q n F' w0 L'):OkC P c Q n F w0 L:=λa w ha hw=>h a w (ha.sub hs) (hw.weak hl)
theorem OkQ.sub {e:Exit} (hs:CM F' F) (hl:L'.Sublist L) (h:OkQ Q e n F' w0 L'):OkQ Q e n F w0 L:=λa w ha hw=>h a w (ha.sub hs) (hw.weak hl)
theorem yk {c:Code} {σ:Type} (J:σ->Prop) (FI:σ->List (Nat×Value)) (LI:σ->List As) (m:σ->Nat)
    (round:∀s,J s->OkC P c (Exit.then (λa w=>∃s',J s'/\m s'<m s/\C8 n a (FI s')/\BE w0 w (LI s')) Q) n (FI s) w0 (LI s))
    (s:σ) (hs:J s):OkC P (.loop c) Q n (FI s) w0 (LI s):=λa w ha hw=>by
  refine wp_loop_rounds (m s+1) ?_
  have key:∀k s a w,m s<k->J s->C8 n a (FI s)->BE w0 w (LI s)->Code.rounds P c Q k a w:=by
    intro k
    induction k with
    | zero=>intro s a w h;omega
    | succ k ih =>
      intro s a w h hs ha hw
      rw [rounds_succ]
      refine Code.wp_mono (λe a' w' hq=>?_) (round s hs a w ha hw)
      cases e<;>first
        | (obtain ⟨s',h1,h2,h3,h4⟩:=hq;exact ih s' a' w' (by omega) h1 h3 h4)
        | exact hq
  exact key _ s a w (by omega) hs ha hw
end
theorem FJ {args:List Value} {n:Nat} (hn:args.length<=n) (F:List (Nat×Value)) (hF:∀k v,F.lookup k=some v->args[k]?=some v) :
    C8 n { tmps:=args.toArray++Array.replicate (n-args.toArray.size) undef,defers:=[] } F:=by
  refine ⟨rfl,by simp;omega,λk v h=>?_⟩
  have h1:=hF k v h
  have hlt:k<args.length:=by
    rcases Nat.lt_or_ge k args.length with h2|h2
    · exact h2
    · rw [List.getElem?_eq_none h2] at h1;cases h1
  rw [Array.getElem?_append_left (by simpa using hlt)]
  simpa using h1
def Ep:Nat->List Value->List (Nat×Value)
  | _,[]=>[]
  | k,v::r=>(k,v)::Ep (k+1) r
theorem Ci:∀(l:List Value) (s k:Nat) (v:Value),(Ep s l).lookup k=some v->s<=k/\l[k-s]?=some v
  | [],s,k,v,h=>by simp [Ep] at h
  | u::r,s,k,v,h=>by
    rw [Ep,List.lookup_cons] at h
    by_cases e:k=s
    · subst e
      simp only [beq_self_eq_true,Option.some.injEq] at h
      subst h
      simp
    · have e':(k == s)=false:=by simpa using e
      simp only [e'] at h
      have:=Ci r (s+1) k v h
      refine ⟨by omega,?_⟩
      have e2:k-s=(k-(s+1))+1:=by omega
      rw [e2,List.getElem?_cons_succ]
      exact this.2
theorem AS {P:Program} {f:FuncId} {fn:Func} {c:Code} {args:List Value} {w:World} {R:Ending->World->Prop} {n:Nat}
    (hf:P.funcs[f]?=some fn) (hb:fn.body=some c) (hn:fn.ntmps=n) (hl:args.length<=n)
    (h:OkC P c (bodyPost P fn R) n (Ep 0 args) ⟨w,none⟩ []):Calls P f args.toArray w R:=by
  refine calls_of_wp hf hb ?_
  rw [hn]
  exact h _ _ (FJ hl _ λk v hk=>by simpa using (Ci args 0 k v hk).2) (BE.start w)
theorem GE {P:Program} {f:FuncId} {fn:Func} {c:Code} {args:List Value} {w:World} {R:Ending->World->Prop} {n g:Nat} {T:TypeId} {cs:List Value}
    (hf:P.funcs[f]?=some fn) (hb:fn.body=some c) (hn:fn.ntmps=n) (hl:args.length<=n) (hg:w.heap[g]?=some (.cells cs.toArray T (0,0)))
    (h:OkC P c (bodyPost P fn R) n (Ep 0 args) ⟨w,some g⟩ [AU g T cs]):Calls P f args.toArray w R:=by
  refine calls_of_wp hf hb ?_
  rw [hn]
  exact h _ _ (FJ hl _ λk v hk=>by simpa using (Ci args 0 k v hk).2) (BE.startM hg)
def oNl':=@AQ.nil
def iE:=@AQ.step
end
section
section
variable {P:Program} {n:Nat} {F:List (Nat×Value)} {w0:BA} {L:List As} {v u:Value} {x y z:Operand} {d:Option Tmp} {t:TypeId} {p:String} {af:Array Edge} {g:Option (Nat×Bool)}
theorem Bv (hx:evF F x=some v):Ex P n F w0 L ⟨d,.move x,t,p,af,g⟩ v:=λa w ha _=>by simp [execOp,ha.ev hx]
theorem Mw (hx:evF F x=some v):Ex P n F w0 L ⟨d,.assign x,t,p,af,g⟩ v:=λa w ha _=>by simp [execOp,ha.ev hx]
theorem ex_pick_true (hx:evF F x=some (.bool true)) (hy:evF F y=some v):Ex P n F w0 L ⟨d,.pick x y z,t,p,af,g⟩ v:=λa w ha _=>by
  simp [execOp,ha.ev hx,ha.ev hy,asBool]
theorem AI (hx:evF F x=some (.bool false)) (hz:evF F z=some v):Ex P n F w0 L ⟨d,.pick x y z,t,p,af,g⟩ v:=λa w ha _=>by
  simp [execOp,ha.ev hx,ha.ev hz,asBool]
theorem Zn {T:TypeId} {cs:List Value} (hv:v.cells=cs.toArray) (w:World):(Instr.box T v).run P w=.ok (.pointer (some ⟨w.heap.size,0,none⟩)) (w.alloc (.cells cs.toArray T)):=by
  simp [Instr.box,newVar,newRow,hv]
theorem cA {T:TypeId} {cs:List Value} (hx:evF F x=some v) (hv:v.cells=cs.toArray) :
    ∀a w,C8 n a F->BE w0 w L->(execOp a.eval ⟨d,.box T x,t,p,af,g⟩).run P w=.ok (.value (.pointer (some ⟨w.heap.size,0,none⟩))) (w.alloc (.cells cs.toArray T)):=λa w ha _=>by
  simp only [execOp,ha.ev hx,Sem.run_bind,Zn hv,Result.andThen_ok,Sem.run_pure]
theorem Pb {T:TypeId} {cs:List Value} (hz:∀w,(zeroValue T).run P w=.ok u w) (hv:u.cells=cs.toArray) :
    ∀a w,C8 n a F->BE w0 w L->(execOp a.eval ⟨d,.alloc T,t,p,af,g⟩).run P w=.ok (.value (.pointer (some ⟨w.heap.size,0,none⟩))) (w.alloc (.cells cs.toArray T)):=λa w _ _=>by
  simp [execOp,Instr.alloc,newVar,newRow,hv,hz]
def CA (w:World) (b off:Nat) (vs:List Value):Prop:=∀j u,vs[j]?=some u->w.cell? ⟨b,off+j,none⟩=some u
theorem Ea {w:World} {b off k:Nat} {cs:List Value} {T:TypeId} {fr:Nat×Nat} (h:w.heap[b]?=some (.cells cs.toArray T fr)):CA w b off ((cs.drop off).take k):=λj u hu=>by
  rw [cell_of_row w b _ _ T fr h]
  rw [List.getElem?_take] at hu
  split at hu
  · simpa using hu
  · cases hu
theorem Gi {w:World} {b off k:Nat} {ty:TypeId} {vs:List Value} (ha:∀w,(isAgg ty).run P w=.ok true w) (hs:∀w,(sizeOf ty).run P w=.ok k w) (hl:vs.length=k) (h:CA w b off vs) :
    (Instr.loadAt ty (.pointer (some ⟨b,off,none⟩))).run P w=.ok (.agg vs.toArray) w:=by
  have h1:=run_loadCells_list (P:=P) w ⟨b,off,none⟩ vs (λj u hu=>by rw [Addr.add_lit];exact h j u hu)
  rw [hl] at h1
  simp [Instr.loadAt,Instr.sureAddr,loadVar,ha,hs,h1]
theorem Iw {w:World} {b off:Nat} {ty:TypeId} (ha:∀w,(isAgg ty).run P w=.ok false w) (h:w.cell? ⟨b,off,none⟩=some v) :
    (Instr.loadAt ty (.pointer (some ⟨b,off,none⟩))).run P w=.ok v w:=by
  simp [Instr.loadAt,Instr.sureAddr,loadVar,ha,h]
theorem Ac {i b off k:Nat} {ty T:TypeId} {cs vs:List Value} (hx:evF F x=some (.pointer (some ⟨b,off,none⟩))) (hi:L[i]?=some (AU b T cs))
    (ha:∀w,(isAgg ty).run P w=.ok true w) (hs:∀w,(sizeOf ty).run P w=.ok k w) (hv:(cs.drop off).take k=vs) (hl:vs.length=k) :
    Ex P n F w0 L ⟨d,.load ty x,t,p,af,g⟩ (.agg vs.toArray):=λa w hfr hW=>by
  subst hv
  simp only [execOp,hfr.ev hx,Sem.run_bind,Gi ha hs hl (Ea (hW.get hi)),Result.andThen_ok,Sem.run_pure]
theorem AE {i b off:Nat} {ty T:TypeId} {cs:List Value} (hx:evF F x=some (.pointer (some ⟨b,off,none⟩))) (hi:L[i]?=some (AU b T cs))
    (ha:∀w,(isAgg ty).run P w=.ok false w) (hv:cs[off]?=some v):Ex P n F w0 L ⟨d,.load ty x,t,p,af,g⟩ v:=λa w hfr hW=>by
  have hc:w.cell? ⟨b,off,none⟩=some v:=by rw [cell_of_row w b _ _ T _ (hW.get hi)];simpa using hv
  simp only [execOp,hfr.ev hx,Sem.run_bind,Iw ha hc,Result.andThen_ok,Sem.run_pure]
theorem G3 {b off k:Nat} {ty:TypeId} {vs:List Value} (hx:evF F x=some (.pointer (some ⟨b,off,none⟩))) (h:∀w,BE w0 w L->CA w b off vs)
    (ha:∀w,(isAgg ty).run P w=.ok true w) (hs:∀w,(sizeOf ty).run P w=.ok k w) (hl:vs.length=k) :
    Ex P n F w0 L ⟨d,.load ty x,t,p,af,g⟩ (.agg vs.toArray):=λa w hfr hW=>by
  simp only [execOp,hfr.ev hx,Sem.run_bind,Gi ha hs hl (h w hW),Result.andThen_ok,Sem.run_pure]
theorem Be {b off:Nat} {ty:TypeId} (hx:evF F x=some (.pointer (some ⟨b,off,none⟩))) (h:∀w,BE w0 w L->w.cell? ⟨b,off,none⟩=some v)
    (ha:∀w,(isAgg ty).run P w=.ok false w):Ex P n F w0 L ⟨d,.load ty x,t,p,af,g⟩ v:=λa w hfr hW=>by
  simp only [execOp,hfr.ev hx,Sem.run_bind,Iw ha (h w hW),Result.andThen_ok,Sem.run_pure]
def Gy (cs:List Value) (off:Nat) (vs:List Value):List Value:=cs.take off++vs++cs.drop (off+vs.length)
theorem Wx {i b off:Nat} {ty T:TypeId} {cs vs:List Value} (hx:evF F x=some (.pointer (some ⟨b,off,none⟩))) (hy:evF F y=some v) (hi:L[i]?=some (AU b T cs))
    (hv:v.cells=vs.toArray) (hs:∀w,(sizeOf ty).run P w=.ok vs.length w) (h1:(vs.all λu=>u.oneCell')=true) (hl:Nat.ble (off+vs.length) cs.length=true) :
    ∀a w,C8 n a F->BE w0 w L->(execOp a.eval ⟨d,.store ty x y,t,p,af,g⟩).run P w=.ok .skip (w.setRow b (Gy cs off vs).toArray):=λa w ha hW=>by
  have hle:=Nat.le_of_ble_eq_true hl
  have h2:=run_storeCells_at P b off T vs 0 cs.toArray w (hW.get hi) (by simpa using hle) (λu hu=>List.all_eq_true.1 h1 u hu)
  simp only [Nat.add_zero] at h2
  simp [execOp,ha.ev hx,ha.ev hy,Instr.storeAt,Instr.sureAddr,storeVar,hs,hv,h2,Gy]
theorem AA {b off k r:Nat} {s:TypeId} {f:Nat} {fs:Array Field} {fl:Field} (hx:evF F x=some (.pointer (some ⟨b,off,none⟩))) (hu:P.underlying s=some (.struct fs))
    (hf:fs[f]?=some fl) (hs:∀w,(sizeOf fl.type).run P w=.ok (k+1) w) (hr:off+fl.offset=r):Ex P n F w0 L ⟨d,.fieldAddr s x f,t,p,af,g⟩ (.pointer (some ⟨b,r,none⟩)):=λa w ha _=>by
  subst hr
  simp [execOp,ha.ev hx,Instr.fieldAt,run_underlying hu,hf,Instr.sureAddr,fieldPlace,hs,Addr.add_lit]
theorem AB {b off len k r:Nat} {s e:TypeId} {ki:IntKind} {i:Int} {j:Nat} (hx:evF F x=some (.pointer (some ⟨b,off,none⟩))) (hy:evF F y=some (.int ki i))
    (hu:P.underlying s=some (.array len e)) (hs:∀w,(sizeOf e).run P w=.ok k w) (hi:i=(j:Int)) (hj:j<len) (hr:off+j*k=r):Ex P n F w0 L ⟨d,.indexAddr s x y,t,p,af,g⟩ (.pointer (some ⟨b,r,none⟩)):=λa w ha _=>by
  subst hi;subst hr
  simp [execOp,ha.ev hx,ha.ev hy,Instr.indexAt,asIntOf,run_underlying hu,Instr.sureAddr,hs,hj,Addr.add_lit]
theorem AL {b off len cap k r:Nat} {s e:TypeId} {ki:IntKind} {i:Int} {j:Nat} (hx:evF F x=some (.slice (some ⟨b,off,none⟩) len cap)) (hy:evF F y=some (.int ki i))
    (hu:P.underlying s=some (.slice e)) (hs:∀w,(sizeOf e).run P w=.ok k w) (hi:i=(j:Int)) (hj:j<len) (hr:off+j*k=r):Ex P n F w0 L ⟨d,.indexAddr s x y,t,p,af,g⟩ (.pointer (some ⟨b,r,none⟩)):=λa w ha _=>by
  subst hi;subst hr
  simp [execOp,ha.ev hx,ha.ev hy,Instr.indexAt,asIntOf,run_underlying hu,hs,hj,Addr.add_lit]
theorem AV {k:IntKind} {a b c:Int} {tx ty:TypeId} (hx:evF F x=some (.int k a)) (hy:evF F y=some (.int k b)) (hc:k.wrap (a+b)=c):Ex P n F w0 L ⟨d,.binOp .add tx x y ty,t,p,af,g⟩ (.int k c):=λA w ha _=>by
  simp only [execOp,ha.ev hx,ha.ev hy,eqGuard_add,binOp_add,Op.intArith,Sem.run_bind,Sem.run_pure,Result.andThen_ok,hc]
theorem Bc {k:IntKind} {a b c:Int} {tx ty:TypeId} (hx:evF F x=some (.int k a)) (hy:evF F y=some (.int k b)) (hc:k.wrap (a-b)=c):Ex P n F w0 L ⟨d,.binOp .sub tx x y ty,t,p,af,g⟩ (.int k c):=λA w ha _=>by
  simp only [execOp,ha.ev hx,ha.ev hy,eqGuard_sub,binOp_sub,Op.intArith,Sem.run_bind,Sem.run_pure,Result.andThen_ok,hc]
theorem D7 {k:IntKind} {a b c:Int} {tx ty:TypeId} (hx:evF F x=some (.int k a)) (hy:evF F y=some (.int k b)) (hc:k.wrap (a*b)=c):Ex P n F w0 L ⟨d,.binOp .mul tx x y ty,t,p,af,g⟩ (.int k c):=λA w ha _=>by
  simp only [execOp,ha.ev hx,ha.ev hy,eqGuard_mul,binOp_mul,Op.intArith,Sem.run_bind,Sem.run_pure,Result.andThen_ok,hc]
theorem FV {k:IntKind} {a b c:Int} {tx ty:TypeId} (hx:evF F x=some (.int k a)) (hy:evF F y=some (.int k b)) (hb:b≠0) (hc:k.wrap (a.tdiv b)=c):Ex P n F w0 L ⟨d,.binOp .quo tx x y ty,t,p,af,g⟩ (.int k c):=λA w ha _=>by
  simp [execOp,ha.ev hx,ha.ev hy,eqGuard_quo,binOp_quo,Op.intDiv,hb,hc]
theorem Dn {k:IntKind} {a b c:Int} {tx ty:TypeId} (hx:evF F x=some (.int k a)) (hy:evF F y=some (.int k b)) (hb:b≠0) (hc:a.tmod b=c):Ex P n F w0 L ⟨d,.binOp .rem tx x y ty,t,p,af,g⟩ (.int k c):=λA w ha _=>by
  simp [execOp,ha.ev hx,ha.ev hy,eqGuard_rem,binOp_rem,Op.intDiv,hb,hc]
theorem K0 {k:IntKind} {a b c:Int} {tx ty:TypeId} (hx:evF F x=some (.int k a)) (hy:evF F y=some (.int k b)) (hc:k.wrap ((BitVec.ofInt k.bits a &&& BitVec.ofInt k.bits b).toNat:Int)=c):Ex P n F w0 L ⟨d,.binOp .and tx x y ty,t,p,af,g⟩ (.int k c):=λA w ha _=>by
  simp only [execOp,ha.ev hx,ha.ev hy,eqGuard_and,binOp_and,Op.intBits,Sem.run_bind,Sem.run_pure,Result.andThen_ok,hc]
theorem Jk {k:IntKind} {a b c:Int} {tx ty:TypeId} (hx:evF F x=some (.int k a)) (hy:evF F y=some (.int k b)) (hc:k.wrap ((BitVec.ofInt k.bits a ||| BitVec.ofInt k.bits b).toNat:Int)=c):Ex P n F w0 L ⟨d,.binOp .or tx x y ty,t,p,af,g⟩ (.int k c):=λA w ha _=>by
  simp only [execOp,ha.ev hx,ha.ev hy,eqGuard_or,binOp_or,Op.intBits,Sem.run_bind,Sem.run_pure,Result.andThen_ok,hc]
theorem bI {k:IntKind} {a b c:Int} {tx ty:TypeId} (hx:evF F x=some (.int k a)) (hy:evF F y=some (.int k b)) (hc:k.wrap ((BitVec.ofInt k.bits a ^^^ BitVec.ofInt k.bits b).toNat:Int)=c):Ex P n F w0 L ⟨d,.binOp .xor tx x y ty,t,p,af,g⟩ (.int k c):=λA w ha _=>by
  simp only [execOp,ha.ev hx,ha.ev hy,eqGuard_xor,binOp_xor,Op.intBits,Sem.run_bind,Sem.run_pure,Result.andThen_ok,hc]
theorem G4 {k k':IntKind} {a b c:Int} {tx ty:TypeId} {s:Nat} (hx:evF F x=some (.int k a)) (hy:evF F y=some (.int k' b)) (hb:b=(s:Int)) (hs:s<=k.bits) (hc:k.wrap (a*2^s)=c):Ex P n F w0 L ⟨d,.binOp .shl tx x y ty,t,p,af,g⟩ (.int k c):=λA w ha _=>by
  subst hb
  simp [execOp,ha.ev hx,ha.ev hy,eqGuard_shl,binOp_shl,shift_shl k k' a s Z Z,hc]
theorem DD {k k':IntKind} {a b c:Int} {tx ty:TypeId} {s:Nat} (hx:evF F x=some (.int k a)) (hy:evF F y=some (.int k' b)) (hb:b=(s:Int)) (hs:s<=k.bits) (hc:a/2^s=c):Ex P n F w0 L ⟨d,.binOp .shr tx x y ty,t,p,af,g⟩ (.int k c):=λA w ha _=>by
  subst hb
  simp [execOp,ha.ev hx,ha.ev hy,eqGuard_shr,binOp_shr,shift_shr k k' a s Z Z,hc]
theorem A9 {k:IntKind} {a b:Int} {c:Bool} {tx ty:TypeId} (hx:evF F x=some (.int k a)) (hy:evF F y=some (.int k b)) (hc:decide (a=b)=c):Ex P n F w0 L ⟨d,.binOp .eql tx x y ty,t,p,af,g⟩ (.bool c):=λA w ha _=>by
  have:(a == b)=c:=by rw [<-hc];rfl
  simp only [execOp,ha.ev hx,ha.ev hy,eqGuard_at_int,binOp_eql,Sem.run_bind,Sem.run_pure,Result.andThen_ok,this]
theorem Bf {k:IntKind} {a b:Int} {c:Bool} {tx ty:TypeId} (hx:evF F x=some (.int k a)) (hy:evF F y=some (.int k b)) (hc:decide (a≠b)=c):Ex P n F w0 L ⟨d,.binOp .neq tx x y ty,t,p,af,g⟩ (.bool c):=λA w ha _=>by
  have:(a != b)=c:=by rw [<-hc];simp [bne];rfl
  simp only [execOp,ha.ev hx,ha.ev hy,eqGuard_at_int,binOp_neq,Sem.run_bind,Sem.run_pure,Result.andThen_ok,this]
theorem AW {k:IntKind} {a b:Int} {c:Bool} {tx ty:TypeId} (hx:evF F x=some (.int k a)) (hy:evF F y=some (.int k b)) (hc:decide (a<b)=c):Ex P n F w0 L ⟨d,.binOp .lss tx x y ty,t,p,af,g⟩ (.bool c):=λA w ha _=>by
  simp only [execOp,ha.ev hx,ha.ev hy,eqGuard_lss,binOp_lss,Sem.run_bind,Sem.run_pure,Result.andThen_ok,hc]
theorem Ee {k:IntKind} {a b:Int} {c:Bool} {tx ty:TypeId} (hx:evF F x=some (.int k a)) (hy:evF F y=some (.int k b)) (hc:decide (a<=b)=c):Ex P n F w0 L ⟨d,.binOp .leq tx x y ty,t,p,af,g⟩ (.bool c):=λA w ha _=>by
  simp only [execOp,ha.ev hx,ha.ev hy,eqGuard_leq,binOp_leq,Sem.run_bind,Sem.run_pure,Result.andThen_ok,hc]
theorem B2 {k:IntKind} {a b:Int} {c:Bool} {tx ty:TypeId} (hx:evF F x=some (.int k a)) (hy:evF F y=some (.int k b)) (hc:decide (b<a)=c):Ex P n F w0 L ⟨d,.binOp .gtr tx x y ty,t,p,af,g⟩ (.bool c):=λA w ha _=>by
  have:decide (a>b)=c:=hc
  simp only [execOp,ha.ev hx,ha.ev hy,eqGuard_gtr,binOp_gtr,Sem.run_bind,Sem.run_pure,Result.andThen_ok,this]
theorem CU {k:IntKind} {a b:Int} {c:Bool} {tx ty:TypeId} (hx:evF F x=some (.int k a)) (hy:evF F y=some (.int k b)) (hc:decide (b<=a)=c):Ex P n F w0 L ⟨d,.binOp .geq tx x y ty,t,p,af,g⟩ (.bool c):=λA w ha _=>by
  have:decide (a>=b)=c:=hc
  simp only [execOp,ha.ev hx,ha.ev hy,eqGuard_geq,binOp_geq,Sem.run_bind,Sem.run_pure,Result.andThen_ok,this]
theorem Vx {k:IntKind} {a c:Int} {tx:TypeId} (hx:evF F x=some (.int k a)) (hc:k.wrap (0-a)=c):Ex P n F w0 L ⟨d,.unOp .neg tx x,t,p,af,g⟩ (.int k c):=λA w ha _=>by
  simp only [execOp,ha.ev hx,Op.unary,Op.intArith,Sem.run_bind,Sem.run_pure,Result.andThen_ok,hc]
theorem BB {b c:Bool} {tx:TypeId} (hx:evF F x=some (.bool b)) (hc:(!b)=c):Ex P n F w0 L ⟨d,.unOp .not tx x,t,p,af,g⟩ (.bool c):=λA w ha _=>by
  simp only [execOp,ha.ev hx,Op.unary,Sem.run_bind,Sem.run_pure,Result.andThen_ok,hc]
theorem Vv {k:IntKind} {a c:Int} {tx:TypeId} (hx:evF F x=some (.int k a)) (hc:k.wrap ((BitVec.ofInt k.bits (if k.signed then -1 else k.max) ^^^ BitVec.ofInt k.bits a).toNat:Int)=c):Ex P n F w0 L ⟨d,.unOp .xor tx x,t,p,af,g⟩ (.int k c):=λA w ha _=>by
  simp only [execOp,ha.ev hx,Op.unary,Op.intBits,Sem.run_bind,Sem.run_pure,Result.andThen_ok,hc]
theorem A6 {k k':IntKind} {a c:Int} {src dst:TypeId} {ds:TypeDesc} (hx:evF F x=some (.int k a)) (h1:P.underlying src=some ds) (h2:P.underlying dst=some (.int k')) (hc:k'.wrap a=c):Ex P n F w0 L ⟨d,.convert src dst x,t,p,af,g⟩ (.int k' c):=λA w ha _=>by
  simp [execOp,ha.ev hx,convert,run_underlying h1,run_underlying h2,Conv.intToInt,hc]
theorem BY {s s':ByteArray} {c:Bool} {tx ty:TypeId} (hx:evF F x=some (.string s)) (hy:evF F y=some (.string s')) (hc:(s.toList == s'.toList)=c):Ex P n F w0 L ⟨d,.binOp .eql tx x y ty,t,p,af,g⟩ (.bool c):=λA w ha _=>by
  simp only [execOp,ha.ev hx,ha.ev hy,eqGuard_at_string,Sem.run_bind,Sem.run_pure,Result.andThen_ok]
  simp [binOp,Op.stringOp,hc]
theorem Bw {s s' r:ByteArray} {tx ty:TypeId} (hx:evF F x=some (.string s)) (hy:evF F y=some (.string s')) (hl:s.size+s'.size<=9223372036854775807) (hr:s++s'=r):Ex P n F w0 L ⟨d,.binOp .add tx x y ty,t,p,af,g⟩ (.string r):=λA w ha _=>by
  have h:¬(((s.size+s'.size:Nat):Int)>IntKind.i64.max):=by rw [IntKind.max_i64];omega
  simp [execOp,ha.ev hx,ha.ev hy,eqGuard_add,binOp,Op.stringOp]
  rw [IntKind.max_i64] at h
  rw [if_neg Z]
  simp [hr]
theorem Fu {a b c:Bool} {tx ty:TypeId} (hx:evF F x=some (.bool a)) (hy:evF F y=some (.bool b)) (hu:P.underlying tx=some .bool) (hc:(a == b)=c):Ex P n F w0 L ⟨d,.binOp .eql tx x y ty,t,p,af,g⟩ (.bool c):=λA w ha _=>by
  have h:∀k:Nat,(Op.equalIn (k+1) tx (.bool a) (.bool b)).run P w=.ok (a == b) w:=λk=>by simp [Op.equalIn,run_underlying hu]
  simp only [execOp,ha.ev hx,ha.ev hy,eqGuard_at_bool,Sem.run_bind,Sem.run_pure,Result.andThen_ok,binOp]
  simp only [Op.equal,Op.maxDepth,h 9999,Result.andThen_ok,hc]
theorem Ji {a b c:Bool} {tx ty:TypeId} (hx:evF F x=some (.bool a)) (hy:evF F y=some (.bool b)) (hu:P.underlying tx=some .bool) (hc:(!(a == b))=c):Ex P n F w0 L ⟨d,.binOp .neq tx x y ty,t,p,af,g⟩ (.bool c):=λA w ha _=>by
  have h:∀k:Nat,(Op.equalIn (k+1) tx (.bool a) (.bool b)).run P w=.ok (a == b) w:=λk=>by simp [Op.equalIn,run_underlying hu]
  simp only [execOp,ha.ev hx,ha.ev hy,eqGuard_at_bool,Sem.run_bind,Sem.run_pure,Result.andThen_ok,binOp]
  simp only [Op.equal,Op.maxDepth,h 9999,Result.andThen_ok,hc]
theorem AK {vs:Array Value} {i:Nat} (hx:evF F x=some (.tuple vs)) (hv:vs[i]?=some v):Ex P n F w0 L ⟨d,.extract x i,t,p,af,g⟩ v:=λA w ha _=>by
  simp [execOp,ha.ev hx,Instr.extract,hv]
theorem ED {fn:Fn} {first captured:Array Operand} {vs us:List Value} (h1:(first.toList.map (evF F))=vs.map some) (h2:(captured.toList.map (evF F))=us.map some):Ex P n F w0 L ⟨d,.makeFunc fn first captured,t,p,af,g⟩ (.func fn vs.toArray us.toArray):=λA w ha _=>by
  have key:∀(l:List Operand) (r:List Value),l.map (evF F)=r.map some->l.map A.eval=r:=by
    intro l
    induction l with
    | nil=>intro r h;cases r<;>simp_all
    | cons o l ih =>
      intro r h
      cases r with
      | nil=>simp at h
      | cons u r=>simp only [List.map_cons,List.cons.injEq] at h;rw [List.map_cons,ha.ev h.1,ih r h.2]
  have e1:first.map A.eval=vs.toArray:=by rw [<-key _ _ h1];apply Array.toList_inj.1;simp
  have e2:captured.map A.eval=us.toArray:=by rw [<-key _ _ h2];apply Array.toList_inj.1;simp
  simp [execOp,Instr.makeFunc,e1,e2]
theorem Gr {s:ByteArray} {k:IntKind} {i:Int} {j:Nat} {b:UInt8} {tx:TypeId} (hx:evF F x=some (.string s)) (hy:evF F y=some (.int k i)) (hu:P.underlying tx=some .string) (hi:i=(j:Int)) (hb:s[j]?=some b):Ex P n F w0 L ⟨d,.index tx x y,t,p,af,g⟩ (.int .u8 b.toNat):=λA w ha _=>by
  subst hi
  simp [execOp,ha.ev hx,ha.ev hy,Instr.index,asIntOf,run_underlying hu,hb]
theorem Cy {s:ByteArray} {tx:TypeId} (hx:evF F x=some (.string s)) (hu:P.underlying tx=some .string):Ex P n F w0 L ⟨d,.call { callee:=.builtin .len,args:=#[x],argTypes:=#[tx] },t,p,af,g⟩ (.int .i64 s.size):=λA w ha _=>by
  simp [execOp,resolve,invoke,builtin,ha.ev hx,Builtin.len_,run_underlying hu,goInt]
theorem AD {a:Option Addr} {k c:Nat} {tx e:TypeId} (hx:evF F x=some (.slice a k c)) (hu:P.underlying tx=some (.slice e)):Ex P n F w0 L ⟨d,.call { callee:=.builtin .len,args:=#[x],argTypes:=#[tx] },t,p,af,g⟩ (.int .i64 k):=λA w ha _=>by
  simp [execOp,resolve,invoke,builtin,ha.ev hx,Builtin.len_,run_underlying hu,goInt]
theorem F7 {k:IntKind} {a b c:Int} {ts:Array TypeId} (hx:evF F x=some (.int k a)) (hy:evF F y=some (.int k b)) (hc:(if b<a then b else a)=c):Ex P n F w0 L ⟨d,.call { callee:=.builtin .min,args:=#[x,y],argTypes:=ts },t,p,af,g⟩ (.int k c):=λA w ha _=>by
  simp [execOp,resolve,invoke,builtin,ha.ev hx,ha.ev hy,Builtin.min_,Builtin.min2,hc]
theorem E6 {k:IntKind} {a b c:Int} {ts:Array TypeId} (hx:evF F x=some (.int k a)) (hy:evF F y=some (.int k b)) (hc:(if b>a then b else a)=c):Ex P n F w0 L ⟨d,.call { callee:=.builtin .max,args:=#[x,y],argTypes:=ts },t,p,af,g⟩ (.int k c):=λA w ha _=>by
  simp [execOp,resolve,invoke,builtin,ha.ev hx,ha.ev hy,Builtin.max_,Builtin.max2,hc]
theorem Kz {l:List Operand} {r:List Value} {A:Act} (ha:C8 n A F) (h:l.map (evF F)=r.map some):l.map A.eval=r:=by
  induction l generalizing r with
  | nil=>cases r<;>simp_all
  | cons o l ih =>
    cases r with
    | nil=>simp at h
    | cons u r=>simp only [List.map_cons,List.cons.injEq] at h;rw [List.map_cons,ha.ev h.1,ih h.2]
theorem ER {f:FuncId} {xs:List Operand} {args caps all:List Value} {ts:Array TypeId} (hf:evF F x=some (.func (.func f) #[] caps.toArray)) (hargs:xs.map (evF F)=args.map some)
    (hall:args++caps=all) (hc:∀args w,(callFunc f args).run P w=.ok (.enter f args) w) :
    ∀a w,C8 n a F->BE w0 w L->(execOp a.eval ⟨d,.call { callee:=.value x,args:=xs.toArray,argTypes:=ts },t,p,af,g⟩).run P w=.ok (.enter f all.toArray) w:=λA w ha _=>by
  have e1:xs.toArray.map A.eval=args.toArray:=by rw [<-Kz ha hargs];simp
  subst hall
  simp [execOp,resolve,ha.ev hf,Deferred.ofValue,e1,invoke,hc]
theorem AO {T:TypeId} {zs vs:List Value} {fs:Array Field} {parts:Array (Nat×Operand)} {pv:List (Nat×Value)} {places:List (Nat×Nat)} (hz:∀w,(zeroValue T).run P w=.ok (.agg zs.toArray) w) (hu:P.underlying T=some (.struct fs))
    (hpl:∀w,(fs.mapM λf=>Prod.mk f.offset <$> sizeOf f.type:Sem (Array (Nat×Nat))).run P w=.ok places.toArray w)
    (hp:parts.toList.map (λq=>(q.1,evF F q.2))=pv.map (λq=>(q.1,some q.2)))
    (hf:Instr.fill (places.toArray[·]?) zs.toArray pv=some vs.toArray):Ex P n F w0 L ⟨d,.build T parts,t,p,af,g⟩ (.agg vs.toArray):=λA w ha _=>by
  have key:∀(l:List (Nat×Operand)) (r:List (Nat×Value)),l.map (λq=>(q.1,evF F q.2))=r.map (λq=>(q.1,some q.2))->l.map (λq=>(q.1,A.eval q.2))=r:=by
    intro l
    induction l with
    | nil=>intro r h;cases r<;>simp_all
    | cons o l ih =>
      intro r h
      cases r with
      | nil=>simp at h
      | cons q r =>
        simp only [List.map_cons,List.cons.injEq,Prod.mk.injEq] at h
        rw [List.map_cons,ha.ev h.1.2,ih r h.2,h.1.1]
  have e1:(parts.map λq=>(q.1,A.eval q.2)).toList=pv:=by rw [Array.toList_map];exact key _ _ hp
  simp [execOp,Instr.build,hz,run_underlying hu,Value.cells]
  rw [hpl]
  simp only [Result.andThen_ok]
  have e2:(parts.map λ(i,x)=>(i,A.eval x)).toList=pv:=e1
  simp only [Array.toList_map] at e2
  simp only [List.getElem?_toArray] at hf ⊢
  rw [e2,hf]
  simp
theorem Bk {T e:TypeId} {len k:Nat} {zs vs:List Value} {parts:Array (Nat×Operand)} {pv:List (Nat×Value)} (hz:∀w,(zeroValue T).run P w=.ok (.agg zs.toArray) w) (hu:P.underlying T=some (.array len e))
    (hs:∀w,(sizeOf e).run P w=.ok k w)
    (hp:parts.toList.map (λq=>(q.1,evF F q.2))=pv.map (λq=>(q.1,some q.2)))
    (hf:Instr.fill (λi=>some (i*k,k)) zs.toArray pv=some vs.toArray):Ex P n F w0 L ⟨d,.build T parts,t,p,af,g⟩ (.agg vs.toArray):=λA w ha _=>by
  have key:∀(l:List (Nat×Operand)) (r:List (Nat×Value)),l.map (λq=>(q.1,evF F q.2))=r.map (λq=>(q.1,some q.2))->l.map (λq=>(q.1,A.eval q.2))=r:=by
    intro l
    induction l with
    | nil=>intro r h;cases r<;>simp_all
    | cons o l ih =>
      intro r h
      cases r with
      | nil=>simp at h
      | cons q r =>
        simp only [List.map_cons,List.cons.injEq,Prod.mk.injEq] at h
        rw [List.map_cons,ha.ev h.1.2,ih r h.2,h.1.1]
  have e1:(parts.map λq=>(q.1,A.eval q.2)).toList=pv:=by rw [Array.toList_map];exact key _ _ hp
  simp [execOp,Instr.build,hz,run_underlying hu,Value.cells,hs]
  have e2:(parts.map λ(i,x)=>(i,A.eval x)).toList=pv:=e1
  simp only [Array.toList_map] at e2
  rw [e2,hf]
  simp
end
def XD (tmps:Array Value):ResultVar->Sem Value
  | .tmp t=>pure (tmps.getD t undef)
  | .cell p ty=>do loadVar ty (<-asAddr (tmps.getD p undef))
theorem Gh (fn:Func) (tmps:Array Value):results fn tmps=(do let vs <-fn.results.mapM (XD tmps);pure (if h:vs.size=1 then vs[0] else .tuple vs)):=by
  have:XD tmps=(λ|.tmp t=>pure (tmps.getD t undef)|.cell a t=>do loadVar t (<-asAddr (tmps.getD a undef))):=by
    funext r;cases r<;>rfl
  rw [this];rfl
def Rd (P:Program) (n:Nat) (F:List (Nat×Value)) (w0:BA) (L:List As) (r:ResultVar) (v:Value):Prop :=
  ∀a w,C8 n a F->BE w0 w L->(XD a.tmps r).run P w=.ok v w
section
variable {P:Program} {fn:Func} {n:Nat} {F:List (Nat×Value)} {w0:BA} {L:List As} {R:Ending->World->Prop} {r r' r'':ResultVar} {v v' v'':Value}
theorem rd_tmp {t:Tmp} (ht:F.lookup t=some v):Rd P n F w0 L (.tmp t) v:=λa w ha _=>by simp [XD,ha.2.2 t v ht]
theorem Ah {t:Tmp} {i b k:Nat} {ty T:TypeId} {cs:List Value} (ht:F.lookup t=some (.pointer (jk b))) (hi:L[i]?=some (AU b T cs))
    (ha:∀w,(isAgg ty).run P w=.ok true w) (hs:∀w,(sizeOf ty).run P w=.ok k w) (hl:cs.length=k):Rd P n F w0 L (.cell t ty) (.agg cs.toArray):=λa w hfr hw=>by
  have h1:((cs.drop 0).take cs.length)=cs:=by simp
  have h2:=Gi (P:=P) (off:=0) (vs:=cs) ha hs hl (by have:=Ea (off:=0) (k:=cs.length) (hw.get hi);rwa [h1] at this)
  simp only [Instr.loadAt,Instr.sureAddr,Sem.run_bind,Sem.run_pure,Result.andThen_ok] at h2
  simp [XD,hfr.2.2 t _ ht,asAddr,h2]
theorem ret_one (hr:fn.results=#[r]) (h1:Rd P n F w0 L r v) (h:∀w,BE w0 w L->R (.returned v) w):OkQ (bodyPost P fn R) .ret n F w0 L:=λa w ha hw =>
  ⟨ha.1,v,by simp [Gh,hr,h1 a w ha hw],h w hw⟩
theorem BR (hr:fn.results=#[r,r']) (h1:Rd P n F w0 L r v) (h2:Rd P n F w0 L r' v') (h:∀w,BE w0 w L->R (.returned (.tuple #[v,v'])) w):OkQ (bodyPost P fn R) .ret n F w0 L:=λa w ha hw =>
  ⟨ha.1,.tuple #[v,v'],by simp [Gh,hr,h1 a w ha hw,h2 a w ha hw],h w hw⟩
theorem FL (hr:fn.results=#[r,r',r'']) (h1:Rd P n F w0 L r v) (h2:Rd P n F w0 L r' v') (h3:Rd P n F w0 L r'' v'')
    (h:∀w,BE w0 w L->R (.returned (.tuple #[v,v',v''])) w):OkQ (bodyPost P fn R) .ret n F w0 L:=λa w ha hw =>
  ⟨ha.1,.tuple #[v,v',v''],by simp [Gh,hr,h1 a w ha hw,h2 a w ha hw,h3 a w ha hw],h w hw⟩
theorem Lk {e:Exit} (he:e=.ret\/e=.normal) (hr:fn.results=#[]) (h:∀w,BE w0 w L->R (.returned (.tuple #[])) w):OkQ (bodyPost P fn R) e n F w0 L:=λa w ha hw=>by
  rcases he with rfl|rfl<;>exact ⟨ha.1,.tuple #[],by simp [Gh,hr],h w hw⟩
end
end
section
inductive Kd where
  | pure|held|look|call|new
  deriving DecidableEq
structure Sp where
  kind:Kd
  v:(Nat->Value)->Value
  need:List Nat
  A:Value->List As
  C:Value->Prop
def bk:Value->Nat
  | .pointer (some a)=>a.block
  | .slice (some a) _ _=>a.block
  | .tuple vs=>match vs[0]? with
    | some (qz (some a) _ _)=>a.block
    | some (Value.pointer (some a))=>a.block
    | _=>0
  | _=>0
def Sp.isNew (s:Sp):Bool:=match s.kind with|.new=>true|_=>false
def En (o:Oper) (j:Nat):Bool:=o.after.toList.any λe=>Region.binds .any e&&e.on == j
def CS (l:List Oper):Nat->Nat->Nat->Bool
  | 0,_,_=>false
  | f+1,i,j=>match l[i]? with
    | some o=>En o j||(List.range l.length).any λk=>En o k&&CS l f k j
    | none=>false
def Jd (x y:As):Prop:=(x.ro=true/\y.ro=true)\/∀b,x.foot=some b->y.foot≠some b
theorem Jd.symm {x y:As} (h:Jd x y):Jd y x:=by
  rcases h with h|h
  · exact .inl ⟨h.2,h.1⟩
  · exact .inr λb e e2=>h b e2 e
theorem N8 {L:List As} (h:L.Pairwise Jd):∀x∈L,∀y∈L,x=y\/Jd x y:=by
  induction L with
  | nil=>intro x hx;cases hx
  | cons a L ih =>
    have h':=List.pairwise_cons.1 h
    intro x hx y hy
    rcases xy.1 hx with h1|h1<;>rcases xy.1 hy with h2|h2
    · exact .inl (h1.trans h2.symm)
    · exact .inr (h1▸h'.1 y h2)
    · exact .inr (h2▸(h'.1 x h1)).symm
    · exact ih h'.2 x h1 y h2
theorem Oj {x y z:As} {b:Nat} (hx:x.ro=true) (hy:y.ro=true) (fx:x.foot=some b) (fy:y.foot=some b) (h:y=z\/Jd y z):Jd x z:=by
  rcases h with rfl|h|h
  · exact .inl ⟨hx,hy⟩
  · exact .inl ⟨hx,h.2⟩
  · refine .inr λc e=>?_
    rw [fx] at e;injection e with e;subst e
    exact h _ fy
def La:List Nat->Bool
  | []=>true
  | x::r=>!r.contains x&&La r
section
variable {P:Program} {n:Nat} {l:List Oper} {specs:List Sp} {F:List (Nat×Value)} {w0:BA} {Lro L:List As} {Q:Exit->Act->World->Prop}
theorem HE:∀{l:List Nat},La l=true->l.Nodup
  | [],_=>List.nodup_nil
  | x::r,h=>by
    simp only [La,xZ,xV] at h
    exact List.nodup_cons.2 ⟨by simpa using h.1,HE h.2⟩
theorem Dl {o:Oper} {j:Nat} (h:En o j=true):∃e∈o.after,Region.binds .any e=true/\e.on=j:=by
  obtain ⟨e,he,hb⟩:=List.any_eq_true.1 h
  simp only [xZ,beq_iff_eq] at hb
  exact ⟨e,by simpa using he,hb.1,hb.2⟩
theorem Ic (listed:Array Bool) (i j:Nat) (d:Bool) (hi:i<listed.size):(listed.setIfInBounds i true).getD j d=if i=j then true else listed.getD j d:=by
  by_cases e:i=j
  · subst e;simp [hi]
  · simp [Array.getElem?_setIfInBounds_ne e,e]
@[reducible] def iU:Value->List As:=λ_=>[]
@[reducible] def iV:Value->Prop:=λ_=>True
def NW:Nat->List Sp->Prop
  | _,[]=>True
  | j,s::ss=>(∀β β':Nat->Value,(∀k∈s.need,β k=β' k)->(s.isNew=true->β j=β' j)->s.v β=s.v β')/\NW (j+1) ss
theorem NW.block {j:Nat} {V:Nat->Value} {ks:List Nat} {A:Value->List As} {C:Value->Prop} {ss:List Sp} (t:NW (j+1) ss):NW j (⟨.new,λβ=>V (bk (β j)),ks,A,C⟩::ss):=⟨λ_ _ _ h=>congrArg (λv=>V (bk v)) (h rfl),t⟩
end
section
variable {P:Program} {ops:Array Oper} {rest:List Oper} {Q:Exit->Act->World->Prop} {n:Nat} {F F':List (Nat×Value)} {w0:BA} {Lro L L':List As} {o:Oper} {v:Value}
end
end
section
def TO (f:Nat) (v:Nat):List Nat :=
  match f with
  | 0=>[]
  | f+1=>if v=0 then [] else v%4294967296::TO f (v/4294967296)
def AP (v:Nat):List Nat:=TO v v
def VT (x:Nat):List UInt8:=[(x%256).toUInt8,(x/256%256).toUInt8,(x/65536%256).toUInt8,(x/16777216%256).toUInt8]
def Lo (v:Nat):Bool:=decide (v<18446744073709551616)
def B7 (v:Nat):Nat:=if Lo v then v else 0
def Bs (v:Nat):ByteArray:=if Lo v then ByteArray.empty else ⟨((AP v).flatMap VT).toArray⟩
def AT (v:Nat):List Value:=[.int .u64 (B7 v:Nat),.string (Bs v)]
def A7 (z:Int):List Value:=[.int .u64 (B7 z.natAbs:Nat),.string (Bs z.natAbs),.bool (decide (z<0))]
def AG (q:Rat):List Value:=[.int .u64 (B7 q.num.natAbs:Nat),.string (Bs q.num.natAbs),.bool (decide (q.num<0)),.int .u64 (B7 (q.den-1):Nat),.string (Bs (q.den-1))]
@[ext] structure Pt where
  x:Rat
  y:Rat
def Ad (p:Pt):List Value:=AG p.x++AG p.y
theorem BZ {z:Int} (h:-9223372036854775808<=z) (h':z<9223372036854775808):IntKind.i64.wrap z=z:=by
  simp only [IntKind.wrap,IntKind.bits,IntKind.signed];simp;split<;>omega
theorem Di {z:Int} (h:0<=z) (h':z<18446744073709551616):IntKind.u64.wrap z=z:=by
  simp only [IntKind.wrap,IntKind.bits,IntKind.signed];simp;omega
theorem HV {z:Int} (h:0<=z) (h':z<4294967296):IntKind.u32.wrap z=z:=by
  simp only [IntKind.wrap,IntKind.bits,IntKind.signed];simp;omega
theorem Z4 {z:Int} (h:0<=z) (h':z<256):IntKind.u8.wrap z=z:=by
  simp only [IntKind.wrap,IntKind.bits,IntKind.signed];simp;omega
theorem AY {a b:Nat} (h:a+b<9223372036854775808):IntKind.i64.wrap ((a:Int)+(b:Int))=((a+b:Nat):Int):=by rw [BZ Z Z];omega
theorem B8 {a b:Nat} (h:b<=a) (h':a<9223372036854775808):IntKind.i64.wrap ((a:Int)-(b:Int))=((a-b:Nat):Int):=by rw [BZ Z Z];omega
theorem GN {a b:Nat} (h:a*b<9223372036854775808):IntKind.i64.wrap ((a:Int)*(b:Int))=((a*b:Nat):Int):=by
  rw [<-Int.natCast_mul,BZ Z Z]
theorem Dq {a b:Nat} (h:a+b<18446744073709551616):IntKind.u64.wrap ((a:Int)+(b:Int))=((a+b:Nat):Int):=by rw [Di Z Z];omega
theorem Iz {a b:Nat} (h:b<=a) (h':a<18446744073709551616):IntKind.u64.wrap ((a:Int)-(b:Int))=((a-b:Nat):Int):=by rw [Di Z Z];omega
theorem Fe {a b:Nat} (h:a*b<18446744073709551616):IntKind.u64.wrap ((a:Int)*(b:Int))=((a*b:Nat):Int):=by
  rw [<-Int.natCast_mul,Di Z Z]
theorem Ec {a:Nat} (h:a<9223372036854775808):IntKind.i64.wrap (a:Int)=(a:Int):=BZ Z Z
theorem BT {a:Nat} (h:a<18446744073709551616):IntKind.u64.wrap (a:Int)=(a:Int):=Di Z Z
theorem C4 {a:Nat} (h:a<4294967296):IntKind.u32.wrap (a:Int)=(a:Int):=HV Z Z
theorem Ot {a:Nat} (h:a<256):IntKind.u8.wrap (a:Int)=(a:Int):=Z4 Z Z
theorem Ez {a:Nat}:IntKind.u32.wrap (a:Int)=((a%4294967296:Nat):Int):=by
  simp only [IntKind.wrap,IntKind.bits,IntKind.signed];simp
theorem KT {a:Nat}:IntKind.u8.wrap (a:Int)=((a%256:Nat):Int):=by
  simp only [IntKind.wrap,IntKind.bits,IntKind.signed];simp
theorem B_ {a b:Nat}:decide ((a:Int)<(b:Int))=decide (a<b):=decide_eq_decide.2 Z
theorem Qz {a b:Nat}:decide ((a:Int)<=(b:Int))=decide (a<=b):=decide_eq_decide.2 Z
theorem MA {a b:Nat}:decide ((a:Int)=(b:Int))=decide (a=b):=decide_eq_decide.2 Z
theorem Q8 {a b:Nat}:decide ((a:Int)≠(b:Int))=decide (a≠b):=decide_eq_decide.2 Z
theorem Fg {a b:Nat} (h:a<9223372036854775808):IntKind.i64.wrap ((a:Int).tdiv (b:Int))=((a/b:Nat):Int):=by
  have:a/b<=a:=Nat.div_le_self _ _
  rw [<-Int.ofNat_tdiv]
  generalize a/b=q at *
  exact BZ Z Z
theorem Is {a b:Nat} (h:a<18446744073709551616):IntKind.u64.wrap ((a:Int).tdiv (b:Int))=((a/b:Nat):Int):=by
  have:a/b<=a:=Nat.div_le_self _ _
  rw [<-Int.ofNat_tdiv]
  generalize a/b=q at *
  exact Di Z Z
theorem RL {a b:Nat}:((a:Int).tmod (b:Int))=((a%b:Nat):Int):=(Int.ofNat_tmod a b).symm
theorem Gk {a s:Nat}:(a:Int)/2^s=((a/2^s:Nat):Int):=by simp
theorem Em:prog.follows .mixedOrders=true:=by kernel_rfl
theorem z8 {P:Program} {ops:Array Oper} {rest:List Oper} {Q:Exit->Act->World->Prop} {n:Nat} {F:List (Nat×Value)} {w0:BA} {L L':List As} {v:Value} {x y:Operand} {d:Option Tmp} {t:TypeId} {p:String} {af:Array Edge} {g:Option (Nat×Bool)}
    {i b off:Nat} {ty T:TypeId} {cs vs cs':List Value} (hw:Wt ops n F ⟨d,.store ty x y,t,p,af,g⟩) (ho:d=none) (hx:evF F x=some (.pointer (some ⟨b,off,none⟩))) (hy:evF F y=some v) (hi:L[i]?=some (AU b T cs))
    (hv:v.cells=vs.toArray) (hs:∀w,(sizeOf ty).run P w=.ok vs.length w) (h1:(vs.all λu=>u.oneCell')=true) (hl:Nat.ble (off+vs.length) cs.length=true)
    (hc:Gy cs off vs=cs') (hL:L.set i (AU b T cs')=L') (next:AQ P ops rest Q n F w0 L'):AQ P ops (⟨d,.store ty x y,t,p,af,g⟩::rest) Q n F w0 L:=by
  subst hc;subst hL
  exact AQ.store hw (Wx hx hy hi hv hs h1 hl) ho hi next
theorem yH {P:Program} {ops:Array Oper} {rest:List Oper} {Q:Exit->Act->World->Prop} {n:Nat} {F:List (Nat×Value)} {w0:BA} {L:List As} {o:Oper} {d:Nat} {f:FuncId} {args:Array Value} {V:Nat->Value} {T:TypeId} {cs:List Value} (hw:Wt ops n F o)
    (he:∀a w,C8 n a F->BE w0 w L->(execOp a.eval o).run P w=.ok (.enter f args) w)
    (hc:∀w,BE w0 w L->Calls P f args w λe w'=>∃b,e=.returned (V b)/\Hu w.heap.size w w'/\w.heap.size<=b/\w'.heap[b]?=some (.cells cs.toArray T (0,0)))
    (ho:o.dst=some d) (hd:d<n) (next:∀b,AQ P ops rest Q n ((d,V b)::F) w0 (AU b T cs::L)):AQ P ops (o::rest) Q n F w0 L:=λa w ha hW=>by
  unfold wpList
  rw [if_pos (hw a ha)]
  left
  unfold Oper.wp
  rw [he a w ha hW,Oper.upon_enter]
  refine (hc w hW).mono ?_
  rintro e w' ⟨b,rfl,hb,hlt,hcell⟩
  rw [ho]
  exact next b _ _ (ha.put hd) (hW.add O hb hlt ⟨_,hcell,rfl⟩)
theorem yo {P:Program} {ops:Array Oper} {rest:List Oper} {Q:Exit->Act->World->Prop} {n:Nat} {F:List (Nat×Value)} {w0:BA} {L L':List As} {o:Oper} {f:FuncId} {args:Array Value} {v:Value} {i b:Nat} {T:TypeId} {cs cs':List Value} (hw:Wt ops n F o)
    (he:∀a w,C8 n a F->BE w0 w L->(execOp a.eval o).run P w=.ok (.enter f args) w) (hi:L[i]?=some (AU b T cs))
    (hc:∀w,BE w0 w L->Calls P f args w λe w'=>e=.returned v/\Jf w w' (some b)/\w'.heap[b]?=some (.cells cs'.toArray T (0,0)))
    (hd:∀d,o.dst=some d->d<n) (hL:L.set i (AU b T cs')=L') (next:AQ P ops rest Q n (match o.dst with|some d=>(d,v)::F|none=>F) w0 L'):AQ P ops (o::rest) Q n F w0 L:=λa w ha hW=>by
  subst hL
  unfold wpList
  rw [if_pos (hw a ha)]
  left
  unfold Oper.wp
  rw [he a w ha hW,Oper.upon_enter]
  refine (hc w hW).mono ?_
  rintro e w' ⟨rfl,hg,hcell⟩
  have hW':=hW.turn hi rfl rfl hg ⟨_,hcell,rfl⟩ (y:=AU b T cs')
  cases hdst:o.dst with
  | none=>rw [hdst] at next;exact next _ _ ha.put_none hW'
  | some d=>rw [hdst] at next;exact next _ _ (ha.put (hd d hdst)) hW'
abbrev pP (b o:Nat):Value:=.pointer (some ⟨b,o,none⟩)
abbrev aG (l:List Value):Value:=.agg l.toArray
abbrev vI (z:Int):Value:=.int .i64 z
abbrev vN (n:Nat):Value:=.int .i64 (n:Int)
abbrev vK (k:IntKind) (n:Nat):Value:=.int k (n:Int)
theorem leB {a b:Nat} (h:Nat.ble a b=true):a<=b:=Nat.le_of_ble_eq_true h
theorem sN {F:List (Nat×Value)}:CM [] F:=trivial
theorem sS {k:Nat} {v:Value} {r F:List (Nat×Value)} (h:F.lookup k=some v) (t:CM r F):CM ((k,v)::r) F:=⟨h,t⟩
def ff (F:List (Nat×Value)):List (Nat×Value)->List (Option Value)
  | []=>[]
  | p::r=>F.lookup p.1::ff F r
def gG:List (Nat×Value)->List (Option Value)
  | []=>[]
  | p::r=>some p.2::gG r
theorem sF:∀{F' F:List (Nat×Value)},ff F F'=gG F'->CM F' F
  | [],_,_=>trivial
  | _::_,_,h=>by
    simp only [ff,gG,List.cons.injEq] at h
    exact ⟨h.1,sF h.2⟩
section
variable {P:Program} {ops:Array Oper} {rest:List Oper} {Q:Exit->Act->World->Prop} {n d:Nat} {F F':List (Nat×Value)} {w0:BA} {L Lro:List As} {op:Op} {t:TypeId} {p:String} {af:Array Edge} {v:Value} {l:List Oper} {specs:List Sp}
theorem zM {c:Code} (hs:CM F' F) (h:OkC P c Q n F' w0 L):OkC P c Q n F w0 L:=ym hs (xP _) h
theorem zF {e:Exit} (hs:CM F' F) (h:OkQ Q e n F' w0 L):OkQ Q e n F w0 L:=OkQ.sub hs (xP _) h
theorem st (he:Ex P n F w0 L ⟨some d,op,t,p,af,none⟩ v) (hd:d<n) (next:AQ P ops rest Q n ((d,v)::F) w0 L):AQ P ops (⟨some d,op,t,p,af,none⟩::rest) Q n F w0 L:=AQ.step (AM rfl) he rfl hd next
theorem q1 {x y:Code} (h:OkC P x (Exit.then (y.wp P Q) Q) n F w0 L):OkQ (Exit.then ((Code.seq x y).wp P Q) Q) .normal n F w0 L:=zC (zf h)
theorem q2 {id:Nat} {y:Code} (h:AQ P l.toArray l (Exit.then (y.wp P Q) Q) n F w0 L):OkQ (Exit.then ((Code.seq (.region id l.toArray false) y).wp P Q) Q) .normal n F w0 L:=q1 (zQ h)
theorem q3 {id:Nat} {y:Code} (hs:CM F' F) (h:AQ P l.toArray l (Exit.then (y.wp P Q) Q) n F' w0 L):AQ P ops [] (Exit.then ((Code.seq (.region id l.toArray false) y).wp P Q) Q) n F w0 L:=AQ.nil (zF hs (q2 h))
theorem q4 {id:Nat} {y:Code} (h:AQ P l.toArray l (Exit.then (y.wp P Q) Q) n F w0 L):OkC P (Code.seq (.region id l.toArray false) y) Q n F w0 L:=zf (zQ h)
theorem q6 {x y:Code} (hs:CM F' F) (h:OkC P x (Exit.then (y.wp P Q) Q) n F' w0 L):AQ P ops [] (Exit.then ((Code.seq x y).wp P Q) Q) n F w0 L:=AQ.nil (zF hs (q1 h))
theorem Ak {x:Operand} {f:FuncId} {xs:List Operand} {args:List Value} {ts:Array TypeId} {dd:Option Tmp} {g:Option (Nat×Bool)} (hf:evF F x=some (.func (.func f) #[] #[])) (hargs:xs.map (evF F)=args.map some)
    (hc:∀args w,(callFunc f args).run P w=.ok (.enter f args) w) :
    ∀a w,C8 n a F->BE w0 w L->(execOp a.eval ⟨dd,.call { callee:=.value x,args:=xs.toArray,argTypes:=ts },t,p,af,g⟩).run P w=.ok (.enter f args.toArray) w :=
  ER (caps:=[]) hf hargs (List.append_nil _) hc
end
theorem Bi {F F':List (Nat×Value)} (h:CM F' F:=by repeat (first|exact sN|refine sS (by first|rfl|(rw [hg1];rfl)|rw [hg1]) ?_)):CM F' F:=h
theorem EW {F F':List (Nat×Value)} (h:CM F' F:=by repeat (first|exact sN|refine sS (by first|rfl|(rw [hg2];rfl)|rw [hg2]) ?_)):CM F' F:=h
theorem I4 {F F':List (Nat×Value)} (h:CM F' F:=by repeat (first|exact sN|refine sS (by first|rfl|(rw [hg3];rfl)|rw [hg3]) ?_)):CM F' F:=h
theorem Me {F F':List (Nat×Value)} (h:CM F' F:=by repeat (first|exact sN|refine sS (by first|rfl|(rw [hg4];rfl)|rw [hg4]) ?_)):CM F' F:=h
theorem Mf {F F':List (Nat×Value)} (h:CM F' F:=by repeat (first|exact sN|refine sS (by first|rfl|(rw [hg5];rfl)|rw [hg5]) ?_)):CM F' F:=h
theorem ee {F F':List (Nat×Value)} (h:CM F' F:=by repeat (first|exact sN|refine sS (by first|rfl|(rw [hg6];rfl)|rw [hg6]) ?_)):CM F' F:=h
theorem iQ {F F':List (Nat×Value)} (h:CM F' F:=by repeat (first|exact sN|refine sS (by first|rfl|(rw [hg7];rfl)|rw [hg7]) ?_)):CM F' F:=h
theorem iR {F F':List (Nat×Value)} (h:CM F' F:=by repeat (first|exact sN|refine sS (by first|rfl|(rw [hg8];rfl)|rw [hg8]) ?_)):CM F' F:=h
theorem iS {F F':List (Nat×Value)} (h:CM F' F:=by repeat (first|exact sN|refine sS (by first|rfl|(rw [hg9];rfl)|rw [hg9]) ?_)):CM F' F:=h
end
end Go.Proofs.YtpolhpjiahbidaaGreatDoor
