import Derived.Laws.BytesString
import Derived.Laws.BytesArg
import Derived.Laws.CopyRow
import Derived.Test.YtpolhpjiahbidaaGreatDoorPart02
namespace Go.Proofs.YtpolhpjiahbidaaGreatDoor
open Go Go.RowKit Go.Proofs.Tryz
open Go.Value renaming slice→qw,bool→qa
set_option linter.unusedVariables false
set_option linter.unusedSimpArgs false
section
def Ao (xs:List Nat):List Value:=xs.map λx=>.int .u32 (x:Nat)
def KG (xs:List Nat):List Value:=xs.map λx=>.int .u8 (x:Nat)
theorem BW (xs:List Nat):(Ao xs).length=xs.length:=by simp [Ao]
theorem IW (xs:List Nat):(KG xs).length=xs.length:=by simp [KG]
theorem BH {xs:List Nat} {j:Nat} (h:j<xs.length):(Ao xs)[j]?=some (.int .u32 ((xs.getD j 0:Nat):Int)):=by
  simp [Ao,h]
theorem CZ {xs:List Nat} {j v:Nat} (h:j<xs.length):Gu (Ao xs) j [.int .u32 (v:Nat)]=Ao (xs.set j v):=by
  unfold Gu Ao
  rw [List.set_eq_take_append_cons_drop,if_pos h]
  simp
theorem W1 (xs:List Nat):∀u∈Ao xs,u.oneCell'=true:=by
  intro u hu
  obtain ⟨x,_,rfl⟩:=List.mem_map.1 hu
  rfl
section
variable {P:Program} {n:Nat} {F:List (Nat×Value)} {w0:BC} {L:List As} {v u:Value} {x y z:Operand} {d:Option Tmp} {t:TypeId} {p:String} {af:Array Edge} {g:Option (Nat×Bool)}
theorem Own.oldCA {w:World} (hW:Own w0 w L) {b off:Nat} {vs:List Value} (hne:some b≠w0.ex) (h:CA w0.w b off vs):CA w b off vs:=λj u hu=>by
  have h1:=h j u hu
  have hlt:=World.block_lt_of_cell? _ _ h1
  rw [<-h1]
  exact World.cell?_of_block (hW.1.block b hlt hne)
theorem CA.at_ {w:World} {b off j:Nat} {vs:List Value} (h:CA w b off vs) (hv:vs[j]?=some v):w.cell? ⟨b,off+j,none⟩=some v:=h j v hv
theorem CA.at0 {w:World} {b j:Nat} {vs:List Value} (h:CA w b 0 vs) (hv:vs[j]?=some v):w.cell? ⟨b,j,none⟩=some v:=by simpa using h j v hv
theorem HO {tx e:TypeId} {a:Option Addr} {len cap k:Nat} {hi:Operand} {ki:IntKind} {m:Nat} (hx:evF F x=some (.slice a len cap)) (hh:evF F hi=some (.int ki (m:Nat))) (hu:P.underlying tx=some (.slice e)) (hs:∀w,(sizeOf e).run P w=.ok k w) (hm:m<=cap) :
    Ex P n F w0 L ⟨d,.slice tx x none (some hi) none,t,p,af,g⟩ (.slice a m cap):=λA w ha _=>by
  have e1:(if cap=0 then a else a.map λy=>y.add (0*k))=a:=by
    split
    · rfl
    · cases a<;>simp [Addr.add]
  simp only [execOp,ha.ev hx,Instr.sliceAt,run_underlying hu,Instr.slice,Option.map_some,Option.map_none,ha.ev hh,Instr.sliceBounds,Instr.sliceBound,asIntOf,Sem.run_bind,Result.andThen_ok,Sem.run_pure]
  have h1:(0:Int)<=(m:Int)/\(m:Int)<=(cap:Int):=⟨Z,Z⟩
  simp [h1.2,hs]
  cases a<;>simp [Addr.add]
theorem OZ {tx e:TypeId} {b off r len cap k:Nat} {lo hi:Operand} {ki kj:IntKind} {i m:Nat} (hx:evF F x=some (.slice (some ⟨b,off,none⟩) len cap)) (hl:evF F lo=some (.int ki (i:Nat))) (hh:evF F hi=some (.int kj (m:Nat))) (hu:P.underlying tx=some (.slice e)) (hs:∀w,(sizeOf e).run P w=.ok k w)
    (h1:i<=m) (hm:m<=cap) (hi':i<cap) (hr:off+i*k=r):Ex P n F w0 L ⟨d,.slice tx x (some lo) (some hi) none,t,p,af,g⟩ (.slice (some ⟨b,r,none⟩) (m-i) (cap-i)):=λA w ha _=>by
  subst hr
  simp only [execOp,ha.ev hx,Instr.sliceAt,run_underlying hu,Instr.slice,Option.map_some,Option.map_none,ha.ev hl,ha.ev hh,Instr.sliceBounds,Instr.sliceBound,asIntOf,Sem.run_bind,Result.andThen_ok,Sem.run_pure]
  have e1:(0:Int)<=(m:Int)/\(m:Int)<=(cap:Int):=⟨Z,Z⟩
  have e3:¬cap=i:=by omega
  simp [e1.2,hs,e3,Addr.add_lit]
  intro h;omega
theorem Dg {m c:Nat} {ki kj:IntKind} (hx:evF F x=some (.int ki (m:Nat))) (hy:evF F y=some (.int kj (c:Nat))) (hmc:m<=c) (hc:c<=35184372088832) :
    ∀a w,Frm n a F->Own w0 w L->(execOp a.eval ⟨d,.makeSlice 255 x y,t,p,af,g⟩).run prog w=.ok (.value (.slice (some ⟨w.heap.size,0,none⟩) m c)) (w.alloc (.cells (Ao (List.replicate c 0)).toArray 92)):=λa w ha _=>by
  have h1:=run_make (P:=prog) w 255 92 Tryz.t92 (.int .u32 0) underlying255 jV rfl ki kj (m:Nat) (c:Nat) Z Z (by show (4:Int)*(c:Int)<=_;omega) Z
  have e1:madeCells (Value.int .u32 0).cells ((c:Int).toNat*Tryz.t92.size)=(Ao (List.replicate c 0)).toArray:=by
    apply Array.toList_inj.1
    show (madeCells #[Value.int .u32 0] ((c:Int).toNat*1)).toList=_
    rw [toList_madeCells_one]
    simp [Ao]
  rw [e1] at h1
  simp only [execOp,ha.ev hx,ha.ev hy,Sem.run_bind,h1,Result.andThen_ok,Sem.run_pure,Int.toNat_natCast]
theorem Rx {m c:Nat} {ki kj:IntKind} (hx:evF F x=some (.int ki (m:Nat))) (hy:evF F y=some (.int kj (c:Nat))) (hmc:m<=c) (hc:c<=140737488355328) :
    ∀a w,Frm n a F->Own w0 w L->(execOp a.eval ⟨d,.makeSlice 86 x y,t,p,af,g⟩).run prog w=.ok (.value (.slice (some ⟨w.heap.size,0,none⟩) m c)) (w.alloc (.cells (KG (List.replicate c 0)).toArray 5)):=λa w ha _=>by
  have h1:=run_make (P:=prog) w 86 5 Tryz.t5 (.int .u8 0) underlying86 jV rfl ki kj (m:Nat) (c:Nat) Z Z (by show (1:Int)*(c:Int)<=_;omega) Z
  have e1:madeCells (Value.int .u8 0).cells ((c:Int).toNat*Tryz.t5.size)=(KG (List.replicate c 0)).toArray:=by
    apply Array.toList_inj.1
    show (madeCells #[Value.int .u8 0] ((c:Int).toNat*1)).toList=_
    rw [toList_madeCells_one]
    simp [KG]
  rw [e1] at h1
  simp only [execOp,ha.ev hx,ha.ev hy,Sem.run_bind,h1,Result.andThen_ok,Sem.run_pure,Int.toNat_natCast]
theorem Af {P:Program} {T e:TypeId} {len k:Nat} {z:Value} {parts:Array (Nat×Operand)} {pv:List (Nat×Value)} {cs:List Value} (hu:P.underlying T=some (.slice e)) (hs:∀w,(sizeOf e).run P w=.ok k w) (hz:∀w,(zeroValue e).run P w=.ok z w)
    (hlk:len*k≠0) (hsm:len*k<=16777216)
    (hp:parts.toList.map (λq=>(q.1,evF F q.2))=pv.map (λq=>(q.1,some q.2)))
    (hf:Instr.fill (λi=>some (i*k,k)) ((Array.range (len*k)).map (z.cells[·%z.cells.size]!)) pv=some cs.toArray) :
    ∀a w,Frm n a F->Own w0 w L->(execOp a.eval ⟨d,.buildSlice T len parts,t,p,af,g⟩).run P w=.ok (.value (.slice (some ⟨w.heap.size,0,none⟩) len len)) (w.alloc (.cells cs.toArray e)):=λA w ha _=>by
  have key:∀(l:List (Nat×Operand)) (r:List (Nat×Value)),l.map (λq=>(q.1,evF F q.2))=r.map (λq=>(q.1,some q.2))->l.map (λq=>(q.1,A.eval q.2))=r:=by
    intro l
    induction l with
    | nil=>intro r h;cases r<;>simp_all
    | cons o l ih =>
      intro r h
      cases r with
      | nil=>simp at h
      | cons q r =>
        simp only [List.map_cons,List.cons.injEq,Prod.mk.injEq] at h
        rw [List.map_cons,ha.ev h.1.2,ih r h.2,h.1.1]
  have e1:(parts.map λq=>(q.1,A.eval q.2)).toList=pv:=by rw [Array.toList_map];exact key _ _ hp
  have e2:(parts.map λ(i,x)=>(i,A.eval x)).toList=pv:=e1
  have hn:¬(len*k>2^24):=by omega
  simp only [execOp,Instr.buildSlice,run_underlying hu,hs,Sem.run_bind,Result.andThen_ok,if_neg hn,if_neg hlk,Sem.run_pure,hz,Sem.run_ite]
  rw [e2,hf]
  simp [newRow]
theorem AL.append_u8 {ops:Array Oper} {rest:List Oper} {Q:Exit->Act->World->Prop} {L':List As} {i j b b' m c k c' dd:Nat} {cs ns cs':List Value} {o:Oper} (ho:o=⟨some dd,.call { callee:=.builtin .append,args:=#[x,y],argTypes:=#[86,86] },t,p,af,g⟩) (hw:Wt ops n F o)
    (hx:evF F x=some (.slice (jk b) m c)) (hy:evF F y=some (.slice (some ⟨b',0,none⟩) k c')) (hi:L[i]?=some (AR b 5 cs)) (hj:L[j]?=some (AR b' 5 ns)) (hk:ns.length=k) (h1:(ns.all λu=>u.oneCell')=true) (hroom:m+k<=c) (hfit:m+k<=cs.length)
    (hcs:Gu cs m ns=cs') (hL:L.set i (AR b 5 cs')=L') (hd:dd<n) (next:AL prog ops rest Q n ((dd,.slice (jk b) (m+k) c)::F) w0 L'):AL prog ops (o::rest) Q n F w0 L:=λa w ha hW=>by
  subst ho;subst hcs;subst hL
  unfold wpList
  rw [if_pos (hw a ha)]
  left
  have hca:=FP (off:=0) (k:=ns.length) (hW.get hj)
  have hns:(ns.drop 0).take ns.length=ns:=by simp
  rw [hns] at hca
  have hr:=run_append_room (P:=prog) w 86 t 5 Tryz.t5 underlying86 jV b m c cs.toArray (hW.get hi) ⟨b',0,none⟩ k c' ns (by show _=k*1;omega) (λq u hu=>by rw [Addr.add_lit];exact hca q u hu) (λu hu=>List.all_eq_true.1 h1 u hu) hroom (by show m*1+ns.length<=cs.toArray.size;simp;omega)
  have hz:m*Tryz.t5.size=m:=Nat.mul_one m
  rw [hz] at hr
  unfold Oper.wp
  have he:(execOp a.eval ⟨some dd,.call { callee:=.builtin .append,args:=#[x,y],argTypes:=#[86,86] },t,p,af,g⟩).run prog w=.ok (.value (.slice (jk b) (m+k) c)) (w.setRow b (Gu cs m ns).toArray):=by
    simp only [execOp,resolve,invoke,builtin,Sem.run_bind,Sem.run_pure,Result.andThen_ok,List.map_toArray,List.map_cons,List.map_nil,ha.ev hx,ha.ev hy,hr,Gu]
  rw [he,Oper.upon_value]
  have hg:=hW.get hi
  exact next _ _ (ha.put hd) (hW.turn hi O O ⟨⟨rfl,rfl,rfl,by simp,λq _ hq=>setRow_other w b q _ (λe=>hq (by simp [e]))⟩,Nat.le_refl _⟩ ⟨_,setRow_heap w b cs.toArray _ 5 _ hg,rfl⟩)
def Di (xs:List Nat):ByteArray:=⟨(xs.map λx=>UInt8.ofNat x).toArray⟩
theorem KC {i b m c:Nat} {cs:List Value} {ns:List Nat} (hx:evF F x=some (.slice (jk b) m c)) (hi:L[i]?=some (AR b 5 cs)) (hcs:cs.take m=KG ns) (hm:ns.length=m) :
    Ex prog n F w0 L ⟨d,.convert 86 9 x,t,p,af,g⟩ (.string (Di ns)):=λa w ha hW=>by
  have hca:=FP (off:=0) (k:=m) (hW.get hi)
  rw [List.drop_zero,hcs] at hca
  have h2:=run_loadCells_list (P:=prog) w ⟨b,0,none⟩ (KG ns) (λq u hu=>by rw [Addr.add_lit];exact hca q u hu)
  rw [IW,hm] at h2
  have h3:(KG ns)=(ns.map λx=>((x:Nat):Int)).map (Value.int .u8):=by simp [KG]
  rw [h3] at h2
  have h4:=run_bytesToString w ⟨b,0,none⟩ m c _ h2
  rw [foldl_push_bytes] at h4
  simp only [execOp,ha.ev hx,Sem.run_bind,run_convert_bytes_string w 86 9 5 _ _ _ underlying86 underlying5 underlying9,h4,Result.andThen_ok,Sem.run_pure]
  congr 2
  simp [Di,ByteArray.empty,ByteArray.emptyWithCapacity]
  rfl
end
end
section
section
variable {P:Program} {ops:Array Oper} {l rest:List Oper} {Q:Exit->Act->World->Prop} {n:Nat} {F F' FM:List (Nat×Value)} {w0:BC} {L L' LM:List As} {o:Oper} {v u:Value} {c x y:Code}
theorem Lz {o:Oper} {a:Act} {w:World} {K K':Act->World->Prop} {Q':Exit->Act->World->Prop} (h:∀a w,K a w->K' a w) (hq:∀e a w,e≠.normal->¬Q e a w)
    (hh:o.wp P a w K Q):o.wp P a w K' Q':=by
  unfold Oper.wp at *
  generalize (execOp a.eval o).run P w=r at *
  cases r with
  | ok n w' =>
    cases n<;>simp only [Oper.upon] at hh ⊢ <;>
      first
        | exact h _ _ hh
        | exact Calls.mono hh (λe w'' he=>by cases e<;>first|exact h _ _ he|exact absurd he (hq _ _ _ jX)|exact (match he with|⟨_,_,hl⟩=>absurd hl (hq _ _ _ jX)))
        | exact Rows.mono hh (λ_ _ he=>h _ _ he)
  | halt x w'=>cases x<;>simp only [Oper.upon] at hh ⊢<;>exact absurd hh (hq _ _ _ jX)
theorem zX (m:Nat) (h1:AL P ops (l.take m) (λe a w=>e=.normal/\Frm n a FM/\Own w0 w LM) n F w0 L) (h2:AL P ops (l.drop m) Q n FM w0 LM):AL P ops l Q n F w0 L:=λa w ha hW=>by
  have key:∀(m:Nat) (l:List Oper) (a:Act) (w:World),wpList P ops (λe a w=>e=.normal/\Frm n a FM/\Own w0 w LM) (l.take m) a w->(∀a w,Frm n a FM->Own w0 w LM->wpList P ops Q (l.drop m) a w)->wpList P ops Q l a w:=by
    intro m
    induction m with
    | zero=>intro l a w h h2;exact h2 a w h.2.1 h.2.2
    | succ m ih =>
      intro l a w h h2
      cases l with
      | nil=>exact h2 a w h.2.1 h.2.2
      | cons o l =>
        simp only [List.take_succ_cons] at h
        unfold wpList at h ⊢
        split at h
        · rename_i hg
          rw [if_pos hg]
          rcases h with h|⟨_,_,_,hl,_⟩
          · exact .inl (Lz (λa w hk=>ih l a w hk h2) (λe a w he hq=>he hq.1) h)
          · cases hl
        · rename_i hg
          rw [if_neg hg]
          exact ih l _ w h h2
  exact key m l a w (h1 a w ha hW) h2
theorem zR (hs:Ca FM F) (hl:LM.Sublist L):OkQ (λe a w=>e=.normal/\Frm n a FM/\Own w0 w LM) .normal n F w0 L:=λ_ _ ha hw=>⟨rfl,ha.sub hs,hw.weak hl⟩
theorem Frm.retell {a:Act} (h:Frm n a F) {k:Nat} (hk:F.lookup k=some v) (hv:v=u):Frm n a ((k,u)::F):=by
  subst hv
  refine ⟨h.1,h.2.1,λj x hj=>?_⟩
  simp only [List.lookup_cons] at hj
  split at hj
  · rename_i e
    injection hj with hj
    subst hj
    have:j=k:=by simpa using e
    subst this
    exact h.2.2 j _ hk
  · exact h.2.2 j x hj
theorem zC {k:Nat} (hk:F.lookup k=some v) (hv:v=u) (next:AL P ops rest Q n ((k,u)::F) w0 L):AL P ops rest Q n F w0 L:=λa w ha hW=>next a w (ha.retell hk hv) hW
theorem yb {e:Exit} {k:Nat} (hk:F.lookup k=some v) (hv:v=u) (next:OkQ Q e n ((k,u)::F) w0 L):OkQ Q e n F w0 L:=λa w ha hW=>next a w (ha.retell hk hv) hW
theorem yF {k:Nat} (hk:F.lookup k=some v) (hv:v=u) (next:OkC P c Q n ((k,u)::F) w0 L):OkC P c Q n F w0 L:=λa w ha hW=>next a w (ha.retell hk hv) hW
theorem y3 {e:Exit} (h:L=L') (next:OkQ Q e n F w0 L'):OkQ Q e n F w0 L:=h▸next
theorem zZ {d:Nat} {T:TypeId} {cs:List Value} {V:Nat->Value} (hw:Wt ops n F o)
    (he:∀a w,Frm n a F->Own w0 w L->(execOp a.eval o).run P w=.ok (.value (V w.heap.size)) (w.alloc (.cells cs.toArray T)))
    (ho:o.dst=some d) (hd:d<n) (next:∀b,AL P ops rest Q n ((d,V b)::F) w0 (AR b T cs::L)):AL P ops (o::rest) Q n F w0 L:=λa w ha hW=>by
  unfold wpList
  rw [if_pos (hw a ha)]
  left
  unfold Oper.wp
  rw [he a w ha hW,Oper.upon_value,ho]
  exact next _ _ _ (ha.put hd) (hW.alloc _ O O)
end
theorem FA {w:World} {b:Nat} {cs:List Value} {T:TypeId} {fr:Nat×Nat} (h:w.heap[b]?=some (.cells cs.toArray T fr)):CA w b 0 cs:=by
  have:=FP (off:=0) (k:=cs.length) h
  simpa using this
theorem C7 {xs:List Nat} {f:List Nat->List Value} (hf:(f xs).length=xs.length) {j:Nat} (h:j<xs.length):Nat.ble (j+1) (f xs).length=true:=Nat.ble_eq_true_of_le Z
def W32 (xs:List Nat):Prop:=∀x∈xs,x<4294967296
theorem W32.getD {xs:List Nat} (h:W32 xs) (i:Nat):xs.getD i 0<4294967296:=by
  by_cases hi:i<xs.length
  · simp [hi];exact h _ (List.getElem_mem hi)
  · simp [Nat.not_lt.1 hi]
theorem W32.set {xs:List Nat} (h:W32 xs) {v:Nat} (hv:v<4294967296) (i:Nat):W32 (xs.set i v):=λx hx=>by
  rcases List.mem_or_eq_of_mem_set hx with h1|h1
  · exact h x h1
  · omega
theorem W32.take {xs:List Nat} (h:W32 xs) (i:Nat):W32 (xs.take i):=λx hx=>h x (List.mem_of_mem_take hx)
theorem W32.zeros (k:Nat):W32 (List.replicate k 0):=λx hx=>by rw [(List.mem_replicate.1 hx).2];omega
theorem W32.append {xs ys:List Nat} (h:W32 xs) (h':W32 ys):W32 (xs++ys):=λx hx=>by
  rcases List.mem_append.1 hx with h1|h1
  · exact h x h1
  · exact h' x h1
theorem W32.cons {x:Nat} {xs:List Nat} (h:x<4294967296) (h':W32 xs):W32 (x::xs):=λy hy=>by
  rcases xL.1 hy with h1|h1
  · omega
  · exact h' y h1
theorem W32.nil:W32 []:=λ_ h=>by cases h
def val:List Nat->Nat
  | []=>0
  | x::xs=>x+4294967296*val xs
theorem P1 (x:Nat) (xs:List Nat):val (x::xs)=x+4294967296*val xs:=rfl
theorem LK (xs ys:List Nat):val (xs++ys)=val xs+4294967296^xs.length*val ys:=by
  induction xs with
  | nil=>simp [val]
  | cons x xs ih=>simp only [List.cons_append,val,ih,List.length_cons,Nat.pow_succ];grind
theorem Ep (k:Nat):val (List.replicate k 0)=0:=by
  induction k with
  | zero=>rfl
  | succ k ih=>simp [List.replicate_succ,val,ih]
theorem G7 {xs:List Nat} (h:W32 xs):val xs<4294967296^xs.length:=by
  induction xs with
  | nil=>simp [val]
  | cons x xs ih =>
    have h1:=h x jX
    have h2:=ih (λy hy=>h y (by simp [hy]))
    simp only [val,List.length_cons,Nat.pow_succ]
    omega
theorem Fw {xs:List Nat} {i:Nat} (h:i<xs.length) (v:Nat):val (xs.set i v)+xs.getD i 0*4294967296^i=val xs+v*4294967296^i:=by
  induction xs generalizing i with
  | nil=>simp at h
  | cons x xs ih =>
    cases i with
    | zero=>simp [val];omega
    | succ i =>
      have:=ih (i:=i) (by simpa using h)
      simp only [List.set_cons_succ,val,List.getD_cons_succ,Nat.pow_succ]
      grind
theorem Bf (xs:List Nat) (i:Nat):val (xs.take (i+1))=val (xs.take i)+xs.getD i 0*4294967296^i:=by
  induction xs generalizing i with
  | nil=>simp [val]
  | cons x xs ih =>
    cases i with
    | zero=>simp [val]
    | succ i =>
      have:=ih i
      simp only [List.take_succ_cons,val,List.getD_cons_succ,Nat.pow_succ] at this ⊢
      rw [this]
      grind
theorem FN (xs:List Nat) (i:Nat) (h:i<=xs.length):val xs=val (xs.take i)+4294967296^i*val (xs.drop i):=by
  have:=LK (xs.take i) (xs.drop i)
  rwa [List.take_append_drop,List.length_take,Nat.min_eq_left h] at this
theorem P_ (xs:List Nat) (i:Nat):val (xs.take i)<=val xs:=by
  by_cases h:i<=xs.length
  · have:=FN xs i h;omega
  · rw [List.take_of_length_le Z];exact Nat.le_refl _
theorem O6 (xs:List Nat) (i:Nat):xs.getD i 0*4294967296^i<=val xs:=by
  have h1:=Bf xs i
  have h2:=P_ xs (i+1)
  omega
theorem Gm {xs:List Nat} {i m:Nat} (h:val xs<4294967296^m) (hm:m<=i):xs.getD i 0=0:=by
  have h1:=O6 xs i
  have h2:4294967296^m<=4294967296^i:=Nat.pow_le_pow_right Z hm
  rcases Nat.eq_zero_or_pos (xs.getD i 0) with h3|h3
  · exact h3
  · have:1*4294967296^i<=xs.getD i 0*4294967296^i:=Nat.mul_le_mul_right _ h3
    omega
theorem Kx {xs:List Nat} {m:Nat} (h:val xs<4294967296^m):val (xs.take m)=val xs:=by
  by_cases hm:m<=xs.length
  · have h1:=FN xs m hm
    rcases Nat.eq_zero_or_pos (val (xs.drop m)) with h3|h3
    · rw [h3] at h1;omega
    · have:4294967296^m*1<=4294967296^m*val (xs.drop m):=Nat.mul_le_mul_left _ h3
      omega
  · rw [List.take_of_length_le Z]
theorem TU:∀(f v:Nat),v<=f->S5 f v=AP v:=by
  intro f
  induction f using Nat.strongRecOn with
  | _ f ih =>
    intro v hv
    cases f with
    | zero =>
      have:v=0:=by omega
      subst this;rfl
    | succ f =>
      unfold AP
      cases v with
      | zero=>simp [S5]
      | succ v =>
        simp only [S5]
        have h1:(v+1)/4294967296<=v:=by omega
        rw [ih f Z _ Z]
        by_cases hvf:v=f
        · subst hvf;rw [ih v Z _ h1]
        · rw [ih v Z _ h1]
theorem RZ:AP 0=[]:=rfl
theorem F8 {v:Nat} (h:v≠0):AP v=v%4294967296::AP (v/4294967296):=by
  cases v with
  | zero=>exact absurd rfl h
  | succ v =>
    conv=>lhs;unfold AP S5
    simp only [Nat.add_eq_zero_iff]
    rw [TU v _ Z]
    simp
theorem Cs (v:Nat):val (AP v)=v:=by
  induction v using Nat.strongRecOn with
  | _ v ih =>
    by_cases h:v=0
    · subst h;rfl
    · rw [F8 h,val,ih _ Z];omega
theorem By (v:Nat):W32 (AP v):=by
  induction v using Nat.strongRecOn with
  | _ v ih =>
    by_cases h:v=0
    · subst h;exact W32.nil
    · rw [F8 h];exact W32.cons Z (ih _ Z)
def nw (v:Nat):Nat:=(AP v).length
theorem OK:nw 0=0:=rfl
theorem XN {v:Nat} (h:v≠0):nw v=nw (v/4294967296)+1:=by unfold nw;rw [F8 h];rfl
theorem DB {v k:Nat}:nw v<=k↔v<4294967296^k:=by
  induction k generalizing v with
  | zero =>
    by_cases h:v=0
    · subst h;simp [OK]
    · rw [XN h];simp;omega
  | succ k ih =>
    by_cases h:v=0
    · subst h;simp [OK,Nat.pow_pos]
    · rw [XN h,Nat.pow_succ,Nat.add_le_add_iff_right,ih,Nat.div_lt_iff_lt_mul Z]
theorem Bz (v:Nat):v<4294967296^nw v:=DB.1 (Nat.le_refl _)
theorem DK {a b:Nat} (h:a<=b):nw a<=nw b:=DB.2 (Nat.lt_of_le_of_lt h (Bz b))
theorem XF (a b:Nat):nw (a*b)<=nw a+nw b:=by
  rw [DB,Nat.pow_add]
  exact Nat.mul_lt_mul'' (Bz a) (Bz b)
theorem aN (a b:Nat):nw (a+b)<=max (nw a) (nw b)+1:=by
  rw [DB,Nat.pow_succ]
  have h1:a<4294967296^max (nw a) (nw b):=DB.1 (Nat.le_max_left ..)
  have h2:b<4294967296^max (nw a) (nw b):=DB.1 (Nat.le_max_right ..)
  omega
theorem ME {a:Nat} (h:a<18446744073709551616):nw a<=2:=DB.2 Z
theorem OT {xs:List Nat} (h:W32 xs) (hl:∀x,xs.getLast?=some x->x≠0):AP (val xs)=xs:=by
  induction xs with
  | nil=>rfl
  | cons x xs ih =>
    have hx:=h x jX
    have h0:val (x::xs)≠0:=by
      intro h0
      rw [P1] at h0
      have hv:val xs=0:=by omega
      cases xs with
      | nil=>exact hl x rfl Z
      | cons y ys =>
        have:=ih (λz hz=>h z (by simp [hz])) (λz hz=>hl z (by simpa using hz))
        rw [hv] at this
        cases this
    rw [F8 h0,P1]
    have e1:(x+4294967296*val xs)%4294967296=x:=by omega
    have e2:(x+4294967296*val xs)/4294967296=val xs:=by omega
    rw [e1,e2]
    congr 1
    exact ih (λz hz=>h z (by simp [hz])) (λz hz=>hl z (by
      cases xs with
      | nil=>simp at hz
      | cons y ys=>simpa using hz))
end
section
section
variable {P:Program} {Q:Exit->Act->World->Prop} {n:Nat} {F:List (Nat×Value)} {w0:BC} {L:List As} {c x y:Code}
def Tg {α:Sort _} (_:α):Prop:=True
theorem tg {α:Sort _} (a:α):Tg a:=trivial
def dR  (n:Nat) (w0:BC) (J:Prop) (FI:List (Nat×Value)) (LI:List As) (Q:Exit->Act->World->Prop):Exit->Act->World->Prop :=
  Exit.then (λa w=>J/\Frm n a FI/\Own w0 w LI) Q
theorem OkC.join0  (J:Prop) (FI:List (Nat×Value)) (LI:List As) (h1:OkC P x (dR n w0 J FI LI Q) n F w0 L) (h2:J->OkQ Q .normal n FI w0 LI):OkC P x Q n F w0 L:=λa w ha hw=>by
  refine Code.wp_mono (λe a' w' hq=>?_) (h1 a w ha hw)
  cases e<;>first
    | (obtain ⟨h3,h4,h5⟩:=hq;exact h2 h3 a' w' h4 h5)
    | exact hq
theorem yG  {J:Prop} {FI:List (Nat×Value)} {LI:List As}  (hJ:J) (hs:Ca FI F) (hl:(LI).Sublist L):OkQ (dR n w0 J FI LI Q) .normal n F w0 L:=λ_ _ ha hw=>⟨hJ,ha.sub hs,hw.weak hl⟩
theorem yk  {J:Prop} {FI:List (Nat×Value)} {LI:List As} (_:Tg J) (_:Tg FI) (_:Tg LI) (h1:OkC P x (dR n w0 J FI LI Q) n F w0 L) (h2:J->OkQ Q .normal n FI w0 LI):OkC P x Q n F w0 L:=OkC.join0 J FI LI h1 h2
theorem yW  {J:Prop} {FI:List (Nat×Value)} {LI:List As}  (h:OkQ Q (.ret) n F w0 L):OkQ (dR n w0 J FI LI Q) (.ret) n F w0 L:=h
def ef {α:Type} (n:Nat) (w0:BC) (J:α->Prop) (FI:α->List (Nat×Value)) (LI:α->List As) (Q:Exit->Act->World->Prop):Exit->Act->World->Prop :=
  Exit.then (λa w=>∃i',J i'/\Frm n a (FI i')/\Own w0 w (LI i')) Q
theorem OkC.join1 {α:Type} (J:α->Prop) (FI:α->List (Nat×Value)) (LI:α->List As) (h1:OkC P x (ef n w0 J FI LI Q) n F w0 L) (h2:∀i,J i->OkQ Q .normal n (FI i) w0 (LI i)):OkC P x Q n F w0 L:=λa w ha hw=>by
  refine Code.wp_mono (λe a' w' hq=>?_) (h1 a w ha hw)
  cases e<;>first
    | (obtain ⟨i,h3,h4,h5⟩:=hq;exact h2 i h3 a' w' h4 h5)
    | exact hq
theorem zl {α:Type} {J:α->Prop} {FI:α->List (Nat×Value)} {LI:α->List As} (i:α) (hJ:J i) (hs:Ca (FI i) F) (hl:(LI i).Sublist L):OkQ (ef n w0 J FI LI Q) .normal n F w0 L:=λ_ _ ha hw=>⟨i,hJ,ha.sub hs,hw.weak hl⟩
theorem yN {α:Type} {J:α->Prop} {FI:α->List (Nat×Value)} {LI:α->List As} (_:Tg J) (_:Tg FI) (_:Tg LI) (h1:OkC P x (ef n w0 J FI LI Q) n F w0 L) (h2:∀i,J i->OkQ Q .normal n (FI i) w0 (LI i)):OkC P x Q n F w0 L:=OkC.join1 J FI LI h1 h2
def W9 {α:Type} (n:Nat) (w0:BC) (J:α->Prop) (FI:α->List (Nat×Value)) (LI:α->List As) (m:α->Nat) (i:α) (Q:Exit->Act->World->Prop):Exit->Act->World->Prop :=
  Exit.then (λa w=>∃i',J i'/\m i'<m i/\Frm n a (FI i')/\Own w0 w (LI i')) Q
theorem OkC.loop1 {α:Type} (J:α->Prop) (FI:α->List (Nat×Value)) (LI:α->List As) (m:α->Nat) (round:∀i,J i->OkC P c (W9 n w0 J FI LI m i Q) n (FI i) w0 (LI i))
    (i:α) (h:J i):OkC P (.loop c) Q n (FI i) w0 (LI i) :=
  yi (σ:=α) (λs=>J s) (λs=>FI s) (λs=>LI s) (λs=>m s) (λs hs a w ha hw=>by
    refine Code.wp_mono (λe a' w' hq=>?_) (round s hs a w ha hw)
    cases e<;>first
      | (obtain ⟨i',h1,h2,h3,h4⟩:=hq;exact ⟨i',h1,h2,h3,h4⟩)
      | exact hq) i h
theorem zo {α:Type} {J:α->Prop} {FI:α->List (Nat×Value)} {LI:α->List As} {m:α->Nat} (_:Tg J) (_:Tg FI) (_:Tg LI) (_:Tg m) (i:α) (h:J i) (hs:Ca (FI i) F) (hl:(LI i).Sublist L)
    (round:∀i,J i->OkC P c (W9 n w0 J FI LI m i Q) n (FI i) w0 (LI i)):OkC P (.loop c) Q n F w0 L:=yh hs hl (OkC.loop1 J FI LI m round i h)
theorem zc {α:Type} {J:α->Prop} {FI:α->List (Nat×Value)} {LI:α->List As} {m:α->Nat} {i:α} (i':α) (hJ:J i') (hm:m i'<m i) (hs:Ca (FI i') F) (hl:(LI i').Sublist L):OkQ (W9 n w0 J FI LI m i Q) .normal n F w0 L:=λ_ _ ha hw=>⟨i',hJ,hm,ha.sub hs,hw.weak hl⟩
theorem zk {α:Type} {J:α->Prop} {FI:α->List (Nat×Value)} {LI:α->List As} {m:α->Nat} {i:α}  (h:OkQ Q (.ret) n F w0 L):OkQ (W9 n w0 J FI LI m i Q) (.ret) n F w0 L:=h
theorem za {α:Type} {J:α->Prop} {FI:α->List (Nat×Value)} {LI:α->List As} {m:α->Nat} {i:α} {id:Nat} (h:OkQ Q (.exit id) n F w0 L):OkQ (W9 n w0 J FI LI m i Q) (.exit id) n F w0 L:=h
def d8 {α β:Type} (n:Nat) (w0:BC) (J:α->β->Prop) (FI:α->β->List (Nat×Value)) (LI:α->β->List As) (Q:Exit->Act->World->Prop):Exit->Act->World->Prop :=
  Exit.then (λa w=>∃i' j',J i' j'/\Frm n a (FI i' j')/\Own w0 w (LI i' j')) Q
theorem OkC.join2 {α β:Type} (J:α->β->Prop) (FI:α->β->List (Nat×Value)) (LI:α->β->List As) (h1:OkC P x (d8 n w0 J FI LI Q) n F w0 L) (h2:∀i j,J i j->OkQ Q .normal n (FI i j) w0 (LI i j)):OkC P x Q n F w0 L:=λa w ha hw=>by
  refine Code.wp_mono (λe a' w' hq=>?_) (h1 a w ha hw)
  cases e<;>first
    | (obtain ⟨i,j,h3,h4,h5⟩:=hq;exact h2 i j h3 a' w' h4 h5)
    | exact hq
theorem yY {α β:Type} {J:α->β->Prop} {FI:α->β->List (Nat×Value)} {LI:α->β->List As} (i:α) (j:β) (hJ:J i j) (hs:Ca (FI i j) F) (hl:(LI i j).Sublist L):OkQ (d8 n w0 J FI LI Q) .normal n F w0 L:=λ_ _ ha hw=>⟨i,j,hJ,ha.sub hs,hw.weak hl⟩
theorem y8 {α β:Type} {J:α->β->Prop} {FI:α->β->List (Nat×Value)} {LI:α->β->List As} (_:Tg J) (_:Tg FI) (_:Tg LI) (h1:OkC P x (d8 n w0 J FI LI Q) n F w0 L) (h2:∀i j,J i j->OkQ Q .normal n (FI i j) w0 (LI i j)):OkC P x Q n F w0 L:=OkC.join2 J FI LI h1 h2
def Xx {α β:Type} (n:Nat) (w0:BC) (J:α->β->Prop) (FI:α->β->List (Nat×Value)) (LI:α->β->List As) (m:α->β->Nat) (i:α) (j:β) (Q:Exit->Act->World->Prop):Exit->Act->World->Prop :=
  Exit.then (λa w=>∃i' j',J i' j'/\m i' j'<m i j/\Frm n a (FI i' j')/\Own w0 w (LI i' j')) Q
theorem OkC.loop2 {α β:Type} (J:α->β->Prop) (FI:α->β->List (Nat×Value)) (LI:α->β->List As) (m:α->β->Nat) (round:∀i j,J i j->OkC P c (Xx n w0 J FI LI m i j Q) n (FI i j) w0 (LI i j))
    (i:α) (j:β) (h:J i j):OkC P (.loop c) Q n (FI i j) w0 (LI i j) :=
  yi (σ:=α×β) (λs=>J s.1 s.2) (λs=>FI s.1 s.2) (λs=>LI s.1 s.2) (λs=>m s.1 s.2) (λs hs a w ha hw=>by
    refine Code.wp_mono (λe a' w' hq=>?_) (round s.1 s.2 hs a w ha hw)
    cases e<;>first
      | (obtain ⟨i',j',h1,h2,h3,h4⟩:=hq;exact ⟨(i',j'),h1,h2,h3,h4⟩)
      | exact hq) (i,j) h
theorem yA {α β:Type} {J:α->β->Prop} {FI:α->β->List (Nat×Value)} {LI:α->β->List As} {m:α->β->Nat} (_:Tg J) (_:Tg FI) (_:Tg LI) (_:Tg m) (i:α) (j:β) (h:J i j) (hs:Ca (FI i j) F) (hl:(LI i j).Sublist L)
    (round:∀i j,J i j->OkC P c (Xx n w0 J FI LI m i j Q) n (FI i j) w0 (LI i j)):OkC P (.loop c) Q n F w0 L:=yh hs hl (OkC.loop2 J FI LI m round i j h)
theorem zn {α β:Type} {J:α->β->Prop} {FI:α->β->List (Nat×Value)} {LI:α->β->List As} {m:α->β->Nat} {i:α} {j:β} (i':α) (j':β) (hJ:J i' j') (hm:m i' j'<m i j) (hs:Ca (FI i' j') F) (hl:(LI i' j').Sublist L):OkQ (Xx n w0 J FI LI m i j Q) .normal n F w0 L:=λ_ _ ha hw=>⟨i',j',hJ,hm,ha.sub hs,hw.weak hl⟩
theorem zi {α β:Type} {J:α->β->Prop} {FI:α->β->List (Nat×Value)} {LI:α->β->List As} {m:α->β->Nat} {i:α} {j:β} {id:Nat} (h:OkQ Q (.exit id) n F w0 L):OkQ (Xx n w0 J FI LI m i j Q) (.exit id) n F w0 L:=h
def Xc {α β γ:Type} (n:Nat) (w0:BC) (J:α->β->γ->Prop) (FI:α->β->γ->List (Nat×Value)) (LI:α->β->γ->List As) (m:α->β->γ->Nat) (i:α) (j:β) (k:γ) (Q:Exit->Act->World->Prop):Exit->Act->World->Prop :=
  Exit.then (λa w=>∃i' j' k',J i' j' k'/\m i' j' k'<m i j k/\Frm n a (FI i' j' k')/\Own w0 w (LI i' j' k')) Q
theorem OkC.loop3 {α β γ:Type} (J:α->β->γ->Prop) (FI:α->β->γ->List (Nat×Value)) (LI:α->β->γ->List As) (m:α->β->γ->Nat) (round:∀i j k,J i j k->OkC P c (Xc n w0 J FI LI m i j k Q) n (FI i j k) w0 (LI i j k))
    (i:α) (j:β) (k:γ) (h:J i j k):OkC P (.loop c) Q n (FI i j k) w0 (LI i j k) :=
  yi (σ:=α×β×γ) (λs=>J s.1 s.2.1 s.2.2) (λs=>FI s.1 s.2.1 s.2.2) (λs=>LI s.1 s.2.1 s.2.2) (λs=>m s.1 s.2.1 s.2.2) (λs hs a w ha hw=>by
    refine Code.wp_mono (λe a' w' hq=>?_) (round s.1 s.2.1 s.2.2 hs a w ha hw)
    cases e<;>first
      | (obtain ⟨i',j',k',h1,h2,h3,h4⟩:=hq;exact ⟨(i',j',k'),h1,h2,h3,h4⟩)
      | exact hq) (i,j,k) h
theorem yS {α β γ:Type} {J:α->β->γ->Prop} {FI:α->β->γ->List (Nat×Value)} {LI:α->β->γ->List As} {m:α->β->γ->Nat} (_:Tg J) (_:Tg FI) (_:Tg LI) (_:Tg m) (i:α) (j:β) (k:γ) (h:J i j k) (hs:Ca (FI i j k) F) (hl:(LI i j k).Sublist L)
    (round:∀i j k,J i j k->OkC P c (Xc n w0 J FI LI m i j k Q) n (FI i j k) w0 (LI i j k)):OkC P (.loop c) Q n F w0 L:=yh hs hl (OkC.loop3 J FI LI m round i j k h)
theorem yB {α β γ:Type} {J:α->β->γ->Prop} {FI:α->β->γ->List (Nat×Value)} {LI:α->β->γ->List As} {m:α->β->γ->Nat} {i:α} {j:β} {k:γ} (i':α) (j':β) (k':γ) (hJ:J i' j' k') (hm:m i' j' k'<m i j k) (hs:Ca (FI i' j' k') F) (hl:(LI i' j' k').Sublist L):OkQ (Xc n w0 J FI LI m i j k Q) .normal n F w0 L:=λ_ _ ha hw=>⟨i',j',k',hJ,hm,ha.sub hs,hw.weak hl⟩
theorem zx {α β γ:Type} {J:α->β->γ->Prop} {FI:α->β->γ->List (Nat×Value)} {LI:α->β->γ->List As} {m:α->β->γ->Nat} {i:α} {j:β} {k:γ} {id:Nat} (h:OkQ Q (.exit id) n F w0 L):OkQ (Xc n w0 J FI LI m i j k Q) (.exit id) n F w0 L:=h
def Xy {α β γ δ:Type} (n:Nat) (w0:BC) (J:α->β->γ->δ->Prop) (FI:α->β->γ->δ->List (Nat×Value)) (LI:α->β->γ->δ->List As) (m:α->β->γ->δ->Nat) (i:α) (j:β) (k:γ) (l:δ) (Q:Exit->Act->World->Prop):Exit->Act->World->Prop :=
  Exit.then (λa w=>∃i' j' k' l',J i' j' k' l'/\m i' j' k' l'<m i j k l/\Frm n a (FI i' j' k' l')/\Own w0 w (LI i' j' k' l')) Q
theorem OkC.loop4 {α β γ δ:Type} (J:α->β->γ->δ->Prop) (FI:α->β->γ->δ->List (Nat×Value)) (LI:α->β->γ->δ->List As) (m:α->β->γ->δ->Nat) (round:∀i j k l,J i j k l->OkC P c (Xy n w0 J FI LI m i j k l Q) n (FI i j k l) w0 (LI i j k l))
    (i:α) (j:β) (k:γ) (l:δ) (h:J i j k l):OkC P (.loop c) Q n (FI i j k l) w0 (LI i j k l) :=
  yi (σ:=α×β×γ×δ) (λs=>J s.1 s.2.1 s.2.2.1 s.2.2.2) (λs=>FI s.1 s.2.1 s.2.2.1 s.2.2.2) (λs=>LI s.1 s.2.1 s.2.2.1 s.2.2.2) (λs=>m s.1 s.2.1 s.2.2.1 s.2.2.2) (λs hs a w ha hw=>by
    refine Code.wp_mono (λe a' w' hq=>?_) (round s.1 s.2.1 s.2.2.1 s.2.2.2 hs a w ha hw)
    cases e<;>first
      | (obtain ⟨i',j',k',l',h1,h2,h3,h4⟩:=hq;exact ⟨(i',j',k',l'),h1,h2,h3,h4⟩)
      | exact hq) (i,j,k,l) h
theorem yO {α β γ δ:Type} {J:α->β->γ->δ->Prop} {FI:α->β->γ->δ->List (Nat×Value)} {LI:α->β->γ->δ->List As} {m:α->β->γ->δ->Nat} (_:Tg J) (_:Tg FI) (_:Tg LI) (_:Tg m) (i:α) (j:β) (k:γ) (l:δ) (h:J i j k l) (hs:Ca (FI i j k l) F) (hl:(LI i j k l).Sublist L)
    (round:∀i j k l,J i j k l->OkC P c (Xy n w0 J FI LI m i j k l Q) n (FI i j k l) w0 (LI i j k l)):OkC P (.loop c) Q n F w0 L:=yh hs hl (OkC.loop4 J FI LI m round i j k l h)
theorem zu {α β γ δ:Type} {J:α->β->γ->δ->Prop} {FI:α->β->γ->δ->List (Nat×Value)} {LI:α->β->γ->δ->List As} {m:α->β->γ->δ->Nat} {i:α} {j:β} {k:γ} {l:δ} (i':α) (j':β) (k':γ) (l':δ) (hJ:J i' j' k' l') (hm:m i' j' k' l'<m i j k l) (hs:Ca (FI i' j' k' l') F) (hl:(LI i' j' k' l').Sublist L):OkQ (Xy n w0 J FI LI m i j k l Q) .normal n F w0 L:=λ_ _ ha hw=>⟨i',j',k',l',hJ,hm,ha.sub hs,hw.weak hl⟩
theorem zr {α β γ δ:Type} {J:α->β->γ->δ->Prop} {FI:α->β->γ->δ->List (Nat×Value)} {LI:α->β->γ->δ->List As} {m:α->β->γ->δ->Nat} {i:α} {j:β} {k:γ} {l:δ} {id:Nat} (h:OkQ Q (.exit id) n F w0 L):OkQ (Xy n w0 J FI LI m i j k l Q) (.exit id) n F w0 L:=h
def Y7 {α β γ δ ε:Type} (n:Nat) (w0:BC) (J:α->β->γ->δ->ε->Prop) (FI:α->β->γ->δ->ε->List (Nat×Value)) (LI:α->β->γ->δ->ε->List As) (m:α->β->γ->δ->ε->Nat) (i:α) (j:β) (k:γ) (l:δ) (o:ε) (Q:Exit->Act->World->Prop):Exit->Act->World->Prop :=
  Exit.then (λa w=>∃i' j' k' l' o',J i' j' k' l' o'/\m i' j' k' l' o'<m i j k l o/\Frm n a (FI i' j' k' l' o')/\Own w0 w (LI i' j' k' l' o')) Q
theorem OkC.loop5 {α β γ δ ε:Type} (J:α->β->γ->δ->ε->Prop) (FI:α->β->γ->δ->ε->List (Nat×Value)) (LI:α->β->γ->δ->ε->List As) (m:α->β->γ->δ->ε->Nat) (round:∀i j k l o,J i j k l o->OkC P c (Y7 n w0 J FI LI m i j k l o Q) n (FI i j k l o) w0 (LI i j k l o))
    (i:α) (j:β) (k:γ) (l:δ) (o:ε) (h:J i j k l o):OkC P (.loop c) Q n (FI i j k l o) w0 (LI i j k l o) :=
  yi (σ:=α×β×γ×δ×ε) (λs=>J s.1 s.2.1 s.2.2.1 s.2.2.2.1 s.2.2.2.2) (λs=>FI s.1 s.2.1 s.2.2.1 s.2.2.2.1 s.2.2.2.2) (λs=>LI s.1 s.2.1 s.2.2.1 s.2.2.2.1 s.2.2.2.2) (λs=>m s.1 s.2.1 s.2.2.1 s.2.2.2.1 s.2.2.2.2) (λs hs a w ha hw=>by
    refine Code.wp_mono (λe a' w' hq=>?_) (round s.1 s.2.1 s.2.2.1 s.2.2.2.1 s.2.2.2.2 hs a w ha hw)
    cases e<;>first
      | (obtain ⟨i',j',k',l',o',h1,h2,h3,h4⟩:=hq;exact ⟨(i',j',k',l',o'),h1,h2,h3,h4⟩)
      | exact hq) (i,j,k,l,o) h
theorem yZ {α β γ δ ε:Type} {J:α->β->γ->δ->ε->Prop} {FI:α->β->γ->δ->ε->List (Nat×Value)} {LI:α->β->γ->δ->ε->List As} {m:α->β->γ->δ->ε->Nat} (_:Tg J) (_:Tg FI) (_:Tg LI) (_:Tg m) (i:α) (j:β) (k:γ) (l:δ) (o:ε) (h:J i j k l o) (hs:Ca (FI i j k l o) F) (hl:(LI i j k l o).Sublist L)
    (round:∀i j k l o,J i j k l o->OkC P c (Y7 n w0 J FI LI m i j k l o Q) n (FI i j k l o) w0 (LI i j k l o)):OkC P (.loop c) Q n F w0 L:=yh hs hl (OkC.loop5 J FI LI m round i j k l o h)
theorem yK {α β γ δ ε:Type} {J:α->β->γ->δ->ε->Prop} {FI:α->β->γ->δ->ε->List (Nat×Value)} {LI:α->β->γ->δ->ε->List As} {m:α->β->γ->δ->ε->Nat} {i:α} {j:β} {k:γ} {l:δ} {o:ε} (i':α) (j':β) (k':γ) (l':δ) (o':ε) (hJ:J i' j' k' l' o') (hm:m i' j' k' l' o'<m i j k l o) (hs:Ca (FI i' j' k' l' o') F) (hl:(LI i' j' k' l' o').Sublist L):OkQ (Y7 n w0 J FI LI m i j k l o Q) .normal n F w0 L:=λ_ _ ha hw=>⟨i',j',k',l',o',hJ,hm,ha.sub hs,hw.weak hl⟩
theorem z8 {α β γ δ ε:Type} {J:α->β->γ->δ->ε->Prop} {FI:α->β->γ->δ->ε->List (Nat×Value)} {LI:α->β->γ->δ->ε->List As} {m:α->β->γ->δ->ε->Nat} {i:α} {j:β} {k:γ} {l:δ} {o:ε} {id:Nat} (h:OkQ Q (.exit id) n F w0 L):OkQ (Y7 n w0 J FI LI m i j k l o Q) (.exit id) n F w0 L:=h
end
end
section
section
variable {w0:BC} {L:List As}
theorem Own.addRo {w w':World} {a:As} (h:Own w0 w L) (hb:Gx w.heap.size w w') (hr:a.ro=true) (hh:Holds w' a) (hs:∀b,a.foot=some b->w.heap.size<=b\/∃y∈L,y.ro=true/\y.foot=some b):Own w0 w' (a::L):=by
  have h1:=h.below hb
  refine ⟨h1.1,λz hz b e=>?_,List.pairwise_cons.2 ⟨λz hz=>?_,h1.2.2⟩⟩
  · rcases xL.1 hz with rfl|hz
    · exact ⟨.inl hr,hh b e⟩
    · exact h1.2.1 z hz b e
  · cases hf:a.foot with
    | none=>exact .inr λb e=>by cases e
    | some b =>
      rcases hs b hf with h2|⟨y,hy,hyr,hyf⟩
      · refine .inr λb' e e2=>?_
        injection e with e;subst e
        exact absurd (h.lt hz e2) Z
      · have h3:=QO hr hyr hf hyf (N4 h.2.2 y hy z hz)
        rw [<-hf];exact h3
end
class C8 (α:Type) where
  val:α->Value
  rows:α->List As
  ro:∀a,∀y∈rows a,y.ro=true
def Ro (S:Nat->Prop) (w:World) {α:Type} [C8 α] (a:α):Prop:=∀y∈C8.rows a,Holds w y/\∀b,y.foot=some b->S b
def Ad (α:Type) [C8 α] (S:Nat->Prop) (W:World) (e:Ending) (w:World):Prop :=
  ∃a:α,e=.returned (C8.val a)/\Gx W.heap.size W w/\Ro (λb=>W.heap.size<=b\/S b) w a
def Nw (w0:BC) (S:Nat->Prop) (b:Nat):Prop:=w0.w.heap.size<=b\/S b
def SL (w0:BC) (S:Nat->Prop) (L:List As) (b:Nat):Prop:=(∃y∈L,y.ro=true/\y.foot=some b)/\Nw w0 S b
def At (w0:BC) (S:Nat->Prop) {α:Type} [C8 α] (a:α):Prop:=∀y∈C8.rows a,∀b,y.foot=some b->Nw w0 S b
section
variable {w0:BC} {S:Nat->Prop} {w W:World} {L:List As} {α:Type} [C8 α]
theorem inS (hw:Own w0 w L) (i:Nat) {a:α} (hi:(L.drop i).take (C8.rows a).length=C8.rows a) (ha:At w0 S a):Ro (SL w0 S L) w a:=λy hy=>by
  have hm:y∈L:=List.mem_of_mem_drop (i:=i) (List.mem_of_mem_take (i:=(C8.rows a).length) (by rw [hi];exact hy))
  exact ⟨λb e=>(hw.2.1 y hm b e).2,λb e=>⟨⟨y,hm,C8.ro a y hy,e⟩,ha y hy b e⟩⟩
theorem Ro.mono {S':Nat->Prop} {a:α} (h:Ro S w a) (hs:∀b,S b->S' b):Ro S' w a:=λy hy=>⟨(h y hy).1,λb e=>hs b ((h y hy).2 b e)⟩
theorem Bx {a:α} (h:Ro S w a):At ⟨W,none⟩ S a:=λy hy b e=>.inr ((h y hy).2 b e)
theorem EH {a:α} {v:Value} (hw:Own ⟨W,none⟩ w L) (h:Ro (SL ⟨W,none⟩ S L) w a) (hv:v=C8.val a):Ad α S W (.returned v) w:=⟨a,by rw [hv],hw.out,h.mono λb h=>h.2⟩
theorem Ad.cast {ι:Type} {T:ι->Type} [∀i,C8 (T i)] {i j:ι} (h:i=j) {f:FuncId} {P:Program} {args:Array Value} (k:Calls P f args W (Ad (T i) S W)):Calls P f args W (Ad (T j) S W):=h▸k
theorem DF {a:α} (h:Ro S w a) (t:∀y∈L,y.ro=true/\Holds w y):∀y∈C8.rows a++L,y.ro=true/\Holds w y:=λy hy=>(List.mem_append.1 hy).elim (λk=>⟨C8.ro a y k,(h y k).1⟩) (t y)
end
theorem Own.addRos {w0:BC} {w w':World} {L:List As} (h:Own w0 w L) (hb:Gx w.heap.size w w'):∀(xs:List As),(∀x∈xs,x.ro=true/\Holds w' x/\∀b,x.foot=some b->w.heap.size<=b\/∃y∈L,y.ro=true/\y.foot=some b)->Own w0 w' (xs++L)
  | [],_=>h.below hb
  | x::xs,hx=>by
    have h1:=Own.addRos h hb xs λy hy=>hx y (List.mem_cons_of_mem _ hy)
    obtain ⟨hr,hh,hs⟩:=hx x List.mem_cons_self
    have h2:=h.addRo hb hr hh hs
    refine ⟨h1.1,λy hy=>(xL.1 hy).elim (λe=>h2.2.1 y (e▸List.mem_cons_self)) (λe=>h1.2.1 y e),List.pairwise_cons.2 ⟨λy hy=>?_,h1.2.2⟩⟩
    rcases List.mem_append.1 hy with hy|hy
    · exact .inl ⟨hr,(hx y (List.mem_cons_of_mem _ hy)).1⟩
    · exact (List.pairwise_cons.1 h2.2.2).1 y hy
section
variable {P:Program} {ops:Array Oper} {rest:List Oper} {Q:Exit->Act->World->Prop} {n d:Nat} {F:List (Nat×Value)} {w0:BC} {S:Nat->Prop} {L:List As} {t:TypeId} {p:String} {af:Array Edge} {y:Operand} {f:FuncId} {xs:List Operand} {args:List Value} {ts:Array TypeId}
theorem AL.callRg {α:Type} [C8 α] {g:Option (Nat×Bool)} (hw:Wt ops n F ⟨some d,.call { callee:=.value y,args:=xs.toArray,argTypes:=ts },t,p,af,g⟩) (hc:∀args w,(callFunc f args).run P w=.ok (.enter f args) w) (h:∀w,Own w0 w L->Calls P f args.toArray w (Ad α (SL w0 S L) w))
    (hf:evF F y=some (.func (.func f) #[] #[])) (hargs:xs.map (evF F)=args.map some) (hd:Nat.ble (d+1) n=true) (next:∀a:α,At w0 S a->AL P ops rest Q n ((d,C8.val a)::F) w0 (C8.rows a++L)) :
    AL P ops (⟨some d,.call { callee:=.value y,args:=xs.toArray,argTypes:=ts },t,p,af,g⟩::rest) Q n F w0 L:=λa w ha hW=>by
  unfold wpList
  rw [if_pos (hw a ha)]
  left
  unfold Oper.wp
  rw [Aw hf hargs hc a w ha hW,Oper.upon_enter]
  refine (h w hW).mono ?_
  rintro e w' ⟨v,rfl,hb,hr⟩
  exact next v (λy hy b e=>((hr y hy).2 b e).elim (λh=>.inl (xK hW.1.size h)) λh=>h.2) _ _ (ha.put (B5 hd)) (hW.addRos hb _ λx hx=>⟨C8.ro v x hx,(hr x hx).1,λb e=>((hr x hx).2 b e).imp_right λh=>h.1⟩)
theorem zm {α:Type} [C8 α] (hc:∀args w,(callFunc f args).run P w=.ok (.enter f args) w) (h:∀w,Own w0 w L->Calls P f args.toArray w (Ad α (SL w0 S L) w))
    (hf:evF F y=some (.func (.func f) #[] #[])) (hargs:xs.map (evF F)=args.map some) (hd:Nat.ble (d+1) n=true) (next:∀a:α,At w0 S a->AL P ops rest Q n ((d,C8.val a)::F) w0 (C8.rows a++L)) :
    AL P ops (⟨some d,.call { callee:=.value y,args:=xs.toArray,argTypes:=ts },t,p,af,none⟩::rest) Q n F w0 L:=AL.callRg (AJ rfl) hc h hf hargs hd next
theorem BJ {ops:Array Oper} {o:Oper} {j t:Nat} {b:Bool} (h:o.guard=some (j,b)) (hj:(ops[j]?).bind (·.dst)=some t) (ht:F.lookup t=some undef):∀a,Frm n a F->Region.wanted o (yielded ops a.tmps)=false:=λa ha=>by
  have h1:=ha.2.2 t _ ht
  simp [Region.wanted,h,yielded,hj,h1,undef]
end
end
section
def Er (a b:Nat):Int:=if a<b then -1 else if b<a then 1 else 0
theorem S1 {a b:Nat} (h:a<b):Er a b = -1:=if_pos h
theorem SJ {a b:Nat} (h:¬a<b) (h2:b<a):Er a b=1:=by rw [Er,if_neg h,if_pos h2]
theorem Sn {a b:Nat} (h:¬a<b) (h2:¬b<a):Er a b=0:=by rw [Er,if_neg h,if_neg h2]
def We (a b:Int):Int:=if a≠0 then a else if b≠0 then b else 0
section
variable {P:Program} {n:Nat} {F:List (Nat×Value)} {w0:BC} {L:List As} {d:Option Tmp} {x:Operand} {t:TypeId} {p:String} {af:Array Edge} {g:Option (Nat×Bool)}
theorem D4 {tx e:TypeId} {a:Option Addr} {len cap k:Nat} {hi mx:Operand} {ki kj:IntKind} {m:Nat} (hx:evF F x=some (.slice a len cap)) (hh:evF F hi=some (.int ki (m:Nat))) (hj:evF F mx=some (.int kj (m:Nat))) (hu:P.underlying tx=some (.slice e)) (hs:∀w,(sizeOf e).run P w=.ok k w) (hm:m<=cap) :
    Ex P n F w0 L ⟨d,.slice tx x none (some hi) (some mx),t,p,af,g⟩ (.slice a m m):=λA w ha _=>by
  simp only [execOp,ha.ev hx,Instr.sliceAt,run_underlying hu,Instr.slice,Option.map_some,Option.map_none,ha.ev hh,ha.ev hj,Instr.sliceBounds,Instr.sliceBound,asIntOf,Sem.run_bind,Result.andThen_ok,Sem.run_pure]
  have h1:(0:Int)<=(m:Int)/\(m:Int)<=(cap:Int):=⟨Z,Z⟩
  simp [h1.2,hs]
  cases a<;>simp [Addr.add]
end
section
variable {P:Program} {ops:Array Oper} {rest:List Oper} {Q:Exit->Act->World->Prop} {n:Nat} {F:List (Nat×Value)} {w0:BC} {L L':List As}
theorem xF (hs:L'.Sublist L) (h:AL P ops rest Q n F w0 L'):AL P ops rest Q n F w0 L:=λa w ha hw=>h a w ha (hw.weak hs)
end
end
def ET (bs:List Nat):Nat->Nat
  | 0=>0
  | m+1=>if bs.getD m 0=0 then ET bs m else m+1
theorem UP {bs:List Nat} {k:Nat} (h:0<k) (h0:bs.getD (k-1) 0=0):ET bs k=ET bs (k-1):=by
  obtain ⟨j,rfl⟩:∃j,k=j+1:=⟨k-1,Z⟩
  simp only [ET];rw [if_pos (by simpa using h0)];simp
theorem Td {bs:List Nat} {k:Nat} (h:¬(0<k/\bs.getD (k-1) 0=0)):ET bs k=k:=by
  cases k with
  | zero=>rfl
  | succ j=>simp only [ET];rw [if_neg (by simpa using h)]
theorem KW (bs:List Nat):∀m,ET bs m<=m
  | 0=>Nat.le_refl _
  | m+1=>by
    simp only [ET]
    split
    · have:=KW bs m;omega
    · exact Nat.le_refl _
theorem Ng (bs:List Nat):∀m,ET bs m≠0->bs.getD (ET bs m-1) 0≠0
  | 0,h=>absurd rfl h
  | m+1,h=>by
    simp only [ET] at h ⊢
    split
    · rename_i h0;rw [if_pos h0] at h;exact Ng bs m h
    · rename_i h0;simpa using h0
theorem K7 (bs:List Nat):∀m,val (bs.take (ET bs m))=val (bs.take m)
  | 0=>rfl
  | m+1=>by
    simp only [ET]
    split
    · rename_i h0;rw [K7 bs m,Bf,h0];omega
    · rfl
theorem JX {bs:List Nat} (hb:W32 bs) {m:Nat} (hm:m<=bs.length):AP (val (bs.take m))=bs.take (ET bs m):=by
  rw [<-K7]
  refine OT (hb.take _) λx hx=>?_
  have hle:=KW bs m
  have hne:ET bs m≠0:=λh0=>by rw [h0] at hx;simp at hx
  have hl:(bs.take (ET bs m)).getLast?=some (bs.getD (ET bs m-1) 0):=by
    rw [List.getLast?_eq_getElem?]
    have h1:(bs.take (ET bs m)).length-1=ET bs m-1:=by simp;omega
    rw [h1,List.getElem?_take,if_pos Z]
    have h2:ET bs m-1<bs.length:=by omega
    simp [h2]
  rw [hl] at hx
  injection hx with hx
  rw [<-hx]
  exact Ng bs m hne
theorem Rb {bs:List Nat} (hb:W32 bs) {m:Nat} (hm:m<=bs.length):nw (val (bs.take m))=ET bs m:=by
  unfold nw
  rw [JX hb hm,List.length_take]
  have:=KW bs m
  omega
theorem IU {v:Nat} (h:v<18446744073709551616):Ky v=true:=by simp [Ky,h]
theorem Jv {v:Nat} (h:¬v<18446744073709551616):Ky v=false:=by simp [Ky,h]
theorem EI {v:Nat} (h:v<18446744073709551616):Aa v=[.int .u64 (v:Nat),.string ByteArray.empty]:=by
  simp [Aa,CF,Bo,IU h]
theorem Bl {v:Nat} (h:v<18446744073709551616):CF v=v:=by simp [CF,IU h]
def bytesN (xs:List Nat):List Nat:=xs.flatMap λx=>[x%256,x/256%256,x/65536%256,x/16777216%256]
theorem CK (xs:List Nat):(bytesN xs).length=4*xs.length:=by
  induction xs with
  | nil=>rfl
  | cons x xs ih=>simp [bytesN] at ih ⊢;omega
theorem Mj (xs ys:List Nat):bytesN (xs++ys)=bytesN xs++bytesN ys:=by simp [bytesN]
theorem NL (xs:List Nat):Di (bytesN xs)=⟨(xs.flatMap VB).toArray⟩:=by
  unfold Di
  congr 2
  induction xs with
  | nil=>rfl
  | cons x xs ih =>
    simp only [bytesN,List.flatMap_cons,List.map_append] at ih ⊢
    rw [ih]
    rfl
theorem Wx {v:Nat} (h:¬v<18446744073709551616):Aa v=[.int .u64 (0:Nat),.string (Di (bytesN (AP v)))]:=by
  simp [Aa,CF,Bo,Jv h,NL]
theorem IK {v:Nat} (h:v<18446744073709551616):Bo v=ByteArray.empty:=by simp [Bo,IU h]
theorem Fe {v:Nat} (h:¬v<18446744073709551616):Bo v=Di (bytesN (AP v)):=by simp [Bo,Jv h,NL]
theorem Ly (xs:List Nat):(Di xs).size=xs.length:=by simp [Di,ByteArray.size]
theorem TI {xs:List Nat} {j:Nat} (h:j<xs.length):(Di xs)[j]?=some (UInt8.ofNat (xs.getD j 0)):=by
  have h1:j<(Di xs).size:=by rw [Ly];exact h
  rw [getElem?_pos (Di xs) j h1]
  congr 1
  show (Di xs).data[j]'h1=_
  simp [Di,h]
theorem GT:∀(xs:List Nat) (i k:Nat),i<xs.length->k<4->(bytesN xs).getD (4*i+k) 0=xs.getD i 0/256^k%256
  | [],i,k,h,_=>by simp at h
  | x::xs,0,k,_,hk=>by
    rcases k with _|_|_|_|k
    · simp [bytesN]
    · simp [bytesN]
    · simp [bytesN]
    · simp [bytesN]
    · omega
  | x::xs,i+1,k,h,hk=>by
    have ih:=GT xs i k (by simpa using h) hk
    have e:4*(i+1)+k=(4*i+k)+4:=by omega
    rw [e,List.getD_cons_succ,<-ih]
    simp [bytesN]
theorem Q7 {v:Nat} (h:¬v<18446744073709551616):2<nw v:=by
  rcases Nat.lt_or_ge 2 (nw v) with h1|h1
  · exact h1
  · exact absurd (DB.1 h1) Z
theorem C1 {v:Nat}:((Bo v).toList == (ByteArray.mk #[]).toList)=decide (v<18446744073709551616):=by
  by_cases h:v<18446744073709551616
  · rw [IK h];simp [h]
  · have h1:=Q7 h
    rw [ByteArray.toList_eq,ByteArray.toList_eq]
    have h2:(Bo v).data.toList≠[]:=λe=>by
      have h3:(Bo v).data.toList.length=0:=by rw [e];rfl
      rw [Fe h] at h3
      simp [Di,CK] at h3
      unfold nw at h1
      omega
    have h4:((Bo v).data.toList == [])=false:=by
      cases hl:(Bo v).data.toList with
      | nil=>exact absurd hl h2
      | cons=>rfl
    rw [show (ByteArray.mk #[]).data.toList=[] from rfl,h4]
    simp [h]
def A8 (v:Nat):List Nat:=if v<18446744073709551616 then [v%4294967296,v/4294967296] else AP v
theorem Cm (v:Nat):W32 (A8 v):=by
  unfold A8
  split
  · exact W32.cons Z (W32.cons Z W32.nil)
  · exact By v
theorem ZH {v:Nat} (h:v<18446744073709551616):W32 [v%4294967296,v/4294967296]:=W32.cons Z (W32.cons Z W32.nil)
theorem Ci (v:Nat):nw v<=(A8 v).length:=by
  unfold A8
  split
  · rename_i h;exact ME h
  · exact Nat.le_refl _
theorem I7 (v:Nat):(A8 v).take (nw v)=AP v:=by
  unfold A8
  split
  · rename_i h
    have e:v=val ([v%4294967296,v/4294967296].take 2):=by simp [val];omega
    have hw:W32 [v%4294967296,v/4294967296]:=W32.cons Z (W32.cons Z W32.nil)
    have h1:=JX hw (m:=2) jX
    have h2:=Rb hw (m:=2) jX
    rw [<-e] at h1 h2
    rw [h2,<-h1]
  · exact List.take_of_length_le (Nat.le_refl _)
theorem SE (v:Nat):val (A8 v)=v:=by
  unfold A8
  split
  · simp [val];omega
  · exact Cs v
theorem IS {a b s:Nat} (ha:a<2^s):a ||| b*2^s=a+b*2^s:=by
  rw [Nat.or_comm,Nat.mul_comm,<-Nat.two_pow_add_eq_or_of_lt ha];omega
theorem KQ {a b:Nat} (ha:a<18446744073709551616) (hb:b<18446744073709551616) {c:Nat} (hc:a ||| b=c):IntKind.u64.wrap ((BitVec.ofInt IntKind.u64.bits (a:Int) ||| BitVec.ofInt IntKind.u64.bits (b:Int)).toNat:Int)=(c:Int):=by
  have e:(BitVec.ofInt IntKind.u64.bits (a:Int) ||| BitVec.ofInt IntKind.u64.bits (b:Int)).toNat=a ||| b:=by
    show (BitVec.ofInt 64 (a:Int) ||| BitVec.ofInt 64 (b:Int)).toNat=_
    rw [BitVec.toNat_or,BitVec.ofInt_natCast,BitVec.ofInt_natCast,BitVec.toNat_ofNat,BitVec.toNat_ofNat,Nat.mod_eq_of_lt (show a<2^64 by omega),Nat.mod_eq_of_lt (show b<2^64 by omega)]
  rw [e,hc]
  have h2:a ||| b<2^64:=Nat.or_lt_two_pow ha hb
  exact Df Z Z
theorem Kn {a b:Nat} (ha:a<4294967296) (hb:b<4294967296) {c:Nat} (hc:a ||| b=c):IntKind.u32.wrap ((BitVec.ofInt IntKind.u32.bits (a:Int) ||| BitVec.ofInt IntKind.u32.bits (b:Int)).toNat:Int)=(c:Int):=by
  have e:(BitVec.ofInt IntKind.u32.bits (a:Int) ||| BitVec.ofInt IntKind.u32.bits (b:Int)).toNat=a ||| b:=by
    show (BitVec.ofInt 32 (a:Int) ||| BitVec.ofInt 32 (b:Int)).toNat=_
    rw [BitVec.toNat_or,BitVec.ofInt_natCast,BitVec.ofInt_natCast,BitVec.toNat_ofNat,BitVec.toNat_ofNat,Nat.mod_eq_of_lt (show a<2^32 by omega),Nat.mod_eq_of_lt (show b<2^32 by omega)]
  rw [e,hc]
  have h2:a ||| b<2^32:=Nat.or_lt_two_pow ha hb
  exact HM Z Z
theorem HB {a s:Nat} (h:a*2^s<18446744073709551616):IntKind.u64.wrap ((a:Int)*2^s)=((a*2^s:Nat):Int):=by
  have e:(a:Int)*2^s=((a*2^s:Nat):Int):=by simp
  rw [e,Df Z Z]
theorem Vs {a s:Nat} (h:a*2^s<4294967296):IntKind.u32.wrap ((a:Int)*2^s)=((a*2^s:Nat):Int):=by
  have e:(a:Int)*2^s=((a*2^s:Nat):Int):=by simp
  rw [e,HM Z Z]
theorem M0 {a s:Nat}:IntKind.u32.wrap ((a:Int)*2^s)=((a*2^s%4294967296:Nat):Int):=by
  have e:(a:Int)*2^s=((a*2^s:Nat):Int):=by simp
  rw [e];exact E3
theorem Vq (k:Nat):(256:Nat)^k=2^(8*k):=by rw [show (256:Nat)=2^8 from rfl,<-Nat.pow_mul]
theorem Sd {w k:Nat} (hk:k<4):w/256^k%256*2^(8*k)<4294967296:=by
  rcases k with _|_|_|_|k
  · simp;omega
  · simp;omega
  · simp;omega
  · simp;omega
  · omega
theorem UC {w k x:Nat} (hx:x=w%256^k):x ||| w/256^k%256*2^(8*k)=w%256^(k+1):=by
  subst hx
  rw [IS (by rw [<-Vq];exact Nat.mod_lt _ (Nat.pow_pos Z)),<-Vq,Nat.mod_pow_succ,Nat.mul_comm]
theorem RY {os ws xs:List Nat} {n i:Nat} (hl:os.length=n) (hn:ws.length=n) (hi:i<n) (ht:os.take i=ws.take i) (h0:∀j,i<=j->os.getD j 0=0) (hx:xs=os.set i (ws.getD i 0)) :
    xs.length=n/\xs.take (i+1)=ws.take (i+1)/\∀j,i+1<=j->xs.getD j 0=0:=by
  subst hx
  refine ⟨by simp [hl],?_,λj hj=>?_⟩
  · have e1:i<os.length:=by omega
    have e2:i<ws.length:=by omega
    rw [List.take_add_one,List.take_add_one,List.take_set_of_le (Nat.le_refl _),ht]
    simp [e1,e2]
  · have:=h0 j Z
    rw [List.getD_eq_getElem?_getD,List.getElem?_set_ne Z,<-List.getD_eq_getElem?_getD]
    exact this
theorem Vk {os:List Nat} {i:Nat} (h:os.getD i 0=0):os=os.set i 0:=by
  apply List.ext_getElem jX
  intro j h1 h2
  by_cases e:i=j
  · subst e;simpa [h1] using h
  · simp [e]
theorem ZS (k:Nat):(4294967296:Nat)^k=2^(32*k):=by rw [show (4294967296:Nat)=2^32 from rfl,<-Nat.pow_mul]
theorem Uo {x i:Nat} (hx:x<4294967296) (hi:i<2):x*2^(32*i)<18446744073709551616:=by
  rcases i with _|_|i
  · simp;omega
  · simp;omega
  · omega
theorem T_ {n i:Nat} (h:n<4294967296^i) (hi:i<2):n<18446744073709551616:=by
  rcases i with _|_|i
  · simp at h;omega
  · simp at h;omega
  · omega
theorem Rl {bs:List Nat} {i K:Nat} (hi:i<K) (hK:K<=bs.length) :
    Gu (KG (bytesN (bs.take i)++List.replicate (4*(K-i)) 0)) (4*i) (KG [bs.getD i 0%256,bs.getD i 0/256%256,bs.getD i 0/65536%256,bs.getD i 0/16777216%256])=KG (bytesN (bs.take (i+1))++List.replicate (4*(K-(i+1))) 0):=by
  have hib:i<bs.length:=by omega
  have e1:bs.take (i+1)=bs.take i++[bs.getD i 0]:=by rw [List.take_add_one];simp [hib]
  have hl:(bytesN (bs.take i)).length=4*i:=by rw [CK,List.length_take];omega
  have e2:List.replicate (4*(K-i)) 0=List.replicate 4 0++List.replicate (4*(K-(i+1))) 0:=by rw [List.replicate_append_replicate];congr 1;omega
  have e3:bytesN [bs.getD i 0]=[bs.getD i 0%256,bs.getD i 0/256%256,bs.getD i 0/65536%256,bs.getD i 0/16777216%256]:=by simp [bytesN]
  rw [e1,Mj,e3,e2]
  unfold Gu KG
  simp only [List.map_append]
  rw [List.take_append_of_le_length (by simp [hl]),List.take_of_length_le (by simp [hl])]
  rw [show 4*i+(List.map (λx=>Value.int IntKind.u8 (x:Nat)) [bs.getD i 0%256,bs.getD i 0/256%256,bs.getD i 0/65536%256,bs.getD i 0/16777216%256]).length=4*i+4 from rfl]
  rw [List.drop_append,List.drop_of_length_le (by simp [hl])]
  simp [hl]
theorem U6 {os ws:List Nat} {n i:Nat} (hl:os.length=n) (hn:ws.length=n) (hi:¬i<n) (ht:os.take i=ws.take i):os=ws:=by
  rwa [List.take_of_length_le Z,List.take_of_length_le Z] at ht
end Go.Proofs.YtpolhpjiahbidaaGreatDoor
