import Derived.Laws.MakeOwn
import Derived.Laws.OwnMore
import Derived.Laws.BytesString
import Derived.Laws.BytesArg
import Derived.Laws.CopyRow
import Derived.Laws.Externs
import Derived.Test.YtpolhpjiahbidaaGreatDoorPrt00
namespace Go.Proofs.YtpolhpjiahbidaaGreatDoor
open Go Go.RowKit Go.Proofs.Tryz
open Go.Value renaming slice→qz,bool→qa
set_option linter.unusedVariables false
set_option linter.unusedSimpArgs false
section
def Aq (xs:List Nat):List Value:=xs.map λx=>.int .u32 (x:Nat)
def KB (xs:List Nat):List Value:=xs.map λx=>.int .u8 (x:Nat)
theorem BW (xs:List Nat):(Aq xs).length=xs.length:=by simp [Aq]
theorem IP (xs:List Nat):(KB xs).length=xs.length:=by simp [KB]
theorem BJ {xs:List Nat} {j:Nat} (h:j<xs.length):(Aq xs)[j]?=some (.int .u32 ((xs.getD j 0:Nat):Int)):=by
  simp [Aq,h]
theorem CR {xs:List Nat} {j v:Nat} (h:j<xs.length):Gy (Aq xs) j [.int .u32 (v:Nat)]=Aq (xs.set j v):=by
  unfold Gy Aq
  rw [List.set_eq_take_append_cons_drop,if_pos h]
  simp
theorem Xw (xs:List Nat):∀u∈Aq xs,u.oneCell'=true:=by
  intro u hu
  obtain ⟨x,_,rfl⟩:=List.mem_map.1 hu
  rfl
section
variable {P:Program} {n:Nat} {F:List (Nat×Value)} {w0:BA} {L:List As} {v u:Value} {x y z:Operand} {d:Option Tmp} {t:TypeId} {p:String} {af:Array Edge} {g:Option (Nat×Bool)}
theorem BE.oldCA {w:World} (hW:BE w0 w L) {b off:Nat} {vs:List Value} (hne:some b≠w0.ex) (h:CA w0.w b off vs):CA w b off vs:=λj u hu=>by
  have h1:=h j u hu
  have hlt:=World.block_lt_of_cell? _ _ h1
  rw [<-h1]
  exact World.cell?_of_block (hW.1.block b hlt hne)
theorem CA.at_ {w:World} {b off j:Nat} {vs:List Value} (h:CA w b off vs) (hv:vs[j]?=some v):w.cell? ⟨b,off+j,none⟩=some v:=h j v hv
theorem CA.at0 {w:World} {b j:Nat} {vs:List Value} (h:CA w b 0 vs) (hv:vs[j]?=some v):w.cell? ⟨b,j,none⟩=some v:=by simpa using h j v hv
theorem G5 {tx e:TypeId} {a:Option Addr} {len cap k:Nat} {hi:Operand} {ki:IntKind} {m:Nat} (hx:evF F x=some (.slice a len cap)) (hh:evF F hi=some (.int ki (m:Nat))) (hu:P.underlying tx=some (.slice e)) (hs:∀w,(sizeOf e).run P w=.ok k w) (hm:m<=cap) :
    Ex P n F w0 L ⟨d,.slice tx x none (some hi) none,t,p,af,g⟩ (.slice a m cap):=λA w ha _=>by
  have e1:(if cap=0 then a else a.map λy=>y.add (0*k))=a:=by
    split
    · rfl
    · cases a<;>simp [Addr.add]
  simp only [execOp,ha.ev hx,Instr.sliceAt,run_underlying hu,Instr.slice,Option.map_some,Option.map_none,ha.ev hh,Instr.sliceBounds,Instr.sliceBound,asIntOf,Sem.run_bind,Result.andThen_ok,Sem.run_pure]
  have h1:(0:Int)<=(m:Int)/\(m:Int)<=(cap:Int):=⟨Z,Z⟩
  simp [h1.2,hs]
  cases a<;>simp [Addr.add]
theorem Ns {tx e:TypeId} {b off r len cap k:Nat} {lo hi:Operand} {ki kj:IntKind} {i m:Nat} (hx:evF F x=some (.slice (some ⟨b,off,none⟩) len cap)) (hl:evF F lo=some (.int ki (i:Nat))) (hh:evF F hi=some (.int kj (m:Nat))) (hu:P.underlying tx=some (.slice e)) (hs:∀w,(sizeOf e).run P w=.ok k w)
    (h1:i<=m) (hm:m<=cap) (hi':i<cap) (hr:off+i*k=r):Ex P n F w0 L ⟨d,.slice tx x (some lo) (some hi) none,t,p,af,g⟩ (.slice (some ⟨b,r,none⟩) (m-i) (cap-i)):=λA w ha _=>by
  subst hr
  simp only [execOp,ha.ev hx,Instr.sliceAt,run_underlying hu,Instr.slice,Option.map_some,Option.map_none,ha.ev hl,ha.ev hh,Instr.sliceBounds,Instr.sliceBound,asIntOf,Sem.run_bind,Result.andThen_ok,Sem.run_pure]
  have e1:(0:Int)<=(m:Int)/\(m:Int)<=(cap:Int):=⟨Z,Z⟩
  have e3:¬cap=i:=by omega
  simp [e1.2,hs,e3,Addr.add_lit]
  intro h;omega
theorem Da {m c:Nat} {ki kj:IntKind} (hx:evF F x=some (.int ki (m:Nat))) (hy:evF F y=some (.int kj (c:Nat))) (hmc:m<=c) (hc:c<=35184372088832) :
    ∀a w,C8 n a F->BE w0 w L->(execOp a.eval ⟨d,.makeSlice 255 x y,t,p,af,g⟩).run prog w=.ok (.value (.slice (some ⟨w.heap.size,0,none⟩) m c)) (w.alloc (.cells (Aq (List.replicate c 0)).toArray 92)):=λa w ha _=>by
  have h1:=run_make (P:=prog) w 255 92 Tryz.t92 (.int .u32 0) underlying255 jV rfl ki kj (m:Nat) (c:Nat) Z Z (by show (4:Int)*(c:Int)<=_;omega) Z
  have e1:madeCells (Value.int .u32 0).cells ((c:Int).toNat*Tryz.t92.size)=(Aq (List.replicate c 0)).toArray:=by
    apply Array.toList_inj.1
    show (madeCells #[Value.int .u32 0] ((c:Int).toNat*1)).toList=_
    rw [toList_madeCells_one]
    simp [Aq]
  rw [e1] at h1
  simp only [execOp,ha.ev hx,ha.ev hy,Sem.run_bind,h1,Result.andThen_ok,Sem.run_pure,Int.toNat_natCast]
theorem RD {m c:Nat} {ki kj:IntKind} (hx:evF F x=some (.int ki (m:Nat))) (hy:evF F y=some (.int kj (c:Nat))) (hmc:m<=c) (hc:c<=140737488355328) :
    ∀a w,C8 n a F->BE w0 w L->(execOp a.eval ⟨d,.makeSlice 86 x y,t,p,af,g⟩).run prog w=.ok (.value (.slice (some ⟨w.heap.size,0,none⟩) m c)) (w.alloc (.cells (KB (List.replicate c 0)).toArray 5)):=λa w ha _=>by
  have h1:=run_make (P:=prog) w 86 5 Tryz.t5 (.int .u8 0) underlying86 jV rfl ki kj (m:Nat) (c:Nat) Z Z (by show (1:Int)*(c:Int)<=_;omega) Z
  have e1:madeCells (Value.int .u8 0).cells ((c:Int).toNat*Tryz.t5.size)=(KB (List.replicate c 0)).toArray:=by
    apply Array.toList_inj.1
    show (madeCells #[Value.int .u8 0] ((c:Int).toNat*1)).toList=_
    rw [toList_madeCells_one]
    simp [KB]
  rw [e1] at h1
  simp only [execOp,ha.ev hx,ha.ev hy,Sem.run_bind,h1,Result.andThen_ok,Sem.run_pure,Int.toNat_natCast]
theorem BH {P:Program} {T e:TypeId} {len k:Nat} {z:Value} {parts:Array (Nat×Operand)} {pv:List (Nat×Value)} {cs:List Value} (hu:P.underlying T=some (.slice e)) (hs:∀w,(sizeOf e).run P w=.ok k w) (hz:∀w,(zeroValue e).run P w=.ok z w)
    (hlk:len*k≠0) (hsm:len*k<=16777216)
    (hp:parts.toList.map (λq=>(q.1,evF F q.2))=pv.map (λq=>(q.1,some q.2)))
    (hf:Instr.fill (λi=>some (i*k,k)) ((Array.range (len*k)).map (z.cells[·%z.cells.size]!)) pv=some cs.toArray) :
    ∀a w,C8 n a F->BE w0 w L->(execOp a.eval ⟨d,.buildSlice T len parts,t,p,af,g⟩).run P w=.ok (.value (.slice (some ⟨w.heap.size,0,none⟩) len len)) (w.alloc (.cells cs.toArray e)):=λA w ha _=>by
  have key:∀(l:List (Nat×Operand)) (r:List (Nat×Value)),l.map (λq=>(q.1,evF F q.2))=r.map (λq=>(q.1,some q.2))->l.map (λq=>(q.1,A.eval q.2))=r:=by
    intro l
    induction l with
    | nil=>intro r h;cases r<;>simp_all
    | cons o l ih =>
      intro r h
      cases r with
      | nil=>simp at h
      | cons q r =>
        simp only [List.map_cons,List.cons.injEq,Prod.mk.injEq] at h
        rw [List.map_cons,ha.ev h.1.2,ih r h.2,h.1.1]
  have e1:(parts.map λq=>(q.1,A.eval q.2)).toList=pv:=by rw [Array.toList_map];exact key _ _ hp
  have e2:(parts.map λ(i,x)=>(i,A.eval x)).toList=pv:=e1
  have hn:¬(len*k>2^24):=by omega
  simp only [execOp,Instr.buildSlice,run_underlying hu,hs,Sem.run_bind,Result.andThen_ok,if_neg hn,if_neg hlk,Sem.run_pure,hz,Sem.run_ite]
  rw [e2,hf]
  simp [newRow]
theorem AQ.append_u8 {ops:Array Oper} {rest:List Oper} {Q:Exit->Act->World->Prop} {L':List As} {i j b b' m c k c' dd:Nat} {cs ns cs':List Value} {o:Oper} (ho:o=⟨some dd,.call { callee:=.builtin .append,args:=#[x,y],argTypes:=#[86,86] },t,p,af,g⟩) (hw:Wt ops n F o)
    (hx:evF F x=some (.slice (jk b) m c)) (hy:evF F y=some (.slice (some ⟨b',0,none⟩) k c')) (hi:L[i]?=some (AU b 5 cs)) (hj:L[j]?=some (AU b' 5 ns)) (hk:ns.length=k) (h1:(ns.all λu=>u.oneCell')=true) (hroom:m+k<=c) (hfit:m+k<=cs.length)
    (hcs:Gy cs m ns=cs') (hL:L.set i (AU b 5 cs')=L') (hd:dd<n) (next:AQ prog ops rest Q n ((dd,.slice (jk b) (m+k) c)::F) w0 L'):AQ prog ops (o::rest) Q n F w0 L:=λa w ha hW=>by
  subst ho;subst hcs;subst hL
  unfold wpList
  rw [if_pos (hw a ha)]
  left
  have hca:=Ea (off:=0) (k:=ns.length) (hW.get hj)
  have hns:(ns.drop 0).take ns.length=ns:=by simp
  rw [hns] at hca
  have hr:=run_append_room (P:=prog) w 86 t 5 Tryz.t5 underlying86 jV b m c cs.toArray (hW.get hi) ⟨b',0,none⟩ k c' ns (by show _=k*1;omega) (λq u hu=>by rw [Addr.add_lit];exact hca q u hu) (λu hu=>List.all_eq_true.1 h1 u hu) hroom (by show m*1+ns.length<=cs.toArray.size;simp;omega)
  have hz:m*Tryz.t5.size=m:=Nat.mul_one m
  rw [hz] at hr
  unfold Oper.wp
  have he:(execOp a.eval ⟨some dd,.call { callee:=.builtin .append,args:=#[x,y],argTypes:=#[86,86] },t,p,af,g⟩).run prog w=.ok (.value (.slice (jk b) (m+k) c)) (w.setRow b (Gy cs m ns).toArray):=by
    simp only [execOp,resolve,invoke,builtin,Sem.run_bind,Sem.run_pure,Result.andThen_ok,List.map_toArray,List.map_cons,List.map_nil,ha.ev hx,ha.ev hy,hr,Gy]
  rw [he,Oper.upon_value]
  have hg:=hW.get hi
  exact next _ _ (ha.put hd) (hW.turn hi O O ⟨⟨rfl,rfl,rfl,by simp,λq _ hq=>setRow_other w b q _ (λe=>hq (by simp [e]))⟩,Nat.le_refl _⟩ ⟨_,setRow_heap w b cs.toArray _ 5 _ hg,rfl⟩)
def Df (xs:List Nat):ByteArray:=⟨(xs.map λx=>UInt8.ofNat x).toArray⟩
theorem Jw {i b m c:Nat} {cs:List Value} {ns:List Nat} (hx:evF F x=some (.slice (jk b) m c)) (hi:L[i]?=some (AU b 5 cs)) (hcs:cs.take m=KB ns) (hm:ns.length=m) :
    Ex prog n F w0 L ⟨d,.convert 86 9 x,t,p,af,g⟩ (.string (Df ns)):=λa w ha hW=>by
  have hca:=Ea (off:=0) (k:=m) (hW.get hi)
  rw [List.drop_zero,hcs] at hca
  have h2:=run_loadCells_list (P:=prog) w ⟨b,0,none⟩ (KB ns) (λq u hu=>by rw [Addr.add_lit];exact hca q u hu)
  rw [IP,hm] at h2
  have h3:(KB ns)=(ns.map λx=>((x:Nat):Int)).map (Value.int .u8):=by simp [KB]
  rw [h3] at h2
  have h4:=run_bytesToString w ⟨b,0,none⟩ m c _ h2
  rw [foldl_push_bytes] at h4
  simp only [execOp,ha.ev hx,Sem.run_bind,run_convert_bytes_string w 86 9 5 _ _ _ underlying86 underlying5 underlying9,h4,Result.andThen_ok,Sem.run_pure]
  congr 2
  simp [Df,ByteArray.empty,ByteArray.emptyWithCapacity]
  rfl
end
end
section
section
variable {P:Program} {ops:Array Oper} {l rest:List Oper} {Q:Exit->Act->World->Prop} {n:Nat} {F F' FM:List (Nat×Value)} {w0:BA} {L L' LM:List As} {o:Oper} {v u:Value} {c x y:Code}
theorem L9 {o:Oper} {a:Act} {w:World} {K K':Act->World->Prop} {Q':Exit->Act->World->Prop} (h:∀a w,K a w->K' a w) (hq:∀e a w,e≠.normal->¬Q e a w)
    (hh:o.wp P a w K Q):o.wp P a w K' Q':=by
  unfold Oper.wp at *
  generalize (execOp a.eval o).run P w=r at *
  cases r with
  | ok n w' =>
    cases n<;>simp only [Oper.upon] at hh ⊢ <;>
      first
        | exact h _ _ hh
        | exact Calls.mono hh (λe w'' he=>by cases e<;>first|exact h _ _ he|exact absurd he (hq _ _ _ jX)|exact (match he with|⟨_,_,hl⟩=>absurd hl (hq _ _ _ jX)))
        | exact Rows.mono hh (λ_ _ he=>h _ _ he)
  | halt x w'=>cases x<;>simp only [Oper.upon] at hh ⊢<;>exact absurd hh (hq _ _ _ jX)
theorem zg (m:Nat) (h1:AQ P ops (l.take m) (λe a w=>e=.normal/\C8 n a FM/\BE w0 w LM) n F w0 L) (h2:AQ P ops (l.drop m) Q n FM w0 LM):AQ P ops l Q n F w0 L:=λa w ha hW=>by
  have key:∀(m:Nat) (l:List Oper) (a:Act) (w:World),wpList P ops (λe a w=>e=.normal/\C8 n a FM/\BE w0 w LM) (l.take m) a w->(∀a w,C8 n a FM->BE w0 w LM->wpList P ops Q (l.drop m) a w)->wpList P ops Q l a w:=by
    intro m
    induction m with
    | zero=>intro l a w h h2;exact h2 a w h.2.1 h.2.2
    | succ m ih =>
      intro l a w h h2
      cases l with
      | nil=>exact h2 a w h.2.1 h.2.2
      | cons o l =>
        simp only [List.take_succ_cons] at h
        unfold wpList at h ⊢
        split at h
        · rename_i hg
          rw [if_pos hg]
          rcases h with h|⟨_,_,_,hl,_⟩
          · exact .inl (L9 (λa w hk=>ih l a w hk h2) (λe a w he hq=>he hq.1) h)
          · cases hl
        · rename_i hg
          rw [if_neg hg]
          exact ih l _ w h h2
  exact key m l a w (h1 a w ha hW) h2
theorem zS (hs:CM FM F) (hl:LM.Sublist L):OkQ (λe a w=>e=.normal/\C8 n a FM/\BE w0 w LM) .normal n F w0 L:=λ_ _ ha hw=>⟨rfl,ha.sub hs,hw.weak hl⟩
theorem C8.retell {a:Act} (h:C8 n a F) {k:Nat} (hk:F.lookup k=some v) (hv:v=u):C8 n a ((k,u)::F):=by
  subst hv
  refine ⟨h.1,h.2.1,λj x hj=>?_⟩
  simp only [List.lookup_cons] at hj
  split at hj
  · rename_i e
    injection hj with hj
    subst hj
    have:j=k:=by simpa using e
    subst this
    exact h.2.2 j _ hk
  · exact h.2.2 j x hj
theorem zK {k:Nat} (hk:F.lookup k=some v) (hv:v=u) (next:AQ P ops rest Q n ((k,u)::F) w0 L):AQ P ops rest Q n F w0 L:=λa w ha hW=>next a w (ha.retell hk hv) hW
theorem yj {e:Exit} {k:Nat} (hk:F.lookup k=some v) (hv:v=u) (next:OkQ Q e n ((k,u)::F) w0 L):OkQ Q e n F w0 L:=λa w ha hW=>next a w (ha.retell hk hv) hW
theorem yT {k:Nat} (hk:F.lookup k=some v) (hv:v=u) (next:OkC P c Q n ((k,u)::F) w0 L):OkC P c Q n F w0 L:=λa w ha hW=>next a w (ha.retell hk hv) hW
theorem xG {e:Exit} (h:L=L') (next:OkQ Q e n F w0 L'):OkQ Q e n F w0 L:=h▸next
theorem zn {d:Nat} {T:TypeId} {cs:List Value} {V:Nat->Value} (hw:Wt ops n F o)
    (he:∀a w,C8 n a F->BE w0 w L->(execOp a.eval o).run P w=.ok (.value (V w.heap.size)) (w.alloc (.cells cs.toArray T)))
    (ho:o.dst=some d) (hd:d<n) (next:∀b,AQ P ops rest Q n ((d,V b)::F) w0 (AU b T cs::L)):AQ P ops (o::rest) Q n F w0 L:=λa w ha hW=>by
  unfold wpList
  rw [if_pos (hw a ha)]
  left
  unfold Oper.wp
  rw [he a w ha hW,Oper.upon_value,ho]
  exact next _ _ _ (ha.put hd) (hW.alloc _ O O)
end
theorem FT {w:World} {b:Nat} {cs:List Value} {T:TypeId} {fr:Nat×Nat} (h:w.heap[b]?=some (.cells cs.toArray T fr)):CA w b 0 cs:=by
  have:=Ea (off:=0) (k:=cs.length) h
  simpa using this
theorem C2 {xs:List Nat} {f:List Nat->List Value} (hf:(f xs).length=xs.length) {j:Nat} (h:j<xs.length):Nat.ble (j+1) (f xs).length=true:=Nat.ble_eq_true_of_le Z
def W32 (xs:List Nat):Prop:=∀x∈xs,x<4294967296
theorem W32.getD {xs:List Nat} (h:W32 xs) (i:Nat):xs.getD i 0<4294967296:=by
  by_cases hi:i<xs.length
  · simp [hi];exact h _ (List.getElem_mem hi)
  · simp [Nat.not_lt.1 hi]
theorem W32.set {xs:List Nat} (h:W32 xs) {v:Nat} (hv:v<4294967296) (i:Nat):W32 (xs.set i v):=λx hx=>by
  rcases List.mem_or_eq_of_mem_set hx with h1|h1
  · exact h x h1
  · omega
theorem W32.take {xs:List Nat} (h:W32 xs) (i:Nat):W32 (xs.take i):=λx hx=>h x (List.mem_of_mem_take hx)
theorem W32.zeros (k:Nat):W32 (List.replicate k 0):=λx hx=>by rw [(List.mem_replicate.1 hx).2];omega
theorem W32.append {xs ys:List Nat} (h:W32 xs) (h':W32 ys):W32 (xs++ys):=λx hx=>by
  rcases List.mem_append.1 hx with h1|h1
  · exact h x h1
  · exact h' x h1
theorem W32.cons {x:Nat} {xs:List Nat} (h:x<4294967296) (h':W32 xs):W32 (x::xs):=λy hy=>by
  rcases xy.1 hy with h1|h1
  · omega
  · exact h' y h1
theorem W32.nil:W32 []:=λ_ h=>by cases h
def val:List Nat->Nat
  | []=>0
  | x::xs=>x+4294967296*val xs
theorem P8 (x:Nat) (xs:List Nat):val (x::xs)=x+4294967296*val xs:=rfl
theorem L4 (xs ys:List Nat):val (xs++ys)=val xs+4294967296^xs.length*val ys:=by
  induction xs with
  | nil=>simp [val]
  | cons x xs ih=>simp only [List.cons_append,val,ih,List.length_cons,Nat.pow_succ];grind
theorem Ej (k:Nat):val (List.replicate k 0)=0:=by
  induction k with
  | zero=>rfl
  | succ k ih=>simp [List.replicate_succ,val,ih]
theorem HT {xs:List Nat} (h:W32 xs):val xs<4294967296^xs.length:=by
  induction xs with
  | nil=>simp [val]
  | cons x xs ih =>
    have h1:=h x jX
    have h2:=ih (λy hy=>h y (by simp [hy]))
    simp only [val,List.length_cons,Nat.pow_succ]
    omega
theorem F3 {xs:List Nat} {i:Nat} (h:i<xs.length) (v:Nat):val (xs.set i v)+xs.getD i 0*4294967296^i=val xs+v*4294967296^i:=by
  induction xs generalizing i with
  | nil=>simp at h
  | cons x xs ih =>
    cases i with
    | zero=>simp [val];omega
    | succ i =>
      have:=ih (i:=i) (by simpa using h)
      simp only [List.set_cons_succ,val,List.getD_cons_succ,Nat.pow_succ]
      grind
theorem Bg (xs:List Nat) (i:Nat):val (xs.take (i+1))=val (xs.take i)+xs.getD i 0*4294967296^i:=by
  induction xs generalizing i with
  | nil=>simp [val]
  | cons x xs ih =>
    cases i with
    | zero=>simp [val]
    | succ i =>
      have:=ih i
      simp only [List.take_succ_cons,val,List.getD_cons_succ,Nat.pow_succ] at this ⊢
      rw [this]
      grind
theorem FQ (xs:List Nat) (i:Nat) (h:i<=xs.length):val xs=val (xs.take i)+4294967296^i*val (xs.drop i):=by
  have:=L4 (xs.take i) (xs.drop i)
  rwa [List.take_append_drop,List.length_take,Nat.min_eq_left h] at this
theorem P_ (xs:List Nat) (i:Nat):val (xs.take i)<=val xs:=by
  by_cases h:i<=xs.length
  · have:=FQ xs i h;omega
  · rw [List.take_of_length_le Z];exact Nat.le_refl _
theorem P9 (xs:List Nat) (i:Nat):xs.getD i 0*4294967296^i<=val xs:=by
  have h1:=Bg xs i
  have h2:=P_ xs (i+1)
  omega
theorem Gs {xs:List Nat} {i m:Nat} (h:val xs<4294967296^m) (hm:m<=i):xs.getD i 0=0:=by
  have h1:=P9 xs i
  have h2:4294967296^m<=4294967296^i:=Nat.pow_le_pow_right Z hm
  rcases Nat.eq_zero_or_pos (xs.getD i 0) with h3|h3
  · exact h3
  · have:1*4294967296^i<=xs.getD i 0*4294967296^i:=Nat.mul_le_mul_right _ h3
    omega
theorem L6 {xs:List Nat} {m:Nat} (h:val xs<4294967296^m):val (xs.take m)=val xs:=by
  by_cases hm:m<=xs.length
  · have h1:=FQ xs m hm
    rcases Nat.eq_zero_or_pos (val (xs.drop m)) with h3|h3
    · rw [h3] at h1;omega
    · have:4294967296^m*1<=4294967296^m*val (xs.drop m):=Nat.mul_le_mul_left _ h3
      omega
  · rw [List.take_of_length_le Z]
theorem TP:∀(f v:Nat),v<=f->TO f v=AP v:=by
  intro f
  induction f using Nat.strongRecOn with
  | _ f ih =>
    intro v hv
    cases f with
    | zero =>
      have:v=0:=by omega
      subst this;rfl
    | succ f =>
      unfold AP
      cases v with
      | zero=>simp [TO]
      | succ v =>
        simp only [TO]
        have h1:(v+1)/4294967296<=v:=by omega
        rw [ih f Z _ Z]
        by_cases hvf:v=f
        · subst hvf;rw [ih v Z _ h1]
        · rw [ih v Z _ h1]
theorem Rr:AP 0=[]:=rfl
theorem GV {v:Nat} (h:v≠0):AP v=v%4294967296::AP (v/4294967296):=by
  cases v with
  | zero=>exact absurd rfl h
  | succ v =>
    conv=>lhs;unfold AP TO
    simp only [Nat.add_eq_zero_iff]
    rw [TP v _ Z]
    simp
theorem Co (v:Nat):val (AP v)=v:=by
  induction v using Nat.strongRecOn with
  | _ v ih =>
    by_cases h:v=0
    · subst h;rfl
    · rw [GV h,val,ih _ Z];omega
theorem Bz (v:Nat):W32 (AP v):=by
  induction v using Nat.strongRecOn with
  | _ v ih =>
    by_cases h:v=0
    · subst h;exact W32.nil
    · rw [GV h];exact W32.cons Z (ih _ Z)
def nw (v:Nat):Nat:=(AP v).length
theorem Il:nw 0=0:=rfl
theorem RC {v:Nat} (h:v≠0):nw v=nw (v/4294967296)+1:=by unfold nw;rw [GV h];rfl
theorem CJ {v k:Nat}:nw v<=k↔v<4294967296^k:=by
  induction k generalizing v with
  | zero =>
    by_cases h:v=0
    · subst h;simp [Il]
    · rw [RC h];simp;omega
  | succ k ih =>
    by_cases h:v=0
    · subst h;simp [Il,Nat.pow_pos]
    · rw [RC h,Nat.pow_succ,Nat.add_le_add_iff_right,ih,Nat.div_lt_iff_lt_mul Z]
theorem Bp (v:Nat):v<4294967296^nw v:=CJ.1 (Nat.le_refl _)
theorem Ct {a b:Nat} (h:a<=b):nw a<=nw b:=CJ.2 (Nat.lt_of_le_of_lt h (Bp b))
theorem Wu (a b:Nat):nw (a*b)<=nw a+nw b:=by
  rw [CJ,Nat.pow_add]
  exact Nat.mul_lt_mul'' (Bp a) (Bp b)
theorem bu (a b:Nat):nw (a+b)<=max (nw a) (nw b)+1:=by
  rw [CJ,Nat.pow_succ]
  have h1:a<4294967296^max (nw a) (nw b):=CJ.1 (Nat.le_max_left ..)
  have h2:b<4294967296^max (nw a) (nw b):=CJ.1 (Nat.le_max_right ..)
  omega
theorem Lc {a:Nat} (h:a<18446744073709551616):nw a<=2:=CJ.2 Z
theorem OR {xs:List Nat} (h:W32 xs) (hl:∀x,xs.getLast?=some x->x≠0):AP (val xs)=xs:=by
  induction xs with
  | nil=>rfl
  | cons x xs ih =>
    have hx:=h x jX
    have h0:val (x::xs)≠0:=by
      intro h0
      rw [P8] at h0
      have hv:val xs=0:=by omega
      cases xs with
      | nil=>exact hl x rfl Z
      | cons y ys =>
        have:=ih (λz hz=>h z (by simp [hz])) (λz hz=>hl z (by simpa using hz))
        rw [hv] at this
        cases this
    rw [GV h0,P8]
    have e1:(x+4294967296*val xs)%4294967296=x:=by omega
    have e2:(x+4294967296*val xs)/4294967296=val xs:=by omega
    rw [e1,e2]
    congr 1
    exact ih (λz hz=>h z (by simp [hz])) (λz hz=>hl z (by
      cases xs with
      | nil=>simp at hz
      | cons y ys=>simpa using hz))
end
section
section
variable {P:Program} {Q:Exit->Act->World->Prop} {n:Nat} {F:List (Nat×Value)} {w0:BA} {L:List As} {c x y:Code}
def Tg {α:Sort _} (_:α):Prop:=True
theorem tg {α:Sort _} (a:α):Tg a:=trivial
def eg  (n:Nat) (w0:BA) (J:Prop) (FI:List (Nat×Value)) (LI:List As) (Q:Exit->Act->World->Prop):Exit->Act->World->Prop :=
  Exit.then (λa w=>J/\C8 n a FI/\BE w0 w LI) Q
theorem OkC.join0  (J:Prop) (FI:List (Nat×Value)) (LI:List As) (h1:OkC P x (eg n w0 J FI LI Q) n F w0 L) (h2:J->OkQ Q .normal n FI w0 LI):OkC P x Q n F w0 L:=λa w ha hw=>by
  refine Code.wp_mono (λe a' w' hq=>?_) (h1 a w ha hw)
  cases e<;>first
    | (obtain ⟨h3,h4,h5⟩:=hq;exact h2 h3 a' w' h4 h5)
    | exact hq
theorem yP  {J:Prop} {FI:List (Nat×Value)} {LI:List As}  (hJ:J) (hs:CM FI F) (hl:(LI).Sublist L):OkQ (eg n w0 J FI LI Q) .normal n F w0 L:=λ_ _ ha hw=>⟨hJ,ha.sub hs,hw.weak hl⟩
theorem yy  {J:Prop} {FI:List (Nat×Value)} {LI:List As} (_:Tg J) (_:Tg FI) (_:Tg LI) (h1:OkC P x (eg n w0 J FI LI Q) n F w0 L) (h2:J->OkQ Q .normal n FI w0 LI):OkC P x Q n F w0 L:=OkC.join0 J FI LI h1 h2
theorem yZ  {J:Prop} {FI:List (Nat×Value)} {LI:List As}  (h:OkQ Q (.ret) n F w0 L):OkQ (eg n w0 J FI LI Q) (.ret) n F w0 L:=h
def eh {α:Type} (n:Nat) (w0:BA) (J:α->Prop) (FI:α->List (Nat×Value)) (LI:α->List As) (Q:Exit->Act->World->Prop):Exit->Act->World->Prop :=
  Exit.then (λa w=>∃i',J i'/\C8 n a (FI i')/\BE w0 w (LI i')) Q
theorem OkC.join1 {α:Type} (J:α->Prop) (FI:α->List (Nat×Value)) (LI:α->List As) (h1:OkC P x (eh n w0 J FI LI Q) n F w0 L) (h2:∀i,J i->OkQ Q .normal n (FI i) w0 (LI i)):OkC P x Q n F w0 L:=λa w ha hw=>by
  refine Code.wp_mono (λe a' w' hq=>?_) (h1 a w ha hw)
  cases e<;>first
    | (obtain ⟨i,h3,h4,h5⟩:=hq;exact h2 i h3 a' w' h4 h5)
    | exact hq
theorem zo {α:Type} {J:α->Prop} {FI:α->List (Nat×Value)} {LI:α->List As} (i:α) (hJ:J i) (hs:CM (FI i) F) (hl:(LI i).Sublist L):OkQ (eh n w0 J FI LI Q) .normal n F w0 L:=λ_ _ ha hw=>⟨i,hJ,ha.sub hs,hw.weak hl⟩
theorem yQ {α:Type} {J:α->Prop} {FI:α->List (Nat×Value)} {LI:α->List As} (_:Tg J) (_:Tg FI) (_:Tg LI) (h1:OkC P x (eh n w0 J FI LI Q) n F w0 L) (h2:∀i,J i->OkQ Q .normal n (FI i) w0 (LI i)):OkC P x Q n F w0 L:=OkC.join1 J FI LI h1 h2
theorem yw {α:Type} {J:α->Prop} {FI:α->List (Nat×Value)} {LI:α->List As}  (h:OkQ Q (.ret) n F w0 L):OkQ (eh n w0 J FI LI Q) (.ret) n F w0 L:=h
def U8 {α:Type} (n:Nat) (w0:BA) (J:α->Prop) (FI:α->List (Nat×Value)) (LI:α->List As) (m:α->Nat) (i:α) (Q:Exit->Act->World->Prop):Exit->Act->World->Prop :=
  Exit.then (λa w=>∃i',J i'/\m i'<m i/\C8 n a (FI i')/\BE w0 w (LI i')) Q
theorem OkC.loop1 {α:Type} (J:α->Prop) (FI:α->List (Nat×Value)) (LI:α->List As) (m:α->Nat) (round:∀i,J i->OkC P c (U8 n w0 J FI LI m i Q) n (FI i) w0 (LI i))
    (i:α) (h:J i):OkC P (.loop c) Q n (FI i) w0 (LI i) :=
  yk (σ:=α) (λs=>J s) (λs=>FI s) (λs=>LI s) (λs=>m s) (λs hs a w ha hw=>by
    refine Code.wp_mono (λe a' w' hq=>?_) (round s hs a w ha hw)
    cases e<;>first
      | (obtain ⟨i',h1,h2,h3,h4⟩:=hq;exact ⟨i',h1,h2,h3,h4⟩)
      | exact hq) i h
theorem zw {α:Type} {J:α->Prop} {FI:α->List (Nat×Value)} {LI:α->List As} {m:α->Nat} (_:Tg J) (_:Tg FI) (_:Tg LI) (_:Tg m) (i:α) (h:J i) (hs:CM (FI i) F) (hl:(LI i).Sublist L)
    (round:∀i,J i->OkC P c (U8 n w0 J FI LI m i Q) n (FI i) w0 (LI i)):OkC P (.loop c) Q n F w0 L:=ym hs hl (OkC.loop1 J FI LI m round i h)
theorem zm {α:Type} {J:α->Prop} {FI:α->List (Nat×Value)} {LI:α->List As} {m:α->Nat} {i:α} (i':α) (hJ:J i') (hm:m i'<m i) (hs:CM (FI i') F) (hl:(LI i').Sublist L):OkQ (U8 n w0 J FI LI m i Q) .normal n F w0 L:=λ_ _ ha hw=>⟨i',hJ,hm,ha.sub hs,hw.weak hl⟩
theorem zr {α:Type} {J:α->Prop} {FI:α->List (Nat×Value)} {LI:α->List As} {m:α->Nat} {i:α}  (h:OkQ Q (.ret) n F w0 L):OkQ (U8 n w0 J FI LI m i Q) (.ret) n F w0 L:=h
theorem zh {α:Type} {J:α->Prop} {FI:α->List (Nat×Value)} {LI:α->List As} {m:α->Nat} {i:α} {id:Nat} (h:OkQ Q (.exit id) n F w0 L):OkQ (U8 n w0 J FI LI m i Q) (.exit id) n F w0 L:=h
def fD {α β:Type} (n:Nat) (w0:BA) (J:α->β->Prop) (FI:α->β->List (Nat×Value)) (LI:α->β->List As) (Q:Exit->Act->World->Prop):Exit->Act->World->Prop :=
  Exit.then (λa w=>∃i' j',J i' j'/\C8 n a (FI i' j')/\BE w0 w (LI i' j')) Q
theorem OkC.join2 {α β:Type} (J:α->β->Prop) (FI:α->β->List (Nat×Value)) (LI:α->β->List As) (h1:OkC P x (fD n w0 J FI LI Q) n F w0 L) (h2:∀i j,J i j->OkQ Q .normal n (FI i j) w0 (LI i j)):OkC P x Q n F w0 L:=λa w ha hw=>by
  refine Code.wp_mono (λe a' w' hq=>?_) (h1 a w ha hw)
  cases e<;>first
    | (obtain ⟨i,j,h3,h4,h5⟩:=hq;exact h2 i j h3 a' w' h4 h5)
    | exact hq
theorem yd {α β:Type} {J:α->β->Prop} {FI:α->β->List (Nat×Value)} {LI:α->β->List As} (i:α) (j:β) (hJ:J i j) (hs:CM (FI i j) F) (hl:(LI i j).Sublist L):OkQ (fD n w0 J FI LI Q) .normal n F w0 L:=λ_ _ ha hw=>⟨i,j,hJ,ha.sub hs,hw.weak hl⟩
theorem xI {α β:Type} {J:α->β->Prop} {FI:α->β->List (Nat×Value)} {LI:α->β->List As} (_:Tg J) (_:Tg FI) (_:Tg LI) (h1:OkC P x (fD n w0 J FI LI Q) n F w0 L) (h2:∀i j,J i j->OkQ Q .normal n (FI i j) w0 (LI i j)):OkC P x Q n F w0 L:=OkC.join2 J FI LI h1 h2
def YO {α β:Type} (n:Nat) (w0:BA) (J:α->β->Prop) (FI:α->β->List (Nat×Value)) (LI:α->β->List As) (m:α->β->Nat) (i:α) (j:β) (Q:Exit->Act->World->Prop):Exit->Act->World->Prop :=
  Exit.then (λa w=>∃i' j',J i' j'/\m i' j'<m i j/\C8 n a (FI i' j')/\BE w0 w (LI i' j')) Q
theorem OkC.loop2 {α β:Type} (J:α->β->Prop) (FI:α->β->List (Nat×Value)) (LI:α->β->List As) (m:α->β->Nat) (round:∀i j,J i j->OkC P c (YO n w0 J FI LI m i j Q) n (FI i j) w0 (LI i j))
    (i:α) (j:β) (h:J i j):OkC P (.loop c) Q n (FI i j) w0 (LI i j) :=
  yk (σ:=α×β) (λs=>J s.1 s.2) (λs=>FI s.1 s.2) (λs=>LI s.1 s.2) (λs=>m s.1 s.2) (λs hs a w ha hw=>by
    refine Code.wp_mono (λe a' w' hq=>?_) (round s.1 s.2 hs a w ha hw)
    cases e<;>first
      | (obtain ⟨i',j',h1,h2,h3,h4⟩:=hq;exact ⟨(i',j'),h1,h2,h3,h4⟩)
      | exact hq) (i,j) h
theorem yM {α β:Type} {J:α->β->Prop} {FI:α->β->List (Nat×Value)} {LI:α->β->List As} {m:α->β->Nat} (_:Tg J) (_:Tg FI) (_:Tg LI) (_:Tg m) (i:α) (j:β) (h:J i j) (hs:CM (FI i j) F) (hl:(LI i j).Sublist L)
    (round:∀i j,J i j->OkC P c (YO n w0 J FI LI m i j Q) n (FI i j) w0 (LI i j)):OkC P (.loop c) Q n F w0 L:=ym hs hl (OkC.loop2 J FI LI m round i j h)
theorem z6 {α β:Type} {J:α->β->Prop} {FI:α->β->List (Nat×Value)} {LI:α->β->List As} {m:α->β->Nat} {i:α} {j:β} (i':α) (j':β) (hJ:J i' j') (hm:m i' j'<m i j) (hs:CM (FI i' j') F) (hl:(LI i' j').Sublist L):OkQ (YO n w0 J FI LI m i j Q) .normal n F w0 L:=λ_ _ ha hw=>⟨i',j',hJ,hm,ha.sub hs,hw.weak hl⟩
theorem zp {α β:Type} {J:α->β->Prop} {FI:α->β->List (Nat×Value)} {LI:α->β->List As} {m:α->β->Nat} {i:α} {j:β} {id:Nat} (h:OkQ Q (.exit id) n F w0 L):OkQ (YO n w0 J FI LI m i j Q) (.exit id) n F w0 L:=h
def YP {α β γ:Type} (n:Nat) (w0:BA) (J:α->β->γ->Prop) (FI:α->β->γ->List (Nat×Value)) (LI:α->β->γ->List As) (m:α->β->γ->Nat) (i:α) (j:β) (k:γ) (Q:Exit->Act->World->Prop):Exit->Act->World->Prop :=
  Exit.then (λa w=>∃i' j' k',J i' j' k'/\m i' j' k'<m i j k/\C8 n a (FI i' j' k')/\BE w0 w (LI i' j' k')) Q
theorem OkC.loop3 {α β γ:Type} (J:α->β->γ->Prop) (FI:α->β->γ->List (Nat×Value)) (LI:α->β->γ->List As) (m:α->β->γ->Nat) (round:∀i j k,J i j k->OkC P c (YP n w0 J FI LI m i j k Q) n (FI i j k) w0 (LI i j k))
    (i:α) (j:β) (k:γ) (h:J i j k):OkC P (.loop c) Q n (FI i j k) w0 (LI i j k) :=
  yk (σ:=α×β×γ) (λs=>J s.1 s.2.1 s.2.2) (λs=>FI s.1 s.2.1 s.2.2) (λs=>LI s.1 s.2.1 s.2.2) (λs=>m s.1 s.2.1 s.2.2) (λs hs a w ha hw=>by
    refine Code.wp_mono (λe a' w' hq=>?_) (round s.1 s.2.1 s.2.2 hs a w ha hw)
    cases e<;>first
      | (obtain ⟨i',j',k',h1,h2,h3,h4⟩:=hq;exact ⟨(i',j',k'),h1,h2,h3,h4⟩)
      | exact hq) (i,j,k) h
theorem yW {α β γ:Type} {J:α->β->γ->Prop} {FI:α->β->γ->List (Nat×Value)} {LI:α->β->γ->List As} {m:α->β->γ->Nat} (_:Tg J) (_:Tg FI) (_:Tg LI) (_:Tg m) (i:α) (j:β) (k:γ) (h:J i j k) (hs:CM (FI i j k) F) (hl:(LI i j k).Sublist L)
    (round:∀i j k,J i j k->OkC P c (YP n w0 J FI LI m i j k Q) n (FI i j k) w0 (LI i j k)):OkC P (.loop c) Q n F w0 L:=ym hs hl (OkC.loop3 J FI LI m round i j k h)
theorem yN {α β γ:Type} {J:α->β->γ->Prop} {FI:α->β->γ->List (Nat×Value)} {LI:α->β->γ->List As} {m:α->β->γ->Nat} {i:α} {j:β} {k:γ} (i':α) (j':β) (k':γ) (hJ:J i' j' k') (hm:m i' j' k'<m i j k) (hs:CM (FI i' j' k') F) (hl:(LI i' j' k').Sublist L):OkQ (YP n w0 J FI LI m i j k Q) .normal n F w0 L:=λ_ _ ha hw=>⟨i',j',k',hJ,hm,ha.sub hs,hw.weak hl⟩
theorem yF {α β γ:Type} {J:α->β->γ->Prop} {FI:α->β->γ->List (Nat×Value)} {LI:α->β->γ->List As} {m:α->β->γ->Nat} {i:α} {j:β} {k:γ} {id:Nat} (h:OkQ Q (.exit id) n F w0 L):OkQ (YP n w0 J FI LI m i j k Q) (.exit id) n F w0 L:=h
def YQ {α β γ δ:Type} (n:Nat) (w0:BA) (J:α->β->γ->δ->Prop) (FI:α->β->γ->δ->List (Nat×Value)) (LI:α->β->γ->δ->List As) (m:α->β->γ->δ->Nat) (i:α) (j:β) (k:γ) (l:δ) (Q:Exit->Act->World->Prop):Exit->Act->World->Prop :=
  Exit.then (λa w=>∃i' j' k' l',J i' j' k' l'/\m i' j' k' l'<m i j k l/\C8 n a (FI i' j' k' l')/\BE w0 w (LI i' j' k' l')) Q
theorem OkC.loop4 {α β γ δ:Type} (J:α->β->γ->δ->Prop) (FI:α->β->γ->δ->List (Nat×Value)) (LI:α->β->γ->δ->List As) (m:α->β->γ->δ->Nat) (round:∀i j k l,J i j k l->OkC P c (YQ n w0 J FI LI m i j k l Q) n (FI i j k l) w0 (LI i j k l))
    (i:α) (j:β) (k:γ) (l:δ) (h:J i j k l):OkC P (.loop c) Q n (FI i j k l) w0 (LI i j k l) :=
  yk (σ:=α×β×γ×δ) (λs=>J s.1 s.2.1 s.2.2.1 s.2.2.2) (λs=>FI s.1 s.2.1 s.2.2.1 s.2.2.2) (λs=>LI s.1 s.2.1 s.2.2.1 s.2.2.2) (λs=>m s.1 s.2.1 s.2.2.1 s.2.2.2) (λs hs a w ha hw=>by
    refine Code.wp_mono (λe a' w' hq=>?_) (round s.1 s.2.1 s.2.2.1 s.2.2.2 hs a w ha hw)
    cases e<;>first
      | (obtain ⟨i',j',k',l',h1,h2,h3,h4⟩:=hq;exact ⟨(i',j',k',l'),h1,h2,h3,h4⟩)
      | exact hq) (i,j,k,l) h
theorem yb {α β γ δ:Type} {J:α->β->γ->δ->Prop} {FI:α->β->γ->δ->List (Nat×Value)} {LI:α->β->γ->δ->List As} {m:α->β->γ->δ->Nat} (_:Tg J) (_:Tg FI) (_:Tg LI) (_:Tg m) (i:α) (j:β) (k:γ) (l:δ) (h:J i j k l) (hs:CM (FI i j k l) F) (hl:(LI i j k l).Sublist L)
    (round:∀i j k l,J i j k l->OkC P c (YQ n w0 J FI LI m i j k l Q) n (FI i j k l) w0 (LI i j k l)):OkC P (.loop c) Q n F w0 L:=ym hs hl (OkC.loop4 J FI LI m round i j k l h)
theorem yO {α β γ δ:Type} {J:α->β->γ->δ->Prop} {FI:α->β->γ->δ->List (Nat×Value)} {LI:α->β->γ->δ->List As} {m:α->β->γ->δ->Nat} {i:α} {j:β} {k:γ} {l:δ} (i':α) (j':β) (k':γ) (l':δ) (hJ:J i' j' k' l') (hm:m i' j' k' l'<m i j k l) (hs:CM (FI i' j' k' l') F) (hl:(LI i' j' k' l').Sublist L):OkQ (YQ n w0 J FI LI m i j k l Q) .normal n F w0 L:=λ_ _ ha hw=>⟨i',j',k',l',hJ,hm,ha.sub hs,hw.weak hl⟩
theorem yK {α β γ δ:Type} {J:α->β->γ->δ->Prop} {FI:α->β->γ->δ->List (Nat×Value)} {LI:α->β->γ->δ->List As} {m:α->β->γ->δ->Nat} {i:α} {j:β} {k:γ} {l:δ} {id:Nat} (h:OkQ Q (.exit id) n F w0 L):OkQ (YQ n w0 J FI LI m i j k l Q) (.exit id) n F w0 L:=h
def YR {α β γ δ ε:Type} (n:Nat) (w0:BA) (J:α->β->γ->δ->ε->Prop) (FI:α->β->γ->δ->ε->List (Nat×Value)) (LI:α->β->γ->δ->ε->List As) (m:α->β->γ->δ->ε->Nat) (i:α) (j:β) (k:γ) (l:δ) (o:ε) (Q:Exit->Act->World->Prop):Exit->Act->World->Prop :=
  Exit.then (λa w=>∃i' j' k' l' o',J i' j' k' l' o'/\m i' j' k' l' o'<m i j k l o/\C8 n a (FI i' j' k' l' o')/\BE w0 w (LI i' j' k' l' o')) Q
theorem OkC.loop5 {α β γ δ ε:Type} (J:α->β->γ->δ->ε->Prop) (FI:α->β->γ->δ->ε->List (Nat×Value)) (LI:α->β->γ->δ->ε->List As) (m:α->β->γ->δ->ε->Nat) (round:∀i j k l o,J i j k l o->OkC P c (YR n w0 J FI LI m i j k l o Q) n (FI i j k l o) w0 (LI i j k l o))
    (i:α) (j:β) (k:γ) (l:δ) (o:ε) (h:J i j k l o):OkC P (.loop c) Q n (FI i j k l o) w0 (LI i j k l o) :=
  yk (σ:=α×β×γ×δ×ε) (λs=>J s.1 s.2.1 s.2.2.1 s.2.2.2.1 s.2.2.2.2) (λs=>FI s.1 s.2.1 s.2.2.1 s.2.2.2.1 s.2.2.2.2) (λs=>LI s.1 s.2.1 s.2.2.1 s.2.2.2.1 s.2.2.2.2) (λs=>m s.1 s.2.1 s.2.2.1 s.2.2.2.1 s.2.2.2.2) (λs hs a w ha hw=>by
    refine Code.wp_mono (λe a' w' hq=>?_) (round s.1 s.2.1 s.2.2.1 s.2.2.2.1 s.2.2.2.2 hs a w ha hw)
    cases e<;>first
      | (obtain ⟨i',j',k',l',o',h1,h2,h3,h4⟩:=hq;exact ⟨(i',j',k',l',o'),h1,h2,h3,h4⟩)
      | exact hq) (i,j,k,l,o) h
theorem xB {α β γ δ ε:Type} {J:α->β->γ->δ->ε->Prop} {FI:α->β->γ->δ->ε->List (Nat×Value)} {LI:α->β->γ->δ->ε->List As} {m:α->β->γ->δ->ε->Nat} (_:Tg J) (_:Tg FI) (_:Tg LI) (_:Tg m) (i:α) (j:β) (k:γ) (l:δ) (o:ε) (h:J i j k l o) (hs:CM (FI i j k l o) F) (hl:(LI i j k l o).Sublist L)
    (round:∀i j k l o,J i j k l o->OkC P c (YR n w0 J FI LI m i j k l o Q) n (FI i j k l o) w0 (LI i j k l o)):OkC P (.loop c) Q n F w0 L:=ym hs hl (OkC.loop5 J FI LI m round i j k l o h)
theorem yx {α β γ δ ε:Type} {J:α->β->γ->δ->ε->Prop} {FI:α->β->γ->δ->ε->List (Nat×Value)} {LI:α->β->γ->δ->ε->List As} {m:α->β->γ->δ->ε->Nat} {i:α} {j:β} {k:γ} {l:δ} {o:ε} (i':α) (j':β) (k':γ) (l':δ) (o':ε) (hJ:J i' j' k' l' o') (hm:m i' j' k' l' o'<m i j k l o) (hs:CM (FI i' j' k' l' o') F) (hl:(LI i' j' k' l' o').Sublist L):OkQ (YR n w0 J FI LI m i j k l o Q) .normal n F w0 L:=λ_ _ ha hw=>⟨i',j',k',l',o',hJ,hm,ha.sub hs,hw.weak hl⟩
theorem yX {α β γ δ ε:Type} {J:α->β->γ->δ->ε->Prop} {FI:α->β->γ->δ->ε->List (Nat×Value)} {LI:α->β->γ->δ->ε->List As} {m:α->β->γ->δ->ε->Nat} {i:α} {j:β} {k:γ} {l:δ} {o:ε} {id:Nat} (h:OkQ Q (.exit id) n F w0 L):OkQ (YR n w0 J FI LI m i j k l o Q) (.exit id) n F w0 L:=h
end
end
def EI (bs:List Nat):Nat->Nat
  | 0=>0
  | m+1=>if bs.getD m 0=0 then EI bs m else m+1
theorem Mn {bs:List Nat} {k:Nat} (h:0<k) (h0:bs.getD (k-1) 0=0):EI bs k=EI bs (k-1):=by
  obtain ⟨j,rfl⟩:∃j,k=j+1:=⟨k-1,Z⟩
  simp only [EI];rw [if_pos (by simpa using h0)];simp
theorem Mo {bs:List Nat} {k:Nat} (h:¬(0<k/\bs.getD (k-1) 0=0)):EI bs k=k:=by
  cases k with
  | zero=>rfl
  | succ j=>simp only [EI];rw [if_neg (by simpa using h)]
theorem KF (bs:List Nat):∀m,EI bs m<=m
  | 0=>Nat.le_refl _
  | m+1=>by
    simp only [EI]
    split
    · have:=KF bs m;omega
    · exact Nat.le_refl _
theorem Mm (bs:List Nat):∀m,EI bs m≠0->bs.getD (EI bs m-1) 0≠0
  | 0,h=>absurd rfl h
  | m+1,h=>by
    simp only [EI] at h ⊢
    split
    · rename_i h0;rw [if_pos h0] at h;exact Mm bs m h
    · rename_i h0;simpa using h0
theorem L5 (bs:List Nat):∀m,val (bs.take (EI bs m))=val (bs.take m)
  | 0=>rfl
  | m+1=>by
    simp only [EI]
    split
    · rename_i h0;rw [L5 bs m,Bg,h0];omega
    · rfl
theorem Jc {bs:List Nat} (hb:W32 bs) {m:Nat} (hm:m<=bs.length):AP (val (bs.take m))=bs.take (EI bs m):=by
  rw [<-L5]
  refine OR (hb.take _) λx hx=>?_
  have hle:=KF bs m
  have hne:EI bs m≠0:=λh0=>by rw [h0] at hx;simp at hx
  have hl:(bs.take (EI bs m)).getLast?=some (bs.getD (EI bs m-1) 0):=by
    rw [List.getLast?_eq_getElem?]
    have h1:(bs.take (EI bs m)).length-1=EI bs m-1:=by simp;omega
    rw [h1,List.getElem?_take,if_pos Z]
    have h2:EI bs m-1<bs.length:=by omega
    simp [h2]
  rw [hl] at hx
  injection hx with hx
  rw [<-hx]
  exact Mm bs m hne
theorem RA {bs:List Nat} (hb:W32 bs) {m:Nat} (hm:m<=bs.length):nw (val (bs.take m))=EI bs m:=by
  unfold nw
  rw [Jc hb hm,List.length_take]
  have:=KF bs m
  omega
theorem IM {v:Nat} (h:v<18446744073709551616):Lo v=true:=by simp [Lo,h]
theorem Js {v:Nat} (h:¬v<18446744073709551616):Lo v=false:=by simp [Lo,h]
theorem D9 {v:Nat} (h:v<18446744073709551616):AT v=[.int .u64 (v:Nat),.string ByteArray.empty]:=by
  simp [AT,B7,Bs,IM h]
theorem Bm {v:Nat} (h:v<18446744073709551616):B7 v=v:=by simp [B7,IM h]
def bytesN (xs:List Nat):List Nat:=xs.flatMap λx=>[x%256,x/256%256,x/65536%256,x/16777216%256]
theorem CC (xs:List Nat):(bytesN xs).length=4*xs.length:=by
  induction xs with
  | nil=>rfl
  | cons x xs ih=>simp [bytesN] at ih ⊢;omega
theorem MC (xs ys:List Nat):bytesN (xs++ys)=bytesN xs++bytesN ys:=by simp [bytesN]
theorem Mi (xs:List Nat):Df (bytesN xs)=⟨(xs.flatMap VT).toArray⟩:=by
  unfold Df
  congr 2
  induction xs with
  | nil=>rfl
  | cons x xs ih =>
    simp only [bytesN,List.flatMap_cons,List.map_append] at ih ⊢
    rw [ih]
    rfl
theorem Wj {v:Nat} (h:¬v<18446744073709551616):AT v=[.int .u64 (0:Nat),.string (Df (bytesN (AP v)))]:=by
  simp [AT,B7,Bs,Js h,Mi]
theorem H5 {v:Nat} (h:v<18446744073709551616):Bs v=ByteArray.empty:=by simp [Bs,IM h]
theorem FR {v:Nat} (h:¬v<18446744073709551616):Bs v=Df (bytesN (AP v)):=by simp [Bs,Js h,Mi]
theorem Lq (xs:List Nat):(Df xs).size=xs.length:=by simp [Df,ByteArray.size]
theorem US {xs:List Nat} {j:Nat} (h:j<xs.length):(Df xs)[j]?=some (UInt8.ofNat (xs.getD j 0)):=by
  have h1:j<(Df xs).size:=by rw [Lq];exact h
  rw [getElem?_pos (Df xs) j h1]
  congr 1
  show (Df xs).data[j]'h1=_
  simp [Df,h]
theorem GX:∀(xs:List Nat) (i k:Nat),i<xs.length->k<4->(bytesN xs).getD (4*i+k) 0=xs.getD i 0/256^k%256
  | [],i,k,h,_=>by simp at h
  | x::xs,0,k,_,hk=>by
    rcases k with _|_|_|_|k
    · simp [bytesN]
    · simp [bytesN]
    · simp [bytesN]
    · simp [bytesN]
    · omega
  | x::xs,i+1,k,h,hk=>by
    have ih:=GX xs i k (by simpa using h) hk
    have e:4*(i+1)+k=(4*i+k)+4:=by omega
    rw [e,List.getD_cons_succ,<-ih]
    simp [bytesN]
theorem Q_ {v:Nat} (h:¬v<18446744073709551616):2<nw v:=by
  rcases Nat.lt_or_ge 2 (nw v) with h1|h1
  · exact h1
  · exact absurd (CJ.1 h1) Z
theorem Cd {v:Nat}:((Bs v).toList == (ByteArray.mk #[]).toList)=decide (v<18446744073709551616):=by
  by_cases h:v<18446744073709551616
  · rw [H5 h];simp [h]
  · have h1:=Q_ h
    rw [ByteArray.toList_eq,ByteArray.toList_eq]
    have h2:(Bs v).data.toList≠[]:=λe=>by
      have h3:(Bs v).data.toList.length=0:=by rw [e];rfl
      rw [FR h] at h3
      simp [Df,CC] at h3
      unfold nw at h1
      omega
    have h4:((Bs v).data.toList == [])=false:=by
      cases hl:(Bs v).data.toList with
      | nil=>exact absurd hl h2
      | cons=>rfl
    rw [show (ByteArray.mk #[]).data.toList=[] from rfl,h4]
    simp [h]
def Ay (v:Nat):List Nat:=if v<18446744073709551616 then [v%4294967296,v/4294967296] else AP v
theorem CO (v:Nat):W32 (Ay v):=by
  unfold Ay
  split
  · exact W32.cons Z (W32.cons Z W32.nil)
  · exact Bz v
theorem ZP {v:Nat} (h:v<18446744073709551616):W32 [v%4294967296,v/4294967296]:=W32.cons Z (W32.cons Z W32.nil)
theorem CK (v:Nat):nw v<=(Ay v).length:=by
  unfold Ay
  split
  · rename_i h;exact Lc h
  · exact Nat.le_refl _
theorem Im (v:Nat):(Ay v).take (nw v)=AP v:=by
  unfold Ay
  split
  · rename_i h
    have e:v=val ([v%4294967296,v/4294967296].take 2):=by simp [val];omega
    have hw:W32 [v%4294967296,v/4294967296]:=W32.cons Z (W32.cons Z W32.nil)
    have h1:=Jc hw (m:=2) jX
    have h2:=RA hw (m:=2) jX
    rw [<-e] at h1 h2
    rw [h2,<-h1]
  · exact List.take_of_length_le (Nat.le_refl _)
theorem Sy (v:Nat):val (Ay v)=v:=by
  unfold Ay
  split
  · simp [val];omega
  · exact Co v
theorem IF {a b s:Nat} (ha:a<2^s):a ||| b*2^s=a+b*2^s:=by
  rw [Nat.or_comm,Nat.mul_comm,<-Nat.two_pow_add_eq_or_of_lt ha];omega
theorem KX {a b:Nat} (ha:a<18446744073709551616) (hb:b<18446744073709551616) {c:Nat} (hc:a ||| b=c):IntKind.u64.wrap ((BitVec.ofInt IntKind.u64.bits (a:Int) ||| BitVec.ofInt IntKind.u64.bits (b:Int)).toNat:Int)=(c:Int):=by
  have e:(BitVec.ofInt IntKind.u64.bits (a:Int) ||| BitVec.ofInt IntKind.u64.bits (b:Int)).toNat=a ||| b:=by
    show (BitVec.ofInt 64 (a:Int) ||| BitVec.ofInt 64 (b:Int)).toNat=_
    rw [BitVec.toNat_or,BitVec.ofInt_natCast,BitVec.ofInt_natCast,BitVec.toNat_ofNat,BitVec.toNat_ofNat,Nat.mod_eq_of_lt (show a<2^64 by omega),Nat.mod_eq_of_lt (show b<2^64 by omega)]
  rw [e,hc]
  have h2:a ||| b<2^64:=Nat.or_lt_two_pow ha hb
  exact Di Z Z
theorem KW {a b:Nat} (ha:a<4294967296) (hb:b<4294967296) {c:Nat} (hc:a ||| b=c):IntKind.u32.wrap ((BitVec.ofInt IntKind.u32.bits (a:Int) ||| BitVec.ofInt IntKind.u32.bits (b:Int)).toNat:Int)=(c:Int):=by
  have e:(BitVec.ofInt IntKind.u32.bits (a:Int) ||| BitVec.ofInt IntKind.u32.bits (b:Int)).toNat=a ||| b:=by
    show (BitVec.ofInt 32 (a:Int) ||| BitVec.ofInt 32 (b:Int)).toNat=_
    rw [BitVec.toNat_or,BitVec.ofInt_natCast,BitVec.ofInt_natCast,BitVec.toNat_ofNat,BitVec.toNat_ofNat,Nat.mod_eq_of_lt (show a<2^32 by omega),Nat.mod_eq_of_lt (show b<2^32 by omega)]
  rw [e,hc]
  have h2:a ||| b<2^32:=Nat.or_lt_two_pow ha hb
  exact HV Z Z
theorem HO {a s:Nat} (h:a*2^s<18446744073709551616):IntKind.u64.wrap ((a:Int)*2^s)=((a*2^s:Nat):Int):=by
  have e:(a:Int)*2^s=((a*2^s:Nat):Int):=by simp
  rw [e,Di Z Z]
theorem XY {a s:Nat} (h:a*2^s<4294967296):IntKind.u32.wrap ((a:Int)*2^s)=((a*2^s:Nat):Int):=by
  have e:(a:Int)*2^s=((a*2^s:Nat):Int):=by simp
  rw [e,HV Z Z]
theorem NI {a s:Nat}:IntKind.u32.wrap ((a:Int)*2^s)=((a*2^s%4294967296:Nat):Int):=by
  have e:(a:Int)*2^s=((a*2^s:Nat):Int):=by simp
  rw [e];exact Ez
theorem W4 (k:Nat):(256:Nat)^k=2^(8*k):=by rw [show (256:Nat)=2^8 from rfl,<-Nat.pow_mul]
theorem R5 {w k:Nat} (hk:k<4):w/256^k%256*2^(8*k)<4294967296:=by
  rcases k with _|_|_|_|k
  · simp;omega
  · simp;omega
  · simp;omega
  · simp;omega
  · omega
theorem TH {w k x:Nat} (hx:x=w%256^k):x ||| w/256^k%256*2^(8*k)=w%256^(k+1):=by
  subst hx
  rw [IF (by rw [<-W4];exact Nat.mod_lt _ (Nat.pow_pos Z)),<-W4,Nat.mod_pow_succ,Nat.mul_comm]
theorem Rq {os ws xs:List Nat} {n i:Nat} (hl:os.length=n) (hn:ws.length=n) (hi:i<n) (ht:os.take i=ws.take i) (h0:∀j,i<=j->os.getD j 0=0) (hx:xs=os.set i (ws.getD i 0)) :
    xs.length=n/\xs.take (i+1)=ws.take (i+1)/\∀j,i+1<=j->xs.getD j 0=0:=by
  subst hx
  refine ⟨by simp [hl],?_,λj hj=>?_⟩
  · have e1:i<os.length:=by omega
    have e2:i<ws.length:=by omega
    rw [List.take_add_one,List.take_add_one,List.take_set_of_le (Nat.le_refl _),ht]
    simp [e1,e2]
  · have:=h0 j Z
    rw [List.getD_eq_getElem?_getD,List.getElem?_set_ne Z,<-List.getD_eq_getElem?_getD]
    exact this
theorem XV {os:List Nat} {i:Nat} (h:os.getD i 0=0):os=os.set i 0:=by
  apply List.ext_getElem jX
  intro j h1 h2
  by_cases e:i=j
  · subst e;simpa [h1] using h
  · simp [e]
theorem aU (k:Nat):(4294967296:Nat)^k=2^(32*k):=by rw [show (4294967296:Nat)=2^32 from rfl,<-Nat.pow_mul]
theorem XX {x i:Nat} (hx:x<4294967296) (hi:i<2):x*2^(32*i)<18446744073709551616:=by
  rcases i with _|_|i
  · simp;omega
  · simp;omega
  · omega
theorem UO {n i:Nat} (h:n<4294967296^i) (hi:i<2):n<18446744073709551616:=by
  rcases i with _|_|i
  · simp at h;omega
  · simp at h;omega
  · omega
theorem QX {bs:List Nat} {i K:Nat} (hi:i<K) (hK:K<=bs.length) :
    Gy (KB (bytesN (bs.take i)++List.replicate (4*(K-i)) 0)) (4*i) (KB [bs.getD i 0%256,bs.getD i 0/256%256,bs.getD i 0/65536%256,bs.getD i 0/16777216%256])=KB (bytesN (bs.take (i+1))++List.replicate (4*(K-(i+1))) 0):=by
  have hib:i<bs.length:=by omega
  have e1:bs.take (i+1)=bs.take i++[bs.getD i 0]:=by rw [List.take_add_one];simp [hib]
  have hl:(bytesN (bs.take i)).length=4*i:=by rw [CC,List.length_take];omega
  have e2:List.replicate (4*(K-i)) 0=List.replicate 4 0++List.replicate (4*(K-(i+1))) 0:=by rw [List.replicate_append_replicate];congr 1;omega
  have e3:bytesN [bs.getD i 0]=[bs.getD i 0%256,bs.getD i 0/256%256,bs.getD i 0/65536%256,bs.getD i 0/16777216%256]:=by simp [bytesN]
  rw [e1,MC,e3,e2]
  unfold Gy KB
  simp only [List.map_append]
  rw [List.take_append_of_le_length (by simp [hl]),List.take_of_length_le (by simp [hl])]
  rw [show 4*i+(List.map (λx=>Value.int IntKind.u8 (x:Nat)) [bs.getD i 0%256,bs.getD i 0/256%256,bs.getD i 0/65536%256,bs.getD i 0/16777216%256]).length=4*i+4 from rfl]
  rw [List.drop_append,List.drop_of_length_le (by simp [hl])]
  simp [hl]
theorem XN {os ws:List Nat} {n i:Nat} (hl:os.length=n) (hn:ws.length=n) (hi:¬i<n) (ht:os.take i=ws.take i):os=ws:=by
  rwa [List.take_of_length_le Z,List.take_of_length_le Z] at ht
section
theorem Wc {a:Nat}:IntKind.u64.wrap (a:Int)=((a%18446744073709551616:Nat):Int):=by
  simp only [IntKind.wrap,IntKind.bits,IntKind.signed];simp
theorem We {a b:Nat}:IntKind.u64.wrap ((a:Int)*(b:Int))=((a*b%18446744073709551616:Nat):Int):=by
  rw [<-Int.natCast_mul];exact Wc
theorem VG {a b:Nat}:IntKind.u32.wrap ((a:Int)+(b:Int))=(((a+b)%4294967296:Nat):Int):=by
  rw [<-Int.natCast_add];exact Ez
theorem Pu {a b:Nat} (h:b<=4294967296):IntKind.u32.wrap ((a:Int)-(b:Int))=(((a+(4294967296-b))%4294967296:Nat):Int):=by
  simp only [IntKind.wrap,IntKind.bits,IntKind.signed];simp;omega
theorem NQ {a:Nat} (h:a<18446744073709551616):(BitVec.ofInt IntKind.u64.bits (a:Int)).toNat=a:=by
  show (BitVec.ofInt 64 (a:Int)).toNat=_
  rw [BitVec.ofInt_natCast,BitVec.toNat_ofNat,Nat.mod_eq_of_lt Z]
theorem Hs {a:Nat} (h:a<4294967296):(BitVec.ofInt IntKind.u32.bits (a:Int)).toNat=a:=by
  show (BitVec.ofInt 32 (a:Int)).toNat=_
  rw [BitVec.ofInt_natCast,BitVec.toNat_ofNat,Nat.mod_eq_of_lt Z]
theorem VL {a b:Nat} (ha:a<18446744073709551616) (hb:b<18446744073709551616):IntKind.u64.wrap ((BitVec.ofInt IntKind.u64.bits (a:Int) &&& BitVec.ofInt IntKind.u64.bits (b:Int)).toNat:Int)=((a &&& b:Nat):Int):=by
  rw [BitVec.toNat_and,NQ ha,NQ hb]
  have:a &&& b<=a:=Nat.and_le_left
  exact Di Z Z
theorem JK {a:Nat} (ha:a<18446744073709551616):IntKind.u64.wrap ((BitVec.ofInt IntKind.u64.bits (a:Int) &&& BitVec.ofInt IntKind.u64.bits ((4294967295:Nat):Int)).toNat:Int)=((a%4294967296:Nat):Int):=by
  rw [VL ha Z,show (4294967295:Nat)=2^32-1 from rfl,Nat.and_two_pow_sub_one_eq_mod]
theorem Ok {a b:Nat} (ha:a<4294967296) (hb:b<4294967296):IntKind.u32.wrap ((BitVec.ofInt IntKind.u32.bits (a:Int) &&& BitVec.ofInt IntKind.u32.bits (b:Int)).toNat:Int)=((a &&& b:Nat):Int):=by
  rw [BitVec.toNat_and,Hs ha,Hs hb]
  have:a &&& b<=a:=Nat.and_le_left
  exact HV Z Z
theorem QB {a b:Nat} (ha:a<4294967296) (hb:b<4294967296):IntKind.u32.wrap ((BitVec.ofInt IntKind.u32.bits (a:Int) ^^^ BitVec.ofInt IntKind.u32.bits (b:Int)).toNat:Int)=((a ^^^ b:Nat):Int):=by
  rw [BitVec.toNat_xor,Hs ha,Hs hb]
  have:a ^^^ b<2^32:=Nat.xor_lt_two_pow ha hb
  exact HV Z Z
theorem Oq {a:Nat} (ha:a<4294967296):IntKind.u32.wrap ((BitVec.ofInt IntKind.u32.bits (if IntKind.u32.signed then -1 else IntKind.u32.max) ^^^ BitVec.ofInt IntKind.u32.bits (a:Int)).toNat:Int)=((4294967295 ^^^ a:Nat):Int):=by
  rw [show (if IntKind.u32.signed then -1 else IntKind.u32.max)=((4294967295:Nat):Int) from rfl]
  exact QB Z ha
def Jh (x y:Nat):Nat:=if x<y then 1 else 0
theorem ec {r:Nat} (h:r<4294967296):r/2147483648=if r.testBit 31 then 1 else 0:=by
  have e:r.testBit 31=decide (r/2147483648%2=1):=Nat.testBit_eq_decide_div_mod_eq ..
  rw [e]
  by_cases h1:r/2147483648%2=1
  · rw [if_pos (by simpa using h1)];omega
  · rw [if_neg (by simpa using h1)];omega
theorem R4 {x:Nat} (h:x<4294967296):x.testBit 31=decide (2147483648<=x):=by
  rw [Nat.testBit_eq_decide_div_mod_eq]
  exact decide_eq_decide.2 Z
theorem VS {x y c:Nat} (hx:x<4294967296) (hy:y<4294967296) (hc:c<=1) {d:Nat} (hd:d=(x+(4294967296-y)+(4294967296-c))%4294967296) :
    ((4294967295 ^^^ x) &&& y ||| (4294967295 ^^^ (x ^^^ y)) &&& d)/2147483648=Jh x (y+c):=by
  have hd':d<4294967296:=by omega
  have h1:((4294967295 ^^^ x) &&& y ||| (4294967295 ^^^ (x ^^^ y)) &&& d)<2^32:=by
    refine Nat.or_lt_two_pow ?_ ?_
    · exact Nat.lt_of_le_of_lt Nat.and_le_right hy
    · exact Nat.lt_of_le_of_lt Nat.and_le_right hd'
  rw [ec Z]
  simp only [Nat.testBit_or,Nat.testBit_and,Nat.testBit_xor,R4 hx,R4 hy,R4 hd',R4 (show 4294967295<4294967296 by omega)]
  unfold Jh
  by_cases h2:2147483648<=x<;>by_cases h3:2147483648<=y<;>by_cases h4:2147483648<=d<;>simp [h2,h3,h4]<;>omega
theorem Wd (x y:Nat):x/4294967296*(y/4294967296)+(x/4294967296*(y%4294967296)+x%4294967296*(y%4294967296)/4294967296)/4294967296+((x/4294967296*(y%4294967296)+x%4294967296*(y%4294967296)/4294967296)%4294967296+x%4294967296*(y/4294967296))/4294967296=x*y/18446744073709551616:=by
  have e:x*y=x%4294967296*(y%4294967296)+4294967296*(x/4294967296*(y%4294967296)+x%4294967296*(y/4294967296))+18446744073709551616*(x/4294967296*(y/4294967296)):=by
    have hx:x=x%4294967296+4294967296*(x/4294967296):=by omega
    have hy:y=y%4294967296+4294967296*(y/4294967296):=by omega
    generalize x%4294967296=a at *
    generalize x/4294967296=b at *
    generalize y%4294967296=c at *
    generalize y/4294967296=d at *
    subst hx;subst hy
    grind
  rw [e]
  generalize x%4294967296*(y%4294967296)=p
  generalize x/4294967296*(y%4294967296)=q
  generalize x%4294967296*(y/4294967296)=r
  generalize x/4294967296*(y/4294967296)=t
  omega
theorem LX {a b:Nat} (ha:a<4294967296) (hb:b<4294967296):a*b<=18446744065119617025:=Nat.mul_le_mul (show a<=4294967295 by omega) (show b<=4294967295 by omega)
def bl (x:Nat):Nat:=if x=0 then 0 else Nat.log2 x+1
theorem Q2 {x k:Nat} (h:2^k<=x):Nat.log2 x=Nat.log2 (x/2^k)+k:=by
  have hx:x≠0:=by have:=Nat.pow_pos (n:=k) (show 0<2 by omega);omega
  have hq:x/2^k≠0:=by
    have:=Nat.div_pos h (Nat.pow_pos (n:=k) (show 0<2 by omega));omega
  have h1:=(Nat.log2_eq_iff hq).1 rfl
  rw [Nat.log2_eq_iff hx]
  have hm:=Nat.div_add_mod x (2^k)
  have hlt:=Nat.mod_lt x (Nat.pow_pos (n:=k) (show 0<2 by omega))
  constructor
  · rw [Nat.pow_add,Nat.mul_comm]
    exact xx (Nat.mul_le_mul_left _ h1.1) (Nat.mul_div_le x _)
  · rw [show (x/2^k).log2+k+1=((x/2^k).log2+1)+k by omega,Nat.pow_add]
    exact (Nat.div_lt_iff_lt_mul (Nat.pow_pos Z)).1 h1.2
theorem Ol {x k:Nat} (h:2^k<=x):bl x=bl (x/2^k)+k:=by
  have hx:x≠0:=by have:=Nat.pow_pos (n:=k) (show 0<2 by omega);omega
  have hq:x/2^k≠0:=by
    have:=Nat.div_pos h (Nat.pow_pos (n:=k) (show 0<2 by omega));omega
  simp only [bl,hx,hq,if_false,Q2 h]
  omega
theorem VR {x k:Nat} (h:x<2^k):bl x<=k:=by
  unfold bl
  split
  · omega
  · rename_i hx
    have:=(Nat.log2_lt hx).2 h
    omega
theorem Tl {y:Nat} (h0:0<y) (h:y<4294967296):bl y<=32/\0<bl y/\2147483648<=y*2^(32-bl y)/\y*2^(32-bl y)<4294967296:=by
  have hy:y≠0:=by omega
  have h1:=(Nat.log2_eq_iff hy).1 rfl
  have h2:=VR (k:=32) (show y<2^32 by omega)
  have hb:bl y=y.log2+1:=by simp [bl,hy]
  refine ⟨h2,Z,?_,?_⟩
  · rw [hb] at h2 ⊢
    calc 2147483648=2^y.log2*2^(32-(y.log2+1)):=by rw [<-Nat.pow_add,show y.log2+(32-(y.log2+1))=31 by omega]
      _<=_:=Nat.mul_le_mul_right _ h1.1
  · rw [hb] at h2 ⊢
    calc y*2^(32-(y.log2+1))<2^(y.log2+1)*2^(32-(y.log2+1)):=Nat.mul_lt_mul_of_pos_right h1.2 (Nat.pow_pos Z)
      _=4294967296:=by rw [<-Nat.pow_add,show y.log2+1+(32-(y.log2+1))=32 by omega]
theorem cm {s:ByteArray} (h:((List.range 256).all λj=>s[j]? == some (UInt8.ofNat (bl j)))=true) {j:Nat} (hj:j<256):s[j]?=some (UInt8.ofNat (bl j)):=by
  simpa using List.all_eq_true.1 h j (List.mem_range.2 hj)
theorem ax {x:Nat} (h:256<=x):bl x=bl (x/256)+8:=Ol (k:=8) h
theorem Xc (z:Int):(if (if z<1 then z else 1) > -1 then (if z<1 then z else 1) else -1)=z.sign:=by
  rcases Int.lt_trichotomy z 0 with h|h|h
  · rw [Int.sign_eq_neg_one_of_neg h,if_pos (show z<1 by omega)];split<;>omega
  · subst h;rfl
  · rw [Int.sign_eq_one_of_pos h,if_neg (show ¬z<1 by omega)];rfl
section
variable {P:Program} {n:Nat} {F:List (Nat×Value)} {w0:BA} {L:List As} {x y:Operand} {d:Option Tmp} {t:TypeId} {p:String} {af:Array Edge} {g:Option (Nat×Bool)}
theorem IX {s:ByteArray} {k:IntKind} {j m:Nat} {tx:TypeId} (hx:evF F x=some (.string s)) (hy:evF F y=some (.int k ((j:Nat):Int))) (hu:P.underlying tx=some .string) (hb:s[j]?=some (UInt8.ofNat m)) (hm:m<256):Ex P n F w0 L ⟨d,.index tx x y,t,p,af,g⟩ (.int .u8 ((m:Nat):Int)):=by
  have h:=Gr (P:=P) (n:=n) (F:=F) (w0:=w0) (L:=L) (d:=d) (t:=t) (p:=p) (af:=af) (g:=g) hx hy hu rfl hb
  have e:(UInt8.ofNat m).toNat=m:=by simp;omega
  rwa [e] at h
theorem TT {f:FuncId} {xs:List Operand} {args:List Value} {ts:Array TypeId} {v:Value} (hf:evF F x=some (.func (.func f) #[] #[])) (hargs:xs.map (evF F)=args.map some)
    (hc:∀w,(callFunc f args.toArray).run P w=.ok (.value v) w):Ex P n F w0 L ⟨d,.call { callee:=.value x,args:=xs.toArray,argTypes:=ts },t,p,af,g⟩ v:=λA w ha _=>by
  have e1:xs.toArray.map A.eval=args.toArray:=by rw [<-Kz ha hargs];simp
  simp [execOp,resolve,ha.ev hf,Deferred.ofValue,e1,invoke,hc]
theorem UM {f : FuncId} {fn : Func} (hf : P.funcs[f]? = some fn) (hname : (fn.name == "runtime.NumGoroutine") = false) (hb : fn.body.isNone = true) (hn : Extern.findNext fn = none) (he : Extern.find fn = some add64Entry) (x y c : Nat) (hc : c ≤ 1) (w : World) :
    (callFunc f #[.int .u64 x,.int .u64 y,.int .u64 c]).run P w=.ok (.value (.tuple #[.int .u64 (((x+y+c)%18446744073709551616:Nat):Int),.int .u64 (((x+y+c)/18446744073709551616:Nat):Int)])) w:=by
  rw [run_callFunc_extern hf hname hb hn he,run_add64 x y c Z Z Z Z]
  simp only [Result.andThen]
  congr 5<;>omega
end
theorem BE.fresh {W w:World} {L:List As} (h:BE ⟨W,none⟩ w L) {i b:Nat} {T:TypeId} {cs:List Value} (hi:L[i]?=some (AU b T cs)):W.heap.size<=b:=by
  rcases (h.2.1 _ (List.mem_of_getElem? hi) b rfl).1 with h1|h1|h1
  · cases h1
  · exact h1
  · cases h1
end
end Go.Proofs.YtpolhpjiahbidaaGreatDoor
