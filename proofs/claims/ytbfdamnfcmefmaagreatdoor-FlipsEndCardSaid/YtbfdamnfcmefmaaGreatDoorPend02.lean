import Derived.Laws.MakeOwn
import Derived.Laws.OwnMore
import Derived.Laws.BytesString
import Derived.Laws.BytesArg
import Derived.Laws.CopyRow
import Derived.Test.YtbfdamnfcmefmaaGreatDoorPend01
namespace Go.Proofs.YtbfdamnfcmefmaaGreatDoor
open Go Go.RowKit Go.Proofs.Tryz
open Go.Value renaming slice→qz,bool→qa
set_option linter.unusedVariables false
set_option linter.unusedSimpArgs false
section
def Aj (xs:List Nat):List Value:=xs.map λx=>.int .u32 (x:Nat)
def J3 (xs:List Nat):List Value:=xs.map λx=>.int .u8 (x:Nat)
theorem BO (xs:List Nat):(Aj xs).length=xs.length:=by simp [Aj]
theorem ID (xs:List Nat):(J3 xs).length=xs.length:=by simp [J3]
theorem BF {xs:List Nat} {j:Nat} (h:j<xs.length):(Aj xs)[j]?=some (.int .u32 ((xs.getD j 0:Nat):Int)):=by
  simp [Aj,h]
theorem CI {xs:List Nat} {j v:Nat} (h:j<xs.length):Gc (Aj xs) j [.int .u32 (v:Nat)]=Aj (xs.set j v):=by
  unfold Gc Aj
  rw [List.set_eq_take_append_cons_drop,if_pos h]
  simp
theorem Wx (xs:List Nat):∀u∈Aj xs,u.oneCell'=true:=by
  intro u hu
  obtain ⟨x,_,rfl⟩:=List.mem_map.1 hu
  rfl
section
variable {P:Program} {n:Nat} {F:List (Nat×Value)} {w0:BD} {L:List As} {v u:Value} {x y z:Operand} {d:Option Tmp} {t:TypeId} {p:String} {af:Array Edge} {g:Option (Nat×Bool)}
theorem BH.oldCA {w:World} (hW:BH w0 w L) {b off:Nat} {vs:List Value} (hne:some b≠w0.ex) (h:CA w0.w b off vs):CA w b off vs:=λj u hu=>by
  have h1:=h j u hu
  have hlt:=World.block_lt_of_cell? _ _ h1
  rw [<-h1]
  exact World.cell?_of_block (hW.1.block b hlt hne)
theorem CA.at0 {w:World} {b j:Nat} {vs:List Value} (h:CA w b 0 vs) (hv:vs[j]?=some v):w.cell? ⟨b,j,none⟩=some v:=by simpa using h j v hv
theorem Jd {tx e:TypeId} {a:Option Addr} {len cap k:Nat} {hi:Operand} {ki:IntKind} {m:Nat} (hx:evF F x=some (.slice a len cap)) (hh:evF F hi=some (.int ki (m:Nat))) (hu:P.underlying tx=some (.slice e)) (hs:∀w,(sizeOf e).run P w=.ok k w) (hm:m<=cap) :
    Ex P n F w0 L ⟨d,.slice tx x none (some hi) none,t,p,af,g⟩ (.slice a m cap):=λA w ha _=>by
  have e1:(if cap=0 then a else a.map λy=>y.add (0*k))=a:=by
    split
    · rfl
    · cases a<;>simp [Addr.add]
  simp only [execOp,ha.ev hx,Instr.sliceAt,run_underlying hu,Instr.slice,Option.map_some,Option.map_none,ha.ev hh,Instr.sliceBounds,Instr.sliceBound,asIntOf,Sem.run_bind,Result.andThen_ok,Sem.run_pure]
  have h1:(0:Int)<=(m:Int)/\(m:Int)<=(cap:Int):=⟨Z,Z⟩
  simp [h1.2,hs]
  cases a<;>simp [Addr.add]
theorem Np {tx e:TypeId} {b off r len cap k:Nat} {lo hi:Operand} {ki kj:IntKind} {i m:Nat} (hx:evF F x=some (.slice (some ⟨b,off,none⟩) len cap)) (hl:evF F lo=some (.int ki (i:Nat))) (hh:evF F hi=some (.int kj (m:Nat))) (hu:P.underlying tx=some (.slice e)) (hs:∀w,(sizeOf e).run P w=.ok k w)
    (h1:i<=m) (hm:m<=cap) (hi':i<cap) (hr:off+i*k=r):Ex P n F w0 L ⟨d,.slice tx x (some lo) (some hi) none,t,p,af,g⟩ (.slice (some ⟨b,r,none⟩) (m-i) (cap-i)):=λA w ha _=>by
  subst hr
  simp only [execOp,ha.ev hx,Instr.sliceAt,run_underlying hu,Instr.slice,Option.map_some,Option.map_none,ha.ev hl,ha.ev hh,Instr.sliceBounds,Instr.sliceBound,asIntOf,Sem.run_bind,Result.andThen_ok,Sem.run_pure]
  have e1:(0:Int)<=(m:Int)/\(m:Int)<=(cap:Int):=⟨Z,Z⟩
  have e3:¬cap=i:=by omega
  simp [e1.2,hs,e3,Addr.add_lit]
  intro h;omega
theorem DK {m c:Nat} {ki kj:IntKind} (hx:evF F x=some (.int ki (m:Nat))) (hy:evF F y=some (.int kj (c:Nat))) (hmc:m<=c) (hc:c<=35184372088832) :
    ∀a w,Cx n a F->BH w0 w L->(execOp a.eval ⟨d,.makeSlice 220 x y,t,p,af,g⟩).run prog w=.ok (.value (.slice (some ⟨w.heap.size,0,none⟩) m c)) (w.alloc (.cells (Aj (List.replicate c 0)).toArray 89)):=λa w ha _=>by
  have h1:=run_make (P:=prog) w 220 89 Tryz.t89 (.int .u32 0) underlying220 jV rfl ki kj (m:Nat) (c:Nat) Z Z (by show (4:Int)*(c:Int)<=_;omega) Z
  have e1:madeCells (Value.int .u32 0).cells ((c:Int).toNat*Tryz.t89.size)=(Aj (List.replicate c 0)).toArray:=by
    apply Array.toList_inj.1
    show (madeCells #[Value.int .u32 0] ((c:Int).toNat*1)).toList=_
    rw [toList_madeCells_one]
    simp [Aj]
  rw [e1] at h1
  simp only [execOp,ha.ev hx,ha.ev hy,Sem.run_bind,h1,Result.andThen_ok,Sem.run_pure,Int.toNat_natCast]
theorem Ql {m c:Nat} {ki kj:IntKind} (hx:evF F x=some (.int ki (m:Nat))) (hy:evF F y=some (.int kj (c:Nat))) (hmc:m<=c) (hc:c<=140737488355328) :
    ∀a w,Cx n a F->BH w0 w L->(execOp a.eval ⟨d,.makeSlice 22 x y,t,p,af,g⟩).run prog w=.ok (.value (.slice (some ⟨w.heap.size,0,none⟩) m c)) (w.alloc (.cells (J3 (List.replicate c 0)).toArray 5)):=λa w ha _=>by
  have h1:=run_make (P:=prog) w 22 5 Tryz.t5 (.int .u8 0) underlying22 jV rfl ki kj (m:Nat) (c:Nat) Z Z (by show (1:Int)*(c:Int)<=_;omega) Z
  have e1:madeCells (Value.int .u8 0).cells ((c:Int).toNat*Tryz.t5.size)=(J3 (List.replicate c 0)).toArray:=by
    apply Array.toList_inj.1
    show (madeCells #[Value.int .u8 0] ((c:Int).toNat*1)).toList=_
    rw [toList_madeCells_one]
    simp [J3]
  rw [e1] at h1
  simp only [execOp,ha.ev hx,ha.ev hy,Sem.run_bind,h1,Result.andThen_ok,Sem.run_pure,Int.toNat_natCast]
theorem Ax {P:Program} {T e:TypeId} {len k:Nat} {z:Value} {parts:Array (Nat×Operand)} {pv:List (Nat×Value)} {cs:List Value} (hu:P.underlying T=some (.slice e)) (hs:∀w,(sizeOf e).run P w=.ok k w) (hz:∀w,(zeroValue e).run P w=.ok z w)
    (hlk:len*k≠0) (hsm:len*k<=16777216)
    (hp:parts.toList.map (λq=>(q.1,evF F q.2))=pv.map (λq=>(q.1,some q.2)))
    (hf:Instr.fill (λi=>some (i*k,k)) ((Array.range (len*k)).map (z.cells[·%z.cells.size]!)) pv=some cs.toArray) :
    ∀a w,Cx n a F->BH w0 w L->(execOp a.eval ⟨d,.buildSlice T len parts,t,p,af,g⟩).run P w=.ok (.value (.slice (some ⟨w.heap.size,0,none⟩) len len)) (w.alloc (.cells cs.toArray e)):=λA w ha _=>by
  have key:∀(l:List (Nat×Operand)) (r:List (Nat×Value)),l.map (λq=>(q.1,evF F q.2))=r.map (λq=>(q.1,some q.2))->l.map (λq=>(q.1,A.eval q.2))=r:=by
    intro l
    induction l with
    | nil=>intro r h;cases r<;>simp_all
    | cons o l ih =>
      intro r h
      cases r with
      | nil=>simp at h
      | cons q r =>
        simp only [List.map_cons,List.cons.injEq,Prod.mk.injEq] at h
        rw [List.map_cons,ha.ev h.1.2,ih r h.2,h.1.1]
  have e1:(parts.map λq=>(q.1,A.eval q.2)).toList=pv:=by rw [Array.toList_map];exact key _ _ hp
  have e2:(parts.map λ(i,x)=>(i,A.eval x)).toList=pv:=e1
  have hn:¬(len*k>2^24):=by omega
  simp only [execOp,Instr.buildSlice,run_underlying hu,hs,Sem.run_bind,Result.andThen_ok,if_neg hn,if_neg hlk,Sem.run_pure,hz,Sem.run_ite]
  rw [e2,hf]
  simp [newRow]
theorem AR.append_u8 {ops:Array Oper} {rest:List Oper} {Q:Exit->Act->World->Prop} {L':List As} {i j b b' m c k c' dd:Nat} {cs ns cs':List Value} {o:Oper} (ho:o=⟨some dd,.call { callee:=.builtin .append,args:=#[x,y],argTypes:=#[22,22] },t,p,af,g⟩) (hw:Wt ops n F o)
    (hx:evF F x=some (.slice (jk b) m c)) (hy:evF F y=some (.slice (some ⟨b',0,none⟩) k c')) (hi:L[i]?=some (AY b 5 cs)) (hj:L[j]?=some (AY b' 5 ns)) (hk:ns.length=k) (h1:(ns.all λu=>u.oneCell')=true) (hroom:m+k<=c) (hfit:m+k<=cs.length)
    (hcs:Gc cs m ns=cs') (hL:L.set i (AY b 5 cs')=L') (hd:dd<n) (next:AR prog ops rest Q n ((dd,.slice (jk b) (m+k) c)::F) w0 L'):AR prog ops (o::rest) Q n F w0 L:=λa w ha hW=>by
  subst ho;subst hcs;subst hL
  unfold wpList
  rw [if_pos (hw a ha)]
  left
  have hca:=EE (off:=0) (k:=ns.length) (hW.get hj)
  have hns:(ns.drop 0).take ns.length=ns:=by simp
  rw [hns] at hca
  have hr:=run_append_room (P:=prog) w 22 t 5 Tryz.t5 underlying22 jV b m c cs.toArray (hW.get hi) ⟨b',0,none⟩ k c' ns (by show _=k*1;omega) (λq u hu=>by rw [Addr.add_lit];exact hca q u hu) (λu hu=>List.all_eq_true.1 h1 u hu) hroom (by show m*1+ns.length<=cs.toArray.size;simp;omega)
  have hz:m*Tryz.t5.size=m:=Nat.mul_one m
  rw [hz] at hr
  unfold Oper.wp
  have he:(execOp a.eval ⟨some dd,.call { callee:=.builtin .append,args:=#[x,y],argTypes:=#[22,22] },t,p,af,g⟩).run prog w=.ok (.value (.slice (jk b) (m+k) c)) (w.setRow b (Gc cs m ns).toArray):=by
    simp only [execOp,resolve,invoke,builtin,Sem.run_bind,Sem.run_pure,Result.andThen_ok,List.map_toArray,List.map_cons,List.map_nil,ha.ev hx,ha.ev hy,hr,Gc]
  rw [he,Oper.upon_value]
  have hg:=hW.get hi
  exact next _ _ (ha.put hd) (hW.turn hi O O ⟨⟨rfl,rfl,rfl,by simp,λq _ hq=>setRow_other w b q _ (λe=>hq (by simp [e]))⟩,Nat.le_refl _⟩ ⟨_,setRow_heap w b cs.toArray _ 5 _ hg,rfl⟩)
def DM (xs:List Nat):ByteArray:=⟨(xs.map λx=>UInt8.ofNat x).toArray⟩
theorem Jr {i b m c:Nat} {cs:List Value} {ns:List Nat} (hx:evF F x=some (.slice (jk b) m c)) (hi:L[i]?=some (AY b 5 cs)) (hcs:cs.take m=J3 ns) (hm:ns.length=m) :
    Ex prog n F w0 L ⟨d,.convert 22 9 x,t,p,af,g⟩ (.string (DM ns)):=λa w ha hW=>by
  have hca:=EE (off:=0) (k:=m) (hW.get hi)
  rw [List.drop_zero,hcs] at hca
  have h2:=run_loadCells_list (P:=prog) w ⟨b,0,none⟩ (J3 ns) (λq u hu=>by rw [Addr.add_lit];exact hca q u hu)
  rw [ID,hm] at h2
  have h3:(J3 ns)=(ns.map λx=>((x:Nat):Int)).map (Value.int .u8):=by simp [J3]
  rw [h3] at h2
  have h4:=run_bytesToString w ⟨b,0,none⟩ m c _ h2
  rw [foldl_push_bytes] at h4
  simp only [execOp,ha.ev hx,Sem.run_bind,run_convert_bytes_string w 22 9 5 _ _ _ underlying22 underlying5 underlying9,h4,Result.andThen_ok,Sem.run_pure]
  congr 2
  simp [DM,ByteArray.empty,ByteArray.emptyWithCapacity]
  rfl
end
end
section
section
variable {P:Program} {ops:Array Oper} {l rest:List Oper} {Q:Exit->Act->World->Prop} {n:Nat} {F F' FM:List (Nat×Value)} {w0:BD} {L L' LM:List As} {o:Oper} {v u:Value} {c x y:Code}
theorem ME {o:Oper} {a:Act} {w:World} {K K':Act->World->Prop} {Q':Exit->Act->World->Prop} (h:∀a w,K a w->K' a w) (hq:∀e a w,e≠.normal->¬Q e a w)
    (hh:o.wp P a w K Q):o.wp P a w K' Q':=by
  unfold Oper.wp at *
  generalize (execOp a.eval o).run P w=r at *
  cases r with
  | ok n w' =>
    cases n<;>simp only [Oper.upon] at hh ⊢ <;>
      first
        | exact h _ _ hh
        | exact Calls.mono hh (λe w'' he=>by cases e<;>first|exact h _ _ he|exact absurd he (hq _ _ _ jX)|exact (match he with|⟨_,_,hl⟩=>absurd hl (hq _ _ _ jX)))
        | exact Rows.mono hh (λ_ _ he=>h _ _ he)
  | halt x w'=>cases x<;>simp only [Oper.upon] at hh ⊢<;>exact absurd hh (hq _ _ _ jX)
theorem zi (m:Nat) (h1:AR P ops (l.take m) (λe a w=>e=.normal/\Cx n a FM/\BH w0 w LM) n F w0 L) (h2:AR P ops (l.drop m) Q n FM w0 LM):AR P ops l Q n F w0 L:=λa w ha hW=>by
  have key:∀(m:Nat) (l:List Oper) (a:Act) (w:World),wpList P ops (λe a w=>e=.normal/\Cx n a FM/\BH w0 w LM) (l.take m) a w->(∀a w,Cx n a FM->BH w0 w LM->wpList P ops Q (l.drop m) a w)->wpList P ops Q l a w:=by
    intro m
    induction m with
    | zero=>intro l a w h h2;exact h2 a w h.2.1 h.2.2
    | succ m ih =>
      intro l a w h h2
      cases l with
      | nil=>exact h2 a w h.2.1 h.2.2
      | cons o l =>
        simp only [List.take_succ_cons] at h
        unfold wpList at h ⊢
        split at h
        · rename_i hg
          rw [if_pos hg]
          rcases h with h|⟨_,_,_,hl,_⟩
          · exact .inl (ME (λa w hk=>ih l a w hk h2) (λe a w he hq=>he hq.1) h)
          · cases hl
        · rename_i hg
          rw [if_neg hg]
          exact ih l _ w h h2
  exact key m l a w (h1 a w ha hW) h2
theorem zT (hs:CO FM F) (hl:LM.Sublist L):OkQ (λe a w=>e=.normal/\Cx n a FM/\BH w0 w LM) .normal n F w0 L:=λ_ _ ha hw=>⟨rfl,ha.sub hs,hw.weak hl⟩
theorem Cx.retell {a:Act} (h:Cx n a F) {k:Nat} (hk:F.lookup k=some v) (hv:v=u):Cx n a ((k,u)::F):=by
  subst hv
  refine ⟨h.1,h.2.1,λj x hj=>?_⟩
  simp only [List.lookup_cons] at hj
  split at hj
  · rename_i e
    injection hj with hj
    subst hj
    have:j=k:=by simpa using e
    subst this
    exact h.2.2 j _ hk
  · exact h.2.2 j x hj
theorem zL {k:Nat} (hk:F.lookup k=some v) (hv:v=u) (next:AR P ops rest Q n ((k,u)::F) w0 L):AR P ops rest Q n F w0 L:=λa w ha hW=>next a w (ha.retell hk hv) hW
theorem yT {e:Exit} {k:Nat} (hk:F.lookup k=some v) (hv:v=u) (next:OkQ Q e n ((k,u)::F) w0 L):OkQ Q e n F w0 L:=λa w ha hW=>next a w (ha.retell hk hv) hW
theorem yO {k:Nat} (hk:F.lookup k=some v) (hv:v=u) (next:OkC P c Q n ((k,u)::F) w0 L):OkC P c Q n F w0 L:=λa w ha hW=>next a w (ha.retell hk hv) hW
theorem yp {e:Exit} (h:L=L') (next:OkQ Q e n F w0 L'):OkQ Q e n F w0 L:=h▸next
theorem ze {d:Nat} {T:TypeId} {cs:List Value} {V:Nat->Value} (hw:Wt ops n F o)
    (he:∀a w,Cx n a F->BH w0 w L->(execOp a.eval o).run P w=.ok (.value (V w.heap.size)) (w.alloc (.cells cs.toArray T)))
    (ho:o.dst=some d) (hd:d<n) (next:∀b,AR P ops rest Q n ((d,V b)::F) w0 (AY b T cs::L)):AR P ops (o::rest) Q n F w0 L:=λa w ha hW=>by
  unfold wpList
  rw [if_pos (hw a ha)]
  left
  unfold Oper.wp
  rw [he a w ha hW,Oper.upon_value,ho]
  exact next _ _ _ (ha.put hd) (hW.alloc _ O O)
end
theorem FB {w:World} {b:Nat} {cs:List Value} {T:TypeId} {fr:Nat×Nat} (h:w.heap[b]?=some (.cells cs.toArray T fr)):CA w b 0 cs:=by
  have:=EE (off:=0) (k:=cs.length) h
  simpa using this
theorem Cm {xs:List Nat} {f:List Nat->List Value} (hf:(f xs).length=xs.length) {j:Nat} (h:j<xs.length):Nat.ble (j+1) (f xs).length=true:=Nat.ble_eq_true_of_le Z
def W32 (xs:List Nat):Prop:=∀x∈xs,x<4294967296
theorem W32.getD {xs:List Nat} (h:W32 xs) (i:Nat):xs.getD i 0<4294967296:=by
  by_cases hi:i<xs.length
  · simp [hi];exact h _ (List.getElem_mem hi)
  · simp [Nat.not_lt.1 hi]
theorem W32.set {xs:List Nat} (h:W32 xs) {v:Nat} (hv:v<4294967296) (i:Nat):W32 (xs.set i v):=λx hx=>by
  rcases List.mem_or_eq_of_mem_set hx with h1|h1
  · exact h x h1
  · omega
theorem W32.take {xs:List Nat} (h:W32 xs) (i:Nat):W32 (xs.take i):=λx hx=>h x (List.mem_of_mem_take hx)
theorem W32.zeros (k:Nat):W32 (List.replicate k 0):=λx hx=>by rw [(List.mem_replicate.1 hx).2];omega
theorem W32.append {xs ys:List Nat} (h:W32 xs) (h':W32 ys):W32 (xs++ys):=λx hx=>by
  rcases List.mem_append.1 hx with h1|h1
  · exact h x h1
  · exact h' x h1
theorem W32.cons {x:Nat} {xs:List Nat} (h:x<4294967296) (h':W32 xs):W32 (x::xs):=λy hy=>by
  rcases xN.1 hy with h1|h1
  · omega
  · exact h' y h1
theorem W32.nil:W32 []:=λ_ h=>by cases h
def val:List Nat->Nat
  | []=>0
  | x::xs=>x+4294967296*val xs
theorem Pi (x:Nat) (xs:List Nat):val (x::xs)=x+4294967296*val xs:=rfl
theorem L_ (xs ys:List Nat):val (xs++ys)=val xs+4294967296^xs.length*val ys:=by
  induction xs with
  | nil=>simp [val]
  | cons x xs ih=>simp only [List.cons_append,val,ih,List.length_cons,Nat.pow_succ];grind
theorem EM (k:Nat):val (List.replicate k 0)=0:=by
  induction k with
  | zero=>rfl
  | succ k ih=>simp [List.replicate_succ,val,ih]
theorem HD {xs:List Nat} (h:W32 xs):val xs<4294967296^xs.length:=by
  induction xs with
  | nil=>simp [val]
  | cons x xs ih =>
    have h1:=h x jX
    have h2:=ih (λy hy=>h y (by simp [hy]))
    simp only [val,List.length_cons,Nat.pow_succ]
    omega
theorem Fk {xs:List Nat} {i:Nat} (h:i<xs.length) (v:Nat):val (xs.set i v)+xs.getD i 0*4294967296^i=val xs+v*4294967296^i:=by
  induction xs generalizing i with
  | nil=>simp at h
  | cons x xs ih =>
    cases i with
    | zero=>simp [val];omega
    | succ i =>
      have:=ih (i:=i) (by simpa using h)
      simp only [List.set_cons_succ,val,List.getD_cons_succ,Nat.pow_succ]
      grind
theorem BW (xs:List Nat) (i:Nat):val (xs.take (i+1))=val (xs.take i)+xs.getD i 0*4294967296^i:=by
  induction xs generalizing i with
  | nil=>simp [val]
  | cons x xs ih =>
    cases i with
    | zero=>simp [val]
    | succ i =>
      have:=ih i
      simp only [List.take_succ_cons,val,List.getD_cons_succ,Nat.pow_succ] at this ⊢
      rw [this]
      grind
theorem E8 (xs:List Nat) (i:Nat) (h:i<=xs.length):val xs=val (xs.take i)+4294967296^i*val (xs.drop i):=by
  have:=L_ (xs.take i) (xs.drop i)
  rwa [List.take_append_drop,List.length_take,Nat.min_eq_left h] at this
theorem Pl (xs:List Nat) (i:Nat):val (xs.take i)<=val xs:=by
  by_cases h:i<=xs.length
  · have:=E8 xs i h;omega
  · rw [List.take_of_length_le Z];exact Nat.le_refl _
theorem Pj (xs:List Nat) (i:Nat):xs.getD i 0*4294967296^i<=val xs:=by
  have h1:=BW xs i
  have h2:=Pl xs (i+1)
  omega
theorem GX {xs:List Nat} {i m:Nat} (h:val xs<4294967296^m) (hm:m<=i):xs.getD i 0=0:=by
  have h1:=Pj xs i
  have h2:4294967296^m<=4294967296^i:=Nat.pow_le_pow_right Z hm
  rcases Nat.eq_zero_or_pos (xs.getD i 0) with h3|h3
  · exact h3
  · have:1*4294967296^i<=xs.getD i 0*4294967296^i:=Nat.mul_le_mul_right _ h3
    omega
theorem MC {xs:List Nat} {m:Nat} (h:val xs<4294967296^m):val (xs.take m)=val xs:=by
  by_cases hm:m<=xs.length
  · have h1:=E8 xs m hm
    rcases Nat.eq_zero_or_pos (val (xs.drop m)) with h3|h3
    · rw [h3] at h1;omega
    · have:4294967296^m*1<=4294967296^m*val (xs.drop m):=Nat.mul_le_mul_left _ h3
      omega
  · rw [List.take_of_length_le Z]
theorem SW:∀(f v:Nat),v<=f->SV f v=AK v:=by
  intro f
  induction f using Nat.strongRecOn with
  | _ f ih =>
    intro v hv
    cases f with
    | zero =>
      have:v=0:=by omega
      subst this;rfl
    | succ f =>
      unfold AK
      cases v with
      | zero=>simp [SV]
      | succ v =>
        simp only [SV]
        have h1:(v+1)/4294967296<=v:=by omega
        rw [ih f Z _ Z]
        by_cases hvf:v=f
        · subst hvf;rw [ih v Z _ h1]
        · rw [ih v Z _ h1]
theorem Q7:AK 0=[]:=rfl
theorem F_ {v:Nat} (h:v≠0):AK v=v%4294967296::AK (v/4294967296):=by
  cases v with
  | zero=>exact absurd rfl h
  | succ v =>
    conv=>lhs;unfold AK SV
    simp only [Nat.add_eq_zero_iff]
    rw [SW v _ Z]
    simp
theorem CY (v:Nat):val (AK v)=v:=by
  induction v using Nat.strongRecOn with
  | _ v ih =>
    by_cases h:v=0
    · subst h;rfl
    · rw [F_ h,val,ih _ Z];omega
theorem Br (v:Nat):W32 (AK v):=by
  induction v using Nat.strongRecOn with
  | _ v ih =>
    by_cases h:v=0
    · subst h;exact W32.nil
    · rw [F_ h];exact W32.cons Z (ih _ Z)
def nw (v:Nat):Nat:=(AK v).length
theorem OE:nw 0=0:=rfl
theorem V2 {v:Nat} (h:v≠0):nw v=nw (v/4294967296)+1:=by unfold nw;rw [F_ h];rfl
theorem Cs {v k:Nat}:nw v<=k↔v<4294967296^k:=by
  induction k generalizing v with
  | zero =>
    by_cases h:v=0
    · subst h;simp [OE]
    · rw [V2 h];simp;omega
  | succ k ih =>
    by_cases h:v=0
    · subst h;simp [OE,Nat.pow_pos]
    · rw [V2 h,Nat.pow_succ,Nat.add_le_add_iff_right,ih,Nat.div_lt_iff_lt_mul Z]
theorem B7 (v:Nat):v<4294967296^nw v:=Cs.1 (Nat.le_refl _)
theorem Dm {a b:Nat} (h:a<=b):nw a<=nw b:=Cs.2 (Nat.lt_of_le_of_lt h (B7 b))
theorem V1 (a b:Nat):nw (a*b)<=nw a+nw b:=by
  rw [Cs,Nat.pow_add]
  exact Nat.mul_lt_mul'' (B7 a) (B7 b)
theorem aQ (a b:Nat):nw (a+b)<=max (nw a) (nw b)+1:=by
  rw [Cs,Nat.pow_succ]
  have h1:a<4294967296^max (nw a) (nw b):=Cs.1 (Nat.le_max_left ..)
  have h2:b<4294967296^max (nw a) (nw b):=Cs.1 (Nat.le_max_right ..)
  omega
theorem Lh {a:Nat} (h:a<18446744073709551616):nw a<=2:=Cs.2 Z
theorem OU {xs:List Nat} (h:W32 xs) (hl:∀x,xs.getLast?=some x->x≠0):AK (val xs)=xs:=by
  induction xs with
  | nil=>rfl
  | cons x xs ih =>
    have hx:=h x jX
    have h0:val (x::xs)≠0:=by
      intro h0
      rw [Pi] at h0
      have hv:val xs=0:=by omega
      cases xs with
      | nil=>exact hl x rfl Z
      | cons y ys =>
        have:=ih (λz hz=>h z (by simp [hz])) (λz hz=>hl z (by simpa using hz))
        rw [hv] at this
        cases this
    rw [F_ h0,Pi]
    have e1:(x+4294967296*val xs)%4294967296=x:=by omega
    have e2:(x+4294967296*val xs)/4294967296=val xs:=by omega
    rw [e1,e2]
    congr 1
    exact ih (λz hz=>h z (by simp [hz])) (λz hz=>hl z (by
      cases xs with
      | nil=>simp at hz
      | cons y ys=>simpa using hz))
end
section
section
variable {P:Program} {Q:Exit->Act->World->Prop} {n:Nat} {F:List (Nat×Value)} {w0:BD} {L:List As} {c x y:Code}
def Tg {α:Sort _} (_:α):Prop:=True
theorem tg {α:Sort _} (a:α):Tg a:=trivial
def cy  (n:Nat) (w0:BD) (J:Prop) (FI:List (Nat×Value)) (LI:List As) (Q:Exit->Act->World->Prop):Exit->Act->World->Prop :=
  Exit.then (λa w=>J/\Cx n a FI/\BH w0 w LI) Q
theorem OkC.join0  (J:Prop) (FI:List (Nat×Value)) (LI:List As) (h1:OkC P x (cy n w0 J FI LI Q) n F w0 L) (h2:J->OkQ Q .normal n FI w0 LI):OkC P x Q n F w0 L:=λa w ha hw=>by
  refine Code.wp_mono (λe a' w' hq=>?_) (h1 a w ha hw)
  cases e<;>first
    | (obtain ⟨h3,h4,h5⟩:=hq;exact h2 h3 a' w' h4 h5)
    | exact hq
theorem yF  {J:Prop} {FI:List (Nat×Value)} {LI:List As}  (hJ:J) (hs:CO FI F) (hl:(LI).Sublist L):OkQ (cy n w0 J FI LI Q) .normal n F w0 L:=λ_ _ ha hw=>⟨hJ,ha.sub hs,hw.weak hl⟩
theorem yb  {J:Prop} {FI:List (Nat×Value)} {LI:List As} (_:Tg J) (_:Tg FI) (_:Tg LI) (h1:OkC P x (cy n w0 J FI LI Q) n F w0 L) (h2:J->OkQ Q .normal n FI w0 LI):OkC P x Q n F w0 L:=OkC.join0 J FI LI h1 h2
theorem yP  {J:Prop} {FI:List (Nat×Value)} {LI:List As}  (h:OkQ Q (.ret) n F w0 L):OkQ (cy n w0 J FI LI Q) (.ret) n F w0 L:=h
def cz {α:Type} (n:Nat) (w0:BD) (J:α->Prop) (FI:α->List (Nat×Value)) (LI:α->List As) (Q:Exit->Act->World->Prop):Exit->Act->World->Prop :=
  Exit.then (λa w=>∃i',J i'/\Cx n a (FI i')/\BH w0 w (LI i')) Q
theorem OkC.join1 {α:Type} (J:α->Prop) (FI:α->List (Nat×Value)) (LI:α->List As) (h1:OkC P x (cz n w0 J FI LI Q) n F w0 L) (h2:∀i,J i->OkQ Q .normal n (FI i) w0 (LI i)):OkC P x Q n F w0 L:=λa w ha hw=>by
  refine Code.wp_mono (λe a' w' hq=>?_) (h1 a w ha hw)
  cases e<;>first
    | (obtain ⟨i,h3,h4,h5⟩:=hq;exact h2 i h3 a' w' h4 h5)
    | exact hq
theorem zh {α:Type} {J:α->Prop} {FI:α->List (Nat×Value)} {LI:α->List As} (i:α) (hJ:J i) (hs:CO (FI i) F) (hl:(LI i).Sublist L):OkQ (cz n w0 J FI LI Q) .normal n F w0 L:=λ_ _ ha hw=>⟨i,hJ,ha.sub hs,hw.weak hl⟩
theorem yG {α:Type} {J:α->Prop} {FI:α->List (Nat×Value)} {LI:α->List As} (_:Tg J) (_:Tg FI) (_:Tg LI) (h1:OkC P x (cz n w0 J FI LI Q) n F w0 L) (h2:∀i,J i->OkQ Q .normal n (FI i) w0 (LI i)):OkC P x Q n F w0 L:=OkC.join1 J FI LI h1 h2
theorem yZ {α:Type} {J:α->Prop} {FI:α->List (Nat×Value)} {LI:α->List As}  (h:OkQ Q (.ret) n F w0 L):OkQ (cz n w0 J FI LI Q) (.ret) n F w0 L:=h
def UB {α:Type} (n:Nat) (w0:BD) (J:α->Prop) (FI:α->List (Nat×Value)) (LI:α->List As) (m:α->Nat) (i:α) (Q:Exit->Act->World->Prop):Exit->Act->World->Prop :=
  Exit.then (λa w=>∃i',J i'/\m i'<m i/\Cx n a (FI i')/\BH w0 w (LI i')) Q
theorem OkC.loop1 {α:Type} (J:α->Prop) (FI:α->List (Nat×Value)) (LI:α->List As) (m:α->Nat) (round:∀i,J i->OkC P c (UB n w0 J FI LI m i Q) n (FI i) w0 (LI i))
    (i:α) (h:J i):OkC P (.loop c) Q n (FI i) w0 (LI i) :=
  yd (σ:=α) (λs=>J s) (λs=>FI s) (λs=>LI s) (λs=>m s) (λs hs a w ha hw=>by
    refine Code.wp_mono (λe a' w' hq=>?_) (round s hs a w ha hw)
    cases e<;>first
      | (obtain ⟨i',h1,h2,h3,h4⟩:=hq;exact ⟨i',h1,h2,h3,h4⟩)
      | exact hq) i h
theorem zy {α:Type} {J:α->Prop} {FI:α->List (Nat×Value)} {LI:α->List As} {m:α->Nat} (_:Tg J) (_:Tg FI) (_:Tg LI) (_:Tg m) (i:α) (h:J i) (hs:CO (FI i) F) (hl:(LI i).Sublist L)
    (round:∀i,J i->OkC P c (UB n w0 J FI LI m i Q) n (FI i) w0 (LI i)):OkC P (.loop c) Q n F w0 L:=yc hs hl (OkC.loop1 J FI LI m round i h)
theorem zm {α:Type} {J:α->Prop} {FI:α->List (Nat×Value)} {LI:α->List As} {m:α->Nat} {i:α} (i':α) (hJ:J i') (hm:m i'<m i) (hs:CO (FI i') F) (hl:(LI i').Sublist L):OkQ (UB n w0 J FI LI m i Q) .normal n F w0 L:=λ_ _ ha hw=>⟨i',hJ,hm,ha.sub hs,hw.weak hl⟩
theorem z7 {α:Type} {J:α->Prop} {FI:α->List (Nat×Value)} {LI:α->List As} {m:α->Nat} {i:α}  (h:OkQ Q (.ret) n F w0 L):OkQ (UB n w0 J FI LI m i Q) (.ret) n F w0 L:=h
theorem zY {α:Type} {J:α->Prop} {FI:α->List (Nat×Value)} {LI:α->List As} {m:α->Nat} {i:α} {id:Nat} (h:OkQ Q (.exit id) n F w0 L):OkQ (UB n w0 J FI LI m i Q) (.exit id) n F w0 L:=h
def dM {α β:Type} (n:Nat) (w0:BD) (J:α->β->Prop) (FI:α->β->List (Nat×Value)) (LI:α->β->List As) (Q:Exit->Act->World->Prop):Exit->Act->World->Prop :=
  Exit.then (λa w=>∃i' j',J i' j'/\Cx n a (FI i' j')/\BH w0 w (LI i' j')) Q
theorem OkC.join2 {α β:Type} (J:α->β->Prop) (FI:α->β->List (Nat×Value)) (LI:α->β->List As) (h1:OkC P x (dM n w0 J FI LI Q) n F w0 L) (h2:∀i j,J i j->OkQ Q .normal n (FI i j) w0 (LI i j)):OkC P x Q n F w0 L:=λa w ha hw=>by
  refine Code.wp_mono (λe a' w' hq=>?_) (h1 a w ha hw)
  cases e<;>first
    | (obtain ⟨i,j,h3,h4,h5⟩:=hq;exact h2 i j h3 a' w' h4 h5)
    | exact hq
theorem yK {α β:Type} {J:α->β->Prop} {FI:α->β->List (Nat×Value)} {LI:α->β->List As} (i:α) (j:β) (hJ:J i j) (hs:CO (FI i j) F) (hl:(LI i j).Sublist L):OkQ (dM n w0 J FI LI Q) .normal n F w0 L:=λ_ _ ha hw=>⟨i,j,hJ,ha.sub hs,hw.weak hl⟩
theorem yh {α β:Type} {J:α->β->Prop} {FI:α->β->List (Nat×Value)} {LI:α->β->List As} (_:Tg J) (_:Tg FI) (_:Tg LI) (h1:OkC P x (dM n w0 J FI LI Q) n F w0 L) (h2:∀i j,J i j->OkQ Q .normal n (FI i j) w0 (LI i j)):OkC P x Q n F w0 L:=OkC.join2 J FI LI h1 h2
def XT {α β:Type} (n:Nat) (w0:BD) (J:α->β->Prop) (FI:α->β->List (Nat×Value)) (LI:α->β->List As) (m:α->β->Nat) (i:α) (j:β) (Q:Exit->Act->World->Prop):Exit->Act->World->Prop :=
  Exit.then (λa w=>∃i' j',J i' j'/\m i' j'<m i j/\Cx n a (FI i' j')/\BH w0 w (LI i' j')) Q
theorem OkC.loop2 {α β:Type} (J:α->β->Prop) (FI:α->β->List (Nat×Value)) (LI:α->β->List As) (m:α->β->Nat) (round:∀i j,J i j->OkC P c (XT n w0 J FI LI m i j Q) n (FI i j) w0 (LI i j))
    (i:α) (j:β) (h:J i j):OkC P (.loop c) Q n (FI i j) w0 (LI i j) :=
  yd (σ:=α×β) (λs=>J s.1 s.2) (λs=>FI s.1 s.2) (λs=>LI s.1 s.2) (λs=>m s.1 s.2) (λs hs a w ha hw=>by
    refine Code.wp_mono (λe a' w' hq=>?_) (round s.1 s.2 hs a w ha hw)
    cases e<;>first
      | (obtain ⟨i',j',h1,h2,h3,h4⟩:=hq;exact ⟨(i',j'),h1,h2,h3,h4⟩)
      | exact hq) (i,j) h
theorem yE {α β:Type} {J:α->β->Prop} {FI:α->β->List (Nat×Value)} {LI:α->β->List As} {m:α->β->Nat} (_:Tg J) (_:Tg FI) (_:Tg LI) (_:Tg m) (i:α) (j:β) (h:J i j) (hs:CO (FI i j) F) (hl:(LI i j).Sublist L)
    (round:∀i j,J i j->OkC P c (XT n w0 J FI LI m i j Q) n (FI i j) w0 (LI i j)):OkC P (.loop c) Q n F w0 L:=yc hs hl (OkC.loop2 J FI LI m round i j h)
theorem zn {α β:Type} {J:α->β->Prop} {FI:α->β->List (Nat×Value)} {LI:α->β->List As} {m:α->β->Nat} {i:α} {j:β} (i':α) (j':β) (hJ:J i' j') (hm:m i' j'<m i j) (hs:CO (FI i' j') F) (hl:(LI i' j').Sublist L):OkQ (XT n w0 J FI LI m i j Q) .normal n F w0 L:=λ_ _ ha hw=>⟨i',j',hJ,hm,ha.sub hs,hw.weak hl⟩
theorem zl {α β:Type} {J:α->β->Prop} {FI:α->β->List (Nat×Value)} {LI:α->β->List As} {m:α->β->Nat} {i:α} {j:β} {id:Nat} (h:OkQ Q (.exit id) n F w0 L):OkQ (XT n w0 J FI LI m i j Q) (.exit id) n F w0 L:=h
def XU {α β γ:Type} (n:Nat) (w0:BD) (J:α->β->γ->Prop) (FI:α->β->γ->List (Nat×Value)) (LI:α->β->γ->List As) (m:α->β->γ->Nat) (i:α) (j:β) (k:γ) (Q:Exit->Act->World->Prop):Exit->Act->World->Prop :=
  Exit.then (λa w=>∃i' j' k',J i' j' k'/\m i' j' k'<m i j k/\Cx n a (FI i' j' k')/\BH w0 w (LI i' j' k')) Q
theorem OkC.loop3 {α β γ:Type} (J:α->β->γ->Prop) (FI:α->β->γ->List (Nat×Value)) (LI:α->β->γ->List As) (m:α->β->γ->Nat) (round:∀i j k,J i j k->OkC P c (XU n w0 J FI LI m i j k Q) n (FI i j k) w0 (LI i j k))
    (i:α) (j:β) (k:γ) (h:J i j k):OkC P (.loop c) Q n (FI i j k) w0 (LI i j k) :=
  yd (σ:=α×β×γ) (λs=>J s.1 s.2.1 s.2.2) (λs=>FI s.1 s.2.1 s.2.2) (λs=>LI s.1 s.2.1 s.2.2) (λs=>m s.1 s.2.1 s.2.2) (λs hs a w ha hw=>by
    refine Code.wp_mono (λe a' w' hq=>?_) (round s.1 s.2.1 s.2.2 hs a w ha hw)
    cases e<;>first
      | (obtain ⟨i',j',k',h1,h2,h3,h4⟩:=hq;exact ⟨(i',j',k'),h1,h2,h3,h4⟩)
      | exact hq) (i,j,k) h
theorem yQ {α β γ:Type} {J:α->β->γ->Prop} {FI:α->β->γ->List (Nat×Value)} {LI:α->β->γ->List As} {m:α->β->γ->Nat} (_:Tg J) (_:Tg FI) (_:Tg LI) (_:Tg m) (i:α) (j:β) (k:γ) (h:J i j k) (hs:CO (FI i j k) F) (hl:(LI i j k).Sublist L)
    (round:∀i j k,J i j k->OkC P c (XU n w0 J FI LI m i j k Q) n (FI i j k) w0 (LI i j k)):OkC P (.loop c) Q n F w0 L:=yc hs hl (OkC.loop3 J FI LI m round i j k h)
theorem yM {α β γ:Type} {J:α->β->γ->Prop} {FI:α->β->γ->List (Nat×Value)} {LI:α->β->γ->List As} {m:α->β->γ->Nat} {i:α} {j:β} {k:γ} (i':α) (j':β) (k':γ) (hJ:J i' j' k') (hm:m i' j' k'<m i j k) (hs:CO (FI i' j' k') F) (hl:(LI i' j' k').Sublist L):OkQ (XU n w0 J FI LI m i j k Q) .normal n F w0 L:=λ_ _ ha hw=>⟨i',j',k',hJ,hm,ha.sub hs,hw.weak hl⟩
theorem yB {α β γ:Type} {J:α->β->γ->Prop} {FI:α->β->γ->List (Nat×Value)} {LI:α->β->γ->List As} {m:α->β->γ->Nat} {i:α} {j:β} {k:γ} {id:Nat} (h:OkQ Q (.exit id) n F w0 L):OkQ (XU n w0 J FI LI m i j k Q) (.exit id) n F w0 L:=h
def XV {α β γ δ:Type} (n:Nat) (w0:BD) (J:α->β->γ->δ->Prop) (FI:α->β->γ->δ->List (Nat×Value)) (LI:α->β->γ->δ->List As) (m:α->β->γ->δ->Nat) (i:α) (j:β) (k:γ) (l:δ) (Q:Exit->Act->World->Prop):Exit->Act->World->Prop :=
  Exit.then (λa w=>∃i' j' k' l',J i' j' k' l'/\m i' j' k' l'<m i j k l/\Cx n a (FI i' j' k' l')/\BH w0 w (LI i' j' k' l')) Q
theorem OkC.loop4 {α β γ δ:Type} (J:α->β->γ->δ->Prop) (FI:α->β->γ->δ->List (Nat×Value)) (LI:α->β->γ->δ->List As) (m:α->β->γ->δ->Nat) (round:∀i j k l,J i j k l->OkC P c (XV n w0 J FI LI m i j k l Q) n (FI i j k l) w0 (LI i j k l))
    (i:α) (j:β) (k:γ) (l:δ) (h:J i j k l):OkC P (.loop c) Q n (FI i j k l) w0 (LI i j k l) :=
  yd (σ:=α×β×γ×δ) (λs=>J s.1 s.2.1 s.2.2.1 s.2.2.2) (λs=>FI s.1 s.2.1 s.2.2.1 s.2.2.2) (λs=>LI s.1 s.2.1 s.2.2.1 s.2.2.2) (λs=>m s.1 s.2.1 s.2.2.1 s.2.2.2) (λs hs a w ha hw=>by
    refine Code.wp_mono (λe a' w' hq=>?_) (round s.1 s.2.1 s.2.2.1 s.2.2.2 hs a w ha hw)
    cases e<;>first
      | (obtain ⟨i',j',k',l',h1,h2,h3,h4⟩:=hq;exact ⟨(i',j',k',l'),h1,h2,h3,h4⟩)
      | exact hq) (i,j,k,l) h
theorem yR {α β γ δ:Type} {J:α->β->γ->δ->Prop} {FI:α->β->γ->δ->List (Nat×Value)} {LI:α->β->γ->δ->List As} {m:α->β->γ->δ->Nat} (_:Tg J) (_:Tg FI) (_:Tg LI) (_:Tg m) (i:α) (j:β) (k:γ) (l:δ) (h:J i j k l) (hs:CO (FI i j k l) F) (hl:(LI i j k l).Sublist L)
    (round:∀i j k l,J i j k l->OkC P c (XV n w0 J FI LI m i j k l Q) n (FI i j k l) w0 (LI i j k l)):OkC P (.loop c) Q n F w0 L:=yc hs hl (OkC.loop4 J FI LI m round i j k l h)
theorem z8 {α β γ δ:Type} {J:α->β->γ->δ->Prop} {FI:α->β->γ->δ->List (Nat×Value)} {LI:α->β->γ->δ->List As} {m:α->β->γ->δ->Nat} {i:α} {j:β} {k:γ} {l:δ} (i':α) (j':β) (k':γ) (l':δ) (hJ:J i' j' k' l') (hm:m i' j' k' l'<m i j k l) (hs:CO (FI i' j' k' l') F) (hl:(LI i' j' k' l').Sublist L):OkQ (XV n w0 J FI LI m i j k l Q) .normal n F w0 L:=λ_ _ ha hw=>⟨i',j',k',l',hJ,hm,ha.sub hs,hw.weak hl⟩
theorem yC {α β γ δ:Type} {J:α->β->γ->δ->Prop} {FI:α->β->γ->δ->List (Nat×Value)} {LI:α->β->γ->δ->List As} {m:α->β->γ->δ->Nat} {i:α} {j:β} {k:γ} {l:δ} {id:Nat} (h:OkQ Q (.exit id) n F w0 L):OkQ (XV n w0 J FI LI m i j k l Q) (.exit id) n F w0 L:=h
def XW {α β γ δ ε:Type} (n:Nat) (w0:BD) (J:α->β->γ->δ->ε->Prop) (FI:α->β->γ->δ->ε->List (Nat×Value)) (LI:α->β->γ->δ->ε->List As) (m:α->β->γ->δ->ε->Nat) (i:α) (j:β) (k:γ) (l:δ) (o:ε) (Q:Exit->Act->World->Prop):Exit->Act->World->Prop :=
  Exit.then (λa w=>∃i' j' k' l' o',J i' j' k' l' o'/\m i' j' k' l' o'<m i j k l o/\Cx n a (FI i' j' k' l' o')/\BH w0 w (LI i' j' k' l' o')) Q
theorem OkC.loop5 {α β γ δ ε:Type} (J:α->β->γ->δ->ε->Prop) (FI:α->β->γ->δ->ε->List (Nat×Value)) (LI:α->β->γ->δ->ε->List As) (m:α->β->γ->δ->ε->Nat) (round:∀i j k l o,J i j k l o->OkC P c (XW n w0 J FI LI m i j k l o Q) n (FI i j k l o) w0 (LI i j k l o))
    (i:α) (j:β) (k:γ) (l:δ) (o:ε) (h:J i j k l o):OkC P (.loop c) Q n (FI i j k l o) w0 (LI i j k l o) :=
  yd (σ:=α×β×γ×δ×ε) (λs=>J s.1 s.2.1 s.2.2.1 s.2.2.2.1 s.2.2.2.2) (λs=>FI s.1 s.2.1 s.2.2.1 s.2.2.2.1 s.2.2.2.2) (λs=>LI s.1 s.2.1 s.2.2.1 s.2.2.2.1 s.2.2.2.2) (λs=>m s.1 s.2.1 s.2.2.1 s.2.2.2.1 s.2.2.2.2) (λs hs a w ha hw=>by
    refine Code.wp_mono (λe a' w' hq=>?_) (round s.1 s.2.1 s.2.2.1 s.2.2.2.1 s.2.2.2.2 hs a w ha hw)
    cases e<;>first
      | (obtain ⟨i',j',k',l',o',h1,h2,h3,h4⟩:=hq;exact ⟨(i',j',k',l',o'),h1,h2,h3,h4⟩)
      | exact hq) (i,j,k,l,o) h
theorem OkC.lp5 {α β γ δ ε:Type} {J:α->β->γ->δ->ε->Prop} {FI:α->β->γ->δ->ε->List (Nat×Value)} {LI:α->β->γ->δ->ε->List As} {m:α->β->γ->δ->ε->Nat} (_:Tg J) (_:Tg FI) (_:Tg LI) (_:Tg m) (i:α) (j:β) (k:γ) (l:δ) (o:ε) (h:J i j k l o) (hs:CO (FI i j k l o) F) (hl:(LI i j k l o).Sublist L)
    (round:∀i j k l o,J i j k l o->OkC P c (XW n w0 J FI LI m i j k l o Q) n (FI i j k l o) w0 (LI i j k l o)):OkC P (.loop c) Q n F w0 L:=yc hs hl (OkC.loop5 J FI LI m round i j k l o h)
theorem OkQ.round5 {α β γ δ ε:Type} {J:α->β->γ->δ->ε->Prop} {FI:α->β->γ->δ->ε->List (Nat×Value)} {LI:α->β->γ->δ->ε->List As} {m:α->β->γ->δ->ε->Nat} {i:α} {j:β} {k:γ} {l:δ} {o:ε} (i':α) (j':β) (k':γ) (l':δ) (o':ε) (hJ:J i' j' k' l' o') (hm:m i' j' k' l' o'<m i j k l o) (hs:CO (FI i' j' k' l' o') F) (hl:(LI i' j' k' l' o').Sublist L):OkQ (XW n w0 J FI LI m i j k l o Q) .normal n F w0 L:=λ_ _ ha hw=>⟨i',j',k',l',o',hJ,hm,ha.sub hs,hw.weak hl⟩
theorem OkQ.round5_exit {α β γ δ ε:Type} {J:α->β->γ->δ->ε->Prop} {FI:α->β->γ->δ->ε->List (Nat×Value)} {LI:α->β->γ->δ->ε->List As} {m:α->β->γ->δ->ε->Nat} {i:α} {j:β} {k:γ} {l:δ} {o:ε} {id:Nat} (h:OkQ Q (.exit id) n F w0 L):OkQ (XW n w0 J FI LI m i j k l o Q) (.exit id) n F w0 L:=h
end
end
end Go.Proofs.YtbfdamnfcmefmaaGreatDoor
