import Derived.Laws.MakeOwn
import Derived.Laws.OwnMore
import Derived.Laws.BytesString
import Derived.Laws.BytesArg
import Derived.Laws.CopyRow
import Derived.Test.YtpolhpjiahbidaaGreatDoorPart01
namespace Go.Proofs.YtpolhpjiahbidaaGreatDoor
open Go Go.RowKit Go.Proofs.Tryz
open Go.Value renaming slice→qz,bool→qa
set_option linter.unusedVariables false
set_option linter.unusedSimpArgs false
section
def R4 (f:Nat) (v:Nat):List Nat :=
  match f with
  | 0=>[]
  | f+1=>if v=0 then [] else v%4294967296::R4 f (v/4294967296)
def AJ (v:Nat):List Nat:=R4 v v
def Tw (x:Nat):List UInt8:=[(x%256).toUInt8,(x/256%256).toUInt8,(x/65536%256).toUInt8,(x/16777216%256).toUInt8]
def small (v:Nat):Bool:=decide (v<18446744073709551616)
def CC (v:Nat):Nat:=if small v then v else 0
def Bo (v:Nat):ByteArray:=if small v then ByteArray.empty else ⟨((AJ v).flatMap Tw).toArray⟩
def AU (v:Nat):List Value:=[.int .u64 (CC v:Nat),.string (Bo v)]
def A8 (z:Int):List Value:=[.int .u64 (CC z.natAbs:Nat),.string (Bo z.natAbs),.bool (decide (z<0))]
def AC (q:Rat):List Value:=[.int .u64 (CC q.num.natAbs:Nat),.string (Bo q.num.natAbs),.bool (decide (q.num<0)),.int .u64 (CC (q.den-1):Nat),.string (Bo (q.den-1))]
@[ext] structure Pt where
  x:Rat
  y:Rat
def AZ (p:Pt):List Value:=AC p.x++AC p.y
theorem BJ {z:Int} (h:-9223372036854775808<=z) (h':z<9223372036854775808):IntKind.i64.wrap z=z:=by
  simp only [IntKind.wrap,IntKind.bits,IntKind.signed];simp;split<;>omega
theorem EK {z:Int} (h:0<=z) (h':z<18446744073709551616):IntKind.u64.wrap z=z:=by
  simp only [IntKind.wrap,IntKind.bits,IntKind.signed];simp;omega
theorem HG {z:Int} (h:0<=z) (h':z<4294967296):IntKind.u32.wrap z=z:=by
  simp only [IntKind.wrap,IntKind.bits,IntKind.signed];simp;omega
theorem N4 {z:Int} (h:0<=z) (h':z<256):IntKind.u8.wrap z=z:=by
  simp only [IntKind.wrap,IntKind.bits,IntKind.signed];simp;omega
theorem AV {a b:Nat} (h:a+b<9223372036854775808):IntKind.i64.wrap ((a:Int)+(b:Int))=((a+b:Nat):Int):=by rw [BJ Z Z];omega
theorem CZ {a b:Nat} (h:b<=a) (h':a<9223372036854775808):IntKind.i64.wrap ((a:Int)-(b:Int))=((a-b:Nat):Int):=by rw [BJ Z Z];omega
theorem DP {a b:Nat} (h:a*b<9223372036854775808):IntKind.i64.wrap ((a:Int)*(b:Int))=((a*b:Nat):Int):=by
  rw [<-Int.natCast_mul,BJ Z Z]
theorem Dn {a b:Nat} (h:a+b<18446744073709551616):IntKind.u64.wrap ((a:Int)+(b:Int))=((a+b:Nat):Int):=by rw [EK Z Z];omega
theorem In {a b:Nat} (h:b<=a) (h':a<18446744073709551616):IntKind.u64.wrap ((a:Int)-(b:Int))=((a-b:Nat):Int):=by rw [EK Z Z];omega
theorem FL {a b:Nat} (h:a*b<18446744073709551616):IntKind.u64.wrap ((a:Int)*(b:Int))=((a*b:Nat):Int):=by
  rw [<-Int.natCast_mul,EK Z Z]
theorem CJ {a:Nat} (h:a<9223372036854775808):IntKind.i64.wrap (a:Int)=(a:Int):=BJ Z Z
theorem BY {a:Nat} (h:a<18446744073709551616):IntKind.u64.wrap (a:Int)=(a:Int):=EK Z Z
theorem Cg {a:Nat} (h:a<4294967296):IntKind.u32.wrap (a:Int)=(a:Int):=HG Z Z
theorem UG {a:Nat} (h:a<256):IntKind.u8.wrap (a:Int)=(a:Int):=N4 Z Z
theorem Ef {a:Nat}:IntKind.u32.wrap (a:Int)=((a%4294967296:Nat):Int):=by
  simp only [IntKind.wrap,IntKind.bits,IntKind.signed];simp
theorem KG {a:Nat}:IntKind.u8.wrap (a:Int)=((a%256:Nat):Int):=by
  simp only [IntKind.wrap,IntKind.bits,IntKind.signed];simp
theorem DB {a b:Nat}:decide ((a:Int)<(b:Int))=decide (a<b):=decide_eq_decide.2 Z
theorem Xx {a b:Nat}:decide ((a:Int)<=(b:Int))=decide (a<=b):=decide_eq_decide.2 Z
theorem N9 {a b:Nat}:decide ((a:Int)=(b:Int))=decide (a=b):=decide_eq_decide.2 Z
theorem aR {a b:Nat}:decide ((a:Int)≠(b:Int))=decide (a≠b):=decide_eq_decide.2 Z
theorem Ox {a b:Nat} (h:a<9223372036854775808):IntKind.i64.wrap ((a:Int).tdiv (b:Int))=((a/b:Nat):Int):=by
  have:a/b<=a:=Nat.div_le_self _ _
  rw [<-Int.ofNat_tdiv]
  generalize a/b=q at *
  exact BJ Z Z
theorem LZ {a b:Nat} (h:a<18446744073709551616):IntKind.u64.wrap ((a:Int).tdiv (b:Int))=((a/b:Nat):Int):=by
  have:a/b<=a:=Nat.div_le_self _ _
  rw [<-Int.ofNat_tdiv]
  generalize a/b=q at *
  exact EK Z Z
theorem Ij {a b:Nat}:((a:Int).tmod (b:Int))=((a%b:Nat):Int):=(Int.ofNat_tmod a b).symm
theorem GY {a s:Nat}:(a:Int)/2^s=((a/2^s:Nat):Int):=by simp
theorem Dq:prog.follows .mixedOrders=true:=by kernel_rfl
theorem JU.nil {P:Program} {n:Nat} {l:List Oper} {specs:List Sp} {F:List (Nat×Value)} {w0:BC} {Lro L:List As} {os:List Oper}:JU P n l specs F w0 Lro L os []:=by
  cases os<;>trivial
theorem zp {P:Program} {ops:Array Oper} {rest:List Oper} {Q:Exit->Act->World->Prop} {n:Nat} {F:List (Nat×Value)} {w0:BC} {L L':List As} {v:Value} {x y:Operand} {d:Option Tmp} {t:TypeId} {p:String} {af:Array Edge} {g:Option (Nat×Bool)}
    {i b off:Nat} {ty T:TypeId} {cs vs cs':List Value} (hw:Wt ops n F ⟨d,.store ty x y,t,p,af,g⟩) (ho:d=none) (hx:evF F x=some (.pointer (some ⟨b,off,none⟩))) (hy:evF F y=some v) (hi:L[i]?=some (AX b T cs))
    (hv:v.cells=vs.toArray) (hs:∀w,(sizeOf ty).run P w=.ok vs.length w) (h1:(vs.all λu=>u.oneCell')=true) (hl:Nat.ble (off+vs.length) cs.length=true)
    (hc:Gd cs off vs=cs') (hL:L.set i (AX b T cs')=L') (next:AR P ops rest Q n F w0 L'):AR P ops (⟨d,.store ty x y,t,p,af,g⟩::rest) Q n F w0 L:=by
  subst hc;subst hL
  exact AR.store hw (Ot hx hy hi hv hs h1 hl) ho hi next
theorem z8 {P:Program} {ops:Array Oper} {rest:List Oper} {Q:Exit->Act->World->Prop} {n:Nat} {F:List (Nat×Value)} {w0:BC} {L:List As} {o:Oper} {d:Nat} {f:FuncId} {args:Array Value} {V:Nat->Value} {T:TypeId} {cs:List Value} (hw:Wt ops n F o)
    (he:∀a w,Ce n a F->BD w0 w L->(execOp a.eval o).run P w=.ok (.enter f args) w)
    (hc:∀w,BD w0 w L->Calls P f args w λe w'=>∃b,e=.returned (V b)/\Fr w.heap.size w w'/\w.heap.size<=b/\w'.heap[b]?=some (.cells cs.toArray T (0,0)))
    (ho:o.dst=some d) (hd:d<n) (next:∀b,AR P ops rest Q n ((d,V b)::F) w0 (AX b T cs::L)):AR P ops (o::rest) Q n F w0 L:=λa w ha hW=>by
  unfold wpList
  rw [if_pos (hw a ha)]
  left
  unfold Oper.wp
  rw [he a w ha hW,Oper.upon_enter]
  refine (hc w hW).mono ?_
  rintro e w' ⟨b,rfl,hb,hlt,hcell⟩
  rw [ho]
  exact next b _ _ (ha.put hd) (hW.add O hb hlt ⟨_,hcell,rfl⟩)
theorem yW {P:Program} {ops:Array Oper} {rest:List Oper} {Q:Exit->Act->World->Prop} {n:Nat} {F:List (Nat×Value)} {w0:BC} {L L':List As} {o:Oper} {f:FuncId} {args:Array Value} {v:Value} {i b:Nat} {T:TypeId} {cs cs':List Value} (hw:Wt ops n F o)
    (he:∀a w,Ce n a F->BD w0 w L->(execOp a.eval o).run P w=.ok (.enter f args) w) (hi:L[i]?=some (AX b T cs))
    (hc:∀w,BD w0 w L->Calls P f args w λe w'=>e=.returned v/\Jm w w' (some b)/\w'.heap[b]?=some (.cells cs'.toArray T (0,0)))
    (hd:∀d,o.dst=some d->d<n) (hL:L.set i (AX b T cs')=L') (next:AR P ops rest Q n (match o.dst with|some d=>(d,v)::F|none=>F) w0 L'):AR P ops (o::rest) Q n F w0 L:=λa w ha hW=>by
  subst hL
  unfold wpList
  rw [if_pos (hw a ha)]
  left
  unfold Oper.wp
  rw [he a w ha hW,Oper.upon_enter]
  refine (hc w hW).mono ?_
  rintro e w' ⟨rfl,hg,hcell⟩
  have hW':=hW.turn hi rfl rfl hg ⟨_,hcell,rfl⟩ (y:=AX b T cs')
  cases hdst:o.dst with
  | none=>rw [hdst] at next;exact next _ _ ha.put_none hW'
  | some d=>rw [hdst] at next;exact next _ _ (ha.put (hd d hdst)) hW'
abbrev pP (b o:Nat):Value:=.pointer (some ⟨b,o,none⟩)
abbrev aG (l:List Value):Value:=.agg l.toArray
abbrev vI (z:Int):Value:=.int .i64 z
abbrev vN (n:Nat):Value:=.int .i64 (n:Int)
abbrev vK (k:IntKind) (n:Nat):Value:=.int k (n:Int)
theorem BA {a b:Nat} (h:Nat.ble a b=true):a<=b:=Nat.le_of_ble_eq_true h
theorem sN {F:List (Nat×Value)}:B_ [] F:=trivial
theorem sS {k:Nat} {v:Value} {r F:List (Nat×Value)} (h:F.lookup k=some v) (t:B_ r F):B_ ((k,v)::r) F:=⟨h,t⟩
def Zi (F:List (Nat×Value)):List (Nat×Value)->List (Option Value)
  | []=>[]
  | p::r=>F.lookup p.1::Zi F r
def Yp:List (Nat×Value)->List (Option Value)
  | []=>[]
  | p::r=>some p.2::Yp r
theorem sF:∀{F' F:List (Nat×Value)},Zi F F'=Yp F'->B_ F' F
  | [],_,_=>trivial
  | _::_,_,h=>by
    simp only [Zi,Yp,List.cons.injEq] at h
    exact ⟨h.1,sF h.2⟩
theorem vC {P:Program} {n:Nat} {l:List Oper} {specs:List Sp} {F:List (Nat×Value)} {w0:BC} {Lro L:List As} {o:Oper} {os:List Oper} {s:Sp} {ss:List Sp} (h:Vc P n l specs F w0 Lro L o s) (t:JU P n l specs F w0 Lro L os ss) :
    JU P n l specs F w0 Lro L (o::os) (s::ss):=⟨h,t⟩
theorem dN {j:Nat}:Hq j []:=trivial
theorem dC {j:Nat} {kd:Kd} {v:Value} {ks:List Nat} {A:Value->List As} {C:Value->Prop} {ss:List Sp} (t:Hq (j+1) ss):Hq j (⟨kd,λ_=>v,ks,A,C⟩::ss):=⟨λ_ _ _ _=>rfl,t⟩
section
variable {P:Program} {ops:Array Oper} {rest:List Oper} {Q:Exit->Act->World->Prop} {n d:Nat} {F F':List (Nat×Value)} {w0:BC} {L Lro:List As} {op:Op} {t:TypeId} {p:String} {af:Array Edge} {v:Value} {l:List Oper} {specs:List Sp}
theorem zM {c:Code} (hs:B_ F' F) (h:OkC P c Q n F' w0 L):OkC P c Q n F w0 L:=yf hs (xR _) h
theorem zB {e:Exit} (hs:B_ F' F) (h:OkQ Q e n F' w0 L):OkQ Q e n F w0 L:=OkQ.sub hs (xR _) h
theorem st (he:Ex P n F w0 L ⟨some d,op,t,p,af,none⟩ v) (hd:d<n) (next:AR P ops rest Q n ((d,v)::F) w0 L):AR P ops (⟨some d,op,t,p,af,none⟩::rest) Q n F w0 L:=AR.step (AI rfl) he rfl hd next
theorem q1 {x y:Code} (h:OkC P x (Exit.then (y.wp P Q) Q) n F w0 L):OkQ (Exit.then ((Code.seq x y).wp P Q) Q) .normal n F w0 L:=zA (zX h)
theorem q2 {id:Nat} {y:Code} (h:AR P l.toArray l (Exit.then (y.wp P Q) Q) n F w0 L):OkQ (Exit.then ((Code.seq (.region id l.toArray false) y).wp P Q) Q) .normal n F w0 L:=q1 (zH h)
theorem q3 {id:Nat} {y:Code} (hs:B_ F' F) (h:AR P l.toArray l (Exit.then (y.wp P Q) Q) n F' w0 L):AR P ops [] (Exit.then ((Code.seq (.region id l.toArray false) y).wp P Q) Q) n F w0 L:=AR.nil (zB hs (q2 h))
theorem q4 {id:Nat} {y:Code} (h:AR P l.toArray l (Exit.then (y.wp P Q) Q) n F w0 L):OkC P (Code.seq (.region id l.toArray false) y) Q n F w0 L:=zX (zH h)
theorem q5 {id:Nat} {y:Code} (hs:B_ F' F) (h:AR P l.toArray l (Exit.then (y.wp P Q) Q) n F' w0 L):Ea P ops [] (Exit.then ((Code.seq (.region id l.toArray false) y).wp P Q) Q) n F w0 Lro L:=Ea.nil (zB hs (q2 h))
theorem q6 {x y:Code} (hs:B_ F' F) (h:OkC P x (Exit.then (y.wp P Q) Q) n F' w0 L):AR P ops [] (Exit.then ((Code.seq x y).wp P Q) Q) n F w0 L:=AR.nil (zB hs (q1 h))
theorem Ar {x:Operand} {f:FuncId} {xs:List Operand} {args:List Value} {ts:Array TypeId} {dd:Option Tmp} {g:Option (Nat×Bool)} (hf:evF F x=some (.func (.func f) #[] #[])) (hargs:xs.map (evF F)=args.map some)
    (hc:∀args w,(callFunc f args).run P w=.ok (.enter f args) w) :
    ∀a w,Ce n a F->BD w0 w L->(execOp a.eval ⟨dd,.call { callee:=.value x,args:=xs.toArray,argTypes:=ts },t,p,af,g⟩).run P w=.ok (.enter f args.toArray) w :=
  Df (caps:=[]) hf hargs (List.append_nil _) hc
theorem GB {v:(Nat->Value)->Value} {ks:List Nat} {G:(Nat->Value)->List (Nat×Value)} {dd:Option Tmp} (hG:∀β,B_ (G β) (Ih l specs β ⟨dd,op,t,p,af,none⟩++F)) (h:∀β,Ex P n (G β) w0 (CS specs β ks++L) ⟨dd,op,t,p,af,none⟩ (v β)):Vc P n l specs F w0 Lro L ⟨dd,op,t,p,af,none⟩ ⟨.look,v,ks,Y3,Y4⟩:=Yn hG (λ_=>AI rfl) h
end
theorem Cc {F F':List (Nat×Value)} (h:B_ F' F:=by repeat (first|exact sN|refine sS (by first|rfl|(rw [hg1];rfl)|rw [hg1]) ?_)):B_ F' F:=h
theorem Hi {F F':List (Nat×Value)} (h:B_ F' F:=by repeat (first|exact sN|refine sS (by first|rfl|(rw [hg2];rfl)|rw [hg2]) ?_)):B_ F' F:=h
theorem PJ {F F':List (Nat×Value)} (h:B_ F' F:=by repeat (first|exact sN|refine sS (by first|rfl|(rw [hg3];rfl)|rw [hg3]) ?_)):B_ F' F:=h
theorem PK {F F':List (Nat×Value)} (h:B_ F' F:=by repeat (first|exact sN|refine sS (by first|rfl|(rw [hg4];rfl)|rw [hg4]) ?_)):B_ F' F:=h
theorem PL {F F':List (Nat×Value)} (h:B_ F' F:=by repeat (first|exact sN|refine sS (by first|rfl|(rw [hg5];rfl)|rw [hg5]) ?_)):B_ F' F:=h
theorem Yr {F F':List (Nat×Value)} (h:B_ F' F:=by repeat (first|exact sN|refine sS (by first|rfl|(rw [hg6];rfl)|rw [hg6]) ?_)):B_ F' F:=h
theorem bh {F F':List (Nat×Value)} (h:B_ F' F:=by repeat (first|exact sN|refine sS (by first|rfl|(rw [hg7];rfl)|rw [hg7]) ?_)):B_ F' F:=h
theorem bj {F F':List (Nat×Value)} (h:B_ F' F:=by repeat (first|exact sN|refine sS (by first|rfl|(rw [hg8];rfl)|rw [hg8]) ?_)):B_ F' F:=h
theorem bn {F F':List (Nat×Value)} (h:B_ F' F:=by repeat (first|exact sN|refine sS (by first|rfl|(rw [hg9];rfl)|rw [hg9]) ?_)):B_ F' F:=h
end
section
def Ak (xs:List Nat):List Value:=xs.map λx=>.int .u32 (x:Nat)
def J5 (xs:List Nat):List Value:=xs.map λx=>.int .u8 (x:Nat)
theorem BS (xs:List Nat):(Ak xs).length=xs.length:=by simp [Ak]
theorem IC (xs:List Nat):(J5 xs).length=xs.length:=by simp [J5]
theorem BH {xs:List Nat} {j:Nat} (h:j<xs.length):(Ak xs)[j]?=some (.int .u32 ((xs.getD j 0:Nat):Int)):=by
  simp [Ak,h]
theorem CN {xs:List Nat} {j v:Nat} (h:j<xs.length):Gd (Ak xs) j [.int .u32 (v:Nat)]=Ak (xs.set j v):=by
  unfold Gd Ak
  rw [List.set_eq_take_append_cons_drop,if_pos h]
  simp
theorem WP (xs:List Nat):∀u∈Ak xs,u.oneCell'=true:=by
  intro u hu
  obtain ⟨x,_,rfl⟩:=List.mem_map.1 hu
  rfl
section
variable {P:Program} {n:Nat} {F:List (Nat×Value)} {w0:BC} {L:List As} {v u:Value} {x y z:Operand} {d:Option Tmp} {t:TypeId} {p:String} {af:Array Edge} {g:Option (Nat×Bool)}
theorem BD.oldCA {w:World} (hW:BD w0 w L) {b off:Nat} {vs:List Value} (hne:some b≠w0.ex) (h:CA w0.w b off vs):CA w b off vs:=λj u hu=>by
  have h1:=h j u hu
  have hlt:=World.block_lt_of_cell? _ _ h1
  rw [<-h1]
  exact World.cell?_of_block (hW.1.block b hlt hne)
theorem CA.at0 {w:World} {b j:Nat} {vs:List Value} (h:CA w b 0 vs) (hv:vs[j]?=some v):w.cell? ⟨b,j,none⟩=some v:=by simpa using h j v hv
theorem JZ {tx e:TypeId} {a:Option Addr} {len cap k:Nat} {hi:Operand} {ki:IntKind} {m:Nat} (hx:evF F x=some (.slice a len cap)) (hh:evF F hi=some (.int ki (m:Nat))) (hu:P.underlying tx=some (.slice e)) (hs:∀w,(sizeOf e).run P w=.ok k w) (hm:m<=cap) :
    Ex P n F w0 L ⟨d,.slice tx x none (some hi) none,t,p,af,g⟩ (.slice a m cap):=λA w ha _=>by
  have e1:(if cap=0 then a else a.map λy=>y.add (0*k))=a:=by
    split
    · rfl
    · cases a<;>simp [Addr.add]
  simp only [execOp,ha.ev hx,Instr.sliceAt,run_underlying hu,Instr.slice,Option.map_some,Option.map_none,ha.ev hh,Instr.sliceBounds,Instr.sliceBound,asIntOf,Sem.run_bind,Result.andThen_ok,Sem.run_pure]
  have h1:(0:Int)<=(m:Int)/\(m:Int)<=(cap:Int):=⟨Z,Z⟩
  simp [h1.2,hs]
  cases a<;>simp [Addr.add]
theorem NR {tx e:TypeId} {b off r len cap k:Nat} {lo hi:Operand} {ki kj:IntKind} {i m:Nat} (hx:evF F x=some (.slice (some ⟨b,off,none⟩) len cap)) (hl:evF F lo=some (.int ki (i:Nat))) (hh:evF F hi=some (.int kj (m:Nat))) (hu:P.underlying tx=some (.slice e)) (hs:∀w,(sizeOf e).run P w=.ok k w)
    (h1:i<=m) (hm:m<=cap) (hi':i<cap) (hr:off+i*k=r):Ex P n F w0 L ⟨d,.slice tx x (some lo) (some hi) none,t,p,af,g⟩ (.slice (some ⟨b,r,none⟩) (m-i) (cap-i)):=λA w ha _=>by
  subst hr
  simp only [execOp,ha.ev hx,Instr.sliceAt,run_underlying hu,Instr.slice,Option.map_some,Option.map_none,ha.ev hl,ha.ev hh,Instr.sliceBounds,Instr.sliceBound,asIntOf,Sem.run_bind,Result.andThen_ok,Sem.run_pure]
  have e1:(0:Int)<=(m:Int)/\(m:Int)<=(cap:Int):=⟨Z,Z⟩
  have e3:¬cap=i:=by omega
  simp [e1.2,hs,e3,Addr.add_lit]
  intro h;omega
theorem DR {m c:Nat} {ki kj:IntKind} (hx:evF F x=some (.int ki (m:Nat))) (hy:evF F y=some (.int kj (c:Nat))) (hmc:m<=c) (hc:c<=35184372088832) :
    ∀a w,Ce n a F->BD w0 w L->(execOp a.eval ⟨d,.makeSlice 255 x y,t,p,af,g⟩).run prog w=.ok (.value (.slice (some ⟨w.heap.size,0,none⟩) m c)) (w.alloc (.cells (Ak (List.replicate c 0)).toArray 92)):=λa w ha _=>by
  have h1:=run_make (P:=prog) w 255 92 Tryz.t92 (.int .u32 0) underlying255 jV rfl ki kj (m:Nat) (c:Nat) Z Z (by show (4:Int)*(c:Int)<=_;omega) Z
  have e1:madeCells (Value.int .u32 0).cells ((c:Int).toNat*Tryz.t92.size)=(Ak (List.replicate c 0)).toArray:=by
    apply Array.toList_inj.1
    show (madeCells #[Value.int .u32 0] ((c:Int).toNat*1)).toList=_
    rw [toList_madeCells_one]
    simp [Ak]
  rw [e1] at h1
  simp only [execOp,ha.ev hx,ha.ev hy,Sem.run_bind,h1,Result.andThen_ok,Sem.run_pure,Int.toNat_natCast]
theorem QJ {m c:Nat} {ki kj:IntKind} (hx:evF F x=some (.int ki (m:Nat))) (hy:evF F y=some (.int kj (c:Nat))) (hmc:m<=c) (hc:c<=140737488355328) :
    ∀a w,Ce n a F->BD w0 w L->(execOp a.eval ⟨d,.makeSlice 86 x y,t,p,af,g⟩).run prog w=.ok (.value (.slice (some ⟨w.heap.size,0,none⟩) m c)) (w.alloc (.cells (J5 (List.replicate c 0)).toArray 5)):=λa w ha _=>by
  have h1:=run_make (P:=prog) w 86 5 Tryz.t5 (.int .u8 0) underlying86 jV rfl ki kj (m:Nat) (c:Nat) Z Z (by show (1:Int)*(c:Int)<=_;omega) Z
  have e1:madeCells (Value.int .u8 0).cells ((c:Int).toNat*Tryz.t5.size)=(J5 (List.replicate c 0)).toArray:=by
    apply Array.toList_inj.1
    show (madeCells #[Value.int .u8 0] ((c:Int).toNat*1)).toList=_
    rw [toList_madeCells_one]
    simp [J5]
  rw [e1] at h1
  simp only [execOp,ha.ev hx,ha.ev hy,Sem.run_bind,h1,Result.andThen_ok,Sem.run_pure,Int.toNat_natCast]
theorem Az {P:Program} {T e:TypeId} {len k:Nat} {z:Value} {parts:Array (Nat×Operand)} {pv:List (Nat×Value)} {cs:List Value} (hu:P.underlying T=some (.slice e)) (hs:∀w,(sizeOf e).run P w=.ok k w) (hz:∀w,(zeroValue e).run P w=.ok z w)
    (hlk:len*k≠0) (hsm:len*k<=16777216)
    (hp:parts.toList.map (λq=>(q.1,evF F q.2))=pv.map (λq=>(q.1,some q.2)))
    (hf:Instr.fill (λi=>some (i*k,k)) ((Array.range (len*k)).map (z.cells[·%z.cells.size]!)) pv=some cs.toArray) :
    ∀a w,Ce n a F->BD w0 w L->(execOp a.eval ⟨d,.buildSlice T len parts,t,p,af,g⟩).run P w=.ok (.value (.slice (some ⟨w.heap.size,0,none⟩) len len)) (w.alloc (.cells cs.toArray e)):=λA w ha _=>by
  have key:∀(l:List (Nat×Operand)) (r:List (Nat×Value)),l.map (λq=>(q.1,evF F q.2))=r.map (λq=>(q.1,some q.2))->l.map (λq=>(q.1,A.eval q.2))=r:=by
    intro l
    induction l with
    | nil=>intro r h;cases r<;>simp_all
    | cons o l ih =>
      intro r h
      cases r with
      | nil=>simp at h
      | cons q r =>
        simp only [List.map_cons,List.cons.injEq,Prod.mk.injEq] at h
        rw [List.map_cons,ha.ev h.1.2,ih r h.2,h.1.1]
  have e1:(parts.map λq=>(q.1,A.eval q.2)).toList=pv:=by rw [Array.toList_map];exact key _ _ hp
  have e2:(parts.map λ(i,x)=>(i,A.eval x)).toList=pv:=e1
  have hn:¬(len*k>2^24):=by omega
  simp only [execOp,Instr.buildSlice,run_underlying hu,hs,Sem.run_bind,Result.andThen_ok,if_neg hn,if_neg hlk,Sem.run_pure,hz,Sem.run_ite]
  rw [e2,hf]
  simp [newRow]
theorem AR.append_u8 {ops:Array Oper} {rest:List Oper} {Q:Exit->Act->World->Prop} {L':List As} {i j b b' m c k c' dd:Nat} {cs ns cs':List Value} {o:Oper} (ho:o=⟨some dd,.call { callee:=.builtin .append,args:=#[x,y],argTypes:=#[86,86] },t,p,af,g⟩) (hw:Wt ops n F o)
    (hx:evF F x=some (.slice (jk b) m c)) (hy:evF F y=some (.slice (some ⟨b',0,none⟩) k c')) (hi:L[i]?=some (AX b 5 cs)) (hj:L[j]?=some (AX b' 5 ns)) (hk:ns.length=k) (h1:(ns.all λu=>u.oneCell')=true) (hroom:m+k<=c) (hfit:m+k<=cs.length)
    (hcs:Gd cs m ns=cs') (hL:L.set i (AX b 5 cs')=L') (hd:dd<n) (next:AR prog ops rest Q n ((dd,.slice (jk b) (m+k) c)::F) w0 L'):AR prog ops (o::rest) Q n F w0 L:=λa w ha hW=>by
  subst ho;subst hcs;subst hL
  unfold wpList
  rw [if_pos (hw a ha)]
  left
  have hca:=EN (off:=0) (k:=ns.length) (hW.get hj)
  have hns:(ns.drop 0).take ns.length=ns:=by simp
  rw [hns] at hca
  have hr:=run_append_room (P:=prog) w 86 t 5 Tryz.t5 underlying86 jV b m c cs.toArray (hW.get hi) ⟨b',0,none⟩ k c' ns (by show _=k*1;omega) (λq u hu=>by rw [Addr.add_lit];exact hca q u hu) (λu hu=>List.all_eq_true.1 h1 u hu) hroom (by show m*1+ns.length<=cs.toArray.size;simp;omega)
  have hz:m*Tryz.t5.size=m:=Nat.mul_one m
  rw [hz] at hr
  unfold Oper.wp
  have he:(execOp a.eval ⟨some dd,.call { callee:=.builtin .append,args:=#[x,y],argTypes:=#[86,86] },t,p,af,g⟩).run prog w=.ok (.value (.slice (jk b) (m+k) c)) (w.setRow b (Gd cs m ns).toArray):=by
    simp only [execOp,resolve,invoke,builtin,Sem.run_bind,Sem.run_pure,Result.andThen_ok,List.map_toArray,List.map_cons,List.map_nil,ha.ev hx,ha.ev hy,hr,Gd]
  rw [he,Oper.upon_value]
  have hg:=hW.get hi
  exact next _ _ (ha.put hd) (hW.turn hi O O ⟨⟨rfl,rfl,rfl,by simp,λq _ hq=>setRow_other w b q _ (λe=>hq (by simp [e]))⟩,Nat.le_refl _⟩ ⟨_,setRow_heap w b cs.toArray _ 5 _ hg,rfl⟩)
def DU (xs:List Nat):ByteArray:=⟨(xs.map λx=>UInt8.ofNat x).toArray⟩
theorem Jn {i b m c:Nat} {cs:List Value} {ns:List Nat} (hx:evF F x=some (.slice (jk b) m c)) (hi:L[i]?=some (AX b 5 cs)) (hcs:cs.take m=J5 ns) (hm:ns.length=m) :
    Ex prog n F w0 L ⟨d,.convert 86 9 x,t,p,af,g⟩ (.string (DU ns)):=λa w ha hW=>by
  have hca:=EN (off:=0) (k:=m) (hW.get hi)
  rw [List.drop_zero,hcs] at hca
  have h2:=run_loadCells_list (P:=prog) w ⟨b,0,none⟩ (J5 ns) (λq u hu=>by rw [Addr.add_lit];exact hca q u hu)
  rw [IC,hm] at h2
  have h3:(J5 ns)=(ns.map λx=>((x:Nat):Int)).map (Value.int .u8):=by simp [J5]
  rw [h3] at h2
  have h4:=run_bytesToString w ⟨b,0,none⟩ m c _ h2
  rw [foldl_push_bytes] at h4
  simp only [execOp,ha.ev hx,Sem.run_bind,run_convert_bytes_string w 86 9 5 _ _ _ underlying86 underlying5 underlying9,h4,Result.andThen_ok,Sem.run_pure]
  congr 2
  simp [DU,ByteArray.empty,ByteArray.emptyWithCapacity]
  rfl
end
end
section
section
variable {P:Program} {ops:Array Oper} {l rest:List Oper} {Q:Exit->Act->World->Prop} {n:Nat} {F F' FM:List (Nat×Value)} {w0:BC} {L L' LM:List As} {o:Oper} {v u:Value} {c x y:Code}
theorem Lx {o:Oper} {a:Act} {w:World} {K K':Act->World->Prop} {Q':Exit->Act->World->Prop} (h:∀a w,K a w->K' a w) (hq:∀e a w,e≠.normal->¬Q e a w)
    (hh:o.wp P a w K Q):o.wp P a w K' Q':=by
  unfold Oper.wp at *
  generalize (execOp a.eval o).run P w=r at *
  cases r with
  | ok n w' =>
    cases n<;>simp only [Oper.upon] at hh ⊢ <;>
      first
        | exact h _ _ hh
        | exact Calls.mono hh (λe w'' he=>by cases e<;>first|exact h _ _ he|exact absurd he (hq _ _ _ jX)|exact (match he with|⟨_,_,hl⟩=>absurd hl (hq _ _ _ jX)))
        | exact Rows.mono hh (λ_ _ he=>h _ _ he)
  | halt x w'=>cases x<;>simp only [Oper.upon] at hh ⊢<;>exact absurd hh (hq _ _ _ jX)
theorem ze (m:Nat) (h1:AR P ops (l.take m) (λe a w=>e=.normal/\Ce n a FM/\BD w0 w LM) n F w0 L) (h2:AR P ops (l.drop m) Q n FM w0 LM):AR P ops l Q n F w0 L:=λa w ha hW=>by
  have key:∀(m:Nat) (l:List Oper) (a:Act) (w:World),wpList P ops (λe a w=>e=.normal/\Ce n a FM/\BD w0 w LM) (l.take m) a w->(∀a w,Ce n a FM->BD w0 w LM->wpList P ops Q (l.drop m) a w)->wpList P ops Q l a w:=by
    intro m
    induction m with
    | zero=>intro l a w h h2;exact h2 a w h.2.1 h.2.2
    | succ m ih =>
      intro l a w h h2
      cases l with
      | nil=>exact h2 a w h.2.1 h.2.2
      | cons o l =>
        simp only [List.take_succ_cons] at h
        unfold wpList at h ⊢
        split at h
        · rename_i hg
          rw [if_pos hg]
          rcases h with h|⟨_,_,_,hl,_⟩
          · exact .inl (Lx (λa w hk=>ih l a w hk h2) (λe a w he hq=>he hq.1) h)
          · cases hl
        · rename_i hg
          rw [if_neg hg]
          exact ih l _ w h h2
  exact key m l a w (h1 a w ha hW) h2
theorem zR (hs:B_ FM F) (hl:LM.Sublist L):OkQ (λe a w=>e=.normal/\Ce n a FM/\BD w0 w LM) .normal n F w0 L:=λ_ _ ha hw=>⟨rfl,ha.sub hs,hw.weak hl⟩
theorem Ce.retell {a:Act} (h:Ce n a F) {k:Nat} (hk:F.lookup k=some v) (hv:v=u):Ce n a ((k,u)::F):=by
  subst hv
  refine ⟨h.1,h.2.1,λj x hj=>?_⟩
  simp only [List.lookup_cons] at hj
  split at hj
  · rename_i e
    injection hj with hj
    subst hj
    have:j=k:=by simpa using e
    subst this
    exact h.2.2 j _ hk
  · exact h.2.2 j x hj
theorem zI {k:Nat} (hk:F.lookup k=some v) (hv:v=u) (next:AR P ops rest Q n ((k,u)::F) w0 L):AR P ops rest Q n F w0 L:=λa w ha hW=>next a w (ha.retell hk hv) hW
theorem yU {e:Exit} {k:Nat} (hk:F.lookup k=some v) (hv:v=u) (next:OkQ Q e n ((k,u)::F) w0 L):OkQ Q e n F w0 L:=λa w ha hW=>next a w (ha.retell hk hv) hW
theorem yP {k:Nat} (hk:F.lookup k=some v) (hv:v=u) (next:OkC P c Q n ((k,u)::F) w0 L):OkC P c Q n F w0 L:=λa w ha hW=>next a w (ha.retell hk hv) hW
theorem yp {e:Exit} (h:L=L') (next:OkQ Q e n F w0 L'):OkQ Q e n F w0 L:=h▸next
theorem zZ {d:Nat} {T:TypeId} {cs:List Value} {V:Nat->Value} (hw:Wt ops n F o)
    (he:∀a w,Ce n a F->BD w0 w L->(execOp a.eval o).run P w=.ok (.value (V w.heap.size)) (w.alloc (.cells cs.toArray T)))
    (ho:o.dst=some d) (hd:d<n) (next:∀b,AR P ops rest Q n ((d,V b)::F) w0 (AX b T cs::L)):AR P ops (o::rest) Q n F w0 L:=λa w ha hW=>by
  unfold wpList
  rw [if_pos (hw a ha)]
  left
  unfold Oper.wp
  rw [he a w ha hW,Oper.upon_value,ho]
  exact next _ _ _ (ha.put hd) (hW.alloc _ O O)
end
theorem El {w:World} {b:Nat} {cs:List Value} {T:TypeId} {fr:Nat×Nat} (h:w.heap[b]?=some (.cells cs.toArray T fr)):CA w b 0 cs:=by
  have:=EN (off:=0) (k:=cs.length) h
  simpa using this
theorem Ct {xs:List Nat} {f:List Nat->List Value} (hf:(f xs).length=xs.length) {j:Nat} (h:j<xs.length):Nat.ble (j+1) (f xs).length=true:=Nat.ble_eq_true_of_le Z
def W32 (xs:List Nat):Prop:=∀x∈xs,x<4294967296
theorem W32.getD {xs:List Nat} (h:W32 xs) (i:Nat):xs.getD i 0<4294967296:=by
  by_cases hi:i<xs.length
  · simp [hi];exact h _ (List.getElem_mem hi)
  · simp [Nat.not_lt.1 hi]
theorem W32.set {xs:List Nat} (h:W32 xs) {v:Nat} (hv:v<4294967296) (i:Nat):W32 (xs.set i v):=λx hx=>by
  rcases List.mem_or_eq_of_mem_set hx with h1|h1
  · exact h x h1
  · omega
theorem W32.take {xs:List Nat} (h:W32 xs) (i:Nat):W32 (xs.take i):=λx hx=>h x (List.mem_of_mem_take hx)
theorem W32.zeros (k:Nat):W32 (List.replicate k 0):=λx hx=>by rw [(List.mem_replicate.1 hx).2];omega
theorem W32.append {xs ys:List Nat} (h:W32 xs) (h':W32 ys):W32 (xs++ys):=λx hx=>by
  rcases List.mem_append.1 hx with h1|h1
  · exact h x h1
  · exact h' x h1
theorem W32.cons {x:Nat} {xs:List Nat} (h:x<4294967296) (h':W32 xs):W32 (x::xs):=λy hy=>by
  rcases xN.1 hy with h1|h1
  · omega
  · exact h' y h1
theorem W32.nil:W32 []:=λ_ h=>by cases h
def val:List Nat->Nat
  | []=>0
  | x::xs=>x+4294967296*val xs
theorem PA (x:Nat) (xs:List Nat):val (x::xs)=x+4294967296*val xs:=rfl
theorem Ls (xs ys:List Nat):val (xs++ys)=val xs+4294967296^xs.length*val ys:=by
  induction xs with
  | nil=>simp [val]
  | cons x xs ih=>simp only [List.cons_append,val,ih,List.length_cons,Nat.pow_succ];grind
theorem EV (k:Nat):val (List.replicate k 0)=0:=by
  induction k with
  | zero=>rfl
  | succ k ih=>simp [List.replicate_succ,val,ih]
theorem HE {xs:List Nat} (h:W32 xs):val xs<4294967296^xs.length:=by
  induction xs with
  | nil=>simp [val]
  | cons x xs ih =>
    have h1:=h x jX
    have h2:=ih (λy hy=>h y (by simp [hy]))
    simp only [val,List.length_cons,Nat.pow_succ]
    omega
theorem Fh {xs:List Nat} {i:Nat} (h:i<xs.length) (v:Nat):val (xs.set i v)+xs.getD i 0*4294967296^i=val xs+v*4294967296^i:=by
  induction xs generalizing i with
  | nil=>simp at h
  | cons x xs ih =>
    cases i with
    | zero=>simp [val];omega
    | succ i =>
      have:=ih (i:=i) (by simpa using h)
      simp only [List.set_cons_succ,val,List.getD_cons_succ,Nat.pow_succ]
      grind
theorem Bb (xs:List Nat) (i:Nat):val (xs.take (i+1))=val (xs.take i)+xs.getD i 0*4294967296^i:=by
  induction xs generalizing i with
  | nil=>simp [val]
  | cons x xs ih =>
    cases i with
    | zero=>simp [val]
    | succ i =>
      have:=ih i
      simp only [List.take_succ_cons,val,List.getD_cons_succ,Nat.pow_succ] at this ⊢
      rw [this]
      grind
theorem E9 (xs:List Nat) (i:Nat) (h:i<=xs.length):val xs=val (xs.take i)+4294967296^i*val (xs.drop i):=by
  have:=Ls (xs.take i) (xs.drop i)
  rwa [List.take_append_drop,List.length_take,Nat.min_eq_left h] at this
theorem PC (xs:List Nat) (i:Nat):val (xs.take i)<=val xs:=by
  by_cases h:i<=xs.length
  · have:=E9 xs i h;omega
  · rw [List.take_of_length_le Z];exact Nat.le_refl _
theorem PB (xs:List Nat) (i:Nat):xs.getD i 0*4294967296^i<=val xs:=by
  have h1:=Bb xs i
  have h2:=PC xs (i+1)
  omega
theorem Gc {xs:List Nat} {i m:Nat} (h:val xs<4294967296^m) (hm:m<=i):xs.getD i 0=0:=by
  have h1:=PB xs i
  have h2:4294967296^m<=4294967296^i:=Nat.pow_le_pow_right Z hm
  rcases Nat.eq_zero_or_pos (xs.getD i 0) with h3|h3
  · exact h3
  · have:1*4294967296^i<=xs.getD i 0*4294967296^i:=Nat.mul_le_mul_right _ h3
    omega
theorem Lu {xs:List Nat} {m:Nat} (h:val xs<4294967296^m):val (xs.take m)=val xs:=by
  by_cases hm:m<=xs.length
  · have h1:=E9 xs m hm
    rcases Nat.eq_zero_or_pos (val (xs.drop m)) with h3|h3
    · rw [h3] at h1;omega
    · have:4294967296^m*1<=4294967296^m*val (xs.drop m):=Nat.mul_le_mul_left _ h3
      omega
  · rw [List.take_of_length_le Z]
theorem R5:∀(f v:Nat),v<=f->R4 f v=AJ v:=by
  intro f
  induction f using Nat.strongRecOn with
  | _ f ih =>
    intro v hv
    cases f with
    | zero =>
      have:v=0:=by omega
      subst this;rfl
    | succ f =>
      unfold AJ
      cases v with
      | zero=>simp [R4]
      | succ v =>
        simp only [R4]
        have h1:(v+1)/4294967296<=v:=by omega
        rw [ih f Z _ Z]
        by_cases hvf:v=f
        · subst hvf;rw [ih v Z _ h1]
        · rw [ih v Z _ h1]
theorem Qb:AJ 0=[]:=rfl
theorem GD {v:Nat} (h:v≠0):AJ v=v%4294967296::AJ (v/4294967296):=by
  cases v with
  | zero=>exact absurd rfl h
  | succ v =>
    conv=>lhs;unfold AJ R4
    simp only [Nat.add_eq_zero_iff]
    rw [R5 v _ Z]
    simp
theorem Ch (v:Nat):val (AJ v)=v:=by
  induction v using Nat.strongRecOn with
  | _ v ih =>
    by_cases h:v=0
    · subst h;rfl
    · rw [GD h,val,ih _ Z];omega
theorem Bt (v:Nat):W32 (AJ v):=by
  induction v using Nat.strongRecOn with
  | _ v ih =>
    by_cases h:v=0
    · subst h;exact W32.nil
    · rw [GD h];exact W32.cons Z (ih _ Z)
def nw (v:Nat):Nat:=(AJ v).length
theorem Nq:nw 0=0:=rfl
theorem VU {v:Nat} (h:v≠0):nw v=nw (v/4294967296)+1:=by unfold nw;rw [GD h];rfl
theorem Cy {v k:Nat}:nw v<=k↔v<4294967296^k:=by
  induction k generalizing v with
  | zero =>
    by_cases h:v=0
    · subst h;simp [Nq]
    · rw [VU h];simp;omega
  | succ k ih =>
    by_cases h:v=0
    · subst h;simp [Nq,Nat.pow_pos]
    · rw [VU h,Nat.pow_succ,Nat.add_le_add_iff_right,ih,Nat.div_lt_iff_lt_mul Z]
theorem CD (v:Nat):v<4294967296^nw v:=Cy.1 (Nat.le_refl _)
theorem Dv {a b:Nat} (h:a<=b):nw a<=nw b:=Cy.2 (Nat.lt_of_le_of_lt h (CD b))
theorem VT (a b:Nat):nw (a*b)<=nw a+nw b:=by
  rw [Cy,Nat.pow_add]
  exact Nat.mul_lt_mul'' (CD a) (CD b)
theorem Zm (a b:Nat):nw (a+b)<=max (nw a) (nw b)+1:=by
  rw [Cy,Nat.pow_succ]
  have h1:a<4294967296^max (nw a) (nw b):=Cy.1 (Nat.le_max_left ..)
  have h2:b<4294967296^max (nw a) (nw b):=Cy.1 (Nat.le_max_right ..)
  omega
theorem LS {a:Nat} (h:a<18446744073709551616):nw a<=2:=Cy.2 Z
theorem N3 {xs:List Nat} (h:W32 xs) (hl:∀x,xs.getLast?=some x->x≠0):AJ (val xs)=xs:=by
  induction xs with
  | nil=>rfl
  | cons x xs ih =>
    have hx:=h x jX
    have h0:val (x::xs)≠0:=by
      intro h0
      rw [PA] at h0
      have hv:val xs=0:=by omega
      cases xs with
      | nil=>exact hl x rfl Z
      | cons y ys =>
        have:=ih (λz hz=>h z (by simp [hz])) (λz hz=>hl z (by simpa using hz))
        rw [hv] at this
        cases this
    rw [GD h0,PA]
    have e1:(x+4294967296*val xs)%4294967296=x:=by omega
    have e2:(x+4294967296*val xs)/4294967296=val xs:=by omega
    rw [e1,e2]
    congr 1
    exact ih (λz hz=>h z (by simp [hz])) (λz hz=>hl z (by
      cases xs with
      | nil=>simp at hz
      | cons y ys=>simpa using hz))
end
section
section
variable {P:Program} {Q:Exit->Act->World->Prop} {n:Nat} {F:List (Nat×Value)} {w0:BC} {L:List As} {c x y:Code}
def Tg {α:Sort _} (_:α):Prop:=True
theorem tg {α:Sort _} (a:α):Tg a:=trivial
def br  (n:Nat) (w0:BC) (J:Prop) (FI:List (Nat×Value)) (LI:List As) (Q:Exit->Act->World->Prop):Exit->Act->World->Prop :=
  Exit.then (λa w=>J/\Ce n a FI/\BD w0 w LI) Q
theorem OkC.join0  (J:Prop) (FI:List (Nat×Value)) (LI:List As) (h1:OkC P x (br n w0 J FI LI Q) n F w0 L) (h2:J->OkQ Q .normal n FI w0 LI):OkC P x Q n F w0 L:=λa w ha hw=>by
  refine Code.wp_mono (λe a' w' hq=>?_) (h1 a w ha hw)
  cases e<;>first
    | (obtain ⟨h3,h4,h5⟩:=hq;exact h2 h3 a' w' h4 h5)
    | exact hq
theorem yE  {J:Prop} {FI:List (Nat×Value)} {LI:List As}  (hJ:J) (hs:B_ FI F) (hl:(LI).Sublist L):OkQ (br n w0 J FI LI Q) .normal n F w0 L:=λ_ _ ha hw=>⟨hJ,ha.sub hs,hw.weak hl⟩
theorem yd  {J:Prop} {FI:List (Nat×Value)} {LI:List As} (_:Tg J) (_:Tg FI) (_:Tg LI) (h1:OkC P x (br n w0 J FI LI Q) n F w0 L) (h2:J->OkQ Q .normal n FI w0 LI):OkC P x Q n F w0 L:=OkC.join0 J FI LI h1 h2
theorem yQ  {J:Prop} {FI:List (Nat×Value)} {LI:List As}  (h:OkQ Q (.ret) n F w0 L):OkQ (br n w0 J FI LI Q) (.ret) n F w0 L:=h
def bt {α:Type} (n:Nat) (w0:BC) (J:α->Prop) (FI:α->List (Nat×Value)) (LI:α->List As) (Q:Exit->Act->World->Prop):Exit->Act->World->Prop :=
  Exit.then (λa w=>∃i',J i'/\Ce n a (FI i')/\BD w0 w (LI i')) Q
theorem OkC.join1 {α:Type} (J:α->Prop) (FI:α->List (Nat×Value)) (LI:α->List As) (h1:OkC P x (bt n w0 J FI LI Q) n F w0 L) (h2:∀i,J i->OkQ Q .normal n (FI i) w0 (LI i)):OkC P x Q n F w0 L:=λa w ha hw=>by
  refine Code.wp_mono (λe a' w' hq=>?_) (h1 a w ha hw)
  cases e<;>first
    | (obtain ⟨i,h3,h4,h5⟩:=hq;exact h2 i h3 a' w' h4 h5)
    | exact hq
theorem zi {α:Type} {J:α->Prop} {FI:α->List (Nat×Value)} {LI:α->List As} (i:α) (hJ:J i) (hs:B_ (FI i) F) (hl:(LI i).Sublist L):OkQ (bt n w0 J FI LI Q) .normal n F w0 L:=λ_ _ ha hw=>⟨i,hJ,ha.sub hs,hw.weak hl⟩
theorem yF {α:Type} {J:α->Prop} {FI:α->List (Nat×Value)} {LI:α->List As} (_:Tg J) (_:Tg FI) (_:Tg LI) (h1:OkC P x (bt n w0 J FI LI Q) n F w0 L) (h2:∀i,J i->OkQ Q .normal n (FI i) w0 (LI i)):OkC P x Q n F w0 L:=OkC.join1 J FI LI h1 h2
theorem yc {α:Type} {J:α->Prop} {FI:α->List (Nat×Value)} {LI:α->List As}  (h:OkQ Q (.ret) n F w0 L):OkQ (bt n w0 J FI LI Q) (.ret) n F w0 L:=h
def Ta {α:Type} (n:Nat) (w0:BC) (J:α->Prop) (FI:α->List (Nat×Value)) (LI:α->List As) (m:α->Nat) (i:α) (Q:Exit->Act->World->Prop):Exit->Act->World->Prop :=
  Exit.then (λa w=>∃i',J i'/\m i'<m i/\Ce n a (FI i')/\BD w0 w (LI i')) Q
theorem OkC.loop1 {α:Type} (J:α->Prop) (FI:α->List (Nat×Value)) (LI:α->List As) (m:α->Nat) (round:∀i,J i->OkC P c (Ta n w0 J FI LI m i Q) n (FI i) w0 (LI i))
    (i:α) (h:J i):OkC P (.loop c) Q n (FI i) w0 (LI i) :=
  yg (σ:=α) (λs=>J s) (λs=>FI s) (λs=>LI s) (λs=>m s) (λs hs a w ha hw=>by
    refine Code.wp_mono (λe a' w' hq=>?_) (round s hs a w ha hw)
    cases e<;>first
      | (obtain ⟨i',h1,h2,h3,h4⟩:=hq;exact ⟨i',h1,h2,h3,h4⟩)
      | exact hq) i h
theorem zw {α:Type} {J:α->Prop} {FI:α->List (Nat×Value)} {LI:α->List As} {m:α->Nat} (_:Tg J) (_:Tg FI) (_:Tg LI) (_:Tg m) (i:α) (h:J i) (hs:B_ (FI i) F) (hl:(LI i).Sublist L)
    (round:∀i,J i->OkC P c (Ta n w0 J FI LI m i Q) n (FI i) w0 (LI i)):OkC P (.loop c) Q n F w0 L:=yf hs hl (OkC.loop1 J FI LI m round i h)
theorem zl {α:Type} {J:α->Prop} {FI:α->List (Nat×Value)} {LI:α->List As} {m:α->Nat} {i:α} (i':α) (hJ:J i') (hm:m i'<m i) (hs:B_ (FI i') F) (hl:(LI i').Sublist L):OkQ (Ta n w0 J FI LI m i Q) .normal n F w0 L:=λ_ _ ha hw=>⟨i',hJ,hm,ha.sub hs,hw.weak hl⟩
theorem z6 {α:Type} {J:α->Prop} {FI:α->List (Nat×Value)} {LI:α->List As} {m:α->Nat} {i:α}  (h:OkQ Q (.ret) n F w0 L):OkQ (Ta n w0 J FI LI m i Q) (.ret) n F w0 L:=h
theorem zW {α:Type} {J:α->Prop} {FI:α->List (Nat×Value)} {LI:α->List As} {m:α->Nat} {i:α} {id:Nat} (h:OkQ Q (.exit id) n F w0 L):OkQ (Ta n w0 J FI LI m i Q) (.exit id) n F w0 L:=h
def cK {α β:Type} (n:Nat) (w0:BC) (J:α->β->Prop) (FI:α->β->List (Nat×Value)) (LI:α->β->List As) (Q:Exit->Act->World->Prop):Exit->Act->World->Prop :=
  Exit.then (λa w=>∃i' j',J i' j'/\Ce n a (FI i' j')/\BD w0 w (LI i' j')) Q
theorem OkC.join2 {α β:Type} (J:α->β->Prop) (FI:α->β->List (Nat×Value)) (LI:α->β->List As) (h1:OkC P x (cK n w0 J FI LI Q) n F w0 L) (h2:∀i j,J i j->OkQ Q .normal n (FI i j) w0 (LI i j)):OkC P x Q n F w0 L:=λa w ha hw=>by
  refine Code.wp_mono (λe a' w' hq=>?_) (h1 a w ha hw)
  cases e<;>first
    | (obtain ⟨i,j,h3,h4,h5⟩:=hq;exact h2 i j h3 a' w' h4 h5)
    | exact hq
theorem yI {α β:Type} {J:α->β->Prop} {FI:α->β->List (Nat×Value)} {LI:α->β->List As} (i:α) (j:β) (hJ:J i j) (hs:B_ (FI i j) F) (hl:(LI i j).Sublist L):OkQ (cK n w0 J FI LI Q) .normal n F w0 L:=λ_ _ ha hw=>⟨i,j,hJ,ha.sub hs,hw.weak hl⟩
theorem yi {α β:Type} {J:α->β->Prop} {FI:α->β->List (Nat×Value)} {LI:α->β->List As} (_:Tg J) (_:Tg FI) (_:Tg LI) (h1:OkC P x (cK n w0 J FI LI Q) n F w0 L) (h2:∀i j,J i j->OkQ Q .normal n (FI i j) w0 (LI i j)):OkC P x Q n F w0 L:=OkC.join2 J FI LI h1 h2
def Wy {α β:Type} (n:Nat) (w0:BC) (J:α->β->Prop) (FI:α->β->List (Nat×Value)) (LI:α->β->List As) (m:α->β->Nat) (i:α) (j:β) (Q:Exit->Act->World->Prop):Exit->Act->World->Prop :=
  Exit.then (λa w=>∃i' j',J i' j'/\m i' j'<m i j/\Ce n a (FI i' j')/\BD w0 w (LI i' j')) Q
theorem OkC.loop2 {α β:Type} (J:α->β->Prop) (FI:α->β->List (Nat×Value)) (LI:α->β->List As) (m:α->β->Nat) (round:∀i j,J i j->OkC P c (Wy n w0 J FI LI m i j Q) n (FI i j) w0 (LI i j))
    (i:α) (j:β) (h:J i j):OkC P (.loop c) Q n (FI i j) w0 (LI i j) :=
  yg (σ:=α×β) (λs=>J s.1 s.2) (λs=>FI s.1 s.2) (λs=>LI s.1 s.2) (λs=>m s.1 s.2) (λs hs a w ha hw=>by
    refine Code.wp_mono (λe a' w' hq=>?_) (round s.1 s.2 hs a w ha hw)
    cases e<;>first
      | (obtain ⟨i',j',h1,h2,h3,h4⟩:=hq;exact ⟨(i',j'),h1,h2,h3,h4⟩)
      | exact hq) (i,j) h
theorem yG {α β:Type} {J:α->β->Prop} {FI:α->β->List (Nat×Value)} {LI:α->β->List As} {m:α->β->Nat} (_:Tg J) (_:Tg FI) (_:Tg LI) (_:Tg m) (i:α) (j:β) (h:J i j) (hs:B_ (FI i j) F) (hl:(LI i j).Sublist L)
    (round:∀i j,J i j->OkC P c (Wy n w0 J FI LI m i j Q) n (FI i j) w0 (LI i j)):OkC P (.loop c) Q n F w0 L:=yf hs hl (OkC.loop2 J FI LI m round i j h)
theorem zn {α β:Type} {J:α->β->Prop} {FI:α->β->List (Nat×Value)} {LI:α->β->List As} {m:α->β->Nat} {i:α} {j:β} (i':α) (j':β) (hJ:J i' j') (hm:m i' j'<m i j) (hs:B_ (FI i' j') F) (hl:(LI i' j').Sublist L):OkQ (Wy n w0 J FI LI m i j Q) .normal n F w0 L:=λ_ _ ha hw=>⟨i',j',hJ,hm,ha.sub hs,hw.weak hl⟩
theorem zm {α β:Type} {J:α->β->Prop} {FI:α->β->List (Nat×Value)} {LI:α->β->List As} {m:α->β->Nat} {i:α} {j:β} {id:Nat} (h:OkQ Q (.exit id) n F w0 L):OkQ (Wy n w0 J FI LI m i j Q) (.exit id) n F w0 L:=h
def Wz {α β γ:Type} (n:Nat) (w0:BC) (J:α->β->γ->Prop) (FI:α->β->γ->List (Nat×Value)) (LI:α->β->γ->List As) (m:α->β->γ->Nat) (i:α) (j:β) (k:γ) (Q:Exit->Act->World->Prop):Exit->Act->World->Prop :=
  Exit.then (λa w=>∃i' j' k',J i' j' k'/\m i' j' k'<m i j k/\Ce n a (FI i' j' k')/\BD w0 w (LI i' j' k')) Q
theorem OkC.loop3 {α β γ:Type} (J:α->β->γ->Prop) (FI:α->β->γ->List (Nat×Value)) (LI:α->β->γ->List As) (m:α->β->γ->Nat) (round:∀i j k,J i j k->OkC P c (Wz n w0 J FI LI m i j k Q) n (FI i j k) w0 (LI i j k))
    (i:α) (j:β) (k:γ) (h:J i j k):OkC P (.loop c) Q n (FI i j k) w0 (LI i j k) :=
  yg (σ:=α×β×γ) (λs=>J s.1 s.2.1 s.2.2) (λs=>FI s.1 s.2.1 s.2.2) (λs=>LI s.1 s.2.1 s.2.2) (λs=>m s.1 s.2.1 s.2.2) (λs hs a w ha hw=>by
    refine Code.wp_mono (λe a' w' hq=>?_) (round s.1 s.2.1 s.2.2 hs a w ha hw)
    cases e<;>first
      | (obtain ⟨i',j',k',h1,h2,h3,h4⟩:=hq;exact ⟨(i',j',k'),h1,h2,h3,h4⟩)
      | exact hq) (i,j,k) h
theorem yR {α β γ:Type} {J:α->β->γ->Prop} {FI:α->β->γ->List (Nat×Value)} {LI:α->β->γ->List As} {m:α->β->γ->Nat} (_:Tg J) (_:Tg FI) (_:Tg LI) (_:Tg m) (i:α) (j:β) (k:γ) (h:J i j k) (hs:B_ (FI i j k) F) (hl:(LI i j k).Sublist L)
    (round:∀i j k,J i j k->OkC P c (Wz n w0 J FI LI m i j k Q) n (FI i j k) w0 (LI i j k)):OkC P (.loop c) Q n F w0 L:=yf hs hl (OkC.loop3 J FI LI m round i j k h)
theorem yK {α β γ:Type} {J:α->β->γ->Prop} {FI:α->β->γ->List (Nat×Value)} {LI:α->β->γ->List As} {m:α->β->γ->Nat} {i:α} {j:β} {k:γ} (i':α) (j':β) (k':γ) (hJ:J i' j' k') (hm:m i' j' k'<m i j k) (hs:B_ (FI i' j' k') F) (hl:(LI i' j' k').Sublist L):OkQ (Wz n w0 J FI LI m i j k Q) .normal n F w0 L:=λ_ _ ha hw=>⟨i',j',k',hJ,hm,ha.sub hs,hw.weak hl⟩
theorem yA {α β γ:Type} {J:α->β->γ->Prop} {FI:α->β->γ->List (Nat×Value)} {LI:α->β->γ->List As} {m:α->β->γ->Nat} {i:α} {j:β} {k:γ} {id:Nat} (h:OkQ Q (.exit id) n F w0 L):OkQ (Wz n w0 J FI LI m i j k Q) (.exit id) n F w0 L:=h
def W0 {α β γ δ:Type} (n:Nat) (w0:BC) (J:α->β->γ->δ->Prop) (FI:α->β->γ->δ->List (Nat×Value)) (LI:α->β->γ->δ->List As) (m:α->β->γ->δ->Nat) (i:α) (j:β) (k:γ) (l:δ) (Q:Exit->Act->World->Prop):Exit->Act->World->Prop :=
  Exit.then (λa w=>∃i' j' k' l',J i' j' k' l'/\m i' j' k' l'<m i j k l/\Ce n a (FI i' j' k' l')/\BD w0 w (LI i' j' k' l')) Q
theorem OkC.loop4 {α β γ δ:Type} (J:α->β->γ->δ->Prop) (FI:α->β->γ->δ->List (Nat×Value)) (LI:α->β->γ->δ->List As) (m:α->β->γ->δ->Nat) (round:∀i j k l,J i j k l->OkC P c (W0 n w0 J FI LI m i j k l Q) n (FI i j k l) w0 (LI i j k l))
    (i:α) (j:β) (k:γ) (l:δ) (h:J i j k l):OkC P (.loop c) Q n (FI i j k l) w0 (LI i j k l) :=
  yg (σ:=α×β×γ×δ) (λs=>J s.1 s.2.1 s.2.2.1 s.2.2.2) (λs=>FI s.1 s.2.1 s.2.2.1 s.2.2.2) (λs=>LI s.1 s.2.1 s.2.2.1 s.2.2.2) (λs=>m s.1 s.2.1 s.2.2.1 s.2.2.2) (λs hs a w ha hw=>by
    refine Code.wp_mono (λe a' w' hq=>?_) (round s.1 s.2.1 s.2.2.1 s.2.2.2 hs a w ha hw)
    cases e<;>first
      | (obtain ⟨i',j',k',l',h1,h2,h3,h4⟩:=hq;exact ⟨(i',j',k',l'),h1,h2,h3,h4⟩)
      | exact hq) (i,j,k,l) h
theorem yS {α β γ δ:Type} {J:α->β->γ->δ->Prop} {FI:α->β->γ->δ->List (Nat×Value)} {LI:α->β->γ->δ->List As} {m:α->β->γ->δ->Nat} (_:Tg J) (_:Tg FI) (_:Tg LI) (_:Tg m) (i:α) (j:β) (k:γ) (l:δ) (h:J i j k l) (hs:B_ (FI i j k l) F) (hl:(LI i j k l).Sublist L)
    (round:∀i j k l,J i j k l->OkC P c (W0 n w0 J FI LI m i j k l Q) n (FI i j k l) w0 (LI i j k l)):OkC P (.loop c) Q n F w0 L:=yf hs hl (OkC.loop4 J FI LI m round i j k l h)
theorem z7 {α β γ δ:Type} {J:α->β->γ->δ->Prop} {FI:α->β->γ->δ->List (Nat×Value)} {LI:α->β->γ->δ->List As} {m:α->β->γ->δ->Nat} {i:α} {j:β} {k:γ} {l:δ} (i':α) (j':β) (k':γ) (l':δ) (hJ:J i' j' k' l') (hm:m i' j' k' l'<m i j k l) (hs:B_ (FI i' j' k' l') F) (hl:(LI i' j' k' l').Sublist L):OkQ (W0 n w0 J FI LI m i j k l Q) .normal n F w0 L:=λ_ _ ha hw=>⟨i',j',k',l',hJ,hm,ha.sub hs,hw.weak hl⟩
theorem yB {α β γ δ:Type} {J:α->β->γ->δ->Prop} {FI:α->β->γ->δ->List (Nat×Value)} {LI:α->β->γ->δ->List As} {m:α->β->γ->δ->Nat} {i:α} {j:β} {k:γ} {l:δ} {id:Nat} (h:OkQ Q (.exit id) n F w0 L):OkQ (W0 n w0 J FI LI m i j k l Q) (.exit id) n F w0 L:=h
def W1 {α β γ δ ε:Type} (n:Nat) (w0:BC) (J:α->β->γ->δ->ε->Prop) (FI:α->β->γ->δ->ε->List (Nat×Value)) (LI:α->β->γ->δ->ε->List As) (m:α->β->γ->δ->ε->Nat) (i:α) (j:β) (k:γ) (l:δ) (o:ε) (Q:Exit->Act->World->Prop):Exit->Act->World->Prop :=
  Exit.then (λa w=>∃i' j' k' l' o',J i' j' k' l' o'/\m i' j' k' l' o'<m i j k l o/\Ce n a (FI i' j' k' l' o')/\BD w0 w (LI i' j' k' l' o')) Q
theorem OkC.loop5 {α β γ δ ε:Type} (J:α->β->γ->δ->ε->Prop) (FI:α->β->γ->δ->ε->List (Nat×Value)) (LI:α->β->γ->δ->ε->List As) (m:α->β->γ->δ->ε->Nat) (round:∀i j k l o,J i j k l o->OkC P c (W1 n w0 J FI LI m i j k l o Q) n (FI i j k l o) w0 (LI i j k l o))
    (i:α) (j:β) (k:γ) (l:δ) (o:ε) (h:J i j k l o):OkC P (.loop c) Q n (FI i j k l o) w0 (LI i j k l o) :=
  yg (σ:=α×β×γ×δ×ε) (λs=>J s.1 s.2.1 s.2.2.1 s.2.2.2.1 s.2.2.2.2) (λs=>FI s.1 s.2.1 s.2.2.1 s.2.2.2.1 s.2.2.2.2) (λs=>LI s.1 s.2.1 s.2.2.1 s.2.2.2.1 s.2.2.2.2) (λs=>m s.1 s.2.1 s.2.2.1 s.2.2.2.1 s.2.2.2.2) (λs hs a w ha hw=>by
    refine Code.wp_mono (λe a' w' hq=>?_) (round s.1 s.2.1 s.2.2.1 s.2.2.2.1 s.2.2.2.2 hs a w ha hw)
    cases e<;>first
      | (obtain ⟨i',j',k',l',o',h1,h2,h3,h4⟩:=hq;exact ⟨(i',j',k',l',o'),h1,h2,h3,h4⟩)
      | exact hq) (i,j,k,l,o) h
theorem OkC.lp5 {α β γ δ ε:Type} {J:α->β->γ->δ->ε->Prop} {FI:α->β->γ->δ->ε->List (Nat×Value)} {LI:α->β->γ->δ->ε->List As} {m:α->β->γ->δ->ε->Nat} (_:Tg J) (_:Tg FI) (_:Tg LI) (_:Tg m) (i:α) (j:β) (k:γ) (l:δ) (o:ε) (h:J i j k l o) (hs:B_ (FI i j k l o) F) (hl:(LI i j k l o).Sublist L)
    (round:∀i j k l o,J i j k l o->OkC P c (W1 n w0 J FI LI m i j k l o Q) n (FI i j k l o) w0 (LI i j k l o)):OkC P (.loop c) Q n F w0 L:=yf hs hl (OkC.loop5 J FI LI m round i j k l o h)
theorem OkQ.round5 {α β γ δ ε:Type} {J:α->β->γ->δ->ε->Prop} {FI:α->β->γ->δ->ε->List (Nat×Value)} {LI:α->β->γ->δ->ε->List As} {m:α->β->γ->δ->ε->Nat} {i:α} {j:β} {k:γ} {l:δ} {o:ε} (i':α) (j':β) (k':γ) (l':δ) (o':ε) (hJ:J i' j' k' l' o') (hm:m i' j' k' l' o'<m i j k l o) (hs:B_ (FI i' j' k' l' o') F) (hl:(LI i' j' k' l' o').Sublist L):OkQ (W1 n w0 J FI LI m i j k l o Q) .normal n F w0 L:=λ_ _ ha hw=>⟨i',j',k',l',o',hJ,hm,ha.sub hs,hw.weak hl⟩
theorem OkQ.round5_exit {α β γ δ ε:Type} {J:α->β->γ->δ->ε->Prop} {FI:α->β->γ->δ->ε->List (Nat×Value)} {LI:α->β->γ->δ->ε->List As} {m:α->β->γ->δ->ε->Nat} {i:α} {j:β} {k:γ} {l:δ} {o:ε} {id:Nat} (h:OkQ Q (.exit id) n F w0 L):OkQ (W1 n w0 J FI LI m i j k l o Q) (.exit id) n F w0 L:=h
end
end
def D9 (bs:List Nat):Nat->Nat
  | 0=>0
  | m+1=>if bs.getD m 0=0 then D9 bs m else m+1
theorem R2 {bs:List Nat} {k:Nat} (h:0<k) (h0:bs.getD (k-1) 0=0):D9 bs k=D9 bs (k-1):=by
  obtain ⟨j,rfl⟩:∃j,k=j+1:=⟨k-1,Z⟩
  simp only [D9];rw [if_pos (by simpa using h0)];simp
theorem R3 {bs:List Nat} {k:Nat} (h:¬(0<k/\bs.getD (k-1) 0=0)):D9 bs k=k:=by
  cases k with
  | zero=>rfl
  | succ j=>simp only [D9];rw [if_neg (by simpa using h)]
theorem J9 (bs:List Nat):∀m,D9 bs m<=m
  | 0=>Nat.le_refl _
  | m+1=>by
    simp only [D9]
    split
    · have:=J9 bs m;omega
    · exact Nat.le_refl _
theorem MU (bs:List Nat):∀m,D9 bs m≠0->bs.getD (D9 bs m-1) 0≠0
  | 0,h=>absurd rfl h
  | m+1,h=>by
    simp only [D9] at h ⊢
    split
    · rename_i h0;rw [if_pos h0] at h;exact MU bs m h
    · rename_i h0;simpa using h0
theorem Lt (bs:List Nat):∀m,val (bs.take (D9 bs m))=val (bs.take m)
  | 0=>rfl
  | m+1=>by
    simp only [D9]
    split
    · rename_i h0;rw [Lt bs m,Bb,h0];omega
    · rfl
theorem JQ {bs:List Nat} (hb:W32 bs) {m:Nat} (hm:m<=bs.length):AJ (val (bs.take m))=bs.take (D9 bs m):=by
  rw [<-Lt]
  refine N3 (hb.take _) λx hx=>?_
  have hle:=J9 bs m
  have hne:D9 bs m≠0:=λh0=>by rw [h0] at hx;simp at hx
  have hl:(bs.take (D9 bs m)).getLast?=some (bs.getD (D9 bs m-1) 0):=by
    rw [List.getLast?_eq_getElem?]
    have h1:(bs.take (D9 bs m)).length-1=D9 bs m-1:=by simp;omega
    rw [h1,List.getElem?_take,if_pos Z]
    have h2:D9 bs m-1<bs.length:=by omega
    simp [h2]
  rw [hl] at hx
  injection hx with hx
  rw [<-hx]
  exact MU bs m hne
theorem QE {bs:List Nat} (hb:W32 bs) {m:Nat} (hm:m<=bs.length):nw (val (bs.take m))=D9 bs m:=by
  unfold nw
  rw [JQ hb hm,List.length_take]
  have:=J9 bs m
  omega
theorem H_ {v:Nat} (h:v<18446744073709551616):small v=true:=by simp [small,h]
theorem Ji {v:Nat} (h:¬v<18446744073709551616):small v=false:=by simp [small,h]
theorem Dz {v:Nat} (h:v<18446744073709551616):AU v=[.int .u64 (v:Nat),.string ByteArray.empty]:=by
  simp [AU,CC,Bo,H_ h]
theorem Bh {v:Nat} (h:v<18446744073709551616):CC v=v:=by simp [CC,H_ h]
def bytesN (xs:List Nat):List Nat:=xs.flatMap λx=>[x%256,x/256%256,x/65536%256,x/16777216%256]
theorem CH (xs:List Nat):(bytesN xs).length=4*xs.length:=by
  induction xs with
  | nil=>rfl
  | cons x xs ih=>simp [bytesN] at ih ⊢;omega
theorem L0 (xs ys:List Nat):bytesN (xs++ys)=bytesN xs++bytesN ys:=by simp [bytesN]
theorem MP (xs:List Nat):DU (bytesN xs)=⟨(xs.flatMap Tw).toArray⟩:=by
  unfold DU
  congr 2
  induction xs with
  | nil=>rfl
  | cons x xs ih =>
    simp only [bytesN,List.flatMap_cons,List.map_append] at ih ⊢
    rw [ih]
    rfl
theorem VM {v:Nat} (h:¬v<18446744073709551616):AU v=[.int .u64 (0:Nat),.string (DU (bytesN (AJ v)))]:=by
  simp [AU,CC,Bo,Ji h,MP]
theorem Hs {v:Nat} (h:v<18446744073709551616):Bo v=ByteArray.empty:=by simp [Bo,H_ h]
theorem FB {v:Nat} (h:¬v<18446744073709551616):Bo v=DU (bytesN (AJ v)):=by simp [Bo,Ji h,MP]
theorem Le (xs:List Nat):(DU xs).size=xs.length:=by simp [DU,ByteArray.size]
theorem Sx {xs:List Nat} {j:Nat} (h:j<xs.length):(DU xs)[j]?=some (UInt8.ofNat (xs.getD j 0)):=by
  have h1:j<(DU xs).size:=by rw [Le];exact h
  rw [getElem?_pos (DU xs) j h1]
  congr 1
  show (DU xs).data[j]'h1=_
  simp [DU,h]
theorem GH:∀(xs:List Nat) (i k:Nat),i<xs.length->k<4->(bytesN xs).getD (4*i+k) 0=xs.getD i 0/256^k%256
  | [],i,k,h,_=>by simp at h
  | x::xs,0,k,_,hk=>by
    rcases k with _|_|_|_|k
    · simp [bytesN]
    · simp [bytesN]
    · simp [bytesN]
    · simp [bytesN]
    · omega
  | x::xs,i+1,k,h,hk=>by
    have ih:=GH xs i k (by simpa using h) hk
    have e:4*(i+1)+k=(4*i+k)+4:=by omega
    rw [e,List.getD_cons_succ,<-ih]
    simp [bytesN]
theorem QC {v:Nat} (h:¬v<18446744073709551616):2<nw v:=by
  rcases Nat.lt_or_ge 2 (nw v) with h1|h1
  · exact h1
  · exact absurd (Cy.1 h1) Z
theorem Cm {v:Nat}:((Bo v).toList == (ByteArray.mk #[]).toList)=decide (v<18446744073709551616):=by
  by_cases h:v<18446744073709551616
  · rw [Hs h];simp [h]
  · have h1:=QC h
    rw [ByteArray.toList_eq,ByteArray.toList_eq]
    have h2:(Bo v).data.toList≠[]:=λe=>by
      have h3:(Bo v).data.toList.length=0:=by rw [e];rfl
      rw [FB h] at h3
      simp [DU,CH] at h3
      unfold nw at h1
      omega
    have h4:((Bo v).data.toList == [])=false:=by
      cases hl:(Bo v).data.toList with
      | nil=>exact absurd hl h2
      | cons=>rfl
    rw [show (ByteArray.mk #[]).data.toList=[] from rfl,h4]
    simp [h]
def Aw (v:Nat):List Nat:=if v<18446744073709551616 then [v%4294967296,v/4294967296] else AJ v
theorem CY (v:Nat):W32 (Aw v):=by
  unfold Aw
  split
  · exact W32.cons Z (W32.cons Z W32.nil)
  · exact Bt v
theorem YE {v:Nat} (h:v<18446744073709551616):W32 [v%4294967296,v/4294967296]:=W32.cons Z (W32.cons Z W32.nil)
theorem CQ (v:Nat):nw v<=(Aw v).length:=by
  unfold Aw
  split
  · rename_i h;exact LS h
  · exact Nat.le_refl _
theorem If (v:Nat):(Aw v).take (nw v)=AJ v:=by
  unfold Aw
  split
  · rename_i h
    have e:v=val ([v%4294967296,v/4294967296].take 2):=by simp [val];omega
    have hw:W32 [v%4294967296,v/4294967296]:=W32.cons Z (W32.cons Z W32.nil)
    have h1:=JQ hw (m:=2) jX
    have h2:=QE hw (m:=2) jX
    rw [<-e] at h1 h2
    rw [h2,<-h1]
  · exact List.take_of_length_le (Nat.le_refl _)
theorem Ra (v:Nat):val (Aw v)=v:=by
  unfold Aw
  split
  · simp [val];omega
  · exact Ch v
theorem H6 {a b s:Nat} (ha:a<2^s):a ||| b*2^s=a+b*2^s:=by
  rw [Nat.or_comm,Nat.mul_comm,<-Nat.two_pow_add_eq_or_of_lt ha];omega
theorem KK {a b:Nat} (ha:a<18446744073709551616) (hb:b<18446744073709551616) {c:Nat} (hc:a ||| b=c):IntKind.u64.wrap ((BitVec.ofInt IntKind.u64.bits (a:Int) ||| BitVec.ofInt IntKind.u64.bits (b:Int)).toNat:Int)=(c:Int):=by
  have e:(BitVec.ofInt IntKind.u64.bits (a:Int) ||| BitVec.ofInt IntKind.u64.bits (b:Int)).toNat=a ||| b:=by
    show (BitVec.ofInt 64 (a:Int) ||| BitVec.ofInt 64 (b:Int)).toNat=_
    rw [BitVec.toNat_or,BitVec.ofInt_natCast,BitVec.ofInt_natCast,BitVec.toNat_ofNat,BitVec.toNat_ofNat,Nat.mod_eq_of_lt (show a<2^64 by omega),Nat.mod_eq_of_lt (show b<2^64 by omega)]
  rw [e,hc]
  have h2:a ||| b<2^64:=Nat.or_lt_two_pow ha hb
  exact EK Z Z
theorem KJ {a b:Nat} (ha:a<4294967296) (hb:b<4294967296) {c:Nat} (hc:a ||| b=c):IntKind.u32.wrap ((BitVec.ofInt IntKind.u32.bits (a:Int) ||| BitVec.ofInt IntKind.u32.bits (b:Int)).toNat:Int)=(c:Int):=by
  have e:(BitVec.ofInt IntKind.u32.bits (a:Int) ||| BitVec.ofInt IntKind.u32.bits (b:Int)).toNat=a ||| b:=by
    show (BitVec.ofInt 32 (a:Int) ||| BitVec.ofInt 32 (b:Int)).toNat=_
    rw [BitVec.toNat_or,BitVec.ofInt_natCast,BitVec.ofInt_natCast,BitVec.toNat_ofNat,BitVec.toNat_ofNat,Nat.mod_eq_of_lt (show a<2^32 by omega),Nat.mod_eq_of_lt (show b<2^32 by omega)]
  rw [e,hc]
  have h2:a ||| b<2^32:=Nat.or_lt_two_pow ha hb
  exact HG Z Z
theorem G7 {a s:Nat} (h:a*2^s<18446744073709551616):IntKind.u64.wrap ((a:Int)*2^s)=((a*2^s:Nat):Int):=by
  have e:(a:Int)*2^s=((a*2^s:Nat):Int):=by simp
  rw [e,EK Z Z]
theorem V0 {a s:Nat} (h:a*2^s<4294967296):IntKind.u32.wrap ((a:Int)*2^s)=((a*2^s:Nat):Int):=by
  have e:(a:Int)*2^s=((a*2^s:Nat):Int):=by simp
  rw [e,HG Z Z]
theorem Mx {a s:Nat}:IntKind.u32.wrap ((a:Int)*2^s)=((a*2^s%4294967296:Nat):Int):=by
  have e:(a:Int)*2^s=((a*2^s:Nat):Int):=by simp
  rw [e];exact Ef
theorem Vg (k:Nat):(256:Nat)^k=2^(8*k):=by rw [show (256:Nat)=2^8 from rfl,<-Nat.pow_mul]
theorem Qm {w k:Nat} (hk:k<4):w/256^k%256*2^(8*k)<4294967296:=by
  rcases k with _|_|_|_|k
  · simp;omega
  · simp;omega
  · simp;omega
  · simp;omega
  · omega
theorem Ru {w k x:Nat} (hx:x=w%256^k):x ||| w/256^k%256*2^(8*k)=w%256^(k+1):=by
  subst hx
  rw [H6 (by rw [<-Vg];exact Nat.mod_lt _ (Nat.pow_pos Z)),<-Vg,Nat.mod_pow_succ,Nat.mul_comm]
theorem Qa {os ws xs:List Nat} {n i:Nat} (hl:os.length=n) (hn:ws.length=n) (hi:i<n) (ht:os.take i=ws.take i) (h0:∀j,i<=j->os.getD j 0=0) (hx:xs=os.set i (ws.getD i 0)) :
    xs.length=n/\xs.take (i+1)=ws.take (i+1)/\∀j,i+1<=j->xs.getD j 0=0:=by
  subst hx
  refine ⟨by simp [hl],?_,λj hj=>?_⟩
  · have e1:i<os.length:=by omega
    have e2:i<ws.length:=by omega
    rw [List.take_add_one,List.take_add_one,List.take_set_of_le (Nat.le_refl _),ht]
    simp [e1,e2]
  · have:=h0 j Z
    rw [List.getD_eq_getElem?_getD,List.getElem?_set_ne Z,<-List.getD_eq_getElem?_getD]
    exact this
theorem Vy {os:List Nat} {i:Nat} (h:os.getD i 0=0):os=os.set i 0:=by
  apply List.ext_getElem jX
  intro j h1 h2
  by_cases e:i=j
  · subst e;simpa [h1] using h
  · simp [e]
theorem Y7 (k:Nat):(4294967296:Nat)^k=2^(32*k):=by rw [show (4294967296:Nat)=2^32 from rfl,<-Nat.pow_mul]
theorem Vz {x i:Nat} (hx:x<4294967296) (hi:i<2):x*2^(32*i)<18446744073709551616:=by
  rcases i with _|_|i
  · simp;omega
  · simp;omega
  · omega
theorem St {n i:Nat} (h:n<4294967296^i) (hi:i<2):n<18446744073709551616:=by
  rcases i with _|_|i
  · simp at h;omega
  · simp at h;omega
  · omega
theorem Pe {bs:List Nat} {i K:Nat} (hi:i<K) (hK:K<=bs.length) :
    Gd (J5 (bytesN (bs.take i)++List.replicate (4*(K-i)) 0)) (4*i) (J5 [bs.getD i 0%256,bs.getD i 0/256%256,bs.getD i 0/65536%256,bs.getD i 0/16777216%256])=J5 (bytesN (bs.take (i+1))++List.replicate (4*(K-(i+1))) 0):=by
  have hib:i<bs.length:=by omega
  have e1:bs.take (i+1)=bs.take i++[bs.getD i 0]:=by rw [List.take_add_one];simp [hib]
  have hl:(bytesN (bs.take i)).length=4*i:=by rw [CH,List.length_take];omega
  have e2:List.replicate (4*(K-i)) 0=List.replicate 4 0++List.replicate (4*(K-(i+1))) 0:=by rw [List.replicate_append_replicate];congr 1;omega
  have e3:bytesN [bs.getD i 0]=[bs.getD i 0%256,bs.getD i 0/256%256,bs.getD i 0/65536%256,bs.getD i 0/16777216%256]:=by simp [bytesN]
  rw [e1,L0,e3,e2]
  unfold Gd J5
  simp only [List.map_append]
  rw [List.take_append_of_le_length (by simp [hl]),List.take_of_length_le (by simp [hl])]
  rw [show 4*i+(List.map (λx=>Value.int IntKind.u8 (x:Nat)) [bs.getD i 0%256,bs.getD i 0/256%256,bs.getD i 0/65536%256,bs.getD i 0/16777216%256]).length=4*i+4 from rfl]
  rw [List.drop_append,List.drop_of_length_le (by simp [hl])]
  simp [hl]
theorem Vt {os ws:List Nat} {n i:Nat} (hl:os.length=n) (hn:ws.length=n) (hi:¬i<n) (ht:os.take i=ws.take i):os=ws:=by
  rwa [List.take_of_length_le Z,List.take_of_length_le Z] at ht
end Go.Proofs.YtpolhpjiahbidaaGreatDoor
