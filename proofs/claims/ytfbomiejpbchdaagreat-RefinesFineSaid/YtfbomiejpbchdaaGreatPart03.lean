import Derived.Test.YtfbomiejpbchdaaGreatPart02
namespace Go.Proofs.YtfbomiejpbchdaaGreat
open Go Go.RowKit
set_option linter.unusedVariables false
set_option linter.unusedSimpArgs false
section
def R1 (f:Nat) (v:Nat):List Nat :=
  match f with
  | 0=>[]
  | f+1=>if v=0 then [] else v%4294967296::R1 f (v/4294967296)
def AL (v:Nat):List Nat:=R1 v v
def S9 (x:Nat):List UInt8:=[(x%256).toUInt8,(x/256%256).toUInt8,(x/65536%256).toUInt8,(x/16777216%256).toUInt8]
def small (v:Nat):Bool:=decide (v<18446744073709551616)
def CC (v:Nat):Nat:=if small v then v else 0
def Bn (v:Nat):ByteArray:=if small v then ByteArray.empty else ⟨((AL v).flatMap S9).toArray⟩
def AZ (v:Nat):List Value:=[.int .u64 (CC v:Nat),.string (Bn v)]
def BG (z:Int):List Value:=[.int .u64 (CC z.natAbs:Nat),.string (Bn z.natAbs),.bool (decide (z<0))]
def AD (q:Rat):List Value:=[.int .u64 (CC q.num.natAbs:Nat),.string (Bn q.num.natAbs),.bool (decide (q.num<0)),.int .u64 (CC (q.den-1):Nat),.string (Bn (q.den-1))]
@[ext] structure Pt where
  x:Rat
  y:Rat
def Ae (p:Pt):List Value:=AD p.x++AD p.y
theorem BN {z:Int} (h:-9223372036854775808<=z) (h':z<9223372036854775808):IntKind.i64.wrap z=z:=by
  simp only [IntKind.wrap,IntKind.bits,IntKind.signed];simp;split<;>omega
theorem D6 {z:Int} (h:0<=z) (h':z<18446744073709551616):IntKind.u64.wrap z=z:=by
  simp only [IntKind.wrap,IntKind.bits,IntKind.signed];simp;omega
theorem Gw {z:Int} (h:0<=z) (h':z<4294967296):IntKind.u32.wrap z=z:=by
  simp only [IntKind.wrap,IntKind.bits,IntKind.signed];simp;omega
theorem NL {z:Int} (h:0<=z) (h':z<256):IntKind.u8.wrap z=z:=by
  simp only [IntKind.wrap,IntKind.bits,IntKind.signed];simp;omega
theorem Ab {a b:Nat} (h:a+b<9223372036854775808):IntKind.i64.wrap ((a:Int)+(b:Int))=((a+b:Nat):Int):=by rw [BN (by omega) (by omega)];omega
theorem Cm {a b:Nat} (h:b<=a) (h':a<9223372036854775808):IntKind.i64.wrap ((a:Int)-(b:Int))=((a-b:Nat):Int):=by rw [BN (by omega) (by omega)];omega
theorem Ca {a b:Nat} (h:a*b<9223372036854775808):IntKind.i64.wrap ((a:Int)*(b:Int))=((a*b:Nat):Int):=by
  rw [<-Int.natCast_mul,BN (by omega) (by omega)]
theorem De {a b:Nat} (h:a+b<18446744073709551616):IntKind.u64.wrap ((a:Int)+(b:Int))=((a+b:Nat):Int):=by rw [D6 (by omega) (by omega)];omega
theorem IF {a b:Nat} (h:b<=a) (h':a<18446744073709551616):IntKind.u64.wrap ((a:Int)-(b:Int))=((a-b:Nat):Int):=by rw [D6 (by omega) (by omega)];omega
theorem FN {a b:Nat} (h:a*b<18446744073709551616):IntKind.u64.wrap ((a:Int)*(b:Int))=((a*b:Nat):Int):=by
  rw [<-Int.natCast_mul,D6 (by omega) (by omega)]
theorem CZ {a:Nat} (h:a<9223372036854775808):IntKind.i64.wrap (a:Int)=(a:Int):=BN (by omega) (by omega)
theorem Ba {a:Nat} (h:a<18446744073709551616):IntKind.u64.wrap (a:Int)=(a:Int):=D6 (by omega) (by omega)
theorem CY {a:Nat} (h:a<4294967296):IntKind.u32.wrap (a:Int)=(a:Int):=Gw (by omega) (by omega)
theorem Sn {a:Nat} (h:a<256):IntKind.u8.wrap (a:Int)=(a:Int):=NL (by omega) (by omega)
theorem EY {a:Nat}:IntKind.u32.wrap (a:Int)=((a%4294967296:Nat):Int):=by
  simp only [IntKind.wrap,IntKind.bits,IntKind.signed];simp
theorem Jr {a:Nat}:IntKind.u8.wrap (a:Int)=((a%256:Nat):Int):=by
  simp only [IntKind.wrap,IntKind.bits,IntKind.signed];simp
theorem DL {a b:Nat}:decide ((a:Int)<(b:Int))=decide (a<b):=decide_eq_decide.2 (by omega)
theorem Vy {a b:Nat}:decide ((a:Int)<=(b:Int))=decide (a<=b):=decide_eq_decide.2 (by omega)
theorem Og {a b:Nat}:decide ((a:Int)=(b:Int))=decide (a=b):=decide_eq_decide.2 (by omega)
theorem Zt {a b:Nat}:decide ((a:Int)≠(b:Int))=decide (a≠b):=decide_eq_decide.2 (by omega)
theorem KB {a b:Nat} (h:a<9223372036854775808):IntKind.i64.wrap ((a:Int).tdiv (b:Int))=((a/b:Nat):Int):=by
  have:a/b<=a:=Nat.div_le_self _ _
  rw [<-Int.ofNat_tdiv]
  generalize a/b=q at *
  exact BN (by omega) (by omega)
theorem KO {a b:Nat} (h:a<18446744073709551616):IntKind.u64.wrap ((a:Int).tdiv (b:Int))=((a/b:Nat):Int):=by
  have:a/b<=a:=Nat.div_le_self _ _
  rw [<-Int.ofNat_tdiv]
  generalize a/b=q at *
  exact D6 (by omega) (by omega)
theorem Ie {a b:Nat}:((a:Int).tmod (b:Int))=((a%b:Nat):Int):=(Int.ofNat_tmod a b).symm
theorem F2 {a s:Nat}:(a:Int)/2^s=((a/2^s:Nat):Int):=by simp
theorem EI:Tryz.prog.follows .mixedOrders=true:=by kernel_rfl
theorem Cn.nil {F:List (Nat×Value)}:Cn [] F:=trivial
theorem Cn.cons {k:Nat} {v:Value} {r F:List (Nat×Value)} (h:F.lookup k=some v) (t:Cn r F):Cn ((k,v)::r) F:=⟨h,t⟩
theorem FD.nil {P:Program} {n:Nat} {l:List Oper} {specs:List Sp} {F:List (Nat×Value)} {w0:BP} {Lro L:List As} {os:List Oper}:FD P n l specs F w0 Lro L os []:=by
  cases os<;>trivial
theorem FD.cons {P:Program} {n:Nat} {l:List Oper} {specs:List Sp} {F:List (Nat×Value)} {w0:BP} {Lro L:List As} {o:Oper} {os:List Oper} {s:Sp} {ss:List Sp} (h:Vc P n l specs F w0 Lro L o s) (t:FD P n l specs F w0 Lro L os ss) :
    FD P n l specs F w0 Lro L (o::os) (s::ss):=⟨h,t⟩
theorem AF.store' {P:Program} {ops:Array Oper} {rest:List Oper} {Q:Exit->Act->World->Prop} {n:Nat} {F:List (Nat×Value)} {w0:BP} {L L':List As} {v:Value} {x y:Operand} {d:Option Tmp} {t:TypeId} {p:String} {af:Array Edge} {g:Option (Nat×Bool)}
    {i b off:Nat} {ty T:TypeId} {cs vs cs':List Value} (hw:Wt ops n F ⟨d,.store ty x y,t,p,af,g⟩) (ho:d=none) (hx:evF F x=some (.pointer (some ⟨b,off,none⟩))) (hy:evF F y=some v) (hi:L[i]?=some (Ah b T cs))
    (hv:v.cells=vs.toArray) (hs:∀w,(sizeOf ty).run P w=.ok vs.length w) (h1:(vs.all λu=>u.oneCell')=true) (hl:Nat.ble (off+vs.length) cs.length=true)
    (hc:GV cs off vs=cs') (hL:L.set i (Ah b T cs')=L') (next:AF P ops rest Q n F w0 L'):AF P ops (⟨d,.store ty x y,t,p,af,g⟩::rest) Q n F w0 L:=by
  subst hc;subst hL
  exact AF.store hw (Nl hx hy hi hv hs h1 hl) ho hi next
theorem AF.callB {P:Program} {ops:Array Oper} {rest:List Oper} {Q:Exit->Act->World->Prop} {n:Nat} {F:List (Nat×Value)} {w0:BP} {L:List As} {o:Oper} {d:Nat} {f:FuncId} {args:Array Value} {V:Nat->Value} {T:TypeId} {cs:List Value} (hw:Wt ops n F o)
    (he:∀a w,Cd n a F->BR w0 w L->(execOp a.eval o).run P w=.ok (.enter f args) w)
    (hc:∀w,BR w0 w L->Calls P f args w λe w'=>∃b,e=.returned (V b)/\FQ w.heap.size w w'/\w.heap.size<=b/\w'.heap[b]?=some (.cells cs.toArray T (0,0)))
    (ho:o.dst=some d) (hd:d<n) (next:∀b,AF P ops rest Q n ((d,V b)::F) w0 (Ah b T cs::L)):AF P ops (o::rest) Q n F w0 L:=λa w ha hW=>by
  unfold wpList
  rw [if_pos (hw a ha)]
  left
  unfold Oper.wp
  rw [he a w ha hW,Oper.upon_enter]
  refine (hc w hW).mono ?_
  rintro e w' ⟨b,rfl,hb,hlt,hcell⟩
  rw [ho]
  exact next b _ _ (ha.put hd) (hW.add rfl hb hlt ⟨_,hcell,rfl⟩)
theorem AF.callM {P:Program} {ops:Array Oper} {rest:List Oper} {Q:Exit->Act->World->Prop} {n:Nat} {F:List (Nat×Value)} {w0:BP} {L L':List As} {o:Oper} {f:FuncId} {args:Array Value} {v:Value} {i b:Nat} {T:TypeId} {cs cs':List Value} (hw:Wt ops n F o)
    (he:∀a w,Cd n a F->BR w0 w L->(execOp a.eval o).run P w=.ok (.enter f args) w) (hi:L[i]?=some (Ah b T cs))
    (hc:∀w,BR w0 w L->Calls P f args w λe w'=>e=.returned v/\KZ w w' (some b)/\w'.heap[b]?=some (.cells cs'.toArray T (0,0)))
    (hd:∀d,o.dst=some d->d<n) (hL:L.set i (Ah b T cs')=L') (next:AF P ops rest Q n (match o.dst with|some d=>(d,v)::F|none=>F) w0 L'):AF P ops (o::rest) Q n F w0 L:=λa w ha hW=>by
  subst hL
  unfold wpList
  rw [if_pos (hw a ha)]
  left
  unfold Oper.wp
  rw [he a w ha hW,Oper.upon_enter]
  refine (hc w hW).mono ?_
  rintro e w' ⟨rfl,hg,hcell⟩
  have hW':=hW.turn hi rfl rfl hg ⟨_,hcell,rfl⟩ (y:=Ah b T cs')
  cases hdst:o.dst with
  | none=>rw [hdst] at next;exact next _ _ ha.put_none hW'
  | some d=>rw [hdst] at next;exact next _ _ (ha.put (hd d hdst)) hW'
abbrev pP (b o:Nat):Value:=.pointer (some ⟨b,o,none⟩)
abbrev aG (l:List Value):Value:=.agg l.toArray
abbrev vI (z:Int):Value:=.int .i64 z
abbrev vN (n:Nat):Value:=.int .i64 (n:Int)
abbrev vK (k:IntKind) (n:Nat):Value:=.int k (n:Int)
theorem Ad {a b:Nat} (h:Nat.ble a b=true):a<=b:=Nat.le_of_ble_eq_true h
theorem sN {F:List (Nat×Value)}:Cn [] F:=trivial
theorem sS {k:Nat} {v:Value} {r F:List (Nat×Value)} (h:F.lookup k=some v) (t:Cn r F):Cn ((k,v)::r) F:=⟨h,t⟩
def YR (F:List (Nat×Value)):List (Nat×Value)->List (Option Value)
  | []=>[]
  | p::r=>F.lookup p.1::YR F r
def XF:List (Nat×Value)->List (Option Value)
  | []=>[]
  | p::r=>some p.2::XF r
theorem sF:∀{F' F:List (Nat×Value)},YR F F'=XF F'->Cn F' F
  | [],_,_=>trivial
  | _::_,_,h=>by
    simp only [YR,XF,List.cons.injEq] at h
    exact ⟨h.1,sF h.2⟩
theorem vC {P:Program} {n:Nat} {l:List Oper} {specs:List Sp} {F:List (Nat×Value)} {w0:BP} {Lro L:List As} {o:Oper} {os:List Oper} {s:Sp} {ss:List Sp} (h:Vc P n l specs F w0 Lro L o s) (t:FD P n l specs F w0 Lro L os ss) :
    FD P n l specs F w0 Lro L (o::os) (s::ss):=⟨h,t⟩
theorem dN {j:Nat}:C7 j []:=trivial
theorem dC {j:Nat} {kd:Kd} {v:Value} {ks:List Nat} {A:Value->List As} {C:Value->Prop} {ss:List Sp} (t:C7 (j+1) ss):C7 j (⟨kd,λ_=>v,ks,A,C⟩::ss):=⟨λ_ _ _ _=>rfl,t⟩
section
variable {P:Program} {ops:Array Oper} {rest:List Oper} {Q:Exit->Act->World->Prop} {n d:Nat} {F F':List (Nat×Value)} {w0:BP} {L Lro:List As} {op:Op} {t:TypeId} {p:String} {af:Array Edge} {v:Value} {l:List Oper} {specs:List Sp}
theorem AG.subF {c:Code} (hs:Cn F' F) (h:AG P c Q n F' w0 L):AG P c Q n F w0 L:=AG.sub hs (List.Sublist.refl _) h
theorem AC.subF {e:Exit} (hs:Cn F' F) (h:AC Q e n F' w0 L):AC Q e n F w0 L:=AC.sub hs (List.Sublist.refl _) h
theorem st (he:Ex P n F w0 L ⟨some d,op,t,p,af,none⟩ v) (hd:d<n) (next:AF P ops rest Q n ((d,v)::F) w0 L):AF P ops (⟨some d,op,t,p,af,none⟩::rest) Q n F w0 L:=AF.step (AN rfl) he rfl hd next
theorem q1 {x y:Code} (h:AG P x (Exit.then (y.wp P Q) Q) n F w0 L):AC (Exit.then ((Code.seq x y).wp P Q) Q) .normal n F w0 L:=AC.then_ (AG.seq h)
theorem q2 {id:Nat} {y:Code} (h:AF P l.toArray l (Exit.then (y.wp P Q) Q) n F w0 L):AC (Exit.then ((Code.seq (.region id l.toArray false) y).wp P Q) Q) .normal n F w0 L:=q1 (AG.region h)
theorem q3 {id:Nat} {y:Code} (hs:Cn F' F) (h:AF P l.toArray l (Exit.then (y.wp P Q) Q) n F' w0 L):AF P ops [] (Exit.then ((Code.seq (.region id l.toArray false) y).wp P Q) Q) n F w0 L:=AF.nil (AC.subF hs (q2 h))
theorem q4 {id:Nat} {y:Code} (h:AF P l.toArray l (Exit.then (y.wp P Q) Q) n F w0 L):AG P (Code.seq (.region id l.toArray false) y) Q n F w0 L:=AG.seq (AG.region h)
theorem q6 {x y:Code} (hs:Cn F' F) (h:AG P x (Exit.then (y.wp P Q) Q) n F' w0 L):AF P ops [] (Exit.then ((Code.seq x y).wp P Q) Q) n F w0 L:=AF.nil (AC.subF hs (q1 h))
theorem Aq {x:Operand} {f:FuncId} {xs:List Operand} {args:List Value} {ts:Array TypeId} {dd:Option Tmp} {g:Option (Nat×Bool)} (hf:evF F x=some (.func (.func f) #[] #[])) (hargs:xs.map (evF F)=args.map some)
    (hc:∀args w,(callFunc f args).run P w=.ok (.enter f args) w) :
    ∀a w,Cd n a F->BR w0 w L->(execOp a.eval ⟨dd,.call { callee:=.value x,args:=xs.toArray,argTypes:=ts },t,p,af,g⟩).run P w=.ok (.enter f args.toArray) w :=
  F9 (caps:=[]) hf hargs (List.append_nil _) hc
theorem DZ {v:(Nat->Value)->Value} {ks:List Nat} {G:(Nat->Value)->List (Nat×Value)} {dd:Option Tmp} (hG:∀β,Cn (G β) (J6 l specs β ⟨dd,op,t,p,af,none⟩++F)) (h:∀β,Ex P n (G β) w0 (Ci specs β ks++L) ⟨dd,op,t,p,af,none⟩ (v β)):Vc P n l specs F w0 Lro L ⟨dd,op,t,p,af,none⟩ ⟨.look,v,ks,YX,Yy⟩:=Wq hG (λ_=>AN rfl) h
end
end
section
structure DY (P:Program) (t:TypeId) (k:Nat):Prop where
  a:∀w,(isAgg t).run P w=.ok true w
  s:∀w,(sizeOf t).run P w=.ok k w
structure Ga (P:Program) (t:TypeId):Prop where
  a:∀w,(isAgg t).run P w=.ok false w
def DP (P:Program) (t:TypeId) (cs:List Value):Prop:=∃u:Value,(∀w,(zeroValue t).run P w=.ok u w)/\u.cells=cs.toArray
section
variable {P:Program} {ops:Array Oper} {rest:List Oper} {Q:Exit->Act->World->Prop} {n d i b off k:Nat} {F F':List (Nat×Value)} {w0:BP} {L Lro:List As} {op:Op} {t ty T:TypeId} {p:String} {af:Array Edge} {u v:Value} {x y:Operand} {l:List Oper} {specs:List Sp} {cs vs:List Value}
theorem CB {a b:Nat} (h:Nat.ble (a+1) b=true):a<b:=Nat.le_of_ble_eq_true h
theorem mv (hx:evF F x=some v) (hd:Nat.ble (d+1) n=true) (next:AF P ops rest Q n ((d,v)::F) w0 L):AF P ops (⟨some d,.move x,t,p,af,none⟩::rest) Q n F w0 L:=AF.step (AN rfl) (A9 hx) rfl (CB hd) next
theorem aP (hx:evF F x=some v) (hd:Nat.ble (d+1) n=true) (next:AF P ops rest Q n ((d,v)::F) w0 L):AF P ops (⟨some d,.assign x,t,p,af,none⟩::rest) Q n F w0 L:=AF.step (AN rfl) (L3 hx) rfl (CB hd) next
theorem J7 {cs:List Value} {k:Nat} (h:cs.length=k):(cs.drop 0).take k=cs:=by rw [List.drop_zero,List.take_of_length_le (by omega)]
theorem aB (i:Nat) (ht:DY P ty k) (hx:evF F x=some (pP b 0)) (hi:L[i]?=some (Ah b T cs)) (hl:cs.length=k) (hd:Nat.ble (d+1) n=true) (next:AF P ops rest Q n ((d,aG cs)::F) w0 L) :
    AF P ops (⟨some d,.load ty x,t,p,af,none⟩::rest) Q n F w0 L:=AF.step (AN rfl) (Aa hx hi ht.a ht.s (J7 hl) hl) rfl (CB hd) next
theorem aH (i:Nat) (vs:List Value) (ht:DY P ty k) (hx:evF F x=some (pP b off)) (hi:L[i]?=some (Ah b T cs)) (hv:(cs.drop off).take k=vs) (hl:vs.length=k) (hd:Nat.ble (d+1) n=true) (next:AF P ops rest Q n ((d,aG vs)::F) w0 L) :
    AF P ops (⟨some d,.load ty x,t,p,af,none⟩::rest) Q n F w0 L:=AF.step (AN rfl) (Aa hx hi ht.a ht.s hv hl) rfl (CB hd) next
theorem aL (i:Nat) (v:Value) (ht:Ga P ty) (hx:evF F x=some (pP b off)) (hi:L[i]?=some (Ah b T cs)) (hv:cs[off]?=some v) (hd:Nat.ble (d+1) n=true) (next:AF P ops rest Q n ((d,v)::F) w0 L) :
    AF P ops (⟨some d,.load ty x,t,p,af,none⟩::rest) Q n F w0 L:=AF.step (AN rfl) (AM hx hi ht.a hv) rfl (CB hd) next
theorem bx (hx:evF F x=some v) (hv:v.cells=cs.toArray) (hd:Nat.ble (d+1) n=true) (next:∀b,AF P ops rest Q n ((d,pP b 0)::F) w0 (Ah b T cs::L)):AF P ops (⟨some d,.box T x,t,p,af,none⟩::rest) Q n F w0 L :=
  AF.open_ (AN rfl) (Xm hx hv) rfl (CB hd) next
theorem al (hz:DP P T cs) (hd:Nat.ble (d+1) n=true) (next:∀b,AF P ops rest Q n ((d,pP b 0)::F) w0 (Ah b T cs::L)):AF P ops (⟨some d,.alloc T,t,p,af,none⟩::rest) Q n F w0 L :=
  have ⟨_,h1,h2⟩:=hz
  AF.open_ (AN rfl) (OM h1 h2) rfl (CB hd) next
theorem cl {f:FuncId} {xs:List Operand} {args:List Value} {ts:Array TypeId} (hc:∀args w,(callFunc f args).run P w=.ok (.enter f args) w) (h:∀w,BR w0 w L->Calls P f args.toArray w (Am w v))
    (hf:evF F x=some (.func (.func f) #[] #[])) (hargs:xs.map (evF F)=args.map some) (hd:Nat.ble (d+1) n=true) (next:AF P ops rest Q n ((d,v)::F) w0 L) :
    AF P ops (⟨some d,.call { callee:=.value x,args:=xs.toArray,argTypes:=ts },t,p,af,none⟩::rest) Q n F w0 L:=AF.call (AN rfl) (Aq hf hargs hc) h rfl (CB hd) next
theorem VX {cs vs:List Value} (h:vs.length=cs.length):GV cs 0 vs=vs:=by simp [GV,h]
theorem NQ {L':List As} (hx:evF F x=some (pP b 0)) (hy:evF F y=some v) (hi:L[i]?=some (Ah b T cs)) (hv:v.cells=vs.toArray) (hs:∀w,(sizeOf ty).run P w=.ok vs.length w) (h1:(vs.all λu=>u.oneCell')=true) (hl:vs.length=cs.length)
    (hL:L.set i (Ah b T vs)=L') (next:AF P ops rest Q n F w0 L'):AF P ops (⟨none,.store ty x y,t,p,af,none⟩::rest) Q n F w0 L:=AF.store' (AN rfl) rfl hx hy hi hv hs h1 (Nat.ble_eq_true_of_le (by omega)) (VX hl) hL next
variable {A0 A1 A2 A3 A4 A5:As}
theorem Za (hx:evF F x=some (pP b 0)) (hy:evF F y=some v) (hv:v.cells=vs.toArray) (hs:∀w,(sizeOf ty).run P w=.ok vs.length w) (h1:(vs.all λu=>u.oneCell')=true) (hl:vs.length=cs.length)
    (next:AF P ops rest Q n F w0 (Ah b T vs::L)):AF P ops (⟨none,.store ty x y,t,p,af,none⟩::rest) Q n F w0 (Ah b T cs::L):=NQ (i:=0) hx hy rfl hv hs h1 hl rfl next
theorem Zd (hx:evF F x=some (pP b 0)) (hy:evF F y=some v) (hv:v.cells=vs.toArray) (hs:∀w,(sizeOf ty).run P w=.ok vs.length w) (h1:(vs.all λu=>u.oneCell')=true) (hl:vs.length=cs.length)
    (next:AF P ops rest Q n F w0 (A0::Ah b T vs::L)):AF P ops (⟨none,.store ty x y,t,p,af,none⟩::rest) Q n F w0 (A0::Ah b T cs::L):=NQ (i:=1) hx hy rfl hv hs h1 hl rfl next
theorem Zh (hx:evF F x=some (pP b 0)) (hy:evF F y=some v) (hv:v.cells=vs.toArray) (hs:∀w,(sizeOf ty).run P w=.ok vs.length w) (h1:(vs.all λu=>u.oneCell')=true) (hl:vs.length=cs.length)
    (next:AF P ops rest Q n F w0 (A0::A1::Ah b T vs::L)):AF P ops (⟨none,.store ty x y,t,p,af,none⟩::rest) Q n F w0 (A0::A1::Ah b T cs::L):=NQ (i:=2) hx hy rfl hv hs h1 hl rfl next
theorem ZV (hx:evF F x=some (pP b 0)) (hy:evF F y=some v) (hv:v.cells=vs.toArray) (hs:∀w,(sizeOf ty).run P w=.ok vs.length w) (h1:(vs.all λu=>u.oneCell')=true) (hl:vs.length=cs.length)
    (next:AF P ops rest Q n F w0 (A0::A1::A2::Ah b T vs::L)):AF P ops (⟨none,.store ty x y,t,p,af,none⟩::rest) Q n F w0 (A0::A1::A2::Ah b T cs::L):=NQ (i:=3) hx hy rfl hv hs h1 hl rfl next
theorem sr {L:List As}:L.Sublist L:=List.Sublist.refl _
theorem sl {a:As} {l1 l2:List As} (h:l1.Sublist l2):l1.Sublist (a::l2):=List.Sublist.cons _ h
theorem sk {a:As} {l1 l2:List As} (h:l1.Sublist l2):(a::l1).Sublist (a::l2):=List.Sublist.cons_cons _ h
theorem JK {v:Value} {G:List (Nat×Value)} {dd:Option Tmp} (hG:∀β,YR (J6 l specs β ⟨dd,op,t,p,af,none⟩++F) G=XF G) (h:∀w0,Ex P n G w0 [] ⟨dd,op,t,p,af,none⟩ v):Vc P n l specs F w0 Lro L ⟨dd,op,t,p,af,none⟩ ⟨.pure,λ_=>v,[],YX,Yy⟩ :=
  Vz (G:=λ_=>G) (λβ=>sF (hG β)) (λ_=>AN rfl) (λ_ w=>h w)
theorem F0 (s:Nat) (v:Value) {dd:Option Tmp} (hG:∀β,YR (J6 l specs β ⟨dd,.move (.tmp s),t,p,af,none⟩++F) [(s,v)]=XF [(s,v)]):Vc P n l specs F w0 Lro L ⟨dd,.move (.tmp s),t,p,af,none⟩ ⟨.pure,λ_=>v,[],YX,Yy⟩ :=
  JK hG (λ_=>A9 (by simp [evF]))
end
theorem dA {Q:Exit->Act->World->Prop} {n:Nat} {F:List (Nat×Value)} {w0:BP} {L Lro:List As} {l:List Oper} {specs:List Sp} {id:Nat} (hro:Lro.Sublist L) (hdep:C7 0 specs)
    (hA:VA n l specs=true->FD Tryz.prog n l specs F w0 Lro L l specs) (hc:VA n l specs=true)
    (hF:((List.range specs.length).all λj=>match (l[j]?).bind (·.dst) with|some d=>(F.lookup d).isNone|none=>false)=true)
    (hQ:∀c a d v w,Q (.panic c) (a.put d v) w->Q (.panic c) a w)
    (hB:∀β,Cs specs β (List.range specs.length)->Cj Tryz.prog l.toArray (l.drop specs.length) Q n (Wb l specs β++F) w0 Lro (RK specs β++L)):AG Tryz.prog (.region id l.toArray true) Q n F w0 L :=
  AG.drawn hro (RV.of hdep) EI hc hF hQ (T_ _ _ (hA hc)) hB
section
variable {P:Program} {ops:Array Oper} {rest:List Oper} {Q:Exit->Act->World->Prop} {n:Nat} {F F':List (Nat×Value)} {w0:BP} {L Lro:List As} {specs:List Sp} {β:Nat->Value} {A0 A1 A2 A3:As}
theorem Yq (hs:YR F F'=XF F') (hn:RK specs β=[]) (h:Cj P ops rest Q n F' w0 Lro L):Cj P ops rest Q n F w0 Lro (RK specs β++L):=Cj.sub (sF hs) (by rw [hn];exact List.Sublist.refl _) h
end
def Uq (F:List (Nat×Value)):List Nat->Option (List (Nat×Value))
  | []=>some []
  | k::ks=>match F.lookup k with
    | some v=>match Uq F ks with
      | some r=>some ((k,v)::r)
      | none=>none
    | none=>none
theorem sL:∀(ks:List Nat) {F F':List (Nat×Value)},Uq F ks=some F'->Cn F' F
  | [],_,_,h=>by injection h with h;subst h;trivial
  | k::ks,F,F',h=>by
    unfold Uq at h
    split at h
    · rename_i v hv
      split at h
      · rename_i r hr
        injection h with h;subst h
        exact ⟨hv,sL ks hr⟩
      · cases h
    · cases h
def Oe:List As->Nat->As->Option (List As)
  | [],_,_=>none
  | _::r,0,y=>some (y::r)
  | x::r,i+1,y=>match Oe r i y with
    | some r'=>some (x::r')
    | none=>none
theorem HD:∀{L:List As} {i:Nat} {y:As} {L':List As},Oe L i y=some L'->L.set i y=L'
  | [],_,_,_,h=>by cases h
  | _::r,0,y,_,h=>by injection h
  | x::r,i+1,y,L',h=>by
    unfold Oe at h
    split at h
    · rename_i r' hr
      injection h with h;subst h
      rw [List.set_cons_succ,HD hr]
    · cases h
section
variable {α β γ δ ε:Type} {a a':α} {b b':β} {c c':γ} {d d':δ} {e e':ε}
theorem Cw (h:(a,b)=(a',b')):a=a':=congrArg Prod.fst h
theorem Bd (h:(a,b)=(a',b')):b=b':=congrArg Prod.snd h
end
section
variable {P:Program} {ops:Array Oper} {rest:List Oper} {Q:Exit->Act->World->Prop} {n d i b off k:Nat} {F F':List (Nat×Value)} {w0:BP} {L L' Lro:List As} {op:Op} {t ty T:TypeId} {p:String} {af:Array Edge} {u v:Value} {x y:Operand} {l:List Oper} {specs:List Sp} {cs vs:List Value} {o:Oper} {j:Nat} {g:Option (Nat×Bool)}
theorem AB {t:Nat} {b:Bool} (h:(o.guard,(ops[j]?).bind (·.dst),F.lookup t)=(some (j,b),some t,some (.bool b))):Wt ops n F o:=W1 (Cw h) (Cw (Bd h)) (Bd (Bd h))
theorem AP {t:Nat} {b:Bool} (h:(o.guard,(ops[j]?).bind (·.dst),F.lookup t)=(some (j,b),some t,some (.bool (!b)))):∀a,Cd n a F->Region.wanted o (yielded ops a.tmps)=false:=Xs (Cw h) (Cw (Bd h)) (Bd (Bd h))
theorem AJ (he:Ex P n F w0 L ⟨some d,op,t,p,af,none⟩ v) (hd:Nat.ble (d+1) n=true) (next:AF P ops rest Q n ((d,v)::F) w0 L):AF P ops (⟨some d,op,t,p,af,none⟩::rest) Q n F w0 L:=st he (CB hd) next
theorem AO (h:(evF F x,Nat.ble (d+1) n)=(some v,true)) (next:AF P ops rest Q n ((d,v)::F) w0 L):AF P ops (⟨some d,.move x,t,p,af,none⟩::rest) Q n F w0 L:=mv (Cw h) (Bd h) next
theorem AK (h:(evF F x,Nat.ble (d+1) n)=(some v,true)) (next:AF P ops rest Q n ((d,v)::F) w0 L):AF P ops (⟨some d,.assign x,t,p,af,none⟩::rest) Q n F w0 L:=aP (Cw h) (Bd h) next
theorem A7 (i:Nat) (ht:DY P ty k) (h:(evF F x,L[i]?,cs.length,Nat.ble (d+1) n)=(some (pP b 0),some (Ah b T cs),k,true)) (next:AF P ops rest Q n ((d,aG cs)::F) w0 L) :
    AF P ops (⟨some d,.load ty x,t,p,af,none⟩::rest) Q n F w0 L:=aB i ht (Cw h) (Cw (Bd h)) (Cw (Bd (Bd h))) (Bd (Bd (Bd h))) next
theorem EU (i:Nat) (vs:List Value) (ht:DY P ty k) (h:(evF F x,L[i]?,(cs.drop off).take k,vs.length,Nat.ble (d+1) n)=(some (pP b off),some (Ah b T cs),vs,k,true)) (next:AF P ops rest Q n ((d,aG vs)::F) w0 L) :
    AF P ops (⟨some d,.load ty x,t,p,af,none⟩::rest) Q n F w0 L:=aH i vs ht (Cw h) (Cw (Bd h)) (Cw (Bd (Bd h))) (Cw (Bd (Bd (Bd h)))) (Bd (Bd (Bd (Bd h)))) next
theorem BL (i:Nat) (v:Value) (ht:Ga P ty) (h:(evF F x,L[i]?,cs[off]?,Nat.ble (d+1) n)=(some (pP b off),some (Ah b T cs),some v,true)) (next:AF P ops rest Q n ((d,v)::F) w0 L) :
    AF P ops (⟨some d,.load ty x,t,p,af,none⟩::rest) Q n F w0 L:=aL i v ht (Cw h) (Cw (Bd h)) (Cw (Bd (Bd h))) (Bd (Bd (Bd h))) next
theorem Bl (h:(evF F x,v.cells,Nat.ble (d+1) n)=(some v,cs.toArray,true)) (next:∀b,AF P ops rest Q n ((d,pP b 0)::F) w0 (Ah b T cs::L)):AF P ops (⟨some d,.box T x,t,p,af,none⟩::rest) Q n F w0 L :=
  bx (Cw h) (Cw (Bd h)) (Bd (Bd h)) next
theorem Ey {f:FuncId} {xs:List Operand} {args:List Value} {ts:Array TypeId} (hc:∀args w,(callFunc f args).run P w=.ok (.enter f args) w) (h:∀w,BR w0 w L->Calls P f args.toArray w (Am w v))
    (h2:(evF F x,xs.map (evF F),Nat.ble (d+1) n)=(some (.func (.func f) #[] #[]),args.map some,true)) (next:AF P ops rest Q n ((d,v)::F) w0 L) :
    AF P ops (⟨some d,.call { callee:=.value x,args:=xs.toArray,argTypes:=ts },t,p,af,none⟩::rest) Q n F w0 L:=cl hc h (Cw h2) (Cw (Bd h2)) (Bd (Bd h2)) next
theorem BU {f:FuncId} {xs:List Operand} {args:List Value} {ts:Array TypeId} (hc:∀args w,(callFunc f args).run P w=.ok (.enter f args) w) (h:∀w,Calls P f args.toArray w (Am w v))
    (h2:(evF F x,xs.map (evF F),Nat.ble (d+1) n)=(some (.func (.func f) #[] #[]),args.map some,true)) (next:AF P ops rest Q n ((d,v)::F) w0 L) :
    AF P ops (⟨some d,.call { callee:=.value x,args:=xs.toArray,argTypes:=ts },t,p,af,none⟩::rest) Q n F w0 L:=Ey hc (λw _=>h w) h2 next
variable {A0 A1 A2 A3 A4 A5:As}
theorem Ap (h:(evF F x,evF F y,v.cells)=(some (pP b 0),some v,vs.toArray)) (hs:∀w,(sizeOf ty).run P w=.ok vs.length w) (h2:(vs.all λu=>u.oneCell',vs.length)=(true,cs.length))
    (next:AF P ops rest Q n F w0 (Ah b T vs::L)):AF P ops (⟨none,.store ty x y,t,p,af,none⟩::rest) Q n F w0 (Ah b T cs::L):=Za (Cw h) (Cw (Bd h)) (Bd (Bd h)) hs (Cw h2) (Bd h2) next
theorem Cr (h:(evF F x,evF F y,v.cells)=(some (pP b 0),some v,vs.toArray)) (hs:∀w,(sizeOf ty).run P w=.ok vs.length w) (h2:(vs.all λu=>u.oneCell',vs.length)=(true,cs.length))
    (next:AF P ops rest Q n F w0 (A0::Ah b T vs::L)):AF P ops (⟨none,.store ty x y,t,p,af,none⟩::rest) Q n F w0 (A0::Ah b T cs::L):=Zd (Cw h) (Cw (Bd h)) (Bd (Bd h)) hs (Cw h2) (Bd h2) next
theorem L4 (h:(evF F x,evF F y,v.cells)=(some (pP b 0),some v,vs.toArray)) (hs:∀w,(sizeOf ty).run P w=.ok vs.length w) (h2:(vs.all λu=>u.oneCell',vs.length)=(true,cs.length))
    (next:AF P ops rest Q n F w0 (A0::A1::Ah b T vs::L)):AF P ops (⟨none,.store ty x y,t,p,af,none⟩::rest) Q n F w0 (A0::A1::Ah b T cs::L):=Zh (Cw h) (Cw (Bd h)) (Bd (Bd h)) hs (Cw h2) (Bd h2) next
theorem KM (h:(evF F x,evF F y,v.cells)=(some (pP b 0),some v,vs.toArray)) (hs:∀w,(sizeOf ty).run P w=.ok vs.length w) (h2:(vs.all λu=>u.oneCell',vs.length)=(true,cs.length))
    (next:AF P ops rest Q n F w0 (A0::A1::A2::Ah b T vs::L)):AF P ops (⟨none,.store ty x y,t,p,af,none⟩::rest) Q n F w0 (A0::A1::A2::Ah b T cs::L):=ZV (Cw h) (Cw (Bd h)) (Bd (Bd h)) hs (Cw h2) (Bd h2) next
theorem GK (i:Nat) {v:Value} {cs':List Value} (hw:Wt ops n F ⟨none,.store ty x y,t,p,af,g⟩) (h:(evF F x,evF F y,L[i]?,v.cells)=(some (pP b off),some v,some (Ah b T cs),vs.toArray))
    (hs:∀w,(sizeOf ty).run P w=.ok vs.length w) (h2:(vs.all λu=>u.oneCell',Nat.ble (off+vs.length) cs.length,GV cs off vs,Oe L i (Ah b T cs'))=(true,true,cs',some L')) (next:AF P ops rest Q n F w0 L'):AF P ops (⟨none,.store ty x y,t,p,af,g⟩::rest) Q n F w0 L :=
  AF.store' hw rfl (Cw h) (Cw (Bd h)) (Cw (Bd (Bd h))) (Bd (Bd (Bd h))) hs (Cw h2) (Cw (Bd h2)) (Cw (Bd (Bd h2))) (HD (Bd (Bd (Bd h2)))) next
end
end
end Go.Proofs.YtfbomiejpbchdaaGreat
