import Derived.Test.YtfbomiejpbchdaaGreatPart02
namespace Go.Proofs.YtfbomiejpbchdaaGreat
open Go Go.RowKit
set_option linter.unusedVariables false
set_option linter.unusedSimpArgs false
section
def RE (f:Nat) (v:Nat):List Nat :=
  match f with
  | 0=>[]
  | f+1=>if v=0 then [] else v%4294967296::RE f (v/4294967296)
def AJ (v:Nat):List Nat:=RE v v
def UD (x:Nat):List UInt8:=[(x%256).toUInt8,(x/256%256).toUInt8,(x/65536%256).toUInt8,(x/16777216%256).toUInt8]
def small (v:Nat):Bool:=decide (v<18446744073709551616)
def Bw (v:Nat):Nat:=if small v then v else 0
def Bh (v:Nat):ByteArray:=if small v then ByteArray.empty else ⟨((AJ v).flatMap UD).toArray⟩
def AV (v:Nat):List Value:=[.int .u64 (Bw v:Nat),.string (Bh v)]
def BB (z:Int):List Value:=[.int .u64 (Bw z.natAbs:Nat),.string (Bh z.natAbs),.bool (decide (z<0))]
def AW (q:Rat):List Value:=[.int .u64 (Bw q.num.natAbs:Nat),.string (Bh q.num.natAbs),.bool (decide (q.num<0)),.int .u64 (Bw (q.den-1):Nat),.string (Bh (q.den-1))]
@[ext] structure Pt where
  x:Rat
  y:Rat
def An (p:Pt):List Value:=AW p.x++AW p.y
theorem BE {z:Int} (h:-9223372036854775808<=z) (h':z<9223372036854775808):IntKind.i64.wrap z=z:=by
  simp only [IntKind.wrap,IntKind.bits,IntKind.signed];simp;split<;>omega
theorem Da {z:Int} (h:0<=z) (h':z<18446744073709551616):IntKind.u64.wrap z=z:=by
  simp only [IntKind.wrap,IntKind.bits,IntKind.signed];simp;omega
theorem GI {z:Int} (h:0<=z) (h':z<4294967296):IntKind.u32.wrap z=z:=by
  simp only [IntKind.wrap,IntKind.bits,IntKind.signed];simp;omega
theorem MY {z:Int} (h:0<=z) (h':z<256):IntKind.u8.wrap z=z:=by
  simp only [IntKind.wrap,IntKind.bits,IntKind.signed];simp;omega
theorem AR {a b:Nat} (h:a+b<9223372036854775808):IntKind.i64.wrap ((a:Int)+(b:Int))=((a+b:Nat):Int):=by rw [BE (by omega) (by omega)];omega
theorem CV {a b:Nat} (h:b<=a) (h':a<9223372036854775808):IntKind.i64.wrap ((a:Int)-(b:Int))=((a-b:Nat):Int):=by rw [BE (by omega) (by omega)];omega
theorem Bq {a b:Nat} (h:a*b<9223372036854775808):IntKind.i64.wrap ((a:Int)*(b:Int))=((a*b:Nat):Int):=by
  rw [<-Int.natCast_mul,BE (by omega) (by omega)]
theorem DC {a b:Nat} (h:a+b<18446744073709551616):IntKind.u64.wrap ((a:Int)+(b:Int))=((a+b:Nat):Int):=by rw [Da (by omega) (by omega)];omega
theorem Hm {a b:Nat} (h:b<=a) (h':a<18446744073709551616):IntKind.u64.wrap ((a:Int)-(b:Int))=((a-b:Nat):Int):=by rw [Da (by omega) (by omega)];omega
theorem Eg {a b:Nat} (h:a*b<18446744073709551616):IntKind.u64.wrap ((a:Int)*(b:Int))=((a*b:Nat):Int):=by
  rw [<-Int.natCast_mul,Da (by omega) (by omega)]
theorem CU {a:Nat} (h:a<9223372036854775808):IntKind.i64.wrap (a:Int)=(a:Int):=BE (by omega) (by omega)
theorem BS {a:Nat} (h:a<18446744073709551616):IntKind.u64.wrap (a:Int)=(a:Int):=Da (by omega) (by omega)
theorem CS {a:Nat} (h:a<4294967296):IntKind.u32.wrap (a:Int)=(a:Int):=GI (by omega) (by omega)
theorem Sl {a:Nat} (h:a<256):IntKind.u8.wrap (a:Int)=(a:Int):=MY (by omega) (by omega)
theorem D4 {a:Nat}:IntKind.u32.wrap (a:Int)=((a%4294967296:Nat):Int):=by
  simp only [IntKind.wrap,IntKind.bits,IntKind.signed];simp
theorem I4 {a:Nat}:IntKind.u8.wrap (a:Int)=((a%256:Nat):Int):=by
  simp only [IntKind.wrap,IntKind.bits,IntKind.signed];simp
theorem DA {a b:Nat}:decide ((a:Int)<(b:Int))=decide (a<b):=decide_eq_decide.2 (by omega)
theorem Um {a b:Nat}:decide ((a:Int)<=(b:Int))=decide (a<=b):=decide_eq_decide.2 (by omega)
theorem Pm {a b:Nat}:decide ((a:Int)=(b:Int))=decide (a=b):=decide_eq_decide.2 (by omega)
theorem X4 {a b:Nat}:decide ((a:Int)≠(b:Int))=decide (a≠b):=decide_eq_decide.2 (by omega)
theorem NS {a b:Nat} (h:a<9223372036854775808):IntKind.i64.wrap ((a:Int).tdiv (b:Int))=((a/b:Nat):Int):=by
  have:a/b<=a:=Nat.div_le_self _ _
  rw [<-Int.ofNat_tdiv]
  generalize a/b=q at *
  exact BE (by omega) (by omega)
theorem J0 {a b:Nat} (h:a<18446744073709551616):IntKind.u64.wrap ((a:Int).tdiv (b:Int))=((a/b:Nat):Int):=by
  have:a/b<=a:=Nat.div_le_self _ _
  rw [<-Int.ofNat_tdiv]
  generalize a/b=q at *
  exact Da (by omega) (by omega)
theorem IS {a b:Nat}:((a:Int).tmod (b:Int))=((a%b:Nat):Int):=(Int.ofNat_tmod a b).symm
theorem Fa {a s:Nat}:(a:Int)/2^s=((a/2^s:Nat):Int):=by simp
theorem FE:Tryz.prog.follows .mixedOrders=true:=by kernel_rfl
theorem Cm.nil {F:List (Nat×Value)}:Cm [] F:=trivial
theorem Cm.cons {k:Nat} {v:Value} {r F:List (Nat×Value)} (h:F.lookup k=some v) (t:Cm r F):Cm ((k,v)::r) F:=⟨h,t⟩
theorem LX.nil {P:Program} {n:Nat} {l:List Oper} {specs:List Sp} {F:List (Nat×Value)} {w0:BJ} {Lro L:List As} {os:List Oper}:LX P n l specs F w0 Lro L os []:=by
  cases os<;>trivial
theorem LX.cons {P:Program} {n:Nat} {l:List Oper} {specs:List Sp} {F:List (Nat×Value)} {w0:BJ} {Lro L:List As} {o:Oper} {os:List Oper} {s:Sp} {ss:List Sp} (h:Vc P n l specs F w0 Lro L o s) (t:LX P n l specs F w0 Lro L os ss) :
    LX P n l specs F w0 Lro L (o::os) (s::ss):=⟨h,t⟩
theorem AD.store' {P:Program} {ops:Array Oper} {rest:List Oper} {Q:Exit->Act->World->Prop} {n:Nat} {F:List (Nat×Value)} {w0:BJ} {L L':List As} {v:Value} {x y:Operand} {d:Option Tmp} {t:TypeId} {p:String} {af:Array Edge} {g:Option (Nat×Bool)}
    {i b off:Nat} {ty T:TypeId} {cs vs cs':List Value} (hw:Wt ops n F ⟨d,.store ty x y,t,p,af,g⟩) (ho:d=none) (hx:evF F x=some (.pointer (some ⟨b,off,none⟩))) (hy:evF F y=some v) (hi:L[i]?=some (Ac b T cs))
    (hv:v.cells=vs.toArray) (hs:∀w,(sizeOf ty).run P w=.ok vs.length w) (h1:(vs.all λu=>u.oneCell')=true) (hl:Nat.ble (off+vs.length) cs.length=true)
    (hc:Fx cs off vs=cs') (hL:L.set i (Ac b T cs')=L') (next:AD P ops rest Q n F w0 L'):AD P ops (⟨d,.store ty x y,t,p,af,g⟩::rest) Q n F w0 L:=by
  subst hc;subst hL
  exact AD.store hw (N4 hx hy hi hv hs h1 hl) ho hi next
theorem AD.callB {P:Program} {ops:Array Oper} {rest:List Oper} {Q:Exit->Act->World->Prop} {n:Nat} {F:List (Nat×Value)} {w0:BJ} {L:List As} {o:Oper} {d:Nat} {f:FuncId} {args:Array Value} {V:Nat->Value} {T:TypeId} {cs:List Value} (hw:Wt ops n F o)
    (he:∀a w,CW n a F->BK w0 w L->(execOp a.eval o).run P w=.ok (.enter f args) w)
    (hc:∀w,BK w0 w L->Calls P f args w λe w'=>∃b,e=.returned (V b)/\Em w.heap.size w w'/\w.heap.size<=b/\w'.heap[b]?=some (.cells cs.toArray T (0,0)))
    (ho:o.dst=some d) (hd:d<n) (next:∀b,AD P ops rest Q n ((d,V b)::F) w0 (Ac b T cs::L)):AD P ops (o::rest) Q n F w0 L:=λa w ha hW=>by
  unfold wpList
  rw [if_pos (hw a ha)]
  left
  unfold Oper.wp
  rw [he a w ha hW,Oper.upon_enter]
  refine (hc w hW).mono ?_
  rintro e w' ⟨b,rfl,hb,hlt,hcell⟩
  rw [ho]
  exact next b _ _ (ha.put hd) (hW.add rfl hb hlt ⟨_,hcell,rfl⟩)
theorem AD.callM {P:Program} {ops:Array Oper} {rest:List Oper} {Q:Exit->Act->World->Prop} {n:Nat} {F:List (Nat×Value)} {w0:BJ} {L L':List As} {o:Oper} {f:FuncId} {args:Array Value} {v:Value} {i b:Nat} {T:TypeId} {cs cs':List Value} (hw:Wt ops n F o)
    (he:∀a w,CW n a F->BK w0 w L->(execOp a.eval o).run P w=.ok (.enter f args) w) (hi:L[i]?=some (Ac b T cs))
    (hc:∀w,BK w0 w L->Calls P f args w λe w'=>e=.returned v/\M0 w w' (some b)/\w'.heap[b]?=some (.cells cs'.toArray T (0,0)))
    (hd:∀d,o.dst=some d->d<n) (hL:L.set i (Ac b T cs')=L') (next:AD P ops rest Q n (match o.dst with|some d=>(d,v)::F|none=>F) w0 L'):AD P ops (o::rest) Q n F w0 L:=λa w ha hW=>by
  subst hL
  unfold wpList
  rw [if_pos (hw a ha)]
  left
  unfold Oper.wp
  rw [he a w ha hW,Oper.upon_enter]
  refine (hc w hW).mono ?_
  rintro e w' ⟨rfl,hg,hcell⟩
  have hW':=hW.turn hi rfl rfl hg ⟨_,hcell,rfl⟩ (y:=Ac b T cs')
  cases hdst:o.dst with
  | none=>rw [hdst] at next;exact next _ _ ha.put_none hW'
  | some d=>rw [hdst] at next;exact next _ _ (ha.put (hd d hdst)) hW'
abbrev pP (b o:Nat):Value:=.pointer (some ⟨b,o,none⟩)
abbrev aG (l:List Value):Value:=.agg l.toArray
abbrev vI (z:Int):Value:=.int .i64 z
abbrev vN (n:Nat):Value:=.int .i64 (n:Int)
abbrev vK (k:IntKind) (n:Nat):Value:=.int k (n:Int)
theorem Af {a b:Nat} (h:Nat.ble a b=true):a<=b:=Nat.le_of_ble_eq_true h
theorem sN {F:List (Nat×Value)}:Cm [] F:=trivial
theorem sS {k:Nat} {v:Value} {r F:List (Nat×Value)} (h:F.lookup k=some v) (t:Cm r F):Cm ((k,v)::r) F:=⟨h,t⟩
def YE (F:List (Nat×Value)):List (Nat×Value)->List (Option Value)
  | []=>[]
  | p::r=>F.lookup p.1::YE F r
def Xl:List (Nat×Value)->List (Option Value)
  | []=>[]
  | p::r=>some p.2::Xl r
theorem sF:∀{F' F:List (Nat×Value)},YE F F'=Xl F'->Cm F' F
  | [],_,_=>trivial
  | _::_,_,h=>by
    simp only [YE,Xl,List.cons.injEq] at h
    exact ⟨h.1,sF h.2⟩
section
variable {P:Program} {ops:Array Oper} {rest:List Oper} {Q:Exit->Act->World->Prop} {n d:Nat} {F F':List (Nat×Value)} {w0:BJ} {L Lro:List As} {op:Op} {t:TypeId} {p:String} {af:Array Edge} {v:Value} {l:List Oper} {specs:List Sp}
theorem AE.subF {c:Code} (hs:Cm F' F) (h:AE P c Q n F' w0 L):AE P c Q n F w0 L:=AE.sub hs (List.Sublist.refl _) h
theorem AC.subF {e:Exit} (hs:Cm F' F) (h:AC Q e n F' w0 L):AC Q e n F w0 L:=AC.sub hs (List.Sublist.refl _) h
theorem st (he:Ex P n F w0 L ⟨some d,op,t,p,af,none⟩ v) (hd:d<n) (next:AD P ops rest Q n ((d,v)::F) w0 L):AD P ops (⟨some d,op,t,p,af,none⟩::rest) Q n F w0 L:=AD.step (AN rfl) he rfl hd next
theorem q1 {x y:Code} (h:AE P x (Exit.then (y.wp P Q) Q) n F w0 L):AC (Exit.then ((Code.seq x y).wp P Q) Q) .normal n F w0 L:=AC.then_ (AE.seq h)
theorem q2 {id:Nat} {y:Code} (h:AD P l.toArray l (Exit.then (y.wp P Q) Q) n F w0 L):AC (Exit.then ((Code.seq (.region id l.toArray false) y).wp P Q) Q) .normal n F w0 L:=q1 (AE.region h)
theorem q3 {id:Nat} {y:Code} (hs:Cm F' F) (h:AD P l.toArray l (Exit.then (y.wp P Q) Q) n F' w0 L):AD P ops [] (Exit.then ((Code.seq (.region id l.toArray false) y).wp P Q) Q) n F w0 L:=AD.nil (AC.subF hs (q2 h))
theorem q4 {id:Nat} {y:Code} (h:AD P l.toArray l (Exit.then (y.wp P Q) Q) n F w0 L):AE P (Code.seq (.region id l.toArray false) y) Q n F w0 L:=AE.seq (AE.region h)
theorem q6 {x y:Code} (hs:Cm F' F) (h:AE P x (Exit.then (y.wp P Q) Q) n F' w0 L):AD P ops [] (Exit.then ((Code.seq x y).wp P Q) Q) n F w0 L:=AD.nil (AC.subF hs (q1 h))
theorem A8 {x:Operand} {f:FuncId} {xs:List Operand} {args:List Value} {ts:Array TypeId} {dd:Option Tmp} {g:Option (Nat×Bool)} (hf:evF F x=some (.func (.func f) #[] #[])) (hargs:xs.map (evF F)=args.map some)
    (hc:∀args w,(callFunc f args).run P w=.ok (.enter f args) w) :
    ∀a w,CW n a F->BK w0 w L->(execOp a.eval ⟨dd,.call { callee:=.value x,args:=xs.toArray,argTypes:=ts },t,p,af,g⟩).run P w=.ok (.enter f args.toArray) w :=
  I_ (caps:=[]) hf hargs (List.append_nil _) hc
end
end
section
structure De (P:Program) (t:TypeId) (k:Nat):Prop where
  a:∀w,(isAgg t).run P w=.ok true w
  s:∀w,(sizeOf t).run P w=.ok k w
structure Fm (P:Program) (t:TypeId):Prop where
  a:∀w,(isAgg t).run P w=.ok false w
def DZ (P:Program) (t:TypeId) (cs:List Value):Prop:=∃u:Value,(∀w,(zeroValue t).run P w=.ok u w)/\u.cells=cs.toArray
section
variable {P:Program} {ops:Array Oper} {rest:List Oper} {Q:Exit->Act->World->Prop} {n d i b off k:Nat} {F F':List (Nat×Value)} {w0:BJ} {L Lro:List As} {op:Op} {t ty T:TypeId} {p:String} {af:Array Edge} {u v:Value} {x y:Operand} {l:List Oper} {specs:List Sp} {cs vs:List Value}
theorem By {a b:Nat} (h:Nat.ble (a+1) b=true):a<b:=Nat.le_of_ble_eq_true h
theorem mv (hx:evF F x=some v) (hd:Nat.ble (d+1) n=true) (next:AD P ops rest Q n ((d,v)::F) w0 L):AD P ops (⟨some d,.move x,t,p,af,none⟩::rest) Q n F w0 L:=AD.step (AN rfl) (BU hx) rfl (By hd) next
theorem Yl (hx:evF F x=some v) (hd:Nat.ble (d+1) n=true) (next:AD P ops rest Q n ((d,v)::F) w0 L):AD P ops (⟨some d,.assign x,t,p,af,none⟩::rest) Q n F w0 L:=AD.step (AN rfl) (LF hx) rfl (By hd) next
theorem Jl {cs:List Value} {k:Nat} (h:cs.length=k):(cs.drop 0).take k=cs:=by rw [List.drop_zero,List.take_of_length_le (by omega)]
theorem Yq (i:Nat) (ht:De P ty k) (hx:evF F x=some (pP b 0)) (hi:L[i]?=some (Ac b T cs)) (hl:cs.length=k) (hd:Nat.ble (d+1) n=true) (next:AD P ops rest Q n ((d,aG cs)::F) w0 L) :
    AD P ops (⟨some d,.load ty x,t,p,af,none⟩::rest) Q n F w0 L:=AD.step (AN rfl) (Ak hx hi ht.a ht.s (Jl hl) hl) rfl (By hd) next
theorem Yv (i:Nat) (vs:List Value) (ht:De P ty k) (hx:evF F x=some (pP b off)) (hi:L[i]?=some (Ac b T cs)) (hv:(cs.drop off).take k=vs) (hl:vs.length=k) (hd:Nat.ble (d+1) n=true) (next:AD P ops rest Q n ((d,aG vs)::F) w0 L) :
    AD P ops (⟨some d,.load ty x,t,p,af,none⟩::rest) Q n F w0 L:=AD.step (AN rfl) (Ak hx hi ht.a ht.s hv hl) rfl (By hd) next
theorem Yf (i:Nat) (v:Value) (ht:Fm P ty) (hx:evF F x=some (pP b off)) (hi:L[i]?=some (Ac b T cs)) (hv:cs[off]?=some v) (hd:Nat.ble (d+1) n=true) (next:AD P ops rest Q n ((d,v)::F) w0 L) :
    AD P ops (⟨some d,.load ty x,t,p,af,none⟩::rest) Q n F w0 L:=AD.step (AN rfl) (AK hx hi ht.a hv) rfl (By hd) next
theorem bx (hx:evF F x=some v) (hv:v.cells=cs.toArray) (hd:Nat.ble (d+1) n=true) (next:∀b,AD P ops rest Q n ((d,pP b 0)::F) w0 (Ac b T cs::L)):AD P ops (⟨some d,.box T x,t,p,af,none⟩::rest) Q n F w0 L :=
  AD.open_ (AN rfl) (Wj hx hv) rfl (By hd) next
theorem al (hz:DZ P T cs) (hd:Nat.ble (d+1) n=true) (next:∀b,AD P ops rest Q n ((d,pP b 0)::F) w0 (Ac b T cs::L)):AD P ops (⟨some d,.alloc T,t,p,af,none⟩::rest) Q n F w0 L :=
  have ⟨_,h1,h2⟩:=hz
  AD.open_ (AN rfl) (Nn h1 h2) rfl (By hd) next
theorem cl {f:FuncId} {xs:List Operand} {args:List Value} {ts:Array TypeId} (hc:∀args w,(callFunc f args).run P w=.ok (.enter f args) w) (h:∀w,BK w0 w L->Calls P f args.toArray w (Ax w v))
    (hf:evF F x=some (.func (.func f) #[] #[])) (hargs:xs.map (evF F)=args.map some) (hd:Nat.ble (d+1) n=true) (next:AD P ops rest Q n ((d,v)::F) w0 L) :
    AD P ops (⟨some d,.call { callee:=.value x,args:=xs.toArray,argTypes:=ts },t,p,af,none⟩::rest) Q n F w0 L:=AD.call (AN rfl) (A8 hf hargs hc) h rfl (By hd) next
theorem Uu {cs vs:List Value} (h:vs.length=cs.length):Fx cs 0 vs=vs:=by simp [Fx,h]
theorem MT {L':List As} (hx:evF F x=some (pP b 0)) (hy:evF F y=some v) (hi:L[i]?=some (Ac b T cs)) (hv:v.cells=vs.toArray) (hs:∀w,(sizeOf ty).run P w=.ok vs.length w) (h1:(vs.all λu=>u.oneCell')=true) (hl:vs.length=cs.length)
    (hL:L.set i (Ac b T vs)=L') (next:AD P ops rest Q n F w0 L'):AD P ops (⟨none,.store ty x y,t,p,af,none⟩::rest) Q n F w0 L:=AD.store' (AN rfl) rfl hx hy hi hv hs h1 (Nat.ble_eq_true_of_le (by omega)) (Uu hl) hL next
variable {A0 A1 A2 A3 A4 A5:As}
theorem YM (hx:evF F x=some (pP b 0)) (hy:evF F y=some v) (hv:v.cells=vs.toArray) (hs:∀w,(sizeOf ty).run P w=.ok vs.length w) (h1:(vs.all λu=>u.oneCell')=true) (hl:vs.length=cs.length)
    (next:AD P ops rest Q n F w0 (Ac b T vs::L)):AD P ops (⟨none,.store ty x y,t,p,af,none⟩::rest) Q n F w0 (Ac b T cs::L):=MT (i:=0) hx hy rfl hv hs h1 hl rfl next
theorem YC (hx:evF F x=some (pP b 0)) (hy:evF F y=some v) (hv:v.cells=vs.toArray) (hs:∀w,(sizeOf ty).run P w=.ok vs.length w) (h1:(vs.all λu=>u.oneCell')=true) (hl:vs.length=cs.length)
    (next:AD P ops rest Q n F w0 (A0::Ac b T vs::L)):AD P ops (⟨none,.store ty x y,t,p,af,none⟩::rest) Q n F w0 (A0::Ac b T cs::L):=MT (i:=1) hx hy rfl hv hs h1 hl rfl next
theorem YS (hx:evF F x=some (pP b 0)) (hy:evF F y=some v) (hv:v.cells=vs.toArray) (hs:∀w,(sizeOf ty).run P w=.ok vs.length w) (h1:(vs.all λu=>u.oneCell')=true) (hl:vs.length=cs.length)
    (next:AD P ops rest Q n F w0 (A0::A1::Ac b T vs::L)):AD P ops (⟨none,.store ty x y,t,p,af,none⟩::rest) Q n F w0 (A0::A1::Ac b T cs::L):=MT (i:=2) hx hy rfl hv hs h1 hl rfl next
theorem YJ (hx:evF F x=some (pP b 0)) (hy:evF F y=some v) (hv:v.cells=vs.toArray) (hs:∀w,(sizeOf ty).run P w=.ok vs.length w) (h1:(vs.all λu=>u.oneCell')=true) (hl:vs.length=cs.length)
    (next:AD P ops rest Q n F w0 (A0::A1::A2::Ac b T vs::L)):AD P ops (⟨none,.store ty x y,t,p,af,none⟩::rest) Q n F w0 (A0::A1::A2::Ac b T cs::L):=MT (i:=3) hx hy rfl hv hs h1 hl rfl next
theorem sr {L:List As}:L.Sublist L:=List.Sublist.refl _
theorem sl {a:As} {l1 l2:List As} (h:l1.Sublist l2):l1.Sublist (a::l2):=List.Sublist.cons _ h
theorem sk {a:As} {l1 l2:List As} (h:l1.Sublist l2):(a::l1).Sublist (a::l2):=List.Sublist.cons_cons _ h
end
section
variable {P:Program} {ops:Array Oper} {rest:List Oper} {Q:Exit->Act->World->Prop} {n:Nat} {F F':List (Nat×Value)} {w0:BJ} {L Lro:List As} {specs:List Sp} {β:Nat->Value} {A0 A1 A2 A3:As}
end
def TI (F:List (Nat×Value)):List Nat->Option (List (Nat×Value))
  | []=>some []
  | k::ks=>match F.lookup k with
    | some v=>match TI F ks with
      | some r=>some ((k,v)::r)
      | none=>none
    | none=>none
theorem sL:∀(ks:List Nat) {F F':List (Nat×Value)},TI F ks=some F'->Cm F' F
  | [],_,_,h=>by injection h with h;subst h;trivial
  | k::ks,F,F',h=>by
    unfold TI at h
    split at h
    · rename_i v hv
      split at h
      · rename_i r hr
        injection h with h;subst h
        exact ⟨hv,sL ks hr⟩
      · cases h
    · cases h
def L_:List As->Nat->As->Option (List As)
  | [],_,_=>none
  | _::r,0,y=>some (y::r)
  | x::r,i+1,y=>match L_ r i y with
    | some r'=>some (x::r')
    | none=>none
theorem Fp:∀{L:List As} {i:Nat} {y:As} {L':List As},L_ L i y=some L'->L.set i y=L'
  | [],_,_,_,h=>by cases h
  | _::r,0,y,_,h=>by injection h
  | x::r,i+1,y,L',h=>by
    unfold L_ at h
    split at h
    · rename_i r' hr
      injection h with h;subst h
      rw [List.set_cons_succ,Fp hr]
    · cases h
section
variable {α β γ δ ε:Type} {a a':α} {b b':β} {c c':γ} {d d':δ} {e e':ε}
theorem Ci (h:(a,b)=(a',b')):a=a':=congrArg Prod.fst h
theorem BW (h:(a,b)=(a',b')):b=b':=congrArg Prod.snd h
end
section
variable {P:Program} {ops:Array Oper} {rest:List Oper} {Q:Exit->Act->World->Prop} {n d i b off k:Nat} {F F':List (Nat×Value)} {w0:BJ} {L L' Lro:List As} {op:Op} {t ty T:TypeId} {p:String} {af:Array Edge} {u v:Value} {x y:Operand} {l:List Oper} {specs:List Sp} {cs vs:List Value} {o:Oper} {j:Nat} {g:Option (Nat×Bool)}
theorem AB {t:Nat} {b:Bool} (h:(o.guard,(ops[j]?).bind (·.dst),F.lookup t)=(some (j,b),some t,some (.bool b))):Wt ops n F o:=VV (Ci h) (Ci (BW h)) (BW (BW h))
theorem AM {t:Nat} {b:Bool} (h:(o.guard,(ops[j]?).bind (·.dst),F.lookup t)=(some (j,b),some t,some (.bool (!b)))):∀a,CW n a F->Region.wanted o (yielded ops a.tmps)=false:=W8 (Ci h) (Ci (BW h)) (BW (BW h))
theorem AH (he:Ex P n F w0 L ⟨some d,op,t,p,af,none⟩ v) (hd:Nat.ble (d+1) n=true) (next:AD P ops rest Q n ((d,v)::F) w0 L):AD P ops (⟨some d,op,t,p,af,none⟩::rest) Q n F w0 L:=st he (By hd) next
theorem AO (h:(evF F x,Nat.ble (d+1) n)=(some v,true)) (next:AD P ops rest Q n ((d,v)::F) w0 L):AD P ops (⟨some d,.move x,t,p,af,none⟩::rest) Q n F w0 L:=mv (Ci h) (BW h) next
theorem AL (h:(evF F x,Nat.ble (d+1) n)=(some v,true)) (next:AD P ops rest Q n ((d,v)::F) w0 L):AD P ops (⟨some d,.assign x,t,p,af,none⟩::rest) Q n F w0 L:=Yl (Ci h) (BW h) next
theorem BF (i:Nat) (ht:De P ty k) (h:(evF F x,L[i]?,cs.length,Nat.ble (d+1) n)=(some (pP b 0),some (Ac b T cs),k,true)) (next:AD P ops rest Q n ((d,aG cs)::F) w0 L) :
    AD P ops (⟨some d,.load ty x,t,p,af,none⟩::rest) Q n F w0 L:=Yq i ht (Ci h) (Ci (BW h)) (Ci (BW (BW h))) (BW (BW (BW h))) next
theorem En (i:Nat) (vs:List Value) (ht:De P ty k) (h:(evF F x,L[i]?,(cs.drop off).take k,vs.length,Nat.ble (d+1) n)=(some (pP b off),some (Ac b T cs),vs,k,true)) (next:AD P ops rest Q n ((d,aG vs)::F) w0 L) :
    AD P ops (⟨some d,.load ty x,t,p,af,none⟩::rest) Q n F w0 L:=Yv i vs ht (Ci h) (Ci (BW h)) (Ci (BW (BW h))) (Ci (BW (BW (BW h)))) (BW (BW (BW (BW h)))) next
theorem BI (i:Nat) (v:Value) (ht:Fm P ty) (h:(evF F x,L[i]?,cs[off]?,Nat.ble (d+1) n)=(some (pP b off),some (Ac b T cs),some v,true)) (next:AD P ops rest Q n ((d,v)::F) w0 L) :
    AD P ops (⟨some d,.load ty x,t,p,af,none⟩::rest) Q n F w0 L:=Yf i v ht (Ci h) (Ci (BW h)) (Ci (BW (BW h))) (BW (BW (BW h))) next
theorem CB (h:(evF F x,v.cells,Nat.ble (d+1) n)=(some v,cs.toArray,true)) (next:∀b,AD P ops rest Q n ((d,pP b 0)::F) w0 (Ac b T cs::L)):AD P ops (⟨some d,.box T x,t,p,af,none⟩::rest) Q n F w0 L :=
  bx (Ci h) (Ci (BW h)) (BW (BW h)) next
theorem IC {f:FuncId} {xs:List Operand} {args:List Value} {ts:Array TypeId} (hc:∀args w,(callFunc f args).run P w=.ok (.enter f args) w) (h:∀w,BK w0 w L->Calls P f args.toArray w (Ax w v))
    (h2:(evF F x,xs.map (evF F),Nat.ble (d+1) n)=(some (.func (.func f) #[] #[]),args.map some,true)) (next:AD P ops rest Q n ((d,v)::F) w0 L) :
    AD P ops (⟨some d,.call { callee:=.value x,args:=xs.toArray,argTypes:=ts },t,p,af,none⟩::rest) Q n F w0 L:=cl hc h (Ci h2) (Ci (BW h2)) (BW (BW h2)) next
theorem BY {f:FuncId} {xs:List Operand} {args:List Value} {ts:Array TypeId} (hc:∀args w,(callFunc f args).run P w=.ok (.enter f args) w) (h:∀w,Calls P f args.toArray w (Ax w v))
    (h2:(evF F x,xs.map (evF F),Nat.ble (d+1) n)=(some (.func (.func f) #[] #[]),args.map some,true)) (next:AD P ops rest Q n ((d,v)::F) w0 L) :
    AD P ops (⟨some d,.call { callee:=.value x,args:=xs.toArray,argTypes:=ts },t,p,af,none⟩::rest) Q n F w0 L:=IC hc (λw _=>h w) h2 next
variable {A0 A1 A2 A3 A4 A5:As}
theorem A6 (h:(evF F x,evF F y,v.cells)=(some (pP b 0),some v,vs.toArray)) (hs:∀w,(sizeOf ty).run P w=.ok vs.length w) (h2:(vs.all λu=>u.oneCell',vs.length)=(true,cs.length))
    (next:AD P ops rest Q n F w0 (Ac b T vs::L)):AD P ops (⟨none,.store ty x y,t,p,af,none⟩::rest) Q n F w0 (Ac b T cs::L):=YM (Ci h) (Ci (BW h)) (BW (BW h)) hs (Ci h2) (BW h2) next
theorem DU (h:(evF F x,evF F y,v.cells)=(some (pP b 0),some v,vs.toArray)) (hs:∀w,(sizeOf ty).run P w=.ok vs.length w) (h2:(vs.all λu=>u.oneCell',vs.length)=(true,cs.length))
    (next:AD P ops rest Q n F w0 (A0::Ac b T vs::L)):AD P ops (⟨none,.store ty x y,t,p,af,none⟩::rest) Q n F w0 (A0::Ac b T cs::L):=YC (Ci h) (Ci (BW h)) (BW (BW h)) hs (Ci h2) (BW h2) next
theorem Pb (h:(evF F x,evF F y,v.cells)=(some (pP b 0),some v,vs.toArray)) (hs:∀w,(sizeOf ty).run P w=.ok vs.length w) (h2:(vs.all λu=>u.oneCell',vs.length)=(true,cs.length))
    (next:AD P ops rest Q n F w0 (A0::A1::Ac b T vs::L)):AD P ops (⟨none,.store ty x y,t,p,af,none⟩::rest) Q n F w0 (A0::A1::Ac b T cs::L):=YS (Ci h) (Ci (BW h)) (BW (BW h)) hs (Ci h2) (BW h2) next
theorem Nz (h:(evF F x,evF F y,v.cells)=(some (pP b 0),some v,vs.toArray)) (hs:∀w,(sizeOf ty).run P w=.ok vs.length w) (h2:(vs.all λu=>u.oneCell',vs.length)=(true,cs.length))
    (next:AD P ops rest Q n F w0 (A0::A1::A2::Ac b T vs::L)):AD P ops (⟨none,.store ty x y,t,p,af,none⟩::rest) Q n F w0 (A0::A1::A2::Ac b T cs::L):=YJ (Ci h) (Ci (BW h)) (BW (BW h)) hs (Ci h2) (BW h2) next
theorem Gn (i:Nat) {v:Value} {cs':List Value} (hw:Wt ops n F ⟨none,.store ty x y,t,p,af,g⟩) (h:(evF F x,evF F y,L[i]?,v.cells)=(some (pP b off),some v,some (Ac b T cs),vs.toArray))
    (hs:∀w,(sizeOf ty).run P w=.ok vs.length w) (h2:(vs.all λu=>u.oneCell',Nat.ble (off+vs.length) cs.length,Fx cs off vs,L_ L i (Ac b T cs'))=(true,true,cs',some L')) (next:AD P ops rest Q n F w0 L'):AD P ops (⟨none,.store ty x y,t,p,af,g⟩::rest) Q n F w0 L :=
  AD.store' hw rfl (Ci h) (Ci (BW h)) (Ci (BW (BW h))) (BW (BW (BW h))) hs (Ci h2) (Ci (BW h2)) (Ci (BW (BW h2))) (Fp (BW (BW (BW h2)))) next
end
end
end Go.Proofs.YtfbomiejpbchdaaGreat
