import Derived.Test.YtpgncndhhhllfaaGreatDoorPart02
namespace Go.Proofs.YtpgncndhhhllfaaGreatDoor
open Go Go.RowKit Go.Proofs.Tryz
set_option linter.unusedVariables false
set_option linter.unusedSimpArgs false
section
def Ph (f:Nat) (v:Nat):List Nat :=
  match f with
  | 0=>[]
  | f+1=>if v=0 then [] else v%4294967296::Ph f (v/4294967296)
def AP (v:Nat):List Nat:=Ph v v
def Rs (x:Nat):List UInt8:=[(x%256).toUInt8,(x/256%256).toUInt8,(x/65536%256).toUInt8,(x/16777216%256).toUInt8]
def Iv (v:Nat):Bool:=decide (v<18446744073709551616)
def Bs (v:Nat):Nat:=if Iv v then v else 0
def Bc (v:Nat):ByteArray:=if Iv v then ByteArray.empty else ⟨((AP v).flatMap Rs).toArray⟩
def AY (v:Nat):List Value:=[.int .u64 (Bs v:Nat),.string (Bc v)]
def Az (z:Int):List Value:=[.int .u64 (Bs z.natAbs:Nat),.string (Bc z.natAbs),.bool (decide (z<0))]
def AN (q:Rat):List Value:=[.int .u64 (Bs q.num.natAbs:Nat),.string (Bc q.num.natAbs),.bool (decide (q.num<0)),.int .u64 (Bs (q.den-1):Nat),.string (Bc (q.den-1))]
@[ext] structure Pt where
  x:Rat
  y:Rat
def Af (p:Pt):List Value:=AN p.x++AN p.y
theorem BS {z:Int} (h:-9223372036854775808<=z) (h':z<9223372036854775808):IntKind.i64.wrap z=z:=by
  simp only [IntKind.wrap,IntKind.bits,IntKind.signed];simp;split<;>omega
theorem Cw {z:Int} (h:0<=z) (h':z<18446744073709551616):IntKind.u64.wrap z=z:=by
  simp only [IntKind.wrap,IntKind.bits,IntKind.signed];simp;omega
theorem Fd {z:Int} (h:0<=z) (h':z<4294967296):IntKind.u32.wrap z=z:=by
  simp only [IntKind.wrap,IntKind.bits,IntKind.signed];simp;omega
theorem UL {z:Int} (h:0<=z) (h':z<256):IntKind.u8.wrap z=z:=by
  simp only [IntKind.wrap,IntKind.bits,IntKind.signed];simp;omega
theorem Ae {a b:Nat} (h:a+b<9223372036854775808):IntKind.i64.wrap ((a:Int)+(b:Int))=((a+b:Nat):Int):=by rw [BS (by omega) (by omega)];omega
theorem Bv {a b:Nat} (h:b<=a) (h':a<9223372036854775808):IntKind.i64.wrap ((a:Int)-(b:Int))=((a-b:Nat):Int):=by rw [BS (by omega) (by omega)];omega
theorem Et {a b:Nat} (h:a*b<9223372036854775808):IntKind.i64.wrap ((a:Int)*(b:Int))=((a*b:Nat):Int):=by
  rw [<-Int.natCast_mul,BS (by omega) (by omega)]
theorem C9 {a b:Nat} (h:a+b<18446744073709551616):IntKind.u64.wrap ((a:Int)+(b:Int))=((a+b:Nat):Int):=by rw [Cw (by omega) (by omega)];omega
theorem HB {a b:Nat} (h:b<=a) (h':a<18446744073709551616):IntKind.u64.wrap ((a:Int)-(b:Int))=((a-b:Nat):Int):=by rw [Cw (by omega) (by omega)];omega
theorem ED {a b:Nat} (h:a*b<18446744073709551616):IntKind.u64.wrap ((a:Int)*(b:Int))=((a*b:Nat):Int):=by
  rw [<-Int.natCast_mul,Cw (by omega) (by omega)]
theorem Dk {a:Nat} (h:a<9223372036854775808):IntKind.i64.wrap (a:Int)=(a:Int):=BS (by omega) (by omega)
theorem BK {a:Nat} (h:a<18446744073709551616):IntKind.u64.wrap (a:Int)=(a:Int):=Cw (by omega) (by omega)
theorem CR {a:Nat} (h:a<4294967296):IntKind.u32.wrap (a:Int)=(a:Int):=Fd (by omega) (by omega)
theorem La {a:Nat} (h:a<256):IntKind.u8.wrap (a:Int)=(a:Int):=UL (by omega) (by omega)
theorem Du {a:Nat}:IntKind.u32.wrap (a:Int)=((a%4294967296:Nat):Int):=by
  simp only [IntKind.wrap,IntKind.bits,IntKind.signed];simp
theorem IS {a:Nat}:IntKind.u8.wrap (a:Int)=((a%256:Nat):Int):=by
  simp only [IntKind.wrap,IntKind.bits,IntKind.signed];simp
theorem CI {a b:Nat}:decide ((a:Int)<(b:Int))=decide (a<b):=decide_eq_decide.2 (by omega)
theorem S_ {a b:Nat}:decide ((a:Int)<=(b:Int))=decide (a<=b):=decide_eq_decide.2 (by omega)
theorem LX {a b:Nat}:decide ((a:Int)=(b:Int))=decide (a=b):=decide_eq_decide.2 (by omega)
theorem Ts {a b:Nat}:decide ((a:Int)≠(b:Int))=decide (a≠b):=decide_eq_decide.2 (by omega)
theorem ET {a b:Nat} (h:a<9223372036854775808):IntKind.i64.wrap ((a:Int).tdiv (b:Int))=((a/b:Nat):Int):=by
  have:a/b<=a:=Nat.div_le_self _ _
  rw [<-Int.ofNat_tdiv]
  generalize a/b=q at *
  exact BS (by omega) (by omega)
theorem G1 {a b:Nat} (h:a<18446744073709551616):IntKind.u64.wrap ((a:Int).tdiv (b:Int))=((a/b:Nat):Int):=by
  have:a/b<=a:=Nat.div_le_self _ _
  rw [<-Int.ofNat_tdiv]
  generalize a/b=q at *
  exact Cw (by omega) (by omega)
theorem Jm {a b:Nat}:((a:Int).tmod (b:Int))=((a%b:Nat):Int):=(Int.ofNat_tmod a b).symm
theorem FA {a s:Nat}:(a:Int)/2^s=((a/2^s:Nat):Int):=by simp
theorem Eo:Tryz.prog.follows .mixedOrders=true:=by kernel_rfl
theorem Cg.nil {F:List (Nat×Value)}:Cg [] F:=trivial
theorem Cg.cons {k:Nat} {v:Value} {r F:List (Nat×Value)} (h:F.lookup k=some v) (t:Cg r F):Cg ((k,v)::r) F:=⟨h,t⟩
theorem KI.nil {P:Program} {n:Nat} {l:List Oper} {specs:List Sp} {F:List (Nat×Value)} {w0:A_} {Lro L:List As} {os:List Oper}:KI P n l specs F w0 Lro L os []:=by
  cases os<;>trivial
theorem KI.cons {P:Program} {n:Nat} {l:List Oper} {specs:List Sp} {F:List (Nat×Value)} {w0:A_} {Lro L:List As} {o:Oper} {os:List Oper} {s:Sp} {ss:List Sp} (h:Vc P n l specs F w0 Lro L o s) (t:KI P n l specs F w0 Lro L os ss) :
    KI P n l specs F w0 Lro L (o::os) (s::ss):=⟨h,t⟩
theorem AD.store' {P:Program} {ops:Array Oper} {rest:List Oper} {Q:Exit->Act->World->Prop} {n:Nat} {F:List (Nat×Value)} {w0:A_} {L L':List As} {v:Value} {x y:Operand} {d:Option Tmp} {t:TypeId} {p:String} {af:Array Edge} {g:Option (Nat×Bool)}
    {i b off:Nat} {ty T:TypeId} {cs vs cs':List Value} (hw:Wt ops n F ⟨d,.store ty x y,t,p,af,g⟩) (ho:d=none) (hx:evF F x=some (.pointer (some ⟨b,off,none⟩))) (hy:evF F y=some v) (hi:L[i]?=some (Ad b T cs))
    (hv:v.cells=vs.toArray) (hs:∀w,(sizeOf ty).run P w=.ok vs.length w) (h1:(vs.all λu=>u.oneCell')=true) (hl:Nat.ble (off+vs.length) cs.length=true)
    (hc:FQ cs off vs=cs') (hL:L.set i (Ad b T cs')=L') (next:AD P ops rest Q n F w0 L'):AD P ops (⟨d,.store ty x y,t,p,af,g⟩::rest) Q n F w0 L:=by
  subst hc;subst hL
  exact AD.store hw (L6 hx hy hi hv hs h1 hl) ho hi next
theorem AD.callB {P:Program} {ops:Array Oper} {rest:List Oper} {Q:Exit->Act->World->Prop} {n:Nat} {F:List (Nat×Value)} {w0:A_} {L:List As} {o:Oper} {d:Nat} {f:FuncId} {args:Array Value} {V:Nat->Value} {T:TypeId} {cs:List Value} (hw:Wt ops n F o)
    (he:∀a w,CG n a F->BE w0 w L->(execOp a.eval o).run P w=.ok (.enter f args) w)
    (hc:∀w,BE w0 w L->Calls P f args w λe w'=>∃b,e=.returned (V b)/\Dz w.heap.size w w'/\w.heap.size<=b/\w'.heap[b]?=some (.cells cs.toArray T (0,0)))
    (ho:o.dst=some d) (hd:d<n) (next:∀b,AD P ops rest Q n ((d,V b)::F) w0 (Ad b T cs::L)):AD P ops (o::rest) Q n F w0 L:=λa w ha hW=>by
  unfold wpList
  rw [if_pos (hw a ha)]
  left
  unfold Oper.wp
  rw [he a w ha hW,Oper.upon_enter]
  refine (hc w hW).mono ?_
  rintro e w' ⟨b,rfl,hb,hlt,hcell⟩
  rw [ho]
  exact next b _ _ (ha.put hd) (hW.add rfl hb hlt ⟨_,hcell,rfl⟩)
theorem AD.callM {P:Program} {ops:Array Oper} {rest:List Oper} {Q:Exit->Act->World->Prop} {n:Nat} {F:List (Nat×Value)} {w0:A_} {L L':List As} {o:Oper} {f:FuncId} {args:Array Value} {v:Value} {i b:Nat} {T:TypeId} {cs cs':List Value} (hw:Wt ops n F o)
    (he:∀a w,CG n a F->BE w0 w L->(execOp a.eval o).run P w=.ok (.enter f args) w) (hi:L[i]?=some (Ad b T cs))
    (hc:∀w,BE w0 w L->Calls P f args w λe w'=>e=.returned v/\JF w w' (some b)/\w'.heap[b]?=some (.cells cs'.toArray T (0,0)))
    (hd:∀d,o.dst=some d->d<n) (hL:L.set i (Ad b T cs')=L') (next:AD P ops rest Q n (match o.dst with|some d=>(d,v)::F|none=>F) w0 L'):AD P ops (o::rest) Q n F w0 L:=λa w ha hW=>by
  subst hL
  unfold wpList
  rw [if_pos (hw a ha)]
  left
  unfold Oper.wp
  rw [he a w ha hW,Oper.upon_enter]
  refine (hc w hW).mono ?_
  rintro e w' ⟨rfl,hg,hcell⟩
  have hW':=hW.turn hi rfl rfl hg ⟨_,hcell,rfl⟩ (y:=Ad b T cs')
  cases hdst:o.dst with
  | none=>rw [hdst] at next;exact next _ _ ha.put_none hW'
  | some d=>rw [hdst] at next;exact next _ _ (ha.put (hd d hdst)) hW'
abbrev pP (b o:Nat):Value:=.pointer (some ⟨b,o,none⟩)
abbrev aG (l:List Value):Value:=.agg l.toArray
abbrev vI (z:Int):Value:=.int .i64 z
abbrev vN (n:Nat):Value:=.int .i64 (n:Int)
abbrev vK (k:IntKind) (n:Nat):Value:=.int k (n:Int)
theorem AV {a b:Nat} (h:Nat.ble a b=true):a<=b:=Nat.le_of_ble_eq_true h
theorem sN {F:List (Nat×Value)}:Cg [] F:=trivial
theorem sS {k:Nat} {v:Value} {r F:List (Nat×Value)} (h:F.lookup k=some v) (t:Cg r F):Cg ((k,v)::r) F:=⟨h,t⟩
def Xq (F:List (Nat×Value)):List (Nat×Value)->List (Option Value)
  | []=>[]
  | p::r=>F.lookup p.1::Xq F r
def XB:List (Nat×Value)->List (Option Value)
  | []=>[]
  | p::r=>some p.2::XB r
theorem sF:∀{F' F:List (Nat×Value)},Xq F F'=XB F'->Cg F' F
  | [],_,_=>trivial
  | _::_,_,h=>by
    simp only [Xq,XB,List.cons.injEq] at h
    exact ⟨h.1,sF h.2⟩
section
variable {P:Program} {ops:Array Oper} {rest:List Oper} {Q:Exit->Act->World->Prop} {n d:Nat} {F F':List (Nat×Value)} {w0:A_} {L Lro:List As} {op:Op} {t:TypeId} {p:String} {af:Array Edge} {v:Value} {l:List Oper} {specs:List Sp}
theorem AE.subF {c:Code} (hs:Cg F' F) (h:AE P c Q n F' w0 L):AE P c Q n F w0 L:=AE.sub hs (List.Sublist.refl _) h
theorem AC.subF {e:Exit} (hs:Cg F' F) (h:AC Q e n F' w0 L):AC Q e n F w0 L:=AC.sub hs (List.Sublist.refl _) h
theorem st (he:Ex P n F w0 L ⟨some d,op,t,p,af,none⟩ v) (hd:d<n) (next:AD P ops rest Q n ((d,v)::F) w0 L):AD P ops (⟨some d,op,t,p,af,none⟩::rest) Q n F w0 L:=AD.step (AW rfl) he rfl hd next
theorem q1 {x y:Code} (h:AE P x (Exit.then (y.wp P Q) Q) n F w0 L):AC (Exit.then ((Code.seq x y).wp P Q) Q) .normal n F w0 L:=AC.then_ (AE.seq h)
theorem q2 {id:Nat} {y:Code} (h:AD P l.toArray l (Exit.then (y.wp P Q) Q) n F w0 L):AC (Exit.then ((Code.seq (.region id l.toArray false) y).wp P Q) Q) .normal n F w0 L:=q1 (AE.region h)
theorem q3 {id:Nat} {y:Code} (hs:Cg F' F) (h:AD P l.toArray l (Exit.then (y.wp P Q) Q) n F' w0 L):AD P ops [] (Exit.then ((Code.seq (.region id l.toArray false) y).wp P Q) Q) n F w0 L:=AD.nil (AC.subF hs (q2 h))
theorem q4 {id:Nat} {y:Code} (h:AD P l.toArray l (Exit.then (y.wp P Q) Q) n F w0 L):AE P (Code.seq (.region id l.toArray false) y) Q n F w0 L:=AE.seq (AE.region h)
theorem q6 {x y:Code} (hs:Cg F' F) (h:AE P x (Exit.then (y.wp P Q) Q) n F' w0 L):AD P ops [] (Exit.then ((Code.seq x y).wp P Q) Q) n F w0 L:=AD.nil (AC.subF hs (q1 h))
theorem An {x:Operand} {f:FuncId} {xs:List Operand} {args:List Value} {ts:Array TypeId} {dd:Option Tmp} {g:Option (Nat×Bool)} (hf:evF F x=some (.func (.func f) #[] #[])) (hargs:xs.map (evF F)=args.map some)
    (hc:∀args w,(callFunc f args).run P w=.ok (.enter f args) w) :
    ∀a w,CG n a F->BE w0 w L->(execOp a.eval ⟨dd,.call { callee:=.value x,args:=xs.toArray,argTypes:=ts },t,p,af,g⟩).run P w=.ok (.enter f args.toArray) w :=
  HD (caps:=[]) hf hargs (List.append_nil _) hc
end
end
section
structure C3 (P:Program) (t:TypeId) (k:Nat):Prop where
  a:∀w,(isAgg t).run P w=.ok true w
  s:∀w,(sizeOf t).run P w=.ok k w
structure Ep (P:Program) (t:TypeId):Prop where
  a:∀w,(isAgg t).run P w=.ok false w
def DJ (P:Program) (t:TypeId) (cs:List Value):Prop:=∃u:Value,(∀w,(zeroValue t).run P w=.ok u w)/\u.cells=cs.toArray
section
variable {P:Program} {ops:Array Oper} {rest:List Oper} {Q:Exit->Act->World->Prop} {n d i b off k:Nat} {F F':List (Nat×Value)} {w0:A_} {L Lro:List As} {op:Op} {t ty T:TypeId} {p:String} {af:Array Edge} {u v:Value} {x y:Operand} {l:List Oper} {specs:List Sp} {cs vs:List Value}
theorem Bj {a b:Nat} (h:Nat.ble (a+1) b=true):a<b:=Nat.le_of_ble_eq_true h
theorem mv (hx:evF F x=some v) (hd:Nat.ble (d+1) n=true) (next:AD P ops rest Q n ((d,v)::F) w0 L):AD P ops (⟨some d,.move x,t,p,af,none⟩::rest) Q n F w0 L:=AD.step (AW rfl) (A9 hx) rfl (Bj hd) next
theorem Yk (hx:evF F x=some v) (hd:Nat.ble (d+1) n=true) (next:AD P ops rest Q n ((d,v)::F) w0 L):AD P ops (⟨some d,.assign x,t,p,af,none⟩::rest) Q n F w0 L:=AD.step (AW rfl) (J0 hx) rfl (Bj hd) next
theorem JP {cs:List Value} {k:Nat} (h:cs.length=k):(cs.drop 0).take k=cs:=by rw [List.drop_zero,List.take_of_length_le (by omega)]
theorem YU (i:Nat) (ht:C3 P ty k) (hx:evF F x=some (pP b 0)) (hi:L[i]?=some (Ad b T cs)) (hl:cs.length=k) (hd:Nat.ble (d+1) n=true) (next:AD P ops rest Q n ((d,aG cs)::F) w0 L) :
    AD P ops (⟨some d,.load ty x,t,p,af,none⟩::rest) Q n F w0 L:=AD.step (AW rfl) (Ak hx hi ht.a ht.s (JP hl) hl) rfl (Bj hd) next
theorem Yj (i:Nat) (vs:List Value) (ht:C3 P ty k) (hx:evF F x=some (pP b off)) (hi:L[i]?=some (Ad b T cs)) (hv:(cs.drop off).take k=vs) (hl:vs.length=k) (hd:Nat.ble (d+1) n=true) (next:AD P ops rest Q n ((d,aG vs)::F) w0 L) :
    AD P ops (⟨some d,.load ty x,t,p,af,none⟩::rest) Q n F w0 L:=AD.step (AW rfl) (Ak hx hi ht.a ht.s hv hl) rfl (Bj hd) next
theorem Yi (i:Nat) (v:Value) (ht:Ep P ty) (hx:evF F x=some (pP b off)) (hi:L[i]?=some (Ad b T cs)) (hv:cs[off]?=some v) (hd:Nat.ble (d+1) n=true) (next:AD P ops rest Q n ((d,v)::F) w0 L) :
    AD P ops (⟨some d,.load ty x,t,p,af,none⟩::rest) Q n F w0 L:=AD.step (AW rfl) (AL hx hi ht.a hv) rfl (Bj hd) next
theorem bx (hx:evF F x=some v) (hv:v.cells=cs.toArray) (hd:Nat.ble (d+1) n=true) (next:∀b,AD P ops rest Q n ((d,pP b 0)::F) w0 (Ad b T cs::L)):AD P ops (⟨some d,.box T x,t,p,af,none⟩::rest) Q n F w0 L :=
  AD.open_ (AW rfl) (VB hx hv) rfl (Bj hd) next
theorem al (hz:DJ P T cs) (hd:Nat.ble (d+1) n=true) (next:∀b,AD P ops rest Q n ((d,pP b 0)::F) w0 (Ad b T cs::L)):AD P ops (⟨some d,.alloc T,t,p,af,none⟩::rest) Q n F w0 L :=
  have ⟨_,h1,h2⟩:=hz
  AD.open_ (AW rfl) (MU h1 h2) rfl (Bj hd) next
theorem cl {f:FuncId} {xs:List Operand} {args:List Value} {ts:Array TypeId} (hc:∀args w,(callFunc f args).run P w=.ok (.enter f args) w) (h:∀w,BE w0 w L->Calls P f args.toArray w (Al w v))
    (hf:evF F x=some (.func (.func f) #[] #[])) (hargs:xs.map (evF F)=args.map some) (hd:Nat.ble (d+1) n=true) (next:AD P ops rest Q n ((d,v)::F) w0 L) :
    AD P ops (⟨some d,.call { callee:=.value x,args:=xs.toArray,argTypes:=ts },t,p,af,none⟩::rest) Q n F w0 L:=AD.call (AW rfl) (An hf hargs hc) h rfl (Bj hd) next
theorem UN {cs vs:List Value} (h:vs.length=cs.length):FQ cs 0 vs=vs:=by simp [FQ,h]
theorem Ks {L':List As} (hx:evF F x=some (pP b 0)) (hy:evF F y=some v) (hi:L[i]?=some (Ad b T cs)) (hv:v.cells=vs.toArray) (hs:∀w,(sizeOf ty).run P w=.ok vs.length w) (h1:(vs.all λu=>u.oneCell')=true) (hl:vs.length=cs.length)
    (hL:L.set i (Ad b T vs)=L') (next:AD P ops rest Q n F w0 L'):AD P ops (⟨none,.store ty x y,t,p,af,none⟩::rest) Q n F w0 L:=AD.store' (AW rfl) rfl hx hy hi hv hs h1 (Nat.ble_eq_true_of_le (by omega)) (UN hl) hL next
variable {A0 A1 A2 A3 A4 A5:As}
theorem XT (hx:evF F x=some (pP b 0)) (hy:evF F y=some v) (hv:v.cells=vs.toArray) (hs:∀w,(sizeOf ty).run P w=.ok vs.length w) (h1:(vs.all λu=>u.oneCell')=true) (hl:vs.length=cs.length)
    (next:AD P ops rest Q n F w0 (Ad b T vs::L)):AD P ops (⟨none,.store ty x y,t,p,af,none⟩::rest) Q n F w0 (Ad b T cs::L):=Ks (i:=0) hx hy rfl hv hs h1 hl rfl next
theorem XR (hx:evF F x=some (pP b 0)) (hy:evF F y=some v) (hv:v.cells=vs.toArray) (hs:∀w,(sizeOf ty).run P w=.ok vs.length w) (h1:(vs.all λu=>u.oneCell')=true) (hl:vs.length=cs.length)
    (next:AD P ops rest Q n F w0 (A0::Ad b T vs::L)):AD P ops (⟨none,.store ty x y,t,p,af,none⟩::rest) Q n F w0 (A0::Ad b T cs::L):=Ks (i:=1) hx hy rfl hv hs h1 hl rfl next
theorem Xm (hx:evF F x=some (pP b 0)) (hy:evF F y=some v) (hv:v.cells=vs.toArray) (hs:∀w,(sizeOf ty).run P w=.ok vs.length w) (h1:(vs.all λu=>u.oneCell')=true) (hl:vs.length=cs.length)
    (next:AD P ops rest Q n F w0 (A0::A1::Ad b T vs::L)):AD P ops (⟨none,.store ty x y,t,p,af,none⟩::rest) Q n F w0 (A0::A1::Ad b T cs::L):=Ks (i:=2) hx hy rfl hv hs h1 hl rfl next
theorem Xh (hx:evF F x=some (pP b 0)) (hy:evF F y=some v) (hv:v.cells=vs.toArray) (hs:∀w,(sizeOf ty).run P w=.ok vs.length w) (h1:(vs.all λu=>u.oneCell')=true) (hl:vs.length=cs.length)
    (next:AD P ops rest Q n F w0 (A0::A1::A2::Ad b T vs::L)):AD P ops (⟨none,.store ty x y,t,p,af,none⟩::rest) Q n F w0 (A0::A1::A2::Ad b T cs::L):=Ks (i:=3) hx hy rfl hv hs h1 hl rfl next
theorem sr {L:List As}:L.Sublist L:=List.Sublist.refl _
theorem sl {a:As} {l1 l2:List As} (h:l1.Sublist l2):l1.Sublist (a::l2):=List.Sublist.cons _ h
theorem sk {a:As} {l1 l2:List As} (h:l1.Sublist l2):(a::l1).Sublist (a::l2):=List.Sublist.cons_cons _ h
end
section
variable {P:Program} {ops:Array Oper} {rest:List Oper} {Q:Exit->Act->World->Prop} {n:Nat} {F F':List (Nat×Value)} {w0:A_} {L Lro:List As} {specs:List Sp} {β:Nat->Value} {A0 A1 A2 A3:As}
end
def SW (F:List (Nat×Value)):List Nat->Option (List (Nat×Value))
  | []=>some []
  | k::ks=>match F.lookup k with
    | some v=>match SW F ks with
      | some r=>some ((k,v)::r)
      | none=>none
    | none=>none
theorem sL:∀(ks:List Nat) {F F':List (Nat×Value)},SW F ks=some F'->Cg F' F
  | [],_,_,h=>by injection h with h;subst h;trivial
  | k::ks,F,F',h=>by
    unfold SW at h
    split at h
    · rename_i v hv
      split at h
      · rename_i r hr
        injection h with h;subst h
        exact ⟨hv,sL ks hr⟩
      · cases h
    · cases h
def Li:List As->Nat->As->Option (List As)
  | [],_,_=>none
  | _::r,0,y=>some (y::r)
  | x::r,i+1,y=>match Li r i y with
    | some r'=>some (x::r')
    | none=>none
theorem GJ:∀{L:List As} {i:Nat} {y:As} {L':List As},Li L i y=some L'->L.set i y=L'
  | [],_,_,_,h=>by cases h
  | _::r,0,y,_,h=>by injection h
  | x::r,i+1,y,L',h=>by
    unfold Li at h
    split at h
    · rename_i r' hr
      injection h with h;subst h
      rw [List.set_cons_succ,GJ hr]
    · cases h
section
variable {α β γ δ ε:Type} {a a':α} {b b':β} {c c':γ} {d d':δ} {e e':ε}
theorem CU (h:(a,b)=(a',b')):a=a':=congrArg Prod.fst h
theorem BN (h:(a,b)=(a',b')):b=b':=congrArg Prod.snd h
end
section
variable {P:Program} {ops:Array Oper} {rest:List Oper} {Q:Exit->Act->World->Prop} {n d i b off k:Nat} {F F':List (Nat×Value)} {w0:A_} {L L' Lro:List As} {op:Op} {t ty T:TypeId} {p:String} {af:Array Edge} {u v:Value} {x y:Operand} {l:List Oper} {specs:List Sp} {cs vs:List Value} {o:Oper} {j:Nat} {g:Option (Nat×Bool)}
theorem AB {t:Nat} {b:Bool} (h:(o.guard,(ops[j]?).bind (·.dst),F.lookup t)=(some (j,b),some t,some (.bool b))):Wt ops n F o:=Tp (CU h) (CU (BN h)) (BN (BN h))
theorem AH {t:Nat} {b:Bool} (h:(o.guard,(ops[j]?).bind (·.dst),F.lookup t)=(some (j,b),some t,some (.bool (!b)))):∀a,CG n a F->Region.wanted o (yielded ops a.tmps)=false:=Vi (CU h) (CU (BN h)) (BN (BN h))
theorem AK (he:Ex P n F w0 L ⟨some d,op,t,p,af,none⟩ v) (hd:Nat.ble (d+1) n=true) (next:AD P ops rest Q n ((d,v)::F) w0 L):AD P ops (⟨some d,op,t,p,af,none⟩::rest) Q n F w0 L:=st he (Bj hd) next
theorem AQ (h:(evF F x,Nat.ble (d+1) n)=(some v,true)) (next:AD P ops rest Q n ((d,v)::F) w0 L):AD P ops (⟨some d,.move x,t,p,af,none⟩::rest) Q n F w0 L:=mv (CU h) (BN h) next
theorem asg' (h:(evF F x,Nat.ble (d+1) n)=(some v,true)) (next:AD P ops rest Q n ((d,v)::F) w0 L):AD P ops (⟨some d,.assign x,t,p,af,none⟩::rest) Q n F w0 L:=Yk (CU h) (BN h) next
theorem BG (i:Nat) (ht:C3 P ty k) (h:(evF F x,L[i]?,cs.length,Nat.ble (d+1) n)=(some (pP b 0),some (Ad b T cs),k,true)) (next:AD P ops rest Q n ((d,aG cs)::F) w0 L) :
    AD P ops (⟨some d,.load ty x,t,p,af,none⟩::rest) Q n F w0 L:=YU i ht (CU h) (CU (BN h)) (CU (BN (BN h))) (BN (BN (BN h))) next
theorem Cf (i:Nat) (vs:List Value) (ht:C3 P ty k) (h:(evF F x,L[i]?,(cs.drop off).take k,vs.length,Nat.ble (d+1) n)=(some (pP b off),some (Ad b T cs),vs,k,true)) (next:AD P ops rest Q n ((d,aG vs)::F) w0 L) :
    AD P ops (⟨some d,.load ty x,t,p,af,none⟩::rest) Q n F w0 L:=Yj i vs ht (CU h) (CU (BN h)) (CU (BN (BN h))) (CU (BN (BN (BN h)))) (BN (BN (BN (BN h)))) next
theorem BJ (i:Nat) (v:Value) (ht:Ep P ty) (h:(evF F x,L[i]?,cs[off]?,Nat.ble (d+1) n)=(some (pP b off),some (Ad b T cs),some v,true)) (next:AD P ops rest Q n ((d,v)::F) w0 L) :
    AD P ops (⟨some d,.load ty x,t,p,af,none⟩::rest) Q n F w0 L:=Yi i v ht (CU h) (CU (BN h)) (CU (BN (BN h))) (BN (BN (BN h))) next
theorem BU (h:(evF F x,v.cells,Nat.ble (d+1) n)=(some v,cs.toArray,true)) (next:∀b,AD P ops rest Q n ((d,pP b 0)::F) w0 (Ad b T cs::L)):AD P ops (⟨some d,.box T x,t,p,af,none⟩::rest) Q n F w0 L :=
  bx (CU h) (CU (BN h)) (BN (BN h)) next
theorem CN {f:FuncId} {xs:List Operand} {args:List Value} {ts:Array TypeId} (hc:∀args w,(callFunc f args).run P w=.ok (.enter f args) w) (h:∀w,BE w0 w L->Calls P f args.toArray w (Al w v))
    (h2:(evF F x,xs.map (evF F),Nat.ble (d+1) n)=(some (.func (.func f) #[] #[]),args.map some,true)) (next:AD P ops rest Q n ((d,v)::F) w0 L) :
    AD P ops (⟨some d,.call { callee:=.value x,args:=xs.toArray,argTypes:=ts },t,p,af,none⟩::rest) Q n F w0 L:=cl hc h (CU h2) (CU (BN h2)) (BN (BN h2)) next
theorem ck' {f:FuncId} {xs:List Operand} {args:List Value} {ts:Array TypeId} (hc:∀args w,(callFunc f args).run P w=.ok (.enter f args) w) (h:∀w,Calls P f args.toArray w (Al w v))
    (h2:(evF F x,xs.map (evF F),Nat.ble (d+1) n)=(some (.func (.func f) #[] #[]),args.map some,true)) (next:AD P ops rest Q n ((d,v)::F) w0 L) :
    AD P ops (⟨some d,.call { callee:=.value x,args:=xs.toArray,argTypes:=ts },t,p,af,none⟩::rest) Q n F w0 L:=CN hc (λw _=>h w) h2 next
variable {A0 A1 A2 A3 A4 A5:As}
theorem A8 (h:(evF F x,evF F y,v.cells)=(some (pP b 0),some v,vs.toArray)) (hs:∀w,(sizeOf ty).run P w=.ok vs.length w) (h2:(vs.all λu=>u.oneCell',vs.length)=(true,cs.length))
    (next:AD P ops rest Q n F w0 (Ad b T vs::L)):AD P ops (⟨none,.store ty x y,t,p,af,none⟩::rest) Q n F w0 (Ad b T cs::L):=XT (CU h) (CU (BN h)) (BN (BN h)) hs (CU h2) (BN h2) next
theorem C6 (h:(evF F x,evF F y,v.cells)=(some (pP b 0),some v,vs.toArray)) (hs:∀w,(sizeOf ty).run P w=.ok vs.length w) (h2:(vs.all λu=>u.oneCell',vs.length)=(true,cs.length))
    (next:AD P ops rest Q n F w0 (A0::Ad b T vs::L)):AD P ops (⟨none,.store ty x y,t,p,af,none⟩::rest) Q n F w0 (A0::Ad b T cs::L):=XR (CU h) (CU (BN h)) (BN (BN h)) hs (CU h2) (BN h2) next
theorem I3 (h:(evF F x,evF F y,v.cells)=(some (pP b 0),some v,vs.toArray)) (hs:∀w,(sizeOf ty).run P w=.ok vs.length w) (h2:(vs.all λu=>u.oneCell',vs.length)=(true,cs.length))
    (next:AD P ops rest Q n F w0 (A0::A1::Ad b T vs::L)):AD P ops (⟨none,.store ty x y,t,p,af,none⟩::rest) Q n F w0 (A0::A1::Ad b T cs::L):=Xm (CU h) (CU (BN h)) (BN (BN h)) hs (CU h2) (BN h2) next
theorem H8 (h:(evF F x,evF F y,v.cells)=(some (pP b 0),some v,vs.toArray)) (hs:∀w,(sizeOf ty).run P w=.ok vs.length w) (h2:(vs.all λu=>u.oneCell',vs.length)=(true,cs.length))
    (next:AD P ops rest Q n F w0 (A0::A1::A2::Ad b T vs::L)):AD P ops (⟨none,.store ty x y,t,p,af,none⟩::rest) Q n F w0 (A0::A1::A2::Ad b T cs::L):=Xh (CU h) (CU (BN h)) (BN (BN h)) hs (CU h2) (BN h2) next
theorem Hp (i:Nat) {v:Value} {cs':List Value} (hw:Wt ops n F ⟨none,.store ty x y,t,p,af,g⟩) (h:(evF F x,evF F y,L[i]?,v.cells)=(some (pP b off),some v,some (Ad b T cs),vs.toArray))
    (hs:∀w,(sizeOf ty).run P w=.ok vs.length w) (h2:(vs.all λu=>u.oneCell',Nat.ble (off+vs.length) cs.length,FQ cs off vs,Li L i (Ad b T cs'))=(true,true,cs',some L')) (next:AD P ops rest Q n F w0 L'):AD P ops (⟨none,.store ty x y,t,p,af,g⟩::rest) Q n F w0 L :=
  AD.store' hw rfl (CU h) (CU (BN h)) (CU (BN (BN h))) (BN (BN (BN h))) hs (CU h2) (CU (BN h2)) (CU (BN (BN h2))) (GJ (BN (BN (BN h2)))) next
end
end
section
set_option maxRecDepth 100000
theorem XJ:Ep Tryz.prog 2:=⟨Tryz.isAgg2⟩
theorem Bo:Ep Tryz.prog 3:=⟨Tryz.isAgg3⟩
theorem LT:Ep Tryz.prog 4:=⟨Tryz.isAgg4⟩
theorem Pg:Ep Tryz.prog 9:=⟨Tryz.isAgg9⟩
theorem Le:Ep Tryz.prog 22:=⟨Tryz.isAgg22⟩
theorem DG:Ep Tryz.prog 23:=⟨Tryz.isAgg23⟩
theorem D5:Ep Tryz.prog 24:=⟨Tryz.isAgg24⟩
theorem EX:C3 Tryz.prog 26 3:=⟨Tryz.isAgg26,Tryz.sizeOf26⟩
theorem CW:Ep Tryz.prog 28:=⟨Tryz.isAgg28⟩
theorem Bi:C3 Tryz.prog 30 3:=⟨Tryz.isAgg30,Tryz.sizeOf30⟩
theorem Vj:Ep Tryz.prog 35:=⟨Tryz.isAgg35⟩
theorem ME:Ep Tryz.prog 36:=⟨Tryz.isAgg36⟩
theorem X2:C3 Tryz.prog 38 3:=⟨Tryz.isAgg38,Tryz.sizeOf38⟩
theorem FV:Ep Tryz.prog 40:=⟨Tryz.isAgg40⟩
theorem Br:C3 Tryz.prog 42 2:=⟨Tryz.isAgg42,Tryz.sizeOf42⟩
theorem QC:C3 Tryz.prog 44 2:=⟨Tryz.isAgg44,Tryz.sizeOf44⟩
theorem Ci:C3 Tryz.prog 46 3:=⟨Tryz.isAgg46,Tryz.sizeOf46⟩
theorem Bf:C3 Tryz.prog 48 5:=⟨Tryz.isAgg48,Tryz.sizeOf48⟩
theorem BM:C3 Tryz.prog 51 10:=⟨Tryz.isAgg51,Tryz.sizeOf51⟩
theorem Gx:C3 Tryz.prog 53 3:=⟨Tryz.isAgg53,Tryz.sizeOf53⟩
theorem NB:C3 Tryz.prog 55 3:=⟨Tryz.isAgg55,Tryz.sizeOf55⟩
theorem JY:Ep Tryz.prog 71:=⟨Tryz.isAgg71⟩
theorem QX:C3 Tryz.prog 73 2:=⟨Tryz.isAgg73,Tryz.sizeOf73⟩
theorem JT:C3 Tryz.prog 75 3:=⟨Tryz.isAgg75,Tryz.sizeOf75⟩
theorem Xk:C3 Tryz.prog 83 6:=⟨Tryz.isAgg83,Tryz.sizeOf83⟩
theorem Mj:C3 Tryz.prog 91 4:=⟨Tryz.isAgg91,Tryz.sizeOf91⟩
theorem WO:Ep Tryz.prog 97:=⟨Tryz.isAgg97⟩
theorem QO:C3 Tryz.prog 99 2:=⟨Tryz.isAgg99,Tryz.sizeOf99⟩
theorem U5:C3 Tryz.prog 101 4:=⟨Tryz.isAgg101,Tryz.sizeOf101⟩
theorem KX:C3 Tryz.prog 207 30:=⟨Tryz.isAgg207,Tryz.sizeOf207⟩
theorem KT:C3 Tryz.prog 231 2:=⟨Tryz.isAgg231,Tryz.sizeOf231⟩
theorem Wz:C3 Tryz.prog 268 15:=⟨Tryz.isAgg268,Tryz.sizeOf268⟩
theorem M8:DJ Tryz.prog 30 ([(Value.slice none 0 0),(Value.slice none 0 0),(Value.slice none 0 0)]):=⟨_,Tryz.zeroValue30,rfl⟩
theorem XC:DJ Tryz.prog 38 ([(Value.slice none 0 0),(Value.slice none 0 0),(Value.slice none 0 0)]):=⟨_,Tryz.zeroValue38,rfl⟩
theorem E9:DJ Tryz.prog 42 (AY 0):=⟨_,Tryz.zeroValue42,rfl⟩
theorem We:DJ Tryz.prog 44 (AY 0):=⟨_,Tryz.zeroValue44,rfl⟩
theorem IE:DJ Tryz.prog 46 (Az 0):=⟨_,Tryz.zeroValue46,rfl⟩
theorem Dr:DJ Tryz.prog 48 (AN (0:Rat)):=⟨_,Tryz.zeroValue48,rfl⟩
theorem G8:DJ Tryz.prog 51 (Af (⟨0,0⟩:Pt)):=⟨_,Tryz.zeroValue51,rfl⟩
theorem Ng:DJ Tryz.prog 53 ([(vI 0),(vI 0),(vI 0)]):=⟨_,Tryz.zeroValue53,rfl⟩
theorem Xr:DJ Tryz.prog 55 ([(vI 0),(vI 0),(vI 0)]):=⟨_,Tryz.zeroValue55,rfl⟩
theorem Vl:DJ Tryz.prog 73 ([(Value.bool false),(Value.slice none 0 0)]):=⟨_,Tryz.zeroValue73,rfl⟩
theorem Pp:DJ Tryz.prog 75 ([(Value.bool false),(Value.slice none 0 0),(Value.slice none 0 0)]):=⟨_,Tryz.zeroValue75,rfl⟩
theorem X1:DJ Tryz.prog 83 ([(Value.bool false),(Value.slice none 0 0),(Value.slice none 0 0),(Value.bool false),(Value.slice none 0 0),(Value.slice none 0 0)]):=⟨_,Tryz.zeroValue83,rfl⟩
theorem R7:DJ Tryz.prog 91 ([(vI 0),(vI 0),(vI 0),(vI 0)]):=⟨_,Tryz.zeroValue91,rfl⟩
theorem SP:DJ Tryz.prog 207 (Af (⟨0,0⟩:Pt)++Af (⟨0,0⟩:Pt)++Af (⟨0,0⟩:Pt)):=⟨_,Tryz.zeroValue207,rfl⟩
theorem SC:DJ Tryz.prog 231 ([(vI 0),(vI 0)]):=⟨_,Tryz.zeroValue231,rfl⟩
theorem Jy:DJ Tryz.prog 268 (AN (0:Rat)++AN (0:Rat)++AN (0:Rat)):=⟨_,Tryz.zeroValue268,rfl⟩
theorem W5:DJ Tryz.prog 327 ([(Value.int .u8 (0:Int)),(Value.int .u8 (0:Int)),(Value.int .u8 (0:Int)),(Value.int .u8 (0:Int)),(Value.int .u8 (0:Int)),(Value.int .u8 (0:Int)),(Value.int .u8 (0:Int)),(Value.int .u8 (0:Int)),(Value.int .u8 (0:Int)),(Value.int .u8 (0:Int)),(Value.int .u8 (0:Int)),(Value.int .u8 (0:Int)),(Value.int .u8 (0:Int)),(Value.int .u8 (0:Int)),(Value.int .u8 (0:Int)),(Value.int .u8 (0:Int)),(Value.int .u8 (0:Int)),(Value.int .u8 (0:Int)),(Value.int .u8 (0:Int)),(Value.int .u8 (0:Int)),(Value.int .u8 (0:Int)),(Value.int .u8 (0:Int)),(Value.int .u8 (0:Int)),(Value.int .u8 (0:Int))]):=⟨_,Tryz.zeroValue327,rfl⟩
end
end Go.Proofs.YtpgncndhhhllfaaGreatDoor
