import Derived.Test.YtpgncndhhhllfaaGreatDoorPart02
namespace Go.Proofs.YtpgncndhhhllfaaGreatDoor
open Go Go.RowKit Go.Proofs.Tryz
set_option linter.unusedVariables false
set_option linter.unusedSimpArgs false
section
def Po (f:Nat) (v:Nat):List Nat :=
  match f with
  | 0=>[]
  | f+1=>if v=0 then [] else v%4294967296::Po f (v/4294967296)
def AM (v:Nat):List Nat:=Po v v
def RR (x:Nat):List UInt8:=[(x%256).toUInt8,(x/256%256).toUInt8,(x/65536%256).toUInt8,(x/16777216%256).toUInt8]
def Js (v:Nat):Bool:=decide (v<18446744073709551616)
def Bq (v:Nat):Nat:=if Js v then v else 0
def BW (v:Nat):ByteArray:=if Js v then ByteArray.empty else ⟨((AM v).flatMap RR).toArray⟩
def Aa (v:Nat):List Value:=[.int .u64 (Bq v:Nat),.string (BW v)]
def BQ (z:Int):List Value:=[.int .u64 (Bq z.natAbs:Nat),.string (BW z.natAbs),.bool (decide (z<0))]
def Ap (q:Rat):List Value:=[.int .u64 (Bq q.num.natAbs:Nat),.string (BW q.num.natAbs),.bool (decide (q.num<0)),.int .u64 (Bq (q.den-1):Nat),.string (BW (q.den-1))]
@[ext] structure Pt where
  x:Rat
  y:Rat
def BE (p:Pt):List Value:=Ap p.x++Ap p.y
theorem BK {z:Int} (h:-9223372036854775808<=z) (h':z<9223372036854775808):IntKind.i64.wrap z=z:=by
  simp only [IntKind.wrap,IntKind.bits,IntKind.signed];simp;split<;>omega
theorem Ct {z:Int} (h:0<=z) (h':z<18446744073709551616):IntKind.u64.wrap z=z:=by
  simp only [IntKind.wrap,IntKind.bits,IntKind.signed];simp;omega
theorem Fx {z:Int} (h:0<=z) (h':z<4294967296):IntKind.u32.wrap z=z:=by
  simp only [IntKind.wrap,IntKind.bits,IntKind.signed];simp;omega
theorem UT {z:Int} (h:0<=z) (h':z<256):IntKind.u8.wrap z=z:=by
  simp only [IntKind.wrap,IntKind.bits,IntKind.signed];simp;omega
theorem AR {a b:Nat} (h:a+b<9223372036854775808):IntKind.i64.wrap ((a:Int)+(b:Int))=((a+b:Nat):Int):=by rw [BK (by omega) (by omega)];omega
theorem Bj {a b:Nat} (h:b<=a) (h':a<9223372036854775808):IntKind.i64.wrap ((a:Int)-(b:Int))=((a-b:Nat):Int):=by rw [BK (by omega) (by omega)];omega
theorem E1 {a b:Nat} (h:a*b<9223372036854775808):IntKind.i64.wrap ((a:Int)*(b:Int))=((a*b:Nat):Int):=by
  rw [<-Int.natCast_mul,BK (by omega) (by omega)]
theorem C5 {a b:Nat} (h:a+b<18446744073709551616):IntKind.u64.wrap ((a:Int)+(b:Int))=((a+b:Nat):Int):=by rw [Ct (by omega) (by omega)];omega
theorem HM {a b:Nat} (h:b<=a) (h':a<18446744073709551616):IntKind.u64.wrap ((a:Int)-(b:Int))=((a-b:Nat):Int):=by rw [Ct (by omega) (by omega)];omega
theorem EJ {a b:Nat} (h:a*b<18446744073709551616):IntKind.u64.wrap ((a:Int)*(b:Int))=((a*b:Nat):Int):=by
  rw [<-Int.natCast_mul,Ct (by omega) (by omega)]
theorem D9 {a:Nat} (h:a<9223372036854775808):IntKind.i64.wrap (a:Int)=(a:Int):=BK (by omega) (by omega)
theorem BH {a:Nat} (h:a<18446744073709551616):IntKind.u64.wrap (a:Int)=(a:Int):=Ct (by omega) (by omega)
theorem CQ {a:Nat} (h:a<4294967296):IntKind.u32.wrap (a:Int)=(a:Int):=Fx (by omega) (by omega)
theorem MH {a:Nat} (h:a<256):IntKind.u8.wrap (a:Int)=(a:Int):=UT (by omega) (by omega)
theorem Dn {a:Nat}:IntKind.u32.wrap (a:Int)=((a%4294967296:Nat):Int):=by
  simp only [IntKind.wrap,IntKind.bits,IntKind.signed];simp
theorem If {a:Nat}:IntKind.u8.wrap (a:Int)=((a%256:Nat):Int):=by
  simp only [IntKind.wrap,IntKind.bits,IntKind.signed];simp
theorem CB {a b:Nat}:decide ((a:Int)<(b:Int))=decide (a<b):=decide_eq_decide.2 (by omega)
theorem S7 {a b:Nat}:decide ((a:Int)<=(b:Int))=decide (a<=b):=decide_eq_decide.2 (by omega)
theorem RG {a b:Nat}:decide ((a:Int)=(b:Int))=decide (a=b):=decide_eq_decide.2 (by omega)
theorem VQ {a b:Nat}:decide ((a:Int)≠(b:Int))=decide (a≠b):=decide_eq_decide.2 (by omega)
theorem ED {a b:Nat} (h:a<9223372036854775808):IntKind.i64.wrap ((a:Int).tdiv (b:Int))=((a/b:Nat):Int):=by
  have:a/b<=a:=Nat.div_le_self _ _
  rw [<-Int.ofNat_tdiv]
  generalize a/b=q at *
  exact BK (by omega) (by omega)
theorem G3 {a b:Nat} (h:a<18446744073709551616):IntKind.u64.wrap ((a:Int).tdiv (b:Int))=((a/b:Nat):Int):=by
  have:a/b<=a:=Nat.div_le_self _ _
  rw [<-Int.ofNat_tdiv]
  generalize a/b=q at *
  exact Ct (by omega) (by omega)
theorem K7 {a b:Nat}:((a:Int).tmod (b:Int))=((a%b:Nat):Int):=(Int.ofNat_tmod a b).symm
theorem Fa {a s:Nat}:(a:Int)/2^s=((a/2^s:Nat):Int):=by simp
theorem Ep:Tryz.prog.follows .mixedOrders=true:=by kernel_rfl
theorem CW.nil {F:List (Nat×Value)}:CW [] F:=trivial
theorem CW.cons {k:Nat} {v:Value} {r F:List (Nat×Value)} (h:F.lookup k=some v) (t:CW r F):CW ((k,v)::r) F:=⟨h,t⟩
theorem KS.nil {P:Program} {n:Nat} {l:List Oper} {specs:List Sp} {F:List (Nat×Value)} {w0:A7} {Lro L:List As} {os:List Oper}:KS P n l specs F w0 Lro L os []:=by
  cases os<;>trivial
theorem KS.cons {P:Program} {n:Nat} {l:List Oper} {specs:List Sp} {F:List (Nat×Value)} {w0:A7} {Lro L:List As} {o:Oper} {os:List Oper} {s:Sp} {ss:List Sp} (h:Vc P n l specs F w0 Lro L o s) (t:KS P n l specs F w0 Lro L os ss) :
    KS P n l specs F w0 Lro L (o::os) (s::ss):=⟨h,t⟩
theorem AD.store' {P:Program} {ops:Array Oper} {rest:List Oper} {Q:Exit->Act->World->Prop} {n:Nat} {F:List (Nat×Value)} {w0:A7} {L L':List As} {v:Value} {x y:Operand} {d:Option Tmp} {t:TypeId} {p:String} {af:Array Edge} {g:Option (Nat×Bool)}
    {i b off:Nat} {ty T:TypeId} {cs vs cs':List Value} (hw:Wt ops n F ⟨d,.store ty x y,t,p,af,g⟩) (ho:d=none) (hx:evF F x=some (.pointer (some ⟨b,off,none⟩))) (hy:evF F y=some v) (hi:L[i]?=some (Ab b T cs))
    (hv:v.cells=vs.toArray) (hs:∀w,(sizeOf ty).run P w=.ok vs.length w) (h1:(vs.all λu=>u.oneCell')=true) (hl:Nat.ble (off+vs.length) cs.length=true)
    (hc:Fd cs off vs=cs') (hL:L.set i (Ab b T cs')=L') (next:AD P ops rest Q n F w0 L'):AD P ops (⟨d,.store ty x y,t,p,af,g⟩::rest) Q n F w0 L:=by
  subst hc;subst hL
  exact AD.store hw (M2 hx hy hi hv hs h1 hl) ho hi next
theorem AD.callB {P:Program} {ops:Array Oper} {rest:List Oper} {Q:Exit->Act->World->Prop} {n:Nat} {F:List (Nat×Value)} {w0:A7} {L:List As} {o:Oper} {d:Nat} {f:FuncId} {args:Array Value} {V:Nat->Value} {T:TypeId} {cs:List Value} (hw:Wt ops n F o)
    (he:∀a w,CF n a F->A_ w0 w L->(execOp a.eval o).run P w=.ok (.enter f args) w)
    (hc:∀w,A_ w0 w L->Calls P f args w λe w'=>∃b,e=.returned (V b)/\Dk w.heap.size w w'/\w.heap.size<=b/\w'.heap[b]?=some (.cells cs.toArray T (0,0)))
    (ho:o.dst=some d) (hd:d<n) (next:∀b,AD P ops rest Q n ((d,V b)::F) w0 (Ab b T cs::L)):AD P ops (o::rest) Q n F w0 L:=λa w ha hW=>by
  unfold wpList
  rw [if_pos (hw a ha)]
  left
  unfold Oper.wp
  rw [he a w ha hW,Oper.upon_enter]
  refine (hc w hW).mono ?_
  rintro e w' ⟨b,rfl,hb,hlt,hcell⟩
  rw [ho]
  exact next b _ _ (ha.put hd) (hW.add rfl hb hlt ⟨_,hcell,rfl⟩)
theorem AD.callM {P:Program} {ops:Array Oper} {rest:List Oper} {Q:Exit->Act->World->Prop} {n:Nat} {F:List (Nat×Value)} {w0:A7} {L L':List As} {o:Oper} {f:FuncId} {args:Array Value} {v:Value} {i b:Nat} {T:TypeId} {cs cs':List Value} (hw:Wt ops n F o)
    (he:∀a w,CF n a F->A_ w0 w L->(execOp a.eval o).run P w=.ok (.enter f args) w) (hi:L[i]?=some (Ab b T cs))
    (hc:∀w,A_ w0 w L->Calls P f args w λe w'=>e=.returned v/\I8 w w' (some b)/\w'.heap[b]?=some (.cells cs'.toArray T (0,0)))
    (hd:∀d,o.dst=some d->d<n) (hL:L.set i (Ab b T cs')=L') (next:AD P ops rest Q n (match o.dst with|some d=>(d,v)::F|none=>F) w0 L'):AD P ops (o::rest) Q n F w0 L:=λa w ha hW=>by
  subst hL
  unfold wpList
  rw [if_pos (hw a ha)]
  left
  unfold Oper.wp
  rw [he a w ha hW,Oper.upon_enter]
  refine (hc w hW).mono ?_
  rintro e w' ⟨rfl,hg,hcell⟩
  have hW':=hW.turn hi rfl rfl hg ⟨_,hcell,rfl⟩ (y:=Ab b T cs')
  cases hdst:o.dst with
  | none=>rw [hdst] at next;exact next _ _ ha.put_none hW'
  | some d=>rw [hdst] at next;exact next _ _ (ha.put (hd d hdst)) hW'
abbrev pP (b o:Nat):Value:=.pointer (some ⟨b,o,none⟩)
abbrev aG (l:List Value):Value:=.agg l.toArray
abbrev vI (z:Int):Value:=.int .i64 z
abbrev vN (n:Nat):Value:=.int .i64 (n:Int)
abbrev vK (k:IntKind) (n:Nat):Value:=.int k (n:Int)
theorem AY {a b:Nat} (h:Nat.ble a b=true):a<=b:=Nat.le_of_ble_eq_true h
theorem sN {F:List (Nat×Value)}:CW [] F:=trivial
theorem sS {k:Nat} {v:Value} {r F:List (Nat×Value)} (h:F.lookup k=some v) (t:CW r F):CW ((k,v)::r) F:=⟨h,t⟩
def YR (F:List (Nat×Value)):List (Nat×Value)->List (Option Value)
  | []=>[]
  | p::r=>F.lookup p.1::YR F r
def XY:List (Nat×Value)->List (Option Value)
  | []=>[]
  | p::r=>some p.2::XY r
theorem sF:∀{F' F:List (Nat×Value)},YR F F'=XY F'->CW F' F
  | [],_,_=>trivial
  | _::_,_,h=>by
    simp only [YR,XY,List.cons.injEq] at h
    exact ⟨h.1,sF h.2⟩
section
variable {P:Program} {ops:Array Oper} {rest:List Oper} {Q:Exit->Act->World->Prop} {n d:Nat} {F F':List (Nat×Value)} {w0:A7} {L Lro:List As} {op:Op} {t:TypeId} {p:String} {af:Array Edge} {v:Value} {l:List Oper} {specs:List Sp}
theorem AF.subF {c:Code} (hs:CW F' F) (h:AF P c Q n F' w0 L):AF P c Q n F w0 L:=AF.sub hs (List.Sublist.refl _) h
theorem AC.subF {e:Exit} (hs:CW F' F) (h:AC Q e n F' w0 L):AC Q e n F w0 L:=AC.sub hs (List.Sublist.refl _) h
theorem st (he:Ex P n F w0 L ⟨some d,op,t,p,af,none⟩ v) (hd:d<n) (next:AD P ops rest Q n ((d,v)::F) w0 L):AD P ops (⟨some d,op,t,p,af,none⟩::rest) Q n F w0 L:=AD.step (AO rfl) he rfl hd next
theorem q1 {x y:Code} (h:AF P x (Exit.then (y.wp P Q) Q) n F w0 L):AC (Exit.then ((Code.seq x y).wp P Q) Q) .normal n F w0 L:=AC.then_ (AF.seq h)
theorem q2 {id:Nat} {y:Code} (h:AD P l.toArray l (Exit.then (y.wp P Q) Q) n F w0 L):AC (Exit.then ((Code.seq (.region id l.toArray false) y).wp P Q) Q) .normal n F w0 L:=q1 (AF.region h)
theorem q3 {id:Nat} {y:Code} (hs:CW F' F) (h:AD P l.toArray l (Exit.then (y.wp P Q) Q) n F' w0 L):AD P ops [] (Exit.then ((Code.seq (.region id l.toArray false) y).wp P Q) Q) n F w0 L:=AD.nil (AC.subF hs (q2 h))
theorem q4 {id:Nat} {y:Code} (h:AD P l.toArray l (Exit.then (y.wp P Q) Q) n F w0 L):AF P (Code.seq (.region id l.toArray false) y) Q n F w0 L:=AF.seq (AF.region h)
theorem q6 {x y:Code} (hs:CW F' F) (h:AF P x (Exit.then (y.wp P Q) Q) n F' w0 L):AD P ops [] (Exit.then ((Code.seq x y).wp P Q) Q) n F w0 L:=AD.nil (AC.subF hs (q1 h))
theorem Ay {x:Operand} {f:FuncId} {xs:List Operand} {args:List Value} {ts:Array TypeId} {dd:Option Tmp} {g:Option (Nat×Bool)} (hf:evF F x=some (.func (.func f) #[] #[])) (hargs:xs.map (evF F)=args.map some)
    (hc:∀args w,(callFunc f args).run P w=.ok (.enter f args) w) :
    ∀a w,CF n a F->A_ w0 w L->(execOp a.eval ⟨dd,.call { callee:=.value x,args:=xs.toArray,argTypes:=ts },t,p,af,g⟩).run P w=.ok (.enter f args.toArray) w :=
  Pa (caps:=[]) hf hargs (List.append_nil _) hc
end
end
section
structure C1 (P:Program) (t:TypeId) (k:Nat):Prop where
  a:∀w,(isAgg t).run P w=.ok true w
  s:∀w,(sizeOf t).run P w=.ok k w
structure ER (P:Program) (t:TypeId):Prop where
  a:∀w,(isAgg t).run P w=.ok false w
def DE (P:Program) (t:TypeId) (cs:List Value):Prop:=∃u:Value,(∀w,(zeroValue t).run P w=.ok u w)/\u.cells=cs.toArray
section
variable {P:Program} {ops:Array Oper} {rest:List Oper} {Q:Exit->Act->World->Prop} {n d i b off k:Nat} {F F':List (Nat×Value)} {w0:A7} {L Lro:List As} {op:Op} {t ty T:TypeId} {p:String} {af:Array Edge} {u v:Value} {x y:Operand} {l:List Oper} {specs:List Sp} {cs vs:List Value}
theorem Bk {a b:Nat} (h:Nat.ble (a+1) b=true):a<b:=Nat.le_of_ble_eq_true h
theorem mv (hx:evF F x=some v) (hd:Nat.ble (d+1) n=true) (next:AD P ops rest Q n ((d,v)::F) w0 L):AD P ops (⟨some d,.move x,t,p,af,none⟩::rest) Q n F w0 L:=AD.step (AO rfl) (Ai hx) rfl (Bk hd) next
theorem Zg (hx:evF F x=some v) (hd:Nat.ble (d+1) n=true) (next:AD P ops rest Q n ((d,v)::F) w0 L):AD P ops (⟨some d,.assign x,t,p,af,none⟩::rest) Q n F w0 L:=AD.step (AO rfl) (KJ hx) rfl (Bk hd) next
theorem JE {cs:List Value} {k:Nat} (h:cs.length=k):(cs.drop 0).take k=cs:=by rw [List.drop_zero,List.take_of_length_le (by omega)]
theorem ZZ (i:Nat) (ht:C1 P ty k) (hx:evF F x=some (pP b 0)) (hi:L[i]?=some (Ab b T cs)) (hl:cs.length=k) (hd:Nat.ble (d+1) n=true) (next:AD P ops rest Q n ((d,aG cs)::F) w0 L) :
    AD P ops (⟨some d,.load ty x,t,p,af,none⟩::rest) Q n F w0 L:=AD.step (AO rfl) (BI hx hi ht.a ht.s (JE hl) hl) rfl (Bk hd) next
theorem Zi (i:Nat) (vs:List Value) (ht:C1 P ty k) (hx:evF F x=some (pP b off)) (hi:L[i]?=some (Ab b T cs)) (hv:(cs.drop off).take k=vs) (hl:vs.length=k) (hd:Nat.ble (d+1) n=true) (next:AD P ops rest Q n ((d,aG vs)::F) w0 L) :
    AD P ops (⟨some d,.load ty x,t,p,af,none⟩::rest) Q n F w0 L:=AD.step (AO rfl) (BI hx hi ht.a ht.s hv hl) rfl (Bk hd) next
theorem ZV (i:Nat) (v:Value) (ht:ER P ty) (hx:evF F x=some (pP b off)) (hi:L[i]?=some (Ab b T cs)) (hv:cs[off]?=some v) (hd:Nat.ble (d+1) n=true) (next:AD P ops rest Q n ((d,v)::F) w0 L) :
    AD P ops (⟨some d,.load ty x,t,p,af,none⟩::rest) Q n F w0 L:=AD.step (AO rfl) (AP hx hi ht.a hv) rfl (Bk hd) next
theorem bx (hx:evF F x=some v) (hv:v.cells=cs.toArray) (hd:Nat.ble (d+1) n=true) (next:∀b,AD P ops rest Q n ((d,pP b 0)::F) w0 (Ab b T cs::L)):AD P ops (⟨some d,.box T x,t,p,af,none⟩::rest) Q n F w0 L :=
  AD.open_ (AO rfl) (WP hx hv) rfl (Bk hd) next
theorem al (hz:DE P T cs) (hd:Nat.ble (d+1) n=true) (next:∀b,AD P ops rest Q n ((d,pP b 0)::F) w0 (Ab b T cs::L)):AD P ops (⟨some d,.alloc T,t,p,af,none⟩::rest) Q n F w0 L :=
  have ⟨_,h1,h2⟩:=hz
  AD.open_ (AO rfl) (L1 h1 h2) rfl (Bk hd) next
theorem cl {f:FuncId} {xs:List Operand} {args:List Value} {ts:Array TypeId} (hc:∀args w,(callFunc f args).run P w=.ok (.enter f args) w) (h:∀w,A_ w0 w L->Calls P f args.toArray w (An w v))
    (hf:evF F x=some (.func (.func f) #[] #[])) (hargs:xs.map (evF F)=args.map some) (hd:Nat.ble (d+1) n=true) (next:AD P ops rest Q n ((d,v)::F) w0 L) :
    AD P ops (⟨some d,.call { callee:=.value x,args:=xs.toArray,argTypes:=ts },t,p,af,none⟩::rest) Q n F w0 L:=AD.call (AO rfl) (Ay hf hargs hc) h rfl (Bk hd) next
theorem Un {cs vs:List Value} (h:vs.length=cs.length):Fd cs 0 vs=vs:=by simp [Fd,h]
theorem LX {L':List As} (hx:evF F x=some (pP b 0)) (hy:evF F y=some v) (hi:L[i]?=some (Ab b T cs)) (hv:v.cells=vs.toArray) (hs:∀w,(sizeOf ty).run P w=.ok vs.length w) (h1:(vs.all λu=>u.oneCell')=true) (hl:vs.length=cs.length)
    (hL:L.set i (Ab b T vs)=L') (next:AD P ops rest Q n F w0 L'):AD P ops (⟨none,.store ty x y,t,p,af,none⟩::rest) Q n F w0 L:=AD.store' (AO rfl) rfl hx hy hi hv hs h1 (Nat.ble_eq_true_of_le (by omega)) (Un hl) hL next
variable {A0 A1 A2 A3 A4 A5:As}
theorem YY (hx:evF F x=some (pP b 0)) (hy:evF F y=some v) (hv:v.cells=vs.toArray) (hs:∀w,(sizeOf ty).run P w=.ok vs.length w) (h1:(vs.all λu=>u.oneCell')=true) (hl:vs.length=cs.length)
    (next:AD P ops rest Q n F w0 (Ab b T vs::L)):AD P ops (⟨none,.store ty x y,t,p,af,none⟩::rest) Q n F w0 (Ab b T cs::L):=LX (i:=0) hx hy rfl hv hs h1 hl rfl next
theorem Y2 (hx:evF F x=some (pP b 0)) (hy:evF F y=some v) (hv:v.cells=vs.toArray) (hs:∀w,(sizeOf ty).run P w=.ok vs.length w) (h1:(vs.all λu=>u.oneCell')=true) (hl:vs.length=cs.length)
    (next:AD P ops rest Q n F w0 (A0::Ab b T vs::L)):AD P ops (⟨none,.store ty x y,t,p,af,none⟩::rest) Q n F w0 (A0::Ab b T cs::L):=LX (i:=1) hx hy rfl hv hs h1 hl rfl next
theorem Yi (hx:evF F x=some (pP b 0)) (hy:evF F y=some v) (hv:v.cells=vs.toArray) (hs:∀w,(sizeOf ty).run P w=.ok vs.length w) (h1:(vs.all λu=>u.oneCell')=true) (hl:vs.length=cs.length)
    (next:AD P ops rest Q n F w0 (A0::A1::Ab b T vs::L)):AD P ops (⟨none,.store ty x y,t,p,af,none⟩::rest) Q n F w0 (A0::A1::Ab b T cs::L):=LX (i:=2) hx hy rfl hv hs h1 hl rfl next
theorem Yy (hx:evF F x=some (pP b 0)) (hy:evF F y=some v) (hv:v.cells=vs.toArray) (hs:∀w,(sizeOf ty).run P w=.ok vs.length w) (h1:(vs.all λu=>u.oneCell')=true) (hl:vs.length=cs.length)
    (next:AD P ops rest Q n F w0 (A0::A1::A2::Ab b T vs::L)):AD P ops (⟨none,.store ty x y,t,p,af,none⟩::rest) Q n F w0 (A0::A1::A2::Ab b T cs::L):=LX (i:=3) hx hy rfl hv hs h1 hl rfl next
theorem sr {L:List As}:L.Sublist L:=List.Sublist.refl _
theorem sl {a:As} {l1 l2:List As} (h:l1.Sublist l2):l1.Sublist (a::l2):=List.Sublist.cons _ h
theorem sk {a:As} {l1 l2:List As} (h:l1.Sublist l2):(a::l1).Sublist (a::l2):=List.Sublist.cons_cons _ h
end
section
variable {P:Program} {ops:Array Oper} {rest:List Oper} {Q:Exit->Act->World->Prop} {n:Nat} {F F':List (Nat×Value)} {w0:A7} {L Lro:List As} {specs:List Sp} {β:Nat->Value} {A0 A1 A2 A3:As}
end
def SV (F:List (Nat×Value)):List Nat->Option (List (Nat×Value))
  | []=>some []
  | k::ks=>match F.lookup k with
    | some v=>match SV F ks with
      | some r=>some ((k,v)::r)
      | none=>none
    | none=>none
theorem sL:∀(ks:List Nat) {F F':List (Nat×Value)},SV F ks=some F'->CW F' F
  | [],_,_,h=>by injection h with h;subst h;trivial
  | k::ks,F,F',h=>by
    unfold SV at h
    split at h
    · rename_i v hv
      split at h
      · rename_i r hr
        injection h with h;subst h
        exact ⟨hv,sL ks hr⟩
      · cases h
    · cases h
def LE:List As->Nat->As->Option (List As)
  | [],_,_=>none
  | _::r,0,y=>some (y::r)
  | x::r,i+1,y=>match LE r i y with
    | some r'=>some (x::r')
    | none=>none
theorem FN:∀{L:List As} {i:Nat} {y:As} {L':List As},LE L i y=some L'->L.set i y=L'
  | [],_,_,_,h=>by cases h
  | _::r,0,y,_,h=>by injection h
  | x::r,i+1,y,L',h=>by
    unfold LE at h
    split at h
    · rename_i r' hr
      injection h with h;subst h
      rw [List.set_cons_succ,FN hr]
    · cases h
section
variable {α β γ δ ε:Type} {a a':α} {b b':β} {c c':γ} {d d':δ} {e e':ε}
theorem CY (h:(a,b)=(a',b')):a=a':=congrArg Prod.fst h
theorem BM (h:(a,b)=(a',b')):b=b':=congrArg Prod.snd h
end
section
variable {P:Program} {ops:Array Oper} {rest:List Oper} {Q:Exit->Act->World->Prop} {n d i b off k:Nat} {F F':List (Nat×Value)} {w0:A7} {L L' Lro:List As} {op:Op} {t ty T:TypeId} {p:String} {af:Array Edge} {u v:Value} {x y:Operand} {l:List Oper} {specs:List Sp} {cs vs:List Value} {o:Oper} {j:Nat} {g:Option (Nat×Bool)}
theorem AB {t:Nat} {b:Bool} (h:(o.guard,(ops[j]?).bind (·.dst),F.lookup t)=(some (j,b),some t,some (.bool b))):Wt ops n F o:=VW (CY h) (CY (BM h)) (BM (BM h))
theorem AG {t:Nat} {b:Bool} (h:(o.guard,(ops[j]?).bind (·.dst),F.lookup t)=(some (j,b),some t,some (.bool (!b)))):∀a,CF n a F->Region.wanted o (yielded ops a.tmps)=false:=Wu (CY h) (CY (BM h)) (BM (BM h))
theorem AH (he:Ex P n F w0 L ⟨some d,op,t,p,af,none⟩ v) (hd:Nat.ble (d+1) n=true) (next:AD P ops rest Q n ((d,v)::F) w0 L):AD P ops (⟨some d,op,t,p,af,none⟩::rest) Q n F w0 L:=st he (Bk hd) next
theorem AJ (h:(evF F x,Nat.ble (d+1) n)=(some v,true)) (next:AD P ops rest Q n ((d,v)::F) w0 L):AD P ops (⟨some d,.move x,t,p,af,none⟩::rest) Q n F w0 L:=mv (CY h) (BM h) next
theorem asg' (h:(evF F x,Nat.ble (d+1) n)=(some v,true)) (next:AD P ops rest Q n ((d,v)::F) w0 L):AD P ops (⟨some d,.assign x,t,p,af,none⟩::rest) Q n F w0 L:=Zg (CY h) (BM h) next
theorem BF (i:Nat) (ht:C1 P ty k) (h:(evF F x,L[i]?,cs.length,Nat.ble (d+1) n)=(some (pP b 0),some (Ab b T cs),k,true)) (next:AD P ops rest Q n ((d,aG cs)::F) w0 L) :
    AD P ops (⟨some d,.load ty x,t,p,af,none⟩::rest) Q n F w0 L:=ZZ i ht (CY h) (CY (BM h)) (CY (BM (BM h))) (BM (BM (BM h))) next
theorem Gi (i:Nat) (vs:List Value) (ht:C1 P ty k) (h:(evF F x,L[i]?,(cs.drop off).take k,vs.length,Nat.ble (d+1) n)=(some (pP b off),some (Ab b T cs),vs,k,true)) (next:AD P ops rest Q n ((d,aG vs)::F) w0 L) :
    AD P ops (⟨some d,.load ty x,t,p,af,none⟩::rest) Q n F w0 L:=Zi i vs ht (CY h) (CY (BM h)) (CY (BM (BM h))) (CY (BM (BM (BM h)))) (BM (BM (BM (BM h)))) next
theorem BD (i:Nat) (v:Value) (ht:ER P ty) (h:(evF F x,L[i]?,cs[off]?,Nat.ble (d+1) n)=(some (pP b off),some (Ab b T cs),some v,true)) (next:AD P ops rest Q n ((d,v)::F) w0 L) :
    AD P ops (⟨some d,.load ty x,t,p,af,none⟩::rest) Q n F w0 L:=ZV i v ht (CY h) (CY (BM h)) (CY (BM (BM h))) (BM (BM (BM h))) next
theorem B9 (h:(evF F x,v.cells,Nat.ble (d+1) n)=(some v,cs.toArray,true)) (next:∀b,AD P ops rest Q n ((d,pP b 0)::F) w0 (Ab b T cs::L)):AD P ops (⟨some d,.box T x,t,p,af,none⟩::rest) Q n F w0 L :=
  bx (CY h) (CY (BM h)) (BM (BM h)) next
theorem DC {f:FuncId} {xs:List Operand} {args:List Value} {ts:Array TypeId} (hc:∀args w,(callFunc f args).run P w=.ok (.enter f args) w) (h:∀w,A_ w0 w L->Calls P f args.toArray w (An w v))
    (h2:(evF F x,xs.map (evF F),Nat.ble (d+1) n)=(some (.func (.func f) #[] #[]),args.map some,true)) (next:AD P ops rest Q n ((d,v)::F) w0 L) :
    AD P ops (⟨some d,.call { callee:=.value x,args:=xs.toArray,argTypes:=ts },t,p,af,none⟩::rest) Q n F w0 L:=cl hc h (CY h2) (CY (BM h2)) (BM (BM h2)) next
theorem ck' {f:FuncId} {xs:List Operand} {args:List Value} {ts:Array TypeId} (hc:∀args w,(callFunc f args).run P w=.ok (.enter f args) w) (h:∀w,Calls P f args.toArray w (An w v))
    (h2:(evF F x,xs.map (evF F),Nat.ble (d+1) n)=(some (.func (.func f) #[] #[]),args.map some,true)) (next:AD P ops rest Q n ((d,v)::F) w0 L) :
    AD P ops (⟨some d,.call { callee:=.value x,args:=xs.toArray,argTypes:=ts },t,p,af,none⟩::rest) Q n F w0 L:=DC hc (λw _=>h w) h2 next
variable {A0 A1 A2 A3 A4 A5:As}
theorem BC (h:(evF F x,evF F y,v.cells)=(some (pP b 0),some v,vs.toArray)) (hs:∀w,(sizeOf ty).run P w=.ok vs.length w) (h2:(vs.all λu=>u.oneCell',vs.length)=(true,cs.length))
    (next:AD P ops rest Q n F w0 (Ab b T vs::L)):AD P ops (⟨none,.store ty x y,t,p,af,none⟩::rest) Q n F w0 (Ab b T cs::L):=YY (CY h) (CY (BM h)) (BM (BM h)) hs (CY h2) (BM h2) next
theorem Ej (h:(evF F x,evF F y,v.cells)=(some (pP b 0),some v,vs.toArray)) (hs:∀w,(sizeOf ty).run P w=.ok vs.length w) (h2:(vs.all λu=>u.oneCell',vs.length)=(true,cs.length))
    (next:AD P ops rest Q n F w0 (A0::Ab b T vs::L)):AD P ops (⟨none,.store ty x y,t,p,af,none⟩::rest) Q n F w0 (A0::Ab b T cs::L):=Y2 (CY h) (CY (BM h)) (BM (BM h)) hs (CY h2) (BM h2) next
theorem Ks (h:(evF F x,evF F y,v.cells)=(some (pP b 0),some v,vs.toArray)) (hs:∀w,(sizeOf ty).run P w=.ok vs.length w) (h2:(vs.all λu=>u.oneCell',vs.length)=(true,cs.length))
    (next:AD P ops rest Q n F w0 (A0::A1::Ab b T vs::L)):AD P ops (⟨none,.store ty x y,t,p,af,none⟩::rest) Q n F w0 (A0::A1::Ab b T cs::L):=Yi (CY h) (CY (BM h)) (BM (BM h)) hs (CY h2) (BM h2) next
theorem Iu (h:(evF F x,evF F y,v.cells)=(some (pP b 0),some v,vs.toArray)) (hs:∀w,(sizeOf ty).run P w=.ok vs.length w) (h2:(vs.all λu=>u.oneCell',vs.length)=(true,cs.length))
    (next:AD P ops rest Q n F w0 (A0::A1::A2::Ab b T vs::L)):AD P ops (⟨none,.store ty x y,t,p,af,none⟩::rest) Q n F w0 (A0::A1::A2::Ab b T cs::L):=Yy (CY h) (CY (BM h)) (BM (BM h)) hs (CY h2) (BM h2) next
theorem IM (i:Nat) {v:Value} {cs':List Value} (hw:Wt ops n F ⟨none,.store ty x y,t,p,af,g⟩) (h:(evF F x,evF F y,L[i]?,v.cells)=(some (pP b off),some v,some (Ab b T cs),vs.toArray))
    (hs:∀w,(sizeOf ty).run P w=.ok vs.length w) (h2:(vs.all λu=>u.oneCell',Nat.ble (off+vs.length) cs.length,Fd cs off vs,LE L i (Ab b T cs'))=(true,true,cs',some L')) (next:AD P ops rest Q n F w0 L'):AD P ops (⟨none,.store ty x y,t,p,af,g⟩::rest) Q n F w0 L :=
  AD.store' hw rfl (CY h) (CY (BM h)) (CY (BM (BM h))) (BM (BM (BM h))) hs (CY h2) (CY (BM h2)) (CY (BM (BM h2))) (FN (BM (BM (BM h2)))) next
end
end
section
set_option maxRecDepth 100000
theorem YI:ER Tryz.prog 2:=⟨Tryz.isAgg2⟩
theorem Be:ER Tryz.prog 3:=⟨Tryz.isAgg3⟩
theorem T0:ER Tryz.prog 4:=⟨Tryz.isAgg4⟩
theorem RJ:ER Tryz.prog 9:=⟨Tryz.isAgg9⟩
theorem M8:ER Tryz.prog 22:=⟨Tryz.isAgg22⟩
theorem EU:ER Tryz.prog 23:=⟨Tryz.isAgg23⟩
theorem Cz:ER Tryz.prog 24:=⟨Tryz.isAgg24⟩
theorem NN:C1 Tryz.prog 26 3:=⟨Tryz.isAgg26,Tryz.sizeOf26⟩
theorem LT:ER Tryz.prog 28:=⟨Tryz.isAgg28⟩
theorem B1:C1 Tryz.prog 30 3:=⟨Tryz.isAgg30,Tryz.sizeOf30⟩
theorem WV:ER Tryz.prog 35:=⟨Tryz.isAgg35⟩
theorem MR:ER Tryz.prog 36:=⟨Tryz.isAgg36⟩
theorem YU:C1 Tryz.prog 38 3:=⟨Tryz.isAgg38,Tryz.sizeOf38⟩
theorem F1:ER Tryz.prog 40:=⟨Tryz.isAgg40⟩
theorem CT:C1 Tryz.prog 42 2:=⟨Tryz.isAgg42,Tryz.sizeOf42⟩
theorem Q0:C1 Tryz.prog 44 2:=⟨Tryz.isAgg44,Tryz.sizeOf44⟩
theorem GJ:C1 Tryz.prog 46 3:=⟨Tryz.isAgg46,Tryz.sizeOf46⟩
theorem Fi:C1 Tryz.prog 48 5:=⟨Tryz.isAgg48,Tryz.sizeOf48⟩
theorem Rf:C1 Tryz.prog 51 10:=⟨Tryz.isAgg51,Tryz.sizeOf51⟩
theorem GL:C1 Tryz.prog 53 3:=⟨Tryz.isAgg53,Tryz.sizeOf53⟩
theorem GP:C1 Tryz.prog 55 3:=⟨Tryz.isAgg55,Tryz.sizeOf55⟩
theorem Xe:ER Tryz.prog 70:=⟨Tryz.isAgg70⟩
theorem J2:ER Tryz.prog 71:=⟨Tryz.isAgg71⟩
theorem Tc:C1 Tryz.prog 73 2:=⟨Tryz.isAgg73,Tryz.sizeOf73⟩
theorem Jn:C1 Tryz.prog 75 3:=⟨Tryz.isAgg75,Tryz.sizeOf75⟩
theorem ZB:C1 Tryz.prog 83 6:=⟨Tryz.isAgg83,Tryz.sizeOf83⟩
theorem Th:C1 Tryz.prog 91 4:=⟨Tryz.isAgg91,Tryz.sizeOf91⟩
theorem W9:ER Tryz.prog 97:=⟨Tryz.isAgg97⟩
theorem QB:C1 Tryz.prog 99 2:=⟨Tryz.isAgg99,Tryz.sizeOf99⟩
theorem Vf:C1 Tryz.prog 101 4:=⟨Tryz.isAgg101,Tryz.sizeOf101⟩
theorem Sw:C1 Tryz.prog 132 3:=⟨Tryz.isAgg132,Tryz.sizeOf132⟩
theorem EH:C1 Tryz.prog 190 2:=⟨Tryz.isAgg190,Tryz.sizeOf190⟩
theorem KL:C1 Tryz.prog 231 2:=⟨Tryz.isAgg231,Tryz.sizeOf231⟩
theorem HZ:DE Tryz.prog 30 ([(Value.slice none 0 0),(Value.slice none 0 0),(Value.slice none 0 0)]):=⟨_,Tryz.zeroValue30,rfl⟩
theorem Xw:DE Tryz.prog 38 ([(Value.slice none 0 0),(Value.slice none 0 0),(Value.slice none 0 0)]):=⟨_,Tryz.zeroValue38,rfl⟩
theorem F3:DE Tryz.prog 42 (Aa 0):=⟨_,Tryz.zeroValue42,rfl⟩
theorem Xr:DE Tryz.prog 44 (Aa 0):=⟨_,Tryz.zeroValue44,rfl⟩
theorem QR:DE Tryz.prog 46 (BQ 0):=⟨_,Tryz.zeroValue46,rfl⟩
theorem LP:DE Tryz.prog 48 (Ap (0:Rat)):=⟨_,Tryz.zeroValue48,rfl⟩
theorem X4:DE Tryz.prog 51 (BE (⟨0,0⟩:Pt)):=⟨_,Tryz.zeroValue51,rfl⟩
theorem R_:DE Tryz.prog 53 ([(vI 0),(vI 0),(vI 0)]):=⟨_,Tryz.zeroValue53,rfl⟩
theorem W4:DE Tryz.prog 55 ([(vI 0),(vI 0),(vI 0)]):=⟨_,Tryz.zeroValue55,rfl⟩
theorem WY:DE Tryz.prog 73 ([(Value.bool false),(Value.slice none 0 0)]):=⟨_,Tryz.zeroValue73,rfl⟩
theorem QG:DE Tryz.prog 75 ([(Value.bool false),(Value.slice none 0 0),(Value.slice none 0 0)]):=⟨_,Tryz.zeroValue75,rfl⟩
theorem ZA:DE Tryz.prog 83 ([(Value.bool false),(Value.slice none 0 0),(Value.slice none 0 0),(Value.bool false),(Value.slice none 0 0),(Value.slice none 0 0)]):=⟨_,Tryz.zeroValue83,rfl⟩
theorem Sr:DE Tryz.prog 91 ([(vI 0),(vI 0),(vI 0),(vI 0)]):=⟨_,Tryz.zeroValue91,rfl⟩
theorem XZ:DE Tryz.prog 132 ([(vI 0),(vI 0),(vI 0)]):=⟨_,Tryz.zeroValue132,rfl⟩
theorem H4:DE Tryz.prog 190 ([(vI 0),(vI 0)]):=⟨_,Tryz.zeroValue190,rfl⟩
theorem S1:DE Tryz.prog 231 ([(vI 0),(vI 0)]):=⟨_,Tryz.zeroValue231,rfl⟩
theorem XS:DE Tryz.prog 327 ([(Value.int .u8 (0:Int)),(Value.int .u8 (0:Int)),(Value.int .u8 (0:Int)),(Value.int .u8 (0:Int)),(Value.int .u8 (0:Int)),(Value.int .u8 (0:Int)),(Value.int .u8 (0:Int)),(Value.int .u8 (0:Int)),(Value.int .u8 (0:Int)),(Value.int .u8 (0:Int)),(Value.int .u8 (0:Int)),(Value.int .u8 (0:Int)),(Value.int .u8 (0:Int)),(Value.int .u8 (0:Int)),(Value.int .u8 (0:Int)),(Value.int .u8 (0:Int)),(Value.int .u8 (0:Int)),(Value.int .u8 (0:Int)),(Value.int .u8 (0:Int)),(Value.int .u8 (0:Int)),(Value.int .u8 (0:Int)),(Value.int .u8 (0:Int)),(Value.int .u8 (0:Int)),(Value.int .u8 (0:Int))]):=⟨_,Tryz.zeroValue327,rfl⟩
end
end Go.Proofs.YtpgncndhhhllfaaGreatDoor
