import Derived.Test.YtfbomiejpbchdaaGreatPart02
namespace Go.Proofs.YtfbomiejpbchdaaGreat
open Go Go.RowKit Go.Proofs.Tryz
set_option linter.unusedVariables false
set_option linter.unusedSimpArgs false
section
def R1 (f:Nat) (v:Nat):List Nat :=
  match f with
  | 0=>[]
  | f+1=>if v=0 then [] else v%4294967296::R1 f (v/4294967296)
def AP (v:Nat):List Nat:=R1 v v
def Sm (x:Nat):List UInt8:=[(x%256).toUInt8,(x/256%256).toUInt8,(x/65536%256).toUInt8,(x/16777216%256).toUInt8]
def small (v:Nat):Bool:=decide (v<18446744073709551616)
def CK (v:Nat):Nat:=if small v then v else 0
def Bp (v:Nat):ByteArray:=if small v then ByteArray.empty else ⟨((AP v).flatMap Sm).toArray⟩
def Ab (v:Nat):List Value:=[.int .u64 (CK v:Nat),.string (Bp v)]
def BH (z:Int):List Value:=[.int .u64 (CK z.natAbs:Nat),.string (Bp z.natAbs),.bool (decide (z<0))]
def AJ (q:Rat):List Value:=[.int .u64 (CK q.num.natAbs:Nat),.string (Bp q.num.natAbs),.bool (decide (q.num<0)),.int .u64 (CK (q.den-1):Nat),.string (Bp (q.den-1))]
@[ext] structure Pt where
  x:Rat
  y:Rat
def Am (p:Pt):List Value:=AJ p.x++AJ p.y
theorem BL {z:Int} (h:-9223372036854775808<=z) (h':z<9223372036854775808):IntKind.i64.wrap z=z:=by
  simp only [IntKind.wrap,IntKind.bits,IntKind.signed];simp;split<;>omega
theorem Dy {z:Int} (h:0<=z) (h':z<18446744073709551616):IntKind.u64.wrap z=z:=by
  simp only [IntKind.wrap,IntKind.bits,IntKind.signed];simp;omega
theorem Gk {z:Int} (h:0<=z) (h':z<4294967296):IntKind.u32.wrap z=z:=by
  simp only [IntKind.wrap,IntKind.bits,IntKind.signed];simp;omega
theorem NE {z:Int} (h:0<=z) (h':z<256):IntKind.u8.wrap z=z:=by
  simp only [IntKind.wrap,IntKind.bits,IntKind.signed];simp;omega
theorem AX {a b:Nat} (h:a+b<9223372036854775808):IntKind.i64.wrap ((a:Int)+(b:Int))=((a+b:Nat):Int):=by rw [BL Z Z];omega
theorem Co {a b:Nat} (h:b<=a) (h':a<9223372036854775808):IntKind.i64.wrap ((a:Int)-(b:Int))=((a-b:Nat):Int):=by rw [BL Z Z];omega
theorem DC {a b:Nat} (h:a*b<9223372036854775808):IntKind.i64.wrap ((a:Int)*(b:Int))=((a*b:Nat):Int):=by
  rw [<-Int.natCast_mul,BL Z Z]
theorem Dh {a b:Nat} (h:a+b<18446744073709551616):IntKind.u64.wrap ((a:Int)+(b:Int))=((a+b:Nat):Int):=by rw [Dy Z Z];omega
theorem ID {a b:Nat} (h:b<=a) (h':a<18446744073709551616):IntKind.u64.wrap ((a:Int)-(b:Int))=((a-b:Nat):Int):=by rw [Dy Z Z];omega
theorem E1 {a b:Nat} (h:a*b<18446744073709551616):IntKind.u64.wrap ((a:Int)*(b:Int))=((a*b:Nat):Int):=by
  rw [<-Int.natCast_mul,Dy Z Z]
theorem CZ {a:Nat} (h:a<9223372036854775808):IntKind.i64.wrap (a:Int)=(a:Int):=BL Z Z
theorem BW {a:Nat} (h:a<18446744073709551616):IntKind.u64.wrap (a:Int)=(a:Int):=Dy Z Z
theorem Ca {a:Nat} (h:a<4294967296):IntKind.u32.wrap (a:Int)=(a:Int):=Gk Z Z
theorem St {a:Nat} (h:a<256):IntKind.u8.wrap (a:Int)=(a:Int):=NE Z Z
theorem ET {a:Nat}:IntKind.u32.wrap (a:Int)=((a%4294967296:Nat):Int):=by
  simp only [IntKind.wrap,IntKind.bits,IntKind.signed];simp
theorem Jg {a:Nat}:IntKind.u8.wrap (a:Int)=((a%256:Nat):Int):=by
  simp only [IntKind.wrap,IntKind.bits,IntKind.signed];simp
theorem C1 {a b:Nat}:decide ((a:Int)<(b:Int))=decide (a<b):=decide_eq_decide.2 Z
theorem Vn {a b:Nat}:decide ((a:Int)<=(b:Int))=decide (a<=b):=decide_eq_decide.2 Z
theorem Oa {a b:Nat}:decide ((a:Int)=(b:Int))=decide (a=b):=decide_eq_decide.2 Z
theorem Zk {a b:Nat}:decide ((a:Int)≠(b:Int))=decide (a≠b):=decide_eq_decide.2 Z
theorem ON {a b:Nat} (h:a<9223372036854775808):IntKind.i64.wrap ((a:Int).tdiv (b:Int))=((a/b:Nat):Int):=by
  have:a/b<=a:=Nat.div_le_self _ _
  rw [<-Int.ofNat_tdiv]
  generalize a/b=q at *
  exact BL Z Z
theorem KP {a b:Nat} (h:a<18446744073709551616):IntKind.u64.wrap ((a:Int).tdiv (b:Int))=((a/b:Nat):Int):=by
  have:a/b<=a:=Nat.div_le_self _ _
  rw [<-Int.ofNat_tdiv]
  generalize a/b=q at *
  exact Dy Z Z
theorem Gd {a b:Nat}:((a:Int).tmod (b:Int))=((a%b:Nat):Int):=(Int.ofNat_tmod a b).symm
theorem F1 {a s:Nat}:(a:Int)/2^s=((a/2^s:Nat):Int):=by simp
theorem EM:prog.follows .mixedOrders=true:=by kernel_rfl
theorem C2.nil {F:List (Nat×Value)}:C2 [] F:=trivial
theorem C2.cons {k:Nat} {v:Value} {r F:List (Nat×Value)} (h:F.lookup k=some v) (t:C2 r F):C2 ((k,v)::r) F:=⟨h,t⟩
theorem L0.nil {P:Program} {n:Nat} {l:List Oper} {specs:List Sp} {F:List (Nat×Value)} {w0:BM} {Lro L:List As} {os:List Oper}:L0 P n l specs F w0 Lro L os []:=by
  cases os<;>trivial
theorem L0.cons {P:Program} {n:Nat} {l:List Oper} {specs:List Sp} {F:List (Nat×Value)} {w0:BM} {Lro L:List As} {o:Oper} {os:List Oper} {s:Sp} {ss:List Sp} (h:Vc P n l specs F w0 Lro L o s) (t:L0 P n l specs F w0 Lro L os ss) :
    L0 P n l specs F w0 Lro L (o::os) (s::ss):=⟨h,t⟩
theorem AE.store' {P:Program} {ops:Array Oper} {rest:List Oper} {Q:Exit->Act->World->Prop} {n:Nat} {F:List (Nat×Value)} {w0:BM} {L L':List As} {v:Value} {x y:Operand} {d:Option Tmp} {t:TypeId} {p:String} {af:Array Edge} {g:Option (Nat×Bool)}
    {i b off:Nat} {ty T:TypeId} {cs vs cs':List Value} (hw:Wt ops n F ⟨d,.store ty x y,t,p,af,g⟩) (ho:d=none) (hx:evF F x=some (.pointer (some ⟨b,off,none⟩))) (hy:evF F y=some v) (hi:L[i]?=some (Ag b T cs))
    (hv:v.cells=vs.toArray) (hs:∀w,(sizeOf ty).run P w=.ok vs.length w) (h1:(vs.all λu=>u.oneCell')=true) (hl:Nat.ble (off+vs.length) cs.length=true)
    (hc:GF cs off vs=cs') (hL:L.set i (Ag b T cs')=L') (next:AE P ops rest Q n F w0 L'):AE P ops (⟨d,.store ty x y,t,p,af,g⟩::rest) Q n F w0 L:=by
  subst hc;subst hL
  exact AE.store hw (N6 hx hy hi hv hs h1 hl) ho hi next
theorem AE.callB {P:Program} {ops:Array Oper} {rest:List Oper} {Q:Exit->Act->World->Prop} {n:Nat} {F:List (Nat×Value)} {w0:BM} {L:List As} {o:Oper} {d:Nat} {f:FuncId} {args:Array Value} {V:Nat->Value} {T:TypeId} {cs:List Value} (hw:Wt ops n F o)
    (he:∀a w,Frm n a F->Own w0 w L->(execOp a.eval o).run P w=.ok (.enter f args) w)
    (hc:∀w,Own w0 w L->Calls P f args w λe w'=>∃b,e=.returned (V b)/\FE w.heap.size w w'/\w.heap.size<=b/\w'.heap[b]?=some (.cells cs.toArray T (0,0)))
    (ho:o.dst=some d) (hd:d<n) (next:∀b,AE P ops rest Q n ((d,V b)::F) w0 (Ag b T cs::L)):AE P ops (o::rest) Q n F w0 L:=λa w ha hW=>by
  unfold wpList
  rw [if_pos (hw a ha)]
  left
  unfold Oper.wp
  rw [he a w ha hW,Oper.upon_enter]
  refine (hc w hW).mono ?_
  rintro e w' ⟨b,rfl,hb,hlt,hcell⟩
  rw [ho]
  exact next b _ _ (ha.put hd) (hW.add O hb hlt ⟨_,hcell,rfl⟩)
theorem AE.callM {P:Program} {ops:Array Oper} {rest:List Oper} {Q:Exit->Act->World->Prop} {n:Nat} {F:List (Nat×Value)} {w0:BM} {L L':List As} {o:Oper} {f:FuncId} {args:Array Value} {v:Value} {i b:Nat} {T:TypeId} {cs cs':List Value} (hw:Wt ops n F o)
    (he:∀a w,Frm n a F->Own w0 w L->(execOp a.eval o).run P w=.ok (.enter f args) w) (hi:L[i]?=some (Ag b T cs))
    (hc:∀w,Own w0 w L->Calls P f args w λe w'=>e=.returned v/\Lb w w' (some b)/\w'.heap[b]?=some (.cells cs'.toArray T (0,0)))
    (hd:∀d,o.dst=some d->d<n) (hL:L.set i (Ag b T cs')=L') (next:AE P ops rest Q n (match o.dst with|some d=>(d,v)::F|none=>F) w0 L'):AE P ops (o::rest) Q n F w0 L:=λa w ha hW=>by
  subst hL
  unfold wpList
  rw [if_pos (hw a ha)]
  left
  unfold Oper.wp
  rw [he a w ha hW,Oper.upon_enter]
  refine (hc w hW).mono ?_
  rintro e w' ⟨rfl,hg,hcell⟩
  have hW':=hW.turn hi rfl rfl hg ⟨_,hcell,rfl⟩ (y:=Ag b T cs')
  cases hdst:o.dst with
  | none=>rw [hdst] at next;exact next _ _ ha.put_none hW'
  | some d=>rw [hdst] at next;exact next _ _ (ha.put (hd d hdst)) hW'
abbrev pP (b o:Nat):Value:=.pointer (some ⟨b,o,none⟩)
abbrev aG (l:List Value):Value:=.agg l.toArray
abbrev vI (z:Int):Value:=.int .i64 z
abbrev vN (n:Nat):Value:=.int .i64 (n:Int)
abbrev vK (k:IntKind) (n:Nat):Value:=.int k (n:Int)
theorem Ac {a b:Nat} (h:Nat.ble a b=true):a<=b:=Nat.le_of_ble_eq_true h
theorem sN {F:List (Nat×Value)}:C2 [] F:=trivial
theorem sS {k:Nat} {v:Value} {r F:List (Nat×Value)} (h:F.lookup k=some v) (t:C2 r F):C2 ((k,v)::r) F:=⟨h,t⟩
def Zy (F:List (Nat×Value)):List (Nat×Value)->List (Option Value)
  | []=>[]
  | p::r=>F.lookup p.1::Zy F r
def Ym:List (Nat×Value)->List (Option Value)
  | []=>[]
  | p::r=>some p.2::Ym r
theorem sF:∀{F' F:List (Nat×Value)},Zy F F'=Ym F'->C2 F' F
  | [],_,_=>trivial
  | _::_,_,h=>by
    simp only [Zy,Ym,List.cons.injEq] at h
    exact ⟨h.1,sF h.2⟩
section
variable {P:Program} {ops:Array Oper} {rest:List Oper} {Q:Exit->Act->World->Prop} {n d:Nat} {F F':List (Nat×Value)} {w0:BM} {L Lro:List As} {op:Op} {t:TypeId} {p:String} {af:Array Edge} {v:Value} {l:List Oper} {specs:List Sp}
theorem AF.subF {c:Code} (hs:C2 F' F) (h:AF P c Q n F' w0 L):AF P c Q n F w0 L:=AF.sub hs (List.Sublist.refl _) h
theorem AD.subF {e:Exit} (hs:C2 F' F) (h:AD Q e n F' w0 L):AD Q e n F w0 L:=AD.sub hs (List.Sublist.refl _) h
theorem st (he:Ex P n F w0 L ⟨some d,op,t,p,af,none⟩ v) (hd:d<n) (next:AE P ops rest Q n ((d,v)::F) w0 L):AE P ops (⟨some d,op,t,p,af,none⟩::rest) Q n F w0 L:=AE.step (AK rfl) he rfl hd next
theorem q1 {x y:Code} (h:AF P x (Exit.then (y.wp P Q) Q) n F w0 L):AD (Exit.then ((Code.seq x y).wp P Q) Q) .normal n F w0 L:=AD.then_ (AF.seq h)
theorem q2 {id:Nat} {y:Code} (h:AE P l.toArray l (Exit.then (y.wp P Q) Q) n F w0 L):AD (Exit.then ((Code.seq (.region id l.toArray false) y).wp P Q) Q) .normal n F w0 L:=q1 (AF.region h)
theorem q3 {id:Nat} {y:Code} (hs:C2 F' F) (h:AE P l.toArray l (Exit.then (y.wp P Q) Q) n F' w0 L):AE P ops [] (Exit.then ((Code.seq (.region id l.toArray false) y).wp P Q) Q) n F w0 L:=AE.nil (AD.subF hs (q2 h))
theorem q4 {id:Nat} {y:Code} (h:AE P l.toArray l (Exit.then (y.wp P Q) Q) n F w0 L):AF P (Code.seq (.region id l.toArray false) y) Q n F w0 L:=AF.seq (AF.region h)
theorem q6 {x y:Code} (hs:C2 F' F) (h:AF P x (Exit.then (y.wp P Q) Q) n F' w0 L):AE P ops [] (Exit.then ((Code.seq x y).wp P Q) Q) n F w0 L:=AE.nil (AD.subF hs (q1 h))
theorem A_ {x:Operand} {f:FuncId} {xs:List Operand} {args:List Value} {ts:Array TypeId} {dd:Option Tmp} {g:Option (Nat×Bool)} (hf:evF F x=some (.func (.func f) #[] #[])) (hargs:xs.map (evF F)=args.map some)
    (hc:∀args w,(callFunc f args).run P w=.ok (.enter f args) w) :
    ∀a w,Frm n a F->Own w0 w L->(execOp a.eval ⟨dd,.call { callee:=.value x,args:=xs.toArray,argTypes:=ts },t,p,af,g⟩).run P w=.ok (.enter f args.toArray) w :=
  Cg (caps:=[]) hf hargs (List.append_nil _) hc
end
end
section
structure DZ (P:Program) (t:TypeId) (k:Nat):Prop where
  a:∀w,(isAgg t).run P w=.ok true w
  s:∀w,(sizeOf t).run P w=.ok k w
structure FX (P:Program) (t:TypeId):Prop where
  a:∀w,(isAgg t).run P w=.ok false w
def Cv (P:Program) (t:TypeId) (cs:List Value):Prop:=∃u:Value,(∀w,(zeroValue t).run P w=.ok u w)/\u.cells=cs.toArray
section
variable {P:Program} {ops:Array Oper} {rest:List Oper} {Q:Exit->Act->World->Prop} {n d i b off k:Nat} {F F':List (Nat×Value)} {w0:BM} {L Lro:List As} {op:Op} {t ty T:TypeId} {p:String} {af:Array Edge} {u v:Value} {x y:Operand} {l:List Oper} {specs:List Sp} {cs vs:List Value}
theorem CI {a b:Nat} (h:Nat.ble (a+1) b=true):a<b:=Nat.le_of_ble_eq_true h
theorem mv (hx:evF F x=some v) (hd:Nat.ble (d+1) n=true) (next:AE P ops rest Q n ((d,v)::F) w0 L):AE P ops (⟨some d,.move x,t,p,af,none⟩::rest) Q n F w0 L:=AE.step (AK rfl) (BK hx) rfl (CI hd) next
theorem aL (hx:evF F x=some v) (hd:Nat.ble (d+1) n=true) (next:AE P ops rest Q n ((d,v)::F) w0 L):AE P ops (⟨some d,.assign x,t,p,af,none⟩::rest) Q n F w0 L:=AE.step (AK rfl) (Le hx) rfl (CI hd) next
theorem Ky {cs:List Value} {k:Nat} (h:cs.length=k):(cs.drop 0).take k=cs:=by rw [List.drop_zero,List.take_of_length_le Z]
theorem aU (i:Nat) (ht:DZ P ty k) (hx:evF F x=some (pP b 0)) (hi:L[i]?=some (Ag b T cs)) (hl:cs.length=k) (hd:Nat.ble (d+1) n=true) (next:AE P ops rest Q n ((d,aG cs)::F) w0 L) :
    AE P ops (⟨some d,.load ty x,t,p,af,none⟩::rest) Q n F w0 L:=AE.step (AK rfl) (A7 hx hi ht.a ht.s (Ky hl) hl) rfl (CI hd) next
theorem aX (i:Nat) (vs:List Value) (ht:DZ P ty k) (hx:evF F x=some (pP b off)) (hi:L[i]?=some (Ag b T cs)) (hv:(cs.drop off).take k=vs) (hl:vs.length=k) (hd:Nat.ble (d+1) n=true) (next:AE P ops rest Q n ((d,aG vs)::F) w0 L) :
    AE P ops (⟨some d,.load ty x,t,p,af,none⟩::rest) Q n F w0 L:=AE.step (AK rfl) (A7 hx hi ht.a ht.s hv hl) rfl (CI hd) next
theorem aZ (i:Nat) (v:Value) (ht:FX P ty) (hx:evF F x=some (pP b off)) (hi:L[i]?=some (Ag b T cs)) (hv:cs[off]?=some v) (hd:Nat.ble (d+1) n=true) (next:AE P ops rest Q n ((d,v)::F) w0 L) :
    AE P ops (⟨some d,.load ty x,t,p,af,none⟩::rest) Q n F w0 L:=AE.step (AK rfl) (AI hx hi ht.a hv) rfl (CI hd) next
theorem bx (hx:evF F x=some v) (hv:v.cells=cs.toArray) (hd:Nat.ble (d+1) n=true) (next:∀b,AE P ops rest Q n ((d,pP b 0)::F) w0 (Ag b T cs::L)):AE P ops (⟨some d,.box T x,t,p,af,none⟩::rest) Q n F w0 L :=
  AE.open_ (AK rfl) (XX hx hv) rfl (CI hd) next
theorem al (hz:Cv P T cs) (hd:Nat.ble (d+1) n=true) (next:∀b,AE P ops rest Q n ((d,pP b 0)::F) w0 (Ag b T cs::L)):AE P ops (⟨some d,.alloc T,t,p,af,none⟩::rest) Q n F w0 L :=
  have ⟨_,h1,h2⟩:=hz
  AE.open_ (AK rfl) (OG h1 h2) rfl (CI hd) next
theorem cl {f:FuncId} {xs:List Operand} {args:List Value} {ts:Array TypeId} (hc:∀args w,(callFunc f args).run P w=.ok (.enter f args) w) (h:∀w,Own w0 w L->Calls P f args.toArray w (Aq w v))
    (hf:evF F x=some (.func (.func f) #[] #[])) (hargs:xs.map (evF F)=args.map some) (hd:Nat.ble (d+1) n=true) (next:AE P ops rest Q n ((d,v)::F) w0 L) :
    AE P ops (⟨some d,.call { callee:=.value x,args:=xs.toArray,argTypes:=ts },t,p,af,none⟩::rest) Q n F w0 L:=AE.call (AK rfl) (A_ hf hargs hc) h rfl (CI hd) next
theorem WB {cs vs:List Value} (h:vs.length=cs.length):GF cs 0 vs=vs:=by simp [GF,h]
theorem NW {L':List As} (hx:evF F x=some (pP b 0)) (hy:evF F y=some v) (hi:L[i]?=some (Ag b T cs)) (hv:v.cells=vs.toArray) (hs:∀w,(sizeOf ty).run P w=.ok vs.length w) (h1:(vs.all λu=>u.oneCell')=true) (hl:vs.length=cs.length)
    (hL:L.set i (Ag b T vs)=L') (next:AE P ops rest Q n F w0 L'):AE P ops (⟨none,.store ty x y,t,p,af,none⟩::rest) Q n F w0 L:=AE.store' (AK rfl) rfl hx hy hi hv hs h1 (Nat.ble_eq_true_of_le Z) (WB hl) hL next
variable {A0 A1 A2 A3 A4 A5:As}
theorem Zz (hx:evF F x=some (pP b 0)) (hy:evF F y=some v) (hv:v.cells=vs.toArray) (hs:∀w,(sizeOf ty).run P w=.ok vs.length w) (h1:(vs.all λu=>u.oneCell')=true) (hl:vs.length=cs.length)
    (next:AE P ops rest Q n F w0 (Ag b T vs::L)):AE P ops (⟨none,.store ty x y,t,p,af,none⟩::rest) Q n F w0 (Ag b T cs::L):=NW (i:=0) hx hy rfl hv hs h1 hl rfl next
theorem Z_ (hx:evF F x=some (pP b 0)) (hy:evF F y=some v) (hv:v.cells=vs.toArray) (hs:∀w,(sizeOf ty).run P w=.ok vs.length w) (h1:(vs.all λu=>u.oneCell')=true) (hl:vs.length=cs.length)
    (next:AE P ops rest Q n F w0 (A0::Ag b T vs::L)):AE P ops (⟨none,.store ty x y,t,p,af,none⟩::rest) Q n F w0 (A0::Ag b T cs::L):=NW (i:=1) hx hy rfl hv hs h1 hl rfl next
theorem Z1 (hx:evF F x=some (pP b 0)) (hy:evF F y=some v) (hv:v.cells=vs.toArray) (hs:∀w,(sizeOf ty).run P w=.ok vs.length w) (h1:(vs.all λu=>u.oneCell')=true) (hl:vs.length=cs.length)
    (next:AE P ops rest Q n F w0 (A0::A1::Ag b T vs::L)):AE P ops (⟨none,.store ty x y,t,p,af,none⟩::rest) Q n F w0 (A0::A1::Ag b T cs::L):=NW (i:=2) hx hy rfl hv hs h1 hl rfl next
theorem Z0 (hx:evF F x=some (pP b 0)) (hy:evF F y=some v) (hv:v.cells=vs.toArray) (hs:∀w,(sizeOf ty).run P w=.ok vs.length w) (h1:(vs.all λu=>u.oneCell')=true) (hl:vs.length=cs.length)
    (next:AE P ops rest Q n F w0 (A0::A1::A2::Ag b T vs::L)):AE P ops (⟨none,.store ty x y,t,p,af,none⟩::rest) Q n F w0 (A0::A1::A2::Ag b T cs::L):=NW (i:=3) hx hy rfl hv hs h1 hl rfl next
theorem sr {L:List As}:L.Sublist L:=List.Sublist.refl _
theorem sl {a:As} {l1 l2:List As} (h:l1.Sublist l2):l1.Sublist (a::l2):=List.Sublist.cons _ h
theorem sk {a:As} {l1 l2:List As} (h:l1.Sublist l2):(a::l1).Sublist (a::l2):=List.Sublist.cons_cons _ h
end
section
variable {P:Program} {ops:Array Oper} {rest:List Oper} {Q:Exit->Act->World->Prop} {n:Nat} {F F':List (Nat×Value)} {w0:BM} {L Lro:List As} {specs:List Sp} {β:Nat->Value} {A0 A1 A2 A3:As}
end
def SG (F:List (Nat×Value)):List Nat->Option (List (Nat×Value))
  | []=>some []
  | k::ks=>match F.lookup k with
    | some v=>match SG F ks with
      | some r=>some ((k,v)::r)
      | none=>none
    | none=>none
theorem sL:∀(ks:List Nat) {F F':List (Nat×Value)},SG F ks=some F'->C2 F' F
  | [],_,_,h=>by injection h with h;subst h;trivial
  | k::ks,F,F',h=>by
    unfold SG at h
    split at h
    · rename_i v hv
      split at h
      · rename_i r hr
        injection h with h;subst h
        exact ⟨hv,sL ks hr⟩
      · cases h
    · cases h
def OS:List As->Nat->As->Option (List As)
  | [],_,_=>none
  | _::r,0,y=>some (y::r)
  | x::r,i+1,y=>match OS r i y with
    | some r'=>some (x::r')
    | none=>none
theorem G2:∀{L:List As} {i:Nat} {y:As} {L':List As},OS L i y=some L'->L.set i y=L'
  | [],_,_,_,h=>by cases h
  | _::r,0,y,_,h=>by injection h
  | x::r,i+1,y,L',h=>by
    unfold OS at h
    split at h
    · rename_i r' hr
      injection h with h;subst h
      rw [List.set_cons_succ,G2 hr]
    · cases h
section
variable {α β γ δ ε:Type} {a a':α} {b b':β} {c c':γ} {d d':δ} {e e':ε}
theorem Cz (h:(a,b)=(a',b')):a=a':=congrArg Prod.fst h
theorem Bb (h:(a,b)=(a',b')):b=b':=congrArg Prod.snd h
end
section
variable {P:Program} {ops:Array Oper} {rest:List Oper} {Q:Exit->Act->World->Prop} {n d i b off k:Nat} {F F':List (Nat×Value)} {w0:BM} {L L' Lro:List As} {op:Op} {t ty T:TypeId} {p:String} {af:Array Edge} {u v:Value} {x y:Operand} {l:List Oper} {specs:List Sp} {cs vs:List Value} {o:Oper} {j:Nat} {g:Option (Nat×Bool)}
theorem AB {t:Nat} {b:Bool} (h:(o.guard,(ops[j]?).bind (·.dst),F.lookup t)=(some (j,b),some t,some (.bool b))):Wt ops n F o:=W0 (Cz h) (Cz (Bb h)) (Bb (Bb h))
theorem AN {t:Nat} {b:Bool} (h:(o.guard,(ops[j]?).bind (·.dst),F.lookup t)=(some (j,b),some t,some (.bool (!b)))):∀a,Frm n a F->Region.wanted o (yielded ops a.tmps)=false:=X7 (Cz h) (Cz (Bb h)) (Bb (Bb h))
theorem AH (he:Ex P n F w0 L ⟨some d,op,t,p,af,none⟩ v) (hd:Nat.ble (d+1) n=true) (next:AE P ops rest Q n ((d,v)::F) w0 L):AE P ops (⟨some d,op,t,p,af,none⟩::rest) Q n F w0 L:=st he (CI hd) next
theorem AS (h:(evF F x,Nat.ble (d+1) n)=(some v,true)) (next:AE P ops rest Q n ((d,v)::F) w0 L):AE P ops (⟨some d,.move x,t,p,af,none⟩::rest) Q n F w0 L:=mv (Cz h) (Bb h) next
theorem AL (h:(evF F x,Nat.ble (d+1) n)=(some v,true)) (next:AE P ops rest Q n ((d,v)::F) w0 L):AE P ops (⟨some d,.assign x,t,p,af,none⟩::rest) Q n F w0 L:=aL (Cz h) (Bb h) next
theorem BA (i:Nat) (ht:DZ P ty k) (h:(evF F x,L[i]?,cs.length,Nat.ble (d+1) n)=(some (pP b 0),some (Ag b T cs),k,true)) (next:AE P ops rest Q n ((d,aG cs)::F) w0 L) :
    AE P ops (⟨some d,.load ty x,t,p,af,none⟩::rest) Q n F w0 L:=aU i ht (Cz h) (Cz (Bb h)) (Cz (Bb (Bb h))) (Bb (Bb (Bb h))) next
theorem EP (i:Nat) (vs:List Value) (ht:DZ P ty k) (h:(evF F x,L[i]?,(cs.drop off).take k,vs.length,Nat.ble (d+1) n)=(some (pP b off),some (Ag b T cs),vs,k,true)) (next:AE P ops rest Q n ((d,aG vs)::F) w0 L) :
    AE P ops (⟨some d,.load ty x,t,p,af,none⟩::rest) Q n F w0 L:=aX i vs ht (Cz h) (Cz (Bb h)) (Cz (Bb (Bb h))) (Cz (Bb (Bb (Bb h)))) (Bb (Bb (Bb (Bb h)))) next
theorem BJ (i:Nat) (v:Value) (ht:FX P ty) (h:(evF F x,L[i]?,cs[off]?,Nat.ble (d+1) n)=(some (pP b off),some (Ag b T cs),some v,true)) (next:AE P ops rest Q n ((d,v)::F) w0 L) :
    AE P ops (⟨some d,.load ty x,t,p,af,none⟩::rest) Q n F w0 L:=aZ i v ht (Cz h) (Cz (Bb h)) (Cz (Bb (Bb h))) (Bb (Bb (Bb h))) next
theorem Bg (h:(evF F x,v.cells,Nat.ble (d+1) n)=(some v,cs.toArray,true)) (next:∀b,AE P ops rest Q n ((d,pP b 0)::F) w0 (Ag b T cs::L)):AE P ops (⟨some d,.box T x,t,p,af,none⟩::rest) Q n F w0 L :=
  bx (Cz h) (Cz (Bb h)) (Bb (Bb h)) next
theorem Ee {f:FuncId} {xs:List Operand} {args:List Value} {ts:Array TypeId} (hc:∀args w,(callFunc f args).run P w=.ok (.enter f args) w) (h:∀w,Own w0 w L->Calls P f args.toArray w (Aq w v))
    (h2:(evF F x,xs.map (evF F),Nat.ble (d+1) n)=(some (.func (.func f) #[] #[]),args.map some,true)) (next:AE P ops rest Q n ((d,v)::F) w0 L) :
    AE P ops (⟨some d,.call { callee:=.value x,args:=xs.toArray,argTypes:=ts },t,p,af,none⟩::rest) Q n F w0 L:=cl hc h (Cz h2) (Cz (Bb h2)) (Bb (Bb h2)) next
theorem BR {f:FuncId} {xs:List Operand} {args:List Value} {ts:Array TypeId} (hc:∀args w,(callFunc f args).run P w=.ok (.enter f args) w) (h:∀w,Calls P f args.toArray w (Aq w v))
    (h2:(evF F x,xs.map (evF F),Nat.ble (d+1) n)=(some (.func (.func f) #[] #[]),args.map some,true)) (next:AE P ops rest Q n ((d,v)::F) w0 L) :
    AE P ops (⟨some d,.call { callee:=.value x,args:=xs.toArray,argTypes:=ts },t,p,af,none⟩::rest) Q n F w0 L:=Ee hc (λw _=>h w) h2 next
variable {A0 A1 A2 A3 A4 A5:As}
theorem Aw (h:(evF F x,evF F y,v.cells)=(some (pP b 0),some v,vs.toArray)) (hs:∀w,(sizeOf ty).run P w=.ok vs.length w) (h2:(vs.all λu=>u.oneCell',vs.length)=(true,cs.length))
    (next:AE P ops rest Q n F w0 (Ag b T vs::L)):AE P ops (⟨none,.store ty x y,t,p,af,none⟩::rest) Q n F w0 (Ag b T cs::L):=Zz (Cz h) (Cz (Bb h)) (Bb (Bb h)) hs (Cz h2) (Bb h2) next
theorem DP (h:(evF F x,evF F y,v.cells)=(some (pP b 0),some v,vs.toArray)) (hs:∀w,(sizeOf ty).run P w=.ok vs.length w) (h2:(vs.all λu=>u.oneCell',vs.length)=(true,cs.length))
    (next:AE P ops rest Q n F w0 (A0::Ag b T vs::L)):AE P ops (⟨none,.store ty x y,t,p,af,none⟩::rest) Q n F w0 (A0::Ag b T cs::L):=Z_ (Cz h) (Cz (Bb h)) (Bb (Bb h)) hs (Cz h2) (Bb h2) next
theorem QQ (h:(evF F x,evF F y,v.cells)=(some (pP b 0),some v,vs.toArray)) (hs:∀w,(sizeOf ty).run P w=.ok vs.length w) (h2:(vs.all λu=>u.oneCell',vs.length)=(true,cs.length))
    (next:AE P ops rest Q n F w0 (A0::A1::Ag b T vs::L)):AE P ops (⟨none,.store ty x y,t,p,af,none⟩::rest) Q n F w0 (A0::A1::Ag b T cs::L):=Z1 (Cz h) (Cz (Bb h)) (Bb (Bb h)) hs (Cz h2) (Bb h2) next
theorem IF (h:(evF F x,evF F y,v.cells)=(some (pP b 0),some v,vs.toArray)) (hs:∀w,(sizeOf ty).run P w=.ok vs.length w) (h2:(vs.all λu=>u.oneCell',vs.length)=(true,cs.length))
    (next:AE P ops rest Q n F w0 (A0::A1::A2::Ag b T vs::L)):AE P ops (⟨none,.store ty x y,t,p,af,none⟩::rest) Q n F w0 (A0::A1::A2::Ag b T cs::L):=Z0 (Cz h) (Cz (Bb h)) (Bb (Bb h)) hs (Cz h2) (Bb h2) next
theorem EW (i:Nat) {v:Value} {cs':List Value} (hw:Wt ops n F ⟨none,.store ty x y,t,p,af,g⟩) (h:(evF F x,evF F y,L[i]?,v.cells)=(some (pP b off),some v,some (Ag b T cs),vs.toArray))
    (hs:∀w,(sizeOf ty).run P w=.ok vs.length w) (h2:(vs.all λu=>u.oneCell',Nat.ble (off+vs.length) cs.length,GF cs off vs,OS L i (Ag b T cs'))=(true,true,cs',some L')) (next:AE P ops rest Q n F w0 L'):AE P ops (⟨none,.store ty x y,t,p,af,g⟩::rest) Q n F w0 L :=
  AE.store' hw rfl (Cz h) (Cz (Bb h)) (Cz (Bb (Bb h))) (Bb (Bb (Bb h))) hs (Cz h2) (Cz (Bb h2)) (Cz (Bb (Bb h2))) (G2 (Bb (Bb (Bb h2)))) next
end
end
end Go.Proofs.YtfbomiejpbchdaaGreat
