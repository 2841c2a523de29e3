import Derived.Test.YtcpkbjjmcleplaaGreatDoorPart03
namespace Go.Proofs.YtcpkbjjmcleplaaGreatDoor
open Go Go.RowKit Go.Proofs.Tryz
open Go.Value renaming slice→qz,bool→qa
set_option linter.unusedVariables false
set_option linter.unusedSimpArgs false
section
structure Dw (P:Program) (t:TypeId) (k:Nat):Prop where
  a:∀w,(isAgg t).run P w=.ok true w
  s:∀w,(sizeOf t).run P w=.ok k w
structure Fi (P:Program) (t:TypeId):Prop where
  a:∀w,(isAgg t).run P w=.ok false w
def D8 (P:Program) (t:TypeId) (cs:List Value):Prop:=∃u:Value,(∀w,(zeroValue t).run P w=.ok u w)/\u.cells=cs.toArray
section
variable {P:Program} {ops:Array Oper} {rest:List Oper} {Q:Exit->Act->World->Prop} {n d i b off k:Nat} {F F':List (Nat×Value)} {w0:Av} {L Lro:List As} {op:Op} {t ty T:TypeId} {p:String} {af:Array Edge} {u v:Value} {x y:Operand} {l:List Oper} {specs:List Sp} {cs vs:List Value}
theorem B6 {a b:Nat} (h:Nat.ble (a+1) b=true):a<b:=Nat.le_of_ble_eq_true h
theorem mv (hx:evF F x=some v) (hd:Nat.ble (d+1) n=true) (next:AO P ops rest Q n ((d,v)::F) w0 L):AO P ops (⟨some d,.move x,t,p,af,none⟩::rest) Q n F w0 L:=yS (AJ rfl) (A7 hx) rfl (B6 hd) next
theorem fz (hx:evF F x=some v) (hd:Nat.ble (d+1) n=true) (next:AO P ops rest Q n ((d,v)::F) w0 L):AO P ops (⟨some d,.assign x,t,p,af,none⟩::rest) Q n F w0 L:=yS (AJ rfl) (Mo hx) rfl (B6 hd) next
theorem Ll {cs:List Value} {k:Nat} (h:cs.length=k):(cs.drop 0).take k=cs:=by rw [List.drop_zero,List.take_of_length_le Z]
theorem f_ (i:Nat) (ht:Dw P ty k) (hx:evF F x=some (pP b 0)) (hi:L[i]?=some (AQ b T cs)) (hl:cs.length=k) (hd:Nat.ble (d+1) n=true) (next:AO P ops rest Q n ((d,aG cs)::F) w0 L) :
    AO P ops (⟨some d,.load ty x,t,p,af,none⟩::rest) Q n F w0 L:=yS (AJ rfl) (AW hx hi ht.a ht.s (Ll hl) hl) rfl (B6 hd) next
theorem f8 (i:Nat) (vs:List Value) (ht:Dw P ty k) (hx:evF F x=some (pP b off)) (hi:L[i]?=some (AQ b T cs)) (hv:(cs.drop off).take k=vs) (hl:vs.length=k) (hd:Nat.ble (d+1) n=true) (next:AO P ops rest Q n ((d,aG vs)::F) w0 L) :
    AO P ops (⟨some d,.load ty x,t,p,af,none⟩::rest) Q n F w0 L:=yS (AJ rfl) (AW hx hi ht.a ht.s hv hl) rfl (B6 hd) next
theorem f9 (i:Nat) (v:Value) (ht:Fi P ty) (hx:evF F x=some (pP b off)) (hi:L[i]?=some (AQ b T cs)) (hv:cs[off]?=some v) (hd:Nat.ble (d+1) n=true) (next:AO P ops rest Q n ((d,v)::F) w0 L) :
    AO P ops (⟨some d,.load ty x,t,p,af,none⟩::rest) Q n F w0 L:=yS (AJ rfl) (AP hx hi ht.a hv) rfl (B6 hd) next
theorem bx (hx:evF F x=some v) (hv:v.cells=cs.toArray) (hd:Nat.ble (d+1) n=true) (next:∀b,AO P ops rest Q n ((d,pP b 0)::F) w0 (AQ b T cs::L)):AO P ops (⟨some d,.box T x,t,p,af,none⟩::rest) Q n F w0 L :=
  y9 (AJ rfl) (aZ hx hv) rfl (B6 hd) next
theorem al (hz:D8 P T cs) (hd:Nat.ble (d+1) n=true) (next:∀b,AO P ops rest Q n ((d,pP b 0)::F) w0 (AQ b T cs::L)):AO P ops (⟨some d,.alloc T,t,p,af,none⟩::rest) Q n F w0 L :=
  have ⟨_,h1,h2⟩:=hz
  y9 (AJ rfl) (O6 h1 h2) rfl (B6 hd) next
theorem cl {f:FuncId} {xs:List Operand} {args:List Value} {ts:Array TypeId} (hc:∀args w,(callFunc f args).run P w=.ok (.enter f args) w) (h:∀w,A6 w0 w L->Calls P f args.toArray w (AY w v))
    (hf:evF F x=some (.func (.func f) #[] #[])) (hargs:xs.map (evF F)=args.map some) (hd:Nat.ble (d+1) n=true) (next:AO P ops rest Q n ((d,v)::F) w0 L) :
    AO P ops (⟨some d,.call { callee:=.value x,args:=xs.toArray,argTypes:=ts },t,p,af,none⟩::rest) Q n F w0 L:=zc (AJ rfl) (Ac hf hargs hc) h rfl (B6 hd) next
theorem YB {cs vs:List Value} (h:vs.length=cs.length):Ib cs 0 vs=vs:=by simp [Ib,h]
theorem N4 {L':List As} (hx:evF F x=some (pP b 0)) (hy:evF F y=some v) (hi:L[i]?=some (AQ b T cs)) (hv:v.cells=vs.toArray) (hs:∀w,(sizeOf ty).run P w=.ok vs.length w) (h1:(vs.all λu=>u.oneCell')=true) (hl:vs.length=cs.length)
    (hL:L.set i (AQ b T vs)=L') (next:AO P ops rest Q n F w0 L'):AO P ops (⟨none,.store ty x y,t,p,af,none⟩::rest) Q n F w0 L:=zo (AJ rfl) rfl hx hy hi hv hs h1 (Nat.ble_eq_true_of_le Z) (YB hl) hL next
variable {A0 A1 A2 A3 A4 A5:As}
theorem fB (hx:evF F x=some (pP b 0)) (hy:evF F y=some v) (hv:v.cells=vs.toArray) (hs:∀w,(sizeOf ty).run P w=.ok vs.length w) (h1:(vs.all λu=>u.oneCell')=true) (hl:vs.length=cs.length)
    (next:AO P ops rest Q n F w0 (AQ b T vs::L)):AO P ops (⟨none,.store ty x y,t,p,af,none⟩::rest) Q n F w0 (AQ b T cs::L):=N4 (i:=0) hx hy rfl hv hs h1 hl rfl next
theorem fC (hx:evF F x=some (pP b 0)) (hy:evF F y=some v) (hv:v.cells=vs.toArray) (hs:∀w,(sizeOf ty).run P w=.ok vs.length w) (h1:(vs.all λu=>u.oneCell')=true) (hl:vs.length=cs.length)
    (next:AO P ops rest Q n F w0 (A0::AQ b T vs::L)):AO P ops (⟨none,.store ty x y,t,p,af,none⟩::rest) Q n F w0 (A0::AQ b T cs::L):=N4 (i:=1) hx hy rfl hv hs h1 hl rfl next
theorem fD (hx:evF F x=some (pP b 0)) (hy:evF F y=some v) (hv:v.cells=vs.toArray) (hs:∀w,(sizeOf ty).run P w=.ok vs.length w) (h1:(vs.all λu=>u.oneCell')=true) (hl:vs.length=cs.length)
    (next:AO P ops rest Q n F w0 (A0::A1::AQ b T vs::L)):AO P ops (⟨none,.store ty x y,t,p,af,none⟩::rest) Q n F w0 (A0::A1::AQ b T cs::L):=N4 (i:=2) hx hy rfl hv hs h1 hl rfl next
theorem fE (hx:evF F x=some (pP b 0)) (hy:evF F y=some v) (hv:v.cells=vs.toArray) (hs:∀w,(sizeOf ty).run P w=.ok vs.length w) (h1:(vs.all λu=>u.oneCell')=true) (hl:vs.length=cs.length)
    (next:AO P ops rest Q n F w0 (A0::A1::A2::AQ b T vs::L)):AO P ops (⟨none,.store ty x y,t,p,af,none⟩::rest) Q n F w0 (A0::A1::A2::AQ b T cs::L):=N4 (i:=3) hx hy rfl hv hs h1 hl rfl next
theorem sr {L:List As}:L.Sublist L:=xP _
theorem sl {a:As} {l1 l2:List As} (h:l1.Sublist l2):l1.Sublist (a::l2):=List.Sublist.cons _ h
theorem sk {a:As} {l1 l2:List As} (h:l1.Sublist l2):(a::l1).Sublist (a::l2):=List.Sublist.cons_cons _ h
theorem bR {v:Value} {G:List (Nat×Value)} {dd:Option Tmp} (hG:∀β,bO (LO l specs β ⟨dd,op,t,p,af,none⟩++F) G=Zl G) (h:∀w0,Ex P n G w0 [] ⟨dd,op,t,p,af,none⟩ v):Vc P n l specs F w0 Lro L ⟨dd,op,t,p,af,none⟩ ⟨.pure,λ_=>v,[],cY,cd⟩ :=
  ZJ (G:=λ_=>G) (λβ=>sF (hG β)) (λ_=>AJ rfl) (λ_ w=>h w)
theorem Zk (s:Nat) (v:Value) {dd:Option Tmp} (hG:∀β,bO (LO l specs β ⟨dd,.move (.tmp s),t,p,af,none⟩++F) [(s,v)]=Zl [(s,v)]):Vc P n l specs F w0 Lro L ⟨dd,.move (.tmp s),t,p,af,none⟩ ⟨.pure,λ_=>v,[],cY,cd⟩ :=
  bR hG (λ_=>A7 (by simp [evF]))
end
theorem dA {Q:Exit->Act->World->Prop} {n:Nat} {F:List (Nat×Value)} {w0:Av} {L Lro:List As} {l:List Oper} {specs:List Sp} {id:Nat} (hro:Lro.Sublist L) (hdep:Fw 0 specs)
    (hA:Uq n l specs=true->Jj prog n l specs F w0 Lro L l specs) (hc:Uq n l specs=true)
    (hF:((List.range specs.length).all λj=>match (l[j]?).bind (·.dst) with|some d=>(F.lookup d).isNone|none=>false)=true)
    (hQ:∀c a d v w,Q (.panic c) (a.put d v) w->Q (.panic c) a w)
    (hB:∀β,Cs specs β (List.range specs.length)->E2 prog l.toArray (l.drop specs.length) Q n (XV l specs β++F) w0 Lro (TO specs β++L)):OkC prog (.region id l.toArray true) Q n F w0 L :=
  OkC.drawn hro (SY.of hdep) DW hc hF hQ (Wz _ _ (hA hc)) hB
section
variable {P:Program} {ops:Array Oper} {rest:List Oper} {Q:Exit->Act->World->Prop} {n:Nat} {F F':List (Nat×Value)} {w0:Av} {L Lro:List As} {specs:List Sp} {β:Nat->Value} {A0 A1 A2 A3:As}
theorem f6 (hs:bO F F'=Zl F') (hn:TO specs β=[]) (h:E2 P ops rest Q n F' w0 Lro L):E2 P ops rest Q n F w0 Lro (TO specs β++L):=E2.sub (sF hs) (by rw [hn];exact xP _) h
end
def V3 (F:List (Nat×Value)):List Nat->Option (List (Nat×Value))
  | []=>some []
  | k::ks=>match F.lookup k with
    | some v=>match V3 F ks with
      | some r=>some ((k,v)::r)
      | none=>none
    | none=>none
theorem sL:∀(ks:List Nat) {F F':List (Nat×Value)},V3 F ks=some F'->By F' F
  | [],_,_,h=>by injection h with h;subst h;trivial
  | k::ks,F,F',h=>by
    unfold V3 at h
    split at h
    · rename_i v hv
      split at h
      · rename_i r hr
        injection h with h;subst h
        exact ⟨hv,sL ks hr⟩
      · cases h
    · cases h
def Y2:List As->Nat->As->Option (List As)
  | [],_,_=>none
  | _::r,0,y=>some (y::r)
  | x::r,i+1,y=>match Y2 r i y with
    | some r'=>some (x::r')
    | none=>none
theorem SI:∀{L:List As} {i:Nat} {y:As} {L':List As},Y2 L i y=some L'->L.set i y=L'
  | [],_,_,_,h=>by cases h
  | _::r,0,y,_,h=>by injection h
  | x::r,i+1,y,L',h=>by
    unfold Y2 at h
    split at h
    · rename_i r' hr
      injection h with h;subst h
      rw [List.set_cons_succ,SI hr]
    · cases h
section
variable {α β γ δ ε:Type} {a a':α} {b b':β} {c c':γ} {d d':δ} {e e':ε}
theorem Cx (h:(a,b)=(a',b')):a=a':=congrArg Prod.fst h
theorem BQ (h:(a,b)=(a',b')):b=b':=congrArg Prod.snd h
end
section
variable {P:Program} {ops:Array Oper} {rest:List Oper} {Q:Exit->Act->World->Prop} {n d i b off k:Nat} {F F':List (Nat×Value)} {w0:Av} {L L' Lro:List As} {op:Op} {t ty T:TypeId} {p:String} {af:Array Edge} {u v:Value} {x y:Operand} {l:List Oper} {specs:List Sp} {cs vs:List Value} {o:Oper} {j:Nat} {g:Option (Nat×Bool)}
theorem AE {t:Nat} {b:Bool} (h:(o.guard,(ops[j]?).bind (·.dst),F.lookup t)=(some (j,b),some t,some (.bool b))):Wt ops n F o:=N_ (Cx h) (Cx (BQ h)) (BQ (BQ h))
theorem Aw {t:Nat} {b:Bool} (h:(o.guard,(ops[j]?).bind (·.dst),F.lookup t)=(some (j,b),some t,some (.bool (!b)))):∀a,CP n a F->Region.wanted o (yielded ops a.tmps)=false:=W7 (Cx h) (Cx (BQ h)) (BQ (BQ h))
theorem st' (he:Ex P n F w0 L ⟨some d,op,t,p,af,none⟩ v) (hd:Nat.ble (d+1) n=true) (next:AO P ops rest Q n ((d,v)::F) w0 L):AO P ops (⟨some d,op,t,p,af,none⟩::rest) Q n F w0 L:=st he (B6 hd) next
theorem AL (h:(evF F x,Nat.ble (d+1) n)=(some v,true)) (next:AO P ops rest Q n ((d,v)::F) w0 L):AO P ops (⟨some d,.move x,t,p,af,none⟩::rest) Q n F w0 L:=mv (Cx h) (BQ h) next
theorem asg' (h:(evF F x,Nat.ble (d+1) n)=(some v,true)) (next:AO P ops rest Q n ((d,v)::F) w0 L):AO P ops (⟨some d,.assign x,t,p,af,none⟩::rest) Q n F w0 L:=fz (Cx h) (BQ h) next
theorem Ah (i:Nat) (ht:Dw P ty k) (h:(evF F x,L[i]?,cs.length,Nat.ble (d+1) n)=(some (pP b 0),some (AQ b T cs),k,true)) (next:AO P ops rest Q n ((d,aG cs)::F) w0 L) :
    AO P ops (⟨some d,.load ty x,t,p,af,none⟩::rest) Q n F w0 L:=f_ i ht (Cx h) (Cx (BQ h)) (Cx (BQ (BQ h))) (BQ (BQ (BQ h))) next
theorem Br (i:Nat) (vs:List Value) (ht:Dw P ty k) (h:(evF F x,L[i]?,(cs.drop off).take k,vs.length,Nat.ble (d+1) n)=(some (pP b off),some (AQ b T cs),vs,k,true)) (next:AO P ops rest Q n ((d,aG vs)::F) w0 L) :
    AO P ops (⟨some d,.load ty x,t,p,af,none⟩::rest) Q n F w0 L:=f8 i vs ht (Cx h) (Cx (BQ h)) (Cx (BQ (BQ h))) (Cx (BQ (BQ (BQ h)))) (BQ (BQ (BQ (BQ h)))) next
theorem BZ (i:Nat) (v:Value) (ht:Fi P ty) (h:(evF F x,L[i]?,cs[off]?,Nat.ble (d+1) n)=(some (pP b off),some (AQ b T cs),some v,true)) (next:AO P ops rest Q n ((d,v)::F) w0 L) :
    AO P ops (⟨some d,.load ty x,t,p,af,none⟩::rest) Q n F w0 L:=f9 i v ht (Cx h) (Cx (BQ h)) (Cx (BQ (BQ h))) (BQ (BQ (BQ h))) next
theorem A9 (h:(evF F x,v.cells,Nat.ble (d+1) n)=(some v,cs.toArray,true)) (next:∀b,AO P ops rest Q n ((d,pP b 0)::F) w0 (AQ b T cs::L)):AO P ops (⟨some d,.box T x,t,p,af,none⟩::rest) Q n F w0 L :=
  bx (Cx h) (Cx (BQ h)) (BQ (BQ h)) next
theorem CC {f:FuncId} {xs:List Operand} {args:List Value} {ts:Array TypeId} (hc:∀args w,(callFunc f args).run P w=.ok (.enter f args) w) (h:∀w,A6 w0 w L->Calls P f args.toArray w (AY w v))
    (h2:(evF F x,xs.map (evF F),Nat.ble (d+1) n)=(some (.func (.func f) #[] #[]),args.map some,true)) (next:AO P ops rest Q n ((d,v)::F) w0 L) :
    AO P ops (⟨some d,.call { callee:=.value x,args:=xs.toArray,argTypes:=ts },t,p,af,none⟩::rest) Q n F w0 L:=cl hc h (Cx h2) (Cx (BQ h2)) (BQ (BQ h2)) next
theorem ck' {f:FuncId} {xs:List Operand} {args:List Value} {ts:Array TypeId} (hc:∀args w,(callFunc f args).run P w=.ok (.enter f args) w) (h:∀w,Calls P f args.toArray w (AY w v))
    (h2:(evF F x,xs.map (evF F),Nat.ble (d+1) n)=(some (.func (.func f) #[] #[]),args.map some,true)) (next:AO P ops rest Q n ((d,v)::F) w0 L) :
    AO P ops (⟨some d,.call { callee:=.value x,args:=xs.toArray,argTypes:=ts },t,p,af,none⟩::rest) Q n F w0 L:=CC hc (λw _=>h w) h2 next
variable {A0 A1 A2 A3 A4 A5:As}
theorem Am (h:(evF F x,evF F y,v.cells)=(some (pP b 0),some v,vs.toArray)) (hs:∀w,(sizeOf ty).run P w=.ok vs.length w) (h2:(vs.all λu=>u.oneCell',vs.length)=(true,cs.length))
    (next:AO P ops rest Q n F w0 (AQ b T vs::L)):AO P ops (⟨none,.store ty x y,t,p,af,none⟩::rest) Q n F w0 (AQ b T cs::L):=fB (Cx h) (Cx (BQ h)) (BQ (BQ h)) hs (Cx h2) (BQ h2) next
theorem DG (h:(evF F x,evF F y,v.cells)=(some (pP b 0),some v,vs.toArray)) (hs:∀w,(sizeOf ty).run P w=.ok vs.length w) (h2:(vs.all λu=>u.oneCell',vs.length)=(true,cs.length))
    (next:AO P ops rest Q n F w0 (A0::AQ b T vs::L)):AO P ops (⟨none,.store ty x y,t,p,af,none⟩::rest) Q n F w0 (A0::AQ b T cs::L):=fC (Cx h) (Cx (BQ h)) (BQ (BQ h)) hs (Cx h2) (BQ h2) next
theorem Ee (h:(evF F x,evF F y,v.cells)=(some (pP b 0),some v,vs.toArray)) (hs:∀w,(sizeOf ty).run P w=.ok vs.length w) (h2:(vs.all λu=>u.oneCell',vs.length)=(true,cs.length))
    (next:AO P ops rest Q n F w0 (A0::A1::AQ b T vs::L)):AO P ops (⟨none,.store ty x y,t,p,af,none⟩::rest) Q n F w0 (A0::A1::AQ b T cs::L):=fD (Cx h) (Cx (BQ h)) (BQ (BQ h)) hs (Cx h2) (BQ h2) next
theorem Fd (h:(evF F x,evF F y,v.cells)=(some (pP b 0),some v,vs.toArray)) (hs:∀w,(sizeOf ty).run P w=.ok vs.length w) (h2:(vs.all λu=>u.oneCell',vs.length)=(true,cs.length))
    (next:AO P ops rest Q n F w0 (A0::A1::A2::AQ b T vs::L)):AO P ops (⟨none,.store ty x y,t,p,af,none⟩::rest) Q n F w0 (A0::A1::A2::AQ b T cs::L):=fE (Cx h) (Cx (BQ h)) (BQ (BQ h)) hs (Cx h2) (BQ h2) next
theorem EV (i:Nat) {v:Value} {cs':List Value} (hw:Wt ops n F ⟨none,.store ty x y,t,p,af,g⟩) (h:(evF F x,evF F y,L[i]?,v.cells)=(some (pP b off),some v,some (AQ b T cs),vs.toArray))
    (hs:∀w,(sizeOf ty).run P w=.ok vs.length w) (h2:(vs.all λu=>u.oneCell',Nat.ble (off+vs.length) cs.length,Ib cs off vs,Y2 L i (AQ b T cs'))=(true,true,cs',some L')) (next:AO P ops rest Q n F w0 L'):AO P ops (⟨none,.store ty x y,t,p,af,g⟩::rest) Q n F w0 L :=
  zo hw rfl (Cx h) (Cx (BQ h)) (Cx (BQ (BQ h))) (BQ (BQ (BQ h))) hs (Cx h2) (Cx (BQ h2)) (Cx (BQ (BQ h2))) (SI (BQ (BQ (BQ h2)))) next
end
theorem BN {P:Program} {ops:Array Oper} {rest:List Oper} {Q:Exit->Act->World->Prop} {n j d t2:Nat} {b:Bool} {F:List (Nat×Value)} {w0:Av} {L:List As} {v:Value} {o:Oper} (h:(o.guard,(ops[j]?).bind (·.dst),F.lookup t2,o.dst,Nat.ble (d+1) n)=(some (j,b),some t2,some (.bool b),some d,true)) (he:Ex P n F w0 L o v) (next:AO P ops rest Q n ((d,v)::F) w0 L):AO P ops (o::rest) Q n F w0 L :=
  yS (N_ (Cx h) (Cx (BQ h)) (Cx (BQ (BQ h)))) he (Cx (BQ (BQ (BQ h)))) (Nat.le_of_ble_eq_true (BQ (BQ (BQ (BQ h))))) next
theorem BF {P:Program} {ops:Array Oper} {rest:List Oper} {Q:Exit->Act->World->Prop} {n j d t2:Nat} {b:Bool} {F:List (Nat×Value)} {w0:Av} {L:List As} {o:Oper} (h:(o.guard,(ops[j]?).bind (·.dst),F.lookup t2,o.dst,Nat.ble (d+1) n)=(some (j,b),some t2,some (.bool (!b)),some d,true)) (next:AO P ops rest Q n ((d,undef)::F) w0 L):AO P ops (o::rest) Q n F w0 L :=
  yR (W7 (Cx h) (Cx (BQ h)) (Cx (BQ (BQ h)))) (Cx (BQ (BQ (BQ h)))) (Nat.le_of_ble_eq_true (BQ (BQ (BQ (BQ h))))) next
theorem FV {P:Program} {ops:Array Oper} {rest:List Oper} {Q:Exit->Act->World->Prop} {n j d t2:Nat} {b:Bool} {F:List (Nat×Value)} {w0:Av} {L:List As} {v:Value} {x:Operand} {t:TypeId} {p:String} {af:Array Edge} (h:((ops[j]?).bind (·.dst),F.lookup t2,evF F x,Nat.ble (d+1) n)=(some t2,some (.bool b),some v,true)) (next:AO P ops rest Q n ((d,v)::F) w0 L):AO P ops (⟨some d,.move x,t,p,af,some (j,b)⟩::rest) Q n F w0 L :=
  yS (N_ rfl (Cx h) (Cx (BQ h))) (A7 (Cx (BQ (BQ h)))) rfl (Nat.le_of_ble_eq_true (BQ (BQ (BQ h)))) next
end
end Go.Proofs.YtcpkbjjmcleplaaGreatDoor
