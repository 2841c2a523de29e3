import Derived.Test.YtcpkbjjmcleplaaGreatDoorPart03
namespace Go.Proofs.YtcpkbjjmcleplaaGreatDoor
open Go Go.RowKit Go.Proofs.Tryz
open Go.Value renaming slice→qz,bool→qa
set_option linter.unusedVariables false
set_option linter.unusedSimpArgs false
section
structure EG (P:Program) (t:TypeId) (k:Nat):Prop where
  a:∀w,(isAgg t).run P w=.ok true w
  s:∀w,(sizeOf t).run P w=.ok k w
structure Fy (P:Program) (t:TypeId):Prop where
  a:∀w,(isAgg t).run P w=.ok false w
def De (P:Program) (t:TypeId) (cs:List Value):Prop:=∃u:Value,(∀w,(zeroValue t).run P w=.ok u w)/\u.cells=cs.toArray
section
variable {P:Program} {ops:Array Oper} {rest:List Oper} {Q:Exit->Act->World->Prop} {n d i b off k:Nat} {F F':List (Nat×Value)} {w0:Ay} {L Lro:List As} {op:Op} {t ty T:TypeId} {p:String} {af:Array Edge} {u v:Value} {x y:Operand} {l:List Oper} {specs:List Sp} {cs vs:List Value}
theorem CO {a b:Nat} (h:Nat.ble (a+1) b=true):a<b:=Nat.le_of_ble_eq_true h
theorem mv (hx:evF F x=some v) (hd:Nat.ble (d+1) n=true) (next:AP P ops rest Q n ((d,v)::F) w0 L):AP P ops (⟨some d,.move x,t,p,af,none⟩::rest) Q n F w0 L:=yT (AG rfl) (BF hx) rfl (CO hd) next
theorem il (hx:evF F x=some v) (hd:Nat.ble (d+1) n=true) (next:AP P ops rest Q n ((d,v)::F) w0 L):AP P ops (⟨some d,.assign x,t,p,af,none⟩::rest) Q n F w0 L:=yT (AG rfl) (Ni hx) rfl (CO hd) next
theorem Mk {cs:List Value} {k:Nat} (h:cs.length=k):(cs.drop 0).take k=cs:=by rw [List.drop_zero,List.take_of_length_le Z]
theorem ir (i:Nat) (ht:EG P ty k) (hx:evF F x=some (pP b 0)) (hi:L[i]?=some (AO b T cs)) (hl:cs.length=k) (hd:Nat.ble (d+1) n=true) (next:AP P ops rest Q n ((d,aG cs)::F) w0 L) :
    AP P ops (⟨some d,.load ty x,t,p,af,none⟩::rest) Q n F w0 L:=yT (AG rfl) (AY hx hi ht.a ht.s (Mk hl) hl) rfl (CO hd) next
theorem ip (i:Nat) (vs:List Value) (ht:EG P ty k) (hx:evF F x=some (pP b off)) (hi:L[i]?=some (AO b T cs)) (hv:(cs.drop off).take k=vs) (hl:vs.length=k) (hd:Nat.ble (d+1) n=true) (next:AP P ops rest Q n ((d,aG vs)::F) w0 L) :
    AP P ops (⟨some d,.load ty x,t,p,af,none⟩::rest) Q n F w0 L:=yT (AG rfl) (AY hx hi ht.a ht.s hv hl) rfl (CO hd) next
theorem iq (i:Nat) (v:Value) (ht:Fy P ty) (hx:evF F x=some (pP b off)) (hi:L[i]?=some (AO b T cs)) (hv:cs[off]?=some v) (hd:Nat.ble (d+1) n=true) (next:AP P ops rest Q n ((d,v)::F) w0 L) :
    AP P ops (⟨some d,.load ty x,t,p,af,none⟩::rest) Q n F w0 L:=yT (AG rfl) (AR hx hi ht.a hv) rfl (CO hd) next
theorem bx (hx:evF F x=some v) (hv:v.cells=cs.toArray) (hd:Nat.ble (d+1) n=true) (next:∀b,AP P ops rest Q n ((d,pP b 0)::F) w0 (AO b T cs::L)):AP P ops (⟨some d,.box T x,t,p,af,none⟩::rest) Q n F w0 L :=
  y7 (AG rfl) (cr hx hv) rfl (CO hd) next
theorem al (hz:De P T cs) (hd:Nat.ble (d+1) n=true) (next:∀b,AP P ops rest Q n ((d,pP b 0)::F) w0 (AO b T cs::L)):AP P ops (⟨some d,.alloc T,t,p,af,none⟩::rest) Q n F w0 L :=
  have ⟨_,h1,h2⟩:=hz
  y7 (AG rfl) (QG h1 h2) rfl (CO hd) next
theorem cl {f:FuncId} {xs:List Operand} {args:List Value} {ts:Array TypeId} (hc:∀args w,(callFunc f args).run P w=.ok (.enter f args) w) (h:∀w,A_ w0 w L->Calls P f args.toArray w (Ac w v))
    (hf:evF F x=some (.func (.func f) #[] #[])) (hargs:xs.map (evF F)=args.map some) (hd:Nat.ble (d+1) n=true) (next:AP P ops rest Q n ((d,v)::F) w0 L) :
    AP P ops (⟨some d,.call { callee:=.value x,args:=xs.toArray,argTypes:=ts },t,p,af,none⟩::rest) Q n F w0 L:=zd (AG rfl) (Ag hf hargs hc) h rfl (CO hd) next
theorem Zf {cs vs:List Value} (h:vs.length=cs.length):I7 cs 0 vs=vs:=by simp [I7,h]
theorem O3 {L':List As} (hx:evF F x=some (pP b 0)) (hy:evF F y=some v) (hi:L[i]?=some (AO b T cs)) (hv:v.cells=vs.toArray) (hs:∀w,(sizeOf ty).run P w=.ok vs.length w) (h1:(vs.all λu=>u.oneCell')=true) (hl:vs.length=cs.length)
    (hL:L.set i (AO b T vs)=L') (next:AP P ops rest Q n F w0 L'):AP P ops (⟨none,.store ty x y,t,p,af,none⟩::rest) Q n F w0 L:=zu (AG rfl) rfl hx hy hi hv hs h1 (Nat.ble_eq_true_of_le Z) (Zf hl) hL next
variable {A0 A1 A2 A3 A4 A5:As}
theorem h_ (hx:evF F x=some (pP b 0)) (hy:evF F y=some v) (hv:v.cells=vs.toArray) (hs:∀w,(sizeOf ty).run P w=.ok vs.length w) (h1:(vs.all λu=>u.oneCell')=true) (hl:vs.length=cs.length)
    (next:AP P ops rest Q n F w0 (AO b T vs::L)):AP P ops (⟨none,.store ty x y,t,p,af,none⟩::rest) Q n F w0 (AO b T cs::L):=O3 (i:=0) hx hy rfl hv hs h1 hl rfl next
theorem iA (hx:evF F x=some (pP b 0)) (hy:evF F y=some v) (hv:v.cells=vs.toArray) (hs:∀w,(sizeOf ty).run P w=.ok vs.length w) (h1:(vs.all λu=>u.oneCell')=true) (hl:vs.length=cs.length)
    (next:AP P ops rest Q n F w0 (A0::AO b T vs::L)):AP P ops (⟨none,.store ty x y,t,p,af,none⟩::rest) Q n F w0 (A0::AO b T cs::L):=O3 (i:=1) hx hy rfl hv hs h1 hl rfl next
theorem iB (hx:evF F x=some (pP b 0)) (hy:evF F y=some v) (hv:v.cells=vs.toArray) (hs:∀w,(sizeOf ty).run P w=.ok vs.length w) (h1:(vs.all λu=>u.oneCell')=true) (hl:vs.length=cs.length)
    (next:AP P ops rest Q n F w0 (A0::A1::AO b T vs::L)):AP P ops (⟨none,.store ty x y,t,p,af,none⟩::rest) Q n F w0 (A0::A1::AO b T cs::L):=O3 (i:=2) hx hy rfl hv hs h1 hl rfl next
theorem iC (hx:evF F x=some (pP b 0)) (hy:evF F y=some v) (hv:v.cells=vs.toArray) (hs:∀w,(sizeOf ty).run P w=.ok vs.length w) (h1:(vs.all λu=>u.oneCell')=true) (hl:vs.length=cs.length)
    (next:AP P ops rest Q n F w0 (A0::A1::A2::AO b T vs::L)):AP P ops (⟨none,.store ty x y,t,p,af,none⟩::rest) Q n F w0 (A0::A1::A2::AO b T cs::L):=O3 (i:=3) hx hy rfl hv hs h1 hl rfl next
theorem sr {L:List As}:L.Sublist L:=xP _
theorem sl {a:As} {l1 l2:List As} (h:l1.Sublist l2):l1.Sublist (a::l2):=List.Sublist.cons _ h
theorem sk {a:As} {l1 l2:List As} (h:l1.Sublist l2):(a::l1).Sublist (a::l2):=List.Sublist.cons_cons _ h
theorem dy {v:Value} {G:List (Nat×Value)} {dd:Option Tmp} (hG:∀β,dw (MK l specs β ⟨dd,op,t,p,af,none⟩++F) G=bd G) (h:∀w0,Ex P n G w0 [] ⟨dd,op,t,p,af,none⟩ v):Vc P n l specs F w0 Lro L ⟨dd,op,t,p,af,none⟩ ⟨.pure,λ_=>v,[],ep,eu⟩ :=
  bD (G:=λ_=>G) (λβ=>sF (hG β)) (λ_=>AG rfl) (λ_ w=>h w)
theorem bb (s:Nat) (v:Value) {dd:Option Tmp} (hG:∀β,dw (MK l specs β ⟨dd,.move (.tmp s),t,p,af,none⟩++F) [(s,v)]=bd [(s,v)]):Vc P n l specs F w0 Lro L ⟨dd,.move (.tmp s),t,p,af,none⟩ ⟨.pure,λ_=>v,[],ep,eu⟩ :=
  dy hG (λ_=>BF (by simp [evF]))
end
theorem dA {Q:Exit->Act->World->Prop} {n:Nat} {F:List (Nat×Value)} {w0:Ay} {L Lro:List As} {l:List Oper} {specs:List Sp} {id:Nat} (hro:Lro.Sublist L) (hdep:IX 0 specs)
    (hA:V2 n l specs=true->KE prog n l specs F w0 Lro L l specs) (hc:V2 n l specs=true)
    (hF:((List.range specs.length).all λj=>match (l[j]?).bind (·.dst) with|some d=>(F.lookup d).isNone|none=>false)=true)
    (hQ:∀c a d v w,Q (.panic c) (a.put d v) w->Q (.panic c) a w)
    (hB:∀β,Cs specs β (List.range specs.length)->Fd prog l.toArray (l.drop specs.length) Q n (Yp l specs β++F) w0 Lro (Uh specs β++L)):OkC prog (.region id l.toArray true) Q n F w0 L :=
  OkC.drawn hro (Th.of hdep) Dp hc hF hQ (YI _ _ (hA hc)) hB
section
variable {P:Program} {ops:Array Oper} {rest:List Oper} {Q:Exit->Act->World->Prop} {n:Nat} {F F':List (Nat×Value)} {w0:Ay} {L Lro:List As} {specs:List Sp} {β:Nat->Value} {A0 A1 A2 A3:As}
theorem io (hs:dw F F'=bd F') (hn:Uh specs β=[]) (h:Fd P ops rest Q n F' w0 Lro L):Fd P ops rest Q n F w0 Lro (Uh specs β++L):=Fd.sub (sF hs) (by rw [hn];exact xP _) h
end
def XL (F:List (Nat×Value)):List Nat->Option (List (Nat×Value))
  | []=>some []
  | k::ks=>match F.lookup k with
    | some v=>match XL F ks with
      | some r=>some ((k,v)::r)
      | none=>none
    | none=>none
theorem sL:∀(ks:List Nat) {F F':List (Nat×Value)},XL F ks=some F'->CK F' F
  | [],_,_,h=>by injection h with h;subst h;trivial
  | k::ks,F,F',h=>by
    unfold XL at h
    split at h
    · rename_i v hv
      split at h
      · rename_i r hr
        injection h with h;subst h
        exact ⟨hv,sL ks hr⟩
      · cases h
    · cases h
def ac:List As->Nat->As->Option (List As)
  | [],_,_=>none
  | _::r,0,y=>some (y::r)
  | x::r,i+1,y=>match ac r i y with
    | some r'=>some (x::r')
    | none=>none
theorem TR:∀{L:List As} {i:Nat} {y:As} {L':List As},ac L i y=some L'->L.set i y=L'
  | [],_,_,_,h=>by cases h
  | _::r,0,y,_,h=>by injection h
  | x::r,i+1,y,L',h=>by
    unfold ac at h
    split at h
    · rename_i r' hr
      injection h with h;subst h
      rw [List.set_cons_succ,TR hr]
    · cases h
section
variable {α β γ δ ε:Type} {a a':α} {b b':β} {c c':γ} {d d':δ} {e e':ε}
theorem DO (h:(a,b)=(a',b')):a=a':=congrArg Prod.fst h
theorem Bd (h:(a,b)=(a',b')):b=b':=congrArg Prod.snd h
end
section
variable {P:Program} {ops:Array Oper} {rest:List Oper} {Q:Exit->Act->World->Prop} {n d i b off k:Nat} {F F':List (Nat×Value)} {w0:Ay} {L L' Lro:List As} {op:Op} {t ty T:TypeId} {p:String} {af:Array Edge} {u v:Value} {x y:Operand} {l:List Oper} {specs:List Sp} {cs vs:List Value} {o:Oper} {j:Nat} {g:Option (Nat×Bool)}
theorem AE {t:Nat} {b:Bool} (h:(o.guard,(ops[j]?).bind (·.dst),F.lookup t)=(some (j,b),some t,some (.bool b))):Wt ops n F o:=PA (DO h) (DO (Bd h)) (Bd (Bd h))
theorem A7 {t:Nat} {b:Bool} (h:(o.guard,(ops[j]?).bind (·.dst),F.lookup t)=(some (j,b),some t,some (.bool (!b)))):∀a,Cg n a F->Region.wanted o (yielded ops a.tmps)=false:=YO (DO h) (DO (Bd h)) (Bd (Bd h))
theorem st' (he:Ex P n F w0 L ⟨some d,op,t,p,af,none⟩ v) (hd:Nat.ble (d+1) n=true) (next:AP P ops rest Q n ((d,v)::F) w0 L):AP P ops (⟨some d,op,t,p,af,none⟩::rest) Q n F w0 L:=st he (CO hd) next
theorem AK (h:(evF F x,Nat.ble (d+1) n)=(some v,true)) (next:AP P ops rest Q n ((d,v)::F) w0 L):AP P ops (⟨some d,.move x,t,p,af,none⟩::rest) Q n F w0 L:=mv (DO h) (Bd h) next
theorem asg' (h:(evF F x,Nat.ble (d+1) n)=(some v,true)) (next:AP P ops rest Q n ((d,v)::F) w0 L):AP P ops (⟨some d,.assign x,t,p,af,none⟩::rest) Q n F w0 L:=il (DO h) (Bd h) next
theorem Af (i:Nat) (ht:EG P ty k) (h:(evF F x,L[i]?,cs.length,Nat.ble (d+1) n)=(some (pP b 0),some (AO b T cs),k,true)) (next:AP P ops rest Q n ((d,aG cs)::F) w0 L) :
    AP P ops (⟨some d,.load ty x,t,p,af,none⟩::rest) Q n F w0 L:=ir i ht (DO h) (DO (Bd h)) (DO (Bd (Bd h))) (Bd (Bd (Bd h))) next
theorem By (i:Nat) (vs:List Value) (ht:EG P ty k) (h:(evF F x,L[i]?,(cs.drop off).take k,vs.length,Nat.ble (d+1) n)=(some (pP b off),some (AO b T cs),vs,k,true)) (next:AP P ops rest Q n ((d,aG vs)::F) w0 L) :
    AP P ops (⟨some d,.load ty x,t,p,af,none⟩::rest) Q n F w0 L:=ip i vs ht (DO h) (DO (Bd h)) (DO (Bd (Bd h))) (DO (Bd (Bd (Bd h)))) (Bd (Bd (Bd (Bd h)))) next
theorem BL (i:Nat) (v:Value) (ht:Fy P ty) (h:(evF F x,L[i]?,cs[off]?,Nat.ble (d+1) n)=(some (pP b off),some (AO b T cs),some v,true)) (next:AP P ops rest Q n ((d,v)::F) w0 L) :
    AP P ops (⟨some d,.load ty x,t,p,af,none⟩::rest) Q n F w0 L:=iq i v ht (DO h) (DO (Bd h)) (DO (Bd (Bd h))) (Bd (Bd (Bd h))) next
theorem BH (h:(evF F x,v.cells,Nat.ble (d+1) n)=(some v,cs.toArray,true)) (next:∀b,AP P ops rest Q n ((d,pP b 0)::F) w0 (AO b T cs::L)):AP P ops (⟨some d,.box T x,t,p,af,none⟩::rest) Q n F w0 L :=
  bx (DO h) (DO (Bd h)) (Bd (Bd h)) next
theorem CQ {f:FuncId} {xs:List Operand} {args:List Value} {ts:Array TypeId} (hc:∀args w,(callFunc f args).run P w=.ok (.enter f args) w) (h:∀w,A_ w0 w L->Calls P f args.toArray w (Ac w v))
    (h2:(evF F x,xs.map (evF F),Nat.ble (d+1) n)=(some (.func (.func f) #[] #[]),args.map some,true)) (next:AP P ops rest Q n ((d,v)::F) w0 L) :
    AP P ops (⟨some d,.call { callee:=.value x,args:=xs.toArray,argTypes:=ts },t,p,af,none⟩::rest) Q n F w0 L:=cl hc h (DO h2) (DO (Bd h2)) (Bd (Bd h2)) next
theorem ck' {f:FuncId} {xs:List Operand} {args:List Value} {ts:Array TypeId} (hc:∀args w,(callFunc f args).run P w=.ok (.enter f args) w) (h:∀w,Calls P f args.toArray w (Ac w v))
    (h2:(evF F x,xs.map (evF F),Nat.ble (d+1) n)=(some (.func (.func f) #[] #[]),args.map some,true)) (next:AP P ops rest Q n ((d,v)::F) w0 L) :
    AP P ops (⟨some d,.call { callee:=.value x,args:=xs.toArray,argTypes:=ts },t,p,af,none⟩::rest) Q n F w0 L:=CQ hc (λw _=>h w) h2 next
variable {A0 A1 A2 A3 A4 A5:As}
theorem An (h:(evF F x,evF F y,v.cells)=(some (pP b 0),some v,vs.toArray)) (hs:∀w,(sizeOf ty).run P w=.ok vs.length w) (h2:(vs.all λu=>u.oneCell',vs.length)=(true,cs.length))
    (next:AP P ops rest Q n F w0 (AO b T vs::L)):AP P ops (⟨none,.store ty x y,t,p,af,none⟩::rest) Q n F w0 (AO b T cs::L):=h_ (DO h) (DO (Bd h)) (Bd (Bd h)) hs (DO h2) (Bd h2) next
theorem DK (h:(evF F x,evF F y,v.cells)=(some (pP b 0),some v,vs.toArray)) (hs:∀w,(sizeOf ty).run P w=.ok vs.length w) (h2:(vs.all λu=>u.oneCell',vs.length)=(true,cs.length))
    (next:AP P ops rest Q n F w0 (A0::AO b T vs::L)):AP P ops (⟨none,.store ty x y,t,p,af,none⟩::rest) Q n F w0 (A0::AO b T cs::L):=iA (DO h) (DO (Bd h)) (Bd (Bd h)) hs (DO h2) (Bd h2) next
theorem E7 (h:(evF F x,evF F y,v.cells)=(some (pP b 0),some v,vs.toArray)) (hs:∀w,(sizeOf ty).run P w=.ok vs.length w) (h2:(vs.all λu=>u.oneCell',vs.length)=(true,cs.length))
    (next:AP P ops rest Q n F w0 (A0::A1::AO b T vs::L)):AP P ops (⟨none,.store ty x y,t,p,af,none⟩::rest) Q n F w0 (A0::A1::AO b T cs::L):=iB (DO h) (DO (Bd h)) (Bd (Bd h)) hs (DO h2) (Bd h2) next
theorem F8 (h:(evF F x,evF F y,v.cells)=(some (pP b 0),some v,vs.toArray)) (hs:∀w,(sizeOf ty).run P w=.ok vs.length w) (h2:(vs.all λu=>u.oneCell',vs.length)=(true,cs.length))
    (next:AP P ops rest Q n F w0 (A0::A1::A2::AO b T vs::L)):AP P ops (⟨none,.store ty x y,t,p,af,none⟩::rest) Q n F w0 (A0::A1::A2::AO b T cs::L):=iC (DO h) (DO (Bd h)) (Bd (Bd h)) hs (DO h2) (Bd h2) next
theorem Dt (i:Nat) {v:Value} {cs':List Value} (hw:Wt ops n F ⟨none,.store ty x y,t,p,af,g⟩) (h:(evF F x,evF F y,L[i]?,v.cells)=(some (pP b off),some v,some (AO b T cs),vs.toArray))
    (hs:∀w,(sizeOf ty).run P w=.ok vs.length w) (h2:(vs.all λu=>u.oneCell',Nat.ble (off+vs.length) cs.length,I7 cs off vs,ac L i (AO b T cs'))=(true,true,cs',some L')) (next:AP P ops rest Q n F w0 L'):AP P ops (⟨none,.store ty x y,t,p,af,g⟩::rest) Q n F w0 L :=
  zu hw rfl (DO h) (DO (Bd h)) (DO (Bd (Bd h))) (Bd (Bd (Bd h))) hs (DO h2) (DO (Bd h2)) (DO (Bd (Bd h2))) (TR (Bd (Bd (Bd h2)))) next
end
theorem BV {P:Program} {ops:Array Oper} {rest:List Oper} {Q:Exit->Act->World->Prop} {n j d t2:Nat} {b:Bool} {F:List (Nat×Value)} {w0:Ay} {L:List As} {v:Value} {o:Oper} (h:(o.guard,(ops[j]?).bind (·.dst),F.lookup t2,o.dst,Nat.ble (d+1) n)=(some (j,b),some t2,some (.bool b),some d,true)) (he:Ex P n F w0 L o v) (next:AP P ops rest Q n ((d,v)::F) w0 L):AP P ops (o::rest) Q n F w0 L :=
  yT (PA (DO h) (DO (Bd h)) (DO (Bd (Bd h)))) he (DO (Bd (Bd (Bd h)))) (Nat.le_of_ble_eq_true (Bd (Bd (Bd (Bd h))))) next
theorem BP {P:Program} {ops:Array Oper} {rest:List Oper} {Q:Exit->Act->World->Prop} {n j d t2:Nat} {b:Bool} {F:List (Nat×Value)} {w0:Ay} {L:List As} {o:Oper} (h:(o.guard,(ops[j]?).bind (·.dst),F.lookup t2,o.dst,Nat.ble (d+1) n)=(some (j,b),some t2,some (.bool (!b)),some d,true)) (next:AP P ops rest Q n ((d,undef)::F) w0 L):AP P ops (o::rest) Q n F w0 L :=
  yN (YO (DO h) (DO (Bd h)) (DO (Bd (Bd h)))) (DO (Bd (Bd (Bd h)))) (Nat.le_of_ble_eq_true (Bd (Bd (Bd (Bd h))))) next
theorem FR {P:Program} {ops:Array Oper} {rest:List Oper} {Q:Exit->Act->World->Prop} {n j d t2:Nat} {b:Bool} {F:List (Nat×Value)} {w0:Ay} {L:List As} {v:Value} {x:Operand} {t:TypeId} {p:String} {af:Array Edge} (h:((ops[j]?).bind (·.dst),F.lookup t2,evF F x,Nat.ble (d+1) n)=(some t2,some (.bool b),some v,true)) (next:AP P ops rest Q n ((d,v)::F) w0 L):AP P ops (⟨some d,.move x,t,p,af,some (j,b)⟩::rest) Q n F w0 L :=
  yT (PA rfl (DO h) (DO (Bd h))) (BF (DO (Bd (Bd h)))) rfl (Nat.le_of_ble_eq_true (Bd (Bd (Bd h)))) next
end
end Go.Proofs.YtcpkbjjmcleplaaGreatDoor
