import Derived.Test.YtpolhpjiahbidaaGreatDoorPart01
namespace Go.Proofs.YtpolhpjiahbidaaGreatDoor
open Go Go.RowKit Go.Proofs.Tryz
set_option linter.unusedVariables false
set_option linter.unusedSimpArgs false
section
structure DC (P:Program) (t:TypeId) (k:Nat):Prop where
  a:∀w,(isAgg t).run P w=.ok true w
  s:∀w,(sizeOf t).run P w=.ok k w
structure FF (P:Program) (t:TypeId):Prop where
  a:∀w,(isAgg t).run P w=.ok false w
def DN (P:Program) (t:TypeId) (cs:List Value):Prop:=∃u:Value,(∀w,(zeroValue t).run P w=.ok u w)/\u.cells=cs.toArray
section
variable {P:Program} {ops:Array Oper} {rest:List Oper} {Q:Exit->Act->World->Prop} {n d i b off k:Nat} {F F':List (Nat×Value)} {w0:A_} {L Lro:List As} {op:Op} {t ty T:TypeId} {p:String} {af:Array Edge} {u v:Value} {x y:Operand} {l:List Oper} {specs:List Sp} {cs vs:List Value}
theorem Bj {a b:Nat} (h:Nat.ble (a+1) b=true):a<b:=Nat.le_of_ble_eq_true h
theorem mv (hx:evF F x=some v) (hd:Nat.ble (d+1) n=true) (next:OkL P ops rest Q n ((d,v)::F) w0 L):OkL P ops (⟨some d,.move x,t,p,af,none⟩::rest) Q n F w0 L:=OkL.step (AP rfl) (Ai hx) rfl (Bj hd) next
theorem bE (hx:evF F x=some v) (hd:Nat.ble (d+1) n=true) (next:OkL P ops rest Q n ((d,v)::F) w0 L):OkL P ops (⟨some d,.assign x,t,p,af,none⟩::rest) Q n F w0 L:=OkL.step (AP rfl) (LF hx) rfl (Bj hd) next
theorem J1 {cs:List Value} {k:Nat} (h:cs.length=k):(cs.drop 0).take k=cs:=by rw [List.drop_zero,List.take_of_length_le Z]
theorem bC (i:Nat) (ht:DC P ty k) (hx:evF F x=some (pP b 0)) (hi:L[i]?=some (AU b T cs)) (hl:cs.length=k) (hd:Nat.ble (d+1) n=true) (next:OkL P ops rest Q n ((d,aG cs)::F) w0 L) :
    OkL P ops (⟨some d,.load ty x,t,p,af,none⟩::rest) Q n F w0 L:=OkL.step (AP rfl) (A6 hx hi ht.a ht.s (J1 hl) hl) rfl (Bj hd) next
theorem az (i:Nat) (vs:List Value) (ht:DC P ty k) (hx:evF F x=some (pP b off)) (hi:L[i]?=some (AU b T cs)) (hv:(cs.drop off).take k=vs) (hl:vs.length=k) (hd:Nat.ble (d+1) n=true) (next:OkL P ops rest Q n ((d,aG vs)::F) w0 L) :
    OkL P ops (⟨some d,.load ty x,t,p,af,none⟩::rest) Q n F w0 L:=OkL.step (AP rfl) (A6 hx hi ht.a ht.s hv hl) rfl (Bj hd) next
theorem bD (i:Nat) (v:Value) (ht:FF P ty) (hx:evF F x=some (pP b off)) (hi:L[i]?=some (AU b T cs)) (hv:cs[off]?=some v) (hd:Nat.ble (d+1) n=true) (next:OkL P ops rest Q n ((d,v)::F) w0 L) :
    OkL P ops (⟨some d,.load ty x,t,p,af,none⟩::rest) Q n F w0 L:=OkL.step (AP rfl) (AF hx hi ht.a hv) rfl (Bj hd) next
theorem bx (hx:evF F x=some v) (hv:v.cells=cs.toArray) (hd:Nat.ble (d+1) n=true) (next:∀b,OkL P ops rest Q n ((d,pP b 0)::F) w0 (AU b T cs::L)):OkL P ops (⟨some d,.box T x,t,p,af,none⟩::rest) Q n F w0 L :=
  OkL.open_ (AP rfl) (X5 hx hv) rfl (Bj hd) next
theorem al (hz:DN P T cs) (hd:Nat.ble (d+1) n=true) (next:∀b,OkL P ops rest Q n ((d,pP b 0)::F) w0 (AU b T cs::L)):OkL P ops (⟨some d,.alloc T,t,p,af,none⟩::rest) Q n F w0 L :=
  have ⟨_,h1,h2⟩:=hz
  OkL.open_ (AP rfl) (Ny h1 h2) rfl (Bj hd) next
theorem cl {f:FuncId} {xs:List Operand} {args:List Value} {ts:Array TypeId} (hc:∀args w,(callFunc f args).run P w=.ok (.enter f args) w) (h:∀w,BD w0 w L->Calls P f args.toArray w (Ah w v))
    (hf:evF F x=some (.func (.func f) #[] #[])) (hargs:xs.map (evF F)=args.map some) (hd:Nat.ble (d+1) n=true) (next:OkL P ops rest Q n ((d,v)::F) w0 L) :
    OkL P ops (⟨some d,.call { callee:=.value x,args:=xs.toArray,argTypes:=ts },t,p,af,none⟩::rest) Q n F w0 L:=OkL.call (AP rfl) (Ap hf hargs hc) h rfl (Bj hd) next
theorem Vw {cs vs:List Value} (h:vs.length=cs.length):F6 cs 0 vs=vs:=by simp [F6,h]
theorem Mp {L':List As} (hx:evF F x=some (pP b 0)) (hy:evF F y=some v) (hi:L[i]?=some (AU b T cs)) (hv:v.cells=vs.toArray) (hs:∀w,(sizeOf ty).run P w=.ok vs.length w) (h1:(vs.all λu=>u.oneCell')=true) (hl:vs.length=cs.length)
    (hL:L.set i (AU b T vs)=L') (next:OkL P ops rest Q n F w0 L'):OkL P ops (⟨none,.store ty x y,t,p,af,none⟩::rest) Q n F w0 L:=OkL.store' (AP rfl) rfl hx hy hi hv hs h1 (Nat.ble_eq_true_of_le Z) (Vw hl) hL next
variable {A0 A1 A2 A3 A4 A5:As}
theorem Z_ (hx:evF F x=some (pP b 0)) (hy:evF F y=some v) (hv:v.cells=vs.toArray) (hs:∀w,(sizeOf ty).run P w=.ok vs.length w) (h1:(vs.all λu=>u.oneCell')=true) (hl:vs.length=cs.length)
    (next:OkL P ops rest Q n F w0 (AU b T vs::L)):OkL P ops (⟨none,.store ty x y,t,p,af,none⟩::rest) Q n F w0 (AU b T cs::L):=Mp (i:=0) hx hy rfl hv hs h1 hl rfl next
theorem Zm (hx:evF F x=some (pP b 0)) (hy:evF F y=some v) (hv:v.cells=vs.toArray) (hs:∀w,(sizeOf ty).run P w=.ok vs.length w) (h1:(vs.all λu=>u.oneCell')=true) (hl:vs.length=cs.length)
    (next:OkL P ops rest Q n F w0 (A0::AU b T vs::L)):OkL P ops (⟨none,.store ty x y,t,p,af,none⟩::rest) Q n F w0 (A0::AU b T cs::L):=Mp (i:=1) hx hy rfl hv hs h1 hl rfl next
theorem aR (hx:evF F x=some (pP b 0)) (hy:evF F y=some v) (hv:v.cells=vs.toArray) (hs:∀w,(sizeOf ty).run P w=.ok vs.length w) (h1:(vs.all λu=>u.oneCell')=true) (hl:vs.length=cs.length)
    (next:OkL P ops rest Q n F w0 (A0::A1::AU b T vs::L)):OkL P ops (⟨none,.store ty x y,t,p,af,none⟩::rest) Q n F w0 (A0::A1::AU b T cs::L):=Mp (i:=2) hx hy rfl hv hs h1 hl rfl next
theorem Zw (hx:evF F x=some (pP b 0)) (hy:evF F y=some v) (hv:v.cells=vs.toArray) (hs:∀w,(sizeOf ty).run P w=.ok vs.length w) (h1:(vs.all λu=>u.oneCell')=true) (hl:vs.length=cs.length)
    (next:OkL P ops rest Q n F w0 (A0::A1::A2::AU b T vs::L)):OkL P ops (⟨none,.store ty x y,t,p,af,none⟩::rest) Q n F w0 (A0::A1::A2::AU b T cs::L):=Mp (i:=3) hx hy rfl hv hs h1 hl rfl next
theorem sr {L:List As}:L.Sublist L:=List.Sublist.refl _
theorem sl {a:As} {l1 l2:List As} (h:l1.Sublist l2):l1.Sublist (a::l2):=List.Sublist.cons _ h
theorem sk {a:As} {l1 l2:List As} (h:l1.Sublist l2):(a::l1).Sublist (a::l2):=List.Sublist.cons_cons _ h
end
section
variable {P:Program} {ops:Array Oper} {rest:List Oper} {Q:Exit->Act->World->Prop} {n:Nat} {F F':List (Nat×Value)} {w0:A_} {L Lro:List As} {specs:List Sp} {β:Nat->Value} {A0 A1 A2 A3:As}
end
def Sb (F:List (Nat×Value)):List Nat->Option (List (Nat×Value))
  | []=>some []
  | k::ks=>match F.lookup k with
    | some v=>match Sb F ks with
      | some r=>some ((k,v)::r)
      | none=>none
    | none=>none
theorem sL:∀(ks:List Nat) {F F':List (Nat×Value)},Sb F ks=some F'->DH F' F
  | [],_,_,h=>by injection h with h;subst h;trivial
  | k::ks,F,F',h=>by
    unfold Sb at h
    split at h
    · rename_i v hv
      split at h
      · rename_i r hr
        injection h with h;subst h
        exact ⟨hv,sL ks hr⟩
      · cases h
    · cases h
def M9:List As->Nat->As->Option (List As)
  | [],_,_=>none
  | _::r,0,y=>some (y::r)
  | x::r,i+1,y=>match M9 r i y with
    | some r'=>some (x::r')
    | none=>none
theorem Gg:∀{L:List As} {i:Nat} {y:As} {L':List As},M9 L i y=some L'->L.set i y=L'
  | [],_,_,_,h=>by cases h
  | _::r,0,y,_,h=>by injection h
  | x::r,i+1,y,L',h=>by
    unfold M9 at h
    split at h
    · rename_i r' hr
      injection h with h;subst h
      rw [List.set_cons_succ,Gg hr]
    · cases h
section
variable {α β γ δ ε:Type} {a a':α} {b b':β} {c c':γ} {d d':δ} {e e':ε}
theorem CS (h:(a,b)=(a',b')):a=a':=congrArg Prod.fst h
theorem BO (h:(a,b)=(a',b')):b=b':=congrArg Prod.snd h
end
section
variable {P:Program} {ops:Array Oper} {rest:List Oper} {Q:Exit->Act->World->Prop} {n d i b off k:Nat} {F F':List (Nat×Value)} {w0:A_} {L L' Lro:List As} {op:Op} {t ty T:TypeId} {p:String} {af:Array Edge} {u v:Value} {x y:Operand} {l:List Oper} {specs:List Sp} {cs vs:List Value} {o:Oper} {j:Nat} {g:Option (Nat×Bool)}
theorem AB {t:Nat} {b:Bool} (h:(o.guard,(ops[j]?).bind (·.dst),F.lookup t)=(some (j,b),some t,some (.bool b))):Wt ops n F o:=VB (CS h) (CS (BO h)) (BO (BO h))
theorem AC {t:Nat} {b:Bool} (h:(o.guard,(ops[j]?).bind (·.dst),F.lookup t)=(some (j,b),some t,some (.bool (!b)))):∀a,Cn n a F->Region.wanted o (yielded ops a.tmps)=false:=YP (CS h) (CS (BO h)) (BO (BO h))
theorem AH (he:Ex P n F w0 L ⟨some d,op,t,p,af,none⟩ v) (hd:Nat.ble (d+1) n=true) (next:OkL P ops rest Q n ((d,v)::F) w0 L):OkL P ops (⟨some d,op,t,p,af,none⟩::rest) Q n F w0 L:=st he (Bj hd) next
theorem AM (h:(evF F x,Nat.ble (d+1) n)=(some v,true)) (next:OkL P ops rest Q n ((d,v)::F) w0 L):OkL P ops (⟨some d,.move x,t,p,af,none⟩::rest) Q n F w0 L:=mv (CS h) (BO h) next
theorem asg' (h:(evF F x,Nat.ble (d+1) n)=(some v,true)) (next:OkL P ops rest Q n ((d,v)::F) w0 L):OkL P ops (⟨some d,.assign x,t,p,af,none⟩::rest) Q n F w0 L:=bE (CS h) (BO h) next
theorem BH (i:Nat) (ht:DC P ty k) (h:(evF F x,L[i]?,cs.length,Nat.ble (d+1) n)=(some (pP b 0),some (AU b T cs),k,true)) (next:OkL P ops rest Q n ((d,aG cs)::F) w0 L) :
    OkL P ops (⟨some d,.load ty x,t,p,af,none⟩::rest) Q n F w0 L:=bC i ht (CS h) (CS (BO h)) (CS (BO (BO h))) (BO (BO (BO h))) next
theorem Ei (i:Nat) (vs:List Value) (ht:DC P ty k) (h:(evF F x,L[i]?,(cs.drop off).take k,vs.length,Nat.ble (d+1) n)=(some (pP b off),some (AU b T cs),vs,k,true)) (next:OkL P ops rest Q n ((d,aG vs)::F) w0 L) :
    OkL P ops (⟨some d,.load ty x,t,p,af,none⟩::rest) Q n F w0 L:=az i vs ht (CS h) (CS (BO h)) (CS (BO (BO h))) (CS (BO (BO (BO h)))) (BO (BO (BO (BO h)))) next
theorem Au (i:Nat) (v:Value) (ht:FF P ty) (h:(evF F x,L[i]?,cs[off]?,Nat.ble (d+1) n)=(some (pP b off),some (AU b T cs),some v,true)) (next:OkL P ops rest Q n ((d,v)::F) w0 L) :
    OkL P ops (⟨some d,.load ty x,t,p,af,none⟩::rest) Q n F w0 L:=bD i v ht (CS h) (CS (BO h)) (CS (BO (BO h))) (BO (BO (BO h))) next
theorem Be (h:(evF F x,v.cells,Nat.ble (d+1) n)=(some v,cs.toArray,true)) (next:∀b,OkL P ops rest Q n ((d,pP b 0)::F) w0 (AU b T cs::L)):OkL P ops (⟨some d,.box T x,t,p,af,none⟩::rest) Q n F w0 L :=
  bx (CS h) (CS (BO h)) (BO (BO h)) next
theorem Ce {f:FuncId} {xs:List Operand} {args:List Value} {ts:Array TypeId} (hc:∀args w,(callFunc f args).run P w=.ok (.enter f args) w) (h:∀w,BD w0 w L->Calls P f args.toArray w (Ah w v))
    (h2:(evF F x,xs.map (evF F),Nat.ble (d+1) n)=(some (.func (.func f) #[] #[]),args.map some,true)) (next:OkL P ops rest Q n ((d,v)::F) w0 L) :
    OkL P ops (⟨some d,.call { callee:=.value x,args:=xs.toArray,argTypes:=ts },t,p,af,none⟩::rest) Q n F w0 L:=cl hc h (CS h2) (CS (BO h2)) (BO (BO h2)) next
theorem ck' {f:FuncId} {xs:List Operand} {args:List Value} {ts:Array TypeId} (hc:∀args w,(callFunc f args).run P w=.ok (.enter f args) w) (h:∀w,Calls P f args.toArray w (Ah w v))
    (h2:(evF F x,xs.map (evF F),Nat.ble (d+1) n)=(some (.func (.func f) #[] #[]),args.map some,true)) (next:OkL P ops rest Q n ((d,v)::F) w0 L) :
    OkL P ops (⟨some d,.call { callee:=.value x,args:=xs.toArray,argTypes:=ts },t,p,af,none⟩::rest) Q n F w0 L:=Ce hc (λw _=>h w) h2 next
variable {A0 A1 A2 A3 A4 A5:As}
theorem Ax (h:(evF F x,evF F y,v.cells)=(some (pP b 0),some v,vs.toArray)) (hs:∀w,(sizeOf ty).run P w=.ok vs.length w) (h2:(vs.all λu=>u.oneCell',vs.length)=(true,cs.length))
    (next:OkL P ops rest Q n F w0 (AU b T vs::L)):OkL P ops (⟨none,.store ty x y,t,p,af,none⟩::rest) Q n F w0 (AU b T cs::L):=Z_ (CS h) (CS (BO h)) (BO (BO h)) hs (CS h2) (BO h2) next
theorem EG (h:(evF F x,evF F y,v.cells)=(some (pP b 0),some v,vs.toArray)) (hs:∀w,(sizeOf ty).run P w=.ok vs.length w) (h2:(vs.all λu=>u.oneCell',vs.length)=(true,cs.length))
    (next:OkL P ops rest Q n F w0 (A0::AU b T vs::L)):OkL P ops (⟨none,.store ty x y,t,p,af,none⟩::rest) Q n F w0 (A0::AU b T cs::L):=Zm (CS h) (CS (BO h)) (BO (BO h)) hs (CS h2) (BO h2) next
theorem G1 (h:(evF F x,evF F y,v.cells)=(some (pP b 0),some v,vs.toArray)) (hs:∀w,(sizeOf ty).run P w=.ok vs.length w) (h2:(vs.all λu=>u.oneCell',vs.length)=(true,cs.length))
    (next:OkL P ops rest Q n F w0 (A0::A1::AU b T vs::L)):OkL P ops (⟨none,.store ty x y,t,p,af,none⟩::rest) Q n F w0 (A0::A1::AU b T cs::L):=aR (CS h) (CS (BO h)) (BO (BO h)) hs (CS h2) (BO h2) next
theorem N2 (h:(evF F x,evF F y,v.cells)=(some (pP b 0),some v,vs.toArray)) (hs:∀w,(sizeOf ty).run P w=.ok vs.length w) (h2:(vs.all λu=>u.oneCell',vs.length)=(true,cs.length))
    (next:OkL P ops rest Q n F w0 (A0::A1::A2::AU b T vs::L)):OkL P ops (⟨none,.store ty x y,t,p,af,none⟩::rest) Q n F w0 (A0::A1::A2::AU b T cs::L):=Zw (CS h) (CS (BO h)) (BO (BO h)) hs (CS h2) (BO h2) next
theorem FG (i:Nat) {v:Value} {cs':List Value} (hw:Wt ops n F ⟨none,.store ty x y,t,p,af,g⟩) (h:(evF F x,evF F y,L[i]?,v.cells)=(some (pP b off),some v,some (AU b T cs),vs.toArray))
    (hs:∀w,(sizeOf ty).run P w=.ok vs.length w) (h2:(vs.all λu=>u.oneCell',Nat.ble (off+vs.length) cs.length,F6 cs off vs,M9 L i (AU b T cs'))=(true,true,cs',some L')) (next:OkL P ops rest Q n F w0 L'):OkL P ops (⟨none,.store ty x y,t,p,af,g⟩::rest) Q n F w0 L :=
  OkL.store' hw rfl (CS h) (CS (BO h)) (CS (BO (BO h))) (BO (BO (BO h))) hs (CS h2) (CS (BO h2)) (CS (BO (BO h2))) (Gg (BO (BO (BO h2)))) next
end
end
end Go.Proofs.YtpolhpjiahbidaaGreatDoor
