import Derived.Test.YtfbomiejpbchdaaGreatDoorPart04
namespace Go.Proofs.YtfbomiejpbchdaaGreatDoor
open Go Go.RowKit Go.Proofs.Tryz
set_option linter.unusedVariables false
set_option linter.unusedSimpArgs false
section
structure DG (P:Program) (t:TypeId) (k:Nat):Prop where
  a:∀w,(isAgg t).run P w=.ok true w
  s:∀w,(sizeOf t).run P w=.ok k w
structure FP (P:Program) (t:TypeId):Prop where
  a:∀w,(isAgg t).run P w=.ok false w
def DH (P:Program) (t:TypeId) (cs:List Value):Prop:=∃u:Value,(∀w,(zeroValue t).run P w=.ok u w)/\u.cells=cs.toArray
section
variable {P:Program} {ops:Array Oper} {rest:List Oper} {Q:Exit->Act->World->Prop} {n d i b off k:Nat} {F F':List (Nat×Value)} {w0:BL} {L Lro:List As} {op:Op} {t ty T:TypeId} {p:String} {af:Array Edge} {u v:Value} {x y:Operand} {l:List Oper} {specs:List Sp} {cs vs:List Value}
theorem B3 {a b:Nat} (h:Nat.ble (a+1) b=true):a<b:=Nat.le_of_ble_eq_true h
theorem mv (hx:evF F x=some v) (hd:Nat.ble (d+1) n=true) (next:AE P ops rest Q n ((d,v)::F) w0 L):AE P ops (⟨some d,.move x,t,p,af,none⟩::rest) Q n F w0 L:=AE.step (AQ rfl) (Az hx) rfl (B3 hd) next
theorem Wi (hx:evF F x=some v) (hd:Nat.ble (d+1) n=true) (next:AE P ops rest Q n ((d,v)::F) w0 L):AE P ops (⟨some d,.assign x,t,p,af,none⟩::rest) Q n F w0 L:=AE.step (AQ rfl) (KD hx) rfl (B3 hd) next
theorem I_ {cs:List Value} {k:Nat} (h:cs.length=k):(cs.drop 0).take k=cs:=by rw [List.drop_zero,List.take_of_length_le Z]
theorem Wg (i:Nat) (ht:DG P ty k) (hx:evF F x=some (pP b 0)) (hi:L[i]?=some (Ae b T cs)) (hl:cs.length=k) (hd:Nat.ble (d+1) n=true) (next:AE P ops rest Q n ((d,aG cs)::F) w0 L) :
    AE P ops (⟨some d,.load ty x,t,p,af,none⟩::rest) Q n F w0 L:=AE.step (AQ rfl) (Al hx hi ht.a ht.s (I_ hl) hl) rfl (B3 hd) next
theorem Wa (i:Nat) (vs:List Value) (ht:DG P ty k) (hx:evF F x=some (pP b off)) (hi:L[i]?=some (Ae b T cs)) (hv:(cs.drop off).take k=vs) (hl:vs.length=k) (hd:Nat.ble (d+1) n=true) (next:AE P ops rest Q n ((d,aG vs)::F) w0 L) :
    AE P ops (⟨some d,.load ty x,t,p,af,none⟩::rest) Q n F w0 L:=AE.step (AQ rfl) (Al hx hi ht.a ht.s hv hl) rfl (B3 hd) next
theorem Wh (i:Nat) (v:Value) (ht:FP P ty) (hx:evF F x=some (pP b off)) (hi:L[i]?=some (Ae b T cs)) (hv:cs[off]?=some v) (hd:Nat.ble (d+1) n=true) (next:AE P ops rest Q n ((d,v)::F) w0 L) :
    AE P ops (⟨some d,.load ty x,t,p,af,none⟩::rest) Q n F w0 L:=AE.step (AQ rfl) (AM hx hi ht.a hv) rfl (B3 hd) next
theorem bx (hx:evF F x=some v) (hv:v.cells=cs.toArray) (hd:Nat.ble (d+1) n=true) (next:∀b,AE P ops rest Q n ((d,pP b 0)::F) w0 (Ae b T cs::L)):AE P ops (⟨some d,.box T x,t,p,af,none⟩::rest) Q n F w0 L :=
  AE.open_ (AQ rfl) (UW hx hv) rfl (B3 hd) next
theorem al (hz:DH P T cs) (hd:Nat.ble (d+1) n=true) (next:∀b,AE P ops rest Q n ((d,pP b 0)::F) w0 (Ae b T cs::L)):AE P ops (⟨some d,.alloc T,t,p,af,none⟩::rest) Q n F w0 L :=
  have ⟨_,h1,h2⟩:=hz
  AE.open_ (AQ rfl) (Lk h1 h2) rfl (B3 hd) next
theorem cl {f:FuncId} {xs:List Operand} {args:List Value} {ts:Array TypeId} (hc:∀args w,(callFunc f args).run P w=.ok (.enter f args) w) (h:∀w,BN w0 w L->Calls P f args.toArray w (Am w v))
    (hf:evF F x=some (.func (.func f) #[] #[])) (hargs:xs.map (evF F)=args.map some) (hd:Nat.ble (d+1) n=true) (next:AE P ops rest Q n ((d,v)::F) w0 L) :
    AE P ops (⟨some d,.call { callee:=.value x,args:=xs.toArray,argTypes:=ts },t,p,af,none⟩::rest) Q n F w0 L:=AE.call (AQ rfl) (Aw hf hargs hc) h rfl (B3 hd) next
theorem S4 {cs vs:List Value} (h:vs.length=cs.length):Gi cs 0 vs=vs:=by simp [Gi,h]
theorem Kq {L':List As} (hx:evF F x=some (pP b 0)) (hy:evF F y=some v) (hi:L[i]?=some (Ae b T cs)) (hv:v.cells=vs.toArray) (hs:∀w,(sizeOf ty).run P w=.ok vs.length w) (h1:(vs.all λu=>u.oneCell')=true) (hl:vs.length=cs.length)
    (hL:L.set i (Ae b T vs)=L') (next:AE P ops rest Q n F w0 L'):AE P ops (⟨none,.store ty x y,t,p,af,none⟩::rest) Q n F w0 L:=AE.store' (AQ rfl) rfl hx hy hi hv hs h1 (Nat.ble_eq_true_of_le Z) (S4 hl) hL next
variable {A0 A1 A2 A3 A4 A5:As}
theorem V9 (hx:evF F x=some (pP b 0)) (hy:evF F y=some v) (hv:v.cells=vs.toArray) (hs:∀w,(sizeOf ty).run P w=.ok vs.length w) (h1:(vs.all λu=>u.oneCell')=true) (hl:vs.length=cs.length)
    (next:AE P ops rest Q n F w0 (Ae b T vs::L)):AE P ops (⟨none,.store ty x y,t,p,af,none⟩::rest) Q n F w0 (Ae b T cs::L):=Kq (i:=0) hx hy rfl hv hs h1 hl rfl next
theorem Vu (hx:evF F x=some (pP b 0)) (hy:evF F y=some v) (hv:v.cells=vs.toArray) (hs:∀w,(sizeOf ty).run P w=.ok vs.length w) (h1:(vs.all λu=>u.oneCell')=true) (hl:vs.length=cs.length)
    (next:AE P ops rest Q n F w0 (A0::Ae b T vs::L)):AE P ops (⟨none,.store ty x y,t,p,af,none⟩::rest) Q n F w0 (A0::Ae b T cs::L):=Kq (i:=1) hx hy rfl hv hs h1 hl rfl next
theorem WC (hx:evF F x=some (pP b 0)) (hy:evF F y=some v) (hv:v.cells=vs.toArray) (hs:∀w,(sizeOf ty).run P w=.ok vs.length w) (h1:(vs.all λu=>u.oneCell')=true) (hl:vs.length=cs.length)
    (next:AE P ops rest Q n F w0 (A0::A1::Ae b T vs::L)):AE P ops (⟨none,.store ty x y,t,p,af,none⟩::rest) Q n F w0 (A0::A1::Ae b T cs::L):=Kq (i:=2) hx hy rfl hv hs h1 hl rfl next
theorem Vz (hx:evF F x=some (pP b 0)) (hy:evF F y=some v) (hv:v.cells=vs.toArray) (hs:∀w,(sizeOf ty).run P w=.ok vs.length w) (h1:(vs.all λu=>u.oneCell')=true) (hl:vs.length=cs.length)
    (next:AE P ops rest Q n F w0 (A0::A1::A2::Ae b T vs::L)):AE P ops (⟨none,.store ty x y,t,p,af,none⟩::rest) Q n F w0 (A0::A1::A2::Ae b T cs::L):=Kq (i:=3) hx hy rfl hv hs h1 hl rfl next
theorem sr {L:List As}:L.Sublist L:=List.Sublist.refl _
theorem sl {a:As} {l1 l2:List As} (h:l1.Sublist l2):l1.Sublist (a::l2):=List.Sublist.cons _ h
theorem sk {a:As} {l1 l2:List As} (h:l1.Sublist l2):(a::l1).Sublist (a::l2):=List.Sublist.cons_cons _ h
end
section
variable {P:Program} {ops:Array Oper} {rest:List Oper} {Q:Exit->Act->World->Prop} {n:Nat} {F F':List (Nat×Value)} {w0:BL} {L Lro:List As} {specs:List Sp} {β:Nat->Value} {A0 A1 A2 A3:As}
end
def RN (F:List (Nat×Value)):List Nat->Option (List (Nat×Value))
  | []=>some []
  | k::ks=>match F.lookup k with
    | some v=>match RN F ks with
      | some r=>some ((k,v)::r)
      | none=>none
    | none=>none
theorem sL:∀(ks:List Nat) {F F':List (Nat×Value)},RN F ks=some F'->Ch F' F
  | [],_,_,h=>by injection h with h;subst h;trivial
  | k::ks,F,F',h=>by
    unfold RN at h
    split at h
    · rename_i v hv
      split at h
      · rename_i r hr
        injection h with h;subst h
        exact ⟨hv,sL ks hr⟩
      · cases h
    · cases h
def NM:List As->Nat->As->Option (List As)
  | [],_,_=>none
  | _::r,0,y=>some (y::r)
  | x::r,i+1,y=>match NM r i y with
    | some r'=>some (x::r')
    | none=>none
theorem Gu:∀{L:List As} {i:Nat} {y:As} {L':List As},NM L i y=some L'->L.set i y=L'
  | [],_,_,_,h=>by cases h
  | _::r,0,y,_,h=>by injection h
  | x::r,i+1,y,L',h=>by
    unfold NM at h
    split at h
    · rename_i r' hr
      injection h with h;subst h
      rw [List.set_cons_succ,Gu hr]
    · cases h
section
variable {α β γ δ ε:Type} {a a':α} {b b':β} {c c':γ} {d d':δ} {e e':ε}
theorem Cn (h:(a,b)=(a',b')):a=a':=congrArg Prod.fst h
theorem Bd (h:(a,b)=(a',b')):b=b':=congrArg Prod.snd h
end
section
variable {P:Program} {ops:Array Oper} {rest:List Oper} {Q:Exit->Act->World->Prop} {n d i b off k:Nat} {F F':List (Nat×Value)} {w0:BL} {L L' Lro:List As} {op:Op} {t ty T:TypeId} {p:String} {af:Array Edge} {u v:Value} {x y:Operand} {l:List Oper} {specs:List Sp} {cs vs:List Value} {o:Oper} {j:Nat} {g:Option (Nat×Bool)}
theorem AB {t:Nat} {b:Bool} (h:(o.guard,(ops[j]?).bind (·.dst),F.lookup t)=(some (j,b),some t,some (.bool b))):Wt ops n F o:=TM (Cn h) (Cn (Bd h)) (Bd (Bd h))
theorem AR {t:Nat} {b:Bool} (h:(o.guard,(ops[j]?).bind (·.dst),F.lookup t)=(some (j,b),some t,some (.bool (!b)))):∀a,CO n a F->Region.wanted o (yielded ops a.tmps)=false:=UZ (Cn h) (Cn (Bd h)) (Bd (Bd h))
theorem AG (he:Ex P n F w0 L ⟨some d,op,t,p,af,none⟩ v) (hd:Nat.ble (d+1) n=true) (next:AE P ops rest Q n ((d,v)::F) w0 L):AE P ops (⟨some d,op,t,p,af,none⟩::rest) Q n F w0 L:=st he (B3 hd) next
theorem AO (h:(evF F x,Nat.ble (d+1) n)=(some v,true)) (next:AE P ops rest Q n ((d,v)::F) w0 L):AE P ops (⟨some d,.move x,t,p,af,none⟩::rest) Q n F w0 L:=mv (Cn h) (Bd h) next
theorem AK (h:(evF F x,Nat.ble (d+1) n)=(some v,true)) (next:AE P ops rest Q n ((d,v)::F) w0 L):AE P ops (⟨some d,.assign x,t,p,af,none⟩::rest) Q n F w0 L:=Wi (Cn h) (Bd h) next
theorem BD (i:Nat) (ht:DG P ty k) (h:(evF F x,L[i]?,cs.length,Nat.ble (d+1) n)=(some (pP b 0),some (Ae b T cs),k,true)) (next:AE P ops rest Q n ((d,aG cs)::F) w0 L) :
    AE P ops (⟨some d,.load ty x,t,p,af,none⟩::rest) Q n F w0 L:=Wg i ht (Cn h) (Cn (Bd h)) (Cn (Bd (Bd h))) (Bd (Bd (Bd h))) next
theorem DJ (i:Nat) (vs:List Value) (ht:DG P ty k) (h:(evF F x,L[i]?,(cs.drop off).take k,vs.length,Nat.ble (d+1) n)=(some (pP b off),some (Ae b T cs),vs,k,true)) (next:AE P ops rest Q n ((d,aG vs)::F) w0 L) :
    AE P ops (⟨some d,.load ty x,t,p,af,none⟩::rest) Q n F w0 L:=Wa i vs ht (Cn h) (Cn (Bd h)) (Cn (Bd (Bd h))) (Cn (Bd (Bd (Bd h)))) (Bd (Bd (Bd (Bd h)))) next
theorem BO (i:Nat) (v:Value) (ht:FP P ty) (h:(evF F x,L[i]?,cs[off]?,Nat.ble (d+1) n)=(some (pP b off),some (Ae b T cs),some v,true)) (next:AE P ops rest Q n ((d,v)::F) w0 L) :
    AE P ops (⟨some d,.load ty x,t,p,af,none⟩::rest) Q n F w0 L:=Wh i v ht (Cn h) (Cn (Bd h)) (Cn (Bd (Bd h))) (Bd (Bd (Bd h))) next
theorem Bq (h:(evF F x,v.cells,Nat.ble (d+1) n)=(some v,cs.toArray,true)) (next:∀b,AE P ops rest Q n ((d,pP b 0)::F) w0 (Ae b T cs::L)):AE P ops (⟨some d,.box T x,t,p,af,none⟩::rest) Q n F w0 L :=
  bx (Cn h) (Cn (Bd h)) (Bd (Bd h)) next
theorem ET {f:FuncId} {xs:List Operand} {args:List Value} {ts:Array TypeId} (hc:∀args w,(callFunc f args).run P w=.ok (.enter f args) w) (h:∀w,BN w0 w L->Calls P f args.toArray w (Am w v))
    (h2:(evF F x,xs.map (evF F),Nat.ble (d+1) n)=(some (.func (.func f) #[] #[]),args.map some,true)) (next:AE P ops rest Q n ((d,v)::F) w0 L) :
    AE P ops (⟨some d,.call { callee:=.value x,args:=xs.toArray,argTypes:=ts },t,p,af,none⟩::rest) Q n F w0 L:=cl hc h (Cn h2) (Cn (Bd h2)) (Bd (Bd h2)) next
theorem BV {f:FuncId} {xs:List Operand} {args:List Value} {ts:Array TypeId} (hc:∀args w,(callFunc f args).run P w=.ok (.enter f args) w) (h:∀w,Calls P f args.toArray w (Am w v))
    (h2:(evF F x,xs.map (evF F),Nat.ble (d+1) n)=(some (.func (.func f) #[] #[]),args.map some,true)) (next:AE P ops rest Q n ((d,v)::F) w0 L) :
    AE P ops (⟨some d,.call { callee:=.value x,args:=xs.toArray,argTypes:=ts },t,p,af,none⟩::rest) Q n F w0 L:=ET hc (λw _=>h w) h2 next
variable {A0 A1 A2 A3 A4 A5:As}
theorem Au (h:(evF F x,evF F y,v.cells)=(some (pP b 0),some v,vs.toArray)) (hs:∀w,(sizeOf ty).run P w=.ok vs.length w) (h2:(vs.all λu=>u.oneCell',vs.length)=(true,cs.length))
    (next:AE P ops rest Q n F w0 (Ae b T vs::L)):AE P ops (⟨none,.store ty x y,t,p,af,none⟩::rest) Q n F w0 (Ae b T cs::L):=V9 (Cn h) (Cn (Bd h)) (Bd (Bd h)) hs (Cn h2) (Bd h2) next
theorem C3 (h:(evF F x,evF F y,v.cells)=(some (pP b 0),some v,vs.toArray)) (hs:∀w,(sizeOf ty).run P w=.ok vs.length w) (h2:(vs.all λu=>u.oneCell',vs.length)=(true,cs.length))
    (next:AE P ops rest Q n F w0 (A0::Ae b T vs::L)):AE P ops (⟨none,.store ty x y,t,p,af,none⟩::rest) Q n F w0 (A0::Ae b T cs::L):=Vu (Cn h) (Cn (Bd h)) (Bd (Bd h)) hs (Cn h2) (Bd h2) next
theorem Le (h:(evF F x,evF F y,v.cells)=(some (pP b 0),some v,vs.toArray)) (hs:∀w,(sizeOf ty).run P w=.ok vs.length w) (h2:(vs.all λu=>u.oneCell',vs.length)=(true,cs.length))
    (next:AE P ops rest Q n F w0 (A0::A1::Ae b T vs::L)):AE P ops (⟨none,.store ty x y,t,p,af,none⟩::rest) Q n F w0 (A0::A1::Ae b T cs::L):=WC (Cn h) (Cn (Bd h)) (Bd (Bd h)) hs (Cn h2) (Bd h2) next
theorem Is (h:(evF F x,evF F y,v.cells)=(some (pP b 0),some v,vs.toArray)) (hs:∀w,(sizeOf ty).run P w=.ok vs.length w) (h2:(vs.all λu=>u.oneCell',vs.length)=(true,cs.length))
    (next:AE P ops rest Q n F w0 (A0::A1::A2::Ae b T vs::L)):AE P ops (⟨none,.store ty x y,t,p,af,none⟩::rest) Q n F w0 (A0::A1::A2::Ae b T cs::L):=Vz (Cn h) (Cn (Bd h)) (Bd (Bd h)) hs (Cn h2) (Bd h2) next
theorem F_ (i:Nat) {v:Value} {cs':List Value} (hw:Wt ops n F ⟨none,.store ty x y,t,p,af,g⟩) (h:(evF F x,evF F y,L[i]?,v.cells)=(some (pP b off),some v,some (Ae b T cs),vs.toArray))
    (hs:∀w,(sizeOf ty).run P w=.ok vs.length w) (h2:(vs.all λu=>u.oneCell',Nat.ble (off+vs.length) cs.length,Gi cs off vs,NM L i (Ae b T cs'))=(true,true,cs',some L')) (next:AE P ops rest Q n F w0 L'):AE P ops (⟨none,.store ty x y,t,p,af,g⟩::rest) Q n F w0 L :=
  AE.store' hw rfl (Cn h) (Cn (Bd h)) (Cn (Bd (Bd h))) (Bd (Bd (Bd h))) hs (Cn h2) (Cn (Bd h2)) (Cn (Bd (Bd h2))) (Gu (Bd (Bd (Bd h2)))) next
end
end
end Go.Proofs.YtfbomiejpbchdaaGreatDoor
