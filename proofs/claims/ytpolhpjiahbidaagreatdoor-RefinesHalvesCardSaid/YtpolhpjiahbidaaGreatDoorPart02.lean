import Derived.Test.YtpolhpjiahbidaaGreatDoorPart01
namespace Go.Proofs.YtpolhpjiahbidaaGreatDoor
open Go Go.RowKit Go.Proofs.Tryz
set_option linter.unusedVariables false
set_option linter.unusedSimpArgs false
section
structure C3 (P:Program) (t:TypeId) (k:Nat):Prop where
  a:∀w,(isAgg t).run P w=.ok true w
  s:∀w,(sizeOf t).run P w=.ok k w
structure Ez (P:Program) (t:TypeId):Prop where
  a:∀w,(isAgg t).run P w=.ok false w
def C8 (P:Program) (t:TypeId) (cs:List Value):Prop:=∃u:Value,(∀w,(zeroValue t).run P w=.ok u w)/\u.cells=cs.toArray
section
variable {P:Program} {ops:Array Oper} {rest:List Oper} {Q:Exit->Act->World->Prop} {n d i b off k:Nat} {F F':List (Nat×Value)} {w0:A_} {L Lro:List As} {op:Op} {t ty T:TypeId} {p:String} {af:Array Edge} {u v:Value} {x y:Operand} {l:List Oper} {specs:List Sp} {cs vs:List Value}
theorem Bj {a b:Nat} (h:Nat.ble (a+1) b=true):a<b:=Nat.le_of_ble_eq_true h
theorem mv (hx:evF F x=some v) (hd:Nat.ble (d+1) n=true) (next:OkL P ops rest Q n ((d,v)::F) w0 L):OkL P ops (⟨some d,.move x,t,p,af,none⟩::rest) Q n F w0 L:=OkL.step (AP rfl) (Ac hx) rfl (Bj hd) next
theorem Zb (hx:evF F x=some v) (hd:Nat.ble (d+1) n=true) (next:OkL P ops rest Q n ((d,v)::F) w0 L):OkL P ops (⟨some d,.assign x,t,p,af,none⟩::rest) Q n F w0 L:=OkL.step (AP rfl) (Km hx) rfl (Bj hd) next
theorem Je {cs:List Value} {k:Nat} (h:cs.length=k):(cs.drop 0).take k=cs:=by rw [List.drop_zero,List.take_of_length_le (by omega)]
theorem ZS (i:Nat) (ht:C3 P ty k) (hx:evF F x=some (pP b 0)) (hi:L[i]?=some (AX b T cs)) (hl:cs.length=k) (hd:Nat.ble (d+1) n=true) (next:OkL P ops rest Q n ((d,aG cs)::F) w0 L) :
    OkL P ops (⟨some d,.load ty x,t,p,af,none⟩::rest) Q n F w0 L:=OkL.step (AP rfl) (BA hx hi ht.a ht.s (Je hl) hl) rfl (Bj hd) next
theorem ZR (i:Nat) (vs:List Value) (ht:C3 P ty k) (hx:evF F x=some (pP b off)) (hi:L[i]?=some (AX b T cs)) (hv:(cs.drop off).take k=vs) (hl:vs.length=k) (hd:Nat.ble (d+1) n=true) (next:OkL P ops rest Q n ((d,aG vs)::F) w0 L) :
    OkL P ops (⟨some d,.load ty x,t,p,af,none⟩::rest) Q n F w0 L:=OkL.step (AP rfl) (BA hx hi ht.a ht.s hv hl) rfl (Bj hd) next
theorem ZZ (i:Nat) (v:Value) (ht:Ez P ty) (hx:evF F x=some (pP b off)) (hi:L[i]?=some (AX b T cs)) (hv:cs[off]?=some v) (hd:Nat.ble (d+1) n=true) (next:OkL P ops rest Q n ((d,v)::F) w0 L) :
    OkL P ops (⟨some d,.load ty x,t,p,af,none⟩::rest) Q n F w0 L:=OkL.step (AP rfl) (AE hx hi ht.a hv) rfl (Bj hd) next
theorem bx (hx:evF F x=some v) (hv:v.cells=cs.toArray) (hd:Nat.ble (d+1) n=true) (next:∀b,OkL P ops rest Q n ((d,pP b 0)::F) w0 (AX b T cs::L)):OkL P ops (⟨some d,.box T x,t,p,af,none⟩::rest) Q n F w0 L :=
  OkL.open_ (AP rfl) (WD hx hv) rfl (Bj hd) next
theorem al (hz:C8 P T cs) (hd:Nat.ble (d+1) n=true) (next:∀b,OkL P ops rest Q n ((d,pP b 0)::F) w0 (AX b T cs::L)):OkL P ops (⟨some d,.alloc T,t,p,af,none⟩::rest) Q n F w0 L :=
  have ⟨_,h1,h2⟩:=hz
  OkL.open_ (AP rfl) (NW h1 h2) rfl (Bj hd) next
theorem cl {f:FuncId} {xs:List Operand} {args:List Value} {ts:Array TypeId} (hc:∀args w,(callFunc f args).run P w=.ok (.enter f args) w) (h:∀w,BB w0 w L->Calls P f args.toArray w (Ai w v))
    (hf:evF F x=some (.func (.func f) #[] #[])) (hargs:xs.map (evF F)=args.map some) (hd:Nat.ble (d+1) n=true) (next:OkL P ops rest Q n ((d,v)::F) w0 L) :
    OkL P ops (⟨some d,.call { callee:=.value x,args:=xs.toArray,argTypes:=ts },t,p,af,none⟩::rest) Q n F w0 L:=OkL.call (AP rfl) (Ap hf hargs hc) h rfl (Bj hd) next
theorem Uy {cs vs:List Value} (h:vs.length=cs.length):Fq cs 0 vs=vs:=by simp [Fq,h]
theorem Lm {L':List As} (hx:evF F x=some (pP b 0)) (hy:evF F y=some v) (hi:L[i]?=some (AX b T cs)) (hv:v.cells=vs.toArray) (hs:∀w,(sizeOf ty).run P w=.ok vs.length w) (h1:(vs.all λu=>u.oneCell')=true) (hl:vs.length=cs.length)
    (hL:L.set i (AX b T vs)=L') (next:OkL P ops rest Q n F w0 L'):OkL P ops (⟨none,.store ty x y,t,p,af,none⟩::rest) Q n F w0 L:=OkL.store' (AP rfl) rfl hx hy hi hv hs h1 (Nat.ble_eq_true_of_le (by omega)) (Uy hl) hL next
variable {A0 A1 A2 A3 A4 A5:As}
theorem Yd (hx:evF F x=some (pP b 0)) (hy:evF F y=some v) (hv:v.cells=vs.toArray) (hs:∀w,(sizeOf ty).run P w=.ok vs.length w) (h1:(vs.all λu=>u.oneCell')=true) (hl:vs.length=cs.length)
    (next:OkL P ops rest Q n F w0 (AX b T vs::L)):OkL P ops (⟨none,.store ty x y,t,p,af,none⟩::rest) Q n F w0 (AX b T cs::L):=Lm (i:=0) hx hy rfl hv hs h1 hl rfl next
theorem Y3 (hx:evF F x=some (pP b 0)) (hy:evF F y=some v) (hv:v.cells=vs.toArray) (hs:∀w,(sizeOf ty).run P w=.ok vs.length w) (h1:(vs.all λu=>u.oneCell')=true) (hl:vs.length=cs.length)
    (next:OkL P ops rest Q n F w0 (A0::AX b T vs::L)):OkL P ops (⟨none,.store ty x y,t,p,af,none⟩::rest) Q n F w0 (A0::AX b T cs::L):=Lm (i:=1) hx hy rfl hv hs h1 hl rfl next
theorem Ys (hx:evF F x=some (pP b 0)) (hy:evF F y=some v) (hv:v.cells=vs.toArray) (hs:∀w,(sizeOf ty).run P w=.ok vs.length w) (h1:(vs.all λu=>u.oneCell')=true) (hl:vs.length=cs.length)
    (next:OkL P ops rest Q n F w0 (A0::A1::AX b T vs::L)):OkL P ops (⟨none,.store ty x y,t,p,af,none⟩::rest) Q n F w0 (A0::A1::AX b T cs::L):=Lm (i:=2) hx hy rfl hv hs h1 hl rfl next
theorem Ya (hx:evF F x=some (pP b 0)) (hy:evF F y=some v) (hv:v.cells=vs.toArray) (hs:∀w,(sizeOf ty).run P w=.ok vs.length w) (h1:(vs.all λu=>u.oneCell')=true) (hl:vs.length=cs.length)
    (next:OkL P ops rest Q n F w0 (A0::A1::A2::AX b T vs::L)):OkL P ops (⟨none,.store ty x y,t,p,af,none⟩::rest) Q n F w0 (A0::A1::A2::AX b T cs::L):=Lm (i:=3) hx hy rfl hv hs h1 hl rfl next
theorem sr {L:List As}:L.Sublist L:=List.Sublist.refl _
theorem sl {a:As} {l1 l2:List As} (h:l1.Sublist l2):l1.Sublist (a::l2):=List.Sublist.cons _ h
theorem sk {a:As} {l1 l2:List As} (h:l1.Sublist l2):(a::l1).Sublist (a::l2):=List.Sublist.cons_cons _ h
end
section
variable {P:Program} {ops:Array Oper} {rest:List Oper} {Q:Exit->Act->World->Prop} {n:Nat} {F F':List (Nat×Value)} {w0:A_} {L Lro:List As} {specs:List Sp} {β:Nat->Value} {A0 A1 A2 A3:As}
end
def Tc (F:List (Nat×Value)):List Nat->Option (List (Nat×Value))
  | []=>some []
  | k::ks=>match F.lookup k with
    | some v=>match Tc F ks with
      | some r=>some ((k,v)::r)
      | none=>none
    | none=>none
theorem sL:∀(ks:List Nat) {F F':List (Nat×Value)},Tc F ks=some F'->C6 F' F
  | [],_,_,h=>by injection h with h;subst h;trivial
  | k::ks,F,F',h=>by
    unfold Tc at h
    split at h
    · rename_i v hv
      split at h
      · rename_i r hr
        injection h with h;subst h
        exact ⟨hv,sL ks hr⟩
      · cases h
    · cases h
def Mn:List As->Nat->As->Option (List As)
  | [],_,_=>none
  | _::r,0,y=>some (y::r)
  | x::r,i+1,y=>match Mn r i y with
    | some r'=>some (x::r')
    | none=>none
theorem GQ:∀{L:List As} {i:Nat} {y:As} {L':List As},Mn L i y=some L'->L.set i y=L'
  | [],_,_,_,h=>by cases h
  | _::r,0,y,_,h=>by injection h
  | x::r,i+1,y,L',h=>by
    unfold Mn at h
    split at h
    · rename_i r' hr
      injection h with h;subst h
      rw [List.set_cons_succ,GQ hr]
    · cases h
section
variable {α β γ δ ε:Type} {a a':α} {b b':β} {c c':γ} {d d':δ} {e e':ε}
theorem CL (h:(a,b)=(a',b')):a=a':=congrArg Prod.fst h
theorem BK (h:(a,b)=(a',b')):b=b':=congrArg Prod.snd h
end
section
variable {P:Program} {ops:Array Oper} {rest:List Oper} {Q:Exit->Act->World->Prop} {n d i b off k:Nat} {F F':List (Nat×Value)} {w0:A_} {L L' Lro:List As} {op:Op} {t ty T:TypeId} {p:String} {af:Array Edge} {u v:Value} {x y:Operand} {l:List Oper} {specs:List Sp} {cs vs:List Value} {o:Oper} {j:Nat} {g:Option (Nat×Bool)}
theorem AB {t:Nat} {b:Bool} (h:(o.guard,(ops[j]?).bind (·.dst),F.lookup t)=(some (j,b),some t,some (.bool b))):Wt ops n F o:=Vi (CL h) (CL (BK h)) (BK (BK h))
theorem AC {t:Nat} {b:Bool} (h:(o.guard,(ops[j]?).bind (·.dst),F.lookup t)=(some (j,b),some t,some (.bool (!b)))):∀a,Cf n a F->Region.wanted o (yielded ops a.tmps)=false:=WE (CL h) (CL (BK h)) (BK (BK h))
theorem AG (he:Ex P n F w0 L ⟨some d,op,t,p,af,none⟩ v) (hd:Nat.ble (d+1) n=true) (next:OkL P ops rest Q n ((d,v)::F) w0 L):OkL P ops (⟨some d,op,t,p,af,none⟩::rest) Q n F w0 L:=st he (Bj hd) next
theorem AO (h:(evF F x,Nat.ble (d+1) n)=(some v,true)) (next:OkL P ops rest Q n ((d,v)::F) w0 L):OkL P ops (⟨some d,.move x,t,p,af,none⟩::rest) Q n F w0 L:=mv (CL h) (BK h) next
theorem asg' (h:(evF F x,Nat.ble (d+1) n)=(some v,true)) (next:OkL P ops rest Q n ((d,v)::F) w0 L):OkL P ops (⟨some d,.assign x,t,p,af,none⟩::rest) Q n F w0 L:=Zb (CL h) (BK h) next
theorem BU (i:Nat) (ht:C3 P ty k) (h:(evF F x,L[i]?,cs.length,Nat.ble (d+1) n)=(some (pP b 0),some (AX b T cs),k,true)) (next:OkL P ops rest Q n ((d,aG cs)::F) w0 L) :
    OkL P ops (⟨some d,.load ty x,t,p,af,none⟩::rest) Q n F w0 L:=ZS i ht (CL h) (CL (BK h)) (CL (BK (BK h))) (BK (BK (BK h))) next
theorem EX (i:Nat) (vs:List Value) (ht:C3 P ty k) (h:(evF F x,L[i]?,(cs.drop off).take k,vs.length,Nat.ble (d+1) n)=(some (pP b off),some (AX b T cs),vs,k,true)) (next:OkL P ops rest Q n ((d,aG vs)::F) w0 L) :
    OkL P ops (⟨some d,.load ty x,t,p,af,none⟩::rest) Q n F w0 L:=ZR i vs ht (CL h) (CL (BK h)) (CL (BK (BK h))) (CL (BK (BK (BK h)))) (BK (BK (BK (BK h)))) next
theorem Aw (i:Nat) (v:Value) (ht:Ez P ty) (h:(evF F x,L[i]?,cs[off]?,Nat.ble (d+1) n)=(some (pP b off),some (AX b T cs),some v,true)) (next:OkL P ops rest Q n ((d,v)::F) w0 L) :
    OkL P ops (⟨some d,.load ty x,t,p,af,none⟩::rest) Q n F w0 L:=ZZ i v ht (CL h) (CL (BK h)) (CL (BK (BK h))) (BK (BK (BK h))) next
theorem Bg (h:(evF F x,v.cells,Nat.ble (d+1) n)=(some v,cs.toArray,true)) (next:∀b,OkL P ops rest Q n ((d,pP b 0)::F) w0 (AX b T cs::L)):OkL P ops (⟨some d,.box T x,t,p,af,none⟩::rest) Q n F w0 L :=
  bx (CL h) (CL (BK h)) (BK (BK h)) next
theorem Cq {f:FuncId} {xs:List Operand} {args:List Value} {ts:Array TypeId} (hc:∀args w,(callFunc f args).run P w=.ok (.enter f args) w) (h:∀w,BB w0 w L->Calls P f args.toArray w (Ai w v))
    (h2:(evF F x,xs.map (evF F),Nat.ble (d+1) n)=(some (.func (.func f) #[] #[]),args.map some,true)) (next:OkL P ops rest Q n ((d,v)::F) w0 L) :
    OkL P ops (⟨some d,.call { callee:=.value x,args:=xs.toArray,argTypes:=ts },t,p,af,none⟩::rest) Q n F w0 L:=cl hc h (CL h2) (CL (BK h2)) (BK (BK h2)) next
theorem ck' {f:FuncId} {xs:List Operand} {args:List Value} {ts:Array TypeId} (hc:∀args w,(callFunc f args).run P w=.ok (.enter f args) w) (h:∀w,Calls P f args.toArray w (Ai w v))
    (h2:(evF F x,xs.map (evF F),Nat.ble (d+1) n)=(some (.func (.func f) #[] #[]),args.map some,true)) (next:OkL P ops rest Q n ((d,v)::F) w0 L) :
    OkL P ops (⟨some d,.call { callee:=.value x,args:=xs.toArray,argTypes:=ts },t,p,af,none⟩::rest) Q n F w0 L:=Cq hc (λw _=>h w) h2 next
variable {A0 A1 A2 A3 A4 A5:As}
theorem Ay (h:(evF F x,evF F y,v.cells)=(some (pP b 0),some v,vs.toArray)) (hs:∀w,(sizeOf ty).run P w=.ok vs.length w) (h2:(vs.all λu=>u.oneCell',vs.length)=(true,cs.length))
    (next:OkL P ops rest Q n F w0 (AX b T vs::L)):OkL P ops (⟨none,.store ty x y,t,p,af,none⟩::rest) Q n F w0 (AX b T cs::L):=Yd (CL h) (CL (BK h)) (BK (BK h)) hs (CL h2) (BK h2) next
theorem Dw (h:(evF F x,evF F y,v.cells)=(some (pP b 0),some v,vs.toArray)) (hs:∀w,(sizeOf ty).run P w=.ok vs.length w) (h2:(vs.all λu=>u.oneCell',vs.length)=(true,cs.length))
    (next:OkL P ops rest Q n F w0 (A0::AX b T vs::L)):OkL P ops (⟨none,.store ty x y,t,p,af,none⟩::rest) Q n F w0 (A0::AX b T cs::L):=Y3 (CL h) (CL (BK h)) (BK (BK h)) hs (CL h2) (BK h2) next
theorem Gh (h:(evF F x,evF F y,v.cells)=(some (pP b 0),some v,vs.toArray)) (hs:∀w,(sizeOf ty).run P w=.ok vs.length w) (h2:(vs.all λu=>u.oneCell',vs.length)=(true,cs.length))
    (next:OkL P ops rest Q n F w0 (A0::A1::AX b T vs::L)):OkL P ops (⟨none,.store ty x y,t,p,af,none⟩::rest) Q n F w0 (A0::A1::AX b T cs::L):=Ys (CL h) (CL (BK h)) (BK (BK h)) hs (CL h2) (BK h2) next
theorem ML (h:(evF F x,evF F y,v.cells)=(some (pP b 0),some v,vs.toArray)) (hs:∀w,(sizeOf ty).run P w=.ok vs.length w) (h2:(vs.all λu=>u.oneCell',vs.length)=(true,cs.length))
    (next:OkL P ops rest Q n F w0 (A0::A1::A2::AX b T vs::L)):OkL P ops (⟨none,.store ty x y,t,p,af,none⟩::rest) Q n F w0 (A0::A1::A2::AX b T cs::L):=Ya (CL h) (CL (BK h)) (BK (BK h)) hs (CL h2) (BK h2) next
theorem FZ (i:Nat) {v:Value} {cs':List Value} (hw:Wt ops n F ⟨none,.store ty x y,t,p,af,g⟩) (h:(evF F x,evF F y,L[i]?,v.cells)=(some (pP b off),some v,some (AX b T cs),vs.toArray))
    (hs:∀w,(sizeOf ty).run P w=.ok vs.length w) (h2:(vs.all λu=>u.oneCell',Nat.ble (off+vs.length) cs.length,Fq cs off vs,Mn L i (AX b T cs'))=(true,true,cs',some L')) (next:OkL P ops rest Q n F w0 L'):OkL P ops (⟨none,.store ty x y,t,p,af,g⟩::rest) Q n F w0 L :=
  OkL.store' hw rfl (CL h) (CL (BK h)) (CL (BK (BK h))) (BK (BK (BK h))) hs (CL h2) (CL (BK h2)) (CL (BK (BK h2))) (GQ (BK (BK (BK h2)))) next
end
end
end Go.Proofs.YtpolhpjiahbidaaGreatDoor
