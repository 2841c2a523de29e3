import Derived.Test.YtpolhpjiahbidaaGreatDoorPrt00
namespace Go.Proofs.YtpolhpjiahbidaaGreatDoor
open Go Go.RowKit Go.Proofs.Tryz
open Go.Value renaming slice→qz,bool→qa
set_option linter.unusedVariables false
set_option linter.unusedSimpArgs false
section
structure Dk (P:Program) (t:TypeId) (k:Nat):Prop where
  a:∀w,(isAgg t).run P w=.ok true w
  s:∀w,(sizeOf t).run P w=.ok k w
structure F4 (P:Program) (t:TypeId):Prop where
  a:∀w,(isAgg t).run P w=.ok false w
def DU (P:Program) (t:TypeId) (cs:List Value):Prop:=∃u:Value,(∀w,(zeroValue t).run P w=.ok u w)/\u.cells=cs.toArray
section
variable {P:Program} {ops:Array Oper} {rest:List Oper} {Q:Exit->Act->World->Prop} {n d i b off k:Nat} {F F':List (Nat×Value)} {w0:BA} {L Lro:List As} {op:Op} {t ty T:TypeId} {p:String} {af:Array Edge} {u v:Value} {x y:Operand} {l:List Oper} {specs:List Sp} {cs vs:List Value}
theorem B1 {a b:Nat} (h:Nat.ble (a+1) b=true):a<b:=Nat.le_of_ble_eq_true h
theorem mv (hx:evF F x=some v) (hd:Nat.ble (d+1) n=true) (next:AQ P ops rest Q n ((d,v)::F) w0 L):AQ P ops (⟨some d,.move x,t,p,af,none⟩::rest) Q n F w0 L:=AQ.step (AM rfl) (Bv hx) rfl (B1 hd) next
theorem gu (hx:evF F x=some v) (hd:Nat.ble (d+1) n=true) (next:AQ P ops rest Q n ((d,v)::F) w0 L):AQ P ops (⟨some d,.assign x,t,p,af,none⟩::rest) Q n F w0 L:=AQ.step (AM rfl) (Mw hx) rfl (B1 hd) next
theorem Lv {cs:List Value} {k:Nat} (h:cs.length=k):(cs.drop 0).take k=cs:=by rw [List.drop_zero,List.take_of_length_le Z]
theorem hU (i:Nat) (ht:Dk P ty k) (hx:evF F x=some (pP b 0)) (hi:L[i]?=some (AU b T cs)) (hl:cs.length=k) (hd:Nat.ble (d+1) n=true) (next:AQ P ops rest Q n ((d,aG cs)::F) w0 L) :
    AQ P ops (⟨some d,.load ty x,t,p,af,none⟩::rest) Q n F w0 L:=AQ.step (AM rfl) (Ac hx hi ht.a ht.s (Lv hl) hl) rfl (B1 hd) next
theorem g_ (i:Nat) (vs:List Value) (ht:Dk P ty k) (hx:evF F x=some (pP b off)) (hi:L[i]?=some (AU b T cs)) (hv:(cs.drop off).take k=vs) (hl:vs.length=k) (hd:Nat.ble (d+1) n=true) (next:AQ P ops rest Q n ((d,aG vs)::F) w0 L) :
    AQ P ops (⟨some d,.load ty x,t,p,af,none⟩::rest) Q n F w0 L:=AQ.step (AM rfl) (Ac hx hi ht.a ht.s hv hl) rfl (B1 hd) next
theorem hO (i:Nat) (v:Value) (ht:F4 P ty) (hx:evF F x=some (pP b off)) (hi:L[i]?=some (AU b T cs)) (hv:cs[off]?=some v) (hd:Nat.ble (d+1) n=true) (next:AQ P ops rest Q n ((d,v)::F) w0 L) :
    AQ P ops (⟨some d,.load ty x,t,p,af,none⟩::rest) Q n F w0 L:=AQ.step (AM rfl) (AE hx hi ht.a hv) rfl (B1 hd) next
theorem bx (hx:evF F x=some v) (hv:v.cells=cs.toArray) (hd:Nat.ble (d+1) n=true) (next:∀b,AQ P ops rest Q n ((d,pP b 0)::F) w0 (AU b T cs::L)):AQ P ops (⟨some d,.box T x,t,p,af,none⟩::rest) Q n F w0 L :=
  xM (AM rfl) (cA hx hv) rfl (B1 hd) next
theorem al (hz:DU P T cs) (hd:Nat.ble (d+1) n=true) (next:∀b,AQ P ops rest Q n ((d,pP b 0)::F) w0 (AU b T cs::L)):AQ P ops (⟨some d,.alloc T,t,p,af,none⟩::rest) Q n F w0 L :=
  have ⟨_,h1,h2⟩:=hz
  xM (AM rfl) (Pb h1 h2) rfl (B1 hd) next
theorem cl {f:FuncId} {xs:List Operand} {args:List Value} {ts:Array TypeId} (hc:∀args w,(callFunc f args).run P w=.ok (.enter f args) w) (h:∀w,BE w0 w L->Calls P f args.toArray w (AX w v))
    (hf:evF F x=some (.func (.func f) #[] #[])) (hargs:xs.map (evF F)=args.map some) (hd:Nat.ble (d+1) n=true) (next:AQ P ops rest Q n ((d,v)::F) w0 L) :
    AQ P ops (⟨some d,.call { callee:=.value x,args:=xs.toArray,argTypes:=ts },t,p,af,none⟩::rest) Q n F w0 L:=zj (AM rfl) (Ak hf hargs hc) h rfl (B1 hd) next
theorem Y7 {cs vs:List Value} (h:vs.length=cs.length):Gy cs 0 vs=vs:=by simp [Gy,h]
theorem OG {L':List As} (hx:evF F x=some (pP b 0)) (hy:evF F y=some v) (hi:L[i]?=some (AU b T cs)) (hv:v.cells=vs.toArray) (hs:∀w,(sizeOf ty).run P w=.ok vs.length w) (h1:(vs.all λu=>u.oneCell')=true) (hl:vs.length=cs.length)
    (hL:L.set i (AU b T vs)=L') (next:AQ P ops rest Q n F w0 L'):AQ P ops (⟨none,.store ty x y,t,p,af,none⟩::rest) Q n F w0 L:=z8 (AM rfl) rfl hx hy hi hv hs h1 (Nat.ble_eq_true_of_le Z) (Y7 hl) hL next
variable {A0 A1 A2 A3 A4 A5:As}
theorem f_ (hx:evF F x=some (pP b 0)) (hy:evF F y=some v) (hv:v.cells=vs.toArray) (hs:∀w,(sizeOf ty).run P w=.ok vs.length w) (h1:(vs.all λu=>u.oneCell')=true) (hl:vs.length=cs.length)
    (next:AQ P ops rest Q n F w0 (AU b T vs::L)):AQ P ops (⟨none,.store ty x y,t,p,af,none⟩::rest) Q n F w0 (AU b T cs::L):=OG (i:=0) hx hy rfl hv hs h1 hl rfl next
theorem gA (hx:evF F x=some (pP b 0)) (hy:evF F y=some v) (hv:v.cells=vs.toArray) (hs:∀w,(sizeOf ty).run P w=.ok vs.length w) (h1:(vs.all λu=>u.oneCell')=true) (hl:vs.length=cs.length)
    (next:AQ P ops rest Q n F w0 (A0::AU b T vs::L)):AQ P ops (⟨none,.store ty x y,t,p,af,none⟩::rest) Q n F w0 (A0::AU b T cs::L):=OG (i:=1) hx hy rfl hv hs h1 hl rfl next
theorem gB (hx:evF F x=some (pP b 0)) (hy:evF F y=some v) (hv:v.cells=vs.toArray) (hs:∀w,(sizeOf ty).run P w=.ok vs.length w) (h1:(vs.all λu=>u.oneCell')=true) (hl:vs.length=cs.length)
    (next:AQ P ops rest Q n F w0 (A0::A1::AU b T vs::L)):AQ P ops (⟨none,.store ty x y,t,p,af,none⟩::rest) Q n F w0 (A0::A1::AU b T cs::L):=OG (i:=2) hx hy rfl hv hs h1 hl rfl next
theorem gC (hx:evF F x=some (pP b 0)) (hy:evF F y=some v) (hv:v.cells=vs.toArray) (hs:∀w,(sizeOf ty).run P w=.ok vs.length w) (h1:(vs.all λu=>u.oneCell')=true) (hl:vs.length=cs.length)
    (next:AQ P ops rest Q n F w0 (A0::A1::A2::AU b T vs::L)):AQ P ops (⟨none,.store ty x y,t,p,af,none⟩::rest) Q n F w0 (A0::A1::A2::AU b T cs::L):=OG (i:=3) hx hy rfl hv hs h1 hl rfl next
theorem sr {L:List As}:L.Sublist L:=xP _
theorem sl {a:As} {l1 l2:List As} (h:l1.Sublist l2):l1.Sublist (a::l2):=List.Sublist.cons _ h
theorem sk {a:As} {l1 l2:List As} (h:l1.Sublist l2):(a::l1).Sublist (a::l2):=List.Sublist.cons_cons _ h
end
section
variable {P:Program} {ops:Array Oper} {rest:List Oper} {Q:Exit->Act->World->Prop} {n:Nat} {F F':List (Nat×Value)} {w0:BA} {L Lro:List As} {specs:List Sp} {β:Nat->Value} {A0 A1 A2 A3:As}
end
def W3 (F:List (Nat×Value)):List Nat->Option (List (Nat×Value))
  | []=>some []
  | k::ks=>match F.lookup k with
    | some v=>match W3 F ks with
      | some r=>some ((k,v)::r)
      | none=>none
    | none=>none
theorem sL:∀(ks:List Nat) {F F':List (Nat×Value)},W3 F ks=some F'->CM F' F
  | [],_,_,h=>by injection h with h;subst h;trivial
  | k::ks,F,F',h=>by
    unfold W3 at h
    split at h
    · rename_i v hv
      split at h
      · rename_i r hr
        injection h with h;subst h
        exact ⟨hv,sL ks hr⟩
      · cases h
    · cases h
def Pr:List As->Nat->As->Option (List As)
  | [],_,_=>none
  | _::r,0,y=>some (y::r)
  | x::r,i+1,y=>match Pr r i y with
    | some r'=>some (x::r')
    | none=>none
theorem Hp:∀{L:List As} {i:Nat} {y:As} {L':List As},Pr L i y=some L'->L.set i y=L'
  | [],_,_,_,h=>by cases h
  | _::r,0,y,_,h=>by injection h
  | x::r,i+1,y,L',h=>by
    unfold Pr at h
    split at h
    · rename_i r' hr
      injection h with h;subst h
      rw [List.set_cons_succ,Hp hr]
    · cases h
section
variable {α β γ δ ε:Type} {a a':α} {b b':β} {c c':γ} {d d':δ} {e e':ε}
theorem Ck (h:(a,b)=(a',b')):a=a':=congrArg Prod.fst h
theorem BS (h:(a,b)=(a',b')):b=b':=congrArg Prod.snd h
end
section
variable {P:Program} {ops:Array Oper} {rest:List Oper} {Q:Exit->Act->World->Prop} {n d i b off k:Nat} {F F':List (Nat×Value)} {w0:BA} {L L' Lro:List As} {op:Op} {t ty T:TypeId} {p:String} {af:Array Edge} {u v:Value} {x y:Operand} {l:List Oper} {specs:List Sp} {cs vs:List Value} {o:Oper} {j:Nat} {g:Option (Nat×Bool)}
theorem AN {t:Nat} {b:Bool} (h:(o.guard,(ops[j]?).bind (·.dst),F.lookup t)=(some (j,b),some t,some (.bool b))):Wt ops n F o:=OS (Ck h) (Ck (BS h)) (BS (BS h))
theorem Ap {t:Nat} {b:Bool} (h:(o.guard,(ops[j]?).bind (·.dst),F.lookup t)=(some (j,b),some t,some (.bool (!b)))):∀a,C8 n a F->Region.wanted o (yielded ops a.tmps)=false:=X5 (Ck h) (Ck (BS h)) (BS (BS h))
theorem st' (he:Ex P n F w0 L ⟨some d,op,t,p,af,none⟩ v) (hd:Nat.ble (d+1) n=true) (next:AQ P ops rest Q n ((d,v)::F) w0 L):AQ P ops (⟨some d,op,t,p,af,none⟩::rest) Q n F w0 L:=st he (B1 hd) next
theorem AJ (h:(evF F x,Nat.ble (d+1) n)=(some v,true)) (next:AQ P ops rest Q n ((d,v)::F) w0 L):AQ P ops (⟨some d,.move x,t,p,af,none⟩::rest) Q n F w0 L:=mv (Ck h) (BS h) next
theorem asg' (h:(evF F x,Nat.ble (d+1) n)=(some v,true)) (next:AQ P ops rest Q n ((d,v)::F) w0 L):AQ P ops (⟨some d,.assign x,t,p,af,none⟩::rest) Q n F w0 L:=gu (Ck h) (BS h) next
theorem An (i:Nat) (ht:Dk P ty k) (h:(evF F x,L[i]?,cs.length,Nat.ble (d+1) n)=(some (pP b 0),some (AU b T cs),k,true)) (next:AQ P ops rest Q n ((d,aG cs)::F) w0 L) :
    AQ P ops (⟨some d,.load ty x,t,p,af,none⟩::rest) Q n F w0 L:=hU i ht (Ck h) (Ck (BS h)) (Ck (BS (BS h))) (BS (BS (BS h))) next
theorem C9 (i:Nat) (vs:List Value) (ht:Dk P ty k) (h:(evF F x,L[i]?,(cs.drop off).take k,vs.length,Nat.ble (d+1) n)=(some (pP b off),some (AU b T cs),vs,k,true)) (next:AQ P ops rest Q n ((d,aG vs)::F) w0 L) :
    AQ P ops (⟨some d,.load ty x,t,p,af,none⟩::rest) Q n F w0 L:=g_ i vs ht (Ck h) (Ck (BS h)) (Ck (BS (BS h))) (Ck (BS (BS (BS h)))) (BS (BS (BS (BS h)))) next
theorem A_ (i:Nat) (v:Value) (ht:F4 P ty) (h:(evF F x,L[i]?,cs[off]?,Nat.ble (d+1) n)=(some (pP b off),some (AU b T cs),some v,true)) (next:AQ P ops rest Q n ((d,v)::F) w0 L) :
    AQ P ops (⟨some d,.load ty x,t,p,af,none⟩::rest) Q n F w0 L:=hO i v ht (Ck h) (Ck (BS h)) (Ck (BS (BS h))) (BS (BS (BS h))) next
theorem BG (h:(evF F x,v.cells,Nat.ble (d+1) n)=(some v,cs.toArray,true)) (next:∀b,AQ P ops rest Q n ((d,pP b 0)::F) w0 (AU b T cs::L)):AQ P ops (⟨some d,.box T x,t,p,af,none⟩::rest) Q n F w0 L :=
  bx (Ck h) (Ck (BS h)) (BS (BS h)) next
theorem Bx {f:FuncId} {xs:List Operand} {args:List Value} {ts:Array TypeId} (hc:∀args w,(callFunc f args).run P w=.ok (.enter f args) w) (h:∀w,BE w0 w L->Calls P f args.toArray w (AX w v))
    (h2:(evF F x,xs.map (evF F),Nat.ble (d+1) n)=(some (.func (.func f) #[] #[]),args.map some,true)) (next:AQ P ops rest Q n ((d,v)::F) w0 L) :
    AQ P ops (⟨some d,.call { callee:=.value x,args:=xs.toArray,argTypes:=ts },t,p,af,none⟩::rest) Q n F w0 L:=cl hc h (Ck h2) (Ck (BS h2)) (BS (BS h2)) next
theorem ck' {f:FuncId} {xs:List Operand} {args:List Value} {ts:Array TypeId} (hc:∀args w,(callFunc f args).run P w=.ok (.enter f args) w) (h:∀w,Calls P f args.toArray w (AX w v))
    (h2:(evF F x,xs.map (evF F),Nat.ble (d+1) n)=(some (.func (.func f) #[] #[]),args.map some,true)) (next:AQ P ops rest Q n ((d,v)::F) w0 L) :
    AQ P ops (⟨some d,.call { callee:=.value x,args:=xs.toArray,argTypes:=ts },t,p,af,none⟩::rest) Q n F w0 L:=Bx hc (λw _=>h w) h2 next
variable {A0 A1 A2 A3 A4 A5:As}
theorem Aj (h:(evF F x,evF F y,v.cells)=(some (pP b 0),some v,vs.toArray)) (hs:∀w,(sizeOf ty).run P w=.ok vs.length w) (h2:(vs.all λu=>u.oneCell',vs.length)=(true,cs.length))
    (next:AQ P ops rest Q n F w0 (AU b T vs::L)):AQ P ops (⟨none,.store ty x y,t,p,af,none⟩::rest) Q n F w0 (AU b T cs::L):=f_ (Ck h) (Ck (BS h)) (BS (BS h)) hs (Ck h2) (BS h2) next
theorem CP (h:(evF F x,evF F y,v.cells)=(some (pP b 0),some v,vs.toArray)) (hs:∀w,(sizeOf ty).run P w=.ok vs.length w) (h2:(vs.all λu=>u.oneCell',vs.length)=(true,cs.length))
    (next:AQ P ops rest Q n F w0 (A0::AU b T vs::L)):AQ P ops (⟨none,.store ty x y,t,p,af,none⟩::rest) Q n F w0 (A0::AU b T cs::L):=gA (Ck h) (Ck (BS h)) (BS (BS h)) hs (Ck h2) (BS h2) next
theorem E_ (h:(evF F x,evF F y,v.cells)=(some (pP b 0),some v,vs.toArray)) (hs:∀w,(sizeOf ty).run P w=.ok vs.length w) (h2:(vs.all λu=>u.oneCell',vs.length)=(true,cs.length))
    (next:AQ P ops rest Q n F w0 (A0::A1::AU b T vs::L)):AQ P ops (⟨none,.store ty x y,t,p,af,none⟩::rest) Q n F w0 (A0::A1::AU b T cs::L):=gB (Ck h) (Ck (BS h)) (BS (BS h)) hs (Ck h2) (BS h2) next
theorem Gt (h:(evF F x,evF F y,v.cells)=(some (pP b 0),some v,vs.toArray)) (hs:∀w,(sizeOf ty).run P w=.ok vs.length w) (h2:(vs.all λu=>u.oneCell',vs.length)=(true,cs.length))
    (next:AQ P ops rest Q n F w0 (A0::A1::A2::AU b T vs::L)):AQ P ops (⟨none,.store ty x y,t,p,af,none⟩::rest) Q n F w0 (A0::A1::A2::AU b T cs::L):=gC (Ck h) (Ck (BS h)) (BS (BS h)) hs (Ck h2) (BS h2) next
theorem Ei (i:Nat) {v:Value} {cs':List Value} (hw:Wt ops n F ⟨none,.store ty x y,t,p,af,g⟩) (h:(evF F x,evF F y,L[i]?,v.cells)=(some (pP b off),some v,some (AU b T cs),vs.toArray))
    (hs:∀w,(sizeOf ty).run P w=.ok vs.length w) (h2:(vs.all λu=>u.oneCell',Nat.ble (off+vs.length) cs.length,Gy cs off vs,Pr L i (AU b T cs'))=(true,true,cs',some L')) (next:AQ P ops rest Q n F w0 L'):AQ P ops (⟨none,.store ty x y,t,p,af,g⟩::rest) Q n F w0 L :=
  z8 hw rfl (Ck h) (Ck (BS h)) (Ck (BS (BS h))) (BS (BS (BS h))) hs (Ck h2) (Ck (BS h2)) (Ck (BS (BS h2))) (Hp (BS (BS (BS h2)))) next
end
theorem Au {P:Program} {ops:Array Oper} {rest:List Oper} {Q:Exit->Act->World->Prop} {n j d t2:Nat} {b:Bool} {F:List (Nat×Value)} {w0:BA} {L:List As} {v:Value} {o:Oper} (h:(o.guard,(ops[j]?).bind (·.dst),F.lookup t2,o.dst,Nat.ble (d+1) n)=(some (j,b),some t2,some (.bool b),some d,true)) (he:Ex P n F w0 L o v) (next:AQ P ops rest Q n ((d,v)::F) w0 L):AQ P ops (o::rest) Q n F w0 L :=
  AQ.step (OS (Ck h) (Ck (BS h)) (Ck (BS (BS h)))) he (Ck (BS (BS (BS h)))) (Nat.le_of_ble_eq_true (BS (BS (BS (BS h))))) next
theorem Aw {P:Program} {ops:Array Oper} {rest:List Oper} {Q:Exit->Act->World->Prop} {n j d t2:Nat} {b:Bool} {F:List (Nat×Value)} {w0:BA} {L:List As} {o:Oper} (h:(o.guard,(ops[j]?).bind (·.dst),F.lookup t2,o.dst,Nat.ble (d+1) n)=(some (j,b),some t2,some (.bool (!b)),some d,true)) (next:AQ P ops rest Q n ((d,undef)::F) w0 L):AQ P ops (o::rest) Q n F w0 L :=
  yS (X5 (Ck h) (Ck (BS h)) (Ck (BS (BS h)))) (Ck (BS (BS (BS h)))) (Nat.le_of_ble_eq_true (BS (BS (BS (BS h))))) next
theorem EV {P:Program} {ops:Array Oper} {rest:List Oper} {Q:Exit->Act->World->Prop} {n j d t2:Nat} {b:Bool} {F:List (Nat×Value)} {w0:BA} {L:List As} {v:Value} {x:Operand} {t:TypeId} {p:String} {af:Array Edge} (h:((ops[j]?).bind (·.dst),F.lookup t2,evF F x,Nat.ble (d+1) n)=(some t2,some (.bool b),some v,true)) (next:AQ P ops rest Q n ((d,v)::F) w0 L):AQ P ops (⟨some d,.move x,t,p,af,some (j,b)⟩::rest) Q n F w0 L :=
  AQ.step (OS rfl (Ck h) (Ck (BS h))) (Bv (Ck (BS (BS h)))) rfl (Nat.le_of_ble_eq_true (BS (BS (BS h)))) next
end
section
set_option maxRecDepth 100000
theorem e8:F4 prog 2:=⟨isAgg2⟩
theorem BN:F4 prog 3:=⟨isAgg3⟩
theorem Kc:F4 prog 4:=⟨isAgg4⟩
theorem UV:F4 prog 9:=⟨isAgg9⟩
theorem Pz:F4 prog 22:=⟨isAgg22⟩
theorem CQ:F4 prog 23:=⟨isAgg23⟩
theorem GS:F4 prog 24:=⟨isAgg24⟩
theorem Px:Dk prog 26 3:=⟨isAgg26,sizeOf26⟩
theorem DS:F4 prog 28:=⟨isAgg28⟩
theorem Bu:Dk prog 30 3:=⟨isAgg30,sizeOf30⟩
theorem Fm:F4 prog 36:=⟨isAgg36⟩
theorem OI:F4 prog 37:=⟨isAgg37⟩
theorem C1:Dk prog 39 3:=⟨isAgg39,sizeOf39⟩
theorem IN:Dk prog 49 4:=⟨isAgg49,sizeOf49⟩
theorem Zr:Dk prog 50 4:=⟨isAgg50,sizeOf50⟩
theorem Gz:F4 prog 69:=⟨isAgg69⟩
theorem B3:Dk prog 71 2:=⟨isAgg71,sizeOf71⟩
theorem UT:Dk prog 73 2:=⟨isAgg73,sizeOf73⟩
theorem DK:Dk prog 75 3:=⟨isAgg75,sizeOf75⟩
theorem Bj:Dk prog 77 5:=⟨isAgg77,sizeOf77⟩
theorem GT:F4 prog 79:=⟨isAgg79⟩
theorem Py:Dk prog 81 2:=⟨isAgg81,sizeOf81⟩
theorem B9:Dk prog 83 3:=⟨isAgg83,sizeOf83⟩
theorem ch:F4 prog 92:=⟨isAgg92⟩
theorem UU:Dk prog 94 2:=⟨isAgg94,sizeOf94⟩
theorem eM:Dk prog 96 4:=⟨isAgg96,sizeOf96⟩
theorem BD:Dk prog 99 10:=⟨isAgg99,sizeOf99⟩
theorem CY:Dk prog 105 3:=⟨isAgg105,sizeOf105⟩
theorem Ls:Dk prog 110 3:=⟨isAgg110,sizeOf110⟩
theorem BK:Dk prog 121 6:=⟨isAgg121,sizeOf121⟩
theorem HQ:Dk prog 157 6:=⟨isAgg157,sizeOf157⟩
theorem NN:Dk prog 240 2:=⟨isAgg240,sizeOf240⟩
theorem NO:Dk prog 291 30:=⟨isAgg291,sizeOf291⟩
theorem eL:Dk prog 328 15:=⟨isAgg328,sizeOf328⟩
theorem Hw:DU prog 30 ([jj,jj,jj]):=⟨_,zeroValue30,rfl⟩
theorem OJ:DU prog 39 ([jj,jj,jj]):=⟨_,zeroValue39,rfl⟩
theorem Hx:DU prog 49 ([(vI 0),(vI 0),(vI 0),(vI 0)]):=⟨_,zeroValue49,rfl⟩
theorem cj:DU prog 50 ([(vI 0),(vI 0),(vI 0),(vI 0)]):=⟨_,zeroValue50,rfl⟩
theorem Gl:DU prog 71 (AT 0):=⟨_,zeroValue71,rfl⟩
theorem eZ:DU prog 73 (AT 0):=⟨_,zeroValue73,rfl⟩
theorem J5:DU prog 75 (A7 0):=⟨_,zeroValue75,rfl⟩
theorem Dg:DU prog 77 (AG (0:Rat)):=⟨_,zeroValue77,rfl⟩
theorem UW:DU prog 81 ([(qa false),jj]):=⟨_,zeroValue81,rfl⟩
theorem Fo:DU prog 83 ([(qa false),jj,jj]):=⟨_,zeroValue83,rfl⟩
theorem Fh:DU prog 99 (Ad (⟨0,0⟩:Pt)):=⟨_,zeroValue99,rfl⟩
theorem Gu:DU prog 105 ([(vI 0),(vI 0),(vI 0)]):=⟨_,zeroValue105,rfl⟩
theorem eW:DU prog 110 ([(vI 0),(vI 0),(vI 0)]):=⟨_,zeroValue110,rfl⟩
theorem FA:DU prog 121 ([(qa false),jj,jj,(qa false),jj,jj]):=⟨_,zeroValue121,rfl⟩
theorem Lt:DU prog 157 ([(vI 0),(vI 0),(vI 0),(vI 0),(vI 0),(vI 0)]):=⟨_,zeroValue157,rfl⟩
theorem eX:DU prog 221 (AG (0:Rat)):=⟨_,zeroValue221,rfl⟩
theorem Xn:DU prog 240 ([(vI 0),(vI 0)]):=⟨_,zeroValue240,rfl⟩
theorem Xo:DU prog 291 (Ad (⟨0,0⟩:Pt)++Ad (⟨0,0⟩:Pt)++Ad (⟨0,0⟩:Pt)):=⟨_,zeroValue291,rfl⟩
theorem NP:DU prog 328 (AG (0:Rat)++AG (0:Rat)++AG (0:Rat)):=⟨_,zeroValue328,rfl⟩
theorem eY:DU prog 331 ([(Value.int .u8 (0:Int)),(Value.int .u8 (0:Int)),(Value.int .u8 (0:Int)),(Value.int .u8 (0:Int)),(Value.int .u8 (0:Int)),(Value.int .u8 (0:Int)),(Value.int .u8 (0:Int)),(Value.int .u8 (0:Int)),(Value.int .u8 (0:Int)),(Value.int .u8 (0:Int)),(Value.int .u8 (0:Int)),(Value.int .u8 (0:Int)),(Value.int .u8 (0:Int)),(Value.int .u8 (0:Int)),(Value.int .u8 (0:Int)),(Value.int .u8 (0:Int)),(Value.int .u8 (0:Int)),(Value.int .u8 (0:Int)),(Value.int .u8 (0:Int)),(Value.int .u8 (0:Int)),(Value.int .u8 (0:Int)),(Value.int .u8 (0:Int)),(Value.int .u8 (0:Int)),(Value.int .u8 (0:Int))]):=⟨_,zeroValue331,rfl⟩
end
section
def V2 (l:List Oper) (i:Nat) (o:Oper):Bool:=(List.range l.length).all λk=>k == i||match l[k]? with
  | some ok=>En o k||En ok i||o.apart l.toArray ok
  | none=>true
def fM (l:List Oper):Nat:=bif Nat.ble 45 l.length then 8 else 4
def EB (l:List Oper):List Nat->Option Nat->List (Nat×Bool)->Bool
  | _,_,[]=>true
  | D,p,(i,k)::r=>(match l[i]? with
      | some o=>(o.after.all λe=>!Region.binds .any e||D.contains e.on)&&(match p with|some q=>CS l (fM l) i q|none=>true)&&(!k||V2 l i o)&&!D.contains i
      | none=>false)&&EB l (i::D) (if k then p else some i) r
def Ng (l:List Oper) (D:List Nat) (es:List (Nat×Bool)):Bool:=(List.range l.length).all λi=>D.contains i||es.any λe=>e.1 == i
def YW (l:List Oper) (es:List (Nat×Bool)):Bool:=EB l [] none es&&Ng l [] es&&Nat.beq es.length l.length&&Region.noSelect l.toArray
section
variable {P:Program} {ops:Array Oper} {Q:Exit->Act->World->Prop} {n:Nat} {w0:BA} {Lro L L':List As} {F F':List (Nat×Value)} {l:List Oper}
theorem gi {o:Oper} {a:Act} {w:World} {K K':Act->World->Prop} {Q':Exit->Act->World->Prop} (h:∀a w,K a w->K' a w) (hp:∀c a w,Q (.panic c) a w->Q' (.panic c) a w) (hl:LetsOut Q->LetsOut Q') (hh:o.wp P a w K Q):o.wp P a w K' Q':=by
  unfold Oper.wp at *
  generalize (execOp a.eval o).run P w=r at *
  cases r with
  | ok n w' =>
    cases n<;>simp only [Oper.upon] at hh ⊢ <;>
      first
        | exact h _ _ hh
        | exact Calls.mono hh (λe w'' he=>by cases e<;>first|exact h _ _ he|exact hp _ _ _ he|exact hl he)
        | exact Rows.mono hh (λ_ _ he=>h _ _ he)
  | halt x w'=>cases x<;>simp only [Oper.upon] at hh ⊢<;>first|exact hp _ _ _ hh|exact hl hh|exact hh
def dO (P:Program) (ops:Array Oper) (n:Nat) (w0:BA) (Lro:List As) (F:List (Nat×Value)) (o:Oper) (v:Value):Prop :=
  (Wt ops n F o/\Ex P n F w0 Lro o v)\/((∀a,C8 n a F->Region.wanted o (yielded ops a.tmps)=false)/\v=undef)
def Wk (Lro L:List As):Prop:=∀(w0:BA) (w:World),BE w0 w L->BE w0 w Lro
theorem Wk.of {Lro L:List As} (h:Lro.Sublist L):Wk Lro L:=λ_ _ hw=>hw.weak h
def PE (Q:Exit->Act->World->Prop) (n:Nat) (w0:BA) (Lro:List As) (K:List (Nat×Value)->List As->Prop):Exit->Act->World->Prop
  | .normal,a,w=>∃F' L',C8 n a F'/\BE w0 w L'/\Wk Lro L'/\K F' L'
  | e,a,w=>Q e a w
def OkE (P:Program) (ops:Array Oper) (Q:Exit->Act->World->Prop) (n:Nat) (w0:BA) (Lro:List As):List (Nat×Bool)->List (Nat×Value)->List As->Prop
  | [],F,L=>OkQ Q .normal n F w0 L
  | (i,true)::r,F,L=>∃o d v,ops[i]?=some o/\o.dst=some d/\d<n/\dO P ops n w0 Lro F o v/\OkE P ops Q n w0 Lro r ((d,v)::F) L
  | (i,false)::r,F,L=>∃o,ops[i]?=some o/\AQ P ops [o] (PE Q n w0 Lro λF' L'=>OkE P ops Q n w0 Lro r F' L') n F w0 L
def dN (P:Program) (ops:Array Oper) (Q:Exit->Act->World->Prop) (n:Nat) (w0:BA) (Lro:List As) (j:Nat) (e2:List (Nat×Bool)):List (Nat×Bool)->List (Nat×Value)->List As->Prop
  | [],F,L=>∃o,ops[j]?=some o/\AQ P ops [o] (PE Q n w0 Lro λF' L'=>OkE P ops Q n w0 Lro e2 F' L') n F w0 L
  | (i,true)::r,F,L=>∃o d v,ops[i]?=some o/\o.dst=some d/\d<n/\dO P ops n w0 Lro F o v/\dN P ops Q n w0 Lro j e2 r ((d,v)::F) L
  | (i,false)::r,F,L=>(∃o,ops[i]?=some o/\AQ P ops [o] (PE Q n w0 Lro λF' L'=>dN P ops Q n w0 Lro j e2 r F' L') n F w0 L) /\
      ∃o,ops[j]?=some o/\AQ P ops [o] (PE Q n w0 Lro λF' L'=>OkE P ops Q n w0 Lro ((i,false)::r++e2) F' L') n F w0 L
theorem I3 {i:Nat} {o:Oper} {K:List (Nat×Value)->List As->Prop} {K':Act->World->Prop} {a:Act} {w:World} (hi:ops[i]?=some o) (h:wpList P ops (PE Q n w0 Lro K) [o] a w)
    (hK:∀F' L' a' w',C8 n a' F'->BE w0 w' L'->Wk Lro L'->K F' L'->K' a' w'):wpOp P ops Q i K' a w:=by
  unfold wpOp
  simp only [hi]
  unfold wpList at h
  have go:∀a' w',wpList P ops (PE Q n w0 Lro K) [] a' w'->K' a' w':=λa' w' h=>by
    obtain ⟨F',L',h1,h2,h3,h4⟩:=(show PE Q n w0 Lro K .normal a' w' from h)
    exact hK F' L' a' w' h1 h2 h3 h4
  split
  · rename_i hw
    rw [if_pos hw] at h
    rcases h with h|h
    · exact .inl (gi go (λ_ _ _ h=>h) (λh=>h) h)
    · exact .inr h
  · rename_i hw
    rw [if_neg hw] at h
    exact go _ _ h
theorem H0 {listed:Array Bool} (hcl:∀(j:Nat) (o:Oper),listed.getD j false=true->l[j]?=some o->∀e∈o.after,Region.binds .any e=true->listed.getD e.on false=true) :
    ∀(f i j:Nat) (o:Oper),CS l f i j=true->l[i]?=some o->(∀e∈o.after,Region.binds .any e=true->listed.getD e.on false=true)->listed.getD j false=true
  | 0,i,j,o,h,_,_=>by simp [CS] at h
  | f+1,i,j,o,h,ho,hp=>by
    unfold CS at h
    simp only [ho,xY] at h
    rcases h with h|h
    · obtain ⟨e,he,hb,rfl⟩:=Dl h
      exact hp e he hb
    · obtain ⟨k,hk,h⟩:=List.any_eq_true.1 h
      simp only [xZ] at h
      obtain ⟨e,he,hb,rfl⟩:=Dl h.1
      have hl:=hp e he hb
      have hk':e.on<l.length:=List.mem_range.1 hk
      have ho':l[e.on]?=some l[e.on]:=xN hk'
      exact H0 hcl f e.on j _ h.2 ho' (λe' he' hb'=>hcl _ _ hl ho' e' he' hb')
structure fC (l:List Oper) (D:List Nat) (p:Option Nat) (i:Nat) (k:Bool) (r:List (Nat×Bool)) (o:Oper):Prop where
  at_:l[i]?=some o
  pre:∀e∈o.after,Region.binds .any e=true->e.on∈D
  bef:∀q,p=some q->CS l (fM l) i q=true
  fr:k=true->V2 l i o=true
  nin:i ∉ D
  tl:EB l (i::D) (if k then p else some i) r=true
theorem DV {D:List Nat} {p:Option Nat} {i:Nat} {k:Bool} {r:List (Nat×Bool)} (h:EB l D p ((i,k)::r)=true):∃o,fC l D p i k r o:=by
  unfold EB at h
  rw [xZ] at h
  obtain ⟨h1,h2⟩:=h
  cases ho:l[i]? with
  | none=>simp [ho] at h1
  | some o =>
    simp only [ho,xZ] at h1
    obtain ⟨⟨⟨h3,h4⟩,h5⟩,h6⟩:=h1
    refine ⟨o,ho,λe he hb=>?_,λq hq=>?_,λhk=>?_,by simpa using h6,h2⟩
    · have:=Array.all_eq_true_iff_forall_mem.1 h3 e he
      simpa [hb] using this
    · subst hq;exact h4
    · subst hk;simpa using h5
theorem EC:∀{es:List (Nat×Bool)} {D:List Nat} {p:Option Nat},EB l D p es=true->∀e∈es,e.1 ∉ D/\e.1<l.length
  | [],_,_,_,e,he=>by cases he
  | (i,k)::r,D,p,h,e,he=>by
    obtain ⟨o,hg⟩:=DV h
    rcases xy.1 he with rfl|he
    · exact ⟨hg.nin,(List.getElem?_eq_some_iff.1 hg.at_).1⟩
    · have:=EC hg.tl e he
      exact ⟨λhd=>this.1 (List.mem_cons_of_mem _ hd),this.2⟩
theorem E1 {listed:Array Bool} (hcl:∀(j:Nat) (o:Oper),listed.getD j false=true->l[j]?=some o->∀e∈o.after,Region.binds .any e=true->listed.getD e.on false=true) :
    ∀{es:List (Nat×Bool)} {D:List Nat} {p:Nat},EB l D (some p) es=true->listed.getD p false=false->(∀e∈es,listed.getD e.1 false=false)->∀e∈es,e.1 ∉ Region.ready .any l.toArray listed
  | [],_,_,_,_,_,e,he=>by cases he
  | (i,k)::r,D,p,h,hp,hu,e,he=>by
    obtain ⟨o,hg⟩:=DV h
    rcases xy.1 he with rfl|he2
    · intro hr
      obtain ⟨_,o',ho',hall⟩:=mem_ready.1 hr
      have:=H0 hcl (fM l) i p o' (hg.bef p rfl) (by simpa using ho') hall
      rw [hp] at this;cases this
    · have hu':∀e∈r,listed.getD e.1 false=false:=λe he=>hu e (List.mem_cons_of_mem _ he)
      have htl:=hg.tl
      cases k with
      | true=>exact E1 hcl htl hp hu' e he2
      | false=>exact E1 hcl htl (hu (i,false) List.mem_cons_self) hu' e he2
structure NZ (l:List Oper) (D:List Nat) (listed:Array Bool):Prop where
  size:listed.size=l.length
  mem:∀i,i∈D↔listed.getD i false=true
  cl:∀(j:Nat) (o:Oper),listed.getD j false=true->l[j]?=some o->∀e∈o.after,Region.binds .any e=true->listed.getD e.on false=true
theorem NZ.no {D:List Nat} {listed:Array Bool} (h:NZ l D listed) {i:Nat} (hn:i ∉ D):listed.getD i false=false:=by
  cases hx:listed.getD i false with
  | false=>rfl
  | true=>exact absurd ((h.mem i).2 hx) hn
theorem Cr {listed:Array Bool} {i:Nat} (hi:i<listed.size):listed.getD i true=listed.getD i false:=by simp [hi]
theorem NZ.add {D:List Nat} {listed:Array Bool} (h:NZ l D listed) {i:Nat} {o:Oper} (ho:l[i]?=some o) (hp:∀e∈o.after,Region.binds .any e=true->listed.getD e.on false=true):NZ l (i::D) (listed.setIfInBounds i true):=by
  have hil:i<l.length:=(List.getElem?_eq_some_iff.1 ho).1
  have his:i<listed.size:=by rw [h.size];exact hil
  refine ⟨by simpa using h.size,λk=>?_,λj o' hj ho' e he hb=>?_⟩
  · rw [Ic _ _ _ _ his]
    by_cases e:i=k
    · subst e;simp
    · rw [if_neg e,<-h.mem k]
      exact ⟨λhm=>(xy.1 hm).elim (λe2=>absurd e2.symm e) id,List.mem_cons_of_mem _⟩
  · rw [Ic _ _ _ _ his] at hj ⊢
    have:listed.getD e.on false=true:=by
      by_cases e1:i=j
      · subst e1
        rw [ho] at ho';injection ho' with ho';subst ho'
        exact hp e he hb
      · rw [if_neg e1] at hj
        exact h.cl j o' hj ho' e he hb
    split
    · rfl
    · exact this
theorem GK {D:List Nat} {listed:Array Bool} (hL:NZ l D listed) {i:Nat} {o:Oper} (ho:l[i]?=some o) (hf:V2 l i o=true) (hp:∀e∈o.after,Region.binds .any e=true->listed.getD e.on false=true) (j:Nat) (oj:Oper) (hj:l.toArray[j]?=some oj) (hne:j≠i) (hun:listed.getD j true=false) (hno:∀e∈oj.after,Region.binds .any e=true->e.on≠i) :
    o.apart l.toArray oj=true:=by
  have hj':l[j]?=some oj:=by simpa using hj
  have hjl:j<l.length:=(List.getElem?_eq_some_iff.1 hj').1
  have h1:=List.all_eq_true.1 hf j (List.mem_range.2 hjl)
  simp only [hj',xY,beq_iff_eq,hne,false_or] at h1
  rcases h1 with (h1|h1)|h1
  · obtain ⟨e,he,hb,rfl⟩:=Dl h1
    have:=hp e he hb
    rw [Cr (by rw [hL.size];exact hjl)] at hun
    rw [hun] at this;cases this
  · obtain ⟨e,he,hb,h2⟩:=Dl h1
    exact absurd h2 (hno e he hb)
  · exact h1
theorem UG {D:List Nat} {listed:Array Bool} (hL:NZ l D listed) (hall:∀i,i<l.length->i∈D):Region.ready .any l.toArray listed=[]:=by
  cases hr:Region.ready .any l.toArray listed with
  | nil=>rfl
  | cons j r =>
    obtain ⟨h0,o,ho,_⟩:=(mem_ready (md:=.any) (ops:=l.toArray) (listed:=listed) (j:=j)).1 (by rw [hr];exact List.mem_cons_self ..)
    have hjl:j<l.length:=by simpa using (Array.getElem?_eq_some_iff.1 ho).1
    have:=(hL.mem j).1 (hall j hjl)
    rw [Cr (by rw [hL.size];exact hjl)] at h0
    rw [h0] at this;cases this
theorem dA (hQ:∀c a d v w,Q (.panic c) (a.put d v) w->Q (.panic c) a w) (c) (a:Act) (d:Option Tmp) (v:Value) (w:World) (h:Q (.panic c) (a.put d v) w):Q (.panic c) a w:=hQ c a d v w h
theorem Ja (hsel:Region.noSelect l.toArray=true) (hQ:∀c a d v w,Q (.panic c) (a.put d v) w->Q (.panic c) a w) :
    ∀(es:List (Nat×Bool)) (D:List Nat) (p:Option Nat) (listed:Array Bool) (a:Act) (w:World) (F:List (Nat×Value)) (L:List As),
      EB l D p es=true->NZ l D listed->(∀i,i<l.length->i∈D\/es.any (λe=>e.1 == i)=true)->Wk Lro L->C8 n a F->BE w0 w L->OkE P l.toArray Q n w0 Lro es F L ->
      wpAnyH P .any l.toArray Q (λw=>BE w0 w Lro) es.length listed a w
  | [],D,p,listed,a,w,F,L,hc,hL,hall,hro,ha,hw,h=>⟨UG hL λi hi=>(hall i hi).resolve_right jX,h a w ha hw⟩
  | (i,true)::r,D,p,listed,a,w,F,L,hc,hL,hall,hro,ha,hw,h=>by
    obtain ⟨o,hg⟩:=DV hc
    obtain ⟨o',d,v,ho',hd,hdn,hy,hn⟩:=h
    have hat:l.toArray[i]?=some o:=by simpa using hg.at_
    rw [hat] at ho';injection ho' with ho';subst ho'
    have hil:i<l.length:=(List.getElem?_eq_some_iff.1 hg.at_).1
    have hp:∀e∈o.after,Region.binds .any e=true->listed.getD e.on false=true:=λe he hb=>(hL.mem _).1 (hg.pre e he hb)
    have hun:=hL.no hg.nin
    have hrd:i∈Region.ready .any l.toArray listed:=mem_ready.2 ⟨by rw [Cr (by rw [hL.size];exact hil)];exact hun,o,hat,hp⟩
    have hyield:YieldsIf P l.toArray (λw=>BE w0 w Lro) o v a:=by
      rcases hy with ⟨h1,h2⟩|⟨h1,h2⟩
      · exact .inl ⟨h1 a ha,λw hW=>h2 a w ha hW⟩
      · exact .inr ⟨h1 a ha,h2⟩
    refine wpAnyH_first hat (Region.noSelect_spec hsel) (λc a w=>dA hQ c a o.dst v w) r.length listed a w (GK hL hg.at_ (hg.fr O) hp) hrd hyield (hro _ _ hw) ?_
    refine Ja hsel hQ r (i::D) p _ _ w ((d,v)::F) L hg.tl (hL.add hg.at_ hp) (λk hk=>?_) hro (by rw [hd];exact ha.put hdn) hw hn
    rcases hall k hk with h1|h1
    · exact .inl (List.mem_cons_of_mem _ h1)
    · simp only [List.any_cons,xY,beq_iff_eq] at h1
      rcases h1 with h1|h1
      · exact .inl (h1▸List.mem_cons_self)
      · exact .inr h1
  | (i,false)::r,D,p,listed,a,w,F,L,hc,hL,hall,hro,ha,hw,h=>by
    obtain ⟨o,hg⟩:=DV hc
    obtain ⟨o',ho',h⟩:=h
    have hat:l.toArray[i]?=some o:=by simpa using hg.at_
    rw [hat] at ho';injection ho' with ho';subst ho'
    have hil:i<l.length:=(List.getElem?_eq_some_iff.1 hg.at_).1
    have hp:∀e∈o.after,Region.binds .any e=true->listed.getD e.on false=true:=λe he hb=>(hL.mem _).1 (hg.pre e he hb)
    have hun:=hL.no hg.nin
    have hrd:i∈Region.ready .any l.toArray listed:=mem_ready.2 ⟨by rw [Cr (by rw [hL.size];exact hil)];exact hun,o,hat,hp⟩
    have hall':∀k,k<l.length->k∈i::D\/r.any (λe=>e.1 == k)=true:=λk hk=>by
      rcases hall k hk with h1|h1
      · exact .inl (List.mem_cons_of_mem _ h1)
      · simp only [List.any_cons,xY,beq_iff_eq] at h1
        rcases h1 with h1|h1
        · exact .inl (h1▸List.mem_cons_self)
        · exact .inr h1
    refine ⟨λh0=>absurd hrd (by rw [h0];exact List.not_mem_nil),λj hj=>?_⟩
    have hji:j=i:=by
      obtain ⟨h0,oj,hoj,_⟩:=mem_ready.1 hj
      have hjl:j<l.length:=by simpa using (Array.getElem?_eq_some_iff.1 hoj).1
      rw [Cr (by rw [hL.size];exact hjl)] at h0
      rcases hall' j hjl with h1|h1
      · rcases xy.1 h1 with h2|h2
        · exact h2
        · rw [(hL.mem j).1 h2] at h0;cases h0
      · obtain ⟨e,he,h2⟩:=List.any_eq_true.1 h1
        have h3:e.1=j:=by simpa using h2
        subst h3
        exact absurd hj (E1 hL.cl hg.tl hun (λe he=>hL.no λhd=>(EC hg.tl e he).1 (List.mem_cons_of_mem _ hd)) e he)
    subst hji
    exact I3 hat (h a w ha hw) λF' L' a' w' h1 h2 h3 h4=>⟨h3 _ _ h2,Ja hsel hQ r (j::D) (some j) _ a' w' F' L' hg.tl (hL.add hg.at_ hp) hall' h3 h1 h2 h4⟩
theorem NZ.congr {D D2:List Nat} {listed:Array Bool} (h:NZ l D listed) (e:∀x,x∈D↔x∈D2):NZ l D2 listed:=⟨h.size,λi=>(e i).symm.trans (h.mem i),h.cl⟩
theorem IU {es:List (Nat×Bool)} {i:Nat} (h:es.any (λe=>e.1 == i)=true):∃e∈es,e.1=i:=by
  obtain ⟨e,he,h2⟩:=List.any_eq_true.1 h
  exact ⟨e,he,by simpa using h2⟩
theorem QA {id:Nat} {l:List Oper} (hm:P.follows .mixedOrders=true) {k:Nat} (hk:k=l.length) (h:∀a w,C8 n a F->BE w0 w L->wpAnyH P .any l.toArray Q (λw=>BE w0 w Lro) k (Array.replicate l.length false) a w):OkC P (.region id l.toArray true) Q n F w0 L:=λa w ha hw=>by
  refine wp_region_held (S:=λw=>BE w0 w Lro) hm ?_
  rw [show l.toArray.size=l.length by simp,<-hk]
  subst hk
  exact h a w.drew ha hw.drew
theorem Hi:NZ l [] (Array.replicate l.length false):=by
  have hz:∀j,(Array.replicate l.length false).getD j false=false:=λj=>by
    by_cases h:j<l.length<;>simp [h]
  exact ⟨by simp,λi=>by rw [hz];simp,λj o hj=>by rw [hz] at hj;cases hj⟩
theorem OkC.chainE {id:Nat} (es:List (Nat×Bool)) (hro:Lro.Sublist L) (hm:P.follows .mixedOrders=true) (hc:YW l es=true) (hQ:∀c a d v w,Q (.panic c) (a.put d v) w->Q (.panic c) a w)
    (h:OkE P l.toArray Q n w0 Lro es F L):OkC P (.region id l.toArray true) Q n F w0 L:=by
  simp only [YW,xZ] at hc
  obtain ⟨⟨⟨h1,h2⟩,h3⟩,h4⟩:=hc
  refine QA hm (Nat.eq_of_beq_eq_true h3) λa w ha hw=>Ja h4 hQ es [] none _ a w F L h1 Hi (λi hi=>?_) (Wk.of hro) ha hw h
  have:=List.all_eq_true.1 h2 i (List.mem_range.2 hi)
  simpa using this
variable {r e2:List (Nat×Bool)} {i j d:Nat} {o:Oper} {v:Value}
theorem zT (h:OkQ Q .normal n F w0 L):OkE P ops Q n w0 Lro [] F L:=h
theorem zW (ho:ops[i]?=some o) (hw:Wt ops n F o) (he:Ex P n F w0 Lro o v) (hd:o.dst=some d) (hn:Nat.ble (d+1) n=true) (next:OkE P ops Q n w0 Lro r ((d,v)::F) L):OkE P ops Q n w0 Lro ((i,true)::r) F L:=⟨o,d,v,ho,hd,Nat.le_of_ble_eq_true hn,.inl ⟨hw,he⟩,next⟩
theorem ze (ho:ops[i]?=some o) (hw:∀a,C8 n a F->Region.wanted o (yielded ops a.tmps)=false) (hd:o.dst=some d) (hn:Nat.ble (d+1) n=true) (next:OkE P ops Q n w0 Lro r ((d,undef)::F) L):OkE P ops Q n w0 Lro ((i,true)::r) F L:=⟨o,d,undef,ho,hd,Nat.le_of_ble_eq_true hn,.inr ⟨hw,rfl⟩,next⟩
theorem zL (ho:ops[i]?=some o) (h:AQ P ops [o] (PE Q n w0 Lro λF' L'=>OkE P ops Q n w0 Lro r F' L') n F w0 L):OkE P ops Q n w0 Lro ((i,false)::r) F L:=⟨o,ho,h⟩
theorem zG (hro:Lro.Sublist L') (h:OkE P ops Q n w0 Lro r F' L'):AQ P ops [] (PE Q n w0 Lro λF' L'=>OkE P ops Q n w0 Lro r F' L') n F' w0 L':=AQ.nil λa w ha hw=>⟨F',L',ha,hw,Wk.of hro,h⟩
theorem dN.imp {oj:Oper} (ho:ops[i]?=some o) (hj:ops[j]?=some oj) (h:AQ P ops [o] (PE Q n w0 Lro λF' L'=>dN P ops Q n w0 Lro j e2 r F' L') n F w0 L) (h2:AQ P ops [oj] (PE Q n w0 Lro λF' L'=>OkE P ops Q n w0 Lro ((i,false)::r++e2) F' L') n F w0 L):dN P ops Q n w0 Lro j e2 ((i,false)::r) F L:=⟨⟨o,ho,h⟩,oj,hj,h2⟩
end
end
end Go.Proofs.YtpolhpjiahbidaaGreatDoor
