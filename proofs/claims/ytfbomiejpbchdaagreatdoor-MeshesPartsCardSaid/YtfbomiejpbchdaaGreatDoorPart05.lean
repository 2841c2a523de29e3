import Derived.Test.YtfbomiejpbchdaaGreatDoorPart04
namespace Go.Proofs.YtfbomiejpbchdaaGreatDoor
open Go Go.RowKit Go.Proofs.Tryz
set_option linter.unusedVariables false
set_option linter.unusedSimpArgs false
section
structure DC (P:Program) (t:TypeId) (k:Nat):Prop where
  a:∀w,(isAgg t).run P w=.ok true w
  s:∀w,(sizeOf t).run P w=.ok k w
structure FP (P:Program) (t:TypeId):Prop where
  a:∀w,(isAgg t).run P w=.ok false w
def DH (P:Program) (t:TypeId) (cs:List Value):Prop:=∃u:Value,(∀w,(zeroValue t).run P w=.ok u w)/\u.cells=cs.toArray
section
variable {P:Program} {ops:Array Oper} {rest:List Oper} {Q:Exit->Act->World->Prop} {n d i b off k:Nat} {F F':List (Nat×Value)} {w0:BH} {L Lro:List As} {op:Op} {t ty T:TypeId} {p:String} {af:Array Edge} {u v:Value} {x y:Operand} {l:List Oper} {specs:List Sp} {cs vs:List Value}
theorem Bw {a b:Nat} (h:Nat.ble (a+1) b=true):a<b:=Nat.le_of_ble_eq_true h
theorem mv (hx:evF F x=some v) (hd:Nat.ble (d+1) n=true) (next:AE P ops rest Q n ((d,v)::F) w0 L):AE P ops (⟨some d,.move x,t,p,af,none⟩::rest) Q n F w0 L:=AE.step (AP rfl) (BB hx) rfl (Bw hd) next
theorem WG (hx:evF F x=some v) (hd:Nat.ble (d+1) n=true) (next:AE P ops rest Q n ((d,v)::F) w0 L):AE P ops (⟨some d,.assign x,t,p,af,none⟩::rest) Q n F w0 L:=AE.step (AP rfl) (Jw hx) rfl (Bw hd) next
theorem JA {cs:List Value} {k:Nat} (h:cs.length=k):(cs.drop 0).take k=cs:=by rw [List.drop_zero,List.take_of_length_le Z]
theorem WP (i:Nat) (ht:DC P ty k) (hx:evF F x=some (pP b 0)) (hi:L[i]?=some (Ae b T cs)) (hl:cs.length=k) (hd:Nat.ble (d+1) n=true) (next:AE P ops rest Q n ((d,aG cs)::F) w0 L) :
    AE P ops (⟨some d,.load ty x,t,p,af,none⟩::rest) Q n F w0 L:=AE.step (AP rfl) (Ak hx hi ht.a ht.s (JA hl) hl) rfl (Bw hd) next
theorem WD (i:Nat) (vs:List Value) (ht:DC P ty k) (hx:evF F x=some (pP b off)) (hi:L[i]?=some (Ae b T cs)) (hv:(cs.drop off).take k=vs) (hl:vs.length=k) (hd:Nat.ble (d+1) n=true) (next:AE P ops rest Q n ((d,aG vs)::F) w0 L) :
    AE P ops (⟨some d,.load ty x,t,p,af,none⟩::rest) Q n F w0 L:=AE.step (AP rfl) (Ak hx hi ht.a ht.s hv hl) rfl (Bw hd) next
theorem WK (i:Nat) (v:Value) (ht:FP P ty) (hx:evF F x=some (pP b off)) (hi:L[i]?=some (Ae b T cs)) (hv:cs[off]?=some v) (hd:Nat.ble (d+1) n=true) (next:AE P ops rest Q n ((d,v)::F) w0 L) :
    AE P ops (⟨some d,.load ty x,t,p,af,none⟩::rest) Q n F w0 L:=AE.step (AP rfl) (AM hx hi ht.a hv) rfl (Bw hd) next
theorem bx (hx:evF F x=some v) (hv:v.cells=cs.toArray) (hd:Nat.ble (d+1) n=true) (next:∀b,AE P ops rest Q n ((d,pP b 0)::F) w0 (Ae b T cs::L)):AE P ops (⟨some d,.box T x,t,p,af,none⟩::rest) Q n F w0 L :=
  AE.open_ (AP rfl) (TV hx hv) rfl (Bw hd) next
theorem al (hz:DH P T cs) (hd:Nat.ble (d+1) n=true) (next:∀b,AE P ops rest Q n ((d,pP b 0)::F) w0 (Ae b T cs::L)):AE P ops (⟨some d,.alloc T,t,p,af,none⟩::rest) Q n F w0 L :=
  have ⟨_,h1,h2⟩:=hz
  AE.open_ (AP rfl) (La h1 h2) rfl (Bw hd) next
theorem cl {f:FuncId} {xs:List Operand} {args:List Value} {ts:Array TypeId} (hc:∀args w,(callFunc f args).run P w=.ok (.enter f args) w) (h:∀w,BN w0 w L->Calls P f args.toArray w (Al w v))
    (hf:evF F x=some (.func (.func f) #[] #[])) (hargs:xs.map (evF F)=args.map some) (hd:Nat.ble (d+1) n=true) (next:AE P ops rest Q n ((d,v)::F) w0 L) :
    AE P ops (⟨some d,.call { callee:=.value x,args:=xs.toArray,argTypes:=ts },t,p,af,none⟩::rest) Q n F w0 L:=AE.call (AP rfl) (Ao hf hargs hc) h rfl (Bw hd) next
theorem Ry {cs vs:List Value} (h:vs.length=cs.length):GY cs 0 vs=vs:=by simp [GY,h]
theorem Kh {L':List As} (hx:evF F x=some (pP b 0)) (hy:evF F y=some v) (hi:L[i]?=some (Ae b T cs)) (hv:v.cells=vs.toArray) (hs:∀w,(sizeOf ty).run P w=.ok vs.length w) (h1:(vs.all λu=>u.oneCell')=true) (hl:vs.length=cs.length)
    (hL:L.set i (Ae b T vs)=L') (next:AE P ops rest Q n F w0 L'):AE P ops (⟨none,.store ty x y,t,p,af,none⟩::rest) Q n F w0 L:=AE.store' (AP rfl) rfl hx hy hi hv hs h1 (Nat.ble_eq_true_of_le Z) (Ry hl) hL next
variable {A0 A1 A2 A3 A4 A5:As}
theorem VQ (hx:evF F x=some (pP b 0)) (hy:evF F y=some v) (hv:v.cells=vs.toArray) (hs:∀w,(sizeOf ty).run P w=.ok vs.length w) (h1:(vs.all λu=>u.oneCell')=true) (hl:vs.length=cs.length)
    (next:AE P ops rest Q n F w0 (Ae b T vs::L)):AE P ops (⟨none,.store ty x y,t,p,af,none⟩::rest) Q n F w0 (Ae b T cs::L):=Kh (i:=0) hx hy rfl hv hs h1 hl rfl next
theorem Vv (hx:evF F x=some (pP b 0)) (hy:evF F y=some v) (hv:v.cells=vs.toArray) (hs:∀w,(sizeOf ty).run P w=.ok vs.length w) (h1:(vs.all λu=>u.oneCell')=true) (hl:vs.length=cs.length)
    (next:AE P ops rest Q n F w0 (A0::Ae b T vs::L)):AE P ops (⟨none,.store ty x y,t,p,af,none⟩::rest) Q n F w0 (A0::Ae b T cs::L):=Kh (i:=1) hx hy rfl hv hs h1 hl rfl next
theorem V0 (hx:evF F x=some (pP b 0)) (hy:evF F y=some v) (hv:v.cells=vs.toArray) (hs:∀w,(sizeOf ty).run P w=.ok vs.length w) (h1:(vs.all λu=>u.oneCell')=true) (hl:vs.length=cs.length)
    (next:AE P ops rest Q n F w0 (A0::A1::Ae b T vs::L)):AE P ops (⟨none,.store ty x y,t,p,af,none⟩::rest) Q n F w0 (A0::A1::Ae b T cs::L):=Kh (i:=2) hx hy rfl hv hs h1 hl rfl next
theorem VS (hx:evF F x=some (pP b 0)) (hy:evF F y=some v) (hv:v.cells=vs.toArray) (hs:∀w,(sizeOf ty).run P w=.ok vs.length w) (h1:(vs.all λu=>u.oneCell')=true) (hl:vs.length=cs.length)
    (next:AE P ops rest Q n F w0 (A0::A1::A2::Ae b T vs::L)):AE P ops (⟨none,.store ty x y,t,p,af,none⟩::rest) Q n F w0 (A0::A1::A2::Ae b T cs::L):=Kh (i:=3) hx hy rfl hv hs h1 hl rfl next
theorem sr {L:List As}:L.Sublist L:=List.Sublist.refl _
theorem sl {a:As} {l1 l2:List As} (h:l1.Sublist l2):l1.Sublist (a::l2):=List.Sublist.cons _ h
theorem sk {a:As} {l1 l2:List As} (h:l1.Sublist l2):(a::l1).Sublist (a::l2):=List.Sublist.cons_cons _ h
end
section
variable {P:Program} {ops:Array Oper} {rest:List Oper} {Q:Exit->Act->World->Prop} {n:Nat} {F F':List (Nat×Value)} {w0:BH} {L Lro:List As} {specs:List Sp} {β:Nat->Value} {A0 A1 A2 A3:As}
end
def QN (F:List (Nat×Value)):List Nat->Option (List (Nat×Value))
  | []=>some []
  | k::ks=>match F.lookup k with
    | some v=>match QN F ks with
      | some r=>some ((k,v)::r)
      | none=>none
    | none=>none
theorem sL:∀(ks:List Nat) {F F':List (Nat×Value)},QN F ks=some F'->CX F' F
  | [],_,_,h=>by injection h with h;subst h;trivial
  | k::ks,F,F',h=>by
    unfold QN at h
    split at h
    · rename_i v hv
      split at h
      · rename_i r hr
        injection h with h;subst h
        exact ⟨hv,sL ks hr⟩
      · cases h
    · cases h
def MW:List As->Nat->As->Option (List As)
  | [],_,_=>none
  | _::r,0,y=>some (y::r)
  | x::r,i+1,y=>match MW r i y with
    | some r'=>some (x::r')
    | none=>none
theorem Gf:∀{L:List As} {i:Nat} {y:As} {L':List As},MW L i y=some L'->L.set i y=L'
  | [],_,_,_,h=>by cases h
  | _::r,0,y,_,h=>by injection h
  | x::r,i+1,y,L',h=>by
    unfold MW at h
    split at h
    · rename_i r' hr
      injection h with h;subst h
      rw [List.set_cons_succ,Gf hr]
    · cases h
section
variable {α β γ δ ε:Type} {a a':α} {b b':β} {c c':γ} {d d':δ} {e e':ε}
theorem Cl (h:(a,b)=(a',b')):a=a':=congrArg Prod.fst h
theorem BZ (h:(a,b)=(a',b')):b=b':=congrArg Prod.snd h
end
section
variable {P:Program} {ops:Array Oper} {rest:List Oper} {Q:Exit->Act->World->Prop} {n d i b off k:Nat} {F F':List (Nat×Value)} {w0:BH} {L L' Lro:List As} {op:Op} {t ty T:TypeId} {p:String} {af:Array Edge} {u v:Value} {x y:Operand} {l:List Oper} {specs:List Sp} {cs vs:List Value} {o:Oper} {j:Nat} {g:Option (Nat×Bool)}
theorem AB {t:Nat} {b:Bool} (h:(o.guard,(ops[j]?).bind (·.dst),F.lookup t)=(some (j,b),some t,some (.bool b))):Wt ops n F o:=St (Cl h) (Cl (BZ h)) (BZ (BZ h))
theorem AQ {t:Nat} {b:Bool} (h:(o.guard,(ops[j]?).bind (·.dst),F.lookup t)=(some (j,b),some t,some (.bool (!b)))):∀a,CK n a F->Region.wanted o (yielded ops a.tmps)=false:=TZ (Cl h) (Cl (BZ h)) (BZ (BZ h))
theorem AH (he:Ex P n F w0 L ⟨some d,op,t,p,af,none⟩ v) (hd:Nat.ble (d+1) n=true) (next:AE P ops rest Q n ((d,v)::F) w0 L):AE P ops (⟨some d,op,t,p,af,none⟩::rest) Q n F w0 L:=st he (Bw hd) next
theorem AO (h:(evF F x,Nat.ble (d+1) n)=(some v,true)) (next:AE P ops rest Q n ((d,v)::F) w0 L):AE P ops (⟨some d,.move x,t,p,af,none⟩::rest) Q n F w0 L:=mv (Cl h) (BZ h) next
theorem AK (h:(evF F x,Nat.ble (d+1) n)=(some v,true)) (next:AE P ops rest Q n ((d,v)::F) w0 L):AE P ops (⟨some d,.assign x,t,p,af,none⟩::rest) Q n F w0 L:=WG (Cl h) (BZ h) next
theorem BA (i:Nat) (ht:DC P ty k) (h:(evF F x,L[i]?,cs.length,Nat.ble (d+1) n)=(some (pP b 0),some (Ae b T cs),k,true)) (next:AE P ops rest Q n ((d,aG cs)::F) w0 L) :
    AE P ops (⟨some d,.load ty x,t,p,af,none⟩::rest) Q n F w0 L:=WP i ht (Cl h) (Cl (BZ h)) (Cl (BZ (BZ h))) (BZ (BZ (BZ h))) next
theorem DU (i:Nat) (vs:List Value) (ht:DC P ty k) (h:(evF F x,L[i]?,(cs.drop off).take k,vs.length,Nat.ble (d+1) n)=(some (pP b off),some (Ae b T cs),vs,k,true)) (next:AE P ops rest Q n ((d,aG vs)::F) w0 L) :
    AE P ops (⟨some d,.load ty x,t,p,af,none⟩::rest) Q n F w0 L:=WD i vs ht (Cl h) (Cl (BZ h)) (Cl (BZ (BZ h))) (Cl (BZ (BZ (BZ h)))) (BZ (BZ (BZ (BZ h)))) next
theorem BJ (i:Nat) (v:Value) (ht:FP P ty) (h:(evF F x,L[i]?,cs[off]?,Nat.ble (d+1) n)=(some (pP b off),some (Ae b T cs),some v,true)) (next:AE P ops rest Q n ((d,v)::F) w0 L) :
    AE P ops (⟨some d,.load ty x,t,p,af,none⟩::rest) Q n F w0 L:=WK i v ht (Cl h) (Cl (BZ h)) (Cl (BZ (BZ h))) (BZ (BZ (BZ h))) next
theorem Bi (h:(evF F x,v.cells,Nat.ble (d+1) n)=(some v,cs.toArray,true)) (next:∀b,AE P ops rest Q n ((d,pP b 0)::F) w0 (Ae b T cs::L)):AE P ops (⟨some d,.box T x,t,p,af,none⟩::rest) Q n F w0 L :=
  bx (Cl h) (Cl (BZ h)) (BZ (BZ h)) next
theorem D1 {f:FuncId} {xs:List Operand} {args:List Value} {ts:Array TypeId} (hc:∀args w,(callFunc f args).run P w=.ok (.enter f args) w) (h:∀w,BN w0 w L->Calls P f args.toArray w (Al w v))
    (h2:(evF F x,xs.map (evF F),Nat.ble (d+1) n)=(some (.func (.func f) #[] #[]),args.map some,true)) (next:AE P ops rest Q n ((d,v)::F) w0 L) :
    AE P ops (⟨some d,.call { callee:=.value x,args:=xs.toArray,argTypes:=ts },t,p,af,none⟩::rest) Q n F w0 L:=cl hc h (Cl h2) (Cl (BZ h2)) (BZ (BZ h2)) next
theorem BS {f:FuncId} {xs:List Operand} {args:List Value} {ts:Array TypeId} (hc:∀args w,(callFunc f args).run P w=.ok (.enter f args) w) (h:∀w,Calls P f args.toArray w (Al w v))
    (h2:(evF F x,xs.map (evF F),Nat.ble (d+1) n)=(some (.func (.func f) #[] #[]),args.map some,true)) (next:AE P ops rest Q n ((d,v)::F) w0 L) :
    AE P ops (⟨some d,.call { callee:=.value x,args:=xs.toArray,argTypes:=ts },t,p,af,none⟩::rest) Q n F w0 L:=D1 hc (λw _=>h w) h2 next
variable {A0 A1 A2 A3 A4 A5:As}
theorem Av (h:(evF F x,evF F y,v.cells)=(some (pP b 0),some v,vs.toArray)) (hs:∀w,(sizeOf ty).run P w=.ok vs.length w) (h2:(vs.all λu=>u.oneCell',vs.length)=(true,cs.length))
    (next:AE P ops rest Q n F w0 (Ae b T vs::L)):AE P ops (⟨none,.store ty x y,t,p,af,none⟩::rest) Q n F w0 (Ae b T cs::L):=VQ (Cl h) (Cl (BZ h)) (BZ (BZ h)) hs (Cl h2) (BZ h2) next
theorem Ci (h:(evF F x,evF F y,v.cells)=(some (pP b 0),some v,vs.toArray)) (hs:∀w,(sizeOf ty).run P w=.ok vs.length w) (h2:(vs.all λu=>u.oneCell',vs.length)=(true,cs.length))
    (next:AE P ops rest Q n F w0 (A0::Ae b T vs::L)):AE P ops (⟨none,.store ty x y,t,p,af,none⟩::rest) Q n F w0 (A0::Ae b T cs::L):=Vv (Cl h) (Cl (BZ h)) (BZ (BZ h)) hs (Cl h2) (BZ h2) next
theorem Lt (h:(evF F x,evF F y,v.cells)=(some (pP b 0),some v,vs.toArray)) (hs:∀w,(sizeOf ty).run P w=.ok vs.length w) (h2:(vs.all λu=>u.oneCell',vs.length)=(true,cs.length))
    (next:AE P ops rest Q n F w0 (A0::A1::Ae b T vs::L)):AE P ops (⟨none,.store ty x y,t,p,af,none⟩::rest) Q n F w0 (A0::A1::Ae b T cs::L):=V0 (Cl h) (Cl (BZ h)) (BZ (BZ h)) hs (Cl h2) (BZ h2) next
theorem I_ (h:(evF F x,evF F y,v.cells)=(some (pP b 0),some v,vs.toArray)) (hs:∀w,(sizeOf ty).run P w=.ok vs.length w) (h2:(vs.all λu=>u.oneCell',vs.length)=(true,cs.length))
    (next:AE P ops rest Q n F w0 (A0::A1::A2::Ae b T vs::L)):AE P ops (⟨none,.store ty x y,t,p,af,none⟩::rest) Q n F w0 (A0::A1::A2::Ae b T cs::L):=VS (Cl h) (Cl (BZ h)) (BZ (BZ h)) hs (Cl h2) (BZ h2) next
theorem Fc (i:Nat) {v:Value} {cs':List Value} (hw:Wt ops n F ⟨none,.store ty x y,t,p,af,g⟩) (h:(evF F x,evF F y,L[i]?,v.cells)=(some (pP b off),some v,some (Ae b T cs),vs.toArray))
    (hs:∀w,(sizeOf ty).run P w=.ok vs.length w) (h2:(vs.all λu=>u.oneCell',Nat.ble (off+vs.length) cs.length,GY cs off vs,MW L i (Ae b T cs'))=(true,true,cs',some L')) (next:AE P ops rest Q n F w0 L'):AE P ops (⟨none,.store ty x y,t,p,af,g⟩::rest) Q n F w0 L :=
  AE.store' hw rfl (Cl h) (Cl (BZ h)) (Cl (BZ (BZ h))) (BZ (BZ (BZ h))) hs (Cl h2) (Cl (BZ h2)) (Cl (BZ (BZ h2))) (Gf (BZ (BZ (BZ h2)))) next
end
end
end Go.Proofs.YtfbomiejpbchdaaGreatDoor
