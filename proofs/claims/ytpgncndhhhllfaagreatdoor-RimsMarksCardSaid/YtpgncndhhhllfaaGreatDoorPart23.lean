import Derived.Lib.ItoaLen
import Derived.Laws.IdiomStrings
import Derived.Test.YtpgncndhhhllfaaGreatDoorPart06
import Derived.Test.YtpgncndhhhllfaaGreatDoorPart07
import Derived.Test.YtpgncndhhhllfaaGreatDoorPart08
import Derived.Test.YtpgncndhhhllfaaGreatDoorPart14
import Derived.Test.YtpgncndhhhllfaaGreatDoorPart18
import Derived.Test.YtpgncndhhhllfaaGreatDoorPart19
import Derived.Test.YtpgncndhhhllfaaGreatDoorPart21
import Derived.Test.YtpgncndhhhllfaaGreatDoorPart22
namespace Go.Proofs.YtpgncndhhhllfaaGreatDoor
open Go Go.RowKit Go.Proofs.Tryz
set_option linter.unusedVariables false
set_option linter.unusedSimpArgs false
section
def Vn (l:List UInt8):List Value:=l.map λx=>Value.int .u8 (x.toNat:Int)
theorem Is (l:List UInt8):(Vn l).length=l.length:=by simp [Vn]
def NK (w : World) : Prop := Lib.TabIs Tryz.prog w "internal/strconv.uint64pow10" .u64 Lib.pow10Tab
theorem RC (Z:Nat) (hZ:Z=24) (b u:Nat) (T:TypeId) (w:World) (hb:w.heap[b]?=some (.cells (List.replicate Z (Value.int .u8 0)).toArray T (0,0))) (hu:u<18446744073709551616) :
    Calls Tryz.prog 258 #[.slice (some ⟨b,0,none⟩) (Lib.nDigits u) 24,.int .u64 u] w λe w'=>e=.returned (.tuple #[])/\I8 w w' (some b)/\∃o,w'.heap[b]?=some o/\FR 0 (Vn (Lib.decDigits u)) o:=by
  have hnd:=Lib.nDigits_le20 u hu
  have hH:Go.Sort.Holds (λ(b:UInt8)=>Value.int .u8 (b.toNat:Int)) w b 0 (Array.replicate (Lib.nDigits u) (0:UInt8)):=λj hj=>by
    have hj':j<Lib.nDigits u:=by simpa using hj
    refine ⟨?_,by simp [World.frozen?,hb]⟩
    rw [cell_of_row w b _ _ T (0,0) hb,getElem!_pos _ j hj]
    simp [show j<Z by omega]
  have h:=Tryz.internal_strconv_formatBase10 b 0 24 u (Array.replicate (Lib.nDigits u) 0) w hH (by rw [Array.size_replicate];exact Lib.lt_pow_nDigits u) hu (by rw [Array.size_replicate];omega)
  rw [Array.size_replicate] at h
  refine h.mono ?_
  rintro e w' ⟨rfl,n,v',dk,rfl,hF⟩
  refine ⟨rfl,⟨⟨rfl,rfl,rfl,by simp [Go.Sort.putRow,Go.Sort.mapBlock],λk hk hne=>?_⟩,(by show w.drawn<=w.drawn+n;omega)⟩,_,(by simp only [World.heap_drewN,Go.Sort.putRow,Go.Sort.mapBlock,Array.getElem?_modify,hb,if_true,Option.map_some,Go.Sort.onCells]:_=some (.cells (Go.Sort.putCells (λ(b:UInt8)=>Value.int .u8 (b.toNat:Int)) 0 dk (List.replicate Z (Value.int .u8 0)).toArray) T (0,0))),_,T,(0,0),rfl,?_⟩
  · have:b≠k:=λe=>hne (by rw [e])
    simp [Go.Sort.putRow,Go.Sort.mapBlock,Array.getElem?_modify,this]
  · have hsz:dk.size=Lib.nDigits u:=hF.size
    rw [Is,Lib.decDigits_length]
    apply List.ext_getElem?
    intro j
    by_cases hj:j<Lib.nDigits u
    · have hjd:j<(Lib.decDigits u).length:=by rw [Lib.decDigits_length];exact hj
      rw [List.drop_zero,List.getElem?_take_of_lt hj,Array.getElem?_toList]
      have e1:=Lib.row_is_numeral hF j hjd
      simp only [Vn,List.getElem?_map,List.getElem?_eq_getElem hjd,e1,Option.map_some]
      simp [Go.Sort.putCells,hj,hsz,show j<Z by omega]
    · rw [List.getElem?_take_eq_none (by omega),List.getElem?_eq_none (by rw [Is,Lib.decDigits_length];omega)]
theorem TE (b u:Nat) (T:TypeId) (w:World) (hb:w.heap[b]?=some (.cells (List.replicate 24 (Value.int .u8 0)).toArray T (0,0))) (hu:u<18446744073709551616) :
    Calls Tryz.prog 258 #[.slice (some ⟨b,0,none⟩) (Lib.nDigits u) 24,.int .u64 u] w λe w'=>e=.returned (.tuple #[])/\I8 w w' (some b)/\∃o,w'.heap[b]?=some o/\FR 0 (Vn (Lib.decDigits u)) o:=RC 24 rfl b u T w hb hu
theorem NK.below {w w':World} (h:NK w) (hb:Dk w.heap.size w w'):NK w':=by
  unfold NK Lib.TabIs World.var? at *
  cases hg : Tryz.prog.globalNamed "internal/strconv.uint64pow10" with
  | none=>simp [hg] at h
  | some g =>
    simp only [hg,Option.bind_some] at h ⊢
    have hlt:g<w.heap.size:=by
      rcases Nat.lt_or_ge g w.heap.size with h'|h'
      · exact h'
      · rw [Array.getElem?_eq_none h'] at h;simp at h
    rw [hb.block g hlt]
    exact h
theorem Ub (u:Nat) (h1:1<=u) (h2:u<18446744073709551616) (w:World) (hT:NK w):Calls Tryz.prog 257 #[vK .u64 u] w (An w (vN (Lib.nDigits u))) :=
  (Tryz.internal_strconv_numDigits u h1 h2 w hT).mono λe w' h=>⟨h.1,h.2▸Dk.refl _ _⟩
theorem P1 (i:Nat) (h:i<100) (w:World):Calls Tryz.prog 256 #[vN i] w (An w (.string (txB (Lib.decDigits i)))) :=
  (Tryz.internal_strconv_small i h w).mono λe w' h=>⟨h.1,h.2▸Dk.refl _ _⟩
section
variable {ops:Array Oper} {rest:List Oper} {Q:Exit->Act->World->Prop} {n:Nat} {F:List (Nat×Value)} {w0:A7} {L:List As} {t:TypeId} {p:String} {af:Array Edge} {d:Option Tmp} {g:Option (Nat×Bool)} {x:Operand}
theorem AD.callRow {P:Program} {o:Oper} {f:FuncId} {args:Array Value} {v:Value} (i:Nat) {b:Nat} {T:TypeId} {cs cs':List Value} (hw:Wt ops n F o)
    (he:∀a w,CF n a F->A_ w0 w L->(execOp a.eval o).run P w=.ok (.enter f args) w) (hi:L[i]?=some (Ab b T cs))
    (hc:∀w,A_ w0 w L->Calls P f args w λe w'=>e=.returned v/\I8 w w' (some b)/\∃o,w'.heap[b]?=some o/\FR 0 cs' o)
    (hd:∀d,o.dst=some d->d<n) (next:AD P ops rest Q n (match o.dst with|some d=>(d,v)::F|none=>F) w0 (L.set i (AI (some ⟨b,0,none⟩) cs'))):AD P ops (o::rest) Q n F w0 L:=λa w ha hW=>by
  unfold wpList
  rw [if_pos (hw a ha)]
  left
  unfold Oper.wp
  rw [he a w ha hW,Oper.upon_enter]
  refine (hc w hW).mono ?_
  rintro e w' ⟨rfl,hg,o',hcell,hl⟩
  have hW':=hW.turn hi rfl rfl hg ⟨o',hcell,hl⟩ (y:=AI (some ⟨b,0,none⟩) cs')
  cases hdd:o.dst with
  | none=>rw [hdd] at next;exact next _ _ ha.put_none hW'
  | some d=>rw [hdd] at next;exact next _ _ (ha.put (hd d hdd)) hW'
theorem Ea {P:Program} {tx e:TypeId} {b len k m:Nat} {ki:IntKind} {hi:Operand} (hx:evF F x=some (.pointer (some ⟨b,0,none⟩))) (hh:evF F hi=some (.int ki (m:Nat))) (hu:P.underlying tx=some (.array len e)) (hs:∀w,(sizeOf e).run P w=.ok k w) (hm:m<=len) (h0:0<len) :
    Ex P n F w0 L ⟨d,.slice tx x none (some hi) none,t,p,af,g⟩ (.slice (some ⟨b,0,none⟩) m len):=λA w ha _=>by
  have e1:¬len=0:=by omega
  simp [execOp,ha.ev hx,ha.ev hh,Instr.sliceAt,run_underlying hu,Instr.sureAddr,Instr.sliceBounds,Instr.sliceBound,asIntOf,hs,e1,hm,Addr.add_lit]
theorem KD {P:Program} {src dst e:TypeId} {b k:Nat} {cap m:Nat} {l:List UInt8} (hx:evF F x=some (.slice (some ⟨b,0,none⟩) m cap)) (hm:m=l.length) (hi:L[k]?=some (AI (some ⟨b,0,none⟩) (Vn l))) (hs:P.underlying src=some (.slice e)) (he:P.underlying e=some (.int .u8)) (hd:P.underlying dst=some .string) :
    Ex P n F w0 L ⟨d,.convert src dst x,t,p,af,g⟩ (.string (txB l)):=λA w hf hW=>by
  subst hm
  have h:=run_convert_bytes_back (P:=P) w src dst e ⟨b,0,none⟩ cap l hs he hd (λj hj=>by
    obtain ⟨o,ho,hp⟩:=hW.holds hi b rfl
    rw [Addr.add_lit]
    exact FR.cell hp ho (by simp [Vn,hj]))
  simp only [execOp,hf.ev hx,Sem.run_bind,h,Result.andThen_ok,Sem.run_pure]
  rfl
end
end
section
set_option maxRecDepth 100000
theorem MV (n:Nat) (hn:n<18446744073709551616) (w:World) (hT:NK w):Calls Tryz.prog 208 #[(vK .u64 n),(vI 10)] w (An w (Value.string (txB (Lib.decDigits n)))):=by
 have hnd:=Lib.nDigits_le20 n hn
 refine Ag (args:=[(vK .u64 n),(vI 10)]) Tryz.func208 rfl rfl (AY rfl) (AF.subF (sL [0,1] rfl) (q4 (asg' rfl (AD.nil (q1 ?_)))))
 refine q4 (AJ rfl (AH (BJ (c:=true) rfl rfl (by decide)) rfl (AD.nil (AC.subF (sL [0,1,4,10] rfl) (AC.then_ ?_)))))
 refine AF.cond_true rfl (AF.seq (q4 (AJ rfl (AH (Ad (c:=(decide (n<100))) rfl rfl (CB (a:=n) (b:=100))) rfl (AD.nil ?_)))))
 refine AC.subF (sL [0,1,4,12] rfl) (AC.then_ ?_)
 refine AF.cond rfl (λhc1=>?_) (λhc1=>?_)
 ·replace hc1:=of_decide_eq_true hc1
  refine q4 (AJ rfl (AH (Au (c:=((n:Nat):Int)) rfl Tryz.underlying40 Tryz.underlying3 (D9 (by omega))) rfl (ck' Tryz.call256 (P1 n (by omega)) rfl (asg' rfl (AD.nil ?_)))))
  exact AC.subF (sL [0,1,4] rfl) (AC.then_ (AF.ret (AC.then_ret (AC.then_ret (AN rfl (AQ (v:=(Value.string (txB (Lib.decDigits n)))) rfl) (λw hw=>⟨rfl,hw.out⟩))))))
 ·replace hc1:=of_decide_eq_false hc1
  refine AF.skip (q2 (al XS rfl λb1=>AD.nil (q2 (AJ rfl ?_))))
  refine DC Tryz.call257 (λw hw=>Ub n (by omega) (by omega) w (hT.below hw.out)) rfl (asg' rfl (q3 (sL [0,1,4,5,6] rfl) (AJ rfl (AH (v:=(Value.slice (some ⟨b1,0,none⟩) (Lib.nDigits n) 24)) (Ea (len:=24) (m:=Lib.nDigits n) rfl rfl Tryz.underlying327 Tryz.sizeOf5 (by omega) (by decide)) rfl (AJ rfl ?_)))))
  refine AD.callRow 0 (cs':=Vn (Lib.decDigits n)) (v:=(Value.tuple #[])) (AO rfl) (Ay (args:=[(Value.slice (some ⟨b1,0,none⟩) (Lib.nDigits n) 24),(vK .u64 n)]) rfl rfl Tryz.call258) rfl (λw hw=>TE _ _ 327 w (hw.get (i:=0) rfl) hn) (λd hd=>by cases hd<;>exact (AY rfl)) (q3 (sL [0,1,4,5,6] rfl) (AJ rfl (AH (v:=(Value.slice (some ⟨b1,0,none⟩) (Lib.nDigits n) 24)) (Ea (len:=24) (m:=Lib.nDigits n) rfl rfl Tryz.underlying327 Tryz.sizeOf5 (by omega) (by decide)) rfl (AH (v:=(Value.string (txB (Lib.decDigits n)))) (KD (k:=0) rfl (Lib.decDigits_length n).symm rfl Tryz.underlying62 Tryz.underlying5 Tryz.underlying9) rfl (asg' rfl ?_)))))
  exact AD.nil (AC.subF (sL [0,1,4,5,6] rfl) (AC.then_ (AF.ret (AC.then_ret (AN rfl (AQ (v:=(Value.string (txB (Lib.decDigits n)))) rfl) (λw hw=>⟨rfl,hw.out⟩))))))
theorem OY (n:Nat) (hn:n<18446744073709551616) (w:World) (hT:NK w):Calls Tryz.prog 159 #[(vK .u64 n),(vI 10)] w (An w (Value.string (txB (Lib.decDigits n)))):=by
 refine Ag (args:=[(vK .u64 n),(vI 10)]) Tryz.func159 rfl rfl (AY rfl) (AF.subF (sL [0,1] rfl) (q4 (asg' rfl (AD.nil (q2 ?_)))))
 refine AJ rfl (AJ rfl (DC Tryz.call208 (λw hw=>MV n (by omega) w (hT.below hw.out)) rfl (asg' rfl (AD.nil (AC.subF (sL [4] rfl) ?_)))))
 exact AC.then_ (AF.ret (AN rfl (AQ (v:=(Value.string (txB (Lib.decDigits n)))) rfl) (λw hw=>⟨rfl,hw.out⟩)))
end
section
structure NX (x:Nat) where
  p:Option Addr
  c:Nat
  ok:A6 p (dg x).length c
@[reducible] def NX.nv {x:Nat} (a:NX x):NV:=⟨a.p,a.c,x,a.ok⟩
@[reducible] def NX.cast {x y:Nat} (h:x=y) (a:NX x):NX y:=⟨a.p,a.c,h▸a.ok⟩
def NX.zero:NX 0:=⟨none,0,⟨λ_=>⟨rfl,rfl⟩,(λ_ e=>by cases e),Nat.le_refl _⟩⟩
@[reducible] def Ci {x:Nat} (a:NX x):Value:=.slice a.p (dg x).length a.c
def Da {x:Nat} (a:NX x):As:=AI a.p (dgL (dg x))
structure ZX (z:Int) where
  n:NX z.natAbs
structure FX (q:Rat) where
  z:ZX q.num
  m:NX (q.den-1)
structure PX (p:Pt) where
  x:FX p.x
  y:FX p.y
def Ef {z:Int} (a:ZX z):List Value:=[.bool (decide (z<0)),Ci a.n]
def fxL {q:Rat} (a:FX q):List Value:=Ef a.z++[Ci a.m]
def Pw {p:Pt} (a:PX p):List Value:=fxL a.x++fxL a.y
instance {x:Nat}:Ch (NX x):=⟨λa=>Ci a,λa=>[Da a],λa y hy=>by rcases List.mem_singleton.1 hy with rfl;rfl⟩
instance {z:Int}:Ch (ZX z):=⟨λa=>aG (Ef a),λa=>[Da a.n],λa y hy=>by rcases List.mem_singleton.1 hy with rfl;rfl⟩
theorem Nd {a b y:As} (ha:a.ro=true) (hb:b.ro=true) (hy:y∈[a,b]):y.ro=true:=by
  rcases List.mem_cons.1 hy with rfl|hy
  · exact ha
  · rcases List.mem_singleton.1 hy with rfl;exact hb
instance {q:Rat}:Ch (FX q):=⟨λa=>aG (fxL a),λa=>[Da a.z.n,Da a.m],λa y hy=>Nd rfl rfl hy⟩
instance {p:Pt}:Ch (PX p):=⟨λa=>aG (Pw a),λa=>[Da a.x.z.n,Da a.x.m,Da a.y.z.n,Da a.y.m],λa y hy=>by
  rcases List.mem_cons.1 hy with rfl|hy
  · rfl
  · rcases List.mem_cons.1 hy with rfl|hy
    · rfl
    · exact Nd rfl rfl hy⟩
section
variable {w0:A7} {S:Nat->Prop} {w W:World} {L:List As} {α:Type} [Ch α]
-- parts
theorem V4 {q:Rat} {a:FX q} (h:Ro S w a):Ro S w a.z:=λy hy=>h y (by rcases List.mem_singleton.1 hy with rfl;exact List.mem_cons_self)
theorem ZP {q:Rat} {a:FX q} (h:Ro S w a):Ro S w a.m:=λy hy=>h y (by rcases List.mem_singleton.1 hy with rfl;exact List.mem_cons_of_mem _ List.mem_cons_self)
theorem Vh {z:Int} {a:ZX z} (h:Ro S w a):Ro S w a.n:=λy hy=>h y hy
theorem Y7 {p:Pt} {a:PX p} (h:Ro S w a):Ro S w a.x:=λy hy=>h y (by
  rcases List.mem_cons.1 hy with rfl|hy
  · exact List.mem_cons_self
  · rcases List.mem_singleton.1 hy with rfl;exact List.mem_cons_of_mem _ List.mem_cons_self)
theorem ZD {p:Pt} {a:PX p} (h:Ro S w a):Ro S w a.y:=λy hy=>h y (List.mem_cons_of_mem _ (List.mem_cons_of_mem _ hy))
theorem ZE {z:Int} {a:NX z.natAbs} (h:Ro S w a):Ro S w (ZX.mk a:ZX z):=λy hy=>h y hy
theorem Yu {q:Rat} {a:ZX q.num} {b:NX (q.den-1)} (h:Ro S w a) (k:Ro S w b):Ro S w (FX.mk a b:FX q):=λy hy=>by
  rcases List.mem_cons.1 hy with rfl|hy
  · exact h _ List.mem_cons_self
  · exact k y hy
theorem ZU {p:Pt} {a:FX p.x} {b:FX p.y} (h:Ro S w a) (k:Ro S w b):Ro S w (PX.mk a b:PX p):=λy hy=>by
  rcases List.mem_cons.1 hy with rfl|hy
  · exact h _ List.mem_cons_self
  · rcases List.mem_cons.1 hy with rfl|hy
    · exact h _ (List.mem_cons_of_mem _ List.mem_cons_self)
    · exact k y hy
theorem WI:Ro S w NX.zero:=λy hy=>by
  rcases List.mem_singleton.1 hy with rfl
  exact ⟨(λb e=>by cases e),(λb e=>by cases e)⟩
theorem WK {x y:Nat} {h:x=y} {a:NX x} (k:Ro S w a):Ro S w (a.cast h):=by subst h;exact k
theorem R7 {x:Nat} {a:NX x} (h:Ro S w a):Holds w (nA a.nv):=(h _ List.mem_cons_self).1
-- what a walk starts with
theorem YO {x:Nat} {a:NX x} (h:Ro S w a) (t:∀y∈L,y.ro=true/\Holds w y):∀y∈Da a::L,y.ro=true/\Holds w y:=Bv rfl (h _ List.mem_cons_self).1 t
theorem XK {z:Int} {a:ZX z} (h:Ro S w a) (t:∀y∈L,y.ro=true/\Holds w y):∀y∈Da a.n::L,y.ro=true/\Holds w y:=YO (Vh h) t
theorem T8 {q:Rat} {a:FX q} (h:Ro S w a) (t:∀y∈L,y.ro=true/\Holds w y):∀y∈Da a.z.n::Da a.m::L,y.ro=true/\Holds w y:=XK (V4 h) (YO (ZP h) t)
theorem Zd {p:Pt} {a:PX p} (h:Ro S w a) (t:∀y∈L,y.ro=true/\Holds w y):∀y∈Da a.x.z.n::Da a.x.m::Da a.y.z.n::Da a.y.m::L,y.ro=true/\Holds w y:=T8 (Y7 h) (T8 (ZD h) t)
end
section
variable {P:Program} {ops:Array Oper} {rest:List Oper} {Q:Exit->Act->World->Prop} {n d:Nat} {F:List (Nat×Value)} {w0:A7} {S:Nat->Prop} {L:List As} {t:TypeId} {p:String} {af:Array Edge} {y:Operand} {f:FuncId} {xs:List Operand} {args:List Value} {ts:Array TypeId}
theorem cN {x:Nat} (hc:∀args w,(callFunc f args).run P w=.ok (.enter f args) w) (h:∀w,A_ w0 w L->Calls P f args.toArray w (Av (NX x) (SL w0 S L) w))
    (hf:evF F y=some (.func (.func f) #[] #[])) (hargs:xs.map (evF F)=args.map some) (hd:Nat.ble (d+1) n=true) (next:∀a:NX x,At w0 S a->AD P ops rest Q n ((d,Ci a)::F) w0 (Da a::L)) :
    AD P ops (⟨some d,.call { callee:=.value y,args:=xs.toArray,argTypes:=ts },t,p,af,none⟩::rest) Q n F w0 L:=AD.callR hc h hf hargs hd next
theorem cZ {x:Int} (hc:∀args w,(callFunc f args).run P w=.ok (.enter f args) w) (h:∀w,A_ w0 w L->Calls P f args.toArray w (Av (ZX x) (SL w0 S L) w))
    (hf:evF F y=some (.func (.func f) #[] #[])) (hargs:xs.map (evF F)=args.map some) (hd:Nat.ble (d+1) n=true) (next:∀a:ZX x,At w0 S a->AD P ops rest Q n ((d,aG (Ef a))::F) w0 (Da a.n::L)) :
    AD P ops (⟨some d,.call { callee:=.value y,args:=xs.toArray,argTypes:=ts },t,p,af,none⟩::rest) Q n F w0 L:=AD.callR hc h hf hargs hd next
theorem cF {x:Rat} (hc:∀args w,(callFunc f args).run P w=.ok (.enter f args) w) (h:∀w,A_ w0 w L->Calls P f args.toArray w (Av (FX x) (SL w0 S L) w))
    (hf:evF F y=some (.func (.func f) #[] #[])) (hargs:xs.map (evF F)=args.map some) (hd:Nat.ble (d+1) n=true) (next:∀a:FX x,At w0 S a->AD P ops rest Q n ((d,aG (fxL a))::F) w0 (Da a.z.n::Da a.m::L)) :
    AD P ops (⟨some d,.call { callee:=.value y,args:=xs.toArray,argTypes:=ts },t,p,af,none⟩::rest) Q n F w0 L:=AD.callR hc h hf hargs hd next
theorem cP {x:Pt} (hc:∀args w,(callFunc f args).run P w=.ok (.enter f args) w) (h:∀w,A_ w0 w L->Calls P f args.toArray w (Av (PX x) (SL w0 S L) w))
    (hf:evF F y=some (.func (.func f) #[] #[])) (hargs:xs.map (evF F)=args.map some) (hd:Nat.ble (d+1) n=true) (next:∀a:PX x,At w0 S a->AD P ops rest Q n ((d,aG (Pw a))::F) w0 (Da a.x.z.n::Da a.x.m::Da a.y.z.n::Da a.y.m::L)) :
    AD P ops (⟨some d,.call { callee:=.value y,args:=xs.toArray,argTypes:=ts },t,p,af,none⟩::rest) Q n F w0 L:=AD.callR hc h hf hargs hd next
end
theorem Vk (x:Nat):(dg x).length<=3*nw x:=FT (Nat.lt_of_lt_of_le (Bb x) (by rw [Nat.pow_mul];exact Nat.pow_le_pow_left (by decide) _))
end
section
structure XP (x y:Nat) where
  q:NX x
  r:NX y
instance {x y:Nat}:Ch (XP x y):=⟨λa=>.tuple #[Ci a.q,Ci a.r],λa=>[Da a.q,Da a.r],λa y hy=>Nd rfl rfl hy⟩
section
variable {S:Nat->Prop} {w:World} {x y:Nat}
theorem Xz {a:XP x y} (h:Ro S w a):Ro S w a.q:=λz hz=>h z (by rcases List.mem_singleton.1 hz with rfl;exact List.mem_cons_self)
theorem gN {W:World} {src:List (Option Nat)} {e:Ending} (hs:∀s∈src,∀b,s=some b->S b) (h:F5 W src x e w):Av (NX x) S W e w:=by
  obtain ⟨v,rfl,rfl,hb,hh,hl⟩:=h
  refine ⟨⟨v.p,v.c,v.ok⟩,rfl,hb,λy hy=>?_⟩
  rcases List.mem_singleton.1 hy with rfl
  exact ⟨hh,λb e=>(hl b e).imp_right λh=>hs _ h b rfl⟩
theorem Y_ {a:NX x} (h:Ro S w a) {b:Nat} (e:a.p.map (·.block)=some b):S b:=(h _ List.mem_cons_self).2 b e
theorem Oz {x:Nat} (h:nw x<=67108864):(dg x).length<=274877906944:=by have:=Vk x;omega
theorem HW {x:Nat} (h:nw x<=67108864):(dg x).length<=549755813888:=by have:=Vk x;omega
theorem OV (x:Nat) (hx:x<18446744073709551616) (w:World) {S:Nat->Prop}:Calls Tryz.prog 194 #[(vK .u64 x)] w (Av (NX x) S w):=(OG x hx w).mono λe w' h=>gN (λs hs=>by cases hs) h
theorem UI (a:NX x) (b:NX y) (hx:nw x<=67108864) (hy:nw y<=67108864) (w:World) (ha:Ro S w a) (hb:Ro S w b):Calls Tryz.prog 190 #[Ci a,Ci b] w (Av (NX (x+y)) S w) :=
  (VM a.nv b.nv (HW hx) (HW hy) w (R7 ha) (R7 hb)).mono λe w' h=>gN (λs hs=>by cases hs) h
theorem VA (a:NX x) (b:NX y) (hxy:y<=x) (hx:nw x<=67108864) (w:World) (ha:Ro S w a) (hb:Ro S w b):Calls Tryz.prog 197 #[Ci a,Ci b] w (Av (NX (x-y)) S w) :=
  (Om a.nv b.nv hxy (HW hx) w (R7 ha) (R7 hb)).mono λe w' h=>gN (λs hs=>by cases hs) h
theorem Oo (a:NX x) (b:NX y) (hx:nw x<=67108864) (hy:nw y<=67108864) (w:World) (ha:Ro S w a) (hb:Ro S w b):Calls Tryz.prog 143 #[Ci a,Ci b] w (Av (NX (x*y)) S w) :=
  (Lo a.nv b.nv (HW hx) (HW hy) w (R7 ha) (R7 hb)).mono λe w' h=>gN (λs hs=>by cases hs) h
theorem VI (a:NX x) (b:NX y) (hx:nw x<=67108864) (hy:nw y<=67108864) (w:World) (ha:Ro S w a) (hb:Ro S w b):Calls Tryz.prog 195 #[Ci a,Ci b] w (Av (NX (Nat.gcd x y)) S w) :=
  (Ue a.nv b.nv (Oz hx) (Oz hy) w (R7 ha) (R7 hb)).mono λe w' h=>gN (λs hs c e=>by
    rcases List.mem_cons.1 hs with rfl|hs
    · exact Y_ ha e
    · rcases List.mem_singleton.1 hs with rfl;exact Y_ hb e) h
theorem PY (a:NX x) (b:NX y) (hy0:0<y) (hx:nw x<=67108864) (hy:nw y<=67108864) (w:World) (ha:Ro S w a) (hb:Ro S w b):Calls Tryz.prog 196 #[Ci a,Ci b] w (Av (XP (x/y) (x%y)) S w) :=
  (Oy a.nv b.nv hy0 (Oz hx) (Oz hy) w (R7 ha) (R7 hb)).mono λe w' h=>by
    obtain ⟨u,v,hu,hv,rfl,hB,hhu,hhv,lu,lv⟩:=h
    obtain ⟨up,uc,ux,uok⟩:=u
    obtain ⟨vp,vc,vx,vok⟩:=v
    dsimp only at hu hv
    subst hu;subst hv
    refine ⟨⟨⟨up,uc,uok⟩,⟨vp,vc,vok⟩⟩,rfl,hB,λz hz=>?_⟩
    rcases List.mem_cons.1 hz with rfl|hz
    · exact ⟨hhu,λb e=>(lu b e).elim .inl λh=>by cases h⟩
    · rcases List.mem_singleton.1 hz with rfl
      exact ⟨hhv,λb e=>(lv b e).imp_right λh=>by
        have:=List.mem_singleton.1 h
        exact Y_ ha this.symm⟩
theorem JH (a:NX x) (hx:nw x<=67108864) (w:World) (ha:Ro S w a):Calls Tryz.prog 134 #[Ci a] w (An w (Value.string (txB (Lib.decDigits x)))):=SB a.nv (HW hx) w (R7 ha)
end
section
variable {P:Program} {ops:Array Oper} {rest:List Oper} {Q:Exit->Act->World->Prop} {n d:Nat} {F:List (Nat×Value)} {w0:A7} {S:Nat->Prop} {L:List As} {t:TypeId} {p:String} {af:Array Edge} {y:Operand} {f:FuncId} {xs:List Operand} {args:List Value} {ts:Array TypeId}
theorem cD {u v:Nat} (hc:∀args w,(callFunc f args).run P w=.ok (.enter f args) w) (h:∀w,A_ w0 w L->Calls P f args.toArray w (Av (XP u v) (SL w0 S L) w))
    (hf:evF F y=some (.func (.func f) #[] #[])) (hargs:xs.map (evF F)=args.map some) (hd:Nat.ble (d+1) n=true) (next:∀a:XP u v,At w0 S a->AD P ops rest Q n ((d,.tuple #[Ci a.q,Ci a.r])::F) w0 (Da a.q::Da a.r::L)) :
    AD P ops (⟨some d,.call { callee:=.value y,args:=xs.toArray,argTypes:=ts },t,p,af,none⟩::rest) Q n F w0 L:=AD.callR hc h hf hargs hd next
end
end
theorem Pf:∀{k x:Nat},x<10^(k+1)->(Lib.decDigits x).length<=k+1
  | 0,x,h=>by rw [Lib.decDigits,dif_pos (by omega)];simp
  | k+1,x,h=>by
    rw [Lib.decDigits]
    split
    · simp
    · have:=Pf (k:=k) (x:=x/10) (by rw [Nat.pow_succ] at h;omega)
      rw [List.length_append,List.length_singleton];omega
theorem ON (n:Nat):(Lib.decDigits n).length<=10*nw n+1 :=
  Pf (Nat.lt_of_lt_of_le (Nat.lt_of_lt_of_le (Bb n) (by rw [Nat.pow_mul];exact Nat.pow_le_pow_left (by decide) _)) (Nat.pow_le_pow_right (by omega) (Nat.le_succ _)))
theorem Ld (x:Nat):0<(dg x).length↔x≠0:=by
  constructor
  · intro h e;rw [e,Ed] at h;simp at h
  · intro h;exact (Jq (by omega)).2
theorem Wv (neg:Bool) (x:Nat):decide (EX neg x<0)=(neg&&decide (0<(dg x).length)):=by
  have h:=Ld x
  cases neg
  · simp [EX]
  · by_cases h0:x=0
    · subst h0;simp [EX,Ed]
    · have:0<(dg x).length:=h.2 h0
      simp [EX,this];omega
def WX (neg:Bool) {x:Nat} (n:NX x):ZX (EX neg x):=⟨n.cast (Bp neg x).symm⟩
theorem WG (neg:Bool) {x:Nat} (n:NX x):Ef (WX neg n)=[.bool (neg&&decide (0<(dg x).length)),Ci n]:=by
  unfold Ef WX Ci
  rw [Wv]
  simp only [Bp]
theorem Mp {x:Nat} (h:(dg x).length=0):x=0:=Classical.byContradiction λe=>by have:=(Ld x).2 e;omega
theorem G6 {x:Nat} (h:¬(dg x).length=0):x≠0:=(Ld x).1 (by omega)
def FA (z:Int):List UInt8:=if z<0 then 45::Lib.decDigits z.natAbs else Lib.decDigits z.natAbs
section
set_option maxRecDepth 100000
theorem Fl {x:Nat} (neg:Bool) (n:NX x) (w:World) {S:Nat->Prop} (hn:Ro S w n)  :Calls Tryz.prog 193 #[(Value.bool neg),(Ci n)] w (Av (ZX (EX neg x)) S w):=by
 have ln:=DF (W:=w) hn
 refine Ah (args:=[(Value.bool neg),(Ci n)]) (L:=[Da n]) Tryz.func193 rfl rfl (AY rfl) (YO hn Ar) (AF.subF (sL [0,1] rfl) (q4 (al WY rfl λb1=>AD.nil (q2 ?_))))
 refine AJ rfl (AJ rfl ?_)
 refine AD.mid (FM:=[(0,(Value.bool neg)),(1,(Ci n)),(4,(pP b1 0)),(5,(Value.bool neg)),(6,(Value.bool neg)),(10,(Value.bool (neg&&(decide (0<((dg x).length))))))]) (LM:=[Ab b1 73 ([(Value.bool false),(Value.slice none 0 0)]),Da n]) 4 ?_ ?_
 ·rcases Bool.eq_false_or_eq_true neg with hg1|hg1
  ·skip
   refine AD.retell (k:=6) (u:=Value.bool true) rfl (by rw [hg1]) ?_
   have hg1':=hg1
   skip
   exact AD.step (v:=(Ci n)) (AB rfl) (Ai rfl) rfl (AY rfl) (AD.step (v:=(vN ((dg x).length))) (AB rfl) (AE rfl Tryz.underlying71) rfl (AY rfl) (AD.step (v:=(Value.bool (decide (0<((dg x).length))))) (AB rfl) (Bg (c:=(decide (0<((dg x).length)))) rfl rfl (CB (a:=0) (b:=(dg x).length))) rfl (AY rfl) (AH (v:=(Value.bool (decide (0<((dg x).length))))) (AT rfl rfl) rfl (AD.nil (AC.mid (sS rfl (sS rfl (sS rfl (sS rfl (sS (by first|rfl|(rw [hg1];rfl)|rw [hg1]) (sS (by first|rfl|(rw [hg1];rfl)|rw [hg1]) (sN))))))) (List.Sublist.refl _))))))
  ·skip
   refine AD.retell (k:=6) (u:=Value.bool false) rfl (by rw [hg1]) ?_
   have hg1':=hg1
   skip
   exact AD.skip (AG rfl) rfl (AY rfl) (AD.skip (AG rfl) rfl (AY rfl) (AD.skip (AG rfl) rfl (AY rfl) (AH (v:=(Value.bool false)) (AV rfl rfl) rfl (AD.nil (AC.mid (sS rfl (sS rfl (sS rfl (sS rfl (sS (by first|rfl|(rw [hg1];rfl)|rw [hg1]) (sS (by first|rfl|(rw [hg1];rfl)|rw [hg1]) (sN))))))) (List.Sublist.refl _))))))
 refine AJ rfl (AH (v:=(aG ([(Value.bool (neg&&(decide (0<((dg x).length))))),(Ci n)]))) (AU (zs:=[(Value.bool false),(Value.slice none 0 0)]) (vs:=[(Value.bool (neg&&(decide (0<((dg x).length))))),(Ci n)]) (pv:=[(0,(Value.bool (neg&&(decide (0<((dg x).length)))))),(1,(Ci n))]) (places:=[(0,1),(1,1)]) Tryz.zeroValue73 Tryz.underlying73 (λw=>by simp [Tryz.sizeOf4,Tryz.sizeOf71]) rfl rfl) rfl (BC rfl Tryz.sizeOf73 rfl (AD.nil (AC.subF (sL [4] rfl) (AC.then_ ?_)))))
 exact AF.ret (AN rfl (BB (i:=0) (cs:=[(Value.bool (neg&&(decide (0<((dg x).length))))),(Ci n)]) rfl rfl Tryz.isAgg73 Tryz.sizeOf73 rfl) (λw hw=>GQ (a:=WX neg n) hw (ZE (WK (inS hw 1 rfl ln))) (by rw [<-WG];rfl)))
theorem WU (z:Int) (hz:-9223372036854775808<=z) (hz2:z<9223372036854775808) (w:World) {S:Nat->Prop}  :Calls Tryz.prog 138 #[(vI z)] w (Av (ZX z) S w):=by
 refine Ag (args:=[(vI z)]) Tryz.func138 rfl rfl (AY rfl) (AF.subF (sL [0] rfl) (q4 (al WY rfl λb1=>AD.nil (q1 ?_))))
 refine q4 (AJ rfl (AH (Ad (c:=(decide (z<(0:Int)))) rfl rfl rfl) rfl (AD.nil (AC.subF (sL [0,2,4] rfl) (AC.then_ ?_)))))
 refine AF.cond rfl (λhc0=>?_) (λhc0=>?_)
 ·replace hc0:=of_decide_eq_true hc0
  refine q4 (AJ rfl (AH (AW (c:=(z+1)) rfl rfl (BK (by omega) (by omega))) rfl (AH (SY (c:=(((-(z+1)).toNat:Nat):Int)) rfl (by rw [BK (by omega) (by omega)];omega)) rfl (AH (Au (c:=(((-(z+1)).toNat:Nat):Int)) rfl Tryz.underlying2 Tryz.underlying40 (BH (by omega))) rfl (AH (AW (c:=((z.natAbs:Nat):Int)) rfl rfl (by rw [Ct (by omega) (by omega)];omega)) rfl ?_)))))
  refine cN (S:=S) (x:=z.natAbs) (args:=[(vK .u64 z.natAbs)]) Tryz.call194 (λw hw=>OV z.natAbs (by first|omega|(simp only [Int.natAbs_neg];omega)) w) rfl rfl rfl λg1 lg1=>cZ (S:=S) (x:=z) (args:=[(Value.bool true),(Ci g1)]) Tryz.call193 (λw hw=>(Av.cast (T:=λi=>ZX i) (Fy hc0) (Fl true g1 w (inS hw 0 rfl lg1)))) rfl rfl rfl λg2 lg2=>Ks rfl Tryz.sizeOf73 rfl (AD.nil (AC.subF (sL [0,2] rfl) (AC.then_ ?_)))
  exact AF.ret (AC.then_ret (AN rfl (BB (i:=2) (cs:=Ef g2) rfl rfl Tryz.isAgg73 Tryz.sizeOf73 rfl) (λw hw=>GQ (a:=(g2:ZX z)) hw (inS hw 0 rfl lg2) rfl)))
 ·replace hc0:=of_decide_eq_false hc0
  refine AF.skip (q2 (AJ rfl (AH (Au (c:=((z.natAbs:Nat):Int)) rfl Tryz.underlying2 Tryz.underlying40 (by rw [Ct (by omega) (by omega)];omega)) rfl (cN (S:=S) (x:=z.natAbs) (args:=[(vK .u64 z.natAbs)]) Tryz.call194 (λw hw=>OV z.natAbs (by first|omega|(simp only [Int.natAbs_neg];omega)) w) rfl rfl rfl λg3 lg3=>cZ (S:=S) (x:=z) (args:=[(Value.bool false),(Ci g3)]) Tryz.call193 (λw hw=>(Av.cast (T:=λi=>ZX i) (KR hc0) (Fl false g3 w (inS hw 0 rfl lg3)))) rfl rfl rfl λg4 lg4=>?_))))
  exact Ks rfl Tryz.sizeOf73 rfl (AD.nil (AC.subF (sL [0,2] rfl) (AC.then_ (AF.ret (AN rfl (BB (i:=2) (cs:=Ef g4) rfl rfl Tryz.isAgg73 Tryz.sizeOf73 rfl) (λw hw=>GQ (a:=(g4:ZX z)) hw (inS hw 0 rfl lg4) rfl))))))
theorem RV {x:Int} (a:ZX x) (w:World) {S:Nat->Prop} (ha:Ro S w a)  :Calls Tryz.prog 246 #[(aG (Ef a))] w (An w (vI x.sign)):=by
 have la:=DF (W:=w) ha
 refine Ah (args:=[(aG (Ef a))]) (L:=[Da a.n]) Tryz.func246 rfl rfl (AY rfl) (XK ha Ar) (AF.subF (sL [0] rfl) (q4 (B9 (cs:=Ef a) rfl λb1=>asg' rfl (q6 (sL [1,2] rfl) ?_))))
 refine q4 (AH (v:=(pP b1 1)) (AA rfl Tryz.underlying73 rfl Tryz.sizeOf71 rfl) rfl (BD 0 (Ci a.n) J2 rfl (AH (v:=(vN ((dg x.natAbs).length))) (AE rfl Tryz.underlying71) rfl (AH (BJ (c:=(decide (((dg x.natAbs).length)=0))) rfl rfl (RG (a:=(dg x.natAbs).length) (b:=0))) rfl (AD.nil ?_)))))
 refine AC.subF (sL [1,2,6] rfl) (AC.then_ ?_)
 refine AF.cond rfl (λhc0=>?_) (λhc0=>?_)
 ·replace hc0:=of_decide_eq_true hc0
  have he:x.sign=0:=by rw [show x=0 by have:=Mp hc0;omega];rfl
  exact q4 (asg' rfl (AD.nil (AC.then_ (AF.ret (AC.then_ret (AN rfl (AQ (v:=(vI 0)) rfl) (λw hw=>⟨by rw [he],hw.out⟩)))))))
 ·replace hc0:=of_decide_eq_false hc0
  have hx0:=G6 hc0
  refine AF.skip (q1 (q4 (AH (v:=(pP b1 0)) (AA rfl Tryz.underlying73 rfl Tryz.sizeOf4 rfl) rfl (BD 0 (Value.bool (decide (x<0))) T0 rfl (AD.nil ?_)))))
  refine AC.subF (sL [1,2,8] rfl) (AC.then_ ?_)
  refine AF.cond rfl (λhc1=>?_) (λhc1=>?_)
  ·replace hc1:=of_decide_eq_true hc1
   have he:x.sign = -1:=Int.sign_eq_neg_one_of_neg hc1
   exact q4 (asg' rfl (AD.nil (AC.then_ (AF.ret (AC.then_ret (AN rfl (AQ (v:=(vI (-1:Int))) rfl) (λw hw=>⟨by rw [he],hw.out⟩)))))))
  ·replace hc1:=of_decide_eq_false hc1
   have he:x.sign=1:=Int.sign_eq_one_of_pos (by omega)
   exact AF.skip (q2 (asg' rfl (AD.nil (AC.then_ (AF.ret (AN rfl (AQ (v:=(vI 1)) rfl) (λw hw=>⟨by rw [he],hw.out⟩)))))))
theorem UD {x y:Int} (a:ZX x) (b:ZX y) (hx:nw x.natAbs<=67108864) (hy:nw y.natAbs<=67108864) (w:World) {S:Nat->Prop} (ha:Ro S w a) (hb:Ro S w b)  :Calls Tryz.prog 141 #[(aG (Ef a)),(aG (Ef b))] w (Av (ZX (x*y)) S w):=by
 have la:=DF (W:=w) ha
 have lb:=DF (W:=w) hb
 refine Ah (args:=[(aG (Ef a)),(aG (Ef b))]) (L:=[Da a.n,Da b.n]) Tryz.func141 rfl rfl (AY rfl) (XK ha (XK hb Ar)) (AF.subF (sL [0,1] rfl) (q4 (B9 (cs:=Ef a) rfl λb1=>B9 (cs:=Ef b) rfl λb2=>al WY rfl λb3=>?_)))
 refine q6 (sL [2,3,4] rfl) (Cw [(0,true),(1,true),(2,true),(3,true),(4,true),(5,true),(6,true),(7,true),(8,true),(9,false),(10,false),(11,false)] (sl sr) (Aw (v:=(pP b1 0)) rfl (AA rfl Tryz.underlying73 rfl Tryz.sizeOf4 rfl) (Bm 1 (Value.bool (decide (x<0))) T0 rfl (Aw (v:=(pP b2 0)) rfl (AA rfl Tryz.underlying73 rfl Tryz.sizeOf4 rfl) (Bm 0 (Value.bool (decide (y<0))) T0 rfl ?_)))))
 refine Aw rfl (H3 (c:=(!(decide (x<0) == decide (y<0)))) rfl rfl Tryz.underlying4 rfl) (Aw (v:=(pP b1 1)) rfl (AA rfl Tryz.underlying73 rfl Tryz.sizeOf71 rfl) (Bm 1 (Ci a.n) J2 rfl (Aw (v:=(pP b2 1)) rfl (AA rfl Tryz.underlying73 rfl Tryz.sizeOf71 rfl) (Bm 0 (Ci b.n) J2 rfl (OkE.imp rfl ?_)))))
 refine cN (S:=S) (x:=(x.natAbs*y.natAbs)) (args:=[(Ci a.n),(Ci b.n)]) Tryz.call143 (λw hw=>Oo a.n b.n (by first|omega|(simp only [Int.natAbs_neg];omega)) (by first|omega|(simp only [Int.natAbs_neg];omega)) w (Vh (inS hw 3 rfl la)) (Vh (inS hw 4 rfl lb))) rfl rfl rfl λg1 lg1=>OkE.back (sl (sl sr)) (OkE.imp rfl (cZ (S:=S) (x:=(x*y)) (args:=[(Value.bool (!(decide (x<0) == decide (y<0)))),(Ci g1)]) Tryz.call193 (λw hw=>(Av.cast (T:=λi=>ZX i) (PU x y) (Fl (!(decide (x<0) == decide (y<0))) g1 w (inS hw 0 rfl lg1)))) rfl rfl rfl λg2 lg2=>OkE.back (sl (sl (sl sr))) (OkE.imp rfl ?_)))
 exact Ks rfl Tryz.sizeOf73 rfl (OkE.back (sl (sl (sl sr))) (OkE.nil (AC.subF (sL [4] rfl) (AC.then_ (AF.ret (AN rfl (BB (i:=2) (cs:=Ef g2) rfl rfl Tryz.isAgg73 Tryz.sizeOf73 rfl) (λw hw=>GQ (a:=(g2:ZX (x*y))) hw (inS hw 0 rfl lg2) rfl)))))))
theorem MT {x:Int} (a:ZX x) (hx:nw x.natAbs<=67108864) (w:World) {S:Nat->Prop} (ha:Ro S w a)  :Calls Tryz.prog 133 #[(aG (Ef a))] w (An w (Value.string (txB (FA x)))):=by
 have la:=DF (W:=w) ha
 refine Ah (args:=[(aG (Ef a))]) (L:=[Da a.n]) Tryz.func133 rfl rfl (AY rfl) (XK ha Ar) (AF.subF (sL [0] rfl) (q4 (B9 (cs:=Ef a) rfl λb1=>asg' rfl (q6 (sL [1,2] rfl) ?_))))
 refine q4 (AH (v:=(pP b1 0)) (AA rfl Tryz.underlying73 rfl Tryz.sizeOf4 rfl) rfl (BD 0 (Value.bool (decide (x<0))) T0 rfl (AD.nil (AC.subF (sL [1,2,4] rfl) (AC.then_ ?_)))))
 refine AF.cond rfl (λhc0=>?_) (λhc0=>?_)
 ·replace hc0:=of_decide_eq_true hc0
  have he:FA x=45::Lib.decDigits x.natAbs:=by unfold FA;rw [if_pos hc0]
  refine q4 (AH (v:=(pP b1 1)) (AA rfl Tryz.underlying73 rfl Tryz.sizeOf71 rfl) rfl (BD 0 (Ci a.n) J2 rfl (DC Tryz.call134 (λw hw=>JH a.n (by first|omega|(simp only [Int.natAbs_neg];omega)) w (Vh (inS hw 1 rfl la))) rfl (AH (v:=(Value.string (txB (45::Lib.decDigits x.natAbs)))) (CH (r:=(txB (45::Lib.decDigits x.natAbs))) rfl rfl (by have:=ON x.natAbs;rw [C7];show 1+_<=_;omega) (DA [45] _)) rfl (asg' rfl ?_)))))
  exact AD.nil (AC.subF (sL [1,2] rfl) (AC.then_ (AF.ret (AC.then_ret (AN rfl (AQ (v:=(Value.string (txB (45::Lib.decDigits x.natAbs)))) rfl) (λw hw=>⟨by rw [he],hw.out⟩))))))
 ·replace hc0:=of_decide_eq_false hc0
  have he:FA x=Lib.decDigits x.natAbs:=by unfold FA;rw [if_neg hc0]
  refine AF.skip (q2 (AH (v:=(pP b1 1)) (AA rfl Tryz.underlying73 rfl Tryz.sizeOf71 rfl) rfl (BD 0 (Ci a.n) J2 rfl (DC Tryz.call134 (λw hw=>JH a.n (by first|omega|(simp only [Int.natAbs_neg];omega)) w (Vh (inS hw 1 rfl la))) rfl (asg' rfl ?_)))))
  exact AD.nil (AC.subF (sL [1,2] rfl) (AC.then_ (AF.ret (AN rfl (AQ (v:=(Value.string (txB (Lib.decDigits x.natAbs)))) rfl) (λw hw=>⟨by rw [he],hw.out⟩)))))
end
theorem MW (n:Int):decide (n.sign<0)=decide (n<0):=by
  rcases Int.lt_trichotomy n 0 with h|h|h
  · rw [Int.sign_eq_neg_one_of_neg h];simp [h]
  · subst h;rfl
  · rw [Int.sign_eq_one_of_pos h];simp;omega
theorem Sf {n:Int} {d:Nat} (hd:d≠0):EX (decide (n<0)) (n.natAbs/Nat.gcd n.natAbs d)=(mkRat n d).num:=by rw [Pn hd,MW]
theorem S_ {n:Int} {d:Nat} (hd:d≠0):d/Nat.gcd n.natAbs d-1=(mkRat n d).den-1:=by rw [O1 hd]
theorem Ys {b:Rat} (h:b≠0):mkRat (EX (decide (b.num<0)) b.den) b.num.natAbs=b⁻¹:=by rw [<-Hu h,MW]
theorem UW {a b:Rat}:a*b⁻¹=a/b:=(Rat.div_def a b).symm
theorem Rj {a b:Rat} (h:b.num.sign=0):(0:Rat)=a/b:=by
  have h1:b=0:=Rat.num_eq_zero.1 (Int.sign_eq_zero_iff_zero.1 h)
  rw [h1,Rat.div_def,Rat.inv_zero,Rat.mul_zero]
def FX.cast {a b:Rat} (h:a=b) (f:FX a):FX b:=h▸f
def FX.zero:FX 0:=⟨⟨NX.zero⟩,NX.zero⟩
theorem Ww {x0:Pt} (f0:PX x0):Instr.fill (λi=>some (i*6,6)) ((Array.range (1*6)).map ((Value.agg (#[(Value.bool false),(Value.slice none 0 0),(Value.slice none 0 0),(Value.bool false),(Value.slice none 0 0),(Value.slice none 0 0)])).cells[·%(Value.agg (#[(Value.bool false),(Value.slice none 0 0),(Value.slice none 0 0),(Value.bool false),(Value.slice none 0 0),(Value.slice none 0 0)])).cells.size]!)) [(0,.agg (Pw f0).toArray)]=some (Pw f0).toArray:=by kernel_rfl
def Lr (q:Rat):List UInt8:=if q.den-1=0 then FA q.num else FA q.num++47::Lib.decDigits q.den
theorem U7 (z:Int):(FA z).length<=10*nw z.natAbs+2:=by
  have:=ON z.natAbs
  unfold FA;split<;>simp<;>omega
end Go.Proofs.YtpgncndhhhllfaaGreatDoor
