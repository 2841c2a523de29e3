import Derived.Test.YtcpkbjjmcleplaaGreatDoorPart00
namespace Go.Proofs.YtcpkbjjmcleplaaGreatDoor
open Go Go.RowKit Go.Proofs.Tryz
open Go.Value renaming slice→qz,bool→qa
set_option linter.unusedVariables false
set_option linter.unusedSimpArgs false
section
section
variable {P:Program} {n:Nat} {F:List (Nat×Value)} {w0:Ay} {L:List As} {v u:Value} {x y z:Operand} {d:Option Tmp} {t:TypeId} {p:String} {af:Array Edge} {g:Option (Nat×Bool)}
theorem BF (hx:evF F x=some v):Ex P n F w0 L ⟨d,.move x,t,p,af,g⟩ v:=λa w ha _=>by simp [execOp,ha.ev hx]
theorem Ni (hx:evF F x=some v):Ex P n F w0 L ⟨d,.assign x,t,p,af,g⟩ v:=λa w ha _=>by simp [execOp,ha.ev hx]
theorem ex_pick_true (hx:evF F x=some (.bool true)) (hy:evF F y=some v):Ex P n F w0 L ⟨d,.pick x y z,t,p,af,g⟩ v:=λa w ha _=>by
  simp [execOp,ha.ev hx,ha.ev hy,asBool]
theorem AN (hx:evF F x=some (.bool false)) (hz:evF F z=some v):Ex P n F w0 L ⟨d,.pick x y z,t,p,af,g⟩ v:=λa w ha _=>by
  simp [execOp,ha.ev hx,ha.ev hz,asBool]
theorem aW {T:TypeId} {cs:List Value} (hv:v.cells=cs.toArray) (w:World):(Instr.box T v).run P w=.ok (.pointer (some ⟨w.heap.size,0,none⟩)) (w.alloc (.cells cs.toArray T)):=by
  simp [Instr.box,newVar,newRow,hv]
theorem cr {T:TypeId} {cs:List Value} (hx:evF F x=some v) (hv:v.cells=cs.toArray) :
    ∀a w,Cg n a F->A_ w0 w L->(execOp a.eval ⟨d,.box T x,t,p,af,g⟩).run P w=.ok (.value (.pointer (some ⟨w.heap.size,0,none⟩))) (w.alloc (.cells cs.toArray T)):=λa w ha _=>by
  simp only [execOp,ha.ev hx,Sem.run_bind,aW hv,Result.andThen_ok,Sem.run_pure]
theorem QG {T:TypeId} {cs:List Value} (hz:∀w,(zeroValue T).run P w=.ok u w) (hv:u.cells=cs.toArray) :
    ∀a w,Cg n a F->A_ w0 w L->(execOp a.eval ⟨d,.alloc T,t,p,af,g⟩).run P w=.ok (.value (.pointer (some ⟨w.heap.size,0,none⟩))) (w.alloc (.cells cs.toArray T)):=λa w _ _=>by
  simp [execOp,Instr.alloc,newVar,newRow,hv,hz]
def CA (w:World) (b off:Nat) (vs:List Value):Prop:=∀j u,vs[j]?=some u->w.cell? ⟨b,off+j,none⟩=some u
theorem Fs {w:World} {b off k:Nat} {cs:List Value} {T:TypeId} {fr:Nat×Nat} (h:w.heap[b]?=some (.cells cs.toArray T fr)):CA w b off ((cs.drop off).take k):=λj u hu=>by
  rw [cell_of_row w b _ _ T fr h]
  rw [List.getElem?_take] at hu
  split at hu
  · simpa using hu
  · cases hu
theorem HG {w:World} {b off k:Nat} {ty:TypeId} {vs:List Value} (ha:∀w,(isAgg ty).run P w=.ok true w) (hs:∀w,(sizeOf ty).run P w=.ok k w) (hl:vs.length=k) (h:CA w b off vs) :
    (Instr.loadAt ty (.pointer (some ⟨b,off,none⟩))).run P w=.ok (.agg vs.toArray) w:=by
  have h1:=run_loadCells_list (P:=P) w ⟨b,off,none⟩ vs (λj u hu=>by rw [Addr.add_lit];exact h j u hu)
  rw [hl] at h1
  simp [Instr.loadAt,Instr.sureAddr,loadVar,ha,hs,h1]
theorem HH {w:World} {b off:Nat} {ty:TypeId} (ha:∀w,(isAgg ty).run P w=.ok false w) (h:w.cell? ⟨b,off,none⟩=some v) :
    (Instr.loadAt ty (.pointer (some ⟨b,off,none⟩))).run P w=.ok v w:=by
  simp [Instr.loadAt,Instr.sureAddr,loadVar,ha,h]
theorem AY {i b off k:Nat} {ty T:TypeId} {cs vs:List Value} (hx:evF F x=some (.pointer (some ⟨b,off,none⟩))) (hi:L[i]?=some (AO b T cs))
    (ha:∀w,(isAgg ty).run P w=.ok true w) (hs:∀w,(sizeOf ty).run P w=.ok k w) (hv:(cs.drop off).take k=vs) (hl:vs.length=k) :
    Ex P n F w0 L ⟨d,.load ty x,t,p,af,g⟩ (.agg vs.toArray):=λa w hfr hW=>by
  subst hv
  simp only [execOp,hfr.ev hx,Sem.run_bind,HG ha hs hl (Fs (hW.get hi)),Result.andThen_ok,Sem.run_pure]
theorem AR {i b off:Nat} {ty T:TypeId} {cs:List Value} (hx:evF F x=some (.pointer (some ⟨b,off,none⟩))) (hi:L[i]?=some (AO b T cs))
    (ha:∀w,(isAgg ty).run P w=.ok false w) (hv:cs[off]?=some v):Ex P n F w0 L ⟨d,.load ty x,t,p,af,g⟩ v:=λa w hfr hW=>by
  have hc:w.cell? ⟨b,off,none⟩=some v:=by rw [cell_of_row w b _ _ T _ (hW.get hi)];simpa using hv
  simp only [execOp,hfr.ev hx,Sem.run_bind,HH ha hc,Result.andThen_ok,Sem.run_pure]
theorem F2 {b off k:Nat} {ty:TypeId} {vs:List Value} (hx:evF F x=some (.pointer (some ⟨b,off,none⟩))) (h:∀w,A_ w0 w L->CA w b off vs)
    (ha:∀w,(isAgg ty).run P w=.ok true w) (hs:∀w,(sizeOf ty).run P w=.ok k w) (hl:vs.length=k) :
    Ex P n F w0 L ⟨d,.load ty x,t,p,af,g⟩ (.agg vs.toArray):=λa w hfr hW=>by
  simp only [execOp,hfr.ev hx,Sem.run_bind,HG ha hs hl (h w hW),Result.andThen_ok,Sem.run_pure]
theorem Bf {b off:Nat} {ty:TypeId} (hx:evF F x=some (.pointer (some ⟨b,off,none⟩))) (h:∀w,A_ w0 w L->w.cell? ⟨b,off,none⟩=some v)
    (ha:∀w,(isAgg ty).run P w=.ok false w):Ex P n F w0 L ⟨d,.load ty x,t,p,af,g⟩ v:=λa w hfr hW=>by
  simp only [execOp,hfr.ev hx,Sem.run_bind,HH ha (h w hW),Result.andThen_ok,Sem.run_pure]
def I7 (cs:List Value) (off:Nat) (vs:List Value):List Value:=cs.take off++vs++cs.drop (off+vs.length)
theorem QH {i b off:Nat} {ty T:TypeId} {cs vs:List Value} (hx:evF F x=some (.pointer (some ⟨b,off,none⟩))) (hy:evF F y=some v) (hi:L[i]?=some (AO b T cs))
    (hv:v.cells=vs.toArray) (hs:∀w,(sizeOf ty).run P w=.ok vs.length w) (h1:(vs.all λu=>u.oneCell')=true) (hl:Nat.ble (off+vs.length) cs.length=true) :
    ∀a w,Cg n a F->A_ w0 w L->(execOp a.eval ⟨d,.store ty x y,t,p,af,g⟩).run P w=.ok .skip (w.setRow b (I7 cs off vs).toArray):=λa w ha hW=>by
  have hle:=Nat.le_of_ble_eq_true hl
  have h2:=run_storeCells_at P b off T vs 0 cs.toArray w (hW.get hi) (by simpa using hle) (λu hu=>List.all_eq_true.1 h1 u hu)
  simp only [Nat.add_zero] at h2
  simp [execOp,ha.ev hx,ha.ev hy,Instr.storeAt,Instr.sureAddr,storeVar,hs,hv,h2,I7]
theorem AA {b off k r:Nat} {s:TypeId} {f:Nat} {fs:Array Field} {fl:Field} (hx:evF F x=some (.pointer (some ⟨b,off,none⟩))) (hu:P.underlying s=some (.struct fs))
    (hf:fs[f]?=some fl) (hs:∀w,(sizeOf fl.type).run P w=.ok (k+1) w) (hr:off+fl.offset=r):Ex P n F w0 L ⟨d,.fieldAddr s x f,t,p,af,g⟩ (.pointer (some ⟨b,r,none⟩)):=λa w ha _=>by
  subst hr
  simp [execOp,ha.ev hx,Instr.fieldAt,run_underlying hu,hf,Instr.sureAddr,fieldPlace,hs,Addr.add_lit]
theorem AB {b off len k r:Nat} {s e:TypeId} {ki:IntKind} {i:Int} {j:Nat} (hx:evF F x=some (.pointer (some ⟨b,off,none⟩))) (hy:evF F y=some (.int ki i))
    (hu:P.underlying s=some (.array len e)) (hs:∀w,(sizeOf e).run P w=.ok k w) (hi:i=(j:Int)) (hj:j<len) (hr:off+j*k=r):Ex P n F w0 L ⟨d,.indexAddr s x y,t,p,af,g⟩ (.pointer (some ⟨b,r,none⟩)):=λa w ha _=>by
  subst hi;subst hr
  simp [execOp,ha.ev hx,ha.ev hy,Instr.indexAt,asIntOf,run_underlying hu,Instr.sureAddr,hs,hj,Addr.add_lit]
theorem AH {b off len cap k r:Nat} {s e:TypeId} {ki:IntKind} {i:Int} {j:Nat} (hx:evF F x=some (.slice (some ⟨b,off,none⟩) len cap)) (hy:evF F y=some (.int ki i))
    (hu:P.underlying s=some (.slice e)) (hs:∀w,(sizeOf e).run P w=.ok k w) (hi:i=(j:Int)) (hj:j<len) (hr:off+j*k=r):Ex P n F w0 L ⟨d,.indexAddr s x y,t,p,af,g⟩ (.pointer (some ⟨b,r,none⟩)):=λa w ha _=>by
  subst hi;subst hr
  simp [execOp,ha.ev hx,ha.ev hy,Instr.indexAt,asIntOf,run_underlying hu,hs,hj,Addr.add_lit]
theorem AX {k:IntKind} {a b c:Int} {tx ty:TypeId} (hx:evF F x=some (.int k a)) (hy:evF F y=some (.int k b)) (hc:k.wrap (a+b)=c):Ex P n F w0 L ⟨d,.binOp .add tx x y ty,t,p,af,g⟩ (.int k c):=λA w ha _=>by
  simp only [execOp,ha.ev hx,ha.ev hy,eqGuard_add,binOp_add,Op.intArith,Sem.run_bind,Sem.run_pure,Result.andThen_ok,hc]
theorem BY {k:IntKind} {a b c:Int} {tx ty:TypeId} (hx:evF F x=some (.int k a)) (hy:evF F y=some (.int k b)) (hc:k.wrap (a-b)=c):Ex P n F w0 L ⟨d,.binOp .sub tx x y ty,t,p,af,g⟩ (.int k c):=λA w ha _=>by
  simp only [execOp,ha.ev hx,ha.ev hy,eqGuard_sub,binOp_sub,Op.intArith,Sem.run_bind,Sem.run_pure,Result.andThen_ok,hc]
theorem B5 {k:IntKind} {a b c:Int} {tx ty:TypeId} (hx:evF F x=some (.int k a)) (hy:evF F y=some (.int k b)) (hc:k.wrap (a*b)=c):Ex P n F w0 L ⟨d,.binOp .mul tx x y ty,t,p,af,g⟩ (.int k c):=λA w ha _=>by
  simp only [execOp,ha.ev hx,ha.ev hy,eqGuard_mul,binOp_mul,Op.intArith,Sem.run_bind,Sem.run_pure,Result.andThen_ok,hc]
theorem Ec {k:IntKind} {a b c:Int} {tx ty:TypeId} (hx:evF F x=some (.int k a)) (hy:evF F y=some (.int k b)) (hb:b≠0) (hc:k.wrap (a.tdiv b)=c):Ex P n F w0 L ⟨d,.binOp .quo tx x y ty,t,p,af,g⟩ (.int k c):=λA w ha _=>by
  simp [execOp,ha.ev hx,ha.ev hy,eqGuard_quo,binOp_quo,Op.intDiv,hb,hc]
theorem Cz {k:IntKind} {a b c:Int} {tx ty:TypeId} (hx:evF F x=some (.int k a)) (hy:evF F y=some (.int k b)) (hb:b≠0) (hc:a.tmod b=c):Ex P n F w0 L ⟨d,.binOp .rem tx x y ty,t,p,af,g⟩ (.int k c):=λA w ha _=>by
  simp [execOp,ha.ev hx,ha.ev hy,eqGuard_rem,binOp_rem,Op.intDiv,hb,hc]
theorem Li {k:IntKind} {a b c:Int} {tx ty:TypeId} (hx:evF F x=some (.int k a)) (hy:evF F y=some (.int k b)) (hc:k.wrap ((BitVec.ofInt k.bits a &&& BitVec.ofInt k.bits b).toNat:Int)=c):Ex P n F w0 L ⟨d,.binOp .and tx x y ty,t,p,af,g⟩ (.int k c):=λA w ha _=>by
  simp only [execOp,ha.ev hx,ha.ev hy,eqGuard_and,binOp_and,Op.intBits,Sem.run_bind,Sem.run_pure,Result.andThen_ok,hc]
theorem KN {k:IntKind} {a b c:Int} {tx ty:TypeId} (hx:evF F x=some (.int k a)) (hy:evF F y=some (.int k b)) (hc:k.wrap ((BitVec.ofInt k.bits a ||| BitVec.ofInt k.bits b).toNat:Int)=c):Ex P n F w0 L ⟨d,.binOp .or tx x y ty,t,p,af,g⟩ (.int k c):=λA w ha _=>by
  simp only [execOp,ha.ev hx,ha.ev hy,eqGuard_or,binOp_or,Op.intBits,Sem.run_bind,Sem.run_pure,Result.andThen_ok,hc]
theorem cL {k:IntKind} {a b c:Int} {tx ty:TypeId} (hx:evF F x=some (.int k a)) (hy:evF F y=some (.int k b)) (hc:k.wrap ((BitVec.ofInt k.bits a ^^^ BitVec.ofInt k.bits b).toNat:Int)=c):Ex P n F w0 L ⟨d,.binOp .xor tx x y ty,t,p,af,g⟩ (.int k c):=λA w ha _=>by
  simp only [execOp,ha.ev hx,ha.ev hy,eqGuard_xor,binOp_xor,Op.intBits,Sem.run_bind,Sem.run_pure,Result.andThen_ok,hc]
theorem Hj {k k':IntKind} {a b c:Int} {tx ty:TypeId} {s:Nat} (hx:evF F x=some (.int k a)) (hy:evF F y=some (.int k' b)) (hb:b=(s:Int)) (hs:s<=k.bits) (hc:k.wrap (a*2^s)=c):Ex P n F w0 L ⟨d,.binOp .shl tx x y ty,t,p,af,g⟩ (.int k c):=λA w ha _=>by
  subst hb
  simp [execOp,ha.ev hx,ha.ev hy,eqGuard_shl,binOp_shl,shift_shl k k' a s Z Z,hc]
theorem DZ {k k':IntKind} {a b c:Int} {tx ty:TypeId} {s:Nat} (hx:evF F x=some (.int k a)) (hy:evF F y=some (.int k' b)) (hb:b=(s:Int)) (hs:s<=k.bits) (hc:a/2^s=c):Ex P n F w0 L ⟨d,.binOp .shr tx x y ty,t,p,af,g⟩ (.int k c):=λA w ha _=>by
  subst hb
  simp [execOp,ha.ev hx,ha.ev hy,eqGuard_shr,binOp_shr,shift_shr k k' a s Z Z,hc]
theorem Au {k:IntKind} {a b:Int} {c:Bool} {tx ty:TypeId} (hx:evF F x=some (.int k a)) (hy:evF F y=some (.int k b)) (hc:decide (a=b)=c):Ex P n F w0 L ⟨d,.binOp .eql tx x y ty,t,p,af,g⟩ (.bool c):=λA w ha _=>by
  have:(a == b)=c:=by rw [<-hc];rfl
  simp only [execOp,ha.ev hx,ha.ev hy,eqGuard_at_int,binOp_eql,Sem.run_bind,Sem.run_pure,Result.andThen_ok,this]
theorem DH {k:IntKind} {a b:Int} {c:Bool} {tx ty:TypeId} (hx:evF F x=some (.int k a)) (hy:evF F y=some (.int k b)) (hc:decide (a≠b)=c):Ex P n F w0 L ⟨d,.binOp .neq tx x y ty,t,p,af,g⟩ (.bool c):=λA w ha _=>by
  have:(a != b)=c:=by rw [<-hc];simp [bne];rfl
  simp only [execOp,ha.ev hx,ha.ev hy,eqGuard_at_int,binOp_neq,Sem.run_bind,Sem.run_pure,Result.andThen_ok,this]
theorem Aa {k:IntKind} {a b:Int} {c:Bool} {tx ty:TypeId} (hx:evF F x=some (.int k a)) (hy:evF F y=some (.int k b)) (hc:decide (a<b)=c):Ex P n F w0 L ⟨d,.binOp .lss tx x y ty,t,p,af,g⟩ (.bool c):=λA w ha _=>by
  simp only [execOp,ha.ev hx,ha.ev hy,eqGuard_lss,binOp_lss,Sem.run_bind,Sem.run_pure,Result.andThen_ok,hc]
theorem FB {k:IntKind} {a b:Int} {c:Bool} {tx ty:TypeId} (hx:evF F x=some (.int k a)) (hy:evF F y=some (.int k b)) (hc:decide (a<=b)=c):Ex P n F w0 L ⟨d,.binOp .leq tx x y ty,t,p,af,g⟩ (.bool c):=λA w ha _=>by
  simp only [execOp,ha.ev hx,ha.ev hy,eqGuard_leq,binOp_leq,Sem.run_bind,Sem.run_pure,Result.andThen_ok,hc]
theorem CC {k:IntKind} {a b:Int} {c:Bool} {tx ty:TypeId} (hx:evF F x=some (.int k a)) (hy:evF F y=some (.int k b)) (hc:decide (b<a)=c):Ex P n F w0 L ⟨d,.binOp .gtr tx x y ty,t,p,af,g⟩ (.bool c):=λA w ha _=>by
  have:decide (a>b)=c:=hc
  simp only [execOp,ha.ev hx,ha.ev hy,eqGuard_gtr,binOp_gtr,Sem.run_bind,Sem.run_pure,Result.andThen_ok,this]
theorem Cy {k:IntKind} {a b:Int} {c:Bool} {tx ty:TypeId} (hx:evF F x=some (.int k a)) (hy:evF F y=some (.int k b)) (hc:decide (b<=a)=c):Ex P n F w0 L ⟨d,.binOp .geq tx x y ty,t,p,af,g⟩ (.bool c):=λA w ha _=>by
  have:decide (a>=b)=c:=hc
  simp only [execOp,ha.ev hx,ha.ev hy,eqGuard_geq,binOp_geq,Sem.run_bind,Sem.run_pure,Result.andThen_ok,this]
theorem Jo {k:IntKind} {a c:Int} {tx:TypeId} (hx:evF F x=some (.int k a)) (hc:k.wrap (0-a)=c):Ex P n F w0 L ⟨d,.unOp .neg tx x,t,p,af,g⟩ (.int k c):=λA w ha _=>by
  simp only [execOp,ha.ev hx,Op.unary,Op.intArith,Sem.run_bind,Sem.run_pure,Result.andThen_ok,hc]
theorem Bs {b c:Bool} {tx:TypeId} (hx:evF F x=some (.bool b)) (hc:(!b)=c):Ex P n F w0 L ⟨d,.unOp .not tx x,t,p,af,g⟩ (.bool c):=λA w ha _=>by
  simp only [execOp,ha.ev hx,Op.unary,Sem.run_bind,Sem.run_pure,Result.andThen_ok,hc]
theorem WL {k:IntKind} {a c:Int} {tx:TypeId} (hx:evF F x=some (.int k a)) (hc:k.wrap ((BitVec.ofInt k.bits (if k.signed then -1 else k.max) ^^^ BitVec.ofInt k.bits a).toNat:Int)=c):Ex P n F w0 L ⟨d,.unOp .xor tx x,t,p,af,g⟩ (.int k c):=λA w ha _=>by
  simp only [execOp,ha.ev hx,Op.unary,Op.intBits,Sem.run_bind,Sem.run_pure,Result.andThen_ok,hc]
theorem Al {k k':IntKind} {a c:Int} {src dst:TypeId} {ds:TypeDesc} (hx:evF F x=some (.int k a)) (h1:P.underlying src=some ds) (h2:P.underlying dst=some (.int k')) (hc:k'.wrap a=c):Ex P n F w0 L ⟨d,.convert src dst x,t,p,af,g⟩ (.int k' c):=λA w ha _=>by
  simp [execOp,ha.ev hx,convert,run_underlying h1,run_underlying h2,Conv.intToInt,hc]
theorem Bh {s s':ByteArray} {c:Bool} {tx ty:TypeId} (hx:evF F x=some (.string s)) (hy:evF F y=some (.string s')) (hc:(s.toList == s'.toList)=c):Ex P n F w0 L ⟨d,.binOp .eql tx x y ty,t,p,af,g⟩ (.bool c):=λA w ha _=>by
  simp only [execOp,ha.ev hx,ha.ev hy,eqGuard_at_string,Sem.run_bind,Sem.run_pure,Result.andThen_ok]
  simp [binOp,Op.stringOp,hc]
theorem Bz {s s' r:ByteArray} {tx ty:TypeId} (hx:evF F x=some (.string s)) (hy:evF F y=some (.string s')) (hl:s.size+s'.size<=9223372036854775807) (hr:s++s'=r):Ex P n F w0 L ⟨d,.binOp .add tx x y ty,t,p,af,g⟩ (.string r):=λA w ha _=>by
  have h:¬(((s.size+s'.size:Nat):Int)>IntKind.i64.max):=by rw [IntKind.max_i64];omega
  simp [execOp,ha.ev hx,ha.ev hy,eqGuard_add,binOp,Op.stringOp]
  rw [IntKind.max_i64] at h
  rw [if_neg Z]
  simp [hr]
theorem KL {a b c:Bool} {tx ty:TypeId} (hx:evF F x=some (.bool a)) (hy:evF F y=some (.bool b)) (hu:P.underlying tx=some .bool) (hc:(a == b)=c):Ex P n F w0 L ⟨d,.binOp .eql tx x y ty,t,p,af,g⟩ (.bool c):=λA w ha _=>by
  have h:∀k:Nat,(Op.equalIn (k+1) tx (.bool a) (.bool b)).run P w=.ok (a == b) w:=λk=>by simp [Op.equalIn,run_underlying hu]
  simp only [execOp,ha.ev hx,ha.ev hy,eqGuard_at_bool,Sem.run_bind,Sem.run_pure,Result.andThen_ok,binOp]
  simp only [Op.equal,Op.maxDepth,h 9999,Result.andThen_ok,hc]
theorem KM {a b c:Bool} {tx ty:TypeId} (hx:evF F x=some (.bool a)) (hy:evF F y=some (.bool b)) (hu:P.underlying tx=some .bool) (hc:(!(a == b))=c):Ex P n F w0 L ⟨d,.binOp .neq tx x y ty,t,p,af,g⟩ (.bool c):=λA w ha _=>by
  have h:∀k:Nat,(Op.equalIn (k+1) tx (.bool a) (.bool b)).run P w=.ok (a == b) w:=λk=>by simp [Op.equalIn,run_underlying hu]
  simp only [execOp,ha.ev hx,ha.ev hy,eqGuard_at_bool,Sem.run_bind,Sem.run_pure,Result.andThen_ok,binOp]
  simp only [Op.equal,Op.maxDepth,h 9999,Result.andThen_ok,hc]
theorem AJ {vs:Array Value} {i:Nat} (hx:evF F x=some (.tuple vs)) (hv:vs[i]?=some v):Ex P n F w0 L ⟨d,.extract x i,t,p,af,g⟩ v:=λA w ha _=>by
  simp [execOp,ha.ev hx,Instr.extract,hv]
theorem FP {fn:Fn} {first captured:Array Operand} {vs us:List Value} (h1:(first.toList.map (evF F))=vs.map some) (h2:(captured.toList.map (evF F))=us.map some):Ex P n F w0 L ⟨d,.makeFunc fn first captured,t,p,af,g⟩ (.func fn vs.toArray us.toArray):=λA w ha _=>by
  have key:∀(l:List Operand) (r:List Value),l.map (evF F)=r.map some->l.map A.eval=r:=by
    intro l
    induction l with
    | nil=>intro r h;cases r<;>simp_all
    | cons o l ih =>
      intro r h
      cases r with
      | nil=>simp at h
      | cons u r=>simp only [List.map_cons,List.cons.injEq] at h;rw [List.map_cons,ha.ev h.1,ih r h.2]
  have e1:first.map A.eval=vs.toArray:=by rw [<-key _ _ h1];apply Array.toList_inj.1;simp
  have e2:captured.map A.eval=us.toArray:=by rw [<-key _ _ h2];apply Array.toList_inj.1;simp
  simp [execOp,Instr.makeFunc,e1,e2]
theorem HQ {s:ByteArray} {k:IntKind} {i:Int} {j:Nat} {b:UInt8} {tx:TypeId} (hx:evF F x=some (.string s)) (hy:evF F y=some (.int k i)) (hu:P.underlying tx=some .string) (hi:i=(j:Int)) (hb:s[j]?=some b):Ex P n F w0 L ⟨d,.index tx x y,t,p,af,g⟩ (.int .u8 b.toNat):=λA w ha _=>by
  subst hi
  simp [execOp,ha.ev hx,ha.ev hy,Instr.index,asIntOf,run_underlying hu,hb]
theorem DG {s:ByteArray} {tx:TypeId} (hx:evF F x=some (.string s)) (hu:P.underlying tx=some .string):Ex P n F w0 L ⟨d,.call { callee:=.builtin .len,args:=#[x],argTypes:=#[tx] },t,p,af,g⟩ (.int .i64 s.size):=λA w ha _=>by
  simp [execOp,resolve,invoke,builtin,ha.ev hx,Builtin.len_,run_underlying hu,goInt]
theorem AD {a:Option Addr} {k c:Nat} {tx e:TypeId} (hx:evF F x=some (.slice a k c)) (hu:P.underlying tx=some (.slice e)):Ex P n F w0 L ⟨d,.call { callee:=.builtin .len,args:=#[x],argTypes:=#[tx] },t,p,af,g⟩ (.int .i64 k):=λA w ha _=>by
  simp [execOp,resolve,invoke,builtin,ha.ev hx,Builtin.len_,run_underlying hu,goInt]
theorem OT {a:Option Addr} {k c:Nat} {tx e:TypeId} (hx:evF F x=some (.slice a k c)) (hu:P.underlying tx=some (.slice e)):Ex P n F w0 L ⟨d,.call { callee:=.builtin .cap,args:=#[x],argTypes:=#[tx] },t,p,af,g⟩ (.int .i64 c):=λA w ha _=>by
  simp [execOp,resolve,invoke,builtin,ha.ev hx,Builtin.cap_,run_underlying hu,goInt]
theorem WN {k:IntKind} {a b c:Int} {ts:Array TypeId} (hx:evF F x=some (.int k a)) (hy:evF F y=some (.int k b)) (hc:(if b<a then b else a)=c):Ex P n F w0 L ⟨d,.call { callee:=.builtin .min,args:=#[x,y],argTypes:=ts },t,p,af,g⟩ (.int k c):=λA w ha _=>by
  simp [execOp,resolve,invoke,builtin,ha.ev hx,ha.ev hy,Builtin.min_,Builtin.min2,hc]
theorem OU {k:IntKind} {a b c:Int} {ts:Array TypeId} (hx:evF F x=some (.int k a)) (hy:evF F y=some (.int k b)) (hc:(if b>a then b else a)=c):Ex P n F w0 L ⟨d,.call { callee:=.builtin .max,args:=#[x,y],argTypes:=ts },t,p,af,g⟩ (.int k c):=λA w ha _=>by
  simp [execOp,resolve,invoke,builtin,ha.ev hx,ha.ev hy,Builtin.max_,Builtin.max2,hc]
theorem Lh {l:List Operand} {r:List Value} {A:Act} (ha:Cg n A F) (h:l.map (evF F)=r.map some):l.map A.eval=r:=by
  induction l generalizing r with
  | nil=>cases r<;>simp_all
  | cons o l ih =>
    cases r with
    | nil=>simp at h
    | cons u r=>simp only [List.map_cons,List.cons.injEq] at h;rw [List.map_cons,ha.ev h.1,ih h.2]
theorem JH {f:FuncId} {xs:List Operand} {args caps all:List Value} {ts:Array TypeId} (hf:evF F x=some (.func (.func f) #[] caps.toArray)) (hargs:xs.map (evF F)=args.map some)
    (hall:args++caps=all) (hc:∀args w,(callFunc f args).run P w=.ok (.enter f args) w) :
    ∀a w,Cg n a F->A_ w0 w L->(execOp a.eval ⟨d,.call { callee:=.value x,args:=xs.toArray,argTypes:=ts },t,p,af,g⟩).run P w=.ok (.enter f all.toArray) w:=λA w ha _=>by
  have e1:xs.toArray.map A.eval=args.toArray:=by rw [<-Lh ha hargs];simp
  subst hall
  simp [execOp,resolve,ha.ev hf,Deferred.ofValue,e1,invoke,hc]
theorem AS {T:TypeId} {zs vs:List Value} {fs:Array Field} {parts:Array (Nat×Operand)} {pv:List (Nat×Value)} {places:List (Nat×Nat)} (hz:∀w,(zeroValue T).run P w=.ok (.agg zs.toArray) w) (hu:P.underlying T=some (.struct fs))
    (hpl:∀w,(fs.mapM λf=>Prod.mk f.offset <$> sizeOf f.type:Sem (Array (Nat×Nat))).run P w=.ok places.toArray w)
    (hp:parts.toList.map (λq=>(q.1,evF F q.2))=pv.map (λq=>(q.1,some q.2)))
    (hf:Instr.fill (places.toArray[·]?) zs.toArray pv=some vs.toArray):Ex P n F w0 L ⟨d,.build T parts,t,p,af,g⟩ (.agg vs.toArray):=λA w ha _=>by
  have key:∀(l:List (Nat×Operand)) (r:List (Nat×Value)),l.map (λq=>(q.1,evF F q.2))=r.map (λq=>(q.1,some q.2))->l.map (λq=>(q.1,A.eval q.2))=r:=by
    intro l
    induction l with
    | nil=>intro r h;cases r<;>simp_all
    | cons o l ih =>
      intro r h
      cases r with
      | nil=>simp at h
      | cons q r =>
        simp only [List.map_cons,List.cons.injEq,Prod.mk.injEq] at h
        rw [List.map_cons,ha.ev h.1.2,ih r h.2,h.1.1]
  have e1:(parts.map λq=>(q.1,A.eval q.2)).toList=pv:=by rw [Array.toList_map];exact key _ _ hp
  simp [execOp,Instr.build,hz,run_underlying hu,Value.cells]
  rw [hpl]
  simp only [Result.andThen_ok]
  have e2:(parts.map λ(i,x)=>(i,A.eval x)).toList=pv:=e1
  simp only [Array.toList_map] at e2
  simp only [List.getElem?_toArray] at hf ⊢
  rw [e2,hf]
  simp
theorem Az {T e:TypeId} {len k:Nat} {zs vs:List Value} {parts:Array (Nat×Operand)} {pv:List (Nat×Value)} (hz:∀w,(zeroValue T).run P w=.ok (.agg zs.toArray) w) (hu:P.underlying T=some (.array len e))
    (hs:∀w,(sizeOf e).run P w=.ok k w)
    (hp:parts.toList.map (λq=>(q.1,evF F q.2))=pv.map (λq=>(q.1,some q.2)))
    (hf:Instr.fill (λi=>some (i*k,k)) zs.toArray pv=some vs.toArray):Ex P n F w0 L ⟨d,.build T parts,t,p,af,g⟩ (.agg vs.toArray):=λA w ha _=>by
  have key:∀(l:List (Nat×Operand)) (r:List (Nat×Value)),l.map (λq=>(q.1,evF F q.2))=r.map (λq=>(q.1,some q.2))->l.map (λq=>(q.1,A.eval q.2))=r:=by
    intro l
    induction l with
    | nil=>intro r h;cases r<;>simp_all
    | cons o l ih =>
      intro r h
      cases r with
      | nil=>simp at h
      | cons q r =>
        simp only [List.map_cons,List.cons.injEq,Prod.mk.injEq] at h
        rw [List.map_cons,ha.ev h.1.2,ih r h.2,h.1.1]
  have e1:(parts.map λq=>(q.1,A.eval q.2)).toList=pv:=by rw [Array.toList_map];exact key _ _ hp
  simp [execOp,Instr.build,hz,run_underlying hu,Value.cells,hs]
  have e2:(parts.map λ(i,x)=>(i,A.eval x)).toList=pv:=e1
  simp only [Array.toList_map] at e2
  rw [e2,hf]
  simp
end
def Uv (tmps:Array Value):ResultVar->Sem Value
  | .tmp t=>pure (tmps.getD t undef)
  | .cell p ty=>do loadVar ty (<-asAddr (tmps.getD p undef))
theorem HE (fn:Func) (tmps:Array Value):results fn tmps=(do let vs <-fn.results.mapM (Uv tmps);pure (if h:vs.size=1 then vs[0] else .tuple vs)):=by
  have:Uv tmps=(λ|.tmp t=>pure (tmps.getD t undef)|.cell a t=>do loadVar t (<-asAddr (tmps.getD a undef))):=by
    funext r;cases r<;>rfl
  rw [this];rfl
def Rd (P:Program) (n:Nat) (F:List (Nat×Value)) (w0:Ay) (L:List As) (r:ResultVar) (v:Value):Prop :=
  ∀a w,Cg n a F->A_ w0 w L->(Uv a.tmps r).run P w=.ok v w
section
variable {P:Program} {fn:Func} {n:Nat} {F:List (Nat×Value)} {w0:Ay} {L:List As} {R:Ending->World->Prop} {r r' r'':ResultVar} {v v' v'':Value}
theorem rd_tmp {t:Tmp} (ht:F.lookup t=some v):Rd P n F w0 L (.tmp t) v:=λa w ha _=>by simp [Uv,ha.2.2 t v ht]
theorem Ab {t:Tmp} {i b k:Nat} {ty T:TypeId} {cs:List Value} (ht:F.lookup t=some (.pointer (jk b))) (hi:L[i]?=some (AO b T cs))
    (ha:∀w,(isAgg ty).run P w=.ok true w) (hs:∀w,(sizeOf ty).run P w=.ok k w) (hl:cs.length=k):Rd P n F w0 L (.cell t ty) (.agg cs.toArray):=λa w hfr hw=>by
  have h1:((cs.drop 0).take cs.length)=cs:=by simp
  have h2:=HG (P:=P) (off:=0) (vs:=cs) ha hs hl (by have:=Fs (off:=0) (k:=cs.length) (hw.get hi);rwa [h1] at this)
  simp only [Instr.loadAt,Instr.sureAddr,Sem.run_bind,Sem.run_pure,Result.andThen_ok] at h2
  simp [Uv,hfr.2.2 t _ ht,asAddr,h2]
theorem Hu {t:Tmp} {i b:Nat} {ty T:TypeId} {cs:List Value} (ht:F.lookup t=some (.pointer (jk b))) (hi:L[i]?=some (AO b T cs))
    (ha:∀w,(isAgg ty).run P w=.ok false w) (hv:cs[0]?=some v):Rd P n F w0 L (.cell t ty) v:=λa w hfr hw=>by
  have hc:w.cell? ⟨b,0,none⟩=some v:=by rw [cell_of_row w b _ _ T _ (hw.get hi)];simpa using hv
  have h2:=HH (P:=P) ha hc
  simp only [Instr.loadAt,Instr.sureAddr,Sem.run_bind,Sem.run_pure,Result.andThen_ok] at h2
  simp [Uv,hfr.2.2 t _ ht,asAddr,h2]
theorem ret_one (hr:fn.results=#[r]) (h1:Rd P n F w0 L r v) (h:∀w,A_ w0 w L->R (.returned v) w):OkQ (bodyPost P fn R) .ret n F w0 L:=λa w ha hw =>
  ⟨ha.1,v,by simp [HE,hr,h1 a w ha hw],h w hw⟩
theorem Bl (hr:fn.results=#[r,r']) (h1:Rd P n F w0 L r v) (h2:Rd P n F w0 L r' v') (h:∀w,A_ w0 w L->R (.returned (.tuple #[v,v'])) w):OkQ (bodyPost P fn R) .ret n F w0 L:=λa w ha hw =>
  ⟨ha.1,.tuple #[v,v'],by simp [HE,hr,h1 a w ha hw,h2 a w ha hw],h w hw⟩
theorem DV (hr:fn.results=#[r,r',r'']) (h1:Rd P n F w0 L r v) (h2:Rd P n F w0 L r' v') (h3:Rd P n F w0 L r'' v'')
    (h:∀w,A_ w0 w L->R (.returned (.tuple #[v,v',v''])) w):OkQ (bodyPost P fn R) .ret n F w0 L:=λa w ha hw =>
  ⟨ha.1,.tuple #[v,v',v''],by simp [HE,hr,h1 a w ha hw,h2 a w ha hw,h3 a w ha hw],h w hw⟩
theorem DC {e:Exit} (he:e=.ret\/e=.normal) (hr:fn.results=#[]) (h:∀w,A_ w0 w L->R (.returned (.tuple #[])) w):OkQ (bodyPost P fn R) e n F w0 L:=λa w ha hw=>by
  rcases he with rfl|rfl<;>exact ⟨ha.1,.tuple #[],by simp [HE,hr],h w hw⟩
end
end
end Go.Proofs.YtcpkbjjmcleplaaGreatDoor
