import Derived.Orders
import Derived.OrdersHeld
import Derived.Test.YtbfdamnfcmefmaaGreatDoorPend00
namespace Go.Proofs.YtbfdamnfcmefmaaGreatDoor
open Go Go.RowKit Go.Proofs.Tryz
open Go.Value renaming slice→qz,bool→qa
set_option linter.unusedVariables false
set_option linter.unusedSimpArgs false
section
section
variable {P:Program} {n:Nat} {F:List (Nat×Value)} {w0:BD} {L:List As} {v u:Value} {x y z:Operand} {d:Option Tmp} {t:TypeId} {p:String} {af:Array Edge} {g:Option (Nat×Bool)}
theorem Cn (hx:evF F x=some v):Ex P n F w0 L ⟨d,.move x,t,p,af,g⟩ v:=λa w ha _=>by simp [execOp,ha.ev hx]
theorem Mz (hx:evF F x=some v):Ex P n F w0 L ⟨d,.assign x,t,p,af,g⟩ v:=λa w ha _=>by simp [execOp,ha.ev hx]
theorem AX (hx:evF F x=some (.bool true)) (hy:evF F y=some v):Ex P n F w0 L ⟨d,.pick x y z,t,p,af,g⟩ v:=λa w ha _=>by
  simp [execOp,ha.ev hx,ha.ev hy,asBool]
theorem AP (hx:evF F x=some (.bool false)) (hz:evF F z=some v):Ex P n F w0 L ⟨d,.pick x y z,t,p,af,g⟩ v:=λa w ha _=>by
  simp [execOp,ha.ev hx,ha.ev hz,asBool]
theorem Y4 {T:TypeId} {cs:List Value} (hv:v.cells=cs.toArray) (w:World):(Instr.box T v).run P w=.ok (.pointer (some ⟨w.heap.size,0,none⟩)) (w.alloc (.cells cs.toArray T)):=by
  simp [Instr.box,newVar,newRow,hv]
theorem aU {T:TypeId} {cs:List Value} (hx:evF F x=some v) (hv:v.cells=cs.toArray) :
    ∀a w,Cx n a F->BH w0 w L->(execOp a.eval ⟨d,.box T x,t,p,af,g⟩).run P w=.ok (.value (.pointer (some ⟨w.heap.size,0,none⟩))) (w.alloc (.cells cs.toArray T)):=λa w ha _=>by
  simp only [execOp,ha.ev hx,Sem.run_bind,Y4 hv,Result.andThen_ok,Sem.run_pure]
theorem PL {T:TypeId} {cs:List Value} (hz:∀w,(zeroValue T).run P w=.ok u w) (hv:u.cells=cs.toArray) :
    ∀a w,Cx n a F->BH w0 w L->(execOp a.eval ⟨d,.alloc T,t,p,af,g⟩).run P w=.ok (.value (.pointer (some ⟨w.heap.size,0,none⟩))) (w.alloc (.cells cs.toArray T)):=λa w _ _=>by
  simp [execOp,Instr.alloc,newVar,newRow,hv,hz]
def CA (w:World) (b off:Nat) (vs:List Value):Prop:=∀j u,vs[j]?=some u->w.cell? ⟨b,off+j,none⟩=some u
theorem EE {w:World} {b off k:Nat} {cs:List Value} {T:TypeId} {fr:Nat×Nat} (h:w.heap[b]?=some (.cells cs.toArray T fr)):CA w b off ((cs.drop off).take k):=λj u hu=>by
  rw [cell_of_row w b _ _ T fr h]
  rw [List.getElem?_take] at hu
  split at hu
  · simpa using hu
  · cases hu
theorem GR {w:World} {b off k:Nat} {ty:TypeId} {vs:List Value} (ha:∀w,(isAgg ty).run P w=.ok true w) (hs:∀w,(sizeOf ty).run P w=.ok k w) (hl:vs.length=k) (h:CA w b off vs) :
    (Instr.loadAt ty (.pointer (some ⟨b,off,none⟩))).run P w=.ok (.agg vs.toArray) w:=by
  have h1:=run_loadCells_list (P:=P) w ⟨b,off,none⟩ vs (λj u hu=>by rw [Addr.add_lit];exact h j u hu)
  rw [hl] at h1
  simp [Instr.loadAt,Instr.sureAddr,loadVar,ha,hs,h1]
theorem Il {w:World} {b off:Nat} {ty:TypeId} (ha:∀w,(isAgg ty).run P w=.ok false w) (h:w.cell? ⟨b,off,none⟩=some v) :
    (Instr.loadAt ty (.pointer (some ⟨b,off,none⟩))).run P w=.ok v w:=by
  simp [Instr.loadAt,Instr.sureAddr,loadVar,ha,h]
theorem Ad {i b off k:Nat} {ty T:TypeId} {cs vs:List Value} (hx:evF F x=some (.pointer (some ⟨b,off,none⟩))) (hi:L[i]?=some (AY b T cs))
    (ha:∀w,(isAgg ty).run P w=.ok true w) (hs:∀w,(sizeOf ty).run P w=.ok k w) (hv:(cs.drop off).take k=vs) (hl:vs.length=k) :
    Ex P n F w0 L ⟨d,.load ty x,t,p,af,g⟩ (.agg vs.toArray):=λa w hfr hW=>by
  subst hv
  simp only [execOp,hfr.ev hx,Sem.run_bind,GR ha hs hl (EE (hW.get hi)),Result.andThen_ok,Sem.run_pure]
theorem AH {i b off:Nat} {ty T:TypeId} {cs:List Value} (hx:evF F x=some (.pointer (some ⟨b,off,none⟩))) (hi:L[i]?=some (AY b T cs))
    (ha:∀w,(isAgg ty).run P w=.ok false w) (hv:cs[off]?=some v):Ex P n F w0 L ⟨d,.load ty x,t,p,af,g⟩ v:=λa w hfr hW=>by
  have hc:w.cell? ⟨b,off,none⟩=some v:=by rw [cell_of_row w b _ _ T _ (hW.get hi)];simpa using hv
  simp only [execOp,hfr.ev hx,Sem.run_bind,Il ha hc,Result.andThen_ok,Sem.run_pure]
theorem FD {b off k:Nat} {ty:TypeId} {vs:List Value} (hx:evF F x=some (.pointer (some ⟨b,off,none⟩))) (h:∀w,BH w0 w L->CA w b off vs)
    (ha:∀w,(isAgg ty).run P w=.ok true w) (hs:∀w,(sizeOf ty).run P w=.ok k w) (hl:vs.length=k) :
    Ex P n F w0 L ⟨d,.load ty x,t,p,af,g⟩ (.agg vs.toArray):=λa w hfr hW=>by
  simp only [execOp,hfr.ev hx,Sem.run_bind,GR ha hs hl (h w hW),Result.andThen_ok,Sem.run_pure]
theorem Bc {b off:Nat} {ty:TypeId} (hx:evF F x=some (.pointer (some ⟨b,off,none⟩))) (h:∀w,BH w0 w L->w.cell? ⟨b,off,none⟩=some v)
    (ha:∀w,(isAgg ty).run P w=.ok false w):Ex P n F w0 L ⟨d,.load ty x,t,p,af,g⟩ v:=λa w hfr hW=>by
  simp only [execOp,hfr.ev hx,Sem.run_bind,Il ha (h w hW),Result.andThen_ok,Sem.run_pure]
def Gc (cs:List Value) (off:Nat) (vs:List Value):List Value:=cs.take off++vs++cs.drop (off+vs.length)
theorem V8 {i b off:Nat} {ty T:TypeId} {cs vs:List Value} (hx:evF F x=some (.pointer (some ⟨b,off,none⟩))) (hy:evF F y=some v) (hi:L[i]?=some (AY b T cs))
    (hv:v.cells=vs.toArray) (hs:∀w,(sizeOf ty).run P w=.ok vs.length w) (h1:(vs.all λu=>u.oneCell')=true) (hl:Nat.ble (off+vs.length) cs.length=true) :
    ∀a w,Cx n a F->BH w0 w L->(execOp a.eval ⟨d,.store ty x y,t,p,af,g⟩).run P w=.ok .skip (w.setRow b (Gc cs off vs).toArray):=λa w ha hW=>by
  have hle:=Nat.le_of_ble_eq_true hl
  have h2:=run_storeCells_at P b off T vs 0 cs.toArray w (hW.get hi) (by simpa using hle) (λu hu=>List.all_eq_true.1 h1 u hu)
  simp only [Nat.add_zero] at h2
  simp [execOp,ha.ev hx,ha.ev hy,Instr.storeAt,Instr.sureAddr,storeVar,hs,hv,h2,Gc]
theorem AA {b off k r:Nat} {s:TypeId} {f:Nat} {fs:Array Field} {fl:Field} (hx:evF F x=some (.pointer (some ⟨b,off,none⟩))) (hu:P.underlying s=some (.struct fs))
    (hf:fs[f]?=some fl) (hs:∀w,(sizeOf fl.type).run P w=.ok (k+1) w) (hr:off+fl.offset=r):Ex P n F w0 L ⟨d,.fieldAddr s x f,t,p,af,g⟩ (.pointer (some ⟨b,r,none⟩)):=λa w ha _=>by
  subst hr
  simp [execOp,ha.ev hx,Instr.fieldAt,run_underlying hu,hf,Instr.sureAddr,fieldPlace,hs,Addr.add_lit]
theorem AB {b off len k r:Nat} {s e:TypeId} {ki:IntKind} {i:Int} {j:Nat} (hx:evF F x=some (.pointer (some ⟨b,off,none⟩))) (hy:evF F y=some (.int ki i))
    (hu:P.underlying s=some (.array len e)) (hs:∀w,(sizeOf e).run P w=.ok k w) (hi:i=(j:Int)) (hj:j<len) (hr:off+j*k=r):Ex P n F w0 L ⟨d,.indexAddr s x y,t,p,af,g⟩ (.pointer (some ⟨b,r,none⟩)):=λa w ha _=>by
  subst hi;subst hr
  simp [execOp,ha.ev hx,ha.ev hy,Instr.indexAt,asIntOf,run_underlying hu,Instr.sureAddr,hs,hj,Addr.add_lit]
theorem AG {b off len cap k r:Nat} {s e:TypeId} {ki:IntKind} {i:Int} {j:Nat} (hx:evF F x=some (.slice (some ⟨b,off,none⟩) len cap)) (hy:evF F y=some (.int ki i))
    (hu:P.underlying s=some (.slice e)) (hs:∀w,(sizeOf e).run P w=.ok k w) (hi:i=(j:Int)) (hj:j<len) (hr:off+j*k=r):Ex P n F w0 L ⟨d,.indexAddr s x y,t,p,af,g⟩ (.pointer (some ⟨b,r,none⟩)):=λa w ha _=>by
  subst hi;subst hr
  simp [execOp,ha.ev hx,ha.ev hy,Instr.indexAt,asIntOf,run_underlying hu,hs,hj,Addr.add_lit]
theorem AS {k:IntKind} {a b c:Int} {tx ty:TypeId} (hx:evF F x=some (.int k a)) (hy:evF F y=some (.int k b)) (hc:k.wrap (a+b)=c):Ex P n F w0 L ⟨d,.binOp .add tx x y ty,t,p,af,g⟩ (.int k c):=λA w ha _=>by
  simp only [execOp,ha.ev hx,ha.ev hy,eqGuard_add,binOp_add,Op.intArith,Sem.run_bind,Sem.run_pure,Result.andThen_ok,hc]
theorem Bt {k:IntKind} {a b c:Int} {tx ty:TypeId} (hx:evF F x=some (.int k a)) (hy:evF F y=some (.int k b)) (hc:k.wrap (a-b)=c):Ex P n F w0 L ⟨d,.binOp .sub tx x y ty,t,p,af,g⟩ (.int k c):=λA w ha _=>by
  simp only [execOp,ha.ev hx,ha.ev hy,eqGuard_sub,binOp_sub,Op.intArith,Sem.run_bind,Sem.run_pure,Result.andThen_ok,hc]
theorem Bo {k:IntKind} {a b c:Int} {tx ty:TypeId} (hx:evF F x=some (.int k a)) (hy:evF F y=some (.int k b)) (hc:k.wrap (a*b)=c):Ex P n F w0 L ⟨d,.binOp .mul tx x y ty,t,p,af,g⟩ (.int k c):=λA w ha _=>by
  simp only [execOp,ha.ev hx,ha.ev hy,eqGuard_mul,binOp_mul,Op.intArith,Sem.run_bind,Sem.run_pure,Result.andThen_ok,hc]
theorem Gn {k:IntKind} {a b c:Int} {tx ty:TypeId} (hx:evF F x=some (.int k a)) (hy:evF F y=some (.int k b)) (hb:b≠0) (hc:k.wrap (a.tdiv b)=c):Ex P n F w0 L ⟨d,.binOp .quo tx x y ty,t,p,af,g⟩ (.int k c):=λA w ha _=>by
  simp [execOp,ha.ev hx,ha.ev hy,eqGuard_quo,binOp_quo,Op.intDiv,hb,hc]
theorem CE {k:IntKind} {a b c:Int} {tx ty:TypeId} (hx:evF F x=some (.int k a)) (hy:evF F y=some (.int k b)) (hb:b≠0) (hc:a.tmod b=c):Ex P n F w0 L ⟨d,.binOp .rem tx x y ty,t,p,af,g⟩ (.int k c):=λA w ha _=>by
  simp [execOp,ha.ev hx,ha.ev hy,eqGuard_rem,binOp_rem,Op.intDiv,hb,hc]
theorem K1 {k:IntKind} {a b c:Int} {tx ty:TypeId} (hx:evF F x=some (.int k a)) (hy:evF F y=some (.int k b)) (hc:k.wrap ((BitVec.ofInt k.bits a &&& BitVec.ofInt k.bits b).toNat:Int)=c):Ex P n F w0 L ⟨d,.binOp .and tx x y ty,t,p,af,g⟩ (.int k c):=λA w ha _=>by
  simp only [execOp,ha.ev hx,ha.ev hy,eqGuard_and,binOp_and,Op.intBits,Sem.run_bind,Sem.run_pure,Result.andThen_ok,hc]
theorem Jc {k:IntKind} {a b c:Int} {tx ty:TypeId} (hx:evF F x=some (.int k a)) (hy:evF F y=some (.int k b)) (hc:k.wrap ((BitVec.ofInt k.bits a ||| BitVec.ofInt k.bits b).toNat:Int)=c):Ex P n F w0 L ⟨d,.binOp .or tx x y ty,t,p,af,g⟩ (.int k c):=λA w ha _=>by
  simp only [execOp,ha.ev hx,ha.ev hy,eqGuard_or,binOp_or,Op.intBits,Sem.run_bind,Sem.run_pure,Result.andThen_ok,hc]
theorem Z_ {k:IntKind} {a b c:Int} {tx ty:TypeId} (hx:evF F x=some (.int k a)) (hy:evF F y=some (.int k b)) (hc:k.wrap ((BitVec.ofInt k.bits a ^^^ BitVec.ofInt k.bits b).toNat:Int)=c):Ex P n F w0 L ⟨d,.binOp .xor tx x y ty,t,p,af,g⟩ (.int k c):=λA w ha _=>by
  simp only [execOp,ha.ev hx,ha.ev hy,eqGuard_xor,binOp_xor,Op.intBits,Sem.run_bind,Sem.run_pure,Result.andThen_ok,hc]
theorem Gp {k k':IntKind} {a b c:Int} {tx ty:TypeId} {s:Nat} (hx:evF F x=some (.int k a)) (hy:evF F y=some (.int k' b)) (hb:b=(s:Int)) (hs:s<=k.bits) (hc:k.wrap (a*2^s)=c):Ex P n F w0 L ⟨d,.binOp .shl tx x y ty,t,p,af,g⟩ (.int k c):=λA w ha _=>by
  subst hb
  simp [execOp,ha.ev hx,ha.ev hy,eqGuard_shl,binOp_shl,shift_shl k k' a s Z Z,hc]
theorem C1 {k k':IntKind} {a b c:Int} {tx ty:TypeId} {s:Nat} (hx:evF F x=some (.int k a)) (hy:evF F y=some (.int k' b)) (hb:b=(s:Int)) (hs:s<=k.bits) (hc:a/2^s=c):Ex P n F w0 L ⟨d,.binOp .shr tx x y ty,t,p,af,g⟩ (.int k c):=λA w ha _=>by
  subst hb
  simp [execOp,ha.ev hx,ha.ev hy,eqGuard_shr,binOp_shr,shift_shr k k' a s Z Z,hc]
theorem BM {k:IntKind} {a b:Int} {c:Bool} {tx ty:TypeId} (hx:evF F x=some (.int k a)) (hy:evF F y=some (.int k b)) (hc:decide (a=b)=c):Ex P n F w0 L ⟨d,.binOp .eql tx x y ty,t,p,af,g⟩ (.bool c):=λA w ha _=>by
  have:(a == b)=c:=by rw [<-hc];rfl
  simp only [execOp,ha.ev hx,ha.ev hy,eqGuard_at_int,binOp_eql,Sem.run_bind,Sem.run_pure,Result.andThen_ok,this]
theorem Bv {k:IntKind} {a b:Int} {c:Bool} {tx ty:TypeId} (hx:evF F x=some (.int k a)) (hy:evF F y=some (.int k b)) (hc:decide (a≠b)=c):Ex P n F w0 L ⟨d,.binOp .neq tx x y ty,t,p,af,g⟩ (.bool c):=λA w ha _=>by
  have:(a != b)=c:=by rw [<-hc];simp [bne];rfl
  simp only [execOp,ha.ev hx,ha.ev hy,eqGuard_at_int,binOp_neq,Sem.run_bind,Sem.run_pure,Result.andThen_ok,this]
theorem Ab {k:IntKind} {a b:Int} {c:Bool} {tx ty:TypeId} (hx:evF F x=some (.int k a)) (hy:evF F y=some (.int k b)) (hc:decide (a<b)=c):Ex P n F w0 L ⟨d,.binOp .lss tx x y ty,t,p,af,g⟩ (.bool c):=λA w ha _=>by
  simp only [execOp,ha.ev hx,ha.ev hy,eqGuard_lss,binOp_lss,Sem.run_bind,Sem.run_pure,Result.andThen_ok,hc]
theorem I1 {k:IntKind} {a b:Int} {c:Bool} {tx ty:TypeId} (hx:evF F x=some (.int k a)) (hy:evF F y=some (.int k b)) (hc:decide (a<=b)=c):Ex P n F w0 L ⟨d,.binOp .leq tx x y ty,t,p,af,g⟩ (.bool c):=λA w ha _=>by
  simp only [execOp,ha.ev hx,ha.ev hy,eqGuard_leq,binOp_leq,Sem.run_bind,Sem.run_pure,Result.andThen_ok,hc]
theorem Da {k:IntKind} {a b:Int} {c:Bool} {tx ty:TypeId} (hx:evF F x=some (.int k a)) (hy:evF F y=some (.int k b)) (hc:decide (b<a)=c):Ex P n F w0 L ⟨d,.binOp .gtr tx x y ty,t,p,af,g⟩ (.bool c):=λA w ha _=>by
  have:decide (a>b)=c:=hc
  simp only [execOp,ha.ev hx,ha.ev hy,eqGuard_gtr,binOp_gtr,Sem.run_bind,Sem.run_pure,Result.andThen_ok,this]
theorem D1 {k:IntKind} {a b:Int} {c:Bool} {tx ty:TypeId} (hx:evF F x=some (.int k a)) (hy:evF F y=some (.int k b)) (hc:decide (b<=a)=c):Ex P n F w0 L ⟨d,.binOp .geq tx x y ty,t,p,af,g⟩ (.bool c):=λA w ha _=>by
  have:decide (a>=b)=c:=hc
  simp only [execOp,ha.ev hx,ha.ev hy,eqGuard_geq,binOp_geq,Sem.run_bind,Sem.run_pure,Result.andThen_ok,this]
theorem K2 {k:IntKind} {a c:Int} {tx:TypeId} (hx:evF F x=some (.int k a)) (hc:k.wrap (0-a)=c):Ex P n F w0 L ⟨d,.unOp .neg tx x,t,p,af,g⟩ (.int k c):=λA w ha _=>by
  simp only [execOp,ha.ev hx,Op.unary,Op.intArith,Sem.run_bind,Sem.run_pure,Result.andThen_ok,hc]
theorem BE {b c:Bool} {tx:TypeId} (hx:evF F x=some (.bool b)) (hc:(!b)=c):Ex P n F w0 L ⟨d,.unOp .not tx x,t,p,af,g⟩ (.bool c):=λA w ha _=>by
  simp only [execOp,ha.ev hx,Op.unary,Sem.run_bind,Sem.run_pure,Result.andThen_ok,hc]
theorem Uz {k:IntKind} {a c:Int} {tx:TypeId} (hx:evF F x=some (.int k a)) (hc:k.wrap ((BitVec.ofInt k.bits (if k.signed then -1 else k.max) ^^^ BitVec.ofInt k.bits a).toNat:Int)=c):Ex P n F w0 L ⟨d,.unOp .xor tx x,t,p,af,g⟩ (.int k c):=λA w ha _=>by
  simp only [execOp,ha.ev hx,Op.unary,Op.intBits,Sem.run_bind,Sem.run_pure,Result.andThen_ok,hc]
theorem Aq {k k':IntKind} {a c:Int} {src dst:TypeId} {ds:TypeDesc} (hx:evF F x=some (.int k a)) (h1:P.underlying src=some ds) (h2:P.underlying dst=some (.int k')) (hc:k'.wrap a=c):Ex P n F w0 L ⟨d,.convert src dst x,t,p,af,g⟩ (.int k' c):=λA w ha _=>by
  simp [execOp,ha.ev hx,convert,run_underlying h1,run_underlying h2,Conv.intToInt,hc]
theorem Bh {s s':ByteArray} {c:Bool} {tx ty:TypeId} (hx:evF F x=some (.string s)) (hy:evF F y=some (.string s')) (hc:(s.toList == s'.toList)=c):Ex P n F w0 L ⟨d,.binOp .eql tx x y ty,t,p,af,g⟩ (.bool c):=λA w ha _=>by
  simp only [execOp,ha.ev hx,ha.ev hy,eqGuard_at_string,Sem.run_bind,Sem.run_pure,Result.andThen_ok]
  simp [binOp,Op.stringOp,hc]
theorem Fo {s s' r:ByteArray} {tx ty:TypeId} (hx:evF F x=some (.string s)) (hy:evF F y=some (.string s')) (hl:s.size+s'.size<=9223372036854775807) (hr:s++s'=r):Ex P n F w0 L ⟨d,.binOp .add tx x y ty,t,p,af,g⟩ (.string r):=λA w ha _=>by
  have h:¬(((s.size+s'.size:Nat):Int)>IntKind.i64.max):=by rw [IntKind.max_i64];omega
  simp [execOp,ha.ev hx,ha.ev hy,eqGuard_add,binOp,Op.stringOp]
  rw [IntKind.max_i64] at h
  rw [if_neg Z]
  simp [hr]
theorem JZ {a b c:Bool} {tx ty:TypeId} (hx:evF F x=some (.bool a)) (hy:evF F y=some (.bool b)) (hu:P.underlying tx=some .bool) (hc:(a == b)=c):Ex P n F w0 L ⟨d,.binOp .eql tx x y ty,t,p,af,g⟩ (.bool c):=λA w ha _=>by
  have h:∀k:Nat,(Op.equalIn (k+1) tx (.bool a) (.bool b)).run P w=.ok (a == b) w:=λk=>by simp [Op.equalIn,run_underlying hu]
  simp only [execOp,ha.ev hx,ha.ev hy,eqGuard_at_bool,Sem.run_bind,Sem.run_pure,Result.andThen_ok,binOp]
  simp only [Op.equal,Op.maxDepth,h 9999,Result.andThen_ok,hc]
theorem Ja {a b c:Bool} {tx ty:TypeId} (hx:evF F x=some (.bool a)) (hy:evF F y=some (.bool b)) (hu:P.underlying tx=some .bool) (hc:(!(a == b))=c):Ex P n F w0 L ⟨d,.binOp .neq tx x y ty,t,p,af,g⟩ (.bool c):=λA w ha _=>by
  have h:∀k:Nat,(Op.equalIn (k+1) tx (.bool a) (.bool b)).run P w=.ok (a == b) w:=λk=>by simp [Op.equalIn,run_underlying hu]
  simp only [execOp,ha.ev hx,ha.ev hy,eqGuard_at_bool,Sem.run_bind,Sem.run_pure,Result.andThen_ok,binOp]
  simp only [Op.equal,Op.maxDepth,h 9999,Result.andThen_ok,hc]
theorem AJ {vs:Array Value} {i:Nat} (hx:evF F x=some (.tuple vs)) (hv:vs[i]?=some v):Ex P n F w0 L ⟨d,.extract x i,t,p,af,g⟩ v:=λA w ha _=>by
  simp [execOp,ha.ev hx,Instr.extract,hv]
theorem Dt {fn:Fn} {first captured:Array Operand} {vs us:List Value} (h1:(first.toList.map (evF F))=vs.map some) (h2:(captured.toList.map (evF F))=us.map some):Ex P n F w0 L ⟨d,.makeFunc fn first captured,t,p,af,g⟩ (.func fn vs.toArray us.toArray):=λA w ha _=>by
  have key:∀(l:List Operand) (r:List Value),l.map (evF F)=r.map some->l.map A.eval=r:=by
    intro l
    induction l with
    | nil=>intro r h;cases r<;>simp_all
    | cons o l ih =>
      intro r h
      cases r with
      | nil=>simp at h
      | cons u r=>simp only [List.map_cons,List.cons.injEq] at h;rw [List.map_cons,ha.ev h.1,ih r h.2]
  have e1:first.map A.eval=vs.toArray:=by rw [<-key _ _ h1];apply Array.toList_inj.1;simp
  have e2:captured.map A.eval=us.toArray:=by rw [<-key _ _ h2];apply Array.toList_inj.1;simp
  simp [execOp,Instr.makeFunc,e1,e2]
theorem Js {s:ByteArray} {k:IntKind} {i:Int} {j:Nat} {b:UInt8} {tx:TypeId} (hx:evF F x=some (.string s)) (hy:evF F y=some (.int k i)) (hu:P.underlying tx=some .string) (hi:i=(j:Int)) (hb:s[j]?=some b):Ex P n F w0 L ⟨d,.index tx x y,t,p,af,g⟩ (.int .u8 b.toNat):=λA w ha _=>by
  subst hi
  simp [execOp,ha.ev hx,ha.ev hy,Instr.index,asIntOf,run_underlying hu,hb]
theorem MO {s:ByteArray} {tx:TypeId} (hx:evF F x=some (.string s)) (hu:P.underlying tx=some .string):Ex P n F w0 L ⟨d,.call { callee:=.builtin .len,args:=#[x],argTypes:=#[tx] },t,p,af,g⟩ (.int .i64 s.size):=λA w ha _=>by
  simp [execOp,resolve,invoke,builtin,ha.ev hx,Builtin.len_,run_underlying hu,goInt]
theorem AE {a:Option Addr} {k c:Nat} {tx e:TypeId} (hx:evF F x=some (.slice a k c)) (hu:P.underlying tx=some (.slice e)):Ex P n F w0 L ⟨d,.call { callee:=.builtin .len,args:=#[x],argTypes:=#[tx] },t,p,af,g⟩ (.int .i64 k):=λA w ha _=>by
  simp [execOp,resolve,invoke,builtin,ha.ev hx,Builtin.len_,run_underlying hu,goInt]
theorem Gm {k:IntKind} {a b c:Int} {ts:Array TypeId} (hx:evF F x=some (.int k a)) (hy:evF F y=some (.int k b)) (hc:(if b<a then b else a)=c):Ex P n F w0 L ⟨d,.call { callee:=.builtin .min,args:=#[x,y],argTypes:=ts },t,p,af,g⟩ (.int k c):=λA w ha _=>by
  simp [execOp,resolve,invoke,builtin,ha.ev hx,ha.ev hy,Builtin.min_,Builtin.min2,hc]
theorem GH {k:IntKind} {a b c:Int} {ts:Array TypeId} (hx:evF F x=some (.int k a)) (hy:evF F y=some (.int k b)) (hc:(if b>a then b else a)=c):Ex P n F w0 L ⟨d,.call { callee:=.builtin .max,args:=#[x,y],argTypes:=ts },t,p,af,g⟩ (.int k c):=λA w ha _=>by
  simp [execOp,resolve,invoke,builtin,ha.ev hx,ha.ev hy,Builtin.max_,Builtin.max2,hc]
theorem K0 {l:List Operand} {r:List Value} {A:Act} (ha:Cx n A F) (h:l.map (evF F)=r.map some):l.map A.eval=r:=by
  induction l generalizing r with
  | nil=>cases r<;>simp_all
  | cons o l ih =>
    cases r with
    | nil=>simp at h
    | cons u r=>simp only [List.map_cons,List.cons.injEq] at h;rw [List.map_cons,ha.ev h.1,ih h.2]
theorem Dn {f:FuncId} {xs:List Operand} {args caps all:List Value} {ts:Array TypeId} (hf:evF F x=some (.func (.func f) #[] caps.toArray)) (hargs:xs.map (evF F)=args.map some)
    (hall:args++caps=all) (hc:∀args w,(callFunc f args).run P w=.ok (.enter f args) w) :
    ∀a w,Cx n a F->BH w0 w L->(execOp a.eval ⟨d,.call { callee:=.value x,args:=xs.toArray,argTypes:=ts },t,p,af,g⟩).run P w=.ok (.enter f all.toArray) w:=λA w ha _=>by
  have e1:xs.toArray.map A.eval=args.toArray:=by rw [<-K0 ha hargs];simp
  subst hall
  simp [execOp,resolve,ha.ev hf,Deferred.ofValue,e1,invoke,hc]
theorem AQ {T:TypeId} {zs vs:List Value} {fs:Array Field} {parts:Array (Nat×Operand)} {pv:List (Nat×Value)} {places:List (Nat×Nat)} (hz:∀w,(zeroValue T).run P w=.ok (.agg zs.toArray) w) (hu:P.underlying T=some (.struct fs))
    (hpl:∀w,(fs.mapM λf=>Prod.mk f.offset <$> sizeOf f.type:Sem (Array (Nat×Nat))).run P w=.ok places.toArray w)
    (hp:parts.toList.map (λq=>(q.1,evF F q.2))=pv.map (λq=>(q.1,some q.2)))
    (hf:Instr.fill (places.toArray[·]?) zs.toArray pv=some vs.toArray):Ex P n F w0 L ⟨d,.build T parts,t,p,af,g⟩ (.agg vs.toArray):=λA w ha _=>by
  have key:∀(l:List (Nat×Operand)) (r:List (Nat×Value)),l.map (λq=>(q.1,evF F q.2))=r.map (λq=>(q.1,some q.2))->l.map (λq=>(q.1,A.eval q.2))=r:=by
    intro l
    induction l with
    | nil=>intro r h;cases r<;>simp_all
    | cons o l ih =>
      intro r h
      cases r with
      | nil=>simp at h
      | cons q r =>
        simp only [List.map_cons,List.cons.injEq,Prod.mk.injEq] at h
        rw [List.map_cons,ha.ev h.1.2,ih r h.2,h.1.1]
  have e1:(parts.map λq=>(q.1,A.eval q.2)).toList=pv:=by rw [Array.toList_map];exact key _ _ hp
  simp [execOp,Instr.build,hz,run_underlying hu,Value.cells]
  rw [hpl]
  simp only [Result.andThen_ok]
  have e2:(parts.map λ(i,x)=>(i,A.eval x)).toList=pv:=e1
  simp only [Array.toList_map] at e2
  simp only [List.getElem?_toArray] at hf ⊢
  rw [e2,hf]
  simp
theorem Ao {T e:TypeId} {len k:Nat} {zs vs:List Value} {parts:Array (Nat×Operand)} {pv:List (Nat×Value)} (hz:∀w,(zeroValue T).run P w=.ok (.agg zs.toArray) w) (hu:P.underlying T=some (.array len e))
    (hs:∀w,(sizeOf e).run P w=.ok k w)
    (hp:parts.toList.map (λq=>(q.1,evF F q.2))=pv.map (λq=>(q.1,some q.2)))
    (hf:Instr.fill (λi=>some (i*k,k)) zs.toArray pv=some vs.toArray):Ex P n F w0 L ⟨d,.build T parts,t,p,af,g⟩ (.agg vs.toArray):=λA w ha _=>by
  have key:∀(l:List (Nat×Operand)) (r:List (Nat×Value)),l.map (λq=>(q.1,evF F q.2))=r.map (λq=>(q.1,some q.2))->l.map (λq=>(q.1,A.eval q.2))=r:=by
    intro l
    induction l with
    | nil=>intro r h;cases r<;>simp_all
    | cons o l ih =>
      intro r h
      cases r with
      | nil=>simp at h
      | cons q r =>
        simp only [List.map_cons,List.cons.injEq,Prod.mk.injEq] at h
        rw [List.map_cons,ha.ev h.1.2,ih r h.2,h.1.1]
  have e1:(parts.map λq=>(q.1,A.eval q.2)).toList=pv:=by rw [Array.toList_map];exact key _ _ hp
  simp [execOp,Instr.build,hz,run_underlying hu,Value.cells,hs]
  have e2:(parts.map λ(i,x)=>(i,A.eval x)).toList=pv:=e1
  simp only [Array.toList_map] at e2
  rw [e2,hf]
  simp
end
def WG (tmps:Array Value):ResultVar->Sem Value
  | .tmp t=>pure (tmps.getD t undef)
  | .cell p ty=>do loadVar ty (<-asAddr (tmps.getD p undef))
theorem GQ (fn:Func) (tmps:Array Value):results fn tmps=(do let vs <-fn.results.mapM (WG tmps);pure (if h:vs.size=1 then vs[0] else .tuple vs)):=by
  have:WG tmps=(λ|.tmp t=>pure (tmps.getD t undef)|.cell a t=>do loadVar t (<-asAddr (tmps.getD a undef))):=by
    funext r;cases r<;>rfl
  rw [this];rfl
def Rd (P:Program) (n:Nat) (F:List (Nat×Value)) (w0:BD) (L:List As) (r:ResultVar) (v:Value):Prop :=
  ∀a w,Cx n a F->BH w0 w L->(WG a.tmps r).run P w=.ok v w
section
variable {P:Program} {fn:Func} {n:Nat} {F:List (Nat×Value)} {w0:BD} {L:List As} {R:Ending->World->Prop} {r r' r'':ResultVar} {v v' v'':Value}
theorem rd_tmp {t:Tmp} (ht:F.lookup t=some v):Rd P n F w0 L (.tmp t) v:=λa w ha _=>by simp [WG,ha.2.2 t v ht]
theorem An {t:Tmp} {i b k:Nat} {ty T:TypeId} {cs:List Value} (ht:F.lookup t=some (.pointer (jk b))) (hi:L[i]?=some (AY b T cs))
    (ha:∀w,(isAgg ty).run P w=.ok true w) (hs:∀w,(sizeOf ty).run P w=.ok k w) (hl:cs.length=k):Rd P n F w0 L (.cell t ty) (.agg cs.toArray):=λa w hfr hw=>by
  have h1:((cs.drop 0).take cs.length)=cs:=by simp
  have h2:=GR (P:=P) (off:=0) (vs:=cs) ha hs hl (by have:=EE (off:=0) (k:=cs.length) (hw.get hi);rwa [h1] at this)
  simp only [Instr.loadAt,Instr.sureAddr,Sem.run_bind,Sem.run_pure,Result.andThen_ok] at h2
  simp [WG,hfr.2.2 t _ ht,asAddr,h2]
theorem ret_one (hr:fn.results=#[r]) (h1:Rd P n F w0 L r v) (h:∀w,BH w0 w L->R (.returned v) w):OkQ (bodyPost P fn R) .ret n F w0 L:=λa w ha hw =>
  ⟨ha.1,v,by simp [GQ,hr,h1 a w ha hw],h w hw⟩
theorem Bs (hr:fn.results=#[r,r']) (h1:Rd P n F w0 L r v) (h2:Rd P n F w0 L r' v') (h:∀w,BH w0 w L->R (.returned (.tuple #[v,v'])) w):OkQ (bodyPost P fn R) .ret n F w0 L:=λa w ha hw =>
  ⟨ha.1,.tuple #[v,v'],by simp [GQ,hr,h1 a w ha hw,h2 a w ha hw],h w hw⟩
theorem Du (hr:fn.results=#[r,r',r'']) (h1:Rd P n F w0 L r v) (h2:Rd P n F w0 L r' v') (h3:Rd P n F w0 L r'' v'')
    (h:∀w,BH w0 w L->R (.returned (.tuple #[v,v',v''])) w):OkQ (bodyPost P fn R) .ret n F w0 L:=λa w ha hw =>
  ⟨ha.1,.tuple #[v,v',v''],by simp [GQ,hr,h1 a w ha hw,h2 a w ha hw,h3 a w ha hw],h w hw⟩
theorem Lo {e:Exit} (he:e=.ret\/e=.normal) (hr:fn.results=#[]) (h:∀w,BH w0 w L->R (.returned (.tuple #[])) w):OkQ (bodyPost P fn R) e n F w0 L:=λa w ha hw=>by
  rcases he with rfl|rfl<;>exact ⟨ha.1,.tuple #[],by simp [GQ,hr],h w hw⟩
end
end
section
inductive Kd where
  | pure|held|look|call|new
  deriving DecidableEq
structure Sp where
  kind:Kd
  v:(Nat->Value)->Value
  need:List Nat
  A:Value->List As
  C:Value->Prop
def EQ (o:Oper) (j:Nat):Bool:=o.after.toList.any λe=>Region.binds .any e&&e.on == j
def CJ (l:List Oper):Nat->Nat->Nat->Bool
  | 0,_,_=>false
  | f+1,i,j=>match l[i]? with
    | some o=>EQ o j||(List.range l.length).any λk=>EQ o k&&CJ l f k j
    | none=>false
def JT (x y:As):Prop:=(x.ro=true/\y.ro=true)\/∀b,x.foot=some b->y.foot≠some b
theorem JT.symm {x y:As} (h:JT x y):JT y x:=by
  rcases h with h|h
  · exact .inl ⟨h.2,h.1⟩
  · exact .inr λb e e2=>h b e2 e
theorem OG {L:List As} (h:L.Pairwise JT):∀x∈L,∀y∈L,x=y\/JT x y:=by
  induction L with
  | nil=>intro x hx;cases hx
  | cons a L ih =>
    have h':=List.pairwise_cons.1 h
    intro x hx y hy
    rcases xN.1 hx with h1|h1<;>rcases xN.1 hy with h2|h2
    · exact .inl (h1.trans h2.symm)
    · exact .inr (h1▸h'.1 y h2)
    · exact .inr (h2▸(h'.1 x h1)).symm
    · exact ih h'.2 x h1 y h2
theorem Ol {x y z:As} {b:Nat} (hx:x.ro=true) (hy:y.ro=true) (fx:x.foot=some b) (fy:y.foot=some b) (h:y=z\/JT y z):JT x z:=by
  rcases h with rfl|h|h
  · exact .inl ⟨hx,hy⟩
  · exact .inl ⟨hx,h.2⟩
  · refine .inr λc e=>?_
    rw [fx] at e;injection e with e;subst e
    exact h _ fy
def Ld:List Nat->Bool
  | []=>true
  | x::r=>!r.contains x&&Ld r
section
variable {P:Program} {n:Nat} {l:List Oper} {specs:List Sp} {F:List (Nat×Value)} {w0:BD} {Lro L:List As} {Q:Exit->Act->World->Prop}
theorem Gv:∀{l:List Nat},Ld l=true->l.Nodup
  | [],_=>List.nodup_nil
  | x::r,h=>by
    simp only [Ld,yz,xX] at h
    exact List.nodup_cons.2 ⟨by simpa using h.1,Gv h.2⟩
theorem DW {o:Oper} {j:Nat} (h:EQ o j=true):∃e∈o.after,Region.binds .any e=true/\e.on=j:=by
  obtain ⟨e,he,hb⟩:=List.any_eq_true.1 h
  simp only [yz,beq_iff_eq] at hb
  exact ⟨e,by simpa using he,hb.1,hb.2⟩
theorem IW (listed:Array Bool) (i j:Nat) (d:Bool) (hi:i<listed.size):(listed.setIfInBounds i true).getD j d=if i=j then true else listed.getD j d:=by
  by_cases e:i=j
  · subst e;simp [hi]
  · simp [Array.getElem?_setIfInBounds_ne e,e]
@[reducible] def ft:Value->List As:=λ_=>[]
@[reducible] def fu:Value->Prop:=λ_=>True
end
section
variable {P:Program} {ops:Array Oper} {rest:List Oper} {Q:Exit->Act->World->Prop} {n:Nat} {F F':List (Nat×Value)} {w0:BD} {Lro L L':List As} {o:Oper} {v:Value}
end
end
section
def SV (f:Nat) (v:Nat):List Nat :=
  match f with
  | 0=>[]
  | f+1=>if v=0 then [] else v%4294967296::SV f (v/4294967296)
def AK (v:Nat):List Nat:=SV v v
def UY (x:Nat):List UInt8:=[(x%256).toUInt8,(x/256%256).toUInt8,(x/65536%256).toUInt8,(x/16777216%256).toUInt8]
def small (v:Nat):Bool:=decide (v<18446744073709551616)
def B6 (v:Nat):Nat:=if small v then v else 0
def Bm (v:Nat):ByteArray:=if small v then ByteArray.empty else ⟨((AK v).flatMap UY).toArray⟩
def AT (v:Nat):List Value:=[.int .u64 (B6 v:Nat),.string (Bm v)]
def A6 (z:Int):List Value:=[.int .u64 (B6 z.natAbs:Nat),.string (Bm z.natAbs),.bool (decide (z<0))]
def AF (q:Rat):List Value:=[.int .u64 (B6 q.num.natAbs:Nat),.string (Bm q.num.natAbs),.bool (decide (q.num<0)),.int .u64 (B6 (q.den-1):Nat),.string (Bm (q.den-1))]
@[ext] structure Pt where
  x:Rat
  y:Rat
def Aa (p:Pt):List Value:=AF p.x++AF p.y
theorem BJ {z:Int} (h:-9223372036854775808<=z) (h':z<9223372036854775808):IntKind.i64.wrap z=z:=by
  simp only [IntKind.wrap,IntKind.bits,IntKind.signed];simp;split<;>omega
theorem EC {z:Int} (h:0<=z) (h':z<18446744073709551616):IntKind.u64.wrap z=z:=by
  simp only [IntKind.wrap,IntKind.bits,IntKind.signed];simp;omega
theorem HF {z:Int} (h:0<=z) (h':z<4294967296):IntKind.u32.wrap z=z:=by
  simp only [IntKind.wrap,IntKind.bits,IntKind.signed];simp;omega
theorem OV {z:Int} (h:0<=z) (h':z<256):IntKind.u8.wrap z=z:=by
  simp only [IntKind.wrap,IntKind.bits,IntKind.signed];simp;omega
theorem AV {a b:Nat} (h:a+b<9223372036854775808):IntKind.i64.wrap ((a:Int)+(b:Int))=((a+b:Nat):Int):=by rw [BJ Z Z];omega
theorem CH {a b:Nat} (h:b<=a) (h':a<9223372036854775808):IntKind.i64.wrap ((a:Int)-(b:Int))=((a-b:Nat):Int):=by rw [BJ Z Z];omega
theorem Cr {a b:Nat} (h:a*b<9223372036854775808):IntKind.i64.wrap ((a:Int)*(b:Int))=((a*b:Nat):Int):=by
  rw [<-Int.natCast_mul,BJ Z Z]
theorem De {a b:Nat} (h:a+b<18446744073709551616):IntKind.u64.wrap ((a:Int)+(b:Int))=((a+b:Nat):Int):=by rw [EC Z Z];omega
theorem In {a b:Nat} (h:b<=a) (h':a<18446744073709551616):IntKind.u64.wrap ((a:Int)-(b:Int))=((a-b:Nat):Int):=by rw [EC Z Z];omega
theorem FK {a b:Nat} (h:a*b<18446744073709551616):IntKind.u64.wrap ((a:Int)*(b:Int))=((a*b:Nat):Int):=by
  rw [<-Int.natCast_mul,EC Z Z]
theorem CP {a:Nat} (h:a<9223372036854775808):IntKind.i64.wrap (a:Int)=(a:Int):=BJ Z Z
theorem BS {a:Nat} (h:a<18446744073709551616):IntKind.u64.wrap (a:Int)=(a:Int):=EC Z Z
theorem CW {a:Nat} (h:a<4294967296):IntKind.u32.wrap (a:Int)=(a:Int):=HF Z Z
theorem Uo {a:Nat} (h:a<256):IntKind.u8.wrap (a:Int)=(a:Int):=OV Z Z
theorem EX {a:Nat}:IntKind.u32.wrap (a:Int)=((a%4294967296:Nat):Int):=by
  simp only [IntKind.wrap,IntKind.bits,IntKind.signed];simp
theorem KN {a:Nat}:IntKind.u8.wrap (a:Int)=((a%256:Nat):Int):=by
  simp only [IntKind.wrap,IntKind.bits,IntKind.signed];simp
theorem DA {a b:Nat}:decide ((a:Int)<(b:Int))=decide (a<b):=decide_eq_decide.2 Z
theorem YV {a b:Nat}:decide ((a:Int)<=(b:Int))=decide (a<=b):=decide_eq_decide.2 Z
theorem O5 {a b:Nat}:decide ((a:Int)=(b:Int))=decide (a=b):=decide_eq_decide.2 Z
theorem bQ {a b:Nat}:decide ((a:Int)≠(b:Int))=decide (a≠b):=decide_eq_decide.2 Z
theorem PU {a b:Nat} (h:a<9223372036854775808):IntKind.i64.wrap ((a:Int).tdiv (b:Int))=((a/b:Nat):Int):=by
  have:a/b<=a:=Nat.div_le_self _ _
  rw [<-Int.ofNat_tdiv]
  generalize a/b=q at *
  exact BJ Z Z
theorem Lm {a b:Nat} (h:a<18446744073709551616):IntKind.u64.wrap ((a:Int).tdiv (b:Int))=((a/b:Nat):Int):=by
  have:a/b<=a:=Nat.div_le_self _ _
  rw [<-Int.ofNat_tdiv]
  generalize a/b=q at *
  exact EC Z Z
theorem JH {a b:Nat}:((a:Int).tmod (b:Int))=((a%b:Nat):Int):=(Int.ofNat_tmod a b).symm
theorem GS {a s:Nat}:(a:Int)/2^s=((a/2^s:Nat):Int):=by simp
theorem EP:prog.follows .mixedOrders=true:=by kernel_rfl
theorem zo {P:Program} {ops:Array Oper} {rest:List Oper} {Q:Exit->Act->World->Prop} {n:Nat} {F:List (Nat×Value)} {w0:BD} {L L':List As} {v:Value} {x y:Operand} {d:Option Tmp} {t:TypeId} {p:String} {af:Array Edge} {g:Option (Nat×Bool)}
    {i b off:Nat} {ty T:TypeId} {cs vs cs':List Value} (hw:Wt ops n F ⟨d,.store ty x y,t,p,af,g⟩) (ho:d=none) (hx:evF F x=some (.pointer (some ⟨b,off,none⟩))) (hy:evF F y=some v) (hi:L[i]?=some (AY b T cs))
    (hv:v.cells=vs.toArray) (hs:∀w,(sizeOf ty).run P w=.ok vs.length w) (h1:(vs.all λu=>u.oneCell')=true) (hl:Nat.ble (off+vs.length) cs.length=true)
    (hc:Gc cs off vs=cs') (hL:L.set i (AY b T cs')=L') (next:AR P ops rest Q n F w0 L'):AR P ops (⟨d,.store ty x y,t,p,af,g⟩::rest) Q n F w0 L:=by
  subst hc;subst hL
  exact AR.store hw (V8 hx hy hi hv hs h1 hl) ho hi next
theorem yA {P:Program} {ops:Array Oper} {rest:List Oper} {Q:Exit->Act->World->Prop} {n:Nat} {F:List (Nat×Value)} {w0:BD} {L:List As} {o:Oper} {d:Nat} {f:FuncId} {args:Array Value} {V:Nat->Value} {T:TypeId} {cs:List Value} (hw:Wt ops n F o)
    (he:∀a w,Cx n a F->BH w0 w L->(execOp a.eval o).run P w=.ok (.enter f args) w)
    (hc:∀w,BH w0 w L->Calls P f args w λe w'=>∃b,e=.returned (V b)/\Hm w.heap.size w w'/\w.heap.size<=b/\w'.heap[b]?=some (.cells cs.toArray T (0,0)))
    (ho:o.dst=some d) (hd:d<n) (next:∀b,AR P ops rest Q n ((d,V b)::F) w0 (AY b T cs::L)):AR P ops (o::rest) Q n F w0 L:=λa w ha hW=>by
  unfold wpList
  rw [if_pos (hw a ha)]
  left
  unfold Oper.wp
  rw [he a w ha hW,Oper.upon_enter]
  refine (hc w hW).mono ?_
  rintro e w' ⟨b,rfl,hb,hlt,hcell⟩
  rw [ho]
  exact next b _ _ (ha.put hd) (hW.add O hb hlt ⟨_,hcell,rfl⟩)
theorem yV {P:Program} {ops:Array Oper} {rest:List Oper} {Q:Exit->Act->World->Prop} {n:Nat} {F:List (Nat×Value)} {w0:BD} {L L':List As} {o:Oper} {f:FuncId} {args:Array Value} {v:Value} {i b:Nat} {T:TypeId} {cs cs':List Value} (hw:Wt ops n F o)
    (he:∀a w,Cx n a F->BH w0 w L->(execOp a.eval o).run P w=.ok (.enter f args) w) (hi:L[i]?=some (AY b T cs))
    (hc:∀w,BH w0 w L->Calls P f args w λe w'=>e=.returned v/\Jq w w' (some b)/\w'.heap[b]?=some (.cells cs'.toArray T (0,0)))
    (hd:∀d,o.dst=some d->d<n) (hL:L.set i (AY b T cs')=L') (next:AR P ops rest Q n (match o.dst with|some d=>(d,v)::F|none=>F) w0 L'):AR P ops (o::rest) Q n F w0 L:=λa w ha hW=>by
  subst hL
  unfold wpList
  rw [if_pos (hw a ha)]
  left
  unfold Oper.wp
  rw [he a w ha hW,Oper.upon_enter]
  refine (hc w hW).mono ?_
  rintro e w' ⟨rfl,hg,hcell⟩
  have hW':=hW.turn hi rfl rfl hg ⟨_,hcell,rfl⟩ (y:=AY b T cs')
  cases hdst:o.dst with
  | none=>rw [hdst] at next;exact next _ _ ha.put_none hW'
  | some d=>rw [hdst] at next;exact next _ _ (ha.put (hd d hdst)) hW'
abbrev pP (b o:Nat):Value:=.pointer (some ⟨b,o,none⟩)
abbrev aG (l:List Value):Value:=.agg l.toArray
abbrev vI (z:Int):Value:=.int .i64 z
abbrev vN (n:Nat):Value:=.int .i64 (n:Int)
abbrev vK (k:IntKind) (n:Nat):Value:=.int k (n:Int)
theorem A_ {a b:Nat} (h:Nat.ble a b=true):a<=b:=Nat.le_of_ble_eq_true h
theorem sN {F:List (Nat×Value)}:CO [] F:=trivial
theorem sS {k:Nat} {v:Value} {r F:List (Nat×Value)} (h:F.lookup k=some v) (t:CO r F):CO ((k,v)::r) F:=⟨h,t⟩
def dx (F:List (Nat×Value)):List (Nat×Value)->List (Option Value)
  | []=>[]
  | p::r=>F.lookup p.1::dx F r
def eT:List (Nat×Value)->List (Option Value)
  | []=>[]
  | p::r=>some p.2::eT r
theorem sF:∀{F' F:List (Nat×Value)},dx F F'=eT F'->CO F' F
  | [],_,_=>trivial
  | _::_,_,h=>by
    simp only [dx,eT,List.cons.injEq] at h
    exact ⟨h.1,sF h.2⟩
section
variable {P:Program} {ops:Array Oper} {rest:List Oper} {Q:Exit->Act->World->Prop} {n d:Nat} {F F':List (Nat×Value)} {w0:BD} {L Lro:List As} {op:Op} {t:TypeId} {p:String} {af:Array Edge} {v:Value} {l:List Oper} {specs:List Sp}
theorem zM {c:Code} (hs:CO F' F) (h:OkC P c Q n F' w0 L):OkC P c Q n F w0 L:=yc hs (xR _) h
theorem zB {e:Exit} (hs:CO F' F) (h:OkQ Q e n F' w0 L):OkQ Q e n F w0 L:=OkQ.sub hs (xR _) h
theorem st (he:Ex P n F w0 L ⟨some d,op,t,p,af,none⟩ v) (hd:d<n) (next:AR P ops rest Q n ((d,v)::F) w0 L):AR P ops (⟨some d,op,t,p,af,none⟩::rest) Q n F w0 L:=AR.step (AI rfl) he rfl hd next
theorem q1 {x y:Code} (h:OkC P x (Exit.then (y.wp P Q) Q) n F w0 L):OkQ (Exit.then ((Code.seq x y).wp P Q) Q) .normal n F w0 L:=zA (zX h)
theorem q2 {id:Nat} {y:Code} (h:AR P l.toArray l (Exit.then (y.wp P Q) Q) n F w0 L):OkQ (Exit.then ((Code.seq (.region id l.toArray false) y).wp P Q) Q) .normal n F w0 L:=q1 (zH h)
theorem q3 {id:Nat} {y:Code} (hs:CO F' F) (h:AR P l.toArray l (Exit.then (y.wp P Q) Q) n F' w0 L):AR P ops [] (Exit.then ((Code.seq (.region id l.toArray false) y).wp P Q) Q) n F w0 L:=AR.nil (zB hs (q2 h))
theorem q4 {id:Nat} {y:Code} (h:AR P l.toArray l (Exit.then (y.wp P Q) Q) n F w0 L):OkC P (Code.seq (.region id l.toArray false) y) Q n F w0 L:=zX (zH h)
theorem q6 {x y:Code} (hs:CO F' F) (h:OkC P x (Exit.then (y.wp P Q) Q) n F' w0 L):AR P ops [] (Exit.then ((Code.seq x y).wp P Q) Q) n F w0 L:=AR.nil (zB hs (q1 h))
theorem Am {x:Operand} {f:FuncId} {xs:List Operand} {args:List Value} {ts:Array TypeId} {dd:Option Tmp} {g:Option (Nat×Bool)} (hf:evF F x=some (.func (.func f) #[] #[])) (hargs:xs.map (evF F)=args.map some)
    (hc:∀args w,(callFunc f args).run P w=.ok (.enter f args) w) :
    ∀a w,Cx n a F->BH w0 w L->(execOp a.eval ⟨dd,.call { callee:=.value x,args:=xs.toArray,argTypes:=ts },t,p,af,g⟩).run P w=.ok (.enter f args.toArray) w :=
  Dn (caps:=[]) hf hargs (List.append_nil _) hc
end
theorem Cd {F F':List (Nat×Value)} (h:CO F' F:=by repeat (first|exact sN|refine sS (by first|rfl|(rw [hg1];rfl)|rw [hg1]) ?_)):CO F' F:=h
theorem It {F F':List (Nat×Value)} (h:CO F' F:=by repeat (first|exact sN|refine sS (by first|rfl|(rw [hg2];rfl)|rw [hg2]) ?_)):CO F' F:=h
theorem TZ {F F':List (Nat×Value)} (h:CO F' F:=by repeat (first|exact sN|refine sS (by first|rfl|(rw [hg3];rfl)|rw [hg3]) ?_)):CO F' F:=h
theorem Ta {F F':List (Nat×Value)} (h:CO F' F:=by repeat (first|exact sN|refine sS (by first|rfl|(rw [hg4];rfl)|rw [hg4]) ?_)):CO F' F:=h
theorem Tb {F F':List (Nat×Value)} (h:CO F' F:=by repeat (first|exact sN|refine sS (by first|rfl|(rw [hg5];rfl)|rw [hg5]) ?_)):CO F' F:=h
theorem cx {F F':List (Nat×Value)} (h:CO F' F:=by repeat (first|exact sN|refine sS (by first|rfl|(rw [hg6];rfl)|rw [hg6]) ?_)):CO F' F:=h
theorem fh {F F':List (Nat×Value)} (h:CO F' F:=by repeat (first|exact sN|refine sS (by first|rfl|(rw [hg7];rfl)|rw [hg7]) ?_)):CO F' F:=h
theorem fk {F F':List (Nat×Value)} (h:CO F' F:=by repeat (first|exact sN|refine sS (by first|rfl|(rw [hg8];rfl)|rw [hg8]) ?_)):CO F' F:=h
theorem fm {F F':List (Nat×Value)} (h:CO F' F:=by repeat (first|exact sN|refine sS (by first|rfl|(rw [hg9];rfl)|rw [hg9]) ?_)):CO F' F:=h
end
end Go.Proofs.YtbfdamnfcmefmaaGreatDoor
