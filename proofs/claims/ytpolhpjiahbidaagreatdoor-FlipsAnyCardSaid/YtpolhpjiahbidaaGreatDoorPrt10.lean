import Derived.ChangeKeysEq
import Derived.Test.YtpolhpjiahbidaaGreatDoorRows
import Derived.Test.YtpolhpjiahbidaaGreatDoorPrt09
namespace Go.Proofs.YtpolhpjiahbidaaGreatDoor
open Go Go.RowKit Go.Proofs.Tryz
open Go.Value renaming slice→qz,bool→qa
set_option linter.unusedVariables false
set_option linter.unusedSimpArgs false
section
section
variable {w0:BA} {L:List As}
theorem BE.addRo {w w':World} {a:As} (h:BE w0 w L) (hb:Hu w.heap.size w w') (hr:a.ro=true) (hh:Holds w' a) (hs:∀b,a.foot=some b->w.heap.size<=b\/∃y∈L,y.ro=true/\y.foot=some b):BE w0 w' (a::L):=by
  have h1:=h.below hb
  refine ⟨h1.1,λz hz b e=>?_,List.pairwise_cons.2 ⟨λz hz=>?_,h1.2.2⟩⟩
  · rcases xy.1 hz with rfl|hz
    · exact ⟨.inl hr,hh b e⟩
    · exact h1.2.1 z hz b e
  · cases hf:a.foot with
    | none=>exact .inr λb e=>by cases e
    | some b =>
      rcases hs b hf with h2|⟨y,hy,hyr,hyf⟩
      · refine .inr λb' e e2=>?_
        injection e with e;subst e
        exact absurd (h.lt hz e2) Z
      · have h3:=Oj hr hyr hf hyf (N8 h.2.2 y hy z hz)
        rw [<-hf];exact h3
end
class Cl (α:Type) where
  val:α->Value
  rows:α->List As
  ro:∀a,∀y∈rows a,y.ro=true
def Ro (S:Nat->Prop) (w:World) {α:Type} [Cl α] (a:α):Prop:=∀y∈Cl.rows a,Holds w y/\∀b,y.foot=some b->S b
def Ai (α:Type) [Cl α] (S:Nat->Prop) (W:World) (e:Ending) (w:World):Prop :=
  ∃a:α,e=.returned (Cl.val a)/\Hu W.heap.size W w/\Ro (λb=>W.heap.size<=b\/S b) w a
def Nw (w0:BA) (S:Nat->Prop) (b:Nat):Prop:=w0.w.heap.size<=b\/S b
def SL (w0:BA) (S:Nat->Prop) (L:List As) (b:Nat):Prop:=(∃y∈L,y.ro=true/\y.foot=some b)/\Nw w0 S b
def At (w0:BA) (S:Nat->Prop) {α:Type} [Cl α] (a:α):Prop:=∀y∈Cl.rows a,∀b,y.foot=some b->Nw w0 S b
section
variable {w0:BA} {S:Nat->Prop} {w W:World} {L:List As} {α:Type} [Cl α]
theorem inS (hw:BE w0 w L) (i:Nat) {a:α} (hi:(L.drop i).take (Cl.rows a).length=Cl.rows a) (ha:At w0 S a):Ro (SL w0 S L) w a:=λy hy=>by
  have hm:y∈L:=List.mem_of_mem_drop (i:=i) (List.mem_of_mem_take (i:=(Cl.rows a).length) (by rw [hi];exact hy))
  exact ⟨λb e=>(hw.2.1 y hm b e).2,λb e=>⟨⟨y,hm,Cl.ro a y hy,e⟩,ha y hy b e⟩⟩
theorem Ro.mono {S':Nat->Prop} {a:α} (h:Ro S w a) (hs:∀b,S b->S' b):Ro S' w a:=λy hy=>⟨(h y hy).1,λb e=>hs b ((h y hy).2 b e)⟩
theorem Bq {a:α} (h:Ro S w a):At ⟨W,none⟩ S a:=λy hy b e=>.inr ((h y hy).2 b e)
theorem DR {a:α} {v:Value} (hw:BE ⟨W,none⟩ w L) (h:Ro (SL ⟨W,none⟩ S L) w a) (hv:v=Cl.val a):Ai α S W (.returned v) w:=⟨a,by rw [hv],hw.out,h.mono λb h=>h.2⟩
theorem Ai.cast {ι:Type} {T:ι->Type} [∀i,Cl (T i)] {i j:ι} (h:i=j) {f:FuncId} {P:Program} {args:Array Value} (k:Calls P f args W (Ai (T i) S W)):Calls P f args W (Ai (T j) S W):=h▸k
theorem C7 {a:α} (h:Ro S w a) (t:∀y∈L,y.ro=true/\Holds w y):∀y∈Cl.rows a++L,y.ro=true/\Holds w y:=λy hy=>(List.mem_append.1 hy).elim (λk=>⟨Cl.ro a y k,(h y k).1⟩) (t y)
end
theorem BE.addRos {w0:BA} {w w':World} {L:List As} (h:BE w0 w L) (hb:Hu w.heap.size w w'):∀(xs:List As),(∀x∈xs,x.ro=true/\Holds w' x/\∀b,x.foot=some b->w.heap.size<=b\/∃y∈L,y.ro=true/\y.foot=some b)->BE w0 w' (xs++L)
  | [],_=>h.below hb
  | x::xs,hx=>by
    have h1:=BE.addRos h hb xs λy hy=>hx y (List.mem_cons_of_mem _ hy)
    obtain ⟨hr,hh,hs⟩:=hx x List.mem_cons_self
    have h2:=h.addRo hb hr hh hs
    refine ⟨h1.1,λy hy=>(xy.1 hy).elim (λe=>h2.2.1 y (e▸List.mem_cons_self)) (λe=>h1.2.1 y e),List.pairwise_cons.2 ⟨λy hy=>?_,h1.2.2⟩⟩
    rcases List.mem_append.1 hy with hy|hy
    · exact .inl ⟨hr,(hx y (List.mem_cons_of_mem _ hy)).1⟩
    · exact (List.pairwise_cons.1 h2.2.2).1 y hy
section
variable {P:Program} {ops:Array Oper} {rest:List Oper} {Q:Exit->Act->World->Prop} {n d:Nat} {F:List (Nat×Value)} {w0:BA} {S:Nat->Prop} {L:List As} {t:TypeId} {p:String} {af:Array Edge} {y:Operand} {f:FuncId} {xs:List Operand} {args:List Value} {ts:Array TypeId}
theorem AQ.callRg {α:Type} [Cl α] {g:Option (Nat×Bool)} (hw:Wt ops n F ⟨some d,.call { callee:=.value y,args:=xs.toArray,argTypes:=ts },t,p,af,g⟩) (hc:∀args w,(callFunc f args).run P w=.ok (.enter f args) w) (h:∀w,BE w0 w L->Calls P f args.toArray w (Ai α (SL w0 S L) w))
    (hf:evF F y=some (.func (.func f) #[] #[])) (hargs:xs.map (evF F)=args.map some) (hd:Nat.ble (d+1) n=true) (next:∀a:α,At w0 S a->AQ P ops rest Q n ((d,Cl.val a)::F) w0 (Cl.rows a++L)) :
    AQ P ops (⟨some d,.call { callee:=.value y,args:=xs.toArray,argTypes:=ts },t,p,af,g⟩::rest) Q n F w0 L:=λa w ha hW=>by
  unfold wpList
  rw [if_pos (hw a ha)]
  left
  unfold Oper.wp
  rw [Ak hf hargs hc a w ha hW,Oper.upon_enter]
  refine (h w hW).mono ?_
  rintro e w' ⟨v,rfl,hb,hr⟩
  exact next v (λy hy b e=>((hr y hy).2 b e).elim (λh=>.inl (xx hW.1.size h)) λh=>h.2) _ _ (ha.put (B1 hd)) (hW.addRos hb _ λx hx=>⟨Cl.ro v x hx,(hr x hx).1,λb e=>((hr x hx).2 b e).imp_right λh=>h.1⟩)
theorem yE {α:Type} [Cl α] (hc:∀args w,(callFunc f args).run P w=.ok (.enter f args) w) (h:∀w,BE w0 w L->Calls P f args.toArray w (Ai α (SL w0 S L) w))
    (hf:evF F y=some (.func (.func f) #[] #[])) (hargs:xs.map (evF F)=args.map some) (hd:Nat.ble (d+1) n=true) (next:∀a:α,At w0 S a->AQ P ops rest Q n ((d,Cl.val a)::F) w0 (Cl.rows a++L)) :
    AQ P ops (⟨some d,.call { callee:=.value y,args:=xs.toArray,argTypes:=ts },t,p,af,none⟩::rest) Q n F w0 L:=AQ.callRg (AM rfl) hc h hf hargs hd next
theorem Dx {ops:Array Oper} {o:Oper} {j t:Nat} {b:Bool} (h:o.guard=some (j,b)) (hj:(ops[j]?).bind (·.dst)=some t) (ht:F.lookup t=some undef):∀a,C8 n a F->Region.wanted o (yielded ops a.tmps)=false:=λa ha=>by
  have h1:=ha.2.2 t _ ht
  simp [Region.wanted,h,yielded,hj,h1,undef]
end
end
section
def Eb (a b:Nat):Int:=if a<b then -1 else if b<a then 1 else 0
theorem R8 {a b:Nat} (h:a<b):Eb a b = -1:=if_pos h
theorem R7 {a b:Nat} (h:¬a<b) (h2:b<a):Eb a b=1:=by rw [Eb,if_neg h,if_pos h2]
theorem R6 {a b:Nat} (h:¬a<b) (h2:¬b<a):Eb a b=0:=by rw [Eb,if_neg h,if_neg h2]
def Wy (a b:Int):Int:=if a≠0 then a else if b≠0 then b else 0
section
variable {P:Program} {n:Nat} {F:List (Nat×Value)} {w0:BA} {L:List As} {d:Option Tmp} {x:Operand} {t:TypeId} {p:String} {af:Array Edge} {g:Option (Nat×Bool)}
theorem El {tx e:TypeId} {a:Option Addr} {len cap k:Nat} {hi mx:Operand} {ki kj:IntKind} {m:Nat} (hx:evF F x=some (.slice a len cap)) (hh:evF F hi=some (.int ki (m:Nat))) (hj:evF F mx=some (.int kj (m:Nat))) (hu:P.underlying tx=some (.slice e)) (hs:∀w,(sizeOf e).run P w=.ok k w) (hm:m<=cap) :
    Ex P n F w0 L ⟨d,.slice tx x none (some hi) (some mx),t,p,af,g⟩ (.slice a m m):=λA w ha _=>by
  simp only [execOp,ha.ev hx,Instr.sliceAt,run_underlying hu,Instr.slice,Option.map_some,Option.map_none,ha.ev hh,ha.ev hj,Instr.sliceBounds,Instr.sliceBound,asIntOf,Sem.run_bind,Result.andThen_ok,Sem.run_pure]
  have h1:(0:Int)<=(m:Int)/\(m:Int)<=(cap:Int):=⟨Z,Z⟩
  simp [h1.2,hs]
  cases a<;>simp [Addr.add]
end
section
variable {P:Program} {ops:Array Oper} {rest:List Oper} {Q:Exit->Act->World->Prop} {n:Nat} {F:List (Nat×Value)} {w0:BA} {L L':List As}
theorem AQ.subL (hs:L'.Sublist L) (h:AQ P ops rest Q n F w0 L'):AQ P ops rest Q n F w0 L:=λa w ha hw=>h a w ha (hw.weak hs)
end
end
section
set_option maxRecDepth 100000
end
section
set_option maxRecDepth 100000
end
section
set_option maxRecDepth 100000
end
section
section
variable {P:Program} {n:Nat} {F:List (Nat×Value)} {w0:BA} {L:List As} {v:Value} {x lo hi:Operand} {d:Option Tmp} {t:TypeId} {p:String} {af:Array Edge} {g:Option (Nat×Bool)}
end
end
section
set_option maxRecDepth 100000
end
theorem aF (a b:Pt):(a+b).x=a.x+b.x:=rfl
theorem aH (a b:Pt):(a+b).y=a.y+b.y:=rfl
theorem Pv (a b:Pt):(a-b).x=a.x-b.x:=rfl
theorem Pw (a b:Pt):(a-b).y=a.y-b.y:=rfl
theorem St (a:Pt) (k:Rat):(IL a k).x=a.x*k:=rfl
theorem Su (a:Pt) (k:Rat):(IL a k).y=a.y*k:=rfl
theorem Xt (a b c:Pt):Aa a b c=(b.x-a.x)*(c.y-a.y)-(b.y-a.y)*(c.x-a.x):=rfl
theorem SI (a b:Pt):Av a b=a.x*b.x+a.y*b.y:=rfl
theorem TM (a b:Pt):Ar a b=a.x*b.y-a.y*b.x:=rfl
def Ey (a b c:Pt):Pt:=a+IL (IL ⟨(c-a).y,-(c-a).x⟩ (Av (b-a) (b-a))-IL ⟨(b-a).y,-(b-a).x⟩ (Av (c-a) (c-a))) (((1:Int):Rat)/(((2:Int):Rat)*Ar (b-a) (c-a)))
theorem bf {a b c:Pt} (h:Aa a b c≠0):2*Aa a b c*(Ey a b c-a).x=(c.y-a.y)*Av (b-a) (b-a)-(b.y-a.y)*Av (c-a) (c-a)/\2*Aa a b c*(Ey a b c-a).y = -(c.x-a.x)*Av (b-a) (b-a)+(b.x-a.x)*Av (c-a) (c-a):=by
  have e:Ar (b-a) (c-a)=Aa a b c:=rfl
  simp only [Ey,e,aF,aH,Pv,Pw,St,Su,Rat.intCast_ofNat]
  generalize Aa a b c=T at *
  generalize Av (b-a) (b-a)=U at *
  generalize Av (c-a) (c-a)=V at *
  constructor<;>grind
theorem TJ {a b c p:Pt} (h:Aa a b c≠0):Av (a-p) (a-p)*Ar (b-p) (c-p)+Av (b-p) (b-p)*Ar (c-p) (a-p)+Av (c-p) (c-p)*Ar (a-p) (b-p) =
    Aa a b c*(Av (a-Ey a b c) (a-Ey a b c)-Av (p-Ey a b c) (p-Ey a b c)):=by
  obtain ⟨h1,h2⟩:=bf h
  have e1:(p.x-a.x)*(2*Aa a b c*(Ey a b c-a).x)+(p.y-a.y)*(2*Aa a b c*(Ey a b c-a).y)=(p.x-a.x)*((c.y-a.y)*Av (b-a) (b-a)-(b.y-a.y)*Av (c-a) (c-a))+(p.y-a.y)*(-(c.x-a.x)*Av (b-a) (b-a)+(b.x-a.x)*Av (c-a) (c-a)):=by rw [h1,h2]
  have e2:Aa a b c*(Av (a-Ey a b c) (a-Ey a b c)-Av (p-Ey a b c) (p-Ey a b c))=((p.x-a.x)*(2*Aa a b c*(Ey a b c-a).x)+(p.y-a.y)*(2*Aa a b c*(Ey a b c-a).y))-Aa a b c*Av (p-a) (p-a):=by
    generalize Ey a b c=m at *
    generalize Aa a b c=T at *
    simp only [SI,Pv,Pw]
    grind
  rw [e2,e1]
  simp only [Xt,SI,TM,Pv,Pw]
  grind
theorem Zt (a b:Rat):a<b\/a=b\/b<a:=by grind
theorem Gj {q:Rat} (h:q<0):q.num.sign = -1:=by
  have h1:¬0<=q.num:=λe=>by have:=Rat.num_nonneg.1 e;grind
  exact Int.sign_eq_neg_one_of_neg Z
theorem F2 {q:Rat} (h:0<q):q.num.sign=1:=by
  have h1:0<=q.num:=Rat.num_nonneg.2 (by grind)
  have h2:q.num≠0:=λe=>by have:=Rat.num_eq_zero.1 e;grind
  exact Int.sign_eq_one_of_pos Z
theorem XW {q:Rat} (h:q=0):q.num.sign=0:=by subst h;rfl
def cR (q:Rat):Int:=if q<0 then -1 else if q=0 then 0 else 1
theorem cS (q:Rat):q.num.sign=cR q:=by
  unfold cR
  split
  · exact Gj ‹_›
  · split
    · exact XW ‹_›
    · exact F2 (by grind)
theorem Xb (s t:Rat):(s-t).num.sign=E5 s t:=by
  rw [cS];unfold cR E5
  by_cases h:s<t
  · rw [if_pos h,if_pos (by grind)]
  · by_cases h2:s=t
    · rw [if_neg h,if_pos h2,if_neg (by grind),if_pos (by grind)]
    · rw [if_neg h,if_neg h2,if_neg (by grind),if_neg (by grind)]
theorem NK (a b:Rat):(a*b).num.sign=a.num.sign*b.num.sign:=by
  rcases Zt a 0 with h|h|h
  · rcases Zt b 0 with k|k|k
    · have h3:=Rat.mul_pos (a := -a) (b := -b) (by grind) (by grind)
      rw [Gj h,Gj k,F2 (q:=a*b) (by grind)];rfl
    · subst k;rw [Rat.mul_zero];simp
    · have h3:=Rat.mul_pos (a := -a) (b:=b) (by grind) (by grind)
      rw [Gj h,F2 k,Gj (q:=a*b) (by grind)];rfl
  · subst h;rw [Rat.zero_mul];simp
  · rcases Zt b 0 with k|k|k
    · have h3:=Rat.mul_pos (a:=a) (b := -b) (by grind) (by grind)
      rw [F2 h,Gj k,Gj (q:=a*b) (by grind)];rfl
    · subst k;rw [Rat.mul_zero];simp
    · have h3:=Rat.mul_pos (a:=a) (b:=b) (by grind) (by grind)
      rw [F2 h,F2 k,F2 (q:=a*b) (by grind)];rfl
theorem Qc {a b c p:Pt} (h:Aa a b c≠0):(Av (a-p) (a-p)*Ar (b-p) (c-p)+Av (b-p) (b-p)*Ar (c-p) (a-p)+Av (c-p) (c-p)*Ar (a-p) (b-p)).num.sign*(Aa a b c).num.sign =
    E5 (Av (a-Ey a b c) (a-Ey a b c)) (Av (p-Ey a b c) (p-Ey a b c)):=by
  rw [TJ h,<-Xb,<-NK,Rat.mul_comm,<-Rat.mul_assoc,NK]
  have:0<Aa a b c*Aa a b c:=by
    rcases Zt (Aa a b c) 0 with h1|h1|h1
    · have:=Rat.mul_pos (a := -Aa a b c) (b := -Aa a b c) (by grind) (by grind);grind
    · exact absurd h1 h
    · exact Rat.mul_pos h1 h1
  rw [F2 this,Int.one_mul]
def ng (q:Rat):Nat:=if q.num.sign<0 then 1 else 0
section
theorem Yk (a b:Int):(decide (a.natAbs=b.natAbs)&&((decide (a<0) == decide (b<0))&&true))=decide (a=b):=by
  by_cases e:a=b
  · subst e;simp
  · rw [xq e]
    by_cases h1:a<0<;>by_cases h2:b<0<;>simp [h1,h2]<;>omega
theorem Yj (D:Nat) (a b:Int):Fj prog (D+4) 75 (.agg (A7 a).toArray) (.agg (A7 b).toArray) (decide (a=b)):=by
  rw [<-Yk]
  exact Fj.struct underlying75 Tryz.stoodInHeld75 (I6.agg (us:=AT a.natAbs) (bs:=AT b.natAbs) jY isAgg73 sizeOf73 O O (O7 D _ _) (I6.one jY isAgg4 O O (Fj.bool underlying4) I6.nil))
theorem Vu (a b:Rat):(decide (a.num=b.num)&&(decide (a.den-1=b.den-1)&&true))=decide (a=b):=by
  by_cases e:a=b
  · subst e;simp
  · rw [xq e]
    have h1:=a.den_pos
    have h2:=b.den_pos
    simp only [Bool.and_true,xX,xS]
    apply Classical.byContradiction
    intro h
    refine e (Rat.ext ?_ ?_)
    · exact Classical.byContradiction λk=>h (.inl k)
    · exact Classical.byContradiction λk=>h (.inr Z)
theorem O6 (D:Nat) (a b:Rat):Fj prog (D+5) 77 (.agg (AG a).toArray) (.agg (AG b).toArray) (decide (a=b)):=by
  rw [<-Vu]
  exact Fj.struct underlying77 Tryz.stoodInHeld77 (I6.agg (us:=A7 a.num) (bs:=A7 b.num) jY isAgg75 sizeOf75 O O (Yj D _ _) (I6.agg (us:=AT (a.den-1)) (bs:=AT (b.den-1)) jY isAgg71 sizeOf71 O O (Ha (D+2) _ _) I6.nil))
instance:DecidableEq Pt:=λa b=>decidable_of_iff (a.x=b.x/\a.y=b.y) ⟨λh=>Pt.ext h.1 h.2,λh=>h▸⟨rfl,rfl⟩⟩
theorem bH (a b:Pt):(decide (a.x=b.x)&&(decide (a.y=b.y)&&true))=decide (a=b):=by
  by_cases e:a=b
  · subst e;simp
  · rw [xq e]
    simp only [Bool.and_true,xX,xS]
    apply Classical.byContradiction
    intro h
    refine e (Pt.ext ?_ ?_)
    · exact Classical.byContradiction λk=>h (.inl k)
    · exact Classical.byContradiction λk=>h (.inr k)
theorem Vs (D:Nat) (a b:Pt):Fj prog (D+6) 99 (.agg (Ad a).toArray) (.agg (Ad b).toArray) (decide (a=b)):=by
  rw [<-bH]
  exact Fj.struct underlying99 Tryz.stoodInHeld99 (I6.agg (us:=AG a.x) (bs:=AG b.x) jY isAgg77 sizeOf77 O O (O6 D _ _) (I6.agg (us:=AG a.y) (bs:=AG b.y) jY isAgg77 sizeOf77 O O (O6 D _ _) I6.nil))
section
variable {P:Program}
def Rw (P:Program) (D:Nat) (e:TypeId) (c:Nat) (xs ys:List Value) (is:List Nat) (b:Bool):Prop:=∀w,(Go.Op.eqItems D e c xs.toArray ys.toArray is).run P w=.ok b w
theorem Rw.nil {D c:Nat} {e:TypeId} {xs ys:List Value}:Rw P D e c xs ys [] true:=λw=>rfl
theorem Fj.array {D n c:Nat} {T e:TypeId} {xs ys:List Value} {b:Bool} (hu:P.underlying T=some (.array n e)) (hi:∃i,P.info? e=some i) (hc:P.cellsOf e=c) (h:Rw P D e c xs ys (List.range n) b) :
    Fj P (D+1) T (.agg xs.toArray) (.agg ys.toArray) b:=λw=>by
  obtain ⟨i,hi⟩:=hi
  rw [Go.run_equalIn_array w D xs.toArray ys.toArray hu hi,hc]
  exact h w
end
section
variable {P:Program} {n:Nat} {F:List (Nat×Value)} {w0:BA} {L:List As} {x y:Operand} {d:Option Tmp} {t:TypeId} {p:String} {af:Array Edge} {g:Option (Nat×Bool)}
theorem Nq {xs ys:List Value} {c e:Bool} {tx ty:TypeId} (hx:evF F x=some (.agg xs.toArray)) (hy:evF F y=some (.agg ys.toArray)) (hg:P.eqGuardType P.depth tx=false) (hc:Fj P 10000 tx (.agg xs.toArray) (.agg ys.toArray) c) (he:(!c)=e) :
    Ex P n F w0 L ⟨d,.binOp .neq tx x y ty,t,p,af,g⟩ (.bool e):=he▸Qn hx hy hg hc
end
end
section
structure QD where
  n:Int
  d:Nat
structure PD where
  x:QD
  y:QD
def Ir (q:QD):List Value:=[.int .i64 q.n,.int .u32 (q.d:Nat)]
def F0 (p:PD):List Value:=Ir p.x++Ir p.y
def QD.ok (q:QD):Prop := -9223372036854775808<=q.n/\q.n<9223372036854775808/\q.d<4294967296
def PD.ok (p:PD):Prop:=p.x.ok/\p.y.ok
def Lh (q:QD):Rat:=((q.n:Int):Rat)/(((max q.d 1:Nat):Int):Rat)
def HH (p:PD):Pt:=⟨Lh p.x,Lh p.y⟩
theorem VE {q:QD} (h:q.ok):Sz (Lh q)<=4:=by
  obtain ⟨h1,h2,h3⟩:=h
  have s1:=H4 h1 h2
  have s2:=H4 (z:=((max q.d 1:Nat):Int)) Z Z
  have hb:(((max q.d 1:Nat):Int):Rat)≠0:=λe=>by
    have:((max q.d 1:Nat):Int)=0:=by exact_mod_cast e
    omega
  have:=I7 (a:=((q.n:Int):Rat)) hb
  unfold Lh
  omega
theorem VD {p:PD} (h:p.ok):BV (HH p)<=4:=Nc (VE h.1) (VE h.2)
section
variable {P:Program} {w:World} {r:Reach} {base:Nat}
end
theorem Yy {n:Int} (h:IntKind.i64.has n):-9223372036854775808<=n/\n<9223372036854775808:=by
  simp only [IntKind.has,IntKind.min,IntKind.max,IntKind.bits,IntKind.signed] at h;simp at h;omega
theorem Z0 {n:Int} (h:IntKind.u32.has n):0<=n/\n<4294967296:=by
  simp only [IntKind.has,IntKind.min,IntKind.max,IntKind.bits,IntKind.signed] at h;simp at h;omega
section
variable {P:Program} {w:World} {r:Reach} {base:Nat} {t:TypeId} {v:Value} {ts:List TypeId}
end
end
section
def rowsL {α:Type} (enc:α->List Value) (xs:List α):List Value:=xs.flatMap enc
section
variable {α:Type} {enc:α->List Value} {z:Nat}
theorem DE (xs ys:List α):rowsL enc (xs++ys)=rowsL enc xs++rowsL enc ys:=by simp [rowsL]
theorem Al (h:∀x,(enc x).length=z) (xs:List α):(rowsL enc xs).length=xs.length*z:=by
  induction xs with
  | nil=>simp [rowsL]
  | cons x r ih =>
    have e:rowsL enc (x::r)=enc x++rowsL enc r:=rfl
    rw [e,xw,ih,h,List.length_cons,Nat.add_mul];omega
theorem AZ (h:∀x,(enc x).length=z) (d:α):∀(xs:List α) (j:Nat),j<xs.length->((rowsL enc xs).drop (j*z)).take z=enc (xs.getD j d)
  | x::r,0,_=>by
    have e:rowsL enc (x::r)=enc x++rowsL enc r:=rfl
    rw [e,Nat.zero_mul,List.drop_zero,List.take_append_of_le_length (by rw [h];exact Nat.le_refl _),List.take_of_length_le (by rw [h];exact Nat.le_refl _)];rfl
  | x::r,j+1,hj=>by
    have e:rowsL enc (x::r)=enc x++rowsL enc r:=rfl
    rw [e,show (j+1)*z=(enc x).length+j*z by rw [h,Nat.add_mul];omega,List.drop_append,List.drop_of_length_le Z,Nat.add_sub_cancel_left,List.nil_append,AZ h d r j (by simpa using hj)];rfl
end
structure RX (cs:List Value) (n:Nat) where
  p:Option Addr
  c:Nat
  ok:Ao p n c
@[reducible] def RX.val {cs:List Value} {n:Nat} (a:RX cs n):Value:=.slice a.p n a.c
@[reducible] def RX.row {cs:List Value} {n:Nat} (a:RX cs n):As:=AC a.p cs
instance {cs:List Value} {n:Nat}:Cl (RX cs n):=⟨λa=>.slice a.p n a.c,λa=>[AC a.p cs],λa y hy=>by rcases xz.1 hy with rfl;rfl⟩
theorem fu {S:Nat->Prop} {W w:World} {L:List As} (hw:BE ⟨W,none⟩ w L) (i:Nat) {p:Option Addr} {T:TypeId} {z n c:Nat} {cs:List Value} (hi:L[i]?=some (rowW p T z n c cs)) (ho:OwnOk p n c) (hl:cs.length=n*z) {v:Value} (hv:v=.slice p n c):Ai (RX cs n) S W (.returned v) w:=by
  have hb:=hw.newRow hi
  refine ⟨⟨p,c,ho.row⟩,by rw [hv];rfl,hw.out,λy hy=>?_⟩
  rcases xz.1 hy with rfl
  refine ⟨λd e=>?_,λd e=>.inl (hb d e)⟩
  obtain ⟨_,o,ho2,hp⟩:=hw.2.1 _ (List.mem_of_getElem? hi) d e
  exact ⟨o,ho2,CV ho hl hp⟩
def fN (xs:List Nat):List Value:=xs.map λx=>Value.int .u8 (x:Nat)
structure MQ where
  nx:Nat
  ny:Nat
  cs:List Nat
  p:Option Addr
  cap:Nat
  a:Int
  b:Int
  c:Int
  d:Int
  den:Nat
  fst:Nat
  hx:nx<256
  hy:ny<256
  ha:-128<=a/\a<=127
  hb:-128<=b/\b<=127
  hc:-128<=c/\c<=127
  hd:-128<=d/\d<=127
  hden:den<256
  hfst:fst<256
  hcs:∀x∈cs,x<256
  ok:Ao p cs.length cap
def iC (m:MQ):List Value:=[.int .u8 m.nx,.int .u8 m.ny,.slice m.p m.cs.length m.cap,.int .i8 m.a,.int .i8 m.b,.int .i8 m.c,.int .i8 m.d,.int .u8 m.den,.int .u8 m.fst]
instance:Cl MQ:=⟨λm=>aG (iC m),λm=>[AC m.p (fN m.cs)],λa y hy=>by rcases xz.1 hy with rfl;rfl⟩
abbrev P2:=Nat×Nat
def dT (nx way i:Nat):List (P2×P2×P2) :=
  let x:=2*(i%nx);let y:=2*(i/nx)
  if way<3\/(way=7/\i=0) then [((x,y),(x+2,y),(x+2,y+2)),((x,y),(x+2,y+2),(x,y+2))]
  else if way<5 then [((x,y),(x+2,y),(x,y+2)),((x+2,y),(x+2,y+2),(x,y+2))]
  else if way<7 then [((x,y),(x+2,y),(x+1,y+1)),((x+2,y),(x+2,y+2),(x+1,y+1)),((x+2,y+2),(x,y+2),(x+1,y+1)),((x,y+2),(x,y),(x+1,y+1))] else []
section
variable {nx way i u v:Nat}
end
def In (p:P2):List Value:=[vN p.1,vN p.2]
def Am (t:Tq3):List Value:=[vN t.1,vN t.2.1,vN t.2.2]
theorem A8 (t:Tq3):(Am t).length=3:=rfl
def fj (z:Int×Int):List Value:=[.int .i64 z.1,.int .i64 z.2]
def gH (m:MQ) (i:Nat):Nat:=if 0<m.cs.length then m.cs.getD (i%m.cs.length) 0%8 else 0
def gf (m:MQ):Nat:=1+m.nx%3
def iD (m:MQ):Nat:=1+m.ny%3
def VW (m:MQ):Nat->List (P2×P2×P2)
  | 0=>[]
  | i+1=>VW m i++dT (gf m) (gH m i) i
def I9 (m:MQ):List (P2×P2×P2):=VW m (gf m*iD m)
structure QJ where
  a:Int
  b:Int
  c:Int
  d:Int
def QJ.det (k:QJ):Int:=k.a*k.d-k.b*k.c
def QJ.at_ (k:QJ) (p:P2):Int×Int:=(k.a*p.1+k.b*p.2,k.c*p.1+k.d*p.2)
def fg (a b c d:Int):QJ :=
  let k:QJ:=⟨a.tmod 4,b.tmod 4,c.tmod 4,d.tmod 4⟩
  if k.det=0 then ⟨1,0,0,1⟩ else if k.det<0 then ⟨k.a,k.b,-k.c,-k.d⟩ else k
end
section
set_option maxRecDepth 100000
end
section
section
variable {P:Program}
theorem Rw.one {D c i:Nat} {e:TypeId} {is:List Nat} {xs ys:List Value} {u v:Value} {r s:Bool} (hg:∀w,(isAgg e).run P w=.ok false w)
    (ha:xs[i*c]?=some u) (hb:ys[i*c]?=some v) (h:Fj P D e u v r) (h2:Rw P D e c xs ys is s):Rw P D e c xs ys (i::is) (r&&s):=λw=>by
  have e1:(part e xs.toArray (i*c)).run P w=.ok u w:=by simp [part,hg,ha]
  have e2:(part e ys.toArray (i*c)).run P w=.ok v w:=by simp [part,hg,hb]
  simp only [Go.Op.eqItems,Sem.run_bind,e1,e2,Result.andThen_ok,h w]
  cases r
  · simp
  · simp [h2 w]
end
theorem PP:∃i,prog.info? 3=some i:=Option.isSome_iff_exists.1 jV
theorem Mk:prog.cellsOf 3=1:=by kernel_rfl
def fQ (c:P2×P2×P2) (k:Nat):P2:=if k=0 then c.1 else if k=1 then c.2.1 else c.2.2
def f7 (m:MQ) (t k:Nat):Nat:=(k+m.fst+t*(m.fst/3))%3
def Gp (m:MQ) (t k:Nat):P2:=fQ ((I9 m).getD t ((0,0),(0,0),(0,0))) (f7 m t k)
structure dP (m:MQ) (pl:List P2) (n:Tq3) (t:Nat):Prop where
  a:n.1<pl.length/\pl.getD n.1 (0,0)=Gp m t 0
  b:n.2.1<pl.length/\pl.getD n.2.1 (0,0)=Gp m t 1
  c:n.2.2<pl.length/\pl.getD n.2.2 (0,0)=Gp m t 2
def N9 (pl:List P2) (p:P2):List P2×Nat:=if p∈pl then (pl,pl.idxOf p) else (pl++[p],pl.length)
def aX (m:MQ):Nat->List P2×List (Tq3)
  | 0=>([],[])
  | i+1=>((N9 (N9 (N9 (aX m i).1 (Gp m i 0)).1 (Gp m i 1)).1 (Gp m i 2)).1,
      (aX m i).2++[((N9 (aX m i).1 (Gp m i 0)).2,(N9 (N9 (aX m i).1 (Gp m i 0)).1 (Gp m i 1)).2,(N9 (N9 (N9 (aX m i).1 (Gp m i 0)).1 (Gp m i 1)).1 (Gp m i 2)).2)])
structure au (m:MQ) (i:Nat) (pl:List P2) (ts:List (Tq3)):Prop where
  tl:ts.length=i
  pll:pl.length<=3*i
  at_:∀j,j<i->dP m pl (ts.getD j (0,0,0)) j
  Lo:∀p∈pl,p.1<=6/\p.2<=6
  used:∀a,a<pl.length->∃j,j<i/\((ts.getD j (0,0,0)).1=a\/(ts.getD j (0,0,0)).2.1=a\/(ts.getD j (0,0,0)).2.2=a)
  fn:(pl,ts)=aX m i
def fB (pl:List P2):Prop:=∀a b,a<pl.length->b<pl.length->pl.getD a (0,0)=pl.getD b (0,0)->a=b
def mapM (m:MQ):QJ:=fg m.a m.b m.c m.d
def di (t:Tq3) (x:Nat):Bool:=decide (t.1=x)||decide (t.2.1=x)||decide (t.2.2=x)
def f8 (m:MQ) (a b:Nat):Tq3:=(a,b,(a+3*b+m.fst)%5)
def dX (ts:List (Tq3)) (a b:Nat):Nat->Nat
  | 0=>0
  | i+1=>dX ts a b i+(if di (ts.getD i (0,0,0)) a=true/\di (ts.getD i (0,0,0)) b=true then 1 else 0)
def eD (m:MQ) (ts:List (Tq3)) (a:Nat):Nat->List (Tq3)
  | 0=>[]
  | j+1=>eD m ts a j++(if dX ts a (a+1+j) ts.length=1 then [f8 m a (a+1+j)] else [])
def RY (m:MQ) (ts:List (Tq3)) (N:Nat):Nat->List (Tq3)
  | 0=>[]
  | a+1=>RY m ts N a++eD m ts a (N-(a+1))
structure WM (m:MQ) where
  pl:List P2
  ts:List (Tq3)
  ss:List (Tq3)
  inv:au m (I9 m).length pl ts
  dst:fB pl
  sl:ss.length<=108*108
  sd:ss=RY m ts pl.length pl.length
  a:RX (rowsL fj (pl.map λp=>(mapM m).at_ p)) pl.length
  b:RX (rowsL Am ts) ts.length
  c:RX (rowsL Am ss) ss.length
def gh {m:MQ} (x:WM m):List Value:=[x.a.val,x.b.val,x.c.val]
theorem ed {m:MQ} {x:WM m} {y:As} (hy:y∈[x.a.row,x.b.row,x.c.row]):y.ro=true:=by
  simp only [xy,List.not_mem_nil,or_false] at hy
  rcases hy with rfl|rfl|rfl<;>rfl
instance {m:MQ}:Cl (WM m):=⟨λx=>aG (gh x),λx=>[x.a.row,x.b.row,x.c.row],λx y hy=>ed hy⟩
theorem Fy {S:Nat->Prop} {W w:World} {L:List As} (hw:BE ⟨W,none⟩ w L) (i:Nat) {p:Option Addr} {T:TypeId} {z n c:Nat} {cs:List Value} (hi:L[i]?=some (rowW p T z n c cs)) (ho:OwnOk p n c) (hl:cs.length=n*z):Holds w (AC p cs)/\∀b,(AC p cs).foot=some b->W.heap.size<=b\/S b:=by
  have hb:=hw.newRow hi
  refine ⟨λd e=>?_,λd e=>.inl (hb d e)⟩
  obtain ⟨_,o,ho2,hp⟩:=hw.2.1 _ (List.mem_of_getElem? hi) d e
  exact ⟨o,ho2,CV ho hl hp⟩
section
variable {P:Program} {ops:Array Oper} {rest:List Oper} {Q:Exit->Act->World->Prop} {n d:Nat} {F:List (Nat×Value)} {w0:BA} {S:Nat->Prop} {L:List As} {t:TypeId} {p:String} {af:Array Edge} {y:Operand} {f:FuncId} {xs:List Operand} {args:List Value} {ts:Array TypeId}
theorem cX {cs:List Value} {k:Nat} (hc:∀args w,(callFunc f args).run P w=.ok (.enter f args) w) (h:∀w,BE w0 w L->Calls P f args.toArray w (Ai (RX cs k) (SL w0 S L) w))
    (hf:evF F y=some (.func (.func f) #[] #[])) (hargs:xs.map (evF F)=args.map some) (hd:Nat.ble (d+1) n=true) (next:∀a:RX cs k,At w0 S a->AQ P ops rest Q n ((d,.slice a.p k a.c)::F) w0 (AC a.p cs::L)) :
    AQ P ops (⟨some d,.call { callee:=.value y,args:=xs.toArray,argTypes:=ts },t,p,af,none⟩::rest) Q n F w0 L:=yE hc h hf hargs hd next
end
def JV (p:Option Addr) (T:TypeId) (z n c:Nat) (cs:List Value):As:=⟨p.map (·.block),(rowW p T z n c cs).P,true⟩
structure gQ (m:MQ) where
  x:WM m
  ob:OwnOk x.b.p x.ts.length x.b.c
def gJ {m:MQ} (y:gQ m):As:=JV y.x.b.p 105 3 y.x.ts.length y.x.b.c (rowsL Am y.x.ts)
instance {m:MQ}:Cl (gQ m):=⟨λy=>aG (gh y.x),λy=>[y.x.a.row,y.x.b.row,y.x.c.row,gJ y],λx y hy=>by
  simp only [xy,List.not_mem_nil,or_false] at hy
  rcases hy with rfl|rfl|rfl|rfl<;>rfl⟩
end
section
set_option maxRecDepth 100000
theorem Zs:ElemT prog 23 105 3 24:=⟨underlying23,Ds jV⟩
end

theorem By {α:Type} {enc:α->List Value} {z:Nat} (h:∀x,(enc x).length=z) (d:α) (xs:List α) (j r:Nat) (hj:j<xs.length) (hr:r<z) {v:Value} (hv:(enc (xs.getD j d))[r]?=some v):(rowsL enc xs)[j*z+r]?=some v:=by
  have h1:=AZ h d xs j hj
  rw [<-h1,List.getElem?_take_of_lt hr,List.getElem?_drop] at hv
  exact hv
theorem Az (p:Pt):(Ad p).length=10:=rfl
structure fK (ps:List Pt) (t:Tq3):Prop where
  a:t.1<ps.length
  b:t.2.1<ps.length
  c:t.2.2<ps.length
  ab:t.1≠t.2.1
  bc:t.2.1≠t.2.2
  ca:t.2.2≠t.1
  pos:0<Aa (ps.getD t.1 ⟨0,0⟩) (ps.getD t.2.1 ⟨0,0⟩) (ps.getD t.2.2 ⟨0,0⟩)
def fJ (ps:List Pt) (t:Tq3) (q:Pt):Prop:=0<Aa q (ps.getD t.2.1 ⟨0,0⟩) (ps.getD t.2.2 ⟨0,0⟩)/\0<Aa (ps.getD t.1 ⟨0,0⟩) q (ps.getD t.2.2 ⟨0,0⟩)/\0<Aa (ps.getD t.1 ⟨0,0⟩) (ps.getD t.2.1 ⟨0,0⟩) q
def fI (ps:List Pt) (t:Tq3) (q:Pt):Prop:=0<=Aa q (ps.getD t.2.1 ⟨0,0⟩) (ps.getD t.2.2 ⟨0,0⟩)/\0<=Aa (ps.getD t.1 ⟨0,0⟩) q (ps.getD t.2.2 ⟨0,0⟩)/\0<=Aa (ps.getD t.1 ⟨0,0⟩) (ps.getD t.2.1 ⟨0,0⟩) q
def dZ (m:MQ):Nat:=1+m.den%6
def gw (m:MQ) (z:Int×Int):PD:=⟨⟨z.1,dZ m⟩,⟨z.2,dZ m⟩⟩
def fq (m:MQ) (zs:List (Int×Int)) (i:Nat):List Pt:=(zs.take i).map λz=>HH (gw m z)
def gK (m:MQ) (pl:List P2):List (Int×Int):=pl.map λp=>(mapM m).at_ p
structure dJ (ps:List Pt) (ts:List (Tq3)):Prop where
  ne:ts≠[]
  tl:ts.length<=36
  pl:ps.length<=108
  sz:∀i,BV (ps.getD i ⟨0,0⟩)<=4
  tri:∀j,j<ts.length->fK ps (ts.getD j (0,0,0))
  apart:∀i j,i<ts.length->j<ts.length->i≠j->∀q,fJ ps (ts.getD i (0,0,0)) q->¬fI ps (ts.getD j (0,0,0)) q
  lat:∃(m:MQ) (pl:List P2),au m (I9 m).length pl ts/\fB pl/\ps=fq m (gK m pl) pl.length
structure MG where
  ps:List Pt
  ts:List (Tq3)
  ss:List (Tq3)
  good:dJ ps ts
  sl:ss.length<=108*108
  sd:∃m:MQ,ss=RY m ts ps.length ps.length
  a:RX (rowsL Ad ps) ps.length
  b:RX (rowsL Am ts) ts.length
  c:RX (rowsL Am ss) ss.length
def fh (x:MG):List Value:=[x.a.val,x.b.val,x.c.val]
theorem aQ {x:MG} {y:As} (hy:y∈[x.a.row,x.b.row,x.c.row]):y.ro=true:=by
  simp only [xy,List.not_mem_nil,or_false] at hy
  rcases hy with rfl|rfl|rfl<;>rfl
instance:Cl MG:=⟨λx=>aG (fh x),λx=>[x.a.row,x.b.row,x.c.row],λx y hy=>aQ hy⟩
def fE (m:MQ) (ps:List Pt) (ts:List (Tq3)):Prop:=∃pl:List P2,au m (I9 m).length pl ts/\fB pl/\ps=fq m (gK m pl) pl.length
structure MF (m:MQ) where
  g:MG
  lat:fE m g.ps g.ts
instance {m:MQ}:Cl (MF m):=⟨λx=>aG (fh x.g),λx=>[x.g.a.row,x.g.b.row,x.g.c.row],λx y hy=>aQ hy⟩
structure gM (m:MQ) where
  f:MF m
  ob:OwnOk f.g.b.p f.g.ts.length f.g.b.c
  da:∀x,f.g.b.p.map (·.block)=some x->f.g.a.p.map (·.block)≠some x
  dc:∀x,f.g.b.p.map (·.block)=some x->f.g.c.p.map (·.block)≠some x
def fi {m:MQ} (y:gM m):As:=JV y.f.g.b.p 105 3 y.f.g.ts.length y.f.g.b.c (rowsL Am y.f.g.ts)
instance {m:MQ}:Cl (gM m):=⟨λy=>aG (fh y.f.g),λy=>[y.f.g.a.row,y.f.g.b.row,y.f.g.c.row,fi y],λx y hy=>by
  simp only [xy,List.not_mem_nil,or_false] at hy
  rcases hy with rfl|rfl|rfl|rfl<;>rfl⟩
section
set_option maxRecDepth 100000
theorem U6 (q:QD) (h:q.ok) (w:World)  :Calls prog 105 #[(aG (Ir q))] w (AX w (aG (AG (Lh q)))):=by
 obtain ⟨h1,h2,h3⟩:=h
 refine AS (args:=[(aG (Ir q))]) func105 O O (leB O) (zM (sL [0] O) (q4 (BG (cs:=Ir q) O λb1=>al Dg O λb2=>q3 (sL [1,2] O) (st' (v:=(pP b1 0)) (AA O underlying94 O sizeOf2 O) O (A_ 1 (vI q.n) e8 O (st' (v:=(pP b1 1)) (AA O underlying94 O sizeOf92 O) O (A_ 1 (vK .u32 q.d) ch O (st' (E6 (c:=((max q.d 1:Nat):Int)) O O (by split<;>omega)) O (st' (A6 (c:=((max q.d 1:Nat):Int)) O underlying92 underlying2 (Ec Z)) O ?_)))))))))
 refine ck' call93 (Qo (q.n:Int) ((max q.d 1:Nat):Int) Z Z Z Z Z) O (AJ O (st' (AK (v:=(aG (AG (((q.n:Int):Rat)/(((max q.d 1:Nat):Int):Rat))))) O O) O (st' (AK (v:=(vI 0)) O O) O (al Dg O λb3=>Aj O sizeOf77 O (asg' O (q3 (sL [2,3] O) (An 0 Bj O (CP O sizeOf77 O (oNl' (zF (sL [2,3] O) ?_))))))))))
 exact zC (zH (ret_one O (Ah (i:=1) (cs:=AG (((q.n:Int):Rat)/(((max q.d 1:Nat):Int):Rat))) O O isAgg77 sizeOf77 O) (λw hw=>⟨rfl,hw.out⟩)))
theorem FD (x0:Rat) (x1:Rat):Instr.fill ([(0,5),(5,5)].toArray[·]?) (Ad (⟨0,0⟩:Pt)).toArray [(0,.agg (AG x0).toArray),(1,.agg (AG x1).toArray)]=some (AG x0++AG x1).toArray:=by kernel_rfl
theorem an (p:PD) (h:p.ok) (w:World)  :Calls prog 37 #[(aG (F0 p))] w (AX w (aG (Ad (HH p)))):=by
 have h1:=h.1
 have h2:=h.2
 refine AS (args:=[(aG (F0 p))]) func37 O O (leB O) (zM (sL [0] O) (q4 (BG (cs:=F0 p) O λb1=>al Fh O λb2=>q6 (sL [1,2] O) (CE [(0,true),(1,true),(3,true),(4,true),(2,false),(5,false),(6,true),(7,false)] (sl sr) (Ag (v:=(pP b1 0)) O (AA O underlying96 O sizeOf94 O) (Ef 0 (Ir p.x) UU O (Ag (v:=(pP b1 2)) O (AA O underlying96 O sizeOf94 O) (Ef 0 (Ir p.y) UU O (zL O ?_)))))))))
 refine ck' call105 (U6 p.x (by assumption)) O (zG (sl sr) (zL O (ck' call105 (U6 p.y (by assumption)) O (zG (sl sr) (Ag (v:=(aG (AG (Lh p.x)++AG (Lh p.y)))) O (AO (zs:=Ad (⟨0,0⟩:Pt)) (vs:=AG (Lh p.x)++AG (Lh p.y)) (pv:=[(0,(aG (AG (Lh p.x)))),(1,(aG (AG (Lh p.y))))]) (places:=[(0,5),(5,5)]) zeroValue99 underlying99 (λw=>by simp [sizeOf77]) O (FD (Lh p.x) (Lh p.y))) (zL O (Aj O sizeOf99 O (zG (sl sr) (zT (zF (sL [2] O) (zC ?_)))))))))))
 exact zH (ret_one O (Ah (i:=0) (cs:=AG (Lh p.x)++AG (Lh p.y)) O O isAgg99 sizeOf99 O) (λw hw=>⟨rfl,hw.out⟩))
end
section
set_option maxRecDepth 100000
theorem cg:ElemT prog 24 110 3 24:=⟨underlying24,Ds jV⟩
theorem eO:ElemT prog 28 99 10 112:=⟨underlying28,Ds jV⟩
end
section
structure MX (ps:List Pt) (ts ss:List (Tq3)) where
  a:RX (rowsL Ad ps) ps.length
  b:RX (rowsL Am ts) ts.length
  c:RX (rowsL Am ss) ss.length
def E9 {ps:List Pt} {ts ss:List (Tq3)} (x:MX ps ts ss):List Value:=[x.a.val,x.b.val,x.c.val]
theorem dv {ps:List Pt} {ts ss:List (Tq3)} {x:MX ps ts ss} {y:As} (hy:y∈[x.a.row,x.b.row,x.c.row]):y.ro=true:=by
  simp only [xy,List.not_mem_nil,or_false] at hy
  rcases hy with rfl|rfl|rfl<;>rfl
instance {ps:List Pt} {ts ss:List (Tq3)}:Cl (MX ps ts ss):=⟨λx=>aG (E9 x),λx=>[x.a.row,x.b.row,x.c.row],λx y hy=>dv hy⟩
structure BX (cs:List Value) where
  b:Nat
instance {cs:List Value}:Cl (BX cs):=⟨λx=>pP x.b 0,λx=>[AC (some ⟨x.b,0,none⟩) cs],λx y hy=>by rcases xz.1 hy with rfl;rfl⟩
theorem Hg {b:Nat} {T:TypeId} {cs:List Value} {o:Obj} (h:(AU b T cs).P o):(AC (jk b) cs).P o:=⟨cs.toArray,T,(0,0),h,by show (cs.toArray.toList.drop 0).take cs.length=cs;simp⟩
section
variable {S:Nat->Prop} {w W:World} {w0:BA} {L:List As} {ps:List Pt} {ts ss:List (Tq3)} {cs:List Value}
theorem f3 {x:MX ps ts ss} (h:Ro S w x):Ro S w x.a:=λy hy=>by rcases xz.1 hy with rfl;exact h _ List.mem_cons_self
theorem eB {x:MX ps ts ss} (h:Ro S w x):Ro S w x.b:=λy hy=>by rcases xz.1 hy with rfl;exact h _ (List.mem_cons_of_mem _ List.mem_cons_self)
theorem WD (hw:BE w0 w L) (i:Nat) {x:BX cs} (hi:L[i]?=some (AC (some ⟨x.b,0,none⟩) cs)) (hb:w0.w.heap.size<=x.b):Ro (SL w0 S L) w x:=λy hy=>by
  rcases xz.1 hy with rfl
  exact ⟨hw.holds hi,λc e=>⟨⟨_,List.mem_of_getElem? hi,rfl,e⟩,.inl (by injection e with e;rw [<-e];exact hb)⟩⟩
end
section
variable {P:Program} {ops:Array Oper} {rest:List Oper} {Q:Exit->Act->World->Prop} {n d:Nat} {F:List (Nat×Value)} {w0:BA} {S:Nat->Prop} {L:List As} {t:TypeId} {p:String} {af:Array Edge} {y:Operand} {f:FuncId} {xs:List Operand} {args:List Value} {ts:Array TypeId}
theorem yV (i:Nat) {b:Nat} {T:TypeId} {cs:List Value} (hi:L[i]?=some (AU b T cs)) (hex:w0.ex=none) (next:w0.w.heap.size<=b->AQ P ops rest Q n F w0 (L.set i (AC (jk b) cs))):AQ P ops rest Q n F w0 L:=λa w ha hw=>by
  refine next ?_ a w ha (hw.freeze hi O (λo hp=>Hg hp) (λe=>by cases e))
  rcases (hw.2.1 _ (List.mem_of_getElem? hi) b rfl).1 with h1|h1|h1
  · cases h1
  · exact h1
  · rw [hex] at h1;cases h1
end
def MV (n:Nat) (t:Tq3):Bool:=decide (t.1<n)&&decide (t.2.1<n)&&decide (t.2.2<n)&&!decide (t.1=t.2.1)&&!decide (t.2.1=t.2.2)&&!decide (t.2.2=t.1)
def Bn (n:Nat) (ts:List (Tq3)):Bool:=ts.all (MV n)
theorem Cs {n:Nat} {ts:List (Tq3)} (h:Bn n ts=true) {j:Nat} (hj:j<ts.length):MV n (ts.getD j (0,0,0))=true:=by
  rw [List.getD,xN hj]
  exact List.all_eq_true.1 h _ (List.getElem_mem hj)
theorem DZ {n:Nat} {t:Tq3} (h:MV n t=true):t.1<n/\t.2.1<n/\t.2.2<n:=by
  simp [MV] at h;omega
def idxB (n:Nat):List (Tq3)->Nat->Int
  | [],_ => -1
  | t::r,i=>if MV n t=true then idxB n r (i+1) else (i:Int)
theorem Ft {α:Type} {ts:List α} {d:α} {j:Nat} (hj:j<ts.length):ts.drop j=ts.getD j d::ts.drop (j+1):=by
  rw [List.drop_eq_getElem_cons hj,List.getD,xN hj];rfl
theorem Tb {n:Nat} {ts:List (Tq3)} {j:Nat} (hj:j<ts.length) (h:MV n (ts.getD j (0,0,0))=true):idxB n (ts.drop j) j=idxB n (ts.drop (j+1)) (j+1):=by
  rw [Ft (d:=(0,0,0)) hj];exact if_pos h
theorem WA {n:Nat} {ts:List (Tq3)} {j:Nat} (hj:j<ts.length) (h:MV n (ts.getD j (0,0,0))=false):idxB n (ts.drop j) j=(j:Int):=by
  rw [Ft (d:=(0,0,0)) hj];exact if_neg (by rw [h];exact Bool.false_ne_true)
theorem V_ {n:Nat} {ts:List (Tq3)} {j:Nat} (hj:¬j<ts.length):idxB n (ts.drop j) j = -1:=by
  rw [List.drop_of_length_le Z];rfl
theorem M4 (n:Nat):∀(ts:List (Tq3)) (i:Nat),decide (0<=idxB n ts i)=!Bn n ts
  | [],i=>rfl
  | t::r,i=>by
    unfold idxB Bn
    rw [List.all_cons]
    cases h:MV n t with
    | true=>rw [if_pos rfl,Bool.true_and];exact M4 n r (i+1)
    | false=>rw [if_neg Bool.false_ne_true,Bool.false_and];simp
def BQ (ps:List Pt) (k:Nat):Pt:=ps.getD k ⟨0,0⟩
def Rl (a b c p:Pt):Nat:=if Aa a b c=0 then 0 else Jb (Aa p b c/Aa a b c) (Aa a p c/Aa a b c) (Aa a b p/Aa a b c)
def Rk (ps:List Pt) (q:Pt) (t:Tq3):Nat:=Rl (BQ ps t.1) (BQ ps t.2.1) (BQ ps t.2.2) q
end
section
structure RM (N:Nat) (ts ss:List (Tq3)) where
  cs:List Value
  ds:List Value
  a:RX cs N
  b:RX (rowsL Am ts) ts.length
  c:RX ds ss.length
def GC {N:Nat} {ts ss:List (Tq3)} (x:RM N ts ss):List Value:=[x.a.val,x.b.val,x.c.val]
theorem d9 {N:Nat} {ts ss:List (Tq3)} {x:RM N ts ss} {y:As} (hy:y∈[x.a.row,x.b.row,x.c.row]):y.ro=true:=by
  simp only [xy,List.not_mem_nil,or_false] at hy
  rcases hy with rfl|rfl|rfl<;>rfl
instance {N:Nat} {ts ss:List (Tq3)}:Cl (RM N ts ss):=⟨λx=>aG (GC x),λx=>[x.a.row,x.b.row,x.c.row],λx y hy=>d9 hy⟩
section
variable {S:Nat->Prop} {w:World} {N:Nat} {ts ss:List (Tq3)}
theorem eC {x:RM N ts ss} (h:Ro S w x):Ro S w x.b:=λy hy=>by rcases xz.1 hy with rfl;exact h _ (List.mem_cons_of_mem _ List.mem_cons_self)
end
def MX.rm {ps:List Pt} {ts ss:List (Tq3)} (x:MX ps ts ss):RM ps.length ts ss:=⟨rowsL Ad ps,rowsL Am ss,x.a,x.b,x.c⟩
structure RU (N M K:Nat) where
  cs:List Value
  es:List Value
  ds:List Value
  a:RX cs N
  b:RX es M
  c:RX ds K
def Jq {N M K:Nat} (x:RU N M K):List Value:=[x.a.val,x.b.val,x.c.val]
theorem eG {N M K:Nat} {x:RU N M K} {y:As} (hy:y∈[x.a.row,x.b.row,x.c.row]):y.ro=true:=by
  simp only [xy,List.not_mem_nil,or_false] at hy
  rcases hy with rfl|rfl|rfl<;>rfl
instance {N M K:Nat}:Cl (RU N M K):=⟨λx=>aG (Jq x),λx=>[x.a.row,x.b.row,x.c.row],λx y hy=>eG hy⟩
end
section
set_option maxRecDepth 100000
theorem Dd (p n:Nat) (w:World)  :Calls prog 148 #[(vN p),(vN n)] w (AX w (qa (decide (p<n)))):=by
 refine AS (args:=[(vN p),(vN n)]) func148 O O (leB O) (zM (sL [0,1] O) (q4 (asg' O (oNl' (q2 (AJ O (st' (CU (c:=(decide (0<=p))) O O (Qz (a:=0) (b:=p))) O (AJ O ?_))))))))
 refine zg (FM:=[(0,(vN p)),(1,(vN n)),(4,(qa false)),(5,(vN p)),(6,(qa (decide (0<=p)))),(7,(qa (decide (0<=p)))),(11,(qa ((decide (0<=p))&&(decide (p<n)))))]) (LM:=[]) 4 ?_ ?_
 ·rcases xO (decide (0<=p)) with hg1|hg1
  ·refine zK (k:=7) (u:=qa true) O (by rw [hg1]) ?_
   have hg1':=xR hg1
   exact EV O (EV O (Au (v:=(qa (decide (p<n)))) O (AW (c:=(decide (p<n))) O O (B_ (a:=p) (b:=n))) (st' (v:=(qa (decide (p<n)))) (ex_pick_true O O) O (oNl' (zS Bi (xP _))))))
  ·refine zK (k:=7) (u:=qa false) O (by rw [hg1]) ?_
   have hg1':=xQ hg1
   exact Aw O (Aw O (Aw O (st' (v:=(qa false)) (AI O O) O (oNl' (zS Bi (xP _))))))
 exact asg' O (oNl' (zF (sL [4] O) (zC (zH (ret_one O (rd_tmp (v:=(qa ((decide (0<=p))&&(decide (p<n))))) O) (λw hw=>⟨by simp,hw.out⟩))))))
theorem Wr (t:Tq3) (n:Nat) (bo:BX [vN n]) (w:World) {S:Nat->Prop} (hbo:Ro S w bo):Calls prog 174 #[(aG (Am t)),(pP bo.b 0)] w (AX w (qa (!MV n t))):=by
 have lbo:=Bq (W:=w) hbo
 refine AR (args:=[(aG (Am t)),(pP bo.b 0)]) (L:=[AC (some ⟨bo.b,0,none⟩) ([(vN n)])]) func174 O O (leB O) (C7 hbo Ae) (zM (sL [0,1] O) (q4 (BG (cs:=Am t) O λb1=>asg' O (q3 (sL [1,2,3] O) (st' (v:=(pP b1 0)) (AB (j:=0) O O underlying105 sizeOf3 O jY O) O (A_ 0 (vN t.1) BN O (st' (Ab (q:=some ⟨bo.b,0,none⟩) (v:=(vN n)) (off:=0) (i:=1) O O (λe=>by cases e) BN O) O (ck' call148 (Dd t.1 n) O (st' (BB (c:=(!(decide (t.1<n)))) O O) O (AJ O ?_))))))))))
 refine zg (FM:=[(1,(pP bo.b 0)),(2,(pP b1 0)),(3,(qa false)),(4,(pP b1 0)),(5,(vN t.1)),(6,(vN n)),(7,(qa (decide (t.1<n)))),(8,(qa (!(decide (t.1<n))))),(9,(qa (!(decide (t.1<n))))),(15,(qa ((!(decide (t.1<n)))||(!(decide (t.2.1<n))))))]) (LM:=[AU b1 105 (Am t),AC (some ⟨bo.b,0,none⟩) ([(vN n)])]) 6 ?_ ?_
 ·rcases xO (!(decide (t.1<n))) with hg1|hg1
  ·refine zK (k:=9) (u:=qa true) O (by rw [hg1]) ?_
   have hg1':=hg1
   simp only [jK] at hg1'
   exact Aw O (Aw O (Aw O (Aw O (Aw O (st' (v:=(qa true)) (ex_pick_true O O) O (oNl' (zS Bi (xP _))))))))
  ·refine zK (k:=9) (u:=qa false) O (by rw [hg1]) ?_
   have hg1':=hg1
   simp only [jK] at hg1'
   exact Au (v:=(pP b1 1)) O (AB (j:=1) O O underlying105 sizeOf3 O jY O) (Au (v:=(vN t.2.1)) O (AE (i:=0) (v:=(vN t.2.1)) O O BN.a O) (Au (v:=(vN n)) O (Ab (q:=some ⟨bo.b,0,none⟩) (v:=(vN n)) (off:=0) (i:=1) O O (λe=>by cases e) BN O) (zj (v:=(qa (decide (t.2.1<n)))) (AN O) (Ak (args:=[(vN t.2.1),(vN n)]) O O call148) (λw hw=>Dd t.2.1 n w) O (leB O) (Au (v:=(qa (!(decide (t.2.1<n))))) O (BB (c:=(!(decide (t.2.1<n)))) O O) (st' (v:=(qa (!(decide (t.2.1<n))))) (AI O O) O (oNl' (zS Bi (xP _))))))))
 refine AJ O ?_
 refine zg (FM:=[(1,(pP bo.b 0)),(2,(pP b1 0)),(3,(qa false)),(4,(pP b1 0)),(5,(vN t.1)),(6,(vN n)),(7,(qa (decide (t.1<n)))),(8,(qa (!(decide (t.1<n))))),(9,(qa (!(decide (t.1<n))))),(15,(qa ((!(decide (t.1<n)))||(!(decide (t.2.1<n)))))),(16,(qa ((!(decide (t.1<n)))||(!(decide (t.2.1<n)))))),(22,(qa (((!(decide (t.1<n)))||(!(decide (t.2.1<n))))||(!(decide (t.2.2<n))))))]) (LM:=[AU b1 105 (Am t),AC (some ⟨bo.b,0,none⟩) ([(vN n)])]) 6 ?_ ?_
 ·rcases xO ((!(decide (t.1<n)))||(!(decide (t.2.1<n)))) with hg2|hg2
  ·refine zK (k:=16) (u:=qa true) O (by rw [hg2]) ?_
   have hg2':=hg2
   simp only [jK] at hg2'
   exact Aw O (Aw O (Aw O (Aw O (Aw O (st' (v:=(qa true)) (ex_pick_true O O) O (oNl' (zS EW (xP _))))))))
  ·refine zK (k:=16) (u:=qa false) O (by rw [hg2]) ?_
   have hg2':=hg2
   simp only [jK] at hg2'
   exact Au (v:=(pP b1 2)) O (AB (j:=2) O O underlying105 sizeOf3 O jY O) (Au (v:=(vN t.2.2)) O (AE (i:=0) (v:=(vN t.2.2)) O O BN.a O) (Au (v:=(vN n)) O (Ab (q:=some ⟨bo.b,0,none⟩) (v:=(vN n)) (off:=0) (i:=1) O O (λe=>by cases e) BN O) (zj (v:=(qa (decide (t.2.2<n)))) (AN O) (Ak (args:=[(vN t.2.2),(vN n)]) O O call148) (λw hw=>Dd t.2.2 n w) O (leB O) (Au (v:=(qa (!(decide (t.2.2<n))))) O (BB (c:=(!(decide (t.2.2<n)))) O O) (st' (v:=(qa (!(decide (t.2.2<n))))) (AI O O) O (oNl' (zS EW (xP _))))))))
 refine AJ O ?_
 refine zg (FM:=[(1,(pP bo.b 0)),(2,(pP b1 0)),(3,(qa false)),(4,(pP b1 0)),(5,(vN t.1)),(6,(vN n)),(7,(qa (decide (t.1<n)))),(8,(qa (!(decide (t.1<n))))),(9,(qa (!(decide (t.1<n))))),(15,(qa ((!(decide (t.1<n)))||(!(decide (t.2.1<n)))))),(16,(qa ((!(decide (t.1<n)))||(!(decide (t.2.1<n)))))),(22,(qa (((!(decide (t.1<n)))||(!(decide (t.2.1<n))))||(!(decide (t.2.2<n)))))),(23,(qa (((!(decide (t.1<n)))||(!(decide (t.2.1<n))))||(!(decide (t.2.2<n)))))),(29,(qa ((((!(decide (t.1<n)))||(!(decide (t.2.1<n))))||(!(decide (t.2.2<n))))||(decide (t.1=t.2.1)))))]) (LM:=[AU b1 105 (Am t),AC (some ⟨bo.b,0,none⟩) ([(vN n)])]) 6 ?_ ?_
 ·rcases xO (((!(decide (t.1<n)))||(!(decide (t.2.1<n))))||(!(decide (t.2.2<n)))) with hg3|hg3
  ·refine zK (k:=23) (u:=qa true) O (by rw [hg3]) ?_
   have hg3':=hg3
   simp only [jK] at hg3'
   exact Aw O (Aw O (Aw O (Aw O (Aw O (st' (v:=(qa true)) (ex_pick_true O O) O (oNl' (zS I4 (xP _))))))))
  ·refine zK (k:=23) (u:=qa false) O (by rw [hg3]) ?_
   have hg3':=hg3
   simp only [jK] at hg3'
   exact Au (v:=(pP b1 0)) O (AB (j:=0) O O underlying105 sizeOf3 O jY O) (Au (v:=(vN t.1)) O (AE (i:=0) (v:=(vN t.1)) O O BN.a O) (Au (v:=(pP b1 1)) O (AB (j:=1) O O underlying105 sizeOf3 O jY O) (Au (v:=(vN t.2.1)) O (AE (i:=0) (v:=(vN t.2.1)) O O BN.a O) (Au (v:=(qa (decide (t.1=t.2.1)))) O (A9 (c:=(decide (t.1=t.2.1))) O O (MA (a:=t.1) (b:=t.2.1))) (st' (v:=(qa (decide (t.1=t.2.1)))) (AI O O) O (oNl' (zS I4 (xP _))))))))
 refine AJ O ?_
 refine zg (FM:=[(1,(pP bo.b 0)),(2,(pP b1 0)),(3,(qa false)),(4,(pP b1 0)),(5,(vN t.1)),(6,(vN n)),(7,(qa (decide (t.1<n)))),(8,(qa (!(decide (t.1<n))))),(9,(qa (!(decide (t.1<n))))),(15,(qa ((!(decide (t.1<n)))||(!(decide (t.2.1<n)))))),(16,(qa ((!(decide (t.1<n)))||(!(decide (t.2.1<n)))))),(22,(qa (((!(decide (t.1<n)))||(!(decide (t.2.1<n))))||(!(decide (t.2.2<n)))))),(23,(qa (((!(decide (t.1<n)))||(!(decide (t.2.1<n))))||(!(decide (t.2.2<n)))))),(29,(qa ((((!(decide (t.1<n)))||(!(decide (t.2.1<n))))||(!(decide (t.2.2<n))))||(decide (t.1=t.2.1))))),(30,(qa ((((!(decide (t.1<n)))||(!(decide (t.2.1<n))))||(!(decide (t.2.2<n))))||(decide (t.1=t.2.1))))),(36,(qa (((((!(decide (t.1<n)))||(!(decide (t.2.1<n))))||(!(decide (t.2.2<n))))||(decide (t.1=t.2.1)))||(decide (t.2.1=t.2.2)))))]) (LM:=[AU b1 105 (Am t),AC (some ⟨bo.b,0,none⟩) ([(vN n)])]) 6 ?_ ?_
 ·rcases xO ((((!(decide (t.1<n)))||(!(decide (t.2.1<n))))||(!(decide (t.2.2<n))))||(decide (t.1=t.2.1))) with hg4|hg4
  ·refine zK (k:=30) (u:=qa true) O (by rw [hg4]) ?_
   have hg4':=hg4
   simp only [jK] at hg4'
   exact Aw O (Aw O (Aw O (Aw O (Aw O (st' (v:=(qa true)) (ex_pick_true O O) O (oNl' (zS Me (xP _))))))))
  ·refine zK (k:=30) (u:=qa false) O (by rw [hg4]) ?_
   have hg4':=hg4
   simp only [jK] at hg4'
   exact Au (v:=(pP b1 1)) O (AB (j:=1) O O underlying105 sizeOf3 O jY O) (Au (v:=(vN t.2.1)) O (AE (i:=0) (v:=(vN t.2.1)) O O BN.a O) (Au (v:=(pP b1 2)) O (AB (j:=2) O O underlying105 sizeOf3 O jY O) (Au (v:=(vN t.2.2)) O (AE (i:=0) (v:=(vN t.2.2)) O O BN.a O) (Au (v:=(qa (decide (t.2.1=t.2.2)))) O (A9 (c:=(decide (t.2.1=t.2.2))) O O (MA (a:=t.2.1) (b:=t.2.2))) (st' (v:=(qa (decide (t.2.1=t.2.2)))) (AI O O) O (oNl' (zS Me (xP _))))))))
 refine AJ O ?_
 refine zg (FM:=[(1,(pP bo.b 0)),(2,(pP b1 0)),(3,(qa false)),(4,(pP b1 0)),(5,(vN t.1)),(6,(vN n)),(7,(qa (decide (t.1<n)))),(8,(qa (!(decide (t.1<n))))),(9,(qa (!(decide (t.1<n))))),(15,(qa ((!(decide (t.1<n)))||(!(decide (t.2.1<n)))))),(16,(qa ((!(decide (t.1<n)))||(!(decide (t.2.1<n)))))),(22,(qa (((!(decide (t.1<n)))||(!(decide (t.2.1<n))))||(!(decide (t.2.2<n)))))),(23,(qa (((!(decide (t.1<n)))||(!(decide (t.2.1<n))))||(!(decide (t.2.2<n)))))),(29,(qa ((((!(decide (t.1<n)))||(!(decide (t.2.1<n))))||(!(decide (t.2.2<n))))||(decide (t.1=t.2.1))))),(30,(qa ((((!(decide (t.1<n)))||(!(decide (t.2.1<n))))||(!(decide (t.2.2<n))))||(decide (t.1=t.2.1))))),(36,(qa (((((!(decide (t.1<n)))||(!(decide (t.2.1<n))))||(!(decide (t.2.2<n))))||(decide (t.1=t.2.1)))||(decide (t.2.1=t.2.2))))),(37,(qa (((((!(decide (t.1<n)))||(!(decide (t.2.1<n))))||(!(decide (t.2.2<n))))||(decide (t.1=t.2.1)))||(decide (t.2.1=t.2.2))))),(43,(qa ((((((!(decide (t.1<n)))||(!(decide (t.2.1<n))))||(!(decide (t.2.2<n))))||(decide (t.1=t.2.1)))||(decide (t.2.1=t.2.2)))||(decide (t.2.2=t.1)))))]) (LM:=[AU b1 105 (Am t),AC (some ⟨bo.b,0,none⟩) ([(vN n)])]) 6 ?_ ?_
 ·rcases xO (((((!(decide (t.1<n)))||(!(decide (t.2.1<n))))||(!(decide (t.2.2<n))))||(decide (t.1=t.2.1)))||(decide (t.2.1=t.2.2))) with hg5|hg5
  ·refine zK (k:=37) (u:=qa true) O (by rw [hg5]) ?_
   have hg5':=hg5
   simp only [jK] at hg5'
   exact Aw O (Aw O (Aw O (Aw O (Aw O (st' (v:=(qa true)) (ex_pick_true O O) O (oNl' (zS Mf (xP _))))))))
  ·refine zK (k:=37) (u:=qa false) O (by rw [hg5]) ?_
   have hg5':=hg5
   simp only [jK] at hg5'
   exact Au (v:=(pP b1 2)) O (AB (j:=2) O O underlying105 sizeOf3 O jY O) (Au (v:=(vN t.2.2)) O (AE (i:=0) (v:=(vN t.2.2)) O O BN.a O) (Au (v:=(pP b1 0)) O (AB (j:=0) O O underlying105 sizeOf3 O jY O) (Au (v:=(vN t.1)) O (AE (i:=0) (v:=(vN t.1)) O O BN.a O) (Au (v:=(qa (decide (t.2.2=t.1)))) O (A9 (c:=(decide (t.2.2=t.1))) O O (MA (a:=t.2.2) (b:=t.1))) (st' (v:=(qa (decide (t.2.2=t.1)))) (AI O O) O (oNl' (zS Mf (xP _))))))))
 exact asg' O (oNl' (zF (sL [3] O) (zC (zH (ret_one O (rd_tmp (v:=(qa ((((((!(decide (t.1<n)))||(!(decide (t.2.1<n))))||(!(decide (t.2.2<n))))||(decide (t.1=t.2.1)))||(decide (t.2.1=t.2.2)))||(decide (t.2.2=t.1))))) O) (λw hw=>⟨by congr 2;rw [Bool.eq_iff_iff];simp [MV]<;>omega,hw.out⟩))))))
theorem bP (n:Nat) (bo:BX [vN n]) (ts:List (Tq3)) (x:RX (rowsL Am ts) ts.length) (hl:ts.length<4611686018427387904) (w:World) {S:Nat->Prop} (hbo:Ro S w bo) (hx:Ro S w x):Calls prog 218 #[(qz x.p ts.length x.c),(Value.func (.func 174) #[] #[(pP bo.b 0)])] w (AX w (vI (idxB n ts 0))):=by
 have lbo:=Bq (W:=w) hbo
 have lx:=Bq (W:=w) hx
 refine AR (args:=[(qz x.p ts.length x.c),(Value.func (.func 174) #[] #[(pP bo.b 0)])]) (L:=[AC (some ⟨bo.b,0,none⟩) ([(vN n)]),AC x.p (rowsL Am ts)]) func218 O O (leB O) (C7 hbo (C7 hx Ae)) (zM (sL [0,1] O) (q4 (asg' O (oNl' (q1 (q4 (AJ O (st' (v:=(vN ts.length)) (AD O underlying23) O (AJ O (oNl' (zF (sL [0,1,4,7,8] O) ?_)))))))))))
 refine zC (zN ?_)
 refine zw (tg λ(j:Nat)=>j<=ts.length/\idxB n ts 0=idxB n (ts.drop j) j) (tg λ(j:Nat)=>[(0,(qz x.p ts.length x.c)),(1,(Value.func (.func 174) #[] #[(pP bo.b 0)])),(7,(vN ts.length)),(8,(vN j))]) (tg λ(j:Nat)=>[AC (some ⟨bo.b,0,none⟩) ([(vN n)]),AC x.p (rowsL Am ts)]) (tg λ(j:Nat)=>ts.length-j) 0 (⟨xu _,rfl⟩) (sF O) sr (λj hJ=>?_)
 obtain ⟨hj,he⟩:=hJ
 refine q4 (st' (AW (c:=(decide (j<ts.length))) O O (B_ (a:=j) (b:=ts.length))) O (oNl' (q1 ?_)))
 refine zO O (λhc0=>?_) (λhc0=>?_)
 ·replace hc0:=xR hc0
  refine zJ (q1 (zN (q4 (AJ O (asg' O (q3 (sL [0,1,7,8,5] O) (AJ O (AJ O (AJ O (st' (v:=(pP (pB x.p) (pO x.p+j*3))) (AF (j:=j) O O x.ok underlying23 sizeOf105 O Z) O (st' (v:=(aG (Am (ts.getD j jJ)))) (AH (vs:=Am (ts.getD j jJ)) (i:=1) O O (Ao.ne x.ok Z) CY (AZ A8 _ _ _ Z) (A8 _)) O ?_)))))))))))
  refine zj (v:=(qa (!MV n (ts.getD j jJ)))) (AM O) (ER (args:=[(aG (Am (ts.getD j jJ)))]) (caps:=[(pP bo.b 0)]) (all:=[(aG (Am (ts.getD j jJ))),(pP bo.b 0)]) O O O call174) (λw hw=>Wr (ts.getD j jJ) n bo w (inS hw 0 O lbo)) O (leB O) (oNl' (zF (sL [0,1,7,8,5,16] O) (zC ?_)))
  refine zO O (λhc1=>?_) (λhc1=>?_)
  ·simp only [jK] at hc1
   have hfin:=he.trans (WA Z (by simpa using hc1))
   exact q4 (AJ O (asg' O (oNl' (zF (sL [0,1,7,8,5,4] O) (zC (zH (zU (zI (zr (zU (zI (ret_one O (rd_tmp (v:=(vN j)) O) (λw hw=>⟨by rw [hfin],hw.out⟩)))))))))))))
  ·simp only [jK] at hc1
   exact zJ (zP (zC (zQ (st' (AV (c:=((j+1:Nat):Int)) O O (AY (a:=j) (b:=1) Z)) O (AJ O (oNl' (zF (sL [0,1,7,8,5] O) (zm (j+1) (⟨Z,he.trans (Tb Z (by simpa using hc1))⟩) Z (sF O) sr))))))))
 ·replace hc0:=xQ hc0
  have hfin:=he.trans (V_ hc0)
  exact zY (zR (zh (zV (q2 (asg' O (oNl' (zC (zH (ret_one O (rd_tmp (v:=(vI (-1:Int))) O) (λw hw=>⟨by rw [hfin],hw.out⟩))))))))))
theorem Yc (n:Nat) (bo:BX [vN n]) (ts:List (Tq3)) (x:RX (rowsL Am ts) ts.length) (hl:ts.length<4611686018427387904) (w:World) {S:Nat->Prop} (hbo:Ro S w bo) (hx:Ro S w x):Calls prog 173 #[(qz x.p ts.length x.c),(Value.func (.func 174) #[] #[(pP bo.b 0)])] w (AX w (qa (!Bn n ts))):=by
 have lbo:=Bq (W:=w) hbo
 have lx:=Bq (W:=w) hx
 refine AR (args:=[(qz x.p ts.length x.c),(Value.func (.func 174) #[] #[(pP bo.b 0)])]) (L:=[AC (some ⟨bo.b,0,none⟩) ([(vN n)]),AC x.p (rowsL Am ts)]) func173 O O (leB O) (C7 hbo (C7 hx Ae)) (zM (sL [0,1] O) (q4 (asg' O (oNl' (q2 (AJ O (AJ O (Bx call218 (λw hw=>bP n bo ts x hl w (inS hw 0 O lbo) (inS hw 1 O lx)) O (st' (CU (c:=(!Bn n ts)) O O (M4 n ts 0)) O (asg' O (oNl' ?_)))))))))))
 exact zF (sL [4] O) (zC (zH (ret_one O (rd_tmp (v:=(qa (!Bn n ts))) O) (λw hw=>⟨rfl,hw.out⟩))))
theorem Sf (n:Nat) (ts:List (Tq3)) (x:RX (rowsL Am ts) ts.length) (hl:ts.length<4611686018427387904) (w:World) {S:Nat->Prop} (hx:Ro S w x):Calls prog 110 #[(qz x.p ts.length x.c),(vN n)] w (AX w (qa (Bn n ts))):=by
 have lx:=Bq (W:=w) hx
 refine AR (args:=[(qz x.p ts.length x.c),(vN n)]) (L:=[AC x.p (rowsL Am ts)]) func110 O O (leB O) (C7 hx Ae) (zM (sL [0,1] O) (q4 (BG (cs:=[(vN n)]) O λb1=>yV 0 O O λhnb1=>asg' O (q3 (sL [0,3,4] O) (AJ O (st' (v:=(Value.func (.func 174) #[] #[(pP b1 0)])) (ED (vs:=[]) (us:=[(pP b1 0)]) O O) O (Bx call173 (λw hw=>Yc n ⟨b1⟩ ts x hl w (WD (x:=(⟨b1⟩:BX [vN n])) hw 0 O hnb1) (inS hw 1 O lx)) O (st' (BB (c:=(!(!Bn n ts))) O O) O (asg' O ?_)))))))))
 exact oNl' (zF (sL [4] O) (zC (zH (ret_one O (rd_tmp (v:=(qa (!(!Bn n ts)))) O) (λw hw=>⟨by simp,hw.out⟩)))))
theorem TA {N:Nat} {ts ss:List (Tq3)} (x:RM N ts ss) (hl:ts.length<4611686018427387904) (w:World) {S:Nat->Prop} (hx:Ro S w x):Calls prog 43 #[(aG (GC x))] w (AX w (qa (Bn N ts))):=by
 have lx:=Bq (W:=w) hx
 refine AR (args:=[(aG (GC x))]) (L:=[AC x.a.p (x.cs),AC x.b.p (rowsL Am ts),AC x.c.p (x.ds)]) func43 O O (leB O) (C7 hx Ae) (zM (sL [0] O) (q4 (BG (cs:=GC x) O λb1=>asg' O (q3 (sL [1,2] O) (st' (v:=(pP b1 1)) (AA O underlying30 O sizeOf23 O) O (A_ 0 (qz x.b.p ts.length x.b.c) CQ O (st' (v:=(pP b1 0)) (AA O underlying30 O sizeOf28 O) O (A_ 0 (qz x.a.p N x.a.c) DS O (st' (v:=(vN N)) (AD O underlying28) O (Bx call110 (λw hw=>Sf N ts x.b hl w (eC (inS hw 1 O lx))) O ?_))))))))))
 exact asg' O (oNl' (zF (sL [2] O) (zC (zH (ret_one O (rd_tmp (v:=(qa (Bn N ts))) O) (λw hw=>⟨rfl,hw.out⟩))))))
end
end Go.Proofs.YtpolhpjiahbidaaGreatDoor
