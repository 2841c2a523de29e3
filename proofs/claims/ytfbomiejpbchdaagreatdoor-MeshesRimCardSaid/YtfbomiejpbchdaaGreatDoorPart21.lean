import Derived.ChangeKeysEq
import Derived.Test.YtfbomiejpbchdaaGreatDoorRows
import Derived.Shelf.SlSortCmp.WholeK
import Derived.Test.YtfbomiejpbchdaaGreatDoorPart01
import Derived.Test.YtfbomiejpbchdaaGreatDoorPart06
import Derived.Test.YtfbomiejpbchdaaGreatDoorPart09
import Derived.Test.YtfbomiejpbchdaaGreatDoorPart20
namespace Go.Proofs.YtfbomiejpbchdaaGreatDoor
open Go Go.RowKit Go.Proofs.Tryz
set_option linter.unusedVariables false
set_option linter.unusedSimpArgs false
section
set_option maxRecDepth 100000
theorem Rm (n:Nat) (hn:n<10) (w:World)  :Calls prog 222 #[(vN n)] w (Am w (Value.string (HZ n))):=by
 refine Ac (args:=[(vN n)]) func222 O O (Ab O) (AF.subF (sL [0] O) (q4 (AK O (AE.nil (q1 ?_)))))
 refine q4 (AO O (AG (Af (c:=(decide (n<10))) O O (C6 (a:=n) (b:=10))) O (AE.nil (AD.subF (sL [0,2,4] O) (AD.then_ ?_)))))
 refine AF.cond O (λhc0=>?_) (λhc0=>?_)
 ·replace hc0:=of_decide_eq_true hc0
  refine q4 (AO O (AO O (AG (AX (c:=((n+1:Nat):Int)) O O (AY (a:=n) (b:=1) Z)) O (AG (v:=(Value.string (HZ n))) (H3 (i:=n) (j:=n+1) O O O underlying9 Z (Nat.le_trans (show n+1<=10 by omega) (by decide)) (UE (by kernel_rfl) hn)) O (AK O ?_)))))
  exact AE.nil (AD.subF (sL [0,2] O) (AD.then_ (AF.ret (AD.then_ret (AP O (Ad (v:=(Value.string (HZ n))) O) (λw hw=>⟨rfl,hw.out⟩))))))
 ·replace hc0:=of_decide_eq_false hc0
  exfalso;omega
theorem MZ (n:Nat) (hn:n<10) (w:World)  :Calls prog 188 #[(vK .u64 n),(vI 10)] w (Am w (Value.string (HZ n))):=by
 refine Ac (args:=[(vK .u64 n),(vI 10)]) func188 O O (Ab O) (AF.subF (sL [0,1] O) (q4 (AK O (AE.nil (q1 ?_)))))
 refine q4 (AO O (AG (BU (c:=true) O O (by decide)) O (AE.nil (AD.subF (sL [0,1,4,10] O) (AD.then_ ?_)))))
 refine AF.cond_true O (AF.seq (q4 (AO O (AG (Af (c:=(decide (n<100))) O O (C6 (a:=n) (b:=100))) O (AE.nil ?_)))))
 refine AD.subF (sL [0,1,4,12] O) (AD.then_ ?_)
 refine AF.cond O (λhc1=>?_) (λhc1=>?_)
 ·replace hc1:=of_decide_eq_true hc1
  refine q4 (AO O (AG (Aq (c:=((n:Nat):Int)) O underlying53 underlying3 (CC Z)) O (BV call222 (Rm n Z) O (AK O (AE.nil ?_)))))
  exact AD.subF (sL [0,1,4] O) (AD.then_ (AF.ret (AD.then_ret (AD.then_ret (AP O (Ad (v:=(Value.string (HZ n))) O) (λw hw=>⟨rfl,hw.out⟩))))))
 ·replace hc1:=of_decide_eq_false hc1
  exfalso;omega
theorem Ot (n:Nat) (hn:n<10) (w:World)  :Calls prog 147 #[(vK .u64 n),(vI 10)] w (Am w (Value.string (HZ n))):=by
 refine Ac (args:=[(vK .u64 n),(vI 10)]) func147 O O (Ab O) (AF.subF (sL [0,1] O) (q4 (AK O (AE.nil (q2 ?_)))))
 refine AO O (AO O (BV call188 (MZ n Z) O (AK O (AE.nil (AD.subF (sL [4] O) ?_)))))
 exact AD.then_ (AF.ret (AP O (Ad (v:=(Value.string (HZ n))) O) (λw hw=>⟨rfl,hw.out⟩)))
theorem It (n:Nat) (hn:n<10) (w:World)  :Calls prog 112 #[(aG (AT n))] w (Am w (Value.string (HZ n))):=by
 refine Ac (args:=[(aG (AT n))]) func112 O O (Ab O) (AF.subF (sL [0] O) (q4 (Bq (cs:=AT n) O λb1=>AK O (q6 (sL [1,2] O) ?_))))
 refine q4 (AG (v:=(pP b1 1)) (AA O underlying55 O sizeOf9 O) O (BO 0 (Value.string (Bj n)) Pa O (AG (Bk (c:=(decide (n<18446744073709551616))) O O CR) O (AE.nil (AD.subF (sL [1,2,10] O) ?_)))))
 refine AD.then_ ?_
 refine AF.cond O (λhc0=>?_) (λhc0=>?_)
 ·replace hc0:=of_decide_eq_true hc0
  refine q4 (AG (v:=(pP b1 0)) (AA O underlying55 O sizeOf53 O) O (BO 0 (vK .u64 (Bw n)) Fd O (AE.retell (k:=12) (u:=(vK .u64 n)) O (by rw [Bf Z]) (BV call147 (Ot n Z) O (AK O ?_)))))
  exact AE.nil (AD.subF (sL [1,2] O) (AD.then_ (AF.ret (AD.then_ret (AP O (Ad (v:=(Value.string (HZ n))) O) (λw hw=>⟨rfl,hw.out⟩))))))
 ·replace hc0:=of_decide_eq_false hc0
  exfalso;omega
theorem L0 (z:Int) (hz:z.natAbs<10) (w:World)  :Calls prog 111 #[(aG (A9 z))] w (Am w (Value.string (EH z))):=by
 refine Ac (args:=[(aG (A9 z))]) func111 O O (Ab O) (AF.subF (sL [0] O) (q4 (Bq (cs:=A9 z) O λb1=>AK O (q6 (sL [1,2] O) ?_))))
 refine q4 (AG (v:=(pP b1 2)) (AA O underlying59 O sizeOf4 O) O (BO 0 (Value.bool (decide (z<0))) Qf O (AE.nil (AD.subF (sL [1,2,4] O) (AD.then_ ?_)))))
 refine AF.cond O (λhc0=>?_) (λhc0=>?_)
 ·replace hc0:=of_decide_eq_true hc0
  have he:EH z=⟨#[45]⟩++HZ z.natAbs:=if_pos hc0
  refine q4 (AG (v:=(pP b1 0)) (AA O underlying59 O sizeOf57 O) O (AG (v:=(pP b1 0)) (AA O underlying57 O sizeOf55 O) O (DJ 0 (AT z.natAbs) Bv O (BV call112 (It z.natAbs Z) O (AG (v:=(Value.string (ByteArray.mk #[45]++HZ z.natAbs))) (Ee (r:=(ByteArray.mk #[45]++HZ z.natAbs)) O O (by rw [ME];decide) O) O ?_)))))
  exact AK O (AE.nil (AD.subF (sL [1,2] O) (AD.then_ (AF.ret (AD.then_ret (AP O (Ad (v:=(Value.string (ByteArray.mk #[45]++HZ z.natAbs))) O) (λw hw=>⟨by rw [he],hw.out⟩)))))))
 ·replace hc0:=of_decide_eq_false hc0
  have he:EH z=HZ z.natAbs:=if_neg hc0
  refine AF.skip (q2 (AG (v:=(pP b1 0)) (AA O underlying59 O sizeOf57 O) O (AG (v:=(pP b1 0)) (AA O underlying57 O sizeOf55 O) O (DJ 0 (AT z.natAbs) Bv O (BV call112 (It z.natAbs Z) O ?_)))))
  exact AK O (AE.nil (AD.subF (sL [1,2] O) (AD.then_ (AF.ret (AP O (Ad (v:=(Value.string (HZ z.natAbs))) O) (λw hw=>⟨by rw [he],hw.out⟩))))))
theorem Q0 (q:Rat) (hn:q.num.natAbs<10) (hd:q.den<10) (w:World)  :Calls prog 60 #[(aG (AI q))] w (Am w (Value.string (Nt q))):=by
 have hs:=Mx q.num
 have hdn:nw q.den<=1099511627776:=Nat.le_trans (G5 Z) Z
 refine Ac (args:=[(aG (AI q))]) func60 O O (Ab O) (AF.subF (sL [0] O) (q4 (Bq (cs:=AI q) O λb1=>AK O (q6 (sL [1,2] O) ?_))))
 refine q4 (BD 0 Bh O (BV call50 (Fi q) O (AE.nil (AD.subF (sL [1,2,4] O) (AD.then_ ?_)))))
 refine AF.cond O (λhc0=>?_) (λhc0=>?_)
 ·replace hc0:=of_decide_eq_true hc0
  have he:Nt q=EH q.num:=if_pos hc0
  refine q4 (AG (v:=(pP b1 0)) (AA O underlying61 O sizeOf59 O) O (DJ 0 (A9 q.num) Cy O (BV call111 (L0 q.num Z) O (AK O (AE.nil ?_)))))
  exact AD.subF (sL [1,2] O) (AD.then_ (AF.ret (AD.then_ret (AP O (Ad (v:=(Value.string (EH q.num))) O) (λw hw=>⟨by rw [he],hw.out⟩)))))
 ·replace hc0:=of_decide_eq_false hc0
  have he:Nt q=EH q.num++⟨#[47]⟩++HZ q.den:=if_neg hc0
  refine AF.skip (q1 (C4 [(0,true),(1,true),(4,true),(2,false),(3,true),(5,false),(6,false),(7,true),(8,true)] sr (Ay (v:=(pP b1 0)) O (AA O underlying61 O sizeOf59 O) (Hr 0 (A9 q.num) Cy O (Es 0 Bh O ?_)))))
  refine AS.imp O (BV call111 (L0 q.num Z) O (AS.back sr (Ay (v:=(Value.string (EH q.num++ByteArray.mk #[47]))) O (Ee (r:=(EH q.num++ByteArray.mk #[47])) O O (Nat.le_trans (Nat.add_le_add_right hs 1) (by decide)) O) (AS.imp O (BV call54 (FU q Z) O ?_)))))
  refine AS.back sr (AS.imp O (BV call112 (It q.den Z) O (AS.back sr (Ay (v:=(Value.string (EH q.num++ByteArray.mk #[47]++HZ q.den))) O (Ee (r:=(EH q.num++ByteArray.mk #[47]++HZ q.den)) O O (by rw [ByteArray.size_append,ME];exact Nat.le_trans (Nat.add_le_add_right (Nat.add_le_add_right hs 1) 1) (by decide)) O) (EZ O ?_)))))
  exact AS.nil (AD.subF (sL [1,2] O) (AD.then_ (AF.ret (AP O (Ad (v:=(Value.string (EH q.num++ByteArray.mk #[47]++HZ q.den))) O) (λw hw=>⟨by rw [he],hw.out⟩)))))
end
theorem G3 (a b c:Pt):Ag a b c=(b.x-a.x)*(c.y-a.y)-(b.y-a.y)*(c.x-a.x):=rfl
theorem Jw (a b:Pt):Ca a b=a.x*b.y-a.y*b.x:=rfl
theorem SH {q:Rat} (h:0<q):q.num.sign=1:=by
  have h1:0<=q.num:=Rat.num_nonneg.2 (by grind)
  have h2:q.num≠0:=λe=>by have:=Rat.num_eq_zero.1 e;grind
  exact Int.sign_eq_one_of_pos Z
theorem Gl (a b c:Pt):Ag b c a=Ag a b c:=by simp only [G3];grind
def ng (q:Rat):Nat:=if q.num.sign<0 then 1 else 0
section
theorem Sb (a b:Int):(decide (a.natAbs=b.natAbs)&&((decide (a<0) == decide (b<0))&&true))=decide (a=b):=by
  by_cases e:a=b
  · subst e;simp
  · rw [decide_eq_false e]
    by_cases h1:a<0<;>by_cases h2:b<0<;>simp [h1,h2]<;>omega
theorem Sy (D:Nat) (a b:Int):Eu prog (D+4) 59 (.agg (A9 a).toArray) (.agg (A9 b).toArray) (decide (a=b)):=by
  rw [<-Sb]
  exact Eu.struct underlying59 Tryz.stoodInHeld59 (HE.agg (us:=AT a.natAbs) (bs:=AT b.natAbs) (by decide) isAgg57 sizeOf57 O O (L1 D _ _) (HE.one (by decide) isAgg4 O O (Eu.bool underlying4) HE.nil))
theorem RO (a b:Rat):(decide (a.num=b.num)&&(decide (a.den-1=b.den-1)&&true))=decide (a=b):=by
  by_cases e:a=b
  · subst e;simp
  · rw [decide_eq_false e]
    have h1:=a.den_pos
    have h2:=b.den_pos
    simp only [Bool.and_true,Bool.and_eq_false_iff,decide_eq_false_iff_not]
    apply Classical.byContradiction
    intro h
    refine e (Rat.ext ?_ ?_)
    · exact Classical.byContradiction λk=>h (.inl k)
    · exact Classical.byContradiction λk=>h (.inr Z)
theorem I6 (D:Nat) (a b:Rat):Eu prog (D+5) 61 (.agg (AI a).toArray) (.agg (AI b).toArray) (decide (a=b)):=by
  rw [<-RO]
  exact Eu.struct underlying61 Tryz.stoodInHeld61 (HE.agg (us:=A9 a.num) (bs:=A9 b.num) (by decide) isAgg59 sizeOf59 O O (Sy D _ _) (HE.agg (us:=AT (a.den-1)) (bs:=AT (b.den-1)) (by decide) isAgg55 sizeOf55 O O (Ft (D+2) _ _) HE.nil))
instance:DecidableEq Pt:=λa b=>decidable_of_iff (a.x=b.x/\a.y=b.y) ⟨λh=>Pt.ext h.1 h.2,λh=>h▸⟨rfl,rfl⟩⟩
theorem UU (a b:Pt):(decide (a.x=b.x)&&(decide (a.y=b.y)&&true))=decide (a=b):=by
  by_cases e:a=b
  · subst e;simp
  · rw [decide_eq_false e]
    simp only [Bool.and_true,Bool.and_eq_false_iff,decide_eq_false_iff_not]
    apply Classical.byContradiction
    intro h
    refine e (Pt.ext ?_ ?_)
    · exact Classical.byContradiction λk=>h (.inl k)
    · exact Classical.byContradiction λk=>h (.inr k)
theorem Ue (D:Nat) (a b:Pt):Eu prog (D+6) 63 (.agg (Aj a).toArray) (.agg (Aj b).toArray) (decide (a=b)):=by
  rw [<-UU]
  exact Eu.struct underlying63 Tryz.stoodInHeld63 (HE.agg (us:=AI a.x) (bs:=AI b.x) (by decide) isAgg61 sizeOf61 O O (I6 D _ _) (HE.agg (us:=AI a.y) (bs:=AI b.y) (by decide) isAgg61 sizeOf61 O O (I6 D _ _) HE.nil))
section
variable {P:Program}
def PY (P:Program) (D:Nat) (e:TypeId) (c:Nat) (xs ys:List Value) (is:List Nat) (b:Bool):Prop:=∀w,(Go.Op.eqItems D e c xs.toArray ys.toArray is).run P w=.ok b w
theorem PY.nil {D c:Nat} {e:TypeId} {xs ys:List Value}:PY P D e c xs ys [] true:=λw=>rfl
theorem PY.cons {D c i:Nat} {e:TypeId} {is:List Nat} {xs ys us bs:List Value} {r s:Bool} (hg:∀w,(isAgg e).run P w=.ok true w) (hs:∀w,(sizeOf e).run P w=.ok c w)
    (ha:(xs.drop (i*c)).take c=us) (hb:(ys.drop (i*c)).take c=bs) (h:Eu P D e (.agg us.toArray) (.agg bs.toArray) r) (h2:PY P D e c xs ys is s):PY P D e c xs ys (i::is) (r&&s):=λw=>by
  have ex:∀l:List Value,l.toArray.extract (i*c) (i*c+c)=((l.drop (i*c)).take c).toArray:=λl=>by simp [List.extract_eq_take_drop]
  have e1:(part e xs.toArray (i*c)).run P w=.ok (.agg us.toArray) w:=by simp [part,hg,hs,ex,ha]
  have e2:(part e ys.toArray (i*c)).run P w=.ok (.agg bs.toArray) w:=by simp [part,hg,hs,ex,hb]
  simp only [Go.Op.eqItems,Sem.run_bind,e1,e2,Result.andThen_ok,h w]
  cases r
  · simp
  · simp [h2 w]
theorem Eu.array {D n c:Nat} {T e:TypeId} {xs ys:List Value} {b:Bool} (hu:P.underlying T=some (.array n e)) (hi:∃i,P.info? e=some i) (hc:P.cellsOf e=c) (h:PY P D e c xs ys (List.range n) b) :
    Eu P (D+1) T (.agg xs.toArray) (.agg ys.toArray) b:=λw=>by
  obtain ⟨i,hi⟩:=hi
  rw [Go.run_equalIn_array w D xs.toArray ys.toArray hu hi,hc]
  exact h w
end
theorem Mf (D:Nat) {a b:Rat} (h:a=b):Eu prog (D+5) 61 (.agg (AI a).toArray) (.agg (AI b).toArray) true:=by
  have:=I6 D a b;rwa [decide_eq_true h] at this
section
variable {P:Program} {n:Nat} {F:List (Nat×Value)} {w0:BL} {L:List As} {x y:Operand} {d:Option Tmp} {t:TypeId} {p:String} {af:Array Edge} {g:Option (Nat×Bool)}
end
end
section
structure QD where
  n:Int
  d:Nat
structure PD where
  x:QD
  y:QD
def Ty (q:QD):List Value:=[.int .i64 q.n,.int .u32 (q.d:Nat)]
def Vr (p:PD):List Value:=Ty p.x++Ty p.y
def QD.ok (q:QD):Prop := -9223372036854775808<=q.n/\q.n<9223372036854775808/\q.d<4294967296
def PD.ok (p:PD):Prop:=p.x.ok/\p.y.ok
def Lj (q:QD):Rat:=((q.n:Int):Rat)/(((max q.d 1:Nat):Int):Rat)
def D5 (p:PD):Pt:=⟨Lj p.x,Lj p.y⟩
theorem QQ {q:QD} (h:q.ok):Sz (Lj q)<=4:=by
  obtain ⟨h1,h2,h3⟩:=h
  have s1:=K3 h1 h2
  have s2:=K3 (z:=((max q.d 1:Nat):Int)) Z Z
  have hb:(((max q.d 1:Nat):Int):Rat)≠0:=λe=>by
    have:((max q.d 1:Nat):Int)=0:=by exact_mod_cast e
    omega
  have:=JW (a:=((q.n:Int):Rat)) hb
  unfold Lj
  omega
theorem Q5 {p:PD} (h:p.ok):B8 (D5 p)<=4:=Rt (QQ h.1) (QQ h.2)
section
variable {P:Program} {w:World} {r:Reach} {base:Nat}
end
section
variable {P:Program} {w:World} {r:Reach} {base:Nat} {t:TypeId} {v:Value} {ts:List TypeId}
end
end
section
def rowsL {α:Type} (enc:α->List Value) (xs:List α):List Value:=xs.flatMap enc
section
variable {α:Type} {enc:α->List Value} {z:Nat}
theorem Bb (xs ys:List α):rowsL enc (xs++ys)=rowsL enc xs++rowsL enc ys:=by simp [rowsL]
theorem An (h:∀x,(enc x).length=z) (xs:List α):(rowsL enc xs).length=xs.length*z:=by
  induction xs with
  | nil=>simp [rowsL]
  | cons x r ih =>
    have e:rowsL enc (x::r)=enc x++rowsL enc r:=rfl
    rw [e,List.length_append,ih,h,List.length_cons,Nat.add_mul];omega
theorem Ar (h:∀x,(enc x).length=z) (d:α):∀(xs:List α) (j:Nat),j<xs.length->((rowsL enc xs).drop (j*z)).take z=enc (xs.getD j d)
  | x::r,0,_=>by
    have e:rowsL enc (x::r)=enc x++rowsL enc r:=rfl
    rw [e,Nat.zero_mul,List.drop_zero,List.take_append_of_le_length (by rw [h];exact Nat.le_refl _),List.take_of_length_le (by rw [h];exact Nat.le_refl _)];rfl
  | x::r,j+1,hj=>by
    have e:rowsL enc (x::r)=enc x++rowsL enc r:=rfl
    rw [e,show (j+1)*z=(enc x).length+j*z by rw [h,Nat.add_mul];omega,List.drop_append,List.drop_of_length_le Z,Nat.add_sub_cancel_left,List.nil_append,Ar h d r j (by simpa using hj)];rfl
end
structure RX (cs:List Value) (n:Nat) where
  p:Option Addr
  c:Nat
  ok:BB p n c
@[reducible] def RX.val {cs:List Value} {n:Nat} (a:RX cs n):Value:=.slice a.p n a.c
@[reducible] def RX.row {cs:List Value} {n:Nat} (a:RX cs n):As:=Ai a.p cs
instance {cs:List Value} {n:Nat}:Dy (RX cs n):=⟨λa=>.slice a.p n a.c,λa=>[Ai a.p cs],λa y hy=>by rcases List.mem_singleton.1 hy with rfl;rfl⟩
theorem WJ {S:Nat->Prop} {W w:World} {L:List As} (hw:BN ⟨W,none⟩ w L) (i:Nat) {p:Option Addr} {T:TypeId} {z n c:Nat} {cs:List Value} (hi:L[i]?=some (rowW p T z n c cs)) (ho:OwnOk p n c) (hl:cs.length=n*z) {v:Value} (hv:v=.slice p n c):B_ (RX cs n) S W (.returned v) w:=by
  have hb:=hw.newRow hi
  refine ⟨⟨p,c,ho.row⟩,by rw [hv];rfl,hw.out,λy hy=>?_⟩
  rcases List.mem_singleton.1 hy with rfl
  refine ⟨λd e=>?_,λd e=>.inl (hb d e)⟩
  obtain ⟨_,o,ho2,hp⟩:=hw.2.1 _ (List.mem_of_getElem? hi) d e
  exact ⟨o,ho2,C2 ho hl hp⟩
def Co (xs:List Nat):List Value:=xs.map λx=>Value.int .u8 (x:Nat)
theorem P_ {xs:List Nat} {j:Nat} (h:j<xs.length):(Co xs)[j*1]?=some (.int .u8 ((xs.getD j 0:Nat):Int)):=by rw [Nat.mul_one];simp [Co,h]
structure MQ where
  nx:Nat
  ny:Nat
  cs:List Nat
  p:Option Addr
  cap:Nat
  a:Int
  b:Int
  c:Int
  d:Int
  den:Nat
  fst:Nat
  hx:nx<256
  hy:ny<256
  ha:-128<=a/\a<=127
  hb:-128<=b/\b<=127
  hc:-128<=c/\c<=127
  hd:-128<=d/\d<=127
  hden:den<256
  hfst:fst<256
  hcs:∀x∈cs,x<256
  ok:BB p cs.length cap
def EA (m:MQ):List Value:=[.int .u8 m.nx,.int .u8 m.ny,.slice m.p m.cs.length m.cap,.int .i8 m.a,.int .i8 m.b,.int .i8 m.c,.int .i8 m.d,.int .u8 m.den,.int .u8 m.fst]
instance:Dy MQ:=⟨λm=>aG (EA m),λm=>[Ai m.p (Co m.cs)],λa y hy=>by rcases List.mem_singleton.1 hy with rfl;rfl⟩
theorem LS {a b:Nat} (h:a<256):IntKind.u8.wrap ((a:Int).tdiv (b:Int))=((a/b:Nat):Int):=by
  have:a/b<=a:=Nat.div_le_self _ _
  rw [<-Int.ofNat_tdiv]
  generalize a/b=q at *
  exact Kb Z Z
theorem TV {a b:Nat} (h:a+b<256):IntKind.u8.wrap ((a:Int)+(b:Int))=((a+b:Nat):Int):=by rw [Kb Z Z];omega
abbrev P2:=Nat×Nat
def CX (nx way i:Nat):List (P2×P2×P2) :=
  let x:=2*(i%nx);let y:=2*(i/nx)
  if way<3\/(way=7/\i=0) then [((x,y),(x+2,y),(x+2,y+2)),((x,y),(x+2,y+2),(x,y+2))]
  else if way<5 then [((x,y),(x+2,y),(x,y+2)),((x+2,y),(x+2,y+2),(x,y+2))]
  else if way<7 then [((x,y),(x+2,y),(x+1,y+1)),((x+2,y),(x+2,y+2),(x+1,y+1)),((x+2,y+2),(x,y+2),(x+1,y+1)),((x,y+2),(x,y),(x+1,y+1))] else []
def C8 (p q r:P2):Int:=((q.1:Int)-p.1)*((r.2:Int)-p.2)-((q.2:Int)-p.2)*((r.1:Int)-p.1)
def N1 (t:P2×P2×P2):Prop:=0<C8 t.1 t.2.1 t.2.2/\(t.1.1<=6/\t.1.2<=6)/\(t.2.1.1<=6/\t.2.1.2<=6)/\(t.2.2.1<=6/\t.2.2.2<=6)
theorem QP {nx ny way i:Nat} (hx:nx<=3) (hy:ny<=3) (hi:i<nx*ny):∀t∈CX nx way i,N1 t:=by
  have h1:i%nx<=2:=by
    have:nx≠0:=λe=>by subst e;omega
    have:=Nat.mod_lt i (show 0<nx by omega)
    omega
  have h2:i/nx<=2:=by
    have:i/nx<ny:=Nat.div_lt_of_lt_mul (by rwa [Nat.mul_comm] at hi ⊢)
    omega
  intro t ht
  unfold CX at ht
  generalize i%nx=u at *
  generalize i/nx=v at *
  have key:∀t:P2×P2×P2,t∈[((2*u,2*v),(2*u+2,2*v),(2*u+2,2*v+2)),((2*u,2*v),(2*u+2,2*v+2),(2*u,2*v+2)),((2*u,2*v),(2*u+2,2*v),(2*u,2*v+2)),((2*u+2,2*v),(2*u+2,2*v+2),(2*u,2*v+2)),
      ((2*u,2*v),(2*u+2,2*v),(2*u+1,2*v+1)),((2*u+2,2*v),(2*u+2,2*v+2),(2*u+1,2*v+1)),((2*u+2,2*v+2),(2*u,2*v+2),(2*u+1,2*v+1)),((2*u,2*v+2),(2*u,2*v),(2*u+1,2*v+1))]->N1 t:=by
    intro t ht
    simp only [List.mem_cons,List.not_mem_nil,or_false] at ht
    rcases ht with rfl|rfl|rfl|rfl|rfl|rfl|rfl|rfl<;>refine ⟨?_,⟨?_,?_⟩,⟨?_,?_⟩,?_,?_⟩<;>dsimp only [C8]<;>first|omega|grind
  refine key t ?_
  simp only at ht
  split at ht
  · simp only [List.mem_cons,List.not_mem_nil,or_false] at ht ⊢;rcases ht with h|h<;>simp [h]
  · split at ht
    · simp only [List.mem_cons,List.not_mem_nil,or_false] at ht ⊢;rcases ht with h|h<;>simp [h]
    · split at ht
      · simp only [List.mem_cons,List.not_mem_nil,or_false] at ht ⊢;rcases ht with h|h|h|h<;>simp [h]
      · cases ht
theorem OJ (nx way i:Nat):(CX nx way i).length<=4:=by
  unfold CX;simp only;split
  · simp
  · split
    · simp
    · split<;>simp
theorem Lm (nx way:Nat) (h:way<8):CX nx way 0≠[]:=by
  unfold CX;simp only;split
  · simp
  · split
    · simp
    · split
      · simp
      · rename_i h1 h2 h3;simp only [and_true,not_or] at h1;omega
section
variable {nx way i u v:Nat}
theorem TG (hu:u=i%nx) (hv:v=i/nx) (h:way<3\/(way=7/\i=0)):CX nx way i=[((2*u,2*v),(2*u+2,2*v),(2*u+2,2*v+2)),((2*u,2*v),(2*u+2,2*v+2),(2*u,2*v+2))]:=by
  subst hu;subst hv;exact if_pos h
theorem SC (hu:u=i%nx) (hv:v=i/nx) (h0:¬(way<3\/(way=7/\i=0))) (h:way<5):CX nx way i=[((2*u,2*v),(2*u+2,2*v),(2*u,2*v+2)),((2*u+2,2*v),(2*u+2,2*v+2),(2*u,2*v+2))]:=by
  subst hu;subst hv;exact (if_neg h0).trans (if_pos h)
theorem TT (hu:u=i%nx) (hv:v=i/nx) (h0:¬(way<3\/(way=7/\i=0))) (h1:¬way<5) (h:way<7):CX nx way i=[((2*u,2*v),(2*u+2,2*v),(2*u+1,2*v+1)),((2*u+2,2*v),(2*u+2,2*v+2),(2*u+1,2*v+1)),((2*u+2,2*v+2),(2*u,2*v+2),(2*u+1,2*v+1)),((2*u,2*v+2),(2*u,2*v),(2*u+1,2*v+1))]:=by
  subst hu;subst hv;exact (if_neg h0).trans ((if_neg h1).trans (if_pos h))
theorem SE (h0:¬(way<3\/(way=7/\i=0))) (h1:¬way<5) (h:¬way<7):CX nx way i=[]:=(if_neg h0).trans ((if_neg h1).trans (if_neg h))
end
def A7 (p:P2):List Value:=[vN p.1,vN p.2]
theorem Cg (p:P2):(A7 p).length=2:=rfl
def A_ (t:P2×P2×P2):List Value:=A7 t.1++A7 t.2.1++A7 t.2.2
theorem Eo (t:P2×P2×P2):(A_ t).length=6:=rfl
def Av (t:Nat×Nat×Nat):List Value:=[vN t.1,vN t.2.1,vN t.2.2]
theorem BK (t:Nat×Nat×Nat):(Av t).length=3:=rfl
def CH (z:Int×Int):List Value:=[.int .i64 z.1,.int .i64 z.2]
theorem Ew (z:Int×Int):(CH z).length=2:=rfl
def F8 (m:MQ) (i:Nat):Nat:=if 0<m.cs.length then m.cs.getD (i%m.cs.length) 0%8 else 0
theorem OC (m:MQ) (i:Nat):F8 m i<8:=by unfold F8;split<;>omega
def Gw (m:MQ):Nat:=1+m.nx%3
def RD (m:MQ):Nat:=1+m.ny%3
def Dj (m:MQ):Nat->List (P2×P2×P2)
  | 0=>[]
  | i+1=>Dj m i++CX (Gw m) (F8 m i) i
def BF (m:MQ):List (P2×P2×P2):=Dj m (Gw m*RD m)
theorem JI (m:MQ):1<=Gw m/\Gw m<=3:=by unfold Gw;omega
theorem If (m:MQ):1<=RD m/\RD m<=3:=by unfold RD;omega
theorem GS (m:MQ):∀i,(Dj m i).length<=4*i
  | 0=>Nat.le_refl _
  | i+1=>by
    have h1:=GS m i
    have h2:=OJ (Gw m) (F8 m i) i
    show (Dj m i++CX (Gw m) (F8 m i) i).length<=_
    rw [List.length_append];omega
theorem KF (m:MQ):∀i,i<=Gw m*RD m->∀t∈Dj m i,N1 t
  | 0,_,t,ht=>by cases ht
  | i+1,hi,t,ht=>by
    rcases List.mem_append.1 ht with h|h
    · exact KF m i Z t h
    · exact QP (JI m).2 (If m).2 Z t h
theorem KH (m:MQ):∀i,1<=i->Dj m i≠[]
  | 1,_=>by
    show []++CX (Gw m) (F8 m 0) 0≠[]
    rw [List.nil_append];exact Lm _ _ (OC m 0)
  | i+2,_=>λe=>KH m (i+1) Z (List.append_eq_nil_iff.1 e).1
theorem O1 (m:MQ):BF m≠[]:=KH m _ (Nat.mul_pos (JI m).1 (If m).1)
theorem HN (m:MQ):∀t∈BF m,N1 t:=KF m _ (Nat.le_refl _)
theorem Ht (m:MQ):Gw m*RD m<=9:=Nat.mul_le_mul (JI m).2 (If m).2
theorem GR (m:MQ):(BF m).length<=36:=by
  have h1:=GS m (Gw m*RD m)
  have h2:=Ht m
  unfold BF;omega
theorem Ci {a b:Int} {k:Int} (ha:-3<=a/\a<=3) (hb:-k<=b/\b<=k):-(3*k)<=a*b/\a*b<=3*k:=by
  obtain ⟨h3,h4⟩:=ha
  have e:a = -3\/a = -2\/a = -1\/a=0\/a=1\/a=2\/a=3:=by omega
  rcases e with rfl|rfl|rfl|rfl|rfl|rfl|rfl<;>omega
def R0 (k:Int×Int×Int×Int):List Value:=[.int .i64 k.1,.int .i64 k.2.1,.int .i64 k.2.2.1,.int .i64 k.2.2.2]
structure DR where
  a:Int
  b:Int
  c:Int
  d:Int
def DR.det (k:DR):Int:=k.a*k.d-k.b*k.c
structure DR.Ok (k:DR):Prop where
  a:-3<=k.a/\k.a<=3
  b:-3<=k.b/\k.b<=3
  c:-3<=k.c/\k.c<=3
  d:-3<=k.d/\k.d<=3
  pos:0<k.det
def DR.at_ (k:DR) (p:P2):Int×Int:=(k.a*p.1+k.b*p.2,k.c*p.1+k.d*p.2)
def F9 (a b c d:Int):DR :=
  let k:DR:=⟨a.tmod 4,b.tmod 4,c.tmod 4,d.tmod 4⟩
  if k.det=0 then ⟨1,0,0,1⟩ else if k.det<0 then ⟨k.a,k.b,-k.c,-k.d⟩ else k
theorem Hk (a:Int):-3<=a.tmod 4/\a.tmod 4<=3:=by
  have h:=Int.tmod_eq_emod (a:=a) (b:=4)
  have h1:=Int.emod_nonneg a (show (4:Int)≠0 by decide)
  have h2:=Int.emod_lt_of_pos a (show (0:Int)<4 by decide)
  rw [h]
  split<;>omega
theorem LD {a b c d A B C D:Int} (hA:A=a.tmod 4) (hB:B=b.tmod 4) (hC:C=c.tmod 4) (hD:D=d.tmod 4) (h:A*D-B*C=0):F9 a b c d=⟨1,0,0,1⟩:=by
  subst hA;subst hB;subst hC;subst hD;exact if_pos h
theorem LC {a b c d A B C D:Int} (hA:A=a.tmod 4) (hB:B=b.tmod 4) (hC:C=c.tmod 4) (hD:D=d.tmod 4) (h:A*D-B*C<0):F9 a b c d=⟨A,B,-C,-D⟩:=by
  subst hA;subst hB;subst hC;subst hD;exact (if_neg (λe:a.tmod 4*d.tmod 4-b.tmod 4*c.tmod 4=0=>by rw [e] at h;omega)).trans (if_pos h)
theorem LT {a b c d A B C D:Int} (hA:A=a.tmod 4) (hB:B=b.tmod 4) (hC:C=c.tmod 4) (hD:D=d.tmod 4) (h0:¬A*D-B*C=0) (h:¬A*D-B*C<0):F9 a b c d=⟨A,B,C,D⟩:=by
  subst hA;subst hB;subst hC;subst hD;exact (if_neg h0).trans (if_neg h)
theorem G_ (a b c d:Int):(F9 a b c d).Ok:=by
  have ha:=Hk a;have hb:=Hk b;have hc:=Hk c;have hd:=Hk d
  unfold F9
  generalize a.tmod 4=a' at *
  generalize b.tmod 4=b' at *
  generalize c.tmod 4=c' at *
  generalize d.tmod 4=d' at *
  show (if a'*d'-b'*c'=0 then (⟨1,0,0,1⟩:DR) else if a'*d'-b'*c'<0 then ⟨a',b',-c',-d'⟩ else ⟨a',b',c',d'⟩).Ok
  by_cases h0:a'*d'-b'*c'=0
  · rw [if_pos h0];exact ⟨by decide,by decide,by decide,by decide,by decide⟩
  · rw [if_neg h0]
    by_cases h:a'*d'-b'*c'<0
    · rw [if_pos h];exact ⟨ha,hb,by dsimp only;omega,by dsimp only;omega,by show 0<a' * -d'-b' * -c';rw [Int.mul_neg,Int.mul_neg];omega⟩
    · rw [if_neg h];exact ⟨ha,hb,hc,hd,by show 0<a'*d'-b'*c';omega⟩
theorem P9 {k:DR} (h:k.Ok) {p:P2} (hp:p.1<=6/\p.2<=6):(-36<=(k.at_ p).1/\(k.at_ p).1<=36) /\ -36<=(k.at_ p).2/\(k.at_ p).2<=36:=by
  obtain ⟨x,y⟩:=p
  have key:∀(z:Int) (n:Nat),-3<=z/\z<=3->n<=6 -> -18<=z*n/\z*n<=18:=λz n h1 h2=>by
    obtain ⟨h3,h4⟩:=h1
    have e:z = -3\/z = -2\/z = -1\/z=0\/z=1\/z=2\/z=3:=by omega
    rcases e with rfl|rfl|rfl|rfl|rfl|rfl|rfl<;>omega
  have h1:=key k.a x h.a hp.1;have h2:=key k.b y h.b hp.2;have h3:=key k.c x h.c hp.1;have h4:=key k.d y h.d hp.2
  simp only [DR.at_]
  exact ⟨⟨Z,Z⟩,Z,Z⟩
def PZ (k:DR) (den:Nat) (p:P2):PD:=⟨⟨(k.at_ p).1,den⟩,⟨(k.at_ p).2,den⟩⟩
theorem Sr {k:DR} (h:k.Ok) (den:Nat) {p q r:P2} (ht:0<C8 p q r):0<Ag (D5 (PZ k den p)) (D5 (PZ k den q)) (D5 (PZ k den r)):=by
  have hD:0<(((max den 1:Nat):Int):Rat):=by exact_mod_cast (show (0:Int)<((max den 1:Nat):Int) by omega)
  have e:Ag (D5 (PZ k den p)) (D5 (PZ k den q)) (D5 (PZ k den r))=((k.det*C8 p q r:Int):Rat)*((((max den 1:Nat):Int):Rat)⁻¹*(((max den 1:Nat):Int):Rat)⁻¹):=by
    simp only [G3,D5,PZ,Lj,DR.at_,DR.det,C8,Rat.div_def,Rat.intCast_add,Rat.intCast_mul,Rat.intCast_sub]
    generalize (((max den 1:Nat):Int):Rat)⁻¹=D
    grind
  rw [e]
  have h1:0<k.det*C8 p q r:=Int.mul_pos h.pos ht
  have h2:(0:Rat)<((k.det*C8 p q r:Int):Rat):=by exact_mod_cast h1
  have h3:=Rat.inv_pos.2 hD
  exact Rat.mul_pos h2 (Rat.mul_pos h3 h3)
end
theorem N7 {w w':World} (h:EU w.heap.size w w'):∃(q:Nat) (os:Array Obj),w'=Go.Sort.grow (w.drewN q) os:=by
  refine ⟨w'.drawn-w.drawn,w'.heap.extract w.heap.size w'.heap.size,?_⟩
  have h1:=h.os;have h2:=h.tape;have h3:=h.output;have h4:=h.size;have h5:=h.block;have h6:=h.drawn
  have hh:w'.heap=w.heap++w'.heap.extract w.heap.size w'.heap.size:=by
    apply Array.ext_getElem?
    intro i
    rw [Array.getElem?_append]
    split
    · rename_i hi;exact h5 i hi
    · rename_i hi
      rw [Array.getElem?_extract]
      split
      · congr 1;omega
      · rename_i hj;rw [Array.getElem?_eq_none Z]
  obtain ⟨hp,tp,dr,os,out⟩:=w'
  obtain ⟨hp0,tp0,dr0,os0,out0⟩:=w
  simp only at h1 h2 h3 h4 h6 hh
  subst h1;subst h2;subst h3
  show World.mk hp tp dr os out=World.mk (hp0++hp.extract hp0.size hp.size) tp (dr0+(dr-dr0)) os out
  rw [<-hh,show dr0+(dr-dr0)=dr by omega]
theorem Vm {S:Nat->Prop} {W w:World} {L:List As} (hw:BN ⟨W,none⟩ w L) (i:Nat) {p:Option Addr} {T:TypeId} {z n c:Nat} {cs:List Value} (hi:L[i]?=some (rowW p T z n c cs)) (ho:OwnOk p n c) (hl:cs.length=n*z) {v:Value} (hv:v=.slice p n n):B_ (RX cs n) S W (.returned v) w:=by
  have hb:=hw.newRow hi
  refine ⟨⟨p,n,⟨λe=>⟨(ho.nil e).1,(ho.nil e).1⟩,λa e=>by rw [ho.at0 a e],Nat.le_refl _⟩⟩,by rw [hv];rfl,hw.out,λy hy=>?_⟩
  rcases List.mem_singleton.1 hy with rfl
  refine ⟨λd e=>?_,λd e=>.inl (hb d e)⟩
  obtain ⟨_,o,ho2,hp⟩:=hw.2.1 _ (List.mem_of_getElem? hi) d e
  exact ⟨o,ho2,C2 ho hl hp⟩
section
section
variable {P:Program}
theorem PY.one {D c i:Nat} {e:TypeId} {is:List Nat} {xs ys:List Value} {u v:Value} {r s:Bool} (hg:∀w,(isAgg e).run P w=.ok false w)
    (ha:xs[i*c]?=some u) (hb:ys[i*c]?=some v) (h:Eu P D e u v r) (h2:PY P D e c xs ys is s):PY P D e c xs ys (i::is) (r&&s):=λw=>by
  have e1:(part e xs.toArray (i*c)).run P w=.ok u w:=by simp [part,hg,ha]
  have e2:(part e ys.toArray (i*c)).run P w=.ok v w:=by simp [part,hg,hb]
  simp only [Go.Op.eqItems,Sem.run_bind,e1,e2,Result.andThen_ok,h w]
  cases r
  · simp
  · simp [h2 w]
end
theorem Rk:∃i,prog.info? 3=some i:=Option.isSome_iff_exists.1 (by kernel_rfl)
theorem PT:prog.cellsOf 3=1:=by kernel_rfl
theorem Kf (D:Nat) (a b:P2):Eu prog (D+2) 147 (.agg (A7 a).toArray) (.agg (A7 b).toArray) (decide (a=b)):=by
  have h:Eu prog (D+2) 147 (.agg (A7 a).toArray) (.agg (A7 b).toArray) (((a.1:Int) == (b.1:Int))&&(((a.2:Int) == (b.2:Int))&&true)) :=
    Eu.array underlying147 Rk PT (PY.one isAgg3 rfl rfl (Eu.int underlying3) (PY.one isAgg3 rfl rfl (Eu.int underlying3) PY.nil))
  have e:(((a.1:Int) == (b.1:Int))&&(((a.2:Int) == (b.2:Int))&&true))=decide (a=b):=by
    obtain ⟨a1,a2⟩:=a
    obtain ⟨b1,b2⟩:=b
    rw [Bool.eq_iff_iff]
    simp
    constructor<;>(rintro ⟨h1,h2⟩;constructor<;>omega)
  rwa [e] at h
theorem HU (xs:List (P2×P2×P2)) (i r:Nat) (hi:i<xs.length) (hr:r<3) (c:P2×P2×P2) (hc:c=xs.getD i ((0,0),(0,0),(0,0))) (p:P2) (hp:p=if r=0 then c.1 else if r=1 then c.2.1 else c.2.2):((rowsL A_ xs).drop (i*6+r*2)).take 2=A7 p:=by
  have h:=Ar Eo ((0,0),(0,0),(0,0)) xs i hi
  rw [<-hc] at h
  have e:((rowsL A_ xs).drop (i*6+r*2)).take 2=((((rowsL A_ xs).drop (i*6)).take 6).drop (r*2)).take 2:=by
    rw [List.drop_take,List.take_take,List.drop_drop]
    congr 1
    omega
  rw [e,h]
  have h3:r=0\/r=1\/r=2:=by omega
  rcases h3 with rfl|rfl|rfl<;>subst hp<;>rfl
def RA (c:P2×P2×P2) (k:Nat):P2:=if k=0 then c.1 else if k=1 then c.2.1 else c.2.2
def Jk (m:MQ) (t k:Nat):Nat:=(k+m.fst+t*(m.fst/3))%3
def Ao (m:MQ) (t k:Nat):P2:=RA ((BF m).getD t ((0,0),(0,0),(0,0))) (Jk m t k)
structure Hh (m:MQ) (pl:List P2) (n:Nat×Nat×Nat) (t:Nat):Prop where
  a:n.1<pl.length/\pl.getD n.1 (0,0)=Ao m t 0
  b:n.2.1<pl.length/\pl.getD n.2.1 (0,0)=Ao m t 1
  c:n.2.2<pl.length/\pl.getD n.2.2 (0,0)=Ao m t 2
structure Kw (m:MQ) (i:Nat) (pl:List P2) (ts:List (Nat×Nat×Nat)):Prop where
  tl:ts.length=i
  pll:pl.length<=3*i
  at_:∀j,j<i->Hh m pl (ts.getD j (0,0,0)) j
  small:∀p∈pl,p.1<=6/\p.2<=6
  used:∀a,a<pl.length->∃j,j<i/\((ts.getD j (0,0,0)).1=a\/(ts.getD j (0,0,0)).2.1=a\/(ts.getD j (0,0,0)).2.2=a)
def To (pl:List P2):Prop:=∀a b,a<pl.length->b<pl.length->pl.getD a (0,0)=pl.getD b (0,0)->a=b
theorem S5:To []:=λa b h=>absurd h (Nat.not_lt_zero _)
structure WS where
  pl:List P2
  p1:Option Addr
  c1:Nat
  p2:Option Addr
  c2:Nat
structure WS.Ok (s:WS):Prop where
  o1:OwnOk s.p1 s.pl.length s.c1
  o2:OwnOk s.p2 s.pl.length s.c2
  small:∀p∈s.pl,p.1<=6/\p.2<=6
  dst:To s.pl
def mapM (m:MQ):DR:=F9 m.a m.b m.c m.d
def WS.pts (s:WS) (m:MQ):List (Int×Int):=s.pl.map λp=>(mapM m).at_ p
theorem Dg {m:MQ} {t k:Nat} (h:t<(BF m).length):(Ao m t k).1<=6/\(Ao m t k).2<=6:=by
  have h1:=HN m ((BF m).getD t ((0,0),(0,0),(0,0))) (by rw [List.getD,List.getElem?_eq_getElem h];exact List.getElem_mem h)
  unfold Ao RA
  split
  · exact h1.2.1
  · split
    · exact h1.2.2.1
    · exact h1.2.2.2
theorem DC {pl:List P2} {x:P2} {j:Nat} (h:j<pl.length):(pl++[x]).getD j (0,0)=pl.getD j (0,0):=by simp [List.getD,List.getElem?_append_left h]
theorem C0 (pl:List P2) (x:P2):(pl++[x]).getD pl.length (0,0)=x:=by simp [List.getD]
theorem Il {pl:List P2} {x:P2} (h:To pl) (hx:∀j,j<pl.length->pl.getD j (0,0)≠x):To (pl++[x]):=λa b ha hb e=>by
  simp only [List.length_append,List.length_singleton] at ha hb
  rcases Nat.lt_or_ge a pl.length with h1|h1<;>rcases Nat.lt_or_ge b pl.length with h2|h2
  · rw [DC h1,DC h2] at e;exact h a b h1 h2 e
  · obtain rfl:b=pl.length:=by omega
    rw [DC h1,C0] at e;exact absurd e (hx a h1)
  · obtain rfl:a=pl.length:=by omega
    rw [DC h2,C0] at e;exact absurd e.symm (hx b h2)
  · omega
def FB (a b:List P2):Prop:=a.length<=b.length/\∀j,j<a.length->b.getD j (0,0)=a.getD j (0,0)
theorem FB.refl (a:List P2):FB a a:=⟨Nat.le_refl _,λ_ _=>rfl⟩
theorem FB.trans {a b c:List P2} (h:FB a b) (k:FB b c):FB a c:=⟨Nat.le_trans h.1 k.1,λj hj=>(k.2 j (by have:=h.1;omega)).trans (h.2 j hj)⟩
theorem FB.snoc (a:List P2) (x:P2):FB a (a++[x]):=⟨by simp,λj hj=>DC hj⟩
theorem Hh.more {m:MQ} {a b:List P2} {n:Nat×Nat×Nat} {t:Nat} (h:Hh m a n t) (k:FB a b):Hh m b n t :=
  ⟨⟨by have:=h.a.1;have:=k.1;omega,(k.2 _ h.a.1).trans h.a.2⟩,⟨by have:=h.b.1;have:=k.1;omega,(k.2 _ h.b.1).trans h.b.2⟩,⟨by have:=h.c.1;have:=k.1;omega,(k.2 _ h.c.1).trans h.c.2⟩⟩
theorem Ho {ts:List (Nat×Nat×Nat)} {x:Nat×Nat×Nat} {j:Nat} (h:j<ts.length):(ts++[x]).getD j (0,0,0)=ts.getD j (0,0,0):=by simp [List.getD,List.getElem?_append_left h]
theorem Kw.step {m:MQ} {i:Nat} {pl pl':List P2} {ts:List (Nat×Nat×Nat)} {n:Nat×Nat×Nat} (h:Kw m i pl ts) (k:FB pl pl') (hl:pl'.length<=pl.length+3) (hs:∀p∈pl',p.1<=6/\p.2<=6) (hn:Hh m pl' n i) (hu:∀a,a<pl'.length->a<pl.length\/n.1=a\/n.2.1=a\/n.2.2=a):Kw m (i+1) pl' (ts++[n]) :=
  ⟨by rw [List.length_append,h.tl];rfl,by have:=h.pll;omega,λj hj=>by
    rcases Nat.lt_or_ge j i with h1|h1
    · rw [Ho (by rw [h.tl];exact h1)];exact (h.at_ j h1).more k
    · have e:j=i:=by omega
      subst e
      have e2:(ts++[n]).getD j (0,0,0)=n:=by rw [<-h.tl];simp [List.getD]
      rw [e2];exact hn,hs,λa ha=>by
    rcases hu a ha with h1|h1
    · obtain ⟨j,hj,h2⟩:=h.used a h1
      exact ⟨j,Z,by rw [Ho (by rw [h.tl];exact hj)];exact h2⟩
    · have e2:(ts++[n]).getD i (0,0,0)=n:=by rw [<-h.tl];simp [List.getD]
      exact ⟨i,Z,by rw [e2];exact h1⟩⟩
theorem VN (m:MQ):Kw m 0 [] []:=⟨rfl,by simp,λj hj=>absurd hj Z,(λp hp=>by cases hp),λa ha=>absurd ha (Nat.not_lt_zero _)⟩
def FQ (t:Nat×Nat×Nat) (x:Nat):Bool:=decide (t.1=x)||decide (t.2.1=x)||decide (t.2.2=x)
def PW (m:MQ) (a b:Nat):Nat×Nat×Nat:=(a,b,(a+3*b+m.fst)%5)
def GT (ts:List (Nat×Nat×Nat)) (a b:Nat):Nat->Nat
  | 0=>0
  | i+1=>GT ts a b i+(if FQ (ts.getD i (0,0,0)) a=true/\FQ (ts.getD i (0,0,0)) b=true then 1 else 0)
def H4 (m:MQ) (ts:List (Nat×Nat×Nat)) (a:Nat):Nat->List (Nat×Nat×Nat)
  | 0=>[]
  | j+1=>H4 m ts a j++(if GT ts a (a+1+j) ts.length=1 then [PW m a (a+1+j)] else [])
def EQ (m:MQ) (ts:List (Nat×Nat×Nat)) (N:Nat):Nat->List (Nat×Nat×Nat)
  | 0=>[]
  | a+1=>EQ m ts N a++H4 m ts a (N-(a+1))
theorem RI {ts:List (Nat×Nat×Nat)} {a b i:Nat} (h:FQ (ts.getD i (0,0,0)) a=true/\FQ (ts.getD i (0,0,0)) b=true):GT ts a b (i+1)=GT ts a b i+1:=by show _+(if _ then _ else _)=_;rw [if_pos h]
theorem S7 {ts:List (Nat×Nat×Nat)} {a b i:Nat} (h:FQ (ts.getD i (0,0,0)) a=false\/FQ (ts.getD i (0,0,0)) b=false):GT ts a b (i+1)=GT ts a b i:=by
  show _+(if _ then _ else _)=_
  rw [if_neg (λk=>by rcases h with h|h<;>rw [h] at k<;>exact absurd k (by simp)),Nat.add_zero]
theorem Rq {m:MQ} {ts L:List (Nat×Nat×Nat)} {a b:Nat} (hb:a+1<=b) (h:GT ts a b ts.length=1):(L++H4 m ts a (b-(a+1)))++[(a,b,(a+3*b+m.fst)%5)]=L++H4 m ts a (b+1-(a+1)):=by
  rw [show b+1-(a+1)=b-(a+1)+1 by omega]
  show _=L++(_++(if _ then _ else _))
  rw [show a+1+(b-(a+1))=b by omega,if_pos h,List.append_assoc];rfl
theorem ST {m:MQ} {ts L:List (Nat×Nat×Nat)} {a b:Nat} (hb:a+1<=b) (h:¬GT ts a b ts.length=1):L++H4 m ts a (b-(a+1))=L++H4 m ts a (b+1-(a+1)):=by
  rw [show b+1-(a+1)=b-(a+1)+1 by omega]
  show _=L++(_++(if _ then _ else _))
  rw [show a+1+(b-(a+1))=b by omega,if_neg h,List.append_nil]
theorem KB {l:List (Nat×Nat×Nat)} {j:Nat} (h:j<l.length):l.take (j+1)=l.take j++[l.getD j (0,0,0)]:=by
  rw [List.take_add_one,List.getD,List.getElem?_eq_getElem h];rfl
structure WM (m:MQ) where
  pl:List P2
  ts:List (Nat×Nat×Nat)
  ss:List (Nat×Nat×Nat)
  inv:Kw m (BF m).length pl ts
  dst:To pl
  sl:ss.length<=108*108
  sd:ss=EQ m ts pl.length pl.length
  a:RX (rowsL CH (pl.map λp=>(mapM m).at_ p)) pl.length
  b:RX (rowsL Av ts) ts.length
  c:RX (rowsL Av ss) ss.length
def Vw {m:MQ} (x:WM m):List Value:=[x.a.val,x.b.val,x.c.val]
theorem VI {m:MQ} {x:WM m} {y:As} (hy:y∈[x.a.row,x.b.row,x.c.row]):y.ro=true:=by
  simp only [List.mem_cons,List.not_mem_nil,or_false] at hy
  rcases hy with rfl|rfl|rfl<;>rfl
instance {m:MQ}:Dy (WM m):=⟨λx=>aG (Vw x),λx=>[x.a.row,x.b.row,x.c.row],λx y hy=>VI hy⟩
theorem Gk {S:Nat->Prop} {W w:World} {L:List As} (hw:BN ⟨W,none⟩ w L) (i:Nat) {p:Option Addr} {T:TypeId} {z n c:Nat} {cs:List Value} (hi:L[i]?=some (rowW p T z n c cs)) (ho:OwnOk p n c) (hl:cs.length=n*z):Cw w (Ai p cs)/\∀b,(Ai p cs).foot=some b->W.heap.size<=b\/S b:=by
  have hb:=hw.newRow hi
  refine ⟨λd e=>?_,λd e=>.inl (hb d e)⟩
  obtain ⟨_,o,ho2,hp⟩:=hw.2.1 _ (List.mem_of_getElem? hi) d e
  exact ⟨o,ho2,C2 ho hl hp⟩
section
variable {P:Program} {ops:Array Oper} {rest:List Oper} {Q:Exit->Act->World->Prop} {n d:Nat} {F:List (Nat×Value)} {w0:BL} {S:Nat->Prop} {L:List As} {t:TypeId} {p:String} {af:Array Edge} {y:Operand} {f:FuncId} {xs:List Operand} {args:List Value} {ts:Array TypeId}
theorem cX {cs:List Value} {k:Nat} (hc:∀args w,(callFunc f args).run P w=.ok (.enter f args) w) (h:∀w,BN w0 w L->Calls P f args.toArray w (B_ (RX cs k) (SL w0 S L) w))
    (hf:evF F y=some (.func (.func f) #[] #[])) (hargs:xs.map (evF F)=args.map some) (hd:Nat.ble (d+1) n=true) (next:∀a:RX cs k,At w0 S a->AE P ops rest Q n ((d,.slice a.p k a.c)::F) w0 (Ai a.p cs::L)) :
    AE P ops (⟨some d,.call { callee:=.value y,args:=xs.toArray,argTypes:=ts },t,p,af,none⟩::rest) Q n F w0 L:=AE.callR hc h hf hargs hd next
end
def VP (p:Option Addr) (T:TypeId) (z n c:Nat) (cs:List Value):As:=⟨p.map (·.block),(rowW p T z n c cs).P,true⟩
theorem BN.asunder {w0:BL} {w:World} {L:List As} (hw:BN w0 w L) {i j:Nat} {x y:As} (hi:L[i]?=some x) (hj:L[j]?=some y) (hij:i≠j) (hr:x.ro=false):∀b,y.foot=some b->x.foot≠some b:=λb e e2=>by
  obtain ⟨hil,rfl⟩:=List.getElem?_eq_some_iff.1 hi
  obtain ⟨hjl,rfl⟩:=List.getElem?_eq_some_iff.1 hj
  have hp:=List.pairwise_iff_getElem.1 hw.2.2
  rcases Nat.lt_or_gt_of_ne hij with h|h
  · rcases hp i j hil hjl h with k|k
    · rw [hr] at k;cases k.1
    · exact k b e2 e
  · rcases hp j i hjl hil h with k|k
    · rw [hr] at k;cases k.2
    · exact k b e e2
theorem SJ {S:Nat->Prop} {W w:World} {L:List As} {a:As} (hw:BN ⟨W,none⟩ w L) (i:Nat) (hi:L[i]?=some a) (hat:∀b,a.foot=some b->Nw ⟨W,none⟩ S b):Cw w a/\∀b,a.foot=some b->W.heap.size<=b\/S b:=⟨hw.holds hi,hat⟩
theorem B_.weak {α:Type} [Dy α] {S S':Nat->Prop} {W w:World} {e:Ending} (h:B_ α S W e w) (hs:∀b,S b->S' b):B_ α S' W e w:=by
  obtain ⟨a,h1,h2,h3⟩:=h
  exact ⟨a,h1,h2,h3.mono λb h=>h.imp id (hs b)⟩
structure UG (m:MQ) where
  x:WM m
  ob:OwnOk x.b.p x.ts.length x.b.c
def Kh {m:MQ} (y:UG m):As:=VP y.x.b.p 79 3 y.x.ts.length y.x.b.c (rowsL Av y.x.ts)
instance {m:MQ}:Dy (UG m):=⟨λy=>aG (Vw y.x),λy=>[y.x.a.row,y.x.b.row,y.x.c.row,Kh y],λx y hy=>by
  simp only [List.mem_cons,List.not_mem_nil,or_false] at hy
  rcases hy with rfl|rfl|rfl|rfl<;>rfl⟩
theorem U_ {W w:World} {L:List As} {m:MQ} (hw:BN ⟨W,none⟩ w L) (x:WM m) (ob:OwnOk x.b.p x.ts.length x.b.c) (j:Nat) (hj:L[j]?=some (rowW x.b.p 79 3 x.ts.length x.b.c (rowsL Av x.ts))) (h1:Cw w x.a.row/\∀b,x.a.row.foot=some b->W.heap.size<=b\/False) (h2:Cw w x.b.row/\∀b,x.b.row.foot=some b->W.heap.size<=b\/False) (h3:Cw w x.c.row/\∀b,x.c.row.foot=some b->W.heap.size<=b\/False) {v:Value} (hv:v=aG (Vw x)):B_ (UG m) (λ_=>False) W (.returned v) w:=by
  refine ⟨⟨x,ob⟩,by rw [hv];rfl,hw.out,λy hy=>?_⟩
  have hy:y∈[x.a.row,x.b.row,x.c.row,Kh ⟨x,ob⟩]:=hy
  simp only [List.mem_cons,List.not_mem_nil,or_false] at hy
  rcases hy with rfl|rfl|rfl|rfl
  · exact h1
  · exact h2
  · exact h3
  · exact ⟨λb e=>(hw.2.1 _ (List.mem_of_getElem? hj) b e).2,λb e=>.inl (hw.newRow hj b e)⟩
theorem At.wm {m:MQ} {w0:BL} {S:Nat->Prop} {y:UG m} (h:At w0 S y):At w0 S y.x:=λz hz=>h z (by
  have hz:z∈[y.x.a.row,y.x.b.row,y.x.c.row]:=hz
  show z∈[y.x.a.row,y.x.b.row,y.x.c.row,Kh y]
  simp only [List.mem_cons,List.not_mem_nil,or_false] at hz ⊢
  rcases hz with rfl|rfl|rfl<;>simp)
theorem At.wmf {m:MQ} {w0:BL} {S:Nat->Prop} {y:UG m} (h:At w0 S y):∀b,(Kh y).foot=some b->Nw w0 S b:=h (Kh y) (by
  show Kh y∈[y.x.a.row,y.x.b.row,y.x.c.row,Kh y]
  simp)
end
end Go.Proofs.YtfbomiejpbchdaaGreatDoor
