import Derived.ChangeKeysEq
import Derived.Test.YtfbomiejpbchdaaGreatDoorRows
import Derived.Shelf.SlSortCmp.WholeK
import Derived.Test.YtfbomiejpbchdaaGreatDoorPart01
import Derived.Test.YtfbomiejpbchdaaGreatDoorPart06
import Derived.Test.YtfbomiejpbchdaaGreatDoorPart09
import Derived.Test.YtfbomiejpbchdaaGreatDoorPart20
namespace Go.Proofs.YtfbomiejpbchdaaGreatDoor
open Go Go.RowKit Go.Proofs.Tryz
set_option linter.unusedVariables false
set_option linter.unusedSimpArgs false
section
set_option maxRecDepth 100000
theorem S2 (n:Nat) (hn:n<10) (w:World)  :Calls prog 222 #[(vN n)] w (Ak w (Value.string (H0 n))):=by
 refine Ab (args:=[(vN n)]) func222 O O (Ad O) (AF.subF (sL [0] O) (q4 (AJ O (AE.nil (q1 ?_)))))
 refine q4 (AP O (AH (Af (c:=(decide (n<10))) O O (DB (a:=n) (b:=10))) O (AE.nil (AD.subF (sL [0,2,4] O) (AD.then_ ?_)))))
 refine AF.cond O (λhc0=>?_) (λhc0=>?_)
 ·replace hc0:=of_decide_eq_true hc0
  refine q4 (AP O (AP O (AH (AX (c:=((n+1:Nat):Int)) O O (AZ (a:=n) (b:=1) Z)) O (AH (v:=(Value.string (H0 n))) (Io (i:=n) (j:=n+1) O O O underlying9 Z (Nat.le_trans (show n+1<=10 by omega) (by decide)) (WY (by kernel_rfl) hn)) O (AJ O ?_)))))
  exact AE.nil (AD.subF (sL [0,2] O) (AD.then_ (AF.ret (AD.then_ret (AN O (Ac (v:=(Value.string (H0 n))) O) (λw hw=>⟨rfl,hw.out⟩))))))
 ·replace hc0:=of_decide_eq_false hc0
  exfalso;omega
theorem Nv (n:Nat) (hn:n<10) (w:World)  :Calls prog 188 #[(vK .u64 n),(vI 10)] w (Ak w (Value.string (H0 n))):=by
 refine Ab (args:=[(vK .u64 n),(vI 10)]) func188 O O (Ad O) (AF.subF (sL [0,1] O) (q4 (AJ O (AE.nil (q1 ?_)))))
 refine q4 (AP O (AH (BZ (c:=true) O O (by decide)) O (AE.nil (AD.subF (sL [0,1,4,10] O) (AD.then_ ?_)))))
 refine AF.cond_true O (AF.seq (q4 (AP O (AH (Af (c:=(decide (n<100))) O O (DB (a:=n) (b:=100))) O (AE.nil ?_)))))
 refine AD.subF (sL [0,1,4,12] O) (AD.then_ ?_)
 refine AF.cond O (λhc1=>?_) (λhc1=>?_)
 ·replace hc1:=of_decide_eq_true hc1
  refine q4 (AP O (AH (Ap (c:=((n:Nat):Int)) O underlying53 underlying3 (Bv Z)) O (BS call222 (S2 n Z) O (AJ O (AE.nil ?_)))))
  exact AD.subF (sL [0,1,4] O) (AD.then_ (AF.ret (AD.then_ret (AD.then_ret (AN O (Ac (v:=(Value.string (H0 n))) O) (λw hw=>⟨rfl,hw.out⟩))))))
 ·replace hc1:=of_decide_eq_false hc1
  exfalso;omega
theorem QU (n:Nat) (hn:n<10) (w:World)  :Calls prog 147 #[(vK .u64 n),(vI 10)] w (Ak w (Value.string (H0 n))):=by
 refine Ab (args:=[(vK .u64 n),(vI 10)]) func147 O O (Ad O) (AF.subF (sL [0,1] O) (q4 (AJ O (AE.nil (q2 ?_)))))
 refine AP O (AP O (BS call188 (Nv n Z) O (AJ O (AE.nil (AD.subF (sL [4] O) ?_)))))
 exact AD.then_ (AF.ret (AN O (Ac (v:=(Value.string (H0 n))) O) (λw hw=>⟨rfl,hw.out⟩)))
theorem KK (n:Nat) (hn:n<10) (w:World)  :Calls prog 112 #[(aG (AU n))] w (Ak w (Value.string (H0 n))):=by
 refine Ab (args:=[(aG (AU n))]) func112 O O (Ad O) (AF.subF (sL [0] O) (q4 (Bk (cs:=AU n) O λb1=>AJ O (q6 (sL [1,2] O) ?_))))
 refine q4 (AH (v:=(pP b1 1)) (AA O underlying55 O sizeOf9 O) O (BN 0 (Value.string (Bf n)) Qu O (AH (Bh (c:=(decide (n<18446744073709551616))) O O CT) O (AE.nil (AD.subF (sL [1,2,10] O) ?_)))))
 refine AD.then_ ?_
 refine AF.cond O (λhc0=>?_) (λhc0=>?_)
 ·replace hc0:=of_decide_eq_true hc0
  refine q4 (AH (v:=(pP b1 0)) (AA O underlying55 O sizeOf53 O) O (BN 0 (vK .u64 (Bx n)) Fw O (AE.retell (k:=12) (u:=(vK .u64 n)) O (by rw [Be Z]) (BS call147 (QU n Z) O (AJ O ?_)))))
  exact AE.nil (AD.subF (sL [1,2] O) (AD.then_ (AF.ret (AD.then_ret (AN O (Ac (v:=(Value.string (H0 n))) O) (λw hw=>⟨rfl,hw.out⟩))))))
 ·replace hc0:=of_decide_eq_false hc0
  exfalso;omega
theorem M7 (z:Int) (hz:z.natAbs<10) (w:World)  :Calls prog 111 #[(aG (A9 z))] w (Ak w (Value.string (Eb z))):=by
 refine Ab (args:=[(aG (A9 z))]) func111 O O (Ad O) (AF.subF (sL [0] O) (q4 (Bk (cs:=A9 z) O λb1=>AJ O (q6 (sL [1,2] O) ?_))))
 refine q4 (AH (v:=(pP b1 2)) (AA O underlying59 O sizeOf4 O) O (BN 0 (Value.bool (decide (z<0))) Q0 O (AE.nil (AD.subF (sL [1,2,4] O) (AD.then_ ?_)))))
 refine AF.cond O (λhc0=>?_) (λhc0=>?_)
 ·replace hc0:=of_decide_eq_true hc0
  have he:Eb z=⟨#[45]⟩++H0 z.natAbs:=if_pos hc0
  refine q4 (AH (v:=(pP b1 0)) (AA O underlying59 O sizeOf57 O) O (AH (v:=(pP b1 0)) (AA O underlying57 O sizeOf55 O) O (DT 0 (AU z.natAbs) Bz O (BS call112 (KK z.natAbs Z) O (AH (v:=(Value.string (ByteArray.mk #[45]++H0 z.natAbs))) (Ev (r:=(ByteArray.mk #[45]++H0 z.natAbs)) O O (by rw [Ma];decide) O) O ?_)))))
  exact AJ O (AE.nil (AD.subF (sL [1,2] O) (AD.then_ (AF.ret (AD.then_ret (AN O (Ac (v:=(Value.string (ByteArray.mk #[45]++H0 z.natAbs))) O) (λw hw=>⟨by rw [he],hw.out⟩)))))))
 ·replace hc0:=of_decide_eq_false hc0
  have he:Eb z=H0 z.natAbs:=if_neg hc0
  refine AF.skip (q2 (AH (v:=(pP b1 0)) (AA O underlying59 O sizeOf57 O) O (AH (v:=(pP b1 0)) (AA O underlying57 O sizeOf55 O) O (DT 0 (AU z.natAbs) Bz O (BS call112 (KK z.natAbs Z) O ?_)))))
  exact AJ O (AE.nil (AD.subF (sL [1,2] O) (AD.then_ (AF.ret (AN O (Ac (v:=(Value.string (H0 z.natAbs))) O) (λw hw=>⟨by rw [he],hw.out⟩))))))
theorem S9 (q:Rat) (hn:q.num.natAbs<10) (hd:q.den<10) (w:World)  :Calls prog 60 #[(aG (AK q))] w (Ak w (Value.string (PZ q))):=by
 have hs:=OZ q.num
 have hdn:nw q.den<=1099511627776:=Nat.le_trans (Hm Z) Z
 refine Ab (args:=[(aG (AK q))]) func60 O O (Ad O) (AF.subF (sL [0] O) (q4 (Bk (cs:=AK q) O λb1=>AJ O (q6 (sL [1,2] O) ?_))))
 refine q4 (BE 0 Br O (BS call50 (GH q) O (AE.nil (AD.subF (sL [1,2,4] O) (AD.then_ ?_)))))
 refine AF.cond O (λhc0=>?_) (λhc0=>?_)
 ·replace hc0:=of_decide_eq_true hc0
  have he:PZ q=Eb q.num:=if_pos hc0
  refine q4 (AH (v:=(pP b1 0)) (AA O underlying61 O sizeOf59 O) O (DT 0 (A9 q.num) Ct O (BS call111 (M7 q.num Z) O (AJ O (AE.nil ?_)))))
  exact AD.subF (sL [1,2] O) (AD.then_ (AF.ret (AD.then_ret (AN O (Ac (v:=(Value.string (Eb q.num))) O) (λw hw=>⟨by rw [he],hw.out⟩)))))
 ·replace hc0:=of_decide_eq_false hc0
  have he:PZ q=Eb q.num++⟨#[47]⟩++H0 q.den:=if_neg hc0
  refine AF.skip (q1 (DA [(0,true),(1,true),(4,true),(2,false),(3,true),(5,false),(6,false),(7,true),(8,true)] sr (Aw (v:=(pP b1 0)) O (AA O underlying61 O sizeOf59 O) (IM 0 (A9 q.num) Ct O (E7 0 Br O ?_)))))
  refine AS.imp O (BS call111 (M7 q.num Z) O (AS.back sr (Aw (v:=(Value.string (Eb q.num++ByteArray.mk #[47]))) O (Ev (r:=(Eb q.num++ByteArray.mk #[47])) O O (Nat.le_trans (Nat.add_le_add_right hs 1) (by decide)) O) (AS.imp O (BS call54 (F_ q Z) O ?_)))))
  refine AS.back sr (AS.imp O (BS call112 (KK q.den Z) O (AS.back sr (Aw (v:=(Value.string (Eb q.num++ByteArray.mk #[47]++H0 q.den))) O (Ev (r:=(Eb q.num++ByteArray.mk #[47]++H0 q.den)) O O (by rw [ByteArray.size_append,Ma];exact Nat.le_trans (Nat.add_le_add_right (Nat.add_le_add_right hs 1) 1) (by decide)) O) (Ez O ?_)))))
  exact AS.nil (AD.subF (sL [1,2] O) (AD.then_ (AF.ret (AN O (Ac (v:=(Value.string (Eb q.num++ByteArray.mk #[47]++H0 q.den))) O) (λw hw=>⟨by rw [he],hw.out⟩)))))
end
theorem VV (a b:Pt):(a+b).x=a.x+b.x:=rfl
theorem VW (a b:Pt):(a+b).y=a.y+b.y:=rfl
theorem Ol (a:Pt) (k:Rat):(Gt a k).x=a.x*k:=rfl
theorem O5 (a:Pt) (k:Rat):(Gt a k).y=a.y*k:=rfl
theorem B5 (a b c:Pt):AO a b c=(b.x-a.x)*(c.y-a.y)-(b.y-a.y)*(c.x-a.x):=rfl
theorem Oy {q:Rat} (h:q<0):q.num.sign = -1:=by
  have h1:¬0<=q.num:=λe=>by have:=Rat.num_nonneg.1 e;grind
  exact Int.sign_eq_neg_one_of_neg Z
theorem Lm {q:Rat} (h:0<q):q.num.sign=1:=by
  have h1:0<=q.num:=Rat.num_nonneg.2 (by grind)
  have h2:q.num≠0:=λe=>by have:=Rat.num_eq_zero.1 e;grind
  exact Int.sign_eq_one_of_pos Z
theorem Me {q:Rat} (h:q=0):q.num.sign=0:=by subst h;rfl
theorem FE (a b c:Pt):AO b c a=AO a b c:=by simp only [B5];grind
def ng (q:Rat):Nat:=if q.num.sign<0 then 1 else 0
section
theorem U0 (a b:Int):(decide (a.natAbs=b.natAbs)&&((decide (a<0) == decide (b<0))&&true))=decide (a=b):=by
  by_cases e:a=b
  · subst e;simp
  · rw [decide_eq_false e]
    by_cases h1:a<0<;>by_cases h2:b<0<;>simp [h1,h2]<;>omega
theorem U4 (D:Nat) (a b:Int):E3 prog (D+4) 59 (.agg (A9 a).toArray) (.agg (A9 b).toArray) (decide (a=b)):=by
  rw [<-U0]
  exact E3.struct underlying59 Tryz.stoodInHeld59 (Hn.agg (us:=AU a.natAbs) (bs:=AU b.natAbs) (by decide) isAgg57 sizeOf57 O O (M0 D _ _) (Hn.one (by decide) isAgg4 O O (E3.bool underlying4) Hn.nil))
theorem RT (a b:Rat):(decide (a.num=b.num)&&(decide (a.den-1=b.den-1)&&true))=decide (a=b):=by
  by_cases e:a=b
  · subst e;simp
  · rw [decide_eq_false e]
    have h1:=a.den_pos
    have h2:=b.den_pos
    simp only [Bool.and_true,Bool.and_eq_false_iff,decide_eq_false_iff_not]
    apply Classical.byContradiction
    intro h
    refine e (Rat.ext ?_ ?_)
    · exact Classical.byContradiction λk=>h (.inl k)
    · exact Classical.byContradiction λk=>h (.inr Z)
theorem Jy (D:Nat) (a b:Rat):E3 prog (D+5) 61 (.agg (AK a).toArray) (.agg (AK b).toArray) (decide (a=b)):=by
  rw [<-RT]
  exact E3.struct underlying61 Tryz.stoodInHeld61 (Hn.agg (us:=A9 a.num) (bs:=A9 b.num) (by decide) isAgg59 sizeOf59 O O (U4 D _ _) (Hn.agg (us:=AU (a.den-1)) (bs:=AU (b.den-1)) (by decide) isAgg55 sizeOf55 O O (GR (D+2) _ _) Hn.nil))
instance:DecidableEq Pt:=λa b=>decidable_of_iff (a.x=b.x/\a.y=b.y) ⟨λh=>Pt.ext h.1 h.2,λh=>h▸⟨rfl,rfl⟩⟩
theorem V7 (a b:Pt):(decide (a.x=b.x)&&(decide (a.y=b.y)&&true))=decide (a=b):=by
  by_cases e:a=b
  · subst e;simp
  · rw [decide_eq_false e]
    simp only [Bool.and_true,Bool.and_eq_false_iff,decide_eq_false_iff_not]
    apply Classical.byContradiction
    intro h
    refine e (Pt.ext ?_ ?_)
    · exact Classical.byContradiction λk=>h (.inl k)
    · exact Classical.byContradiction λk=>h (.inr k)
theorem Vp (D:Nat) (a b:Pt):E3 prog (D+6) 63 (.agg (Aj a).toArray) (.agg (Aj b).toArray) (decide (a=b)):=by
  rw [<-V7]
  exact E3.struct underlying63 Tryz.stoodInHeld63 (Hn.agg (us:=AK a.x) (bs:=AK b.x) (by decide) isAgg61 sizeOf61 O O (Jy D _ _) (Hn.agg (us:=AK a.y) (bs:=AK b.y) (by decide) isAgg61 sizeOf61 O O (Jy D _ _) Hn.nil))
section
variable {P:Program}
def Qw (P:Program) (D:Nat) (e:TypeId) (c:Nat) (xs ys:List Value) (is:List Nat) (b:Bool):Prop:=∀w,(Go.Op.eqItems D e c xs.toArray ys.toArray is).run P w=.ok b w
theorem Qw.nil {D c:Nat} {e:TypeId} {xs ys:List Value}:Qw P D e c xs ys [] true:=λw=>rfl
theorem Qw.cons {D c i:Nat} {e:TypeId} {is:List Nat} {xs ys us bs:List Value} {r s:Bool} (hg:∀w,(isAgg e).run P w=.ok true w) (hs:∀w,(sizeOf e).run P w=.ok c w)
    (ha:(xs.drop (i*c)).take c=us) (hb:(ys.drop (i*c)).take c=bs) (h:E3 P D e (.agg us.toArray) (.agg bs.toArray) r) (h2:Qw P D e c xs ys is s):Qw P D e c xs ys (i::is) (r&&s):=λw=>by
  have ex:∀l:List Value,l.toArray.extract (i*c) (i*c+c)=((l.drop (i*c)).take c).toArray:=λl=>by simp [List.extract_eq_take_drop]
  have e1:(part e xs.toArray (i*c)).run P w=.ok (.agg us.toArray) w:=by simp [part,hg,hs,ex,ha]
  have e2:(part e ys.toArray (i*c)).run P w=.ok (.agg bs.toArray) w:=by simp [part,hg,hs,ex,hb]
  simp only [Go.Op.eqItems,Sem.run_bind,e1,e2,Result.andThen_ok,h w]
  cases r
  · simp
  · simp [h2 w]
theorem E3.array {D n c:Nat} {T e:TypeId} {xs ys:List Value} {b:Bool} (hu:P.underlying T=some (.array n e)) (hi:∃i,P.info? e=some i) (hc:P.cellsOf e=c) (h:Qw P D e c xs ys (List.range n) b) :
    E3 P (D+1) T (.agg xs.toArray) (.agg ys.toArray) b:=λw=>by
  obtain ⟨i,hi⟩:=hi
  rw [Go.run_equalIn_array w D xs.toArray ys.toArray hu hi,hc]
  exact h w
end
theorem OB (D:Nat) {a b:Rat} (h:a=b):E3 prog (D+5) 61 (.agg (AK a).toArray) (.agg (AK b).toArray) true:=by
  have:=Jy D a b;rwa [decide_eq_true h] at this
section
variable {P:Program} {n:Nat} {F:List (Nat×Value)} {w0:BK} {L:List As} {x y:Operand} {d:Option Tmp} {t:TypeId} {p:String} {af:Array Edge} {g:Option (Nat×Bool)}
theorem Lj {xs ys:List Value} {tx ty:TypeId} (hx:evF F x=some (.agg xs.toArray)) (hy:evF F y=some (.agg ys.toArray)) (hg:P.eqGuardType P.depth tx=false) (hc:E3 P 10000 tx (.agg xs.toArray) (.agg ys.toArray) true) :
    Ex P n F w0 L ⟨d,.binOp .neq tx x y ty,t,p,af,g⟩ (.bool false):=Oe hx hy hg hc
end
end
section
structure QD where
  n:Int
  d:Nat
structure PD where
  x:QD
  y:QD
def WX (q:QD):List Value:=[.int .i64 q.n,.int .u32 (q.d:Nat)]
def Xt (p:PD):List Value:=WX p.x++WX p.y
def QD.ok (q:QD):Prop := -9223372036854775808<=q.n/\q.n<9223372036854775808/\q.d<4294967296
def PD.ok (p:PD):Prop:=p.x.ok/\p.y.ok
def MV (q:QD):Rat:=((q.n:Int):Rat)/(((max q.d 1:Nat):Int):Rat)
def CE (p:PD):Pt:=⟨MV p.x,MV p.y⟩
theorem Sa {q:QD} (h:q.ok):Sz (MV q)<=4:=by
  obtain ⟨h1,h2,h3⟩:=h
  have s1:=Lw h1 h2
  have s2:=Lw (z:=((max q.d 1:Nat):Int)) Z Z
  have hb:(((max q.d 1:Nat):Int):Rat)≠0:=λe=>by
    have:((max q.d 1:Nat):Int)=0:=by exact_mod_cast e
    omega
  have:=JQ (a:=((q.n:Int):Rat)) hb
  unfold MV
  omega
theorem RZ {p:PD} (h:p.ok):CG (CE p)<=4:=RB (Sa h.1) (Sa h.2)
section
variable {P:Program} {w:World} {r:Reach} {base:Nat}
end
section
variable {P:Program} {w:World} {r:Reach} {base:Nat} {t:TypeId} {v:Value} {ts:List TypeId}
end
end
section
def rowsL {α:Type} (enc:α->List Value) (xs:List α):List Value:=xs.flatMap enc
section
variable {α:Type} {enc:α->List Value} {z:Nat}
theorem BT (xs ys:List α):rowsL enc (xs++ys)=rowsL enc xs++rowsL enc ys:=by simp [rowsL]
theorem Ag (h:∀x,(enc x).length=z) (xs:List α):(rowsL enc xs).length=xs.length*z:=by
  induction xs with
  | nil=>simp [rowsL]
  | cons x r ih =>
    have e:rowsL enc (x::r)=enc x++rowsL enc r:=rfl
    rw [e,List.length_append,ih,h,List.length_cons,Nat.add_mul];omega
theorem Ar (h:∀x,(enc x).length=z) (d:α):∀(xs:List α) (j:Nat),j<xs.length->((rowsL enc xs).drop (j*z)).take z=enc (xs.getD j d)
  | x::r,0,_=>by
    have e:rowsL enc (x::r)=enc x++rowsL enc r:=rfl
    rw [e,Nat.zero_mul,List.drop_zero,List.take_append_of_le_length (by rw [h];exact Nat.le_refl _),List.take_of_length_le (by rw [h];exact Nat.le_refl _)];rfl
  | x::r,j+1,hj=>by
    have e:rowsL enc (x::r)=enc x++rowsL enc r:=rfl
    rw [e,show (j+1)*z=(enc x).length+j*z by rw [h,Nat.add_mul];omega,List.drop_append,List.drop_of_length_le Z,Nat.add_sub_cancel_left,List.nil_append,Ar h d r j (by simpa using hj)];rfl
end
structure RX (cs:List Value) (n:Nat) where
  p:Option Addr
  c:Nat
  ok:BL p n c
@[reducible] def RX.val {cs:List Value} {n:Nat} (a:RX cs n):Value:=.slice a.p n a.c
@[reducible] def RX.row {cs:List Value} {n:Nat} (a:RX cs n):As:=Ah a.p cs
instance {cs:List Value} {n:Nat}:D8 (RX cs n):=⟨λa=>.slice a.p n a.c,λa=>[Ah a.p cs],λa y hy=>by rcases List.mem_singleton.1 hy with rfl;rfl⟩
theorem X_ {S:Nat->Prop} {W w:World} {L:List As} (hw:BO ⟨W,none⟩ w L) (i:Nat) {p:Option Addr} {T:TypeId} {z n c:Nat} {cs:List Value} (hi:L[i]?=some (rowW p T z n c cs)) (ho:OwnOk p n c) (hl:cs.length=n*z) {v:Value} (hv:v=.slice p n c):CF (RX cs n) S W (.returned v) w:=by
  have hb:=hw.newRow hi
  refine ⟨⟨p,c,ho.row⟩,by rw [hv];rfl,hw.out,λy hy=>?_⟩
  rcases List.mem_singleton.1 hy with rfl
  refine ⟨λd e=>?_,λd e=>.inl (hb d e)⟩
  obtain ⟨_,o,ho2,hp⟩:=hw.2.1 _ (List.mem_of_getElem? hi) d e
  exact ⟨o,ho2,C7 ho hl hp⟩
def Cl (xs:List Nat):List Value:=xs.map λx=>Value.int .u8 (x:Nat)
theorem Ss {xs:List Nat} {j:Nat} (h:j<xs.length):(Cl xs)[j*1]?=some (.int .u8 ((xs.getD j 0:Nat):Int)):=by rw [Nat.mul_one];simp [Cl,h]
structure MQ where
  nx:Nat
  ny:Nat
  cs:List Nat
  p:Option Addr
  cap:Nat
  a:Int
  b:Int
  c:Int
  d:Int
  den:Nat
  fst:Nat
  hx:nx<256
  hy:ny<256
  ha:-128<=a/\a<=127
  hb:-128<=b/\b<=127
  hc:-128<=c/\c<=127
  hd:-128<=d/\d<=127
  hden:den<256
  hfst:fst<256
  hcs:∀x∈cs,x<256
  ok:BL p cs.length cap
def EE (m:MQ):List Value:=[.int .u8 m.nx,.int .u8 m.ny,.slice m.p m.cs.length m.cap,.int .i8 m.a,.int .i8 m.b,.int .i8 m.c,.int .i8 m.d,.int .u8 m.den,.int .u8 m.fst]
instance:D8 MQ:=⟨λm=>aG (EE m),λm=>[Ah m.p (Cl m.cs)],λa y hy=>by rcases List.mem_singleton.1 hy with rfl;rfl⟩
theorem Lg {a b:Nat} (h:a<256):IntKind.u8.wrap ((a:Int).tdiv (b:Int))=((a/b:Nat):Int):=by
  have:a/b<=a:=Nat.div_le_self _ _
  rw [<-Int.ofNat_tdiv]
  generalize a/b=q at *
  exact Lr Z Z
theorem UX {a b:Nat} (h:a+b<256):IntKind.u8.wrap ((a:Int)+(b:Int))=((a+b:Nat):Int):=by rw [Lr Z Z];omega
abbrev P2:=Nat×Nat
def CY (nx way i:Nat):List (P2×P2×P2) :=
  let x:=2*(i%nx);let y:=2*(i/nx)
  if way<3\/(way=7/\i=0) then [((x,y),(x+2,y),(x+2,y+2)),((x,y),(x+2,y+2),(x,y+2))]
  else if way<5 then [((x,y),(x+2,y),(x,y+2)),((x+2,y),(x+2,y+2),(x,y+2))]
  else if way<7 then [((x,y),(x+2,y),(x+1,y+1)),((x+2,y),(x+2,y+2),(x+1,y+1)),((x+2,y+2),(x,y+2),(x+1,y+1)),((x,y+2),(x,y),(x+1,y+1))] else []
def Bl (p q r:P2):Int:=((q.1:Int)-p.1)*((r.2:Int)-p.2)-((q.2:Int)-p.2)*((r.1:Int)-p.1)
def PA (t:P2×P2×P2):Prop:=0<Bl t.1 t.2.1 t.2.2/\(t.1.1<=6/\t.1.2<=6)/\(t.2.1.1<=6/\t.2.1.2<=6)/\(t.2.2.1<=6/\t.2.2.2<=6)
theorem R3 {nx ny way i:Nat} (hx:nx<=3) (hy:ny<=3) (hi:i<nx*ny):∀t∈CY nx way i,PA t:=by
  have h1:i%nx<=2:=by
    have:nx≠0:=λe=>by subst e;omega
    have:=Nat.mod_lt i (show 0<nx by omega)
    omega
  have h2:i/nx<=2:=by
    have:i/nx<ny:=Nat.div_lt_of_lt_mul (by rwa [Nat.mul_comm] at hi ⊢)
    omega
  intro t ht
  unfold CY at ht
  generalize i%nx=u at *
  generalize i/nx=v at *
  have key:∀t:P2×P2×P2,t∈[((2*u,2*v),(2*u+2,2*v),(2*u+2,2*v+2)),((2*u,2*v),(2*u+2,2*v+2),(2*u,2*v+2)),((2*u,2*v),(2*u+2,2*v),(2*u,2*v+2)),((2*u+2,2*v),(2*u+2,2*v+2),(2*u,2*v+2)),
      ((2*u,2*v),(2*u+2,2*v),(2*u+1,2*v+1)),((2*u+2,2*v),(2*u+2,2*v+2),(2*u+1,2*v+1)),((2*u+2,2*v+2),(2*u,2*v+2),(2*u+1,2*v+1)),((2*u,2*v+2),(2*u,2*v),(2*u+1,2*v+1))]->PA t:=by
    intro t ht
    simp only [List.mem_cons,List.not_mem_nil,or_false] at ht
    rcases ht with rfl|rfl|rfl|rfl|rfl|rfl|rfl|rfl<;>refine ⟨?_,⟨?_,?_⟩,⟨?_,?_⟩,?_,?_⟩<;>dsimp only [Bl]<;>first|omega|grind
  refine key t ?_
  simp only at ht
  split at ht
  · simp only [List.mem_cons,List.not_mem_nil,or_false] at ht ⊢;rcases ht with h|h<;>simp [h]
  · split at ht
    · simp only [List.mem_cons,List.not_mem_nil,or_false] at ht ⊢;rcases ht with h|h<;>simp [h]
    · split at ht
      · simp only [List.mem_cons,List.not_mem_nil,or_false] at ht ⊢;rcases ht with h|h|h|h<;>simp [h]
      · cases ht
theorem P8 (nx way i:Nat):(CY nx way i).length<=4:=by
  unfold CY;simp only;split
  · simp
  · split
    · simp
    · split<;>simp
theorem NQ (nx way:Nat) (h:way<8):CY nx way 0≠[]:=by
  unfold CY;simp only;split
  · simp
  · split
    · simp
    · split
      · simp
      · rename_i h1 h2 h3;simp only [and_true,not_or] at h1;omega
section
variable {nx way i u v:Nat}
theorem T_ (hu:u=i%nx) (hv:v=i/nx) (h:way<3\/(way=7/\i=0)):CY nx way i=[((2*u,2*v),(2*u+2,2*v),(2*u+2,2*v+2)),((2*u,2*v),(2*u+2,2*v+2),(2*u,2*v+2))]:=by
  subst hu;subst hv;exact if_pos h
theorem VJ (hu:u=i%nx) (hv:v=i/nx) (h0:¬(way<3\/(way=7/\i=0))) (h:way<5):CY nx way i=[((2*u,2*v),(2*u+2,2*v),(2*u,2*v+2)),((2*u+2,2*v),(2*u+2,2*v+2),(2*u,2*v+2))]:=by
  subst hu;subst hv;exact (if_neg h0).trans (if_pos h)
theorem UI (hu:u=i%nx) (hv:v=i/nx) (h0:¬(way<3\/(way=7/\i=0))) (h1:¬way<5) (h:way<7):CY nx way i=[((2*u,2*v),(2*u+2,2*v),(2*u+1,2*v+1)),((2*u+2,2*v),(2*u+2,2*v+2),(2*u+1,2*v+1)),((2*u+2,2*v+2),(2*u,2*v+2),(2*u+1,2*v+1)),((2*u,2*v+2),(2*u,2*v),(2*u+1,2*v+1))]:=by
  subst hu;subst hv;exact (if_neg h0).trans ((if_neg h1).trans (if_pos h))
theorem VG (h0:¬(way<3\/(way=7/\i=0))) (h1:¬way<5) (h:¬way<7):CY nx way i=[]:=(if_neg h0).trans ((if_neg h1).trans (if_neg h))
end
def A8 (p:P2):List Value:=[vN p.1,vN p.2]
theorem Ce (p:P2):(A8 p).length=2:=rfl
def A_ (t:P2×P2×P2):List Value:=A8 t.1++A8 t.2.1++A8 t.2.2
theorem FB (t:P2×P2×P2):(A_ t).length=6:=rfl
def Am (t:Nat×Nat×Nat):List Value:=[vN t.1,vN t.2.1,vN t.2.2]
theorem BC (t:Nat×Nat×Nat):(Am t).length=3:=rfl
def CK (z:Int×Int):List Value:=[.int .i64 z.1,.int .i64 z.2]
theorem E_ (z:Int×Int):(CK z).length=2:=rfl
def Fm (m:MQ) (i:Nat):Nat:=if 0<m.cs.length then m.cs.getD (i%m.cs.length) 0%8 else 0
theorem O4 (m:MQ) (i:Nat):Fm m i<8:=by unfold Fm;split<;>omega
def FN (m:MQ):Nat:=1+m.nx%3
def P_ (m:MQ):Nat:=1+m.ny%3
def Dk (m:MQ):Nat->List (P2×P2×P2)
  | 0=>[]
  | i+1=>Dk m i++CY (FN m) (Fm m i) i
def Az (m:MQ):List (P2×P2×P2):=Dk m (FN m*P_ m)
theorem Hy (m:MQ):1<=FN m/\FN m<=3:=by unfold FN;omega
theorem H5 (m:MQ):1<=P_ m/\P_ m<=3:=by unfold P_;omega
theorem G9 (m:MQ):∀i,(Dk m i).length<=4*i
  | 0=>Nat.le_refl _
  | i+1=>by
    have h1:=G9 m i
    have h2:=P8 (FN m) (Fm m i) i
    show (Dk m i++CY (FN m) (Fm m i) i).length<=_
    rw [List.length_append];omega
theorem Kl (m:MQ):∀i,i<=FN m*P_ m->∀t∈Dk m i,PA t
  | 0,_,t,ht=>by cases ht
  | i+1,hi,t,ht=>by
    rcases List.mem_append.1 ht with h|h
    · exact Kl m i Z t h
    · exact R3 (Hy m).2 (H5 m).2 Z t h
theorem LN (m:MQ):∀i,1<=i->Dk m i≠[]
  | 1,_=>by
    show []++CY (FN m) (Fm m 0) 0≠[]
    rw [List.nil_append];exact NQ _ _ (O4 m 0)
  | i+2,_=>λe=>LN m (i+1) Z (List.append_eq_nil_iff.1 e).1
theorem Qq (m:MQ):Az m≠[]:=LN m _ (Nat.mul_pos (Hy m).1 (H5 m).1)
theorem GY (m:MQ):∀t∈Az m,PA t:=Kl m _ (Nat.le_refl _)
theorem IV (m:MQ):FN m*P_ m<=9:=Nat.mul_le_mul (Hy m).2 (H5 m).2
theorem HE (m:MQ):(Az m).length<=36:=by
  have h1:=G9 m (FN m*P_ m)
  have h2:=IV m
  unfold Az;omega
theorem Ck {a b:Int} {k:Int} (ha:-3<=a/\a<=3) (hb:-k<=b/\b<=k):-(3*k)<=a*b/\a*b<=3*k:=by
  obtain ⟨h3,h4⟩:=ha
  have e:a = -3\/a = -2\/a = -1\/a=0\/a=1\/a=2\/a=3:=by omega
  rcases e with rfl|rfl|rfl|rfl|rfl|rfl|rfl<;>omega
def Tj (k:Int×Int×Int×Int):List Value:=[.int .i64 k.1,.int .i64 k.2.1,.int .i64 k.2.2.1,.int .i64 k.2.2.2]
structure Cr where
  a:Int
  b:Int
  c:Int
  d:Int
def Cr.det (k:Cr):Int:=k.a*k.d-k.b*k.c
structure Cr.Ok (k:Cr):Prop where
  a:-3<=k.a/\k.a<=3
  b:-3<=k.b/\k.b<=3
  c:-3<=k.c/\k.c<=3
  d:-3<=k.d/\k.d<=3
  pos:0<k.det
def Cr.at_ (k:Cr) (p:P2):Int×Int:=(k.a*p.1+k.b*p.2,k.c*p.1+k.d*p.2)
def Fp (a b c d:Int):Cr :=
  let k:Cr:=⟨a.tmod 4,b.tmod 4,c.tmod 4,d.tmod 4⟩
  if k.det=0 then ⟨1,0,0,1⟩ else if k.det<0 then ⟨k.a,k.b,-k.c,-k.d⟩ else k
theorem Ib (a:Int):-3<=a.tmod 4/\a.tmod 4<=3:=by
  have h:=Int.tmod_eq_emod (a:=a) (b:=4)
  have h1:=Int.emod_nonneg a (show (4:Int)≠0 by decide)
  have h2:=Int.emod_lt_of_pos a (show (0:Int)<4 by decide)
  rw [h]
  split<;>omega
theorem MU {a b c d A B C D:Int} (hA:A=a.tmod 4) (hB:B=b.tmod 4) (hC:C=c.tmod 4) (hD:D=d.tmod 4) (h:A*D-B*C=0):Fp a b c d=⟨1,0,0,1⟩:=by
  subst hA;subst hB;subst hC;subst hD;exact if_pos h
theorem MC {a b c d A B C D:Int} (hA:A=a.tmod 4) (hB:B=b.tmod 4) (hC:C=c.tmod 4) (hD:D=d.tmod 4) (h:A*D-B*C<0):Fp a b c d=⟨A,B,-C,-D⟩:=by
  subst hA;subst hB;subst hC;subst hD;exact (if_neg (λe:a.tmod 4*d.tmod 4-b.tmod 4*c.tmod 4=0=>by rw [e] at h;omega)).trans (if_pos h)
theorem MK {a b c d A B C D:Int} (hA:A=a.tmod 4) (hB:B=b.tmod 4) (hC:C=c.tmod 4) (hD:D=d.tmod 4) (h0:¬A*D-B*C=0) (h:¬A*D-B*C<0):Fp a b c d=⟨A,B,C,D⟩:=by
  subst hA;subst hB;subst hC;subst hD;exact (if_neg h0).trans (if_neg h)
theorem El (a b c d:Int):(Fp a b c d).Ok:=by
  have ha:=Ib a;have hb:=Ib b;have hc:=Ib c;have hd:=Ib d
  unfold Fp
  generalize a.tmod 4=a' at *
  generalize b.tmod 4=b' at *
  generalize c.tmod 4=c' at *
  generalize d.tmod 4=d' at *
  show (if a'*d'-b'*c'=0 then (⟨1,0,0,1⟩:Cr) else if a'*d'-b'*c'<0 then ⟨a',b',-c',-d'⟩ else ⟨a',b',c',d'⟩).Ok
  by_cases h0:a'*d'-b'*c'=0
  · rw [if_pos h0];exact ⟨by decide,by decide,by decide,by decide,by decide⟩
  · rw [if_neg h0]
    by_cases h:a'*d'-b'*c'<0
    · rw [if_pos h];exact ⟨ha,hb,by dsimp only;omega,by dsimp only;omega,by show 0<a' * -d'-b' * -c';rw [Int.mul_neg,Int.mul_neg];omega⟩
    · rw [if_neg h];exact ⟨ha,hb,hc,hd,by show 0<a'*d'-b'*c';omega⟩
theorem TA {k:Cr} (h:k.Ok) {p:P2} (hp:p.1<=6/\p.2<=6):(-36<=(k.at_ p).1/\(k.at_ p).1<=36) /\ -36<=(k.at_ p).2/\(k.at_ p).2<=36:=by
  obtain ⟨x,y⟩:=p
  have key:∀(z:Int) (n:Nat),-3<=z/\z<=3->n<=6 -> -18<=z*n/\z*n<=18:=λz n h1 h2=>by
    obtain ⟨h3,h4⟩:=h1
    have e:z = -3\/z = -2\/z = -1\/z=0\/z=1\/z=2\/z=3:=by omega
    rcases e with rfl|rfl|rfl|rfl|rfl|rfl|rfl<;>omega
  have h1:=key k.a x h.a hp.1;have h2:=key k.b y h.b hp.2;have h3:=key k.c x h.c hp.1;have h4:=key k.d y h.d hp.2
  simp only [Cr.at_]
  exact ⟨⟨Z,Z⟩,Z,Z⟩
def Fq (k:Cr) (den:Nat) (p:P2):PD:=⟨⟨(k.at_ p).1,den⟩,⟨(k.at_ p).2,den⟩⟩
theorem Us {k:Cr} (h:k.Ok) (den:Nat) {p q r:P2} (ht:0<Bl p q r):0<AO (CE (Fq k den p)) (CE (Fq k den q)) (CE (Fq k den r)):=by
  have hD:0<(((max den 1:Nat):Int):Rat):=by exact_mod_cast (show (0:Int)<((max den 1:Nat):Int) by omega)
  have e:AO (CE (Fq k den p)) (CE (Fq k den q)) (CE (Fq k den r))=((k.det*Bl p q r:Int):Rat)*((((max den 1:Nat):Int):Rat)⁻¹*(((max den 1:Nat):Int):Rat)⁻¹):=by
    simp only [B5,CE,Fq,MV,Cr.at_,Cr.det,Bl,Rat.div_def,Rat.intCast_add,Rat.intCast_mul,Rat.intCast_sub]
    generalize (((max den 1:Nat):Int):Rat)⁻¹=D
    grind
  rw [e]
  have h1:0<k.det*Bl p q r:=Int.mul_pos h.pos ht
  have h2:(0:Rat)<((k.det*Bl p q r:Int):Rat):=by exact_mod_cast h1
  have h3:=Rat.inv_pos.2 hD
  exact Rat.mul_pos h2 (Rat.mul_pos h3 h3)
end
theorem Ou {w w':World} (h:Eh w.heap.size w w'):∃(q:Nat) (os:Array Obj),w'=Go.Sort.grow (w.drewN q) os:=by
  refine ⟨w'.drawn-w.drawn,w'.heap.extract w.heap.size w'.heap.size,?_⟩
  have h1:=h.os;have h2:=h.tape;have h3:=h.output;have h4:=h.size;have h5:=h.block;have h6:=h.drawn
  have hh:w'.heap=w.heap++w'.heap.extract w.heap.size w'.heap.size:=by
    apply Array.ext_getElem?
    intro i
    rw [Array.getElem?_append]
    split
    · rename_i hi;exact h5 i hi
    · rename_i hi
      rw [Array.getElem?_extract]
      split
      · congr 1;omega
      · rename_i hj;rw [Array.getElem?_eq_none Z]
  obtain ⟨hp,tp,dr,os,out⟩:=w'
  obtain ⟨hp0,tp0,dr0,os0,out0⟩:=w
  simp only at h1 h2 h3 h4 h6 hh
  subst h1;subst h2;subst h3
  show World.mk hp tp dr os out=World.mk (hp0++hp.extract hp0.size hp.size) tp (dr0+(dr-dr0)) os out
  rw [<-hh,show dr0+(dr-dr0)=dr by omega]
theorem YA {S:Nat->Prop} {W w:World} {L:List As} (hw:BO ⟨W,none⟩ w L) (i:Nat) {p:Option Addr} {T:TypeId} {z n c:Nat} {cs:List Value} (hi:L[i]?=some (rowW p T z n c cs)) (ho:OwnOk p n c) (hl:cs.length=n*z) {v:Value} (hv:v=.slice p n n):CF (RX cs n) S W (.returned v) w:=by
  have hb:=hw.newRow hi
  refine ⟨⟨p,n,⟨λe=>⟨(ho.nil e).1,(ho.nil e).1⟩,λa e=>by rw [ho.at0 a e],Nat.le_refl _⟩⟩,by rw [hv];rfl,hw.out,λy hy=>?_⟩
  rcases List.mem_singleton.1 hy with rfl
  refine ⟨λd e=>?_,λd e=>.inl (hb d e)⟩
  obtain ⟨_,o,ho2,hp⟩:=hw.2.1 _ (List.mem_of_getElem? hi) d e
  exact ⟨o,ho2,C7 ho hl hp⟩
end Go.Proofs.YtfbomiejpbchdaaGreatDoor
