import Derived.ChangeKeysEq
import Derived.Test.YtfbomiejpbchdaaGreatDoorRows
import Derived.Shelf.SlSortCmp.WholeK
import Derived.Test.YtfbomiejpbchdaaGreatDoorPart01
import Derived.Test.YtfbomiejpbchdaaGreatDoorPart06
import Derived.Test.YtfbomiejpbchdaaGreatDoorPart09
import Derived.Test.YtfbomiejpbchdaaGreatDoorPart20
namespace Go.Proofs.YtfbomiejpbchdaaGreatDoor
open Go Go.RowKit Go.Proofs.Tryz
set_option linter.unusedVariables false
set_option linter.unusedSimpArgs false
section
set_option maxRecDepth 100000
theorem Qn (n:Nat) (hn:n<10) (w:World)  :Calls prog 222 #[(vN n)] w (Al w (Value.string (HM n))):=by
 refine Ac (args:=[(vN n)]) func222 O O (Ad O) (AF.subF (sL [0] O) (q4 (AK O (AE.nil (q1 ?_)))))
 refine q4 (AO O (AH (Af (c:=(decide (n<10))) O O (C1 (a:=n) (b:=10))) O (AE.nil (AC.subF (sL [0,2,4] O) (AC.then_ ?_)))))
 refine AF.cond O (λhc0=>?_) (λhc0=>?_)
 ·replace hc0:=of_decide_eq_true hc0
  refine q4 (AO O (AO O (AH (AW (c:=((n+1:Nat):Int)) O O (AZ (a:=n) (b:=1) Z)) O (AH (v:=(Value.string (HM n))) (Hv (i:=n) (j:=n+1) O O O underlying9 Z (Nat.le_trans (show n+1<=10 by omega) (by decide)) (UO (by kernel_rfl) hn)) O (AK O ?_)))))
  exact AE.nil (AC.subF (sL [0,2] O) (AC.then_ (AF.ret (AC.then_ret (AN O (Ab (v:=(Value.string (HM n))) O) (λw hw=>⟨rfl,hw.out⟩))))))
 ·replace hc0:=of_decide_eq_false hc0
  exfalso;omega
theorem Mc (n:Nat) (hn:n<10) (w:World)  :Calls prog 188 #[(vK .u64 n),(vI 10)] w (Al w (Value.string (HM n))):=by
 refine Ac (args:=[(vK .u64 n),(vI 10)]) func188 O O (Ad O) (AF.subF (sL [0,1] O) (q4 (AK O (AE.nil (q1 ?_)))))
 refine q4 (AO O (AH (BQ (c:=true) O O (by decide)) O (AE.nil (AC.subF (sL [0,1,4,10] O) (AC.then_ ?_)))))
 refine AF.cond_true O (AF.seq (q4 (AO O (AH (Af (c:=(decide (n<100))) O O (C1 (a:=n) (b:=100))) O (AE.nil ?_)))))
 refine AC.subF (sL [0,1,4,12] O) (AC.then_ ?_)
 refine AF.cond O (λhc1=>?_) (λhc1=>?_)
 ·replace hc1:=of_decide_eq_true hc1
  refine q4 (AO O (AH (Au (c:=((n:Nat):Int)) O underlying53 underlying3 (CB Z)) O (BS call222 (Qn n Z) O (AK O (AE.nil ?_)))))
  exact AC.subF (sL [0,1,4] O) (AC.then_ (AF.ret (AC.then_ret (AC.then_ret (AN O (Ab (v:=(Value.string (HM n))) O) (λw hw=>⟨rfl,hw.out⟩))))))
 ·replace hc1:=of_decide_eq_false hc1
  exfalso;omega
theorem OS (n:Nat) (hn:n<10) (w:World)  :Calls prog 147 #[(vK .u64 n),(vI 10)] w (Al w (Value.string (HM n))):=by
 refine Ac (args:=[(vK .u64 n),(vI 10)]) func147 O O (Ad O) (AF.subF (sL [0,1] O) (q4 (AK O (AE.nil (q2 ?_)))))
 refine AO O (AO O (BS call188 (Mc n Z) O (AK O (AE.nil (AC.subF (sL [4] O) ?_)))))
 exact AC.then_ (AF.ret (AN O (Ab (v:=(Value.string (HM n))) O) (λw hw=>⟨rfl,hw.out⟩)))
theorem Ic (n:Nat) (hn:n<10) (w:World)  :Calls prog 112 #[(aG (AT n))] w (Al w (Value.string (HM n))):=by
 refine Ac (args:=[(aG (AT n))]) func112 O O (Ad O) (AF.subF (sL [0] O) (q4 (Bi (cs:=AT n) O λb1=>AK O (q6 (sL [1,2] O) ?_))))
 refine q4 (AH (v:=(pP b1 1)) (AA O underlying55 O sizeOf9 O) O (BJ 0 (Value.string (Be n)) PJ O (AH (Bf (c:=(decide (n<18446744073709551616))) O O CL) O (AE.nil (AC.subF (sL [1,2,10] O) ?_)))))
 refine AC.then_ ?_
 refine AF.cond O (λhc0=>?_) (λhc0=>?_)
 ·replace hc0:=of_decide_eq_true hc0
  refine q4 (AH (v:=(pP b1 0)) (AA O underlying55 O sizeOf53 O) O (BJ 0 (vK .u64 (Bs n)) FX O (AE.retell (k:=12) (u:=(vK .u64 n)) O (by rw [Bc Z]) (BS call147 (OS n Z) O (AK O ?_)))))
  exact AE.nil (AC.subF (sL [1,2] O) (AC.then_ (AF.ret (AC.then_ret (AN O (Ab (v:=(Value.string (HM n))) O) (λw hw=>⟨rfl,hw.out⟩))))))
 ·replace hc0:=of_decide_eq_false hc0
  exfalso;omega
theorem LJ (z:Int) (hz:z.natAbs<10) (w:World)  :Calls prog 111 #[(aG (A8 z))] w (Al w (Value.string (ER z))):=by
 refine Ac (args:=[(aG (A8 z))]) func111 O O (Ad O) (AF.subF (sL [0] O) (q4 (Bi (cs:=A8 z) O λb1=>AK O (q6 (sL [1,2] O) ?_))))
 refine q4 (AH (v:=(pP b1 2)) (AA O underlying59 O sizeOf4 O) O (BJ 0 (Value.bool (decide (z<0))) Q6 O (AE.nil (AC.subF (sL [1,2,4] O) (AC.then_ ?_)))))
 refine AF.cond O (λhc0=>?_) (λhc0=>?_)
 ·replace hc0:=of_decide_eq_true hc0
  have he:ER z=⟨#[45]⟩++HM z.natAbs:=if_pos hc0
  refine q4 (AH (v:=(pP b1 0)) (AA O underlying59 O sizeOf57 O) O (AH (v:=(pP b1 0)) (AA O underlying57 O sizeOf55 O) O (DU 0 (AT z.natAbs) Br O (BS call112 (Ic z.natAbs Z) O (AH (v:=(Value.string (ByteArray.mk #[45]++HM z.natAbs))) (El (r:=(ByteArray.mk #[45]++HM z.natAbs)) O O (by rw [LZ];decide) O) O ?_)))))
  exact AK O (AE.nil (AC.subF (sL [1,2] O) (AC.then_ (AF.ret (AC.then_ret (AN O (Ab (v:=(Value.string (ByteArray.mk #[45]++HM z.natAbs))) O) (λw hw=>⟨by rw [he],hw.out⟩)))))))
 ·replace hc0:=of_decide_eq_false hc0
  have he:ER z=HM z.natAbs:=if_neg hc0
  refine AF.skip (q2 (AH (v:=(pP b1 0)) (AA O underlying59 O sizeOf57 O) O (AH (v:=(pP b1 0)) (AA O underlying57 O sizeOf55 O) O (DU 0 (AT z.natAbs) Br O (BS call112 (Ic z.natAbs Z) O ?_)))))
  exact AK O (AE.nil (AC.subF (sL [1,2] O) (AC.then_ (AF.ret (AN O (Ab (v:=(Value.string (HM z.natAbs))) O) (λw hw=>⟨by rw [he],hw.out⟩))))))
theorem P7 (q:Rat) (hn:q.num.natAbs<10) (hd:q.den<10) (w:World)  :Calls prog 60 #[(aG (AJ q))] w (Al w (Value.string (Nn q))):=by
 have hs:=ML q.num
 have hdn:nw q.den<=1099511627776:=Nat.le_trans (Gm Z) Z
 refine Ac (args:=[(aG (AJ q))]) func60 O O (Ad O) (AF.subF (sL [0] O) (q4 (Bi (cs:=AJ q) O λb1=>AK O (q6 (sL [1,2] O) ?_))))
 refine q4 (BA 0 Bg O (BS call50 (FW q) O (AE.nil (AC.subF (sL [1,2,4] O) (AC.then_ ?_)))))
 refine AF.cond O (λhc0=>?_) (λhc0=>?_)
 ·replace hc0:=of_decide_eq_true hc0
  have he:Nn q=ER q.num:=if_pos hc0
  refine q4 (AH (v:=(pP b1 0)) (AA O underlying61 O sizeOf59 O) O (DU 0 (A8 q.num) Cp O (BS call111 (LJ q.num Z) O (AK O (AE.nil ?_)))))
  exact AC.subF (sL [1,2] O) (AC.then_ (AF.ret (AC.then_ret (AN O (Ab (v:=(Value.string (ER q.num))) O) (λw hw=>⟨by rw [he],hw.out⟩)))))
 ·replace hc0:=of_decide_eq_false hc0
  have he:Nn q=ER q.num++⟨#[47]⟩++HM q.den:=if_neg hc0
  refine AF.skip (q1 (C2 [(0,true),(1,true),(4,true),(2,false),(3,true),(5,false),(6,false),(7,true),(8,true)] sr (Ay (v:=(pP b1 0)) O (AA O underlying61 O sizeOf59 O) (HW 0 (A8 q.num) Cp O (EH 0 Bg O ?_)))))
  refine AS.imp O (BS call111 (LJ q.num Z) O (AS.back sr (Ay (v:=(Value.string (ER q.num++ByteArray.mk #[47]))) O (El (r:=(ER q.num++ByteArray.mk #[47])) O O (Nat.le_trans (Nat.add_le_add_right hs 1) (by decide)) O) (AS.imp O (BS call54 (Fk q Z) O ?_)))))
  refine AS.back sr (AS.imp O (BS call112 (Ic q.den Z) O (AS.back sr (Ay (v:=(Value.string (ER q.num++ByteArray.mk #[47]++HM q.den))) O (El (r:=(ER q.num++ByteArray.mk #[47]++HM q.den)) O O (by rw [ByteArray.size_append,LZ];exact Nat.le_trans (Nat.add_le_add_right (Nat.add_le_add_right hs 1) 1) (by decide)) O) (EW O ?_)))))
  exact AS.nil (AC.subF (sL [1,2] O) (AC.then_ (AF.ret (AN O (Ab (v:=(Value.string (ER q.num++ByteArray.mk #[47]++HM q.den))) O) (λw hw=>⟨by rw [he],hw.out⟩)))))
end
theorem DL (a b c:Pt):Aa a b c=(b.x-a.x)*(c.y-a.y)-(b.y-a.y)*(c.x-a.x):=rfl
theorem Gz (a b c:Pt):Aa b c a=Aa a b c:=by simp only [DL];grind
theorem P9 {x y z x' y' z':Rat} {n:Nat} (hx:x=x') (hy:y=y') (hz:z=z') (h:Dt x' y' z'=n):Dt x y z=n:=by rw [hx,hy,hz];exact h
theorem R9 {a b c:Pt} (h:Aa a b c≠0):Dt (Aa a b c/Aa a b c) (Aa a a c/Aa a b c) (Aa a b a/Aa a b c)=3:=by
  refine P9 (x':=1) (y':=0) (z':=0) (by grind) ?_ ?_ (by decide +kernel)
  · have:Aa a a c=0:=by simp only [DL];grind
    rw [this];grind
  · have:Aa a b a=0:=by simp only [DL];grind
    rw [this];grind
def ng (q:Rat):Nat:=if q.num.sign<0 then 1 else 0
section
theorem SZ (a b:Int):(decide (a.natAbs=b.natAbs)&&((decide (a<0) == decide (b<0))&&true))=decide (a=b):=by
  by_cases e:a=b
  · subst e;simp
  · rw [decide_eq_false e]
    by_cases h1:a<0<;>by_cases h2:b<0<;>simp [h1,h2]<;>omega
theorem R4 (D:Nat) (a b:Int):E5 prog (D+4) 59 (.agg (A8 a).toArray) (.agg (A8 b).toArray) (decide (a=b)):=by
  rw [<-SZ]
  exact E5.struct underlying59 Tryz.stoodInHeld59 (G6.agg (us:=AT a.natAbs) (bs:=AT b.natAbs) (by decide) isAgg57 sizeOf57 O O (L0 D _ _) (G6.one (by decide) isAgg4 O O (E5.bool underlying4) G6.nil))
theorem RS (a b:Rat):(decide (a.num=b.num)&&(decide (a.den-1=b.den-1)&&true))=decide (a=b):=by
  by_cases e:a=b
  · subst e;simp
  · rw [decide_eq_false e]
    have h1:=a.den_pos
    have h2:=b.den_pos
    simp only [Bool.and_true,Bool.and_eq_false_iff,decide_eq_false_iff_not]
    apply Classical.byContradiction
    intro h
    refine e (Rat.ext ?_ ?_)
    · exact Classical.byContradiction λk=>h (.inl k)
    · exact Classical.byContradiction λk=>h (.inr Z)
theorem Ii (D:Nat) (a b:Rat):E5 prog (D+5) 61 (.agg (AJ a).toArray) (.agg (AJ b).toArray) (decide (a=b)):=by
  rw [<-RS]
  exact E5.struct underlying61 Tryz.stoodInHeld61 (G6.agg (us:=A8 a.num) (bs:=A8 b.num) (by decide) isAgg59 sizeOf59 O O (R4 D _ _) (G6.agg (us:=AT (a.den-1)) (bs:=AT (b.den-1)) (by decide) isAgg55 sizeOf55 O O (Fv (D+2) _ _) G6.nil))
instance:DecidableEq Pt:=λa b=>decidable_of_iff (a.x=b.x/\a.y=b.y) ⟨λh=>Pt.ext h.1 h.2,λh=>h▸⟨rfl,rfl⟩⟩
theorem TY (a b:Pt):(decide (a.x=b.x)&&(decide (a.y=b.y)&&true))=decide (a=b):=by
  by_cases e:a=b
  · subst e;simp
  · rw [decide_eq_false e]
    simp only [Bool.and_true,Bool.and_eq_false_iff,decide_eq_false_iff_not]
    apply Classical.byContradiction
    intro h
    refine e (Pt.ext ?_ ?_)
    · exact Classical.byContradiction λk=>h (.inl k)
    · exact Classical.byContradiction λk=>h (.inr k)
theorem T0 (D:Nat) (a b:Pt):E5 prog (D+6) 63 (.agg (Ah a).toArray) (.agg (Ah b).toArray) (decide (a=b)):=by
  rw [<-TY]
  exact E5.struct underlying63 Tryz.stoodInHeld63 (G6.agg (us:=AJ a.x) (bs:=AJ b.x) (by decide) isAgg61 sizeOf61 O O (Ii D _ _) (G6.agg (us:=AJ a.y) (bs:=AJ b.y) (by decide) isAgg61 sizeOf61 O O (Ii D _ _) G6.nil))
section
variable {P:Program}
def PK (P:Program) (D:Nat) (e:TypeId) (c:Nat) (xs ys:List Value) (is:List Nat) (b:Bool):Prop:=∀w,(Go.Op.eqItems D e c xs.toArray ys.toArray is).run P w=.ok b w
theorem PK.nil {D c:Nat} {e:TypeId} {xs ys:List Value}:PK P D e c xs ys [] true:=λw=>rfl
theorem PK.cons {D c i:Nat} {e:TypeId} {is:List Nat} {xs ys us bs:List Value} {r s:Bool} (hg:∀w,(isAgg e).run P w=.ok true w) (hs:∀w,(sizeOf e).run P w=.ok c w)
    (ha:(xs.drop (i*c)).take c=us) (hb:(ys.drop (i*c)).take c=bs) (h:E5 P D e (.agg us.toArray) (.agg bs.toArray) r) (h2:PK P D e c xs ys is s):PK P D e c xs ys (i::is) (r&&s):=λw=>by
  have ex:∀l:List Value,l.toArray.extract (i*c) (i*c+c)=((l.drop (i*c)).take c).toArray:=λl=>by simp [List.extract_eq_take_drop]
  have e1:(part e xs.toArray (i*c)).run P w=.ok (.agg us.toArray) w:=by simp [part,hg,hs,ex,ha]
  have e2:(part e ys.toArray (i*c)).run P w=.ok (.agg bs.toArray) w:=by simp [part,hg,hs,ex,hb]
  simp only [Go.Op.eqItems,Sem.run_bind,e1,e2,Result.andThen_ok,h w]
  cases r
  · simp
  · simp [h2 w]
theorem E5.array {D n c:Nat} {T e:TypeId} {xs ys:List Value} {b:Bool} (hu:P.underlying T=some (.array n e)) (hi:∃i,P.info? e=some i) (hc:P.cellsOf e=c) (h:PK P D e c xs ys (List.range n) b) :
    E5 P (D+1) T (.agg xs.toArray) (.agg ys.toArray) b:=λw=>by
  obtain ⟨i,hi⟩:=hi
  rw [Go.run_equalIn_array w D xs.toArray ys.toArray hu hi,hc]
  exact h w
end
theorem M6 (D:Nat) {a b:Rat} (h:a=b):E5 prog (D+5) 61 (.agg (AJ a).toArray) (.agg (AJ b).toArray) true:=by
  have:=Ii D a b;rwa [decide_eq_true h] at this
section
variable {P:Program} {n:Nat} {F:List (Nat×Value)} {w0:BH} {L:List As} {x y:Operand} {d:Option Tmp} {t:TypeId} {p:String} {af:Array Edge} {g:Option (Nat×Bool)}
end
end
section
structure QD where
  n:Int
  d:Nat
structure PD where
  x:QD
  y:QD
def TU (q:QD):List Value:=[.int .i64 q.n,.int .u32 (q.d:Nat)]
def Vb (p:PD):List Value:=TU p.x++TU p.y
def QD.ok (q:QD):Prop := -9223372036854775808<=q.n/\q.n<9223372036854775808/\q.d<4294967296
def PD.ok (p:PD):Prop:=p.x.ok/\p.y.ok
def Lq (q:QD):Rat:=((q.n:Int):Rat)/(((max q.d 1:Nat):Int):Rat)
def D8 (p:PD):Pt:=⟨Lq p.x,Lq p.y⟩
theorem Pr {q:QD} (h:q.ok):Sz (Lq q)<=4:=by
  obtain ⟨h1,h2,h3⟩:=h
  have s1:=Io h1 h2
  have s2:=Io (z:=((max q.d 1:Nat):Int)) Z Z
  have hb:(((max q.d 1:Nat):Int):Rat)≠0:=λe=>by
    have:((max q.d 1:Nat):Int)=0:=by exact_mod_cast e
    omega
  have:=Ib (a:=((q.n:Int):Rat)) hb
  unfold Lq
  omega
theorem RG {p:PD} (h:p.ok):B4 (D8 p)<=4:=RE (Pr h.1) (Pr h.2)
section
variable {P:Program} {w:World} {r:Reach} {base:Nat}
end
section
variable {P:Program} {w:World} {r:Reach} {base:Nat} {t:TypeId} {v:Value} {ts:List TypeId}
end
end
section
def rowsL {α:Type} (enc:α->List Value) (xs:List α):List Value:=xs.flatMap enc
section
variable {α:Type} {enc:α->List Value} {z:Nat}
theorem BW (xs ys:List α):rowsL enc (xs++ys)=rowsL enc xs++rowsL enc ys:=by simp [rowsL]
theorem Am (h:∀x,(enc x).length=z) (xs:List α):(rowsL enc xs).length=xs.length*z:=by
  induction xs with
  | nil=>simp [rowsL]
  | cons x r ih =>
    have e:rowsL enc (x::r)=enc x++rowsL enc r:=rfl
    rw [e,List.length_append,ih,h,List.length_cons,Nat.add_mul];omega
theorem Ar (h:∀x,(enc x).length=z) (d:α):∀(xs:List α) (j:Nat),j<xs.length->((rowsL enc xs).drop (j*z)).take z=enc (xs.getD j d)
  | x::r,0,_=>by
    have e:rowsL enc (x::r)=enc x++rowsL enc r:=rfl
    rw [e,Nat.zero_mul,List.drop_zero,List.take_append_of_le_length (by rw [h];exact Nat.le_refl _),List.take_of_length_le (by rw [h];exact Nat.le_refl _)];rfl
  | x::r,j+1,hj=>by
    have e:rowsL enc (x::r)=enc x++rowsL enc r:=rfl
    rw [e,show (j+1)*z=(enc x).length+j*z by rw [h,Nat.add_mul];omega,List.drop_append,List.drop_of_length_le Z,Nat.add_sub_cancel_left,List.nil_append,Ar h d r j (by simpa using hj)];rfl
end
structure RX (cs:List Value) (n:Nat) where
  p:Option Addr
  c:Nat
  ok:BO p n c
@[reducible] def RX.val {cs:List Value} {n:Nat} (a:RX cs n):Value:=.slice a.p n a.c
@[reducible] def RX.row {cs:List Value} {n:Nat} (a:RX cs n):As:=Ag a.p cs
instance {cs:List Value} {n:Nat}:Dy (RX cs n):=⟨λa=>.slice a.p n a.c,λa=>[Ag a.p cs],λa y hy=>by rcases List.mem_singleton.1 hy with rfl;rfl⟩
theorem Vu {S:Nat->Prop} {W w:World} {L:List As} (hw:BN ⟨W,none⟩ w L) (i:Nat) {p:Option Addr} {T:TypeId} {z n c:Nat} {cs:List Value} (hi:L[i]?=some (rowW p T z n c cs)) (ho:OwnOk p n c) (hl:cs.length=n*z) {v:Value} (hv:v=.slice p n c):B3 (RX cs n) S W (.returned v) w:=by
  have hb:=hw.newRow hi
  refine ⟨⟨p,c,ho.row⟩,by rw [hv];rfl,hw.out,λy hy=>?_⟩
  rcases List.mem_singleton.1 hy with rfl
  refine ⟨λd e=>?_,λd e=>.inl (hb d e)⟩
  obtain ⟨_,o,ho2,hp⟩:=hw.2.1 _ (List.mem_of_getElem? hi) d e
  exact ⟨o,ho2,Cy ho hl hp⟩
def Cg (xs:List Nat):List Value:=xs.map λx=>Value.int .u8 (x:Nat)
theorem QM {xs:List Nat} {j:Nat} (h:j<xs.length):(Cg xs)[j*1]?=some (.int .u8 ((xs.getD j 0:Nat):Int)):=by rw [Nat.mul_one];simp [Cg,h]
structure MQ where
  nx:Nat
  ny:Nat
  cs:List Nat
  p:Option Addr
  cap:Nat
  a:Int
  b:Int
  c:Int
  d:Int
  den:Nat
  fst:Nat
  hx:nx<256
  hy:ny<256
  ha:-128<=a/\a<=127
  hb:-128<=b/\b<=127
  hc:-128<=c/\c<=127
  hd:-128<=d/\d<=127
  hden:den<256
  hfst:fst<256
  hcs:∀x∈cs,x<256
  ok:BO p cs.length cap
def D5 (m:MQ):List Value:=[.int .u8 m.nx,.int .u8 m.ny,.slice m.p m.cs.length m.cap,.int .i8 m.a,.int .i8 m.b,.int .i8 m.c,.int .i8 m.d,.int .u8 m.den,.int .u8 m.fst]
instance:Dy MQ:=⟨λm=>aG (D5 m),λm=>[Ag m.p (Cg m.cs)],λa y hy=>by rcases List.mem_singleton.1 hy with rfl;rfl⟩
theorem Ks {a b:Nat} (h:a<256):IntKind.u8.wrap ((a:Int).tdiv (b:Int))=((a/b:Nat):Int):=by
  have:a/b<=a:=Nat.div_le_self _ _
  rw [<-Int.ofNat_tdiv]
  generalize a/b=q at *
  exact KL Z Z
theorem SO {a b:Nat} (h:a+b<256):IntKind.u8.wrap ((a:Int)+(b:Int))=((a+b:Nat):Int):=by rw [KL Z Z];omega
abbrev P2:=Nat×Nat
def CY (nx way i:Nat):List (P2×P2×P2) :=
  let x:=2*(i%nx);let y:=2*(i/nx)
  if way<3\/(way=7/\i=0) then [((x,y),(x+2,y),(x+2,y+2)),((x,y),(x+2,y+2),(x,y+2))]
  else if way<5 then [((x,y),(x+2,y),(x,y+2)),((x+2,y),(x+2,y+2),(x,y+2))]
  else if way<7 then [((x,y),(x+2,y),(x+1,y+1)),((x+2,y),(x+2,y+2),(x+1,y+1)),((x+2,y+2),(x,y+2),(x+1,y+1)),((x,y+2),(x,y),(x+1,y+1))] else []
def Ds (p q r:P2):Int:=((q.1:Int)-p.1)*((r.2:Int)-p.2)-((q.2:Int)-p.2)*((r.1:Int)-p.1)
def Ng (t:P2×P2×P2):Prop:=0<Ds t.1 t.2.1 t.2.2/\(t.1.1<=6/\t.1.2<=6)/\(t.2.1.1<=6/\t.2.1.2<=6)/\(t.2.2.1<=6/\t.2.2.2<=6)
theorem PP {nx ny way i:Nat} (hx:nx<=3) (hy:ny<=3) (hi:i<nx*ny):∀t∈CY nx way i,Ng t:=by
  have h1:i%nx<=2:=by
    have:nx≠0:=λe=>by subst e;omega
    have:=Nat.mod_lt i (show 0<nx by omega)
    omega
  have h2:i/nx<=2:=by
    have:i/nx<ny:=Nat.div_lt_of_lt_mul (by rwa [Nat.mul_comm] at hi ⊢)
    omega
  intro t ht
  unfold CY at ht
  generalize i%nx=u at *
  generalize i/nx=v at *
  have key:∀t:P2×P2×P2,t∈[((2*u,2*v),(2*u+2,2*v),(2*u+2,2*v+2)),((2*u,2*v),(2*u+2,2*v+2),(2*u,2*v+2)),((2*u,2*v),(2*u+2,2*v),(2*u,2*v+2)),((2*u+2,2*v),(2*u+2,2*v+2),(2*u,2*v+2)),
      ((2*u,2*v),(2*u+2,2*v),(2*u+1,2*v+1)),((2*u+2,2*v),(2*u+2,2*v+2),(2*u+1,2*v+1)),((2*u+2,2*v+2),(2*u,2*v+2),(2*u+1,2*v+1)),((2*u,2*v+2),(2*u,2*v),(2*u+1,2*v+1))]->Ng t:=by
    intro t ht
    simp only [List.mem_cons,List.not_mem_nil,or_false] at ht
    rcases ht with rfl|rfl|rfl|rfl|rfl|rfl|rfl|rfl<;>refine ⟨?_,⟨?_,?_⟩,⟨?_,?_⟩,?_,?_⟩<;>dsimp only [Ds]<;>first|omega|grind
  refine key t ?_
  simp only at ht
  split at ht
  · simp only [List.mem_cons,List.not_mem_nil,or_false] at ht ⊢;rcases ht with h|h<;>simp [h]
  · split at ht
    · simp only [List.mem_cons,List.not_mem_nil,or_false] at ht ⊢;rcases ht with h|h<;>simp [h]
    · split at ht
      · simp only [List.mem_cons,List.not_mem_nil,or_false] at ht ⊢;rcases ht with h|h|h|h<;>simp [h]
      · cases ht
theorem O7 (nx way i:Nat):(CY nx way i).length<=4:=by
  unfold CY;simp only;split
  · simp
  · split
    · simp
    · split<;>simp
theorem Li (nx way:Nat) (h:way<8):CY nx way 0≠[]:=by
  unfold CY;simp only;split
  · simp
  · split
    · simp
    · split
      · simp
      · rename_i h1 h2 h3;simp only [and_true,not_or] at h1;omega
section
variable {nx way i u v:Nat}
theorem Ru (hu:u=i%nx) (hv:v=i/nx) (h:way<3\/(way=7/\i=0)):CY nx way i=[((2*u,2*v),(2*u+2,2*v),(2*u+2,2*v+2)),((2*u,2*v),(2*u+2,2*v+2),(2*u,2*v+2))]:=by
  subst hu;subst hv;exact if_pos h
theorem TA (hu:u=i%nx) (hv:v=i/nx) (h0:¬(way<3\/(way=7/\i=0))) (h:way<5):CY nx way i=[((2*u,2*v),(2*u+2,2*v),(2*u,2*v+2)),((2*u+2,2*v),(2*u+2,2*v+2),(2*u,2*v+2))]:=by
  subst hu;subst hv;exact (if_neg h0).trans (if_pos h)
theorem Sk (hu:u=i%nx) (hv:v=i/nx) (h0:¬(way<3\/(way=7/\i=0))) (h1:¬way<5) (h:way<7):CY nx way i=[((2*u,2*v),(2*u+2,2*v),(2*u+1,2*v+1)),((2*u+2,2*v),(2*u+2,2*v+2),(2*u+1,2*v+1)),((2*u+2,2*v+2),(2*u,2*v+2),(2*u+1,2*v+1)),((2*u,2*v+2),(2*u,2*v),(2*u+1,2*v+1))]:=by
  subst hu;subst hv;exact (if_neg h0).trans ((if_neg h1).trans (if_pos h))
theorem S9 (h0:¬(way<3\/(way=7/\i=0))) (h1:¬way<5) (h:¬way<7):CY nx way i=[]:=(if_neg h0).trans ((if_neg h1).trans (if_neg h))
end
def A6 (p:P2):List Value:=[vN p.1,vN p.2]
theorem CZ (p:P2):(A6 p).length=2:=rfl
def A9 (t:P2×P2×P2):List Value:=A6 t.1++A6 t.2.1++A6 t.2.2
theorem Es (t:P2×P2×P2):(A9 t).length=6:=rfl
def An (t:Nat×Nat×Nat):List Value:=[vN t.1,vN t.2.1,vN t.2.2]
theorem BI (t:Nat×Nat×Nat):(An t).length=3:=rfl
def CD (z:Int×Int):List Value:=[.int .i64 z.1,.int .i64 z.2]
theorem Ew (z:Int×Int):(CD z).length=2:=rfl
def G4 (m:MQ) (i:Nat):Nat:=if 0<m.cs.length then m.cs.getD (i%m.cs.length) 0%8 else 0
theorem Nj (m:MQ) (i:Nat):G4 m i<8:=by unfold G4;split<;>omega
def LC (m:MQ):Nat:=1+m.nx%3
def SU (m:MQ):Nat:=1+m.ny%3
def Dg (m:MQ):Nat->List (P2×P2×P2)
  | 0=>[]
  | i+1=>Dg m i++CY (LC m) (G4 m i) i
def BL (m:MQ):List (P2×P2×P2):=Dg m (LC m*SU m)
theorem Kr (m:MQ):1<=LC m/\LC m<=3:=by unfold LC;omega
theorem K2 (m:MQ):1<=SU m/\SU m<=3:=by unfold SU;omega
theorem GS (m:MQ):∀i,(Dg m i).length<=4*i
  | 0=>Nat.le_refl _
  | i+1=>by
    have h1:=GS m i
    have h2:=O7 (LC m) (G4 m i) i
    show (Dg m i++CY (LC m) (G4 m i) i).length<=_
    rw [List.length_append];omega
theorem Jb (m:MQ):∀i,i<=LC m*SU m->∀t∈Dg m i,Ng t
  | 0,_,t,ht=>by cases ht
  | i+1,hi,t,ht=>by
    rcases List.mem_append.1 ht with h|h
    · exact Jb m i Z t h
    · exact PP (Kr m).2 (K2 m).2 Z t h
theorem JY (m:MQ):∀i,1<=i->Dg m i≠[]
  | 1,_=>by
    show []++CY (LC m) (G4 m 0) 0≠[]
    rw [List.nil_append];exact Li _ _ (Nj m 0)
  | i+2,_=>λe=>JY m (i+1) Z (List.append_eq_nil_iff.1 e).1
theorem O5 (m:MQ):BL m≠[]:=JY m _ (Nat.mul_pos (Kr m).1 (K2 m).1)
theorem Ja (m:MQ):∀t∈BL m,Ng t:=Jb m _ (Nat.le_refl _)
theorem Hj (m:MQ):LC m*SU m<=9:=Nat.mul_le_mul (Kr m).2 (K2 m).2
theorem GC (m:MQ):(BL m).length<=36:=by
  have h1:=GS m (LC m*SU m)
  have h2:=Hj m
  unfold BL;omega
theorem Cd {a b:Int} {k:Int} (ha:-3<=a/\a<=3) (hb:-k<=b/\b<=k):-(3*k)<=a*b/\a*b<=3*k:=by
  obtain ⟨h3,h4⟩:=ha
  have e:a = -3\/a = -2\/a = -1\/a=0\/a=1\/a=2\/a=3:=by omega
  rcases e with rfl|rfl|rfl|rfl|rfl|rfl|rfl<;>omega
def Rn (k:Int×Int×Int×Int):List Value:=[.int .i64 k.1,.int .i64 k.2.1,.int .i64 k.2.2.1,.int .i64 k.2.2.2]
structure DR where
  a:Int
  b:Int
  c:Int
  d:Int
def DR.det (k:DR):Int:=k.a*k.d-k.b*k.c
structure DR.Ok (k:DR):Prop where
  a:-3<=k.a/\k.a<=3
  b:-3<=k.b/\k.b<=3
  c:-3<=k.c/\k.c<=3
  d:-3<=k.d/\k.d<=3
  pos:0<k.det
def DR.at_ (k:DR) (p:P2):Int×Int:=(k.a*p.1+k.b*p.2,k.c*p.1+k.d*p.2)
def F3 (a b c d:Int):DR :=
  let k:DR:=⟨a.tmod 4,b.tmod 4,c.tmod 4,d.tmod 4⟩
  if k.det=0 then ⟨1,0,0,1⟩ else if k.det<0 then ⟨k.a,k.b,-k.c,-k.d⟩ else k
theorem Hi (a:Int):-3<=a.tmod 4/\a.tmod 4<=3:=by
  have h:=Int.tmod_eq_emod (a:=a) (b:=4)
  have h1:=Int.emod_nonneg a (show (4:Int)≠0 by decide)
  have h2:=Int.emod_lt_of_pos a (show (0:Int)<4 by decide)
  rw [h]
  split<;>omega
theorem Kb {a b c d A B C D:Int} (hA:A=a.tmod 4) (hB:B=b.tmod 4) (hC:C=c.tmod 4) (hD:D=d.tmod 4) (h:A*D-B*C=0):F3 a b c d=⟨1,0,0,1⟩:=by
  subst hA;subst hB;subst hC;subst hD;exact if_pos h
theorem KI {a b c d A B C D:Int} (hA:A=a.tmod 4) (hB:B=b.tmod 4) (hC:C=c.tmod 4) (hD:D=d.tmod 4) (h:A*D-B*C<0):F3 a b c d=⟨A,B,-C,-D⟩:=by
  subst hA;subst hB;subst hC;subst hD;exact (if_neg (λe:a.tmod 4*d.tmod 4-b.tmod 4*c.tmod 4=0=>by rw [e] at h;omega)).trans (if_pos h)
theorem KP {a b c d A B C D:Int} (hA:A=a.tmod 4) (hB:B=b.tmod 4) (hC:C=c.tmod 4) (hD:D=d.tmod 4) (h0:¬A*D-B*C=0) (h:¬A*D-B*C<0):F3 a b c d=⟨A,B,C,D⟩:=by
  subst hA;subst hB;subst hC;subst hD;exact (if_neg h0).trans (if_neg h)
theorem Gc (a b c d:Int):(F3 a b c d).Ok:=by
  have ha:=Hi a;have hb:=Hi b;have hc:=Hi c;have hd:=Hi d
  unfold F3
  generalize a.tmod 4=a' at *
  generalize b.tmod 4=b' at *
  generalize c.tmod 4=c' at *
  generalize d.tmod 4=d' at *
  show (if a'*d'-b'*c'=0 then (⟨1,0,0,1⟩:DR) else if a'*d'-b'*c'<0 then ⟨a',b',-c',-d'⟩ else ⟨a',b',c',d'⟩).Ok
  by_cases h0:a'*d'-b'*c'=0
  · rw [if_pos h0];exact ⟨by decide,by decide,by decide,by decide,by decide⟩
  · rw [if_neg h0]
    by_cases h:a'*d'-b'*c'<0
    · rw [if_pos h];exact ⟨ha,hb,by dsimp only;omega,by dsimp only;omega,by show 0<a' * -d'-b' * -c';rw [Int.mul_neg,Int.mul_neg];omega⟩
    · rw [if_neg h];exact ⟨ha,hb,hc,hd,by show 0<a'*d'-b'*c';omega⟩
theorem Re {k:DR} (h:k.Ok) {p:P2} (hp:p.1<=6/\p.2<=6):(-36<=(k.at_ p).1/\(k.at_ p).1<=36) /\ -36<=(k.at_ p).2/\(k.at_ p).2<=36:=by
  obtain ⟨x,y⟩:=p
  have key:∀(z:Int) (n:Nat),-3<=z/\z<=3->n<=6 -> -18<=z*n/\z*n<=18:=λz n h1 h2=>by
    obtain ⟨h3,h4⟩:=h1
    have e:z = -3\/z = -2\/z = -1\/z=0\/z=1\/z=2\/z=3:=by omega
    rcases e with rfl|rfl|rfl|rfl|rfl|rfl|rfl<;>omega
  have h1:=key k.a x h.a hp.1;have h2:=key k.b y h.b hp.2;have h3:=key k.c x h.c hp.1;have h4:=key k.d y h.d hp.2
  simp only [DR.at_]
  exact ⟨⟨Z,Z⟩,Z,Z⟩
def PG (k:DR) (den:Nat) (p:P2):PD:=⟨⟨(k.at_ p).1,den⟩,⟨(k.at_ p).2,den⟩⟩
theorem SI {k:DR} (h:k.Ok) (den:Nat) {p q r:P2} (ht:0<Ds p q r):0<Aa (D8 (PG k den p)) (D8 (PG k den q)) (D8 (PG k den r)):=by
  have hD:0<(((max den 1:Nat):Int):Rat):=by exact_mod_cast (show (0:Int)<((max den 1:Nat):Int) by omega)
  have e:Aa (D8 (PG k den p)) (D8 (PG k den q)) (D8 (PG k den r))=((k.det*Ds p q r:Int):Rat)*((((max den 1:Nat):Int):Rat)⁻¹*(((max den 1:Nat):Int):Rat)⁻¹):=by
    simp only [DL,D8,PG,Lq,DR.at_,DR.det,Ds,Rat.div_def,Rat.intCast_add,Rat.intCast_mul,Rat.intCast_sub]
    generalize (((max den 1:Nat):Int):Rat)⁻¹=D
    grind
  rw [e]
  have h1:0<k.det*Ds p q r:=Int.mul_pos h.pos ht
  have h2:(0:Rat)<((k.det*Ds p q r:Int):Rat):=by exact_mod_cast h1
  have h3:=Rat.inv_pos.2 hD
  exact Rat.mul_pos h2 (Rat.mul_pos h3 h3)
end
theorem Nr {w w':World} (h:EU w.heap.size w w'):∃(q:Nat) (os:Array Obj),w'=Go.Sort.grow (w.drewN q) os:=by
  refine ⟨w'.drawn-w.drawn,w'.heap.extract w.heap.size w'.heap.size,?_⟩
  have h1:=h.os;have h2:=h.tape;have h3:=h.output;have h4:=h.size;have h5:=h.block;have h6:=h.drawn
  have hh:w'.heap=w.heap++w'.heap.extract w.heap.size w'.heap.size:=by
    apply Array.ext_getElem?
    intro i
    rw [Array.getElem?_append]
    split
    · rename_i hi;exact h5 i hi
    · rename_i hi
      rw [Array.getElem?_extract]
      split
      · congr 1;omega
      · rename_i hj;rw [Array.getElem?_eq_none Z]
  obtain ⟨hp,tp,dr,os,out⟩:=w'
  obtain ⟨hp0,tp0,dr0,os0,out0⟩:=w
  simp only at h1 h2 h3 h4 h6 hh
  subst h1;subst h2;subst h3
  show World.mk hp tp dr os out=World.mk (hp0++hp.extract hp0.size hp.size) tp (dr0+(dr-dr0)) os out
  rw [<-hh,show dr0+(dr-dr0)=dr by omega]
theorem Uk {S:Nat->Prop} {W w:World} {L:List As} (hw:BN ⟨W,none⟩ w L) (i:Nat) {p:Option Addr} {T:TypeId} {z n c:Nat} {cs:List Value} (hi:L[i]?=some (rowW p T z n c cs)) (ho:OwnOk p n c) (hl:cs.length=n*z) {v:Value} (hv:v=.slice p n n):B3 (RX cs n) S W (.returned v) w:=by
  have hb:=hw.newRow hi
  refine ⟨⟨p,n,⟨λe=>⟨(ho.nil e).1,(ho.nil e).1⟩,λa e=>by rw [ho.at0 a e],Nat.le_refl _⟩⟩,by rw [hv];rfl,hw.out,λy hy=>?_⟩
  rcases List.mem_singleton.1 hy with rfl
  refine ⟨λd e=>?_,λd e=>.inl (hb d e)⟩
  obtain ⟨_,o,ho2,hp⟩:=hw.2.1 _ (List.mem_of_getElem? hi) d e
  exact ⟨o,ho2,Cy ho hl hp⟩
end Go.Proofs.YtfbomiejpbchdaaGreatDoor
