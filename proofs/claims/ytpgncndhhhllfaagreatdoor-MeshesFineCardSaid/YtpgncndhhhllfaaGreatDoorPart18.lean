import Derived.ChangeKeysEq
import Derived.Test.YtpgncndhhhllfaaGreatDoorRows
import Derived.Test.YtpgncndhhhllfaaGreatDoorPart03
import Derived.Test.YtpgncndhhhllfaaGreatDoorPart06
import Derived.Test.YtpgncndhhhllfaaGreatDoorPart17
namespace Go.Proofs.YtpgncndhhhllfaaGreatDoor
open Go Go.RowKit Go.Proofs.Tryz
set_option linter.unusedVariables false
set_option linter.unusedSimpArgs false
section
set_option maxRecDepth 100000
theorem T8 (n:Nat) (hn:n<10) (w:World)  :Calls prog 256 #[(vN n)] w (An w (Value.string (Ic n))):=by
 refine Af (args:=[(vN n)]) func256 O O (AT O) (AF.subF (sL [0] O) (q4 (asg' O (AE.nil (q1 ?_)))))
 refine q4 (AM O (AH (Ae (c:=(decide (n<10))) O O (CL (a:=n) (b:=10))) O (AE.nil (AC.subF (sL [0,2,4] O) (AC.then_ ?_)))))
 refine AF.cond O (λhc0=>?_) (λhc0=>?_)
 ·replace hc0:=of_decide_eq_true hc0
  refine q4 (AM O (AM O (AH (AW (c:=((n+1:Nat):Int)) O O (AU (a:=n) (b:=1) Z)) O (AH (v:=(Value.string (Ic n))) (Jh (i:=n) (j:=n+1) O O O underlying9 Z (Nat.le_trans (show n+1<=10 by omega) (by decide)) (Z6 (by kernel_rfl) hn)) O (asg' O ?_)))))
  exact AE.nil (AC.subF (sL [0,2] O) (AC.then_ (AF.ret (AC.then_ret (AI O (AY (v:=(Value.string (Ic n))) O) (λw hw=>⟨rfl,hw.out⟩))))))
 ·replace hc0:=of_decide_eq_false hc0
  exfalso;omega
theorem Qm (n:Nat) (hn:n<10) (w:World)  :Calls prog 208 #[(vK .u64 n),(vI 10)] w (An w (Value.string (Ic n))):=by
 refine Af (args:=[(vK .u64 n),(vI 10)]) func208 O O (AT O) (AF.subF (sL [0,1] O) (q4 (asg' O (AE.nil (q1 ?_)))))
 refine q4 (AM O (AH (BL (c:=true) O O (by decide)) O (AE.nil (AC.subF (sL [0,1,4,10] O) (AC.then_ ?_)))))
 refine AF.cond_true O (AF.seq (q4 (AM O (AH (Ae (c:=(decide (n<100))) O O (CL (a:=n) (b:=100))) O (AE.nil ?_)))))
 refine AC.subF (sL [0,1,4,12] O) (AC.then_ ?_)
 refine AF.cond O (λhc1=>?_) (λhc1=>?_)
 ·replace hc1:=of_decide_eq_true hc1
  refine q4 (AM O (AH (Ay (c:=((n:Nat):Int)) O underlying40 underlying3 (B4 Z)) O (ck' call256 (T8 n Z) O (asg' O (AE.nil ?_)))))
  exact AC.subF (sL [0,1,4] O) (AC.then_ (AF.ret (AC.then_ret (AC.then_ret (AI O (AY (v:=(Value.string (Ic n))) O) (λw hw=>⟨rfl,hw.out⟩))))))
 ·replace hc1:=of_decide_eq_false hc1
  exfalso;omega
theorem SY (n:Nat) (hn:n<10) (w:World)  :Calls prog 159 #[(vK .u64 n),(vI 10)] w (An w (Value.string (Ic n))):=by
 refine Af (args:=[(vK .u64 n),(vI 10)]) func159 O O (AT O) (AF.subF (sL [0,1] O) (q4 (asg' O (AE.nil (q2 ?_)))))
 refine AM O (AM O (ck' call208 (Qm n Z) O (asg' O (AE.nil (AC.subF (sL [4] O) ?_)))))
 exact AC.then_ (AF.ret (AI O (AY (v:=(Value.string (Ic n))) O) (λw hw=>⟨rfl,hw.out⟩)))
theorem Kb (n:Nat) (hn:n<10) (w:World)  :Calls prog 95 #[(aG (Ab n))] w (An w (Value.string (Ic n))):=by
 refine Af (args:=[(aG (Ab n))]) func95 O O (AT O) (AF.subF (sL [0] O) (q4 (BU (cs:=Ab n) O λb1=>asg' O (q6 (sL [1,2] O) ?_))))
 refine q4 (AH (v:=(pP b1 1)) (AA O underlying42 O sizeOf9 O) O (BA 0 (Value.string (Bm n)) TQ O (AH (Bf (c:=(decide (n<18446744073709551616))) O O CY) O (AE.nil (AC.subF (sL [1,2,10] O) ?_)))))
 refine AC.then_ ?_
 refine AF.cond O (λhc0=>?_) (λhc0=>?_)
 ·replace hc0:=of_decide_eq_true hc0
  refine q4 (AH (v:=(pP b1 0)) (AA O underlying42 O sizeOf40 O) O (BA 0 (vK .u64 (B8 n)) Gd O (AE.retell (k:=12) (u:=(vK .u64 n)) O (by rw [Bh Z]) (ck' call159 (SY n Z) O (asg' O ?_)))))
  exact AE.nil (AC.subF (sL [1,2] O) (AC.then_ (AF.ret (AC.then_ret (AI O (AY (v:=(Value.string (Ic n))) O) (λw hw=>⟨rfl,hw.out⟩))))))
 ·replace hc0:=of_decide_eq_false hc0
  exfalso;omega
theorem Ov (z:Int) (hz:z.natAbs<10) (w:World)  :Calls prog 94 #[(aG (BG z))] w (An w (Value.string (E5 z))):=by
 refine Af (args:=[(aG (BG z))]) func94 O O (AT O) (AF.subF (sL [0] O) (q4 (BU (cs:=BG z) O λb1=>asg' O (q6 (sL [1,2] O) ?_))))
 refine q4 (AH (v:=(pP b1 2)) (AA O underlying46 O sizeOf4 O) O (BA 0 (Value.bool (decide (z<0))) Jt O (AE.nil (AC.subF (sL [1,2,4] O) (AC.then_ ?_)))))
 refine AF.cond O (λhc0=>?_) (λhc0=>?_)
 ·replace hc0:=of_decide_eq_true hc0
  have he:E5 z=⟨#[45]⟩++Ic z.natAbs:=if_pos hc0
  refine q4 (AH (v:=(pP b1 0)) (AA O underlying46 O sizeOf44 O) O (AH (v:=(pP b1 0)) (AA O underlying44 O sizeOf42 O) O (Cy 0 (Ab z.natAbs) B7 O (ck' call95 (Kb z.natAbs Z) O (AH (v:=(Value.string (ByteArray.mk #[45]++Ic z.natAbs))) (Bz (r:=(ByteArray.mk #[45]++Ic z.natAbs)) O O (by rw [N6];decide) O) O ?_)))))
  exact asg' O (AE.nil (AC.subF (sL [1,2] O) (AC.then_ (AF.ret (AC.then_ret (AI O (AY (v:=(Value.string (ByteArray.mk #[45]++Ic z.natAbs))) O) (λw hw=>⟨by rw [he],hw.out⟩)))))))
 ·replace hc0:=of_decide_eq_false hc0
  have he:E5 z=Ic z.natAbs:=if_neg hc0
  refine AF.skip (q2 (AH (v:=(pP b1 0)) (AA O underlying46 O sizeOf44 O) O (AH (v:=(pP b1 0)) (AA O underlying44 O sizeOf42 O) O (Cy 0 (Ab z.natAbs) B7 O (ck' call95 (Kb z.natAbs Z) O ?_)))))
  exact asg' O (AE.nil (AC.subF (sL [1,2] O) (AC.then_ (AF.ret (AI O (AY (v:=(Value.string (Ic z.natAbs))) O) (λw hw=>⟨by rw [he],hw.out⟩))))))
theorem Um (q:Rat) (hn:q.num.natAbs<10) (hd:q.den<10) (w:World)  :Calls prog 38 #[(aG (AO q))] w (An w (Value.string (Rp q))):=by
 have hs:=Qq q.num
 have hdn:nw q.den<=1099511627776:=Nat.le_trans (IB Z) Z
 refine Af (args:=[(aG (AO q))]) func38 O O (AT O) (AF.subF (sL [0] O) (q4 (BU (cs:=AO q) O λb1=>asg' O (q6 (sL [1,2] O) ?_))))
 refine q4 (BD 0 Bp O (ck' call53 (Fl q) O (AE.nil (AC.subF (sL [1,2,4] O) (AC.then_ ?_)))))
 refine AF.cond O (λhc0=>?_) (λhc0=>?_)
 ·replace hc0:=of_decide_eq_true hc0
  have he:Rp q=E5 q.num:=if_pos hc0
  refine q4 (AH (v:=(pP b1 0)) (AA O underlying48 O sizeOf46 O) O (Cy 0 (BG q.num) DF O (ck' call94 (Ov q.num Z) O (asg' O (AE.nil ?_)))))
  exact AC.subF (sL [1,2] O) (AC.then_ (AF.ret (AC.then_ret (AI O (AY (v:=(Value.string (E5 q.num))) O) (λw hw=>⟨by rw [he],hw.out⟩)))))
 ·replace hc0:=of_decide_eq_false hc0
  have he:Rp q=E5 q.num++⟨#[47]⟩++Ic q.den:=if_neg hc0
  refine AF.skip (q1 (Cd [(0,true),(1,true),(4,true),(2,false),(3,true),(5,false),(6,false),(7,true),(8,true)] sr (Aq (v:=(pP b1 0)) O (AA O underlying48 O sizeOf46 O) (Ff 0 (BG q.num) DF O (Da 0 Bp O ?_)))))
  refine OkE.imp O (ck' call94 (Ov q.num Z) O (OkE.back sr (Aq (v:=(Value.string (E5 q.num++ByteArray.mk #[47]))) O (Bz (r:=(E5 q.num++ByteArray.mk #[47])) O O (Nat.le_trans (Nat.add_le_add_right hs 1) (by decide)) O) (OkE.imp O (ck' call57 (den_ok q Z) O ?_)))))
  refine OkE.back sr (OkE.imp O (ck' call95 (Kb q.den Z) O (OkE.back sr (Aq (v:=(Value.string (E5 q.num++ByteArray.mk #[47]++Ic q.den))) O (Bz (r:=(E5 q.num++ByteArray.mk #[47]++Ic q.den)) O O (by rw [ByteArray.size_append,N6];exact Nat.le_trans (Nat.add_le_add_right (Nat.add_le_add_right hs 1) 1) (by decide)) O) (pS' O ?_)))))
  exact OkE.nil (AC.subF (sL [1,2] O) (AC.then_ (AF.ret (AI O (AY (v:=(Value.string (E5 q.num++ByteArray.mk #[47]++Ic q.den))) O) (λw hw=>⟨by rw [he],hw.out⟩)))))
end
theorem Y3 (a b:Pt):(a+b).x=a.x+b.x:=rfl
theorem Y0 (a b:Pt):(a+b).y=a.y+b.y:=rfl
theorem RC (a:Pt) (k:Rat):(Hu a k).x=a.x*k:=rfl
theorem RG (a:Pt) (k:Rat):(Hu a k).y=a.y*k:=rfl
theorem Ca (a b c:Pt):AX a b c=(b.x-a.x)*(c.y-a.y)-(b.y-a.y)*(c.x-a.x):=rfl
theorem Ru {q:Rat} (h:q<0):q.num.sign = -1:=by
  have h1:¬0<=q.num:=λe=>by have:=Rat.num_nonneg.1 e;grind
  exact Int.sign_eq_neg_one_of_neg Z
theorem NW {q:Rat} (h:0<q):q.num.sign=1:=by
  have h1:0<=q.num:=Rat.num_nonneg.2 (by grind)
  have h2:q.num≠0:=λe=>by have:=Rat.num_eq_zero.1 e;grind
  exact Int.sign_eq_one_of_pos Z
theorem O3 {q:Rat} (h:q=0):q.num.sign=0:=by subst h;rfl
theorem Fq (a b c:Pt):AX b c a=AX a b c:=by simp only [Ca];grind
section
theorem Xm (a b:Int):(decide (a.natAbs=b.natAbs)&&((decide (a<0) == decide (b<0))&&true))=decide (a=b):=by
  by_cases e:a=b
  · subst e;simp
  · rw [decide_eq_false e]
    by_cases h1:a<0<;>by_cases h2:b<0<;>simp [h1,h2]<;>omega
theorem X_ (D:Nat) (a b:Int):GU prog (D+4) 46 (.agg (BG a).toArray) (.agg (BG b).toArray) (decide (a=b)):=by
  rw [<-Xm]
  exact GU.struct underlying46 Tryz.stoodInHeld46 (IZ.agg (us:=Ab a.natAbs) (bs:=Ab b.natAbs) (by decide) isAgg44 sizeOf44 O O (Of D _ _) (IZ.one (by decide) isAgg4 O O (GU.bool underlying4) IZ.nil))
theorem Uv (a b:Rat):(decide (a.num=b.num)&&(decide (a.den-1=b.den-1)&&true))=decide (a=b):=by
  by_cases e:a=b
  · subst e;simp
  · rw [decide_eq_false e]
    have h1:=a.den_pos
    have h2:=b.den_pos
    simp only [Bool.and_true,Bool.and_eq_false_iff,decide_eq_false_iff_not]
    apply Classical.byContradiction
    intro h
    refine e (Rat.ext ?_ ?_)
    · exact Classical.byContradiction λk=>h (.inl k)
    · exact Classical.byContradiction λk=>h (.inr Z)
theorem OW (D:Nat) (a b:Rat):GU prog (D+5) 48 (.agg (AO a).toArray) (.agg (AO b).toArray) (decide (a=b)):=by
  rw [<-Uv]
  exact GU.struct underlying48 Tryz.stoodInHeld48 (IZ.agg (us:=BG a.num) (bs:=BG b.num) (by decide) isAgg46 sizeOf46 O O (X_ D _ _) (IZ.agg (us:=Ab (a.den-1)) (bs:=Ab (b.den-1)) (by decide) isAgg42 sizeOf42 O O (HN (D+2) _ _) IZ.nil))
instance:DecidableEq Pt:=λa b=>decidable_of_iff (a.x=b.x/\a.y=b.y) ⟨λh=>Pt.ext h.1 h.2,λh=>h▸⟨rfl,rfl⟩⟩
theorem Zy (a b:Pt):(decide (a.x=b.x)&&(decide (a.y=b.y)&&true))=decide (a=b):=by
  by_cases e:a=b
  · subst e;simp
  · rw [decide_eq_false e]
    simp only [Bool.and_true,Bool.and_eq_false_iff,decide_eq_false_iff_not]
    apply Classical.byContradiction
    intro h
    refine e (Pt.ext ?_ ?_)
    · exact Classical.byContradiction λk=>h (.inl k)
    · exact Classical.byContradiction λk=>h (.inr k)
theorem aS (D:Nat) (a b:Pt):GU prog (D+6) 51 (.agg (Am a).toArray) (.agg (Am b).toArray) (decide (a=b)):=by
  rw [<-Zy]
  exact GU.struct underlying51 Tryz.stoodInHeld51 (IZ.agg (us:=AO a.x) (bs:=AO b.x) (by decide) isAgg48 sizeOf48 O O (OW D _ _) (IZ.agg (us:=AO a.y) (bs:=AO b.y) (by decide) isAgg48 sizeOf48 O O (OW D _ _) IZ.nil))
section
variable {P:Program}
def Yn (P:Program) (D:Nat) (e:TypeId) (c:Nat) (xs ys:List Value) (is:List Nat) (b:Bool):Prop:=∀w,(Go.Op.eqItems D e c xs.toArray ys.toArray is).run P w=.ok b w
theorem Yn.nil {D c:Nat} {e:TypeId} {xs ys:List Value}:Yn P D e c xs ys [] true:=λw=>rfl
theorem GU.array {D n c:Nat} {T e:TypeId} {xs ys:List Value} {b:Bool} (hu:P.underlying T=some (.array n e)) (hi:∃i,P.info? e=some i) (hc:P.cellsOf e=c) (h:Yn P D e c xs ys (List.range n) b) :
    GU P (D+1) T (.agg xs.toArray) (.agg ys.toArray) b:=λw=>by
  obtain ⟨i,hi⟩:=hi
  rw [Go.run_equalIn_array w D xs.toArray ys.toArray hu hi,hc]
  exact h w
end
section
variable {P:Program} {n:Nat} {F:List (Nat×Value)} {w0:BJ} {L:List As} {x y:Operand} {d:Option Tmp} {t:TypeId} {p:String} {af:Array Edge} {g:Option (Nat×Bool)}
end
end
section
structure QD where
  n:Int
  d:Nat
structure PD where
  x:QD
  y:QD
def Q0 (q:QD):List Value:=[.int .i64 q.n,.int .u32 (q.d:Nat)]
def Zl (p:PD):List Value:=Q0 p.x++Q0 p.y
def QD.ok (q:QD):Prop := -9223372036854775808<=q.n/\q.n<9223372036854775808/\q.d<4294967296
def PD.ok (p:PD):Prop:=p.x.ok/\p.y.ok
def Iy (q:QD):Rat:=((q.n:Int):Rat)/(((max q.d 1:Nat):Int):Rat)
def CC (p:PD):Pt:=⟨Iy p.x,Iy p.y⟩
theorem Wa {q:QD} (h:q.ok):Sz (Iy q)<=4:=by
  obtain ⟨h1,h2,h3⟩:=h
  have s1:=Ht h1 h2
  have s2:=Ht (z:=((max q.d 1:Nat):Int)) Z Z
  have hb:(((max q.d 1:Nat):Int):Rat)≠0:=λe=>by
    have:((max q.d 1:Nat):Int)=0:=by exact_mod_cast e
    omega
  have:=It (a:=((q.n:Int):Rat)) hb
  unfold Iy
  omega
theorem WI {p:PD} (h:p.ok):B_ (CC p)<=4:=Uk (Wa h.1) (Wa h.2)
section
variable {P:Program} {w:World} {r:Reach} {base:Nat}
end
section
variable {P:Program} {w:World} {r:Reach} {base:Nat} {t:TypeId} {v:Value} {ts:List TypeId}
end
end
section
def rowsL {α:Type} (enc:α->List Value) (xs:List α):List Value:=xs.flatMap enc
section
variable {α:Type} {enc:α->List Value} {z:Nat}
theorem BP (xs ys:List α):rowsL enc (xs++ys)=rowsL enc xs++rowsL enc ys:=by simp [rowsL]
theorem Ak (h:∀x,(enc x).length=z) (xs:List α):(rowsL enc xs).length=xs.length*z:=by
  induction xs with
  | nil=>simp [rowsL]
  | cons x r ih =>
    have e:rowsL enc (x::r)=enc x++rowsL enc r:=rfl
    rw [e,List.length_append,ih,h,List.length_cons,Nat.add_mul];omega
theorem A7 (h:∀x,(enc x).length=z) (d:α):∀(xs:List α) (j:Nat),j<xs.length->((rowsL enc xs).drop (j*z)).take z=enc (xs.getD j d)
  | x::r,0,_=>by
    have e:rowsL enc (x::r)=enc x++rowsL enc r:=rfl
    rw [e,Nat.zero_mul,List.drop_zero,List.take_append_of_le_length (by rw [h];exact Nat.le_refl _),List.take_of_length_le (by rw [h];exact Nat.le_refl _)];rfl
  | x::r,j+1,hj=>by
    have e:rowsL enc (x::r)=enc x++rowsL enc r:=rfl
    rw [e,show (j+1)*z=(enc x).length+j*z by rw [h,Nat.add_mul];omega,List.drop_append,List.drop_of_length_le Z,Nat.add_sub_cancel_left,List.nil_append,A7 h d r j (by simpa using hj)];rfl
end
structure RX (cs:List Value) (n:Nat) where
  p:Option Addr
  c:Nat
  ok:BF p n c
@[reducible] def RX.val {cs:List Value} {n:Nat} (a:RX cs n):Value:=.slice a.p n a.c
@[reducible] def RX.row {cs:List Value} {n:Nat} (a:RX cs n):As:=AQ a.p cs
instance {cs:List Value} {n:Nat}:DN (RX cs n):=⟨λa=>.slice a.p n a.c,λa=>[AQ a.p cs],λa y hy=>by rcases List.mem_singleton.1 hy with rfl;rfl⟩
theorem YS {S:Nat->Prop} {W w:World} {L:List As} (hw:BN ⟨W,none⟩ w L) (i:Nat) {p:Option Addr} {T:TypeId} {z n c:Nat} {cs:List Value} (hi:L[i]?=some (rowW p T z n c cs)) (ho:OwnOk p n c) (hl:cs.length=n*z) {v:Value} (hv:v=.slice p n c):Aw (RX cs n) S W (.returned v) w:=by
  have hb:=hw.newRow hi
  refine ⟨⟨p,c,ho.row⟩,by rw [hv];rfl,hw.out,λy hy=>?_⟩
  rcases List.mem_singleton.1 hy with rfl
  refine ⟨λd e=>?_,λd e=>.inl (hb d e)⟩
  obtain ⟨_,o,ho2,hp⟩:=hw.2.1 _ (List.mem_of_getElem? hi) d e
  exact ⟨o,ho2,Cg ho hl hp⟩
def CF (xs:List Nat):List Value:=xs.map λx=>Value.int .u8 (x:Nat)
theorem UV {xs:List Nat} {j:Nat} (h:j<xs.length):(CF xs)[j*1]?=some (.int .u8 ((xs.getD j 0:Nat):Int)):=by rw [Nat.mul_one];simp [CF,h]
structure MQ where
  nx:Nat
  ny:Nat
  cs:List Nat
  p:Option Addr
  cap:Nat
  a:Int
  b:Int
  c:Int
  d:Int
  den:Nat
  fst:Nat
  hx:nx<256
  hy:ny<256
  ha:-128<=a/\a<=127
  hb:-128<=b/\b<=127
  hc:-128<=c/\c<=127
  hd:-128<=d/\d<=127
  hden:den<256
  hfst:fst<256
  hcs:∀x∈cs,x<256
  ok:BF p cs.length cap
def DZ (m:MQ):List Value:=[.int .u8 m.nx,.int .u8 m.ny,.slice m.p m.cs.length m.cap,.int .i8 m.a,.int .i8 m.b,.int .i8 m.c,.int .i8 m.d,.int .u8 m.den,.int .u8 m.fst]
instance:DN MQ:=⟨λm=>aG (DZ m),λm=>[AQ m.p (CF m.cs)],λa y hy=>by rcases List.mem_singleton.1 hy with rfl;rfl⟩
theorem M8 {a b:Nat} (h:a<256):IntKind.u8.wrap ((a:Int).tdiv (b:Int))=((a/b:Nat):Int):=by
  have:a/b<=a:=Nat.div_le_self _ _
  rw [<-Int.ofNat_tdiv]
  generalize a/b=q at *
  exact N0 Z Z
theorem RI {a b:Nat} (h:a+b<256):IntKind.u8.wrap ((a:Int)+(b:Int))=((a+b:Nat):Int):=by rw [N0 Z Z];omega
abbrev P2:=Nat×Nat
def Cu (nx way i:Nat):List (P2×P2×P2) :=
  let x:=2*(i%nx);let y:=2*(i/nx)
  if way<3\/(way=7/\i=0) then [((x,y),(x+2,y),(x+2,y+2)),((x,y),(x+2,y+2),(x,y+2))]
  else if way<5 then [((x,y),(x+2,y),(x,y+2)),((x+2,y),(x+2,y+2),(x,y+2))]
  else if way<7 then [((x,y),(x+2,y),(x+1,y+1)),((x+2,y),(x+2,y+2),(x+1,y+1)),((x+2,y+2),(x,y+2),(x+1,y+1)),((x,y+2),(x,y),(x+1,y+1))] else []
def Bv (p q r:P2):Int:=((q.1:Int)-p.1)*((r.2:Int)-p.2)-((q.2:Int)-p.2)*((r.1:Int)-p.1)
def RS (t:P2×P2×P2):Prop:=0<Bv t.1 t.2.1 t.2.2/\(t.1.1<=6/\t.1.2<=6)/\(t.2.1.1<=6/\t.2.1.2<=6)/\(t.2.2.1<=6/\t.2.2.2<=6)
theorem Tk {nx ny way i:Nat} (hx:nx<=3) (hy:ny<=3) (hi:i<nx*ny):∀t∈Cu nx way i,RS t:=by
  have h1:i%nx<=2:=by
    have:nx≠0:=λe=>by subst e;omega
    have:=Nat.mod_lt i (show 0<nx by omega)
    omega
  have h2:i/nx<=2:=by
    have:i/nx<ny:=Nat.div_lt_of_lt_mul (by rwa [Nat.mul_comm] at hi ⊢)
    omega
  intro t ht
  unfold Cu at ht
  generalize i%nx=u at *
  generalize i/nx=v at *
  have key:∀t:P2×P2×P2,t∈[((2*u,2*v),(2*u+2,2*v),(2*u+2,2*v+2)),((2*u,2*v),(2*u+2,2*v+2),(2*u,2*v+2)),((2*u,2*v),(2*u+2,2*v),(2*u,2*v+2)),((2*u+2,2*v),(2*u+2,2*v+2),(2*u,2*v+2)),
      ((2*u,2*v),(2*u+2,2*v),(2*u+1,2*v+1)),((2*u+2,2*v),(2*u+2,2*v+2),(2*u+1,2*v+1)),((2*u+2,2*v+2),(2*u,2*v+2),(2*u+1,2*v+1)),((2*u,2*v+2),(2*u,2*v),(2*u+1,2*v+1))]->RS t:=by
    intro t ht
    simp only [List.mem_cons,List.not_mem_nil,or_false] at ht
    rcases ht with rfl|rfl|rfl|rfl|rfl|rfl|rfl|rfl<;>refine ⟨?_,⟨?_,?_⟩,⟨?_,?_⟩,?_,?_⟩<;>dsimp only [Bv]<;>first|omega|grind
  refine key t ?_
  simp only at ht
  split at ht
  · simp only [List.mem_cons,List.not_mem_nil,or_false] at ht ⊢;rcases ht with h|h<;>simp [h]
  · split at ht
    · simp only [List.mem_cons,List.not_mem_nil,or_false] at ht ⊢;rcases ht with h|h<;>simp [h]
    · split at ht
      · simp only [List.mem_cons,List.not_mem_nil,or_false] at ht ⊢;rcases ht with h|h|h|h<;>simp [h]
      · cases ht
theorem S4 (nx way i:Nat):(Cu nx way i).length<=4:=by
  unfold Cu;simp only;split
  · simp
  · split
    · simp
    · split<;>simp
theorem PH (nx way:Nat) (h:way<8):Cu nx way 0≠[]:=by
  unfold Cu;simp only;split
  · simp
  · split
    · simp
    · split
      · simp
      · rename_i h1 h2 h3;simp only [and_true,not_or] at h1;omega
section
variable {nx way i u v:Nat}
theorem Yf (hu:u=i%nx) (hv:v=i/nx) (h:way<3\/(way=7/\i=0)):Cu nx way i=[((2*u,2*v),(2*u+2,2*v),(2*u+2,2*v+2)),((2*u,2*v),(2*u+2,2*v+2),(2*u,2*v+2))]:=by
  subst hu;subst hv;exact if_pos h
theorem XJ (hu:u=i%nx) (hv:v=i/nx) (h0:¬(way<3\/(way=7/\i=0))) (h:way<5):Cu nx way i=[((2*u,2*v),(2*u+2,2*v),(2*u,2*v+2)),((2*u+2,2*v),(2*u+2,2*v+2),(2*u,2*v+2))]:=by
  subst hu;subst hv;exact (if_neg h0).trans (if_pos h)
theorem XP (hu:u=i%nx) (hv:v=i/nx) (h0:¬(way<3\/(way=7/\i=0))) (h1:¬way<5) (h:way<7):Cu nx way i=[((2*u,2*v),(2*u+2,2*v),(2*u+1,2*v+1)),((2*u+2,2*v),(2*u+2,2*v+2),(2*u+1,2*v+1)),((2*u+2,2*v+2),(2*u,2*v+2),(2*u+1,2*v+1)),((2*u,2*v+2),(2*u,2*v),(2*u+1,2*v+1))]:=by
  subst hu;subst hv;exact (if_neg h0).trans ((if_neg h1).trans (if_pos h))
theorem XQ (h0:¬(way<3\/(way=7/\i=0))) (h1:¬way<5) (h:¬way<7):Cu nx way i=[]:=(if_neg h0).trans ((if_neg h1).trans (if_neg h))
end
def BH (p:P2):List Value:=[vN p.1,vN p.2]
theorem C9 (p:P2):(BH p).length=2:=rfl
def BI (t:P2×P2×P2):List Value:=BH t.1++BH t.2.1++BH t.2.2
theorem Fk (t:P2×P2×P2):(BI t).length=6:=rfl
def Ai (t:Nat×Nat×Nat):List Value:=[vN t.1,vN t.2.1,vN t.2.2]
theorem Az (t:Nat×Nat×Nat):(Ai t).length=3:=rfl
def CG (z:Int×Int):List Value:=[.int .i64 z.1,.int .i64 z.2]
theorem EX (z:Int×Int):(CG z).length=2:=rfl
def Gg (m:MQ) (i:Nat):Nat:=if 0<m.cs.length then m.cs.getD (i%m.cs.length) 0%8 else 0
theorem Ra (m:MQ) (i:Nat):Gg m i<8:=by unfold Gg;split<;>omega
def F0 (m:MQ):Nat:=1+m.nx%3
def SP (m:MQ):Nat:=1+m.ny%3
def EP (m:MQ):Nat->List (P2×P2×P2)
  | 0=>[]
  | i+1=>EP m i++Cu (F0 m) (Gg m i) i
def BE (m:MQ):List (P2×P2×P2):=EP m (F0 m*SP m)
theorem Iq (m:MQ):1<=F0 m/\F0 m<=3:=by unfold F0;omega
theorem Ig (m:MQ):1<=SP m/\SP m<=3:=by unfold SP;omega
theorem Hp (m:MQ):∀i,(EP m i).length<=4*i
  | 0=>Nat.le_refl _
  | i+1=>by
    have h1:=Hp m i
    have h2:=S4 (F0 m) (Gg m i) i
    show (EP m i++Cu (F0 m) (Gg m i) i).length<=_
    rw [List.length_append];omega
theorem Mt (m:MQ):∀i,i<=F0 m*SP m->∀t∈EP m i,RS t
  | 0,_,t,ht=>by cases ht
  | i+1,hi,t,ht=>by
    rcases List.mem_append.1 ht with h|h
    · exact Mt m i Z t h
    · exact Tk (Iq m).2 (Ig m).2 Z t h
theorem ME (m:MQ):∀i,1<=i->EP m i≠[]
  | 1,_=>by
    show []++Cu (F0 m) (Gg m 0) 0≠[]
    rw [List.nil_append];exact PH _ _ (Ra m 0)
  | i+2,_=>λe=>ME m (i+1) Z (List.append_eq_nil_iff.1 e).1
theorem TY (m:MQ):BE m≠[]:=ME m _ (Nat.mul_pos (Iq m).1 (Ig m).1)
theorem HQ (m:MQ):∀t∈BE m,RS t:=Mt m _ (Nat.le_refl _)
theorem JD (m:MQ):F0 m*SP m<=9:=Nat.mul_le_mul (Iq m).2 (Ig m).2
theorem GI (m:MQ):(BE m).length<=36:=by
  have h1:=Hp m (F0 m*SP m)
  have h2:=JD m
  unfold BE;omega
theorem DD {a b:Int} {k:Int} (ha:-3<=a/\a<=3) (hb:-k<=b/\b<=k):-(3*k)<=a*b/\a*b<=3*k:=by
  obtain ⟨h3,h4⟩:=ha
  have e:a = -3\/a = -2\/a = -1\/a=0\/a=1\/a=2\/a=3:=by omega
  rcases e with rfl|rfl|rfl|rfl|rfl|rfl|rfl<;>omega
def Wp (k:Int×Int×Int×Int):List Value:=[.int .i64 k.1,.int .i64 k.2.1,.int .i64 k.2.2.1,.int .i64 k.2.2.2]
structure DH where
  a:Int
  b:Int
  c:Int
  d:Int
def DH.det (k:DH):Int:=k.a*k.d-k.b*k.c
structure DH.Ok (k:DH):Prop where
  a:-3<=k.a/\k.a<=3
  b:-3<=k.b/\k.b<=3
  c:-3<=k.c/\k.c<=3
  d:-3<=k.d/\k.d<=3
  pos:0<k.det
def DH.at_ (k:DH) (p:P2):Int×Int:=(k.a*p.1+k.b*p.2,k.c*p.1+k.d*p.2)
def F8 (a b c d:Int):DH :=
  let k:DH:=⟨a.tmod 4,b.tmod 4,c.tmod 4,d.tmod 4⟩
  if k.det=0 then ⟨1,0,0,1⟩ else if k.det<0 then ⟨k.a,k.b,-k.c,-k.d⟩ else k
theorem JN (a:Int):-3<=a.tmod 4/\a.tmod 4<=3:=by
  have h:=Int.tmod_eq_emod (a:=a) (b:=4)
  have h1:=Int.emod_nonneg a (show (4:Int)≠0 by decide)
  have h2:=Int.emod_lt_of_pos a (show (0:Int)<4 by decide)
  rw [h]
  split<;>omega
theorem Nu {a b c d A B C D:Int} (hA:A=a.tmod 4) (hB:B=b.tmod 4) (hC:C=c.tmod 4) (hD:D=d.tmod 4) (h:A*D-B*C=0):F8 a b c d=⟨1,0,0,1⟩:=by
  subst hA;subst hB;subst hC;subst hD;exact if_pos h
theorem No {a b c d A B C D:Int} (hA:A=a.tmod 4) (hB:B=b.tmod 4) (hC:C=c.tmod 4) (hD:D=d.tmod 4) (h:A*D-B*C<0):F8 a b c d=⟨A,B,-C,-D⟩:=by
  subst hA;subst hB;subst hC;subst hD;exact (if_neg (λe:a.tmod 4*d.tmod 4-b.tmod 4*c.tmod 4=0=>by rw [e] at h;omega)).trans (if_pos h)
theorem Mv {a b c d A B C D:Int} (hA:A=a.tmod 4) (hB:B=b.tmod 4) (hC:C=c.tmod 4) (hD:D=d.tmod 4) (h0:¬A*D-B*C=0) (h:¬A*D-B*C<0):F8 a b c d=⟨A,B,C,D⟩:=by
  subst hA;subst hB;subst hC;subst hD;exact (if_neg h0).trans (if_neg h)
theorem Em (a b c d:Int):(F8 a b c d).Ok:=by
  have ha:=JN a;have hb:=JN b;have hc:=JN c;have hd:=JN d
  unfold F8
  generalize a.tmod 4=a' at *
  generalize b.tmod 4=b' at *
  generalize c.tmod 4=c' at *
  generalize d.tmod 4=d' at *
  show (if a'*d'-b'*c'=0 then (⟨1,0,0,1⟩:DH) else if a'*d'-b'*c'<0 then ⟨a',b',-c',-d'⟩ else ⟨a',b',c',d'⟩).Ok
  by_cases h0:a'*d'-b'*c'=0
  · rw [if_pos h0];exact ⟨by decide,by decide,by decide,by decide,by decide⟩
  · rw [if_neg h0]
    by_cases h:a'*d'-b'*c'<0
    · rw [if_pos h];exact ⟨ha,hb,by dsimp only;omega,by dsimp only;omega,by show 0<a' * -d'-b' * -c';rw [Int.mul_neg,Int.mul_neg];omega⟩
    · rw [if_neg h];exact ⟨ha,hb,hc,hd,by show 0<a'*d'-b'*c';omega⟩
theorem PG {k:DH} (h:k.Ok) {p:P2} (hp:p.1<=6/\p.2<=6):(-36<=(k.at_ p).1/\(k.at_ p).1<=36) /\ -36<=(k.at_ p).2/\(k.at_ p).2<=36:=by
  obtain ⟨x,y⟩:=p
  have key:∀(z:Int) (n:Nat),-3<=z/\z<=3->n<=6 -> -18<=z*n/\z*n<=18:=λz n h1 h2=>by
    obtain ⟨h3,h4⟩:=h1
    have e:z = -3\/z = -2\/z = -1\/z=0\/z=1\/z=2\/z=3:=by omega
    rcases e with rfl|rfl|rfl|rfl|rfl|rfl|rfl<;>omega
  have h1:=key k.a x h.a hp.1;have h2:=key k.b y h.b hp.2;have h3:=key k.c x h.c hp.1;have h4:=key k.d y h.d hp.2
  simp only [DH.at_]
  exact ⟨⟨Z,Z⟩,Z,Z⟩
def Ge (k:DH) (den:Nat) (p:P2):PD:=⟨⟨(k.at_ p).1,den⟩,⟨(k.at_ p).2,den⟩⟩
theorem X1 {k:DH} (h:k.Ok) (den:Nat) {p q r:P2} (ht:0<Bv p q r):0<AX (CC (Ge k den p)) (CC (Ge k den q)) (CC (Ge k den r)):=by
  have hD:0<(((max den 1:Nat):Int):Rat):=by exact_mod_cast (show (0:Int)<((max den 1:Nat):Int) by omega)
  have e:AX (CC (Ge k den p)) (CC (Ge k den q)) (CC (Ge k den r))=((k.det*Bv p q r:Int):Rat)*((((max den 1:Nat):Int):Rat)⁻¹*(((max den 1:Nat):Int):Rat)⁻¹):=by
    simp only [Ca,CC,Ge,Iy,DH.at_,DH.det,Bv,Rat.div_def,Rat.intCast_add,Rat.intCast_mul,Rat.intCast_sub]
    generalize (((max den 1:Nat):Int):Rat)⁻¹=D
    grind
  rw [e]
  have h1:0<k.det*Bv p q r:=Int.mul_pos h.pos ht
  have h2:(0:Rat)<((k.det*Bv p q r:Int):Rat):=by exact_mod_cast h1
  have h3:=Rat.inv_pos.2 hD
  exact Rat.mul_pos h2 (Rat.mul_pos h3 h3)
end
end Go.Proofs.YtpgncndhhhllfaaGreatDoor
