import Derived.Test.YtpgncndhhhllfaaGreatDoorPart03
import Derived.Test.YtpgncndhhhllfaaGreatDoorPart06
import Derived.Test.YtpgncndhhhllfaaGreatDoorPart07
import Derived.Test.YtpgncndhhhllfaaGreatDoorPart08
import Derived.Test.YtpgncndhhhllfaaGreatDoorPart09
import Derived.Test.YtpgncndhhhllfaaGreatDoorPart20
namespace Go.Proofs.YtpgncndhhhllfaaGreatDoor
open Go Go.RowKit Go.Proofs.Tryz
set_option linter.unusedVariables false
set_option linter.unusedSimpArgs false
section
section
variable {P:Program} {n:Nat} {F:List (Nat×Value)} {w0:A_} {L:List As} {v:Value} {x lo hi:Operand} {d:Option Tmp} {t:TypeId} {p:String} {af:Array Edge} {g:Option (Nat×Bool)}
theorem IF {s r:ByteArray} {ki kj:IntKind} {i j:Nat} {tx:TypeId} (hx:evF F x=some (.string s)) (hl:evF F lo=some (.int ki (i:Nat))) (hh:evF F hi=some (.int kj (j:Nat))) (hu:P.underlying tx=some .string) (h1:i<=j) (h2:j<=s.size) (hr:s.extract i j=r) :
    Ex P n F w0 L ⟨d,.slice tx x (some lo) (some hi) none,t,p,af,g⟩ (.string r):=λA w ha _=>by
  subst hr
  simp only [execOp,ha.ev hx,Instr.sliceAt,run_underlying hu,Instr.slice,Option.map_some,Option.map_none,ha.ev hl,ha.ev hh,Instr.sliceBounds,Instr.sliceBound,asIntOf,Sem.run_bind,Result.andThen_ok,Sem.run_pure]
  simp [h1,h2]
end
def Hg (n:Nat):ByteArray:=⟨#[UInt8.ofNat (48+n)]⟩
theorem VH {s:ByteArray} (h:((List.range 10).all λn=>(s.extract n (n+1)).data.toList == (Hg n).data.toList)=true) {n:Nat} (hn:n<10):s.extract n (n+1)=Hg n:=by
  have h1:=List.all_eq_true.1 h n (List.mem_range.2 hn)
  have h2:(s.extract n (n+1)).data.toList=(Hg n).data.toList:=by simpa using h1
  cases hA:s.extract n (n+1) with|mk da=>cases hB:Hg n with|mk db =>
    rw [hA,hB] at h2
    congr 1
    exact Array.toList_inj.1 h2
def ER (z:Int):ByteArray:=if z<0 then ⟨#[45]⟩++Hg z.natAbs else Hg z.natAbs
def O3 (q:Rat):ByteArray:=if q.den-1=0 then ER q.num else ER q.num++⟨#[47]⟩++Hg q.den
theorem Mg (n:Nat):(Hg n).size=1:=rfl
theorem N_ (z:Int):(ER z).size<=2:=by
  unfold ER
  split
  · rw [ByteArray.size_append];exact Nat.le_refl 2
  · exact Nat.le_succ 1
end
section
set_option maxRecDepth 100000
theorem Q6 (n:Nat) (hn:n<10) (w:World)  :Calls Tryz.prog 256 #[(vN n)] w (Al w (Value.string (Hg n))):=by
 refine Aa (args:=[(vN n)]) Tryz.func256 rfl rfl (AV rfl) (AE.subF (sL [0] rfl) (q4 (asg' rfl (AD.nil (q1 ?_)))))
 refine q4 (AQ rfl (AK (Ai (c:=(decide (n<10))) rfl rfl (CI (a:=n) (b:=10))) rfl (AD.nil (AC.subF (sL [0,2,4] rfl) (AC.then_ ?_)))))
 refine AE.cond rfl (λhc0=>?_) (λhc0=>?_)
 ·replace hc0:=of_decide_eq_true hc0
  refine q4 (AQ rfl (AQ rfl (AK (Ac (c:=((n+1:Nat):Int)) rfl rfl (Ae (a:=n) (b:=1) (by omega))) rfl (AK (v:=(Value.string (Hg n))) (IF (i:=n) (j:=n+1) rfl rfl rfl Tryz.underlying9 (by omega) (Nat.le_trans (show n+1<=10 by omega) (by decide)) (VH (by kernel_rfl) hn)) rfl (asg' rfl ?_)))))
  exact AD.nil (AC.subF (sL [0,2] rfl) (AC.then_ (AE.ret (AC.then_ret (AJ rfl (AS (v:=(Value.string (Hg n))) rfl) (λw hw=>⟨rfl,hw.out⟩))))))
 ·replace hc0:=of_decide_eq_false hc0
  exfalso;omega
theorem Mq (n:Nat) (hn:n<10) (w:World)  :Calls Tryz.prog 208 #[(vK .u64 n),(vI 10)] w (Al w (Value.string (Hg n))):=by
 refine Aa (args:=[(vK .u64 n),(vI 10)]) Tryz.func208 rfl rfl (AV rfl) (AE.subF (sL [0,1] rfl) (q4 (asg' rfl (AD.nil (q1 ?_)))))
 refine q4 (AQ rfl (AK (BR (c:=true) rfl rfl (by decide)) rfl (AD.nil (AC.subF (sL [0,1,4,10] rfl) (AC.then_ ?_)))))
 refine AE.cond_true rfl (AE.seq (q4 (AQ rfl (AK (Ai (c:=(decide (n<100))) rfl rfl (CI (a:=n) (b:=100))) rfl (AD.nil ?_)))))
 refine AC.subF (sL [0,1,4,12] rfl) (AC.then_ ?_)
 refine AE.cond rfl (λhc1=>?_) (λhc1=>?_)
 ·replace hc1:=of_decide_eq_true hc1
  refine q4 (AQ rfl (AK (A6 (c:=((n:Nat):Int)) rfl Tryz.underlying40 Tryz.underlying3 (Dk (by omega))) rfl (ck' Tryz.call256 (Q6 n (by omega)) rfl (asg' rfl (AD.nil ?_)))))
  exact AC.subF (sL [0,1,4] rfl) (AC.then_ (AE.ret (AC.then_ret (AC.then_ret (AJ rfl (AS (v:=(Value.string (Hg n))) rfl) (λw hw=>⟨rfl,hw.out⟩))))))
 ·replace hc1:=of_decide_eq_false hc1
  exfalso;omega
theorem Pe (n:Nat) (hn:n<10) (w:World)  :Calls Tryz.prog 159 #[(vK .u64 n),(vI 10)] w (Al w (Value.string (Hg n))):=by
 refine Aa (args:=[(vK .u64 n),(vI 10)]) Tryz.func159 rfl rfl (AV rfl) (AE.subF (sL [0,1] rfl) (q4 (asg' rfl (AD.nil (q2 ?_)))))
 refine AQ rfl (AQ rfl (ck' Tryz.call208 (Mq n (by omega)) rfl (asg' rfl (AD.nil (AC.subF (sL [4] rfl) ?_)))))
 exact AC.then_ (AE.ret (AJ rfl (AS (v:=(Value.string (Hg n))) rfl) (λw hw=>⟨rfl,hw.out⟩)))
theorem JW (n:Nat) (hn:n<10) (w:World)  :Calls Tryz.prog 95 #[(aG (AY n))] w (Al w (Value.string (Hg n))):=by
 refine Aa (args:=[(aG (AY n))]) Tryz.func95 rfl rfl (AV rfl) (AE.subF (sL [0] rfl) (q4 (BU (cs:=AY n) rfl λb1=>asg' rfl (q6 (sL [1,2] rfl) ?_))))
 refine q4 (AK (v:=(pP b1 1)) (AA rfl Tryz.underlying42 rfl Tryz.sizeOf9 rfl) rfl (BJ 0 (Value.string (Bc n)) Pg rfl (AK (BV (c:=(decide (n<18446744073709551616))) rfl rfl B_) rfl (AD.nil (AC.subF (sL [1,2,10] rfl) ?_)))))
 refine AC.then_ ?_
 refine AE.cond rfl (λhc0=>?_) (λhc0=>?_)
 ·replace hc0:=of_decide_eq_true hc0
  refine q4 (AK (v:=(pP b1 0)) (AA rfl Tryz.underlying42 rfl Tryz.sizeOf40 rfl) rfl (BJ 0 (vK .u64 (Bs n)) FV rfl (AD.retell (k:=12) (u:=(vK .u64 n)) rfl (by rw [BY (by omega)]) (ck' Tryz.call159 (Pe n (by omega)) rfl (asg' rfl ?_)))))
  exact AD.nil (AC.subF (sL [1,2] rfl) (AC.then_ (AE.ret (AC.then_ret (AJ rfl (AS (v:=(Value.string (Hg n))) rfl) (λw hw=>⟨rfl,hw.out⟩))))))
 ·replace hc0:=of_decide_eq_false hc0
  exfalso;omega
theorem Lh (z:Int) (hz:z.natAbs<10) (w:World)  :Calls Tryz.prog 94 #[(aG (Az z))] w (Al w (Value.string (ER z))):=by
 refine Aa (args:=[(aG (Az z))]) Tryz.func94 rfl rfl (AV rfl) (AE.subF (sL [0] rfl) (q4 (BU (cs:=Az z) rfl λb1=>asg' rfl (q6 (sL [1,2] rfl) ?_))))
 refine q4 (AK (v:=(pP b1 2)) (AA rfl Tryz.underlying46 rfl Tryz.sizeOf4 rfl) rfl (BJ 0 (Value.bool (decide (z<0))) LT rfl (AD.nil (AC.subF (sL [1,2,4] rfl) (AC.then_ ?_)))))
 refine AE.cond rfl (λhc0=>?_) (λhc0=>?_)
 ·replace hc0:=of_decide_eq_true hc0
  have he:ER z=⟨#[45]⟩++Hg z.natAbs:=if_pos hc0
  refine q4 (AK (v:=(pP b1 0)) (AA rfl Tryz.underlying46 rfl Tryz.sizeOf44 rfl) rfl (AK (v:=(pP b1 0)) (AA rfl Tryz.underlying44 rfl Tryz.sizeOf42 rfl) rfl (Cf 0 (AY z.natAbs) Br rfl (ck' Tryz.call95 (JW z.natAbs (by omega)) rfl (AK (v:=(Value.string (ByteArray.mk #[45]++Hg z.natAbs))) (Bl (r:=(ByteArray.mk #[45]++Hg z.natAbs)) rfl rfl (by rw [Mg];decide) rfl) rfl ?_)))))
  exact asg' rfl (AD.nil (AC.subF (sL [1,2] rfl) (AC.then_ (AE.ret (AC.then_ret (AJ rfl (AS (v:=(Value.string (ByteArray.mk #[45]++Hg z.natAbs))) rfl) (λw hw=>⟨by rw [he],hw.out⟩)))))))
 ·replace hc0:=of_decide_eq_false hc0
  have he:ER z=Hg z.natAbs:=if_neg hc0
  refine AE.skip (q2 (AK (v:=(pP b1 0)) (AA rfl Tryz.underlying46 rfl Tryz.sizeOf44 rfl) rfl (AK (v:=(pP b1 0)) (AA rfl Tryz.underlying44 rfl Tryz.sizeOf42 rfl) rfl (Cf 0 (AY z.natAbs) Br rfl (ck' Tryz.call95 (JW z.natAbs (by omega)) rfl ?_)))))
  exact asg' rfl (AD.nil (AC.subF (sL [1,2] rfl) (AC.then_ (AE.ret (AJ rfl (AS (v:=(Value.string (Hg z.natAbs))) rfl) (λw hw=>⟨by rw [he],hw.out⟩))))))
theorem Qs (q:Rat) (hn:q.num.natAbs<10) (hd:q.den<10) (w:World)  :Calls Tryz.prog 38 #[(aG (AN q))] w (Al w (Value.string (O3 q))):=by
 have hs:=N_ q.num
 have hdn:nw q.den<=1099511627776:=Nat.le_trans (HJ (by omega)) (by omega)
 refine Aa (args:=[(aG (AN q))]) Tryz.func38 rfl rfl (AV rfl) (AE.subF (sL [0] rfl) (q4 (BU (cs:=AN q) rfl λb1=>asg' rfl (q6 (sL [1,2] rfl) ?_))))
 refine q4 (BG 0 Bf rfl (ck' Tryz.call53 (E6 q) rfl (AD.nil (AC.subF (sL [1,2,4] rfl) (AC.then_ ?_)))))
 refine AE.cond rfl (λhc0=>?_) (λhc0=>?_)
 ·replace hc0:=of_decide_eq_true hc0
  have he:O3 q=ER q.num:=if_pos hc0
  refine q4 (AK (v:=(pP b1 0)) (AA rfl Tryz.underlying48 rfl Tryz.sizeOf46 rfl) rfl (Cf 0 (Az q.num) Ci rfl (ck' Tryz.call94 (Lh q.num (by omega)) rfl (asg' rfl (AD.nil ?_)))))
  exact AC.subF (sL [1,2] rfl) (AC.then_ (AE.ret (AC.then_ret (AJ rfl (AS (v:=(Value.string (ER q.num))) rfl) (λw hw=>⟨by rw [he],hw.out⟩)))))
 ·replace hc0:=of_decide_eq_false hc0
  have he:O3 q=ER q.num++⟨#[47]⟩++Hg q.den:=if_neg hc0
  refine AE.skip (q1 (CS [(0,true),(1,true),(4,true),(2,false),(3,true),(5,false),(6,false),(7,true),(8,true)] sr (Ap (v:=(pP b1 0)) rfl (AA rfl Tryz.underlying48 rfl Tryz.sizeOf46 rfl) (GP 0 (Az q.num) Ci rfl (Df 0 Bf rfl ?_)))))
  refine OkE.imp rfl (ck' Tryz.call94 (Lh q.num (by omega)) rfl (OkE.back sr (Ap (v:=(Value.string (ER q.num++ByteArray.mk #[47]))) rfl (Bl (r:=(ER q.num++ByteArray.mk #[47])) rfl rfl (Nat.le_trans (Nat.add_le_add_right hs 1) (by decide)) rfl) (OkE.imp rfl (ck' Tryz.call57 (den_ok q (by omega)) rfl ?_)))))
  refine OkE.back sr (OkE.imp rfl (ck' Tryz.call95 (JW q.den (by omega)) rfl (OkE.back sr (Ap (v:=(Value.string (ER q.num++ByteArray.mk #[47]++Hg q.den))) rfl (Bl (r:=(ER q.num++ByteArray.mk #[47]++Hg q.den)) rfl rfl (by rw [ByteArray.size_append,Mg];exact Nat.le_trans (Nat.add_le_add_right (Nat.add_le_add_right hs 1) 1) (by decide)) rfl) (pS' rfl ?_)))))
  exact OkE.nil (AC.subF (sL [1,2] rfl) (AC.then_ (AE.ret (AJ rfl (AS (v:=(Value.string (ER q.num++ByteArray.mk #[47]++Hg q.den))) rfl) (λw hw=>⟨by rw [he],hw.out⟩)))))
end
section
set_option maxRecDepth 100000
theorem SG:ElemT Tryz.prog 71 3 1 8:=⟨Tryz.underlying71,EP (by kernel_rfl)⟩
theorem Fx (p:Option Addr) (c:Nat) (ds:List Nat) (hd:Hv ds) (ho:A7 p ds.length c) (hl:ds.length<=1099511627776) (w:World) (h:Holds w (AG p (dgL ds))):Calls Tryz.prog 200 #[(Value.slice p ds.length c)] w (Al w (Value.slice p ((dg (val10 ds)).length) c)):=by
 refine Aj (args:=[(Value.slice p ds.length c)]) (L:=[AG p (dgL ds)]) Tryz.func200 rfl rfl (AV rfl) (Bw rfl h (Ax)) (AE.subF (sL [0] rfl) (q4 (asg' rfl (AD.nil (q1 ?_)))))
 refine AE.block ?_
 refine AE.lp1 (tg λ(k:Nat)=>k<=ds.length/\val10 (ds.take k)=val10 ds) (tg λ(k:Nat)=>[(2,(Value.slice none 0 0)),(0,(Value.slice p k c))]) (tg λ(k:Nat)=>[AG p (dgL ds)]) (tg λ(k:Nat)=>k) ds.length (⟨Nat.le_refl _,by rw [List.take_length]⟩) (sF rfl) sr (λk hJ=>?_)
 obtain ⟨hk,hv⟩:=hJ
 have hok:A7 p k c:=⟨λe=>⟨by have:=(ho.nil e).1;omega,(ho.nil e).2⟩,ho.spot,Nat.le_trans hk ho.le⟩
 have hkc:=hok.le
 refine AE.seq (q4 (AQ rfl (AK (v:=(vN k)) (AF rfl Tryz.underlying71) rfl (AK (Bb (c:=(decide (0<k))) rfl rfl (CI (a:=0) (b:=k))) rfl (AQ rfl ?_)))))
 refine AD.mid (FM:=[(2,(Value.slice none 0 0)),(0,(Value.slice p k c)),(3,(Value.slice p k c)),(4,(vN k)),(5,(Value.bool (decide (0<k)))),(6,(Value.bool (decide (0<k)))),(14,(Value.bool ((decide (0<k))&&(decide ((ds.getD (k-1) 0)=0)))))]) (LM:=[AG p (dgL ds)]) 8 ?_ ?_
 ·rcases Bool.eq_false_or_eq_true (decide (0<k)) with hg1|hg1
  ·skip
   refine AD.retell (k:=6) (u:=Value.bool true) rfl (by rw [hg1]) ?_
   have hg1':=hg1
   replace hg1':=of_decide_eq_true hg1'
   refine AD.step (v:=(Value.slice p k c)) (AB rfl) (A9 rfl) rfl (AV rfl) (AD.step (v:=(Value.slice p k c)) (AB rfl) (A9 rfl) rfl (AV rfl) (AD.step (v:=(vN k)) (AB rfl) (AF rfl Tryz.underlying71) rfl (AV rfl) (AD.step (v:=(vN (k-1))) (AB rfl) (BQ (c:=((k-1:Nat):Int)) rfl rfl (Bv (a:=k) (b:=1) (by omega) (by omega))) rfl (AV rfl) (AD.step (v:=(pP (pB p) (pO p+(k-1)*1))) (AB rfl) (AO (j:=k-1) rfl rfl hok Tryz.underlying71 Tryz.sizeOf3 rfl (by omega)) rfl (AV rfl) (AD.step (v:=(vN (ds.getD (k-1) 0))) (AB rfl) (Ah (v:=(vN (ds.getD (k-1) 0))) (i:=0) rfl rfl (hok.ne (by omega)) Bo (DC (ds:=ds) (j:=k-1) (by omega))) rfl (AV rfl) ?_)))))
   exact AD.step (v:=(Value.bool (decide ((ds.getD (k-1) 0)=0)))) (AB rfl) (BR (c:=(decide ((ds.getD (k-1) 0)=0))) rfl rfl (LX (a:=ds.getD (k-1) 0) (b:=0))) rfl (AV rfl) (AK (v:=(Value.bool (decide ((ds.getD (k-1) 0)=0)))) (AX rfl rfl) rfl (AD.nil (AC.mid (sS rfl (sS rfl (sS rfl (sS rfl (sS rfl (sS (by first|rfl|(rw [hg1];rfl)|rw [hg1]) (sS (by first|rfl|(rw [hg1];rfl)|rw [hg1]) (sN)))))))) (List.Sublist.refl _))))
  ·skip
   refine AD.retell (k:=6) (u:=Value.bool false) rfl (by rw [hg1]) ?_
   have hg1':=hg1
   replace hg1':=of_decide_eq_false hg1'
   refine AD.skip (AH rfl) rfl (AV rfl) (AD.skip (AH rfl) rfl (AV rfl) (AD.skip (AH rfl) rfl (AV rfl) (AD.skip (AH rfl) rfl (AV rfl) (AD.skip (AH rfl) rfl (AV rfl) (AD.skip (AH rfl) rfl (AV rfl) ?_)))))
   exact AD.skip (AH rfl) rfl (AV rfl) (AK (v:=(Value.bool false)) (AR rfl rfl) rfl (AD.nil (AC.mid (sS rfl (sS rfl (sS rfl (sS rfl (sS rfl (sS (by first|rfl|(rw [hg1];rfl)|rw [hg1]) (sS (by first|rfl|(rw [hg1];rfl)|rw [hg1]) (sN)))))))) (List.Sublist.refl _))))
 refine AD.nil (AC.subF (sL [2,0,14] rfl) (AC.then_ ?_))
 refine AE.cond rfl (λhc0=>?_) (λhc0=>?_)
 ·simp only [Bool.and_eq_true,Bool.or_eq_true,Bool.and_eq_false_iff,Bool.or_eq_false_iff,Bool.not_eq_true',Bool.not_eq_false',decide_eq_true_eq,decide_eq_false_iff_not] at hc0
  refine AE.skip (AC.then_ (AE.block (AE.region (AQ rfl (AQ rfl ?_)))))
  refine AK (v:=(vN k)) (AF rfl Tryz.underlying71) rfl (AK (BQ (c:=((k-1:Nat):Int)) rfl rfl (Bv (a:=k) (b:=1) (by omega) (by omega))) rfl (AK (v:=(Value.slice p (k-1) c)) (Fh (m:=k-1) rfl rfl Tryz.underlying71 Tryz.sizeOf3 (by omega)) rfl (asg' rfl (AD.nil (AC.subF (sL [2,0] rfl) ?_)))))
  exact AC.in_normal (AC.round1 (k-1) (⟨by omega,by rw [Jw (by omega) hc0.2,Nat.sub_add_cancel hc0.1,hv]⟩) (by omega) (sF rfl) sr)
 ·simp only [Bool.and_eq_true,Bool.or_eq_true,Bool.and_eq_false_iff,Bool.or_eq_false_iff,Bool.not_eq_true',Bool.not_eq_false',decide_eq_true_eq,decide_eq_false_iff_not] at hc0
  have htl:=SJ hd hk hv (hc0.imp (λh=>by omega) id)
  refine AE.exit (AC.then_exit (AC.round1_exit (AC.in_exit (q2 (AQ rfl ?_)))))
  exact asg' rfl (AD.nil (AC.subF (sL [2,0] rfl) (AC.then_ (AE.ret (AJ rfl (AS (v:=(Value.slice p k c)) rfl) (λw hw=>⟨by rw [<-htl],hw.out⟩))))))
theorem Kn (a:NV) (i:Nat) (hi:i<=1099511627776) (w:World) (ha:Holds w (nA a)):Calls Tryz.prog 199 #[(nV a),(vN i)] w (Al w (vN ((dg a.x).getD i 0))):=by
 refine Aj (args:=[(nV a),(vN i)]) (L:=[nA a]) Tryz.func199 rfl rfl (AV rfl) (Bw rfl ha (Ax)) (AE.subF (sL [0,1] rfl) (q4 (asg' rfl (AD.nil (q1 ?_)))))
 refine q4 (AQ rfl (AQ rfl (AK (v:=(vN ((dg a.x).length))) (AF rfl Tryz.underlying71) rfl (AK (Ai (c:=(decide (i<((dg a.x).length)))) rfl rfl (CI (a:=i) (b:=(dg a.x).length))) rfl (AD.nil ?_)))))
 refine AC.subF (sL [0,1,4,8] rfl) (AC.then_ ?_)
 refine AE.cond rfl (λhc0=>?_) (λhc0=>?_)
 ·replace hc0:=of_decide_eq_true hc0
  refine q4 (AQ rfl (AQ rfl (AK (v:=(pP (pB a.p) (pO a.p+i*1))) (AO (j:=i) rfl rfl a.ok Tryz.underlying71 Tryz.sizeOf3 rfl (by omega)) rfl (AK (Ah (v:=(vN ((dg a.x).getD i 0))) (i:=0) rfl rfl (a.ok.ne (by omega)) Bo (DC (ds:=dg a.x) (j:=i) (by omega))) rfl (asg' rfl ?_)))))
  exact AD.nil (AC.subF (sL [0,1,4] rfl) (AC.then_ (AE.ret (AC.then_ret (AJ rfl (AS (v:=(vN ((dg a.x).getD i 0))) rfl) (λw hw=>⟨rfl,hw.out⟩))))))
 ·replace hc0:=of_decide_eq_false hc0
  have hg:=DI hc0
  exact AE.skip (q2 (asg' rfl (AD.nil (AC.then_ (AE.ret (AJ rfl (AS (v:=(vI 0)) rfl) (λw hw=>⟨by rw [hg];rfl,hw.out⟩)))))))
theorem Ni (x:Nat) (hx:x<18446744073709551616) (w:World)  :Calls Tryz.prog 194 #[(vK .u64 x)] w (F1 w [] x):=by
 have hlen:(dg x).length<=5:=FD (by omega)
 refine Aa (args:=[(vK .u64 x)]) Tryz.func194 rfl rfl (AV rfl) (AE.subF (sL [0] rfl) (q4 (asg' rfl (AD.nil (q2 ?_)))))
 refine asg' rfl (AD.nilRow 3 1 (AD.nil (q1 (AE.block ?_))))
 refine AE.lp5 (tg λ(y:Nat) (p:Option Addr) (c:Nat) (k:Nat) (ds:List Nat)=>dg x=ds++dg y/\k=ds.length/\OwnOk p k c/\y<=x) (tg λ(y:Nat) (p:Option Addr) (c:Nat) (k:Nat) (ds:List Nat)=>[(2,(Value.slice none 0 0)),(0,(vK .u64 y)),(3,(Value.slice p k c))]) (tg λ(y:Nat) (p:Option Addr) (c:Nat) (k:Nat) (ds:List Nat)=>[rowW p 3 1 k c (dgL ds)]) (tg λ(y:Nat) (p:Option Addr) (c:Nat) (k:Nat) (ds:List Nat)=>y) x none 0 0 ([]) (⟨rfl,rfl,OwnOk.none,Nat.le_refl _⟩) (sF rfl) sr (λy p c k ds hJ=>?_)
 obtain ⟨hd,hk,ho,hy⟩:=hJ
 have hkl:k<=5:=by have:=congrArg List.length hd;rw [List.length_append] at this;omega
 refine AE.seq (q4 (AQ rfl (AK (Bb (c:=(decide (0<y))) rfl rfl (CI (a:=0) (b:=y))) rfl (AD.nil (AC.subF (sL [2,0,3,5] rfl) ?_)))))
 refine AC.then_ ?_
 refine AE.cond rfl (λhc0=>?_) (λhc0=>?_)
 ·replace hc0:=of_decide_eq_true hc0
  refine AE.skip (AC.then_ (AE.block (q4 (AQ rfl (AQ rfl ?_)))))
  refine AK (Cb (c:=((y%10000:Nat):Int)) rfl rfl (by omega) (Jm (a:=y) (b:=10000))) rfl (AK (A6 (c:=((y%10000:Nat):Int)) rfl Tryz.underlying40 Tryz.underlying3 (Dk (by omega))) rfl (AD.openV (V:=λb1=>(Value.slice (some ⟨b1,0,none⟩) 1 1)) (T:=3) (cs:=[(vN (y%10000))]) (AW rfl) (BI (cs:=[(vN (y%10000))]) (pv:=[(0,(vN (y%10000)))]) Tryz.underlying71 Tryz.sizeOf3 Tryz.zeroValue3 (by decide) (by decide) rfl (by kernel_rfl)) rfl (AV rfl) λb1=>AD.append1 (j:=0) (cs2:=dgL (ds++[y%10000])) SG rfl ho (by simp [CC];omega) rfl rfl rfl rfl (by decide) (KM (by omega)) (by omega) (by rw [EE];rfl) rfl λp_1 c_1 ho_1 hne_1=>asg' rfl (AD.nil ?_)))
  refine AC.subF (sL [2,0,3] rfl) (AC.then_ (AE.region (AQ rfl (AK (EH (c:=((y/10000:Nat):Int)) rfl rfl (by omega) (G1 (a:=y) (b:=10000) (by omega))) rfl (asg' rfl ?_)))))
  exact AD.nil (AC.subF (sL [2,0,3] rfl) (AC.in_normal (AC.round5 (y/10000) p_1 c_1 (k+1) (ds++[y%10000]) (⟨by rw [hd,Em (by omega),List.append_assoc];rfl,by simp [hk],ho_1,by omega⟩) (by omega) (sF rfl) (sl sr))))
 ·replace hc0:=of_decide_eq_false hc0
  refine AE.exit (AC.then_exit (AC.round5_exit (AC.in_exit (q2 (AQ rfl ?_)))))
  refine asg' rfl (AD.nil (AC.subF (sL [2,0,3] rfl) (AC.then_ (AE.ret ?_))))
  obtain rfl:y=0:=by omega
  rw [Ee,List.append_nil] at hd
  exact AJ rfl (AS (v:=(Value.slice p k c)) rfl) (λw hw=>St hw (i:=0) rfl ho hk (by rw [hd,List.take_length]) (by rw [hd,<-hk]))
end
section
set_option maxRecDepth 100000
theorem UY (a b:NV) (hla:(dg a.x).length<=549755813888) (hlb:(dg b.x).length<=549755813888) (w:World) (ha:Holds w (nA a)) (hb:Holds w (nA b)):Calls Tryz.prog 190 #[(nV a),(nV b)] w (F1 w [] (a.x+b.x)):=by
 refine Aj (args:=[(nV a),(nV b)]) (L:=[nA a,nA b]) Tryz.func190 rfl rfl (AV rfl) (Bw rfl ha (Bw rfl hb (Ax))) (AE.subF (sL [0,1] rfl) (q4 (asg' rfl (AD.nil (q2 ?_)))))
 refine asg' rfl (AD.nilRow 3 1 (AD.nil (q2 (asg' rfl (AD.nil ?_)))))
 refine q1 (q4 (asg' rfl (AD.nil (AC.then_ (AE.block ?_)))))
 refine AE.lp5 (tg λ(i:Nat) (cy:Nat) (p:Option Addr) (c:Nat) (ds:List Nat)=>Hv ds/\i=ds.length/\OwnOk p i c/\cy<=1/\val10 ds+10000^i*cy=val10 ((dg a.x).take i)+val10 ((dg b.x).take i)/\(i<=max (dg a.x).length (dg b.x).length\/i<=max (dg a.x).length (dg b.x).length+1/\cy=0)) (tg λ(i:Nat) (cy:Nat) (p:Option Addr) (c:Nat) (ds:List Nat)=>[(0,(nV a)),(1,(nV b)),(4,(Value.slice none 0 0)),(6,(vN cy)),(7,(vN i)),(5,(Value.slice p i c))]) (tg λ(i:Nat) (cy:Nat) (p:Option Addr) (c:Nat) (ds:List Nat)=>[rowW p 3 1 i c (dgL ds),nA a,nA b]) (tg λ(i:Nat) (cy:Nat) (p:Option Addr) (c:Nat) (ds:List Nat)=>max (dg a.x).length (dg b.x).length+2-i) 0 0 none 0 ([]) (⟨Oz,rfl,OwnOk.none,by omega,rfl,.inl (by omega)⟩) (sF rfl) sr (λi cy p c ds hJ=>?_)
 obtain ⟨hdd,hk,ho,hcy,hv,hm⟩:=hJ
 have ga:=FS a.x i
 have gb:=FS b.x i
 refine AE.seq (q4 (AQ rfl (AQ rfl (AK (v:=(vN ((dg a.x).length))) (AF rfl Tryz.underlying71) rfl (AK (Ai (c:=(decide (i<((dg a.x).length)))) rfl rfl (CI (a:=i) (b:=(dg a.x).length))) rfl ?_)))))
 refine AQ rfl ?_
 refine AD.mid (FM:=[(0,(nV a)),(1,(nV b)),(4,(Value.slice none 0 0)),(6,(vN cy)),(7,(vN i)),(5,(Value.slice p i c)),(9,(vN i)),(10,(nV a)),(11,(vN ((dg a.x).length))),(12,(Value.bool (decide (i<((dg a.x).length))))),(13,(Value.bool (decide (i<((dg a.x).length))))),(18,(Value.bool ((decide (i<((dg a.x).length)))||(decide (i<((dg b.x).length))))))]) (LM:=[rowW p 3 1 i c (dgL ds),nA a,nA b]) 5 ?_ ?_
 ·rcases Bool.eq_false_or_eq_true (decide (i<((dg a.x).length))) with hg1|hg1
  ·skip
   refine AD.retell (k:=13) (u:=Value.bool true) rfl (by rw [hg1]) ?_
   have hg1':=hg1
   replace hg1':=of_decide_eq_true hg1'
   exact AD.skip (AH rfl) rfl (AV rfl) (AD.skip (AH rfl) rfl (AV rfl) (AD.skip (AH rfl) rfl (AV rfl) (AD.skip (AH rfl) rfl (AV rfl) (AK (v:=(Value.bool true)) (AX rfl rfl) rfl (AD.nil (AC.mid (sS rfl (sS rfl (sS rfl (sS rfl (sS rfl (sS rfl (sS rfl (sS rfl (sS rfl (sS rfl (sS (by first|rfl|(rw [hg1];rfl)|rw [hg1]) (sS (by first|rfl|(rw [hg1];rfl)|rw [hg1]) (sN))))))))))))) (List.Sublist.refl _)))))))
  ·skip
   refine AD.retell (k:=13) (u:=Value.bool false) rfl (by rw [hg1]) ?_
   have hg1':=hg1
   replace hg1':=of_decide_eq_false hg1'
   exact AD.step (v:=(vN i)) (AB rfl) (A9 rfl) rfl (AV rfl) (AD.step (v:=(nV b)) (AB rfl) (A9 rfl) rfl (AV rfl) (AD.step (v:=(vN ((dg b.x).length))) (AB rfl) (AF rfl Tryz.underlying71) rfl (AV rfl) (AD.step (v:=(Value.bool (decide (i<((dg b.x).length))))) (AB rfl) (Ai (c:=(decide (i<((dg b.x).length)))) rfl rfl (CI (a:=i) (b:=(dg b.x).length))) rfl (AV rfl) (AK (v:=(Value.bool (decide (i<((dg b.x).length))))) (AR rfl rfl) rfl (AD.nil (AC.mid (sS rfl (sS rfl (sS rfl (sS rfl (sS rfl (sS rfl (sS rfl (sS rfl (sS rfl (sS rfl (sS (by first|rfl|(rw [hg1];rfl)|rw [hg1]) (sS (by first|rfl|(rw [hg1];rfl)|rw [hg1]) (sN))))))))))))) (List.Sublist.refl _)))))))
 refine AQ rfl ?_
 refine AD.mid (FM:=[(0,(nV a)),(1,(nV b)),(4,(Value.slice none 0 0)),(6,(vN cy)),(7,(vN i)),(5,(Value.slice p i c)),(9,(vN i)),(10,(nV a)),(11,(vN ((dg a.x).length))),(12,(Value.bool (decide (i<((dg a.x).length))))),(13,(Value.bool (decide (i<((dg a.x).length))))),(18,(Value.bool ((decide (i<((dg a.x).length)))||(decide (i<((dg b.x).length)))))),(19,(Value.bool ((decide (i<((dg a.x).length)))||(decide (i<((dg b.x).length)))))),(22,(Value.bool (((decide (i<((dg a.x).length)))||(decide (i<((dg b.x).length))))||(decide (0<cy)))))]) (LM:=[rowW p 3 1 i c (dgL ds),nA a,nA b]) 3 ?_ ?_
 ·rcases Bool.eq_false_or_eq_true ((decide (i<((dg a.x).length)))||(decide (i<((dg b.x).length)))) with hg2|hg2
  ·skip
   refine AD.retell (k:=19) (u:=Value.bool true) rfl (by rw [hg2]) ?_
   have hg2':=hg2
   simp only [Bool.and_eq_true,Bool.or_eq_true,Bool.and_eq_false_iff,Bool.or_eq_false_iff,Bool.not_eq_true',Bool.not_eq_false',decide_eq_true_eq,decide_eq_false_iff_not] at hg2'
   exact AD.skip (AH rfl) rfl (AV rfl) (AD.skip (AH rfl) rfl (AV rfl) (AK (v:=(Value.bool true)) (AX rfl rfl) rfl (AD.nil (AC.mid (sS rfl (sS rfl (sS rfl (sS rfl (sS rfl (sS rfl (sS rfl (sS rfl (sS rfl (sS rfl (sS rfl (sS rfl (sS (by first|rfl|(rw [hg2];rfl)|rw [hg2]) (sS (by first|rfl|(rw [hg2];rfl)|rw [hg2]) (sN))))))))))))))) (List.Sublist.refl _)))))
  ·skip
   refine AD.retell (k:=19) (u:=Value.bool false) rfl (by rw [hg2]) ?_
   have hg2':=hg2
   simp only [Bool.and_eq_true,Bool.or_eq_true,Bool.and_eq_false_iff,Bool.or_eq_false_iff,Bool.not_eq_true',Bool.not_eq_false',decide_eq_true_eq,decide_eq_false_iff_not] at hg2'
   exact AD.step (v:=(vN cy)) (AB rfl) (A9 rfl) rfl (AV rfl) (AD.step (v:=(Value.bool (decide (0<cy)))) (AB rfl) (Bb (c:=(decide (0<cy))) rfl rfl (CI (a:=0) (b:=cy))) rfl (AV rfl) (AK (v:=(Value.bool (decide (0<cy)))) (AR rfl rfl) rfl (AD.nil (AC.mid (sS rfl (sS rfl (sS rfl (sS rfl (sS rfl (sS rfl (sS rfl (sS rfl (sS rfl (sS rfl (sS rfl (sS rfl (sS (by first|rfl|(rw [hg2];rfl)|rw [hg2]) (sS (by first|rfl|(rw [hg2];rfl)|rw [hg2]) (sN))))))))))))))) (List.Sublist.refl _)))))
 refine AD.nil (AC.subF (sL [0,1,4,6,7,5,22] rfl) (AC.then_ ?_))
 refine AE.cond rfl (λhc0=>?_) (λhc0=>?_)
 ·simp only [Bool.and_eq_true,Bool.or_eq_true,Bool.and_eq_false_iff,Bool.or_eq_false_iff,Bool.not_eq_true',Bool.not_eq_false',decide_eq_true_eq,decide_eq_false_iff_not] at hc0
  refine AE.skip (q1 (AE.block (q4 (AQ rfl (AQ rfl ?_)))))
  have hz1:=FS a.x i
  refine CN Tryz.call199 (λw hw=>Kn a i (by omega) w (hw.holds (i:=1) rfl)) rfl (AQ rfl (AQ rfl ?_))
  have hz2:=FS b.x i
  refine CN Tryz.call199 (λw hw=>Kn b i (by omega) w (hw.holds (i:=2) rfl)) rfl (AK (Ac (c:=((((dg a.x).getD i 0)+((dg b.x).getD i 0):Nat):Int)) rfl rfl (Ae (a:=(dg a.x).getD i 0) (b:=(dg b.x).getD i 0) (by omega))) rfl (AQ rfl (AK (Ac (c:=(((((dg a.x).getD i 0)+((dg b.x).getD i 0))+cy:Nat):Int)) rfl rfl (Ae (a:=((dg a.x).getD i 0)+((dg b.x).getD i 0)) (b:=cy) (by omega))) rfl (asg' rfl (q3 (sL [0,1,4,6,7,5,8] rfl) ?_)))))
  refine AQ rfl (AQ rfl (AK (Cb (c:=((((((dg a.x).getD i 0)+((dg b.x).getD i 0))+cy)%10000:Nat):Int)) rfl rfl (by omega) (Jm (a:=(((dg a.x).getD i 0)+((dg b.x).getD i 0))+cy) (b:=10000))) rfl (AD.openV (V:=λb1=>(Value.slice (some ⟨b1,0,none⟩) 1 1)) (T:=3) (cs:=[(vN (((((dg a.x).getD i 0)+((dg b.x).getD i 0))+cy)%10000))]) (AW rfl) (BI (cs:=[(vN (((((dg a.x).getD i 0)+((dg b.x).getD i 0))+cy)%10000))]) (pv:=[(0,(vN (((((dg a.x).getD i 0)+((dg b.x).getD i 0))+cy)%10000)))]) Tryz.underlying71 Tryz.sizeOf3 Tryz.zeroValue3 (by decide) (by decide) rfl (by kernel_rfl)) rfl (AV rfl) λb1=>AD.append1 (j:=0) (cs2:=dgL (ds++[((((dg a.x).getD i 0)+((dg b.x).getD i 0))+cy)%10000])) SG rfl ho (by simp [CC];omega) rfl rfl rfl rfl (by decide) (KM (by omega)) (by omega) (by rw [EE];rfl) rfl λp_1 c_1 ho_1 hne_1=>asg' rfl ?_)))
  refine AD.nil (AC.subF (sL [0,1,4,6,7,5,8] rfl) (AC.then_ (AE.region (AQ rfl (AK (EH (c:=((((((dg a.x).getD i 0)+((dg b.x).getD i 0))+cy)/10000:Nat):Int)) rfl rfl (by omega) (ET (a:=(((dg a.x).getD i 0)+((dg b.x).getD i 0))+cy) (b:=10000) (by omega))) rfl ?_)))))
  refine asg' rfl (AD.nil (AC.subF (sL [0,1,4,6,7,5,8] rfl) (AC.in_normal (AC.then_ (AE.region ?_)))))
  refine AQ rfl (AK (Ac (c:=((i+1:Nat):Int)) rfl rfl (Ae (a:=i) (b:=1) (by omega))) rfl (asg' rfl (AD.nil (AC.subF (sL [0,1,4,6,7,5,8] rfl) ?_))))
  have hnx:i+1<=max (dg a.x).length (dg b.x).length\/i+1<=max (dg a.x).length (dg b.x).length+1/\((dg a.x).getD i 0+(dg b.x).getD i 0+cy)/10000=0:=by
            by_cases hi:i<max (dg a.x).length (dg b.x).length
            ·exact .inl (by omega)
            ·refine .inr ⟨by omega,?_⟩
             rw [DI (show ¬i<(dg a.x).length by omega),DI (show ¬i<(dg b.x).length by omega)]
             omega
  exact AC.round5 (i+1) (((dg a.x).getD i 0+(dg b.x).getD i 0+cy)/10000) p_1 c_1 (ds++[((dg a.x).getD i 0+(dg b.x).getD i 0+cy)%10000]) (⟨Lq hdd (by omega),by simp [hk],ho_1,by omega,by rw [Bp,Bp];exact SK hk hv rfl,hnx⟩) (by omega) (sF rfl) (sl sr)
 ·simp only [Bool.and_eq_true,Bool.or_eq_true,Bool.and_eq_false_iff,Bool.or_eq_false_iff,Bool.not_eq_true',Bool.not_eq_false',decide_eq_true_eq,decide_eq_false_iff_not] at hc0
  have hfin:val10 ds=a.x+b.x:=by rw [CV (by omega),CV (by omega),CJ,CJ,show cy=0 by omega] at hv;simpa using hv
  refine AE.exit (AC.then_exit (AC.round5_exit (AC.in_exit (q2 (AQ rfl ?_)))))
  exact CN (args:=[(Value.slice p i c)]) (v:=(Value.slice p ((dg (val10 ds)).length) c)) Tryz.call200 (λw hw=>(by have h9:=Fx p c ds hdd (by rw [<-hk];exact ho.row) (by omega) w (JX (hw.holds (i:=0) rfl) ho hk);rw [<-hk] at h9;exact h9)) rfl (asg' rfl (AD.nil (AC.subF (sL [0,1,4,6,7,5] rfl) (AC.then_ (AE.ret (AJ rfl (AS (v:=(Value.slice p ((dg (val10 ds)).length) c)) rfl) (λw hw=>St hw (i:=0) rfl ho hk (by rw [<-hfin];exact E3 hdd) (by rw [hfin]))))))))
theorem Oa (a b:NV) (hab:b.x<=a.x) (hla:(dg a.x).length<=549755813888) (w:World) (ha:Holds w (nA a)) (hb:Holds w (nA b)):Calls Tryz.prog 197 #[(nV a),(nV b)] w (F1 w [] (a.x-b.x)):=by
 have hlb:=G4 hab
 refine Aj (args:=[(nV a),(nV b)]) (L:=[nA a,nA b]) Tryz.func197 rfl rfl (AV rfl) (Bw rfl ha (Bw rfl hb (Ax))) (AE.subF (sL [0,1] rfl) (q4 (asg' rfl (AD.nil (q2 ?_)))))
 refine asg' rfl (AD.nilRow 3 1 (AD.nil (q2 (asg' rfl (AD.nil ?_)))))
 refine q1 (q4 (asg' rfl (AD.nil (AC.then_ (AE.block ?_)))))
 refine AE.lp5 (tg λ(i:Nat) (ld:Nat) (p:Option Addr) (c:Nat) (ds:List Nat)=>Hv ds/\i=ds.length/\OwnOk p i c/\ld<=1/\val10 ds+val10 ((dg b.x).take i)=val10 ((dg a.x).take i)+10000^i*ld/\i<=(dg a.x).length) (tg λ(i:Nat) (ld:Nat) (p:Option Addr) (c:Nat) (ds:List Nat)=>[(0,(nV a)),(1,(nV b)),(4,(Value.slice none 0 0)),(6,(vN ld)),(7,(vN i)),(5,(Value.slice p i c))]) (tg λ(i:Nat) (ld:Nat) (p:Option Addr) (c:Nat) (ds:List Nat)=>[rowW p 3 1 i c (dgL ds),nA a,nA b]) (tg λ(i:Nat) (ld:Nat) (p:Option Addr) (c:Nat) (ds:List Nat)=>(dg a.x).length-i) 0 0 none 0 ([]) (⟨Oz,rfl,OwnOk.none,by omega,rfl,by omega⟩) (sF rfl) sr (λi ld p c ds hJ=>?_)
 obtain ⟨hdd,hk,ho,hcy,hv,hm⟩:=hJ
 have ga:=FS a.x i
 have gb:=FS b.x i
 refine AE.seq (q4 (AQ rfl (AQ rfl (AK (v:=(vN ((dg a.x).length))) (AF rfl Tryz.underlying71) rfl (AK (Ai (c:=(decide (i<((dg a.x).length)))) rfl rfl (CI (a:=i) (b:=(dg a.x).length))) rfl ?_)))))
 refine AD.nil (AC.subF (sL [0,1,4,6,7,5,12] rfl) (AC.then_ ?_))
 refine AE.cond rfl (λhc0=>?_) (λhc0=>?_)
 ·replace hc0:=of_decide_eq_true hc0
  refine AE.skip (q1 (AE.block (AE.seq (CS [(0,true),(1,true),(2,true),(3,true),(4,true),(5,true),(8,true),(6,false),(7,true),(9,true),(10,true)] sr (BT rfl ?_)))))
  refine BT rfl (Ap (v:=(pP (pB a.p) (pO a.p+i*1))) rfl (AO (j:=i) rfl rfl a.ok Tryz.underlying71 Tryz.sizeOf3 rfl (by omega)) (Ap rfl (Ah (v:=(vN ((dg a.x).getD i 0))) (i:=1) rfl rfl (a.ok.ne (by omega)) Bo (DC (ds:=dg a.x) (j:=i) (by omega))) (BT rfl (BT rfl (BT rfl ?_)))))
  refine OkE.imp rfl ?_
  have hz1:=FS b.x i
  refine CN Tryz.call199 (λw hw=>Kn b i (by omega) w (hw.holds (i:=2) rfl)) rfl (OkE.back sr (Ap rfl (BQ (c:=((((dg a.x).getD i 0:Nat):Int)-(((dg b.x).getD i 0:Nat):Int))) rfl rfl (BS (by omega) (by omega))) (Ap rfl (BQ (c:=((((dg a.x).getD i 0:Nat):Int)-(((dg b.x).getD i 0:Nat):Int)-(ld:Int))) rfl rfl (BS (by omega) (by omega))) (pS' rfl (OkE.nil ?_)))))
  refine AC.subF (sL [0,1,4,6,7,5,8] rfl) (q2 (asg' rfl (AD.nil (q1 (q4 ?_)))))
  refine AQ rfl (AK (Ai (c:=(decide (((((dg a.x).getD i 0:Nat):Int)-(((dg b.x).getD i 0:Nat):Int)-(ld:Int))<(0:Int)))) rfl rfl rfl) rfl (AD.nil (AC.subF (sL [0,1,4,6,7,5,8,26] rfl) (AC.then_ ?_))))
  refine AE.jn2 (tg λ(d:Nat) (ld2:Nat)=>d<10000/\ld2<=1/\d+(dg b.x).getD i 0+ld=(dg a.x).getD i 0+10000*ld2) (tg λ(d:Nat) (ld2:Nat)=>[(0,(nV a)),(1,(nV b)),(4,(Value.slice none 0 0)),(7,(vN i)),(5,(Value.slice p i c)),(8,(vN d)),(6,(vN ld2))]) (tg λ(d:Nat) (ld2:Nat)=>[rowW p 3 1 i c (dgL ds),nA a,nA b]) ?_ ?_
  ·skip
   refine AE.cond rfl (λhc1=>?_) (λhc1=>?_)
   ·replace hc1:=of_decide_eq_true hc1
    refine q4 (AQ rfl (AK (Ac (c:=(((dg a.x).getD i 0+10000-(dg b.x).getD i 0-ld:Nat):Int)) rfl rfl (by rw [BS (by omega) (by omega)];omega)) rfl (asg' rfl (AD.nil (AC.subF (sL [0,1,4,6,7,5,8] rfl) ?_)))))
    exact AC.then_ (AE.region (asg' rfl (AD.nil (AC.join2 ((dg a.x).getD i 0+10000-(dg b.x).getD i 0-ld) 1 (⟨by omega,by omega,by omega⟩) (sF rfl) sr))))
   ·replace hc1:=of_decide_eq_false hc1
    exact AE.retell (k:=8) (u:=(vN ((dg a.x).getD i 0-(dg b.x).getD i 0-ld))) rfl (by show Value.int _ _=Value.int _ _;congr 1;omega) (AE.skip (AC.join2 ((dg a.x).getD i 0-(dg b.x).getD i 0-ld) 0 (⟨by omega,by omega,by omega⟩) (sF rfl) sr))
  ·intro d ld2 hJ
   obtain ⟨hd,hl2,hd2⟩:=hJ
   refine AC.then_ (AE.region (AQ rfl (AQ rfl (AD.openV (V:=λb1=>(Value.slice (some ⟨b1,0,none⟩) 1 1)) (T:=3) (cs:=[(vN d)]) (AW rfl) (BI (cs:=[(vN d)]) (pv:=[(0,(vN d))]) Tryz.underlying71 Tryz.sizeOf3 Tryz.zeroValue3 (by decide) (by decide) rfl (by kernel_rfl)) rfl (AV rfl) λb1=>AD.append1 (j:=0) (cs2:=dgL (ds++[d])) SG rfl ho (by simp [CC];omega) rfl rfl rfl rfl (by decide) (KM (by omega)) (by omega) (by rw [EE];rfl) rfl λp_1 c_1 ho_1 hne_1=>?_))))
   refine asg' rfl (AD.nil (AC.subF (sL [0,1,4,7,5,8,6] rfl) (AC.in_normal (AC.then_ (AE.region ?_)))))
   exact AQ rfl (AK (Ac (c:=((i+1:Nat):Int)) rfl rfl (Ae (a:=i) (b:=1) (by omega))) rfl (asg' rfl (AD.nil (AC.subF (sL [0,1,4,7,5,8,6] rfl) (AC.round5 (i+1) ld2 p_1 c_1 (ds++[d]) (⟨Lq hdd (by omega),by simp [hk],ho_1,by omega,by rw [Bp,Bp];exact LP hk hv hd2,by omega⟩) (by omega) (sF rfl) (sl sr))))))
 ·replace hc0:=of_decide_eq_false hc0
  have hfin:val10 ds=a.x-b.x:=by
   rw [CV (by omega),CV (by omega),CJ,CJ] at hv
   exact MY hdd hk (by omega) hab hv
  refine AE.exit (AC.then_exit (AC.round5_exit (AC.in_exit (q2 (AQ rfl ?_)))))
  exact CN (args:=[(Value.slice p i c)]) (v:=(Value.slice p ((dg (val10 ds)).length) c)) Tryz.call200 (λw hw=>(by have h9:=Fx p c ds hdd (by rw [<-hk];exact ho.row) (by omega) w (JX (hw.holds (i:=0) rfl) ho hk);rw [<-hk] at h9;exact h9)) rfl (asg' rfl (AD.nil (AC.subF (sL [0,1,4,6,7,5] rfl) (AC.then_ (AE.ret (AJ rfl (AS (v:=(Value.slice p ((dg (val10 ds)).length) c)) rfl) (λw hw=>St hw (i:=0) rfl ho hk (by rw [<-hfin];exact E3 hdd) (by rw [hfin]))))))))
theorem Om (a b:NV) (hla:(dg a.x).length<=549755813888) (hlb:(dg b.x).length<=549755813888) (w:World) (ha:Holds w (nA a)) (hb:Holds w (nA b)):Calls Tryz.prog 198 #[(nV a),(nV b)] w (Al w (vI (C0 a.x b.x))):=by
 refine Aj (args:=[(nV a),(nV b)]) (L:=[nA a,nA b]) Tryz.func198 rfl rfl (AV rfl) (Bw rfl ha (Bw rfl hb (Ax))) (AE.subF (sL [0,1] rfl) (q4 (asg' rfl (AD.nil (q1 ?_)))))
 refine q4 (AQ rfl (AK (v:=(vN ((dg a.x).length))) (AF rfl Tryz.underlying71) rfl (AQ rfl (AK (v:=(vN ((dg b.x).length))) (AF rfl Tryz.underlying71) rfl (AK (Ai (c:=(decide (((dg a.x).length)<((dg b.x).length)))) rfl rfl (CI (a:=(dg a.x).length) (b:=(dg b.x).length))) rfl ?_)))))
 refine AD.nil (AC.subF (sL [0,1,4,10] rfl) (AC.then_ ?_))
 refine AE.cond rfl (λhc0=>?_) (λhc0=>?_)
 ·replace hc0:=of_decide_eq_true hc0
  have hz:C0 a.x b.x = -1:=if_pos (KJ hc0)
  exact q4 (asg' rfl (AD.nil (AC.then_ (AE.ret (AC.then_ret (AJ rfl (AS (v:=(vI (-1:Int))) rfl) (λw hw=>⟨by rw [hz],hw.out⟩)))))))
 ·replace hc0:=of_decide_eq_false hc0
  refine AE.skip (q1 (q4 (AQ rfl (AK (v:=(vN ((dg a.x).length))) (AF rfl Tryz.underlying71) rfl (AQ rfl ?_)))))
  refine AK (v:=(vN ((dg b.x).length))) (AF rfl Tryz.underlying71) rfl (AK (Bb (c:=(decide (((dg b.x).length)<((dg a.x).length)))) rfl rfl (CI (a:=(dg b.x).length) (b:=(dg a.x).length))) rfl (AD.nil (AC.subF (sL [0,1,4,15] rfl) (AC.then_ ?_))))
  refine AE.cond rfl (λhc1=>?_) (λhc1=>?_)
  ·replace hc1:=of_decide_eq_true hc1
   have hz:C0 a.x b.x=1:=by
      have h9:=KJ hc1
      unfold C0;rw [if_neg (by omega),if_neg (by omega)]
   exact q4 (asg' rfl (AD.nil (AC.then_ (AE.ret (AC.then_ret (AJ rfl (AS (v:=(vI 1)) rfl) (λw hw=>⟨by rw [hz],hw.out⟩)))))))
  ·replace hc1:=of_decide_eq_false hc1
   refine AE.skip (q1 (q4 (AQ rfl (AK (v:=(vN ((dg a.x).length))) (AF rfl Tryz.underlying71) rfl (AK (BQ (c:=((((dg a.x).length:Nat):Int)-1)) rfl rfl (BS (by omega) (by omega))) rfl ?_)))))
   refine asg' rfl (AD.nil (AC.subF (sL [0,1,4,5] rfl) (AC.then_ (AE.block ?_))))
   refine AE.lp1 (tg λ(j:Nat)=>j<=(dg a.x).length/\(dg a.x).drop j=(dg b.x).drop j) (tg λ(j:Nat)=>[(0,(nV a)),(1,(nV b)),(5,(vI (((j:Nat):Int)-1)))]) (tg λ(j:Nat)=>[nA a,nA b]) (tg λ(j:Nat)=>j) ((dg a.x).length) (⟨Nat.le_refl _,by rw [List.drop_length,List.drop_of_length_le (by omega)]⟩) (sF rfl) sr (λj hJ=>?_)
   obtain ⟨hm,hd⟩:=hJ
   have hl:(dg a.x).length=(dg b.x).length:=by omega
   refine AE.seq (q4 (AQ rfl (AK (DH (c:=(decide ((0:Int)<=(((j:Nat):Int)-1)))) rfl rfl rfl) rfl (AD.nil (AC.subF (sL [0,1,5,20] rfl) ?_)))))
   refine AC.then_ ?_
   refine AE.cond rfl (λhc2=>?_) (λhc2=>?_)
   ·replace hc2:=of_decide_eq_true hc2
    have hdj:(dg a.x).drop (j-1+1)=(dg b.x).drop (j-1+1):=by rw [Nat.sub_add_cancel (by omega)];exact hd
    refine AE.retell (k:=5) (u:=(vN (j-1))) rfl (by show Value.int _ _=Value.int _ _;congr 1;omega) (AE.skip (q1 (AE.block (AE.seq (AE.seq ?_)))))
    refine CS [(0,true),(1,true),(2,true),(3,true),(4,true),(5,true),(6,true),(7,true),(8,true)] sr (BT rfl (BT rfl (Ap (v:=(pP (pB a.p) (pO a.p+(j-1)*1))) rfl (AO (j:=j-1) rfl rfl a.ok Tryz.underlying71 Tryz.sizeOf3 rfl (by omega)) (Ap rfl (Ah (v:=(vN ((dg a.x).getD (j-1) 0))) (i:=0) rfl rfl (a.ok.ne (by omega)) Bo (DC (ds:=dg a.x) (j:=j-1) (by omega))) (BT rfl ?_)))))
    refine BT rfl (Ap (v:=(pP (pB b.p) (pO b.p+(j-1)*1))) rfl (AO (j:=j-1) rfl rfl b.ok Tryz.underlying71 Tryz.sizeOf3 rfl (by omega)) (Ap rfl (Ah (v:=(vN ((dg b.x).getD (j-1) 0))) (i:=1) rfl rfl (b.ok.ne (by omega)) Bo (DC (ds:=dg b.x) (j:=j-1) (by omega))) (Ap rfl (Ai (c:=(decide (((dg a.x).getD (j-1) 0)<((dg b.x).getD (j-1) 0)))) rfl rfl (CI (a:=(dg a.x).getD (j-1) 0) (b:=(dg b.x).getD (j-1) 0))) (OkE.nil (AC.subF (sL [0,1,5,31] rfl) ?_)))))
    refine AC.then_ ?_
    refine AE.cond rfl (λhc3=>?_) (λhc3=>?_)
    ·replace hc3:=of_decide_eq_true hc3
     have hz:C0 a.x b.x = -1:=if_pos (RJ hl (by omega) hdj hc3)
     refine q4 (asg' rfl (AD.nil (AC.then_ (AE.ret (AC.then_ret ?_)))))
     exact AC.in_ret (AC.then_ret (AC.round1_ret (AC.in_ret (AC.then_ret (AJ rfl (AS (v:=(vI (-1:Int))) rfl) (λw hw=>⟨by rw [hz],hw.out⟩))))))
    ·replace hc3:=of_decide_eq_false hc3
     refine AE.skip (q1 (CS [(0,true),(1,true),(2,true),(3,true),(4,true),(5,true),(6,true),(7,true),(8,true)] sr (BT rfl (BT rfl (Ap (v:=(pP (pB a.p) (pO a.p+(j-1)*1))) rfl (AO (j:=j-1) rfl rfl a.ok Tryz.underlying71 Tryz.sizeOf3 rfl (by omega)) ?_)))))
     refine Ap rfl (Ah (v:=(vN ((dg a.x).getD (j-1) 0))) (i:=0) rfl rfl (a.ok.ne (by omega)) Bo (DC (ds:=dg a.x) (j:=j-1) (by omega))) (BT rfl (BT rfl (Ap (v:=(pP (pB b.p) (pO b.p+(j-1)*1))) rfl (AO (j:=j-1) rfl rfl b.ok Tryz.underlying71 Tryz.sizeOf3 rfl (by omega)) (Ap rfl (Ah (v:=(vN ((dg b.x).getD (j-1) 0))) (i:=1) rfl rfl (b.ok.ne (by omega)) Bo (DC (ds:=dg b.x) (j:=j-1) (by omega))) (Ap rfl (Bb (c:=(decide (((dg b.x).getD (j-1) 0)<((dg a.x).getD (j-1) 0)))) rfl rfl (CI (a:=(dg b.x).getD (j-1) 0) (b:=(dg a.x).getD (j-1) 0))) ?_)))))
     refine OkE.nil (AC.subF (sL [0,1,5,40] rfl) (AC.then_ ?_))
     refine AE.cond rfl (λhc4=>?_) (λhc4=>?_)
     ·replace hc4:=of_decide_eq_true hc4
      have hz:C0 a.x b.x=1:=by
        have h9:=RJ hl.symm (by omega) hdj.symm hc4
        unfold C0;rw [if_neg (by omega),if_neg (by omega)]
      refine q4 (asg' rfl (AD.nil (AC.then_ (AE.ret (AC.in_ret ?_)))))
      exact AC.then_ret (AC.round1_ret (AC.in_ret (AC.then_ret (AJ rfl (AS (v:=(vI 1)) rfl) (λw hw=>⟨by rw [hz],hw.out⟩)))))
     ·replace hc4:=of_decide_eq_false hc4
      refine AE.skip (AC.in_normal (AC.then_ (AE.region (AQ rfl (AK (BQ (c:=(((j-1:Nat):Int)-1)) rfl rfl (BS (by omega) (by omega))) rfl ?_)))))
      exact asg' rfl (AD.nil (AC.subF (sL [0,1,5] rfl) (AC.round1 (j-1) (⟨by omega,Lr hl (by omega) hdj (by omega)⟩) (by omega) (sF rfl) sr)))
   ·replace hc2:=of_decide_eq_false hc2
    obtain rfl:j=0:=by omega
    have hz:C0 a.x b.x=0:=Kz.2 (V0 hd)
    refine AE.exit (AC.then_exit (AC.round1_exit (AC.in_exit (q2 (asg' rfl ?_)))))
    exact AD.nil (AC.then_ (AE.ret (AJ rfl (AS (v:=(vI 0)) rfl) (λw hw=>⟨by rw [hz],hw.out⟩))))
end
end Go.Proofs.YtpgncndhhhllfaaGreatDoor
