import Derived.Test.YtpgncndhhhllfaaGreatDoorPart06
import Derived.Test.YtpgncndhhhllfaaGreatDoorPart20
import Derived.Test.YtpgncndhhhllfaaGreatDoorPart29
import Derived.Test.YtpgncndhhhllfaaGreatDoorPart34
import Derived.Test.YtpgncndhhhllfaaGreatDoorPart37
namespace Go.Proofs.YtpgncndhhhllfaaGreatDoor
open Go Go.RowKit Go.Proofs.Tryz
set_option linter.unusedVariables false
set_option linter.unusedSimpArgs false
section
def Sy (t:T3) (p:Nat):Int:=if p=t.1 then 0 else if p=t.2.1 then 1 else if p=t.2.2 then 2 else -1
theorem TJ (t:T3) (p:Nat):decide (0<=Sy t p)=FF t p:=by
  unfold Sy FF
  by_cases h1:p=t.1
  · rw [if_pos h1,h1];simp
  · have h1':¬t.1=p:=λe=>h1 e.symm
    rw [if_neg h1]
    by_cases h2:p=t.2.1
    · rw [if_pos h2,h2];simp
    · have h2':¬t.2.1=p:=λe=>h2 e.symm
      rw [if_neg h2]
      by_cases h3:p=t.2.2
      · rw [if_pos h3,h3];simp
      · have h3':¬t.2.2=p:=λe=>h3 e.symm
        rw [if_neg h3];simp [h1',h2',h3']
abbrev Q3:=Pt×Pt×Pt
def Gi (x:Q3):List Value:=Af x.1++(Af x.2.1++(Af x.2.2++[]))
theorem W3 (a b c:Pt):Af a++Af b++Af c=Gi (a,b,c):=by simp [Gi]
def Bd (ps:List Pt) (t:T3):Q3:=(C2 ps t.1,C2 ps t.2.1,C2 ps t.2.2)
def LS (p q r:Pt):Bool:=decide (0<(Am p q r).num.sign)
def Re (p q:Pt) (B:Q3):Int:=if LS p q B.1=true then 0 else if LS p q B.2.1=true then 1 else if LS p q B.2.2=true then 2 else -1
def F0 (p q:Pt) (B:Q3):Bool:=LS p q B.1||LS p q B.2.1||LS p q B.2.2
theorem TL (p q:Pt) (B:Q3):decide (0<=Re p q B)=F0 p q B:=by
  unfold Re F0
  cases LS p q B.1<;>cases LS p q B.2.1<;>cases LS p q B.2.2<;>rfl
def Dx (A B:Q3):Bool:=!F0 A.1 A.2.1 B||(!F0 A.2.1 A.2.2 B||!F0 A.2.2 A.1 B)
structure MM (ps:List Pt) (ts ss:List T3):Prop where
  pl:ps.length<=4096
  tl:ts.length<=8192
  t0:0<ts.length
  sl:ss.length<=24576
  sz:∀k,B3 (C2 ps k)<=1000
  num:DK ps.length ts=true
  pos:∀j,j<ts.length->(Am (C2 ps (ts.getD j (0,0,0)).1) (C2 ps (ts.getD j (0,0,0)).2.1) (C2 ps (ts.getD j (0,0,0)).2.2)).num.sign=1
  sid:∀j,j<ss.length->(ss.getD j (0,0,0)).1<ps.length/\(ss.getD j (0,0,0)).2.1<ps.length/\(ss.getD j (0,0,0)).2.2<=255
  use:∀p,p<ps.length->∃j,j<ts.length/\FF (ts.getD j (0,0,0)) p=true
  dst:ps.Nodup
  apart:∀i k,i<ts.length->k<i->(!Dx (Bd ps (ts.getD i (0,0,0))) (Bd ps (ts.getD k (0,0,0)))&&!Dx (Bd ps (ts.getD k (0,0,0))) (Bd ps (ts.getD i (0,0,0))))=false
  crn:∀i p,i<ts.length->p<ps.length->FF (ts.getD i (0,0,0)) p=false->NE ps (C2 ps p) (ts.getD i (0,0,0))=0
  rl:ss.length=(Il ts).length
  rim:∀j,j<ss.length->(ss.getD j (0,0,0)).1=((Il ts).getD j (0,0,0)).1/\(ss.getD j (0,0,0)).2.1=((Il ts).getD j (0,0,0)).2.1
theorem MM.szM {ps:List Pt} {ts ss:List T3} (h:MM ps ts ss) (k:Nat):B3 (C2 ps k)<=1000000:=Nat.le_trans (h.sz k) (by decide)
def Kp (x y:Pt):Int:=if Sk x y then -1 else if Sk y x then 1 else 0
theorem E5 {x y:Pt}:Kp x y<0↔Sk x y:=by
  unfold Kp
  split
  · exact ⟨λ_=>by assumption,λ_=>by decide⟩
  · rename_i h
    split<;>exact ⟨λk=>absurd k (by decide),λk=>absurd k h⟩
theorem PP {ys:List Pt} (h:ys.Nodup) {k:Nat} (h1:1<=k) (hk:k<ys.length) (e:ys.getD k ⟨0,0⟩=ys.getD (k-1) ⟨0,0⟩):False:=by
  rw [List.getD,List.getD,List.getElem?_eq_getElem hk,List.getElem?_eq_getElem (show k-1<ys.length by omega)] at e
  have:=(List.getElem_inj h).1 e
  omega
def bL (us:List Bool):List Value:=us.map Value.bool
theorem K6 (us:List Bool):(bL us).length=us.length:=List.length_map _
theorem NZ (us:List Bool) (j:Nat) (v:Bool):(bL us).set j (.bool v)=bL (us.set j v):=by unfold bL;rw [List.map_set]
theorem Vn {us:List Bool} {j:Nat} (h:j<us.length):(bL us)[j*1]?=some (.bool (us.getD j false)):=by simp [bL,h]
def JO (ts:List T3) (n i:Nat):List Bool:=(List.range n).map λp=>(ts.take i).any λt=>FF t p
theorem Fe (ts:List T3) (n i:Nat):(JO ts n i).length=n:=by simp [JO]
theorem PU (ts:List T3) (n:Nat):List.replicate n false=JO ts n 0:=by
  unfold JO
  rw [List.take_zero]
  apply List.ext_getElem?
  intro j
  rcases Nat.lt_or_ge j n with h|h
  · simp [h]
  · rw [List.getElem?_eq_none (by simpa using h),List.getElem?_eq_none (by simpa using h)]
theorem Pr {ts:List T3} {n i:Nat} (h:i<ts.length):(((JO ts n i).set (ts.getD i (0,0,0)).1 true).set (ts.getD i (0,0,0)).2.1 true).set (ts.getD i (0,0,0)).2.2 true=JO ts n (i+1):=by
  apply List.ext_getElem?
  intro j
  have e:ts.take (i+1)=ts.take i++[ts.getD i (0,0,0)]:=by rw [List.take_add_one,List.getD,List.getElem?_eq_getElem h];rfl
  generalize ts.getD i (0,0,0)=T at *
  unfold JO
  rw [e]
  simp only [List.getElem?_set,List.length_set,List.length_map,List.length_range,List.getElem?_map,List.any_append,List.any_cons,List.any_nil,Bool.or_false]
  rcases Nat.lt_or_ge j n with hj|hj
  · rw [List.getElem?_range hj]
    simp only [Option.map_some]
    unfold FF
    by_cases h1:T.1=j<;>by_cases h2:T.2.1=j<;>by_cases h3:T.2.2=j<;>simp [h1,h2,h3]<;>try omega
  · rw [List.getElem?_eq_none (by simpa using hj)]
    simp only [Option.map_none]
    by_cases h1:T.1=j<;>by_cases h2:T.2.1=j<;>by_cases h3:T.2.2=j<;>simp [h1,h2,h3]<;>omega
theorem S7 {ts:List T3} {n p:Nat} (hp:p<n) (h:∃j,j<ts.length/\FF (ts.getD j (0,0,0)) p=true):(JO ts n ts.length).getD p false=true:=by
  unfold JO
  rw [List.getD,List.getElem?_map,List.getElem?_range hp,Option.map_some,Option.getD_some,List.take_length,List.any_eq_true]
  obtain ⟨j,hj,h⟩:=h
  exact ⟨_,List.getElem_mem hj,by rwa [List.getD,List.getElem?_eq_getElem hj] at h⟩
section
variable {P:Program} {ops:Array Oper} {rest:List Oper} {Q:Exit->Act->World->Prop} {n d i z m c:Nat} {F:List (Nat×Value)} {w0:A_} {L L':List As} {t ty T:TypeId} {p:String} {af:Array Edge} {x y:Operand} {cs vs:List Value} {q:Option Addr} {v:Value}
theorem AD.makeBool {ki kj:IntKind} {bytes:Nat} (ht:Ml P t T (.bool false) bytes) (hx:evF F x=some (.int ki (m:Nat))) (hy:evF F y=some (.int kj (m:Nat))) (hm:m<=1099511627776) (hb:Nat.ble bytes 16=true) (hd:Nat.ble (d+1) n=true)
    (next:∀b,OwnOk (some ⟨b,0,none⟩) m m->AD P ops rest Q n ((d,.slice (some ⟨b,0,none⟩) m m)::F) w0 (rowW (some ⟨b,0,none⟩) T 1 m m (bL (List.replicate m false))::L)) :
    AD P ops (⟨some d,.makeSlice t x y,ty,p,af,none⟩::rest) Q n F w0 L:=AD.makeRow ht hx hy hm hb hd λb ho=>by
  have h:=next b ho
  unfold bL at h
  rw [List.map_replicate] at h
  exact h
end
section
variable {P:Program} {n:Nat} {F:List (Nat×Value)} {w0:A_} {L:List As} {x:Operand} {d:Option Tmp} {t:TypeId} {p:String} {af:Array Edge} {g:Option (Nat×Bool)}
theorem K8 {tx e:TypeId} {b off len k:Nat} (hx:evF F x=some (.pointer (some ⟨b,off,none⟩))) (hu:P.underlying tx=some (.array len e)) (hs:∀w,(sizeOf e).run P w=.ok k w) (h0:0<len) :
    Ex P n F w0 L ⟨d,.slice tx x none none none,t,p,af,g⟩ (.slice (some ⟨b,off,none⟩) len len):=λA w ha _=>by
  have e1:¬len=0:=by omega
  simp [execOp,ha.ev hx,Instr.sliceAt,run_underlying hu,Instr.sureAddr,Instr.sliceBounds,Instr.sliceBound,hs,e1,Addr.add_lit]
end
theorem UV {S:Nat->Prop} {w:World} {ts:List T3} {x:RX (rowsL BA ts) ts.length} (h:Ro S w x) {j:Nat} (hj:j<ts.length) (ok:A7 (some ⟨pB x.p,pO x.p+j*3,none⟩) 3 3):Ro S w (⟨some ⟨pB x.p,pO x.p+j*3,none⟩,3,ok⟩:RX (BA (ts.getD j (0,0,0))) 3):=λy hy=>by
  rcases List.mem_singleton.1 hy with rfl
  obtain ⟨h1,h2⟩:=h (AG x.p (rowsL BA ts)) (List.mem_singleton.2 rfl)
  obtain ⟨a,hp⟩:∃a,x.p=some a:=by
    cases hp:x.p with
    | none=>have:=(x.ok.nil hp).1;omega
    | some a=>exact ⟨a,rfl⟩
  have e:(some (⟨pB x.p,pO x.p+j*3,none⟩:Addr)).map (·.block)=x.p.map (·.block):=by rw [hp];rfl
  refine ⟨λb hb=>?_,λb hb=>h2 b (e.symm.trans hb)⟩
  obtain ⟨o,ho,cur,T,fr,rfl,hc⟩:=h1 b (e.symm.trans hb)
  refine ⟨_,ho,cur,T,fr,rfl,?_⟩
  have hl:=Aq Be (0,0,0) ts j hj
  have hz:=Ab Be ts
  show (cur.toList.drop (pO x.p+j*3)).take 3=_
  refine Eq.trans ?_ hl
  refine Eq.trans ?_ (congrArg (λl:List Value=>(l.drop (j*3)).take 3) hc)
  show _=(((cur.toList.drop (pO x.p)).take (rowsL BA ts).length).drop (j*3)).take 3
  rw [List.drop_take,List.take_take,List.drop_drop]
  congr 1
  omega
theorem VQ (b o:Nat):A7 (some ⟨b,o,none⟩) 3 3:=⟨λe=>(by cases e),λa e=>(by injection e with e;subst e;rfl),Nat.le_refl _⟩
end
section
set_option maxRecDepth 100000
theorem WG (t:T3) (p:Nat) (y:RX (BA t) 3) (w:World) {S:Nat->Prop} (hy:Ro S w y):Calls Tryz.prog 147 #[(Value.slice y.p 3 y.c),(vN p)] w (Al w (vI (Sy t p))):=by
 have ly:=Cx (W:=w) hy
 refine Aj (args:=[(Value.slice y.p 3 y.c),(vN p)]) (L:=[AG y.p (BA t)]) Tryz.func147 rfl rfl (AV rfl) (Ds hy Ax) (AE.subF (sL [0,1] rfl) (q4 (asg' rfl (AD.nil (q1 ?_)))))
 refine q4 (AQ rfl (AK (v:=(vI 3)) (AF rfl Tryz.underlying70) rfl (AQ rfl (AD.nil (AC.subF (sL [0,1,4,7,8] rfl) ?_)))))
 refine AC.then_ (AE.block (AE.unroll 4 (FY.step (q4 (AK (Ai (c:=true) rfl rfl (by decide)) rfl ?_)))))
 refine AD.nil (q1 (AE.cond_true rfl (AE.skip (q1 (AE.block ?_)))))
 refine q4 (AQ rfl (asg' rfl (q3 (sL [0,1,4,7,8,5] rfl) (AQ rfl (AQ rfl ?_)))))
 refine AQ rfl (AK (v:=(pP (pB y.p) (pO y.p+0*1))) (AO (j:=0) rfl rfl y.ok Tryz.underlying70 Tryz.sizeOf3 rfl (by omega)) rfl (AK (Ah (v:=(vN t.1)) (i:=0) rfl rfl (y.ok.ne (by omega)) Bo rfl) rfl (AK (BR (c:=(decide (p=t.1))) rfl rfl (LX (a:=p) (b:=t.1))) rfl (AD.nil (AC.subF (sL [0,1,4,7,8,5,16] rfl) ?_)))))
 refine AC.then_ ?_
 refine AE.cond rfl (λhc1=>?_) (λhc1=>?_)
 ·replace hc1:=of_decide_eq_true hc1
  have hr:Sy t p=0:=by unfold Sy;rw [if_pos hc1]
  refine q4 (AQ rfl (asg' rfl (AD.nil (AC.subF (sL [0,1,4,7,8,5] rfl) (AC.then_ ?_)))))
  exact AE.ret (AC.in_ret (AC.then_ret (AC.then_ret (AC.in_ret (AC.then_ret (AJ rfl (AS (v:=(vI 0)) rfl) (λw hw=>⟨by rw [hr]<;>rfl,hw.out⟩)))))))
 ·replace hc1:=of_decide_eq_false hc1
  have k0:=hc1
  refine AE.skip (AC.in_normal (AC.then_ (AE.region (AK (Ac (c:=(1:Int)) rfl rfl (by decide)) rfl (AQ rfl ?_)))))
  refine AD.nil (AC.subF (sL [0,1,4,7,8,5] rfl) (AC.again (FY.step (q4 (AK (Ai (c:=true) rfl rfl (by decide)) rfl ?_)))))
  refine AD.nil (q1 (AE.cond_true rfl (AE.skip (q1 (AE.block ?_)))))
  refine q4 (AQ rfl (asg' rfl (q3 (sL [0,1,4,7,8,5] rfl) (AQ rfl (AQ rfl ?_)))))
  refine AQ rfl (AK (v:=(pP (pB y.p) (pO y.p+1*1))) (AO (j:=1) rfl rfl y.ok Tryz.underlying70 Tryz.sizeOf3 rfl (by omega)) rfl (AK (Ah (v:=(vN t.2.1)) (i:=0) rfl rfl (y.ok.ne (by omega)) Bo rfl) rfl (AK (BR (c:=(decide (p=t.2.1))) rfl rfl (LX (a:=p) (b:=t.2.1))) rfl (AD.nil (AC.subF (sL [0,1,4,7,8,5,16] rfl) ?_)))))
  refine AC.then_ ?_
  refine AE.cond rfl (λhc1=>?_) (λhc1=>?_)
  ·replace hc1:=of_decide_eq_true hc1
   have hr:Sy t p=1:=by unfold Sy;rw [if_neg k0,if_pos hc1]
   refine q4 (AQ rfl (asg' rfl (AD.nil (AC.subF (sL [0,1,4,7,8,5] rfl) (AC.then_ ?_)))))
   exact AE.ret (AC.in_ret (AC.then_ret (AC.then_ret (AC.in_ret (AC.then_ret (AJ rfl (AS (v:=(vI 1)) rfl) (λw hw=>⟨by rw [hr]<;>rfl,hw.out⟩)))))))
  ·replace hc1:=of_decide_eq_false hc1
   have k1:=hc1
   refine AE.skip (AC.in_normal (AC.then_ (AE.region (AK (Ac (c:=(2:Int)) rfl rfl (by decide)) rfl (AQ rfl ?_)))))
   refine AD.nil (AC.subF (sL [0,1,4,7,8,5] rfl) (AC.again (FY.step (q4 (AK (Ai (c:=true) rfl rfl (by decide)) rfl ?_)))))
   refine AD.nil (q1 (AE.cond_true rfl (AE.skip (q1 (AE.block ?_)))))
   refine q4 (AQ rfl (asg' rfl (q3 (sL [0,1,4,7,8,5] rfl) (AQ rfl (AQ rfl ?_)))))
   refine AQ rfl (AK (v:=(pP (pB y.p) (pO y.p+2*1))) (AO (j:=2) rfl rfl y.ok Tryz.underlying70 Tryz.sizeOf3 rfl (by omega)) rfl (AK (Ah (v:=(vN t.2.2)) (i:=0) rfl rfl (y.ok.ne (by omega)) Bo rfl) rfl (AK (BR (c:=(decide (p=t.2.2))) rfl rfl (LX (a:=p) (b:=t.2.2))) rfl (AD.nil (AC.subF (sL [0,1,4,7,8,5,16] rfl) ?_)))))
   refine AC.then_ ?_
   refine AE.cond rfl (λhc1=>?_) (λhc1=>?_)
   ·replace hc1:=of_decide_eq_true hc1
    have hr:Sy t p=2:=by unfold Sy;rw [if_neg k0,if_neg k1,if_pos hc1]
    refine q4 (AQ rfl (asg' rfl (AD.nil (AC.subF (sL [0,1,4,7,8,5] rfl) (AC.then_ ?_)))))
    exact AE.ret (AC.in_ret (AC.then_ret (AC.then_ret (AC.in_ret (AC.then_ret (AJ rfl (AS (v:=(vI 2)) rfl) (λw hw=>⟨by rw [hr]<;>rfl,hw.out⟩)))))))
   ·replace hc1:=of_decide_eq_false hc1
    have k2:=hc1
    have hr:Sy t p = -1:=by unfold Sy;rw [if_neg k0,if_neg k1,if_neg k2]
    refine AE.skip (AC.in_normal (AC.then_ (AE.region (AK (Ac (c:=(3:Int)) rfl rfl (by decide)) rfl (AQ rfl ?_)))))
    refine AD.nil (AC.subF (sL [0,1,4,7,8,5] rfl) (AC.again (FY.step (q4 (AK (Ai (c:=false) rfl rfl (by decide)) rfl ?_)))))
    refine AD.nil (q1 (AE.cond_false rfl (AE.exit (AC.then_exit (AC.then_exit ?_)))))
    refine AC.in_exit (q2 (asg' rfl (AD.nil (AC.subF (sL [0,1,4,7,8,5] rfl) (AC.then_ ?_)))))
    exact AE.ret (AJ rfl (AS (v:=(vI (-1:Int))) rfl) (λw hw=>⟨by rw [hr]<;>rfl,hw.out⟩))
theorem QZ (t:T3) (p:Nat) (y:RX (BA t) 3) (w:World) {S:Nat->Prop} (hy:Ro S w y):Calls Tryz.prog 82 #[(Value.slice y.p 3 y.c),(vN p)] w (Al w (Value.bool (FF t p))):=by
 have ly:=Cx (W:=w) hy
 refine Aj (args:=[(Value.slice y.p 3 y.c),(vN p)]) (L:=[AG y.p (BA t)]) Tryz.func82 rfl rfl (AV rfl) (Ds hy Ax) (AE.subF (sL [0,1] rfl) (q4 (asg' rfl (AD.nil (q2 ?_)))))
 refine AQ rfl (AQ rfl (CN Tryz.call147 (λw hw=>WG t p y w (inS hw 0 rfl ly)) rfl (AK (DH (c:=(FF t p)) rfl rfl (TJ t p)) rfl (asg' rfl (AD.nil ?_)))))
 exact AC.subF (sL [4] rfl) (AC.then_ (AE.ret (AJ rfl (AS (v:=(Value.bool (FF t p))) rfl) (λw hw=>⟨rfl,hw.out⟩))))
theorem Dt (x0:Pt) (x1:Pt) (x2:Pt):Instr.fill (λi=>some (i*10,10)) (Gi ((⟨0,0⟩,⟨0,0⟩,⟨0,0⟩):Q3)).toArray [(0,.agg (Af x0).toArray),(1,.agg (Af x1).toArray),(2,.agg (Af x2).toArray)]=some (Af x0++Af x1++Af x2).toArray:=by kernel_rfl
theorem Is {ps:List Pt} {ts ss:List T3} (x:MX ps ts ss) (t:Nat) (ht:t<ts.length) (htl:ts.length<=1000000) (hp:ps.length<=1000000) (hk:Mo ps.length (ts.getD t (0,0,0))=true) (w:World) {S:Nat->Prop} (hx:Ro S w x):Calls Tryz.prog 127 #[(aG (DA x)),(vN t)] w (Al w (aG (Gi (Bd ps (ts.getD t (0,0,0)))))):=by
 obtain ⟨k1,k2,k3⟩:=DV hk
 obtain ⟨T,hT⟩:∃q,q=ts.getD t (0,0,0):=⟨_,rfl⟩
 rw [<-hT] at k1 k2 k3
 have lx:=Cx (W:=w) hx
 refine Aj (args:=[(aG (DA x)),(vN t)]) (L:=[AG x.a.p (rowsL Af ps),AG x.b.p (rowsL BA ts),AG x.c.p (rowsL BA ss)]) Tryz.func127 rfl rfl (AV rfl) (Ds hx Ax) (AE.subF (sL [0,1] rfl) (q4 (BU (cs:=DA x) rfl λb1=>al SP rfl λb2=>q3 (sL [1,2,4] rfl) ?_)))
 refine AK (v:=(pP b1 1)) (AA rfl Tryz.underlying30 rfl Tryz.sizeOf23 rfl) rfl (BJ 1 (Value.slice x.b.p ts.length x.b.c) DG rfl (AQ rfl (AK (v:=(pP (pB x.b.p) (pO x.b.p+t*3))) (AO (j:=t) rfl rfl x.b.ok Tryz.underlying23 Tryz.sizeOf53 rfl (by omega)) rfl (AK (v:=(aG (BA (ts.getD t ((0,0,0):Nat×Nat×Nat))))) (AT (vs:=BA (ts.getD t ((0,0,0):Nat×Nat×Nat))) (i:=3) rfl rfl (A7.ne x.b.ok (by omega)) Gx (Aq Be _ _ _ (by omega)) (Be _)) rfl (AD.retell (k:=10) (u:=(aG (BA T))) rfl (by rw [hT]) ?_)))))
 refine al Ng rfl λb3=>A8 rfl Tryz.sizeOf53 rfl (q6 (sL [2,4,5] rfl) (CS [(0,true),(1,true),(2,true),(3,true),(4,true),(5,true),(6,true),(7,true),(8,true),(9,true),(10,true),(11,true),(12,true),(13,true),(14,true),(15,true),(16,true),(17,true),(18,true),(19,false)] (sk (sl sr)) (Ap (v:=(pP b1 0)) rfl (AA rfl Tryz.underlying30 rfl Tryz.sizeOf28 rfl) (Ba 1 (Value.slice x.a.p ps.length x.a.c) CW rfl ?_))))
 refine Ap (v:=(pP b3 0)) rfl (AI (j:=0) rfl rfl Tryz.underlying53 Tryz.sizeOf3 rfl (by decide) rfl) (Ba 0 (vN T.1) Bo rfl (Ap (v:=(pP (pB x.a.p) (pO x.a.p+T.1*10))) rfl (AO (j:=T.1) rfl rfl x.a.ok Tryz.underlying28 Tryz.sizeOf51 rfl (by omega)) (Ap (v:=(aG (Af (ps.getD T.1 (⟨0,0⟩:Pt))))) rfl (AT (vs:=Af (ps.getD T.1 (⟨0,0⟩:Pt))) (i:=2) rfl rfl (A7.ne x.a.ok (by omega)) BM (Aq Av _ _ _ (by omega)) (Av _)) (Ap (v:=(pP b1 0)) rfl (AA rfl Tryz.underlying30 rfl Tryz.sizeOf28 rfl) (Ba 1 (Value.slice x.a.p ps.length x.a.c) CW rfl ?_)))))
 refine Ap (v:=(pP b3 1)) rfl (AI (j:=1) rfl rfl Tryz.underlying53 Tryz.sizeOf3 rfl (by decide) rfl) (Ba 0 (vN T.2.1) Bo rfl (Ap (v:=(pP (pB x.a.p) (pO x.a.p+T.2.1*10))) rfl (AO (j:=T.2.1) rfl rfl x.a.ok Tryz.underlying28 Tryz.sizeOf51 rfl (by omega)) (Ap (v:=(aG (Af (ps.getD T.2.1 (⟨0,0⟩:Pt))))) rfl (AT (vs:=Af (ps.getD T.2.1 (⟨0,0⟩:Pt))) (i:=2) rfl rfl (A7.ne x.a.ok (by omega)) BM (Aq Av _ _ _ (by omega)) (Av _)) (Ap (v:=(pP b1 0)) rfl (AA rfl Tryz.underlying30 rfl Tryz.sizeOf28 rfl) (Ba 1 (Value.slice x.a.p ps.length x.a.c) CW rfl ?_)))))
 refine Ap (v:=(pP b3 2)) rfl (AI (j:=2) rfl rfl Tryz.underlying53 Tryz.sizeOf3 rfl (by decide) rfl) (Ba 0 (vN T.2.2) Bo rfl (Ap (v:=(pP (pB x.a.p) (pO x.a.p+T.2.2*10))) rfl (AO (j:=T.2.2) rfl rfl x.a.ok Tryz.underlying28 Tryz.sizeOf51 rfl (by omega)) (Ap (v:=(aG (Af (ps.getD T.2.2 (⟨0,0⟩:Pt))))) rfl (AT (vs:=Af (ps.getD T.2.2 (⟨0,0⟩:Pt))) (i:=2) rfl rfl (A7.ne x.a.ok (by omega)) BM (Aq Av _ _ _ (by omega)) (Av _)) (Ap (v:=(aG (Af (ps.getD T.1 (⟨0,0⟩:Pt))++Af (ps.getD T.2.1 (⟨0,0⟩:Pt))++Af (ps.getD T.2.2 (⟨0,0⟩:Pt))))) rfl (Bx (zs:=Gi ((⟨0,0⟩,⟨0,0⟩,⟨0,0⟩):Q3)) (vs:=Af (ps.getD T.1 (⟨0,0⟩:Pt))++Af (ps.getD T.2.1 (⟨0,0⟩:Pt))++Af (ps.getD T.2.2 (⟨0,0⟩:Pt))) (pv:=[(0,(aG (Af (ps.getD T.1 (⟨0,0⟩:Pt))))),(1,(aG (Af (ps.getD T.2.1 (⟨0,0⟩:Pt))))),(2,(aG (Af (ps.getD T.2.2 (⟨0,0⟩:Pt)))))]) Tryz.zeroValue207 Tryz.underlying207 Tryz.sizeOf51 rfl (Dt (ps.getD T.1 (⟨0,0⟩:Pt)) (ps.getD T.2.1 (⟨0,0⟩:Pt)) (ps.getD T.2.2 (⟨0,0⟩:Pt)))) (OkE.imp rfl ?_)))))
 exact C6 rfl Tryz.sizeOf207 rfl (OkE.back (sk (sl sr)) (OkE.nil (AC.subF (sL [2,4,5] rfl) (AC.then_ (AE.ret (AJ rfl (Au (i:=1) (cs:=Af (ps.getD T.1 (⟨0,0⟩:Pt))++Af (ps.getD T.2.1 (⟨0,0⟩:Pt))++Af (ps.getD T.2.2 (⟨0,0⟩:Pt))) rfl rfl Tryz.isAgg207 Tryz.sizeOf207 rfl) (λw hw=>⟨by rw [<-hT];unfold Bd C2;rw [<-W3],hw.out⟩)))))))
theorem Ka (r p q:Pt) (bp:BX (Af p)) (bq:BX (Af q)) (hs:B3 p+B3 q+B3 r<=10000000) (w:World) {S:Nat->Prop} (hbp:Ro S w bp) (hbq:Ro S w bq):Calls Tryz.prog 186 #[(aG (Af r)),(pP bp.b 0),(pP bq.b 0)] w (Al w (Value.bool (LS p q r))):=by
 have lbp:=Cx (W:=w) hbp
 have lbq:=Cx (W:=w) hbq
 refine Aj (args:=[(aG (Af r)),(pP bp.b 0),(pP bq.b 0)]) (L:=[AG (some ⟨bp.b,0,none⟩) (Af p),AG (some ⟨bq.b,0,none⟩) (Af q)]) Tryz.func186 rfl rfl (AV rfl) (Ds hbp (Ds hbq Ax)) (AE.subF (sL [0,1,2] rfl) (q4 (BU (cs:=Af r) rfl λb1=>asg' rfl (q3 (sL [1,2,3,4] rfl) ?_))))
 refine AK (v:=(aG (Af p))) (AT (q:=some ⟨bp.b,0,none⟩) (vs:=Af p) (off:=0) (i:=1) rfl rfl (λe=>by cases e) BM rfl rfl) rfl (AK (v:=(aG (Af q))) (AT (q:=some ⟨bq.b,0,none⟩) (vs:=Af q) (off:=0) (i:=2) rfl rfl (λe=>by cases e) BM rfl rfl) rfl (BG 0 BM rfl (ck' Tryz.call121 (Gz p q r (by omega)) rfl (AK (Bb (c:=(LS p q r)) rfl rfl rfl) rfl (asg' rfl ?_)))))
 exact AD.nil (AC.subF (sL [4] rfl) (AC.then_ (AE.ret (AJ rfl (AS (v:=(Value.bool (LS p q r))) rfl) (λw hw=>⟨rfl,hw.out⟩)))))
theorem WH (p q:Pt) (B:Q3) (bp:BX (Af p)) (bq:BX (Af q)) (bo:BX (Gi B)) (hs:B3 p<=1000000/\B3 q<=1000000) (hB:B3 B.1<=1000000/\B3 B.2.1<=1000000/\B3 B.2.2<=1000000) (w:World) {S:Nat->Prop} (hbp:Ro S w bp) (hbq:Ro S w bq) (hbo:Ro S w bo):Calls Tryz.prog 243 #[(Value.slice (some ⟨bo.b,0,none⟩) 3 3),(Value.func (.func 186) #[] #[(pP bp.b 0),(pP bq.b 0)])] w (Al w (vI (Re p q B))):=by
 have lbp:=Cx (W:=w) hbp
 have lbq:=Cx (W:=w) hbq
 have lbo:=Cx (W:=w) hbo
 refine Aj (args:=[(Value.slice (some ⟨bo.b,0,none⟩) 3 3),(Value.func (.func 186) #[] #[(pP bp.b 0),(pP bq.b 0)])]) (L:=[AG (some ⟨bp.b,0,none⟩) (Af p),AG (some ⟨bq.b,0,none⟩) (Af q),AG (some ⟨bo.b,0,none⟩) (Gi B)]) Tryz.func243 rfl rfl (AV rfl) (Ds hbp (Ds hbq (Ds hbo Ax))) (AE.subF (sL [0,1] rfl) (q4 (asg' rfl (AD.nil (q1 ?_)))))
 refine q4 (AQ rfl (AK (v:=(vI 3)) (AF rfl Tryz.underlying28) rfl (AQ rfl (AD.nil (AC.subF (sL [0,1,4,7,8] rfl) ?_)))))
 refine AC.then_ (AE.block (AE.unroll 4 (FY.step (q4 (AK (Ai (c:=true) rfl rfl (by decide)) rfl ?_)))))
 refine AD.nil (q1 (AE.cond_true rfl (AE.skip (q1 (AE.block ?_)))))
 refine q4 (AQ rfl (asg' rfl (q3 (sL [0,1,4,7,8,5] rfl) (AQ rfl (AQ rfl ?_)))))
 refine AQ rfl (AK (v:=(pP bo.b 0)) (AM (j:=0) rfl rfl Tryz.underlying28 Tryz.sizeOf51 rfl (by omega) rfl) rfl (AK (v:=(aG (Af B.1))) (AT (q:=some ⟨bo.b,0,none⟩) (vs:=Af B.1) (off:=0) (i:=2) rfl rfl (λe=>by cases e) BM rfl rfl) rfl (AD.call (v:=(Value.bool (LS p q B.1))) (AW rfl) (HD (args:=[(aG (Af B.1))]) (caps:=[(pP bp.b 0),(pP bq.b 0)]) (all:=[(aG (Af B.1)),(pP bp.b 0),(pP bq.b 0)]) rfl rfl rfl Tryz.call186) (λw hw=>Ka B.1 p q bp bq (by omega) w (inS hw 0 rfl lbp) (inS hw 1 rfl lbq)) rfl (AV rfl) (AD.nil (AC.subF (sL [0,1,4,7,8,5,16] rfl) ?_)))))
 refine AC.then_ ?_
 refine AE.cond rfl (λhc1=>?_) (λhc1=>?_)
 ·skip
  have hr:Re p q B=0:=by unfold Re;rw [if_pos hc1]
  refine q4 (AQ rfl (asg' rfl (AD.nil (AC.subF (sL [0,1,4,7,8,5] rfl) (AC.then_ ?_)))))
  exact AE.ret (AC.in_ret (AC.then_ret (AC.then_ret (AC.in_ret (AC.then_ret (AJ rfl (AS (v:=(vI 0)) rfl) (λw hw=>⟨by rw [hr]<;>rfl,hw.out⟩)))))))
 ·skip
  have k0:¬LS p q B.1=true:=by simpa using hc1
  refine AE.skip (AC.in_normal (AC.then_ (AE.region (AK (Ac (c:=(1:Int)) rfl rfl (by decide)) rfl (AQ rfl ?_)))))
  refine AD.nil (AC.subF (sL [0,1,4,7,8,5] rfl) (AC.again (FY.step (q4 (AK (Ai (c:=true) rfl rfl (by decide)) rfl ?_)))))
  refine AD.nil (q1 (AE.cond_true rfl (AE.skip (q1 (AE.block ?_)))))
  refine q4 (AQ rfl (asg' rfl (q3 (sL [0,1,4,7,8,5] rfl) (AQ rfl (AQ rfl ?_)))))
  refine AQ rfl (AK (v:=(pP bo.b 10)) (AM (j:=1) rfl rfl Tryz.underlying28 Tryz.sizeOf51 rfl (by omega) rfl) rfl (AK (v:=(aG (Af B.2.1))) (AT (q:=some ⟨bo.b,0,none⟩) (vs:=Af B.2.1) (off:=10) (i:=2) rfl rfl (λe=>by cases e) BM rfl rfl) rfl (AD.call (v:=(Value.bool (LS p q B.2.1))) (AW rfl) (HD (args:=[(aG (Af B.2.1))]) (caps:=[(pP bp.b 0),(pP bq.b 0)]) (all:=[(aG (Af B.2.1)),(pP bp.b 0),(pP bq.b 0)]) rfl rfl rfl Tryz.call186) (λw hw=>Ka B.2.1 p q bp bq (by omega) w (inS hw 0 rfl lbp) (inS hw 1 rfl lbq)) rfl (AV rfl) (AD.nil (AC.subF (sL [0,1,4,7,8,5,16] rfl) ?_)))))
  refine AC.then_ ?_
  refine AE.cond rfl (λhc1=>?_) (λhc1=>?_)
  ·skip
   have hr:Re p q B=1:=by unfold Re;rw [if_neg k0,if_pos hc1]
   refine q4 (AQ rfl (asg' rfl (AD.nil (AC.subF (sL [0,1,4,7,8,5] rfl) (AC.then_ ?_)))))
   exact AE.ret (AC.in_ret (AC.then_ret (AC.then_ret (AC.in_ret (AC.then_ret (AJ rfl (AS (v:=(vI 1)) rfl) (λw hw=>⟨by rw [hr]<;>rfl,hw.out⟩)))))))
  ·skip
   have k1:¬LS p q B.2.1=true:=by simpa using hc1
   refine AE.skip (AC.in_normal (AC.then_ (AE.region (AK (Ac (c:=(2:Int)) rfl rfl (by decide)) rfl (AQ rfl ?_)))))
   refine AD.nil (AC.subF (sL [0,1,4,7,8,5] rfl) (AC.again (FY.step (q4 (AK (Ai (c:=true) rfl rfl (by decide)) rfl ?_)))))
   refine AD.nil (q1 (AE.cond_true rfl (AE.skip (q1 (AE.block ?_)))))
   refine q4 (AQ rfl (asg' rfl (q3 (sL [0,1,4,7,8,5] rfl) (AQ rfl (AQ rfl ?_)))))
   refine AQ rfl (AK (v:=(pP bo.b 20)) (AM (j:=2) rfl rfl Tryz.underlying28 Tryz.sizeOf51 rfl (by omega) rfl) rfl (AK (v:=(aG (Af B.2.2))) (AT (q:=some ⟨bo.b,0,none⟩) (vs:=Af B.2.2) (off:=20) (i:=2) rfl rfl (λe=>by cases e) BM rfl rfl) rfl (AD.call (v:=(Value.bool (LS p q B.2.2))) (AW rfl) (HD (args:=[(aG (Af B.2.2))]) (caps:=[(pP bp.b 0),(pP bq.b 0)]) (all:=[(aG (Af B.2.2)),(pP bp.b 0),(pP bq.b 0)]) rfl rfl rfl Tryz.call186) (λw hw=>Ka B.2.2 p q bp bq (by omega) w (inS hw 0 rfl lbp) (inS hw 1 rfl lbq)) rfl (AV rfl) (AD.nil (AC.subF (sL [0,1,4,7,8,5,16] rfl) ?_)))))
   refine AC.then_ ?_
   refine AE.cond rfl (λhc1=>?_) (λhc1=>?_)
   ·skip
    have hr:Re p q B=2:=by unfold Re;rw [if_neg k0,if_neg k1,if_pos hc1]
    refine q4 (AQ rfl (asg' rfl (AD.nil (AC.subF (sL [0,1,4,7,8,5] rfl) (AC.then_ ?_)))))
    exact AE.ret (AC.in_ret (AC.then_ret (AC.then_ret (AC.in_ret (AC.then_ret (AJ rfl (AS (v:=(vI 2)) rfl) (λw hw=>⟨by rw [hr]<;>rfl,hw.out⟩)))))))
   ·skip
    have k2:¬LS p q B.2.2=true:=by simpa using hc1
    have hr:Re p q B = -1:=by unfold Re;rw [if_neg k0,if_neg k1,if_neg k2]
    refine AE.skip (AC.in_normal (AC.then_ (AE.region (AK (Ac (c:=(3:Int)) rfl rfl (by decide)) rfl (AQ rfl ?_)))))
    refine AD.nil (AC.subF (sL [0,1,4,7,8,5] rfl) (AC.again (FY.step (q4 (AK (Ai (c:=false) rfl rfl (by decide)) rfl ?_)))))
    refine AD.nil (q1 (AE.cond_false rfl (AE.exit (AC.then_exit (AC.then_exit ?_)))))
    refine AC.in_exit (q2 (asg' rfl (AD.nil (AC.subF (sL [0,1,4,7,8,5] rfl) (AC.then_ ?_)))))
    exact AE.ret (AJ rfl (AS (v:=(vI (-1:Int))) rfl) (λw hw=>⟨by rw [hr]<;>rfl,hw.out⟩))
theorem LC (p q:Pt) (B:Q3) (bp:BX (Af p)) (bq:BX (Af q)) (bo:BX (Gi B)) (hs:B3 p<=1000000/\B3 q<=1000000) (hB:B3 B.1<=1000000/\B3 B.2.1<=1000000/\B3 B.2.2<=1000000) (w:World) {S:Nat->Prop} (hbp:Ro S w bp) (hbq:Ro S w bq) (hbo:Ro S w bo):Calls Tryz.prog 185 #[(Value.slice (some ⟨bo.b,0,none⟩) 3 3),(Value.func (.func 186) #[] #[(pP bp.b 0),(pP bq.b 0)])] w (Al w (Value.bool (F0 p q B))):=by
 have lbp:=Cx (W:=w) hbp
 have lbq:=Cx (W:=w) hbq
 have lbo:=Cx (W:=w) hbo
 refine Aj (args:=[(Value.slice (some ⟨bo.b,0,none⟩) 3 3),(Value.func (.func 186) #[] #[(pP bp.b 0),(pP bq.b 0)])]) (L:=[AG (some ⟨bp.b,0,none⟩) (Af p),AG (some ⟨bq.b,0,none⟩) (Af q),AG (some ⟨bo.b,0,none⟩) (Gi B)]) Tryz.func185 rfl rfl (AV rfl) (Ds hbp (Ds hbq (Ds hbo Ax))) (AE.subF (sL [0,1] rfl) (q4 (asg' rfl (AD.nil (q2 ?_)))))
 refine AQ rfl (AQ rfl (CN Tryz.call243 (λw hw=>WH p q B bp bq bo hs hB w (inS hw 0 rfl lbp) (inS hw 1 rfl lbq) (inS hw 2 rfl lbo)) rfl (AK (DH (c:=(F0 p q B)) rfl rfl (TL p q B)) rfl (asg' rfl (AD.nil ?_)))))
 exact AC.subF (sL [4] rfl) (AC.then_ (AE.ret (AJ rfl (AS (v:=(Value.bool (F0 p q B))) rfl) (λw hw=>⟨rfl,hw.out⟩))))
set_option maxHeartbeats 1000000 in
theorem Qr (A B:Q3) (hA:B3 A.1<=1000000/\B3 A.2.1<=1000000/\B3 A.2.2<=1000000) (hB:B3 B.1<=1000000/\B3 B.2.1<=1000000/\B3 B.2.2<=1000000) (w:World)  :Calls Tryz.prog 128 #[(aG (Gi A)),(aG (Gi B))] w (Al w (Value.bool (Dx A B))):=by
 refine Aa (args:=[(aG (Gi A)),(aG (Gi B))]) Tryz.func128 rfl rfl (AV rfl) (AE.subF (sL [0,1] rfl) (q4 (BU (cs:=Gi A) rfl λb1=>BU (cs:=Gi B) rfl λb2=>AD.frzX 0 rfl rfl λhnb2=>?_)))
 refine asg' rfl (q6 (sL [2,3,4] rfl) (q4 (AQ rfl (AD.nil (AC.then_ ?_)))))
 refine AE.block (AE.unroll 4 (FY.step (q4 (AK (Ai (c:=true) rfl rfl (by decide)) rfl (AD.nil ?_)))))
 refine q1 (AE.cond_true rfl (AE.skip (q1 (AE.block (q4 ?_)))))
 refine AQ rfl (asg' rfl (q6 (sL [2,3,4,8,5] rfl) (rN [(0,true),(1,true),(2,true),(3,true),(4,true),(5,true),(6,true),(7,true)] [⟨8,6,51,Af (⟨0,0⟩:Pt)⟩,⟨9,7,51,Af (⟨0,0⟩:Pt)⟩] [(10,false),(11,false)] sr (by kernel_rfl) (λ_ _ d _ _ h=>by cases d<;>exact h) (Fc rfl rfl G8 rfl (Fc rfl rfl G8 rfl (Ht))) rfl (NH rfl (F8 (v:=(pP b1 0)) rfl (AI (j:=0) rfl rfl Tryz.underlying207 Tryz.sizeOf51 rfl (by decide) rfl) rfl ?_)))))
 refine SR 1 (Af A.1) BM rfl (NH rfl (F8 rfl (Ac (c:=(1:Int)) rfl rfl (by decide)) rfl (F8 rfl (Cb (c:=(1:Int)) rfl rfl (by decide) (by decide)) rfl (F8 (v:=(pP b1 10)) rfl (AI (j:=1) rfl rfl Tryz.underlying207 Tryz.sizeOf51 rfl (by decide) rfl) rfl (SR 1 (Af A.2.1) BM rfl ?_)))))
 refine Bz.news2 λb3 b4=>OkE.imp rfl (A8 rfl Tryz.sizeOf51 rfl (OkE.back (sl (sl sr)) (OkE.imp rfl (C6 rfl Tryz.sizeOf51 rfl ?_))))
 refine OkE.back (sl (sl sr)) (OkE.nil (AC.subF (sL [2,3,4,8,7,6] rfl) (q2 (AK (v:=(Value.slice (some ⟨b2,0,none⟩) 3 3)) (EV rfl Tryz.underlying207 Tryz.sizeOf51 (by decide)) rfl (AD.frzX 0 rfl rfl λhnb3=>?_)))))
 refine AD.frzX 1 rfl rfl λhnb4=>AK (v:=(Value.func (.func 186) #[] #[(pP b3 0),(pP b4 0)])) (Eg (vs:=[]) (us:=[(pP b3 0),(pP b4 0)]) rfl rfl) rfl (CN Tryz.call185 (λw hw=>LC A.1 A.2.1 B ⟨b3⟩ ⟨b4⟩ ⟨b2⟩ (by omega) hB w (S9 (S:=λ_=>False) (x:=(⟨b3⟩:BX (Af A.1))) hw 0 rfl hnb3) (S9 (S:=λ_=>False) (x:=(⟨b4⟩:BX (Af A.2.1))) hw 1 rfl hnb4) (S9 (S:=λ_=>False) (x:=(⟨b2⟩:BX (Gi B))) hw 2 rfl hnb2)) rfl (AK (BF (c:=(!(F0 A.1 A.2.1 B))) rfl rfl) rfl (AD.nil (AC.subF (sL [2,3,4,8,7,6,22] rfl) ?_))))
 refine AC.then_ ?_
 refine AE.cond rfl (λhc1=>?_) (λhc1=>?_)
 ·simp only [Bool.and_eq_true,Bool.or_eq_true,Bool.and_eq_false_iff,Bool.or_eq_false_iff,Bool.not_eq_true',Bool.not_eq_false',decide_eq_true_eq,decide_eq_false_iff_not] at hc1
  have hr:Dx A B=true:=by unfold Dx;rw [(by simpa using hc1:F0 A.1 A.2.1 B=false)];simp
  refine q4 (asg' rfl (AD.nil (AC.then_ (AE.ret (AC.in_ret ?_)))))
  exact AC.then_ret (AC.then_ret (AC.in_ret (AC.then_ret (AJ rfl (AS (v:=(Value.bool true)) rfl) (λw hw=>⟨by rw [hr],hw.out⟩)))))
 ·simp only [Bool.and_eq_true,Bool.or_eq_true,Bool.and_eq_false_iff,Bool.or_eq_false_iff,Bool.not_eq_true',Bool.not_eq_false',decide_eq_true_eq,decide_eq_false_iff_not] at hc1
  have k0:F0 A.1 A.2.1 B=true:=by simpa using hc1
  refine AE.skip (AC.in_normal (AC.then_ (AE.region (AK (Ac (c:=(1:Int)) rfl rfl (by decide)) rfl (AQ rfl ?_)))))
  refine AD.nil (AC.subF (sL [2,3,4,8,7,6] rfl) (AC.again (FY.step (q4 (AK (Ai (c:=true) rfl rfl (by decide)) rfl ?_)))))
  refine AD.nil (q1 (AE.cond_true rfl (AE.skip (q1 (AE.block ?_)))))
  refine q4 (AQ rfl (asg' rfl (q6 (sL [2,3,4,8,7,6,5] rfl) (AE.subF (sL [2,3,4,8,5] rfl) (rN [(0,true),(1,true),(2,true),(3,true),(4,true),(5,true),(6,true),(7,true)] [⟨8,6,51,Af (⟨0,0⟩:Pt)⟩,⟨9,7,51,Af (⟨0,0⟩:Pt)⟩] [(10,false),(11,false)] sr (by kernel_rfl) (λ_ _ d _ _ h=>by cases d<;>exact h) (Fc rfl rfl G8 rfl (Fc rfl rfl G8 rfl (Ht))) rfl ?_)))))
  refine NH rfl (F8 (v:=(pP b1 10)) rfl (AI (j:=1) rfl rfl Tryz.underlying207 Tryz.sizeOf51 rfl (by decide) rfl) rfl (SR 3 (Af A.2.1) BM rfl (NH rfl (F8 rfl (Ac (c:=(2:Int)) rfl rfl (by decide)) rfl (F8 rfl (Cb (c:=(2:Int)) rfl rfl (by decide) (by decide)) rfl ?_)))))
  refine F8 (v:=(pP b1 20)) rfl (AI (j:=2) rfl rfl Tryz.underlying207 Tryz.sizeOf51 rfl (by decide) rfl) rfl (SR 3 (Af A.2.2) BM rfl (Bz.news2 λb5 b6=>OkE.imp rfl (A8 rfl Tryz.sizeOf51 rfl (OkE.back (sl (sl sr)) ?_))))
  refine OkE.imp rfl (C6 rfl Tryz.sizeOf51 rfl (OkE.back (sl (sl sr)) (OkE.nil (AC.subF (sL [2,3,4,8,7,6] rfl) (q2 ?_)))))
  refine AK (v:=(Value.slice (some ⟨b2,0,none⟩) 3 3)) (EV rfl Tryz.underlying207 Tryz.sizeOf51 (by decide)) rfl (AD.frzX 0 rfl rfl λhnb5=>AD.frzX 1 rfl rfl λhnb6=>AK (v:=(Value.func (.func 186) #[] #[(pP b5 0),(pP b6 0)])) (Eg (vs:=[]) (us:=[(pP b5 0),(pP b6 0)]) rfl rfl) rfl (CN Tryz.call185 (λw hw=>LC A.2.1 A.2.2 B ⟨b5⟩ ⟨b6⟩ ⟨b2⟩ (by omega) hB w (S9 (S:=λ_=>False) (x:=(⟨b5⟩:BX (Af A.2.1))) hw 0 rfl hnb5) (S9 (S:=λ_=>False) (x:=(⟨b6⟩:BX (Af A.2.2))) hw 1 rfl hnb6) (S9 (S:=λ_=>False) (x:=(⟨b2⟩:BX (Gi B))) hw 4 rfl hnb2)) rfl (AK (BF (c:=(!(F0 A.2.1 A.2.2 B))) rfl rfl) rfl ?_)))
  refine AD.nil (AC.subF (sL [2,3,4,8,7,6,22] rfl) (AC.then_ ?_))
  refine AE.cond rfl (λhc1=>?_) (λhc1=>?_)
  ·simp only [Bool.and_eq_true,Bool.or_eq_true,Bool.and_eq_false_iff,Bool.or_eq_false_iff,Bool.not_eq_true',Bool.not_eq_false',decide_eq_true_eq,decide_eq_false_iff_not] at hc1
   have hr:Dx A B=true:=by unfold Dx;rw [k0,(by simpa using hc1:F0 A.2.1 A.2.2 B=false)];simp
   refine q4 (asg' rfl (AD.nil (AC.then_ (AE.ret (AC.in_ret ?_)))))
   exact AC.then_ret (AC.then_ret (AC.in_ret (AC.then_ret (AJ rfl (AS (v:=(Value.bool true)) rfl) (λw hw=>⟨by rw [hr],hw.out⟩)))))
  ·simp only [Bool.and_eq_true,Bool.or_eq_true,Bool.and_eq_false_iff,Bool.or_eq_false_iff,Bool.not_eq_true',Bool.not_eq_false',decide_eq_true_eq,decide_eq_false_iff_not] at hc1
   have k1:F0 A.2.1 A.2.2 B=true:=by simpa using hc1
   refine AE.skip (AC.in_normal (AC.then_ (AE.region (AK (Ac (c:=(2:Int)) rfl rfl (by decide)) rfl (AQ rfl ?_)))))
   refine AD.nil (AC.subF (sL [2,3,4,8,7,6] rfl) (AC.again (FY.step (q4 (AK (Ai (c:=true) rfl rfl (by decide)) rfl ?_)))))
   refine AD.nil (q1 (AE.cond_true rfl (AE.skip (q1 (AE.block ?_)))))
   refine q4 (AQ rfl (asg' rfl (q6 (sL [2,3,4,8,7,6,5] rfl) (AE.subF (sL [2,3,4,8,5] rfl) (rN [(0,true),(1,true),(2,true),(3,true),(4,true),(5,true),(6,true),(7,true)] [⟨8,6,51,Af (⟨0,0⟩:Pt)⟩,⟨9,7,51,Af (⟨0,0⟩:Pt)⟩] [(10,false),(11,false)] sr (by kernel_rfl) (λ_ _ d _ _ h=>by cases d<;>exact h) (Fc rfl rfl G8 rfl (Fc rfl rfl G8 rfl (Ht))) rfl ?_)))))
   refine NH rfl (F8 (v:=(pP b1 20)) rfl (AI (j:=2) rfl rfl Tryz.underlying207 Tryz.sizeOf51 rfl (by decide) rfl) rfl (SR 5 (Af A.2.2) BM rfl (NH rfl (F8 rfl (Ac (c:=(3:Int)) rfl rfl (by decide)) rfl (F8 rfl (Cb (c:=(0:Int)) rfl rfl (by decide) (by decide)) rfl ?_)))))
   refine F8 (v:=(pP b1 0)) rfl (AI (j:=0) rfl rfl Tryz.underlying207 Tryz.sizeOf51 rfl (by decide) rfl) rfl (SR 5 (Af A.1) BM rfl (Bz.news2 λb7 b8=>OkE.imp rfl (A8 rfl Tryz.sizeOf51 rfl (OkE.back (sl (sl sr)) ?_))))
   refine OkE.imp rfl (C6 rfl Tryz.sizeOf51 rfl (OkE.back (sl (sl sr)) (OkE.nil (AC.subF (sL [2,3,4,8,7,6] rfl) (q2 ?_)))))
   refine AK (v:=(Value.slice (some ⟨b2,0,none⟩) 3 3)) (EV rfl Tryz.underlying207 Tryz.sizeOf51 (by decide)) rfl (AD.frzX 0 rfl rfl λhnb7=>AD.frzX 1 rfl rfl λhnb8=>AK (v:=(Value.func (.func 186) #[] #[(pP b7 0),(pP b8 0)])) (Eg (vs:=[]) (us:=[(pP b7 0),(pP b8 0)]) rfl rfl) rfl (CN Tryz.call185 (λw hw=>LC A.2.2 A.1 B ⟨b7⟩ ⟨b8⟩ ⟨b2⟩ (by omega) hB w (S9 (S:=λ_=>False) (x:=(⟨b7⟩:BX (Af A.2.2))) hw 0 rfl hnb7) (S9 (S:=λ_=>False) (x:=(⟨b8⟩:BX (Af A.1))) hw 1 rfl hnb8) (S9 (S:=λ_=>False) (x:=(⟨b2⟩:BX (Gi B))) hw 6 rfl hnb2)) rfl (AK (BF (c:=(!(F0 A.2.2 A.1 B))) rfl rfl) rfl ?_)))
   refine AD.nil (AC.subF (sL [2,3,4,8,7,6,22] rfl) (AC.then_ ?_))
   refine AE.cond rfl (λhc1=>?_) (λhc1=>?_)
   ·simp only [Bool.and_eq_true,Bool.or_eq_true,Bool.and_eq_false_iff,Bool.or_eq_false_iff,Bool.not_eq_true',Bool.not_eq_false',decide_eq_true_eq,decide_eq_false_iff_not] at hc1
    have hr:Dx A B=true:=by unfold Dx;rw [k0,k1,(by simpa using hc1:F0 A.2.2 A.1 B=false)];simp
    refine q4 (asg' rfl (AD.nil (AC.then_ (AE.ret (AC.in_ret ?_)))))
    exact AC.then_ret (AC.then_ret (AC.in_ret (AC.then_ret (AJ rfl (AS (v:=(Value.bool true)) rfl) (λw hw=>⟨by rw [hr],hw.out⟩)))))
   ·simp only [Bool.and_eq_true,Bool.or_eq_true,Bool.and_eq_false_iff,Bool.or_eq_false_iff,Bool.not_eq_true',Bool.not_eq_false',decide_eq_true_eq,decide_eq_false_iff_not] at hc1
    have k2:F0 A.2.2 A.1 B=true:=by simpa using hc1
    have hr:Dx A B=false:=by unfold Dx;rw [k0,k1,k2];rfl
    refine AE.skip (AC.in_normal (AC.then_ (AE.region (AK (Ac (c:=(3:Int)) rfl rfl (by decide)) rfl (AQ rfl ?_)))))
    refine AD.nil (AC.subF (sL [2,3,4,8,7,6] rfl) (AC.again (FY.step (q4 (AK (Ai (c:=false) rfl rfl (by decide)) rfl ?_)))))
    refine AD.nil (q1 (AE.cond_false rfl (AE.exit (AC.then_exit (AC.then_exit ?_)))))
    refine AC.in_exit (q2 (asg' rfl (AD.nil (AC.subF (sL [2,3,4,8,7,6] rfl) (AC.then_ ?_)))))
    exact AE.ret (AJ rfl (AS (v:=(Value.bool false)) rfl) (λw hw=>⟨by rw [hr],hw.out⟩))
end
end Go.Proofs.YtpgncndhhhllfaaGreatDoor
