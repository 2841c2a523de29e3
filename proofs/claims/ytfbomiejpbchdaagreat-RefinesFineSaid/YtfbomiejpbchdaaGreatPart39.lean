import Derived.Test.YtfbomiejpbchdaaGreatPart06
import Derived.Test.YtfbomiejpbchdaaGreatPart20
import Derived.Test.YtfbomiejpbchdaaGreatPart28
import Derived.Test.YtfbomiejpbchdaaGreatPart34
import Derived.Test.YtfbomiejpbchdaaGreatPart38
namespace Go.Proofs.YtfbomiejpbchdaaGreat
open Go Go.RowKit
set_option linter.unusedVariables false
set_option linter.unusedSimpArgs false
section
def VB (t:T3) (p:Nat):Int:=if p=t.1 then 0 else if p=t.2.1 then 1 else if p=t.2.2 then 2 else -1
theorem Vp (t:T3) (p:Nat):decide (0<=VB t p)=CW t p:=by
  unfold VB CW
  by_cases h1:p=t.1
  · rw [if_pos h1,h1];simp
  · have h1':¬t.1=p:=λe=>h1 e.symm
    rw [if_neg h1]
    by_cases h2:p=t.2.1
    · rw [if_pos h2,h2];simp
    · have h2':¬t.2.1=p:=λe=>h2 e.symm
      rw [if_neg h2]
      by_cases h3:p=t.2.2
      · rw [if_pos h3,h3];simp
      · have h3':¬t.2.2=p:=λe=>h3 e.symm
        rw [if_neg h3];simp [h1',h2',h3']
abbrev Q3:=Pt×Pt×Pt
def Hk (x:Q3):List Value:=Ae x.1++(Ae x.2.1++(Ae x.2.2++[]))
theorem Yv (a b c:Pt):Ae a++Ae b++Ae c=Hk (a,b,c):=by simp [Hk]
def Br (ps:List Pt) (t:T3):Q3:=(cor ps t.1,cor ps t.2.1,cor ps t.2.2)
def M5 (p q r:Pt):Bool:=decide (0<(AQ p q r).num.sign)
def Uf (p q:Pt) (B:Q3):Int:=if M5 p q B.1=true then 0 else if M5 p q B.2.1=true then 1 else if M5 p q B.2.2=true then 2 else -1
def GJ (p q:Pt) (B:Q3):Bool:=M5 p q B.1||M5 p q B.2.1||M5 p q B.2.2
theorem WA (p q:Pt) (B:Q3):decide (0<=Uf p q B)=GJ p q B:=by
  unfold Uf GJ
  cases M5 p q B.1<;>cases M5 p q B.2.1<;>cases M5 p q B.2.2<;>rfl
def Ep (A B:Q3):Bool:=!GJ A.1 A.2.1 B||(!GJ A.2.1 A.2.2 B||!GJ A.2.2 A.1 B)
structure Kk (ps:List Pt) (ts ss:List T3):Prop where
  pl:ps.length<=4096
  tl:ts.length<=8192
  t0:0<ts.length
  sl:ss.length<=24576
  sz:∀k,Bo (cor ps k)<=1000
  num:B5 ps.length ts=true
  pos:∀j,j<ts.length->(AQ (cor ps (ts.getD j (0,0,0)).1) (cor ps (ts.getD j (0,0,0)).2.1) (cor ps (ts.getD j (0,0,0)).2.2)).num.sign=1
  sid:∀j,j<ss.length->(ss.getD j (0,0,0)).1<ps.length/\(ss.getD j (0,0,0)).2.1<ps.length/\(ss.getD j (0,0,0)).2.2<=255
  use:∀p,p<ps.length->∃j,j<ts.length/\CW (ts.getD j (0,0,0)) p=true
  dst:ps.Nodup
  apart:∀i k,i<ts.length->k<i->(!Ep (Br ps (ts.getD i (0,0,0))) (Br ps (ts.getD k (0,0,0)))&&!Ep (Br ps (ts.getD k (0,0,0))) (Br ps (ts.getD i (0,0,0))))=false
  crn:∀i p,i<ts.length->p<ps.length->CW (ts.getD i (0,0,0)) p=false->KT ps (cor ps p) (ts.getD i (0,0,0))=0
  rl:ss.length=(Bt ts).length
  rim:∀j,j<ss.length->(ss.getD j (0,0,0)).1=((Bt ts).getD j (0,0,0)).1/\(ss.getD j (0,0,0)).2.1=((Bt ts).getD j (0,0,0)).2.1
theorem Kk.szM {ps:List Pt} {ts ss:List T3} (h:Kk ps ts ss) (k:Nat):Bo (cor ps k)<=1000000:=Nat.le_trans (h.sz k) (by decide)
def NZ (x y:Pt):Int:=if Pj x y then -1 else if Pj y x then 1 else 0
theorem Fq {x y:Pt}:NZ x y<0↔Pj x y:=by
  unfold NZ
  split
  · exact ⟨λ_=>by assumption,λ_=>by decide⟩
  · rename_i h
    split<;>exact ⟨λk=>absurd k (by decide),λk=>absurd k h⟩
theorem Rv {ys:List Pt} (h:ys.Nodup) {k:Nat} (h1:1<=k) (hk:k<ys.length) (e:ys.getD k ⟨0,0⟩=ys.getD (k-1) ⟨0,0⟩):False:=by
  rw [List.getD,List.getD,List.getElem?_eq_getElem hk,List.getElem?_eq_getElem (show k-1<ys.length by omega)] at e
  have:=(List.getElem_inj h).1 e
  omega
def bL (us:List Bool):List Value:=us.map Value.bool
theorem Mo (us:List Bool):(bL us).length=us.length:=List.length_map _
theorem O3 (us:List Bool) (j:Nat) (v:Bool):(bL us).set j (.bool v)=bL (us.set j v):=by unfold bL;rw [List.map_set]
theorem Xk {us:List Bool} {j:Nat} (h:j<us.length):(bL us)[j*1]?=some (.bool (us.getD j false)):=by simp [bL,h]
def Ka (ts:List T3) (n i:Nat):List Bool:=(List.range n).map λp=>(ts.take i).any λt=>CW t p
theorem Gn (ts:List T3) (n i:Nat):(Ka ts n i).length=n:=by simp [Ka]
theorem Qp (ts:List T3) (n:Nat):List.replicate n false=Ka ts n 0:=by
  unfold Ka
  rw [List.take_zero]
  apply List.ext_getElem?
  intro j
  rcases Nat.lt_or_ge j n with h|h
  · simp [h]
  · rw [List.getElem?_eq_none (by simpa using h),List.getElem?_eq_none (by simpa using h)]
theorem SF {ts:List T3} {n i:Nat} (h:i<ts.length):(((Ka ts n i).set (ts.getD i (0,0,0)).1 true).set (ts.getD i (0,0,0)).2.1 true).set (ts.getD i (0,0,0)).2.2 true=Ka ts n (i+1):=by
  apply List.ext_getElem?
  intro j
  have e:ts.take (i+1)=ts.take i++[ts.getD i (0,0,0)]:=by rw [List.take_add_one,List.getD,List.getElem?_eq_getElem h];rfl
  generalize ts.getD i (0,0,0)=T at *
  unfold Ka
  rw [e]
  simp only [List.getElem?_set,List.length_set,List.length_map,List.length_range,List.getElem?_map,List.any_append,List.any_cons,List.any_nil,Bool.or_false]
  rcases Nat.lt_or_ge j n with hj|hj
  · rw [List.getElem?_range hj]
    simp only [Option.map_some]
    unfold CW
    by_cases h1:T.1=j<;>by_cases h2:T.2.1=j<;>by_cases h3:T.2.2=j<;>simp [h1,h2,h3]<;>try omega
  · rw [List.getElem?_eq_none (by simpa using hj)]
    simp only [Option.map_none]
    by_cases h1:T.1=j<;>by_cases h2:T.2.1=j<;>by_cases h3:T.2.2=j<;>simp [h1,h2,h3]<;>omega
theorem U5 {ts:List T3} {n p:Nat} (hp:p<n) (h:∃j,j<ts.length/\CW (ts.getD j (0,0,0)) p=true):(Ka ts n ts.length).getD p false=true:=by
  unfold Ka
  rw [List.getD,List.getElem?_map,List.getElem?_range hp,Option.map_some,Option.getD_some,List.take_length,List.any_eq_true]
  obtain ⟨j,hj,h⟩:=h
  exact ⟨_,List.getElem_mem hj,by rwa [List.getD,List.getElem?_eq_getElem hj] at h⟩
section
variable {P:Program} {ops:Array Oper} {rest:List Oper} {Q:Exit->Act->World->Prop} {n d i z m c:Nat} {F:List (Nat×Value)} {w0:BP} {L L':List As} {t ty T:TypeId} {p:String} {af:Array Edge} {x y:Operand} {cs vs:List Value} {q:Option Addr} {v:Value}
theorem AF.makeBool {ki kj:IntKind} {bytes:Nat} (ht:Sk P t T (.bool false) bytes) (hx:evF F x=some (.int ki (m:Nat))) (hy:evF F y=some (.int kj (m:Nat))) (hm:m<=1099511627776) (hb:Nat.ble bytes 16=true) (hd:Nat.ble (d+1) n=true)
    (next:∀b,OwnOk (some ⟨b,0,none⟩) m m->AF P ops rest Q n ((d,.slice (some ⟨b,0,none⟩) m m)::F) w0 (rowW (some ⟨b,0,none⟩) T 1 m m (bL (List.replicate m false))::L)) :
    AF P ops (⟨some d,.makeSlice t x y,ty,p,af,none⟩::rest) Q n F w0 L:=AF.makeRow ht hx hy hm hb hd λb ho=>by
  have h:=next b ho
  unfold bL at h
  rw [List.map_replicate] at h
  exact h
end
section
variable {P:Program} {n:Nat} {F:List (Nat×Value)} {w0:BP} {L:List As} {x:Operand} {d:Option Tmp} {t:TypeId} {p:String} {af:Array Edge} {g:Option (Nat×Bool)}
theorem NE {tx e:TypeId} {b off len k:Nat} (hx:evF F x=some (.pointer (some ⟨b,off,none⟩))) (hu:P.underlying tx=some (.array len e)) (hs:∀w,(sizeOf e).run P w=.ok k w) (h0:0<len) :
    Ex P n F w0 L ⟨d,.slice tx x none none none,t,p,af,g⟩ (.slice (some ⟨b,off,none⟩) len len):=λA w ha _=>by
  have e1:¬len=0:=by omega
  simp [execOp,ha.ev hx,Instr.sliceAt,run_underlying hu,Instr.sureAddr,Instr.sliceBounds,Instr.sliceBound,hs,e1,Addr.add_lit]
end
theorem V1 {S:Nat->Prop} {w:World} {ts:List T3} {x:RX (rowsL Al ts) ts.length} (h:Ro S w x) {j:Nat} (hj:j<ts.length) (ok:BQ (some ⟨pB x.p,pO x.p+j*3,none⟩) 3 3):Ro S w (⟨some ⟨pB x.p,pO x.p+j*3,none⟩,3,ok⟩:RX (Al (ts.getD j (0,0,0))) 3):=λy hy=>by
  rcases List.mem_singleton.1 hy with rfl
  obtain ⟨h1,h2⟩:=h (Ag x.p (rowsL Al ts)) (List.mem_singleton.2 rfl)
  obtain ⟨a,hp⟩:∃a,x.p=some a:=by
    cases hp:x.p with
    | none=>have:=(x.ok.nil hp).1;omega
    | some a=>exact ⟨a,rfl⟩
  have e:(some (⟨pB x.p,pO x.p+j*3,none⟩:Addr)).map (·.block)=x.p.map (·.block):=by rw [hp];rfl
  refine ⟨λb hb=>?_,λb hb=>h2 b (e.symm.trans hb)⟩
  obtain ⟨o,ho,cur,T,fr,rfl,hc⟩:=h1 b (e.symm.trans hb)
  refine ⟨_,ho,cur,T,fr,rfl,?_⟩
  have hl:=Au A6 (0,0,0) ts j hj
  have hz:=Ak A6 ts
  show (cur.toList.drop (pO x.p+j*3)).take 3=_
  refine Eq.trans ?_ hl
  refine Eq.trans ?_ (congrArg (λl:List Value=>(l.drop (j*3)).take 3) hc)
  show _=(((cur.toList.drop (pO x.p)).take (rowsL Al ts).length).drop (j*3)).take 3
  rw [List.drop_take,List.take_take,List.drop_drop]
  congr 1
  omega
theorem Xb (b o:Nat):BQ (some ⟨b,o,none⟩) 3 3:=⟨λe=>(by cases e),λa e=>(by injection e with e;subst e;rfl),Nat.le_refl _⟩
end
section
set_option maxRecDepth 100000
theorem X1 (t:T3) (p:Nat) (y:RX (Al t) 3) (w:World) {S:Nat->Prop} (hy:Ro S w y):Calls Tryz.prog 181 #[(Value.slice y.p 3 y.c),(vN p)] w (Am w (vI (VB t p))):=by
 have ly:=FS (W:=w) hy
 refine BH (args:=[(Value.slice y.p 3 y.c),(vN p)]) (L:=[Ag y.p (Al t)]) Tryz.func181 rfl rfl (Ad rfl) (FP hy BY) (AG.subF (sL [0,1] rfl) (q4 (AK rfl (AF.nil (q1 ?_)))))
 refine q4 (AO rfl (AJ (v:=(vI 3)) (AI rfl Tryz.underlying33) rfl (AO rfl (AF.nil (AC.subF (sL [0,1,4,7,8] rfl) ?_)))))
 refine AC.then_ (AG.block (AG.unroll 4 (Dr.step (q4 (AJ (Af (c:=true) rfl rfl (by decide)) rfl ?_)))))
 refine AF.nil (q1 (AG.cond_true rfl (AG.skip (q1 (AG.block ?_)))))
 refine q4 (AO rfl (AK rfl (q3 (sL [0,1,4,7,8,5] rfl) (AO rfl (AO rfl ?_)))))
 refine AO rfl (AJ (v:=(pP (pB y.p) (pO y.p+0*1))) (AW (j:=0) rfl rfl y.ok Tryz.underlying33 Tryz.sizeOf3 rfl (by omega)) rfl (AJ (BK (v:=(vN t.1)) (i:=0) rfl rfl (y.ok.ne (by omega)) B4 rfl) rfl (AJ (Be (c:=(decide (p=t.1))) rfl rfl (Og (a:=p) (b:=t.1))) rfl (AF.nil (AC.subF (sL [0,1,4,7,8,5,16] rfl) ?_)))))
 refine AC.then_ ?_
 refine AG.cond rfl (λhc1=>?_) (λhc1=>?_)
 ·replace hc1:=of_decide_eq_true hc1
  have hr:VB t p=0:=by unfold VB;rw [if_pos hc1]
  refine q4 (AO rfl (AK rfl (AF.nil (AC.subF (sL [0,1,4,7,8,5] rfl) (AC.then_ ?_)))))
  exact AG.ret (AC.in_ret (AC.then_ret (AC.then_ret (AC.in_ret (AC.then_ret (AR rfl (Ai (v:=(vI 0)) rfl) (λw hw=>⟨by rw [hr]<;>rfl,hw.out⟩)))))))
 ·replace hc1:=of_decide_eq_false hc1
  have k0:=hc1
  refine AG.skip (AC.in_normal (AC.then_ (AG.region (AJ (AX (c:=(1:Int)) rfl rfl (by decide)) rfl (AO rfl ?_)))))
  refine AF.nil (AC.subF (sL [0,1,4,7,8,5] rfl) (AC.again (Dr.step (q4 (AJ (Af (c:=true) rfl rfl (by decide)) rfl ?_)))))
  refine AF.nil (q1 (AG.cond_true rfl (AG.skip (q1 (AG.block ?_)))))
  refine q4 (AO rfl (AK rfl (q3 (sL [0,1,4,7,8,5] rfl) (AO rfl (AO rfl ?_)))))
  refine AO rfl (AJ (v:=(pP (pB y.p) (pO y.p+1*1))) (AW (j:=1) rfl rfl y.ok Tryz.underlying33 Tryz.sizeOf3 rfl (by omega)) rfl (AJ (BK (v:=(vN t.2.1)) (i:=0) rfl rfl (y.ok.ne (by omega)) B4 rfl) rfl (AJ (Be (c:=(decide (p=t.2.1))) rfl rfl (Og (a:=p) (b:=t.2.1))) rfl (AF.nil (AC.subF (sL [0,1,4,7,8,5,16] rfl) ?_)))))
  refine AC.then_ ?_
  refine AG.cond rfl (λhc1=>?_) (λhc1=>?_)
  ·replace hc1:=of_decide_eq_true hc1
   have hr:VB t p=1:=by unfold VB;rw [if_neg k0,if_pos hc1]
   refine q4 (AO rfl (AK rfl (AF.nil (AC.subF (sL [0,1,4,7,8,5] rfl) (AC.then_ ?_)))))
   exact AG.ret (AC.in_ret (AC.then_ret (AC.then_ret (AC.in_ret (AC.then_ret (AR rfl (Ai (v:=(vI 1)) rfl) (λw hw=>⟨by rw [hr]<;>rfl,hw.out⟩)))))))
  ·replace hc1:=of_decide_eq_false hc1
   have k1:=hc1
   refine AG.skip (AC.in_normal (AC.then_ (AG.region (AJ (AX (c:=(2:Int)) rfl rfl (by decide)) rfl (AO rfl ?_)))))
   refine AF.nil (AC.subF (sL [0,1,4,7,8,5] rfl) (AC.again (Dr.step (q4 (AJ (Af (c:=true) rfl rfl (by decide)) rfl ?_)))))
   refine AF.nil (q1 (AG.cond_true rfl (AG.skip (q1 (AG.block ?_)))))
   refine q4 (AO rfl (AK rfl (q3 (sL [0,1,4,7,8,5] rfl) (AO rfl (AO rfl ?_)))))
   refine AO rfl (AJ (v:=(pP (pB y.p) (pO y.p+2*1))) (AW (j:=2) rfl rfl y.ok Tryz.underlying33 Tryz.sizeOf3 rfl (by omega)) rfl (AJ (BK (v:=(vN t.2.2)) (i:=0) rfl rfl (y.ok.ne (by omega)) B4 rfl) rfl (AJ (Be (c:=(decide (p=t.2.2))) rfl rfl (Og (a:=p) (b:=t.2.2))) rfl (AF.nil (AC.subF (sL [0,1,4,7,8,5,16] rfl) ?_)))))
   refine AC.then_ ?_
   refine AG.cond rfl (λhc1=>?_) (λhc1=>?_)
   ·replace hc1:=of_decide_eq_true hc1
    have hr:VB t p=2:=by unfold VB;rw [if_neg k0,if_neg k1,if_pos hc1]
    refine q4 (AO rfl (AK rfl (AF.nil (AC.subF (sL [0,1,4,7,8,5] rfl) (AC.then_ ?_)))))
    exact AG.ret (AC.in_ret (AC.then_ret (AC.then_ret (AC.in_ret (AC.then_ret (AR rfl (Ai (v:=(vI 2)) rfl) (λw hw=>⟨by rw [hr]<;>rfl,hw.out⟩)))))))
   ·replace hc1:=of_decide_eq_false hc1
    have k2:=hc1
    have hr:VB t p = -1:=by unfold VB;rw [if_neg k0,if_neg k1,if_neg k2]
    refine AG.skip (AC.in_normal (AC.then_ (AG.region (AJ (AX (c:=(3:Int)) rfl rfl (by decide)) rfl (AO rfl ?_)))))
    refine AF.nil (AC.subF (sL [0,1,4,7,8,5] rfl) (AC.again (Dr.step (q4 (AJ (Af (c:=false) rfl rfl (by decide)) rfl ?_)))))
    refine AF.nil (q1 (AG.cond_false rfl (AG.exit (AC.then_exit (AC.then_exit ?_)))))
    refine AC.in_exit (q2 (AK rfl (AF.nil (AC.subF (sL [0,1,4,7,8,5] rfl) (AC.then_ ?_)))))
    exact AG.ret (AR rfl (Ai (v:=(vI (-1:Int))) rfl) (λw hw=>⟨by rw [hr]<;>rfl,hw.out⟩))
theorem S6 (t:T3) (p:Nat) (y:RX (Al t) 3) (w:World) {S:Nat->Prop} (hy:Ro S w y):Calls Tryz.prog 135 #[(Value.slice y.p 3 y.c),(vN p)] w (Am w (Value.bool (CW t p))):=by
 have ly:=FS (W:=w) hy
 refine BH (args:=[(Value.slice y.p 3 y.c),(vN p)]) (L:=[Ag y.p (Al t)]) Tryz.func135 rfl rfl (Ad rfl) (FP hy BY) (AG.subF (sL [0,1] rfl) (q4 (AK rfl (AF.nil (q2 ?_)))))
 refine AO rfl (AO rfl (Ey Tryz.call181 (λw hw=>X1 t p y w (Dn hw 0 rfl ly)) rfl (AJ (DT (c:=(CW t p)) rfl rfl (Vp t p)) rfl (AK rfl (AF.nil ?_)))))
 exact AC.subF (sL [4] rfl) (AC.then_ (AG.ret (AR rfl (Ai (v:=(Value.bool (CW t p))) rfl) (λw hw=>⟨rfl,hw.out⟩))))
theorem EZ (x0:Pt) (x1:Pt) (x2:Pt):Instr.fill (λi=>some (i*10,10)) (Hk ((⟨0,0⟩,⟨0,0⟩,⟨0,0⟩):Q3)).toArray [(0,.agg (Ae x0).toArray),(1,.agg (Ae x1).toArray),(2,.agg (Ae x2).toArray)]=some (Ae x0++Ae x1++Ae x2).toArray:=by kernel_rfl
theorem J_ {ps:List Pt} {ts ss:List T3} (x:MX ps ts ss) (t:Nat) (ht:t<ts.length) (htl:ts.length<=1000000) (hp:ps.length<=1000000) (hk:Lk ps.length (ts.getD t (0,0,0))=true) (w:World) {S:Nat->Prop} (hx:Ro S w x):Calls Tryz.prog 133 #[(aG (CG x)),(vN t)] w (Am w (aG (Hk (Br ps (ts.getD t (0,0,0)))))):=by
 obtain ⟨k1,k2,k3⟩:=DH hk
 obtain ⟨T,hT⟩:∃q,q=ts.getD t (0,0,0):=⟨_,rfl⟩
 rw [<-hT] at k1 k2 k3
 have lx:=FS (W:=w) hx
 refine BH (args:=[(aG (CG x)),(vN t)]) (L:=[Ag x.a.p (rowsL Ae ps),Ag x.b.p (rowsL Al ts),Ag x.c.p (rowsL Al ss)]) Tryz.func133 rfl rfl (Ad rfl) (FP hx BY) (AG.subF (sL [0,1] rfl) (q4 (Bl (cs:=CG x) rfl λb1=>al St rfl λb2=>q3 (sL [1,2,4] rfl) ?_)))
 refine AJ (v:=(pP b1 1)) (AA rfl Tryz.underlying31 rfl Tryz.sizeOf28 rfl) rfl (BL 1 (Value.slice x.b.p ts.length x.b.c) Dc rfl (AO rfl (AJ (v:=(pP (pB x.b.p) (pO x.b.p+t*3))) (AW (j:=t) rfl rfl x.b.ok Tryz.underlying28 Tryz.sizeOf76 rfl (by omega)) rfl (AJ (v:=(aG (Al (ts.getD t ((0,0,0):Nat×Nat×Nat))))) (AU (vs:=Al (ts.getD t ((0,0,0):Nat×Nat×Nat))) (i:=3) rfl rfl (BQ.ne x.b.ok (by omega)) Ip (Au A6 _ _ _ (by omega)) (A6 _)) rfl (AF.retell (k:=10) (u:=(aG (Al T))) rfl (by rw [hT]) ?_)))))
 refine al ON rfl λb3=>Ap rfl Tryz.sizeOf76 rfl (q6 (sL [2,4,5] rfl) (Cq [(0,true),(1,true),(2,true),(3,true),(4,true),(5,true),(6,true),(7,true),(8,true),(9,true),(10,true),(11,true),(12,true),(13,true),(14,true),(15,true),(16,true),(17,true),(18,true),(19,false)] (sk (sl sr)) (Av (v:=(pP b1 0)) rfl (AA rfl Tryz.underlying31 rfl Tryz.sizeOf27 rfl) (Bg 1 (Value.slice x.a.p ps.length x.a.c) C2 rfl ?_))))
 refine Av (v:=(pP b3 0)) rfl (AE (j:=0) rfl rfl Tryz.underlying76 Tryz.sizeOf3 rfl (by decide) rfl) (Bg 0 (vN T.1) B4 rfl (Av (v:=(pP (pB x.a.p) (pO x.a.p+T.1*10))) rfl (AW (j:=T.1) rfl rfl x.a.ok Tryz.underlying27 Tryz.sizeOf55 rfl (by omega)) (Av (v:=(aG (Ae (ps.getD T.1 (⟨0,0⟩:Pt))))) rfl (AU (vs:=Ae (ps.getD T.1 (⟨0,0⟩:Pt))) (i:=2) rfl rfl (BQ.ne x.a.ok (by omega)) BC (Au BI _ _ _ (by omega)) (BI _)) (Av (v:=(pP b1 0)) rfl (AA rfl Tryz.underlying31 rfl Tryz.sizeOf27 rfl) (Bg 1 (Value.slice x.a.p ps.length x.a.c) C2 rfl ?_)))))
 refine Av (v:=(pP b3 1)) rfl (AE (j:=1) rfl rfl Tryz.underlying76 Tryz.sizeOf3 rfl (by decide) rfl) (Bg 0 (vN T.2.1) B4 rfl (Av (v:=(pP (pB x.a.p) (pO x.a.p+T.2.1*10))) rfl (AW (j:=T.2.1) rfl rfl x.a.ok Tryz.underlying27 Tryz.sizeOf55 rfl (by omega)) (Av (v:=(aG (Ae (ps.getD T.2.1 (⟨0,0⟩:Pt))))) rfl (AU (vs:=Ae (ps.getD T.2.1 (⟨0,0⟩:Pt))) (i:=2) rfl rfl (BQ.ne x.a.ok (by omega)) BC (Au BI _ _ _ (by omega)) (BI _)) (Av (v:=(pP b1 0)) rfl (AA rfl Tryz.underlying31 rfl Tryz.sizeOf27 rfl) (Bg 1 (Value.slice x.a.p ps.length x.a.c) C2 rfl ?_)))))
 refine Av (v:=(pP b3 2)) rfl (AE (j:=2) rfl rfl Tryz.underlying76 Tryz.sizeOf3 rfl (by decide) rfl) (Bg 0 (vN T.2.2) B4 rfl (Av (v:=(pP (pB x.a.p) (pO x.a.p+T.2.2*10))) rfl (AW (j:=T.2.2) rfl rfl x.a.ok Tryz.underlying27 Tryz.sizeOf55 rfl (by omega)) (Av (v:=(aG (Ae (ps.getD T.2.2 (⟨0,0⟩:Pt))))) rfl (AU (vs:=Ae (ps.getD T.2.2 (⟨0,0⟩:Pt))) (i:=2) rfl rfl (BQ.ne x.a.ok (by omega)) BC (Au BI _ _ _ (by omega)) (BI _)) (Av (v:=(aG (Ae (ps.getD T.1 (⟨0,0⟩:Pt))++Ae (ps.getD T.2.1 (⟨0,0⟩:Pt))++Ae (ps.getD T.2.2 (⟨0,0⟩:Pt))))) rfl (An (zs:=Hk ((⟨0,0⟩,⟨0,0⟩,⟨0,0⟩):Q3)) (vs:=Ae (ps.getD T.1 (⟨0,0⟩:Pt))++Ae (ps.getD T.2.1 (⟨0,0⟩:Pt))++Ae (ps.getD T.2.2 (⟨0,0⟩:Pt))) (pv:=[(0,(aG (Ae (ps.getD T.1 (⟨0,0⟩:Pt))))),(1,(aG (Ae (ps.getD T.2.1 (⟨0,0⟩:Pt))))),(2,(aG (Ae (ps.getD T.2.2 (⟨0,0⟩:Pt)))))]) Tryz.zeroValue212 Tryz.underlying212 Tryz.sizeOf55 rfl (EZ (ps.getD T.1 (⟨0,0⟩:Pt)) (ps.getD T.2.1 (⟨0,0⟩:Pt)) (ps.getD T.2.2 (⟨0,0⟩:Pt)))) (AS.imp rfl ?_)))))
 exact Cr rfl Tryz.sizeOf212 rfl (AS.back (sk (sl sr)) (AS.nil (AC.subF (sL [2,4,5] rfl) (AC.then_ (AG.ret (AR rfl (Ay (i:=1) (cs:=Ae (ps.getD T.1 (⟨0,0⟩:Pt))++Ae (ps.getD T.2.1 (⟨0,0⟩:Pt))++Ae (ps.getD T.2.2 (⟨0,0⟩:Pt))) rfl rfl Tryz.isAgg212 Tryz.sizeOf212 rfl) (λw hw=>⟨by rw [<-hT];unfold Br cor;rw [<-Yv],hw.out⟩)))))))
theorem Ma (r p q:Pt) (bp:BX (Ae p)) (bq:BX (Ae q)) (hs:Bo p+Bo q+Bo r<=10000000) (w:World) {S:Nat->Prop} (hbp:Ro S w bp) (hbq:Ro S w bq):Calls Tryz.prog 180 #[(aG (Ae r)),(pP bp.b 0),(pP bq.b 0)] w (Am w (Value.bool (M5 p q r))):=by
 have lbp:=FS (W:=w) hbp
 have lbq:=FS (W:=w) hbq
 refine BH (args:=[(aG (Ae r)),(pP bp.b 0),(pP bq.b 0)]) (L:=[Ag (some ⟨bp.b,0,none⟩) (Ae p),Ag (some ⟨bq.b,0,none⟩) (Ae q)]) Tryz.func180 rfl rfl (Ad rfl) (FP hbp (FP hbq BY)) (AG.subF (sL [0,1,2] rfl) (q4 (Bl (cs:=Ae r) rfl λb1=>AK rfl (q3 (sL [1,2,3,4] rfl) ?_))))
 refine AJ (v:=(aG (Ae p))) (AU (q:=some ⟨bp.b,0,none⟩) (vs:=Ae p) (off:=0) (i:=1) rfl rfl (λe=>by cases e) BC rfl rfl) rfl (AJ (v:=(aG (Ae q))) (AU (q:=some ⟨bq.b,0,none⟩) (vs:=Ae q) (off:=0) (i:=2) rfl rfl (λe=>by cases e) BC rfl rfl) rfl (A7 0 BC rfl (BU Tryz.call52 (Ns p q r (by omega)) rfl (AJ (CK (c:=(M5 p q r)) rfl rfl rfl) rfl (AK rfl ?_)))))
 exact AF.nil (AC.subF (sL [4] rfl) (AC.then_ (AG.ret (AR rfl (Ai (v:=(Value.bool (M5 p q r))) rfl) (λw hw=>⟨rfl,hw.out⟩)))))
theorem Xq (p q:Pt) (B:Q3) (bp:BX (Ae p)) (bq:BX (Ae q)) (bo:BX (Hk B)) (hs:Bo p<=1000000/\Bo q<=1000000) (hB:Bo B.1<=1000000/\Bo B.2.1<=1000000/\Bo B.2.2<=1000000) (w:World) {S:Nat->Prop} (hbp:Ro S w bp) (hbq:Ro S w bq) (hbo:Ro S w bo):Calls Tryz.prog 231 #[(Value.slice (some ⟨bo.b,0,none⟩) 3 3),(Value.func (.func 180) #[] #[(pP bp.b 0),(pP bq.b 0)])] w (Am w (vI (Uf p q B))):=by
 have lbp:=FS (W:=w) hbp
 have lbq:=FS (W:=w) hbq
 have lbo:=FS (W:=w) hbo
 refine BH (args:=[(Value.slice (some ⟨bo.b,0,none⟩) 3 3),(Value.func (.func 180) #[] #[(pP bp.b 0),(pP bq.b 0)])]) (L:=[Ag (some ⟨bp.b,0,none⟩) (Ae p),Ag (some ⟨bq.b,0,none⟩) (Ae q),Ag (some ⟨bo.b,0,none⟩) (Hk B)]) Tryz.func231 rfl rfl (Ad rfl) (FP hbp (FP hbq (FP hbo BY))) (AG.subF (sL [0,1] rfl) (q4 (AK rfl (AF.nil (q1 ?_)))))
 refine q4 (AO rfl (AJ (v:=(vI 3)) (AI rfl Tryz.underlying27) rfl (AO rfl (AF.nil (AC.subF (sL [0,1,4,7,8] rfl) ?_)))))
 refine AC.then_ (AG.block (AG.unroll 4 (Dr.step (q4 (AJ (Af (c:=true) rfl rfl (by decide)) rfl ?_)))))
 refine AF.nil (q1 (AG.cond_true rfl (AG.skip (q1 (AG.block ?_)))))
 refine q4 (AO rfl (AK rfl (q3 (sL [0,1,4,7,8,5] rfl) (AO rfl (AO rfl ?_)))))
 refine AO rfl (AJ (v:=(pP bo.b 0)) (AH (j:=0) rfl rfl Tryz.underlying27 Tryz.sizeOf55 rfl (by omega) rfl) rfl (AJ (v:=(aG (Ae B.1))) (AU (q:=some ⟨bo.b,0,none⟩) (vs:=Ae B.1) (off:=0) (i:=2) rfl rfl (λe=>by cases e) BC rfl rfl) rfl (AF.call (v:=(Value.bool (M5 p q B.1))) (AN rfl) (F9 (args:=[(aG (Ae B.1))]) (caps:=[(pP bp.b 0),(pP bq.b 0)]) (all:=[(aG (Ae B.1)),(pP bp.b 0),(pP bq.b 0)]) rfl rfl rfl Tryz.call180) (λw hw=>Ma B.1 p q bp bq (by omega) w (Dn hw 0 rfl lbp) (Dn hw 1 rfl lbq)) rfl (Ad rfl) (AF.nil (AC.subF (sL [0,1,4,7,8,5,16] rfl) ?_)))))
 refine AC.then_ ?_
 refine AG.cond rfl (λhc1=>?_) (λhc1=>?_)
 ·skip
  have hr:Uf p q B=0:=by unfold Uf;rw [if_pos hc1]
  refine q4 (AO rfl (AK rfl (AF.nil (AC.subF (sL [0,1,4,7,8,5] rfl) (AC.then_ ?_)))))
  exact AG.ret (AC.in_ret (AC.then_ret (AC.then_ret (AC.in_ret (AC.then_ret (AR rfl (Ai (v:=(vI 0)) rfl) (λw hw=>⟨by rw [hr]<;>rfl,hw.out⟩)))))))
 ·skip
  have k0:¬M5 p q B.1=true:=by simpa using hc1
  refine AG.skip (AC.in_normal (AC.then_ (AG.region (AJ (AX (c:=(1:Int)) rfl rfl (by decide)) rfl (AO rfl ?_)))))
  refine AF.nil (AC.subF (sL [0,1,4,7,8,5] rfl) (AC.again (Dr.step (q4 (AJ (Af (c:=true) rfl rfl (by decide)) rfl ?_)))))
  refine AF.nil (q1 (AG.cond_true rfl (AG.skip (q1 (AG.block ?_)))))
  refine q4 (AO rfl (AK rfl (q3 (sL [0,1,4,7,8,5] rfl) (AO rfl (AO rfl ?_)))))
  refine AO rfl (AJ (v:=(pP bo.b 10)) (AH (j:=1) rfl rfl Tryz.underlying27 Tryz.sizeOf55 rfl (by omega) rfl) rfl (AJ (v:=(aG (Ae B.2.1))) (AU (q:=some ⟨bo.b,0,none⟩) (vs:=Ae B.2.1) (off:=10) (i:=2) rfl rfl (λe=>by cases e) BC rfl rfl) rfl (AF.call (v:=(Value.bool (M5 p q B.2.1))) (AN rfl) (F9 (args:=[(aG (Ae B.2.1))]) (caps:=[(pP bp.b 0),(pP bq.b 0)]) (all:=[(aG (Ae B.2.1)),(pP bp.b 0),(pP bq.b 0)]) rfl rfl rfl Tryz.call180) (λw hw=>Ma B.2.1 p q bp bq (by omega) w (Dn hw 0 rfl lbp) (Dn hw 1 rfl lbq)) rfl (Ad rfl) (AF.nil (AC.subF (sL [0,1,4,7,8,5,16] rfl) ?_)))))
  refine AC.then_ ?_
  refine AG.cond rfl (λhc1=>?_) (λhc1=>?_)
  ·skip
   have hr:Uf p q B=1:=by unfold Uf;rw [if_neg k0,if_pos hc1]
   refine q4 (AO rfl (AK rfl (AF.nil (AC.subF (sL [0,1,4,7,8,5] rfl) (AC.then_ ?_)))))
   exact AG.ret (AC.in_ret (AC.then_ret (AC.then_ret (AC.in_ret (AC.then_ret (AR rfl (Ai (v:=(vI 1)) rfl) (λw hw=>⟨by rw [hr]<;>rfl,hw.out⟩)))))))
  ·skip
   have k1:¬M5 p q B.2.1=true:=by simpa using hc1
   refine AG.skip (AC.in_normal (AC.then_ (AG.region (AJ (AX (c:=(2:Int)) rfl rfl (by decide)) rfl (AO rfl ?_)))))
   refine AF.nil (AC.subF (sL [0,1,4,7,8,5] rfl) (AC.again (Dr.step (q4 (AJ (Af (c:=true) rfl rfl (by decide)) rfl ?_)))))
   refine AF.nil (q1 (AG.cond_true rfl (AG.skip (q1 (AG.block ?_)))))
   refine q4 (AO rfl (AK rfl (q3 (sL [0,1,4,7,8,5] rfl) (AO rfl (AO rfl ?_)))))
   refine AO rfl (AJ (v:=(pP bo.b 20)) (AH (j:=2) rfl rfl Tryz.underlying27 Tryz.sizeOf55 rfl (by omega) rfl) rfl (AJ (v:=(aG (Ae B.2.2))) (AU (q:=some ⟨bo.b,0,none⟩) (vs:=Ae B.2.2) (off:=20) (i:=2) rfl rfl (λe=>by cases e) BC rfl rfl) rfl (AF.call (v:=(Value.bool (M5 p q B.2.2))) (AN rfl) (F9 (args:=[(aG (Ae B.2.2))]) (caps:=[(pP bp.b 0),(pP bq.b 0)]) (all:=[(aG (Ae B.2.2)),(pP bp.b 0),(pP bq.b 0)]) rfl rfl rfl Tryz.call180) (λw hw=>Ma B.2.2 p q bp bq (by omega) w (Dn hw 0 rfl lbp) (Dn hw 1 rfl lbq)) rfl (Ad rfl) (AF.nil (AC.subF (sL [0,1,4,7,8,5,16] rfl) ?_)))))
   refine AC.then_ ?_
   refine AG.cond rfl (λhc1=>?_) (λhc1=>?_)
   ·skip
    have hr:Uf p q B=2:=by unfold Uf;rw [if_neg k0,if_neg k1,if_pos hc1]
    refine q4 (AO rfl (AK rfl (AF.nil (AC.subF (sL [0,1,4,7,8,5] rfl) (AC.then_ ?_)))))
    exact AG.ret (AC.in_ret (AC.then_ret (AC.then_ret (AC.in_ret (AC.then_ret (AR rfl (Ai (v:=(vI 2)) rfl) (λw hw=>⟨by rw [hr]<;>rfl,hw.out⟩)))))))
   ·skip
    have k2:¬M5 p q B.2.2=true:=by simpa using hc1
    have hr:Uf p q B = -1:=by unfold Uf;rw [if_neg k0,if_neg k1,if_neg k2]
    refine AG.skip (AC.in_normal (AC.then_ (AG.region (AJ (AX (c:=(3:Int)) rfl rfl (by decide)) rfl (AO rfl ?_)))))
    refine AF.nil (AC.subF (sL [0,1,4,7,8,5] rfl) (AC.again (Dr.step (q4 (AJ (Af (c:=false) rfl rfl (by decide)) rfl ?_)))))
    refine AF.nil (q1 (AG.cond_false rfl (AG.exit (AC.then_exit (AC.then_exit ?_)))))
    refine AC.in_exit (q2 (AK rfl (AF.nil (AC.subF (sL [0,1,4,7,8,5] rfl) (AC.then_ ?_)))))
    exact AG.ret (AR rfl (Ai (v:=(vI (-1:Int))) rfl) (λw hw=>⟨by rw [hr]<;>rfl,hw.out⟩))
theorem NA (p q:Pt) (B:Q3) (bp:BX (Ae p)) (bq:BX (Ae q)) (bo:BX (Hk B)) (hs:Bo p<=1000000/\Bo q<=1000000) (hB:Bo B.1<=1000000/\Bo B.2.1<=1000000/\Bo B.2.2<=1000000) (w:World) {S:Nat->Prop} (hbp:Ro S w bp) (hbq:Ro S w bq) (hbo:Ro S w bo):Calls Tryz.prog 179 #[(Value.slice (some ⟨bo.b,0,none⟩) 3 3),(Value.func (.func 180) #[] #[(pP bp.b 0),(pP bq.b 0)])] w (Am w (Value.bool (GJ p q B))):=by
 have lbp:=FS (W:=w) hbp
 have lbq:=FS (W:=w) hbq
 have lbo:=FS (W:=w) hbo
 refine BH (args:=[(Value.slice (some ⟨bo.b,0,none⟩) 3 3),(Value.func (.func 180) #[] #[(pP bp.b 0),(pP bq.b 0)])]) (L:=[Ag (some ⟨bp.b,0,none⟩) (Ae p),Ag (some ⟨bq.b,0,none⟩) (Ae q),Ag (some ⟨bo.b,0,none⟩) (Hk B)]) Tryz.func179 rfl rfl (Ad rfl) (FP hbp (FP hbq (FP hbo BY))) (AG.subF (sL [0,1] rfl) (q4 (AK rfl (AF.nil (q2 ?_)))))
 refine AO rfl (AO rfl (Ey Tryz.call231 (λw hw=>Xq p q B bp bq bo hs hB w (Dn hw 0 rfl lbp) (Dn hw 1 rfl lbq) (Dn hw 2 rfl lbo)) rfl (AJ (DT (c:=(GJ p q B)) rfl rfl (WA p q B)) rfl (AK rfl (AF.nil ?_)))))
 exact AC.subF (sL [4] rfl) (AC.then_ (AG.ret (AR rfl (Ai (v:=(Value.bool (GJ p q B))) rfl) (λw hw=>⟨rfl,hw.out⟩))))
set_option maxHeartbeats 1000000 in
theorem SP (A B:Q3) (hA:Bo A.1<=1000000/\Bo A.2.1<=1000000/\Bo A.2.2<=1000000) (hB:Bo B.1<=1000000/\Bo B.2.1<=1000000/\Bo B.2.2<=1000000) (w:World)  :Calls Tryz.prog 134 #[(aG (Hk A)),(aG (Hk B))] w (Am w (Value.bool (Ep A B))):=by
 refine Ac (args:=[(aG (Hk A)),(aG (Hk B))]) Tryz.func134 rfl rfl (Ad rfl) (AG.subF (sL [0,1] rfl) (q4 (Bl (cs:=Hk A) rfl λb1=>Bl (cs:=Hk B) rfl λb2=>AF.frzX 0 rfl rfl λhnb2=>?_)))
 refine AK rfl (q6 (sL [2,3,4] rfl) (q4 (AO rfl (AF.nil (AC.then_ ?_)))))
 refine AG.block (AG.unroll 4 (Dr.step (q4 (AJ (Af (c:=true) rfl rfl (by decide)) rfl (AF.nil ?_)))))
 refine q1 (AG.cond_true rfl (AG.skip (q1 (AG.block (q4 ?_)))))
 refine AO rfl (AK rfl (q6 (sL [2,3,4,8,5] rfl) (rN [(0,true),(1,true),(2,true),(3,true),(4,true),(5,true),(6,true),(7,true)] [⟨8,6,55,Ae (⟨0,0⟩:Pt)⟩,⟨9,7,55,Ae (⟨0,0⟩:Pt)⟩] [(10,false),(11,false)] sr (by kernel_rfl) (λ_ _ d _ _ h=>by cases d<;>exact h) (Fs rfl rfl EM rfl (Fs rfl rfl EM rfl (H2))) rfl (Nd rfl (Gb (v:=(pP b1 0)) rfl (AE (j:=0) rfl rfl Tryz.underlying212 Tryz.sizeOf55 rfl (by decide) rfl) rfl ?_)))))
 refine SK 1 (Ae A.1) BC rfl (Nd rfl (Gb rfl (AX (c:=(1:Int)) rfl rfl (by decide)) rfl (Gb rfl (CF (c:=(1:Int)) rfl rfl (by decide) (by decide)) rfl (Gb (v:=(pP b1 10)) rfl (AE (j:=1) rfl rfl Tryz.underlying212 Tryz.sizeOf55 rfl (by decide) rfl) rfl (SK 1 (Ae A.2.1) BC rfl ?_)))))
 refine CH.news2 λb3 b4=>AS.imp rfl (Ap rfl Tryz.sizeOf55 rfl (AS.back (sl (sl sr)) (AS.imp rfl (Cr rfl Tryz.sizeOf55 rfl ?_))))
 refine AS.back (sl (sl sr)) (AS.nil (AC.subF (sL [2,3,4,8,7,6] rfl) (q2 (AJ (v:=(Value.slice (some ⟨b2,0,none⟩) 3 3)) (Dx rfl Tryz.underlying212 Tryz.sizeOf55 (by decide)) rfl (AF.frzX 0 rfl rfl λhnb3=>?_)))))
 refine AF.frzX 1 rfl rfl λhnb4=>AJ (v:=(Value.func (.func 180) #[] #[(pP b3 0),(pP b4 0)])) (EO (vs:=[]) (us:=[(pP b3 0),(pP b4 0)]) rfl rfl) rfl (Ey Tryz.call179 (λw hw=>NA A.1 A.2.1 B ⟨b3⟩ ⟨b4⟩ ⟨b2⟩ (by omega) hB w (VE (S:=λ_=>False) (x:=(⟨b3⟩:BX (Ae A.1))) hw 0 rfl hnb3) (VE (S:=λ_=>False) (x:=(⟨b4⟩:BX (Ae A.2.1))) hw 1 rfl hnb4) (VE (S:=λ_=>False) (x:=(⟨b2⟩:BX (Hk B))) hw 2 rfl hnb2)) rfl (AJ (Bi (c:=(!(GJ A.1 A.2.1 B))) rfl rfl) rfl (AF.nil (AC.subF (sL [2,3,4,8,7,6,22] rfl) ?_))))
 refine AC.then_ ?_
 refine AG.cond rfl (λhc1=>?_) (λhc1=>?_)
 ·simp only [Bool.and_eq_true,Bool.or_eq_true,Bool.and_eq_false_iff,Bool.or_eq_false_iff,Bool.not_eq_true',Bool.not_eq_false',decide_eq_true_eq,decide_eq_false_iff_not] at hc1
  have hr:Ep A B=true:=by unfold Ep;rw [(by simpa using hc1:GJ A.1 A.2.1 B=false)];simp
  refine q4 (AK rfl (AF.nil (AC.then_ (AG.ret (AC.in_ret ?_)))))
  exact AC.then_ret (AC.then_ret (AC.in_ret (AC.then_ret (AR rfl (Ai (v:=(Value.bool true)) rfl) (λw hw=>⟨by rw [hr],hw.out⟩)))))
 ·simp only [Bool.and_eq_true,Bool.or_eq_true,Bool.and_eq_false_iff,Bool.or_eq_false_iff,Bool.not_eq_true',Bool.not_eq_false',decide_eq_true_eq,decide_eq_false_iff_not] at hc1
  have k0:GJ A.1 A.2.1 B=true:=by simpa using hc1
  refine AG.skip (AC.in_normal (AC.then_ (AG.region (AJ (AX (c:=(1:Int)) rfl rfl (by decide)) rfl (AO rfl ?_)))))
  refine AF.nil (AC.subF (sL [2,3,4,8,7,6] rfl) (AC.again (Dr.step (q4 (AJ (Af (c:=true) rfl rfl (by decide)) rfl ?_)))))
  refine AF.nil (q1 (AG.cond_true rfl (AG.skip (q1 (AG.block ?_)))))
  refine q4 (AO rfl (AK rfl (q6 (sL [2,3,4,8,7,6,5] rfl) (AG.subF (sL [2,3,4,8,5] rfl) (rN [(0,true),(1,true),(2,true),(3,true),(4,true),(5,true),(6,true),(7,true)] [⟨8,6,55,Ae (⟨0,0⟩:Pt)⟩,⟨9,7,55,Ae (⟨0,0⟩:Pt)⟩] [(10,false),(11,false)] sr (by kernel_rfl) (λ_ _ d _ _ h=>by cases d<;>exact h) (Fs rfl rfl EM rfl (Fs rfl rfl EM rfl (H2))) rfl ?_)))))
  refine Nd rfl (Gb (v:=(pP b1 10)) rfl (AE (j:=1) rfl rfl Tryz.underlying212 Tryz.sizeOf55 rfl (by decide) rfl) rfl (SK 3 (Ae A.2.1) BC rfl (Nd rfl (Gb rfl (AX (c:=(2:Int)) rfl rfl (by decide)) rfl (Gb rfl (CF (c:=(2:Int)) rfl rfl (by decide) (by decide)) rfl ?_)))))
  refine Gb (v:=(pP b1 20)) rfl (AE (j:=2) rfl rfl Tryz.underlying212 Tryz.sizeOf55 rfl (by decide) rfl) rfl (SK 3 (Ae A.2.2) BC rfl (CH.news2 λb5 b6=>AS.imp rfl (Ap rfl Tryz.sizeOf55 rfl (AS.back (sl (sl sr)) ?_))))
  refine AS.imp rfl (Cr rfl Tryz.sizeOf55 rfl (AS.back (sl (sl sr)) (AS.nil (AC.subF (sL [2,3,4,8,7,6] rfl) (q2 ?_)))))
  refine AJ (v:=(Value.slice (some ⟨b2,0,none⟩) 3 3)) (Dx rfl Tryz.underlying212 Tryz.sizeOf55 (by decide)) rfl (AF.frzX 0 rfl rfl λhnb5=>AF.frzX 1 rfl rfl λhnb6=>AJ (v:=(Value.func (.func 180) #[] #[(pP b5 0),(pP b6 0)])) (EO (vs:=[]) (us:=[(pP b5 0),(pP b6 0)]) rfl rfl) rfl (Ey Tryz.call179 (λw hw=>NA A.2.1 A.2.2 B ⟨b5⟩ ⟨b6⟩ ⟨b2⟩ (by omega) hB w (VE (S:=λ_=>False) (x:=(⟨b5⟩:BX (Ae A.2.1))) hw 0 rfl hnb5) (VE (S:=λ_=>False) (x:=(⟨b6⟩:BX (Ae A.2.2))) hw 1 rfl hnb6) (VE (S:=λ_=>False) (x:=(⟨b2⟩:BX (Hk B))) hw 4 rfl hnb2)) rfl (AJ (Bi (c:=(!(GJ A.2.1 A.2.2 B))) rfl rfl) rfl ?_)))
  refine AF.nil (AC.subF (sL [2,3,4,8,7,6,22] rfl) (AC.then_ ?_))
  refine AG.cond rfl (λhc1=>?_) (λhc1=>?_)
  ·simp only [Bool.and_eq_true,Bool.or_eq_true,Bool.and_eq_false_iff,Bool.or_eq_false_iff,Bool.not_eq_true',Bool.not_eq_false',decide_eq_true_eq,decide_eq_false_iff_not] at hc1
   have hr:Ep A B=true:=by unfold Ep;rw [k0,(by simpa using hc1:GJ A.2.1 A.2.2 B=false)];simp
   refine q4 (AK rfl (AF.nil (AC.then_ (AG.ret (AC.in_ret ?_)))))
   exact AC.then_ret (AC.then_ret (AC.in_ret (AC.then_ret (AR rfl (Ai (v:=(Value.bool true)) rfl) (λw hw=>⟨by rw [hr],hw.out⟩)))))
  ·simp only [Bool.and_eq_true,Bool.or_eq_true,Bool.and_eq_false_iff,Bool.or_eq_false_iff,Bool.not_eq_true',Bool.not_eq_false',decide_eq_true_eq,decide_eq_false_iff_not] at hc1
   have k1:GJ A.2.1 A.2.2 B=true:=by simpa using hc1
   refine AG.skip (AC.in_normal (AC.then_ (AG.region (AJ (AX (c:=(2:Int)) rfl rfl (by decide)) rfl (AO rfl ?_)))))
   refine AF.nil (AC.subF (sL [2,3,4,8,7,6] rfl) (AC.again (Dr.step (q4 (AJ (Af (c:=true) rfl rfl (by decide)) rfl ?_)))))
   refine AF.nil (q1 (AG.cond_true rfl (AG.skip (q1 (AG.block ?_)))))
   refine q4 (AO rfl (AK rfl (q6 (sL [2,3,4,8,7,6,5] rfl) (AG.subF (sL [2,3,4,8,5] rfl) (rN [(0,true),(1,true),(2,true),(3,true),(4,true),(5,true),(6,true),(7,true)] [⟨8,6,55,Ae (⟨0,0⟩:Pt)⟩,⟨9,7,55,Ae (⟨0,0⟩:Pt)⟩] [(10,false),(11,false)] sr (by kernel_rfl) (λ_ _ d _ _ h=>by cases d<;>exact h) (Fs rfl rfl EM rfl (Fs rfl rfl EM rfl (H2))) rfl ?_)))))
   refine Nd rfl (Gb (v:=(pP b1 20)) rfl (AE (j:=2) rfl rfl Tryz.underlying212 Tryz.sizeOf55 rfl (by decide) rfl) rfl (SK 5 (Ae A.2.2) BC rfl (Nd rfl (Gb rfl (AX (c:=(3:Int)) rfl rfl (by decide)) rfl (Gb rfl (CF (c:=(0:Int)) rfl rfl (by decide) (by decide)) rfl ?_)))))
   refine Gb (v:=(pP b1 0)) rfl (AE (j:=0) rfl rfl Tryz.underlying212 Tryz.sizeOf55 rfl (by decide) rfl) rfl (SK 5 (Ae A.1) BC rfl (CH.news2 λb7 b8=>AS.imp rfl (Ap rfl Tryz.sizeOf55 rfl (AS.back (sl (sl sr)) ?_))))
   refine AS.imp rfl (Cr rfl Tryz.sizeOf55 rfl (AS.back (sl (sl sr)) (AS.nil (AC.subF (sL [2,3,4,8,7,6] rfl) (q2 ?_)))))
   refine AJ (v:=(Value.slice (some ⟨b2,0,none⟩) 3 3)) (Dx rfl Tryz.underlying212 Tryz.sizeOf55 (by decide)) rfl (AF.frzX 0 rfl rfl λhnb7=>AF.frzX 1 rfl rfl λhnb8=>AJ (v:=(Value.func (.func 180) #[] #[(pP b7 0),(pP b8 0)])) (EO (vs:=[]) (us:=[(pP b7 0),(pP b8 0)]) rfl rfl) rfl (Ey Tryz.call179 (λw hw=>NA A.2.2 A.1 B ⟨b7⟩ ⟨b8⟩ ⟨b2⟩ (by omega) hB w (VE (S:=λ_=>False) (x:=(⟨b7⟩:BX (Ae A.2.2))) hw 0 rfl hnb7) (VE (S:=λ_=>False) (x:=(⟨b8⟩:BX (Ae A.1))) hw 1 rfl hnb8) (VE (S:=λ_=>False) (x:=(⟨b2⟩:BX (Hk B))) hw 6 rfl hnb2)) rfl (AJ (Bi (c:=(!(GJ A.2.2 A.1 B))) rfl rfl) rfl ?_)))
   refine AF.nil (AC.subF (sL [2,3,4,8,7,6,22] rfl) (AC.then_ ?_))
   refine AG.cond rfl (λhc1=>?_) (λhc1=>?_)
   ·simp only [Bool.and_eq_true,Bool.or_eq_true,Bool.and_eq_false_iff,Bool.or_eq_false_iff,Bool.not_eq_true',Bool.not_eq_false',decide_eq_true_eq,decide_eq_false_iff_not] at hc1
    have hr:Ep A B=true:=by unfold Ep;rw [k0,k1,(by simpa using hc1:GJ A.2.2 A.1 B=false)];simp
    refine q4 (AK rfl (AF.nil (AC.then_ (AG.ret (AC.in_ret ?_)))))
    exact AC.then_ret (AC.then_ret (AC.in_ret (AC.then_ret (AR rfl (Ai (v:=(Value.bool true)) rfl) (λw hw=>⟨by rw [hr],hw.out⟩)))))
   ·simp only [Bool.and_eq_true,Bool.or_eq_true,Bool.and_eq_false_iff,Bool.or_eq_false_iff,Bool.not_eq_true',Bool.not_eq_false',decide_eq_true_eq,decide_eq_false_iff_not] at hc1
    have k2:GJ A.2.2 A.1 B=true:=by simpa using hc1
    have hr:Ep A B=false:=by unfold Ep;rw [k0,k1,k2];rfl
    refine AG.skip (AC.in_normal (AC.then_ (AG.region (AJ (AX (c:=(3:Int)) rfl rfl (by decide)) rfl (AO rfl ?_)))))
    refine AF.nil (AC.subF (sL [2,3,4,8,7,6] rfl) (AC.again (Dr.step (q4 (AJ (Af (c:=false) rfl rfl (by decide)) rfl ?_)))))
    refine AF.nil (q1 (AG.cond_false rfl (AG.exit (AC.then_exit (AC.then_exit ?_)))))
    refine AC.in_exit (q2 (AK rfl (AF.nil (AC.subF (sL [2,3,4,8,7,6] rfl) (AC.then_ ?_)))))
    exact AG.ret (AR rfl (Ai (v:=(Value.bool false)) rfl) (λw hw=>⟨by rw [hr],hw.out⟩))
end
end Go.Proofs.YtfbomiejpbchdaaGreat
