import Derived.Test.YtfbomiejpbchdaaGreatPart06
import Derived.Test.YtfbomiejpbchdaaGreatPart19
import Derived.Test.YtfbomiejpbchdaaGreatPart25
import Derived.Test.YtfbomiejpbchdaaGreatPart31
import Derived.Test.YtfbomiejpbchdaaGreatPart38
namespace Go.Proofs.YtfbomiejpbchdaaGreat
open Go Go.RowKit Go.Proofs.Tryz
set_option linter.unusedVariables false
set_option linter.unusedSimpArgs false
section
def TT (t:T3) (p:Nat):Int:=if p=t.1 then 0 else if p=t.2.1 then 1 else if p=t.2.2 then 2 else -1
theorem WP (t:T3) (p:Nat):decide (0<=TT t p)=Cd t p:=by
  unfold TT Cd
  by_cases h1:p=t.1
  · rw [if_pos h1,h1];simp
  · have h1':¬t.1=p:=λe=>h1 e.symm
    rw [if_neg h1]
    by_cases h2:p=t.2.1
    · rw [if_pos h2,h2];simp
    · have h2':¬t.2.1=p:=λe=>h2 e.symm
      rw [if_neg h2]
      by_cases h3:p=t.2.2
      · rw [if_pos h3,h3];simp
      · have h3':¬t.2.2=p:=λe=>h3 e.symm
        rw [if_neg h3];simp [h1',h2',h3']
abbrev Q3:=Pt×Pt×Pt
def Hh (x:Q3):List Value:=Aj x.1++(Aj x.2.1++(Aj x.2.2++[]))
theorem Y2 (a b c:Pt):Aj a++Aj b++Aj c=Hh (a,b,c):=by simp [Hh]
def Bx (ps:List Pt) (t:T3):Q3:=(cor ps t.1,cor ps t.2.1,cor ps t.2.2)
def M6 (p q r:Pt):Bool:=decide (0<(AJ p q r).num.sign)
def Ue (p q:Pt) (B:Q3):Int:=if M6 p q B.1=true then 0 else if M6 p q B.2.1=true then 1 else if M6 p q B.2.2=true then 2 else -1
def GH (p q:Pt) (B:Q3):Bool:=M6 p q B.1||M6 p q B.2.1||M6 p q B.2.2
theorem WK (p q:Pt) (B:Q3):decide (0<=Ue p q B)=GH p q B:=by
  unfold Ue GH
  cases M6 p q B.1<;>cases M6 p q B.2.1<;>cases M6 p q B.2.2<;>rfl
def E2 (A B:Q3):Bool:=!GH A.1 A.2.1 B||(!GH A.2.1 A.2.2 B||!GH A.2.2 A.1 B)
structure Lv (ps:List Pt) (ts ss:List T3):Prop where
  pl:ps.length<=4096
  tl:ts.length<=8192
  t0:0<ts.length
  sl:ss.length<=24576
  sz:∀k,B5 (cor ps k)<=1000
  num:CN ps.length ts=true
  pos:∀j,j<ts.length->(AJ (cor ps (ts.getD j (0,0,0)).1) (cor ps (ts.getD j (0,0,0)).2.1) (cor ps (ts.getD j (0,0,0)).2.2)).num.sign=1
  sid:∀j,j<ss.length->(ss.getD j (0,0,0)).1<ps.length/\(ss.getD j (0,0,0)).2.1<ps.length/\(ss.getD j (0,0,0)).2.2<=255
  use:∀p,p<ps.length->∃j,j<ts.length/\Cd (ts.getD j (0,0,0)) p=true
  dst:ps.Nodup
  apart:∀i k,i<ts.length->k<i->(!E2 (Bx ps (ts.getD i (0,0,0))) (Bx ps (ts.getD k (0,0,0)))&&!E2 (Bx ps (ts.getD k (0,0,0))) (Bx ps (ts.getD i (0,0,0))))=false
  crn:∀i p,i<ts.length->p<ps.length->Cd (ts.getD i (0,0,0)) p=false->KL ps (cor ps p) (ts.getD i (0,0,0))=0
  rl:ss.length=(B0 ts).length
  rim:∀j,j<ss.length->(ss.getD j (0,0,0)).1=((B0 ts).getD j (0,0,0)).1/\(ss.getD j (0,0,0)).2.1=((B0 ts).getD j (0,0,0)).2.1
theorem Lv.szM {ps:List Pt} {ts ss:List T3} (h:Lv ps ts ss) (k:Nat):B5 (cor ps k)<=1000000:=Nat.le_trans (h.sz k) (by decide)
def Mx (x y:Pt):Int:=if PY x y then -1 else if PY y x then 1 else 0
theorem Fz {x y:Pt}:Mx x y<0↔PY x y:=by
  unfold Mx
  split
  · exact ⟨λ_=>by assumption,λ_=>by decide⟩
  · rename_i h
    split<;>exact ⟨λk=>absurd k (by decide),λk=>absurd k h⟩
theorem RW {ys:List Pt} (h:ys.Nodup) {k:Nat} (h1:1<=k) (hk:k<ys.length) (e:ys.getD k ⟨0,0⟩=ys.getD (k-1) ⟨0,0⟩):False:=by
  rw [List.getD,List.getD,List.getElem?_eq_getElem hk,List.getElem?_eq_getElem (show k-1<ys.length by omega)] at e
  have:=(List.getElem_inj h).1 e
  omega
def bL (us:List Bool):List Value:=us.map Value.bool
theorem M_ (us:List Bool):(bL us).length=us.length:=List.length_map _
theorem Pl (us:List Bool) (j:Nat) (v:Bool):(bL us).set j (.bool v)=bL (us.set j v):=by unfold bL;rw [List.map_set]
theorem X1 {us:List Bool} {j:Nat} (h:j<us.length):(bL us)[j*1]?=some (.bool (us.getD j false)):=by simp [bL,h]
def K7 (ts:List T3) (n i:Nat):List Bool:=(List.range n).map λp=>(ts.take i).any λt=>Cd t p
theorem Gn (ts:List T3) (n i:Nat):(K7 ts n i).length=n:=by simp [K7]
theorem Rr (ts:List T3) (n:Nat):List.replicate n false=K7 ts n 0:=by
  unfold K7
  rw [List.take_zero]
  apply List.ext_getElem?
  intro j
  rcases Nat.lt_or_ge j n with h|h
  · simp [h]
  · rw [List.getElem?_eq_none (by simpa using h),List.getElem?_eq_none (by simpa using h)]
theorem SP {ts:List T3} {n i:Nat} (h:i<ts.length):(((K7 ts n i).set (ts.getD i (0,0,0)).1 true).set (ts.getD i (0,0,0)).2.1 true).set (ts.getD i (0,0,0)).2.2 true=K7 ts n (i+1):=by
  apply List.ext_getElem?
  intro j
  have e:ts.take (i+1)=ts.take i++[ts.getD i (0,0,0)]:=by rw [List.take_add_one,List.getD,List.getElem?_eq_getElem h];rfl
  generalize ts.getD i (0,0,0)=T at *
  unfold K7
  rw [e]
  simp only [List.getElem?_set,List.length_set,List.length_map,List.length_range,List.getElem?_map,List.any_append,List.any_cons,List.any_nil,Bool.or_false]
  rcases Nat.lt_or_ge j n with hj|hj
  · rw [List.getElem?_range hj]
    simp only [Option.map_some]
    unfold Cd
    by_cases h1:T.1=j<;>by_cases h2:T.2.1=j<;>by_cases h3:T.2.2=j<;>simp [h1,h2,h3]<;>try omega
  · rw [List.getElem?_eq_none (by simpa using hj)]
    simp only [Option.map_none]
    by_cases h1:T.1=j<;>by_cases h2:T.2.1=j<;>by_cases h3:T.2.2=j<;>simp [h1,h2,h3]<;>omega
theorem Tn {ts:List T3} {n p:Nat} (hp:p<n) (h:∃j,j<ts.length/\Cd (ts.getD j (0,0,0)) p=true):(K7 ts n ts.length).getD p false=true:=by
  unfold K7
  rw [List.getD,List.getElem?_map,List.getElem?_range hp,Option.map_some,Option.getD_some,List.take_length,List.any_eq_true]
  obtain ⟨j,hj,h⟩:=h
  exact ⟨_,List.getElem_mem hj,by rwa [List.getD,List.getElem?_eq_getElem hj] at h⟩
section
variable {P:Program} {ops:Array Oper} {rest:List Oper} {Q:Exit->Act->World->Prop} {n d i z m c:Nat} {F:List (Nat×Value)} {w0:BM} {L L':List As} {t ty T:TypeId} {p:String} {af:Array Edge} {x y:Operand} {cs vs:List Value} {q:Option Addr} {v:Value}
theorem AE.makeBool {ki kj:IntKind} {bytes:Nat} (ht:Oz P t T (.bool false) bytes) (hx:evF F x=some (.int ki (m:Nat))) (hy:evF F y=some (.int kj (m:Nat))) (hm:m<=1099511627776) (hb:Nat.ble bytes 16=true) (hd:Nat.ble (d+1) n=true)
    (next:∀b,OwnOk (some ⟨b,0,none⟩) m m->AE P ops rest Q n ((d,.slice (some ⟨b,0,none⟩) m m)::F) w0 (rowW (some ⟨b,0,none⟩) T 1 m m (bL (List.replicate m false))::L)) :
    AE P ops (⟨some d,.makeSlice t x y,ty,p,af,none⟩::rest) Q n F w0 L:=AE.makeRow ht hx hy hm hb hd λb ho=>by
  have h:=next b ho
  unfold bL at h
  rw [List.map_replicate] at h
  exact h
end
section
variable {P:Program} {n:Nat} {F:List (Nat×Value)} {w0:BM} {L:List As} {x:Operand} {d:Option Tmp} {t:TypeId} {p:String} {af:Array Edge} {g:Option (Nat×Bool)}
theorem NM {tx e:TypeId} {b off len k:Nat} (hx:evF F x=some (.pointer (some ⟨b,off,none⟩))) (hu:P.underlying tx=some (.array len e)) (hs:∀w,(sizeOf e).run P w=.ok k w) (h0:0<len) :
    Ex P n F w0 L ⟨d,.slice tx x none none none,t,p,af,g⟩ (.slice (some ⟨b,off,none⟩) len len):=λA w ha _=>by
  have e1:¬len=0:=by omega
  simp [execOp,ha.ev hx,Instr.sliceAt,run_underlying hu,Instr.sureAddr,Instr.sliceBounds,Instr.sliceBound,hs,e1,Addr.add_lit]
end
theorem WO {S:Nat->Prop} {w:World} {ts:List T3} {x:RX (rowsL An ts) ts.length} (h:Ro S w x) {j:Nat} (hj:j<ts.length) (ok:BQ (some ⟨pB x.p,pO x.p+j*3,none⟩) 3 3):Ro S w (⟨some ⟨pB x.p,pO x.p+j*3,none⟩,3,ok⟩:RX (An (ts.getD j (0,0,0))) 3):=λy hy=>by
  rcases List.mem_singleton.1 hy with rfl
  obtain ⟨h1,h2⟩:=h (AZ x.p (rowsL An ts)) (List.mem_singleton.2 rfl)
  obtain ⟨a,hp⟩:∃a,x.p=some a:=by
    cases hp:x.p with
    | none=>have:=(x.ok.nil hp).1;omega
    | some a=>exact ⟨a,rfl⟩
  have e:(some (⟨pB x.p,pO x.p+j*3,none⟩:Addr)).map (·.block)=x.p.map (·.block):=by rw [hp];rfl
  refine ⟨λb hb=>?_,λb hb=>h2 b (e.symm.trans hb)⟩
  obtain ⟨o,ho,cur,T,fr,rfl,hc⟩:=h1 b (e.symm.trans hb)
  refine ⟨_,ho,cur,T,fr,rfl,?_⟩
  have hl:=Aw Ar (0,0,0) ts j hj
  have hz:=Al Ar ts
  show (cur.toList.drop (pO x.p+j*3)).take 3=_
  refine Eq.trans ?_ hl
  refine Eq.trans ?_ (congrArg (λl:List Value=>(l.drop (j*3)).take 3) hc)
  show _=(((cur.toList.drop (pO x.p)).take (rowsL An ts).length).drop (j*3)).take 3
  rw [List.drop_take,List.take_take,List.drop_drop]
  congr 1
  omega
theorem Xd (b o:Nat):BQ (some ⟨b,o,none⟩) 3 3:=⟨λe=>(by cases e),λa e=>(by injection e with e;subst e;rfl),Nat.le_refl _⟩
end
section
set_option maxRecDepth 100000
theorem X4 (t:T3) (p:Nat) (y:RX (An t) 3) (w:World) {S:Nat->Prop} (hy:Ro S w y):Calls prog 181 #[(Value.slice y.p 3 y.c),(vN p)] w (Av w (vI (TT t p))):=by
 have ly:=EA (W:=w) hy
 refine BF (args:=[(Value.slice y.p 3 y.c),(vN p)]) (L:=[AZ y.p (An t)]) func181 O O (Ab O) (EB hy BR) (AF.subF (sL [0,1] O) (q4 (AO O (AE.nil (q1 ?_)))))
 refine q4 (AR O (AI (v:=(vI 3)) (AG O underlying33) O (AR O (AE.nil (AC.subF (sL [0,1,4,7,8] O) ?_)))))
 refine AC.then_ (AF.block (AF.unroll 4 (GC.step (q4 (AI (Am (c:=true) O O (by decide)) O ?_)))))
 refine AE.nil (q1 (AF.cond_true O (AF.skip (q1 (AF.block ?_)))))
 refine q4 (AR O (AO O (q3 (sL [0,1,4,7,8,5] O) (AR O (AR O ?_)))))
 refine AR O (AI (v:=(pP (pB y.p) (pO y.p+0*1))) (AQ (j:=0) O O y.ok underlying33 sizeOf3 O Z) O (AI (Ai (v:=(vN t.1)) (i:=0) O O (y.ok.ne Z) Bm O) O (AI (BS (c:=(decide (p=t.1))) O O (Ot (a:=p) (b:=t.1))) O (AE.nil (AC.subF (sL [0,1,4,7,8,5,16] O) ?_)))))
 refine AC.then_ ?_
 refine AF.cond O (λhc1=>?_) (λhc1=>?_)
 ·replace hc1:=of_decide_eq_true hc1
  have hr:TT t p=0:=by unfold TT;rw [if_pos hc1]
  refine q4 (AR O (AO O (AE.nil (AC.subF (sL [0,1,4,7,8,5] O) (AC.then_ ?_)))))
  exact AF.ret (AC.in_ret (AC.then_ret (AC.then_ret (AC.in_ret (AC.then_ret (AT O (Ak (v:=(vI 0)) O) (λw hw=>⟨by rw [hr]<;>rfl,hw.out⟩)))))))
 ·replace hc1:=of_decide_eq_false hc1
  have k0:=hc1
  refine AF.skip (AC.in_normal (AC.then_ (AF.region (AI (AY (c:=(1:Int)) O O (by decide)) O (AR O ?_)))))
  refine AE.nil (AC.subF (sL [0,1,4,7,8,5] O) (AC.again (GC.step (q4 (AI (Am (c:=true) O O (by decide)) O ?_)))))
  refine AE.nil (q1 (AF.cond_true O (AF.skip (q1 (AF.block ?_)))))
  refine q4 (AR O (AO O (q3 (sL [0,1,4,7,8,5] O) (AR O (AR O ?_)))))
  refine AR O (AI (v:=(pP (pB y.p) (pO y.p+1*1))) (AQ (j:=1) O O y.ok underlying33 sizeOf3 O Z) O (AI (Ai (v:=(vN t.2.1)) (i:=0) O O (y.ok.ne Z) Bm O) O (AI (BS (c:=(decide (p=t.2.1))) O O (Ot (a:=p) (b:=t.2.1))) O (AE.nil (AC.subF (sL [0,1,4,7,8,5,16] O) ?_)))))
  refine AC.then_ ?_
  refine AF.cond O (λhc1=>?_) (λhc1=>?_)
  ·replace hc1:=of_decide_eq_true hc1
   have hr:TT t p=1:=by unfold TT;rw [if_neg k0,if_pos hc1]
   refine q4 (AR O (AO O (AE.nil (AC.subF (sL [0,1,4,7,8,5] O) (AC.then_ ?_)))))
   exact AF.ret (AC.in_ret (AC.then_ret (AC.then_ret (AC.in_ret (AC.then_ret (AT O (Ak (v:=(vI 1)) O) (λw hw=>⟨by rw [hr]<;>rfl,hw.out⟩)))))))
  ·replace hc1:=of_decide_eq_false hc1
   have k1:=hc1
   refine AF.skip (AC.in_normal (AC.then_ (AF.region (AI (AY (c:=(2:Int)) O O (by decide)) O (AR O ?_)))))
   refine AE.nil (AC.subF (sL [0,1,4,7,8,5] O) (AC.again (GC.step (q4 (AI (Am (c:=true) O O (by decide)) O ?_)))))
   refine AE.nil (q1 (AF.cond_true O (AF.skip (q1 (AF.block ?_)))))
   refine q4 (AR O (AO O (q3 (sL [0,1,4,7,8,5] O) (AR O (AR O ?_)))))
   refine AR O (AI (v:=(pP (pB y.p) (pO y.p+2*1))) (AQ (j:=2) O O y.ok underlying33 sizeOf3 O Z) O (AI (Ai (v:=(vN t.2.2)) (i:=0) O O (y.ok.ne Z) Bm O) O (AI (BS (c:=(decide (p=t.2.2))) O O (Ot (a:=p) (b:=t.2.2))) O (AE.nil (AC.subF (sL [0,1,4,7,8,5,16] O) ?_)))))
   refine AC.then_ ?_
   refine AF.cond O (λhc1=>?_) (λhc1=>?_)
   ·replace hc1:=of_decide_eq_true hc1
    have hr:TT t p=2:=by unfold TT;rw [if_neg k0,if_neg k1,if_pos hc1]
    refine q4 (AR O (AO O (AE.nil (AC.subF (sL [0,1,4,7,8,5] O) (AC.then_ ?_)))))
    exact AF.ret (AC.in_ret (AC.then_ret (AC.then_ret (AC.in_ret (AC.then_ret (AT O (Ak (v:=(vI 2)) O) (λw hw=>⟨by rw [hr]<;>rfl,hw.out⟩)))))))
   ·replace hc1:=of_decide_eq_false hc1
    have k2:=hc1
    have hr:TT t p = -1:=by unfold TT;rw [if_neg k0,if_neg k1,if_neg k2]
    refine AF.skip (AC.in_normal (AC.then_ (AF.region (AI (AY (c:=(3:Int)) O O (by decide)) O (AR O ?_)))))
    refine AE.nil (AC.subF (sL [0,1,4,7,8,5] O) (AC.again (GC.step (q4 (AI (Am (c:=false) O O (by decide)) O ?_)))))
    refine AE.nil (q1 (AF.cond_false O (AF.exit (AC.then_exit (AC.then_exit ?_)))))
    refine AC.in_exit (q2 (AO O (AE.nil (AC.subF (sL [0,1,4,7,8,5] O) (AC.then_ ?_)))))
    exact AF.ret (AT O (Ak (v:=(vI (-1:Int))) O) (λw hw=>⟨by rw [hr]<;>rfl,hw.out⟩))
theorem TI (t:T3) (p:Nat) (y:RX (An t) 3) (w:World) {S:Nat->Prop} (hy:Ro S w y):Calls prog 135 #[(Value.slice y.p 3 y.c),(vN p)] w (Av w (Value.bool (Cd t p))):=by
 have ly:=EA (W:=w) hy
 refine BF (args:=[(Value.slice y.p 3 y.c),(vN p)]) (L:=[AZ y.p (An t)]) func135 O O (Ab O) (EB hy BR) (AF.subF (sL [0,1] O) (q4 (AO O (AE.nil (q2 ?_)))))
 refine AR O (AR O (Ew call181 (λw hw=>X4 t p y w (DB hw 0 O ly)) O (AI (DD (c:=(Cd t p)) O O (WP t p)) O (AO O (AE.nil ?_)))))
 exact AC.subF (sL [4] O) (AC.then_ (AF.ret (AT O (Ak (v:=(Value.bool (Cd t p))) O) (λw hw=>⟨rfl,hw.out⟩))))
theorem Ec (x0:Pt) (x1:Pt) (x2:Pt):Instr.fill (λi=>some (i*10,10)) (Hh ((⟨0,0⟩,⟨0,0⟩,⟨0,0⟩):Q3)).toArray [(0,.agg (Aj x0).toArray),(1,.agg (Aj x1).toArray),(2,.agg (Aj x2).toArray)]=some (Aj x0++Aj x1++Aj x2).toArray:=by kernel_rfl
theorem LK {ps:List Pt} {ts ss:List T3} (x:MX ps ts ss) (t:Nat) (ht:t<ts.length) (htl:ts.length<=1000000) (hp:ps.length<=1000000) (hk:MV ps.length (ts.getD t (0,0,0))=true) (w:World) {S:Nat->Prop} (hx:Ro S w x):Calls prog 133 #[(aG (Bk x)),(vN t)] w (Av w (aG (Hh (Bx ps (ts.getD t (0,0,0)))))):=by
 obtain ⟨k1,k2,k3⟩:=C4 hk
 obtain ⟨T,hT⟩:∃q,q=ts.getD t (0,0,0):=⟨_,rfl⟩
 rw [<-hT] at k1 k2 k3
 have lx:=EA (W:=w) hx
 refine BF (args:=[(aG (Bk x)),(vN t)]) (L:=[AZ x.a.p (rowsL Aj ps),AZ x.b.p (rowsL An ts),AZ x.c.p (rowsL An ss)]) func133 O O (Ab O) (EB hx BR) (AF.subF (sL [0,1] O) (q4 (Bo (cs:=Bk x) O λb1=>al TV O λb2=>q3 (sL [1,2,4] O) ?_)))
 refine AI (v:=(pP b1 1)) (AA O underlying31 O sizeOf28 O) O (BK 1 (Value.slice x.b.p ts.length x.b.c) CR O (AR O (AI (v:=(pP (pB x.b.p) (pO x.b.p+t*3))) (AQ (j:=t) O O x.b.ok underlying28 sizeOf76 O Z) O (AI (v:=(aG (An (ts.getD t ((0,0,0):Nat×Nat×Nat))))) (AW (vs:=An (ts.getD t ((0,0,0):Nat×Nat×Nat))) (i:=3) O O (BQ.ne x.b.ok Z) Ej (Aw Ar _ _ _ Z) (Ar _)) O (AE.retell (k:=10) (u:=(aG (An T))) O (by rw [hT]) ?_)))))
 refine al Nc O λb3=>Aq O sizeOf76 O (q6 (sL [2,4,5] O) (Cu [(0,true),(1,true),(2,true),(3,true),(4,true),(5,true),(6,true),(7,true),(8,true),(9,true),(10,true),(11,true),(12,true),(13,true),(14,true),(15,true),(16,true),(17,true),(18,true),(19,false)] (sk (sl sr)) (Ax (v:=(pP b1 0)) O (AA O underlying31 O sizeOf27 O) (Bj 1 (Value.slice x.a.p ps.length x.a.c) Du O ?_))))
 refine Ax (v:=(pP b3 0)) O (AD (j:=0) O O underlying76 sizeOf3 O (by decide) O) (Bj 0 (vN T.1) Bm O (Ax (v:=(pP (pB x.a.p) (pO x.a.p+T.1*10))) O (AQ (j:=T.1) O O x.a.ok underlying27 sizeOf55 O Z) (Ax (v:=(aG (Aj (ps.getD T.1 (⟨0,0⟩:Pt))))) O (AW (vs:=Aj (ps.getD T.1 (⟨0,0⟩:Pt))) (i:=2) O O (BQ.ne x.a.ok Z) BG (Aw BT _ _ _ Z) (BT _)) (Ax (v:=(pP b1 0)) O (AA O underlying31 O sizeOf27 O) (Bj 1 (Value.slice x.a.p ps.length x.a.c) Du O ?_)))))
 refine Ax (v:=(pP b3 1)) O (AD (j:=1) O O underlying76 sizeOf3 O (by decide) O) (Bj 0 (vN T.2.1) Bm O (Ax (v:=(pP (pB x.a.p) (pO x.a.p+T.2.1*10))) O (AQ (j:=T.2.1) O O x.a.ok underlying27 sizeOf55 O Z) (Ax (v:=(aG (Aj (ps.getD T.2.1 (⟨0,0⟩:Pt))))) O (AW (vs:=Aj (ps.getD T.2.1 (⟨0,0⟩:Pt))) (i:=2) O O (BQ.ne x.a.ok Z) BG (Aw BT _ _ _ Z) (BT _)) (Ax (v:=(pP b1 0)) O (AA O underlying31 O sizeOf27 O) (Bj 1 (Value.slice x.a.p ps.length x.a.c) Du O ?_)))))
 refine Ax (v:=(pP b3 2)) O (AD (j:=2) O O underlying76 sizeOf3 O (by decide) O) (Bj 0 (vN T.2.2) Bm O (Ax (v:=(pP (pB x.a.p) (pO x.a.p+T.2.2*10))) O (AQ (j:=T.2.2) O O x.a.ok underlying27 sizeOf55 O Z) (Ax (v:=(aG (Aj (ps.getD T.2.2 (⟨0,0⟩:Pt))))) O (AW (vs:=Aj (ps.getD T.2.2 (⟨0,0⟩:Pt))) (i:=2) O O (BQ.ne x.a.ok Z) BG (Aw BT _ _ _ Z) (BT _)) (Ax (v:=(aG (Aj (ps.getD T.1 (⟨0,0⟩:Pt))++Aj (ps.getD T.2.1 (⟨0,0⟩:Pt))++Aj (ps.getD T.2.2 (⟨0,0⟩:Pt))))) O (Ao (zs:=Hh ((⟨0,0⟩,⟨0,0⟩,⟨0,0⟩):Q3)) (vs:=Aj (ps.getD T.1 (⟨0,0⟩:Pt))++Aj (ps.getD T.2.1 (⟨0,0⟩:Pt))++Aj (ps.getD T.2.2 (⟨0,0⟩:Pt))) (pv:=[(0,(aG (Aj (ps.getD T.1 (⟨0,0⟩:Pt))))),(1,(aG (Aj (ps.getD T.2.1 (⟨0,0⟩:Pt))))),(2,(aG (Aj (ps.getD T.2.2 (⟨0,0⟩:Pt)))))]) zeroValue212 underlying212 sizeOf55 O (Ec (ps.getD T.1 (⟨0,0⟩:Pt)) (ps.getD T.2.1 (⟨0,0⟩:Pt)) (ps.getD T.2.2 (⟨0,0⟩:Pt)))) (AV.imp O ?_)))))
 exact Cq O sizeOf212 O (AV.back (sk (sl sr)) (AV.nil (AC.subF (sL [2,4,5] O) (AC.then_ (AF.ret (AT O (A7 (i:=1) (cs:=Aj (ps.getD T.1 (⟨0,0⟩:Pt))++Aj (ps.getD T.2.1 (⟨0,0⟩:Pt))++Aj (ps.getD T.2.2 (⟨0,0⟩:Pt))) O O isAgg212 sizeOf212 O) (λw hw=>⟨by rw [<-hT];unfold Bx cor;rw [<-Y2],hw.out⟩)))))))
theorem NF (r p q:Pt) (bp:BX (Aj p)) (bq:BX (Aj q)) (hs:B5 p+B5 q+B5 r<=10000000) (w:World) {S:Nat->Prop} (hbp:Ro S w bp) (hbq:Ro S w bq):Calls prog 180 #[(aG (Aj r)),(pP bp.b 0),(pP bq.b 0)] w (Av w (Value.bool (M6 p q r))):=by
 have lbp:=EA (W:=w) hbp
 have lbq:=EA (W:=w) hbq
 refine BF (args:=[(aG (Aj r)),(pP bp.b 0),(pP bq.b 0)]) (L:=[AZ (some ⟨bp.b,0,none⟩) (Aj p),AZ (some ⟨bq.b,0,none⟩) (Aj q)]) func180 O O (Ab O) (EB hbp (EB hbq BR)) (AF.subF (sL [0,1,2] O) (q4 (Bo (cs:=Aj r) O λb1=>AO O (q3 (sL [1,2,3,4] O) ?_))))
 refine AI (v:=(aG (Aj p))) (AW (q:=some ⟨bp.b,0,none⟩) (vs:=Aj p) (off:=0) (i:=1) O O (λe=>by cases e) BG O O) O (AI (v:=(aG (Aj q))) (AW (q:=some ⟨bq.b,0,none⟩) (vs:=Aj q) (off:=0) (i:=2) O O (λe=>by cases e) BG O O) O (A6 0 BG O (BW call52 (ON p q r Z) O (AI (Cj (c:=(M6 p q r)) O O O) O (AO O ?_)))))
 exact AE.nil (AC.subF (sL [4] O) (AC.then_ (AF.ret (AT O (Ak (v:=(Value.bool (M6 p q r))) O) (λw hw=>⟨rfl,hw.out⟩)))))
theorem Xk (p q:Pt) (B:Q3) (bp:BX (Aj p)) (bq:BX (Aj q)) (bo:BX (Hh B)) (hs:B5 p<=1000000/\B5 q<=1000000) (hB:B5 B.1<=1000000/\B5 B.2.1<=1000000/\B5 B.2.2<=1000000) (w:World) {S:Nat->Prop} (hbp:Ro S w bp) (hbq:Ro S w bq) (hbo:Ro S w bo):Calls prog 231 #[(Value.slice (some ⟨bo.b,0,none⟩) 3 3),(Value.func (.func 180) #[] #[(pP bp.b 0),(pP bq.b 0)])] w (Av w (vI (Ue p q B))):=by
 have lbp:=EA (W:=w) hbp
 have lbq:=EA (W:=w) hbq
 have lbo:=EA (W:=w) hbo
 refine BF (args:=[(Value.slice (some ⟨bo.b,0,none⟩) 3 3),(Value.func (.func 180) #[] #[(pP bp.b 0),(pP bq.b 0)])]) (L:=[AZ (some ⟨bp.b,0,none⟩) (Aj p),AZ (some ⟨bq.b,0,none⟩) (Aj q),AZ (some ⟨bo.b,0,none⟩) (Hh B)]) func231 O O (Ab O) (EB hbp (EB hbq (EB hbo BR))) (AF.subF (sL [0,1] O) (q4 (AO O (AE.nil (q1 ?_)))))
 refine q4 (AR O (AI (v:=(vI 3)) (AG O underlying27) O (AR O (AE.nil (AC.subF (sL [0,1,4,7,8] O) ?_)))))
 refine AC.then_ (AF.block (AF.unroll 4 (GC.step (q4 (AI (Am (c:=true) O O (by decide)) O ?_)))))
 refine AE.nil (q1 (AF.cond_true O (AF.skip (q1 (AF.block ?_)))))
 refine q4 (AR O (AO O (q3 (sL [0,1,4,7,8,5] O) (AR O (AR O ?_)))))
 refine AR O (AI (v:=(pP bo.b 0)) (AN (j:=0) O O underlying27 sizeOf55 O Z O) O (AI (v:=(aG (Aj B.1))) (AW (q:=some ⟨bo.b,0,none⟩) (vs:=Aj B.1) (off:=0) (i:=2) O O (λe=>by cases e) BG O O) O (AE.call (v:=(Value.bool (M6 p q B.1))) (AM O) (Dy (args:=[(aG (Aj B.1))]) (caps:=[(pP bp.b 0),(pP bq.b 0)]) (all:=[(aG (Aj B.1)),(pP bp.b 0),(pP bq.b 0)]) O O O call180) (λw hw=>NF B.1 p q bp bq Z w (DB hw 0 O lbp) (DB hw 1 O lbq)) O (Ab O) (AE.nil (AC.subF (sL [0,1,4,7,8,5,16] O) ?_)))))
 refine AC.then_ ?_
 refine AF.cond O (λhc1=>?_) (λhc1=>?_)
 ·skip
  have hr:Ue p q B=0:=by unfold Ue;rw [if_pos hc1]
  refine q4 (AR O (AO O (AE.nil (AC.subF (sL [0,1,4,7,8,5] O) (AC.then_ ?_)))))
  exact AF.ret (AC.in_ret (AC.then_ret (AC.then_ret (AC.in_ret (AC.then_ret (AT O (Ak (v:=(vI 0)) O) (λw hw=>⟨by rw [hr]<;>rfl,hw.out⟩)))))))
 ·skip
  have k0:¬M6 p q B.1=true:=by simpa using hc1
  refine AF.skip (AC.in_normal (AC.then_ (AF.region (AI (AY (c:=(1:Int)) O O (by decide)) O (AR O ?_)))))
  refine AE.nil (AC.subF (sL [0,1,4,7,8,5] O) (AC.again (GC.step (q4 (AI (Am (c:=true) O O (by decide)) O ?_)))))
  refine AE.nil (q1 (AF.cond_true O (AF.skip (q1 (AF.block ?_)))))
  refine q4 (AR O (AO O (q3 (sL [0,1,4,7,8,5] O) (AR O (AR O ?_)))))
  refine AR O (AI (v:=(pP bo.b 10)) (AN (j:=1) O O underlying27 sizeOf55 O Z O) O (AI (v:=(aG (Aj B.2.1))) (AW (q:=some ⟨bo.b,0,none⟩) (vs:=Aj B.2.1) (off:=10) (i:=2) O O (λe=>by cases e) BG O O) O (AE.call (v:=(Value.bool (M6 p q B.2.1))) (AM O) (Dy (args:=[(aG (Aj B.2.1))]) (caps:=[(pP bp.b 0),(pP bq.b 0)]) (all:=[(aG (Aj B.2.1)),(pP bp.b 0),(pP bq.b 0)]) O O O call180) (λw hw=>NF B.2.1 p q bp bq Z w (DB hw 0 O lbp) (DB hw 1 O lbq)) O (Ab O) (AE.nil (AC.subF (sL [0,1,4,7,8,5,16] O) ?_)))))
  refine AC.then_ ?_
  refine AF.cond O (λhc1=>?_) (λhc1=>?_)
  ·skip
   have hr:Ue p q B=1:=by unfold Ue;rw [if_neg k0,if_pos hc1]
   refine q4 (AR O (AO O (AE.nil (AC.subF (sL [0,1,4,7,8,5] O) (AC.then_ ?_)))))
   exact AF.ret (AC.in_ret (AC.then_ret (AC.then_ret (AC.in_ret (AC.then_ret (AT O (Ak (v:=(vI 1)) O) (λw hw=>⟨by rw [hr]<;>rfl,hw.out⟩)))))))
  ·skip
   have k1:¬M6 p q B.2.1=true:=by simpa using hc1
   refine AF.skip (AC.in_normal (AC.then_ (AF.region (AI (AY (c:=(2:Int)) O O (by decide)) O (AR O ?_)))))
   refine AE.nil (AC.subF (sL [0,1,4,7,8,5] O) (AC.again (GC.step (q4 (AI (Am (c:=true) O O (by decide)) O ?_)))))
   refine AE.nil (q1 (AF.cond_true O (AF.skip (q1 (AF.block ?_)))))
   refine q4 (AR O (AO O (q3 (sL [0,1,4,7,8,5] O) (AR O (AR O ?_)))))
   refine AR O (AI (v:=(pP bo.b 20)) (AN (j:=2) O O underlying27 sizeOf55 O Z O) O (AI (v:=(aG (Aj B.2.2))) (AW (q:=some ⟨bo.b,0,none⟩) (vs:=Aj B.2.2) (off:=20) (i:=2) O O (λe=>by cases e) BG O O) O (AE.call (v:=(Value.bool (M6 p q B.2.2))) (AM O) (Dy (args:=[(aG (Aj B.2.2))]) (caps:=[(pP bp.b 0),(pP bq.b 0)]) (all:=[(aG (Aj B.2.2)),(pP bp.b 0),(pP bq.b 0)]) O O O call180) (λw hw=>NF B.2.2 p q bp bq Z w (DB hw 0 O lbp) (DB hw 1 O lbq)) O (Ab O) (AE.nil (AC.subF (sL [0,1,4,7,8,5,16] O) ?_)))))
   refine AC.then_ ?_
   refine AF.cond O (λhc1=>?_) (λhc1=>?_)
   ·skip
    have hr:Ue p q B=2:=by unfold Ue;rw [if_neg k0,if_neg k1,if_pos hc1]
    refine q4 (AR O (AO O (AE.nil (AC.subF (sL [0,1,4,7,8,5] O) (AC.then_ ?_)))))
    exact AF.ret (AC.in_ret (AC.then_ret (AC.then_ret (AC.in_ret (AC.then_ret (AT O (Ak (v:=(vI 2)) O) (λw hw=>⟨by rw [hr]<;>rfl,hw.out⟩)))))))
   ·skip
    have k2:¬M6 p q B.2.2=true:=by simpa using hc1
    have hr:Ue p q B = -1:=by unfold Ue;rw [if_neg k0,if_neg k1,if_neg k2]
    refine AF.skip (AC.in_normal (AC.then_ (AF.region (AI (AY (c:=(3:Int)) O O (by decide)) O (AR O ?_)))))
    refine AE.nil (AC.subF (sL [0,1,4,7,8,5] O) (AC.again (GC.step (q4 (AI (Am (c:=false) O O (by decide)) O ?_)))))
    refine AE.nil (q1 (AF.cond_false O (AF.exit (AC.then_exit (AC.then_exit ?_)))))
    refine AC.in_exit (q2 (AO O (AE.nil (AC.subF (sL [0,1,4,7,8,5] O) (AC.then_ ?_)))))
    exact AF.ret (AT O (Ak (v:=(vI (-1:Int))) O) (λw hw=>⟨by rw [hr]<;>rfl,hw.out⟩))
theorem NN (p q:Pt) (B:Q3) (bp:BX (Aj p)) (bq:BX (Aj q)) (bo:BX (Hh B)) (hs:B5 p<=1000000/\B5 q<=1000000) (hB:B5 B.1<=1000000/\B5 B.2.1<=1000000/\B5 B.2.2<=1000000) (w:World) {S:Nat->Prop} (hbp:Ro S w bp) (hbq:Ro S w bq) (hbo:Ro S w bo):Calls prog 179 #[(Value.slice (some ⟨bo.b,0,none⟩) 3 3),(Value.func (.func 180) #[] #[(pP bp.b 0),(pP bq.b 0)])] w (Av w (Value.bool (GH p q B))):=by
 have lbp:=EA (W:=w) hbp
 have lbq:=EA (W:=w) hbq
 have lbo:=EA (W:=w) hbo
 refine BF (args:=[(Value.slice (some ⟨bo.b,0,none⟩) 3 3),(Value.func (.func 180) #[] #[(pP bp.b 0),(pP bq.b 0)])]) (L:=[AZ (some ⟨bp.b,0,none⟩) (Aj p),AZ (some ⟨bq.b,0,none⟩) (Aj q),AZ (some ⟨bo.b,0,none⟩) (Hh B)]) func179 O O (Ab O) (EB hbp (EB hbq (EB hbo BR))) (AF.subF (sL [0,1] O) (q4 (AO O (AE.nil (q2 ?_)))))
 refine AR O (AR O (Ew call231 (λw hw=>Xk p q B bp bq bo hs hB w (DB hw 0 O lbp) (DB hw 1 O lbq) (DB hw 2 O lbo)) O (AI (DD (c:=(GH p q B)) O O (WK p q B)) O (AO O (AE.nil ?_)))))
 exact AC.subF (sL [4] O) (AC.then_ (AF.ret (AT O (Ak (v:=(Value.bool (GH p q B))) O) (λw hw=>⟨rfl,hw.out⟩))))
set_option maxHeartbeats 1000000 in
theorem Tx (A B:Q3) (hA:B5 A.1<=1000000/\B5 A.2.1<=1000000/\B5 A.2.2<=1000000) (hB:B5 B.1<=1000000/\B5 B.2.1<=1000000/\B5 B.2.2<=1000000) (w:World)  :Calls prog 134 #[(aG (Hh A)),(aG (Hh B))] w (Av w (Value.bool (E2 A B))):=by
 refine Ag (args:=[(aG (Hh A)),(aG (Hh B))]) func134 O O (Ab O) (AF.subF (sL [0,1] O) (q4 (Bo (cs:=Hh A) O λb1=>Bo (cs:=Hh B) O λb2=>AE.frzX 0 O O λhnb2=>?_)))
 refine AO O (q6 (sL [2,3,4] O) (q4 (AR O (AE.nil (AC.then_ ?_)))))
 refine AF.block (AF.unroll 4 (GC.step (q4 (AI (Am (c:=true) O O (by decide)) O (AE.nil ?_)))))
 refine q1 (AF.cond_true O (AF.skip (q1 (AF.block (q4 ?_)))))
 refine AR O (AO O (q6 (sL [2,3,4,8,5] O) (rN [(0,true),(1,true),(2,true),(3,true),(4,true),(5,true),(6,true),(7,true)] [⟨8,6,55,Aj (⟨0,0⟩:Pt)⟩,⟨9,7,55,Aj (⟨0,0⟩:Pt)⟩] [(10,false),(11,false)] sr (by kernel_rfl) (λ_ _ d _ _ h=>by cases d<;>exact h) (Fb O O Dq O (Fb O O Dq O (IU))) O (Ll O (GA (v:=(pP b1 0)) O (AD (j:=0) O O underlying212 sizeOf55 O (by decide) O) O ?_)))))
 refine VE 1 (Aj A.1) BG O (Ll O (GA O (AY (c:=(1:Int)) O O (by decide)) O (GA O (CC (c:=(1:Int)) O O (by decide) (by decide)) O (GA (v:=(pP b1 10)) O (AD (j:=1) O O underlying212 sizeOf55 O (by decide) O) O (VE 1 (Aj A.2.1) BG O ?_)))))
 refine CS.news2 λb3 b4=>AV.imp O (Aq O sizeOf55 O (AV.back (sl (sl sr)) (AV.imp O (Cq O sizeOf55 O ?_))))
 refine AV.back (sl (sl sr)) (AV.nil (AC.subF (sL [2,3,4,8,7,6] O) (q2 (AI (v:=(Value.slice (some ⟨b2,0,none⟩) 3 3)) (FW O underlying212 sizeOf55 (by decide)) O (AE.frzX 0 O O λhnb3=>?_)))))
 refine AE.frzX 1 O O λhnb4=>AI (v:=(Value.func (.func 180) #[] #[(pP b3 0),(pP b4 0)])) (DS (vs:=[]) (us:=[(pP b3 0),(pP b4 0)]) O O) O (Ew call179 (λw hw=>NN A.1 A.2.1 B ⟨b3⟩ ⟨b4⟩ ⟨b2⟩ Z hB w (VG (S:=λ_=>False) (x:=(⟨b3⟩:BX (Aj A.1))) hw 0 O hnb3) (VG (S:=λ_=>False) (x:=(⟨b4⟩:BX (Aj A.2.1))) hw 1 O hnb4) (VG (S:=λ_=>False) (x:=(⟨b2⟩:BX (Hh B))) hw 2 O hnb2)) O (AI (Bg (c:=(!(GH A.1 A.2.1 B))) O O) O (AE.nil (AC.subF (sL [2,3,4,8,7,6,22] O) ?_))))
 refine AC.then_ ?_
 refine AF.cond O (λhc1=>?_) (λhc1=>?_)
 ·simp only [Bool.and_eq_true,Bool.or_eq_true,Bool.and_eq_false_iff,Bool.or_eq_false_iff,Bool.not_eq_true',Bool.not_eq_false',decide_eq_true_eq,decide_eq_false_iff_not] at hc1
  have hr:E2 A B=true:=by unfold E2;rw [(by simpa using hc1:GH A.1 A.2.1 B=false)];simp
  refine q4 (AO O (AE.nil (AC.then_ (AF.ret (AC.in_ret ?_)))))
  exact AC.then_ret (AC.then_ret (AC.in_ret (AC.then_ret (AT O (Ak (v:=(Value.bool true)) O) (λw hw=>⟨by rw [hr],hw.out⟩)))))
 ·simp only [Bool.and_eq_true,Bool.or_eq_true,Bool.and_eq_false_iff,Bool.or_eq_false_iff,Bool.not_eq_true',Bool.not_eq_false',decide_eq_true_eq,decide_eq_false_iff_not] at hc1
  have k0:GH A.1 A.2.1 B=true:=by simpa using hc1
  refine AF.skip (AC.in_normal (AC.then_ (AF.region (AI (AY (c:=(1:Int)) O O (by decide)) O (AR O ?_)))))
  refine AE.nil (AC.subF (sL [2,3,4,8,7,6] O) (AC.again (GC.step (q4 (AI (Am (c:=true) O O (by decide)) O ?_)))))
  refine AE.nil (q1 (AF.cond_true O (AF.skip (q1 (AF.block ?_)))))
  refine q4 (AR O (AO O (q6 (sL [2,3,4,8,7,6,5] O) (AF.subF (sL [2,3,4,8,5] O) (rN [(0,true),(1,true),(2,true),(3,true),(4,true),(5,true),(6,true),(7,true)] [⟨8,6,55,Aj (⟨0,0⟩:Pt)⟩,⟨9,7,55,Aj (⟨0,0⟩:Pt)⟩] [(10,false),(11,false)] sr (by kernel_rfl) (λ_ _ d _ _ h=>by cases d<;>exact h) (Fb O O Dq O (Fb O O Dq O (IU))) O ?_)))))
  refine Ll O (GA (v:=(pP b1 10)) O (AD (j:=1) O O underlying212 sizeOf55 O (by decide) O) O (VE 3 (Aj A.2.1) BG O (Ll O (GA O (AY (c:=(2:Int)) O O (by decide)) O (GA O (CC (c:=(2:Int)) O O (by decide) (by decide)) O ?_)))))
  refine GA (v:=(pP b1 20)) O (AD (j:=2) O O underlying212 sizeOf55 O (by decide) O) O (VE 3 (Aj A.2.2) BG O (CS.news2 λb5 b6=>AV.imp O (Aq O sizeOf55 O (AV.back (sl (sl sr)) ?_))))
  refine AV.imp O (Cq O sizeOf55 O (AV.back (sl (sl sr)) (AV.nil (AC.subF (sL [2,3,4,8,7,6] O) (q2 ?_)))))
  refine AI (v:=(Value.slice (some ⟨b2,0,none⟩) 3 3)) (FW O underlying212 sizeOf55 (by decide)) O (AE.frzX 0 O O λhnb5=>AE.frzX 1 O O λhnb6=>AI (v:=(Value.func (.func 180) #[] #[(pP b5 0),(pP b6 0)])) (DS (vs:=[]) (us:=[(pP b5 0),(pP b6 0)]) O O) O (Ew call179 (λw hw=>NN A.2.1 A.2.2 B ⟨b5⟩ ⟨b6⟩ ⟨b2⟩ Z hB w (VG (S:=λ_=>False) (x:=(⟨b5⟩:BX (Aj A.2.1))) hw 0 O hnb5) (VG (S:=λ_=>False) (x:=(⟨b6⟩:BX (Aj A.2.2))) hw 1 O hnb6) (VG (S:=λ_=>False) (x:=(⟨b2⟩:BX (Hh B))) hw 4 O hnb2)) O (AI (Bg (c:=(!(GH A.2.1 A.2.2 B))) O O) O ?_)))
  refine AE.nil (AC.subF (sL [2,3,4,8,7,6,22] O) (AC.then_ ?_))
  refine AF.cond O (λhc1=>?_) (λhc1=>?_)
  ·simp only [Bool.and_eq_true,Bool.or_eq_true,Bool.and_eq_false_iff,Bool.or_eq_false_iff,Bool.not_eq_true',Bool.not_eq_false',decide_eq_true_eq,decide_eq_false_iff_not] at hc1
   have hr:E2 A B=true:=by unfold E2;rw [k0,(by simpa using hc1:GH A.2.1 A.2.2 B=false)];simp
   refine q4 (AO O (AE.nil (AC.then_ (AF.ret (AC.in_ret ?_)))))
   exact AC.then_ret (AC.then_ret (AC.in_ret (AC.then_ret (AT O (Ak (v:=(Value.bool true)) O) (λw hw=>⟨by rw [hr],hw.out⟩)))))
  ·simp only [Bool.and_eq_true,Bool.or_eq_true,Bool.and_eq_false_iff,Bool.or_eq_false_iff,Bool.not_eq_true',Bool.not_eq_false',decide_eq_true_eq,decide_eq_false_iff_not] at hc1
   have k1:GH A.2.1 A.2.2 B=true:=by simpa using hc1
   refine AF.skip (AC.in_normal (AC.then_ (AF.region (AI (AY (c:=(2:Int)) O O (by decide)) O (AR O ?_)))))
   refine AE.nil (AC.subF (sL [2,3,4,8,7,6] O) (AC.again (GC.step (q4 (AI (Am (c:=true) O O (by decide)) O ?_)))))
   refine AE.nil (q1 (AF.cond_true O (AF.skip (q1 (AF.block ?_)))))
   refine q4 (AR O (AO O (q6 (sL [2,3,4,8,7,6,5] O) (AF.subF (sL [2,3,4,8,5] O) (rN [(0,true),(1,true),(2,true),(3,true),(4,true),(5,true),(6,true),(7,true)] [⟨8,6,55,Aj (⟨0,0⟩:Pt)⟩,⟨9,7,55,Aj (⟨0,0⟩:Pt)⟩] [(10,false),(11,false)] sr (by kernel_rfl) (λ_ _ d _ _ h=>by cases d<;>exact h) (Fb O O Dq O (Fb O O Dq O (IU))) O ?_)))))
   refine Ll O (GA (v:=(pP b1 20)) O (AD (j:=2) O O underlying212 sizeOf55 O (by decide) O) O (VE 5 (Aj A.2.2) BG O (Ll O (GA O (AY (c:=(3:Int)) O O (by decide)) O (GA O (CC (c:=(0:Int)) O O (by decide) (by decide)) O ?_)))))
   refine GA (v:=(pP b1 0)) O (AD (j:=0) O O underlying212 sizeOf55 O (by decide) O) O (VE 5 (Aj A.1) BG O (CS.news2 λb7 b8=>AV.imp O (Aq O sizeOf55 O (AV.back (sl (sl sr)) ?_))))
   refine AV.imp O (Cq O sizeOf55 O (AV.back (sl (sl sr)) (AV.nil (AC.subF (sL [2,3,4,8,7,6] O) (q2 ?_)))))
   refine AI (v:=(Value.slice (some ⟨b2,0,none⟩) 3 3)) (FW O underlying212 sizeOf55 (by decide)) O (AE.frzX 0 O O λhnb7=>AE.frzX 1 O O λhnb8=>AI (v:=(Value.func (.func 180) #[] #[(pP b7 0),(pP b8 0)])) (DS (vs:=[]) (us:=[(pP b7 0),(pP b8 0)]) O O) O (Ew call179 (λw hw=>NN A.2.2 A.1 B ⟨b7⟩ ⟨b8⟩ ⟨b2⟩ Z hB w (VG (S:=λ_=>False) (x:=(⟨b7⟩:BX (Aj A.2.2))) hw 0 O hnb7) (VG (S:=λ_=>False) (x:=(⟨b8⟩:BX (Aj A.1))) hw 1 O hnb8) (VG (S:=λ_=>False) (x:=(⟨b2⟩:BX (Hh B))) hw 6 O hnb2)) O (AI (Bg (c:=(!(GH A.2.2 A.1 B))) O O) O ?_)))
   refine AE.nil (AC.subF (sL [2,3,4,8,7,6,22] O) (AC.then_ ?_))
   refine AF.cond O (λhc1=>?_) (λhc1=>?_)
   ·simp only [Bool.and_eq_true,Bool.or_eq_true,Bool.and_eq_false_iff,Bool.or_eq_false_iff,Bool.not_eq_true',Bool.not_eq_false',decide_eq_true_eq,decide_eq_false_iff_not] at hc1
    have hr:E2 A B=true:=by unfold E2;rw [k0,k1,(by simpa using hc1:GH A.2.2 A.1 B=false)];simp
    refine q4 (AO O (AE.nil (AC.then_ (AF.ret (AC.in_ret ?_)))))
    exact AC.then_ret (AC.then_ret (AC.in_ret (AC.then_ret (AT O (Ak (v:=(Value.bool true)) O) (λw hw=>⟨by rw [hr],hw.out⟩)))))
   ·simp only [Bool.and_eq_true,Bool.or_eq_true,Bool.and_eq_false_iff,Bool.or_eq_false_iff,Bool.not_eq_true',Bool.not_eq_false',decide_eq_true_eq,decide_eq_false_iff_not] at hc1
    have k2:GH A.2.2 A.1 B=true:=by simpa using hc1
    have hr:E2 A B=false:=by unfold E2;rw [k0,k1,k2];rfl
    refine AF.skip (AC.in_normal (AC.then_ (AF.region (AI (AY (c:=(3:Int)) O O (by decide)) O (AR O ?_)))))
    refine AE.nil (AC.subF (sL [2,3,4,8,7,6] O) (AC.again (GC.step (q4 (AI (Am (c:=false) O O (by decide)) O ?_)))))
    refine AE.nil (q1 (AF.cond_false O (AF.exit (AC.then_exit (AC.then_exit ?_)))))
    refine AC.in_exit (q2 (AO O (AE.nil (AC.subF (sL [2,3,4,8,7,6] O) (AC.then_ ?_)))))
    exact AF.ret (AT O (Ak (v:=(Value.bool false)) O) (λw hw=>⟨by rw [hr],hw.out⟩))
end
end Go.Proofs.YtfbomiejpbchdaaGreat
