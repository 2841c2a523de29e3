import Derived.Test.YtfbomiejpbchdaaGreatDoorPart28
namespace Go.Proofs.YtfbomiejpbchdaaGreatDoor
open Go Go.RowKit Go.Proofs.Tryz
set_option linter.unusedVariables false
set_option linter.unusedSimpArgs false
section
def QI (t:T3) (p:Nat):Int:=if p=t.1 then 0 else if p=t.2.1 then 1 else if p=t.2.2 then 2 else -1
theorem SF (t:T3) (p:Nat):decide (0<=QI t p)=Eu t p:=by
  unfold QI Eu
  by_cases h1:p=t.1
  · rw [if_pos h1,h1];simp
  · have h1':¬t.1=p:=λe=>h1 e.symm
    rw [if_neg h1]
    by_cases h2:p=t.2.1
    · rw [if_pos h2,h2];simp
    · have h2':¬t.2.1=p:=λe=>h2 e.symm
      rw [if_neg h2]
      by_cases h3:p=t.2.2
      · rw [if_pos h3,h3];simp
      · have h3':¬t.2.2=p:=λe=>h3 e.symm
        rw [if_neg h3];simp [h1',h2',h3']
abbrev Q3:=Pt×Pt×Pt
def GB (x:Q3):List Value:=Ah x.1++(Ah x.2.1++(Ah x.2.2++[]))
theorem Uq (a b c:Pt):Ah a++Ah b++Ah c=GB (a,b,c):=by simp [GB]
def Bd (ps:List Pt) (t:T3):Q3:=(B9 ps t.1,B9 ps t.2.1,B9 ps t.2.2)
def K9 (p q r:Pt):Bool:=decide (0<(Aa p q r).num.sign)
def QL (p q:Pt) (B:Q3):Int:=if K9 p q B.1=true then 0 else if K9 p q B.2.1=true then 1 else if K9 p q B.2.2=true then 2 else -1
def Fd (p q:Pt) (B:Q3):Bool:=K9 p q B.1||K9 p q B.2.1||K9 p q B.2.2
theorem R3 (p q:Pt) (B:Q3):decide (0<=QL p q B)=Fd p q B:=by
  unfold QL Fd
  cases K9 p q B.1<;>cases K9 p q B.2.1<;>cases K9 p q B.2.2<;>rfl
def Dn (A B:Q3):Bool:=!Fd A.1 A.2.1 B||(!Fd A.2.1 A.2.2 B||!Fd A.2.2 A.1 B)
structure Lu (ps:List Pt) (ts ss:List T3):Prop where
  pl:ps.length<=4096
  tl:ts.length<=8192
  t0:0<ts.length
  sl:ss.length<=24576
  sz:∀k,B4 (B9 ps k)<=1000
  num:CU ps.length ts=true
  pos:∀j,j<ts.length->(Aa (B9 ps (ts.getD j (0,0,0)).1) (B9 ps (ts.getD j (0,0,0)).2.1) (B9 ps (ts.getD j (0,0,0)).2.2)).num.sign=1
  sid:∀j,j<ss.length->(ss.getD j (0,0,0)).1<ps.length/\(ss.getD j (0,0,0)).2.1<ps.length/\(ss.getD j (0,0,0)).2.2<=255
  use:∀p,p<ps.length->∃j,j<ts.length/\Eu (ts.getD j (0,0,0)) p=true
  dst:ps.Nodup
  apart:∀i k,i<ts.length->k<i->(!Dn (Bd ps (ts.getD i (0,0,0))) (Bd ps (ts.getD k (0,0,0)))&&!Dn (Bd ps (ts.getD k (0,0,0))) (Bd ps (ts.getD i (0,0,0))))=false
  crn:∀i p,i<ts.length->p<ps.length->Eu (ts.getD i (0,0,0)) p=false->MY ps (B9 ps p) (ts.getD i (0,0,0))=0
  rl:ss.length=(JF ts).length
  rim:∀j,j<ss.length->(ss.getD j (0,0,0)).1=((JF ts).getD j (0,0,0)).1/\(ss.getD j (0,0,0)).2.1=((JF ts).getD j (0,0,0)).2.1
theorem Lu.szM {ps:List Pt} {ts ss:List T3} (h:Lu ps ts ss) (k:Nat):B4 (B9 ps k)<=1000000:=Nat.le_trans (h.sz k) (by decide)
def KC (x y:Pt):Int:=if Qz x y then -1 else if Qz y x then 1 else 0
theorem E6 {x y:Pt}:KC x y<0↔Qz x y:=by
  unfold KC
  split
  · exact ⟨λ_=>by assumption,λ_=>by decide⟩
  · rename_i h
    split<;>exact ⟨λk=>absurd k (by decide),λk=>absurd k h⟩
theorem OQ {ys:List Pt} (h:ys.Nodup) {k:Nat} (h1:1<=k) (hk:k<ys.length) (e:ys.getD k ⟨0,0⟩=ys.getD (k-1) ⟨0,0⟩):False:=by
  rw [List.getD,List.getD,List.getElem?_eq_getElem hk,List.getElem?_eq_getElem (show k-1<ys.length by omega)] at e
  have:=(List.getElem_inj h).1 e
  omega
def bL (us:List Bool):List Value:=us.map Value.bool
theorem KW (us:List Bool):(bL us).length=us.length:=List.length_map _
theorem MS (us:List Bool) (j:Nat) (v:Bool):(bL us).set j (.bool v)=bL (us.set j v):=by unfold bL;rw [List.map_set]
theorem Tj {us:List Bool} {j:Nat} (h:j<us.length):(bL us)[j*1]?=some (.bool (us.getD j false)):=by simp [bL,h]
def If (ts:List T3) (n i:Nat):List Bool:=(List.range n).map λp=>(ts.take i).any λt=>Eu t p
theorem FR (ts:List T3) (n i:Nat):(If ts n i).length=n:=by simp [If]
theorem Oz (ts:List T3) (n:Nat):List.replicate n false=If ts n 0:=by
  unfold If
  rw [List.take_zero]
  apply List.ext_getElem?
  intro j
  rcases Nat.lt_or_ge j n with h|h
  · simp [h]
  · rw [List.getElem?_eq_none (by simpa using h),List.getElem?_eq_none (by simpa using h)]
theorem Oa {ts:List T3} {n i:Nat} (h:i<ts.length):(((If ts n i).set (ts.getD i (0,0,0)).1 true).set (ts.getD i (0,0,0)).2.1 true).set (ts.getD i (0,0,0)).2.2 true=If ts n (i+1):=by
  apply List.ext_getElem?
  intro j
  have e:ts.take (i+1)=ts.take i++[ts.getD i (0,0,0)]:=by rw [List.take_add_one,List.getD,List.getElem?_eq_getElem h];rfl
  generalize ts.getD i (0,0,0)=T at *
  unfold If
  rw [e]
  simp only [List.getElem?_set,List.length_set,List.length_map,List.length_range,List.getElem?_map,List.any_append,List.any_cons,List.any_nil,Bool.or_false]
  rcases Nat.lt_or_ge j n with hj|hj
  · rw [List.getElem?_range hj]
    simp only [Option.map_some]
    unfold Eu
    by_cases h1:T.1=j<;>by_cases h2:T.2.1=j<;>by_cases h3:T.2.2=j<;>simp [h1,h2,h3]<;>try omega
  · rw [List.getElem?_eq_none (by simpa using hj)]
    simp only [Option.map_none]
    by_cases h1:T.1=j<;>by_cases h2:T.2.1=j<;>by_cases h3:T.2.2=j<;>simp [h1,h2,h3]<;>omega
theorem Rc {ts:List T3} {n p:Nat} (hp:p<n) (h:∃j,j<ts.length/\Eu (ts.getD j (0,0,0)) p=true):(If ts n ts.length).getD p false=true:=by
  unfold If
  rw [List.getD,List.getElem?_map,List.getElem?_range hp,Option.map_some,Option.getD_some,List.take_length,List.any_eq_true]
  obtain ⟨j,hj,h⟩:=h
  exact ⟨_,List.getElem_mem hj,by rwa [List.getD,List.getElem?_eq_getElem hj] at h⟩
section
variable {P:Program} {ops:Array Oper} {rest:List Oper} {Q:Exit->Act->World->Prop} {n d i z m c:Nat} {F:List (Nat×Value)} {w0:BH} {L L':List As} {t ty T:TypeId} {p:String} {af:Array Edge} {x y:Operand} {cs vs:List Value} {q:Option Addr} {v:Value}
theorem AE.makeBool {ki kj:IntKind} {bytes:Nat} (ht:RO P t T (.bool false) bytes) (hx:evF F x=some (.int ki (m:Nat))) (hy:evF F y=some (.int kj (m:Nat))) (hm:m<=1099511627776) (hb:Nat.ble bytes 16=true) (hd:Nat.ble (d+1) n=true)
    (next:∀b,OwnOk (some ⟨b,0,none⟩) m m->AE P ops rest Q n ((d,.slice (some ⟨b,0,none⟩) m m)::F) w0 (rowW (some ⟨b,0,none⟩) T 1 m m (bL (List.replicate m false))::L)) :
    AE P ops (⟨some d,.makeSlice t x y,ty,p,af,none⟩::rest) Q n F w0 L:=AE.makeRow ht hx hy hm hb hd λb ho=>by
  have h:=next b ho
  unfold bL at h
  rw [List.map_replicate] at h
  exact h
end
section
variable {P:Program} {n:Nat} {F:List (Nat×Value)} {w0:BH} {L:List As} {x:Operand} {d:Option Tmp} {t:TypeId} {p:String} {af:Array Edge} {g:Option (Nat×Bool)}
theorem Kv {tx e:TypeId} {b off len k:Nat} (hx:evF F x=some (.pointer (some ⟨b,off,none⟩))) (hu:P.underlying tx=some (.array len e)) (hs:∀w,(sizeOf e).run P w=.ok k w) (h0:0<len) :
    Ex P n F w0 L ⟨d,.slice tx x none none none,t,p,af,g⟩ (.slice (some ⟨b,off,none⟩) len len):=λA w ha _=>by
  have e1:¬len=0:=by omega
  simp [execOp,ha.ev hx,Instr.sliceAt,run_underlying hu,Instr.sureAddr,Instr.sliceBounds,Instr.sliceBound,hs,e1,Addr.add_lit]
end
theorem SR {S:Nat->Prop} {w:World} {ts:List T3} {x:RX (rowsL An ts) ts.length} (h:Ro S w x) {j:Nat} (hj:j<ts.length) (ok:BO (some ⟨pB x.p,pO x.p+j*3,none⟩) 3 3):Ro S w (⟨some ⟨pB x.p,pO x.p+j*3,none⟩,3,ok⟩:RX (An (ts.getD j (0,0,0))) 3):=λy hy=>by
  rcases List.mem_singleton.1 hy with rfl
  obtain ⟨h1,h2⟩:=h (Ag x.p (rowsL An ts)) (List.mem_singleton.2 rfl)
  obtain ⟨a,hp⟩:∃a,x.p=some a:=by
    cases hp:x.p with
    | none=>have:=(x.ok.nil hp).1;omega
    | some a=>exact ⟨a,rfl⟩
  have e:(some (⟨pB x.p,pO x.p+j*3,none⟩:Addr)).map (·.block)=x.p.map (·.block):=by rw [hp];rfl
  refine ⟨λb hb=>?_,λb hb=>h2 b (e.symm.trans hb)⟩
  obtain ⟨o,ho,cur,T,fr,rfl,hc⟩:=h1 b (e.symm.trans hb)
  refine ⟨_,ho,cur,T,fr,rfl,?_⟩
  have hl:=Ar BI (0,0,0) ts j hj
  have hz:=Am BI ts
  show (cur.toList.drop (pO x.p+j*3)).take 3=_
  refine Eq.trans ?_ hl
  refine Eq.trans ?_ (congrArg (λl:List Value=>(l.drop (j*3)).take 3) hc)
  show _=(((cur.toList.drop (pO x.p)).take (rowsL An ts).length).drop (j*3)).take 3
  rw [List.drop_take,List.take_take,List.drop_drop]
  congr 1
  omega
theorem UL (b o:Nat):BO (some ⟨b,o,none⟩) 3 3:=⟨λe=>(by cases e),λa e=>(by injection e with e;subst e;rfl),Nat.le_refl _⟩
end
end Go.Proofs.YtfbomiejpbchdaaGreatDoor
