import Derived.Test.YtpgncndhhhllfaaGreatPart20
namespace Go.Proofs.YtpgncndhhhllfaaGreat
open Go Go.RowKit Go.Proofs.Tryz
set_option linter.unusedVariables false
set_option linter.unusedSimpArgs false
section
structure MX (ps:List Pt) (ts ss:List (Tq3)) where
  a:RX (rowsL Bf ps) ps.length
  b:RX (rowsL AZ ts) ts.length
  c:RX (rowsL AZ ss) ss.length
def Bp {ps:List Pt} {ts ss:List (Tq3)} (x:MX ps ts ss):List Value:=[x.a.val,x.b.val,x.c.val]
theorem be {ps:List Pt} {ts ss:List (Tq3)} {x:MX ps ts ss} {y:As} (hy:y∈[x.a.row,x.b.row,x.c.row]):y.ro=true:=by
  simp only [List.mem_cons,List.not_mem_nil,or_false] at hy
  rcases hy with rfl|rfl|rfl<;>rfl
instance {ps:List Pt} {ts ss:List (Tq3)}:Cf (MX ps ts ss):=⟨λx=>aG (Bp x),λx=>[x.a.row,x.b.row,x.c.row],λx y hy=>be hy⟩
def MG.mx (g:MG):MX g.ps g.ts g.ss:=⟨g.a,g.b,g.c⟩
structure BX (cs:List Value) where
  b:Nat
instance {cs:List Value}:Cf (BX cs):=⟨λx=>pP x.b 0,λx=>[AK (some ⟨x.b,0,none⟩) cs],λx y hy=>by rcases List.mem_singleton.1 hy with rfl;rfl⟩
theorem Il {b:Nat} {T:TypeId} {cs:List Value} {o:Obj} (h:(Af b T cs).P o):(AK (some ⟨b,0,none⟩) cs).P o:=⟨cs.toArray,T,(0,0),h,by show (cs.toArray.toList.drop 0).take cs.length=cs;simp⟩
section
variable {S:Nat->Prop} {w W:World} {w0:BL} {L:List As} {ps:List Pt} {ts ss:List (Tq3)} {cs:List Value}
theorem Zi {x:MX ps ts ss} (h:Ro S w x):Ro S w x.b:=λy hy=>by rcases List.mem_singleton.1 hy with rfl;exact h _ (List.mem_cons_of_mem _ List.mem_cons_self)
theorem eM (hw:BS w0 w L) (i:Nat) {x:BX cs} (hi:L[i]?=some (AK (some ⟨x.b,0,none⟩) cs)) (hb:w0.w.heap.size<=x.b):Ro (SL w0 S L) w x:=λy hy=>by
  rcases List.mem_singleton.1 hy with rfl
  exact ⟨hw.holds hi,λc e=>⟨⟨_,List.mem_of_getElem? hi,rfl,e⟩,.inl (by injection e with e;rw [<-e];exact hb)⟩⟩
end
section
variable {P:Program} {ops:Array Oper} {rest:List Oper} {Q:Exit->Act->World->Prop} {n d:Nat} {F:List (Nat×Value)} {w0:BL} {S:Nat->Prop} {L:List As} {t:TypeId} {p:String} {af:Array Edge} {y:Operand} {f:FuncId} {xs:List Operand} {args:List Value} {ts:Array TypeId}
theorem AC.frzX (i:Nat) {b:Nat} {T:TypeId} {cs:List Value} (hi:L[i]?=some (Af b T cs)) (hex:w0.ex=none) (next:w0.w.heap.size<=b->AC P ops rest Q n F w0 (L.set i (AK (some ⟨b,0,none⟩) cs))):AC P ops rest Q n F w0 L:=λa w ha hw=>by
  refine next ?_ a w ha (hw.freeze hi O (λo hp=>Il hp) (λe=>by cases e))
  rcases (hw.2.1 _ (List.mem_of_getElem? hi) b rfl).1 with h1|h1|h1
  · cases h1
  · exact h1
  · rw [hex] at h1;cases h1
end
def Py (n:Nat) (t:Tq3):Bool:=decide (t.1<n)&&decide (t.2.1<n)&&decide (t.2.2<n)&&!decide (t.1=t.2.1)&&!decide (t.2.1=t.2.2)&&!decide (t.2.2=t.1)
def BI (n:Nat) (ts:List (Tq3)):Bool:=ts.all (Py n)
theorem S6 {ps:List Pt} {ts:List (Tq3)} (h:HF ps ts):BI ps.length ts=true:=List.all_eq_true.2 λt ht=>by
  obtain ⟨j,hj,rfl⟩:=List.getElem_of_mem ht
  have k:=h.tri j hj
  rw [show ts.getD j (0,0,0)=ts[j] by rw [List.getD,List.getElem?_eq_getElem hj];rfl] at k
  simp [Py,k.a,k.b,k.c,k.ab,k.bc,k.ca]
theorem CW {n:Nat} {ts:List (Tq3)} (h:BI n ts=true) {j:Nat} (hj:j<ts.length):Py n (ts.getD j (0,0,0))=true:=by
  rw [List.getD,List.getElem?_eq_getElem hj]
  exact List.all_eq_true.1 h _ (List.getElem_mem hj)
theorem Cy {n:Nat} {t:Tq3} (h:Py n t=true):t.1<n/\t.2.1<n/\t.2.2<n:=by
  simp [Py] at h;omega
def idxB (n:Nat):List (Tq3)->Nat->Int
  | [],_ => -1
  | t::r,i=>if Py n t=true then idxB n r (i+1) else (i:Int)
theorem Qx {α:Type} {ts:List α} {d:α} {j:Nat} (hj:j<ts.length):ts.drop j=ts.getD j d::ts.drop (j+1):=by
  rw [List.drop_eq_getElem_cons hj,List.getD,List.getElem?_eq_getElem hj];rfl
theorem SE {n:Nat} {ts:List (Tq3)} {j:Nat} (hj:j<ts.length) (h:Py n (ts.getD j (0,0,0))=true):idxB n (ts.drop j) j=idxB n (ts.drop (j+1)) (j+1):=by
  rw [Qx (d:=(0,0,0)) hj];exact if_pos h
theorem VT {n:Nat} {ts:List (Tq3)} {j:Nat} (hj:j<ts.length) (h:Py n (ts.getD j (0,0,0))=false):idxB n (ts.drop j) j=(j:Int):=by
  rw [Qx (d:=(0,0,0)) hj];exact if_neg (by rw [h];exact Bool.false_ne_true)
theorem Uv {n:Nat} {ts:List (Tq3)} {j:Nat} (hj:¬j<ts.length):idxB n (ts.drop j) j = -1:=by
  rw [List.drop_of_length_le Z];rfl
theorem MP (n:Nat):∀(ts:List (Tq3)) (i:Nat),decide (0<=idxB n ts i)=!BI n ts
  | [],i=>rfl
  | t::r,i=>by
    unfold idxB BI
    rw [List.all_cons]
    cases h:Py n t with
    | true=>rw [if_pos rfl,Bool.true_and];exact MP n r (i+1)
    | false=>rw [if_neg Bool.false_ne_true,Bool.false_and];simp
def Nh (ps:List Pt) (k:Nat):Pt:=ps.getD k ⟨0,0⟩
end
section
set_option maxRecDepth 100000
theorem KC (p n:Nat) (w:World)  :Calls prog 70 #[(vN p),(vN n)] w (A9 w (Value.bool (decide (p<n)))):=by
 refine Aq (args:=[(vN p),(vN n)]) func70 O O (Ad O) (AE.subF (sL [0,1] O) (q4 (AI O (AC.nil (q2 (AM O (AJ (DR (c:=(decide (0<=p))) O O (Wh (a:=0) (b:=p))) O (AM O ?_))))))))
 refine AC.mid (FM:=[(0,(vN p)),(1,(vN n)),(4,(Value.bool false)),(5,(vN p)),(6,(Value.bool (decide (0<=p)))),(7,(Value.bool (decide (0<=p)))),(11,(Value.bool ((decide (0<=p))&&(decide (p<n)))))]) (LM:=[]) 4 ?_ ?_
 ·rcases Bool.eq_false_or_eq_true (decide (0<=p)) with hg1|hg1
  ·skip
   refine AC.retell (k:=7) (u:=Value.bool true) O (by rw [hg1]) ?_
   have hg1':=hg1
   replace hg1':=of_decide_eq_true hg1'
   exact AC.step (v:=(vN p)) (AA O) (AU O) O (Ad O) (AC.step (v:=(vN n)) (AA O) (AU O) O (Ad O) (AC.step (v:=(Value.bool (decide (p<n)))) (AA O) (Ac (c:=(decide (p<n))) O O (CD (a:=p) (b:=n))) O (Ad O) (AJ (v:=(Value.bool (decide (p<n)))) (AW O O) O (AC.nil (OkQ.mid (sS O (sS O (sS O (sS O (sS O (sS (by first|rfl|(rw [hg1];rfl)|rw [hg1]) (sS (by first|rfl|(rw [hg1];rfl)|rw [hg1]) (sN)))))))) (List.Sublist.refl _))))))
  ·skip
   refine AC.retell (k:=7) (u:=Value.bool false) O (by rw [hg1]) ?_
   have hg1':=hg1
   replace hg1':=of_decide_eq_false hg1'
   exact AC.skip (AH O) O (Ad O) (AC.skip (AH O) O (Ad O) (AC.skip (AH O) O (Ad O) (AJ (v:=(Value.bool false)) (AT O O) O (AC.nil (OkQ.mid (sS O (sS O (sS O (sS O (sS O (sS (by first|rfl|(rw [hg1];rfl)|rw [hg1]) (sS (by first|rfl|(rw [hg1];rfl)|rw [hg1]) (sN)))))))) (List.Sublist.refl _))))))
 exact AI O (AC.nil (OkQ.subF (sL [4] O) (OkQ.then_ (AE.ret (AV O (Ah (v:=(Value.bool ((decide (0<=p))&&(decide (p<n))))) O) (λw hw=>⟨by simp,hw.out⟩))))))
theorem VR (t:Tq3) (n:Nat) (bo:BX [vN n]) (w:World) {S:Nat->Prop} (hbo:Ro S w bo):Calls prog 69 #[(aG (AZ t)),(pP bo.b 0)] w (A9 w (Value.bool (!Py n t))):=by
 have lbo:=Dk (W:=w) hbo
 refine An (args:=[(aG (AZ t)),(pP bo.b 0)]) (L:=[AK (some ⟨bo.b,0,none⟩) ([(vN n)])]) func69 O O (Ad O) (E3 hbo BA) (AE.subF (sL [0,1] O) (q4 (Ca (cs:=AZ t) O λb1=>AI O (q3 (sL [1,2,3] O) (AJ (v:=(pP b1 0)) (AD (j:=0) O O underlying68 sizeOf3 O (by decide) O) O (BE 0 (vN t.1) BY O (AJ (AL (q:=some ⟨bo.b,0,none⟩) (v:=(vN n)) (off:=0) (i:=1) O O (λe=>by cases e) BY O) O (ck' call70 (KC t.1 n) O (AJ (Bj (c:=(!(decide (t.1<n)))) O O) O (AM O ?_))))))))))
 refine AC.mid (FM:=[(1,(pP bo.b 0)),(2,(pP b1 0)),(3,(Value.bool false)),(4,(pP b1 0)),(5,(vN t.1)),(6,(vN n)),(7,(Value.bool (decide (t.1<n)))),(8,(Value.bool (!(decide (t.1<n))))),(9,(Value.bool (!(decide (t.1<n))))),(15,(Value.bool ((!(decide (t.1<n)))||(!(decide (t.2.1<n))))))]) (LM:=[Af b1 68 (AZ t),AK (some ⟨bo.b,0,none⟩) ([(vN n)])]) 6 ?_ ?_
 ·rcases Bool.eq_false_or_eq_true (!(decide (t.1<n))) with hg1|hg1
  ·skip
   refine AC.retell (k:=9) (u:=Value.bool true) O (by rw [hg1]) ?_
   have hg1':=hg1
   simp only [Bool.and_eq_true,Bool.or_eq_true,Bool.and_eq_false_iff,Bool.or_eq_false_iff,Bool.not_eq_true',Bool.not_eq_false',decide_eq_true_eq,decide_eq_false_iff_not] at hg1'
   exact AC.skip (AH O) O (Ad O) (AC.skip (AH O) O (Ad O) (AC.skip (AH O) O (Ad O) (AC.skip (AH O) O (Ad O) (AC.skip (AH O) O (Ad O) (AJ (v:=(Value.bool true)) (AW O O) O (AC.nil (OkQ.mid (sS O (sS O (sS O (sS O (sS O (sS O (sS O (sS O (sS (by first|rfl|(rw [hg1];rfl)|rw [hg1]) (sS (by first|rfl|(rw [hg1];rfl)|rw [hg1]) (sN))))))))))) (List.Sublist.refl _))))))))
  ·skip
   refine AC.retell (k:=9) (u:=Value.bool false) O (by rw [hg1]) ?_
   have hg1':=hg1
   simp only [Bool.and_eq_true,Bool.or_eq_true,Bool.and_eq_false_iff,Bool.or_eq_false_iff,Bool.not_eq_true',Bool.not_eq_false',decide_eq_true_eq,decide_eq_false_iff_not] at hg1'
   exact AC.step (v:=(pP b1 1)) (AA O) (AD (j:=1) O O underlying68 sizeOf3 O (by decide) O) O (Ad O) (AC.step (v:=(vN t.2.1)) (AA O) (AS (i:=0) (v:=(vN t.2.1)) O O BY.a O) O (Ad O) (AC.step (v:=(vN n)) (AA O) (AL (q:=some ⟨bo.b,0,none⟩) (v:=(vN n)) (off:=0) (i:=1) O O (λe=>by cases e) BY O) O (Ad O) (AC.call (v:=(Value.bool (decide (t.2.1<n)))) (AA O) (A_ (args:=[(vN t.2.1),(vN n)]) O O call70) (λw hw=>KC t.2.1 n w) O (Ad O) (AC.step (v:=(Value.bool (!(decide (t.2.1<n))))) (AA O) (Bj (c:=(!(decide (t.2.1<n)))) O O) O (Ad O) (AJ (v:=(Value.bool (!(decide (t.2.1<n))))) (AT O O) O (AC.nil (OkQ.mid (sS O (sS O (sS O (sS O (sS O (sS O (sS O (sS O (sS (by first|rfl|(rw [hg1];rfl)|rw [hg1]) (sS (by first|rfl|(rw [hg1];rfl)|rw [hg1]) (sN))))))))))) (List.Sublist.refl _))))))))
 refine AM O ?_
 refine AC.mid (FM:=[(1,(pP bo.b 0)),(2,(pP b1 0)),(3,(Value.bool false)),(4,(pP b1 0)),(5,(vN t.1)),(6,(vN n)),(7,(Value.bool (decide (t.1<n)))),(8,(Value.bool (!(decide (t.1<n))))),(9,(Value.bool (!(decide (t.1<n))))),(15,(Value.bool ((!(decide (t.1<n)))||(!(decide (t.2.1<n)))))),(16,(Value.bool ((!(decide (t.1<n)))||(!(decide (t.2.1<n)))))),(22,(Value.bool (((!(decide (t.1<n)))||(!(decide (t.2.1<n))))||(!(decide (t.2.2<n))))))]) (LM:=[Af b1 68 (AZ t),AK (some ⟨bo.b,0,none⟩) ([(vN n)])]) 6 ?_ ?_
 ·rcases Bool.eq_false_or_eq_true ((!(decide (t.1<n)))||(!(decide (t.2.1<n)))) with hg2|hg2
  ·skip
   refine AC.retell (k:=16) (u:=Value.bool true) O (by rw [hg2]) ?_
   have hg2':=hg2
   simp only [Bool.and_eq_true,Bool.or_eq_true,Bool.and_eq_false_iff,Bool.or_eq_false_iff,Bool.not_eq_true',Bool.not_eq_false',decide_eq_true_eq,decide_eq_false_iff_not] at hg2'
   exact AC.skip (AH O) O (Ad O) (AC.skip (AH O) O (Ad O) (AC.skip (AH O) O (Ad O) (AC.skip (AH O) O (Ad O) (AC.skip (AH O) O (Ad O) (AJ (v:=(Value.bool true)) (AW O O) O (AC.nil (OkQ.mid (sS O (sS O (sS O (sS O (sS O (sS O (sS O (sS O (sS O (sS O (sS (by first|rfl|(rw [hg2];rfl)|rw [hg2]) (sS (by first|rfl|(rw [hg2];rfl)|rw [hg2]) (sN))))))))))))) (List.Sublist.refl _))))))))
  ·skip
   refine AC.retell (k:=16) (u:=Value.bool false) O (by rw [hg2]) ?_
   have hg2':=hg2
   simp only [Bool.and_eq_true,Bool.or_eq_true,Bool.and_eq_false_iff,Bool.or_eq_false_iff,Bool.not_eq_true',Bool.not_eq_false',decide_eq_true_eq,decide_eq_false_iff_not] at hg2'
   exact AC.step (v:=(pP b1 2)) (AA O) (AD (j:=2) O O underlying68 sizeOf3 O (by decide) O) O (Ad O) (AC.step (v:=(vN t.2.2)) (AA O) (AS (i:=0) (v:=(vN t.2.2)) O O BY.a O) O (Ad O) (AC.step (v:=(vN n)) (AA O) (AL (q:=some ⟨bo.b,0,none⟩) (v:=(vN n)) (off:=0) (i:=1) O O (λe=>by cases e) BY O) O (Ad O) (AC.call (v:=(Value.bool (decide (t.2.2<n)))) (AA O) (A_ (args:=[(vN t.2.2),(vN n)]) O O call70) (λw hw=>KC t.2.2 n w) O (Ad O) (AC.step (v:=(Value.bool (!(decide (t.2.2<n))))) (AA O) (Bj (c:=(!(decide (t.2.2<n)))) O O) O (Ad O) (AJ (v:=(Value.bool (!(decide (t.2.2<n))))) (AT O O) O (AC.nil (OkQ.mid (sS O (sS O (sS O (sS O (sS O (sS O (sS O (sS O (sS O (sS O (sS (by first|rfl|(rw [hg2];rfl)|rw [hg2]) (sS (by first|rfl|(rw [hg2];rfl)|rw [hg2]) (sN))))))))))))) (List.Sublist.refl _))))))))
 refine AM O ?_
 refine AC.mid (FM:=[(1,(pP bo.b 0)),(2,(pP b1 0)),(3,(Value.bool false)),(4,(pP b1 0)),(5,(vN t.1)),(6,(vN n)),(7,(Value.bool (decide (t.1<n)))),(8,(Value.bool (!(decide (t.1<n))))),(9,(Value.bool (!(decide (t.1<n))))),(15,(Value.bool ((!(decide (t.1<n)))||(!(decide (t.2.1<n)))))),(16,(Value.bool ((!(decide (t.1<n)))||(!(decide (t.2.1<n)))))),(22,(Value.bool (((!(decide (t.1<n)))||(!(decide (t.2.1<n))))||(!(decide (t.2.2<n)))))),(23,(Value.bool (((!(decide (t.1<n)))||(!(decide (t.2.1<n))))||(!(decide (t.2.2<n)))))),(29,(Value.bool ((((!(decide (t.1<n)))||(!(decide (t.2.1<n))))||(!(decide (t.2.2<n))))||(decide (t.1=t.2.1)))))]) (LM:=[Af b1 68 (AZ t),AK (some ⟨bo.b,0,none⟩) ([(vN n)])]) 6 ?_ ?_
 ·rcases Bool.eq_false_or_eq_true (((!(decide (t.1<n)))||(!(decide (t.2.1<n))))||(!(decide (t.2.2<n)))) with hg3|hg3
  ·skip
   refine AC.retell (k:=23) (u:=Value.bool true) O (by rw [hg3]) ?_
   have hg3':=hg3
   simp only [Bool.and_eq_true,Bool.or_eq_true,Bool.and_eq_false_iff,Bool.or_eq_false_iff,Bool.not_eq_true',Bool.not_eq_false',decide_eq_true_eq,decide_eq_false_iff_not] at hg3'
   exact AC.skip (AH O) O (Ad O) (AC.skip (AH O) O (Ad O) (AC.skip (AH O) O (Ad O) (AC.skip (AH O) O (Ad O) (AC.skip (AH O) O (Ad O) (AJ (v:=(Value.bool true)) (AW O O) O (AC.nil (OkQ.mid (sS O (sS O (sS O (sS O (sS O (sS O (sS O (sS O (sS O (sS O (sS O (sS O (sS (by first|rfl|(rw [hg3];rfl)|rw [hg3]) (sS (by first|rfl|(rw [hg3];rfl)|rw [hg3]) (sN))))))))))))))) (List.Sublist.refl _))))))))
  ·skip
   refine AC.retell (k:=23) (u:=Value.bool false) O (by rw [hg3]) ?_
   have hg3':=hg3
   simp only [Bool.and_eq_true,Bool.or_eq_true,Bool.and_eq_false_iff,Bool.or_eq_false_iff,Bool.not_eq_true',Bool.not_eq_false',decide_eq_true_eq,decide_eq_false_iff_not] at hg3'
   exact AC.step (v:=(pP b1 0)) (AA O) (AD (j:=0) O O underlying68 sizeOf3 O (by decide) O) O (Ad O) (AC.step (v:=(vN t.1)) (AA O) (AS (i:=0) (v:=(vN t.1)) O O BY.a O) O (Ad O) (AC.step (v:=(pP b1 1)) (AA O) (AD (j:=1) O O underlying68 sizeOf3 O (by decide) O) O (Ad O) (AC.step (v:=(vN t.2.1)) (AA O) (AS (i:=0) (v:=(vN t.2.1)) O O BY.a O) O (Ad O) (AC.step (v:=(Value.bool (decide (t.1=t.2.1)))) (AA O) (BQ (c:=(decide (t.1=t.2.1))) O O (JC (a:=t.1) (b:=t.2.1))) O (Ad O) (AJ (v:=(Value.bool (decide (t.1=t.2.1)))) (AT O O) O (AC.nil (OkQ.mid (sS O (sS O (sS O (sS O (sS O (sS O (sS O (sS O (sS O (sS O (sS O (sS O (sS (by first|rfl|(rw [hg3];rfl)|rw [hg3]) (sS (by first|rfl|(rw [hg3];rfl)|rw [hg3]) (sN))))))))))))))) (List.Sublist.refl _))))))))
 refine AM O ?_
 refine AC.mid (FM:=[(1,(pP bo.b 0)),(2,(pP b1 0)),(3,(Value.bool false)),(4,(pP b1 0)),(5,(vN t.1)),(6,(vN n)),(7,(Value.bool (decide (t.1<n)))),(8,(Value.bool (!(decide (t.1<n))))),(9,(Value.bool (!(decide (t.1<n))))),(15,(Value.bool ((!(decide (t.1<n)))||(!(decide (t.2.1<n)))))),(16,(Value.bool ((!(decide (t.1<n)))||(!(decide (t.2.1<n)))))),(22,(Value.bool (((!(decide (t.1<n)))||(!(decide (t.2.1<n))))||(!(decide (t.2.2<n)))))),(23,(Value.bool (((!(decide (t.1<n)))||(!(decide (t.2.1<n))))||(!(decide (t.2.2<n)))))),(29,(Value.bool ((((!(decide (t.1<n)))||(!(decide (t.2.1<n))))||(!(decide (t.2.2<n))))||(decide (t.1=t.2.1))))),(30,(Value.bool ((((!(decide (t.1<n)))||(!(decide (t.2.1<n))))||(!(decide (t.2.2<n))))||(decide (t.1=t.2.1))))),(36,(Value.bool (((((!(decide (t.1<n)))||(!(decide (t.2.1<n))))||(!(decide (t.2.2<n))))||(decide (t.1=t.2.1)))||(decide (t.2.1=t.2.2)))))]) (LM:=[Af b1 68 (AZ t),AK (some ⟨bo.b,0,none⟩) ([(vN n)])]) 6 ?_ ?_
 ·rcases Bool.eq_false_or_eq_true ((((!(decide (t.1<n)))||(!(decide (t.2.1<n))))||(!(decide (t.2.2<n))))||(decide (t.1=t.2.1))) with hg4|hg4
  ·skip
   refine AC.retell (k:=30) (u:=Value.bool true) O (by rw [hg4]) ?_
   have hg4':=hg4
   simp only [Bool.and_eq_true,Bool.or_eq_true,Bool.and_eq_false_iff,Bool.or_eq_false_iff,Bool.not_eq_true',Bool.not_eq_false',decide_eq_true_eq,decide_eq_false_iff_not] at hg4'
   exact AC.skip (AH O) O (Ad O) (AC.skip (AH O) O (Ad O) (AC.skip (AH O) O (Ad O) (AC.skip (AH O) O (Ad O) (AC.skip (AH O) O (Ad O) (AJ (v:=(Value.bool true)) (AW O O) O (AC.nil (OkQ.mid (sS O (sS O (sS O (sS O (sS O (sS O (sS O (sS O (sS O (sS O (sS O (sS O (sS O (sS O (sS (by first|rfl|(rw [hg4];rfl)|rw [hg4]) (sS (by first|rfl|(rw [hg4];rfl)|rw [hg4]) (sN))))))))))))))))) (List.Sublist.refl _))))))))
  ·skip
   refine AC.retell (k:=30) (u:=Value.bool false) O (by rw [hg4]) ?_
   have hg4':=hg4
   simp only [Bool.and_eq_true,Bool.or_eq_true,Bool.and_eq_false_iff,Bool.or_eq_false_iff,Bool.not_eq_true',Bool.not_eq_false',decide_eq_true_eq,decide_eq_false_iff_not] at hg4'
   exact AC.step (v:=(pP b1 1)) (AA O) (AD (j:=1) O O underlying68 sizeOf3 O (by decide) O) O (Ad O) (AC.step (v:=(vN t.2.1)) (AA O) (AS (i:=0) (v:=(vN t.2.1)) O O BY.a O) O (Ad O) (AC.step (v:=(pP b1 2)) (AA O) (AD (j:=2) O O underlying68 sizeOf3 O (by decide) O) O (Ad O) (AC.step (v:=(vN t.2.2)) (AA O) (AS (i:=0) (v:=(vN t.2.2)) O O BY.a O) O (Ad O) (AC.step (v:=(Value.bool (decide (t.2.1=t.2.2)))) (AA O) (BQ (c:=(decide (t.2.1=t.2.2))) O O (JC (a:=t.2.1) (b:=t.2.2))) O (Ad O) (AJ (v:=(Value.bool (decide (t.2.1=t.2.2)))) (AT O O) O (AC.nil (OkQ.mid (sS O (sS O (sS O (sS O (sS O (sS O (sS O (sS O (sS O (sS O (sS O (sS O (sS O (sS O (sS (by first|rfl|(rw [hg4];rfl)|rw [hg4]) (sS (by first|rfl|(rw [hg4];rfl)|rw [hg4]) (sN))))))))))))))))) (List.Sublist.refl _))))))))
 refine AM O ?_
 refine AC.mid (FM:=[(1,(pP bo.b 0)),(2,(pP b1 0)),(3,(Value.bool false)),(4,(pP b1 0)),(5,(vN t.1)),(6,(vN n)),(7,(Value.bool (decide (t.1<n)))),(8,(Value.bool (!(decide (t.1<n))))),(9,(Value.bool (!(decide (t.1<n))))),(15,(Value.bool ((!(decide (t.1<n)))||(!(decide (t.2.1<n)))))),(16,(Value.bool ((!(decide (t.1<n)))||(!(decide (t.2.1<n)))))),(22,(Value.bool (((!(decide (t.1<n)))||(!(decide (t.2.1<n))))||(!(decide (t.2.2<n)))))),(23,(Value.bool (((!(decide (t.1<n)))||(!(decide (t.2.1<n))))||(!(decide (t.2.2<n)))))),(29,(Value.bool ((((!(decide (t.1<n)))||(!(decide (t.2.1<n))))||(!(decide (t.2.2<n))))||(decide (t.1=t.2.1))))),(30,(Value.bool ((((!(decide (t.1<n)))||(!(decide (t.2.1<n))))||(!(decide (t.2.2<n))))||(decide (t.1=t.2.1))))),(36,(Value.bool (((((!(decide (t.1<n)))||(!(decide (t.2.1<n))))||(!(decide (t.2.2<n))))||(decide (t.1=t.2.1)))||(decide (t.2.1=t.2.2))))),(37,(Value.bool (((((!(decide (t.1<n)))||(!(decide (t.2.1<n))))||(!(decide (t.2.2<n))))||(decide (t.1=t.2.1)))||(decide (t.2.1=t.2.2))))),(43,(Value.bool ((((((!(decide (t.1<n)))||(!(decide (t.2.1<n))))||(!(decide (t.2.2<n))))||(decide (t.1=t.2.1)))||(decide (t.2.1=t.2.2)))||(decide (t.2.2=t.1)))))]) (LM:=[Af b1 68 (AZ t),AK (some ⟨bo.b,0,none⟩) ([(vN n)])]) 6 ?_ ?_
 ·rcases Bool.eq_false_or_eq_true (((((!(decide (t.1<n)))||(!(decide (t.2.1<n))))||(!(decide (t.2.2<n))))||(decide (t.1=t.2.1)))||(decide (t.2.1=t.2.2))) with hg5|hg5
  ·skip
   refine AC.retell (k:=37) (u:=Value.bool true) O (by rw [hg5]) ?_
   have hg5':=hg5
   simp only [Bool.and_eq_true,Bool.or_eq_true,Bool.and_eq_false_iff,Bool.or_eq_false_iff,Bool.not_eq_true',Bool.not_eq_false',decide_eq_true_eq,decide_eq_false_iff_not] at hg5'
   exact AC.skip (AH O) O (Ad O) (AC.skip (AH O) O (Ad O) (AC.skip (AH O) O (Ad O) (AC.skip (AH O) O (Ad O) (AC.skip (AH O) O (Ad O) (AJ (v:=(Value.bool true)) (AW O O) O (AC.nil (OkQ.mid (sS O (sS O (sS O (sS O (sS O (sS O (sS O (sS O (sS O (sS O (sS O (sS O (sS O (sS O (sS O (sS O (sS (by first|rfl|(rw [hg5];rfl)|rw [hg5]) (sS (by first|rfl|(rw [hg5];rfl)|rw [hg5]) (sN))))))))))))))))))) (List.Sublist.refl _))))))))
  ·skip
   refine AC.retell (k:=37) (u:=Value.bool false) O (by rw [hg5]) ?_
   have hg5':=hg5
   simp only [Bool.and_eq_true,Bool.or_eq_true,Bool.and_eq_false_iff,Bool.or_eq_false_iff,Bool.not_eq_true',Bool.not_eq_false',decide_eq_true_eq,decide_eq_false_iff_not] at hg5'
   exact AC.step (v:=(pP b1 2)) (AA O) (AD (j:=2) O O underlying68 sizeOf3 O (by decide) O) O (Ad O) (AC.step (v:=(vN t.2.2)) (AA O) (AS (i:=0) (v:=(vN t.2.2)) O O BY.a O) O (Ad O) (AC.step (v:=(pP b1 0)) (AA O) (AD (j:=0) O O underlying68 sizeOf3 O (by decide) O) O (Ad O) (AC.step (v:=(vN t.1)) (AA O) (AS (i:=0) (v:=(vN t.1)) O O BY.a O) O (Ad O) (AC.step (v:=(Value.bool (decide (t.2.2=t.1)))) (AA O) (BQ (c:=(decide (t.2.2=t.1))) O O (JC (a:=t.2.2) (b:=t.1))) O (Ad O) (AJ (v:=(Value.bool (decide (t.2.2=t.1)))) (AT O O) O (AC.nil (OkQ.mid (sS O (sS O (sS O (sS O (sS O (sS O (sS O (sS O (sS O (sS O (sS O (sS O (sS O (sS O (sS O (sS O (sS (by first|rfl|(rw [hg5];rfl)|rw [hg5]) (sS (by first|rfl|(rw [hg5];rfl)|rw [hg5]) (sN))))))))))))))))))) (List.Sublist.refl _))))))))
 exact AI O (AC.nil (OkQ.subF (sL [3] O) (OkQ.then_ (AE.ret (AV O (Ah (v:=(Value.bool ((((((!(decide (t.1<n)))||(!(decide (t.2.1<n))))||(!(decide (t.2.2<n))))||(decide (t.1=t.2.1)))||(decide (t.2.1=t.2.2)))||(decide (t.2.2=t.1))))) O) (λw hw=>⟨by congr 2;rw [Bool.eq_iff_iff];simp [Py]<;>omega,hw.out⟩))))))
theorem Za (n:Nat) (bo:BX [vN n]) (ts:List (Tq3)) (x:RX (rowsL AZ ts) ts.length) (hl:ts.length<4611686018427387904) (w:World) {S:Nat->Prop} (hbo:Ro S w bo) (hx:Ro S w x):Calls prog 96 #[(Value.slice x.p ts.length x.c),(Value.func (.func 69) #[] #[(pP bo.b 0)])] w (A9 w (vI (idxB n ts 0))):=by
 have lbo:=Dk (W:=w) hbo
 have lx:=Dk (W:=w) hx
 refine An (args:=[(Value.slice x.p ts.length x.c),(Value.func (.func 69) #[] #[(pP bo.b 0)])]) (L:=[AK (some ⟨bo.b,0,none⟩) ([(vN n)]),AK x.p (rowsL AZ ts)]) func96 O O (Ad O) (E3 hbo (E3 hx BA)) (AE.subF (sL [0,1] O) (q4 (AI O (AC.nil (q1 (q4 (AM O (AJ (v:=(vN ts.length)) (AF O underlying28) O (AM O (AC.nil (OkQ.subF (sL [0,1,4,7,8] O) ?_)))))))))))
 refine OkQ.then_ (AE.block ?_)
 refine AE.lp1 (tg λ(j:Nat)=>j<=ts.length/\idxB n ts 0=idxB n (ts.drop j) j) (tg λ(j:Nat)=>[(0,(Value.slice x.p ts.length x.c)),(1,(Value.func (.func 69) #[] #[(pP bo.b 0)])),(7,(vN ts.length)),(8,(vN j))]) (tg λ(j:Nat)=>[AK (some ⟨bo.b,0,none⟩) ([(vN n)]),AK x.p (rowsL AZ ts)]) (tg λ(j:Nat)=>ts.length-j) 0 (⟨Nat.zero_le _,rfl⟩) (sF O) sr (λj hJ=>?_)
 obtain ⟨hj,he⟩:=hJ
 refine q4 (AJ (Ac (c:=(decide (j<ts.length))) O O (CD (a:=j) (b:=ts.length))) O (AC.nil (q1 ?_)))
 refine AE.cond O (λhc0=>?_) (λhc0=>?_)
 ·replace hc0:=of_decide_eq_true hc0
  refine AE.skip (q1 (AE.block (q4 (AM O (AI O (q3 (sL [0,1,7,8,5] O) (AM O (AM O (AM O (AJ (v:=(pP (pB x.p) (pO x.p+j*3))) (AG (j:=j) O O x.ok underlying28 sizeOf68 O Z) O (AJ (v:=(aG (AZ (ts.getD j ((0,0,0):Tq3))))) (Ak (vs:=AZ (ts.getD j ((0,0,0):Tq3))) (i:=1) O O (Aw.ne x.ok Z) Dj (BD Aa _ _ _ Z) (Aa _)) O ?_)))))))))))
  refine AC.call (v:=(Value.bool (!Py n (ts.getD j ((0,0,0):Tq3))))) (AP O) (Q6 (args:=[(aG (AZ (ts.getD j ((0,0,0):Tq3))))]) (caps:=[(pP bo.b 0)]) (all:=[(aG (AZ (ts.getD j ((0,0,0):Tq3)))),(pP bo.b 0)]) O O O call69) (λw hw=>VR (ts.getD j ((0,0,0):Tq3)) n bo w (Br hw 0 O lbo)) O (Ad O) (AC.nil (OkQ.subF (sL [0,1,7,8,5,16] O) (OkQ.then_ ?_)))
  refine AE.cond O (λhc1=>?_) (λhc1=>?_)
  ·simp only [Bool.and_eq_true,Bool.or_eq_true,Bool.and_eq_false_iff,Bool.or_eq_false_iff,Bool.not_eq_true',Bool.not_eq_false',decide_eq_true_eq,decide_eq_false_iff_not] at hc1
   have hfin:=he.trans (VT Z (by simpa using hc1))
   exact q4 (AM O (AI O (AC.nil (OkQ.subF (sL [0,1,7,8,5,4] O) (OkQ.then_ (AE.ret (OkQ.in_ret (OkQ.then_ret (OkQ.round1_ret (OkQ.in_ret (OkQ.then_ret (AV O (Ah (v:=(vN j)) O) (λw hw=>⟨by rw [hfin],hw.out⟩)))))))))))))
  ·simp only [Bool.and_eq_true,Bool.or_eq_true,Bool.and_eq_false_iff,Bool.or_eq_false_iff,Bool.not_eq_true',Bool.not_eq_false',decide_eq_true_eq,decide_eq_false_iff_not] at hc1
   exact AE.skip (OkQ.in_normal (OkQ.then_ (AE.region (AJ (AQ (c:=((j+1:Nat):Int)) O O (AN (a:=j) (b:=1) Z)) O (AM O (AC.nil (OkQ.subF (sL [0,1,7,8,5] O) (OkQ.round1 (j+1) (⟨Z,he.trans (SE Z (by simpa using hc1))⟩) Z (sF O) sr))))))))
 ·replace hc0:=of_decide_eq_false hc0
  have hfin:=he.trans (Uv hc0)
  exact AE.exit (OkQ.then_exit (OkQ.round1_exit (OkQ.in_exit (q2 (AI O (AC.nil (OkQ.then_ (AE.ret (AV O (Ah (v:=(vI (-1:Int))) O) (λw hw=>⟨by rw [hfin],hw.out⟩))))))))))
theorem XS (n:Nat) (bo:BX [vN n]) (ts:List (Tq3)) (x:RX (rowsL AZ ts) ts.length) (hl:ts.length<4611686018427387904) (w:World) {S:Nat->Prop} (hbo:Ro S w bo) (hx:Ro S w x):Calls prog 68 #[(Value.slice x.p ts.length x.c),(Value.func (.func 69) #[] #[(pP bo.b 0)])] w (A9 w (Value.bool (!BI n ts))):=by
 have lbo:=Dk (W:=w) hbo
 have lx:=Dk (W:=w) hx
 refine An (args:=[(Value.slice x.p ts.length x.c),(Value.func (.func 69) #[] #[(pP bo.b 0)])]) (L:=[AK (some ⟨bo.b,0,none⟩) ([(vN n)]),AK x.p (rowsL AZ ts)]) func68 O O (Ad O) (E3 hbo (E3 hx BA)) (AE.subF (sL [0,1] O) (q4 (AI O (AC.nil (q2 (AM O (AM O (DS call96 (λw hw=>Za n bo ts x hl w (Br hw 0 O lbo) (Br hw 1 O lx)) O (AJ (DR (c:=(!BI n ts)) O O (MP n ts 0)) O (AI O (AC.nil ?_)))))))))))
 exact OkQ.subF (sL [4] O) (OkQ.then_ (AE.ret (AV O (Ah (v:=(Value.bool (!BI n ts))) O) (λw hw=>⟨rfl,hw.out⟩))))
theorem R_ (n:Nat) (ts:List (Tq3)) (x:RX (rowsL AZ ts) ts.length) (hl:ts.length<4611686018427387904) (w:World) {S:Nat->Prop} (hx:Ro S w x):Calls prog 52 #[(Value.slice x.p ts.length x.c),(vN n)] w (A9 w (Value.bool (BI n ts))):=by
 have lx:=Dk (W:=w) hx
 refine An (args:=[(Value.slice x.p ts.length x.c),(vN n)]) (L:=[AK x.p (rowsL AZ ts)]) func52 O O (Ad O) (E3 hx BA) (AE.subF (sL [0,1] O) (q4 (Ca (cs:=[(vN n)]) O λb1=>AC.frzX 0 O O λhnb1=>AI O (q3 (sL [0,3,4] O) (AM O (AJ (v:=(Value.func (.func 69) #[] #[(pP b1 0)])) (PG (vs:=[]) (us:=[(pP b1 0)]) O O) O (DS call68 (λw hw=>XS n ⟨b1⟩ ts x hl w (eM (x:=(⟨b1⟩:BX [vN n])) hw 0 O hnb1) (Br hw 1 O lx)) O (AJ (Bj (c:=(!(!BI n ts))) O O) O (AI O ?_)))))))))
 exact AC.nil (OkQ.subF (sL [4] O) (OkQ.then_ (AE.ret (AV O (Ah (v:=(Value.bool (!(!BI n ts)))) O) (λw hw=>⟨by simp,hw.out⟩)))))
theorem Jc {ps:List Pt} {ts ss:List (Tq3)} (x:MX ps ts ss) (hl:ts.length<4611686018427387904) (w:World) {S:Nat->Prop} (hx:Ro S w x):Calls prog 35 #[(aG (Bp x))] w (A9 w (Value.bool (BI ps.length ts))):=by
 have lx:=Dk (W:=w) hx
 refine An (args:=[(aG (Bp x))]) (L:=[AK x.a.p (rowsL Bf ps),AK x.b.p (rowsL AZ ts),AK x.c.p (rowsL AZ ss)]) func35 O O (Ad O) (E3 hx BA) (AE.subF (sL [0] O) (q4 (Ca (cs:=Bp x) O λb1=>AI O (q3 (sL [1,2] O) (AJ (v:=(pP b1 1)) (AB O underlying31 O sizeOf28 O) O (BE 0 (Value.slice x.b.p ts.length x.b.c) Bl O (AJ (v:=(pP b1 0)) (AB O underlying31 O sizeOf27 O) O (BE 0 (Value.slice x.a.p ps.length x.a.c) Zj O (AJ (v:=(vN ps.length)) (AF O underlying27) O (DS call52 (λw hw=>R_ ps.length ts x.b hl w (Zi (Br hw 1 O lx))) O ?_))))))))))
 exact AI O (AC.nil (OkQ.subF (sL [2] O) (OkQ.then_ (AE.ret (AV O (Ah (v:=(Value.bool (BI ps.length ts))) O) (λw hw=>⟨rfl,hw.out⟩))))))
end
section
set_option maxRecDepth 100000
theorem Uy (a:Nat) (w:World)  :Calls prog 82 #[(vN a)] w (A9 w (Value.bool false)):=by
 refine Aq (args:=[(vN a)]) func82 O O (Ad O) (AE.subF (sL [0] O) (q4 (AI O (AC.nil (q2 (AM O (AM O (AJ (Cv (c:=false) O O (by simp)) O (AI O (AC.nil (OkQ.subF (sL [2] O) ?_)))))))))))
 exact OkQ.then_ (AE.ret (AV O (Ah (v:=(Value.bool false)) O) (λw hw=>⟨rfl,hw.out⟩)))
theorem NM (a b:Nat) (w:World)  :Calls prog 62 #[(vN a),(vN b)] w (A9 w (vI (D1 a b))):=by
 refine Aq (args:=[(vN a),(vN b)]) func62 O O (Ad O) (AE.subF (sL [0,1] O) (q4 (AI O (AC.nil (q2 (AM O (ck' call82 (Uy a) O (AI O (q3 (sL [0,1,4,5] O) (AM O (ck' call82 (Uy b) O ?_)))))))))))
 refine AI O (q6 (sL [0,1,4,5,6] O) (q4 (AM O (AC.nil (OkQ.subF (sL [0,1,4,6,11] O) (OkQ.then_ (AE.cond_false O (AE.skip (q1 (q4 (AM O ?_)))))))))))
 refine AC.nil (OkQ.subF (sL [0,1,4,6,13] O) (OkQ.then_ (AE.cond_false O (AE.skip (q1 (q4 (AM O (AM O (AJ (Ac (c:=(decide (a<b))) O O (CD (a:=a) (b:=b))) O (AC.nil (OkQ.subF (sL [0,1,4,6,16] O) ?_)))))))))))
 refine OkQ.then_ ?_
 refine AE.cond O (λhc3=>?_) (λhc3=>?_)
 ·replace hc3:=of_decide_eq_true hc3
  have hr:=RT hc3
  exact q4 (AI O (AC.nil (OkQ.then_ (AE.ret (OkQ.then_ret (AV O (Ah (v:=(vI (-1:Int))) O) (λw hw=>⟨by rw [hr]<;>rfl,hw.out⟩)))))))
 ·replace hc3:=of_decide_eq_false hc3
  refine AE.skip (q1 (q4 (AM O (AM O (AJ (CY (c:=(decide (b<a))) O O (CD (a:=b) (b:=a))) O (AC.nil (OkQ.subF (sL [0,1,4,6,19] O) (OkQ.then_ ?_))))))))
  refine AE.cond O (λhc4=>?_) (λhc4=>?_)
  ·replace hc4:=of_decide_eq_true hc4
   have hr:=RE hc3 hc4
   exact q4 (AI O (AC.nil (OkQ.then_ (AE.ret (OkQ.then_ret (AV O (Ah (v:=(vI 1)) O) (λw hw=>⟨by rw [hr]<;>rfl,hw.out⟩)))))))
  ·replace hc4:=of_decide_eq_false hc4
   have hr:=Q9 hc3 hc4
   exact AE.skip (q2 (AI O (AC.nil (OkQ.then_ (AE.ret (AV O (Ah (v:=(vI 0)) O) (λw hw=>⟨by rw [hr]<;>rfl,hw.out⟩)))))))
theorem UU (a b:Int) (g:Nat) (w:World) (hg:w.heap[g]?=some (.cells ([(vI a),(vI b)]).toArray 3 (0,0))):Calls prog 85 #[(Value.slice (some ⟨g,0,none⟩) 2 2)] w (λe w'=>e=.returned (Value.int .i64 (WD a b))/\Lz w w' (some g)/\w'.heap[g]?=some (.cells ([(vI a),(vI b)]).toArray 3 (0,0))):=by
 refine Io (args:=[(Value.slice (some ⟨g,0,none⟩) 2 2)]) (g:=g) (T:=3) (cs:=[(vI a),(vI b)]) func85 O O (Ad O) hg (AE.subF (sL [0] O) (q4 (AI O (AC.nil (q2 (AI O (AC.nil (q1 (q4 (AM O (AJ (v:=(vI 2)) (AF O underlying86) O ?_)))))))))))
 refine AM O (AC.nil (OkQ.subF (sL [2,3,6,7,8] O) (OkQ.then_ (AE.block (AE.unroll 4 (Fr.step (q4 (AJ (Ac (c:=true) O O (by decide)) O (AC.nil (q1 (AE.cond_true O ?_)))))))))))
 refine AE.skip (q1 (AE.block (q4 (AJ (v:=(pP g 0)) (AO (j:=0) O O underlying86 sizeOf3 O Z O) O (BE 0 (vI a) BY O (AI O (q3 (sL [2,3,6,7,8,5] O) (AM O (AM O (AJ (Cv (c:=(decide (a≠(0:Int)))) O O O) O (AC.nil ?_)))))))))))
 refine OkQ.subF (sL [2,3,6,7,8,5,14] O) (OkQ.then_ ?_)
 refine AE.cond O (λhc1=>?_) (λhc1=>?_)
 ·replace hc1:=of_decide_eq_true hc1
  have hr:WD a b=a:=if_pos hc1
  exact q4 (AM O (AI O (AC.nil (OkQ.subF (sL [2,3,6,7,8,5] O) (OkQ.then_ (AE.ret (OkQ.in_ret (OkQ.then_ret (OkQ.then_ret (OkQ.in_ret (OkQ.then_ret (AV O (Ah (v:=(vI a)) O) (λw hw=>⟨by rw [hr]<;>rfl,hw.1,hw.get (i:=0) O⟩)))))))))))))
 ·replace hc1:=of_decide_eq_false hc1
  have hq:=hc1
  refine AE.skip (OkQ.in_normal (OkQ.then_ (AE.region (AJ (AQ (c:=(1:Int)) O O (by decide)) O (AM O (AC.nil (OkQ.subF (sL [2,3,6,7,8,5] O) (OkQ.again (Fr.step (q4 (AJ (Ac (c:=true) O O (by decide)) O ?_)))))))))))
  refine AC.nil (q1 (AE.cond_true O (AE.skip (q1 (AE.block (q4 (AJ (v:=(pP g 1)) (AO (j:=1) O O underlying86 sizeOf3 O Z O) O (BE 0 (vI b) BY O (AI O (q3 (sL [2,3,6,7,8,5] O) (AM O ?_)))))))))))
  refine AM O (AJ (Cv (c:=(decide (b≠(0:Int)))) O O O) O (AC.nil (OkQ.subF (sL [2,3,6,7,8,5,14] O) (OkQ.then_ ?_))))
  refine AE.cond O (λhc1=>?_) (λhc1=>?_)
  ·replace hc1:=of_decide_eq_true hc1
   have hr:WD a b=b:=by rw [WD,if_neg hq,if_pos hc1]
   exact q4 (AM O (AI O (AC.nil (OkQ.subF (sL [2,3,6,7,8,5] O) (OkQ.then_ (AE.ret (OkQ.in_ret (OkQ.then_ret (OkQ.then_ret (OkQ.in_ret (OkQ.then_ret (AV O (Ah (v:=(vI b)) O) (λw hw=>⟨by rw [hr]<;>rfl,hw.1,hw.get (i:=0) O⟩)))))))))))))
  ·replace hc1:=of_decide_eq_false hc1
   have hr:WD a b=0:=by rw [WD,if_neg hq,if_neg hc1]
   refine AE.skip (OkQ.in_normal (OkQ.then_ (AE.region (AJ (AQ (c:=(2:Int)) O O (by decide)) O (AM O (AC.nil (OkQ.subF (sL [2,3,6,7,8,5] O) (OkQ.again (Fr.step (q4 (AJ (Ac (c:=false) O O (by decide)) O ?_)))))))))))
   refine AC.nil (q1 (AE.cond_false O (AE.exit (OkQ.then_exit (OkQ.then_exit (OkQ.in_exit (q2 (AM O (AI O (AC.nil (OkQ.subF (sL [2,3,6,7,8,5] O) ?_)))))))))))
   exact OkQ.then_ (AE.ret (AV O (Ah (v:=(vI 0)) O) (λw hw=>⟨by rw [hr]<;>rfl,hw.1,hw.get (i:=0) O⟩)))
end
end Go.Proofs.YtpgncndhhhllfaaGreat
