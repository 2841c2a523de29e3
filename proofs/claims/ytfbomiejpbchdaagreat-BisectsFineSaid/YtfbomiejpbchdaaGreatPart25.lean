import Derived.Test.YtfbomiejpbchdaaGreatPart06
import Derived.Test.YtfbomiejpbchdaaGreatPart08
import Derived.Test.YtfbomiejpbchdaaGreatPart24
namespace Go.Proofs.YtfbomiejpbchdaaGreat
open Go Go.RowKit Go.Proofs.Tryz
set_option linter.unusedVariables false
set_option linter.unusedSimpArgs false
section
structure MX (ps:List Pt) (ts ss:List (Nat×Nat×Nat)) where
  a:RX (rowsL Aj ps) ps.length
  b:RX (rowsL An ts) ts.length
  c:RX (rowsL An ss) ss.length
def Bk {ps:List Pt} {ts ss:List (Nat×Nat×Nat)} (x:MX ps ts ss):List Value:=[x.a.val,x.b.val,x.c.val]
theorem ZF {ps:List Pt} {ts ss:List (Nat×Nat×Nat)} {x:MX ps ts ss} {y:As} (hy:y∈[x.a.row,x.b.row,x.c.row]):y.ro=true:=by
  simp only [List.mem_cons,List.not_mem_nil,or_false] at hy
  rcases hy with rfl|rfl|rfl<;>rfl
instance {ps:List Pt} {ts ss:List (Nat×Nat×Nat)}:EQ (MX ps ts ss):=⟨λx=>aG (Bk x),λx=>[x.a.row,x.b.row,x.c.row],λx y hy=>ZF hy⟩
def MG.mx (g:MG):MX g.ps g.ts g.ss:=⟨g.a,g.b,g.c⟩
structure BX (cs:List Value) where
  b:Nat
instance {cs:List Value}:EQ (BX cs):=⟨λx=>pP x.b 0,λx=>[AZ (some ⟨x.b,0,none⟩) cs],λx y hy=>by rcases List.mem_singleton.1 hy with rfl;rfl⟩
theorem Io {b:Nat} {T:TypeId} {cs:List Value} {o:Obj} (h:(Af b T cs).P o):(AZ (some ⟨b,0,none⟩) cs).P o:=⟨cs.toArray,T,(0,0),h,by show (cs.toArray.toList.drop 0).take cs.length=cs;simp⟩
section
variable {S:Nat->Prop} {w W:World} {w0:BM} {L:List As} {ps:List Pt} {ts ss:List (Nat×Nat×Nat)} {cs:List Value}
theorem Zd {x:MX ps ts ss} (h:Ro S w x):Ro S w x.a:=λy hy=>by rcases List.mem_singleton.1 hy with rfl;exact h _ List.mem_cons_self
theorem Vj {x:MX ps ts ss} (h:Ro S w x):Ro S w x.b:=λy hy=>by rcases List.mem_singleton.1 hy with rfl;exact h _ (List.mem_cons_of_mem _ List.mem_cons_self)
theorem VG (hw:Own w0 w L) (i:Nat) {x:BX cs} (hi:L[i]?=some (AZ (some ⟨x.b,0,none⟩) cs)) (hb:w0.w.heap.size<=x.b):Ro (SL w0 S L) w x:=λy hy=>by
  rcases List.mem_singleton.1 hy with rfl
  exact ⟨hw.holds hi,λc e=>⟨⟨_,List.mem_of_getElem? hi,rfl,e⟩,.inl (by injection e with e;rw [<-e];exact hb)⟩⟩
end
section
variable {P:Program} {ops:Array Oper} {rest:List Oper} {Q:Exit->Act->World->Prop} {n d:Nat} {F:List (Nat×Value)} {w0:BM} {S:Nat->Prop} {L:List As} {t:TypeId} {p:String} {af:Array Edge} {y:Operand} {f:FuncId} {xs:List Operand} {args:List Value} {ts:Array TypeId}
theorem AE.frzX (i:Nat) {b:Nat} {T:TypeId} {cs:List Value} (hi:L[i]?=some (Af b T cs)) (hex:w0.ex=none) (next:w0.w.heap.size<=b->AE P ops rest Q n F w0 (L.set i (AZ (some ⟨b,0,none⟩) cs))):AE P ops rest Q n F w0 L:=λa w ha hw=>by
  refine next ?_ a w ha (hw.freeze hi O (λo hp=>Io hp) (λe=>by cases e))
  rcases (hw.2.1 _ (List.mem_of_getElem? hi) b rfl).1 with h1|h1|h1
  · cases h1
  · exact h1
  · rw [hex] at h1;cases h1
end
def MV (n:Nat) (t:Nat×Nat×Nat):Bool:=decide (t.1<n)&&decide (t.2.1<n)&&decide (t.2.2<n)&&!decide (t.1=t.2.1)&&!decide (t.2.1=t.2.2)&&!decide (t.2.2=t.1)
def CN (n:Nat) (ts:List (Nat×Nat×Nat)):Bool:=ts.all (MV n)
theorem RN {ps:List Pt} {ts:List (Nat×Nat×Nat)} (h:F0 ps ts):CN ps.length ts=true:=List.all_eq_true.2 λt ht=>by
  obtain ⟨j,hj,rfl⟩:=List.getElem_of_mem ht
  have k:=h.tri j hj
  rw [show ts.getD j (0,0,0)=ts[j] by rw [List.getD,List.getElem?_eq_getElem hj];rfl] at k
  simp [MV,k.a,k.b,k.c,k.ab,k.bc,k.ca]
theorem CU {n:Nat} {ts:List (Nat×Nat×Nat)} (h:CN n ts=true) {j:Nat} (hj:j<ts.length):MV n (ts.getD j (0,0,0))=true:=by
  rw [List.getD,List.getElem?_eq_getElem hj]
  exact List.all_eq_true.1 h _ (List.getElem_mem hj)
theorem C4 {n:Nat} {t:Nat×Nat×Nat} (h:MV n t=true):t.1<n/\t.2.1<n/\t.2.2<n:=by
  simp [MV] at h;omega
def idxB (n:Nat):List (Nat×Nat×Nat)->Nat->Int
  | [],_ => -1
  | t::r,i=>if MV n t=true then idxB n r (i+1) else (i:Int)
theorem NX {α:Type} {ts:List α} {d:α} {j:Nat} (hj:j<ts.length):ts.drop j=ts.getD j d::ts.drop (j+1):=by
  rw [List.drop_eq_getElem_cons hj,List.getD,List.getElem?_eq_getElem hj];rfl
theorem R6 {n:Nat} {ts:List (Nat×Nat×Nat)} {j:Nat} (hj:j<ts.length) (h:MV n (ts.getD j (0,0,0))=true):idxB n (ts.drop j) j=idxB n (ts.drop (j+1)) (j+1):=by
  rw [NX (d:=(0,0,0)) hj];exact if_pos h
theorem Uc {n:Nat} {ts:List (Nat×Nat×Nat)} {j:Nat} (hj:j<ts.length) (h:MV n (ts.getD j (0,0,0))=false):idxB n (ts.drop j) j=(j:Int):=by
  rw [NX (d:=(0,0,0)) hj];exact if_neg (by rw [h];exact Bool.false_ne_true)
theorem Us {n:Nat} {ts:List (Nat×Nat×Nat)} {j:Nat} (hj:¬j<ts.length):idxB n (ts.drop j) j = -1:=by
  rw [List.drop_of_length_le Z];rfl
theorem Mb (n:Nat):∀(ts:List (Nat×Nat×Nat)) (i:Nat),decide (0<=idxB n ts i)=!CN n ts
  | [],i=>rfl
  | t::r,i=>by
    unfold idxB CN
    rw [List.all_cons]
    cases h:MV n t with
    | true=>rw [if_pos rfl,Bool.true_and];exact Mb n r (i+1)
    | false=>rw [if_neg Bool.false_ne_true,Bool.false_and];simp
def cor (ps:List Pt) (k:Nat):Pt:=ps.getD k ⟨0,0⟩
def FP (a b c p:Pt):Nat:=if AJ a b c=0 then 0 else GG (AJ p b c/AJ a b c) (AJ a p c/AJ a b c) (AJ a b p/AJ a b c)
def KL (ps:List Pt) (q:Pt) (t:Nat×Nat×Nat):Nat:=FP (cor ps t.1) (cor ps t.2.1) (cor ps t.2.2) q
end
section
set_option maxRecDepth 100000
theorem DP (p n:Nat) (w:World)  :Calls prog 61 #[(vN p),(vN n)] w (Av w (Value.bool (decide (p<n)))):=by
 refine Ag (args:=[(vN p),(vN n)]) func61 O O (Ab O) (AF.subF (sL [0,1] O) (q4 (AO O (AE.nil (q2 ?_)))))
 refine AR O (AI (DD (c:=(decide (0<=p))) O O (W_ (a:=0) (b:=p))) O (AR O ?_))
 refine AE.mid (FM:=[(0,(vN p)),(1,(vN n)),(4,(Value.bool false)),(5,(vN p)),(6,(Value.bool (decide (0<=p)))),(7,(Value.bool (decide (0<=p)))),(11,(Value.bool ((decide (0<=p))&&(decide (p<n)))))]) (LM:=[]) 4 ?_ ?_
 ·rcases Bool.eq_false_or_eq_true (decide (0<=p)) with hg1|hg1
  ·skip
   refine AE.retell (k:=7) (u:=Value.bool true) O (by rw [hg1]) ?_
   have hg1':=hg1
   replace hg1':=of_decide_eq_true hg1'
   exact AE.step (v:=(vN p)) (AB O) (BA O) O (Ab O) (AE.step (v:=(vN n)) (AB O) (BA O) O (Ab O) (AE.step (v:=(Value.bool (decide (p<n)))) (AB O) (Am (c:=(decide (p<n))) O O (C6 (a:=p) (b:=n))) O (Ab O) (AI (v:=(Value.bool (decide (p<n)))) (Ah O O) O (AE.nil (AC.mid (sS O (sS O (sS O (sS O (sS O (sS (by first|rfl|(rw [hg1];rfl)|rw [hg1]) (sS (by first|rfl|(rw [hg1];rfl)|rw [hg1]) (sN)))))))) (List.Sublist.refl _))))))
  ·skip
   refine AE.retell (k:=7) (u:=Value.bool false) O (by rw [hg1]) ?_
   have hg1':=hg1
   replace hg1':=of_decide_eq_false hg1'
   exact AE.skip (AL O) O (Ab O) (AE.skip (AL O) O (Ab O) (AE.skip (AL O) O (Ab O) (AI (v:=(Value.bool false)) (AS O O) O (AE.nil (AC.mid (sS O (sS O (sS O (sS O (sS O (sS (by first|rfl|(rw [hg1];rfl)|rw [hg1]) (sS (by first|rfl|(rw [hg1];rfl)|rw [hg1]) (sN)))))))) (List.Sublist.refl _))))))
 exact AO O (AE.nil (AC.subF (sL [4] O) (AC.then_ (AF.ret (AT O (Ak (v:=(Value.bool ((decide (0<=p))&&(decide (p<n))))) O) (λw hw=>⟨by simp,hw.out⟩))))))
theorem Sl (t:Nat×Nat×Nat) (n:Nat) (bo:BX [vN n]) (w:World) {S:Nat->Prop} (hbo:Ro S w bo):Calls prog 171 #[(aG (An t)),(pP bo.b 0)] w (Av w (Value.bool (!MV n t))):=by
 have lbo:=EA (W:=w) hbo
 refine BF (args:=[(aG (An t)),(pP bo.b 0)]) (L:=[AZ (some ⟨bo.b,0,none⟩) ([(vN n)])]) func171 O O (Ab O) (EB hbo BR) (AF.subF (sL [0,1] O) (q4 (Bo (cs:=An t) O λb1=>AO O (q3 (sL [1,2,3] O) ?_))))
 refine AI (v:=(pP b1 0)) (AD (j:=0) O O underlying76 sizeOf3 O (by decide) O) O (BK 0 (vN t.1) Bm O (AI (Ai (q:=some ⟨bo.b,0,none⟩) (v:=(vN n)) (off:=0) (i:=1) O O (λe=>by cases e) Bm O) O (BW call61 (DP t.1 n) O (AI (Bg (c:=(!(decide (t.1<n)))) O O) O (AR O ?_)))))
 refine AE.mid (FM:=[(1,(pP bo.b 0)),(2,(pP b1 0)),(3,(Value.bool false)),(4,(pP b1 0)),(5,(vN t.1)),(6,(vN n)),(7,(Value.bool (decide (t.1<n)))),(8,(Value.bool (!(decide (t.1<n))))),(9,(Value.bool (!(decide (t.1<n))))),(15,(Value.bool ((!(decide (t.1<n)))||(!(decide (t.2.1<n))))))]) (LM:=[Af b1 76 (An t),AZ (some ⟨bo.b,0,none⟩) ([(vN n)])]) 6 ?_ ?_
 ·rcases Bool.eq_false_or_eq_true (!(decide (t.1<n))) with hg1|hg1
  ·skip
   refine AE.retell (k:=9) (u:=Value.bool true) O (by rw [hg1]) ?_
   have hg1':=hg1
   simp only [Bool.and_eq_true,Bool.or_eq_true,Bool.and_eq_false_iff,Bool.or_eq_false_iff,Bool.not_eq_true',Bool.not_eq_false',decide_eq_true_eq,decide_eq_false_iff_not] at hg1'
   refine AE.skip (AL O) O (Ab O) (AE.skip (AL O) O (Ab O) (AE.skip (AL O) O (Ab O) (AE.skip (AL O) O (Ab O) (AE.skip (AL O) O (Ab O) (AI (v:=(Value.bool true)) (Ah O O) O ?_)))))
   exact AE.nil (AC.mid (sS O (sS O (sS O (sS O (sS O (sS O (sS O (sS O (sS (by first|rfl|(rw [hg1];rfl)|rw [hg1]) (sS (by first|rfl|(rw [hg1];rfl)|rw [hg1]) (sN))))))))))) (List.Sublist.refl _))
  ·skip
   refine AE.retell (k:=9) (u:=Value.bool false) O (by rw [hg1]) ?_
   have hg1':=hg1
   simp only [Bool.and_eq_true,Bool.or_eq_true,Bool.and_eq_false_iff,Bool.or_eq_false_iff,Bool.not_eq_true',Bool.not_eq_false',decide_eq_true_eq,decide_eq_false_iff_not] at hg1'
   refine AE.step (v:=(pP b1 1)) (AB O) (AD (j:=1) O O underlying76 sizeOf3 O (by decide) O) O (Ab O) (AE.step (v:=(vN t.2.1)) (AB O) (AK (i:=0) (v:=(vN t.2.1)) O O Bm.a O) O (Ab O) (AE.step (v:=(vN n)) (AB O) (Ai (q:=some ⟨bo.b,0,none⟩) (v:=(vN n)) (off:=0) (i:=1) O O (λe=>by cases e) Bm O) O (Ab O) (AE.call (v:=(Value.bool (decide (t.2.1<n)))) (AB O) (A8 (args:=[(vN t.2.1),(vN n)]) O O call61) (λw hw=>DP t.2.1 n w) O (Ab O) (AE.step (v:=(Value.bool (!(decide (t.2.1<n))))) (AB O) (Bg (c:=(!(decide (t.2.1<n)))) O O) O (Ab O) (AI (v:=(Value.bool (!(decide (t.2.1<n))))) (AS O O) O ?_)))))
   exact AE.nil (AC.mid (sS O (sS O (sS O (sS O (sS O (sS O (sS O (sS O (sS (by first|rfl|(rw [hg1];rfl)|rw [hg1]) (sS (by first|rfl|(rw [hg1];rfl)|rw [hg1]) (sN))))))))))) (List.Sublist.refl _))
 refine AR O ?_
 refine AE.mid (FM:=[(1,(pP bo.b 0)),(2,(pP b1 0)),(3,(Value.bool false)),(4,(pP b1 0)),(5,(vN t.1)),(6,(vN n)),(7,(Value.bool (decide (t.1<n)))),(8,(Value.bool (!(decide (t.1<n))))),(9,(Value.bool (!(decide (t.1<n))))),(15,(Value.bool ((!(decide (t.1<n)))||(!(decide (t.2.1<n)))))),(16,(Value.bool ((!(decide (t.1<n)))||(!(decide (t.2.1<n)))))),(22,(Value.bool (((!(decide (t.1<n)))||(!(decide (t.2.1<n))))||(!(decide (t.2.2<n))))))]) (LM:=[Af b1 76 (An t),AZ (some ⟨bo.b,0,none⟩) ([(vN n)])]) 6 ?_ ?_
 ·rcases Bool.eq_false_or_eq_true ((!(decide (t.1<n)))||(!(decide (t.2.1<n)))) with hg2|hg2
  ·skip
   refine AE.retell (k:=16) (u:=Value.bool true) O (by rw [hg2]) ?_
   have hg2':=hg2
   simp only [Bool.and_eq_true,Bool.or_eq_true,Bool.and_eq_false_iff,Bool.or_eq_false_iff,Bool.not_eq_true',Bool.not_eq_false',decide_eq_true_eq,decide_eq_false_iff_not] at hg2'
   refine AE.skip (AL O) O (Ab O) (AE.skip (AL O) O (Ab O) (AE.skip (AL O) O (Ab O) (AE.skip (AL O) O (Ab O) (AE.skip (AL O) O (Ab O) (AI (v:=(Value.bool true)) (Ah O O) O ?_)))))
   exact AE.nil (AC.mid (sS O (sS O (sS O (sS O (sS O (sS O (sS O (sS O (sS O (sS O (sS (by first|rfl|(rw [hg2];rfl)|rw [hg2]) (sS (by first|rfl|(rw [hg2];rfl)|rw [hg2]) (sN))))))))))))) (List.Sublist.refl _))
  ·skip
   refine AE.retell (k:=16) (u:=Value.bool false) O (by rw [hg2]) ?_
   have hg2':=hg2
   simp only [Bool.and_eq_true,Bool.or_eq_true,Bool.and_eq_false_iff,Bool.or_eq_false_iff,Bool.not_eq_true',Bool.not_eq_false',decide_eq_true_eq,decide_eq_false_iff_not] at hg2'
   refine AE.step (v:=(pP b1 2)) (AB O) (AD (j:=2) O O underlying76 sizeOf3 O (by decide) O) O (Ab O) (AE.step (v:=(vN t.2.2)) (AB O) (AK (i:=0) (v:=(vN t.2.2)) O O Bm.a O) O (Ab O) (AE.step (v:=(vN n)) (AB O) (Ai (q:=some ⟨bo.b,0,none⟩) (v:=(vN n)) (off:=0) (i:=1) O O (λe=>by cases e) Bm O) O (Ab O) (AE.call (v:=(Value.bool (decide (t.2.2<n)))) (AB O) (A8 (args:=[(vN t.2.2),(vN n)]) O O call61) (λw hw=>DP t.2.2 n w) O (Ab O) (AE.step (v:=(Value.bool (!(decide (t.2.2<n))))) (AB O) (Bg (c:=(!(decide (t.2.2<n)))) O O) O (Ab O) (AI (v:=(Value.bool (!(decide (t.2.2<n))))) (AS O O) O ?_)))))
   exact AE.nil (AC.mid (sS O (sS O (sS O (sS O (sS O (sS O (sS O (sS O (sS O (sS O (sS (by first|rfl|(rw [hg2];rfl)|rw [hg2]) (sS (by first|rfl|(rw [hg2];rfl)|rw [hg2]) (sN))))))))))))) (List.Sublist.refl _))
 refine AR O ?_
 refine AE.mid (FM:=[(1,(pP bo.b 0)),(2,(pP b1 0)),(3,(Value.bool false)),(4,(pP b1 0)),(5,(vN t.1)),(6,(vN n)),(7,(Value.bool (decide (t.1<n)))),(8,(Value.bool (!(decide (t.1<n))))),(9,(Value.bool (!(decide (t.1<n))))),(15,(Value.bool ((!(decide (t.1<n)))||(!(decide (t.2.1<n)))))),(16,(Value.bool ((!(decide (t.1<n)))||(!(decide (t.2.1<n)))))),(22,(Value.bool (((!(decide (t.1<n)))||(!(decide (t.2.1<n))))||(!(decide (t.2.2<n)))))),(23,(Value.bool (((!(decide (t.1<n)))||(!(decide (t.2.1<n))))||(!(decide (t.2.2<n)))))),(29,(Value.bool ((((!(decide (t.1<n)))||(!(decide (t.2.1<n))))||(!(decide (t.2.2<n))))||(decide (t.1=t.2.1)))))]) (LM:=[Af b1 76 (An t),AZ (some ⟨bo.b,0,none⟩) ([(vN n)])]) 6 ?_ ?_
 ·rcases Bool.eq_false_or_eq_true (((!(decide (t.1<n)))||(!(decide (t.2.1<n))))||(!(decide (t.2.2<n)))) with hg3|hg3
  ·skip
   refine AE.retell (k:=23) (u:=Value.bool true) O (by rw [hg3]) ?_
   have hg3':=hg3
   simp only [Bool.and_eq_true,Bool.or_eq_true,Bool.and_eq_false_iff,Bool.or_eq_false_iff,Bool.not_eq_true',Bool.not_eq_false',decide_eq_true_eq,decide_eq_false_iff_not] at hg3'
   refine AE.skip (AL O) O (Ab O) (AE.skip (AL O) O (Ab O) (AE.skip (AL O) O (Ab O) (AE.skip (AL O) O (Ab O) (AE.skip (AL O) O (Ab O) (AI (v:=(Value.bool true)) (Ah O O) O ?_)))))
   exact AE.nil (AC.mid (sS O (sS O (sS O (sS O (sS O (sS O (sS O (sS O (sS O (sS O (sS O (sS O (sS (by first|rfl|(rw [hg3];rfl)|rw [hg3]) (sS (by first|rfl|(rw [hg3];rfl)|rw [hg3]) (sN))))))))))))))) (List.Sublist.refl _))
  ·skip
   refine AE.retell (k:=23) (u:=Value.bool false) O (by rw [hg3]) ?_
   have hg3':=hg3
   simp only [Bool.and_eq_true,Bool.or_eq_true,Bool.and_eq_false_iff,Bool.or_eq_false_iff,Bool.not_eq_true',Bool.not_eq_false',decide_eq_true_eq,decide_eq_false_iff_not] at hg3'
   refine AE.step (v:=(pP b1 0)) (AB O) (AD (j:=0) O O underlying76 sizeOf3 O (by decide) O) O (Ab O) (AE.step (v:=(vN t.1)) (AB O) (AK (i:=0) (v:=(vN t.1)) O O Bm.a O) O (Ab O) (AE.step (v:=(pP b1 1)) (AB O) (AD (j:=1) O O underlying76 sizeOf3 O (by decide) O) O (Ab O) (AE.step (v:=(vN t.2.1)) (AB O) (AK (i:=0) (v:=(vN t.2.1)) O O Bm.a O) O (Ab O) (AE.step (v:=(Value.bool (decide (t.1=t.2.1)))) (AB O) (BS (c:=(decide (t.1=t.2.1))) O O (Ot (a:=t.1) (b:=t.2.1))) O (Ab O) (AI (v:=(Value.bool (decide (t.1=t.2.1)))) (AS O O) O ?_)))))
   exact AE.nil (AC.mid (sS O (sS O (sS O (sS O (sS O (sS O (sS O (sS O (sS O (sS O (sS O (sS O (sS (by first|rfl|(rw [hg3];rfl)|rw [hg3]) (sS (by first|rfl|(rw [hg3];rfl)|rw [hg3]) (sN))))))))))))))) (List.Sublist.refl _))
 refine AR O ?_
 refine AE.mid (FM:=[(1,(pP bo.b 0)),(2,(pP b1 0)),(3,(Value.bool false)),(4,(pP b1 0)),(5,(vN t.1)),(6,(vN n)),(7,(Value.bool (decide (t.1<n)))),(8,(Value.bool (!(decide (t.1<n))))),(9,(Value.bool (!(decide (t.1<n))))),(15,(Value.bool ((!(decide (t.1<n)))||(!(decide (t.2.1<n)))))),(16,(Value.bool ((!(decide (t.1<n)))||(!(decide (t.2.1<n)))))),(22,(Value.bool (((!(decide (t.1<n)))||(!(decide (t.2.1<n))))||(!(decide (t.2.2<n)))))),(23,(Value.bool (((!(decide (t.1<n)))||(!(decide (t.2.1<n))))||(!(decide (t.2.2<n)))))),(29,(Value.bool ((((!(decide (t.1<n)))||(!(decide (t.2.1<n))))||(!(decide (t.2.2<n))))||(decide (t.1=t.2.1))))),(30,(Value.bool ((((!(decide (t.1<n)))||(!(decide (t.2.1<n))))||(!(decide (t.2.2<n))))||(decide (t.1=t.2.1))))),(36,(Value.bool (((((!(decide (t.1<n)))||(!(decide (t.2.1<n))))||(!(decide (t.2.2<n))))||(decide (t.1=t.2.1)))||(decide (t.2.1=t.2.2)))))]) (LM:=[Af b1 76 (An t),AZ (some ⟨bo.b,0,none⟩) ([(vN n)])]) 6 ?_ ?_
 ·rcases Bool.eq_false_or_eq_true ((((!(decide (t.1<n)))||(!(decide (t.2.1<n))))||(!(decide (t.2.2<n))))||(decide (t.1=t.2.1))) with hg4|hg4
  ·skip
   refine AE.retell (k:=30) (u:=Value.bool true) O (by rw [hg4]) ?_
   have hg4':=hg4
   simp only [Bool.and_eq_true,Bool.or_eq_true,Bool.and_eq_false_iff,Bool.or_eq_false_iff,Bool.not_eq_true',Bool.not_eq_false',decide_eq_true_eq,decide_eq_false_iff_not] at hg4'
   refine AE.skip (AL O) O (Ab O) (AE.skip (AL O) O (Ab O) (AE.skip (AL O) O (Ab O) (AE.skip (AL O) O (Ab O) (AE.skip (AL O) O (Ab O) (AI (v:=(Value.bool true)) (Ah O O) O ?_)))))
   exact AE.nil (AC.mid (sS O (sS O (sS O (sS O (sS O (sS O (sS O (sS O (sS O (sS O (sS O (sS O (sS O (sS O (sS (by first|rfl|(rw [hg4];rfl)|rw [hg4]) (sS (by first|rfl|(rw [hg4];rfl)|rw [hg4]) (sN))))))))))))))))) (List.Sublist.refl _))
  ·skip
   refine AE.retell (k:=30) (u:=Value.bool false) O (by rw [hg4]) ?_
   have hg4':=hg4
   simp only [Bool.and_eq_true,Bool.or_eq_true,Bool.and_eq_false_iff,Bool.or_eq_false_iff,Bool.not_eq_true',Bool.not_eq_false',decide_eq_true_eq,decide_eq_false_iff_not] at hg4'
   refine AE.step (v:=(pP b1 1)) (AB O) (AD (j:=1) O O underlying76 sizeOf3 O (by decide) O) O (Ab O) (AE.step (v:=(vN t.2.1)) (AB O) (AK (i:=0) (v:=(vN t.2.1)) O O Bm.a O) O (Ab O) (AE.step (v:=(pP b1 2)) (AB O) (AD (j:=2) O O underlying76 sizeOf3 O (by decide) O) O (Ab O) (AE.step (v:=(vN t.2.2)) (AB O) (AK (i:=0) (v:=(vN t.2.2)) O O Bm.a O) O (Ab O) (AE.step (v:=(Value.bool (decide (t.2.1=t.2.2)))) (AB O) (BS (c:=(decide (t.2.1=t.2.2))) O O (Ot (a:=t.2.1) (b:=t.2.2))) O (Ab O) (AI (v:=(Value.bool (decide (t.2.1=t.2.2)))) (AS O O) O ?_)))))
   exact AE.nil (AC.mid (sS O (sS O (sS O (sS O (sS O (sS O (sS O (sS O (sS O (sS O (sS O (sS O (sS O (sS O (sS (by first|rfl|(rw [hg4];rfl)|rw [hg4]) (sS (by first|rfl|(rw [hg4];rfl)|rw [hg4]) (sN))))))))))))))))) (List.Sublist.refl _))
 refine AR O ?_
 refine AE.mid (FM:=[(1,(pP bo.b 0)),(2,(pP b1 0)),(3,(Value.bool false)),(4,(pP b1 0)),(5,(vN t.1)),(6,(vN n)),(7,(Value.bool (decide (t.1<n)))),(8,(Value.bool (!(decide (t.1<n))))),(9,(Value.bool (!(decide (t.1<n))))),(15,(Value.bool ((!(decide (t.1<n)))||(!(decide (t.2.1<n)))))),(16,(Value.bool ((!(decide (t.1<n)))||(!(decide (t.2.1<n)))))),(22,(Value.bool (((!(decide (t.1<n)))||(!(decide (t.2.1<n))))||(!(decide (t.2.2<n)))))),(23,(Value.bool (((!(decide (t.1<n)))||(!(decide (t.2.1<n))))||(!(decide (t.2.2<n)))))),(29,(Value.bool ((((!(decide (t.1<n)))||(!(decide (t.2.1<n))))||(!(decide (t.2.2<n))))||(decide (t.1=t.2.1))))),(30,(Value.bool ((((!(decide (t.1<n)))||(!(decide (t.2.1<n))))||(!(decide (t.2.2<n))))||(decide (t.1=t.2.1))))),(36,(Value.bool (((((!(decide (t.1<n)))||(!(decide (t.2.1<n))))||(!(decide (t.2.2<n))))||(decide (t.1=t.2.1)))||(decide (t.2.1=t.2.2))))),(37,(Value.bool (((((!(decide (t.1<n)))||(!(decide (t.2.1<n))))||(!(decide (t.2.2<n))))||(decide (t.1=t.2.1)))||(decide (t.2.1=t.2.2))))),(43,(Value.bool ((((((!(decide (t.1<n)))||(!(decide (t.2.1<n))))||(!(decide (t.2.2<n))))||(decide (t.1=t.2.1)))||(decide (t.2.1=t.2.2)))||(decide (t.2.2=t.1)))))]) (LM:=[Af b1 76 (An t),AZ (some ⟨bo.b,0,none⟩) ([(vN n)])]) 6 ?_ ?_
 ·rcases Bool.eq_false_or_eq_true (((((!(decide (t.1<n)))||(!(decide (t.2.1<n))))||(!(decide (t.2.2<n))))||(decide (t.1=t.2.1)))||(decide (t.2.1=t.2.2))) with hg5|hg5
  ·skip
   refine AE.retell (k:=37) (u:=Value.bool true) O (by rw [hg5]) ?_
   have hg5':=hg5
   simp only [Bool.and_eq_true,Bool.or_eq_true,Bool.and_eq_false_iff,Bool.or_eq_false_iff,Bool.not_eq_true',Bool.not_eq_false',decide_eq_true_eq,decide_eq_false_iff_not] at hg5'
   refine AE.skip (AL O) O (Ab O) (AE.skip (AL O) O (Ab O) (AE.skip (AL O) O (Ab O) (AE.skip (AL O) O (Ab O) (AE.skip (AL O) O (Ab O) (AI (v:=(Value.bool true)) (Ah O O) O ?_)))))
   exact AE.nil (AC.mid (sS O (sS O (sS O (sS O (sS O (sS O (sS O (sS O (sS O (sS O (sS O (sS O (sS O (sS O (sS O (sS O (sS (by first|rfl|(rw [hg5];rfl)|rw [hg5]) (sS (by first|rfl|(rw [hg5];rfl)|rw [hg5]) (sN))))))))))))))))))) (List.Sublist.refl _))
  ·skip
   refine AE.retell (k:=37) (u:=Value.bool false) O (by rw [hg5]) ?_
   have hg5':=hg5
   simp only [Bool.and_eq_true,Bool.or_eq_true,Bool.and_eq_false_iff,Bool.or_eq_false_iff,Bool.not_eq_true',Bool.not_eq_false',decide_eq_true_eq,decide_eq_false_iff_not] at hg5'
   refine AE.step (v:=(pP b1 2)) (AB O) (AD (j:=2) O O underlying76 sizeOf3 O (by decide) O) O (Ab O) (AE.step (v:=(vN t.2.2)) (AB O) (AK (i:=0) (v:=(vN t.2.2)) O O Bm.a O) O (Ab O) (AE.step (v:=(pP b1 0)) (AB O) (AD (j:=0) O O underlying76 sizeOf3 O (by decide) O) O (Ab O) (AE.step (v:=(vN t.1)) (AB O) (AK (i:=0) (v:=(vN t.1)) O O Bm.a O) O (Ab O) (AE.step (v:=(Value.bool (decide (t.2.2=t.1)))) (AB O) (BS (c:=(decide (t.2.2=t.1))) O O (Ot (a:=t.2.2) (b:=t.1))) O (Ab O) (AI (v:=(Value.bool (decide (t.2.2=t.1)))) (AS O O) O ?_)))))
   exact AE.nil (AC.mid (sS O (sS O (sS O (sS O (sS O (sS O (sS O (sS O (sS O (sS O (sS O (sS O (sS O (sS O (sS O (sS O (sS (by first|rfl|(rw [hg5];rfl)|rw [hg5]) (sS (by first|rfl|(rw [hg5];rfl)|rw [hg5]) (sN))))))))))))))))))) (List.Sublist.refl _))
 exact AO O (AE.nil (AC.subF (sL [3] O) (AC.then_ (AF.ret (AT O (Ak (v:=(Value.bool ((((((!(decide (t.1<n)))||(!(decide (t.2.1<n))))||(!(decide (t.2.2<n))))||(decide (t.1=t.2.1)))||(decide (t.2.1=t.2.2)))||(decide (t.2.2=t.1))))) O) (λw hw=>⟨by congr 2;rw [Bool.eq_iff_iff];simp [MV]<;>omega,hw.out⟩))))))
theorem X_ (n:Nat) (bo:BX [vN n]) (ts:List (Nat×Nat×Nat)) (x:RX (rowsL An ts) ts.length) (hl:ts.length<4611686018427387904) (w:World) {S:Nat->Prop} (hbo:Ro S w bo) (hx:Ro S w x):Calls prog 213 #[(Value.slice x.p ts.length x.c),(Value.func (.func 171) #[] #[(pP bo.b 0)])] w (Av w (vI (idxB n ts 0))):=by
 have lbo:=EA (W:=w) hbo
 have lx:=EA (W:=w) hx
 refine BF (args:=[(Value.slice x.p ts.length x.c),(Value.func (.func 171) #[] #[(pP bo.b 0)])]) (L:=[AZ (some ⟨bo.b,0,none⟩) ([(vN n)]),AZ x.p (rowsL An ts)]) func213 O O (Ab O) (EB hbo (EB hx BR)) (AF.subF (sL [0,1] O) (q4 (AO O (AE.nil (q1 ?_)))))
 refine q4 (AR O (AI (v:=(vN ts.length)) (AG O underlying28) O (AR O (AE.nil (AC.subF (sL [0,1,4,7,8] O) ?_)))))
 refine AC.then_ (AF.block ?_)
 refine AF.lp1 (tg λ(j:Nat)=>j<=ts.length/\idxB n ts 0=idxB n (ts.drop j) j) (tg λ(j:Nat)=>[(0,(Value.slice x.p ts.length x.c)),(1,(Value.func (.func 171) #[] #[(pP bo.b 0)])),(7,(vN ts.length)),(8,(vN j))]) (tg λ(j:Nat)=>[AZ (some ⟨bo.b,0,none⟩) ([(vN n)]),AZ x.p (rowsL An ts)]) (tg λ(j:Nat)=>ts.length-j) 0 (⟨Nat.zero_le _,rfl⟩) (sF O) sr (λj hJ=>?_)
 obtain ⟨hj,he⟩:=hJ
 refine q4 (AI (Am (c:=(decide (j<ts.length))) O O (C6 (a:=j) (b:=ts.length))) O (AE.nil (q1 ?_)))
 refine AF.cond O (λhc0=>?_) (λhc0=>?_)
 ·replace hc0:=of_decide_eq_true hc0
  refine AF.skip (q1 (AF.block (q4 (AR O (AO O ?_)))))
  refine q3 (sL [0,1,7,8,5] O) (AR O (AR O (AR O (AI (v:=(pP (pB x.p) (pO x.p+j*3))) (AQ (j:=j) O O x.ok underlying28 sizeOf76 O Z) O (AI (v:=(aG (An (ts.getD j ((0,0,0):Nat×Nat×Nat))))) (AW (vs:=An (ts.getD j ((0,0,0):Nat×Nat×Nat))) (i:=1) O O (BQ.ne x.ok Z) Ej (Aw Ar _ _ _ Z) (Ar _)) O ?_)))))
  refine AE.call (v:=(Value.bool (!MV n (ts.getD j ((0,0,0):Nat×Nat×Nat))))) (AM O) (Dy (args:=[(aG (An (ts.getD j ((0,0,0):Nat×Nat×Nat))))]) (caps:=[(pP bo.b 0)]) (all:=[(aG (An (ts.getD j ((0,0,0):Nat×Nat×Nat)))),(pP bo.b 0)]) O O O call171) (λw hw=>Sl (ts.getD j ((0,0,0):Nat×Nat×Nat)) n bo w (DB hw 0 O lbo)) O (Ab O) (AE.nil (AC.subF (sL [0,1,7,8,5,16] O) (AC.then_ ?_)))
  refine AF.cond O (λhc1=>?_) (λhc1=>?_)
  ·simp only [Bool.and_eq_true,Bool.or_eq_true,Bool.and_eq_false_iff,Bool.or_eq_false_iff,Bool.not_eq_true',Bool.not_eq_false',decide_eq_true_eq,decide_eq_false_iff_not] at hc1
   have hfin:=he.trans (Uc Z (by simpa using hc1))
   refine q4 (AR O (AO O (AE.nil (AC.subF (sL [0,1,7,8,5,4] O) (AC.then_ ?_)))))
   exact AF.ret (AC.in_ret (AC.then_ret (AC.round1_ret (AC.in_ret (AC.then_ret (AT O (Ak (v:=(vN j)) O) (λw hw=>⟨by rw [hfin],hw.out⟩)))))))
  ·simp only [Bool.and_eq_true,Bool.or_eq_true,Bool.and_eq_false_iff,Bool.or_eq_false_iff,Bool.not_eq_true',Bool.not_eq_false',decide_eq_true_eq,decide_eq_false_iff_not] at hc1
   refine AF.skip (AC.in_normal (AC.then_ (AF.region (AI (AY (c:=((j+1:Nat):Int)) O O (AX (a:=j) (b:=1) Z)) O (AR O ?_)))))
   exact AE.nil (AC.subF (sL [0,1,7,8,5] O) (AC.round1 (j+1) (⟨Z,he.trans (R6 Z (by simpa using hc1))⟩) Z (sF O) sr))
 ·replace hc0:=of_decide_eq_false hc0
  have hfin:=he.trans (Us hc0)
  refine AF.exit (AC.then_exit (AC.round1_exit (AC.in_exit (q2 (AO O ?_)))))
  exact AE.nil (AC.then_ (AF.ret (AT O (Ak (v:=(vI (-1:Int))) O) (λw hw=>⟨by rw [hfin],hw.out⟩))))
theorem Vd (n:Nat) (bo:BX [vN n]) (ts:List (Nat×Nat×Nat)) (x:RX (rowsL An ts) ts.length) (hl:ts.length<4611686018427387904) (w:World) {S:Nat->Prop} (hbo:Ro S w bo) (hx:Ro S w x):Calls prog 170 #[(Value.slice x.p ts.length x.c),(Value.func (.func 171) #[] #[(pP bo.b 0)])] w (Av w (Value.bool (!CN n ts))):=by
 have lbo:=EA (W:=w) hbo
 have lx:=EA (W:=w) hx
 refine BF (args:=[(Value.slice x.p ts.length x.c),(Value.func (.func 171) #[] #[(pP bo.b 0)])]) (L:=[AZ (some ⟨bo.b,0,none⟩) ([(vN n)]),AZ x.p (rowsL An ts)]) func170 O O (Ab O) (EB hbo (EB hx BR)) (AF.subF (sL [0,1] O) (q4 (AO O (AE.nil (q2 ?_)))))
 refine AR O (AR O (Ew call213 (λw hw=>X_ n bo ts x hl w (DB hw 0 O lbo) (DB hw 1 O lx)) O (AI (DD (c:=(!CN n ts)) O O (Mb n ts 0)) O (AO O (AE.nil ?_)))))
 exact AC.subF (sL [4] O) (AC.then_ (AF.ret (AT O (Ak (v:=(Value.bool (!CN n ts))) O) (λw hw=>⟨rfl,hw.out⟩))))
theorem Q7 (n:Nat) (ts:List (Nat×Nat×Nat)) (x:RX (rowsL An ts) ts.length) (hl:ts.length<4611686018427387904) (w:World) {S:Nat->Prop} (hx:Ro S w x):Calls prog 116 #[(Value.slice x.p ts.length x.c),(vN n)] w (Av w (Value.bool (CN n ts))):=by
 have lx:=EA (W:=w) hx
 refine BF (args:=[(Value.slice x.p ts.length x.c),(vN n)]) (L:=[AZ x.p (rowsL An ts)]) func116 O O (Ab O) (EB hx BR) (AF.subF (sL [0,1] O) (q4 (Bo (cs:=[(vN n)]) O λb1=>AE.frzX 0 O O λhnb1=>AO O ?_)))
 refine q3 (sL [0,3,4] O) (AR O (AI (v:=(Value.func (.func 171) #[] #[(pP b1 0)])) (DS (vs:=[]) (us:=[(pP b1 0)]) O O) O (Ew call170 (λw hw=>Vd n ⟨b1⟩ ts x hl w (VG (x:=(⟨b1⟩:BX [vN n])) hw 0 O hnb1) (DB hw 1 O lx)) O (AI (Bg (c:=(!(!CN n ts))) O O) O (AO O ?_)))))
 exact AE.nil (AC.subF (sL [4] O) (AC.then_ (AF.ret (AT O (Ak (v:=(Value.bool (!(!CN n ts)))) O) (λw hw=>⟨by simp,hw.out⟩)))))
theorem M4 {ps:List Pt} {ts ss:List (Nat×Nat×Nat)} (x:MX ps ts ss) (hl:ts.length<4611686018427387904) (w:World) {S:Nat->Prop} (hx:Ro S w x):Calls prog 46 #[(aG (Bk x))] w (Av w (Value.bool (CN ps.length ts))):=by
 have lx:=EA (W:=w) hx
 refine BF (args:=[(aG (Bk x))]) (L:=[AZ x.a.p (rowsL Aj ps),AZ x.b.p (rowsL An ts),AZ x.c.p (rowsL An ss)]) func46 O O (Ab O) (EB hx BR) (AF.subF (sL [0] O) (q4 (Bo (cs:=Bk x) O λb1=>AO O (q3 (sL [1,2] O) ?_))))
 refine AI (v:=(pP b1 1)) (AA O underlying31 O sizeOf28 O) O (BK 0 (Value.slice x.b.p ts.length x.b.c) CR O (AI (v:=(pP b1 0)) (AA O underlying31 O sizeOf27 O) O (BK 0 (Value.slice x.a.p ps.length x.a.c) Du O (AI (v:=(vN ps.length)) (AG O underlying27) O (Ew call116 (λw hw=>Q7 ps.length ts x.b hl w (Vj (DB hw 1 O lx))) O ?_)))))
 exact AO O (AE.nil (AC.subF (sL [2] O) (AC.then_ (AF.ret (AT O (Ak (v:=(Value.bool (CN ps.length ts))) O) (λw hw=>⟨rfl,hw.out⟩))))))
theorem FK {ps:List Pt} {ts ss:List (Nat×Nat×Nat)} (x:MX ps ts ss) (t:Nat) (ht:t<ts.length) (hk:MV ps.length (ts.getD t (0,0,0))=true) (w:World) {S:Nat->Prop} (hx:Ro S w x):Calls prog 21 #[(aG (Bk x)),(vN t)] w (Av w (Value.tuple #[(aG (Aj (cor ps (ts.getD t (0,0,0)).1))),(aG (Aj (cor ps (ts.getD t (0,0,0)).2.1))),(aG (Aj (cor ps (ts.getD t (0,0,0)).2.2)))])):=by
 obtain ⟨k1,k2,k3⟩:=C4 hk
 have lx:=EA (W:=w) hx
 refine BF (args:=[(aG (Bk x)),(vN t)]) (L:=[AZ x.a.p (rowsL Aj ps),AZ x.b.p (rowsL An ts),AZ x.c.p (rowsL An ss)]) func21 O O (Ab O) (EB hx BR) (AF.subF (sL [0,1] O) (q4 (Bo (cs:=Bk x) O λb1=>al Dq O λb2=>al Dq O λb3=>?_)))
 refine al Dq O λb4=>q6 (sL [1,2,4,5,6] O) (q4 (AR O (AI (Am (c:=false) O O (by simp)) O (AR O ?_))))
 refine AE.step (v:=(vN t)) (AB O) (BA O) O (Ab O) (AE.step (v:=(pP b1 1)) (AB O) (AA O underlying31 O sizeOf28 O) O (Ab O) (AE.step (v:=(Value.slice x.b.p ts.length x.b.c)) (AB O) (AK (i:=3) (v:=(Value.slice x.b.p ts.length x.b.c)) O O CR.a O) O (Ab O) (AE.step (v:=(vN ts.length)) (AB O) (AG O underlying28) O (Ab O) (AE.step (v:=(Value.bool false)) (AB O) (DD (c:=false) O O (by simp;omega)) O (Ab O) (AI (v:=(Value.bool false)) (AS O O) O ?_)))))
 refine AE.nil (AC.subF (sL [1,2,4,5,6,17] O) (AC.then_ (AF.cond_false O (AF.skip (q1 ?_)))))
 refine Cu [(0,true),(1,true),(2,true),(3,true),(4,true),(5,true),(6,true),(7,true),(8,false),(9,false),(10,true)] sr (Ax (v:=(pP b1 1)) O (AA O underlying31 O sizeOf28 O) (Bj 3 (Value.slice x.b.p ts.length x.b.c) CR O (Bf O (Ax (v:=(pP (pB x.b.p) (pO x.b.p+t*3))) O (AQ (j:=t) O O x.b.ok underlying28 sizeOf76 O Z) (Ax (v:=(aG (An (ts.getD t ((0,0,0):Nat×Nat×Nat))))) O (AW (vs:=An (ts.getD t ((0,0,0):Nat×Nat×Nat))) (i:=5) O O (BQ.ne x.b.ok Z) Ej (Aw Ar _ _ _ Z) (Ar _)) ?_)))))
 refine Ax (v:=(pP b1 0)) O (AA O underlying31 O sizeOf27 O) (Bj 3 (Value.slice x.a.p ps.length x.a.c) Du O (Ax (v:=(vN ps.length)) O (AG O underlying27) (AV.imp O (al Nc O λb5=>AV.back (sl sr) ?_))))
 refine AV.imp O (Aq O sizeOf76 O (AV.back (sl sr) (Ev O (AV.nil (AC.subF (sL [1,2,4,5,6,7,8] O) ?_)))))
 refine q1 (q4 (AI (v:=(pP b5 0)) (AD (j:=0) O O underlying76 sizeOf3 O (by decide) O) O (BK 0 (vN ((ts.getD t ((0,0,0):Nat×Nat×Nat)).1)) Bm O (AR O (Ew (args:=[(vN ((ts.getD t ((0,0,0):Nat×Nat×Nat)).1)),(vN ps.length)]) (v:=(Value.bool true)) call61 (λw hw=>(by have h9:=DP ((ts.getD t ((0,0,0):Nat×Nat×Nat)).1) ps.length w;rw [decide_eq_true Z] at h9;exact h9)) O ?_)))))
 refine AI (Bg (c:=false) O O) O (AR O (AE.step (v:=(pP b5 1)) (AB O) (AD (j:=1) O O underlying76 sizeOf3 O (by decide) O) O (Ab O) (AE.step (v:=(vN ((ts.getD t ((0,0,0):Nat×Nat×Nat)).2.1))) (AB O) (AK (i:=0) (v:=(vN ((ts.getD t ((0,0,0):Nat×Nat×Nat)).2.1))) O O Bm.a O) O (Ab O) (AE.step (v:=(vN ps.length)) (AB O) (BA O) O (Ab O) (AE.call (v:=(Value.bool true)) (AB O) (A8 (args:=[(vN ((ts.getD t ((0,0,0):Nat×Nat×Nat)).2.1)),(vN ps.length)]) O O call61) (λw hw=>(by have h9:=DP ((ts.getD t ((0,0,0):Nat×Nat×Nat)).2.1) ps.length w;rw [decide_eq_true Z] at h9;exact h9)) O (Ab O) ?_)))))
 refine AE.step (v:=(Value.bool false)) (AB O) (Bg (c:=false) O O) O (Ab O) (AI (v:=(Value.bool false)) (AS O O) O (AR O (AE.step (v:=(pP b5 2)) (AB O) (AD (j:=2) O O underlying76 sizeOf3 O (by decide) O) O (Ab O) (AE.step (v:=(vN ((ts.getD t ((0,0,0):Nat×Nat×Nat)).2.2))) (AB O) (AK (i:=0) (v:=(vN ((ts.getD t ((0,0,0):Nat×Nat×Nat)).2.2))) O O Bm.a O) O (Ab O) (AE.step (v:=(vN ps.length)) (AB O) (BA O) O (Ab O) ?_)))))
 refine AE.call (v:=(Value.bool true)) (AB O) (A8 (args:=[(vN ((ts.getD t ((0,0,0):Nat×Nat×Nat)).2.2)),(vN ps.length)]) O O call61) (λw hw=>(by have h9:=DP ((ts.getD t ((0,0,0):Nat×Nat×Nat)).2.2) ps.length w;rw [decide_eq_true Z] at h9;exact h9)) O (Ab O) (AE.step (v:=(Value.bool false)) (AB O) (Bg (c:=false) O O) O (Ab O) (AI (v:=(Value.bool false)) (AS O O) O (AE.nil (AC.subF (sL [1,2,4,5,6,7,47] O) (AC.then_ ?_)))))
 refine AF.cond_false O (AF.skip (q1 (Cu [(0,true),(1,true),(2,true),(3,true),(4,true),(5,true),(6,true),(7,true),(8,true),(9,true),(10,true),(11,true),(12,true),(13,true),(14,true),(15,true),(16,true),(17,true),(18,false),(19,false),(20,false)] (sk (sl (sl (sl sr)))) (Ax (v:=(pP b1 0)) O (AA O underlying31 O sizeOf27 O) (Bj 1 (Value.slice x.a.p ps.length x.a.c) Du O ?_)))))
 refine Ax (v:=(pP b5 0)) O (AD (j:=0) O O underlying76 sizeOf3 O (by decide) O) (Bj 0 (vN ((ts.getD t ((0,0,0):Nat×Nat×Nat)).1)) Bm O (Ax (v:=(pP (pB x.a.p) (pO x.a.p+((ts.getD t ((0,0,0):Nat×Nat×Nat)).1)*10))) O (AQ (j:=(ts.getD t ((0,0,0):Nat×Nat×Nat)).1) O O x.a.ok underlying27 sizeOf55 O Z) (Ax (v:=(aG (Aj (ps.getD ((ts.getD t ((0,0,0):Nat×Nat×Nat)).1) (⟨0,0⟩:Pt))))) O (AW (vs:=Aj (ps.getD ((ts.getD t ((0,0,0):Nat×Nat×Nat)).1) (⟨0,0⟩:Pt))) (i:=2) O O (BQ.ne x.a.ok Z) BG (Aw BT _ _ _ Z) (BT _)) (Ax (v:=(pP b1 0)) O (AA O underlying31 O sizeOf27 O) (Bj 1 (Value.slice x.a.p ps.length x.a.c) Du O ?_)))))
 refine Ax (v:=(pP b5 1)) O (AD (j:=1) O O underlying76 sizeOf3 O (by decide) O) (Bj 0 (vN ((ts.getD t ((0,0,0):Nat×Nat×Nat)).2.1)) Bm O (Ax (v:=(pP (pB x.a.p) (pO x.a.p+((ts.getD t ((0,0,0):Nat×Nat×Nat)).2.1)*10))) O (AQ (j:=(ts.getD t ((0,0,0):Nat×Nat×Nat)).2.1) O O x.a.ok underlying27 sizeOf55 O Z) (Ax (v:=(aG (Aj (ps.getD ((ts.getD t ((0,0,0):Nat×Nat×Nat)).2.1) (⟨0,0⟩:Pt))))) O (AW (vs:=Aj (ps.getD ((ts.getD t ((0,0,0):Nat×Nat×Nat)).2.1) (⟨0,0⟩:Pt))) (i:=2) O O (BQ.ne x.a.ok Z) BG (Aw BT _ _ _ Z) (BT _)) (Ax (v:=(pP b1 0)) O (AA O underlying31 O sizeOf27 O) (Bj 1 (Value.slice x.a.p ps.length x.a.c) Du O ?_)))))
 refine Ax (v:=(pP b5 2)) O (AD (j:=2) O O underlying76 sizeOf3 O (by decide) O) (Bj 0 (vN ((ts.getD t ((0,0,0):Nat×Nat×Nat)).2.2)) Bm O (Ax (v:=(pP (pB x.a.p) (pO x.a.p+((ts.getD t ((0,0,0):Nat×Nat×Nat)).2.2)*10))) O (AQ (j:=(ts.getD t ((0,0,0):Nat×Nat×Nat)).2.2) O O x.a.ok underlying27 sizeOf55 O Z) (Ax (v:=(aG (Aj (ps.getD ((ts.getD t ((0,0,0):Nat×Nat×Nat)).2.2) (⟨0,0⟩:Pt))))) O (AW (vs:=Aj (ps.getD ((ts.getD t ((0,0,0):Nat×Nat×Nat)).2.2) (⟨0,0⟩:Pt))) (i:=2) O O (BQ.ne x.a.ok Z) BG (Aw BT _ _ _ Z) (BT _)) (AV.imp O (Ka O sizeOf55 O ?_)))))
 refine AV.back (sk (sl (sl (sl sr)))) (AV.imp O (Kz O sizeOf55 O (AV.back (sk (sl (sl (sl sr)))) (AV.imp O (Cq O sizeOf55 O ?_)))))
 exact AV.back (sk (sl (sl (sl sr)))) (AV.nil (AC.subF (sL [1,2,4,5,6,7] O) (AC.then_ (AF.ret (FA O (A7 (i:=3) (cs:=Aj (ps.getD ((ts.getD t ((0,0,0):Nat×Nat×Nat)).1) (⟨0,0⟩:Pt))) O O isAgg55 sizeOf55 O) (A7 (i:=2) (cs:=Aj (ps.getD ((ts.getD t ((0,0,0):Nat×Nat×Nat)).2.1) (⟨0,0⟩:Pt))) O O isAgg55 sizeOf55 O) (A7 (i:=1) (cs:=Aj (ps.getD ((ts.getD t ((0,0,0):Nat×Nat×Nat)).2.2) (⟨0,0⟩:Pt))) O O isAgg55 sizeOf55 O) (λw hw=>⟨rfl,hw.out⟩))))))
end
section
set_option maxRecDepth 100000
theorem Sa (a:Nat) (w:World)  :Calls prog 176 #[(vN a)] w (Av w (Value.bool false)):=by
 refine Ag (args:=[(vN a)]) func176 O O (Ab O) (AF.subF (sL [0] O) (q4 (AO O (AE.nil (q2 ?_)))))
 refine AR O (AR O (AI (CL (c:=false) O O (by simp)) O (AO O (AE.nil (AC.subF (sL [2] O) ?_)))))
 exact AC.then_ (AF.ret (AT O (Ak (v:=(Value.bool false)) O) (λw hw=>⟨rfl,hw.out⟩)))
theorem Qv (a b:Nat) (w:World)  :Calls prog 127 #[(vN a),(vN b)] w (Av w (vI (EK a b))):=by
 refine Ag (args:=[(vN a),(vN b)]) func127 O O (Ab O) (AF.subF (sL [0,1] O) (q4 (AO O (AE.nil (q2 ?_)))))
 refine AR O (BW call176 (Sa a) O (AO O (q3 (sL [0,1,4,5] O) (AR O (BW call176 (Sa b) O ?_)))))
 refine AO O (q6 (sL [0,1,4,5,6] O) (q4 (AR O (AE.nil (AC.subF (sL [0,1,4,6,11] O) ?_)))))
 refine AC.then_ (AF.cond_false O (AF.skip (q1 (q4 (AR O ?_)))))
 refine AE.nil (AC.subF (sL [0,1,4,6,13] O) (AC.then_ (AF.cond_false O (AF.skip (q1 ?_)))))
 refine q4 (AR O (AR O (AI (Am (c:=(decide (a<b))) O O (C6 (a:=a) (b:=b))) O (AE.nil (AC.subF (sL [0,1,4,6,16] O) ?_)))))
 refine AC.then_ ?_
 refine AF.cond O (λhc3=>?_) (λhc3=>?_)
 ·replace hc3:=of_decide_eq_true hc3
  have hr:=QP hc3
  exact q4 (AO O (AE.nil (AC.then_ (AF.ret (AC.then_ret (AT O (Ak (v:=(vI (-1:Int))) O) (λw hw=>⟨by rw [hr]<;>rfl,hw.out⟩)))))))
 ·replace hc3:=of_decide_eq_false hc3
  refine AF.skip (q1 (q4 (AR O (AR O (AI (Cj (c:=(decide (b<a))) O O (C6 (a:=b) (b:=a))) O ?_)))))
  refine AE.nil (AC.subF (sL [0,1,4,6,19] O) (AC.then_ ?_))
  refine AF.cond O (λhc4=>?_) (λhc4=>?_)
  ·replace hc4:=of_decide_eq_true hc4
   have hr:=QT hc3 hc4
   exact q4 (AO O (AE.nil (AC.then_ (AF.ret (AC.then_ret (AT O (Ak (v:=(vI 1)) O) (λw hw=>⟨by rw [hr]<;>rfl,hw.out⟩)))))))
  ·replace hc4:=of_decide_eq_false hc4
   have hr:=QQ hc3 hc4
   exact AF.skip (q2 (AO O (AE.nil (AC.then_ (AF.ret (AT O (Ak (v:=(vI 0)) O) (λw hw=>⟨by rw [hr]<;>rfl,hw.out⟩)))))))
theorem Sm (a b:Int) (g:Nat) (w:World) (hg:w.heap[g]?=some (.cells ([(vI a),(vI b)]).toArray 3 (0,0))):Calls prog 126 #[(Value.slice (some ⟨g,0,none⟩) 2 2)] w (λe w'=>e=.returned (Value.int .i64 (UV a b))/\Mv w w' (some g)/\w'.heap[g]?=some (.cells ([(vI a),(vI b)]).toArray 3 (0,0))):=by
 refine Iw (args:=[(Value.slice (some ⟨g,0,none⟩) 2 2)]) (g:=g) (T:=3) (cs:=[(vI a),(vI b)]) func126 O O (Ab O) hg (AF.subF (sL [0] O) (q4 (AO O (AE.nil (q2 ?_)))))
 refine AO O (AE.nil (q1 (q4 (AR O (AI (v:=(vI 2)) (AG O underlying33) O ?_)))))
 refine AR O (AE.nil (AC.subF (sL [2,3,6,7,8] O) (AC.then_ (AF.block (AF.unroll 4 ?_)))))
 refine GC.step (q4 (AI (Am (c:=true) O O (by decide)) O (AE.nil (q1 (AF.cond_true O ?_)))))
 refine AF.skip (q1 (AF.block (q4 (AI (v:=(pP g 0)) (AN (j:=0) O O underlying33 sizeOf3 O Z O) O (BK 0 (vI a) Bm O ?_)))))
 refine AO O (q3 (sL [2,3,6,7,8,5] O) (AR O (AR O (AI (CL (c:=(decide (a≠(0:Int)))) O O O) O (AE.nil ?_)))))
 refine AC.subF (sL [2,3,6,7,8,5,14] O) (AC.then_ ?_)
 refine AF.cond O (λhc1=>?_) (λhc1=>?_)
 ·replace hc1:=of_decide_eq_true hc1
  have hr:UV a b=a:=if_pos hc1
  refine q4 (AR O (AO O (AE.nil (AC.subF (sL [2,3,6,7,8,5] O) (AC.then_ ?_)))))
  exact AF.ret (AC.in_ret (AC.then_ret (AC.then_ret (AC.in_ret (AC.then_ret (AT O (Ak (v:=(vI a)) O) (λw hw=>⟨by rw [hr]<;>rfl,hw.1,hw.get (i:=0) O⟩)))))))
 ·replace hc1:=of_decide_eq_false hc1
  have hq:=hc1
  refine AF.skip (AC.in_normal (AC.then_ (AF.region (AI (AY (c:=(1:Int)) O O (by decide)) O (AR O ?_)))))
  refine AE.nil (AC.subF (sL [2,3,6,7,8,5] O) (AC.again (GC.step (q4 (AI (Am (c:=true) O O (by decide)) O ?_)))))
  refine AE.nil (q1 (AF.cond_true O (AF.skip (q1 (AF.block ?_)))))
  refine q4 (AI (v:=(pP g 1)) (AN (j:=1) O O underlying33 sizeOf3 O Z O) O (BK 0 (vI b) Bm O (AO O (q3 (sL [2,3,6,7,8,5] O) (AR O ?_)))))
  refine AR O (AI (CL (c:=(decide (b≠(0:Int)))) O O O) O (AE.nil (AC.subF (sL [2,3,6,7,8,5,14] O) (AC.then_ ?_))))
  refine AF.cond O (λhc1=>?_) (λhc1=>?_)
  ·replace hc1:=of_decide_eq_true hc1
   have hr:UV a b=b:=by rw [UV,if_neg hq,if_pos hc1]
   refine q4 (AR O (AO O (AE.nil (AC.subF (sL [2,3,6,7,8,5] O) (AC.then_ ?_)))))
   exact AF.ret (AC.in_ret (AC.then_ret (AC.then_ret (AC.in_ret (AC.then_ret (AT O (Ak (v:=(vI b)) O) (λw hw=>⟨by rw [hr]<;>rfl,hw.1,hw.get (i:=0) O⟩)))))))
  ·replace hc1:=of_decide_eq_false hc1
   have hr:UV a b=0:=by rw [UV,if_neg hq,if_neg hc1]
   refine AF.skip (AC.in_normal (AC.then_ (AF.region (AI (AY (c:=(2:Int)) O O (by decide)) O (AR O ?_)))))
   refine AE.nil (AC.subF (sL [2,3,6,7,8,5] O) (AC.again (GC.step (q4 (AI (Am (c:=false) O O (by decide)) O ?_)))))
   refine AE.nil (q1 (AF.cond_false O (AF.exit (AC.then_exit (AC.then_exit ?_)))))
   refine AC.in_exit (q2 (AR O (AO O (AE.nil (AC.subF (sL [2,3,6,7,8,5] O) ?_)))))
   exact AC.then_ (AF.ret (AT O (Ak (v:=(vI 0)) O) (λw hw=>⟨by rw [hr]<;>rfl,hw.1,hw.get (i:=0) O⟩)))
end
end Go.Proofs.YtfbomiejpbchdaaGreat
