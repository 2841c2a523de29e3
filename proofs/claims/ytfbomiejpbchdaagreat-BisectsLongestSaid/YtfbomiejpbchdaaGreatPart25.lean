import Derived.Test.YtfbomiejpbchdaaGreatPart06
import Derived.Test.YtfbomiejpbchdaaGreatPart08
import Derived.Test.YtfbomiejpbchdaaGreatPart24
namespace Go.Proofs.YtfbomiejpbchdaaGreat
open Go Go.RowKit Go.Proofs.Tryz
set_option linter.unusedVariables false
set_option linter.unusedSimpArgs false
section
structure MX (ps:List Pt) (ts ss:List (Nat×Nat×Nat)) where
  a:RX (rowsL Am ps) ps.length
  b:RX (rowsL Af ts) ts.length
  c:RX (rowsL Af ss) ss.length
def Bk {ps:List Pt} {ts ss:List (Nat×Nat×Nat)} (x:MX ps ts ss):List Value:=[x.a.val,x.b.val,x.c.val]
theorem Yy {ps:List Pt} {ts ss:List (Nat×Nat×Nat)} {x:MX ps ts ss} {y:As} (hy:y∈[x.a.row,x.b.row,x.c.row]):y.ro=true:=by
  simp only [List.mem_cons,List.not_mem_nil,or_false] at hy
  rcases hy with rfl|rfl|rfl<;>rfl
instance {ps:List Pt} {ts ss:List (Nat×Nat×Nat)}:EI (MX ps ts ss):=⟨λx=>aG (Bk x),λx=>[x.a.row,x.b.row,x.c.row],λx y hy=>Yy hy⟩
def MG.mx (g:MG):MX g.ps g.ts g.ss:=⟨g.a,g.b,g.c⟩
structure BX (cs:List Value) where
  b:Nat
instance {cs:List Value}:EI (BX cs):=⟨λx=>pP x.b 0,λx=>[AY (some ⟨x.b,0,none⟩) cs],λx y hy=>by rcases List.mem_singleton.1 hy with rfl;rfl⟩
theorem HE {b:Nat} {T:TypeId} {cs:List Value} {o:Obj} (h:(Ag b T cs).P o):(AY (some ⟨b,0,none⟩) cs).P o:=⟨cs.toArray,T,(0,0),h,by show (cs.toArray.toList.drop 0).take cs.length=cs;simp⟩
section
variable {S:Nat->Prop} {w W:World} {w0:BM} {L:List As} {ps:List Pt} {ts ss:List (Nat×Nat×Nat)} {cs:List Value}
theorem Tb {x:MX ps ts ss} (h:Ro S w x):Ro S w x.a:=λy hy=>by rcases List.mem_singleton.1 hy with rfl;exact h _ List.mem_cons_self
theorem Ot {x:MX ps ts ss} (h:Ro S w x):Ro S w x.b:=λy hy=>by rcases List.mem_singleton.1 hy with rfl;exact h _ (List.mem_cons_of_mem _ List.mem_cons_self)
theorem UO (hw:Own w0 w L) (i:Nat) {x:BX cs} (hi:L[i]?=some (AY (some ⟨x.b,0,none⟩) cs)) (hb:w0.w.heap.size<=x.b):Ro (SL w0 S L) w x:=λy hy=>by
  rcases List.mem_singleton.1 hy with rfl
  exact ⟨hw.holds hi,λc e=>⟨⟨_,List.mem_of_getElem? hi,rfl,e⟩,.inl (by injection e with e;rw [<-e];exact hb)⟩⟩
end
section
variable {P:Program} {ops:Array Oper} {rest:List Oper} {Q:Exit->Act->World->Prop} {n d:Nat} {F:List (Nat×Value)} {w0:BM} {S:Nat->Prop} {L:List As} {t:TypeId} {p:String} {af:Array Edge} {y:Operand} {f:FuncId} {xs:List Operand} {args:List Value} {ts:Array TypeId}
theorem AE.frzX (i:Nat) {b:Nat} {T:TypeId} {cs:List Value} (hi:L[i]?=some (Ag b T cs)) (hex:w0.ex=none) (next:w0.w.heap.size<=b->AE P ops rest Q n F w0 (L.set i (AY (some ⟨b,0,none⟩) cs))):AE P ops rest Q n F w0 L:=λa w ha hw=>by
  refine next ?_ a w ha (hw.freeze hi O (λo hp=>HE hp) (λe=>by cases e))
  rcases (hw.2.1 _ (List.mem_of_getElem? hi) b rfl).1 with h1|h1|h1
  · cases h1
  · exact h1
  · rw [hex] at h1;cases h1
end
def I0 (n:Nat) (t:Nat×Nat×Nat):Bool:=decide (t.1<n)&&decide (t.2.1<n)&&decide (t.2.2<n)&&!decide (t.1=t.2.1)&&!decide (t.2.1=t.2.2)&&!decide (t.2.2=t.1)
def CD (n:Nat) (ts:List (Nat×Nat×Nat)):Bool:=ts.all (I0 n)
theorem Qw {ps:List Pt} {ts:List (Nat×Nat×Nat)} (h:FQ ps ts):CD ps.length ts=true:=List.all_eq_true.2 λt ht=>by
  obtain ⟨j,hj,rfl⟩:=List.getElem_of_mem ht
  have k:=h.tri j hj
  rw [show ts.getD j (0,0,0)=ts[j] by rw [List.getD,List.getElem?_eq_getElem hj];rfl] at k
  simp [I0,k.a,k.b,k.c,k.ab,k.bc,k.ca]
theorem Cf {n:Nat} {ts:List (Nat×Nat×Nat)} (h:CD n ts=true) {j:Nat} (hj:j<ts.length):I0 n (ts.getD j (0,0,0))=true:=by
  rw [List.getD,List.getElem?_eq_getElem hj]
  exact List.all_eq_true.1 h _ (List.getElem_mem hj)
theorem Cd {n:Nat} {t:Nat×Nat×Nat} (h:I0 n t=true):t.1<n/\t.2.1<n/\t.2.2<n:=by
  simp [I0] at h;omega
theorem Qr {n:Nat} {ts:List (Nat×Nat×Nat)} (h:∀q,q<ts.length->I0 n (ts.getD q (0,0,0))=true):CD n ts=true:=List.all_eq_true.2 λt ht=>by
  obtain ⟨j,hj,rfl⟩:=List.getElem_of_mem ht
  have k:=h j hj
  rw [List.getD,List.getElem?_eq_getElem hj] at k
  exact k
def idxB (n:Nat):List (Nat×Nat×Nat)->Nat->Int
  | [],_ => -1
  | t::r,i=>if I0 n t=true then idxB n r (i+1) else (i:Int)
theorem Mv {α:Type} {ts:List α} {d:α} {j:Nat} (hj:j<ts.length):ts.drop j=ts.getD j d::ts.drop (j+1):=by
  rw [List.drop_eq_getElem_cons hj,List.getD,List.getElem?_eq_getElem hj];rfl
theorem Qs {n:Nat} {ts:List (Nat×Nat×Nat)} {j:Nat} (hj:j<ts.length) (h:I0 n (ts.getD j (0,0,0))=true):idxB n (ts.drop j) j=idxB n (ts.drop (j+1)) (j+1):=by
  rw [Mv (d:=(0,0,0)) hj];exact if_pos h
theorem Tu {n:Nat} {ts:List (Nat×Nat×Nat)} {j:Nat} (hj:j<ts.length) (h:I0 n (ts.getD j (0,0,0))=false):idxB n (ts.drop j) j=(j:Int):=by
  rw [Mv (d:=(0,0,0)) hj];exact if_neg (by rw [h];exact Bool.false_ne_true)
theorem T_ {n:Nat} {ts:List (Nat×Nat×Nat)} {j:Nat} (hj:¬j<ts.length):idxB n (ts.drop j) j = -1:=by
  rw [List.drop_of_length_le Z];rfl
theorem Lz (n:Nat):∀(ts:List (Nat×Nat×Nat)) (i:Nat),decide (0<=idxB n ts i)=!CD n ts
  | [],i=>rfl
  | t::r,i=>by
    unfold idxB CD
    rw [List.all_cons]
    cases h:I0 n t with
    | true=>rw [if_pos rfl,Bool.true_and];exact Lz n r (i+1)
    | false=>rw [if_neg Bool.false_ne_true,Bool.false_and];simp
def cor (ps:List Pt) (k:Nat):Pt:=ps.getD k ⟨0,0⟩
def PM (a b c p:Pt):Nat:=if AU a b c=0 then 0 else F0 (AU p b c/AU a b c) (AU a p c/AU a b c) (AU a b p/AU a b c)
def NS (ps:List Pt) (q:Pt) (t:Nat×Nat×Nat):Nat:=PM (cor ps t.1) (cor ps t.2.1) (cor ps t.2.2) q
end
section
set_option maxRecDepth 100000
theorem DK (p n:Nat) (w:World)  :Calls prog 61 #[(vN p),(vN n)] w (Aq w (Value.bool (decide (p<n)))):=by
 refine Ae (args:=[(vN p),(vN n)]) func61 O O (Ac O) (AF.subF (sL [0,1] O) (q4 (AL O (AE.nil (q2 ?_)))))
 refine AS O (AH (DY (c:=(decide (0<=p))) O O (Vn (a:=0) (b:=p))) O (AS O ?_))
 refine AE.mid (FM:=[(0,(vN p)),(1,(vN n)),(4,(Value.bool false)),(5,(vN p)),(6,(Value.bool (decide (0<=p)))),(7,(Value.bool (decide (0<=p)))),(11,(Value.bool ((decide (0<=p))&&(decide (p<n)))))]) (LM:=[]) 4 ?_ ?_
 ·rcases Bool.eq_false_or_eq_true (decide (0<=p)) with hg1|hg1
  ·skip
   refine AE.retell (k:=7) (u:=Value.bool true) O (by rw [hg1]) ?_
   have hg1':=hg1
   replace hg1':=of_decide_eq_true hg1'
   exact AE.step (v:=(vN p)) (AB O) (BK O) O (Ac O) (AE.step (v:=(vN n)) (AB O) (BK O) O (Ac O) (AE.step (v:=(Value.bool (decide (p<n)))) (AB O) (Ak (c:=(decide (p<n))) O O (C1 (a:=p) (b:=n))) O (Ac O) (AH (v:=(Value.bool (decide (p<n)))) (Aj O O) O (AE.nil (AD.mid (sS O (sS O (sS O (sS O (sS O (sS (by first|rfl|(rw [hg1];rfl)|rw [hg1]) (sS (by first|rfl|(rw [hg1];rfl)|rw [hg1]) (sN)))))))) (List.Sublist.refl _))))))
  ·skip
   refine AE.retell (k:=7) (u:=Value.bool false) O (by rw [hg1]) ?_
   have hg1':=hg1
   replace hg1':=of_decide_eq_false hg1'
   exact AE.skip (AN O) O (Ac O) (AE.skip (AN O) O (Ac O) (AE.skip (AN O) O (Ac O) (AH (v:=(Value.bool false)) (AV O O) O (AE.nil (AD.mid (sS O (sS O (sS O (sS O (sS O (sS (by first|rfl|(rw [hg1];rfl)|rw [hg1]) (sS (by first|rfl|(rw [hg1];rfl)|rw [hg1]) (sN)))))))) (List.Sublist.refl _))))))
 exact AL O (AE.nil (AD.subF (sL [4] O) (AD.then_ (AF.ret (AR O (Ai (v:=(Value.bool ((decide (0<=p))&&(decide (p<n))))) O) (λw hw=>⟨by simp,hw.out⟩))))))
theorem Sk (t:Nat×Nat×Nat) (n:Nat) (bo:BX [vN n]) (w:World) {S:Nat->Prop} (hbo:Ro S w bo):Calls prog 171 #[(aG (Af t)),(pP bo.b 0)] w (Aq w (Value.bool (!I0 n t))):=by
 have lbo:=DU (W:=w) hbo
 refine A6 (args:=[(aG (Af t)),(pP bo.b 0)]) (L:=[AY (some ⟨bo.b,0,none⟩) ([(vN n)])]) func171 O O (Ac O) (DV hbo BN) (AF.subF (sL [0,1] O) (q4 (Bg (cs:=Af t) O λb1=>AL O (q3 (sL [1,2,3] O) ?_))))
 refine AH (v:=(pP b1 0)) (AC (j:=0) O O underlying76 sizeOf3 O (by decide) O) O (BJ 0 (vN t.1) Bn O (AH (Ap (q:=some ⟨bo.b,0,none⟩) (v:=(vN n)) (off:=0) (i:=1) O O (λe=>by cases e) Bn O) O (BR call61 (DK t.1 n) O (AH (BZ (c:=(!(decide (t.1<n)))) O O) O (AS O ?_)))))
 refine AE.mid (FM:=[(1,(pP bo.b 0)),(2,(pP b1 0)),(3,(Value.bool false)),(4,(pP b1 0)),(5,(vN t.1)),(6,(vN n)),(7,(Value.bool (decide (t.1<n)))),(8,(Value.bool (!(decide (t.1<n))))),(9,(Value.bool (!(decide (t.1<n))))),(15,(Value.bool ((!(decide (t.1<n)))||(!(decide (t.2.1<n))))))]) (LM:=[Ag b1 76 (Af t),AY (some ⟨bo.b,0,none⟩) ([(vN n)])]) 6 ?_ ?_
 ·rcases Bool.eq_false_or_eq_true (!(decide (t.1<n))) with hg1|hg1
  ·skip
   refine AE.retell (k:=9) (u:=Value.bool true) O (by rw [hg1]) ?_
   have hg1':=hg1
   simp only [Bool.and_eq_true,Bool.or_eq_true,Bool.and_eq_false_iff,Bool.or_eq_false_iff,Bool.not_eq_true',Bool.not_eq_false',decide_eq_true_eq,decide_eq_false_iff_not] at hg1'
   refine AE.skip (AN O) O (Ac O) (AE.skip (AN O) O (Ac O) (AE.skip (AN O) O (Ac O) (AE.skip (AN O) O (Ac O) (AE.skip (AN O) O (Ac O) (AH (v:=(Value.bool true)) (Aj O O) O ?_)))))
   exact AE.nil (AD.mid (sS O (sS O (sS O (sS O (sS O (sS O (sS O (sS O (sS (by first|rfl|(rw [hg1];rfl)|rw [hg1]) (sS (by first|rfl|(rw [hg1];rfl)|rw [hg1]) (sN))))))))))) (List.Sublist.refl _))
  ·skip
   refine AE.retell (k:=9) (u:=Value.bool false) O (by rw [hg1]) ?_
   have hg1':=hg1
   simp only [Bool.and_eq_true,Bool.or_eq_true,Bool.and_eq_false_iff,Bool.or_eq_false_iff,Bool.not_eq_true',Bool.not_eq_false',decide_eq_true_eq,decide_eq_false_iff_not] at hg1'
   refine AE.step (v:=(pP b1 1)) (AB O) (AC (j:=1) O O underlying76 sizeOf3 O (by decide) O) O (Ac O) (AE.step (v:=(vN t.2.1)) (AB O) (AI (i:=0) (v:=(vN t.2.1)) O O Bn.a O) O (Ac O) (AE.step (v:=(vN n)) (AB O) (Ap (q:=some ⟨bo.b,0,none⟩) (v:=(vN n)) (off:=0) (i:=1) O O (λe=>by cases e) Bn O) O (Ac O) (AE.call (v:=(Value.bool (decide (t.2.1<n)))) (AB O) (A_ (args:=[(vN t.2.1),(vN n)]) O O call61) (λw hw=>DK t.2.1 n w) O (Ac O) (AE.step (v:=(Value.bool (!(decide (t.2.1<n))))) (AB O) (BZ (c:=(!(decide (t.2.1<n)))) O O) O (Ac O) (AH (v:=(Value.bool (!(decide (t.2.1<n))))) (AV O O) O ?_)))))
   exact AE.nil (AD.mid (sS O (sS O (sS O (sS O (sS O (sS O (sS O (sS O (sS (by first|rfl|(rw [hg1];rfl)|rw [hg1]) (sS (by first|rfl|(rw [hg1];rfl)|rw [hg1]) (sN))))))))))) (List.Sublist.refl _))
 refine AS O ?_
 refine AE.mid (FM:=[(1,(pP bo.b 0)),(2,(pP b1 0)),(3,(Value.bool false)),(4,(pP b1 0)),(5,(vN t.1)),(6,(vN n)),(7,(Value.bool (decide (t.1<n)))),(8,(Value.bool (!(decide (t.1<n))))),(9,(Value.bool (!(decide (t.1<n))))),(15,(Value.bool ((!(decide (t.1<n)))||(!(decide (t.2.1<n)))))),(16,(Value.bool ((!(decide (t.1<n)))||(!(decide (t.2.1<n)))))),(22,(Value.bool (((!(decide (t.1<n)))||(!(decide (t.2.1<n))))||(!(decide (t.2.2<n))))))]) (LM:=[Ag b1 76 (Af t),AY (some ⟨bo.b,0,none⟩) ([(vN n)])]) 6 ?_ ?_
 ·rcases Bool.eq_false_or_eq_true ((!(decide (t.1<n)))||(!(decide (t.2.1<n)))) with hg2|hg2
  ·skip
   refine AE.retell (k:=16) (u:=Value.bool true) O (by rw [hg2]) ?_
   have hg2':=hg2
   simp only [Bool.and_eq_true,Bool.or_eq_true,Bool.and_eq_false_iff,Bool.or_eq_false_iff,Bool.not_eq_true',Bool.not_eq_false',decide_eq_true_eq,decide_eq_false_iff_not] at hg2'
   refine AE.skip (AN O) O (Ac O) (AE.skip (AN O) O (Ac O) (AE.skip (AN O) O (Ac O) (AE.skip (AN O) O (Ac O) (AE.skip (AN O) O (Ac O) (AH (v:=(Value.bool true)) (Aj O O) O ?_)))))
   exact AE.nil (AD.mid (sS O (sS O (sS O (sS O (sS O (sS O (sS O (sS O (sS O (sS O (sS (by first|rfl|(rw [hg2];rfl)|rw [hg2]) (sS (by first|rfl|(rw [hg2];rfl)|rw [hg2]) (sN))))))))))))) (List.Sublist.refl _))
  ·skip
   refine AE.retell (k:=16) (u:=Value.bool false) O (by rw [hg2]) ?_
   have hg2':=hg2
   simp only [Bool.and_eq_true,Bool.or_eq_true,Bool.and_eq_false_iff,Bool.or_eq_false_iff,Bool.not_eq_true',Bool.not_eq_false',decide_eq_true_eq,decide_eq_false_iff_not] at hg2'
   refine AE.step (v:=(pP b1 2)) (AB O) (AC (j:=2) O O underlying76 sizeOf3 O (by decide) O) O (Ac O) (AE.step (v:=(vN t.2.2)) (AB O) (AI (i:=0) (v:=(vN t.2.2)) O O Bn.a O) O (Ac O) (AE.step (v:=(vN n)) (AB O) (Ap (q:=some ⟨bo.b,0,none⟩) (v:=(vN n)) (off:=0) (i:=1) O O (λe=>by cases e) Bn O) O (Ac O) (AE.call (v:=(Value.bool (decide (t.2.2<n)))) (AB O) (A_ (args:=[(vN t.2.2),(vN n)]) O O call61) (λw hw=>DK t.2.2 n w) O (Ac O) (AE.step (v:=(Value.bool (!(decide (t.2.2<n))))) (AB O) (BZ (c:=(!(decide (t.2.2<n)))) O O) O (Ac O) (AH (v:=(Value.bool (!(decide (t.2.2<n))))) (AV O O) O ?_)))))
   exact AE.nil (AD.mid (sS O (sS O (sS O (sS O (sS O (sS O (sS O (sS O (sS O (sS O (sS (by first|rfl|(rw [hg2];rfl)|rw [hg2]) (sS (by first|rfl|(rw [hg2];rfl)|rw [hg2]) (sN))))))))))))) (List.Sublist.refl _))
 refine AS O ?_
 refine AE.mid (FM:=[(1,(pP bo.b 0)),(2,(pP b1 0)),(3,(Value.bool false)),(4,(pP b1 0)),(5,(vN t.1)),(6,(vN n)),(7,(Value.bool (decide (t.1<n)))),(8,(Value.bool (!(decide (t.1<n))))),(9,(Value.bool (!(decide (t.1<n))))),(15,(Value.bool ((!(decide (t.1<n)))||(!(decide (t.2.1<n)))))),(16,(Value.bool ((!(decide (t.1<n)))||(!(decide (t.2.1<n)))))),(22,(Value.bool (((!(decide (t.1<n)))||(!(decide (t.2.1<n))))||(!(decide (t.2.2<n)))))),(23,(Value.bool (((!(decide (t.1<n)))||(!(decide (t.2.1<n))))||(!(decide (t.2.2<n)))))),(29,(Value.bool ((((!(decide (t.1<n)))||(!(decide (t.2.1<n))))||(!(decide (t.2.2<n))))||(decide (t.1=t.2.1)))))]) (LM:=[Ag b1 76 (Af t),AY (some ⟨bo.b,0,none⟩) ([(vN n)])]) 6 ?_ ?_
 ·rcases Bool.eq_false_or_eq_true (((!(decide (t.1<n)))||(!(decide (t.2.1<n))))||(!(decide (t.2.2<n)))) with hg3|hg3
  ·skip
   refine AE.retell (k:=23) (u:=Value.bool true) O (by rw [hg3]) ?_
   have hg3':=hg3
   simp only [Bool.and_eq_true,Bool.or_eq_true,Bool.and_eq_false_iff,Bool.or_eq_false_iff,Bool.not_eq_true',Bool.not_eq_false',decide_eq_true_eq,decide_eq_false_iff_not] at hg3'
   refine AE.skip (AN O) O (Ac O) (AE.skip (AN O) O (Ac O) (AE.skip (AN O) O (Ac O) (AE.skip (AN O) O (Ac O) (AE.skip (AN O) O (Ac O) (AH (v:=(Value.bool true)) (Aj O O) O ?_)))))
   exact AE.nil (AD.mid (sS O (sS O (sS O (sS O (sS O (sS O (sS O (sS O (sS O (sS O (sS O (sS O (sS (by first|rfl|(rw [hg3];rfl)|rw [hg3]) (sS (by first|rfl|(rw [hg3];rfl)|rw [hg3]) (sN))))))))))))))) (List.Sublist.refl _))
  ·skip
   refine AE.retell (k:=23) (u:=Value.bool false) O (by rw [hg3]) ?_
   have hg3':=hg3
   simp only [Bool.and_eq_true,Bool.or_eq_true,Bool.and_eq_false_iff,Bool.or_eq_false_iff,Bool.not_eq_true',Bool.not_eq_false',decide_eq_true_eq,decide_eq_false_iff_not] at hg3'
   refine AE.step (v:=(pP b1 0)) (AB O) (AC (j:=0) O O underlying76 sizeOf3 O (by decide) O) O (Ac O) (AE.step (v:=(vN t.1)) (AB O) (AI (i:=0) (v:=(vN t.1)) O O Bn.a O) O (Ac O) (AE.step (v:=(pP b1 1)) (AB O) (AC (j:=1) O O underlying76 sizeOf3 O (by decide) O) O (Ac O) (AE.step (v:=(vN t.2.1)) (AB O) (AI (i:=0) (v:=(vN t.2.1)) O O Bn.a O) O (Ac O) (AE.step (v:=(Value.bool (decide (t.1=t.2.1)))) (AB O) (BY (c:=(decide (t.1=t.2.1))) O O (Oa (a:=t.1) (b:=t.2.1))) O (Ac O) (AH (v:=(Value.bool (decide (t.1=t.2.1)))) (AV O O) O ?_)))))
   exact AE.nil (AD.mid (sS O (sS O (sS O (sS O (sS O (sS O (sS O (sS O (sS O (sS O (sS O (sS O (sS (by first|rfl|(rw [hg3];rfl)|rw [hg3]) (sS (by first|rfl|(rw [hg3];rfl)|rw [hg3]) (sN))))))))))))))) (List.Sublist.refl _))
 refine AS O ?_
 refine AE.mid (FM:=[(1,(pP bo.b 0)),(2,(pP b1 0)),(3,(Value.bool false)),(4,(pP b1 0)),(5,(vN t.1)),(6,(vN n)),(7,(Value.bool (decide (t.1<n)))),(8,(Value.bool (!(decide (t.1<n))))),(9,(Value.bool (!(decide (t.1<n))))),(15,(Value.bool ((!(decide (t.1<n)))||(!(decide (t.2.1<n)))))),(16,(Value.bool ((!(decide (t.1<n)))||(!(decide (t.2.1<n)))))),(22,(Value.bool (((!(decide (t.1<n)))||(!(decide (t.2.1<n))))||(!(decide (t.2.2<n)))))),(23,(Value.bool (((!(decide (t.1<n)))||(!(decide (t.2.1<n))))||(!(decide (t.2.2<n)))))),(29,(Value.bool ((((!(decide (t.1<n)))||(!(decide (t.2.1<n))))||(!(decide (t.2.2<n))))||(decide (t.1=t.2.1))))),(30,(Value.bool ((((!(decide (t.1<n)))||(!(decide (t.2.1<n))))||(!(decide (t.2.2<n))))||(decide (t.1=t.2.1))))),(36,(Value.bool (((((!(decide (t.1<n)))||(!(decide (t.2.1<n))))||(!(decide (t.2.2<n))))||(decide (t.1=t.2.1)))||(decide (t.2.1=t.2.2)))))]) (LM:=[Ag b1 76 (Af t),AY (some ⟨bo.b,0,none⟩) ([(vN n)])]) 6 ?_ ?_
 ·rcases Bool.eq_false_or_eq_true ((((!(decide (t.1<n)))||(!(decide (t.2.1<n))))||(!(decide (t.2.2<n))))||(decide (t.1=t.2.1))) with hg4|hg4
  ·skip
   refine AE.retell (k:=30) (u:=Value.bool true) O (by rw [hg4]) ?_
   have hg4':=hg4
   simp only [Bool.and_eq_true,Bool.or_eq_true,Bool.and_eq_false_iff,Bool.or_eq_false_iff,Bool.not_eq_true',Bool.not_eq_false',decide_eq_true_eq,decide_eq_false_iff_not] at hg4'
   refine AE.skip (AN O) O (Ac O) (AE.skip (AN O) O (Ac O) (AE.skip (AN O) O (Ac O) (AE.skip (AN O) O (Ac O) (AE.skip (AN O) O (Ac O) (AH (v:=(Value.bool true)) (Aj O O) O ?_)))))
   exact AE.nil (AD.mid (sS O (sS O (sS O (sS O (sS O (sS O (sS O (sS O (sS O (sS O (sS O (sS O (sS O (sS O (sS (by first|rfl|(rw [hg4];rfl)|rw [hg4]) (sS (by first|rfl|(rw [hg4];rfl)|rw [hg4]) (sN))))))))))))))))) (List.Sublist.refl _))
  ·skip
   refine AE.retell (k:=30) (u:=Value.bool false) O (by rw [hg4]) ?_
   have hg4':=hg4
   simp only [Bool.and_eq_true,Bool.or_eq_true,Bool.and_eq_false_iff,Bool.or_eq_false_iff,Bool.not_eq_true',Bool.not_eq_false',decide_eq_true_eq,decide_eq_false_iff_not] at hg4'
   refine AE.step (v:=(pP b1 1)) (AB O) (AC (j:=1) O O underlying76 sizeOf3 O (by decide) O) O (Ac O) (AE.step (v:=(vN t.2.1)) (AB O) (AI (i:=0) (v:=(vN t.2.1)) O O Bn.a O) O (Ac O) (AE.step (v:=(pP b1 2)) (AB O) (AC (j:=2) O O underlying76 sizeOf3 O (by decide) O) O (Ac O) (AE.step (v:=(vN t.2.2)) (AB O) (AI (i:=0) (v:=(vN t.2.2)) O O Bn.a O) O (Ac O) (AE.step (v:=(Value.bool (decide (t.2.1=t.2.2)))) (AB O) (BY (c:=(decide (t.2.1=t.2.2))) O O (Oa (a:=t.2.1) (b:=t.2.2))) O (Ac O) (AH (v:=(Value.bool (decide (t.2.1=t.2.2)))) (AV O O) O ?_)))))
   exact AE.nil (AD.mid (sS O (sS O (sS O (sS O (sS O (sS O (sS O (sS O (sS O (sS O (sS O (sS O (sS O (sS O (sS (by first|rfl|(rw [hg4];rfl)|rw [hg4]) (sS (by first|rfl|(rw [hg4];rfl)|rw [hg4]) (sN))))))))))))))))) (List.Sublist.refl _))
 refine AS O ?_
 refine AE.mid (FM:=[(1,(pP bo.b 0)),(2,(pP b1 0)),(3,(Value.bool false)),(4,(pP b1 0)),(5,(vN t.1)),(6,(vN n)),(7,(Value.bool (decide (t.1<n)))),(8,(Value.bool (!(decide (t.1<n))))),(9,(Value.bool (!(decide (t.1<n))))),(15,(Value.bool ((!(decide (t.1<n)))||(!(decide (t.2.1<n)))))),(16,(Value.bool ((!(decide (t.1<n)))||(!(decide (t.2.1<n)))))),(22,(Value.bool (((!(decide (t.1<n)))||(!(decide (t.2.1<n))))||(!(decide (t.2.2<n)))))),(23,(Value.bool (((!(decide (t.1<n)))||(!(decide (t.2.1<n))))||(!(decide (t.2.2<n)))))),(29,(Value.bool ((((!(decide (t.1<n)))||(!(decide (t.2.1<n))))||(!(decide (t.2.2<n))))||(decide (t.1=t.2.1))))),(30,(Value.bool ((((!(decide (t.1<n)))||(!(decide (t.2.1<n))))||(!(decide (t.2.2<n))))||(decide (t.1=t.2.1))))),(36,(Value.bool (((((!(decide (t.1<n)))||(!(decide (t.2.1<n))))||(!(decide (t.2.2<n))))||(decide (t.1=t.2.1)))||(decide (t.2.1=t.2.2))))),(37,(Value.bool (((((!(decide (t.1<n)))||(!(decide (t.2.1<n))))||(!(decide (t.2.2<n))))||(decide (t.1=t.2.1)))||(decide (t.2.1=t.2.2))))),(43,(Value.bool ((((((!(decide (t.1<n)))||(!(decide (t.2.1<n))))||(!(decide (t.2.2<n))))||(decide (t.1=t.2.1)))||(decide (t.2.1=t.2.2)))||(decide (t.2.2=t.1)))))]) (LM:=[Ag b1 76 (Af t),AY (some ⟨bo.b,0,none⟩) ([(vN n)])]) 6 ?_ ?_
 ·rcases Bool.eq_false_or_eq_true (((((!(decide (t.1<n)))||(!(decide (t.2.1<n))))||(!(decide (t.2.2<n))))||(decide (t.1=t.2.1)))||(decide (t.2.1=t.2.2))) with hg5|hg5
  ·skip
   refine AE.retell (k:=37) (u:=Value.bool true) O (by rw [hg5]) ?_
   have hg5':=hg5
   simp only [Bool.and_eq_true,Bool.or_eq_true,Bool.and_eq_false_iff,Bool.or_eq_false_iff,Bool.not_eq_true',Bool.not_eq_false',decide_eq_true_eq,decide_eq_false_iff_not] at hg5'
   refine AE.skip (AN O) O (Ac O) (AE.skip (AN O) O (Ac O) (AE.skip (AN O) O (Ac O) (AE.skip (AN O) O (Ac O) (AE.skip (AN O) O (Ac O) (AH (v:=(Value.bool true)) (Aj O O) O ?_)))))
   exact AE.nil (AD.mid (sS O (sS O (sS O (sS O (sS O (sS O (sS O (sS O (sS O (sS O (sS O (sS O (sS O (sS O (sS O (sS O (sS (by first|rfl|(rw [hg5];rfl)|rw [hg5]) (sS (by first|rfl|(rw [hg5];rfl)|rw [hg5]) (sN))))))))))))))))))) (List.Sublist.refl _))
  ·skip
   refine AE.retell (k:=37) (u:=Value.bool false) O (by rw [hg5]) ?_
   have hg5':=hg5
   simp only [Bool.and_eq_true,Bool.or_eq_true,Bool.and_eq_false_iff,Bool.or_eq_false_iff,Bool.not_eq_true',Bool.not_eq_false',decide_eq_true_eq,decide_eq_false_iff_not] at hg5'
   refine AE.step (v:=(pP b1 2)) (AB O) (AC (j:=2) O O underlying76 sizeOf3 O (by decide) O) O (Ac O) (AE.step (v:=(vN t.2.2)) (AB O) (AI (i:=0) (v:=(vN t.2.2)) O O Bn.a O) O (Ac O) (AE.step (v:=(pP b1 0)) (AB O) (AC (j:=0) O O underlying76 sizeOf3 O (by decide) O) O (Ac O) (AE.step (v:=(vN t.1)) (AB O) (AI (i:=0) (v:=(vN t.1)) O O Bn.a O) O (Ac O) (AE.step (v:=(Value.bool (decide (t.2.2=t.1)))) (AB O) (BY (c:=(decide (t.2.2=t.1))) O O (Oa (a:=t.2.2) (b:=t.1))) O (Ac O) (AH (v:=(Value.bool (decide (t.2.2=t.1)))) (AV O O) O ?_)))))
   exact AE.nil (AD.mid (sS O (sS O (sS O (sS O (sS O (sS O (sS O (sS O (sS O (sS O (sS O (sS O (sS O (sS O (sS O (sS O (sS (by first|rfl|(rw [hg5];rfl)|rw [hg5]) (sS (by first|rfl|(rw [hg5];rfl)|rw [hg5]) (sN))))))))))))))))))) (List.Sublist.refl _))
 exact AL O (AE.nil (AD.subF (sL [3] O) (AD.then_ (AF.ret (AR O (Ai (v:=(Value.bool ((((((!(decide (t.1<n)))||(!(decide (t.2.1<n))))||(!(decide (t.2.2<n))))||(decide (t.1=t.2.1)))||(decide (t.2.1=t.2.2)))||(decide (t.2.2=t.1))))) O) (λw hw=>⟨by congr 2;rw [Bool.eq_iff_iff];simp [I0]<;>omega,hw.out⟩))))))
theorem YL (n:Nat) (bo:BX [vN n]) (ts:List (Nat×Nat×Nat)) (x:RX (rowsL Af ts) ts.length) (hl:ts.length<4611686018427387904) (w:World) {S:Nat->Prop} (hbo:Ro S w bo) (hx:Ro S w x):Calls prog 213 #[(Value.slice x.p ts.length x.c),(Value.func (.func 171) #[] #[(pP bo.b 0)])] w (Aq w (vI (idxB n ts 0))):=by
 have lbo:=DU (W:=w) hbo
 have lx:=DU (W:=w) hx
 refine A6 (args:=[(Value.slice x.p ts.length x.c),(Value.func (.func 171) #[] #[(pP bo.b 0)])]) (L:=[AY (some ⟨bo.b,0,none⟩) ([(vN n)]),AY x.p (rowsL Af ts)]) func213 O O (Ac O) (DV hbo (DV hx BN)) (AF.subF (sL [0,1] O) (q4 (AL O (AE.nil (q1 ?_)))))
 refine q4 (AS O (AH (v:=(vN ts.length)) (AG O underlying28) O (AS O (AE.nil (AD.subF (sL [0,1,4,7,8] O) ?_)))))
 refine AD.then_ (AF.block ?_)
 refine AF.lp1 (tg λ(j:Nat)=>j<=ts.length/\idxB n ts 0=idxB n (ts.drop j) j) (tg λ(j:Nat)=>[(0,(Value.slice x.p ts.length x.c)),(1,(Value.func (.func 171) #[] #[(pP bo.b 0)])),(7,(vN ts.length)),(8,(vN j))]) (tg λ(j:Nat)=>[AY (some ⟨bo.b,0,none⟩) ([(vN n)]),AY x.p (rowsL Af ts)]) (tg λ(j:Nat)=>ts.length-j) 0 (⟨Nat.zero_le _,rfl⟩) (sF O) sr (λj hJ=>?_)
 obtain ⟨hj,he⟩:=hJ
 refine q4 (AH (Ak (c:=(decide (j<ts.length))) O O (C1 (a:=j) (b:=ts.length))) O (AE.nil (q1 ?_)))
 refine AF.cond O (λhc0=>?_) (λhc0=>?_)
 ·replace hc0:=of_decide_eq_true hc0
  refine AF.skip (q1 (AF.block (q4 (AS O (AL O ?_)))))
  refine q3 (sL [0,1,7,8,5] O) (AS O (AS O (AS O (AH (v:=(pP (pB x.p) (pO x.p+j*3))) (AQ (j:=j) O O x.ok underlying28 sizeOf76 O Z) O (AH (v:=(aG (Af (ts.getD j ((0,0,0):Nat×Nat×Nat))))) (AO (vs:=Af (ts.getD j ((0,0,0):Nat×Nat×Nat))) (i:=1) O O (BI.ne x.ok Z) Cr (An Ah _ _ _ Z) (Ah _)) O ?_)))))
  refine AE.call (v:=(Value.bool (!I0 n (ts.getD j ((0,0,0):Nat×Nat×Nat))))) (AK O) (Cg (args:=[(aG (Af (ts.getD j ((0,0,0):Nat×Nat×Nat))))]) (caps:=[(pP bo.b 0)]) (all:=[(aG (Af (ts.getD j ((0,0,0):Nat×Nat×Nat)))),(pP bo.b 0)]) O O O call171) (λw hw=>Sk (ts.getD j ((0,0,0):Nat×Nat×Nat)) n bo w (Cq hw 0 O lbo)) O (Ac O) (AE.nil (AD.subF (sL [0,1,7,8,5,16] O) (AD.then_ ?_)))
  refine AF.cond O (λhc1=>?_) (λhc1=>?_)
  ·simp only [Bool.and_eq_true,Bool.or_eq_true,Bool.and_eq_false_iff,Bool.or_eq_false_iff,Bool.not_eq_true',Bool.not_eq_false',decide_eq_true_eq,decide_eq_false_iff_not] at hc1
   have hfin:=he.trans (Tu Z (by simpa using hc1))
   refine q4 (AS O (AL O (AE.nil (AD.subF (sL [0,1,7,8,5,4] O) (AD.then_ ?_)))))
   exact AF.ret (AD.in_ret (AD.then_ret (AD.round1_ret (AD.in_ret (AD.then_ret (AR O (Ai (v:=(vN j)) O) (λw hw=>⟨by rw [hfin],hw.out⟩)))))))
  ·simp only [Bool.and_eq_true,Bool.or_eq_true,Bool.and_eq_false_iff,Bool.or_eq_false_iff,Bool.not_eq_true',Bool.not_eq_false',decide_eq_true_eq,decide_eq_false_iff_not] at hc1
   refine AF.skip (AD.in_normal (AD.then_ (AF.region (AH (AW (c:=((j+1:Nat):Int)) O O (AX (a:=j) (b:=1) Z)) O (AS O ?_)))))
   exact AE.nil (AD.subF (sL [0,1,7,8,5] O) (AD.round1 (j+1) (⟨Z,he.trans (Qs Z (by simpa using hc1))⟩) Z (sF O) sr))
 ·replace hc0:=of_decide_eq_false hc0
  have hfin:=he.trans (T_ hc0)
  refine AF.exit (AD.then_exit (AD.round1_exit (AD.in_exit (q2 (AL O ?_)))))
  exact AE.nil (AD.then_ (AF.ret (AR O (Ai (v:=(vI (-1:Int))) O) (λw hw=>⟨by rw [hfin],hw.out⟩))))
theorem Vw (n:Nat) (bo:BX [vN n]) (ts:List (Nat×Nat×Nat)) (x:RX (rowsL Af ts) ts.length) (hl:ts.length<4611686018427387904) (w:World) {S:Nat->Prop} (hbo:Ro S w bo) (hx:Ro S w x):Calls prog 170 #[(Value.slice x.p ts.length x.c),(Value.func (.func 171) #[] #[(pP bo.b 0)])] w (Aq w (Value.bool (!CD n ts))):=by
 have lbo:=DU (W:=w) hbo
 have lx:=DU (W:=w) hx
 refine A6 (args:=[(Value.slice x.p ts.length x.c),(Value.func (.func 171) #[] #[(pP bo.b 0)])]) (L:=[AY (some ⟨bo.b,0,none⟩) ([(vN n)]),AY x.p (rowsL Af ts)]) func170 O O (Ac O) (DV hbo (DV hx BN)) (AF.subF (sL [0,1] O) (q4 (AL O (AE.nil (q2 ?_)))))
 refine AS O (AS O (Ee call213 (λw hw=>YL n bo ts x hl w (Cq hw 0 O lbo) (Cq hw 1 O lx)) O (AH (DY (c:=(!CD n ts)) O O (Lz n ts 0)) O (AL O (AE.nil ?_)))))
 exact AD.subF (sL [4] O) (AD.then_ (AF.ret (AR O (Ai (v:=(Value.bool (!CD n ts))) O) (λw hw=>⟨rfl,hw.out⟩))))
theorem QP (n:Nat) (ts:List (Nat×Nat×Nat)) (x:RX (rowsL Af ts) ts.length) (hl:ts.length<4611686018427387904) (w:World) {S:Nat->Prop} (hx:Ro S w x):Calls prog 116 #[(Value.slice x.p ts.length x.c),(vN n)] w (Aq w (Value.bool (CD n ts))):=by
 have lx:=DU (W:=w) hx
 refine A6 (args:=[(Value.slice x.p ts.length x.c),(vN n)]) (L:=[AY x.p (rowsL Af ts)]) func116 O O (Ac O) (DV hx BN) (AF.subF (sL [0,1] O) (q4 (Bg (cs:=[(vN n)]) O λb1=>AE.frzX 0 O O λhnb1=>AL O ?_)))
 refine q3 (sL [0,3,4] O) (AS O (AH (v:=(Value.func (.func 171) #[] #[(pP b1 0)])) (Cu (vs:=[]) (us:=[(pP b1 0)]) O O) O (Ee call170 (λw hw=>Vw n ⟨b1⟩ ts x hl w (UO (x:=(⟨b1⟩:BX [vN n])) hw 0 O hnb1) (Cq hw 1 O lx)) O (AH (BZ (c:=(!(!CD n ts))) O O) O (AL O ?_)))))
 exact AE.nil (AD.subF (sL [4] O) (AD.then_ (AF.ret (AR O (Ai (v:=(Value.bool (!(!CD n ts)))) O) (λw hw=>⟨by simp,hw.out⟩)))))
theorem My {ps:List Pt} {ts ss:List (Nat×Nat×Nat)} (x:MX ps ts ss) (hl:ts.length<4611686018427387904) (w:World) {S:Nat->Prop} (hx:Ro S w x):Calls prog 46 #[(aG (Bk x))] w (Aq w (Value.bool (CD ps.length ts))):=by
 have lx:=DU (W:=w) hx
 refine A6 (args:=[(aG (Bk x))]) (L:=[AY x.a.p (rowsL Am ps),AY x.b.p (rowsL Af ts),AY x.c.p (rowsL Af ss)]) func46 O O (Ac O) (DV hx BN) (AF.subF (sL [0] O) (q4 (Bg (cs:=Bk x) O λb1=>AL O (q3 (sL [1,2] O) ?_))))
 refine AH (v:=(pP b1 1)) (AA O underlying31 O sizeOf28 O) O (BJ 0 (Value.slice x.b.p ts.length x.b.c) B4 O (AH (v:=(pP b1 0)) (AA O underlying31 O sizeOf27 O) O (BJ 0 (Value.slice x.a.p ps.length x.a.c) DG O (AH (v:=(vN ps.length)) (AG O underlying27) O (Ee call116 (λw hw=>QP ps.length ts x.b hl w (Ot (Cq hw 1 O lx))) O ?_)))))
 exact AL O (AE.nil (AD.subF (sL [2] O) (AD.then_ (AF.ret (AR O (Ai (v:=(Value.bool (CD ps.length ts))) O) (λw hw=>⟨rfl,hw.out⟩))))))
theorem O0 {ps:List Pt} {ts ss:List (Nat×Nat×Nat)} (x:MX ps ts ss) (t:Nat) (ht:t<ts.length) (hk:I0 ps.length (ts.getD t (0,0,0))=true) (w:World) {S:Nat->Prop} (hx:Ro S w x):Calls prog 21 #[(aG (Bk x)),(vN t)] w (Aq w (Value.tuple #[(aG (Am (cor ps (ts.getD t (0,0,0)).1))),(aG (Am (cor ps (ts.getD t (0,0,0)).2.1))),(aG (Am (cor ps (ts.getD t (0,0,0)).2.2)))])):=by
 obtain ⟨k1,k2,k3⟩:=Cd hk
 have lx:=DU (W:=w) hx
 refine A6 (args:=[(aG (Bk x)),(vN t)]) (L:=[AY x.a.p (rowsL Am ps),AY x.b.p (rowsL Af ts),AY x.c.p (rowsL Af ss)]) func21 O O (Ac O) (DV hx BN) (AF.subF (sL [0,1] O) (q4 (Bg (cs:=Bk x) O λb1=>al E3 O λb2=>al E3 O λb3=>?_)))
 refine al E3 O λb4=>q6 (sL [1,2,4,5,6] O) (q4 (AS O (AH (Ak (c:=false) O O (by simp)) O (AS O ?_))))
 refine AE.step (v:=(vN t)) (AB O) (BK O) O (Ac O) (AE.step (v:=(pP b1 1)) (AB O) (AA O underlying31 O sizeOf28 O) O (Ac O) (AE.step (v:=(Value.slice x.b.p ts.length x.b.c)) (AB O) (AI (i:=3) (v:=(Value.slice x.b.p ts.length x.b.c)) O O B4.a O) O (Ac O) (AE.step (v:=(vN ts.length)) (AB O) (AG O underlying28) O (Ac O) (AE.step (v:=(Value.bool false)) (AB O) (DY (c:=false) O O (by simp;omega)) O (Ac O) (AH (v:=(Value.bool false)) (AV O O) O ?_)))))
 refine AE.nil (AD.subF (sL [1,2,4,5,6,17] O) (AD.then_ (AF.cond_false O (AF.skip (q1 ?_)))))
 refine Cm [(0,true),(1,true),(2,true),(3,true),(4,true),(5,true),(6,true),(7,true),(8,false),(9,false),(10,true)] sr (Au (v:=(pP b1 1)) O (AA O underlying31 O sizeOf28 O) (Be 3 (Value.slice x.b.p ts.length x.b.c) B4 O (Bc O (Au (v:=(pP (pB x.b.p) (pO x.b.p+t*3))) O (AQ (j:=t) O O x.b.ok underlying28 sizeOf76 O Z) (Au (v:=(aG (Af (ts.getD t ((0,0,0):Nat×Nat×Nat))))) O (AO (vs:=Af (ts.getD t ((0,0,0):Nat×Nat×Nat))) (i:=5) O O (BI.ne x.b.ok Z) Cr (An Ah _ _ _ Z) (Ah _)) ?_)))))
 refine Au (v:=(pP b1 0)) O (AA O underlying31 O sizeOf27 O) (Be 3 (Value.slice x.a.p ps.length x.a.c) DG O (Au (v:=(vN ps.length)) O (AG O underlying27) (AT.imp O (al J3 O λb5=>AT.back (sl sr) ?_))))
 refine AT.imp O (Aw O sizeOf76 O (AT.back (sl sr) (Eg O (AT.nil (AD.subF (sL [1,2,4,5,6,7,8] O) ?_)))))
 refine q1 (q4 (AH (v:=(pP b5 0)) (AC (j:=0) O O underlying76 sizeOf3 O (by decide) O) O (BJ 0 (vN ((ts.getD t ((0,0,0):Nat×Nat×Nat)).1)) Bn O (AS O (Ee (args:=[(vN ((ts.getD t ((0,0,0):Nat×Nat×Nat)).1)),(vN ps.length)]) (v:=(Value.bool true)) call61 (λw hw=>(by have h9:=DK ((ts.getD t ((0,0,0):Nat×Nat×Nat)).1) ps.length w;rw [decide_eq_true Z] at h9;exact h9)) O ?_)))))
 refine AH (BZ (c:=false) O O) O (AS O (AE.step (v:=(pP b5 1)) (AB O) (AC (j:=1) O O underlying76 sizeOf3 O (by decide) O) O (Ac O) (AE.step (v:=(vN ((ts.getD t ((0,0,0):Nat×Nat×Nat)).2.1))) (AB O) (AI (i:=0) (v:=(vN ((ts.getD t ((0,0,0):Nat×Nat×Nat)).2.1))) O O Bn.a O) O (Ac O) (AE.step (v:=(vN ps.length)) (AB O) (BK O) O (Ac O) (AE.call (v:=(Value.bool true)) (AB O) (A_ (args:=[(vN ((ts.getD t ((0,0,0):Nat×Nat×Nat)).2.1)),(vN ps.length)]) O O call61) (λw hw=>(by have h9:=DK ((ts.getD t ((0,0,0):Nat×Nat×Nat)).2.1) ps.length w;rw [decide_eq_true Z] at h9;exact h9)) O (Ac O) ?_)))))
 refine AE.step (v:=(Value.bool false)) (AB O) (BZ (c:=false) O O) O (Ac O) (AH (v:=(Value.bool false)) (AV O O) O (AS O (AE.step (v:=(pP b5 2)) (AB O) (AC (j:=2) O O underlying76 sizeOf3 O (by decide) O) O (Ac O) (AE.step (v:=(vN ((ts.getD t ((0,0,0):Nat×Nat×Nat)).2.2))) (AB O) (AI (i:=0) (v:=(vN ((ts.getD t ((0,0,0):Nat×Nat×Nat)).2.2))) O O Bn.a O) O (Ac O) (AE.step (v:=(vN ps.length)) (AB O) (BK O) O (Ac O) ?_)))))
 refine AE.call (v:=(Value.bool true)) (AB O) (A_ (args:=[(vN ((ts.getD t ((0,0,0):Nat×Nat×Nat)).2.2)),(vN ps.length)]) O O call61) (λw hw=>(by have h9:=DK ((ts.getD t ((0,0,0):Nat×Nat×Nat)).2.2) ps.length w;rw [decide_eq_true Z] at h9;exact h9)) O (Ac O) (AE.step (v:=(Value.bool false)) (AB O) (BZ (c:=false) O O) O (Ac O) (AH (v:=(Value.bool false)) (AV O O) O (AE.nil (AD.subF (sL [1,2,4,5,6,7,47] O) (AD.then_ ?_)))))
 refine AF.cond_false O (AF.skip (q1 (Cm [(0,true),(1,true),(2,true),(3,true),(4,true),(5,true),(6,true),(7,true),(8,true),(9,true),(10,true),(11,true),(12,true),(13,true),(14,true),(15,true),(16,true),(17,true),(18,false),(19,false),(20,false)] (sk (sl (sl (sl sr)))) (Au (v:=(pP b1 0)) O (AA O underlying31 O sizeOf27 O) (Be 1 (Value.slice x.a.p ps.length x.a.c) DG O ?_)))))
 refine Au (v:=(pP b5 0)) O (AC (j:=0) O O underlying76 sizeOf3 O (by decide) O) (Be 0 (vN ((ts.getD t ((0,0,0):Nat×Nat×Nat)).1)) Bn O (Au (v:=(pP (pB x.a.p) (pO x.a.p+((ts.getD t ((0,0,0):Nat×Nat×Nat)).1)*10))) O (AQ (j:=(ts.getD t ((0,0,0):Nat×Nat×Nat)).1) O O x.a.ok underlying27 sizeOf55 O Z) (Au (v:=(aG (Am (ps.getD ((ts.getD t ((0,0,0):Nat×Nat×Nat)).1) (⟨0,0⟩:Pt))))) O (AO (vs:=Am (ps.getD ((ts.getD t ((0,0,0):Nat×Nat×Nat)).1) (⟨0,0⟩:Pt))) (i:=2) O O (BI.ne x.a.ok Z) BQ (An BG _ _ _ Z) (BG _)) (Au (v:=(pP b1 0)) O (AA O underlying31 O sizeOf27 O) (Be 1 (Value.slice x.a.p ps.length x.a.c) DG O ?_)))))
 refine Au (v:=(pP b5 1)) O (AC (j:=1) O O underlying76 sizeOf3 O (by decide) O) (Be 0 (vN ((ts.getD t ((0,0,0):Nat×Nat×Nat)).2.1)) Bn O (Au (v:=(pP (pB x.a.p) (pO x.a.p+((ts.getD t ((0,0,0):Nat×Nat×Nat)).2.1)*10))) O (AQ (j:=(ts.getD t ((0,0,0):Nat×Nat×Nat)).2.1) O O x.a.ok underlying27 sizeOf55 O Z) (Au (v:=(aG (Am (ps.getD ((ts.getD t ((0,0,0):Nat×Nat×Nat)).2.1) (⟨0,0⟩:Pt))))) O (AO (vs:=Am (ps.getD ((ts.getD t ((0,0,0):Nat×Nat×Nat)).2.1) (⟨0,0⟩:Pt))) (i:=2) O O (BI.ne x.a.ok Z) BQ (An BG _ _ _ Z) (BG _)) (Au (v:=(pP b1 0)) O (AA O underlying31 O sizeOf27 O) (Be 1 (Value.slice x.a.p ps.length x.a.c) DG O ?_)))))
 refine Au (v:=(pP b5 2)) O (AC (j:=2) O O underlying76 sizeOf3 O (by decide) O) (Be 0 (vN ((ts.getD t ((0,0,0):Nat×Nat×Nat)).2.2)) Bn O (Au (v:=(pP (pB x.a.p) (pO x.a.p+((ts.getD t ((0,0,0):Nat×Nat×Nat)).2.2)*10))) O (AQ (j:=(ts.getD t ((0,0,0):Nat×Nat×Nat)).2.2) O O x.a.ok underlying27 sizeOf55 O Z) (Au (v:=(aG (Am (ps.getD ((ts.getD t ((0,0,0):Nat×Nat×Nat)).2.2) (⟨0,0⟩:Pt))))) O (AO (vs:=Am (ps.getD ((ts.getD t ((0,0,0):Nat×Nat×Nat)).2.2) (⟨0,0⟩:Pt))) (i:=2) O O (BI.ne x.a.ok Z) BQ (An BG _ _ _ Z) (BG _)) (AT.imp O (IF O sizeOf55 O ?_)))))
 refine AT.back (sk (sl (sl (sl sr)))) (AT.imp O (QQ O sizeOf55 O (AT.back (sk (sl (sl (sl sr)))) (AT.imp O (DP O sizeOf55 O ?_)))))
 exact AT.back (sk (sl (sl (sl sr)))) (AT.nil (AD.subF (sL [1,2,4,5,6,7] O) (AD.then_ (AF.ret (Eu O (Az (i:=3) (cs:=Am (ps.getD ((ts.getD t ((0,0,0):Nat×Nat×Nat)).1) (⟨0,0⟩:Pt))) O O isAgg55 sizeOf55 O) (Az (i:=2) (cs:=Am (ps.getD ((ts.getD t ((0,0,0):Nat×Nat×Nat)).2.1) (⟨0,0⟩:Pt))) O O isAgg55 sizeOf55 O) (Az (i:=1) (cs:=Am (ps.getD ((ts.getD t ((0,0,0):Nat×Nat×Nat)).2.2) (⟨0,0⟩:Pt))) O O isAgg55 sizeOf55 O) (λw hw=>⟨rfl,hw.out⟩))))))
end
section
set_option maxRecDepth 100000
theorem UD (a:Nat) (w:World)  :Calls prog 176 #[(vN a)] w (Aq w (Value.bool false)):=by
 refine Ae (args:=[(vN a)]) func176 O O (Ac O) (AF.subF (sL [0] O) (q4 (AL O (AE.nil (q2 ?_)))))
 refine AS O (AS O (AH (CB (c:=false) O O (by simp)) O (AL O (AE.nil (AD.subF (sL [2] O) ?_)))))
 exact AD.then_ (AF.ret (AR O (Ai (v:=(Value.bool false)) O) (λw hw=>⟨rfl,hw.out⟩)))
theorem Px (a b:Nat) (w:World)  :Calls prog 127 #[(vN a),(vN b)] w (Aq w (vI (D_ a b))):=by
 refine Ae (args:=[(vN a),(vN b)]) func127 O O (Ac O) (AF.subF (sL [0,1] O) (q4 (AL O (AE.nil (q2 ?_)))))
 refine AS O (BR call176 (UD a) O (AL O (q3 (sL [0,1,4,5] O) (AS O (BR call176 (UD b) O ?_)))))
 refine AL O (q6 (sL [0,1,4,5,6] O) (q4 (AS O (AE.nil (AD.subF (sL [0,1,4,6,11] O) ?_)))))
 refine AD.then_ (AF.cond_false O (AF.skip (q1 (q4 (AS O ?_)))))
 refine AE.nil (AD.subF (sL [0,1,4,6,13] O) (AD.then_ (AF.cond_false O (AF.skip (q1 ?_)))))
 refine q4 (AS O (AS O (AH (Ak (c:=(decide (a<b))) O O (C1 (a:=a) (b:=b))) O (AE.nil (AD.subF (sL [0,1,4,6,16] O) ?_)))))
 refine AD.then_ ?_
 refine AF.cond O (λhc3=>?_) (λhc3=>?_)
 ·replace hc3:=of_decide_eq_true hc3
  have hr:=QI hc3
  exact q4 (AL O (AE.nil (AD.then_ (AF.ret (AD.then_ret (AR O (Ai (v:=(vI (-1:Int))) O) (λw hw=>⟨by rw [hr]<;>rfl,hw.out⟩)))))))
 ·replace hc3:=of_decide_eq_false hc3
  refine AF.skip (q1 (q4 (AS O (AS O (AH (CW (c:=(decide (b<a))) O O (C1 (a:=b) (b:=a))) O ?_)))))
  refine AE.nil (AD.subF (sL [0,1,4,6,19] O) (AD.then_ ?_))
  refine AF.cond O (λhc4=>?_) (λhc4=>?_)
  ·replace hc4:=of_decide_eq_true hc4
   have hr:=Qd hc3 hc4
   exact q4 (AL O (AE.nil (AD.then_ (AF.ret (AD.then_ret (AR O (Ai (v:=(vI 1)) O) (λw hw=>⟨by rw [hr]<;>rfl,hw.out⟩)))))))
  ·replace hc4:=of_decide_eq_false hc4
   have hr:=Qe hc3 hc4
   exact AF.skip (q2 (AL O (AE.nil (AD.then_ (AF.ret (AR O (Ai (v:=(vI 0)) O) (λw hw=>⟨by rw [hr]<;>rfl,hw.out⟩)))))))
theorem UP (a b:Int) (g:Nat) (w:World) (hg:w.heap[g]?=some (.cells ([(vI a),(vI b)]).toArray 3 (0,0))):Calls prog 126 #[(Value.slice (some ⟨g,0,none⟩) 2 2)] w (λe w'=>e=.returned (Value.int .i64 (Td a b))/\Lb w w' (some g)/\w'.heap[g]?=some (.cells ([(vI a),(vI b)]).toArray 3 (0,0))):=by
 refine Ir (args:=[(Value.slice (some ⟨g,0,none⟩) 2 2)]) (g:=g) (T:=3) (cs:=[(vI a),(vI b)]) func126 O O (Ac O) hg (AF.subF (sL [0] O) (q4 (AL O (AE.nil (q2 ?_)))))
 refine AL O (AE.nil (q1 (q4 (AS O (AH (v:=(vI 2)) (AG O underlying33) O ?_)))))
 refine AS O (AE.nil (AD.subF (sL [2,3,6,7,8] O) (AD.then_ (AF.block (AF.unroll 4 ?_)))))
 refine FO.step (q4 (AH (Ak (c:=true) O O (by decide)) O (AE.nil (q1 (AF.cond_true O ?_)))))
 refine AF.skip (q1 (AF.block (q4 (AH (v:=(pP g 0)) (AM (j:=0) O O underlying33 sizeOf3 O Z O) O (BJ 0 (vI a) Bn O ?_)))))
 refine AL O (q3 (sL [2,3,6,7,8,5] O) (AS O (AS O (AH (CB (c:=(decide (a≠(0:Int)))) O O O) O (AE.nil ?_)))))
 refine AD.subF (sL [2,3,6,7,8,5,14] O) (AD.then_ ?_)
 refine AF.cond O (λhc1=>?_) (λhc1=>?_)
 ·replace hc1:=of_decide_eq_true hc1
  have hr:Td a b=a:=if_pos hc1
  refine q4 (AS O (AL O (AE.nil (AD.subF (sL [2,3,6,7,8,5] O) (AD.then_ ?_)))))
  exact AF.ret (AD.in_ret (AD.then_ret (AD.then_ret (AD.in_ret (AD.then_ret (AR O (Ai (v:=(vI a)) O) (λw hw=>⟨by rw [hr]<;>rfl,hw.1,hw.get (i:=0) O⟩)))))))
 ·replace hc1:=of_decide_eq_false hc1
  have hq:=hc1
  refine AF.skip (AD.in_normal (AD.then_ (AF.region (AH (AW (c:=(1:Int)) O O (by decide)) O (AS O ?_)))))
  refine AE.nil (AD.subF (sL [2,3,6,7,8,5] O) (AD.again (FO.step (q4 (AH (Ak (c:=true) O O (by decide)) O ?_)))))
  refine AE.nil (q1 (AF.cond_true O (AF.skip (q1 (AF.block ?_)))))
  refine q4 (AH (v:=(pP g 1)) (AM (j:=1) O O underlying33 sizeOf3 O Z O) O (BJ 0 (vI b) Bn O (AL O (q3 (sL [2,3,6,7,8,5] O) (AS O ?_)))))
  refine AS O (AH (CB (c:=(decide (b≠(0:Int)))) O O O) O (AE.nil (AD.subF (sL [2,3,6,7,8,5,14] O) (AD.then_ ?_))))
  refine AF.cond O (λhc1=>?_) (λhc1=>?_)
  ·replace hc1:=of_decide_eq_true hc1
   have hr:Td a b=b:=by rw [Td,if_neg hq,if_pos hc1]
   refine q4 (AS O (AL O (AE.nil (AD.subF (sL [2,3,6,7,8,5] O) (AD.then_ ?_)))))
   exact AF.ret (AD.in_ret (AD.then_ret (AD.then_ret (AD.in_ret (AD.then_ret (AR O (Ai (v:=(vI b)) O) (λw hw=>⟨by rw [hr]<;>rfl,hw.1,hw.get (i:=0) O⟩)))))))
  ·replace hc1:=of_decide_eq_false hc1
   have hr:Td a b=0:=by rw [Td,if_neg hq,if_neg hc1]
   refine AF.skip (AD.in_normal (AD.then_ (AF.region (AH (AW (c:=(2:Int)) O O (by decide)) O (AS O ?_)))))
   refine AE.nil (AD.subF (sL [2,3,6,7,8,5] O) (AD.again (FO.step (q4 (AH (Ak (c:=false) O O (by decide)) O ?_)))))
   refine AE.nil (q1 (AF.cond_false O (AF.exit (AD.then_exit (AD.then_exit ?_)))))
   refine AD.in_exit (q2 (AS O (AL O (AE.nil (AD.subF (sL [2,3,6,7,8,5] O) ?_)))))
   exact AD.then_ (AF.ret (AR O (Ai (v:=(vI 0)) O) (λw hw=>⟨by rw [hr]<;>rfl,hw.1,hw.get (i:=0) O⟩)))
end
end Go.Proofs.YtfbomiejpbchdaaGreat
