import Derived.Test.YtbfdamnfcmefmaaGreatDoorPart20
namespace Go.Proofs.YtbfdamnfcmefmaaGreatDoor
open Go Go.RowKit Go.Proofs.Tryz
open Go.Value renaming slice→qz,bool→qa
set_option linter.unusedVariables false
set_option linter.unusedSimpArgs false
section
structure MX (ps:List Pt) (ts ss:List (Tq3)) where
  a:RX (rowsL AZ ps) ps.length
  b:RX (rowsL Ad ts) ts.length
  c:RX (rowsL Ad ss) ss.length
def Ce {ps:List Pt} {ts ss:List (Tq3)} (x:MX ps ts ss):List Value:=[x.a.val,x.b.val,x.c.val]
theorem ZM {ps:List Pt} {ts ss:List (Tq3)} {x:MX ps ts ss} {y:As} (hy:y∈[x.a.row,x.b.row,x.c.row]):y.ro=true:=by
  simp only [xO,List.not_mem_nil,or_false] at hy
  rcases hy with rfl|rfl|rfl<;>rfl
instance {ps:List Pt} {ts ss:List (Tq3)}:C6 (MX ps ts ss):=⟨λx=>aG (Ce x),λx=>[x.a.row,x.b.row,x.c.row],λx y hy=>ZM hy⟩
def MG.mx (g:MG):MX g.ps g.ts g.ss:=⟨g.a,g.b,g.c⟩
structure BX (cs:List Value) where
  b:Nat
instance {cs:List Value}:C6 (BX cs):=⟨λx=>pP x.b 0,λx=>[AP (some ⟨x.b,0,none⟩) cs],λx y hy=>by rcases xP.1 hy with rfl;rfl⟩
theorem HV {b:Nat} {T:TypeId} {cs:List Value} {o:Obj} (h:(AX b T cs).P o):(AP (jk b) cs).P o:=⟨cs.toArray,T,(0,0),h,by show (cs.toArray.toList.drop 0).take cs.length=cs;simp⟩
section
variable {S:Nat->Prop} {w W:World} {w0:BF} {L:List As} {ps:List Pt} {ts ss:List (Tq3)} {cs:List Value}
theorem dv {x:MX ps ts ss} (h:Ro S w x):Ro S w x.a:=λy hy=>by rcases xP.1 hy with rfl;exact h _ List.mem_cons_self
theorem cE {x:MX ps ts ss} (h:Ro S w x):Ro S w x.b:=λy hy=>by rcases xP.1 hy with rfl;exact h _ (List.mem_cons_of_mem _ List.mem_cons_self)
theorem VI (hw:BI w0 w L) (i:Nat) {x:BX cs} (hi:L[i]?=some (AP (some ⟨x.b,0,none⟩) cs)) (hb:w0.w.heap.size<=x.b):Ro (SL w0 S L) w x:=λy hy=>by
  rcases xP.1 hy with rfl
  exact ⟨hw.holds hi,λc e=>⟨⟨_,List.mem_of_getElem? hi,rfl,e⟩,.inl (by injection e with e;rw [<-e];exact hb)⟩⟩
end
section
variable {P:Program} {ops:Array Oper} {rest:List Oper} {Q:Exit->Act->World->Prop} {n d:Nat} {F:List (Nat×Value)} {w0:BF} {S:Nat->Prop} {L:List As} {t:TypeId} {p:String} {af:Array Edge} {y:Operand} {f:FuncId} {xs:List Operand} {args:List Value} {ts:Array TypeId}
theorem yM (i:Nat) {b:Nat} {T:TypeId} {cs:List Value} (hi:L[i]?=some (AX b T cs)) (hex:w0.ex=none) (next:w0.w.heap.size<=b->AU P ops rest Q n F w0 (L.set i (AP (jk b) cs))):AU P ops rest Q n F w0 L:=λa w ha hw=>by
  refine next ?_ a w ha (hw.freeze hi O (λo hp=>HV hp) (λe=>by cases e))
  rcases (hw.2.1 _ (List.mem_of_getElem? hi) b rfl).1 with h1|h1|h1
  · cases h1
  · exact h1
  · rw [hex] at h1;cases h1
end
def JM (n:Nat) (t:Tq3):Bool:=decide (t.1<n)&&decide (t.2.1<n)&&decide (t.2.2<n)&&!decide (t.1=t.2.1)&&!decide (t.2.1=t.2.2)&&!decide (t.2.2=t.1)
def BV (n:Nat) (ts:List (Tq3)):Bool:=ts.all (JM n)
theorem S3 {ps:List Pt} {ts:List (Tq3)} (h:FV ps ts):BV ps.length ts=true:=List.all_eq_true.2 λt ht=>by
  obtain ⟨j,hj,rfl⟩:=List.getElem_of_mem ht
  have k:=h.tri j hj
  rw [show ts.getD j (0,0,0)=ts[j] by rw [List.getD,xQ hj];rfl] at k
  simp [JM,k.a,k.b,k.c,k.ab,k.bc,k.ca]
theorem CQ {n:Nat} {ts:List (Tq3)} (h:BV n ts=true) {j:Nat} (hj:j<ts.length):JM n (ts.getD j (0,0,0))=true:=by
  rw [List.getD,xQ hj]
  exact List.all_eq_true.1 h _ (List.getElem_mem hj)
theorem DP {n:Nat} {t:Tq3} (h:JM n t=true):t.1<n/\t.2.1<n/\t.2.2<n:=by
  simp [JM] at h;omega
def idxB (n:Nat):List (Tq3)->Nat->Int
  | [],_ => -1
  | t::r,i=>if JM n t=true then idxB n r (i+1) else (i:Int)
theorem FZ {α:Type} {ts:List α} {d:α} {j:Nat} (hj:j<ts.length):ts.drop j=ts.getD j d::ts.drop (j+1):=by
  rw [List.drop_eq_getElem_cons hj,List.getD,xQ hj];rfl
theorem Sh {n:Nat} {ts:List (Tq3)} {j:Nat} (hj:j<ts.length) (h:JM n (ts.getD j (0,0,0))=true):idxB n (ts.drop j) j=idxB n (ts.drop (j+1)) (j+1):=by
  rw [FZ (d:=(0,0,0)) hj];exact if_pos h
theorem VF {n:Nat} {ts:List (Tq3)} {j:Nat} (hj:j<ts.length) (h:JM n (ts.getD j (0,0,0))=false):idxB n (ts.drop j) j=(j:Int):=by
  rw [FZ (d:=(0,0,0)) hj];exact if_neg (by rw [h];exact Bool.false_ne_true)
theorem VE {n:Nat} {ts:List (Tq3)} {j:Nat} (hj:¬j<ts.length):idxB n (ts.drop j) j = -1:=by
  rw [List.drop_of_length_le Z];rfl
theorem M8 (n:Nat):∀(ts:List (Tq3)) (i:Nat),decide (0<=idxB n ts i)=!BV n ts
  | [],i=>rfl
  | t::r,i=>by
    unfold idxB BV
    rw [List.all_cons]
    cases h:JM n t with
    | true=>rw [if_pos rfl,Bool.true_and];exact M8 n r (i+1)
    | false=>rw [if_neg Bool.false_ne_true,Bool.false_and];simp
def cor (ps:List Pt) (k:Nat):Pt:=ps.getD k ⟨0,0⟩
def IM (a b c p:Pt):Nat:=if AF a b c=0 then 0 else FR (AF p b c/AF a b c) (AF a p c/AF a b c) (AF a b p/AF a b c)
def JZ (ps:List Pt) (q:Pt) (t:Tq3):Nat:=IM (cor ps t.1) (cor ps t.2.1) (cor ps t.2.2) q
end
section
structure RM (N:Nat) (ts ss:List (Tq3)) where
  cs:List Value
  ds:List Value
  a:RX cs N
  b:RX (rowsL Ad ts) ts.length
  c:RX ds ss.length
def XG {N:Nat} {ts ss:List (Tq3)} (x:RM N ts ss):List Value:=[x.a.val,x.b.val,x.c.val]
theorem cC {N:Nat} {ts ss:List (Tq3)} {x:RM N ts ss} {y:As} (hy:y∈[x.a.row,x.b.row,x.c.row]):y.ro=true:=by
  simp only [xO,List.not_mem_nil,or_false] at hy
  rcases hy with rfl|rfl|rfl<;>rfl
instance {N:Nat} {ts ss:List (Tq3)}:C6 (RM N ts ss):=⟨λx=>aG (XG x),λx=>[x.a.row,x.b.row,x.c.row],λx y hy=>cC hy⟩
section
variable {S:Nat->Prop} {w:World} {N:Nat} {ts ss:List (Tq3)}
theorem cF {x:RM N ts ss} (h:Ro S w x):Ro S w x.b:=λy hy=>by rcases xP.1 hy with rfl;exact h _ (List.mem_cons_of_mem _ List.mem_cons_self)
end
def MX.rm {ps:List Pt} {ts ss:List (Tq3)} (x:MX ps ts ss):RM ps.length ts ss:=⟨rowsL AZ ps,rowsL Ad ss,x.a,x.b,x.c⟩
theorem bn {S:Nat->Prop} {w:World} {ps:List Pt} {ts ss:List (Tq3)} {x:MX ps ts ss} (h:Ro S w x):Ro S w x.rm:=λy hy=>h y hy
structure RU (N M K:Nat) where
  cs:List Value
  es:List Value
  ds:List Value
  a:RX cs N
  b:RX es M
  c:RX ds K
def fM {N M K:Nat} (x:RU N M K):List Value:=[x.a.val,x.b.val,x.c.val]
theorem cJ {N M K:Nat} {x:RU N M K} {y:As} (hy:y∈[x.a.row,x.b.row,x.c.row]):y.ro=true:=by
  simp only [xO,List.not_mem_nil,or_false] at hy
  rcases hy with rfl|rfl|rfl<;>rfl
instance {N M K:Nat}:C6 (RU N M K):=⟨λx=>aG (fM x),λx=>[x.a.row,x.b.row,x.c.row],λx y hy=>cJ hy⟩
end
section
set_option maxRecDepth 100000
theorem Ck (p n:Nat) (w:World)  :Calls prog 117 #[(vN p),(vN n)] w (Ag w (qa (decide (p<n)))):=by
 refine AW (args:=[(vN p),(vN n)]) func117 O O (BE O) (zM (sL [0,1] O) (q4 (asg' O (oNl' (q2 (AM O (AC (D5 (c:=(decide (0<=p))) O O (YJ (a:=0) (b:=p))) O (AM O ?_))))))))
 refine zi (FM:=[(0,(vN p)),(1,(vN n)),(4,(qa false)),(5,(vN p)),(6,(qa (decide (0<=p)))),(7,(qa (decide (0<=p)))),(11,(qa ((decide (0<=p))&&(decide (p<n)))))]) (LM:=[]) 4 ?_ ?_
 ·rcases xR (decide (0<=p)) with hg1|hg1
  ·refine zK (k:=7) (u:=qa true) O (by rw [hg1]) ?_
   have hg1':=xU hg1
   exact F0 O (F0 O (Av (v:=(qa (decide (p<n)))) O (Aa (c:=(decide (p<n))) O O (DF (a:=p) (b:=n))) (AC (v:=(qa (decide (p<n)))) (AQ O O) O (oNl' (zT Cc (xS _))))))
  ·refine zK (k:=7) (u:=qa false) O (by rw [hg1]) ?_
   have hg1':=xT hg1
   exact BD O (BD O (BD O (AC (v:=(qa false)) (AL O O) O (oNl' (zT Cc (xS _))))))
 exact asg' O (oNl' (zB (sL [4] O) (zA (zH (ret_one O (rd_tmp (v:=(qa ((decide (0<=p))&&(decide (p<n))))) O) (λw hw=>⟨by simp,hw.out⟩))))))
theorem Vw (t:Tq3) (n:Nat) (bo:BX [vN n]) (w:World) {S:Nat->Prop} (hbo:Ro S w bo):Calls prog 166 #[(aG (Ad t)),(pP bo.b 0)] w (Ag w (qa (!JM n t))):=by
 have lbo:=Db (W:=w) hbo
 refine Ak (args:=[(aG (Ad t)),(pP bo.b 0)]) (L:=[AP (some ⟨bo.b,0,none⟩) ([(vN n)])]) func166 O O (BE O) (De hbo A_) (zM (sL [0,1] O) (q4 (BZ (cs:=Ad t) O λb1=>asg' O (q3 (sL [1,2,3] O) (AC (v:=(pP b1 0)) (AB (j:=0) O O underlying71 sizeOf3 O jY O) O (BA 0 (vN t.1) BP O (AC (Au (q:=some ⟨bo.b,0,none⟩) (v:=(vN n)) (off:=0) (i:=1) O O (λe=>by cases e) BP O) O (ck' call117 (Ck t.1 n) O (AC (BG (c:=(!(decide (t.1<n)))) O O) O (AM O ?_))))))))))
 refine zi (FM:=[(1,(pP bo.b 0)),(2,(pP b1 0)),(3,(qa false)),(4,(pP b1 0)),(5,(vN t.1)),(6,(vN n)),(7,(qa (decide (t.1<n)))),(8,(qa (!(decide (t.1<n))))),(9,(qa (!(decide (t.1<n))))),(15,(qa ((!(decide (t.1<n)))||(!(decide (t.2.1<n))))))]) (LM:=[AX b1 71 (Ad t),AP (some ⟨bo.b,0,none⟩) ([(vN n)])]) 6 ?_ ?_
 ·rcases xR (!(decide (t.1<n))) with hg1|hg1
  ·refine zK (k:=9) (u:=qa true) O (by rw [hg1]) ?_
   have hg1':=hg1
   simp only [jK] at hg1'
   exact BD O (BD O (BD O (BD O (BD O (AC (v:=(qa true)) (AQ O O) O (oNl' (zT Cc (xS _))))))))
  ·refine zK (k:=9) (u:=qa false) O (by rw [hg1]) ?_
   have hg1':=hg1
   simp only [jK] at hg1'
   exact Av (v:=(pP b1 1)) O (AB (j:=1) O O underlying71 sizeOf3 O jY O) (Av (v:=(vN t.2.1)) O (AD (i:=0) (v:=(vN t.2.1)) O O BP.a O) (Av (v:=(vN n)) O (Au (q:=some ⟨bo.b,0,none⟩) (v:=(vN n)) (off:=0) (i:=1) O O (λe=>by cases e) BP O) (zg (v:=(qa (decide (t.2.1<n)))) (AY O) (Ao (args:=[(vN t.2.1),(vN n)]) O O call117) (λw hw=>Ck t.2.1 n w) O (BE O) (Av (v:=(qa (!(decide (t.2.1<n))))) O (BG (c:=(!(decide (t.2.1<n)))) O O) (AC (v:=(qa (!(decide (t.2.1<n))))) (AL O O) O (oNl' (zT Cc (xS _))))))))
 refine AM O ?_
 refine zi (FM:=[(1,(pP bo.b 0)),(2,(pP b1 0)),(3,(qa false)),(4,(pP b1 0)),(5,(vN t.1)),(6,(vN n)),(7,(qa (decide (t.1<n)))),(8,(qa (!(decide (t.1<n))))),(9,(qa (!(decide (t.1<n))))),(15,(qa ((!(decide (t.1<n)))||(!(decide (t.2.1<n)))))),(16,(qa ((!(decide (t.1<n)))||(!(decide (t.2.1<n)))))),(22,(qa (((!(decide (t.1<n)))||(!(decide (t.2.1<n))))||(!(decide (t.2.2<n))))))]) (LM:=[AX b1 71 (Ad t),AP (some ⟨bo.b,0,none⟩) ([(vN n)])]) 6 ?_ ?_
 ·rcases xR ((!(decide (t.1<n)))||(!(decide (t.2.1<n)))) with hg2|hg2
  ·refine zK (k:=16) (u:=qa true) O (by rw [hg2]) ?_
   have hg2':=hg2
   simp only [jK] at hg2'
   exact BD O (BD O (BD O (BD O (BD O (AC (v:=(qa true)) (AQ O O) O (oNl' (zT Hl (xS _))))))))
  ·refine zK (k:=16) (u:=qa false) O (by rw [hg2]) ?_
   have hg2':=hg2
   simp only [jK] at hg2'
   exact Av (v:=(pP b1 2)) O (AB (j:=2) O O underlying71 sizeOf3 O jY O) (Av (v:=(vN t.2.2)) O (AD (i:=0) (v:=(vN t.2.2)) O O BP.a O) (Av (v:=(vN n)) O (Au (q:=some ⟨bo.b,0,none⟩) (v:=(vN n)) (off:=0) (i:=1) O O (λe=>by cases e) BP O) (zg (v:=(qa (decide (t.2.2<n)))) (AY O) (Ao (args:=[(vN t.2.2),(vN n)]) O O call117) (λw hw=>Ck t.2.2 n w) O (BE O) (Av (v:=(qa (!(decide (t.2.2<n))))) O (BG (c:=(!(decide (t.2.2<n)))) O O) (AC (v:=(qa (!(decide (t.2.2<n))))) (AL O O) O (oNl' (zT Hl (xS _))))))))
 refine AM O ?_
 refine zi (FM:=[(1,(pP bo.b 0)),(2,(pP b1 0)),(3,(qa false)),(4,(pP b1 0)),(5,(vN t.1)),(6,(vN n)),(7,(qa (decide (t.1<n)))),(8,(qa (!(decide (t.1<n))))),(9,(qa (!(decide (t.1<n))))),(15,(qa ((!(decide (t.1<n)))||(!(decide (t.2.1<n)))))),(16,(qa ((!(decide (t.1<n)))||(!(decide (t.2.1<n)))))),(22,(qa (((!(decide (t.1<n)))||(!(decide (t.2.1<n))))||(!(decide (t.2.2<n)))))),(23,(qa (((!(decide (t.1<n)))||(!(decide (t.2.1<n))))||(!(decide (t.2.2<n)))))),(29,(qa ((((!(decide (t.1<n)))||(!(decide (t.2.1<n))))||(!(decide (t.2.2<n))))||(decide (t.1=t.2.1)))))]) (LM:=[AX b1 71 (Ad t),AP (some ⟨bo.b,0,none⟩) ([(vN n)])]) 6 ?_ ?_
 ·rcases xR (((!(decide (t.1<n)))||(!(decide (t.2.1<n))))||(!(decide (t.2.2<n)))) with hg3|hg3
  ·refine zK (k:=23) (u:=qa true) O (by rw [hg3]) ?_
   have hg3':=hg3
   simp only [jK] at hg3'
   exact BD O (BD O (BD O (BD O (BD O (AC (v:=(qa true)) (AQ O O) O (oNl' (zT Pn (xS _))))))))
  ·refine zK (k:=23) (u:=qa false) O (by rw [hg3]) ?_
   have hg3':=hg3
   simp only [jK] at hg3'
   exact Av (v:=(pP b1 0)) O (AB (j:=0) O O underlying71 sizeOf3 O jY O) (Av (v:=(vN t.1)) O (AD (i:=0) (v:=(vN t.1)) O O BP.a O) (Av (v:=(pP b1 1)) O (AB (j:=1) O O underlying71 sizeOf3 O jY O) (Av (v:=(vN t.2.1)) O (AD (i:=0) (v:=(vN t.2.1)) O O BP.a O) (Av (v:=(qa (decide (t.1=t.2.1)))) O (BM (c:=(decide (t.1=t.2.1))) O O (Mz (a:=t.1) (b:=t.2.1))) (AC (v:=(qa (decide (t.1=t.2.1)))) (AL O O) O (oNl' (zT Pn (xS _))))))))
 refine AM O ?_
 refine zi (FM:=[(1,(pP bo.b 0)),(2,(pP b1 0)),(3,(qa false)),(4,(pP b1 0)),(5,(vN t.1)),(6,(vN n)),(7,(qa (decide (t.1<n)))),(8,(qa (!(decide (t.1<n))))),(9,(qa (!(decide (t.1<n))))),(15,(qa ((!(decide (t.1<n)))||(!(decide (t.2.1<n)))))),(16,(qa ((!(decide (t.1<n)))||(!(decide (t.2.1<n)))))),(22,(qa (((!(decide (t.1<n)))||(!(decide (t.2.1<n))))||(!(decide (t.2.2<n)))))),(23,(qa (((!(decide (t.1<n)))||(!(decide (t.2.1<n))))||(!(decide (t.2.2<n)))))),(29,(qa ((((!(decide (t.1<n)))||(!(decide (t.2.1<n))))||(!(decide (t.2.2<n))))||(decide (t.1=t.2.1))))),(30,(qa ((((!(decide (t.1<n)))||(!(decide (t.2.1<n))))||(!(decide (t.2.2<n))))||(decide (t.1=t.2.1))))),(36,(qa (((((!(decide (t.1<n)))||(!(decide (t.2.1<n))))||(!(decide (t.2.2<n))))||(decide (t.1=t.2.1)))||(decide (t.2.1=t.2.2)))))]) (LM:=[AX b1 71 (Ad t),AP (some ⟨bo.b,0,none⟩) ([(vN n)])]) 6 ?_ ?_
 ·rcases xR ((((!(decide (t.1<n)))||(!(decide (t.2.1<n))))||(!(decide (t.2.2<n))))||(decide (t.1=t.2.1))) with hg4|hg4
  ·refine zK (k:=30) (u:=qa true) O (by rw [hg4]) ?_
   have hg4':=hg4
   simp only [jK] at hg4'
   exact BD O (BD O (BD O (BD O (BD O (AC (v:=(qa true)) (AQ O O) O (oNl' (zT Po (xS _))))))))
  ·refine zK (k:=30) (u:=qa false) O (by rw [hg4]) ?_
   have hg4':=hg4
   simp only [jK] at hg4'
   exact Av (v:=(pP b1 1)) O (AB (j:=1) O O underlying71 sizeOf3 O jY O) (Av (v:=(vN t.2.1)) O (AD (i:=0) (v:=(vN t.2.1)) O O BP.a O) (Av (v:=(pP b1 2)) O (AB (j:=2) O O underlying71 sizeOf3 O jY O) (Av (v:=(vN t.2.2)) O (AD (i:=0) (v:=(vN t.2.2)) O O BP.a O) (Av (v:=(qa (decide (t.2.1=t.2.2)))) O (BM (c:=(decide (t.2.1=t.2.2))) O O (Mz (a:=t.2.1) (b:=t.2.2))) (AC (v:=(qa (decide (t.2.1=t.2.2)))) (AL O O) O (oNl' (zT Po (xS _))))))))
 refine AM O ?_
 refine zi (FM:=[(1,(pP bo.b 0)),(2,(pP b1 0)),(3,(qa false)),(4,(pP b1 0)),(5,(vN t.1)),(6,(vN n)),(7,(qa (decide (t.1<n)))),(8,(qa (!(decide (t.1<n))))),(9,(qa (!(decide (t.1<n))))),(15,(qa ((!(decide (t.1<n)))||(!(decide (t.2.1<n)))))),(16,(qa ((!(decide (t.1<n)))||(!(decide (t.2.1<n)))))),(22,(qa (((!(decide (t.1<n)))||(!(decide (t.2.1<n))))||(!(decide (t.2.2<n)))))),(23,(qa (((!(decide (t.1<n)))||(!(decide (t.2.1<n))))||(!(decide (t.2.2<n)))))),(29,(qa ((((!(decide (t.1<n)))||(!(decide (t.2.1<n))))||(!(decide (t.2.2<n))))||(decide (t.1=t.2.1))))),(30,(qa ((((!(decide (t.1<n)))||(!(decide (t.2.1<n))))||(!(decide (t.2.2<n))))||(decide (t.1=t.2.1))))),(36,(qa (((((!(decide (t.1<n)))||(!(decide (t.2.1<n))))||(!(decide (t.2.2<n))))||(decide (t.1=t.2.1)))||(decide (t.2.1=t.2.2))))),(37,(qa (((((!(decide (t.1<n)))||(!(decide (t.2.1<n))))||(!(decide (t.2.2<n))))||(decide (t.1=t.2.1)))||(decide (t.2.1=t.2.2))))),(43,(qa ((((((!(decide (t.1<n)))||(!(decide (t.2.1<n))))||(!(decide (t.2.2<n))))||(decide (t.1=t.2.1)))||(decide (t.2.1=t.2.2)))||(decide (t.2.2=t.1)))))]) (LM:=[AX b1 71 (Ad t),AP (some ⟨bo.b,0,none⟩) ([(vN n)])]) 6 ?_ ?_
 ·rcases xR (((((!(decide (t.1<n)))||(!(decide (t.2.1<n))))||(!(decide (t.2.2<n))))||(decide (t.1=t.2.1)))||(decide (t.2.1=t.2.2))) with hg5|hg5
  ·refine zK (k:=37) (u:=qa true) O (by rw [hg5]) ?_
   have hg5':=hg5
   simp only [jK] at hg5'
   exact BD O (BD O (BD O (BD O (BD O (AC (v:=(qa true)) (AQ O O) O (oNl' (zT Pp (xS _))))))))
  ·refine zK (k:=37) (u:=qa false) O (by rw [hg5]) ?_
   have hg5':=hg5
   simp only [jK] at hg5'
   exact Av (v:=(pP b1 2)) O (AB (j:=2) O O underlying71 sizeOf3 O jY O) (Av (v:=(vN t.2.2)) O (AD (i:=0) (v:=(vN t.2.2)) O O BP.a O) (Av (v:=(pP b1 0)) O (AB (j:=0) O O underlying71 sizeOf3 O jY O) (Av (v:=(vN t.1)) O (AD (i:=0) (v:=(vN t.1)) O O BP.a O) (Av (v:=(qa (decide (t.2.2=t.1)))) O (BM (c:=(decide (t.2.2=t.1))) O O (Mz (a:=t.2.2) (b:=t.1))) (AC (v:=(qa (decide (t.2.2=t.1)))) (AL O O) O (oNl' (zT Pp (xS _))))))))
 exact asg' O (oNl' (zB (sL [3] O) (zA (zH (ret_one O (rd_tmp (v:=(qa ((((((!(decide (t.1<n)))||(!(decide (t.2.1<n))))||(!(decide (t.2.2<n))))||(decide (t.1=t.2.1)))||(decide (t.2.1=t.2.2)))||(decide (t.2.2=t.1))))) O) (λw hw=>⟨by congr 2;rw [Bool.eq_iff_iff];simp [JM]<;>omega,hw.out⟩))))))
theorem Zz (n:Nat) (bo:BX [vN n]) (ts:List (Tq3)) (x:RX (rowsL Ad ts) ts.length) (hl:ts.length<4611686018427387904) (w:World) {S:Nat->Prop} (hbo:Ro S w bo) (hx:Ro S w x):Calls prog 210 #[(qz x.p ts.length x.c),(Value.func (.func 166) #[] #[(pP bo.b 0)])] w (Ag w (vI (idxB n ts 0))):=by
 have lbo:=Db (W:=w) hbo
 have lx:=Db (W:=w) hx
 refine Ak (args:=[(qz x.p ts.length x.c),(Value.func (.func 166) #[] #[(pP bo.b 0)])]) (L:=[AP (some ⟨bo.b,0,none⟩) ([(vN n)]),AP x.p (rowsL Ad ts)]) func210 O O (BE O) (De hbo (De hx A_)) (zM (sL [0,1] O) (q4 (asg' O (oNl' (q1 (q4 (AM O (AC (v:=(vN ts.length)) (AE O underlying28) O (AM O (oNl' (zB (sL [0,1,4,7,8] O) ?_)))))))))))
 refine zA (zI ?_)
 refine zw (tg λ(j:Nat)=>j<=ts.length/\idxB n ts 0=idxB n (ts.drop j) j) (tg λ(j:Nat)=>[(0,(qz x.p ts.length x.c)),(1,(Value.func (.func 166) #[] #[(pP bo.b 0)])),(7,(vN ts.length)),(8,(vN j))]) (tg λ(j:Nat)=>[AP (some ⟨bo.b,0,none⟩) ([(vN n)]),AP x.p (rowsL Ad ts)]) (tg λ(j:Nat)=>ts.length-j) 0 (⟨xK _,rfl⟩) (sF O) sr (λj hJ=>?_)
 obtain ⟨hj,he⟩:=hJ
 refine q4 (AC (Aa (c:=(decide (j<ts.length))) O O (DF (a:=j) (b:=ts.length))) O (oNl' (q1 ?_)))
 refine zL O (λhc0=>?_) (λhc0=>?_)
 ·replace hc0:=xU hc0
  refine zC (q1 (zI (q4 (AM O (asg' O (q3 (sL [0,1,7,8,5] O) (AM O (AM O (AM O (AC (v:=(pP (pB x.p) (pO x.p+j*3))) (AO (j:=j) O O x.ok underlying28 sizeOf71 O Z) O (AC (v:=(aG (Ad (ts.getD j jJ)))) (AI (vs:=Ad (ts.getD j jJ)) (i:=1) O O (Aw.ne x.ok Z) Bm (Ae An _ _ _ Z) (An _)) O ?_)))))))))))
  refine zg (v:=(qa (!JM n (ts.getD j jJ)))) (AK O) (D_ (args:=[(aG (Ad (ts.getD j jJ)))]) (caps:=[(pP bo.b 0)]) (all:=[(aG (Ad (ts.getD j jJ))),(pP bo.b 0)]) O O O call166) (λw hw=>Vw (ts.getD j jJ) n bo w (Cd hw 0 O lbo)) O (BE O) (oNl' (zB (sL [0,1,7,8,5,16] O) (zA ?_)))
  refine zL O (λhc1=>?_) (λhc1=>?_)
  ·simp only [jK] at hc1
   have hfin:=he.trans (VF Z (by simpa using hc1))
   exact q4 (AM O (asg' O (oNl' (zB (sL [0,1,7,8,5,4] O) (zA (zH (zS (zJ (z6 (zS (zJ (ret_one O (rd_tmp (v:=(vN j)) O) (λw hw=>⟨by rw [hfin],hw.out⟩)))))))))))))
  ·simp only [jK] at hc1
   exact zC (zF (zA (zD (AC (AR (c:=((j+1:Nat):Int)) O O (AS (a:=j) (b:=1) Z)) O (AM O (oNl' (zB (sL [0,1,7,8,5] O) (zh (j+1) (⟨Z,he.trans (Sh Z (by simpa using hc1))⟩) Z (sF O) sr))))))))
 ·replace hc0:=xT hc0
  have hfin:=he.trans (VE hc0)
  exact zU (zO (zX (zR (q2 (asg' O (oNl' (zA (zH (ret_one O (rd_tmp (v:=(vI (-1:Int))) O) (λw hw=>⟨by rw [hfin],hw.out⟩))))))))))
theorem Xj (n:Nat) (bo:BX [vN n]) (ts:List (Tq3)) (x:RX (rowsL Ad ts) ts.length) (hl:ts.length<4611686018427387904) (w:World) {S:Nat->Prop} (hbo:Ro S w bo) (hx:Ro S w x):Calls prog 165 #[(qz x.p ts.length x.c),(Value.func (.func 166) #[] #[(pP bo.b 0)])] w (Ag w (qa (!BV n ts))):=by
 have lbo:=Db (W:=w) hbo
 have lx:=Db (W:=w) hx
 refine Ak (args:=[(qz x.p ts.length x.c),(Value.func (.func 166) #[] #[(pP bo.b 0)])]) (L:=[AP (some ⟨bo.b,0,none⟩) ([(vN n)]),AP x.p (rowsL Ad ts)]) func165 O O (BE O) (De hbo (De hx A_)) (zM (sL [0,1] O) (q4 (asg' O (oNl' (q2 (AM O (AM O (C7 call210 (λw hw=>Zz n bo ts x hl w (Cd hw 0 O lbo) (Cd hw 1 O lx)) O (AC (D5 (c:=(!BV n ts)) O O (M8 n ts 0)) O (asg' O (oNl' ?_)))))))))))
 exact zB (sL [4] O) (zA (zH (ret_one O (rd_tmp (v:=(qa (!BV n ts))) O) (λw hw=>⟨rfl,hw.out⟩))))
theorem Rt (n:Nat) (ts:List (Tq3)) (x:RX (rowsL Ad ts) ts.length) (hl:ts.length<4611686018427387904) (w:World) {S:Nat->Prop} (hx:Ro S w x):Calls prog 103 #[(qz x.p ts.length x.c),(vN n)] w (Ag w (qa (BV n ts))):=by
 have lx:=Db (W:=w) hx
 refine Ak (args:=[(qz x.p ts.length x.c),(vN n)]) (L:=[AP x.p (rowsL Ad ts)]) func103 O O (BE O) (De hx A_) (zM (sL [0,1] O) (q4 (BZ (cs:=[(vN n)]) O λb1=>yM 0 O O λhnb1=>asg' O (q3 (sL [0,3,4] O) (AM O (AC (v:=(Value.func (.func 166) #[] #[(pP b1 0)])) (Dw (vs:=[]) (us:=[(pP b1 0)]) O O) O (C7 call165 (λw hw=>Xj n ⟨b1⟩ ts x hl w (VI (x:=(⟨b1⟩:BX [vN n])) hw 0 O hnb1) (Cd hw 1 O lx)) O (AC (BG (c:=(!(!BV n ts))) O O) O (asg' O ?_)))))))))
 exact oNl' (zB (sL [4] O) (zA (zH (ret_one O (rd_tmp (v:=(qa (!(!BV n ts)))) O) (λw hw=>⟨by simp,hw.out⟩)))))
theorem Mi {N:Nat} {ts ss:List (Tq3)} (x:RM N ts ss) (hl:ts.length<4611686018427387904) (w:World) {S:Nat->Prop} (hx:Ro S w x):Calls prog 46 #[(aG (XG x))] w (Ag w (qa (BV N ts))):=by
 have lx:=Db (W:=w) hx
 refine Ak (args:=[(aG (XG x))]) (L:=[AP x.a.p (x.cs),AP x.b.p (rowsL Ad ts),AP x.c.p (x.ds)]) func46 O O (BE O) (De hx A_) (zM (sL [0] O) (q4 (BZ (cs:=XG x) O λb1=>asg' O (q3 (sL [1,2] O) (AC (v:=(pP b1 1)) (AA O underlying34 O sizeOf28 O) O (BA 0 (qz x.b.p ts.length x.b.c) CM O (AC (v:=(pP b1 0)) (AA O underlying34 O sizeOf32 O) O (BA 0 (qz x.a.p N x.a.c) DC O (AC (v:=(vN N)) (AE O underlying32) O (C7 call103 (λw hw=>Rt N ts x.b hl w (cF (Cd hw 1 O lx))) O ?_))))))))))
 exact asg' O (oNl' (zB (sL [2] O) (zA (zH (ret_one O (rd_tmp (v:=(qa (BV N ts))) O) (λw hw=>⟨rfl,hw.out⟩))))))
theorem XM {ps:List Pt} {ts ss:List (Tq3)} (x:MX ps ts ss) (hl:ts.length<4611686018427387904) (w:World) {S:Nat->Prop} (hx:Ro S w x):Calls prog 46 #[(aG (Ce x))] w (Ag w (qa (BV ps.length ts))):=Mi x.rm hl w (bn hx)
theorem Pr {ps:List Pt} {ts ss:List (Tq3)} (x:MX ps ts ss) (t:Nat) (ht:t<ts.length) (hk:JM ps.length (ts.getD t (0,0,0))=true) (w:World) {S:Nat->Prop} (hx:Ro S w x):Calls prog 55 #[(aG (Ce x)),(vN t)] w (Ag w (Value.tuple #[(aG (AZ (cor ps (ts.getD t (0,0,0)).1))),(aG (AZ (cor ps (ts.getD t (0,0,0)).2.1))),(aG (AZ (cor ps (ts.getD t (0,0,0)).2.2)))])):=by
 obtain ⟨k1,k2,k3⟩:=DP hk
 have lx:=Db (W:=w) hx
 refine Ak (args:=[(aG (Ce x)),(vN t)]) (L:=[AP x.a.p (rowsL AZ ps),AP x.b.p (rowsL Ad ts),AP x.c.p (rowsL Ad ss)]) func55 O O (BE O) (De hx A_) (zM (sL [0,1] O) (q4 (BZ (cs:=Ce x) O λb1=>al Ep O λb2=>al Ep O λb3=>al Ep O λb4=>q6 (sL [1,2,4,5,6] O) (q4 (AM O (AC (Aa (c:=false) O O jX) O (AM O ?_)))))))
 refine F0 O (Av (v:=(pP b1 1)) O (AA O underlying34 O sizeOf28 O) (Av (v:=(qz x.b.p ts.length x.b.c)) O (AD (i:=3) (v:=(qz x.b.p ts.length x.b.c)) O O CM.a O) (Av (v:=(vN ts.length)) O (AE O underlying28) (Av (v:=(qa false)) O (D5 (c:=false) O O (by simp;omega)) (AC (v:=(qa false)) (AL O O) O (oNl' (zB (sL [1,2,4,5,6,17] O) (zA (zP O (zC (q1 ?_)))))))))))
 refine C_ (Ek 8++[(8,false),(9,false),(10,true)]) sr (Aj (v:=(pP b1 1)) O (AA O underlying34 O sizeOf28 O) (BK 3 (qz x.b.p ts.length x.b.c) CM O (Bx O (Aj (v:=(pP (pB x.b.p) (pO x.b.p+t*3))) O (AO (j:=t) O O x.b.ok underlying28 sizeOf71 O Z) (Aj (v:=(aG (Ad (ts.getD t jJ)))) O (AI (vs:=Ad (ts.getD t jJ)) (i:=5) O O (Aw.ne x.b.ok Z) Bm (Ae An _ _ _ Z) (An _)) (Aj (v:=(pP b1 0)) O (AA O underlying34 O sizeOf32 O) (BK 3 (qz x.a.p ps.length x.a.c) DC O (Aj (v:=(vN ps.length)) O (AE O underlying32) (zN O (al Hk O λb5=>zG (sl sr) ?_))))))))))
 refine zN O (Ah O sizeOf71 O (zG (sl sr) (pS' O (zQ (zB (sL [1,2,4,5,6,7,8] O) (q1 (q4 (AC (v:=(pP b5 0)) (AB (j:=0) O O underlying71 sizeOf3 O jY O) O (BA 0 (vN ((ts.getD t jJ).1)) BP O (AM O (C7 (args:=[(vN ((ts.getD t jJ).1)),(vN ps.length)]) (v:=(qa true)) call117 (λw hw=>(by have h9:=Ck ((ts.getD t jJ).1) ps.length w;rw [xJ Z] at h9;exact h9)) O ?_)))))))))))
 refine AC (BG (c:=false) O O) O (AM O (Av (v:=(pP b5 1)) O (AB (j:=1) O O underlying71 sizeOf3 O jY O) (Av (v:=(vN ((ts.getD t jJ).2.1))) O (AD (i:=0) (v:=(vN ((ts.getD t jJ).2.1))) O O BP.a O) (F0 O (zg (v:=(qa true)) (AY O) (Ao (args:=[(vN ((ts.getD t jJ).2.1)),(vN ps.length)]) O O call117) (λw hw=>(by have h9:=Ck ((ts.getD t jJ).2.1) ps.length w;rw [xJ Z] at h9;exact h9)) O (BE O) (Av (v:=(qa false)) O (BG (c:=false) O O) (AC (v:=(qa false)) (AL O O) O (AM O (Av (v:=(pP b5 2)) O (AB (j:=2) O O underlying71 sizeOf3 O jY O) (Av (v:=(vN ((ts.getD t jJ).2.2))) O (AD (i:=0) (v:=(vN ((ts.getD t jJ).2.2))) O O BP.a O) (F0 O ?_)))))))))))
 refine zg (v:=(qa true)) (AY O) (Ao (args:=[(vN ((ts.getD t jJ).2.2)),(vN ps.length)]) O O call117) (λw hw=>(by have h9:=Ck ((ts.getD t jJ).2.2) ps.length w;rw [xJ Z] at h9;exact h9)) O (BE O) (Av (v:=(qa false)) O (BG (c:=false) O O) (AC (v:=(qa false)) (AL O O) O (oNl' (zB (sL [1,2,4,5,6,7,47] O) (zA (zP O (zC (q1 (C_ (Ek 18++[(18,false),(19,false),(20,false)]) (sk (sl (sl (sl sr)))) (Aj (v:=(pP b1 0)) O (AA O underlying34 O sizeOf32 O) (BK 1 (qz x.a.p ps.length x.a.c) DC O ?_)))))))))))
 refine Aj (v:=(pP b5 0)) O (AB (j:=0) O O underlying71 sizeOf3 O jY O) (BK 0 (vN ((ts.getD t jJ).1)) BP O (Aj (v:=(pP (pB x.a.p) (pO x.a.p+((ts.getD t jJ).1)*10))) O (AO (j:=(ts.getD t jJ).1) O O x.a.ok underlying32 sizeOf78 O Z) (Aj (v:=(aG (AZ (ps.getD ((ts.getD t jJ).1) (⟨0,0⟩:Pt))))) O (AI (vs:=AZ (ps.getD ((ts.getD t jJ).1) (⟨0,0⟩:Pt))) (i:=2) O O (Aw.ne x.a.ok Z) BC (Ae Aq _ _ _ Z) (Aq _)) (Aj (v:=(pP b1 0)) O (AA O underlying34 O sizeOf32 O) (BK 1 (qz x.a.p ps.length x.a.c) DC O (Aj (v:=(pP b5 1)) O (AB (j:=1) O O underlying71 sizeOf3 O jY O) (BK 0 (vN ((ts.getD t jJ).2.1)) BP O (Aj (v:=(pP (pB x.a.p) (pO x.a.p+((ts.getD t jJ).2.1)*10))) O (AO (j:=(ts.getD t jJ).2.1) O O x.a.ok underlying32 sizeOf78 O Z) (Aj (v:=(aG (AZ (ps.getD ((ts.getD t jJ).2.1) (⟨0,0⟩:Pt))))) O (AI (vs:=AZ (ps.getD ((ts.getD t jJ).2.1) (⟨0,0⟩:Pt))) (i:=2) O O (Aw.ne x.a.ok Z) BC (Ae Aq _ _ _ Z) (Aq _)) (Aj (v:=(pP b1 0)) O (AA O underlying34 O sizeOf32 O) (BK 1 (qz x.a.p ps.length x.a.c) DC O ?_)))))))))))
 refine Aj (v:=(pP b5 2)) O (AB (j:=2) O O underlying71 sizeOf3 O jY O) (BK 0 (vN ((ts.getD t jJ).2.2)) BP O (Aj (v:=(pP (pB x.a.p) (pO x.a.p+((ts.getD t jJ).2.2)*10))) O (AO (j:=(ts.getD t jJ).2.2) O O x.a.ok underlying32 sizeOf78 O Z) (Aj (v:=(aG (AZ (ps.getD ((ts.getD t jJ).2.2) (⟨0,0⟩:Pt))))) O (AI (vs:=AZ (ps.getD ((ts.getD t jJ).2.2) (⟨0,0⟩:Pt))) (i:=2) O O (Aw.ne x.a.ok Z) BC (Ae Aq _ _ _ Z) (Aq _)) (zN O (Gc O sizeOf78 O (zG (sk (sl (sl (sl sr)))) (zN O (Lv O sizeOf78 O (zG (sk (sl (sl (sl sr)))) (zN O (CS O sizeOf78 O ?_)))))))))))
 exact zG (sk (sl (sl (sl sr)))) (zQ (zB (sL [1,2,4,5,6,7] O) (zA (zH (ER O (Ap (i:=3) (cs:=AZ (ps.getD ((ts.getD t jJ).1) (⟨0,0⟩:Pt))) O O isAgg78 sizeOf78 O) (Ap (i:=2) (cs:=AZ (ps.getD ((ts.getD t jJ).2.1) (⟨0,0⟩:Pt))) O O isAgg78 sizeOf78 O) (Ap (i:=1) (cs:=AZ (ps.getD ((ts.getD t jJ).2.2) (⟨0,0⟩:Pt))) O O isAgg78 sizeOf78 O) (λw hw=>⟨rfl,hw.out⟩))))))
end
section
set_option maxRecDepth 100000
theorem Vp (a:Nat) (w:World)  :Calls prog 169 #[(vN a)] w (Ag w (qa false)):=by
 refine AW (args:=[(vN a)]) func169 O O (BE O) (zM (sL [0] O) (q4 (asg' O (oNl' (q2 (AM O (AM O (AC (Bw (c:=false) O O jX) O (asg' O (oNl' (zB (sL [2] O) ?_)))))))))))
 exact zA (zH (ret_one O (rd_tmp (v:=(qa false)) O) (λw hw=>⟨rfl,hw.out⟩)))
theorem RN (a b:Nat) (w:World)  :Calls prog 107 #[(vN a),(vN b)] w (Ag w (vI (EJ a b))):=by
 refine AW (args:=[(vN a),(vN b)]) func107 O O (BE O) (zM (sL [0,1] O) (q4 (asg' O (oNl' (q2 (AM O (ck' call169 (Vp a) O (asg' O (q3 (sL [0,1,4,5] O) (AM O (ck' call169 (Vp b) O ?_)))))))))))
 refine asg' O (q6 (sL [0,1,4,5,6] O) (q4 (AM O (oNl' (zB (sL [0,1,4,6,11] O) (zA (zP O (zC (q1 (q4 (AM O ?_)))))))))))
 refine oNl' (zB (sL [0,1,4,6,13] O) (zA (zP O (zC (q1 (q4 (AM O (AM O (AC (Aa (c:=(decide (a<b))) O O (DF (a:=a) (b:=b))) O (oNl' (zB (sL [0,1,4,6,16] O) ?_)))))))))))
 refine zA ?_
 refine zL O (λhc3=>?_) (λhc3=>?_)
 ·replace hc3:=xU hc3
  have hr:=RL hc3
  exact q4 (asg' O (oNl' (zA (zH (zJ (ret_one O (rd_tmp (v:=(vI (-1:Int))) O) (λw hw=>⟨by rw [hr]<;>rfl,hw.out⟩)))))))
 ·replace hc3:=xT hc3
  refine zC (q1 (q4 (AM O (AM O (AC (D6 (c:=(decide (b<a))) O O (DF (a:=b) (b:=a))) O (oNl' (zB (sL [0,1,4,6,19] O) (zA ?_))))))))
  refine zL O (λhc4=>?_) (λhc4=>?_)
  ·replace hc4:=xU hc4
   have hr:=RK hc3 hc4
   exact q4 (asg' O (oNl' (zA (zH (zJ (ret_one O (rd_tmp (v:=(vI 1)) O) (λw hw=>⟨by rw [hr]<;>rfl,hw.out⟩)))))))
  ·replace hc4:=xT hc4
   have hr:=RJ hc3 hc4
   exact zC (q2 (asg' O (oNl' (zA (zH (ret_one O (rd_tmp (v:=(vI 0)) O) (λw hw=>⟨by rw [hr]<;>rfl,hw.out⟩)))))))
theorem Uc (a b:Int) (g:Nat) (w:World) (hg:w.heap[g]?=some (.cells ([(vI a),(vI b)]).toArray 3 (0,0))):Calls prog 106 #[(qz (jk g) 2 2)] w (λe w'=>e=.returned (Value.int .i64 (V5 a b))/\Jy w w' (some g)/\w'.heap[g]?=some (.cells ([(vI a),(vI b)]).toArray 3 (0,0))):=by
 refine Fv (args:=[(qz (jk g) 2 2)]) (g:=g) (T:=3) (cs:=[(vI a),(vI b)]) func106 O O (BE O) hg (zM (sL [0] O) (q4 (asg' O (oNl' (q2 (asg' O (oNl' (q1 (q4 (AM O (AC (v:=(vI 2)) (AE O underlying102) O ?_)))))))))))
 refine AM O (oNl' (zB (sL [2,3,6,7,8] O) (zA (zI (yC 4 (zZ (q4 (AC (Aa (c:=true) O O jY) O (oNl' (q1 (zV O ?_)))))))))))
 refine zC (q1 (zI (q4 (AC (v:=(pP g 0)) (AH (j:=0) O O underlying102 sizeOf3 O Z O) O (BA 0 (vI a) BP O (asg' O (q3 (sL [2,3,6,7,8,5] O) (AM O (AM O (AC (Bw (c:=(decide (a≠(0:Int)))) O O O) O (oNl' ?_)))))))))))
 refine zB (sL [2,3,6,7,8,5,14] O) (zA ?_)
 refine zL O (λhc1=>?_) (λhc1=>?_)
 ·replace hc1:=xU hc1
  have hr:V5 a b=a:=if_pos hc1
  exact q4 (AM O (asg' O (oNl' (zB (sL [2,3,6,7,8,5] O) (zA (zH (zS (zJ (zJ (zS (zJ (ret_one O (rd_tmp (v:=(vI a)) O) (λw hw=>⟨by rw [hr]<;>rfl,hw.1,hw.get (i:=0) O⟩)))))))))))))
 ·replace hc1:=xT hc1
  have hq:=hc1
  refine zC (zF (zA (zD (AC (AR (c:=(1:Int)) O O jY) O (AM O (oNl' (zB (sL [2,3,6,7,8,5] O) (zl (zZ (q4 (AC (Aa (c:=true) O O jY) O ?_)))))))))))
  refine oNl' (q1 (zV O (zC (q1 (zI (q4 (AC (v:=(pP g 1)) (AH (j:=1) O O underlying102 sizeOf3 O Z O) O (BA 0 (vI b) BP O (asg' O (q3 (sL [2,3,6,7,8,5] O) (AM O ?_)))))))))))
  refine AM O (AC (Bw (c:=(decide (b≠(0:Int)))) O O O) O (oNl' (zB (sL [2,3,6,7,8,5,14] O) (zA ?_))))
  refine zL O (λhc1=>?_) (λhc1=>?_)
  ·replace hc1:=xU hc1
   have hr:V5 a b=b:=by rw [V5,if_neg hq,if_pos hc1]
   exact q4 (AM O (asg' O (oNl' (zB (sL [2,3,6,7,8,5] O) (zA (zH (zS (zJ (zJ (zS (zJ (ret_one O (rd_tmp (v:=(vI b)) O) (λw hw=>⟨by rw [hr]<;>rfl,hw.1,hw.get (i:=0) O⟩)))))))))))))
  ·replace hc1:=xT hc1
   have hr:V5 a b=0:=by rw [V5,if_neg hq,if_neg hc1]
   refine zC (zF (zA (zD (AC (AR (c:=(2:Int)) O O jY) O (AM O (oNl' (zB (sL [2,3,6,7,8,5] O) (zl (zZ (q4 (AC (Aa (c:=false) O O jY) O ?_)))))))))))
   refine oNl' (q1 (zP O (zU (zO (zO (zR (q2 (AM O (asg' O (oNl' (zB (sL [2,3,6,7,8,5] O) ?_)))))))))))
   exact zA (zH (ret_one O (rd_tmp (v:=(vI 0)) O) (λw hw=>⟨by rw [hr]<;>rfl,hw.1,hw.get (i:=0) O⟩)))
end
end Go.Proofs.YtbfdamnfcmefmaaGreatDoor
