import Derived.Test.YtbfdamnfcmefmaaGreatDoorPend20
namespace Go.Proofs.YtbfdamnfcmefmaaGreatDoor
open Go Go.RowKit Go.Proofs.Tryz
open Go.Value renaming slice→qz,bool→qa
set_option linter.unusedVariables false
set_option linter.unusedSimpArgs false
section
structure MX (ps:List Pt) (ts ss:List (Tq3)) where
  a:RX (rowsL Aa ps) ps.length
  b:RX (rowsL Af ts) ts.length
  c:RX (rowsL Af ss) ss.length
def Cf {ps:List Pt} {ts ss:List (Tq3)} (x:MX ps ts ss):List Value:=[x.a.val,x.b.val,x.c.val]
theorem Vs {ps:List Pt} {ts ss:List (Tq3)} {x:MX ps ts ss} {y:As} (hy:y∈[x.a.row,x.b.row,x.c.row]):y.ro=true:=by
  simp only [xN,List.not_mem_nil,or_false] at hy
  rcases hy with rfl|rfl|rfl<;>rfl
instance {ps:List Pt} {ts ss:List (Tq3)}:Cy (MX ps ts ss):=⟨λx=>aG (Cf x),λx=>[x.a.row,x.b.row,x.c.row],λx y hy=>Vs hy⟩
def MG.mx (g:MG):MX g.ps g.ts g.ss:=⟨g.a,g.b,g.c⟩
structure BX (cs:List Value) where
  b:Nat
instance {cs:List Value}:Cy (BX cs):=⟨λx=>pP x.b 0,λx=>[AN (some ⟨x.b,0,none⟩) cs],λx y hy=>by rcases xO.1 hy with rfl;rfl⟩
theorem HT {b:Nat} {T:TypeId} {cs:List Value} {o:Obj} (h:(AY b T cs).P o):(AN (jk b) cs).P o:=⟨cs.toArray,T,(0,0),h,by show (cs.toArray.toList.drop 0).take cs.length=cs;simp⟩
section
variable {S:Nat->Prop} {w W:World} {w0:BD} {L:List As} {ps:List Pt} {ts ss:List (Tq3)} {cs:List Value}
theorem cO {x:MX ps ts ss} (h:Ro S w x):Ro S w x.a:=λy hy=>by rcases xO.1 hy with rfl;exact h _ List.mem_cons_self
theorem aZ {x:MX ps ts ss} (h:Ro S w x):Ro S w x.b:=λy hy=>by rcases xO.1 hy with rfl;exact h _ (List.mem_cons_of_mem _ List.mem_cons_self)
theorem VM (hw:BH w0 w L) (i:Nat) {x:BX cs} (hi:L[i]?=some (AN (some ⟨x.b,0,none⟩) cs)) (hb:w0.w.heap.size<=x.b):Ro (SL w0 S L) w x:=λy hy=>by
  rcases xO.1 hy with rfl
  exact ⟨hw.holds hi,λc e=>⟨⟨_,List.mem_of_getElem? hi,rfl,e⟩,.inl (by injection e with e;rw [<-e];exact hb)⟩⟩
end
section
variable {P:Program} {ops:Array Oper} {rest:List Oper} {Q:Exit->Act->World->Prop} {n d:Nat} {F:List (Nat×Value)} {w0:BD} {S:Nat->Prop} {L:List As} {t:TypeId} {p:String} {af:Array Edge} {y:Operand} {f:FuncId} {xs:List Operand} {args:List Value} {ts:Array TypeId}
theorem yN (i:Nat) {b:Nat} {T:TypeId} {cs:List Value} (hi:L[i]?=some (AY b T cs)) (hex:w0.ex=none) (next:w0.w.heap.size<=b->AR P ops rest Q n F w0 (L.set i (AN (jk b) cs))):AR P ops rest Q n F w0 L:=λa w ha hw=>by
  refine next ?_ a w ha (hw.freeze hi O (λo hp=>HT hp) (λe=>by cases e))
  rcases (hw.2.1 _ (List.mem_of_getElem? hi) b rfl).1 with h1|h1|h1
  · cases h1
  · exact h1
  · rw [hex] at h1;cases h1
end
def Ig (n:Nat) (t:Tq3):Bool:=decide (t.1<n)&&decide (t.2.1<n)&&decide (t.2.2<n)&&!decide (t.1=t.2.1)&&!decide (t.2.1=t.2.2)&&!decide (t.2.2=t.1)
def Ba (n:Nat) (ts:List (Tq3)):Bool:=ts.all (Ig n)
theorem S1 {ps:List Pt} {ts:List (Tq3)} (h:FY ps ts):Ba ps.length ts=true:=List.all_eq_true.2 λt ht=>by
  obtain ⟨j,hj,rfl⟩:=List.getElem_of_mem ht
  have k:=h.tri j hj
  rw [show ts.getD j (0,0,0)=ts[j] by rw [List.getD,xP hj];rfl] at k
  simp [Ig,k.a,k.b,k.c,k.ab,k.bc,k.ca]
theorem Bw {n:Nat} {ts:List (Tq3)} (h:Ba n ts=true) {j:Nat} (hj:j<ts.length):Ig n (ts.getD j (0,0,0))=true:=by
  rw [List.getD,xP hj]
  exact List.all_eq_true.1 h _ (List.getElem_mem hj)
theorem Ct {n:Nat} {t:Tq3} (h:Ig n t=true):t.1<n/\t.2.1<n/\t.2.2<n:=by
  simp [Ig] at h;omega
def idxB (n:Nat):List (Tq3)->Nat->Int
  | [],_ => -1
  | t::r,i=>if Ig n t=true then idxB n r (i+1) else (i:Int)
theorem Fb {α:Type} {ts:List α} {d:α} {j:Nat} (hj:j<ts.length):ts.drop j=ts.getD j d::ts.drop (j+1):=by
  rw [List.drop_eq_getElem_cons hj,List.getD,xP hj];rfl
theorem Sg {n:Nat} {ts:List (Tq3)} {j:Nat} (hj:j<ts.length) (h:Ig n (ts.getD j (0,0,0))=true):idxB n (ts.drop j) j=idxB n (ts.drop (j+1)) (j+1):=by
  rw [Fb (d:=(0,0,0)) hj];exact if_pos h
theorem VJ {n:Nat} {ts:List (Tq3)} {j:Nat} (hj:j<ts.length) (h:Ig n (ts.getD j (0,0,0))=false):idxB n (ts.drop j) j=(j:Int):=by
  rw [Fb (d:=(0,0,0)) hj];exact if_neg (by rw [h];exact Bool.false_ne_true)
theorem VI {n:Nat} {ts:List (Tq3)} {j:Nat} (hj:¬j<ts.length):idxB n (ts.drop j) j = -1:=by
  rw [List.drop_of_length_le Z];rfl
theorem M6 (n:Nat):∀(ts:List (Tq3)) (i:Nat),decide (0<=idxB n ts i)=!Ba n ts
  | [],i=>rfl
  | t::r,i=>by
    unfold idxB Ba
    rw [List.all_cons]
    cases h:Ig n t with
    | true=>rw [if_pos rfl,Bool.true_and];exact M6 n r (i+1)
    | false=>rw [if_neg Bool.false_ne_true,Bool.false_and];simp
def cor (ps:List Pt) (k:Nat):Pt:=ps.getD k ⟨0,0⟩
def IE (a b c p:Pt):Nat:=if AC a b c=0 then 0 else FT (AC p b c/AC a b c) (AC a p c/AC a b c) (AC a b p/AC a b c)
def JR (ps:List Pt) (q:Pt) (t:Tq3):Nat:=IE (cor ps t.1) (cor ps t.2.1) (cor ps t.2.2) q
end
section
structure RM (N:Nat) (ts ss:List (Tq3)) where
  cs:List Value
  ds:List Value
  a:RX cs N
  b:RX (rowsL Af ts) ts.length
  c:RX ds ss.length
def XK {N:Nat} {ts ss:List (Tq3)} (x:RM N ts ss):List Value:=[x.a.val,x.b.val,x.c.val]
theorem cM {N:Nat} {ts ss:List (Tq3)} {x:RM N ts ss} {y:As} (hy:y∈[x.a.row,x.b.row,x.c.row]):y.ro=true:=by
  simp only [xN,List.not_mem_nil,or_false] at hy
  rcases hy with rfl|rfl|rfl<;>rfl
instance {N:Nat} {ts ss:List (Tq3)}:Cy (RM N ts ss):=⟨λx=>aG (XK x),λx=>[x.a.row,x.b.row,x.c.row],λx y hy=>cM hy⟩
section
variable {S:Nat->Prop} {w:World} {N:Nat} {ts ss:List (Tq3)}
theorem cQ {x:RM N ts ss} (h:Ro S w x):Ro S w x.b:=λy hy=>by rcases xO.1 hy with rfl;exact h _ (List.mem_cons_of_mem _ List.mem_cons_self)
end
def MX.rm {ps:List Pt} {ts ss:List (Tq3)} (x:MX ps ts ss):RM ps.length ts ss:=⟨rowsL Aa ps,rowsL Af ss,x.a,x.b,x.c⟩
theorem cE {S:Nat->Prop} {w:World} {ps:List Pt} {ts ss:List (Tq3)} {x:MX ps ts ss} (h:Ro S w x):Ro S w x.rm:=λy hy=>h y hy
structure RU (N M K:Nat) where
  cs:List Value
  es:List Value
  ds:List Value
  a:RX cs N
  b:RX es M
  c:RX ds K
def fb {N M K:Nat} (x:RU N M K):List Value:=[x.a.val,x.b.val,x.c.val]
theorem cV {N M K:Nat} {x:RU N M K} {y:As} (hy:y∈[x.a.row,x.b.row,x.c.row]):y.ro=true:=by
  simp only [xN,List.not_mem_nil,or_false] at hy
  rcases hy with rfl|rfl|rfl<;>rfl
instance {N M K:Nat}:Cy (RU N M K):=⟨λx=>aG (fb x),λx=>[x.a.row,x.b.row,x.c.row],λx y hy=>cV hy⟩
end
section
set_option maxRecDepth 100000
theorem Cc (p n:Nat) (w:World)  :Calls prog 117 #[(vN p),(vN n)] w (Ac w (qa (decide (p<n)))):=by
 refine AW (args:=[(vN p),(vN n)]) func117 O O (A_ O) (zM (sL [0,1] O) (q4 (asg' O (oNl' (q2 (AL O (AD (D1 (c:=(decide (0<=p))) O O (YV (a:=0) (b:=p))) O (AL O ?_))))))))
 refine zi (FM:=[(0,(vN p)),(1,(vN n)),(4,(qa false)),(5,(vN p)),(6,(qa (decide (0<=p)))),(7,(qa (decide (0<=p)))),(11,(qa ((decide (0<=p))&&(decide (p<n)))))]) (LM:=[]) 4 ?_ ?_
 ·rcases xQ (decide (0<=p)) with hg1|hg1
  ·refine zL (k:=7) (u:=qa true) O (by rw [hg1]) ?_
   have hg1':=xT hg1
   exact Gq O (Gq O (BI (v:=(qa (decide (p<n)))) O (Ab (c:=(decide (p<n))) O O (DA (a:=p) (b:=n))) (AD (v:=(qa (decide (p<n)))) (AX O O) O (oNl' (zT Cd (xR _))))))
  ·refine zL (k:=7) (u:=qa false) O (by rw [hg1]) ?_
   have hg1':=xS hg1
   exact BT O (BT O (BT O (AD (v:=(qa false)) (AP O O) O (oNl' (zT Cd (xR _))))))
 exact asg' O (oNl' (zB (sL [4] O) (zA (zG (ret_one O (rd_tmp (v:=(qa ((decide (0<=p))&&(decide (p<n))))) O) (λw hw=>⟨by simp,hw.out⟩))))))
theorem Vz (t:Tq3) (n:Nat) (bo:BX [vN n]) (w:World) {S:Nat->Prop} (hbo:Ro S w bo):Calls prog 166 #[(aG (Af t)),(pP bo.b 0)] w (Ac w (qa (!Ig n t))):=by
 have lbo:=DT (W:=w) hbo
 refine Ag (args:=[(aG (Af t)),(pP bo.b 0)]) (L:=[AN (some ⟨bo.b,0,none⟩) ([(vN n)])]) func166 O O (A_ O) (DU hbo Az) (zM (sL [0,1] O) (q4 (BV (cs:=Af t) O λb1=>asg' O (q3 (sL [1,2,3] O) (AD (v:=(pP b1 0)) (AB (j:=0) O O underlying71 sizeOf3 O jY O) O (BG 0 (vN t.1) Bk O (AD (BA (q:=some ⟨bo.b,0,none⟩) (v:=(vN n)) (off:=0) (i:=1) O O (λe=>by cases e) Bk O) O (ck' call117 (Cc t.1 n) O (AD (BE (c:=(!(decide (t.1<n)))) O O) O (AL O ?_))))))))))
 refine zi (FM:=[(1,(pP bo.b 0)),(2,(pP b1 0)),(3,(qa false)),(4,(pP b1 0)),(5,(vN t.1)),(6,(vN n)),(7,(qa (decide (t.1<n)))),(8,(qa (!(decide (t.1<n))))),(9,(qa (!(decide (t.1<n))))),(15,(qa ((!(decide (t.1<n)))||(!(decide (t.2.1<n))))))]) (LM:=[AY b1 71 (Af t),AN (some ⟨bo.b,0,none⟩) ([(vN n)])]) 6 ?_ ?_
 ·rcases xQ (!(decide (t.1<n))) with hg1|hg1
  ·refine zL (k:=9) (u:=qa true) O (by rw [hg1]) ?_
   have hg1':=hg1
   simp only [jK] at hg1'
   exact BT O (BT O (BT O (BT O (BT O (AD (v:=(qa true)) (AX O O) O (oNl' (zT Cd (xR _))))))))
  ·refine zL (k:=9) (u:=qa false) O (by rw [hg1]) ?_
   have hg1':=hg1
   simp only [jK] at hg1'
   exact BI (v:=(pP b1 1)) O (AB (j:=1) O O underlying71 sizeOf3 O jY O) (BI (v:=(vN t.2.1)) O (AH (i:=0) (v:=(vN t.2.1)) O O Bk.a O) (BI (v:=(vN n)) O (BA (q:=some ⟨bo.b,0,none⟩) (v:=(vN n)) (off:=0) (i:=1) O O (λe=>by cases e) Bk O) (zg (v:=(qa (decide (t.2.1<n)))) (AU O) (Am (args:=[(vN t.2.1),(vN n)]) O O call117) (λw hw=>Cc t.2.1 n w) O (A_ O) (BI (v:=(qa (!(decide (t.2.1<n))))) O (BE (c:=(!(decide (t.2.1<n)))) O O) (AD (v:=(qa (!(decide (t.2.1<n))))) (AP O O) O (oNl' (zT Cd (xR _))))))))
 refine AL O ?_
 refine zi (FM:=[(1,(pP bo.b 0)),(2,(pP b1 0)),(3,(qa false)),(4,(pP b1 0)),(5,(vN t.1)),(6,(vN n)),(7,(qa (decide (t.1<n)))),(8,(qa (!(decide (t.1<n))))),(9,(qa (!(decide (t.1<n))))),(15,(qa ((!(decide (t.1<n)))||(!(decide (t.2.1<n)))))),(16,(qa ((!(decide (t.1<n)))||(!(decide (t.2.1<n)))))),(22,(qa (((!(decide (t.1<n)))||(!(decide (t.2.1<n))))||(!(decide (t.2.2<n))))))]) (LM:=[AY b1 71 (Af t),AN (some ⟨bo.b,0,none⟩) ([(vN n)])]) 6 ?_ ?_
 ·rcases xQ ((!(decide (t.1<n)))||(!(decide (t.2.1<n)))) with hg2|hg2
  ·refine zL (k:=16) (u:=qa true) O (by rw [hg2]) ?_
   have hg2':=hg2
   simp only [jK] at hg2'
   exact BT O (BT O (BT O (BT O (BT O (AD (v:=(qa true)) (AX O O) O (oNl' (zT It (xR _))))))))
  ·refine zL (k:=16) (u:=qa false) O (by rw [hg2]) ?_
   have hg2':=hg2
   simp only [jK] at hg2'
   exact BI (v:=(pP b1 2)) O (AB (j:=2) O O underlying71 sizeOf3 O jY O) (BI (v:=(vN t.2.2)) O (AH (i:=0) (v:=(vN t.2.2)) O O Bk.a O) (BI (v:=(vN n)) O (BA (q:=some ⟨bo.b,0,none⟩) (v:=(vN n)) (off:=0) (i:=1) O O (λe=>by cases e) Bk O) (zg (v:=(qa (decide (t.2.2<n)))) (AU O) (Am (args:=[(vN t.2.2),(vN n)]) O O call117) (λw hw=>Cc t.2.2 n w) O (A_ O) (BI (v:=(qa (!(decide (t.2.2<n))))) O (BE (c:=(!(decide (t.2.2<n)))) O O) (AD (v:=(qa (!(decide (t.2.2<n))))) (AP O O) O (oNl' (zT It (xR _))))))))
 refine AL O ?_
 refine zi (FM:=[(1,(pP bo.b 0)),(2,(pP b1 0)),(3,(qa false)),(4,(pP b1 0)),(5,(vN t.1)),(6,(vN n)),(7,(qa (decide (t.1<n)))),(8,(qa (!(decide (t.1<n))))),(9,(qa (!(decide (t.1<n))))),(15,(qa ((!(decide (t.1<n)))||(!(decide (t.2.1<n)))))),(16,(qa ((!(decide (t.1<n)))||(!(decide (t.2.1<n)))))),(22,(qa (((!(decide (t.1<n)))||(!(decide (t.2.1<n))))||(!(decide (t.2.2<n)))))),(23,(qa (((!(decide (t.1<n)))||(!(decide (t.2.1<n))))||(!(decide (t.2.2<n)))))),(29,(qa ((((!(decide (t.1<n)))||(!(decide (t.2.1<n))))||(!(decide (t.2.2<n))))||(decide (t.1=t.2.1)))))]) (LM:=[AY b1 71 (Af t),AN (some ⟨bo.b,0,none⟩) ([(vN n)])]) 6 ?_ ?_
 ·rcases xQ (((!(decide (t.1<n)))||(!(decide (t.2.1<n))))||(!(decide (t.2.2<n)))) with hg3|hg3
  ·refine zL (k:=23) (u:=qa true) O (by rw [hg3]) ?_
   have hg3':=hg3
   simp only [jK] at hg3'
   exact BT O (BT O (BT O (BT O (BT O (AD (v:=(qa true)) (AX O O) O (oNl' (zT TZ (xR _))))))))
  ·refine zL (k:=23) (u:=qa false) O (by rw [hg3]) ?_
   have hg3':=hg3
   simp only [jK] at hg3'
   exact BI (v:=(pP b1 0)) O (AB (j:=0) O O underlying71 sizeOf3 O jY O) (BI (v:=(vN t.1)) O (AH (i:=0) (v:=(vN t.1)) O O Bk.a O) (BI (v:=(pP b1 1)) O (AB (j:=1) O O underlying71 sizeOf3 O jY O) (BI (v:=(vN t.2.1)) O (AH (i:=0) (v:=(vN t.2.1)) O O Bk.a O) (BI (v:=(qa (decide (t.1=t.2.1)))) O (BM (c:=(decide (t.1=t.2.1))) O O (O5 (a:=t.1) (b:=t.2.1))) (AD (v:=(qa (decide (t.1=t.2.1)))) (AP O O) O (oNl' (zT TZ (xR _))))))))
 refine AL O ?_
 refine zi (FM:=[(1,(pP bo.b 0)),(2,(pP b1 0)),(3,(qa false)),(4,(pP b1 0)),(5,(vN t.1)),(6,(vN n)),(7,(qa (decide (t.1<n)))),(8,(qa (!(decide (t.1<n))))),(9,(qa (!(decide (t.1<n))))),(15,(qa ((!(decide (t.1<n)))||(!(decide (t.2.1<n)))))),(16,(qa ((!(decide (t.1<n)))||(!(decide (t.2.1<n)))))),(22,(qa (((!(decide (t.1<n)))||(!(decide (t.2.1<n))))||(!(decide (t.2.2<n)))))),(23,(qa (((!(decide (t.1<n)))||(!(decide (t.2.1<n))))||(!(decide (t.2.2<n)))))),(29,(qa ((((!(decide (t.1<n)))||(!(decide (t.2.1<n))))||(!(decide (t.2.2<n))))||(decide (t.1=t.2.1))))),(30,(qa ((((!(decide (t.1<n)))||(!(decide (t.2.1<n))))||(!(decide (t.2.2<n))))||(decide (t.1=t.2.1))))),(36,(qa (((((!(decide (t.1<n)))||(!(decide (t.2.1<n))))||(!(decide (t.2.2<n))))||(decide (t.1=t.2.1)))||(decide (t.2.1=t.2.2)))))]) (LM:=[AY b1 71 (Af t),AN (some ⟨bo.b,0,none⟩) ([(vN n)])]) 6 ?_ ?_
 ·rcases xQ ((((!(decide (t.1<n)))||(!(decide (t.2.1<n))))||(!(decide (t.2.2<n))))||(decide (t.1=t.2.1))) with hg4|hg4
  ·refine zL (k:=30) (u:=qa true) O (by rw [hg4]) ?_
   have hg4':=hg4
   simp only [jK] at hg4'
   exact BT O (BT O (BT O (BT O (BT O (AD (v:=(qa true)) (AX O O) O (oNl' (zT Ta (xR _))))))))
  ·refine zL (k:=30) (u:=qa false) O (by rw [hg4]) ?_
   have hg4':=hg4
   simp only [jK] at hg4'
   exact BI (v:=(pP b1 1)) O (AB (j:=1) O O underlying71 sizeOf3 O jY O) (BI (v:=(vN t.2.1)) O (AH (i:=0) (v:=(vN t.2.1)) O O Bk.a O) (BI (v:=(pP b1 2)) O (AB (j:=2) O O underlying71 sizeOf3 O jY O) (BI (v:=(vN t.2.2)) O (AH (i:=0) (v:=(vN t.2.2)) O O Bk.a O) (BI (v:=(qa (decide (t.2.1=t.2.2)))) O (BM (c:=(decide (t.2.1=t.2.2))) O O (O5 (a:=t.2.1) (b:=t.2.2))) (AD (v:=(qa (decide (t.2.1=t.2.2)))) (AP O O) O (oNl' (zT Ta (xR _))))))))
 refine AL O ?_
 refine zi (FM:=[(1,(pP bo.b 0)),(2,(pP b1 0)),(3,(qa false)),(4,(pP b1 0)),(5,(vN t.1)),(6,(vN n)),(7,(qa (decide (t.1<n)))),(8,(qa (!(decide (t.1<n))))),(9,(qa (!(decide (t.1<n))))),(15,(qa ((!(decide (t.1<n)))||(!(decide (t.2.1<n)))))),(16,(qa ((!(decide (t.1<n)))||(!(decide (t.2.1<n)))))),(22,(qa (((!(decide (t.1<n)))||(!(decide (t.2.1<n))))||(!(decide (t.2.2<n)))))),(23,(qa (((!(decide (t.1<n)))||(!(decide (t.2.1<n))))||(!(decide (t.2.2<n)))))),(29,(qa ((((!(decide (t.1<n)))||(!(decide (t.2.1<n))))||(!(decide (t.2.2<n))))||(decide (t.1=t.2.1))))),(30,(qa ((((!(decide (t.1<n)))||(!(decide (t.2.1<n))))||(!(decide (t.2.2<n))))||(decide (t.1=t.2.1))))),(36,(qa (((((!(decide (t.1<n)))||(!(decide (t.2.1<n))))||(!(decide (t.2.2<n))))||(decide (t.1=t.2.1)))||(decide (t.2.1=t.2.2))))),(37,(qa (((((!(decide (t.1<n)))||(!(decide (t.2.1<n))))||(!(decide (t.2.2<n))))||(decide (t.1=t.2.1)))||(decide (t.2.1=t.2.2))))),(43,(qa ((((((!(decide (t.1<n)))||(!(decide (t.2.1<n))))||(!(decide (t.2.2<n))))||(decide (t.1=t.2.1)))||(decide (t.2.1=t.2.2)))||(decide (t.2.2=t.1)))))]) (LM:=[AY b1 71 (Af t),AN (some ⟨bo.b,0,none⟩) ([(vN n)])]) 6 ?_ ?_
 ·rcases xQ (((((!(decide (t.1<n)))||(!(decide (t.2.1<n))))||(!(decide (t.2.2<n))))||(decide (t.1=t.2.1)))||(decide (t.2.1=t.2.2))) with hg5|hg5
  ·refine zL (k:=37) (u:=qa true) O (by rw [hg5]) ?_
   have hg5':=hg5
   simp only [jK] at hg5'
   exact BT O (BT O (BT O (BT O (BT O (AD (v:=(qa true)) (AX O O) O (oNl' (zT Tb (xR _))))))))
  ·refine zL (k:=37) (u:=qa false) O (by rw [hg5]) ?_
   have hg5':=hg5
   simp only [jK] at hg5'
   exact BI (v:=(pP b1 2)) O (AB (j:=2) O O underlying71 sizeOf3 O jY O) (BI (v:=(vN t.2.2)) O (AH (i:=0) (v:=(vN t.2.2)) O O Bk.a O) (BI (v:=(pP b1 0)) O (AB (j:=0) O O underlying71 sizeOf3 O jY O) (BI (v:=(vN t.1)) O (AH (i:=0) (v:=(vN t.1)) O O Bk.a O) (BI (v:=(qa (decide (t.2.2=t.1)))) O (BM (c:=(decide (t.2.2=t.1))) O O (O5 (a:=t.2.2) (b:=t.1))) (AD (v:=(qa (decide (t.2.2=t.1)))) (AP O O) O (oNl' (zT Tb (xR _))))))))
 exact asg' O (oNl' (zB (sL [3] O) (zA (zG (ret_one O (rd_tmp (v:=(qa ((((((!(decide (t.1<n)))||(!(decide (t.2.1<n))))||(!(decide (t.2.2<n))))||(decide (t.1=t.2.1)))||(decide (t.2.1=t.2.2)))||(decide (t.2.2=t.1))))) O) (λw hw=>⟨by congr 2;rw [Bool.eq_iff_iff];simp [Ig]<;>omega,hw.out⟩))))))
theorem aC (n:Nat) (bo:BX [vN n]) (ts:List (Tq3)) (x:RX (rowsL Af ts) ts.length) (hl:ts.length<4611686018427387904) (w:World) {S:Nat->Prop} (hbo:Ro S w bo) (hx:Ro S w x):Calls prog 210 #[(qz x.p ts.length x.c),(Value.func (.func 166) #[] #[(pP bo.b 0)])] w (Ac w (vI (idxB n ts 0))):=by
 have lbo:=DT (W:=w) hbo
 have lx:=DT (W:=w) hx
 refine Ag (args:=[(qz x.p ts.length x.c),(Value.func (.func 166) #[] #[(pP bo.b 0)])]) (L:=[AN (some ⟨bo.b,0,none⟩) ([(vN n)]),AN x.p (rowsL Af ts)]) func210 O O (A_ O) (DU hbo (DU hx Az)) (zM (sL [0,1] O) (q4 (asg' O (oNl' (q1 (q4 (AL O (AD (v:=(vN ts.length)) (AE O underlying28) O (AL O (oNl' (zB (sL [0,1,4,7,8] O) ?_)))))))))))
 refine zA (zI ?_)
 refine zy (tg λ(j:Nat)=>j<=ts.length/\idxB n ts 0=idxB n (ts.drop j) j) (tg λ(j:Nat)=>[(0,(qz x.p ts.length x.c)),(1,(Value.func (.func 166) #[] #[(pP bo.b 0)])),(7,(vN ts.length)),(8,(vN j))]) (tg λ(j:Nat)=>[AN (some ⟨bo.b,0,none⟩) ([(vN n)]),AN x.p (rowsL Af ts)]) (tg λ(j:Nat)=>ts.length-j) 0 (⟨xJ _,rfl⟩) (sF O) sr (λj hJ=>?_)
 obtain ⟨hj,he⟩:=hJ
 refine q4 (AD (Ab (c:=(decide (j<ts.length))) O O (DA (a:=j) (b:=ts.length))) O (oNl' (q1 ?_)))
 refine zK O (λhc0=>?_) (λhc0=>?_)
 ·replace hc0:=xT hc0
  refine zC (q1 (zI (q4 (AL O (asg' O (q3 (sL [0,1,7,8,5] O) (AL O (AL O (AL O (AD (v:=(pP (pB x.p) (pO x.p+j*3))) (AO (j:=j) O O x.ok underlying28 sizeOf71 O Z) O (AD (v:=(aG (Af (ts.getD j jJ)))) (AM (vs:=Af (ts.getD j jJ)) (i:=1) O O (A8.ne x.ok Z) Ec (Ae Av _ _ _ Z) (Av _)) O ?_)))))))))))
  refine zg (v:=(qa (!Ig n (ts.getD j jJ)))) (AI O) (Dn (args:=[(aG (Af (ts.getD j jJ)))]) (caps:=[(pP bo.b 0)]) (all:=[(aG (Af (ts.getD j jJ))),(pP bo.b 0)]) O O O call166) (λw hw=>Vz (ts.getD j jJ) n bo w (CL hw 0 O lbo)) O (A_ O) (oNl' (zB (sL [0,1,7,8,5,16] O) (zA ?_)))
  refine zK O (λhc1=>?_) (λhc1=>?_)
  ·simp only [jK] at hc1
   have hfin:=he.trans (VJ Z (by simpa using hc1))
   exact q4 (AL O (asg' O (oNl' (zB (sL [0,1,7,8,5,4] O) (zA (zG (zR (zJ (z7 (zR (zJ (ret_one O (rd_tmp (v:=(vN j)) O) (λw hw=>⟨by rw [hfin],hw.out⟩)))))))))))))
  ·simp only [jK] at hc1
   exact zC (zF (zA (zH (AD (AS (c:=((j+1:Nat):Int)) O O (AV (a:=j) (b:=1) Z)) O (AL O (oNl' (zB (sL [0,1,7,8,5] O) (zm (j+1) (⟨Z,he.trans (Sg Z (by simpa using hc1))⟩) Z (sF O) sr))))))))
 ·replace hc0:=xS hc0
  have hfin:=he.trans (VI hc0)
  exact zU (zO (zY (zP (q2 (asg' O (oNl' (zA (zG (ret_one O (rd_tmp (v:=(vI (-1:Int))) O) (λw hw=>⟨by rw [hfin],hw.out⟩))))))))))
theorem Xp (n:Nat) (bo:BX [vN n]) (ts:List (Tq3)) (x:RX (rowsL Af ts) ts.length) (hl:ts.length<4611686018427387904) (w:World) {S:Nat->Prop} (hbo:Ro S w bo) (hx:Ro S w x):Calls prog 165 #[(qz x.p ts.length x.c),(Value.func (.func 166) #[] #[(pP bo.b 0)])] w (Ac w (qa (!Ba n ts))):=by
 have lbo:=DT (W:=w) hbo
 have lx:=DT (W:=w) hx
 refine Ag (args:=[(qz x.p ts.length x.c),(Value.func (.func 166) #[] #[(pP bo.b 0)])]) (L:=[AN (some ⟨bo.b,0,none⟩) ([(vN n)]),AN x.p (rowsL Af ts)]) func165 O O (A_ O) (DU hbo (DU hx Az)) (zM (sL [0,1] O) (q4 (asg' O (oNl' (q2 (AL O (AL O (C3 call210 (λw hw=>aC n bo ts x hl w (CL hw 0 O lbo) (CL hw 1 O lx)) O (AD (D1 (c:=(!Ba n ts)) O O (M6 n ts 0)) O (asg' O (oNl' ?_)))))))))))
 exact zB (sL [4] O) (zA (zG (ret_one O (rd_tmp (v:=(qa (!Ba n ts))) O) (λw hw=>⟨rfl,hw.out⟩))))
theorem Rt (n:Nat) (ts:List (Tq3)) (x:RX (rowsL Af ts) ts.length) (hl:ts.length<4611686018427387904) (w:World) {S:Nat->Prop} (hx:Ro S w x):Calls prog 103 #[(qz x.p ts.length x.c),(vN n)] w (Ac w (qa (Ba n ts))):=by
 have lx:=DT (W:=w) hx
 refine Ag (args:=[(qz x.p ts.length x.c),(vN n)]) (L:=[AN x.p (rowsL Af ts)]) func103 O O (A_ O) (DU hx Az) (zM (sL [0,1] O) (q4 (BV (cs:=[(vN n)]) O λb1=>yN 0 O O λhnb1=>asg' O (q3 (sL [0,3,4] O) (AL O (AD (v:=(Value.func (.func 166) #[] #[(pP b1 0)])) (Dt (vs:=[]) (us:=[(pP b1 0)]) O O) O (C3 call165 (λw hw=>Xp n ⟨b1⟩ ts x hl w (VM (x:=(⟨b1⟩:BX [vN n])) hw 0 O hnb1) (CL hw 1 O lx)) O (AD (BE (c:=(!(!Ba n ts))) O O) O (asg' O ?_)))))))))
 exact oNl' (zB (sL [4] O) (zA (zG (ret_one O (rd_tmp (v:=(qa (!(!Ba n ts)))) O) (λw hw=>⟨by simp,hw.out⟩)))))
theorem Mh {N:Nat} {ts ss:List (Tq3)} (x:RM N ts ss) (hl:ts.length<4611686018427387904) (w:World) {S:Nat->Prop} (hx:Ro S w x):Calls prog 46 #[(aG (XK x))] w (Ac w (qa (Ba N ts))):=by
 have lx:=DT (W:=w) hx
 refine Ag (args:=[(aG (XK x))]) (L:=[AN x.a.p (x.cs),AN x.b.p (rowsL Af ts),AN x.c.p (x.ds)]) func46 O O (A_ O) (DU hx Az) (zM (sL [0] O) (q4 (BV (cs:=XK x) O λb1=>asg' O (q3 (sL [1,2] O) (AD (v:=(pP b1 1)) (AA O underlying34 O sizeOf28 O) O (BG 0 (qz x.b.p ts.length x.b.c) C5 O (AD (v:=(pP b1 0)) (AA O underlying34 O sizeOf32 O) O (BG 0 (qz x.a.p N x.a.c) C2 O (AD (v:=(vN N)) (AE O underlying32) O (C3 call103 (λw hw=>Rt N ts x.b hl w (cQ (CL hw 1 O lx))) O ?_))))))))))
 exact asg' O (oNl' (zB (sL [2] O) (zA (zG (ret_one O (rd_tmp (v:=(qa (Ba N ts))) O) (λw hw=>⟨rfl,hw.out⟩))))))
theorem XR {ps:List Pt} {ts ss:List (Tq3)} (x:MX ps ts ss) (hl:ts.length<4611686018427387904) (w:World) {S:Nat->Prop} (hx:Ro S w x):Calls prog 46 #[(aG (Cf x))] w (Ac w (qa (Ba ps.length ts))):=Mh x.rm hl w (cE hx)
theorem Pr {ps:List Pt} {ts ss:List (Tq3)} (x:MX ps ts ss) (t:Nat) (ht:t<ts.length) (hk:Ig ps.length (ts.getD t (0,0,0))=true) (w:World) {S:Nat->Prop} (hx:Ro S w x):Calls prog 55 #[(aG (Cf x)),(vN t)] w (Ac w (Value.tuple #[(aG (Aa (cor ps (ts.getD t (0,0,0)).1))),(aG (Aa (cor ps (ts.getD t (0,0,0)).2.1))),(aG (Aa (cor ps (ts.getD t (0,0,0)).2.2)))])):=by
 obtain ⟨k1,k2,k3⟩:=Ct hk
 have lx:=DT (W:=w) hx
 refine Ag (args:=[(aG (Cf x)),(vN t)]) (L:=[AN x.a.p (rowsL Aa ps),AN x.b.p (rowsL Af ts),AN x.c.p (rowsL Af ss)]) func55 O O (A_ O) (DU hx Az) (zM (sL [0,1] O) (q4 (BV (cs:=Cf x) O λb1=>al Em O λb2=>al Em O λb3=>al Em O λb4=>q6 (sL [1,2,4,5,6] O) (q4 (AL O (AD (Ab (c:=false) O O jX) O (AL O ?_)))))))
 refine Gq O (BI (v:=(pP b1 1)) O (AA O underlying34 O sizeOf28 O) (BI (v:=(qz x.b.p ts.length x.b.c)) O (AH (i:=3) (v:=(qz x.b.p ts.length x.b.c)) O O C5.a O) (BI (v:=(vN ts.length)) O (AE O underlying28) (BI (v:=(qa false)) O (D1 (c:=false) O O (by simp;omega)) (AD (v:=(qa false)) (AP O O) O (oNl' (zB (sL [1,2,4,5,6,17] O) (zA (zS O (zC (q1 ?_)))))))))))
 refine C8 (El 8++[(8,false),(9,false),(10,true)]) sr (Al (v:=(pP b1 1)) O (AA O underlying34 O sizeOf28 O) (BQ 3 (qz x.b.p ts.length x.b.c) C5 O (Bp O (Al (v:=(pP (pB x.b.p) (pO x.b.p+t*3))) O (AO (j:=t) O O x.b.ok underlying28 sizeOf71 O Z) (Al (v:=(aG (Af (ts.getD t jJ)))) O (AM (vs:=Af (ts.getD t jJ)) (i:=5) O O (A8.ne x.b.ok Z) Ec (Ae Av _ _ _ Z) (Av _)) (Al (v:=(pP b1 0)) O (AA O underlying34 O sizeOf32 O) (BQ 3 (qz x.a.p ps.length x.a.c) C2 O (Al (v:=(vN ps.length)) O (AE O underlying32) (zN O (al J1 O λb5=>zD (sl sr) ?_))))))))))
 refine zN O (Ah O sizeOf71 O (zD (sl sr) (pS' O (zQ (zB (sL [1,2,4,5,6,7,8] O) (q1 (q4 (AD (v:=(pP b5 0)) (AB (j:=0) O O underlying71 sizeOf3 O jY O) O (BG 0 (vN ((ts.getD t jJ).1)) Bk O (AL O (C3 (args:=[(vN ((ts.getD t jJ).1)),(vN ps.length)]) (v:=(qa true)) call117 (λw hw=>(by have h9:=Cc ((ts.getD t jJ).1) ps.length w;rw [xI Z] at h9;exact h9)) O ?_)))))))))))
 refine AD (BE (c:=false) O O) O (AL O (BI (v:=(pP b5 1)) O (AB (j:=1) O O underlying71 sizeOf3 O jY O) (BI (v:=(vN ((ts.getD t jJ).2.1))) O (AH (i:=0) (v:=(vN ((ts.getD t jJ).2.1))) O O Bk.a O) (Gq O (zg (v:=(qa true)) (AU O) (Am (args:=[(vN ((ts.getD t jJ).2.1)),(vN ps.length)]) O O call117) (λw hw=>(by have h9:=Cc ((ts.getD t jJ).2.1) ps.length w;rw [xI Z] at h9;exact h9)) O (A_ O) (BI (v:=(qa false)) O (BE (c:=false) O O) (AD (v:=(qa false)) (AP O O) O (AL O (BI (v:=(pP b5 2)) O (AB (j:=2) O O underlying71 sizeOf3 O jY O) (BI (v:=(vN ((ts.getD t jJ).2.2))) O (AH (i:=0) (v:=(vN ((ts.getD t jJ).2.2))) O O Bk.a O) (Gq O ?_)))))))))))
 refine zg (v:=(qa true)) (AU O) (Am (args:=[(vN ((ts.getD t jJ).2.2)),(vN ps.length)]) O O call117) (λw hw=>(by have h9:=Cc ((ts.getD t jJ).2.2) ps.length w;rw [xI Z] at h9;exact h9)) O (A_ O) (BI (v:=(qa false)) O (BE (c:=false) O O) (AD (v:=(qa false)) (AP O O) O (oNl' (zB (sL [1,2,4,5,6,7,47] O) (zA (zS O (zC (q1 (C8 (El 18++[(18,false),(19,false),(20,false)]) (sk (sl (sl (sl sr)))) (Al (v:=(pP b1 0)) O (AA O underlying34 O sizeOf32 O) (BQ 1 (qz x.a.p ps.length x.a.c) C2 O ?_)))))))))))
 refine Al (v:=(pP b5 0)) O (AB (j:=0) O O underlying71 sizeOf3 O jY O) (BQ 0 (vN ((ts.getD t jJ).1)) Bk O (Al (v:=(pP (pB x.a.p) (pO x.a.p+((ts.getD t jJ).1)*10))) O (AO (j:=(ts.getD t jJ).1) O O x.a.ok underlying32 sizeOf78 O Z) (Al (v:=(aG (Aa (ps.getD ((ts.getD t jJ).1) (⟨0,0⟩:Pt))))) O (AM (vs:=Aa (ps.getD ((ts.getD t jJ).1) (⟨0,0⟩:Pt))) (i:=2) O O (A8.ne x.a.ok Z) A9 (Ae Ap _ _ _ Z) (Ap _)) (Al (v:=(pP b1 0)) O (AA O underlying34 O sizeOf32 O) (BQ 1 (qz x.a.p ps.length x.a.c) C2 O (Al (v:=(pP b5 1)) O (AB (j:=1) O O underlying71 sizeOf3 O jY O) (BQ 0 (vN ((ts.getD t jJ).2.1)) Bk O (Al (v:=(pP (pB x.a.p) (pO x.a.p+((ts.getD t jJ).2.1)*10))) O (AO (j:=(ts.getD t jJ).2.1) O O x.a.ok underlying32 sizeOf78 O Z) (Al (v:=(aG (Aa (ps.getD ((ts.getD t jJ).2.1) (⟨0,0⟩:Pt))))) O (AM (vs:=Aa (ps.getD ((ts.getD t jJ).2.1) (⟨0,0⟩:Pt))) (i:=2) O O (A8.ne x.a.ok Z) A9 (Ae Ap _ _ _ Z) (Ap _)) (Al (v:=(pP b1 0)) O (AA O underlying34 O sizeOf32 O) (BQ 1 (qz x.a.p ps.length x.a.c) C2 O ?_)))))))))))
 refine Al (v:=(pP b5 2)) O (AB (j:=2) O O underlying71 sizeOf3 O jY O) (BQ 0 (vN ((ts.getD t jJ).2.2)) Bk O (Al (v:=(pP (pB x.a.p) (pO x.a.p+((ts.getD t jJ).2.2)*10))) O (AO (j:=(ts.getD t jJ).2.2) O O x.a.ok underlying32 sizeOf78 O Z) (Al (v:=(aG (Aa (ps.getD ((ts.getD t jJ).2.2) (⟨0,0⟩:Pt))))) O (AM (vs:=Aa (ps.getD ((ts.getD t jJ).2.2) (⟨0,0⟩:Pt))) (i:=2) O O (A8.ne x.a.ok Z) A9 (Ae Ap _ _ _ Z) (Ap _)) (zN O (Fi O sizeOf78 O (zD (sk (sl (sl (sl sr)))) (zN O (Ls O sizeOf78 O (zD (sk (sl (sl (sl sr)))) (zN O (CM O sizeOf78 O ?_)))))))))))
 exact zD (sk (sl (sl (sl sr)))) (zQ (zB (sL [1,2,4,5,6,7] O) (zA (zG (Du O (An (i:=3) (cs:=Aa (ps.getD ((ts.getD t jJ).1) (⟨0,0⟩:Pt))) O O isAgg78 sizeOf78 O) (An (i:=2) (cs:=Aa (ps.getD ((ts.getD t jJ).2.1) (⟨0,0⟩:Pt))) O O isAgg78 sizeOf78 O) (An (i:=1) (cs:=Aa (ps.getD ((ts.getD t jJ).2.2) (⟨0,0⟩:Pt))) O O isAgg78 sizeOf78 O) (λw hw=>⟨rfl,hw.out⟩))))))
end
section
set_option maxRecDepth 100000
theorem Vu (a:Nat) (w:World)  :Calls prog 169 #[(vN a)] w (Ac w (qa false)):=by
 refine AW (args:=[(vN a)]) func169 O O (A_ O) (zM (sL [0] O) (q4 (asg' O (oNl' (q2 (AL O (AL O (AD (Bv (c:=false) O O jX) O (asg' O (oNl' (zB (sL [2] O) ?_)))))))))))
 exact zA (zG (ret_one O (rd_tmp (v:=(qa false)) O) (λw hw=>⟨rfl,hw.out⟩)))
theorem RO (a b:Nat) (w:World)  :Calls prog 107 #[(vN a),(vN b)] w (Ac w (vI (EH a b))):=by
 refine AW (args:=[(vN a),(vN b)]) func107 O O (A_ O) (zM (sL [0,1] O) (q4 (asg' O (oNl' (q2 (AL O (ck' call169 (Vu a) O (asg' O (q3 (sL [0,1,4,5] O) (AL O (ck' call169 (Vu b) O ?_)))))))))))
 refine asg' O (q6 (sL [0,1,4,5,6] O) (q4 (AL O (oNl' (zB (sL [0,1,4,6,11] O) (zA (zS O (zC (q1 (q4 (AL O ?_)))))))))))
 refine oNl' (zB (sL [0,1,4,6,13] O) (zA (zS O (zC (q1 (q4 (AL O (AL O (AD (Ab (c:=(decide (a<b))) O O (DA (a:=a) (b:=b))) O (oNl' (zB (sL [0,1,4,6,16] O) ?_)))))))))))
 refine zA ?_
 refine zK O (λhc3=>?_) (λhc3=>?_)
 ·replace hc3:=xT hc3
  have hr:=RN hc3
  exact q4 (asg' O (oNl' (zA (zG (zJ (ret_one O (rd_tmp (v:=(vI (-1:Int))) O) (λw hw=>⟨by rw [hr]<;>rfl,hw.out⟩)))))))
 ·replace hc3:=xS hc3
  refine zC (q1 (q4 (AL O (AL O (AD (Da (c:=(decide (b<a))) O O (DA (a:=b) (b:=a))) O (oNl' (zB (sL [0,1,4,6,19] O) (zA ?_))))))))
  refine zK O (λhc4=>?_) (λhc4=>?_)
  ·replace hc4:=xT hc4
   have hr:=RL hc3 hc4
   exact q4 (asg' O (oNl' (zA (zG (zJ (ret_one O (rd_tmp (v:=(vI 1)) O) (λw hw=>⟨by rw [hr]<;>rfl,hw.out⟩)))))))
  ·replace hc4:=xS hc4
   have hr:=RK hc3 hc4
   exact zC (q2 (asg' O (oNl' (zA (zG (ret_one O (rd_tmp (v:=(vI 0)) O) (λw hw=>⟨by rw [hr]<;>rfl,hw.out⟩)))))))
theorem Uf (a b:Int) (g:Nat) (w:World) (hg:w.heap[g]?=some (.cells ([(vI a),(vI b)]).toArray 3 (0,0))):Calls prog 106 #[(qz (jk g) 2 2)] w (λe w'=>e=.returned (Value.int .i64 (V9 a b))/\Jq w w' (some g)/\w'.heap[g]?=some (.cells ([(vI a),(vI b)]).toArray 3 (0,0))):=by
 refine Fw (args:=[(qz (jk g) 2 2)]) (g:=g) (T:=3) (cs:=[(vI a),(vI b)]) func106 O O (A_ O) hg (zM (sL [0] O) (q4 (asg' O (oNl' (q2 (asg' O (oNl' (q1 (q4 (AL O (AD (v:=(vI 2)) (AE O underlying102) O ?_)))))))))))
 refine AL O (oNl' (zB (sL [2,3,6,7,8] O) (zA (zI (yD 4 (zZ (q4 (AD (Ab (c:=true) O O jY) O (oNl' (q1 (zV O ?_)))))))))))
 refine zC (q1 (zI (q4 (AD (v:=(pP g 0)) (AG (j:=0) O O underlying102 sizeOf3 O Z O) O (BG 0 (vI a) Bk O (asg' O (q3 (sL [2,3,6,7,8,5] O) (AL O (AL O (AD (Bv (c:=(decide (a≠(0:Int)))) O O O) O (oNl' ?_)))))))))))
 refine zB (sL [2,3,6,7,8,5,14] O) (zA ?_)
 refine zK O (λhc1=>?_) (λhc1=>?_)
 ·replace hc1:=xT hc1
  have hr:V9 a b=a:=if_pos hc1
  exact q4 (AL O (asg' O (oNl' (zB (sL [2,3,6,7,8,5] O) (zA (zG (zR (zJ (zJ (zR (zJ (ret_one O (rd_tmp (v:=(vI a)) O) (λw hw=>⟨by rw [hr]<;>rfl,hw.1,hw.get (i:=0) O⟩)))))))))))))
 ·replace hc1:=xS hc1
  have hq:=hc1
  refine zC (zF (zA (zH (AD (AS (c:=(1:Int)) O O jY) O (AL O (oNl' (zB (sL [2,3,6,7,8,5] O) (zk (zZ (q4 (AD (Ab (c:=true) O O jY) O ?_)))))))))))
  refine oNl' (q1 (zV O (zC (q1 (zI (q4 (AD (v:=(pP g 1)) (AG (j:=1) O O underlying102 sizeOf3 O Z O) O (BG 0 (vI b) Bk O (asg' O (q3 (sL [2,3,6,7,8,5] O) (AL O ?_)))))))))))
  refine AL O (AD (Bv (c:=(decide (b≠(0:Int)))) O O O) O (oNl' (zB (sL [2,3,6,7,8,5,14] O) (zA ?_))))
  refine zK O (λhc1=>?_) (λhc1=>?_)
  ·replace hc1:=xT hc1
   have hr:V9 a b=b:=by rw [V9,if_neg hq,if_pos hc1]
   exact q4 (AL O (asg' O (oNl' (zB (sL [2,3,6,7,8,5] O) (zA (zG (zR (zJ (zJ (zR (zJ (ret_one O (rd_tmp (v:=(vI b)) O) (λw hw=>⟨by rw [hr]<;>rfl,hw.1,hw.get (i:=0) O⟩)))))))))))))
  ·replace hc1:=xS hc1
   have hr:V9 a b=0:=by rw [V9,if_neg hq,if_neg hc1]
   refine zC (zF (zA (zH (AD (AS (c:=(2:Int)) O O jY) O (AL O (oNl' (zB (sL [2,3,6,7,8,5] O) (zk (zZ (q4 (AD (Ab (c:=false) O O jY) O ?_)))))))))))
   refine oNl' (q1 (zS O (zU (zO (zO (zP (q2 (AL O (asg' O (oNl' (zB (sL [2,3,6,7,8,5] O) ?_)))))))))))
   exact zA (zG (ret_one O (rd_tmp (v:=(vI 0)) O) (λw hw=>⟨by rw [hr]<;>rfl,hw.1,hw.get (i:=0) O⟩)))
end
end Go.Proofs.YtbfdamnfcmefmaaGreatDoor
