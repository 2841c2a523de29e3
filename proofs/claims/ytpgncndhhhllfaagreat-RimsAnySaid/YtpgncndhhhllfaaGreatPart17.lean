import Derived.Test.YtpgncndhhhllfaaGreatPart03
import Derived.Test.YtpgncndhhhllfaaGreatPart04
import Derived.Test.YtpgncndhhhllfaaGreatPart06
import Derived.Test.YtpgncndhhhllfaaGreatPart12
import Derived.Test.YtpgncndhhhllfaaGreatPart16
namespace Go.Proofs.YtpgncndhhhllfaaGreat
open Go Go.RowKit Go.Proofs.Tryz
set_option linter.unusedVariables false
set_option linter.unusedSimpArgs false
section
def Dd (a b:Nat):Int:=if a<b then -1 else if b<a then 1 else 0
theorem QV {a b:Nat} (h:a<b):Dd a b = -1:=if_pos h
theorem QM {a b:Nat} (h:¬a<b) (h2:b<a):Dd a b=1:=by rw [Dd,if_neg h,if_pos h2]
theorem Pw {a b:Nat} (h:¬a<b) (h2:¬b<a):Dd a b=0:=by rw [Dd,if_neg h,if_neg h2]
def Tq (a b:Int):Int:=if a≠0 then a else if b≠0 then b else 0
section
variable {P:Program} {n:Nat} {F:List (Nat×Value)} {w0:BE} {L:List As} {d:Option Tmp} {x:Operand} {t:TypeId} {p:String} {af:Array Edge} {g:Option (Nat×Bool)}
theorem DB {tx e:TypeId} {a:Option Addr} {len cap k:Nat} {hi mx:Operand} {ki kj:IntKind} {m:Nat} (hx:evF F x=some (.slice a len cap)) (hh:evF F hi=some (.int ki (m:Nat))) (hj:evF F mx=some (.int kj (m:Nat))) (hu:P.underlying tx=some (.slice e)) (hs:∀w,(sizeOf e).run P w=.ok k w) (hm:m<=cap) :
    Ex P n F w0 L ⟨d,.slice tx x none (some hi) (some mx),t,p,af,g⟩ (.slice a m m):=λA w ha _=>by
  simp only [execOp,ha.ev hx,Instr.sliceAt,run_underlying hu,Instr.slice,Option.map_some,Option.map_none,ha.ev hh,ha.ev hj,Instr.sliceBounds,Instr.sliceBound,asIntOf,Sem.run_bind,Result.andThen_ok,Sem.run_pure]
  have h1:(0:Int)<=(m:Int)/\(m:Int)<=(cap:Int):=⟨Z,Z⟩
  simp [h1.2,hs]
  cases a<;>simp [Addr.add]
end
section
variable {P:Program} {ops:Array Oper} {rest:List Oper} {Q:Exit->Act->World->Prop} {n:Nat} {F:List (Nat×Value)} {w0:BE} {L L':List As}
theorem AC.subL (hs:L'.Sublist L) (h:AC P ops rest Q n F w0 L'):AC P ops rest Q n F w0 L:=λa w ha hw=>h a w ha (hw.weak hs)
end
end

theorem Az {α:Type} {enc:α->List Value} {z:Nat} (h:∀x,(enc x).length=z) (d:α) (xs:List α) (j r:Nat) (hj:j<xs.length) (hr:r<z) {v:Value} (hv:(enc (xs.getD j d))[r]?=some v):(rowsL enc xs)[j*z+r]?=some v:=by
  have h1:=A8 h d xs j hj
  rw [<-h1,List.getElem?_take_of_lt hr,List.getElem?_drop] at hv
  exact hv
theorem Ps (p:Pt):(CG p).length=10:=rfl
structure au (ps:List Pt) (t:Tq3):Prop where
  a:t.1<ps.length
  b:t.2.1<ps.length
  c:t.2.2<ps.length
  ab:t.1≠t.2.1
  bc:t.2.1≠t.2.2
  ca:t.2.2≠t.1
  pos:0<Jy (ps.getD t.1 ⟨0,0⟩) (ps.getD t.2.1 ⟨0,0⟩) (ps.getD t.2.2 ⟨0,0⟩)
def aR (ps:List Pt) (t:Tq3) (q:Pt):Prop:=0<Jy q (ps.getD t.2.1 ⟨0,0⟩) (ps.getD t.2.2 ⟨0,0⟩)/\0<Jy (ps.getD t.1 ⟨0,0⟩) q (ps.getD t.2.2 ⟨0,0⟩)/\0<Jy (ps.getD t.1 ⟨0,0⟩) (ps.getD t.2.1 ⟨0,0⟩) q
def bQ (ps:List Pt) (t:Tq3) (q:Pt):Prop:=0<=Jy q (ps.getD t.2.1 ⟨0,0⟩) (ps.getD t.2.2 ⟨0,0⟩)/\0<=Jy (ps.getD t.1 ⟨0,0⟩) q (ps.getD t.2.2 ⟨0,0⟩)/\0<=Jy (ps.getD t.1 ⟨0,0⟩) (ps.getD t.2.1 ⟨0,0⟩) q
def Zw (m:MQ):Nat:=1+m.den%6
def cj (m:MQ) (z:Int×Int):PD:=⟨⟨z.1,Zw m⟩,⟨z.2,Zw m⟩⟩
def cG (m:MQ) (zs:List (Int×Int)) (i:Nat):List Pt:=(zs.take i).map λz=>HB (cj m z)
def cH (m:MQ) (pl:List P2):List (Int×Int):=pl.map λp=>(mapM m).at_ p
structure ZD (ps:List Pt) (ts:List (Tq3)):Prop where
  ne:ts≠[]
  tl:ts.length<=36
  pl:ps.length<=108
  sz:∀i,cO (ps.getD i ⟨0,0⟩)<=4
  tri:∀j,j<ts.length->au ps (ts.getD j (0,0,0))
  apart:∀i j,i<ts.length->j<ts.length->i≠j->∀q,aR ps (ts.getD i (0,0,0)) q->¬bQ ps (ts.getD j (0,0,0)) q
  lat:∃(m:MQ) (pl:List P2),Yy m (Ly m).length pl ts/\bB pl/\ps=cG m (cH m pl) pl.length
structure MG where
  ps:List Pt
  ts:List (Tq3)
  ss:List (Tq3)
  good:ZD ps ts
  sl:ss.length<=108*108
  sd:∃m:MQ,ss=Ok m ts ps.length ps.length
  a:RX (rowsL CG ps) ps.length
  b:RX (rowsL Am ts) ts.length
  c:RX (rowsL Am ss) ss.length
def bF (x:MG):List Value:=[x.a.val,x.b.val,x.c.val]
theorem XQ {x:MG} {y:As} (hy:y∈[x.a.row,x.b.row,x.c.row]):y.ro=true:=by
  simp only [List.mem_cons,List.not_mem_nil,or_false] at hy
  rcases hy with rfl|rfl|rfl<;>rfl
instance:CO MG:=⟨λx=>aG (bF x),λx=>[x.a.row,x.b.row,x.c.row],λx y hy=>XQ hy⟩
def bW (m:MQ) (ps:List Pt) (ts:List (Tq3)):Prop:=∃pl:List P2,Yy m (Ly m).length pl ts/\bB pl/\ps=cG m (cH m pl) pl.length
structure MF (m:MQ) where
  g:MG
  lat:bW m g.ps g.ts
instance {m:MQ}:CO (MF m):=⟨λx=>aG (bF x.g),λx=>[x.g.a.row,x.g.b.row,x.g.c.row],λx y hy=>XQ hy⟩
structure bj (m:MQ) where
  f:MF m
  ob:OwnOk f.g.b.p f.g.ts.length f.g.b.c
  da:∀x,f.g.b.p.map (·.block)=some x->f.g.a.p.map (·.block)≠some x
  dc:∀x,f.g.b.p.map (·.block)=some x->f.g.c.p.map (·.block)≠some x
def bM {m:MQ} (y:bj m):As:=Zt y.f.g.b.p 68 3 y.f.g.ts.length y.f.g.b.c (rowsL Am y.f.g.ts)
instance {m:MQ}:CO (bj m):=⟨λy=>aG (bF y.f.g),λy=>[y.f.g.a.row,y.f.g.b.row,y.f.g.c.row,bM y],λx y hy=>by
  simp only [List.mem_cons,List.not_mem_nil,or_false] at hy
  rcases hy with rfl|rfl|rfl|rfl<;>rfl⟩
section
set_option maxRecDepth 100000
theorem TD (q:QD) (h:q.ok) (w:World)  :Calls prog 34 #[(aG (HZ q))] w (Ak w (aG (BB (Lb q)))):=by
 obtain ⟨h1,h2,h3⟩:=h
 refine An (args:=[(aG (HZ q))]) func34 O O (AV O) (AE.subF (sL [0] O) (q4 (B0 (cs:=HZ q) O λb1=>al Lw O λb2=>q3 (sL [1,2] O) (AK (v:=(pP b1 0)) (AB O underlying53 O sizeOf2 O) O (BL 1 (vI q.n) aN O (AK (v:=(pP b1 1)) (AB O underlying53 O sizeOf50 O) O (BL 1 (vK .u32 q.d) YA O (AK (Eo (c:=((max q.d 1:Nat):Int)) O O (by split<;>omega)) O (AK (A7 (c:=((max q.d 1:Nat):Int)) O underlying50 underlying2 (E2 Z)) O ?_)))))))))
 refine ck' call51 (Xp (q.n:Int) ((max q.d 1:Nat):Int) Z Z Z Z Z) O (AM O (AK (AX (v:=(aG (BB (((q.n:Int):Rat)/(((max q.d 1:Nat):Int):Rat))))) O O) O (AK (AX (v:=(vI 0)) O O) O (al Lw O λb3=>BP O sizeOf64 O (AI O (q3 (sL [2,3] O) (BC 0 J0 O (Ed O sizeOf64 O (AC.nil (OkQ.subF (sL [2,3] O) ?_))))))))))
 exact OkQ.then_ (AE.ret (AS O (BH (i:=1) (cs:=BB (((q.n:Int):Rat)/(((max q.d 1:Nat):Int):Rat))) O O isAgg64 sizeOf64 O) (λw hw=>⟨rfl,hw.out⟩)))
theorem EB (x0:Rat) (x1:Rat):Instr.fill ([(0,5),(5,5)].toArray[·]?) (CG (⟨0,0⟩:Pt)).toArray [(0,.agg (BB x0).toArray),(1,.agg (BB x1).toArray)]=some (BB x0++BB x1).toArray:=by kernel_rfl
theorem Xf (p:PD) (h:p.ok) (w:World)  :Calls prog 14 #[(aG (Gj p))] w (Ak w (aG (CG (HB p)))):=by
 have h1:=h.1
 have h2:=h.2
 refine An (args:=[(aG (Gj p))]) func14 O O (AV O) (AE.subF (sL [0] O) (q4 (B0 (cs:=Gj p) O λb1=>al ZZ O λb2=>q6 (sL [1,2] O) (Cu [(0,true),(1,true),(3,true),(4,true),(2,false),(5,false),(6,true),(7,false)] (sl sr) (Av (v:=(pP b1 0)) O (AB O underlying55 O sizeOf53 O) (Uz 0 (HZ p.x) RF O (Av (v:=(pP b1 2)) O (AB O underlying55 O sizeOf53 O) (Uz 0 (HZ p.y) RF O (OkE.imp O ?_)))))))))
 refine ck' call34 (TD p.x (by assumption)) O (OkE.back (sl sr) (OkE.imp O (ck' call34 (TD p.y (by assumption)) O (OkE.back (sl sr) (Av (v:=(aG (BB (Lb p.x)++BB (Lb p.y)))) O (Aa (zs:=CG (⟨0,0⟩:Pt)) (vs:=BB (Lb p.x)++BB (Lb p.y)) (pv:=[(0,(aG (BB (Lb p.x)))),(1,(aG (BB (Lb p.y))))]) (places:=[(0,5),(5,5)]) zeroValue66 underlying66 (λw=>by simp [sizeOf64]) O (EB (Lb p.x) (Lb p.y))) (OkE.imp O (BP O sizeOf66 O (OkE.back (sl sr) (OkE.nil (OkQ.subF (sL [2] O) (OkQ.then_ ?_)))))))))))
 exact AE.ret (AS O (BH (i:=0) (cs:=BB (Lb p.x)++BB (Lb p.y)) O O isAgg66 sizeOf66 O) (λw hw=>⟨rfl,hw.out⟩))
end
section
set_option maxRecDepth 100000
theorem ZI:ElemT prog 29 70 3 24:=⟨underlying29,Co (by kernel_rfl)⟩
theorem bE:ElemT prog 27 66 10 112:=⟨underlying27,Co (by kernel_rfl)⟩
end
section
structure MX (ps:List Pt) (ts ss:List (Tq3)) where
  a:RX (rowsL CG ps) ps.length
  b:RX (rowsL Am ts) ts.length
  c:RX (rowsL Am ss) ss.length
def IM {ps:List Pt} {ts ss:List (Tq3)} (x:MX ps ts ss):List Value:=[x.a.val,x.b.val,x.c.val]
theorem Zq {ps:List Pt} {ts ss:List (Tq3)} {x:MX ps ts ss} {y:As} (hy:y∈[x.a.row,x.b.row,x.c.row]):y.ro=true:=by
  simp only [List.mem_cons,List.not_mem_nil,or_false] at hy
  rcases hy with rfl|rfl|rfl<;>rfl
instance {ps:List Pt} {ts ss:List (Tq3)}:CO (MX ps ts ss):=⟨λx=>aG (IM x),λx=>[x.a.row,x.b.row,x.c.row],λx y hy=>Zq hy⟩
structure BX (cs:List Value) where
  b:Nat
instance {cs:List Value}:CO (BX cs):=⟨λx=>pP x.b 0,λx=>[AJ (some ⟨x.b,0,none⟩) cs],λx y hy=>by rcases List.mem_singleton.1 hy with rfl;rfl⟩
theorem IL {b:Nat} {T:TypeId} {cs:List Value} {o:Obj} (h:(Ah b T cs).P o):(AJ (some ⟨b,0,none⟩) cs).P o:=⟨cs.toArray,T,(0,0),h,by show (cs.toArray.toList.drop 0).take cs.length=cs;simp⟩
section
variable {S:Nat->Prop} {w W:World} {w0:BE} {L:List As} {ps:List Pt} {ts ss:List (Tq3)} {cs:List Value}
theorem b9 (hw:BM w0 w L) (i:Nat) {x:BX cs} (hi:L[i]?=some (AJ (some ⟨x.b,0,none⟩) cs)) (hb:w0.w.heap.size<=x.b):Ro (SL w0 S L) w x:=λy hy=>by
  rcases List.mem_singleton.1 hy with rfl
  exact ⟨hw.holds hi,λc e=>⟨⟨_,List.mem_of_getElem? hi,rfl,e⟩,.inl (by injection e with e;rw [<-e];exact hb)⟩⟩
end
section
variable {P:Program} {ops:Array Oper} {rest:List Oper} {Q:Exit->Act->World->Prop} {n d:Nat} {F:List (Nat×Value)} {w0:BE} {S:Nat->Prop} {L:List As} {t:TypeId} {p:String} {af:Array Edge} {y:Operand} {f:FuncId} {xs:List Operand} {args:List Value} {ts:Array TypeId}
theorem AC.frzX (i:Nat) {b:Nat} {T:TypeId} {cs:List Value} (hi:L[i]?=some (Ah b T cs)) (hex:w0.ex=none) (next:w0.w.heap.size<=b->AC P ops rest Q n F w0 (L.set i (AJ (some ⟨b,0,none⟩) cs))):AC P ops rest Q n F w0 L:=λa w ha hw=>by
  refine next ?_ a w ha (hw.freeze hi O (λo hp=>IL hp) (λe=>by cases e))
  rcases (hw.2.1 _ (List.mem_of_getElem? hi) b rfl).1 with h1|h1|h1
  · cases h1
  · exact h1
  · rw [hex] at h1;cases h1
end
def OG (n:Nat) (t:Tq3):Bool:=decide (t.1<n)&&decide (t.2.1<n)&&decide (t.2.2<n)&&!decide (t.1=t.2.1)&&!decide (t.2.1=t.2.2)&&!decide (t.2.2=t.1)
def A_ (n:Nat) (ts:List (Tq3)):Bool:=ts.all (OG n)
theorem CL {n:Nat} {ts:List (Tq3)} (h:A_ n ts=true) {j:Nat} (hj:j<ts.length):OG n (ts.getD j (0,0,0))=true:=by
  rw [List.getD,List.getElem?_eq_getElem hj]
  exact List.all_eq_true.1 h _ (List.getElem_mem hj)
theorem Cn {n:Nat} {t:Tq3} (h:OG n t=true):t.1<n/\t.2.1<n/\t.2.2<n:=by
  simp [OG] at h;omega
def idxB (n:Nat):List (Tq3)->Nat->Int
  | [],_ => -1
  | t::r,i=>if OG n t=true then idxB n r (i+1) else (i:Int)
theorem JH {α:Type} {ts:List α} {d:α} {j:Nat} (hj:j<ts.length):ts.drop j=ts.getD j d::ts.drop (j+1):=by
  rw [List.drop_eq_getElem_cons hj,List.getD,List.getElem?_eq_getElem hj];rfl
theorem SG {n:Nat} {ts:List (Tq3)} {j:Nat} (hj:j<ts.length) (h:OG n (ts.getD j (0,0,0))=true):idxB n (ts.drop j) j=idxB n (ts.drop (j+1)) (j+1):=by
  rw [JH (d:=(0,0,0)) hj];exact if_pos h
theorem UB {n:Nat} {ts:List (Tq3)} {j:Nat} (hj:j<ts.length) (h:OG n (ts.getD j (0,0,0))=false):idxB n (ts.drop j) j=(j:Int):=by
  rw [JH (d:=(0,0,0)) hj];exact if_neg (by rw [h];exact Bool.false_ne_true)
theorem UE {n:Nat} {ts:List (Tq3)} {j:Nat} (hj:¬j<ts.length):idxB n (ts.drop j) j = -1:=by
  rw [List.drop_of_length_le Z];rfl
theorem Lg (n:Nat):∀(ts:List (Tq3)) (i:Nat),decide (0<=idxB n ts i)=!A_ n ts
  | [],i=>rfl
  | t::r,i=>by
    unfold idxB A_
    rw [List.all_cons]
    cases h:OG n t with
    | true=>rw [if_pos rfl,Bool.true_and];exact Lg n r (i+1)
    | false=>rw [if_neg Bool.false_ne_true,Bool.false_and];simp
def cI (ps:List Pt) (k:Nat):Pt:=ps.getD k ⟨0,0⟩
end
section
structure RM (N:Nat) (ts ss:List (Tq3)) where
  cs:List Value
  ds:List Value
  a:RX cs N
  b:RX (rowsL Am ts) ts.length
  c:RX ds ss.length
def BN {N:Nat} {ts ss:List (Tq3)} (x:RM N ts ss):List Value:=[x.a.val,x.b.val,x.c.val]
theorem Z7 {N:Nat} {ts ss:List (Tq3)} {x:RM N ts ss} {y:As} (hy:y∈[x.a.row,x.b.row,x.c.row]):y.ro=true:=by
  simp only [List.mem_cons,List.not_mem_nil,or_false] at hy
  rcases hy with rfl|rfl|rfl<;>rfl
instance {N:Nat} {ts ss:List (Tq3)}:CO (RM N ts ss):=⟨λx=>aG (BN x),λx=>[x.a.row,x.b.row,x.c.row],λx y hy=>Z7 hy⟩
section
variable {S:Nat->Prop} {w:World} {N:Nat} {ts ss:List (Tq3)}
theorem Ya {x:RM N ts ss} (h:Ro S w x):Ro S w x.b:=λy hy=>by rcases List.mem_singleton.1 hy with rfl;exact h _ (List.mem_cons_of_mem _ List.mem_cons_self)
end
def MX.rm {ps:List Pt} {ts ss:List (Tq3)} (x:MX ps ts ss):RM ps.length ts ss:=⟨rowsL CG ps,rowsL Am ss,x.a,x.b,x.c⟩
theorem VW {S:Nat->Prop} {w:World} {ps:List Pt} {ts ss:List (Tq3)} {x:MX ps ts ss} (h:Ro S w x):Ro S w x.rm:=λy hy=>h y hy
structure RU (N M K:Nat) where
  cs:List Value
  es:List Value
  ds:List Value
  a:RX cs N
  b:RX es M
  c:RX ds K
def Bt {N M K:Nat} (x:RU N M K):List Value:=[x.a.val,x.b.val,x.c.val]
theorem ZV {N M K:Nat} {x:RU N M K} {y:As} (hy:y∈[x.a.row,x.b.row,x.c.row]):y.ro=true:=by
  simp only [List.mem_cons,List.not_mem_nil,or_false] at hy
  rcases hy with rfl|rfl|rfl<;>rfl
instance {N M K:Nat}:CO (RU N M K):=⟨λx=>aG (Bt x),λx=>[x.a.row,x.b.row,x.c.row],λx y hy=>ZV hy⟩
def RM.ru {N:Nat} {ts ss:List (Tq3)} (x:RM N ts ss):RU N ts.length ss.length:=⟨x.cs,rowsL Am ts,x.ds,x.a,x.b,x.c⟩
theorem W_ {S:Nat->Prop} {w:World} {N:Nat} {ts ss:List (Tq3)} {x:RM N ts ss} (h:Ro S w x):Ro S w x.ru:=λy hy=>h y hy
end
section
set_option maxRecDepth 100000
theorem KL (p n:Nat) (w:World)  :Calls prog 70 #[(vN p),(vN n)] w (Ak w (Value.bool (decide (p<n)))):=by
 refine An (args:=[(vN p),(vN n)]) func70 O O (AV O) (AE.subF (sL [0,1] O) (q4 (AI O (AC.nil (q2 (AM O (AK (CI (c:=(decide (0<=p))) O O (SW (a:=0) (b:=p))) O (AM O ?_))))))))
 refine AC.mid (FM:=[(0,(vN p)),(1,(vN n)),(4,(Value.bool false)),(5,(vN p)),(6,(Value.bool (decide (0<=p)))),(7,(Value.bool (decide (0<=p)))),(11,(Value.bool ((decide (0<=p))&&(decide (p<n)))))]) (LM:=[]) 4 ?_ ?_
 ·rcases Bool.eq_false_or_eq_true (decide (0<=p)) with hg1|hg1
  ·skip
   refine AC.retell (k:=7) (u:=Value.bool true) O (by rw [hg1]) ?_
   have hg1':=hg1
   replace hg1':=of_decide_eq_true hg1'
   exact AC.step (v:=(vN p)) (AA O) (AW O) O (AV O) (AC.step (v:=(vN n)) (AA O) (AW O) O (AV O) (AC.step (v:=(Value.bool (decide (p<n)))) (AA O) (Ad (c:=(decide (p<n))) O O (B7 (a:=p) (b:=n))) O (AV O) (AK (v:=(Value.bool (decide (p<n)))) (AR O O) O (AC.nil (OkQ.mid (sS O (sS O (sS O (sS O (sS O (sS (by first|rfl|(rw [hg1];rfl)|rw [hg1]) (sS (by first|rfl|(rw [hg1];rfl)|rw [hg1]) (sN)))))))) (List.Sublist.refl _))))))
  ·skip
   refine AC.retell (k:=7) (u:=Value.bool false) O (by rw [hg1]) ?_
   have hg1':=hg1
   replace hg1':=of_decide_eq_false hg1'
   exact AC.skip (AD O) O (AV O) (AC.skip (AD O) O (AV O) (AC.skip (AD O) O (AV O) (AK (v:=(Value.bool false)) (AO O O) O (AC.nil (OkQ.mid (sS O (sS O (sS O (sS O (sS O (sS (by first|rfl|(rw [hg1];rfl)|rw [hg1]) (sS (by first|rfl|(rw [hg1];rfl)|rw [hg1]) (sN)))))))) (List.Sublist.refl _))))))
 exact AI O (AC.nil (OkQ.subF (sL [4] O) (OkQ.then_ (AE.ret (AS O (AZ (v:=(Value.bool ((decide (0<=p))&&(decide (p<n))))) O) (λw hw=>⟨by simp,hw.out⟩))))))
theorem UN (t:Tq3) (n:Nat) (bo:BX [vN n]) (w:World) {S:Nat->Prop} (hbo:Ro S w bo):Calls prog 69 #[(aG (Am t)),(pP bo.b 0)] w (Ak w (Value.bool (!OG n t))):=by
 have lbo:=CV (W:=w) hbo
 refine Ag (args:=[(aG (Am t)),(pP bo.b 0)]) (L:=[AJ (some ⟨bo.b,0,none⟩) ([(vN n)])]) func69 O O (AV O) (C4 hbo Ao) (AE.subF (sL [0,1] O) (q4 (B0 (cs:=Am t) O λb1=>AI O (q3 (sL [1,2,3] O) (AK (v:=(pP b1 0)) (AG (j:=0) O O underlying68 sizeOf3 O (by decide) O) O (BL 0 (vN t.1) BR O (AK (AL (q:=some ⟨bo.b,0,none⟩) (v:=(vN n)) (off:=0) (i:=1) O O (λe=>by cases e) BR O) O (ck' call70 (KL t.1 n) O (AK (BF (c:=(!(decide (t.1<n)))) O O) O (AM O ?_))))))))))
 refine AC.mid (FM:=[(1,(pP bo.b 0)),(2,(pP b1 0)),(3,(Value.bool false)),(4,(pP b1 0)),(5,(vN t.1)),(6,(vN n)),(7,(Value.bool (decide (t.1<n)))),(8,(Value.bool (!(decide (t.1<n))))),(9,(Value.bool (!(decide (t.1<n))))),(15,(Value.bool ((!(decide (t.1<n)))||(!(decide (t.2.1<n))))))]) (LM:=[Ah b1 68 (Am t),AJ (some ⟨bo.b,0,none⟩) ([(vN n)])]) 6 ?_ ?_
 ·rcases Bool.eq_false_or_eq_true (!(decide (t.1<n))) with hg1|hg1
  ·skip
   refine AC.retell (k:=9) (u:=Value.bool true) O (by rw [hg1]) ?_
   have hg1':=hg1
   simp only [Bool.and_eq_true,Bool.or_eq_true,Bool.and_eq_false_iff,Bool.or_eq_false_iff,Bool.not_eq_true',Bool.not_eq_false',decide_eq_true_eq,decide_eq_false_iff_not] at hg1'
   exact AC.skip (AD O) O (AV O) (AC.skip (AD O) O (AV O) (AC.skip (AD O) O (AV O) (AC.skip (AD O) O (AV O) (AC.skip (AD O) O (AV O) (AK (v:=(Value.bool true)) (AR O O) O (AC.nil (OkQ.mid (sS O (sS O (sS O (sS O (sS O (sS O (sS O (sS O (sS (by first|rfl|(rw [hg1];rfl)|rw [hg1]) (sS (by first|rfl|(rw [hg1];rfl)|rw [hg1]) (sN))))))))))) (List.Sublist.refl _))))))))
  ·skip
   refine AC.retell (k:=9) (u:=Value.bool false) O (by rw [hg1]) ?_
   have hg1':=hg1
   simp only [Bool.and_eq_true,Bool.or_eq_true,Bool.and_eq_false_iff,Bool.or_eq_false_iff,Bool.not_eq_true',Bool.not_eq_false',decide_eq_true_eq,decide_eq_false_iff_not] at hg1'
   exact AC.step (v:=(pP b1 1)) (AA O) (AG (j:=1) O O underlying68 sizeOf3 O (by decide) O) O (AV O) (AC.step (v:=(vN t.2.1)) (AA O) (AN (i:=0) (v:=(vN t.2.1)) O O BR.a O) O (AV O) (AC.step (v:=(vN n)) (AA O) (AL (q:=some ⟨bo.b,0,none⟩) (v:=(vN n)) (off:=0) (i:=1) O O (λe=>by cases e) BR O) O (AV O) (AC.call (v:=(Value.bool (decide (t.2.1<n)))) (AA O) (Aw (args:=[(vN t.2.1),(vN n)]) O O call70) (λw hw=>KL t.2.1 n w) O (AV O) (AC.step (v:=(Value.bool (!(decide (t.2.1<n))))) (AA O) (BF (c:=(!(decide (t.2.1<n)))) O O) O (AV O) (AK (v:=(Value.bool (!(decide (t.2.1<n))))) (AO O O) O (AC.nil (OkQ.mid (sS O (sS O (sS O (sS O (sS O (sS O (sS O (sS O (sS (by first|rfl|(rw [hg1];rfl)|rw [hg1]) (sS (by first|rfl|(rw [hg1];rfl)|rw [hg1]) (sN))))))))))) (List.Sublist.refl _))))))))
 refine AM O ?_
 refine AC.mid (FM:=[(1,(pP bo.b 0)),(2,(pP b1 0)),(3,(Value.bool false)),(4,(pP b1 0)),(5,(vN t.1)),(6,(vN n)),(7,(Value.bool (decide (t.1<n)))),(8,(Value.bool (!(decide (t.1<n))))),(9,(Value.bool (!(decide (t.1<n))))),(15,(Value.bool ((!(decide (t.1<n)))||(!(decide (t.2.1<n)))))),(16,(Value.bool ((!(decide (t.1<n)))||(!(decide (t.2.1<n)))))),(22,(Value.bool (((!(decide (t.1<n)))||(!(decide (t.2.1<n))))||(!(decide (t.2.2<n))))))]) (LM:=[Ah b1 68 (Am t),AJ (some ⟨bo.b,0,none⟩) ([(vN n)])]) 6 ?_ ?_
 ·rcases Bool.eq_false_or_eq_true ((!(decide (t.1<n)))||(!(decide (t.2.1<n)))) with hg2|hg2
  ·skip
   refine AC.retell (k:=16) (u:=Value.bool true) O (by rw [hg2]) ?_
   have hg2':=hg2
   simp only [Bool.and_eq_true,Bool.or_eq_true,Bool.and_eq_false_iff,Bool.or_eq_false_iff,Bool.not_eq_true',Bool.not_eq_false',decide_eq_true_eq,decide_eq_false_iff_not] at hg2'
   exact AC.skip (AD O) O (AV O) (AC.skip (AD O) O (AV O) (AC.skip (AD O) O (AV O) (AC.skip (AD O) O (AV O) (AC.skip (AD O) O (AV O) (AK (v:=(Value.bool true)) (AR O O) O (AC.nil (OkQ.mid (sS O (sS O (sS O (sS O (sS O (sS O (sS O (sS O (sS O (sS O (sS (by first|rfl|(rw [hg2];rfl)|rw [hg2]) (sS (by first|rfl|(rw [hg2];rfl)|rw [hg2]) (sN))))))))))))) (List.Sublist.refl _))))))))
  ·skip
   refine AC.retell (k:=16) (u:=Value.bool false) O (by rw [hg2]) ?_
   have hg2':=hg2
   simp only [Bool.and_eq_true,Bool.or_eq_true,Bool.and_eq_false_iff,Bool.or_eq_false_iff,Bool.not_eq_true',Bool.not_eq_false',decide_eq_true_eq,decide_eq_false_iff_not] at hg2'
   exact AC.step (v:=(pP b1 2)) (AA O) (AG (j:=2) O O underlying68 sizeOf3 O (by decide) O) O (AV O) (AC.step (v:=(vN t.2.2)) (AA O) (AN (i:=0) (v:=(vN t.2.2)) O O BR.a O) O (AV O) (AC.step (v:=(vN n)) (AA O) (AL (q:=some ⟨bo.b,0,none⟩) (v:=(vN n)) (off:=0) (i:=1) O O (λe=>by cases e) BR O) O (AV O) (AC.call (v:=(Value.bool (decide (t.2.2<n)))) (AA O) (Aw (args:=[(vN t.2.2),(vN n)]) O O call70) (λw hw=>KL t.2.2 n w) O (AV O) (AC.step (v:=(Value.bool (!(decide (t.2.2<n))))) (AA O) (BF (c:=(!(decide (t.2.2<n)))) O O) O (AV O) (AK (v:=(Value.bool (!(decide (t.2.2<n))))) (AO O O) O (AC.nil (OkQ.mid (sS O (sS O (sS O (sS O (sS O (sS O (sS O (sS O (sS O (sS O (sS (by first|rfl|(rw [hg2];rfl)|rw [hg2]) (sS (by first|rfl|(rw [hg2];rfl)|rw [hg2]) (sN))))))))))))) (List.Sublist.refl _))))))))
 refine AM O ?_
 refine AC.mid (FM:=[(1,(pP bo.b 0)),(2,(pP b1 0)),(3,(Value.bool false)),(4,(pP b1 0)),(5,(vN t.1)),(6,(vN n)),(7,(Value.bool (decide (t.1<n)))),(8,(Value.bool (!(decide (t.1<n))))),(9,(Value.bool (!(decide (t.1<n))))),(15,(Value.bool ((!(decide (t.1<n)))||(!(decide (t.2.1<n)))))),(16,(Value.bool ((!(decide (t.1<n)))||(!(decide (t.2.1<n)))))),(22,(Value.bool (((!(decide (t.1<n)))||(!(decide (t.2.1<n))))||(!(decide (t.2.2<n)))))),(23,(Value.bool (((!(decide (t.1<n)))||(!(decide (t.2.1<n))))||(!(decide (t.2.2<n)))))),(29,(Value.bool ((((!(decide (t.1<n)))||(!(decide (t.2.1<n))))||(!(decide (t.2.2<n))))||(decide (t.1=t.2.1)))))]) (LM:=[Ah b1 68 (Am t),AJ (some ⟨bo.b,0,none⟩) ([(vN n)])]) 6 ?_ ?_
 ·rcases Bool.eq_false_or_eq_true (((!(decide (t.1<n)))||(!(decide (t.2.1<n))))||(!(decide (t.2.2<n)))) with hg3|hg3
  ·skip
   refine AC.retell (k:=23) (u:=Value.bool true) O (by rw [hg3]) ?_
   have hg3':=hg3
   simp only [Bool.and_eq_true,Bool.or_eq_true,Bool.and_eq_false_iff,Bool.or_eq_false_iff,Bool.not_eq_true',Bool.not_eq_false',decide_eq_true_eq,decide_eq_false_iff_not] at hg3'
   exact AC.skip (AD O) O (AV O) (AC.skip (AD O) O (AV O) (AC.skip (AD O) O (AV O) (AC.skip (AD O) O (AV O) (AC.skip (AD O) O (AV O) (AK (v:=(Value.bool true)) (AR O O) O (AC.nil (OkQ.mid (sS O (sS O (sS O (sS O (sS O (sS O (sS O (sS O (sS O (sS O (sS O (sS O (sS (by first|rfl|(rw [hg3];rfl)|rw [hg3]) (sS (by first|rfl|(rw [hg3];rfl)|rw [hg3]) (sN))))))))))))))) (List.Sublist.refl _))))))))
  ·skip
   refine AC.retell (k:=23) (u:=Value.bool false) O (by rw [hg3]) ?_
   have hg3':=hg3
   simp only [Bool.and_eq_true,Bool.or_eq_true,Bool.and_eq_false_iff,Bool.or_eq_false_iff,Bool.not_eq_true',Bool.not_eq_false',decide_eq_true_eq,decide_eq_false_iff_not] at hg3'
   exact AC.step (v:=(pP b1 0)) (AA O) (AG (j:=0) O O underlying68 sizeOf3 O (by decide) O) O (AV O) (AC.step (v:=(vN t.1)) (AA O) (AN (i:=0) (v:=(vN t.1)) O O BR.a O) O (AV O) (AC.step (v:=(pP b1 1)) (AA O) (AG (j:=1) O O underlying68 sizeOf3 O (by decide) O) O (AV O) (AC.step (v:=(vN t.2.1)) (AA O) (AN (i:=0) (v:=(vN t.2.1)) O O BR.a O) O (AV O) (AC.step (v:=(Value.bool (decide (t.1=t.2.1)))) (AA O) (BA (c:=(decide (t.1=t.2.1))) O O (KW (a:=t.1) (b:=t.2.1))) O (AV O) (AK (v:=(Value.bool (decide (t.1=t.2.1)))) (AO O O) O (AC.nil (OkQ.mid (sS O (sS O (sS O (sS O (sS O (sS O (sS O (sS O (sS O (sS O (sS O (sS O (sS (by first|rfl|(rw [hg3];rfl)|rw [hg3]) (sS (by first|rfl|(rw [hg3];rfl)|rw [hg3]) (sN))))))))))))))) (List.Sublist.refl _))))))))
 refine AM O ?_
 refine AC.mid (FM:=[(1,(pP bo.b 0)),(2,(pP b1 0)),(3,(Value.bool false)),(4,(pP b1 0)),(5,(vN t.1)),(6,(vN n)),(7,(Value.bool (decide (t.1<n)))),(8,(Value.bool (!(decide (t.1<n))))),(9,(Value.bool (!(decide (t.1<n))))),(15,(Value.bool ((!(decide (t.1<n)))||(!(decide (t.2.1<n)))))),(16,(Value.bool ((!(decide (t.1<n)))||(!(decide (t.2.1<n)))))),(22,(Value.bool (((!(decide (t.1<n)))||(!(decide (t.2.1<n))))||(!(decide (t.2.2<n)))))),(23,(Value.bool (((!(decide (t.1<n)))||(!(decide (t.2.1<n))))||(!(decide (t.2.2<n)))))),(29,(Value.bool ((((!(decide (t.1<n)))||(!(decide (t.2.1<n))))||(!(decide (t.2.2<n))))||(decide (t.1=t.2.1))))),(30,(Value.bool ((((!(decide (t.1<n)))||(!(decide (t.2.1<n))))||(!(decide (t.2.2<n))))||(decide (t.1=t.2.1))))),(36,(Value.bool (((((!(decide (t.1<n)))||(!(decide (t.2.1<n))))||(!(decide (t.2.2<n))))||(decide (t.1=t.2.1)))||(decide (t.2.1=t.2.2)))))]) (LM:=[Ah b1 68 (Am t),AJ (some ⟨bo.b,0,none⟩) ([(vN n)])]) 6 ?_ ?_
 ·rcases Bool.eq_false_or_eq_true ((((!(decide (t.1<n)))||(!(decide (t.2.1<n))))||(!(decide (t.2.2<n))))||(decide (t.1=t.2.1))) with hg4|hg4
  ·skip
   refine AC.retell (k:=30) (u:=Value.bool true) O (by rw [hg4]) ?_
   have hg4':=hg4
   simp only [Bool.and_eq_true,Bool.or_eq_true,Bool.and_eq_false_iff,Bool.or_eq_false_iff,Bool.not_eq_true',Bool.not_eq_false',decide_eq_true_eq,decide_eq_false_iff_not] at hg4'
   exact AC.skip (AD O) O (AV O) (AC.skip (AD O) O (AV O) (AC.skip (AD O) O (AV O) (AC.skip (AD O) O (AV O) (AC.skip (AD O) O (AV O) (AK (v:=(Value.bool true)) (AR O O) O (AC.nil (OkQ.mid (sS O (sS O (sS O (sS O (sS O (sS O (sS O (sS O (sS O (sS O (sS O (sS O (sS O (sS O (sS (by first|rfl|(rw [hg4];rfl)|rw [hg4]) (sS (by first|rfl|(rw [hg4];rfl)|rw [hg4]) (sN))))))))))))))))) (List.Sublist.refl _))))))))
  ·skip
   refine AC.retell (k:=30) (u:=Value.bool false) O (by rw [hg4]) ?_
   have hg4':=hg4
   simp only [Bool.and_eq_true,Bool.or_eq_true,Bool.and_eq_false_iff,Bool.or_eq_false_iff,Bool.not_eq_true',Bool.not_eq_false',decide_eq_true_eq,decide_eq_false_iff_not] at hg4'
   exact AC.step (v:=(pP b1 1)) (AA O) (AG (j:=1) O O underlying68 sizeOf3 O (by decide) O) O (AV O) (AC.step (v:=(vN t.2.1)) (AA O) (AN (i:=0) (v:=(vN t.2.1)) O O BR.a O) O (AV O) (AC.step (v:=(pP b1 2)) (AA O) (AG (j:=2) O O underlying68 sizeOf3 O (by decide) O) O (AV O) (AC.step (v:=(vN t.2.2)) (AA O) (AN (i:=0) (v:=(vN t.2.2)) O O BR.a O) O (AV O) (AC.step (v:=(Value.bool (decide (t.2.1=t.2.2)))) (AA O) (BA (c:=(decide (t.2.1=t.2.2))) O O (KW (a:=t.2.1) (b:=t.2.2))) O (AV O) (AK (v:=(Value.bool (decide (t.2.1=t.2.2)))) (AO O O) O (AC.nil (OkQ.mid (sS O (sS O (sS O (sS O (sS O (sS O (sS O (sS O (sS O (sS O (sS O (sS O (sS O (sS O (sS (by first|rfl|(rw [hg4];rfl)|rw [hg4]) (sS (by first|rfl|(rw [hg4];rfl)|rw [hg4]) (sN))))))))))))))))) (List.Sublist.refl _))))))))
 refine AM O ?_
 refine AC.mid (FM:=[(1,(pP bo.b 0)),(2,(pP b1 0)),(3,(Value.bool false)),(4,(pP b1 0)),(5,(vN t.1)),(6,(vN n)),(7,(Value.bool (decide (t.1<n)))),(8,(Value.bool (!(decide (t.1<n))))),(9,(Value.bool (!(decide (t.1<n))))),(15,(Value.bool ((!(decide (t.1<n)))||(!(decide (t.2.1<n)))))),(16,(Value.bool ((!(decide (t.1<n)))||(!(decide (t.2.1<n)))))),(22,(Value.bool (((!(decide (t.1<n)))||(!(decide (t.2.1<n))))||(!(decide (t.2.2<n)))))),(23,(Value.bool (((!(decide (t.1<n)))||(!(decide (t.2.1<n))))||(!(decide (t.2.2<n)))))),(29,(Value.bool ((((!(decide (t.1<n)))||(!(decide (t.2.1<n))))||(!(decide (t.2.2<n))))||(decide (t.1=t.2.1))))),(30,(Value.bool ((((!(decide (t.1<n)))||(!(decide (t.2.1<n))))||(!(decide (t.2.2<n))))||(decide (t.1=t.2.1))))),(36,(Value.bool (((((!(decide (t.1<n)))||(!(decide (t.2.1<n))))||(!(decide (t.2.2<n))))||(decide (t.1=t.2.1)))||(decide (t.2.1=t.2.2))))),(37,(Value.bool (((((!(decide (t.1<n)))||(!(decide (t.2.1<n))))||(!(decide (t.2.2<n))))||(decide (t.1=t.2.1)))||(decide (t.2.1=t.2.2))))),(43,(Value.bool ((((((!(decide (t.1<n)))||(!(decide (t.2.1<n))))||(!(decide (t.2.2<n))))||(decide (t.1=t.2.1)))||(decide (t.2.1=t.2.2)))||(decide (t.2.2=t.1)))))]) (LM:=[Ah b1 68 (Am t),AJ (some ⟨bo.b,0,none⟩) ([(vN n)])]) 6 ?_ ?_
 ·rcases Bool.eq_false_or_eq_true (((((!(decide (t.1<n)))||(!(decide (t.2.1<n))))||(!(decide (t.2.2<n))))||(decide (t.1=t.2.1)))||(decide (t.2.1=t.2.2))) with hg5|hg5
  ·skip
   refine AC.retell (k:=37) (u:=Value.bool true) O (by rw [hg5]) ?_
   have hg5':=hg5
   simp only [Bool.and_eq_true,Bool.or_eq_true,Bool.and_eq_false_iff,Bool.or_eq_false_iff,Bool.not_eq_true',Bool.not_eq_false',decide_eq_true_eq,decide_eq_false_iff_not] at hg5'
   exact AC.skip (AD O) O (AV O) (AC.skip (AD O) O (AV O) (AC.skip (AD O) O (AV O) (AC.skip (AD O) O (AV O) (AC.skip (AD O) O (AV O) (AK (v:=(Value.bool true)) (AR O O) O (AC.nil (OkQ.mid (sS O (sS O (sS O (sS O (sS O (sS O (sS O (sS O (sS O (sS O (sS O (sS O (sS O (sS O (sS O (sS O (sS (by first|rfl|(rw [hg5];rfl)|rw [hg5]) (sS (by first|rfl|(rw [hg5];rfl)|rw [hg5]) (sN))))))))))))))))))) (List.Sublist.refl _))))))))
  ·skip
   refine AC.retell (k:=37) (u:=Value.bool false) O (by rw [hg5]) ?_
   have hg5':=hg5
   simp only [Bool.and_eq_true,Bool.or_eq_true,Bool.and_eq_false_iff,Bool.or_eq_false_iff,Bool.not_eq_true',Bool.not_eq_false',decide_eq_true_eq,decide_eq_false_iff_not] at hg5'
   exact AC.step (v:=(pP b1 2)) (AA O) (AG (j:=2) O O underlying68 sizeOf3 O (by decide) O) O (AV O) (AC.step (v:=(vN t.2.2)) (AA O) (AN (i:=0) (v:=(vN t.2.2)) O O BR.a O) O (AV O) (AC.step (v:=(pP b1 0)) (AA O) (AG (j:=0) O O underlying68 sizeOf3 O (by decide) O) O (AV O) (AC.step (v:=(vN t.1)) (AA O) (AN (i:=0) (v:=(vN t.1)) O O BR.a O) O (AV O) (AC.step (v:=(Value.bool (decide (t.2.2=t.1)))) (AA O) (BA (c:=(decide (t.2.2=t.1))) O O (KW (a:=t.2.2) (b:=t.1))) O (AV O) (AK (v:=(Value.bool (decide (t.2.2=t.1)))) (AO O O) O (AC.nil (OkQ.mid (sS O (sS O (sS O (sS O (sS O (sS O (sS O (sS O (sS O (sS O (sS O (sS O (sS O (sS O (sS O (sS O (sS (by first|rfl|(rw [hg5];rfl)|rw [hg5]) (sS (by first|rfl|(rw [hg5];rfl)|rw [hg5]) (sN))))))))))))))))))) (List.Sublist.refl _))))))))
 exact AI O (AC.nil (OkQ.subF (sL [3] O) (OkQ.then_ (AE.ret (AS O (AZ (v:=(Value.bool ((((((!(decide (t.1<n)))||(!(decide (t.2.1<n))))||(!(decide (t.2.2<n))))||(decide (t.1=t.2.1)))||(decide (t.2.1=t.2.2)))||(decide (t.2.2=t.1))))) O) (λw hw=>⟨by congr 2;rw [Bool.eq_iff_iff];simp [OG]<;>omega,hw.out⟩))))))
theorem Yr (n:Nat) (bo:BX [vN n]) (ts:List (Tq3)) (x:RX (rowsL Am ts) ts.length) (hl:ts.length<4611686018427387904) (w:World) {S:Nat->Prop} (hbo:Ro S w bo) (hx:Ro S w x):Calls prog 96 #[(Value.slice x.p ts.length x.c),(Value.func (.func 69) #[] #[(pP bo.b 0)])] w (Ak w (vI (idxB n ts 0))):=by
 have lbo:=CV (W:=w) hbo
 have lx:=CV (W:=w) hx
 refine Ag (args:=[(Value.slice x.p ts.length x.c),(Value.func (.func 69) #[] #[(pP bo.b 0)])]) (L:=[AJ (some ⟨bo.b,0,none⟩) ([(vN n)]),AJ x.p (rowsL Am ts)]) func96 O O (AV O) (C4 hbo (C4 hx Ao)) (AE.subF (sL [0,1] O) (q4 (AI O (AC.nil (q1 (q4 (AM O (AK (v:=(vN ts.length)) (AF O underlying28) O (AM O (AC.nil (OkQ.subF (sL [0,1,4,7,8] O) ?_)))))))))))
 refine OkQ.then_ (AE.block ?_)
 refine AE.lp1 (tg λ(j:Nat)=>j<=ts.length/\idxB n ts 0=idxB n (ts.drop j) j) (tg λ(j:Nat)=>[(0,(Value.slice x.p ts.length x.c)),(1,(Value.func (.func 69) #[] #[(pP bo.b 0)])),(7,(vN ts.length)),(8,(vN j))]) (tg λ(j:Nat)=>[AJ (some ⟨bo.b,0,none⟩) ([(vN n)]),AJ x.p (rowsL Am ts)]) (tg λ(j:Nat)=>ts.length-j) 0 (⟨Nat.zero_le _,rfl⟩) (sF O) sr (λj hJ=>?_)
 obtain ⟨hj,he⟩:=hJ
 refine q4 (AK (Ad (c:=(decide (j<ts.length))) O O (B7 (a:=j) (b:=ts.length))) O (AC.nil (q1 ?_)))
 refine AE.cond O (λhc0=>?_) (λhc0=>?_)
 ·replace hc0:=of_decide_eq_true hc0
  refine AE.skip (q1 (AE.block (q4 (AM O (AI O (q3 (sL [0,1,7,8,5] O) (AM O (AM O (AM O (AK (v:=(pP (pB x.p) (pO x.p+j*3))) (AH (j:=j) O O x.ok underlying28 sizeOf68 O Z) O (AK (v:=(aG (Am (ts.getD j ((0,0,0):Tq3))))) (Ai (vs:=Am (ts.getD j ((0,0,0):Tq3))) (i:=1) O O (Ar.ne x.ok Z) DL (A8 Af _ _ _ Z) (Af _)) O ?_)))))))))))
  refine AC.call (v:=(Value.bool (!OG n (ts.getD j ((0,0,0):Tq3))))) (AT O) (MJ (args:=[(aG (Am (ts.getD j ((0,0,0):Tq3))))]) (caps:=[(pP bo.b 0)]) (all:=[(aG (Am (ts.getD j ((0,0,0):Tq3)))),(pP bo.b 0)]) O O O call69) (λw hw=>UN (ts.getD j ((0,0,0):Tq3)) n bo w (Bc hw 0 O lbo)) O (AV O) (AC.nil (OkQ.subF (sL [0,1,7,8,5,16] O) (OkQ.then_ ?_)))
  refine AE.cond O (λhc1=>?_) (λhc1=>?_)
  ·simp only [Bool.and_eq_true,Bool.or_eq_true,Bool.and_eq_false_iff,Bool.or_eq_false_iff,Bool.not_eq_true',Bool.not_eq_false',decide_eq_true_eq,decide_eq_false_iff_not] at hc1
   have hfin:=he.trans (UB Z (by simpa using hc1))
   exact q4 (AM O (AI O (AC.nil (OkQ.subF (sL [0,1,7,8,5,4] O) (OkQ.then_ (AE.ret (OkQ.in_ret (OkQ.then_ret (OkQ.round1_ret (OkQ.in_ret (OkQ.then_ret (AS O (AZ (v:=(vN j)) O) (λw hw=>⟨by rw [hfin],hw.out⟩)))))))))))))
  ·simp only [Bool.and_eq_true,Bool.or_eq_true,Bool.and_eq_false_iff,Bool.or_eq_false_iff,Bool.not_eq_true',Bool.not_eq_false',decide_eq_true_eq,decide_eq_false_iff_not] at hc1
   exact AE.skip (OkQ.in_normal (OkQ.then_ (AE.region (AK (AY (c:=((j+1:Nat):Int)) O O (AU (a:=j) (b:=1) Z)) O (AM O (AC.nil (OkQ.subF (sL [0,1,7,8,5] O) (OkQ.round1 (j+1) (⟨Z,he.trans (SG Z (by simpa using hc1))⟩) Z (sF O) sr))))))))
 ·replace hc0:=of_decide_eq_false hc0
  have hfin:=he.trans (UE hc0)
  exact AE.exit (OkQ.then_exit (OkQ.round1_exit (OkQ.in_exit (q2 (AI O (AC.nil (OkQ.then_ (AE.ret (AS O (AZ (v:=(vI (-1:Int))) O) (λw hw=>⟨by rw [hfin],hw.out⟩))))))))))
theorem WK (n:Nat) (bo:BX [vN n]) (ts:List (Tq3)) (x:RX (rowsL Am ts) ts.length) (hl:ts.length<4611686018427387904) (w:World) {S:Nat->Prop} (hbo:Ro S w bo) (hx:Ro S w x):Calls prog 68 #[(Value.slice x.p ts.length x.c),(Value.func (.func 69) #[] #[(pP bo.b 0)])] w (Ak w (Value.bool (!A_ n ts))):=by
 have lbo:=CV (W:=w) hbo
 have lx:=CV (W:=w) hx
 refine Ag (args:=[(Value.slice x.p ts.length x.c),(Value.func (.func 69) #[] #[(pP bo.b 0)])]) (L:=[AJ (some ⟨bo.b,0,none⟩) ([(vN n)]),AJ x.p (rowsL Am ts)]) func68 O O (AV O) (C4 hbo (C4 hx Ao)) (AE.subF (sL [0,1] O) (q4 (AI O (AC.nil (q2 (AM O (AM O (Cc call96 (λw hw=>Yr n bo ts x hl w (Bc hw 0 O lbo) (Bc hw 1 O lx)) O (AK (CI (c:=(!A_ n ts)) O O (Lg n ts 0)) O (AI O (AC.nil ?_)))))))))))
 exact OkQ.subF (sL [4] O) (OkQ.then_ (AE.ret (AS O (AZ (v:=(Value.bool (!A_ n ts))) O) (λw hw=>⟨rfl,hw.out⟩))))
theorem QG (n:Nat) (ts:List (Tq3)) (x:RX (rowsL Am ts) ts.length) (hl:ts.length<4611686018427387904) (w:World) {S:Nat->Prop} (hx:Ro S w x):Calls prog 52 #[(Value.slice x.p ts.length x.c),(vN n)] w (Ak w (Value.bool (A_ n ts))):=by
 have lx:=CV (W:=w) hx
 refine Ag (args:=[(Value.slice x.p ts.length x.c),(vN n)]) (L:=[AJ x.p (rowsL Am ts)]) func52 O O (AV O) (C4 hx Ao) (AE.subF (sL [0,1] O) (q4 (B0 (cs:=[(vN n)]) O λb1=>AC.frzX 0 O O λhnb1=>AI O (q3 (sL [0,3,4] O) (AM O (AK (v:=(Value.func (.func 69) #[] #[(pP b1 0)])) (If (vs:=[]) (us:=[(pP b1 0)]) O O) O (Cc call68 (λw hw=>WK n ⟨b1⟩ ts x hl w (b9 (x:=(⟨b1⟩:BX [vN n])) hw 0 O hnb1) (Bc hw 1 O lx)) O (AK (BF (c:=(!(!A_ n ts))) O O) O (AI O ?_)))))))))
 exact AC.nil (OkQ.subF (sL [4] O) (OkQ.then_ (AE.ret (AS O (AZ (v:=(Value.bool (!(!A_ n ts)))) O) (λw hw=>⟨by simp,hw.out⟩)))))
theorem E_ {N:Nat} {ts ss:List (Tq3)} (x:RM N ts ss) (hl:ts.length<4611686018427387904) (w:World) {S:Nat->Prop} (hx:Ro S w x):Calls prog 35 #[(aG (BN x))] w (Ak w (Value.bool (A_ N ts))):=by
 have lx:=CV (W:=w) hx
 refine Ag (args:=[(aG (BN x))]) (L:=[AJ x.a.p (x.cs),AJ x.b.p (rowsL Am ts),AJ x.c.p (x.ds)]) func35 O O (AV O) (C4 hx Ao) (AE.subF (sL [0] O) (q4 (B0 (cs:=BN x) O λb1=>AI O (q3 (sL [1,2] O) (AK (v:=(pP b1 1)) (AB O underlying31 O sizeOf28 O) O (BL 0 (Value.slice x.b.p ts.length x.b.c) Bp O (AK (v:=(pP b1 0)) (AB O underlying31 O sizeOf27 O) O (BL 0 (Value.slice x.a.p N x.a.c) WJ O (AK (v:=(vN N)) (AF O underlying27) O (Cc call52 (λw hw=>QG N ts x.b hl w (Ya (Bc hw 1 O lx))) O ?_))))))))))
 exact AI O (AC.nil (OkQ.subF (sL [2] O) (OkQ.then_ (AE.ret (AS O (AZ (v:=(Value.bool (A_ N ts))) O) (λw hw=>⟨rfl,hw.out⟩))))))
end
end Go.Proofs.YtpgncndhhhllfaaGreat
