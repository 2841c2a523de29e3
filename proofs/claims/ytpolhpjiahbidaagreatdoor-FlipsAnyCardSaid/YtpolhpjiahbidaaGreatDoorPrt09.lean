import Derived.Laws.AppendOwn
import Derived.Test.YtpolhpjiahbidaaGreatDoorPrt08
namespace Go.Proofs.YtpolhpjiahbidaaGreatDoor
open Go Go.RowKit Go.Proofs.Tryz
open Go.Value renaming slice→qz,bool→qa
set_option linter.unusedVariables false
set_option linter.unusedSimpArgs false
section
set_option maxRecDepth 100000
set_option maxHeartbeats 2000000 in
theorem VF (a b c p:Pt) (hs:BV a+BV b+BV c+BV p<=268435456) (h:Aa a b c≠0) (w:World)  :Calls prog 228 #[(aG (Ad a)),(aG (Ad b)),(aG (Ad c)),(aG (Ad p))] w (AX w (vN (Jb (Aa p b c/Aa a b c) (Aa a p c/Aa a b c) (Aa a b p/Aa a b c)))):=by
 obtain ⟨l0,hl0⟩:∃l,l=Aa p b c/Aa a b c:=⟨_,rfl⟩
 obtain ⟨l1,hl1⟩:∃l,l=Aa a p c/Aa a b c:=⟨_,rfl⟩
 obtain ⟨l2,hl2⟩:∃l,l=Aa a b p/Aa a b c:=⟨_,rfl⟩
 refine AS (args:=[(aG (Ad a)),(aG (Ad b)),(aG (Ad c)),(aG (Ad p))]) func228 O O (leB O) (zM (sL [0,1,2,3] O) (q4 (BG (cs:=Ad a) O λb1=>BG (cs:=Ad b) O λb2=>BG (cs:=Ad c) O λb3=>BG (cs:=Ad p) O λb4=>asg' O (q3 (sL [4,5,6,7,8] O) (An 3 BD O (An 2 BD O (An 1 BD O ?_)))))))
 refine An 0 BD O (Bx (args:=[(aG (Ad a)),(aG (Ad b)),(aG (Ad c)),(aG (Ad p))]) (v:=(Value.tuple #[(aG (AG l0++AG l1++AG l2)),(vI 0)])) call261 (λw hw=>(by rw [hl0,hl1,hl2];exact YH a b c p Z h w)) O (AJ O (st' (AK (v:=(aG (AG l0++AG l1++AG l2))) O O) O (st' (AK (v:=(vI 0)) O O) O (al NP O λb5=>Aj O sizeOf328 O (asg' O (q6 (sL [8,9,10] O) (q4 (AJ O (st' (Bf (c:=false) O O jY) O ?_))))))))))
 refine oNl' (zF (sL [8,9,22] O) (zC (zX O (zJ (q2 (asg' O (q6 (sL [8,9,11] O) (q4 (AJ O (oNl' (zC ?_)))))))))))
 refine zN (yG 5 (zk (q4 (st' (AW (c:=true) O O jY) O (oNl' (q1 (zZ O (zJ (q1 (zN (q4 ?_)))))))))))
 refine AJ O (asg' O (q3 (sL [8,9,11,23,12] O) (AJ O (st' (v:=(pP b5 0)) (AB (j:=0) O O underlying328 sizeOf77 O jY O) O (C9 0 (AG l0) Bj O (ck' call196 (Eu l0) O (oNl' (zF (sL [8,9,11,23,29] O) (zC ?_)))))))))
 refine yQ (tg λ(pl0:Nat)=>pl0=1+zq l0/\¬l0.num.sign = -1) (tg λ(pl0:Nat)=>[(9,(pP b5 0)),(23,(vI 0)),(11,(vN pl0))]) (tg λ(pl0:Nat)=>[AU b5 328 (AG l0++AG l1++AG l2),AU b4 99 (Ad p),AU b3 99 (Ad c),AU b2 99 (Ad b),AU b1 99 (Ad a)]) ?_ ?_
 ·refine zN (q4 (st' (A9 (c:=(decide (l0.num.sign=(-1:Int)))) O O O) O (asg' O (oNl' (zF (sL [8,9,11,23,29,30] O) (zC ?_))))))
  refine zO O (λhc2=>?_) (λhc2=>?_)
  ·replace hc2:=xR hc2
   have hz:=Rm (x:=l0) (y:=l1) (z:=l2) hc2
   exact q4 (asg' O (oNl' (zC (zH (zU (yw (zU (zI (zI (zU (zI (ret_one O (rd_tmp (v:=(vI 0)) O) (λw hw=>⟨by rw [<-hl0,<-hl1,<-hl2,hz];rfl,hw.out⟩)))))))))))))
  ·replace hc2:=xQ hc2
   refine q4 (st' (A9 (c:=(decide (l0.num.sign=(0:Int)))) O O O) O (asg' O (oNl' (zF (sL [8,9,11,23,29,32] O) (zC ?_)))))
   refine zO O (λhc3=>?_) (λhc3=>?_)
   ·replace hc3:=xR hc3
    exact zQ (AJ O (st' (AV (c:=(2:Int)) O O jY) O (asg' O (oNl' (zF (sL [8,9,11,23,29] O) (zP (zo 2 (⟨by simp [Ru hc3],hc2⟩) (sF O) sr)))))))
   ·replace hc3:=xQ hc3
    exact zJ (zP (zo 1 (⟨by simp [OW hc3],hc2⟩) (sF O) sr))
 ·intro pl0 hJ
  obtain ⟨e0,n0⟩:=hJ
  have zz0:=X9 l0
  refine zP (zC (zQ (st' (AV (c:=(1:Int)) O O jY) O (AJ O (oNl' (zF (sL [9,23,11] O) (zu (zk (q4 (st' (AW (c:=true) O O jY) O (oNl' ?_)))))))))))
  refine q1 (zZ O (zJ (q1 (zN (q4 (AJ O (asg' O (q3 (sL [9,23,11,12] O) (AJ O (st' (v:=(pP b5 5)) (AB (j:=1) O O underlying328 sizeOf77 O jY O) O (C9 0 (AG l1) Bj O ?_)))))))))))
  refine ck' call196 (Eu l1) O (oNl' (zF (sL [9,23,11,29] O) (zC ?_)))
  refine yQ (tg λ(pl1:Nat)=>pl1=pl0+zq l1/\¬l1.num.sign = -1) (tg λ(pl1:Nat)=>[(9,(pP b5 0)),(23,(vI 1)),(11,(vN pl1))]) (tg λ(pl1:Nat)=>[AU b5 328 (AG l0++AG l1++AG l2),AU b4 99 (Ad p),AU b3 99 (Ad c),AU b2 99 (Ad b),AU b1 99 (Ad a)]) ?_ ?_
  ·refine zN (q4 (st' (A9 (c:=(decide (l1.num.sign=(-1:Int)))) O O O) O (asg' O (oNl' (zF (sL [9,23,11,29,30] O) (zC ?_))))))
   refine zO O (λhc2=>?_) (λhc2=>?_)
   ·replace hc2:=xR hc2
    have hz:=Rn (x:=l0) (y:=l1) (z:=l2) hc2
    exact q4 (asg' O (oNl' (zC (zH (zU (yw (zU (zI (zI (zU (zI (ret_one O (rd_tmp (v:=(vI 0)) O) (λw hw=>⟨by rw [<-hl0,<-hl1,<-hl2,hz];rfl,hw.out⟩)))))))))))))
   ·replace hc2:=xQ hc2
    refine q4 (st' (A9 (c:=(decide (l1.num.sign=(0:Int)))) O O O) O (asg' O (oNl' (zF (sL [9,23,11,29,32] O) (zC ?_)))))
    refine zO O (λhc3=>?_) (λhc3=>?_)
    ·replace hc3:=xR hc3
     exact zQ (AJ O (st' (AV (c:=((pl0+1:Nat):Int)) O O (AY (a:=pl0) (b:=1) Z)) O (asg' O (oNl' (zF (sL [9,23,11,29] O) (zP (zo (pl0+1) (⟨by simp [Ru hc3],hc2⟩) (sF O) sr)))))))
    ·replace hc3:=xQ hc3
     exact zJ (zP (zo pl0 (⟨by simp [OW hc3],hc2⟩) (sF O) sr))
  ·intro pl1 hJ
   obtain ⟨e1,n1⟩:=hJ
   have zz1:=X9 l1
   refine zP (zC (zQ (st' (AV (c:=(2:Int)) O O jY) O (AJ O (oNl' (zF (sL [9,23,11] O) (zu (zk (q4 (st' (AW (c:=true) O O jY) O (oNl' ?_)))))))))))
   refine q1 (zZ O (zJ (q1 (zN (q4 (AJ O (asg' O (q3 (sL [9,23,11,12] O) (AJ O (st' (v:=(pP b5 10)) (AB (j:=2) O O underlying328 sizeOf77 O jY O) O (C9 0 (AG l2) Bj O ?_)))))))))))
   refine ck' call196 (Eu l2) O (oNl' (zF (sL [9,23,11,29] O) (zC ?_)))
   refine yQ (tg λ(pl2:Nat)=>pl2=pl1+zq l2/\¬l2.num.sign = -1) (tg λ(pl2:Nat)=>[(9,(pP b5 0)),(23,(vI 2)),(11,(vN pl2))]) (tg λ(pl2:Nat)=>[AU b5 328 (AG l0++AG l1++AG l2),AU b4 99 (Ad p),AU b3 99 (Ad c),AU b2 99 (Ad b),AU b1 99 (Ad a)]) ?_ ?_
   ·refine zN (q4 (st' (A9 (c:=(decide (l2.num.sign=(-1:Int)))) O O O) O (asg' O (oNl' (zF (sL [9,23,11,29,30] O) (zC ?_))))))
    refine zO O (λhc2=>?_) (λhc2=>?_)
    ·replace hc2:=xR hc2
     have hz:=Rp (x:=l0) (y:=l1) (z:=l2) hc2
     exact q4 (asg' O (oNl' (zC (zH (zU (yw (zU (zI (zI (zU (zI (ret_one O (rd_tmp (v:=(vI 0)) O) (λw hw=>⟨by rw [<-hl0,<-hl1,<-hl2,hz];rfl,hw.out⟩)))))))))))))
    ·replace hc2:=xQ hc2
     refine q4 (st' (A9 (c:=(decide (l2.num.sign=(0:Int)))) O O O) O (asg' O (oNl' (zF (sL [9,23,11,29,32] O) (zC ?_)))))
     refine zO O (λhc3=>?_) (λhc3=>?_)
     ·replace hc3:=xR hc3
      exact zQ (AJ O (st' (AV (c:=((pl1+1:Nat):Int)) O O (AY (a:=pl1) (b:=1) Z)) O (asg' O (oNl' (zF (sL [9,23,11,29] O) (zP (zo (pl1+1) (⟨by simp [Ru hc3],hc2⟩) (sF O) sr)))))))
     ·replace hc3:=xQ hc3
      exact zJ (zP (zo pl1 (⟨by simp [OW hc3],hc2⟩) (sF O) sr))
   ·intro pl2 hJ
    obtain ⟨e2,n2⟩:=hJ
    have zz2:=X9 l2
    refine zP (zC (zQ (st' (AV (c:=(3:Int)) O O jY) O (AJ O (oNl' (zF (sL [9,23,11] O) (zu (zk (q4 (st' (AW (c:=false) O O jY) O (oNl' ?_)))))))))))
    refine q1 (zX O (zY (zR (zR (zV (q2 (AJ O (asg' O (oNl' (zF (sL [9,23,11,8] O) (zC ?_)))))))))))
    exact zH (ret_one O (rd_tmp (v:=(vN pl2)) O) (λw hw=>⟨by rw [<-hl0,<-hl1,<-hl2,X2 n0 n1 n2,e2,e1,e0],hw.out⟩))
theorem TB (a b c p:Pt) (hs:BV a+BV b+BV c+BV p<=268435456) (h:Aa a b c=0) (w:World)  :Calls prog 228 #[(aG (Ad a)),(aG (Ad b)),(aG (Ad c)),(aG (Ad p))] w (AX w (vI 0)):=by
 refine AS (args:=[(aG (Ad a)),(aG (Ad b)),(aG (Ad c)),(aG (Ad p))]) func228 O O (leB O) (zM (sL [0,1,2,3] O) (q4 (BG (cs:=Ad a) O λb1=>BG (cs:=Ad b) O λb2=>BG (cs:=Ad c) O λb3=>BG (cs:=Ad p) O λb4=>asg' O (q3 (sL [4,5,6,7,8] O) (An 3 BD O (An 2 BD O (An 1 BD O ?_)))))))
 refine An 0 BD O (ck' call261 (Uo a b c p Z h) O (AJ O (st' (AK (v:=(aG (AG (0:Rat)++AG (0:Rat)++AG (0:Rat)))) O O) O (st' (AK (v:=(vI 1)) O O) O (al NP O λb5=>Aj O sizeOf328 O (asg' O (q6 (sL [8,9,10] O) (q4 (AJ O (st' (Bf (c:=true) O O jY) O ?_))))))))))
 exact oNl' (zF (sL [8,9,22] O) (zC (zZ O (q4 (asg' O (oNl' (zF (sL [8,9] O) (zC (zH (zI (ret_one O (rd_tmp (v:=(vI 0)) O) (λw hw=>⟨rfl,hw.out⟩))))))))))))
end
section
set_option maxRecDepth 100000
end
section
def Fd (qs:List Rat):List Value:=qs.flatMap AG
theorem Gc (q:Rat):(AG q).length=5:=rfl
theorem LF:∀{qs:List Rat} {i:Nat},i<qs.length->((Fd qs).drop (i*5)).take 5=AG (qs.getD i 0)
  | [],i,h=>by simp at h
  | q::qs,0,_=>by
    simp only [Fd,List.flatMap_cons,Nat.zero_mul,List.drop_zero,List.getD_cons_zero]
    rw [List.take_append_of_le_length (by rw [Gc];omega),List.take_of_length_le (by rw [Gc];omega)]
  | q::qs,i+1,h=>by
    have ih:=LF (qs:=qs) (i:=i) (by simpa using h)
    simp only [Fd,List.flatMap_cons,List.getD_cons_succ] at ih ⊢
    rw [show (i+1)*5=(AG q).length+i*5 by rw [Gc];omega,List.drop_append,List.drop_of_length_le (Nat.le_add_right _ _),List.nil_append,Nat.add_sub_cancel_left]
    exact ih
def GW (s:Rat) (qs:List Rat) (i:Nat):Rat:=(qs.take i).foldl (·+·) s
theorem TC {s:Rat} {qs:List Rat} {i:Nat} (h:i<qs.length):GW s qs (i+1)=GW s qs i+qs.getD i 0:=by
  unfold GW
  rw [List.take_add_one,List.foldl_append]
  simp [h]
section
variable {P:Program} {n:Nat} {F:List (Nat×Value)} {w0:BA} {L:List As} {v:Value} {x:Operand} {d:Option Tmp} {t:TypeId} {p:String} {af:Array Edge} {g:Option (Nat×Bool)}
theorem FY {tx e:TypeId} {b len k:Nat} (hx:evF F x=some (.pointer (jk b))) (hu:P.underlying tx=some (.array len e)) (hs:∀w,(sizeOf e).run P w=.ok k w) (h0:0<len) :
    Ex P n F w0 L ⟨d,.slice tx x none none none,t,p,af,g⟩ (.slice (jk b) len len):=λA w ha _=>by
  have e1:¬len=0:=by omega
  simp [execOp,ha.ev hx,Instr.sliceAt,run_underlying hu,Instr.sureAddr,Instr.sliceBounds,Instr.sliceBound,hs,e1,Addr.add_lit]
theorem Jj {a:Addr} (hx:evF F x=some (.pointer (some a))):Ex P n F w0 L ⟨d,.nilCheck x,t,p,af,g⟩ (.pointer (some a)):=λA w ha _=>by
  simp [execOp,ha.ev hx]
theorem Ww {f:FuncId} {xs:List Operand} {first args caps all:List Value} {ts:Array TypeId} (hf:evF F x=some (.func (.func f) first.toArray caps.toArray)) (hargs:xs.map (evF F)=args.map some)
    (hall:first++args++caps=all) (hc:∀args w,(callFunc f args).run P w=.ok (.enter f args) w) :
    ∀a w,C8 n a F->BE w0 w L->(execOp a.eval ⟨d,.call { callee:=.value x,args:=xs.toArray,argTypes:=ts },t,p,af,g⟩).run P w=.ok (.enter f all.toArray) w:=λA w ha _=>by
  have e1:xs.toArray.map A.eval=args.toArray:=by rw [<-Kz ha hargs];simp
  subst hall
  simp [execOp,resolve,ha.ev hf,Deferred.ofValue,e1,invoke,hc]
end
end
section
set_option maxRecDepth 100000
theorem OL (s a:Rat) (g:Nat) (hs:Sz s+Sz a<=549755813888) (w:World) (hg:w.heap[g]?=some (.cells (AG s).toArray 221 (0,0))):Calls prog 150 #[(pP g 0),(aG (AG a))] w (λe w'=>e=.returned (.tuple #[])/\Jf w w' (some g)/\w'.heap[g]?=some (.cells (AG (s+a)).toArray 221 (0,0))):=by
 refine GE (args:=[(pP g 0),(aG (AG a))]) (g:=g) (T:=221) (cs:=AG s) func150 O O (leB O) hg (zM (sL [0,1] O) (q4 (BG (cs:=AG a) O λb1=>oNl' (zF (sL [0,3] O) (zC (CE (Dm 4++[(5,true),(4,false),(6,false),(7,true),(8,true),(9,false)]) (sk (sl sr)) (Bl O (Bl O (Ag (v:=(pP g 0)) O (Jj O) (Ag (v:=(pP g 0)) O (AA O underlying221 O sizeOf77 O) ?_))))))))))
 refine C3 0 Bj O (zL O (An 1 Bj O (zG (sk (sl sr)) (zL O ?_))))
 have hz1:=Cb s a
 exact ck' call90 (KL s a (by (try simp only [BO]);omega)) O (zG (sk (sl sr)) (Ag (v:=(pP g 0)) O (Jj O) (Ag (v:=(pP g 0)) O (AA O underlying221 O sizeOf77 O) (zL O (CP O sizeOf77 O (zG (sk (sl sr)) (zT (zF sN (Lk (.inr O) O  (λw hw=>⟨rfl,hw.1,hw.get (i:=1) O⟩))))))))))
theorem O4 (s:Rat) (qs:List Rat) (g bl n c:Nat) (hn:n<=qs.length) (hN:n<4611686018427387904) (hB:∀i,i<n->Sz (GW s qs i)+Sz (qs.getD i 0)<=549755813888) (hne:bl≠g) (w:World) (hg:w.heap[g]?=some (.cells (AG s).toArray 221 (0,0))) (hl:w.heap[bl]?=some (.cells (Fd qs).toArray 77 (0,0))):Calls prog 149 #[(Value.func (.func 150) #[(pP g 0)] #[]),(qz (jk bl) n c)] w (λe w'=>e=.returned (.tuple #[])/\Jf w w' (some g)/\w'.heap[g]?=some (.cells (AG (GW s qs n)).toArray 221 (0,0))):=by
 refine GE (args:=[(Value.func (.func 150) #[(pP g 0)] #[]),(qz (jk bl) n c)]) (g:=g) (T:=221) (cs:=AG s) func149 O O (leB O) hg (zM (sL [0,1] O) (q4 (AJ O (st' (v:=(vN n)) (AD O underlying219) O (AJ O (oNl' (zF (sL [0,6,7,8] O) (zC (zN ?_)))))))))
 refine yM (tg λ(i:Nat) (q:Rat)=>i<=n/\q=GW s qs i) (tg λ(i:Nat) (q:Rat)=>[(0,(Value.func (.func 150) #[(pP g 0)] #[])),(6,(qz (jk bl) n c)),(7,(vN n)),(8,(vN i))]) (tg λ(i:Nat) (q:Rat)=>[AU g 221 (AG q)]) (tg λ(i:Nat) (q:Rat)=>n-i) 0 s (⟨xu _,rfl⟩) (sF O) sr (λi q hJ=>?_)
 obtain ⟨hi,hq⟩:=hJ
 refine q4 (st' (AW (c:=(decide (i<n))) O O (B_ (a:=i) (b:=n))) O (oNl' (q1 ?_)))
 refine zO O (λhc0=>?_) (λhc0=>?_)
 ·replace hc0:=xR hc0
  refine zJ (q1 (zN (q4 (st' (v:=(pP bl (i*5))) (AL (j:=i) O O underlying219 sizeOf77 O Z jX) O (st' (v:=(aG (AG (qs.getD i 0)))) (G3 (vs:=AG (qs.getD i 0)) O (λw' hw=>by have h9:=Ea (off:=i*5) (k:=5) (hw.old (by simpa using hne) hl);rwa [LF Z] at h9) isAgg77 sizeOf77 O) O (al Dg O λb1=>Aj O sizeOf77 O (oNl' (zF (sL [0,6,7,8,5] O) (zC (zQ ?_))))))))))
  refine AJ O (An 0 Bj O ?_)
  have hB2:=hB i hc0
  rw [<-hq] at hB2
  exact yo (v:=(Value.tuple #[])) (i:=1) (cs':=AG (q+(qs.getD i 0))) (L':=[AU b1 77 (AG (qs.getD i 0)),AU g 221 (AG (q+(qs.getD i 0)))]) (AM O) (Ww (first:=[(pP g 0)]) (args:=[(aG (AG (qs.getD i 0)))]) (caps:=[]) (all:=[(pP g 0),(aG (AG (qs.getD i 0)))]) O O O call150) O (λw hw=>OL q (qs.getD i 0) _ Z w (hw.get (i:=1) O)) (λd hd=>by cases hd<;>exact (leB O)) O (oNl' (zF (sL [0,6,7,8,5] O) (zP (zC (zQ (st' (AV (c:=((i+1:Nat):Int)) O O (AY (a:=i) (b:=1) Z)) O (AJ O (oNl' (zF (sL [0,6,7,8,5] O) (z6 (i+1) (q+qs.getD i 0) (⟨Z,by rw [TC Z,hq]⟩) Z (sF O) (sl sr)))))))))))
 ·replace hc0:=xQ hc0
  have hin:i=n:=by omega
  have hqn:q=GW s qs n:=by rw [hq,hin]
  exact zY (zR (zp (zV (Lk (.inr O) O  (λw hw=>⟨rfl,hw.1,by rw [<-hqn];exact hw.get (i:=0) O⟩)))))
end
section
set_option maxRecDepth 100000
theorem Yx {w:World} {b:Nat} {o:Obj} (h:w.heap[b]?=some o):b<w.heap.size:=by
 rcases Nat.lt_or_ge b w.heap.size with h1|h1
 ·exact h1
 ·rw [Array.getElem?_eq_none h1] at h;cases h
theorem aq (qs:List Rat) (bl n c:Nat) (hn:n<=qs.length) (hN:n<4611686018427387904) (hB:∀i,i<n->Sz (GW 0 qs i)+Sz (qs.getD i 0)<=549755813888) (w:World) (hl:w.heap[bl]?=some (.cells (Fd qs).toArray 77 (0,0))):Calls prog 89 #[(qz (jk bl) n c)] w (AX w (aG (AG (GW 0 qs n)))):=by
 refine AS (args:=[(qz (jk bl) n c)]) func89 O O (leB O) (zM (sL [0] O) (q4 (al Dg O λb1=>oNl' (q2 (al eX O λb2=>oNl' (q2 (st' (v:=(Value.func (.func 150) #[(pP b2 0)] #[])) (ED (vs:=[(pP b2 0)]) (us:=[]) O O) O (AJ O (yo (v:=(Value.tuple #[])) (i:=0) (cs':=AG (GW 0 qs n)) (L':=[AU b2 221 (AG (GW 0 qs n)),AU b1 77 (AG (0:Rat))]) (AM O) (Ak (args:=[(Value.func (.func 150) #[(pP b2 0)] #[]),(qz (jk bl) n c)]) O O call149) O (λw hw=>O4 0 qs _ bl n _ hn hN hB (Nat.ne_of_lt (Nat.lt_of_lt_of_le (Yx hl) (hw.fresh (i:=0) O))) w (hw.get (i:=0) O) (hw.old jX hl)) (λd hd=>by cases hd<;>exact (leB O)) O ?_)))))))))
 exact q3 (sL [2,3] O) (st' (v:=(pP b2 0)) (AA O underlying221 O sizeOf77 O) O (An 0 Bj O (CP O sizeOf77 O (oNl' (zF (sL [2,3] O) (zC (zH (ret_one O (Ah (i:=1) (cs:=AG (GW 0 qs n)) O O isAgg77 sizeOf77 O) (λw hw=>⟨rfl,hw.out⟩)))))))))
theorem dR (x y z:Rat):GW 0 [x,y,z] 3=x+y+z:=by simp [GW,Rat.zero_add]
theorem YT (x y z:Rat):∀i,i<3->Sz (GW 0 [x,y,z] i)+Sz (([x,y,z]:List Rat).getD i 0)<=Sz x+Sz y+Sz z+3
 | 0,_=>by
  have h:Sz (0:Rat)<=1:=by decide +kernel
  show Sz (0:Rat)+Sz x<=_
  omega
 | 1,_=>by
  have e:GW 0 [x,y,z] 1=x:=by simp [GW,Rat.zero_add]
  rw [e]
  show Sz x+Sz y<=_
  omega
 | 2,_=>by
  have e:GW 0 [x,y,z] 2=x+y:=by simp [GW,Rat.zero_add]
  have h:=Cb x y
  rw [e]
  show Sz (x+y)+Sz z<=_
  omega
 | n+3,h=>by omega
theorem Rz (x y z:Rat) (bl c:Nat) (h:Sz x+Sz y+Sz z<=137438953472) (w:World) (hl:w.heap[bl]?=some (.cells (Fd [x,y,z]).toArray 77 (0,0))):Calls prog 89 #[.slice (jk bl) 3 c] w (AX w (.agg (AG (x+y+z)).toArray)):=by
 have h1:=aq [x,y,z] bl 3 c jX Z (λi hi=>xx (YT x y z i hi) Z) w hl
 rwa [dR] at h1
theorem SK (x0 x1 x2:Rat):Instr.fill (λi=>some (i*5,5)) ((Array.range (3*5)).map ((Value.agg (AG (0:Rat)).toArray).cells[·%(Value.agg (AG (0:Rat)).toArray).cells.size]!)) [(0,.agg (AG x0).toArray),(1,.agg (AG x1).toArray),(2,.agg (AG x2).toArray)]=some (Fd [x0,x1,x2]).toArray:=by kernel_rfl
end
section
set_option maxRecDepth 100000
theorem Zo (a b:Int):IntKind.i64.wrap (a.sign*b.sign)=a.sign*b.sign:=by
 rw [<-Int.sign_mul]
 generalize a*b=z
 rcases Int.lt_trichotomy z 0 with h|h|h
 ·rw [Int.sign_eq_neg_one_of_neg h];rfl
 ·subst h;rfl
 ·rw [Int.sign_eq_one_of_pos h];rfl
set_option maxHeartbeats 2000000 in
theorem S5 (a b c d:Pt) (hs:BV a+BV b+BV c+BV d<=1048576) (w:World)  :Calls prog 141 #[(aG (Ad a)),(aG (Ad b)),(aG (Ad c)),(aG (Ad d))] w (AX w (vI ((Av (a-d) (a-d)*Ar (b-d) (c-d)+Av (b-d) (b-d)*Ar (c-d) (a-d)+Av (c-d) (c-d)*Ar (a-d) (b-d)).num.sign*(Aa a b c).num.sign))):=by
 refine AS (args:=[(aG (Ad a)),(aG (Ad b)),(aG (Ad c)),(aG (Ad d))]) func141 O O (leB O) (zM (sL [0,1,2,3] O) (q4 (BG (cs:=Ad a) O λb1=>BG (cs:=Ad b) O λb2=>BG (cs:=Ad c) O λb3=>BG (cs:=Ad d) O λb4=>asg' O (q6 (sL [4,5,6,7,8] O) (rN [(0,true),(1,true),(3,true),(4,true),(6,true),(7,true),(2,false),(5,false),(8,false)] [⟨9,9,99,Ad (⟨0,0⟩:Pt)⟩,⟨10,10,99,Ad (⟨0,0⟩:Pt)⟩,⟨11,11,99,Ad (⟨0,0⟩:Pt)⟩] [(12,false),(13,false),(14,false)] sr jV (λ_ _ d _ _ h=>by cases d<;>exact h) (EP O O Fh O (EP O O Fh O (EP O O Fh O (Fk)))) O (DN 3 BD O (DN 0 BD O ?_)))))))
 refine DN 2 BD O (DN 0 BD O (DN 1 BD O (DN 0 BD O (zi O λEF EL=>?_))))
 have hz1:=B0 a d
 refine ck' call120 (Fz a d Z) O (zl sr O (zi O λEF EL=>?_))
 have hz2:=B0 b d
 refine ck' call120 (Fz b d Z) O (zl sr O (zi O λEF EL=>?_))
 have hz3:=B0 c d
 refine ck' call120 (Fz c d Z) O (zl sr O (BP.news3 λb5 b6 b7=>zL O (Aj O sizeOf99 O (zG (sl (sl (sl sr))) (zL O (CP O sizeOf99 O (zG (sl (sl (sl sr))) (zL O (E_ O sizeOf99 O (zG (sl (sl (sl sr))) ?_))))))))))
 refine zT (zF (sL [4,5,6,8,11,10,9] O) (q1 (rN [(0,true),(1,true),(3,true),(4,true),(7,true),(8,true),(10,true),(11,true),(14,true),(15,true),(17,true),(18,true),(2,false),(5,false),(6,false),(9,false),(12,false),(13,false),(16,false),(19,false),(20,false),(21,false),(22,false)] [⟨23,12,77,AG (0:Rat)⟩] [(24,false)] sr jV (λ_ _ d _ _ h=>by cases d<;>exact h) (EP O O Dg O (Fk)) O (DN 0 BD O (DN 0 BD O (DN 1 BD O (DN 2 BD O (DN 1 BD O (DN 1 BD O (DN 2 BD O (DN 0 BD O ?_)))))))))))
 refine DN 2 BD O (DN 2 BD O (DN 0 BD O (DN 1 BD O (zi O λEF EL=>?_))))
 have hz4:=D6 (a-d) (a-d)
 refine ck' call121 (KY (a-d) (a-d) Z) O (zl sr O (zi O λEF EL=>?_))
 have hz5:=Dp (b-d) (c-d)
 refine ck' call195 (GP (b-d) (c-d) Z) O (zl sr O (zi O λEF EL=>?_))
 have hz6:=Bo (Av (a-d) (a-d)) (Ar (b-d) (c-d))
 refine ck' call91 (EN (Av (a-d) (a-d)) (Ar (b-d) (c-d)) (by (try simp only [BO]);omega)) O (zl sr O (zi O λEF EL=>?_))
 have hz7:=D6 (b-d) (b-d)
 refine ck' call121 (KY (b-d) (b-d) Z) O (zl sr O (zi O λEF EL=>?_))
 have hz8:=Dp (c-d) (a-d)
 refine ck' call195 (GP (c-d) (a-d) Z) O (zl sr O (zi O λEF EL=>?_))
 have hz9:=Bo (Av (b-d) (b-d)) (Ar (c-d) (a-d))
 refine ck' call91 (EN (Av (b-d) (b-d)) (Ar (c-d) (a-d)) (by (try simp only [BO]);omega)) O (zl sr O (zi O λEF EL=>?_))
 have hz10:=D6 (c-d) (c-d)
 refine ck' call121 (KY (c-d) (c-d) Z) O (zl sr O (zi O λEF EL=>?_))
 have hz11:=Dp (a-d) (b-d)
 refine ck' call195 (GP (a-d) (b-d) Z) O (zl sr O (zi O λEF EL=>?_))
 have hz12:=Bo (Av (c-d) (c-d)) (Ar (a-d) (b-d))
 refine ck' call91 (EN (Av (c-d) (c-d)) (Ar (a-d) (b-d)) (by (try simp only [BO]);omega)) O (zl sr O (zi O λEF EL=>zn (V:=λb8=>(qz (jk b8) 3 3)) (T:=77) (cs:=Fd [(Av (a-d) (a-d))*(Ar (b-d) (c-d)),(Av (b-d) (b-d))*(Ar (c-d) (a-d)),(Av (c-d) (c-d))*(Ar (a-d) (b-d))]) (AM O) (BH (z:=.agg (AG (0:Rat)).toArray) (cs:=Fd [(Av (a-d) (a-d))*(Ar (b-d) (c-d)),(Av (b-d) (b-d))*(Ar (c-d) (a-d)),(Av (c-d) (c-d))*(Ar (a-d) (b-d))]) (pv:=[(0,(aG (AG ((Av (a-d) (a-d))*(Ar (b-d) (c-d)))))),(1,(aG (AG ((Av (b-d) (b-d))*(Ar (c-d) (a-d)))))),(2,(aG (AG ((Av (c-d) (c-d))*(Ar (a-d) (b-d))))))]) underlying219 sizeOf77 zeroValue77 jY jY O (SK ((Av (a-d) (a-d))*(Ar (b-d) (c-d))) ((Av (b-d) (b-d))*(Ar (c-d) (a-d))) ((Av (c-d) (c-d))*(Ar (a-d) (b-d))))) O (leB O) λb8=>y6 (sl sr) O (zi O λEF EL=>?_)))
 have hz13:=Cb ((Av (a-d) (a-d))*(Ar (b-d) (c-d))) ((Av (b-d) (b-d))*(Ar (c-d) (a-d)))
 have hz14:=Cb (((Av (a-d) (a-d))*(Ar (b-d) (c-d)))+((Av (b-d) (b-d))*(Ar (c-d) (a-d)))) ((Av (c-d) (c-d))*(Ar (a-d) (b-d)))
 refine Bx call89 (λw hw=>Rz ((Av (a-d) (a-d))*(Ar (b-d) (c-d))) ((Av (b-d) (b-d))*(Ar (c-d) (a-d))) ((Av (c-d) (c-d))*(Ar (a-d) (b-d))) _ _ Z w (hw.get (i:=0) O)) O (zl (sl sr) O (yI λb9=>zL O (Aj O sizeOf77 O (zG (sl (sl sr)) (zT (zF (sL [4,5,6,8,11,10,9,12] O) (q1 (CE [(0,true),(2,true),(3,true),(4,true),(1,false),(5,false),(6,true),(7,true)] sr (C3 0 Bj O (C3 8 BD O ?_))))))))))
 refine C3 7 BD O (C3 6 BD O (zL O (ck' call196 (Eu (((Av (a-d) (a-d))*(Ar (b-d) (c-d)))+((Av (b-d) (b-d))*(Ar (c-d) (a-d)))+((Av (c-d) (c-d))*(Ar (a-d) (b-d))))) O (zG sr (zL O (ck' call143 (HG a b c Z) O (zG sr (Ag O (D7 (c:=((Av (a-d) (a-d)*Ar (b-d) (c-d)+Av (b-d) (b-d)*Ar (c-d) (a-d)+Av (c-d) (c-d)*Ar (a-d) (b-d)).num.sign*(Aa a b c).num.sign)) O O (Zo _ _)) (pS' O (zT (zF (sL [4,5,6,8,11,10,9,12] O) ?_)))))))))))
 exact zC (zH (ret_one O (rd_tmp (v:=(vI ((Av (a-d) (a-d)*Ar (b-d) (c-d)+Av (b-d) (b-d)*Ar (c-d) (a-d)+Av (c-d) (c-d)*Ar (a-d) (b-d)).num.sign*(Aa a b c).num.sign))) O) (λw hw=>⟨rfl,hw.out⟩)))
end
section
def Holds (w:World) (x:As):Prop:=∀b,x.foot=some b->∃o,w.heap[b]?=some o/\x.P o
theorem BE.holds {w0:BA} {w:World} {L:List As} {x:As} {i:Nat} (h:BE w0 w L) (hi:L[i]?=some x):Holds w x:=λb e=>(h.2.1 x (List.mem_of_getElem? hi) b e).2
theorem BE.startR {w:World} {L:List As} (h:∀x∈L,x.ro=true/\Holds w x):BE ⟨w,none⟩ w L:=by
  refine ⟨EO (Hu.refl _ _) _,λx hx b e=>⟨.inl (h x hx).1,(h x hx).2 b e⟩,?_⟩
  refine List.Pairwise.imp_of_mem (R:=λ_ _=>True) (λ{a b} ha hb _=>.inl ⟨(h a ha).1,(h b hb).1⟩) ?_
  exact List.pairwise_of_forall (λ_ _=>trivial)
theorem AR {P:Program} {f:FuncId} {fn:Func} {c:Code} {args:List Value} {w:World} {R:Ending->World->Prop} {n:Nat} {L:List As}
    (hf:P.funcs[f]?=some fn) (hb:fn.body=some c) (hn:fn.ntmps=n) (hl:args.length<=n) (hL:∀x∈L,x.ro=true/\Holds w x)
    (h:OkC P c (bodyPost P fn R) n (Ep 0 args) ⟨w,none⟩ L):Calls P f args.toArray w R:=by
  refine calls_of_wp hf hb ?_
  rw [hn]
  exact h _ _ (FJ hl _ λk v hk=>by simpa using (Ci args 0 k v hk).2) (BE.startR hL)
theorem Ae {w:World}:∀x∈([]:List As),x.ro=true/\Holds w x:=λx hx=>by cases hx
theorem CF {w:World} {x:As} {L:List As} (h1:x.ro=true) (h2:Holds w x) (h:∀y∈L,y.ro=true/\Holds w y):∀y∈x::L,y.ro=true/\Holds w y:=λy hy=>by
  rcases xy.1 hy with rfl|hy
  · exact ⟨h1,h2⟩
  · exact h y hy
theorem BE.renew {w0:BA} {w w':World} {L:List As} {x y:As} {i:Nat} (h:BE w0 w L) (hi:L[i]?=some x) (hx:x.ro=false) (hg:Jf w w' x.foot)
    (hy:∀b,y.foot=some b->(x.foot=some b\/w.heap.size<=b)/\∃o,w'.heap[b]?=some o/\y.P o):BE w0 w' (L.set i y):=by
  have hil:i<L.length:=by
    rcases Nat.lt_or_ge i L.length with h1|h1
    · exact h1
    · rw [List.getElem?_eq_none h1] at hi;cases hi
  have hxi:L[i]=x:=by rw [xN hil] at hi;injection hi
  have hpair:=List.pairwise_iff_getElem.1 h.2.2
  have hcond:∀b,x.foot=some b->w0.w.heap.size<=b\/w0.ex=some b:=λb e=>((h.2.1 x (List.mem_of_getElem? hi) b e).1).resolve_left (by simp [hx])
  have apartx:∀j (hj:j<L.length),j≠i->∀c,L[j].foot=some c->x.foot≠some c:=λj hj hji c e e2=>by
    have hxr:¬L[i].ro=true:=by rw [hxi,hx];simp
    rcases Nat.lt_or_gt_of_ne hji with hlt|hgt
    · exact (hpair j i hj hil hlt).resolve_left (λk=>hxr k.2) c e (by rw [hxi];exact e2)
    · exact (hpair i j hil hj hgt).resolve_left (λk=>hxr k.1) c (by rw [hxi];exact e2) e
  have aparty:∀j (hj:j<L.length),j≠i->∀c,L[j].foot=some c->y.foot≠some c:=λj hj hji c e e2=>by
    rcases (hy c e2).1 with h1|h1
    · exact apartx j hj hji c e h1
    · exact absurd (h.lt (List.getElem_mem hj) e) Z
  refine ⟨⟨⟨hg.os.trans h.1.os,hg.tape.trans h.1.tape,hg.output.trans h.1.output,xx h.1.size hg.size,λk hk hne=>?_⟩,xx h.1.drawn hg.drawn⟩,λz hz c e=>?_,List.pairwise_iff_getElem.2 λp q hp hq hpq=>?_⟩
  · refine (hg.block k (Nat.lt_of_lt_of_le hk h.1.size) λe=>?_).trans (h.1.block k hk hne)
    rcases hcond k e.symm with h1|h1
    · omega
    · exact hne h1.symm
  · obtain ⟨j,hj,rfl⟩:=List.getElem_of_mem hz
    simp only [List.length_set] at hj
    by_cases hji:j=i
    · subst hji
      simp only [List.getElem_set_self] at e ⊢
      obtain ⟨h1,h2⟩:=hy c e
      refine ⟨?_,h2⟩
      rcases h1 with h1|h1
      · exact .inr (hcond c h1)
      · exact .inr (.inl (xx h.size h1))
    · rw [List.getElem_set_ne (Ne.symm hji)] at e ⊢
      obtain ⟨h1,o,h2,h3⟩:=h.2.1 _ (List.getElem_mem hj) c e
      exact ⟨h1,o,(hg.block c (h.lt (List.getElem_mem hj) e) (λhc=>apartx j hj hji c e hc.symm)).trans h2,h3⟩
  · simp only [List.length_set] at hp hq
    by_cases hpi:p=i
    · subst hpi
      have hqi:q≠p:=by omega
      rw [List.getElem_set_self,List.getElem_set_ne (Ne.symm hqi)]
      exact .inr λc e e2=>aparty q (by simpa using hq) hqi c e2 e
    · by_cases hqi:q=i
      · subst hqi
        rw [List.getElem_set_self,List.getElem_set_ne (Ne.symm hpi)]
        exact .inr λc e e2=>aparty p (by simpa using hp) hpi c e e2
      · rw [List.getElem_set_ne (Ne.symm hpi),List.getElem_set_ne (Ne.symm hqi)]
        exact hpair p q hp hq hpq
theorem BE.freeze {w0:BA} {w:World} {L:List As} {x y:As} {i:Nat} (h:BE w0 w L) (hi:L[i]?=some x) (hf:y.foot=x.foot) (hp:∀o,x.P o->y.P o) (hr:x.ro=true->y.ro=true):BE w0 w (L.set i y):=by
  have hil:i<L.length:=by
    rcases Nat.lt_or_ge i L.length with h1|h1
    · exact h1
    · rw [List.getElem?_eq_none h1] at hi;cases hi
  have hxi:L[i]=x:=by rw [xN hil] at hi;injection hi
  have hpair:=List.pairwise_iff_getElem.1 h.2.2
  refine ⟨h.1,λz hz c e=>?_,List.pairwise_iff_getElem.2 λp q hp hq hpq=>?_⟩
  · obtain ⟨j,hj,rfl⟩:=List.getElem_of_mem hz
    simp only [List.length_set] at hj
    by_cases hji:j=i
    · subst hji
      simp only [List.getElem_set_self] at e ⊢
      obtain ⟨h1,o,h2,h3⟩:=h.2.1 x (List.mem_of_getElem? hi) c (hf▸e)
      exact ⟨h1.imp_left hr,o,h2,hp o h3⟩
    · rw [List.getElem_set_ne (Ne.symm hji)] at e ⊢
      exact h.2.1 _ (List.getElem_mem hj) c e
  · simp only [List.length_set] at hp hq
    have key:∀j (hj:j<L.length),((L.set i y)[j]'(by simpa using hj)).foot=L[j].foot/\(L[j].ro=true->((L.set i y)[j]'(by simpa using hj)).ro=true):=λj hj=>by
      by_cases hji:j=i
      · subst hji
        simp only [List.getElem_set_self]
        rw [hxi]
        exact ⟨hf,hr⟩
      · rw [List.getElem_set_ne (Ne.symm hji)]
        exact ⟨rfl,id⟩
    rcases hpair p q hp hq hpq with h1|h1
    · exact .inl ⟨(key p hp).2 h1.1,(key q hq).2 h1.2⟩
    · refine .inr λb e=>?_
      rw [(key p hp).1] at e
      rw [(key q hq).1]
      exact h1 b e
def pB:Option Addr->Nat
  | some a=>a.block
  | none=>0
def pO:Option Addr->Nat
  | some a=>a.off
  | none=>0
def Gx (off:Nat) (cs:List Value) (o:Obj):Prop:=∃cur T fr,o=.cells cur T fr/\(cur.toList.drop off).take cs.length=cs
def AC (p:Option Addr) (cs:List Value):As:=⟨p.map (·.block),Gx (pO p) cs,true⟩
def rowW (p:Option Addr) (T:TypeId) (z n c:Nat) (cs:List Value):As:=⟨p.map (·.block),λo=>∃cur,o=.cells cur T (0,0)/\cur.size=c*z/\cur.toList.take (n*z)=cs,false⟩
structure Ao (p:Option Addr) (n c:Nat):Prop where
  nil:p=none->n=0/\c=0
  spot:∀a,p=some a->a.spot=none
  le:n<=c
structure OwnOk (p:Option Addr) (n c:Nat):Prop where
  nil:p=none->n=0/\c=0
  at0:∀a,p=some a->a=⟨a.block,0,none⟩
  le:n<=c
  max:c<=maxLen
theorem OwnOk.row {p:Option Addr} {n c:Nat} (h:OwnOk p n c):Ao p n c:=⟨h.nil,λa e=>by rw [h.at0 a e],h.le⟩
theorem OwnOk.none:OwnOk none 0 0:=⟨λ_=>⟨rfl,rfl⟩,(λ_ e=>by cases e),Nat.le_refl _,by decide⟩
theorem OwnOk.pO {p:Option Addr} {n c:Nat} (h:OwnOk p n c):pO p=0:=by
  cases p with
  | none=>rfl
  | some a=>show a.off=0;rw [h.at0 a rfl]
theorem Ao.some {p:Option Addr} {n c:Nat} (h:Ao p n c) (hn:0<n):p=some ⟨pB p,Go.Proofs.YtpolhpjiahbidaaGreatDoor.pO p,none⟩:=by
  cases p with
  | none=>have:=(h.nil rfl).1;omega
  | some a =>
    have hs:=h.spot a rfl
    cases a with|mk b o s=>simp only at hs;subst hs;rfl
theorem CV {p:Option Addr} {T:TypeId} {z n c:Nat} {cs:List Value} {o:Obj} (ho:OwnOk p n c) (hl:cs.length=n*z) (h:(rowW p T z n c cs).P o):Gx (pO p) cs o:=by
  obtain ⟨cur,rfl,_,h2⟩:=h
  exact ⟨cur,T,(0,0),rfl,by rw [ho.pO,List.drop_zero,hl];exact h2⟩
theorem Gx.cell {w:World} {b off j:Nat} {cs:List Value} {o:Obj} {v:Value} (h:Gx off cs o) (hb:w.heap[b]?=some o) (hj:cs[j]?=some v):w.cell? ⟨b,off+j,none⟩=some v:=by
  obtain ⟨cur,T,fr,rfl,hcs⟩:=h
  rw [cell_of_row w b _ _ T fr hb]
  rw [<-hcs,List.getElem?_take] at hj
  split at hj
  · simpa using hj
  · cases hj
section
variable {P:Program} {ops:Array Oper} {rest:List Oper} {Q:Exit->Act->World->Prop} {n d i b off k z m c c2:Nat} {F F':List (Nat×Value)} {w0:BA} {L L' Lro:List As} {t ty T:TypeId} {p:String} {af:Array Edge} {dd:Option Tmp} {g:Option (Nat×Bool)} {v:Value} {x y:Operand} {cs vs news:List Value} {q:Option Addr}
theorem Sq {w:World} (hw:BE w0 w L) (hi:L[i]?=some (AC q cs)) (hq:q≠none):CA w (pB q) (pO q+k) ((cs.drop k).take m):=λj u hu=>by
  cases hqe:q with
  | none=>exact absurd hqe hq
  | some a =>
    subst hqe
    obtain ⟨o,ho,hp⟩:=hw.holds hi a.block rfl
    rw [Nat.add_assoc]
    refine Gx.cell hp ho ?_
    rw [List.getElem?_take] at hu
    split at hu
    · simpa using hu
    · cases hu
theorem Zl {w:World} {n':Nat} (hw:BE w0 w L) (hi:L[i]?=some (rowW q T z n' c cs)) (ho:OwnOk q n' c) (hl:cs.length=n'*z) (hq:q≠none):CA w (pB q) (pO q+k) ((cs.drop k).take m):=λj u hu=>by
  cases hqe:q with
  | none=>exact absurd hqe hq
  | some a =>
    subst hqe
    obtain ⟨o,ho',hp⟩:=hw.holds hi a.block rfl
    rw [Nat.add_assoc]
    refine Gx.cell (CV ho hl hp) ho' ?_
    rw [List.getElem?_take] at hu
    split at hu
    · simpa using hu
    · cases hu
theorem AF {s e:TypeId} {ki:IntKind} {i:Int} {j n':Nat} (hx:evF F x=some (.slice q n' c)) (hy:evF F y=some (.int ki i)) (ho:Ao q n' c)
    (hu:P.underlying s=some (.slice e)) (hs:∀w,(sizeOf e).run P w=.ok z w) (hi:i=(j:Int)) (hj:j<n'):Ex P n F w0 L ⟨dd,.indexAddr s x y,t,p,af,g⟩ (pP (pB q) (pO q+j*z)):=by
  have he:=ho.some Z
  rw [he] at hx
  exact AL (len:=n') hx hy hu hs hi hj O
theorem AH {off:Nat} (hx:evF F x=some (pP (pB q) (pO q+off))) (hi:L[i]?=some (AC q cs)) (hq:q≠none) (ht:Dk P ty k) (hv:(cs.drop off).take k=vs) (hl:vs.length=k):Ex P n F w0 L ⟨dd,.load ty x,t,p,af,g⟩ (aG vs) :=
  G3 hx (λw hw=>hv▸Sq hw hi hq) ht.a ht.s hl
theorem Ab {off:Nat} (hx:evF F x=some (pP (pB q) (pO q+off))) (hi:L[i]?=some (AC q cs)) (hq:q≠none) (ht:F4 P ty) (hv:cs[off]?=some v):Ex P n F w0 L ⟨dd,.load ty x,t,p,af,g⟩ v :=
  Be hx (λw hw=>by
    have h:=Sq (k:=off) (m:=1) hw hi hq 0 v (by rw [List.getElem?_take,if_pos Z];simpa using hv)
    simpa using h) ht.a
theorem JD {off n':Nat} (hx:evF F x=some (pP (pB q) (pO q+off))) (hi:L[i]?=some (rowW q T z n' c cs)) (ho:OwnOk q n' c) (hcl:cs.length=n'*z) (hq:q≠none) (ht:F4 P ty) (hv:cs[off]?=some v):Ex P n F w0 L ⟨dd,.load ty x,t,p,af,g⟩ v :=
  Be hx (λw hw=>by
    have h:=Zl (k:=off) (m:=1) hw hi ho hcl hq 0 v (by rw [List.getElem?_take,if_pos Z];simpa using hv)
    simpa using h) ht.a
structure ElemT (P:Program) (t e:TypeId) (z bytes:Nat):Prop where
  u:P.underlying t=some (.slice e)
  i:∃(i:TypeInfo) (zv:Value),P.info? e=some i/\i.zero=some zv/\i.size=z/\i.bytes=bytes/\zv.cells.size=z
theorem KU {k:Nat} (h:k<=1099511627776):k<=maxLen:=xx h jY
theorem Ds {P:Program} {e:TypeId} {z bytes:Nat} (h:(match P.info? e with|some i=>Nat.beq i.size z&&Nat.beq i.bytes bytes&&(match i.zero with|some zv=>Nat.beq zv.cells.size z|none=>false)|none=>false)=true) :
    ∃(i:TypeInfo) (zv:Value),P.info? e=some i/\i.zero=some zv/\i.size=z/\i.bytes=bytes/\zv.cells.size=z:=by
  cases hi:P.info? e with
  | none=>rw [hi] at h;cases h
  | some i =>
    rw [hi] at h
    simp only [xZ] at h
    cases hz:i.zero with
    | none=>rw [hz] at h;cases h.2
    | some zv =>
      rw [hz] at h
      exact ⟨i,zv,rfl,hz,Nat.eq_of_beq_eq_true h.1.1,Nat.eq_of_beq_eq_true h.1.2,Nat.eq_of_beq_eq_true h.2⟩
theorem HM (w:World) {n m:Nat} {ty e:TypeId} {z bytes:Nat} (ht:ElemT P t e z bytes) (ho:OwnOk q n c) (hl:cs.length=n*z) (hold:∀b,q.map (·.block)=some b->∃o,w.heap[b]?=some o/\(rowW q e z n c cs).P o)
    (a:Addr) (hnl:news.length=m*z) (hnews:∀j u,news[j]?=some u->w.cell? (a.add j)=some u) (h1:∀u∈news,u.oneCell'=true) (hm:0<m) (h63:n+m<=maxLen) (hbytes:(n+m)*bytes<=140737488355328) :
    ∃p' c' w',(Builtin.append_ #[t,t] ty #[.slice q n c,.slice (some a) m c2]).run P w=.ok (.slice p' (n+m) c') w'/\OwnOk p' (n+m) c'/\p'≠none/\Jf w w' (q.map (·.block)) /\
      ∀b,p'.map (·.block)=some b->(q.map (·.block)=some b\/w.heap.size<=b)/\∃o,w'.heap[b]?=some o/\(rowW p' e z (n+m) c' (cs++news)).P o:=by
  obtain ⟨i,zv,hi,hz,rfl,rfl,hzs⟩:=ht.i
  have hlen:(cs++news).length=(n+m)*i.size:=by rw [xw,hl,hnl,Nat.add_mul]
  have grown:∀(old:Nat),old<n+m->∀row,OwnOk (some ⟨w.heap.size,0,none⟩) (n+m) (grownCap w (n+m) old e) /\
      Jf w (w.drew.alloc (.cells (cs.toArray++news.toArray++Builtin.zeroCells zv.cells (grownCap w (n+m) old e-(n+m))) e)) row /\
      ∃o,(w.drew.alloc (.cells (cs.toArray++news.toArray++Builtin.zeroCells zv.cells (grownCap w (n+m) old e-(n+m))) e)).heap[w.heap.size]?=some o/\(rowW (some ⟨w.heap.size,0,none⟩) e i.size (n+m) (grownCap w (n+m) old e) (cs++news)).P o:=by
    intro old hold' row
    have hge:=grownCap_ge w (n+m) old e
    refine ⟨⟨λh=>(by cases h),λa h=>(by injection h with h;subst h;rfl),hge,grownCap_le_maxLen w (n+m) old e h63⟩,⟨⟨rfl,rfl,rfl,by simp,λk hk _=>by first|exact heap_alloc_old w.drew _ k hk|exact heap_alloc_old w.drew _ hk⟩,Nat.le_succ _⟩,_,heap_alloc_new w.drew _,_,rfl,?_,?_⟩
    · simp only [Array.size_append,List.size_toArray,size_zeroCells,hzs,hl,hnl,<-Nat.add_mul]
      congr 1
      omega
    · simp only [Array.toList_append,List.append_assoc]
      rw [<-List.append_assoc,<-hlen]
      exact List.take_left
  cases hq:q with
  | none =>
    subst hq
    obtain ⟨rfl,rfl⟩:=ho.nil rfl
    have hx:cs=[]:=List.eq_nil_of_length_eq_zero (by simpa using hl)
    subst hx
    have hr:=run_append_nil (P:=P) w t ty e i zv ht.u hi hz a m c2 news hnl hnews hm (by simp only [maxLen] at h63;omega) (by have hb:=hbytes;simp only [Nat.zero_add] at hb;omega)
    obtain ⟨g1,g2,g3⟩:=grown 0 Z ((none:Option Addr).map (·.block))
    simp only [Nat.zero_add,List.nil_append,Array.empty_append] at g1 g2 g3 ⊢
    refine ⟨_,_,_,hr,g1,by simp,g2,λb e=>?_⟩
    injection e with e;subst e
    exact ⟨.inr (Nat.le_refl _),g3⟩
  | some ad =>
    subst hq
    obtain ⟨o,hob,cur,rfl,hcs,htake⟩:=hold ad.block rfl
    have hat:=ho.at0 ad rfl
    rw [hat]
    by_cases hroom:n+m<=c
    · have hfit:n*i.size+news.length<=cur.size:=by rw [hnl,hcs,<-Nat.add_mul];exact Nat.mul_le_mul_right _ hroom
      have hr:=run_append_room (P:=P) w t ty e i ht.u hi ad.block n c cur hob a m c2 news hnl hnews h1 hroom hfit
      refine ⟨_,_,_,hr,⟨λh=>(by cases h),λa h=>(by injection h with h;subst h;rfl),hroom,ho.max⟩,by simp,⟨⟨rfl,rfl,rfl,by simp,λk _ hk=>setRow_other w ad.block k _ (λe=>hk (by simp [e]))⟩,Nat.le_refl _⟩,λb e=>?_⟩
      injection e with e;subst e
      refine ⟨.inl O,_,setRow_heap w ad.block cur _ e _ hob,_,rfl,?_,?_⟩
      · simp only [List.size_toArray,xw,List.length_take,List.length_drop,Array.length_toList]
        omega
      · rw [htake,<-hlen]
        exact List.take_left
    · have holds:∀j u,cs[j]?=some u->w.cell? ((⟨ad.block,0,none⟩:Addr).add j)=some u:=λj u hu=>by
        have:=Gx.cell (CV (p:=some ad) ho hl ⟨cur,rfl,hcs,htake⟩) hob hu
        rw [ho.pO] at this
        rw [Addr.add_lit]
        simpa using this
      have hr:=run_append_grow (P:=P) w t ty e i zv ht.u hi hz ⟨ad.block,0,none⟩ n c cs hl holds a m c2 news hnl hnews Z (by simp only [maxLen] at h63;omega) (growslice_fits Z hbytes)
      obtain ⟨g1,g2,g3⟩:=grown c Z ((some (⟨ad.block,0,none⟩:Addr)).map (·.block))
      refine ⟨_,_,_,hr,g1,by simp,g2,λb e=>?_⟩
      injection e with e;subst e
      exact ⟨.inr (Nat.le_refl _),g3⟩
theorem y8 (i j:Nat) {s:Operand} {n' bytes:Nat} {tn:TypeId} (ht:ElemT P t T z bytes) (hs:evF F s=some (.slice q n' c)) (hi:L[i]?=some (rowW q T z n' c cs)) (ho:OwnOk q n' c) (hl:cs.length=n'*z)
    (hx:evF F x=some (.slice (jk b) m c2)) (hj:L[j]?=some (AU b tn news)) (hnl:news.length=m*z) (h1:(news.all λu=>u.oneCell')=true) (hm:0<m) (h63:n'+m<=maxLen) (hbytes:(n'+m)*bytes<=140737488355328) (hd:Nat.ble (d+1) n=true)
    (next:∀p' c',OwnOk p' (n'+m) c'->p'≠none->AQ P ops rest Q n ((d,.slice p' (n'+m) c')::F) w0 (L.set i (rowW p' T z (n'+m) c' (cs++news)))) :
    AQ P ops (⟨some d,.call { callee:=.builtin .append,args:=#[s,x],argTypes:=#[t,t] },ty,p,af,none⟩::rest) Q n F w0 L:=λa w ha hW=>by
  have hnews:∀j u,news[j]?=some u->w.cell? ((⟨b,0,none⟩:Addr).add j)=some u:=λj u hu=>by
    have h:=cell_of_row w b j _ tn (0,0) (hW.get hj)
    rw [Addr.add_lit]
    simp only [Nat.zero_add]
    rw [h];simpa using hu
  obtain ⟨p',c',w',hr,h2,h3,h4,h5⟩:=HM (P:=P) (c2:=c2) (ty:=ty) w ht ho hl (hW.holds hi) ⟨b,0,none⟩ hnl hnews (λu hu=>List.all_eq_true.1 h1 u hu) hm h63 hbytes
  unfold wpList
  rw [if_pos (AM rfl a ha)]
  left
  unfold Oper.wp
  have e1:=ha.ev hs
  have e2:=ha.ev hx
  have he:(execOp a.eval ⟨some d,.call { callee:=.builtin .append,args:=#[s,x],argTypes:=#[t,t] },ty,p,af,none⟩).run P w=.ok (.value (.slice p' (n'+m) c')) w':=by
    simp only [execOp,resolve,invoke,builtin,Sem.run_bind,Sem.run_pure,Result.andThen_ok,List.map_toArray,List.map_cons,List.map_nil,e1,e2,hr]
  rw [he,Oper.upon_value]
  exact next p' c' h2 h3 _ _ (ha.put (B1 hd)) (hW.renew hi O h4 h5)
end
theorem Ao.ne {p:Option Addr} {n c:Nat} (h:Ao p n c) (hn:0<n):p≠none:=λe=>by have:=(h.nil e).1;omega
section
variable {P:Program} {ops:Array Oper} {rest:List Oper} {Q:Exit->Act->World->Prop} {n d b z m c c2:Nat} {F:List (Nat×Value)} {w0:BA} {L:List As} {t ty T:TypeId} {p:String} {af:Array Edge} {x:Operand} {cs cs2 news:List Value} {q:Option Addr} {A0 A1 A2:As}
theorem yf (i:Nat) {j:Nat} {s:Operand} {n' bytes:Nat} {tn:TypeId} (ht:ElemT P t T z bytes) (hs:evF F s=some (.slice q n' c)) (ho:OwnOk q n' c) (hl:cs.length=n'*z)
    (hi:L[i]?=some (rowW q T z n' c cs)) (hx:evF F x=some (.slice (jk b) m c2)) (hj:L[j]?=some (AU b tn news)) (hnl:news.length=m*z) (h1:(news.all λu=>u.oneCell')=true) (hm:0<m) (h63:n'+m<=maxLen) (hbytes:(n'+m)*bytes<=140737488355328) (hcs:cs++news=cs2) (hd:Nat.ble (d+1) n=true)
    (next:∀p' c',OwnOk p' (n'+m) c'->p'≠none->AQ P ops rest Q n ((d,.slice p' (n'+m) c')::F) w0 (L.set i (rowW p' T z (n'+m) c' cs2))) :
    AQ P ops (⟨some d,.call { callee:=.builtin .append,args:=#[s,x],argTypes:=#[t,t] },ty,p,af,none⟩::rest) Q n F w0 L:=by
  subst hcs
  exact y8 i j ht hs hi ho hl hx hj hnl h1 hm h63 hbytes hd next
theorem yY {j:Nat} {s:Operand} {n' bytes:Nat} {tn:TypeId} (ht:ElemT P t T z bytes) (hs:evF F s=some (.slice q n' c)) (ho:OwnOk q n' c) (hl:cs.length=n'*z)
    (hx:evF F x=some (.slice (jk b) m c2)) (hj:(A0::rowW q T z n' c cs::L)[j]?=some (AU b tn news)) (hnl:news.length=m*z) (h1:(news.all λu=>u.oneCell')=true) (hm:0<m) (h63:n'+m<=maxLen) (hbytes:(n'+m)*bytes<=140737488355328) (hcs:cs++news=cs2) (hd:Nat.ble (d+1) n=true)
    (next:∀p' c',OwnOk p' (n'+m) c'->p'≠none->AQ P ops rest Q n ((d,.slice p' (n'+m) c')::F) w0 (A0::rowW p' T z (n'+m) c' cs2::L)) :
    AQ P ops (⟨some d,.call { callee:=.builtin .append,args:=#[s,x],argTypes:=#[t,t] },ty,p,af,none⟩::rest) Q n F w0 (A0::rowW q T z n' c cs::L):=by
  subst hcs
  exact y8 1 j ht hs O ho hl hx hj hnl h1 hm h63 hbytes hd next
theorem AQ.append2 {j:Nat} {s:Operand} {n' bytes:Nat} {tn:TypeId} (ht:ElemT P t T z bytes) (hs:evF F s=some (.slice q n' c)) (ho:OwnOk q n' c) (hl:cs.length=n'*z)
    (hx:evF F x=some (.slice (jk b) m c2)) (hj:(A0::A1::rowW q T z n' c cs::L)[j]?=some (AU b tn news)) (hnl:news.length=m*z) (h1:(news.all λu=>u.oneCell')=true) (hm:0<m) (h63:n'+m<=maxLen) (hbytes:(n'+m)*bytes<=140737488355328) (hcs:cs++news=cs2) (hd:Nat.ble (d+1) n=true)
    (next:∀p' c',OwnOk p' (n'+m) c'->p'≠none->AQ P ops rest Q n ((d,.slice p' (n'+m) c')::F) w0 (A0::A1::rowW p' T z (n'+m) c' cs2::L)) :
    AQ P ops (⟨some d,.call { callee:=.builtin .append,args:=#[s,x],argTypes:=#[t,t] },ty,p,af,none⟩::rest) Q n F w0 (A0::A1::rowW q T z n' c cs::L):=by
  subst hcs
  exact y8 2 j ht hs O ho hl hx hj hnl h1 hm h63 hbytes hd next
theorem BE.nilRow {w:World} {T:TypeId} {z:Nat} (h:BE w0 w L):BE w0 w (rowW none T z 0 0 []::L) :=
  ⟨h.1,λx hx b e=>by
    rcases xy.1 hx with rfl|hx
    · cases e
    · exact h.2.1 x hx b e,List.pairwise_cons.2 ⟨λy hy=>.inr (λb e=>by cases e),h.2.2⟩⟩
theorem zx (T:TypeId) (z:Nat) (h:AQ P ops rest Q n F w0 (rowW none T z 0 0 []::L)):AQ P ops rest Q n F w0 L:=λa w ha hw=>h a w ha hw.nilRow
theorem BE.newRow {W w:World} {i:Nat} (h:BE ⟨W,none⟩ w L) (hi:L[i]?=some (rowW q T z m c cs)):∀b,q.map (·.block)=some b->W.heap.size<=b:=λb e=>by
  rcases (h.2.1 _ (List.mem_of_getElem? hi) b e).1 with h1|h1|h1
  · cases h1
  · exact h1
  · cases h1
end
structure Oe (P:Program) (t e:TypeId) (u:Value) (bytes:Nat):Prop where
  un:P.underlying t=some (.slice e)
  i:∃(i:TypeInfo) (zv:Value),P.info? e=some i/\i.zero=some zv/\i.size=1/\i.bytes=bytes/\zv.cells=#[u]
theorem JR {b m c:Nat} (h:m<=c) (hc:c<=maxLen):OwnOk (jk b) m c:=⟨λe=>(by cases e),λa e=>(by injection e with e;subst e;rfl),h,hc⟩
section
variable {P:Program} {ops:Array Oper} {rest:List Oper} {Q:Exit->Act->World->Prop} {n d i z m c c2:Nat} {F:List (Nat×Value)} {w0:BA} {L:List As} {t ty T:TypeId} {p:String} {af:Array Edge} {x y:Operand} {cs vs cs':List Value} {q:Option Addr} {v u:Value} {A0 A1 A2:As}
theorem xF {ki kj:IntKind} {bytes:Nat} (ht:Oe P t T u bytes) (hx:evF F x=some (.int ki (m:Nat))) (hy:evF F y=some (.int kj (m:Nat))) (hm:m<=1099511627776) (hb:Nat.ble bytes 16=true) (hd:Nat.ble (d+1) n=true)
    (next:∀b,OwnOk (jk b) m m->AQ P ops rest Q n ((d,.slice (jk b) m m)::F) w0 (rowW (jk b) T 1 m m (List.replicate m u)::L)) :
    AQ P ops (⟨some d,.makeSlice t x y,ty,p,af,none⟩::rest) Q n F w0 L:=λa w ha hW=>by
  obtain ⟨inf,zv,hi,hz,hs,hby,hzc⟩:=ht.i
  have hble:=Nat.le_of_ble_eq_true hb
  have h1:=run_make (P:=P) w t T inf zv ht.un hi hz ki kj (m:Nat) (m:Nat) Z Z (by
    rw [hby]
    have:bytes*m<=16*m:=Nat.mul_le_mul_right m hble
    have e:((bytes:Nat):Int)*((m:Nat):Int)=((bytes*m:Nat):Int):=by rw [Int.natCast_mul]
    rw [e];omega) Z
  have e1:madeCells zv.cells ((m:Int).toNat*inf.size)=(List.replicate m u).toArray:=by
    rw [hs,hzc]
    apply Array.toList_inj.1
    rw [toList_madeCells_one]
    simp
  rw [e1] at h1
  unfold wpList
  rw [if_pos (AM rfl a ha)]
  left
  unfold Oper.wp
  have he:(execOp a.eval ⟨some d,.makeSlice t x y,ty,p,af,none⟩).run P w=.ok (.value (.slice (some ⟨w.heap.size,0,none⟩) m m)) (w.alloc (.cells (List.replicate m u).toArray T)):=by
    simp only [execOp,ha.ev hx,ha.ev hy,Sem.run_bind,h1,Result.andThen_ok,Sem.run_pure,Int.toNat_natCast]
  rw [he,Oper.upon_value]
  refine next _ (JR (Nat.le_refl _) (KU hm)) _ _ (ha.put (B1 hd)) (hW.alloc _ O ⟨_,rfl,by simp,by simp⟩)
theorem yi (i:Nat) {off n':Nat} (hx:evF F x=some (pP (pB q) (pO q+off))) (hy:evF F y=some v) (hi:L[i]?=some (rowW q T z n' c cs)) (ho:OwnOk q n' c) (hcl:cs.length=n'*z) (hq:q≠none)
    (hv:v.cells=vs.toArray) (hs:∀w,(sizeOf ty).run P w=.ok vs.length w) (h1:(vs.all λu=>u.oneCell')=true) (hl:off+vs.length<=n'*z)
    (next:AQ P ops rest Q n F w0 (L.set i (rowW q T z n' c (Gy cs off vs)))):AQ P ops (⟨none,.store ty x y,t,p,af,none⟩::rest) Q n F w0 L:=λa w ha hW=>by
  cases hqe:q with
  | none=>exact absurd hqe hq
  | some ad =>
    subst hqe
    obtain ⟨o,hob,cur,rfl,hsz,hcur⟩:=hW.holds hi ad.block rfl
    rw [ho.pO,Nat.zero_add] at hx
    have hnc:n'*z<=c*z:=Nat.mul_le_mul_right z ho.le
    have h2:=run_storeCells_at P ad.block off T vs 0 cur w hob Z (λu hu=>List.all_eq_true.1 h1 u hu)
    simp only [Nat.add_zero] at h2
    have he:(execOp a.eval ⟨none,.store ty x y,t,p,af,none⟩).run P w=.ok .skip (w.setRow ad.block (Gy cur.toList off vs).toArray):=by
      simp [execOp,ha.ev hx,ha.ev hy,Instr.storeAt,Instr.sureAddr,storeVar,hs,hv,h2,Gy,pB]
    unfold wpList
    rw [if_pos (AM rfl a ha)]
    left
    unfold Oper.wp
    rw [he,Oper.upon_skip]
    refine next _ _ ha.put_none (hW.turn hi O O ⟨⟨rfl,rfl,rfl,by simp,λk _ hk=>setRow_other w ad.block k _ (λe=>hk (by simp [e]))⟩,Nat.le_refl _⟩ ⟨_,setRow_heap w ad.block cur _ T _ hob,_,rfl,?_,?_⟩)
    · simp only [Gy,List.size_toArray,xw,List.length_take,List.length_drop,Array.length_toList,hsz]
      omega
    · show (Gy cur.toList off vs).take (n'*z)=Gy cs off vs
      have hlc:cur.toList.length=c*z:=by rw [Array.length_toList,hsz]
      rw [<-hcur]
      unfold Gy
      apply List.ext_getElem?
      intro j
      simp only [List.getElem?_take,List.getElem?_append,xw,List.length_take,List.getElem?_drop,hlc]
      split<;>split<;>split<;>(try split)<;>(try split)<;>(try split)<;>first|rfl|omega|(simp_all;done)|(congr 1;omega)|(simp_all;omega)
theorem N2 {cs:List Value} {j:Nat} {v:Value} (h:j<cs.length):Gy cs (j*1) [v]=cs.set j v:=by
  unfold Gy
  rw [Nat.mul_one,List.set_eq_take_append_cons_drop,if_pos h,List.append_assoc]
  rfl
theorem AQ.storeRow0 {j n':Nat} (hx:evF F x=some (pP (pB q) (pO q+j*1))) (hy:evF F y=some v) (ho:OwnOk q n' c) (hcl:cs.length=n'*1) (hj:j<n')
    (hv:v.cells=#[v]) (hs:∀w,(sizeOf ty).run P w=.ok 1 w) (h1:v.oneCell'=true) (hc:cs.set j v=cs') (next:AQ P ops rest Q n F w0 (rowW q T 1 n' c cs'::L)):AQ P ops (⟨none,.store ty x y,t,p,af,none⟩::rest) Q n F w0 (rowW q T 1 n' c cs::L):=by
  subst hc
  rw [<-N2 Z] at next
  exact yi 0 (vs:=[v]) hx hy O ho hcl (ho.row.ne Z) hv hs (by simp [h1]) (by simp;omega) next
theorem yv {j n':Nat} (hx:evF F x=some (pP (pB q) (pO q+j*1))) (hy:evF F y=some v) (ho:OwnOk q n' c) (hcl:cs.length=n'*1) (hj:j<n')
    (hv:v.cells=#[v]) (hs:∀w,(sizeOf ty).run P w=.ok 1 w) (h1:v.oneCell'=true) (hc:cs.set j v=cs') (next:AQ P ops rest Q n F w0 (A0::rowW q T 1 n' c cs'::L)):AQ P ops (⟨none,.store ty x y,t,p,af,none⟩::rest) Q n F w0 (A0::rowW q T 1 n' c cs::L):=by
  subst hc
  rw [<-N2 Z] at next
  exact yi 1 (vs:=[v]) hx hy O ho hcl (ho.row.ne Z) hv hs (by simp [h1]) (by simp;omega) next
theorem AQ.storeRow2 {j n':Nat} (hx:evF F x=some (pP (pB q) (pO q+j*1))) (hy:evF F y=some v) (ho:OwnOk q n' c) (hcl:cs.length=n'*1) (hj:j<n')
    (hv:v.cells=#[v]) (hs:∀w,(sizeOf ty).run P w=.ok 1 w) (h1:v.oneCell'=true) (hc:cs.set j v=cs') (next:AQ P ops rest Q n F w0 (A0::A1::rowW q T 1 n' c cs'::L)):AQ P ops (⟨none,.store ty x y,t,p,af,none⟩::rest) Q n F w0 (A0::A1::rowW q T 1 n' c cs::L):=by
  subst hc
  rw [<-N2 Z] at next
  exact yi 2 (vs:=[v]) hx hy O ho hcl (ho.row.ne Z) hv hs (by simp [h1]) (by simp;omega) next
end
def dC (p:Option Addr) (lo c z:Nat):Option Addr:=if c-lo=0 then p else p.map λy=>y.add (lo*z)
theorem J4 {P:Program} {t ty e:TypeId} {i:TypeInfo} (w:World) (ht:P.underlying t=some (.slice e)) (hi:P.info? e=some i) (q q2:Option Addr) (n c c2:Nat) (hn:n<=c) :
    (Builtin.append_ #[t,t] ty #[.slice q n c,.slice q2 0 c2]).run P w=.ok (.slice q n c) w:=by
  have hf:(Builtin.firstCells i.size 0 (.slice q2 0 c2)).run P w=.ok #[] w:=by
    cases q2 with
    | none=>exact run_firstCells_none (P:=P) (w:=w) i.size 0 0 c2
    | some a=>exact run_firstCells_some (P:=P) (w:=w) i.size 0 a 0 c2 [] jX (λj v h=>by simp at h)
  cases q with
  | none=>simp [Builtin.append_,run_underlying ht,sizeOf,typeInfo,hi,Builtin.lenOf,hn,hf]
  | some a=>simp [Builtin.append_,run_underlying ht,sizeOf,typeInfo,hi,Builtin.lenOf,hn,hf,storeCells]
section
variable {P:Program} {ops:Array Oper} {rest:List Oper} {Q:Exit->Act->World->Prop} {n d z m c c2:Nat} {F:List (Nat×Value)} {w0:BA} {L:List As} {t ty T:TypeId} {p:String} {af:Array Edge} {x y lo:Operand} {cs cs2 news:List Value} {q q2:Option Addr} {A0:As} {dd:Option Tmp} {g:Option (Nat×Bool)}
theorem O_ {tx e:TypeId} {len cap k i:Nat} {ki:IntKind} (hx:evF F x=some (.slice q len cap)) (hl:evF F lo=some (.int ki (i:Nat))) (hu:P.underlying tx=some (.slice e)) (hs:∀w,(sizeOf e).run P w=.ok k w) (hi:i<=len) (hc:len<=cap) :
    Ex P n F w0 L ⟨dd,.slice tx x (some lo) none none,t,p,af,g⟩ (.slice (dC q i cap k) (len-i) (cap-i)):=λA w ha _=>by
  have e1:(0:Int)<=(i:Int)/\(i:Int)<=(len:Int):=⟨Z,Z⟩
  have e2:(0:Int)<=(len:Int)/\(len:Int)<=(cap:Int):=⟨Z,Z⟩
  simp only [execOp,ha.ev hx,Instr.sliceAt,run_underlying hu,Instr.slice,Option.map_some,Option.map_none,ha.ev hl,Instr.sliceBounds,Instr.sliceBound,asIntOf,Sem.run_bind,Result.andThen_ok,Sem.run_pure]
  simp [hs,hi,dC]
  by_cases h:cap=i
  · simp [h]
  · simp [h,show ¬cap-i=0 by omega]
def c8 (w0:BA) (L:List As) (q2:Option Addr) (m:Nat) (news:List Value):Prop:=∀w,BE w0 w L->0<m->∃a,q2=some a/\∀j u,news[j]?=some u->w.cell? (a.add j)=some u
theorem Ma {k n':Nat} (hi:L[k]?=some (AC q cs)) (hok:Ao q n' c):c8 w0 L q n' cs:=λw hw hm=>by
  refine ⟨_,hok.some hm,λj u hu=>?_⟩
  obtain ⟨o,ho,hp⟩:=hw.holds hi (pB q) (by cases q with|none=>exact absurd rfl (hok.ne hm)|some a=>rfl)
  rw [Addr.add_lit]
  exact Gx.cell hp ho hu
theorem eJ {k n' i:Nat} (hi:L[k]?=some (AC q cs)) (hok:Ao q n' c) (hl:i<=n'):c8 w0 L (dC q i c z) (n'-i) (cs.drop (i*z)):=λw hw hm=>by
  have hle:=hok.le
  have hq:=hok.some Z
  refine ⟨⟨pB q,pO q+i*z,none⟩,?_,λj u hu=>?_⟩
  · unfold dC
    rw [if_neg Z]
    conv=>lhs;rw [hq]
    simp [Addr.add_lit,pB,pO]
  · obtain ⟨o,ho,hp⟩:=hw.holds hi (pB q) (by cases q with|none=>exact absurd rfl (hok.ne Z)|some a=>rfl)
    rw [Addr.add_lit,Nat.add_assoc]
    rw [List.getElem?_drop] at hu
    exact Gx.cell hp ho hu
theorem AQ.appendS (i:Nat) {s:Operand} {n' bytes:Nat} (ht:ElemT P t T z bytes) (hs:evF F s=some (.slice q n' c)) (hi:L[i]?=some (rowW q T z n' c cs)) (ho:OwnOk q n' c) (hl:cs.length=n'*z)
    (hx:evF F x=some (.slice q2 m c2)) (hsrc:c8 w0 L q2 m news) (hnl:news.length=m*z) (h1:(news.all λu=>u.oneCell')=true) (h63:n'+m<=maxLen) (hbytes:(n'+m)*bytes<=140737488355328) (hd:Nat.ble (d+1) n=true)
    (next:∀p' c',OwnOk p' (n'+m) c'->AQ P ops rest Q n ((d,.slice p' (n'+m) c')::F) w0 (L.set i (rowW p' T z (n'+m) c' (cs++news)))) :
    AQ P ops (⟨some d,.call { callee:=.builtin .append,args:=#[s,x],argTypes:=#[t,t] },ty,p,af,none⟩::rest) Q n F w0 L:=λa w ha hW=>by
  have e1:=ha.ev hs
  have e2:=ha.ev hx
  unfold wpList
  rw [if_pos (AM rfl a ha)]
  left
  unfold Oper.wp
  rcases Nat.eq_zero_or_pos m with h0|h0
  · subst h0
    obtain ⟨inf,zv,hinf,_⟩:=ht.i
    have hnn:news=[]:=List.eq_nil_of_length_eq_zero (by simpa using hnl)
    subst hnn
    have he:(execOp a.eval ⟨some d,.call { callee:=.builtin .append,args:=#[s,x],argTypes:=#[t,t] },ty,p,af,none⟩).run P w=.ok (.value (.slice q n' c)) w:=by
      simp only [execOp,resolve,invoke,builtin,Sem.run_bind,Sem.run_pure,Result.andThen_ok,List.map_toArray,List.map_cons,List.map_nil,e1,e2,J4 w ht.u hinf q q2 n' c c2 ho.le]
    rw [he,Oper.upon_value]
    have h9:=next q c (by simpa using ho)
    simp only [Nat.add_zero,List.append_nil] at h9
    refine h9 _ _ (ha.put (B1 hd)) ?_
    have:L.set i (rowW q T z n' c cs)=L:=by
      apply List.ext_getElem?
      intro j
      rw [List.getElem?_set]
      split
      · rename_i hij;subst hij
        split
        · exact hi.symm
        · rename_i hlt;rw [List.getElem?_eq_none Z]
      · rfl
    rw [this]
    exact hW
  · obtain ⟨ad,rfl,hnews⟩:=hsrc w hW h0
    obtain ⟨p',c',w',hr,h2,h3,h4,h5⟩:=HM (P:=P) (c2:=c2) (ty:=ty) w ht ho hl (hW.holds hi) ad hnl hnews (λu hu=>List.all_eq_true.1 h1 u hu) h0 h63 hbytes
    have he:(execOp a.eval ⟨some d,.call { callee:=.builtin .append,args:=#[s,x],argTypes:=#[t,t] },ty,p,af,none⟩).run P w=.ok (.value (.slice p' (n'+m) c')) w':=by
      simp only [execOp,resolve,invoke,builtin,Sem.run_bind,Sem.run_pure,Result.andThen_ok,List.map_toArray,List.map_cons,List.map_nil,e1,e2,hr]
    rw [he,Oper.upon_value]
    exact next p' c' h2 _ _ (ha.put (B1 hd)) (hW.renew hi O h4 h5)
theorem yg {b:Nat} (m:Nat) (hl:cs.length=m*z) (hm:m<=1099511627776) (next:OwnOk (jk b) m m->AQ P ops rest Q n F w0 (rowW (jk b) T z m m cs::L)):AQ P ops rest Q n F w0 (AU b T cs::L):=λa w ha hw =>
  next (JR (Nat.le_refl _) (KU hm)) a w ha (hw.freeze (i:=0) (y:=rowW (jk b) T z m m cs) rfl rfl (λo hp=>by subst hp;exact ⟨_,rfl,by simp [hl],by rw [<-hl];simp⟩) (λe=>by cases e))
end
section
variable {P:Program} {ops:Array Oper} {rest:List Oper} {Q:Exit->Act->World->Prop} {n d z m c c2:Nat} {F:List (Nat×Value)} {w0:BA} {L:List As} {t ty T:TypeId} {p:String} {af:Array Edge} {x y lo:Operand} {cs cs2 news:List Value} {q q2:Option Addr} {A0:As} {dd:Option Tmp} {g:Option (Nat×Bool)}
theorem yz {s:Operand} {n' bytes:Nat} (ht:ElemT P t T z bytes) (hs:evF F s=some (.slice q n' c)) (ho:OwnOk q n' c) (hl:cs.length=n'*z)
    (hx:evF F x=some (.slice q2 m c2)) (hsrc:c8 w0 (rowW q T z n' c cs::L) q2 m news) (hnl:news.length=m*z) (h1:(news.all λu=>u.oneCell')=true) (h63:n'+m<=maxLen) (hbytes:(n'+m)*bytes<=140737488355328) (hcs:cs++news=cs2) (hd:Nat.ble (d+1) n=true)
    (next:∀p' c',OwnOk p' (n'+m) c'->AQ P ops rest Q n ((d,.slice p' (n'+m) c')::F) w0 (rowW p' T z (n'+m) c' cs2::L)) :
    AQ P ops (⟨some d,.call { callee:=.builtin .append,args:=#[s,x],argTypes:=#[t,t] },ty,p,af,none⟩::rest) Q n F w0 (rowW q T z n' c cs::L):=by
  subst hcs
  exact AQ.appendS 0 ht hs O ho hl hx hsrc hnl h1 h63 hbytes hd next
theorem Hj {T e:TypeId} {k:Nat} (hu:P.underlying T=some (.slice e)) (hs:∀w,(sizeOf e).run P w=.ok k w) :
    ∀a w,C8 n a F->BE w0 w L->(execOp a.eval ⟨dd,.buildSlice T 0 #[],t,p,af,g⟩).run P w=.ok (.value (.slice (some ⟨w.heap.size,0,none⟩) 0 0)) (w.alloc (.cells [].toArray e)):=λA w ha _=>by
  have e1:¬(0*k>2^24):=by omega
  have e2:Array.range 0=#[]:=Array.eq_empty_of_size_eq_zero jX
  simp [execOp,Instr.buildSlice,run_underlying hu,hs,newRow,Instr.fill,e2]
end
section
variable {P:Program} {ops:Array Oper} {rest:List Oper} {Q:Exit->Act->World->Prop} {n:Nat} {F:List (Nat×Value)} {w0:BA} {L:List As}
theorem xK {o:Oper} {f:FuncId} {args:Array Value} {v:Value} (i:Nat) {q:Option Addr} {T:TypeId} {z m c:Nat} {cs cs':List Value} (hw:Wt ops n F o)
    (he:∀a w,C8 n a F->BE w0 w L->(execOp a.eval o).run P w=.ok (.enter f args) w) (hi:L[i]?=some (rowW q T z m c cs))
    (hc:∀w,BE w0 w L->Calls P f args w λe w'=>e=.returned v/\Jf w w' (q.map (·.block))/\∀b,q.map (·.block)=some b->∃o,w'.heap[b]?=some o/\(rowW q T z m c cs').P o)
    (hd:∀d,o.dst=some d->d<n) (next:AQ P ops rest Q n (match o.dst with|some d=>(d,v)::F|none=>F) w0 (L.set i (rowW q T z m c cs'))):AQ P ops (o::rest) Q n F w0 L:=λa w ha hW=>by
  unfold wpList
  rw [if_pos (hw a ha)]
  left
  unfold Oper.wp
  rw [he a w ha hW,Oper.upon_enter]
  refine (hc w hW).mono ?_
  rintro e w' ⟨rfl,hg,hr⟩
  have hW':=hW.renew hi rfl hg (y:=rowW q T z m c cs') λb e=>⟨.inl e,hr b e⟩
  cases hdd:o.dst with
  | none=>rw [hdd] at next;exact next _ _ ha.put_none hW'
  | some d=>rw [hdd] at next;exact next _ _ (ha.put (hd d hdd)) hW'
end
end
end Go.Proofs.YtpolhpjiahbidaaGreatDoor
