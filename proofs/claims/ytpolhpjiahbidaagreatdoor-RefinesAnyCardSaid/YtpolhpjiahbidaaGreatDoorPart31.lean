import Derived.Test.YtpolhpjiahbidaaGreatDoorPart05
import Derived.Test.YtpolhpjiahbidaaGreatDoorPart06
import Derived.Test.YtpolhpjiahbidaaGreatDoorPart12
import Derived.Test.YtpolhpjiahbidaaGreatDoorPart16
import Derived.Test.YtpolhpjiahbidaaGreatDoorPart18
import Derived.Test.YtpolhpjiahbidaaGreatDoorPart22
import Derived.Test.YtpolhpjiahbidaaGreatDoorPart24
import Derived.Test.YtpolhpjiahbidaaGreatDoorPart25
import Derived.Test.YtpolhpjiahbidaaGreatDoorPart28
import Derived.Test.YtpolhpjiahbidaaGreatDoorPart30
namespace Go.Proofs.YtpolhpjiahbidaaGreatDoor
open Go Go.RowKit Go.Proofs.Tryz
set_option linter.unusedVariables false
set_option linter.unusedSimpArgs false
section
structure ZC (x y:Nat) where
  q:NX x
  r:NX y
instance {x y:Nat}:Cc (ZC x y):=⟨λa=>.tuple #[Bv a.q,Bv a.r],λa=>[B1 a.q,B1 a.r],λa y hy=>PR rfl rfl hy⟩
section
variable {S:Nat->Prop} {w:World} {x y:Nat}
theorem Yu {a:ZC x y} (h:Ro S w a):Ro S w a.q:=λz hz=>h z (by rcases List.mem_singleton.1 hz with rfl;exact List.mem_cons_self)
theorem gN {W:World} {src:List (Option Nat)} {e:Ending} (hs:∀s∈src,∀b,s=some b->S b) (h:GP W src x e w):Af (NX x) S W e w:=by
  obtain ⟨v,rfl,rfl,hb,hh,hl⟩:=h
  refine ⟨⟨v.p,v.c,v.ok⟩,rfl,hb,λy hy=>?_⟩
  rcases List.mem_singleton.1 hy with rfl
  exact ⟨hh,λb e=>(hl b e).imp_right λh=>hs _ h b O⟩
theorem aP {a:NX x} (h:Ro S w a) {b:Nat} (e:a.p.map (·.block)=some b):S b:=(h _ List.mem_cons_self).2 b e
theorem QI {x:Nat} (h:nw x<=67108864):(dg x).length<=274877906944:=by have:=XC x;omega
theorem GO {x:Nat} (h:nw x<=67108864):(dg x).length<=549755813888:=by have:=XC x;omega
theorem O2 (x:Nat) (hx:x<18446744073709551616) (w:World) {S:Nat->Prop}:Calls prog 207 #[(vK .u64 x)] w (Af (NX x) S w):=(PP x hx w).mono λe w' h=>gN (λs hs=>by cases hs) h
theorem Ps (a:NX x) (b:NX y) (hx:nw x<=67108864) (hy:nw y<=67108864) (w:World) (ha:Ro S w a) (hb:Ro S w b):Calls prog 198 #[Bv a,Bv b] w (Af (NX (x+y)) S w) :=
  (Wo a.nv b.nv (GO hx) (GO hy) w (Q1 ha) (Q1 hb)).mono λe w' h=>gN (λs hs=>by cases hs) h
theorem Mh (a:NX x) (b:NX y) (hxy:y<=x) (hx:nw x<=67108864) (w:World) (ha:Ro S w a) (hb:Ro S w b):Calls prog 210 #[Bv a,Bv b] w (Af (NX (x-y)) S w) :=
  (Pw a.nv b.nv hxy (GO hx) w (Q1 ha) (Q1 hb)).mono λe w' h=>gN (λs hs=>by cases hs) h
theorem MR (a:NX x) (b:NX y) (hx:nw x<=67108864) (hy:nw y<=67108864) (w:World) (ha:Ro S w a) (hb:Ro S w b):Calls prog 162 #[Bv a,Bv b] w (Af (NX (x*y)) S w) :=
  (Mc a.nv b.nv (GO hx) (GO hy) w (Q1 ha) (Q1 hb)).mono λe w' h=>gN (λs hs=>by cases hs) h
theorem VC (a:NX x) (b:NX y) (hx:nw x<=67108864) (hy:nw y<=67108864) (w:World) (ha:Ro S w a) (hb:Ro S w b):Calls prog 211 #[Bv a,Bv b] w (Ah w (vI (Cu x y))) :=
  Mf a.nv b.nv (GO hx) (GO hy) w (Q1 ha) (Q1 hb)
theorem VH (a:NX x) (b:NX y) (hx:nw x<=67108864) (hy:nw y<=67108864) (w:World) (ha:Ro S w a) (hb:Ro S w b):Calls prog 208 #[Bv a,Bv b] w (Af (NX (Nat.gcd x y)) S w) :=
  (Wi a.nv b.nv (QI hx) (QI hy) w (Q1 ha) (Q1 hb)).mono λe w' h=>gN (λs hs c e=>by
    rcases List.mem_cons.1 hs with rfl|hs
    · exact aP ha e
    · rcases List.mem_singleton.1 hs with rfl;exact aP hb e) h
theorem P9 (a:NX x) (b:NX y) (hy0:0<y) (hx:nw x<=67108864) (hy:nw y<=67108864) (w:World) (ha:Ro S w a) (hb:Ro S w b):Calls prog 209 #[Bv a,Bv b] w (Af (ZC (x/y) (x%y)) S w) :=
  (P_ a.nv b.nv hy0 (QI hx) (QI hy) w (Q1 ha) (Q1 hb)).mono λe w' h=>by
    obtain ⟨u,v,hu,hv,rfl,hB,hhu,hhv,lu,lv⟩:=h
    obtain ⟨up,uc,ux,uok⟩:=u
    obtain ⟨vp,vc,vx,vok⟩:=v
    dsimp only at hu hv
    subst hu;subst hv
    refine ⟨⟨⟨up,uc,uok⟩,⟨vp,vc,vok⟩⟩,rfl,hB,λz hz=>?_⟩
    rcases List.mem_cons.1 hz with rfl|hz
    · exact ⟨hhu,λb e=>(lu b e).elim .inl λh=>by cases h⟩
    · rcases List.mem_singleton.1 hz with rfl
      exact ⟨hhv,λb e=>(lv b e).imp_right λh=>by
        have:=List.mem_singleton.1 h
        exact aP ha this.symm⟩
theorem Jc (a:NX x) (hx:nw x<=67108864) (w:World) (ha:Ro S w a):Calls prog 146 #[Bv a] w (Ah w (Value.string (txB (Lib.decDigits x)))):=SI a.nv (GO hx) w (Q1 ha)
end
section
variable {P:Program} {ops:Array Oper} {rest:List Oper} {Q:Exit->Act->World->Prop} {n d:Nat} {F:List (Nat×Value)} {w0:A_} {S:Nat->Prop} {L:List As} {t:TypeId} {p:String} {af:Array Edge} {y:Operand} {f:FuncId} {xs:List Operand} {args:List Value} {ts:Array TypeId}
theorem cD {u v:Nat} (hc:∀args w,(callFunc f args).run P w=.ok (.enter f args) w) (h:∀w,BD w0 w L->Calls P f args.toArray w (Af (ZC u v) (SL w0 S L) w))
    (hf:evF F y=some (.func (.func f) #[] #[])) (hargs:xs.map (evF F)=args.map some) (hd:Nat.ble (d+1) n=true) (next:∀a:ZC u v,At w0 S a->OkL P ops rest Q n ((d,.tuple #[Bv a.q,Bv a.r])::F) w0 (B1 a.q::B1 a.r::L)) :
    OkL P ops (⟨some d,.call { callee:=.value y,args:=xs.toArray,argTypes:=ts },t,p,af,none⟩::rest) Q n F w0 L:=OkL.callR hc h hf hargs hd next
end
end
theorem Pl:∀{k x:Nat},x<10^(k+1)->(Lib.decDigits x).length<=k+1
  | 0,x,h=>by rw [Lib.decDigits,dif_pos Z];simp
  | k+1,x,h=>by
    rw [Lib.decDigits]
    split
    · simp
    · have:=Pl (k:=k) (x:=x/10) (by rw [Nat.pow_succ] at h;omega)
      rw [List.length_append,List.length_singleton];omega
theorem Pd (n:Nat):(Lib.decDigits n).length<=10*nw n+1 :=
  Pl (Nat.lt_of_lt_of_le (Nat.lt_of_lt_of_le (Bh n) (by rw [Nat.pow_mul];exact Nat.pow_le_pow_left (by decide) _)) (Nat.pow_le_pow_right Z (Nat.le_succ _)))
theorem Lt (x:Nat):0<(dg x).length↔x≠0:=by
  constructor
  · intro h e;rw [e,E_] at h;simp at h
  · intro h;exact (JO Z).2
theorem Xa (neg:Bool) (x:Nat):decide (Dq neg x<0)=(neg&&decide (0<(dg x).length)):=by
  have h:=Lt x
  cases neg
  · simp [Dq]
  · by_cases h0:x=0
    · subst h0;simp [Dq,E_]
    · have:0<(dg x).length:=h.2 h0
      simp [Dq,this];omega
def Xx (neg:Bool) {x:Nat} (n:NX x):ZX (Dq neg x):=⟨n.cast (BA neg x).symm⟩
theorem Xg (neg:Bool) {x:Nat} (n:NX x):Cx (Xx neg n)=[.bool (neg&&decide (0<(dg x).length)),Bv n]:=by
  unfold Cx Xx Bv
  rw [Xa]
  simp only [BA]
theorem OB {x:Nat} (h:(dg x).length=0):x=0:=Classical.byContradiction λe=>by have:=(Lt x).2 e;omega
theorem HP {x:Nat} (h:¬(dg x).length=0):x≠0:=(Lt x).1 Z
def txI (z:Int):List UInt8:=if z<0 then 45::Lib.decDigits z.natAbs else Lib.decDigits z.natAbs
section
set_option maxRecDepth 100000
theorem DI {x:Nat} (neg:Bool) (n:NX x) (w:World) {S:Nat->Prop} (hn:Ro S w n)  :Calls prog 163 #[(Value.bool neg),(Bv n)] w (Af (ZX (Dq neg x)) S w):=by
 have ln:=CI (W:=w) hn
 refine AY (args:=[(Value.bool neg),(Bv n)]) (L:=[B1 n]) func163 O O (AI O) (Za hn Aj) (OkC.subF (sL [0,1] O) (q4 (al RF O λb1=>OkL.nil (q2 (AM O (AM O ?_))))))
 refine OkL.mid (FM:=[(0,(Value.bool neg)),(1,(Bv n)),(4,(pP b1 0)),(5,(Value.bool neg)),(6,(Value.bool neg)),(10,(Value.bool (neg&&(decide (0<((dg x).length))))))]) (LM:=[AU b1 81 ([(Value.bool false),(Value.slice none 0 0)]),B1 n]) 4 ?_ ?_
 ·rcases Bool.eq_false_or_eq_true neg with hg1|hg1
  ·skip
   refine OkL.retell (k:=6) (u:=Value.bool true) O (by rw [hg1]) ?_
   have hg1':=hg1
   skip
   exact OkL.step (v:=(Bv n)) (AB O) (Ai O) O (AI O) (OkL.step (v:=(vN ((dg x).length))) (AB O) (AD O underlying79) O (AI O) (OkL.step (v:=(Value.bool (decide (0<((dg x).length))))) (AB O) (Bs (c:=(decide (0<((dg x).length)))) O O (CB (a:=0) (b:=(dg x).length))) O (AI O) (AH (v:=(Value.bool (decide (0<((dg x).length))))) (AO O O) O (OkL.nil (OkQ.mid (sS O (sS O (sS O (sS O (sS (by first|rfl|(rw [hg1];rfl)|rw [hg1]) (sS (by first|rfl|(rw [hg1];rfl)|rw [hg1]) (sN))))))) (List.Sublist.refl _))))))
  ·skip
   refine OkL.retell (k:=6) (u:=Value.bool false) O (by rw [hg1]) ?_
   have hg1':=hg1
   skip
   exact OkL.skip (AC O) O (AI O) (OkL.skip (AC O) O (AI O) (OkL.skip (AC O) O (AI O) (AH (v:=(Value.bool false)) (AJ O O) O (OkL.nil (OkQ.mid (sS O (sS O (sS O (sS O (sS (by first|rfl|(rw [hg1];rfl)|rw [hg1]) (sS (by first|rfl|(rw [hg1];rfl)|rw [hg1]) (sN))))))) (List.Sublist.refl _))))))
 exact AM O (AH (v:=(aG ([(Value.bool (neg&&(decide (0<((dg x).length))))),(Bv n)]))) (AQ (zs:=[(Value.bool false),(Value.slice none 0 0)]) (vs:=[(Value.bool (neg&&(decide (0<((dg x).length))))),(Bv n)]) (pv:=[(0,(Value.bool (neg&&(decide (0<((dg x).length)))))),(1,(Bv n))]) (places:=[(0,1),(1,1)]) zeroValue81 underlying81 (λw=>by simp [sizeOf4,sizeOf79]) O O) O (Ax O sizeOf81 O (OkL.nil (OkQ.subF (sL [4] O) (OkQ.then_ (OkC.ret (ret_one O (Ak (i:=0) (cs:=[(Value.bool (neg&&(decide (0<((dg x).length))))),(Bv n)]) O O isAgg81 sizeOf81 O) (λw hw=>D0 (a:=Xx neg n) hw (aX (XQ (inS hw 1 O ln))) (by rw [<-Xg];rfl)))))))))
theorem XL (z:Int) (hz:-9223372036854775808<=z) (hz2:z<9223372036854775808) (w:World) {S:Nat->Prop}  :Calls prog 157 #[(vI z)] w (Af (ZX z) S w):=by
 refine Ab (args:=[(vI z)]) func157 O O (AI O) (OkC.subF (sL [0] O) (q4 (al RF O λb1=>OkL.nil (q1 (q4 (AM O (AH (Ae (c:=(decide (z<(0:Int)))) O O O) O (OkL.nil (OkQ.subF (sL [0,2,4] O) (OkQ.then_ ?_))))))))))
 refine OkC.cond O (λhc0=>?_) (λhc0=>?_)
 ·replace hc0:=of_decide_eq_true hc0
  refine q4 (AM O (AH (AX (c:=(z+1)) O O (BE Z Z)) O (AH (Uk (c:=(((-(z+1)).toNat:Nat):Int)) O (by rw [BE Z Z];omega)) O (AH (Aw (c:=(((-(z+1)).toNat:Nat):Int)) O underlying2 underlying69 (BK Z)) O (AH (AX (c:=((z.natAbs:Nat):Int)) O O (by rw [Cz Z Z];omega)) O (cN (S:=S) (x:=z.natAbs) (args:=[(vK .u64 z.natAbs)]) call207 (λw hw=>O2 z.natAbs (by first|omega|(simp only [Int.natAbs_neg];omega)) w) O O O λg1 lg1=>cZ (S:=S) (x:=z) (args:=[(Value.bool true),(Bv g1)]) call163 (λw hw=>(Af.cast (T:=λi=>ZX i) (GD hc0) (DI true g1 w (inS hw 0 O lg1)))) O O O λg2 lg2=>G1 O sizeOf81 O (OkL.nil (OkQ.subF (sL [0,2] O) (OkQ.then_ ?_)))))))))
  exact OkC.ret (OkQ.then_ret (ret_one O (Ak (i:=2) (cs:=Cx g2) O O isAgg81 sizeOf81 O) (λw hw=>D0 (a:=(g2:ZX z)) hw (inS hw 0 O lg2) O)))
 ·replace hc0:=of_decide_eq_false hc0
  exact OkC.skip (q2 (AM O (AH (Aw (c:=((z.natAbs:Nat):Int)) O underlying2 underlying69 (by rw [Cz Z Z];omega)) O (cN (S:=S) (x:=z.natAbs) (args:=[(vK .u64 z.natAbs)]) call207 (λw hw=>O2 z.natAbs (by first|omega|(simp only [Int.natAbs_neg];omega)) w) O O O λg3 lg3=>cZ (S:=S) (x:=z) (args:=[(Value.bool false),(Bv g3)]) call163 (λw hw=>(Af.cast (T:=λi=>ZX i) (Ld hc0) (DI false g3 w (inS hw 0 O lg3)))) O O O λg4 lg4=>G1 O sizeOf81 O (OkL.nil (OkQ.subF (sL [0,2] O) (OkQ.then_ (OkC.ret (ret_one O (Ak (i:=2) (cs:=Cx g4) O O isAgg81 sizeOf81 O) (λw hw=>D0 (a:=(g4:ZX z)) hw (inS hw 0 O lg4) O))))))))))
theorem Uw {x:Int} (a:ZX x) (w:World) {S:Nat->Prop} (ha:Ro S w a)  :Calls prog 180 #[(aG (Cx a))] w (Ah w (vI x.sign)):=by
 have la:=CI (W:=w) ha
 refine AY (args:=[(aG (Cx a))]) (L:=[B1 a.n]) func180 O O (AI O) (We ha Aj) (OkC.subF (sL [0] O) (q4 (Be (cs:=Cx a) O λb1=>asg' O (q6 (sL [1,2] O) (q4 (AH (v:=(pP b1 1)) (AA O underlying81 O sizeOf79 O) O (Au 0 (Bv a.n) FY O (AH (v:=(vN ((dg x.natAbs).length))) (AD O underlying79) O (AH (BG (c:=(decide (((dg x.natAbs).length)=0))) O O (K7 (a:=(dg x.natAbs).length) (b:=0))) O (OkL.nil ?_))))))))))
 refine OkQ.subF (sL [1,2,6] O) (OkQ.then_ ?_)
 refine OkC.cond O (λhc0=>?_) (λhc0=>?_)
 ·replace hc0:=of_decide_eq_true hc0
  have he:x.sign=0:=by rw [show x=0 by have:=OB hc0;omega];rfl
  exact q4 (asg' O (OkL.nil (OkQ.then_ (OkC.ret (OkQ.then_ret (ret_one O (rd_tmp (v:=(vI 0)) O) (λw hw=>⟨by rw [he],hw.out⟩)))))))
 ·replace hc0:=of_decide_eq_false hc0
  have hx0:=HP hc0
  refine OkC.skip (q1 (q4 (AH (v:=(pP b1 0)) (AA O underlying81 O sizeOf4 O) O (Au 0 (Value.bool (decide (x<0))) Kx O (OkL.nil (OkQ.subF (sL [1,2,8] O) (OkQ.then_ ?_)))))))
  refine OkC.cond O (λhc1=>?_) (λhc1=>?_)
  ·replace hc1:=of_decide_eq_true hc1
   have he:x.sign = -1:=Int.sign_eq_neg_one_of_neg hc1
   exact q4 (asg' O (OkL.nil (OkQ.then_ (OkC.ret (OkQ.then_ret (ret_one O (rd_tmp (v:=(vI (-1:Int))) O) (λw hw=>⟨by rw [he],hw.out⟩)))))))
  ·replace hc1:=of_decide_eq_false hc1
   have he:x.sign=1:=Int.sign_eq_one_of_pos Z
   exact OkC.skip (q2 (asg' O (OkL.nil (OkQ.then_ (OkC.ret (ret_one O (rd_tmp (v:=(vI 1)) O) (λw hw=>⟨by rw [he],hw.out⟩)))))))
theorem Vf {x:Int} (a:ZX x) (w:World) {S:Nat->Prop} (ha:Ro S w a)  :Calls prog 219 #[(aG (Cx a))] w (Af (ZX (-x)) S w):=by
 have la:=CI (W:=w) ha
 refine AY (args:=[(aG (Cx a))]) (L:=[B1 a.n]) func219 O O (AI O) (We ha Aj) (OkC.subF (sL [0] O) (q4 (Be (cs:=Cx a) O λb1=>al RF O λb2=>q3 (sL [1,2] O) (AH (v:=(pP b1 0)) (AA O underlying81 O sizeOf4 O) O (Au 1 (Value.bool (decide (x<0))) Kx O (AH (BU (c:=(!(decide (x<0)))) O O) O (AH (v:=(pP b1 1)) (AA O underlying81 O sizeOf79 O) O (Au 1 (Bv a.n) FY O (cZ (S:=S) (x:=(-x)) (args:=[(Value.bool (!(decide (x<0)))),(Bv a.n)]) call163 (λw hw=>(Af.cast (T:=λi=>ZX i) (WW x) (DI (!(decide (x<0))) a.n w (NC (inS hw 2 O la))))) O O O λg1 lg1=>?_)))))))))
 exact EG O sizeOf81 O (OkL.nil (OkQ.subF (sL [2] O) (OkQ.then_ (OkC.ret (ret_one O (Ak (i:=1) (cs:=Cx g1) O O isAgg81 sizeOf81 O) (λw hw=>D0 (a:=(g1:ZX (-x))) hw (inS hw 0 O lg1) O))))))
theorem WZ {x y:Int} (a:ZX x) (b:ZX y) (hx:nw x.natAbs<=67108864) (hy:nw y.natAbs<=67108864) (w:World) {S:Nat->Prop} (ha:Ro S w a) (hb:Ro S w b)  :Calls prog 159 #[(aG (Cx a)),(aG (Cx b))] w (Af (ZX (x+y)) S w):=by
 have la:=CI (W:=w) ha
 have lb:=CI (W:=w) hb
 refine AY (args:=[(aG (Cx a)),(aG (Cx b))]) (L:=[B1 a.n,B1 b.n]) func159 O O (AI O) (We ha (We hb Aj)) (OkC.subF (sL [0,1] O) (q4 (Be (cs:=Cx a) O λb1=>Be (cs:=Cx b) O λb2=>al RF O λb3=>q6 (sL [2,3,4] O) (q4 (AH (v:=(pP b1 0)) (AA O underlying81 O sizeOf4 O) O (Au 2 (Value.bool (decide (x<0))) Kx O (AH (v:=(pP b2 0)) (AA O underlying81 O sizeOf4 O) O (Au 1 (Value.bool (decide (y<0))) Kx O ?_))))))))
 refine AH (Ii (c:=(decide (x<0) == decide (y<0))) O O underlying4 O) O (OkL.nil (OkQ.subF (sL [2,3,4,9] O) (OkQ.then_ ?_)))
 refine OkC.cond O (λhc0=>?_) (λhc0=>?_)
 ·skip
  refine OkC.seq (Cd [(0,true),(1,true),(2,true),(3,true),(4,true),(5,true),(6,false),(7,false),(8,false)] (sl sr) (Al (v:=(pP b1 0)) O (AA O underlying81 O sizeOf4 O) (BM 1 (Value.bool (decide (x<0))) Kx O (Al (v:=(pP b1 1)) O (AA O underlying81 O sizeOf79 O) (BM 1 (Bv a.n) FY O (Al (v:=(pP b2 1)) O (AA O underlying81 O sizeOf79 O) (BM 0 (Bv b.n) FY O (OkE.imp O (cN (S:=S) (x:=(x.natAbs+y.natAbs)) (args:=[(Bv a.n),(Bv b.n)]) call198 (λw hw=>Ps a.n b.n (by first|omega|(simp only [Int.natAbs_neg];omega)) (by first|omega|(simp only [Int.natAbs_neg];omega)) w (NC (inS hw 3 O la)) (NC (inS hw 4 O lb))) O O O λg1 lg1=>OkE.back (sl (sl sr)) (OkE.imp O ?_))))))))))
  exact cZ (S:=S) (x:=(x+y)) (args:=[(Value.bool (decide (x<0))),(Bv g1)]) call163 (λw hw=>(Af.cast (T:=λi=>ZX i) (Ht hc0) (DI (decide (x<0)) g1 w (inS hw 0 O lg1)))) O O O λg2 lg2=>OkE.back (sl (sl (sl sr))) (OkE.imp O (G1 O sizeOf81 O (OkE.back (sl (sl (sl sr))) (OkE.nil (OkQ.subF (sL [2,3,4] O) (OkQ.then_ (OkC.ret (OkQ.then_ret (ret_one O (Ak (i:=2) (cs:=Cx g2) O O isAgg81 sizeOf81 O) (λw hw=>D0 (a:=(g2:ZX (x+y))) hw (inS hw 0 O lg2) O))))))))))
 ·skip
  have hc0:(decide (x<0) == decide (y<0))=false:=by simpa using hc0
  refine OkC.skip (q1 (q4 (AH (v:=(pP b1 1)) (AA O underlying81 O sizeOf79 O) O (Au 2 (Bv a.n) FY O (AH (v:=(pP b2 1)) (AA O underlying81 O sizeOf79 O) O (Au 1 (Bv b.n) FY O (Ce call211 (λw hw=>VC a.n b.n (by first|omega|(simp only [Int.natAbs_neg];omega)) (by first|omega|(simp only [Int.natAbs_neg];omega)) w (NC (inS hw 3 O la)) (NC (inS hw 4 O lb))) O (AH (Bx (c:=(decide ((0:Int)<=(Cu x.natAbs y.natAbs)))) O O O) O (OkL.nil (OkQ.subF (sL [2,3,4,23] O) (OkQ.then_ ?_)))))))))))
  refine OkC.cond O (λhc1=>?_) (λhc1=>?_)
  ·replace hc1:=of_decide_eq_true hc1
   have hge:y.natAbs<=x.natAbs:=by exact Nat.le_of_not_lt λh=>by have:=(E8 (a:=x.natAbs) (b:=y.natAbs)).2 h;omega
   refine OkC.seq (Cd [(0,true),(1,true),(2,true),(3,true),(4,true),(5,true),(6,false),(7,false),(8,false)] (sl sr) (Al (v:=(pP b1 0)) O (AA O underlying81 O sizeOf4 O) (BM 1 (Value.bool (decide (x<0))) Kx O (Al (v:=(pP b1 1)) O (AA O underlying81 O sizeOf79 O) (BM 1 (Bv a.n) FY O (Al (v:=(pP b2 1)) O (AA O underlying81 O sizeOf79 O) (BM 0 (Bv b.n) FY O (OkE.imp O (cN (S:=S) (x:=(x.natAbs-y.natAbs)) (args:=[(Bv a.n),(Bv b.n)]) call210 (λw hw=>Mh a.n b.n (by first|omega|(simp only [Int.natAbs_neg];omega)) (by first|omega|(simp only [Int.natAbs_neg];omega)) w (NC (inS hw 3 O la)) (NC (inS hw 4 O lb))) O O O λg3 lg3=>OkE.back (sl (sl sr)) (OkE.imp O ?_))))))))))
   exact cZ (S:=S) (x:=(x+y)) (args:=[(Value.bool (decide (x<0))),(Bv g3)]) call163 (λw hw=>(Af.cast (T:=λi=>ZX i) (KN hc0 hge) (DI (decide (x<0)) g3 w (inS hw 0 O lg3)))) O O O λg4 lg4=>OkE.back (sl (sl (sl sr))) (OkE.imp O (G1 O sizeOf81 O (OkE.back (sl (sl (sl sr))) (OkE.nil (OkQ.subF (sL [2,3,4] O) (OkQ.then_ (OkC.ret (OkQ.then_ret (ret_one O (Ak (i:=2) (cs:=Cx g4) O O isAgg81 sizeOf81 O) (λw hw=>D0 (a:=(g4:ZX (x+y))) hw (inS hw 0 O lg4) O))))))))))
  ·replace hc1:=of_decide_eq_false hc1
   have hge:¬y.natAbs<=x.natAbs:=by have:=(E8 (a:=x.natAbs) (b:=y.natAbs)).1 Z;omega
   refine OkC.skip (q1 (Cd [(0,true),(1,true),(2,true),(3,true),(4,true),(5,true),(6,false),(7,false),(8,false)] (sl sr) (Al (v:=(pP b2 0)) O (AA O underlying81 O sizeOf4 O) (BM 0 (Value.bool (decide (y<0))) Kx O (Al (v:=(pP b2 1)) O (AA O underlying81 O sizeOf79 O) (BM 0 (Bv b.n) FY O (Al (v:=(pP b1 1)) O (AA O underlying81 O sizeOf79 O) (BM 1 (Bv a.n) FY O (OkE.imp O (cN (S:=S) (x:=(y.natAbs-x.natAbs)) (args:=[(Bv b.n),(Bv a.n)]) call210 (λw hw=>Mh b.n a.n (by first|omega|(simp only [Int.natAbs_neg];omega)) (by first|omega|(simp only [Int.natAbs_neg];omega)) w (NC (inS hw 4 O lb)) (NC (inS hw 3 O la))) O O O λg5 lg5=>OkE.back (sl (sl sr)) ?_))))))))))
   exact OkE.imp O (cZ (S:=S) (x:=(x+y)) (args:=[(Value.bool (decide (y<0))),(Bv g5)]) call163 (λw hw=>(Af.cast (T:=λi=>ZX i) (JR hc0 hge) (DI (decide (y<0)) g5 w (inS hw 0 O lg5)))) O O O λg6 lg6=>OkE.back (sl (sl (sl sr))) (OkE.imp O (G1 O sizeOf81 O (OkE.back (sl (sl (sl sr))) (OkE.nil (OkQ.subF (sL [2,3,4] O) (OkQ.then_ (OkC.ret (ret_one O (Ak (i:=2) (cs:=Cx g6) O O isAgg81 sizeOf81 O) (λw hw=>D0 (a:=(g6:ZX (x+y))) hw (inS hw 0 O lg6) O))))))))))
theorem Me {x y:Int} (a:ZX x) (b:ZX y) (hx:nw x.natAbs<=67108864) (hy:nw y.natAbs<=67108864) (w:World) {S:Nat->Prop} (ha:Ro S w a) (hb:Ro S w b)  :Calls prog 160 #[(aG (Cx a)),(aG (Cx b))] w (Af (ZX (x*y)) S w):=by
 have la:=CI (W:=w) ha
 have lb:=CI (W:=w) hb
 refine AY (args:=[(aG (Cx a)),(aG (Cx b))]) (L:=[B1 a.n,B1 b.n]) func160 O O (AI O) (We ha (We hb Aj)) (OkC.subF (sL [0,1] O) (q4 (Be (cs:=Cx a) O λb1=>Be (cs:=Cx b) O λb2=>al RF O λb3=>q6 (sL [2,3,4] O) (Cd [(0,true),(1,true),(2,true),(3,true),(4,true),(5,true),(6,true),(7,true),(8,true),(9,false),(10,false),(11,false)] (sl sr) (Al (v:=(pP b1 0)) O (AA O underlying81 O sizeOf4 O) (BM 1 (Value.bool (decide (x<0))) Kx O (Al (v:=(pP b2 0)) O (AA O underlying81 O sizeOf4 O) (BM 0 (Value.bool (decide (y<0))) Kx O ?_))))))))
 refine Al O (Ib (c:=(!(decide (x<0) == decide (y<0)))) O O underlying4 O) (Al (v:=(pP b1 1)) O (AA O underlying81 O sizeOf79 O) (BM 1 (Bv a.n) FY O (Al (v:=(pP b2 1)) O (AA O underlying81 O sizeOf79 O) (BM 0 (Bv b.n) FY O (OkE.imp O (cN (S:=S) (x:=(x.natAbs*y.natAbs)) (args:=[(Bv a.n),(Bv b.n)]) call162 (λw hw=>MR a.n b.n (by first|omega|(simp only [Int.natAbs_neg];omega)) (by first|omega|(simp only [Int.natAbs_neg];omega)) w (NC (inS hw 3 O la)) (NC (inS hw 4 O lb))) O O O λg1 lg1=>OkE.back (sl (sl sr)) (OkE.imp O (cZ (S:=S) (x:=(x*y)) (args:=[(Value.bool (!(decide (x<0) == decide (y<0)))),(Bv g1)]) call163 (λw hw=>(Af.cast (T:=λi=>ZX i) (Qc x y) (DI (!(decide (x<0) == decide (y<0))) g1 w (inS hw 0 O lg1)))) O O O λg2 lg2=>OkE.back (sl (sl (sl sr))) (OkE.imp O ?_)))))))))
 exact G1 O sizeOf81 O (OkE.back (sl (sl (sl sr))) (OkE.nil (OkQ.subF (sL [4] O) (OkQ.then_ (OkC.ret (ret_one O (Ak (i:=2) (cs:=Cx g2) O O isAgg81 sizeOf81 O) (λw hw=>D0 (a:=(g2:ZX (x*y))) hw (inS hw 0 O lg2) O)))))))
theorem Nj {x:Int} (a:ZX x) (hx:nw x.natAbs<=67108864) (w:World) {S:Nat->Prop} (ha:Ro S w a)  :Calls prog 145 #[(aG (Cx a))] w (Ah w (Value.string (txB (txI x)))):=by
 have la:=CI (W:=w) ha
 refine AY (args:=[(aG (Cx a))]) (L:=[B1 a.n]) func145 O O (AI O) (We ha Aj) (OkC.subF (sL [0] O) (q4 (Be (cs:=Cx a) O λb1=>asg' O (q6 (sL [1,2] O) (q4 (AH (v:=(pP b1 0)) (AA O underlying81 O sizeOf4 O) O (Au 0 (Value.bool (decide (x<0))) Kx O (OkL.nil (OkQ.subF (sL [1,2,4] O) (OkQ.then_ ?_))))))))))
 refine OkC.cond O (λhc0=>?_) (λhc0=>?_)
 ·replace hc0:=of_decide_eq_true hc0
  have he:txI x=45::Lib.decDigits x.natAbs:=by unfold txI;rw [if_pos hc0]
  exact q4 (AH (v:=(pP b1 1)) (AA O underlying81 O sizeOf79 O) O (Au 0 (Bv a.n) FY O (Ce call146 (λw hw=>Jc a.n (by first|omega|(simp only [Int.natAbs_neg];omega)) w (NC (inS hw 1 O la))) O (AH (v:=(Value.string (txB (45::Lib.decDigits x.natAbs)))) (CL (r:=(txB (45::Lib.decDigits x.natAbs))) O O (by have:=Pd x.natAbs;rw [DK];show 1+_<=_;omega) (DS [45] _)) O (asg' O (OkL.nil (OkQ.subF (sL [1,2] O) (OkQ.then_ (OkC.ret (OkQ.then_ret (ret_one O (rd_tmp (v:=(Value.string (txB (45::Lib.decDigits x.natAbs)))) O) (λw hw=>⟨by rw [he],hw.out⟩))))))))))))
 ·replace hc0:=of_decide_eq_false hc0
  have he:txI x=Lib.decDigits x.natAbs:=by unfold txI;rw [if_neg hc0]
  exact OkC.skip (q2 (AH (v:=(pP b1 1)) (AA O underlying81 O sizeOf79 O) O (Au 0 (Bv a.n) FY O (Ce call146 (λw hw=>Jc a.n (by first|omega|(simp only [Int.natAbs_neg];omega)) w (NC (inS hw 1 O la))) O (asg' O (OkL.nil (OkQ.subF (sL [1,2] O) (OkQ.then_ (OkC.ret (ret_one O (rd_tmp (v:=(Value.string (txB (Lib.decDigits x.natAbs)))) O) (λw hw=>⟨by rw [he],hw.out⟩)))))))))))
end
theorem NJ (n:Int):decide (n.sign<0)=decide (n<0):=by
  rcases Int.lt_trichotomy n 0 with h|h|h
  · rw [Int.sign_eq_neg_one_of_neg h];simp [h]
  · subst h;rfl
  · rw [Int.sign_eq_one_of_pos h];simp;omega
theorem UB {n:Int} {d:Nat} (hd:d≠0):Dq (decide (n<0)) (n.natAbs/Nat.gcd n.natAbs d)=(mkRat n d).num:=by rw [Qh hd,NJ]
theorem TJ {n:Int} {d:Nat} (hd:d≠0):d/Nat.gcd n.natAbs d-1=(mkRat n d).den-1:=by rw [QB hd]
theorem Zn {b:Rat} (h:b≠0):mkRat (Dq (decide (b.num<0)) b.den) b.num.natAbs=b⁻¹:=by rw [<-IL h,NJ]
theorem WJ {a b:Rat}:a*b⁻¹=a/b:=(Rat.div_def a b).symm
theorem Tv {a b:Rat} (h:b.num.sign=0):(0:Rat)=a/b:=by
  have h1:b=0:=Rat.num_eq_zero.1 (Int.sign_eq_zero_iff_zero.1 h)
  rw [h1,Rat.div_def,Rat.inv_zero,Rat.mul_zero]
def FX.zero:FX 0:=⟨⟨NX.zero⟩,NX.zero⟩
theorem SO {x0:Pt} (f0:PX x0):Instr.fill (λi=>some (i*6,6)) ((Array.range (1*6)).map ((Value.agg (#[(Value.bool false),(Value.slice none 0 0),(Value.slice none 0 0),(Value.bool false),(Value.slice none 0 0),(Value.slice none 0 0)])).cells[·%(Value.agg (#[(Value.bool false),(Value.slice none 0 0),(Value.slice none 0 0),(Value.bool false),(Value.slice none 0 0),(Value.slice none 0 0)])).cells.size]!)) [(0,.agg (EP f0).toArray)]=some (EP f0).toArray:=by kernel_rfl
def Mr (q:Rat):List UInt8:=if q.den-1=0 then txI q.num else txI q.num++47::Lib.decDigits q.den
theorem Wh (z:Int):(txI z).length<=10*nw z.natAbs+2:=by
  have:=Pd z.natAbs
  unfold txI;split<;>simp<;>omega
theorem KR {α:Type} {enc:α->List Value} {z:Nat} (h:∀x,(enc x).length=z) (d:α) (xs:List α) (j r k:Nat) (hj:j<xs.length) (hr:r+k<=z) {vs:List Value} (hv:((enc (xs.getD j d)).drop r).take k=vs):((rowsL enc xs).drop (j*z+r)).take k=vs:=by
  have h1:=Am h d xs j hj
  rw [<-hv,<-h1,List.drop_take,List.take_take,List.drop_drop,Nat.min_eq_left Z]
section
abbrev Z3:=Int×Int×Int
def Ac (t:Z3):List Value:=[vI t.1,vI t.2.1,vI t.2.2]
theorem Ay (t:Z3):(Ac t).length=3:=rfl
theorem Hy (t:Z3):((Ac t).all λu=>u.oneCell')=true:=rfl
structure MZ (ps:List Pt) (ts ss:List Z3) where
  a:RX (rowsL BC ps) ps.length
  b:RX (rowsL Ac ts) ts.length
  c:RX (rowsL Ac ss) ss.length
def Cy {ps:List Pt} {ts ss:List Z3} (x:MZ ps ts ss):List Value:=[x.a.val,x.b.val,x.c.val]
theorem TB {ps:List Pt} {ts ss:List Z3} {x:MZ ps ts ss} {y:As} (hy:y∈[x.a.row,x.b.row,x.c.row]):y.ro=true:=by
  simp only [List.mem_cons,List.not_mem_nil,or_false] at hy
  rcases hy with rfl|rfl|rfl<;>rfl
instance {ps:List Pt} {ts ss:List Z3}:Cc (MZ ps ts ss):=⟨λx=>aG (Cy x),λx=>[x.a.row,x.b.row,x.c.row],λx y hy=>TB hy⟩
structure RW where
  ds:List PD
  ts:List Z3
  ss:List Z3
  a:RX (rowsL Fe ds) ds.length
  b:RX (rowsL Ac ts) ts.length
  c:RX (rowsL Ac ss) ss.length
  hd:∀d∈ds,d.ok
def Fb (x:RW):List Value:=[x.a.val,x.b.val,x.c.val]
theorem Y8 {x:RW} {y:As} (hy:y∈[x.a.row,x.b.row,x.c.row]):y.ro=true:=by
  simp only [List.mem_cons,List.not_mem_nil,or_false] at hy
  rcases hy with rfl|rfl|rfl<;>rfl
instance:Cc RW:=⟨λx=>aG (Fb x),λx=>[x.a.row,x.b.row,x.c.row],λx y hy=>Y8 hy⟩
def RW.ps (x:RW):List Pt:=x.ds.map GE
theorem Fp (d:PD):(Fe d).length=4:=rfl
def EB:PD:=⟨⟨0,0⟩,⟨0,0⟩⟩
section
variable {S:Nat->Prop} {w:World} {ps:List Pt} {ts ss:List Z3} {x:MZ ps ts ss} {r:RW}
theorem aN (h:Ro S w x):Ro S w x.a:=λy hy=>by rcases List.mem_singleton.1 hy with rfl;exact h _ List.mem_cons_self
end
structure RP where
  p:Pt
  x:PX p
def J_:RP:=⟨⟨0,0⟩,⟨FX.zero,FX.zero⟩⟩
@[reducible] def B0 (r:RP):List Value:=EP r.x
theorem Dd (r:RP):(B0 r).length=6:=rfl
theorem Vs (r:RP):((B0 r).all λu=>u.oneCell')=true:=rfl
def Ca (rs:List RP):List As:=rs.flatMap λr=>Cc.rows r.x
theorem Ol {rs:List RP} {y:As} (h:y∈Ca rs):y.ro=true:=by
  obtain ⟨r,_,h⟩:=List.mem_flatMap.1 h
  exact Cc.ro r.x y h
theorem NL (rs:List RP) (r:RP):Ca (rs++[r])=Ca rs++Cc.rows r.x:=by simp [Ca]
theorem Uj (r:RP) (A:List As) (rs:List RP):(Cc.rows r.x++(A++Ca rs)).Perm (A++Ca (rs++[r])):=by
  rw [NL,<-List.append_assoc A]
  exact List.perm_append_comm
theorem Lz (A T L:List As):(A++(T++L)).Perm (A++(L++T)):=(List.Perm.refl A).append List.perm_append_comm
structure HO (ps:List Pt) (ts ss:List Z3) where
  rs:List RP
  e:rs.map (·.p)=ps
  a:RX (rowsL B0 rs) rs.length
  b:RX (rowsL Ac ts) ts.length
  c:RX (rowsL Ac ss) ss.length
def Dp {ps:List Pt} {ts ss:List Z3} (x:HO ps ts ss):List Value:=[x.a.val,x.b.val,x.c.val]
theorem XA {ps:List Pt} {ts ss:List Z3} {x:HO ps ts ss} {y:As} (hy:y∈[x.a.row,x.b.row,x.c.row]++Ca x.rs):y.ro=true:=by
  rcases List.mem_append.1 hy with hy|hy
  · simp only [List.mem_cons,List.not_mem_nil,or_false] at hy
    rcases hy with rfl|rfl|rfl<;>rfl
  · exact Ol hy
instance {ps:List Pt} {ts ss:List Z3}:Cc (HO ps ts ss):=⟨λx=>aG (Dp x),λx=>[x.a.row,x.b.row,x.c.row]++Ca x.rs,λx y hy=>XA hy⟩
theorem HO.at {ps:List Pt} {ts ss:List Z3} (x:HO ps ts ss) {i:Nat} (h:i<x.rs.length):(x.rs.getD i J_).p=ps.getD i ⟨0,0⟩:=by
  have h1:(x.rs.map (·.p)).getD i ⟨0,0⟩=ps.getD i ⟨0,0⟩:=congrArg (λl=>l.getD i ⟨0,0⟩) x.e
  rw [<-h1]
  simp [h]
theorem HO.len {ps:List Pt} {ts ss:List Z3} (x:HO ps ts ss):x.rs.length=ps.length:=by
  have h:=congrArg List.length x.e
  rwa [List.length_map] at h
section
variable {P:Program} {ops:Array Oper} {rest:List Oper} {Q:Exit->Act->World->Prop} {n:Nat} {F:List (Nat×Value)} {w0:A_} {S:Nat->Prop} {L L2 A:List As} {w W:World} {rs:List RP} {i:Nat} {ps:List Pt} {ts ss:List Z3}
theorem OkL.permR (hp:L.Perm L2) (next:OkL P ops rest Q n F w0 L2):OkL P ops rest Q n F w0 L:=λa w ha hW=>next a w ha (hW.perm hp)
theorem Xt (hw:BD w0 w L) (hs:∀y∈Ca rs,y∈L) (hi:i<rs.length) (ha:∀y∈Ca rs,∀b,y.foot=some b->Nw w0 S b):Ro (SL w0 S L) w (rs.getD i J_).x:=λy hy=>by
  have hm:y∈Ca rs:=List.mem_flatMap.2 ⟨rs[i],List.getElem_mem hi,by rw [List.getD,List.getElem?_eq_getElem hi] at hy;exact hy⟩
  exact ⟨λb e=>(hw.2.1 y (hs y hm) b e).2,λb e=>⟨⟨y,hs y hm,Ol hm,e⟩,ha y hm b e⟩⟩
theorem At.snoc {r:RP} (h:∀y∈Ca rs,∀b,y.foot=some b->Nw w0 S b) (k:At w0 S r.x):∀y∈Ca (rs++[r]),∀b,y.foot=some b->Nw w0 S b:=λy hy=>by
  rw [NL] at hy
  rcases List.mem_append.1 hy with hy|hy
  · exact h y hy
  · exact k y hy
theorem At.rpt {x:HO ps ts ss} (h:At w0 S x):∀y∈Ca x.rs,∀b,y.foot=some b->Nw w0 S b:=λy hy=>h y (List.mem_append_right [x.a.row,x.b.row,x.c.row] hy)
theorem Tr (hw:BD ⟨W,none⟩ w (A++Ca rs)) (i j k:Nat) {p1 p2 p3:Option Addr} {T1 T2 T3 n1 n2 n3 c1 c2 c3:Nat} (h1:A[i]?=some (rowW p1 T1 6 n1 c1 (rowsL B0 rs))) (h2:A[j]?=some (rowW p2 T2 3 n2 c2 (rowsL Ac ts))) (h3:A[k]?=some (rowW p3 T3 3 n3 c3 (rowsL Ac ss)))
    (o1:OwnOk p1 n1 c1) (o2:OwnOk p2 n2 c2) (o3:OwnOk p3 n3 c3) (e1:n1=rs.length) (e2:n2=ts.length) (e3:n3=ss.length) (he:rs.map (·.p)=ps) (hat:∀y∈Ca rs,∀b,y.foot=some b->Nw ⟨W,none⟩ S b)
    {v:Value} (hv:v=aG [.slice p1 n1 c1,.slice p2 n2 c2,.slice p3 n3 c3]):Af (HO ps ts ss) S W (.returned v) w:=by
  subst e1;subst e2;subst e3
  have up:∀{i:Nat} {x:As},A[i]?=some x->(A++Ca rs)[i]?=some x:=λ{i x} h=>by rw [List.getElem?_append_left (List.getElem?_eq_some_iff.1 h).1];exact h
  refine ⟨⟨rs,he,⟨p1,c1,o1.row⟩,⟨p2,c2,o2.row⟩,⟨p3,c3,o3.row⟩⟩,by rw [hv];rfl,hw.out,λy hy=>?_⟩
  have hy:y∈[AE p1 (rowsL B0 rs),AE p2 (rowsL Ac ts),AE p3 (rowsL Ac ss)]++Ca rs:=hy
  rcases List.mem_append.1 hy with hy|hy
  · simp only [List.mem_cons,List.not_mem_nil,or_false] at hy
    rcases hy with rfl|rfl|rfl
    · exact Cs hw i (up h1) o1 (Aa Dd _)
    · exact Cs hw j (up h2) o2 (Aa Ay _)
    · exact Cs hw k (up h3) o3 (Aa Ay _)
  · exact ⟨λb e=>(hw.2.1 _ (List.mem_append_right _ hy) b e).2,hat y hy⟩
theorem ZQ (hw:BD ⟨W,none⟩ w L) (i j k:Nat) {p1 p2 p3:Option Addr} {T1 T2 T3 n1 n2 n3 c1 c2 c3:Nat} (h1:L[i]?=some (rowW p1 T1 10 n1 c1 (rowsL BC ps))) (h2:L[j]?=some (rowW p2 T2 3 n2 c2 (rowsL Ac ts))) (h3:L[k]?=some (rowW p3 T3 3 n3 c3 (rowsL Ac ss)))
    (o1:OwnOk p1 n1 c1) (o2:OwnOk p2 n2 c2) (o3:OwnOk p3 n3 c3) (e1:n1=ps.length) (e2:n2=ts.length) (e3:n3=ss.length)
    {v:Value} (hv:v=aG [.slice p1 n1 c1,.slice p2 n2 c2,.slice p3 n3 c3]):Af (MZ ps ts ss) S W (.returned v) w:=by
  subst e1;subst e2;subst e3
  refine ⟨⟨⟨p1,c1,o1.row⟩,⟨p2,c2,o2.row⟩,⟨p3,c3,o3.row⟩⟩,by rw [hv];rfl,hw.out,λy hy=>?_⟩
  have hy:y∈[AE p1 (rowsL BC ps),AE p2 (rowsL Ac ts),AE p3 (rowsL Ac ss)]:=hy
  simp only [List.mem_cons,List.not_mem_nil,or_false] at hy
  rcases hy with rfl|rfl|rfl
  · exact Cs hw i h1 o1 (Aa Bk _)
  · exact Cs hw j h2 o2 (Aa Ay _)
  · exact Cs hw k h3 o3 (Aa Ay _)
end
theorem YB (a b:Z3):((a.1 == b.1)&&((a.2.1 == b.2.1)&&((a.2.2 == b.2.2)&&true)))=decide (a=b):=by
  obtain ⟨a1,a2,a3⟩:=a
  obtain ⟨b1,b2,b3⟩:=b
  rw [Bool.eq_iff_iff]
  simp
theorem YE (D:Nat) (a b:Z3):Eo prog (D+2) 105 (.agg (Ac a).toArray) (.agg (Ac b).toArray) (decide (a=b)):=by
  rw [<-YB]
  exact Eo.array underlying105 NI Lj (P6.one isAgg3 O O (Eo.int underlying3) (P6.one isAgg3 O O (Eo.int underlying3) (P6.one isAgg3 O O (Eo.int underlying3) P6.nil)))
theorem KC {α:Type} {d:α} {xs ys:List α} (hl:xs.length=ys.length) (h:∀i,i<xs.length->xs.getD i d=ys.getD i d):xs=ys:=by
  refine List.ext_getElem hl λi h1 h2=>?_
  have:=h i h1
  rwa [List.getD,List.getD,List.getElem?_eq_getElem h1,List.getElem?_eq_getElem h2] at this
theorem Hk {α:Type} {d:α} {xs ys:List α} {i:Nat} (h:xs.getD i d≠ys.getD i d):xs≠ys:=λe=>h (by rw [e])
theorem M5 (r:RW) {i:Nat} (h:i<r.ds.length):r.ps.getD i ⟨0,0⟩=GE (r.ds.getD i EB):=by
  unfold RW.ps
  simp [h]
theorem RW.pl (r:RW):r.ps.length=r.ds.length:=by unfold RW.ps;rw [List.length_map]
theorem RW.ok (r:RW) {i:Nat} (h:i<r.ds.length):(r.ds.getD i EB).ok:=by
  rw [List.getD,List.getElem?_eq_getElem h]
  exact r.hd _ (List.getElem_mem h)
theorem RW.sz (r:RW) (i:Nat) (h:i<r.ps.length):Ds (r.ps.getD i ⟨0,0⟩)<=4:=by
  rw [r.pl] at h
  rw [M5 r h]
  exact Sq (r.ok h)
structure ap (ps:List Pt) (ts ss:List Z3) where
  a:OX 99 10 (rowsL BC ps) ps.length
  b:OX 105 3 (rowsL Ac ts) ts.length
  c:OX 110 3 (rowsL Ac ss) ss.length
@[reducible] def bI {ps:List Pt} {ts ss:List Z3} (x:ap ps ts ss):List As:=[rowW x.c.p 110 3 ss.length x.c.c (rowsL Ac ss),rowW x.b.p 105 3 ts.length x.b.c (rowsL Ac ts),rowW x.a.p 99 10 ps.length x.a.c (rowsL BC ps)]
section
variable {S:Nat->Prop} {w:World} {w0:A_} {L:List As} {ps:List Pt} {ts ss:List Z3}
theorem Zu {α:Type} [Cc α] {a:α} (h:Ro S w a):∀y∈Cc.rows a,y.ro=true/\Holds w y:=λy k=>⟨Cc.ro a y k,(h y k).1⟩
abbrev SA (_:Nat):Prop:=True
theorem Yw {α:Type} [Cc α] {a:α} (h:Ro S w a):Ro SA w a:=h.mono λ_ _=>trivial
theorem W1 (hw:BD w0 w L) (i:Nat) {p:Option Addr} {T:TypeId} {z n n' c c':Nat} {cs:List Value} {ok:Av p n' c'} (hi:L[i]?=some (rowW p T z n c cs)) (ho:OwnOk p n c) (hl:cs.length=n*z):Ro SA w (⟨p,c',ok⟩:RX cs n'):=λy hy=>by
  rcases List.mem_singleton.1 hy with rfl
  refine ⟨λd e=>?_,λ_ _=>trivial⟩
  obtain ⟨_,o,ho2,hp⟩:=hw.2.1 _ (List.mem_of_getElem? hi) d e
  exact ⟨o,ho2,B3 ho hl hp⟩
theorem PH {x:HO ps ts ss} (hw:BD w0 w L) (i:Nat) (hi:(L.drop i).take 3=[x.a.row,x.b.row,x.c.row]) (hs:∀y∈Ca x.rs,y∈L):Ro SA w x:=λy hy=>by
  have hy:y∈[x.a.row,x.b.row,x.c.row]++Ca x.rs:=hy
  have hm:y∈L:=by
    rcases List.mem_append.1 hy with hy|hy
    · exact List.mem_of_mem_drop (List.mem_of_mem_take (hi▸hy))
    · exact hs y hy
  exact ⟨λb e=>(hw.2.1 y hm b e).2,λ_ _=>trivial⟩
end
theorem No (r:RW) {i:Nat} (h:i<r.ds.length):r.ps.take (i+1)=r.ps.take i++[GE (r.ds.getD i EB)]:=by
  rw [<-M5 r h,List.take_add_one,List.getD,List.getElem?_eq_getElem (by rw [r.pl];exact h)]
  rfl
end
section
set_option maxRecDepth 100000
theorem Oe (ts:List Z3) (x:RX (rowsL Ac ts) ts.length) (hl:ts.length<=1000000000) (w:World) {S:Nat->Prop} (hx:Ro S w x):Calls prog 53 #[(Value.slice x.p ts.length x.c)] w (DT UE (Nq (T:=105) (z:=3) (cs:=rowsL Ac ts) (n:=ts.length)) S w):=by
 have lx:=CI (W:=w) hx
 refine AY (args:=[(Value.slice x.p ts.length x.c)]) (L:=[AE x.p (rowsL Ac ts)]) func53 O O (AI O) (D9 hx Aj) (OkC.subF (sL [0] O) (q4 (asg' O (OkL.nilRow 105 3 (OkL.nil (q1 (q4 (AM O (AH (v:=(Value.bool x.p.isNone)) (HD O O underlying23) O (OkL.nil (OkQ.subF (sL [0,2,4] O) ?_)))))))))))
 refine OkQ.then_ ?_
 refine OkC.cond O (λhc0=>?_) (λhc0=>?_)
 ·skip
  have hts:ts=[]:=List.eq_nil_of_length_eq_zero (x.ok.nil (Option.isNone_iff_eq_none.1 hc0)).1
  exact q4 (asg' O (OkL.nilRow 105 3 (OkL.nil (OkQ.then_ (OkC.ret (OkQ.then_ret (ret_one O (rd_tmp (v:=(Value.slice none 0 0)) O) (λw hw=>(by subst hts;exact Km hw (OX.mk none 0 OwnOk.none) (by exact (sk (sl (sl sr)))) (HN.own O HN.nil) (by show Value.slice none 0 0=_;rfl))))))))))
 ·skip
  exact OkC.skip (q2 (OkL.openV (V:=λb1=>(Value.slice (some ⟨b1,0,none⟩) 0 0)) (T:=105) (cs:=[]) (AP O) (Gq underlying23 sizeOf105) O (AI O) λb1=>OkL.asRow0 (z:=3) 0 O Z λho_b1=>AM O (OkL.appendE0 Kl O ho_b1 O (L9 (k:=2) O x.ok) (Aa Ay _) (DB Hy _) (G0 Z) Z O λp_1 c_1 ho_1=>asg' O (OkL.nil (OkQ.subF (sL [0,2] O) (OkQ.then_ (OkC.ret (ret_one O (rd_tmp (v:=(Value.slice p_1 ts.length c_1)) O) (λw hw=>(Km hw (OX.mk p_1 c_1 ho_1) (sk (sl (sl sr))) (HN.own O HN.nil) O))))))))))
end
end Go.Proofs.YtpolhpjiahbidaaGreatDoor
