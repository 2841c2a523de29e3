import Derived.Test.YtpgncndhhhllfaaGreatDoorPart03
import Derived.Test.YtpgncndhhhllfaaGreatDoorPart05
import Derived.Test.YtpgncndhhhllfaaGreatDoorPart11
import Derived.Test.YtpgncndhhhllfaaGreatDoorPart15
import Derived.Test.YtpgncndhhhllfaaGreatDoorPart35
import Derived.Test.YtpgncndhhhllfaaGreatDoorPart37
namespace Go.Proofs.YtpgncndhhhllfaaGreatDoor
open Go Go.RowKit Go.Proofs.Tryz
set_option linter.unusedVariables false
set_option linter.unusedSimpArgs false
section
structure bZ (x y:Nat) where
  q:NX x
  r:NX y
instance {x y:Nat}:DN (bZ x y):=⟨λa=>.tuple #[CH a.q,CH a.r],λa=>[Be a.q,Be a.r],λa y hy=>Pa rfl rfl hy⟩
section
variable {S:Nat->Prop} {w:World} {x y:Nat}
theorem bD {a:bZ x y} (h:Ro S w a):Ro S w a.q:=λz hz=>h z (by rcases List.mem_singleton.1 hz with rfl;exact List.mem_cons_self)
theorem gN {W:World} {src:List (Option Nat)} {e:Ending} (hs:∀s∈src,∀b,s=some b->S b) (h:Gs W src x e w):Aw (NX x) S W e w:=by
  obtain ⟨v,rfl,rfl,hb,hh,hl⟩:=h
  refine ⟨⟨v.p,v.c,v.ok⟩,rfl,hb,λy hy=>?_⟩
  rcases List.mem_singleton.1 hy with rfl
  exact ⟨hh,λb e=>(hl b e).imp_right λh=>hs _ h b O⟩
theorem dA {a:NX x} (h:Ro S w a) {b:Nat} (e:a.p.map (·.block)=some b):S b:=(h _ List.mem_cons_self).2 b e
theorem RE {x:Nat} (h:nw x<=67108864):(dg x).length<=274877906944:=by have:=ZA x;omega
theorem Gw {x:Nat} (h:nw x<=67108864):(dg x).length<=549755813888:=by have:=ZA x;omega
theorem Pu (x:Nat) (hx:x<18446744073709551616) (w:World) {S:Nat->Prop}:Calls prog 194 #[(vK .u64 x)] w (Aw (NX x) S w):=(Po x hx w).mono λe w' h=>gN (λs hs=>by cases hs) h
theorem Rw (a:NX x) (b:NX y) (hx:nw x<=67108864) (hy:nw y<=67108864) (w:World) (ha:Ro S w a) (hb:Ro S w b):Calls prog 190 #[CH a,CH b] w (Aw (NX (x+y)) S w) :=
  (W1 a.nv b.nv (Gw hx) (Gw hy) w (TV ha) (TV hb)).mono λe w' h=>gN (λs hs=>by cases hs) h
theorem NS (a:NX x) (b:NX y) (hxy:y<=x) (hx:nw x<=67108864) (w:World) (ha:Ro S w a) (hb:Ro S w b):Calls prog 197 #[CH a,CH b] w (Aw (NX (x-y)) S w) :=
  (R8 a.nv b.nv hxy (Gw hx) w (TV ha) (TV hb)).mono λe w' h=>gN (λs hs=>by cases hs) h
theorem Nt (a:NX x) (b:NX y) (hx:nw x<=67108864) (hy:nw y<=67108864) (w:World) (ha:Ro S w a) (hb:Ro S w b):Calls prog 143 #[CH a,CH b] w (Aw (NX (x*y)) S w) :=
  (Nx a.nv b.nv (Gw hx) (Gw hy) w (TV ha) (TV hb)).mono λe w' h=>gN (λs hs=>by cases hs) h
theorem Xz (a:NX x) (b:NX y) (hx:nw x<=67108864) (hy:nw y<=67108864) (w:World) (ha:Ro S w a) (hb:Ro S w b):Calls prog 198 #[CH a,CH b] w (An w (vI (DL x y))) :=
  Mx a.nv b.nv (Gw hx) (Gw hy) w (TV ha) (TV hb)
theorem Xx (a:NX x) (b:NX y) (hx:nw x<=67108864) (hy:nw y<=67108864) (w:World) (ha:Ro S w a) (hb:Ro S w b):Calls prog 195 #[CH a,CH b] w (Aw (NX (Nat.gcd x y)) S w) :=
  (XA a.nv b.nv (RE hx) (RE hy) w (TV ha) (TV hb)).mono λe w' h=>gN (λs hs c e=>by
    rcases List.mem_cons.1 hs with rfl|hs
    · exact dA ha e
    · rcases List.mem_singleton.1 hs with rfl;exact dA hb e) h
theorem Qy (a:NX x) (b:NX y) (hy0:0<y) (hx:nw x<=67108864) (hy:nw y<=67108864) (w:World) (ha:Ro S w a) (hb:Ro S w b):Calls prog 196 #[CH a,CH b] w (Aw (bZ (x/y) (x%y)) S w) :=
  (Q8 a.nv b.nv hy0 (RE hx) (RE hy) w (TV ha) (TV hb)).mono λe w' h=>by
    obtain ⟨u,v,hu,hv,rfl,hB,hhu,hhv,lu,lv⟩:=h
    obtain ⟨up,uc,ux,uok⟩:=u
    obtain ⟨vp,vc,vx,vok⟩:=v
    dsimp only at hu hv
    subst hu;subst hv
    refine ⟨⟨⟨up,uc,uok⟩,⟨vp,vc,vok⟩⟩,rfl,hB,λz hz=>?_⟩
    rcases List.mem_cons.1 hz with rfl|hz
    · exact ⟨hhu,λb e=>(lu b e).elim .inl λh=>by cases h⟩
    · rcases List.mem_singleton.1 hz with rfl
      exact ⟨hhv,λb e=>(lv b e).imp_right λh=>by
        have:=List.mem_singleton.1 h
        exact dA ha this.symm⟩
theorem KH (a:NX x) (hx:nw x<=67108864) (w:World) (ha:Ro S w a):Calls prog 134 #[CH a] w (An w (Value.string (txB (Lib.decDigits x)))):=Vl a.nv (Gw hx) w (TV ha)
end
section
variable {P:Program} {ops:Array Oper} {rest:List Oper} {Q:Exit->Act->World->Prop} {n d:Nat} {F:List (Nat×Value)} {w0:BJ} {S:Nat->Prop} {L:List As} {t:TypeId} {p:String} {af:Array Edge} {y:Operand} {f:FuncId} {xs:List Operand} {args:List Value} {ts:Array TypeId}
theorem cD {u v:Nat} (hc:∀args w,(callFunc f args).run P w=.ok (.enter f args) w) (h:∀w,BN w0 w L->Calls P f args.toArray w (Aw (bZ u v) (SL w0 S L) w))
    (hf:evF F y=some (.func (.func f) #[] #[])) (hargs:xs.map (evF F)=args.map some) (hd:Nat.ble (d+1) n=true) (next:∀a:bZ u v,At w0 S a->AE P ops rest Q n ((d,.tuple #[CH a.q,CH a.r])::F) w0 (Be a.q::Be a.r::L)) :
    AE P ops (⟨some d,.call { callee:=.value y,args:=xs.toArray,argTypes:=ts },t,p,af,none⟩::rest) Q n F w0 L:=AE.callR hc h hf hargs hd next
end
end
theorem Q1:∀{k x:Nat},x<10^(k+1)->(Lib.decDigits x).length<=k+1
  | 0,x,h=>by rw [Lib.decDigits,dif_pos Z];simp
  | k+1,x,h=>by
    rw [Lib.decDigits]
    split
    · simp
    · have:=Q1 (k:=k) (x:=x/10) (by rw [Nat.pow_succ] at h;omega)
      rw [List.length_append,List.length_singleton];omega
theorem QY (n:Nat):(Lib.decDigits n).length<=10*nw n+1 :=
  Q1 (Nat.lt_of_lt_of_le (Nat.lt_of_lt_of_le (Bt n) (by rw [Nat.pow_mul];exact Nat.pow_le_pow_left (by decide) _)) (Nat.pow_le_pow_right Z (Nat.le_succ _)))
theorem NJ (x:Nat):0<(dg x).length↔x≠0:=by
  constructor
  · intro h e;rw [e,FO] at h;simp at h
  · intro h;exact (KK Z).2
theorem Za (neg:Bool) (x:Nat):decide (D_ neg x<0)=(neg&&decide (0<(dg x).length)):=by
  have h:=NJ x
  cases neg
  · simp [D_]
  · by_cases h0:x=0
    · subst h0;simp [D_,FO]
    · have:0<(dg x).length:=h.2 h0
      simp [D_,this];omega
def aP (neg:Bool) {x:Nat} (n:NX x):ZX (D_ neg x):=⟨n.cast (A9 neg x).symm⟩
theorem Z8 (neg:Bool) {x:Nat} (n:NX x):DK (aP neg n)=[.bool (neg&&decide (0<(dg x).length)),CH n]:=by
  unfold DK aP CH
  rw [Za]
  simp only [A9]
theorem Oa {x:Nat} (h:(dg x).length=0):x=0:=Classical.byContradiction λe=>by have:=(NJ x).2 e;omega
theorem IW {x:Nat} (h:¬(dg x).length=0):x≠0:=(NJ x).1 Z
def Fz (z:Int):List UInt8:=if z<0 then 45::Lib.decDigits z.natAbs else Lib.decDigits z.natAbs
section
set_option maxRecDepth 100000
theorem Df {x:Nat} (neg:Bool) (n:NX x) (w:World) {S:Nat->Prop} (hn:Ro S w n)  :Calls prog 193 #[(Value.bool neg),(CH n)] w (Aw (ZX (D_ neg x)) S w):=by
 have ln:=Cl (W:=w) hn
 refine Ah (args:=[(Value.bool neg),(CH n)]) (L:=[Be n]) func193 O O (AT O) (cE hn Ax) (AF.subF (sL [0,1] O) (q4 (al Se O λb1=>AE.nil (q2 ?_))))
 refine AM O (AM O ?_)
 refine AE.mid (FM:=[(0,(Value.bool neg)),(1,(CH n)),(4,(pP b1 0)),(5,(Value.bool neg)),(6,(Value.bool neg)),(10,(Value.bool (neg&&(decide (0<((dg x).length))))))]) (LM:=[Ag b1 73 ([(Value.bool false),(Value.slice none 0 0)]),Be n]) 4 ?_ ?_
 ·rcases Bool.eq_false_or_eq_true neg with hg1|hg1
  ·skip
   refine AE.retell (k:=6) (u:=Value.bool true) O (by rw [hg1]) ?_
   have hg1':=hg1
   skip
   exact AE.step (v:=(CH n)) (AB O) (Al O) O (AT O) (AE.step (v:=(vN ((dg x).length))) (AB O) (AG O underlying71) O (AT O) (AE.step (v:=(Value.bool (decide (0<((dg x).length))))) (AB O) (B3 (c:=(decide (0<((dg x).length)))) O O (CL (a:=0) (b:=(dg x).length))) O (AT O) (AH (v:=(Value.bool (decide (0<((dg x).length))))) (Ac O O) O (AE.nil (AC.mid (sS O (sS O (sS O (sS O (sS (by first|rfl|(rw [hg1];rfl)|rw [hg1]) (sS (by first|rfl|(rw [hg1];rfl)|rw [hg1]) (sN))))))) (List.Sublist.refl _))))))
  ·skip
   refine AE.retell (k:=6) (u:=Value.bool false) O (by rw [hg1]) ?_
   have hg1':=hg1
   skip
   exact AE.skip (AJ O) O (AT O) (AE.skip (AJ O) O (AT O) (AE.skip (AJ O) O (AT O) (AH (v:=(Value.bool false)) (AP O O) O (AE.nil (AC.mid (sS O (sS O (sS O (sS O (sS (by first|rfl|(rw [hg1];rfl)|rw [hg1]) (sS (by first|rfl|(rw [hg1];rfl)|rw [hg1]) (sN))))))) (List.Sublist.refl _))))))
 refine AM O (AH (v:=(aG ([(Value.bool (neg&&(decide (0<((dg x).length))))),(CH n)]))) (AV (zs:=[(Value.bool false),(Value.slice none 0 0)]) (vs:=[(Value.bool (neg&&(decide (0<((dg x).length))))),(CH n)]) (pv:=[(0,(Value.bool (neg&&(decide (0<((dg x).length)))))),(1,(CH n))]) (places:=[(0,1),(1,1)]) zeroValue73 underlying73 (λw=>by simp [sizeOf4,sizeOf71]) O O) O (A8 O sizeOf73 O (AE.nil (AC.subF (sL [4] O) (AC.then_ ?_)))))
 exact AF.ret (AI O (Ap (i:=0) (cs:=[(Value.bool (neg&&(decide (0<((dg x).length))))),(CH n)]) O O isAgg73 sizeOf73 O) (λw hw=>ED (a:=aP neg n) hw (bu (ZW (inS hw 1 O ln))) (by rw [<-Z8];rfl)))
theorem Z2 (z:Int) (hz:-9223372036854775808<=z) (hz2:z<9223372036854775808) (w:World) {S:Nat->Prop}  :Calls prog 138 #[(vI z)] w (Aw (ZX z) S w):=by
 refine Af (args:=[(vI z)]) func138 O O (AT O) (AF.subF (sL [0] O) (q4 (al Se O λb1=>AE.nil (q1 ?_))))
 refine q4 (AM O (AH (Ae (c:=(decide (z<(0:Int)))) O O O) O (AE.nil (AC.subF (sL [0,2,4] O) (AC.then_ ?_)))))
 refine AF.cond O (λhc0=>?_) (λhc0=>?_)
 ·replace hc0:=of_decide_eq_true hc0
  refine q4 (AM O (AH (AW (c:=(z+1)) O O (A_ Z Z)) O (AH (I1 (c:=(((-(z+1)).toNat:Nat):Int)) O (by rw [A_ Z Z];omega)) O (AH (Ay (c:=(((-(z+1)).toNat:Nat):Int)) O underlying2 underlying40 (BR Z)) O (AH (AW (c:=((z.natAbs:Nat):Int)) O O (by rw [DV Z Z];omega)) O ?_)))))
  refine cN (S:=S) (x:=z.natAbs) (args:=[(vK .u64 z.natAbs)]) call194 (λw hw=>Pu z.natAbs (by first|omega|(simp only [Int.natAbs_neg];omega)) w) O O O λg1 lg1=>cZ (S:=S) (x:=z) (args:=[(Value.bool true),(CH g1)]) call193 (λw hw=>(Aw.cast (T:=λi=>ZX i) (G2 hc0) (Df true g1 w (inS hw 0 O lg1)))) O O O λg2 lg2=>FN O sizeOf73 O (AE.nil (AC.subF (sL [0,2] O) (AC.then_ ?_)))
  exact AF.ret (AC.then_ret (AI O (Ap (i:=2) (cs:=DK g2) O O isAgg73 sizeOf73 O) (λw hw=>ED (a:=(g2:ZX z)) hw (inS hw 0 O lg2) O)))
 ·replace hc0:=of_decide_eq_false hc0
  refine AF.skip (q2 (AM O (AH (Ay (c:=((z.natAbs:Nat):Int)) O underlying2 underlying40 (by rw [DV Z Z];omega)) O (cN (S:=S) (x:=z.natAbs) (args:=[(vK .u64 z.natAbs)]) call194 (λw hw=>Pu z.natAbs (by first|omega|(simp only [Int.natAbs_neg];omega)) w) O O O λg3 lg3=>cZ (S:=S) (x:=z) (args:=[(Value.bool false),(CH g3)]) call193 (λw hw=>(Aw.cast (T:=λi=>ZX i) (Mm hc0) (Df false g3 w (inS hw 0 O lg3)))) O O O λg4 lg4=>?_))))
  exact FN O sizeOf73 O (AE.nil (AC.subF (sL [0,2] O) (AC.then_ (AF.ret (AI O (Ap (i:=2) (cs:=DK g4) O O isAgg73 sizeOf73 O) (λw hw=>ED (a:=(g4:ZX z)) hw (inS hw 0 O lg4) O))))))
theorem Tn {x:Int} (a:ZX x) (w:World) {S:Nat->Prop} (ha:Ro S w a)  :Calls prog 246 #[(aG (DK a))] w (An w (vI x.sign)):=by
 have la:=Cl (W:=w) ha
 refine Ah (args:=[(aG (DK a))]) (L:=[Be a.n]) func246 O O (AT O) (YD ha Ax) (AF.subF (sL [0] O) (q4 (BU (cs:=DK a) O λb1=>asg' O (q6 (sL [1,2] O) ?_))))
 refine q4 (AH (v:=(pP b1 1)) (AA O underlying73 O sizeOf71 O) O (BA 0 (CH a.n) Fi O (AH (v:=(vN ((dg x.natAbs).length))) (AG O underlying71) O (AH (BL (c:=(decide (((dg x.natAbs).length)=0))) O O (Iv (a:=(dg x.natAbs).length) (b:=0))) O (AE.nil ?_)))))
 refine AC.subF (sL [1,2,6] O) (AC.then_ ?_)
 refine AF.cond O (λhc0=>?_) (λhc0=>?_)
 ·replace hc0:=of_decide_eq_true hc0
  have he:x.sign=0:=by rw [show x=0 by have:=Oa hc0;omega];rfl
  exact q4 (asg' O (AE.nil (AC.then_ (AF.ret (AC.then_ret (AI O (AY (v:=(vI 0)) O) (λw hw=>⟨by rw [he],hw.out⟩)))))))
 ·replace hc0:=of_decide_eq_false hc0
  have hx0:=IW hc0
  refine AF.skip (q1 (q4 (AH (v:=(pP b1 0)) (AA O underlying73 O sizeOf4 O) O (BA 0 (Value.bool (decide (x<0))) Jt O (AE.nil ?_)))))
  refine AC.subF (sL [1,2,8] O) (AC.then_ ?_)
  refine AF.cond O (λhc1=>?_) (λhc1=>?_)
  ·replace hc1:=of_decide_eq_true hc1
   have he:x.sign = -1:=Int.sign_eq_neg_one_of_neg hc1
   exact q4 (asg' O (AE.nil (AC.then_ (AF.ret (AC.then_ret (AI O (AY (v:=(vI (-1:Int))) O) (λw hw=>⟨by rw [he],hw.out⟩)))))))
  ·replace hc1:=of_decide_eq_false hc1
   have he:x.sign=1:=Int.sign_eq_one_of_pos Z
   exact AF.skip (q2 (asg' O (AE.nil (AC.then_ (AF.ret (AI O (AY (v:=(vI 1)) O) (λw hw=>⟨by rw [he],hw.out⟩)))))))
theorem YO {x:Int} (a:ZX x) (w:World) {S:Nat->Prop} (ha:Ro S w a)  :Calls prog 276 #[(aG (DK a))] w (Aw (ZX (-x)) S w):=by
 have la:=Cl (W:=w) ha
 refine Ah (args:=[(aG (DK a))]) (L:=[Be a.n]) func276 O O (AT O) (YD ha Ax) (AF.subF (sL [0] O) (q4 (BU (cs:=DK a) O λb1=>al Se O λb2=>q3 (sL [1,2] O) ?_)))
 refine AH (v:=(pP b1 0)) (AA O underlying73 O sizeOf4 O) O (BA 1 (Value.bool (decide (x<0))) Jt O (AH (BQ (c:=(!(decide (x<0)))) O O) O (AH (v:=(pP b1 1)) (AA O underlying73 O sizeOf71 O) O (BA 1 (CH a.n) Fi O (cZ (S:=S) (x:=(-x)) (args:=[(Value.bool (!(decide (x<0)))),(CH a.n)]) call193 (λw hw=>(Aw.cast (T:=λi=>ZX i) (Rk x) (Df (!(decide (x<0))) a.n w (OE (inS hw 2 O la))))) O O O λg1 lg1=>?_)))))
 exact Cm O sizeOf73 O (AE.nil (AC.subF (sL [2] O) (AC.then_ (AF.ret (AI O (Ap (i:=1) (cs:=DK g1) O O isAgg73 sizeOf73 O) (λw hw=>ED (a:=(g1:ZX (-x))) hw (inS hw 0 O lg1) O))))))
theorem W_ {x y:Int} (a:ZX x) (b:ZX y) (hx:nw x.natAbs<=67108864) (hy:nw y.natAbs<=67108864) (w:World) {S:Nat->Prop} (ha:Ro S w a) (hb:Ro S w b)  :Calls prog 140 #[(aG (DK a)),(aG (DK b))] w (Aw (ZX (x+y)) S w):=by
 have la:=Cl (W:=w) ha
 have lb:=Cl (W:=w) hb
 refine Ah (args:=[(aG (DK a)),(aG (DK b))]) (L:=[Be a.n,Be b.n]) func140 O O (AT O) (YD ha (YD hb Ax)) (AF.subF (sL [0,1] O) (q4 (BU (cs:=DK a) O λb1=>BU (cs:=DK b) O λb2=>al Se O λb3=>?_)))
 refine q6 (sL [2,3,4] O) (q4 (AH (v:=(pP b1 0)) (AA O underlying73 O sizeOf4 O) O (BA 2 (Value.bool (decide (x<0))) Jt O (AH (v:=(pP b2 0)) (AA O underlying73 O sizeOf4 O) O (BA 1 (Value.bool (decide (y<0))) Jt O ?_)))))
 refine AH (G8 (c:=(decide (x<0) == decide (y<0))) O O underlying4 O) O (AE.nil (AC.subF (sL [2,3,4,9] O) (AC.then_ ?_)))
 refine AF.cond O (λhc0=>?_) (λhc0=>?_)
 ·skip
  refine AF.seq (Cd [(0,true),(1,true),(2,true),(3,true),(4,true),(5,true),(6,false),(7,false),(8,false)] (sl sr) (Aq (v:=(pP b1 0)) O (AA O underlying73 O sizeOf4 O) (Bd 1 (Value.bool (decide (x<0))) Jt O (Aq (v:=(pP b1 1)) O (AA O underlying73 O sizeOf71 O) (Bd 1 (CH a.n) Fi O ?_)))))
  refine Aq (v:=(pP b2 1)) O (AA O underlying73 O sizeOf71 O) (Bd 0 (CH b.n) Fi O (OkE.imp O (cN (S:=S) (x:=(x.natAbs+y.natAbs)) (args:=[(CH a.n),(CH b.n)]) call190 (λw hw=>Rw a.n b.n (by first|omega|(simp only [Int.natAbs_neg];omega)) (by first|omega|(simp only [Int.natAbs_neg];omega)) w (OE (inS hw 3 O la)) (OE (inS hw 4 O lb))) O O O λg1 lg1=>OkE.back (sl (sl sr)) (OkE.imp O ?_))))
  refine cZ (S:=S) (x:=(x+y)) (args:=[(Value.bool (decide (x<0))),(CH g1)]) call193 (λw hw=>(Aw.cast (T:=λi=>ZX i) (H4 hc0) (Df (decide (x<0)) g1 w (inS hw 0 O lg1)))) O O O λg2 lg2=>OkE.back (sl (sl (sl sr))) (OkE.imp O (FN O sizeOf73 O (OkE.back (sl (sl (sl sr))) (OkE.nil ?_))))
  exact AC.subF (sL [2,3,4] O) (AC.then_ (AF.ret (AC.then_ret (AI O (Ap (i:=2) (cs:=DK g2) O O isAgg73 sizeOf73 O) (λw hw=>ED (a:=(g2:ZX (x+y))) hw (inS hw 0 O lg2) O)))))
 ·skip
  have hc0:(decide (x<0) == decide (y<0))=false:=by simpa using hc0
  refine AF.skip (q1 (q4 (AH (v:=(pP b1 1)) (AA O underlying73 O sizeOf71 O) O (BA 2 (CH a.n) Fi O (AH (v:=(pP b2 1)) (AA O underlying73 O sizeOf71 O) O ?_)))))
  refine BA 1 (CH b.n) Fi O (Cj call198 (λw hw=>Xz a.n b.n (by first|omega|(simp only [Int.natAbs_neg];omega)) (by first|omega|(simp only [Int.natAbs_neg];omega)) w (OE (inS hw 3 O la)) (OE (inS hw 4 O lb))) O (AH (CU (c:=(decide ((0:Int)<=(DL x.natAbs y.natAbs)))) O O O) O (AE.nil (AC.subF (sL [2,3,4,23] O) (AC.then_ ?_)))))
  refine AF.cond O (λhc1=>?_) (λhc1=>?_)
  ·replace hc1:=of_decide_eq_true hc1
   have hge:y.natAbs<=x.natAbs:=by exact Nat.le_of_not_lt λh=>by have:=(FF (a:=x.natAbs) (b:=y.natAbs)).2 h;omega
   refine AF.seq (Cd [(0,true),(1,true),(2,true),(3,true),(4,true),(5,true),(6,false),(7,false),(8,false)] (sl sr) (Aq (v:=(pP b1 0)) O (AA O underlying73 O sizeOf4 O) (Bd 1 (Value.bool (decide (x<0))) Jt O (Aq (v:=(pP b1 1)) O (AA O underlying73 O sizeOf71 O) (Bd 1 (CH a.n) Fi O ?_)))))
   refine Aq (v:=(pP b2 1)) O (AA O underlying73 O sizeOf71 O) (Bd 0 (CH b.n) Fi O (OkE.imp O (cN (S:=S) (x:=(x.natAbs-y.natAbs)) (args:=[(CH a.n),(CH b.n)]) call197 (λw hw=>NS a.n b.n (by first|omega|(simp only [Int.natAbs_neg];omega)) (by first|omega|(simp only [Int.natAbs_neg];omega)) w (OE (inS hw 3 O la)) (OE (inS hw 4 O lb))) O O O λg3 lg3=>OkE.back (sl (sl sr)) (OkE.imp O ?_))))
   refine cZ (S:=S) (x:=(x+y)) (args:=[(Value.bool (decide (x<0))),(CH g3)]) call193 (λw hw=>(Aw.cast (T:=λi=>ZX i) (LT hc0 hge) (Df (decide (x<0)) g3 w (inS hw 0 O lg3)))) O O O λg4 lg4=>OkE.back (sl (sl (sl sr))) (OkE.imp O (FN O sizeOf73 O (OkE.back (sl (sl (sl sr))) (OkE.nil ?_))))
   exact AC.subF (sL [2,3,4] O) (AC.then_ (AF.ret (AC.then_ret (AI O (Ap (i:=2) (cs:=DK g4) O O isAgg73 sizeOf73 O) (λw hw=>ED (a:=(g4:ZX (x+y))) hw (inS hw 0 O lg4) O)))))
  ·replace hc1:=of_decide_eq_false hc1
   have hge:¬y.natAbs<=x.natAbs:=by have:=(FF (a:=x.natAbs) (b:=y.natAbs)).1 Z;omega
   refine AF.skip (q1 (Cd [(0,true),(1,true),(2,true),(3,true),(4,true),(5,true),(6,false),(7,false),(8,false)] (sl sr) (Aq (v:=(pP b2 0)) O (AA O underlying73 O sizeOf4 O) (Bd 0 (Value.bool (decide (y<0))) Jt O (Aq (v:=(pP b2 1)) O (AA O underlying73 O sizeOf71 O) ?_)))))
   refine Bd 0 (CH b.n) Fi O (Aq (v:=(pP b1 1)) O (AA O underlying73 O sizeOf71 O) (Bd 1 (CH a.n) Fi O (OkE.imp O (cN (S:=S) (x:=(y.natAbs-x.natAbs)) (args:=[(CH b.n),(CH a.n)]) call197 (λw hw=>NS b.n a.n (by first|omega|(simp only [Int.natAbs_neg];omega)) (by first|omega|(simp only [Int.natAbs_neg];omega)) w (OE (inS hw 4 O lb)) (OE (inS hw 3 O la))) O O O λg5 lg5=>OkE.back (sl (sl sr)) ?_))))
   refine OkE.imp O (cZ (S:=S) (x:=(x+y)) (args:=[(Value.bool (decide (y<0))),(CH g5)]) call193 (λw hw=>(Aw.cast (T:=λi=>ZX i) (Lg hc0 hge) (Df (decide (y<0)) g5 w (inS hw 0 O lg5)))) O O O λg6 lg6=>OkE.back (sl (sl (sl sr))) (OkE.imp O (FN O sizeOf73 O (OkE.back (sl (sl (sl sr))) ?_))))
   exact OkE.nil (AC.subF (sL [2,3,4] O) (AC.then_ (AF.ret (AI O (Ap (i:=2) (cs:=DK g6) O O isAgg73 sizeOf73 O) (λw hw=>ED (a:=(g6:ZX (x+y))) hw (inS hw 0 O lg6) O)))))
theorem M0 {x y:Int} (a:ZX x) (b:ZX y) (hx:nw x.natAbs<=67108864) (hy:nw y.natAbs<=67108864) (w:World) {S:Nat->Prop} (ha:Ro S w a) (hb:Ro S w b)  :Calls prog 141 #[(aG (DK a)),(aG (DK b))] w (Aw (ZX (x*y)) S w):=by
 have la:=Cl (W:=w) ha
 have lb:=Cl (W:=w) hb
 refine Ah (args:=[(aG (DK a)),(aG (DK b))]) (L:=[Be a.n,Be b.n]) func141 O O (AT O) (YD ha (YD hb Ax)) (AF.subF (sL [0,1] O) (q4 (BU (cs:=DK a) O λb1=>BU (cs:=DK b) O λb2=>al Se O λb3=>?_)))
 refine q6 (sL [2,3,4] O) (Cd [(0,true),(1,true),(2,true),(3,true),(4,true),(5,true),(6,true),(7,true),(8,true),(9,false),(10,false),(11,false)] (sl sr) (Aq (v:=(pP b1 0)) O (AA O underlying73 O sizeOf4 O) (Bd 1 (Value.bool (decide (x<0))) Jt O (Aq (v:=(pP b2 0)) O (AA O underlying73 O sizeOf4 O) (Bd 0 (Value.bool (decide (y<0))) Jt O ?_)))))
 refine Aq O (JR (c:=(!(decide (x<0) == decide (y<0)))) O O underlying4 O) (Aq (v:=(pP b1 1)) O (AA O underlying73 O sizeOf71 O) (Bd 1 (CH a.n) Fi O (Aq (v:=(pP b2 1)) O (AA O underlying73 O sizeOf71 O) (Bd 0 (CH b.n) Fi O (OkE.imp O ?_)))))
 refine cN (S:=S) (x:=(x.natAbs*y.natAbs)) (args:=[(CH a.n),(CH b.n)]) call143 (λw hw=>Nt a.n b.n (by first|omega|(simp only [Int.natAbs_neg];omega)) (by first|omega|(simp only [Int.natAbs_neg];omega)) w (OE (inS hw 3 O la)) (OE (inS hw 4 O lb))) O O O λg1 lg1=>OkE.back (sl (sl sr)) (OkE.imp O (cZ (S:=S) (x:=(x*y)) (args:=[(Value.bool (!(decide (x<0) == decide (y<0)))),(CH g1)]) call193 (λw hw=>(Aw.cast (T:=λi=>ZX i) (Q6 x y) (Df (!(decide (x<0) == decide (y<0))) g1 w (inS hw 0 O lg1)))) O O O λg2 lg2=>OkE.back (sl (sl (sl sr))) (OkE.imp O ?_)))
 exact FN O sizeOf73 O (OkE.back (sl (sl (sl sr))) (OkE.nil (AC.subF (sL [4] O) (AC.then_ (AF.ret (AI O (Ap (i:=2) (cs:=DK g2) O O isAgg73 sizeOf73 O) (λw hw=>ED (a:=(g2:ZX (x*y))) hw (inS hw 0 O lg2) O)))))))
theorem O2 {x:Int} (a:ZX x) (hx:nw x.natAbs<=67108864) (w:World) {S:Nat->Prop} (ha:Ro S w a)  :Calls prog 133 #[(aG (DK a))] w (An w (Value.string (txB (Fz x)))):=by
 have la:=Cl (W:=w) ha
 refine Ah (args:=[(aG (DK a))]) (L:=[Be a.n]) func133 O O (AT O) (YD ha Ax) (AF.subF (sL [0] O) (q4 (BU (cs:=DK a) O λb1=>asg' O (q6 (sL [1,2] O) ?_))))
 refine q4 (AH (v:=(pP b1 0)) (AA O underlying73 O sizeOf4 O) O (BA 0 (Value.bool (decide (x<0))) Jt O (AE.nil (AC.subF (sL [1,2,4] O) (AC.then_ ?_)))))
 refine AF.cond O (λhc0=>?_) (λhc0=>?_)
 ·replace hc0:=of_decide_eq_true hc0
  have he:Fz x=45::Lib.decDigits x.natAbs:=by unfold Fz;rw [if_pos hc0]
  refine q4 (AH (v:=(pP b1 1)) (AA O underlying73 O sizeOf71 O) O (BA 0 (CH a.n) Fi O (Cj call134 (λw hw=>KH a.n (by first|omega|(simp only [Int.natAbs_neg];omega)) w (OE (inS hw 1 O la))) O (AH (v:=(Value.string (txB (45::Lib.decDigits x.natAbs)))) (Bz (r:=(txB (45::Lib.decDigits x.natAbs))) O O (by have:=QY x.natAbs;rw [Di];show 1+_<=_;omega) (Dn [45] _)) O (asg' O ?_)))))
  exact AE.nil (AC.subF (sL [1,2] O) (AC.then_ (AF.ret (AC.then_ret (AI O (AY (v:=(Value.string (txB (45::Lib.decDigits x.natAbs)))) O) (λw hw=>⟨by rw [he],hw.out⟩))))))
 ·replace hc0:=of_decide_eq_false hc0
  have he:Fz x=Lib.decDigits x.natAbs:=by unfold Fz;rw [if_neg hc0]
  refine AF.skip (q2 (AH (v:=(pP b1 1)) (AA O underlying73 O sizeOf71 O) O (BA 0 (CH a.n) Fi O (Cj call134 (λw hw=>KH a.n (by first|omega|(simp only [Int.natAbs_neg];omega)) w (OE (inS hw 1 O la))) O (asg' O ?_)))))
  exact AE.nil (AC.subF (sL [1,2] O) (AC.then_ (AF.ret (AI O (AY (v:=(Value.string (txB (Lib.decDigits x.natAbs)))) O) (λw hw=>⟨by rw [he],hw.out⟩)))))
end
theorem OO (n:Int):decide (n.sign<0)=decide (n<0):=by
  rcases Int.lt_trichotomy n 0 with h|h|h
  · rw [Int.sign_eq_neg_one_of_neg h];simp [h]
  · subst h;rfl
  · rw [Int.sign_eq_one_of_pos h];simp;omega
theorem UI {n:Int} {d:Nat} (hd:d≠0):D_ (decide (n<0)) (n.natAbs/Nat.gcd n.natAbs d)=(mkRat n d).num:=by rw [Ri hd,OO]
theorem VT {n:Int} {d:Nat} (hd:d≠0):d/Nat.gcd n.natAbs d-1=(mkRat n d).den-1:=by rw [Q7 hd]
theorem cR {b:Rat} (h:b≠0):mkRat (D_ (decide (b.num<0)) b.den) b.num.natAbs=b⁻¹:=by rw [<-Il h,OO]
theorem W5 {a b:Rat}:a*b⁻¹=a/b:=(Rat.div_def a b).symm
theorem VN {a b:Rat} (h:b.num.sign=0):(0:Rat)=a/b:=by
  have h1:b=0:=Rat.num_eq_zero.1 (Int.sign_eq_zero_iff_zero.1 h)
  rw [h1,Rat.div_def,Rat.inv_zero,Rat.mul_zero]
def FX.zero:FX 0:=⟨⟨NX.zero⟩,NX.zero⟩
theorem aC {x0:Pt} (f0:PX x0):Instr.fill (λi=>some (i*6,6)) ((Array.range (1*6)).map ((Value.agg (#[(Value.bool false),(Value.slice none 0 0),(Value.slice none 0 0),(Value.bool false),(Value.slice none 0 0),(Value.slice none 0 0)])).cells[·%(Value.agg (#[(Value.bool false),(Value.slice none 0 0),(Value.slice none 0 0),(Value.bool false),(Value.slice none 0 0),(Value.slice none 0 0)])).cells.size]!)) [(0,.agg (DE f0).toArray)]=some (DE f0).toArray:=by kernel_rfl
def N3 (q:Rat):List UInt8:=if q.den-1=0 then Fz q.num else Fz q.num++47::Lib.decDigits q.den
theorem W9 (z:Int):(Fz z).length<=10*nw z.natAbs+2:=by
  have:=QY z.natAbs
  unfold Fz;split<;>simp<;>omega
end Go.Proofs.YtpgncndhhhllfaaGreatDoor
