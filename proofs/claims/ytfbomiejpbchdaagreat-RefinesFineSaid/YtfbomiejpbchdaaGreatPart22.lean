import Derived.ChangeKeysEq
import Derived.Test.YtfbomiejpbchdaaGreatRows
import Derived.Test.YtfbomiejpbchdaaGreatPart06
import Derived.Test.YtfbomiejpbchdaaGreatPart08
import Derived.Test.YtfbomiejpbchdaaGreatPart19
import Derived.Test.YtfbomiejpbchdaaGreatPart20
import Derived.Test.YtfbomiejpbchdaaGreatPart21
namespace Go.Proofs.YtfbomiejpbchdaaGreat
open Go Go.RowKit
set_option linter.unusedVariables false
set_option linter.unusedSimpArgs false
section
set_option maxRecDepth 100000
def CV (x y z:Rat):Rat×Rat×Rat :=
 if y<x then (if z<x then (if z<y then (z,y,x) else (y,z,x)) else (y,x,z))
 else (if z<y then (if z<x then (z,x,y) else (x,z,y)) else (x,y,z))
theorem R2 (x y z:Rat):Ce x y z=AD (CV x y z).1++AD (CV x y z).2.1++AD (CV x y z).2.2:=by
 unfold Ce CV
 split<;>split<;>first|rfl|(split<;>rfl)
theorem TR (x y z:Rat) (k:Nat) (h:Sz x<=k/\Sz y<=k/\Sz z<=k):Sz (CV x y z).1<=k/\Sz (CV x y z).2.1<=k/\Sz (CV x y z).2.2<=k:=by
 obtain ⟨h1,h2,h3⟩:=h
 unfold CV
 split<;>split<;>first|exact ⟨by assumption,by assumption,by assumption⟩|(split<;>exact ⟨by assumption,by assumption,by assumption⟩)
theorem Di (x0:Rat) (x1:Rat) (x2:Rat):Instr.fill (λi=>some (i*5,5)) (AD (0:Rat)++AD (0:Rat)++AD (0:Rat)).toArray [(0,.agg (AD x0).toArray),(1,.agg (AD x1).toArray),(2,.agg (AD x2).toArray)]=some (AD x0++AD x1++AD x2).toArray:=by kernel_rfl
set_option maxHeartbeats 2000000 in
theorem TY (a b c:Pt) (hs:Bo a+Bo b+Bo c<=1048576) (h0:AQ a b c≠0) (h:(CV (Bx (b-a) (b-a)) (Bx (c-b) (c-b)) (Bx (a-c) (a-c))).2.2≠0) (w:World)  :Calls Tryz.prog 23 #[(aG (Ae a)),(aG (Ae b)),(aG (Ae c))] w (Am w (Value.tuple #[(aG (AD ((CV (Bx (b-a) (b-a)) (Bx (c-b) (c-b)) (Bx (a-c) (a-c))).1/(CV (Bx (b-a) (b-a)) (Bx (c-b) (c-b)) (Bx (a-c) (a-c))).2.2)++AD ((CV (Bx (b-a) (b-a)) (Bx (c-b) (c-b)) (Bx (a-c) (a-c))).2.1/(CV (Bx (b-a) (b-a)) (Bx (c-b) (c-b)) (Bx (a-c) (a-c))).2.2))),(vI 0)])):=by
 have hns:=WT h0
 obtain ⟨s,hs3⟩:∃s,s=CV (Bx (b-a) (b-a)) (Bx (c-b) (c-b)) (Bx (a-c) (a-c)):=⟨_,rfl⟩
 rw [<-hs3] at h
 have d1:=DN b a
 have d2:=DN c b
 have d3:=DN a c
 have qs1:=HV (b-a) (b-a)
 have qs2:=HV (c-b) (c-b)
 have qs3:=HV (a-c) (a-c)
 have s3z:=TR (Bx (b-a) (b-a)) (Bx (c-b) (c-b)) (Bx (a-c) (a-c)) 16777216 ⟨by omega,by omega,by omega⟩
 rw [<-hs3] at s3z
 obtain ⟨z1,z2,z3⟩:=s3z
 refine Ac (args:=[(aG (Ae a)),(aG (Ae b)),(aG (Ae c))]) Tryz.func23 rfl rfl (Ad rfl) (AG.subF (sL [0,1,2] rfl) (q4 (Bl (cs:=Ae a) rfl λb1=>Bl (cs:=Ae b) rfl λb2=>Bl (cs:=Ae c) rfl λb3=>?_)))
 refine al Vl rfl λb4=>AK rfl (q6 (sL [3,4,5,6,7] rfl) (q4 (A7 3 BC rfl (A7 2 BC rfl ?_))))
 refine A7 1 BC rfl ?_
 have hz1:=C_ a b c
 refine BU Tryz.call64 (DW a b c (by omega)) rfl (BU Tryz.call63 (EQ (AQ a b c)) rfl (AJ (Be (c:=(decide (((AQ a b c).num.sign)=(0:Int)))) rfl rfl rfl) rfl (AF.nil (AC.subF (sL [3,4,5,6,7,16] rfl) (AC.then_ ?_)))))
 refine AG.cond rfl (λhc0=>?_) (λhc0=>?_)
 ·replace hc0:=of_decide_eq_true hc0
  exact absurd hc0 hns
 ·replace hc0:=of_decide_eq_false hc0
  refine AG.skip (q1 (rN [(0,true),(1,true),(3,true),(4,true),(6,true),(7,true),(2,false),(5,false),(8,false),(9,true)] [⟨10,8,123,AD (0:Rat)++AD (0:Rat)++AD (0:Rat)⟩] [(11,false)] sr (by kernel_rfl) (λ_ _ d _ _ h=>by cases d<;>exact h) (Fs rfl rfl K5 rfl (H2)) rfl (Gp 3 BC rfl (Gp 2 BC rfl (Gp 2 BC rfl ?_)))))
  refine Gp 1 BC rfl (Gp 1 BC rfl (Gp 3 BC rfl (CH.imp rfl λEF EL=>?_)))
  have hz2:=DN b a
  have hz3:=HV (b-a) (b-a)
  refine BU Tryz.call32 (He a b (by omega)) rfl (CH.back0 sr rfl (CH.imp rfl λEF EL=>?_))
  have hz4:=DN c b
  have hz5:=HV (c-b) (c-b)
  refine BU Tryz.call32 (He b c (by omega)) rfl (CH.back0 sr rfl (CH.imp rfl λEF EL=>?_))
  have hz6:=DN a c
  have hz7:=HV (a-c) (a-c)
  refine BU Tryz.call32 (He c a (by omega)) rfl (CH.back0 sr rfl (Gb (v:=(aG (AD (Bx (b-a) (b-a))++AD (Bx (c-b) (c-b))++AD (Bx (a-c) (a-c))))) rfl (An (zs:=AD (0:Rat)++AD (0:Rat)++AD (0:Rat)) (vs:=AD (Bx (b-a) (b-a))++AD (Bx (c-b) (c-b))++AD (Bx (a-c) (a-c))) (pv:=[(0,(aG (AD (Bx (b-a) (b-a))))),(1,(aG (AD (Bx (c-b) (c-b))))),(2,(aG (AD (Bx (a-c) (a-c)))))]) Tryz.zeroValue123 Tryz.underlying123 Tryz.sizeOf53 rfl (Di (Bx (b-a) (b-a)) (Bx (c-b) (c-b)) (Bx (a-c) (a-c)))) rfl (CH.news1 λb5=>AS.imp rfl (Ap rfl Tryz.sizeOf123 rfl ?_))))
  refine AS.back (sl sr) (AS.nil (AC.subF (sL [3,4,5,6,7,8] rfl) (q2 (AJ (v:=(Value.slice (some ⟨b5,0,none⟩) 3 3)) (Dx rfl Tryz.underlying123 Tryz.sizeOf53 (by decide)) rfl (AF.callM (v:=(Value.tuple #[])) (i:=0) (cs':=AD s.1++AD s.2.1++AD s.2.2) (L':=[Ah b5 123 (AD s.1++AD s.2.1++AD s.2.2),Ah b4 64 (AD (0:Rat)++AD (0:Rat)),Ah b3 55 (Ae c),Ah b2 55 (Ae b),Ah b1 55 (Ae a)]) (AN rfl) (Aq (args:=[(Value.slice (some ⟨b5,0,none⟩) 3 3),(Value.func (.func 33) #[] #[])]) rfl rfl Tryz.call65) rfl (λw hw=>(by have h9:=Wg (Bx (b-a) (b-a)) (Bx (c-b) (c-b)) (Bx (a-c) (a-c)) _ (by omega) w (hw.get (i:=0) rfl);rwa [R2,<-hs3] at h9)) (λd hd=>by cases hd<;>exact (Ad rfl)) rfl ?_)))))
  refine q3 (sL [3,4,5,6,7,8] rfl) (al Vl rfl λb6=>AF.nil (q1 (q4 (AO rfl ?_))))
  refine AF.nil (AC.then_ (AG.block (AG.unroll 4 (Dr.step (q4 ?_)))))
  refine AJ (Af (c:=true) rfl rfl (by decide)) rfl (AF.nil (q1 (AG.cond_true rfl (AG.skip (q1 ?_)))))
  refine AG.block (q4 (AO rfl (AK rfl (AF.nil (AC.subF (sL [3,4,5,6,7,8,9,30,10] rfl) ?_)))))
  refine AC.then_ (Cq [(0,true),(1,true),(2,true),(3,true),(4,true),(5,true),(6,false),(7,true),(8,true),(9,true),(10,true),(11,false)] (sl sr) (Bc rfl (Bc rfl (Av (v:=(pP b5 0)) rfl (AE (j:=0) rfl rfl Tryz.underlying123 Tryz.sizeOf53 rfl (by decide) rfl) (Fk 0 (AD s.1) BO rfl ?_)))))
  refine Av (v:=(pP b5 10)) rfl (AE (j:=2) rfl rfl Tryz.underlying123 Tryz.sizeOf53 rfl (by decide) rfl) (Fk 0 (AD s.2.2) BO rfl (AS.imp rfl ?_))
  have hz8:=Ho (a:=s.1) (b:=s.2.2) (by assumption)
  refine BU Tryz.call66 (G3 s.1 s.2.2 (by omega) (by assumption)) rfl (AS.back (sl sr) (Bc rfl (Av rfl (AT (v:=(aG (AD (s.1/s.2.2)))) rfl rfl) (Av rfl (AT (v:=(vI 0)) rfl rfl) (Av (v:=(pP b6 0)) rfl (AE (j:=0) rfl rfl Tryz.underlying64 Tryz.sizeOf53 rfl (by decide) rfl) ?_)))))
  refine AS.imp rfl (GK 0 (off:=0) (vs:=AD (s.1/s.2.2)) (cs':=AD (s.1/s.2.2)++AD (0:Rat)) (AN rfl) rfl Tryz.sizeOf53 rfl (AS.back (sl sr) (AS.nil (AC.subF (sL [3,4,5,6,7,8,9,30] rfl) (AC.in_normal ?_)))))
  refine AC.then_ (AG.region (AJ (AX (c:=(1:Int)) rfl rfl (by decide)) rfl (AO rfl (AF.nil (AC.subF (sL [3,4,5,6,7,8,9,30] rfl) ?_)))))
  refine AC.again (Dr.step (q4 (AJ (Af (c:=true) rfl rfl (by decide)) rfl (AF.nil (q1 ?_)))))
  refine AG.cond_true rfl (AG.skip (q1 (AG.block (q4 (AO rfl ?_)))))
  refine AK rfl (AF.nil (AC.subF (sL [3,4,5,6,7,8,9,30,10] rfl) (AC.then_ (Cq [(0,true),(1,true),(2,true),(3,true),(4,true),(5,true),(6,false),(7,true),(8,true),(9,true),(10,true),(11,false)] (sl sr) (Bc rfl ?_)))))
  refine Bc rfl (Av (v:=(pP b5 5)) rfl (AE (j:=1) rfl rfl Tryz.underlying123 Tryz.sizeOf53 rfl (by decide) rfl) (Fk 0 (AD s.2.1) BO rfl (Av (v:=(pP b5 10)) rfl (AE (j:=2) rfl rfl Tryz.underlying123 Tryz.sizeOf53 rfl (by decide) rfl) (Fk 0 (AD s.2.2) BO rfl (AS.imp rfl ?_)))))
  have hz9:=Ho (a:=s.2.1) (b:=s.2.2) (by assumption)
  refine BU Tryz.call66 (G3 s.2.1 s.2.2 (by omega) (by assumption)) rfl (AS.back (sl sr) (Bc rfl (Av rfl (AT (v:=(aG (AD (s.2.1/s.2.2)))) rfl rfl) (Av rfl (AT (v:=(vI 0)) rfl rfl) (Av (v:=(pP b6 5)) rfl (AE (j:=1) rfl rfl Tryz.underlying64 Tryz.sizeOf53 rfl (by decide) rfl) ?_)))))
  refine AS.imp rfl (GK 0 (off:=5) (vs:=AD (s.2.1/s.2.2)) (cs':=AD (s.1/s.2.2)++AD (s.2.1/s.2.2)) (AN rfl) rfl Tryz.sizeOf53 rfl (AS.back (sl sr) (AS.nil (AC.subF (sL [3,4,5,6,7,8,9,30] rfl) (AC.in_normal ?_)))))
  refine AC.then_ (AG.region (AJ (AX (c:=(2:Int)) rfl rfl (by decide)) rfl (AO rfl (AF.nil (AC.subF (sL [3,4,5,6,7,8,9,30] rfl) ?_)))))
  refine AC.again (Dr.step (q4 (AJ (Af (c:=false) rfl rfl (by decide)) rfl (AF.nil (q1 ?_)))))
  refine AG.cond_false rfl (AG.exit (AC.then_exit (AC.then_exit (AC.in_exit (q2 ?_)))))
  refine A7 0 UO rfl (L4 rfl Tryz.sizeOf64 rfl (AK rfl (AF.nil (AC.subF (sL [3,4,5,6,7,8,9,30] rfl) (AC.then_ ?_)))))
  exact AG.ret (Ct rfl (Ay (i:=2) (cs:=AD (s.1/s.2.2)++AD (s.2.1/s.2.2)) rfl rfl Tryz.isAgg64 Tryz.sizeOf64 rfl) (Ai (v:=(vI 0)) rfl) (λw hw=>⟨by rw [<-hs3],hw.out⟩))
end
section
section
variable {P:Program} {n:Nat} {F:List (Nat×Value)} {w0:BP} {L:List As} {v:Value} {x lo hi:Operand} {d:Option Tmp} {t:TypeId} {p:String} {af:Array Edge} {g:Option (Nat×Bool)}
end
end
section
set_option maxRecDepth 100000
end
theorem QR (a b:Pt):(a+b).x=a.x+b.x:=rfl
theorem Ql (a b:Pt):(a+b).y=a.y+b.y:=rfl
theorem Qf (a b:Pt):(a-b).x=a.x-b.x:=rfl
theorem Qc (a b:Pt):(a-b).y=a.y-b.y:=rfl
theorem NC (a:Pt) (k:Rat):(CS a k).x=a.x*k:=rfl
theorem NW (a:Pt) (k:Rat):(CS a k).y=a.y*k:=rfl
theorem Cb (a b c:Pt):AQ a b c=(b.x-a.x)*(c.y-a.y)-(b.y-a.y)*(c.x-a.x):=rfl
theorem Mp (a b:Pt):Bx a b=a.x*b.x+a.y*b.y:=rfl
theorem ZA (a b:Rat):a<b\/a=b\/b<a:=by grind
theorem Qj {q:Rat} (h:q<0):q.num.sign = -1:=by
  have h1:¬0<=q.num:=λe=>by have:=Rat.num_nonneg.1 e;grind
  exact Int.sign_eq_neg_one_of_neg (by omega)
theorem M1 {q:Rat} (h:0<q):q.num.sign=1:=by
  have h1:0<=q.num:=Rat.num_nonneg.2 (by grind)
  have h2:q.num≠0:=λe=>by have:=Rat.num_eq_zero.1 e;grind
  exact Int.sign_eq_one_of_pos (by omega)
theorem Nh {q:Rat} (h:q=0):q.num.sign=0:=by subst h;rfl
theorem Oa (k x y z:Rat) (hk:0<k):CV (k*x) (k*y) (k*z)=(k*(CV x y z).1,k*(CV x y z).2.1,k*(CV x y z).2.2):=by
  have e:∀u v:Rat,(k*u<k*v)=(u<v):=λu v=>by
    refine propext ⟨λh=>?_,λh=>?_⟩
    · rcases ZA u v with h1|h1|h1
      · exact h1
      · subst h1;grind
      · have:=Rat.mul_pos hk (b:=u-v) (by grind);grind
    · have:=Rat.mul_pos hk (b:=v-u) (by grind);grind
  unfold CV
  simp only [e]
  split<;>split<;>first|rfl|(split<;>rfl)
theorem PK (x y z:Rat):CV y z x=CV x y z:=by
  unfold CV
  grind
theorem TK (x y z:Rat):(CV x y z).1<=(CV x y z).2.1/\(CV x y z).2.1<=(CV x y z).2.2:=by
  unfold CV
  grind
theorem RC {x y z:Rat} (hx:0<x) (hy:0<y) (hz:0<z):0<(CV x y z).1:=by
  unfold CV
  grind
theorem MH (x:Rat):0<=x*x:=by
  rcases ZA x 0 with h|h|h
  · have:=Rat.mul_pos (a := -x) (b := -x) (by grind) (by grind);grind
  · subst h;grind
  · have:=Rat.mul_pos h h;grind
theorem WH {p:Pt} (h:p.x≠0\/p.y≠0):0<Bx p p:=by
  have h1:=MH p.x
  have h2:=MH p.y
  rw [Mp]
  rcases h with h|h
  · have h3:p.x*p.x≠0:=λe=>by rcases Rat.mul_eq_zero.1 e with e|e<;>exact h e
    grind
  · have h3:p.y*p.y≠0:=λe=>by rcases Rat.mul_eq_zero.1 e with e|e<;>exact h e
    grind
theorem LF {a b c:Pt} (h:AQ a b c≠0):0<Bx (b-a) (b-a):=by
  refine WH ?_
  apply Classical.byContradiction
  intro e
  refine h ?_
  have h1:(b-a).x=0:=Classical.byContradiction λk=>e (.inl k)
  have h2:(b-a).y=0:=Classical.byContradiction λk=>e (.inr k)
  show (b-a).x*(c-a).y-(b-a).y*(c-a).x=0
  rw [h1,h2];grind
theorem D4 (a b c:Pt):AQ b c a=AQ a b c:=by simp only [Cb];grind
theorem Rj {a b c:Pt} (h:AQ a b c≠0):0<Bx (b-a) (b-a)/\0<Bx (c-b) (c-b)/\0<Bx (a-c) (a-c) :=
  ⟨LF h,LF (c:=a) (by rw [D4];exact h),LF (c:=b) (by rw [D4,D4];exact h)⟩
def Aw (a b c:Pt):Rat×Rat×Rat:=CV (Bx (b-a) (b-a)) (Bx (c-b) (c-b)) (Bx (a-c) (a-c))
theorem Q6 {a b c:Pt} (h:AQ a b c≠0):0<(Aw a b c).1/\(Aw a b c).1<=(Aw a b c).2.1/\(Aw a b c).2.1<=(Aw a b c).2.2:=by
  obtain ⟨h1,h2,h3⟩:=Rj h
  exact ⟨RC h1 h2 h3,TK _ _ _⟩
theorem ML {k s t:Rat} (hk:k≠0):k*s/(k*t)=s/t:=by
  by_cases ht:t=0
  · subst ht;rw [Rat.mul_zero];simp [Rat.div_def]
  · grind
theorem IJ {a b c a' b' c':Pt} {k:Rat} (hk:0<k) (h1:Bx (b'-a') (b'-a')=k*Bx (b-a) (b-a)) (h2:Bx (c'-b') (c'-b')=k*Bx (c-b) (c-b)) (h3:Bx (a'-c') (a'-c')=k*Bx (a-c) (a-c)) :
    (Aw a' b' c').1/(Aw a' b' c').2.2=(Aw a b c).1/(Aw a b c).2.2/\(Aw a' b' c').2.1/(Aw a' b' c').2.2=(Aw a b c).2.1/(Aw a b c).2.2:=by
  have e:Aw a' b' c'=(k*(Aw a b c).1,k*(Aw a b c).2.1,k*(Aw a b c).2.2):=by
    unfold Aw;rw [h1,h2,h3,Oa _ _ _ _ hk]
  have hk0:k≠0:=by grind
  rw [e]
  exact ⟨ML hk0,ML hk0⟩
theorem Od (a b c:Pt):Aw b c a=Aw a b c:=PK _ _ _
def ng (q:Rat):Nat:=if q.num.sign<0 then 1 else 0
section
theorem VY (a b:Int):(decide (a.natAbs=b.natAbs)&&((decide (a<0) == decide (b<0))&&true))=decide (a=b):=by
  by_cases e:a=b
  · subst e;simp
  · rw [decide_eq_false e]
    by_cases h1:a<0<;>by_cases h2:b<0<;>simp [h1,h2]<;>omega
theorem W0 (D:Nat) (a b:Int):Ee Tryz.prog (D+4) 51 (.agg (BG a).toArray) (.agg (BG b).toArray) (decide (a=b)):=by
  rw [<-VY]
  exact Ee.struct Tryz.underlying51 Tryz.stoodInHeld51 (If.agg (us:=AZ a.natAbs) (bs:=AZ b.natAbs) (by decide) Tryz.isAgg49 Tryz.sizeOf49 rfl rfl (OW D _ _) (If.one (by decide) Tryz.isAgg4 rfl rfl (Ee.bool Tryz.underlying4) If.nil))
theorem Tf (a b:Rat):(decide (a.num=b.num)&&(decide (a.den-1=b.den-1)&&true))=decide (a=b):=by
  by_cases e:a=b
  · subst e;simp
  · rw [decide_eq_false e]
    have h1:=a.den_pos
    have h2:=b.den_pos
    simp only [Bool.and_true,Bool.and_eq_false_iff,decide_eq_false_iff_not]
    apply Classical.byContradiction
    intro h
    refine e (Rat.ext ?_ ?_)
    · exact Classical.byContradiction λk=>h (.inl k)
    · exact Classical.byContradiction λk=>h (.inr (by omega))
theorem Gk (D:Nat) (a b:Rat):Ee Tryz.prog (D+5) 53 (.agg (AD a).toArray) (.agg (AD b).toArray) (decide (a=b)):=by
  rw [<-Tf]
  exact Ee.struct Tryz.underlying53 Tryz.stoodInHeld53 (If.agg (us:=BG a.num) (bs:=BG b.num) (by decide) Tryz.isAgg51 Tryz.sizeOf51 rfl rfl (W0 D _ _) (If.agg (us:=AZ (a.den-1)) (bs:=AZ (b.den-1)) (by decide) Tryz.isAgg47 Tryz.sizeOf47 rfl rfl (G1 (D+2) _ _) If.nil))
instance:DecidableEq Pt:=λa b=>decidable_of_iff (a.x=b.x/\a.y=b.y) ⟨λh=>Pt.ext h.1 h.2,λh=>h▸⟨rfl,rfl⟩⟩
theorem YE (a b:Pt):(decide (a.x=b.x)&&(decide (a.y=b.y)&&true))=decide (a=b):=by
  by_cases e:a=b
  · subst e;simp
  · rw [decide_eq_false e]
    simp only [Bool.and_true,Bool.and_eq_false_iff,decide_eq_false_iff_not]
    apply Classical.byContradiction
    intro h
    refine e (Pt.ext ?_ ?_)
    · exact Classical.byContradiction λk=>h (.inl k)
    · exact Classical.byContradiction λk=>h (.inr k)
theorem Tv (D:Nat) (a b:Pt):Ee Tryz.prog (D+6) 55 (.agg (Ae a).toArray) (.agg (Ae b).toArray) (decide (a=b)):=by
  rw [<-YE]
  exact Ee.struct Tryz.underlying55 Tryz.stoodInHeld55 (If.agg (us:=AD a.x) (bs:=AD b.x) (by decide) Tryz.isAgg53 Tryz.sizeOf53 rfl rfl (Gk D _ _) (If.agg (us:=AD a.y) (bs:=AD b.y) (by decide) Tryz.isAgg53 Tryz.sizeOf53 rfl rfl (Gk D _ _) If.nil))
section
variable {P:Program}
def Mx (P:Program) (D:Nat) (e:TypeId) (c:Nat) (xs ys:List Value) (is:List Nat) (b:Bool):Prop:=∀w,(Go.Op.eqItems D e c xs.toArray ys.toArray is).run P w=.ok b w
theorem Mx.nil {D c:Nat} {e:TypeId} {xs ys:List Value}:Mx P D e c xs ys [] true:=λw=>rfl
theorem Mx.cons {D c i:Nat} {e:TypeId} {is:List Nat} {xs ys us bs:List Value} {r s:Bool} (hg:∀w,(isAgg e).run P w=.ok true w) (hs:∀w,(sizeOf e).run P w=.ok c w)
    (ha:(xs.drop (i*c)).take c=us) (hb:(ys.drop (i*c)).take c=bs) (h:Ee P D e (.agg us.toArray) (.agg bs.toArray) r) (h2:Mx P D e c xs ys is s):Mx P D e c xs ys (i::is) (r&&s):=λw=>by
  have ex:∀l:List Value,l.toArray.extract (i*c) (i*c+c)=((l.drop (i*c)).take c).toArray:=λl=>by simp [List.extract_eq_take_drop]
  have e1:(part e xs.toArray (i*c)).run P w=.ok (.agg us.toArray) w:=by simp [part,hg,hs,ex,ha]
  have e2:(part e ys.toArray (i*c)).run P w=.ok (.agg bs.toArray) w:=by simp [part,hg,hs,ex,hb]
  simp only [Go.Op.eqItems,Sem.run_bind,e1,e2,Result.andThen_ok,h w]
  cases r
  · simp
  · simp [h2 w]
theorem Ee.array {D n c:Nat} {T e:TypeId} {xs ys:List Value} {b:Bool} (hu:P.underlying T=some (.array n e)) (hi:∃i,P.info? e=some i) (hc:P.cellsOf e=c) (h:Mx P D e c xs ys (List.range n) b) :
    Ee P (D+1) T (.agg xs.toArray) (.agg ys.toArray) b:=λw=>by
  obtain ⟨i,hi⟩:=hi
  rw [Go.run_equalIn_array w D xs.toArray ys.toArray hu hi,hc]
  exact h w
end
theorem R7:∃i,Tryz.prog.info? 53=some i:=Option.isSome_iff_exists.1 (by kernel_rfl)
theorem Pb:Tryz.prog.cellsOf 53=5:=by kernel_rfl
theorem Q9 (D:Nat) (a b a' b':Rat):Ee Tryz.prog (D+6) 64 (.agg (AD a++AD b).toArray) (.agg (AD a'++AD b').toArray) (decide (a=a')&&(decide (b=b')&&true)) :=
  Ee.array Tryz.underlying64 R7 Pb (Mx.cons Tryz.isAgg53 Tryz.sizeOf53 rfl rfl (Gk D _ _) (Mx.cons Tryz.isAgg53 Tryz.sizeOf53 rfl rfl (Gk D _ _) Mx.nil))
theorem Kz (D:Nat) {a b:Rat} (h:a=b):Ee Tryz.prog (D+5) 53 (.agg (AD a).toArray) (.agg (AD b).toArray) true:=by
  have:=Gk D a b;rwa [decide_eq_true h] at this
theorem H0 (D:Nat) {a b:Pt} (h:a=b):Ee Tryz.prog (D+6) 55 (.agg (Ae a).toArray) (.agg (Ae b).toArray) true:=by
  have:=Tv D a b;rwa [decide_eq_true h] at this
theorem Np (D:Nat) {a b a' b':Rat} (h:a=a'/\b=b'):Ee Tryz.prog (D+6) 64 (.agg (AD a++AD b).toArray) (.agg (AD a'++AD b').toArray) true:=by
  have:=Q9 D a b a' b';rwa [decide_eq_true h.1,decide_eq_true h.2] at this
section
variable {P:Program} {n:Nat} {F:List (Nat×Value)} {w0:BP} {L:List As} {x y:Operand} {d:Option Tmp} {t:TypeId} {p:String} {af:Array Edge} {g:Option (Nat×Bool)}
theorem Eo {xs ys:List Value} {tx ty:TypeId} (hx:evF F x=some (.agg xs.toArray)) (hy:evF F y=some (.agg ys.toArray)) (hg:P.eqGuardType P.depth tx=false) (hc:Ee P 10000 tx (.agg xs.toArray) (.agg ys.toArray) true) :
    Ex P n F w0 L ⟨d,.binOp .neq tx x y ty,t,p,af,g⟩ (.bool false):=Oi hx hy hg hc
end
end
section
structure QD where
  n:Int
  d:Nat
structure PD where
  x:QD
  y:QD
def Xa (q:QD):List Value:=[.int .i64 q.n,.int .u32 (q.d:Nat)]
def Zl (p:PD):List Value:=Xa p.x++Xa p.y
def QD.ok (q:QD):Prop := -9223372036854775808<=q.n/\q.n<9223372036854775808/\q.d<4294967296
def PD.ok (p:PD):Prop:=p.x.ok/\p.y.ok
def Ng (q:QD):Rat:=((q.n:Int):Rat)/(((max q.d 1:Nat):Int):Rat)
def CJ (p:PD):Pt:=⟨Ng p.x,Ng p.y⟩
theorem UA {q:QD} (h:q.ok):Sz (Ng q)<=4:=by
  obtain ⟨h1,h2,h3⟩:=h
  have s1:=KH h1 h2
  have s2:=KH (z:=((max q.d 1:Nat):Int)) (by omega) (by omega)
  have hb:(((max q.d 1:Nat):Int):Rat)≠0:=λe=>by
    have:((max q.d 1:Nat):Int)=0:=by exact_mod_cast e
    omega
  have:=Ho (a:=((q.n:Int):Rat)) hb
  unfold Ng
  omega
theorem SN {p:PD} (h:p.ok):Bo (CJ p)<=4:=MZ (UA h.1) (UA h.2)
section
variable {P:Program} {w:World} {r:Reach} {base:Nat}
end
section
variable {P:Program} {w:World} {r:Reach} {base:Nat} {t:TypeId} {v:Value} {ts:List TypeId}
end
end
section
def rowsL {α:Type} (enc:α->List Value) (xs:List α):List Value:=xs.flatMap enc
section
variable {α:Type} {enc:α->List Value} {z:Nat}
theorem BW (xs ys:List α):rowsL enc (xs++ys)=rowsL enc xs++rowsL enc ys:=by simp [rowsL]
theorem Ak (h:∀x,(enc x).length=z) (xs:List α):(rowsL enc xs).length=xs.length*z:=by
  induction xs with
  | nil=>simp [rowsL]
  | cons x r ih =>
    have e:rowsL enc (x::r)=enc x++rowsL enc r:=rfl
    rw [e,List.length_append,ih,h,List.length_cons,Nat.add_mul];omega
theorem Au (h:∀x,(enc x).length=z) (d:α):∀(xs:List α) (j:Nat),j<xs.length->((rowsL enc xs).drop (j*z)).take z=enc (xs.getD j d)
  | x::r,0,_=>by
    have e:rowsL enc (x::r)=enc x++rowsL enc r:=rfl
    rw [e,Nat.zero_mul,List.drop_zero,List.take_append_of_le_length (by rw [h];exact Nat.le_refl _),List.take_of_length_le (by rw [h];exact Nat.le_refl _)];rfl
  | x::r,j+1,hj=>by
    have e:rowsL enc (x::r)=enc x++rowsL enc r:=rfl
    rw [e,show (j+1)*z=(enc x).length+j*z by rw [h,Nat.add_mul];omega,List.drop_append,List.drop_of_length_le (by omega),Nat.add_sub_cancel_left,List.nil_append,Au h d r j (by simpa using hj)];rfl
end
structure RX (cs:List Value) (n:Nat) where
  p:Option Addr
  c:Nat
  ok:BQ p n c
@[reducible] def RX.val {cs:List Value} {n:Nat} (a:RX cs n):Value:=.slice a.p n a.c
@[reducible] def RX.row {cs:List Value} {n:Nat} (a:RX cs n):As:=Ag a.p cs
instance {cs:List Value} {n:Nat}:D9 (RX cs n):=⟨λa=>.slice a.p n a.c,λa=>[Ag a.p cs],λa y hy=>by rcases List.mem_singleton.1 hy with rfl;rfl⟩
theorem Zj {S:Nat->Prop} {W w:World} {L:List As} (hw:BR ⟨W,none⟩ w L) (i:Nat) {p:Option Addr} {T:TypeId} {z n c:Nat} {cs:List Value} (hi:L[i]?=some (rowW p T z n c cs)) (ho:OwnOk p n c) (hl:cs.length=n*z) {v:Value} (hv:v=.slice p n c):Bp (RX cs n) S W (.returned v) w:=by
  have hb:=hw.newRow hi
  refine ⟨⟨p,c,ho.row⟩,by rw [hv];rfl,hw.out,λy hy=>?_⟩
  rcases List.mem_singleton.1 hy with rfl
  refine ⟨λd e=>?_,λd e=>.inl (hb d e)⟩
  obtain ⟨_,o,ho2,hp⟩:=hw.2.1 _ (List.mem_of_getElem? hi) d e
  exact ⟨o,ho2,DK ho hl hp⟩
def C8 (xs:List Nat):List Value:=xs.map λx=>Value.int .u8 (x:Nat)
theorem Sr {xs:List Nat} {j:Nat} (h:j<xs.length):(C8 xs)[j*1]?=some (.int .u8 ((xs.getD j 0:Nat):Int)):=by rw [Nat.mul_one];simp [C8,h]
structure MQ where
  nx:Nat
  ny:Nat
  cs:List Nat
  p:Option Addr
  cap:Nat
  a:Int
  b:Int
  c:Int
  d:Int
  den:Nat
  fst:Nat
  hx:nx<256
  hy:ny<256
  ha:-128<=a/\a<=127
  hb:-128<=b/\b<=127
  hc:-128<=c/\c<=127
  hd:-128<=d/\d<=127
  hden:den<256
  hfst:fst<256
  hcs:∀x∈cs,x<256
  ok:BQ p cs.length cap
def Eu (m:MQ):List Value:=[.int .u8 m.nx,.int .u8 m.ny,.slice m.p m.cs.length m.cap,.int .i8 m.a,.int .i8 m.b,.int .i8 m.c,.int .i8 m.d,.int .u8 m.den,.int .u8 m.fst]
instance:D9 MQ:=⟨λm=>aG (Eu m),λm=>[Ag m.p (C8 m.cs)],λa y hy=>by rcases List.mem_singleton.1 hy with rfl;rfl⟩
theorem NM {a b:Nat} (h:a<256):IntKind.u8.wrap ((a:Int).tdiv (b:Int))=((a/b:Nat):Int):=by
  have:a/b<=a:=Nat.div_le_self _ _
  rw [<-Int.ofNat_tdiv]
  generalize a/b=q at *
  exact NL (by omega) (by omega)
theorem Wr {a b:Nat} (h:a+b<256):IntKind.u8.wrap ((a:Int)+(b:Int))=((a+b:Nat):Int):=by rw [NL (by omega) (by omega)];omega
abbrev P2:=Nat×Nat
def Co (nx way i:Nat):List (P2×P2×P2) :=
  let x:=2*(i%nx);let y:=2*(i/nx)
  if way<3\/(way=7/\i=0) then [((x,y),(x+2,y),(x+2,y+2)),((x,y),(x+2,y+2),(x,y+2))]
  else if way<5 then [((x,y),(x+2,y),(x,y+2)),((x+2,y),(x+2,y+2),(x,y+2))]
  else if way<7 then [((x,y),(x+2,y),(x+1,y+1)),((x+2,y),(x+2,y+2),(x+1,y+1)),((x+2,y+2),(x,y+2),(x+1,y+1)),((x,y+2),(x,y),(x+1,y+1))] else []
def Bu (p q r:P2):Int:=((q.1:Int)-p.1)*((r.2:Int)-p.2)-((q.2:Int)-p.2)*((r.1:Int)-p.1)
def P0 (t:P2×P2×P2):Prop:=0<Bu t.1 t.2.1 t.2.2/\(t.1.1<=6/\t.1.2<=6)/\(t.2.1.1<=6/\t.2.1.2<=6)/\(t.2.2.1<=6/\t.2.2.2<=6)
theorem UV {nx ny way i:Nat} (hx:nx<=3) (hy:ny<=3) (hi:i<nx*ny):∀t∈Co nx way i,P0 t:=by
  have h1:i%nx<=2:=by
    have:nx≠0:=λe=>by subst e;omega
    have:=Nat.mod_lt i (show 0<nx by omega)
    omega
  have h2:i/nx<=2:=by
    have:i/nx<ny:=Nat.div_lt_of_lt_mul (by rwa [Nat.mul_comm] at hi ⊢)
    omega
  intro t ht
  unfold Co at ht
  generalize i%nx=u at *
  generalize i/nx=v at *
  have key:∀t:P2×P2×P2,t∈[((2*u,2*v),(2*u+2,2*v),(2*u+2,2*v+2)),((2*u,2*v),(2*u+2,2*v+2),(2*u,2*v+2)),((2*u,2*v),(2*u+2,2*v),(2*u,2*v+2)),((2*u+2,2*v),(2*u+2,2*v+2),(2*u,2*v+2)),
      ((2*u,2*v),(2*u+2,2*v),(2*u+1,2*v+1)),((2*u+2,2*v),(2*u+2,2*v+2),(2*u+1,2*v+1)),((2*u+2,2*v+2),(2*u,2*v+2),(2*u+1,2*v+1)),((2*u,2*v+2),(2*u,2*v),(2*u+1,2*v+1))]->P0 t:=by
    intro t ht
    simp only [List.mem_cons,List.not_mem_nil,or_false] at ht
    rcases ht with rfl|rfl|rfl|rfl|rfl|rfl|rfl|rfl<;>refine ⟨?_,⟨?_,?_⟩,⟨?_,?_⟩,?_,?_⟩<;>dsimp only [Bu]<;>first|omega|grind
  refine key t ?_
  simp only at ht
  split at ht
  · simp only [List.mem_cons,List.not_mem_nil,or_false] at ht ⊢;rcases ht with h|h<;>simp [h]
  · split at ht
    · simp only [List.mem_cons,List.not_mem_nil,or_false] at ht ⊢;rcases ht with h|h<;>simp [h]
    · split at ht
      · simp only [List.mem_cons,List.not_mem_nil,or_false] at ht ⊢;rcases ht with h|h|h|h<;>simp [h]
      · cases ht
theorem Qu (nx way i:Nat):(Co nx way i).length<=4:=by
  unfold Co;simp only;split
  · simp
  · split
    · simp
    · split<;>simp
theorem N0 (nx way:Nat) (h:way<8):Co nx way 0≠[]:=by
  unfold Co;simp only;split
  · simp
  · split
    · simp
    · split
      · simp
      · rename_i h1 h2 h3;simp only [and_true,not_or] at h1;omega
section
variable {nx way i u v:Nat}
theorem W7 (hu:u=i%nx) (hv:v=i/nx) (h:way<3\/(way=7/\i=0)):Co nx way i=[((2*u,2*v),(2*u+2,2*v),(2*u+2,2*v+2)),((2*u,2*v),(2*u+2,2*v+2),(2*u,2*v+2))]:=by
  subst hu;subst hv;exact if_pos h
theorem WN (hu:u=i%nx) (hv:v=i/nx) (h0:¬(way<3\/(way=7/\i=0))) (h:way<5):Co nx way i=[((2*u,2*v),(2*u+2,2*v),(2*u,2*v+2)),((2*u+2,2*v),(2*u+2,2*v+2),(2*u,2*v+2))]:=by
  subst hu;subst hv;exact (if_neg h0).trans (if_pos h)
theorem VR (hu:u=i%nx) (hv:v=i/nx) (h0:¬(way<3\/(way=7/\i=0))) (h1:¬way<5) (h:way<7):Co nx way i=[((2*u,2*v),(2*u+2,2*v),(2*u+1,2*v+1)),((2*u+2,2*v),(2*u+2,2*v+2),(2*u+1,2*v+1)),((2*u+2,2*v+2),(2*u,2*v+2),(2*u+1,2*v+1)),((2*u,2*v+2),(2*u,2*v),(2*u+1,2*v+1))]:=by
  subst hu;subst hv;exact (if_neg h0).trans ((if_neg h1).trans (if_pos h))
theorem Vn (h0:¬(way<3\/(way=7/\i=0))) (h1:¬way<5) (h:¬way<7):Co nx way i=[]:=(if_neg h0).trans ((if_neg h1).trans (if_neg h))
end
def A_ (p:P2):List Value:=[vN p.1,vN p.2]
theorem C3 (p:P2):(A_ p).length=2:=rfl
def BF (t:P2×P2×P2):List Value:=A_ t.1++A_ t.2.1++A_ t.2.2
theorem Fj (t:P2×P2×P2):(BF t).length=6:=rfl
def Al (t:Nat×Nat×Nat):List Value:=[vN t.1,vN t.2.1,vN t.2.2]
theorem A6 (t:Nat×Nat×Nat):(Al t).length=3:=rfl
def CT (z:Int×Int):List Value:=[.int .i64 z.1,.int .i64 z.2]
theorem Fu (z:Int×Int):(CT z).length=2:=rfl
def GY (m:MQ) (i:Nat):Nat:=if 0<m.cs.length then m.cs.getD (i%m.cs.length) 0%8 else 0
theorem Qd (m:MQ) (i:Nat):GY m i<8:=by unfold GY;split<;>omega
def Fy (m:MQ):Nat:=1+m.nx%3
def Rk (m:MQ):Nat:=1+m.ny%3
def EE (m:MQ):Nat->List (P2×P2×P2)
  | 0=>[]
  | i+1=>EE m i++Co (Fy m) (GY m i) i
def BD (m:MQ):List (P2×P2×P2):=EE m (Fy m*Rk m)
theorem Iz (m:MQ):1<=Fy m/\Fy m<=3:=by unfold Fy;omega
theorem In (m:MQ):1<=Rk m/\Rk m<=3:=by unfold Rk;omega
theorem Hn (m:MQ):∀i,(EE m i).length<=4*i
  | 0=>Nat.le_refl _
  | i+1=>by
    have h1:=Hn m i
    have h2:=Qu (Fy m) (GY m i) i
    show (EE m i++Co (Fy m) (GY m i) i).length<=_
    rw [List.length_append];omega
theorem L0 (m:MQ):∀i,i<=Fy m*Rk m->∀t∈EE m i,P0 t
  | 0,_,t,ht=>by cases ht
  | i+1,hi,t,ht=>by
    rcases List.mem_append.1 ht with h|h
    · exact L0 m i (by omega) t h
    · exact UV (Iz m).2 (In m).2 (by omega) t h
theorem Le (m:MQ):∀i,1<=i->EE m i≠[]
  | 1,_=>by
    show []++Co (Fy m) (GY m 0) 0≠[]
    rw [List.nil_append];exact N0 _ _ (Qd m 0)
  | i+2,_=>λe=>Le m (i+1) (by omega) (List.append_eq_nil_iff.1 e).1
theorem RR (m:MQ):BD m≠[]:=Le m _ (Nat.mul_pos (Iz m).1 (In m).1)
theorem G5 (m:MQ):∀t∈BD m,P0 t:=L0 m _ (Nat.le_refl _)
theorem I9 (m:MQ):Fy m*Rk m<=9:=Nat.mul_le_mul (Iz m).2 (In m).2
theorem Hj (m:MQ):(BD m).length<=36:=by
  have h1:=Hn m (Fy m*Rk m)
  have h2:=I9 m
  unfold BD;omega
theorem C6 {a b:Int} {k:Int} (ha:-3<=a/\a<=3) (hb:-k<=b/\b<=k):-(3*k)<=a*b/\a*b<=3*k:=by
  obtain ⟨h3,h4⟩:=ha
  have e:a = -3\/a = -2\/a = -1\/a=0\/a=1\/a=2\/a=3:=by omega
  rcases e with rfl|rfl|rfl|rfl|rfl|rfl|rfl<;>omega
def VM (k:Int×Int×Int×Int):List Value:=[.int .i64 k.1,.int .i64 k.2.1,.int .i64 k.2.2.1,.int .i64 k.2.2.2]
structure DA where
  a:Int
  b:Int
  c:Int
  d:Int
def DA.det (k:DA):Int:=k.a*k.d-k.b*k.c
structure DA.Ok (k:DA):Prop where
  a:-3<=k.a/\k.a<=3
  b:-3<=k.b/\k.b<=3
  c:-3<=k.c/\k.c<=3
  d:-3<=k.d/\k.d<=3
  pos:0<k.det
def DA.at_ (k:DA) (p:P2):Int×Int:=(k.a*p.1+k.b*p.2,k.c*p.1+k.d*p.2)
def GX (a b c d:Int):DA :=
  let k:DA:=⟨a.tmod 4,b.tmod 4,c.tmod 4,d.tmod 4⟩
  if k.det=0 then ⟨1,0,0,1⟩ else if k.det<0 then ⟨k.a,k.b,-k.c,-k.d⟩ else k
theorem I6 (a:Int):-3<=a.tmod 4/\a.tmod 4<=3:=by
  have h:=Int.tmod_eq_emod (a:=a) (b:=4)
  have h1:=Int.emod_nonneg a (show (4:Int)≠0 by decide)
  have h2:=Int.emod_lt_of_pos a (show (0:Int)<4 by decide)
  rw [h]
  split<;>omega
theorem NN {a b c d A B C D:Int} (hA:A=a.tmod 4) (hB:B=b.tmod 4) (hC:C=c.tmod 4) (hD:D=d.tmod 4) (h:A*D-B*C=0):GX a b c d=⟨1,0,0,1⟩:=by
  subst hA;subst hB;subst hC;subst hD;exact if_pos h
theorem NT {a b c d A B C D:Int} (hA:A=a.tmod 4) (hB:B=b.tmod 4) (hC:C=c.tmod 4) (hD:D=d.tmod 4) (h:A*D-B*C<0):GX a b c d=⟨A,B,-C,-D⟩:=by
  subst hA;subst hB;subst hC;subst hD;exact (if_neg (λe:a.tmod 4*d.tmod 4-b.tmod 4*c.tmod 4=0=>by rw [e] at h;omega)).trans (if_pos h)
theorem Mt {a b c d A B C D:Int} (hA:A=a.tmod 4) (hB:B=b.tmod 4) (hC:C=c.tmod 4) (hD:D=d.tmod 4) (h0:¬A*D-B*C=0) (h:¬A*D-B*C<0):GX a b c d=⟨A,B,C,D⟩:=by
  subst hA;subst hB;subst hC;subst hD;exact (if_neg h0).trans (if_neg h)
theorem Fb (a b c d:Int):(GX a b c d).Ok:=by
  have ha:=I6 a;have hb:=I6 b;have hc:=I6 c;have hd:=I6 d
  unfold GX
  generalize a.tmod 4=a' at *
  generalize b.tmod 4=b' at *
  generalize c.tmod 4=c' at *
  generalize d.tmod 4=d' at *
  show (if a'*d'-b'*c'=0 then (⟨1,0,0,1⟩:DA) else if a'*d'-b'*c'<0 then ⟨a',b',-c',-d'⟩ else ⟨a',b',c',d'⟩).Ok
  by_cases h0:a'*d'-b'*c'=0
  · rw [if_pos h0];exact ⟨by decide,by decide,by decide,by decide,by decide⟩
  · rw [if_neg h0]
    by_cases h:a'*d'-b'*c'<0
    · rw [if_pos h];exact ⟨ha,hb,by dsimp only;omega,by dsimp only;omega,by show 0<a' * -d'-b' * -c';rw [Int.mul_neg,Int.mul_neg];omega⟩
    · rw [if_neg h];exact ⟨ha,hb,hc,hd,by show 0<a'*d'-b'*c';omega⟩
theorem Um {k:DA} (h:k.Ok) {p:P2} (hp:p.1<=6/\p.2<=6):(-36<=(k.at_ p).1/\(k.at_ p).1<=36) /\ -36<=(k.at_ p).2/\(k.at_ p).2<=36:=by
  obtain ⟨x,y⟩:=p
  have key:∀(z:Int) (n:Nat),-3<=z/\z<=3->n<=6 -> -18<=z*n/\z*n<=18:=λz n h1 h2=>by
    obtain ⟨h3,h4⟩:=h1
    have e:z = -3\/z = -2\/z = -1\/z=0\/z=1\/z=2\/z=3:=by omega
    rcases e with rfl|rfl|rfl|rfl|rfl|rfl|rfl<;>omega
  have h1:=key k.a x h.a hp.1;have h2:=key k.b y h.b hp.2;have h3:=key k.c x h.c hp.1;have h4:=key k.d y h.d hp.2
  simp only [DA.at_]
  exact ⟨⟨by omega,by omega⟩,by omega,by omega⟩
def GZ (k:DA) (den:Nat) (p:P2):PD:=⟨⟨(k.at_ p).1,den⟩,⟨(k.at_ p).2,den⟩⟩
theorem Wu {k:DA} (h:k.Ok) (den:Nat) {p q r:P2} (ht:0<Bu p q r):0<AQ (CJ (GZ k den p)) (CJ (GZ k den q)) (CJ (GZ k den r)):=by
  have hD:0<(((max den 1:Nat):Int):Rat):=by exact_mod_cast (show (0:Int)<((max den 1:Nat):Int) by omega)
  have e:AQ (CJ (GZ k den p)) (CJ (GZ k den q)) (CJ (GZ k den r))=((k.det*Bu p q r:Int):Rat)*((((max den 1:Nat):Int):Rat)⁻¹*(((max den 1:Nat):Int):Rat)⁻¹):=by
    simp only [Cb,CJ,GZ,Ng,DA.at_,DA.det,Bu,Rat.div_def,Rat.intCast_add,Rat.intCast_mul,Rat.intCast_sub]
    generalize (((max den 1:Nat):Int):Rat)⁻¹=D
    grind
  rw [e]
  have h1:0<k.det*Bu p q r:=Int.mul_pos h.pos ht
  have h2:(0:Rat)<((k.det*Bu p q r:Int):Rat):=by exact_mod_cast h1
  have h3:=Rat.inv_pos.2 hD
  exact Rat.mul_pos h2 (Rat.mul_pos h3 h3)
end
end Go.Proofs.YtfbomiejpbchdaaGreat
