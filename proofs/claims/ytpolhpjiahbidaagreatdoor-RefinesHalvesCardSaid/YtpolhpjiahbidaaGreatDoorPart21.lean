import Derived.Test.YtpolhpjiahbidaaGreatDoorPart05
import Derived.Test.YtpolhpjiahbidaaGreatDoorPart06
import Derived.Test.YtpolhpjiahbidaaGreatDoorPart09
import Derived.Test.YtpolhpjiahbidaaGreatDoorPart10
import Derived.Test.YtpolhpjiahbidaaGreatDoorPart20
namespace Go.Proofs.YtpolhpjiahbidaaGreatDoor
open Go Go.RowKit Go.Proofs.Tryz
set_option linter.unusedVariables false
set_option linter.unusedSimpArgs false
section
set_option maxRecDepth 100000
theorem S3 (a:NV) (hla:(dg a.x).length<=549755813888) (w:World) (ha:Holds w (nA a)):Calls Tryz.prog 146 #[(nV a)] w (Ai w (Value.string (txB (Lib.decDigits a.x)))):=by
 refine Aa (args:=[(nV a)]) (L:=[nA a]) Tryz.func146 rfl rfl (AK rfl) (Bs rfl ha (Al)) (OkC.subF (sL [0] rfl) (q4 (asg' rfl (OkL.nil (q1 (q4 (AO rfl (AG (v:=(vN ((dg a.x).length))) (AD rfl Tryz.underlying79) rfl (AG (BE (c:=(decide (((dg a.x).length)=0))) rfl rfl (L5 (a:=(dg a.x).length) (b:=0))) rfl (OkL.nil (OkQ.subF (sL [0,2,9] rfl) ?_)))))))))))
 refine OkQ.then_ ?_
 refine OkC.cond rfl (λhc0=>?_) (λhc0=>?_)
 ·replace hc0:=of_decide_eq_true hc0
  have hx0:a.x=0:=by rcases Nat.eq_zero_or_pos a.x with h|h;exact h;have:=(Jv h).2;omega
  exact q4 (asg' rfl (OkL.nil (OkQ.then_ (OkC.ret (OkQ.then_ret (ret_one rfl (rd_tmp (v:=(Value.string (ByteArray.mk #[48]))) rfl) (λw hw=>⟨by rw [hx0,Ji];rfl,hw.out⟩)))))))
 ·replace hc0:=of_decide_eq_false hc0
  have hx0:0<a.x:=by rcases Nat.eq_zero_or_pos a.x with h|h;(exact absurd (by rw [h];rfl) hc0);exact h
  refine OkC.skip (q2 (asg' rfl (OkL.nil (q1 (q4 (asg' rfl (OkL.nil (OkQ.then_ (OkC.block ?_)))))))))
  refine OkC.lp2 (tg λ(i:Nat) (s:List UInt8)=>i<(dg a.x).length/\s=Et (4*i) a.x\/i=(dg a.x).length/\s=Lib.decDigits a.x) (tg λ(i:Nat) (s:List UInt8)=>[(0,(nV a)),(2,(Value.string (ByteArray.mk #[]))),(4,(vN i)),(3,(Value.string (txB s)))]) (tg λ(i:Nat) (s:List UInt8)=>[nA a]) (tg λ(i:Nat) (s:List UInt8)=>(dg a.x).length-i) 0 ([]) (.inl ⟨by omega,rfl⟩) (sF rfl) sr (λi s hJ=>?_)
  have hj:=hJ
  refine OkC.seq (q4 (AO rfl (AO rfl (AG (v:=(vN ((dg a.x).length))) (AD rfl Tryz.underlying79) rfl (AG (Af (c:=(decide (i<((dg a.x).length)))) rfl rfl (B9 (a:=i) (b:=(dg a.x).length))) rfl (OkL.nil (OkQ.subF (sL [0,2,4,3,13] rfl) (OkQ.then_ ?_))))))))
  refine OkC.cond rfl (λhc1=>?_) (λhc1=>?_)
  ·replace hc1:=of_decide_eq_true hc1
   have hs:s=Et (4*i) a.x:=(hj.resolve_right (by omega)).2
   have gd:=Fl a.x i
   refine OkC.skip (q1 (OkC.block (q4 (AO rfl (AO rfl (AG (v:=(pP (pB a.p) (pO a.p+i*1))) (AI (j:=i) rfl rfl a.ok Tryz.underlying79 Tryz.sizeOf3 rfl (by omega)) rfl (AG (AQ (v:=(vN ((dg a.x).getD i 0))) (i:=0) rfl rfl (a.ok.ne (by omega)) BH (DD (ds:=dg a.x) (j:=i) (by omega))) rfl (asg' rfl (q3 (sL [0,2,4,3,5] rfl) (asg' rfl (OkL.nil ?_)))))))))))
   refine OkQ.then_ (OkC.block ?_)
   refine OkC.lp3 (tg λ(d:Nat) (k:Nat) (s2:List UInt8)=>k<=4/\d=(dg a.x).getD i 0/10^k/\s2=Et (4*i+k) a.x/\(i+1=(dg a.x).length->k=0\/(dg a.x).getD i 0/10^(k-1)≠0)) (tg λ(d:Nat) (k:Nat) (s2:List UInt8)=>[(0,(nV a)),(2,(Value.string (ByteArray.mk #[]))),(4,(vN i)),(5,(vN d)),(6,(vN k)),(3,(Value.string (txB s2)))]) (tg λ(d:Nat) (k:Nat) (s2:List UInt8)=>[nA a]) (tg λ(d:Nat) (k:Nat) (s2:List UInt8)=>4-k) ((dg a.x).getD i 0) 0 s (⟨by omega,by simp,by rw [hs];rfl,λ_=>.inl rfl⟩) (sF rfl) sr (λd k s2 hJ=>?_)
   obtain ⟨hk4,hd,hs2,hnz⟩:=hJ
   have hdl:d<=(dg a.x).getD i 0:=by rw [hd];exact Nat.div_le_self _ _
   refine OkC.seq (q4 (AO rfl (AG (Af (c:=(decide (k<4))) rfl rfl (B9 (a:=k) (b:=4))) rfl (AO rfl ?_))))
   refine OkL.mid (FM:=[(0,(nV a)),(2,(Value.string (ByteArray.mk #[]))),(4,(vN i)),(5,(vN d)),(6,(vN k)),(3,(Value.string (txB s2))),(20,(vN k)),(21,(Value.bool (decide (k<4)))),(22,(Value.bool (decide (k<4)))),(32,(Value.bool ((decide (k<4))&&((decide ((i+1)<((dg a.x).length)))||(decide (0<d))))))]) (LM:=[nA a]) 10 ?_ ?_
   ·rcases Bool.eq_false_or_eq_true (decide (k<4)) with hg1|hg1
    ·skip
     refine OkL.retell (k:=22) (u:=Value.bool true) rfl (by rw [hg1]) ?_
     have hg1':=hg1
     replace hg1':=of_decide_eq_true hg1'
     refine OkL.step (v:=(vN i)) (AB rfl) (Ac rfl) rfl (AK rfl) (OkL.step (v:=(vN (i+1))) (AB rfl) (AY (c:=((i+1:Nat):Int)) rfl rfl (AT (a:=i) (b:=1) (by omega))) rfl (AK rfl) (OkL.step (v:=(nV a)) (AB rfl) (Ac rfl) rfl (AK rfl) (OkL.step (v:=(vN ((dg a.x).length))) (AB rfl) (AD rfl Tryz.underlying79) rfl (AK rfl) (OkL.step (v:=(Value.bool (decide ((i+1)<((dg a.x).length))))) (AB rfl) (Af (c:=(decide ((i+1)<((dg a.x).length)))) rfl rfl (B9 (a:=i+1) (b:=(dg a.x).length))) rfl (AK rfl) (OkL.step (v:=(Value.bool (decide ((i+1)<((dg a.x).length))))) (AB rfl) (Ac rfl) rfl (AK rfl) ?_)))))
     refine OkL.mid (FM:=[(0,(nV a)),(2,(Value.string (ByteArray.mk #[]))),(4,(vN i)),(5,(vN d)),(6,(vN k)),(3,(Value.string (txB s2))),(20,(vN k)),(21,(Value.bool (decide (k<4)))),(22,(Value.bool true)),(23,(vN i)),(24,(vN (i+1))),(25,(nV a)),(26,(vN ((dg a.x).length))),(27,(Value.bool (decide ((i+1)<((dg a.x).length))))),(28,(Value.bool (decide ((i+1)<((dg a.x).length))))),(31,(Value.bool ((decide ((i+1)<((dg a.x).length)))||(decide (0<d)))))]) (LM:=[nA a]) 3 ?_ ?_
     ·rcases Bool.eq_false_or_eq_true (decide ((i+1)<((dg a.x).length))) with hg2|hg2
      ·skip
       refine OkL.retell (k:=28) (u:=Value.bool true) rfl (by rw [hg2]) ?_
       have hg2':=hg2
       replace hg2':=of_decide_eq_true hg2'
       exact OkL.skip (AC rfl) rfl (AK rfl) (OkL.skip (AC rfl) rfl (AK rfl) (OkL.step (v:=(Value.bool true)) (AB rfl) (AN rfl rfl) rfl (AK rfl) (OkL.nil (OkQ.mid (sS rfl (sS rfl (sS rfl (sS rfl (sS rfl (sS rfl (sS rfl (sS rfl (sS rfl (sS rfl (sS rfl (sS rfl (sS rfl (sS rfl (sS (by first|rfl|(rw [hg2];rfl)|rw [hg2]) (sS (by first|rfl|(rw [hg2];rfl)|rw [hg2]) (sN))))))))))))))))) (List.Sublist.refl _)))))
      ·skip
       refine OkL.retell (k:=28) (u:=Value.bool false) rfl (by rw [hg2]) ?_
       have hg2':=hg2
       replace hg2':=of_decide_eq_false hg2'
       exact OkL.step (v:=(vN d)) (AB rfl) (Ac rfl) rfl (AK rfl) (OkL.step (v:=(Value.bool (decide (0<d)))) (AB rfl) (B6 (c:=(decide (0<d))) rfl rfl (B9 (a:=0) (b:=d))) rfl (AK rfl) (OkL.step (v:=(Value.bool (decide (0<d)))) (AB rfl) (AJ rfl rfl) rfl (AK rfl) (OkL.nil (OkQ.mid (sS rfl (sS rfl (sS rfl (sS rfl (sS rfl (sS rfl (sS rfl (sS rfl (sS rfl (sS rfl (sS rfl (sS rfl (sS rfl (sS rfl (sS (by first|rfl|(rw [hg2];rfl)|rw [hg2]) (sS (by first|rfl|(rw [hg2];rfl)|rw [hg2]) (sN))))))))))))))))) (List.Sublist.refl _)))))
     exact AG (v:=(Value.bool ((decide ((i+1)<((dg a.x).length)))||(decide (0<d))))) (AN rfl rfl) rfl (OkL.nil (OkQ.mid (sS rfl (sS rfl (sS rfl (sS rfl (sS rfl (sS rfl (sS rfl (sS rfl (sS (by first|rfl|(rw [hg1];rfl)|rw [hg1]) (sS (by first|rfl|(rw [hg1];rfl)|rw [hg1]) (sN))))))))))) (List.Sublist.refl _)))
    ·skip
     refine OkL.retell (k:=22) (u:=Value.bool false) rfl (by rw [hg1]) ?_
     have hg1':=hg1
     replace hg1':=of_decide_eq_false hg1'
     exact OkL.skip (AC rfl) rfl (AK rfl) (OkL.skip (AC rfl) rfl (AK rfl) (OkL.skip (AC rfl) rfl (AK rfl) (OkL.skip (AC rfl) rfl (AK rfl) (OkL.skip (AC rfl) rfl (AK rfl) (OkL.skip (AC rfl) rfl (AK rfl) (OkL.skip (BM rfl rfl rfl) rfl (AK rfl) (OkL.skip (BM rfl rfl rfl) rfl (AK rfl) (OkL.skip (AC rfl) rfl (AK rfl) (AG (v:=(Value.bool false)) (AJ rfl rfl) rfl (OkL.nil (OkQ.mid (sS rfl (sS rfl (sS rfl (sS rfl (sS rfl (sS rfl (sS rfl (sS rfl (sS (by first|rfl|(rw [hg1];rfl)|rw [hg1]) (sS (by first|rfl|(rw [hg1];rfl)|rw [hg1]) (sN))))))))))) (List.Sublist.refl _))))))))))))
   refine OkL.nil (OkQ.subF (sL [0,2,4,5,6,3,32] rfl) (OkQ.then_ ?_))
   refine OkC.cond rfl (λhc2=>?_) (λhc2=>?_)
   ·simp only [Bool.and_eq_true,Bool.or_eq_true,Bool.and_eq_false_iff,Bool.or_eq_false_iff,Bool.not_eq_true',Bool.not_eq_false',decide_eq_true_eq,decide_eq_false_iff_not] at hc2
    refine OkC.skip (q1 (OkC.block (q4 (AO rfl (AG (De (c:=((d%10:Nat):Int)) rfl rfl (by omega) (Nu (a:=d) (b:=10))) rfl (AG (AY (c:=((48+(d%10):Nat):Int)) rfl rfl (AT (a:=48) (b:=d%10) (by omega))) rfl (AG (Ar (c:=((48+(d%10):Nat):Int)) rfl Tryz.underlying3 Tryz.underlying5 (NK (by omega))) rfl (AG (v:=(Value.string (txB [UInt8.ofNat (48+d%10)]))) (MY (a:=48+d%10) rfl Tryz.underlying5 Tryz.underlying9 (by omega)) rfl (AO rfl (AG (v:=(Value.string (txB (Et (4*i+(k+1)) a.x)))) (CH (r:=(txB (Et (4*i+(k+1)) a.x))) rfl rfl (by rw [C_,C_,hs2,M0];simp;omega) (by rw [hs2];exact Rr hc2.1 hd)) rfl (asg' rfl ?_)))))))))))
    refine OkL.nil (OkQ.subF (sL [0,2,4,5,6,3] rfl) (OkQ.then_ (OkC.region (AO rfl (AG (EP (c:=((d/10:Nat):Int)) rfl rfl (by omega) (Ed (a:=d) (b:=10) (by omega))) rfl (asg' rfl (OkL.nil (OkQ.subF (sL [0,2,4,5,6,3] rfl) (OkQ.in_normal (OkQ.then_ (OkC.region ?_)))))))))))
    exact AO rfl (AG (AY (c:=((k+1:Nat):Int)) rfl rfl (AT (a:=k) (b:=1) (by omega))) rfl (asg' rfl (OkL.nil (OkQ.subF (sL [0,2,4,5,6,3] rfl) (OkQ.round3 (d/10) (k+1) (Et (4*i+(k+1)) a.x) (⟨by omega,by rw [hd,Nat.div_div_eq_div_mul,<-Nat.pow_succ],rfl,λh=>.inr (by rw [Nat.add_sub_cancel,<-hd];omega)⟩) (by omega) (sF rfl) sr)))))
   ·simp only [Bool.and_eq_true,Bool.or_eq_true,Bool.and_eq_false_iff,Bool.or_eq_false_iff,Bool.not_eq_true',Bool.not_eq_false',decide_eq_true_eq,decide_eq_false_iff_not] at hc2
    have hout:i+1<(dg a.x).length/\s2=Et (4*(i+1)) a.x\/i+1=(dg a.x).length/\s2=Lib.decDigits a.x:=by
        rcases Nat.lt_or_ge (i+1) (dg a.x).length with h|h
        ·exact .inl ⟨h,by rw [hs2,show k=4 by omega];rfl⟩
        ·exact .inr ⟨by omega,by rw [hs2];exact RI hx0 (by omega) hk4 hd (hnz (by omega)) (by omega)⟩
    exact OkC.exit (OkQ.then_exit (OkQ.round3_exit (OkQ.in_exit (OkQ.in_normal (OkQ.then_ (OkC.region (AO rfl (AG (AY (c:=((i+1:Nat):Int)) rfl rfl (AT (a:=i) (b:=1) (by omega))) rfl (asg' rfl (OkL.nil (OkQ.subF (sL [0,2,4,5,6,3] rfl) (OkQ.round2 (i+1) s2 (hout) (by omega) (sF rfl) sr))))))))))))
  ·replace hc1:=of_decide_eq_false hc1
   have hs:s=Lib.decDigits a.x:=(hj.resolve_left (by omega)).2
   exact OkC.exit (OkQ.then_exit (OkQ.round2_exit (OkQ.in_exit (q2 (AO rfl (asg' rfl (OkL.nil (OkQ.subF (sL [0,2,4,3] rfl) (OkQ.then_ (OkC.ret (ret_one rfl (rd_tmp (v:=(Value.string (txB s))) rfl) (λw hw=>⟨by rw [hs],hw.out⟩))))))))))))
end
section
structure YG (x y:Nat) where
  q:NX x
  r:NX y
instance {x y:Nat}:Ci (YG x y):=⟨λa=>.tuple #[Bu a.q,Bu a.r],λa=>[By a.q,By a.r],λa y hy=>Oc rfl rfl hy⟩
section
variable {S:Nat->Prop} {w:World} {x y:Nat}
theorem Xq {a:YG x y} (h:Ro S w a):Ro S w a.q:=λz hz=>h z (by rcases List.mem_singleton.1 hz with rfl;exact List.mem_cons_self)
theorem gN {W:World} {src:List (Option Nat)} {e:Ending} (hs:∀s∈src,∀b,s=some b->S b) (h:F7 W src x e w):Ah (NX x) S W e w:=by
  obtain ⟨v,rfl,rfl,hb,hh,hl⟩:=h
  refine ⟨⟨v.p,v.c,v.ok⟩,rfl,hb,λy hy=>?_⟩
  rcases List.mem_singleton.1 hy with rfl
  exact ⟨hh,λb e=>(hl b e).imp_right λh=>hs _ h b rfl⟩
theorem Yj {a:NX x} (h:Ro S w a) {b:Nat} (e:a.p.map (·.block)=some b):S b:=(h _ List.mem_cons_self).2 b e
theorem Ot {x:Nat} (h:nw x<=67108864):(dg x).length<=274877906944:=by have:=WA x;omega
theorem GF {x:Nat} (h:nw x<=67108864):(dg x).length<=549755813888:=by have:=WA x;omega
theorem OG (x:Nat) (hx:x<18446744073709551616) (w:World) {S:Nat->Prop}:Calls Tryz.prog 207 #[(vK .u64 x)] w (Ah (NX x) S w):=(Ng x hx w).mono λe w' h=>gN (λs hs=>by cases hs) h
theorem PR (a:NX x) (b:NX y) (hx:nw x<=67108864) (hy:nw y<=67108864) (w:World) (ha:Ro S w a) (hb:Ro S w b):Calls Tryz.prog 198 #[Bu a,Bu b] w (Ah (NX (x+y)) S w) :=
  (Va a.nv b.nv (GF hx) (GF hy) w (Qh ha) (Qh hb)).mono λe w' h=>gN (λs hs=>by cases hs) h
theorem LZ (a:NX x) (b:NX y) (hxy:y<=x) (hx:nw x<=67108864) (w:World) (ha:Ro S w a) (hb:Ro S w b):Calls Tryz.prog 210 #[Bu a,Bu b] w (Ah (NX (x-y)) S w) :=
  (Po a.nv b.nv hxy (GF hx) w (Qh ha) (Qh hb)).mono λe w' h=>gN (λs hs=>by cases hs) h
theorem LV (a:NX x) (b:NX y) (hx:nw x<=67108864) (hy:nw y<=67108864) (w:World) (ha:Ro S w a) (hb:Ro S w b):Calls Tryz.prog 162 #[Bu a,Bu b] w (Ah (NX (x*y)) S w) :=
  (Lk a.nv b.nv (GF hx) (GF hy) w (Qh ha) (Qh hb)).mono λe w' h=>gN (λs hs=>by cases hs) h
theorem Uw (a:NX x) (b:NX y) (hx:nw x<=67108864) (hy:nw y<=67108864) (w:World) (ha:Ro S w a) (hb:Ro S w b):Calls Tryz.prog 211 #[Bu a,Bu b] w (Ai w (vI (Cp x y))) :=
  La a.nv b.nv (GF hx) (GF hy) w (Qh ha) (Qh hb)
theorem VK (a:NX x) (b:NX y) (hx:nw x<=67108864) (hy:nw y<=67108864) (w:World) (ha:Ro S w a) (hb:Ro S w b):Calls Tryz.prog 208 #[Bu a,Bu b] w (Ah (NX (Nat.gcd x y)) S w) :=
  (UE a.nv b.nv (Ot hx) (Ot hy) w (Qh ha) (Qh hb)).mono λe w' h=>gN (λs hs c e=>by
    rcases List.mem_cons.1 hs with rfl|hs
    · exact Yj ha e
    · rcases List.mem_singleton.1 hs with rfl;exact Yj hb e) h
theorem Pc (a:NX x) (b:NX y) (hy0:0<y) (hx:nw x<=67108864) (hy:nw y<=67108864) (w:World) (ha:Ro S w a) (hb:Ro S w b):Calls Tryz.prog 209 #[Bu a,Bu b] w (Ah (YG (x/y) (x%y)) S w) :=
  (PU a.nv b.nv hy0 (Ot hx) (Ot hy) w (Qh ha) (Qh hb)).mono λe w' h=>by
    obtain ⟨u,v,hu,hv,rfl,hB,hhu,hhv,lu,lv⟩:=h
    obtain ⟨up,uc,ux,uok⟩:=u
    obtain ⟨vp,vc,vx,vok⟩:=v
    dsimp only at hu hv
    subst hu;subst hv
    refine ⟨⟨⟨up,uc,uok⟩,⟨vp,vc,vok⟩⟩,rfl,hB,λz hz=>?_⟩
    rcases List.mem_cons.1 hz with rfl|hz
    · exact ⟨hhu,λb e=>(lu b e).elim .inl λh=>by cases h⟩
    · rcases List.mem_singleton.1 hz with rfl
      exact ⟨hhv,λb e=>(lv b e).imp_right λh=>by
        have:=List.mem_singleton.1 h
        exact Yj ha this.symm⟩
theorem J1 (a:NX x) (hx:nw x<=67108864) (w:World) (ha:Ro S w a):Calls Tryz.prog 146 #[Bu a] w (Ai w (Value.string (txB (Lib.decDigits x)))):=S3 a.nv (GF hx) w (Qh ha)
end
section
variable {P:Program} {ops:Array Oper} {rest:List Oper} {Q:Exit->Act->World->Prop} {n d:Nat} {F:List (Nat×Value)} {w0:A_} {S:Nat->Prop} {L:List As} {t:TypeId} {p:String} {af:Array Edge} {y:Operand} {f:FuncId} {xs:List Operand} {args:List Value} {ts:Array TypeId}
theorem cD {u v:Nat} (hc:∀args w,(callFunc f args).run P w=.ok (.enter f args) w) (h:∀w,BB w0 w L->Calls P f args.toArray w (Ah (YG u v) (SL w0 S L) w))
    (hf:evF F y=some (.func (.func f) #[] #[])) (hargs:xs.map (evF F)=args.map some) (hd:Nat.ble (d+1) n=true) (next:∀a:YG u v,At w0 S a->OkL P ops rest Q n ((d,.tuple #[Bu a.q,Bu a.r])::F) w0 (By a.q::By a.r::L)) :
    OkL P ops (⟨some d,.call { callee:=.value y,args:=xs.toArray,argTypes:=ts },t,p,af,none⟩::rest) Q n F w0 L:=OkL.callR hc h hf hargs hd next
end
end
theorem Pn:∀{k x:Nat},x<10^(k+1)->(Lib.decDigits x).length<=k+1
  | 0,x,h=>by rw [Lib.decDigits,dif_pos (by omega)];simp
  | k+1,x,h=>by
    rw [Lib.decDigits]
    split
    · simp
    · have:=Pn (k:=k) (x:=x/10) (by rw [Nat.pow_succ] at h;omega)
      rw [List.length_append,List.length_singleton];omega
theorem OL (n:Nat):(Lib.decDigits n).length<=10*nw n+1 :=
  Pn (Nat.lt_of_lt_of_le (Nat.lt_of_lt_of_le (Bi n) (by rw [Nat.pow_mul];exact Nat.pow_le_pow_left (by decide) _)) (Nat.pow_le_pow_right (by omega) (Nat.le_succ _)))
theorem LD (x:Nat):0<(dg x).length↔x≠0:=by
  constructor
  · intro h e;rw [e,Ep] at h;simp at h
  · intro h;exact (Jv (by omega)).2
theorem W4 (neg:Bool) (x:Nat):decide (Dc neg x<0)=(neg&&decide (0<(dg x).length)):=by
  have h:=LD x
  cases neg
  · simp [Dc]
  · by_cases h0:x=0
    · subst h0;simp [Dc,Ep]
    · have:0<(dg x).length:=h.2 h0
      simp [Dc,this];omega
def Wp (neg:Bool) {x:Nat} (n:NX x):ZX (Dc neg x):=⟨n.cast (A8 neg x).symm⟩
theorem Wj (neg:Bool) {x:Nat} (n:NX x):Cn (Wp neg n)=[.bool (neg&&decide (0<(dg x).length)),Bu n]:=by
  unfold Cn Wp Bu
  rw [W4]
  simp only [A8]
theorem M5 {x:Nat} (h:(dg x).length=0):x=0:=Classical.byContradiction λe=>by have:=(LD x).2 e;omega
theorem Hh {x:Nat} (h:¬(dg x).length=0):x≠0:=(LD x).1 (by omega)
def txI (z:Int):List UInt8:=if z<0 then 45::Lib.decDigits z.natAbs else Lib.decDigits z.natAbs
section
set_option maxRecDepth 100000
theorem C5 {x:Nat} (neg:Bool) (n:NX x) (w:World) {S:Nat->Prop} (hn:Ro S w n)  :Calls Tryz.prog 163 #[(Value.bool neg),(Bu n)] w (Ah (ZX (Dc neg x)) S w):=by
 have ln:=CU (W:=w) hn
 refine Aa (args:=[(Value.bool neg),(Bu n)]) (L:=[By n]) Tryz.func163 rfl rfl (AK rfl) (YP hn Al) (OkC.subF (sL [0,1] rfl) (q4 (al QP rfl λb1=>OkL.nil (q2 (AO rfl (AO rfl ?_))))))
 refine OkL.mid (FM:=[(0,(Value.bool neg)),(1,(Bu n)),(4,(pP b1 0)),(5,(Value.bool neg)),(6,(Value.bool neg)),(10,(Value.bool (neg&&(decide (0<((dg x).length))))))]) (LM:=[AX b1 81 ([(Value.bool false),(Value.slice none 0 0)]),By n]) 4 ?_ ?_
 ·rcases Bool.eq_false_or_eq_true neg with hg1|hg1
  ·skip
   refine OkL.retell (k:=6) (u:=Value.bool true) rfl (by rw [hg1]) ?_
   have hg1':=hg1
   skip
   exact OkL.step (v:=(Bu n)) (AB rfl) (Ac rfl) rfl (AK rfl) (OkL.step (v:=(vN ((dg x).length))) (AB rfl) (AD rfl Tryz.underlying79) rfl (AK rfl) (OkL.step (v:=(Value.bool (decide (0<((dg x).length))))) (AB rfl) (B6 (c:=(decide (0<((dg x).length)))) rfl rfl (B9 (a:=0) (b:=(dg x).length))) rfl (AK rfl) (AG (v:=(Value.bool (decide (0<((dg x).length))))) (AN rfl rfl) rfl (OkL.nil (OkQ.mid (sS rfl (sS rfl (sS rfl (sS rfl (sS (by first|rfl|(rw [hg1];rfl)|rw [hg1]) (sS (by first|rfl|(rw [hg1];rfl)|rw [hg1]) (sN))))))) (List.Sublist.refl _))))))
  ·skip
   refine OkL.retell (k:=6) (u:=Value.bool false) rfl (by rw [hg1]) ?_
   have hg1':=hg1
   skip
   exact OkL.skip (AC rfl) rfl (AK rfl) (OkL.skip (AC rfl) rfl (AK rfl) (OkL.skip (AC rfl) rfl (AK rfl) (AG (v:=(Value.bool false)) (AJ rfl rfl) rfl (OkL.nil (OkQ.mid (sS rfl (sS rfl (sS rfl (sS rfl (sS (by first|rfl|(rw [hg1];rfl)|rw [hg1]) (sS (by first|rfl|(rw [hg1];rfl)|rw [hg1]) (sN))))))) (List.Sublist.refl _))))))
 exact AO rfl (AG (v:=(aG ([(Value.bool (neg&&(decide (0<((dg x).length))))),(Bu n)]))) (AR (zs:=[(Value.bool false),(Value.slice none 0 0)]) (vs:=[(Value.bool (neg&&(decide (0<((dg x).length))))),(Bu n)]) (pv:=[(0,(Value.bool (neg&&(decide (0<((dg x).length)))))),(1,(Bu n))]) (places:=[(0,1),(1,1)]) Tryz.zeroValue81 Tryz.underlying81 (λw=>by simp [Tryz.sizeOf4,Tryz.sizeOf79]) rfl rfl) rfl (Ay rfl Tryz.sizeOf81 rfl (OkL.nil (OkQ.subF (sL [4] rfl) (OkQ.then_ (OkC.ret (ret_one rfl (Aj (i:=0) (cs:=[(Value.bool (neg&&(decide (0<((dg x).length))))),(Bu n)]) rfl rfl Tryz.isAgg81 Tryz.sizeOf81 rfl) (λw hw=>Df (a:=Wp neg n) hw (ZC (W3 (inS hw 1 rfl ln))) (by rw [<-Wj];rfl)))))))))
theorem W6 (z:Int) (hz:-9223372036854775808<=z) (hz2:z<9223372036854775808) (w:World) {S:Nat->Prop}  :Calls Tryz.prog 157 #[(vI z)] w (Ah (ZX z) S w):=by
 refine AZ (args:=[(vI z)]) Tryz.func157 rfl rfl (AK rfl) (OkC.subF (sL [0] rfl) (q4 (al QP rfl λb1=>OkL.nil (q1 (q4 (AO rfl (AG (Af (c:=(decide (z<(0:Int)))) rfl rfl rfl) rfl (OkL.nil (OkQ.subF (sL [0,2,4] rfl) (OkQ.then_ ?_))))))))))
 refine OkC.cond rfl (λhc0=>?_) (λhc0=>?_)
 ·replace hc0:=of_decide_eq_true hc0
  refine q4 (AO rfl (AG (AY (c:=(z+1)) rfl rfl (BD (by omega) (by omega))) rfl (AG (TB (c:=(((-(z+1)).toNat:Nat):Int)) rfl (by rw [BD (by omega) (by omega)];omega)) rfl (AG (Ar (c:=(((-(z+1)).toNat:Nat):Int)) rfl Tryz.underlying2 Tryz.underlying69 (BG (by omega))) rfl (AG (AY (c:=((z.natAbs:Nat):Int)) rfl rfl (by rw [Cy (by omega) (by omega)];omega)) rfl (cN (S:=S) (x:=z.natAbs) (args:=[(vK .u64 z.natAbs)]) Tryz.call207 (λw hw=>OG z.natAbs (by first|omega|(simp only [Int.natAbs_neg];omega)) w) rfl rfl rfl λg1 lg1=>cZ (S:=S) (x:=z) (args:=[(Value.bool true),(Bu g1)]) Tryz.call163 (λw hw=>(Ah.cast (T:=λi=>ZX i) (F5 hc0) (C5 true g1 w (inS hw 0 rfl lg1)))) rfl rfl rfl λg2 lg2=>Gh rfl Tryz.sizeOf81 rfl (OkL.nil (OkQ.subF (sL [0,2] rfl) (OkQ.then_ ?_)))))))))
  exact OkC.ret (OkQ.then_ret (ret_one rfl (Aj (i:=2) (cs:=Cn g2) rfl rfl Tryz.isAgg81 Tryz.sizeOf81 rfl) (λw hw=>Df (a:=(g2:ZX z)) hw (inS hw 0 rfl lg2) rfl)))
 ·replace hc0:=of_decide_eq_false hc0
  exact OkC.skip (q2 (AO rfl (AG (Ar (c:=((z.natAbs:Nat):Int)) rfl Tryz.underlying2 Tryz.underlying69 (by rw [Cy (by omega) (by omega)];omega)) rfl (cN (S:=S) (x:=z.natAbs) (args:=[(vK .u64 z.natAbs)]) Tryz.call207 (λw hw=>OG z.natAbs (by first|omega|(simp only [Int.natAbs_neg];omega)) w) rfl rfl rfl λg3 lg3=>cZ (S:=S) (x:=z) (args:=[(Value.bool false),(Bu g3)]) Tryz.call163 (λw hw=>(Ah.cast (T:=λi=>ZX i) (Kj hc0) (C5 false g3 w (inS hw 0 rfl lg3)))) rfl rfl rfl λg4 lg4=>Gh rfl Tryz.sizeOf81 rfl (OkL.nil (OkQ.subF (sL [0,2] rfl) (OkQ.then_ (OkC.ret (ret_one rfl (Aj (i:=2) (cs:=Cn g4) rfl rfl Tryz.isAgg81 Tryz.sizeOf81 rfl) (λw hw=>Df (a:=(g4:ZX z)) hw (inS hw 0 rfl lg4) rfl))))))))))
theorem TZ {x:Int} (a:ZX x) (w:World) {S:Nat->Prop} (ha:Ro S w a)  :Calls Tryz.prog 180 #[(aG (Cn a))] w (Ai w (vI x.sign)):=by
 have la:=CU (W:=w) ha
 refine Aa (args:=[(aG (Cn a))]) (L:=[By a.n]) Tryz.func180 rfl rfl (AK rfl) (VV ha Al) (OkC.subF (sL [0] rfl) (q4 (Bg (cs:=Cn a) rfl λb1=>asg' rfl (q6 (sL [1,2] rfl) (q4 (AG (v:=(pP b1 1)) (AA rfl Tryz.underlying81 rfl Tryz.sizeOf79 rfl) rfl (Aw 0 (Bu a.n) FA rfl (AG (v:=(vN ((dg x.natAbs).length))) (AD rfl Tryz.underlying79) rfl (AG (BE (c:=(decide (((dg x.natAbs).length)=0))) rfl rfl (L5 (a:=(dg x.natAbs).length) (b:=0))) rfl (OkL.nil ?_))))))))))
 refine OkQ.subF (sL [1,2,6] rfl) (OkQ.then_ ?_)
 refine OkC.cond rfl (λhc0=>?_) (λhc0=>?_)
 ·replace hc0:=of_decide_eq_true hc0
  have he:x.sign=0:=by rw [show x=0 by have:=M5 hc0;omega];rfl
  exact q4 (asg' rfl (OkL.nil (OkQ.then_ (OkC.ret (OkQ.then_ret (ret_one rfl (rd_tmp (v:=(vI 0)) rfl) (λw hw=>⟨by rw [he],hw.out⟩)))))))
 ·replace hc0:=of_decide_eq_false hc0
  have hx0:=Hh hc0
  refine OkC.skip (q1 (q4 (AG (v:=(pP b1 0)) (AA rfl Tryz.underlying81 rfl Tryz.sizeOf4 rfl) rfl (Aw 0 (Value.bool (decide (x<0))) KL rfl (OkL.nil (OkQ.subF (sL [1,2,8] rfl) (OkQ.then_ ?_)))))))
  refine OkC.cond rfl (λhc1=>?_) (λhc1=>?_)
  ·replace hc1:=of_decide_eq_true hc1
   have he:x.sign = -1:=Int.sign_eq_neg_one_of_neg hc1
   exact q4 (asg' rfl (OkL.nil (OkQ.then_ (OkC.ret (OkQ.then_ret (ret_one rfl (rd_tmp (v:=(vI (-1:Int))) rfl) (λw hw=>⟨by rw [he],hw.out⟩)))))))
  ·replace hc1:=of_decide_eq_false hc1
   have he:x.sign=1:=Int.sign_eq_one_of_pos (by omega)
   exact OkC.skip (q2 (asg' rfl (OkL.nil (OkQ.then_ (OkC.ret (ret_one rfl (rd_tmp (v:=(vI 1)) rfl) (λw hw=>⟨by rw [he],hw.out⟩)))))))
theorem UZ {x:Int} (a:ZX x) (w:World) {S:Nat->Prop} (ha:Ro S w a)  :Calls Tryz.prog 219 #[(aG (Cn a))] w (Ah (ZX (-x)) S w):=by
 have la:=CU (W:=w) ha
 refine Aa (args:=[(aG (Cn a))]) (L:=[By a.n]) Tryz.func219 rfl rfl (AK rfl) (VV ha Al) (OkC.subF (sL [0] rfl) (q4 (Bg (cs:=Cn a) rfl λb1=>al QP rfl λb2=>q3 (sL [1,2] rfl) (AG (v:=(pP b1 0)) (AA rfl Tryz.underlying81 rfl Tryz.sizeOf4 rfl) rfl (Aw 1 (Value.bool (decide (x<0))) KL rfl (AG (Be (c:=(!(decide (x<0)))) rfl rfl) rfl (AG (v:=(pP b1 1)) (AA rfl Tryz.underlying81 rfl Tryz.sizeOf79 rfl) rfl (Aw 1 (Bu a.n) FA rfl (cZ (S:=S) (x:=(-x)) (args:=[(Value.bool (!(decide (x<0)))),(Bu a.n)]) Tryz.call163 (λw hw=>(Ah.cast (T:=λi=>ZX i) (UW x) (C5 (!(decide (x<0))) a.n w (MD (inS hw 2 rfl la))))) rfl rfl rfl λg1 lg1=>?_)))))))))
 exact Dw rfl Tryz.sizeOf81 rfl (OkL.nil (OkQ.subF (sL [2] rfl) (OkQ.then_ (OkC.ret (ret_one rfl (Aj (i:=1) (cs:=Cn g1) rfl rfl Tryz.isAgg81 Tryz.sizeOf81 rfl) (λw hw=>Df (a:=(g1:ZX (-x))) hw (inS hw 0 rfl lg1) rfl))))))
theorem VM {x y:Int} (a:ZX x) (b:ZX y) (hx:nw x.natAbs<=67108864) (hy:nw y.natAbs<=67108864) (w:World) {S:Nat->Prop} (ha:Ro S w a) (hb:Ro S w b)  :Calls Tryz.prog 159 #[(aG (Cn a)),(aG (Cn b))] w (Ah (ZX (x+y)) S w):=by
 have la:=CU (W:=w) ha
 have lb:=CU (W:=w) hb
 refine Aa (args:=[(aG (Cn a)),(aG (Cn b))]) (L:=[By a.n,By b.n]) Tryz.func159 rfl rfl (AK rfl) (VV ha (VV hb Al)) (OkC.subF (sL [0,1] rfl) (q4 (Bg (cs:=Cn a) rfl λb1=>Bg (cs:=Cn b) rfl λb2=>al QP rfl λb3=>q6 (sL [2,3,4] rfl) (q4 (AG (v:=(pP b1 0)) (AA rfl Tryz.underlying81 rfl Tryz.sizeOf4 rfl) rfl (Aw 2 (Value.bool (decide (x<0))) KL rfl (AG (v:=(pP b2 0)) (AA rfl Tryz.underlying81 rfl Tryz.sizeOf4 rfl) rfl (Aw 1 (Value.bool (decide (y<0))) KL rfl ?_))))))))
 refine AG (IP (c:=(decide (x<0) == decide (y<0))) rfl rfl Tryz.underlying4 rfl) rfl (OkL.nil (OkQ.subF (sL [2,3,4,9] rfl) (OkQ.then_ ?_)))
 refine OkC.cond rfl (λhc0=>?_) (λhc0=>?_)
 ·skip
  refine OkC.seq (CV [(0,true),(1,true),(2,true),(3,true),(4,true),(5,true),(6,false),(7,false),(8,false)] (sl sr) (Ag (v:=(pP b1 0)) rfl (AA rfl Tryz.underlying81 rfl Tryz.sizeOf4 rfl) (BQ 1 (Value.bool (decide (x<0))) KL rfl (Ag (v:=(pP b1 1)) rfl (AA rfl Tryz.underlying81 rfl Tryz.sizeOf79 rfl) (BQ 1 (Bu a.n) FA rfl (Ag (v:=(pP b2 1)) rfl (AA rfl Tryz.underlying81 rfl Tryz.sizeOf79 rfl) (BQ 0 (Bu b.n) FA rfl (OkE.imp rfl (cN (S:=S) (x:=(x.natAbs+y.natAbs)) (args:=[(Bu a.n),(Bu b.n)]) Tryz.call198 (λw hw=>PR a.n b.n (by first|omega|(simp only [Int.natAbs_neg];omega)) (by first|omega|(simp only [Int.natAbs_neg];omega)) w (MD (inS hw 3 rfl la)) (MD (inS hw 4 rfl lb))) rfl rfl rfl λg1 lg1=>OkE.back (sl (sl sr)) (OkE.imp rfl ?_))))))))))
  exact cZ (S:=S) (x:=(x+y)) (args:=[(Value.bool (decide (x<0))),(Bu g1)]) Tryz.call163 (λw hw=>(Ah.cast (T:=λi=>ZX i) (HS hc0) (C5 (decide (x<0)) g1 w (inS hw 0 rfl lg1)))) rfl rfl rfl λg2 lg2=>OkE.back (sl (sl (sl sr))) (OkE.imp rfl (Gh rfl Tryz.sizeOf81 rfl (OkE.back (sl (sl (sl sr))) (OkE.nil (OkQ.subF (sL [2,3,4] rfl) (OkQ.then_ (OkC.ret (OkQ.then_ret (ret_one rfl (Aj (i:=2) (cs:=Cn g2) rfl rfl Tryz.isAgg81 Tryz.sizeOf81 rfl) (λw hw=>Df (a:=(g2:ZX (x+y))) hw (inS hw 0 rfl lg2) rfl))))))))))
 ·skip
  have hc0:(decide (x<0) == decide (y<0))=false:=by simpa using hc0
  refine OkC.skip (q1 (q4 (AG (v:=(pP b1 1)) (AA rfl Tryz.underlying81 rfl Tryz.sizeOf79 rfl) rfl (Aw 2 (Bu a.n) FA rfl (AG (v:=(pP b2 1)) (AA rfl Tryz.underlying81 rfl Tryz.sizeOf79 rfl) rfl (Aw 1 (Bu b.n) FA rfl (Cq Tryz.call211 (λw hw=>Uw a.n b.n (by first|omega|(simp only [Int.natAbs_neg];omega)) (by first|omega|(simp only [Int.natAbs_neg];omega)) w (MD (inS hw 3 rfl la)) (MD (inS hw 4 rfl lb))) rfl (AG (B_ (c:=(decide ((0:Int)<=(Cp x.natAbs y.natAbs)))) rfl rfl rfl) rfl (OkL.nil (OkQ.subF (sL [2,3,4,23] rfl) (OkQ.then_ ?_)))))))))))
  refine OkC.cond rfl (λhc1=>?_) (λhc1=>?_)
  ·replace hc1:=of_decide_eq_true hc1
   have hge:y.natAbs<=x.natAbs:=by exact Nat.le_of_not_lt λh=>by have:=(Ej (a:=x.natAbs) (b:=y.natAbs)).2 h;omega
   refine OkC.seq (CV [(0,true),(1,true),(2,true),(3,true),(4,true),(5,true),(6,false),(7,false),(8,false)] (sl sr) (Ag (v:=(pP b1 0)) rfl (AA rfl Tryz.underlying81 rfl Tryz.sizeOf4 rfl) (BQ 1 (Value.bool (decide (x<0))) KL rfl (Ag (v:=(pP b1 1)) rfl (AA rfl Tryz.underlying81 rfl Tryz.sizeOf79 rfl) (BQ 1 (Bu a.n) FA rfl (Ag (v:=(pP b2 1)) rfl (AA rfl Tryz.underlying81 rfl Tryz.sizeOf79 rfl) (BQ 0 (Bu b.n) FA rfl (OkE.imp rfl (cN (S:=S) (x:=(x.natAbs-y.natAbs)) (args:=[(Bu a.n),(Bu b.n)]) Tryz.call210 (λw hw=>LZ a.n b.n (by first|omega|(simp only [Int.natAbs_neg];omega)) (by first|omega|(simp only [Int.natAbs_neg];omega)) w (MD (inS hw 3 rfl la)) (MD (inS hw 4 rfl lb))) rfl rfl rfl λg3 lg3=>OkE.back (sl (sl sr)) (OkE.imp rfl ?_))))))))))
   exact cZ (S:=S) (x:=(x+y)) (args:=[(Value.bool (decide (x<0))),(Bu g3)]) Tryz.call163 (λw hw=>(Ah.cast (T:=λi=>ZX i) (Jk hc0 hge) (C5 (decide (x<0)) g3 w (inS hw 0 rfl lg3)))) rfl rfl rfl λg4 lg4=>OkE.back (sl (sl (sl sr))) (OkE.imp rfl (Gh rfl Tryz.sizeOf81 rfl (OkE.back (sl (sl (sl sr))) (OkE.nil (OkQ.subF (sL [2,3,4] rfl) (OkQ.then_ (OkC.ret (OkQ.then_ret (ret_one rfl (Aj (i:=2) (cs:=Cn g4) rfl rfl Tryz.isAgg81 Tryz.sizeOf81 rfl) (λw hw=>Df (a:=(g4:ZX (x+y))) hw (inS hw 0 rfl lg4) rfl))))))))))
  ·replace hc1:=of_decide_eq_false hc1
   have hge:¬y.natAbs<=x.natAbs:=by have:=(Ej (a:=x.natAbs) (b:=y.natAbs)).1 (by omega);omega
   refine OkC.skip (q1 (CV [(0,true),(1,true),(2,true),(3,true),(4,true),(5,true),(6,false),(7,false),(8,false)] (sl sr) (Ag (v:=(pP b2 0)) rfl (AA rfl Tryz.underlying81 rfl Tryz.sizeOf4 rfl) (BQ 0 (Value.bool (decide (y<0))) KL rfl (Ag (v:=(pP b2 1)) rfl (AA rfl Tryz.underlying81 rfl Tryz.sizeOf79 rfl) (BQ 0 (Bu b.n) FA rfl (Ag (v:=(pP b1 1)) rfl (AA rfl Tryz.underlying81 rfl Tryz.sizeOf79 rfl) (BQ 1 (Bu a.n) FA rfl (OkE.imp rfl (cN (S:=S) (x:=(y.natAbs-x.natAbs)) (args:=[(Bu b.n),(Bu a.n)]) Tryz.call210 (λw hw=>LZ b.n a.n (by first|omega|(simp only [Int.natAbs_neg];omega)) (by first|omega|(simp only [Int.natAbs_neg];omega)) w (MD (inS hw 4 rfl lb)) (MD (inS hw 3 rfl la))) rfl rfl rfl λg5 lg5=>OkE.back (sl (sl sr)) ?_))))))))))
   exact OkE.imp rfl (cZ (S:=S) (x:=(x+y)) (args:=[(Value.bool (decide (y<0))),(Bu g5)]) Tryz.call163 (λw hw=>(Ah.cast (T:=λi=>ZX i) (JO hc0 hge) (C5 (decide (y<0)) g5 w (inS hw 0 rfl lg5)))) rfl rfl rfl λg6 lg6=>OkE.back (sl (sl (sl sr))) (OkE.imp rfl (Gh rfl Tryz.sizeOf81 rfl (OkE.back (sl (sl (sl sr))) (OkE.nil (OkQ.subF (sL [2,3,4] rfl) (OkQ.then_ (OkC.ret (ret_one rfl (Aj (i:=2) (cs:=Cn g6) rfl rfl Tryz.isAgg81 Tryz.sizeOf81 rfl) (λw hw=>Df (a:=(g6:ZX (x+y))) hw (inS hw 0 rfl lg6) rfl))))))))))
theorem LY {x y:Int} (a:ZX x) (b:ZX y) (hx:nw x.natAbs<=67108864) (hy:nw y.natAbs<=67108864) (w:World) {S:Nat->Prop} (ha:Ro S w a) (hb:Ro S w b)  :Calls Tryz.prog 160 #[(aG (Cn a)),(aG (Cn b))] w (Ah (ZX (x*y)) S w):=by
 have la:=CU (W:=w) ha
 have lb:=CU (W:=w) hb
 refine Aa (args:=[(aG (Cn a)),(aG (Cn b))]) (L:=[By a.n,By b.n]) Tryz.func160 rfl rfl (AK rfl) (VV ha (VV hb Al)) (OkC.subF (sL [0,1] rfl) (q4 (Bg (cs:=Cn a) rfl λb1=>Bg (cs:=Cn b) rfl λb2=>al QP rfl λb3=>q6 (sL [2,3,4] rfl) (CV [(0,true),(1,true),(2,true),(3,true),(4,true),(5,true),(6,true),(7,true),(8,true),(9,false),(10,false),(11,false)] (sl sr) (Ag (v:=(pP b1 0)) rfl (AA rfl Tryz.underlying81 rfl Tryz.sizeOf4 rfl) (BQ 1 (Value.bool (decide (x<0))) KL rfl (Ag (v:=(pP b2 0)) rfl (AA rfl Tryz.underlying81 rfl Tryz.sizeOf4 rfl) (BQ 0 (Value.bool (decide (y<0))) KL rfl ?_))))))))
 refine Ag rfl (IM (c:=(!(decide (x<0) == decide (y<0)))) rfl rfl Tryz.underlying4 rfl) (Ag (v:=(pP b1 1)) rfl (AA rfl Tryz.underlying81 rfl Tryz.sizeOf79 rfl) (BQ 1 (Bu a.n) FA rfl (Ag (v:=(pP b2 1)) rfl (AA rfl Tryz.underlying81 rfl Tryz.sizeOf79 rfl) (BQ 0 (Bu b.n) FA rfl (OkE.imp rfl (cN (S:=S) (x:=(x.natAbs*y.natAbs)) (args:=[(Bu a.n),(Bu b.n)]) Tryz.call162 (λw hw=>LV a.n b.n (by first|omega|(simp only [Int.natAbs_neg];omega)) (by first|omega|(simp only [Int.natAbs_neg];omega)) w (MD (inS hw 3 rfl la)) (MD (inS hw 4 rfl lb))) rfl rfl rfl λg1 lg1=>OkE.back (sl (sl sr)) (OkE.imp rfl (cZ (S:=S) (x:=(x*y)) (args:=[(Value.bool (!(decide (x<0) == decide (y<0)))),(Bu g1)]) Tryz.call163 (λw hw=>(Ah.cast (T:=λi=>ZX i) (PM x y) (C5 (!(decide (x<0) == decide (y<0))) g1 w (inS hw 0 rfl lg1)))) rfl rfl rfl λg2 lg2=>OkE.back (sl (sl (sl sr))) (OkE.imp rfl ?_)))))))))
 exact Gh rfl Tryz.sizeOf81 rfl (OkE.back (sl (sl (sl sr))) (OkE.nil (OkQ.subF (sL [4] rfl) (OkQ.then_ (OkC.ret (ret_one rfl (Aj (i:=2) (cs:=Cn g2) rfl rfl Tryz.isAgg81 Tryz.sizeOf81 rfl) (λw hw=>Df (a:=(g2:ZX (x*y))) hw (inS hw 0 rfl lg2) rfl)))))))
theorem NO {x:Int} (a:ZX x) (hx:nw x.natAbs<=67108864) (w:World) {S:Nat->Prop} (ha:Ro S w a)  :Calls Tryz.prog 145 #[(aG (Cn a))] w (Ai w (Value.string (txB (txI x)))):=by
 have la:=CU (W:=w) ha
 refine Aa (args:=[(aG (Cn a))]) (L:=[By a.n]) Tryz.func145 rfl rfl (AK rfl) (VV ha Al) (OkC.subF (sL [0] rfl) (q4 (Bg (cs:=Cn a) rfl λb1=>asg' rfl (q6 (sL [1,2] rfl) (q4 (AG (v:=(pP b1 0)) (AA rfl Tryz.underlying81 rfl Tryz.sizeOf4 rfl) rfl (Aw 0 (Value.bool (decide (x<0))) KL rfl (OkL.nil (OkQ.subF (sL [1,2,4] rfl) (OkQ.then_ ?_))))))))))
 refine OkC.cond rfl (λhc0=>?_) (λhc0=>?_)
 ·replace hc0:=of_decide_eq_true hc0
  have he:txI x=45::Lib.decDigits x.natAbs:=by unfold txI;rw [if_pos hc0]
  exact q4 (AG (v:=(pP b1 1)) (AA rfl Tryz.underlying81 rfl Tryz.sizeOf79 rfl) rfl (Aw 0 (Bu a.n) FA rfl (Cq Tryz.call146 (λw hw=>J1 a.n (by first|omega|(simp only [Int.natAbs_neg];omega)) w (MD (inS hw 1 rfl la))) rfl (AG (v:=(Value.string (txB (45::Lib.decDigits x.natAbs)))) (CH (r:=(txB (45::Lib.decDigits x.natAbs))) rfl rfl (by have:=OL x.natAbs;rw [C_];show 1+_<=_;omega) (DF [45] _)) rfl (asg' rfl (OkL.nil (OkQ.subF (sL [1,2] rfl) (OkQ.then_ (OkC.ret (OkQ.then_ret (ret_one rfl (rd_tmp (v:=(Value.string (txB (45::Lib.decDigits x.natAbs)))) rfl) (λw hw=>⟨by rw [he],hw.out⟩))))))))))))
 ·replace hc0:=of_decide_eq_false hc0
  have he:txI x=Lib.decDigits x.natAbs:=by unfold txI;rw [if_neg hc0]
  exact OkC.skip (q2 (AG (v:=(pP b1 1)) (AA rfl Tryz.underlying81 rfl Tryz.sizeOf79 rfl) rfl (Aw 0 (Bu a.n) FA rfl (Cq Tryz.call146 (λw hw=>J1 a.n (by first|omega|(simp only [Int.natAbs_neg];omega)) w (MD (inS hw 1 rfl la))) rfl (asg' rfl (OkL.nil (OkQ.subF (sL [1,2] rfl) (OkQ.then_ (OkC.ret (ret_one rfl (rd_tmp (v:=(Value.string (txB (Lib.decDigits x.natAbs)))) rfl) (λw hw=>⟨by rw [he],hw.out⟩)))))))))))
end
theorem MA (n:Int):decide (n.sign<0)=decide (n<0):=by
  rcases Int.lt_trichotomy n 0 with h|h|h
  · rw [Int.sign_eq_neg_one_of_neg h];simp [h]
  · subst h;rfl
  · rw [Int.sign_eq_one_of_pos h];simp;omega
theorem Tj {n:Int} {d:Nat} (hd:d≠0):Dc (decide (n<0)) (n.natAbs/Nat.gcd n.natAbs d)=(mkRat n d).num:=by rw [O2 hd,MA]
theorem S7 {n:Int} {d:Nat} (hd:d≠0):d/Nat.gcd n.natAbs d-1=(mkRat n d).den-1:=by rw [Pe hd]
theorem YY {b:Rat} (h:b≠0):mkRat (Dc (decide (b.num<0)) b.den) b.num.natAbs=b⁻¹:=by rw [<-Hq h,MA]
theorem Vs {a b:Rat}:a*b⁻¹=a/b:=(Rat.div_def a b).symm
theorem Sc {a b:Rat} (h:b.num.sign=0):(0:Rat)=a/b:=by
  have h1:b=0:=Rat.num_eq_zero.1 (Int.sign_eq_zero_iff_zero.1 h)
  rw [h1,Rat.div_def,Rat.inv_zero,Rat.mul_zero]
def FX.zero:FX 0:=⟨⟨NX.zero⟩,NX.zero⟩
theorem RO {x0:Pt} (f0:PX x0):Instr.fill (λi=>some (i*6,6)) ((Array.range (1*6)).map ((Value.agg (#[(Value.bool false),(Value.slice none 0 0),(Value.slice none 0 0),(Value.bool false),(Value.slice none 0 0),(Value.slice none 0 0)])).cells[·%(Value.agg (#[(Value.bool false),(Value.slice none 0 0),(Value.slice none 0 0),(Value.bool false),(Value.slice none 0 0),(Value.slice none 0 0)])).cells.size]!)) [(0,.agg (D7 f0).toArray)]=some (D7 f0).toArray:=by kernel_rfl
def L1 (q:Rat):List UInt8:=if q.den-1=0 then txI q.num else txI q.num++47::Lib.decDigits q.den
theorem UR (z:Int):(txI z).length<=10*nw z.natAbs+2:=by
  have:=OL z.natAbs
  unfold txI;split<;>simp<;>omega
end Go.Proofs.YtpolhpjiahbidaaGreatDoor
