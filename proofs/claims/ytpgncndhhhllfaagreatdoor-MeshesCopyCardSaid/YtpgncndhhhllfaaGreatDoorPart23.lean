import Derived.Test.YtpgncndhhhllfaaGreatDoorPart21
import Derived.Test.YtpgncndhhhllfaaGreatDoorPart22
namespace Go.Proofs.YtpgncndhhhllfaaGreatDoor
open Go Go.RowKit Go.Proofs.Tryz
set_option linter.unusedVariables false
set_option linter.unusedSimpArgs false
section
set_option maxRecDepth 100000
theorem R9 (a:NV) (hla:(dg a.x).length<=549755813888) (w:World) (ha:Holds w (nA a)):Calls Tryz.prog 134 #[(nV a)] w (Al w (Value.string (txB (Lib.decDigits a.x)))):=by
 refine Aj (args:=[(nV a)]) (L:=[nA a]) Tryz.func134 rfl rfl (AV rfl) (Bw rfl ha (Ax)) (AE.subF (sL [0] rfl) (q4 (asg' rfl (AD.nil (q1 ?_)))))
 refine q4 (AQ rfl (AK (v:=(vN ((dg a.x).length))) (AF rfl Tryz.underlying71) rfl (AK (BR (c:=(decide (((dg a.x).length)=0))) rfl rfl (LX (a:=(dg a.x).length) (b:=0))) rfl (AD.nil (AC.subF (sL [0,2,9] rfl) ?_)))))
 refine AC.then_ ?_
 refine AE.cond rfl (λhc0=>?_) (λhc0=>?_)
 ·replace hc0:=of_decide_eq_true hc0
  have hx0:a.x=0:=by rcases Nat.eq_zero_or_pos a.x with h|h;exact h;have:=(If h).2;omega
  exact q4 (asg' rfl (AD.nil (AC.then_ (AE.ret (AC.then_ret (AJ rfl (AS (v:=(Value.string (ByteArray.mk #[48]))) rfl) (λw hw=>⟨by rw [hx0,I1];rfl,hw.out⟩)))))))
 ·replace hc0:=of_decide_eq_false hc0
  have hx0:0<a.x:=by rcases Nat.eq_zero_or_pos a.x with h|h;(exact absurd (by rw [h];rfl) hc0);exact h
  refine AE.skip (q2 (asg' rfl (AD.nil (q1 (q4 ?_)))))
  refine asg' rfl (AD.nil (AC.then_ (AE.block ?_)))
  refine AE.lp2 (tg λ(i:Nat) (s:List UInt8)=>i<(dg a.x).length/\s=Ek (4*i) a.x\/i=(dg a.x).length/\s=Lib.decDigits a.x) (tg λ(i:Nat) (s:List UInt8)=>[(0,(nV a)),(2,(Value.string (ByteArray.mk #[]))),(4,(vN i)),(3,(Value.string (txB s)))]) (tg λ(i:Nat) (s:List UInt8)=>[nA a]) (tg λ(i:Nat) (s:List UInt8)=>(dg a.x).length-i) 0 ([]) (.inl ⟨by omega,rfl⟩) (sF rfl) sr (λi s hJ=>?_)
  have hj:=hJ
  refine AE.seq (q4 (AQ rfl (AQ rfl (AK (v:=(vN ((dg a.x).length))) (AF rfl Tryz.underlying71) rfl (AK (Ai (c:=(decide (i<((dg a.x).length)))) rfl rfl (CI (a:=i) (b:=(dg a.x).length))) rfl ?_)))))
  refine AD.nil (AC.subF (sL [0,2,4,3,13] rfl) (AC.then_ ?_))
  refine AE.cond rfl (λhc1=>?_) (λhc1=>?_)
  ·replace hc1:=of_decide_eq_true hc1
   have hs:s=Ek (4*i) a.x:=(hj.resolve_right (by omega)).2
   have gd:=FS a.x i
   refine AE.skip (q1 (AE.block (q4 (AQ rfl (AQ rfl ?_)))))
   refine AK (v:=(pP (pB a.p) (pO a.p+i*1))) (AO (j:=i) rfl rfl a.ok Tryz.underlying71 Tryz.sizeOf3 rfl (by omega)) rfl (AK (Ah (v:=(vN ((dg a.x).getD i 0))) (i:=0) rfl rfl (a.ok.ne (by omega)) Bo (DC (ds:=dg a.x) (j:=i) (by omega))) rfl (asg' rfl (q3 (sL [0,2,4,3,5] rfl) (asg' rfl (AD.nil ?_)))))
   refine AC.then_ (AE.block ?_)
   refine AE.lp3 (tg λ(d:Nat) (k:Nat) (s2:List UInt8)=>k<=4/\d=(dg a.x).getD i 0/10^k/\s2=Ek (4*i+k) a.x/\(i+1=(dg a.x).length->k=0\/(dg a.x).getD i 0/10^(k-1)≠0)) (tg λ(d:Nat) (k:Nat) (s2:List UInt8)=>[(0,(nV a)),(2,(Value.string (ByteArray.mk #[]))),(4,(vN i)),(5,(vN d)),(6,(vN k)),(3,(Value.string (txB s2)))]) (tg λ(d:Nat) (k:Nat) (s2:List UInt8)=>[nA a]) (tg λ(d:Nat) (k:Nat) (s2:List UInt8)=>4-k) ((dg a.x).getD i 0) 0 s (⟨by omega,by simp,by rw [hs];rfl,λ_=>.inl rfl⟩) (sF rfl) sr (λd k s2 hJ=>?_)
   obtain ⟨hk4,hd,hs2,hnz⟩:=hJ
   have hdl:d<=(dg a.x).getD i 0:=by rw [hd];exact Nat.div_le_self _ _
   refine AE.seq (q4 (AQ rfl (AK (Ai (c:=(decide (k<4))) rfl rfl (CI (a:=k) (b:=4))) rfl (AQ rfl ?_))))
   refine AD.mid (FM:=[(0,(nV a)),(2,(Value.string (ByteArray.mk #[]))),(4,(vN i)),(5,(vN d)),(6,(vN k)),(3,(Value.string (txB s2))),(20,(vN k)),(21,(Value.bool (decide (k<4)))),(22,(Value.bool (decide (k<4)))),(32,(Value.bool ((decide (k<4))&&((decide ((i+1)<((dg a.x).length)))||(decide (0<d))))))]) (LM:=[nA a]) 10 ?_ ?_
   ·rcases Bool.eq_false_or_eq_true (decide (k<4)) with hg1|hg1
    ·skip
     refine AD.retell (k:=22) (u:=Value.bool true) rfl (by rw [hg1]) ?_
     have hg1':=hg1
     replace hg1':=of_decide_eq_true hg1'
     refine AD.step (v:=(vN i)) (AB rfl) (A9 rfl) rfl (AV rfl) (AD.step (v:=(vN (i+1))) (AB rfl) (Ac (c:=((i+1:Nat):Int)) rfl rfl (Ae (a:=i) (b:=1) (by omega))) rfl (AV rfl) (AD.step (v:=(nV a)) (AB rfl) (A9 rfl) rfl (AV rfl) (AD.step (v:=(vN ((dg a.x).length))) (AB rfl) (AF rfl Tryz.underlying71) rfl (AV rfl) (AD.step (v:=(Value.bool (decide ((i+1)<((dg a.x).length))))) (AB rfl) (Ai (c:=(decide ((i+1)<((dg a.x).length)))) rfl rfl (CI (a:=i+1) (b:=(dg a.x).length))) rfl (AV rfl) (AD.step (v:=(Value.bool (decide ((i+1)<((dg a.x).length))))) (AB rfl) (A9 rfl) rfl (AV rfl) ?_)))))
     refine AD.mid (FM:=[(0,(nV a)),(2,(Value.string (ByteArray.mk #[]))),(4,(vN i)),(5,(vN d)),(6,(vN k)),(3,(Value.string (txB s2))),(20,(vN k)),(21,(Value.bool (decide (k<4)))),(22,(Value.bool true)),(23,(vN i)),(24,(vN (i+1))),(25,(nV a)),(26,(vN ((dg a.x).length))),(27,(Value.bool (decide ((i+1)<((dg a.x).length))))),(28,(Value.bool (decide ((i+1)<((dg a.x).length))))),(31,(Value.bool ((decide ((i+1)<((dg a.x).length)))||(decide (0<d)))))]) (LM:=[nA a]) 3 ?_ ?_
     ·rcases Bool.eq_false_or_eq_true (decide ((i+1)<((dg a.x).length))) with hg2|hg2
      ·skip
       refine AD.retell (k:=28) (u:=Value.bool true) rfl (by rw [hg2]) ?_
       have hg2':=hg2
       replace hg2':=of_decide_eq_true hg2'
       exact AD.skip (AH rfl) rfl (AV rfl) (AD.skip (AH rfl) rfl (AV rfl) (AD.step (v:=(Value.bool true)) (AB rfl) (AX rfl rfl) rfl (AV rfl) (AD.nil (AC.mid (sS rfl (sS rfl (sS rfl (sS rfl (sS rfl (sS rfl (sS rfl (sS rfl (sS rfl (sS rfl (sS rfl (sS rfl (sS rfl (sS rfl (sS (by first|rfl|(rw [hg2];rfl)|rw [hg2]) (sS (by first|rfl|(rw [hg2];rfl)|rw [hg2]) (sN))))))))))))))))) (List.Sublist.refl _)))))
      ·skip
       refine AD.retell (k:=28) (u:=Value.bool false) rfl (by rw [hg2]) ?_
       have hg2':=hg2
       replace hg2':=of_decide_eq_false hg2'
       exact AD.step (v:=(vN d)) (AB rfl) (A9 rfl) rfl (AV rfl) (AD.step (v:=(Value.bool (decide (0<d)))) (AB rfl) (Bb (c:=(decide (0<d))) rfl rfl (CI (a:=0) (b:=d))) rfl (AV rfl) (AD.step (v:=(Value.bool (decide (0<d)))) (AB rfl) (AR rfl rfl) rfl (AV rfl) (AD.nil (AC.mid (sS rfl (sS rfl (sS rfl (sS rfl (sS rfl (sS rfl (sS rfl (sS rfl (sS rfl (sS rfl (sS rfl (sS rfl (sS rfl (sS rfl (sS (by first|rfl|(rw [hg2];rfl)|rw [hg2]) (sS (by first|rfl|(rw [hg2];rfl)|rw [hg2]) (sN))))))))))))))))) (List.Sublist.refl _)))))
     exact AK (v:=(Value.bool ((decide ((i+1)<((dg a.x).length)))||(decide (0<d))))) (AX rfl rfl) rfl (AD.nil (AC.mid (sS rfl (sS rfl (sS rfl (sS rfl (sS rfl (sS rfl (sS rfl (sS rfl (sS (by first|rfl|(rw [hg1];rfl)|rw [hg1]) (sS (by first|rfl|(rw [hg1];rfl)|rw [hg1]) (sN))))))))))) (List.Sublist.refl _)))
    ·skip
     refine AD.retell (k:=22) (u:=Value.bool false) rfl (by rw [hg1]) ?_
     have hg1':=hg1
     replace hg1':=of_decide_eq_false hg1'
     refine AD.skip (AH rfl) rfl (AV rfl) (AD.skip (AH rfl) rfl (AV rfl) (AD.skip (AH rfl) rfl (AV rfl) (AD.skip (AH rfl) rfl (AV rfl) (AD.skip (AH rfl) rfl (AV rfl) (AD.skip (AH rfl) rfl (AV rfl) ?_)))))
     exact AD.skip (Md rfl rfl rfl) rfl (AV rfl) (AD.skip (Md rfl rfl rfl) rfl (AV rfl) (AD.skip (AH rfl) rfl (AV rfl) (AK (v:=(Value.bool false)) (AR rfl rfl) rfl (AD.nil (AC.mid (sS rfl (sS rfl (sS rfl (sS rfl (sS rfl (sS rfl (sS rfl (sS rfl (sS (by first|rfl|(rw [hg1];rfl)|rw [hg1]) (sS (by first|rfl|(rw [hg1];rfl)|rw [hg1]) (sN))))))))))) (List.Sublist.refl _))))))
   refine AD.nil (AC.subF (sL [0,2,4,5,6,3,32] rfl) (AC.then_ ?_))
   refine AE.cond rfl (λhc2=>?_) (λhc2=>?_)
   ·simp only [Bool.and_eq_true,Bool.or_eq_true,Bool.and_eq_false_iff,Bool.or_eq_false_iff,Bool.not_eq_true',Bool.not_eq_false',decide_eq_true_eq,decide_eq_false_iff_not] at hc2
    refine AE.skip (q1 (AE.block (q4 (AQ rfl (AK (Cb (c:=((d%10:Nat):Int)) rfl rfl (by omega) (Jm (a:=d) (b:=10))) rfl ?_)))))
    refine AK (Ac (c:=((48+(d%10):Nat):Int)) rfl rfl (Ae (a:=48) (b:=d%10) (by omega))) rfl (AK (A6 (c:=((48+(d%10):Nat):Int)) rfl Tryz.underlying3 Tryz.underlying5 (La (by omega))) rfl (AK (v:=(Value.string (txB [UInt8.ofNat (48+d%10)]))) (Lf (a:=48+d%10) rfl Tryz.underlying5 Tryz.underlying9 (by omega)) rfl (AQ rfl (AK (v:=(Value.string (txB (Ek (4*i+(k+1)) a.x)))) (Bl (r:=(txB (Ek (4*i+(k+1)) a.x))) rfl rfl (by rw [C_,C_,hs2,L3];simp;omega) (by rw [hs2];exact RC hc2.1 hd)) rfl (asg' rfl ?_)))))
    refine AD.nil (AC.subF (sL [0,2,4,5,6,3] rfl) (AC.then_ (AE.region (AQ rfl (AK (EH (c:=((d/10:Nat):Int)) rfl rfl (by omega) (ET (a:=d) (b:=10) (by omega))) rfl ?_)))))
    refine asg' rfl (AD.nil (AC.subF (sL [0,2,4,5,6,3] rfl) (AC.in_normal (AC.then_ (AE.region ?_)))))
    exact AQ rfl (AK (Ac (c:=((k+1:Nat):Int)) rfl rfl (Ae (a:=k) (b:=1) (by omega))) rfl (asg' rfl (AD.nil (AC.subF (sL [0,2,4,5,6,3] rfl) (AC.round3 (d/10) (k+1) (Ek (4*i+(k+1)) a.x) (⟨by omega,by rw [hd,Nat.div_div_eq_div_mul,<-Nat.pow_succ],rfl,λh=>.inr (by rw [Nat.add_sub_cancel,<-hd];omega)⟩) (by omega) (sF rfl) sr)))))
   ·simp only [Bool.and_eq_true,Bool.or_eq_true,Bool.and_eq_false_iff,Bool.or_eq_false_iff,Bool.not_eq_true',Bool.not_eq_false',decide_eq_true_eq,decide_eq_false_iff_not] at hc2
    have hout:i+1<(dg a.x).length/\s2=Ek (4*(i+1)) a.x\/i+1=(dg a.x).length/\s2=Lib.decDigits a.x:=by
        rcases Nat.lt_or_ge (i+1) (dg a.x).length with h|h
        ·exact .inl ⟨h,by rw [hs2,show k=4 by omega];rfl⟩
        ·exact .inr ⟨by omega,by rw [hs2];exact SN hx0 (by omega) hk4 hd (hnz (by omega)) (by omega)⟩
    refine AE.exit (AC.then_exit (AC.round3_exit (AC.in_exit (AC.in_normal (AC.then_ ?_)))))
    exact AE.region (AQ rfl (AK (Ac (c:=((i+1:Nat):Int)) rfl rfl (Ae (a:=i) (b:=1) (by omega))) rfl (asg' rfl (AD.nil (AC.subF (sL [0,2,4,5,6,3] rfl) (AC.round2 (i+1) s2 (hout) (by omega) (sF rfl) sr))))))
  ·replace hc1:=of_decide_eq_false hc1
   have hs:s=Lib.decDigits a.x:=(hj.resolve_left (by omega)).2
   refine AE.exit (AC.then_exit (AC.round2_exit (AC.in_exit (q2 (AQ rfl ?_)))))
   exact asg' rfl (AD.nil (AC.subF (sL [0,2,4,3] rfl) (AC.then_ (AE.ret (AJ rfl (AS (v:=(Value.string (txB s))) rfl) (λw hw=>⟨by rw [hs],hw.out⟩))))))
end
section
set_option maxRecDepth 100000
end
end Go.Proofs.YtpgncndhhhllfaaGreatDoor
