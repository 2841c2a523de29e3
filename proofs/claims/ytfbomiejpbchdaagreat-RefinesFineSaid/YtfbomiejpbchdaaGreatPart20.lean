import Derived.Test.YtfbomiejpbchdaaGreatPart19
namespace Go.Proofs.YtfbomiejpbchdaaGreat
open Go Go.RowKit
set_option linter.unusedVariables false
set_option linter.unusedSimpArgs false
section
set_option maxRecDepth 100000
set_option maxHeartbeats 2000000 in
theorem TZ (a b c p:Pt) (hs:Bo a+Bo b+Bo c+Bo p<=268435456) (h:AQ a b c≠0) (w:World)  :Calls Tryz.prog 22 #[(aG (Ae a)),(aG (Ae b)),(aG (Ae c)),(aG (Ae p))] w (Am w (vN (F7 (AQ p b c/AQ a b c) (AQ a p c/AQ a b c) (AQ a b p/AQ a b c)))):=by
 obtain ⟨l0,hl0⟩:∃l,l=AQ p b c/AQ a b c:=⟨_,rfl⟩
 obtain ⟨l1,hl1⟩:∃l,l=AQ a p c/AQ a b c:=⟨_,rfl⟩
 obtain ⟨l2,hl2⟩:∃l,l=AQ a b p/AQ a b c:=⟨_,rfl⟩
 refine Ac (args:=[(aG (Ae a)),(aG (Ae b)),(aG (Ae c)),(aG (Ae p))]) Tryz.func22 rfl rfl (Ad rfl) (AG.subF (sL [0,1,2,3] rfl) (q4 (Bl (cs:=Ae a) rfl λb1=>Bl (cs:=Ae b) rfl λb2=>Bl (cs:=Ae c) rfl λb3=>?_)))
 refine Bl (cs:=Ae p) rfl λb4=>AK rfl (q3 (sL [4,5,6,7,8] rfl) (A7 3 BC rfl (A7 2 BC rfl (A7 1 BC rfl ?_))))
 refine A7 0 BC rfl (Ey (args:=[(aG (Ae a)),(aG (Ae b)),(aG (Ae c)),(aG (Ae p))]) (v:=(Value.tuple #[(aG (AD l0++AD l1++AD l2)),(vI 0)])) Tryz.call62 (λw hw=>(by rw [hl0,hl1,hl2];exact WX a b c p (by omega) h w)) rfl (AO rfl (AJ (AT (v:=(aG (AD l0++AD l1++AD l2))) rfl rfl) rfl (AJ (AT (v:=(vI 0)) rfl rfl) rfl (al K5 rfl λb5=>?_)))))
 refine Ap rfl Tryz.sizeOf123 rfl (AK rfl (q6 (sL [8,9,10] rfl) (q4 (AO rfl (AJ (B8 (c:=false) rfl rfl (by decide)) rfl ?_)))))
 refine AF.nil (AC.subF (sL [8,9,22] rfl) (AC.then_ (AG.cond_false rfl (AG.skip (q2 ?_)))))
 refine AK rfl (q6 (sL [8,9,11] rfl) (q4 (AO rfl (AF.nil (AC.then_ ?_)))))
 refine AG.block (AG.unroll 5 (Dr.step (q4 (AJ (Af (c:=true) rfl rfl (by decide)) rfl (AF.nil ?_)))))
 refine q1 (AG.cond_true rfl (AG.skip (q1 (AG.block (q4 ?_)))))
 refine AO rfl (AK rfl (q3 (sL [8,9,11,23,12] rfl) (AO rfl (AJ (v:=(pP b5 0)) (AE (j:=0) rfl rfl Tryz.underlying123 Tryz.sizeOf53 rfl (by decide) rfl) rfl (EU 0 (AD l0) BO rfl ?_)))))
 refine BU Tryz.call63 (EQ l0) rfl (AF.nil (AC.subF (sL [8,9,11,23,29] rfl) (AC.then_ ?_)))
 refine AG.jn1 (tg λ(pl0:Nat)=>pl0=1+zq l0/\¬l0.num.sign = -1) (tg λ(pl0:Nat)=>[(9,(pP b5 0)),(23,(vI 0)),(11,(vN pl0))]) (tg λ(pl0:Nat)=>[Ah b5 123 (AD l0++AD l1++AD l2),Ah b4 55 (Ae p),Ah b3 55 (Ae c),Ah b2 55 (Ae b),Ah b1 55 (Ae a)]) ?_ ?_
 ·skip
  refine AG.block (q4 (AJ (Be (c:=(decide (l0.num.sign=(-1:Int)))) rfl rfl rfl) rfl (AK rfl (AF.nil (AC.subF (sL [8,9,11,23,29,30] rfl) ?_)))))
  refine AC.then_ ?_
  refine AG.cond rfl (λhc2=>?_) (λhc2=>?_)
  ·replace hc2:=of_decide_eq_true hc2
   have hz:=O6 (x:=l0) (y:=l1) (z:=l2) hc2
   refine q4 (AK rfl (AF.nil (AC.then_ (AG.ret (AC.in_ret ?_)))))
   exact AC.join1_ret (AC.in_ret (AC.then_ret (AC.then_ret (AC.in_ret (AC.then_ret (AR rfl (Ai (v:=(vI 0)) rfl) (λw hw=>⟨by rw [<-hl0,<-hl1,<-hl2,hz];rfl,hw.out⟩)))))))
  ·replace hc2:=of_decide_eq_false hc2
   refine q4 (AJ (Be (c:=(decide (l0.num.sign=(0:Int)))) rfl rfl rfl) rfl (AK rfl (AF.nil (AC.subF (sL [8,9,11,23,29,32] rfl) (AC.then_ ?_)))))
   refine AG.cond rfl (λhc3=>?_) (λhc3=>?_)
   ·replace hc3:=of_decide_eq_true hc3
    refine AG.region (AO rfl (AJ (AX (c:=(2:Int)) rfl rfl (by decide)) rfl (AK rfl (AF.nil (AC.subF (sL [8,9,11,23,29] rfl) ?_)))))
    exact AC.in_normal (AC.join1 2 (⟨by simp [PS hc3],hc2⟩) (sF rfl) sr)
   ·replace hc3:=of_decide_eq_false hc3
    exact AG.skip (AC.in_normal (AC.join1 1 (⟨by simp [NP hc3],hc2⟩) (sF rfl) sr))
 ·intro pl0 hJ
  obtain ⟨e0,n0⟩:=hJ
  have zz0:=Tj l0
  refine AC.in_normal (AC.then_ (AG.region (AJ (AX (c:=(1:Int)) rfl rfl (by decide)) rfl (AO rfl (AF.nil ?_)))))
  refine AC.subF (sL [9,23,11] rfl) (AC.again (Dr.step (q4 (AJ (Af (c:=true) rfl rfl (by decide)) rfl (AF.nil ?_)))))
  refine q1 (AG.cond_true rfl (AG.skip (q1 (AG.block (q4 ?_)))))
  refine AO rfl (AK rfl (q3 (sL [9,23,11,12] rfl) (AO rfl (AJ (v:=(pP b5 5)) (AE (j:=1) rfl rfl Tryz.underlying123 Tryz.sizeOf53 rfl (by decide) rfl) rfl (EU 0 (AD l1) BO rfl ?_)))))
  refine BU Tryz.call63 (EQ l1) rfl (AF.nil (AC.subF (sL [9,23,11,29] rfl) (AC.then_ ?_)))
  refine AG.jn1 (tg λ(pl1:Nat)=>pl1=pl0+zq l1/\¬l1.num.sign = -1) (tg λ(pl1:Nat)=>[(9,(pP b5 0)),(23,(vI 1)),(11,(vN pl1))]) (tg λ(pl1:Nat)=>[Ah b5 123 (AD l0++AD l1++AD l2),Ah b4 55 (Ae p),Ah b3 55 (Ae c),Ah b2 55 (Ae b),Ah b1 55 (Ae a)]) ?_ ?_
  ·skip
   refine AG.block (q4 (AJ (Be (c:=(decide (l1.num.sign=(-1:Int)))) rfl rfl rfl) rfl (AK rfl (AF.nil (AC.subF (sL [9,23,11,29,30] rfl) ?_)))))
   refine AC.then_ ?_
   refine AG.cond rfl (λhc2=>?_) (λhc2=>?_)
   ·replace hc2:=of_decide_eq_true hc2
    have hz:=Pg (x:=l0) (y:=l1) (z:=l2) hc2
    refine q4 (AK rfl (AF.nil (AC.then_ (AG.ret (AC.in_ret ?_)))))
    exact AC.join1_ret (AC.in_ret (AC.then_ret (AC.then_ret (AC.in_ret (AC.then_ret (AR rfl (Ai (v:=(vI 0)) rfl) (λw hw=>⟨by rw [<-hl0,<-hl1,<-hl2,hz];rfl,hw.out⟩)))))))
   ·replace hc2:=of_decide_eq_false hc2
    refine q4 (AJ (Be (c:=(decide (l1.num.sign=(0:Int)))) rfl rfl rfl) rfl (AK rfl (AF.nil (AC.subF (sL [9,23,11,29,32] rfl) (AC.then_ ?_)))))
    refine AG.cond rfl (λhc3=>?_) (λhc3=>?_)
    ·replace hc3:=of_decide_eq_true hc3
     refine AG.region (AO rfl (AJ (AX (c:=((pl0+1:Nat):Int)) rfl rfl (Ab (a:=pl0) (b:=1) (by omega))) rfl (AK rfl (AF.nil (AC.subF (sL [9,23,11,29] rfl) ?_)))))
     exact AC.in_normal (AC.join1 (pl0+1) (⟨by simp [PS hc3],hc2⟩) (sF rfl) sr)
    ·replace hc3:=of_decide_eq_false hc3
     exact AG.skip (AC.in_normal (AC.join1 pl0 (⟨by simp [NP hc3],hc2⟩) (sF rfl) sr))
  ·intro pl1 hJ
   obtain ⟨e1,n1⟩:=hJ
   have zz1:=Tj l1
   refine AC.in_normal (AC.then_ (AG.region (AJ (AX (c:=(2:Int)) rfl rfl (by decide)) rfl (AO rfl (AF.nil ?_)))))
   refine AC.subF (sL [9,23,11] rfl) (AC.again (Dr.step (q4 (AJ (Af (c:=true) rfl rfl (by decide)) rfl (AF.nil ?_)))))
   refine q1 (AG.cond_true rfl (AG.skip (q1 (AG.block (q4 ?_)))))
   refine AO rfl (AK rfl (q3 (sL [9,23,11,12] rfl) (AO rfl (AJ (v:=(pP b5 10)) (AE (j:=2) rfl rfl Tryz.underlying123 Tryz.sizeOf53 rfl (by decide) rfl) rfl (EU 0 (AD l2) BO rfl ?_)))))
   refine BU Tryz.call63 (EQ l2) rfl (AF.nil (AC.subF (sL [9,23,11,29] rfl) (AC.then_ ?_)))
   refine AG.jn1 (tg λ(pl2:Nat)=>pl2=pl1+zq l2/\¬l2.num.sign = -1) (tg λ(pl2:Nat)=>[(9,(pP b5 0)),(23,(vI 2)),(11,(vN pl2))]) (tg λ(pl2:Nat)=>[Ah b5 123 (AD l0++AD l1++AD l2),Ah b4 55 (Ae p),Ah b3 55 (Ae c),Ah b2 55 (Ae b),Ah b1 55 (Ae a)]) ?_ ?_
   ·skip
    refine AG.block (q4 (AJ (Be (c:=(decide (l2.num.sign=(-1:Int)))) rfl rfl rfl) rfl (AK rfl (AF.nil (AC.subF (sL [9,23,11,29,30] rfl) ?_)))))
    refine AC.then_ ?_
    refine AG.cond rfl (λhc2=>?_) (λhc2=>?_)
    ·replace hc2:=of_decide_eq_true hc2
     have hz:=Ot (x:=l0) (y:=l1) (z:=l2) hc2
     refine q4 (AK rfl (AF.nil (AC.then_ (AG.ret (AC.in_ret ?_)))))
     exact AC.join1_ret (AC.in_ret (AC.then_ret (AC.then_ret (AC.in_ret (AC.then_ret (AR rfl (Ai (v:=(vI 0)) rfl) (λw hw=>⟨by rw [<-hl0,<-hl1,<-hl2,hz];rfl,hw.out⟩)))))))
    ·replace hc2:=of_decide_eq_false hc2
     refine q4 (AJ (Be (c:=(decide (l2.num.sign=(0:Int)))) rfl rfl rfl) rfl (AK rfl (AF.nil (AC.subF (sL [9,23,11,29,32] rfl) (AC.then_ ?_)))))
     refine AG.cond rfl (λhc3=>?_) (λhc3=>?_)
     ·replace hc3:=of_decide_eq_true hc3
      refine AG.region (AO rfl (AJ (AX (c:=((pl1+1:Nat):Int)) rfl rfl (Ab (a:=pl1) (b:=1) (by omega))) rfl (AK rfl (AF.nil (AC.subF (sL [9,23,11,29] rfl) ?_)))))
      exact AC.in_normal (AC.join1 (pl1+1) (⟨by simp [PS hc3],hc2⟩) (sF rfl) sr)
     ·replace hc3:=of_decide_eq_false hc3
      exact AG.skip (AC.in_normal (AC.join1 pl1 (⟨by simp [NP hc3],hc2⟩) (sF rfl) sr))
   ·intro pl2 hJ
    obtain ⟨e2,n2⟩:=hJ
    have zz2:=Tj l2
    refine AC.in_normal (AC.then_ (AG.region (AJ (AX (c:=(3:Int)) rfl rfl (by decide)) rfl (AO rfl (AF.nil ?_)))))
    refine AC.subF (sL [9,23,11] rfl) (AC.again (Dr.step (q4 (AJ (Af (c:=false) rfl rfl (by decide)) rfl (AF.nil ?_)))))
    refine q1 (AG.cond_false rfl (AG.exit (AC.then_exit (AC.then_exit (AC.in_exit ?_)))))
    refine q2 (AO rfl (AK rfl (AF.nil (AC.subF (sL [9,23,11,8] rfl) (AC.then_ ?_)))))
    exact AG.ret (AR rfl (Ai (v:=(vN pl2)) rfl) (λw hw=>⟨by rw [<-hl0,<-hl1,<-hl2,S3 n0 n1 n2,e2,e1,e0],hw.out⟩))
theorem Rx (a b c p:Pt) (hs:Bo a+Bo b+Bo c+Bo p<=268435456) (h:AQ a b c=0) (w:World)  :Calls Tryz.prog 22 #[(aG (Ae a)),(aG (Ae b)),(aG (Ae c)),(aG (Ae p))] w (Am w (vI 0)):=by
 refine Ac (args:=[(aG (Ae a)),(aG (Ae b)),(aG (Ae c)),(aG (Ae p))]) Tryz.func22 rfl rfl (Ad rfl) (AG.subF (sL [0,1,2,3] rfl) (q4 (Bl (cs:=Ae a) rfl λb1=>Bl (cs:=Ae b) rfl λb2=>Bl (cs:=Ae c) rfl λb3=>?_)))
 refine Bl (cs:=Ae p) rfl λb4=>AK rfl (q3 (sL [4,5,6,7,8] rfl) (A7 3 BC rfl (A7 2 BC rfl (A7 1 BC rfl ?_))))
 refine A7 0 BC rfl (BU Tryz.call62 (Tt a b c p (by omega) h) rfl (AO rfl (AJ (AT (v:=(aG (AD (0:Rat)++AD (0:Rat)++AD (0:Rat)))) rfl rfl) rfl (AJ (AT (v:=(vI 1)) rfl rfl) rfl (al K5 rfl λb5=>?_)))))
 refine Ap rfl Tryz.sizeOf123 rfl (AK rfl (q6 (sL [8,9,10] rfl) (q4 (AO rfl (AJ (B8 (c:=true) rfl rfl (by decide)) rfl ?_)))))
 refine AF.nil (AC.subF (sL [8,9,22] rfl) (AC.then_ (AG.cond_true rfl (q4 (AK rfl ?_)))))
 exact AF.nil (AC.subF (sL [8,9] rfl) (AC.then_ (AG.ret (AC.then_ret (AR rfl (Ai (v:=(vI 0)) rfl) (λw hw=>⟨rfl,hw.out⟩))))))
end
section
set_option maxRecDepth 100000
end
section
section
variable {P:Program} {n:Nat} {F:List (Nat×Value)} {w0:BP} {L:List As} {v:Value} {x:Operand} {d:Option Tmp} {t:TypeId} {p:String} {af:Array Edge} {g:Option (Nat×Bool)}
theorem Dx {tx e:TypeId} {b len k:Nat} (hx:evF F x=some (.pointer (some ⟨b,0,none⟩))) (hu:P.underlying tx=some (.array len e)) (hs:∀w,(sizeOf e).run P w=.ok k w) (h0:0<len) :
    Ex P n F w0 L ⟨d,.slice tx x none none none,t,p,af,g⟩ (.slice (some ⟨b,0,none⟩) len len):=λA w ha _=>by
  have e1:¬len=0:=by omega
  simp [execOp,ha.ev hx,Instr.sliceAt,run_underlying hu,Instr.sureAddr,Instr.sliceBounds,Instr.sliceBound,hs,e1,Addr.add_lit]
end
end
section
set_option maxRecDepth 100000
end
section
set_option maxRecDepth 100000
end
section
set_option maxRecDepth 100000
end
end Go.Proofs.YtfbomiejpbchdaaGreat
