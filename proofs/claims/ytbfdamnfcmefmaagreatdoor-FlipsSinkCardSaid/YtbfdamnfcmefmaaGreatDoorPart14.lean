import Derived.Test.YtbfdamnfcmefmaaGreatDoorPart13
namespace Go.Proofs.YtbfdamnfcmefmaaGreatDoor
open Go Go.RowKit Go.Proofs.Tryz
open Go.Value renaming slice→qz,bool→qa
set_option linter.unusedVariables false
set_option linter.unusedSimpArgs false
section
set_option maxRecDepth 100000
theorem CW (x0:Rat) (x1:Rat) (x2:Rat):Instr.fill (λi=>some (i*5,5)) (AG (0:Rat)++AG (0:Rat)++AG (0:Rat)).toArray [(0,.agg (AG x0).toArray),(1,.agg (AG x1).toArray),(2,.agg (AG x2).toArray)]=some (AG x0++AG x1++AG x2).toArray:=by kernel_rfl
theorem XI (a b c p:Pt) (hs:Bn a+Bn b+Bn c+Bn p<=268435456) (h:AF a b c≠0) (w:World)  :Calls prog 187 #[(aG (AZ a)),(aG (AZ b)),(aG (AZ c)),(aG (AZ p))] w (Ag w (Value.tuple #[(aG (AG (AF p b c/AF a b c)++AG (AF a p c/AF a b c)++AG (AF a b p/AF a b c))),(vI 0)])):=by
 refine AW (args:=[(aG (AZ a)),(aG (AZ b)),(aG (AZ c)),(aG (AZ p))]) func187 O O (BE O) (zM (sL [0,1,2,3] O) (q4 (BZ (cs:=AZ a) O λb1=>BZ (cs:=AZ b) O λb2=>BZ (cs:=AZ c) O λb3=>BZ (cs:=AZ p) O λb4=>al NN O λb5=>asg' O (q3 (sL [4,5,6,7,8,9] O) (Ai 4 BC O (Ai 3 BC O ?_))))))
 refine Ai 2 BC O ?_
 have hz1:=D0 a b c
 refine ck' call127 (EC a b c Z) O (al DV O λb6=>Ah O sizeOf68 O (q6 (sL [4,5,6,7,8,9,10] O) (rN [(0,true),(1,true),(2,true),(4,true),(5,true),(6,true),(8,true),(9,true),(10,true),(3,false),(7,false),(11,false),(12,true)] [⟨13,11,253,AG (0:Rat)++AG (0:Rat)++AG (0:Rat)⟩] [(14,false)] sr jV (λ_ _ d _ _ h=>by cases d<;>exact h) (FL O O NN O (Hj)) O (El 2 BC O (El 4 BC O (El 3 BC O (El 5 BC O (El 2 BC O (El 3 BC O (El 5 BC O ?_))))))))))
 refine El 4 BC O (El 2 BC O (zk O λEF EL=>?_))
 have hz2:=D0 p b c
 refine ck' call127 (EC p b c Z) O (zf sr O (zk O λEF EL=>?_))
 have hz3:=D0 a p c
 refine ck' call127 (EC a p c Z) O (zf sr O (zk O λEF EL=>?_))
 have hz4:=D0 a b p
 refine ck' call127 (EC a b p Z) O (zf sr O (GA (v:=(aG (AG (AF p b c)++AG (AF a p c)++AG (AF a b p)))) O (Af (zs:=AG (0:Rat)++AG (0:Rat)++AG (0:Rat)) (vs:=AG (AF p b c)++AG (AF a p c)++AG (AF a b p)) (pv:=[(0,(aG (AG (AF p b c)))),(1,(aG (AG (AF a p c)))),(2,(aG (AG (AF a b p))))]) zeroValue253 underlying253 sizeOf68 O (CW (AF p b c) (AF a p c) (AF a b p))) O (yH λb7=>zN O (Ah O sizeOf253 O (zG (sl sr) (zQ (zB (sL [4,5,6,8,9,10,11] O) (q1 (q4 (AM O ?_))))))))))
 refine oNl' (zA (zI (yC 5 (zZ (q4 (AC (Aa (c:=true) O O jY) O (oNl' (q1 (zV O (zC (q1 ?_)))))))))))
 refine zI (q4 (AM O (asg' O (q6 (sL [4,5,6,8,9,10,11,32,12] O) (rN [(0,true),(1,true),(2,true),(3,true),(4,false),(5,true),(6,true),(7,true)] [⟨8,13,68,AG (0:Rat)⟩] [(9,false),(10,true)] sr jV (λ_ _ d _ _ h=>by cases d<;>exact h) (FL O O DV O (Hj)) O (Qy O (GA (v:=(pP b7 0)) O (AB (j:=0) O O underlying253 sizeOf68 O jY O) O (Wv 0 (AG (AF p b c)) Bf O (El 1 Bf O (zk O λEF EL=>?_))))))))))
 have hz5:=Ki (a:=AF p b c) (b:=AF a b c) (by assumption)
 refine ck' call128 (KK (AF p b c) (AF a b c) Z (by assumption)) O (zf sr O (Qy O (GA O (AJ (v:=(aG (AG ((AF p b c)/(AF a b c))))) O O) O (GA O (AJ (v:=(vI 0)) O O) O (yH λb8=>zN O (Ah O sizeOf68 O (zG (sl sr) (pS' O (zQ (zB (sL [4,5,6,8,9,10,11,32,12,13,14] O) ?_))))))))))
 refine q1 (q4 (AM O (AC (Bw (c:=false) O O jY) O (oNl' (zB (sL [4,5,6,8,9,10,11,32,12,13,44] O) (zA (zP O (zC (zA (zD (AM O ?_)))))))))))
 refine Ai 0 Bf O (AC (v:=(pP b7 0)) (AB (j:=0) O O underlying253 sizeOf68 O jY O) O (Fm 1 (off:=0) (vs:=AG ((AF p b c)/(AF a b c))) (cs':=AG ((AF p b c)/(AF a b c))++AG (AF a p c)++AG (AF a b p)) (AK O) O sizeOf68 O (oNl' (zB (sL [4,5,6,8,9,10,11,32,12,13] O) (zF (zA (zD (AC (AR (c:=(1:Int)) O O jY) O (AM O (oNl' (zB (sL [4,5,6,8,9,10,11,32,12,13] O) ?_)))))))))))
 refine zl (zZ (q4 (AC (Aa (c:=true) O O jY) O (oNl' (q1 (zV O (zC (q1 (zI (q4 (AM O ?_)))))))))))
 refine asg' O (q6 (sL [4,5,6,8,9,10,11,32,12,13] O) (zM (sL [4,5,6,8,9,10,11,32,12] O) (rN [(0,true),(1,true),(2,true),(3,true),(4,false),(5,true),(6,true),(7,true)] [⟨8,13,68,AG (0:Rat)⟩] [(9,false),(10,true)] sr jV (λ_ _ d _ _ h=>by cases d<;>exact h) (FL O O DV O (Hj)) O (Qy O (GA (v:=(pP b7 5)) O (AB (j:=1) O O underlying253 sizeOf68 O jY O) O (Wv 1 (AG (AF a p c)) Bf O (El 2 Bf O (zk O λEF EL=>?_))))))))
 have hz6:=Ki (a:=AF a p c) (b:=AF a b c) (by assumption)
 refine ck' call128 (KK (AF a p c) (AF a b c) Z (by assumption)) O (zf sr O (Qy O (GA O (AJ (v:=(aG (AG ((AF a p c)/(AF a b c))))) O O) O (GA O (AJ (v:=(vI 0)) O O) O (yH λb9=>zN O (Ah O sizeOf68 O (zG (sl sr) (pS' O (zQ (zB (sL [4,5,6,8,9,10,11,32,12,13,14] O) ?_))))))))))
 refine q1 (q4 (AM O (AC (Bw (c:=false) O O jY) O (oNl' (zB (sL [4,5,6,8,9,10,11,32,12,13,44] O) (zA (zP O (zC (zA (zD (AM O ?_)))))))))))
 refine Ai 0 Bf O (AC (v:=(pP b7 5)) (AB (j:=1) O O underlying253 sizeOf68 O jY O) O (Fm 2 (off:=5) (vs:=AG ((AF a p c)/(AF a b c))) (cs':=AG ((AF p b c)/(AF a b c))++AG ((AF a p c)/(AF a b c))++AG (AF a b p)) (AK O) O sizeOf68 O (oNl' (zB (sL [4,5,6,8,9,10,11,32,12,13] O) (zF (zA (zD (AC (AR (c:=(2:Int)) O O jY) O (AM O (oNl' (zB (sL [4,5,6,8,9,10,11,32,12,13] O) ?_)))))))))))
 refine zl (zZ (q4 (AC (Aa (c:=true) O O jY) O (oNl' (q1 (zV O (zC (q1 (zI (q4 (AM O ?_)))))))))))
 refine asg' O (q6 (sL [4,5,6,8,9,10,11,32,12,13] O) (zM (sL [4,5,6,8,9,10,11,32,12] O) (rN [(0,true),(1,true),(2,true),(3,true),(4,false),(5,true),(6,true),(7,true)] [⟨8,13,68,AG (0:Rat)⟩] [(9,false),(10,true)] sr jV (λ_ _ d _ _ h=>by cases d<;>exact h) (FL O O DV O (Hj)) O (Qy O (GA (v:=(pP b7 10)) O (AB (j:=2) O O underlying253 sizeOf68 O jY O) O (Wv 2 (AG (AF a b p)) Bf O (El 3 Bf O (zk O λEF EL=>?_))))))))
 have hz7:=Ki (a:=AF a b p) (b:=AF a b c) (by assumption)
 refine ck' call128 (KK (AF a b p) (AF a b c) Z (by assumption)) O (zf sr O (Qy O (GA O (AJ (v:=(aG (AG ((AF a b p)/(AF a b c))))) O O) O (GA O (AJ (v:=(vI 0)) O O) O (yH λb10=>zN O (Ah O sizeOf68 O (zG (sl sr) (pS' O (zQ (zB (sL [4,5,6,8,9,10,11,32,12,13,14] O) ?_))))))))))
 refine q1 (q4 (AM O (AC (Bw (c:=false) O O jY) O (oNl' (zB (sL [4,5,6,8,9,10,11,32,12,13,44] O) (zA (zP O (zC (zA (zD (AM O ?_)))))))))))
 refine Ai 0 Bf O (AC (v:=(pP b7 10)) (AB (j:=2) O O underlying253 sizeOf68 O jY O) O (Fm 3 (off:=10) (vs:=AG ((AF a b p)/(AF a b c))) (cs':=AG ((AF p b c)/(AF a b c))++AG ((AF a p c)/(AF a b c))++AG ((AF a b p)/(AF a b c))) (AK O) O sizeOf68 O (oNl' (zB (sL [4,5,6,8,9,10,11,32,12,13] O) (zF (zA (zD (AC (AR (c:=(3:Int)) O O jY) O (AM O (oNl' (zB (sL [4,5,6,8,9,10,11,32,12,13] O) ?_)))))))))))
 refine zl (zZ (q4 (AC (Aa (c:=false) O O jY) O (oNl' (q1 (zP O (zU (zO (zO (zR (q2 ?_)))))))))))
 exact Ai 3 cN O (Fm 5 (off:=0) (vs:=AG ((AF p b c)/(AF a b c))++AG ((AF a p c)/(AF a b c))++AG ((AF a b p)/(AF a b c))) (cs':=AG ((AF p b c)/(AF a b c))++AG ((AF a p c)/(AF a b c))++AG ((AF a b p)/(AF a b c))) (AK O) O sizeOf253 O (asg' O (oNl' (zB (sL [4,5,6,8,9,10,11,32,12,13] O) (zA (zH (Bu O (Ap (i:=5) (cs:=AG ((AF p b c)/(AF a b c))++AG ((AF a p c)/(AF a b c))++AG ((AF a b p)/(AF a b c))) O O isAgg253 sizeOf253 O) (rd_tmp (v:=(vI 0)) O) (λw hw=>⟨rfl,hw.out⟩))))))))
theorem K9  :Instr.fill (λi=>some (i*5,5)) (AG (0:Rat)++AG (0:Rat)++AG (0:Rat)).toArray []=some (AG (0:Rat)++AG (0:Rat)++AG (0:Rat)).toArray:=by kernel_rfl
theorem Tl (a b c p:Pt) (hs:Bn a+Bn b+Bn c+Bn p<=268435456) (h:AF a b c=0) (w:World)  :Calls prog 187 #[(aG (AZ a)),(aG (AZ b)),(aG (AZ c)),(aG (AZ p))] w (Ag w (Value.tuple #[(aG (AG (0:Rat)++AG (0:Rat)++AG (0:Rat))),(vI 1)])):=by
 refine AW (args:=[(aG (AZ a)),(aG (AZ b)),(aG (AZ c)),(aG (AZ p))]) func187 O O (BE O) (zM (sL [0,1,2,3] O) (q4 (BZ (cs:=AZ a) O λb1=>BZ (cs:=AZ b) O λb2=>BZ (cs:=AZ c) O λb3=>BZ (cs:=AZ p) O λb4=>al NN O λb5=>asg' O (q3 (sL [4,5,6,7,8,9] O) (Ai 4 BC O (Ai 3 BC O ?_))))))
 refine Ai 2 BC O ?_
 have hz1:=D0 a b c
 refine ck' call127 (EC a b c Z) O (al DV O λb6=>Ah O sizeOf68 O (q6 (sL [4,5,6,7,8,9,10] O) (rN [(0,true),(1,true),(2,true),(4,true),(5,true),(6,true),(8,true),(9,true),(10,true),(3,false),(7,false),(11,false),(12,true)] [⟨13,11,253,AG (0:Rat)++AG (0:Rat)++AG (0:Rat)⟩] [(14,false)] sr jV (λ_ _ d _ _ h=>by cases d<;>exact h) (FL O O NN O (Hj)) O (El 2 BC O (El 4 BC O (El 3 BC O (El 5 BC O (El 2 BC O (El 3 BC O (El 5 BC O ?_))))))))))
 refine El 4 BC O (El 2 BC O (zk O λEF EL=>?_))
 have hz2:=D0 p b c
 refine ck' call127 (EC p b c Z) O (zf sr O (zk O λEF EL=>?_))
 have hz3:=D0 a p c
 refine ck' call127 (EC a p c Z) O (zf sr O (zk O λEF EL=>?_))
 have hz4:=D0 a b p
 refine ck' call127 (EC a b p Z) O (zf sr O (GA (v:=(aG (AG (AF p b c)++AG (AF a p c)++AG (AF a b p)))) O (Af (zs:=AG (0:Rat)++AG (0:Rat)++AG (0:Rat)) (vs:=AG (AF p b c)++AG (AF a p c)++AG (AF a b p)) (pv:=[(0,(aG (AG (AF p b c)))),(1,(aG (AG (AF a p c)))),(2,(aG (AG (AF a b p))))]) zeroValue253 underlying253 sizeOf68 O (CW (AF p b c) (AF a p c) (AF a b p))) O (yH λb7=>zN O (Ah O sizeOf253 O (zG (sl sr) (zQ (zB (sL [4,5,6,8,9,10,11] O) (q1 (q4 (AM O ?_))))))))))
 refine oNl' (zA (zI (yC 5 (zZ (q4 (AC (Aa (c:=true) O O jY) O (oNl' (q1 (zV O (zC (q1 ?_)))))))))))
 refine zI (q4 (AM O (asg' O (q6 (sL [4,5,6,8,9,10,11,32,12] O) (rN [(0,true),(1,true),(2,true),(3,true),(4,false),(5,true),(6,true),(7,true)] [⟨8,13,68,AG (0:Rat)⟩] [(9,false),(10,true)] sr jV (λ_ _ d _ _ h=>by cases d<;>exact h) (FL O O DV O (Hj)) O (Qy O (GA (v:=(pP b7 0)) O (AB (j:=0) O O underlying253 sizeOf68 O jY O) O (Wv 0 (AG (AF p b c)) Bf O (El 1 Bf O (zk O λEF EL=>C7 (args:=[(aG (AG (AF p b c))),(aG (AG (AF a b c)))]) (v:=(Value.tuple #[(aG (AG (0:Rat))),(vI 5)])) call128 (λw hw=>(by rw [h];exact Uy _ w)) O ?_))))))))))
 refine zf sr O (Qy O (GA O (AJ (v:=(aG (AG (0:Rat)))) O O) O (GA O (AJ (v:=(vI 5)) O O) O (yH λb8=>zN O (Ah O sizeOf68 O (zG (sl sr) (pS' O (zQ (zB (sL [4,5,6,8,9,10,11,32,12,13,14] O) (q1 ?_))))))))))
 refine q4 (AM O (AC (Bw (c:=true) O O jY) O (oNl' (zB (sL [4,5,6,8,9,10,11,32,12,13,44] O) (zA (zV O (q4 (AC (v:=(aG (AG (0:Rat)++AG (0:Rat)++AG (0:Rat)))) (Af (zs:=AG (0:Rat)++AG (0:Rat)++AG (0:Rat)) (vs:=AG (0:Rat)++AG (0:Rat)++AG (0:Rat)) (pv:=[]) zeroValue253 underlying253 sizeOf68 O (K9 )) O (Gc O sizeOf253 O (asg' O (oNl' ?_)))))))))))
 exact zB (sL [4,5,6,8,9,10,11,32,12,13] O) (zA (zH (zJ (zS (zJ (zJ (zS (zJ (Bu O (Ap (i:=3) (cs:=AG (0:Rat)++AG (0:Rat)++AG (0:Rat)) O O isAgg253 sizeOf253 O) (rd_tmp (v:=(vI 1)) O) (λw hw=>⟨rfl,hw.out⟩))))))))))
end
def zq (q:Rat):Nat:=if q.num.sign=0 then 1 else 0
def FR (x y z:Rat):Nat:=if x.num.sign = -1\/y.num.sign = -1\/z.num.sign = -1 then 0 else 1+zq x+zq y+zq z
theorem Q0 {x y z:Rat} (h:x.num.sign = -1):FR x y z=0:=if_pos (.inl h)
theorem Q1 {x y z:Rat} (h:y.num.sign = -1):FR x y z=0:=if_pos (.inr (.inl h))
theorem Q2 {x y z:Rat} (h:z.num.sign = -1):FR x y z=0:=if_pos (.inr (.inr h))
theorem W1 {x y z:Rat} (h1:¬x.num.sign = -1) (h2:¬y.num.sign = -1) (h3:¬z.num.sign = -1):FR x y z=1+zq x+zq y+zq z:=if_neg (by simp [h1,h2,h3])
theorem Q7 {x:Rat} (h:x.num.sign=0):zq x=1:=if_pos h
theorem Od {x:Rat} (h:¬x.num.sign=0):zq x=0:=if_neg h
theorem W6 (x:Rat):zq x<=1:=by unfold zq;split<;>omega
section
set_option maxRecDepth 100000
end
section
set_option maxRecDepth 100000
end
section
set_option maxRecDepth 100000
set_option maxHeartbeats 2000000 in
theorem UG (a b c p:Pt) (hs:Bn a+Bn b+Bn c+Bn p<=268435456) (h:AF a b c≠0) (w:World)  :Calls prog 137 #[(aG (AZ a)),(aG (AZ b)),(aG (AZ c)),(aG (AZ p))] w (Ag w (vN (FR (AF p b c/AF a b c) (AF a p c/AF a b c) (AF a b p/AF a b c)))):=by
 obtain ⟨l0,hl0⟩:∃l,l=AF p b c/AF a b c:=⟨_,rfl⟩
 obtain ⟨l1,hl1⟩:∃l,l=AF a p c/AF a b c:=⟨_,rfl⟩
 obtain ⟨l2,hl2⟩:∃l,l=AF a b p/AF a b c:=⟨_,rfl⟩
 refine AW (args:=[(aG (AZ a)),(aG (AZ b)),(aG (AZ c)),(aG (AZ p))]) func137 O O (BE O) (zM (sL [0,1,2,3] O) (q4 (BZ (cs:=AZ a) O λb1=>BZ (cs:=AZ b) O λb2=>BZ (cs:=AZ c) O λb3=>BZ (cs:=AZ p) O λb4=>asg' O (q3 (sL [4,5,6,7,8] O) (Ai 3 BC O (Ai 2 BC O (Ai 1 BC O ?_)))))))
 refine Ai 0 BC O (C7 (args:=[(aG (AZ a)),(aG (AZ b)),(aG (AZ c)),(aG (AZ p))]) (v:=(Value.tuple #[(aG (AG l0++AG l1++AG l2)),(vI 0)])) call187 (λw hw=>(by rw [hl0,hl1,hl2];exact XI a b c p Z h w)) O (AM O (AC (AJ (v:=(aG (AG l0++AG l1++AG l2))) O O) O (AC (AJ (v:=(vI 0)) O O) O (al NN O λb5=>Ah O sizeOf253 O (asg' O (q6 (sL [8,9,10] O) (q4 (AM O (AC (Bw (c:=false) O O jY) O ?_))))))))))
 refine oNl' (zB (sL [8,9,22] O) (zA (zP O (zC (q2 (asg' O (q6 (sL [8,9,11] O) (q4 (AM O (oNl' (zA ?_)))))))))))
 refine zI (yC 5 (zZ (q4 (AC (Aa (c:=true) O O jY) O (oNl' (q1 (zV O (zC (q1 (zI (q4 ?_)))))))))))
 refine AM O (asg' O (q3 (sL [8,9,11,23,12] O) (AM O (AC (v:=(pP b5 0)) (AB (j:=0) O O underlying253 sizeOf68 O jY O) O (Ds 0 (AG l0) Bf O (ck' call171 (Ec l0) O (oNl' (zB (sL [8,9,11,23,29] O) (zA ?_)))))))))
 refine yF (tg λ(pl0:Nat)=>pl0=1+zq l0/\¬l0.num.sign = -1) (tg λ(pl0:Nat)=>[(9,(pP b5 0)),(23,(vI 0)),(11,(vN pl0))]) (tg λ(pl0:Nat)=>[AX b5 253 (AG l0++AG l1++AG l2),AX b4 78 (AZ p),AX b3 78 (AZ c),AX b2 78 (AZ b),AX b1 78 (AZ a)]) ?_ ?_
 ·refine zI (q4 (AC (BM (c:=(decide (l0.num.sign=(-1:Int)))) O O O) O (asg' O (oNl' (zB (sL [8,9,11,23,29,30] O) (zA ?_))))))
  refine zL O (λhc2=>?_) (λhc2=>?_)
  ·replace hc2:=xU hc2
   have hz:=Q0 (x:=l0) (y:=l1) (z:=l2) hc2
   exact q4 (asg' O (oNl' (zA (zH (zS (yZ (zS (zJ (zJ (zS (zJ (ret_one O (rd_tmp (v:=(vI 0)) O) (λw hw=>⟨by rw [<-hl0,<-hl1,<-hl2,hz];rfl,hw.out⟩)))))))))))))
  ·replace hc2:=xT hc2
   refine q4 (AC (BM (c:=(decide (l0.num.sign=(0:Int)))) O O O) O (asg' O (oNl' (zB (sL [8,9,11,23,29,32] O) (zA ?_)))))
   refine zL O (λhc3=>?_) (λhc3=>?_)
   ·replace hc3:=xU hc3
    exact zD (AM O (AC (AR (c:=(2:Int)) O O jY) O (asg' O (oNl' (zB (sL [8,9,11,23,29] O) (zF (zj 2 (⟨by simp [Q7 hc3],hc2⟩) (sF O) sr)))))))
   ·replace hc3:=xT hc3
    exact zC (zF (zj 1 (⟨by simp [Od hc3],hc2⟩) (sF O) sr))
 ·intro pl0 hJ
  obtain ⟨e0,n0⟩:=hJ
  have zz0:=W6 l0
  refine zF (zA (zD (AC (AR (c:=(1:Int)) O O jY) O (AM O (oNl' (zB (sL [9,23,11] O) (zl (zZ (q4 (AC (Aa (c:=true) O O jY) O (oNl' ?_)))))))))))
  refine q1 (zV O (zC (q1 (zI (q4 (AM O (asg' O (q3 (sL [9,23,11,12] O) (AM O (AC (v:=(pP b5 5)) (AB (j:=1) O O underlying253 sizeOf68 O jY O) O (Ds 0 (AG l1) Bf O ?_)))))))))))
  refine ck' call171 (Ec l1) O (oNl' (zB (sL [9,23,11,29] O) (zA ?_)))
  refine yF (tg λ(pl1:Nat)=>pl1=pl0+zq l1/\¬l1.num.sign = -1) (tg λ(pl1:Nat)=>[(9,(pP b5 0)),(23,(vI 1)),(11,(vN pl1))]) (tg λ(pl1:Nat)=>[AX b5 253 (AG l0++AG l1++AG l2),AX b4 78 (AZ p),AX b3 78 (AZ c),AX b2 78 (AZ b),AX b1 78 (AZ a)]) ?_ ?_
  ·refine zI (q4 (AC (BM (c:=(decide (l1.num.sign=(-1:Int)))) O O O) O (asg' O (oNl' (zB (sL [9,23,11,29,30] O) (zA ?_))))))
   refine zL O (λhc2=>?_) (λhc2=>?_)
   ·replace hc2:=xU hc2
    have hz:=Q1 (x:=l0) (y:=l1) (z:=l2) hc2
    exact q4 (asg' O (oNl' (zA (zH (zS (yZ (zS (zJ (zJ (zS (zJ (ret_one O (rd_tmp (v:=(vI 0)) O) (λw hw=>⟨by rw [<-hl0,<-hl1,<-hl2,hz];rfl,hw.out⟩)))))))))))))
   ·replace hc2:=xT hc2
    refine q4 (AC (BM (c:=(decide (l1.num.sign=(0:Int)))) O O O) O (asg' O (oNl' (zB (sL [9,23,11,29,32] O) (zA ?_)))))
    refine zL O (λhc3=>?_) (λhc3=>?_)
    ·replace hc3:=xU hc3
     exact zD (AM O (AC (AR (c:=((pl0+1:Nat):Int)) O O (AS (a:=pl0) (b:=1) Z)) O (asg' O (oNl' (zB (sL [9,23,11,29] O) (zF (zj (pl0+1) (⟨by simp [Q7 hc3],hc2⟩) (sF O) sr)))))))
    ·replace hc3:=xT hc3
     exact zC (zF (zj pl0 (⟨by simp [Od hc3],hc2⟩) (sF O) sr))
  ·intro pl1 hJ
   obtain ⟨e1,n1⟩:=hJ
   have zz1:=W6 l1
   refine zF (zA (zD (AC (AR (c:=(2:Int)) O O jY) O (AM O (oNl' (zB (sL [9,23,11] O) (zl (zZ (q4 (AC (Aa (c:=true) O O jY) O (oNl' ?_)))))))))))
   refine q1 (zV O (zC (q1 (zI (q4 (AM O (asg' O (q3 (sL [9,23,11,12] O) (AM O (AC (v:=(pP b5 10)) (AB (j:=2) O O underlying253 sizeOf68 O jY O) O (Ds 0 (AG l2) Bf O ?_)))))))))))
   refine ck' call171 (Ec l2) O (oNl' (zB (sL [9,23,11,29] O) (zA ?_)))
   refine yF (tg λ(pl2:Nat)=>pl2=pl1+zq l2/\¬l2.num.sign = -1) (tg λ(pl2:Nat)=>[(9,(pP b5 0)),(23,(vI 2)),(11,(vN pl2))]) (tg λ(pl2:Nat)=>[AX b5 253 (AG l0++AG l1++AG l2),AX b4 78 (AZ p),AX b3 78 (AZ c),AX b2 78 (AZ b),AX b1 78 (AZ a)]) ?_ ?_
   ·refine zI (q4 (AC (BM (c:=(decide (l2.num.sign=(-1:Int)))) O O O) O (asg' O (oNl' (zB (sL [9,23,11,29,30] O) (zA ?_))))))
    refine zL O (λhc2=>?_) (λhc2=>?_)
    ·replace hc2:=xU hc2
     have hz:=Q2 (x:=l0) (y:=l1) (z:=l2) hc2
     exact q4 (asg' O (oNl' (zA (zH (zS (yZ (zS (zJ (zJ (zS (zJ (ret_one O (rd_tmp (v:=(vI 0)) O) (λw hw=>⟨by rw [<-hl0,<-hl1,<-hl2,hz];rfl,hw.out⟩)))))))))))))
    ·replace hc2:=xT hc2
     refine q4 (AC (BM (c:=(decide (l2.num.sign=(0:Int)))) O O O) O (asg' O (oNl' (zB (sL [9,23,11,29,32] O) (zA ?_)))))
     refine zL O (λhc3=>?_) (λhc3=>?_)
     ·replace hc3:=xU hc3
      exact zD (AM O (AC (AR (c:=((pl1+1:Nat):Int)) O O (AS (a:=pl1) (b:=1) Z)) O (asg' O (oNl' (zB (sL [9,23,11,29] O) (zF (zj (pl1+1) (⟨by simp [Q7 hc3],hc2⟩) (sF O) sr)))))))
     ·replace hc3:=xT hc3
      exact zC (zF (zj pl1 (⟨by simp [Od hc3],hc2⟩) (sF O) sr))
   ·intro pl2 hJ
    obtain ⟨e2,n2⟩:=hJ
    have zz2:=W6 l2
    refine zF (zA (zD (AC (AR (c:=(3:Int)) O O jY) O (AM O (oNl' (zB (sL [9,23,11] O) (zl (zZ (q4 (AC (Aa (c:=false) O O jY) O (oNl' ?_)))))))))))
    refine q1 (zP O (zU (zO (zO (zR (q2 (AM O (asg' O (oNl' (zB (sL [9,23,11,8] O) (zA ?_)))))))))))
    exact zH (ret_one O (rd_tmp (v:=(vN pl2)) O) (λw hw=>⟨by rw [<-hl0,<-hl1,<-hl2,W1 n0 n1 n2,e2,e1,e0],hw.out⟩))
theorem SJ (a b c p:Pt) (hs:Bn a+Bn b+Bn c+Bn p<=268435456) (h:AF a b c=0) (w:World)  :Calls prog 137 #[(aG (AZ a)),(aG (AZ b)),(aG (AZ c)),(aG (AZ p))] w (Ag w (vI 0)):=by
 refine AW (args:=[(aG (AZ a)),(aG (AZ b)),(aG (AZ c)),(aG (AZ p))]) func137 O O (BE O) (zM (sL [0,1,2,3] O) (q4 (BZ (cs:=AZ a) O λb1=>BZ (cs:=AZ b) O λb2=>BZ (cs:=AZ c) O λb3=>BZ (cs:=AZ p) O λb4=>asg' O (q3 (sL [4,5,6,7,8] O) (Ai 3 BC O (Ai 2 BC O (Ai 1 BC O ?_)))))))
 refine Ai 0 BC O (ck' call187 (Tl a b c p Z h) O (AM O (AC (AJ (v:=(aG (AG (0:Rat)++AG (0:Rat)++AG (0:Rat)))) O O) O (AC (AJ (v:=(vI 1)) O O) O (al NN O λb5=>Ah O sizeOf253 O (asg' O (q6 (sL [8,9,10] O) (q4 (AM O (AC (Bw (c:=true) O O jY) O ?_))))))))))
 exact oNl' (zB (sL [8,9,22] O) (zA (zV O (q4 (asg' O (oNl' (zB (sL [8,9] O) (zA (zH (zJ (ret_one O (rd_tmp (v:=(vI 0)) O) (λw hw=>⟨rfl,hw.out⟩))))))))))))
end
section
set_option maxRecDepth 100000
end
section
def FJ (qs:List Rat):List Value:=qs.flatMap AG
theorem GM (q:Rat):(AG q).length=5:=rfl
theorem LH:∀{qs:List Rat} {i:Nat},i<qs.length->((FJ qs).drop (i*5)).take 5=AG (qs.getD i 0)
  | [],i,h=>by simp at h
  | q::qs,0,_=>by
    simp only [FJ,List.flatMap_cons,Nat.zero_mul,List.drop_zero,List.getD_cons_zero]
    rw [List.take_append_of_le_length (by rw [GM];omega),List.take_of_length_le (by rw [GM];omega)]
  | q::qs,i+1,h=>by
    have ih:=LH (qs:=qs) (i:=i) (by simpa using h)
    simp only [FJ,List.flatMap_cons,List.getD_cons_succ] at ih ⊢
    rw [show (i+1)*5=(AG q).length+i*5 by rw [GM];omega,List.drop_append,List.drop_of_length_le (Nat.le_add_right _ _),List.nil_append,Nat.add_sub_cancel_left]
    exact ih
def GG (s:Rat) (qs:List Rat) (i:Nat):Rat:=(qs.take i).foldl (·+·) s
theorem SK {s:Rat} {qs:List Rat} {i:Nat} (h:i<qs.length):GG s qs (i+1)=GG s qs i+qs.getD i 0:=by
  unfold GG
  rw [List.take_add_one,List.foldl_append]
  simp [h]
section
variable {P:Program} {n:Nat} {F:List (Nat×Value)} {w0:BF} {L:List As} {v:Value} {x:Operand} {d:Option Tmp} {t:TypeId} {p:String} {af:Array Edge} {g:Option (Nat×Bool)}
theorem FE {tx e:TypeId} {b len k:Nat} (hx:evF F x=some (.pointer (jk b))) (hu:P.underlying tx=some (.array len e)) (hs:∀w,(sizeOf e).run P w=.ok k w) (h0:0<len) :
    Ex P n F w0 L ⟨d,.slice tx x none none none,t,p,af,g⟩ (.slice (jk b) len len):=λA w ha _=>by
  have e1:¬len=0:=by omega
  simp [execOp,ha.ev hx,Instr.sliceAt,run_underlying hu,Instr.sureAddr,Instr.sliceBounds,Instr.sliceBound,hs,e1,Addr.add_lit]
theorem Jj {a:Addr} (hx:evF F x=some (.pointer (some a))):Ex P n F w0 L ⟨d,.nilCheck x,t,p,af,g⟩ (.pointer (some a)):=λA w ha _=>by
  simp [execOp,ha.ev hx]
theorem V3 {f:FuncId} {xs:List Operand} {first args caps all:List Value} {ts:Array TypeId} (hf:evF F x=some (.func (.func f) first.toArray caps.toArray)) (hargs:xs.map (evF F)=args.map some)
    (hall:first++args++caps=all) (hc:∀args w,(callFunc f args).run P w=.ok (.enter f args) w) :
    ∀a w,C1 n a F->BI w0 w L->(execOp a.eval ⟨d,.call { callee:=.value x,args:=xs.toArray,argTypes:=ts },t,p,af,g⟩).run P w=.ok (.enter f all.toArray) w:=λA w ha _=>by
  have e1:xs.toArray.map A.eval=args.toArray:=by rw [<-K4 ha hargs];simp
  subst hall
  simp [execOp,resolve,ha.ev hf,Deferred.ofValue,e1,invoke,hc]
end
end
section
set_option maxRecDepth 100000
theorem OU (s a:Rat) (g:Nat) (hs:Sz s+Sz a<=549755813888) (w:World) (hg:w.heap[g]?=some (.cells (AG s).toArray 192 (0,0))):Calls prog 119 #[(pP g 0),(aG (AG a))] w (λe w'=>e=.returned (.tuple #[])/\Jy w w' (some g)/\w'.heap[g]?=some (.cells (AG (s+a)).toArray 192 (0,0))):=by
 refine Fv (args:=[(pP g 0),(aG (AG a))]) (g:=g) (T:=192) (cs:=AG s) func119 O O (BE O) hg (zM (sL [0,1] O) (q4 (BZ (cs:=AG a) O λb1=>oNl' (zB (sL [0,3] O) (zA (C_ (Ek 4++[(5,true),(4,false),(6,false),(7,true),(8,true),(9,false)]) (sk (sl sr)) (Bx O (Bx O (Aj (v:=(pP g 0)) O (Jj O) (Aj (v:=(pP g 0)) O (AA O underlying192 O sizeOf68 O) ?_))))))))))
 refine Es 0 Bf O (zN O (Ai 1 Bf O (zG (sk (sl sr)) (zN O ?_))))
 have hz1:=En s a
 exact ck' call58 (Ig s a (by (try simp only [Df]);omega)) O (zG (sk (sl sr)) (Aj (v:=(pP g 0)) O (Jj O) (Aj (v:=(pP g 0)) O (AA O underlying192 O sizeOf68 O) (zN O (CS O sizeOf68 O (zG (sk (sl sr)) (zQ (zB sN (Ls (.inr O) O  (λw hw=>⟨rfl,hw.1,hw.get (i:=1) O⟩))))))))))
theorem O4 (s:Rat) (qs:List Rat) (g bl n c:Nat) (hn:n<=qs.length) (hN:n<4611686018427387904) (hB:∀i,i<n->Sz (GG s qs i)+Sz (qs.getD i 0)<=549755813888) (hne:bl≠g) (w:World) (hg:w.heap[g]?=some (.cells (AG s).toArray 192 (0,0))) (hl:w.heap[bl]?=some (.cells (FJ qs).toArray 68 (0,0))):Calls prog 118 #[(Value.func (.func 119) #[(pP g 0)] #[]),(qz (jk bl) n c)] w (λe w'=>e=.returned (.tuple #[])/\Jy w w' (some g)/\w'.heap[g]?=some (.cells (AG (GG s qs n)).toArray 192 (0,0))):=by
 refine Fv (args:=[(Value.func (.func 119) #[(pP g 0)] #[]),(qz (jk bl) n c)]) (g:=g) (T:=192) (cs:=AG s) func118 O O (BE O) hg (zM (sL [0,1] O) (q4 (AM O (AC (v:=(vN n)) (AE O underlying190) O (AM O (oNl' (zB (sL [0,6,7,8] O) (zA (zI ?_)))))))))
 refine yG (tg λ(i:Nat) (q:Rat)=>i<=n/\q=GG s qs i) (tg λ(i:Nat) (q:Rat)=>[(0,(Value.func (.func 119) #[(pP g 0)] #[])),(6,(qz (jk bl) n c)),(7,(vN n)),(8,(vN i))]) (tg λ(i:Nat) (q:Rat)=>[AX g 192 (AG q)]) (tg λ(i:Nat) (q:Rat)=>n-i) 0 s (⟨xK _,rfl⟩) (sF O) sr (λi q hJ=>?_)
 obtain ⟨hi,hq⟩:=hJ
 refine q4 (AC (Aa (c:=(decide (i<n))) O O (DF (a:=i) (b:=n))) O (oNl' (q1 ?_)))
 refine zL O (λhc0=>?_) (λhc0=>?_)
 ·replace hc0:=xU hc0
  refine zC (q1 (zI (q4 (AC (v:=(pP bl (i*5))) (AH (j:=i) O O underlying190 sizeOf68 O Z jX) O (AC (v:=(aG (AG (qs.getD i 0)))) (FD (vs:=AG (qs.getD i 0)) O (λw' hw=>by have h9:=EH (off:=i*5) (k:=5) (hw.old (by simpa using hne) hl);rwa [LH Z] at h9) isAgg68 sizeOf68 O) O (al DV O λb1=>Ah O sizeOf68 O (oNl' (zB (sL [0,6,7,8,5] O) (zA (zD ?_))))))))))
  refine AM O (Ai 0 Bf O ?_)
  have hB2:=hB i hc0
  rw [<-hq] at hB2
  exact yU (v:=(Value.tuple #[])) (i:=1) (cs':=AG (q+(qs.getD i 0))) (L':=[AX b1 68 (AG (qs.getD i 0)),AX g 192 (AG (q+(qs.getD i 0)))]) (AK O) (V3 (first:=[(pP g 0)]) (args:=[(aG (AG (qs.getD i 0)))]) (caps:=[]) (all:=[(pP g 0),(aG (AG (qs.getD i 0)))]) O O O call119) O (λw hw=>OU q (qs.getD i 0) _ Z w (hw.get (i:=1) O)) (λd hd=>by cases hd<;>exact (BE O)) O (oNl' (zB (sL [0,6,7,8,5] O) (zF (zA (zD (AC (AR (c:=((i+1:Nat):Int)) O O (AS (a:=i) (b:=1) Z)) O (AM O (oNl' (zB (sL [0,6,7,8,5] O) (zn (i+1) (q+qs.getD i 0) (⟨Z,by rw [SK Z,hq]⟩) Z (sF O) (sl sr)))))))))))
 ·replace hc0:=xT hc0
  have hin:i=n:=by omega
  have hqn:q=GG s qs n:=by rw [hq,hin]
  exact zU (zO (zm (zR (Ls (.inr O) O  (λw hw=>⟨rfl,hw.1,by rw [<-hqn];exact hw.get (i:=0) O⟩)))))
end
section
set_option maxRecDepth 100000
theorem X3 {w:World} {b:Nat} {o:Obj} (h:w.heap[b]?=some o):b<w.heap.size:=by
 rcases Nat.lt_or_ge b w.heap.size with h1|h1
 ·exact h1
 ·rw [Array.getElem?_eq_none h1] at h;cases h
theorem Zf (qs:List Rat) (bl n c:Nat) (hn:n<=qs.length) (hN:n<4611686018427387904) (hB:∀i,i<n->Sz (GG 0 qs i)+Sz (qs.getD i 0)<=549755813888) (w:World) (hl:w.heap[bl]?=some (.cells (FJ qs).toArray 68 (0,0))):Calls prog 56 #[(qz (jk bl) n c)] w (Ag w (aG (AG (GG 0 qs n)))):=by
 refine AW (args:=[(qz (jk bl) n c)]) func56 O O (BE O) (zM (sL [0] O) (q4 (al DV O λb1=>oNl' (q2 (al cT O λb2=>oNl' (q2 (AC (v:=(Value.func (.func 119) #[(pP b2 0)] #[])) (Dw (vs:=[(pP b2 0)]) (us:=[]) O O) O (AM O (yU (v:=(Value.tuple #[])) (i:=0) (cs':=AG (GG 0 qs n)) (L':=[AX b2 192 (AG (GG 0 qs n)),AX b1 68 (AG (0:Rat))]) (AK O) (Ao (args:=[(Value.func (.func 119) #[(pP b2 0)] #[]),(qz (jk bl) n c)]) O O call118) O (λw hw=>O4 0 qs _ bl n _ hn hN hB (Nat.ne_of_lt (Nat.lt_of_lt_of_le (X3 hl) (hw.fresh (i:=0) O))) w (hw.get (i:=0) O) (hw.old jX hl)) (λd hd=>by cases hd<;>exact (BE O)) O ?_)))))))))
 exact q3 (sL [2,3] O) (AC (v:=(pP b2 0)) (AA O underlying192 O sizeOf68 O) O (Ai 0 Bf O (CS O sizeOf68 O (oNl' (zB (sL [2,3] O) (zA (zH (ret_one O (Ap (i:=1) (cs:=AG (GG 0 qs n)) O O isAgg68 sizeOf68 O) (λw hw=>⟨rfl,hw.out⟩)))))))))
theorem bR (x y z:Rat):GG 0 [x,y,z] 3=x+y+z:=by simp [GG,Rat.zero_add]
theorem XS (x y z:Rat):∀i,i<3->Sz (GG 0 [x,y,z] i)+Sz (([x,y,z]:List Rat).getD i 0)<=Sz x+Sz y+Sz z+3
 | 0,_=>by
  have h:Sz (0:Rat)<=1:=by decide +kernel
  show Sz (0:Rat)+Sz x<=_
  omega
 | 1,_=>by
  have e:GG 0 [x,y,z] 1=x:=by simp [GG,Rat.zero_add]
  rw [e]
  show Sz x+Sz y<=_
  omega
 | 2,_=>by
  have e:GG 0 [x,y,z] 2=x+y:=by simp [GG,Rat.zero_add]
  have h:=En x y
  rw [e]
  show Sz (x+y)+Sz z<=_
  omega
 | n+3,h=>by omega
theorem RB (x y z:Rat) (bl c:Nat) (h:Sz x+Sz y+Sz z<=137438953472) (w:World) (hl:w.heap[bl]?=some (.cells (FJ [x,y,z]).toArray 68 (0,0))):Calls prog 56 #[.slice (jk bl) 3 c] w (Ag w (.agg (AG (x+y+z)).toArray)):=by
 have h1:=Zf [x,y,z] bl 3 c jX Z (λi hi=>xN (XS x y z i hi) Z) w hl
 rwa [bR] at h1
theorem RZ (x0 x1 x2:Rat):Instr.fill (λi=>some (i*5,5)) ((Array.range (3*5)).map ((Value.agg (AG (0:Rat)).toArray).cells[·%(Value.agg (AG (0:Rat)).toArray).cells.size]!)) [(0,.agg (AG x0).toArray),(1,.agg (AG x1).toArray),(2,.agg (AG x2).toArray)]=some (FJ [x0,x1,x2]).toArray:=by kernel_rfl
end
section
set_option maxRecDepth 100000
theorem Yu (a b:Int):IntKind.i64.wrap (a.sign*b.sign)=a.sign*b.sign:=by
 rw [<-Int.sign_mul]
 generalize a*b=z
 rcases Int.lt_trichotomy z 0 with h|h|h
 ·rw [Int.sign_eq_neg_one_of_neg h];rfl
 ·subst h;rfl
 ·rw [Int.sign_eq_one_of_pos h];rfl
set_option maxHeartbeats 2000000 in
theorem SE (a b c d:Pt) (hs:Bn a+Bn b+Bn c+Bn d<=1048576) (w:World)  :Calls prog 110 #[(aG (AZ a)),(aG (AZ b)),(aG (AZ c)),(aG (AZ d))] w (Ag w (vI ((B6 (a-d) (a-d)*BN (b-d) (c-d)+B6 (b-d) (b-d)*BN (c-d) (a-d)+B6 (c-d) (c-d)*BN (a-d) (b-d)).num.sign*(AF a b c).num.sign))):=by
 refine AW (args:=[(aG (AZ a)),(aG (AZ b)),(aG (AZ c)),(aG (AZ d))]) func110 O O (BE O) (zM (sL [0,1,2,3] O) (q4 (BZ (cs:=AZ a) O λb1=>BZ (cs:=AZ b) O λb2=>BZ (cs:=AZ c) O λb3=>BZ (cs:=AZ d) O λb4=>asg' O (q6 (sL [4,5,6,7,8] O) (rN [(0,true),(1,true),(3,true),(4,true),(6,true),(7,true),(2,false),(5,false),(8,false)] [⟨9,9,78,AZ (⟨0,0⟩:Pt)⟩,⟨10,10,78,AZ (⟨0,0⟩:Pt)⟩,⟨11,11,78,AZ (⟨0,0⟩:Pt)⟩] [(12,false),(13,false),(14,false)] sr jV (λ_ _ d _ _ h=>by cases d<;>exact h) (FL O O Ep O (FL O O Ep O (FL O O Ep O (Hj)))) O (El 3 BC O (El 0 BC O ?_)))))))
 refine El 2 BC O (El 0 BC O (El 1 BC O (El 0 BC O (zk O λEF EL=>?_))))
 have hz1:=Dz a d
 refine ck' call120 (Fd a d Z) O (zf sr O (zk O λEF EL=>?_))
 have hz2:=Dz b d
 refine ck' call120 (Fd b d Z) O (zf sr O (zk O λEF EL=>?_))
 have hz3:=Dz c d
 refine ck' call120 (Fd c d Z) O (zf sr O (Bk.news3 λb5 b6 b7=>zN O (Ah O sizeOf78 O (zG (sl (sl (sl sr))) (zN O (CS O sizeOf78 O (zG (sl (sl (sl sr))) (zN O (Lv O sizeOf78 O (zG (sl (sl (sl sr))) ?_))))))))))
 refine zQ (zB (sL [4,5,6,8,11,10,9] O) (q1 (rN [(0,true),(1,true),(3,true),(4,true),(7,true),(8,true),(10,true),(11,true),(14,true),(15,true),(17,true),(18,true),(2,false),(5,false),(6,false),(9,false),(12,false),(13,false),(16,false),(19,false),(20,false),(21,false),(22,false)] [⟨23,12,68,AG (0:Rat)⟩] [(24,false)] sr jV (λ_ _ d _ _ h=>by cases d<;>exact h) (FL O O DV O (Hj)) O (El 0 BC O (El 0 BC O (El 1 BC O (El 2 BC O (El 1 BC O (El 1 BC O (El 2 BC O (El 0 BC O ?_)))))))))))
 refine El 2 BC O (El 2 BC O (El 0 BC O (El 1 BC O (zk O λEF EL=>?_))))
 have hz4:=Kj (a-d) (a-d)
 refine ck' call121 (KY (a-d) (a-d) Z) O (zf sr O (zk O λEF EL=>?_))
 have hz5:=Ft (b-d) (c-d)
 refine ck' call170 (F6 (b-d) (c-d) Z) O (zf sr O (zk O λEF EL=>?_))
 have hz6:=C2 (B6 (a-d) (a-d)) (BN (b-d) (c-d))
 refine ck' call59 (D7 (B6 (a-d) (a-d)) (BN (b-d) (c-d)) (by (try simp only [Df]);omega)) O (zf sr O (zk O λEF EL=>?_))
 have hz7:=Kj (b-d) (b-d)
 refine ck' call121 (KY (b-d) (b-d) Z) O (zf sr O (zk O λEF EL=>?_))
 have hz8:=Ft (c-d) (a-d)
 refine ck' call170 (F6 (c-d) (a-d) Z) O (zf sr O (zk O λEF EL=>?_))
 have hz9:=C2 (B6 (b-d) (b-d)) (BN (c-d) (a-d))
 refine ck' call59 (D7 (B6 (b-d) (b-d)) (BN (c-d) (a-d)) (by (try simp only [Df]);omega)) O (zf sr O (zk O λEF EL=>?_))
 have hz10:=Kj (c-d) (c-d)
 refine ck' call121 (KY (c-d) (c-d) Z) O (zf sr O (zk O λEF EL=>?_))
 have hz11:=Ft (a-d) (b-d)
 refine ck' call170 (F6 (a-d) (b-d) Z) O (zf sr O (zk O λEF EL=>?_))
 have hz12:=C2 (B6 (c-d) (c-d)) (BN (a-d) (b-d))
 refine ck' call59 (D7 (B6 (c-d) (c-d)) (BN (a-d) (b-d)) (by (try simp only [Df]);omega)) O (zf sr O (zk O λEF EL=>ze (V:=λb8=>(qz (jk b8) 3 3)) (T:=68) (cs:=FJ [(B6 (a-d) (a-d))*(BN (b-d) (c-d)),(B6 (b-d) (b-d))*(BN (c-d) (a-d)),(B6 (c-d) (c-d))*(BN (a-d) (b-d))]) (AK O) (A7 (z:=.agg (AG (0:Rat)).toArray) (cs:=FJ [(B6 (a-d) (a-d))*(BN (b-d) (c-d)),(B6 (b-d) (b-d))*(BN (c-d) (a-d)),(B6 (c-d) (c-d))*(BN (a-d) (b-d))]) (pv:=[(0,(aG (AG ((B6 (a-d) (a-d))*(BN (b-d) (c-d)))))),(1,(aG (AG ((B6 (b-d) (b-d))*(BN (c-d) (a-d)))))),(2,(aG (AG ((B6 (c-d) (c-d))*(BN (a-d) (b-d))))))]) underlying190 sizeOf68 zeroValue68 jY jY O (RZ ((B6 (a-d) (a-d))*(BN (b-d) (c-d))) ((B6 (b-d) (b-d))*(BN (c-d) (a-d))) ((B6 (c-d) (c-d))*(BN (a-d) (b-d))))) O (BE O) λb8=>yv (sl sr) O (zk O λEF EL=>?_)))
 have hz13:=En ((B6 (a-d) (a-d))*(BN (b-d) (c-d))) ((B6 (b-d) (b-d))*(BN (c-d) (a-d)))
 have hz14:=En (((B6 (a-d) (a-d))*(BN (b-d) (c-d)))+((B6 (b-d) (b-d))*(BN (c-d) (a-d)))) ((B6 (c-d) (c-d))*(BN (a-d) (b-d)))
 refine C7 call56 (λw hw=>RB ((B6 (a-d) (a-d))*(BN (b-d) (c-d))) ((B6 (b-d) (b-d))*(BN (c-d) (a-d))) ((B6 (c-d) (c-d))*(BN (a-d) (b-d))) _ _ Z w (hw.get (i:=0) O)) O (zf (sl sr) O (yH λb9=>zN O (Ah O sizeOf68 O (zG (sl (sl sr)) (zQ (zB (sL [4,5,6,8,11,10,9,12] O) (q1 (C_ [(0,true),(2,true),(3,true),(4,true),(1,false),(5,false),(6,true),(7,true)] sr (Es 0 Bf O (Es 8 BC O ?_))))))))))
 refine Es 7 BC O (Es 6 BC O (zN O (ck' call171 (Ec (((B6 (a-d) (a-d))*(BN (b-d) (c-d)))+((B6 (b-d) (b-d))*(BN (c-d) (a-d)))+((B6 (c-d) (c-d))*(BN (a-d) (b-d))))) O (zG sr (zN O (ck' call111 (G1 a b c Z) O (zG sr (Aj O (Bv (c:=((B6 (a-d) (a-d)*BN (b-d) (c-d)+B6 (b-d) (b-d)*BN (c-d) (a-d)+B6 (c-d) (c-d)*BN (a-d) (b-d)).num.sign*(AF a b c).num.sign)) O O (Yu _ _)) (pS' O (zQ (zB (sL [4,5,6,8,11,10,9,12] O) ?_)))))))))))
 exact zA (zH (ret_one O (rd_tmp (v:=(vI ((B6 (a-d) (a-d)*BN (b-d) (c-d)+B6 (b-d) (b-d)*BN (c-d) (a-d)+B6 (c-d) (c-d)*BN (a-d) (b-d)).num.sign*(AF a b c).num.sign))) O) (λw hw=>⟨rfl,hw.out⟩)))
end
end Go.Proofs.YtbfdamnfcmefmaaGreatDoor
