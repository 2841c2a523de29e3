import Derived.Test.YtpolhpjiahbidaaGreatDoorPart09
namespace Go.Proofs.YtpolhpjiahbidaaGreatDoor
open Go Go.RowKit Go.Proofs.Tryz
open Go.Value renaming slice→qz,bool→qa
set_option linter.unusedVariables false
set_option linter.unusedSimpArgs false
section
set_option maxRecDepth 100000
theorem CU (x0:Rat) (x1:Rat) (x2:Rat):Instr.fill (λi=>some (i*5,5)) (AC (0:Rat)++AC (0:Rat)++AC (0:Rat)).toArray [(0,.agg (AC x0).toArray),(1,.agg (AC x1).toArray),(2,.agg (AC x2).toArray)]=some (AC x0++AC x1++AC x2).toArray:=by kernel_rfl
theorem Wr (a b c p:Pt) (hs:Bc a+Bc b+Bc c+Bc p<=268435456) (h:AN a b c≠0) (w:World)  :Calls prog 261 #[(aG (AZ a)),(aG (AZ b)),(aG (AZ c)),(aG (AZ p))] w (Ad w (Value.tuple #[(aG (AC (AN p b c/AN a b c)++AC (AN a p c/AN a b c)++AC (AN a b p/AN a b c))),(vI 0)])):=by
 refine AY (args:=[(aG (AZ a)),(aG (AZ b)),(aG (AZ c)),(aG (AZ p))]) func261 O O (BA O) (zM (sL [0,1,2,3] O) (q4 (BV (cs:=AZ a) O λb1=>BV (cs:=AZ b) O λb2=>BV (cs:=AZ c) O λb3=>BV (cs:=AZ p) O λb4=>al M2 O λb5=>asg' O (q3 (sL [4,5,6,7,8,9] O) (Al 4 A_ O (Al 3 A_ O ?_))))))
 refine Al 2 A_ O ?_
 have hz1:=EX a b c
 refine ck' call155 (EJ a b c Z) O (al Dg O λb6=>Ag O sizeOf77 O (q6 (sL [4,5,6,7,8,9,10] O) (rN [(0,true),(1,true),(2,true),(4,true),(5,true),(6,true),(8,true),(9,true),(10,true),(3,false),(7,false),(11,false),(12,true)] [⟨13,11,328,AC (0:Rat)++AC (0:Rat)++AC (0:Rat)⟩] [(14,false)] sr jV (λ_ _ d _ _ h=>by cases d<;>exact h) (FN O O M2 O (Hf)) O (Ei 2 A_ O (Ei 4 A_ O (Ei 3 A_ O (Ei 5 A_ O (Ei 2 A_ O (Ei 3 A_ O (Ei 5 A_ O ?_))))))))))
 refine Ei 4 A_ O (Ei 2 A_ O (zj O λEF EL=>?_))
 have hz2:=EX p b c
 refine ck' call155 (EJ p b c Z) O (zg sr O (zj O λEF EL=>?_))
 have hz3:=EX a p c
 refine ck' call155 (EJ a p c Z) O (zg sr O (zj O λEF EL=>?_))
 have hz4:=EX a b p
 refine ck' call155 (EJ a b p Z) O (zg sr O (GA (v:=(aG (AC (AN p b c)++AC (AN a p c)++AC (AN a b p)))) O (Ap (zs:=AC (0:Rat)++AC (0:Rat)++AC (0:Rat)) (vs:=AC (AN p b c)++AC (AN a p c)++AC (AN a b p)) (pv:=[(0,(aG (AC (AN p b c)))),(1,(aG (AC (AN a p c)))),(2,(aG (AC (AN a b p))))]) zeroValue328 underlying328 sizeOf77 O (CU (AN p b c) (AN a p c) (AN a b p))) O (yH λb7=>zN O (Ag O sizeOf328 O (zD (sl sr) (zQ (zB (sL [4,5,6,8,9,10,11] O) (q1 (q4 (AL O ?_))))))))))
 refine oNl' (zA (zJ (yC 5 (zf (q4 (AD (Aa (c:=true) O O jY) O (oNl' (q1 (zV O (zC (q1 ?_)))))))))))
 refine zJ (q4 (AL O (asg' O (q6 (sL [4,5,6,8,9,10,11,32,12] O) (rN [(0,true),(1,true),(2,true),(3,true),(4,false),(5,true),(6,true),(7,true)] [⟨8,13,77,AC (0:Rat)⟩] [(9,false),(10,true)] sr jV (λ_ _ d _ _ h=>by cases d<;>exact h) (FN O O Dg O (Hf)) O (QU O (GA (v:=(pP b7 0)) O (AB (j:=0) O O underlying328 sizeOf77 O jY O) O (WQ 0 (AC (AN p b c)) Ba O (Ei 1 Ba O (zj O λEF EL=>?_))))))))))
 have hz5:=KW (a:=AN p b c) (b:=AN a b c) (by assumption)
 refine ck' call156 (KC (AN p b c) (AN a b c) Z (by assumption)) O (zg sr O (QU O (GA O (AK (v:=(aG (AC ((AN p b c)/(AN a b c))))) O O) O (GA O (AK (v:=(vI 0)) O O) O (yH λb8=>zN O (Ag O sizeOf77 O (zD (sl sr) (pS' O (zQ (zB (sL [4,5,6,8,9,10,11,32,12,13,14] O) ?_))))))))))
 refine q1 (q4 (AL O (AD (CT (c:=false) O O jY) O (oNl' (zB (sL [4,5,6,8,9,10,11,32,12,13,44] O) (zA (zT O (zC (zA (zH (AL O ?_)))))))))))
 refine Al 0 Ba O (AD (v:=(pP b7 0)) (AB (j:=0) O O underlying328 sizeOf77 O jY O) O (F8 1 (off:=0) (vs:=AC ((AN p b c)/(AN a b c))) (cs':=AC ((AN p b c)/(AN a b c))++AC (AN a p c)++AC (AN a b p)) (AI O) O sizeOf77 O (oNl' (zB (sL [4,5,6,8,9,10,11,32,12,13] O) (zG (zA (zH (AD (AT (c:=(1:Int)) O O jY) O (AL O (oNl' (zB (sL [4,5,6,8,9,10,11,32,12,13] O) ?_)))))))))))
 refine zk (zf (q4 (AD (Aa (c:=true) O O jY) O (oNl' (q1 (zV O (zC (q1 (zJ (q4 (AL O ?_)))))))))))
 refine asg' O (q6 (sL [4,5,6,8,9,10,11,32,12,13] O) (zM (sL [4,5,6,8,9,10,11,32,12] O) (rN [(0,true),(1,true),(2,true),(3,true),(4,false),(5,true),(6,true),(7,true)] [⟨8,13,77,AC (0:Rat)⟩] [(9,false),(10,true)] sr jV (λ_ _ d _ _ h=>by cases d<;>exact h) (FN O O Dg O (Hf)) O (QU O (GA (v:=(pP b7 5)) O (AB (j:=1) O O underlying328 sizeOf77 O jY O) O (WQ 1 (AC (AN a p c)) Ba O (Ei 2 Ba O (zj O λEF EL=>?_))))))))
 have hz6:=KW (a:=AN a p c) (b:=AN a b c) (by assumption)
 refine ck' call156 (KC (AN a p c) (AN a b c) Z (by assumption)) O (zg sr O (QU O (GA O (AK (v:=(aG (AC ((AN a p c)/(AN a b c))))) O O) O (GA O (AK (v:=(vI 0)) O O) O (yH λb9=>zN O (Ag O sizeOf77 O (zD (sl sr) (pS' O (zQ (zB (sL [4,5,6,8,9,10,11,32,12,13,14] O) ?_))))))))))
 refine q1 (q4 (AL O (AD (CT (c:=false) O O jY) O (oNl' (zB (sL [4,5,6,8,9,10,11,32,12,13,44] O) (zA (zT O (zC (zA (zH (AL O ?_)))))))))))
 refine Al 0 Ba O (AD (v:=(pP b7 5)) (AB (j:=1) O O underlying328 sizeOf77 O jY O) O (F8 2 (off:=5) (vs:=AC ((AN a p c)/(AN a b c))) (cs':=AC ((AN p b c)/(AN a b c))++AC ((AN a p c)/(AN a b c))++AC (AN a b p)) (AI O) O sizeOf77 O (oNl' (zB (sL [4,5,6,8,9,10,11,32,12,13] O) (zG (zA (zH (AD (AT (c:=(2:Int)) O O jY) O (AL O (oNl' (zB (sL [4,5,6,8,9,10,11,32,12,13] O) ?_)))))))))))
 refine zk (zf (q4 (AD (Aa (c:=true) O O jY) O (oNl' (q1 (zV O (zC (q1 (zJ (q4 (AL O ?_)))))))))))
 refine asg' O (q6 (sL [4,5,6,8,9,10,11,32,12,13] O) (zM (sL [4,5,6,8,9,10,11,32,12] O) (rN [(0,true),(1,true),(2,true),(3,true),(4,false),(5,true),(6,true),(7,true)] [⟨8,13,77,AC (0:Rat)⟩] [(9,false),(10,true)] sr jV (λ_ _ d _ _ h=>by cases d<;>exact h) (FN O O Dg O (Hf)) O (QU O (GA (v:=(pP b7 10)) O (AB (j:=2) O O underlying328 sizeOf77 O jY O) O (WQ 2 (AC (AN a b p)) Ba O (Ei 3 Ba O (zj O λEF EL=>?_))))))))
 have hz7:=KW (a:=AN a b p) (b:=AN a b c) (by assumption)
 refine ck' call156 (KC (AN a b p) (AN a b c) Z (by assumption)) O (zg sr O (QU O (GA O (AK (v:=(aG (AC ((AN a b p)/(AN a b c))))) O O) O (GA O (AK (v:=(vI 0)) O O) O (yH λb10=>zN O (Ag O sizeOf77 O (zD (sl sr) (pS' O (zQ (zB (sL [4,5,6,8,9,10,11,32,12,13,14] O) ?_))))))))))
 refine q1 (q4 (AL O (AD (CT (c:=false) O O jY) O (oNl' (zB (sL [4,5,6,8,9,10,11,32,12,13,44] O) (zA (zT O (zC (zA (zH (AL O ?_)))))))))))
 refine Al 0 Ba O (AD (v:=(pP b7 10)) (AB (j:=2) O O underlying328 sizeOf77 O jY O) O (F8 3 (off:=10) (vs:=AC ((AN a b p)/(AN a b c))) (cs':=AC ((AN p b c)/(AN a b c))++AC ((AN a p c)/(AN a b c))++AC ((AN a b p)/(AN a b c))) (AI O) O sizeOf77 O (oNl' (zB (sL [4,5,6,8,9,10,11,32,12,13] O) (zG (zA (zH (AD (AT (c:=(3:Int)) O O jY) O (AL O (oNl' (zB (sL [4,5,6,8,9,10,11,32,12,13] O) ?_)))))))))))
 refine zk (zf (q4 (AD (Aa (c:=false) O O jY) O (oNl' (q1 (zT O (zU (zO (zO (zP (q2 ?_)))))))))))
 exact Al 3 bS O (F8 5 (off:=0) (vs:=AC ((AN p b c)/(AN a b c))++AC ((AN a p c)/(AN a b c))++AC ((AN a b p)/(AN a b c))) (cs':=AC ((AN p b c)/(AN a b c))++AC ((AN a p c)/(AN a b c))++AC ((AN a b p)/(AN a b c))) (AI O) O sizeOf328 O (asg' O (oNl' (zB (sL [4,5,6,8,9,10,11,32,12,13] O) (zA (zF (Bu O (Ao (i:=5) (cs:=AC ((AN p b c)/(AN a b c))++AC ((AN a p c)/(AN a b c))++AC ((AN a b p)/(AN a b c))) O O isAgg328 sizeOf328 O) (rd_tmp (v:=(vI 0)) O) (λw hw=>⟨rfl,hw.out⟩))))))))
theorem Kw  :Instr.fill (λi=>some (i*5,5)) (AC (0:Rat)++AC (0:Rat)++AC (0:Rat)).toArray []=some (AC (0:Rat)++AC (0:Rat)++AC (0:Rat)).toArray:=by kernel_rfl
theorem TG (a b c p:Pt) (hs:Bc a+Bc b+Bc c+Bc p<=268435456) (h:AN a b c=0) (w:World)  :Calls prog 261 #[(aG (AZ a)),(aG (AZ b)),(aG (AZ c)),(aG (AZ p))] w (Ad w (Value.tuple #[(aG (AC (0:Rat)++AC (0:Rat)++AC (0:Rat))),(vI 1)])):=by
 refine AY (args:=[(aG (AZ a)),(aG (AZ b)),(aG (AZ c)),(aG (AZ p))]) func261 O O (BA O) (zM (sL [0,1,2,3] O) (q4 (BV (cs:=AZ a) O λb1=>BV (cs:=AZ b) O λb2=>BV (cs:=AZ c) O λb3=>BV (cs:=AZ p) O λb4=>al M2 O λb5=>asg' O (q3 (sL [4,5,6,7,8,9] O) (Al 4 A_ O (Al 3 A_ O ?_))))))
 refine Al 2 A_ O ?_
 have hz1:=EX a b c
 refine ck' call155 (EJ a b c Z) O (al Dg O λb6=>Ag O sizeOf77 O (q6 (sL [4,5,6,7,8,9,10] O) (rN [(0,true),(1,true),(2,true),(4,true),(5,true),(6,true),(8,true),(9,true),(10,true),(3,false),(7,false),(11,false),(12,true)] [⟨13,11,328,AC (0:Rat)++AC (0:Rat)++AC (0:Rat)⟩] [(14,false)] sr jV (λ_ _ d _ _ h=>by cases d<;>exact h) (FN O O M2 O (Hf)) O (Ei 2 A_ O (Ei 4 A_ O (Ei 3 A_ O (Ei 5 A_ O (Ei 2 A_ O (Ei 3 A_ O (Ei 5 A_ O ?_))))))))))
 refine Ei 4 A_ O (Ei 2 A_ O (zj O λEF EL=>?_))
 have hz2:=EX p b c
 refine ck' call155 (EJ p b c Z) O (zg sr O (zj O λEF EL=>?_))
 have hz3:=EX a p c
 refine ck' call155 (EJ a p c Z) O (zg sr O (zj O λEF EL=>?_))
 have hz4:=EX a b p
 refine ck' call155 (EJ a b p Z) O (zg sr O (GA (v:=(aG (AC (AN p b c)++AC (AN a p c)++AC (AN a b p)))) O (Ap (zs:=AC (0:Rat)++AC (0:Rat)++AC (0:Rat)) (vs:=AC (AN p b c)++AC (AN a p c)++AC (AN a b p)) (pv:=[(0,(aG (AC (AN p b c)))),(1,(aG (AC (AN a p c)))),(2,(aG (AC (AN a b p))))]) zeroValue328 underlying328 sizeOf77 O (CU (AN p b c) (AN a p c) (AN a b p))) O (yH λb7=>zN O (Ag O sizeOf328 O (zD (sl sr) (zQ (zB (sL [4,5,6,8,9,10,11] O) (q1 (q4 (AL O ?_))))))))))
 refine oNl' (zA (zJ (yC 5 (zf (q4 (AD (Aa (c:=true) O O jY) O (oNl' (q1 (zV O (zC (q1 ?_)))))))))))
 refine zJ (q4 (AL O (asg' O (q6 (sL [4,5,6,8,9,10,11,32,12] O) (rN [(0,true),(1,true),(2,true),(3,true),(4,false),(5,true),(6,true),(7,true)] [⟨8,13,77,AC (0:Rat)⟩] [(9,false),(10,true)] sr jV (λ_ _ d _ _ h=>by cases d<;>exact h) (FN O O Dg O (Hf)) O (QU O (GA (v:=(pP b7 0)) O (AB (j:=0) O O underlying328 sizeOf77 O jY O) O (WQ 0 (AC (AN p b c)) Ba O (Ei 1 Ba O (zj O λEF EL=>DH (args:=[(aG (AC (AN p b c))),(aG (AC (AN a b c)))]) (v:=(Value.tuple #[(aG (AC (0:Rat))),(vI 5)])) call156 (λw hw=>(by rw [h];exact UW _ w)) O ?_))))))))))
 refine zg sr O (QU O (GA O (AK (v:=(aG (AC (0:Rat)))) O O) O (GA O (AK (v:=(vI 5)) O O) O (yH λb8=>zN O (Ag O sizeOf77 O (zD (sl sr) (pS' O (zQ (zB (sL [4,5,6,8,9,10,11,32,12,13,14] O) (q1 ?_))))))))))
 refine q4 (AL O (AD (CT (c:=true) O O jY) O (oNl' (zB (sL [4,5,6,8,9,10,11,32,12,13,44] O) (zA (zV O (q4 (AD (v:=(aG (AC (0:Rat)++AC (0:Rat)++AC (0:Rat)))) (Ap (zs:=AC (0:Rat)++AC (0:Rat)++AC (0:Rat)) (vs:=AC (0:Rat)++AC (0:Rat)++AC (0:Rat)) (pv:=[]) zeroValue328 underlying328 sizeOf77 O (Kw )) O (Ge O sizeOf328 O (asg' O (oNl' ?_)))))))))))
 exact zB (sL [4,5,6,8,9,10,11,32,12,13] O) (zA (zF (zK (zS (zK (zK (zS (zK (Bu O (Ao (i:=3) (cs:=AC (0:Rat)++AC (0:Rat)++AC (0:Rat)) O O isAgg328 sizeOf328 O) (rd_tmp (v:=(vI 1)) O) (λw hw=>⟨rfl,hw.out⟩))))))))))
end
def zq (q:Rat):Nat:=if q.num.sign=0 then 1 else 0
def Gb (x y z:Rat):Nat:=if x.num.sign = -1\/y.num.sign = -1\/z.num.sign = -1 then 0 else 1+zq x+zq y+zq z
theorem QX {x y z:Rat} (h:x.num.sign = -1):Gb x y z=0:=if_pos (.inl h)
theorem QY {x y z:Rat} (h:y.num.sign = -1):Gb x y z=0:=if_pos (.inr (.inl h))
theorem QZ {x y z:Rat} (h:z.num.sign = -1):Gb x y z=0:=if_pos (.inr (.inr h))
theorem WX {x y z:Rat} (h1:¬x.num.sign = -1) (h2:¬y.num.sign = -1) (h3:¬z.num.sign = -1):Gb x y z=1+zq x+zq y+zq z:=if_neg (by simp [h1,h2,h3])
theorem Qd {x:Rat} (h:x.num.sign=0):zq x=1:=if_pos h
theorem N7 {x:Rat} (h:¬x.num.sign=0):zq x=0:=if_neg h
theorem We (x:Rat):zq x<=1:=by unfold zq;split<;>omega
section
set_option maxRecDepth 100000
end
section
set_option maxRecDepth 100000
end
section
set_option maxRecDepth 100000
set_option maxHeartbeats 2000000 in
theorem Th (a b c p:Pt) (hs:Bc a+Bc b+Bc c+Bc p<=268435456) (h:AN a b c≠0) (w:World)  :Calls prog 228 #[(aG (AZ a)),(aG (AZ b)),(aG (AZ c)),(aG (AZ p))] w (Ad w (vN (Gb (AN p b c/AN a b c) (AN a p c/AN a b c) (AN a b p/AN a b c)))):=by
 obtain ⟨l0,hl0⟩:∃l,l=AN p b c/AN a b c:=⟨_,rfl⟩
 obtain ⟨l1,hl1⟩:∃l,l=AN a p c/AN a b c:=⟨_,rfl⟩
 obtain ⟨l2,hl2⟩:∃l,l=AN a b p/AN a b c:=⟨_,rfl⟩
 refine AY (args:=[(aG (AZ a)),(aG (AZ b)),(aG (AZ c)),(aG (AZ p))]) func228 O O (BA O) (zM (sL [0,1,2,3] O) (q4 (BV (cs:=AZ a) O λb1=>BV (cs:=AZ b) O λb2=>BV (cs:=AZ c) O λb3=>BV (cs:=AZ p) O λb4=>asg' O (q3 (sL [4,5,6,7,8] O) (Al 3 A_ O (Al 2 A_ O (Al 1 A_ O ?_)))))))
 refine Al 0 A_ O (DH (args:=[(aG (AZ a)),(aG (AZ b)),(aG (AZ c)),(aG (AZ p))]) (v:=(Value.tuple #[(aG (AC l0++AC l1++AC l2)),(vI 0)])) call261 (λw hw=>(by rw [hl0,hl1,hl2];exact Wr a b c p Z h w)) O (AL O (AD (AK (v:=(aG (AC l0++AC l1++AC l2))) O O) O (AD (AK (v:=(vI 0)) O O) O (al M2 O λb5=>Ag O sizeOf328 O (asg' O (q6 (sL [8,9,10] O) (q4 (AL O (AD (CT (c:=false) O O jY) O ?_))))))))))
 refine oNl' (zB (sL [8,9,22] O) (zA (zT O (zC (q2 (asg' O (q6 (sL [8,9,11] O) (q4 (AL O (oNl' (zA ?_)))))))))))
 refine zJ (yC 5 (zf (q4 (AD (Aa (c:=true) O O jY) O (oNl' (q1 (zV O (zC (q1 (zJ (q4 ?_)))))))))))
 refine AL O (asg' O (q3 (sL [8,9,11,23,12] O) (AL O (AD (v:=(pP b5 0)) (AB (j:=0) O O underlying328 sizeOf77 O jY O) O (Dy 0 (AC l0) Ba O (ck' call196 (Ed l0) O (oNl' (zB (sL [8,9,11,23,29] O) (zA ?_)))))))))
 refine yF (tg λ(pl0:Nat)=>pl0=1+zq l0/\¬l0.num.sign = -1) (tg λ(pl0:Nat)=>[(9,(pP b5 0)),(23,(vI 0)),(11,(vN pl0))]) (tg λ(pl0:Nat)=>[AX b5 328 (AC l0++AC l1++AC l2),AX b4 99 (AZ p),AX b3 99 (AZ c),AX b2 99 (AZ b),AX b1 99 (AZ a)]) ?_ ?_
 ·refine zJ (q4 (AD (BL (c:=(decide (l0.num.sign=(-1:Int)))) O O O) O (asg' O (oNl' (zB (sL [8,9,11,23,29,30] O) (zA ?_))))))
  refine zL O (λhc2=>?_) (λhc2=>?_)
  ·replace hc2:=xT hc2
   have hz:=QX (x:=l0) (y:=l1) (z:=l2) hc2
   exact q4 (asg' O (oNl' (zA (zF (zS (yc (zS (zK (zK (zS (zK (ret_one O (rd_tmp (v:=(vI 0)) O) (λw hw=>⟨by rw [<-hl0,<-hl1,<-hl2,hz];rfl,hw.out⟩)))))))))))))
  ·replace hc2:=xS hc2
   refine q4 (AD (BL (c:=(decide (l0.num.sign=(0:Int)))) O O O) O (asg' O (oNl' (zB (sL [8,9,11,23,29,32] O) (zA ?_)))))
   refine zL O (λhc3=>?_) (λhc3=>?_)
   ·replace hc3:=xT hc3
    exact zH (AL O (AD (AT (c:=(2:Int)) O O jY) O (asg' O (oNl' (zB (sL [8,9,11,23,29] O) (zG (zi 2 (⟨by simp [Qd hc3],hc2⟩) (sF O) sr)))))))
   ·replace hc3:=xS hc3
    exact zC (zG (zi 1 (⟨by simp [N7 hc3],hc2⟩) (sF O) sr))
 ·intro pl0 hJ
  obtain ⟨e0,n0⟩:=hJ
  have zz0:=We l0
  refine zG (zA (zH (AD (AT (c:=(1:Int)) O O jY) O (AL O (oNl' (zB (sL [9,23,11] O) (zk (zf (q4 (AD (Aa (c:=true) O O jY) O (oNl' ?_)))))))))))
  refine q1 (zV O (zC (q1 (zJ (q4 (AL O (asg' O (q3 (sL [9,23,11,12] O) (AL O (AD (v:=(pP b5 5)) (AB (j:=1) O O underlying328 sizeOf77 O jY O) O (Dy 0 (AC l1) Ba O ?_)))))))))))
  refine ck' call196 (Ed l1) O (oNl' (zB (sL [9,23,11,29] O) (zA ?_)))
  refine yF (tg λ(pl1:Nat)=>pl1=pl0+zq l1/\¬l1.num.sign = -1) (tg λ(pl1:Nat)=>[(9,(pP b5 0)),(23,(vI 1)),(11,(vN pl1))]) (tg λ(pl1:Nat)=>[AX b5 328 (AC l0++AC l1++AC l2),AX b4 99 (AZ p),AX b3 99 (AZ c),AX b2 99 (AZ b),AX b1 99 (AZ a)]) ?_ ?_
  ·refine zJ (q4 (AD (BL (c:=(decide (l1.num.sign=(-1:Int)))) O O O) O (asg' O (oNl' (zB (sL [9,23,11,29,30] O) (zA ?_))))))
   refine zL O (λhc2=>?_) (λhc2=>?_)
   ·replace hc2:=xT hc2
    have hz:=QY (x:=l0) (y:=l1) (z:=l2) hc2
    exact q4 (asg' O (oNl' (zA (zF (zS (yc (zS (zK (zK (zS (zK (ret_one O (rd_tmp (v:=(vI 0)) O) (λw hw=>⟨by rw [<-hl0,<-hl1,<-hl2,hz];rfl,hw.out⟩)))))))))))))
   ·replace hc2:=xS hc2
    refine q4 (AD (BL (c:=(decide (l1.num.sign=(0:Int)))) O O O) O (asg' O (oNl' (zB (sL [9,23,11,29,32] O) (zA ?_)))))
    refine zL O (λhc3=>?_) (λhc3=>?_)
    ·replace hc3:=xT hc3
     exact zH (AL O (AD (AT (c:=((pl0+1:Nat):Int)) O O (AV (a:=pl0) (b:=1) Z)) O (asg' O (oNl' (zB (sL [9,23,11,29] O) (zG (zi (pl0+1) (⟨by simp [Qd hc3],hc2⟩) (sF O) sr)))))))
    ·replace hc3:=xS hc3
     exact zC (zG (zi pl0 (⟨by simp [N7 hc3],hc2⟩) (sF O) sr))
  ·intro pl1 hJ
   obtain ⟨e1,n1⟩:=hJ
   have zz1:=We l1
   refine zG (zA (zH (AD (AT (c:=(2:Int)) O O jY) O (AL O (oNl' (zB (sL [9,23,11] O) (zk (zf (q4 (AD (Aa (c:=true) O O jY) O (oNl' ?_)))))))))))
   refine q1 (zV O (zC (q1 (zJ (q4 (AL O (asg' O (q3 (sL [9,23,11,12] O) (AL O (AD (v:=(pP b5 10)) (AB (j:=2) O O underlying328 sizeOf77 O jY O) O (Dy 0 (AC l2) Ba O ?_)))))))))))
   refine ck' call196 (Ed l2) O (oNl' (zB (sL [9,23,11,29] O) (zA ?_)))
   refine yF (tg λ(pl2:Nat)=>pl2=pl1+zq l2/\¬l2.num.sign = -1) (tg λ(pl2:Nat)=>[(9,(pP b5 0)),(23,(vI 2)),(11,(vN pl2))]) (tg λ(pl2:Nat)=>[AX b5 328 (AC l0++AC l1++AC l2),AX b4 99 (AZ p),AX b3 99 (AZ c),AX b2 99 (AZ b),AX b1 99 (AZ a)]) ?_ ?_
   ·refine zJ (q4 (AD (BL (c:=(decide (l2.num.sign=(-1:Int)))) O O O) O (asg' O (oNl' (zB (sL [9,23,11,29,30] O) (zA ?_))))))
    refine zL O (λhc2=>?_) (λhc2=>?_)
    ·replace hc2:=xT hc2
     have hz:=QZ (x:=l0) (y:=l1) (z:=l2) hc2
     exact q4 (asg' O (oNl' (zA (zF (zS (yc (zS (zK (zK (zS (zK (ret_one O (rd_tmp (v:=(vI 0)) O) (λw hw=>⟨by rw [<-hl0,<-hl1,<-hl2,hz];rfl,hw.out⟩)))))))))))))
    ·replace hc2:=xS hc2
     refine q4 (AD (BL (c:=(decide (l2.num.sign=(0:Int)))) O O O) O (asg' O (oNl' (zB (sL [9,23,11,29,32] O) (zA ?_)))))
     refine zL O (λhc3=>?_) (λhc3=>?_)
     ·replace hc3:=xT hc3
      exact zH (AL O (AD (AT (c:=((pl1+1:Nat):Int)) O O (AV (a:=pl1) (b:=1) Z)) O (asg' O (oNl' (zB (sL [9,23,11,29] O) (zG (zi (pl1+1) (⟨by simp [Qd hc3],hc2⟩) (sF O) sr)))))))
     ·replace hc3:=xS hc3
      exact zC (zG (zi pl1 (⟨by simp [N7 hc3],hc2⟩) (sF O) sr))
   ·intro pl2 hJ
    obtain ⟨e2,n2⟩:=hJ
    have zz2:=We l2
    refine zG (zA (zH (AD (AT (c:=(3:Int)) O O jY) O (AL O (oNl' (zB (sL [9,23,11] O) (zk (zf (q4 (AD (Aa (c:=false) O O jY) O (oNl' ?_)))))))))))
    refine q1 (zT O (zU (zO (zO (zP (q2 (AL O (asg' O (oNl' (zB (sL [9,23,11,8] O) (zA ?_)))))))))))
    exact zF (ret_one O (rd_tmp (v:=(vN pl2)) O) (λw hw=>⟨by rw [<-hl0,<-hl1,<-hl2,WX n0 n1 n2,e2,e1,e0],hw.out⟩))
theorem Rp (a b c p:Pt) (hs:Bc a+Bc b+Bc c+Bc p<=268435456) (h:AN a b c=0) (w:World)  :Calls prog 228 #[(aG (AZ a)),(aG (AZ b)),(aG (AZ c)),(aG (AZ p))] w (Ad w (vI 0)):=by
 refine AY (args:=[(aG (AZ a)),(aG (AZ b)),(aG (AZ c)),(aG (AZ p))]) func228 O O (BA O) (zM (sL [0,1,2,3] O) (q4 (BV (cs:=AZ a) O λb1=>BV (cs:=AZ b) O λb2=>BV (cs:=AZ c) O λb3=>BV (cs:=AZ p) O λb4=>asg' O (q3 (sL [4,5,6,7,8] O) (Al 3 A_ O (Al 2 A_ O (Al 1 A_ O ?_)))))))
 refine Al 0 A_ O (ck' call261 (TG a b c p Z h) O (AL O (AD (AK (v:=(aG (AC (0:Rat)++AC (0:Rat)++AC (0:Rat)))) O O) O (AD (AK (v:=(vI 1)) O O) O (al M2 O λb5=>Ag O sizeOf328 O (asg' O (q6 (sL [8,9,10] O) (q4 (AL O (AD (CT (c:=true) O O jY) O ?_))))))))))
 exact oNl' (zB (sL [8,9,22] O) (zA (zV O (q4 (asg' O (oNl' (zB (sL [8,9] O) (zA (zF (zK (ret_one O (rd_tmp (v:=(vI 0)) O) (λw hw=>⟨rfl,hw.out⟩))))))))))))
end
section
set_option maxRecDepth 100000
end
section
def FJ (qs:List Rat):List Value:=qs.flatMap AC
theorem GL (q:Rat):(AC q).length=5:=rfl
theorem K2:∀{qs:List Rat} {i:Nat},i<qs.length->((FJ qs).drop (i*5)).take 5=AC (qs.getD i 0)
  | [],i,h=>by simp at h
  | q::qs,0,_=>by
    simp only [FJ,List.flatMap_cons,Nat.zero_mul,List.drop_zero,List.getD_cons_zero]
    rw [List.take_append_of_le_length (by rw [GL];omega),List.take_of_length_le (by rw [GL];omega)]
  | q::qs,i+1,h=>by
    have ih:=K2 (qs:=qs) (i:=i) (by simpa using h)
    simp only [FJ,List.flatMap_cons,List.getD_cons_succ] at ih ⊢
    rw [show (i+1)*5=(AC q).length+i*5 by rw [GL];omega,List.drop_append,List.drop_of_length_le (Nat.le_add_right _ _),List.nil_append,Nat.add_sub_cancel_left]
    exact ih
def GG (s:Rat) (qs:List Rat) (i:Nat):Rat:=(qs.take i).foldl (·+·) s
theorem Rq {s:Rat} {qs:List Rat} {i:Nat} (h:i<qs.length):GG s qs (i+1)=GG s qs i+qs.getD i 0:=by
  unfold GG
  rw [List.take_add_one,List.foldl_append]
  simp [h]
section
variable {P:Program} {n:Nat} {F:List (Nat×Value)} {w0:BC} {L:List As} {v:Value} {x:Operand} {d:Option Tmp} {t:TypeId} {p:String} {af:Array Edge} {g:Option (Nat×Bool)}
theorem FE {tx e:TypeId} {b len k:Nat} (hx:evF F x=some (.pointer (jk b))) (hu:P.underlying tx=some (.array len e)) (hs:∀w,(sizeOf e).run P w=.ok k w) (h0:0<len) :
    Ex P n F w0 L ⟨d,.slice tx x none none none,t,p,af,g⟩ (.slice (jk b) len len):=λA w ha _=>by
  have e1:¬len=0:=by omega
  simp [execOp,ha.ev hx,Instr.sliceAt,run_underlying hu,Instr.sureAddr,Instr.sliceBounds,Instr.sliceBound,hs,e1,Addr.add_lit]
theorem JX {a:Addr} (hx:evF F x=some (.pointer (some a))):Ex P n F w0 L ⟨d,.nilCheck x,t,p,af,g⟩ (.pointer (some a)):=λA w ha _=>by
  simp [execOp,ha.ev hx]
theorem VZ {f:FuncId} {xs:List Operand} {first args caps all:List Value} {ts:Array TypeId} (hf:evF F x=some (.func (.func f) first.toArray caps.toArray)) (hargs:xs.map (evF F)=args.map some)
    (hall:first++args++caps=all) (hc:∀args w,(callFunc f args).run P w=.ok (.enter f args) w) :
    ∀a w,Ce n a F->BD w0 w L->(execOp a.eval ⟨d,.call { callee:=.value x,args:=xs.toArray,argTypes:=ts },t,p,af,g⟩).run P w=.ok (.enter f all.toArray) w:=λA w ha _=>by
  have e1:xs.toArray.map A.eval=args.toArray:=by rw [<-Ks ha hargs];simp
  subst hall
  simp [execOp,resolve,ha.ev hf,Deferred.ofValue,e1,invoke,hc]
end
end
section
set_option maxRecDepth 100000
theorem Nz (s a:Rat) (g:Nat) (hs:Sz s+Sz a<=549755813888) (w:World) (hg:w.heap[g]?=some (.cells (AC s).toArray 221 (0,0))):Calls prog 150 #[(pP g 0),(aG (AC a))] w (λe w'=>e=.returned (.tuple #[])/\Jm w w' (some g)/\w'.heap[g]?=some (.cells (AC (s+a)).toArray 221 (0,0))):=by
 refine Ft (args:=[(pP g 0),(aG (AC a))]) (g:=g) (T:=221) (cs:=AC s) func150 O O (BA O) hg (zM (sL [0,1] O) (q4 (BV (cs:=AC a) O λb1=>oNl' (zB (sL [0,3] O) (zA (DC (Er 4++[(5,true),(4,false),(6,false),(7,true),(8,true),(9,false)]) (sk (sl sr)) (By O (By O (Am (v:=(pP g 0)) O (JX O) (Am (v:=(pP g 0)) O (AA O underlying221 O sizeOf77 O) ?_))))))))))
 refine Ew 0 Ba O (zN O (Al 1 Ba O (zD (sk (sl sr)) (zN O ?_))))
 have hz1:=Dx s a
 exact ck' call90 (HO s a (by (try simp only [Cw]);omega)) O (zD (sk (sl sr)) (Am (v:=(pP g 0)) O (JX O) (Am (v:=(pP g 0)) O (AA O underlying221 O sizeOf77 O) (zN O (Cd O sizeOf77 O (zD (sk (sl sr)) (zQ (zB sN (La (.inr O) O  (λw hw=>⟨rfl,hw.1,hw.get (i:=1) O⟩))))))))))
theorem OY (s:Rat) (qs:List Rat) (g bl n c:Nat) (hn:n<=qs.length) (hN:n<4611686018427387904) (hB:∀i,i<n->Sz (GG s qs i)+Sz (qs.getD i 0)<=549755813888) (hne:bl≠g) (w:World) (hg:w.heap[g]?=some (.cells (AC s).toArray 221 (0,0))) (hl:w.heap[bl]?=some (.cells (FJ qs).toArray 77 (0,0))):Calls prog 149 #[(Value.func (.func 150) #[(pP g 0)] #[]),(qz (jk bl) n c)] w (λe w'=>e=.returned (.tuple #[])/\Jm w w' (some g)/\w'.heap[g]?=some (.cells (AC (GG s qs n)).toArray 221 (0,0))):=by
 refine Ft (args:=[(Value.func (.func 150) #[(pP g 0)] #[]),(qz (jk bl) n c)]) (g:=g) (T:=221) (cs:=AC s) func149 O O (BA O) hg (zM (sL [0,1] O) (q4 (AL O (AD (v:=(vN n)) (AE O underlying219) O (AL O (oNl' (zB (sL [0,6,7,8] O) (zA (zJ ?_)))))))))
 refine yG (tg λ(i:Nat) (q:Rat)=>i<=n/\q=GG s qs i) (tg λ(i:Nat) (q:Rat)=>[(0,(Value.func (.func 150) #[(pP g 0)] #[])),(6,(qz (jk bl) n c)),(7,(vN n)),(8,(vN i))]) (tg λ(i:Nat) (q:Rat)=>[AX g 221 (AC q)]) (tg λ(i:Nat) (q:Rat)=>n-i) 0 s (⟨xJ _,rfl⟩) (sF O) sr (λi q hJ=>?_)
 obtain ⟨hi,hq⟩:=hJ
 refine q4 (AD (Aa (c:=(decide (i<n))) O O (DB (a:=i) (b:=n))) O (oNl' (q1 ?_)))
 refine zL O (λhc0=>?_) (λhc0=>?_)
 ·replace hc0:=xT hc0
  refine zC (q1 (zJ (q4 (AD (v:=(pP bl (i*5))) (AG (j:=i) O O underlying219 sizeOf77 O Z jX) O (AD (v:=(aG (AC (qs.getD i 0)))) (EA (vs:=AC (qs.getD i 0)) O (λw' hw=>by have h9:=EN (off:=i*5) (k:=5) (hw.old (by simpa using hne) hl);rwa [K2 Z] at h9) isAgg77 sizeOf77 O) O (al Dg O λb1=>Ag O sizeOf77 O (oNl' (zB (sL [0,6,7,8,5] O) (zA (zH ?_))))))))))
  refine AL O (Al 0 Ba O ?_)
  have hB2:=hB i hc0
  rw [<-hq] at hB2
  exact yW (v:=(Value.tuple #[])) (i:=1) (cs':=AC (q+(qs.getD i 0))) (L':=[AX b1 77 (AC (qs.getD i 0)),AX g 221 (AC (q+(qs.getD i 0)))]) (AI O) (VZ (first:=[(pP g 0)]) (args:=[(aG (AC (qs.getD i 0)))]) (caps:=[]) (all:=[(pP g 0),(aG (AC (qs.getD i 0)))]) O O O call150) O (λw hw=>Nz q (qs.getD i 0) _ Z w (hw.get (i:=1) O)) (λd hd=>by cases hd<;>exact (BA O)) O (oNl' (zB (sL [0,6,7,8,5] O) (zG (zA (zH (AD (AT (c:=((i+1:Nat):Int)) O O (AV (a:=i) (b:=1) Z)) O (AL O (oNl' (zB (sL [0,6,7,8,5] O) (zn (i+1) (q+qs.getD i 0) (⟨Z,by rw [Rq Z,hq]⟩) Z (sF O) (sl sr)))))))))))
 ·replace hc0:=xS hc0
  have hin:i=n:=by omega
  have hqn:q=GG s qs n:=by rw [hq,hin]
  exact zU (zO (zm (zP (La (.inr O) O  (λw hw=>⟨rfl,hw.1,by rw [<-hqn];exact hw.get (i:=0) O⟩)))))
end
section
set_option maxRecDepth 100000
theorem Xh {w:World} {b:Nat} {o:Obj} (h:w.heap[b]?=some o):b<w.heap.size:=by
 rcases Nat.lt_or_ge b w.heap.size with h1|h1
 ·exact h1
 ·rw [Array.getElem?_eq_none h1] at h;cases h
theorem ZJ (qs:List Rat) (bl n c:Nat) (hn:n<=qs.length) (hN:n<4611686018427387904) (hB:∀i,i<n->Sz (GG 0 qs i)+Sz (qs.getD i 0)<=549755813888) (w:World) (hl:w.heap[bl]?=some (.cells (FJ qs).toArray 77 (0,0))):Calls prog 89 #[(qz (jk bl) n c)] w (Ad w (aG (AC (GG 0 qs n)))):=by
 refine AY (args:=[(qz (jk bl) n c)]) func89 O O (BA O) (zM (sL [0] O) (q4 (al Dg O λb1=>oNl' (q2 (al bZ O λb2=>oNl' (q2 (AD (v:=(Value.func (.func 150) #[(pP b2 0)] #[])) (DL (vs:=[(pP b2 0)]) (us:=[]) O O) O (AL O (yW (v:=(Value.tuple #[])) (i:=0) (cs':=AC (GG 0 qs n)) (L':=[AX b2 221 (AC (GG 0 qs n)),AX b1 77 (AC (0:Rat))]) (AI O) (Ar (args:=[(Value.func (.func 150) #[(pP b2 0)] #[]),(qz (jk bl) n c)]) O O call149) O (λw hw=>OY 0 qs _ bl n _ hn hN hB (Nat.ne_of_lt (Nat.lt_of_lt_of_le (Xh hl) (hw.fresh (i:=0) O))) w (hw.get (i:=0) O) (hw.old jX hl)) (λd hd=>by cases hd<;>exact (BA O)) O ?_)))))))))
 exact q3 (sL [2,3] O) (AD (v:=(pP b2 0)) (AA O underlying221 O sizeOf77 O) O (Al 0 Ba O (Cd O sizeOf77 O (oNl' (zB (sL [2,3] O) (zA (zF (ret_one O (Ao (i:=1) (cs:=AC (GG 0 qs n)) O O isAgg77 sizeOf77 O) (λw hw=>⟨rfl,hw.out⟩)))))))))
theorem ah (x y z:Rat):GG 0 [x,y,z] 3=x+y+z:=by simp [GG,Rat.zero_add]
theorem W3 (x y z:Rat):∀i,i<3->Sz (GG 0 [x,y,z] i)+Sz (([x,y,z]:List Rat).getD i 0)<=Sz x+Sz y+Sz z+3
 | 0,_=>by
  have h:Sz (0:Rat)<=1:=by decide +kernel
  show Sz (0:Rat)+Sz x<=_
  omega
 | 1,_=>by
  have e:GG 0 [x,y,z] 1=x:=by simp [GG,Rat.zero_add]
  rw [e]
  show Sz x+Sz y<=_
  omega
 | 2,_=>by
  have e:GG 0 [x,y,z] 2=x+y:=by simp [GG,Rat.zero_add]
  have h:=Dx x y
  rw [e]
  show Sz (x+y)+Sz z<=_
  omega
 | n+3,h=>by omega
theorem Qf (x y z:Rat) (bl c:Nat) (h:Sz x+Sz y+Sz z<=137438953472) (w:World) (hl:w.heap[bl]?=some (.cells (FJ [x,y,z]).toArray 77 (0,0))):Calls prog 89 #[.slice (jk bl) 3 c] w (Ad w (.agg (AC (x+y+z)).toArray)):=by
 have h1:=ZJ [x,y,z] bl 3 c jX Z (λi hi=>xM (W3 x y z i hi) Z) w hl
 rwa [ah] at h1
theorem Q1 (x0 x1 x2:Rat):Instr.fill (λi=>some (i*5,5)) ((Array.range (3*5)).map ((Value.agg (AC (0:Rat)).toArray).cells[·%(Value.agg (AC (0:Rat)).toArray).cells.size]!)) [(0,.agg (AC x0).toArray),(1,.agg (AC x1).toArray),(2,.agg (AC x2).toArray)]=some (FJ [x0,x1,x2]).toArray:=by kernel_rfl
end
section
set_option maxRecDepth 100000
theorem YW (a b:Int):IntKind.i64.wrap (a.sign*b.sign)=a.sign*b.sign:=by
 rw [<-Int.sign_mul]
 generalize a*b=z
 rcases Int.lt_trichotomy z 0 with h|h|h
 ·rw [Int.sign_eq_neg_one_of_neg h];rfl
 ·subst h;rfl
 ·rw [Int.sign_eq_one_of_pos h];rfl
set_option maxHeartbeats 2000000 in
theorem Rf (a b c d:Pt) (hs:Bc a+Bc b+Bc c+Bc d<=1048576) (w:World)  :Calls prog 141 #[(aG (AZ a)),(aG (AZ b)),(aG (AZ c)),(aG (AZ d))] w (Ad w (vI ((CK (a-d) (a-d)*BI (b-d) (c-d)+CK (b-d) (b-d)*BI (c-d) (a-d)+CK (c-d) (c-d)*BI (a-d) (b-d)).num.sign*(AN a b c).num.sign))):=by
 refine AY (args:=[(aG (AZ a)),(aG (AZ b)),(aG (AZ c)),(aG (AZ d))]) func141 O O (BA O) (zM (sL [0,1,2,3] O) (q4 (BV (cs:=AZ a) O λb1=>BV (cs:=AZ b) O λb2=>BV (cs:=AZ c) O λb3=>BV (cs:=AZ d) O λb4=>asg' O (q6 (sL [4,5,6,7,8] O) (rN [(0,true),(1,true),(3,true),(4,true),(6,true),(7,true),(2,false),(5,false),(8,false)] [⟨9,9,99,AZ (⟨0,0⟩:Pt)⟩,⟨10,10,99,AZ (⟨0,0⟩:Pt)⟩,⟨11,11,99,AZ (⟨0,0⟩:Pt)⟩] [(12,false),(13,false),(14,false)] sr jV (λ_ _ d _ _ h=>by cases d<;>exact h) (FN O O EU O (FN O O EU O (FN O O EU O (Hf)))) O (Ei 3 A_ O (Ei 0 A_ O ?_)))))))
 refine Ei 2 A_ O (Ei 0 A_ O (Ei 1 A_ O (Ei 0 A_ O (zj O λEF EL=>?_))))
 have hz1:=D7 a d
 refine ck' call120 (Fd a d Z) O (zg sr O (zj O λEF EL=>?_))
 have hz2:=D7 b d
 refine ck' call120 (Fd b d Z) O (zg sr O (zj O λEF EL=>?_))
 have hz3:=D7 c d
 refine ck' call120 (Fd c d Z) O (zg sr O (Bk.news3 λb5 b6 b7=>zN O (Ag O sizeOf99 O (zD (sl (sl (sl sr))) (zN O (Cd O sizeOf99 O (zD (sl (sl (sl sr))) (zN O (My O sizeOf99 O (zD (sl (sl (sl sr))) ?_))))))))))
 refine zQ (zB (sL [4,5,6,8,11,10,9] O) (q1 (rN [(0,true),(1,true),(3,true),(4,true),(7,true),(8,true),(10,true),(11,true),(14,true),(15,true),(17,true),(18,true),(2,false),(5,false),(6,false),(9,false),(12,false),(13,false),(16,false),(19,false),(20,false),(21,false),(22,false)] [⟨23,12,77,AC (0:Rat)⟩] [(24,false)] sr jV (λ_ _ d _ _ h=>by cases d<;>exact h) (FN O O Dg O (Hf)) O (Ei 0 A_ O (Ei 0 A_ O (Ei 1 A_ O (Ei 2 A_ O (Ei 1 A_ O (Ei 1 A_ O (Ei 2 A_ O (Ei 0 A_ O ?_)))))))))))
 refine Ei 2 A_ O (Ei 2 A_ O (Ei 0 A_ O (Ei 1 A_ O (zj O λEF EL=>?_))))
 have hz4:=KX (a-d) (a-d)
 refine ck' call121 (KL (a-d) (a-d) Z) O (zg sr O (zj O λEF EL=>?_))
 have hz5:=Fs (b-d) (c-d)
 refine ck' call195 (F4 (b-d) (c-d) Z) O (zg sr O (zj O λEF EL=>?_))
 have hz6:=Cv (CK (a-d) (a-d)) (BI (b-d) (c-d))
 refine ck' call91 (Du (CK (a-d) (a-d)) (BI (b-d) (c-d)) (by (try simp only [Cw]);omega)) O (zg sr O (zj O λEF EL=>?_))
 have hz7:=KX (b-d) (b-d)
 refine ck' call121 (KL (b-d) (b-d) Z) O (zg sr O (zj O λEF EL=>?_))
 have hz8:=Fs (c-d) (a-d)
 refine ck' call195 (F4 (c-d) (a-d) Z) O (zg sr O (zj O λEF EL=>?_))
 have hz9:=Cv (CK (b-d) (b-d)) (BI (c-d) (a-d))
 refine ck' call91 (Du (CK (b-d) (b-d)) (BI (c-d) (a-d)) (by (try simp only [Cw]);omega)) O (zg sr O (zj O λEF EL=>?_))
 have hz10:=KX (c-d) (c-d)
 refine ck' call121 (KL (c-d) (c-d) Z) O (zg sr O (zj O λEF EL=>?_))
 have hz11:=Fs (a-d) (b-d)
 refine ck' call195 (F4 (a-d) (b-d) Z) O (zg sr O (zj O λEF EL=>?_))
 have hz12:=Cv (CK (c-d) (c-d)) (BI (a-d) (b-d))
 refine ck' call91 (Du (CK (c-d) (c-d)) (BI (a-d) (b-d)) (by (try simp only [Cw]);omega)) O (zg sr O (zj O λEF EL=>zZ (V:=λb8=>(qz (jk b8) 3 3)) (T:=77) (cs:=FJ [(CK (a-d) (a-d))*(BI (b-d) (c-d)),(CK (b-d) (b-d))*(BI (c-d) (a-d)),(CK (c-d) (c-d))*(BI (a-d) (b-d))]) (AI O) (Az (z:=.agg (AC (0:Rat)).toArray) (cs:=FJ [(CK (a-d) (a-d))*(BI (b-d) (c-d)),(CK (b-d) (b-d))*(BI (c-d) (a-d)),(CK (c-d) (c-d))*(BI (a-d) (b-d))]) (pv:=[(0,(aG (AC ((CK (a-d) (a-d))*(BI (b-d) (c-d)))))),(1,(aG (AC ((CK (b-d) (b-d))*(BI (c-d) (a-d)))))),(2,(aG (AC ((CK (c-d) (c-d))*(BI (a-d) (b-d))))))]) underlying219 sizeOf77 zeroValue77 jY jY O (Q1 ((CK (a-d) (a-d))*(BI (b-d) (c-d))) ((CK (b-d) (b-d))*(BI (c-d) (a-d))) ((CK (c-d) (c-d))*(BI (a-d) (b-d))))) O (BA O) λb8=>yw (sl sr) O (zj O λEF EL=>?_)))
 have hz13:=Dx ((CK (a-d) (a-d))*(BI (b-d) (c-d))) ((CK (b-d) (b-d))*(BI (c-d) (a-d)))
 have hz14:=Dx (((CK (a-d) (a-d))*(BI (b-d) (c-d)))+((CK (b-d) (b-d))*(BI (c-d) (a-d)))) ((CK (c-d) (c-d))*(BI (a-d) (b-d)))
 refine DH call89 (λw hw=>Qf ((CK (a-d) (a-d))*(BI (b-d) (c-d))) ((CK (b-d) (b-d))*(BI (c-d) (a-d))) ((CK (c-d) (c-d))*(BI (a-d) (b-d))) _ _ Z w (hw.get (i:=0) O)) O (zg (sl sr) O (yH λb9=>zN O (Ag O sizeOf77 O (zD (sl (sl sr)) (zQ (zB (sL [4,5,6,8,11,10,9,12] O) (q1 (DC [(0,true),(2,true),(3,true),(4,true),(1,false),(5,false),(6,true),(7,true)] sr (Ew 0 Ba O (Ew 8 A_ O ?_))))))))))
 refine Ew 7 A_ O (Ew 6 A_ O (zN O (ck' call196 (Ed (((CK (a-d) (a-d))*(BI (b-d) (c-d)))+((CK (b-d) (b-d))*(BI (c-d) (a-d)))+((CK (c-d) (c-d))*(BI (a-d) (b-d))))) O (zD sr (zN O (ck' call143 (G2 a b c Z) O (zD sr (Am O (Bx (c:=((CK (a-d) (a-d)*BI (b-d) (c-d)+CK (b-d) (b-d)*BI (c-d) (a-d)+CK (c-d) (c-d)*BI (a-d) (b-d)).num.sign*(AN a b c).num.sign)) O O (YW _ _)) (pS' O (zQ (zB (sL [4,5,6,8,11,10,9,12] O) ?_)))))))))))
 exact zA (zF (ret_one O (rd_tmp (v:=(vI ((CK (a-d) (a-d)*BI (b-d) (c-d)+CK (b-d) (b-d)*BI (c-d) (a-d)+CK (c-d) (c-d)*BI (a-d) (b-d)).num.sign*(AN a b c).num.sign))) O) (λw hw=>⟨rfl,hw.out⟩)))
end
end Go.Proofs.YtpolhpjiahbidaaGreatDoor
