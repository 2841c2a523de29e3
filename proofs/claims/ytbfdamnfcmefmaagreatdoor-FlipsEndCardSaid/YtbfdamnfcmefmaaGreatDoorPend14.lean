import Derived.Test.YtbfdamnfcmefmaaGreatDoorPend13
namespace Go.Proofs.YtbfdamnfcmefmaaGreatDoor
open Go Go.RowKit Go.Proofs.Tryz
open Go.Value renaming slice→qz,bool→qa
set_option linter.unusedVariables false
set_option linter.unusedSimpArgs false
section
set_option maxRecDepth 100000
theorem CR (x0:Rat) (x1:Rat) (x2:Rat):Instr.fill (λi=>some (i*5,5)) (AF (0:Rat)++AF (0:Rat)++AF (0:Rat)).toArray [(0,.agg (AF x0).toArray),(1,.agg (AF x1).toArray),(2,.agg (AF x2).toArray)]=some (AF x0++AF x1++AF x2).toArray:=by kernel_rfl
theorem XM (a b c p:Pt) (hs:Bl a+Bl b+Bl c+Bl p<=268435456) (h:AC a b c≠0) (w:World)  :Calls prog 187 #[(aG (Aa a)),(aG (Aa b)),(aG (Aa c)),(aG (Aa p))] w (Ac w (Value.tuple #[(aG (AF (AC p b c/AC a b c)++AF (AC a p c/AC a b c)++AF (AC a b p/AC a b c))),(vI 0)])):=by
 refine AW (args:=[(aG (Aa a)),(aG (Aa b)),(aG (Aa c)),(aG (Aa p))]) func187 O O (A_ O) (zM (sL [0,1,2,3] O) (q4 (BV (cs:=Aa a) O λb1=>BV (cs:=Aa b) O λb2=>BV (cs:=Aa c) O λb3=>BV (cs:=Aa p) O λb4=>al NK O λb5=>asg' O (q3 (sL [4,5,6,7,8,9] O) (Ak 4 A9 O (Ak 3 A9 O ?_))))))
 refine Ak 2 A9 O ?_
 have hz1:=Dz a b c
 refine ck' call127 (EB a b c Z) O (al DO O λb6=>Ah O sizeOf68 O (q6 (sL [4,5,6,7,8,9,10] O) (rN [(0,true),(1,true),(2,true),(4,true),(5,true),(6,true),(8,true),(9,true),(10,true),(3,false),(7,false),(11,false),(12,true)] [⟨13,11,253,AF (0:Rat)++AF (0:Rat)++AF (0:Rat)⟩] [(14,false)] sr jV (λ_ _ d _ _ h=>by cases d<;>exact h) (FL O O NK O (Hg)) O (Ee 2 A9 O (Ee 4 A9 O (Ee 3 A9 O (Ee 5 A9 O (Ee 2 A9 O (Ee 3 A9 O (Ee 5 A9 O ?_))))))))))
 refine Ee 4 A9 O (Ee 2 A9 O (zj O λEF EL=>?_))
 have hz2:=Dz p b c
 refine ck' call127 (EB p b c Z) O (zf sr O (zj O λEF EL=>?_))
 have hz3:=Dz a p c
 refine ck' call127 (EB a p c Z) O (zf sr O (zj O λEF EL=>?_))
 have hz4:=Dz a b p
 refine ck' call127 (EB a b p Z) O (zf sr O (F9 (v:=(aG (AF (AC p b c)++AF (AC a p c)++AF (AC a b p)))) O (Ao (zs:=AF (0:Rat)++AF (0:Rat)++AF (0:Rat)) (vs:=AF (AC p b c)++AF (AC a p c)++AF (AC a b p)) (pv:=[(0,(aG (AF (AC p b c)))),(1,(aG (AF (AC a p c)))),(2,(aG (AF (AC a b p))))]) zeroValue253 underlying253 sizeOf68 O (CR (AC p b c) (AC a p c) (AC a b p))) O (yJ λb7=>zN O (Ah O sizeOf253 O (zD (sl sr) (zQ (zB (sL [4,5,6,8,9,10,11] O) (q1 (q4 (AL O ?_))))))))))
 refine oNl' (zA (zI (yD 5 (zZ (q4 (AD (Ab (c:=true) O O jY) O (oNl' (q1 (zV O (zC (q1 ?_)))))))))))
 refine zI (q4 (AL O (asg' O (q6 (sL [4,5,6,8,9,10,11,32,12] O) (rN [(0,true),(1,true),(2,true),(3,true),(4,false),(5,true),(6,true),(7,true)] [⟨8,13,68,AF (0:Rat)⟩] [(9,false),(10,true)] sr jV (λ_ _ d _ _ h=>by cases d<;>exact h) (FL O O DO O (Hg)) O (Q0 O (F9 (v:=(pP b7 0)) O (AB (j:=0) O O underlying253 sizeOf68 O jY O) O (Wy 0 (AF (AC p b c)) Be O (Ee 1 Be O (zj O λEF EL=>?_))))))))))
 have hz5:=Ke (a:=AC p b c) (b:=AC a b c) (by assumption)
 refine ck' call128 (KC (AC p b c) (AC a b c) Z (by assumption)) O (zf sr O (Q0 O (F9 O (AJ (v:=(aG (AF ((AC p b c)/(AC a b c))))) O O) O (F9 O (AJ (v:=(vI 0)) O O) O (yJ λb8=>zN O (Ah O sizeOf68 O (zD (sl sr) (pS' O (zQ (zB (sL [4,5,6,8,9,10,11,32,12,13,14] O) ?_))))))))))
 refine q1 (q4 (AL O (AD (Bv (c:=false) O O jY) O (oNl' (zB (sL [4,5,6,8,9,10,11,32,12,13,44] O) (zA (zS O (zC (zA (zH (AL O ?_)))))))))))
 refine Ak 0 Be O (AD (v:=(pP b7 0)) (AB (j:=0) O O underlying253 sizeOf68 O jY O) O (Fj 1 (off:=0) (vs:=AF ((AC p b c)/(AC a b c))) (cs':=AF ((AC p b c)/(AC a b c))++AF (AC a p c)++AF (AC a b p)) (AI O) O sizeOf68 O (oNl' (zB (sL [4,5,6,8,9,10,11,32,12,13] O) (zF (zA (zH (AD (AS (c:=(1:Int)) O O jY) O (AL O (oNl' (zB (sL [4,5,6,8,9,10,11,32,12,13] O) ?_)))))))))))
 refine zk (zZ (q4 (AD (Ab (c:=true) O O jY) O (oNl' (q1 (zV O (zC (q1 (zI (q4 (AL O ?_)))))))))))
 refine asg' O (q6 (sL [4,5,6,8,9,10,11,32,12,13] O) (zM (sL [4,5,6,8,9,10,11,32,12] O) (rN [(0,true),(1,true),(2,true),(3,true),(4,false),(5,true),(6,true),(7,true)] [⟨8,13,68,AF (0:Rat)⟩] [(9,false),(10,true)] sr jV (λ_ _ d _ _ h=>by cases d<;>exact h) (FL O O DO O (Hg)) O (Q0 O (F9 (v:=(pP b7 5)) O (AB (j:=1) O O underlying253 sizeOf68 O jY O) O (Wy 1 (AF (AC a p c)) Be O (Ee 2 Be O (zj O λEF EL=>?_))))))))
 have hz6:=Ke (a:=AC a p c) (b:=AC a b c) (by assumption)
 refine ck' call128 (KC (AC a p c) (AC a b c) Z (by assumption)) O (zf sr O (Q0 O (F9 O (AJ (v:=(aG (AF ((AC a p c)/(AC a b c))))) O O) O (F9 O (AJ (v:=(vI 0)) O O) O (yJ λb9=>zN O (Ah O sizeOf68 O (zD (sl sr) (pS' O (zQ (zB (sL [4,5,6,8,9,10,11,32,12,13,14] O) ?_))))))))))
 refine q1 (q4 (AL O (AD (Bv (c:=false) O O jY) O (oNl' (zB (sL [4,5,6,8,9,10,11,32,12,13,44] O) (zA (zS O (zC (zA (zH (AL O ?_)))))))))))
 refine Ak 0 Be O (AD (v:=(pP b7 5)) (AB (j:=1) O O underlying253 sizeOf68 O jY O) O (Fj 2 (off:=5) (vs:=AF ((AC a p c)/(AC a b c))) (cs':=AF ((AC p b c)/(AC a b c))++AF ((AC a p c)/(AC a b c))++AF (AC a b p)) (AI O) O sizeOf68 O (oNl' (zB (sL [4,5,6,8,9,10,11,32,12,13] O) (zF (zA (zH (AD (AS (c:=(2:Int)) O O jY) O (AL O (oNl' (zB (sL [4,5,6,8,9,10,11,32,12,13] O) ?_)))))))))))
 refine zk (zZ (q4 (AD (Ab (c:=true) O O jY) O (oNl' (q1 (zV O (zC (q1 (zI (q4 (AL O ?_)))))))))))
 refine asg' O (q6 (sL [4,5,6,8,9,10,11,32,12,13] O) (zM (sL [4,5,6,8,9,10,11,32,12] O) (rN [(0,true),(1,true),(2,true),(3,true),(4,false),(5,true),(6,true),(7,true)] [⟨8,13,68,AF (0:Rat)⟩] [(9,false),(10,true)] sr jV (λ_ _ d _ _ h=>by cases d<;>exact h) (FL O O DO O (Hg)) O (Q0 O (F9 (v:=(pP b7 10)) O (AB (j:=2) O O underlying253 sizeOf68 O jY O) O (Wy 2 (AF (AC a b p)) Be O (Ee 3 Be O (zj O λEF EL=>?_))))))))
 have hz7:=Ke (a:=AC a b p) (b:=AC a b c) (by assumption)
 refine ck' call128 (KC (AC a b p) (AC a b c) Z (by assumption)) O (zf sr O (Q0 O (F9 O (AJ (v:=(aG (AF ((AC a b p)/(AC a b c))))) O O) O (F9 O (AJ (v:=(vI 0)) O O) O (yJ λb10=>zN O (Ah O sizeOf68 O (zD (sl sr) (pS' O (zQ (zB (sL [4,5,6,8,9,10,11,32,12,13,14] O) ?_))))))))))
 refine q1 (q4 (AL O (AD (Bv (c:=false) O O jY) O (oNl' (zB (sL [4,5,6,8,9,10,11,32,12,13,44] O) (zA (zS O (zC (zA (zH (AL O ?_)))))))))))
 refine Ak 0 Be O (AD (v:=(pP b7 10)) (AB (j:=2) O O underlying253 sizeOf68 O jY O) O (Fj 3 (off:=10) (vs:=AF ((AC a b p)/(AC a b c))) (cs':=AF ((AC p b c)/(AC a b c))++AF ((AC a p c)/(AC a b c))++AF ((AC a b p)/(AC a b c))) (AI O) O sizeOf68 O (oNl' (zB (sL [4,5,6,8,9,10,11,32,12,13] O) (zF (zA (zH (AD (AS (c:=(3:Int)) O O jY) O (AL O (oNl' (zB (sL [4,5,6,8,9,10,11,32,12,13] O) ?_)))))))))))
 refine zk (zZ (q4 (AD (Ab (c:=false) O O jY) O (oNl' (q1 (zS O (zU (zO (zO (zP (q2 ?_)))))))))))
 exact Ak 3 cb O (Fj 5 (off:=0) (vs:=AF ((AC p b c)/(AC a b c))++AF ((AC a p c)/(AC a b c))++AF ((AC a b p)/(AC a b c))) (cs':=AF ((AC p b c)/(AC a b c))++AF ((AC a p c)/(AC a b c))++AF ((AC a b p)/(AC a b c))) (AI O) O sizeOf253 O (asg' O (oNl' (zB (sL [4,5,6,8,9,10,11,32,12,13] O) (zA (zG (Bs O (An (i:=5) (cs:=AF ((AC p b c)/(AC a b c))++AF ((AC a p c)/(AC a b c))++AF ((AC a b p)/(AC a b c))) O O isAgg253 sizeOf253 O) (rd_tmp (v:=(vI 0)) O) (λw hw=>⟨rfl,hw.out⟩))))))))
theorem K4  :Instr.fill (λi=>some (i*5,5)) (AF (0:Rat)++AF (0:Rat)++AF (0:Rat)).toArray []=some (AF (0:Rat)++AF (0:Rat)++AF (0:Rat)).toArray:=by kernel_rfl
theorem Tl (a b c p:Pt) (hs:Bl a+Bl b+Bl c+Bl p<=268435456) (h:AC a b c=0) (w:World)  :Calls prog 187 #[(aG (Aa a)),(aG (Aa b)),(aG (Aa c)),(aG (Aa p))] w (Ac w (Value.tuple #[(aG (AF (0:Rat)++AF (0:Rat)++AF (0:Rat))),(vI 1)])):=by
 refine AW (args:=[(aG (Aa a)),(aG (Aa b)),(aG (Aa c)),(aG (Aa p))]) func187 O O (A_ O) (zM (sL [0,1,2,3] O) (q4 (BV (cs:=Aa a) O λb1=>BV (cs:=Aa b) O λb2=>BV (cs:=Aa c) O λb3=>BV (cs:=Aa p) O λb4=>al NK O λb5=>asg' O (q3 (sL [4,5,6,7,8,9] O) (Ak 4 A9 O (Ak 3 A9 O ?_))))))
 refine Ak 2 A9 O ?_
 have hz1:=Dz a b c
 refine ck' call127 (EB a b c Z) O (al DO O λb6=>Ah O sizeOf68 O (q6 (sL [4,5,6,7,8,9,10] O) (rN [(0,true),(1,true),(2,true),(4,true),(5,true),(6,true),(8,true),(9,true),(10,true),(3,false),(7,false),(11,false),(12,true)] [⟨13,11,253,AF (0:Rat)++AF (0:Rat)++AF (0:Rat)⟩] [(14,false)] sr jV (λ_ _ d _ _ h=>by cases d<;>exact h) (FL O O NK O (Hg)) O (Ee 2 A9 O (Ee 4 A9 O (Ee 3 A9 O (Ee 5 A9 O (Ee 2 A9 O (Ee 3 A9 O (Ee 5 A9 O ?_))))))))))
 refine Ee 4 A9 O (Ee 2 A9 O (zj O λEF EL=>?_))
 have hz2:=Dz p b c
 refine ck' call127 (EB p b c Z) O (zf sr O (zj O λEF EL=>?_))
 have hz3:=Dz a p c
 refine ck' call127 (EB a p c Z) O (zf sr O (zj O λEF EL=>?_))
 have hz4:=Dz a b p
 refine ck' call127 (EB a b p Z) O (zf sr O (F9 (v:=(aG (AF (AC p b c)++AF (AC a p c)++AF (AC a b p)))) O (Ao (zs:=AF (0:Rat)++AF (0:Rat)++AF (0:Rat)) (vs:=AF (AC p b c)++AF (AC a p c)++AF (AC a b p)) (pv:=[(0,(aG (AF (AC p b c)))),(1,(aG (AF (AC a p c)))),(2,(aG (AF (AC a b p))))]) zeroValue253 underlying253 sizeOf68 O (CR (AC p b c) (AC a p c) (AC a b p))) O (yJ λb7=>zN O (Ah O sizeOf253 O (zD (sl sr) (zQ (zB (sL [4,5,6,8,9,10,11] O) (q1 (q4 (AL O ?_))))))))))
 refine oNl' (zA (zI (yD 5 (zZ (q4 (AD (Ab (c:=true) O O jY) O (oNl' (q1 (zV O (zC (q1 ?_)))))))))))
 refine zI (q4 (AL O (asg' O (q6 (sL [4,5,6,8,9,10,11,32,12] O) (rN [(0,true),(1,true),(2,true),(3,true),(4,false),(5,true),(6,true),(7,true)] [⟨8,13,68,AF (0:Rat)⟩] [(9,false),(10,true)] sr jV (λ_ _ d _ _ h=>by cases d<;>exact h) (FL O O DO O (Hg)) O (Q0 O (F9 (v:=(pP b7 0)) O (AB (j:=0) O O underlying253 sizeOf68 O jY O) O (Wy 0 (AF (AC p b c)) Be O (Ee 1 Be O (zj O λEF EL=>C3 (args:=[(aG (AF (AC p b c))),(aG (AF (AC a b c)))]) (v:=(Value.tuple #[(aG (AF (0:Rat))),(vI 5)])) call128 (λw hw=>(by rw [h];exact U4 _ w)) O ?_))))))))))
 refine zf sr O (Q0 O (F9 O (AJ (v:=(aG (AF (0:Rat)))) O O) O (F9 O (AJ (v:=(vI 5)) O O) O (yJ λb8=>zN O (Ah O sizeOf68 O (zD (sl sr) (pS' O (zQ (zB (sL [4,5,6,8,9,10,11,32,12,13,14] O) (q1 ?_))))))))))
 refine q4 (AL O (AD (Bv (c:=true) O O jY) O (oNl' (zB (sL [4,5,6,8,9,10,11,32,12,13,44] O) (zA (zV O (q4 (AD (v:=(aG (AF (0:Rat)++AF (0:Rat)++AF (0:Rat)))) (Ao (zs:=AF (0:Rat)++AF (0:Rat)++AF (0:Rat)) (vs:=AF (0:Rat)++AF (0:Rat)++AF (0:Rat)) (pv:=[]) zeroValue253 underlying253 sizeOf68 O (K4 )) O (Fi O sizeOf253 O (asg' O (oNl' ?_)))))))))))
 exact zB (sL [4,5,6,8,9,10,11,32,12,13] O) (zA (zG (zJ (zR (zJ (zJ (zR (zJ (Bs O (An (i:=3) (cs:=AF (0:Rat)++AF (0:Rat)++AF (0:Rat)) O O isAgg253 sizeOf253 O) (rd_tmp (v:=(vI 1)) O) (λw hw=>⟨rfl,hw.out⟩))))))))))
end
def zq (q:Rat):Nat:=if q.num.sign=0 then 1 else 0
def FT (x y z:Rat):Nat:=if x.num.sign = -1\/y.num.sign = -1\/z.num.sign = -1 then 0 else 1+zq x+zq y+zq z
theorem Q2 {x y z:Rat} (h:x.num.sign = -1):FT x y z=0:=if_pos (.inl h)
theorem Q4 {x y z:Rat} (h:y.num.sign = -1):FT x y z=0:=if_pos (.inr (.inl h))
theorem Q5 {x y z:Rat} (h:z.num.sign = -1):FT x y z=0:=if_pos (.inr (.inr h))
theorem W4 {x y z:Rat} (h1:¬x.num.sign = -1) (h2:¬y.num.sign = -1) (h3:¬z.num.sign = -1):FT x y z=1+zq x+zq y+zq z:=if_neg (by simp [h1,h2,h3])
theorem Q9 {x:Rat} (h:x.num.sign=0):zq x=1:=if_pos h
theorem OY {x:Rat} (h:¬x.num.sign=0):zq x=0:=if_neg h
theorem W9 (x:Rat):zq x<=1:=by unfold zq;split<;>omega
section
set_option maxRecDepth 100000
end
section
set_option maxRecDepth 100000
end
section
set_option maxRecDepth 100000
set_option maxHeartbeats 2000000 in
theorem UJ (a b c p:Pt) (hs:Bl a+Bl b+Bl c+Bl p<=268435456) (h:AC a b c≠0) (w:World)  :Calls prog 137 #[(aG (Aa a)),(aG (Aa b)),(aG (Aa c)),(aG (Aa p))] w (Ac w (vN (FT (AC p b c/AC a b c) (AC a p c/AC a b c) (AC a b p/AC a b c)))):=by
 obtain ⟨l0,hl0⟩:∃l,l=AC p b c/AC a b c:=⟨_,rfl⟩
 obtain ⟨l1,hl1⟩:∃l,l=AC a p c/AC a b c:=⟨_,rfl⟩
 obtain ⟨l2,hl2⟩:∃l,l=AC a b p/AC a b c:=⟨_,rfl⟩
 refine AW (args:=[(aG (Aa a)),(aG (Aa b)),(aG (Aa c)),(aG (Aa p))]) func137 O O (A_ O) (zM (sL [0,1,2,3] O) (q4 (BV (cs:=Aa a) O λb1=>BV (cs:=Aa b) O λb2=>BV (cs:=Aa c) O λb3=>BV (cs:=Aa p) O λb4=>asg' O (q3 (sL [4,5,6,7,8] O) (Ak 3 A9 O (Ak 2 A9 O (Ak 1 A9 O ?_)))))))
 refine Ak 0 A9 O (C3 (args:=[(aG (Aa a)),(aG (Aa b)),(aG (Aa c)),(aG (Aa p))]) (v:=(Value.tuple #[(aG (AF l0++AF l1++AF l2)),(vI 0)])) call187 (λw hw=>(by rw [hl0,hl1,hl2];exact XM a b c p Z h w)) O (AL O (AD (AJ (v:=(aG (AF l0++AF l1++AF l2))) O O) O (AD (AJ (v:=(vI 0)) O O) O (al NK O λb5=>Ah O sizeOf253 O (asg' O (q6 (sL [8,9,10] O) (q4 (AL O (AD (Bv (c:=false) O O jY) O ?_))))))))))
 refine oNl' (zB (sL [8,9,22] O) (zA (zS O (zC (q2 (asg' O (q6 (sL [8,9,11] O) (q4 (AL O (oNl' (zA ?_)))))))))))
 refine zI (yD 5 (zZ (q4 (AD (Ab (c:=true) O O jY) O (oNl' (q1 (zV O (zC (q1 (zI (q4 ?_)))))))))))
 refine AL O (asg' O (q3 (sL [8,9,11,23,12] O) (AL O (AD (v:=(pP b5 0)) (AB (j:=0) O O underlying253 sizeOf68 O jY O) O (Dp 0 (AF l0) Be O (ck' call171 (EV l0) O (oNl' (zB (sL [8,9,11,23,29] O) (zA ?_)))))))))
 refine yG (tg λ(pl0:Nat)=>pl0=1+zq l0/\¬l0.num.sign = -1) (tg λ(pl0:Nat)=>[(9,(pP b5 0)),(23,(vI 0)),(11,(vN pl0))]) (tg λ(pl0:Nat)=>[AY b5 253 (AF l0++AF l1++AF l2),AY b4 78 (Aa p),AY b3 78 (Aa c),AY b2 78 (Aa b),AY b1 78 (Aa a)]) ?_ ?_
 ·refine zI (q4 (AD (BM (c:=(decide (l0.num.sign=(-1:Int)))) O O O) O (asg' O (oNl' (zB (sL [8,9,11,23,29,30] O) (zA ?_))))))
  refine zK O (λhc2=>?_) (λhc2=>?_)
  ·replace hc2:=xT hc2
   have hz:=Q2 (x:=l0) (y:=l1) (z:=l2) hc2
   exact q4 (asg' O (oNl' (zA (zG (zR (yZ (zR (zJ (zJ (zR (zJ (ret_one O (rd_tmp (v:=(vI 0)) O) (λw hw=>⟨by rw [<-hl0,<-hl1,<-hl2,hz];rfl,hw.out⟩)))))))))))))
  ·replace hc2:=xS hc2
   refine q4 (AD (BM (c:=(decide (l0.num.sign=(0:Int)))) O O O) O (asg' O (oNl' (zB (sL [8,9,11,23,29,32] O) (zA ?_)))))
   refine zK O (λhc3=>?_) (λhc3=>?_)
   ·replace hc3:=xT hc3
    exact zH (AL O (AD (AS (c:=(2:Int)) O O jY) O (asg' O (oNl' (zB (sL [8,9,11,23,29] O) (zF (zh 2 (⟨by simp [Q9 hc3],hc2⟩) (sF O) sr)))))))
   ·replace hc3:=xS hc3
    exact zC (zF (zh 1 (⟨by simp [OY hc3],hc2⟩) (sF O) sr))
 ·intro pl0 hJ
  obtain ⟨e0,n0⟩:=hJ
  have zz0:=W9 l0
  refine zF (zA (zH (AD (AS (c:=(1:Int)) O O jY) O (AL O (oNl' (zB (sL [9,23,11] O) (zk (zZ (q4 (AD (Ab (c:=true) O O jY) O (oNl' ?_)))))))))))
  refine q1 (zV O (zC (q1 (zI (q4 (AL O (asg' O (q3 (sL [9,23,11,12] O) (AL O (AD (v:=(pP b5 5)) (AB (j:=1) O O underlying253 sizeOf68 O jY O) O (Dp 0 (AF l1) Be O ?_)))))))))))
  refine ck' call171 (EV l1) O (oNl' (zB (sL [9,23,11,29] O) (zA ?_)))
  refine yG (tg λ(pl1:Nat)=>pl1=pl0+zq l1/\¬l1.num.sign = -1) (tg λ(pl1:Nat)=>[(9,(pP b5 0)),(23,(vI 1)),(11,(vN pl1))]) (tg λ(pl1:Nat)=>[AY b5 253 (AF l0++AF l1++AF l2),AY b4 78 (Aa p),AY b3 78 (Aa c),AY b2 78 (Aa b),AY b1 78 (Aa a)]) ?_ ?_
  ·refine zI (q4 (AD (BM (c:=(decide (l1.num.sign=(-1:Int)))) O O O) O (asg' O (oNl' (zB (sL [9,23,11,29,30] O) (zA ?_))))))
   refine zK O (λhc2=>?_) (λhc2=>?_)
   ·replace hc2:=xT hc2
    have hz:=Q4 (x:=l0) (y:=l1) (z:=l2) hc2
    exact q4 (asg' O (oNl' (zA (zG (zR (yZ (zR (zJ (zJ (zR (zJ (ret_one O (rd_tmp (v:=(vI 0)) O) (λw hw=>⟨by rw [<-hl0,<-hl1,<-hl2,hz];rfl,hw.out⟩)))))))))))))
   ·replace hc2:=xS hc2
    refine q4 (AD (BM (c:=(decide (l1.num.sign=(0:Int)))) O O O) O (asg' O (oNl' (zB (sL [9,23,11,29,32] O) (zA ?_)))))
    refine zK O (λhc3=>?_) (λhc3=>?_)
    ·replace hc3:=xT hc3
     exact zH (AL O (AD (AS (c:=((pl0+1:Nat):Int)) O O (AV (a:=pl0) (b:=1) Z)) O (asg' O (oNl' (zB (sL [9,23,11,29] O) (zF (zh (pl0+1) (⟨by simp [Q9 hc3],hc2⟩) (sF O) sr)))))))
    ·replace hc3:=xS hc3
     exact zC (zF (zh pl0 (⟨by simp [OY hc3],hc2⟩) (sF O) sr))
  ·intro pl1 hJ
   obtain ⟨e1,n1⟩:=hJ
   have zz1:=W9 l1
   refine zF (zA (zH (AD (AS (c:=(2:Int)) O O jY) O (AL O (oNl' (zB (sL [9,23,11] O) (zk (zZ (q4 (AD (Ab (c:=true) O O jY) O (oNl' ?_)))))))))))
   refine q1 (zV O (zC (q1 (zI (q4 (AL O (asg' O (q3 (sL [9,23,11,12] O) (AL O (AD (v:=(pP b5 10)) (AB (j:=2) O O underlying253 sizeOf68 O jY O) O (Dp 0 (AF l2) Be O ?_)))))))))))
   refine ck' call171 (EV l2) O (oNl' (zB (sL [9,23,11,29] O) (zA ?_)))
   refine yG (tg λ(pl2:Nat)=>pl2=pl1+zq l2/\¬l2.num.sign = -1) (tg λ(pl2:Nat)=>[(9,(pP b5 0)),(23,(vI 2)),(11,(vN pl2))]) (tg λ(pl2:Nat)=>[AY b5 253 (AF l0++AF l1++AF l2),AY b4 78 (Aa p),AY b3 78 (Aa c),AY b2 78 (Aa b),AY b1 78 (Aa a)]) ?_ ?_
   ·refine zI (q4 (AD (BM (c:=(decide (l2.num.sign=(-1:Int)))) O O O) O (asg' O (oNl' (zB (sL [9,23,11,29,30] O) (zA ?_))))))
    refine zK O (λhc2=>?_) (λhc2=>?_)
    ·replace hc2:=xT hc2
     have hz:=Q5 (x:=l0) (y:=l1) (z:=l2) hc2
     exact q4 (asg' O (oNl' (zA (zG (zR (yZ (zR (zJ (zJ (zR (zJ (ret_one O (rd_tmp (v:=(vI 0)) O) (λw hw=>⟨by rw [<-hl0,<-hl1,<-hl2,hz];rfl,hw.out⟩)))))))))))))
    ·replace hc2:=xS hc2
     refine q4 (AD (BM (c:=(decide (l2.num.sign=(0:Int)))) O O O) O (asg' O (oNl' (zB (sL [9,23,11,29,32] O) (zA ?_)))))
     refine zK O (λhc3=>?_) (λhc3=>?_)
     ·replace hc3:=xT hc3
      exact zH (AL O (AD (AS (c:=((pl1+1:Nat):Int)) O O (AV (a:=pl1) (b:=1) Z)) O (asg' O (oNl' (zB (sL [9,23,11,29] O) (zF (zh (pl1+1) (⟨by simp [Q9 hc3],hc2⟩) (sF O) sr)))))))
     ·replace hc3:=xS hc3
      exact zC (zF (zh pl1 (⟨by simp [OY hc3],hc2⟩) (sF O) sr))
   ·intro pl2 hJ
    obtain ⟨e2,n2⟩:=hJ
    have zz2:=W9 l2
    refine zF (zA (zH (AD (AS (c:=(3:Int)) O O jY) O (AL O (oNl' (zB (sL [9,23,11] O) (zk (zZ (q4 (AD (Ab (c:=false) O O jY) O (oNl' ?_)))))))))))
    refine q1 (zS O (zU (zO (zO (zP (q2 (AL O (asg' O (oNl' (zB (sL [9,23,11,8] O) (zA ?_)))))))))))
    exact zG (ret_one O (rd_tmp (v:=(vN pl2)) O) (λw hw=>⟨by rw [<-hl0,<-hl1,<-hl2,W4 n0 n1 n2,e2,e1,e0],hw.out⟩))
theorem SG (a b c p:Pt) (hs:Bl a+Bl b+Bl c+Bl p<=268435456) (h:AC a b c=0) (w:World)  :Calls prog 137 #[(aG (Aa a)),(aG (Aa b)),(aG (Aa c)),(aG (Aa p))] w (Ac w (vI 0)):=by
 refine AW (args:=[(aG (Aa a)),(aG (Aa b)),(aG (Aa c)),(aG (Aa p))]) func137 O O (A_ O) (zM (sL [0,1,2,3] O) (q4 (BV (cs:=Aa a) O λb1=>BV (cs:=Aa b) O λb2=>BV (cs:=Aa c) O λb3=>BV (cs:=Aa p) O λb4=>asg' O (q3 (sL [4,5,6,7,8] O) (Ak 3 A9 O (Ak 2 A9 O (Ak 1 A9 O ?_)))))))
 refine Ak 0 A9 O (ck' call187 (Tl a b c p Z h) O (AL O (AD (AJ (v:=(aG (AF (0:Rat)++AF (0:Rat)++AF (0:Rat)))) O O) O (AD (AJ (v:=(vI 1)) O O) O (al NK O λb5=>Ah O sizeOf253 O (asg' O (q6 (sL [8,9,10] O) (q4 (AL O (AD (Bv (c:=true) O O jY) O ?_))))))))))
 exact oNl' (zB (sL [8,9,22] O) (zA (zV O (q4 (asg' O (oNl' (zB (sL [8,9] O) (zA (zG (zJ (ret_one O (rd_tmp (v:=(vI 0)) O) (λw hw=>⟨rfl,hw.out⟩))))))))))))
end
section
set_option maxRecDepth 100000
end
section
def FJ (qs:List Rat):List Value:=qs.flatMap AF
theorem GI (q:Rat):(AF q).length=5:=rfl
theorem LD:∀{qs:List Rat} {i:Nat},i<qs.length->((FJ qs).drop (i*5)).take 5=AF (qs.getD i 0)
  | [],i,h=>by simp at h
  | q::qs,0,_=>by
    simp only [FJ,List.flatMap_cons,Nat.zero_mul,List.drop_zero,List.getD_cons_zero]
    rw [List.take_append_of_le_length (by rw [GI];omega),List.take_of_length_le (by rw [GI];omega)]
  | q::qs,i+1,h=>by
    have ih:=LD (qs:=qs) (i:=i) (by simpa using h)
    simp only [FJ,List.flatMap_cons,List.getD_cons_succ] at ih ⊢
    rw [show (i+1)*5=(AF q).length+i*5 by rw [GI];omega,List.drop_append,List.drop_of_length_le (Nat.le_add_right _ _),List.nil_append,Nat.add_sub_cancel_left]
    exact ih
def GC (s:Rat) (qs:List Rat) (i:Nat):Rat:=(qs.take i).foldl (·+·) s
theorem SH {s:Rat} {qs:List Rat} {i:Nat} (h:i<qs.length):GC s qs (i+1)=GC s qs i+qs.getD i 0:=by
  unfold GC
  rw [List.take_add_one,List.foldl_append]
  simp [h]
section
variable {P:Program} {n:Nat} {F:List (Nat×Value)} {w0:BD} {L:List As} {v:Value} {x:Operand} {d:Option Tmp} {t:TypeId} {p:String} {af:Array Edge} {g:Option (Nat×Bool)}
theorem FE {tx e:TypeId} {b len k:Nat} (hx:evF F x=some (.pointer (jk b))) (hu:P.underlying tx=some (.array len e)) (hs:∀w,(sizeOf e).run P w=.ok k w) (h0:0<len) :
    Ex P n F w0 L ⟨d,.slice tx x none none none,t,p,af,g⟩ (.slice (jk b) len len):=λA w ha _=>by
  have e1:¬len=0:=by omega
  simp [execOp,ha.ev hx,Instr.sliceAt,run_underlying hu,Instr.sureAddr,Instr.sliceBounds,Instr.sliceBound,hs,e1,Addr.add_lit]
theorem Jb {a:Addr} (hx:evF F x=some (.pointer (some a))):Ex P n F w0 L ⟨d,.nilCheck x,t,p,af,g⟩ (.pointer (some a)):=λA w ha _=>by
  simp [execOp,ha.ev hx]
theorem V7 {f:FuncId} {xs:List Operand} {first args caps all:List Value} {ts:Array TypeId} (hf:evF F x=some (.func (.func f) first.toArray caps.toArray)) (hargs:xs.map (evF F)=args.map some)
    (hall:first++args++caps=all) (hc:∀args w,(callFunc f args).run P w=.ok (.enter f args) w) :
    ∀a w,Cx n a F->BH w0 w L->(execOp a.eval ⟨d,.call { callee:=.value x,args:=xs.toArray,argTypes:=ts },t,p,af,g⟩).run P w=.ok (.enter f all.toArray) w:=λA w ha _=>by
  have e1:xs.toArray.map A.eval=args.toArray:=by rw [<-K0 ha hargs];simp
  subst hall
  simp [execOp,resolve,ha.ev hf,Deferred.ofValue,e1,invoke,hc]
end
end
section
set_option maxRecDepth 100000
theorem OQ (s a:Rat) (g:Nat) (hs:Sz s+Sz a<=549755813888) (w:World) (hg:w.heap[g]?=some (.cells (AF s).toArray 192 (0,0))):Calls prog 119 #[(pP g 0),(aG (AF a))] w (λe w'=>e=.returned (.tuple #[])/\Jq w w' (some g)/\w'.heap[g]?=some (.cells (AF (s+a)).toArray 192 (0,0))):=by
 refine Fw (args:=[(pP g 0),(aG (AF a))]) (g:=g) (T:=192) (cs:=AF s) func119 O O (A_ O) hg (zM (sL [0,1] O) (q4 (BV (cs:=AF a) O λb1=>oNl' (zB (sL [0,3] O) (zA (C8 (El 4++[(5,true),(4,false),(6,false),(7,true),(8,true),(9,false)]) (sk (sl sr)) (Bp O (Bp O (Al (v:=(pP g 0)) O (Jb O) (Al (v:=(pP g 0)) O (AA O underlying192 O sizeOf68 O) ?_))))))))))
 refine Ej 0 Be O (zN O (Ak 1 Be O (zD (sk (sl sr)) (zN O ?_))))
 have hz1:=Eh s a
 exact ck' call58 (IU s a (by (try simp only [DZ]);omega)) O (zD (sk (sl sr)) (Al (v:=(pP g 0)) O (Jb O) (Al (v:=(pP g 0)) O (AA O underlying192 O sizeOf68 O) (zN O (CM O sizeOf68 O (zD (sk (sl sr)) (zQ (zB sN (Lo (.inr O) O  (λw hw=>⟨rfl,hw.1,hw.get (i:=1) O⟩))))))))))
theorem O2 (s:Rat) (qs:List Rat) (g bl n c:Nat) (hn:n<=qs.length) (hN:n<4611686018427387904) (hB:∀i,i<n->Sz (GC s qs i)+Sz (qs.getD i 0)<=549755813888) (hne:bl≠g) (w:World) (hg:w.heap[g]?=some (.cells (AF s).toArray 192 (0,0))) (hl:w.heap[bl]?=some (.cells (FJ qs).toArray 68 (0,0))):Calls prog 118 #[(Value.func (.func 119) #[(pP g 0)] #[]),(qz (jk bl) n c)] w (λe w'=>e=.returned (.tuple #[])/\Jq w w' (some g)/\w'.heap[g]?=some (.cells (AF (GC s qs n)).toArray 192 (0,0))):=by
 refine Fw (args:=[(Value.func (.func 119) #[(pP g 0)] #[]),(qz (jk bl) n c)]) (g:=g) (T:=192) (cs:=AF s) func118 O O (A_ O) hg (zM (sL [0,1] O) (q4 (AL O (AD (v:=(vN n)) (AE O underlying190) O (AL O (oNl' (zB (sL [0,6,7,8] O) (zA (zI ?_)))))))))
 refine yE (tg λ(i:Nat) (q:Rat)=>i<=n/\q=GC s qs i) (tg λ(i:Nat) (q:Rat)=>[(0,(Value.func (.func 119) #[(pP g 0)] #[])),(6,(qz (jk bl) n c)),(7,(vN n)),(8,(vN i))]) (tg λ(i:Nat) (q:Rat)=>[AY g 192 (AF q)]) (tg λ(i:Nat) (q:Rat)=>n-i) 0 s (⟨xJ _,rfl⟩) (sF O) sr (λi q hJ=>?_)
 obtain ⟨hi,hq⟩:=hJ
 refine q4 (AD (Ab (c:=(decide (i<n))) O O (DA (a:=i) (b:=n))) O (oNl' (q1 ?_)))
 refine zK O (λhc0=>?_) (λhc0=>?_)
 ·replace hc0:=xT hc0
  refine zC (q1 (zI (q4 (AD (v:=(pP bl (i*5))) (AG (j:=i) O O underlying190 sizeOf68 O Z jX) O (AD (v:=(aG (AF (qs.getD i 0)))) (FD (vs:=AF (qs.getD i 0)) O (λw' hw=>by have h9:=EE (off:=i*5) (k:=5) (hw.old (by simpa using hne) hl);rwa [LD Z] at h9) isAgg68 sizeOf68 O) O (al DO O λb1=>Ah O sizeOf68 O (oNl' (zB (sL [0,6,7,8,5] O) (zA (zH ?_))))))))))
  refine AL O (Ak 0 Be O ?_)
  have hB2:=hB i hc0
  rw [<-hq] at hB2
  exact yV (v:=(Value.tuple #[])) (i:=1) (cs':=AF (q+(qs.getD i 0))) (L':=[AY b1 68 (AF (qs.getD i 0)),AY g 192 (AF (q+(qs.getD i 0)))]) (AI O) (V7 (first:=[(pP g 0)]) (args:=[(aG (AF (qs.getD i 0)))]) (caps:=[]) (all:=[(pP g 0),(aG (AF (qs.getD i 0)))]) O O O call119) O (λw hw=>OQ q (qs.getD i 0) _ Z w (hw.get (i:=1) O)) (λd hd=>by cases hd<;>exact (A_ O)) O (oNl' (zB (sL [0,6,7,8,5] O) (zF (zA (zH (AD (AS (c:=((i+1:Nat):Int)) O O (AV (a:=i) (b:=1) Z)) O (AL O (oNl' (zB (sL [0,6,7,8,5] O) (zn (i+1) (q+qs.getD i 0) (⟨Z,by rw [SH Z,hq]⟩) Z (sF O) (sl sr)))))))))))
 ·replace hc0:=xS hc0
  have hin:i=n:=by omega
  have hqn:q=GC s qs n:=by rw [hq,hin]
  exact zU (zO (zl (zP (Lo (.inr O) O  (λw hw=>⟨rfl,hw.1,by rw [<-hqn];exact hw.get (i:=0) O⟩)))))
end
section
set_option maxRecDepth 100000
theorem YE {w:World} {b:Nat} {o:Obj} (h:w.heap[b]?=some o):b<w.heap.size:=by
 rcases Nat.lt_or_ge b w.heap.size with h1|h1
 ·exact h1
 ·rw [Array.getElem?_eq_none h1] at h;cases h
theorem Zm (qs:List Rat) (bl n c:Nat) (hn:n<=qs.length) (hN:n<4611686018427387904) (hB:∀i,i<n->Sz (GC 0 qs i)+Sz (qs.getD i 0)<=549755813888) (w:World) (hl:w.heap[bl]?=some (.cells (FJ qs).toArray 68 (0,0))):Calls prog 56 #[(qz (jk bl) n c)] w (Ac w (aG (AF (GC 0 qs n)))):=by
 refine AW (args:=[(qz (jk bl) n c)]) func56 O O (A_ O) (zM (sL [0] O) (q4 (al DO O λb1=>oNl' (q2 (al cj O λb2=>oNl' (q2 (AD (v:=(Value.func (.func 119) #[(pP b2 0)] #[])) (Dt (vs:=[(pP b2 0)]) (us:=[]) O O) O (AL O (yV (v:=(Value.tuple #[])) (i:=0) (cs':=AF (GC 0 qs n)) (L':=[AY b2 192 (AF (GC 0 qs n)),AY b1 68 (AF (0:Rat))]) (AI O) (Am (args:=[(Value.func (.func 119) #[(pP b2 0)] #[]),(qz (jk bl) n c)]) O O call118) O (λw hw=>O2 0 qs _ bl n _ hn hN hB (Nat.ne_of_lt (Nat.lt_of_lt_of_le (YE hl) (hw.fresh (i:=0) O))) w (hw.get (i:=0) O) (hw.old jX hl)) (λd hd=>by cases hd<;>exact (A_ O)) O ?_)))))))))
 exact q3 (sL [2,3] O) (AD (v:=(pP b2 0)) (AA O underlying192 O sizeOf68 O) O (Ak 0 Be O (CM O sizeOf68 O (oNl' (zB (sL [2,3] O) (zA (zG (ret_one O (An (i:=1) (cs:=AF (GC 0 qs n)) O O isAgg68 sizeOf68 O) (λw hw=>⟨rfl,hw.out⟩)))))))))
theorem bd (x y z:Rat):GC 0 [x,y,z] 3=x+y+z:=by simp [GC,Rat.zero_add]
theorem XX (x y z:Rat):∀i,i<3->Sz (GC 0 [x,y,z] i)+Sz (([x,y,z]:List Rat).getD i 0)<=Sz x+Sz y+Sz z+3
 | 0,_=>by
  have h:Sz (0:Rat)<=1:=by decide +kernel
  show Sz (0:Rat)+Sz x<=_
  omega
 | 1,_=>by
  have e:GC 0 [x,y,z] 1=x:=by simp [GC,Rat.zero_add]
  rw [e]
  show Sz x+Sz y<=_
  omega
 | 2,_=>by
  have e:GC 0 [x,y,z] 2=x+y:=by simp [GC,Rat.zero_add]
  have h:=Eh x y
  rw [e]
  show Sz (x+y)+Sz z<=_
  omega
 | n+3,h=>by omega
theorem RC (x y z:Rat) (bl c:Nat) (h:Sz x+Sz y+Sz z<=137438953472) (w:World) (hl:w.heap[bl]?=some (.cells (FJ [x,y,z]).toArray 68 (0,0))):Calls prog 56 #[.slice (jk bl) 3 c] w (Ac w (.agg (AF (x+y+z)).toArray)):=by
 have h1:=Zm [x,y,z] bl 3 c jX Z (λi hi=>xM (XX x y z i hi) Z) w hl
 rwa [bd] at h1
theorem RZ (x0 x1 x2:Rat):Instr.fill (λi=>some (i*5,5)) ((Array.range (3*5)).map ((Value.agg (AF (0:Rat)).toArray).cells[·%(Value.agg (AF (0:Rat)).toArray).cells.size]!)) [(0,.agg (AF x0).toArray),(1,.agg (AF x1).toArray),(2,.agg (AF x2).toArray)]=some (FJ [x0,x1,x2]).toArray:=by kernel_rfl
end
section
set_option maxRecDepth 100000
theorem Y6 (a b:Int):IntKind.i64.wrap (a.sign*b.sign)=a.sign*b.sign:=by
 rw [<-Int.sign_mul]
 generalize a*b=z
 rcases Int.lt_trichotomy z 0 with h|h|h
 ·rw [Int.sign_eq_neg_one_of_neg h];rfl
 ·subst h;rfl
 ·rw [Int.sign_eq_one_of_pos h];rfl
set_option maxHeartbeats 2000000 in
theorem SC (a b c d:Pt) (hs:Bl a+Bl b+Bl c+Bl d<=1048576) (w:World)  :Calls prog 110 #[(aG (Aa a)),(aG (Aa b)),(aG (Aa c)),(aG (Aa d))] w (Ac w (vI ((B0 (a-d) (a-d)*BL (b-d) (c-d)+B0 (b-d) (b-d)*BL (c-d) (a-d)+B0 (c-d) (c-d)*BL (a-d) (b-d)).num.sign*(AC a b c).num.sign))):=by
 refine AW (args:=[(aG (Aa a)),(aG (Aa b)),(aG (Aa c)),(aG (Aa d))]) func110 O O (A_ O) (zM (sL [0,1,2,3] O) (q4 (BV (cs:=Aa a) O λb1=>BV (cs:=Aa b) O λb2=>BV (cs:=Aa c) O λb3=>BV (cs:=Aa d) O λb4=>asg' O (q6 (sL [4,5,6,7,8] O) (rN [(0,true),(1,true),(3,true),(4,true),(6,true),(7,true),(2,false),(5,false),(8,false)] [⟨9,9,78,Aa (⟨0,0⟩:Pt)⟩,⟨10,10,78,Aa (⟨0,0⟩:Pt)⟩,⟨11,11,78,Aa (⟨0,0⟩:Pt)⟩] [(12,false),(13,false),(14,false)] sr jV (λ_ _ d _ _ h=>by cases d<;>exact h) (FL O O Em O (FL O O Em O (FL O O Em O (Hg)))) O (Ee 3 A9 O (Ee 0 A9 O ?_)))))))
 refine Ee 2 A9 O (Ee 0 A9 O (Ee 1 A9 O (Ee 0 A9 O (zj O λEF EL=>?_))))
 have hz1:=Dy a d
 refine ck' call120 (Ff a d Z) O (zf sr O (zj O λEF EL=>?_))
 have hz2:=Dy b d
 refine ck' call120 (Ff b d Z) O (zf sr O (zj O λEF EL=>?_))
 have hz3:=Dy c d
 refine ck' call120 (Ff c d Z) O (zf sr O (Bi.news3 λb5 b6 b7=>zN O (Ah O sizeOf78 O (zD (sl (sl (sl sr))) (zN O (CM O sizeOf78 O (zD (sl (sl (sl sr))) (zN O (Ls O sizeOf78 O (zD (sl (sl (sl sr))) ?_))))))))))
 refine zQ (zB (sL [4,5,6,8,11,10,9] O) (q1 (rN [(0,true),(1,true),(3,true),(4,true),(7,true),(8,true),(10,true),(11,true),(14,true),(15,true),(17,true),(18,true),(2,false),(5,false),(6,false),(9,false),(12,false),(13,false),(16,false),(19,false),(20,false),(21,false),(22,false)] [⟨23,12,68,AF (0:Rat)⟩] [(24,false)] sr jV (λ_ _ d _ _ h=>by cases d<;>exact h) (FL O O DO O (Hg)) O (Ee 0 A9 O (Ee 0 A9 O (Ee 1 A9 O (Ee 2 A9 O (Ee 1 A9 O (Ee 1 A9 O (Ee 2 A9 O (Ee 0 A9 O ?_)))))))))))
 refine Ee 2 A9 O (Ee 2 A9 O (Ee 0 A9 O (Ee 1 A9 O (zj O λEF EL=>?_))))
 have hz4:=Kf (a-d) (a-d)
 refine ck' call121 (KS (a-d) (a-d) Z) O (zf sr O (zj O λEF EL=>?_))
 have hz5:=Fv (b-d) (c-d)
 refine ck' call170 (F5 (b-d) (c-d) Z) O (zf sr O (zj O λEF EL=>?_))
 have hz6:=Cz (B0 (a-d) (a-d)) (BL (b-d) (c-d))
 refine ck' call59 (D4 (B0 (a-d) (a-d)) (BL (b-d) (c-d)) (by (try simp only [DZ]);omega)) O (zf sr O (zj O λEF EL=>?_))
 have hz7:=Kf (b-d) (b-d)
 refine ck' call121 (KS (b-d) (b-d) Z) O (zf sr O (zj O λEF EL=>?_))
 have hz8:=Fv (c-d) (a-d)
 refine ck' call170 (F5 (c-d) (a-d) Z) O (zf sr O (zj O λEF EL=>?_))
 have hz9:=Cz (B0 (b-d) (b-d)) (BL (c-d) (a-d))
 refine ck' call59 (D4 (B0 (b-d) (b-d)) (BL (c-d) (a-d)) (by (try simp only [DZ]);omega)) O (zf sr O (zj O λEF EL=>?_))
 have hz10:=Kf (c-d) (c-d)
 refine ck' call121 (KS (c-d) (c-d) Z) O (zf sr O (zj O λEF EL=>?_))
 have hz11:=Fv (a-d) (b-d)
 refine ck' call170 (F5 (a-d) (b-d) Z) O (zf sr O (zj O λEF EL=>?_))
 have hz12:=Cz (B0 (c-d) (c-d)) (BL (a-d) (b-d))
 refine ck' call59 (D4 (B0 (c-d) (c-d)) (BL (a-d) (b-d)) (by (try simp only [DZ]);omega)) O (zf sr O (zj O λEF EL=>ze (V:=λb8=>(qz (jk b8) 3 3)) (T:=68) (cs:=FJ [(B0 (a-d) (a-d))*(BL (b-d) (c-d)),(B0 (b-d) (b-d))*(BL (c-d) (a-d)),(B0 (c-d) (c-d))*(BL (a-d) (b-d))]) (AI O) (Ax (z:=.agg (AF (0:Rat)).toArray) (cs:=FJ [(B0 (a-d) (a-d))*(BL (b-d) (c-d)),(B0 (b-d) (b-d))*(BL (c-d) (a-d)),(B0 (c-d) (c-d))*(BL (a-d) (b-d))]) (pv:=[(0,(aG (AF ((B0 (a-d) (a-d))*(BL (b-d) (c-d)))))),(1,(aG (AF ((B0 (b-d) (b-d))*(BL (c-d) (a-d)))))),(2,(aG (AF ((B0 (c-d) (c-d))*(BL (a-d) (b-d))))))]) underlying190 sizeOf68 zeroValue68 jY jY O (RZ ((B0 (a-d) (a-d))*(BL (b-d) (c-d))) ((B0 (b-d) (b-d))*(BL (c-d) (a-d))) ((B0 (c-d) (c-d))*(BL (a-d) (b-d))))) O (A_ O) λb8=>yw (sl sr) O (zj O λEF EL=>?_)))
 have hz13:=Eh ((B0 (a-d) (a-d))*(BL (b-d) (c-d))) ((B0 (b-d) (b-d))*(BL (c-d) (a-d)))
 have hz14:=Eh (((B0 (a-d) (a-d))*(BL (b-d) (c-d)))+((B0 (b-d) (b-d))*(BL (c-d) (a-d)))) ((B0 (c-d) (c-d))*(BL (a-d) (b-d)))
 refine C3 call56 (λw hw=>RC ((B0 (a-d) (a-d))*(BL (b-d) (c-d))) ((B0 (b-d) (b-d))*(BL (c-d) (a-d))) ((B0 (c-d) (c-d))*(BL (a-d) (b-d))) _ _ Z w (hw.get (i:=0) O)) O (zf (sl sr) O (yJ λb9=>zN O (Ah O sizeOf68 O (zD (sl (sl sr)) (zQ (zB (sL [4,5,6,8,11,10,9,12] O) (q1 (C8 [(0,true),(2,true),(3,true),(4,true),(1,false),(5,false),(6,true),(7,true)] sr (Ej 0 Be O (Ej 8 A9 O ?_))))))))))
 refine Ej 7 A9 O (Ej 6 A9 O (zN O (ck' call171 (EV (((B0 (a-d) (a-d))*(BL (b-d) (c-d)))+((B0 (b-d) (b-d))*(BL (c-d) (a-d)))+((B0 (c-d) (c-d))*(BL (a-d) (b-d))))) O (zD sr (zN O (ck' call111 (Gw a b c Z) O (zD sr (Al O (Bo (c:=((B0 (a-d) (a-d)*BL (b-d) (c-d)+B0 (b-d) (b-d)*BL (c-d) (a-d)+B0 (c-d) (c-d)*BL (a-d) (b-d)).num.sign*(AC a b c).num.sign)) O O (Y6 _ _)) (pS' O (zQ (zB (sL [4,5,6,8,11,10,9,12] O) ?_)))))))))))
 exact zA (zG (ret_one O (rd_tmp (v:=(vI ((B0 (a-d) (a-d)*BL (b-d) (c-d)+B0 (b-d) (b-d)*BL (c-d) (a-d)+B0 (c-d) (c-d)*BL (a-d) (b-d)).num.sign*(AC a b c).num.sign))) O) (λw hw=>⟨rfl,hw.out⟩)))
end
end Go.Proofs.YtbfdamnfcmefmaaGreatDoor
