import Derived.ChangeKeysEq
import Derived.Test.YtcpkbjjmcleplaaGreatDoorPart16
namespace Go.Proofs.YtcpkbjjmcleplaaGreatDoor
open Go Go.RowKit Go.Proofs.Tryz
open Go.Value renaming slice→qz,bool→qa
set_option linter.unusedVariables false
set_option linter.unusedSimpArgs false
section
set_option maxRecDepth 100000
theorem Jp (x y:Int) (h1:-9223372036854775808<=x) (h2:x<9223372036854775808) (h3:-9223372036854775808<=y) (h4:y<9223372036854775808) (hy:y≠0) (w:World)  :Calls prog 14 #[(vI x),(vI y)] w (Ac w (Value.tuple #[(aG (AC (((x:Int):Rat)/((y:Int):Rat)))),(vI 0)])):=by
 have hb:((y:Int):Rat)≠0:=λe=>hy (by exact_mod_cast e)
 have s1:=IY h1 h2
 have s2:=IY h3 h4
 refine AV (args:=[(vI x),(vI y)]) func14 O O (leB O) (zI (sL [0,1] O) (q4 (al Cq O λb1=>asg' O (oNl' (q2 (AK O (ck' call17 (FK x Z Z) O (AK O (ck' call17 (FK y Z Z) O ?_)))))))))
 have hz1:=He (a:=((x:Int):Rat)) (b:=((y:Int):Rat)) (by assumption)
 exact ck' call28 (I4 ((x:Int):Rat) ((y:Int):Rat) Z (by assumption)) O (st' (AJ (v:=(aG (AC (((x:Int):Rat)/((y:Int):Rat))))) O O) O (st' (AJ (v:=(vI 0)) O O) O (An O sizeOf60 O (asg' O (oNl' (zB (sL [4,5] O) (zA (zF (Bl O (Ab (i:=0) (cs:=AC (((x:Int):Rat)/((y:Int):Rat))) O O isAgg60 sizeOf60 O) (rd_tmp (v:=(vI 0)) O) (λw hw=>⟨rfl,hw.out⟩))))))))))
theorem Fa (a b c:Pt) (hs:BO a+BO b+BO c<=8589934592) (w:World)  :Calls prog 119 #[(aG (Ah a)),(aG (Ah b)),(aG (Ah c))] w (Ac w (aG (AC (AF a b c)))):=by
 refine AV (args:=[(aG (Ah a)),(aG (Ah b)),(aG (Ah c))]) func119 O O (leB O) (zI (sL [0,1,2] O) (q4 (BH (cs:=Ah a) O λb1=>BH (cs:=Ah b) O λb2=>BH (cs:=Ah c) O λb3=>al Cq O λb4=>q6 (sL [3,4,5,6] O) (B9 [(0,true),(1,true),(3,true),(4,true),(2,false),(5,false),(6,false),(7,false)] (sl sr) (B3 1 BJ O (B3 2 BJ O (B3 0 BJ O ?_)))))))
 refine B3 2 BJ O (zD O ?_)
 have hz1:=Bo b a
 refine ck' call38 (IE b a Z) O (zC (sl sr) (zD O ?_))
 have hz2:=Bo c a
 refine ck' call38 (IE c a Z) O (zC (sl sr) (zD O ?_))
 have hz3:=FN (b-a) (c-a)
 exact ck' call172 (Uj (b-a) (c-a) Z) O (zC (sl sr) (zD O (An O sizeOf60 O (zC (sl sr) (zP (zB (sL [6] O) (zA (zF (ret_one O (Ab (i:=0) (cs:=AC (BI (b-a) (c-a))) O O isAgg60 sizeOf60 O) (λw hw=>⟨rfl,hw.out⟩))))))))))
end
section
set_option maxRecDepth 100000
theorem C0 (x0:Rat) (x1:Rat) (x2:Rat):Instr.fill (λi=>some (i*5,5)) (AC (0:Rat)++AC (0:Rat)++AC (0:Rat)).toArray [(0,.agg (AC x0).toArray),(1,.agg (AC x1).toArray),(2,.agg (AC x2).toArray)]=some (AC x0++AC x1++AC x2).toArray:=by kernel_rfl
theorem N_ (a b c p:Pt) (hs:BO a+BO b+BO c+BO p<=268435456) (h:AF a b c≠0) (w:World)  :Calls prog 70 #[(aG (Ah a)),(aG (Ah b)),(aG (Ah c)),(aG (Ah p))] w (Ac w (Value.tuple #[(aG (AC (AF p b c/AF a b c)++AC (AF a p c/AF a b c)++AC (AF a b p/AF a b c))),(vI 0)])):=by
 refine AV (args:=[(aG (Ah a)),(aG (Ah b)),(aG (Ah c)),(aG (Ah p))]) func70 O O (leB O) (zI (sL [0,1,2,3] O) (q4 (BH (cs:=Ah a) O λb1=>BH (cs:=Ah b) O λb2=>BH (cs:=Ah c) O λb3=>BH (cs:=Ah p) O λb4=>al IU O λb5=>asg' O (q3 (sL [4,5,6,7,8,9] O) (Af 4 BJ O (Af 3 BJ O ?_))))))
 refine Af 2 BJ O ?_
 have hz1:=Er a b c
 refine ck' call119 (Fa a b c Z) O (al Cq O λb6=>An O sizeOf60 O (q6 (sL [4,5,6,7,8,9,10] O) (rN [(0,true),(1,true),(2,true),(4,true),(5,true),(6,true),(8,true),(9,true),(10,true),(3,false),(7,false),(11,false),(12,true)] [⟨13,11,153,AC (0:Rat)++AC (0:Rat)++AC (0:Rat)⟩] [(14,false)] sr jV (λ_ _ d _ _ h=>by cases d<;>exact h) (GD O O IU O (GP)) O (En 2 BJ O (En 4 BJ O (En 3 BJ O (En 5 BJ O (En 2 BJ O (En 3 BJ O (En 5 BJ O ?_))))))))))
 refine En 4 BJ O (En 2 BJ O (zf O λEF EL=>?_))
 have hz2:=Er p b c
 refine ck' call119 (Fa p b c Z) O (ze sr O (zf O λEF EL=>?_))
 have hz3:=Er a p c
 refine ck' call119 (Fa a p c Z) O (ze sr O (zf O λEF EL=>?_))
 have hz4:=Er a b p
 refine ck' call119 (Fa a b p Z) O (ze sr O (HZ (v:=(aG (AC (AF p b c)++AC (AF a p c)++AC (AF a b p)))) O (Az (zs:=AC (0:Rat)++AC (0:Rat)++AC (0:Rat)) (vs:=AC (AF p b c)++AC (AF a p c)++AC (AF a b p)) (pv:=[(0,(aG (AC (AF p b c)))),(1,(aG (AC (AF a p c)))),(2,(aG (AC (AF a b p))))]) zeroValue153 underlying153 sizeOf60 O (C0 (AF p b c) (AF a p c) (AF a b p))) O (zx λb7=>zD O (An O sizeOf153 O (zC (sl sr) (zP (zB (sL [4,5,6,8,9,10,11] O) (q1 (q4 (AK O ?_))))))))))
 refine oNl' (zA (zM (yF 5 (zl (q4 (st' (Aa (c:=true) O O jY) O (oNl' (q1 (zY O (zG (q1 ?_)))))))))))
 refine zM (q4 (AK O (asg' O (q6 (sL [4,5,6,8,9,10,11,32,12] O) (rN [(0,true),(1,true),(2,true),(3,true),(4,false),(5,true),(6,true),(7,true)] [⟨8,13,60,AC (0:Rat)⟩] [(9,false),(10,true)] sr jV (λ_ _ d _ _ h=>by cases d<;>exact h) (GD O O Cq O (GP)) O (Kb O (HZ (v:=(pP b7 0)) O (AB (j:=0) O O underlying153 sizeOf60 O jY O) O (Ta 0 (AC (AF p b c)) A9 O (En 1 A9 O (zf O λEF EL=>?_))))))))))
 have hz5:=He (a:=AF p b c) (b:=AF a b c) (by assumption)
 refine ck' call28 (I4 (AF p b c) (AF a b c) Z (by assumption)) O (ze sr O (Kb O (HZ O (AJ (v:=(aG (AC ((AF p b c)/(AF a b c))))) O O) O (HZ O (AJ (v:=(vI 0)) O O) O (zx λb8=>zD O (An O sizeOf60 O (zC (sl sr) (pS' O (zP (zB (sL [4,5,6,8,9,10,11,32,12,13,14] O) ?_))))))))))
 refine q1 (q4 (AK O (st' (DH (c:=false) O O jY) O (oNl' (zB (sL [4,5,6,8,9,10,11,32,12,13,44] O) (zA (zU O (zG (zA (zH (AK O ?_)))))))))))
 refine Af 0 A9 O (st' (v:=(pP b7 0)) (AB (j:=0) O O underlying153 sizeOf60 O jY O) O (Dt 1 (off:=0) (vs:=AC ((AF p b c)/(AF a b c))) (cs':=AC ((AF p b c)/(AF a b c))++AC (AF a p c)++AC (AF a b p)) (AG O) O sizeOf60 O (oNl' (zB (sL [4,5,6,8,9,10,11,32,12,13] O) (zJ (zA (zH (st' (AX (c:=(1:Int)) O O jY) O (AK O (oNl' (zB (sL [4,5,6,8,9,10,11,32,12,13] O) ?_)))))))))))
 refine z8 (zl (q4 (st' (Aa (c:=true) O O jY) O (oNl' (q1 (zY O (zG (q1 (zM (q4 (AK O ?_)))))))))))
 refine asg' O (q6 (sL [4,5,6,8,9,10,11,32,12,13] O) (zI (sL [4,5,6,8,9,10,11,32,12] O) (rN [(0,true),(1,true),(2,true),(3,true),(4,false),(5,true),(6,true),(7,true)] [⟨8,13,60,AC (0:Rat)⟩] [(9,false),(10,true)] sr jV (λ_ _ d _ _ h=>by cases d<;>exact h) (GD O O Cq O (GP)) O (Kb O (HZ (v:=(pP b7 5)) O (AB (j:=1) O O underlying153 sizeOf60 O jY O) O (Ta 1 (AC (AF a p c)) A9 O (En 2 A9 O (zf O λEF EL=>?_))))))))
 have hz6:=He (a:=AF a p c) (b:=AF a b c) (by assumption)
 refine ck' call28 (I4 (AF a p c) (AF a b c) Z (by assumption)) O (ze sr O (Kb O (HZ O (AJ (v:=(aG (AC ((AF a p c)/(AF a b c))))) O O) O (HZ O (AJ (v:=(vI 0)) O O) O (zx λb9=>zD O (An O sizeOf60 O (zC (sl sr) (pS' O (zP (zB (sL [4,5,6,8,9,10,11,32,12,13,14] O) ?_))))))))))
 refine q1 (q4 (AK O (st' (DH (c:=false) O O jY) O (oNl' (zB (sL [4,5,6,8,9,10,11,32,12,13,44] O) (zA (zU O (zG (zA (zH (AK O ?_)))))))))))
 refine Af 0 A9 O (st' (v:=(pP b7 5)) (AB (j:=1) O O underlying153 sizeOf60 O jY O) O (Dt 2 (off:=5) (vs:=AC ((AF a p c)/(AF a b c))) (cs':=AC ((AF p b c)/(AF a b c))++AC ((AF a p c)/(AF a b c))++AC (AF a b p)) (AG O) O sizeOf60 O (oNl' (zB (sL [4,5,6,8,9,10,11,32,12,13] O) (zJ (zA (zH (st' (AX (c:=(2:Int)) O O jY) O (AK O (oNl' (zB (sL [4,5,6,8,9,10,11,32,12,13] O) ?_)))))))))))
 refine z8 (zl (q4 (st' (Aa (c:=true) O O jY) O (oNl' (q1 (zY O (zG (q1 (zM (q4 (AK O ?_)))))))))))
 refine asg' O (q6 (sL [4,5,6,8,9,10,11,32,12,13] O) (zI (sL [4,5,6,8,9,10,11,32,12] O) (rN [(0,true),(1,true),(2,true),(3,true),(4,false),(5,true),(6,true),(7,true)] [⟨8,13,60,AC (0:Rat)⟩] [(9,false),(10,true)] sr jV (λ_ _ d _ _ h=>by cases d<;>exact h) (GD O O Cq O (GP)) O (Kb O (HZ (v:=(pP b7 10)) O (AB (j:=2) O O underlying153 sizeOf60 O jY O) O (Ta 2 (AC (AF a b p)) A9 O (En 3 A9 O (zf O λEF EL=>?_))))))))
 have hz7:=He (a:=AF a b p) (b:=AF a b c) (by assumption)
 refine ck' call28 (I4 (AF a b p) (AF a b c) Z (by assumption)) O (ze sr O (Kb O (HZ O (AJ (v:=(aG (AC ((AF a b p)/(AF a b c))))) O O) O (HZ O (AJ (v:=(vI 0)) O O) O (zx λb10=>zD O (An O sizeOf60 O (zC (sl sr) (pS' O (zP (zB (sL [4,5,6,8,9,10,11,32,12,13,14] O) ?_))))))))))
 refine q1 (q4 (AK O (st' (DH (c:=false) O O jY) O (oNl' (zB (sL [4,5,6,8,9,10,11,32,12,13,44] O) (zA (zU O (zG (zA (zH (AK O ?_)))))))))))
 refine Af 0 A9 O (st' (v:=(pP b7 10)) (AB (j:=2) O O underlying153 sizeOf60 O jY O) O (Dt 3 (off:=10) (vs:=AC ((AF a b p)/(AF a b c))) (cs':=AC ((AF p b c)/(AF a b c))++AC ((AF a p c)/(AF a b c))++AC ((AF a b p)/(AF a b c))) (AG O) O sizeOf60 O (oNl' (zB (sL [4,5,6,8,9,10,11,32,12,13] O) (zJ (zA (zH (st' (AX (c:=(3:Int)) O O jY) O (AK O (oNl' (zB (sL [4,5,6,8,9,10,11,32,12,13] O) ?_)))))))))))
 refine z8 (zl (q4 (st' (Aa (c:=false) O O jY) O (oNl' (q1 (zU O (zW (zO (zO (zR (q2 ?_)))))))))))
 exact Af 3 fY O (Dt 5 (off:=0) (vs:=AC ((AF p b c)/(AF a b c))++AC ((AF a p c)/(AF a b c))++AC ((AF a b p)/(AF a b c))) (cs':=AC ((AF p b c)/(AF a b c))++AC ((AF a p c)/(AF a b c))++AC ((AF a b p)/(AF a b c))) (AG O) O sizeOf153 O (asg' O (oNl' (zB (sL [4,5,6,8,9,10,11,32,12,13] O) (zA (zF (Bl O (Ab (i:=5) (cs:=AC ((AF p b c)/(AF a b c))++AC ((AF a p c)/(AF a b c))++AC ((AF a b p)/(AF a b c))) O O isAgg153 sizeOf153 O) (rd_tmp (v:=(vI 0)) O) (λw hw=>⟨rfl,hw.out⟩))))))))
theorem Ll  :Instr.fill (λi=>some (i*5,5)) (AC (0:Rat)++AC (0:Rat)++AC (0:Rat)).toArray []=some (AC (0:Rat)++AC (0:Rat)++AC (0:Rat)).toArray:=by kernel_rfl
theorem LG (a b c p:Pt) (hs:BO a+BO b+BO c+BO p<=268435456) (h:AF a b c=0) (w:World)  :Calls prog 70 #[(aG (Ah a)),(aG (Ah b)),(aG (Ah c)),(aG (Ah p))] w (Ac w (Value.tuple #[(aG (AC (0:Rat)++AC (0:Rat)++AC (0:Rat))),(vI 1)])):=by
 refine AV (args:=[(aG (Ah a)),(aG (Ah b)),(aG (Ah c)),(aG (Ah p))]) func70 O O (leB O) (zI (sL [0,1,2,3] O) (q4 (BH (cs:=Ah a) O λb1=>BH (cs:=Ah b) O λb2=>BH (cs:=Ah c) O λb3=>BH (cs:=Ah p) O λb4=>al IU O λb5=>asg' O (q3 (sL [4,5,6,7,8,9] O) (Af 4 BJ O (Af 3 BJ O ?_))))))
 refine Af 2 BJ O ?_
 have hz1:=Er a b c
 refine ck' call119 (Fa a b c Z) O (al Cq O λb6=>An O sizeOf60 O (q6 (sL [4,5,6,7,8,9,10] O) (rN [(0,true),(1,true),(2,true),(4,true),(5,true),(6,true),(8,true),(9,true),(10,true),(3,false),(7,false),(11,false),(12,true)] [⟨13,11,153,AC (0:Rat)++AC (0:Rat)++AC (0:Rat)⟩] [(14,false)] sr jV (λ_ _ d _ _ h=>by cases d<;>exact h) (GD O O IU O (GP)) O (En 2 BJ O (En 4 BJ O (En 3 BJ O (En 5 BJ O (En 2 BJ O (En 3 BJ O (En 5 BJ O ?_))))))))))
 refine En 4 BJ O (En 2 BJ O (zf O λEF EL=>?_))
 have hz2:=Er p b c
 refine ck' call119 (Fa p b c Z) O (ze sr O (zf O λEF EL=>?_))
 have hz3:=Er a p c
 refine ck' call119 (Fa a p c Z) O (ze sr O (zf O λEF EL=>?_))
 have hz4:=Er a b p
 refine ck' call119 (Fa a b p Z) O (ze sr O (HZ (v:=(aG (AC (AF p b c)++AC (AF a p c)++AC (AF a b p)))) O (Az (zs:=AC (0:Rat)++AC (0:Rat)++AC (0:Rat)) (vs:=AC (AF p b c)++AC (AF a p c)++AC (AF a b p)) (pv:=[(0,(aG (AC (AF p b c)))),(1,(aG (AC (AF a p c)))),(2,(aG (AC (AF a b p))))]) zeroValue153 underlying153 sizeOf60 O (C0 (AF p b c) (AF a p c) (AF a b p))) O (zx λb7=>zD O (An O sizeOf153 O (zC (sl sr) (zP (zB (sL [4,5,6,8,9,10,11] O) (q1 (q4 (AK O ?_))))))))))
 refine oNl' (zA (zM (yF 5 (zl (q4 (st' (Aa (c:=true) O O jY) O (oNl' (q1 (zY O (zG (q1 ?_)))))))))))
 refine zM (q4 (AK O (asg' O (q6 (sL [4,5,6,8,9,10,11,32,12] O) (rN [(0,true),(1,true),(2,true),(3,true),(4,false),(5,true),(6,true),(7,true)] [⟨8,13,60,AC (0:Rat)⟩] [(9,false),(10,true)] sr jV (λ_ _ d _ _ h=>by cases d<;>exact h) (GD O O Cq O (GP)) O (Kb O (HZ (v:=(pP b7 0)) O (AB (j:=0) O O underlying153 sizeOf60 O jY O) O (Ta 0 (AC (AF p b c)) A9 O (En 1 A9 O (zf O λEF EL=>CQ (args:=[(aG (AC (AF p b c))),(aG (AC (AF a b c)))]) (v:=(Value.tuple #[(aG (AC (0:Rat))),(vI 5)])) call28 (λw hw=>(by rw [h];exact P4 _ w)) O ?_))))))))))
 refine ze sr O (Kb O (HZ O (AJ (v:=(aG (AC (0:Rat)))) O O) O (HZ O (AJ (v:=(vI 5)) O O) O (zx λb8=>zD O (An O sizeOf60 O (zC (sl sr) (pS' O (zP (zB (sL [4,5,6,8,9,10,11,32,12,13,14] O) (q1 ?_))))))))))
 refine q4 (AK O (st' (DH (c:=true) O O jY) O (oNl' (zB (sL [4,5,6,8,9,10,11,32,12,13,44] O) (zA (zY O (q4 (st' (v:=(aG (AC (0:Rat)++AC (0:Rat)++AC (0:Rat)))) (Az (zs:=AC (0:Rat)++AC (0:Rat)++AC (0:Rat)) (vs:=AC (0:Rat)++AC (0:Rat)++AC (0:Rat)) (pv:=[]) zeroValue153 underlying153 sizeOf60 O (Ll )) O (F8 O sizeOf153 O (asg' O (oNl' ?_)))))))))))
 exact zB (sL [4,5,6,8,9,10,11,32,12,13] O) (zA (zF (zL (zV (zL (zL (zV (zL (Bl O (Ab (i:=3) (cs:=AC (0:Rat)++AC (0:Rat)++AC (0:Rat)) O O isAgg153 sizeOf153 O) (rd_tmp (v:=(vI 1)) O) (λw hw=>⟨rfl,hw.out⟩))))))))))
end
def zq (q:Rat):Nat:=if q.num.sign=0 then 1 else 0
def FH (x y z:Rat):Nat:=if x.num.sign = -1\/y.num.sign = -1\/z.num.sign = -1 then 0 else 1+zq x+zq y+zq z
theorem SN {x y z:Rat} (h:x.num.sign = -1):FH x y z=0:=if_pos (.inl h)
theorem SO {x y z:Rat} (h:y.num.sign = -1):FH x y z=0:=if_pos (.inr (.inl h))
theorem SP {x y z:Rat} (h:z.num.sign = -1):FH x y z=0:=if_pos (.inr (.inr h))
theorem YM {x y z:Rat} (h1:¬x.num.sign = -1) (h2:¬y.num.sign = -1) (h3:¬z.num.sign = -1):FH x y z=1+zq x+zq y+zq z:=if_neg (by simp [h1,h2,h3])
theorem PH {x:Rat} (h:x.num.sign=0):zq x=1:=if_pos h
theorem LF {x:Rat} (h:¬x.num.sign=0):zq x=0:=if_neg h
theorem YS (x:Rat):zq x<=1:=by unfold zq;split<;>omega
section
set_option maxRecDepth 100000
end
section
set_option maxRecDepth 100000
end
section
set_option maxRecDepth 100000
set_option maxHeartbeats 2000000 in
theorem Vn (a b c p:Pt) (hs:BO a+BO b+BO c+BO p<=268435456) (h:AF a b c≠0) (w:World)  :Calls prog 30 #[(aG (Ah a)),(aG (Ah b)),(aG (Ah c)),(aG (Ah p))] w (Ac w (vN (FH (AF p b c/AF a b c) (AF a p c/AF a b c) (AF a b p/AF a b c)))):=by
 obtain ⟨l0,hl0⟩:∃l,l=AF p b c/AF a b c:=⟨_,rfl⟩
 obtain ⟨l1,hl1⟩:∃l,l=AF a p c/AF a b c:=⟨_,rfl⟩
 obtain ⟨l2,hl2⟩:∃l,l=AF a b p/AF a b c:=⟨_,rfl⟩
 refine AV (args:=[(aG (Ah a)),(aG (Ah b)),(aG (Ah c)),(aG (Ah p))]) func30 O O (leB O) (zI (sL [0,1,2,3] O) (q4 (BH (cs:=Ah a) O λb1=>BH (cs:=Ah b) O λb2=>BH (cs:=Ah c) O λb3=>BH (cs:=Ah p) O λb4=>asg' O (q3 (sL [4,5,6,7,8] O) (Af 3 BJ O (Af 2 BJ O (Af 1 BJ O ?_)))))))
 refine Af 0 BJ O (CQ (args:=[(aG (Ah a)),(aG (Ah b)),(aG (Ah c)),(aG (Ah p))]) (v:=(Value.tuple #[(aG (AC l0++AC l1++AC l2)),(vI 0)])) call70 (λw hw=>(by rw [hl0,hl1,hl2];exact N_ a b c p Z h w)) O (AK O (st' (AJ (v:=(aG (AC l0++AC l1++AC l2))) O O) O (st' (AJ (v:=(vI 0)) O O) O (al IU O λb5=>An O sizeOf153 O (asg' O (q6 (sL [8,9,10] O) (q4 (AK O (st' (DH (c:=false) O O jY) O ?_))))))))))
 refine oNl' (zB (sL [8,9,22] O) (zA (zU O (zG (q2 (asg' O (q6 (sL [8,9,11] O) (q4 (AK O (oNl' (zA ?_)))))))))))
 refine zM (yF 5 (zl (q4 (st' (Aa (c:=true) O O jY) O (oNl' (q1 (zY O (zG (q1 (zM (q4 ?_)))))))))))
 refine AK O (asg' O (q3 (sL [8,9,11,23,12] O) (AK O (st' (v:=(pP b5 0)) (AB (j:=0) O O underlying153 sizeOf60 O jY O) O (By 0 (AC l0) A9 O (ck' call63 (Dh l0) O (oNl' (zB (sL [8,9,11,23,29] O) (zA ?_)))))))))
 refine yL (tg λ(pl0:Nat)=>pl0=1+zq l0/\¬l0.num.sign = -1) (tg λ(pl0:Nat)=>[(9,(pP b5 0)),(23,(vI 0)),(11,(vN pl0))]) (tg λ(pl0:Nat)=>[AO b5 153 (AC l0++AC l1++AC l2),AO b4 62 (Ah p),AO b3 62 (Ah c),AO b2 62 (Ah b),AO b1 62 (Ah a)]) ?_ ?_
 ·refine zM (q4 (st' (Au (c:=(decide (l0.num.sign=(-1:Int)))) O O O) O (asg' O (oNl' (zB (sL [8,9,11,23,29,30] O) (zA ?_))))))
  refine zK O (λhc2=>?_) (λhc2=>?_)
  ·replace hc2:=xR hc2
   have hz:=SN (x:=l0) (y:=l1) (z:=l2) hc2
   exact q4 (asg' O (oNl' (zA (zF (zV (yl (zV (zL (zL (zV (zL (ret_one O (rd_tmp (v:=(vI 0)) O) (λw hw=>⟨by rw [<-hl0,<-hl1,<-hl2,hz];rfl,hw.out⟩)))))))))))))
  ·replace hc2:=xQ hc2
   refine q4 (st' (Au (c:=(decide (l0.num.sign=(0:Int)))) O O O) O (asg' O (oNl' (zB (sL [8,9,11,23,29,32] O) (zA ?_)))))
   refine zK O (λhc3=>?_) (λhc3=>?_)
   ·replace hc3:=xR hc3
    exact zH (AK O (st' (AX (c:=(2:Int)) O O jY) O (asg' O (oNl' (zB (sL [8,9,11,23,29] O) (zJ (zk 2 (⟨by simp [PH hc3],hc2⟩) (sF O) sr)))))))
   ·replace hc3:=xQ hc3
    exact zG (zJ (zk 1 (⟨by simp [LF hc3],hc2⟩) (sF O) sr))
 ·intro pl0 hJ
  obtain ⟨e0,n0⟩:=hJ
  have zz0:=YS l0
  refine zJ (zA (zH (st' (AX (c:=(1:Int)) O O jY) O (AK O (oNl' (zB (sL [9,23,11] O) (z8 (zl (q4 (st' (Aa (c:=true) O O jY) O (oNl' ?_)))))))))))
  refine q1 (zY O (zG (q1 (zM (q4 (AK O (asg' O (q3 (sL [9,23,11,12] O) (AK O (st' (v:=(pP b5 5)) (AB (j:=1) O O underlying153 sizeOf60 O jY O) O (By 0 (AC l1) A9 O ?_)))))))))))
  refine ck' call63 (Dh l1) O (oNl' (zB (sL [9,23,11,29] O) (zA ?_)))
  refine yL (tg λ(pl1:Nat)=>pl1=pl0+zq l1/\¬l1.num.sign = -1) (tg λ(pl1:Nat)=>[(9,(pP b5 0)),(23,(vI 1)),(11,(vN pl1))]) (tg λ(pl1:Nat)=>[AO b5 153 (AC l0++AC l1++AC l2),AO b4 62 (Ah p),AO b3 62 (Ah c),AO b2 62 (Ah b),AO b1 62 (Ah a)]) ?_ ?_
  ·refine zM (q4 (st' (Au (c:=(decide (l1.num.sign=(-1:Int)))) O O O) O (asg' O (oNl' (zB (sL [9,23,11,29,30] O) (zA ?_))))))
   refine zK O (λhc2=>?_) (λhc2=>?_)
   ·replace hc2:=xR hc2
    have hz:=SO (x:=l0) (y:=l1) (z:=l2) hc2
    exact q4 (asg' O (oNl' (zA (zF (zV (yl (zV (zL (zL (zV (zL (ret_one O (rd_tmp (v:=(vI 0)) O) (λw hw=>⟨by rw [<-hl0,<-hl1,<-hl2,hz];rfl,hw.out⟩)))))))))))))
   ·replace hc2:=xQ hc2
    refine q4 (st' (Au (c:=(decide (l1.num.sign=(0:Int)))) O O O) O (asg' O (oNl' (zB (sL [9,23,11,29,32] O) (zA ?_)))))
    refine zK O (λhc3=>?_) (λhc3=>?_)
    ·replace hc3:=xR hc3
     exact zH (AK O (st' (AX (c:=((pl0+1:Nat):Int)) O O (AU (a:=pl0) (b:=1) Z)) O (asg' O (oNl' (zB (sL [9,23,11,29] O) (zJ (zk (pl0+1) (⟨by simp [PH hc3],hc2⟩) (sF O) sr)))))))
    ·replace hc3:=xQ hc3
     exact zG (zJ (zk pl0 (⟨by simp [LF hc3],hc2⟩) (sF O) sr))
  ·intro pl1 hJ
   obtain ⟨e1,n1⟩:=hJ
   have zz1:=YS l1
   refine zJ (zA (zH (st' (AX (c:=(2:Int)) O O jY) O (AK O (oNl' (zB (sL [9,23,11] O) (z8 (zl (q4 (st' (Aa (c:=true) O O jY) O (oNl' ?_)))))))))))
   refine q1 (zY O (zG (q1 (zM (q4 (AK O (asg' O (q3 (sL [9,23,11,12] O) (AK O (st' (v:=(pP b5 10)) (AB (j:=2) O O underlying153 sizeOf60 O jY O) O (By 0 (AC l2) A9 O ?_)))))))))))
   refine ck' call63 (Dh l2) O (oNl' (zB (sL [9,23,11,29] O) (zA ?_)))
   refine yL (tg λ(pl2:Nat)=>pl2=pl1+zq l2/\¬l2.num.sign = -1) (tg λ(pl2:Nat)=>[(9,(pP b5 0)),(23,(vI 2)),(11,(vN pl2))]) (tg λ(pl2:Nat)=>[AO b5 153 (AC l0++AC l1++AC l2),AO b4 62 (Ah p),AO b3 62 (Ah c),AO b2 62 (Ah b),AO b1 62 (Ah a)]) ?_ ?_
   ·refine zM (q4 (st' (Au (c:=(decide (l2.num.sign=(-1:Int)))) O O O) O (asg' O (oNl' (zB (sL [9,23,11,29,30] O) (zA ?_))))))
    refine zK O (λhc2=>?_) (λhc2=>?_)
    ·replace hc2:=xR hc2
     have hz:=SP (x:=l0) (y:=l1) (z:=l2) hc2
     exact q4 (asg' O (oNl' (zA (zF (zV (yl (zV (zL (zL (zV (zL (ret_one O (rd_tmp (v:=(vI 0)) O) (λw hw=>⟨by rw [<-hl0,<-hl1,<-hl2,hz];rfl,hw.out⟩)))))))))))))
    ·replace hc2:=xQ hc2
     refine q4 (st' (Au (c:=(decide (l2.num.sign=(0:Int)))) O O O) O (asg' O (oNl' (zB (sL [9,23,11,29,32] O) (zA ?_)))))
     refine zK O (λhc3=>?_) (λhc3=>?_)
     ·replace hc3:=xR hc3
      exact zH (AK O (st' (AX (c:=((pl1+1:Nat):Int)) O O (AU (a:=pl1) (b:=1) Z)) O (asg' O (oNl' (zB (sL [9,23,11,29] O) (zJ (zk (pl1+1) (⟨by simp [PH hc3],hc2⟩) (sF O) sr)))))))
     ·replace hc3:=xQ hc3
      exact zG (zJ (zk pl1 (⟨by simp [LF hc3],hc2⟩) (sF O) sr))
   ·intro pl2 hJ
    obtain ⟨e2,n2⟩:=hJ
    have zz2:=YS l2
    refine zJ (zA (zH (st' (AX (c:=(3:Int)) O O jY) O (AK O (oNl' (zB (sL [9,23,11] O) (z8 (zl (q4 (st' (Aa (c:=false) O O jY) O (oNl' ?_)))))))))))
    refine q1 (zU O (zW (zO (zO (zR (q2 (AK O (asg' O (oNl' (zB (sL [9,23,11,8] O) (zA ?_)))))))))))
    exact zF (ret_one O (rd_tmp (v:=(vN pl2)) O) (λw hw=>⟨by rw [<-hl0,<-hl1,<-hl2,YM n0 n1 n2,e2,e1,e0],hw.out⟩))
theorem Tl (a b c p:Pt) (hs:BO a+BO b+BO c+BO p<=268435456) (h:AF a b c=0) (w:World)  :Calls prog 30 #[(aG (Ah a)),(aG (Ah b)),(aG (Ah c)),(aG (Ah p))] w (Ac w (vI 0)):=by
 refine AV (args:=[(aG (Ah a)),(aG (Ah b)),(aG (Ah c)),(aG (Ah p))]) func30 O O (leB O) (zI (sL [0,1,2,3] O) (q4 (BH (cs:=Ah a) O λb1=>BH (cs:=Ah b) O λb2=>BH (cs:=Ah c) O λb3=>BH (cs:=Ah p) O λb4=>asg' O (q3 (sL [4,5,6,7,8] O) (Af 3 BJ O (Af 2 BJ O (Af 1 BJ O ?_)))))))
 refine Af 0 BJ O (ck' call70 (LG a b c p Z h) O (AK O (st' (AJ (v:=(aG (AC (0:Rat)++AC (0:Rat)++AC (0:Rat)))) O O) O (st' (AJ (v:=(vI 1)) O O) O (al IU O λb5=>An O sizeOf153 O (asg' O (q6 (sL [8,9,10] O) (q4 (AK O (st' (DH (c:=true) O O jY) O ?_))))))))))
 exact oNl' (zB (sL [8,9,22] O) (zA (zY O (q4 (asg' O (oNl' (zB (sL [8,9] O) (zA (zF (zL (ret_one O (rd_tmp (v:=(vI 0)) O) (λw hw=>⟨rfl,hw.out⟩))))))))))))
end
section
set_option maxRecDepth 100000
end
section
section
variable {P:Program} {n:Nat} {F:List (Nat×Value)} {w0:Ay} {L:List As} {v:Value} {x:Operand} {d:Option Tmp} {t:TypeId} {p:String} {af:Array Edge} {g:Option (Nat×Bool)}
end
end
section
set_option maxRecDepth 100000
end
section
set_option maxRecDepth 100000
end
section
set_option maxRecDepth 100000
end
section
set_option maxRecDepth 100000
end
section
set_option maxRecDepth 100000
end
section
set_option maxRecDepth 100000
end
section
section
variable {P:Program} {n:Nat} {F:List (Nat×Value)} {w0:Ay} {L:List As} {v:Value} {x lo hi:Operand} {d:Option Tmp} {t:TypeId} {p:String} {af:Array Edge} {g:Option (Nat×Bool)}
theorem Kh {s r:ByteArray} {ki kj:IntKind} {i j:Nat} {tx:TypeId} (hx:evF F x=some (.string s)) (hl:evF F lo=some (.int ki (i:Nat))) (hh:evF F hi=some (.int kj (j:Nat))) (hu:P.underlying tx=some .string) (h1:i<=j) (h2:j<=s.size) (hr:s.extract i j=r) :
    Ex P n F w0 L ⟨d,.slice tx x (some lo) (some hi) none,t,p,af,g⟩ (.string r):=λA w ha _=>by
  subst hr
  simp only [execOp,ha.ev hx,Instr.sliceAt,run_underlying hu,Instr.slice,Option.map_some,Option.map_none,ha.ev hl,ha.ev hh,Instr.sliceBounds,Instr.sliceBound,asIntOf,Sem.run_bind,Result.andThen_ok,Sem.run_pure]
  simp [h1,h2]
end
def Jm (n:Nat):ByteArray:=⟨#[UInt8.ofNat (48+n)]⟩
theorem cE {s:ByteArray} (h:((List.range 10).all λn=>(s.extract n (n+1)).data.toList == (Jm n).data.toList)=true) {n:Nat} (hn:n<10):s.extract n (n+1)=Jm n:=by
  have h1:=List.all_eq_true.1 h n (List.mem_range.2 hn)
  have h2:(s.extract n (n+1)).data.toList=(Jm n).data.toList:=by simpa using h1
  cases hA:s.extract n (n+1) with|mk da=>cases hB:Jm n with|mk db =>
    rw [hA,hB] at h2
    congr 1
    exact Array.toList_inj.1 h2
def F_ (z:Int):ByteArray:=if z<0 then ⟨#[45]⟩++Jm z.natAbs else Jm z.natAbs
def TX (q:Rat):ByteArray:=if q.den-1=0 then F_ q.num else F_ q.num++⟨#[47]⟩++Jm q.den
theorem Pw (n:Nat):(Jm n).size=1:=rfl
theorem SH (z:Int):(F_ z).size<=2:=by
  unfold F_
  split
  · rw [ByteArray.size_append];exact Nat.le_refl 2
  · exact Nat.le_succ 1
end
section
set_option maxRecDepth 100000
theorem Xp (n:Nat) (hn:n<10) (w:World)  :Calls prog 178 #[(vN n)] w (Ac w (Value.string (Jm n))):=by
 refine AV (args:=[(vN n)]) func178 O O (leB O) (zI (sL [0] O) (q4 (asg' O (oNl' (q1 (q4 (AK O (st' (Aa (c:=(decide (n<10))) O O (DE (a:=n) (b:=10))) O (oNl' (zB (sL [0,2,4] O) (zA ?_)))))))))))
 refine zK O (λhc0=>?_) (λhc0=>?_)
 ·replace hc0:=xR hc0
  exact q4 (AK O (AK O (st' (AX (c:=((n+1:Nat):Int)) O O (AU (a:=n) (b:=1) Z)) O (st' (v:=(Value.string (Jm n))) (Kh (i:=n) (j:=n+1) O O O underlying9 Z (xK (show n+1<=10 by omega) jY) (cE jV hn)) O (asg' O (oNl' (zB (sL [0,2] O) (zA (zF (zL (ret_one O (rd_tmp (v:=(Value.string (Jm n))) O) (λw hw=>⟨rfl,hw.out⟩))))))))))))
 ·replace hc0:=xQ hc0
  exfalso;omega
theorem Rb (n:Nat) (hn:n<10) (w:World)  :Calls prog 136 #[(vK .u64 n),(vI 10)] w (Ac w (Value.string (Jm n))):=by
 refine AV (args:=[(vK .u64 n),(vI 10)]) func136 O O (leB O) (zI (sL [0,1] O) (q4 (asg' O (oNl' (q1 (q4 (AK O (st' (Au (c:=true) O O jY) O (oNl' (zB (sL [0,1,4,10] O) (zA ?_)))))))))))
 refine zY O (zS (q4 (AK O (st' (Aa (c:=(decide (n<100))) O O (DE (a:=n) (b:=100))) O (oNl' (zB (sL [0,1,4,12] O) (zA ?_)))))))
 refine zK O (λhc1=>?_) (λhc1=>?_)
 ·replace hc1:=xR hc1
  exact q4 (AK O (st' (Al (c:=((n:Nat):Int)) O underlying52 underlying3 (B6 Z)) O (ck' call178 (Xp n Z) O (asg' O (oNl' (zB (sL [0,1,4] O) (zA (zF (zL (zL (ret_one O (rd_tmp (v:=(Value.string (Jm n))) O) (λw hw=>⟨rfl,hw.out⟩))))))))))))
 ·replace hc1:=xQ hc1
  exfalso;omega
theorem UG (n:Nat) (hn:n<10) (w:World)  :Calls prog 84 #[(vK .u64 n),(vI 10)] w (Ac w (Value.string (Jm n))):=by
 refine AV (args:=[(vK .u64 n),(vI 10)]) func84 O O (leB O) (zI (sL [0,1] O) (q4 (asg' O (oNl' (q2 (AK O (AK O (ck' call136 (Rb n Z) O (asg' O (oNl' (zB (sL [4] O) ?_)))))))))))
 exact zA (zF (ret_one O (rd_tmp (v:=(Value.string (Jm n))) O) (λw hw=>⟨rfl,hw.out⟩)))
theorem L_ (n:Nat) (hn:n<10) (w:World)  :Calls prog 48 #[(aG (AW n))] w (Ac w (Value.string (Jm n))):=by
 refine AV (args:=[(aG (AW n))]) func48 O O (leB O) (zI (sL [0] O) (q4 (BH (cs:=AW n) O λb1=>asg' O (q6 (sL [1,2] O) (q4 (st' (v:=(pP b1 1)) (AA O underlying54 O sizeOf9 O) O (BL 0 (Value.string (Bw n)) VD O (st' (Bh (c:=(decide (n<18446744073709551616))) O O Cv) O (oNl' (zB (sL [1,2,10] O) ?_))))))))))
 refine zA ?_
 refine zK O (λhc0=>?_) (λhc0=>?_)
 ·replace hc0:=xR hc0
  exact q4 (st' (v:=(pP b1 0)) (AA O underlying54 O sizeOf52 O) O (BL 0 (vK .u64 (CM n)) Hb O (zN (k:=12) (u:=(vK .u64 n)) O (by rw [Bp Z]) (ck' call84 (UG n Z) O (asg' O (oNl' (zB (sL [1,2] O) (zA (zF (zL (ret_one O (rd_tmp (v:=(Value.string (Jm n))) O) (λw hw=>⟨rfl,hw.out⟩))))))))))))
 ·replace hc0:=xQ hc0
  exfalso;omega
theorem P8 (z:Int) (hz:z.natAbs<10) (w:World)  :Calls prog 47 #[(aG (A8 z))] w (Ac w (Value.string (F_ z))):=by
 refine AV (args:=[(aG (A8 z))]) func47 O O (leB O) (zI (sL [0] O) (q4 (BH (cs:=A8 z) O λb1=>asg' O (q6 (sL [1,2] O) (q4 (st' (v:=(pP b1 2)) (AA O underlying58 O sizeOf4 O) O (BL 0 (qa (decide (z<0))) Mj O (oNl' (zB (sL [1,2,4] O) (zA ?_))))))))))
 refine zK O (λhc0=>?_) (λhc0=>?_)
 ·replace hc0:=xR hc0
  have he:F_ z=⟨#[45]⟩++Jm z.natAbs:=if_pos hc0
  exact q4 (st' (v:=(pP b1 0)) (AA O underlying58 O sizeOf56 O) O (st' (v:=(pP b1 0)) (AA O underlying56 O sizeOf54 O) O (By 0 (AW z.natAbs) CH O (ck' call48 (L_ z.natAbs Z) O (st' (v:=(Value.string (ByteArray.mk #[45]++Jm z.natAbs))) (Bz (r:=(ByteArray.mk #[45]++Jm z.natAbs)) O O (by rw [Pw];decide) O) O (asg' O (oNl' (zB (sL [1,2] O) (zA (zF (zL (ret_one O (rd_tmp (v:=(Value.string (ByteArray.mk #[45]++Jm z.natAbs))) O) (λw hw=>⟨by rw [he],hw.out⟩)))))))))))))
 ·replace hc0:=xQ hc0
  have he:F_ z=Jm z.natAbs:=if_neg hc0
  exact zG (q2 (st' (v:=(pP b1 0)) (AA O underlying58 O sizeOf56 O) O (st' (v:=(pP b1 0)) (AA O underlying56 O sizeOf54 O) O (By 0 (AW z.natAbs) CH O (ck' call48 (L_ z.natAbs Z) O (asg' O (oNl' (zB (sL [1,2] O) (zA (zF (ret_one O (rd_tmp (v:=(Value.string (Jm z.natAbs))) O) (λw hw=>⟨by rw [he],hw.out⟩))))))))))))
theorem WO (q:Rat) (hn:q.num.natAbs<10) (hd:q.den<10) (w:World)  :Calls prog 19 #[(aG (AC q))] w (Ac w (Value.string (TX q))):=by
 have hs:=SH q.num
 have hdn:nw q.den<=1099511627776:=xK (JF Z) Z
 refine AV (args:=[(aG (AC q))]) func19 O O (leB O) (zI (sL [0] O) (q4 (BH (cs:=AC q) O λb1=>asg' O (q6 (sL [1,2] O) (q4 (Af 0 A9 O (ck' call46 (GW q) O (oNl' (zB (sL [1,2,4] O) (zA ?_))))))))))
 refine zK O (λhc0=>?_) (λhc0=>?_)
 ·replace hc0:=xR hc0
  have he:TX q=F_ q.num:=if_pos hc0
  exact q4 (st' (v:=(pP b1 0)) (AA O underlying60 O sizeOf58 O) O (By 0 (A8 q.num) Du O (ck' call47 (P8 q.num Z) O (asg' O (oNl' (zB (sL [1,2] O) (zA (zF (zL (ret_one O (rd_tmp (v:=(Value.string (F_ q.num))) O) (λw hw=>⟨by rw [he],hw.out⟩)))))))))))
 ·replace hc0:=xQ hc0
  have he:TX q=F_ q.num++⟨#[47]⟩++Jm q.den:=if_neg hc0
  refine zG (q1 (B9 [(0,true),(1,true),(4,true),(2,false),(3,true),(5,false),(6,false),(7,true),(8,true)] sr (Am (v:=(pP b1 0)) O (AA O underlying60 O sizeOf58 O) (Dz 0 (A8 q.num) Du O (B3 0 A9 O (zD O (ck' call47 (P8 q.num Z) O (zC sr (Am (v:=(Value.string (F_ q.num++ByteArray.mk #[47]))) O (Bz (r:=(F_ q.num++ByteArray.mk #[47])) O O (xK (Nat.add_le_add_right hs 1) jY) O) (zD O (ck' call49 (den_ok q Z) O ?_)))))))))))
  exact zC sr (zD O (ck' call48 (L_ q.den Z) O (zC sr (Am (v:=(Value.string (F_ q.num++ByteArray.mk #[47]++Jm q.den))) O (Bz (r:=(F_ q.num++ByteArray.mk #[47]++Jm q.den)) O O (by rw [ByteArray.size_append,Pw];exact xK (Nat.add_le_add_right (Nat.add_le_add_right hs 1) 1) jY) O) (pS' O (zP (zB (sL [1,2] O) (zA (zF (ret_one O (rd_tmp (v:=(Value.string (F_ q.num++ByteArray.mk #[47]++Jm q.den))) O) (λw hw=>⟨by rw [he],hw.out⟩)))))))))))
end
theorem LR (a b:Pt):(a+b).x=a.x+b.x:=rfl
theorem LS (a b:Pt):(a+b).y=a.y+b.y:=rfl
theorem HT (a b:Pt):(a-b).x=a.x-b.x:=rfl
theorem HU (a b:Pt):(a-b).y=a.y-b.y:=rfl
theorem HJ (a:Pt) (k:Rat):(Bm a k).x=a.x*k:=rfl
theorem HK (a:Pt) (k:Rat):(Bm a k).y=a.y*k:=rfl
theorem B0 (a b c:Pt):AF a b c=(b.x-a.x)*(c.y-a.y)-(b.y-a.y)*(c.x-a.x):=rfl
theorem Kz (a b:Pt):C8 a b=a.x*b.x+a.y*b.y:=rfl
theorem Na (a b:Pt):BI a b=a.x*b.y-a.y*b.x:=rfl
theorem Sd {a b c p:Pt} (h:AF a b c≠0):Bm a (AF p b c/AF a b c)+Bm b (AF a p c/AF a b c)+Bm c (AF a b p/AF a b c)=p:=by
  have kx:a.x*AF p b c+b.x*AF a p c+c.x*AF a b p=p.x*AF a b c:=by simp only [B0];grind
  have ky:a.y*AF p b c+b.y*AF a p c+c.y*AF a b p=p.y*AF a b c:=by simp only [B0];grind
  generalize AF a b c=T at *
  refine Pt.ext ?_ ?_
  · simp only [LR,HJ];grind
  · simp only [LS,HK];grind
theorem LT {a b c p:Pt} (h:AF a b c≠0):AF p b c/AF a b c+AF a p c/AF a b c+AF a b p/AF a b c=1:=by
  have k:AF p b c+AF a p c+AF a b p=AF a b c:=by simp only [B0];grind
  generalize AF a b c=T at *
  grind
theorem O6 (a b:Rat):a<b\/a=b\/b<a:=by grind
theorem GK {q:Rat} (h:q<0):q.num.sign = -1:=by
  have h1:¬0<=q.num:=λe=>by have:=Rat.num_nonneg.1 e;grind
  exact Int.sign_eq_neg_one_of_neg Z
theorem GL {q:Rat} (h:0<q):q.num.sign=1:=by
  have h1:0<=q.num:=Rat.num_nonneg.2 (by grind)
  have h2:q.num≠0:=λe=>by have:=Rat.num_eq_zero.1 e;grind
  exact Int.sign_eq_one_of_pos Z
theorem Xk {q:Rat} (h:q=0):q.num.sign=0:=by subst h;rfl
def U6 (q:Rat):Int:=if q<0 then -1 else if q=0 then 0 else 1
theorem O0 (q:Rat):q.num.sign=U6 q:=by
  unfold U6
  split
  · exact GK ‹_›
  · split
    · exact Xk ‹_›
    · exact GL (by grind)
theorem Gl (a b c:Pt):AF b c a=AF a b c:=by simp only [B0];grind
theorem U7 (z:Int):z.sign = -1\/z.sign=0\/z.sign=1:=by
  rcases Int.lt_trichotomy z 0 with h|h|h
  · exact .inl (Int.sign_eq_neg_one_of_neg h)
  · subst h;exact .inr (.inl rfl)
  · exact .inr (.inr (Int.sign_eq_one_of_pos h))
section
theorem ZI (a b:Int):(decide (a.natAbs=b.natAbs)&&((decide (a<0) == decide (b<0))&&true))=decide (a=b):=by
  by_cases e:a=b
  · subst e;simp
  · rw [xD e]
    by_cases h1:a<0<;>by_cases h2:b<0<;>simp [h1,h2]<;>omega
theorem ZH (D:Nat) (a b:Int):IJ prog (D+4) 58 (.agg (A8 a).toArray) (.agg (A8 b).toArray) (decide (a=b)):=by
  rw [<-ZI]
  exact IJ.struct underlying58 Tryz.stoodInHeld58 (LH.agg (us:=AW a.natAbs) (bs:=AW b.natAbs) jY isAgg56 sizeOf56 O O (P0 D _ _) (LH.one jY isAgg4 O O (IJ.bool underlying4) LH.nil))
theorem WK (a b:Rat):(decide (a.num=b.num)&&(decide (a.den-1=b.den-1)&&true))=decide (a=b):=by
  by_cases e:a=b
  · subst e;simp
  · rw [xD e]
    have h1:=a.den_pos
    have h2:=b.den_pos
    simp only [Bool.and_true,xX,xS]
    apply Classical.byContradiction
    intro h
    refine e (Rat.ext ?_ ?_)
    · exact Classical.byContradiction λk=>h (.inl k)
    · exact Classical.byContradiction λk=>h (.inr Z)
theorem Lf (D:Nat) (a b:Rat):IJ prog (D+5) 60 (.agg (AC a).toArray) (.agg (AC b).toArray) (decide (a=b)):=by
  rw [<-WK]
  exact IJ.struct underlying60 Tryz.stoodInHeld60 (LH.agg (us:=A8 a.num) (bs:=A8 b.num) jY isAgg58 sizeOf58 O O (ZH D _ _) (LH.agg (us:=AW (a.den-1)) (bs:=AW (b.den-1)) jY isAgg54 sizeOf54 O O (H9 (D+2) _ _) LH.nil))
instance:DecidableEq Pt:=λa b=>decidable_of_iff (a.x=b.x/\a.y=b.y) ⟨λh=>Pt.ext h.1 h.2,λh=>h▸⟨rfl,rfl⟩⟩
theorem cK (a b:Pt):(decide (a.x=b.x)&&(decide (a.y=b.y)&&true))=decide (a=b):=by
  by_cases e:a=b
  · subst e;simp
  · rw [xD e]
    simp only [Bool.and_true,xX,xS]
    apply Classical.byContradiction
    intro h
    refine e (Pt.ext ?_ ?_)
    · exact Classical.byContradiction λk=>h (.inl k)
    · exact Classical.byContradiction λk=>h (.inr k)
theorem OS (D:Nat) (a b:Pt):IJ prog (D+6) 62 (.agg (Ah a).toArray) (.agg (Ah b).toArray) (decide (a=b)):=by
  rw [<-cK]
  exact IJ.struct underlying62 Tryz.stoodInHeld62 (LH.agg (us:=AC a.x) (bs:=AC b.x) jY isAgg60 sizeOf60 O O (Lf D _ _) (LH.agg (us:=AC a.y) (bs:=AC b.y) jY isAgg60 sizeOf60 O O (Lf D _ _) LH.nil))
section
variable {P:Program}
def Yb (P:Program) (D:Nat) (e:TypeId) (c:Nat) (xs ys:List Value) (is:List Nat) (b:Bool):Prop:=∀w,(Go.Op.eqItems D e c xs.toArray ys.toArray is).run P w=.ok b w
theorem Yb.nil {D c:Nat} {e:TypeId} {xs ys:List Value}:Yb P D e c xs ys [] true:=λw=>rfl
theorem IJ.array {D n c:Nat} {T e:TypeId} {xs ys:List Value} {b:Bool} (hu:P.underlying T=some (.array n e)) (hi:∃i,P.info? e=some i) (hc:P.cellsOf e=c) (h:Yb P D e c xs ys (List.range n) b) :
    IJ P (D+1) T (.agg xs.toArray) (.agg ys.toArray) b:=λw=>by
  obtain ⟨i,hi⟩:=hi
  rw [Go.run_equalIn_array w D xs.toArray ys.toArray hu hi,hc]
  exact h w
end
theorem Lg (D:Nat) {a b:Rat} (h:a=b):IJ prog (D+5) 60 (.agg (AC a).toArray) (.agg (AC b).toArray) true:=by
  have:=Lf D a b;rwa [xE h] at this
section
variable {P:Program} {n:Nat} {F:List (Nat×Value)} {w0:Ay} {L:List As} {x y:Operand} {d:Option Tmp} {t:TypeId} {p:String} {af:Array Edge} {g:Option (Nat×Bool)}
end
end
end Go.Proofs.YtcpkbjjmcleplaaGreatDoor
