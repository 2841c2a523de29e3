import Derived.ChangeKeysEq
import Derived.Test.YtcpkbjjmcleplaaGreatDoorPart16
namespace Go.Proofs.YtcpkbjjmcleplaaGreatDoor
open Go Go.RowKit Go.Proofs.Tryz
open Go.Value renaming slice→qz,bool→qa
set_option linter.unusedVariables false
set_option linter.unusedSimpArgs false
section
set_option maxRecDepth 100000
theorem JG (x y:Int) (h1:-9223372036854775808<=x) (h2:x<9223372036854775808) (h3:-9223372036854775808<=y) (h4:y<9223372036854775808) (hy:y≠0) (w:World)  :Calls prog 14 #[(vI x),(vI y)] w (AY w (Value.tuple #[(aG (AB (((x:Int):Rat)/((y:Int):Rat)))),(vI 0)])):=by
 have hb:((y:Int):Rat)≠0:=λe=>hy (by exact_mod_cast e)
 have s1:=H3 h1 h2
 have s2:=H3 h3 h4
 refine AS (args:=[(vI x),(vI y)]) func14 O O (leB O) (zG (sL [0,1] O) (q4 (al CZ O λb1=>asg' O (oNl' (q2 (AL O (ck' call17 (Eo x Z Z) O (AL O (ck' call17 (Eo y Z Z) O ?_)))))))))
 have hz1:=HA (a:=((x:Int):Rat)) (b:=((y:Int):Rat)) (by assumption)
 exact ck' call28 (IY ((x:Int):Rat) ((y:Int):Rat) Z (by assumption)) O (st' (AH (v:=(aG (AB (((x:Int):Rat)/((y:Int):Rat))))) O O) O (st' (AH (v:=(vI 0)) O O) O (Am O sizeOf60 O (asg' O (oNl' (zB (sL [4,5] O) (zA (zF (Bf O (Aa (i:=0) (cs:=AB (((x:Int):Rat)/((y:Int):Rat))) O O isAgg60 sizeOf60 O) (rd_tmp (v:=(vI 0)) O) (λw hw=>⟨rfl,hw.out⟩))))))))))
theorem Ew (a b c:Pt) (hs:BD a+BD b+BD c<=8589934592) (w:World)  :Calls prog 119 #[(aG (Ae a)),(aG (Ae b)),(aG (Ae c))] w (AY w (aG (AB (AF a b c)))):=by
 refine AS (args:=[(aG (Ae a)),(aG (Ae b)),(aG (Ae c))]) func119 O O (leB O) (zG (sL [0,1,2] O) (q4 (A9 (cs:=Ae a) O λb1=>A9 (cs:=Ae b) O λb2=>A9 (cs:=Ae c) O λb3=>al CZ O λb4=>q6 (sL [3,4,5,6] O) (B8 [(0,true),(1,true),(3,true),(4,true),(2,false),(5,false),(6,false),(7,false)] (sl sr) (Bv 1 A_ O (Bv 2 A_ O (Bv 0 A_ O ?_)))))))
 refine Bv 2 A_ O (zD O ?_)
 have hz1:=Bi b a
 refine ck' call38 (Ho b a Z) O (zC (sl sr) (zD O ?_))
 have hz2:=Bi c a
 refine ck' call38 (Ho c a Z) O (zC (sl sr) (zD O ?_))
 have hz3:=Eq (b-a) (c-a)
 exact ck' call172 (TR (b-a) (c-a) Z) O (zC (sl sr) (zD O (Am O sizeOf60 O (zC (sl sr) (zP (zB (sL [6] O) (zA (zF (ret_one O (Aa (i:=0) (cs:=AB (A8 (b-a) (c-a))) O O isAgg60 sizeOf60 O) (λw hw=>⟨rfl,hw.out⟩))))))))))
end
section
set_option maxRecDepth 100000
theorem Ch (x0:Rat) (x1:Rat) (x2:Rat):Instr.fill (λi=>some (i*5,5)) (AB (0:Rat)++AB (0:Rat)++AB (0:Rat)).toArray [(0,.agg (AB x0).toArray),(1,.agg (AB x1).toArray),(2,.agg (AB x2).toArray)]=some (AB x0++AB x1++AB x2).toArray:=by kernel_rfl
theorem NJ (a b c p:Pt) (hs:BD a+BD b+BD c+BD p<=268435456) (h:AF a b c≠0) (w:World)  :Calls prog 70 #[(aG (Ae a)),(aG (Ae b)),(aG (Ae c)),(aG (Ae p))] w (AY w (Value.tuple #[(aG (AB (AF p b c/AF a b c)++AB (AF a p c/AF a b c)++AB (AF a b p/AF a b c))),(vI 0)])):=by
 refine AS (args:=[(aG (Ae a)),(aG (Ae b)),(aG (Ae c)),(aG (Ae p))]) func70 O O (leB O) (zG (sL [0,1,2,3] O) (q4 (A9 (cs:=Ae a) O λb1=>A9 (cs:=Ae b) O λb2=>A9 (cs:=Ae c) O λb3=>A9 (cs:=Ae p) O λb4=>al H0 O λb5=>asg' O (q3 (sL [4,5,6,7,8,9] O) (Ah 4 A_ O (Ah 3 A_ O ?_))))))
 refine Ah 2 A_ O ?_
 have hz1:=EM a b c
 refine ck' call119 (Ew a b c Z) O (al CZ O λb6=>Am O sizeOf60 O (q6 (sL [4,5,6,7,8,9,10] O) (rN [(0,true),(1,true),(2,true),(4,true),(5,true),(6,true),(8,true),(9,true),(10,true),(3,false),(7,false),(11,false),(12,true)] [⟨13,11,153,AB (0:Rat)++AB (0:Rat)++AB (0:Rat)⟩] [(14,false)] sr jV (λ_ _ d _ _ h=>by cases d<;>exact h) (FY O O H0 O (Fj)) O (EI 2 A_ O (EI 4 A_ O (EI 3 A_ O (EI 5 A_ O (EI 2 A_ O (EI 3 A_ O (EI 5 A_ O ?_))))))))))
 refine EI 4 A_ O (EI 2 A_ O (ze O λEF EL=>?_))
 have hz2:=EM p b c
 refine ck' call119 (Ew p b c Z) O (zd sr O (ze O λEF EL=>?_))
 have hz3:=EM a p c
 refine ck' call119 (Ew a p c Z) O (zd sr O (ze O λEF EL=>?_))
 have hz4:=EM a b p
 refine ck' call119 (Ew a b p Z) O (zd sr O (GI (v:=(aG (AB (AF p b c)++AB (AF a p c)++AB (AF a b p)))) O (Cf (zs:=AB (0:Rat)++AB (0:Rat)++AB (0:Rat)) (vs:=AB (AF p b c)++AB (AF a p c)++AB (AF a b p)) (pv:=[(0,(aG (AB (AF p b c)))),(1,(aG (AB (AF a p c)))),(2,(aG (AB (AF a b p))))]) zeroValue153 underlying153 sizeOf60 O (Ch (AF p b c) (AF a p c) (AF a b p))) O (zm λb7=>zD O (Am O sizeOf153 O (zC (sl sr) (zP (zB (sL [4,5,6,8,9,10,11] O) (q1 (q4 (AL O ?_))))))))))
 refine oNl' (zA (zN (yB 5 (zj (q4 (st' (Ag (c:=true) O O jY) O (oNl' (q1 (zY O (zI (q1 ?_)))))))))))
 refine zN (q4 (AL O (asg' O (q6 (sL [4,5,6,8,9,10,11,32,12] O) (rN [(0,true),(1,true),(2,true),(3,true),(4,false),(5,true),(6,true),(7,true)] [⟨8,13,60,AB (0:Rat)⟩] [(9,false),(10,true)] sr jV (λ_ _ d _ _ h=>by cases d<;>exact h) (FY O O CZ O (Fj)) O (J1 O (GI (v:=(pP b7 0)) O (AC (j:=0) O O underlying153 sizeOf60 O jY O) O (SS 0 (AB (AF p b c)) Ay O (EI 1 Ay O (ze O λEF EL=>?_))))))))))
 have hz5:=HA (a:=AF p b c) (b:=AF a b c) (by assumption)
 refine ck' call28 (IY (AF p b c) (AF a b c) Z (by assumption)) O (zd sr O (J1 O (GI O (AH (v:=(aG (AB ((AF p b c)/(AF a b c))))) O O) O (GI O (AH (v:=(vI 0)) O O) O (zm λb8=>zD O (Am O sizeOf60 O (zC (sl sr) (pS' O (zP (zB (sL [4,5,6,8,9,10,11,32,12,13,14] O) ?_))))))))))
 refine q1 (q4 (AL O (st' (C1 (c:=false) O O jY) O (oNl' (zB (sL [4,5,6,8,9,10,11,32,12,13,44] O) (zA (zU O (zI (zA (zL (AL O ?_)))))))))))
 refine Ah 0 Ay O (st' (v:=(pP b7 0)) (AC (j:=0) O O underlying153 sizeOf60 O jY O) O (EV 1 (off:=0) (vs:=AB ((AF p b c)/(AF a b c))) (cs':=AB ((AF p b c)/(AF a b c))++AB (AF a p c)++AB (AF a b p)) (AJ O) O sizeOf60 O (oNl' (zB (sL [4,5,6,8,9,10,11,32,12,13] O) (zM (zA (zL (st' (Ad (c:=(1:Int)) O O jY) O (AL O (oNl' (zB (sL [4,5,6,8,9,10,11,32,12,13] O) ?_)))))))))))
 refine z7 (zj (q4 (st' (Ag (c:=true) O O jY) O (oNl' (q1 (zY O (zI (q1 (zN (q4 (AL O ?_)))))))))))
 refine asg' O (q6 (sL [4,5,6,8,9,10,11,32,12,13] O) (zG (sL [4,5,6,8,9,10,11,32,12] O) (rN [(0,true),(1,true),(2,true),(3,true),(4,false),(5,true),(6,true),(7,true)] [⟨8,13,60,AB (0:Rat)⟩] [(9,false),(10,true)] sr jV (λ_ _ d _ _ h=>by cases d<;>exact h) (FY O O CZ O (Fj)) O (J1 O (GI (v:=(pP b7 5)) O (AC (j:=1) O O underlying153 sizeOf60 O jY O) O (SS 1 (AB (AF a p c)) Ay O (EI 2 Ay O (ze O λEF EL=>?_))))))))
 have hz6:=HA (a:=AF a p c) (b:=AF a b c) (by assumption)
 refine ck' call28 (IY (AF a p c) (AF a b c) Z (by assumption)) O (zd sr O (J1 O (GI O (AH (v:=(aG (AB ((AF a p c)/(AF a b c))))) O O) O (GI O (AH (v:=(vI 0)) O O) O (zm λb9=>zD O (Am O sizeOf60 O (zC (sl sr) (pS' O (zP (zB (sL [4,5,6,8,9,10,11,32,12,13,14] O) ?_))))))))))
 refine q1 (q4 (AL O (st' (C1 (c:=false) O O jY) O (oNl' (zB (sL [4,5,6,8,9,10,11,32,12,13,44] O) (zA (zU O (zI (zA (zL (AL O ?_)))))))))))
 refine Ah 0 Ay O (st' (v:=(pP b7 5)) (AC (j:=1) O O underlying153 sizeOf60 O jY O) O (EV 2 (off:=5) (vs:=AB ((AF a p c)/(AF a b c))) (cs':=AB ((AF p b c)/(AF a b c))++AB ((AF a p c)/(AF a b c))++AB (AF a b p)) (AJ O) O sizeOf60 O (oNl' (zB (sL [4,5,6,8,9,10,11,32,12,13] O) (zM (zA (zL (st' (Ad (c:=(2:Int)) O O jY) O (AL O (oNl' (zB (sL [4,5,6,8,9,10,11,32,12,13] O) ?_)))))))))))
 refine z7 (zj (q4 (st' (Ag (c:=true) O O jY) O (oNl' (q1 (zY O (zI (q1 (zN (q4 (AL O ?_)))))))))))
 refine asg' O (q6 (sL [4,5,6,8,9,10,11,32,12,13] O) (zG (sL [4,5,6,8,9,10,11,32,12] O) (rN [(0,true),(1,true),(2,true),(3,true),(4,false),(5,true),(6,true),(7,true)] [⟨8,13,60,AB (0:Rat)⟩] [(9,false),(10,true)] sr jV (λ_ _ d _ _ h=>by cases d<;>exact h) (FY O O CZ O (Fj)) O (J1 O (GI (v:=(pP b7 10)) O (AC (j:=2) O O underlying153 sizeOf60 O jY O) O (SS 2 (AB (AF a b p)) Ay O (EI 3 Ay O (ze O λEF EL=>?_))))))))
 have hz7:=HA (a:=AF a b p) (b:=AF a b c) (by assumption)
 refine ck' call28 (IY (AF a b p) (AF a b c) Z (by assumption)) O (zd sr O (J1 O (GI O (AH (v:=(aG (AB ((AF a b p)/(AF a b c))))) O O) O (GI O (AH (v:=(vI 0)) O O) O (zm λb10=>zD O (Am O sizeOf60 O (zC (sl sr) (pS' O (zP (zB (sL [4,5,6,8,9,10,11,32,12,13,14] O) ?_))))))))))
 refine q1 (q4 (AL O (st' (C1 (c:=false) O O jY) O (oNl' (zB (sL [4,5,6,8,9,10,11,32,12,13,44] O) (zA (zU O (zI (zA (zL (AL O ?_)))))))))))
 refine Ah 0 Ay O (st' (v:=(pP b7 10)) (AC (j:=2) O O underlying153 sizeOf60 O jY O) O (EV 3 (off:=10) (vs:=AB ((AF a b p)/(AF a b c))) (cs':=AB ((AF p b c)/(AF a b c))++AB ((AF a p c)/(AF a b c))++AB ((AF a b p)/(AF a b c))) (AJ O) O sizeOf60 O (oNl' (zB (sL [4,5,6,8,9,10,11,32,12,13] O) (zM (zA (zL (st' (Ad (c:=(3:Int)) O O jY) O (AL O (oNl' (zB (sL [4,5,6,8,9,10,11,32,12,13] O) ?_)))))))))))
 refine z7 (zj (q4 (st' (Ag (c:=false) O O jY) O (oNl' (q1 (zU O (zW (zO (zO (zR (q2 ?_)))))))))))
 exact Ah 3 dP O (EV 5 (off:=0) (vs:=AB ((AF p b c)/(AF a b c))++AB ((AF a p c)/(AF a b c))++AB ((AF a b p)/(AF a b c))) (cs':=AB ((AF p b c)/(AF a b c))++AB ((AF a p c)/(AF a b c))++AB ((AF a b p)/(AF a b c))) (AJ O) O sizeOf153 O (asg' O (oNl' (zB (sL [4,5,6,8,9,10,11,32,12,13] O) (zA (zF (Bf O (Aa (i:=5) (cs:=AB ((AF p b c)/(AF a b c))++AB ((AF a p c)/(AF a b c))++AB ((AF a b p)/(AF a b c))) O O isAgg153 sizeOf153 O) (rd_tmp (v:=(vI 0)) O) (λw hw=>⟨rfl,hw.out⟩))))))))
theorem Kw  :Instr.fill (λi=>some (i*5,5)) (AB (0:Rat)++AB (0:Rat)++AB (0:Rat)).toArray []=some (AB (0:Rat)++AB (0:Rat)++AB (0:Rat)).toArray:=by kernel_rfl
theorem KX (a b c p:Pt) (hs:BD a+BD b+BD c+BD p<=268435456) (h:AF a b c=0) (w:World)  :Calls prog 70 #[(aG (Ae a)),(aG (Ae b)),(aG (Ae c)),(aG (Ae p))] w (AY w (Value.tuple #[(aG (AB (0:Rat)++AB (0:Rat)++AB (0:Rat))),(vI 1)])):=by
 refine AS (args:=[(aG (Ae a)),(aG (Ae b)),(aG (Ae c)),(aG (Ae p))]) func70 O O (leB O) (zG (sL [0,1,2,3] O) (q4 (A9 (cs:=Ae a) O λb1=>A9 (cs:=Ae b) O λb2=>A9 (cs:=Ae c) O λb3=>A9 (cs:=Ae p) O λb4=>al H0 O λb5=>asg' O (q3 (sL [4,5,6,7,8,9] O) (Ah 4 A_ O (Ah 3 A_ O ?_))))))
 refine Ah 2 A_ O ?_
 have hz1:=EM a b c
 refine ck' call119 (Ew a b c Z) O (al CZ O λb6=>Am O sizeOf60 O (q6 (sL [4,5,6,7,8,9,10] O) (rN [(0,true),(1,true),(2,true),(4,true),(5,true),(6,true),(8,true),(9,true),(10,true),(3,false),(7,false),(11,false),(12,true)] [⟨13,11,153,AB (0:Rat)++AB (0:Rat)++AB (0:Rat)⟩] [(14,false)] sr jV (λ_ _ d _ _ h=>by cases d<;>exact h) (FY O O H0 O (Fj)) O (EI 2 A_ O (EI 4 A_ O (EI 3 A_ O (EI 5 A_ O (EI 2 A_ O (EI 3 A_ O (EI 5 A_ O ?_))))))))))
 refine EI 4 A_ O (EI 2 A_ O (ze O λEF EL=>?_))
 have hz2:=EM p b c
 refine ck' call119 (Ew p b c Z) O (zd sr O (ze O λEF EL=>?_))
 have hz3:=EM a p c
 refine ck' call119 (Ew a p c Z) O (zd sr O (ze O λEF EL=>?_))
 have hz4:=EM a b p
 refine ck' call119 (Ew a b p Z) O (zd sr O (GI (v:=(aG (AB (AF p b c)++AB (AF a p c)++AB (AF a b p)))) O (Cf (zs:=AB (0:Rat)++AB (0:Rat)++AB (0:Rat)) (vs:=AB (AF p b c)++AB (AF a p c)++AB (AF a b p)) (pv:=[(0,(aG (AB (AF p b c)))),(1,(aG (AB (AF a p c)))),(2,(aG (AB (AF a b p))))]) zeroValue153 underlying153 sizeOf60 O (Ch (AF p b c) (AF a p c) (AF a b p))) O (zm λb7=>zD O (Am O sizeOf153 O (zC (sl sr) (zP (zB (sL [4,5,6,8,9,10,11] O) (q1 (q4 (AL O ?_))))))))))
 refine oNl' (zA (zN (yB 5 (zj (q4 (st' (Ag (c:=true) O O jY) O (oNl' (q1 (zY O (zI (q1 ?_)))))))))))
 refine zN (q4 (AL O (asg' O (q6 (sL [4,5,6,8,9,10,11,32,12] O) (rN [(0,true),(1,true),(2,true),(3,true),(4,false),(5,true),(6,true),(7,true)] [⟨8,13,60,AB (0:Rat)⟩] [(9,false),(10,true)] sr jV (λ_ _ d _ _ h=>by cases d<;>exact h) (FY O O CZ O (Fj)) O (J1 O (GI (v:=(pP b7 0)) O (AC (j:=0) O O underlying153 sizeOf60 O jY O) O (SS 0 (AB (AF p b c)) Ay O (EI 1 Ay O (ze O λEF EL=>CC (args:=[(aG (AB (AF p b c))),(aG (AB (AF a b c)))]) (v:=(Value.tuple #[(aG (AB (0:Rat))),(vI 5)])) call28 (λw hw=>(by rw [h];exact Ov _ w)) O ?_))))))))))
 refine zd sr O (J1 O (GI O (AH (v:=(aG (AB (0:Rat)))) O O) O (GI O (AH (v:=(vI 5)) O O) O (zm λb8=>zD O (Am O sizeOf60 O (zC (sl sr) (pS' O (zP (zB (sL [4,5,6,8,9,10,11,32,12,13,14] O) (q1 ?_))))))))))
 refine q4 (AL O (st' (C1 (c:=true) O O jY) O (oNl' (zB (sL [4,5,6,8,9,10,11,32,12,13,44] O) (zA (zY O (q4 (st' (v:=(aG (AB (0:Rat)++AB (0:Rat)++AB (0:Rat)))) (Cf (zs:=AB (0:Rat)++AB (0:Rat)++AB (0:Rat)) (vs:=AB (0:Rat)++AB (0:Rat)++AB (0:Rat)) (pv:=[]) zeroValue153 underlying153 sizeOf60 O (Kw )) O (Fd O sizeOf153 O (asg' O (oNl' ?_)))))))))))
 exact zB (sL [4,5,6,8,9,10,11,32,12,13] O) (zA (zF (zH (zT (zH (zH (zT (zH (Bf O (Aa (i:=3) (cs:=AB (0:Rat)++AB (0:Rat)++AB (0:Rat)) O O isAgg153 sizeOf153 O) (rd_tmp (v:=(vI 1)) O) (λw hw=>⟨rfl,hw.out⟩))))))))))
end
def zq (q:Rat):Nat:=if q.num.sign=0 then 1 else 0
def Em (x y z:Rat):Nat:=if x.num.sign = -1\/y.num.sign = -1\/z.num.sign = -1 then 0 else 1+zq x+zq y+zq z
theorem RB {x y z:Rat} (h:x.num.sign = -1):Em x y z=0:=if_pos (.inl h)
theorem RC {x y z:Rat} (h:y.num.sign = -1):Em x y z=0:=if_pos (.inr (.inl h))
theorem RD {x y z:Rat} (h:z.num.sign = -1):Em x y z=0:=if_pos (.inr (.inr h))
theorem W5 {x y z:Rat} (h1:¬x.num.sign = -1) (h2:¬y.num.sign = -1) (h3:¬z.num.sign = -1):Em x y z=1+zq x+zq y+zq z:=if_neg (by simp [h1,h2,h3])
theorem OF {x:Rat} (h:x.num.sign=0):zq x=1:=if_pos h
theorem KW {x:Rat} (h:¬x.num.sign=0):zq x=0:=if_neg h
theorem XA (x:Rat):zq x<=1:=by unfold zq;split<;>omega
section
set_option maxRecDepth 100000
end
section
set_option maxRecDepth 100000
end
section
set_option maxRecDepth 100000
set_option maxHeartbeats 2000000 in
theorem Ub (a b c p:Pt) (hs:BD a+BD b+BD c+BD p<=268435456) (h:AF a b c≠0) (w:World)  :Calls prog 30 #[(aG (Ae a)),(aG (Ae b)),(aG (Ae c)),(aG (Ae p))] w (AY w (vN (Em (AF p b c/AF a b c) (AF a p c/AF a b c) (AF a b p/AF a b c)))):=by
 obtain ⟨l0,hl0⟩:∃l,l=AF p b c/AF a b c:=⟨_,rfl⟩
 obtain ⟨l1,hl1⟩:∃l,l=AF a p c/AF a b c:=⟨_,rfl⟩
 obtain ⟨l2,hl2⟩:∃l,l=AF a b p/AF a b c:=⟨_,rfl⟩
 refine AS (args:=[(aG (Ae a)),(aG (Ae b)),(aG (Ae c)),(aG (Ae p))]) func30 O O (leB O) (zG (sL [0,1,2,3] O) (q4 (A9 (cs:=Ae a) O λb1=>A9 (cs:=Ae b) O λb2=>A9 (cs:=Ae c) O λb3=>A9 (cs:=Ae p) O λb4=>asg' O (q3 (sL [4,5,6,7,8] O) (Ah 3 A_ O (Ah 2 A_ O (Ah 1 A_ O ?_)))))))
 refine Ah 0 A_ O (CC (args:=[(aG (Ae a)),(aG (Ae b)),(aG (Ae c)),(aG (Ae p))]) (v:=(Value.tuple #[(aG (AB l0++AB l1++AB l2)),(vI 0)])) call70 (λw hw=>(by rw [hl0,hl1,hl2];exact NJ a b c p Z h w)) O (AL O (st' (AH (v:=(aG (AB l0++AB l1++AB l2))) O O) O (st' (AH (v:=(vI 0)) O O) O (al H0 O λb5=>Am O sizeOf153 O (asg' O (q6 (sL [8,9,10] O) (q4 (AL O (st' (C1 (c:=false) O O jY) O ?_))))))))))
 refine oNl' (zB (sL [8,9,22] O) (zA (zU O (zI (q2 (asg' O (q6 (sL [8,9,11] O) (q4 (AL O (oNl' (zA ?_)))))))))))
 refine zN (yB 5 (zj (q4 (st' (Ag (c:=true) O O jY) O (oNl' (q1 (zY O (zI (q1 (zN (q4 ?_)))))))))))
 refine AL O (asg' O (q3 (sL [8,9,11,23,12] O) (AL O (st' (v:=(pP b5 0)) (AC (j:=0) O O underlying153 sizeOf60 O jY O) O (Br 0 (AB l0) Ay O (ck' call63 (DQ l0) O (oNl' (zB (sL [8,9,11,23,29] O) (zA ?_)))))))))
 refine yU (tg λ(pl0:Nat)=>pl0=1+zq l0/\¬l0.num.sign = -1) (tg λ(pl0:Nat)=>[(9,(pP b5 0)),(23,(vI 0)),(11,(vN pl0))]) (tg λ(pl0:Nat)=>[AQ b5 153 (AB l0++AB l1++AB l2),AQ b4 62 (Ae p),AQ b3 62 (Ae c),AQ b2 62 (Ae b),AQ b1 62 (Ae a)]) ?_ ?_
 ·refine zN (q4 (st' (Az (c:=(decide (l0.num.sign=(-1:Int)))) O O O) O (asg' O (oNl' (zB (sL [8,9,11,23,29,30] O) (zA ?_))))))
  refine zK O (λhc2=>?_) (λhc2=>?_)
  ·replace hc2:=xR hc2
   have hz:=RB (x:=l0) (y:=l1) (z:=l2) hc2
   exact q4 (asg' O (oNl' (zA (zF (zT (yi (zT (zH (zH (zT (zH (ret_one O (rd_tmp (v:=(vI 0)) O) (λw hw=>⟨by rw [<-hl0,<-hl1,<-hl2,hz];rfl,hw.out⟩)))))))))))))
  ·replace hc2:=xQ hc2
   refine q4 (st' (Az (c:=(decide (l0.num.sign=(0:Int)))) O O O) O (asg' O (oNl' (zB (sL [8,9,11,23,29,32] O) (zA ?_)))))
   refine zK O (λhc3=>?_) (λhc3=>?_)
   ·replace hc3:=xR hc3
    exact zL (AL O (st' (Ad (c:=(2:Int)) O O jY) O (asg' O (oNl' (zB (sL [8,9,11,23,29] O) (zM (zr 2 (⟨by simp [OF hc3],hc2⟩) (sF O) sr)))))))
   ·replace hc3:=xQ hc3
    exact zI (zM (zr 1 (⟨by simp [KW hc3],hc2⟩) (sF O) sr))
 ·intro pl0 hJ
  obtain ⟨e0,n0⟩:=hJ
  have zz0:=XA l0
  refine zM (zA (zL (st' (Ad (c:=(1:Int)) O O jY) O (AL O (oNl' (zB (sL [9,23,11] O) (z7 (zj (q4 (st' (Ag (c:=true) O O jY) O (oNl' ?_)))))))))))
  refine q1 (zY O (zI (q1 (zN (q4 (AL O (asg' O (q3 (sL [9,23,11,12] O) (AL O (st' (v:=(pP b5 5)) (AC (j:=1) O O underlying153 sizeOf60 O jY O) O (Br 0 (AB l1) Ay O ?_)))))))))))
  refine ck' call63 (DQ l1) O (oNl' (zB (sL [9,23,11,29] O) (zA ?_)))
  refine yU (tg λ(pl1:Nat)=>pl1=pl0+zq l1/\¬l1.num.sign = -1) (tg λ(pl1:Nat)=>[(9,(pP b5 0)),(23,(vI 1)),(11,(vN pl1))]) (tg λ(pl1:Nat)=>[AQ b5 153 (AB l0++AB l1++AB l2),AQ b4 62 (Ae p),AQ b3 62 (Ae c),AQ b2 62 (Ae b),AQ b1 62 (Ae a)]) ?_ ?_
  ·refine zN (q4 (st' (Az (c:=(decide (l1.num.sign=(-1:Int)))) O O O) O (asg' O (oNl' (zB (sL [9,23,11,29,30] O) (zA ?_))))))
   refine zK O (λhc2=>?_) (λhc2=>?_)
   ·replace hc2:=xR hc2
    have hz:=RC (x:=l0) (y:=l1) (z:=l2) hc2
    exact q4 (asg' O (oNl' (zA (zF (zT (yi (zT (zH (zH (zT (zH (ret_one O (rd_tmp (v:=(vI 0)) O) (λw hw=>⟨by rw [<-hl0,<-hl1,<-hl2,hz];rfl,hw.out⟩)))))))))))))
   ·replace hc2:=xQ hc2
    refine q4 (st' (Az (c:=(decide (l1.num.sign=(0:Int)))) O O O) O (asg' O (oNl' (zB (sL [9,23,11,29,32] O) (zA ?_)))))
    refine zK O (λhc3=>?_) (λhc3=>?_)
    ·replace hc3:=xR hc3
     exact zL (AL O (st' (Ad (c:=((pl0+1:Nat):Int)) O O (Ab (a:=pl0) (b:=1) Z)) O (asg' O (oNl' (zB (sL [9,23,11,29] O) (zM (zr (pl0+1) (⟨by simp [OF hc3],hc2⟩) (sF O) sr)))))))
    ·replace hc3:=xQ hc3
     exact zI (zM (zr pl0 (⟨by simp [KW hc3],hc2⟩) (sF O) sr))
  ·intro pl1 hJ
   obtain ⟨e1,n1⟩:=hJ
   have zz1:=XA l1
   refine zM (zA (zL (st' (Ad (c:=(2:Int)) O O jY) O (AL O (oNl' (zB (sL [9,23,11] O) (z7 (zj (q4 (st' (Ag (c:=true) O O jY) O (oNl' ?_)))))))))))
   refine q1 (zY O (zI (q1 (zN (q4 (AL O (asg' O (q3 (sL [9,23,11,12] O) (AL O (st' (v:=(pP b5 10)) (AC (j:=2) O O underlying153 sizeOf60 O jY O) O (Br 0 (AB l2) Ay O ?_)))))))))))
   refine ck' call63 (DQ l2) O (oNl' (zB (sL [9,23,11,29] O) (zA ?_)))
   refine yU (tg λ(pl2:Nat)=>pl2=pl1+zq l2/\¬l2.num.sign = -1) (tg λ(pl2:Nat)=>[(9,(pP b5 0)),(23,(vI 2)),(11,(vN pl2))]) (tg λ(pl2:Nat)=>[AQ b5 153 (AB l0++AB l1++AB l2),AQ b4 62 (Ae p),AQ b3 62 (Ae c),AQ b2 62 (Ae b),AQ b1 62 (Ae a)]) ?_ ?_
   ·refine zN (q4 (st' (Az (c:=(decide (l2.num.sign=(-1:Int)))) O O O) O (asg' O (oNl' (zB (sL [9,23,11,29,30] O) (zA ?_))))))
    refine zK O (λhc2=>?_) (λhc2=>?_)
    ·replace hc2:=xR hc2
     have hz:=RD (x:=l0) (y:=l1) (z:=l2) hc2
     exact q4 (asg' O (oNl' (zA (zF (zT (yi (zT (zH (zH (zT (zH (ret_one O (rd_tmp (v:=(vI 0)) O) (λw hw=>⟨by rw [<-hl0,<-hl1,<-hl2,hz];rfl,hw.out⟩)))))))))))))
    ·replace hc2:=xQ hc2
     refine q4 (st' (Az (c:=(decide (l2.num.sign=(0:Int)))) O O O) O (asg' O (oNl' (zB (sL [9,23,11,29,32] O) (zA ?_)))))
     refine zK O (λhc3=>?_) (λhc3=>?_)
     ·replace hc3:=xR hc3
      exact zL (AL O (st' (Ad (c:=((pl1+1:Nat):Int)) O O (Ab (a:=pl1) (b:=1) Z)) O (asg' O (oNl' (zB (sL [9,23,11,29] O) (zM (zr (pl1+1) (⟨by simp [OF hc3],hc2⟩) (sF O) sr)))))))
     ·replace hc3:=xQ hc3
      exact zI (zM (zr pl1 (⟨by simp [KW hc3],hc2⟩) (sF O) sr))
   ·intro pl2 hJ
    obtain ⟨e2,n2⟩:=hJ
    have zz2:=XA l2
    refine zM (zA (zL (st' (Ad (c:=(3:Int)) O O jY) O (AL O (oNl' (zB (sL [9,23,11] O) (z7 (zj (q4 (st' (Ag (c:=false) O O jY) O (oNl' ?_)))))))))))
    refine q1 (zU O (zW (zO (zO (zR (q2 (AL O (asg' O (oNl' (zB (sL [9,23,11,8] O) (zA ?_)))))))))))
    exact zF (ret_one O (rd_tmp (v:=(vN pl2)) O) (λw hw=>⟨by rw [<-hl0,<-hl1,<-hl2,W5 n0 n1 n2,e2,e1,e0],hw.out⟩))
theorem Sc (a b c p:Pt) (hs:BD a+BD b+BD c+BD p<=268435456) (h:AF a b c=0) (w:World)  :Calls prog 30 #[(aG (Ae a)),(aG (Ae b)),(aG (Ae c)),(aG (Ae p))] w (AY w (vI 0)):=by
 refine AS (args:=[(aG (Ae a)),(aG (Ae b)),(aG (Ae c)),(aG (Ae p))]) func30 O O (leB O) (zG (sL [0,1,2,3] O) (q4 (A9 (cs:=Ae a) O λb1=>A9 (cs:=Ae b) O λb2=>A9 (cs:=Ae c) O λb3=>A9 (cs:=Ae p) O λb4=>asg' O (q3 (sL [4,5,6,7,8] O) (Ah 3 A_ O (Ah 2 A_ O (Ah 1 A_ O ?_)))))))
 refine Ah 0 A_ O (ck' call70 (KX a b c p Z h) O (AL O (st' (AH (v:=(aG (AB (0:Rat)++AB (0:Rat)++AB (0:Rat)))) O O) O (st' (AH (v:=(vI 1)) O O) O (al H0 O λb5=>Am O sizeOf153 O (asg' O (q6 (sL [8,9,10] O) (q4 (AL O (st' (C1 (c:=true) O O jY) O ?_))))))))))
 exact oNl' (zB (sL [8,9,22] O) (zA (zY O (q4 (asg' O (oNl' (zB (sL [8,9] O) (zA (zF (zH (ret_one O (rd_tmp (v:=(vI 0)) O) (λw hw=>⟨rfl,hw.out⟩))))))))))))
end
section
set_option maxRecDepth 100000
end
section
section
variable {P:Program} {n:Nat} {F:List (Nat×Value)} {w0:Av} {L:List As} {v:Value} {x:Operand} {d:Option Tmp} {t:TypeId} {p:String} {af:Array Edge} {g:Option (Nat×Bool)}
end
end
section
set_option maxRecDepth 100000
end
section
set_option maxRecDepth 100000
end
section
set_option maxRecDepth 100000
end
section
set_option maxRecDepth 100000
end
section
set_option maxRecDepth 100000
end
section
set_option maxRecDepth 100000
end
section
section
variable {P:Program} {n:Nat} {F:List (Nat×Value)} {w0:Av} {L:List As} {v:Value} {x lo hi:Operand} {d:Option Tmp} {t:TypeId} {p:String} {af:Array Edge} {g:Option (Nat×Bool)}
theorem J6 {s r:ByteArray} {ki kj:IntKind} {i j:Nat} {tx:TypeId} (hx:evF F x=some (.string s)) (hl:evF F lo=some (.int ki (i:Nat))) (hh:evF F hi=some (.int kj (j:Nat))) (hu:P.underlying tx=some .string) (h1:i<=j) (h2:j<=s.size) (hr:s.extract i j=r) :
    Ex P n F w0 L ⟨d,.slice tx x (some lo) (some hi) none,t,p,af,g⟩ (.string r):=λA w ha _=>by
  subst hr
  simp only [execOp,ha.ev hx,Instr.sliceAt,run_underlying hu,Instr.slice,Option.map_some,Option.map_none,ha.ev hl,ha.ev hh,Instr.sliceBounds,Instr.sliceBound,asIntOf,Sem.run_bind,Result.andThen_ok,Sem.run_pure]
  simp [h1,h2]
end
def JE (n:Nat):ByteArray:=⟨#[UInt8.ofNat (48+n)]⟩
theorem Z9 {s:ByteArray} (h:((List.range 10).all λn=>(s.extract n (n+1)).data.toList == (JE n).data.toList)=true) {n:Nat} (hn:n<10):s.extract n (n+1)=JE n:=by
  have h1:=List.all_eq_true.1 h n (List.mem_range.2 hn)
  have h2:(s.extract n (n+1)).data.toList=(JE n).data.toList:=by simpa using h1
  cases hA:s.extract n (n+1) with|mk da=>cases hB:JE n with|mk db =>
    rw [hA,hB] at h2
    congr 1
    exact Array.toList_inj.1 h2
def Ff (z:Int):ByteArray:=if z<0 then ⟨#[45]⟩++JE z.natAbs else JE z.natAbs
def SO (q:Rat):ByteArray:=if q.den-1=0 then Ff q.num else Ff q.num++⟨#[47]⟩++JE q.den
theorem Om (n:Nat):(JE n).size=1:=rfl
theorem Q7 (z:Int):(Ff z).size<=2:=by
  unfold Ff
  split
  · rw [ByteArray.size_append];exact Nat.le_refl 2
  · exact Nat.le_succ 1
end
section
set_option maxRecDepth 100000
theorem WV (n:Nat) (hn:n<10) (w:World)  :Calls prog 178 #[(vN n)] w (AY w (Value.string (JE n))):=by
 refine AS (args:=[(vN n)]) func178 O O (leB O) (zG (sL [0] O) (q4 (asg' O (oNl' (q1 (q4 (AL O (st' (Ag (c:=(decide (n<10))) O O (DL (a:=n) (b:=10))) O (oNl' (zB (sL [0,2,4] O) (zA ?_)))))))))))
 refine zK O (λhc0=>?_) (λhc0=>?_)
 ·replace hc0:=xR hc0
  exact q4 (AL O (AL O (st' (Ad (c:=((n+1:Nat):Int)) O O (Ab (a:=n) (b:=1) Z)) O (st' (v:=(Value.string (JE n))) (J6 (i:=n) (j:=n+1) O O O underlying9 Z (xK (show n+1<=10 by omega) jY) (Z9 jV hn)) O (asg' O (oNl' (zB (sL [0,2] O) (zA (zF (zH (ret_one O (rd_tmp (v:=(Value.string (JE n))) O) (λw hw=>⟨rfl,hw.out⟩))))))))))))
 ·replace hc0:=xQ hc0
  exfalso;omega
theorem QT (n:Nat) (hn:n<10) (w:World)  :Calls prog 136 #[(vK .u64 n),(vI 10)] w (AY w (Value.string (JE n))):=by
 refine AS (args:=[(vK .u64 n),(vI 10)]) func136 O O (leB O) (zG (sL [0,1] O) (q4 (asg' O (oNl' (q1 (q4 (AL O (st' (Az (c:=true) O O jY) O (oNl' (zB (sL [0,1,4,10] O) (zA ?_)))))))))))
 refine zY O (zV (q4 (AL O (st' (Ag (c:=(decide (n<100))) O O (DL (a:=n) (b:=100))) O (oNl' (zB (sL [0,1,4,12] O) (zA ?_)))))))
 refine zK O (λhc1=>?_) (λhc1=>?_)
 ·replace hc1:=xR hc1
  exact q4 (AL O (st' (An (c:=((n:Nat):Int)) O underlying52 underlying3 (D_ Z)) O (ck' call178 (WV n Z) O (asg' O (oNl' (zB (sL [0,1,4] O) (zA (zF (zH (zH (ret_one O (rd_tmp (v:=(Value.string (JE n))) O) (λw hw=>⟨rfl,hw.out⟩))))))))))))
 ·replace hc1:=xQ hc1
  exfalso;omega
theorem S0 (n:Nat) (hn:n<10) (w:World)  :Calls prog 84 #[(vK .u64 n),(vI 10)] w (AY w (Value.string (JE n))):=by
 refine AS (args:=[(vK .u64 n),(vI 10)]) func84 O O (leB O) (zG (sL [0,1] O) (q4 (asg' O (oNl' (q2 (AL O (AL O (ck' call136 (QT n Z) O (asg' O (oNl' (zB (sL [4] O) ?_)))))))))))
 exact zA (zF (ret_one O (rd_tmp (v:=(Value.string (JE n))) O) (λw hw=>⟨rfl,hw.out⟩)))
theorem LF (n:Nat) (hn:n<10) (w:World)  :Calls prog 48 #[(aG (AT n))] w (AY w (Value.string (JE n))):=by
 refine AS (args:=[(aG (AT n))]) func48 O O (leB O) (zG (sL [0] O) (q4 (A9 (cs:=AT n) O λb1=>asg' O (q6 (sL [1,2] O) (q4 (st' (v:=(pP b1 1)) (AA O underlying54 O sizeOf9 O) O (BZ 0 (Value.string (Bp n)) Tx O (st' (Bc (c:=(decide (n<18446744073709551616))) O O Cd) O (oNl' (zB (sL [1,2,10] O) ?_))))))))))
 refine zA ?_
 refine zK O (λhc0=>?_) (λhc0=>?_)
 ·replace hc0:=xR hc0
  exact q4 (st' (v:=(pP b1 0)) (AA O underlying54 O sizeOf52 O) O (BZ 0 (vK .u64 (B7 n)) G6 O (zJ (k:=12) (u:=(vK .u64 n)) O (by rw [Bj Z]) (ck' call84 (S0 n Z) O (asg' O (oNl' (zB (sL [1,2] O) (zA (zF (zH (ret_one O (rd_tmp (v:=(Value.string (JE n))) O) (λw hw=>⟨rfl,hw.out⟩))))))))))))
 ·replace hc0:=xQ hc0
  exfalso;omega
theorem Oz (z:Int) (hz:z.natAbs<10) (w:World)  :Calls prog 47 #[(aG (Ax z))] w (AY w (Value.string (Ff z))):=by
 refine AS (args:=[(aG (Ax z))]) func47 O O (leB O) (zG (sL [0] O) (q4 (A9 (cs:=Ax z) O λb1=>asg' O (q6 (sL [1,2] O) (q4 (st' (v:=(pP b1 2)) (AA O underlying58 O sizeOf4 O) O (BZ 0 (qa (decide (z<0))) Lj O (oNl' (zB (sL [1,2,4] O) (zA ?_))))))))))
 refine zK O (λhc0=>?_) (λhc0=>?_)
 ·replace hc0:=xR hc0
  have he:Ff z=⟨#[45]⟩++JE z.natAbs:=if_pos hc0
  exact q4 (st' (v:=(pP b1 0)) (AA O underlying58 O sizeOf56 O) O (st' (v:=(pP b1 0)) (AA O underlying56 O sizeOf54 O) O (Br 0 (AT z.natAbs) B4 O (ck' call48 (LF z.natAbs Z) O (st' (v:=(Value.string (ByteArray.mk #[45]++JE z.natAbs))) (Bt (r:=(ByteArray.mk #[45]++JE z.natAbs)) O O (by rw [Om];decide) O) O (asg' O (oNl' (zB (sL [1,2] O) (zA (zF (zH (ret_one O (rd_tmp (v:=(Value.string (ByteArray.mk #[45]++JE z.natAbs))) O) (λw hw=>⟨by rw [he],hw.out⟩)))))))))))))
 ·replace hc0:=xQ hc0
  have he:Ff z=JE z.natAbs:=if_neg hc0
  exact zI (q2 (st' (v:=(pP b1 0)) (AA O underlying58 O sizeOf56 O) O (st' (v:=(pP b1 0)) (AA O underlying56 O sizeOf54 O) O (Br 0 (AT z.natAbs) B4 O (ck' call48 (LF z.natAbs Z) O (asg' O (oNl' (zB (sL [1,2] O) (zA (zF (ret_one O (rd_tmp (v:=(Value.string (JE z.natAbs))) O) (λw hw=>⟨by rw [he],hw.out⟩))))))))))))
theorem VB (q:Rat) (hn:q.num.natAbs<10) (hd:q.den<10) (w:World)  :Calls prog 19 #[(aG (AB q))] w (AY w (Value.string (SO q))):=by
 have hs:=Q7 q.num
 have hdn:nw q.den<=1099511627776:=xK (Ii Z) Z
 refine AS (args:=[(aG (AB q))]) func19 O O (leB O) (zG (sL [0] O) (q4 (A9 (cs:=AB q) O λb1=>asg' O (q6 (sL [1,2] O) (q4 (Ah 0 Ay O (ck' call46 (F2 q) O (oNl' (zB (sL [1,2,4] O) (zA ?_))))))))))
 refine zK O (λhc0=>?_) (λhc0=>?_)
 ·replace hc0:=xR hc0
  have he:SO q=Ff q.num:=if_pos hc0
  exact q4 (st' (v:=(pP b1 0)) (AA O underlying60 O sizeOf58 O) O (Br 0 (Ax q.num) DZ O (ck' call47 (Oz q.num Z) O (asg' O (oNl' (zB (sL [1,2] O) (zA (zF (zH (ret_one O (rd_tmp (v:=(Value.string (Ff q.num))) O) (λw hw=>⟨by rw [he],hw.out⟩)))))))))))
 ·replace hc0:=xQ hc0
  have he:SO q=Ff q.num++⟨#[47]⟩++JE q.den:=if_neg hc0
  refine zI (q1 (B8 [(0,true),(1,true),(4,true),(2,false),(3,true),(5,false),(6,false),(7,true),(8,true)] sr (Ao (v:=(pP b1 0)) O (AA O underlying60 O sizeOf58 O) (Dd 0 (Ax q.num) DZ O (Bv 0 Ay O (zD O (ck' call47 (Oz q.num Z) O (zC sr (Ao (v:=(Value.string (Ff q.num++ByteArray.mk #[47]))) O (Bt (r:=(Ff q.num++ByteArray.mk #[47])) O O (xK (Nat.add_le_add_right hs 1) jY) O) (zD O (ck' call49 (den_ok q Z) O ?_)))))))))))
  exact zC sr (zD O (ck' call48 (LF q.den Z) O (zC sr (Ao (v:=(Value.string (Ff q.num++ByteArray.mk #[47]++JE q.den))) O (Bt (r:=(Ff q.num++ByteArray.mk #[47]++JE q.den)) O O (by rw [ByteArray.size_append,Om];exact xK (Nat.add_le_add_right (Nat.add_le_add_right hs 1) 1) jY) O) (pS' O (zP (zB (sL [1,2] O) (zA (zF (ret_one O (rd_tmp (v:=(Value.string (Ff q.num++ByteArray.mk #[47]++JE q.den))) O) (λw hw=>⟨by rw [he],hw.out⟩)))))))))))
end
theorem Kf (a b:Pt):(a+b).x=a.x+b.x:=rfl
theorem Kg (a b:Pt):(a+b).y=a.y+b.y:=rfl
theorem G2 (a b:Pt):(a-b).x=a.x-b.x:=rfl
theorem G3 (a b:Pt):(a-b).y=a.y-b.y:=rfl
theorem Gp (a:Pt) (k:Rat):(Bg a k).x=a.x*k:=rfl
theorem Gq (a:Pt) (k:Rat):(Bg a k).y=a.y*k:=rfl
theorem B2 (a b c:Pt):AF a b c=(b.x-a.x)*(c.y-a.y)-(b.y-a.y)*(c.x-a.x):=rfl
theorem KL (a b:Pt):Cq a b=a.x*b.x+a.y*b.y:=rfl
theorem Mh (a b:Pt):A8 a b=a.x*b.y-a.y*b.x:=rfl
theorem RR {a b c p:Pt} (h:AF a b c≠0):Bg a (AF p b c/AF a b c)+Bg b (AF a p c/AF a b c)+Bg c (AF a b p/AF a b c)=p:=by
  have kx:a.x*AF p b c+b.x*AF a p c+c.x*AF a b p=p.x*AF a b c:=by simp only [B2];grind
  have ky:a.y*AF p b c+b.y*AF a p c+c.y*AF a b p=p.y*AF a b c:=by simp only [B2];grind
  generalize AF a b c=T at *
  refine Pt.ext ?_ ?_
  · simp only [Kf,Gp];grind
  · simp only [Kg,Gq];grind
theorem Kh {a b c p:Pt} (h:AF a b c≠0):AF p b c/AF a b c+AF a p c/AF a b c+AF a b p/AF a b c=1:=by
  have k:AF p b c+AF a p c+AF a b p=AF a b c:=by simp only [B2];grind
  generalize AF a b c=T at *
  grind
theorem N6 (a b:Rat):a<b\/a=b\/b<a:=by grind
theorem Fs {q:Rat} (h:q<0):q.num.sign = -1:=by
  have h1:¬0<=q.num:=λe=>by have:=Rat.num_nonneg.1 e;grind
  exact Int.sign_eq_neg_one_of_neg Z
theorem Ft {q:Rat} (h:0<q):q.num.sign=1:=by
  have h1:0<=q.num:=Rat.num_nonneg.2 (by grind)
  have h2:q.num≠0:=λe=>by have:=Rat.num_eq_zero.1 e;grind
  exact Int.sign_eq_one_of_pos Z
theorem WQ {q:Rat} (h:q=0):q.num.sign=0:=by subst h;rfl
def Tn (q:Rat):Int:=if q<0 then -1 else if q=0 then 0 else 1
theorem N1 (q:Rat):q.num.sign=Tn q:=by
  unfold Tn
  split
  · exact Fs ‹_›
  · split
    · exact WQ ‹_›
    · exact Ft (by grind)
theorem Pa (a b c:Pt):AF b c a=AF a b c:=by simp only [B2];grind
def ng (q:Rat):Nat:=if q.num.sign<0 then 1 else 0
theorem To (z:Int):z.sign = -1\/z.sign=0\/z.sign=1:=by
  rcases Int.lt_trichotomy z 0 with h|h|h
  · exact .inl (Int.sign_eq_neg_one_of_neg h)
  · subst h;exact .inr (.inl rfl)
  · exact .inr (.inr (Int.sign_eq_one_of_pos h))
section
theorem Xv (a b:Int):(decide (a.natAbs=b.natAbs)&&((decide (a<0) == decide (b<0))&&true))=decide (a=b):=by
  by_cases e:a=b
  · subst e;simp
  · rw [xz e]
    by_cases h1:a<0<;>by_cases h2:b<0<;>simp [h1,h2]<;>omega
theorem Xu (D:Nat) (a b:Int):Jg prog (D+4) 58 (.agg (Ax a).toArray) (.agg (Ax b).toArray) (decide (a=b)):=by
  rw [<-Xv]
  exact Jg.struct underlying58 Tryz.stoodInHeld58 (KY.agg (us:=AT a.natAbs) (bs:=AT b.natAbs) jY isAgg56 sizeOf56 O O (Ot D _ _) (KY.one jY isAgg4 O O (Jg.bool underlying4) KY.nil))
theorem U8 (a b:Rat):(decide (a.num=b.num)&&(decide (a.den-1=b.den-1)&&true))=decide (a=b):=by
  by_cases e:a=b
  · subst e;simp
  · rw [xz e]
    have h1:=a.den_pos
    have h2:=b.den_pos
    simp only [Bool.and_true,xX,xS]
    apply Classical.byContradiction
    intro h
    refine e (Rat.ext ?_ ?_)
    · exact Classical.byContradiction λk=>h (.inl k)
    · exact Classical.byContradiction λk=>h (.inr Z)
theorem Kq (D:Nat) (a b:Rat):Jg prog (D+5) 60 (.agg (AB a).toArray) (.agg (AB b).toArray) (decide (a=b)):=by
  rw [<-U8]
  exact Jg.struct underlying60 Tryz.stoodInHeld60 (KY.agg (us:=Ax a.num) (bs:=Ax b.num) jY isAgg58 sizeOf58 O O (Xu D _ _) (KY.agg (us:=AT (a.den-1)) (bs:=AT (b.den-1)) jY isAgg54 sizeOf54 O O (Hi (D+2) _ _) KY.nil))
instance:DecidableEq Pt:=λa b=>decidable_of_iff (a.x=b.x/\a.y=b.y) ⟨λh=>Pt.ext h.1 h.2,λh=>h▸⟨rfl,rfl⟩⟩
theorem aD (a b:Pt):(decide (a.x=b.x)&&(decide (a.y=b.y)&&true))=decide (a=b):=by
  by_cases e:a=b
  · subst e;simp
  · rw [xz e]
    simp only [Bool.and_true,xX,xS]
    apply Classical.byContradiction
    intro h
    refine e (Pt.ext ?_ ?_)
    · exact Classical.byContradiction λk=>h (.inl k)
    · exact Classical.byContradiction λk=>h (.inr k)
theorem Nc (D:Nat) (a b:Pt):Jg prog (D+6) 62 (.agg (Ae a).toArray) (.agg (Ae b).toArray) (decide (a=b)):=by
  rw [<-aD]
  exact Jg.struct underlying62 Tryz.stoodInHeld62 (KY.agg (us:=AB a.x) (bs:=AB b.x) jY isAgg60 sizeOf60 O O (Kq D _ _) (KY.agg (us:=AB a.y) (bs:=AB b.y) jY isAgg60 sizeOf60 O O (Kq D _ _) KY.nil))
section
variable {P:Program}
def d7 (P:Program) (D:Nat) (e:TypeId) (c:Nat) (xs ys:List Value) (is:List Nat) (b:Bool):Prop:=∀w,(Go.Op.eqItems D e c xs.toArray ys.toArray is).run P w=.ok b w
end
theorem Kr (D:Nat) {a b:Rat} (h:a=b):Jg prog (D+5) 60 (.agg (AB a).toArray) (.agg (AB b).toArray) true:=by
  have:=Kq D a b;rwa [xE h] at this
section
variable {P:Program} {n:Nat} {F:List (Nat×Value)} {w0:Av} {L:List As} {x y:Operand} {d:Option Tmp} {t:TypeId} {p:String} {af:Array Edge} {g:Option (Nat×Bool)}
end
end
end Go.Proofs.YtcpkbjjmcleplaaGreatDoor
