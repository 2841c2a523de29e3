import Derived.Test.YtfbomiejpbchdaaGreatPart06
import Derived.Test.YtfbomiejpbchdaaGreatPart34
import Derived.Test.YtfbomiejpbchdaaGreatPart35
namespace Go.Proofs.YtfbomiejpbchdaaGreat
open Go Go.RowKit Go.Proofs.Tryz
set_option linter.unusedVariables false
set_option linter.unusedSimpArgs false
section
set_option maxRecDepth 100000
def Q1 (v:Zu) (md:List (P2×Nat)) (pr d:Nat):Prop:=∀(al:List T3) (pa:Option Addr) (ca:Nat) (ho1:OwnOk pa al.length ca) (pl:List Nat) (pp:Option Addr) (cp:Nat) (ho2:OwnOk pp pl.length cp) (C:T3) (hC:C.1<4611686018427387904/\C.2.1<4611686018427387904/\C.2.2<4611686018427387904) (hal:al.length+2^(d)<=1000000) (hpl:pl.length+2^(d)<=1000000) (w:World) (w0:BM) (LR:List As),Own w0 w (CD v.b Dv vN md::Af v.bm 142 ([(Value.map (some v.b))])::rowW pa 76 3 al.length ca (rowsL An al)::Af v.ba 28 ([(Value.slice pa al.length ca)])::rowW pp 3 1 pl.length cp (inL pl)::Af v.bp 33 ([(Value.slice pp pl.length cp)])::Af v.bf 145 ([(Value.func (.func 79) #[] #[(pP v.bm 0),(pP v.ba 0),(pP v.bp 0),(pP v.bf 0)])])::LR)->Calls prog 79 #[aG (An C),vN pr,vN d,pP v.bm 0,pP v.ba 0,pP v.bp 0,pP v.bf 0] w (λe w'=>e=.returned (.tuple #[])/\∃a:Yr,(OwnOk a.pa (al++CB md d C).length a.ca/\OwnOk a.pp (pl++ER (CB md d C).length pr).length a.cp)/\Own w0 w' (CD v.b Dv vN md::Af v.bm 142 ([(Value.map (some v.b))])::rowW a.pa 76 3 ((al++CB md d C).length) a.ca (rowsL An (al++CB md d C))::Af v.ba 28 ([(Value.slice a.pa ((al++CB md d C).length) a.ca)])::rowW a.pp 3 1 ((pl++ER (CB md d C).length pr).length) a.cp (inL (pl++ER (CB md d C).length pr))::Af v.bp 33 ([(Value.slice a.pp ((pl++ER (CB md d C).length pr).length) a.cp)])::Af v.bf 145 ([(Value.func (.func 79) #[] #[(pP v.bm 0),(pP v.ba 0),(pP v.bp 0),(pP v.bf 0)])])::LR))
theorem D0 (x0:Nat×Nat×Nat):Instr.fill (λi=>some (i*3,3)) ((Array.range (1*3)).map ((Value.agg (An ((0,0,0):Nat×Nat×Nat)).toArray).cells[·%(Value.agg (An ((0,0,0):Nat×Nat×Nat)).toArray).cells.size]!)) [(0,.agg (An x0).toArray)]=some (An x0).toArray:=by kernel_rfl
set_option maxHeartbeats 1000000 in
theorem WH (v:Zu) (md:List (P2×Nat)) (pr:Nat) (hmd:Hq JU md) (hmv:∀k n,Ae md k=some n->n<4611686018427387904) (hpr:pr<4611686018427387904) (al:List T3) (pa:Option Addr) (ca:Nat) (ho1:OwnOk pa al.length ca) (pl:List Nat) (pp:Option Addr) (cp:Nat) (ho2:OwnOk pp pl.length cp) (C:T3) (hC:C.1<4611686018427387904/\C.2.1<4611686018427387904/\C.2.2<4611686018427387904) (hal:al.length+2^(0)<=1000000) (hpl:pl.length+2^(0)<=1000000) (w:World) {w0:BM} {LR:List As} (hW:Own w0 w (CD v.b Dv vN md::Af v.bm 142 ([(Value.map (some v.b))])::rowW pa 76 3 al.length ca (rowsL An al)::Af v.ba 28 ([(Value.slice pa al.length ca)])::rowW pp 3 1 pl.length cp (inL pl)::Af v.bp 33 ([(Value.slice pp pl.length cp)])::Af v.bf 145 ([(Value.func (.func 79) #[] #[(pP v.bm 0),(pP v.ba 0),(pP v.bp 0),(pP v.bf 0)])])::LR)):Calls prog 79 #[(aG (An C)),(vN pr),(vI 0),(pP v.bm 0),(pP v.ba 0),(pP v.bp 0),(pP v.bf 0)] w (λe w'=>e=.returned (.tuple #[])/\∃a:Yr,(OwnOk a.pa (al++CB md (0) C).length a.ca/\OwnOk a.pp (pl++ER (CB md (0) C).length pr).length a.cp)/\Own w0 w' (CD v.b Dv vN md::Af v.bm 142 ([(Value.map (some v.b))])::rowW a.pa 76 3 ((al++CB md (0) C).length) a.ca (rowsL An (al++CB md (0) C))::Af v.ba 28 ([(Value.slice a.pa ((al++CB md (0) C).length) a.ca)])::rowW a.pp 3 1 ((pl++ER (CB md (0) C).length pr).length) a.cp (inL (pl++ER (CB md (0) C).length pr))::Af v.bp 33 ([(Value.slice a.pp ((pl++ER (CB md (0) C).length pr).length) a.cp)])::Af v.bf 145 ([(Value.func (.func 79) #[] #[(pP v.bm 0),(pP v.ba 0),(pP v.bp 0),(pP v.bf 0)])])::LR)):=by
 refine Mg (args:=[(aG (An C)),(vN pr),(vI 0),(pP v.bm 0),(pP v.ba 0),(pP v.bp 0),(pP v.bf 0)]) func79 O O (Ab O) hW (AF.subF (sL [0,1,2,3,4,5,6] O) (q4 (Bo (cs:=An C) O λb1=>q6 (sL [1,2,3,4,5,6,7] O) (Cu [(0,true),(1,true),(2,true),(3,true),(4,true),(5,false),(6,true),(7,true),(8,true),(9,true),(10,true),(11,true)] sr ?_))))
 refine Bj 2 (Value.map (some v.b)) VH O (Ax (v:=(pP b1 1)) O (AD (j:=1) O O underlying76 sizeOf3 O (by decide) O) (Bj 0 (vN C.2.1) Bm O (Ax (v:=(pP b1 2)) O (AD (j:=2) O O underlying76 sizeOf3 O (by decide) O) (Bj 0 (vN C.2.2) Bm O (AV.imp O ?_)))))
 refine BW call80 (Iz C.2.1 C.2.2) O (AV.back sr (Ax (v:=(Value.tuple #[(vN ((Ae md (min C.2.1 C.2.2,max C.2.1 C.2.2)).getD 0)),(Value.bool ((Ae md (min C.2.1 C.2.2,max C.2.1 C.2.2)).isSome))])) O (Ce HX 1 (eV:=vN) (kvs:=md) (x:=(min C.2.1 C.2.2,max C.2.1 C.2.2)) (z0:=0) (co:=true) O O underlying142 zeroValue3 O (hmd) (Bn Z Z)) (Bf O (Ax O (AU (v:=(vN ((Ae md (min C.2.1 C.2.2,max C.2.1 C.2.2)).getD 0))) O O) (Ax O (AU (v:=(Value.bool ((Ae md (min C.2.1 C.2.2,max C.2.1 C.2.2)).isSome))) O O) ?_)))))
 refine Ev O (Ev O (AV.nil (AC.subF (sL [1,2,4,5,6,7,10,11] O) (q1 (q4 ?_)))))
 obtain ⟨is,his⟩:∃q,q=(Ae md ((min C.2.1 C.2.2,max C.2.1 C.2.2):P2)).isSome:=⟨_,rfl⟩
 refine AR O (AE.retell (k:=22) (u:=(Value.bool is)) O (by rw [his]) (AI (Bg (c:=(!is)) O O) O (AR O ?_)))
 refine AE.mid (FM:=[(1,(vN pr)),(2,(vI 0)),(4,(pP v.ba 0)),(5,(pP v.bp 0)),(6,(pP v.bf 0)),(7,(pP b1 0)),(10,(vN ((Ae md (min C.2.1 C.2.2,max C.2.1 C.2.2)).getD 0))),(11,(Value.bool ((Ae md (min C.2.1 C.2.2,max C.2.1 C.2.2)).isSome))),(22,(Value.bool is)),(23,(Value.bool (!is))),(24,(Value.bool (!is))),(27,(Value.bool ((!is)||true)))]) (LM:=(Af b1 76 (An C)::CD v.b Dv vN md::Af v.bm 142 ([(Value.map (some v.b))])::rowW pa 76 3 al.length ca (rowsL An al)::Af v.ba 28 ([(Value.slice pa al.length ca)])::rowW pp 3 1 pl.length cp (inL pl)::Af v.bp 33 ([(Value.slice pp pl.length cp)])::Af v.bf 145 ([(Value.func (.func 79) #[] #[(pP v.bm 0),(pP v.ba 0),(pP v.bp 0),(pP v.bf 0)])])::LR)) 3 ?_ ?_
 ·rcases Bool.eq_false_or_eq_true (!is) with hg1|hg1
  ·skip
   refine AE.retell (k:=24) (u:=Value.bool true) O (by rw [hg1]) ?_
   have hg1':=hg1
   simp only [Bool.and_eq_true,Bool.or_eq_true,Bool.and_eq_false_iff,Bool.or_eq_false_iff,Bool.not_eq_true',Bool.not_eq_false',decide_eq_true_eq,decide_eq_false_iff_not] at hg1'
   exact AE.skip (AL O) O (Ab O) (AE.skip (AL O) O (Ab O) (AI (v:=(Value.bool true)) (Ah O O) O (AE.nil (AC.mid (sS O (sS O (sS O (sS O (sS O (sS O (sS O (sS O (sS O (sS O (sS (by first|rfl|(rw [hg1];rfl)|rw [hg1]) (sS (by first|rfl|(rw [hg1];rfl)|rw [hg1]) (sN))))))))))))) (List.Sublist.refl _)))))
  ·skip
   refine AE.retell (k:=24) (u:=Value.bool false) O (by rw [hg1]) ?_
   have hg1':=hg1
   simp only [Bool.and_eq_true,Bool.or_eq_true,Bool.and_eq_false_iff,Bool.or_eq_false_iff,Bool.not_eq_true',Bool.not_eq_false',decide_eq_true_eq,decide_eq_false_iff_not] at hg1'
   exact AE.step (v:=(vI 0)) (AB O) (BA O) O (Ab O) (AE.step (v:=(Value.bool true)) (AB O) (BS (c:=true) O O (by decide)) O (Ab O) (AI (v:=(Value.bool true)) (AS O O) O (AE.nil (AC.mid (sS O (sS O (sS O (sS O (sS O (sS O (sS O (sS O (sS O (sS O (sS (by first|rfl|(rw [hg1];rfl)|rw [hg1]) (sS (by first|rfl|(rw [hg1];rfl)|rw [hg1]) (sN))))))))))))) (List.Sublist.refl _)))))
 refine AE.nil (AC.subF (sL [1,2,4,5,6,7,10,27] O) (AC.then_ ?_))
 refine AF.cond O (λhc0=>?_) (λhc0=>?_)
 ·simp only [Bool.and_eq_true,Bool.or_eq_true,Bool.and_eq_false_iff,Bool.or_eq_false_iff,Bool.not_eq_true',Bool.not_eq_false',decide_eq_true_eq,decide_eq_false_iff_not] at hc0
  refine AF.seq (aS 6 [0,1,4,5] [(2,false),(3,false),(7,false)] 8 [(9,false)] (sk (sk (sk (sl (sk (sl sr)))))) (sk (sk (sk (sl (sl sr))))) (by kernel_rfl) (λ_ _ d _ _ h=>by cases d<;>exact h) (OkP.pas (v:=(Value.slice pa al.length ca)) O (AM O) (AK (i:=3) (v:=(Value.slice pa al.length ca)) O O CR.a O) O O (OkP.pas (v:=(aG (An C))) O (AM O) (Ac (i:=0) (vs:=An C) O O Ej.a Ej.s O O) O O (OkP.pas (v:=(Value.slice pp pl.length cp)) O (AM O) (AK (i:=4) (v:=(Value.slice pp pl.length cp)) O O Yf.a O) O O (OkP.pas (v:=(vN pr)) O (AM O) (BA O) O O ?_)))))
  refine OkP.nil ?_
  refine JA.two O O ?_ ?_
  ·skip
   refine AE.openV (V:=λb2=>(Value.slice (some ⟨b2,0,none⟩) 1 1)) (T:=3) (cs:=[(vN pr)]) (AM O) (Ap (cs:=[(vN pr)]) (pv:=[(0,(vN pr))]) underlying33 sizeOf3 zeroValue3 (by decide) (by decide) O (by kernel_rfl)) O (Ab O) λb2=>Bu.back (sl (sk (sk (sk (sl (sk (sl sr))))))) (Bu.imp O (AE.openV (V:=λb3=>(Value.slice (some ⟨b3,0,none⟩) 1 1)) (T:=76) (cs:=An C) (AM O) (Ap (z:=.agg (An ((0,0,0):Nat×Nat×Nat)).toArray) (cs:=An C) (pv:=[(0,(aG (An C)))]) underlying28 sizeOf76 zeroValue76 (by decide) (by decide) O (D0 C)) O (Ab O) λb3=>Bu.back (sl (sl (sk (sk (sk (sl (sk (sl sr)))))))) (Bu.imp O ?_)))
   refine AE.appendAt 5 (j:=0) (cs2:=rowsL An (al++[C])) Ns O ho1 (Al Ar _) O O O O O (by decide) (Gt Z) Z (by rw [BN];rfl) O λp_1 c_1 ho_1 hne_1=>Bu.back (sl (sl (sk (sk (sk (sl (sk (sl sr)))))))) (Bu.imp O (AE.appendAt 7 (j:=1) (cs2:=inL (pl++[pr])) PZ O ho2 (by rw [CP,Nat.mul_one]) O O O O O (by decide) (Gt Z) Z (by rw [EJ];rfl) O λp_2 c_2 ho_2 hne_2=>Bu.back (sl (sl (sk (sk (sk (sl (sk (sl sr)))))))) (Bu.cut O ?_)))
   refine Eu 6 (off:=0) (vs:=[(Value.slice p_1 (al.length+1) c_1)]) (cs':=[(Value.slice p_1 (al.length+1) c_1)]) (AM O) O sizeOf28 O (AV.back (sl (sl (sk (sk (sk (sl (sl (sl (sl sr))))))))) (AV.imp O (Eu 8 (off:=0) (vs:=[(Value.slice p_2 (pl.length+1) c_2)]) (cs':=[(Value.slice p_2 (pl.length+1) c_2)]) (AM O) O sizeOf33 O (AV.back (sl (sl (sk (sk (sk (sl (sl (sl (sl sr))))))))) (AV.nil ?_)))))
   exact AC.subF (sL [1,2,6,7,10] O) (AC.then_ (AF.ret (AC.then_ret (Eg (.inl O) O  (λw hw=>⟨rfl,⟨p_1,c_1,p_2,c_2⟩,(by rw [show al++CB md (0) C=al++[C] from by rfl,show pl++ER (CB md (0) C).length pr=pl++[pr] from by rfl];rw [show al.length+1=(al++[C]).length by simp,show pl.length+1=(pl++[pr]).length by simp] at hw;exact ⟨⟨(by simpa using ho_1),(by simpa using ho_2)⟩,hw.weak (sl (sl (sl sr)))⟩)⟩)))))
  ·skip
   refine AE.openV (V:=λb2=>(Value.slice (some ⟨b2,0,none⟩) 1 1)) (T:=76) (cs:=An C) (AM O) (Ap (z:=.agg (An ((0,0,0):Nat×Nat×Nat)).toArray) (cs:=An C) (pv:=[(0,(aG (An C)))]) underlying28 sizeOf76 zeroValue76 (by decide) (by decide) O (D0 C)) O (Ab O) λb2=>JA.back (sl (sk (sk (sk (sl (sk (sl sr))))))) ?_
   refine JA.two O O ?_ ?_
   ·skip
    refine AE.openV (V:=λb3=>(Value.slice (some ⟨b3,0,none⟩) 1 1)) (T:=3) (cs:=[(vN pr)]) (AM O) (Ap (cs:=[(vN pr)]) (pv:=[(0,(vN pr))]) underlying33 sizeOf3 zeroValue3 (by decide) (by decide) O (by kernel_rfl)) O (Ab O) λb3=>Bu.back (sl (sl (sk (sk (sk (sl (sk (sl sr)))))))) (Bu.imp O (AE.appendAt 5 (j:=1) (cs2:=rowsL An (al++[C])) Ns O ho1 (Al Ar _) O O O O O (by decide) (Gt Z) Z (by rw [BN];rfl) O λp_3 c_3 ho_3 hne_3=>Bu.back (sl (sl (sk (sk (sk (sl (sk (sl sr)))))))) (Bu.imp O ?_)))
    refine AE.appendAt 7 (j:=0) (cs2:=inL (pl++[pr])) PZ O ho2 (by rw [CP,Nat.mul_one]) O O O O O (by decide) (Gt Z) Z (by rw [EJ];rfl) O λp_4 c_4 ho_4 hne_4=>Bu.back (sl (sl (sk (sk (sk (sl (sk (sl sr)))))))) (Bu.cut O (Eu 6 (off:=0) (vs:=[(Value.slice p_3 (al.length+1) c_3)]) (cs':=[(Value.slice p_3 (al.length+1) c_3)]) (AM O) O sizeOf28 O (AV.back (sl (sl (sk (sk (sk (sl (sl (sl (sl sr))))))))) (AV.imp O ?_))))
    refine Eu 8 (off:=0) (vs:=[(Value.slice p_4 (pl.length+1) c_4)]) (cs':=[(Value.slice p_4 (pl.length+1) c_4)]) (AM O) O sizeOf33 O (AV.back (sl (sl (sk (sk (sk (sl (sl (sl (sl sr))))))))) (AV.nil (AC.subF (sL [1,2,6,7,10] O) (AC.then_ (AF.ret ?_)))))
    exact AC.then_ret (Eg (.inl O) O  (λw hw=>⟨rfl,⟨p_3,c_3,p_4,c_4⟩,(by rw [show al++CB md (0) C=al++[C] from by rfl,show pl++ER (CB md (0) C).length pr=pl++[pr] from by rfl];rw [show al.length+1=(al++[C]).length by simp,show pl.length+1=(pl++[pr]).length by simp] at hw;exact ⟨⟨(by simpa using ho_3),(by simpa using ho_4)⟩,hw.weak (sl (sl (sl sr)))⟩)⟩))
   ·skip
    refine AE.appendAt 4 (j:=0) (cs2:=rowsL An (al++[C])) Ns O ho1 (Al Ar _) O O O O O (by decide) (Gt Z) Z (by rw [BN];rfl) O λp_5 c_5 ho_5 hne_5=>JA.back (sl (sk (sk (sk (sl (sk (sl sr))))))) (JA.one O O (by kernel_rfl) (AE.openV (V:=λb3=>(Value.slice (some ⟨b3,0,none⟩) 1 1)) (T:=3) (cs:=[(vN pr)]) (AM O) (Ap (cs:=[(vN pr)]) (pv:=[(0,(vN pr))]) underlying33 sizeOf3 zeroValue3 (by decide) (by decide) O (by kernel_rfl)) O (Ab O) λb3=>Bu.back (sl (sl (sk (sk (sk (sl (sk (sl sr)))))))) (Bu.imp O ?_)))
    refine AE.appendAt 7 (j:=0) (cs2:=inL (pl++[pr])) PZ O ho2 (by rw [CP,Nat.mul_one]) O O O O O (by decide) (Gt Z) Z (by rw [EJ];rfl) O λp_6 c_6 ho_6 hne_6=>Bu.back (sl (sl (sk (sk (sk (sl (sk (sl sr)))))))) (Bu.cut O (Eu 6 (off:=0) (vs:=[(Value.slice p_5 (al.length+1) c_5)]) (cs':=[(Value.slice p_5 (al.length+1) c_5)]) (AM O) O sizeOf28 O (AV.back (sl (sl (sk (sk (sk (sl (sl (sl (sl sr))))))))) (AV.imp O ?_))))
    refine Eu 8 (off:=0) (vs:=[(Value.slice p_6 (pl.length+1) c_6)]) (cs':=[(Value.slice p_6 (pl.length+1) c_6)]) (AM O) O sizeOf33 O (AV.back (sl (sl (sk (sk (sk (sl (sl (sl (sl sr))))))))) (AV.nil (AC.subF (sL [1,2,6,7,10] O) (AC.then_ (AF.ret ?_)))))
    exact AC.then_ret (Eg (.inl O) O  (λw hw=>⟨rfl,⟨p_5,c_5,p_6,c_6⟩,(by rw [show al++CB md (0) C=al++[C] from by rfl,show pl++ER (CB md (0) C).length pr=pl++[pr] from by rfl];rw [show al.length+1=(al++[C]).length by simp,show pl.length+1=(pl++[pr]).length by simp] at hw;exact ⟨⟨(by simpa using ho_5),(by simpa using ho_6)⟩,hw.weak (sl (sl (sl sr)))⟩)⟩))
 ·simp only [Bool.and_eq_true,Bool.or_eq_true,Bool.and_eq_false_iff,Bool.or_eq_false_iff,Bool.not_eq_true',Bool.not_eq_false',decide_eq_true_eq,decide_eq_false_iff_not] at hc0
  simp at hc0
theorem Gw (x0 x1 x2:Nat):Instr.fill (λi=>some (i*1,1)) (An ((0,0,0):Nat×Nat×Nat)).toArray [(0,vN x0),(1,vN x1),(2,vN x2)]=some (An (x0,x1,x2)).toArray:=by kernel_rfl
set_option maxHeartbeats 1000000 in
theorem Qz (v:Zu) (md:List (P2×Nat)) (pr d:Nat) (hmd:Hq JU md) (hmv:∀k n,Ae md k=some n->n<4611686018427387904) (hpr:pr<4611686018427387904) (hd3:d<=3) (ih:Q1 v md pr d) (al:List T3) (pa:Option Addr) (ca:Nat) (ho1:OwnOk pa al.length ca) (pl:List Nat) (pp:Option Addr) (cp:Nat) (ho2:OwnOk pp pl.length cp) (C:T3) (hC:C.1<4611686018427387904/\C.2.1<4611686018427387904/\C.2.2<4611686018427387904) (hal:al.length+2^(d+1)<=1000000) (hpl:pl.length+2^(d+1)<=1000000) (w:World) {w0:BM} {LR:List As} (hW:Own w0 w (CD v.b Dv vN md::Af v.bm 142 ([(Value.map (some v.b))])::rowW pa 76 3 al.length ca (rowsL An al)::Af v.ba 28 ([(Value.slice pa al.length ca)])::rowW pp 3 1 pl.length cp (inL pl)::Af v.bp 33 ([(Value.slice pp pl.length cp)])::Af v.bf 145 ([(Value.func (.func 79) #[] #[(pP v.bm 0),(pP v.ba 0),(pP v.bp 0),(pP v.bf 0)])])::LR)):Calls prog 79 #[(aG (An C)),(vN pr),(vN (d+1)),(pP v.bm 0),(pP v.ba 0),(pP v.bp 0),(pP v.bf 0)] w (λe w'=>e=.returned (.tuple #[])/\∃a:Yr,(OwnOk a.pa (al++CB md (d+1) C).length a.ca/\OwnOk a.pp (pl++ER (CB md (d+1) C).length pr).length a.cp)/\Own w0 w' (CD v.b Dv vN md::Af v.bm 142 ([(Value.map (some v.b))])::rowW a.pa 76 3 ((al++CB md (d+1) C).length) a.ca (rowsL An (al++CB md (d+1) C))::Af v.ba 28 ([(Value.slice a.pa ((al++CB md (d+1) C).length) a.ca)])::rowW a.pp 3 1 ((pl++ER (CB md (d+1) C).length pr).length) a.cp (inL (pl++ER (CB md (d+1) C).length pr))::Af v.bp 33 ([(Value.slice a.pp ((pl++ER (CB md (d+1) C).length pr).length) a.cp)])::Af v.bf 145 ([(Value.func (.func 79) #[] #[(pP v.bm 0),(pP v.ba 0),(pP v.bp 0),(pP v.bf 0)])])::LR)):=by
 have hp2:0<2^d:=Nat.two_pow_pos d
 refine Mg (args:=[(aG (An C)),(vN pr),(vN (d+1)),(pP v.bm 0),(pP v.ba 0),(pP v.bp 0),(pP v.bf 0)]) func79 O O (Ab O) hW (AF.subF (sL [0,1,2,3,4,5,6] O) (q4 (Bo (cs:=An C) O λb1=>q6 (sL [1,2,3,4,5,6,7] O) (Cu [(0,true),(1,true),(2,true),(3,true),(4,true),(5,false),(6,true),(7,true),(8,true),(9,true),(10,true),(11,true)] sr ?_))))
 refine Bj 2 (Value.map (some v.b)) VH O (Ax (v:=(pP b1 1)) O (AD (j:=1) O O underlying76 sizeOf3 O (by decide) O) (Bj 0 (vN C.2.1) Bm O (Ax (v:=(pP b1 2)) O (AD (j:=2) O O underlying76 sizeOf3 O (by decide) O) (Bj 0 (vN C.2.2) Bm O (AV.imp O ?_)))))
 refine BW call80 (Iz C.2.1 C.2.2) O (AV.back sr (Ax (v:=(Value.tuple #[(vN ((Ae md (min C.2.1 C.2.2,max C.2.1 C.2.2)).getD 0)),(Value.bool ((Ae md (min C.2.1 C.2.2,max C.2.1 C.2.2)).isSome))])) O (Ce HX 1 (eV:=vN) (kvs:=md) (x:=(min C.2.1 C.2.2,max C.2.1 C.2.2)) (z0:=0) (co:=true) O O underlying142 zeroValue3 O (hmd) (Bn Z Z)) (Bf O (Ax O (AU (v:=(vN ((Ae md (min C.2.1 C.2.2,max C.2.1 C.2.2)).getD 0))) O O) (Ax O (AU (v:=(Value.bool ((Ae md (min C.2.1 C.2.2,max C.2.1 C.2.2)).isSome))) O O) ?_)))))
 refine Ev O (Ev O (AV.nil (AC.subF (sL [1,2,4,5,6,7,10,11] O) (q1 (q4 ?_)))))
 obtain ⟨is,his⟩:∃q,q=(Ae md ((min C.2.1 C.2.2,max C.2.1 C.2.2):P2)).isSome:=⟨_,rfl⟩
 refine AR O (AE.retell (k:=22) (u:=(Value.bool is)) O (by rw [his]) (AI (Bg (c:=(!is)) O O) O (AR O ?_)))
 refine AE.mid (FM:=[(1,(vN pr)),(2,(vN (d+1))),(4,(pP v.ba 0)),(5,(pP v.bp 0)),(6,(pP v.bf 0)),(7,(pP b1 0)),(10,(vN ((Ae md (min C.2.1 C.2.2,max C.2.1 C.2.2)).getD 0))),(11,(Value.bool ((Ae md (min C.2.1 C.2.2,max C.2.1 C.2.2)).isSome))),(22,(Value.bool is)),(23,(Value.bool (!is))),(24,(Value.bool (!is))),(27,(Value.bool (!is)))]) (LM:=(Af b1 76 (An C)::CD v.b Dv vN md::Af v.bm 142 ([(Value.map (some v.b))])::rowW pa 76 3 al.length ca (rowsL An al)::Af v.ba 28 ([(Value.slice pa al.length ca)])::rowW pp 3 1 pl.length cp (inL pl)::Af v.bp 33 ([(Value.slice pp pl.length cp)])::Af v.bf 145 ([(Value.func (.func 79) #[] #[(pP v.bm 0),(pP v.ba 0),(pP v.bp 0),(pP v.bf 0)])])::LR)) 3 ?_ ?_
 ·rcases Bool.eq_false_or_eq_true (!is) with hg1|hg1
  ·skip
   refine AE.retell (k:=24) (u:=Value.bool true) O (by rw [hg1]) ?_
   have hg1':=hg1
   simp only [Bool.and_eq_true,Bool.or_eq_true,Bool.and_eq_false_iff,Bool.or_eq_false_iff,Bool.not_eq_true',Bool.not_eq_false',decide_eq_true_eq,decide_eq_false_iff_not] at hg1'
   exact AE.skip (AL O) O (Ab O) (AE.skip (AL O) O (Ab O) (AI (v:=(Value.bool true)) (Ah O O) O (AE.nil (AC.mid (sS O (sS O (sS O (sS O (sS O (sS O (sS O (sS O (sS O (sS O (sS (by first|rfl|(rw [hg1];rfl)|rw [hg1]) (sS (by first|rfl|(rw [hg1];rfl)|rw [hg1]) (sN))))))))))))) (List.Sublist.refl _)))))
  ·skip
   refine AE.retell (k:=24) (u:=Value.bool false) O (by rw [hg1]) ?_
   have hg1':=hg1
   simp only [Bool.and_eq_true,Bool.or_eq_true,Bool.and_eq_false_iff,Bool.or_eq_false_iff,Bool.not_eq_true',Bool.not_eq_false',decide_eq_true_eq,decide_eq_false_iff_not] at hg1'
   exact AE.step (v:=(vN (d+1))) (AB O) (BA O) O (Ab O) (AE.step (v:=(Value.bool false)) (AB O) (BS (c:=false) O O (decide_eq_false Z)) O (Ab O) (AI (v:=(Value.bool false)) (AS O O) O (AE.nil (AC.mid (sS O (sS O (sS O (sS O (sS O (sS O (sS O (sS O (sS O (sS O (sS (by first|rfl|(rw [hg1];rfl)|rw [hg1]) (sS (by first|rfl|(rw [hg1];rfl)|rw [hg1]) (sN))))))))))))) (List.Sublist.refl _)))))
 refine AE.nil (AC.subF (sL [1,2,4,5,6,7,10,27] O) (AC.then_ ?_))
 refine AF.cond O (λhc0=>?_) (λhc0=>?_)
 ·simp only [Bool.and_eq_true,Bool.or_eq_true,Bool.and_eq_false_iff,Bool.or_eq_false_iff,Bool.not_eq_true',Bool.not_eq_false',decide_eq_true_eq,decide_eq_false_iff_not] at hc0
  have hno:Ae md (Bh C)=none:=by rw [<-Option.isNone_iff_eq_none];show (Ae md ((min C.2.1 C.2.2,max C.2.1 C.2.2):P2)).isNone=true;rw [<-Option.not_isSome];simp_all
  refine AF.seq (aS 6 [0,1,4,5] [(2,false),(3,false),(7,false)] 8 [(9,false)] (sk (sk (sk (sl (sk (sl sr)))))) (sk (sk (sk (sl (sl sr))))) (by kernel_rfl) (λ_ _ d _ _ h=>by cases d<;>exact h) (OkP.pas (v:=(Value.slice pa al.length ca)) O (AM O) (AK (i:=3) (v:=(Value.slice pa al.length ca)) O O CR.a O) O O (OkP.pas (v:=(aG (An C))) O (AM O) (Ac (i:=0) (vs:=An C) O O Ej.a Ej.s O O) O O (OkP.pas (v:=(Value.slice pp pl.length cp)) O (AM O) (AK (i:=4) (v:=(Value.slice pp pl.length cp)) O O Yf.a O) O O (OkP.pas (v:=(vN pr)) O (AM O) (BA O) O O ?_)))))
  refine OkP.nil ?_
  refine JA.two O O ?_ ?_
  ·skip
   refine AE.openV (V:=λb2=>(Value.slice (some ⟨b2,0,none⟩) 1 1)) (T:=3) (cs:=[(vN pr)]) (AM O) (Ap (cs:=[(vN pr)]) (pv:=[(0,(vN pr))]) underlying33 sizeOf3 zeroValue3 (by decide) (by decide) O (by kernel_rfl)) O (Ab O) λb2=>Bu.back (sl (sk (sk (sk (sl (sk (sl sr))))))) (Bu.imp O (AE.openV (V:=λb3=>(Value.slice (some ⟨b3,0,none⟩) 1 1)) (T:=76) (cs:=An C) (AM O) (Ap (z:=.agg (An ((0,0,0):Nat×Nat×Nat)).toArray) (cs:=An C) (pv:=[(0,(aG (An C)))]) underlying28 sizeOf76 zeroValue76 (by decide) (by decide) O (D0 C)) O (Ab O) λb3=>Bu.back (sl (sl (sk (sk (sk (sl (sk (sl sr)))))))) (Bu.imp O ?_)))
   refine AE.appendAt 5 (j:=0) (cs2:=rowsL An (al++[C])) Ns O ho1 (Al Ar _) O O O O O (by decide) (Gt Z) Z (by rw [BN];rfl) O λp_1 c_1 ho_1 hne_1=>Bu.back (sl (sl (sk (sk (sk (sl (sk (sl sr)))))))) (Bu.imp O (AE.appendAt 7 (j:=1) (cs2:=inL (pl++[pr])) PZ O ho2 (by rw [CP,Nat.mul_one]) O O O O O (by decide) (Gt Z) Z (by rw [EJ];rfl) O λp_2 c_2 ho_2 hne_2=>Bu.back (sl (sl (sk (sk (sk (sl (sk (sl sr)))))))) (Bu.cut O ?_)))
   refine Eu 6 (off:=0) (vs:=[(Value.slice p_1 (al.length+1) c_1)]) (cs':=[(Value.slice p_1 (al.length+1) c_1)]) (AM O) O sizeOf28 O (AV.back (sl (sl (sk (sk (sk (sl (sl (sl (sl sr))))))))) (AV.imp O (Eu 8 (off:=0) (vs:=[(Value.slice p_2 (pl.length+1) c_2)]) (cs':=[(Value.slice p_2 (pl.length+1) c_2)]) (AM O) O sizeOf33 O (AV.back (sl (sl (sk (sk (sk (sl (sl (sl (sl sr))))))))) (AV.nil ?_)))))
   exact AC.subF (sL [1,2,6,7,10] O) (AC.then_ (AF.ret (AC.then_ret (Eg (.inl O) O  (λw hw=>⟨rfl,⟨p_1,c_1,p_2,c_2⟩,(by rw [show al++CB md (d+1) C=al++[C] from by rw [Ep hno],show pl++ER (CB md (d+1) C).length pr=pl++[pr] from by rw [Ep hno];rfl];rw [show al.length+1=(al++[C]).length by simp,show pl.length+1=(pl++[pr]).length by simp] at hw;exact ⟨⟨(by simpa using ho_1),(by simpa using ho_2)⟩,hw.weak (sl (sl (sl sr)))⟩)⟩)))))
  ·skip
   refine AE.openV (V:=λb2=>(Value.slice (some ⟨b2,0,none⟩) 1 1)) (T:=76) (cs:=An C) (AM O) (Ap (z:=.agg (An ((0,0,0):Nat×Nat×Nat)).toArray) (cs:=An C) (pv:=[(0,(aG (An C)))]) underlying28 sizeOf76 zeroValue76 (by decide) (by decide) O (D0 C)) O (Ab O) λb2=>JA.back (sl (sk (sk (sk (sl (sk (sl sr))))))) ?_
   refine JA.two O O ?_ ?_
   ·skip
    refine AE.openV (V:=λb3=>(Value.slice (some ⟨b3,0,none⟩) 1 1)) (T:=3) (cs:=[(vN pr)]) (AM O) (Ap (cs:=[(vN pr)]) (pv:=[(0,(vN pr))]) underlying33 sizeOf3 zeroValue3 (by decide) (by decide) O (by kernel_rfl)) O (Ab O) λb3=>Bu.back (sl (sl (sk (sk (sk (sl (sk (sl sr)))))))) (Bu.imp O (AE.appendAt 5 (j:=1) (cs2:=rowsL An (al++[C])) Ns O ho1 (Al Ar _) O O O O O (by decide) (Gt Z) Z (by rw [BN];rfl) O λp_3 c_3 ho_3 hne_3=>Bu.back (sl (sl (sk (sk (sk (sl (sk (sl sr)))))))) (Bu.imp O ?_)))
    refine AE.appendAt 7 (j:=0) (cs2:=inL (pl++[pr])) PZ O ho2 (by rw [CP,Nat.mul_one]) O O O O O (by decide) (Gt Z) Z (by rw [EJ];rfl) O λp_4 c_4 ho_4 hne_4=>Bu.back (sl (sl (sk (sk (sk (sl (sk (sl sr)))))))) (Bu.cut O (Eu 6 (off:=0) (vs:=[(Value.slice p_3 (al.length+1) c_3)]) (cs':=[(Value.slice p_3 (al.length+1) c_3)]) (AM O) O sizeOf28 O (AV.back (sl (sl (sk (sk (sk (sl (sl (sl (sl sr))))))))) (AV.imp O ?_))))
    refine Eu 8 (off:=0) (vs:=[(Value.slice p_4 (pl.length+1) c_4)]) (cs':=[(Value.slice p_4 (pl.length+1) c_4)]) (AM O) O sizeOf33 O (AV.back (sl (sl (sk (sk (sk (sl (sl (sl (sl sr))))))))) (AV.nil (AC.subF (sL [1,2,6,7,10] O) (AC.then_ (AF.ret ?_)))))
    exact AC.then_ret (Eg (.inl O) O  (λw hw=>⟨rfl,⟨p_3,c_3,p_4,c_4⟩,(by rw [show al++CB md (d+1) C=al++[C] from by rw [Ep hno],show pl++ER (CB md (d+1) C).length pr=pl++[pr] from by rw [Ep hno];rfl];rw [show al.length+1=(al++[C]).length by simp,show pl.length+1=(pl++[pr]).length by simp] at hw;exact ⟨⟨(by simpa using ho_3),(by simpa using ho_4)⟩,hw.weak (sl (sl (sl sr)))⟩)⟩))
   ·skip
    refine AE.appendAt 4 (j:=0) (cs2:=rowsL An (al++[C])) Ns O ho1 (Al Ar _) O O O O O (by decide) (Gt Z) Z (by rw [BN];rfl) O λp_5 c_5 ho_5 hne_5=>JA.back (sl (sk (sk (sk (sl (sk (sl sr))))))) (JA.one O O (by kernel_rfl) (AE.openV (V:=λb3=>(Value.slice (some ⟨b3,0,none⟩) 1 1)) (T:=3) (cs:=[(vN pr)]) (AM O) (Ap (cs:=[(vN pr)]) (pv:=[(0,(vN pr))]) underlying33 sizeOf3 zeroValue3 (by decide) (by decide) O (by kernel_rfl)) O (Ab O) λb3=>Bu.back (sl (sl (sk (sk (sk (sl (sk (sl sr)))))))) (Bu.imp O ?_)))
    refine AE.appendAt 7 (j:=0) (cs2:=inL (pl++[pr])) PZ O ho2 (by rw [CP,Nat.mul_one]) O O O O O (by decide) (Gt Z) Z (by rw [EJ];rfl) O λp_6 c_6 ho_6 hne_6=>Bu.back (sl (sl (sk (sk (sk (sl (sk (sl sr)))))))) (Bu.cut O (Eu 6 (off:=0) (vs:=[(Value.slice p_5 (al.length+1) c_5)]) (cs':=[(Value.slice p_5 (al.length+1) c_5)]) (AM O) O sizeOf28 O (AV.back (sl (sl (sk (sk (sk (sl (sl (sl (sl sr))))))))) (AV.imp O ?_))))
    refine Eu 8 (off:=0) (vs:=[(Value.slice p_6 (pl.length+1) c_6)]) (cs':=[(Value.slice p_6 (pl.length+1) c_6)]) (AM O) O sizeOf33 O (AV.back (sl (sl (sk (sk (sk (sl (sl (sl (sl sr))))))))) (AV.nil (AC.subF (sL [1,2,6,7,10] O) (AC.then_ (AF.ret ?_)))))
    exact AC.then_ret (Eg (.inl O) O  (λw hw=>⟨rfl,⟨p_5,c_5,p_6,c_6⟩,(by rw [show al++CB md (d+1) C=al++[C] from by rw [Ep hno],show pl++ER (CB md (d+1) C).length pr=pl++[pr] from by rw [Ep hno];rfl];rw [show al.length+1=(al++[C]).length by simp,show pl.length+1=(pl++[pr]).length by simp] at hw;exact ⟨⟨(by simpa using ho_5),(by simpa using ho_6)⟩,hw.weak (sl (sl (sl sr)))⟩)⟩))
 ·simp only [Bool.and_eq_true,Bool.or_eq_true,Bool.and_eq_false_iff,Bool.or_eq_false_iff,Bool.not_eq_true',Bool.not_eq_false',decide_eq_true_eq,decide_eq_false_iff_not] at hc0
  have hpw:2^(d+1)=2^d+2^d:=by rw [Nat.pow_succ];omega
  obtain ⟨nv,hys⟩:∃n,Ae md (Bh C)=some n:=Option.isSome_iff_exists.1 (by show (Ae md ((min C.2.1 C.2.2,max C.2.1 C.2.2):P2)).isSome=true;simp_all)
  have hnv:=hmv _ _ hys
  have hnvq:nv=(Ae md ((min C.2.1 C.2.2,max C.2.1 C.2.2):P2)).getD 0:=by rw [show Ae md ((min C.2.1 C.2.2,max C.2.1 C.2.2):P2)=some nv from hys];rfl
  refine AF.skip (q2 (BK 7 (Value.func (.func 79) #[] #[(pP v.bm 0),(pP v.ba 0),(pP v.bp 0),(pP v.bf 0)]) UY O (AR O (AE.retell (k:=37) (u:=(vN nv)) O (by rw [hnvq]) (AI (v:=(pP b1 0)) (AD (j:=0) O O underlying76 sizeOf3 O (by decide) O) O ?_)))))
  refine BK 0 (vN C.1) Bm O (AI (v:=(pP b1 1)) (AD (j:=1) O O underlying76 sizeOf3 O (by decide) O) O (BK 0 (vN C.2.1) Bm O (AI (v:=(aG (An (nv,C.1,C.2.1)))) (Ao (zs:=An ((0,0,0):Nat×Nat×Nat)) (vs:=An (nv,C.1,C.2.1)) (pv:=[(0,(vN nv)),(1,(vN C.1)),(2,(vN C.2.1))]) zeroValue76 underlying76 sizeOf3 O (Gw nv C.1 C.2.1)) O (AR O (AR O ?_)))))
  refine AI (Br (c:=((d:Nat):Int)) O O (by rw [BL Z Z];omega)) O ?_
  have hq1:=HA md d (nv,C.1,C.2.1)
  refine AE.callT (v:=.tuple #[]) (α:=Yr) (K:=λa=>OwnOk a.pa (al++CB md d (nv,C.1,C.2.1)).length a.ca/\OwnOk a.pp (pl++ER (CB md d (nv,C.1,C.2.1)).length pr).length a.cp) (LO:=λa=>(CD v.b Dv vN md::Af v.bm 142 ([(Value.map (some v.b))])::rowW a.pa 76 3 ((al++CB md d (nv,C.1,C.2.1)).length) a.ca (rowsL An (al++CB md d (nv,C.1,C.2.1)))::Af v.ba 28 ([(Value.slice a.pa ((al++CB md d (nv,C.1,C.2.1)).length) a.ca)])::rowW a.pp 3 1 ((pl++ER (CB md d (nv,C.1,C.2.1)).length pr).length) a.cp (inL (pl++ER (CB md d (nv,C.1,C.2.1)).length pr))::Af v.bp 33 ([(Value.slice a.pp ((pl++ER (CB md d (nv,C.1,C.2.1)).length pr).length) a.cp)])::Af v.bf 145 ([(Value.func (.func 79) #[] #[(pP v.bm 0),(pP v.ba 0),(pP v.bp 0),(pP v.bf 0)])])::Af b1 76 (An C)::LR)) (AM O) (Dy (args:=[(aG (An (nv,C.1,C.2.1))),(vN pr),(vN d)]) (caps:=[(pP v.bm 0),(pP v.ba 0),(pP v.bp 0),(pP v.bf 0)]) (all:=[(aG (An (nv,C.1,C.2.1))),(vN pr),(vN d),(pP v.bm 0),(pP v.ba 0),(pP v.bp 0),(pP v.bf 0)]) O O O call79) ((List.perm_middle (l₁:=[CD v.b Dv vN md,Af v.bm 142 ([(Value.map (some v.b))]),rowW pa 76 3 al.length ca (rowsL An al),Af v.ba 28 ([(Value.slice pa al.length ca)]),rowW pp 3 1 pl.length cp (inL pl),Af v.bp 33 ([(Value.slice pp pl.length cp)]),Af v.bf 145 ([(Value.func (.func 79) #[] #[(pP v.bm 0),(pP v.ba 0),(pP v.bp 0),(pP v.bf 0)])])]) (l₂:=LR)).symm) (λw hw=>ih al pa ca ho1 pl pp cp ho2 (nv,C.1,C.2.1) ⟨hnv,hC.1,hC.2.1⟩ (by simp [ER] at *;omega) (by simp [ER] at *;omega) w w0 (Af b1 76 (An C)::LR) hw) (λd hd=>by cases hd<;>exact (Ab O)) ?_;intro a1 ⟨ho3,ho4⟩
  refine AE.nil (AC.subF (sL [1,2,4,5,6,7,10] O) (AC.then_ (AF.region (BK 6 (Value.func (.func 79) #[] #[(pP v.bm 0),(pP v.ba 0),(pP v.bp 0),(pP v.bf 0)]) UY O (AR O ?_)))))
  refine AE.retell (k:=48) (u:=(vN nv)) O (by rw [hnvq]) (AI (v:=(pP b1 2)) (AD (j:=2) O O underlying76 sizeOf3 O (by decide) O) O (BK 7 (vN C.2.2) Bm O (AI (v:=(pP b1 0)) (AD (j:=0) O O underlying76 sizeOf3 O (by decide) O) O (BK 7 (vN C.1) Bm O (AI (v:=(aG (An (nv,C.2.2,C.1)))) (Ao (zs:=An ((0,0,0):Nat×Nat×Nat)) (vs:=An (nv,C.2.2,C.1)) (pv:=[(0,(vN nv)),(1,(vN C.2.2)),(2,(vN C.1))]) zeroValue76 underlying76 sizeOf3 O (Gw nv C.2.2 C.1)) O ?_)))))
  refine AR O (AR O (AI (Br (c:=((d:Nat):Int)) O O (by rw [BL Z Z];omega)) O ?_))
  have hq2:=HA md d (nv,C.2.2,C.1)
  refine AE.callT (v:=.tuple #[]) (α:=Yr) (K:=λa=>OwnOk a.pa ((al++CB md d (nv,C.1,C.2.1))++CB md d (nv,C.2.2,C.1)).length a.ca/\OwnOk a.pp ((pl++ER (CB md d (nv,C.1,C.2.1)).length pr)++ER (CB md d (nv,C.2.2,C.1)).length pr).length a.cp) (LO:=λa=>(CD v.b Dv vN md::Af v.bm 142 ([(Value.map (some v.b))])::rowW a.pa 76 3 (((al++CB md d (nv,C.1,C.2.1))++CB md d (nv,C.2.2,C.1)).length) a.ca (rowsL An ((al++CB md d (nv,C.1,C.2.1))++CB md d (nv,C.2.2,C.1)))::Af v.ba 28 ([(Value.slice a.pa (((al++CB md d (nv,C.1,C.2.1))++CB md d (nv,C.2.2,C.1)).length) a.ca)])::rowW a.pp 3 1 (((pl++ER (CB md d (nv,C.1,C.2.1)).length pr)++ER (CB md d (nv,C.2.2,C.1)).length pr).length) a.cp (inL ((pl++ER (CB md d (nv,C.1,C.2.1)).length pr)++ER (CB md d (nv,C.2.2,C.1)).length pr))::Af v.bp 33 ([(Value.slice a.pp (((pl++ER (CB md d (nv,C.1,C.2.1)).length pr)++ER (CB md d (nv,C.2.2,C.1)).length pr).length) a.cp)])::Af v.bf 145 ([(Value.func (.func 79) #[] #[(pP v.bm 0),(pP v.ba 0),(pP v.bp 0),(pP v.bf 0)])])::Af b1 76 (An C)::LR)) (AM O) (Dy (args:=[(aG (An (nv,C.2.2,C.1))),(vN pr),(vN d)]) (caps:=[(pP v.bm 0),(pP v.ba 0),(pP v.bp 0),(pP v.bf 0)]) (all:=[(aG (An (nv,C.2.2,C.1))),(vN pr),(vN d),(pP v.bm 0),(pP v.ba 0),(pP v.bp 0),(pP v.bf 0)]) O O O call79) (List.Perm.refl _) (λw hw=>ih (al++CB md d (nv,C.1,C.2.1)) a1.pa a1.ca ho3 (pl++ER (CB md d (nv,C.1,C.2.1)).length pr) a1.pp a1.cp ho4 (nv,C.2.2,C.1) ⟨hnv,hC.2.2,hC.1⟩ (by simp [ER] at *;omega) (by simp [ER] at *;omega) w w0 (Af b1 76 (An C)::LR) hw) (λd hd=>by cases hd<;>exact (Ab O)) ?_;intro a2 ⟨ho5,ho6⟩
  exact AE.nil (AC.subF (sL [1,2,4,5,6,7,10] O) (Eg (.inr O) O  (λw hw=>⟨rfl,⟨a2.pa,a2.ca,a2.pp,a2.cp⟩,(by rw [show al++CB md (d+1) C=((al++CB md d (nv,C.1,C.2.1))++CB md d (nv,C.2.2,C.1)) from by rw [E3 hys,List.append_assoc],show pl++ER (CB md (d+1) C).length pr=((pl++ER (CB md d (nv,C.1,C.2.1)).length pr)++ER (CB md d (nv,C.2.2,C.1)).length pr) from by rw [E3 hys,List.length_append,Vu,List.append_assoc]];exact ⟨⟨(by simpa using ho5),(by simpa using ho6)⟩,hw.weak (sk (sk (sk (sk (sk (sk (sk (sl sr))))))))⟩)⟩)))
theorem SV (v:Zu) (md:List (P2×Nat)) (pr:Nat) (hmd:Hq JU md) (hmv:∀k n,Ae md k=some n->n<4611686018427387904) (hpr:pr<4611686018427387904):Q1 v md pr 2 :=
 λal pa ca ho1 pl pp cp ho2 C hC hal hpl w w0 LR hW=>Qz v md pr 1 hmd hmv hpr (by decide) (λal pa ca ho1 pl pp cp ho2 C hC hal hpl w w0 LR hW=>Qz v md pr 0 hmd hmv hpr (by decide) (λal pa ca ho1 pl pp cp ho2 C hC hal hpl w w0 LR hW=>WH v md pr hmd hmv hpr al pa ca ho1 pl pp cp ho2 C hC hal hpl w hW) al pa ca ho1 pl pp cp ho2 C hC hal hpl w hW) al pa ca ho1 pl pp cp ho2 C hC hal hpl w hW
end
section
set_option maxRecDepth 100000
theorem YL {ps:List Pt} {ts ss:List T3} (x:MX ps ts ss) (bo:BX (Bk x)) (z:Int) (hz0:0<=z) (hz1:z<(ts.length:Int)) (w:World) {S:Nat->Prop} (hbo:Ro S w bo):Calls prog 76 #[(vI z),(pP bo.b 0)] w (Av w (Value.bool false)):=by
 have lbo:=EA (W:=w) hbo
 refine BF (args:=[(vI z),(pP bo.b 0)]) (L:=[AZ (some ⟨bo.b,0,none⟩) (Bk x)]) func76 O O (Ab O) (EB hbo BR) (AF.subF (sL [0,1] O) (q4 (AO O (AE.nil (q2 ?_)))))
 refine AR O (AI (Am (c:=false) O O (decide_eq_false Z)) O (AR O (AE.step (v:=(vI z)) (AB O) (BA O) O (Ab O) (AE.step (v:=(pP bo.b 1)) (AB O) (AA O underlying31 O sizeOf28 O) O (Ab O) (AE.step (v:=(Value.slice x.b.p ts.length x.b.c)) (AB O) (Ai (q:=some ⟨bo.b,0,none⟩) (v:=(Value.slice x.b.p ts.length x.b.c)) (off:=1) (i:=0) O O (λe=>by cases e) CR O) O (Ab O) ?_)))))
 refine AE.step (v:=(vN ts.length)) (AB O) (AG O underlying28) O (Ab O) (AE.step (v:=(Value.bool false)) (AB O) (DD (c:=false) O O (decide_eq_false Z)) O (Ab O) (AI (v:=(Value.bool false)) (AS O O) O (AO O (AE.nil (AC.subF (sL [3] O) ?_)))))
 exact AC.then_ (AF.ret (AT O (Ak (v:=(Value.bool false)) O) (λw hw=>⟨rfl,hw.out⟩)))
theorem Wc {ps:List Pt} {ts ss:List T3} (x:MX ps ts ss) (bo:BX (Bk x)) (ms:List Int) (y:RX (zL ms) ms.length) (hml:ms.length<=1000000) (hv:∀j,j<ms.length->0<=ms.getD j 0/\ms.getD j 0<(ts.length:Int)) (w:World) {S:Nat->Prop} (hbo:Ro S w bo) (hy:Ro S w y):Calls prog 153 #[(Value.slice y.p ms.length y.c),(Value.func (.func 76) #[] #[(pP bo.b 0)])] w (Av w (vI (-1:Int))):=by
 have lbo:=EA (W:=w) hbo
 have ly:=EA (W:=w) hy
 refine BF (args:=[(Value.slice y.p ms.length y.c),(Value.func (.func 76) #[] #[(pP bo.b 0)])]) (L:=[AZ (some ⟨bo.b,0,none⟩) (Bk x),AZ y.p (zL ms)]) func153 O O (Ab O) (EB hbo (EB hy BR)) (AF.subF (sL [0,1] O) (q4 (AO O (AE.nil (q1 ?_)))))
 refine q4 (AR O (AI (v:=(vN ms.length)) (AG O underlying33) O (AR O (AE.nil (AC.subF (sL [0,1,4,7,8] O) ?_)))))
 refine AC.then_ (AF.block ?_)
 refine AF.lp1 (tg λ(j:Nat)=>j<=ms.length) (tg λ(j:Nat)=>[(0,(Value.slice y.p ms.length y.c)),(1,(Value.func (.func 76) #[] #[(pP bo.b 0)])),(7,(vN ms.length)),(8,(vN j))]) (tg λ(j:Nat)=>[AZ (some ⟨bo.b,0,none⟩) (Bk x),AZ y.p (zL ms)]) (tg λ(j:Nat)=>ms.length-j) 0 (Nat.zero_le _) (sF O) sr (λj hJ=>?_)
 have hj:=hJ
 refine q4 (AI (Am (c:=(decide (j<ms.length))) O O (C6 (a:=j) (b:=ms.length))) O (AE.nil (q1 ?_)))
 refine AF.cond O (λhc0=>?_) (λhc0=>?_)
 ·replace hc0:=of_decide_eq_true hc0
  refine AF.skip (q1 (AF.block (q4 (AR O (AO O ?_)))))
  refine q3 (sL [0,1,7,8,5] O) (AR O (AR O (AR O (AI (v:=(pP (pB y.p) (pO y.p+j*1))) (AQ (j:=j) O O y.ok underlying33 sizeOf3 O Z) O (AI (Ai (v:=(vI (ms.getD j 0))) (i:=1) O O (y.ok.ne Z) Bm (PL (l:=ms) (j:=j) Z)) O ?_)))))
  refine AE.call (v:=(Value.bool false)) (AM O) (Dy (args:=[(vI (ms.getD j 0))]) (caps:=[(pP bo.b 0)]) (all:=[(vI (ms.getD j 0)),(pP bo.b 0)]) O O O call76) (λw hw=>YL x bo (ms.getD j 0) (hv j Z).1 (hv j Z).2 w (DB hw 0 O lbo)) O (Ab O) (AE.nil (AC.subF (sL [0,1,7,8,5,16] O) (AC.then_ (AF.cond_false O (AF.skip ?_)))))
  refine AC.in_normal (AC.then_ (AF.region (AI (AY (c:=((j+1:Nat):Int)) O O (AX (a:=j) (b:=1) Z)) O (AR O (AE.nil ?_)))))
  exact AC.subF (sL [0,1,7,8,5] O) (AC.round1 (j+1) Z Z (sF O) sr)
 ·replace hc0:=of_decide_eq_false hc0
  refine AF.exit (AC.then_exit (AC.round1_exit (AC.in_exit (q2 (AO O ?_)))))
  exact AE.nil (AC.then_ (AF.ret (AT O (Ak (v:=(vI (-1:Int))) O) (λw hw=>⟨rfl,hw.out⟩))))
theorem WW {ps:List Pt} {ts ss:List T3} (x:MX ps ts ss) (bo:BX (Bk x)) (ms:List Int) (y:RX (zL ms) ms.length) (hml:ms.length<=1000000) (hv:∀j,j<ms.length->0<=ms.getD j 0/\ms.getD j 0<(ts.length:Int)) (w:World) {S:Nat->Prop} (hbo:Ro S w bo) (hy:Ro S w y):Calls prog 75 #[(Value.slice y.p ms.length y.c),(Value.func (.func 76) #[] #[(pP bo.b 0)])] w (Av w (Value.bool false)):=by
 have lbo:=EA (W:=w) hbo
 have ly:=EA (W:=w) hy
 refine BF (args:=[(Value.slice y.p ms.length y.c),(Value.func (.func 76) #[] #[(pP bo.b 0)])]) (L:=[AZ (some ⟨bo.b,0,none⟩) (Bk x),AZ y.p (zL ms)]) func75 O O (Ab O) (EB hbo (EB hy BR)) (AF.subF (sL [0,1] O) (q4 (AO O (AE.nil (q2 ?_)))))
 refine AR O (AR O (Ew call153 (λw hw=>Wc x bo ms y hml hv w (DB hw 0 O lbo) (DB hw 1 O ly)) O (AI (DD (c:=false) O O (by decide)) O (AO O (AE.nil ?_)))))
 exact AC.subF (sL [4] O) (AC.then_ (AF.ret (AT O (Ak (v:=(Value.bool false)) O) (λw hw=>⟨rfl,hw.out⟩))))
end
section
section
variable {N:Nat} {es:List E4} {T:T3}
theorem EO {k:P2} {n:Nat}:∀i,Ae (BE N es i) k=some n->∃j,j<i/\BY (es.getD j E0).a (es.getD j E0).b=k/\n=N+j
  | 0,h=>by cases h
  | i+1,h=>by
    have h:Ae (BU (BE N es i) (BY (es.getD i E0).a (es.getD i E0).b) (N+i)) k=some n:=h
    rw [Bw] at h
    split at h
    · rename_i e
      injection h with h
      exact ⟨i,Z,e.symm,h.symm⟩
    · obtain ⟨j,h1,h2,h3⟩:=EO i h
      exact ⟨j,Z,h2,h3⟩
theorem Sj {k k':P2} {n n' i:Nat} (h:Ae (BE N es i) k=some n) (h':Ae (BE N es i) k'=some n') (hk:k≠k'):n≠n':=λe=>by
  obtain ⟨j,_,h1,h2⟩:=EO i h
  obtain ⟨j',_,h1',h2'⟩:=EO i h'
  have:j=j':=by omega
  subst this
  exact hk (h1.symm.trans h1')
theorem Tf {a b c:Nat} (h1:a≠b) (h2:b≠c) (h3:c≠a):BY a b≠BY b c:=λe=>by
  unfold BY at e
  injection e with e1 e2
  omega
theorem Tq (a b:Nat):BY a b=BY b a:=by unfold BY;rw [Nat.min_comm,Nat.max_comm]
def Yv (M:Nat) (t:T3):Prop:=(t.1<M/\t.2.1<M/\t.2.2<M)/\t.1≠t.2.1/\t.2.1≠t.2.2/\t.2.2≠t.1
theorem ZK (hT:Yv N T) {t:T3} (ht:t∈CB (BE N es es.length) 2 T):Yv (N+es.length) t:=by
  obtain ⟨⟨a1,a2,a3⟩,d1,d2,d3⟩:=hT
  cases hb:Ae (BE N es es.length) (Bh T) with
  | none =>
    rw [Ep hb,List.mem_singleton] at ht
    subst ht
    exact ⟨⟨Z,Z,Z⟩,d1,d2,d3⟩
  | some n =>
    rw [E3 hb,List.mem_append] at ht
    obtain ⟨j,hj,hk,hn⟩:=EO _ hb
    have one:∀{c e:Nat},c<N->e<N->c≠e->BY c e≠Bh T->t∈CB (BE N es es.length) 1 (n,c,e)->Yv (N+es.length) t:=λ{c e} hc he hce hne hm=>by
      cases hb2:Ae (BE N es es.length) (Bh (n,c,e)) with
      | none =>
        rw [Ep hb2,List.mem_singleton] at hm
        subst hm
        exact ⟨⟨by show n<_;omega,by show c<_;omega,by show e<_;omega⟩,by show n≠c;omega,hce,by show e≠n;omega⟩
      | some n' =>
        rw [E3 hb2] at hm
        obtain ⟨j',hj',_,hn'⟩:=EO _ hb2
        have hnn:=Sj hb2 hb (show Bh (n,c,e)≠Bh T from hne)
        have hm:t=(n',n,c)\/t=(n',e,n):=by simpa [CB] using hm
        rcases hm with rfl|rfl
        · exact ⟨⟨by show n'<_;omega,by show n<_;omega,by show c<_;omega⟩,hnn,by show n≠c;omega,by show c≠n';omega⟩
        · exact ⟨⟨by show n'<_;omega,by show e<_;omega,by show n<_;omega⟩,by show n'≠e;omega,by show e≠n;omega,hnn.symm⟩
    rcases ht with ht|ht
    · exact one a1 a2 d1 (by unfold Bh;exact Tf d1 d2 d3) ht
    · exact one a3 a1 d3 (by unfold Bh;exact (Tf d2 d3 d1).symm) ht
theorem Qa {ss:List T3} (hb:∀j,j<ss.length->(ss.getD j (0,0,0)).1<N/\(ss.getD j (0,0,0)).2.1<N) (hd:∀i j,i<ss.length->j<ss.length->BY (ss.getD i (0,0,0)).1 (ss.getD i (0,0,0)).2.1=BY (ss.getD j (0,0,0)).1 (ss.getD j (0,0,0)).2.1->i=j) :
    ∀k,k<=ss.length->∀j,ss.length-k<=j->j<ss.length->Ae (FN N ss k) (BY (ss.getD j (0,0,0)).1 (ss.getD j (0,0,0)).2.1)=some (ss.getD j (0,0,0)).2.2
  | 0,_,j,h1,h2=>by omega
  | k+1,hk,j,h1,h2=>by
    rw [<-N2 (hb (ss.length-1-k) Z),Bw]
    split
    · rename_i e
      rw [hd _ _ h2 Z e]
    · rename_i e
      refine Qa hb hd k Z j ?_ h2
      rcases Nat.lt_or_ge j (ss.length-k) with h3|h3
      · exact absurd (by rw [show j=ss.length-1-k by omega]) e
      · exact h3
end
end
end Go.Proofs.YtfbomiejpbchdaaGreat
