import Derived.Test.YtfbomiejpbchdaaGreatPart06
import Derived.Test.YtfbomiejpbchdaaGreatPart20
import Derived.Test.YtfbomiejpbchdaaGreatPart24
import Derived.Test.YtfbomiejpbchdaaGreatPart33
import Derived.Test.YtfbomiejpbchdaaGreatPart37
namespace Go.Proofs.YtfbomiejpbchdaaGreat
open Go Go.RowKit Go.Proofs.Tryz
set_option linter.unusedVariables false
set_option linter.unusedSimpArgs false
section
set_option maxRecDepth 100000
theorem P_ (w:World):Calls prog 56 #[(vI 0),(vI 0)] w (Av w (aG (Aj (⟨0,0⟩:Pt)))):=by
 have h:=Jq 0 0 (by decide) (by decide) (by decide) (by decide) w
 rw [show (⟨((0:Int):Rat),((0:Int):Rat)⟩:Pt)=(⟨0,0⟩:Pt) from by decide +kernel] at h
 exact h
theorem P1 (w:World):Calls prog 56 #[(vI 1),(vI 0)] w (Av w (aG (Aj (⟨1,0⟩:Pt)))):=by
 have h:=Jq 1 0 (by decide) (by decide) (by decide) (by decide) w
 rw [show (⟨((1:Int):Rat),((0:Int):Rat)⟩:Pt)=(⟨1,0⟩:Pt) from by decide +kernel] at h
 exact h
theorem PP (w:World):Calls prog 56 #[(vI 1),(vI 1)] w (Av w (aG (Aj (⟨1,1⟩:Pt)))):=by
 have h:=Jq 1 1 (by decide) (by decide) (by decide) (by decide) w
 rw [show (⟨((1:Int):Rat),((1:Int):Rat)⟩:Pt)=(⟨1,1⟩:Pt) from by decide +kernel] at h
 exact h
theorem Pu (w:World):Calls prog 56 #[(vI 0),(vI 1)] w (Av w (aG (Aj (⟨0,1⟩:Pt)))):=by
 have h:=Jq 0 1 (by decide) (by decide) (by decide) (by decide) w
 rw [show (⟨((0:Int):Rat),((1:Int):Rat)⟩:Pt)=(⟨0,1⟩:Pt) from by decide +kernel] at h
 exact h
def Pk:List Pt:=[⟨0,0⟩,⟨1,0⟩,⟨1,1⟩,⟨0,1⟩]
def KO:List T3:=[(1,2,0),(3,0,2)]
def Lp:List Pt:=[⟨0,0⟩,⟨1,0⟩,⟨1,1⟩,⟨0,1⟩,⟨1/2,1/2⟩]
def C0:List T3:=[(4,1,2),(4,0,1),(4,3,0),(4,2,3)]
def Wu:List T3:=[(0,1,0),(0,3,0),(1,2,0),(2,3,0)]
def Zh:List Pt:=[⟨0,0⟩,⟨1,0⟩,⟨1,1⟩,⟨0,1⟩,⟨1/2,1/2⟩,⟨1,1/2⟩]
def Fp:List T3:=[(5,4,1),(5,2,4),(4,0,1),(4,3,0),(4,2,3)]
def ZJ:List T3:=[(0,1,0),(0,3,0),(1,5,0),(2,3,0),(2,5,0)]
theorem Xl:∀(l:List E4) (p:E4->Bool),l=(Bq KO).filter p->(∀e,p e=true↔IW KO (Ls KO [0]) (e.a,e.b))->l=(Bq KO).filter λe=>decide ((e.a,e.b)∈[((0,2):P2)]):=λl p h ha =>
 QF [((0,2):P2)] (by decide +kernel) (by decide +kernel) (λk hk=>.start ⟨0,List.mem_singleton.2 rfl,by decide,by decide,by rw [List.mem_singleton.1 hk];decide +kernel⟩) h ha
theorem X2:∀(l:List E4) (p:E4->Bool),l=(Bq C0).filter p->(∀e,p e=true↔IW C0 (Ls C0 [0]) (e.a,e.b))->l=(Bq C0).filter λe=>decide ((e.a,e.b)∈[((1,2):P2)]):=λl p h ha =>
 QF [((1,2):P2)] (by decide +kernel) (by decide +kernel) (λk hk=>.start ⟨0,List.mem_singleton.2 rfl,by decide,by decide,by rw [List.mem_singleton.1 hk];decide +kernel⟩) h ha
theorem XV {n:Nat} (hn:0<n):∀j,j<([0]:List Int).length->0<=([0]:List Int).getD j 0/\([0]:List Int).getD j 0<(n:Int):=λj hj=>by
 have e:j=0:=by simpa using hj
 subst e;exact ⟨by decide,by show (0:Int)<_;omega⟩
theorem Xq (x:MX Pk KO []) (y:RX (zL [0]) ([0]:List Int).length) (w:World) {S:Nat->Prop} (hx:Ro S w x) (hy:Ro S w y):Calls prog 28 #[(aG (Bk x)),y.val] w (Bb (VV Lp C0 Wu [0,0,1,1] 0) S w):=by
 refine (Ir x [0] y (by decide +kernel) (US (by decide +kernel) (by decide +kernel)) (by decide) (by decide) (XV (by decide)) (by decide +kernel) w hx hy).mono λe w' h=>?_
 have h:=Tt _ h Xl
 generalize hl:(Bq KO).filter (λe=>decide ((e.a,e.b)∈[((0,2):P2)]))=l at h
 have hl:l=[⟨0,2,1,0⟩]:=by rw [<-hl];decide +kernel
 subst hl
 rw [show Dn Pk [⟨0,2,1,0⟩]=Lp from by decide +kernel,show Et (BE Pk.length [⟨0,2,1,0⟩] ([⟨0,2,1,0⟩]:List E4).length) KO=C0 from by decide +kernel,show IA Pk.length [] [⟨0,2,1,0⟩] C0=Wu from by decide +kernel,show Bp (BE Pk.length [⟨0,2,1,0⟩] ([⟨0,2,1,0⟩]:List E4).length) KO KO.length=[0,0,1,1] from by decide +kernel] at h
 exact h
theorem YV (x:MX Lp C0 Wu) (y:RX (zL [0]) ([0]:List Int).length) (w:World) {S:Nat->Prop} (hx:Ro S w x) (hy:Ro S w y):Calls prog 28 #[(aG (Bk x)),y.val] w (Bb (VV Zh Fp ZJ [0,0,1,2,3] 0) S w):=by
 refine (Ir x [0] y (by decide +kernel) (US (by decide +kernel) (by decide +kernel)) (by decide) (by decide) (XV (by decide)) (by decide +kernel) w hx hy).mono λe w' h=>?_
 have h:=Tt _ h X2
 generalize hl:(Bq C0).filter (λe=>decide ((e.a,e.b)∈[((1,2):P2)]))=l at h
 have hl:l=[⟨1,2,0,-1⟩]:=by rw [<-hl];decide +kernel
 subst hl
 rw [show Dn Lp [⟨1,2,0,-1⟩]=Zh from by decide +kernel,show Et (BE Lp.length [⟨1,2,0,-1⟩] ([⟨1,2,0,-1⟩]:List E4).length) C0=Fp from by decide +kernel,show IA Lp.length Wu [⟨1,2,0,-1⟩] Fp=ZJ from by decide +kernel,show Bp (BE Lp.length [⟨1,2,0,-1⟩] ([⟨1,2,0,-1⟩]:List E4).length) C0 C0.length=[0,0,1,2,3] from by decide +kernel] at h
 exact h
theorem KP (x0 x1 x2 x3:Pt):Instr.fill (λi=>some (i*10,10)) ((Array.range (4*10)).map ((Value.agg (Aj (⟨0,0⟩:Pt)).toArray).cells[·%(Value.agg (Aj (⟨0,0⟩:Pt)).toArray).cells.size]!)) [(0,.agg (Aj x0).toArray),(1,.agg (Aj x1).toArray),(2,.agg (Aj x2).toArray),(3,.agg (Aj x3).toArray)]=some (Aj x0++Aj x1++Aj x2++Aj x3).toArray:=by kernel_rfl
theorem CM (x0 x1 x2:Nat):Instr.fill (λi=>some (i*1,1)) (An ((0,0,0):Nat×Nat×Nat)).toArray [(0,vN x0),(1,vN x1),(2,vN x2)]=some (An (x0,x1,x2)).toArray:=by kernel_rfl
theorem Kt (x0 x1:Nat×Nat×Nat):Instr.fill (λi=>some (i*3,3)) ((Array.range (2*3)).map ((Value.agg (An ((0,0,0):Nat×Nat×Nat)).toArray).cells[·%(Value.agg (An ((0,0,0):Nat×Nat×Nat)).toArray).cells.size]!)) [(0,.agg (An x0).toArray),(1,.agg (An x1).toArray)]=some (An x0++An x1).toArray:=by kernel_rfl
set_option maxHeartbeats 1000000 in
theorem K9  (w:World)  :Calls prog 27 #[] w (Av w (Value.bool true)):=by
 refine Ag (args:=[]) func27 O O (Ab O) (AF.subF sN (q4 (AO O (AE.nil (q2 ?_)))))
 refine BW call56 (P_) O (BW call56 (P1) O (BW call56 (PP) O (BW call56 (Pu) O (AE.openV (V:=λb1=>(Value.slice (some ⟨b1,0,none⟩) 4 4)) (T:=55) (cs:=Aj (⟨0,0⟩:Pt)++Aj (⟨1,0⟩:Pt)++Aj (⟨1,1⟩:Pt)++Aj (⟨0,1⟩:Pt)) (AM O) (Ap (z:=.agg (Aj (⟨0,0⟩:Pt)).toArray) (cs:=Aj (⟨0,0⟩:Pt)++Aj (⟨1,0⟩:Pt)++Aj (⟨1,1⟩:Pt)++Aj (⟨0,1⟩:Pt)) (pv:=[(0,(aG (Aj (⟨0,0⟩:Pt)))),(1,(aG (Aj (⟨1,0⟩:Pt)))),(2,(aG (Aj (⟨1,1⟩:Pt)))),(3,(aG (Aj (⟨0,1⟩:Pt))))]) underlying27 sizeOf55 zeroValue55 (by decide) (by decide) O (KP (⟨0,0⟩:Pt) (⟨1,0⟩:Pt) (⟨1,1⟩:Pt) (⟨0,1⟩:Pt))) O (Ab O) λb1=>AI (v:=(aG (An (1,2,0)))) (Ao (zs:=An ((0,0,0):Nat×Nat×Nat)) (vs:=An (1,2,0)) (pv:=[(0,(vI 1)),(1,(vI 2)),(2,(vI 0))]) zeroValue76 underlying76 sizeOf3 O (CM 1 2 0)) O ?_))))
 refine AI (v:=(aG (An (3,0,2)))) (Ao (zs:=An ((0,0,0):Nat×Nat×Nat)) (vs:=An (3,0,2)) (pv:=[(0,(vI 3)),(1,(vI 0)),(2,(vI 2))]) zeroValue76 underlying76 sizeOf3 O (CM 3 0 2)) O (AE.openV (V:=λb2=>(Value.slice (some ⟨b2,0,none⟩) 2 2)) (T:=76) (cs:=An (1,2,0)++An (3,0,2)) (AM O) (Ap (z:=.agg (An ((0,0,0):Nat×Nat×Nat)).toArray) (cs:=An (1,2,0)++An (3,0,2)) (pv:=[(0,(aG (An (1,2,0)))),(1,(aG (An (3,0,2))))]) underlying28 sizeOf76 zeroValue76 (by decide) (by decide) O (Kt (1,2,0) (3,0,2))) O (Ab O) λb2=>AI (v:=(aG ([(Value.slice (some ⟨b1,0,none⟩) 4 4),(Value.slice (some ⟨b2,0,none⟩) 2 2),(Value.slice none 0 0)]))) (Ad (zs:=[(Value.slice none 0 0),(Value.slice none 0 0),(Value.slice none 0 0)]) (vs:=[(Value.slice (some ⟨b1,0,none⟩) 4 4),(Value.slice (some ⟨b2,0,none⟩) 2 2),(Value.slice none 0 0)]) (pv:=[(0,(Value.slice (some ⟨b1,0,none⟩) 4 4)),(1,(Value.slice (some ⟨b2,0,none⟩) 2 2))]) (places:=[(0,1),(1,1),(2,1)]) zeroValue31 underlying31 (λw=>by simp [sizeOf27,sizeOf28,sizeOf29]) O O) O (al Le O λb3=>Aq O sizeOf31 O (AE.litM2 (S:=λ_=>False) (ps:=Pk) (ts:=KO) (λmm=>[AZ mm.c.p (rowsL An ([]:List T3)),Af b3 31 (Bk mm),AZ mm.b.p (rowsL An KO),AZ mm.a.p (rowsL Aj Pk)]) 2 1 (by decide) O O O O O λmm hmm=>?_)))
 refine q3 (sL [0,1] O) (A6 1 C9 O (AE.openV (V:=λb4=>(Value.slice (some ⟨b4,0,none⟩) 1 1)) (T:=3) (cs:=zL [0]) (AM O) (Ap (cs:=zL [0]) (pv:=[(0,(vI 0))]) underlying33 sizeOf3 zeroValue3 (by decide) (by decide) O (by kernel_rfl)) O (Ab O) λb4=>AE.asRow0 (z:=1) 1 O Z λho_b4=>AE.frzRow 0 O ho_b4 O O O λhn_b4=>aa (S:=λ_=>False) (args:=[(aG (Bk mm)),(Value.slice (some ⟨b4,0,none⟩) 1 1)]) call28 (λw hw=>Xq mm ⟨(some ⟨b4,0,none⟩),1,ho_b4.row⟩ w (aj hw [4,3,1] O hmm) (DB hw 0 O (At.new hn_b4))) O λr1x hmr1x hqr1x=>?_))
 refine AR O (AI (AU (v:=(aG (Bk r1x.m))) O O) O (AI (AU (v:=(Value.slice r1x.q.p 4 r1x.q.c)) O O) O (AI (AU (v:=(vI 0)) O O) O (al Le O λb5=>Aq O sizeOf31 O ?_))))
 refine AO O (AO O (q3 (sL [0,1,2,3,4] O) (A6 0 C9 O (AE.openV (V:=λb6=>(Value.slice (some ⟨b6,0,none⟩) 1 1)) (T:=3) (cs:=zL [0]) (AM O) (Ap (cs:=zL [0]) (pv:=[(0,(vI 0))]) underlying33 sizeOf3 zeroValue3 (by decide) (by decide) O (by kernel_rfl)) O (Ab O) λb6=>AE.asRow0 (z:=1) 1 O Z λho_b6=>?_))))
 refine AE.frzRow 0 O ho_b6 O O O λhn_b6=>aa (S:=λ_=>False) (args:=[(aG (Bk r1x.m)),(Value.slice (some ⟨b6,0,none⟩) 1 1)]) call28 (λw hw=>YV r1x.m ⟨(some ⟨b6,0,none⟩),1,ho_b6.row⟩ w (DB hw 2 O hmr1x) (DB hw 0 O (At.new hn_b6))) O λr2x hmr2x hqr2x=>AR O (AI (AU (v:=(aG (Bk r2x.m))) O O) O (AI (AU (v:=(Value.slice r2x.q.p 5 r2x.q.c)) O O) O (AI (AU (v:=(vI 0)) O O) O ?_)))
 refine al Le O λb7=>Aq O sizeOf31 O (AO O (AO O (q6 (sL [0,1,2,3,4,5,6,7] O) (q4 ?_))))
 refine AR O (AI (CL (c:=false) O O (by decide)) O (AR O (AE.step (v:=(vI 0)) (AB O) (BA O) O (Ab O) (AE.step (v:=(Value.bool false)) (AB O) (CL (c:=false) O O (by decide)) O (Ab O) (AI (v:=(Value.bool false)) (AS O O) O ?_)))))
 refine AR O (AE.step (v:=(pP b5 1)) (AB O) (AA O underlying31 O sizeOf28 O) O (Ab O) (AE.step (v:=(Value.slice r1x.m.b.p C0.length r1x.m.b.c)) (AB O) (AK (i:=6) (v:=(Value.slice r1x.m.b.p C0.length r1x.m.b.c)) O O CR.a O) O (Ab O) (AE.step (v:=(vN C0.length)) (AB O) (AG O underlying28) O (Ab O) (AE.step (v:=(Value.bool false)) (AB O) (CL (c:=false) O O (by decide)) O (Ab O) (AI (v:=(Value.bool false)) (AS O O) O ?_)))))
 refine AR O (AE.step (v:=(pP b5 0)) (AB O) (AA O underlying31 O sizeOf27 O) O (Ab O) (AE.step (v:=(Value.slice r1x.m.a.p Lp.length r1x.m.a.c)) (AB O) (AK (i:=6) (v:=(Value.slice r1x.m.a.p Lp.length r1x.m.a.c)) O O Du.a O) O (Ab O) (AE.step (v:=(vN Lp.length)) (AB O) (AG O underlying27) O (Ab O) (AE.step (v:=(Value.bool false)) (AB O) (CL (c:=false) O O (by decide)) O (Ab O) (AI (v:=(Value.bool false)) (AS O O) O ?_)))))
 refine AR O (AE.step (v:=(Value.slice r1x.q.p 4 r1x.q.c)) (AB O) (BA O) O (Ab O) (AE.step (v:=(vI 4)) (AB O) (AG O underlying33) O (Ab O) (AE.step (v:=(Value.bool false)) (AB O) (CL (c:=false) O O (by decide)) O (Ab O) (AI (v:=(Value.bool false)) (AS O O) O (AR O ?_)))))
 refine AE.step (v:=(pP b7 1)) (AB O) (AA O underlying31 O sizeOf28 O) O (Ab O) (AE.step (v:=(Value.slice r2x.m.b.p Fp.length r2x.m.b.c)) (AB O) (AK (i:=0) (v:=(Value.slice r2x.m.b.p Fp.length r2x.m.b.c)) O O CR.a O) O (Ab O) (AE.step (v:=(vN Fp.length)) (AB O) (AG O underlying28) O (Ab O) (AE.step (v:=(Value.bool false)) (AB O) (CL (c:=false) O O (by decide)) O (Ab O) (AI (v:=(Value.bool false)) (AS O O) O (AR O ?_)))))
 refine AE.step (v:=(Value.slice r2x.q.p 5 r2x.q.c)) (AB O) (BA O) O (Ab O) (AE.step (v:=(vI 5)) (AB O) (AG O underlying33) O (Ab O) (AE.step (v:=(Value.bool false)) (AB O) (CL (c:=false) O O (by decide)) O (Ab O) (AI (v:=(Value.bool false)) (AS O O) O (AE.nil (AC.subF (sL [0,1,2,3,5,6,65] O) ?_)))))
 refine AC.then_ (AF.cond_false O (AF.skip (q2 (AI (v:=(pP b5 1)) (AA O underlying31 O sizeOf28 O) O (BK 6 (Value.slice r1x.m.b.p C0.length r1x.m.b.c) CR O ?_)))))
 refine AI (v:=(pP (pB r1x.m.b.p) (pO r1x.m.b.p+0*3))) (AQ (j:=0) O O r1x.m.b.ok underlying28 sizeOf76 O (by decide)) O (AI (v:=(aG (An (C0.getD 0 ((0,0,0):Nat×Nat×Nat))))) (AW (vs:=An (C0.getD 0 ((0,0,0):Nat×Nat×Nat))) (i:=8) O O (BQ.ne r1x.m.b.ok (by decide)) Ej (Aw Ar _ _ _ (by decide)) (Ar _)) O (AI (v:=(aG (An (4,1,2)))) (Ao (zs:=An ((0,0,0):Nat×Nat×Nat)) (vs:=An (4,1,2)) (pv:=[(0,(vI 4)),(1,(vI 1)),(2,(vI 2))]) zeroValue76 underlying76 sizeOf3 O (CM 4 1 2)) O (AI (Bt (c:=true) O O eqGuardType76 (FJ (a:=C0.getD 0 ((0,0,0):Nat×Nat×Nat)) (b:=(4,1,2)) 9998 O)) O (AR O (AE.step (v:=(pP b5 1)) (AB O) (AA O underlying31 O sizeOf28 O) O (Ab O) ?_)))))
 refine AE.step (v:=(Value.slice r1x.m.b.p C0.length r1x.m.b.c)) (AB O) (AK (i:=6) (v:=(Value.slice r1x.m.b.p C0.length r1x.m.b.c)) O O CR.a O) O (Ab O) (AE.step (v:=(pP (pB r1x.m.b.p) (pO r1x.m.b.p+1*3))) (AB O) (AQ (j:=1) O O r1x.m.b.ok underlying28 sizeOf76 O (by decide)) O (Ab O) (AE.step (v:=(aG (An (C0.getD 1 ((0,0,0):Nat×Nat×Nat))))) (AB O) (AW (vs:=An (C0.getD 1 ((0,0,0):Nat×Nat×Nat))) (i:=8) O O (BQ.ne r1x.m.b.ok (by decide)) Ej (Aw Ar _ _ _ (by decide)) (Ar _)) O (Ab O) (AE.step (v:=(aG (An (4,0,1)))) (AB O) (Ao (zs:=An ((0,0,0):Nat×Nat×Nat)) (vs:=An (4,0,1)) (pv:=[(0,(vI 4)),(1,(vI 0)),(2,(vI 1))]) zeroValue76 underlying76 sizeOf3 O (CM 4 0 1)) O (Ab O) (AE.step (v:=(Value.bool true)) (AB O) (Bt (c:=true) O O eqGuardType76 (FJ (a:=C0.getD 1 ((0,0,0):Nat×Nat×Nat)) (b:=(4,0,1)) 9998 O)) O (Ab O) (AI (v:=(Value.bool true)) (Ah O O) O ?_)))))
 refine AR O (AE.step (v:=(pP b5 1)) (AB O) (AA O underlying31 O sizeOf28 O) O (Ab O) (AE.step (v:=(Value.slice r1x.m.b.p C0.length r1x.m.b.c)) (AB O) (AK (i:=6) (v:=(Value.slice r1x.m.b.p C0.length r1x.m.b.c)) O O CR.a O) O (Ab O) (AE.step (v:=(pP (pB r1x.m.b.p) (pO r1x.m.b.p+2*3))) (AB O) (AQ (j:=2) O O r1x.m.b.ok underlying28 sizeOf76 O (by decide)) O (Ab O) (AE.step (v:=(aG (An (C0.getD 2 ((0,0,0):Nat×Nat×Nat))))) (AB O) (AW (vs:=An (C0.getD 2 ((0,0,0):Nat×Nat×Nat))) (i:=8) O O (BQ.ne r1x.m.b.ok (by decide)) Ej (Aw Ar _ _ _ (by decide)) (Ar _)) O (Ab O) (AE.step (v:=(aG (An (4,3,0)))) (AB O) (Ao (zs:=An ((0,0,0):Nat×Nat×Nat)) (vs:=An (4,3,0)) (pv:=[(0,(vI 4)),(1,(vI 3)),(2,(vI 0))]) zeroValue76 underlying76 sizeOf3 O (CM 4 3 0)) O (Ab O) ?_)))))
 refine AE.step (v:=(Value.bool true)) (AB O) (Bt (c:=true) O O eqGuardType76 (FJ (a:=C0.getD 2 ((0,0,0):Nat×Nat×Nat)) (b:=(4,3,0)) 9998 O)) O (Ab O) (AI (v:=(Value.bool true)) (Ah O O) O (AR O (AE.step (v:=(pP b5 1)) (AB O) (AA O underlying31 O sizeOf28 O) O (Ab O) (AE.step (v:=(Value.slice r1x.m.b.p C0.length r1x.m.b.c)) (AB O) (AK (i:=6) (v:=(Value.slice r1x.m.b.p C0.length r1x.m.b.c)) O O CR.a O) O (Ab O) (AE.step (v:=(pP (pB r1x.m.b.p) (pO r1x.m.b.p+3*3))) (AB O) (AQ (j:=3) O O r1x.m.b.ok underlying28 sizeOf76 O (by decide)) O (Ab O) ?_)))))
 refine AE.step (v:=(aG (An (C0.getD 3 ((0,0,0):Nat×Nat×Nat))))) (AB O) (AW (vs:=An (C0.getD 3 ((0,0,0):Nat×Nat×Nat))) (i:=8) O O (BQ.ne r1x.m.b.ok (by decide)) Ej (Aw Ar _ _ _ (by decide)) (Ar _)) O (Ab O) (AE.step (v:=(aG (An (4,2,3)))) (AB O) (Ao (zs:=An ((0,0,0):Nat×Nat×Nat)) (vs:=An (4,2,3)) (pv:=[(0,(vI 4)),(1,(vI 2)),(2,(vI 3))]) zeroValue76 underlying76 sizeOf3 O (CM 4 2 3)) O (Ab O) (AE.step (v:=(Value.bool true)) (AB O) (Bt (c:=true) O O eqGuardType76 (FJ (a:=C0.getD 3 ((0,0,0):Nat×Nat×Nat)) (b:=(4,2,3)) 9998 O)) O (Ab O) (AI (v:=(Value.bool true)) (Ah O O) O (AR O (AE.step (v:=(Value.slice r1x.q.p 4 r1x.q.c)) (AB O) (BA O) O (Ab O) ?_)))))
 refine AE.step (v:=(pP (pB r1x.q.p) (pO r1x.q.p+1*1))) (AB O) (AQ (j:=1) O O r1x.q.ok underlying33 sizeOf3 O (by decide)) O (Ab O) (AE.step (v:=(vN (([0,0,1,1]).getD 1 0))) (AB O) (Ai (v:=(vN (([0,0,1,1]).getD 1 0))) (i:=10) O O (r1x.q.ok.ne (by decide)) Bm (Co (l:=[0,0,1,1]) (j:=1) (by decide))) O (Ab O) (AE.step (v:=(Value.bool true)) (AB O) (BS (c:=true) O O (by decide)) O (Ab O) (AI (v:=(Value.bool true)) (Ah O O) O (AR O (AE.step (v:=(Value.slice r1x.q.p 4 r1x.q.c)) (AB O) (BA O) O (Ab O) ?_)))))
 refine AE.step (v:=(pP (pB r1x.q.p) (pO r1x.q.p+2*1))) (AB O) (AQ (j:=2) O O r1x.q.ok underlying33 sizeOf3 O (by decide)) O (Ab O) (AE.step (v:=(vN (([0,0,1,1]).getD 2 0))) (AB O) (Ai (v:=(vN (([0,0,1,1]).getD 2 0))) (i:=10) O O (r1x.q.ok.ne (by decide)) Bm (Co (l:=[0,0,1,1]) (j:=2) (by decide))) O (Ab O) (AE.step (v:=(Value.bool true)) (AB O) (BS (c:=true) O O (by decide)) O (Ab O) (AI (v:=(Value.bool true)) (Ah O O) O (AO O (q6 (sL [0,1,2,3,5,6,8] O) ?_)))))
 refine Cu [(0,true),(1,true),(2,true),(3,true),(4,true),(5,true),(6,true),(7,true),(8,true),(9,true),(10,true),(11,true),(12,true),(13,true),(14,true),(15,true),(16,true),(17,true),(18,true),(19,true),(20,true),(21,true),(22,true),(23,true),(24,true),(25,true),(26,true),(27,true),(28,true),(29,true),(30,true),(31,true),(32,true),(33,true),(34,true)] sr (Bf O (Bf O (AV.pas (v:=(pP b7 1)) O (AB O) (AA O underlying31 O sizeOf28 O) O O (AV.pas (v:=(Value.slice r2x.m.b.p Fp.length r2x.m.b.c)) O (AB O) (AK (i:=0) (v:=(Value.slice r2x.m.b.p Fp.length r2x.m.b.c)) O O CR.a O) O O (AV.pas (v:=(pP (pB r2x.m.b.p) (pO r2x.m.b.p+0*3))) O (AB O) (AQ (j:=0) O O r2x.m.b.ok underlying28 sizeOf76 O (by decide)) O O ?_)))))
 refine AV.pas (v:=(aG (An (Fp.getD 0 ((0,0,0):Nat×Nat×Nat))))) O (AB O) (AW (vs:=An (Fp.getD 0 ((0,0,0):Nat×Nat×Nat))) (i:=2) O O (BQ.ne r2x.m.b.ok (by decide)) Ej (Aw Ar _ _ _ (by decide)) (Ar _)) O O (AV.pas (v:=(aG (An (5,4,1)))) O (AB O) (Ao (zs:=An ((0,0,0):Nat×Nat×Nat)) (vs:=An (5,4,1)) (pv:=[(0,(vI 5)),(1,(vI 4)),(2,(vI 1))]) zeroValue76 underlying76 sizeOf3 O (CM 5 4 1)) O O (AV.pas (v:=(Value.bool true)) O (AB O) (Bt (c:=true) O O eqGuardType76 (FJ (a:=Fp.getD 0 ((0,0,0):Nat×Nat×Nat)) (b:=(5,4,1)) 9998 O)) O O (Ax (v:=(Value.bool true)) O (Ah O O) (Bf O (AV.pas (v:=(pP b7 1)) O (AB O) (AA O underlying31 O sizeOf28 O) O O ?_)))))
 refine AV.pas (v:=(Value.slice r2x.m.b.p Fp.length r2x.m.b.c)) O (AB O) (AK (i:=0) (v:=(Value.slice r2x.m.b.p Fp.length r2x.m.b.c)) O O CR.a O) O O (AV.pas (v:=(pP (pB r2x.m.b.p) (pO r2x.m.b.p+1*3))) O (AB O) (AQ (j:=1) O O r2x.m.b.ok underlying28 sizeOf76 O (by decide)) O O (AV.pas (v:=(aG (An (Fp.getD 1 ((0,0,0):Nat×Nat×Nat))))) O (AB O) (AW (vs:=An (Fp.getD 1 ((0,0,0):Nat×Nat×Nat))) (i:=2) O O (BQ.ne r2x.m.b.ok (by decide)) Ej (Aw Ar _ _ _ (by decide)) (Ar _)) O O (AV.pas (v:=(aG (An (5,2,4)))) O (AB O) (Ao (zs:=An ((0,0,0):Nat×Nat×Nat)) (vs:=An (5,2,4)) (pv:=[(0,(vI 5)),(1,(vI 2)),(2,(vI 4))]) zeroValue76 underlying76 sizeOf3 O (CM 5 2 4)) O O (AV.pas (v:=(Value.bool true)) O (AB O) (Bt (c:=true) O O eqGuardType76 (FJ (a:=Fp.getD 1 ((0,0,0):Nat×Nat×Nat)) (b:=(5,2,4)) 9998 O)) O O (Ax (v:=(Value.bool true)) O (Ah O O) ?_)))))
 refine Bf O (AV.pas (v:=(pP b7 1)) O (AB O) (AA O underlying31 O sizeOf28 O) O O (AV.pas (v:=(Value.slice r2x.m.b.p Fp.length r2x.m.b.c)) O (AB O) (AK (i:=0) (v:=(Value.slice r2x.m.b.p Fp.length r2x.m.b.c)) O O CR.a O) O O (AV.pas (v:=(pP (pB r2x.m.b.p) (pO r2x.m.b.p+2*3))) O (AB O) (AQ (j:=2) O O r2x.m.b.ok underlying28 sizeOf76 O (by decide)) O O (AV.pas (v:=(aG (An (Fp.getD 2 ((0,0,0):Nat×Nat×Nat))))) O (AB O) (AW (vs:=An (Fp.getD 2 ((0,0,0):Nat×Nat×Nat))) (i:=2) O O (BQ.ne r2x.m.b.ok (by decide)) Ej (Aw Ar _ _ _ (by decide)) (Ar _)) O O (AV.pas (v:=(pP b5 1)) O (AB O) (AA O underlying31 O sizeOf28 O) O O ?_)))))
 refine AV.pas (v:=(Value.slice r1x.m.b.p C0.length r1x.m.b.c)) O (AB O) (AK (i:=6) (v:=(Value.slice r1x.m.b.p C0.length r1x.m.b.c)) O O CR.a O) O O (AV.pas (v:=(pP (pB r1x.m.b.p) (pO r1x.m.b.p+1*3))) O (AB O) (AQ (j:=1) O O r1x.m.b.ok underlying28 sizeOf76 O (by decide)) O O (AV.pas (v:=(aG (An (C0.getD 1 ((0,0,0):Nat×Nat×Nat))))) O (AB O) (AW (vs:=An (C0.getD 1 ((0,0,0):Nat×Nat×Nat))) (i:=8) O O (BQ.ne r1x.m.b.ok (by decide)) Ej (Aw Ar _ _ _ (by decide)) (Ar _)) O O (AV.pas (v:=(Value.bool true)) O (AB O) (Bt (c:=true) O O eqGuardType76 (FJ (a:=Fp.getD 2 ((0,0,0):Nat×Nat×Nat)) (b:=C0.getD 1 ((0,0,0):Nat×Nat×Nat)) 9998 O)) O O (Ax (v:=(Value.bool true)) O (Ah O O) (Bf O ?_)))))
 refine AV.pas (v:=(Value.slice r2x.q.p 5 r2x.q.c)) O (AB O) (BA O) O O (AV.pas (v:=(pP (pB r2x.q.p) (pO r2x.q.p+4*1))) O (AB O) (AQ (j:=4) O O r2x.q.ok underlying33 sizeOf3 O (by decide)) O O (AV.pas (v:=(vN (([0,0,1,2,3]).getD 4 0))) O (AB O) (Ai (v:=(vN (([0,0,1,2,3]).getD 4 0))) (i:=4) O O (r2x.q.ok.ne (by decide)) Bm (Co (l:=[0,0,1,2,3]) (j:=4) (by decide))) O O (AV.pas (v:=(Value.bool true)) O (AB O) (BS (c:=true) O O (by decide)) O O (Ax (v:=(Value.bool true)) O (Ah O O) (Ev O ?_)))))
 exact AV.nil (AC.subF (sL [0,1,2,3,5,6] O) (AC.then_ (AF.ret (AT O (Ak (v:=(Value.bool true)) O) (λw hw=>⟨rfl,hw.out⟩)))))
end
def PY (p q:Pt):Prop:=p.x<q.x\/(p.x=q.x/\p.y<q.y)
instance (p q:Pt):Decidable (PY p q):=by unfold PY;infer_instance
def ao (a b:Pt):Pt:=if PY b a then b else a
def ae (a b:Pt):Pt:=if PY a b then b else a
theorem Yo {p q:Pt} (h:G1 p.x q.x≠0):decide (G1 p.x q.x<0)=decide (PY p q):=by
  have h2:¬p.x=q.x:=λe=>h (QX.2 e)
  refine decide_eq_decide.2 ⟨λk=>.inl (Jk.1 k),λk=>?_⟩
  rcases k with k|k
  · exact Jk.2 k
  · exact absurd k.1 h2
theorem Xv {p q:Pt} (h:G1 p.x q.x=0):decide (G1 p.y q.y<0)=decide (PY p q):=by
  have h2:p.x=q.x:=QX.1 h
  refine decide_eq_decide.2 ⟨λk=>.inr ⟨h2,Jk.1 k⟩,λk=>?_⟩
  rcases k with k|k
  · rw [h2] at k;exact absurd k (by grind)
  · exact Jk.2 k.2
def m7 (m:MQ) (k:Nat):List Nat:=(m.cs.take k).map (·%7)
section
set_option maxRecDepth 100000
theorem L0 (p q:Pt) (hp:B5 p<=1000) (hq:B5 q<=1000) (w:World)  :Calls prog 53 #[(aG (Aj p)),(aG (Aj q))] w (Av w (Value.bool (decide (PY p q)))):=by
 have y1:=Es p
 have y2:=Es q
 have y3:=Ey p
 have y4:=Ey q
 refine Ag (args:=[(aG (Aj p)),(aG (Aj q))]) func53 O O (Ab O) (AF.subF (sL [0,1] O) (q4 (Bo (cs:=Aj p) O λb1=>Bo (cs:=Aj q) O λb2=>AO O ?_)))
 refine q6 (sL [2,3,4] O) (q4 (AI (v:=(pP b1 0)) (AA O underlying55 O sizeOf53 O) O (EX 1 (AH p.x) BP O (AI (v:=(pP b2 0)) (AA O underlying55 O sizeOf53 O) O (EX 0 (AH q.x) BP O ?_)))))
 refine BW call33 (QM p.x q.x Z) O (AO O (q3 (sL [2,3,4,5] O) (AR O (AI (CL (c:=(decide ((G1 p.x q.x)≠(0:Int)))) O O O) O (AE.nil ?_)))))
 refine AC.subF (sL [2,3,4,5,12] O) (AC.then_ ?_)
 refine AF.cond O (λhc0=>?_) (λhc0=>?_)
 ·replace hc0:=of_decide_eq_true hc0
  refine q4 (AR O (AI (Am (c:=(decide ((G1 p.x q.x)<(0:Int)))) O O O) O (AO O (AE.nil (AC.subF (sL [2,3,4,5] O) ?_)))))
  exact AC.then_ (AF.ret (AC.then_ret (AT O (Ak (v:=(Value.bool (decide ((G1 p.x q.x)<(0:Int))))) O) (λw hw=>⟨by rw [Yo hc0],hw.out⟩))))
 ·replace hc0:=of_decide_eq_false hc0
  refine AF.skip (q2 (AI (v:=(pP b1 5)) (AA O underlying55 O sizeOf53 O) O (EX 1 (AH p.y) BP O (AI (v:=(pP b2 5)) (AA O underlying55 O sizeOf53 O) O (EX 0 (AH q.y) BP O ?_)))))
  refine BW call33 (QM p.y q.y Z) O (AI (Am (c:=(decide ((G1 p.y q.y)<(0:Int)))) O O O) O (AO O (AE.nil (AC.subF (sL [2,3,4,5] O) (AC.then_ ?_)))))
  exact AF.ret (AT O (Ak (v:=(Value.bool (decide ((G1 p.y q.y)<(0:Int))))) O) (λw hw=>⟨by rw [Xv (Decidable.not_not.1 hc0)],hw.out⟩))
end
abbrev T2:=P2×P2×P2
def Zm (A B:P2) (X Y:Nat):Int:=((B.1:Int)-A.1)*((Y:Int)-2*A.2)-((B.2:Int)-A.2)*((X:Int)-2*A.1)
def Y6 (t:T2) (X Y:Nat):Bool:=decide (0<=Zm t.2.1 t.2.2 X Y)&&decide (0<=Zm t.2.2 t.1 X Y)&&decide (0<=Zm t.1 t.2.1 X Y)
def KC (t:T2) (q:P2):Bool:=t.1 == q||t.2.1 == q||t.2.2 == q
def RA (u v c:Nat):List T2 :=
  let x:=2*u;let y:=2*v
  if c=0 then [((x,y),(x+2,y),(x+2,y+2)),((x,y),(x+2,y+2),(x,y+2))]
  else if c=1 then [((x,y),(x+2,y),(x,y+2)),((x+2,y),(x+2,y+2),(x,y+2))]
  else if c=2 then [((x,y),(x+2,y),(x+1,y+1)),((x+2,y),(x+2,y+2),(x+1,y+1)),((x+2,y+2),(x,y+2),(x+1,y+1)),((x,y+2),(x,y),(x+1,y+1))] else []
def Wp (way i:Nat):Nat:=if way<3\/(way=7/\i=0) then 0 else if way<5 then 1 else if way<7 then 2 else 3
theorem Mi (nx way i:Nat):Cp nx way i=RA (i%nx) (i/nx) (Wp way i):=by
  unfold Cp RA Wp
  simp only
  split
  · rfl
  · split
    · rfl
    · split<;>rfl
theorem J5 (way i:Nat):Wp way i<4:=by
  unfold Wp
  split
  · omega
  · split
    · omega
    · split<;>omega
def NB (s t:T2):Bool :=
  [s.1,s.2.1,s.2.2].all (λq=>!Y6 t (2*q.1) (2*q.2)||KC t q) &&
  [(s.1,s.2.1),(s.2.1,s.2.2),(s.2.2,s.1)].all (λe=>!Y6 t (e.1.1+e.2.1) (e.1.2+e.2.2)||(KC t e.1&&KC t e.2))
def Gz:List (Nat×Nat×Nat):=[0,1,2].flatMap λu=>[0,1,2].flatMap λv=>[0,1,2,3].map λc=>(u,v,c)
def Y_:Bool:=Gz.all λp=>Gz.all λq=>(decide (p.1=q.1/\p.2.1=q.2.1/\p.2.2≠q.2.2))||(RA p.1 p.2.1 p.2.2).all λs=>(RA q.1 q.2.1 q.2.2).all λt=>NB s t
theorem PV:Y_=true:=by decide +kernel
theorem E9 {u v c:Nat} (hu:u<=2) (hv:v<=2) (hc:c<4):(u,v,c)∈Gz:=by
  have h1:u=0\/u=1\/u=2:=by omega
  have h2:v=0\/v=1\/v=2:=by omega
  have h3:c=0\/c=1\/c=2\/c=3:=by omega
  rcases h1 with rfl|rfl|rfl<;>rcases h2 with rfl|rfl|rfl<;>rcases h3 with rfl|rfl|rfl|rfl<;>decide
theorem Qo {m:MQ} {s t:T2} (hs:s∈BD m) (ht:t∈BD m):NB s t=true:=by
  obtain ⟨i,hi,h1⟩:=EM m _ s hs
  obtain ⟨j,hj,h2⟩:=EM m _ t ht
  have hx:=I6 m
  have hy:=Ie m
  have b:∀k,k<GD m*Rm m->k%GD m<=2/\k/GD m<=2:=λk hk=>by
    have a1:=Nat.mod_lt k (show 0<GD m by omega)
    have a2:k/GD m<Rm m:=Nat.div_lt_of_lt_mul hk
    omega
  rw [Mi] at h1 h2
  have h:=List.all_eq_true.1 (List.all_eq_true.1 PV _ (E9 (b i hi).1 (b i hi).2 (J5 (Gh m i) i))) _ (E9 (b j hj).1 (b j hj).2 (J5 (Gh m j) j))
  rw [Bool.or_eq_true,decide_eq_true_eq] at h
  rcases h with ⟨e1,e2,e3⟩|h
  · exfalso
    have e:i=j:=by rw [<-Nat.div_add_mod i (GD m),<-Nat.div_add_mod j (GD m),show i%GD m=j%GD m from e1,show i/GD m=j/GD m from e2]
    subst e
    exact e3 O
  · exact List.all_eq_true.1 (List.all_eq_true.1 h s h1) t h2
theorem TN (A B:P2) (X Y:Nat):Jt A B ((X:Rat)*(1/2)) ((Y:Rat)*(1/2))=((Zm A B X Y:Int):Rat)*(1/2):=by
  simp only [Jt,Zm,Rat.intCast_sub,Rat.intCast_mul,Rat.intCast_natCast,show ((2:Int):Rat)=2 from rfl]
  grind
theorem VA {t:T2} {X Y:Nat} (h:inC t ((X:Rat)*(1/2)) ((Y:Rat)*(1/2))):Y6 t X Y=true:=by
  obtain ⟨h1,h2,h3⟩:=h
  rw [TN] at h1 h2 h3
  have c:∀z:Int,0<=(z:Rat)*(1/2)->0<=z:=λz hz=>by
    have:(0:Rat)<=(z:Rat):=by grind
    exact_mod_cast this
  simp only [Y6,Bool.and_eq_true,decide_eq_true_eq]
  exact ⟨⟨c _ h1,c _ h2⟩,c _ h3⟩
theorem NC {t:T2} {q:P2} (h:KC t q=true):∃r,r<3/\Cz t r=q:=by
  simp only [KC,Bool.or_eq_true,beq_iff_eq] at h
  rcases h with (h|h)|h
  · exact ⟨0,Z,h⟩
  · exact ⟨1,Z,h⟩
  · exact ⟨2,Z,h⟩
theorem VO (t:T2) {r:Nat} (h:r<3):Cz t r∈[t.1,t.2.1,t.2.2]:=by
  have:r=0\/r=1\/r=2:=by omega
  rcases this with rfl|rfl|rfl<;>simp [Cz]
theorem OQ {m:MQ} {s t:T2} (hs:s∈BD m) (ht:t∈BD m) {r:Nat} (hr:r<3) (h:inC t ((Cz s r).1:Rat) ((Cz s r).2:Rat)):∃k,k<3/\Cz t k=Cz s r:=by
  have hp:=Qo hs ht
  unfold NB at hp
  rw [Bool.and_eq_true] at hp
  have h1:=List.all_eq_true.1 hp.1 _ (VO s hr)
  have h2:Y6 t (2*(Cz s r).1) (2*(Cz s r).2)=true:=VA (by
    rw [G4,G4,show 2*((Cz s r).1:Rat)*(1/2)=((Cz s r).1:Rat) by grind,show 2*((Cz s r).2:Rat)*(1/2)=((Cz s r).2:Rat) by grind]
    exact h)
  rw [h2] at h1
  exact NC (by simpa using h1)
theorem T9 {m:MQ} {s t:T2} (hs:s∈BD m) (ht:t∈BD m) {r:Nat} (hr:r<3) (h:inC t ((((Cz s r).1+(Cz s ((r+1)%3)).1:Nat):Rat)*(1/2)) ((((Cz s r).2+(Cz s ((r+1)%3)).2:Nat):Rat)*(1/2))) :
    (∃k,k<3/\Cz t k=Cz s r)/\∃k,k<3/\Cz t k=Cz s ((r+1)%3):=by
  have hp:=Qo hs ht
  unfold NB at hp
  rw [Bool.and_eq_true] at hp
  have hm:(Cz s r,Cz s ((r+1)%3))∈[(s.1,s.2.1),(s.2.1,s.2.2),(s.2.2,s.1)]:=by
    have:r=0\/r=1\/r=2:=by omega
    rcases this with rfl|rfl|rfl<;>simp [Cz]
  have h1:=List.all_eq_true.1 hp.2 _ hm
  rw [VA h] at h1
  have h2:KC t (Cz s r)=true/\KC t (Cz s ((r+1)%3))=true:=by simpa using h1
  exact ⟨NC h2.1,NC h2.2⟩
section
def PQ (k:DG) (den:Nat) (X Y:Rat):Pt:=⟨((k.a:Rat)*X+(k.b:Rat)*Y)/(((max den 1:Nat):Int):Rat),((k.c:Rat)*X+(k.d:Rat)*Y)/(((max den 1:Nat):Int):Rat)⟩
theorem JQ (k:DG) (den:Nat) (A:P2):CT (Gg k den A)=PQ k den (A.1:Rat) (A.2:Rat):=by
  simp only [CT,Gg,Nx,DG.at_,PQ,Rat.intCast_add,Rat.intCast_mul,Rat.intCast_natCast]
theorem Xm (k:DG) (den:Nat) (A B:P2):Cb (CT (Gg k den A)+CT (Gg k den B)) (1/2)=PQ k den (((A.1+B.1:Nat):Rat)*(1/2)) (((A.2+B.2:Nat):Rat)*(1/2)):=by
  rw [JQ,JQ]
  refine Pt.ext ?_ ?_<;>simp only [PQ,QO,Q2,UU,TR,Rat.natCast_add,Rat.div_def]<;>generalize (((max den 1:Nat):Int):Rat)⁻¹=e<;>grind
theorem Ob {k:DG} (h:k.Ok) (den:Nat):∃c:Rat,0<c/\∀(A B:P2) (X Y:Rat),AJ (CT (Gg k den A)) (CT (Gg k den B)) (PQ k den X Y)=c*Jt A B X Y:=by
  have hD:0<(((max den 1:Nat):Int):Rat):=by exact_mod_cast (show (0:Int)<((max den 1:Nat):Int) by omega)
  have hd:(0:Rat)<(k.det:Rat):=by exact_mod_cast h.pos
  have ed:(k.det:Rat)=(k.a:Rat)*(k.d:Rat)-(k.b:Rat)*(k.c:Rat):=by simp only [DG.det,Rat.intCast_sub,Rat.intCast_mul]
  have hi:=Rat.inv_pos.2 hD
  refine ⟨(k.det:Rat)*((((max den 1:Nat):Int):Rat)⁻¹*(((max den 1:Nat):Int):Rat)⁻¹),Rat.mul_pos hd (Rat.mul_pos hi hi),λA B X Y=>?_⟩
  rw [JQ,JQ,ed]
  simp only [Ci,PQ,Jt,Rat.div_def]
  generalize (((max den 1:Nat):Int):Rat)⁻¹=e
  grind
theorem YR (m:MQ) (t:Nat) {k:Nat} (hk:k<3):∃r,r<3/\I3 m t r=k:=by
  unfold I3
  generalize t*(m.fst/3)=q
  have e:(m.fst+q)%3=0\/(m.fst+q)%3=1\/(m.fst+q)%3=2:=by omega
  rcases e with e|e|e
  · exact ⟨k,hk,Z⟩
  · exact ⟨(k+2)%3,Nat.mod_lt _ (by decide),Z⟩
  · exact ⟨(k+1)%3,Nat.mod_lt _ (by decide),Z⟩
theorem N5 (m:MQ) (t r:Nat):I3 m t ((r+1)%3)=(I3 m t r+1)%3:=by unfold I3;omega
def crn (t:Nat×Nat×Nat) (r:Nat):Nat:=if r=0 then t.1 else if r=1 then t.2.1 else t.2.2
def Cd (t:Nat×Nat×Nat) (p:Nat):Bool:=t.1 == p||t.2.1 == p||t.2.2 == p
theorem Kr {t:Nat×Nat×Nat} {p:Nat}:Cd t p=true↔∃r,r<3/\crn t r=p:=by
  simp only [Cd,Bool.or_eq_true,beq_iff_eq]
  constructor
  · rintro ((h|h)|h)
    · exact ⟨0,Z,h⟩
    · exact ⟨1,Z,h⟩
    · exact ⟨2,Z,h⟩
  · rintro ⟨r,hr,h⟩
    have:r=0\/r=1\/r=2:=by omega
    rcases this with rfl|rfl|rfl
    · exact .inl (.inl h)
    · exact .inl (.inr h)
    · exact .inr h
theorem JF.crn {m:MQ} {pl:List P2} {n:Nat×Nat×Nat} {t:Nat} (h:JF m pl n t) {r:Nat} (hr:r<3):Go.Proofs.YtfbomiejpbchdaaGreat.crn n r<pl.length/\pl.getD (Go.Proofs.YtfbomiejpbchdaaGreat.crn n r) (0,0)=Ay m t r:=by
  have:r=0\/r=1\/r=2:=by omega
  rcases this with rfl|rfl|rfl
  · exact h.a
  · exact h.b
  · exact h.c
section
variable {ps:List Pt} {ts:List (Nat×Nat×Nat)}
structure YJ (ps:List Pt) (ts:List (Nat×Nat×Nat)) (m:MQ) (pl:List P2):Prop where
  inv:NH m (BD m).length pl ts
  dst:XR pl
  pl_len:ps.length=pl.length
  at_:∀i,i<pl.length->ps.getD i ⟨0,0⟩=CT (Gg (mapM m) (B_ m) (pl.getD i (0,0)))
theorem F0.lattice (g:F0 ps ts):∃m pl,YJ ps ts m pl:=by
  obtain ⟨m,pl,h1,h2,h3⟩:=g.lat
  have hz:(Fq m pl).length=pl.length:=by simp [Fq]
  refine ⟨m,pl,h1,h2,by rw [h3,Jx Z],λi hi=>?_⟩
  rw [h3,<-hz,Qp (by rw [hz];exact hi),Jo hi]
  rfl
theorem YJ.cell {m:MQ} {pl:List P2} (l:YJ ps ts m pl) {t:Nat} (ht:t<ts.length):(BD m).getD t ((0,0),(0,0),(0,0))∈BD m:=by
  have h:=l.inv.tl
  rw [List.getD,List.getElem?_eq_getElem Z];exact List.getElem_mem _
theorem YJ.inC {m:MQ} {pl:List P2} (l:YJ ps ts m pl) {t:Nat} (ht:t<ts.length) {X Y:Rat} (h:Lb ps (ts.getD t (0,0,0)) (PQ (mapM m) (B_ m) X Y)):Go.Proofs.YtfbomiejpbchdaaGreat.inC ((BD m).getD t ((0,0),(0,0),(0,0))) X Y:=by
  obtain ⟨c,hc,key⟩:=Ob (Fm m.a m.b m.c m.d) (B_ m)
  have hk:mapM m=Gi m.a m.b m.c m.d:=rfl
  rw [<-hk] at key
  have hat:=l.inv.at_ t (by have:=l.inv.tl;omega)
  obtain ⟨⟨a1,a2⟩,⟨b1,b2⟩,⟨c1,c2⟩⟩:=hat
  obtain ⟨k1,k2,k3⟩:=h
  rw [l.at_ _ b1,l.at_ _ c1,b2,c2,<-F6,key] at k1
  rw [l.at_ _ a1,l.at_ _ c1,a2,c2,F6,key] at k2
  rw [l.at_ _ a1,l.at_ _ b1,a2,b2,key] at k3
  exact (Nk m t X Y).2 (Hb hc k1) (Hb hc k2) (Hb hc k3)
theorem YJ.idx {m:MQ} {pl:List P2} (l:YJ ps ts m pl) {t p:Nat} (ht:t<ts.length) (hp:p<pl.length) (h:∃k,k<3/\Cz ((BD m).getD t ((0,0),(0,0),(0,0))) k=pl.getD p (0,0)):Cd (ts.getD t (0,0,0)) p=true:=by
  obtain ⟨k,hk,e⟩:=h
  obtain ⟨r,hr,e2⟩:=YR m t hk
  obtain ⟨h1,h2⟩:=(l.inv.at_ t (by have:=l.inv.tl;omega)).crn hr
  have e3:Ay m t r=pl.getD p (0,0):=by rw [<-e,<-e2];rfl
  exact Kr.2 ⟨r,hr,l.dst _ _ h1 hp (by rw [h2,e3])⟩
theorem It (g:F0 ps ts) {p:Nat} (hp:p<ps.length):∃j,j<ts.length/\Cd (ts.getD j (0,0,0)) p=true:=by
  obtain ⟨m,pl,l⟩:=g.lattice
  obtain ⟨j,hj,h⟩:=l.inv.used p (by rw [<-l.pl_len];exact hp)
  refine ⟨j,by have:=l.inv.tl;omega,?_⟩
  simp only [Cd,Bool.or_eq_true,beq_iff_eq]
  rcases h with h|h|h
  · exact .inl (.inl h)
  · exact .inl (.inr h)
  · exact .inr h
theorem TS (g:F0 ps ts) {p q:Nat} (hp:p<ps.length) (hq:q<ps.length) (h:ps.getD p ⟨0,0⟩=ps.getD q ⟨0,0⟩):p=q:=by
  obtain ⟨m,pl,l⟩:=g.lattice
  obtain ⟨j,hj,hh⟩:=It g hq
  obtain ⟨r,hr,e⟩:=Kr.1 hh
  have hp':p<pl.length:=by rw [<-l.pl_len];exact hp
  have hq':q<pl.length:=by rw [<-l.pl_len];exact hq
  rw [l.at_ p hp',l.at_ q hq'] at h
  refine l.dst p q hp' hq' ?_
  have hD:0<(((max (B_ m) 1:Nat):Int):Rat):=by exact_mod_cast (show (0:Int)<((max (B_ m) 1:Nat):Int) by omega)
  have hk:=Fm m.a m.b m.c m.d
  have hdet:=hk.pos
  have hx:=congrArg Pt.x h
  have hy:=congrArg Pt.y h
  rw [JQ,JQ] at hx hy
  simp only [PQ,Rat.div_def] at hx hy
  have hi:=Rat.inv_pos.2 hD
  generalize (((max (B_ m) 1:Nat):Int):Rat)⁻¹=e at *
  generalize pl.getD p (0,0)=A at *
  generalize pl.getD q (0,0)=B at *
  obtain ⟨x1,y1⟩:=A
  obtain ⟨x2,y2⟩:=B
  simp only at hx hy
  have hd:(0:Rat)<((mapM m).det:Rat):=by exact_mod_cast hdet
  have ed:((mapM m).det:Rat)=((mapM m).a:Rat)*((mapM m).d:Rat)-((mapM m).b:Rat)*((mapM m).c:Rat):=by simp only [DG.det,Rat.intCast_sub,Rat.intCast_mul]
  rw [ed] at hd
  generalize ((mapM m).a:Rat)=a at *
  generalize ((mapM m).b:Rat)=b at *
  generalize ((mapM m).c:Rat)=c at *
  generalize ((mapM m).d:Rat)=d at *
  clear hD hk hdet ed h
  have hX:((x1:Rat)-(x2:Rat))*(a*d-b*c)*e=0:=by grind
  have hY:((y1:Rat)-(y2:Rat))*(a*d-b*c)*e=0:=by grind
  have z1:(x1:Rat)-(x2:Rat)=0:=by
    rcases Rat.mul_eq_zero.1 hX with h|h
    · rcases Rat.mul_eq_zero.1 h with h|h
      · exact h
      · grind
    · grind
  have z2:(y1:Rat)-(y2:Rat)=0:=by
    rcases Rat.mul_eq_zero.1 hY with h|h
    · rcases Rat.mul_eq_zero.1 h with h|h
      · exact h
      · grind
    · grind
  have w1:(x1:Rat)=(x2:Rat):=by grind
  have w2:(y1:Rat)=(y2:Rat):=by grind
  exact Prod.ext (by exact_mod_cast w1) (by exact_mod_cast w2)
theorem JD (g:F0 ps ts) {p t:Nat} (hp:p<ps.length) (ht:t<ts.length) (h:Lb ps (ts.getD t (0,0,0)) (ps.getD p ⟨0,0⟩)):Cd (ts.getD t (0,0,0)) p=true:=by
  obtain ⟨m,pl,l⟩:=g.lattice
  have hp':p<pl.length:=by rw [<-l.pl_len];exact hp
  obtain ⟨j,hj,hh⟩:=It g hp
  obtain ⟨r,hr,e⟩:=Kr.1 hh
  have hc:=((l.inv.at_ j (by have:=l.inv.tl;omega)).crn hr).2
  rw [e] at hc
  refine l.idx ht hp' ?_
  rw [l.at_ p hp',JQ] at h
  have h2:=l.inC ht h
  rw [hc] at h2 ⊢
  exact OQ (l.cell hj) (l.cell ht) (Nat.mod_lt _ (by decide)) h2
theorem T0 (g:F0 ps ts) {s t r:Nat} (hs:s<ts.length) (ht:t<ts.length) (hr:r<3) (h:Lb ps (ts.getD t (0,0,0)) (Cb (ps.getD (crn (ts.getD s (0,0,0)) r) ⟨0,0⟩+ps.getD (crn (ts.getD s (0,0,0)) ((r+1)%3)) ⟨0,0⟩) (1/2))) :
    Cd (ts.getD t (0,0,0)) (crn (ts.getD s (0,0,0)) r)=true/\Cd (ts.getD t (0,0,0)) (crn (ts.getD s (0,0,0)) ((r+1)%3))=true:=by
  obtain ⟨m,pl,l⟩:=g.lattice
  have hat:=l.inv.at_ s (by have:=l.inv.tl;omega)
  obtain ⟨a1,a2⟩:=hat.crn hr
  obtain ⟨b1,b2⟩:=hat.crn (Nat.mod_lt (r+1) (show 0<3 by decide))
  rw [l.at_ _ a1,l.at_ _ b1,Xm,a2,b2] at h
  have h2:=l.inC ht h
  unfold Ay at h2
  rw [N5] at h2
  obtain ⟨k1,k2⟩:=T9 (l.cell hs) (l.cell ht) (r:=I3 m s r) (Nat.mod_lt _ (by decide)) h2
  refine ⟨l.idx ht a1 ?_,l.idx ht b1 ?_⟩
  · rw [a2];exact k1
  · rw [b2];unfold Ay;rw [N5];exact k2
end
end
end Go.Proofs.YtfbomiejpbchdaaGreat
