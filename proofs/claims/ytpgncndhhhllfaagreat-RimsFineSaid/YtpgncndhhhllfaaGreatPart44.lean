import Derived.Test.YtpgncndhhhllfaaGreatPart24
import Derived.Test.YtpgncndhhhllfaaGreatPart27
import Derived.Test.YtpgncndhhhllfaaGreatPart37
import Derived.Test.YtpgncndhhhllfaaGreatPart40
import Derived.Test.YtpgncndhhhllfaaGreatPart41
namespace Go.Proofs.YtpgncndhhhllfaaGreat
open Go Go.RowKit Go.Proofs.Tryz
set_option linter.unusedVariables false
set_option linter.unusedSimpArgs false
section
set_option maxRecDepth 100000
theorem Oj {ps:List Pt} {ts ss:List T3} (x:MX ps ts ss) (l:List Int) (n:Nat) (hpt:Og ts l n) (hnb:BI ps.length ts=true) (hne:0<ts.length) (hp:ps.length<=1000000) (htl:ts.length<=1000000) (w:World) {S:Nat->Prop} (hx:Ro S w x):Calls prog 27 #[(aG (Bp x))] w (A9 w (vI (((n:Nat):Int)-FR ts))):=by
 have hel0:=J2 ts
 have hcl0:=Hl (ts:=ts) (3*ts.length)
 have hez:FR ts=((CE ts (3*ts.length)).length:Int)-(Bd ts).length+ts.length:=rfl
 have hnle:=hpt.nle
 have lx:=Dk (W:=w) hx
 refine An (args:=[(aG (Bp x))]) (L:=[AK x.a.p (rowsL Bf ps),AK x.b.p (rowsL AZ ts),AK x.c.p (rowsL AZ ss)]) func27 O O (Ad O) (E3 hx BA) (AE.subF (sL [0] O) (q4 (Ca (cs:=Bp x) O λb1=>AI O (q3 (sL [1,2] O) (BF 0 DA O (AC.callR (S:=S) (α:=We ts) (args:=[(aG (Bp x))]) call22 (λw hw=>LN x hnb hne hp htl w (Br hw 1 O lx)) O O O λpa lpa=>AM O (AJ (Ab (v:=(Value.slice pa.r.p pa.l.length pa.r.c)) O O) O (AJ (Ab (v:=(vN pa.n)) O O) O (AC.retell (k:=9) (u:=(vN n)) O (by rw [Yv hpt pa.pts]) ?_)))))))))
 exact AI O (AI O (q3 (sL [1,2,4] O) (AM O (BF 1 DA O (DS call25 (λw hw=>KG x hnb hp htl w (Br hw 2 O lx)) O (AJ (BU (c:=(((n:Nat):Int)-FR ts)) O O (Ay Z Z)) O (AI O (AC.nil (OkQ.subF (sL [1,2] O) (OkQ.then_ (AE.ret (AV O (Ah (v:=(vI (((n:Nat):Int)-FR ts))) O) (λw hw=>⟨rfl,hw.out⟩)))))))))))))
theorem J0 (w:World):Calls prog 29 #[(vI 0),(vI 0)] w (A9 w (aG (Bf (⟨0,0⟩:Pt)))):=by
 have h:=Gw (0) (0) (by decide) (by decide) (by decide) (by decide) w
 rw [show (⟨(((0):Int):Rat),(((0):Int):Rat)⟩:Pt)=(⟨0,0⟩:Pt) from by decide +kernel] at h
 exact h
theorem K3 (w:World):Calls prog 29 #[(vI 1),(vI 0)] w (A9 w (aG (Bf (⟨1,0⟩:Pt)))):=by
 have h:=Gw (1) (0) (by decide) (by decide) (by decide) (by decide) w
 rw [show (⟨(((1):Int):Rat),(((0):Int):Rat)⟩:Pt)=(⟨1,0⟩:Pt) from by decide +kernel] at h
 exact h
theorem Pc (w:World):Calls prog 29 #[(vI 1),(vI 1)] w (A9 w (aG (Bf (⟨1,1⟩:Pt)))):=by
 have h:=Gw (1) (1) (by decide) (by decide) (by decide) (by decide) w
 rw [show (⟨(((1):Int):Rat),(((1):Int):Rat)⟩:Pt)=(⟨1,1⟩:Pt) from by decide +kernel] at h
 exact h
theorem Km (w:World):Calls prog 29 #[(vI 0),(vI 1)] w (A9 w (aG (Bf (⟨0,1⟩:Pt)))):=by
 have h:=Gw (0) (1) (by decide) (by decide) (by decide) (by decide) w
 rw [show (⟨(((0):Int):Rat),(((1):Int):Rat)⟩:Pt)=(⟨0,1⟩:Pt) from by decide +kernel] at h
 exact h
theorem Ob (w:World):Calls prog 29 #[(vI (-1:Int)),(vI 0)] w (A9 w (aG (Bf (⟨-1,0⟩:Pt)))):=by
 have h:=Gw (-1) (0) (by decide) (by decide) (by decide) (by decide) w
 rw [show (⟨(((-1):Int):Rat),(((0):Int):Rat)⟩:Pt)=(⟨-1,0⟩:Pt) from by decide +kernel] at h
 exact h
theorem ON (w:World):Calls prog 29 #[(vI 0),(vI (-1:Int))] w (A9 w (aG (Bf (⟨0,-1⟩:Pt)))):=by
 have h:=Gw (0) (-1) (by decide) (by decide) (by decide) (by decide) w
 rw [show (⟨(((0):Int):Rat),(((-1):Int):Rat)⟩:Pt)=(⟨0,-1⟩:Pt) from by decide +kernel] at h
 exact h
def Wa:List Pt:=[⟨0,0⟩,⟨1,0⟩,⟨1,1⟩,⟨0,1⟩]
def IX:List T3:=[(0,1,2),(0,2,3)]
def Zn:List Pt:=[⟨0,0⟩,⟨1,0⟩,⟨0,1⟩,⟨-1,0⟩,⟨0,-1⟩]
def Oo:List T3:=[(0,1,2),(0,3,4)]
def JQ:List T3:=[(0,1,0),(3,0,1),(1,2,0),(2,3,1)]
theorem ZT (x:MX Wa IX []) (w:World) {S:Nat->Prop} (hx:Ro S w x):Calls prog 16 #[aG (Bp x)] w (Am (RX (rowsL AZ JQ) JQ.length) S w):=by
 have h:=YW x (by decide +kernel) (by decide) (by decide) w hx
 rw [show AX IX=JQ from by decide +kernel] at h
 exact h
theorem XB (x:MX Wa IX []) (w:World) {S:Nat->Prop} (hx:Ro S w x):Calls prog 20 #[aG (Bp x)] w (Am (cY [0,1,2,3]) S w) :=
 (Nz x (by decide +kernel) (by decide +kernel) (by decide) (by decide) w hx).mono λe w' h=>ZM (show Ir IX=[[0,1,2,3]] from by decide +kernel) h
theorem VI (x:MX Zn Oo []) (w:World) {S:Nat->Prop} (hx:Ro S w x):Calls prog 20 #[aG (Bp x)] w (Am (ch 2) S w) :=
 (Nz x (by decide +kernel) (by decide +kernel) (by decide) (by decide) w hx).mono λe w' h=>Y9 (show (Ir Oo).length=2 from by decide +kernel) h
theorem cI:∀s,s<IX.length->JU IX 0 s:=λs hs=>by
 have e:s=0\/s=1:=by have:IX.length=2:=rfl;omega
 rcases e with rfl|rfl
 ·exact .refl
 ·exact .step .refl (by decide) ⟨0,0,by decide,by decide,rfl⟩
theorem aL:∀s,s<Oo.length->JU Oo 0 s:=λs hs=>by
 have e:s=0\/s=1:=by have:Oo.length=2:=rfl;omega
 rcases e with rfl|rfl
 ·exact .refl
 ·exact .step .refl (by decide) ⟨0,0,by decide,by decide,rfl⟩
theorem LC (x0 x1 x2 x3:Pt):Instr.fill (λi=>some (i*10,10)) ((Array.range (4*10)).map ((Value.agg (Bf (⟨0,0⟩:Pt)).toArray).cells[·%(Value.agg (Bf (⟨0,0⟩:Pt)).toArray).cells.size]!)) [(0,.agg (Bf x0).toArray),(1,.agg (Bf x1).toArray),(2,.agg (Bf x2).toArray),(3,.agg (Bf x3).toArray)]=some (Bf x0++Bf x1++Bf x2++Bf x3).toArray:=by kernel_rfl
theorem Dx (x0 x1 x2:Nat):Instr.fill (λi=>some (i*1,1)) (AZ ((0,0,0):Tq3)).toArray [(0,vN x0),(1,vN x1),(2,vN x2)]=some (AZ (x0,x1,x2)).toArray:=by kernel_rfl
theorem Gj (x0 x1:Tq3):Instr.fill (λi=>some (i*3,3)) ((Array.range (2*3)).map ((Value.agg (AZ ((0,0,0):Tq3)).toArray).cells[·%(Value.agg (AZ ((0,0,0):Tq3)).toArray).cells.size]!)) [(0,.agg (AZ x0).toArray),(1,.agg (AZ x1).toArray)]=some (AZ x0++AZ x1).toArray:=by kernel_rfl
theorem K4 (x0 x1 x2 x3 x4:Pt):Instr.fill (λi=>some (i*10,10)) ((Array.range (5*10)).map ((Value.agg (Bf (⟨0,0⟩:Pt)).toArray).cells[·%(Value.agg (Bf (⟨0,0⟩:Pt)).toArray).cells.size]!)) [(0,.agg (Bf x0).toArray),(1,.agg (Bf x1).toArray),(2,.agg (Bf x2).toArray),(3,.agg (Bf x3).toArray),(4,.agg (Bf x4).toArray)]=some (Bf x0++Bf x1++Bf x2++Bf x3++Bf x4).toArray:=by kernel_rfl
set_option maxHeartbeats 1000000 in
theorem QG  (w:World)  :Calls prog 9 #[] w (A9 w (Value.bool true)):=by
 refine Aq (args:=[]) func9 O O (Ad O) (AE.subF sN (q4 (AI O (AC.nil (q2 (ck' call29 (J0) O (ck' call29 (K3) O (ck' call29 (Pc) O (ck' call29 (Km) O (AC.openV (V:=λb1=>(Value.slice (some ⟨b1,0,none⟩) 4 4)) (T:=66) (cs:=Bf (⟨0,0⟩:Pt)++Bf (⟨1,0⟩:Pt)++Bf (⟨1,1⟩:Pt)++Bf (⟨0,1⟩:Pt)) (AP O) (Ai (z:=.agg (Bf (⟨0,0⟩:Pt)).toArray) (cs:=Bf (⟨0,0⟩:Pt)++Bf (⟨1,0⟩:Pt)++Bf (⟨1,1⟩:Pt)++Bf (⟨0,1⟩:Pt)) (pv:=[(0,(aG (Bf (⟨0,0⟩:Pt)))),(1,(aG (Bf (⟨1,0⟩:Pt)))),(2,(aG (Bf (⟨1,1⟩:Pt)))),(3,(aG (Bf (⟨0,1⟩:Pt))))]) underlying27 sizeOf66 zeroValue66 (by decide) (by decide) O (LC (⟨0,0⟩:Pt) (⟨1,0⟩:Pt) (⟨1,1⟩:Pt) (⟨0,1⟩:Pt))) O (Ad O) λb1=>AJ (v:=(aG (AZ (0,1,2)))) (Ar (zs:=AZ ((0,0,0):Tq3)) (vs:=AZ (0,1,2)) (pv:=[(0,(vI 0)),(1,(vI 1)),(2,(vI 2))]) zeroValue68 underlying68 sizeOf3 O (Dx 0 1 2)) O ?_))))))))))
 refine AJ (v:=(aG (AZ (0,2,3)))) (Ar (zs:=AZ ((0,0,0):Tq3)) (vs:=AZ (0,2,3)) (pv:=[(0,(vI 0)),(1,(vI 2)),(2,(vI 3))]) zeroValue68 underlying68 sizeOf3 O (Dx 0 2 3)) O (AC.openV (V:=λb2=>(Value.slice (some ⟨b2,0,none⟩) 2 2)) (T:=68) (cs:=AZ (0,1,2)++AZ (0,2,3)) (AP O) (Ai (z:=.agg (AZ ((0,0,0):Tq3)).toArray) (cs:=AZ (0,1,2)++AZ (0,2,3)) (pv:=[(0,(aG (AZ (0,1,2)))),(1,(aG (AZ (0,2,3))))]) underlying28 sizeOf68 zeroValue68 (by decide) (by decide) O (Gj (0,1,2) (0,2,3))) O (Ad O) λb2=>AJ (v:=(aG ([(Value.slice (some ⟨b1,0,none⟩) 4 4),(Value.slice (some ⟨b2,0,none⟩) 2 2),(Value.slice none 0 0)]))) (AY (zs:=[(Value.slice none 0 0),(Value.slice none 0 0),(Value.slice none 0 0)]) (vs:=[(Value.slice (some ⟨b1,0,none⟩) 4 4),(Value.slice (some ⟨b2,0,none⟩) 2 2),(Value.slice none 0 0)]) (pv:=[(0,(Value.slice (some ⟨b1,0,none⟩) 4 4)),(1,(Value.slice (some ⟨b2,0,none⟩) 2 2))]) (places:=[(0,1),(1,1),(2,1)]) zeroValue31 underlying31 (λw=>by simp [sizeOf27,sizeOf28,sizeOf29]) O O) O (al WF O λb3=>BN O sizeOf31 O (AC.litM2 (S:=λ_=>False) (ps:=Wa) (ts:=IX) (λmm=>[AK mm.c.p (rowsL AZ ([]:List T3)),Af b3 31 (Bp mm),AK mm.b.p (rowsL AZ IX),AK mm.a.p (rowsL Bf Wa)]) 2 1 (by decide) O O O O O λmm hmm=>q3 (sL [0,1] O) (BF 1 DA O (AC.callR (S:=λ_=>False) (α:=RX (rowsL AZ JQ) JQ.length) (args:=[(aG (Bp mm))]) call16 (λw hw=>ZT mm w (aM hw [3,2,0] O hmm)) O O O λwy lwy=>AI O (q3 (sL [0,1,2] O) (BF 2 DA O ?_)))))))
 refine AC.callR (S:=λ_=>False) (α:=cY [0,1,2,3]) (args:=[(aG (Bp mm))]) call20 (λw hw=>XB mm w (aM hw [4,3,1] O hmm)) O O O λlo llo=>AI O (q3 (sL [0,1,2,3] O) (ck' call29 (J0) O (ck' call29 (K3) O (ck' call29 (Km) O (ck' call29 (Ob) O (ck' call29 (ON) O (AC.openV (V:=λb4=>(Value.slice (some ⟨b4,0,none⟩) 5 5)) (T:=66) (cs:=Bf (⟨0,0⟩:Pt)++Bf (⟨1,0⟩:Pt)++Bf (⟨0,1⟩:Pt)++Bf (⟨-1,0⟩:Pt)++Bf (⟨0,-1⟩:Pt)) (AP O) (Ai (z:=.agg (Bf (⟨0,0⟩:Pt)).toArray) (cs:=Bf (⟨0,0⟩:Pt)++Bf (⟨1,0⟩:Pt)++Bf (⟨0,1⟩:Pt)++Bf (⟨-1,0⟩:Pt)++Bf (⟨0,-1⟩:Pt)) (pv:=[(0,(aG (Bf (⟨0,0⟩:Pt)))),(1,(aG (Bf (⟨1,0⟩:Pt)))),(2,(aG (Bf (⟨0,1⟩:Pt)))),(3,(aG (Bf (⟨-1,0⟩:Pt)))),(4,(aG (Bf (⟨0,-1⟩:Pt))))]) underlying27 sizeOf66 zeroValue66 (by decide) (by decide) O (K4 (⟨0,0⟩:Pt) (⟨1,0⟩:Pt) (⟨0,1⟩:Pt) (⟨-1,0⟩:Pt) (⟨0,-1⟩:Pt))) O (Ad O) λb4=>AJ (v:=(aG (AZ (0,1,2)))) (Ar (zs:=AZ ((0,0,0):Tq3)) (vs:=AZ (0,1,2)) (pv:=[(0,(vI 0)),(1,(vI 1)),(2,(vI 2))]) zeroValue68 underlying68 sizeOf3 O (Dx 0 1 2)) O (AJ (v:=(aG (AZ (0,3,4)))) (Ar (zs:=AZ ((0,0,0):Tq3)) (vs:=AZ (0,3,4)) (pv:=[(0,(vI 0)),(1,(vI 3)),(2,(vI 4))]) zeroValue68 underlying68 sizeOf3 O (Dx 0 3 4)) O (AC.openV (V:=λb5=>(Value.slice (some ⟨b5,0,none⟩) 2 2)) (T:=68) (cs:=AZ (0,1,2)++AZ (0,3,4)) (AP O) (Ai (z:=.agg (AZ ((0,0,0):Tq3)).toArray) (cs:=AZ (0,1,2)++AZ (0,3,4)) (pv:=[(0,(aG (AZ (0,1,2)))),(1,(aG (AZ (0,3,4))))]) underlying28 sizeOf68 zeroValue68 (by decide) (by decide) O (Gj (0,1,2) (0,3,4))) O (Ad O) λb5=>?_)))))))))
 refine AJ (v:=(aG ([(Value.slice (some ⟨b4,0,none⟩) 5 5),(Value.slice (some ⟨b5,0,none⟩) 2 2),(Value.slice none 0 0)]))) (AY (zs:=[(Value.slice none 0 0),(Value.slice none 0 0),(Value.slice none 0 0)]) (vs:=[(Value.slice (some ⟨b4,0,none⟩) 5 5),(Value.slice (some ⟨b5,0,none⟩) 2 2),(Value.slice none 0 0)]) (pv:=[(0,(Value.slice (some ⟨b4,0,none⟩) 5 5)),(1,(Value.slice (some ⟨b5,0,none⟩) 2 2))]) (places:=[(0,1),(1,1),(2,1)]) zeroValue31 underlying31 (λw=>by simp [sizeOf27,sizeOf28,sizeOf29]) O O) O (al WF O λb6=>BN O sizeOf31 O (AC.litM2 (S:=λ_=>False) (ps:=Zn) (ts:=Oo) (λm2=>[AK m2.c.p (rowsL AZ ([]:List T3)),Af b6 31 (Bp m2),AK m2.b.p (rowsL AZ Oo),AK m2.a.p (rowsL Bf Zn),AK lo.q.p ([Value.slice lo.r.p 4 lo.r.c]),AK lo.r.p (inL ([0,1,2,3])),AK wy.p (rowsL AZ JQ),AK mm.c.p (rowsL AZ ([]:List T3)),Af b3 31 (Bp mm),AK mm.b.p (rowsL AZ IX),AK mm.a.p (rowsL Bf Wa)]) 2 1 (by decide) O O O O O λm2 hm2=>q3 (sL [0,1,2,3,4] O) (BF 1 DA O (AC.callR (S:=λ_=>False) (α:=We Oo) (args:=[(aG (Bp m2))]) call22 (λw hw=>LN m2 (by decide +kernel) (by decide) (by decide) (by decide) w (aM hw [3,2,0] O hm2)) O O O λpk lpk=>AM O (AJ (Ab (v:=(Value.slice pk.r.p pk.l.length pk.r.c)) O O) O ?_)))))
 have hpk:pk.n=1:=RB pk.pts (by decide) aL
 refine AJ (Ab (v:=(vN pk.n)) O O) O (AI O (AI O (q3 (sL [0,1,2,3,4,6] O) (BF 9 DA O (AC.callR (S:=λ_=>False) (α:=We IX) (args:=[(aG (Bp mm))]) call22 (λw hw=>LN mm (by decide +kernel) (by decide) (by decide) (by decide) w (aM hw [11,10,8] O hmm)) O O O λpb lpb=>AM O (AJ (Ab (v:=(Value.slice pb.r.p pb.l.length pb.r.c)) O O) O ?_))))))
 have hpb:pb.n=1:=RB pb.pts (by decide) cI
 refine AJ (Ab (v:=(vN pb.n)) O O) O (AI O (AI O (q3 (sL [0,1,2,3,4,6,8] O) (AM O (AJ (v:=(vI 4)) (AF O underlying74) O (AJ (BQ (c:=true) O O (by decide)) O (AM O (AC.step (v:=(Value.slice wy.p 4 wy.c)) (AA O) (AU O) O (Ad O) (AC.step (v:=(pP (pB wy.p) (pO wy.p+0*3))) (AA O) (AG (j:=0) O O wy.ok underlying74 sizeOf84 O (by decide)) O (Ad O) (AC.step (v:=(aG (AZ (JQ.getD 0 ((0,0,0):Tq3))))) (AA O) (Ak (vs:=AZ (JQ.getD 0 ((0,0,0):Tq3))) (i:=8) O O (Aw.ne wy.ok (by decide)) Zk (BD Aa _ _ _ (by decide)) (Aa _)) O (Ad O) (AC.step (v:=(aG ([(vI 0),(vI 1),(vI 0)]))) (AA O) (AY (zs:=AZ ((0,0,0):Tq3)) (vs:=[(vI 0),(vI 1),(vI 0)]) (pv:=[(0,(vI 0)),(1,(vI 1)),(2,(vI 0))]) (places:=[(0,1),(1,1),(2,1)]) zeroValue84 underlying84 (λw=>by simp [sizeOf3]) O O) O (Ad O) ?_)))))))))))
 refine AC.step (v:=(Value.bool true)) (AA O) (DK (c:=true) O O eqGuardType84 (L5 (a:=JQ.getD 0 ((0,0,0):Tq3)) (b:=((0,1,0):T3)) 9998 O)) O (Ad O) (AJ (v:=(Value.bool true)) (AW O O) O (AM O (AC.step (v:=(Value.slice wy.p 4 wy.c)) (AA O) (AU O) O (Ad O) (AC.step (v:=(pP (pB wy.p) (pO wy.p+1*3))) (AA O) (AG (j:=1) O O wy.ok underlying74 sizeOf84 O (by decide)) O (Ad O) (AC.step (v:=(aG (AZ (JQ.getD 1 ((0,0,0):Tq3))))) (AA O) (Ak (vs:=AZ (JQ.getD 1 ((0,0,0):Tq3))) (i:=8) O O (Aw.ne wy.ok (by decide)) Zk (BD Aa _ _ _ (by decide)) (Aa _)) O (Ad O) (AC.step (v:=(aG ([(vI 3),(vI 0),(vI 1)]))) (AA O) (AY (zs:=AZ ((0,0,0):Tq3)) (vs:=[(vI 3),(vI 0),(vI 1)]) (pv:=[(0,(vI 3)),(1,(vI 0)),(2,(vI 1))]) (places:=[(0,1),(1,1),(2,1)]) zeroValue84 underlying84 (λw=>by simp [sizeOf3]) O O) O (Ad O) (AC.step (v:=(Value.bool true)) (AA O) (DK (c:=true) O O eqGuardType84 (L5 (a:=JQ.getD 1 ((0,0,0):Tq3)) (b:=((3,0,1):T3)) 9998 O)) O (Ad O) (AJ (v:=(Value.bool true)) (AW O O) O (AM O (AC.step (v:=(Value.slice lo.q.p 1 lo.q.c)) (AA O) (AU O) O (Ad O) (AC.step (v:=(vI 1)) (AA O) (AF O underlying80) O (Ad O) ?_)))))))))))
 refine AC.step (v:=(Value.bool true)) (AA O) (BQ (c:=true) O O (by decide)) O (Ad O) (AJ (v:=(Value.bool true)) (AW O O) O (AM O (AC.step (v:=(Value.slice lo.q.p 1 lo.q.c)) (AA O) (AU O) O (Ad O) (AC.step (v:=(pP (pB lo.q.p) (pO lo.q.p+0*1))) (AA O) (AG (j:=0) O O lo.q.ok underlying80 sizeOf86 O (by decide)) O (Ad O) (AC.step (v:=(Value.slice lo.r.p 4 lo.r.c)) (AA O) (AL (v:=(Value.slice lo.r.p 4 lo.r.c)) (i:=6) O O (lo.q.ok.ne (by decide)) XH O) O (Ad O) (AC.step (v:=(vI 4)) (AA O) (AF O underlying86) O (Ad O) (AC.step (v:=(Value.bool true)) (AA O) (BQ (c:=true) O O (by decide)) O (Ad O) (AJ (v:=(Value.bool true)) (AW O O) O (AM O (AC.step (v:=(Value.slice lo.q.p 1 lo.q.c)) (AA O) (AU O) O (Ad O) (AC.step (v:=(pP (pB lo.q.p) (pO lo.q.p+0*1))) (AA O) (AG (j:=0) O O lo.q.ok underlying80 sizeOf86 O (by decide)) O (Ad O) ?_)))))))))))
 refine AC.step (v:=(Value.slice lo.r.p 4 lo.r.c)) (AA O) (AL (v:=(Value.slice lo.r.p 4 lo.r.c)) (i:=6) O O (lo.q.ok.ne (by decide)) XH O) O (Ad O) (AC.step (v:=(pP (pB lo.r.p) (pO lo.r.p+1*1))) (AA O) (AG (j:=1) O O lo.r.ok underlying86 sizeOf3 O (by decide)) O (Ad O) (AC.step (v:=(vN (([0,1,2,3]).getD 1 0))) (AA O) (AL (v:=(vN (([0,1,2,3]).getD 1 0))) (i:=7) O O (lo.r.ok.ne (by decide)) BY (CV (l:=[0,1,2,3]) (j:=1) (by decide))) O (Ad O) (AC.step (v:=(Value.bool true)) (AA O) (BQ (c:=true) O O (by decide)) O (Ad O) (AJ (v:=(Value.bool true)) (AW O O) O (AM O (AC.step (v:=(aG (Bp mm))) (AA O) (BB (i:=10) (vs:=Bp mm) O O DA.a DA.s O O) O (Ad O) (AC.call (v:=(vI 1)) (AA O) (A_ (args:=[(aG (Bp mm))]) O O call25) (λw hw=>(by have h9:=KG mm (by decide +kernel) (by decide) (by decide) w (aM hw [12,11,9] O hmm);rw [show FR IX=1 from by decide +kernel] at h9;exact h9)) O (Ad O) (AC.step (v:=(Value.bool true)) (AA O) (BQ (c:=true) O O (by decide)) O (Ad O) (AJ (v:=(Value.bool true)) (AW O O) O (AM O (AC.step (v:=(aG (Bp mm))) (AA O) (BB (i:=10) (vs:=Bp mm) O O DA.a DA.s O O) O (Ad O) ?_)))))))))))
 refine AC.call (v:=(vI 0)) (AA O) (A_ (args:=[(aG (Bp mm))]) O O call27) (λw hw=>(by have h9:=Oj mm pb.l pb.n pb.pts (by decide +kernel) (by decide) (by decide) (by decide) w (aM hw [12,11,9] O hmm);rw [hpb,show (((1:Nat):Int)-FR IX)=0 from by decide +kernel] at h9;exact h9)) O (Ad O) (AC.step (v:=(Value.bool true)) (AA O) (BQ (c:=true) O O (by decide)) O (Ad O) (AJ (v:=(Value.bool true)) (AW O O) O (AM O (AC.step (v:=(vN pb.n)) (AA O) (AU O) O (Ad O) (AC.step (v:=(Value.bool true)) (AA O) (BQ (c:=true) O O (decide_eq_true Z)) O (Ad O) (AJ (v:=(Value.bool true)) (AW O O) O (AM O (AC.step (v:=(vN pk.n)) (AA O) (AU O) O (Ad O) (AC.step (v:=(Value.bool true)) (AA O) (BQ (c:=true) O O (decide_eq_true Z)) O (Ad O) (AJ (v:=(Value.bool true)) (AW O O) O (AM O ?_)))))))))))
 exact AC.step (v:=(aG (Bp m2))) (AA O) (BB (i:=3) (vs:=Bp m2) O O DA.a DA.s O O) O (Ad O) (AC.unguard (AA O) (AC.callR (S:=λ_=>False) (α:=ch 2) (args:=[(aG (Bp m2))]) call20 (λw hw=>VI m2 w (aM hw [5,4,2] O hm2)) O O O λlk llk=>AC.step (v:=(vI 2)) (AA O) (AF O underlying80) O (Ad O) (AC.step (v:=(Value.bool true)) (AA O) (BQ (c:=true) O O (by decide)) O (Ad O) (AJ (v:=(Value.bool true)) (AW O O) O (AI O (AC.nil (OkQ.subF (sL [0,1,4] O) (OkQ.then_ (AE.ret (AV O (Ah (v:=(Value.bool true)) O) (λw hw=>⟨rfl,hw.out⟩)))))))))))
end
section
abbrev XJ (_:Nat):Prop:=True
theorem Wi (l:List Nat):inL l=zL (l.map λd:Nat=>(d:Int)):=by unfold inL zL;rw [List.map_map];rfl
structure bA (ls:List (List Nat)) where
  a:V_ ls
  b:V_ ls
  hc:a.q.c=a.rs.length
  hr:∀r∈a.rs,r.c=r.l.length
instance {ls:List (List Nat)}:Cf (bA ls):=⟨λx=>x.a.q.val,λx=>x.a.q.row::x.b.q.row::(D8 x.a.rs++D8 x.b.rs),λx y hy=>by
  rcases List.mem_cons.1 hy with rfl|hy
  · rfl
  · rcases List.mem_cons.1 hy with rfl|hy
    · rfl
    · rcases List.mem_append.1 hy with hy|hy<;>· obtain ⟨r,_,rfl⟩:=List.mem_map.1 hy;rfl⟩
section
variable {ls:List (List Nat)} {w0:BL} {w:World} {L:List As} {rs:List RI} {i:Nat}
theorem bC (hw:BS w0 w L) (x:bA ls) (h:∀z∈Cf.rows x,z∈L):Ro XJ w x:=λy hy=>⟨λb e=>(hw.2.1 _ (h y hy) b e).2,λ_ _=>trivial⟩
theorem Xz {A:List As} {x:bA ls} (h1:x.a.q.row∈A) (h2:x.b.q.row∈A):∀z∈Cf.rows x,z∈A++(D8 x.a.rs++D8 x.b.rs):=λz hz=>by
  rcases List.mem_cons.1 hz with rfl|hz
  · exact List.mem_append_left _ h1
  · rcases List.mem_cons.1 hz with rfl|hz
    · exact List.mem_append_left _ h2
    · exact List.mem_append_right _ hz
theorem RZ (hi:i<rs.length):riR (rs.getD i default)∈D8 rs:=by
  rw [List.getD,List.getElem?_eq_getElem hi]
  exact List.mem_map.2 ⟨_,List.getElem_mem hi,rfl⟩
theorem SS (hi:i<rs.length):rs.getD i default∈rs:=by
  rw [List.getD,List.getElem?_eq_getElem hi]
  exact List.getElem_mem hi
theorem bT (hw:BS w0 w L) {r:RI} (h:riR r∈L):Ro XJ w (ae r):=λy hy=>by
  rcases List.mem_singleton.1 hy with rfl
  exact ⟨λb e=>(hw.2.1 _ h b e).2,λ_ _=>trivial⟩
theorem Xs {a b:List RI} (h:a.map (·.l)=b.map (·.l)) (hi:i<a.length):(a.getD i default).l=(b.getD i default).l:=by
  have hl:a.length=b.length:=by have h9:=congrArg List.length h;rwa [List.length_map,List.length_map] at h9
  have h2:=congrArg (λl:List (List Nat)=>l[i]?) h
  simp only [List.getElem?_map,List.getElem?_eq_getElem hi,List.getElem?_eq_getElem (show i<b.length by omega),Option.map_some,Option.some.injEq] at h2
  rw [List.getD,List.getD,List.getElem?_eq_getElem hi,List.getElem?_eq_getElem (show i<b.length by omega)]
  exact h2
end
end
end Go.Proofs.YtpgncndhhhllfaaGreat
