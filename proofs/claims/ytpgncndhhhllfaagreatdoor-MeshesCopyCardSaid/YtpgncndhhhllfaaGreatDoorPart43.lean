import Derived.Test.YtpgncndhhhllfaaGreatDoorPart15
import Derived.Test.YtpgncndhhhllfaaGreatDoorPart28
import Derived.Test.YtpgncndhhhllfaaGreatDoorPart42
namespace Go.Proofs.YtpgncndhhhllfaaGreatDoor
open Go Go.RowKit Go.Proofs.Tryz
set_option linter.unusedVariables false
set_option linter.unusedSimpArgs false
section
set_option maxRecDepth 100000
theorem QM (w:World):Calls Tryz.prog 36 #[(vI 0),(vI 0)] w (Al w (aG (Af (⟨0,0⟩:Pt)))):=by
 have h:=IQ 0 0 (by decide) (by decide) (by decide) (by decide) w
 rw [show (⟨((0:Int):Rat),((0:Int):Rat)⟩:Pt)=(⟨0,0⟩:Pt) from by decide +kernel] at h
 exact h
theorem PK (w:World):Calls Tryz.prog 36 #[(vI 1),(vI 0)] w (Al w (aG (Af (⟨1,0⟩:Pt)))):=by
 have h:=IQ 1 0 (by decide) (by decide) (by decide) (by decide) w
 rw [show (⟨((1:Int):Rat),((0:Int):Rat)⟩:Pt)=(⟨1,0⟩:Pt) from by decide +kernel] at h
 exact h
theorem PC (w:World):Calls Tryz.prog 36 #[(vI 1),(vI 1)] w (Al w (aG (Af (⟨1,1⟩:Pt)))):=by
 have h:=IQ 1 1 (by decide) (by decide) (by decide) (by decide) w
 rw [show (⟨((1:Int):Rat),((1:Int):Rat)⟩:Pt)=(⟨1,1⟩:Pt) from by decide +kernel] at h
 exact h
theorem P6 (w:World):Calls Tryz.prog 36 #[(vI 0),(vI 1)] w (Al w (aG (Af (⟨0,1⟩:Pt)))):=by
 have h:=IQ 0 1 (by decide) (by decide) (by decide) (by decide) w
 rw [show (⟨((0:Int):Rat),((1:Int):Rat)⟩:Pt)=(⟨0,1⟩:Pt) from by decide +kernel] at h
 exact h
theorem Iz (x0 x1 x2 x3:Pt):Instr.fill (λi=>some (i*10,10)) ((Array.range (4*10)).map ((Value.agg (Af (⟨0,0⟩:Pt)).toArray).cells[·%(Value.agg (Af (⟨0,0⟩:Pt)).toArray).cells.size]!)) [(0,.agg (Af x0).toArray),(1,.agg (Af x1).toArray),(2,.agg (Af x2).toArray),(3,.agg (Af x3).toArray)]=some (Af x0++Af x1++Af x2++Af x3).toArray:=by kernel_rfl
theorem DN (x0 x1 x2:Nat):Instr.fill (λi=>some (i*1,1)) (BA ((0,0,0):Nat×Nat×Nat)).toArray [(0,vN x0),(1,vN x1),(2,vN x2)]=some (BA (x0,x1,x2)).toArray:=by kernel_rfl
theorem Fu (x0 x1:Nat×Nat×Nat):Instr.fill (λi=>some (i*3,3)) ((Array.range (2*3)).map ((Value.agg (BA ((0,0,0):Nat×Nat×Nat)).toArray).cells[·%(Value.agg (BA ((0,0,0):Nat×Nat×Nat)).toArray).cells.size]!)) [(0,.agg (BA x0).toArray),(1,.agg (BA x1).toArray)]=some (BA x0++BA x1).toArray:=by kernel_rfl
theorem Ie (x0 x1 x2 x3:Nat×Nat×Nat):Instr.fill (λi=>some (i*3,3)) ((Array.range (4*3)).map ((Value.agg (BA ((0,0,0):Nat×Nat×Nat)).toArray).cells[·%(Value.agg (BA ((0,0,0):Nat×Nat×Nat)).toArray).cells.size]!)) [(0,.agg (BA x0).toArray),(1,.agg (BA x1).toArray),(2,.agg (BA x2).toArray),(3,.agg (BA x3).toArray)]=some (BA x0++BA x1++BA x2++BA x3).toArray:=by kernel_rfl
set_option maxHeartbeats 1000000 in
theorem Dj  (w:World)  :Calls Tryz.prog 8 #[] w (Al w (Value.bool true)):=by
 refine Aa (args:=[]) Tryz.func8 rfl rfl (AV rfl) (AE.subF sN (q4 (asg' rfl (AD.nil (q2 ?_)))))
 refine ck' Tryz.call36 (QM) rfl (ck' Tryz.call36 (PK) rfl (ck' Tryz.call36 (PC) rfl (ck' Tryz.call36 (P6) rfl (AD.openV (V:=λb1=>(Value.slice (some ⟨b1,0,none⟩) 4 4)) (T:=51) (cs:=Af (⟨0,0⟩:Pt)++Af (⟨1,0⟩:Pt)++Af (⟨1,1⟩:Pt)++Af (⟨0,1⟩:Pt)) (AW rfl) (BI (z:=.agg (Af (⟨0,0⟩:Pt)).toArray) (cs:=Af (⟨0,0⟩:Pt)++Af (⟨1,0⟩:Pt)++Af (⟨1,1⟩:Pt)++Af (⟨0,1⟩:Pt)) (pv:=[(0,(aG (Af (⟨0,0⟩:Pt)))),(1,(aG (Af (⟨1,0⟩:Pt)))),(2,(aG (Af (⟨1,1⟩:Pt)))),(3,(aG (Af (⟨0,1⟩:Pt))))]) Tryz.underlying28 Tryz.sizeOf51 Tryz.zeroValue51 (by decide) (by decide) rfl (Iz (⟨0,0⟩:Pt) (⟨1,0⟩:Pt) (⟨1,1⟩:Pt) (⟨0,1⟩:Pt))) rfl (AV rfl) λb1=>AK (v:=(aG (BA (0,1,2)))) (Bx (zs:=BA ((0,0,0):Nat×Nat×Nat)) (vs:=BA (0,1,2)) (pv:=[(0,(vI 0)),(1,(vI 1)),(2,(vI 2))]) Tryz.zeroValue53 Tryz.underlying53 Tryz.sizeOf3 rfl (DN 0 1 2)) rfl ?_))))
 refine AK (v:=(aG (BA (0,2,3)))) (Bx (zs:=BA ((0,0,0):Nat×Nat×Nat)) (vs:=BA (0,2,3)) (pv:=[(0,(vI 0)),(1,(vI 2)),(2,(vI 3))]) Tryz.zeroValue53 Tryz.underlying53 Tryz.sizeOf3 rfl (DN 0 2 3)) rfl (AD.openV (V:=λb2=>(Value.slice (some ⟨b2,0,none⟩) 2 2)) (T:=53) (cs:=BA (0,1,2)++BA (0,2,3)) (AW rfl) (BI (z:=.agg (BA ((0,0,0):Nat×Nat×Nat)).toArray) (cs:=BA (0,1,2)++BA (0,2,3)) (pv:=[(0,(aG (BA (0,1,2)))),(1,(aG (BA (0,2,3))))]) Tryz.underlying23 Tryz.sizeOf53 Tryz.zeroValue53 (by decide) (by decide) rfl (Fu (0,1,2) (0,2,3))) rfl (AV rfl) λb2=>AK (v:=(aG ([(vI 0),(vI 1),(vI 1)]))) (AU (zs:=BA ((0,0,0):Nat×Nat×Nat)) (vs:=[(vI 0),(vI 1),(vI 1)]) (pv:=[(0,(vI 0)),(1,(vI 1)),(2,(vI 1))]) (places:=[(0,1),(1,1),(2,1)]) Tryz.zeroValue55 Tryz.underlying55 (λw=>by simp [Tryz.sizeOf3]) rfl rfl) rfl (AK (v:=(aG ([(vI 0),(vI 3),(vI 0)]))) (AU (zs:=BA ((0,0,0):Nat×Nat×Nat)) (vs:=[(vI 0),(vI 3),(vI 0)]) (pv:=[(0,(vI 0)),(1,(vI 3))]) (places:=[(0,1),(1,1),(2,1)]) Tryz.zeroValue55 Tryz.underlying55 (λw=>by simp [Tryz.sizeOf3]) rfl rfl) rfl (AK (v:=(aG ([(vI 1),(vI 2),(vI 0)]))) (AU (zs:=BA ((0,0,0):Nat×Nat×Nat)) (vs:=[(vI 1),(vI 2),(vI 0)]) (pv:=[(0,(vI 1)),(1,(vI 2))]) (places:=[(0,1),(1,1),(2,1)]) Tryz.zeroValue55 Tryz.underlying55 (λw=>by simp [Tryz.sizeOf3]) rfl rfl) rfl (AK (v:=(aG ([(vI 2),(vI 3),(vI 0)]))) (AU (zs:=BA ((0,0,0):Nat×Nat×Nat)) (vs:=[(vI 2),(vI 3),(vI 0)]) (pv:=[(0,(vI 2)),(1,(vI 3))]) (places:=[(0,1),(1,1),(2,1)]) Tryz.zeroValue55 Tryz.underlying55 (λw=>by simp [Tryz.sizeOf3]) rfl rfl) rfl ?_))))
 refine AD.openV (V:=λb3=>(Value.slice (some ⟨b3,0,none⟩) 4 4)) (T:=55) (cs:=BA ((0,1,1):T3)++BA ((0,3,0):T3)++BA ((1,2,0):T3)++BA ((2,3,0):T3)) (AW rfl) (BI (z:=.agg (BA ((0,0,0):Nat×Nat×Nat)).toArray) (cs:=BA ((0,1,1):T3)++BA ((0,3,0):T3)++BA ((1,2,0):T3)++BA ((2,3,0):T3)) (pv:=[(0,(aG ([(vI 0),(vI 1),(vI 1)]))),(1,(aG ([(vI 0),(vI 3),(vI 0)]))),(2,(aG ([(vI 1),(vI 2),(vI 0)]))),(3,(aG ([(vI 2),(vI 3),(vI 0)])))]) Tryz.underlying24 Tryz.sizeOf55 Tryz.zeroValue55 (by decide) (by decide) rfl (Ie ((0,1,1):T3) ((0,3,0):T3) ((1,2,0):T3) ((2,3,0):T3))) rfl (AV rfl) λb3=>AK (v:=(aG ([(Value.slice (some ⟨b1,0,none⟩) 4 4),(Value.slice (some ⟨b2,0,none⟩) 2 2),(Value.slice (some ⟨b3,0,none⟩) 4 4)]))) (AU (zs:=[(Value.slice none 0 0),(Value.slice none 0 0),(Value.slice none 0 0)]) (vs:=[(Value.slice (some ⟨b1,0,none⟩) 4 4),(Value.slice (some ⟨b2,0,none⟩) 2 2),(Value.slice (some ⟨b3,0,none⟩) 4 4)]) (pv:=[(0,(Value.slice (some ⟨b1,0,none⟩) 4 4)),(1,(Value.slice (some ⟨b2,0,none⟩) 2 2)),(2,(Value.slice (some ⟨b3,0,none⟩) 4 4))]) (places:=[(0,1),(1,1),(2,1)]) Tryz.zeroValue30 Tryz.underlying30 (λw=>by simp [Tryz.sizeOf23,Tryz.sizeOf24,Tryz.sizeOf28]) rfl rfl) rfl (al M8 rfl λb4=>A8 rfl Tryz.sizeOf30 rfl (AD.litM (S:=λ_=>False) (ps:=EY) (ts:=Cd) (ss:=Jn) (λmm=>[Ad b4 30 (DA mm),AG mm.c.p (rowsL BA Jn),AG mm.b.p (rowsL BA Cd),AG mm.a.p (rowsL Af EY)]) 3 2 1 (by decide) rfl rfl rfl rfl rfl rfl λmm hmm=>q3 (sL [0,1] rfl) ?_))
 refine BG 0 Bi rfl (cX (S:=λ_=>False) (cs:=rowsL B6 (B0 Cd)) (k:=(B0 Cd).length) (args:=[(aG (DA mm))]) Tryz.call37 (λw hw=>Qv mm (by decide) (by decide) (by decide +kernel) w (XF hw [3,2,1] rfl hmm)) rfl rfl rfl λo lo=>?_)
 have hel:(B0 Cd).length=5:=by decide +kernel
 refine asg' rfl (q3 (sL [0,1,2] rfl) (BG 1 Bi rfl (al M8 rfl λb5=>A8 rfl Tryz.sizeOf30 rfl (q3 (sL [0,1,2,3] rfl) ?_))))
 refine AK (v:=(aG (BA (0,1,2)))) (Bx (zs:=BA ((0,0,0):Nat×Nat×Nat)) (vs:=BA (0,1,2)) (pv:=[(0,(vI 0)),(1,(vI 1)),(2,(vI 2))]) Tryz.zeroValue53 Tryz.underlying53 Tryz.sizeOf3 rfl (DN 0 1 2)) rfl (AK (v:=(aG (BA (0,3,2)))) (Bx (zs:=BA ((0,0,0):Nat×Nat×Nat)) (vs:=BA (0,3,2)) (pv:=[(0,(vI 0)),(1,(vI 3)),(2,(vI 2))]) Tryz.zeroValue53 Tryz.underlying53 Tryz.sizeOf3 rfl (DN 0 3 2)) rfl (AD.openV (V:=λb6=>(Value.slice (some ⟨b6,0,none⟩) 2 2)) (T:=53) (cs:=BA (0,1,2)++BA (0,3,2)) (AW rfl) (BI (z:=.agg (BA ((0,0,0):Nat×Nat×Nat)).toArray) (cs:=BA (0,1,2)++BA (0,3,2)) (pv:=[(0,(aG (BA (0,1,2)))),(1,(aG (BA (0,3,2))))]) Tryz.underlying23 Tryz.sizeOf53 Tryz.zeroValue53 (by decide) (by decide) rfl (Fu (0,1,2) (0,3,2))) rfl (AV rfl) λb6=>AK (v:=(pP b5 1)) (AA rfl Tryz.underlying30 rfl Tryz.sizeOf23 rfl) rfl (Hp 1 (off:=1) (vs:=[(Value.slice (some ⟨b6,0,none⟩) 2 2)]) (cs':=[(Value.slice mm.a.p EY.length mm.a.c),(Value.slice (some ⟨b6,0,none⟩) 2 2),(Value.slice mm.c.p Jn.length mm.c.c)]) (AW rfl) rfl Tryz.sizeOf23 rfl (AD.litT (S:=λ_=>False) (ts:=NO) (λtt=>[AG tt.p (rowsL BA NO),Ad b5 30 ([(Value.slice mm.a.p EY.length mm.a.c),(Value.slice tt.p NO.length tt.c),(Value.slice mm.c.p Jn.length mm.c.c)]),AG o.p (rowsL B6 (B0 Cd)),Ad b4 30 (DA mm),AG mm.c.p (rowsL BA Jn),AG mm.b.p (rowsL BA Cd),AG mm.a.p (rowsL Af EY)]) 0 rfl rfl rfl rfl λtt htt=>?_))))
 refine q3 (sL [0,1,2,3] rfl) (BG 3 Bi rfl (CN Tryz.call21 (λw hw=>RS mm Te w (XF hw [6,5,4] rfl hmm)) rfl (AK (BR (c:=true) rfl rfl (by decide)) rfl (AQ rfl (AD.step (v:=(Value.slice o.p ((B0 Cd).length) o.c)) (AB rfl) (A9 rfl) rfl (AV rfl) ?_)))))
 refine AD.step (v:=(vN ((B0 Cd).length))) (AB rfl) (AF rfl Tryz.underlying88) rfl (AV rfl) (AD.step (v:=(Value.bool true)) (AB rfl) (BR (c:=true) rfl rfl (decide_eq_true (by rw [hel];rfl))) rfl (AV rfl) (AK (v:=(Value.bool true)) (AX rfl rfl) rfl (AQ rfl (AD.step (v:=(Value.slice o.p ((B0 Cd).length) o.c)) (AB rfl) (A9 rfl) rfl (AV rfl) (AD.step (v:=(pP (pB o.p) (pO o.p+0*4))) (AB rfl) (AO (j:=0) rfl rfl o.ok Tryz.underlying88 Tryz.sizeOf91 rfl (by omega)) rfl (AV rfl) ?_)))))
 refine AD.step (v:=(aG (B6 ((B0 Cd).getD 0 (⟨0,0,0,0⟩:E4))))) (AB rfl) (AT (vs:=B6 ((B0 Cd).getD 0 (⟨0,0,0,0⟩:E4))) (i:=2) rfl rfl (A7.ne o.ok (by omega)) Mj (Aq Cl _ _ _ (by omega)) (Cl _)) rfl (AV rfl) (AD.step (v:=(aG ([(vI 0),(vI 1),(vI 0),(vI (-1:Int))]))) (AB rfl) (AU (zs:=B6 (⟨0,0,0,0⟩:E4)) (vs:=[(vI 0),(vI 1),(vI 0),(vI (-1:Int))]) (pv:=[(0,(vI 0)),(1,(vI 1)),(2,(vI 0)),(3,(vI (-1:Int)))]) (places:=[(0,1),(1,1),(2,1),(3,1)]) Tryz.zeroValue91 Tryz.underlying91 (λw=>by simp [Tryz.sizeOf3]) rfl rfl) rfl (AV rfl) (AD.step (v:=(Value.bool true)) (AB rfl) (B1 (c:=true) rfl rfl Tryz.eqGuardType91 (Ir (a:=(B0 Cd).getD 0 (⟨0,0,0,0⟩:E4)) (b:=(⟨0,1,((0:Nat):Int),-1⟩:E4)) 9998 (by decide +kernel))) rfl (AV rfl) (AK (v:=(Value.bool true)) (AX rfl rfl) rfl (AQ rfl (AD.step (v:=(Value.slice o.p ((B0 Cd).length) o.c)) (AB rfl) (A9 rfl) rfl (AV rfl) ?_)))))
 refine AD.step (v:=(pP (pB o.p) (pO o.p+1*4))) (AB rfl) (AO (j:=1) rfl rfl o.ok Tryz.underlying88 Tryz.sizeOf91 rfl (by omega)) rfl (AV rfl) (AD.step (v:=(aG (B6 ((B0 Cd).getD 1 (⟨0,0,0,0⟩:E4))))) (AB rfl) (AT (vs:=B6 ((B0 Cd).getD 1 (⟨0,0,0,0⟩:E4))) (i:=2) rfl rfl (A7.ne o.ok (by omega)) Mj (Aq Cl _ _ _ (by omega)) (Cl _)) rfl (AV rfl) (AD.step (v:=(aG ([(vI 0),(vI 2),(vI 1),(vI 0)]))) (AB rfl) (AU (zs:=B6 (⟨0,0,0,0⟩:E4)) (vs:=[(vI 0),(vI 2),(vI 1),(vI 0)]) (pv:=[(0,(vI 0)),(1,(vI 2)),(2,(vI 1)),(3,(vI 0))]) (places:=[(0,1),(1,1),(2,1),(3,1)]) Tryz.zeroValue91 Tryz.underlying91 (λw=>by simp [Tryz.sizeOf3]) rfl rfl) rfl (AV rfl) (AD.step (v:=(Value.bool true)) (AB rfl) (B1 (c:=true) rfl rfl Tryz.eqGuardType91 (Ir (a:=(B0 Cd).getD 1 (⟨0,0,0,0⟩:E4)) (b:=(⟨0,2,((1:Nat):Int),((0:Nat):Int)⟩:E4)) 9998 (by decide +kernel))) rfl (AV rfl) (AK (v:=(Value.bool true)) (AX rfl rfl) rfl (AQ rfl ?_)))))
 refine AD.step (v:=(Value.slice o.p ((B0 Cd).length) o.c)) (AB rfl) (A9 rfl) rfl (AV rfl) (AD.step (v:=(pP (pB o.p) (pO o.p+2*4))) (AB rfl) (AO (j:=2) rfl rfl o.ok Tryz.underlying88 Tryz.sizeOf91 rfl (by omega)) rfl (AV rfl) (AD.step (v:=(aG (B6 ((B0 Cd).getD 2 (⟨0,0,0,0⟩:E4))))) (AB rfl) (AT (vs:=B6 ((B0 Cd).getD 2 (⟨0,0,0,0⟩:E4))) (i:=2) rfl rfl (A7.ne o.ok (by omega)) Mj (Aq Cl _ _ _ (by omega)) (Cl _)) rfl (AV rfl) (AD.step (v:=(aG ([(vI 0),(vI 3),(vI (-1:Int)),(vI 1)]))) (AB rfl) (AU (zs:=B6 (⟨0,0,0,0⟩:E4)) (vs:=[(vI 0),(vI 3),(vI (-1:Int)),(vI 1)]) (pv:=[(0,(vI 0)),(1,(vI 3)),(2,(vI (-1:Int))),(3,(vI 1))]) (places:=[(0,1),(1,1),(2,1),(3,1)]) Tryz.zeroValue91 Tryz.underlying91 (λw=>by simp [Tryz.sizeOf3]) rfl rfl) rfl (AV rfl) (AD.step (v:=(Value.bool true)) (AB rfl) (B1 (c:=true) rfl rfl Tryz.eqGuardType91 (Ir (a:=(B0 Cd).getD 2 (⟨0,0,0,0⟩:E4)) (b:=(⟨0,3,-1,((1:Nat):Int)⟩:E4)) 9998 (by decide +kernel))) rfl (AV rfl) (AK (v:=(Value.bool true)) (AX rfl rfl) rfl ?_)))))
 refine AQ rfl (AD.step (v:=(aG (DA mm))) (AB rfl) (Ak (i:=3) (vs:=DA mm) rfl rfl Bi.a Bi.s rfl rfl) rfl (AV rfl) (AD.call (v:=(aG (AN (G2 EY Cd Cd.length)))) (AB rfl) (An (args:=[(aG (DA mm))]) rfl rfl Tryz.call24) (λw hw=>Sc mm (by decide) Nv (by decide +kernel) w (XF hw [6,5,4] rfl hmm)) rfl (AV rfl) (AD.call (v:=(Value.string (O3 (G2 EY Cd Cd.length)))) (AB rfl) (An (args:=[(aG (AN (G2 EY Cd Cd.length)))]) rfl rfl Tryz.call38) (λw hw=>Qs (G2 EY Cd Cd.length) (by decide +kernel) (by decide +kernel) w) rfl (AV rfl) (AD.step (v:=(Value.bool true)) (AB rfl) (BV (c:=true) rfl rfl (by decide +kernel)) rfl (AV rfl) (AK (v:=(Value.bool true)) (AX rfl rfl) rfl ?_)))))
 refine AQ rfl (AD.step (v:=(aG ([(Value.slice mm.a.p EY.length mm.a.c),(Value.slice tt.p NO.length tt.c),(Value.slice mm.c.p Jn.length mm.c.c)]))) (AB rfl) (Ak (i:=1) (vs:=[(Value.slice mm.a.p EY.length mm.a.c),(Value.slice tt.p NO.length tt.c),(Value.slice mm.c.p Jn.length mm.c.c)]) rfl rfl Bi.a Bi.s rfl rfl) rfl (AV rfl) (AD.call (v:=(vI 1)) (AB rfl) (An (args:=[(aG ([(Value.slice mm.a.p EY.length mm.a.c),(Value.slice tt.p NO.length tt.c),(Value.slice mm.c.p Jn.length mm.c.c)]))]) rfl rfl Tryz.call21) (λw hw=>Pf (⟨mm.a,tt,mm.c⟩:MX EY NO Jn) (by decide +kernel) (by decide) (by decide) (by decide) Nv 1 (by decide) (by decide +kernel) (by decide +kernel) w (XF hw [6,0,4] rfl (At.withT hmm htt))) rfl (AV rfl) (AD.step (v:=(Value.bool true)) (AB rfl) (BR (c:=true) rfl rfl (by decide)) rfl (AV rfl) (AK (v:=(Value.bool true)) (AX rfl rfl) rfl (asg' rfl ?_)))))
 exact AD.nil (AC.subF (sL [0,1,3] rfl) (AC.then_ (AE.ret (AJ rfl (AS (v:=(Value.bool true)) rfl) (λw hw=>⟨rfl,hw.out⟩)))))
end
section
section
variable {P:Program} {t:TypeId} {q:Option Addr} {cs news:List Value} {c2:Nat}
theorem IG (w:World) {n m:Nat} {ty e:TypeId} {z bytes:Nat} (ht:ElemT P t e z bytes) (hok:A7 q n n) (hl:cs.length=n*z) (hold:∀b,q.map (·.block)=some b->∃o,w.heap[b]?=some o/\Es (pO q) cs o)
    (a:Addr) (hnl:news.length=m*z) (hnews:∀j u,news[j]?=some u->w.cell? (a.add j)=some u) (hm:0<m) (h63:n+m<=maxLen) (hbytes:(n+m)*bytes<=140737488355328) :
    ∃p' c' w',(Builtin.append_ #[t,t] ty #[.slice q n n,.slice (some a) m c2]).run P w=.ok (.slice p' (n+m) c') w'/\OwnOk p' (n+m) c'/\Dz w.heap.size w w' /\
      ∀b,p'.map (·.block)=some b->w.heap.size<=b/\∃o,w'.heap[b]?=some o/\(rowW p' e z (n+m) c' (cs++news)).P o:=by
  obtain ⟨i,zv,hi,hz,rfl,rfl,hzs⟩:=ht.i
  have hlen:(cs++news).length=(n+m)*i.size:=by rw [List.length_append,hl,hnl,Nat.add_mul]
  have grown:∀(old:Nat),old<n+m->OwnOk (some ⟨w.heap.size,0,none⟩) (n+m) (grownCap w (n+m) old e) /\
      Dz w.heap.size w (w.drew.alloc (.cells (cs.toArray++news.toArray++Builtin.zeroCells zv.cells (grownCap w (n+m) old e-(n+m))) e)) /\
      ∃o,(w.drew.alloc (.cells (cs.toArray++news.toArray++Builtin.zeroCells zv.cells (grownCap w (n+m) old e-(n+m))) e)).heap[w.heap.size]?=some o/\(rowW (some ⟨w.heap.size,0,none⟩) e i.size (n+m) (grownCap w (n+m) old e) (cs++news)).P o:=by
    intro old hold'
    have hge:=grownCap_ge w (n+m) old e
    refine ⟨⟨λh=>(by cases h),λa h=>(by injection h with h;subst h;rfl),hge,grownCap_le_maxLen w (n+m) old e h63⟩,⟨⟨rfl,rfl,rfl,by simp,λk hk=>by first|exact heap_alloc_old w.drew _ k hk|exact heap_alloc_old w.drew _ hk⟩,Nat.le_succ _⟩,_,heap_alloc_new w.drew _,_,rfl,?_,?_⟩
    · simp only [Array.size_append,List.size_toArray,size_zeroCells,hzs,hl,hnl,<-Nat.add_mul]
      congr 1
      omega
    · simp only [Array.toList_append,List.append_assoc]
      rw [<-List.append_assoc,<-hlen]
      exact List.take_left
  cases hq:q with
  | none =>
    subst hq
    obtain ⟨rfl,_⟩:=hok.nil rfl
    have hx:cs=[]:=List.eq_nil_of_length_eq_zero (by simpa using hl)
    subst hx
    have hr:=run_append_nil (P:=P) w t ty e i zv ht.u hi hz a m c2 news hnl hnews hm (by simp only [maxLen] at h63;omega) (by have hb:=hbytes;simp only [Nat.zero_add] at hb;omega)
    obtain ⟨g1,g2,g3⟩:=grown 0 (by omega)
    simp only [Nat.zero_add,List.nil_append,Array.empty_append] at g1 g2 g3 ⊢
    refine ⟨_,_,_,hr,g1,g2,λb e=>?_⟩
    injection e with e;subst e
    exact ⟨Nat.le_refl _,g3⟩
  | some ad =>
    subst hq
    obtain ⟨o,hob,hlies⟩:=hold ad.block rfl
    have hsp:=hok.spot ad rfl
    have hat:ad=⟨ad.block,ad.off,none⟩:=by rw [<-hsp]
    have holds:∀j u,cs[j]?=some u->w.cell? (ad.add j)=some u:=λj u hu=>by
      have h9:=Es.cell hlies hob hu
      rw [hat,Addr.add_lit]
      exact h9
    have hr:=run_append_grow (P:=P) w t ty e i zv ht.u hi hz ad n n cs hl holds a m c2 news hnl hnews (by omega) (by simp only [maxLen] at h63;omega) (growslice_fits (by omega) hbytes)
    obtain ⟨g1,g2,g3⟩:=grown n (by omega)
    refine ⟨_,_,_,hr,g1,g2,λb e=>?_⟩
    injection e with e;subst e
    exact ⟨Nat.le_refl _,g3⟩
end
section
variable {P:Program} {ops:Array Oper} {rest:List Oper} {Q:Exit->Act->World->Prop} {n d z m c c2 b:Nat} {F:List (Nat×Value)} {w0:A_} {L:List As} {t ty T:TypeId} {p:String} {af:Array Edge} {x:Operand} {cs news:List Value} {q:Option Addr}
theorem AD.appendF (i j:Nat) {s:Operand} {n' bytes:Nat} {tn:TypeId} (ht:ElemT P t T z bytes) (hs:evF F s=some (.slice q n' n')) (hi:L[i]?=some (rowW q T z n' c cs)) (ho:OwnOk q n' c) (hl:cs.length=n'*z)
    (hx:evF F x=some (.slice (some ⟨b,0,none⟩) m c2)) (hj:L[j]?=some (Ad b tn news)) (hnl:news.length=m*z) (hm:0<m) (h63:n'+m<=maxLen) (hbytes:(n'+m)*bytes<=140737488355328) (hd:Nat.ble (d+1) n=true)
    (next:∀p' c',OwnOk p' (n'+m) c'->AD P ops rest Q n ((d,.slice p' (n'+m) c')::F) w0 (rowW p' T z (n'+m) c' (cs++news)::L)) :
    AD P ops (⟨some d,.call { callee:=.builtin .append,args:=#[s,x],argTypes:=#[t,t] },ty,p,af,none⟩::rest) Q n F w0 L:=λa w ha hW=>by
  have hnews:∀j u,news[j]?=some u->w.cell? ((⟨b,0,none⟩:Addr).add j)=some u:=λj u hu=>by
    have h:=cell_of_row w b j _ tn (0,0) (hW.get hj)
    rw [Addr.add_lit]
    simp only [Nat.zero_add]
    rw [h];simpa using hu
  obtain ⟨p',c',w',hr,h2,h3,h4⟩:=IG (P:=P) (c2:=c2) (ty:=ty) w ht ho.clip hl (λb e=>(hW.holds hi b e).imp λo h=>⟨h.1,Bu ho hl h.2⟩) ⟨b,0,none⟩ hnl hnews hm h63 hbytes
  unfold wpList
  rw [if_pos (AW rfl a ha)]
  left
  unfold Oper.wp
  have e1:=ha.ev hs
  have e2:=ha.ev hx
  have he:(execOp a.eval ⟨some d,.call { callee:=.builtin .append,args:=#[s,x],argTypes:=#[t,t] },ty,p,af,none⟩).run P w=.ok (.value (.slice p' (n'+m) c')) w':=by
    simp only [execOp,resolve,invoke,builtin,Sem.run_bind,Sem.run_pure,Result.andThen_ok,List.map_toArray,List.map_cons,List.map_nil,e1,e2,hr]
  rw [he,Oper.upon_value]
  exact next p' c' h2 _ _ (ha.put (Bj hd)) (hW.give (S:=λ_=>True) h3 ⟨λy hy d e=>by rcases List.mem_singleton.1 hy with rfl;exact ⟨.inl (h4 d e).1,(h4 d e).2⟩,List.pairwise_singleton _ _⟩:BE w0 w' ([rowW p' T z (n'+m) c' (cs++news)]++L))
end
end
section
section
variable {P:Program} {ops:Array Oper} {rest:List Oper} {Q:Exit->Act->World->Prop} {n:Nat} {F:List (Nat×Value)} {w0:A_} {L:List As} {d:Option Tmp} {op:Op} {t:TypeId} {p:String} {af:Array Edge} {g:Nat×Bool}
theorem AD.unguard (hw:Wt ops n F ⟨d,op,t,p,af,some g⟩) (next:AD P ops (⟨d,op,t,p,af,none⟩::rest) Q n F w0 L):AD P ops (⟨d,op,t,p,af,some g⟩::rest) Q n F w0 L:=λa w ha hW=>by
  have h:=next a w ha hW
  unfold wpList at h ⊢
  rw [if_pos (hw a ha)]
  rw [if_pos (AW rfl a ha)] at h
  exact h
end
end
section
def Pu (P:Program) (ops:Array Oper) (Q:Exit->Act->World->Prop) (n:Nat) (w0:A_) (Lro:List As) (K:List (Nat×Value)->List As->Prop) (q:Nat):List (Nat×Bool)->List (Nat×Value)->List As->Prop
  | [],F,L=>∃o,ops[q]?=some o/\AD P ops [o] (PE Q n w0 Lro λF' L'=>CZ P ops Q n w0 Lro K [] F' L') n F w0 L
  | (i,true)::r,F,L=>∃o d v,ops[i]?=some o/\o.dst=some d/\d<n/\WW P ops n w0 Lro F o v/\Pu P ops Q n w0 Lro K q r ((d,v)::F) L
  | (i,false)::r,F,L=>(∃o,ops[q]?=some o/\AD P ops [o] (PE Q n w0 Lro λF' L'=>CZ P ops Q n w0 Lro K ((i,false)::r) F' L') n F w0 L) /\
      ∃o,ops[i]?=some o/\(Bm o q=true\/AD P ops [o] (PE Q n w0 Lro λF' L'=>Pu P ops Q n w0 Lro K q r F' L') n F w0 L)
section
variable {P:Program} {ops:Array Oper} {Q:Exit->Act->World->Prop} {n:Nat} {w0:A_} {LA LB L L':List As} {F F':List (Nat×Value)} {l:List Oper} {e2:List (Nat×Bool)} {k q:Nat}
def WR (P:Program) (ops:Array Oper) (n:Nat) (w0:A_) (LA:List As) (K:List (Nat×Value)->List As->Prop):List Nat->List (Nat×Value)->List As->Prop
  | [],F,L=>K F L
  | i::r,F,L=>∃o d v,ops[i]?=some o/\o.dst=some d/\d<n/\WW P ops n w0 LA F o v/\WR P ops n w0 LA K r ((d,v)::F) L
theorem WR.pas {K2:List (Nat×Value)->List As->Prop} {r:List Nat} {i d:Nat} {v:Value} {o:Oper} (ho:ops[i]?=some o) (hw:Wt ops n F o) (he:Ex P n F w0 LA o v) (hd:o.dst=some d) (hn:Nat.ble (d+1) n=true) (next:WR P ops n w0 LA K2 r ((d,v)::F) L):WR P ops n w0 LA K2 (i::r) F L:=⟨o,d,v,ho,hd,Nat.le_of_ble_eq_true hn,.inl ⟨hw,he⟩,next⟩
theorem WR.nil {K2:List (Nat×Value)->List As->Prop} (h:K2 F L):WR P ops n w0 LA K2 [] F L:=h
variable {r:List (Nat×Bool)} {i d:Nat} {v:Value} {o oq:Oper} {K:List (Nat×Value)->List As->Prop}
theorem Pu.pas (ho:ops[i]?=some o) (hw:Wt ops n F o) (he:Ex P n F w0 LA o v) (hd:o.dst=some d) (hn:Nat.ble (d+1) n=true) (next:Pu P ops Q n w0 LA K q r ((d,v)::F) L):Pu P ops Q n w0 LA K q ((i,true)::r) F L:=⟨o,d,v,ho,hd,Nat.le_of_ble_eq_true hn,.inl ⟨hw,he⟩,next⟩
theorem Pu.two (hoq:ops[q]?=some oq) (ho:ops[i]?=some o) (hq:AD P ops [oq] (PE Q n w0 LA λF' L'=>CZ P ops Q n w0 LA K ((i,false)::r) F' L') n F w0 L) (h:AD P ops [o] (PE Q n w0 LA λF' L'=>Pu P ops Q n w0 LA K q r F' L') n F w0 L):Pu P ops Q n w0 LA K q ((i,false)::r) F L:=⟨⟨oq,hoq,hq⟩,o,ho,.inr h⟩
theorem Pu.one (hoq:ops[q]?=some oq) (ho:ops[i]?=some o) (he:Bm o q=true) (hq:AD P ops [oq] (PE Q n w0 LA λF' L'=>CZ P ops Q n w0 LA K ((i,false)::r) F' L') n F w0 L):Pu P ops Q n w0 LA K q ((i,false)::r) F L:=⟨⟨oq,hoq,hq⟩,o,ho,.inl he⟩
theorem Pu.back (hro:LA.Sublist L') (h:Pu P ops Q n w0 LA K q r F' L'):AD P ops [] (PE Q n w0 LA λF' L'=>Pu P ops Q n w0 LA K q r F' L') n F' w0 L':=AD.nil λa w ha hw=>⟨F',L',ha,hw,Wk.of hro,h⟩
end
end
end Go.Proofs.YtpgncndhhhllfaaGreatDoor
