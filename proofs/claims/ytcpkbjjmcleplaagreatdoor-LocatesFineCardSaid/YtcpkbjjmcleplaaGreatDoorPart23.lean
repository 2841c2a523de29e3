import Derived.Test.YtcpkbjjmcleplaaGreatDoorPart22
namespace Go.Proofs.YtcpkbjjmcleplaaGreatDoor
open Go Go.RowKit Go.Proofs.Tryz
open Go.Value renaming slice→qz,bool→qa
set_option linter.unusedVariables false
set_option linter.unusedSimpArgs false
section
structure RM (N:Nat) (ts ss:List (Tq3)) where
  cs:List Value
  ds:List Value
  a:RX cs N
  b:RX (rowsL BC ts) ts.length
  c:RX ds ss.length
def fF {N:Nat} {ts ss:List (Tq3)} (x:RM N ts ss):List Value:=[x.a.val,x.b.val,x.c.val]
theorem fG {N:Nat} {ts ss:List (Tq3)} {x:RM N ts ss} {y:As} (hy:y∈[x.a.row,x.b.row,x.c.row]):y.ro=true:=by
  simp only [xL,List.not_mem_nil,or_false] at hy
  rcases hy with rfl|rfl|rfl<;>rfl
instance {N:Nat} {ts ss:List (Tq3)}:Cl (RM N ts ss):=⟨λx=>aG (fF x),λx=>[x.a.row,x.b.row,x.c.row],λx y hy=>fG hy⟩
section
variable {S:Nat->Prop} {w:World} {N:Nat} {ts ss:List (Tq3)}
theorem gy {x:RM N ts ss} (h:Ro S w x):Ro S w x.b:=λy hy=>by rcases xM.1 hy with rfl;exact h _ (List.mem_cons_of_mem _ List.mem_cons_self)
end
def MX.rm {ps:List Pt} {ts ss:List (Tq3)} (x:MX ps ts ss):RM ps.length ts ss:=⟨rowsL Ah ps,rowsL BC ss,x.a,x.b,x.c⟩
theorem gk {S:Nat->Prop} {w:World} {ps:List Pt} {ts ss:List (Tq3)} {x:MX ps ts ss} (h:Ro S w x):Ro S w x.rm:=λy hy=>h y hy
structure RU (N M K:Nat) where
  cs:List Value
  es:List Value
  ds:List Value
  a:RX cs N
  b:RX es M
  c:RX ds K
def i7 {N M K:Nat} (x:RU N M K):List Value:=[x.a.val,x.b.val,x.c.val]
theorem fP {N M K:Nat} {x:RU N M K} {y:As} (hy:y∈[x.a.row,x.b.row,x.c.row]):y.ro=true:=by
  simp only [xL,List.not_mem_nil,or_false] at hy
  rcases hy with rfl|rfl|rfl<;>rfl
instance {N M K:Nat}:Cl (RU N M K):=⟨λx=>aG (i7 x),λx=>[x.a.row,x.b.row,x.c.row],λx y hy=>fP hy⟩
end
section
set_option maxRecDepth 100000
theorem Ev (p n:Nat) (w:World)  :Calls prog 118 #[(vN p),(vN n)] w (Ac w (qa (decide (p<n)))):=by
 refine AV (args:=[(vN p),(vN n)]) func118 O O (leB O) (zI (sL [0,1] O) (q4 (asg' O (oNl' (q2 (AK O (st' (Cy (c:=(decide (0<=p))) O O (UP (a:=0) (b:=p))) O (AK O ?_))))))))
 refine zg (FM:=[(0,(vN p)),(1,(vN n)),(4,(qa false)),(5,(vN p)),(6,(qa (decide (0<=p)))),(7,(qa (decide (0<=p)))),(11,(qa ((decide (0<=p))&&(decide (p<n)))))]) (LM:=[]) 4 ?_ ?_
 ·rcases xO (decide (0<=p)) with hg1|hg1
  ·refine zN (k:=7) (u:=qa true) O (by rw [hg1]) ?_
   have hg1':=xR hg1
   exact FR O (FR O (BV (v:=(qa (decide (p<n)))) O (Aa (c:=(decide (p<n))) O O (DE (a:=p) (b:=n))) (st' (v:=(qa (decide (p<n)))) (ex_pick_true O O) O (oNl' (zT CT (xP _))))))
  ·refine zN (k:=7) (u:=qa false) O (by rw [hg1]) ?_
   have hg1':=xQ hg1
   exact BP O (BP O (BP O (st' (v:=(qa false)) (AN O O) O (oNl' (zT CT (xP _))))))
 exact asg' O (oNl' (zB (sL [4] O) (zA (zF (ret_one O (rd_tmp (v:=(qa ((decide (0<=p))&&(decide (p<n))))) O) (λw hw=>⟨by simp,hw.out⟩))))))
theorem W8 (t:Tq3) (n:Nat) (bo:BX [vN n]) (w:World) {S:Nat->Prop} (hbo:Ro S w bo):Calls prog 171 #[(aG (BC t)),(pP bo.b 0)] w (Ac w (qa (!PP n t))):=by
 have lbo:=Bx (W:=w) hbo
 refine AZ (args:=[(aG (BC t)),(pP bo.b 0)]) (L:=[AI (some ⟨bo.b,0,none⟩) ([(vN n)])]) func171 O O (leB O) (GT hbo Ao) (zI (sL [0,1] O) (q4 (BH (cs:=BC t) O λb1=>asg' O (q3 (sL [1,2,3] O) (st' (v:=(pP b1 0)) (AB (j:=0) O O underlying64 sizeOf3 O jY O) O (BL 0 (vN t.1) Dc O (st' (Ad (q:=some ⟨bo.b,0,none⟩) (v:=(vN n)) (off:=0) (i:=1) O O (λe=>by cases e) Dc O) O (ck' call118 (Ev t.1 n) O (st' (Bs (c:=(!(decide (t.1<n)))) O O) O (AK O ?_))))))))))
 refine zg (FM:=[(1,(pP bo.b 0)),(2,(pP b1 0)),(3,(qa false)),(4,(pP b1 0)),(5,(vN t.1)),(6,(vN n)),(7,(qa (decide (t.1<n)))),(8,(qa (!(decide (t.1<n))))),(9,(qa (!(decide (t.1<n))))),(15,(qa ((!(decide (t.1<n)))||(!(decide (t.2.1<n))))))]) (LM:=[AO b1 64 (BC t),AI (some ⟨bo.b,0,none⟩) ([(vN n)])]) 6 ?_ ?_
 ·rcases xO (!(decide (t.1<n))) with hg1|hg1
  ·refine zN (k:=9) (u:=qa true) O (by rw [hg1]) ?_
   have hg1':=hg1
   simp only [jK] at hg1'
   exact BP O (BP O (BP O (BP O (BP O (st' (v:=(qa true)) (ex_pick_true O O) O (oNl' (zT CT (xP _))))))))
  ·refine zN (k:=9) (u:=qa false) O (by rw [hg1]) ?_
   have hg1':=hg1
   simp only [jK] at hg1'
   exact BV (v:=(pP b1 1)) O (AB (j:=1) O O underlying64 sizeOf3 O jY O) (BV (v:=(vN t.2.1)) O (AR (i:=0) (v:=(vN t.2.1)) O O Dc.a O) (BV (v:=(vN n)) O (Ad (q:=some ⟨bo.b,0,none⟩) (v:=(vN n)) (off:=0) (i:=1) O O (λe=>by cases e) Dc O) (zd (v:=(qa (decide (t.2.1<n)))) (AE O) (Ag (args:=[(vN t.2.1),(vN n)]) O O call118) (λw hw=>Ev t.2.1 n w) O (leB O) (BV (v:=(qa (!(decide (t.2.1<n))))) O (Bs (c:=(!(decide (t.2.1<n)))) O O) (st' (v:=(qa (!(decide (t.2.1<n))))) (AN O O) O (oNl' (zT CT (xP _))))))))
 refine AK O ?_
 refine zg (FM:=[(1,(pP bo.b 0)),(2,(pP b1 0)),(3,(qa false)),(4,(pP b1 0)),(5,(vN t.1)),(6,(vN n)),(7,(qa (decide (t.1<n)))),(8,(qa (!(decide (t.1<n))))),(9,(qa (!(decide (t.1<n))))),(15,(qa ((!(decide (t.1<n)))||(!(decide (t.2.1<n)))))),(16,(qa ((!(decide (t.1<n)))||(!(decide (t.2.1<n)))))),(22,(qa (((!(decide (t.1<n)))||(!(decide (t.2.1<n))))||(!(decide (t.2.2<n))))))]) (LM:=[AO b1 64 (BC t),AI (some ⟨bo.b,0,none⟩) ([(vN n)])]) 6 ?_ ?_
 ·rcases xO ((!(decide (t.1<n)))||(!(decide (t.2.1<n)))) with hg2|hg2
  ·refine zN (k:=16) (u:=qa true) O (by rw [hg2]) ?_
   have hg2':=hg2
   simp only [jK] at hg2'
   exact BP O (BP O (BP O (BP O (BP O (st' (v:=(qa true)) (ex_pick_true O O) O (oNl' (zT IQ (xP _))))))))
  ·refine zN (k:=16) (u:=qa false) O (by rw [hg2]) ?_
   have hg2':=hg2
   simp only [jK] at hg2'
   exact BV (v:=(pP b1 2)) O (AB (j:=2) O O underlying64 sizeOf3 O jY O) (BV (v:=(vN t.2.2)) O (AR (i:=0) (v:=(vN t.2.2)) O O Dc.a O) (BV (v:=(vN n)) O (Ad (q:=some ⟨bo.b,0,none⟩) (v:=(vN n)) (off:=0) (i:=1) O O (λe=>by cases e) Dc O) (zd (v:=(qa (decide (t.2.2<n)))) (AE O) (Ag (args:=[(vN t.2.2),(vN n)]) O O call118) (λw hw=>Ev t.2.2 n w) O (leB O) (BV (v:=(qa (!(decide (t.2.2<n))))) O (Bs (c:=(!(decide (t.2.2<n)))) O O) (st' (v:=(qa (!(decide (t.2.2<n))))) (AN O O) O (oNl' (zT IQ (xP _))))))))
 refine AK O ?_
 refine zg (FM:=[(1,(pP bo.b 0)),(2,(pP b1 0)),(3,(qa false)),(4,(pP b1 0)),(5,(vN t.1)),(6,(vN n)),(7,(qa (decide (t.1<n)))),(8,(qa (!(decide (t.1<n))))),(9,(qa (!(decide (t.1<n))))),(15,(qa ((!(decide (t.1<n)))||(!(decide (t.2.1<n)))))),(16,(qa ((!(decide (t.1<n)))||(!(decide (t.2.1<n)))))),(22,(qa (((!(decide (t.1<n)))||(!(decide (t.2.1<n))))||(!(decide (t.2.2<n)))))),(23,(qa (((!(decide (t.1<n)))||(!(decide (t.2.1<n))))||(!(decide (t.2.2<n)))))),(29,(qa ((((!(decide (t.1<n)))||(!(decide (t.2.1<n))))||(!(decide (t.2.2<n))))||(decide (t.1=t.2.1)))))]) (LM:=[AO b1 64 (BC t),AI (some ⟨bo.b,0,none⟩) ([(vN n)])]) 6 ?_ ?_
 ·rcases xO (((!(decide (t.1<n)))||(!(decide (t.2.1<n))))||(!(decide (t.2.2<n)))) with hg3|hg3
  ·refine zN (k:=23) (u:=qa true) O (by rw [hg3]) ?_
   have hg3':=hg3
   simp only [jK] at hg3'
   exact BP O (BP O (BP O (BP O (BP O (st' (v:=(qa true)) (ex_pick_true O O) O (oNl' (zT Qq (xP _))))))))
  ·refine zN (k:=23) (u:=qa false) O (by rw [hg3]) ?_
   have hg3':=hg3
   simp only [jK] at hg3'
   exact BV (v:=(pP b1 0)) O (AB (j:=0) O O underlying64 sizeOf3 O jY O) (BV (v:=(vN t.1)) O (AR (i:=0) (v:=(vN t.1)) O O Dc.a O) (BV (v:=(pP b1 1)) O (AB (j:=1) O O underlying64 sizeOf3 O jY O) (BV (v:=(vN t.2.1)) O (AR (i:=0) (v:=(vN t.2.1)) O O Dc.a O) (BV (v:=(qa (decide (t.1=t.2.1)))) O (Au (c:=(decide (t.1=t.2.1))) O O (K0 (a:=t.1) (b:=t.2.1))) (st' (v:=(qa (decide (t.1=t.2.1)))) (AN O O) O (oNl' (zT Qq (xP _))))))))
 refine AK O ?_
 refine zg (FM:=[(1,(pP bo.b 0)),(2,(pP b1 0)),(3,(qa false)),(4,(pP b1 0)),(5,(vN t.1)),(6,(vN n)),(7,(qa (decide (t.1<n)))),(8,(qa (!(decide (t.1<n))))),(9,(qa (!(decide (t.1<n))))),(15,(qa ((!(decide (t.1<n)))||(!(decide (t.2.1<n)))))),(16,(qa ((!(decide (t.1<n)))||(!(decide (t.2.1<n)))))),(22,(qa (((!(decide (t.1<n)))||(!(decide (t.2.1<n))))||(!(decide (t.2.2<n)))))),(23,(qa (((!(decide (t.1<n)))||(!(decide (t.2.1<n))))||(!(decide (t.2.2<n)))))),(29,(qa ((((!(decide (t.1<n)))||(!(decide (t.2.1<n))))||(!(decide (t.2.2<n))))||(decide (t.1=t.2.1))))),(30,(qa ((((!(decide (t.1<n)))||(!(decide (t.2.1<n))))||(!(decide (t.2.2<n))))||(decide (t.1=t.2.1))))),(36,(qa (((((!(decide (t.1<n)))||(!(decide (t.2.1<n))))||(!(decide (t.2.2<n))))||(decide (t.1=t.2.1)))||(decide (t.2.1=t.2.2)))))]) (LM:=[AO b1 64 (BC t),AI (some ⟨bo.b,0,none⟩) ([(vN n)])]) 6 ?_ ?_
 ·rcases xO ((((!(decide (t.1<n)))||(!(decide (t.2.1<n))))||(!(decide (t.2.2<n))))||(decide (t.1=t.2.1))) with hg4|hg4
  ·refine zN (k:=30) (u:=qa true) O (by rw [hg4]) ?_
   have hg4':=hg4
   simp only [jK] at hg4'
   exact BP O (BP O (BP O (BP O (BP O (st' (v:=(qa true)) (ex_pick_true O O) O (oNl' (zT Qr (xP _))))))))
  ·refine zN (k:=30) (u:=qa false) O (by rw [hg4]) ?_
   have hg4':=hg4
   simp only [jK] at hg4'
   exact BV (v:=(pP b1 1)) O (AB (j:=1) O O underlying64 sizeOf3 O jY O) (BV (v:=(vN t.2.1)) O (AR (i:=0) (v:=(vN t.2.1)) O O Dc.a O) (BV (v:=(pP b1 2)) O (AB (j:=2) O O underlying64 sizeOf3 O jY O) (BV (v:=(vN t.2.2)) O (AR (i:=0) (v:=(vN t.2.2)) O O Dc.a O) (BV (v:=(qa (decide (t.2.1=t.2.2)))) O (Au (c:=(decide (t.2.1=t.2.2))) O O (K0 (a:=t.2.1) (b:=t.2.2))) (st' (v:=(qa (decide (t.2.1=t.2.2)))) (AN O O) O (oNl' (zT Qr (xP _))))))))
 refine AK O ?_
 refine zg (FM:=[(1,(pP bo.b 0)),(2,(pP b1 0)),(3,(qa false)),(4,(pP b1 0)),(5,(vN t.1)),(6,(vN n)),(7,(qa (decide (t.1<n)))),(8,(qa (!(decide (t.1<n))))),(9,(qa (!(decide (t.1<n))))),(15,(qa ((!(decide (t.1<n)))||(!(decide (t.2.1<n)))))),(16,(qa ((!(decide (t.1<n)))||(!(decide (t.2.1<n)))))),(22,(qa (((!(decide (t.1<n)))||(!(decide (t.2.1<n))))||(!(decide (t.2.2<n)))))),(23,(qa (((!(decide (t.1<n)))||(!(decide (t.2.1<n))))||(!(decide (t.2.2<n)))))),(29,(qa ((((!(decide (t.1<n)))||(!(decide (t.2.1<n))))||(!(decide (t.2.2<n))))||(decide (t.1=t.2.1))))),(30,(qa ((((!(decide (t.1<n)))||(!(decide (t.2.1<n))))||(!(decide (t.2.2<n))))||(decide (t.1=t.2.1))))),(36,(qa (((((!(decide (t.1<n)))||(!(decide (t.2.1<n))))||(!(decide (t.2.2<n))))||(decide (t.1=t.2.1)))||(decide (t.2.1=t.2.2))))),(37,(qa (((((!(decide (t.1<n)))||(!(decide (t.2.1<n))))||(!(decide (t.2.2<n))))||(decide (t.1=t.2.1)))||(decide (t.2.1=t.2.2))))),(43,(qa ((((((!(decide (t.1<n)))||(!(decide (t.2.1<n))))||(!(decide (t.2.2<n))))||(decide (t.1=t.2.1)))||(decide (t.2.1=t.2.2)))||(decide (t.2.2=t.1)))))]) (LM:=[AO b1 64 (BC t),AI (some ⟨bo.b,0,none⟩) ([(vN n)])]) 6 ?_ ?_
 ·rcases xO (((((!(decide (t.1<n)))||(!(decide (t.2.1<n))))||(!(decide (t.2.2<n))))||(decide (t.1=t.2.1)))||(decide (t.2.1=t.2.2))) with hg5|hg5
  ·refine zN (k:=37) (u:=qa true) O (by rw [hg5]) ?_
   have hg5':=hg5
   simp only [jK] at hg5'
   exact BP O (BP O (BP O (BP O (BP O (st' (v:=(qa true)) (ex_pick_true O O) O (oNl' (zT Qs (xP _))))))))
  ·refine zN (k:=37) (u:=qa false) O (by rw [hg5]) ?_
   have hg5':=hg5
   simp only [jK] at hg5'
   exact BV (v:=(pP b1 2)) O (AB (j:=2) O O underlying64 sizeOf3 O jY O) (BV (v:=(vN t.2.2)) O (AR (i:=0) (v:=(vN t.2.2)) O O Dc.a O) (BV (v:=(pP b1 0)) O (AB (j:=0) O O underlying64 sizeOf3 O jY O) (BV (v:=(vN t.1)) O (AR (i:=0) (v:=(vN t.1)) O O Dc.a O) (BV (v:=(qa (decide (t.2.2=t.1)))) O (Au (c:=(decide (t.2.2=t.1))) O O (K0 (a:=t.2.2) (b:=t.1))) (st' (v:=(qa (decide (t.2.2=t.1)))) (AN O O) O (oNl' (zT Qs (xP _))))))))
 exact asg' O (oNl' (zB (sL [3] O) (zA (zF (ret_one O (rd_tmp (v:=(qa ((((((!(decide (t.1<n)))||(!(decide (t.2.1<n))))||(!(decide (t.2.2<n))))||(decide (t.1=t.2.1)))||(decide (t.2.1=t.2.2)))||(decide (t.2.2=t.1))))) O) (λw hw=>⟨by congr 2;rw [Bool.eq_iff_iff];simp [PP]<;>omega,hw.out⟩))))))
theorem cR (n:Nat) (bo:BX [vN n]) (ts:List (Tq3)) (x:RX (rowsL BC ts) ts.length) (hl:ts.length<4611686018427387904) (w:World) {S:Nat->Prop} (hbo:Ro S w bo) (hx:Ro S w x):Calls prog 201 #[(qz x.p ts.length x.c),(Value.func (.func 171) #[] #[(pP bo.b 0)])] w (Ac w (vI (idxB n ts 0))):=by
 have lbo:=Bx (W:=w) hbo
 have lx:=Bx (W:=w) hx
 refine AZ (args:=[(qz x.p ts.length x.c),(Value.func (.func 171) #[] #[(pP bo.b 0)])]) (L:=[AI (some ⟨bo.b,0,none⟩) ([(vN n)]),AI x.p (rowsL BC ts)]) func201 O O (leB O) (GT hbo (GT hx Ao)) (zI (sL [0,1] O) (q4 (asg' O (oNl' (q1 (q4 (AK O (st' (v:=(vN ts.length)) (AD O underlying23) O (AK O (oNl' (zB (sL [0,1,4,7,8] O) ?_)))))))))))
 refine zA (zM ?_)
 refine yW (tg λ(j:Nat)=>j<=ts.length/\idxB n ts 0=idxB n (ts.drop j) j) (tg λ(j:Nat)=>[(0,(qz x.p ts.length x.c)),(1,(Value.func (.func 171) #[] #[(pP bo.b 0)])),(7,(vN ts.length)),(8,(vN j))]) (tg λ(j:Nat)=>[AI (some ⟨bo.b,0,none⟩) ([(vN n)]),AI x.p (rowsL BC ts)]) (tg λ(j:Nat)=>ts.length-j) 0 (⟨xH _,rfl⟩) (sF O) sr (λj hJ=>?_)
 obtain ⟨hj,he⟩:=hJ
 refine q4 (st' (Aa (c:=(decide (j<ts.length))) O O (DE (a:=j) (b:=ts.length))) O (oNl' (q1 ?_)))
 refine zK O (λhc0=>?_) (λhc0=>?_)
 ·replace hc0:=xR hc0
  refine zG (q1 (zM (q4 (AK O (asg' O (q3 (sL [0,1,7,8,5] O) (AK O (AK O (AK O (st' (v:=(pP (pB x.p) (pO x.p+j*3))) (AQ (j:=j) O O x.ok underlying23 sizeOf64 O Z) O (st' (v:=(aG (BC (ts.getD j jJ)))) (Ak (vs:=BC (ts.getD j jJ)) (i:=1) O O (BG.ne x.ok Z) Qa (BE Bv _ _ _ Z) (Bv _)) O ?_)))))))))))
  refine zd (v:=(qa (!PP n (ts.getD j jJ)))) (AG O) (JH (args:=[(aG (BC (ts.getD j jJ)))]) (caps:=[(pP bo.b 0)]) (all:=[(aG (BC (ts.getD j jJ))),(pP bo.b 0)]) O O O call171) (λw hw=>W8 (ts.getD j jJ) n bo w (inS hw 0 O lbo)) O (leB O) (oNl' (zB (sL [0,1,7,8,5,16] O) (zA ?_)))
  refine zK O (λhc1=>?_) (λhc1=>?_)
  ·simp only [jK] at hc1
   have hfin:=he.trans (WW Z (by simpa using hc1))
   exact q4 (AK O (asg' O (oNl' (zB (sL [0,1,7,8,5,4] O) (zA (zF (zV (zL (yG (zV (zL (ret_one O (rd_tmp (v:=(vN j)) O) (λw hw=>⟨by rw [hfin],hw.out⟩)))))))))))))
  ·simp only [jK] at hc1
   exact zG (zJ (zA (zH (st' (AX (c:=((j+1:Nat):Int)) O O (AU (a:=j) (b:=1) Z)) O (AK O (oNl' (zB (sL [0,1,7,8,5] O) (yJ (j+1) (⟨Z,he.trans (UJ Z (by simpa using hc1))⟩) Z (sF O) sr))))))))
 ·replace hc0:=xQ hc0
  have hfin:=he.trans (WV hc0)
  exact zW (zO (zy (zR (q2 (asg' O (oNl' (zA (zF (ret_one O (rd_tmp (v:=(vI (-1:Int))) O) (λw hw=>⟨by rw [hfin],hw.out⟩))))))))))
theorem Y2 (n:Nat) (bo:BX [vN n]) (ts:List (Tq3)) (x:RX (rowsL BC ts) ts.length) (hl:ts.length<4611686018427387904) (w:World) {S:Nat->Prop} (hbo:Ro S w bo) (hx:Ro S w x):Calls prog 170 #[(qz x.p ts.length x.c),(Value.func (.func 171) #[] #[(pP bo.b 0)])] w (Ac w (qa (!Ek n ts))):=by
 have lbo:=Bx (W:=w) hbo
 have lx:=Bx (W:=w) hx
 refine AZ (args:=[(qz x.p ts.length x.c),(Value.func (.func 171) #[] #[(pP bo.b 0)])]) (L:=[AI (some ⟨bo.b,0,none⟩) ([(vN n)]),AI x.p (rowsL BC ts)]) func170 O O (leB O) (GT hbo (GT hx Ao)) (zI (sL [0,1] O) (q4 (asg' O (oNl' (q2 (AK O (AK O (CQ call201 (λw hw=>cR n bo ts x hl w (inS hw 0 O lbo) (inS hw 1 O lx)) O (st' (Cy (c:=(!Ek n ts)) O O (Nk n ts 0)) O (asg' O (oNl' ?_)))))))))))
 exact zB (sL [4] O) (zA (zF (ret_one O (rd_tmp (v:=(qa (!Ek n ts))) O) (λw hw=>⟨rfl,hw.out⟩))))
theorem Zy (n:Nat) (ts:List (Tq3)) (x:RX (rowsL BC ts) ts.length) (hl:ts.length<4611686018427387904) (w:World) {S:Nat->Prop} (hx:Ro S w x):Calls prog 117 #[(qz x.p ts.length x.c),(vN n)] w (Ac w (qa (Ek n ts))):=by
 have lx:=Bx (W:=w) hx
 refine AZ (args:=[(qz x.p ts.length x.c),(vN n)]) (L:=[AI x.p (rowsL BC ts)]) func117 O O (leB O) (GT hx Ao) (zI (sL [0,1] O) (q4 (BH (cs:=[(vN n)]) O λb1=>yj 0 O O λhnb1=>asg' O (q3 (sL [0,3,4] O) (AK O (st' (v:=(Value.func (.func 171) #[] #[(pP b1 0)])) (FP (vs:=[]) (us:=[(pP b1 0)]) O O) O (CQ call170 (λw hw=>Y2 n ⟨b1⟩ ts x hl w (f9 (x:=(⟨b1⟩:BX [vN n])) hw 0 O hnb1) (inS hw 1 O lx)) O (st' (Bs (c:=(!(!Ek n ts))) O O) O (asg' O ?_)))))))))
 exact oNl' (zB (sL [4] O) (zA (zF (ret_one O (rd_tmp (v:=(qa (!(!Ek n ts)))) O) (λw hw=>⟨by simp,hw.out⟩)))))
theorem Tk {N:Nat} {ts ss:List (Tq3)} (x:RM N ts ss) (hl:ts.length<4611686018427387904) (w:World) {S:Nat->Prop} (hx:Ro S w x):Calls prog 68 #[(aG (fF x))] w (Ac w (qa (Ek N ts))):=by
 have lx:=Bx (W:=w) hx
 refine AZ (args:=[(aG (fF x))]) (L:=[AI x.a.p (x.cs),AI x.b.p (rowsL BC ts),AI x.c.p (x.ds)]) func68 O O (leB O) (GT hx Ao) (zI (sL [0] O) (q4 (BH (cs:=fF x) O λb1=>asg' O (q3 (sL [1,2] O) (st' (v:=(pP b1 1)) (AA O underlying37 O sizeOf23 O) O (BL 0 (qz x.b.p ts.length x.b.c) Ez O (st' (v:=(pP b1 0)) (AA O underlying37 O sizeOf35 O) O (BL 0 (qz x.a.p N x.a.c) Kl O (st' (v:=(vN N)) (AD O underlying35) O (CQ call117 (λw hw=>Zy N ts x.b hl w (gy (inS hw 1 O lx))) O ?_))))))))))
 exact asg' O (oNl' (zB (sL [2] O) (zA (zF (ret_one O (rd_tmp (v:=(qa (Ek N ts))) O) (λw hw=>⟨rfl,hw.out⟩))))))
theorem Yc {ps:List Pt} {ts ss:List (Tq3)} (x:MX ps ts ss) (hl:ts.length<4611686018427387904) (w:World) {S:Nat->Prop} (hx:Ro S w x):Calls prog 68 #[(aG (DY x))] w (Ac w (qa (Ek ps.length ts))):=Tk x.rm hl w (gk hx)
theorem Qx {ps:List Pt} {ts ss:List (Tq3)} (x:MX ps ts ss) (t:Nat) (ht:t<ts.length) (hk:PP ps.length (ts.getD t (0,0,0))=true) (w:World) {S:Nat->Prop} (hx:Ro S w x):Calls prog 69 #[(aG (DY x)),(vN t)] w (Ac w (Value.tuple #[(aG (Ah (BU ps (ts.getD t (0,0,0)).1))),(aG (Ah (BU ps (ts.getD t (0,0,0)).2.1))),(aG (Ah (BU ps (ts.getD t (0,0,0)).2.2)))])):=by
 obtain ⟨k1,k2,k3⟩:=ME hk
 have lx:=Bx (W:=w) hx
 refine AZ (args:=[(aG (DY x)),(vN t)]) (L:=[AI x.a.p (rowsL Ah ps),AI x.b.p (rowsL BC ts),AI x.c.p (rowsL BC ss)]) func69 O O (leB O) (GT hx Ao) (zI (sL [0,1] O) (q4 (BH (cs:=DY x) O λb1=>al Fg O λb2=>al Fg O λb3=>al Fg O λb4=>q6 (sL [1,2,4,5,6] O) (q4 (AK O (st' (Aa (c:=false) O O jX) O (AK O ?_)))))))
 refine FR O (BV (v:=(pP b1 1)) O (AA O underlying37 O sizeOf23 O) (BV (v:=(qz x.b.p ts.length x.b.c)) O (AR (i:=3) (v:=(qz x.b.p ts.length x.b.c)) O O Ez.a O) (BV (v:=(vN ts.length)) O (AD O underlying23) (BV (v:=(qa false)) O (Cy (c:=false) O O (by simp;omega)) (st' (v:=(qa false)) (AN O O) O (oNl' (zB (sL [1,2,4,5,6,17] O) (zA (zU O (zG (q1 ?_)))))))))))
 refine B9 (EV 8++[(8,false),(9,false),(10,true)]) sr (Am (v:=(pP b1 1)) O (AA O underlying37 O sizeOf23 O) (CL 3 (qz x.b.p ts.length x.b.c) Ez O (Bi O (Am (v:=(pP (pB x.b.p) (pO x.b.p+t*3))) O (AQ (j:=t) O O x.b.ok underlying23 sizeOf64 O Z) (Am (v:=(aG (BC (ts.getD t jJ)))) O (Ak (vs:=BC (ts.getD t jJ)) (i:=5) O O (BG.ne x.b.ok Z) Qa (BE Bv _ _ _ Z) (Bv _)) (Am (v:=(pP b1 0)) O (AA O underlying37 O sizeOf35 O) (CL 3 (qz x.a.p ps.length x.a.c) Kl O (Am (v:=(vN ps.length)) O (AD O underlying35) (zD O (al ax O λb5=>zC (sl sr) ?_))))))))))
 refine zD O (An O sizeOf64 O (zC (sl sr) (pS' O (zP (zB (sL [1,2,4,5,6,7,8] O) (q1 (q4 (st' (v:=(pP b5 0)) (AB (j:=0) O O underlying64 sizeOf3 O jY O) O (BL 0 (vN ((ts.getD t jJ).1)) Dc O (AK O (CQ (args:=[(vN ((ts.getD t jJ).1)),(vN ps.length)]) (v:=(qa true)) call118 (λw hw=>(by have h9:=Ev ((ts.getD t jJ).1) ps.length w;rw [xE Z] at h9;exact h9)) O ?_)))))))))))
 refine st' (Bs (c:=false) O O) O (AK O (BV (v:=(pP b5 1)) O (AB (j:=1) O O underlying64 sizeOf3 O jY O) (BV (v:=(vN ((ts.getD t jJ).2.1))) O (AR (i:=0) (v:=(vN ((ts.getD t jJ).2.1))) O O Dc.a O) (FR O (zd (v:=(qa true)) (AE O) (Ag (args:=[(vN ((ts.getD t jJ).2.1)),(vN ps.length)]) O O call118) (λw hw=>(by have h9:=Ev ((ts.getD t jJ).2.1) ps.length w;rw [xE Z] at h9;exact h9)) O (leB O) (BV (v:=(qa false)) O (Bs (c:=false) O O) (st' (v:=(qa false)) (AN O O) O (AK O (BV (v:=(pP b5 2)) O (AB (j:=2) O O underlying64 sizeOf3 O jY O) (BV (v:=(vN ((ts.getD t jJ).2.2))) O (AR (i:=0) (v:=(vN ((ts.getD t jJ).2.2))) O O Dc.a O) (FR O ?_)))))))))))
 refine zd (v:=(qa true)) (AE O) (Ag (args:=[(vN ((ts.getD t jJ).2.2)),(vN ps.length)]) O O call118) (λw hw=>(by have h9:=Ev ((ts.getD t jJ).2.2) ps.length w;rw [xE Z] at h9;exact h9)) O (leB O) (BV (v:=(qa false)) O (Bs (c:=false) O O) (st' (v:=(qa false)) (AN O O) O (oNl' (zB (sL [1,2,4,5,6,7,47] O) (zA (zU O (zG (q1 (B9 (EV 18++[(18,false),(19,false),(20,false)]) (sk (sl (sl (sl sr)))) (Am (v:=(pP b1 0)) O (AA O underlying37 O sizeOf35 O) (CL 1 (qz x.a.p ps.length x.a.c) Kl O ?_)))))))))))
 refine Am (v:=(pP b5 0)) O (AB (j:=0) O O underlying64 sizeOf3 O jY O) (CL 0 (vN ((ts.getD t jJ).1)) Dc O (Am (v:=(pP (pB x.a.p) (pO x.a.p+((ts.getD t jJ).1)*10))) O (AQ (j:=(ts.getD t jJ).1) O O x.a.ok underlying35 sizeOf62 O Z) (Am (v:=(aG (Ah (ps.getD ((ts.getD t jJ).1) (⟨0,0⟩:Pt))))) O (Ak (vs:=Ah (ps.getD ((ts.getD t jJ).1) (⟨0,0⟩:Pt))) (i:=2) O O (BG.ne x.a.ok Z) BJ (BE DN _ _ _ Z) (DN _)) (Am (v:=(pP b1 0)) O (AA O underlying37 O sizeOf35 O) (CL 1 (qz x.a.p ps.length x.a.c) Kl O (Am (v:=(pP b5 1)) O (AB (j:=1) O O underlying64 sizeOf3 O jY O) (CL 0 (vN ((ts.getD t jJ).2.1)) Dc O (Am (v:=(pP (pB x.a.p) (pO x.a.p+((ts.getD t jJ).2.1)*10))) O (AQ (j:=(ts.getD t jJ).2.1) O O x.a.ok underlying35 sizeOf62 O Z) (Am (v:=(aG (Ah (ps.getD ((ts.getD t jJ).2.1) (⟨0,0⟩:Pt))))) O (Ak (vs:=Ah (ps.getD ((ts.getD t jJ).2.1) (⟨0,0⟩:Pt))) (i:=2) O O (BG.ne x.a.ok Z) BJ (BE DN _ _ _ Z) (DN _)) (Am (v:=(pP b1 0)) O (AA O underlying37 O sizeOf35 O) (CL 1 (qz x.a.p ps.length x.a.c) Kl O ?_)))))))))))
 refine Am (v:=(pP b5 2)) O (AB (j:=2) O O underlying64 sizeOf3 O jY O) (CL 0 (vN ((ts.getD t jJ).2.2)) Dc O (Am (v:=(pP (pB x.a.p) (pO x.a.p+((ts.getD t jJ).2.2)*10))) O (AQ (j:=(ts.getD t jJ).2.2) O O x.a.ok underlying35 sizeOf62 O Z) (Am (v:=(aG (Ah (ps.getD ((ts.getD t jJ).2.2) (⟨0,0⟩:Pt))))) O (Ak (vs:=Ah (ps.getD ((ts.getD t jJ).2.2) (⟨0,0⟩:Pt))) (i:=2) O O (BG.ne x.a.ok Z) BJ (BE DN _ _ _ Z) (DN _)) (zD O (F8 O sizeOf62 O (zC (sk (sl (sl (sl sr)))) (zD O (E7 O sizeOf62 O (zC (sk (sl (sl (sl sr)))) (zD O (DK O sizeOf62 O ?_)))))))))))
 exact zC (sk (sl (sl (sl sr)))) (zP (zB (sL [1,2,4,5,6,7] O) (zA (zF (DV O (Ab (i:=3) (cs:=Ah (ps.getD ((ts.getD t jJ).1) (⟨0,0⟩:Pt))) O O isAgg62 sizeOf62 O) (Ab (i:=2) (cs:=Ah (ps.getD ((ts.getD t jJ).2.1) (⟨0,0⟩:Pt))) O O isAgg62 sizeOf62 O) (Ab (i:=1) (cs:=Ah (ps.getD ((ts.getD t jJ).2.2) (⟨0,0⟩:Pt))) O O isAgg62 sizeOf62 O) (λw hw=>⟨rfl,hw.out⟩))))))
end
end Go.Proofs.YtcpkbjjmcleplaaGreatDoor
