import Derived.Test.YtpolhpjiahbidaaGreatDoorPart18
namespace Go.Proofs.YtpolhpjiahbidaaGreatDoor
open Go Go.RowKit Go.Proofs.Tryz
open Go.Value renaming slice→qw,bool→qa
set_option linter.unusedVariables false
set_option linter.unusedSimpArgs false
section
def Ay (n:Nat) (p:Int):Bool:=decide (0<=p)&&decide (p<(n:Int))
def NY (n:Nat) (t:Z3):Bool:=Ay n t.1&&Ay n t.2.1&&Ay n t.2.2&&!decide (t.1=t.2.1)&&!decide (t.2.1=t.2.2)&&!decide (t.2.2=t.1)
def DG (n:Nat) (ts:List Z3):Bool:=ts.all (NY n)
def idxZ (n:Nat):List Z3->Nat->Int
  | [],_ => -1
  | t::r,i=>if NY n t=true then idxZ n r (i+1) else (i:Int)
theorem TD {n:Nat} {ts:List Z3} {j:Nat} (hj:j<ts.length) (h:NY n (ts.getD j (0,0,0))=true):idxZ n (ts.drop j) j=idxZ n (ts.drop (j+1)) (j+1):=by
  rw [Dp (d:=(0,0,0)) hj];exact if_pos h
theorem Vz {n:Nat} {ts:List Z3} {j:Nat} (hj:j<ts.length) (h:NY n (ts.getD j (0,0,0))=false):idxZ n (ts.drop j) j=(j:Int):=by
  rw [Dp (d:=(0,0,0)) hj];exact if_neg (by rw [h];exact Bool.false_ne_true)
theorem Ub {n:Nat} {ts:List Z3} {j:Nat} (hj:¬j<ts.length):idxZ n (ts.drop j) j = -1:=by
  rw [List.drop_of_length_le Z];rfl
theorem M4 (n:Nat):∀(ts:List Z3) (i:Nat),decide (0<=idxZ n ts i)=!DG n ts
  | [],i=>rfl
  | t::r,i=>by
    unfold idxZ DG
    rw [List.all_cons]
    cases h:NY n t with
    | true=>rw [if_pos rfl,Bool.true_and];exact M4 n r (i+1)
    | false=>rw [if_neg Bool.false_ne_true,Bool.false_and];simp
theorem V8 {n:Nat} {ts:List Z3} (h:∀j,j<ts.length->NY n (ts.getD j (0,0,0))=true):DG n ts=true:=List.all_eq_true.2 λt ht=>by
  obtain ⟨j,hj,rfl⟩:=List.getElem_of_mem ht
  have:=h j hj
  rwa [List.getD,xN hj] at this
theorem Xn {n:Nat} {ts:List Z3} {j:Nat} (hj:j<ts.length) (h:NY n (ts.getD j (0,0,0))=false):DG n ts=false:=by
  cases e:DG n ts with
  | false=>rfl
  | true =>
    have h1:=List.all_eq_true.1 e _ (List.getElem_mem hj)
    rw [List.getD,xN hj] at h
    have h:NY n ts[j]=false:=h
    rw [h] at h1;cases h1
def DN (t:Z3):Tq3:=(t.1.toNat,t.2.1.toNat,t.2.2.toNat)
theorem Si {n:Nat} {t:Z3} (h:NY n t=true):On n (DN t)=true/\AS t=Ac (DN t):=by
  obtain ⟨a,b,c⟩:=t
  unfold NY Ay at h
  simp only [xZ,xV,xT,xS] at h
  obtain ⟨⟨⟨⟨⟨⟨h1,h2⟩,h3,h4⟩,h5,h6⟩,h7⟩,h8⟩,h9⟩:=h
  refine ⟨?_,?_⟩
  · unfold On DN
    simp only [xZ,xV,xT,xS]
    refine ⟨⟨⟨⟨⟨?_,?_⟩,?_⟩,?_⟩,?_⟩,?_⟩<;>omega
  · show [vI a,vI b,vI c]=[vN a.toNat,vN b.toNat,vN c.toNat]
    rw [show vN a.toNat=vI a from congrArg vI (Int.toNat_of_nonneg h1),show vN b.toNat=vI b from congrArg vI (Int.toNat_of_nonneg h3),show vN c.toNat=vI c from congrArg vI (Int.toNat_of_nonneg h5)]
theorem G5 {n:Nat} {zs:List Z3} (h:DG n zs=true):Bu n (zs.map DN)=true/\rowsL AS zs=rowsL Ac (zs.map DN):=by
  unfold DG Bu rowsL at *
  rw [List.all_eq_true] at h
  refine ⟨List.all_eq_true.2 λt ht=>?_,?_⟩
  · obtain ⟨z,hz,rfl⟩:=List.mem_map.1 ht
    exact (Si (h z hz)).1
  · rw [List.flatMap_map]
    induction zs with
    | nil=>rfl
    | cons z r ih=>rw [List.flatMap_cons,List.flatMap_cons,(Si (h z List.mem_cons_self)).2,ih λx hx=>h x (List.mem_cons_of_mem _ hx)]
structure RQ (N K:Nat) (zs:List Z3) where
  cs:List Value
  ds:List Value
  a:RX cs N
  b:RX (rowsL AS zs) zs.length
  c:RX ds K
def Hr {N K:Nat} {zs:List Z3} (x:RQ N K zs):List Value:=[x.a.val,x.b.val,x.c.val]
theorem c_ {N K:Nat} {zs:List Z3} {x:RQ N K zs} {y:As} (hy:y∈[x.a.row,x.b.row,x.c.row]):y.ro=true:=by
  simp only [xL,List.not_mem_nil,or_false] at hy
  rcases hy with rfl|rfl|rfl<;>rfl
instance {N K:Nat} {zs:List Z3}:C8 (RQ N K zs):=⟨λx=>aG (Hr x),λx=>[x.a.row,x.b.row,x.c.row],λx y hy=>c_ hy⟩
section
variable {S:Nat->Prop} {w:World} {N K:Nat} {zs ss:List Z3} {ps:List Pt}
theorem eE {x:RQ N K zs} (h:Ro S w x):Ro S w x.b:=λy hy=>by rcases xM.1 hy with rfl;exact h _ (List.mem_cons_of_mem _ List.mem_cons_self)
def RQ.ru (x:RQ N K zs):RU N zs.length K:=⟨x.cs,rowsL AS zs,x.ds,x.a,x.b,x.c⟩
theorem N1 {x:RQ N K zs} (h:Ro S w x):Ro S w x.ru:=λy hy=>h y hy
def MZ.rq (x:MZ ps zs ss):RQ ps.length ss.length zs:=⟨rowsL BB ps,rowsL AS ss,x.a,x.b,x.c⟩
theorem Ta {x:MZ ps zs ss} (h:Ro S w x):Ro S w x.rq:=λy hy=>h y hy
def GK.rq (x:GK ps zs ss):RQ x.rs.length ss.length zs:=⟨rowsL BK x.rs,rowsL AS ss,x.a,x.b,x.c⟩
theorem QS {x:GK ps zs ss} (h:Ro S w x):Ro S w x.rq:=λy hy=>h y (xz _ hy)
theorem aP (x:RQ N K zs) (h:DG N zs=true):∃y:RM N (zs.map DN) (List.replicate K (0,0,0)),Bu N (zs.map DN)=true/\Dk y=Hr x/\∀{S:Nat->Prop} {w:World},Ro S w x->Ro S w y:=by
  obtain ⟨cs,ds,a,b,c⟩:=x
  obtain ⟨h1,h2⟩:=G5 h
  have hl:zs.length=(zs.map DN).length:=(xI _).symm
  have hk:K=(List.replicate K jJ).length:=(List.length_replicate).symm
  obtain ⟨bp,bc,bok⟩:=b
  obtain ⟨cp,cc,cok⟩:=c
  refine ⟨⟨cs,ds,a,⟨bp,bc,hl▸bok⟩,⟨cp,cc,hk▸cok⟩⟩,h1,?_,λ{S w} hx y hy=>?_⟩
  · show [a.val,.slice bp (zs.map DN).length bc,.slice cp (List.replicate K jJ).length cc]=[a.val,.slice bp zs.length bc,.slice cp K cc]
    rw [<-hl,<-hk]
  · have hy:y∈[a.row,AB bp (rowsL Ac (zs.map DN)),AB cp ds]:=hy
    rw [<-h2] at hy
    exact hx y hy
end
end
section
set_option maxRecDepth 100000
theorem JZ (p:Int) (n:Nat) (w:World)  :Calls prog 148 #[(vI p),(vN n)] w (Ak w (qa (Ay n p))):=by
 refine Ab (args:=[(vI p),(vN n)]) func148 O O (Av O) (zN (sL [0,1] O) (q4 (asg' O (oNl' (q2 (AM O (AG (Bp (c:=(decide ((0:Int)<=p))) O O O) O (AM O ?_))))))))
 refine zX (FM:=[(0,(vI p)),(1,(vN n)),(4,(qa false)),(5,(vI p)),(6,(qa (decide ((0:Int)<=p)))),(7,(qa (decide ((0:Int)<=p)))),(11,(qa ((decide ((0:Int)<=p))&&(decide (p<((n:Nat):Int))))))]) (LM:=[]) 4 ?_ ?_
 ·rcases xO (decide ((0:Int)<=p)) with hg1|hg1
  ·refine zC (k:=7) (u:=qa true) O (by rw [hg1]) ?_
   have hg1':=xR hg1
   exact Ds O (Ds O (Au (v:=(qa (decide (p<((n:Nat):Int))))) O (Ae (c:=(decide (p<((n:Nat):Int)))) O O O) (AG (v:=(qa (decide (p<((n:Nat):Int))))) (AN O O) O (oNl' (zR Bg (xP _))))))
  ·refine zC (k:=7) (u:=qa false) O (by rw [hg1]) ?_
   have hg1':=xQ hg1
   exact Ar O (Ar O (Ar O (AG (v:=(qa false)) (AI O O) O (oNl' (zR Bg (xP _))))))
 exact asg' O (oNl' (zB (sL [4] O) (zA (zF (ret_one O (rd_tmp (v:=(qa ((decide ((0:Int)<=p))&&(decide (p<((n:Nat):Int)))))) O) (λw hw=>⟨by unfold Ay;first|rfl|simp,hw.out⟩))))))
theorem Ts (t:Z3) (n:Nat) (bo:BX [vN n]) (w:World) {S:Nat->Prop} (hbo:Ro S w bo):Calls prog 174 #[(aG (AS t)),(pP bo.b 0)] w (Ak w (qa (!NY n t))):=by
 have lbo:=Bx (W:=w) hbo
 refine AX (args:=[(aG (AS t)),(pP bo.b 0)]) (L:=[AB (some ⟨bo.b,0,none⟩) ([(vN n)])]) func174 O O (Av O) (DF hbo Ah) (zN (sL [0,1] O) (q4 (Bb (cs:=AS t) O λb1=>asg' O (q3 (sL [1,2,3] O) (AG (v:=(pP b1 0)) (AD (j:=0) O O underlying105 sizeOf3 O jY O) O (Az 0 (vI t.1) BN O (AG (AK (q:=some ⟨bo.b,0,none⟩) (v:=(vN n)) (off:=0) (i:=1) O O (λe=>by cases e) BN O) O (ck' call148 (JZ t.1 n) O (AG (BQ (c:=(!(Ay n t.1))) O O) O (AM O ?_))))))))))
 refine zX (FM:=[(1,(pP bo.b 0)),(2,(pP b1 0)),(3,(qa false)),(4,(pP b1 0)),(5,(vI t.1)),(6,(vN n)),(7,(qa (Ay n t.1))),(8,(qa (!(Ay n t.1)))),(9,(qa (!(Ay n t.1)))),(15,(qa ((!(Ay n t.1))||(!(Ay n t.2.1)))))]) (LM:=[AR b1 105 (AS t),AB (some ⟨bo.b,0,none⟩) ([(vN n)])]) 6 ?_ ?_
 ·rcases xO (!(Ay n t.1)) with hg1|hg1
  ·refine zC (k:=9) (u:=qa true) O (by rw [hg1]) ?_
   have hg1':=hg1
   simp only [jK] at hg1'
   exact Ar O (Ar O (Ar O (Ar O (Ar O (AG (v:=(qa true)) (AN O O) O (oNl' (zR Bg (xP _))))))))
  ·refine zC (k:=9) (u:=qa false) O (by rw [hg1]) ?_
   have hg1':=hg1
   simp only [jK] at hg1'
   exact Au (v:=(pP b1 1)) O (AD (j:=1) O O underlying105 sizeOf3 O jY O) (Au (v:=(vI t.2.1)) O (AE (i:=0) (v:=(vI t.2.1)) O O BN.a O) (Au (v:=(vN n)) O (AK (q:=some ⟨bo.b,0,none⟩) (v:=(vN n)) (off:=0) (i:=1) O O (λe=>by cases e) BN O) (zd (v:=(qa (Ay n t.2.1))) (AH O) (Aw (args:=[(vI t.2.1),(vN n)]) O O call148) (λw hw=>JZ t.2.1 n w) O (Av O) (Au (v:=(qa (!(Ay n t.2.1)))) O (BQ (c:=(!(Ay n t.2.1))) O O) (AG (v:=(qa (!(Ay n t.2.1)))) (AI O O) O (oNl' (zR Bg (xP _))))))))
 refine AM O ?_
 refine zX (FM:=[(1,(pP bo.b 0)),(2,(pP b1 0)),(3,(qa false)),(4,(pP b1 0)),(5,(vI t.1)),(6,(vN n)),(7,(qa (Ay n t.1))),(8,(qa (!(Ay n t.1)))),(9,(qa (!(Ay n t.1)))),(15,(qa ((!(Ay n t.1))||(!(Ay n t.2.1))))),(16,(qa ((!(Ay n t.1))||(!(Ay n t.2.1))))),(22,(qa (((!(Ay n t.1))||(!(Ay n t.2.1)))||(!(Ay n t.2.2)))))]) (LM:=[AR b1 105 (AS t),AB (some ⟨bo.b,0,none⟩) ([(vN n)])]) 6 ?_ ?_
 ·rcases xO ((!(Ay n t.1))||(!(Ay n t.2.1))) with hg2|hg2
  ·refine zC (k:=16) (u:=qa true) O (by rw [hg2]) ?_
   have hg2':=hg2
   simp only [jK] at hg2'
   exact Ar O (Ar O (Ar O (Ar O (Ar O (AG (v:=(qa true)) (AN O O) O (oNl' (zR EQ (xP _))))))))
  ·refine zC (k:=16) (u:=qa false) O (by rw [hg2]) ?_
   have hg2':=hg2
   simp only [jK] at hg2'
   exact Au (v:=(pP b1 2)) O (AD (j:=2) O O underlying105 sizeOf3 O jY O) (Au (v:=(vI t.2.2)) O (AE (i:=0) (v:=(vI t.2.2)) O O BN.a O) (Au (v:=(vN n)) O (AK (q:=some ⟨bo.b,0,none⟩) (v:=(vN n)) (off:=0) (i:=1) O O (λe=>by cases e) BN O) (zd (v:=(qa (Ay n t.2.2))) (AH O) (Aw (args:=[(vI t.2.2),(vN n)]) O O call148) (λw hw=>JZ t.2.2 n w) O (Av O) (Au (v:=(qa (!(Ay n t.2.2)))) O (BQ (c:=(!(Ay n t.2.2))) O O) (AG (v:=(qa (!(Ay n t.2.2)))) (AI O O) O (oNl' (zR EQ (xP _))))))))
 refine AM O ?_
 refine zX (FM:=[(1,(pP bo.b 0)),(2,(pP b1 0)),(3,(qa false)),(4,(pP b1 0)),(5,(vI t.1)),(6,(vN n)),(7,(qa (Ay n t.1))),(8,(qa (!(Ay n t.1)))),(9,(qa (!(Ay n t.1)))),(15,(qa ((!(Ay n t.1))||(!(Ay n t.2.1))))),(16,(qa ((!(Ay n t.1))||(!(Ay n t.2.1))))),(22,(qa (((!(Ay n t.1))||(!(Ay n t.2.1)))||(!(Ay n t.2.2))))),(23,(qa (((!(Ay n t.1))||(!(Ay n t.2.1)))||(!(Ay n t.2.2))))),(29,(qa ((((!(Ay n t.1))||(!(Ay n t.2.1)))||(!(Ay n t.2.2)))||(decide (t.1=t.2.1)))))]) (LM:=[AR b1 105 (AS t),AB (some ⟨bo.b,0,none⟩) ([(vN n)])]) 6 ?_ ?_
 ·rcases xO (((!(Ay n t.1))||(!(Ay n t.2.1)))||(!(Ay n t.2.2))) with hg3|hg3
  ·refine zC (k:=23) (u:=qa true) O (by rw [hg3]) ?_
   have hg3':=hg3
   simp only [jK] at hg3'
   exact Ar O (Ar O (Ar O (Ar O (Ar O (AG (v:=(qa true)) (AN O O) O (oNl' (zR Hz (xP _))))))))
  ·refine zC (k:=23) (u:=qa false) O (by rw [hg3]) ?_
   have hg3':=hg3
   simp only [jK] at hg3'
   exact Au (v:=(pP b1 0)) O (AD (j:=0) O O underlying105 sizeOf3 O jY O) (Au (v:=(vI t.1)) O (AE (i:=0) (v:=(vI t.1)) O O BN.a O) (Au (v:=(pP b1 1)) O (AD (j:=1) O O underlying105 sizeOf3 O jY O) (Au (v:=(vI t.2.1)) O (AE (i:=0) (v:=(vI t.2.1)) O O BN.a O) (Au (v:=(qa (decide (t.1=t.2.1)))) O (BO (c:=(decide (t.1=t.2.1))) O O O) (AG (v:=(qa (decide (t.1=t.2.1)))) (AI O O) O (oNl' (zR Hz (xP _))))))))
 refine AM O ?_
 refine zX (FM:=[(1,(pP bo.b 0)),(2,(pP b1 0)),(3,(qa false)),(4,(pP b1 0)),(5,(vI t.1)),(6,(vN n)),(7,(qa (Ay n t.1))),(8,(qa (!(Ay n t.1)))),(9,(qa (!(Ay n t.1)))),(15,(qa ((!(Ay n t.1))||(!(Ay n t.2.1))))),(16,(qa ((!(Ay n t.1))||(!(Ay n t.2.1))))),(22,(qa (((!(Ay n t.1))||(!(Ay n t.2.1)))||(!(Ay n t.2.2))))),(23,(qa (((!(Ay n t.1))||(!(Ay n t.2.1)))||(!(Ay n t.2.2))))),(29,(qa ((((!(Ay n t.1))||(!(Ay n t.2.1)))||(!(Ay n t.2.2)))||(decide (t.1=t.2.1))))),(30,(qa ((((!(Ay n t.1))||(!(Ay n t.2.1)))||(!(Ay n t.2.2)))||(decide (t.1=t.2.1))))),(36,(qa (((((!(Ay n t.1))||(!(Ay n t.2.1)))||(!(Ay n t.2.2)))||(decide (t.1=t.2.1)))||(decide (t.2.1=t.2.2)))))]) (LM:=[AR b1 105 (AS t),AB (some ⟨bo.b,0,none⟩) ([(vN n)])]) 6 ?_ ?_
 ·rcases xO ((((!(Ay n t.1))||(!(Ay n t.2.1)))||(!(Ay n t.2.2)))||(decide (t.1=t.2.1))) with hg4|hg4
  ·refine zC (k:=30) (u:=qa true) O (by rw [hg4]) ?_
   have hg4':=hg4
   simp only [jK] at hg4'
   exact Ar O (Ar O (Ar O (Ar O (Ar O (AG (v:=(qa true)) (AN O O) O (oNl' (zR KN (xP _))))))))
  ·refine zC (k:=30) (u:=qa false) O (by rw [hg4]) ?_
   have hg4':=hg4
   simp only [jK] at hg4'
   exact Au (v:=(pP b1 1)) O (AD (j:=1) O O underlying105 sizeOf3 O jY O) (Au (v:=(vI t.2.1)) O (AE (i:=0) (v:=(vI t.2.1)) O O BN.a O) (Au (v:=(pP b1 2)) O (AD (j:=2) O O underlying105 sizeOf3 O jY O) (Au (v:=(vI t.2.2)) O (AE (i:=0) (v:=(vI t.2.2)) O O BN.a O) (Au (v:=(qa (decide (t.2.1=t.2.2)))) O (BO (c:=(decide (t.2.1=t.2.2))) O O O) (AG (v:=(qa (decide (t.2.1=t.2.2)))) (AI O O) O (oNl' (zR KN (xP _))))))))
 refine AM O ?_
 refine zX (FM:=[(1,(pP bo.b 0)),(2,(pP b1 0)),(3,(qa false)),(4,(pP b1 0)),(5,(vI t.1)),(6,(vN n)),(7,(qa (Ay n t.1))),(8,(qa (!(Ay n t.1)))),(9,(qa (!(Ay n t.1)))),(15,(qa ((!(Ay n t.1))||(!(Ay n t.2.1))))),(16,(qa ((!(Ay n t.1))||(!(Ay n t.2.1))))),(22,(qa (((!(Ay n t.1))||(!(Ay n t.2.1)))||(!(Ay n t.2.2))))),(23,(qa (((!(Ay n t.1))||(!(Ay n t.2.1)))||(!(Ay n t.2.2))))),(29,(qa ((((!(Ay n t.1))||(!(Ay n t.2.1)))||(!(Ay n t.2.2)))||(decide (t.1=t.2.1))))),(30,(qa ((((!(Ay n t.1))||(!(Ay n t.2.1)))||(!(Ay n t.2.2)))||(decide (t.1=t.2.1))))),(36,(qa (((((!(Ay n t.1))||(!(Ay n t.2.1)))||(!(Ay n t.2.2)))||(decide (t.1=t.2.1)))||(decide (t.2.1=t.2.2))))),(37,(qa (((((!(Ay n t.1))||(!(Ay n t.2.1)))||(!(Ay n t.2.2)))||(decide (t.1=t.2.1)))||(decide (t.2.1=t.2.2))))),(43,(qa ((((((!(Ay n t.1))||(!(Ay n t.2.1)))||(!(Ay n t.2.2)))||(decide (t.1=t.2.1)))||(decide (t.2.1=t.2.2)))||(decide (t.2.2=t.1)))))]) (LM:=[AR b1 105 (AS t),AB (some ⟨bo.b,0,none⟩) ([(vN n)])]) 6 ?_ ?_
 ·rcases xO (((((!(Ay n t.1))||(!(Ay n t.2.1)))||(!(Ay n t.2.2)))||(decide (t.1=t.2.1)))||(decide (t.2.1=t.2.2))) with hg5|hg5
  ·refine zC (k:=37) (u:=qa true) O (by rw [hg5]) ?_
   have hg5':=hg5
   simp only [jK] at hg5'
   exact Ar O (Ar O (Ar O (Ar O (Ar O (AG (v:=(qa true)) (AN O O) O (oNl' (zR J5 (xP _))))))))
  ·refine zC (k:=37) (u:=qa false) O (by rw [hg5]) ?_
   have hg5':=hg5
   simp only [jK] at hg5'
   exact Au (v:=(pP b1 2)) O (AD (j:=2) O O underlying105 sizeOf3 O jY O) (Au (v:=(vI t.2.2)) O (AE (i:=0) (v:=(vI t.2.2)) O O BN.a O) (Au (v:=(pP b1 0)) O (AD (j:=0) O O underlying105 sizeOf3 O jY O) (Au (v:=(vI t.1)) O (AE (i:=0) (v:=(vI t.1)) O O BN.a O) (Au (v:=(qa (decide (t.2.2=t.1)))) O (BO (c:=(decide (t.2.2=t.1))) O O O) (AG (v:=(qa (decide (t.2.2=t.1)))) (AI O O) O (oNl' (zR J5 (xP _))))))))
 exact asg' O (oNl' (zB (sL [3] O) (zA (zF (ret_one O (rd_tmp (v:=(qa ((((((!(Ay n t.1))||(!(Ay n t.2.1)))||(!(Ay n t.2.2)))||(decide (t.1=t.2.1)))||(decide (t.2.1=t.2.2)))||(decide (t.2.2=t.1))))) O) (λw hw=>⟨by unfold NY;generalize Ay n t.1=q1;generalize Ay n t.2.1=q2;generalize Ay n t.2.2=q3;generalize decide (t.1=t.2.1)=q4;generalize decide (t.2.1=t.2.2)=q5;generalize decide (t.2.2=t.1)=q6;cases q1<;>cases q2<;>cases q3<;>cases q4<;>cases q5<;>cases q6<;>rfl,hw.out⟩))))))
theorem Yo (n:Nat) (bo:BX [vN n]) (ts:List Z3) (x:RX (rowsL AS ts) ts.length) (hl:ts.length<4611686018427387904) (w:World) {S:Nat->Prop} (hbo:Ro S w bo) (hx:Ro S w x):Calls prog 218 #[(qw x.p ts.length x.c),(Value.func (.func 174) #[] #[(pP bo.b 0)])] w (Ak w (vI (idxZ n ts 0))):=by
 have lbo:=Bx (W:=w) hbo
 have lx:=Bx (W:=w) hx
 refine AX (args:=[(qw x.p ts.length x.c),(Value.func (.func 174) #[] #[(pP bo.b 0)])]) (L:=[AB (some ⟨bo.b,0,none⟩) ([(vN n)]),AB x.p (rowsL AS ts)]) func218 O O (Av O) (DF hbo (DF hx Ah)) (zN (sL [0,1] O) (q4 (asg' O (oNl' (q1 (q4 (AM O (AG (v:=(vN ts.length)) (AC O underlying23) O (AM O (oNl' (zB (sL [0,1,4,7,8] O) ?_)))))))))))
 refine zA (zI ?_)
 refine zo (tg λ(j:Nat)=>j<=ts.length/\idxZ n ts 0=idxZ n (ts.drop j) j) (tg λ(j:Nat)=>[(0,(qw x.p ts.length x.c)),(1,(Value.func (.func 174) #[] #[(pP bo.b 0)])),(7,(vN ts.length)),(8,(vN j))]) (tg λ(j:Nat)=>[AB (some ⟨bo.b,0,none⟩) ([(vN n)]),AB x.p (rowsL AS ts)]) (tg λ(j:Nat)=>ts.length-j) 0 (⟨xH _,rfl⟩) (sF O) sr (λj hJ=>?_)
 obtain ⟨hj,he⟩:=hJ
 refine q4 (AG (Ae (c:=(decide (j<ts.length))) O O (CM (a:=j) (b:=ts.length))) O (oNl' (q1 ?_)))
 refine zM O (λhc0=>?_) (λhc0=>?_)
 ·replace hc0:=xR hc0
  refine zG (q1 (zI (q4 (AM O (asg' O (q3 (sL [0,1,7,8,5] O) (AM O (AM O (AM O (AG (v:=(pP (pB x.p) (pO x.p+j*3))) (AF (j:=j) O O x.ok underlying23 sizeOf105 O Z) O (AG (v:=(aG (AS (ts.getD j ((0,0,0):Z3))))) (AQ (vs:=AS (ts.getD j ((0,0,0):Z3))) (i:=1) O O (An.ne x.ok Z) B_ (Al A7 _ _ _ Z) (A7 _)) O ?_)))))))))))
  refine zd (v:=(qa (!NY n (ts.getD j ((0,0,0):Z3))))) (AJ O) (DM (args:=[(aG (AS (ts.getD j ((0,0,0):Z3))))]) (caps:=[(pP bo.b 0)]) (all:=[(aG (AS (ts.getD j ((0,0,0):Z3)))),(pP bo.b 0)]) O O O call174) (λw hw=>Ts (ts.getD j ((0,0,0):Z3)) n bo w (inS hw 0 O lbo)) O (Av O) (oNl' (zB (sL [0,1,7,8,5,16] O) (zA ?_)))
  refine zM O (λhc1=>?_) (λhc1=>?_)
  ·simp only [jK] at hc1
   have hfin:=he.trans (Vz Z (by simpa using hc1))
   exact q4 (AM O (asg' O (oNl' (zB (sL [0,1,7,8,5,4] O) (zA (zF (zY (zO (zk (zY (zO (ret_one O (rd_tmp (v:=(vN j)) O) (λw hw=>⟨by rw [hfin],hw.out⟩)))))))))))))
  ·simp only [jK] at hc1
   exact zG (zJ (zA (zH (AG (AW (c:=((j+1:Nat):Int)) O O (AU (a:=j) (b:=1) Z)) O (AM O (oNl' (zB (sL [0,1,7,8,5] O) (zc (j+1) (⟨Z,he.trans (TD Z (by simpa using hc1))⟩) Z (sF O) sr))))))))
 ·replace hc0:=xQ hc0
  have hfin:=he.trans (Ub hc0)
  exact zU (zP (za (zS (q2 (asg' O (oNl' (zA (zF (ret_one O (rd_tmp (v:=(vI (-1:Int))) O) (λw hw=>⟨by rw [hfin],hw.out⟩))))))))))
theorem XM (n:Nat) (bo:BX [vN n]) (ts:List Z3) (x:RX (rowsL AS ts) ts.length) (hl:ts.length<4611686018427387904) (w:World) {S:Nat->Prop} (hbo:Ro S w bo) (hx:Ro S w x):Calls prog 173 #[(qw x.p ts.length x.c),(Value.func (.func 174) #[] #[(pP bo.b 0)])] w (Ak w (qa (!DG n ts))):=by
 have lbo:=Bx (W:=w) hbo
 have lx:=Bx (W:=w) hx
 refine AX (args:=[(qw x.p ts.length x.c),(Value.func (.func 174) #[] #[(pP bo.b 0)])]) (L:=[AB (some ⟨bo.b,0,none⟩) ([(vN n)]),AB x.p (rowsL AS ts)]) func173 O O (Av O) (DF hbo (DF hx Ah)) (zN (sL [0,1] O) (q4 (asg' O (oNl' (q2 (AM O (AM O (Ct call218 (λw hw=>Yo n bo ts x hl w (inS hw 0 O lbo) (inS hw 1 O lx)) O (AG (Bp (c:=(!DG n ts)) O O (M4 n ts 0)) O (asg' O (oNl' ?_)))))))))))
 exact zB (sL [4] O) (zA (zF (ret_one O (rd_tmp (v:=(qa (!DG n ts))) O) (λw hw=>⟨rfl,hw.out⟩))))
theorem PG (n:Nat) (ts:List Z3) (x:RX (rowsL AS ts) ts.length) (hl:ts.length<4611686018427387904) (w:World) {S:Nat->Prop} (hx:Ro S w x):Calls prog 110 #[(qw x.p ts.length x.c),(vN n)] w (Ak w (qa (DG n ts))):=by
 have lx:=Bx (W:=w) hx
 refine AX (args:=[(qw x.p ts.length x.c),(vN n)]) (L:=[AB x.p (rowsL AS ts)]) func110 O O (Av O) (DF hx Ah) (zN (sL [0,1] O) (q4 (Bb (cs:=[(vN n)]) O λb1=>yn 0 O O λhnb1=>asg' O (q3 (sL [0,3,4] O) (AM O (AG (v:=(Value.func (.func 174) #[] #[(pP b1 0)])) (Dl (vs:=[]) (us:=[(pP b1 0)]) O O) O (Ct call173 (λw hw=>XM n ⟨b1⟩ ts x hl w (dW (x:=(⟨b1⟩:BX [vN n])) hw 0 O hnb1) (inS hw 1 O lx)) O (AG (BQ (c:=(!(!DG n ts))) O O) O (asg' O ?_)))))))))
 exact oNl' (zB (sL [4] O) (zA (zF (ret_one O (rd_tmp (v:=(qa (!(!DG n ts)))) O) (λw hw=>⟨by simp,hw.out⟩)))))
theorem G2 {N K:Nat} {zs:List Z3} (x:RQ N K zs) (hl:zs.length<4611686018427387904) (w:World) {S:Nat->Prop} (hx:Ro S w x):Calls prog 43 #[(aG (Hr x))] w (Ak w (qa (DG N zs))):=by
 have lx:=Bx (W:=w) hx
 refine AX (args:=[(aG (Hr x))]) (L:=[AB x.a.p (x.cs),AB x.b.p (rowsL AS zs),AB x.c.p (x.ds)]) func43 O O (Av O) (DF hx Ah) (zN (sL [0] O) (q4 (Bb (cs:=Hr x) O λb1=>asg' O (q3 (sL [1,2] O) (AG (v:=(pP b1 1)) (AA O underlying30 O sizeOf23 O) O (Az 0 (qw x.b.p zs.length x.b.c) B1 O (AG (v:=(pP b1 0)) (AA O underlying30 O sizeOf28 O) O (Az 0 (qw x.a.p N x.a.c) GG O (AG (v:=(vN N)) (AC O underlying28) O (Ct call110 (λw hw=>PG N zs x.b hl w (eE (inS hw 1 O lx))) O ?_))))))))))
 exact asg' O (oNl' (zB (sL [2] O) (zA (zF (ret_one O (rd_tmp (v:=(qa (DG N zs))) O) (λw hw=>⟨rfl,hw.out⟩))))))
theorem N0 {N K:Nat} {zs:List Z3} (x:RQ N K zs) (p:Int) (w:World) {S:Nat->Prop} (hx:Ro S w x):Calls prog 57 #[(aG (Hr x)),(vI p)] w (Ak w (qa (Ay N p))):=by
 have lx:=Bx (W:=w) hx
 refine AX (args:=[(aG (Hr x)),(vI p)]) (L:=[AB x.a.p (x.cs),AB x.b.p (rowsL AS zs),AB x.c.p (x.ds)]) func57 O O (Av O) (DF hx Ah) (zN (sL [0,1] O) (q4 (Bb (cs:=Hr x) O λb1=>asg' O (q3 (sL [1,2,4] O) (AM O (AG (Bp (c:=(decide ((0:Int)<=p))) O O O) O (AM O ?_)))))))
 refine zX (FM:=[(1,(vI p)),(2,(pP b1 0)),(4,(qa false)),(5,(vI p)),(6,(qa (decide ((0:Int)<=p)))),(7,(qa (decide ((0:Int)<=p)))),(13,(qa ((decide ((0:Int)<=p))&&(decide (p<((N:Nat):Int))))))]) (LM:=[AR b1 39 (Hr x),AB x.a.p (x.cs),AB x.b.p (rowsL AS zs),AB x.c.p (x.ds)]) 6 ?_ ?_
 ·rcases xO (decide ((0:Int)<=p)) with hg1|hg1
  ·refine zC (k:=7) (u:=qa true) O (by rw [hg1]) ?_
   have hg1':=xR hg1
   exact Ds O (Au (v:=(pP b1 0)) O (AA O underlying39 O sizeOf36 O) (Au (v:=(qw x.a.p N x.a.c)) O (AE (i:=0) (v:=(qw x.a.p N x.a.c)) O O Ez.a O) (Au (v:=(vN N)) O (AC O underlying36) (Au (v:=(qa (decide (p<((N:Nat):Int))))) O (Ae (c:=(decide (p<((N:Nat):Int)))) O O O) (AG (v:=(qa (decide (p<((N:Nat):Int))))) (AN O O) O (oNl' (zR Bg (xP _))))))))
  ·refine zC (k:=7) (u:=qa false) O (by rw [hg1]) ?_
   have hg1':=xQ hg1
   exact Ar O (Ar O (Ar O (Ar O (Ar O (AG (v:=(qa false)) (AI O O) O (oNl' (zR Bg (xP _))))))))
 exact asg' O (oNl' (zB (sL [4] O) (zA (zF (ret_one O (rd_tmp (v:=(qa ((decide ((0:Int)<=p))&&(decide (p<((N:Nat):Int)))))) O) (λw hw=>⟨by unfold Ay;first|rfl|simp,hw.out⟩))))))
set_option maxHeartbeats 1000000 in
theorem GJ {N K:Nat} {zs:List Z3} (x:RQ N K zs) (hl:zs.length<=1000000) (w:World) {S:Nat->Prop} (hx:Ro S w x):Calls prog 45 #[(aG (Hr x))] w (Ak w (qa (DG N zs))):=by
 have lx:=Bx (W:=w) hx
 refine AX (args:=[(aG (Hr x))]) (L:=[AB x.a.p (x.cs),AB x.b.p (rowsL AS zs),AB x.c.p (x.ds)]) func45 O O (Av O) (DF hx Ah) (zN (sL [0] O) (q4 (Bb (cs:=Hr x) O λb1=>asg' O (q6 (sL [1,2] O) (q4 (asg' O (oNl' (zA (zI ?_)))))))))
 refine zo (tg λ(i:Nat)=>i<=zs.length/\∀j,j<i->NY N (zs.getD j (0,0,0))=true) (tg λ(i:Nat)=>[(1,(pP b1 0)),(3,(vN i))]) (tg λ(i:Nat)=>[AR b1 39 (Hr x),AB x.a.p (x.cs),AB x.b.p (rowsL AS zs),AB x.c.p (x.ds)]) (tg λ(i:Nat)=>zs.length-i) 0 (⟨xH _,λj h=>absurd h (Nat.not_lt_zero _)⟩) (sF O) sr (λi hJ=>?_)
 obtain ⟨hi,hok⟩:=hJ
 refine zV (q4 (AM O (AG (v:=(pP b1 1)) (AA O underlying39 O sizeOf23 O) O (Az 0 (qw x.b.p zs.length x.b.c) B1 O (AG (v:=(vN zs.length)) (AC O underlying23) O (AG (Ae (c:=(decide (i<zs.length))) O O (CM (a:=i) (b:=zs.length))) O (oNl' (zB (sL [1,3,9] O) (zA ?_)))))))))
 refine zM O (λhc0=>?_) (λhc0=>?_)
 ·replace hc0:=xR hc0
  obtain ⟨T,hT⟩:∃q,q=zs.getD i (0,0,0):=⟨_,rfl⟩
  refine zG (q1 (zI (q4 (AG (v:=(pP b1 1)) (AA O underlying39 O sizeOf23 O) O (Az 0 (qw x.b.p zs.length x.b.c) B1 O (AM O (AG (v:=(pP (pB x.b.p) (pO x.b.p+i*3))) (AF (j:=i) O O x.b.ok underlying23 sizeOf105 O Z) O (AG (v:=(aG (AS (zs.getD i ((0,0,0):Z3))))) (AQ (vs:=AS (zs.getD i ((0,0,0):Z3))) (i:=2) O O (An.ne x.b.ok Z) B_ (Al A7 _ _ _ Z) (A7 _)) O (zC (k:=16) (u:=(aG (AS T))) O (by rw [hT]) (al Id O λb2=>Ax O sizeOf105 O ?_))))))))))
  refine q3 (sL [1,3,4] O) (BD 1 Cp O (AG (v:=(pP b2 0)) (AD (j:=0) O O underlying105 sizeOf3 O jY O) O (Az 0 (vI T.1) BN O (Ct call57 (λw hw=>N0 x T.1 w (inS hw 2 O lx)) O (AG (BQ (c:=(!(Ay N T.1))) O O) O (AM O ?_))))))
  refine zX (FM:=[(1,(pP b1 0)),(3,(vN i)),(4,(pP b2 0)),(17,(aG (Hr x))),(18,(pP b2 0)),(19,(vI T.1)),(20,(qa (Ay N T.1))),(21,(qa (!(Ay N T.1)))),(22,(qa (!(Ay N T.1)))),(28,(qa ((!(Ay N T.1))||(!(Ay N T.2.1)))))]) (LM:=[AR b2 105 (AS T),AR b1 39 (Hr x),AB x.a.p (x.cs),AB x.b.p (rowsL AS zs),AB x.c.p (x.ds)]) 6 ?_ ?_
  ·rcases xO (!(Ay N T.1)) with hg1|hg1
   ·refine zC (k:=22) (u:=qa true) O (by rw [hg1]) ?_
    have hg1':=hg1
    simp only [jK] at hg1'
    exact Ar O (Ar O (Ar O (Ar O (Ar O (AG (v:=(qa true)) (AN O O) O (oNl' (zR Bg (xP _))))))))
   ·refine zC (k:=22) (u:=qa false) O (by rw [hg1]) ?_
    have hg1':=hg1
    simp only [jK] at hg1'
    exact Au (v:=(aG (Hr x))) O (A_ (i:=1) (vs:=Hr x) O O Cp.a Cp.s O O) (Au (v:=(pP b2 1)) O (AD (j:=1) O O underlying105 sizeOf3 O jY O) (Au (v:=(vI T.2.1)) O (AE (i:=0) (v:=(vI T.2.1)) O O BN.a O) (zd (v:=(qa (Ay N T.2.1))) (AH O) (Aw (args:=[(aG (Hr x)),(vI T.2.1)]) O O call57) (λw hw=>N0 x T.2.1 w (inS hw 2 O lx)) O (Av O) (Au (v:=(qa (!(Ay N T.2.1)))) O (BQ (c:=(!(Ay N T.2.1))) O O) (AG (v:=(qa (!(Ay N T.2.1)))) (AI O O) O (oNl' (zR Bg (xP _))))))))
  refine AM O ?_
  refine zX (FM:=[(1,(pP b1 0)),(3,(vN i)),(4,(pP b2 0)),(17,(aG (Hr x))),(18,(pP b2 0)),(19,(vI T.1)),(20,(qa (Ay N T.1))),(21,(qa (!(Ay N T.1)))),(22,(qa (!(Ay N T.1)))),(28,(qa ((!(Ay N T.1))||(!(Ay N T.2.1))))),(29,(qa ((!(Ay N T.1))||(!(Ay N T.2.1))))),(35,(qa (((!(Ay N T.1))||(!(Ay N T.2.1)))||(!(Ay N T.2.2)))))]) (LM:=[AR b2 105 (AS T),AR b1 39 (Hr x),AB x.a.p (x.cs),AB x.b.p (rowsL AS zs),AB x.c.p (x.ds)]) 6 ?_ ?_
  ·rcases xO ((!(Ay N T.1))||(!(Ay N T.2.1))) with hg2|hg2
   ·refine zC (k:=29) (u:=qa true) O (by rw [hg2]) ?_
    have hg2':=hg2
    simp only [jK] at hg2'
    exact Ar O (Ar O (Ar O (Ar O (Ar O (AG (v:=(qa true)) (AN O O) O (oNl' (zR EQ (xP _))))))))
   ·refine zC (k:=29) (u:=qa false) O (by rw [hg2]) ?_
    have hg2':=hg2
    simp only [jK] at hg2'
    exact Au (v:=(aG (Hr x))) O (A_ (i:=1) (vs:=Hr x) O O Cp.a Cp.s O O) (Au (v:=(pP b2 2)) O (AD (j:=2) O O underlying105 sizeOf3 O jY O) (Au (v:=(vI T.2.2)) O (AE (i:=0) (v:=(vI T.2.2)) O O BN.a O) (zd (v:=(qa (Ay N T.2.2))) (AH O) (Aw (args:=[(aG (Hr x)),(vI T.2.2)]) O O call57) (λw hw=>N0 x T.2.2 w (inS hw 2 O lx)) O (Av O) (Au (v:=(qa (!(Ay N T.2.2)))) O (BQ (c:=(!(Ay N T.2.2))) O O) (AG (v:=(qa (!(Ay N T.2.2)))) (AI O O) O (oNl' (zR EQ (xP _))))))))
  refine AM O ?_
  refine zX (FM:=[(1,(pP b1 0)),(3,(vN i)),(4,(pP b2 0)),(17,(aG (Hr x))),(18,(pP b2 0)),(19,(vI T.1)),(20,(qa (Ay N T.1))),(21,(qa (!(Ay N T.1)))),(22,(qa (!(Ay N T.1)))),(28,(qa ((!(Ay N T.1))||(!(Ay N T.2.1))))),(29,(qa ((!(Ay N T.1))||(!(Ay N T.2.1))))),(35,(qa (((!(Ay N T.1))||(!(Ay N T.2.1)))||(!(Ay N T.2.2))))),(36,(qa (((!(Ay N T.1))||(!(Ay N T.2.1)))||(!(Ay N T.2.2))))),(42,(qa ((((!(Ay N T.1))||(!(Ay N T.2.1)))||(!(Ay N T.2.2)))||(decide (T.1=T.2.1)))))]) (LM:=[AR b2 105 (AS T),AR b1 39 (Hr x),AB x.a.p (x.cs),AB x.b.p (rowsL AS zs),AB x.c.p (x.ds)]) 6 ?_ ?_
  ·rcases xO (((!(Ay N T.1))||(!(Ay N T.2.1)))||(!(Ay N T.2.2))) with hg3|hg3
   ·refine zC (k:=36) (u:=qa true) O (by rw [hg3]) ?_
    have hg3':=hg3
    simp only [jK] at hg3'
    exact Ar O (Ar O (Ar O (Ar O (Ar O (AG (v:=(qa true)) (AN O O) O (oNl' (zR Hz (xP _))))))))
   ·refine zC (k:=36) (u:=qa false) O (by rw [hg3]) ?_
    have hg3':=hg3
    simp only [jK] at hg3'
    exact Au (v:=(pP b2 0)) O (AD (j:=0) O O underlying105 sizeOf3 O jY O) (Au (v:=(vI T.1)) O (AE (i:=0) (v:=(vI T.1)) O O BN.a O) (Au (v:=(pP b2 1)) O (AD (j:=1) O O underlying105 sizeOf3 O jY O) (Au (v:=(vI T.2.1)) O (AE (i:=0) (v:=(vI T.2.1)) O O BN.a O) (Au (v:=(qa (decide (T.1=T.2.1)))) O (BO (c:=(decide (T.1=T.2.1))) O O O) (AG (v:=(qa (decide (T.1=T.2.1)))) (AI O O) O (oNl' (zR Hz (xP _))))))))
  refine AM O ?_
  refine zX (FM:=[(1,(pP b1 0)),(3,(vN i)),(4,(pP b2 0)),(17,(aG (Hr x))),(18,(pP b2 0)),(19,(vI T.1)),(20,(qa (Ay N T.1))),(21,(qa (!(Ay N T.1)))),(22,(qa (!(Ay N T.1)))),(28,(qa ((!(Ay N T.1))||(!(Ay N T.2.1))))),(29,(qa ((!(Ay N T.1))||(!(Ay N T.2.1))))),(35,(qa (((!(Ay N T.1))||(!(Ay N T.2.1)))||(!(Ay N T.2.2))))),(36,(qa (((!(Ay N T.1))||(!(Ay N T.2.1)))||(!(Ay N T.2.2))))),(42,(qa ((((!(Ay N T.1))||(!(Ay N T.2.1)))||(!(Ay N T.2.2)))||(decide (T.1=T.2.1))))),(43,(qa ((((!(Ay N T.1))||(!(Ay N T.2.1)))||(!(Ay N T.2.2)))||(decide (T.1=T.2.1))))),(49,(qa (((((!(Ay N T.1))||(!(Ay N T.2.1)))||(!(Ay N T.2.2)))||(decide (T.1=T.2.1)))||(decide (T.1=T.2.2)))))]) (LM:=[AR b2 105 (AS T),AR b1 39 (Hr x),AB x.a.p (x.cs),AB x.b.p (rowsL AS zs),AB x.c.p (x.ds)]) 6 ?_ ?_
  ·rcases xO ((((!(Ay N T.1))||(!(Ay N T.2.1)))||(!(Ay N T.2.2)))||(decide (T.1=T.2.1))) with hg4|hg4
   ·refine zC (k:=43) (u:=qa true) O (by rw [hg4]) ?_
    have hg4':=hg4
    simp only [jK] at hg4'
    exact Ar O (Ar O (Ar O (Ar O (Ar O (AG (v:=(qa true)) (AN O O) O (oNl' (zR KN (xP _))))))))
   ·refine zC (k:=43) (u:=qa false) O (by rw [hg4]) ?_
    have hg4':=hg4
    simp only [jK] at hg4'
    exact Au (v:=(pP b2 0)) O (AD (j:=0) O O underlying105 sizeOf3 O jY O) (Au (v:=(vI T.1)) O (AE (i:=0) (v:=(vI T.1)) O O BN.a O) (Au (v:=(pP b2 2)) O (AD (j:=2) O O underlying105 sizeOf3 O jY O) (Au (v:=(vI T.2.2)) O (AE (i:=0) (v:=(vI T.2.2)) O O BN.a O) (Au (v:=(qa (decide (T.1=T.2.2)))) O (BO (c:=(decide (T.1=T.2.2))) O O O) (AG (v:=(qa (decide (T.1=T.2.2)))) (AI O O) O (oNl' (zR KN (xP _))))))))
  refine AM O ?_
  refine zX (FM:=[(1,(pP b1 0)),(3,(vN i)),(4,(pP b2 0)),(17,(aG (Hr x))),(18,(pP b2 0)),(19,(vI T.1)),(20,(qa (Ay N T.1))),(21,(qa (!(Ay N T.1)))),(22,(qa (!(Ay N T.1)))),(28,(qa ((!(Ay N T.1))||(!(Ay N T.2.1))))),(29,(qa ((!(Ay N T.1))||(!(Ay N T.2.1))))),(35,(qa (((!(Ay N T.1))||(!(Ay N T.2.1)))||(!(Ay N T.2.2))))),(36,(qa (((!(Ay N T.1))||(!(Ay N T.2.1)))||(!(Ay N T.2.2))))),(42,(qa ((((!(Ay N T.1))||(!(Ay N T.2.1)))||(!(Ay N T.2.2)))||(decide (T.1=T.2.1))))),(43,(qa ((((!(Ay N T.1))||(!(Ay N T.2.1)))||(!(Ay N T.2.2)))||(decide (T.1=T.2.1))))),(49,(qa (((((!(Ay N T.1))||(!(Ay N T.2.1)))||(!(Ay N T.2.2)))||(decide (T.1=T.2.1)))||(decide (T.1=T.2.2))))),(50,(qa (((((!(Ay N T.1))||(!(Ay N T.2.1)))||(!(Ay N T.2.2)))||(decide (T.1=T.2.1)))||(decide (T.1=T.2.2))))),(56,(qa ((((((!(Ay N T.1))||(!(Ay N T.2.1)))||(!(Ay N T.2.2)))||(decide (T.1=T.2.1)))||(decide (T.1=T.2.2)))||(decide (T.2.1=T.2.2)))))]) (LM:=[AR b2 105 (AS T),AR b1 39 (Hr x),AB x.a.p (x.cs),AB x.b.p (rowsL AS zs),AB x.c.p (x.ds)]) 6 ?_ ?_
  ·rcases xO (((((!(Ay N T.1))||(!(Ay N T.2.1)))||(!(Ay N T.2.2)))||(decide (T.1=T.2.1)))||(decide (T.1=T.2.2))) with hg5|hg5
   ·refine zC (k:=50) (u:=qa true) O (by rw [hg5]) ?_
    have hg5':=hg5
    simp only [jK] at hg5'
    exact Ar O (Ar O (Ar O (Ar O (Ar O (AG (v:=(qa true)) (AN O O) O (oNl' (zR J5 (xP _))))))))
   ·refine zC (k:=50) (u:=qa false) O (by rw [hg5]) ?_
    have hg5':=hg5
    simp only [jK] at hg5'
    exact Au (v:=(pP b2 1)) O (AD (j:=1) O O underlying105 sizeOf3 O jY O) (Au (v:=(vI T.2.1)) O (AE (i:=0) (v:=(vI T.2.1)) O O BN.a O) (Au (v:=(pP b2 2)) O (AD (j:=2) O O underlying105 sizeOf3 O jY O) (Au (v:=(vI T.2.2)) O (AE (i:=0) (v:=(vI T.2.2)) O O BN.a O) (Au (v:=(qa (decide (T.2.1=T.2.2)))) O (BO (c:=(decide (T.2.1=T.2.2))) O O O) (AG (v:=(qa (decide (T.2.1=T.2.2)))) (AI O O) O (oNl' (zR J5 (xP _))))))))
  refine oNl' (zB (sL [1,3,4,56] O) (zA ?_))
  refine zM O (λhc1=>?_) (λhc1=>?_)
  ·simp only [jK] at hc1
   exact q4 (asg' O (oNl' (zA (zF (zY (zO (zk (zY (zO (ret_one O (rd_tmp (v:=(qa false)) O) (λw hw=>⟨by rw [Xn (j:=i) Z (by rw [<-hT];unfold NY;rw [Bool.eq_false_iff];intro h9;simp only [xZ,xV,xS] at h9;grind)],hw.out⟩)))))))))))
  ·simp only [jK] at hc1
   exact zG (zJ (zA (zH (AM O (AG (AW (c:=((i+1:Nat):Int)) O O (AU (a:=i) (b:=1) Z)) O (asg' O (oNl' (zB (sL [1,3,4] O) (zc (i+1) (⟨Z,λj hj=>by rcases Nat.lt_or_ge j i with h9|h9;exact hok j h9;rw [show j=i by omega,<-hT];unfold NY;simp only [xZ,xV,xS];grind⟩) Z (sF O) (sl sr))))))))))
 ·replace hc0:=xQ hc0
  exact zU (zP (za (zS (q2 (asg' O (oNl' (zA (zF (ret_one O (rd_tmp (v:=(qa true)) O) (λw hw=>⟨by rw [V8 λj hj=>hok j Z],hw.out⟩))))))))))
end
section
abbrev EZ:=Int×Int×Int×Int
def Hk:EZ:=(0,0,0,0)
def De (e:EZ):List Value:=[vI e.1,vI e.2.1,vI e.2.2.1,vI e.2.2.2]
theorem Fv (e:EZ):(De e).length=4:=rfl
abbrev KI:=List (P2×Int)
def dS (a b:Int):P2:=Br a.toNat b.toNat
def FU (N:Nat) (ss:List Z3):Nat->KI
  | 0=>[]
  | k+1=>if Ay N (ss.getD (ss.length-1-k) (0,0,0)).1=true/\Ay N (ss.getD (ss.length-1-k) (0,0,0)).2.1=true then BZ (FU N ss k) (dS (ss.getD (ss.length-1-k) (0,0,0)).1 (ss.getD (ss.length-1-k) (0,0,0)).2.1) (ss.getD (ss.length-1-k) (0,0,0)).2.2 else FU N ss k
def Hy (m:KI) (a b:Nat):Int:=(Ap m (Br a b)).getD 0
def YR (N:Nat) (st:KI×Nat) (v:P2):KI×Nat:=(BZ (BZ st.1 (Br v.1 (N+st.2)) (Hy st.1 v.1 v.2)) (Br v.2 (N+st.2)) (Hy st.1 v.1 v.2),st.2+1)
def DL (N:Nat) (ss:List Z3) (vs:List P2):KI:=(vs.foldl (YR N) (FU N ss ss.length,0)).1
def HF (N:Nat) (e:EZ):Bool:=Ay N e.1&&Ay N e.2.1
def Tf (e:EZ):P2:=(e.1.toNat,e.2.1.toNat)
def E6 (N:Nat) (es:List EZ) (i:Nat):List P2:=((es.take i).filter (HF N)).map Tf
def Jr (ps:List Pt) (v:P2):Pt:=CE (ps.getD v.1 ⟨0,0⟩+ps.getD v.2 ⟨0,0⟩) (1/2)
def IP (ps:List Pt) (vs:List P2):List Pt:=vs.foldl (λl v=>l++[Jr ps v]) ps
theorem Kv (ps:List Pt) (vs:List P2):IP ps vs=ps++vs.map (Jr ps):=by
  have key:∀(vs:List P2) (l:List Pt),vs.foldl (λl v=>l++[Jr ps v]) l=l++vs.map (Jr ps):=λvs=>by
    induction vs with
    | nil=>intro l;rw [List.map_nil,List.append_nil];rfl
    | cons v r ih=>intro l;rw [List.foldl_cons,ih,List.map_cons,xw];rfl
  exact key vs ps
def Ba (s:Tq3):Z3:=((s.1:Int),(s.2.1:Int),(s.2.2:Int))
def BM (n:Nat) (us:List Z3):List T3:=if DG n us=true then GW (us.map DN) else []
def Gs (m:KI) (rs:List T3) (i:Nat):List Z3:=((rs.take i).map λs=>((s.1:Int),(s.2.1:Int),Hy m s.1 s.2.1))++(rs.drop i).map Ba
def Dx (N:Nat) (a b:Int):List Z3->Int
  | []=>0
  | s::r=>if Ay N a=true/\Ay N b=true/\(s.1=a/\s.2.1=b\/s.1=b/\s.2.1=a) then s.2.2 else Dx N a b r
def D7 (N:Nat) (ss:List Z3) (vs:List P2) (a b:Nat):Int:=if N<=b/\b-N<vs.length/\((vs.getD (b-N) (0,0)).1=a\/(vs.getD (b-N) (0,0)).2=a) then Dx N (vs.getD (b-N) (0,0)).1 (vs.getD (b-N) (0,0)).2 ss else Dx N a b ss
section
variable {N:Nat} {ss:List Z3} {vs:List P2} {v:P2} {es:List EZ} {i j k a b:Nat} {m:KI} {rs:List T3} {ps:List Pt}
theorem CR (rs:List T3):rowsL Ac rs=rowsL AS (rs.map Ba):=by unfold rowsL;rw [List.flatMap_map];rfl
theorem GX:Ay N (a:Int)=true↔a<N:=by unfold Ay;simp
theorem CI {p:Int} (h:Ay N p=true):((p.toNat:Nat):Int)=p/\p.toNat<N:=by
  unfold Ay at h
  simp only [xZ,xT] at h
  omega
theorem Pi {p:Int} (h:Ay N p=true):vN p.toNat=vI p:=congrArg vI (CI h).1
theorem cG (st:KI×Nat):∀vs:List P2,(vs.foldl (YR N) st).2=st.2+vs.length:=λvs=>by
  induction vs generalizing st with
  | nil=>rfl
  | cons v r ih=>rw [List.foldl_cons,ih];show st.2+1+r.length=st.2+(r.length+1);omega
theorem NE:DL N ss (vs++[v])=BZ (BZ (DL N ss vs) (Br v.1 (N+vs.length)) (Hy (DL N ss vs) v.1 v.2)) (Br v.2 (N+vs.length)) (Hy (DL N ss vs) v.1 v.2):=by
  unfold DL
  rw [List.foldl_append,List.foldl_cons,List.foldl_nil]
  have key:∀st:KI×Nat,(YR N st v).1=BZ (BZ st.1 (Br v.1 (N+st.2)) (Hy st.1 v.1 v.2)) (Br v.2 (N+st.2)) (Hy st.1 v.1 v.2):=λ_=>rfl
  rw [key,cG,Nat.zero_add]
theorem SA (hi:i<es.length) (h:HF N (es.getD i Hk)=true):E6 N es (i+1)=E6 N es i++[Tf (es.getD i Hk)]:=by
  unfold E6
  rw [Bd (d:=Hk) hi,List.filter_append,List.map_append,List.filter_cons,if_pos h];rfl
theorem Vx (hi:i<es.length) (h:HF N (es.getD i Hk)=false):E6 N es (i+1)=E6 N es i:=by
  unfold E6
  rw [Bd (d:=Hk) hi,List.filter_append,List.map_append,List.filter_cons,if_neg (by rw [h];exact Bool.false_ne_true)];simp
theorem Sm:(E6 N es i).length<=i:=by
  unfold E6
  rw [xI]
  exact xK (List.length_filter_le _ _) (List.length_take_le _ _)
theorem Qv (hv:v∈E6 N es i):v.1<N/\v.2<N:=by
  obtain ⟨e,he,rfl⟩:=List.mem_map.1 hv
  have h:=(List.mem_filter.1 he).2
  unfold HF at h
  rw [xZ] at h
  exact ⟨(CI h.1).2,(CI h.2).2⟩
theorem Hn:(IP ps vs).length=ps.length+vs.length:=by rw [Kv,xJ,xI]
theorem P9:IP ps vs++[Jr ps v]=IP ps (vs++[v]):=by rw [Kv,Kv,List.map_append,xw];rfl
theorem Ym (h:i<ps.length):(IP ps vs).getD i ⟨0,0⟩=ps.getD i ⟨0,0⟩:=by
  rw [Kv,List.getD,List.getElem?_append_left h];rfl
theorem Tb (a b:Nat):Br a b=Br b a:=by unfold Br;exact Prod.ext (Nat.min_comm a b) (Nat.max_comm a b)
theorem Kb (hN:N<=4611686018427387904):∀k,H3 KD (FU N ss k)
  | 0=>H3.nil
  | k+1=>by
    unfold FU
    split
    · rename_i h
      exact (Kb hN k).put (Bm (Nat.lt_of_lt_of_le (CI h.1).2 hN) (Nat.lt_of_lt_of_le (CI h.2).2 hN))
    · exact Kb hN k
theorem Ki (hv:∀v∈vs,v.1<N/\v.2<N) (hN:N+vs.length<=4611686018427387904):H3 KD (DL N ss vs):=by
  have key:∀(vs:List P2) (st:KI×Nat),H3 KD st.1->(∀v∈vs,v.1<N/\v.2<N)->N+st.2+vs.length<=4611686018427387904->H3 KD (vs.foldl (YR N) st).1:=λvs=>by
    induction vs with
    | nil=>intro st h _ _;exact h
    | cons v r ih =>
      intro st h h1 h2
      rw [List.length_cons] at h2
      have:=h1 v List.mem_cons_self
      rw [List.foldl_cons]
      exact ih _ ((h.put (Bm Z Z)).put (Bm Z Z)) (λx hx=>h1 x (List.mem_cons_of_mem _ hx)) (by show N+(st.2+1)+r.length<=_;omega)
  exact key vs _ (Kb Z _) hv Z
theorem XK (h:Ay N (ss.getD (ss.length-1-k) (0,0,0)).1=true/\Ay N (ss.getD (ss.length-1-k) (0,0,0)).2.1=true):BZ (FU N ss k) (dS (ss.getD (ss.length-1-k) (0,0,0)).1 (ss.getD (ss.length-1-k) (0,0,0)).2.1) (ss.getD (ss.length-1-k) (0,0,0)).2.2=FU N ss (k+1):=(if_pos h).symm
theorem YL (h:¬(Ay N (ss.getD (ss.length-1-k) (0,0,0)).1=true/\Ay N (ss.getD (ss.length-1-k) (0,0,0)).2.1=true)):FU N ss k=FU N ss (k+1):=(if_neg h).symm
theorem UZ {x y a b:Nat}:Br x y=Br a b↔(x=a/\y=b\/x=b/\y=a):=by
  unfold Br
  constructor
  · intro h
    have h1:min x y=min a b:=congrArg Prod.fst h
    have h2:max x y=max a b:=congrArg Prod.snd h
    omega
  · rintro (⟨rfl,rfl⟩|⟨rfl,rfl⟩)
    · rfl
    · exact Prod.ext (Nat.min_comm _ _) (Nat.max_comm _ _)
theorem M7 (a b:Int):∀l,Dx N a b l=Dx N b a l
  | []=>rfl
  | s::r=>by
    unfold Dx
    rw [M7 a b r]
    by_cases h:Ay N a=true/\Ay N b=true/\(s.1=a/\s.2.1=b\/s.1=b/\s.2.1=a)
    · rw [if_pos h,if_pos ⟨h.2.1,h.1,h.2.2.symm⟩]
    · rw [if_neg h,if_neg λh2=>h ⟨h2.2.1,h2.1,h2.2.2.symm⟩]
theorem P5 {a b:Int} (h:¬(Ay N a=true/\Ay N b=true)):∀l,Dx N a b l=0
  | []=>rfl
  | s::r=>by
    unfold Dx
    rw [if_neg λh2=>h ⟨h2.1,h2.2.1⟩,P5 h r]
theorem Pe (ha:a<N) (hb:b<N):∀k,k<=ss.length->(Ap (FU N ss k) (Br a b)).getD 0=Dx N a b (ss.drop (ss.length-k))
  | 0,_=>by rw [Nat.sub_zero,List.drop_length];rfl
  | k+1,hk=>by
    have ih:=Pe ha hb k Z
    have hj:ss.length-(k+1)<ss.length:=by omega
    rw [Dp (d:=(0,0,0)) hj,show ss.length-(k+1)+1=ss.length-k by omega]
    unfold FU Dx
    rw [show ss.length-1-k=ss.length-(k+1) by omega]
    generalize ss.getD (ss.length-(k+1)) (0,0,0)=s
    by_cases hs:Ay N s.1=true/\Ay N s.2.1=true
    · rw [if_pos hs,CB]
      obtain ⟨e1,l1⟩:=CI hs.1
      obtain ⟨e2,l2⟩:=CI hs.2
      by_cases hq:Br a b=dS s.1 s.2.1
      · rw [if_pos hq]
        have h:=UZ.1 hq
        rw [if_pos ⟨GX.2 ha,GX.2 hb,Z⟩];rfl
      · rw [if_neg hq,if_neg,ih]
        rintro ⟨_,_,h⟩
        exact hq (UZ.2 Z)
    · rw [if_neg hs,if_neg,ih]
      rintro ⟨_,_,h⟩
      refine hs ?_
      rcases h with ⟨h1,h2⟩|⟨h1,h2⟩
      · rw [h1,h2];exact ⟨GX.2 ha,GX.2 hb⟩
      · rw [h1,h2];exact ⟨GX.2 hb,GX.2 ha⟩
theorem Lj {k:P2} (h:N<=k.2):∀n,Ap (FU N ss n) k=none
  | 0=>rfl
  | n+1=>by
    unfold FU
    split
    · rename_i hs
      rw [CB,if_neg,Lj h n]
      intro e
      have h1:=(CI hs.1).2
      have h2:=(CI hs.2).2
      rw [e] at h
      unfold dS Br at h
      simp only at h
      omega
    · exact Lj h n
theorem V6:∀(n:Nat) (vs:List P2),vs.length=n->(∀v∈vs,v.1<N/\v.2<N)->∀a b,a<=b->Hy (DL N ss vs) a b=D7 N ss vs a b
  | 0,vs,hl,_,a,b,hab=>by
    have e:vs=[]:=List.eq_nil_of_length_eq_zero hl
    subst e
    unfold D7
    rw [if_neg λh=>absurd h.2.1 (Nat.not_lt_zero _)]
    show (Ap (FU N ss ss.length) (Br a b)).getD 0=_
    rcases Nat.lt_or_ge b N with h|h
    · rw [Pe Z h _ (Nat.le_refl _),Nat.sub_self,List.drop_zero]
    · rw [Lj (by unfold Br;simp only;omega),P5 λh2=>absurd (GX.1 h2.2) Z];rfl
  | n+1,vs,hl,hv,a,b,hab=>by
    obtain ⟨us,v,rfl⟩:∃us v,vs=us++[v]:=⟨vs.dropLast,vs.getLast (λe=>by rw [e] at hl;cases hl),(List.dropLast_concat_getLast _).symm⟩
    rw [xJ,List.length_singleton] at hl
    have hvv:=hv v (xG _ (xM.2 rfl))
    have ih:=V6 n us Z λx hx=>hv x (xz _ hx)
    have hmk:Hy (DL N ss us) v.1 v.2=Dx N v.1 v.2 ss:=by
      rcases Nat.le_total v.1 v.2 with h|h
      · rw [ih v.1 v.2 h];unfold D7;rw [if_neg Z]
      · have e:=ih v.2 v.1 h
        unfold D7 at e
        rw [if_neg Z,M7] at e
        rw [<-e];unfold Hy;rw [Tb]
    have e1:Br v.1 (N+us.length)=(v.1,N+us.length):=by unfold Br;exact Prod.ext (by simp only;omega) (by simp only;omega)
    have e2:Br v.2 (N+us.length)=(v.2,N+us.length):=by unfold Br;exact Prod.ext (by simp only;omega) (by simp only;omega)
    have e3:Br a b=(a,b):=by unfold Br;exact Prod.ext (by simp only;omega) (by simp only;omega)
    have ih2:=ih a b hab
    rw [NE,hmk,e1,e2]
    unfold Hy at ih2 ⊢
    rw [e3] at ih2 ⊢
    rw [CB,CB]
    unfold D7 at ih2 ⊢
    rw [xJ,List.length_singleton]
    by_cases hb:b=N+us.length
    · have hg:(us++[v]).getD (b-N) (0,0)=v:=by rw [show b-N=us.length by omega,List.getD,List.getElem?_append_right (Nat.le_refl _),Nat.sub_self];rfl
      rw [hg]
      by_cases h2:v.2=a
      · rw [if_pos (Prod.ext h2.symm hb),if_pos ⟨Z,Z,.inr h2⟩];rfl
      · rw [if_neg λe=>h2 (congrArg Prod.fst e).symm]
        by_cases h1:v.1=a
        · rw [if_pos (Prod.ext h1.symm hb),if_pos ⟨Z,Z,.inl h1⟩];rfl
        · rw [if_neg λe=>h1 (congrArg Prod.fst e).symm,if_neg λh=>by rcases h.2.2 with h|h;exact h1 h;exact h2 h,ih2,if_neg Z]
    · rw [if_neg λe=>hb (congrArg Prod.snd e),if_neg λe=>hb (congrArg Prod.snd e),ih2]
      by_cases h3:N<=b/\b-N<us.length
      · have hg:(us++[v]).getD (b-N) (0,0)=us.getD (b-N) (0,0):=by rw [List.getD,List.getElem?_append_left h3.2];rfl
        rw [hg]
        by_cases h4:(us.getD (b-N) (0,0)).1=a\/(us.getD (b-N) (0,0)).2=a
        · rw [if_pos ⟨h3.1,h3.2,h4⟩,if_pos ⟨h3.1,Z,h4⟩]
        · rw [if_neg λh=>h4 h.2.2,if_neg λh=>h4 h.2.2]
      · rw [if_neg λh=>h3 ⟨h.1,h.2.1⟩,if_neg λh=>h3 ⟨h.1,Z⟩]
theorem XC:Gs m rs rs.length=rs.map λs=>((s.1:Int),(s.2.1:Int),Hy m s.1 s.2.1):=by unfold Gs;simp
theorem Ip:(Gs m rs i).length=rs.length:=by unfold Gs;simp;omega
theorem PI (h:i<rs.length):(Gs m rs i).getD i (0,0,0)=Ba (rs.getD i (0,0,0)):=by
  unfold Gs
  have hl:((rs.take i).map λs:T3=>((s.1:Int),(s.2.1:Int),Hy m s.1 s.2.1)).length=i:=by rw [xI,List.length_take];omega
  rw [List.getD,List.getElem?_append_right (by rw [hl];exact Nat.le_refl _),hl,Nat.sub_self,List.getElem?_map,List.getElem?_drop,Nat.add_zero,List.getD,xN h];rfl
theorem UO {v:Int} (h:i<rs.length) (hv:v=Hy m (rs.getD i (0,0,0)).1 (rs.getD i (0,0,0)).2.1):(Gs m rs i).set i (((Gs m rs i).getD i (0,0,0)).1,((Gs m rs i).getD i (0,0,0)).2.1,v)=Gs m rs (i+1):=by
  rw [PI h,hv]
  unfold Gs
  have hl:((rs.take i).map λs:T3=>((s.1:Int),(s.2.1:Int),Hy m s.1 s.2.1)).length=i:=by rw [xI,List.length_take];omega
  rw [List.set_append_right _ _ (by rw [hl];exact Nat.le_refl _),hl,Nat.sub_self,Dp (d:=(0,0,0)) h,List.map_cons,List.set_cons_zero,Bd (d:=(0,0,0)) h,List.map_append,xw]
  rfl
end
def Fj (N:Nat) (ss:List Z3) (vs:List P2) (us:List Z3):List Z3:=(BM (N+vs.length) us).map λs=>((s.1:Int),(s.2.1:Int),Hy (DL N ss vs) s.1 s.2.1)
theorem SG {n:Nat} {us:List Z3} {s:T3} (h:s∈BM n us) (hN:n<=4611686018427387904):s.1<n/\s.2.1<n:=by
  unfold BM at h
  split at h
  · rename_i e
    exact Yk (G5 e).1 hN h
  · cases h
theorem LU {n:Nat} {us:List Z3}:(BM n us).length<=3*us.length:=by
  unfold BM
  split
  · have h1:=Pl (ts:=us.map DN) (BG (us.map DN)).length
    have h2:=Iv (ts:=us.map DN) (3*(us.map DN).length)
    rw [<-JC] at h2
    have:=xK h1 h2
    rwa [xI] at this
  · exact xH _
structure ZV (N M:Nat) (ss:List Z3) where
  cs:List Value
  es:List Value
  a:RX cs N
  b:RX es M
  c:RX (rowsL AS ss) ss.length
def Oo {N M:Nat} {ss:List Z3} (x:ZV N M ss):List Value:=[x.a.val,x.b.val,x.c.val]
theorem cm {N M:Nat} {ss:List Z3} {x:ZV N M ss} {y:As} (hy:y∈[x.a.row,x.b.row,x.c.row]):y.ro=true:=by
  simp only [xL,List.not_mem_nil,or_false] at hy
  rcases hy with rfl|rfl|rfl<;>rfl
instance {N M:Nat} {ss:List Z3}:C8 (ZV N M ss):=⟨λx=>aG (Oo x),λx=>[x.a.row,x.b.row,x.c.row],λx y hy=>cm hy⟩
section
variable {S:Nat->Prop} {w:World} {N M:Nat} {zs ss:List Z3} {ps:List Pt} {a b:Int} {i:Nat}
def ZV.ru (x:ZV N M ss):RU N M ss.length:=⟨x.cs,x.es,rowsL AS ss,x.a,x.b,x.c⟩
theorem cC {x:ZV N M ss} (h:Ro S w x):Ro S w x.ru:=λy hy=>h y hy
def GK.rs' (x:GK ps zs ss):ZV x.rs.length zs.length ss:=⟨rowsL BK x.rs,rowsL AS zs,x.a,x.b,x.c⟩
theorem aU {x:GK ps zs ss} (h:Ro S w x):Ro S w x.rs':=λy hy=>h y (xz _ hy)
theorem Wg (hi:i<ss.length) {s:Z3} (hs:s=ss.getD i (0,0,0)) (h:Ay N a=true/\Ay N b=true/\(s.1=a/\s.2.1=b\/s.1=b/\s.2.1=a)):Dx N a b (ss.drop i)=s.2.2:=by
  rw [Dp (d:=(0,0,0)) hi,<-hs];exact if_pos h
theorem Yt (hi:i<ss.length) {s:Z3} (hs:s=ss.getD i (0,0,0)) (h:¬(Ay N a=true/\Ay N b=true/\(s.1=a/\s.2.1=b\/s.1=b/\s.2.1=a))):Dx N a b (ss.drop i)=Dx N a b (ss.drop (i+1)):=by
  rw [Dp (d:=(0,0,0)) hi,<-hs];exact if_neg h
end
def bt (N:Nat) (ss:List Z3) (vs:List P2) (us:List Z3):List Z3:=(BM (N+vs.length) us).map λs=>((s.1:Int),(s.2.1:Int),D7 N ss vs s.1 s.2.1)
theorem Xj {N:Nat} {ss us:List Z3} {vs:List P2} (hv:∀v∈vs,v.1<N/\v.2<N) (hN:N+vs.length<=4611686018427387904):bt N ss vs us=Fj N ss vs us:=List.map_congr_left λs hs=>by
  have h:s.1<=s.2.1:=by
    unfold BM at hs
    split at hs
    · rename_i e
      rw [<-Sw (G5 e).1 hN,Im] at hs
      omega
    · cases hs
  rw [V6 _ vs rfl hv _ _ h]
def Ej (f:Nat->Nat->Int) (rs:List T3) (i:Nat):List Z3:=((rs.take i).map λs=>((s.1:Int),(s.2.1:Int),f s.1 s.2.1))++(rs.drop i).map Ba
section
variable {f:Nat->Nat->Int} {rs:List T3} {i:Nat}
theorem XJ:Ej f rs rs.length=rs.map λs=>((s.1:Int),(s.2.1:Int),f s.1 s.2.1):=by unfold Ej;simp
theorem Fh:(Ej f rs i).length=rs.length:=by unfold Ej;simp;omega
theorem L4 (h:i<rs.length):(Ej f rs i).getD i (0,0,0)=Ba (rs.getD i (0,0,0)):=by
  unfold Ej
  have hl:((rs.take i).map λs:T3=>((s.1:Int),(s.2.1:Int),f s.1 s.2.1)).length=i:=by rw [xI,List.length_take];omega
  rw [List.getD,List.getElem?_append_right (by rw [hl];exact Nat.le_refl _),hl,Nat.sub_self,List.getElem?_map,List.getElem?_drop,Nat.add_zero,List.getD,xN h];rfl
theorem JQ {v:Int} (h:i<rs.length) (hv:v=f (rs.getD i (0,0,0)).1 (rs.getD i (0,0,0)).2.1):(Ej f rs i).set i (((Ej f rs i).getD i (0,0,0)).1,((Ej f rs i).getD i (0,0,0)).2.1,v)=Ej f rs (i+1):=by
  rw [L4 h,hv]
  unfold Ej
  have hl:((rs.take i).map λs:T3=>((s.1:Int),(s.2.1:Int),f s.1 s.2.1)).length=i:=by rw [xI,List.length_take];omega
  rw [List.set_append_right _ _ (by rw [hl];exact Nat.le_refl _),hl,Nat.sub_self,Dp (d:=(0,0,0)) h,List.map_cons,List.set_cons_zero,Bd (d:=(0,0,0)) h,List.map_append,xw]
  rfl
end
def Bn (rs qs:List RP):List RP:=qs.foldl (λl q=>l++[q]) rs
def DT (N:Nat) (es:List EZ) (i:Nat):List EZ:=(es.take i).filter (HF N)
section
variable {rs qs:List RP} {q:RP} {N i k:Nat} {es:List EZ}
theorem Oj (rs qs:List RP):Bn rs qs=rs++qs:=by
  have key:∀(qs l:List RP),qs.foldl (λl q=>l++[q]) l=l++qs:=λqs=>by
    induction qs with
    | nil=>intro l;rw [List.append_nil];rfl
    | cons v r ih=>intro l;rw [List.foldl_cons,ih,xw];rfl
  exact key qs rs
theorem Iu:Bn rs qs++[q]=Bn rs (qs++[q]):=by rw [Oj,Oj,xw]
theorem SB:(Bn rs qs).length=rs.length+qs.length:=by rw [Oj,xJ]
theorem GR {y:As} (h:y∈Bi rs):y∈Bi (Bn rs qs):=by
  rw [Oj]
  unfold Bi at h ⊢
  rw [List.flatMap_append]
  exact xz _ h
theorem Nm (hi:i<es.length) (h:HF N (es.getD i Hk)=true):DT N es (i+1)=DT N es i++[es.getD i Hk]:=by
  unfold DT
  rw [Bd (d:=Hk) hi,List.filter_append,List.filter_cons,if_pos h];rfl
theorem Wn (hi:i<es.length) (h:HF N (es.getD i Hk)=false):DT N es (i+1)=DT N es i:=by
  unfold DT
  rw [Bd (d:=Hk) hi,List.filter_append,List.filter_cons,if_neg (by rw [h];exact Bool.false_ne_true)];simp
theorem YQ:(DT N es i).length<=i:=xK (List.length_filter_le _ _) (List.length_take_le _ _)
theorem RC:(E6 N es i).length=(DT N es i).length:=by unfold E6;rw [xI];rfl
theorem UY (hk:k<(DT N es i).length):(((((E6 N es i).getD k (0,0)).1:Nat):Int)=((DT N es i).getD k Hk).1)/\(((((E6 N es i).getD k (0,0)).2:Nat):Int)=((DT N es i).getD k Hk).2.1):=by
  have h1:(E6 N es i).getD k (0,0)=Tf ((DT N es i).getD k Hk):=by
    unfold E6
    show (((DT N es i).map Tf)[k]?).getD (0,0)=_
    rw [List.getElem?_map,xN hk,List.getD,xN hk];rfl
  have h2:HF N ((DT N es i).getD k Hk)=true:=by
    rw [List.getD,xN hk]
    exact (List.mem_filter.1 (List.getElem_mem hk)).2
  unfold HF at h2
  rw [xZ] at h2
  rw [h1]
  exact ⟨(CI h2.1).1,(CI h2.2).1⟩
theorem VY {ss:List Z3} {a b n:Nat} {e:EZ} (hn:n=N) (hk:n<=b) (hl:b-n<(DT N es i).length) (he:e=(DT N es i).getD (b-n) Hk) (h:e.1=(a:Int)\/e.2.1=(a:Int)):Dx N e.1 e.2.1 ss=D7 N ss (E6 N es i) a b:=by
  subst hn
  obtain ⟨h1,h2⟩:=UY (k:=b-n) hl
  rw [<-he] at h1 h2
  unfold D7
  rw [if_pos ⟨hk,by rw [RC];exact hl,Z⟩,h1,h2]
theorem Yz {ss:List Z3} {a b n:Nat} {e:EZ} (hn:n=N) (hl:b-n<(DT N es i).length) (he:e=(DT N es i).getD (b-n) Hk) (h:¬(e.1=(a:Int)\/e.2.1=(a:Int))):Dx N a b ss=D7 N ss (E6 N es i) a b:=by
  subst hn
  obtain ⟨h1,h2⟩:=UY (k:=b-n) hl
  rw [<-he] at h1 h2
  unfold D7
  rw [if_neg λk=>h Z]
theorem WC {ss:List Z3} {a b n:Nat} (hn:n=N) (h:¬(n<=b/\b-n<(DT N es i).length)):Dx N a b ss=D7 N ss (E6 N es i) a b:=by
  subst hn
  unfold D7
  rw [if_neg λk=>h ⟨k.1,by rw [<-RC];exact k.2.1⟩]
theorem CS.any {α:Type} {V:α->Value} {LW:α->List As} {S S':Nat->Prop} {W w:World} {e:Ending} (h:CS V LW S W e w) (hr:∀a,∀y∈LW a,y.ro=false):CS V LW S' W e w:=by
  obtain ⟨a,h1,h2,h3,h4⟩:=h
  refine ⟨a,h1,h2,λx hx b e=>?_,h4⟩
  obtain ⟨k1,k2⟩:=h3 x hx b e
  refine ⟨.inl ?_,k2⟩
  rcases k1 with k1|⟨k1,_⟩
  · exact k1
  · rw [hr a x hx] at k1;cases k1
theorem dj {S:Nat->Prop} {w:World} {N K:Nat} {zs:List Z3} {x:RQ N K zs} (ha:Ro S w x.a) (hb:Ro S w x.b) (hc:Ro S w x.c):Ro S w x:=λy hy=>by
  have hy:y∈[x.a.row,x.b.row,x.c.row]:=hy
  simp only [xL,List.not_mem_nil,or_false] at hy
  rcases hy with rfl|rfl|rfl
  · exact ha _ List.mem_cons_self
  · exact hb _ List.mem_cons_self
  · exact hc _ List.mem_cons_self
theorem Z6 {w:World} {cs:List Value}:Ro UH w (⟨none,0,OwnOk.none.row⟩:RX cs 0):=λy hy=>by
  rcases xM.1 hy with rfl
  exact ⟨λb e=>(by cases e),λ_ _=>trivial⟩
end
theorem NO {w0:BC} {S:Nat->Prop} {L:List As} {w:World} {ps:List Pt} {ts ss:List Z3} {x:GK ps ts ss} (hw:Own w0 w L) (i:Nat) (hi:(L.drop i).take 3=[x.a.row,x.b.row,x.c.row]) (hs:∀y∈Bi x.rs,y∈L) (ha:At w0 S x):Ro (SL w0 S L) w x:=λy hy=>by
  have hy':y∈[x.a.row,x.b.row,x.c.row]++Bi x.rs:=hy
  have hm:y∈L:=by
    rcases List.mem_append.1 hy' with hy|hy
    · exact List.mem_of_mem_drop (List.mem_of_mem_take (hi▸hy))
    · exact hs y hy
  exact ⟨λb e=>(hw.2.1 y hm b e).2,λb e=>⟨⟨y,hm,C8.ro x y hy,e⟩,ha y hy b e⟩⟩
section
variable {N i:Nat} {es:List EZ}
end
end
end Go.Proofs.YtpolhpjiahbidaaGreatDoor
