import Derived.Test.YtfbomiejpbchdaaGreatDoorPart06
import Derived.Test.YtfbomiejpbchdaaGreatDoorPart21
import Derived.Test.YtfbomiejpbchdaaGreatDoorPart28
import Derived.Test.YtfbomiejpbchdaaGreatDoorPart29
import Derived.Test.YtfbomiejpbchdaaGreatDoorPart31
import Derived.Test.YtfbomiejpbchdaaGreatDoorPart33
import Derived.Test.YtfbomiejpbchdaaGreatDoorPart34
namespace Go.Proofs.YtfbomiejpbchdaaGreatDoor
open Go Go.RowKit Go.Proofs.Tryz
set_option linter.unusedVariables false
set_option linter.unusedSimpArgs false
section
def bz (l:Nat):Int×Int×Int:=if l=0 then (2,0,0) else if l=1 then (0,2,0) else if l=2 then (0,0,2) else if l=3 then (1,1,0) else if l=4 then (0,1,1) else (1,0,1)
def D3 (i j k:Nat):Int:=(bz i).1*((bz j).2.1*(bz k).2.2-(bz j).2.2*(bz k).2.1)-(bz i).2.1*((bz j).1*(bz k).2.2-(bz j).2.2*(bz k).1)+(bz i).2.2*((bz j).1*(bz k).2.1-(bz j).2.1*(bz k).1)
def Vv (a b:Pt):Pt:=Qi (a+b) (1/2)
def LP (a b c:Pt) (l:Nat):Pt:=if l=0 then a else if l=1 then b else if l=2 then c else if l=3 then Vv a b else if l=4 then Vv b c else Vv c a
def NL (fam:List T3) (l:Nat):Bool:=fam.any λL=>El L l
def Tu (i j:Nat) (M:T3):Bool:=decide (D3 i j M.1<=0)&&decide (D3 i j M.2.1<=0)&&decide (D3 i j M.2.2<=0)
def Uv (L M:T3):Bool:=Tu L.1 L.2.1 M||Tu L.2.1 L.2.2 M||Tu L.2.2 L.1 M
def VM (L:T3) (l:Nat):Bool:=decide (0<=D3 l L.2.1 L.2.2)&&decide (0<=D3 L.1 l L.2.2)&&decide (0<=D3 L.1 L.2.1 l)
structure VH (fam:List T3):Prop where
  lt:∀L∈fam,L.1<6/\L.2.1<6/\L.2.2<6
  pos:∀L∈fam,0<D3 L.1 L.2.1 L.2.2
  sep:fam.Pairwise λL M=>(Uv L M||Uv M L)=true
  cls:∀L∈fam,∀l,l<6->NL fam l=true->VM L l=true->El L l=true
  CG:∀l,l<3->NL fam l=true
instance (fam:List T3):Decidable (∀l,l<6->NL fam l=true->∀L∈fam,VM L l=true->El L l=true):=inferInstance
section
variable {a b c q:Pt} {l i j k:Nat}
end
end
section
def Kg (mv:Nat->Nat->Nat) (t:T3) (l:Nat):Nat:=if l=0 then t.1 else if l=1 then t.2.1 else if l=2 then t.2.2 else if l=3 then mv t.1 t.2.1 else if l=4 then mv t.2.1 t.2.2 else mv t.2.2 t.1
def WE (mv:Nat->Nat->Nat) (t L:T3):T3:=(Kg mv t L.1,Kg mv t L.2.1,Kg mv t L.2.2)
def VJ (t:T3) (l:Nat):P2:=if l=3 then Cc t.1 t.2.1 else if l=4 then Cc t.2.1 t.2.2 else Cc t.2.2 t.1
def Wf (ps:List Pt) (t:T3) (l:Nat):Pt:=LP (CG ps t.1) (CG ps t.2.1) (CG ps t.2.2) l
structure WR (ps:List Pt) (ts:List T3) (ps':List Pt) (ts':List T3) (mv:Nat->Nat->Nat) (fam:T3->List T3):Prop where
  g:Fp ps ts
  cut:ts'=ts.flatMap λt=>(fam t).map (WE mv t)
  fok:∀t∈ts,VH (fam t)
  len:ps.length<=ps'.length
  old:∀p,p<ps.length->CG ps' p=CG ps p
  mid:∀t∈ts,∀l,3<=l->l<6->NL (fam t) l=true->ps.length<=Kg mv t l/\Kg mv t l<ps'.length/\CG ps' (Kg mv t l)=Wf ps t l
  new:∀p,ps.length<=p->p<ps'.length->∃t∈ts,∃l,3<=l/\l<6/\NL (fam t) l=true/\p=Kg mv t l
  cls:∀t∈ts,∀s∈ts,∀l k,3<=l->l<6->3<=k->k<6->NL (fam s) k=true->VJ t l=VJ s k->NL (fam t) l=true/\Kg mv t l=Kg mv s k
section
variable {ps ps':List Pt} {ts ts':List T3} {mv:Nat->Nat->Nat} {fam:T3->List T3} {t s c L:T3} {l k p:Nat}
theorem SI (h:t∈ts):∃j,j<ts.length/\ts.getD j (0,0,0)=t:=by
  obtain ⟨j,hj,e⟩:=List.getElem_of_mem h
  exact ⟨j,hj,by rw [List.getD,List.getElem?_eq_getElem hj];exact e⟩
theorem WR.tri (S:WR ps ts ps' ts' mv fam) (ht:t∈ts):VY ps t:=by
  obtain ⟨j,hj,rfl⟩:=SI ht
  exact S.g.tri j hj
end
end
section
section
variable {ps:List Pt} {ts ss:List T3} {c:T3}
theorem At.swap {w0:BL} {S:Nat->Prop} {us:List T3} {x:MX ps us ss} {y:MX ps ts ss} (hx:At w0 S x) (hy:At w0 S y):At w0 S (⟨x.a,y.b,x.c⟩:MX ps ts ss):=λz hz b e=>by
  have hz:z∈[x.a.row,y.b.row,x.c.row]:=hz
  simp only [List.mem_cons,List.not_mem_nil,or_false] at hz
  rcases hz with rfl|rfl|rfl
  · exact hx _ (show x.a.row∈[x.a.row,x.b.row,x.c.row] by simp) b e
  · exact hy _ (show y.b.row∈[y.a.row,y.b.row,y.c.row] by simp) b e
  · exact hx _ (show x.c.row∈[x.a.row,x.b.row,x.c.row] by simp) b e
end
end
section
section
variable {ps:List Pt} {ts us ss:List T3} {N:Nat}
theorem OR {a b:List Rat} (h:a.Perm b):Db a=Db b:=by
  induction h with
  | nil=>rfl
  | cons x _ ih=>simp only [Db,ih]
  | swap x y l=>simp only [Db];grind
  | trans _ _ h1 h2=>rw [h1,h2]
def Vd (ps:List Pt) (s t:T3):Prop:=(!Dp (Bi ps s) (Bi ps t)&&!Dp (Bi ps t) (Bi ps s))=false
theorem Vd.symm {s t:T3} (h:Vd ps s t):Vd ps t s:=by unfold Vd at *;rw [Bool.and_comm];exact h
def k4 (e:E4):Nat×Nat×Bool×Bool:=(e.a,e.b,decide (e.l<0),decide (e.r<0))
def VZ (x y:Nat×Nat×Bool×Bool):Prop:=x.1<y.1\/(x.1=y.1/\x.2.1<y.2.1)
theorem VZ.asymm (x y:Nat×Nat×Bool×Bool) (h:VZ x y):¬VZ y x:=by unfold VZ at *;omega
theorem F4.neg {s a b:Nat} {z:Int} (h:F4 ts s a b z):z<0↔¬∃u,u<s/\BS ts u=(a,b):=by
  rcases h with ⟨h1,h2⟩|⟨u,h1,h2,h3,_⟩
  · exact ⟨λ_ ⟨u,hu,e⟩=>h2 u hu e,λ_=>by omega⟩
  · exact ⟨λh=>by omega,λh=>absurd ⟨u,h1,h3⟩ h⟩
theorem Fr (ts:List T3) (a b:Nat):∀s,∃z,F4 ts s a b z
  | 0=>⟨-1,F4.none λu hu=>absurd hu (Nat.not_lt_zero _)⟩
  | s+1=>by
    obtain ⟨z,h⟩:=Fr ts a b s
    by_cases e:BS ts s=(a,b)
    · by_cases hz:z = -1
      · subst hz;exact ⟨_,h.take e⟩
      · exact ⟨z,h.keep hz⟩
    · exact ⟨z,h.skip e⟩
end
end
section
section
variable {P:Program} {ops:Array Oper} {rest:List Oper} {Q:Exit->Act->World->Prop} {n:Nat} {F:List (Nat×Value)} {w0:BL} {L:List As} {S:Nat->Prop} {ps:List Pt} {ts us ss:List T3}
theorem AE.litT {b U:Nat} {cs:List Value} (LL:RX (rowsL Av ts) ts.length->List As) (i:Nat) (h:L[i]?=some (Ae b U cs)) (hex:w0.ex=none) (e:cs=rowsL Av ts)
    (hL:L.set i (Ai (some ⟨b,0,none⟩) cs)=LL ⟨some ⟨b,0,none⟩,ts.length,F5 _ _⟩)
    (next:∀tt:RX (rowsL Av ts) ts.length,At w0 S tt->AE P ops rest Q n F w0 (LL tt)):AE P ops rest Q n F w0 L:=λa w ha hw=>by
  subst e
  have n1:=Kk hw h hex
  have w1:=hw.freeze (x:=Ae b U (rowsL Av ts)) (y:=Ai (some ⟨b,0,none⟩) (rowsL Av ts)) h rfl (λo hp=>Em hp) (λe=>by cases e)
  rw [hL] at w1
  refine next _ (λy hy c eb=>?_) a w ha w1
  rcases List.mem_singleton.1 hy with rfl
  injection eb with eb;subst eb;exact .inl (by assumption)
theorem At.withT {x:MX ps us ss} {t:RX (rowsL Av ts) ts.length} (hx:At w0 S x) (ht:At w0 S t):At w0 S (⟨x.a,t,x.c⟩:MX ps ts ss):=λz hz b e=>by
  have hz:z∈[x.a.row,t.row,x.c.row]:=hz
  simp only [List.mem_cons,List.not_mem_nil,or_false] at hz
  rcases hz with rfl|rfl|rfl
  · exact hx _ (show x.a.row∈[x.a.row,x.b.row,x.c.row] by simp) b e
  · exact ht _ (List.mem_singleton.2 O) b e
  · exact hx _ (show x.c.row∈[x.a.row,x.b.row,x.c.row] by simp) b e
end
def EV:List Pt:=[⟨0,0⟩,⟨1,0⟩,⟨1,1⟩,⟨0,1⟩]
def Cf:List T3:=[(0,1,2),(0,2,3)]
def NJ:List T3:=[(0,1,2),(0,3,2)]
def Jc:List T3:=[(0,1,1),(0,3,0),(1,2,0),(2,3,0)]
theorem NY (i:Nat):B8 (CG EV i)<=1000:=UJ (by decide +kernel) (by decide +kernel) i
theorem T8:∀i,i<Cf.length->∀k,k<i->(!Dp (Bi EV (Cf.getD i (0,0,0))) (Bi EV (Cf.getD k (0,0,0)))&&!Dp (Bi EV (Cf.getD k (0,0,0))) (Bi EV (Cf.getD i (0,0,0))))=false:=by decide +kernel
theorem Tr:∀i,i<Cf.length->∀p,p<EV.length->El (Cf.getD i (0,0,0)) p=false->NO EV (CG EV p) (Cf.getD i (0,0,0))=0:=by decide +kernel
theorem SU:Ly EV Cf Jc:=by
  refine ⟨by decide,by decide,by decide,by decide,NY,by decide +kernel,by decide +kernel,by decide +kernel,λp hp=>?_,by decide +kernel,λi k hi hk=>T8 i hi k hk,λi p hi hp=>Tr i hi p hp,by decide +kernel,by decide +kernel⟩
  have hp:p<4:=hp
  have e:p=0\/p=1\/p=2\/p=3:=by omega
  rcases e with rfl|rfl|rfl|rfl
  · exact ⟨0,by decide,by decide +kernel⟩
  · exact ⟨0,by decide,by decide +kernel⟩
  · exact ⟨0,by decide,by decide +kernel⟩
  · exact ⟨1,by decide,by decide +kernel⟩
end
section
set_option maxRecDepth 100000
theorem Q6 {ps:List Pt} {ts ss:List T3} (x:MX ps ts ss) (hnb:By ps.length ts=true) (hp:ps.length<=4096) (htl:ts.length<=8192) (hsl:ss.length<=24576) (hz:∀k,B8 (CG ps k)<=1000) (jb:Nat) (hjb:jb<ts.length) (hup:∀j,j<jb->(Ag (CG ps (ts.getD j (0,0,0)).1) (CG ps (ts.getD j (0,0,0)).2.1) (CG ps (ts.getD j (0,0,0)).2.2)).num.sign=1) (hbad:¬(Ag (CG ps (ts.getD jb (0,0,0)).1) (CG ps (ts.getD jb (0,0,0)).2.1) (CG ps (ts.getD jb (0,0,0)).2.2)).num.sign=1) (w:World) {S:Nat->Prop} (hx:Ro S w x):Calls prog 73 #[(aG (C5 x))] w (Am w (Value.bool false)):=by
 have lx:=Er (W:=w) hx
 refine BI (args:=[(aG (C5 x))]) (L:=[Ai x.a.p (rowsL Aj ps),Ai x.b.p (rowsL Av ts),Ai x.c.p (rowsL Av ss)]) func73 O O (Ab O) (En hx BW) (AF.subF (sL [0] O) (q4 (Bq (cs:=C5 x) O λb1=>AK O (q3 (sL [1,2] O) ?_))))
 refine AG (v:=(pP b1 0)) (AA O underlying30 O sizeOf28 O) O (BO 0 (Value.slice x.a.p ps.length x.a.c) DV O (AG (v:=(vN ps.length)) (AH O underlying28) O (AK O (q6 (sL [1,2,3] O) (q4 ?_)))))
 refine AG (v:=(pP b1 1)) (AA O underlying30 O sizeOf23 O) O (BO 0 (Value.slice x.b.p ts.length x.b.c) Dn O (AG (v:=(vN ts.length)) (AH O underlying23) O (AO O (AE.nil (AD.subF (sL [1,2,3,12,13,14] O) ?_)))))
 refine AD.then_ (AF.block ?_)
 refine AF.lp1 (tg λ(i:Nat)=>i<=jb) (tg λ(i:Nat)=>[(1,(pP b1 0)),(3,(vN ps.length)),(12,(Value.slice x.b.p ts.length x.b.c)),(13,(vN ts.length)),(14,(vN i))]) (tg λ(i:Nat)=>[Ae b1 30 (C5 x),Ai x.a.p (rowsL Aj ps),Ai x.b.p (rowsL Av ts),Ai x.c.p (rowsL Av ss)]) (tg λ(i:Nat)=>ts.length-i) 0 (Nat.zero_le _) (sF O) sr (λi hJ=>?_)
 have hi:=hJ
 refine q4 (AG (Af (c:=(decide (i<ts.length))) O O (C6 (a:=i) (b:=ts.length))) O (AE.nil (q1 ?_)))
 refine AF.cond O (λhc0=>?_) (λhc0=>?_)
 ·replace hc0:=of_decide_eq_true hc0
  obtain ⟨T,hT⟩:∃q,q=ts.getD i (0,0,0):=⟨_,rfl⟩
  obtain ⟨g1,g2,g3⟩:=DW (Cb hnb hc0)
  rw [<-hT] at g1 g2 g3
  have z0:B8 (ps.getD T.1 ⟨0,0⟩)<=1000:=hz _
  have z1:B8 (ps.getD T.2.1 ⟨0,0⟩)<=1000:=hz _
  have z2:B8 (ps.getD T.2.2 ⟨0,0⟩)<=1000:=hz _
  refine AF.skip (q1 (AF.block (q4 (AG (v:=(pP (pB x.b.p) (pO x.b.p+i*3))) (AN (j:=i) O O x.b.ok underlying23 sizeOf79 O Z) O (AG (v:=(aG (Av (ts.getD i ((0,0,0):Nat×Nat×Nat))))) (AW (vs:=Av (ts.getD i ((0,0,0):Nat×Nat×Nat))) (i:=2) O O (BB.ne x.b.ok Z) JB (Ar BK _ _ _ Z) (BK _)) O ?_)))))
  refine AE.retell (k:=17) (u:=(aG (Av T))) O (by rw [hT]) (al Lu O λb2=>Au O sizeOf79 O (q6 (sL [1,3,12,13,14,5] O) ?_))
  by_cases kj:i=jb
  ·skip
   refine C4 [(0,true),(1,true),(2,true),(3,false),(4,true),(5,true),(6,true),(7,true),(8,true),(9,false),(10,true),(11,true),(12,true),(13,true),(14,true),(15,true),(16,false),(17,true),(18,true),(19,true),(20,true),(21,true),(22,true),(23,true),(24,true),(25,true),(26,true),(27,true),(28,true),(29,true),(30,true),(31,true),(32,true),(33,true),(34,true),(35,true),(36,true),(37,true),(38,false),(39,true),(40,true)] sr (Ay (v:=(pP b2 0)) O (AC (j:=0) O O underlying79 sizeOf3 O (by decide) O) (Bn 0 (vN T.1) Bs O (Bo O (AS.imp O (ET (args:=[(vN T.1),(vN ps.length)]) (v:=(Value.bool true)) call63 (λw hw=>(by have h9:=B5 T.1 ps.length w;rw [decide_eq_true Z] at h9;exact h9)) O ?_)))))
   refine AS.back sr (Ay O (Ba (c:=false) O O) (Bo O (AS.pas (v:=(pP b2 1)) O (AB O) (AC (j:=1) O O underlying79 sizeOf3 O (by decide) O) O O (AS.pas (v:=(vN T.2.1)) O (AB O) (AM (i:=0) (v:=(vN T.2.1)) O O Bs.a O) O O (AS.pas (v:=(vN ps.length)) O (AB O) (Az O) O O ?_)))))
   refine AS.imp O (AE.call (v:=(Value.bool true)) (AB O) (Aw (args:=[(vN T.2.1),(vN ps.length)]) O O call63) (λw hw=>(by have h9:=B5 T.2.1 ps.length w;rw [decide_eq_true Z] at h9;exact h9)) O (Ab O) (AS.back sr (AS.pas (v:=(Value.bool false)) O (AB O) (Ba (c:=false) O O) O O (Ay (v:=(Value.bool false)) O (AU O O) (Bo O ?_)))))
   refine AS.pas (v:=(pP b2 2)) O (AB O) (AC (j:=2) O O underlying79 sizeOf3 O (by decide) O) O O (AS.pas (v:=(vN T.2.2)) O (AB O) (AM (i:=0) (v:=(vN T.2.2)) O O Bs.a O) O O (AS.pas (v:=(vN ps.length)) O (AB O) (Az O) O O (AS.imp O (AE.call (v:=(Value.bool true)) (AB O) (Aw (args:=[(vN T.2.2),(vN ps.length)]) O O call63) (λw hw=>(by have h9:=B5 T.2.2 ps.length w;rw [decide_eq_true Z] at h9;exact h9)) O (Ab O) (AS.back sr ?_)))))
   refine AS.pas (v:=(Value.bool false)) O (AB O) (Ba (c:=false) O O) O O (Ay (v:=(Value.bool false)) O (AU O O) (Bo O (AS.pas (v:=(pP b1 0)) O (AB O) (AA O underlying30 O sizeOf28 O) O O (AS.pas (v:=(Value.slice x.a.p ps.length x.a.c)) O (AB O) (AM (i:=1) (v:=(Value.slice x.a.p ps.length x.a.c)) O O DV.a O) O O (AS.pas (v:=(pP b2 0)) O (AB O) (AC (j:=0) O O underlying79 sizeOf3 O (by decide) O) O O ?_)))))
   refine AS.pas (v:=(vN T.1)) O (AB O) (AM (i:=0) (v:=(vN T.1)) O O Bs.a O) O O (AS.pas (v:=(pP (pB x.a.p) (pO x.a.p+T.1*10))) O (AB O) (AN (j:=T.1) O O x.a.ok underlying28 sizeOf63 O Z) O O (AS.pas (v:=(aG (Aj (ps.getD T.1 (⟨0,0⟩:Pt))))) O (AB O) (AW (vs:=Aj (ps.getD T.1 (⟨0,0⟩:Pt))) (i:=2) O O (BB.ne x.a.ok Z) BQ (Ar BE _ _ _ Z) (BE _)) O O (AS.pas (v:=(pP b1 0)) O (AB O) (AA O underlying30 O sizeOf28 O) O O (AS.pas (v:=(Value.slice x.a.p ps.length x.a.c)) O (AB O) (AM (i:=1) (v:=(Value.slice x.a.p ps.length x.a.c)) O O DV.a O) O O (AS.pas (v:=(pP b2 1)) O (AB O) (AC (j:=1) O O underlying79 sizeOf3 O (by decide) O) O O ?_)))))
   refine AS.pas (v:=(vN T.2.1)) O (AB O) (AM (i:=0) (v:=(vN T.2.1)) O O Bs.a O) O O (AS.pas (v:=(pP (pB x.a.p) (pO x.a.p+T.2.1*10))) O (AB O) (AN (j:=T.2.1) O O x.a.ok underlying28 sizeOf63 O Z) O O (AS.pas (v:=(aG (Aj (ps.getD T.2.1 (⟨0,0⟩:Pt))))) O (AB O) (AW (vs:=Aj (ps.getD T.2.1 (⟨0,0⟩:Pt))) (i:=2) O O (BB.ne x.a.ok Z) BQ (Ar BE _ _ _ Z) (BE _)) O O (AS.pas (v:=(pP b1 0)) O (AB O) (AA O underlying30 O sizeOf28 O) O O (AS.pas (v:=(Value.slice x.a.p ps.length x.a.c)) O (AB O) (AM (i:=1) (v:=(Value.slice x.a.p ps.length x.a.c)) O O DV.a O) O O (AS.pas (v:=(pP b2 2)) O (AB O) (AC (j:=2) O O underlying79 sizeOf3 O (by decide) O) O O ?_)))))
   refine AS.pas (v:=(vN T.2.2)) O (AB O) (AM (i:=0) (v:=(vN T.2.2)) O O Bs.a O) O O (AS.pas (v:=(pP (pB x.a.p) (pO x.a.p+T.2.2*10))) O (AB O) (AN (j:=T.2.2) O O x.a.ok underlying28 sizeOf63 O Z) O O (AS.pas (v:=(aG (Aj (ps.getD T.2.2 (⟨0,0⟩:Pt))))) O (AB O) (AW (vs:=Aj (ps.getD T.2.2 (⟨0,0⟩:Pt))) (i:=2) O O (BB.ne x.a.ok Z) BQ (Ar BE _ _ _ Z) (BE _)) O O (AS.imp O (AE.call (v:=(vI ((Ag (ps.getD T.1 (⟨0,0⟩:Pt)) (ps.getD T.2.1 (⟨0,0⟩:Pt)) (ps.getD T.2.2 (⟨0,0⟩:Pt))).num.sign))) (AB O) (Aw (args:=[(aG (Aj (ps.getD T.1 (⟨0,0⟩:Pt)))),(aG (Aj (ps.getD T.2.1 (⟨0,0⟩:Pt)))),(aG (Aj (ps.getD T.2.2 (⟨0,0⟩:Pt))))]) O O call117) (λw hw=>Gs (ps.getD T.1 (⟨0,0⟩:Pt)) (ps.getD T.2.1 (⟨0,0⟩:Pt)) (ps.getD T.2.2 (⟨0,0⟩:Pt)) Z w) O (Ab O) (AS.back sr ?_)))))
   refine AS.pas (v:=(Value.bool true)) O (AB O) (CL (c:=true) O O (decide_eq_true (λh9=>hbad (by rw [<-kj,<-hT];exact h9)))) O O (Ay (v:=(Value.bool true)) O (AU O O) (AS.nil (AD.subF (sL [1,3,12,13,14,5,58] O) (AD.then_ (AF.cond_true O ?_)))))
   refine q4 (AK O (AE.nil (AD.subF (sL [1,3,12,13,14,5,2] O) (AD.then_ (AF.ret ?_)))))
   exact AD.in_ret (AD.then_ret (AD.round1_ret (AD.in_ret (AD.then_ret (AP O (Ad (v:=(Value.bool false)) O) (λw hw=>⟨rfl,hw.out⟩))))))
  ·skip
   refine C4 [(0,true),(1,true),(2,true),(3,false),(4,true),(5,true),(6,true),(7,true),(8,true),(9,false),(10,true),(11,true),(12,true),(13,true),(14,true),(15,true),(16,false),(17,true),(18,true),(19,true),(20,true),(21,true),(22,true),(23,true),(24,true),(25,true),(26,true),(27,true),(28,true),(29,true),(30,true),(31,true),(32,true),(33,true),(34,true),(35,true),(36,true),(37,true),(38,false),(39,true),(40,true)] sr (Ay (v:=(pP b2 0)) O (AC (j:=0) O O underlying79 sizeOf3 O (by decide) O) (Bn 0 (vN T.1) Bs O (Bo O (AS.imp O (ET (args:=[(vN T.1),(vN ps.length)]) (v:=(Value.bool true)) call63 (λw hw=>(by have h9:=B5 T.1 ps.length w;rw [decide_eq_true Z] at h9;exact h9)) O ?_)))))
   refine AS.back sr (Ay O (Ba (c:=false) O O) (Bo O (AS.pas (v:=(pP b2 1)) O (AB O) (AC (j:=1) O O underlying79 sizeOf3 O (by decide) O) O O (AS.pas (v:=(vN T.2.1)) O (AB O) (AM (i:=0) (v:=(vN T.2.1)) O O Bs.a O) O O (AS.pas (v:=(vN ps.length)) O (AB O) (Az O) O O ?_)))))
   refine AS.imp O (AE.call (v:=(Value.bool true)) (AB O) (Aw (args:=[(vN T.2.1),(vN ps.length)]) O O call63) (λw hw=>(by have h9:=B5 T.2.1 ps.length w;rw [decide_eq_true Z] at h9;exact h9)) O (Ab O) (AS.back sr (AS.pas (v:=(Value.bool false)) O (AB O) (Ba (c:=false) O O) O O (Ay (v:=(Value.bool false)) O (AU O O) (Bo O ?_)))))
   refine AS.pas (v:=(pP b2 2)) O (AB O) (AC (j:=2) O O underlying79 sizeOf3 O (by decide) O) O O (AS.pas (v:=(vN T.2.2)) O (AB O) (AM (i:=0) (v:=(vN T.2.2)) O O Bs.a O) O O (AS.pas (v:=(vN ps.length)) O (AB O) (Az O) O O (AS.imp O (AE.call (v:=(Value.bool true)) (AB O) (Aw (args:=[(vN T.2.2),(vN ps.length)]) O O call63) (λw hw=>(by have h9:=B5 T.2.2 ps.length w;rw [decide_eq_true Z] at h9;exact h9)) O (Ab O) (AS.back sr ?_)))))
   refine AS.pas (v:=(Value.bool false)) O (AB O) (Ba (c:=false) O O) O O (Ay (v:=(Value.bool false)) O (AU O O) (Bo O (AS.pas (v:=(pP b1 0)) O (AB O) (AA O underlying30 O sizeOf28 O) O O (AS.pas (v:=(Value.slice x.a.p ps.length x.a.c)) O (AB O) (AM (i:=1) (v:=(Value.slice x.a.p ps.length x.a.c)) O O DV.a O) O O (AS.pas (v:=(pP b2 0)) O (AB O) (AC (j:=0) O O underlying79 sizeOf3 O (by decide) O) O O ?_)))))
   refine AS.pas (v:=(vN T.1)) O (AB O) (AM (i:=0) (v:=(vN T.1)) O O Bs.a O) O O (AS.pas (v:=(pP (pB x.a.p) (pO x.a.p+T.1*10))) O (AB O) (AN (j:=T.1) O O x.a.ok underlying28 sizeOf63 O Z) O O (AS.pas (v:=(aG (Aj (ps.getD T.1 (⟨0,0⟩:Pt))))) O (AB O) (AW (vs:=Aj (ps.getD T.1 (⟨0,0⟩:Pt))) (i:=2) O O (BB.ne x.a.ok Z) BQ (Ar BE _ _ _ Z) (BE _)) O O (AS.pas (v:=(pP b1 0)) O (AB O) (AA O underlying30 O sizeOf28 O) O O (AS.pas (v:=(Value.slice x.a.p ps.length x.a.c)) O (AB O) (AM (i:=1) (v:=(Value.slice x.a.p ps.length x.a.c)) O O DV.a O) O O (AS.pas (v:=(pP b2 1)) O (AB O) (AC (j:=1) O O underlying79 sizeOf3 O (by decide) O) O O ?_)))))
   refine AS.pas (v:=(vN T.2.1)) O (AB O) (AM (i:=0) (v:=(vN T.2.1)) O O Bs.a O) O O (AS.pas (v:=(pP (pB x.a.p) (pO x.a.p+T.2.1*10))) O (AB O) (AN (j:=T.2.1) O O x.a.ok underlying28 sizeOf63 O Z) O O (AS.pas (v:=(aG (Aj (ps.getD T.2.1 (⟨0,0⟩:Pt))))) O (AB O) (AW (vs:=Aj (ps.getD T.2.1 (⟨0,0⟩:Pt))) (i:=2) O O (BB.ne x.a.ok Z) BQ (Ar BE _ _ _ Z) (BE _)) O O (AS.pas (v:=(pP b1 0)) O (AB O) (AA O underlying30 O sizeOf28 O) O O (AS.pas (v:=(Value.slice x.a.p ps.length x.a.c)) O (AB O) (AM (i:=1) (v:=(Value.slice x.a.p ps.length x.a.c)) O O DV.a O) O O (AS.pas (v:=(pP b2 2)) O (AB O) (AC (j:=2) O O underlying79 sizeOf3 O (by decide) O) O O ?_)))))
   refine AS.pas (v:=(vN T.2.2)) O (AB O) (AM (i:=0) (v:=(vN T.2.2)) O O Bs.a O) O O (AS.pas (v:=(pP (pB x.a.p) (pO x.a.p+T.2.2*10))) O (AB O) (AN (j:=T.2.2) O O x.a.ok underlying28 sizeOf63 O Z) O O (AS.pas (v:=(aG (Aj (ps.getD T.2.2 (⟨0,0⟩:Pt))))) O (AB O) (AW (vs:=Aj (ps.getD T.2.2 (⟨0,0⟩:Pt))) (i:=2) O O (BB.ne x.a.ok Z) BQ (Ar BE _ _ _ Z) (BE _)) O O (AS.imp O (AE.call (v:=(vI ((Ag (ps.getD T.1 (⟨0,0⟩:Pt)) (ps.getD T.2.1 (⟨0,0⟩:Pt)) (ps.getD T.2.2 (⟨0,0⟩:Pt))).num.sign))) (AB O) (Aw (args:=[(aG (Aj (ps.getD T.1 (⟨0,0⟩:Pt)))),(aG (Aj (ps.getD T.2.1 (⟨0,0⟩:Pt)))),(aG (Aj (ps.getD T.2.2 (⟨0,0⟩:Pt))))]) O O call117) (λw hw=>Gs (ps.getD T.1 (⟨0,0⟩:Pt)) (ps.getD T.2.1 (⟨0,0⟩:Pt)) (ps.getD T.2.2 (⟨0,0⟩:Pt)) Z w) O (Ab O) (AS.back sr ?_)))))
   refine AS.pas (v:=(Value.bool false)) O (AB O) (CL (c:=false) O O (decide_eq_false (λh9=>h9 (by have h8:=hup i Z;rw [<-hT] at h8;exact h8)))) O O (Ay (v:=(Value.bool false)) O (AU O O) (AS.nil (AD.subF (sL [1,3,12,13,14,5,58] O) (AD.then_ (AF.cond_false O ?_)))))
   refine AF.skip (AD.in_normal (AD.then_ (AF.region (AG (AX (c:=((i+1:Nat):Int)) O O (AY (a:=i) (b:=1) Z)) O (AO O ?_)))))
   exact AE.nil (AD.subF (sL [1,3,12,13,14,5] O) (AD.round1 (i+1) Z Z (sF O) (sl sr)))
 ·replace hc0:=of_decide_eq_false hc0
  omega
theorem OG {ps:List Pt} {ts ss:List T3} (x:MX ps ts ss) (hnb:By ps.length ts=true) (hp:ps.length<=4096) (htl:ts.length<=8192) (hsl:ss.length<=24576) (hz:∀k,B8 (CG ps k)<=1000) (jb:Nat) (hjb:jb<ts.length) (hup:∀j,j<jb->(Ag (CG ps (ts.getD j (0,0,0)).1) (CG ps (ts.getD j (0,0,0)).2.1) (CG ps (ts.getD j (0,0,0)).2.2)).num.sign=1) (hbad:¬(Ag (CG ps (ts.getD jb (0,0,0)).1) (CG ps (ts.getD jb (0,0,0)).2.1) (CG ps (ts.getD jb (0,0,0)).2.2)).num.sign=1) (w:World) {S:Nat->Prop} (hx:Ro S w x):Calls prog 29 #[(aG (C5 x))] w (Am w (vI 1)):=by
 have lx:=Er (W:=w) hx
 refine BI (args:=[(aG (C5 x))]) (L:=[Ai x.a.p (rowsL Aj ps),Ai x.b.p (rowsL Av ts),Ai x.c.p (rowsL Av ss)]) func29 O O (Ab O) (En hx BW) (AF.subF (sL [0] O) (q4 (Bq (cs:=C5 x) O λb1=>AK O (q6 (sL [1,2] O) ?_))))
 refine AF.block (q4 (AG (v:=(pP b1 0)) (AA O underlying30 O sizeOf28 O) O (BO 0 (Value.slice x.a.p ps.length x.a.c) DV O (AG (v:=(vN ps.length)) (AH O underlying28) O (AG (Cx (c:=false) O O (decide_eq_false Z)) O ?_)))))
 refine AO O (AE.step (v:=(pP b1 1)) (AB O) (AA O underlying30 O sizeOf23 O) O (Ab O) (AE.step (v:=(Value.slice x.b.p ts.length x.b.c)) (AB O) (AM (i:=0) (v:=(Value.slice x.b.p ts.length x.b.c)) O O Dn.a O) O (Ab O) (AE.step (v:=(vN ts.length)) (AB O) (AH O underlying23) O (Ab O) (AE.step (v:=(Value.bool false)) (AB O) (Cx (c:=false) O O (decide_eq_false Z)) O (Ab O) (AG (v:=(Value.bool false)) (AU O O) O ?_)))))
 refine AO O (AE.step (v:=(pP b1 2)) (AB O) (AA O underlying30 O sizeOf24 O) O (Ab O) (AE.step (v:=(Value.slice x.c.p ss.length x.c.c)) (AB O) (AM (i:=0) (v:=(Value.slice x.c.p ss.length x.c.c)) O O H6.a O) O (Ab O) (AE.step (v:=(vN ss.length)) (AB O) (AH O underlying24) O (Ab O) (AE.step (v:=(Value.bool false)) (AB O) (Cx (c:=false) O O (decide_eq_false Z)) O (Ab O) (AG (v:=(Value.bool false)) (AU O O) O ?_)))))
 refine AK O (AE.nil (AD.subF (sL [1,2,3] O) (AD.then_ (AF.cond_false O (q4 ?_)))))
 refine BD 0 EO O (ET call73 (λw hw=>Q6 x hnb hp htl hsl hz jb hjb hup hbad w (ER hw 1 O lx)) O (AG (Ba (c:=true) O O) O (AK O (AE.nil (AD.subF (sL [1,2,20] O) ?_)))))
 refine AD.then_ (AF.cond_true O (q4 (AK O (AE.nil (AD.subF (sL [1,2] O) ?_)))))
 exact AD.then_ (AF.ret (AD.in_ret (AD.then_ret (AP O (Ad (v:=(vI 1)) O) (λw hw=>⟨rfl,hw.out⟩)))))
end
section
set_option maxRecDepth 100000
theorem PG (w:World):Calls prog 31 #[(vI 0),(vI 0)] w (Am w (aG (Aj (⟨0,0⟩:Pt)))):=by
 have h:=ID 0 0 (by decide) (by decide) (by decide) (by decide) w
 rw [show (⟨((0:Int):Rat),((0:Int):Rat)⟩:Pt)=(⟨0,0⟩:Pt) from by decide +kernel] at h
 exact h
theorem O_ (w:World):Calls prog 31 #[(vI 1),(vI 0)] w (Am w (aG (Aj (⟨1,0⟩:Pt)))):=by
 have h:=ID 1 0 (by decide) (by decide) (by decide) (by decide) w
 rw [show (⟨((1:Int):Rat),((0:Int):Rat)⟩:Pt)=(⟨1,0⟩:Pt) from by decide +kernel] at h
 exact h
theorem PQ (w:World):Calls prog 31 #[(vI 1),(vI 1)] w (Am w (aG (Aj (⟨1,1⟩:Pt)))):=by
 have h:=ID 1 1 (by decide) (by decide) (by decide) (by decide) w
 rw [show (⟨((1:Int):Rat),((1:Int):Rat)⟩:Pt)=(⟨1,1⟩:Pt) from by decide +kernel] at h
 exact h
theorem OQ (w:World):Calls prog 31 #[(vI 0),(vI 1)] w (Am w (aG (Aj (⟨0,1⟩:Pt)))):=by
 have h:=ID 0 1 (by decide) (by decide) (by decide) (by decide) w
 rw [show (⟨((0:Int):Rat),((1:Int):Rat)⟩:Pt)=(⟨0,1⟩:Pt) from by decide +kernel] at h
 exact h
theorem Ik (x0 x1 x2 x3:Pt):Instr.fill (λi=>some (i*10,10)) ((Array.range (4*10)).map ((Value.agg (Aj (⟨0,0⟩:Pt)).toArray).cells[·%(Value.agg (Aj (⟨0,0⟩:Pt)).toArray).cells.size]!)) [(0,.agg (Aj x0).toArray),(1,.agg (Aj x1).toArray),(2,.agg (Aj x2).toArray),(3,.agg (Aj x3).toArray)]=some (Aj x0++Aj x1++Aj x2++Aj x3).toArray:=by kernel_rfl
theorem DP (x0 x1 x2:Nat):Instr.fill (λi=>some (i*1,1)) (Av ((0,0,0):Nat×Nat×Nat)).toArray [(0,vN x0),(1,vN x1),(2,vN x2)]=some (Av (x0,x1,x2)).toArray:=by kernel_rfl
theorem FT (x0 x1:Nat×Nat×Nat):Instr.fill (λi=>some (i*3,3)) ((Array.range (2*3)).map ((Value.agg (Av ((0,0,0):Nat×Nat×Nat)).toArray).cells[·%(Value.agg (Av ((0,0,0):Nat×Nat×Nat)).toArray).cells.size]!)) [(0,.agg (Av x0).toArray),(1,.agg (Av x1).toArray)]=some (Av x0++Av x1).toArray:=by kernel_rfl
theorem I8 (x0 x1 x2 x3:Nat×Nat×Nat):Instr.fill (λi=>some (i*3,3)) ((Array.range (4*3)).map ((Value.agg (Av ((0,0,0):Nat×Nat×Nat)).toArray).cells[·%(Value.agg (Av ((0,0,0):Nat×Nat×Nat)).toArray).cells.size]!)) [(0,.agg (Av x0).toArray),(1,.agg (Av x1).toArray),(2,.agg (Av x2).toArray),(3,.agg (Av x3).toArray)]=some (Av x0++Av x1++Av x2++Av x3).toArray:=by kernel_rfl
set_option maxHeartbeats 1000000 in
theorem Na  (w:World)  :Calls prog 21 #[] w (Am w (Value.bool true)):=by
 refine Ac (args:=[]) func21 O O (Ab O) (AF.subF sN (q4 (AK O (AE.nil (q2 ?_)))))
 refine BV call31 (PG) O (BV call31 (O_) O (BV call31 (PQ) O (BV call31 (OQ) O (AE.openV (V:=λb1=>(Value.slice (some ⟨b1,0,none⟩) 4 4)) (T:=63) (cs:=Aj (⟨0,0⟩:Pt)++Aj (⟨1,0⟩:Pt)++Aj (⟨1,1⟩:Pt)++Aj (⟨0,1⟩:Pt)) (AQ O) (BA (z:=.agg (Aj (⟨0,0⟩:Pt)).toArray) (cs:=Aj (⟨0,0⟩:Pt)++Aj (⟨1,0⟩:Pt)++Aj (⟨1,1⟩:Pt)++Aj (⟨0,1⟩:Pt)) (pv:=[(0,(aG (Aj (⟨0,0⟩:Pt)))),(1,(aG (Aj (⟨1,0⟩:Pt)))),(2,(aG (Aj (⟨1,1⟩:Pt)))),(3,(aG (Aj (⟨0,1⟩:Pt))))]) underlying28 sizeOf63 zeroValue63 (by decide) (by decide) O (Ik (⟨0,0⟩:Pt) (⟨1,0⟩:Pt) (⟨1,1⟩:Pt) (⟨0,1⟩:Pt))) O (Ab O) λb1=>AG (v:=(aG (Av (0,1,2)))) (Ap (zs:=Av ((0,0,0):Nat×Nat×Nat)) (vs:=Av (0,1,2)) (pv:=[(0,(vI 0)),(1,(vI 1)),(2,(vI 2))]) zeroValue79 underlying79 sizeOf3 O (DP 0 1 2)) O ?_))))
 refine AG (v:=(aG (Av (0,2,3)))) (Ap (zs:=Av ((0,0,0):Nat×Nat×Nat)) (vs:=Av (0,2,3)) (pv:=[(0,(vI 0)),(1,(vI 2)),(2,(vI 3))]) zeroValue79 underlying79 sizeOf3 O (DP 0 2 3)) O (AE.openV (V:=λb2=>(Value.slice (some ⟨b2,0,none⟩) 2 2)) (T:=79) (cs:=Av (0,1,2)++Av (0,2,3)) (AQ O) (BA (z:=.agg (Av ((0,0,0):Nat×Nat×Nat)).toArray) (cs:=Av (0,1,2)++Av (0,2,3)) (pv:=[(0,(aG (Av (0,1,2)))),(1,(aG (Av (0,2,3))))]) underlying23 sizeOf79 zeroValue79 (by decide) (by decide) O (FT (0,1,2) (0,2,3))) O (Ab O) λb2=>AG (v:=(aG ([(vI 0),(vI 1),(vI 1)]))) (AV (zs:=Av ((0,0,0):Nat×Nat×Nat)) (vs:=[(vI 0),(vI 1),(vI 1)]) (pv:=[(0,(vI 0)),(1,(vI 1)),(2,(vI 1))]) (places:=[(0,1),(1,1),(2,1)]) zeroValue43 underlying43 (λw=>by simp [sizeOf3]) O O) O (AG (v:=(aG ([(vI 0),(vI 3),(vI 0)]))) (AV (zs:=Av ((0,0,0):Nat×Nat×Nat)) (vs:=[(vI 0),(vI 3),(vI 0)]) (pv:=[(0,(vI 0)),(1,(vI 3))]) (places:=[(0,1),(1,1),(2,1)]) zeroValue43 underlying43 (λw=>by simp [sizeOf3]) O O) O (AG (v:=(aG ([(vI 1),(vI 2),(vI 0)]))) (AV (zs:=Av ((0,0,0):Nat×Nat×Nat)) (vs:=[(vI 1),(vI 2),(vI 0)]) (pv:=[(0,(vI 1)),(1,(vI 2))]) (places:=[(0,1),(1,1),(2,1)]) zeroValue43 underlying43 (λw=>by simp [sizeOf3]) O O) O (AG (v:=(aG ([(vI 2),(vI 3),(vI 0)]))) (AV (zs:=Av ((0,0,0):Nat×Nat×Nat)) (vs:=[(vI 2),(vI 3),(vI 0)]) (pv:=[(0,(vI 2)),(1,(vI 3))]) (places:=[(0,1),(1,1),(2,1)]) zeroValue43 underlying43 (λw=>by simp [sizeOf3]) O O) O ?_))))
 refine AE.openV (V:=λb3=>(Value.slice (some ⟨b3,0,none⟩) 4 4)) (T:=43) (cs:=Av ((0,1,1):T3)++Av ((0,3,0):T3)++Av ((1,2,0):T3)++Av ((2,3,0):T3)) (AQ O) (BA (z:=.agg (Av ((0,0,0):Nat×Nat×Nat)).toArray) (cs:=Av ((0,1,1):T3)++Av ((0,3,0):T3)++Av ((1,2,0):T3)++Av ((2,3,0):T3)) (pv:=[(0,(aG ([(vI 0),(vI 1),(vI 1)]))),(1,(aG ([(vI 0),(vI 3),(vI 0)]))),(2,(aG ([(vI 1),(vI 2),(vI 0)]))),(3,(aG ([(vI 2),(vI 3),(vI 0)])))]) underlying24 sizeOf43 zeroValue43 (by decide) (by decide) O (I8 ((0,1,1):T3) ((0,3,0):T3) ((1,2,0):T3) ((2,3,0):T3))) O (Ab O) λb3=>AG (v:=(aG ([(Value.slice (some ⟨b1,0,none⟩) 4 4),(Value.slice (some ⟨b2,0,none⟩) 2 2),(Value.slice (some ⟨b3,0,none⟩) 4 4)]))) (AV (zs:=[(Value.slice none 0 0),(Value.slice none 0 0),(Value.slice none 0 0)]) (vs:=[(Value.slice (some ⟨b1,0,none⟩) 4 4),(Value.slice (some ⟨b2,0,none⟩) 2 2),(Value.slice (some ⟨b3,0,none⟩) 4 4)]) (pv:=[(0,(Value.slice (some ⟨b1,0,none⟩) 4 4)),(1,(Value.slice (some ⟨b2,0,none⟩) 2 2)),(2,(Value.slice (some ⟨b3,0,none⟩) 4 4))]) (places:=[(0,1),(1,1),(2,1)]) zeroValue30 underlying30 (λw=>by simp [sizeOf23,sizeOf24,sizeOf28]) O O) O (al Pv O λb4=>Au O sizeOf30 O (AE.litM (S:=λ_=>False) (ps:=EV) (ts:=Cf) (ss:=Jc) (λmm=>[Ae b4 30 (C5 mm),Ai mm.c.p (rowsL Av Jc),Ai mm.b.p (rowsL Av Cf),Ai mm.a.p (rowsL Aj EV)]) 3 2 1 (by decide) O O O O O O λmm hmm=>q3 (sL [0,1] O) ?_))
 refine BD 0 EO O (cX (S:=λ_=>False) (cs:=rowsL B9 (BC Cf)) (k:=(BC Cf).length) (args:=[(aG (C5 mm))]) call16 (λw hw=>Ll mm (by decide) (by decide) (by decide +kernel) w (Vl hw [3,2,1] O hmm)) O O O λo lo=>?_)
 have hel:(BC Cf).length=5:=by decide +kernel
 refine AK O (q3 (sL [0,1,2] O) (BD 1 EO O (al Pv O λb5=>Au O sizeOf30 O (q3 (sL [0,1,2,3] O) ?_))))
 refine AG (v:=(aG (Av (0,1,2)))) (Ap (zs:=Av ((0,0,0):Nat×Nat×Nat)) (vs:=Av (0,1,2)) (pv:=[(0,(vI 0)),(1,(vI 1)),(2,(vI 2))]) zeroValue79 underlying79 sizeOf3 O (DP 0 1 2)) O (AG (v:=(aG (Av (0,3,2)))) (Ap (zs:=Av ((0,0,0):Nat×Nat×Nat)) (vs:=Av (0,3,2)) (pv:=[(0,(vI 0)),(1,(vI 3)),(2,(vI 2))]) zeroValue79 underlying79 sizeOf3 O (DP 0 3 2)) O (AE.openV (V:=λb6=>(Value.slice (some ⟨b6,0,none⟩) 2 2)) (T:=79) (cs:=Av (0,1,2)++Av (0,3,2)) (AQ O) (BA (z:=.agg (Av ((0,0,0):Nat×Nat×Nat)).toArray) (cs:=Av (0,1,2)++Av (0,3,2)) (pv:=[(0,(aG (Av (0,1,2)))),(1,(aG (Av (0,3,2))))]) underlying23 sizeOf79 zeroValue79 (by decide) (by decide) O (FT (0,1,2) (0,3,2))) O (Ab O) λb6=>AG (v:=(pP b5 1)) (AA O underlying30 O sizeOf23 O) O (F_ 1 (off:=1) (vs:=[(Value.slice (some ⟨b6,0,none⟩) 2 2)]) (cs':=[(Value.slice mm.a.p EV.length mm.a.c),(Value.slice (some ⟨b6,0,none⟩) 2 2),(Value.slice mm.c.p Jc.length mm.c.c)]) (AQ O) O sizeOf23 O (AE.litT (S:=λ_=>False) (ts:=NJ) (λtt=>[Ai tt.p (rowsL Av NJ),Ae b5 30 ([(Value.slice mm.a.p EV.length mm.a.c),(Value.slice tt.p NJ.length tt.c),(Value.slice mm.c.p Jc.length mm.c.c)]),Ai o.p (rowsL B9 (BC Cf)),Ae b4 30 (C5 mm),Ai mm.c.p (rowsL Av Jc),Ai mm.b.p (rowsL Av Cf),Ai mm.a.p (rowsL Aj EV)]) 0 O O O O λtt htt=>?_))))
 refine q3 (sL [0,1,2,3] O) (BD 3 EO O (ET call29 (λw hw=>Ry mm SU w (Vl hw [6,5,4] O hmm)) O (AG (BU (c:=true) O O (by decide)) O (AO O (AE.step (v:=(Value.slice o.p ((BC Cf).length) o.c)) (AB O) (Az O) O (Ab O) ?_)))))
 refine AE.step (v:=(vN ((BC Cf).length))) (AB O) (AH O underlying51) O (Ab O) (AE.step (v:=(Value.bool true)) (AB O) (BU (c:=true) O O (decide_eq_true (by rw [hel];rfl))) O (Ab O) (AG (v:=(Value.bool true)) (Ah O O) O (AO O (AE.step (v:=(Value.slice o.p ((BC Cf).length) o.c)) (AB O) (Az O) O (Ab O) (AE.step (v:=(pP (pB o.p) (pO o.p+0*4))) (AB O) (AN (j:=0) O O o.ok underlying51 sizeOf65 O Z) O (Ab O) ?_)))))
 refine AE.step (v:=(aG (B9 ((BC Cf).getD 0 (⟨0,0,0,0⟩:E4))))) (AB O) (AW (vs:=B9 ((BC Cf).getD 0 (⟨0,0,0,0⟩:E4))) (i:=2) O O (BB.ne o.ok Z) Lt (Ar BT _ _ _ Z) (BT _)) O (Ab O) (AE.step (v:=(aG ([(vI 0),(vI 1),(vI 0),(vI (-1:Int))]))) (AB O) (AV (zs:=B9 (⟨0,0,0,0⟩:E4)) (vs:=[(vI 0),(vI 1),(vI 0),(vI (-1:Int))]) (pv:=[(0,(vI 0)),(1,(vI 1)),(2,(vI 0)),(3,(vI (-1:Int)))]) (places:=[(0,1),(1,1),(2,1),(3,1)]) zeroValue65 underlying65 (λw=>by simp [sizeOf3]) O O) O (Ab O) (AE.step (v:=(Value.bool true)) (AB O) (Bx (c:=true) O O eqGuardType65 (IY (a:=(BC Cf).getD 0 (⟨0,0,0,0⟩:E4)) (b:=(⟨0,1,((0:Nat):Int),-1⟩:E4)) 9998 (by decide +kernel))) O (Ab O) (AG (v:=(Value.bool true)) (Ah O O) O (AO O (AE.step (v:=(Value.slice o.p ((BC Cf).length) o.c)) (AB O) (Az O) O (Ab O) ?_)))))
 refine AE.step (v:=(pP (pB o.p) (pO o.p+1*4))) (AB O) (AN (j:=1) O O o.ok underlying51 sizeOf65 O Z) O (Ab O) (AE.step (v:=(aG (B9 ((BC Cf).getD 1 (⟨0,0,0,0⟩:E4))))) (AB O) (AW (vs:=B9 ((BC Cf).getD 1 (⟨0,0,0,0⟩:E4))) (i:=2) O O (BB.ne o.ok Z) Lt (Ar BT _ _ _ Z) (BT _)) O (Ab O) (AE.step (v:=(aG ([(vI 0),(vI 2),(vI 1),(vI 0)]))) (AB O) (AV (zs:=B9 (⟨0,0,0,0⟩:E4)) (vs:=[(vI 0),(vI 2),(vI 1),(vI 0)]) (pv:=[(0,(vI 0)),(1,(vI 2)),(2,(vI 1)),(3,(vI 0))]) (places:=[(0,1),(1,1),(2,1),(3,1)]) zeroValue65 underlying65 (λw=>by simp [sizeOf3]) O O) O (Ab O) (AE.step (v:=(Value.bool true)) (AB O) (Bx (c:=true) O O eqGuardType65 (IY (a:=(BC Cf).getD 1 (⟨0,0,0,0⟩:E4)) (b:=(⟨0,2,((1:Nat):Int),((0:Nat):Int)⟩:E4)) 9998 (by decide +kernel))) O (Ab O) (AG (v:=(Value.bool true)) (Ah O O) O (AO O ?_)))))
 refine AE.step (v:=(Value.slice o.p ((BC Cf).length) o.c)) (AB O) (Az O) O (Ab O) (AE.step (v:=(pP (pB o.p) (pO o.p+2*4))) (AB O) (AN (j:=2) O O o.ok underlying51 sizeOf65 O Z) O (Ab O) (AE.step (v:=(aG (B9 ((BC Cf).getD 2 (⟨0,0,0,0⟩:E4))))) (AB O) (AW (vs:=B9 ((BC Cf).getD 2 (⟨0,0,0,0⟩:E4))) (i:=2) O O (BB.ne o.ok Z) Lt (Ar BT _ _ _ Z) (BT _)) O (Ab O) (AE.step (v:=(aG ([(vI 0),(vI 3),(vI (-1:Int)),(vI 1)]))) (AB O) (AV (zs:=B9 (⟨0,0,0,0⟩:E4)) (vs:=[(vI 0),(vI 3),(vI (-1:Int)),(vI 1)]) (pv:=[(0,(vI 0)),(1,(vI 3)),(2,(vI (-1:Int))),(3,(vI 1))]) (places:=[(0,1),(1,1),(2,1),(3,1)]) zeroValue65 underlying65 (λw=>by simp [sizeOf3]) O O) O (Ab O) (AE.step (v:=(Value.bool true)) (AB O) (Bx (c:=true) O O eqGuardType65 (IY (a:=(BC Cf).getD 2 (⟨0,0,0,0⟩:E4)) (b:=(⟨0,3,-1,((1:Nat):Int)⟩:E4)) 9998 (by decide +kernel))) O (Ab O) (AG (v:=(Value.bool true)) (Ah O O) O ?_)))))
 refine AO O (AE.step (v:=(aG (C5 mm))) (AB O) (Al (i:=3) (vs:=C5 mm) O O EO.a EO.s O O) O (Ab O) (AE.call (v:=(aG (AI (CP EV Cf Cf.length)))) (AB O) (Aw (args:=[(aG (C5 mm))]) O O call19) (λw hw=>Lw mm (by decide) NY (by decide +kernel) w (Vl hw [6,5,4] O hmm)) O (Ab O) (AE.call (v:=(Value.string (Nt (CP EV Cf Cf.length)))) (AB O) (Aw (args:=[(aG (AI (CP EV Cf Cf.length)))]) O O call60) (λw hw=>Q0 (CP EV Cf Cf.length) (by decide +kernel) (by decide +kernel) w) O (Ab O) (AE.step (v:=(Value.bool true)) (AB O) (Bk (c:=true) O O (by decide +kernel)) O (Ab O) (AG (v:=(Value.bool true)) (Ah O O) O ?_)))))
 refine AO O (AE.step (v:=(aG ([(Value.slice mm.a.p EV.length mm.a.c),(Value.slice tt.p NJ.length tt.c),(Value.slice mm.c.p Jc.length mm.c.c)]))) (AB O) (Al (i:=1) (vs:=[(Value.slice mm.a.p EV.length mm.a.c),(Value.slice tt.p NJ.length tt.c),(Value.slice mm.c.p Jc.length mm.c.c)]) O O EO.a EO.s O O) O (Ab O) (AE.call (v:=(vI 1)) (AB O) (Aw (args:=[(aG ([(Value.slice mm.a.p EV.length mm.a.c),(Value.slice tt.p NJ.length tt.c),(Value.slice mm.c.p Jc.length mm.c.c)]))]) O O call29) (λw hw=>OG (⟨mm.a,tt,mm.c⟩:MX EV NJ Jc) (by decide +kernel) (by decide) (by decide) (by decide) NY 1 (by decide) (by decide +kernel) (by decide +kernel) w (Vl hw [6,0,4] O (At.withT hmm htt))) O (Ab O) (AE.step (v:=(Value.bool true)) (AB O) (BU (c:=true) O O (by decide)) O (Ab O) (AG (v:=(Value.bool true)) (Ah O O) O (AK O ?_)))))
 exact AE.nil (AD.subF (sL [0,1,3] O) (AD.then_ (AF.ret (AP O (Ad (v:=(Value.bool true)) O) (λw hw=>⟨rfl,hw.out⟩)))))
end
end Go.Proofs.YtfbomiejpbchdaaGreatDoor
