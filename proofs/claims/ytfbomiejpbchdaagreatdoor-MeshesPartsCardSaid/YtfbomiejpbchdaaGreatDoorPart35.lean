import Derived.Test.YtfbomiejpbchdaaGreatDoorPart06
import Derived.Test.YtfbomiejpbchdaaGreatDoorPart21
import Derived.Test.YtfbomiejpbchdaaGreatDoorPart28
import Derived.Test.YtfbomiejpbchdaaGreatDoorPart29
import Derived.Test.YtfbomiejpbchdaaGreatDoorPart31
import Derived.Test.YtfbomiejpbchdaaGreatDoorPart33
import Derived.Test.YtfbomiejpbchdaaGreatDoorPart34
namespace Go.Proofs.YtfbomiejpbchdaaGreatDoor
open Go Go.RowKit Go.Proofs.Tryz
set_option linter.unusedVariables false
set_option linter.unusedSimpArgs false
section
def V9 (md:List (P2×Nat)) (ts:List T3):List T3:=ts.flatMap (VG md 2)
def WA (md:List (P2×Nat)) (ts:List T3):Nat->List Nat
  | 0=>[]
  | i+1=>WA md ts i++WO (VG md 2 (ts.getD i (0,0,0))).length i
section
variable {md:List (P2×Nat)} {ts ss:List T3} {i N:Nat} {es:List E4}
end
structure WI (ps:List Pt) (ts ss:List T3) (ms:List Int) where
  l:List E4
  p:E4->Bool
  el:l=(B0 ts).filter p
  all:∀e,p e=true↔K_ ts (Rs ts ms) (e.a,e.b)
  x:Vz (Vy ps l) (V9 (ST ps.length l l.length) ts) (VU ps.length ss l (V9 (ST ps.length l l.length) ts)) (WA (ST ps.length l l.length) ts ts.length) 0
instance {ps:List Pt} {ts ss:List T3} {ms:List Int}:Dy (WI ps ts ss ms):=⟨λb=>Dy.val b.x,λb=>Dy.rows b.x,λb y hy=>Dy.ro b.x y hy⟩
section
variable {ts ss:List T3} {N:Nat} {es:List E4} {ms:List Int}
structure Tv (ts:List T3) (ms:List Int) (l:List E4):Prop where
  ex:∃p:E4->Bool,l=(B0 ts).filter p/\∀e,p e=true↔K_ ts (Rs ts ms) (e.a,e.b)
theorem DX.cut (u:DX ts ms):Tv ts ms u.l:=⟨u.p,u.el,u.all⟩
theorem Tv.mem {l:List E4} (h:Tv ts ms l) {e:E4}:e∈l↔e∈B0 ts/\K_ ts (Rs ts ms) (e.a,e.b):=by
  obtain ⟨p,h1,h2⟩:=h.ex
  rw [h1,List.mem_filter,h2]
end
section
variable {P:Program} {ops:Array Oper} {rest:List Oper} {Q:Exit->Act->World->Prop} {n d:Nat} {F:List (Nat×Value)} {w0:BH} {S:Nat->Prop} {L:List As} {t:TypeId} {p:String} {af:Array Edge} {y:Operand} {f:FuncId} {xs:List Operand} {args:List Value} {tys:Array TypeId} {ps:List Pt} {ts ss:List T3} {ms:List Int}
end
theorem US (a b:E4):(((a.a:Int) == (b.a:Int))&&(((a.b:Int) == (b.b:Int))&&((a.l == b.l)&&((a.r == b.r)&&true))))=decide (a=b):=by
  obtain ⟨a1,a2,a3,a4⟩:=a
  obtain ⟨b1,b2,b3,b4⟩:=b
  rw [Bool.eq_iff_iff]
  simp
  constructor<;>(rintro ⟨h1,h2,h3,h4⟩;refine ⟨?_,?_,?_,?_⟩<;>omega)
theorem UW (D:Nat) (a b:E4):E5 prog (D+2) 65 (.agg (B8 a).toArray) (.agg (B8 b).toArray) (decide (a=b)):=by
  rw [<-US]
  exact E5.struct underlying65 Tryz.stoodInHeld65 (G6.one (by decide) isAgg3 O O (E5.int underlying3) (G6.one (by decide) isAgg3 O O (E5.int underlying3) (G6.one (by decide) isAgg3 O O (E5.int underlying3) (G6.one (by decide) isAgg3 O O (E5.int underlying3) G6.nil))))
theorem IU (D:Nat) {a b:E4} (h:a=b):E5 prog (D+2) 65 (.agg (B8 a).toArray) (.agg (B8 b).toArray) true:=by
  have:=UW D a b;rwa [decide_eq_true h] at this
end
section
section
variable {md:List (P2×Nat)} {N M n a b c e p:Nat} {k κ:P2} {T:T3} {ts ts':List T3}
end
end
section
def bz (l:Nat):Int×Int×Int:=if l=0 then (2,0,0) else if l=1 then (0,2,0) else if l=2 then (0,0,2) else if l=3 then (1,1,0) else if l=4 then (0,1,1) else (1,0,1)
def D3 (i j k:Nat):Int:=(bz i).1*((bz j).2.1*(bz k).2.2-(bz j).2.2*(bz k).2.1)-(bz i).2.1*((bz j).1*(bz k).2.2-(bz j).2.2*(bz k).1)+(bz i).2.2*((bz j).1*(bz k).2.1-(bz j).2.1*(bz k).1)
def VR (a b:Pt):Pt:=Pu (a+b) (1/2)
def LP (a b c:Pt) (l:Nat):Pt:=if l=0 then a else if l=1 then b else if l=2 then c else if l=3 then VR a b else if l=4 then VR b c else VR c a
def NA (fam:List T3) (l:Nat):Bool:=fam.any λL=>Eu L l
def Tf (i j:Nat) (M:T3):Bool:=decide (D3 i j M.1<=0)&&decide (D3 i j M.2.1<=0)&&decide (D3 i j M.2.2<=0)
def U8 (L M:T3):Bool:=Tf L.1 L.2.1 M||Tf L.2.1 L.2.2 M||Tf L.2.2 L.1 M
def Ue (L:T3) (l:Nat):Bool:=decide (0<=D3 l L.2.1 L.2.2)&&decide (0<=D3 L.1 l L.2.2)&&decide (0<=D3 L.1 L.2.1 l)
structure Uv (fam:List T3):Prop where
  lt:∀L∈fam,L.1<6/\L.2.1<6/\L.2.2<6
  pos:∀L∈fam,0<D3 L.1 L.2.1 L.2.2
  sep:fam.Pairwise λL M=>(U8 L M||U8 M L)=true
  cls:∀L∈fam,∀l,l<6->NA fam l=true->Ue L l=true->Eu L l=true
  B9:∀l,l<3->NA fam l=true
instance (fam:List T3):Decidable (∀l,l<6->NA fam l=true->∀L∈fam,Ue L l=true->Eu L l=true):=inferInstance
section
variable {a b c q:Pt} {l i j k:Nat}
end
end
section
def Ko (mv:Nat->Nat->Nat) (t:T3) (l:Nat):Nat:=if l=0 then t.1 else if l=1 then t.2.1 else if l=2 then t.2.2 else if l=3 then mv t.1 t.2.1 else if l=4 then mv t.2.1 t.2.2 else mv t.2.2 t.1
def Vo (mv:Nat->Nat->Nat) (t L:T3):T3:=(Ko mv t L.1,Ko mv t L.2.1,Ko mv t L.2.2)
def Ui (t:T3) (l:Nat):P2:=if l=3 then DI t.1 t.2.1 else if l=4 then DI t.2.1 t.2.2 else DI t.2.2 t.1
def WF (ps:List Pt) (t:T3) (l:Nat):Pt:=LP (B9 ps t.1) (B9 ps t.2.1) (B9 ps t.2.2) l
structure V7 (ps:List Pt) (ts:List T3) (ps':List Pt) (ts':List T3) (mv:Nat->Nat->Nat) (fam:T3->List T3):Prop where
  g:NR ps ts
  cut:ts'=ts.flatMap λt=>(fam t).map (Vo mv t)
  fok:∀t∈ts,Uv (fam t)
  len:ps.length<=ps'.length
  old:∀p,p<ps.length->B9 ps' p=B9 ps p
  mid:∀t∈ts,∀l,3<=l->l<6->NA (fam t) l=true->ps.length<=Ko mv t l/\Ko mv t l<ps'.length/\B9 ps' (Ko mv t l)=WF ps t l
  new:∀p,ps.length<=p->p<ps'.length->∃t∈ts,∃l,3<=l/\l<6/\NA (fam t) l=true/\p=Ko mv t l
  cls:∀t∈ts,∀s∈ts,∀l k,3<=l->l<6->3<=k->k<6->NA (fam s) k=true->Ui t l=Ui s k->NA (fam t) l=true/\Ko mv t l=Ko mv s k
section
variable {ps ps':List Pt} {ts ts':List T3} {mv:Nat->Nat->Nat} {fam:T3->List T3} {t s c L:T3} {l k p:Nat}
theorem TJ (h:t∈ts):∃j,j<ts.length/\ts.getD j (0,0,0)=t:=by
  obtain ⟨j,hj,e⟩:=List.getElem_of_mem h
  exact ⟨j,hj,by rw [List.getD,List.getElem?_eq_getElem hj];exact e⟩
theorem V7.tri (S:V7 ps ts ps' ts' mv fam) (ht:t∈ts):Uh ps t:=by
  obtain ⟨j,hj,rfl⟩:=TJ ht
  exact S.g.tri j hj
end
end
section
section
variable {ps:List Pt} {ts ss:List T3} {c:T3}
theorem At.swap {w0:BH} {S:Nat->Prop} {us:List T3} {x:MX ps us ss} {y:MX ps ts ss} (hx:At w0 S x) (hy:At w0 S y):At w0 S (⟨x.a,y.b,x.c⟩:MX ps ts ss):=λz hz b e=>by
  have hz:z∈[x.a.row,y.b.row,x.c.row]:=hz
  simp only [List.mem_cons,List.not_mem_nil,or_false] at hz
  rcases hz with rfl|rfl|rfl
  · exact hx _ (show x.a.row∈[x.a.row,x.b.row,x.c.row] by simp) b e
  · exact hy _ (show y.b.row∈[y.a.row,y.b.row,y.c.row] by simp) b e
  · exact hx _ (show x.c.row∈[x.a.row,x.b.row,x.c.row] by simp) b e
end
end
section
section
variable {ps:List Pt} {ts us ss:List T3} {N:Nat}
def VF (ps:List Pt) (s t:T3):Prop:=(!Dn (Bd ps s) (Bd ps t)&&!Dn (Bd ps t) (Bd ps s))=false
theorem VF.symm {s t:T3} (h:VF ps s t):VF ps t s:=by unfold VF at *;rw [Bool.and_comm];exact h
theorem MK (x y z:Rat):Dt y z x=Dt x y z:=by
  unfold Dt
  by_cases h:x.num.sign = -1\/y.num.sign = -1\/z.num.sign = -1
  · rw [if_pos h,if_pos (by rcases h with h|h|h<;>simp [h])]
  · rw [if_neg h,if_neg (λk=>h (by rcases k with k|k|k<;>simp [k]))];omega
theorem GX (a b c p:Pt):EI b c a p=EI a b c p:=by
  unfold EI
  rw [ID a b c,show Aa p c a=Aa a p c by simp only [DL];grind,show Aa b p a=Aa a b p by simp only [DL];grind,show Aa b c p=Aa p b c by simp only [DL];grind,MK]
def k4 (e:E4):Nat×Nat×Bool×Bool:=(e.a,e.b,decide (e.l<0),decide (e.r<0))
theorem Hl.neg {s a b:Nat} {z:Int} (h:Hl ts s a b z):z<0↔¬∃u,u<s/\Bp ts u=(a,b):=by
  rcases h with ⟨h1,h2⟩|⟨u,h1,h2,h3,_⟩
  · exact ⟨λ_ ⟨u,hu,e⟩=>h2 u hu e,λ_=>by omega⟩
  · exact ⟨λh=>by omega,λh=>absurd ⟨u,h1,h3⟩ h⟩
end
end
section
section
variable {P:Program} {ops:Array Oper} {rest:List Oper} {Q:Exit->Act->World->Prop} {n:Nat} {F:List (Nat×Value)} {w0:BH} {L:List As} {S:Nat->Prop} {ps:List Pt} {ts us ss:List T3}
theorem AE.litT {b U:Nat} {cs:List Value} (LL:RX (rowsL An ts) ts.length->List As) (i:Nat) (h:L[i]?=some (Ae b U cs)) (hex:w0.ex=none) (e:cs=rowsL An ts)
    (hL:L.set i (Ag (some ⟨b,0,none⟩) cs)=LL ⟨some ⟨b,0,none⟩,ts.length,Fr _ _⟩)
    (next:∀tt:RX (rowsL An ts) ts.length,At w0 S tt->AE P ops rest Q n F w0 (LL tt)):AE P ops rest Q n F w0 L:=λa w ha hw=>by
  subst e
  have n1:=KM hw h hex
  have w1:=hw.freeze (x:=Ae b U (rowsL An ts)) (y:=Ag (some ⟨b,0,none⟩) (rowsL An ts)) h rfl (λo hp=>Ey hp) (λe=>by cases e)
  rw [hL] at w1
  refine next _ (λy hy c eb=>?_) a w ha w1
  rcases List.mem_singleton.1 hy with rfl
  injection eb with eb;subst eb;exact .inl (by assumption)
theorem At.withT {x:MX ps us ss} {t:RX (rowsL An ts) ts.length} (hx:At w0 S x) (ht:At w0 S t):At w0 S (⟨x.a,t,x.c⟩:MX ps ts ss):=λz hz b e=>by
  have hz:z∈[x.a.row,t.row,x.c.row]:=hz
  simp only [List.mem_cons,List.not_mem_nil,or_false] at hz
  rcases hz with rfl|rfl|rfl
  · exact hx _ (show x.a.row∈[x.a.row,x.b.row,x.c.row] by simp) b e
  · exact ht _ (List.mem_singleton.2 O) b e
  · exact hx _ (show x.c.row∈[x.a.row,x.b.row,x.c.row] by simp) b e
end
def ET:List Pt:=[⟨0,0⟩,⟨1,0⟩,⟨1,1⟩,⟨0,1⟩]
def Ca:List T3:=[(0,1,2),(0,2,3)]
def NF:List T3:=[(0,1,2),(0,3,2)]
def JU:List T3:=[(0,1,1),(0,3,0),(1,2,0),(2,3,0)]
theorem MZ (i:Nat):B4 (B9 ET i)<=1000:=TX (by decide +kernel) (by decide +kernel) i
theorem UH:∀i,i<Ca.length->∀k,k<i->(!Dn (Bd ET (Ca.getD i (0,0,0))) (Bd ET (Ca.getD k (0,0,0)))&&!Dn (Bd ET (Ca.getD k (0,0,0))) (Bd ET (Ca.getD i (0,0,0))))=false:=by decide +kernel
theorem Tx:∀i,i<Ca.length->∀p,p<ET.length->Eu (Ca.getD i (0,0,0)) p=false->MY ET (B9 ET p) (Ca.getD i (0,0,0))=0:=by decide +kernel
theorem TI:Lu ET Ca JU:=by
  refine ⟨by decide,by decide,by decide,by decide,MZ,by decide +kernel,by decide +kernel,by decide +kernel,λp hp=>?_,by decide +kernel,λi k hi hk=>UH i hi k hk,λi p hi hp=>Tx i hi p hp,by decide +kernel,by decide +kernel⟩
  have hp:p<4:=hp
  have e:p=0\/p=1\/p=2\/p=3:=by omega
  rcases e with rfl|rfl|rfl|rfl
  · exact ⟨0,by decide,by decide +kernel⟩
  · exact ⟨0,by decide,by decide +kernel⟩
  · exact ⟨0,by decide,by decide +kernel⟩
  · exact ⟨1,by decide,by decide +kernel⟩
end
section
set_option maxRecDepth 100000
theorem Pb {ps:List Pt} {ts ss:List T3} (x:MX ps ts ss) (hnb:CU ps.length ts=true) (hp:ps.length<=4096) (htl:ts.length<=8192) (hsl:ss.length<=24576) (hz:∀k,B4 (B9 ps k)<=1000) (jb:Nat) (hjb:jb<ts.length) (hup:∀j,j<jb->(Aa (B9 ps (ts.getD j (0,0,0)).1) (B9 ps (ts.getD j (0,0,0)).2.1) (B9 ps (ts.getD j (0,0,0)).2.2)).num.sign=1) (hbad:¬(Aa (B9 ps (ts.getD jb (0,0,0)).1) (B9 ps (ts.getD jb (0,0,0)).2.1) (B9 ps (ts.getD jb (0,0,0)).2.2)).num.sign=1) (w:World) {S:Nat->Prop} (hx:Ro S w x):Calls prog 73 #[(aG (CM x))] w (Al w (Value.bool false)):=by
 have lx:=En (W:=w) hx
 refine BC (args:=[(aG (CM x))]) (L:=[Ag x.a.p (rowsL Ah ps),Ag x.b.p (rowsL An ts),Ag x.c.p (rowsL An ss)]) func73 O O (Ad O) (Eo hx BR) (AF.subF (sL [0] O) (q4 (Bi (cs:=CM x) O λb1=>AK O (q3 (sL [1,2] O) ?_))))
 refine AH (v:=(pP b1 0)) (AA O underlying30 O sizeOf28 O) O (BJ 0 (Value.slice x.a.p ps.length x.a.c) DE O (AH (v:=(vN ps.length)) (AG O underlying28) O (AK O (q6 (sL [1,2,3] O) (q4 ?_)))))
 refine AH (v:=(pP b1 1)) (AA O underlying30 O sizeOf23 O) O (BJ 0 (Value.slice x.b.p ts.length x.b.c) DV O (AH (v:=(vN ts.length)) (AG O underlying23) O (AO O (AE.nil (AC.subF (sL [1,2,3,12,13,14] O) ?_)))))
 refine AC.then_ (AF.block ?_)
 refine AF.lp1 (tg λ(i:Nat)=>i<=jb) (tg λ(i:Nat)=>[(1,(pP b1 0)),(3,(vN ps.length)),(12,(Value.slice x.b.p ts.length x.b.c)),(13,(vN ts.length)),(14,(vN i))]) (tg λ(i:Nat)=>[Ae b1 30 (CM x),Ag x.a.p (rowsL Ah ps),Ag x.b.p (rowsL An ts),Ag x.c.p (rowsL An ss)]) (tg λ(i:Nat)=>ts.length-i) 0 (Nat.zero_le _) (sF O) sr (λi hJ=>?_)
 have hi:=hJ
 refine q4 (AH (Af (c:=(decide (i<ts.length))) O O (C1 (a:=i) (b:=ts.length))) O (AE.nil (q1 ?_)))
 refine AF.cond O (λhc0=>?_) (λhc0=>?_)
 ·replace hc0:=of_decide_eq_true hc0
  obtain ⟨T,hT⟩:∃q,q=ts.getD i (0,0,0):=⟨_,rfl⟩
  obtain ⟨g1,g2,g3⟩:=C3 (CO hnb hc0)
  rw [<-hT] at g1 g2 g3
  have z0:B4 (ps.getD T.1 ⟨0,0⟩)<=1000:=hz _
  have z1:B4 (ps.getD T.2.1 ⟨0,0⟩)<=1000:=hz _
  have z2:B4 (ps.getD T.2.2 ⟨0,0⟩)<=1000:=hz _
  refine AF.skip (q1 (AF.block (q4 (AH (v:=(pP (pB x.b.p) (pO x.b.p+i*3))) (AR (j:=i) O O x.b.ok underlying23 sizeOf79 O Z) O (AH (v:=(aG (An (ts.getD i ((0,0,0):Nat×Nat×Nat))))) (AU (vs:=An (ts.getD i ((0,0,0):Nat×Nat×Nat))) (i:=2) O O (BO.ne x.b.ok Z) H0 (Ar BI _ _ _ Z) (BI _)) O ?_)))))
  refine AE.retell (k:=17) (u:=(aG (An T))) O (by rw [hT]) (al KN O λb2=>Av O sizeOf79 O (q6 (sL [1,3,12,13,14,5] O) ?_))
  by_cases kj:i=jb
  ·skip
   refine C2 [(0,true),(1,true),(2,true),(3,false),(4,true),(5,true),(6,true),(7,true),(8,true),(9,false),(10,true),(11,true),(12,true),(13,true),(14,true),(15,true),(16,false),(17,true),(18,true),(19,true),(20,true),(21,true),(22,true),(23,true),(24,true),(25,true),(26,true),(27,true),(28,true),(29,true),(30,true),(31,true),(32,true),(33,true),(34,true),(35,true),(36,true),(37,true),(38,false),(39,true),(40,true)] sr (Ay (v:=(pP b2 0)) O (AD (j:=0) O O underlying79 sizeOf3 O (by decide) O) (Bl 0 (vN T.1) Bx O (Bm O (AS.imp O (D1 (args:=[(vN T.1),(vN ps.length)]) (v:=(Value.bool true)) call63 (λw hw=>(by have h9:=By T.1 ps.length w;rw [decide_eq_true Z] at h9;exact h9)) O ?_)))))
   refine AS.back sr (Ay O (BV (c:=false) O O) (Bm O (AS.pas (v:=(pP b2 1)) O (AB O) (AD (j:=1) O O underlying79 sizeOf3 O (by decide) O) O O (AS.pas (v:=(vN T.2.1)) O (AB O) (AM (i:=0) (v:=(vN T.2.1)) O O Bx.a O) O O (AS.pas (v:=(vN ps.length)) O (AB O) (BB O) O O ?_)))))
   refine AS.imp O (AE.call (v:=(Value.bool true)) (AB O) (Ao (args:=[(vN T.2.1),(vN ps.length)]) O O call63) (λw hw=>(by have h9:=By T.2.1 ps.length w;rw [decide_eq_true Z] at h9;exact h9)) O (Ad O) (AS.back sr (AS.pas (v:=(Value.bool false)) O (AB O) (BV (c:=false) O O) O O (Ay (v:=(Value.bool false)) O (AY O O) (Bm O ?_)))))
   refine AS.pas (v:=(pP b2 2)) O (AB O) (AD (j:=2) O O underlying79 sizeOf3 O (by decide) O) O O (AS.pas (v:=(vN T.2.2)) O (AB O) (AM (i:=0) (v:=(vN T.2.2)) O O Bx.a O) O O (AS.pas (v:=(vN ps.length)) O (AB O) (BB O) O O (AS.imp O (AE.call (v:=(Value.bool true)) (AB O) (Ao (args:=[(vN T.2.2),(vN ps.length)]) O O call63) (λw hw=>(by have h9:=By T.2.2 ps.length w;rw [decide_eq_true Z] at h9;exact h9)) O (Ad O) (AS.back sr ?_)))))
   refine AS.pas (v:=(Value.bool false)) O (AB O) (BV (c:=false) O O) O O (Ay (v:=(Value.bool false)) O (AY O O) (Bm O (AS.pas (v:=(pP b1 0)) O (AB O) (AA O underlying30 O sizeOf28 O) O O (AS.pas (v:=(Value.slice x.a.p ps.length x.a.c)) O (AB O) (AM (i:=1) (v:=(Value.slice x.a.p ps.length x.a.c)) O O DE.a O) O O (AS.pas (v:=(pP b2 0)) O (AB O) (AD (j:=0) O O underlying79 sizeOf3 O (by decide) O) O O ?_)))))
   refine AS.pas (v:=(vN T.1)) O (AB O) (AM (i:=0) (v:=(vN T.1)) O O Bx.a O) O O (AS.pas (v:=(pP (pB x.a.p) (pO x.a.p+T.1*10))) O (AB O) (AR (j:=T.1) O O x.a.ok underlying28 sizeOf63 O Z) O O (AS.pas (v:=(aG (Ah (ps.getD T.1 (⟨0,0⟩:Pt))))) O (AB O) (AU (vs:=Ah (ps.getD T.1 (⟨0,0⟩:Pt))) (i:=2) O O (BO.ne x.a.ok Z) BM (Ar BD _ _ _ Z) (BD _)) O O (AS.pas (v:=(pP b1 0)) O (AB O) (AA O underlying30 O sizeOf28 O) O O (AS.pas (v:=(Value.slice x.a.p ps.length x.a.c)) O (AB O) (AM (i:=1) (v:=(Value.slice x.a.p ps.length x.a.c)) O O DE.a O) O O (AS.pas (v:=(pP b2 1)) O (AB O) (AD (j:=1) O O underlying79 sizeOf3 O (by decide) O) O O ?_)))))
   refine AS.pas (v:=(vN T.2.1)) O (AB O) (AM (i:=0) (v:=(vN T.2.1)) O O Bx.a O) O O (AS.pas (v:=(pP (pB x.a.p) (pO x.a.p+T.2.1*10))) O (AB O) (AR (j:=T.2.1) O O x.a.ok underlying28 sizeOf63 O Z) O O (AS.pas (v:=(aG (Ah (ps.getD T.2.1 (⟨0,0⟩:Pt))))) O (AB O) (AU (vs:=Ah (ps.getD T.2.1 (⟨0,0⟩:Pt))) (i:=2) O O (BO.ne x.a.ok Z) BM (Ar BD _ _ _ Z) (BD _)) O O (AS.pas (v:=(pP b1 0)) O (AB O) (AA O underlying30 O sizeOf28 O) O O (AS.pas (v:=(Value.slice x.a.p ps.length x.a.c)) O (AB O) (AM (i:=1) (v:=(Value.slice x.a.p ps.length x.a.c)) O O DE.a O) O O (AS.pas (v:=(pP b2 2)) O (AB O) (AD (j:=2) O O underlying79 sizeOf3 O (by decide) O) O O ?_)))))
   refine AS.pas (v:=(vN T.2.2)) O (AB O) (AM (i:=0) (v:=(vN T.2.2)) O O Bx.a O) O O (AS.pas (v:=(pP (pB x.a.p) (pO x.a.p+T.2.2*10))) O (AB O) (AR (j:=T.2.2) O O x.a.ok underlying28 sizeOf63 O Z) O O (AS.pas (v:=(aG (Ah (ps.getD T.2.2 (⟨0,0⟩:Pt))))) O (AB O) (AU (vs:=Ah (ps.getD T.2.2 (⟨0,0⟩:Pt))) (i:=2) O O (BO.ne x.a.ok Z) BM (Ar BD _ _ _ Z) (BD _)) O O (AS.imp O (AE.call (v:=(vI ((Aa (ps.getD T.1 (⟨0,0⟩:Pt)) (ps.getD T.2.1 (⟨0,0⟩:Pt)) (ps.getD T.2.2 (⟨0,0⟩:Pt))).num.sign))) (AB O) (Ao (args:=[(aG (Ah (ps.getD T.1 (⟨0,0⟩:Pt)))),(aG (Ah (ps.getD T.2.1 (⟨0,0⟩:Pt)))),(aG (Ah (ps.getD T.2.2 (⟨0,0⟩:Pt))))]) O O call117) (λw hw=>Gq (ps.getD T.1 (⟨0,0⟩:Pt)) (ps.getD T.2.1 (⟨0,0⟩:Pt)) (ps.getD T.2.2 (⟨0,0⟩:Pt)) Z w) O (Ad O) (AS.back sr ?_)))))
   refine AS.pas (v:=(Value.bool true)) O (AB O) (CS (c:=true) O O (decide_eq_true (λh9=>hbad (by rw [<-kj,<-hT];exact h9)))) O O (Ay (v:=(Value.bool true)) O (AY O O) (AS.nil (AC.subF (sL [1,3,12,13,14,5,58] O) (AC.then_ (AF.cond_true O ?_)))))
   refine q4 (AK O (AE.nil (AC.subF (sL [1,3,12,13,14,5,2] O) (AC.then_ (AF.ret ?_)))))
   exact AC.in_ret (AC.then_ret (AC.round1_ret (AC.in_ret (AC.then_ret (AN O (Ab (v:=(Value.bool false)) O) (λw hw=>⟨rfl,hw.out⟩))))))
  ·skip
   refine C2 [(0,true),(1,true),(2,true),(3,false),(4,true),(5,true),(6,true),(7,true),(8,true),(9,false),(10,true),(11,true),(12,true),(13,true),(14,true),(15,true),(16,false),(17,true),(18,true),(19,true),(20,true),(21,true),(22,true),(23,true),(24,true),(25,true),(26,true),(27,true),(28,true),(29,true),(30,true),(31,true),(32,true),(33,true),(34,true),(35,true),(36,true),(37,true),(38,false),(39,true),(40,true)] sr (Ay (v:=(pP b2 0)) O (AD (j:=0) O O underlying79 sizeOf3 O (by decide) O) (Bl 0 (vN T.1) Bx O (Bm O (AS.imp O (D1 (args:=[(vN T.1),(vN ps.length)]) (v:=(Value.bool true)) call63 (λw hw=>(by have h9:=By T.1 ps.length w;rw [decide_eq_true Z] at h9;exact h9)) O ?_)))))
   refine AS.back sr (Ay O (BV (c:=false) O O) (Bm O (AS.pas (v:=(pP b2 1)) O (AB O) (AD (j:=1) O O underlying79 sizeOf3 O (by decide) O) O O (AS.pas (v:=(vN T.2.1)) O (AB O) (AM (i:=0) (v:=(vN T.2.1)) O O Bx.a O) O O (AS.pas (v:=(vN ps.length)) O (AB O) (BB O) O O ?_)))))
   refine AS.imp O (AE.call (v:=(Value.bool true)) (AB O) (Ao (args:=[(vN T.2.1),(vN ps.length)]) O O call63) (λw hw=>(by have h9:=By T.2.1 ps.length w;rw [decide_eq_true Z] at h9;exact h9)) O (Ad O) (AS.back sr (AS.pas (v:=(Value.bool false)) O (AB O) (BV (c:=false) O O) O O (Ay (v:=(Value.bool false)) O (AY O O) (Bm O ?_)))))
   refine AS.pas (v:=(pP b2 2)) O (AB O) (AD (j:=2) O O underlying79 sizeOf3 O (by decide) O) O O (AS.pas (v:=(vN T.2.2)) O (AB O) (AM (i:=0) (v:=(vN T.2.2)) O O Bx.a O) O O (AS.pas (v:=(vN ps.length)) O (AB O) (BB O) O O (AS.imp O (AE.call (v:=(Value.bool true)) (AB O) (Ao (args:=[(vN T.2.2),(vN ps.length)]) O O call63) (λw hw=>(by have h9:=By T.2.2 ps.length w;rw [decide_eq_true Z] at h9;exact h9)) O (Ad O) (AS.back sr ?_)))))
   refine AS.pas (v:=(Value.bool false)) O (AB O) (BV (c:=false) O O) O O (Ay (v:=(Value.bool false)) O (AY O O) (Bm O (AS.pas (v:=(pP b1 0)) O (AB O) (AA O underlying30 O sizeOf28 O) O O (AS.pas (v:=(Value.slice x.a.p ps.length x.a.c)) O (AB O) (AM (i:=1) (v:=(Value.slice x.a.p ps.length x.a.c)) O O DE.a O) O O (AS.pas (v:=(pP b2 0)) O (AB O) (AD (j:=0) O O underlying79 sizeOf3 O (by decide) O) O O ?_)))))
   refine AS.pas (v:=(vN T.1)) O (AB O) (AM (i:=0) (v:=(vN T.1)) O O Bx.a O) O O (AS.pas (v:=(pP (pB x.a.p) (pO x.a.p+T.1*10))) O (AB O) (AR (j:=T.1) O O x.a.ok underlying28 sizeOf63 O Z) O O (AS.pas (v:=(aG (Ah (ps.getD T.1 (⟨0,0⟩:Pt))))) O (AB O) (AU (vs:=Ah (ps.getD T.1 (⟨0,0⟩:Pt))) (i:=2) O O (BO.ne x.a.ok Z) BM (Ar BD _ _ _ Z) (BD _)) O O (AS.pas (v:=(pP b1 0)) O (AB O) (AA O underlying30 O sizeOf28 O) O O (AS.pas (v:=(Value.slice x.a.p ps.length x.a.c)) O (AB O) (AM (i:=1) (v:=(Value.slice x.a.p ps.length x.a.c)) O O DE.a O) O O (AS.pas (v:=(pP b2 1)) O (AB O) (AD (j:=1) O O underlying79 sizeOf3 O (by decide) O) O O ?_)))))
   refine AS.pas (v:=(vN T.2.1)) O (AB O) (AM (i:=0) (v:=(vN T.2.1)) O O Bx.a O) O O (AS.pas (v:=(pP (pB x.a.p) (pO x.a.p+T.2.1*10))) O (AB O) (AR (j:=T.2.1) O O x.a.ok underlying28 sizeOf63 O Z) O O (AS.pas (v:=(aG (Ah (ps.getD T.2.1 (⟨0,0⟩:Pt))))) O (AB O) (AU (vs:=Ah (ps.getD T.2.1 (⟨0,0⟩:Pt))) (i:=2) O O (BO.ne x.a.ok Z) BM (Ar BD _ _ _ Z) (BD _)) O O (AS.pas (v:=(pP b1 0)) O (AB O) (AA O underlying30 O sizeOf28 O) O O (AS.pas (v:=(Value.slice x.a.p ps.length x.a.c)) O (AB O) (AM (i:=1) (v:=(Value.slice x.a.p ps.length x.a.c)) O O DE.a O) O O (AS.pas (v:=(pP b2 2)) O (AB O) (AD (j:=2) O O underlying79 sizeOf3 O (by decide) O) O O ?_)))))
   refine AS.pas (v:=(vN T.2.2)) O (AB O) (AM (i:=0) (v:=(vN T.2.2)) O O Bx.a O) O O (AS.pas (v:=(pP (pB x.a.p) (pO x.a.p+T.2.2*10))) O (AB O) (AR (j:=T.2.2) O O x.a.ok underlying28 sizeOf63 O Z) O O (AS.pas (v:=(aG (Ah (ps.getD T.2.2 (⟨0,0⟩:Pt))))) O (AB O) (AU (vs:=Ah (ps.getD T.2.2 (⟨0,0⟩:Pt))) (i:=2) O O (BO.ne x.a.ok Z) BM (Ar BD _ _ _ Z) (BD _)) O O (AS.imp O (AE.call (v:=(vI ((Aa (ps.getD T.1 (⟨0,0⟩:Pt)) (ps.getD T.2.1 (⟨0,0⟩:Pt)) (ps.getD T.2.2 (⟨0,0⟩:Pt))).num.sign))) (AB O) (Ao (args:=[(aG (Ah (ps.getD T.1 (⟨0,0⟩:Pt)))),(aG (Ah (ps.getD T.2.1 (⟨0,0⟩:Pt)))),(aG (Ah (ps.getD T.2.2 (⟨0,0⟩:Pt))))]) O O call117) (λw hw=>Gq (ps.getD T.1 (⟨0,0⟩:Pt)) (ps.getD T.2.1 (⟨0,0⟩:Pt)) (ps.getD T.2.2 (⟨0,0⟩:Pt)) Z w) O (Ad O) (AS.back sr ?_)))))
   refine AS.pas (v:=(Value.bool false)) O (AB O) (CS (c:=false) O O (decide_eq_false (λh9=>h9 (by have h8:=hup i Z;rw [<-hT] at h8;exact h8)))) O O (Ay (v:=(Value.bool false)) O (AY O O) (AS.nil (AC.subF (sL [1,3,12,13,14,5,58] O) (AC.then_ (AF.cond_false O ?_)))))
   refine AF.skip (AC.in_normal (AC.then_ (AF.region (AH (AW (c:=((i+1:Nat):Int)) O O (AZ (a:=i) (b:=1) Z)) O (AO O ?_)))))
   exact AE.nil (AC.subF (sL [1,3,12,13,14,5] O) (AC.round1 (i+1) Z Z (sF O) (sl sr)))
 ·replace hc0:=of_decide_eq_false hc0
  omega
theorem O6 {ps:List Pt} {ts ss:List T3} (x:MX ps ts ss) (hnb:CU ps.length ts=true) (hp:ps.length<=4096) (htl:ts.length<=8192) (hsl:ss.length<=24576) (hz:∀k,B4 (B9 ps k)<=1000) (jb:Nat) (hjb:jb<ts.length) (hup:∀j,j<jb->(Aa (B9 ps (ts.getD j (0,0,0)).1) (B9 ps (ts.getD j (0,0,0)).2.1) (B9 ps (ts.getD j (0,0,0)).2.2)).num.sign=1) (hbad:¬(Aa (B9 ps (ts.getD jb (0,0,0)).1) (B9 ps (ts.getD jb (0,0,0)).2.1) (B9 ps (ts.getD jb (0,0,0)).2.2)).num.sign=1) (w:World) {S:Nat->Prop} (hx:Ro S w x):Calls prog 29 #[(aG (CM x))] w (Al w (vI 1)):=by
 have lx:=En (W:=w) hx
 refine BC (args:=[(aG (CM x))]) (L:=[Ag x.a.p (rowsL Ah ps),Ag x.b.p (rowsL An ts),Ag x.c.p (rowsL An ss)]) func29 O O (Ad O) (Eo hx BR) (AF.subF (sL [0] O) (q4 (Bi (cs:=CM x) O λb1=>AK O (q6 (sL [1,2] O) ?_))))
 refine AF.block (q4 (AH (v:=(pP b1 0)) (AA O underlying30 O sizeOf28 O) O (BJ 0 (Value.slice x.a.p ps.length x.a.c) DE O (AH (v:=(vN ps.length)) (AG O underlying28) O (AH (CW (c:=false) O O (decide_eq_false Z)) O ?_)))))
 refine AO O (AE.step (v:=(pP b1 1)) (AB O) (AA O underlying30 O sizeOf23 O) O (Ad O) (AE.step (v:=(Value.slice x.b.p ts.length x.b.c)) (AB O) (AM (i:=0) (v:=(Value.slice x.b.p ts.length x.b.c)) O O DV.a O) O (Ad O) (AE.step (v:=(vN ts.length)) (AB O) (AG O underlying23) O (Ad O) (AE.step (v:=(Value.bool false)) (AB O) (CW (c:=false) O O (decide_eq_false Z)) O (Ad O) (AH (v:=(Value.bool false)) (AY O O) O ?_)))))
 refine AO O (AE.step (v:=(pP b1 2)) (AB O) (AA O underlying30 O sizeOf24 O) O (Ad O) (AE.step (v:=(Value.slice x.c.p ss.length x.c.c)) (AB O) (AM (i:=0) (v:=(Value.slice x.c.p ss.length x.c.c)) O O RZ.a O) O (Ad O) (AE.step (v:=(vN ss.length)) (AB O) (AG O underlying24) O (Ad O) (AE.step (v:=(Value.bool false)) (AB O) (CW (c:=false) O O (decide_eq_false Z)) O (Ad O) (AH (v:=(Value.bool false)) (AY O O) O ?_)))))
 refine AK O (AE.nil (AC.subF (sL [1,2,3] O) (AC.then_ (AF.cond_false O (q4 ?_)))))
 refine BA 0 DG O (D1 call73 (λw hw=>Pb x hnb hp htl hsl hz jb hjb hup hbad w (Dz hw 1 O lx)) O (AH (BV (c:=true) O O) O (AK O (AE.nil (AC.subF (sL [1,2,20] O) ?_)))))
 refine AC.then_ (AF.cond_true O (q4 (AK O (AE.nil (AC.subF (sL [1,2] O) ?_)))))
 exact AC.then_ (AF.ret (AC.in_ret (AC.then_ret (AN O (Ab (v:=(vI 1)) O) (λw hw=>⟨rfl,hw.out⟩)))))
end
section
set_option maxRecDepth 100000
theorem OK (w:World):Calls prog 31 #[(vI 0),(vI 0)] w (Al w (aG (Ah (⟨0,0⟩:Pt)))):=by
 have h:=H1 0 0 (by decide) (by decide) (by decide) (by decide) w
 rw [show (⟨((0:Int):Rat),((0:Int):Rat)⟩:Pt)=(⟨0,0⟩:Pt) from by decide +kernel] at h
 exact h
theorem OJ (w:World):Calls prog 31 #[(vI 1),(vI 0)] w (Al w (aG (Ah (⟨1,0⟩:Pt)))):=by
 have h:=H1 1 0 (by decide) (by decide) (by decide) (by decide) w
 rw [show (⟨((1:Int):Rat),((0:Int):Rat)⟩:Pt)=(⟨1,0⟩:Pt) from by decide +kernel] at h
 exact h
theorem Od (w:World):Calls prog 31 #[(vI 1),(vI 1)] w (Al w (aG (Ah (⟨1,1⟩:Pt)))):=by
 have h:=H1 1 1 (by decide) (by decide) (by decide) (by decide) w
 rw [show (⟨((1:Int):Rat),((1:Int):Rat)⟩:Pt)=(⟨1,1⟩:Pt) from by decide +kernel] at h
 exact h
theorem Nx (w:World):Calls prog 31 #[(vI 0),(vI 1)] w (Al w (aG (Ah (⟨0,1⟩:Pt)))):=by
 have h:=H1 0 1 (by decide) (by decide) (by decide) (by decide) w
 rw [show (⟨((0:Int):Rat),((1:Int):Rat)⟩:Pt)=(⟨0,1⟩:Pt) from by decide +kernel] at h
 exact h
theorem I9 (x0 x1 x2 x3:Pt):Instr.fill (λi=>some (i*10,10)) ((Array.range (4*10)).map ((Value.agg (Ah (⟨0,0⟩:Pt)).toArray).cells[·%(Value.agg (Ah (⟨0,0⟩:Pt)).toArray).cells.size]!)) [(0,.agg (Ah x0).toArray),(1,.agg (Ah x1).toArray),(2,.agg (Ah x2).toArray),(3,.agg (Ah x3).toArray)]=some (Ah x0++Ah x1++Ah x2++Ah x3).toArray:=by kernel_rfl
theorem DK (x0 x1 x2:Nat):Instr.fill (λi=>some (i*1,1)) (An ((0,0,0):Nat×Nat×Nat)).toArray [(0,vN x0),(1,vN x1),(2,vN x2)]=some (An (x0,x1,x2)).toArray:=by kernel_rfl
theorem Fe (x0 x1:Nat×Nat×Nat):Instr.fill (λi=>some (i*3,3)) ((Array.range (2*3)).map ((Value.agg (An ((0,0,0):Nat×Nat×Nat)).toArray).cells[·%(Value.agg (An ((0,0,0):Nat×Nat×Nat)).toArray).cells.size]!)) [(0,.agg (An x0).toArray),(1,.agg (An x1).toArray)]=some (An x0++An x1).toArray:=by kernel_rfl
theorem IR (x0 x1 x2 x3:Nat×Nat×Nat):Instr.fill (λi=>some (i*3,3)) ((Array.range (4*3)).map ((Value.agg (An ((0,0,0):Nat×Nat×Nat)).toArray).cells[·%(Value.agg (An ((0,0,0):Nat×Nat×Nat)).toArray).cells.size]!)) [(0,.agg (An x0).toArray),(1,.agg (An x1).toArray),(2,.agg (An x2).toArray),(3,.agg (An x3).toArray)]=some (An x0++An x1++An x2++An x3).toArray:=by kernel_rfl
set_option maxHeartbeats 1000000 in
theorem Ms  (w:World)  :Calls prog 21 #[] w (Al w (Value.bool true)):=by
 refine Ac (args:=[]) func21 O O (Ad O) (AF.subF sN (q4 (AK O (AE.nil (q2 ?_)))))
 refine BS call31 (OK) O (BS call31 (OJ) O (BS call31 (Od) O (BS call31 (Nx) O (AE.openV (V:=λb1=>(Value.slice (some ⟨b1,0,none⟩) 4 4)) (T:=63) (cs:=Ah (⟨0,0⟩:Pt)++Ah (⟨1,0⟩:Pt)++Ah (⟨1,1⟩:Pt)++Ah (⟨0,1⟩:Pt)) (AP O) (A_ (z:=.agg (Ah (⟨0,0⟩:Pt)).toArray) (cs:=Ah (⟨0,0⟩:Pt)++Ah (⟨1,0⟩:Pt)++Ah (⟨1,1⟩:Pt)++Ah (⟨0,1⟩:Pt)) (pv:=[(0,(aG (Ah (⟨0,0⟩:Pt)))),(1,(aG (Ah (⟨1,0⟩:Pt)))),(2,(aG (Ah (⟨1,1⟩:Pt)))),(3,(aG (Ah (⟨0,1⟩:Pt))))]) underlying28 sizeOf63 zeroValue63 (by decide) (by decide) O (I9 (⟨0,0⟩:Pt) (⟨1,0⟩:Pt) (⟨1,1⟩:Pt) (⟨0,1⟩:Pt))) O (Ad O) λb1=>AH (v:=(aG (An (0,1,2)))) (Aq (zs:=An ((0,0,0):Nat×Nat×Nat)) (vs:=An (0,1,2)) (pv:=[(0,(vI 0)),(1,(vI 1)),(2,(vI 2))]) zeroValue79 underlying79 sizeOf3 O (DK 0 1 2)) O ?_))))
 refine AH (v:=(aG (An (0,2,3)))) (Aq (zs:=An ((0,0,0):Nat×Nat×Nat)) (vs:=An (0,2,3)) (pv:=[(0,(vI 0)),(1,(vI 2)),(2,(vI 3))]) zeroValue79 underlying79 sizeOf3 O (DK 0 2 3)) O (AE.openV (V:=λb2=>(Value.slice (some ⟨b2,0,none⟩) 2 2)) (T:=79) (cs:=An (0,1,2)++An (0,2,3)) (AP O) (A_ (z:=.agg (An ((0,0,0):Nat×Nat×Nat)).toArray) (cs:=An (0,1,2)++An (0,2,3)) (pv:=[(0,(aG (An (0,1,2)))),(1,(aG (An (0,2,3))))]) underlying23 sizeOf79 zeroValue79 (by decide) (by decide) O (Fe (0,1,2) (0,2,3))) O (Ad O) λb2=>AH (v:=(aG ([(vI 0),(vI 1),(vI 1)]))) (AV (zs:=An ((0,0,0):Nat×Nat×Nat)) (vs:=[(vI 0),(vI 1),(vI 1)]) (pv:=[(0,(vI 0)),(1,(vI 1)),(2,(vI 1))]) (places:=[(0,1),(1,1),(2,1)]) zeroValue43 underlying43 (λw=>by simp [sizeOf3]) O O) O (AH (v:=(aG ([(vI 0),(vI 3),(vI 0)]))) (AV (zs:=An ((0,0,0):Nat×Nat×Nat)) (vs:=[(vI 0),(vI 3),(vI 0)]) (pv:=[(0,(vI 0)),(1,(vI 3))]) (places:=[(0,1),(1,1),(2,1)]) zeroValue43 underlying43 (λw=>by simp [sizeOf3]) O O) O (AH (v:=(aG ([(vI 1),(vI 2),(vI 0)]))) (AV (zs:=An ((0,0,0):Nat×Nat×Nat)) (vs:=[(vI 1),(vI 2),(vI 0)]) (pv:=[(0,(vI 1)),(1,(vI 2))]) (places:=[(0,1),(1,1),(2,1)]) zeroValue43 underlying43 (λw=>by simp [sizeOf3]) O O) O (AH (v:=(aG ([(vI 2),(vI 3),(vI 0)]))) (AV (zs:=An ((0,0,0):Nat×Nat×Nat)) (vs:=[(vI 2),(vI 3),(vI 0)]) (pv:=[(0,(vI 2)),(1,(vI 3))]) (places:=[(0,1),(1,1),(2,1)]) zeroValue43 underlying43 (λw=>by simp [sizeOf3]) O O) O ?_))))
 refine AE.openV (V:=λb3=>(Value.slice (some ⟨b3,0,none⟩) 4 4)) (T:=43) (cs:=An ((0,1,1):T3)++An ((0,3,0):T3)++An ((1,2,0):T3)++An ((2,3,0):T3)) (AP O) (A_ (z:=.agg (An ((0,0,0):Nat×Nat×Nat)).toArray) (cs:=An ((0,1,1):T3)++An ((0,3,0):T3)++An ((1,2,0):T3)++An ((2,3,0):T3)) (pv:=[(0,(aG ([(vI 0),(vI 1),(vI 1)]))),(1,(aG ([(vI 0),(vI 3),(vI 0)]))),(2,(aG ([(vI 1),(vI 2),(vI 0)]))),(3,(aG ([(vI 2),(vI 3),(vI 0)])))]) underlying24 sizeOf43 zeroValue43 (by decide) (by decide) O (IR ((0,1,1):T3) ((0,3,0):T3) ((1,2,0):T3) ((2,3,0):T3))) O (Ad O) λb3=>AH (v:=(aG ([(Value.slice (some ⟨b1,0,none⟩) 4 4),(Value.slice (some ⟨b2,0,none⟩) 2 2),(Value.slice (some ⟨b3,0,none⟩) 4 4)]))) (AV (zs:=[(Value.slice none 0 0),(Value.slice none 0 0),(Value.slice none 0 0)]) (vs:=[(Value.slice (some ⟨b1,0,none⟩) 4 4),(Value.slice (some ⟨b2,0,none⟩) 2 2),(Value.slice (some ⟨b3,0,none⟩) 4 4)]) (pv:=[(0,(Value.slice (some ⟨b1,0,none⟩) 4 4)),(1,(Value.slice (some ⟨b2,0,none⟩) 2 2)),(2,(Value.slice (some ⟨b3,0,none⟩) 4 4))]) (places:=[(0,1),(1,1),(2,1)]) zeroValue30 underlying30 (λw=>by simp [sizeOf23,sizeOf24,sizeOf28]) O O) O (al Ph O λb4=>Av O sizeOf30 O (AE.litM (S:=λ_=>False) (ps:=ET) (ts:=Ca) (ss:=JU) (λmm=>[Ae b4 30 (CM mm),Ag mm.c.p (rowsL An JU),Ag mm.b.p (rowsL An Ca),Ag mm.a.p (rowsL Ah ET)]) 3 2 1 (by decide) O O O O O O λmm hmm=>q3 (sL [0,1] O) ?_))
 refine BA 0 DG O (cX (S:=λ_=>False) (cs:=rowsL B8 (B0 Ca)) (k:=(B0 Ca).length) (args:=[(aG (CM mm))]) call16 (λw hw=>PU mm (by decide) (by decide) (by decide +kernel) w (VJ hw [3,2,1] O hmm)) O O O λo lo=>?_)
 have hel:(B0 Ca).length=5:=by decide +kernel
 refine AK O (q3 (sL [0,1,2] O) (BA 1 DG O (al Ph O λb5=>Av O sizeOf30 O (q3 (sL [0,1,2,3] O) ?_))))
 refine AH (v:=(aG (An (0,1,2)))) (Aq (zs:=An ((0,0,0):Nat×Nat×Nat)) (vs:=An (0,1,2)) (pv:=[(0,(vI 0)),(1,(vI 1)),(2,(vI 2))]) zeroValue79 underlying79 sizeOf3 O (DK 0 1 2)) O (AH (v:=(aG (An (0,3,2)))) (Aq (zs:=An ((0,0,0):Nat×Nat×Nat)) (vs:=An (0,3,2)) (pv:=[(0,(vI 0)),(1,(vI 3)),(2,(vI 2))]) zeroValue79 underlying79 sizeOf3 O (DK 0 3 2)) O (AE.openV (V:=λb6=>(Value.slice (some ⟨b6,0,none⟩) 2 2)) (T:=79) (cs:=An (0,1,2)++An (0,3,2)) (AP O) (A_ (z:=.agg (An ((0,0,0):Nat×Nat×Nat)).toArray) (cs:=An (0,1,2)++An (0,3,2)) (pv:=[(0,(aG (An (0,1,2)))),(1,(aG (An (0,3,2))))]) underlying23 sizeOf79 zeroValue79 (by decide) (by decide) O (Fe (0,1,2) (0,3,2))) O (Ad O) λb6=>AH (v:=(pP b5 1)) (AA O underlying30 O sizeOf23 O) O (Fc 1 (off:=1) (vs:=[(Value.slice (some ⟨b6,0,none⟩) 2 2)]) (cs':=[(Value.slice mm.a.p ET.length mm.a.c),(Value.slice (some ⟨b6,0,none⟩) 2 2),(Value.slice mm.c.p JU.length mm.c.c)]) (AP O) O sizeOf23 O (AE.litT (S:=λ_=>False) (ts:=NF) (λtt=>[Ag tt.p (rowsL An NF),Ae b5 30 ([(Value.slice mm.a.p ET.length mm.a.c),(Value.slice tt.p NF.length tt.c),(Value.slice mm.c.p JU.length mm.c.c)]),Ag o.p (rowsL B8 (B0 Ca)),Ae b4 30 (CM mm),Ag mm.c.p (rowsL An JU),Ag mm.b.p (rowsL An Ca),Ag mm.a.p (rowsL Ah ET)]) 0 O O O O λtt htt=>?_))))
 refine q3 (sL [0,1,2,3] O) (BA 3 DG O (D1 call29 (λw hw=>Pi mm TI w (VJ hw [6,5,4] O hmm)) O (AH (BQ (c:=true) O O (by decide)) O (AO O (AE.step (v:=(Value.slice o.p ((B0 Ca).length) o.c)) (AB O) (BB O) O (Ad O) ?_)))))
 refine AE.step (v:=(vN ((B0 Ca).length))) (AB O) (AG O underlying51) O (Ad O) (AE.step (v:=(Value.bool true)) (AB O) (BQ (c:=true) O O (decide_eq_true (by rw [hel];rfl))) O (Ad O) (AH (v:=(Value.bool true)) (Ai O O) O (AO O (AE.step (v:=(Value.slice o.p ((B0 Ca).length) o.c)) (AB O) (BB O) O (Ad O) (AE.step (v:=(pP (pB o.p) (pO o.p+0*4))) (AB O) (AR (j:=0) O O o.ok underlying51 sizeOf65 O Z) O (Ad O) ?_)))))
 refine AE.step (v:=(aG (B8 ((B0 Ca).getD 0 (⟨0,0,0,0⟩:E4))))) (AB O) (AU (vs:=B8 ((B0 Ca).getD 0 (⟨0,0,0,0⟩:E4))) (i:=2) O O (BO.ne o.ok Z) L6 (Ar Cj _ _ _ Z) (Cj _)) O (Ad O) (AE.step (v:=(aG ([(vI 0),(vI 1),(vI 0),(vI (-1:Int))]))) (AB O) (AV (zs:=B8 (⟨0,0,0,0⟩:E4)) (vs:=[(vI 0),(vI 1),(vI 0),(vI (-1:Int))]) (pv:=[(0,(vI 0)),(1,(vI 1)),(2,(vI 0)),(3,(vI (-1:Int)))]) (places:=[(0,1),(1,1),(2,1),(3,1)]) zeroValue65 underlying65 (λw=>by simp [sizeOf3]) O O) O (Ad O) (AE.step (v:=(Value.bool true)) (AB O) (Bq (c:=true) O O eqGuardType65 (IU (a:=(B0 Ca).getD 0 (⟨0,0,0,0⟩:E4)) (b:=(⟨0,1,((0:Nat):Int),-1⟩:E4)) 9998 (by decide +kernel))) O (Ad O) (AH (v:=(Value.bool true)) (Ai O O) O (AO O (AE.step (v:=(Value.slice o.p ((B0 Ca).length) o.c)) (AB O) (BB O) O (Ad O) ?_)))))
 refine AE.step (v:=(pP (pB o.p) (pO o.p+1*4))) (AB O) (AR (j:=1) O O o.ok underlying51 sizeOf65 O Z) O (Ad O) (AE.step (v:=(aG (B8 ((B0 Ca).getD 1 (⟨0,0,0,0⟩:E4))))) (AB O) (AU (vs:=B8 ((B0 Ca).getD 1 (⟨0,0,0,0⟩:E4))) (i:=2) O O (BO.ne o.ok Z) L6 (Ar Cj _ _ _ Z) (Cj _)) O (Ad O) (AE.step (v:=(aG ([(vI 0),(vI 2),(vI 1),(vI 0)]))) (AB O) (AV (zs:=B8 (⟨0,0,0,0⟩:E4)) (vs:=[(vI 0),(vI 2),(vI 1),(vI 0)]) (pv:=[(0,(vI 0)),(1,(vI 2)),(2,(vI 1)),(3,(vI 0))]) (places:=[(0,1),(1,1),(2,1),(3,1)]) zeroValue65 underlying65 (λw=>by simp [sizeOf3]) O O) O (Ad O) (AE.step (v:=(Value.bool true)) (AB O) (Bq (c:=true) O O eqGuardType65 (IU (a:=(B0 Ca).getD 1 (⟨0,0,0,0⟩:E4)) (b:=(⟨0,2,((1:Nat):Int),((0:Nat):Int)⟩:E4)) 9998 (by decide +kernel))) O (Ad O) (AH (v:=(Value.bool true)) (Ai O O) O (AO O ?_)))))
 refine AE.step (v:=(Value.slice o.p ((B0 Ca).length) o.c)) (AB O) (BB O) O (Ad O) (AE.step (v:=(pP (pB o.p) (pO o.p+2*4))) (AB O) (AR (j:=2) O O o.ok underlying51 sizeOf65 O Z) O (Ad O) (AE.step (v:=(aG (B8 ((B0 Ca).getD 2 (⟨0,0,0,0⟩:E4))))) (AB O) (AU (vs:=B8 ((B0 Ca).getD 2 (⟨0,0,0,0⟩:E4))) (i:=2) O O (BO.ne o.ok Z) L6 (Ar Cj _ _ _ Z) (Cj _)) O (Ad O) (AE.step (v:=(aG ([(vI 0),(vI 3),(vI (-1:Int)),(vI 1)]))) (AB O) (AV (zs:=B8 (⟨0,0,0,0⟩:E4)) (vs:=[(vI 0),(vI 3),(vI (-1:Int)),(vI 1)]) (pv:=[(0,(vI 0)),(1,(vI 3)),(2,(vI (-1:Int))),(3,(vI 1))]) (places:=[(0,1),(1,1),(2,1),(3,1)]) zeroValue65 underlying65 (λw=>by simp [sizeOf3]) O O) O (Ad O) (AE.step (v:=(Value.bool true)) (AB O) (Bq (c:=true) O O eqGuardType65 (IU (a:=(B0 Ca).getD 2 (⟨0,0,0,0⟩:E4)) (b:=(⟨0,3,-1,((1:Nat):Int)⟩:E4)) 9998 (by decide +kernel))) O (Ad O) (AH (v:=(Value.bool true)) (Ai O O) O ?_)))))
 refine AO O (AE.step (v:=(aG (CM mm))) (AB O) (Ak (i:=3) (vs:=CM mm) O O DG.a DG.s O O) O (Ad O) (AE.call (v:=(aG (AJ (D7 ET Ca Ca.length)))) (AB O) (Ao (args:=[(aG (CM mm))]) O O call19) (λw hw=>Lr mm (by decide) MZ (by decide +kernel) w (VJ hw [6,5,4] O hmm)) O (Ad O) (AE.call (v:=(Value.string (Nn (D7 ET Ca Ca.length)))) (AB O) (Ao (args:=[(aG (AJ (D7 ET Ca Ca.length)))]) O O call60) (λw hw=>P7 (D7 ET Ca Ca.length) (by decide +kernel) (by decide +kernel) w) O (Ad O) (AE.step (v:=(Value.bool true)) (AB O) (Bf (c:=true) O O (by decide +kernel)) O (Ad O) (AH (v:=(Value.bool true)) (Ai O O) O ?_)))))
 refine AO O (AE.step (v:=(aG ([(Value.slice mm.a.p ET.length mm.a.c),(Value.slice tt.p NF.length tt.c),(Value.slice mm.c.p JU.length mm.c.c)]))) (AB O) (Ak (i:=1) (vs:=[(Value.slice mm.a.p ET.length mm.a.c),(Value.slice tt.p NF.length tt.c),(Value.slice mm.c.p JU.length mm.c.c)]) O O DG.a DG.s O O) O (Ad O) (AE.call (v:=(vI 1)) (AB O) (Ao (args:=[(aG ([(Value.slice mm.a.p ET.length mm.a.c),(Value.slice tt.p NF.length tt.c),(Value.slice mm.c.p JU.length mm.c.c)]))]) O O call29) (λw hw=>O6 (⟨mm.a,tt,mm.c⟩:MX ET NF JU) (by decide +kernel) (by decide) (by decide) (by decide) MZ 1 (by decide) (by decide +kernel) (by decide +kernel) w (VJ hw [6,0,4] O (At.withT hmm htt))) O (Ad O) (AE.step (v:=(Value.bool true)) (AB O) (BQ (c:=true) O O (by decide)) O (Ad O) (AH (v:=(Value.bool true)) (Ai O O) O (AK O ?_)))))
 exact AE.nil (AC.subF (sL [0,1,3] O) (AC.then_ (AF.ret (AN O (Ab (v:=(Value.bool true)) O) (λw hw=>⟨rfl,hw.out⟩)))))
end
end Go.Proofs.YtfbomiejpbchdaaGreatDoor
