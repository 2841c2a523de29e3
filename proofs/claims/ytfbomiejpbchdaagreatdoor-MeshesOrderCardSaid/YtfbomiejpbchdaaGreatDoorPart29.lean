import Derived.Test.YtfbomiejpbchdaaGreatDoorPart21
import Derived.Test.YtfbomiejpbchdaaGreatDoorPart22
import Derived.Test.YtfbomiejpbchdaaGreatDoorPart23
import Derived.Test.YtfbomiejpbchdaaGreatDoorPart28
namespace Go.Proofs.YtfbomiejpbchdaaGreatDoor
open Go Go.RowKit Go.Proofs.Tryz
set_option linter.unusedVariables false
set_option linter.unusedSimpArgs false
section
theorem GZ (b n:Nat):BL (some ⟨b,0,none⟩) n n:=⟨λe=>(by cases e),λa e=>(by injection e with e;subst e;rfl),Nat.le_refl _⟩
theorem Wm {ps:List Pt} {k:Nat} (h:(ps.all λp=>decide (CG p<=k))=true) (h0:CG (⟨0,0⟩:Pt)<=k) (i:Nat):CG (cor ps i)<=k:=by
  unfold cor
  rcases Nat.lt_or_ge i ps.length with hi|hi
  · rw [List.getD,List.getElem?_eq_getElem hi]
    exact of_decide_eq_true (List.all_eq_true.1 h _ (List.getElem_mem hi))
  · rw [List.getD,List.getElem?_eq_none hi];exact h0
theorem XF {T:T3} {r:Nat} (h:r<3):(Am T)[r]?=some (vN (Cd T r)):=by
  have e:r=0\/r=1\/r=2:=by omega
  rcases e with rfl|rfl|rfl<;>rfl
theorem N4 {T:T3} {r:Nat} (h:r<3):(Am T)[0+r*1]?=some (vN (Cd T r)):=by rw [Nat.zero_add,Nat.mul_one];exact XF h
def MD (n j:Nat):Nat:=(n+j)%3
theorem QP {ts:List T3} {f:Nat->Nat} {k i:Nat} {T:T3} (hk:k<ts.length) (hT:T=(Dx ts f k).getD k (0,0,0)) (hi:i=f k) (h3:i<3):(Dx ts f k).set k (Cd T i,Cd T ((i+1)%3),Cd T ((i+2)%3))=Dx ts f (k+1):=by
  rw [EY f k k Z hk,if_neg (Nat.lt_irrefl _)] at hT
  show _=(Dx ts f k).set k (Cv (ts.getD k (0,0,0)) (f k))
  rw [<-hT,<-hi]
  unfold Cv
  rw [Nat.mod_eq_of_lt h3]
theorem At.mx {w0:BK} {S:Nat->Prop} {ps:List Pt} {ts ss:List T3} {x:MX ps ts ss} (h1:At w0 S x.a) (h2:At w0 S x.b) (h3:At w0 S x.c):At w0 S x:=λy hy b e=>by
  have hy:y∈[x.a.row,x.b.row,x.c.row]:=hy
  simp only [List.mem_cons,List.not_mem_nil,or_false] at hy
  rcases hy with rfl|rfl|rfl
  · exact h1 _ List.mem_cons_self b e
  · exact h2 _ List.mem_cons_self b e
  · exact h3 _ List.mem_cons_self b e
section
variable {P:Program} {ops:Array Oper} {rest:List Oper} {Q:Exit->Act->World->Prop} {n:Nat} {F:List (Nat×Value)} {w0:BK} {S:Nat->Prop} {L:List As} {ps:List Pt} {ts ss:List T3}
theorem L3 {w:World} {i b:Nat} {T:TypeId} {cs:List Value} (hw:BO w0 w L) (hi:L[i]?=some (Ae b T cs)) (hex:w0.ex=none):w0.w.heap.size<=b:=by
  rcases (hw.2.1 _ (List.mem_of_getElem? hi) b rfl).1 with h1|h1|h1
  · cases h1
  · exact h1
  · rw [hex] at h1;cases h1
theorem AE.litM {b1 b2 b3 U1 U2 U3:Nat} {cs1 cs2 cs3:List Value} (LL:MX ps ts ss->List As) (i j k:Nat) (hn:i≠j/\i≠k/\j≠k) (h1:L[i]?=some (Ae b1 U1 cs1)) (h2:L[j]?=some (Ae b2 U2 cs2)) (h3:L[k]?=some (Ae b3 U3 cs3)) (hex:w0.ex=none)
    (e:(cs1,cs2,cs3)=(rowsL Aj ps,rowsL Am ts,rowsL Am ss))
    (hL:((L.set i (Ah (some ⟨b1,0,none⟩) cs1)).set j (Ah (some ⟨b2,0,none⟩) cs2)).set k (Ah (some ⟨b3,0,none⟩) cs3)=LL ⟨⟨some ⟨b1,0,none⟩,ps.length,GZ _ _⟩,⟨some ⟨b2,0,none⟩,ts.length,GZ _ _⟩,⟨some ⟨b3,0,none⟩,ss.length,GZ _ _⟩⟩)
    (next:∀mm:MX ps ts ss,At w0 S mm->AE P ops rest Q n F w0 (LL mm)):AE P ops rest Q n F w0 L:=λa w ha hw=>by
  have n1:=L3 hw h1 hex
  have n2:=L3 hw h2 hex
  have n3:=L3 hw h3 hex
  have w1:=hw.freeze (x:=Ae b1 U1 cs1) (y:=Ah (some ⟨b1,0,none⟩) cs1) h1 rfl (λo hp=>FH hp) (λe=>by cases e)
  have w2:=w1.freeze (i:=j) (x:=Ae b2 U2 cs2) (y:=Ah (some ⟨b2,0,none⟩) cs2) (by rw [List.getElem?_set_ne hn.1];exact h2) rfl (λo hp=>FH hp) (λe=>by cases e)
  have w3:=w2.freeze (i:=k) (x:=Ae b3 U3 cs3) (y:=Ah (some ⟨b3,0,none⟩) cs3) (by rw [List.getElem?_set_ne hn.2.2,List.getElem?_set_ne hn.2.1];exact h3) rfl (λo hp=>FH hp) (λe=>by cases e)
  rw [hL] at w3
  refine next _ (λy hy b eb=>?_) a w ha w3
  have hy:y∈[Ah (some ⟨b1,0,none⟩) (rowsL Aj ps),Ah (some ⟨b2,0,none⟩) (rowsL Am ts),Ah (some ⟨b3,0,none⟩) (rowsL Am ss)]:=hy
  simp only [List.mem_cons,List.not_mem_nil,or_false] at hy
  rcases hy with rfl|rfl|rfl<;>(injection eb with eb;subst eb;exact .inl (by assumption))
end
theorem V9 {α:Type} [D8 α] {w0:BK} {w:World} {S:Nat->Prop} {L:List As} (hw:BO w0 w L) (is:List Nat) {a:α} (hi:(is.map λi=>L[i]?)=(D8.rows a).map some) (ha:At w0 S a):Ro (SL w0 S L) w a:=λy hy=>by
  have h1:some y∈(is.map λi=>L[i]?):=by rw [hi];exact List.mem_map.2 ⟨y,hy,rfl⟩
  obtain ⟨i,_,h2⟩:=List.mem_map.1 h1
  have hm:=List.mem_of_getElem? h2
  exact ⟨λb e=>(hw.2.1 y hm b e).2,λb e=>⟨⟨y,hm,D8.ro a y hy,e⟩,ha y hy b e⟩⟩
end
def Sw (p q:Pt):Prop:=p.x<q.x\/(p.x=q.x/\p.y<q.y)
instance (p q:Pt):Decidable (Sw p q):=by unfold Sw;infer_instance
theorem Vh {p q:Pt} (h:GK p.x q.x≠0):decide (GK p.x q.x<0)=decide (Sw p q):=by
  have h2:¬p.x=q.x:=λe=>h (PI.2 e)
  refine decide_eq_decide.2 ⟨λk=>.inl (Iy.1 k),λk=>?_⟩
  rcases k with k|k
  · exact Iy.2 k
  · exact absurd k.1 h2
theorem WN {p q:Pt} (h:GK p.x q.x=0):decide (GK p.y q.y<0)=decide (Sw p q):=by
  have h2:p.x=q.x:=PI.1 h
  refine decide_eq_decide.2 ⟨λk=>.inr ⟨h2,Iy.1 k⟩,λk=>?_⟩
  rcases k with k|k
  · rw [h2] at k;exact absurd k (by grind)
  · exact Iy.2 k.2
def m7 (m:MQ) (k:Nat):List Nat:=(m.cs.take k).map (·%7)
section
set_option maxRecDepth 100000
theorem Kt (p q:Pt) (hp:CG p<=1000) (hq:CG q<=1000) (w:World)  :Calls prog 121 #[(aG (Aj p)),(aG (Aj q))] w (Ak w (Value.bool (decide (Sw p q)))):=by
 have y1:=Gn p
 have y2:=Gn q
 have y3:=Gi p
 have y4:=Gi q
 refine Ab (args:=[(aG (Aj p)),(aG (Aj q))]) func121 O O (Ad O) (AF.subF (sL [0,1] O) (q4 (Bk (cs:=Aj p) O λb1=>Bk (cs:=Aj q) O λb2=>AJ O ?_)))
 refine q6 (sL [2,3,4] O) (q4 (AH (v:=(pP b1 0)) (AA O underlying63 O sizeOf61 O) O (DT 1 (AK p.x) Br O (AH (v:=(pP b2 0)) (AA O underlying63 O sizeOf61 O) O (DT 0 (AK q.x) Br O ?_)))))
 refine BS call155 (Ow p.x q.x Z) O (AJ O (q3 (sL [2,3,4,5] O) (AP O (AH (CP (c:=(decide ((GK p.x q.x)≠(0:Int)))) O O O) O (AE.nil ?_)))))
 refine AD.subF (sL [2,3,4,5,12] O) (AD.then_ ?_)
 refine AF.cond O (λhc0=>?_) (λhc0=>?_)
 ·replace hc0:=of_decide_eq_true hc0
  refine q4 (AP O (AH (Af (c:=(decide ((GK p.x q.x)<(0:Int)))) O O O) O (AJ O (AE.nil (AD.subF (sL [2,3,4,5] O) ?_)))))
  exact AD.then_ (AF.ret (AD.then_ret (AN O (Ac (v:=(Value.bool (decide ((GK p.x q.x)<(0:Int))))) O) (λw hw=>⟨by rw [Vh hc0],hw.out⟩))))
 ·replace hc0:=of_decide_eq_false hc0
  refine AF.skip (q2 (AH (v:=(pP b1 5)) (AA O underlying63 O sizeOf61 O) O (DT 1 (AK p.y) Br O (AH (v:=(pP b2 5)) (AA O underlying63 O sizeOf61 O) O (DT 0 (AK q.y) Br O ?_)))))
  refine BS call155 (Ow p.y q.y Z) O (AH (Af (c:=(decide ((GK p.y q.y)<(0:Int)))) O O O) O (AJ O (AE.nil (AD.subF (sL [2,3,4,5] O) (AD.then_ ?_)))))
  exact AF.ret (AN O (Ac (v:=(Value.bool (decide ((GK p.y q.y)<(0:Int))))) O) (λw hw=>⟨by rw [WN (Decidable.not_not.1 hc0)],hw.out⟩))
end
abbrev T2:=P2×P2×P2
def XU (A B:P2) (X Y:Nat):Int:=((B.1:Int)-A.1)*((Y:Int)-2*A.2)-((B.2:Int)-A.2)*((X:Int)-2*A.1)
def Wz (t:T2) (X Y:Nat):Bool:=decide (0<=XU t.2.1 t.2.2 X Y)&&decide (0<=XU t.2.2 t.1 X Y)&&decide (0<=XU t.1 t.2.1 X Y)
def Jp (t:T2) (q:P2):Bool:=t.1 == q||t.2.1 == q||t.2.2 == q
def Pc (u v c:Nat):List T2 :=
  let x:=2*u;let y:=2*v
  if c=0 then [((x,y),(x+2,y),(x+2,y+2)),((x,y),(x+2,y+2),(x,y+2))]
  else if c=1 then [((x,y),(x+2,y),(x,y+2)),((x+2,y),(x+2,y+2),(x,y+2))]
  else if c=2 then [((x,y),(x+2,y),(x+1,y+1)),((x+2,y),(x+2,y+2),(x+1,y+1)),((x+2,y+2),(x,y+2),(x+1,y+1)),((x,y+2),(x,y),(x+1,y+1))] else []
def UY (way i:Nat):Nat:=if way<3\/(way=7/\i=0) then 0 else if way<5 then 1 else if way<7 then 2 else 3
theorem Ko (nx way i:Nat):CY nx way i=Pc (i%nx) (i/nx) (UY way i):=by
  unfold CY Pc UY
  simp only
  split
  · rfl
  · split
    · rfl
    · split<;>rfl
theorem JE (way i:Nat):UY way i<4:=by
  unfold UY
  split
  · omega
  · split
    · omega
    · split<;>omega
def MM (s t:T2):Bool :=
  [s.1,s.2.1,s.2.2].all (λq=>!Wz t (2*q.1) (2*q.2)||Jp t q) &&
  [(s.1,s.2.1),(s.2.1,s.2.2),(s.2.2,s.1)].all (λe=>!Wz t (e.1.1+e.2.1) (e.1.2+e.2.2)||(Jp t e.1&&Jp t e.2))
def F6:List (Nat×Nat×Nat):=[0,1,2].flatMap λu=>[0,1,2].flatMap λv=>[0,1,2,3].map λc=>(u,v,c)
def XM:Bool:=F6.all λp=>F6.all λq=>(decide (p.1=q.1/\p.2.1=q.2.1/\p.2.2≠q.2.2))||(Pc p.1 p.2.1 p.2.2).all λs=>(Pc q.1 q.2.1 q.2.2).all λt=>MM s t
theorem OC:XM=true:=by decide +kernel
theorem EA {u v c:Nat} (hu:u<=2) (hv:v<=2) (hc:c<4):(u,v,c)∈F6:=by
  have h1:u=0\/u=1\/u=2:=by omega
  have h2:v=0\/v=1\/v=2:=by omega
  have h3:c=0\/c=1\/c=2\/c=3:=by omega
  rcases h1 with rfl|rfl|rfl<;>rcases h2 with rfl|rfl|rfl<;>rcases h3 with rfl|rfl|rfl|rfl<;>decide
theorem PS {m:MQ} {s t:T2} (hs:s∈Az m) (ht:t∈Az m):MM s t=true:=by
  obtain ⟨i,hi,h1⟩:=Dp m _ s hs
  obtain ⟨j,hj,h2⟩:=Dp m _ t ht
  have hx:=Hy m
  have hy:=H5 m
  have b:∀k,k<FN m*P_ m->k%FN m<=2/\k/FN m<=2:=λk hk=>by
    have a1:=Nat.mod_lt k (show 0<FN m by omega)
    have a2:k/FN m<P_ m:=Nat.div_lt_of_lt_mul hk
    omega
  rw [Ko] at h1 h2
  have h:=List.all_eq_true.1 (List.all_eq_true.1 OC _ (EA (b i hi).1 (b i hi).2 (JE (Fm m i) i))) _ (EA (b j hj).1 (b j hj).2 (JE (Fm m j) j))
  rw [Bool.or_eq_true,decide_eq_true_eq] at h
  rcases h with ⟨e1,e2,e3⟩|h
  · exfalso
    have e:i=j:=by rw [<-Nat.div_add_mod i (FN m),<-Nat.div_add_mod j (FN m),show i%FN m=j%FN m from e1,show i/FN m=j/FN m from e2]
    subst e
    exact e3 O
  · exact List.all_eq_true.1 (List.all_eq_true.1 h s h1) t h2
theorem Sq (A B:P2) (X Y:Nat):Ir A B ((X:Rat)*(1/2)) ((Y:Rat)*(1/2))=((XU A B X Y:Int):Rat)*(1/2):=by
  simp only [Ir,XU,Rat.intCast_sub,Rat.intCast_mul,Rat.intCast_natCast,show ((2:Int):Rat)=2 from rfl]
  grind
theorem RD {t:T2} {X Y:Nat} (h:inC t ((X:Rat)*(1/2)) ((Y:Rat)*(1/2))):Wz t X Y=true:=by
  obtain ⟨h1,h2,h3⟩:=h
  rw [Sq] at h1 h2 h3
  have c:∀z:Int,0<=(z:Rat)*(1/2)->0<=z:=λz hz=>by
    have:(0:Rat)<=(z:Rat):=by grind
    exact_mod_cast this
  simp only [Wz,Bool.and_eq_true,decide_eq_true_eq]
  exact ⟨⟨c _ h1,c _ h2⟩,c _ h3⟩
theorem MI {t:T2} {q:P2} (h:Jp t q=true):∃r,r<3/\Cb t r=q:=by
  simp only [Jp,Bool.or_eq_true,beq_iff_eq] at h
  rcases h with (h|h)|h
  · exact ⟨0,Z,h⟩
  · exact ⟨1,Z,h⟩
  · exact ⟨2,Z,h⟩
theorem Ru (t:T2) {r:Nat} (h:r<3):Cb t r∈[t.1,t.2.1,t.2.2]:=by
  have:r=0\/r=1\/r=2:=by omega
  rcases this with rfl|rfl|rfl<;>simp [Cb]
theorem Mx {m:MQ} {s t:T2} (hs:s∈Az m) (ht:t∈Az m) {r:Nat} (hr:r<3) (h:inC t ((Cb s r).1:Rat) ((Cb s r).2:Rat)):∃k,k<3/\Cb t k=Cb s r:=by
  have hp:=PS hs ht
  unfold MM at hp
  rw [Bool.and_eq_true] at hp
  have h1:=List.all_eq_true.1 hp.1 _ (Ru s hr)
  have h2:Wz t (2*(Cb s r).1) (2*(Cb s r).2)=true:=RD (by
    rw [GE,GE,show 2*((Cb s r).1:Rat)*(1/2)=((Cb s r).1:Rat) by grind,show 2*((Cb s r).2:Rat)*(1/2)=((Cb s r).2:Rat) by grind]
    exact h)
  rw [h2] at h1
  exact MI (by simpa using h1)
theorem S1 {m:MQ} {s t:T2} (hs:s∈Az m) (ht:t∈Az m) {r:Nat} (hr:r<3) (h:inC t ((((Cb s r).1+(Cb s ((r+1)%3)).1:Nat):Rat)*(1/2)) ((((Cb s r).2+(Cb s ((r+1)%3)).2:Nat):Rat)*(1/2))) :
    (∃k,k<3/\Cb t k=Cb s r)/\∃k,k<3/\Cb t k=Cb s ((r+1)%3):=by
  have hp:=PS hs ht
  unfold MM at hp
  rw [Bool.and_eq_true] at hp
  have hm:(Cb s r,Cb s ((r+1)%3))∈[(s.1,s.2.1),(s.2.1,s.2.2),(s.2.2,s.1)]:=by
    have:r=0\/r=1\/r=2:=by omega
    rcases this with rfl|rfl|rfl<;>simp [Cb]
  have h1:=List.all_eq_true.1 hp.2 _ hm
  rw [RD h] at h1
  have h2:Jp t (Cb s r)=true/\Jp t (Cb s ((r+1)%3))=true:=by simpa using h1
  exact ⟨MI h2.1,MI h2.2⟩
section
def PQ (k:Cr) (den:Nat) (X Y:Rat):Pt:=⟨((k.a:Rat)*X+(k.b:Rat)*Y)/(((max den 1:Nat):Int):Rat),((k.c:Rat)*X+(k.d:Rat)*Y)/(((max den 1:Nat):Int):Rat)⟩
theorem IQ (k:Cr) (den:Nat) (A:P2):CE (Fq k den A)=PQ k den (A.1:Rat) (A.2:Rat):=by
  simp only [CE,Fq,MV,Cr.at_,PQ,Rat.intCast_add,Rat.intCast_mul,Rat.intCast_natCast]
theorem Vu (k:Cr) (den:Nat) (A B:P2):Gt (CE (Fq k den A)+CE (Fq k den B)) (1/2)=PQ k den (((A.1+B.1:Nat):Rat)*(1/2)) (((A.2+B.2:Nat):Rat)*(1/2)):=by
  rw [IQ,IQ]
  refine Pt.ext ?_ ?_<;>simp only [PQ,Ol,O5,VV,VW,Rat.natCast_add,Rat.div_def]<;>generalize (((max den 1:Nat):Int):Rat)⁻¹=e<;>grind
theorem Mw {k:Cr} (h:k.Ok) (den:Nat):∃c:Rat,0<c/\∀(A B:P2) (X Y:Rat),AO (CE (Fq k den A)) (CE (Fq k den B)) (PQ k den X Y)=c*Ir A B X Y:=by
  have hD:0<(((max den 1:Nat):Int):Rat):=by exact_mod_cast (show (0:Int)<((max den 1:Nat):Int) by omega)
  have hd:(0:Rat)<(k.det:Rat):=by exact_mod_cast h.pos
  have ed:(k.det:Rat)=(k.a:Rat)*(k.d:Rat)-(k.b:Rat)*(k.c:Rat):=by simp only [Cr.det,Rat.intCast_sub,Rat.intCast_mul]
  have hi:=Rat.inv_pos.2 hD
  refine ⟨(k.det:Rat)*((((max den 1:Nat):Int):Rat)⁻¹*(((max den 1:Nat):Int):Rat)⁻¹),Rat.mul_pos hd (Rat.mul_pos hi hi),λA B X Y=>?_⟩
  rw [IQ,IQ,ed]
  simp only [B5,PQ,Ir,Rat.div_def]
  generalize (((max den 1:Nat):Int):Rat)⁻¹=e
  grind
theorem WF (m:MQ) (t:Nat) {k:Nat} (hk:k<3):∃r,r<3/\H2 m t r=k:=by
  unfold H2
  generalize t*(m.fst/3)=q
  have e:(m.fst+q)%3=0\/(m.fst+q)%3=1\/(m.fst+q)%3=2:=by omega
  rcases e with e|e|e
  · exact ⟨k,hk,Z⟩
  · exact ⟨(k+2)%3,Nat.mod_lt _ (by decide),Z⟩
  · exact ⟨(k+1)%3,Nat.mod_lt _ (by decide),Z⟩
theorem ND (m:MQ) (t r:Nat):H2 m t ((r+1)%3)=(H2 m t r+1)%3:=by unfold H2;omega
def crn (t:Nat×Nat×Nat) (r:Nat):Nat:=if r=0 then t.1 else if r=1 then t.2.1 else t.2.2
def B_ (t:Nat×Nat×Nat) (p:Nat):Bool:=t.1 == p||t.2.1 == p||t.2.2 == p
theorem J_ {t:Nat×Nat×Nat} {p:Nat}:B_ t p=true↔∃r,r<3/\crn t r=p:=by
  simp only [B_,Bool.or_eq_true,beq_iff_eq]
  constructor
  · rintro ((h|h)|h)
    · exact ⟨0,Z,h⟩
    · exact ⟨1,Z,h⟩
    · exact ⟨2,Z,h⟩
  · rintro ⟨r,hr,h⟩
    have:r=0\/r=1\/r=2:=by omega
    rcases this with rfl|rfl|rfl
    · exact .inl (.inl h)
    · exact .inl (.inr h)
    · exact .inr h
theorem II.crn {m:MQ} {pl:List P2} {n:Nat×Nat×Nat} {t:Nat} (h:II m pl n t) {r:Nat} (hr:r<3):Go.Proofs.YtfbomiejpbchdaaGreatDoor.crn n r<pl.length/\pl.getD (Go.Proofs.YtfbomiejpbchdaaGreatDoor.crn n r) (0,0)=An m t r:=by
  have:r=0\/r=1\/r=2:=by omega
  rcases this with rfl|rfl|rfl
  · exact h.a
  · exact h.b
  · exact h.c
section
variable {ps:List Pt} {ts:List (Nat×Nat×Nat)}
structure Wl (ps:List Pt) (ts:List (Nat×Nat×Nat)) (m:MQ) (pl:List P2):Prop where
  inv:Lz m (Az m).length pl ts
  dst:VY pl
  pl_len:ps.length=pl.length
  at_:∀i,i<pl.length->ps.getD i ⟨0,0⟩=CE (Fq (mapM m) (Bt m) (pl.getD i (0,0)))
theorem Ek.lattice (g:Ek ps ts):∃m pl,Wl ps ts m pl:=by
  obtain ⟨m,pl,h1,h2,h3⟩:=g.lat
  have hz:(Ew m pl).length=pl.length:=by simp [Ew]
  refine ⟨m,pl,h1,h2,by rw [h3,JD Z],λi hi=>?_⟩
  rw [h3,<-hz,PJ (by rw [hz];exact hi),I8 hi]
  rfl
theorem Wl.cell {m:MQ} {pl:List P2} (l:Wl ps ts m pl) {t:Nat} (ht:t<ts.length):(Az m).getD t ((0,0),(0,0),(0,0))∈Az m:=by
  have h:=l.inv.tl
  rw [List.getD,List.getElem?_eq_getElem Z];exact List.getElem_mem _
theorem Wl.inC {m:MQ} {pl:List P2} (l:Wl ps ts m pl) {t:Nat} (ht:t<ts.length) {X Y:Rat} (h:Js ps (ts.getD t (0,0,0)) (PQ (mapM m) (Bt m) X Y)):Go.Proofs.YtfbomiejpbchdaaGreatDoor.inC ((Az m).getD t ((0,0),(0,0),(0,0))) X Y:=by
  obtain ⟨c,hc,key⟩:=Mw (El m.a m.b m.c m.d) (Bt m)
  have hk:mapM m=Fp m.a m.b m.c m.d:=rfl
  rw [<-hk] at key
  have hat:=l.inv.at_ t (by have:=l.inv.tl;omega)
  obtain ⟨⟨a1,a2⟩,⟨b1,b2⟩,⟨c1,c2⟩⟩:=hat
  obtain ⟨k1,k2,k3⟩:=h
  rw [l.at_ _ b1,l.at_ _ c1,b2,c2,<-FE,key] at k1
  rw [l.at_ _ a1,l.at_ _ c1,a2,c2,FE,key] at k2
  rw [l.at_ _ a1,l.at_ _ b1,a2,b2,key] at k3
  exact (Ld m t X Y).2 (Gp hc k1) (Gp hc k2) (Gp hc k3)
theorem Wl.idx {m:MQ} {pl:List P2} (l:Wl ps ts m pl) {t p:Nat} (ht:t<ts.length) (hp:p<pl.length) (h:∃k,k<3/\Cb ((Az m).getD t ((0,0),(0,0),(0,0))) k=pl.getD p (0,0)):B_ (ts.getD t (0,0,0)) p=true:=by
  obtain ⟨k,hk,e⟩:=h
  obtain ⟨r,hr,e2⟩:=WF m t hk
  obtain ⟨h1,h2⟩:=(l.inv.at_ t (by have:=l.inv.tl;omega)).crn hr
  have e3:An m t r=pl.getD p (0,0):=by rw [<-e,<-e2];rfl
  exact J_.2 ⟨r,hr,l.dst _ _ h1 hp (by rw [h2,e3])⟩
theorem Hq (g:Ek ps ts) {p:Nat} (hp:p<ps.length):∃j,j<ts.length/\B_ (ts.getD j (0,0,0)) p=true:=by
  obtain ⟨m,pl,l⟩:=g.lattice
  obtain ⟨j,hj,h⟩:=l.inv.used p (by rw [<-l.pl_len];exact hp)
  refine ⟨j,by have:=l.inv.tl;omega,?_⟩
  simp only [B_,Bool.or_eq_true,beq_iff_eq]
  rcases h with h|h|h
  · exact .inl (.inl h)
  · exact .inl (.inr h)
  · exact .inr h
theorem SZ (g:Ek ps ts) {p q:Nat} (hp:p<ps.length) (hq:q<ps.length) (h:ps.getD p ⟨0,0⟩=ps.getD q ⟨0,0⟩):p=q:=by
  obtain ⟨m,pl,l⟩:=g.lattice
  obtain ⟨j,hj,hh⟩:=Hq g hq
  obtain ⟨r,hr,e⟩:=J_.1 hh
  have hp':p<pl.length:=by rw [<-l.pl_len];exact hp
  have hq':q<pl.length:=by rw [<-l.pl_len];exact hq
  rw [l.at_ p hp',l.at_ q hq'] at h
  refine l.dst p q hp' hq' ?_
  have hD:0<(((max (Bt m) 1:Nat):Int):Rat):=by exact_mod_cast (show (0:Int)<((max (Bt m) 1:Nat):Int) by omega)
  have hk:=El m.a m.b m.c m.d
  have hdet:=hk.pos
  have hx:=congrArg Pt.x h
  have hy:=congrArg Pt.y h
  rw [IQ,IQ] at hx hy
  simp only [PQ,Rat.div_def] at hx hy
  have hi:=Rat.inv_pos.2 hD
  generalize (((max (Bt m) 1:Nat):Int):Rat)⁻¹=e at *
  generalize pl.getD p (0,0)=A at *
  generalize pl.getD q (0,0)=B at *
  obtain ⟨x1,y1⟩:=A
  obtain ⟨x2,y2⟩:=B
  simp only at hx hy
  have hd:(0:Rat)<((mapM m).det:Rat):=by exact_mod_cast hdet
  have ed:((mapM m).det:Rat)=((mapM m).a:Rat)*((mapM m).d:Rat)-((mapM m).b:Rat)*((mapM m).c:Rat):=by simp only [Cr.det,Rat.intCast_sub,Rat.intCast_mul]
  rw [ed] at hd
  generalize ((mapM m).a:Rat)=a at *
  generalize ((mapM m).b:Rat)=b at *
  generalize ((mapM m).c:Rat)=c at *
  generalize ((mapM m).d:Rat)=d at *
  clear hD hk hdet ed h
  have hX:((x1:Rat)-(x2:Rat))*(a*d-b*c)*e=0:=by grind
  have hY:((y1:Rat)-(y2:Rat))*(a*d-b*c)*e=0:=by grind
  have z1:(x1:Rat)-(x2:Rat)=0:=by
    rcases Rat.mul_eq_zero.1 hX with h|h
    · rcases Rat.mul_eq_zero.1 h with h|h
      · exact h
      · grind
    · grind
  have z2:(y1:Rat)-(y2:Rat)=0:=by
    rcases Rat.mul_eq_zero.1 hY with h|h
    · rcases Rat.mul_eq_zero.1 h with h|h
      · exact h
      · grind
    · grind
  have w1:(x1:Rat)=(x2:Rat):=by grind
  have w2:(y1:Rat)=(y2:Rat):=by grind
  exact Prod.ext (by exact_mod_cast w1) (by exact_mod_cast w2)
theorem IX (g:Ek ps ts) {p t:Nat} (hp:p<ps.length) (ht:t<ts.length) (h:Js ps (ts.getD t (0,0,0)) (ps.getD p ⟨0,0⟩)):B_ (ts.getD t (0,0,0)) p=true:=by
  obtain ⟨m,pl,l⟩:=g.lattice
  have hp':p<pl.length:=by rw [<-l.pl_len];exact hp
  obtain ⟨j,hj,hh⟩:=Hq g hp
  obtain ⟨r,hr,e⟩:=J_.1 hh
  have hc:=((l.inv.at_ j (by have:=l.inv.tl;omega)).crn hr).2
  rw [e] at hc
  refine l.idx ht hp' ?_
  rw [l.at_ p hp',IQ] at h
  have h2:=l.inC ht h
  rw [hc] at h2 ⊢
  exact Mx (l.cell hj) (l.cell ht) (Nat.mod_lt _ (by decide)) h2
theorem TQ (g:Ek ps ts) {s t r:Nat} (hs:s<ts.length) (ht:t<ts.length) (hr:r<3) (h:Js ps (ts.getD t (0,0,0)) (Gt (ps.getD (crn (ts.getD s (0,0,0)) r) ⟨0,0⟩+ps.getD (crn (ts.getD s (0,0,0)) ((r+1)%3)) ⟨0,0⟩) (1/2))) :
    B_ (ts.getD t (0,0,0)) (crn (ts.getD s (0,0,0)) r)=true/\B_ (ts.getD t (0,0,0)) (crn (ts.getD s (0,0,0)) ((r+1)%3))=true:=by
  obtain ⟨m,pl,l⟩:=g.lattice
  have hat:=l.inv.at_ s (by have:=l.inv.tl;omega)
  obtain ⟨a1,a2⟩:=hat.crn hr
  obtain ⟨b1,b2⟩:=hat.crn (Nat.mod_lt (r+1) (show 0<3 by decide))
  rw [l.at_ _ a1,l.at_ _ b1,Vu,a2,b2] at h
  have h2:=l.inC ht h
  unfold An at h2
  rw [ND] at h2
  obtain ⟨k1,k2⟩:=S1 (l.cell hs) (l.cell ht) (r:=H2 m s r) (Nat.mod_lt _ (by decide)) h2
  refine ⟨l.idx ht a1 ?_,l.idx ht b1 ?_⟩
  · rw [a2];exact k1
  · rw [b2];unfold An;rw [ND];exact k2
end
end
section
def TR (t:T3) (p:Nat):Int:=if p=t.1 then 0 else if p=t.2.1 then 1 else if p=t.2.2 then 2 else -1
theorem Um (t:T3) (p:Nat):decide (0<=TR t p)=B_ t p:=by
  unfold TR B_
  by_cases h1:p=t.1
  · rw [if_pos h1,h1];simp
  · have h1':¬t.1=p:=λe=>h1 e.symm
    rw [if_neg h1]
    by_cases h2:p=t.2.1
    · rw [if_pos h2,h2];simp
    · have h2':¬t.2.1=p:=λe=>h2 e.symm
      rw [if_neg h2]
      by_cases h3:p=t.2.2
      · rw [if_pos h3,h3];simp
      · have h3':¬t.2.2=p:=λe=>h3 e.symm
        rw [if_neg h3];simp [h1',h2',h3']
abbrev Q3:=Pt×Pt×Pt
def Gy (x:Q3):List Value:=Aj x.1++(Aj x.2.1++(Aj x.2.2++[]))
theorem XL (a b c:Pt):Aj a++Aj b++Aj c=Gy (a,b,c):=by simp [Gy]
def BW (ps:List Pt) (t:T3):Q3:=(cor ps t.1,cor ps t.2.1,cor ps t.2.2)
def KN (p q r:Pt):Bool:=decide (0<(AO p q r).num.sign)
def Sr (p q:Pt) (B:Q3):Int:=if KN p q B.1=true then 0 else if KN p q B.2.1=true then 1 else if KN p q B.2.2=true then 2 else -1
def D0 (p q:Pt) (B:Q3):Bool:=KN p q B.1||KN p q B.2.1||KN p q B.2.2
theorem VB (p q:Pt) (B:Q3):decide (0<=Sr p q B)=D0 p q B:=by
  unfold Sr D0
  cases KN p q B.1<;>cases KN p q B.2.1<;>cases KN p q B.2.2<;>rfl
def DM (A B:Q3):Bool:=!D0 A.1 A.2.1 B||(!D0 A.2.1 A.2.2 B||!D0 A.2.2 A.1 B)
structure Ft (ps:List Pt) (ts ss:List T3):Prop where
  pl:ps.length<=4096
  tl:ts.length<=8192
  t0:0<ts.length
  sl:ss.length<=24576
  sz:∀k,CG (cor ps k)<=1000
  num:Bn ps.length ts=true
  pos:∀j,j<ts.length->(AO (cor ps (ts.getD j (0,0,0)).1) (cor ps (ts.getD j (0,0,0)).2.1) (cor ps (ts.getD j (0,0,0)).2.2)).num.sign=1
  sid:∀j,j<ss.length->(ss.getD j (0,0,0)).1<ps.length/\(ss.getD j (0,0,0)).2.1<ps.length/\(ss.getD j (0,0,0)).2.2<=255
  use:∀p,p<ps.length->∃j,j<ts.length/\B_ (ts.getD j (0,0,0)) p=true
  dst:ps.Nodup
  apart:∀i k,i<ts.length->k<i->(!DM (BW ps (ts.getD i (0,0,0))) (BW ps (ts.getD k (0,0,0)))&&!DM (BW ps (ts.getD k (0,0,0))) (BW ps (ts.getD i (0,0,0))))=false
  crn:∀i p,i<ts.length->p<ps.length->B_ (ts.getD i (0,0,0)) p=false->F3 ps (cor ps p) (ts.getD i (0,0,0))=0
  rl:ss.length=(Eu ts).length
  rim:∀j,j<ss.length->(ss.getD j (0,0,0)).1=((Eu ts).getD j (0,0,0)).1/\(ss.getD j (0,0,0)).2.1=((Eu ts).getD j (0,0,0)).2.1
theorem Ft.szM {ps:List Pt} {ts ss:List T3} (h:Ft ps ts ss) (k:Nat):CG (cor ps k)<=1000000:=Nat.le_trans (h.sz k) (by decide)
def LZ (x y:Pt):Int:=if Sw x y then -1 else if Sw y x then 1 else 0
theorem FJ {x y:Pt}:LZ x y<0↔Sw x y:=by
  unfold LZ
  split
  · exact ⟨λ_=>by assumption,λ_=>by decide⟩
  · rename_i h
    split<;>exact ⟨λk=>absurd k (by decide),λk=>absurd k h⟩
theorem Pk {ys:List Pt} (h:ys.Nodup) {k:Nat} (h1:1<=k) (hk:k<ys.length) (e:ys.getD k ⟨0,0⟩=ys.getD (k-1) ⟨0,0⟩):False:=by
  rw [List.getD,List.getD,List.getElem?_eq_getElem hk,List.getElem?_eq_getElem (show k-1<ys.length by omega)] at e
  have:=(List.getElem_inj h).1 e
  omega
def bL (us:List Bool):List Value:=us.map Value.bool
theorem L4 (us:List Bool):(bL us).length=us.length:=List.length_map _
theorem OQ (us:List Bool) (j:Nat) (v:Bool):(bL us).set j (.bool v)=bL (us.set j v):=by unfold bL;rw [List.map_set]
theorem WA {us:List Bool} {j:Nat} (h:j<us.length):(bL us)[j*1]?=some (.bool (us.getD j false)):=by simp [bL,h]
def JI (ts:List T3) (n i:Nat):List Bool:=(List.range n).map λp=>(ts.take i).any λt=>B_ t p
theorem GD (ts:List T3) (n i:Nat):(JI ts n i).length=n:=by simp [JI]
theorem QX (ts:List T3) (n:Nat):List.replicate n false=JI ts n 0:=by
  unfold JI
  rw [List.take_zero]
  apply List.ext_getElem?
  intro j
  rcases Nat.lt_or_ge j n with h|h
  · simp [h]
  · rw [List.getElem?_eq_none (by simpa using h),List.getElem?_eq_none (by simpa using h)]
theorem Qc {ts:List T3} {n i:Nat} (h:i<ts.length):(((JI ts n i).set (ts.getD i (0,0,0)).1 true).set (ts.getD i (0,0,0)).2.1 true).set (ts.getD i (0,0,0)).2.2 true=JI ts n (i+1):=by
  apply List.ext_getElem?
  intro j
  have e:ts.take (i+1)=ts.take i++[ts.getD i (0,0,0)]:=by rw [List.take_add_one,List.getD,List.getElem?_eq_getElem h];rfl
  generalize ts.getD i (0,0,0)=T at *
  unfold JI
  rw [e]
  simp only [List.getElem?_set,List.length_set,List.length_map,List.length_range,List.getElem?_map,List.any_append,List.any_cons,List.any_nil,Bool.or_false]
  rcases Nat.lt_or_ge j n with hj|hj
  · rw [List.getElem?_range hj]
    simp only [Option.map_some]
    unfold B_
    by_cases h1:T.1=j<;>by_cases h2:T.2.1=j<;>by_cases h3:T.2.2=j<;>simp [h1,h2,h3]<;>try omega
  · rw [List.getElem?_eq_none (by simpa using hj)]
    simp only [Option.map_none]
    by_cases h1:T.1=j<;>by_cases h2:T.2.1=j<;>by_cases h3:T.2.2=j<;>simp [h1,h2,h3]<;>omega
theorem TO {ts:List T3} {n p:Nat} (hp:p<n) (h:∃j,j<ts.length/\B_ (ts.getD j (0,0,0)) p=true):(JI ts n ts.length).getD p false=true:=by
  unfold JI
  rw [List.getD,List.getElem?_map,List.getElem?_range hp,Option.map_some,Option.getD_some,List.take_length,List.any_eq_true]
  obtain ⟨j,hj,h⟩:=h
  exact ⟨_,List.getElem_mem hj,by rwa [List.getD,List.getElem?_eq_getElem hj] at h⟩
section
variable {P:Program} {ops:Array Oper} {rest:List Oper} {Q:Exit->Act->World->Prop} {n d i z m c:Nat} {F:List (Nat×Value)} {w0:BK} {L L':List As} {t ty T:TypeId} {p:String} {af:Array Edge} {x y:Operand} {cs vs:List Value} {q:Option Addr} {v:Value}
theorem AE.makeBool {ki kj:IntKind} {bytes:Nat} (ht:Ra P t T (.bool false) bytes) (hx:evF F x=some (.int ki (m:Nat))) (hy:evF F y=some (.int kj (m:Nat))) (hm:m<=1099511627776) (hb:Nat.ble bytes 16=true) (hd:Nat.ble (d+1) n=true)
    (next:∀b,OwnOk (some ⟨b,0,none⟩) m m->AE P ops rest Q n ((d,.slice (some ⟨b,0,none⟩) m m)::F) w0 (rowW (some ⟨b,0,none⟩) T 1 m m (bL (List.replicate m false))::L)) :
    AE P ops (⟨some d,.makeSlice t x y,ty,p,af,none⟩::rest) Q n F w0 L:=AE.makeRow ht hx hy hm hb hd λb ho=>by
  have h:=next b ho
  unfold bL at h
  rw [List.map_replicate] at h
  exact h
end
section
variable {P:Program} {n:Nat} {F:List (Nat×Value)} {w0:BK} {L:List As} {x:Operand} {d:Option Tmp} {t:TypeId} {p:String} {af:Array Edge} {g:Option (Nat×Bool)}
theorem Lh {tx e:TypeId} {b off len k:Nat} (hx:evF F x=some (.pointer (some ⟨b,off,none⟩))) (hu:P.underlying tx=some (.array len e)) (hs:∀w,(sizeOf e).run P w=.ok k w) (h0:0<len) :
    Ex P n F w0 L ⟨d,.slice tx x none none none,t,p,af,g⟩ (.slice (some ⟨b,off,none⟩) len len):=λA w ha _=>by
  have e1:¬len=0:=by omega
  simp [execOp,ha.ev hx,Instr.sliceAt,run_underlying hu,Instr.sureAddr,Instr.sliceBounds,Instr.sliceBound,hs,e1,Addr.add_lit]
end
theorem VT {S:Nat->Prop} {w:World} {ts:List T3} {x:RX (rowsL Am ts) ts.length} (h:Ro S w x) {j:Nat} (hj:j<ts.length) (ok:BL (some ⟨pB x.p,pO x.p+j*3,none⟩) 3 3):Ro S w (⟨some ⟨pB x.p,pO x.p+j*3,none⟩,3,ok⟩:RX (Am (ts.getD j (0,0,0))) 3):=λy hy=>by
  rcases List.mem_singleton.1 hy with rfl
  obtain ⟨h1,h2⟩:=h (Ah x.p (rowsL Am ts)) (List.mem_singleton.2 rfl)
  obtain ⟨a,hp⟩:∃a,x.p=some a:=by
    cases hp:x.p with
    | none=>have:=(x.ok.nil hp).1;omega
    | some a=>exact ⟨a,rfl⟩
  have e:(some (⟨pB x.p,pO x.p+j*3,none⟩:Addr)).map (·.block)=x.p.map (·.block):=by rw [hp];rfl
  refine ⟨λb hb=>?_,λb hb=>h2 b (e.symm.trans hb)⟩
  obtain ⟨o,ho,cur,T,fr,rfl,hc⟩:=h1 b (e.symm.trans hb)
  refine ⟨_,ho,cur,T,fr,rfl,?_⟩
  have hl:=Ar BC (0,0,0) ts j hj
  have hz:=Ag BC ts
  show (cur.toList.drop (pO x.p+j*3)).take 3=_
  refine Eq.trans ?_ hl
  refine Eq.trans ?_ (congrArg (λl:List Value=>(l.drop (j*3)).take 3) hc)
  show _=(((cur.toList.drop (pO x.p)).take (rowsL Am ts).length).drop (j*3)).take 3
  rw [List.drop_take,List.take_take,List.drop_drop]
  congr 1
  omega
theorem V1 (b o:Nat):BL (some ⟨b,o,none⟩) 3 3:=⟨λe=>(by cases e),λa e=>(by injection e with e;subst e;rfl),Nat.le_refl _⟩
end
end Go.Proofs.YtfbomiejpbchdaaGreatDoor
