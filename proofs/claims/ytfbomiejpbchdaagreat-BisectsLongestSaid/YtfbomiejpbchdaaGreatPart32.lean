import Derived.Test.YtfbomiejpbchdaaGreatPart07
import Derived.Test.YtfbomiejpbchdaaGreatPart22
import Derived.Test.YtfbomiejpbchdaaGreatPart24
import Derived.Test.YtfbomiejpbchdaaGreatPart28
import Derived.Test.YtfbomiejpbchdaaGreatPart30
import Derived.Test.YtfbomiejpbchdaaGreatPart31
namespace Go.Proofs.YtfbomiejpbchdaaGreat
open Go Go.RowKit Go.Proofs.Tryz
set_option linter.unusedVariables false
set_option linter.unusedSimpArgs false
abbrev T2:=P2×P2×P2
def Y7 (A B:P2) (X Y:Nat):Int:=((B.1:Int)-A.1)*((Y:Int)-2*A.2)-((B.2:Int)-A.2)*((X:Int)-2*A.1)
def Y6 (t:T2) (X Y:Nat):Bool:=decide (0<=Y7 t.2.1 t.2.2 X Y)&&decide (0<=Y7 t.2.2 t.1 X Y)&&decide (0<=Y7 t.1 t.2.1 X Y)
def Kw (t:T2) (q:P2):Bool:=t.1 == q||t.2.1 == q||t.2.2 == q
def RL (u v c:Nat):List T2 :=
  let x:=2*u;let y:=2*v
  if c=0 then [((x,y),(x+2,y),(x+2,y+2)),((x,y),(x+2,y+2),(x,y+2))]
  else if c=1 then [((x,y),(x+2,y),(x,y+2)),((x+2,y),(x+2,y+2),(x,y+2))]
  else if c=2 then [((x,y),(x+2,y),(x+1,y+1)),((x+2,y),(x+2,y+2),(x+1,y+1)),((x+2,y+2),(x,y+2),(x+1,y+1)),((x,y+2),(x,y),(x+1,y+1))] else []
def Vo (way i:Nat):Nat:=if way<3\/(way=7/\i=0) then 0 else if way<5 then 1 else if way<7 then 2 else 3
theorem L6 (nx way i:Nat):Cn nx way i=RL (i%nx) (i/nx) (Vo way i):=by
  unfold Cn RL Vo
  simp only
  split
  · rfl
  · split
    · rfl
    · split<;>rfl
theorem Jf (way i:Nat):Vo way i<4:=by
  unfold Vo
  split
  · omega
  · split
    · omega
    · split<;>omega
def NJ (s t:T2):Bool :=
  [s.1,s.2.1,s.2.2].all (λq=>!Y6 t (2*q.1) (2*q.2)||Kw t q) &&
  [(s.1,s.2.1),(s.2.1,s.2.2),(s.2.2,s.1)].all (λe=>!Y6 t (e.1.1+e.2.1) (e.1.2+e.2.2)||(Kw t e.1&&Kw t e.2))
def Gg:List (Nat×Nat×Nat):=[0,1,2].flatMap λu=>[0,1,2].flatMap λv=>[0,1,2,3].map λc=>(u,v,c)
def ZU:Bool:=Gg.all λp=>Gg.all λq=>(decide (p.1=q.1/\p.2.1=q.2.1/\p.2.2≠q.2.2))||(RL p.1 p.2.1 p.2.2).all λs=>(RL q.1 q.2.1 q.2.2).all λt=>NJ s t
theorem Pd:ZU=true:=by decide +kernel
theorem Ek {u v c:Nat} (hu:u<=2) (hv:v<=2) (hc:c<4):(u,v,c)∈Gg:=by
  have h1:u=0\/u=1\/u=2:=by omega
  have h2:v=0\/v=1\/v=2:=by omega
  have h3:c=0\/c=1\/c=2\/c=3:=by omega
  rcases h1 with rfl|rfl|rfl<;>rcases h2 with rfl|rfl|rfl<;>rcases h3 with rfl|rfl|rfl|rfl<;>decide
theorem QK {m:MQ} {s t:T2} (hs:s∈BD m) (ht:t∈BD m):NJ s t=true:=by
  obtain ⟨i,hi,h1⟩:=EH m _ s hs
  obtain ⟨j,hj,h2⟩:=EH m _ t ht
  have hx:=IX m
  have hy:=Ig m
  have b:∀k,k<Fq m*R_ m->k%Fq m<=2/\k/Fq m<=2:=λk hk=>by
    have a1:=Nat.mod_lt k (show 0<Fq m by omega)
    have a2:k/Fq m<R_ m:=Nat.div_lt_of_lt_mul hk
    omega
  rw [L6] at h1 h2
  have h:=List.all_eq_true.1 (List.all_eq_true.1 Pd _ (Ek (b i hi).1 (b i hi).2 (Jf (GK m i) i))) _ (Ek (b j hj).1 (b j hj).2 (Jf (GK m j) j))
  rw [Bool.or_eq_true,decide_eq_true_eq] at h
  rcases h with ⟨e1,e2,e3⟩|h
  · exfalso
    have e:i=j:=by rw [<-Nat.div_add_mod i (Fq m),<-Nat.div_add_mod j (Fq m),show i%Fq m=j%Fq m from e1,show i/Fq m=j/Fq m from e2]
    subst e
    exact e3 O
  · exact List.all_eq_true.1 (List.all_eq_true.1 h s h1) t h2
theorem S1 (A B:P2) (X Y:Nat):Jb A B ((X:Rat)*(1/2)) ((Y:Rat)*(1/2))=((Y7 A B X Y:Int):Rat)*(1/2):=by
  simp only [Jb,Y7,Rat.intCast_sub,Rat.intCast_mul,Rat.intCast_natCast,show ((2:Int):Rat)=2 from rfl]
  grind
theorem TW {t:T2} {X Y:Nat} (h:inC t ((X:Rat)*(1/2)) ((Y:Rat)*(1/2))):Y6 t X Y=true:=by
  obtain ⟨h1,h2,h3⟩:=h
  rw [S1] at h1 h2 h3
  have c:∀z:Int,0<=(z:Rat)*(1/2)->0<=z:=λz hz=>by
    have:(0:Rat)<=(z:Rat):=by grind
    exact_mod_cast this
  simp only [Y6,Bool.and_eq_true,decide_eq_true_eq]
  exact ⟨⟨c _ h1,c _ h2⟩,c _ h3⟩
theorem NV {t:T2} {q:P2} (h:Kw t q=true):∃r,r<3/\Cw t r=q:=by
  simp only [Kw,Bool.or_eq_true,beq_iff_eq] at h
  rcases h with (h|h)|h
  · exact ⟨0,Z,h⟩
  · exact ⟨1,Z,h⟩
  · exact ⟨2,Z,h⟩
theorem UY (t:T2) {r:Nat} (h:r<3):Cw t r∈[t.1,t.2.1,t.2.2]:=by
  have:r=0\/r=1\/r=2:=by omega
  rcases this with rfl|rfl|rfl<;>simp [Cw]
theorem N0 {m:MQ} {s t:T2} (hs:s∈BD m) (ht:t∈BD m) {r:Nat} (hr:r<3) (h:inC t ((Cw s r).1:Rat) ((Cw s r).2:Rat)):∃k,k<3/\Cw t k=Cw s r:=by
  have hp:=QK hs ht
  unfold NJ at hp
  rw [Bool.and_eq_true] at hp
  have h1:=List.all_eq_true.1 hp.1 _ (UY s hr)
  have h2:Y6 t (2*(Cw s r).1) (2*(Cw s r).2)=true:=TW (by
    rw [GS,GS,show 2*((Cw s r).1:Rat)*(1/2)=((Cw s r).1:Rat) by grind,show 2*((Cw s r).2:Rat)*(1/2)=((Cw s r).2:Rat) by grind]
    exact h)
  rw [h2] at h1
  exact NV (by simpa using h1)
theorem Tz {m:MQ} {s t:T2} (hs:s∈BD m) (ht:t∈BD m) {r:Nat} (hr:r<3) (h:inC t ((((Cw s r).1+(Cw s ((r+1)%3)).1:Nat):Rat)*(1/2)) ((((Cw s r).2+(Cw s ((r+1)%3)).2:Nat):Rat)*(1/2))) :
    (∃k,k<3/\Cw t k=Cw s r)/\∃k,k<3/\Cw t k=Cw s ((r+1)%3):=by
  have hp:=QK hs ht
  unfold NJ at hp
  rw [Bool.and_eq_true] at hp
  have hm:(Cw s r,Cw s ((r+1)%3))∈[(s.1,s.2.1),(s.2.1,s.2.2),(s.2.2,s.1)]:=by
    have:r=0\/r=1\/r=2:=by omega
    rcases this with rfl|rfl|rfl<;>simp [Cw]
  have h1:=List.all_eq_true.1 hp.2 _ hm
  rw [TW h] at h1
  have h2:Kw t (Cw s r)=true/\Kw t (Cw s ((r+1)%3))=true:=by simpa using h1
  exact ⟨NV h2.1,NV h2.2⟩
section
theorem Ta (a b:T3):(((a.1:Int) == (b.1:Int))&&(((a.2.1:Int) == (b.2.1:Int))&&(((a.2.2:Int) == (b.2.2:Int))&&true)))=decide (a=b):=by
  obtain ⟨a1,a2,a3⟩:=a
  obtain ⟨b1,b2,b3⟩:=b
  rw [Bool.eq_iff_iff]
  simp
  constructor<;>(rintro ⟨h1,h2,h3⟩;refine ⟨?_,?_,?_⟩<;>omega)
theorem Mb (D:Nat) (a b:T3):Ej prog (D+2) 76 (.agg (Af a).toArray) (.agg (Af b).toArray) (decide (a=b)):=by
  rw [<-Ta]
  exact Ej.array underlying76 OP Li (OZ.one isAgg3 O O (Ej.int underlying3) (OZ.one isAgg3 O O (Ej.int underlying3) (OZ.one isAgg3 O O (Ej.int underlying3) OZ.nil)))
theorem Tf (D:Nat) (a b:T3):Ej prog (D+2) 44 (.agg (Af a).toArray) (.agg (Af b).toArray) (decide (a=b)):=by
  rw [<-Ta]
  exact Ej.struct underlying44 Tryz.stoodInHeld44 (Ia.one (by decide) isAgg3 O O (Ej.int underlying3) (Ia.one (by decide) isAgg3 O O (Ej.int underlying3) (Ia.one (by decide) isAgg3 O O (Ej.int underlying3) Ia.nil)))
theorem DE (D:Nat) {a b:T3} (h:a=b):Ej prog (D+2) 76 (.agg (Af a).toArray) (.agg (Af b).toArray) true:=by
  have:=Mb D a b;rwa [decide_eq_true h] at this
theorem Pm (D:Nat) {a b:T3} (h:a=b):Ej prog (D+2) 44 (.agg (Af a).toArray) (.agg (Af b).toArray) true:=by
  have:=Tf D a b;rwa [decide_eq_true h] at this
theorem MJ (b n:Nat):BI (some ⟨b,0,none⟩) n n:=⟨λe=>(by cases e),λa e=>(by injection e with e;subst e;rfl),Nat.le_refl _⟩
theorem UB {ps:List Pt} {k:Nat} (h:(ps.all λp=>decide (B5 p<=k))=true) (h0:B5 (⟨0,0⟩:Pt)<=k) (i:Nat):B5 (cor ps i)<=k:=by
  unfold cor
  rcases Nat.lt_or_ge i ps.length with hi|hi
  · rw [List.getD,List.getElem?_eq_getElem hi]
    exact of_decide_eq_true (List.all_eq_true.1 h _ (List.getElem_mem hi))
  · rw [List.getD,List.getElem?_eq_none hi];exact h0
theorem TR {T:T3} {r:Nat} (h:r<3):(Af T)[r]?=some (vN (Bi T r)):=by
  have e:r=0\/r=1\/r=2:=by omega
  rcases e with rfl|rfl|rfl<;>rfl
theorem On {T:T3} {r:Nat} (h:r<3):(Af T)[0+r*1]?=some (vN (Bi T r)):=by rw [Nat.zero_add,Nat.mul_one];exact TR h
theorem Qu {ts:List T3} {f:Nat->Nat} {k i:Nat} {T:T3} (hk:k<ts.length) (hT:T=(DH ts f k).getD k (0,0,0)) (hi:i=f k) (h3:i<3):(DH ts f k).set k (Bi T i,Bi T ((i+1)%3),Bi T ((i+2)%3))=DH ts f (k+1):=by
  rw [E_ f k k Z hk,if_neg (Nat.lt_irrefl _)] at hT
  show _=(DH ts f k).set k (Dq (ts.getD k (0,0,0)) (f k))
  rw [<-hT,<-hi]
  unfold Dq
  rw [Nat.mod_eq_of_lt h3]
theorem At.mx {w0:BM} {S:Nat->Prop} {ps:List Pt} {ts ss:List T3} {x:MX ps ts ss} (h1:At w0 S x.a) (h2:At w0 S x.b) (h3:At w0 S x.c):At w0 S x:=λy hy b e=>by
  have hy:y∈[x.a.row,x.b.row,x.c.row]:=hy
  simp only [List.mem_cons,List.not_mem_nil,or_false] at hy
  rcases hy with rfl|rfl|rfl
  · exact h1 _ List.mem_cons_self b e
  · exact h2 _ List.mem_cons_self b e
  · exact h3 _ List.mem_cons_self b e
section
variable {P:Program} {ops:Array Oper} {rest:List Oper} {Q:Exit->Act->World->Prop} {n:Nat} {F:List (Nat×Value)} {w0:BM} {S:Nat->Prop} {L:List As} {ps:List Pt} {ts ss:List T3}
theorem TN {w:World} {i b:Nat} {T:TypeId} {cs:List Value} (hw:Own w0 w L) (hi:L[i]?=some (Ag b T cs)) (hex:w0.ex=none):w0.w.heap.size<=b:=by
  rcases (hw.2.1 _ (List.mem_of_getElem? hi) b rfl).1 with h1|h1|h1
  · cases h1
  · exact h1
  · rw [hex] at h1;cases h1
theorem AE.litM2 {b1 b2 U1 U2:Nat} {cs1 cs2:List Value} (LL:MX ps ts []->List As) (i j:Nat) (hn:i≠j) (h1:L[i]?=some (Ag b1 U1 cs1)) (h2:L[j]?=some (Ag b2 U2 cs2)) (hex:w0.ex=none)
    (e:(cs1,cs2)=(rowsL Am ps,rowsL Af ts))
    (hL:AY none (rowsL Af [])::(L.set i (AY (some ⟨b1,0,none⟩) cs1)).set j (AY (some ⟨b2,0,none⟩) cs2)=LL ⟨⟨some ⟨b1,0,none⟩,ps.length,MJ _ _⟩,⟨some ⟨b2,0,none⟩,ts.length,MJ _ _⟩,⟨none,0,OwnOk.none.row⟩⟩)
    (next:∀mm:MX ps ts [],At w0 S mm->AE P ops rest Q n F w0 (LL mm)):AE P ops rest Q n F w0 L:=λa w ha hw=>by
  have n1:=TN hw h1 hex
  have n2:=TN hw h2 hex
  have w1:=hw.freeze (x:=Ag b1 U1 cs1) (y:=AY (some ⟨b1,0,none⟩) cs1) h1 rfl (λo hp=>HE hp) (λe=>by cases e)
  have w2:=w1.freeze (i:=j) (x:=Ag b2 U2 cs2) (y:=AY (some ⟨b2,0,none⟩) cs2) (by rw [List.getElem?_set_ne hn];exact h2) rfl (λo hp=>HE hp) (λe=>by cases e)
  have w3:=w2.addRo (a:=AY none (rowsL Af [])) (FE.refl _ _) rfl (λb e=>by cases e) (λb e=>by cases e)
  rw [hL] at w3
  refine next _ (λy hy b eb=>?_) a w ha w3
  have hy:y∈[AY (some ⟨b1,0,none⟩) (rowsL Am ps),AY (some ⟨b2,0,none⟩) (rowsL Af ts),AY none (rowsL Af [])]:=hy
  simp only [List.mem_cons,List.not_mem_nil,or_false] at hy
  rcases hy with rfl|rfl|rfl
  · injection eb with eb;subst eb;exact .inl (by assumption)
  · injection eb with eb;subst eb;exact .inl (by assumption)
  · cases eb
end
theorem Zr {α:Type} [EI α] {w0:BM} {w:World} {S:Nat->Prop} {L:List As} (hw:Own w0 w L) (is:List Nat) {a:α} (hi:(is.map λi=>L[i]?)=(EI.rows a).map some) (ha:At w0 S a):Ro (SL w0 S L) w a:=λy hy=>by
  have h1:some y∈(is.map λi=>L[i]?):=by rw [hi];exact List.mem_map.2 ⟨y,hy,rfl⟩
  obtain ⟨i,_,h2⟩:=List.mem_map.1 h1
  have hm:=List.mem_of_getElem? h2
  exact ⟨λb e=>(hw.2.1 y hm b e).2,λb e=>⟨⟨y,hm,EI.ro a y hy,e⟩,ha y hy b e⟩⟩
end
section
abbrev M3:=List Pt×List T3×List T3
def Zm (M:M3):Prop:=M.1.length+(Br M.2.1).length<=4096/\4*M.2.1.length<=8192
instance (M:M3):Decidable (Zm M):=inferInstanceAs (Decidable (_/\_))
theorem Tc (ts:List T3):(Br ts).length<=3*ts.length:=by rw [H2];exact H7 _
structure aV (ps:List Pt) (ts ss:List T3) (e:Nat) where
  m:MX ps ts ss
instance {ps:List Pt} {ts ss:List T3} {e:Nat}:EI (aV ps ts ss e):=⟨λx=>.tuple #[aG (Bk x.m),vN e],λx=>EI.rows x.m,λx y hy=>EI.ro x.m y hy⟩
section
variable {P:Program} {ops:Array Oper} {rest:List Oper} {Q:Exit->Act->World->Prop} {n d:Nat} {F:List (Nat×Value)} {w0:BM} {S:Nat->Prop} {L:List As} {t:TypeId} {p:String} {af:Array Edge} {y:Operand} {f:FuncId} {xs:List Operand} {args:List Value} {tys:Array TypeId} {ps:List Pt} {ts ss:List T3} {e:Nat}
end
def Zs (ts:List T3):List Value:=vI (-1)::vN 0::vN 1::rowsL Af ts
structure MB (ps:List Pt) (ts ss:List T3) where
  a:RX (rowsL Am ps) ps.length
  b:RX (Zs ts) (1+ts.length)
  c:RX (rowsL Af ss) ss.length
def aQ {ps:List Pt} {ts ss:List T3} (x:MB ps ts ss):List Value:=[x.a.val,x.b.val,x.c.val]
theorem ZW {ps:List Pt} {ts ss:List T3} {x:MB ps ts ss} {y:As} (hy:y∈[x.a.row,x.b.row,x.c.row]):y.ro=true:=by
  simp only [List.mem_cons,List.not_mem_nil,or_false] at hy
  rcases hy with rfl|rfl|rfl<;>rfl
instance {ps:List Pt} {ts ss:List T3}:EI (MB ps ts ss):=⟨λx=>aG (aQ x),λx=>[x.a.row,x.b.row,x.c.row],λx y hy=>ZW hy⟩
end
section
def zL (l:List Int):List Value:=l.map λ(d:Int)=>.int .i64 d
theorem TF {l:List Int} {j:Nat} (h:j<l.length):(zL l)[j*1]?=some (.int .i64 (l.getD j 0)):=by simp [zL,h]
def M7 {α β:Type} (b:Nat) (enc:α->Value) (eV:β->Value) (kvs:List (α×β)):As:=⟨some b,λo=>o=.map (entsM enc eV kvs 0).toArray kvs.length,true⟩
section
variable {α β:Type} [DecidableEq α] {enc:α->Value} {eV:β->Value} {ok:α->Prop} {P:Program} {kt:TypeId} {n:Nat} {F:List (Nat×Value)} {w0:BM} {L:List As} {d:Option Tmp} {tx et t b:Nat} {pp:String} {af:Array Edge} {g:Option (Nat×Bool)} {mp kp:Operand}
theorem Ph (K:Kg P kt enc ok) (i:Nat) {kvs:List (α×β)} {x:α} {z0:β} {co:Bool} (hx:evF F mp=some (.map (some b))) (hk:evF F kp=some (enc x)) (ht:P.underlying tx=some (.map kt et)) (hz:∀w,(zeroValue et).run P w=.ok (eV z0) w) (hi:L[i]?=some (M7 b enc eV kvs)) (hm:HT ok kvs) (hok:ok x) :
    Ex P n F w0 L ⟨d,.lookup tx mp kp co,t,pp,af,g⟩ (if co then .tuple #[eV ((Ao kvs x).getD z0),.bool (Ao kvs x).isSome] else eV ((Ao kvs x).getD z0)):=λA w ha hw=>by
  obtain ⟨_,o,ho,hp⟩:=hw.2.1 _ (List.mem_of_getElem? hi) b rfl
  have ho:w.heap[b]?=some (.map (entsM enc eV kvs 0).toArray kvs.length):=by rw [ho,hp]
  obtain ⟨lx,hlx⟩:=K.key x hok
  have hc:=λem=>K.law.check w em hlx
  rcases Fb (eV:=eV) K hm hok w with ⟨h1,_,h2⟩|⟨j,v,_,h1,h2⟩
  · simp only [execOp,ha.ev hx,ha.ev hk,Instr.lookup,Sem.run_bind,run_underlying ht,CF ho,Result.andThen_ok,Sem.run_pure,hc,List.toList_toArray,h2,hz,h1,Option.getD_none,Option.isSome_none]
  · simp only [execOp,ha.ev hx,ha.ev hk,Instr.lookup,Sem.run_bind,run_underlying ht,CF ho,Result.andThen_ok,Sem.run_pure,hc,List.toList_toArray,h2,h1,Option.getD_some,Option.isSome_some]
end
def B7 (t:T3):P2:=B_ t.2.1 t.2.2
def OF (ts:List T3) (ms:List Int) (k:P2):Prop:=∃z∈ms,0<=z/\z<(ts.length:Int)/\k=B7 (ts.getD z.toNat (0,0,0))
inductive JE (ts:List T3) (S:P2->Prop):P2->Prop
  | start {k:P2}:S k->JE ts S k
  | up {t:T3} {k:P2}:t∈ts->JE ts S k->(k=B_ t.1 t.2.1\/k=B_ t.2.2 t.1)->JE ts S (B7 t)
theorem JE.mono {ts:List T3} {S S':P2->Prop} (h:∀k,S k->S' k) {k:P2} (c:JE ts S k):JE ts S' k:=by
  induction c with
  | start hs=>exact .start (h _ hs)
  | up ht _ he ih=>exact .up ht ih he
theorem JE.or {ts:List T3} {S S':P2->Prop} {k:P2} (c:JE ts (λk=>S k\/S' k) k):JE ts S k\/JE ts S' k:=by
  induction c with
  | start hs=>exact hs.elim (λh=>.inl (.start h)) (λh=>.inr (.start h))
  | up ht _ he ih=>exact ih.elim (λh=>.inl (.up ht h he)) (λh=>.inr (.up ht h he))
structure FU (ts:List T3) (ms:List Int) (i:Nat) (kvs:List (P2×Nat)):Prop where
  ok:HT JJ kvs
  one:∀k,Ao kvs k=none\/Ao kvs k=some 1
  sub:∀k,Ao kvs k=some 1->JE ts (OF ts ms) k
  mrk:∀k,OF ts (ms.take i) k->Ao kvs k=some 1
section
variable {ts:List T3} {ms:List Int} {i:Nat} {kvs:List (P2×Nat)}
theorem FU.zero (ts:List T3) (ms:List Int):FU ts ms 0 []:=⟨⟨λp hp=>(by cases hp),List.Pairwise.nil⟩,λk=>.inl rfl,λk h=>(by cases h),λk ⟨z,hz,_⟩=>by rw [List.take_zero] at hz;cases hz⟩
theorem FU.put (h:FU ts ms i kvs) {k:P2} (hk:JJ k) (hc:JE ts (OF ts ms) k):FU ts ms i (BT kvs k 1):=⟨h.ok.put hk,λx=>by
    rw [CV];split
    · exact .inr O
    · exact h.one x,λx hx=>by
    rw [CV] at hx;split at hx
    · rename_i e;rw [e];exact hc
    · exact h.sub x hx,λx hx=>by
    rw [CV];split
    · rfl
    · exact h.mrk x hx⟩
theorem Ks {l:List Int} {j:Nat} (h:j<l.length):l.take (j+1)=l.take j++[l.getD j 0]:=by
  rw [List.take_add_one,List.getD,List.getElem?_eq_getElem h];rfl
theorem Xb (hi:i<ms.length) (h0:0<=ms.getD i 0) (h1:ms.getD i 0<(ts.length:Int)):OF ts ms (B7 (ts.getD (ms.getD i 0).toNat (0,0,0))) :=
  ⟨ms.getD i 0,by rw [List.getD,List.getElem?_eq_getElem hi];exact List.getElem_mem hi,h0,h1,rfl⟩
theorem FU.mark (h:FU ts ms i kvs) (hi:i<ms.length) (h0:0<=ms.getD i 0) (h1:ms.getD i 0<(ts.length:Int)) (hk:JJ (B7 (ts.getD (ms.getD i 0).toNat (0,0,0)))):FU ts ms (i+1) (BT kvs (B7 (ts.getD (ms.getD i 0).toNat (0,0,0))) 1):=by
  have h2:=h.put hk (.start (Xb hi h0 h1))
  refine ⟨h2.ok,h2.one,h2.sub,λx hx=>?_⟩
  rw [Ks hi] at hx
  obtain ⟨z,hz,a,b,rfl⟩:=hx
  rcases List.mem_append.1 hz with hz|hz
  · exact h2.mrk _ ⟨z,hz,a,b,rfl⟩
  · rw [List.mem_singleton.1 hz,CV,if_pos rfl]
theorem FU.skip (h:FU ts ms i kvs) (hi:i<ms.length) (hn:¬(0<=ms.getD i 0/\ms.getD i 0<(ts.length:Int))):FU ts ms (i+1) kvs:=by
  refine ⟨h.ok,h.one,h.sub,λx hx=>?_⟩
  rw [Ks hi] at hx
  obtain ⟨z,hz,a,b,rfl⟩:=hx
  rcases List.mem_append.1 hz with hz|hz
  · exact h.mrk _ ⟨z,hz,a,b,rfl⟩
  · exact absurd (by rw [<-List.mem_singleton.1 hz];exact ⟨a,b⟩) hn
def Rh (ts:List T3) (kvs:List (P2×Nat)):Nat:=(ts.filter λt=>(Ao kvs (B7 t)).isNone).length
theorem YC {t:T3} (ht:t∈ts) (hn:Ao kvs (B7 t)=none):Rh ts (BT kvs (B7 t) 1)<Rh ts kvs:=by
  unfold Rh
  induction ts with
  | nil=>cases ht
  | cons x r ih =>
    have le:(r.filter λu=>(Ao (BT kvs (B7 t) 1) (B7 u)).isNone).length<=(r.filter λu=>(Ao kvs (B7 u)).isNone).length:=by
      clear ih ht
      induction r with
      | nil=>exact Nat.le_refl _
      | cons y r ih =>
        rw [List.filter_cons,List.filter_cons,CV]
        by_cases e:B7 y=B7 t
        · rw [if_pos e,e,hn];simp only [Option.isNone_some,Option.isNone_none,if_true,List.length_cons];simp only [Bool.false_eq_true,if_false];omega
        · rw [if_neg e];split
          · simp only [List.length_cons];omega
          · exact ih
    rw [List.filter_cons,List.filter_cons,CV]
    rcases List.mem_cons.1 ht with e|ht
    · subst e
      rw [if_pos rfl,hn]
      simp only [Option.isNone_some,Option.isNone_none,if_true,List.length_cons,Bool.false_eq_true,if_false]
      omega
    · by_cases e:B7 x=B7 t
      · rw [if_pos e,e,hn]
        simp only [Option.isNone_some,Option.isNone_none,if_true,List.length_cons,Bool.false_eq_true,if_false]
        omega
      · rw [if_neg e];split
        · simp only [List.length_cons];have:=ih ht;omega
        · exact ih ht
def SN (ts:List T3) (kvs:List (P2×Nat)) (j:Nat):Prop:=∀q,q<j->Ao kvs (B7 (ts.getD q (0,0,0)))=none->Ao kvs (B_ (ts.getD q (0,0,0)).1 (ts.getD q (0,0,0)).2.1)=none/\Ao kvs (B_ (ts.getD q (0,0,0)).2.2 (ts.getD q (0,0,0)).1)=none
theorem FU.no (h:FU ts ms i kvs) {k:P2} (e:(Ao kvs k).getD 0=0):Ao kvs k=none:=(h.one k).elim id λh1=>by rw [h1] at e;cases e
theorem FU.is1 (h:FU ts ms i kvs) {k:P2} (e:0<(Ao kvs k).getD 0):Ao kvs k=some 1:=(h.one k).elim (λh1=>by rw [h1] at e;cases e) id
theorem MI {j:Nat} (h:SN ts kvs j) (hs:Ao kvs (B7 (ts.getD j (0,0,0)))=none->Ao kvs (B_ (ts.getD j (0,0,0)).1 (ts.getD j (0,0,0)).2.1)=none/\Ao kvs (B_ (ts.getD j (0,0,0)).2.2 (ts.getD j (0,0,0)).1)=none):SN ts kvs (j+1):=λq hq hn=>by
  rcases Nat.lt_or_ge q j with h1|h1
  · exact h q h1 hn
  · have e:q=j:=by omega
    subst e;exact hs hn
theorem FU.all (h:FU ts ms ms.length kvs) (hc:SN ts kvs ts.length) (k:P2):Ao kvs k=some 1↔JE ts (OF ts ms) k:=by
  refine ⟨h.sub k,λc=>?_⟩
  induction c with
  | start hs=>exact h.mrk _ (by rw [List.take_length];exact hs)
  | up ht _ he ih =>
    rename_i t k' _
    obtain ⟨q,hq,rfl⟩:=List.getElem_of_mem ht
    rcases h.one (B7 ts[q]) with h1|h1
    · have h2:=hc q hq (by rw [List.getD,List.getElem?_eq_getElem hq];exact h1)
      rw [List.getD,List.getElem?_eq_getElem hq] at h2
      rcases he with e|e
      · rw [e] at ih;rw [show Ao kvs (B_ ts[q].1 ts[q].2.1)=none from h2.1] at ih;cases ih
      · rw [e] at ih;rw [show Ao kvs (B_ ts[q].2.2 ts[q].1)=none from h2.2] at ih;cases ih
    · exact h1
end
structure HC (ts:List T3) (ms:List Int) where
  b:Nat
  kvs:List (P2×Nat)
  ok:HT JJ kvs
  one:∀k,Ao kvs k=none\/Ao kvs k=some 1
  all:∀k,Ao kvs k=some 1↔JE ts (OF ts ms) k
instance {ts:List T3} {ms:List Int}:EI (HC ts ms):=⟨λx=>.map (some x.b),λx=>[M7 x.b Dr vN x.kvs],λx y hy=>by rcases List.mem_singleton.1 hy with rfl;rfl⟩
theorem ZB {S:Nat->Prop} {W w:World} {L:List As} {ts:List T3} {ms:List Int} (hw:Own ⟨W,none⟩ w L) (i:Nat) {b:Nat} {kvs:List (P2×Nat)} (hi:L[i]?=some (CE b Dr vN kvs)) (h:FU ts ms ms.length kvs) (hc:SN ts kvs ts.length) {v:Value} (hv:v=.map (some b)):BV (HC ts ms) S W (.returned v) w:=by
  refine ⟨⟨b,kvs,h.ok,h.one,h.all hc⟩,by rw [hv];rfl,hw.out,λy hy=>?_⟩
  rcases List.mem_singleton.1 hy with rfl
  have h1:=hw.2.1 _ (List.mem_of_getElem? hi) b rfl
  refine ⟨λc e=>?_,λc e=>?_⟩
  · injection e with e;subst e;exact h1.2
  · injection e with e;subst e
    rcases h1.1 with h2|h2|h2
    · cases h2
    · exact .inl h2
    · cases h2
def J8 (ts:List T3) (kvs:List (P2×Nat)) (i:Nat):List E4:=((Br ts).take i).filter λe=>decide (Ao kvs (e.a,e.b)=some 1)
theorem UF {ts:List T3} {kvs:List (P2×Nat)} {i:Nat} (hi:i<(Br ts).length) (h:Ao kvs (((Br ts).getD i E0).a,((Br ts).getD i E0).b)=some 1):J8 ts kvs (i+1)=J8 ts kvs i++[(Br ts).getD i E0]:=by
  rw [List.getD,List.getElem?_eq_getElem hi] at h ⊢
  unfold J8
  rw [List.take_add_one,List.getElem?_eq_getElem hi,List.filter_append]
  simp only [Option.toList_some,Option.getD_some] at h ⊢
  rw [List.filter_cons,if_pos (decide_eq_true h)];rfl
theorem W3 {ts:List T3} {kvs:List (P2×Nat)} {i:Nat} (hi:i<(Br ts).length) (h:¬Ao kvs (((Br ts).getD i E0).a,((Br ts).getD i E0).b)=some 1):J8 ts kvs (i+1)=J8 ts kvs i:=by
  rw [List.getD,List.getElem?_eq_getElem hi] at h
  unfold J8
  rw [List.take_add_one,List.getElem?_eq_getElem hi,List.filter_append]
  simp only [Option.toList_some,Option.getD_some] at h ⊢
  rw [List.filter_cons,if_neg (by simpa using h)];simp
theorem UI {ts:List T3} {kvs:List (P2×Nat)} (i:Nat):(J8 ts kvs i).length<=i:=Nat.le_trans (List.length_filter_le _ _) (List.length_take_le _ _)
structure DX (ts:List T3) (ms:List Int) where
  l:List E4
  r:RX (rowsL B6 l) l.length
  p:E4->Bool
  el:l=(Br ts).filter p
  all:∀e,p e=true↔JE ts (OF ts ms) (e.a,e.b)
instance {ts:List T3} {ms:List Int}:EI (DX ts ms):=⟨λx=>x.r.val,λx=>[x.r.row],λx y hy=>by rcases List.mem_singleton.1 hy with rfl;rfl⟩
theorem Yk {S:Nat->Prop} {W w:World} {L:List As} {ts:List T3} {ms:List Int} (h:HC ts ms) (hw:Own ⟨W,none⟩ w L) (i:Nat) {q:Option Addr} {T n c:Nat} (hi:L[i]?=some (rowW q T 4 n c (rowsL B6 (J8 ts h.kvs (Br ts).length)))) (ho:OwnOk q n c) (hn:n=(J8 ts h.kvs (Br ts).length).length) {v:Value} (hv:v=.slice q n n):BV (DX ts ms) S W (.returned v) w:=by
  subst hn
  obtain ⟨a,h1,h2,h3⟩:=ZM (S:=S) hw i hi ho (Aa Ck _) hv
  exact ⟨⟨_,a,λe=>decide (Ao h.kvs (e.a,e.b)=some 1),by unfold J8;rw [List.take_length],λe=>⟨λk=>(h.all _).1 (of_decide_eq_true k),λk=>decide_eq_true ((h.all _).2 k)⟩⟩,h1,h2,h3⟩
theorem HC.gt {ts:List T3} {ms:List Int} (h:HC ts ms) {k:P2}:0<(Ao h.kvs k).getD 0↔Ao h.kvs k=some 1:=by
  rcases h.one k with h1|h1<;>rw [h1]<;>simp
end
section
def Mi (ts:List T3):Nat->List (P2×Nat)
  | 0=>[]
  | s+1=>BT (Mi ts s) (Bz ts s) (s/3)
def Hf (ts:List T3):Nat->Bool
  | 0=>true
  | s+1=>Hf ts s&&(Ao (Mi ts s) (Bz ts s)).isNone
section
variable {ts:List T3} {N t r s:Nat}
theorem QM:∀n,s<=n->Hf ts n=true->Hf ts s=true
  | 0,h,k=>by rw [show s=0 by omega];rfl
  | n+1,h,k=>by
    have k:(Hf ts n&&_)=true:=k
    rcases Nat.lt_or_ge s (n+1) with h1|h1
    · exact QM n Z (Bool.and_eq_true _ _▸k).1
    · rw [show s=n+1 by omega];exact k
end
structure SX (ts:List T3) (o:Bool) where
  b:Nat
  kvs:List (P2×Nat)
  ok:HT JJ kvs
  fin:o=true->kvs=Mi ts (3*ts.length)
instance {ts:List T3} {o:Bool}:EI (SX ts o):=⟨λx=>.tuple #[.map (some x.b),.bool o],λx=>[M7 x.b Dr vN x.kvs],λx y hy=>by rcases List.mem_singleton.1 hy with rfl;rfl⟩
end
section
section
variable {P:Program} {Q:Exit->Act->World->Prop} {n:Nat} {F:List (Nat×Value)} {w0:BM} {L:List As} {c x y:Code}
end
end
section
abbrev WY (ts:List T3):List (P2×Nat):=Mi ts (3*ts.length)
def Oi (k:P2):P2:=(k.2,k.1)
def aI (t:T3) (k:P2):Nat:=t.1+t.2.1+t.2.2-k.1-k.2
def M0 (ts:List T3) (k:P2):P2:=(k.2,aI (ts.getD ((Ao (WY ts) k).getD 0) (0,0,0)) k)
def isS (ts:List T3) (k:P2):Prop:=(Ao (WY ts) k).isSome=true
def VI (ts:List T3) (k:P2):Prop:=isS ts k/\¬isS ts (Oi k)
def Oc (ts:List T3):Nat->P2->Option P2
  | 0,_=>none
  | f+1,k=>if (Ao (WY ts) (Oi (M0 ts k))).isSome then Oc ts f (Oi (M0 ts k)) else some (M0 ts k)
def Qq (ts:List T3) (k:P2):P2:=(Oc ts (3*ts.length) k).getD (0,0)
section
variable {ts:List T3} {N:Nat} {k k0:P2} {i:Nat}
theorem Iq {n:Nat}:∀s,Ao (Mi ts s) k=some n->∃u,u<s/\Bz ts u=k/\n=u/3
  | 0,h=>by cases h
  | s+1,h=>by
    have h:Ao (BT (Mi ts s) (Bz ts s) (s/3)) k=some n:=h
    rw [CV] at h
    split at h
    · rename_i e
      injection h with h
      exact ⟨s,Z,e.symm,h.symm⟩
    · obtain ⟨u,h1,h2,h3⟩:=Iq s h
      exact ⟨u,Z,h2,h3⟩
theorem H8 {u:Nat}:∀s,u<s->(Ao (Mi ts s) (Bz ts u)).isSome=true
  | 0,h=>absurd h (Nat.not_lt_zero _)
  | s+1,h=>by
    show (Ao (BT (Mi ts s) (Bz ts s) (s/3)) (Bz ts u)).isSome=true
    rw [CV]
    split
    · rfl
    · rename_i e
      rcases Nat.lt_or_ge u s with h1|h1
      · exact H8 s h1
      · exact absurd (by rw [show u=s by omega]) e
theorem MR {u v n:Nat} (ho:Hf ts n=true) (hu:u<n) (hv:v<n) (h:Bz ts u=Bz ts v):u=v:=by
  have key:∀{u v:Nat},u<v->v<n->Bz ts u=Bz ts v->False:=λ{u v} h1 h2 h=>by
    have h3:=QM (s:=v+1) _ Z ho
    have h3:(Hf ts v&&(Ao (Mi ts v) (Bz ts v)).isNone)=true:=h3
    rw [Bool.and_eq_true] at h3
    have h4:=H8 (ts:=ts) v h1
    rw [h] at h4
    rw [<-Option.not_isSome,h4] at h3
    exact absurd h3.2 (by decide)
  rcases Nat.lt_trichotomy u v with h1|h1|h1
  · exact (key h1 hv h).elim
  · exact h1
  · exact (key h1 hu h.symm).elim
theorem UJ {u:Nat} (ho:Hf ts (3*ts.length)=true) (hu:u<3*ts.length):Ao (WY ts) (Bz ts u)=some (u/3):=by
  obtain ⟨n,h⟩:=Option.isSome_iff_exists.1 (H8 (ts:=ts) _ hu)
  obtain ⟨v,h1,h2,h3⟩:=Iq _ h
  have e:=MR ho hu h1 h2.symm
  rw [show Ao (WY ts) (Bz ts u)=some n from h,h3,e]
theorem Gv:isS ts k↔∃u,u<3*ts.length/\Bz ts u=k:=by
  constructor
  · intro h
    obtain ⟨n,h⟩:=Option.isSome_iff_exists.1 h
    obtain ⟨u,h1,h2,_⟩:=Iq _ h
    exact ⟨u,h1,h2⟩
  · rintro ⟨u,h1,rfl⟩
    exact H8 _ h1
def VE (u:Nat):Nat:=3*(u/3)+(u%3+1)%3
theorem VX {u v:Nat} (h:VE u=VE v):u=v:=by unfold VE at h;omega
theorem Pl {u:Nat} (h:u<3*ts.length):VE u<3*ts.length:=by unfold VE;omega
theorem NU (ho:Hf ts (3*ts.length)=true) {u:Nat} (hu:u<3*ts.length):M0 ts (Bz ts u)=Bz ts (VE u):=by
  unfold M0
  rw [UJ ho hu,Option.getD_some]
  have hd:(VE u)/3=u/3:=by unfold VE;omega
  have hm:(VE u)%3=(u%3+1)%3:=by unfold VE;omega
  unfold aI Bz
  rw [hd,hm]
  generalize ts.getD (u/3) (0,0,0)=t
  have e:u%3=0\/u%3=1\/u%3=2:=by omega
  rcases e with e|e|e<;>rw [e]<;>refine Prod.ext rfl ?_
  · show t.1+t.2.1+t.2.2-t.1-t.2.1=t.2.2;omega
  · show t.1+t.2.1+t.2.2-t.2.1-t.2.2=t.1;omega
  · show t.1+t.2.1+t.2.2-t.2.2-t.1=t.2.1;omega
theorem TX (ho:Hf ts (3*ts.length)=true) (h:isS ts k):isS ts (M0 ts k):=by
  obtain ⟨u,hu,rfl⟩:=Gv.1 h
  rw [NU ho hu]
  exact Gv.2 ⟨_,Pl hu,rfl⟩
theorem Vs (ho:Hf ts (3*ts.length)=true) {k':P2} (h:isS ts k) (h':isS ts k') (e:M0 ts k=M0 ts k'):k=k':=by
  obtain ⟨u,hu,rfl⟩:=Gv.1 h
  obtain ⟨v,hv,rfl⟩:=Gv.1 h'
  rw [NU ho hu,NU ho hv] at e
  rw [VX (MR ho (Pl hu) (Pl hv) e)]
theorem Mh (k:P2):Oi (Oi k)=k:=rfl
theorem Wi {a b:P2} (h:Oi a=Oi b):a=b:=by rw [<-Mh a,h,Mh]
theorem L5 {α:Type} [DecidableEq α] {l m:List α} (hn:l.Nodup) (hs:∀x∈l,x∈m):l.length<=m.length:=by
  induction l generalizing m with
  | nil=>exact Nat.zero_le _
  | cons x r ih =>
    have hx:=hs x List.mem_cons_self
    have hn2:=List.nodup_cons.1 hn
    have h:=ih (m:=m.erase x) hn2.2 λy hy=>by
      have:y≠x:=λe=>hn2.1 (e▸hy)
      exact (List.mem_erase_of_ne this).2 (hs y (List.mem_cons_of_mem _ hy))
    rw [List.length_erase_of_mem hx] at h
    have:=List.length_pos_of_mem hx
    simp only [List.length_cons];omega
def Tr (ts:List T3):List P2:=(List.range (3*ts.length)).map (Bz ts)
theorem OB (h:isS ts k):k∈Tr ts:=by
  obtain ⟨u,hu,rfl⟩:=Gv.1 h
  exact List.mem_map.2 ⟨u,List.mem_range.2 hu,rfl⟩
theorem Nd:(Tr ts).length=3*ts.length:=by simp [Tr]
structure Hi (ts:List T3) (k0:P2) (i:Nat) (k:P2):Prop where
  chain:∃s:Nat->P2,s 0=k0/\s i=k/\(∀j,j<=i->isS ts (s j))/\∀j,j<i->s (j+1)=Oi (M0 ts (s j))
theorem Hi.zero (h:isS ts k0):Hi ts k0 0 k0:=⟨λ_=>k0,rfl,rfl,λ_ _=>h,λ_ h=>absurd h (Nat.not_lt_zero _)⟩
theorem Hi.isS (h:Hi ts k0 i k):isS ts k:=by
  obtain ⟨s,_,h2,h3,_⟩:=h.chain
  rw [<-h2];exact h3 i (Nat.le_refl _)
theorem Hi.succ (h:Hi ts k0 i k) (hs:(Ao (WY ts) (Oi (M0 ts k))).isSome=true):Hi ts k0 (i+1) (Oi (M0 ts k)):=by
  obtain ⟨s,h1,h2,h3,h4⟩:=h.chain
  refine ⟨λj=>if j<=i then s j else Oi (M0 ts k),by simp [h1],if_neg Z,λj hj=>?_,λj hj=>?_⟩
  · show Go.Proofs.YtfbomiejpbchdaaGreat.isS ts (if j<=i then s j else _)
    split
    · exact h3 j ‹_›
    · exact hs
  · show (if j+1<=i then s (j+1) else _)=Oi (M0 ts (if j<=i then s j else _))
    rw [if_pos (show j<=i by omega)]
    split
    · exact h4 j Z
    · rw [show j=i by omega,h2]
theorem Hi.lt (ho:Hf ts (3*ts.length)=true) (h0:VI ts k0) (h:Hi ts k0 i k):i<3*ts.length:=by
  obtain ⟨s,h1,h2,h3,h4⟩:=h.chain
  have ne:∀d a,a+d+1<=i->s a≠s (a+d+1):=λd a=>by
    induction a with
    | zero =>
      intro hd e
      rw [h1,h4 (0+d) Z] at e
      refine h0.2 ?_
      rw [e,Mh]
      exact TX ho (h3 _ Z)
    | succ a ih =>
      intro hd e
      rw [h4 a Z,show a+1+d+1=(a+d+1)+1 by omega,h4 (a+d+1) Z] at e
      exact ih Z (Vs ho (h3 _ Z) (h3 _ Z) (Wi e))
  have hnd:((List.range (i+1)).map s).Nodup:=by
    refine List.pairwise_map.2 (List.Pairwise.imp_of_mem ?_ List.pairwise_lt_range)
    intro a b ha hb hab
    have:=ne (b-a-1) a (by have:=List.mem_range.1 hb;omega)
    rw [show a+(b-a-1)+1=b by omega] at this
    exact this
  have h5:=L5 (m:=Tr ts) hnd λx hx=>by
    obtain ⟨j,hj,rfl⟩:=List.mem_map.1 hx
    exact OB (h3 j (by have:=List.mem_range.1 hj;omega))
  rw [Nd,List.length_map,List.length_range] at h5
  omega
theorem Hi.fuel (h:Hi ts k0 i k) (f:Nat):Oc ts (f+i) k0=Oc ts f k:=by
  obtain ⟨s,h1,h2,h3,h4⟩:=h.chain
  subst h1 h2
  have key:∀j,j<=i->Oc ts (f+i) (s 0)=Oc ts (f+(i-j)) (s j):=λj=>by
    induction j with
    | zero=>intro _;rfl
    | succ j ih =>
      intro hj
      rw [ih Z,show f+(i-j)=(f+(i-(j+1)))+1 by omega]
      have h5:(Ao (WY ts) (Oi (M0 ts (s j)))).isSome=true:=by rw [<-h4 j Z];exact h3 (j+1) hj
      show (if _ then _ else _)=_
      rw [if_pos h5,<-h4 j Z]
  have:=key i (Nat.le_refl _)
  rwa [Nat.sub_self,Nat.add_zero] at this
theorem Hi.stop (ho:Hf ts (3*ts.length)=true) (h0:VI ts k0) (h:Hi ts k0 i k) (hs:¬(Ao (WY ts) (Oi (M0 ts k))).isSome=true):Qq ts k0=M0 ts k/\VI ts (M0 ts k):=by
  have hlt:=h.lt ho h0
  have h1:=h.fuel (3*ts.length-i)
  rw [show 3*ts.length-i+i=3*ts.length by omega,show 3*ts.length-i=(3*ts.length-i-1)+1 by omega] at h1
  have h2:Oc ts (3*ts.length-i-1+1) k=some (M0 ts k):=by
    show (if _ then _ else _)=_
    rw [if_neg hs]
  refine ⟨?_,TX ho h.isS,hs⟩
  unfold Qq
  rw [h1,h2];rfl
theorem WH (ho:Hf ts (3*ts.length)=true) (h0:VI ts k0):VI ts (Qq ts k0):=by
  have key:∀d i k,3*ts.length-i=d->Hi ts k0 i k->VI ts (Qq ts k0):=λd=>by
    induction d with
    | zero=>intro i k hd h;have:=h.lt ho h0;omega
    | succ d ih =>
      intro i k hd h
      by_cases hs:(Ao (WY ts) (Oi (M0 ts k))).isSome=true
      · exact ih _ _ Z (h.succ hs)
      · have h1:=h.stop ho h0 hs
        rw [h1.1];exact h1.2
  exact key _ 0 k0 O (Hi.zero h0.1)
end
def Yo (ts:List T3):Nat->List (P2×Nat)->P2->List Nat->Option (List (P2×Nat)×List Nat)
  | 0,_,_,_=>none
  | f+1,dn,k,l=>if (Ao dn k).getD 0=0 then Yo ts f (BT dn k 1) (Qq ts k) (l++[k.1]) else some (dn,l)
def aJ (ts:List T3) (dn:List (P2×Nat)) (k:P2):List (P2×Nat)×List Nat:=(Yo ts (3*ts.length+1) dn k []).getD ([],[])
structure Tp (ts:List T3) (dn:List (P2×Nat)):Prop where
  ok:HT JJ dn
  bd:∀k n,Ao dn k=some n->VI ts k/\n=1
section
variable {ts:List T3} {N:Nat} {k k0:P2} {i:Nat} {dn dn0:List (P2×Nat)} {l:List Nat}
theorem Tp.nil:Tp ts []:=⟨HT.nil,λk n h=>by cases h⟩
theorem Tp.len (h:Tp ts dn):dn.length<=3*ts.length:=by
  have h1:(dn.map (·.1)).Nodup:=List.pairwise_map.2 (h.ok.once.imp λ{a b} h e=>h e)
  have h2:=L5 (m:=Tr ts) h1 λx hx=>by
    obtain ⟨p,hp,rfl⟩:=List.mem_map.1 hx
    obtain ⟨j,hj,h3⟩:=List.getElem_of_mem hp
    exact OB (h.bd _ _ (Je (x:=p.1) (v:=p.2) h.ok.once (by rw [List.getElem?_eq_getElem hj,h3]))).1.1
  rwa [Nd,List.length_map] at h2
theorem Tp.put (h:Tp ts dn) (hk:VI ts k) (hok:JJ k):Tp ts (BT dn k 1):=⟨h.ok.put hok,λx n hx=>by
  rw [CV] at hx
  split at hx
  · rename_i e
    injection hx with hx
    rw [e];exact ⟨hk,hx.symm⟩
  · exact h.bd _ _ hx⟩
theorem Tp.zero (h:Tp ts dn) (e:(Ao dn k).getD 0=0):Ao dn k=none:=by
  cases hg:Ao dn k with
  | none=>rfl
  | some n=>rw [hg,(h.bd _ _ hg).2] at e;cases e
theorem Od {α β:Type} [DecidableEq α] {kvs:List (α×β)} {x:α} {y:β} (h:Ao kvs x=none):(BT kvs x y).length=kvs.length+1:=by
  induction kvs with
  | nil=>rfl
  | cons p r ih =>
    obtain ⟨k,v⟩:=p
    unfold Ao at h
    split at h
    · cases h
    · rename_i e
      unfold BT
      rw [if_neg e,List.length_cons,ih h];rfl
theorem Xe (hn:CD N ts=true) (hN:N<=4611686018427387904) (h:isS ts k):JJ k:=by
  obtain ⟨u,hu,rfl⟩:=Gv.1 h
  have:=Mu hn hu
  exact ⟨Z,Z⟩
structure Uv (ts:List T3) (dn0:List (P2×Nat)) (k0:P2) (i:Nat) (dn:List (P2×Nat)) (k:P2) (l:List Nat):Prop where
  fuel:∀f,Yo ts (f+i) dn0 k0 []=Yo ts f dn k l
  bd:VI ts k
  di:Tp ts dn
  len:dn.length=dn0.length+i
  ll:l.length=i
  at0:i=0->dn=dn0/\k=k0
theorem Uv.zero (h:Tp ts dn0) (hb:VI ts k0):Uv ts dn0 k0 0 dn0 k0 []:=⟨λ_=>rfl,hb,h,rfl,rfl,λ_=>⟨rfl,rfl⟩⟩
theorem Uv.succ (hn:CD N ts=true) (hN:N<=4611686018427387904) (ho:Hf ts (3*ts.length)=true) (h:Uv ts dn0 k0 i dn k l) (e:(Ao dn k).getD 0=0):Uv ts dn0 k0 (i+1) (BT dn k 1) (Qq ts k) (l++[k.1]) :=
  ⟨λf=>by
    rw [show f+(i+1)=f+1+i by omega,h.fuel (f+1)]
    show (if _ then _ else _)=_
    rw [if_pos e],WH ho h.bd,h.di.put h.bd (Xe hn hN h.bd.1),by rw [Od (h.di.zero e),h.len];omega,by rw [List.length_append,h.ll];rfl,λh=>by omega⟩
theorem Uv.le (h:Uv ts dn0 k0 i dn k l):i<=3*ts.length:=by
  have h1:=h.di.len
  have:=h.len
  omega
theorem Uv.lt (hn:CD N ts=true) (hN:N<=4611686018427387904) (ho:Hf ts (3*ts.length)=true) (h:Uv ts dn0 k0 i dn k l) (e:(Ao dn k).getD 0=0):i<3*ts.length:=by
  have:=(h.succ hn hN ho e).le
  omega
theorem Uv.stop (h:Uv ts dn0 k0 i dn k l) (e:¬(Ao dn k).getD 0=0):aJ ts dn0 k0=(dn,l):=by
  have h1:=h.fuel (3*ts.length+1-i)
  have:=h.le
  rw [show 3*ts.length+1-i+i=3*ts.length+1 by omega,show 3*ts.length+1-i=(3*ts.length-i)+1 by omega] at h1
  have h2:Yo ts (3*ts.length-i+1) dn k l=some (dn,l):=by
    show (if _ then _ else _)=_
    rw [if_neg e]
  unfold aJ
  rw [h1,h2];rfl
end
section
variable {ts:List T3} {N i:Nat} {dn dn2:List (P2×Nat)} {wq:T3} {l:List Nat}
end
end
section
theorem YV {c:T2} (h:0<Bv c.1 c.2.1 c.2.2):∃x y:Rat,VG c x y:=by
  obtain ⟨⟨a1,a2⟩,⟨b1,b2⟩,⟨c1,c2⟩⟩:=c
  have h2:(0:Rat)<(Bv (a1,a2) (b1,b2) (c1,c2):Int):=by exact_mod_cast h
  have e:((Bv (a1,a2) (b1,b2) (c1,c2):Int):Rat)=((b1:Rat)-a1)*((c2:Rat)-a2)-((b2:Rat)-a2)*((c1:Rat)-a1):=by
    simp only [Bv,Rat.intCast_sub,Rat.intCast_mul,Rat.intCast_natCast]
  rw [e] at h2
  refine ⟨((a1:Rat)+b1+c1)/3,((a2:Rat)+b2+c2)/3,?_,?_,?_⟩<;>simp only [Jb]<;>grind
section
variable {ps:List Pt} {ts:List T3}
theorem UA {m:MQ} {pl:List P2} {n:T3} {t:Nat} (h:Iu m pl n t) {r:Nat} (hr:r<3):pl.getD (Bi n r) (0,0)=Ax m t r:=by
  have e:r=0\/r=1\/r=2:=by omega
  rcases e with rfl|rfl|rfl
  · exact h.a.2
  · exact h.b.2
  · exact h.c.2
end
end
end Go.Proofs.YtfbomiejpbchdaaGreat
