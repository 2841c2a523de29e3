import Derived.Test.YtpgncndhhhllfaaGreatDoorPart03
import Derived.Test.YtpgncndhhhllfaaGreatDoorPart18
import Derived.Test.YtpgncndhhhllfaaGreatDoorPart20
import Derived.Test.YtpgncndhhhllfaaGreatDoorPart22
import Derived.Test.YtpgncndhhhllfaaGreatDoorPart29
namespace Go.Proofs.YtpgncndhhhllfaaGreatDoor
open Go Go.RowKit Go.Proofs.Tryz
set_option linter.unusedVariables false
set_option linter.unusedSimpArgs false
section
abbrev E0:E4:=⟨0,0,0,0⟩
def X3 (N:Nat) (es:List E4):Nat->List (P2×Nat)
  | 0=>[]
  | i+1=>Bn (X3 N es i) (CT (es.getD i E0).a (es.getD i E0).b) (N+i)
def Zw (N:Nat) (ss:List T3):Nat->List (P2×Nat)
  | 0=>[]
  | k+1=>if (ss.getD (ss.length-1-k) (0,0,0)).1<N/\(ss.getD (ss.length-1-k) (0,0,0)).2.1<N then Bn (Zw N ss k) (CT (ss.getD (ss.length-1-k) (0,0,0)).1 (ss.getD (ss.length-1-k) (0,0,0)).2.1) (ss.getD (ss.length-1-k) (0,0,0)).2.2 else Zw N ss k
def XS (N:Nat) (ss:List T3) (es:List E4):Nat->List (P2×Nat)
  | 0=>Zw N ss ss.length
  | i+1=>Bn (Bn (XS N ss es i) (CT (es.getD i E0).a (N+i)) ((BZ (XS N ss es i) (CT (es.getD i E0).a (es.getD i E0).b)).getD 0)) (CT (es.getD i E0).b (N+i)) ((BZ (XS N ss es i) (CT (es.getD i E0).a (es.getD i E0).b)).getD 0)
def dE (N:Nat) (ss:List T3) (es:List E4) (a b:Nat):Nat:=(BZ (XS N ss es es.length) (CT a b)).getD 0
def df (ps:List Pt) (e:E4):Pt:=Hu (cor ps e.a+cor ps e.b) (1/2)
def bE (ps:List Pt) (es:List E4):Nat->List Pt
  | 0=>ps
  | i+1=>bE ps es i++[df ps (es.getD i E0)]
def ct (ps:List Pt) (es:List E4):List Pt:=bE ps es es.length
def ch (N:Nat) (ss:List T3) (es:List E4) (ts:List T3):List T3:=(Bi ts).map λs=>(s.1,s.2.1,dE N ss es s.1 s.2.1)
section
variable {N M i:Nat} {es:List E4} {ts:List T3} {t:T3} {ss rs:List T3} {ps:List Pt}
theorem G6 {α:Type} {l:List α} {d:α} {i:Nat} (h:i<l.length):l.take (i+1)=l.take i++[l.getD i d]:=by
  rw [List.take_add_one,List.getElem?_eq_getElem h,List.getD,List.getElem?_eq_getElem h];rfl
theorem ML (hn:By N ts=true) (hN:N<=4611686018427387904) {e:E4} (he:e∈BV ts):e.a<e.b/\e.b<N:=by
  have h:=(Ju hn hN).1 he
  obtain ⟨u,hu,hs⟩:=h.some
  have h2:=Rm hn hu
  have hlt:=h.lt
  simp only at hlt hs
  rcases hs with hs|hs<;>rw [hs] at h2<;>simp only at h2<;>omega
theorem Vf (hn:By N ts=true) (hN:N<=4611686018427387904):∀e∈BV ts,e.a<N/\e.b<N:=λe he=>by
  have:=ML hn hN he;omega
end
end
section
set_option maxRecDepth 100000
theorem S_ (ts:List Pt) (x:RX (rowsL Am ts) ts.length) (hl:ts.length<=1000000000) (w:World) {S:Nat->Prop} (hx:Ro S w x):Calls prog 41 #[(Value.slice x.p ts.length x.c)] w (ND dU (ah (T:=51) (z:=10) (cs:=rowsL Am ts) (n:=ts.length)) S w):=by
 have lx:=Cl (W:=w) hx
 refine Ah (args:=[(Value.slice x.p ts.length x.c)]) (L:=[AQ x.p (rowsL Am ts)]) func41 O O (AT O) (Ed hx Ax) (AF.subF (sL [0] O) (q4 (asg' O (AE.nilRow 51 10 (AE.nil ?_)))))
 refine q1 (q4 (AM O (AH (v:=(Value.bool x.p.isNone)) (Px O O underlying28) O (AE.nil (AC.subF (sL [0,2,4] O) ?_)))))
 refine AC.then_ ?_
 refine AF.cond O (λhc0=>?_) (λhc0=>?_)
 ·skip
  have hts:ts=[]:=List.eq_nil_of_length_eq_zero (x.ok.nil (Option.isNone_iff_eq_none.1 hc0)).1
  refine q4 (asg' O (AE.nilRow 51 10 (AE.nil (AC.then_ (AF.ret ?_)))))
  exact AC.then_ret (AI O (AY (v:=(Value.slice none 0 0)) O) (λw hw=>(by subst hts;exact ZK hw (OX.mk none 0 OwnOk.none) (by exact (sk (sl (sl sr)))) (RK.own O RK.nil) (by show Value.slice none 0 0=_;rfl))))
 ·skip
  refine AF.skip (q2 (AE.openV (V:=λb1=>(Value.slice (some ⟨b1,0,none⟩) 0 0)) (T:=51) (cs:=[]) (AS O) (MH underlying28 sizeOf51) O (AT O) λb1=>AE.asRow0 (z:=10) 0 O Z λho_b1=>AM O (AE.appendE0 ag O ho_b1 O (bS (k:=2) O x.ok) (Ak BM _) (Mf YG _) (Hx Z) Z O λp_1 c_1 ho_1=>?_)))
  exact asg' O (AE.nil (AC.subF (sL [0,2] O) (AC.then_ (AF.ret (AI O (AY (v:=(Value.slice p_1 ts.length c_1)) O) (λw hw=>(ZK hw (OX.mk p_1 c_1 ho_1) (sk (sl (sl sr))) (RK.own O RK.nil) O)))))))
theorem Vb (p:Option Addr) (n cp:Nat) (h:n<=cp) (w:World)  :Calls prog 44 #[(Value.slice p n cp)] w (An w (Value.slice p n n)):=by
 refine Af (args:=[(Value.slice p n cp)]) func44 O O (AT O) (AF.subF (sL [0] O) (q4 (asg' O (AE.nil (q2 ?_)))))
 refine AM O (AM O (AH (v:=(vN n)) (AG O underlying24) O (AM O (AH (v:=(vN n)) (AG O underlying24) O (AH (v:=(Value.slice p n n)) (Fb (m:=n) O O O underlying24 sizeOf55 Z) O ?_)))))
 exact asg' O (AE.nil (AC.subF (sL [2] O) (AC.then_ (AF.ret (AI O (AY (v:=(Value.slice p n n)) O) (λw hw=>⟨rfl,hw.out⟩))))))
end
section
theorem HH (b n:Nat):BF (some ⟨b,0,none⟩) n n:=⟨λe=>(by cases e),λa e=>(by injection e with e;subst e;rfl),Nat.le_refl _⟩
theorem Zz {ps:List Pt} {k:Nat} (h:(ps.all λp=>decide (B_ p<=k))=true) (h0:B_ (⟨0,0⟩:Pt)<=k) (i:Nat):B_ (cor ps i)<=k:=by
  unfold cor
  rcases Nat.lt_or_ge i ps.length with hi|hi
  · rw [List.getD,List.getElem?_eq_getElem hi]
    exact of_decide_eq_true (List.all_eq_true.1 h _ (List.getElem_mem hi))
  · rw [List.getD,List.getElem?_eq_none hi];exact h0
theorem bK {T:T3} {r:Nat} (h:r<3):(Ai T)[r]?=some (vN (EE T r)):=by
  have e:r=0\/r=1\/r=2:=by omega
  rcases e with rfl|rfl|rfl<;>rfl
section
variable {P:Program} {ops:Array Oper} {rest:List Oper} {Q:Exit->Act->World->Prop} {n:Nat} {F:List (Nat×Value)} {w0:BJ} {S:Nat->Prop} {L:List As} {ps:List Pt} {ts ss:List T3}
theorem Na {w:World} {i b:Nat} {T:TypeId} {cs:List Value} (hw:BN w0 w L) (hi:L[i]?=some (Ag b T cs)) (hex:w0.ex=none):w0.w.heap.size<=b:=by
  rcases (hw.2.1 _ (List.mem_of_getElem? hi) b rfl).1 with h1|h1|h1
  · cases h1
  · exact h1
  · rw [hex] at h1;cases h1
theorem AE.litM {b1 b2 b3 U1 U2 U3:Nat} {cs1 cs2 cs3:List Value} (LL:MX ps ts ss->List As) (i j k:Nat) (hn:i≠j/\i≠k/\j≠k) (h1:L[i]?=some (Ag b1 U1 cs1)) (h2:L[j]?=some (Ag b2 U2 cs2)) (h3:L[k]?=some (Ag b3 U3 cs3)) (hex:w0.ex=none)
    (e:(cs1,cs2,cs3)=(rowsL Am ps,rowsL Ai ts,rowsL Ai ss))
    (hL:((L.set i (AQ (some ⟨b1,0,none⟩) cs1)).set j (AQ (some ⟨b2,0,none⟩) cs2)).set k (AQ (some ⟨b3,0,none⟩) cs3)=LL ⟨⟨some ⟨b1,0,none⟩,ps.length,HH _ _⟩,⟨some ⟨b2,0,none⟩,ts.length,HH _ _⟩,⟨some ⟨b3,0,none⟩,ss.length,HH _ _⟩⟩)
    (next:∀mm:MX ps ts ss,At w0 S mm->AE P ops rest Q n F w0 (LL mm)):AE P ops rest Q n F w0 L:=λa w ha hw=>by
  have n1:=Na hw h1 hex
  have n2:=Na hw h2 hex
  have n3:=Na hw h3 hex
  have w1:=hw.freeze (x:=Ag b1 U1 cs1) (y:=AQ (some ⟨b1,0,none⟩) cs1) h1 rfl (λo hp=>Fr hp) (λe=>by cases e)
  have w2:=w1.freeze (i:=j) (x:=Ag b2 U2 cs2) (y:=AQ (some ⟨b2,0,none⟩) cs2) (by rw [List.getElem?_set_ne hn.1];exact h2) rfl (λo hp=>Fr hp) (λe=>by cases e)
  have w3:=w2.freeze (i:=k) (x:=Ag b3 U3 cs3) (y:=AQ (some ⟨b3,0,none⟩) cs3) (by rw [List.getElem?_set_ne hn.2.2,List.getElem?_set_ne hn.2.1];exact h3) rfl (λo hp=>Fr hp) (λe=>by cases e)
  rw [hL] at w3
  refine next _ (λy hy b eb=>?_) a w ha w3
  have hy:y∈[AQ (some ⟨b1,0,none⟩) (rowsL Am ps),AQ (some ⟨b2,0,none⟩) (rowsL Ai ts),AQ (some ⟨b3,0,none⟩) (rowsL Ai ss)]:=hy
  simp only [List.mem_cons,List.not_mem_nil,or_false] at hy
  rcases hy with rfl|rfl|rfl<;>(injection eb with eb;subst eb;exact .inl (by assumption))
end
theorem cB {α:Type} [DN α] {w0:BJ} {w:World} {S:Nat->Prop} {L:List As} (hw:BN w0 w L) (is:List Nat) {a:α} (hi:(is.map λi=>L[i]?)=(DN.rows a).map some) (ha:At w0 S a):Ro (SL w0 S L) w a:=λy hy=>by
  have h1:some y∈(is.map λi=>L[i]?):=by rw [hi];exact List.mem_map.2 ⟨y,hy,rfl⟩
  obtain ⟨i,_,h2⟩:=List.mem_map.1 h1
  have hm:=List.mem_of_getElem? h2
  exact ⟨λb e=>(hw.2.1 y hm b e).2,λb e=>⟨⟨y,hm,DN.ro a y hy,e⟩,ha y hy b e⟩⟩
end
def Vp (p q:Pt):Prop:=p.x<q.x\/(p.x=q.x/\p.y<q.y)
instance (p q:Pt):Decidable (Vp p q):=by unfold Vp;infer_instance
theorem ZJ {p q:Pt} (h:G7 p.x q.x≠0):decide (G7 p.x q.x<0)=decide (Vp p q):=by
  have h2:¬p.x=q.x:=λe=>h (RQ.2 e)
  refine decide_eq_decide.2 ⟨λk=>.inl (J7.1 k),λk=>?_⟩
  rcases k with k|k
  · exact J7.2 k
  · exact absurd k.1 h2
theorem aT {p q:Pt} (h:G7 p.x q.x=0):decide (G7 p.y q.y<0)=decide (Vp p q):=by
  have h2:p.x=q.x:=RQ.1 h
  refine decide_eq_decide.2 ⟨λk=>.inr ⟨h2,J7.1 k⟩,λk=>?_⟩
  rcases k with k|k
  · rw [h2] at k;exact absurd k (by grind)
  · exact J7.2 k.2
abbrev T2:=P2×P2×P2
def be (A B:P2) (X Y:Nat):Int:=((B.1:Int)-A.1)*((Y:Int)-2*A.2)-((B.2:Int)-A.2)*((X:Int)-2*A.1)
def bO (t:T2) (X Y:Nat):Bool:=decide (0<=be t.2.1 t.2.2 X Y)&&decide (0<=be t.2.2 t.1 X Y)&&decide (0<=be t.1 t.2.1 X Y)
def Kk (t:T2) (q:P2):Bool:=t.1 == q||t.2.1 == q||t.2.2 == q
def SD (u v c:Nat):List T2 :=
  let x:=2*u;let y:=2*v
  if c=0 then [((x,y),(x+2,y),(x+2,y+2)),((x,y),(x+2,y+2),(x,y+2))]
  else if c=1 then [((x,y),(x+2,y),(x,y+2)),((x+2,y),(x+2,y+2),(x,y+2))]
  else if c=2 then [((x,y),(x+2,y),(x+1,y+1)),((x+2,y),(x+2,y+2),(x+1,y+1)),((x+2,y+2),(x,y+2),(x+1,y+1)),((x,y+2),(x,y),(x+1,y+1))] else []
def Yl (way i:Nat):Nat:=if way<3\/(way=7/\i=0) then 0 else if way<5 then 1 else if way<7 then 2 else 3
theorem MW (nx way i:Nat):Cu nx way i=SD (i%nx) (i/nx) (Yl way i):=by
  unfold Cu SD Yl
  simp only
  split
  · rfl
  · split
    · rfl
    · split<;>rfl
theorem KA (way i:Nat):Yl way i<4:=by
  unfold Yl
  split
  · omega
  · split
    · omega
    · split<;>omega
def NZ (s t:T2):Bool :=
  [s.1,s.2.1,s.2.2].all (λq=>!bO t (2*q.1) (2*q.2)||Kk t q) &&
  [(s.1,s.2.1),(s.2.1,s.2.2),(s.2.2,s.1)].all (λe=>!bO t (e.1.1+e.2.1) (e.1.2+e.2.2)||(Kk t e.1&&Kk t e.2))
def Gv:List (Nat×Nat×Nat):=[0,1,2].flatMap λu=>[0,1,2].flatMap λv=>[0,1,2,3].map λc=>(u,v,c)
def a9:Bool:=Gv.all λp=>Gv.all λq=>(decide (p.1=q.1/\p.2.1=q.2.1/\p.2.2≠q.2.2))||(SD p.1 p.2.1 p.2.2).all λs=>(SD q.1 q.2.1 q.2.2).all λt=>NZ s t
theorem QU:a9=true:=by decide +kernel
theorem En {u v c:Nat} (hu:u<=2) (hv:v<=2) (hc:c<4):(u,v,c)∈Gv:=by
  have h1:u=0\/u=1\/u=2:=by omega
  have h2:v=0\/v=1\/v=2:=by omega
  have h3:c=0\/c=1\/c=2\/c=3:=by omega
  rcases h1 with rfl|rfl|rfl<;>rcases h2 with rfl|rfl|rfl<;>rcases h3 with rfl|rfl|rfl|rfl<;>decide
theorem R7 {m:MQ} {s t:T2} (hs:s∈BE m) (ht:t∈BE m):NZ s t=true:=by
  obtain ⟨i,hi,h1⟩:=EJ m _ s hs
  obtain ⟨j,hj,h2⟩:=EJ m _ t ht
  have hx:=Iq m
  have hy:=Ig m
  have b:∀k,k<F0 m*SP m->k%F0 m<=2/\k/F0 m<=2:=λk hk=>by
    have a1:=Nat.mod_lt k (show 0<F0 m by omega)
    have a2:k/F0 m<SP m:=Nat.div_lt_of_lt_mul hk
    omega
  rw [MW] at h1 h2
  have h:=List.all_eq_true.1 (List.all_eq_true.1 QU _ (En (b i hi).1 (b i hi).2 (KA (Gg m i) i))) _ (En (b j hj).1 (b j hj).2 (KA (Gg m j) j))
  rw [Bool.or_eq_true,decide_eq_true_eq] at h
  rcases h with ⟨e1,e2,e3⟩|h
  · exfalso
    have e:i=j:=by rw [<-Nat.div_add_mod i (F0 m),<-Nat.div_add_mod j (F0 m),show i%F0 m=j%F0 m from e1,show i/F0 m=j/F0 m from e2]
    subst e
    exact e3 O
  · exact List.all_eq_true.1 (List.all_eq_true.1 h s h1) t h2
theorem UH (A B:P2) (X Y:Nat):J_ A B ((X:Rat)*(1/2)) ((Y:Rat)*(1/2))=((be A B X Y:Int):Rat)*(1/2):=by
  simp only [J_,be,Rat.intCast_sub,Rat.intCast_mul,Rat.intCast_natCast,show ((2:Int):Rat)=2 from rfl]
  grind
theorem Tl {t:T2} {X Y:Nat} (h:inC t ((X:Rat)*(1/2)) ((Y:Rat)*(1/2))):bO t X Y=true:=by
  obtain ⟨h1,h2,h3⟩:=h
  rw [UH] at h1 h2 h3
  have c:∀z:Int,0<=(z:Rat)*(1/2)->0<=z:=λz hz=>by
    have:(0:Rat)<=(z:Rat):=by grind
    exact_mod_cast this
  simp only [bO,Bool.and_eq_true,decide_eq_true_eq]
  exact ⟨⟨c _ h1,c _ h2⟩,c _ h3⟩
theorem Nj {t:T2} {q:P2} (h:Kk t q=true):∃r,r<3/\C3 t r=q:=by
  simp only [Kk,Bool.or_eq_true,beq_iff_eq] at h
  rcases h with (h|h)|h
  · exact ⟨0,Z,h⟩
  · exact ⟨1,Z,h⟩
  · exact ⟨2,Z,h⟩
theorem Vh (t:T2) {r:Nat} (h:r<3):C3 t r∈[t.1,t.2.1,t.2.2]:=by
  have:r=0\/r=1\/r=2:=by omega
  rcases this with rfl|rfl|rfl<;>simp [C3]
theorem OY {m:MQ} {s t:T2} (hs:s∈BE m) (ht:t∈BE m) {r:Nat} (hr:r<3) (h:inC t ((C3 s r).1:Rat) ((C3 s r).2:Rat)):∃k,k<3/\C3 t k=C3 s r:=by
  have hp:=R7 hs ht
  unfold NZ at hp
  rw [Bool.and_eq_true] at hp
  have h1:=List.all_eq_true.1 hp.1 _ (Vh s hr)
  have h2:bO t (2*(C3 s r).1) (2*(C3 s r).2)=true:=Tl (by
    rw [Gt,Gt,show 2*((C3 s r).1:Rat)*(1/2)=((C3 s r).1:Rat) by grind,show 2*((C3 s r).2:Rat)*(1/2)=((C3 s r).2:Rat) by grind]
    exact h)
  rw [h2] at h1
  exact Nj (by simpa using h1)
theorem Uc {m:MQ} {s t:T2} (hs:s∈BE m) (ht:t∈BE m) {r:Nat} (hr:r<3) (h:inC t ((((C3 s r).1+(C3 s ((r+1)%3)).1:Nat):Rat)*(1/2)) ((((C3 s r).2+(C3 s ((r+1)%3)).2:Nat):Rat)*(1/2))) :
    (∃k,k<3/\C3 t k=C3 s r)/\∃k,k<3/\C3 t k=C3 s ((r+1)%3):=by
  have hp:=R7 hs ht
  unfold NZ at hp
  rw [Bool.and_eq_true] at hp
  have hm:(C3 s r,C3 s ((r+1)%3))∈[(s.1,s.2.1),(s.2.1,s.2.2),(s.2.2,s.1)]:=by
    have:r=0\/r=1\/r=2:=by omega
    rcases this with rfl|rfl|rfl<;>simp [C3]
  have h1:=List.all_eq_true.1 hp.2 _ hm
  rw [Tl h] at h1
  have h2:Kk t (C3 s r)=true/\Kk t (C3 s ((r+1)%3))=true:=by simpa using h1
  exact ⟨Nj h2.1,Nj h2.2⟩
section
def PQ (k:DH) (den:Nat) (X Y:Rat):Pt:=⟨((k.a:Rat)*X+(k.b:Rat)*Y)/(((max den 1:Nat):Int):Rat),((k.c:Rat)*X+(k.d:Rat)*Y)/(((max den 1:Nat):Int):Rat)⟩
theorem JQ (k:DH) (den:Nat) (A:P2):CC (Ge k den A)=PQ k den (A.1:Rat) (A.2:Rat):=by
  simp only [CC,Ge,Iy,DH.at_,PQ,Rat.intCast_add,Rat.intCast_mul,Rat.intCast_natCast]
theorem ZE (k:DH) (den:Nat) (A B:P2):Hu (CC (Ge k den A)+CC (Ge k den B)) (1/2)=PQ k den (((A.1+B.1:Nat):Rat)*(1/2)) (((A.2+B.2:Nat):Rat)*(1/2)):=by
  rw [JQ,JQ]
  refine Pt.ext ?_ ?_<;>simp only [PQ,RC,RG,Y3,Y0,Rat.natCast_add,Rat.div_def]<;>generalize (((max den 1:Nat):Int):Rat)⁻¹=e<;>grind
theorem Ol {k:DH} (h:k.Ok) (den:Nat):∃c:Rat,0<c/\∀(A B:P2) (X Y:Rat),AX (CC (Ge k den A)) (CC (Ge k den B)) (PQ k den X Y)=c*J_ A B X Y:=by
  have hD:0<(((max den 1:Nat):Int):Rat):=by exact_mod_cast (show (0:Int)<((max den 1:Nat):Int) by omega)
  have hd:(0:Rat)<(k.det:Rat):=by exact_mod_cast h.pos
  have ed:(k.det:Rat)=(k.a:Rat)*(k.d:Rat)-(k.b:Rat)*(k.c:Rat):=by simp only [DH.det,Rat.intCast_sub,Rat.intCast_mul]
  have hi:=Rat.inv_pos.2 hD
  refine ⟨(k.det:Rat)*((((max den 1:Nat):Int):Rat)⁻¹*(((max den 1:Nat):Int):Rat)⁻¹),Rat.mul_pos hd (Rat.mul_pos hi hi),λA B X Y=>?_⟩
  rw [JQ,JQ,ed]
  simp only [Ca,PQ,J_,Rat.div_def]
  generalize (((max den 1:Nat):Int):Rat)⁻¹=e
  grind
theorem Zf (m:MQ) (t:Nat) {k:Nat} (hk:k<3):∃r,r<3/\I0 m t r=k:=by
  unfold I0
  generalize t*(m.fst/3)=q
  have e:(m.fst+q)%3=0\/(m.fst+q)%3=1\/(m.fst+q)%3=2:=by omega
  rcases e with e|e|e
  · exact ⟨k,hk,Z⟩
  · exact ⟨(k+2)%3,Nat.mod_lt _ (by decide),Z⟩
  · exact ⟨(k+1)%3,Nat.mod_lt _ (by decide),Z⟩
theorem OL (m:MQ) (t r:Nat):I0 m t ((r+1)%3)=(I0 m t r+1)%3:=by unfold I0;omega
def crn (t:Nat×Nat×Nat) (r:Nat):Nat:=if r=0 then t.1 else if r=1 then t.2.1 else t.2.2
def CS (t:Nat×Nat×Nat) (p:Nat):Bool:=t.1 == p||t.2.1 == p||t.2.2 == p
theorem Kw {t:Nat×Nat×Nat} {p:Nat}:CS t p=true↔∃r,r<3/\crn t r=p:=by
  simp only [CS,Bool.or_eq_true,beq_iff_eq]
  constructor
  · rintro ((h|h)|h)
    · exact ⟨0,Z,h⟩
    · exact ⟨1,Z,h⟩
    · exact ⟨2,Z,h⟩
  · rintro ⟨r,hr,h⟩
    have:r=0\/r=1\/r=2:=by omega
    rcases this with rfl|rfl|rfl
    · exact .inl (.inl h)
    · exact .inl (.inr h)
    · exact .inr h
theorem JG.crn {m:MQ} {pl:List P2} {n:Nat×Nat×Nat} {t:Nat} (h:JG m pl n t) {r:Nat} (hr:r<3):Go.Proofs.YtpgncndhhhllfaaGreatDoor.crn n r<pl.length/\pl.getD (Go.Proofs.YtpgncndhhhllfaaGreatDoor.crn n r) (0,0)=Ar m t r:=by
  have:r=0\/r=1\/r=2:=by omega
  rcases this with rfl|rfl|rfl
  · exact h.a
  · exact h.b
  · exact h.c
section
variable {ps:List Pt} {ts:List (Nat×Nat×Nat)}
structure aF (ps:List Pt) (ts:List (Nat×Nat×Nat)) (m:MQ) (pl:List P2):Prop where
  inv:Nb m (BE m).length pl ts
  dst:Yv pl
  pl_len:ps.length=pl.length
  at_:∀i,i<pl.length->ps.getD i ⟨0,0⟩=CC (Ge (mapM m) (BT m) (pl.getD i (0,0)))
theorem FJ.lattice (g:FJ ps ts):∃m pl,aF ps ts m pl:=by
  obtain ⟨m,pl,h1,h2,h3⟩:=g.lat
  have hz:(Ch m pl).length=pl.length:=by simp [Ch]
  refine ⟨m,pl,h1,h2,by rw [h3,F_ Z],λi hi=>?_⟩
  rw [h3,<-hz,Jn (by rw [hz];exact hi),H9 hi]
  rfl
theorem aF.cell {m:MQ} {pl:List P2} (l:aF ps ts m pl) {t:Nat} (ht:t<ts.length):(BE m).getD t ((0,0),(0,0),(0,0))∈BE m:=by
  have h:=l.inv.tl
  rw [List.getD,List.getElem?_eq_getElem Z];exact List.getElem_mem _
theorem aF.inC {m:MQ} {pl:List P2} (l:aF ps ts m pl) {t:Nat} (ht:t<ts.length) {X Y:Rat} (h:Lf ps (ts.getD t (0,0,0)) (PQ (mapM m) (BT m) X Y)):Go.Proofs.YtpgncndhhhllfaaGreatDoor.inC ((BE m).getD t ((0,0),(0,0),(0,0))) X Y:=by
  obtain ⟨c,hc,key⟩:=Ol (Em m.a m.b m.c m.d) (BT m)
  have hk:mapM m=F8 m.a m.b m.c m.d:=rfl
  rw [<-hk] at key
  have hat:=l.inv.at_ t (by have:=l.inv.tl;omega)
  obtain ⟨⟨a1,a2⟩,⟨b1,b2⟩,⟨c1,c2⟩⟩:=hat
  obtain ⟨k1,k2,k3⟩:=h
  rw [l.at_ _ b1,l.at_ _ c1,b2,c2,<-Fq,key] at k1
  rw [l.at_ _ a1,l.at_ _ c1,a2,c2,Fq,key] at k2
  rw [l.at_ _ a1,l.at_ _ b1,a2,b2,key] at k3
  exact (NM m t X Y).2 (Ha hc k1) (Ha hc k2) (Ha hc k3)
theorem aF.idx {m:MQ} {pl:List P2} (l:aF ps ts m pl) {t p:Nat} (ht:t<ts.length) (hp:p<pl.length) (h:∃k,k<3/\C3 ((BE m).getD t ((0,0),(0,0),(0,0))) k=pl.getD p (0,0)):CS (ts.getD t (0,0,0)) p=true:=by
  obtain ⟨k,hk,e⟩:=h
  obtain ⟨r,hr,e2⟩:=Zf m t hk
  obtain ⟨h1,h2⟩:=(l.inv.at_ t (by have:=l.inv.tl;omega)).crn hr
  have e3:Ar m t r=pl.getD p (0,0):=by rw [<-e,<-e2];rfl
  exact Kw.2 ⟨r,hr,l.dst _ _ h1 hp (by rw [h2,e3])⟩
theorem Ii (g:FJ ps ts) {p:Nat} (hp:p<ps.length):∃j,j<ts.length/\CS (ts.getD j (0,0,0)) p=true:=by
  obtain ⟨m,pl,l⟩:=g.lattice
  obtain ⟨j,hj,h⟩:=l.inv.used p (by rw [<-l.pl_len];exact hp)
  refine ⟨j,by have:=l.inv.tl;omega,?_⟩
  simp only [CS,Bool.or_eq_true,beq_iff_eq]
  rcases h with h|h|h
  · exact .inl (.inl h)
  · exact .inl (.inr h)
  · exact .inr h
theorem UY (g:FJ ps ts) {p q:Nat} (hp:p<ps.length) (hq:q<ps.length) (h:ps.getD p ⟨0,0⟩=ps.getD q ⟨0,0⟩):p=q:=by
  obtain ⟨m,pl,l⟩:=g.lattice
  obtain ⟨j,hj,hh⟩:=Ii g hq
  obtain ⟨r,hr,e⟩:=Kw.1 hh
  have hp':p<pl.length:=by rw [<-l.pl_len];exact hp
  have hq':q<pl.length:=by rw [<-l.pl_len];exact hq
  rw [l.at_ p hp',l.at_ q hq'] at h
  refine l.dst p q hp' hq' ?_
  have hD:0<(((max (BT m) 1:Nat):Int):Rat):=by exact_mod_cast (show (0:Int)<((max (BT m) 1:Nat):Int) by omega)
  have hk:=Em m.a m.b m.c m.d
  have hdet:=hk.pos
  have hx:=congrArg Pt.x h
  have hy:=congrArg Pt.y h
  rw [JQ,JQ] at hx hy
  simp only [PQ,Rat.div_def] at hx hy
  have hi:=Rat.inv_pos.2 hD
  generalize (((max (BT m) 1:Nat):Int):Rat)⁻¹=e at *
  generalize pl.getD p (0,0)=A at *
  generalize pl.getD q (0,0)=B at *
  obtain ⟨x1,y1⟩:=A
  obtain ⟨x2,y2⟩:=B
  simp only at hx hy
  have hd:(0:Rat)<((mapM m).det:Rat):=by exact_mod_cast hdet
  have ed:((mapM m).det:Rat)=((mapM m).a:Rat)*((mapM m).d:Rat)-((mapM m).b:Rat)*((mapM m).c:Rat):=by simp only [DH.det,Rat.intCast_sub,Rat.intCast_mul]
  rw [ed] at hd
  generalize ((mapM m).a:Rat)=a at *
  generalize ((mapM m).b:Rat)=b at *
  generalize ((mapM m).c:Rat)=c at *
  generalize ((mapM m).d:Rat)=d at *
  clear hD hk hdet ed h
  have hX:((x1:Rat)-(x2:Rat))*(a*d-b*c)*e=0:=by grind
  have hY:((y1:Rat)-(y2:Rat))*(a*d-b*c)*e=0:=by grind
  have z1:(x1:Rat)-(x2:Rat)=0:=by
    rcases Rat.mul_eq_zero.1 hX with h|h
    · rcases Rat.mul_eq_zero.1 h with h|h
      · exact h
      · grind
    · grind
  have z2:(y1:Rat)-(y2:Rat)=0:=by
    rcases Rat.mul_eq_zero.1 hY with h|h
    · rcases Rat.mul_eq_zero.1 h with h|h
      · exact h
      · grind
    · grind
  have w1:(x1:Rat)=(x2:Rat):=by grind
  have w2:(y1:Rat)=(y2:Rat):=by grind
  exact Prod.ext (by exact_mod_cast w1) (by exact_mod_cast w2)
theorem JC (g:FJ ps ts) {p t:Nat} (hp:p<ps.length) (ht:t<ts.length) (h:Lf ps (ts.getD t (0,0,0)) (ps.getD p ⟨0,0⟩)):CS (ts.getD t (0,0,0)) p=true:=by
  obtain ⟨m,pl,l⟩:=g.lattice
  have hp':p<pl.length:=by rw [<-l.pl_len];exact hp
  obtain ⟨j,hj,hh⟩:=Ii g hp
  obtain ⟨r,hr,e⟩:=Kw.1 hh
  have hc:=((l.inv.at_ j (by have:=l.inv.tl;omega)).crn hr).2
  rw [e] at hc
  refine l.idx ht hp' ?_
  rw [l.at_ p hp',JQ] at h
  have h2:=l.inC ht h
  rw [hc] at h2 ⊢
  exact OY (l.cell hj) (l.cell ht) (Nat.mod_lt _ (by decide)) h2
theorem Vs (g:FJ ps ts) {s t r:Nat} (hs:s<ts.length) (ht:t<ts.length) (hr:r<3) (h:Lf ps (ts.getD t (0,0,0)) (Hu (ps.getD (crn (ts.getD s (0,0,0)) r) ⟨0,0⟩+ps.getD (crn (ts.getD s (0,0,0)) ((r+1)%3)) ⟨0,0⟩) (1/2))) :
    CS (ts.getD t (0,0,0)) (crn (ts.getD s (0,0,0)) r)=true/\CS (ts.getD t (0,0,0)) (crn (ts.getD s (0,0,0)) ((r+1)%3))=true:=by
  obtain ⟨m,pl,l⟩:=g.lattice
  have hat:=l.inv.at_ s (by have:=l.inv.tl;omega)
  obtain ⟨a1,a2⟩:=hat.crn hr
  obtain ⟨b1,b2⟩:=hat.crn (Nat.mod_lt (r+1) (show 0<3 by decide))
  rw [l.at_ _ a1,l.at_ _ b1,ZE,a2,b2] at h
  have h2:=l.inC ht h
  unfold Ar at h2
  rw [OL] at h2
  obtain ⟨k1,k2⟩:=Uc (l.cell hs) (l.cell ht) (r:=I0 m s r) (Nat.mod_lt _ (by decide)) h2
  refine ⟨l.idx ht a1 ?_,l.idx ht b1 ?_⟩
  · rw [a2];exact k1
  · rw [b2];unfold Ar;rw [OL];exact k2
end
end
section
def Vz (t:T3) (p:Nat):Int:=if p=t.1 then 0 else if p=t.2.1 then 1 else if p=t.2.2 then 2 else -1
theorem Yh (t:T3) (p:Nat):decide (0<=Vz t p)=CS t p:=by
  unfold Vz CS
  by_cases h1:p=t.1
  · rw [if_pos h1,h1];simp
  · have h1':¬t.1=p:=λe=>h1 e.symm
    rw [if_neg h1]
    by_cases h2:p=t.2.1
    · rw [if_pos h2,h2];simp
    · have h2':¬t.2.1=p:=λe=>h2 e.symm
      rw [if_neg h2]
      by_cases h3:p=t.2.2
      · rw [if_pos h3,h3];simp
      · have h3':¬t.2.2=p:=λe=>h3 e.symm
        rw [if_neg h3];simp [h1',h2',h3']
abbrev Q3:=Pt×Pt×Pt
def Hv (x:Q3):List Value:=Am x.1++(Am x.2.1++(Am x.2.2++[]))
theorem bh (a b c:Pt):Am a++Am b++Am c=Hv (a,b,c):=by simp [Hv]
def Bl (ps:List Pt) (t:T3):Q3:=(cor ps t.1,cor ps t.2.1,cor ps t.2.2)
def NY (p q r:Pt):Bool:=decide (0<(AX p q r).num.sign)
def Uo (p q:Pt) (B:Q3):Int:=if NY p q B.1=true then 0 else if NY p q B.2.1=true then 1 else if NY p q B.2.2=true then 2 else -1
def GS (p q:Pt) (B:Q3):Bool:=NY p q B.1||NY p q B.2.1||NY p q B.2.2
theorem Xb (p q:Pt) (B:Q3):decide (0<=Uo p q B)=GS p q B:=by
  unfold Uo GS
  cases NY p q B.1<;>cases NY p q B.2.1<;>cases NY p q B.2.2<;>rfl
def EW (A B:Q3):Bool:=!GS A.1 A.2.1 B||(!GS A.2.1 A.2.2 B||!GS A.2.2 A.1 B)
structure Jc (ps:List Pt) (ts ss:List T3):Prop where
  pl:ps.length<=4096
  tl:ts.length<=8192
  t0:0<ts.length
  sl:ss.length<=24576
  sz:∀k,B_ (cor ps k)<=1000
  num:By ps.length ts=true
  pos:∀j,j<ts.length->(AX (cor ps (ts.getD j (0,0,0)).1) (cor ps (ts.getD j (0,0,0)).2.1) (cor ps (ts.getD j (0,0,0)).2.2)).num.sign=1
  sid:∀j,j<ss.length->(ss.getD j (0,0,0)).1<ps.length/\(ss.getD j (0,0,0)).2.1<ps.length/\(ss.getD j (0,0,0)).2.2<=255
  use:∀p,p<ps.length->∃j,j<ts.length/\CS (ts.getD j (0,0,0)) p=true
  dst:ps.Nodup
  apart:∀i k,i<ts.length->k<i->(!EW (Bl ps (ts.getD i (0,0,0))) (Bl ps (ts.getD k (0,0,0)))&&!EW (Bl ps (ts.getD k (0,0,0))) (Bl ps (ts.getD i (0,0,0))))=false
  crn:∀i p,i<ts.length->p<ps.length->CS (ts.getD i (0,0,0)) p=false->KF ps (cor ps p) (ts.getD i (0,0,0))=0
  rl:ss.length=(Bi ts).length
  rim:∀j,j<ss.length->(ss.getD j (0,0,0)).1=((Bi ts).getD j (0,0,0)).1/\(ss.getD j (0,0,0)).2.1=((Bi ts).getD j (0,0,0)).2.1
theorem Jc.szM {ps:List Pt} {ts ss:List T3} (h:Jc ps ts ss) (k:Nat):B_ (cor ps k)<=1000000:=Nat.le_trans (h.sz k) (by decide)
def NT (x y:Pt):Int:=if Vp x y then -1 else if Vp y x then 1 else 0
theorem Ft {x y:Pt}:NT x y<0↔Vp x y:=by
  unfold NT
  split
  · exact ⟨λ_=>by assumption,λ_=>by decide⟩
  · rename_i h
    split<;>exact ⟨λk=>absurd k (by decide),λk=>absurd k h⟩
theorem SC {ys:List Pt} (h:ys.Nodup) {k:Nat} (h1:1<=k) (hk:k<ys.length) (e:ys.getD k ⟨0,0⟩=ys.getD (k-1) ⟨0,0⟩):False:=by
  rw [List.getD,List.getD,List.getElem?_eq_getElem hk,List.getElem?_eq_getElem (show k-1<ys.length by omega)] at e
  have:=(List.getElem_inj h).1 e
  omega
def bL (us:List Bool):List Value:=us.map Value.bool
theorem Nl (us:List Bool):(bL us).length=us.length:=List.length_map _
theorem PZ (us:List Bool) (j:Nat) (v:Bool):(bL us).set j (.bool v)=bL (us.set j v):=by unfold bL;rw [List.map_set]
theorem ZP {us:List Bool} {j:Nat} (h:j<us.length):(bL us)[j*1]?=some (.bool (us.getD j false)):=by simp [bL,h]
def KT (ts:List T3) (n i:Nat):List Bool:=(List.range n).map λp=>(ts.take i).any λt=>CS t p
theorem G_ (ts:List T3) (n i:Nat):(KT ts n i).length=n:=by simp [KT]
theorem TI (ts:List T3) (n:Nat):List.replicate n false=KT ts n 0:=by
  unfold KT
  rw [List.take_zero]
  apply List.ext_getElem?
  intro j
  rcases Nat.lt_or_ge j n with h|h
  · simp [h]
  · rw [List.getElem?_eq_none (by simpa using h),List.getElem?_eq_none (by simpa using h)]
theorem Sn {ts:List T3} {n i:Nat} (h:i<ts.length):(((KT ts n i).set (ts.getD i (0,0,0)).1 true).set (ts.getD i (0,0,0)).2.1 true).set (ts.getD i (0,0,0)).2.2 true=KT ts n (i+1):=by
  apply List.ext_getElem?
  intro j
  have e:ts.take (i+1)=ts.take i++[ts.getD i (0,0,0)]:=by rw [List.take_add_one,List.getD,List.getElem?_eq_getElem h];rfl
  generalize ts.getD i (0,0,0)=T at *
  unfold KT
  rw [e]
  simp only [List.getElem?_set,List.length_set,List.length_map,List.length_range,List.getElem?_map,List.any_append,List.any_cons,List.any_nil,Bool.or_false]
  rcases Nat.lt_or_ge j n with hj|hj
  · rw [List.getElem?_range hj]
    simp only [Option.map_some]
    unfold CS
    by_cases h1:T.1=j<;>by_cases h2:T.2.1=j<;>by_cases h3:T.2.2=j<;>simp [h1,h2,h3]<;>try omega
  · rw [List.getElem?_eq_none (by simpa using hj)]
    simp only [Option.map_none]
    by_cases h1:T.1=j<;>by_cases h2:T.2.1=j<;>by_cases h3:T.2.2=j<;>simp [h1,h2,h3]<;>omega
theorem VV {ts:List T3} {n p:Nat} (hp:p<n) (h:∃j,j<ts.length/\CS (ts.getD j (0,0,0)) p=true):(KT ts n ts.length).getD p false=true:=by
  unfold KT
  rw [List.getD,List.getElem?_map,List.getElem?_range hp,Option.map_some,Option.getD_some,List.take_length,List.any_eq_true]
  obtain ⟨j,hj,h⟩:=h
  exact ⟨_,List.getElem_mem hj,by rwa [List.getD,List.getElem?_eq_getElem hj] at h⟩
section
variable {P:Program} {ops:Array Oper} {rest:List Oper} {Q:Exit->Act->World->Prop} {n d i z m c:Nat} {F:List (Nat×Value)} {w0:BJ} {L L':List As} {t ty T:TypeId} {p:String} {af:Array Edge} {x y:Operand} {cs vs:List Value} {q:Option Addr} {v:Value}
theorem AE.makeBool {ki kj:IntKind} {bytes:Nat} (ht:Oi P t T (.bool false) bytes) (hx:evF F x=some (.int ki (m:Nat))) (hy:evF F y=some (.int kj (m:Nat))) (hm:m<=1099511627776) (hb:Nat.ble bytes 16=true) (hd:Nat.ble (d+1) n=true)
    (next:∀b,OwnOk (some ⟨b,0,none⟩) m m->AE P ops rest Q n ((d,.slice (some ⟨b,0,none⟩) m m)::F) w0 (rowW (some ⟨b,0,none⟩) T 1 m m (bL (List.replicate m false))::L)) :
    AE P ops (⟨some d,.makeSlice t x y,ty,p,af,none⟩::rest) Q n F w0 L:=AE.makeRow ht hx hy hm hb hd λb ho=>by
  have h:=next b ho
  unfold bL at h
  rw [List.map_replicate] at h
  exact h
end
section
variable {P:Program} {n:Nat} {F:List (Nat×Value)} {w0:BJ} {L:List As} {x:Operand} {d:Option Tmp} {t:TypeId} {p:String} {af:Array Edge} {g:Option (Nat×Bool)}
theorem NP {tx e:TypeId} {b off len k:Nat} (hx:evF F x=some (.pointer (some ⟨b,off,none⟩))) (hu:P.underlying tx=some (.array len e)) (hs:∀w,(sizeOf e).run P w=.ok k w) (h0:0<len) :
    Ex P n F w0 L ⟨d,.slice tx x none none none,t,p,af,g⟩ (.slice (some ⟨b,off,none⟩) len len):=λA w ha _=>by
  have e1:¬len=0:=by omega
  simp [execOp,ha.ev hx,Instr.sliceAt,run_underlying hu,Instr.sureAddr,Instr.sliceBounds,Instr.sliceBound,hs,e1,Addr.add_lit]
end
theorem Xa {S:Nat->Prop} {w:World} {ts:List T3} {x:RX (rowsL Ai ts) ts.length} (h:Ro S w x) {j:Nat} (hj:j<ts.length) (ok:BF (some ⟨pB x.p,pO x.p+j*3,none⟩) 3 3):Ro S w (⟨some ⟨pB x.p,pO x.p+j*3,none⟩,3,ok⟩:RX (Ai (ts.getD j (0,0,0))) 3):=λy hy=>by
  rcases List.mem_singleton.1 hy with rfl
  obtain ⟨h1,h2⟩:=h (AQ x.p (rowsL Ai ts)) (List.mem_singleton.2 rfl)
  obtain ⟨a,hp⟩:∃a,x.p=some a:=by
    cases hp:x.p with
    | none=>have:=(x.ok.nil hp).1;omega
    | some a=>exact ⟨a,rfl⟩
  have e:(some (⟨pB x.p,pO x.p+j*3,none⟩:Addr)).map (·.block)=x.p.map (·.block):=by rw [hp];rfl
  refine ⟨λb hb=>?_,λb hb=>h2 b (e.symm.trans hb)⟩
  obtain ⟨o,ho,cur,T,fr,rfl,hc⟩:=h1 b (e.symm.trans hb)
  refine ⟨_,ho,cur,T,fr,rfl,?_⟩
  have hl:=A7 Az (0,0,0) ts j hj
  have hz:=Ak Az ts
  show (cur.toList.drop (pO x.p+j*3)).take 3=_
  refine Eq.trans ?_ hl
  refine Eq.trans ?_ (congrArg (λl:List Value=>(l.drop (j*3)).take 3) hc)
  show _=(((cur.toList.drop (pO x.p)).take (rowsL Ai ts).length).drop (j*3)).take 3
  rw [List.drop_take,List.take_take,List.drop_drop]
  congr 1
  omega
theorem aI (b o:Nat):BF (some ⟨b,o,none⟩) 3 3:=⟨λe=>(by cases e),λa e=>(by injection e with e;subst e;rfl),Nat.le_refl _⟩
end
def NE (ps:List Pt) (t:T3):Rat:=AX (cor ps t.1) (cor ps t.2.1) (cor ps t.2.2)*(1/2)
def EC (ps:List Pt) (ts:List T3):Nat->Rat
  | 0=>0
  | i+1=>EC ps ts i+NE ps (ts.getD i (0,0,0))
theorem Rx {ps:List Pt} (hz:∀k,B_ (cor ps k)<=1000) (t:T3):Sz (NE ps t)<=8009:=by
  have h1:=Dl (cor ps t.1) (cor ps t.2.1) (cor ps t.2.2)
  have z1:=hz t.1
  have z2:=hz t.2.1
  have z3:=hz t.2.2
  have h2:=EK (AX (cor ps t.1) (cor ps t.2.1) (cor ps t.2.2)) (1/2)
  have h3:=Rc
  unfold NE
  omega
theorem J1 {ps:List Pt} (hz:∀k,B_ (cor ps k)<=1000) (ts:List T3):∀i,Sz (EC ps ts i)<=2+i*8010
  | 0=>by show Sz (0:Rat)<=2+0*8010;decide +kernel
  | i+1=>by
    have h:=J1 hz ts i
    have h1:=Rx hz (ts.getD i (0,0,0))
    have h4:=LZ (EC ps ts i) (NE ps (ts.getD i (0,0,0)))
    show Sz (EC ps ts i+NE ps (ts.getD i (0,0,0)))<=_
    omega
section
def Jj (t:T3) (p:Int):Bool:=decide ((t.1:Int)=p)||(decide ((t.2.1:Int)=p)||decide ((t.2.2:Int)=p))
def Te (t:T3) (p:Int):Int:=if (t.1:Int)=p then 0 else if (t.2.1:Int)=p then 1 else if (t.2.2:Int)=p then 2 else -1
theorem YH (t:T3) (p:Int):decide (0<=Te t p)=Jj t p:=by
  unfold Te Jj
  by_cases h1:(t.1:Int)=p
  · rw [if_pos h1];simp [h1]
  · rw [if_neg h1]
    by_cases h2:(t.2.1:Int)=p
    · rw [if_pos h2];simp [h2]
    · rw [if_neg h2]
      by_cases h3:(t.2.2:Int)=p
      · rw [if_pos h3];simp [h3]
      · rw [if_neg h3];simp [h1,h2,h3]
def N4 (ts:List T3) (p:Int) (i:Nat):List Nat:=(List.range i).filter λt=>Jj (ts.getD t (0,0,0)) p
section
variable {ts:List T3} {ps:List Pt} {p:Int} {i:Nat}
theorem XY (h:Jj (ts.getD i (0,0,0)) p=true):N4 ts p (i+1)=N4 ts p i++[i]:=by
  unfold N4
  rw [List.range_succ,List.filter_append]
  simp only [List.filter,h]
theorem Z_ (h:Jj (ts.getD i (0,0,0)) p=false):N4 ts p (i+1)=N4 ts p i:=by
  unfold N4
  rw [List.range_succ,List.filter_append]
  simp only [List.filter,h,List.append_nil]
theorem V1:(N4 ts p i).length<=i:=by
  have:=List.length_filter_le (λt=>Jj (ts.getD t (0,0,0)) p) (List.range i)
  rwa [List.length_range] at this
end
end
end Go.Proofs.YtpgncndhhhllfaaGreatDoor
