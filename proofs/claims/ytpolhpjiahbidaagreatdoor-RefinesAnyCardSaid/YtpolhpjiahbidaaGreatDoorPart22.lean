import Derived.Shelf.SlSortCmp.WholeK
import Derived.Test.YtpolhpjiahbidaaGreatDoorPart00
import Derived.Test.YtpolhpjiahbidaaGreatDoorPart18
import Derived.Test.YtpolhpjiahbidaaGreatDoorPart20
import Derived.Test.YtpolhpjiahbidaaGreatDoorPart21
namespace Go.Proofs.YtpolhpjiahbidaaGreatDoor
open Go Go.RowKit Go.Proofs.Tryz
set_option linter.unusedVariables false
set_option linter.unusedSimpArgs false
theorem Wx {w w':World} (h:GG w.heap.size w w'):∃(q:Nat) (os:Array Obj),w'=Go.Sort.grow (w.drewN q) os:=by
  refine ⟨w'.drawn-w.drawn,w'.heap.extract w.heap.size w'.heap.size,?_⟩
  have h1:=h.os;have h2:=h.tape;have h3:=h.output;have h4:=h.size;have h5:=h.block;have h6:=h.drawn
  have hh:w'.heap=w.heap++w'.heap.extract w.heap.size w'.heap.size:=by
    apply Array.ext_getElem?
    intro i
    rw [Array.getElem?_append]
    split
    · rename_i hi;exact h5 i hi
    · rename_i hi
      rw [Array.getElem?_extract]
      split
      · congr 1;omega
      · rename_i hj;rw [Array.getElem?_eq_none Z]
  obtain ⟨hp,tp,dr,os,out⟩:=w'
  obtain ⟨hp0,tp0,dr0,os0,out0⟩:=w
  simp only at h1 h2 h3 h4 h6 hh
  subst h1;subst h2;subst h3
  show World.mk hp tp dr os out=World.mk (hp0++hp.extract hp0.size hp.size) tp (dr0+(dr-dr0)) os out
  rw [<-hh,show dr0+(dr-dr0)=dr by omega]
section
instance:Inhabited E4:=⟨⟨0,0,0,0⟩⟩
theorem Ja (a b:Nat):(a<b/\Dx a b = -1)\/(b<a/\Dx a b=1)\/(a=b/\Dx a b=0):=by
  rcases Nat.lt_trichotomy a b with h|h|h
  · exact .inl ⟨h,Pp h⟩
  · exact .inr (.inr ⟨h,P1 Z Z⟩)
  · exact .inr (.inl ⟨h,Qa Z h⟩)
theorem VW {p q:Int}:UO p q<0↔p<0\/(p=0/\q<0):=by
  unfold UO
  split
  · omega
  · split<;>omega
theorem EA {x y:E4}:NO x y<0↔x.a<y.a\/(x.a=y.a/\x.b<y.b):=by
  unfold NO
  rw [VW]
  rcases Ja x.a y.a with ⟨h1,e1⟩|⟨h1,e1⟩|⟨h1,e1⟩<;>rcases Ja x.b y.b with ⟨h2,e2⟩|⟨h2,e2⟩|⟨h2,e2⟩<;>rw [e1,e2]<;>omega
def Qk (x y:E4):Prop:=¬NO y x<0
theorem JK {x y:E4}:Qk x y↔x.a<y.a\/(x.a=y.a/\x.b<=y.b):=by unfold Qk;rw [EA];omega
theorem Zp:Go.Sort.SWO (ltOf NO) where
  irrefl x:=decide_eq_false (by rw [EA];omega)
  trans x y z h1 h2:=by
    have h1:=EA.1 (of_decide_eq_true h1)
    have h2:=EA.1 (of_decide_eq_true h2)
    exact decide_eq_true (EA.2 Z)
  ntrans x y z h1 h2:=by
    have h1:=of_decide_eq_false h1
    have h2:=of_decide_eq_false h2
    rw [EA] at h1 h2
    exact decide_eq_false (by rw [EA];omega)
theorem ZP (AU off size:Nat) (w:World):CmpLays prog 168 #[] BY 4 NO AU off size w:=λm os dk _ x y=>by
  rw [Array.append_empty]
  exact (Vt x y _).mono λe w' h=>⟨h.1,Wx h.2⟩
theorem Lp {d:Array E4} {t:Nat} (h:t<d.size*4):(rowsL BY d.toList)[t]?=some (Go.Sort.flatK BY 4 d)[t]!:=by
  rw [Go.Sort.get_flatK _ _ _ _ h]
  have h1:t/4<d.size:=by omega
  have h2:=BW CC (⟨0,0,0,0⟩:E4) d.toList (t/4) (t%4) (by simpa using h1) (Nat.mod_lt _ (by decide)) (v:=(BY d[t/4]!)[t%4]!) (by
    rw [List.getD,show d.toList[t/4]?=some d[t/4] from by simp [h1],getElem!_pos d (t/4) h1]
    have hl:t%4<(BY d[t/4]).length:=by rw [CC];exact Nat.mod_lt _ (by decide)
    show (BY d[t/4])[t%4]?=some (BY d[t/4])[t%4]!
    rw [List.getElem?_eq_getElem hl,getElem!_pos (BY d[t/4]) (t%4) hl])
  rw [show t/4*4+t%4=t by omega] at h2
  exact h2
def R3 (x:E4):List E4->List E4
  | []=>[x]
  | y::r=>if NO x y<0 then x::y::r else y::R3 x r
def Q9:List E4->List E4
  | []=>[]
  | x::r=>R3 x (Q9 r)
theorem H7 (x:E4):∀l,(R3 x l).Perm (x::l)
  | []=>List.Perm.refl _
  | y::r=>by
    unfold R3
    split
    · exact List.Perm.refl _
    · exact (List.Perm.cons y (H7 x r)).trans (List.Perm.swap x y r)
theorem DV:∀l,(Q9 l).Perm l
  | []=>List.Perm.refl _
  | x::r=>(H7 x (Q9 r)).trans (List.Perm.cons x (DV r))
theorem Id (x:E4):∀l,l.Pairwise Qk->(R3 x l).Pairwise Qk
  | [],_=>List.pairwise_singleton _ _
  | y::r,h=>by
    obtain ⟨h1,h2⟩:=List.pairwise_cons.1 h
    unfold R3
    split
    · rename_i k
      have hxy:Qk x y:=by rw [JK];have:=EA.1 k;omega
      refine List.pairwise_cons.2 ⟨λz hz=>?_,h⟩
      rcases List.mem_cons.1 hz with rfl|hz
      · exact hxy
      · have h3:=h1 z hz;rw [JK] at *;omega
    · rename_i k
      refine List.pairwise_cons.2 ⟨λz hz=>?_,Id x r h2⟩
      rcases List.mem_cons.1 ((H7 x r).mem_iff.1 hz) with rfl|hz
      · exact k
      · exact h1 z hz
theorem GX:∀l,(Q9 l).Pairwise Qk
  | []=>List.Pairwise.nil
  | x::r=>Id x _ (GX r)
def Li (l:List E4):Prop:=l.Pairwise (λx y=>¬(x.a=y.a/\x.b=y.b))
theorem QO:∀{l:List E4},Li l->∀x∈l,∀y∈l,x.a=y.a->x.b=y.b->x=y
  | z::r,h,x,hx,y,hy,e,e'=>by
    obtain ⟨h1,h2⟩:=List.pairwise_cons.1 h
    rcases List.mem_cons.1 hx with ex|hx'<;>rcases List.mem_cons.1 hy with ey|hy'
    · rw [ex,ey]
    · rw [ex] at e e';exact absurd ⟨e,e'⟩ (h1 y hy')
    · rw [ey] at e e';exact absurd ⟨e.symm,e'.symm⟩ (h1 x hx')
    · exact QO h2 x hx' y hy' e e'
theorem Rz {l l':List E4} (hp:l'.Perm l) (hs:l'.Pairwise Qk) (hn:Li l):l'=Q9 l:=by
  refine List.Perm.eq_of_pairwise (le:=Qk) (λx y hx hy h1 h2=>?_) hs (GX l) (hp.trans (DV l).symm)
  rw [JK] at h1 h2
  exact QO hn x (hp.mem_iff.1 hx) y ((DV l).mem_iff.1 hy) Z Z
theorem Sy (xs:List E4) (p:Option Addr) (n c:Nat) (T:TypeId) (ho:OwnOk p n c) (hp0:p≠none) (hn:n=xs.length) (hN:n<4611686018427387904) (w:World) (hrow:∀b,p.map (·.block)=some b->∃o,w.heap[b]?=some o/\(rowW p T 4 n c (rowsL BY xs)).P o) :
    Calls prog 167 #[.slice p n c,.func (.func 168) #[] #[]] w λe w'=>e=.returned (.tuple #[])/\Kc w w' (p.map (·.block))/\∃ys:List E4,ys.Perm xs/\ys.Pairwise Qk/\∀b,p.map (·.block)=some b->∃o,w'.heap[b]?=some o/\(rowW p T 4 n c (rowsL BY ys)).P o:=by
  cases hp:p with
  | none=>exact absurd hp hp0
  | some a =>
    subst hp
    obtain ⟨o,hob,cur,rfl,hsz,hcur⟩:=hrow a.block rfl
    have hat:=ho.at0 a rfl
    have hle:=ho.le
    obtain ⟨d,hd⟩:∃d,d=xs.toArray:=⟨_,rfl⟩
    have hdz:d.size=n:=by rw [hd,hn];simp
    have hdx:d.toList=xs:=by rw [hd]
    have hH:Go.Sort.HoldsK BY 4 w a.block 0 d:=λj hj=>by
      have hj':j<d.size*4:=by simpa using hj
      refine ⟨?_,by simp [World.frozen?,hob]⟩
      have h1:(cur.toList.take (n*4))[j]?=(rowsL BY xs)[j]?:=by rw [hcur]
      rw [List.getElem?_take_of_lt Z,Array.getElem?_toList,<-hdx,Lp hj'] at h1
      show w.cell? ⟨a.block,0+j,none⟩=some (id (Go.Sort.flatK BY 4 d)[j]!)
      unfold World.cell?
      simp only [hob,Nat.zero_add]
      exact h1
    have hlt:a.block<w.heap.size:=by
      rcases Nat.lt_or_ge a.block w.heap.size with h|h
      · exact h
      · rw [Array.getElem?_eq_none h] at hob;cases hob
    have h:=Tryz.slices_SortFunc_Edge 4 isAgg49 sizeOf49 BY CC (λx v hv=>by
      unfold BY at hv
      simp only [List.mem_cons,List.not_mem_nil,or_false] at hv
      rcases hv with rfl|rfl|rfl|rfl<;>rfl) NO Zp 168 #[] a.block 0 c d w call168 (ZP a.block 0 d.size w) hH hlt Z
    rw [hdz] at h
    rw [hat]
    refine h.mono ?_
    rintro e w' ⟨rfl,d',m,os,⟨hz',_,hperm⟩,hsort,rfl⟩
    have hz2:d'.size=n:=by rw [hz',hdz]
    have hperm':d'.toList.Perm d.toList:=by
      have e1:d'.extract 0 n=d':=by rw [<-hz2];exact Array.extract_size
      have e2:d.extract 0 n=d:=by rw [<-hdz];exact Array.extract_size
      rw [e1,e2] at hperm
      exact hperm
    have hF:(Go.Sort.flatK BY 4 d').size=n*4:=by rw [Go.Sort.size_flatK,hz2]
    refine ⟨rfl,⟨⟨rfl,rfl,rfl,by simp [sortWorldK,Go.Sort.grow,Go.Sort.putRowK,Go.Sort.putRow,Go.Sort.mapBlock,Go.Sort.ahead],λj hj hne=>?_⟩,by show w.drawn<=w.drawn+m;omega⟩,d'.toList,by rw [<-hdx];exact hperm',List.pairwise_iff_getElem.2 λi j hi hj hij=>?_,λb e=>?_⟩
    · have hne':a.block≠j:=λe=>hne (by rw [e];rfl)
      unfold sortWorldK
      rw [Go.Sort.heap_grow_old _ _ (by simpa [Go.Sort.putRowK,Go.Sort.putRow,Go.Sort.mapBlock,Go.Sort.ahead] using hj)]
      simp [Go.Sort.putRowK,Go.Sort.putRow,Go.Sort.mapBlock,Go.Sort.ahead,Array.getElem?_modify,hne']
    · have hi':i<d'.size:=by simpa using hi
      have hj':j<d'.size:=by simpa using hj
      have h9:=of_decide_eq_false (hsort i j (Nat.zero_le _) hij Z)
      rw [getElem!_pos d' j hj',getElem!_pos d' i hi'] at h9
      simpa [Qk] using h9
    · injection e with e
      subst e
      refine ⟨.cells (Go.Sort.putCells id 0 (Go.Sort.flatK BY 4 d') cur) T (0,0),?_,_,rfl,by simp [Go.Sort.putCells,hsz],?_⟩
      · unfold sortWorldK
        rw [Go.Sort.heap_grow_old _ _ (by simpa [Go.Sort.putRowK,Go.Sort.putRow,Go.Sort.mapBlock,Go.Sort.ahead] using hlt)]
        simp [Go.Sort.putRowK,Go.Sort.putRow,Go.Sort.mapBlock,Go.Sort.ahead,Array.getElem?_modify,hob,Go.Sort.onCells]
      · apply List.ext_getElem?
        intro j
        have hlen:(rowsL BY d'.toList).length=n*4:=by rw [Aa CC,Array.length_toList,hz2]
        by_cases hj:j<n*4
        · have hcs:n*4<=c*4:=Nat.mul_le_mul_right _ hle
          rw [List.getElem?_take_of_lt hj,Array.getElem?_toList,Lp (by rw [hz2];exact hj)]
          unfold Go.Sort.putCells
          rw [Array.getElem?_mapIdx,Array.getElem?_eq_getElem Z,Option.map_some,if_pos ⟨Nat.zero_le _,Z⟩]
          rfl
        · rw [List.getElem?_take_eq_none Z,List.getElem?_eq_none Z]
def UG (kvs:List (P2×E4)) (q:Nat):E4:=(kvs.getD q ((0,0),⟨0,0,0,0⟩)).2
theorem V6 {kvs:List (P2×E4)} {q:Nat} {k:P2} {v:E4} (h:kvs[q]?=some (k,v)):UG kvs q=v:=by rw [UG,List.getD,h];rfl
theorem Jv:∀{n:Nat} {l:List Nat},l.Nodup->(∀x∈l,x<n)->l.length<=n
  | 0,[],_,_=>Nat.le_refl _
  | 0,x::r,_,h=>absurd (h x List.mem_cons_self) (Nat.not_lt_zero _)
  | n+1,l,h1,h2=>by
    have h3:(l.erase n).length<=n:=Jv (h1.erase n) λx hx=>by
      have h4:=h2 x (List.mem_of_mem_erase hx)
      have h5:x≠n:=λe=>by
        rw [e] at hx
        exact h1.not_mem_erase hx
      omega
    rw [List.length_erase] at h3
    split at h3<;>omega
theorem Ux {kvs:List (P2×E4)} {seen:List Nat} (h1:seen.Nodup) (h2:∀x∈seen,x<kvs.length) (h3:∀q,q<kvs.length->q∈seen):(seen.map (UG kvs)).Perm (kvs.map (·.2)):=by
  have hp:seen.Perm (List.range kvs.length):=(List.perm_ext_iff_of_nodup h1 List.nodup_range).2 λq=>⟨λh=>List.mem_range.2 (h2 q h),λh=>h3 q (List.mem_range.1 h)⟩
  refine (hp.map _).trans (List.Perm.of_eq ?_)
  apply List.ext_getElem?
  intro q
  rw [List.getElem?_map,List.getElem?_map]
  rcases Nat.lt_or_ge q kvs.length with h|h
  · rw [List.getElem?_range h,List.getElem?_eq_getElem h]
    simp [UG,List.getD,h]
  · rw [List.getElem?_eq_none (by simpa using h),List.getElem?_eq_none h];rfl
def Oj (kvs:List (P2×E4)):Prop:=∀p∈kvs,p.2.a=p.1.1/\p.2.b=p.1.2
theorem LZ (e:E4) (t a b:Nat):(FL e t a b).a=e.a/\(FL e t a b).b=e.b:=by
  unfold FL
  split
  · exact ⟨rfl,rfl⟩
  · split<;>exact ⟨rfl,rfl⟩
theorem Jf {kvs:List (P2×E4)} {x:P2} {v:E4} (h:A7 kvs x=some v):(x,v)∈kvs:=by
  induction kvs with
  | nil=>cases h
  | cons p r ih =>
    obtain ⟨k,u⟩:=p
    unfold A7 at h
    split at h
    · rename_i e
      injection h with h
      rw [e,h];exact List.mem_cons_self
    · exact List.mem_cons_of_mem _ (ih h)
theorem RY {kvs:List (P2×E4)} (h:Oj kvs) (x:P2):((A7 kvs x).getD (IC x)).a=x.1/\((A7 kvs x).getD (IC x)).b=x.2:=by
  cases hg:A7 kvs x with
  | none=>exact ⟨rfl,rfl⟩
  | some v=>exact h _ (Jf hg)
theorem Qs {kvs:List (P2×E4)} {x:P2} {y:E4} {p:P2×E4} (h:p∈BN kvs x y):p=(x,y)\/p∈kvs:=by
  induction kvs with
  | nil=>exact .inl (List.mem_singleton.1 h)
  | cons q r ih =>
    obtain ⟨k,u⟩:=q
    unfold BN at h
    split at h
    · rename_i e
      rcases List.mem_cons.1 h with h|h
      · exact .inl (by rw [h,e])
      · exact .inr (List.mem_cons_of_mem _ h)
    · rcases List.mem_cons.1 h with h|h
      · exact .inr (by rw [h];exact List.mem_cons_self)
      · exact (ih h).imp_right (List.mem_cons_of_mem _)
theorem KW (ts:List (Tq3)):∀s,Oj (CO ts s)
  | 0=>λp h=>by cases h
  | s+1=>λp h=>by
    have h0:=KW ts s
    rcases Qs h with rfl|h
    · have h1:=RY h0 (Bw (Gy (ts.getD (s/3) (0,0,0)) (s%3)) (Gy (ts.getD (s/3) (0,0,0)) ((s%3+1)%3)))
      have h2:=LZ ((A7 (CO ts s) (Bw (Gy (ts.getD (s/3) (0,0,0)) (s%3)) (Gy (ts.getD (s/3) (0,0,0)) ((s%3+1)%3)))).getD (IC (Bw (Gy (ts.getD (s/3) (0,0,0)) (s%3)) (Gy (ts.getD (s/3) (0,0,0)) ((s%3+1)%3))))) (s/3) (Gy (ts.getD (s/3) (0,0,0)) (s%3)) (Gy (ts.getD (s/3) (0,0,0)) ((s%3+1)%3))
      exact ⟨h2.1.trans h1.1,h2.2.trans h1.2⟩
    · exact h0 p h
theorem Lh {kvs:List (P2×E4)} {ok:P2->Prop} (h:Hi ok kvs) (he:Oj kvs):Li (kvs.map (·.2)):=by
  unfold Li
  rw [List.pairwise_map]
  refine List.Pairwise.imp_of_mem (λ{p q} hp hq hne=>?_) h.once
  rintro ⟨e1,e2⟩
  have h1:=he p hp
  have h2:=he q hq
  exact hne (Prod.ext (by rw [<-h1.1,<-h2.1,e1]) (by rw [<-h1.2,<-h2.2,e2]))
def An (ts:List (Tq3)):List E4:=Q9 ((CO ts (3*ts.length)).map (·.2))
theorem YI {ts:List (Tq3)} {N:Nat} {xs ys:List E4} (hn:Bn N ts=true) (hN:N<=4611686018427387904) (h1:ys.Perm xs) (h2:ys.Pairwise Qk) (h3:xs.Perm ((CO ts (3*ts.length)).map (·.2))):ys=An ts :=
  Rz (h1.trans h3) h2 (Lh (FH hn hN _ (Nat.le_refl _)) (KW ts _))
theorem Gi (ts:List (Tq3)):(An ts).length=(CO ts (3*ts.length)).length:=by rw [An,(DV _).length_eq,List.length_map]
section
variable {P:Program} {ops:Array Oper} {rest:List Oper} {Q:Exit->Act->World->Prop} {n:Nat} {F:List (Nat×Value)} {w0:A_} {L:List As}
theorem OkL.callS {o:Oper} {f:FuncId} {args:Array Value} {v:Value} (i:Nat) {q:Option Addr} {T:TypeId} {m c:Nat} {xs ys:List E4} (hw:Wt ops n F o)
    (he:∀a w,Cn n a F->BD w0 w L->(execOp a.eval o).run P w=.ok (.enter f args) w) (hi:L[i]?=some (rowW q T 4 m c (rowsL BY xs)))
    (hc:∀w,BD w0 w L->Calls P f args w λe w'=>e=.returned v/\Kc w w' (q.map (·.block))/\∃zs:List E4,zs.Perm xs/\zs.Pairwise Qk/\∀b,q.map (·.block)=some b->∃o,w'.heap[b]?=some o/\(rowW q T 4 m c (rowsL BY zs)).P o)
    (hu:∀zs:List E4,zs.Perm xs->zs.Pairwise Qk->zs=ys)
    (hd:∀d,o.dst=some d->d<n) (next:OkL P ops rest Q n (match o.dst with|some d=>(d,v)::F|none=>F) w0 (L.set i (rowW q T 4 m c (rowsL BY ys)))):OkL P ops (o::rest) Q n F w0 L :=
  OkL.callW i hw he hi (λw hW=>(hc w hW).mono λe w' ⟨h1,h2,zs,h3,h4,h5⟩=>⟨h1,h2,by rw [<-hu zs h3 h4];exact h5⟩) hd next
end
theorem KO {kvs:List (P2×E4)} {k:P2} (h:(A7 kvs k).isSome=false):IC k=(A7 kvs k).getD (IC k):=by
  cases hg:A7 kvs k with
  | none=>rfl
  | some v=>rw [hg] at h;cases h
theorem Ji {kvs:List (P2×E4)} {k:P2} {z:E4} (h:(A7 kvs k).isSome=true):(A7 kvs k).getD z=(A7 kvs k).getD (IC k):=by
  cases hg:A7 kvs k with
  | none=>rw [hg] at h;cases h
  | some v=>rfl
end
structure CX (cs:List Value) (n:Nat) where
  p:Option Addr
  ok:Av p n n
instance {cs:List Value} {n:Nat}:Cc (CX cs n):=⟨λa=>.slice a.p n n,λa=>[AE a.p cs],λa y hy=>by rcases List.mem_singleton.1 hy with rfl;rfl⟩
theorem Yc {S:Nat->Prop} {W w:World} {L:List As} (hw:BD ⟨W,none⟩ w L) (i:Nat) {p:Option Addr} {T:TypeId} {z n c:Nat} {cs:List Value} (hi:L[i]?=some (rowW p T z n c cs)) (ho:OwnOk p n c) (hl:cs.length=n*z) {v:Value} (hv:v=.slice p n n):Af (CX cs n) S W (.returned v) w :=
  ⟨⟨p,⟨λe=>⟨(ho.nil e).1,(ho.nil e).1⟩,λa e=>by rw [ho.at0 a e],Nat.le_refl _⟩⟩,by rw [hv];rfl,hw.out,λy hy=>by rcases List.mem_singleton.1 hy with rfl;exact Cs hw i hi ho hl⟩
theorem Af.ofCX {S:Nat->Prop} {W w:World} {e:Ending} {cs:List Value} {n:Nat} (h:Af (CX cs n) S W e w):Af (RX cs n) S W e w:=by
  obtain ⟨a,h1,h2,h3⟩:=h
  exact ⟨⟨a.p,n,a.ok⟩,h1,h2,λy hy=>by rcases List.mem_singleton.1 hy with rfl;exact h3 _ List.mem_cons_self⟩
end Go.Proofs.YtpolhpjiahbidaaGreatDoor
