import Derived.Test.YtpolhpjiahbidaaGreatDoorPrt11
import Derived.Test.YtpolhpjiahbidaaGreatDoorPrt12
namespace Go.Proofs.YtpolhpjiahbidaaGreatDoor
open Go Go.RowKit Go.Proofs.Tryz
open Go.Value renaming slice→qz,bool→qa
set_option linter.unusedVariables false
set_option linter.unusedSimpArgs false
theorem SP {w w':World} (h:Hu w.heap.size w w'):∃(q:Nat) (os:Array Obj),w'=Go.Sort.grow (w.drewN q) os:=by
  refine ⟨w'.drawn-w.drawn,w'.heap.extract w.heap.size w'.heap.size,?_⟩
  have h1:=h.os;have h2:=h.tape;have h3:=h.output;have h4:=h.size;have h5:=h.block;have h6:=h.drawn
  have hh:w'.heap=w.heap++w'.heap.extract w.heap.size w'.heap.size:=by
    apply Array.ext_getElem?
    intro i
    rw [Array.getElem?_append]
    split
    · rename_i hi;exact h5 i hi
    · rename_i hi
      rw [Array.getElem?_extract]
      split
      · congr 1;omega
      · rename_i hj;rw [Array.getElem?_eq_none Z]
  obtain ⟨hp,tp,dr,os,out⟩:=w'
  obtain ⟨hp0,tp0,dr0,os0,out0⟩:=w
  simp only at h1 h2 h3 h4 h6 hh
  subst h1;subst h2;subst h3
  show World.mk hp tp dr os out=World.mk (hp0++hp.extract hp0.size hp.size) tp (dr0+(dr-dr0)) os out
  rw [<-hh,show dr0+(dr-dr0)=dr by omega]
section
instance:Inhabited E4:=⟨⟨0,0,0,0⟩⟩
theorem Ko (a b:Nat):(a<b/\Eb a b = -1)\/(b<a/\Eb a b=1)\/(a=b/\Eb a b=0):=by
  rcases Nat.lt_trichotomy a b with h|h|h
  · exact .inl ⟨h,R8 h⟩
  · exact .inr (.inr ⟨h,R6 Z Z⟩)
  · exact .inr (.inl ⟨h,R7 Z h⟩)
theorem ZN {p q:Int}:Wy p q<0↔p<0\/(p=0/\q<0):=by
  unfold Wy
  split
  · omega
  · split<;>omega
theorem Et {x y:E4}:Oo x y<0↔x.a<y.a\/(x.a=y.a/\x.b<y.b):=by
  unfold Oo
  rw [ZN]
  rcases Ko x.a y.a with ⟨h1,e1⟩|⟨h1,e1⟩|⟨h1,e1⟩<;>rcases Ko x.b y.b with ⟨h2,e2⟩|⟨h2,e2⟩|⟨h2,e2⟩<;>rw [e1,e2]<;>omega
def S9 (x y:E4):Prop:=¬Oo y x<0
theorem KR {x y:E4}:S9 x y↔x.a<y.a\/(x.a=y.a/\x.b<=y.b):=by unfold S9;rw [Et];omega
theorem gE:Go.Sort.SWO (ltOf Oo) where
  irrefl x:=xq (by rw [Et];omega)
  trans x y z h1 h2:=by
    have h1:=Et.1 (xR h1)
    have h2:=Et.1 (xR h2)
    exact xr (Et.2 Z)
  ntrans x y z h1 h2:=by
    have h1:=xQ h1
    have h2:=xQ h2
    rw [Et] at h1 h2
    exact xq (by rw [Et];omega)
theorem dW (AU off size:Nat) (w:World):CmpLays prog 168 #[] Ba 4 Oo AU off size w:=λm os dk _ x y=>by
  rw [Array.append_empty]
  exact (YY x y _).mono λe w' h=>⟨h.1,SP h.2⟩
theorem Mz {d:Array E4} {t:Nat} (h:t<d.size*4):(rowsL Ba d.toList)[t]?=some (Go.Sort.flatK Ba 4 d)[t]!:=by
  rw [Go.Sort.get_flatK _ _ _ _ h]
  have h1:t/4<d.size:=by omega
  have h2:=By B6 jA d.toList (t/4) (t%4) (by simpa using h1) (Nat.mod_lt _ jY) (v:=(Ba d[t/4]!)[t%4]!) (by
    rw [List.getD,show d.toList[t/4]?=some d[t/4] from by simp [h1],getElem!_pos d (t/4) h1]
    have hl:t%4<(Ba d[t/4]).length:=by rw [B6];exact Nat.mod_lt _ jY
    show (Ba d[t/4])[t%4]?=some (Ba d[t/4])[t%4]!
    rw [xN hl,getElem!_pos (Ba d[t/4]) (t%4) hl])
  rw [show t/4*4+t%4=t by omega] at h2
  exact h2
def Td (x:E4):List E4->List E4
  | []=>[x]
  | y::r=>if Oo x y<0 then x::y::r else y::Td x r
def UP:List E4->List E4
  | []=>[]
  | x::r=>Td x (UP r)
theorem JH (x:E4):∀l,(Td x l).Perm (x::l)
  | []=>List.Perm.refl _
  | y::r=>by
    unfold Td
    split
    · exact List.Perm.refl _
    · exact (List.Perm.cons y (JH x r)).trans (List.Perm.swap x y r)
theorem EH:∀l,(UP l).Perm l
  | []=>List.Perm.refl _
  | x::r=>(JH x (UP r)).trans (List.Perm.cons x (EH r))
theorem Jm (x:E4):∀l,l.Pairwise S9->(Td x l).Pairwise S9
  | [],_=>List.pairwise_singleton _ _
  | y::r,h=>by
    obtain ⟨h1,h2⟩:=List.pairwise_cons.1 h
    unfold Td
    split
    · rename_i k
      have hxy:S9 x y:=by rw [KR];have:=Et.1 k;omega
      refine List.pairwise_cons.2 ⟨λz hz=>?_,h⟩
      rcases xy.1 hz with rfl|hz
      · exact hxy
      · have h3:=h1 z hz;rw [KR] at *;omega
    · rename_i k
      refine List.pairwise_cons.2 ⟨λz hz=>?_,Jm x r h2⟩
      rcases xy.1 ((JH x r).mem_iff.1 hz) with rfl|hz
      · exact k
      · exact h1 z hz
theorem HP:∀l,(UP l).Pairwise S9
  | []=>List.Pairwise.nil
  | x::r=>Jm x _ (HP r)
def Mh (l:List E4):Prop:=l.Pairwise (λx y=>¬(x.a=y.a/\x.b=y.b))
theorem Ss:∀{l:List E4},Mh l->∀x∈l,∀y∈l,x.a=y.a->x.b=y.b->x=y
  | z::r,h,x,hx,y,hy,e,e'=>by
    obtain ⟨h1,h2⟩:=List.pairwise_cons.1 h
    rcases xy.1 hx with ex|hx'<;>rcases xy.1 hy with ey|hy'
    · rw [ex,ey]
    · rw [ex] at e e';exact absurd ⟨e,e'⟩ (h1 y hy')
    · rw [ey] at e e';exact absurd ⟨e.symm,e'.symm⟩ (h1 x hx')
    · exact Ss h2 x hx' y hy' e e'
theorem UQ {l l':List E4} (hp:l'.Perm l) (hs:l'.Pairwise S9) (hn:Mh l):l'=UP l:=by
  refine List.Perm.eq_of_pairwise (le:=S9) (λx y hx hy h1 h2=>?_) hs (HP l) (hp.trans (EH l).symm)
  rw [KR] at h1 h2
  exact Ss hn x (hp.mem_iff.1 hx) y ((EH l).mem_iff.1 hy) Z Z
theorem Xe (xs:List E4) (p:Option Addr) (n c:Nat) (T:TypeId) (ho:OwnOk p n c) (hp0:p≠none) (hn:n=xs.length) (hN:n<4611686018427387904) (w:World) (hrow:∀b,p.map (·.block)=some b->∃o,w.heap[b]?=some o/\(rowW p T 4 n c (rowsL Ba xs)).P o) :
    Calls prog 167 #[.slice p n c,.func (.func 168) #[] #[]] w λe w'=>e=.returned (.tuple #[])/\Jf w w' (p.map (·.block))/\∃ys:List E4,ys.Perm xs/\ys.Pairwise S9/\∀b,p.map (·.block)=some b->∃o,w'.heap[b]?=some o/\(rowW p T 4 n c (rowsL Ba ys)).P o:=by
  cases hp:p with
  | none=>exact absurd hp hp0
  | some a =>
    subst hp
    obtain ⟨o,hob,cur,rfl,hsz,hcur⟩:=hrow a.block rfl
    have hat:=ho.at0 a rfl
    have hle:=ho.le
    obtain ⟨d,hd⟩:∃d,d=xs.toArray:=⟨_,rfl⟩
    have hdz:d.size=n:=by rw [hd,hn];simp
    have hdx:d.toList=xs:=by rw [hd]
    have hH:Go.Sort.HoldsK Ba 4 w a.block 0 d:=λj hj=>by
      have hj':j<d.size*4:=by simpa using hj
      refine ⟨?_,by simp [World.frozen?,hob]⟩
      have h1:(cur.toList.take (n*4))[j]?=(rowsL Ba xs)[j]?:=by rw [hcur]
      rw [List.getElem?_take_of_lt Z,Array.getElem?_toList,<-hdx,Mz hj'] at h1
      show w.cell? ⟨a.block,0+j,none⟩=some (id (Go.Sort.flatK Ba 4 d)[j]!)
      unfold World.cell?
      simp only [hob,Nat.zero_add]
      exact h1
    have hlt:a.block<w.heap.size:=by
      rcases Nat.lt_or_ge a.block w.heap.size with h|h
      · exact h
      · rw [Array.getElem?_eq_none h] at hob;cases hob
    have h:=Tryz.slices_SortFunc_Edge 4 isAgg49 sizeOf49 Ba B6 (λx v hv=>by
      unfold Ba at hv
      simp only [xy,List.not_mem_nil,or_false] at hv
      rcases hv with rfl|rfl|rfl|rfl<;>rfl) Oo gE 168 #[] a.block 0 c d w call168 (dW a.block 0 d.size w) hH hlt Z
    rw [hdz] at h
    rw [hat]
    refine h.mono ?_
    rintro e w' ⟨rfl,d',m,os,⟨hz',_,hperm⟩,hsort,rfl⟩
    have hz2:d'.size=n:=by rw [hz',hdz]
    have hperm':d'.toList.Perm d.toList:=by
      have e1:d'.extract 0 n=d':=by rw [<-hz2];exact Array.extract_size
      have e2:d.extract 0 n=d:=by rw [<-hdz];exact Array.extract_size
      rw [e1,e2] at hperm
      exact hperm
    have hF:(Go.Sort.flatK Ba 4 d').size=n*4:=by rw [Go.Sort.size_flatK,hz2]
    refine ⟨rfl,⟨⟨rfl,rfl,rfl,by simp [sortWorldK,Go.Sort.grow,Go.Sort.putRowK,Go.Sort.putRow,Go.Sort.mapBlock,Go.Sort.ahead],λj hj hne=>?_⟩,by show w.drawn<=w.drawn+m;omega⟩,d'.toList,by rw [<-hdx];exact hperm',List.pairwise_iff_getElem.2 λi j hi hj hij=>?_,λb e=>?_⟩
    · have hne':a.block≠j:=λe=>hne (by rw [e];rfl)
      unfold sortWorldK
      rw [Go.Sort.heap_grow_old _ _ (by simpa [Go.Sort.putRowK,Go.Sort.putRow,Go.Sort.mapBlock,Go.Sort.ahead] using hj)]
      simp [Go.Sort.putRowK,Go.Sort.putRow,Go.Sort.mapBlock,Go.Sort.ahead,Array.getElem?_modify,hne']
    · have hi':i<d'.size:=by simpa using hi
      have hj':j<d'.size:=by simpa using hj
      have h9:=xQ (hsort i j (xu _) hij Z)
      rw [getElem!_pos d' j hj',getElem!_pos d' i hi'] at h9
      simpa [S9] using h9
    · injection e with e
      subst e
      refine ⟨.cells (Go.Sort.putCells id 0 (Go.Sort.flatK Ba 4 d') cur) T (0,0),?_,_,rfl,by simp [Go.Sort.putCells,hsz],?_⟩
      · unfold sortWorldK
        rw [Go.Sort.heap_grow_old _ _ (by simpa [Go.Sort.putRowK,Go.Sort.putRow,Go.Sort.mapBlock,Go.Sort.ahead] using hlt)]
        simp [Go.Sort.putRowK,Go.Sort.putRow,Go.Sort.mapBlock,Go.Sort.ahead,Array.getElem?_modify,hob,Go.Sort.onCells]
      · apply List.ext_getElem?
        intro j
        have hlen:(rowsL Ba d'.toList).length=n*4:=by rw [Al B6,Array.length_toList,hz2]
        by_cases hj:j<n*4
        · have hcs:n*4<=c*4:=Nat.mul_le_mul_right _ hle
          rw [List.getElem?_take_of_lt hj,Array.getElem?_toList,Mz (by rw [hz2];exact hj)]
          unfold Go.Sort.putCells
          rw [Array.getElem?_mapIdx,Array.getElem?_eq_getElem Z,Option.map_some,if_pos ⟨xu _,Z⟩]
          rfl
        · rw [List.getElem?_take_eq_none Z,List.getElem?_eq_none Z]
def Xz (kvs:List (P2×E4)) (q:Nat):E4:=(kvs.getD q ((0,0),⟨0,0,0,0⟩)).2
theorem Z1 {kvs:List (P2×E4)} {q:Nat} {k:P2} {v:E4} (h:kvs[q]?=some (k,v)):Xz kvs q=v:=by rw [Xz,List.getD,h];rfl
theorem Lb:∀{n:Nat} {l:List Nat},l.Nodup->(∀x∈l,x<n)->l.length<=n
  | 0,[],_,_=>Nat.le_refl _
  | 0,x::r,_,h=>absurd (h x List.mem_cons_self) (Nat.not_lt_zero _)
  | n+1,l,h1,h2=>by
    have h3:(l.erase n).length<=n:=Lb (h1.erase n) λx hx=>by
      have h4:=h2 x (List.mem_of_mem_erase hx)
      have h5:x≠n:=λe=>by
        rw [e] at hx
        exact h1.not_mem_erase hx
      omega
    rw [List.length_erase] at h3
    split at h3<;>omega
theorem VK {kvs:List (P2×E4)} {seen:List Nat} (h1:seen.Nodup) (h2:∀x∈seen,x<kvs.length) (h3:∀q,q<kvs.length->q∈seen):(seen.map (Xz kvs)).Perm (kvs.map (·.2)):=by
  have hp:seen.Perm (List.range kvs.length):=(List.perm_ext_iff_of_nodup h1 List.nodup_range).2 λq=>⟨λh=>List.mem_range.2 (h2 q h),λh=>h3 q (List.mem_range.1 h)⟩
  refine (hp.map _).trans (List.Perm.of_eq ?_)
  apply List.ext_getElem?
  intro q
  rw [List.getElem?_map,List.getElem?_map]
  rcases Nat.lt_or_ge q kvs.length with h|h
  · rw [List.getElem?_range h,xN h]
    simp [Xz,List.getD,h]
  · rw [List.getElem?_eq_none (by simpa using h),List.getElem?_eq_none h];rfl
def QG (kvs:List (P2×E4)):Prop:=∀p∈kvs,p.2.a=p.1.1/\p.2.b=p.1.2
theorem NS (e:E4) (t a b:Nat):(GA e t a b).a=e.a/\(GA e t a b).b=e.b:=by
  unfold GA
  split
  · exact ⟨rfl,rfl⟩
  · split<;>exact ⟨rfl,rfl⟩
theorem LJ {kvs:List (P2×E4)} {x:P2} {v:E4} (h:Bb kvs x=some v):(x,v)∈kvs:=by
  induction kvs with
  | nil=>cases h
  | cons p r ih =>
    obtain ⟨k,u⟩:=p
    unfold Bb at h
    split at h
    · rename_i e
      injection h with h
      rw [e,h];exact List.mem_cons_self
    · exact List.mem_cons_of_mem _ (ih h)
theorem TW {kvs:List (P2×E4)} (h:QG kvs) (x:P2):((Bb kvs x).getD (JO x)).a=x.1/\((Bb kvs x).getD (JO x)).b=x.2:=by
  cases hg:Bb kvs x with
  | none=>exact ⟨rfl,rfl⟩
  | some v=>exact h _ (LJ hg)
theorem T7 {kvs:List (P2×E4)} {x:P2} {y:E4} {p:P2×E4} (h:p∈Br kvs x y):p=(x,y)\/p∈kvs:=by
  induction kvs with
  | nil=>exact .inl (xz.1 h)
  | cons q r ih =>
    obtain ⟨k,u⟩:=q
    unfold Br at h
    split at h
    · rename_i e
      rcases xy.1 h with h|h
      · exact .inl (by rw [h,e])
      · exact .inr (List.mem_cons_of_mem _ h)
    · rcases xy.1 h with h|h
      · exact .inr (by rw [h];exact List.mem_cons_self)
      · exact (ih h).imp_right (List.mem_cons_of_mem _)
theorem Kx (ts:List (Tq3)):∀s,QG (C0 ts s)
  | 0=>λp h=>by cases h
  | s+1=>λp h=>by
    have h0:=Kx ts s
    rcases T7 h with rfl|h
    · have h1:=TW h0 (D8 (FH (ts.getD (s/3) (0,0,0)) (s%3)) (FH (ts.getD (s/3) (0,0,0)) ((s%3+1)%3)))
      have h2:=NS ((Bb (C0 ts s) (D8 (FH (ts.getD (s/3) (0,0,0)) (s%3)) (FH (ts.getD (s/3) (0,0,0)) ((s%3+1)%3)))).getD (JO (D8 (FH (ts.getD (s/3) (0,0,0)) (s%3)) (FH (ts.getD (s/3) (0,0,0)) ((s%3+1)%3))))) (s/3) (FH (ts.getD (s/3) (0,0,0)) (s%3)) (FH (ts.getD (s/3) (0,0,0)) ((s%3+1)%3))
      exact ⟨h2.1.trans h1.1,h2.2.trans h1.2⟩
    · exact h0 p h
theorem NB {kvs:List (P2×E4)} {ok:P2->Prop} (h:Nb ok kvs) (he:QG kvs):Mh (kvs.map (·.2)):=by
  unfold Mh
  rw [List.pairwise_map]
  refine List.Pairwise.imp_of_mem (λ{p q} hp hq hne=>?_) h.once
  rintro ⟨e1,e2⟩
  have h1:=he p hp
  have h2:=he q hq
  exact hne (Prod.ext (by rw [<-h1.1,<-h2.1,e1]) (by rw [<-h1.2,<-h2.2,e2]))
def BI (ts:List (Tq3)):List E4:=UP ((C0 ts (3*ts.length)).map (·.2))
theorem bC {ts:List (Tq3)} {N:Nat} {xs ys:List E4} (hn:Bn N ts=true) (hN:N<=4611686018427387904) (h1:ys.Perm xs) (h2:ys.Pairwise S9) (h3:xs.Perm ((C0 ts (3*ts.length)).map (·.2))):ys=BI ts :=
  UQ (h1.trans h3) h2 (NB (F6 hn hN _ (Nat.le_refl _)) (Kx ts _))
theorem KH (ts:List (Tq3)):(BI ts).length=(C0 ts (3*ts.length)).length:=by rw [BI,(EH _).length_eq,xv]
section
variable {P:Program} {ops:Array Oper} {rest:List Oper} {Q:Exit->Act->World->Prop} {n:Nat} {F:List (Nat×Value)} {w0:BA} {L:List As}
theorem AQ.callS {o:Oper} {f:FuncId} {args:Array Value} {v:Value} (i:Nat) {q:Option Addr} {T:TypeId} {m c:Nat} {xs ys:List E4} (hw:Wt ops n F o)
    (he:∀a w,C8 n a F->BE w0 w L->(execOp a.eval o).run P w=.ok (.enter f args) w) (hi:L[i]?=some (rowW q T 4 m c (rowsL Ba xs)))
    (hc:∀w,BE w0 w L->Calls P f args w λe w'=>e=.returned v/\Jf w w' (q.map (·.block))/\∃zs:List E4,zs.Perm xs/\zs.Pairwise S9/\∀b,q.map (·.block)=some b->∃o,w'.heap[b]?=some o/\(rowW q T 4 m c (rowsL Ba zs)).P o)
    (hu:∀zs:List E4,zs.Perm xs->zs.Pairwise S9->zs=ys)
    (hd:∀d,o.dst=some d->d<n) (next:AQ P ops rest Q n (match o.dst with|some d=>(d,v)::F|none=>F) w0 (L.set i (rowW q T 4 m c (rowsL Ba ys)))):AQ P ops (o::rest) Q n F w0 L :=
  xK i hw he hi (λw hW=>(hc w hW).mono λe w' ⟨h1,h2,zs,h3,h4,h5⟩=>⟨h1,h2,by rw [<-hu zs h3 h4];exact h5⟩) hd next
end
theorem LG {kvs:List (P2×E4)} {k:P2} (h:(Bb kvs k).isSome=false):JO k=(Bb kvs k).getD (JO k):=by
  cases hg:Bb kvs k with
  | none=>rfl
  | some v=>rw [hg] at h;cases h
theorem LH {kvs:List (P2×E4)} {k:P2} {z:E4} (h:(Bb kvs k).isSome=true):(Bb kvs k).getD z=(Bb kvs k).getD (JO k):=by
  cases hg:Bb kvs k with
  | none=>rw [hg] at h;cases h
  | some v=>rfl
end
structure CX (cs:List Value) (n:Nat) where
  p:Option Addr
  ok:Ao p n n
instance {cs:List Value} {n:Nat}:Cl (CX cs n):=⟨λa=>.slice a.p n n,λa=>[AC a.p cs],λa y hy=>by rcases xz.1 hy with rfl;rfl⟩
theorem dz {S:Nat->Prop} {W w:World} {L:List As} (hw:BE ⟨W,none⟩ w L) (i:Nat) {p:Option Addr} {T:TypeId} {z n c:Nat} {cs:List Value} (hi:L[i]?=some (rowW p T z n c cs)) (ho:OwnOk p n c) (hl:cs.length=n*z) {v:Value} (hv:v=.slice p n n):Ai (CX cs n) S W (.returned v) w :=
  ⟨⟨p,⟨λe=>⟨(ho.nil e).1,(ho.nil e).1⟩,λa e=>by rw [ho.at0 a e],Nat.le_refl _⟩⟩,by rw [hv];rfl,hw.out,λy hy=>by rcases xz.1 hy with rfl;exact Fy hw i hi ho hl⟩
theorem Ai.ofCX {S:Nat->Prop} {W w:World} {e:Ending} {cs:List Value} {n:Nat} (h:Ai (CX cs n) S W e w):Ai (RX cs n) S W e w:=by
  obtain ⟨a,h1,h2,h3⟩:=h
  exact ⟨⟨a.p,n,a.ok⟩,h1,h2,λy hy=>by rcases xz.1 hy with rfl;exact h3 _ List.mem_cons_self⟩
section
set_option maxRecDepth 100000
theorem eR:ElemT prog 46 49 4 32:=⟨underlying46,Ds jV⟩
theorem He:QI prog 240 J0 YE where
 law:=.of_law (deep_law_laid aO (m:=2) jY (by decide +kernel) jV jV)
 key:=λa h=>M8 underlying240 ⟨rfl,rfl⟩ ⟨rfl,rfl⟩ (by decide +kernel) underlying3 jV jV jV (by decide +kernel) (OQ h.1) (OQ h.2)
 inj:=λa b h=>Pg h
theorem Va (p:Option Addr) (n cp:Nat) (h:n<=cp) (w:World)  :Calls prog 119 #[(qz p n cp)] w (AX w (qz p n n)):=by
 refine AS (args:=[(qz p n cp)]) func119 O O (leB O) (zM (sL [0] O) (q4 (asg' O (oNl' (q2 (AJ O (AJ O (st' (v:=(vN n)) (AD O underlying46) O (AJ O (st' (v:=(vN n)) (AD O underlying46) O (st' (v:=(qz p n n)) (El (m:=n) O O O underlying46 sizeOf49 Z) O ?_)))))))))))
 exact asg' O (oNl' (zF (sL [2] O) (zC (zH (ret_one O (rd_tmp (v:=(qz p n n)) O) (λw hw=>⟨rfl,hw.out⟩))))))
theorem Lx (x0:E4):Instr.fill (λi=>some (i*4,4)) ((Array.range (1*4)).map ((Value.agg (Ba jA).toArray).cells[·%(Value.agg (Ba jA).toArray).cells.size]!)) [(0,.agg (Ba x0).toArray)]=some (Ba x0).toArray:=by kernel_rfl
set_option maxHeartbeats 4000000 in
theorem Mt (ts:List (Tq3)) (x:RX (rowsL Am ts) ts.length) (N:Nat) (hn:Bn N ts=true) (hN:N<=4611686018427387904) (hl:ts.length<=1000000000) (w:World) {S:Nat->Prop} (hx:Ro S w x):Calls prog 101 #[(qz x.p ts.length x.c)] w (Ai (CX (rowsL Ba (BI ts)) (BI ts).length) S w):=by
 have lx:=Bq (W:=w) hx
 refine AR (args:=[(qz x.p ts.length x.c)]) (L:=[AC x.p (rowsL Am ts)]) func101 O O (leB O) (C7 hx Ae) (zM (sL [0] O) (q4 (asg' O (oNl' (q2 (xE J0 OO (AM O) O λb1=>asg' O (q6 (sL [0,2,3] O) (q4 (AJ O (st' (v:=(vN ts.length)) (AD O underlying23) O ?_))))))))))
 refine AJ O (oNl' (zF (sL [2,3,16,17,18] O) (zC (zN ?_))))
 refine zw (tg λ(t:Nat)=>t<=ts.length) (tg λ(t:Nat)=>[(2,jj),(3,(Value.map (some b1))),(16,(qz x.p ts.length x.c)),(17,(vN ts.length)),(18,(vN t))]) (tg λ(t:Nat)=>[Dw b1 J0 OO (C0 ts (3*t+0)),AC x.p (rowsL Am ts)]) (tg λ(t:Nat)=>ts.length-t) 0 (xu _) (sF O) sr (λt hJ=>?_)
 have ht:=hJ
 refine q4 (st' (AW (c:=(decide (t<ts.length))) O O (B_ (a:=t) (b:=ts.length))) O (oNl' (q1 ?_)))
 refine zO O (λhc0=>?_) (λhc0=>?_)
 ·replace hc0:=xR hc0
  obtain ⟨T,hT⟩:∃q,q=ts.getD t (0,0,0):=⟨_,rfl⟩
  obtain ⟨g1,g2,g3⟩:=DZ (Cs hn hc0)
  rw [<-hT] at g1 g2 g3
  refine zJ (q1 (zN (q4 (AJ O (st' (v:=(pP (pB x.p) (pO x.p+t*3))) (AF (j:=t) O O x.ok underlying23 sizeOf105 O Z) O (st' (v:=(aG (Am (ts.getD t jJ)))) (AH (vs:=Am (ts.getD t jJ)) (i:=1) O O (Ao.ne x.ok Z) CY (AZ A8 _ _ _ Z) (A8 _)) O (zK (k:=22) (u:=(aG (Am T))) O (by rw [hT]) (al Gu O λb2=>asg' O (Aj O sizeOf105 O (q3 (sL [2,3,16,17,18,5,4] O) ?_))))))))))
  refine AJ O (oNl' (zC (zN (yG 4 (zk (q4 (st' (AW (c:=true) O O jY) O (oNl' (q1 (zZ O (zJ ?_)))))))))))
  refine q1 (zN (q4 (AJ O (asg' O (q6 (sL [2,3,16,17,18,5,4,23,6] O) (CE (Dm 10) sr (Bl O (Ag (v:=(pP b2 0)) O (AB (j:=0) O O underlying105 sizeOf3 O jY O) (BC 0 (vN T.1) BN O (Bl O (Ag O (AV (c:=(1:Int)) O O jY) ?_)))))))))))
  refine Ag O (Dn (c:=(1:Int)) O O jY jY) (Ag (v:=(pP b2 1)) O (AB (j:=1) O O underlying105 sizeOf3 O jY O) (BC 0 (vN T.2.1) BN O (pS' O (pS' O (zT (zF (sL [2,3,16,17,18,5,4,23,7,8] O) (q2 (AJ O (AJ O (st' (F7 (c:=((min T.1 T.2.1:Nat):Int)) O O (by split<;>omega)) O (AJ O ?_)))))))))))
  refine AJ O (st' (E6 (c:=((max T.1 T.2.1:Nat):Int)) O O (by split<;>omega)) O (st' (v:=(aG ([(vN (min T.1 T.2.1)),(vN (max T.1 T.2.1))]))) (AO (zs:=In ((0,0):P2)) (vs:=[(vN (min T.1 T.2.1)),(vN (max T.1 T.2.1))]) (pv:=[(0,(vN (min T.1 T.2.1))),(1,(vN (max T.1 T.2.1)))]) (places:=[(0,1),(1,1)]) zeroValue240 underlying240 (λw=>by simp [sizeOf3]) O O) O (al Xn O λb3=>Aj O sizeOf240 O (q3 (sL [2,3,16,17,18,5,4,23,7,8,9] O) (AJ O (An 0 NN O (st' (v:=(Value.tuple #[(aG (Ba ((Bb (C0 ts (3*t+0)) ((min T.1 T.2.1,max T.1 T.2.1):P2)).getD jA))),(qa ((Bb (C0 ts (3*t+0)) ((min T.1 T.2.1,max T.1 T.2.1):P2)).isSome))])) (Hb He 2 (eV:=OO) (kvs:=C0 ts (3*t+0)) (x:=((min T.1 T.2.1,max T.1 T.2.1):P2)) (z0:=jA) (co:=true) O O underlying239 zeroValue49 O (F6 hn hN _ Z) (EQ Z Z)) O (AJ O (st' (AK (v:=(aG (Ba ((Bb (C0 ts (3*t+0)) ((min T.1 T.2.1,max T.1 T.2.1):P2)).getD jA)))) O O) O (st' (AK (v:=(qa ((Bb (C0 ts (3*t+0)) ((min T.1 T.2.1,max T.1 T.2.1):P2)).isSome))) O O) O ?_))))))))))
  refine al Hx O λb4=>Aj O sizeOf49 O (asg' O (q6 (sL [2,3,16,17,18,5,4,23,7,8,9,10,11] O) (q4 (AJ O (st' (BB (c:=(!((Bb (C0 ts (3*t+0)) ((min T.1 T.2.1,max T.1 T.2.1):P2)).isSome))) O O) O (oNl' (zF (sL [2,3,16,17,18,5,4,23,7,8,9,10,48] O) (zC ?_))))))))
  refine yQ (tg λ(e00:E4)=>e00=(Bb (C0 ts (3*t+0)) (min T.1 T.2.1,max T.1 T.2.1)).getD (JO (min T.1 T.2.1,max T.1 T.2.1))) (tg λ(e00:E4)=>[(2,jj),(3,(Value.map (some b1))),(16,(qz x.p ts.length x.c)),(17,(vN ts.length)),(18,(vN t)),(5,(pP b2 0)),(4,(vN t)),(23,(vI 0)),(7,(vN T.1)),(8,(vN T.2.1)),(9,(pP b3 0)),(10,(pP b4 0))]) (tg λ(e00:E4)=>[AU b4 49 (Ba e00),AU b3 240 ([(vN (min T.1 T.2.1)),(vN (max T.1 T.2.1))]),AU b2 105 (Am T),Dw b1 J0 OO (C0 ts (3*t+0)),AC x.p (rowsL Am ts)]) ?_ ?_
  ·refine zO O (λhc2=>?_) (λhc2=>?_)
   ·simp only [jK] at hc2
    exact zQ (st' (v:=(pP b3 0)) (AA O underlying240 O sizeOf3 O) O (A_ 1 (vN (min T.1 T.2.1)) BN O (st' (v:=(pP b3 1)) (AA O underlying240 O sizeOf3 O) O (A_ 1 (vN (max T.1 T.2.1)) BN O (st' (v:=(aG ([(vN (min T.1 T.2.1)),(vN (max T.1 T.2.1)),(vI (-1:Int)),(vI (-1:Int))]))) (AO (zs:=Ba jA) (vs:=[(vN (min T.1 T.2.1)),(vN (max T.1 T.2.1)),(vI (-1:Int)),(vI (-1:Int))]) (pv:=[(0,(vN (min T.1 T.2.1))),(1,(vN (max T.1 T.2.1))),(2,(vI (-1:Int))),(3,(vI (-1:Int)))]) (places:=[(0,1),(1,1),(2,1),(3,1)]) zeroValue49 underlying49 (λw=>by simp [sizeOf3]) O O) O (Aj O sizeOf49 O (oNl' (zF (sL [2,3,16,17,18,5,4,23,7,8,9,10] O) (zo (⟨min T.1 T.2.1,max T.1 T.2.1,-1,-1⟩:E4) ((LG (k:=(min T.1 T.2.1,max T.1 T.2.1)) (by simpa using hc2))) (sF O) sr)))))))))
   ·simp only [jK] at hc2
    exact zJ (zo ((Bb (C0 ts (3*t+0)) ((min T.1 T.2.1,max T.1 T.2.1):P2)).getD jA) ((LH (by simpa using hc2))) (sF O) sr)
  ·intro e00 hJ
   have he0:=hJ
   refine q1 ?_
   refine yQ (tg λ(e20:E4)=>e20=GA e00 t T.1 T.2.1) (tg λ(e20:E4)=>[(2,jj),(3,(Value.map (some b1))),(16,(qz x.p ts.length x.c)),(17,(vN ts.length)),(18,(vN t)),(5,(pP b2 0)),(4,(vN t)),(23,(vI 0)),(9,(pP b3 0)),(10,(pP b4 0))]) (tg λ(e20:E4)=>[AU b4 49 (Ba e20),AU b3 240 ([(vN (min T.1 T.2.1)),(vN (max T.1 T.2.1))]),AU b2 105 (Am T),Dw b1 J0 OO (C0 ts (3*t+0)),AC x.p (rowsL Am ts)]) ?_ ?_
   ·refine zN (q4 (AJ O (AJ O (st' (AW (c:=(decide (T.1<T.2.1))) O O (B_ (a:=T.1) (b:=T.2.1))) O (AJ O ?_)))))
    refine zg (FM:=[(2,jj),(3,(Value.map (some b1))),(16,(qz x.p ts.length x.c)),(17,(vN ts.length)),(18,(vN t)),(5,(pP b2 0)),(4,(vN t)),(23,(vI 0)),(7,(vN T.1)),(8,(vN T.2.1)),(9,(pP b3 0)),(10,(pP b4 0)),(55,(vN T.1)),(56,(vN T.2.1)),(57,(qa (decide (T.1<T.2.1)))),(58,(qa (decide (T.1<T.2.1)))),(62,(qa ((decide (T.1<T.2.1))&&(decide (e00.l=(-1:Int))))))]) (LM:=[AU b4 49 (Ba e00),AU b3 240 ([(vN (min T.1 T.2.1)),(vN (max T.1 T.2.1))]),AU b2 105 (Am T),Dw b1 J0 OO (C0 ts (3*t+0)),AC x.p (rowsL Am ts)]) 4 ?_ ?_
    ·rcases xO (decide (T.1<T.2.1)) with hg1|hg1
     ·refine zK (k:=58) (u:=qa true) O (by rw [hg1]) ?_
      have hg1':=xR hg1
      exact Au (v:=(pP b4 2)) O (AA O underlying49 O sizeOf3 O) (Au (v:=(vI e00.l)) O (AE (i:=0) (v:=(vI e00.l)) O O BN.a O) (Au (v:=(qa (decide (e00.l=(-1:Int))))) O (A9 (c:=(decide (e00.l=(-1:Int)))) O O O) (st' (v:=(qa (decide (e00.l=(-1:Int))))) (ex_pick_true O O) O (oNl' (zS Bi (xP _))))))
     ·refine zK (k:=58) (u:=qa false) O (by rw [hg1]) ?_
      have hg1':=xQ hg1
      exact Aw O (Aw O (Aw O (st' (v:=(qa false)) (AI O O) O (oNl' (zS Bi (xP _))))))
    refine asg' O (oNl' (zF (sL [2,3,16,17,18,5,4,23,7,8,9,10,54] O) (zC ?_)))
    refine zO O (λhc3=>?_) (λhc3=>?_)
    ·simp only [jK] at hc3
     exact zQ (AJ O (st' (v:=(pP b4 2)) (AA O underlying49 O sizeOf3 O) O (Ei 0 (off:=2) (vs:=[(vN t)]) (cs':=[(vN e00.a),(vN e00.b),(vN t),(vI e00.r)]) (AM O) O sizeOf3 O (oNl' (zF (sL [2,3,16,17,18,5,4,23,7,8,9,10] O) (zP (zo (⟨e00.a,e00.b,((t:Nat):Int),e00.r⟩:E4) ((by unfold GA;rw [if_pos Z])) (sF O) sr)))))))
    ·simp only [jK] at hc3
     refine q4 (AJ O (AJ O (st' (B2 (c:=(decide (T.2.1<T.1))) O O (B_ (a:=T.2.1) (b:=T.1))) O (AJ O ?_))))
     refine zg (FM:=[(2,jj),(3,(Value.map (some b1))),(16,(qz x.p ts.length x.c)),(17,(vN ts.length)),(18,(vN t)),(5,(pP b2 0)),(4,(vN t)),(23,(vI 0)),(7,(vN T.1)),(8,(vN T.2.1)),(9,(pP b3 0)),(10,(pP b4 0)),(66,(vN T.1)),(67,(vN T.2.1)),(68,(qa (decide (T.2.1<T.1)))),(69,(qa (decide (T.2.1<T.1)))),(73,(qa ((decide (T.2.1<T.1))&&(decide (e00.r=(-1:Int))))))]) (LM:=[AU b4 49 (Ba e00),AU b3 240 ([(vN (min T.1 T.2.1)),(vN (max T.1 T.2.1))]),AU b2 105 (Am T),Dw b1 J0 OO (C0 ts (3*t+0)),AC x.p (rowsL Am ts)]) 4 ?_ ?_
     ·rcases xO (decide (T.2.1<T.1)) with hg2|hg2
      ·refine zK (k:=69) (u:=qa true) O (by rw [hg2]) ?_
       have hg2':=xR hg2
       exact Au (v:=(pP b4 3)) O (AA O underlying49 O sizeOf3 O) (Au (v:=(vI e00.r)) O (AE (i:=0) (v:=(vI e00.r)) O O BN.a O) (Au (v:=(qa (decide (e00.r=(-1:Int))))) O (A9 (c:=(decide (e00.r=(-1:Int)))) O O O) (st' (v:=(qa (decide (e00.r=(-1:Int))))) (ex_pick_true O O) O (oNl' (zS EW (xP _))))))
      ·refine zK (k:=69) (u:=qa false) O (by rw [hg2]) ?_
       have hg2':=xQ hg2
       exact Aw O (Aw O (Aw O (st' (v:=(qa false)) (AI O O) O (oNl' (zS EW (xP _))))))
     refine asg' O (oNl' (zF (sL [2,3,16,17,18,5,4,23,7,8,9,10,65] O) (zC ?_)))
     refine zO O (λhc4=>?_) (λhc4=>?_)
     ·simp only [jK] at hc4
      exact zQ (AJ O (st' (v:=(pP b4 3)) (AA O underlying49 O sizeOf3 O) O (Ei 0 (off:=3) (vs:=[(vN t)]) (cs':=[(vN e00.a),(vN e00.b),(vI e00.l),(vN t)]) (AM O) O sizeOf3 O (oNl' (zF (sL [2,3,16,17,18,5,4,23,7,8,9,10] O) (zP (zo (⟨e00.a,e00.b,e00.l,((t:Nat):Int)⟩:E4) ((by unfold GA;rw [if_neg Z,if_pos Z])) (sF O) sr)))))))
     ·simp only [jK] at hc4
      exact zJ (zP (zo e00 ((by unfold GA;rw [if_neg Z,if_neg Z])) (sF O) sr))
   ·intro e20 hJ
    have hu0:=hJ
    refine zC (zQ (AJ O (An 1 NN O (An 0 IN O (yu He 3 (kvs:=C0 ts (3*t+0)) (x:=((min T.1 T.2.1,max T.1 T.2.1):P2)) (y:=e20) (AM O) O O O underlying239 O (F6 hn hN _ Z) (EQ Z Z) ?_)))))
    rw [show Br (C0 ts (3*t+0)) ((min T.1 T.2.1,max T.1 T.2.1):P2) e20=C0 ts (3*t+1) from by rw [hu0,he0,hT];exact (Ky (ts:=ts) (t:=t) (i:=0) Z).symm]
    refine oNl' (zF (sL [2,3,16,17,18,5,4,23,9,10] O) (zP (zC (zQ (st' (AV (c:=(1:Int)) O O jY) O (AJ O (oNl' (zF (sL [2,3,16,17,18,5,4,23,9,10] O) (zu (zk (q4 ?_)))))))))))
    refine st' (AW (c:=true) O O jY) O (oNl' (q1 (zZ O (zJ (q1 (zN (q4 (AJ O (asg' O (q6 (sL [2,3,16,17,18,5,4,23,9,10,6] O) (CE (Dm 10) sr ?_)))))))))))
    refine Bl O (Ag (v:=(pP b2 1)) O (AB (j:=1) O O underlying105 sizeOf3 O jY O) (BC 2 (vN T.2.1) BN O (Bl O (Ag O (AV (c:=(2:Int)) O O jY) (Ag O (Dn (c:=(2:Int)) O O jY jY) (Ag (v:=(pP b2 2)) O (AB (j:=2) O O underlying105 sizeOf3 O jY O) (BC 2 (vN T.2.2) BN O (pS' O (pS' O (zT (zF (sL [2,3,16,17,18,5,4,23,9,10,7,8] O) ?_)))))))))))
    refine q2 (AJ O (AJ O (st' (F7 (c:=((min T.2.1 T.2.2:Nat):Int)) O O (by split<;>omega)) O (AJ O (AJ O (st' (E6 (c:=((max T.2.1 T.2.2:Nat):Int)) O O (by split<;>omega)) O (st' (v:=(aG ([(vN (min T.2.1 T.2.2)),(vN (max T.2.1 T.2.2))]))) (AO (zs:=In ((0,0):P2)) (vs:=[(vN (min T.2.1 T.2.2)),(vN (max T.2.1 T.2.2))]) (pv:=[(0,(vN (min T.2.1 T.2.2))),(1,(vN (max T.2.1 T.2.2)))]) (places:=[(0,1),(1,1)]) zeroValue240 underlying240 (λw=>by simp [sizeOf3]) O O) O (al Xn O λb5=>Aj O sizeOf240 O (q3 (sL [2,3,16,17,18,5,4,23,9,10,7,8] O) (AJ O ?_))))))))))
    refine An 0 NN O (st' (v:=(Value.tuple #[(aG (Ba ((Bb (C0 ts (3*t+1)) ((min T.2.1 T.2.2,max T.2.1 T.2.2):P2)).getD jA))),(qa ((Bb (C0 ts (3*t+1)) ((min T.2.1 T.2.2,max T.2.1 T.2.2):P2)).isSome))])) (Hb He 4 (eV:=OO) (kvs:=C0 ts (3*t+1)) (x:=((min T.2.1 T.2.2,max T.2.1 T.2.2):P2)) (z0:=jA) (co:=true) O O underlying239 zeroValue49 O (F6 hn hN _ Z) (EQ Z Z)) O (AJ O (st' (AK (v:=(aG (Ba ((Bb (C0 ts (3*t+1)) ((min T.2.1 T.2.2,max T.2.1 T.2.2):P2)).getD jA)))) O O) O (st' (AK (v:=(qa ((Bb (C0 ts (3*t+1)) ((min T.2.1 T.2.2,max T.2.1 T.2.2):P2)).isSome))) O O) O (al Hx O λb6=>Aj O sizeOf49 O (asg' O (q6 (sL [2,3,16,17,18,5,4,23,9,10,7,8,11] O) (q4 (AJ O (st' (BB (c:=(!((Bb (C0 ts (3*t+1)) ((min T.2.1 T.2.2,max T.2.1 T.2.2):P2)).isSome))) O O) O ?_))))))))))
    refine oNl' (zF (sL [2,3,16,17,18,5,4,23,9,10,7,8,48] O) (zC ?_))
    refine yQ (tg λ(e01:E4)=>e01=(Bb (C0 ts (3*t+1)) (min T.2.1 T.2.2,max T.2.1 T.2.2)).getD (JO (min T.2.1 T.2.2,max T.2.1 T.2.2))) (tg λ(e01:E4)=>[(2,jj),(3,(Value.map (some b1))),(16,(qz x.p ts.length x.c)),(17,(vN ts.length)),(18,(vN t)),(5,(pP b2 0)),(4,(vN t)),(23,(vI 1)),(9,(pP b5 0)),(10,(pP b6 0)),(7,(vN T.2.1)),(8,(vN T.2.2))]) (tg λ(e01:E4)=>[AU b6 49 (Ba e01),AU b5 240 ([(vN (min T.2.1 T.2.2)),(vN (max T.2.1 T.2.2))]),AU b4 49 (Ba e20),AU b3 240 ([(vN (min T.1 T.2.1)),(vN (max T.1 T.2.1))]),AU b2 105 (Am T),Dw b1 J0 OO (C0 ts (3*t+1)),AC x.p (rowsL Am ts)]) ?_ ?_
    ·refine zO O (λhc2=>?_) (λhc2=>?_)
     ·simp only [jK] at hc2
      exact zQ (st' (v:=(pP b5 0)) (AA O underlying240 O sizeOf3 O) O (A_ 1 (vN (min T.2.1 T.2.2)) BN O (st' (v:=(pP b5 1)) (AA O underlying240 O sizeOf3 O) O (A_ 1 (vN (max T.2.1 T.2.2)) BN O (st' (v:=(aG ([(vN (min T.2.1 T.2.2)),(vN (max T.2.1 T.2.2)),(vI (-1:Int)),(vI (-1:Int))]))) (AO (zs:=Ba jA) (vs:=[(vN (min T.2.1 T.2.2)),(vN (max T.2.1 T.2.2)),(vI (-1:Int)),(vI (-1:Int))]) (pv:=[(0,(vN (min T.2.1 T.2.2))),(1,(vN (max T.2.1 T.2.2))),(2,(vI (-1:Int))),(3,(vI (-1:Int)))]) (places:=[(0,1),(1,1),(2,1),(3,1)]) zeroValue49 underlying49 (λw=>by simp [sizeOf3]) O O) O (Aj O sizeOf49 O (oNl' (zF (sL [2,3,16,17,18,5,4,23,9,10,7,8] O) (zo (⟨min T.2.1 T.2.2,max T.2.1 T.2.2,-1,-1⟩:E4) ((LG (k:=(min T.2.1 T.2.2,max T.2.1 T.2.2)) (by simpa using hc2))) (sF O) sr)))))))))
     ·simp only [jK] at hc2
      exact zJ (zo ((Bb (C0 ts (3*t+1)) ((min T.2.1 T.2.2,max T.2.1 T.2.2):P2)).getD jA) ((LH (by simpa using hc2))) (sF O) sr)
    ·intro e01 hJ
     have he1:=hJ
     refine q1 ?_
     refine yQ (tg λ(e21:E4)=>e21=GA e01 t T.2.1 T.2.2) (tg λ(e21:E4)=>[(2,jj),(3,(Value.map (some b1))),(16,(qz x.p ts.length x.c)),(17,(vN ts.length)),(18,(vN t)),(5,(pP b2 0)),(4,(vN t)),(23,(vI 1)),(9,(pP b5 0)),(10,(pP b6 0))]) (tg λ(e21:E4)=>[AU b6 49 (Ba e21),AU b5 240 ([(vN (min T.2.1 T.2.2)),(vN (max T.2.1 T.2.2))]),AU b4 49 (Ba e20),AU b3 240 ([(vN (min T.1 T.2.1)),(vN (max T.1 T.2.1))]),AU b2 105 (Am T),Dw b1 J0 OO (C0 ts (3*t+1)),AC x.p (rowsL Am ts)]) ?_ ?_
     ·refine zN (q4 (AJ O (AJ O (st' (AW (c:=(decide (T.2.1<T.2.2))) O O (B_ (a:=T.2.1) (b:=T.2.2))) O (AJ O ?_)))))
      refine zg (FM:=[(2,jj),(3,(Value.map (some b1))),(16,(qz x.p ts.length x.c)),(17,(vN ts.length)),(18,(vN t)),(5,(pP b2 0)),(4,(vN t)),(23,(vI 1)),(9,(pP b5 0)),(10,(pP b6 0)),(7,(vN T.2.1)),(8,(vN T.2.2)),(55,(vN T.2.1)),(56,(vN T.2.2)),(57,(qa (decide (T.2.1<T.2.2)))),(58,(qa (decide (T.2.1<T.2.2)))),(62,(qa ((decide (T.2.1<T.2.2))&&(decide (e01.l=(-1:Int))))))]) (LM:=[AU b6 49 (Ba e01),AU b5 240 ([(vN (min T.2.1 T.2.2)),(vN (max T.2.1 T.2.2))]),AU b4 49 (Ba e20),AU b3 240 ([(vN (min T.1 T.2.1)),(vN (max T.1 T.2.1))]),AU b2 105 (Am T),Dw b1 J0 OO (C0 ts (3*t+1)),AC x.p (rowsL Am ts)]) 4 ?_ ?_
      ·rcases xO (decide (T.2.1<T.2.2)) with hg3|hg3
       ·refine zK (k:=58) (u:=qa true) O (by rw [hg3]) ?_
        have hg3':=xR hg3
        exact Au (v:=(pP b6 2)) O (AA O underlying49 O sizeOf3 O) (Au (v:=(vI e01.l)) O (AE (i:=0) (v:=(vI e01.l)) O O BN.a O) (Au (v:=(qa (decide (e01.l=(-1:Int))))) O (A9 (c:=(decide (e01.l=(-1:Int)))) O O O) (st' (v:=(qa (decide (e01.l=(-1:Int))))) (ex_pick_true O O) O (oNl' (zS I4 (xP _))))))
       ·refine zK (k:=58) (u:=qa false) O (by rw [hg3]) ?_
        have hg3':=xQ hg3
        exact Aw O (Aw O (Aw O (st' (v:=(qa false)) (AI O O) O (oNl' (zS I4 (xP _))))))
      refine asg' O (oNl' (zF (sL [2,3,16,17,18,5,4,23,9,10,7,8,54] O) (zC ?_)))
      refine zO O (λhc3=>?_) (λhc3=>?_)
      ·simp only [jK] at hc3
       exact zQ (AJ O (st' (v:=(pP b6 2)) (AA O underlying49 O sizeOf3 O) O (Ei 0 (off:=2) (vs:=[(vN t)]) (cs':=[(vN e01.a),(vN e01.b),(vN t),(vI e01.r)]) (AM O) O sizeOf3 O (oNl' (zF (sL [2,3,16,17,18,5,4,23,9,10,7,8] O) (zP (zo (⟨e01.a,e01.b,((t:Nat):Int),e01.r⟩:E4) ((by unfold GA;rw [if_pos Z])) (sF O) sr)))))))
      ·simp only [jK] at hc3
       refine q4 (AJ O (AJ O (st' (B2 (c:=(decide (T.2.2<T.2.1))) O O (B_ (a:=T.2.2) (b:=T.2.1))) O (AJ O ?_))))
       refine zg (FM:=[(2,jj),(3,(Value.map (some b1))),(16,(qz x.p ts.length x.c)),(17,(vN ts.length)),(18,(vN t)),(5,(pP b2 0)),(4,(vN t)),(23,(vI 1)),(9,(pP b5 0)),(10,(pP b6 0)),(7,(vN T.2.1)),(8,(vN T.2.2)),(66,(vN T.2.1)),(67,(vN T.2.2)),(68,(qa (decide (T.2.2<T.2.1)))),(69,(qa (decide (T.2.2<T.2.1)))),(73,(qa ((decide (T.2.2<T.2.1))&&(decide (e01.r=(-1:Int))))))]) (LM:=[AU b6 49 (Ba e01),AU b5 240 ([(vN (min T.2.1 T.2.2)),(vN (max T.2.1 T.2.2))]),AU b4 49 (Ba e20),AU b3 240 ([(vN (min T.1 T.2.1)),(vN (max T.1 T.2.1))]),AU b2 105 (Am T),Dw b1 J0 OO (C0 ts (3*t+1)),AC x.p (rowsL Am ts)]) 4 ?_ ?_
       ·rcases xO (decide (T.2.2<T.2.1)) with hg4|hg4
        ·refine zK (k:=69) (u:=qa true) O (by rw [hg4]) ?_
         have hg4':=xR hg4
         exact Au (v:=(pP b6 3)) O (AA O underlying49 O sizeOf3 O) (Au (v:=(vI e01.r)) O (AE (i:=0) (v:=(vI e01.r)) O O BN.a O) (Au (v:=(qa (decide (e01.r=(-1:Int))))) O (A9 (c:=(decide (e01.r=(-1:Int)))) O O O) (st' (v:=(qa (decide (e01.r=(-1:Int))))) (ex_pick_true O O) O (oNl' (zS Me (xP _))))))
        ·refine zK (k:=69) (u:=qa false) O (by rw [hg4]) ?_
         have hg4':=xQ hg4
         exact Aw O (Aw O (Aw O (st' (v:=(qa false)) (AI O O) O (oNl' (zS Me (xP _))))))
       refine asg' O (oNl' (zF (sL [2,3,16,17,18,5,4,23,9,10,7,8,65] O) (zC ?_)))
       refine zO O (λhc4=>?_) (λhc4=>?_)
       ·simp only [jK] at hc4
        exact zQ (AJ O (st' (v:=(pP b6 3)) (AA O underlying49 O sizeOf3 O) O (Ei 0 (off:=3) (vs:=[(vN t)]) (cs':=[(vN e01.a),(vN e01.b),(vI e01.l),(vN t)]) (AM O) O sizeOf3 O (oNl' (zF (sL [2,3,16,17,18,5,4,23,9,10,7,8] O) (zP (zo (⟨e01.a,e01.b,e01.l,((t:Nat):Int)⟩:E4) ((by unfold GA;rw [if_neg Z,if_pos Z])) (sF O) sr)))))))
       ·simp only [jK] at hc4
        exact zJ (zP (zo e01 ((by unfold GA;rw [if_neg Z,if_neg Z])) (sF O) sr))
     ·intro e21 hJ
      have hu1:=hJ
      refine zC (zQ (AJ O (An 1 NN O (An 0 IN O (yu He 5 (kvs:=C0 ts (3*t+1)) (x:=((min T.2.1 T.2.2,max T.2.1 T.2.2):P2)) (y:=e21) (AM O) O O O underlying239 O (F6 hn hN _ Z) (EQ Z Z) ?_)))))
      rw [show Br (C0 ts (3*t+1)) ((min T.2.1 T.2.2,max T.2.1 T.2.2):P2) e21=C0 ts (3*t+2) from by rw [hu1,he1,hT];exact (Ky (ts:=ts) (t:=t) (i:=1) Z).symm]
      refine oNl' (zF (sL [2,3,16,17,18,5,4,23,9,10] O) (zP (zC (zQ (st' (AV (c:=(2:Int)) O O jY) O (AJ O (oNl' (zF (sL [2,3,16,17,18,5,4,23,9,10] O) (zu (zk (q4 ?_)))))))))))
      refine st' (AW (c:=true) O O jY) O (oNl' (q1 (zZ O (zJ (q1 (zN (q4 (AJ O (asg' O (q6 (sL [2,3,16,17,18,5,4,23,9,10,6] O) (CE (Dm 10) sr ?_)))))))))))
      refine Bl O (Ag (v:=(pP b2 2)) O (AB (j:=2) O O underlying105 sizeOf3 O jY O) (BC 4 (vN T.2.2) BN O (Bl O (Ag O (AV (c:=(3:Int)) O O jY) (Ag O (Dn (c:=(0:Int)) O O jY jY) (Ag (v:=(pP b2 0)) O (AB (j:=0) O O underlying105 sizeOf3 O jY O) (BC 4 (vN T.1) BN O (pS' O (pS' O (zT (zF (sL [2,3,16,17,18,5,4,23,9,10,7,8] O) ?_)))))))))))
      refine q2 (AJ O (AJ O (st' (F7 (c:=((min T.2.2 T.1:Nat):Int)) O O (by split<;>omega)) O (AJ O (AJ O (st' (E6 (c:=((max T.2.2 T.1:Nat):Int)) O O (by split<;>omega)) O (st' (v:=(aG ([(vN (min T.2.2 T.1)),(vN (max T.2.2 T.1))]))) (AO (zs:=In ((0,0):P2)) (vs:=[(vN (min T.2.2 T.1)),(vN (max T.2.2 T.1))]) (pv:=[(0,(vN (min T.2.2 T.1))),(1,(vN (max T.2.2 T.1)))]) (places:=[(0,1),(1,1)]) zeroValue240 underlying240 (λw=>by simp [sizeOf3]) O O) O (al Xn O λb7=>Aj O sizeOf240 O (q3 (sL [2,3,16,17,18,5,4,23,9,10,7,8] O) (AJ O ?_))))))))))
      refine An 0 NN O (st' (v:=(Value.tuple #[(aG (Ba ((Bb (C0 ts (3*t+2)) ((min T.2.2 T.1,max T.2.2 T.1):P2)).getD jA))),(qa ((Bb (C0 ts (3*t+2)) ((min T.2.2 T.1,max T.2.2 T.1):P2)).isSome))])) (Hb He 6 (eV:=OO) (kvs:=C0 ts (3*t+2)) (x:=((min T.2.2 T.1,max T.2.2 T.1):P2)) (z0:=jA) (co:=true) O O underlying239 zeroValue49 O (F6 hn hN _ Z) (EQ Z Z)) O (AJ O (st' (AK (v:=(aG (Ba ((Bb (C0 ts (3*t+2)) ((min T.2.2 T.1,max T.2.2 T.1):P2)).getD jA)))) O O) O (st' (AK (v:=(qa ((Bb (C0 ts (3*t+2)) ((min T.2.2 T.1,max T.2.2 T.1):P2)).isSome))) O O) O (al Hx O λb8=>Aj O sizeOf49 O (asg' O (q6 (sL [2,3,16,17,18,5,4,23,9,10,7,8,11] O) (q4 (AJ O (st' (BB (c:=(!((Bb (C0 ts (3*t+2)) ((min T.2.2 T.1,max T.2.2 T.1):P2)).isSome))) O O) O ?_))))))))))
      refine oNl' (zF (sL [2,3,16,17,18,5,4,23,9,10,7,8,48] O) (zC ?_))
      refine yQ (tg λ(e02:E4)=>e02=(Bb (C0 ts (3*t+2)) (min T.2.2 T.1,max T.2.2 T.1)).getD (JO (min T.2.2 T.1,max T.2.2 T.1))) (tg λ(e02:E4)=>[(2,jj),(3,(Value.map (some b1))),(16,(qz x.p ts.length x.c)),(17,(vN ts.length)),(18,(vN t)),(5,(pP b2 0)),(4,(vN t)),(23,(vI 2)),(9,(pP b7 0)),(10,(pP b8 0)),(7,(vN T.2.2)),(8,(vN T.1))]) (tg λ(e02:E4)=>[AU b8 49 (Ba e02),AU b7 240 ([(vN (min T.2.2 T.1)),(vN (max T.2.2 T.1))]),AU b6 49 (Ba e21),AU b5 240 ([(vN (min T.2.1 T.2.2)),(vN (max T.2.1 T.2.2))]),AU b4 49 (Ba e20),AU b3 240 ([(vN (min T.1 T.2.1)),(vN (max T.1 T.2.1))]),AU b2 105 (Am T),Dw b1 J0 OO (C0 ts (3*t+2)),AC x.p (rowsL Am ts)]) ?_ ?_
      ·refine zO O (λhc2=>?_) (λhc2=>?_)
       ·simp only [jK] at hc2
        exact zQ (st' (v:=(pP b7 0)) (AA O underlying240 O sizeOf3 O) O (A_ 1 (vN (min T.2.2 T.1)) BN O (st' (v:=(pP b7 1)) (AA O underlying240 O sizeOf3 O) O (A_ 1 (vN (max T.2.2 T.1)) BN O (st' (v:=(aG ([(vN (min T.2.2 T.1)),(vN (max T.2.2 T.1)),(vI (-1:Int)),(vI (-1:Int))]))) (AO (zs:=Ba jA) (vs:=[(vN (min T.2.2 T.1)),(vN (max T.2.2 T.1)),(vI (-1:Int)),(vI (-1:Int))]) (pv:=[(0,(vN (min T.2.2 T.1))),(1,(vN (max T.2.2 T.1))),(2,(vI (-1:Int))),(3,(vI (-1:Int)))]) (places:=[(0,1),(1,1),(2,1),(3,1)]) zeroValue49 underlying49 (λw=>by simp [sizeOf3]) O O) O (Aj O sizeOf49 O (oNl' (zF (sL [2,3,16,17,18,5,4,23,9,10,7,8] O) (zo (⟨min T.2.2 T.1,max T.2.2 T.1,-1,-1⟩:E4) ((LG (k:=(min T.2.2 T.1,max T.2.2 T.1)) (by simpa using hc2))) (sF O) sr)))))))))
       ·simp only [jK] at hc2
        exact zJ (zo ((Bb (C0 ts (3*t+2)) ((min T.2.2 T.1,max T.2.2 T.1):P2)).getD jA) ((LH (by simpa using hc2))) (sF O) sr)
      ·intro e02 hJ
       have he2:=hJ
       refine q1 ?_
       refine yQ (tg λ(e22:E4)=>e22=GA e02 t T.2.2 T.1) (tg λ(e22:E4)=>[(2,jj),(3,(Value.map (some b1))),(16,(qz x.p ts.length x.c)),(17,(vN ts.length)),(18,(vN t)),(5,(pP b2 0)),(4,(vN t)),(23,(vI 2)),(9,(pP b7 0)),(10,(pP b8 0))]) (tg λ(e22:E4)=>[AU b8 49 (Ba e22),AU b7 240 ([(vN (min T.2.2 T.1)),(vN (max T.2.2 T.1))]),AU b6 49 (Ba e21),AU b5 240 ([(vN (min T.2.1 T.2.2)),(vN (max T.2.1 T.2.2))]),AU b4 49 (Ba e20),AU b3 240 ([(vN (min T.1 T.2.1)),(vN (max T.1 T.2.1))]),AU b2 105 (Am T),Dw b1 J0 OO (C0 ts (3*t+2)),AC x.p (rowsL Am ts)]) ?_ ?_
       ·refine zN (q4 (AJ O (AJ O (st' (AW (c:=(decide (T.2.2<T.1))) O O (B_ (a:=T.2.2) (b:=T.1))) O (AJ O ?_)))))
        refine zg (FM:=[(2,jj),(3,(Value.map (some b1))),(16,(qz x.p ts.length x.c)),(17,(vN ts.length)),(18,(vN t)),(5,(pP b2 0)),(4,(vN t)),(23,(vI 2)),(9,(pP b7 0)),(10,(pP b8 0)),(7,(vN T.2.2)),(8,(vN T.1)),(55,(vN T.2.2)),(56,(vN T.1)),(57,(qa (decide (T.2.2<T.1)))),(58,(qa (decide (T.2.2<T.1)))),(62,(qa ((decide (T.2.2<T.1))&&(decide (e02.l=(-1:Int))))))]) (LM:=[AU b8 49 (Ba e02),AU b7 240 ([(vN (min T.2.2 T.1)),(vN (max T.2.2 T.1))]),AU b6 49 (Ba e21),AU b5 240 ([(vN (min T.2.1 T.2.2)),(vN (max T.2.1 T.2.2))]),AU b4 49 (Ba e20),AU b3 240 ([(vN (min T.1 T.2.1)),(vN (max T.1 T.2.1))]),AU b2 105 (Am T),Dw b1 J0 OO (C0 ts (3*t+2)),AC x.p (rowsL Am ts)]) 4 ?_ ?_
        ·rcases xO (decide (T.2.2<T.1)) with hg5|hg5
         ·refine zK (k:=58) (u:=qa true) O (by rw [hg5]) ?_
          have hg5':=xR hg5
          exact Au (v:=(pP b8 2)) O (AA O underlying49 O sizeOf3 O) (Au (v:=(vI e02.l)) O (AE (i:=0) (v:=(vI e02.l)) O O BN.a O) (Au (v:=(qa (decide (e02.l=(-1:Int))))) O (A9 (c:=(decide (e02.l=(-1:Int)))) O O O) (st' (v:=(qa (decide (e02.l=(-1:Int))))) (ex_pick_true O O) O (oNl' (zS Mf (xP _))))))
         ·refine zK (k:=58) (u:=qa false) O (by rw [hg5]) ?_
          have hg5':=xQ hg5
          exact Aw O (Aw O (Aw O (st' (v:=(qa false)) (AI O O) O (oNl' (zS Mf (xP _))))))
        refine asg' O (oNl' (zF (sL [2,3,16,17,18,5,4,23,9,10,7,8,54] O) (zC ?_)))
        refine zO O (λhc3=>?_) (λhc3=>?_)
        ·simp only [jK] at hc3
         exact zQ (AJ O (st' (v:=(pP b8 2)) (AA O underlying49 O sizeOf3 O) O (Ei 0 (off:=2) (vs:=[(vN t)]) (cs':=[(vN e02.a),(vN e02.b),(vN t),(vI e02.r)]) (AM O) O sizeOf3 O (oNl' (zF (sL [2,3,16,17,18,5,4,23,9,10,7,8] O) (zP (zo (⟨e02.a,e02.b,((t:Nat):Int),e02.r⟩:E4) ((by unfold GA;rw [if_pos Z])) (sF O) sr)))))))
        ·simp only [jK] at hc3
         refine q4 (AJ O (AJ O (st' (B2 (c:=(decide (T.1<T.2.2))) O O (B_ (a:=T.1) (b:=T.2.2))) O (AJ O ?_))))
         refine zg (FM:=[(2,jj),(3,(Value.map (some b1))),(16,(qz x.p ts.length x.c)),(17,(vN ts.length)),(18,(vN t)),(5,(pP b2 0)),(4,(vN t)),(23,(vI 2)),(9,(pP b7 0)),(10,(pP b8 0)),(7,(vN T.2.2)),(8,(vN T.1)),(66,(vN T.2.2)),(67,(vN T.1)),(68,(qa (decide (T.1<T.2.2)))),(69,(qa (decide (T.1<T.2.2)))),(73,(qa ((decide (T.1<T.2.2))&&(decide (e02.r=(-1:Int))))))]) (LM:=[AU b8 49 (Ba e02),AU b7 240 ([(vN (min T.2.2 T.1)),(vN (max T.2.2 T.1))]),AU b6 49 (Ba e21),AU b5 240 ([(vN (min T.2.1 T.2.2)),(vN (max T.2.1 T.2.2))]),AU b4 49 (Ba e20),AU b3 240 ([(vN (min T.1 T.2.1)),(vN (max T.1 T.2.1))]),AU b2 105 (Am T),Dw b1 J0 OO (C0 ts (3*t+2)),AC x.p (rowsL Am ts)]) 4 ?_ ?_
         ·rcases xO (decide (T.1<T.2.2)) with hg6|hg6
          ·refine zK (k:=69) (u:=qa true) O (by rw [hg6]) ?_
           have hg6':=xR hg6
           exact Au (v:=(pP b8 3)) O (AA O underlying49 O sizeOf3 O) (Au (v:=(vI e02.r)) O (AE (i:=0) (v:=(vI e02.r)) O O BN.a O) (Au (v:=(qa (decide (e02.r=(-1:Int))))) O (A9 (c:=(decide (e02.r=(-1:Int)))) O O O) (st' (v:=(qa (decide (e02.r=(-1:Int))))) (ex_pick_true O O) O (oNl' (zS ee (xP _))))))
          ·refine zK (k:=69) (u:=qa false) O (by rw [hg6]) ?_
           have hg6':=xQ hg6
           exact Aw O (Aw O (Aw O (st' (v:=(qa false)) (AI O O) O (oNl' (zS ee (xP _))))))
         refine asg' O (oNl' (zF (sL [2,3,16,17,18,5,4,23,9,10,7,8,65] O) (zC ?_)))
         refine zO O (λhc4=>?_) (λhc4=>?_)
         ·simp only [jK] at hc4
          exact zQ (AJ O (st' (v:=(pP b8 3)) (AA O underlying49 O sizeOf3 O) O (Ei 0 (off:=3) (vs:=[(vN t)]) (cs':=[(vN e02.a),(vN e02.b),(vI e02.l),(vN t)]) (AM O) O sizeOf3 O (oNl' (zF (sL [2,3,16,17,18,5,4,23,9,10,7,8] O) (zP (zo (⟨e02.a,e02.b,e02.l,((t:Nat):Int)⟩:E4) ((by unfold GA;rw [if_neg Z,if_pos Z])) (sF O) sr)))))))
         ·simp only [jK] at hc4
          exact zJ (zP (zo e02 ((by unfold GA;rw [if_neg Z,if_neg Z])) (sF O) sr))
       ·intro e22 hJ
        have hu2:=hJ
        refine zC (zQ (AJ O (An 1 NN O (An 0 IN O (yu He 7 (kvs:=C0 ts (3*t+2)) (x:=((min T.2.2 T.1,max T.2.2 T.1):P2)) (y:=e22) (AM O) O O O underlying239 O (F6 hn hN _ Z) (EQ Z Z) ?_)))))
        rw [show Br (C0 ts (3*t+2)) ((min T.2.2 T.1,max T.2.2 T.1):P2) e22=C0 ts (3*t+3) from by rw [hu2,he2,hT];exact (Ky (ts:=ts) (t:=t) (i:=2) Z).symm]
        refine oNl' (zF (sL [2,3,16,17,18,5,4,23,9,10] O) (zP (zC (zQ (st' (AV (c:=(3:Int)) O O jY) O (AJ O (oNl' (zF (sL [2,3,16,17,18,5,4,23,9,10] O) (zu (zk (q4 ?_)))))))))))
        refine st' (AW (c:=false) O O jY) O (oNl' (q1 (zX O (zY (zR (zR (zV (zP (zC (zQ (st' (AV (c:=((t+1:Nat):Int)) O O (AY (a:=t) (b:=1) Z)) O ?_)))))))))))
        refine AJ O (oNl' (zF (sL [2,3,16,17,18,5,4,23,9,10] O) ?_))
        rw [show 3*t+3=3*(t+1)+0 by omega]
        exact zm (t+1) Z Z (sF O) (sl (sl (sl (sl (sl (sl (sl sr)))))))
 ·replace hc0:=xQ hc0
  have htl:t=ts.length:=by omega
  have hel:=KK (ts:=ts) (3*ts.length)
  refine zY (zR (zh (zV (q2 (AJ O ?_)))))
  rw [show C0 ts (3*t+0)=(C0 ts (3*ts.length)) by rw [htl,Nat.add_zero]]
  refine st (v:=(vN ((C0 ts (3*ts.length)).length))) (Qm 0 (kvs:=(C0 ts (3*ts.length))) O underlying239 O) (leB O) (AQ.make0 eR O O Z O O λbo hbo=>asg' O (q6 (sL [2,3,16,17,18,12] O) (q4 (AJ O (AQ.range 1 (kvs:=(C0 ts (3*ts.length))) (AM O) O underlying239 O O λb2=>oNl' (zF (sL [2,3,16,17,18,12,85] O) (zC (zN ?_))))))))
  refine yb (tg λ(seen:List Nat) (out:List E4) (p1:Option Addr) (c1:Nat)=>seen.Nodup/\(∀x∈seen,x<(C0 ts (3*ts.length)).length)/\out=seen.map (Xz (C0 ts (3*ts.length)))/\OwnOk p1 out.length c1/\p1≠none) (tg λ(seen:List Nat) (out:List E4) (p1:Option Addr) (c1:Nat)=>[(2,jj),(85,(Value.pointer (jk b2))),(12,(qz p1 out.length c1))]) (tg λ(seen:List Nat) (out:List E4) (p1:Option Addr) (c1:Nat)=>[dm b2 b1 (C0 ts (3*ts.length)).length seen,rowW p1 49 4 out.length c1 (rowsL Ba out),Dw b1 J0 OO (C0 ts (3*ts.length)),AC x.p (rowsL Am ts)]) (tg λ(seen:List Nat) (out:List E4) (p1:Option Addr) (c1:Nat)=>(C0 ts (3*ts.length)).length-seen.length) ([]:List Nat) ([]:List E4) (jk bo) ((C0 ts (3*ts.length)).length) (⟨List.nodup_nil,(λx hx=>by cases hx),rfl,hbo,by simp⟩) (sF O) sr (λseen out p1 c1 hJ=>?_)
  obtain ⟨hnd,hlt,hou,ho,hpn⟩:=hJ
  refine q4 ?_
  refine AQ.next 2 0 (kvs:=(C0 ts (3*ts.length))) (seen:=seen) (AM O) O O O O (λhall=>?_) (λqn kq ve hq hns=>?_)
  ·refine st' (AK (v:=(qa false)) O O) O (q6 (sL [2,85,12,87] O) (zX O (zY (zR (yK (zV (q2 (AJ O ?_))))))))
   have hpm:out.Perm ((C0 ts (3*ts.length)).map (·.2)):=by rw [hou];exact VK hnd hlt hall
   have hol:out.length=(BI ts).length:=by rw [KH];simpa using hpm.length_eq
   have hlo:out.length<=3*ts.length:=by rw [hol,KH];exact hel
   exact AQ.callS 1 (xs:=out) (ys:=BI ts) (v:=(Value.tuple #[])) (AM O) (Ak (args:=[(qz p1 out.length c1),(Value.func (.func 168) #[] #[])]) O O call167) O (λw hw=>Xe out _ _ _ 49 ho hpn O Z w (hw.holds (i:=1) O)) (λzs h1 h2=>bC hn hN h1 h2 hpm) (λd hd=>by cases hd<;>exact (leB O)) (q3 (sL [2,85,12] O) (AJ O (ck' call119 (Va p1 _ c1 ho.le) O (asg' O (oNl' (zF (sL [2,85,12] O) (zC (zH (ret_one O (rd_tmp (v:=(qz p1 out.length out.length)) O) (λw hw=>(by rw [<-hol];exact dz hw 1 O ho (by rw [Al B6,hol]) O)))))))))))
  ·refine st' (AK (v:=(qa true)) O O) O (q6 (sL [2,85,12,87] O) (zZ O (zJ (zC (zN (q4 ?_))))))
   have hlo:out.length<=3*ts.length:=by rw [hou,xv];exact xx (Lb hnd hlt) hel
   refine st' (v:=(Value.tuple #[(aG (In kq)),(aG (Ba ve))])) (Vw 2 0 (enc:=J0) (eV:=OO) (kvs:=(C0 ts (3*ts.length))) (seen:=seen) (q:=qn) O O O hq) O (st' (AK (v:=(aG (Ba ve))) O O) O (al Hx O λb3=>Aj O sizeOf49 O (oNl' (zF (sL [2,85,12,14] O) (zC (zQ (AJ O (An 0 IN O (zn (V:=λb4=>(qz (jk b4) 1 1)) (T:=49) (cs:=Ba ve) (AM O) (BH (z:=.agg (Ba jA).toArray) (cs:=Ba ve) (pv:=[(0,(aG (Ba ve)))]) underlying46 sizeOf49 zeroValue49 jY jY O (Lx ve)) O (leB O) λb4=>yf 3 (j:=0) (cs2:=rowsL Ba (out++[ve])) eR O ho (Al B6 _) O O O O O jY (KU Z) Z (by rw [DE];rfl) O λp_1 c_1 ho_1 hne_1=>?_)))))))))
   refine asg' O (oNl' (zF (sL [2,85,12,14] O) (zP ?_)))
   have hnext:seen.length<(C0 ts (3*ts.length)).length:=by have h9:=Lb (l:=seen++[qn]) (n:=(C0 ts (3*ts.length)).length) (List.nodup_append.2 ⟨hnd,List.nodup_cons.2 ⟨List.not_mem_nil,List.nodup_nil⟩,λa ha b hb e=>by rw [xz.1 hb] at e;exact hns (e▸ha)⟩) (λx hx=>by rcases List.mem_append.1 hx with h|h;exact hlt x h;rw [xz.1 h];exact (List.getElem?_eq_some_iff.1 hq).1);rw [xw,List.length_singleton] at h9;omega
   rw [show out.length+1=(out++[ve]).length by simp]
   exact yO (seen++[qn]) (out++[ve]) p_1 c_1 (⟨List.nodup_append.2 ⟨hnd,List.nodup_cons.2 ⟨List.not_mem_nil,List.nodup_nil⟩,λa ha b hb e=>by rw [xz.1 hb] at e;exact hns (e▸ha)⟩,λx hx=>by rcases List.mem_append.1 hx with h|h;exact hlt x h;rw [xz.1 h];exact (List.getElem?_eq_some_iff.1 hq).1,by rw [List.map_append,hou];simp [Z1 hq],(by simpa using ho_1),hne_1⟩) (by have h8:=hnext;rw [xw,List.length_singleton];omega) (sF O) (sl (sl sr))
theorem Vr (ts:List (Tq3)) (x:RX (rowsL Am ts) ts.length) (N:Nat) (hn:Bn N ts=true) (hN:N<=4611686018427387904) (hl:ts.length<=1000000000) (w:World) {S:Nat->Prop} (hx:Ro S w x):Calls prog 101 #[(qz x.p ts.length x.c)] w (Ai (RX (rowsL Ba (BI ts)) (BI ts).length) S w):=(Mt ts x N hn hN hl w hx).mono λe w1 h=>h.ofCX
end
def dj (l:List Nat):List Value:=l.map λ(d:Nat)=>vN d
section
set_option maxRecDepth 100000
theorem Oa {N:Nat} {ts ss:List (Tq3)} (x:RM N ts ss) (hl:ts.length<=1000000000) (hN:N<=4611686018427387904) (hnb:Bn N ts=true) (w:World) {S:Nat->Prop} (hx:Ro S w x):Calls prog 34 #[(aG (GC x))] w (Ai (CX (rowsL Ba (BI ts)) (BI ts).length) S w):=by
 have lx:=Bq (W:=w) hx
 refine AR (args:=[(aG (GC x))]) (L:=[AC x.a.p (x.cs),AC x.b.p (rowsL Am ts),AC x.c.p (x.ds)]) func34 O O (leB O) (C7 hx Ae) (zM (sL [0] O) (q4 (BG (cs:=GC x) O λb1=>asg' O (q6 (sL [1,2] O) (q4 (An 0 Bu O (Bx (args:=[(aG (GC x))]) (v:=(qa true)) call43 (λw hw=>(by have h9:=TA x Z w (inS hw 1 O lx);rw [hnb] at h9;exact h9)) O (st' (BB (c:=false) O O) O (oNl' (zF (sL [1,2,5] O) ?_))))))))))
 exact zC (zX O (zJ (q2 (st' (v:=(pP b1 1)) (AA O underlying30 O sizeOf23 O) O (A_ 0 (qz x.b.p ts.length x.b.c) CQ O (yE (S:=S) (α:=CX (rowsL Ba (BI ts)) (BI ts).length) (args:=[(qz x.b.p ts.length x.b.c)]) call101 (λw hw=>Mt ts x.b N hnb hN hl w (eC (inS hw 1 O lx))) O O O λo lo=>asg' O (oNl' (zF (sL [1,2] O) (zC (zH (ret_one O (rd_tmp (v:=(qz o.p ((BI ts).length) ((BI ts).length))) O) (λw hw=>DR hw (inS hw 0 O lo) O))))))))))))
theorem Ke {N:Nat} {ts ss:List (Tq3)} (x:RM N ts ss) (hl:ts.length<=1000000000) (hN:N<=4611686018427387904) (hnb:Bn N ts=true) (w:World) {S:Nat->Prop} (hx:Ro S w x):Calls prog 34 #[(aG (GC x))] w (Ai (RX (rowsL Ba (BI ts)) (BI ts).length) S w):=(Oa x hl hN hnb w hx).mono λe w1 h=>h.ofCX
end
end Go.Proofs.YtpolhpjiahbidaaGreatDoor
