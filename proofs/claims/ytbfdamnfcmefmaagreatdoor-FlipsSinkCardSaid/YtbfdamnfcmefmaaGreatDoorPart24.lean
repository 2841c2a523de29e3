import Derived.Test.YtbfdamnfcmefmaaGreatDoorPart22
import Derived.Test.YtbfdamnfcmefmaaGreatDoorPart23
namespace Go.Proofs.YtbfdamnfcmefmaaGreatDoor
open Go Go.RowKit Go.Proofs.Tryz
open Go.Value renaming slice→qz,bool→qa
set_option linter.unusedVariables false
set_option linter.unusedSimpArgs false
theorem Rc {w w':World} (h:Ht w.heap.size w w'):∃(q:Nat) (os:Array Obj),w'=Go.Sort.grow (w.drewN q) os:=by
  refine ⟨w'.drawn-w.drawn,w'.heap.extract w.heap.size w'.heap.size,?_⟩
  have h1:=h.os;have h2:=h.tape;have h3:=h.output;have h4:=h.size;have h5:=h.block;have h6:=h.drawn
  have hh:w'.heap=w.heap++w'.heap.extract w.heap.size w'.heap.size:=by
    apply Array.ext_getElem?
    intro i
    rw [Array.getElem?_append]
    split
    · rename_i hi;exact h5 i hi
    · rename_i hi
      rw [Array.getElem?_extract]
      split
      · congr 1;omega
      · rename_i hj;rw [Array.getElem?_eq_none Z]
  obtain ⟨hp,tp,dr,os,out⟩:=w'
  obtain ⟨hp0,tp0,dr0,os0,out0⟩:=w
  simp only at h1 h2 h3 h4 h6 hh
  subst h1;subst h2;subst h3
  show World.mk hp tp dr os out=World.mk (hp0++hp.extract hp0.size hp.size) tp (dr0+(dr-dr0)) os out
  rw [<-hh,show dr0+(dr-dr0)=dr by omega]
section
instance:Inhabited E4:=⟨⟨0,0,0,0⟩⟩
theorem Kt (a b:Nat):(a<b/\EJ a b = -1)\/(b<a/\EJ a b=1)\/(a=b/\EJ a b=0):=by
  rcases Nat.lt_trichotomy a b with h|h|h
  · exact .inl ⟨h,RL h⟩
  · exact .inr (.inr ⟨h,RJ Z Z⟩)
  · exact .inr (.inl ⟨h,RK Z h⟩)
theorem Yb {p q:Int}:V5 p q<0↔p<0\/(p=0/\q<0):=by
  unfold V5
  split
  · omega
  · split<;>omega
theorem Eb {x y:E4}:Oz x y<0↔x.a<y.a\/(x.a=y.a/\x.b<y.b):=by
  unfold Oz
  rw [Yb]
  rcases Kt x.a y.a with ⟨h1,e1⟩|⟨h1,e1⟩|⟨h1,e1⟩<;>rcases Kt x.b y.b with ⟨h2,e2⟩|⟨h2,e2⟩|⟨h2,e2⟩<;>rw [e1,e2]<;>omega
def SH (x y:E4):Prop:=¬Oz y x<0
theorem KQ {x y:E4}:SH x y↔x.a<y.a\/(x.a=y.a/\x.b<=y.b):=by unfold SH;rw [Eb];omega
theorem eC:Go.Sort.SWO (ltOf Oz) where
  irrefl x:=xI (by rw [Eb];omega)
  trans x y z h1 h2:=by
    have h1:=Eb.1 (xU h1)
    have h2:=Eb.1 (xU h2)
    exact xJ (Eb.2 Z)
  ntrans x y z h1 h2:=by
    have h1:=xT h1
    have h2:=xT h2
    rw [Eb] at h1 h2
    exact xI (by rw [Eb];omega)
theorem bW (AX off size:Nat) (w:World):CmpLays prog 105 #[] Bd 4 Oz AX off size w:=λm os dk _ x y=>by
  rw [Array.append_empty]
  exact (Xd x y _).mono λe w' h=>⟨h.1,Rc h.2⟩
theorem M5 {d:Array E4} {t:Nat} (h:t<d.size*4):(rowsL Bd d.toList)[t]?=some (Go.Sort.flatK Bd 4 d)[t]!:=by
  rw [Go.Sort.get_flatK _ _ _ _ h]
  have h1:t/4<d.size:=by omega
  have h2:=Cz Cr jA d.toList (t/4) (t%4) (by simpa using h1) (Nat.mod_lt _ jY) (v:=(Bd d[t/4]!)[t%4]!) (by
    rw [List.getD,show d.toList[t/4]?=some d[t/4] from by simp [h1],getElem!_pos d (t/4) h1]
    have hl:t%4<(Bd d[t/4]).length:=by rw [Cr];exact Nat.mod_lt _ jY
    show (Bd d[t/4])[t%4]?=some (Bd d[t/4])[t%4]!
    rw [xQ hl,getElem!_pos (Bd d[t/4]) (t%4) hl])
  rw [show t/4*4+t%4=t by omega] at h2
  exact h2
def Sj (x:E4):List E4->List E4
  | []=>[x]
  | y::r=>if Oz x y<0 then x::y::r else y::Sj x r
def TN:List E4->List E4
  | []=>[]
  | x::r=>Sj x (TN r)
theorem JC (x:E4):∀l,(Sj x l).Perm (x::l)
  | []=>List.Perm.refl _
  | y::r=>by
    unfold Sj
    split
    · exact List.Perm.refl _
    · exact (List.Perm.cons y (JC x r)).trans (List.Perm.swap x y r)
theorem Dx:∀l,(TN l).Perm l
  | []=>List.Perm.refl _
  | x::r=>(JC x (TN r)).trans (List.Perm.cons x (Dx r))
theorem Jo (x:E4):∀l,l.Pairwise SH->(Sj x l).Pairwise SH
  | [],_=>List.pairwise_singleton _ _
  | y::r,h=>by
    obtain ⟨h1,h2⟩:=List.pairwise_cons.1 h
    unfold Sj
    split
    · rename_i k
      have hxy:SH x y:=by rw [KQ];have:=Eb.1 k;omega
      refine List.pairwise_cons.2 ⟨λz hz=>?_,h⟩
      rcases xO.1 hz with rfl|hz
      · exact hxy
      · have h3:=h1 z hz;rw [KQ] at *;omega
    · rename_i k
      refine List.pairwise_cons.2 ⟨λz hz=>?_,Jo x r h2⟩
      rcases xO.1 ((JC x r).mem_iff.1 hz) with rfl|hz
      · exact k
      · exact h1 z hz
theorem G6:∀l,(TN l).Pairwise SH
  | []=>List.Pairwise.nil
  | x::r=>Jo x _ (G6 r)
def Mj (l:List E4):Prop:=l.Pairwise (λx y=>¬(x.a=y.a/\x.b=y.b))
theorem R5:∀{l:List E4},Mj l->∀x∈l,∀y∈l,x.a=y.a->x.b=y.b->x=y
  | z::r,h,x,hx,y,hy,e,e'=>by
    obtain ⟨h1,h2⟩:=List.pairwise_cons.1 h
    rcases xO.1 hx with ex|hx'<;>rcases xO.1 hy with ey|hy'
    · rw [ex,ey]
    · rw [ex] at e e';exact absurd ⟨e,e'⟩ (h1 y hy')
    · rw [ey] at e e';exact absurd ⟨e.symm,e'.symm⟩ (h1 x hx')
    · exact R5 h2 x hx' y hy' e e'
theorem TO {l l':List E4} (hp:l'.Perm l) (hs:l'.Pairwise SH) (hn:Mj l):l'=TN l:=by
  refine List.Perm.eq_of_pairwise (le:=SH) (λx y hx hy h1 h2=>?_) hs (G6 l) (hp.trans (Dx l).symm)
  rw [KQ] at h1 h2
  exact R5 hn x (hp.mem_iff.1 hx) y ((Dx l).mem_iff.1 hy) Z Z
theorem Wb (xs:List E4) (p:Option Addr) (n c:Nat) (T:TypeId) (ho:OwnOk p n c) (hp0:p≠none) (hn:n=xs.length) (hN:n<4611686018427387904) (w:World) (hrow:∀b,p.map (·.block)=some b->∃o,w.heap[b]?=some o/\(rowW p T 4 n c (rowsL Bd xs)).P o) :
    Calls prog 104 #[.slice p n c,.func (.func 105) #[] #[]] w λe w'=>e=.returned (.tuple #[])/\Jy w w' (p.map (·.block))/\∃ys:List E4,ys.Perm xs/\ys.Pairwise SH/\∀b,p.map (·.block)=some b->∃o,w'.heap[b]?=some o/\(rowW p T 4 n c (rowsL Bd ys)).P o:=by
  cases hp:p with
  | none=>exact absurd hp hp0
  | some a =>
    subst hp
    obtain ⟨o,hob,cur,rfl,hsz,hcur⟩:=hrow a.block rfl
    have hat:=ho.at0 a rfl
    have hle:=ho.le
    obtain ⟨d,hd⟩:∃d,d=xs.toArray:=⟨_,rfl⟩
    have hdz:d.size=n:=by rw [hd,hn];simp
    have hdx:d.toList=xs:=by rw [hd]
    have hH:Go.Sort.HoldsK Bd 4 w a.block 0 d:=λj hj=>by
      have hj':j<d.size*4:=by simpa using hj
      refine ⟨?_,by simp [World.frozen?,hob]⟩
      have h1:(cur.toList.take (n*4))[j]?=(rowsL Bd xs)[j]?:=by rw [hcur]
      rw [List.getElem?_take_of_lt Z,Array.getElem?_toList,<-hdx,M5 hj'] at h1
      show w.cell? ⟨a.block,0+j,none⟩=some (id (Go.Sort.flatK Bd 4 d)[j]!)
      unfold World.cell?
      simp only [hob,Nat.zero_add]
      exact h1
    have hlt:a.block<w.heap.size:=by
      rcases Nat.lt_or_ge a.block w.heap.size with h|h
      · exact h
      · rw [Array.getElem?_eq_none h] at hob;cases hob
    have h:=Tryz.slices_SortFunc_Edge 4 isAgg54 sizeOf54 Bd Cr (λx v hv=>by
      unfold Bd at hv
      simp only [xO,List.not_mem_nil,or_false] at hv
      rcases hv with rfl|rfl|rfl|rfl<;>rfl) Oz eC 105 #[] a.block 0 c d w call105 (bW a.block 0 d.size w) hH hlt Z
    rw [hdz] at h
    rw [hat]
    refine h.mono ?_
    rintro e w' ⟨rfl,d',m,os,⟨hz',_,hperm⟩,hsort,rfl⟩
    have hz2:d'.size=n:=by rw [hz',hdz]
    have hperm':d'.toList.Perm d.toList:=by
      have e1:d'.extract 0 n=d':=by rw [<-hz2];exact Array.extract_size
      have e2:d.extract 0 n=d:=by rw [<-hdz];exact Array.extract_size
      rw [e1,e2] at hperm
      exact hperm
    have hF:(Go.Sort.flatK Bd 4 d').size=n*4:=by rw [Go.Sort.size_flatK,hz2]
    refine ⟨rfl,⟨⟨rfl,rfl,rfl,by simp [sortWorldK,Go.Sort.grow,Go.Sort.putRowK,Go.Sort.putRow,Go.Sort.mapBlock,Go.Sort.ahead],λj hj hne=>?_⟩,by show w.drawn<=w.drawn+m;omega⟩,d'.toList,by rw [<-hdx];exact hperm',List.pairwise_iff_getElem.2 λi j hi hj hij=>?_,λb e=>?_⟩
    · have hne':a.block≠j:=λe=>hne (by rw [e];rfl)
      unfold sortWorldK
      rw [Go.Sort.heap_grow_old _ _ (by simpa [Go.Sort.putRowK,Go.Sort.putRow,Go.Sort.mapBlock,Go.Sort.ahead] using hj)]
      simp [Go.Sort.putRowK,Go.Sort.putRow,Go.Sort.mapBlock,Go.Sort.ahead,Array.getElem?_modify,hne']
    · have hi':i<d'.size:=by simpa using hi
      have hj':j<d'.size:=by simpa using hj
      have h9:=xT (hsort i j (xK _) hij Z)
      rw [getElem!_pos d' j hj',getElem!_pos d' i hi'] at h9
      simpa [SH] using h9
    · injection e with e
      subst e
      refine ⟨.cells (Go.Sort.putCells id 0 (Go.Sort.flatK Bd 4 d') cur) T (0,0),?_,_,rfl,by simp [Go.Sort.putCells,hsz],?_⟩
      · unfold sortWorldK
        rw [Go.Sort.heap_grow_old _ _ (by simpa [Go.Sort.putRowK,Go.Sort.putRow,Go.Sort.mapBlock,Go.Sort.ahead] using hlt)]
        simp [Go.Sort.putRowK,Go.Sort.putRow,Go.Sort.mapBlock,Go.Sort.ahead,Array.getElem?_modify,hob,Go.Sort.onCells]
      · apply List.ext_getElem?
        intro j
        have hlen:(rowsL Bd d'.toList).length=n*4:=by rw [Ac Cr,Array.length_toList,hz2]
        by_cases hj:j<n*4
        · have hcs:n*4<=c*4:=Nat.mul_le_mul_right _ hle
          rw [List.getElem?_take_of_lt hj,Array.getElem?_toList,M5 (by rw [hz2];exact hj)]
          unfold Go.Sort.putCells
          rw [Array.getElem?_mapIdx,Array.getElem?_eq_getElem Z,Option.map_some,if_pos ⟨xK _,Z⟩]
          rfl
        · rw [List.getElem?_take_eq_none Z,List.getElem?_eq_none Z]
def Wx (kvs:List (P2×E4)) (q:Nat):E4:=(kvs.getD q ((0,0),⟨0,0,0,0⟩)).2
theorem Y8 {kvs:List (P2×E4)} {q:Nat} {k:P2} {v:E4} (h:kvs[q]?=some (k,v)):Wx kvs q=v:=by rw [Wx,List.getD,h];rfl
theorem Li:∀{n:Nat} {l:List Nat},l.Nodup->(∀x∈l,x<n)->l.length<=n
  | 0,[],_,_=>Nat.le_refl _
  | 0,x::r,_,h=>absurd (h x List.mem_cons_self) (Nat.not_lt_zero _)
  | n+1,l,h1,h2=>by
    have h3:(l.erase n).length<=n:=Li (h1.erase n) λx hx=>by
      have h4:=h2 x (List.mem_of_mem_erase hx)
      have h5:x≠n:=λe=>by
        rw [e] at hx
        exact h1.not_mem_erase hx
      omega
    rw [List.length_erase] at h3
    split at h3<;>omega
theorem UJ {kvs:List (P2×E4)} {seen:List Nat} (h1:seen.Nodup) (h2:∀x∈seen,x<kvs.length) (h3:∀q,q<kvs.length->q∈seen):(seen.map (Wx kvs)).Perm (kvs.map (·.2)):=by
  have hp:seen.Perm (List.range kvs.length):=(List.perm_ext_iff_of_nodup h1 List.nodup_range).2 λq=>⟨λh=>List.mem_range.2 (h2 q h),λh=>h3 q (List.mem_range.1 h)⟩
  refine (hp.map _).trans (List.Perm.of_eq ?_)
  apply List.ext_getElem?
  intro q
  rw [List.getElem?_map,List.getElem?_map]
  rcases Nat.lt_or_ge q kvs.length with h|h
  · rw [List.getElem?_range h,xQ h]
    simp [Wx,List.getD,h]
  · rw [List.getElem?_eq_none (by simpa using h),List.getElem?_eq_none h];rfl
def Pu (kvs:List (P2×E4)):Prop:=∀p∈kvs,p.2.a=p.1.1/\p.2.b=p.1.2
theorem NR (e:E4) (t a b:Nat):(Fo e t a b).a=e.a/\(Fo e t a b).b=e.b:=by
  unfold Fo
  split
  · exact ⟨rfl,rfl⟩
  · split<;>exact ⟨rfl,rfl⟩
theorem LN {kvs:List (P2×E4)} {x:P2} {v:E4} (h:BU kvs x=some v):(x,v)∈kvs:=by
  induction kvs with
  | nil=>cases h
  | cons p r ih =>
    obtain ⟨k,u⟩:=p
    unfold BU at h
    split at h
    · rename_i e
      injection h with h
      rw [e,h];exact List.mem_cons_self
    · exact List.mem_cons_of_mem _ (ih h)
theorem Se {kvs:List (P2×E4)} (h:Pu kvs) (x:P2):((BU kvs x).getD (JI x)).a=x.1/\((BU kvs x).getD (JI x)).b=x.2:=by
  cases hg:BU kvs x with
  | none=>exact ⟨rfl,rfl⟩
  | some v=>exact h _ (LN hg)
theorem S9 {kvs:List (P2×E4)} {x:P2} {y:E4} {p:P2×E4} (h:p∈Bl kvs x y):p=(x,y)\/p∈kvs:=by
  induction kvs with
  | nil=>exact .inl (xP.1 h)
  | cons q r ih =>
    obtain ⟨k,u⟩:=q
    unfold Bl at h
    split at h
    · rename_i e
      rcases xO.1 h with h|h
      · exact .inl (by rw [h,e])
      · exact .inr (List.mem_cons_of_mem _ h)
    · rcases xO.1 h with h|h
      · exact .inr (by rw [h];exact List.mem_cons_self)
      · exact (ih h).imp_right (List.mem_cons_of_mem _)
theorem K1 (ts:List (Tq3)):∀s,Pu (Cl ts s)
  | 0=>λp h=>by cases h
  | s+1=>λp h=>by
    have h0:=K1 ts s
    rcases S9 h with rfl|h
    · have h1:=Se h0 (CB (FB (ts.getD (s/3) (0,0,0)) (s%3)) (FB (ts.getD (s/3) (0,0,0)) ((s%3+1)%3)))
      have h2:=NR ((BU (Cl ts s) (CB (FB (ts.getD (s/3) (0,0,0)) (s%3)) (FB (ts.getD (s/3) (0,0,0)) ((s%3+1)%3)))).getD (JI (CB (FB (ts.getD (s/3) (0,0,0)) (s%3)) (FB (ts.getD (s/3) (0,0,0)) ((s%3+1)%3))))) (s/3) (FB (ts.getD (s/3) (0,0,0)) (s%3)) (FB (ts.getD (s/3) (0,0,0)) ((s%3+1)%3))
      exact ⟨h2.1.trans h1.1,h2.2.trans h1.2⟩
    · exact h0 p h
theorem NF {kvs:List (P2×E4)} {ok:P2->Prop} (h:Oe ok kvs) (he:Pu kvs):Mj (kvs.map (·.2)):=by
  unfold Mj
  rw [List.pairwise_map]
  refine List.Pairwise.imp_of_mem (λ{p q} hp hq hne=>?_) h.once
  rintro ⟨e1,e2⟩
  have h1:=he p hp
  have h2:=he q hq
  exact hne (Prod.ext (by rw [<-h1.1,<-h2.1,e1]) (by rw [<-h1.2,<-h2.2,e2]))
def BJ (ts:List (Tq3)):List E4:=TN ((Cl ts (3*ts.length)).map (·.2))
theorem Zr {ts:List (Tq3)} {N:Nat} {xs ys:List E4} (hn:BV N ts=true) (hN:N<=4611686018427387904) (h1:ys.Perm xs) (h2:ys.Pairwise SH) (h3:xs.Perm ((Cl ts (3*ts.length)).map (·.2))):ys=BJ ts :=
  TO (h1.trans h3) h2 (NF (Fh hn hN _ (Nat.le_refl _)) (K1 ts _))
theorem Ic (ts:List (Tq3)):(BJ ts).length=(Cl ts (3*ts.length)).length:=by rw [BJ,(Dx _).length_eq,xL]
section
variable {P:Program} {ops:Array Oper} {rest:List Oper} {Q:Exit->Act->World->Prop} {n:Nat} {F:List (Nat×Value)} {w0:BF} {L:List As}
theorem AU.callS {o:Oper} {f:FuncId} {args:Array Value} {v:Value} (i:Nat) {q:Option Addr} {T:TypeId} {m c:Nat} {xs ys:List E4} (hw:Wt ops n F o)
    (he:∀a w,C1 n a F->BI w0 w L->(execOp a.eval o).run P w=.ok (.enter f args) w) (hi:L[i]?=some (rowW q T 4 m c (rowsL Bd xs)))
    (hc:∀w,BI w0 w L->Calls P f args w λe w'=>e=.returned v/\Jy w w' (q.map (·.block))/\∃zs:List E4,zs.Perm xs/\zs.Pairwise SH/\∀b,q.map (·.block)=some b->∃o,w'.heap[b]?=some o/\(rowW q T 4 m c (rowsL Bd zs)).P o)
    (hu:∀zs:List E4,zs.Perm xs->zs.Pairwise SH->zs=ys)
    (hd:∀d,o.dst=some d->d<n) (next:AU P ops rest Q n (match o.dst with|some d=>(d,v)::F|none=>F) w0 (L.set i (rowW q T 4 m c (rowsL Bd ys)))):AU P ops (o::rest) Q n F w0 L :=
  AU.callW i hw he hi (λw hW=>(hc w hW).mono λe w' ⟨h1,h2,zs,h3,h4,h5⟩=>⟨h1,h2,by rw [<-hu zs h3 h4];exact h5⟩) hd next
end
theorem LJ {kvs:List (P2×E4)} {k:P2} (h:(BU kvs k).isSome=false):JI k=(BU kvs k).getD (JI k):=by
  cases hg:BU kvs k with
  | none=>rfl
  | some v=>rw [hg] at h;cases h
theorem LK {kvs:List (P2×E4)} {k:P2} {z:E4} (h:(BU kvs k).isSome=true):(BU kvs k).getD z=(BU kvs k).getD (JI k):=by
  cases hg:BU kvs k with
  | none=>rw [hg] at h;cases h
  | some v=>rfl
end
structure CX (cs:List Value) (n:Nat) where
  p:Option Addr
  ok:Aw p n n
instance {cs:List Value} {n:Nat}:C6 (CX cs n):=⟨λa=>.slice a.p n n,λa=>[AP a.p cs],λa y hy=>by rcases xP.1 hy with rfl;rfl⟩
theorem cA {S:Nat->Prop} {W w:World} {L:List As} (hw:BI ⟨W,none⟩ w L) (i:Nat) {p:Option Addr} {T:TypeId} {z n c:Nat} {cs:List Value} (hi:L[i]?=some (rowW p T z n c cs)) (ho:OwnOk p n c) (hl:cs.length=n*z) {v:Value} (hv:v=.slice p n n):BS (CX cs n) S W (.returned v) w :=
  ⟨⟨p,⟨λe=>⟨(ho.nil e).1,(ho.nil e).1⟩,λa e=>by rw [ho.at0 a e],Nat.le_refl _⟩⟩,by rw [hv];rfl,hw.out,λy hy=>by rcases xP.1 hy with rfl;exact GS hw i hi ho hl⟩
theorem BS.ofCX {S:Nat->Prop} {W w:World} {e:Ending} {cs:List Value} {n:Nat} (h:BS (CX cs n) S W e w):BS (RX cs n) S W e w:=by
  obtain ⟨a,h1,h2,h3⟩:=h
  exact ⟨⟨a.p,n,a.ok⟩,h1,h2,λy hy=>by rcases xP.1 hy with rfl;exact h3 _ List.mem_cons_self⟩
end Go.Proofs.YtbfdamnfcmefmaaGreatDoor
