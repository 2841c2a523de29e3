import Derived.Shelf.SlSortCmp.WholeK
import Derived.Test.YtpgncndhhhllfaaGreatPart00
import Derived.Test.YtpgncndhhhllfaaGreatPart16
import Derived.Test.YtpgncndhhhllfaaGreatPart18
import Derived.Test.YtpgncndhhhllfaaGreatPart19
namespace Go.Proofs.YtpgncndhhhllfaaGreat
open Go Go.RowKit Go.Proofs.Tryz
set_option linter.unusedVariables false
set_option linter.unusedSimpArgs false
theorem P5 {w w':World} (h:F0 w.heap.size w w'):∃(q:Nat) (os:Array Obj),w'=Go.Sort.grow (w.drewN q) os:=by
  refine ⟨w'.drawn-w.drawn,w'.heap.extract w.heap.size w'.heap.size,?_⟩
  have h1:=h.os;have h2:=h.tape;have h3:=h.output;have h4:=h.size;have h5:=h.block;have h6:=h.drawn
  have hh:w'.heap=w.heap++w'.heap.extract w.heap.size w'.heap.size:=by
    apply Array.ext_getElem?
    intro i
    rw [Array.getElem?_append]
    split
    · rename_i hi;exact h5 i hi
    · rename_i hi
      rw [Array.getElem?_extract]
      split
      · congr 1;omega
      · rename_i hj;rw [Array.getElem?_eq_none Z]
  obtain ⟨hp,tp,dr,os,out⟩:=w'
  obtain ⟨hp0,tp0,dr0,os0,out0⟩:=w
  simp only at h1 h2 h3 h4 h6 hh
  subst h1;subst h2;subst h3
  show World.mk hp tp dr os out=World.mk (hp0++hp.extract hp0.size hp.size) tp (dr0+(dr-dr0)) os out
  rw [<-hh,show dr0+(dr-dr0)=dr by omega]
section
instance:Inhabited E4:=⟨⟨0,0,0,0⟩⟩
theorem Gz (a b:Nat):(a<b/\Dd a b = -1)\/(b<a/\Dd a b=1)\/(a=b/\Dd a b=0):=by
  rcases Nat.lt_trichotomy a b with h|h|h
  · exact .inl ⟨h,QV h⟩
  · exact .inr (.inr ⟨h,Pw Z Z⟩)
  · exact .inr (.inl ⟨h,QM Z h⟩)
theorem Vh {p q:Int}:Tq p q<0↔p<0\/(p=0/\q<0):=by
  unfold Tq
  split
  · omega
  · split<;>omega
theorem Dv {x y:E4}:N1 x y<0↔x.a<y.a\/(x.a=y.a/\x.b<y.b):=by
  unfold N1
  rw [Vh]
  rcases Gz x.a y.a with ⟨h1,e1⟩|⟨h1,e1⟩|⟨h1,e1⟩<;>rcases Gz x.b y.b with ⟨h2,e2⟩|⟨h2,e2⟩|⟨h2,e2⟩<;>rw [e1,e2]<;>omega
def RR (x y:E4):Prop:=¬N1 y x<0
theorem I7 {x y:E4}:RR x y↔x.a<y.a\/(x.a=y.a/\x.b<=y.b):=by unfold RR;rw [Dv];omega
theorem aY:Go.Sort.SWO (ltOf N1) where
  irrefl x:=decide_eq_false (by rw [Dv];omega)
  trans x y z h1 h2:=by
    have h1:=Dv.1 (of_decide_eq_true h1)
    have h2:=Dv.1 (of_decide_eq_true h2)
    exact decide_eq_true (Dv.2 Z)
  ntrans x y z h1 h2:=by
    have h1:=of_decide_eq_false h1
    have h2:=of_decide_eq_false h2
    rw [Dv] at h1 h2
    exact decide_eq_false (by rw [Dv];omega)
theorem ZA (Ah off size:Nat) (w:World):CmpLays prog 84 #[] B1 4 N1 Ah off size w:=λm os dk _ x y=>by
  rw [Array.append_empty]
  exact (V9 x y _).mono λe w' h=>⟨h.1,P5 h.2⟩
theorem Lf {d:Array E4} {t:Nat} (h:t<d.size*4):(rowsL B1 d.toList)[t]?=some (Go.Sort.flatK B1 4 d)[t]!:=by
  rw [Go.Sort.get_flatK _ _ _ _ h]
  have h1:t/4<d.size:=by omega
  have h2:=Az Dp (⟨0,0,0,0⟩:E4) d.toList (t/4) (t%4) (by simpa using h1) (Nat.mod_lt _ (by decide)) (v:=(B1 d[t/4]!)[t%4]!) (by
    rw [List.getD,show d.toList[t/4]?=some d[t/4] from by simp [h1],getElem!_pos d (t/4) h1]
    have hl:t%4<(B1 d[t/4]).length:=by rw [Dp];exact Nat.mod_lt _ (by decide)
    show (B1 d[t/4])[t%4]?=some (B1 d[t/4])[t%4]!
    rw [List.getElem?_eq_getElem hl,getElem!_pos (B1 d[t/4]) (t%4) hl])
  rw [show t/4*4+t%4=t by omega] at h2
  exact h2
def Rn (x:E4):List E4->List E4
  | []=>[x]
  | y::r=>if N1 x y<0 then x::y::r else y::Rn x r
def Rm:List E4->List E4
  | []=>[]
  | x::r=>Rn x (Rm r)
theorem IN (x:E4):∀l,(Rn x l).Perm (x::l)
  | []=>List.Perm.refl _
  | y::r=>by
    unfold Rn
    split
    · exact List.Perm.refl _
    · exact (List.Perm.cons y (IN x r)).trans (List.Perm.swap x y r)
theorem DK:∀l,(Rm l).Perm l
  | []=>List.Perm.refl _
  | x::r=>(IN x (Rm r)).trans (List.Perm.cons x (DK r))
theorem In (x:E4):∀l,l.Pairwise RR->(Rn x l).Pairwise RR
  | [],_=>List.pairwise_singleton _ _
  | y::r,h=>by
    obtain ⟨h1,h2⟩:=List.pairwise_cons.1 h
    unfold Rn
    split
    · rename_i k
      have hxy:RR x y:=by rw [I7];have:=Dv.1 k;omega
      refine List.pairwise_cons.2 ⟨λz hz=>?_,h⟩
      rcases List.mem_cons.1 hz with rfl|hz
      · exact hxy
      · have h3:=h1 z hz;rw [I7] at *;omega
    · rename_i k
      refine List.pairwise_cons.2 ⟨λz hz=>?_,In x r h2⟩
      rcases List.mem_cons.1 ((IN x r).mem_iff.1 hz) with rfl|hz
      · exact k
      · exact h1 z hz
theorem F7:∀l,(Rm l).Pairwise RR
  | []=>List.Pairwise.nil
  | x::r=>In x _ (F7 r)
def LC (l:List E4):Prop:=l.Pairwise (λx y=>¬(x.a=y.a/\x.b=y.b))
theorem QE:∀{l:List E4},LC l->∀x∈l,∀y∈l,x.a=y.a->x.b=y.b->x=y
  | z::r,h,x,hx,y,hy,e,e'=>by
    obtain ⟨h1,h2⟩:=List.pairwise_cons.1 h
    rcases List.mem_cons.1 hx with ex|hx'<;>rcases List.mem_cons.1 hy with ey|hy'
    · rw [ex,ey]
    · rw [ex] at e e';exact absurd ⟨e,e'⟩ (h1 y hy')
    · rw [ey] at e e';exact absurd ⟨e.symm,e'.symm⟩ (h1 x hx')
    · exact QE h2 x hx' y hy' e e'
theorem RC {l l':List E4} (hp:l'.Perm l) (hs:l'.Pairwise RR) (hn:LC l):l'=Rm l:=by
  refine List.Perm.eq_of_pairwise (le:=RR) (λx y hx hy h1 h2=>?_) hs (F7 l) (hp.trans (DK l).symm)
  rw [I7] at h1 h2
  exact QE hn x (hp.mem_iff.1 hx) y ((DK l).mem_iff.1 hy) Z Z
theorem TQ (xs:List E4) (p:Option Addr) (n c:Nat) (T:TypeId) (ho:OwnOk p n c) (hp0:p≠none) (hn:n=xs.length) (hN:n<4611686018427387904) (w:World) (hrow:∀b,p.map (·.block)=some b->∃o,w.heap[b]?=some o/\(rowW p T 4 n c (rowsL B1 xs)).P o) :
    Calls prog 83 #[.slice p n c,.func (.func 84) #[] #[]] w λe w'=>e=.returned (.tuple #[])/\K0 w w' (p.map (·.block))/\∃ys:List E4,ys.Perm xs/\ys.Pairwise RR/\∀b,p.map (·.block)=some b->∃o,w'.heap[b]?=some o/\(rowW p T 4 n c (rowsL B1 ys)).P o:=by
  cases hp:p with
  | none=>exact absurd hp hp0
  | some a =>
    subst hp
    obtain ⟨o,hob,cur,rfl,hsz,hcur⟩:=hrow a.block rfl
    have hat:=ho.at0 a rfl
    have hle:=ho.le
    obtain ⟨d,hd⟩:∃d,d=xs.toArray:=⟨_,rfl⟩
    have hdz:d.size=n:=by rw [hd,hn];simp
    have hdx:d.toList=xs:=by rw [hd]
    have hH:Go.Sort.HoldsK B1 4 w a.block 0 d:=λj hj=>by
      have hj':j<d.size*4:=by simpa using hj
      refine ⟨?_,by simp [World.frozen?,hob]⟩
      have h1:(cur.toList.take (n*4))[j]?=(rowsL B1 xs)[j]?:=by rw [hcur]
      rw [List.getElem?_take_of_lt Z,Array.getElem?_toList,<-hdx,Lf hj'] at h1
      show w.cell? ⟨a.block,0+j,none⟩=some (id (Go.Sort.flatK B1 4 d)[j]!)
      unfold World.cell?
      simp only [hob,Nat.zero_add]
      exact h1
    have hlt:a.block<w.heap.size:=by
      rcases Nat.lt_or_ge a.block w.heap.size with h|h
      · exact h
      · rw [Array.getElem?_eq_none h] at hob;cases hob
    have h:=Tryz.slices_SortFunc_Edge 4 isAgg159 sizeOf159 B1 Dp (λx v hv=>by
      unfold B1 at hv
      simp only [List.mem_cons,List.not_mem_nil,or_false] at hv
      rcases hv with rfl|rfl|rfl|rfl<;>rfl) N1 aY 84 #[] a.block 0 c d w call84 (ZA a.block 0 d.size w) hH hlt Z
    rw [hdz] at h
    rw [hat]
    refine h.mono ?_
    rintro e w' ⟨rfl,d',m,os,⟨hz',_,hperm⟩,hsort,rfl⟩
    have hz2:d'.size=n:=by rw [hz',hdz]
    have hperm':d'.toList.Perm d.toList:=by
      have e1:d'.extract 0 n=d':=by rw [<-hz2];exact Array.extract_size
      have e2:d.extract 0 n=d:=by rw [<-hdz];exact Array.extract_size
      rw [e1,e2] at hperm
      exact hperm
    have hF:(Go.Sort.flatK B1 4 d').size=n*4:=by rw [Go.Sort.size_flatK,hz2]
    refine ⟨rfl,⟨⟨rfl,rfl,rfl,by simp [sortWorldK,Go.Sort.grow,Go.Sort.putRowK,Go.Sort.putRow,Go.Sort.mapBlock,Go.Sort.ahead],λj hj hne=>?_⟩,by show w.drawn<=w.drawn+m;omega⟩,d'.toList,by rw [<-hdx];exact hperm',List.pairwise_iff_getElem.2 λi j hi hj hij=>?_,λb e=>?_⟩
    · have hne':a.block≠j:=λe=>hne (by rw [e];rfl)
      unfold sortWorldK
      rw [Go.Sort.heap_grow_old _ _ (by simpa [Go.Sort.putRowK,Go.Sort.putRow,Go.Sort.mapBlock,Go.Sort.ahead] using hj)]
      simp [Go.Sort.putRowK,Go.Sort.putRow,Go.Sort.mapBlock,Go.Sort.ahead,Array.getElem?_modify,hne']
    · have hi':i<d'.size:=by simpa using hi
      have hj':j<d'.size:=by simpa using hj
      have h9:=of_decide_eq_false (hsort i j (Nat.zero_le _) hij Z)
      rw [getElem!_pos d' j hj',getElem!_pos d' i hi'] at h9
      simpa [RR] using h9
    · injection e with e
      subst e
      refine ⟨.cells (Go.Sort.putCells id 0 (Go.Sort.flatK B1 4 d') cur) T (0,0),?_,_,rfl,by simp [Go.Sort.putCells,hsz],?_⟩
      · unfold sortWorldK
        rw [Go.Sort.heap_grow_old _ _ (by simpa [Go.Sort.putRowK,Go.Sort.putRow,Go.Sort.mapBlock,Go.Sort.ahead] using hlt)]
        simp [Go.Sort.putRowK,Go.Sort.putRow,Go.Sort.mapBlock,Go.Sort.ahead,Array.getElem?_modify,hob,Go.Sort.onCells]
      · apply List.ext_getElem?
        intro j
        have hlen:(rowsL B1 d'.toList).length=n*4:=by rw [A6 Dp,Array.length_toList,hz2]
        by_cases hj:j<n*4
        · have hcs:n*4<=c*4:=Nat.mul_le_mul_right _ hle
          rw [List.getElem?_take_of_lt hj,Array.getElem?_toList,Lf (by rw [hz2];exact hj)]
          unfold Go.Sort.putCells
          rw [Array.getElem?_mapIdx,Array.getElem?_eq_getElem Z,Option.map_some,if_pos ⟨Nat.zero_le _,Z⟩]
          rfl
        · rw [List.getElem?_take_eq_none Z,List.getElem?_eq_none Z]
def VU (kvs:List (P2×E4)) (q:Nat):E4:=(kvs.getD q ((0,0),⟨0,0,0,0⟩)).2
theorem Wx {kvs:List (P2×E4)} {q:Nat} {k:P2} {v:E4} (h:kvs[q]?=some (k,v)):VU kvs q=v:=by rw [VU,List.getD,h];rfl
theorem GF:∀{n:Nat} {l:List Nat},l.Nodup->(∀x∈l,x<n)->l.length<=n
  | 0,[],_,_=>Nat.le_refl _
  | 0,x::r,_,h=>absurd (h x List.mem_cons_self) (Nat.not_lt_zero _)
  | n+1,l,h1,h2=>by
    have h3:(l.erase n).length<=n:=GF (h1.erase n) λx hx=>by
      have h4:=h2 x (List.mem_of_mem_erase hx)
      have h5:x≠n:=λe=>by
        rw [e] at hx
        exact h1.not_mem_erase hx
      omega
    rw [List.length_erase] at h3
    split at h3<;>omega
theorem VI {kvs:List (P2×E4)} {seen:List Nat} (h1:seen.Nodup) (h2:∀x∈seen,x<kvs.length) (h3:∀q,q<kvs.length->q∈seen):(seen.map (VU kvs)).Perm (kvs.map (·.2)):=by
  have hp:seen.Perm (List.range kvs.length):=(List.perm_ext_iff_of_nodup h1 List.nodup_range).2 λq=>⟨λh=>List.mem_range.2 (h2 q h),λh=>h3 q (List.mem_range.1 h)⟩
  refine (hp.map _).trans (List.Perm.of_eq ?_)
  apply List.ext_getElem?
  intro q
  rw [List.getElem?_map,List.getElem?_map]
  rcases Nat.lt_or_ge q kvs.length with h|h
  · rw [List.getElem?_range h,List.getElem?_eq_getElem h]
    simp [VU,List.getD,h]
  · rw [List.getElem?_eq_none (by simpa using h),List.getElem?_eq_none h];rfl
def PL (kvs:List (P2×E4)):Prop:=∀p∈kvs,p.2.a=p.1.1/\p.2.b=p.1.2
theorem Lj (e:E4) (t a b:Nat):(Ep e t a b).a=e.a/\(Ep e t a b).b=e.b:=by
  unfold Ep
  split
  · exact ⟨rfl,rfl⟩
  · split<;>exact ⟨rfl,rfl⟩
theorem Jt {kvs:List (P2×E4)} {x:P2} {v:E4} (h:Ac kvs x=some v):(x,v)∈kvs:=by
  induction kvs with
  | nil=>cases h
  | cons p r ih =>
    obtain ⟨k,u⟩:=p
    unfold Ac at h
    split at h
    · rename_i e
      injection h with h
      rw [e,h];exact List.mem_cons_self
    · exact List.mem_cons_of_mem _ (ih h)
theorem Rq {kvs:List (P2×E4)} (h:PL kvs) (x:P2):((Ac kvs x).getD (IK x)).a=x.1/\((Ac kvs x).getD (IK x)).b=x.2:=by
  cases hg:Ac kvs x with
  | none=>exact ⟨rfl,rfl⟩
  | some v=>exact h _ (Jt hg)
theorem RK {kvs:List (P2×E4)} {x:P2} {y:E4} {p:P2×E4} (h:p∈A9 kvs x y):p=(x,y)\/p∈kvs:=by
  induction kvs with
  | nil=>exact .inl (List.mem_singleton.1 h)
  | cons q r ih =>
    obtain ⟨k,u⟩:=q
    unfold A9 at h
    split at h
    · rename_i e
      rcases List.mem_cons.1 h with h|h
      · exact .inl (by rw [h,e])
      · exact .inr (List.mem_cons_of_mem _ h)
    · rcases List.mem_cons.1 h with h|h
      · exact .inr (by rw [h];exact List.mem_cons_self)
      · exact (ih h).imp_right (List.mem_cons_of_mem _)
theorem KT (ts:List (Tq3)):∀s,PL (CT ts s)
  | 0=>λp h=>by cases h
  | s+1=>λp h=>by
    have h0:=KT ts s
    rcases RK h with rfl|h
    · have h1:=Rq h0 (Cx (Bl (ts.getD (s/3) (0,0,0)) (s%3)) (Bl (ts.getD (s/3) (0,0,0)) ((s%3+1)%3)))
      have h2:=Lj ((Ac (CT ts s) (Cx (Bl (ts.getD (s/3) (0,0,0)) (s%3)) (Bl (ts.getD (s/3) (0,0,0)) ((s%3+1)%3)))).getD (IK (Cx (Bl (ts.getD (s/3) (0,0,0)) (s%3)) (Bl (ts.getD (s/3) (0,0,0)) ((s%3+1)%3))))) (s/3) (Bl (ts.getD (s/3) (0,0,0)) (s%3)) (Bl (ts.getD (s/3) (0,0,0)) ((s%3+1)%3))
      exact ⟨h2.1.trans h1.1,h2.2.trans h1.2⟩
    · exact h0 p h
theorem K3 {kvs:List (P2×E4)} {ok:P2->Prop} (h:GM ok kvs) (he:PL kvs):LC (kvs.map (·.2)):=by
  unfold LC
  rw [List.pairwise_map]
  refine List.Pairwise.imp_of_mem (λ{p q} hp hq hne=>?_) h.once
  rintro ⟨e1,e2⟩
  have h1:=he p hp
  have h2:=he q hq
  exact hne (Prod.ext (by rw [<-h1.1,<-h2.1,e1]) (by rw [<-h1.2,<-h2.2,e2]))
def Bv (ts:List (Tq3)):List E4:=Rm ((CT ts (3*ts.length)).map (·.2))
theorem Yk {ts:List (Tq3)} {N:Nat} {xs ys:List E4} (hn:A_ N ts=true) (hN:N<=4611686018427387904) (h1:ys.Perm xs) (h2:ys.Pairwise RR) (h3:xs.Perm ((CT ts (3*ts.length)).map (·.2))):ys=Bv ts :=
  RC (h1.trans h3) h2 (K3 (Et hn hN _ (Nat.le_refl _)) (KT ts _))
theorem JF (ts:List (Tq3)):(Bv ts).length=(CT ts (3*ts.length)).length:=by rw [Bv,(DK _).length_eq,List.length_map]
section
variable {P:Program} {ops:Array Oper} {rest:List Oper} {Q:Exit->Act->World->Prop} {n:Nat} {F:List (Nat×Value)} {w0:BE} {L:List As}
theorem AC.callS {o:Oper} {f:FuncId} {args:Array Value} {v:Value} (i:Nat) {q:Option Addr} {T:TypeId} {m c:Nat} {xs ys:List E4} (hw:Wt ops n F o)
    (he:∀a w,Cp n a F->BM w0 w L->(execOp a.eval o).run P w=.ok (.enter f args) w) (hi:L[i]?=some (rowW q T 4 m c (rowsL B1 xs)))
    (hc:∀w,BM w0 w L->Calls P f args w λe w'=>e=.returned v/\K0 w w' (q.map (·.block))/\∃zs:List E4,zs.Perm xs/\zs.Pairwise RR/\∀b,q.map (·.block)=some b->∃o,w'.heap[b]?=some o/\(rowW q T 4 m c (rowsL B1 zs)).P o)
    (hu:∀zs:List E4,zs.Perm xs->zs.Pairwise RR->zs=ys)
    (hd:∀d,o.dst=some d->d<n) (next:AC P ops rest Q n (match o.dst with|some d=>(d,v)::F|none=>F) w0 (L.set i (rowW q T 4 m c (rowsL B1 ys)))):AC P ops (o::rest) Q n F w0 L :=
  AC.callW i hw he hi (λw hW=>(hc w hW).mono λe w' ⟨h1,h2,zs,h3,h4,h5⟩=>⟨h1,h2,by rw [<-hu zs h3 h4];exact h5⟩) hd next
end
theorem Jl {kvs:List (P2×E4)} {k:P2} (h:(Ac kvs k).isSome=false):IK k=(Ac kvs k).getD (IK k):=by
  cases hg:Ac kvs k with
  | none=>rfl
  | some v=>rw [hg] at h;cases h
theorem Jq {kvs:List (P2×E4)} {k:P2} {z:E4} (h:(Ac kvs k).isSome=true):(Ac kvs k).getD z=(Ac kvs k).getD (IK k):=by
  cases hg:Ac kvs k with
  | none=>rw [hg] at h;cases h
  | some v=>rfl
end
structure CX (cs:List Value) (n:Nat) where
  p:Option Addr
  ok:Ar p n n
instance {cs:List Value} {n:Nat}:CO (CX cs n):=⟨λa=>.slice a.p n n,λa=>[AJ a.p cs],λa y hy=>by rcases List.mem_singleton.1 hy with rfl;rfl⟩
theorem UQ {S:Nat->Prop} {W w:World} {L:List As} (hw:BM ⟨W,none⟩ w L) (i:Nat) {p:Option Addr} {T:TypeId} {z n c:Nat} {cs:List Value} (hi:L[i]?=some (rowW p T z n c cs)) (ho:OwnOk p n c) (hl:cs.length=n*z) {v:Value} (hv:v=.slice p n n):Al (CX cs n) S W (.returned v) w :=
  ⟨⟨p,⟨λe=>⟨(ho.nil e).1,(ho.nil e).1⟩,λa e=>by rw [ho.at0 a e],Nat.le_refl _⟩⟩,by rw [hv];rfl,hw.out,λy hy=>by rcases List.mem_singleton.1 hy with rfl;exact DS hw i hi ho hl⟩
theorem Al.ofCX {S:Nat->Prop} {W w:World} {e:Ending} {cs:List Value} {n:Nat} (h:Al (CX cs n) S W e w):Al (RX cs n) S W e w:=by
  obtain ⟨a,h1,h2,h3⟩:=h
  exact ⟨⟨a.p,n,a.ok⟩,h1,h2,λy hy=>by rcases List.mem_singleton.1 hy with rfl;exact h3 _ List.mem_cons_self⟩
end Go.Proofs.YtpgncndhhhllfaaGreat
