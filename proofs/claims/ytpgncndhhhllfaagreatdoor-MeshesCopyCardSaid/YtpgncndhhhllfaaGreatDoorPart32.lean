import Derived.Shelf.SlSortCmp.WholeK
import Derived.Test.YtpgncndhhhllfaaGreatDoorPart00
import Derived.Test.YtpgncndhhhllfaaGreatDoorPart27
import Derived.Test.YtpgncndhhhllfaaGreatDoorPart30
import Derived.Test.YtpgncndhhhllfaaGreatDoorPart31
namespace Go.Proofs.YtpgncndhhhllfaaGreatDoor
open Go Go.RowKit Go.Proofs.Tryz
set_option linter.unusedVariables false
set_option linter.unusedSimpArgs false
theorem OH {w w':World} (h:Dz w.heap.size w w'):∃(q:Nat) (os:Array Obj),w'=Go.Sort.grow (w.drewN q) os:=by
  refine ⟨w'.drawn-w.drawn,w'.heap.extract w.heap.size w'.heap.size,?_⟩
  have h1:=h.os;have h2:=h.tape;have h3:=h.output;have h4:=h.size;have h5:=h.block;have h6:=h.drawn
  have hh:w'.heap=w.heap++w'.heap.extract w.heap.size w'.heap.size:=by
    apply Array.ext_getElem?
    intro i
    rw [Array.getElem?_append]
    split
    · rename_i hi;exact h5 i hi
    · rename_i hi
      rw [Array.getElem?_extract]
      split
      · congr 1;omega
      · rename_i hj;rw [Array.getElem?_eq_none (by omega)]
  obtain ⟨hp,tp,dr,os,out⟩:=w'
  obtain ⟨hp0,tp0,dr0,os0,out0⟩:=w
  simp only at h1 h2 h3 h4 h6 hh
  subst h1;subst h2;subst h3
  show World.mk hp tp dr os out=World.mk (hp0++hp.extract hp0.size hp.size) tp (dr0+(dr-dr0)) os out
  rw [<-hh,show dr0+(dr-dr0)=dr by omega]
theorem Xi {S:Nat->Prop} {W w:World} {L:List As} (hw:BE ⟨W,none⟩ w L) (i:Nat) {p:Option Addr} {T:TypeId} {z n c:Nat} {cs:List Value} (hi:L[i]?=some (rowW p T z n c cs)) (ho:OwnOk p n c) (hl:cs.length=n*z) {v:Value} (hv:v=.slice p n n):BH (RX cs n) S W (.returned v) w:=by
  have hb:=hw.newRow hi
  refine ⟨⟨p,n,⟨λe=>⟨(ho.nil e).1,(ho.nil e).1⟩,λa e=>by rw [ho.at0 a e],Nat.le_refl _⟩⟩,by rw [hv];rfl,hw.out,λy hy=>?_⟩
  rcases List.mem_singleton.1 hy with rfl
  refine ⟨λd e=>?_,λd e=>.inl (hb d e)⟩
  obtain ⟨_,o,ho2,hp⟩:=hw.2.1 _ (List.mem_of_getElem? hi) d e
  exact ⟨o,ho2,Bu ho hl hp⟩
section
instance:Inhabited E4:=⟨⟨0,0,0,0⟩⟩
theorem I6 (a b:Nat):(a<b/\Dl a b = -1)\/(b<a/\Dl a b=1)\/(a=b/\Dl a b=0):=by
  rcases Nat.lt_trichotomy a b with h|h|h
  · exact .inl ⟨h,OL h⟩
  · exact .inr (.inr ⟨h,OG (by omega) (by omega)⟩)
  · exact .inr (.inl ⟨h,Oo (by omega) h⟩)
theorem Ud {p q:Int}:S6 p q<0↔p<0\/(p=0/\q<0):=by
  unfold S6
  split
  · omega
  · split<;>omega
theorem Dy {x y:E4}:Lb x y<0↔x.a<y.a\/(x.a=y.a/\x.b<y.b):=by
  unfold Lb
  rw [Ud]
  rcases I6 x.a y.a with ⟨h1,e1⟩|⟨h1,e1⟩|⟨h1,e1⟩<;>rcases I6 x.b y.b with ⟨h2,e2⟩|⟨h2,e2⟩|⟨h2,e2⟩<;>rw [e1,e2]<;>omega
def PL (x y:E4):Prop:=¬Lb y x<0
theorem Ki {x y:E4}:PL x y↔x.a<y.a\/(x.a=y.a/\x.b<=y.b):=by unfold PL;rw [Dy];omega
theorem Xa:Go.Sort.SWO (ltOf Lb) where
  irrefl x:=decide_eq_false (by rw [Dy];omega)
  trans x y z h1 h2:=by
    have h1:=Dy.1 (of_decide_eq_true h1)
    have h2:=Dy.1 (of_decide_eq_true h2)
    exact decide_eq_true (Dy.2 (by omega))
  ntrans x y z h1 h2:=by
    have h1:=of_decide_eq_false h1
    have h2:=of_decide_eq_false h2
    rw [Dy] at h1 h2
    exact decide_eq_false (by rw [Dy];omega)
theorem Ww (Ad off size:Nat) (w:World):CmpLays Tryz.prog 155 #[] B6 4 Lb Ad off size w:=λm os dk _ x y=>by
  rw [Array.append_empty]
  exact (Tx x y _).mono λe w' h=>⟨h.1,OH h.2⟩
theorem J3 {d:Array E4} {t:Nat} (h:t<d.size*4):(rowsL B6 d.toList)[t]?=some (Go.Sort.flatK B6 4 d)[t]!:=by
  rw [Go.Sort.get_flatK _ _ _ _ h]
  have h1:t/4<d.size:=by omega
  have h2:=Bn Cl (⟨0,0,0,0⟩:E4) d.toList (t/4) (t%4) (by simpa using h1) (Nat.mod_lt _ (by decide)) (v:=(B6 d[t/4]!)[t%4]!) (by
    rw [List.getD,show d.toList[t/4]?=some d[t/4] from by simp [h1],getElem!_pos d (t/4) h1]
    have hl:t%4<(B6 d[t/4]).length:=by rw [Cl];exact Nat.mod_lt _ (by decide)
    show (B6 d[t/4])[t%4]?=some (B6 d[t/4])[t%4]!
    rw [List.getElem?_eq_getElem hl,getElem!_pos (B6 d[t/4]) (t%4) hl])
  rw [show t/4*4+t%4=t by omega] at h2
  exact h2
def QQ (x:E4):List E4->List E4
  | []=>[x]
  | y::r=>if Lb x y<0 then x::y::r else y::QQ x r
def Px:List E4->List E4
  | []=>[]
  | x::r=>QQ x (Px r)
theorem Hk (x:E4):∀l,(QQ x l).Perm (x::l)
  | []=>List.Perm.refl _
  | y::r=>by
    unfold QQ
    split
    · exact List.Perm.refl _
    · exact (List.Perm.cons y (Hk x r)).trans (List.Perm.swap x y r)
theorem EC:∀l,(Px l).Perm l
  | []=>List.Perm.refl _
  | x::r=>(Hk x (Px r)).trans (List.Perm.cons x (EC r))
theorem H9 (x:E4):∀l,l.Pairwise PL->(QQ x l).Pairwise PL
  | [],_=>List.pairwise_singleton _ _
  | y::r,h=>by
    obtain ⟨h1,h2⟩:=List.pairwise_cons.1 h
    unfold QQ
    split
    · rename_i k
      have hxy:PL x y:=by rw [Ki];have:=Dy.1 k;omega
      refine List.pairwise_cons.2 ⟨λz hz=>?_,h⟩
      rcases List.mem_cons.1 hz with rfl|hz
      · exact hxy
      · have h3:=h1 z hz;rw [Ki] at *;omega
    · rename_i k
      refine List.pairwise_cons.2 ⟨λz hz=>?_,H9 x r h2⟩
      rcases List.mem_cons.1 ((Hk x r).mem_iff.1 hz) with rfl|hz
      · exact k
      · exact h1 z hz
theorem Hy:∀l,(Px l).Pairwise PL
  | []=>List.Pairwise.nil
  | x::r=>H9 x _ (Hy r)
def Ov (l:List E4):Prop:=l.Pairwise (λx y=>¬(x.a=y.a/\x.b=y.b))
theorem OK:∀{l:List E4},Ov l->∀x∈l,∀y∈l,x.a=y.a->x.b=y.b->x=y
  | z::r,h,x,hx,y,hy,e,e'=>by
    obtain ⟨h1,h2⟩:=List.pairwise_cons.1 h
    rcases List.mem_cons.1 hx with ex|hx'<;>rcases List.mem_cons.1 hy with ey|hy'
    · rw [ex,ey]
    · rw [ex] at e e';exact absurd ⟨e,e'⟩ (h1 y hy')
    · rw [ey] at e e';exact absurd ⟨e.symm,e'.symm⟩ (h1 x hx')
    · exact OK h2 x hx' y hy' e e'
theorem PZ {l l':List E4} (hp:l'.Perm l) (hs:l'.Pairwise PL) (hn:Ov l):l'=Px l:=by
  refine List.Perm.eq_of_pairwise (le:=PL) (λx y hx hy h1 h2=>?_) hs (Hy l) (hp.trans (EC l).symm)
  rw [Ki] at h1 h2
  exact OK hn x (hp.mem_iff.1 hx) y ((EC l).mem_iff.1 hy) (by omega) (by omega)
theorem SE (xs:List E4) (p:Option Addr) (n c:Nat) (T:TypeId) (ho:OwnOk p n c) (hp0:p≠none) (hn:n=xs.length) (hN:n<4611686018427387904) (w:World) (hrow:∀b,p.map (·.block)=some b->∃o,w.heap[b]?=some o/\(rowW p T 4 n c (rowsL B6 xs)).P o) :
    Calls Tryz.prog 154 #[.slice p n c,.func (.func 155) #[] #[]] w λe w'=>e=.returned (.tuple #[])/\JF w w' (p.map (·.block))/\∃ys:List E4,ys.Perm xs/\ys.Pairwise PL/\∀b,p.map (·.block)=some b->∃o,w'.heap[b]?=some o/\(rowW p T 4 n c (rowsL B6 ys)).P o:=by
  cases hp:p with
  | none=>exact absurd hp hp0
  | some a =>
    subst hp
    obtain ⟨o,hob,cur,rfl,hsz,hcur⟩:=hrow a.block rfl
    have hat:=ho.at0 a rfl
    have hle:=ho.le
    obtain ⟨d,hd⟩:∃d,d=xs.toArray:=⟨_,rfl⟩
    have hdz:d.size=n:=by rw [hd,hn];simp
    have hdx:d.toList=xs:=by rw [hd]
    have hH:Go.Sort.HoldsK B6 4 w a.block 0 d:=λj hj=>by
      have hj':j<d.size*4:=by simpa using hj
      refine ⟨?_,by simp [World.frozen?,hob]⟩
      have h1:(cur.toList.take (n*4))[j]?=(rowsL B6 xs)[j]?:=by rw [hcur]
      rw [List.getElem?_take_of_lt (by omega),Array.getElem?_toList,<-hdx,J3 hj'] at h1
      show w.cell? ⟨a.block,0+j,none⟩=some (id (Go.Sort.flatK B6 4 d)[j]!)
      unfold World.cell?
      simp only [hob,Nat.zero_add]
      exact h1
    have hlt:a.block<w.heap.size:=by
      rcases Nat.lt_or_ge a.block w.heap.size with h|h
      · exact h
      · rw [Array.getElem?_eq_none h] at hob;cases hob
    have h:=Tryz.slices_SortFunc_Edge 4 Tryz.isAgg91 Tryz.sizeOf91 B6 Cl (λx v hv=>by
      unfold B6 at hv
      simp only [List.mem_cons,List.not_mem_nil,or_false] at hv
      rcases hv with rfl|rfl|rfl|rfl<;>rfl) Lb Xa 155 #[] a.block 0 c d w Tryz.call155 (Ww a.block 0 d.size w) hH hlt (by omega)
    rw [hdz] at h
    rw [hat]
    refine h.mono ?_
    rintro e w' ⟨rfl,d',m,os,⟨hz',_,hperm⟩,hsort,rfl⟩
    have hz2:d'.size=n:=by rw [hz',hdz]
    have hperm':d'.toList.Perm d.toList:=by
      have e1:d'.extract 0 n=d':=by rw [<-hz2];exact Array.extract_size
      have e2:d.extract 0 n=d:=by rw [<-hdz];exact Array.extract_size
      rw [e1,e2] at hperm
      exact hperm
    have hF:(Go.Sort.flatK B6 4 d').size=n*4:=by rw [Go.Sort.size_flatK,hz2]
    refine ⟨rfl,⟨⟨rfl,rfl,rfl,by simp [sortWorldK,Go.Sort.grow,Go.Sort.putRowK,Go.Sort.putRow,Go.Sort.mapBlock,Go.Sort.ahead],λj hj hne=>?_⟩,by show w.drawn<=w.drawn+m;omega⟩,d'.toList,by rw [<-hdx];exact hperm',List.pairwise_iff_getElem.2 λi j hi hj hij=>?_,λb e=>?_⟩
    · have hne':a.block≠j:=λe=>hne (by rw [e];rfl)
      unfold sortWorldK
      rw [Go.Sort.heap_grow_old _ _ (by simpa [Go.Sort.putRowK,Go.Sort.putRow,Go.Sort.mapBlock,Go.Sort.ahead] using hj)]
      simp [Go.Sort.putRowK,Go.Sort.putRow,Go.Sort.mapBlock,Go.Sort.ahead,Array.getElem?_modify,hne']
    · have hi':i<d'.size:=by simpa using hi
      have hj':j<d'.size:=by simpa using hj
      have h9:=of_decide_eq_false (hsort i j (Nat.zero_le _) hij (by omega))
      rw [getElem!_pos d' j hj',getElem!_pos d' i hi'] at h9
      simpa [PL] using h9
    · injection e with e
      subst e
      refine ⟨.cells (Go.Sort.putCells id 0 (Go.Sort.flatK B6 4 d') cur) T (0,0),?_,_,rfl,by simp [Go.Sort.putCells,hsz],?_⟩
      · unfold sortWorldK
        rw [Go.Sort.heap_grow_old _ _ (by simpa [Go.Sort.putRowK,Go.Sort.putRow,Go.Sort.mapBlock,Go.Sort.ahead] using hlt)]
        simp [Go.Sort.putRowK,Go.Sort.putRow,Go.Sort.mapBlock,Go.Sort.ahead,Array.getElem?_modify,hob,Go.Sort.onCells]
      · apply List.ext_getElem?
        intro j
        have hlen:(rowsL B6 d'.toList).length=n*4:=by rw [Ab Cl,Array.length_toList,hz2]
        by_cases hj:j<n*4
        · have hcs:n*4<=c*4:=Nat.mul_le_mul_right _ hle
          rw [List.getElem?_take_of_lt hj,Array.getElem?_toList,J3 (by rw [hz2];exact hj)]
          unfold Go.Sort.putCells
          rw [Array.getElem?_mapIdx,Array.getElem?_eq_getElem (by omega),Option.map_some,if_pos ⟨Nat.zero_le _,by omega⟩]
          rfl
        · rw [List.getElem?_take_eq_none (by omega),List.getElem?_eq_none (by omega)]
def RK (kvs:List (P2×E4)) (q:Nat):E4:=(kvs.getD q ((0,0),⟨0,0,0,0⟩)).2
theorem UR {kvs:List (P2×E4)} {q:Nat} {k:P2} {v:E4} (h:kvs[q]?=some (k,v)):RK kvs q=v:=by rw [RK,List.getD,h];rfl
theorem I9:∀{n:Nat} {l:List Nat},l.Nodup->(∀x∈l,x<n)->l.length<=n
  | 0,[],_,_=>Nat.le_refl _
  | 0,x::r,_,h=>absurd (h x List.mem_cons_self) (Nat.not_lt_zero _)
  | n+1,l,h1,h2=>by
    have h3:(l.erase n).length<=n:=I9 (h1.erase n) λx hx=>by
      have h4:=h2 x (List.mem_of_mem_erase hx)
      have h5:x≠n:=λe=>by
        rw [e] at hx
        exact h1.not_mem_erase hx
      omega
    rw [List.length_erase] at h3
    split at h3<;>omega
theorem SA {kvs:List (P2×E4)} {seen:List Nat} (h1:seen.Nodup) (h2:∀x∈seen,x<kvs.length) (h3:∀q,q<kvs.length->q∈seen):(seen.map (RK kvs)).Perm (kvs.map (·.2)):=by
  have hp:seen.Perm (List.range kvs.length):=(List.perm_ext_iff_of_nodup h1 List.nodup_range).2 λq=>⟨λh=>List.mem_range.2 (h2 q h),λh=>h3 q (List.mem_range.1 h)⟩
  refine (hp.map _).trans (List.Perm.of_eq ?_)
  apply List.ext_getElem?
  intro q
  rw [List.getElem?_map,List.getElem?_map]
  rcases Nat.lt_or_ge q kvs.length with h|h
  · rw [List.getElem?_range h,List.getElem?_eq_getElem h]
    simp [RK,List.getD,h]
  · rw [List.getElem?_eq_none (by simpa using h),List.getElem?_eq_none h];rfl
def Nt (kvs:List (P2×E4)):Prop:=∀p∈kvs,p.2.a=p.1.1/\p.2.b=p.1.2
theorem KQ (e:E4) (t a b:Nat):(En e t a b).a=e.a/\(En e t a b).b=e.b:=by
  unfold En
  split
  · exact ⟨rfl,rfl⟩
  · split<;>exact ⟨rfl,rfl⟩
theorem MH {kvs:List (P2×E4)} {x:P2} {v:E4} (h:BB kvs x=some v):(x,v)∈kvs:=by
  induction kvs with
  | nil=>cases h
  | cons p r ih =>
    obtain ⟨k,u⟩:=p
    unfold BB at h
    split at h
    · rename_i e
      injection h with h
      rw [e,h];exact List.mem_cons_self
    · exact List.mem_cons_of_mem _ (ih h)
theorem QU {kvs:List (P2×E4)} (h:Nt kvs) (x:P2):((BB kvs x).getD (Hd x)).a=x.1/\((BB kvs x).getD (Hd x)).b=x.2:=by
  cases hg:BB kvs x with
  | none=>exact ⟨rfl,rfl⟩
  | some v=>exact h _ (MH hg)
theorem P8 {kvs:List (P2×E4)} {x:P2} {y:E4} {p:P2×E4} (h:p∈BW kvs x y):p=(x,y)\/p∈kvs:=by
  induction kvs with
  | nil=>exact .inl (List.mem_singleton.1 h)
  | cons q r ih =>
    obtain ⟨k,u⟩:=q
    unfold BW at h
    split at h
    · rename_i e
      rcases List.mem_cons.1 h with h|h
      · exact .inl (by rw [h,e])
      · exact .inr (List.mem_cons_of_mem _ h)
    · rcases List.mem_cons.1 h with h|h
      · exact .inr (by rw [h];exact List.mem_cons_self)
      · exact (ih h).imp_right (List.mem_cons_of_mem _)
theorem Lj (ts:List (Nat×Nat×Nat)):∀s,Nt (CM ts s)
  | 0=>λp h=>by cases h
  | s+1=>λp h=>by
    have h0:=Lj ts s
    rcases P8 h with rfl|h
    · have h1:=QU h0 (Dc (GM (ts.getD (s/3) (0,0,0)) (s%3)) (GM (ts.getD (s/3) (0,0,0)) ((s%3+1)%3)))
      have h2:=KQ ((BB (CM ts s) (Dc (GM (ts.getD (s/3) (0,0,0)) (s%3)) (GM (ts.getD (s/3) (0,0,0)) ((s%3+1)%3)))).getD (Hd (Dc (GM (ts.getD (s/3) (0,0,0)) (s%3)) (GM (ts.getD (s/3) (0,0,0)) ((s%3+1)%3))))) (s/3) (GM (ts.getD (s/3) (0,0,0)) (s%3)) (GM (ts.getD (s/3) (0,0,0)) ((s%3+1)%3))
      exact ⟨h2.1.trans h1.1,h2.2.trans h1.2⟩
    · exact h0 p h
theorem QT {kvs:List (P2×E4)} {ok:P2->Prop} (h:Ja ok kvs) (he:Nt kvs):Ov (kvs.map (·.2)):=by
  unfold Ov
  rw [List.pairwise_map]
  refine List.Pairwise.imp_of_mem (λ{p q} hp hq hne=>?_) h.once
  rintro ⟨e1,e2⟩
  have h1:=he p hp
  have h2:=he q hq
  exact hne (Prod.ext (by rw [<-h1.1,<-h2.1,e1]) (by rw [<-h1.2,<-h2.2,e2]))
def B0 (ts:List (Nat×Nat×Nat)):List E4:=Px ((CM ts (3*ts.length)).map (·.2))
theorem VX {ts:List (Nat×Nat×Nat)} {N:Nat} {xs ys:List E4} (hn:DK N ts=true) (hN:N<=4611686018427387904) (h1:ys.Perm xs) (h2:ys.Pairwise PL) (h3:xs.Perm ((CM ts (3*ts.length)).map (·.2))):ys=B0 ts :=
  PZ (h1.trans h3) h2 (QT (FO hn hN _ (Nat.le_refl _)) (Lj ts _))
theorem K4 (ts:List (Nat×Nat×Nat)):(B0 ts).length=(CM ts (3*ts.length)).length:=by rw [B0,(EC _).length_eq,List.length_map]
section
variable {P:Program} {ops:Array Oper} {rest:List Oper} {Q:Exit->Act->World->Prop} {n:Nat} {F:List (Nat×Value)} {w0:A_} {L:List As}
theorem AD.callS {o:Oper} {f:FuncId} {args:Array Value} {v:Value} (i:Nat) {q:Option Addr} {T:TypeId} {m c:Nat} {xs ys:List E4} (hw:Wt ops n F o)
    (he:∀a w,CG n a F->BE w0 w L->(execOp a.eval o).run P w=.ok (.enter f args) w) (hi:L[i]?=some (rowW q T 4 m c (rowsL B6 xs)))
    (hc:∀w,BE w0 w L->Calls P f args w λe w'=>e=.returned v/\JF w w' (q.map (·.block))/\∃zs:List E4,zs.Perm xs/\zs.Pairwise PL/\∀b,q.map (·.block)=some b->∃o,w'.heap[b]?=some o/\(rowW q T 4 m c (rowsL B6 zs)).P o)
    (hu:∀zs:List E4,zs.Perm xs->zs.Pairwise PL->zs=ys)
    (hd:∀d,o.dst=some d->d<n) (next:AD P ops rest Q n (match o.dst with|some d=>(d,v)::F|none=>F) w0 (L.set i (rowW q T 4 m c (rowsL B6 ys)))):AD P ops (o::rest) Q n F w0 L :=
  AD.callW i hw he hi (λw hW=>(hc w hW).mono λe w' ⟨h1,h2,zs,h3,h4,h5⟩=>⟨h1,h2,by rw [<-hu zs h3 h4];exact h5⟩) hd next
end
theorem I4 {kvs:List (P2×E4)} {k:P2} (h:(BB kvs k).isSome=false):Hd k=(BB kvs k).getD (Hd k):=by
  cases hg:BB kvs k with
  | none=>rfl
  | some v=>rw [hg] at h;cases h
theorem JI {kvs:List (P2×E4)} {k:P2} {z:E4} (h:(BB kvs k).isSome=true):(BB kvs k).getD z=(BB kvs k).getD (Hd k):=by
  cases hg:BB kvs k with
  | none=>rw [hg] at h;cases h
  | some v=>rfl
end
end Go.Proofs.YtpgncndhhhllfaaGreatDoor
