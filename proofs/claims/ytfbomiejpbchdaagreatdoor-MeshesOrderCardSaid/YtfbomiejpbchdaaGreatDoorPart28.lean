import Derived.Test.YtfbomiejpbchdaaGreatDoorPart00
import Derived.Test.YtfbomiejpbchdaaGreatDoorPart21
import Derived.Test.YtfbomiejpbchdaaGreatDoorPart22
import Derived.Test.YtfbomiejpbchdaaGreatDoorPart23
import Derived.Test.YtfbomiejpbchdaaGreatDoorPart27
namespace Go.Proofs.YtfbomiejpbchdaaGreatDoor
open Go Go.RowKit Go.Proofs.Tryz
set_option linter.unusedVariables false
set_option linter.unusedSimpArgs false
section
instance:Inhabited E4:=⟨⟨0,0,0,0⟩⟩
theorem J6 (a b:Nat):(a<b/\Dm a b = -1)\/(b<a/\Dm a b=1)\/(a=b/\Dm a b=0):=by
  rcases Nat.lt_trichotomy a b with h|h|h
  · exact .inl ⟨h,PR h⟩
  · exact .inr (.inr ⟨h,PL Z Z⟩)
  · exact .inr (.inl ⟨h,O7 Z h⟩)
theorem Uo {p q:Int}:RA p q<0↔p<0\/(p=0/\q<0):=by
  unfold RA
  split
  · omega
  · split<;>omega
theorem Dy {x y:E4}:Mu x y<0↔x.a<y.a\/(x.a=y.a/\x.b<y.b):=by
  unfold Mu
  rw [Uo]
  rcases J6 x.a y.a with ⟨h1,e1⟩|⟨h1,e1⟩|⟨h1,e1⟩<;>rcases J6 x.b y.b with ⟨h2,e2⟩|⟨h2,e2⟩|⟨h2,e2⟩<;>rw [e1,e2]<;>omega
def QG (x y:E4):Prop:=¬Mu y x<0
theorem JC {x y:E4}:QG x y↔x.a<y.a\/(x.a=y.a/\x.b<=y.b):=by unfold QG;rw [Dy];omega
theorem X1:Go.Sort.SWO (ltOf Mu) where
  irrefl x:=decide_eq_false (by rw [Dy];omega)
  trans x y z h1 h2:=by
    have h1:=Dy.1 (of_decide_eq_true h1)
    have h2:=Dy.1 (of_decide_eq_true h2)
    exact decide_eq_true (Dy.2 Z)
  ntrans x y z h1 h2:=by
    have h1:=of_decide_eq_false h1
    have h2:=of_decide_eq_false h2
    rw [Dy] at h1 h2
    exact decide_eq_false (by rw [Dy];omega)
theorem XI (Ae off size:Nat) (w:World):CmpLays prog 92 #[] B8 4 Mu Ae off size w:=λm os dk _ x y=>by
  rw [Array.append_empty]
  exact (Ug x y _).mono λe w' h=>⟨h.1,Ou h.2⟩
theorem Ku {d:Array E4} {t:Nat} (h:t<d.size*4):(rowsL B8 d.toList)[t]?=some (Go.Sort.flatK B8 4 d)[t]!:=by
  rw [Go.Sort.get_flatK _ _ _ _ h]
  have h1:t/4<d.size:=by omega
  have h2:=CJ Bu (⟨0,0,0,0⟩:E4) d.toList (t/4) (t%4) (by simpa using h1) (Nat.mod_lt _ (by decide)) (v:=(B8 d[t/4]!)[t%4]!) (by
    rw [List.getD,show d.toList[t/4]?=some d[t/4] from by simp [h1],getElem!_pos d (t/4) h1]
    have hl:t%4<(B8 d[t/4]).length:=by rw [Bu];exact Nat.mod_lt _ (by decide)
    show (B8 d[t/4])[t%4]?=some (B8 d[t/4])[t%4]!
    rw [List.getElem?_eq_getElem hl,getElem!_pos (B8 d[t/4]) (t%4) hl])
  rw [show t/4*4+t%4=t by omega] at h2
  exact h2
def Py (x:E4):List E4->List E4
  | []=>[x]
  | y::r=>if Mu x y<0 then x::y::r else y::Py x r
def QY:List E4->List E4
  | []=>[]
  | x::r=>Py x (QY r)
theorem IF (x:E4):∀l,(Py x l).Perm (x::l)
  | []=>List.Perm.refl _
  | y::r=>by
    unfold Py
    split
    · exact List.Perm.refl _
    · exact (List.Perm.cons y (IF x r)).trans (List.Perm.swap x y r)
theorem DQ:∀l,(QY l).Perm l
  | []=>List.Perm.refl _
  | x::r=>(IF x (QY r)).trans (List.Perm.cons x (DQ r))
theorem IP (x:E4):∀l,l.Pairwise QG->(Py x l).Pairwise QG
  | [],_=>List.pairwise_singleton _ _
  | y::r,h=>by
    obtain ⟨h1,h2⟩:=List.pairwise_cons.1 h
    unfold Py
    split
    · rename_i k
      have hxy:QG x y:=by rw [JC];have:=Dy.1 k;omega
      refine List.pairwise_cons.2 ⟨λz hz=>?_,h⟩
      rcases List.mem_cons.1 hz with rfl|hz
      · exact hxy
      · have h3:=h1 z hz;rw [JC] at *;omega
    · rename_i k
      refine List.pairwise_cons.2 ⟨λz hz=>?_,IP x r h2⟩
      rcases List.mem_cons.1 ((IF x r).mem_iff.1 hz) with rfl|hz
      · exact k
      · exact h1 z hz
theorem Fx:∀l,(QY l).Pairwise QG
  | []=>List.Pairwise.nil
  | x::r=>IP x _ (Fx r)
def LH (l:List E4):Prop:=l.Pairwise (λx y=>¬(x.a=y.a/\x.b=y.b))
theorem PF:∀{l:List E4},LH l->∀x∈l,∀y∈l,x.a=y.a->x.b=y.b->x=y
  | z::r,h,x,hx,y,hy,e,e'=>by
    obtain ⟨h1,h2⟩:=List.pairwise_cons.1 h
    rcases List.mem_cons.1 hx with ex|hx'<;>rcases List.mem_cons.1 hy with ey|hy'
    · rw [ex,ey]
    · rw [ex] at e e';exact absurd ⟨e,e'⟩ (h1 y hy')
    · rw [ey] at e e';exact absurd ⟨e.symm,e'.symm⟩ (h1 x hx')
    · exact PF h2 x hx' y hy' e e'
theorem QZ {l l':List E4} (hp:l'.Perm l) (hs:l'.Pairwise QG) (hn:LH l):l'=QY l:=by
  refine List.Perm.eq_of_pairwise (le:=QG) (λx y hx hy h1 h2=>?_) hs (Fx l) (hp.trans (DQ l).symm)
  rw [JC] at h1 h2
  exact PF hn x (hp.mem_iff.1 hx) y ((DQ l).mem_iff.1 hy) Z Z
theorem RY (xs:List E4) (p:Option Addr) (n c:Nat) (T:TypeId) (ho:OwnOk p n c) (hp0:p≠none) (hn:n=xs.length) (hN:n<4611686018427387904) (w:World) (hrow:∀b,p.map (·.block)=some b->∃o,w.heap[b]?=some o/\(rowW p T 4 n c (rowsL B8 xs)).P o) :
    Calls prog 91 #[.slice p n c,.func (.func 92) #[] #[]] w λe w'=>e=.returned (.tuple #[])/\Ks w w' (p.map (·.block))/\∃ys:List E4,ys.Perm xs/\ys.Pairwise QG/\∀b,p.map (·.block)=some b->∃o,w'.heap[b]?=some o/\(rowW p T 4 n c (rowsL B8 ys)).P o:=by
  cases hp:p with
  | none=>exact absurd hp hp0
  | some a =>
    subst hp
    obtain ⟨o,hob,cur,rfl,hsz,hcur⟩:=hrow a.block rfl
    have hat:=ho.at0 a rfl
    have hle:=ho.le
    obtain ⟨d,hd⟩:∃d,d=xs.toArray:=⟨_,rfl⟩
    have hdz:d.size=n:=by rw [hd,hn];simp
    have hdx:d.toList=xs:=by rw [hd]
    have hH:Go.Sort.HoldsK B8 4 w a.block 0 d:=λj hj=>by
      have hj':j<d.size*4:=by simpa using hj
      refine ⟨?_,by simp [World.frozen?,hob]⟩
      have h1:(cur.toList.take (n*4))[j]?=(rowsL B8 xs)[j]?:=by rw [hcur]
      rw [List.getElem?_take_of_lt Z,Array.getElem?_toList,<-hdx,Ku hj'] at h1
      show w.cell? ⟨a.block,0+j,none⟩=some (id (Go.Sort.flatK B8 4 d)[j]!)
      unfold World.cell?
      simp only [hob,Nat.zero_add]
      exact h1
    have hlt:a.block<w.heap.size:=by
      rcases Nat.lt_or_ge a.block w.heap.size with h|h
      · exact h
      · rw [Array.getElem?_eq_none h] at hob;cases hob
    have h:=Tryz.slices_SortFunc_Edge 4 isAgg65 sizeOf65 B8 Bu (λx v hv=>by
      unfold B8 at hv
      simp only [List.mem_cons,List.not_mem_nil,or_false] at hv
      rcases hv with rfl|rfl|rfl|rfl<;>rfl) Mu X1 92 #[] a.block 0 c d w call92 (XI a.block 0 d.size w) hH hlt Z
    rw [hdz] at h
    rw [hat]
    refine h.mono ?_
    rintro e w' ⟨rfl,d',m,os,⟨hz',_,hperm⟩,hsort,rfl⟩
    have hz2:d'.size=n:=by rw [hz',hdz]
    have hperm':d'.toList.Perm d.toList:=by
      have e1:d'.extract 0 n=d':=by rw [<-hz2];exact Array.extract_size
      have e2:d.extract 0 n=d:=by rw [<-hdz];exact Array.extract_size
      rw [e1,e2] at hperm
      exact hperm
    have hF:(Go.Sort.flatK B8 4 d').size=n*4:=by rw [Go.Sort.size_flatK,hz2]
    refine ⟨rfl,⟨⟨rfl,rfl,rfl,by simp [sortWorldK,Go.Sort.grow,Go.Sort.putRowK,Go.Sort.putRow,Go.Sort.mapBlock,Go.Sort.ahead],λj hj hne=>?_⟩,by show w.drawn<=w.drawn+m;omega⟩,d'.toList,by rw [<-hdx];exact hperm',List.pairwise_iff_getElem.2 λi j hi hj hij=>?_,λb e=>?_⟩
    · have hne':a.block≠j:=λe=>hne (by rw [e];rfl)
      unfold sortWorldK
      rw [Go.Sort.heap_grow_old _ _ (by simpa [Go.Sort.putRowK,Go.Sort.putRow,Go.Sort.mapBlock,Go.Sort.ahead] using hj)]
      simp [Go.Sort.putRowK,Go.Sort.putRow,Go.Sort.mapBlock,Go.Sort.ahead,Array.getElem?_modify,hne']
    · have hi':i<d'.size:=by simpa using hi
      have hj':j<d'.size:=by simpa using hj
      have h9:=of_decide_eq_false (hsort i j (Nat.zero_le _) hij Z)
      rw [getElem!_pos d' j hj',getElem!_pos d' i hi'] at h9
      simpa [QG] using h9
    · injection e with e
      subst e
      refine ⟨.cells (Go.Sort.putCells id 0 (Go.Sort.flatK B8 4 d') cur) T (0,0),?_,_,rfl,by simp [Go.Sort.putCells,hsz],?_⟩
      · unfold sortWorldK
        rw [Go.Sort.heap_grow_old _ _ (by simpa [Go.Sort.putRowK,Go.Sort.putRow,Go.Sort.mapBlock,Go.Sort.ahead] using hlt)]
        simp [Go.Sort.putRowK,Go.Sort.putRow,Go.Sort.mapBlock,Go.Sort.ahead,Array.getElem?_modify,hob,Go.Sort.onCells]
      · apply List.ext_getElem?
        intro j
        have hlen:(rowsL B8 d'.toList).length=n*4:=by rw [Ag Bu,Array.length_toList,hz2]
        by_cases hj:j<n*4
        · have hcs:n*4<=c*4:=Nat.mul_le_mul_right _ hle
          rw [List.getElem?_take_of_lt hj,Array.getElem?_toList,Ku (by rw [hz2];exact hj)]
          unfold Go.Sort.putCells
          rw [Array.getElem?_mapIdx,Array.getElem?_eq_getElem Z,Option.map_some,if_pos ⟨Nat.zero_le _,Z⟩]
          rfl
        · rw [List.getElem?_take_eq_none Z,List.getElem?_eq_none Z]
def RR (kvs:List (P2×E4)) (q:Nat):E4:=(kvs.getD q ((0,0),⟨0,0,0,0⟩)).2
theorem VQ {kvs:List (P2×E4)} {q:Nat} {k:P2} {v:E4} (h:kvs[q]?=some (k,v)):RR kvs q=v:=by rw [RR,List.getD,h];rfl
theorem J9:∀{n:Nat} {l:List Nat},l.Nodup->(∀x∈l,x<n)->l.length<=n
  | 0,[],_,_=>Nat.le_refl _
  | 0,x::r,_,h=>absurd (h x List.mem_cons_self) (Nat.not_lt_zero _)
  | n+1,l,h1,h2=>by
    have h3:(l.erase n).length<=n:=J9 (h1.erase n) λx hx=>by
      have h4:=h2 x (List.mem_of_mem_erase hx)
      have h5:x≠n:=λe=>by
        rw [e] at hx
        exact h1.not_mem_erase hx
      omega
    rw [List.length_erase] at h3
    split at h3<;>omega
theorem RI {kvs:List (P2×E4)} {seen:List Nat} (h1:seen.Nodup) (h2:∀x∈seen,x<kvs.length) (h3:∀q,q<kvs.length->q∈seen):(seen.map (RR kvs)).Perm (kvs.map (·.2)):=by
  have hp:seen.Perm (List.range kvs.length):=(List.perm_ext_iff_of_nodup h1 List.nodup_range).2 λq=>⟨λh=>List.mem_range.2 (h2 q h),λh=>h3 q (List.mem_range.1 h)⟩
  refine (hp.map _).trans (List.Perm.of_eq ?_)
  apply List.ext_getElem?
  intro q
  rw [List.getElem?_map,List.getElem?_map]
  rcases Nat.lt_or_ge q kvs.length with h|h
  · rw [List.getElem?_range h,List.getElem?_eq_getElem h]
    simp [RR,List.getD,h]
  · rw [List.getElem?_eq_none (by simpa using h),List.getElem?_eq_none h];rfl
def Oh (kvs:List (P2×E4)):Prop:=∀p∈kvs,p.2.a=p.1.1/\p.2.b=p.1.2
theorem LQ (e:E4) (t a b:Nat):(Ey e t a b).a=e.a/\(Ey e t a b).b=e.b:=by
  unfold Ey
  split
  · exact ⟨rfl,rfl⟩
  · split<;>exact ⟨rfl,rfl⟩
theorem J0 {kvs:List (P2×E4)} {x:P2} {v:E4} (h:BG kvs x=some v):(x,v)∈kvs:=by
  induction kvs with
  | nil=>cases h
  | cons p r ih =>
    obtain ⟨k,u⟩:=p
    unfold BG at h
    split at h
    · rename_i e
      injection h with h
      rw [e,h];exact List.mem_cons_self
    · exact List.mem_cons_of_mem _ (ih h)
theorem QV {kvs:List (P2×E4)} (h:Oh kvs) (x:P2):((BG kvs x).getD (H6 x)).a=x.1/\((BG kvs x).getD (H6 x)).b=x.2:=by
  cases hg:BG kvs x with
  | none=>exact ⟨rfl,rfl⟩
  | some v=>exact h _ (J0 hg)
theorem Qr {kvs:List (P2×E4)} {x:P2} {y:E4} {p:P2×E4} (h:p∈Bc kvs x y):p=(x,y)\/p∈kvs:=by
  induction kvs with
  | nil=>exact .inl (List.mem_singleton.1 h)
  | cons q r ih =>
    obtain ⟨k,u⟩:=q
    unfold Bc at h
    split at h
    · rename_i e
      rcases List.mem_cons.1 h with h|h
      · exact .inl (by rw [h,e])
      · exact .inr (List.mem_cons_of_mem _ h)
    · rcases List.mem_cons.1 h with h|h
      · exact .inr (by rw [h];exact List.mem_cons_self)
      · exact (ih h).imp_right (List.mem_cons_of_mem _)
theorem Jj (ts:List (Nat×Nat×Nat)):∀s,Oh (CU ts s)
  | 0=>λp h=>by cases h
  | s+1=>λp h=>by
    have h0:=Jj ts s
    rcases Qr h with rfl|h
    · have h1:=QV h0 (B9 (Cd (ts.getD (s/3) (0,0,0)) (s%3)) (Cd (ts.getD (s/3) (0,0,0)) ((s%3+1)%3)))
      have h2:=LQ ((BG (CU ts s) (B9 (Cd (ts.getD (s/3) (0,0,0)) (s%3)) (Cd (ts.getD (s/3) (0,0,0)) ((s%3+1)%3)))).getD (H6 (B9 (Cd (ts.getD (s/3) (0,0,0)) (s%3)) (Cd (ts.getD (s/3) (0,0,0)) ((s%3+1)%3))))) (s/3) (Cd (ts.getD (s/3) (0,0,0)) (s%3)) (Cd (ts.getD (s/3) (0,0,0)) ((s%3+1)%3))
      exact ⟨h2.1.trans h1.1,h2.2.trans h1.2⟩
    · exact h0 p h
theorem LG {kvs:List (P2×E4)} {ok:P2->Prop} (h:Kc ok kvs) (he:Oh kvs):LH (kvs.map (·.2)):=by
  unfold LH
  rw [List.pairwise_map]
  refine List.Pairwise.imp_of_mem (λ{p q} hp hq hne=>?_) h.once
  rintro ⟨e1,e2⟩
  have h1:=he p hp
  have h2:=he q hq
  exact hne (Prod.ext (by rw [<-h1.1,<-h2.1,e1]) (by rw [<-h1.2,<-h2.2,e2]))
def edL (ts:List (Nat×Nat×Nat)):List E4:=QY ((CU ts (3*ts.length)).map (·.2))
theorem WI {ts:List (Nat×Nat×Nat)} {N:Nat} {xs ys:List E4} (hn:Bn N ts=true) (hN:N<=4611686018427387904) (h1:ys.Perm xs) (h2:ys.Pairwise QG) (h3:xs.Perm ((CU ts (3*ts.length)).map (·.2))):ys=edL ts :=
  QZ (h1.trans h3) h2 (LG (E6 hn hN _ (Nat.le_refl _)) (Jj ts _))
theorem I9 (ts:List (Nat×Nat×Nat)):(edL ts).length=(CU ts (3*ts.length)).length:=by rw [edL,(DQ _).length_eq,List.length_map]
section
variable {P:Program} {ops:Array Oper} {rest:List Oper} {Q:Exit->Act->World->Prop} {n:Nat} {F:List (Nat×Value)} {w0:BK} {L:List As}
theorem AE.callS {o:Oper} {f:FuncId} {args:Array Value} {v:Value} (i:Nat) {q:Option Addr} {T:TypeId} {m c:Nat} {xs ys:List E4} (hw:Wt ops n F o)
    (he:∀a w,CS n a F->BO w0 w L->(execOp a.eval o).run P w=.ok (.enter f args) w) (hi:L[i]?=some (rowW q T 4 m c (rowsL B8 xs)))
    (hc:∀w,BO w0 w L->Calls P f args w λe w'=>e=.returned v/\Ks w w' (q.map (·.block))/\∃zs:List E4,zs.Perm xs/\zs.Pairwise QG/\∀b,q.map (·.block)=some b->∃o,w'.heap[b]?=some o/\(rowW q T 4 m c (rowsL B8 zs)).P o)
    (hu:∀zs:List E4,zs.Perm xs->zs.Pairwise QG->zs=ys)
    (hd:∀d,o.dst=some d->d<n) (next:AE P ops rest Q n (match o.dst with|some d=>(d,v)::F|none=>F) w0 (L.set i (rowW q T 4 m c (rowsL B8 ys)))):AE P ops (o::rest) Q n F w0 L :=
  AE.callW i hw he hi (λw hW=>(hc w hW).mono λe w' ⟨h1,h2,zs,h3,h4,h5⟩=>⟨h1,h2,by rw [<-hu zs h3 h4];exact h5⟩) hd next
end
theorem Ju {kvs:List (P2×E4)} {k:P2} (h:(BG kvs k).isSome=false):H6 k=(BG kvs k).getD (H6 k):=by
  cases hg:BG kvs k with
  | none=>rfl
  | some v=>rw [hg] at h;cases h
theorem JW {kvs:List (P2×E4)} {k:P2} {z:E4} (h:(BG kvs k).isSome=true):(BG kvs k).getD z=(BG kvs k).getD (H6 k):=by
  cases hg:BG kvs k with
  | none=>rw [hg] at h;cases h
  | some v=>rfl
end
section
section
variable {α β:Type} [DecidableEq α]
theorem DF {kvs:List (α×β)} {x z:α} {y:β}:BG (Bc kvs x y) z=if z=x then some y else BG kvs z:=by
  induction kvs with
  | nil=>rfl
  | cons p r ih =>
    obtain ⟨k,v⟩:=p
    unfold Bc
    split
    · rename_i e
      subst e
      unfold BG
      split<;>rfl
    · rename_i e
      rw [BG,ih]
      by_cases h:z=k
      · rw [if_pos h,if_neg (λe2=>e (e2.symm.trans h)),BG,if_pos h]
      · rw [if_neg h]
        split
        · rfl
        · rw [BG,if_neg h]
end
section
variable {ts:List (Nat×Nat×Nat)}
def Bg (ts:List (Nat×Nat×Nat)) (u:Nat):P2:=(Cd (ts.getD (u/3) (0,0,0)) (u%3),Cd (ts.getD (u/3) (0,0,0)) ((u%3+1)%3))
def HG (ts:List (Nat×Nat×Nat)) (s a b:Nat) (z:Int):Prop:=(z = -1/\∀u,u<s->Bg ts u≠(a,b))\/∃u,u<s/\z=((u/3:Nat):Int)/\Bg ts u=(a,b)/\∀v,v<u->Bg ts v≠(a,b)
theorem HG.none {s a b:Nat} (h:∀u,u<s->Bg ts u≠(a,b)):HG ts s a b (-1):=.inl ⟨rfl,h⟩
theorem HG.skip {s a b:Nat} {z:Int} (h:HG ts s a b z) (hn:Bg ts s≠(a,b)):HG ts (s+1) a b z:=by
  rcases h with ⟨h1,h2⟩|⟨u,h1,h2,h3,h4⟩
  · refine .inl ⟨h1,λu hu=>?_⟩
    rcases Nat.lt_or_ge u s with h|h
    · exact h2 u h
    · rw [show u=s by omega];exact hn
  · exact .inr ⟨u,Z,h2,h3,h4⟩
theorem HG.take {s a b:Nat} (h:HG ts s a b (-1)) (hn:Bg ts s=(a,b)):HG ts (s+1) a b ((s/3:Nat):Int):=by
  rcases h with ⟨h1,h2⟩|⟨u,h1,h2,h3,h4⟩
  · exact .inr ⟨s,Z,rfl,hn,h2⟩
  · omega
theorem HG.keep {s a b:Nat} {z:Int} (h:HG ts s a b z) (hz:z ≠ -1):HG ts (s+1) a b z:=by
  rcases h with ⟨h1,h2⟩|⟨u,h1,h2,h3,h4⟩
  · exact absurd h1 hz
  · exact .inr ⟨u,Z,h2,h3,h4⟩
structure N2 (ts:List (Nat×Nat×Nat)) (s:Nat) (k:P2) (e:E4):Prop where
  ea:e.a=k.1
  eb:e.b=k.2
  lt:k.1<k.2
  l:HG ts s k.1 k.2 e.l
  r:HG ts s k.2 k.1 e.r
  some:∃u,u<s/\(Bg ts u=(k.1,k.2)\/Bg ts u=(k.2,k.1))
theorem I1 (hd:∀u,u<3*ts.length->(Bg ts u).1≠(Bg ts u).2):∀s,s<=3*ts.length->(∀k e,BG (CU ts s) k=some e->N2 ts s k e)/\(∀k,BG (CU ts s) k=none->k.1<k.2->∀u,u<s->Bg ts u≠(k.1,k.2)/\Bg ts u≠(k.2,k.1))
  | 0,_=>⟨λk e h=>(by cases h),λk _ _ u hu=>absurd hu (Nat.not_lt_zero _)⟩
  | s+1,hs=>by
    obtain ⟨i1,i2⟩:=I1 hd s Z
    have hne:=hd s Z
    obtain ⟨a,ha⟩:∃a,a=Cd (ts.getD (s/3) (0,0,0)) (s%3):=⟨_,rfl⟩
    obtain ⟨b,hb⟩:∃b,b=Cd (ts.getD (s/3) (0,0,0)) ((s%3+1)%3):=⟨_,rfl⟩
    have hdir:Bg ts s=(a,b):=by rw [ha,hb];rfl
    rw [hdir] at hne
    have hE:CU ts (s+1)=QM (CU ts s) (s/3) a b:=by rw [ha,hb];rfl
    rw [hE]
    unfold QM
    have hky:(B9 a b).1<(B9 a b).2:=by unfold B9;simp only at hne ⊢;omega
    -- what the old edge,or the new one,knows
    have h0:∀e0,e0=(BG (CU ts s) (B9 a b)).getD (H6 (B9 a b))->e0.a=(B9 a b).1/\e0.b=(B9 a b).2/\HG ts s (B9 a b).1 (B9 a b).2 e0.l/\HG ts s (B9 a b).2 (B9 a b).1 e0.r:=by
      intro e0 he0
      cases hg:BG (CU ts s) (B9 a b) with
      | none =>
        rw [hg] at he0
        have h2:=i2 _ hg hky
        subst he0
        exact ⟨rfl,rfl,HG.none λu hu=>(h2 u hu).1,HG.none λu hu=>(h2 u hu).2⟩
      | some e =>
        rw [hg] at he0
        have h2:=i1 _ _ hg
        subst he0
        exact ⟨h2.ea,h2.eb,h2.l,h2.r⟩
    constructor
    · intro k e hk
      rw [DF] at hk
      split at hk
      · rename_i e1
        injection hk with hk
        obtain ⟨c1,c2,c3,c4⟩:=h0 _ rfl
        obtain ⟨e0,he0⟩:∃e0,e0=(BG (CU ts s) (B9 a b)).getD (H6 (B9 a b)):=⟨_,rfl⟩
        rw [<-he0] at hk c1 c2 c3 c4
        subst hk
        have hends:=LQ e0 (s/3) a b
        rw [e1]
        rcases Nat.lt_or_ge a b with hab|hab
        · have k1:(B9 a b).1=a:=by unfold B9;simp only;omega
          have k2:(B9 a b).2=b:=by unfold B9;simp only;omega
          rw [k1,k2] at c3 c4
          refine ⟨hends.1.trans c1,hends.2.trans c2,hky,?_,?_,s,Z,.inl (by rw [k1,k2];exact hdir)⟩<;>rw [k1,k2]
          · unfold Ey
            by_cases hl:e0.l = -1
            · rw [if_pos ⟨hab,hl⟩]
              rw [hl] at c3
              exact c3.take hdir
            · rw [if_neg (λh=>hl h.2),if_neg (λh=>by omega)]
              exact c3.keep hl
          · have hn2:Bg ts s≠(b,a):=by rw [hdir];intro h;injection h with h _;omega
            unfold Ey
            split
            · exact c4.skip hn2
            · rw [if_neg (λh=>by omega)]
              exact c4.skip hn2
        · have hba:b<a:=by simp only at hne;omega
          have k1:(B9 a b).1=b:=by unfold B9;simp only;omega
          have k2:(B9 a b).2=a:=by unfold B9;simp only;omega
          rw [k1,k2] at c3 c4
          have hn2:Bg ts s≠(b,a):=by rw [hdir];intro h;injection h with h _;omega
          refine ⟨hends.1.trans c1,hends.2.trans c2,hky,?_,?_,s,Z,.inr (by rw [k1,k2];exact hdir)⟩<;>rw [k1,k2]
          · unfold Ey
            rw [if_neg (λh=>by omega)]
            split
            · exact c3.skip hn2
            · exact c3.skip hn2
          · unfold Ey
            rw [if_neg (λh=>by omega)]
            by_cases hl:e0.r = -1
            · rw [if_pos ⟨hba,hl⟩]
              rw [hl] at c4
              exact c4.take hdir
            · rw [if_neg (λh=>hl h.2)]
              exact c4.keep hl
      · rename_i e1
        obtain ⟨a1,a2,a3,a4,a5,u,a6,a7⟩:=i1 k e hk
        have n1:Bg ts s≠(k.1,k.2):=by
          rw [hdir];intro h;injection h with h1 h2
          exact e1 (Prod.ext (by unfold B9;simp only;omega) (by unfold B9;simp only;omega))
        have n2:Bg ts s≠(k.2,k.1):=by
          rw [hdir];intro h;injection h with h1 h2
          exact e1 (Prod.ext (by unfold B9;simp only;omega) (by unfold B9;simp only;omega))
        exact ⟨a1,a2,a3,a4.skip n1,a5.skip n2,u,Z,a7⟩
    · intro k hk hlt u hu
      rw [DF] at hk
      split at hk
      · cases hk
      · rename_i e1
        rcases Nat.lt_or_ge u s with h|h
        · exact i2 k hk hlt u h
        · rw [show u=s by omega,hdir]
          constructor
          · intro h;injection h with h1 h2
            exact e1 (Prod.ext (by unfold B9;simp only;omega) (by unfold B9;simp only;omega))
          · intro h;injection h with h1 h2
            exact e1 (Prod.ext (by unfold B9;simp only;omega) (by unfold B9;simp only;omega))
theorem VD {N:Nat} (hn:Bn N ts=true) (hN:N<=4611686018427387904) (hd:∀u,u<3*ts.length->(Bg ts u).1≠(Bg ts u).2) {e:E4} (he:e∈edL ts):N2 ts (3*ts.length) (e.a,e.b) e:=by
  unfold edL at he
  obtain ⟨p,hp,h1⟩:=List.mem_map.1 ((DQ _).mem_iff.1 he)
  obtain ⟨j,hj,h2⟩:=List.getElem_of_mem hp
  have h3:=I0 (x:=p.1) (v:=p.2) (E6 hn hN _ (Nat.le_refl _)).once (show (CU ts (3*ts.length))[j]?=some (p.1,p.2) by rw [List.getElem?_eq_getElem hj,h2])
  have h4:=(I1 hd _ (Nat.le_refl _)).1 _ _ h3
  rw [h1] at h4
  rw [show (e.a,e.b)=p.1 from Prod.ext h4.ea h4.eb]
  exact h4
end
end
section
theorem Fa {α:Type} {R:α->α->Prop} (ha:∀x y,R x y->¬R y x) {l l':List α} (h:l.Pairwise R) (h':l'.Pairwise R) (hm:∀x,x∈l↔x∈l'):l=l':=by
  have nd:∀{l:List α},l.Pairwise R->l.Nodup:=λ{l} h=>h.imp λ{x y} hxy e=>by subst e;exact ha _ _ hxy hxy
  exact List.Perm.eq_of_pairwise (le:=R) (λx y _ _ h1 h2=>absurd h2 (ha x y h1)) h h' ((List.perm_ext_iff_of_nodup (nd h) (nd h')).2 hm)
abbrev T3:=Nat×Nat×Nat
section
variable {ts ts':List T3} {N:Nat}
theorem Nc {t:T3} (h:J3 N t=true):t.1≠t.2.1/\t.2.1≠t.2.2/\t.2.2≠t.1:=by
  simp only [J3,Bool.and_eq_true,Bool.not_eq_true',decide_eq_false_iff_not,decide_eq_true_eq] at h
  exact ⟨h.1.1.2,h.1.2,h.2⟩
theorem JT (hn:Bn N ts=true) {u:Nat} (hu:u<3*ts.length):(Bg ts u).1≠(Bg ts u).2:=by
  obtain ⟨hab,hbc,hca⟩:=Nc (Cp hn (show u/3<ts.length by omega))
  have h3:u%3=0\/u%3=1\/u%3=2:=by omega
  unfold Bg
  rcases h3 with h3|h3|h3<;>rw [h3]
  · exact hab
  · exact hbc
  · exact hca
theorem Lk (hn:Bn N ts=true) {u:Nat} (hu:u<3*ts.length):(Bg ts u).1<N/\(Bg ts u).2<N:=by
  have h:=Cp hn (show u/3<ts.length by omega)
  exact ⟨Lc h _,Lc h _⟩
theorem HG.uniq {s a b:Nat} {y z:Int} (h:HG ts s a b y) (k:HG ts s a b z):y=z:=by
  rcases h with ⟨h1,h2⟩|⟨u,h1,h2,h3,h4⟩<;>rcases k with ⟨k1,k2⟩|⟨v,k1,k2,k3,k4⟩
  · omega
  · exact absurd k3 (h2 v k1)
  · exact absurd h3 (k2 u h1)
  · rcases Nat.lt_trichotomy u v with h|h|h
    · exact absurd h3 (k4 u h)
    · rw [h2,k2,h]
    · exact absurd k3 (h4 v h)
theorem Gd (hn:Bn N ts=true) (hN:N<=4611686018427387904) {e:E4}:e∈edL ts↔N2 ts (3*ts.length) (e.a,e.b) e:=by
  have hd:∀u,u<3*ts.length->(Bg ts u).1≠(Bg ts u).2:=λu hu=>JT hn hu
  refine ⟨λh=>VD hn hN hd h,λh=>?_⟩
  obtain ⟨i1,i2⟩:=I1 hd _ (Nat.le_refl _)
  cases hg:BG (CU ts (3*ts.length)) (e.a,e.b) with
  | none =>
    obtain ⟨u,hu,hs⟩:=h.some
    have h3:=i2 _ hg h.lt u hu
    rcases hs with hs|hs
    · exact absurd hs h3.1
    · exact absurd hs h3.2
  | some e' =>
    have h3:=i1 _ _ hg
    have e1:e'=e:=by
      have a1:=h3.ea;have a2:=h3.eb;have a3:=h3.l.uniq h.l;have a4:=h3.r.uniq h.r
      cases e;cases e';simp only at a1 a2 a3 a4;subst a1 a2 a3 a4;rfl
    rw [e1] at hg
    unfold edL
    exact (DQ _).mem_iff.2 (List.mem_map.2 ⟨_,J0 hg,rfl⟩)
def Wb (x y:E4):Prop:=x.a<y.a\/(x.a=y.a/\x.b<y.b)
theorem Wb.asymm (x y:E4) (h:Wb x y):¬Wb y x:=by unfold Wb at *;omega
theorem Fc (hn:Bn N ts=true) (hN:N<=4611686018427387904):(edL ts).Pairwise Wb:=by
  have h1:LH ((CU ts (3*ts.length)).map (·.2)):=LG (E6 hn hN _ (Nat.le_refl _)) (Jj ts _)
  have h2:LH (edL ts):=(List.Perm.pairwise_iff (R:=λx y:E4=>¬(x.a=y.a/\x.b=y.b)) (λh k=>h ⟨k.1.symm,k.2.symm⟩) (DQ _)).2 h1
  exact (List.Pairwise.and (Fx _) h2).imp λ{x y} h=>by
    have h3:=JC.1 h.1
    have h4:=h.2
    unfold Wb
    omega
theorem U_ (hn:Bn N ts=true) (hn':Bn N ts'=true) (hN:N<=4611686018427387904) (h:∀e:E4,N2 ts (3*ts.length) (e.a,e.b) e↔N2 ts' (3*ts'.length) (e.a,e.b) e):edL ts=edL ts' :=
  Fa Wb.asymm (Fc hn hN) (Fc hn' hN) λe=>by rw [Gd hn hN,Gd hn' hN,h]
def R5 (ts:List T3) (j a b:Nat):Prop:=∃r,r<3/\Bg ts (3*j+r)=(a,b)
def XW (ts:List T3) (n a b:Nat) (z:Int):Prop:=(z = -1/\∀j,j<n->¬R5 ts j a b)\/∃j,j<n/\z=(j:Int)/\R5 ts j a b/\∀i,i<j->¬R5 ts i a b
theorem Uv {n a b:Nat} {z:Int} (h:HG ts (3*n) a b z):XW ts n a b z:=by
  rcases h with ⟨h1,h2⟩|⟨u,h1,h2,h3,h4⟩
  · exact .inl ⟨h1,λj hj ⟨r,hr,k⟩=>h2 _ Z k⟩
  · exact .inr ⟨u/3,Z,h2,⟨u%3,Z,by rw [show 3*(u/3)+u%3=u by omega];exact h3⟩,λi hi ⟨r,hr,k⟩=>h4 _ Z k⟩
theorem Sj {n a b:Nat} {z:Int} (h:XW ts n a b z):HG ts (3*n) a b z:=by
  rcases h with ⟨h1,h2⟩|⟨j,h1,h2,⟨r,hr,h3⟩,h4⟩
  · exact .inl ⟨h1,λu hu k=>h2 (u/3) Z ⟨u%3,Z,by rw [show 3*(u/3)+u%3=u by omega];exact k⟩⟩
  · have key:∀m,m<=3->(∀q,q<m->Bg ts (3*j+q)≠(a,b))\/∃q,q<m/\Bg ts (3*j+q)=(a,b)/\∀p,p<q->Bg ts (3*j+p)≠(a,b):=by
      intro m
      induction m with
      | zero=>intro _;exact .inl λq hq=>absurd hq (Nat.not_lt_zero _)
      | succ m ih =>
        intro hm
        rcases ih Z with h|⟨q,h5,h6,h7⟩
        · by_cases k:Bg ts (3*j+m)=(a,b)
          · exact .inr ⟨m,Z,k,h⟩
          · refine .inl λq hq=>?_
            rcases Nat.lt_or_ge q m with h8|h8
            · exact h q h8
            · rw [show q=m by omega];exact k
        · exact .inr ⟨q,Z,h6,h7⟩
    rcases key 3 (Nat.le_refl _) with k|⟨q,h5,h6,h7⟩
    · exact absurd h3 (k r hr)
    · refine .inr ⟨3*j+q,Z,by rw [h2];congr 1;omega,h6,λv hv k=>?_⟩
      rcases Nat.lt_or_ge v (3*j) with h8|h8
      · exact h4 (v/3) Z ⟨v%3,Z,by rw [show 3*(v/3)+v%3=v by omega];exact k⟩
      · exact h7 (v-3*j) Z (by rw [show 3*j+(v-3*j)=v by omega];exact k)
structure Gj (ts ts':List T3):Prop where
  len:ts.length=ts'.length
  way:∀j,j<ts.length->∀a b,R5 ts j a b↔R5 ts' j a b
theorem Gj.symm (h:Gj ts ts'):Gj ts' ts:=⟨h.len.symm,λj hj a b=>(h.way j (by rw [h.len];exact hj) a b).symm⟩
theorem Gj.fst (h:Gj ts ts') {a b:Nat} {z:Int} (k:HG ts (3*ts.length) a b z):HG ts' (3*ts'.length) a b z:=by
  rw [<-h.len]
  refine Sj ?_
  rcases Uv k with ⟨h1,h2⟩|⟨j,h1,h2,h3,h4⟩
  · exact .inl ⟨h1,λj hj k=>h2 j hj ((h.way j hj a b).2 k)⟩
  · exact .inr ⟨j,h1,h2,(h.way j h1 a b).1 h3,λi hi k=>h4 i hi ((h.way i Z a b).2 k)⟩
theorem Gj.inv (h:Gj ts ts') {e:E4} (k:N2 ts (3*ts.length) (e.a,e.b) e):N2 ts' (3*ts'.length) (e.a,e.b) e:=by
  obtain ⟨u,hu,hs⟩:=k.some
  refine ⟨k.ea,k.eb,k.lt,h.fst k.l,h.fst k.r,?_⟩
  have key:∀a b,Bg ts u=(a,b)->∃v,v<3*ts'.length/\Bg ts' v=(a,b):=λa b hd=>by
    obtain ⟨r,hr,h3⟩:=(h.way (u/3) Z a b).1 ⟨u%3,Z,by rw [show 3*(u/3)+u%3=u by omega];exact hd⟩
    exact ⟨3*(u/3)+r,by rw [<-h.len];omega,h3⟩
  rcases hs with hs|hs
  · obtain ⟨v,h1,h2⟩:=key _ _ hs;exact ⟨v,h1,.inl h2⟩
  · obtain ⟨v,h1,h2⟩:=key _ _ hs;exact ⟨v,h1,.inr h2⟩
theorem Gj.edL (h:Gj ts ts') (hn:Bn N ts=true) (hn':Bn N ts'=true) (hN:N<=4611686018427387904):edL ts=Go.Proofs.YtfbomiejpbchdaaGreatDoor.edL ts':=U_ hn hn' hN λe=>⟨h.inv,h.symm.inv⟩
def Cv (t:T3) (i:Nat):T3:=(Cd t (i%3),Cd t ((i+1)%3),Cd t ((i+2)%3))
def Dx (ts:List T3) (f:Nat->Nat):Nat->List T3
  | 0=>ts
  | k+1=>(Dx ts f k).set k (Cv (ts.getD k (0,0,0)) (f k))
theorem DE (f:Nat->Nat):∀k,(Dx ts f k).length=ts.length
  | 0=>rfl
  | k+1=>by rw [Dx,List.length_set,DE f k]
theorem EY (f:Nat->Nat):∀k j,k<=ts.length->j<ts.length->(Dx ts f k).getD j (0,0,0)=if j<k then Cv (ts.getD j (0,0,0)) (f j) else ts.getD j (0,0,0)
  | 0,j,_,_=>by rw [if_neg (Nat.not_lt_zero _)];rfl
  | k+1,j,hk,hj=>by
    have h:=EY f k j Z hj
    rw [Dx,List.getD,List.getElem?_set]
    by_cases e:k=j
    · subst e
      rw [if_pos rfl,if_pos (by rw [DE];exact hj),if_pos Z];rfl
    · rw [if_neg e]
      have h2:(Dx ts f k)[j]?.getD (0,0,0)=_:=h
      rw [h2]
      by_cases h3:j<k
      · rw [if_pos h3,if_pos Z]
      · rw [if_neg h3,if_neg Z]
theorem I2 (t:T3) (i r:Nat) (hr:r<3):Cd (Cv t i) r=Cd t ((i+r)%3):=by
  have h3:r=0\/r=1\/r=2:=by omega
  rcases h3 with rfl|rfl|rfl<;>simp [Cd,Cv]
theorem EG {j r:Nat} (hr:r<3):Bg ts (3*j+r)=(Cd (ts.getD j (0,0,0)) r,Cd (ts.getD j (0,0,0)) ((r+1)%3)):=by
  unfold Bg
  rw [show (3*j+r)/3=j by omega,show (3*j+r)%3=r by omega]
theorem UB {t:T3} (i:Nat) (h:J3 N t=true):J3 N (Cv t i)=true:=by
  obtain ⟨h1,h2,h3⟩:=DG h
  obtain ⟨n1,n2,n3⟩:=Nc h
  have hr:i%3=0\/i%3=1\/i%3=2:=by omega
  rcases hr with e|e|e
  · have e1:(i+1)%3=1:=by omega
    have e2:(i+2)%3=2:=by omega
    simp [J3,Cv,Cd,e,e1,e2];omega
  · have e1:(i+1)%3=2:=by omega
    have e2:(i+2)%3=0:=by omega
    simp [J3,Cv,Cd,e,e1,e2];omega
  · have e1:(i+1)%3=0:=by omega
    have e2:(i+2)%3=1:=by omega
    simp [J3,Cv,Cd,e,e1,e2];omega
theorem JZ (f:Nat->Nat) (hn:Bn N ts=true):Bn N (Dx ts f ts.length)=true:=Po λq hq=>by
  rw [DE] at hq
  rw [EY f _ _ (Nat.le_refl _) hq,if_pos hq]
  exact UB _ (Cp hn hq)
theorem QJ (f:Nat->Nat):Gj ts (Dx ts f ts.length):=⟨(DE f _).symm,λj hj a b=>by
  have hg:=EY (ts:=ts) f _ _ (Nat.le_refl _) hj
  rw [if_pos hj] at hg
  constructor
  · rintro ⟨r,hr,h⟩
    refine ⟨(r+3-f j%3)%3,Z,?_⟩
    rw [EG Z,hg,I2 _ _ _ Z,I2 _ _ _ Z,<-h,EG hr,show (f j+(r+3-f j%3)%3)%3=r by omega,show (f j+((r+3-f j%3)%3+1)%3)%3=(r+1)%3 by omega]
  · rintro ⟨r,hr,h⟩
    refine ⟨(f j+r)%3,Z,?_⟩
    rw [EG hr,hg,I2 _ _ _ Z,I2 _ _ _ Z] at h
    rw [EG Z,<-h,show ((f j+r)%3+1)%3=(f j+(r+1)%3)%3 by omega]⟩
theorem TM (f:Nat->Nat) (hn:Bn N ts=true) (hN:N<=4611686018427387904):edL (Dx ts f ts.length)=edL ts:=((QJ f).edL hn (JZ f hn) hN).symm
def KO (ts:List T3) (u:Nat):P2:=B9 (Bg ts u).1 (Bg ts u).2
def Ca (ts:List T3):Nat->List (P2×Nat)
  | 0=>[]
  | s+1=>Bc (Ca ts s) (KO ts s) ((BG (Ca ts s) (KO ts s)).getD 0+1)
def FF (ts:List T3):List P2:=ts.flatMap λt=>[B9 t.1 t.2.1,B9 t.2.1 t.2.2,B9 t.2.2 t.1]
theorem FY (k:P2):∀s,(BG (Ca ts s) k).getD 0=((List.range s).map (KO ts)).count k
  | 0=>rfl
  | s+1=>by
    rw [Ca,DF,List.range_succ,List.map_append,List.count_append,List.map_singleton,List.count_singleton]
    by_cases h:k=KO ts s
    · subst h
      rw [if_pos rfl,Option.getD_some,FY _ s];simp
    · rw [if_neg h,FY k s,if_neg (by simpa using λe=>h e.symm)];rfl
theorem IE {t i:Nat} (hi:i<3):Ca ts (3*t+i+1)=Bc (Ca ts (3*t+i)) (B9 (Cd (ts.getD t (0,0,0)) i) (Cd (ts.getD t (0,0,0)) ((i+1)%3))) ((BG (Ca ts (3*t+i)) (B9 (Cd (ts.getD t (0,0,0)) i) (Cd (ts.getD t (0,0,0)) ((i+1)%3)))).getD 0+1):=by
  rw [Ca]
  unfold KO
  rw [EG hi]
theorem L1 (s:Nat) (k:P2):(BG (Ca ts s) k).getD 0<=s:=by
  rw [FY]
  exact Nat.le_trans List.count_le_length (by simp)
theorem Es (hn:Bn N ts=true) (hN:N<=4611686018427387904):∀s,s<=3*ts.length->Kc O6 (Ca ts s)
  | 0,_=>Kc.nil
  | s+1,hs=>by
    obtain ⟨h1,h2⟩:=Lk hn (show s<3*ts.length by omega)
    exact (Es hn hN s Z).put (DS (Nat.lt_of_lt_of_le h1 hN) (Nat.lt_of_lt_of_le h2 hN))
theorem J5:(List.range (3*ts.length)).map (KO ts)=FF ts:=by
  have key:∀n,n<=ts.length->(List.range (3*n)).map (KO ts)=FF (ts.take n):=by
    intro n
    induction n with
    | zero=>intro _;rfl
    | succ n ih =>
      intro hn
      have e1:List.range (3*(n+1))=List.range (3*n)++[3*n,3*n+1,3*n+2]:=by
        rw [show 3*(n+1)=3*n+1+1+1 by omega,List.range_succ,List.range_succ,List.range_succ];simp
      have e2:ts.take (n+1)=ts.take n++[ts.getD n (0,0,0)]:=by
        rw [List.take_add_one,List.getElem?_eq_getElem (show n<ts.length by omega),List.getD,List.getElem?_eq_getElem (show n<ts.length by omega)];rfl
      have k0:=EG (ts:=ts) (j:=n) (show 0<3 by decide)
      have k1:=EG (ts:=ts) (j:=n) (show 1<3 by decide)
      have k2:=EG (ts:=ts) (j:=n) (show 2<3 by decide)
      rw [e1,e2,List.map_append,ih Z]
      unfold FF
      rw [List.flatMap_append]
      congr 1
      simp only [List.map_cons,List.map_nil,List.flatMap_cons,List.flatMap_nil,List.append_nil,KO]
      rw [show 3*n=3*n+0 by omega,k0,show 3*n+0+1=3*n+1 by omega,k1,show 3*n+0+2=3*n+2 by omega,k2]
      rfl
  have h:=key ts.length (Nat.le_refl _)
  rwa [List.take_length] at h
def So (ts:List T3) (k:P2):Nat:=(BG (Ca ts (3*ts.length)) k).getD 0
theorem Oo (k:P2):So ts k=(FF ts).count k:=by unfold So;rw [FY,J5]
def Ih (ts:List T3) (i:Nat):List T3:=(((edL ts).take i).filter λe=>decide (So ts (e.a,e.b)=1)).map λe=>(e.a,e.b,0)
def Eu (ts:List T3):List T3:=Ih ts (edL ts).length
theorem Rk {i:Nat} (hi:i<(edL ts).length) (h:So ts (((edL ts).getD i ⟨0,0,0,0⟩).a,((edL ts).getD i ⟨0,0,0,0⟩).b)=1):Ih ts (i+1)=Ih ts i++[(((edL ts).getD i ⟨0,0,0,0⟩).a,((edL ts).getD i ⟨0,0,0,0⟩).b,0)]:=by
  rw [List.getD,List.getElem?_eq_getElem hi] at h ⊢
  unfold Ih
  rw [List.take_add_one,List.getElem?_eq_getElem hi,List.filter_append,List.map_append]
  simp only [Option.toList_some,Option.getD_some] at h ⊢
  rw [List.filter_cons,if_pos (decide_eq_true h)];rfl
theorem VF {i:Nat} (hi:i<(edL ts).length) (h:¬So ts (((edL ts).getD i ⟨0,0,0,0⟩).a,((edL ts).getD i ⟨0,0,0,0⟩).b)=1):Ih ts (i+1)=Ih ts i:=by
  rw [List.getD,List.getElem?_eq_getElem hi] at h
  unfold Ih
  rw [List.take_add_one,List.getElem?_eq_getElem hi,List.filter_append,List.map_append]
  simp only [Option.toList_some,Option.getD_some] at h ⊢
  rw [List.filter_cons,if_neg (by simpa using h)];simp
theorem TP (i:Nat):(Ih ts i).length<=i:=by
  unfold Ih
  rw [List.length_map]
  exact Nat.le_trans (List.length_filter_le _ _) (List.length_take_le _ _)
theorem Md (hn:Bn N ts=true) (hN:N<=4611686018427387904) {a b:Nat}:(a,b)∈FF ts↔∃e∈edL ts,e.a=a/\e.b=b:=by
  rw [<-J5,List.mem_map]
  constructor
  · rintro ⟨u,hu,hk⟩
    have hu:=List.mem_range.1 hu
    have hne:=JT hn hu
    unfold KO B9 at hk
    injection hk with h1 h2
    have hlt:a<b:=by omega
    have hd:Bg ts u=(a,b)\/Bg ts u=(b,a):=by
      rcases Nat.lt_or_ge (Bg ts u).1 (Bg ts u).2 with h|h
      · exact .inl (Prod.ext Z Z)
      · exact .inr (Prod.ext Z Z)
    obtain ⟨i1,i2⟩:=I1 (λu hu=>JT hn hu) _ (Nat.le_refl _)
    cases hg:BG (CU ts (3*ts.length)) (a,b) with
    | none =>
      have h3:=i2 _ hg hlt u hu
      rcases hd with hd|hd
      · exact absurd hd h3.1
      · exact absurd hd h3.2
    | some e =>
      have h3:=i1 _ _ hg
      refine ⟨e,?_,h3.ea,h3.eb⟩
      unfold edL
      exact (DQ _).mem_iff.2 (List.mem_map.2 ⟨_,J0 hg,rfl⟩)
  · rintro ⟨e,he,rfl,rfl⟩
    have h:=(Gd hn hN).1 he
    obtain ⟨u,hu,hs⟩:=h.some
    have hlt:=h.lt
    simp only at hlt hs
    refine ⟨u,List.mem_range.2 hu,?_⟩
    unfold KO B9
    rcases hs with hs|hs<;>rw [hs]<;>exact Prod.ext (by simp only;omega) (by simp only;omega)
def Tl (x y:T3):Prop:=x.1<y.1\/(x.1=y.1/\x.2.1<y.2.1)
theorem Tl.asymm (x y:T3) (h:Tl x y):¬Tl y x:=by unfold Tl at *;omega
theorem F2 (hn:Bn N ts=true) (hN:N<=4611686018427387904):(Eu ts).Pairwise Tl:=by
  unfold Eu Ih
  rw [List.pairwise_map,List.take_length]
  exact (Fc hn hN).filter _
theorem HS (hn:Bn N ts=true) (hN:N<=4611686018427387904) {s:T3}:s∈Eu ts↔(FF ts).count (s.1,s.2.1)=1/\s.2.2=0:=by
  unfold Eu Ih
  rw [List.take_length,List.mem_map]
  constructor
  · rintro ⟨e,he,rfl⟩
    obtain ⟨h1,h2⟩:=List.mem_filter.1 he
    exact ⟨by rw [<-Oo];exact of_decide_eq_true h2,rfl⟩
  · rintro ⟨h1,h2⟩
    have hm:(s.1,s.2.1)∈FF ts:=List.count_pos_iff.1 Z
    obtain ⟨e,he,ea,eb⟩:=(Md hn hN).1 hm
    refine ⟨e,List.mem_filter.2 ⟨he,decide_eq_true (by rw [Oo,ea,eb];exact h1)⟩,?_⟩
    exact Prod.ext ea (Prod.ext eb h2.symm)
theorem Hj (hn:Bn N ts=true) (hn':Bn N ts'=true) (hN:N<=4611686018427387904) (h:(FF ts).Perm (FF ts')):Eu ts=Eu ts' :=
  Fa Tl.asymm (F2 hn hN) (F2 hn' hN) λs=>by rw [HS hn hN,HS hn' hN,h.count_eq]
theorem flatMap_perm2 {α β:Type} {g:α->List β} (d:α):∀{l l':List α},l.length=l'.length->(∀j,j<l.length->(g (l.getD j d)).Perm (g (l'.getD j d)))->(l.flatMap g).Perm (l'.flatMap g)
  | [],[],_,_=>List.Perm.refl _
  | x::r,y::r',hl,h=>by
    rw [List.flatMap_cons,List.flatMap_cons]
    refine (h 0 (by simp)).append (flatMap_perm2 d (by simpa using hl) λj hj=>?_)
    have:=h (j+1) (by simpa using hj)
    simpa using this
end
end
section
abbrev E0:E4:=⟨0,0,0,0⟩
def UG (N:Nat) (es:List E4):Nat->List (P2×Nat)
  | 0=>[]
  | i+1=>Bc (UG N es i) (B9 (es.getD i E0).a (es.getD i E0).b) (N+i)
def WD (N:Nat) (ss:List T3):Nat->List (P2×Nat)
  | 0=>[]
  | k+1=>if (ss.getD (ss.length-1-k) (0,0,0)).1<N/\(ss.getD (ss.length-1-k) (0,0,0)).2.1<N then Bc (WD N ss k) (B9 (ss.getD (ss.length-1-k) (0,0,0)).1 (ss.getD (ss.length-1-k) (0,0,0)).2.1) (ss.getD (ss.length-1-k) (0,0,0)).2.2 else WD N ss k
def T8 (N:Nat) (ss:List T3) (es:List E4):Nat->List (P2×Nat)
  | 0=>WD N ss ss.length
  | i+1=>Bc (Bc (T8 N ss es i) (B9 (es.getD i E0).a (N+i)) ((BG (T8 N ss es i) (B9 (es.getD i E0).a (es.getD i E0).b)).getD 0)) (B9 (es.getD i E0).b (N+i)) ((BG (T8 N ss es i) (B9 (es.getD i E0).a (es.getD i E0).b)).getD 0)
def X0 (N:Nat) (ss:List T3) (es:List E4) (a b:Nat):Nat:=(BG (T8 N ss es es.length) (B9 a b)).getD 0
def YP (ps:List Pt) (e:E4):Pt:=Gt (cor ps e.a+cor ps e.b) (1/2)
def XY (ps:List Pt) (es:List E4):Nat->List Pt
  | 0=>ps
  | i+1=>XY ps es i++[YP ps (es.getD i E0)]
def X4 (ps:List Pt) (es:List E4):List Pt:=XY ps es es.length
def Xu (N:Nat) (ss:List T3) (es:List E4) (ts:List T3):List T3:=(Eu ts).map λs=>(s.1,s.2.1,X0 N ss es s.1 s.2.1)
section
variable {N M i:Nat} {es:List E4} {ts:List T3} {t:T3} {ss rs:List T3} {ps:List Pt}
theorem KF {α:Type} {l:List α} {d:α} {i:Nat} (h:i<l.length):l.take (i+1)=l.take i++[l.getD i d]:=by
  rw [List.take_add_one,List.getElem?_eq_getElem h,List.getD,List.getElem?_eq_getElem h];rfl
theorem LE (hn:Bn N ts=true) (hN:N<=4611686018427387904) {e:E4} (he:e∈edL ts):e.a<e.b/\e.b<N:=by
  have h:=(Gd hn hN).1 he
  obtain ⟨u,hu,hs⟩:=h.some
  have h2:=Lk hn hu
  have hlt:=h.lt
  simp only at hlt hs
  rcases hs with hs|hs<;>rw [hs] at h2<;>simp only at h2<;>omega
theorem Se (hn:Bn N ts=true) (hN:N<=4611686018427387904):∀e∈edL ts,e.a<N/\e.b<N:=λe he=>by
  have:=LE hn hN he;omega
theorem Qx (u:T3) (i:Nat):Cv u i=Cv u (i%3):=by
  unfold Cv
  rw [Nat.mod_mod,show (i%3+1)%3=(i+1)%3 by omega,show (i%3+2)%3=(i+2)%3 by omega]
end
end
end Go.Proofs.YtfbomiejpbchdaaGreatDoor
