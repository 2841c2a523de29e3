import Derived.Test.YtfbomiejpbchdaaGreatDoorPart00
import Derived.Test.YtfbomiejpbchdaaGreatDoorPart21
import Derived.Test.YtfbomiejpbchdaaGreatDoorPart22
import Derived.Test.YtfbomiejpbchdaaGreatDoorPart23
import Derived.Test.YtfbomiejpbchdaaGreatDoorPart27
namespace Go.Proofs.YtfbomiejpbchdaaGreatDoor
open Go Go.RowKit Go.Proofs.Tryz
set_option linter.unusedVariables false
set_option linter.unusedSimpArgs false
section
instance:Inhabited E4:=⟨⟨0,0,0,0⟩⟩
theorem Ie (a b:Nat):(a<b/\Dc a b = -1)\/(b<a/\Dc a b=1)\/(a=b/\Dc a b=0):=by
  rcases Nat.lt_trichotomy a b with h|h|h
  · exact .inl ⟨h,NY h⟩
  · exact .inr (.inr ⟨h,Nv Z Z⟩)
  · exact .inr (.inl ⟨h,Nl Z h⟩)
theorem TG {p q:Int}:P0 p q<0↔p<0\/(p=0/\q<0):=by
  unfold P0
  split
  · omega
  · split<;>omega
theorem Dk {x y:E4}:Lb x y<0↔x.a<y.a\/(x.a=y.a/\x.b<y.b):=by
  unfold Lb
  rw [TG]
  rcases Ie x.a y.a with ⟨h1,e1⟩|⟨h1,e1⟩|⟨h1,e1⟩<;>rcases Ie x.b y.b with ⟨h2,e2⟩|⟨h2,e2⟩|⟨h2,e2⟩<;>rw [e1,e2]<;>omega
def N9 (x y:E4):Prop:=¬Lb y x<0
theorem Kg {x y:E4}:N9 x y↔x.a<y.a\/(x.a=y.a/\x.b<=y.b):=by unfold N9;rw [Dk];omega
theorem V3:Go.Sort.SWO (ltOf Lb) where
  irrefl x:=decide_eq_false (by rw [Dk];omega)
  trans x y z h1 h2:=by
    have h1:=Dk.1 (of_decide_eq_true h1)
    have h2:=Dk.1 (of_decide_eq_true h2)
    exact decide_eq_true (Dk.2 Z)
  ntrans x y z h1 h2:=by
    have h1:=of_decide_eq_false h1
    have h2:=of_decide_eq_false h2
    rw [Dk] at h1 h2
    exact decide_eq_false (by rw [Dk];omega)
theorem Us (Ae off size:Nat) (w:World):CmpLays prog 92 #[] B8 4 Lb Ae off size w:=λm os dk _ x y=>by
  rw [Array.append_empty]
  exact (So x y _).mono λe w' h=>⟨h.1,Nr h.2⟩
theorem Jv {d:Array E4} {t:Nat} (h:t<d.size*4):(rowsL B8 d.toList)[t]?=some (Go.Sort.flatK B8 4 d)[t]!:=by
  rw [Go.Sort.get_flatK _ _ _ _ h]
  have h1:t/4<d.size:=by omega
  have h2:=EQ Cj (⟨0,0,0,0⟩:E4) d.toList (t/4) (t%4) (by simpa using h1) (Nat.mod_lt _ (by decide)) (v:=(B8 d[t/4]!)[t%4]!) (by
    rw [List.getD,show d.toList[t/4]?=some d[t/4] from by simp [h1],getElem!_pos d (t/4) h1]
    have hl:t%4<(B8 d[t/4]).length:=by rw [Cj];exact Nat.mod_lt _ (by decide)
    show (B8 d[t/4])[t%4]?=some (B8 d[t/4])[t%4]!
    rw [List.getElem?_eq_getElem hl,getElem!_pos (B8 d[t/4]) (t%4) hl])
  rw [show t/4*4+t%4=t by omega] at h2
  exact h2
def OA (x:E4):List E4->List E4
  | []=>[x]
  | y::r=>if Lb x y<0 then x::y::r else y::OA x r
def OC:List E4->List E4
  | []=>[]
  | x::r=>OA x (OC r)
theorem HK (x:E4):∀l,(OA x l).Perm (x::l)
  | []=>List.Perm.refl _
  | y::r=>by
    unfold OA
    split
    · exact List.Perm.refl _
    · exact (List.Perm.cons y (HK x r)).trans (List.Perm.swap x y r)
theorem ED:∀l,(OC l).Perm l
  | []=>List.Perm.refl _
  | x::r=>(HK x (OC r)).trans (List.Perm.cons x (ED r))
theorem Hn (x:E4):∀l,l.Pairwise N9->(OA x l).Pairwise N9
  | [],_=>List.pairwise_singleton _ _
  | y::r,h=>by
    obtain ⟨h1,h2⟩:=List.pairwise_cons.1 h
    unfold OA
    split
    · rename_i k
      have hxy:N9 x y:=by rw [Kg];have:=Dk.1 k;omega
      refine List.pairwise_cons.2 ⟨λz hz=>?_,h⟩
      rcases List.mem_cons.1 hz with rfl|hz
      · exact hxy
      · have h3:=h1 z hz;rw [Kg] at *;omega
    · rename_i k
      refine List.pairwise_cons.2 ⟨λz hz=>?_,Hn x r h2⟩
      rcases List.mem_cons.1 ((HK x r).mem_iff.1 hz) with rfl|hz
      · exact k
      · exact h1 z hz
theorem Hc:∀l,(OC l).Pairwise N9
  | []=>List.Pairwise.nil
  | x::r=>Hn x _ (Hc r)
def NQ (l:List E4):Prop:=l.Pairwise (λx y=>¬(x.a=y.a/\x.b=y.b))
theorem Ni:∀{l:List E4},NQ l->∀x∈l,∀y∈l,x.a=y.a->x.b=y.b->x=y
  | z::r,h,x,hx,y,hy,e,e'=>by
    obtain ⟨h1,h2⟩:=List.pairwise_cons.1 h
    rcases List.mem_cons.1 hx with ex|hx'<;>rcases List.mem_cons.1 hy with ey|hy'
    · rw [ex,ey]
    · rw [ex] at e e';exact absurd ⟨e,e'⟩ (h1 y hy')
    · rw [ey] at e e';exact absurd ⟨e.symm,e'.symm⟩ (h1 x hx')
    · exact Ni h2 x hx' y hy' e e'
theorem On {l l':List E4} (hp:l'.Perm l) (hs:l'.Pairwise N9) (hn:NQ l):l'=OC l:=by
  refine List.Perm.eq_of_pairwise (le:=N9) (λx y hx hy h1 h2=>?_) hs (Hc l) (hp.trans (ED l).symm)
  rw [Kg] at h1 h2
  exact Ni hn x (hp.mem_iff.1 hx) y ((ED l).mem_iff.1 hy) Z Z
theorem RL (xs:List E4) (p:Option Addr) (n c:Nat) (T:TypeId) (ho:OwnOk p n c) (hp0:p≠none) (hn:n=xs.length) (hN:n<4611686018427387904) (w:World) (hrow:∀b,p.map (·.block)=some b->∃o,w.heap[b]?=some o/\(rowW p T 4 n c (rowsL B8 xs)).P o) :
    Calls prog 91 #[.slice p n c,.func (.func 92) #[] #[]] w λe w'=>e=.returned (.tuple #[])/\JH w w' (p.map (·.block))/\∃ys:List E4,ys.Perm xs/\ys.Pairwise N9/\∀b,p.map (·.block)=some b->∃o,w'.heap[b]?=some o/\(rowW p T 4 n c (rowsL B8 ys)).P o:=by
  cases hp:p with
  | none=>exact absurd hp hp0
  | some a =>
    subst hp
    obtain ⟨o,hob,cur,rfl,hsz,hcur⟩:=hrow a.block rfl
    have hat:=ho.at0 a rfl
    have hle:=ho.le
    obtain ⟨d,hd⟩:∃d,d=xs.toArray:=⟨_,rfl⟩
    have hdz:d.size=n:=by rw [hd,hn];simp
    have hdx:d.toList=xs:=by rw [hd]
    have hH:Go.Sort.HoldsK B8 4 w a.block 0 d:=λj hj=>by
      have hj':j<d.size*4:=by simpa using hj
      refine ⟨?_,by simp [World.frozen?,hob]⟩
      have h1:(cur.toList.take (n*4))[j]?=(rowsL B8 xs)[j]?:=by rw [hcur]
      rw [List.getElem?_take_of_lt Z,Array.getElem?_toList,<-hdx,Jv hj'] at h1
      show w.cell? ⟨a.block,0+j,none⟩=some (id (Go.Sort.flatK B8 4 d)[j]!)
      unfold World.cell?
      simp only [hob,Nat.zero_add]
      exact h1
    have hlt:a.block<w.heap.size:=by
      rcases Nat.lt_or_ge a.block w.heap.size with h|h
      · exact h
      · rw [Array.getElem?_eq_none h] at hob;cases hob
    have h:=Tryz.slices_SortFunc_Edge 4 isAgg65 sizeOf65 B8 Cj (λx v hv=>by
      unfold B8 at hv
      simp only [List.mem_cons,List.not_mem_nil,or_false] at hv
      rcases hv with rfl|rfl|rfl|rfl<;>rfl) Lb V3 92 #[] a.block 0 c d w call92 (Us a.block 0 d.size w) hH hlt Z
    rw [hdz] at h
    rw [hat]
    refine h.mono ?_
    rintro e w' ⟨rfl,d',m,os,⟨hz',_,hperm⟩,hsort,rfl⟩
    have hz2:d'.size=n:=by rw [hz',hdz]
    have hperm':d'.toList.Perm d.toList:=by
      have e1:d'.extract 0 n=d':=by rw [<-hz2];exact Array.extract_size
      have e2:d.extract 0 n=d:=by rw [<-hdz];exact Array.extract_size
      rw [e1,e2] at hperm
      exact hperm
    have hF:(Go.Sort.flatK B8 4 d').size=n*4:=by rw [Go.Sort.size_flatK,hz2]
    refine ⟨rfl,⟨⟨rfl,rfl,rfl,by simp [sortWorldK,Go.Sort.grow,Go.Sort.putRowK,Go.Sort.putRow,Go.Sort.mapBlock,Go.Sort.ahead],λj hj hne=>?_⟩,by show w.drawn<=w.drawn+m;omega⟩,d'.toList,by rw [<-hdx];exact hperm',List.pairwise_iff_getElem.2 λi j hi hj hij=>?_,λb e=>?_⟩
    · have hne':a.block≠j:=λe=>hne (by rw [e];rfl)
      unfold sortWorldK
      rw [Go.Sort.heap_grow_old _ _ (by simpa [Go.Sort.putRowK,Go.Sort.putRow,Go.Sort.mapBlock,Go.Sort.ahead] using hj)]
      simp [Go.Sort.putRowK,Go.Sort.putRow,Go.Sort.mapBlock,Go.Sort.ahead,Array.getElem?_modify,hne']
    · have hi':i<d'.size:=by simpa using hi
      have hj':j<d'.size:=by simpa using hj
      have h9:=of_decide_eq_false (hsort i j (Nat.zero_le _) hij Z)
      rw [getElem!_pos d' j hj',getElem!_pos d' i hi'] at h9
      simpa [N9] using h9
    · injection e with e
      subst e
      refine ⟨.cells (Go.Sort.putCells id 0 (Go.Sort.flatK B8 4 d') cur) T (0,0),?_,_,rfl,by simp [Go.Sort.putCells,hsz],?_⟩
      · unfold sortWorldK
        rw [Go.Sort.heap_grow_old _ _ (by simpa [Go.Sort.putRowK,Go.Sort.putRow,Go.Sort.mapBlock,Go.Sort.ahead] using hlt)]
        simp [Go.Sort.putRowK,Go.Sort.putRow,Go.Sort.mapBlock,Go.Sort.ahead,Array.getElem?_modify,hob,Go.Sort.onCells]
      · apply List.ext_getElem?
        intro j
        have hlen:(rowsL B8 d'.toList).length=n*4:=by rw [Am Cj,Array.length_toList,hz2]
        by_cases hj:j<n*4
        · have hcs:n*4<=c*4:=Nat.mul_le_mul_right _ hle
          rw [List.getElem?_take_of_lt hj,Array.getElem?_toList,Jv (by rw [hz2];exact hj)]
          unfold Go.Sort.putCells
          rw [Array.getElem?_mapIdx,Array.getElem?_eq_getElem Z,Option.map_some,if_pos ⟨Nat.zero_le _,Z⟩]
          rfl
        · rw [List.getElem?_take_eq_none Z,List.getElem?_eq_none Z]
def QZ (kvs:List (P2×E4)) (q:Nat):E4:=(kvs.getD q ((0,0),⟨0,0,0,0⟩)).2
theorem S8 {kvs:List (P2×E4)} {q:Nat} {k:P2} {v:E4} (h:kvs[q]?=some (k,v)):QZ kvs q=v:=by rw [QZ,List.getD,h];rfl
theorem Id:∀{n:Nat} {l:List Nat},l.Nodup->(∀x∈l,x<n)->l.length<=n
  | 0,[],_,_=>Nat.le_refl _
  | 0,x::r,_,h=>absurd (h x List.mem_cons_self) (Nat.not_lt_zero _)
  | n+1,l,h1,h2=>by
    have h3:(l.erase n).length<=n:=Id (h1.erase n) λx hx=>by
      have h4:=h2 x (List.mem_of_mem_erase hx)
      have h5:x≠n:=λe=>by
        rw [e] at hx
        exact h1.not_mem_erase hx
      omega
    rw [List.length_erase] at h3
    split at h3<;>omega
theorem QW {kvs:List (P2×E4)} {seen:List Nat} (h1:seen.Nodup) (h2:∀x∈seen,x<kvs.length) (h3:∀q,q<kvs.length->q∈seen):(seen.map (QZ kvs)).Perm (kvs.map (·.2)):=by
  have hp:seen.Perm (List.range kvs.length):=(List.perm_ext_iff_of_nodup h1 List.nodup_range).2 λq=>⟨λh=>List.mem_range.2 (h2 q h),λh=>h3 q (List.mem_range.1 h)⟩
  refine (hp.map _).trans (List.Perm.of_eq ?_)
  apply List.ext_getElem?
  intro q
  rw [List.getElem?_map,List.getElem?_map]
  rcases Nat.lt_or_ge q kvs.length with h|h
  · rw [List.getElem?_range h,List.getElem?_eq_getElem h]
    simp [QZ,List.getD,h]
  · rw [List.getElem?_eq_none (by simpa using h),List.getElem?_eq_none h];rfl
def M7 (kvs:List (P2×E4)):Prop:=∀p∈kvs,p.2.a=p.1.1/\p.2.b=p.1.2
theorem Jh (e:E4) (t a b:Nat):(Eh e t a b).a=e.a/\(Eh e t a b).b=e.b:=by
  unfold Eh
  split
  · exact ⟨rfl,rfl⟩
  · split<;>exact ⟨rfl,rfl⟩
theorem Lx {kvs:List (P2×E4)} {x:P2} {v:E4} (h:BF kvs x=some v):(x,v)∈kvs:=by
  induction kvs with
  | nil=>cases h
  | cons p r ih =>
    obtain ⟨k,u⟩:=p
    unfold BF at h
    split at h
    · rename_i e
      injection h with h
      rw [e,h];exact List.mem_cons_self
    · exact List.mem_cons_of_mem _ (ih h)
theorem Og {kvs:List (P2×E4)} (h:M7 kvs) (x:P2):((BF kvs x).getD (HI x)).a=x.1/\((BF kvs x).getD (HI x)).b=x.2:=by
  cases hg:BF kvs x with
  | none=>exact ⟨rfl,rfl⟩
  | some v=>exact h _ (Lx hg)
theorem OU {kvs:List (P2×E4)} {x:P2} {y:E4} {p:P2×E4} (h:p∈Ba kvs x y):p=(x,y)\/p∈kvs:=by
  induction kvs with
  | nil=>exact .inl (List.mem_singleton.1 h)
  | cons q r ih =>
    obtain ⟨k,u⟩:=q
    unfold Ba at h
    split at h
    · rename_i e
      rcases List.mem_cons.1 h with h|h
      · exact .inl (by rw [h,e])
      · exact .inr (List.mem_cons_of_mem _ h)
    · rcases List.mem_cons.1 h with h|h
      · exact .inr (by rw [h];exact List.mem_cons_self)
      · exact (ih h).imp_right (List.mem_cons_of_mem _)
theorem LS (ts:List (Nat×Nat×Nat)):∀s,M7 (CQ ts s)
  | 0=>λp h=>by cases h
  | s+1=>λp h=>by
    have h0:=LS ts s
    rcases OU h with rfl|h
    · have h1:=Og h0 (DI (F6 (ts.getD (s/3) (0,0,0)) (s%3)) (F6 (ts.getD (s/3) (0,0,0)) ((s%3+1)%3)))
      have h2:=Jh ((BF (CQ ts s) (DI (F6 (ts.getD (s/3) (0,0,0)) (s%3)) (F6 (ts.getD (s/3) (0,0,0)) ((s%3+1)%3)))).getD (HI (DI (F6 (ts.getD (s/3) (0,0,0)) (s%3)) (F6 (ts.getD (s/3) (0,0,0)) ((s%3+1)%3))))) (s/3) (F6 (ts.getD (s/3) (0,0,0)) (s%3)) (F6 (ts.getD (s/3) (0,0,0)) ((s%3+1)%3))
      exact ⟨h2.1.trans h1.1,h2.2.trans h1.2⟩
    · exact h0 p h
theorem OR {kvs:List (P2×E4)} {ok:P2->Prop} (h:JL ok kvs) (he:M7 kvs):NQ (kvs.map (·.2)):=by
  unfold NQ
  rw [List.pairwise_map]
  refine List.Pairwise.imp_of_mem (λ{p q} hp hq hne=>?_) h.once
  rintro ⟨e1,e2⟩
  have h1:=he p hp
  have h2:=he q hq
  exact hne (Prod.ext (by rw [<-h1.1,<-h2.1,e1]) (by rw [<-h1.2,<-h2.2,e2]))
def B0 (ts:List (Nat×Nat×Nat)):List E4:=OC ((CQ ts (3*ts.length)).map (·.2))
theorem UT {ts:List (Nat×Nat×Nat)} {N:Nat} {xs ys:List E4} (hn:CU N ts=true) (hN:N<=4611686018427387904) (h1:ys.Perm xs) (h2:ys.Pairwise N9) (h3:xs.Perm ((CQ ts (3*ts.length)).map (·.2))):ys=B0 ts :=
  On (h1.trans h3) h2 (OR (FJ hn hN _ (Nat.le_refl _)) (LS ts _))
theorem Ki (ts:List (Nat×Nat×Nat)):(B0 ts).length=(CQ ts (3*ts.length)).length:=by rw [B0,(ED _).length_eq,List.length_map]
section
variable {P:Program} {ops:Array Oper} {rest:List Oper} {Q:Exit->Act->World->Prop} {n:Nat} {F:List (Nat×Value)} {w0:BH} {L:List As}
theorem AE.callS {o:Oper} {f:FuncId} {args:Array Value} {v:Value} (i:Nat) {q:Option Addr} {T:TypeId} {m c:Nat} {xs ys:List E4} (hw:Wt ops n F o)
    (he:∀a w,CK n a F->BN w0 w L->(execOp a.eval o).run P w=.ok (.enter f args) w) (hi:L[i]?=some (rowW q T 4 m c (rowsL B8 xs)))
    (hc:∀w,BN w0 w L->Calls P f args w λe w'=>e=.returned v/\JH w w' (q.map (·.block))/\∃zs:List E4,zs.Perm xs/\zs.Pairwise N9/\∀b,q.map (·.block)=some b->∃o,w'.heap[b]?=some o/\(rowW q T 4 m c (rowsL B8 zs)).P o)
    (hu:∀zs:List E4,zs.Perm xs->zs.Pairwise N9->zs=ys)
    (hd:∀d,o.dst=some d->d<n) (next:AE P ops rest Q n (match o.dst with|some d=>(d,v)::F|none=>F) w0 (L.set i (rowW q T 4 m c (rowsL B8 ys)))):AE P ops (o::rest) Q n F w0 L :=
  AE.callW i hw he hi (λw hW=>(hc w hW).mono λe w' ⟨h1,h2,zs,h3,h4,h5⟩=>⟨h1,h2,by rw [<-hu zs h3 h4];exact h5⟩) hd next
end
theorem IH {kvs:List (P2×E4)} {k:P2} (h:(BF kvs k).isSome=false):HI k=(BF kvs k).getD (HI k):=by
  cases hg:BF kvs k with
  | none=>rfl
  | some v=>rw [hg] at h;cases h
theorem Iq {kvs:List (P2×E4)} {k:P2} {z:E4} (h:(BF kvs k).isSome=true):(BF kvs k).getD z=(BF kvs k).getD (HI k):=by
  cases hg:BF kvs k with
  | none=>rw [hg] at h;cases h
  | some v=>rfl
end
section
section
variable {α β:Type} [DecidableEq α]
theorem C_ {kvs:List (α×β)} {x z:α} {y:β}:BF (Ba kvs x y) z=if z=x then some y else BF kvs z:=by
  induction kvs with
  | nil=>rfl
  | cons p r ih =>
    obtain ⟨k,v⟩:=p
    unfold Ba
    split
    · rename_i e
      subst e
      unfold BF
      split<;>rfl
    · rename_i e
      rw [BF,ih]
      by_cases h:z=k
      · rw [if_pos h,if_neg (λe2=>e (e2.symm.trans h)),BF,if_pos h]
      · rw [if_neg h]
        split
        · rfl
        · rw [BF,if_neg h]
end
section
variable {ts:List (Nat×Nat×Nat)}
def Bp (ts:List (Nat×Nat×Nat)) (u:Nat):P2:=(F6 (ts.getD (u/3) (0,0,0)) (u%3),F6 (ts.getD (u/3) (0,0,0)) ((u%3+1)%3))
def Hl (ts:List (Nat×Nat×Nat)) (s a b:Nat) (z:Int):Prop:=(z = -1/\∀u,u<s->Bp ts u≠(a,b))\/∃u,u<s/\z=((u/3:Nat):Int)/\Bp ts u=(a,b)/\∀v,v<u->Bp ts v≠(a,b)
theorem Hl.none {s a b:Nat} (h:∀u,u<s->Bp ts u≠(a,b)):Hl ts s a b (-1):=.inl ⟨rfl,h⟩
theorem Hl.skip {s a b:Nat} {z:Int} (h:Hl ts s a b z) (hn:Bp ts s≠(a,b)):Hl ts (s+1) a b z:=by
  rcases h with ⟨h1,h2⟩|⟨u,h1,h2,h3,h4⟩
  · refine .inl ⟨h1,λu hu=>?_⟩
    rcases Nat.lt_or_ge u s with h|h
    · exact h2 u h
    · rw [show u=s by omega];exact hn
  · exact .inr ⟨u,Z,h2,h3,h4⟩
theorem Hl.take {s a b:Nat} (h:Hl ts s a b (-1)) (hn:Bp ts s=(a,b)):Hl ts (s+1) a b ((s/3:Nat):Int):=by
  rcases h with ⟨h1,h2⟩|⟨u,h1,h2,h3,h4⟩
  · exact .inr ⟨s,Z,rfl,hn,h2⟩
  · omega
theorem Hl.keep {s a b:Nat} {z:Int} (h:Hl ts s a b z) (hz:z ≠ -1):Hl ts (s+1) a b z:=by
  rcases h with ⟨h1,h2⟩|⟨u,h1,h2,h3,h4⟩
  · exact absurd h1 hz
  · exact .inr ⟨u,Z,h2,h3,h4⟩
structure RP (ts:List (Nat×Nat×Nat)) (s:Nat) (k:P2) (e:E4):Prop where
  ea:e.a=k.1
  eb:e.b=k.2
  lt:k.1<k.2
  l:Hl ts s k.1 k.2 e.l
  r:Hl ts s k.2 k.1 e.r
  some:∃u,u<s/\(Bp ts u=(k.1,k.2)\/Bp ts u=(k.2,k.1))
theorem KE (hd:∀u,u<3*ts.length->(Bp ts u).1≠(Bp ts u).2):∀s,s<=3*ts.length->(∀k e,BF (CQ ts s) k=some e->RP ts s k e)/\(∀k,BF (CQ ts s) k=none->k.1<k.2->∀u,u<s->Bp ts u≠(k.1,k.2)/\Bp ts u≠(k.2,k.1))
  | 0,_=>⟨λk e h=>(by cases h),λk _ _ u hu=>absurd hu (Nat.not_lt_zero _)⟩
  | s+1,hs=>by
    obtain ⟨i1,i2⟩:=KE hd s Z
    have hne:=hd s Z
    obtain ⟨a,ha⟩:∃a,a=F6 (ts.getD (s/3) (0,0,0)) (s%3):=⟨_,rfl⟩
    obtain ⟨b,hb⟩:∃b,b=F6 (ts.getD (s/3) (0,0,0)) ((s%3+1)%3):=⟨_,rfl⟩
    have hdir:Bp ts s=(a,b):=by rw [ha,hb];rfl
    rw [hdir] at hne
    have hE:CQ ts (s+1)=O4 (CQ ts s) (s/3) a b:=by rw [ha,hb];rfl
    rw [hE]
    unfold O4
    have hky:(DI a b).1<(DI a b).2:=by unfold DI;simp only at hne ⊢;omega
    -- what the old edge,or the new one,knows
    have h0:∀e0,e0=(BF (CQ ts s) (DI a b)).getD (HI (DI a b))->e0.a=(DI a b).1/\e0.b=(DI a b).2/\Hl ts s (DI a b).1 (DI a b).2 e0.l/\Hl ts s (DI a b).2 (DI a b).1 e0.r:=by
      intro e0 he0
      cases hg:BF (CQ ts s) (DI a b) with
      | none =>
        rw [hg] at he0
        have h2:=i2 _ hg hky
        subst he0
        exact ⟨rfl,rfl,Hl.none λu hu=>(h2 u hu).1,Hl.none λu hu=>(h2 u hu).2⟩
      | some e =>
        rw [hg] at he0
        have h2:=i1 _ _ hg
        subst he0
        exact ⟨h2.ea,h2.eb,h2.l,h2.r⟩
    constructor
    · intro k e hk
      rw [C_] at hk
      split at hk
      · rename_i e1
        injection hk with hk
        obtain ⟨c1,c2,c3,c4⟩:=h0 _ rfl
        obtain ⟨e0,he0⟩:∃e0,e0=(BF (CQ ts s) (DI a b)).getD (HI (DI a b)):=⟨_,rfl⟩
        rw [<-he0] at hk c1 c2 c3 c4
        subst hk
        have hends:=Jh e0 (s/3) a b
        rw [e1]
        rcases Nat.lt_or_ge a b with hab|hab
        · have k1:(DI a b).1=a:=by unfold DI;simp only;omega
          have k2:(DI a b).2=b:=by unfold DI;simp only;omega
          rw [k1,k2] at c3 c4
          refine ⟨hends.1.trans c1,hends.2.trans c2,hky,?_,?_,s,Z,.inl (by rw [k1,k2];exact hdir)⟩<;>rw [k1,k2]
          · unfold Eh
            by_cases hl:e0.l = -1
            · rw [if_pos ⟨hab,hl⟩]
              rw [hl] at c3
              exact c3.take hdir
            · rw [if_neg (λh=>hl h.2),if_neg (λh=>by omega)]
              exact c3.keep hl
          · have hn2:Bp ts s≠(b,a):=by rw [hdir];intro h;injection h with h _;omega
            unfold Eh
            split
            · exact c4.skip hn2
            · rw [if_neg (λh=>by omega)]
              exact c4.skip hn2
        · have hba:b<a:=by simp only at hne;omega
          have k1:(DI a b).1=b:=by unfold DI;simp only;omega
          have k2:(DI a b).2=a:=by unfold DI;simp only;omega
          rw [k1,k2] at c3 c4
          have hn2:Bp ts s≠(b,a):=by rw [hdir];intro h;injection h with h _;omega
          refine ⟨hends.1.trans c1,hends.2.trans c2,hky,?_,?_,s,Z,.inr (by rw [k1,k2];exact hdir)⟩<;>rw [k1,k2]
          · unfold Eh
            rw [if_neg (λh=>by omega)]
            split
            · exact c3.skip hn2
            · exact c3.skip hn2
          · unfold Eh
            rw [if_neg (λh=>by omega)]
            by_cases hl:e0.r = -1
            · rw [if_pos ⟨hba,hl⟩]
              rw [hl] at c4
              exact c4.take hdir
            · rw [if_neg (λh=>hl h.2)]
              exact c4.keep hl
      · rename_i e1
        obtain ⟨a1,a2,a3,a4,a5,u,a6,a7⟩:=i1 k e hk
        have n1:Bp ts s≠(k.1,k.2):=by
          rw [hdir];intro h;injection h with h1 h2
          exact e1 (Prod.ext (by unfold DI;simp only;omega) (by unfold DI;simp only;omega))
        have n2:Bp ts s≠(k.2,k.1):=by
          rw [hdir];intro h;injection h with h1 h2
          exact e1 (Prod.ext (by unfold DI;simp only;omega) (by unfold DI;simp only;omega))
        exact ⟨a1,a2,a3,a4.skip n1,a5.skip n2,u,Z,a7⟩
    · intro k hk hlt u hu
      rw [C_] at hk
      split at hk
      · cases hk
      · rename_i e1
        rcases Nat.lt_or_ge u s with h|h
        · exact i2 k hk hlt u h
        · rw [show u=s by omega,hdir]
          constructor
          · intro h;injection h with h1 h2
            exact e1 (Prod.ext (by unfold DI;simp only;omega) (by unfold DI;simp only;omega))
          · intro h;injection h with h1 h2
            exact e1 (Prod.ext (by unfold DI;simp only;omega) (by unfold DI;simp only;omega))
theorem SG {N:Nat} (hn:CU N ts=true) (hN:N<=4611686018427387904) (hd:∀u,u<3*ts.length->(Bp ts u).1≠(Bp ts u).2) {e:E4} (he:e∈B0 ts):RP ts (3*ts.length) (e.a,e.b) e:=by
  unfold B0 at he
  obtain ⟨p,hp,h1⟩:=List.mem_map.1 ((ED _).mem_iff.1 he)
  obtain ⟨j,hj,h2⟩:=List.getElem_of_mem hp
  have h3:=H2 (x:=p.1) (v:=p.2) (FJ hn hN _ (Nat.le_refl _)).once (show (CQ ts (3*ts.length))[j]?=some (p.1,p.2) by rw [List.getElem?_eq_getElem hj,h2])
  have h4:=(KE hd _ (Nat.le_refl _)).1 _ _ h3
  rw [h1] at h4
  rw [show (e.a,e.b)=p.1 from Prod.ext h4.ea h4.eb]
  exact h4
end
end
section
abbrev T3:=Nat×Nat×Nat
section
variable {ts ts':List T3} {N:Nat}
theorem UG {t:T3} (h:K8 N t=true):t.1≠t.2.1/\t.2.1≠t.2.2/\t.2.2≠t.1:=by
  simp only [K8,Bool.and_eq_true,Bool.not_eq_true',decide_eq_false_iff_not,decide_eq_true_eq] at h
  exact ⟨h.1.1.2,h.1.2,h.2⟩
theorem RR (hn:CU N ts=true) {u:Nat} (hu:u<3*ts.length):(Bp ts u).1≠(Bp ts u).2:=by
  obtain ⟨hab,hbc,hca⟩:=UG (CO hn (show u/3<ts.length by omega))
  have h3:u%3=0\/u%3=1\/u%3=2:=by omega
  unfold Bp
  rcases h3 with h3|h3|h3<;>rw [h3]
  · exact hab
  · exact hbc
  · exact hca
theorem Km (hn:CU N ts=true) {u:Nat} (hu:u<3*ts.length):(Bp ts u).1<N/\(Bp ts u).2<N:=by
  have h:=CO hn (show u/3<ts.length by omega)
  exact ⟨KO h _,KO h _⟩
theorem Hl.uniq {s a b:Nat} {y z:Int} (h:Hl ts s a b y) (k:Hl ts s a b z):y=z:=by
  rcases h with ⟨h1,h2⟩|⟨u,h1,h2,h3,h4⟩<;>rcases k with ⟨k1,k2⟩|⟨v,k1,k2,k3,k4⟩
  · omega
  · exact absurd k3 (h2 v k1)
  · exact absurd h3 (k2 u h1)
  · rcases Nat.lt_trichotomy u v with h|h|h
    · exact absurd h3 (k4 u h)
    · rw [h2,k2,h]
    · exact absurd k3 (h4 v h)
theorem Rt (hn:CU N ts=true) (hN:N<=4611686018427387904) {e:E4}:e∈B0 ts↔RP ts (3*ts.length) (e.a,e.b) e:=by
  have hd:∀u,u<3*ts.length->(Bp ts u).1≠(Bp ts u).2:=λu hu=>RR hn hu
  refine ⟨λh=>SG hn hN hd h,λh=>?_⟩
  obtain ⟨i1,i2⟩:=KE hd _ (Nat.le_refl _)
  cases hg:BF (CQ ts (3*ts.length)) (e.a,e.b) with
  | none =>
    obtain ⟨u,hu,hs⟩:=h.some
    have h3:=i2 _ hg h.lt u hu
    rcases hs with hs|hs
    · exact absurd hs h3.1
    · exact absurd hs h3.2
  | some e' =>
    have h3:=i1 _ _ hg
    have e1:e'=e:=by
      have a1:=h3.ea;have a2:=h3.eb;have a3:=h3.l.uniq h.l;have a4:=h3.r.uniq h.r
      cases e;cases e';simp only at a1 a2 a3 a4;subst a1 a2 a3 a4;rfl
    rw [e1] at hg
    unfold B0
    exact (ED _).mem_iff.2 (List.mem_map.2 ⟨_,Lx hg,rfl⟩)
def Qa (ts:List T3) (j a b:Nat):Prop:=∃r,r<3/\Bp ts (3*j+r)=(a,b)
def Uf (ts:List T3) (n a b:Nat) (z:Int):Prop:=(z = -1/\∀j,j<n->¬Qa ts j a b)\/∃j,j<n/\z=(j:Int)/\Qa ts j a b/\∀i,i<j->¬Qa ts i a b
theorem Sq {n a b:Nat} {z:Int} (h:Hl ts (3*n) a b z):Uf ts n a b z:=by
  rcases h with ⟨h1,h2⟩|⟨u,h1,h2,h3,h4⟩
  · exact .inl ⟨h1,λj hj ⟨r,hr,k⟩=>h2 _ Z k⟩
  · exact .inr ⟨u/3,Z,h2,⟨u%3,Z,by rw [show 3*(u/3)+u%3=u by omega];exact h3⟩,λi hi ⟨r,hr,k⟩=>h4 _ Z k⟩
theorem Qd {n a b:Nat} {z:Int} (h:Uf ts n a b z):Hl ts (3*n) a b z:=by
  rcases h with ⟨h1,h2⟩|⟨j,h1,h2,⟨r,hr,h3⟩,h4⟩
  · exact .inl ⟨h1,λu hu k=>h2 (u/3) Z ⟨u%3,Z,by rw [show 3*(u/3)+u%3=u by omega];exact k⟩⟩
  · have key:∀m,m<=3->(∀q,q<m->Bp ts (3*j+q)≠(a,b))\/∃q,q<m/\Bp ts (3*j+q)=(a,b)/\∀p,p<q->Bp ts (3*j+p)≠(a,b):=by
      intro m
      induction m with
      | zero=>intro _;exact .inl λq hq=>absurd hq (Nat.not_lt_zero _)
      | succ m ih =>
        intro hm
        rcases ih Z with h|⟨q,h5,h6,h7⟩
        · by_cases k:Bp ts (3*j+m)=(a,b)
          · exact .inr ⟨m,Z,k,h⟩
          · refine .inl λq hq=>?_
            rcases Nat.lt_or_ge q m with h8|h8
            · exact h q h8
            · rw [show q=m by omega];exact k
        · exact .inr ⟨q,Z,h6,h7⟩
    rcases key 3 (Nat.le_refl _) with k|⟨q,h5,h6,h7⟩
    · exact absurd h3 (k r hr)
    · refine .inr ⟨3*j+q,Z,by rw [h2];congr 1;omega,h6,λv hv k=>?_⟩
      rcases Nat.lt_or_ge v (3*j) with h8|h8
      · exact h4 (v/3) Z ⟨v%3,Z,by rw [show 3*(v/3)+v%3=v by omega];exact k⟩
      · exact h7 (v-3*j) Z (by rw [show 3*j+(v-3*j)=v by omega];exact k)
structure Iu (ts ts':List T3):Prop where
  len:ts.length=ts'.length
  way:∀j,j<ts.length->∀a b,Qa ts j a b↔Qa ts' j a b
theorem Iu.symm (h:Iu ts ts'):Iu ts' ts:=⟨h.len.symm,λj hj a b=>(h.way j (by rw [h.len];exact hj) a b).symm⟩
theorem Iu.fst (h:Iu ts ts') {a b:Nat} {z:Int} (k:Hl ts (3*ts.length) a b z):Hl ts' (3*ts'.length) a b z:=by
  rw [<-h.len]
  refine Qd ?_
  rcases Sq k with ⟨h1,h2⟩|⟨j,h1,h2,h3,h4⟩
  · exact .inl ⟨h1,λj hj k=>h2 j hj ((h.way j hj a b).2 k)⟩
  · exact .inr ⟨j,h1,h2,(h.way j h1 a b).1 h3,λi hi k=>h4 i hi ((h.way i Z a b).2 k)⟩
theorem Iu.inv (h:Iu ts ts') {e:E4} (k:RP ts (3*ts.length) (e.a,e.b) e):RP ts' (3*ts'.length) (e.a,e.b) e:=by
  obtain ⟨u,hu,hs⟩:=k.some
  refine ⟨k.ea,k.eb,k.lt,h.fst k.l,h.fst k.r,?_⟩
  have key:∀a b,Bp ts u=(a,b)->∃v,v<3*ts'.length/\Bp ts' v=(a,b):=λa b hd=>by
    obtain ⟨r,hr,h3⟩:=(h.way (u/3) Z a b).1 ⟨u%3,Z,by rw [show 3*(u/3)+u%3=u by omega];exact hd⟩
    exact ⟨3*(u/3)+r,by rw [<-h.len];omega,h3⟩
  rcases hs with hs|hs
  · obtain ⟨v,h1,h2⟩:=key _ _ hs;exact ⟨v,h1,.inl h2⟩
  · obtain ⟨v,h1,h2⟩:=key _ _ hs;exact ⟨v,h1,.inr h2⟩
theorem Sc {j r:Nat} (hr:r<3):Bp ts (3*j+r)=(F6 (ts.getD j (0,0,0)) r,F6 (ts.getD j (0,0,0)) ((r+1)%3)):=by
  unfold Bp
  rw [show (3*j+r)/3=j by omega,show (3*j+r)%3=r by omega]
def P8 (ts:List T3) (u:Nat):P2:=DI (Bp ts u).1 (Bp ts u).2
def CT (ts:List T3):Nat->List (P2×Nat)
  | 0=>[]
  | s+1=>Ba (CT ts s) (P8 ts s) ((BF (CT ts s) (P8 ts s)).getD 0+1)
theorem GI (k:P2):∀s,(BF (CT ts s) k).getD 0=((List.range s).map (P8 ts)).count k
  | 0=>rfl
  | s+1=>by
    rw [CT,C_,List.range_succ,List.map_append,List.count_append,List.map_singleton,List.count_singleton]
    by_cases h:k=P8 ts s
    · subst h
      rw [if_pos rfl,Option.getD_some,GI _ s];simp
    · rw [if_neg h,GI k s,if_neg (by simpa using λe=>h e.symm)];rfl
theorem HO {t i:Nat} (hi:i<3):CT ts (3*t+i+1)=Ba (CT ts (3*t+i)) (DI (F6 (ts.getD t (0,0,0)) i) (F6 (ts.getD t (0,0,0)) ((i+1)%3))) ((BF (CT ts (3*t+i)) (DI (F6 (ts.getD t (0,0,0)) i) (F6 (ts.getD t (0,0,0)) ((i+1)%3)))).getD 0+1):=by
  rw [CT]
  unfold P8
  rw [Sc hi]
theorem Ku (s:Nat) (k:P2):(BF (CT ts s) k).getD 0<=s:=by
  rw [GI]
  exact Nat.le_trans List.count_le_length (by simp)
theorem Ed (hn:CU N ts=true) (hN:N<=4611686018427387904):∀s,s<=3*ts.length->JL NP (CT ts s)
  | 0,_=>JL.nil
  | s+1,hs=>by
    obtain ⟨h1,h2⟩:=Km hn (show s<3*ts.length by omega)
    exact (Ed hn hN s Z).put (DJ (Nat.lt_of_lt_of_le h1 hN) (Nat.lt_of_lt_of_le h2 hN))
def Tm (ts:List T3) (k:P2):Nat:=(BF (CT ts (3*ts.length)) k).getD 0
def JJ (ts:List T3) (i:Nat):List T3:=(((B0 ts).take i).filter λe=>decide (Tm ts (e.a,e.b)=1)).map λe=>(e.a,e.b,0)
def JF (ts:List T3):List T3:=JJ ts (B0 ts).length
theorem Pl {i:Nat} (hi:i<(B0 ts).length) (h:Tm ts (((B0 ts).getD i ⟨0,0,0,0⟩).a,((B0 ts).getD i ⟨0,0,0,0⟩).b)=1):JJ ts (i+1)=JJ ts i++[(((B0 ts).getD i ⟨0,0,0,0⟩).a,((B0 ts).getD i ⟨0,0,0,0⟩).b,0)]:=by
  rw [List.getD,List.getElem?_eq_getElem hi] at h ⊢
  unfold JJ
  rw [List.take_add_one,List.getElem?_eq_getElem hi,List.filter_append,List.map_append]
  simp only [Option.toList_some,Option.getD_some] at h ⊢
  rw [List.filter_cons,if_pos (decide_eq_true h)];rfl
theorem Sm {i:Nat} (hi:i<(B0 ts).length) (h:¬Tm ts (((B0 ts).getD i ⟨0,0,0,0⟩).a,((B0 ts).getD i ⟨0,0,0,0⟩).b)=1):JJ ts (i+1)=JJ ts i:=by
  rw [List.getD,List.getElem?_eq_getElem hi] at h
  unfold JJ
  rw [List.take_add_one,List.getElem?_eq_getElem hi,List.filter_append,List.map_append]
  simp only [Option.toList_some,Option.getD_some] at h ⊢
  rw [List.filter_cons,if_neg (by simpa using h)];simp
theorem Pg (i:Nat):(JJ ts i).length<=i:=by
  unfold JJ
  rw [List.length_map]
  exact Nat.le_trans (List.length_filter_le _ _) (List.length_take_le _ _)
end
end
section
abbrev E0:E4:=⟨0,0,0,0⟩
def ST (N:Nat) (es:List E4):Nat->List (P2×Nat)
  | 0=>[]
  | i+1=>Ba (ST N es i) (DI (es.getD i E0).a (es.getD i E0).b) (N+i)
def UF (N:Nat) (ss:List T3):Nat->List (P2×Nat)
  | 0=>[]
  | k+1=>if (ss.getD (ss.length-1-k) (0,0,0)).1<N/\(ss.getD (ss.length-1-k) (0,0,0)).2.1<N then Ba (UF N ss k) (DI (ss.getD (ss.length-1-k) (0,0,0)).1 (ss.getD (ss.length-1-k) (0,0,0)).2.1) (ss.getD (ss.length-1-k) (0,0,0)).2.2 else UF N ss k
def R5 (N:Nat) (ss:List T3) (es:List E4):Nat->List (P2×Nat)
  | 0=>UF N ss ss.length
  | i+1=>Ba (Ba (R5 N ss es i) (DI (es.getD i E0).a (N+i)) ((BF (R5 N ss es i) (DI (es.getD i E0).a (es.getD i E0).b)).getD 0)) (DI (es.getD i E0).b (N+i)) ((BF (R5 N ss es i) (DI (es.getD i E0).a (es.getD i E0).b)).getD 0)
def Vw (N:Nat) (ss:List T3) (es:List E4) (a b:Nat):Nat:=(BF (R5 N ss es es.length) (DI a b)).getD 0
def WJ (ps:List Pt) (e:E4):Pt:=Pu (B9 ps e.a+B9 ps e.b) (1/2)
def Ug (ps:List Pt) (es:List E4):Nat->List Pt
  | 0=>ps
  | i+1=>Ug ps es i++[WJ ps (es.getD i E0)]
def Vy (ps:List Pt) (es:List E4):List Pt:=Ug ps es es.length
def VU (N:Nat) (ss:List T3) (es:List E4) (ts:List T3):List T3:=(JF ts).map λs=>(s.1,s.2.1,Vw N ss es s.1 s.2.1)
section
variable {N M i:Nat} {es:List E4} {ts:List T3} {t:T3} {ss rs:List T3} {ps:List Pt}
theorem FS {α:Type} {l:List α} {d:α} {i:Nat} (h:i<l.length):l.take (i+1)=l.take i++[l.getD i d]:=by
  rw [List.take_add_one,List.getElem?_eq_getElem h,List.getD,List.getElem?_eq_getElem h];rfl
theorem N7 (hn:CU N ts=true) (hN:N<=4611686018427387904) {e:E4} (he:e∈B0 ts):e.a<e.b/\e.b<N:=by
  have h:=(Rt hn hN).1 he
  obtain ⟨u,hu,hs⟩:=h.some
  have h2:=Km hn hu
  have hlt:=h.lt
  simp only at hlt hs
  rcases hs with hs|hs<;>rw [hs] at h2<;>simp only at h2<;>omega
theorem QR (hn:CU N ts=true) (hN:N<=4611686018427387904):∀e∈B0 ts,e.a<N/\e.b<N:=λe he=>by
  have:=N7 hn hN he;omega
end
end
section
theorem Fr (b n:Nat):BO (some ⟨b,0,none⟩) n n:=⟨λe=>(by cases e),λa e=>(by injection e with e;subst e;rfl),Nat.le_refl _⟩
theorem TX {ps:List Pt} {k:Nat} (h:(ps.all λp=>decide (B4 p<=k))=true) (h0:B4 (⟨0,0⟩:Pt)<=k) (i:Nat):B4 (B9 ps i)<=k:=by
  unfold B9
  rcases Nat.lt_or_ge i ps.length with hi|hi
  · rw [List.getD,List.getElem?_eq_getElem hi]
    exact of_decide_eq_true (List.all_eq_true.1 h _ (List.getElem_mem hi))
  · rw [List.getD,List.getElem?_eq_none hi];exact h0
theorem At.mx {w0:BH} {S:Nat->Prop} {ps:List Pt} {ts ss:List T3} {x:MX ps ts ss} (h1:At w0 S x.a) (h2:At w0 S x.b) (h3:At w0 S x.c):At w0 S x:=λy hy b e=>by
  have hy:y∈[x.a.row,x.b.row,x.c.row]:=hy
  simp only [List.mem_cons,List.not_mem_nil,or_false] at hy
  rcases hy with rfl|rfl|rfl
  · exact h1 _ List.mem_cons_self b e
  · exact h2 _ List.mem_cons_self b e
  · exact h3 _ List.mem_cons_self b e
section
variable {P:Program} {ops:Array Oper} {rest:List Oper} {Q:Exit->Act->World->Prop} {n:Nat} {F:List (Nat×Value)} {w0:BH} {S:Nat->Prop} {L:List As} {ps:List Pt} {ts ss:List T3}
theorem KM {w:World} {i b:Nat} {T:TypeId} {cs:List Value} (hw:BN w0 w L) (hi:L[i]?=some (Ae b T cs)) (hex:w0.ex=none):w0.w.heap.size<=b:=by
  rcases (hw.2.1 _ (List.mem_of_getElem? hi) b rfl).1 with h1|h1|h1
  · cases h1
  · exact h1
  · rw [hex] at h1;cases h1
theorem AE.litM {b1 b2 b3 U1 U2 U3:Nat} {cs1 cs2 cs3:List Value} (LL:MX ps ts ss->List As) (i j k:Nat) (hn:i≠j/\i≠k/\j≠k) (h1:L[i]?=some (Ae b1 U1 cs1)) (h2:L[j]?=some (Ae b2 U2 cs2)) (h3:L[k]?=some (Ae b3 U3 cs3)) (hex:w0.ex=none)
    (e:(cs1,cs2,cs3)=(rowsL Ah ps,rowsL An ts,rowsL An ss))
    (hL:((L.set i (Ag (some ⟨b1,0,none⟩) cs1)).set j (Ag (some ⟨b2,0,none⟩) cs2)).set k (Ag (some ⟨b3,0,none⟩) cs3)=LL ⟨⟨some ⟨b1,0,none⟩,ps.length,Fr _ _⟩,⟨some ⟨b2,0,none⟩,ts.length,Fr _ _⟩,⟨some ⟨b3,0,none⟩,ss.length,Fr _ _⟩⟩)
    (next:∀mm:MX ps ts ss,At w0 S mm->AE P ops rest Q n F w0 (LL mm)):AE P ops rest Q n F w0 L:=λa w ha hw=>by
  have n1:=KM hw h1 hex
  have n2:=KM hw h2 hex
  have n3:=KM hw h3 hex
  have w1:=hw.freeze (x:=Ae b1 U1 cs1) (y:=Ag (some ⟨b1,0,none⟩) cs1) h1 rfl (λo hp=>Ey hp) (λe=>by cases e)
  have w2:=w1.freeze (i:=j) (x:=Ae b2 U2 cs2) (y:=Ag (some ⟨b2,0,none⟩) cs2) (by rw [List.getElem?_set_ne hn.1];exact h2) rfl (λo hp=>Ey hp) (λe=>by cases e)
  have w3:=w2.freeze (i:=k) (x:=Ae b3 U3 cs3) (y:=Ag (some ⟨b3,0,none⟩) cs3) (by rw [List.getElem?_set_ne hn.2.2,List.getElem?_set_ne hn.2.1];exact h3) rfl (λo hp=>Ey hp) (λe=>by cases e)
  rw [hL] at w3
  refine next _ (λy hy b eb=>?_) a w ha w3
  have hy:y∈[Ag (some ⟨b1,0,none⟩) (rowsL Ah ps),Ag (some ⟨b2,0,none⟩) (rowsL An ts),Ag (some ⟨b3,0,none⟩) (rowsL An ss)]:=hy
  simp only [List.mem_cons,List.not_mem_nil,or_false] at hy
  rcases hy with rfl|rfl|rfl<;>(injection eb with eb;subst eb;exact .inl (by assumption))
end
theorem VJ {α:Type} [Dy α] {w0:BH} {w:World} {S:Nat->Prop} {L:List As} (hw:BN w0 w L) (is:List Nat) {a:α} (hi:(is.map λi=>L[i]?)=(Dy.rows a).map some) (ha:At w0 S a):Ro (SL w0 S L) w a:=λy hy=>by
  have h1:some y∈(is.map λi=>L[i]?):=by rw [hi];exact List.mem_map.2 ⟨y,hy,rfl⟩
  obtain ⟨i,_,h2⟩:=List.mem_map.1 h1
  have hm:=List.mem_of_getElem? h2
  exact ⟨λb e=>(hw.2.1 y hm b e).2,λb e=>⟨⟨y,hm,Dy.ro a y hy,e⟩,ha y hy b e⟩⟩
end
def Qz (p q:Pt):Prop:=p.x<q.x\/(p.x=q.x/\p.y<q.y)
instance (p q:Pt):Decidable (Qz p q):=by unfold Qz;infer_instance
theorem UN {p q:Pt} (h:Fp p.x q.x≠0):decide (Fp p.x q.x<0)=decide (Qz p q):=by
  have h2:¬p.x=q.x:=λe=>h (NK.2 e)
  refine decide_eq_decide.2 ⟨λk=>.inl (H8.1 k),λk=>?_⟩
  rcases k with k|k
  · exact H8.2 k
  · exact absurd k.1 h2
theorem Ts {p q:Pt} (h:Fp p.x q.x=0):decide (Fp p.y q.y<0)=decide (Qz p q):=by
  have h2:p.x=q.x:=NK.1 h
  refine decide_eq_decide.2 ⟨λk=>.inr ⟨h2,H8.1 k⟩,λk=>?_⟩
  rcases k with k|k
  · rw [h2] at k;exact absurd k (by grind)
  · exact H8.2 k.2
def m7 (m:MQ) (k:Nat):List Nat:=(m.cs.take k).map (·%7)
section
set_option maxRecDepth 100000
theorem J2 (p q:Pt) (hp:B4 p<=1000) (hq:B4 q<=1000) (w:World)  :Calls prog 121 #[(aG (Ah p)),(aG (Ah q))] w (Al w (Value.bool (decide (Qz p q)))):=by
 have y1:=F_ p
 have y2:=F_ q
 have y3:=F5 p
 have y4:=F5 q
 refine Ac (args:=[(aG (Ah p)),(aG (Ah q))]) func121 O O (Ad O) (AF.subF (sL [0,1] O) (q4 (Bi (cs:=Ah p) O λb1=>Bi (cs:=Ah q) O λb2=>AK O ?_)))
 refine q6 (sL [2,3,4] O) (q4 (AH (v:=(pP b1 0)) (AA O underlying63 O sizeOf61 O) O (DU 1 (AJ p.x) Bg O (AH (v:=(pP b2 0)) (AA O underlying63 O sizeOf61 O) O (DU 0 (AJ q.x) Bg O ?_)))))
 refine BS call155 (Nb p.x q.x Z) O (AK O (q3 (sL [2,3,4,5] O) (AO O (AH (CS (c:=(decide ((Fp p.x q.x)≠(0:Int)))) O O O) O (AE.nil ?_)))))
 refine AC.subF (sL [2,3,4,5,12] O) (AC.then_ ?_)
 refine AF.cond O (λhc0=>?_) (λhc0=>?_)
 ·replace hc0:=of_decide_eq_true hc0
  refine q4 (AO O (AH (Af (c:=(decide ((Fp p.x q.x)<(0:Int)))) O O O) O (AK O (AE.nil (AC.subF (sL [2,3,4,5] O) ?_)))))
  exact AC.then_ (AF.ret (AC.then_ret (AN O (Ab (v:=(Value.bool (decide ((Fp p.x q.x)<(0:Int))))) O) (λw hw=>⟨by rw [UN hc0],hw.out⟩))))
 ·replace hc0:=of_decide_eq_false hc0
  refine AF.skip (q2 (AH (v:=(pP b1 5)) (AA O underlying63 O sizeOf61 O) O (DU 1 (AJ p.y) Bg O (AH (v:=(pP b2 5)) (AA O underlying63 O sizeOf61 O) O (DU 0 (AJ q.y) Bg O ?_)))))
  refine BS call155 (Nb p.y q.y Z) O (AH (Af (c:=(decide ((Fp p.y q.y)<(0:Int)))) O O O) O (AK O (AE.nil (AC.subF (sL [2,3,4,5] O) (AC.then_ ?_)))))
  exact AF.ret (AN O (Ab (v:=(Value.bool (decide ((Fp p.y q.y)<(0:Int))))) O) (λw hw=>⟨by rw [Ts (Decidable.not_not.1 hc0)],hw.out⟩))
end
abbrev T2:=P2×P2×P2
section
def crn (t:Nat×Nat×Nat) (r:Nat):Nat:=if r=0 then t.1 else if r=1 then t.2.1 else t.2.2
def Eu (t:Nat×Nat×Nat) (p:Nat):Bool:=t.1 == p||t.2.1 == p||t.2.2 == p
theorem IN.crn {m:MQ} {pl:List P2} {n:Nat×Nat×Nat} {t:Nat} (h:IN m pl n t) {r:Nat} (hr:r<3):Go.Proofs.YtfbomiejpbchdaaGreatDoor.crn n r<pl.length/\pl.getD (Go.Proofs.YtfbomiejpbchdaaGreatDoor.crn n r) (0,0)=Ap m t r:=by
  have:r=0\/r=1\/r=2:=by omega
  rcases this with rfl|rfl|rfl
  · exact h.a
  · exact h.b
  · exact h.c
section
variable {ps:List Pt} {ts:List (Nat×Nat×Nat)}
structure WC (ps:List Pt) (ts:List (Nat×Nat×Nat)) (m:MQ) (pl:List P2):Prop where
  inv:KG m (BL m).length pl ts
  dst:TP pl
  pl_len:ps.length=pl.length
  at_:∀i,i<pl.length->ps.getD i ⟨0,0⟩=D8 (PG (mapM m) (DZ m) (pl.getD i (0,0)))
theorem WC.cell {m:MQ} {pl:List P2} (l:WC ps ts m pl) {t:Nat} (ht:t<ts.length):(BL m).getD t ((0,0),(0,0),(0,0))∈BL m:=by
  have h:=l.inv.tl
  rw [List.getD,List.getElem?_eq_getElem Z];exact List.getElem_mem _
end
end
end Go.Proofs.YtfbomiejpbchdaaGreatDoor
