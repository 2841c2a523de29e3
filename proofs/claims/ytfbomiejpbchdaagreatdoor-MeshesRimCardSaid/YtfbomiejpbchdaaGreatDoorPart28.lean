import Derived.Test.YtfbomiejpbchdaaGreatDoorPart00
import Derived.Test.YtfbomiejpbchdaaGreatDoorPart21
import Derived.Test.YtfbomiejpbchdaaGreatDoorPart22
import Derived.Test.YtfbomiejpbchdaaGreatDoorPart23
import Derived.Test.YtfbomiejpbchdaaGreatDoorPart27
namespace Go.Proofs.YtfbomiejpbchdaaGreatDoor
open Go Go.RowKit Go.Proofs.Tryz
set_option linter.unusedVariables false
set_option linter.unusedSimpArgs false
section
instance:Inhabited E4:=⟨⟨0,0,0,0⟩⟩
theorem JX (a b:Nat):(a<b/\Df a b = -1)\/(b<a/\Df a b=1)\/(a=b/\Df a b=0):=by
  rcases Nat.lt_trichotomy a b with h|h|h
  · exact .inl ⟨h,Nm h⟩
  · exact .inr (.inr ⟨h,OA Z Z⟩)
  · exact .inr (.inl ⟨h,OE Z h⟩)
theorem TZ {p q:Int}:Qb p q<0↔p<0\/(p=0/\q<0):=by
  unfold Qb
  split
  · omega
  · split<;>omega
theorem Ds {x y:E4}:MV x y<0↔x.a<y.a\/(x.a=y.a/\x.b<y.b):=by
  unfold MV
  rw [TZ]
  rcases JX x.a y.a with ⟨h1,e1⟩|⟨h1,e1⟩|⟨h1,e1⟩<;>rcases JX x.b y.b with ⟨h2,e2⟩|⟨h2,e2⟩|⟨h2,e2⟩<;>rw [e1,e2]<;>omega
def OU (x y:E4):Prop:=¬MV y x<0
theorem IU {x y:E4}:OU x y↔x.a<y.a\/(x.a=y.a/\x.b<=y.b):=by unfold OU;rw [Ds];omega
theorem WI:Go.Sort.SWO (ltOf MV) where
  irrefl x:=decide_eq_false (by rw [Ds];omega)
  trans x y z h1 h2:=by
    have h1:=Ds.1 (of_decide_eq_true h1)
    have h2:=Ds.1 (of_decide_eq_true h2)
    exact decide_eq_true (Ds.2 Z)
  ntrans x y z h1 h2:=by
    have h1:=of_decide_eq_false h1
    have h2:=of_decide_eq_false h2
    rw [Ds] at h1 h2
    exact decide_eq_false (by rw [Ds];omega)
theorem VE (Ae off size:Nat) (w:World):CmpLays prog 92 #[] B9 4 MV Ae off size w:=λm os dk _ x y=>by
  rw [Array.append_empty]
  exact (TD x y _).mono λe w' h=>⟨h.1,N7 h.2⟩
theorem Jr {d:Array E4} {t:Nat} (h:t<d.size*4):(rowsL B9 d.toList)[t]?=some (Go.Sort.flatK B9 4 d)[t]!:=by
  rw [Go.Sort.get_flatK _ _ _ _ h]
  have h1:t/4<d.size:=by omega
  have h2:=BP BT (⟨0,0,0,0⟩:E4) d.toList (t/4) (t%4) (by simpa using h1) (Nat.mod_lt _ (by decide)) (v:=(B9 d[t/4]!)[t%4]!) (by
    rw [List.getD,show d.toList[t/4]?=some d[t/4] from by simp [h1],getElem!_pos d (t/4) h1]
    have hl:t%4<(B9 d[t/4]).length:=by rw [BT];exact Nat.mod_lt _ (by decide)
    show (B9 d[t/4])[t%4]?=some (B9 d[t/4])[t%4]!
    rw [List.getElem?_eq_getElem hl,getElem!_pos (B9 d[t/4]) (t%4) hl])
  rw [show t/4*4+t%4=t by omega] at h2
  exact h2
def PF (x:E4):List E4->List E4
  | []=>[x]
  | y::r=>if MV x y<0 then x::y::r else y::PF x r
def O2:List E4->List E4
  | []=>[]
  | x::r=>PF x (O2 r)
theorem Hd (x:E4):∀l,(PF x l).Perm (x::l)
  | []=>List.Perm.refl _
  | y::r=>by
    unfold PF
    split
    · exact List.Perm.refl _
    · exact (List.Perm.cons y (Hd x r)).trans (List.Perm.swap x y r)
theorem DI:∀l,(O2 l).Perm l
  | []=>List.Perm.refl _
  | x::r=>(Hd x (O2 r)).trans (List.Perm.cons x (DI r))
theorem Hl (x:E4):∀l,l.Pairwise OU->(PF x l).Pairwise OU
  | [],_=>List.pairwise_singleton _ _
  | y::r,h=>by
    obtain ⟨h1,h2⟩:=List.pairwise_cons.1 h
    unfold PF
    split
    · rename_i k
      have hxy:OU x y:=by rw [IU];have:=Ds.1 k;omega
      refine List.pairwise_cons.2 ⟨λz hz=>?_,h⟩
      rcases List.mem_cons.1 hz with rfl|hz
      · exact hxy
      · have h3:=h1 z hz;rw [IU] at *;omega
    · rename_i k
      refine List.pairwise_cons.2 ⟨λz hz=>?_,Hl x r h2⟩
      rcases List.mem_cons.1 ((Hd x r).mem_iff.1 hz) with rfl|hz
      · exact k
      · exact h1 z hz
theorem Ff:∀l,(O2 l).Pairwise OU
  | []=>List.Pairwise.nil
  | x::r=>Hl x _ (Ff r)
def Jp (l:List E4):Prop:=l.Pairwise (λx y=>¬(x.a=y.a/\x.b=y.b))
theorem OF:∀{l:List E4},Jp l->∀x∈l,∀y∈l,x.a=y.a->x.b=y.b->x=y
  | z::r,h,x,hx,y,hy,e,e'=>by
    obtain ⟨h1,h2⟩:=List.pairwise_cons.1 h
    rcases List.mem_cons.1 hx with ex|hx'<;>rcases List.mem_cons.1 hy with ey|hy'
    · rw [ex,ey]
    · rw [ex] at e e';exact absurd ⟨e,e'⟩ (h1 y hy')
    · rw [ey] at e e';exact absurd ⟨e.symm,e'.symm⟩ (h1 x hx')
    · exact OF h2 x hx' y hy' e e'
theorem OP {l l':List E4} (hp:l'.Perm l) (hs:l'.Pairwise OU) (hn:Jp l):l'=O2 l:=by
  refine List.Perm.eq_of_pairwise (le:=OU) (λx y hx hy h1 h2=>?_) hs (Ff l) (hp.trans (DI l).symm)
  rw [IU] at h1 h2
  exact OF hn x (hp.mem_iff.1 hx) y ((DI l).mem_iff.1 hy) Z Z
theorem RV (xs:List E4) (p:Option Addr) (n c:Nat) (T:TypeId) (ho:OwnOk p n c) (hp0:p≠none) (hn:n=xs.length) (hN:n<4611686018427387904) (w:World) (hrow:∀b,p.map (·.block)=some b->∃o,w.heap[b]?=some o/\(rowW p T 4 n c (rowsL B9 xs)).P o) :
    Calls prog 91 #[.slice p n c,.func (.func 92) #[] #[]] w λe w'=>e=.returned (.tuple #[])/\J2 w w' (p.map (·.block))/\∃ys:List E4,ys.Perm xs/\ys.Pairwise OU/\∀b,p.map (·.block)=some b->∃o,w'.heap[b]?=some o/\(rowW p T 4 n c (rowsL B9 ys)).P o:=by
  cases hp:p with
  | none=>exact absurd hp hp0
  | some a =>
    subst hp
    obtain ⟨o,hob,cur,rfl,hsz,hcur⟩:=hrow a.block rfl
    have hat:=ho.at0 a rfl
    have hle:=ho.le
    obtain ⟨d,hd⟩:∃d,d=xs.toArray:=⟨_,rfl⟩
    have hdz:d.size=n:=by rw [hd,hn];simp
    have hdx:d.toList=xs:=by rw [hd]
    have hH:Go.Sort.HoldsK B9 4 w a.block 0 d:=λj hj=>by
      have hj':j<d.size*4:=by simpa using hj
      refine ⟨?_,by simp [World.frozen?,hob]⟩
      have h1:(cur.toList.take (n*4))[j]?=(rowsL B9 xs)[j]?:=by rw [hcur]
      rw [List.getElem?_take_of_lt Z,Array.getElem?_toList,<-hdx,Jr hj'] at h1
      show w.cell? ⟨a.block,0+j,none⟩=some (id (Go.Sort.flatK B9 4 d)[j]!)
      unfold World.cell?
      simp only [hob,Nat.zero_add]
      exact h1
    have hlt:a.block<w.heap.size:=by
      rcases Nat.lt_or_ge a.block w.heap.size with h|h
      · exact h
      · rw [Array.getElem?_eq_none h] at hob;cases hob
    have h:=Tryz.slices_SortFunc_Edge 4 isAgg65 sizeOf65 B9 BT (λx v hv=>by
      unfold B9 at hv
      simp only [List.mem_cons,List.not_mem_nil,or_false] at hv
      rcases hv with rfl|rfl|rfl|rfl<;>rfl) MV WI 92 #[] a.block 0 c d w call92 (VE a.block 0 d.size w) hH hlt Z
    rw [hdz] at h
    rw [hat]
    refine h.mono ?_
    rintro e w' ⟨rfl,d',m,os,⟨hz',_,hperm⟩,hsort,rfl⟩
    have hz2:d'.size=n:=by rw [hz',hdz]
    have hperm':d'.toList.Perm d.toList:=by
      have e1:d'.extract 0 n=d':=by rw [<-hz2];exact Array.extract_size
      have e2:d.extract 0 n=d:=by rw [<-hdz];exact Array.extract_size
      rw [e1,e2] at hperm
      exact hperm
    have hF:(Go.Sort.flatK B9 4 d').size=n*4:=by rw [Go.Sort.size_flatK,hz2]
    refine ⟨rfl,⟨⟨rfl,rfl,rfl,by simp [sortWorldK,Go.Sort.grow,Go.Sort.putRowK,Go.Sort.putRow,Go.Sort.mapBlock,Go.Sort.ahead],λj hj hne=>?_⟩,by show w.drawn<=w.drawn+m;omega⟩,d'.toList,by rw [<-hdx];exact hperm',List.pairwise_iff_getElem.2 λi j hi hj hij=>?_,λb e=>?_⟩
    · have hne':a.block≠j:=λe=>hne (by rw [e];rfl)
      unfold sortWorldK
      rw [Go.Sort.heap_grow_old _ _ (by simpa [Go.Sort.putRowK,Go.Sort.putRow,Go.Sort.mapBlock,Go.Sort.ahead] using hj)]
      simp [Go.Sort.putRowK,Go.Sort.putRow,Go.Sort.mapBlock,Go.Sort.ahead,Array.getElem?_modify,hne']
    · have hi':i<d'.size:=by simpa using hi
      have hj':j<d'.size:=by simpa using hj
      have h9:=of_decide_eq_false (hsort i j (Nat.zero_le _) hij Z)
      rw [getElem!_pos d' j hj',getElem!_pos d' i hi'] at h9
      simpa [OU] using h9
    · injection e with e
      subst e
      refine ⟨.cells (Go.Sort.putCells id 0 (Go.Sort.flatK B9 4 d') cur) T (0,0),?_,_,rfl,by simp [Go.Sort.putCells,hsz],?_⟩
      · unfold sortWorldK
        rw [Go.Sort.heap_grow_old _ _ (by simpa [Go.Sort.putRowK,Go.Sort.putRow,Go.Sort.mapBlock,Go.Sort.ahead] using hlt)]
        simp [Go.Sort.putRowK,Go.Sort.putRow,Go.Sort.mapBlock,Go.Sort.ahead,Array.getElem?_modify,hob,Go.Sort.onCells]
      · apply List.ext_getElem?
        intro j
        have hlen:(rowsL B9 d'.toList).length=n*4:=by rw [An BT,Array.length_toList,hz2]
        by_cases hj:j<n*4
        · have hcs:n*4<=c*4:=Nat.mul_le_mul_right _ hle
          rw [List.getElem?_take_of_lt hj,Array.getElem?_toList,Jr (by rw [hz2];exact hj)]
          unfold Go.Sort.putCells
          rw [Array.getElem?_mapIdx,Array.getElem?_eq_getElem Z,Option.map_some,if_pos ⟨Nat.zero_le _,Z⟩]
          rfl
        · rw [List.getElem?_take_eq_none Z,List.getElem?_eq_none Z]
def RT (kvs:List (P2×E4)) (q:Nat):E4:=(kvs.getD q ((0,0),⟨0,0,0,0⟩)).2
theorem TQ {kvs:List (P2×E4)} {q:Nat} {k:P2} {v:E4} (h:kvs[q]?=some (k,v)):RT kvs q=v:=by rw [RT,List.getD,h];rfl
theorem I0:∀{n:Nat} {l:List Nat},l.Nodup->(∀x∈l,x<n)->l.length<=n
  | 0,[],_,_=>Nat.le_refl _
  | 0,x::r,_,h=>absurd (h x List.mem_cons_self) (Nat.not_lt_zero _)
  | n+1,l,h1,h2=>by
    have h3:(l.erase n).length<=n:=I0 (h1.erase n) λx hx=>by
      have h4:=h2 x (List.mem_of_mem_erase hx)
      have h5:x≠n:=λe=>by
        rw [e] at hx
        exact h1.not_mem_erase hx
      omega
    rw [List.length_erase] at h3
    split at h3<;>omega
theorem Qc {kvs:List (P2×E4)} {seen:List Nat} (h1:seen.Nodup) (h2:∀x∈seen,x<kvs.length) (h3:∀q,q<kvs.length->q∈seen):(seen.map (RT kvs)).Perm (kvs.map (·.2)):=by
  have hp:seen.Perm (List.range kvs.length):=(List.perm_ext_iff_of_nodup h1 List.nodup_range).2 λq=>⟨λh=>List.mem_range.2 (h2 q h),λh=>h3 q (List.mem_range.1 h)⟩
  refine (hp.map _).trans (List.Perm.of_eq ?_)
  apply List.ext_getElem?
  intro q
  rw [List.getElem?_map,List.getElem?_map]
  rcases Nat.lt_or_ge q kvs.length with h|h
  · rw [List.getElem?_range h,List.getElem?_eq_getElem h]
    simp [RT,List.getD,h]
  · rw [List.getElem?_eq_none (by simpa using h),List.getElem?_eq_none h];rfl
def Mo (kvs:List (P2×E4)):Prop:=∀p∈kvs,p.2.a=p.1.1/\p.2.b=p.1.2
theorem KR (e:E4) (t a b:Nat):(Ej e t a b).a=e.a/\(Ej e t a b).b=e.b:=by
  unfold Ej
  split
  · exact ⟨rfl,rfl⟩
  · split<;>exact ⟨rfl,rfl⟩
theorem Iu {kvs:List (P2×E4)} {x:P2} {v:E4} (h:BG kvs x=some v):(x,v)∈kvs:=by
  induction kvs with
  | nil=>cases h
  | cons p r ih =>
    obtain ⟨k,u⟩:=p
    unfold BG at h
    split at h
    · rename_i e
      injection h with h
      rw [e,h];exact List.mem_cons_self
    · exact List.mem_cons_of_mem _ (ih h)
theorem O7 {kvs:List (P2×E4)} (h:Mo kvs) (x:P2):((BG kvs x).getD (HX x)).a=x.1/\((BG kvs x).getD (HX x)).b=x.2:=by
  cases hg:BG kvs x with
  | none=>exact ⟨rfl,rfl⟩
  | some v=>exact h _ (Iu hg)
theorem O4 {kvs:List (P2×E4)} {x:P2} {y:E4} {p:P2×E4} (h:p∈Be kvs x y):p=(x,y)\/p∈kvs:=by
  induction kvs with
  | nil=>exact .inl (List.mem_singleton.1 h)
  | cons q r ih =>
    obtain ⟨k,u⟩:=q
    unfold Be at h
    split at h
    · rename_i e
      rcases List.mem_cons.1 h with h|h
      · exact .inl (by rw [h,e])
      · exact .inr (List.mem_cons_of_mem _ h)
    · rcases List.mem_cons.1 h with h|h
      · exact .inr (by rw [h];exact List.mem_cons_self)
      · exact (ih h).imp_right (List.mem_cons_of_mem _)
theorem Iz (ts:List (Nat×Nat×Nat)):∀s,Mo (CS ts s)
  | 0=>λp h=>by cases h
  | s+1=>λp h=>by
    have h0:=Iz ts s
    rcases O4 h with rfl|h
    · have h1:=O7 h0 (Cc (Fj (ts.getD (s/3) (0,0,0)) (s%3)) (Fj (ts.getD (s/3) (0,0,0)) ((s%3+1)%3)))
      have h2:=KR ((BG (CS ts s) (Cc (Fj (ts.getD (s/3) (0,0,0)) (s%3)) (Fj (ts.getD (s/3) (0,0,0)) ((s%3+1)%3)))).getD (HX (Cc (Fj (ts.getD (s/3) (0,0,0)) (s%3)) (Fj (ts.getD (s/3) (0,0,0)) ((s%3+1)%3))))) (s/3) (Fj (ts.getD (s/3) (0,0,0)) (s%3)) (Fj (ts.getD (s/3) (0,0,0)) ((s%3+1)%3))
      exact ⟨h2.1.trans h1.1,h2.2.trans h1.2⟩
    · exact h0 p h
theorem J6 {kvs:List (P2×E4)} {ok:P2->Prop} (h:Jm ok kvs) (he:Mo kvs):Jp (kvs.map (·.2)):=by
  unfold Jp
  rw [List.pairwise_map]
  refine List.Pairwise.imp_of_mem (λ{p q} hp hq hne=>?_) h.once
  rintro ⟨e1,e2⟩
  have h1:=he p hp
  have h2:=he q hq
  exact hne (Prod.ext (by rw [<-h1.1,<-h2.1,e1]) (by rw [<-h1.2,<-h2.2,e2]))
def BC (ts:List (Nat×Nat×Nat)):List E4:=O2 ((CS ts (3*ts.length)).map (·.2))
theorem UB {ts:List (Nat×Nat×Nat)} {N:Nat} {xs ys:List E4} (hn:By N ts=true) (hN:N<=4611686018427387904) (h1:ys.Perm xs) (h2:ys.Pairwise OU) (h3:xs.Perm ((CS ts (3*ts.length)).map (·.2))):ys=BC ts :=
  OP (h1.trans h3) h2 (J6 (Ei hn hN _ (Nat.le_refl _)) (Iz ts _))
theorem IK (ts:List (Nat×Nat×Nat)):(BC ts).length=(CS ts (3*ts.length)).length:=by rw [BC,(DI _).length_eq,List.length_map]
section
variable {P:Program} {ops:Array Oper} {rest:List Oper} {Q:Exit->Act->World->Prop} {n:Nat} {F:List (Nat×Value)} {w0:BL} {L:List As}
theorem AE.callS {o:Oper} {f:FuncId} {args:Array Value} {v:Value} (i:Nat) {q:Option Addr} {T:TypeId} {m c:Nat} {xs ys:List E4} (hw:Wt ops n F o)
    (he:∀a w,CO n a F->BN w0 w L->(execOp a.eval o).run P w=.ok (.enter f args) w) (hi:L[i]?=some (rowW q T 4 m c (rowsL B9 xs)))
    (hc:∀w,BN w0 w L->Calls P f args w λe w'=>e=.returned v/\J2 w w' (q.map (·.block))/\∃zs:List E4,zs.Perm xs/\zs.Pairwise OU/\∀b,q.map (·.block)=some b->∃o,w'.heap[b]?=some o/\(rowW q T 4 m c (rowsL B9 zs)).P o)
    (hu:∀zs:List E4,zs.Perm xs->zs.Pairwise OU->zs=ys)
    (hd:∀d,o.dst=some d->d<n) (next:AE P ops rest Q n (match o.dst with|some d=>(d,v)::F|none=>F) w0 (L.set i (rowW q T 4 m c (rowsL B9 ys)))):AE P ops (o::rest) Q n F w0 L :=
  AE.callW i hw he hi (λw hW=>(hc w hW).mono λe w' ⟨h1,h2,zs,h3,h4,h5⟩=>⟨h1,h2,by rw [<-hu zs h3 h4];exact h5⟩) hd next
end
theorem IX {kvs:List (P2×E4)} {k:P2} (h:(BG kvs k).isSome=false):HX k=(BG kvs k).getD (HX k):=by
  cases hg:BG kvs k with
  | none=>rfl
  | some v=>rw [hg] at h;cases h
theorem Io {kvs:List (P2×E4)} {k:P2} {z:E4} (h:(BG kvs k).isSome=true):(BG kvs k).getD z=(BG kvs k).getD (HX k):=by
  cases hg:BG kvs k with
  | none=>rw [hg] at h;cases h
  | some v=>rfl
end
section
section
variable {α β:Type} [DecidableEq α]
theorem C_ {kvs:List (α×β)} {x z:α} {y:β}:BG (Be kvs x y) z=if z=x then some y else BG kvs z:=by
  induction kvs with
  | nil=>rfl
  | cons p r ih =>
    obtain ⟨k,v⟩:=p
    unfold Be
    split
    · rename_i e
      subst e
      unfold BG
      split<;>rfl
    · rename_i e
      rw [BG,ih]
      by_cases h:z=k
      · rw [if_pos h,if_neg (λe2=>e (e2.symm.trans h)),BG,if_pos h]
      · rw [if_neg h]
        split
        · rfl
        · rw [BG,if_neg h]
end
section
variable {ts:List (Nat×Nat×Nat)}
def BS (ts:List (Nat×Nat×Nat)) (u:Nat):P2:=(Fj (ts.getD (u/3) (0,0,0)) (u%3),Fj (ts.getD (u/3) (0,0,0)) ((u%3+1)%3))
def F4 (ts:List (Nat×Nat×Nat)) (s a b:Nat) (z:Int):Prop:=(z = -1/\∀u,u<s->BS ts u≠(a,b))\/∃u,u<s/\z=((u/3:Nat):Int)/\BS ts u=(a,b)/\∀v,v<u->BS ts v≠(a,b)
theorem F4.none {s a b:Nat} (h:∀u,u<s->BS ts u≠(a,b)):F4 ts s a b (-1):=.inl ⟨rfl,h⟩
theorem F4.skip {s a b:Nat} {z:Int} (h:F4 ts s a b z) (hn:BS ts s≠(a,b)):F4 ts (s+1) a b z:=by
  rcases h with ⟨h1,h2⟩|⟨u,h1,h2,h3,h4⟩
  · refine .inl ⟨h1,λu hu=>?_⟩
    rcases Nat.lt_or_ge u s with h|h
    · exact h2 u h
    · rw [show u=s by omega];exact hn
  · exact .inr ⟨u,Z,h2,h3,h4⟩
theorem F4.take {s a b:Nat} (h:F4 ts s a b (-1)) (hn:BS ts s=(a,b)):F4 ts (s+1) a b ((s/3:Nat):Int):=by
  rcases h with ⟨h1,h2⟩|⟨u,h1,h2,h3,h4⟩
  · exact .inr ⟨s,Z,rfl,hn,h2⟩
  · omega
theorem F4.keep {s a b:Nat} {z:Int} (h:F4 ts s a b z) (hz:z ≠ -1):F4 ts (s+1) a b z:=by
  rcases h with ⟨h1,h2⟩|⟨u,h1,h2,h3,h4⟩
  · exact absurd h1 hz
  · exact .inr ⟨u,Z,h2,h3,h4⟩
structure RW (ts:List (Nat×Nat×Nat)) (s:Nat) (k:P2) (e:E4):Prop where
  ea:e.a=k.1
  eb:e.b=k.2
  lt:k.1<k.2
  l:F4 ts s k.1 k.2 e.l
  r:F4 ts s k.2 k.1 e.r
  some:∃u,u<s/\(BS ts u=(k.1,k.2)\/BS ts u=(k.2,k.1))
theorem IS (hd:∀u,u<3*ts.length->(BS ts u).1≠(BS ts u).2):∀s,s<=3*ts.length->(∀k e,BG (CS ts s) k=some e->RW ts s k e)/\(∀k,BG (CS ts s) k=none->k.1<k.2->∀u,u<s->BS ts u≠(k.1,k.2)/\BS ts u≠(k.2,k.1))
  | 0,_=>⟨λk e h=>(by cases h),λk _ _ u hu=>absurd hu (Nat.not_lt_zero _)⟩
  | s+1,hs=>by
    obtain ⟨i1,i2⟩:=IS hd s Z
    have hne:=hd s Z
    obtain ⟨a,ha⟩:∃a,a=Fj (ts.getD (s/3) (0,0,0)) (s%3):=⟨_,rfl⟩
    obtain ⟨b,hb⟩:∃b,b=Fj (ts.getD (s/3) (0,0,0)) ((s%3+1)%3):=⟨_,rfl⟩
    have hdir:BS ts s=(a,b):=by rw [ha,hb];rfl
    rw [hdir] at hne
    have hE:CS ts (s+1)=PC (CS ts s) (s/3) a b:=by rw [ha,hb];rfl
    rw [hE]
    unfold PC
    have hky:(Cc a b).1<(Cc a b).2:=by unfold Cc;simp only at hne ⊢;omega
    -- what the old edge,or the new one,knows
    have h0:∀e0,e0=(BG (CS ts s) (Cc a b)).getD (HX (Cc a b))->e0.a=(Cc a b).1/\e0.b=(Cc a b).2/\F4 ts s (Cc a b).1 (Cc a b).2 e0.l/\F4 ts s (Cc a b).2 (Cc a b).1 e0.r:=by
      intro e0 he0
      cases hg:BG (CS ts s) (Cc a b) with
      | none =>
        rw [hg] at he0
        have h2:=i2 _ hg hky
        subst he0
        exact ⟨rfl,rfl,F4.none λu hu=>(h2 u hu).1,F4.none λu hu=>(h2 u hu).2⟩
      | some e =>
        rw [hg] at he0
        have h2:=i1 _ _ hg
        subst he0
        exact ⟨h2.ea,h2.eb,h2.l,h2.r⟩
    constructor
    · intro k e hk
      rw [C_] at hk
      split at hk
      · rename_i e1
        injection hk with hk
        obtain ⟨c1,c2,c3,c4⟩:=h0 _ rfl
        obtain ⟨e0,he0⟩:∃e0,e0=(BG (CS ts s) (Cc a b)).getD (HX (Cc a b)):=⟨_,rfl⟩
        rw [<-he0] at hk c1 c2 c3 c4
        subst hk
        have hends:=KR e0 (s/3) a b
        rw [e1]
        rcases Nat.lt_or_ge a b with hab|hab
        · have k1:(Cc a b).1=a:=by unfold Cc;simp only;omega
          have k2:(Cc a b).2=b:=by unfold Cc;simp only;omega
          rw [k1,k2] at c3 c4
          refine ⟨hends.1.trans c1,hends.2.trans c2,hky,?_,?_,s,Z,.inl (by rw [k1,k2];exact hdir)⟩<;>rw [k1,k2]
          · unfold Ej
            by_cases hl:e0.l = -1
            · rw [if_pos ⟨hab,hl⟩]
              rw [hl] at c3
              exact c3.take hdir
            · rw [if_neg (λh=>hl h.2),if_neg (λh=>by omega)]
              exact c3.keep hl
          · have hn2:BS ts s≠(b,a):=by rw [hdir];intro h;injection h with h _;omega
            unfold Ej
            split
            · exact c4.skip hn2
            · rw [if_neg (λh=>by omega)]
              exact c4.skip hn2
        · have hba:b<a:=by simp only at hne;omega
          have k1:(Cc a b).1=b:=by unfold Cc;simp only;omega
          have k2:(Cc a b).2=a:=by unfold Cc;simp only;omega
          rw [k1,k2] at c3 c4
          have hn2:BS ts s≠(b,a):=by rw [hdir];intro h;injection h with h _;omega
          refine ⟨hends.1.trans c1,hends.2.trans c2,hky,?_,?_,s,Z,.inr (by rw [k1,k2];exact hdir)⟩<;>rw [k1,k2]
          · unfold Ej
            rw [if_neg (λh=>by omega)]
            split
            · exact c3.skip hn2
            · exact c3.skip hn2
          · unfold Ej
            rw [if_neg (λh=>by omega)]
            by_cases hl:e0.r = -1
            · rw [if_pos ⟨hba,hl⟩]
              rw [hl] at c4
              exact c4.take hdir
            · rw [if_neg (λh=>hl h.2)]
              exact c4.keep hl
      · rename_i e1
        obtain ⟨a1,a2,a3,a4,a5,u,a6,a7⟩:=i1 k e hk
        have n1:BS ts s≠(k.1,k.2):=by
          rw [hdir];intro h;injection h with h1 h2
          exact e1 (Prod.ext (by unfold Cc;simp only;omega) (by unfold Cc;simp only;omega))
        have n2:BS ts s≠(k.2,k.1):=by
          rw [hdir];intro h;injection h with h1 h2
          exact e1 (Prod.ext (by unfold Cc;simp only;omega) (by unfold Cc;simp only;omega))
        exact ⟨a1,a2,a3,a4.skip n1,a5.skip n2,u,Z,a7⟩
    · intro k hk hlt u hu
      rw [C_] at hk
      split at hk
      · cases hk
      · rename_i e1
        rcases Nat.lt_or_ge u s with h|h
        · exact i2 k hk hlt u h
        · rw [show u=s by omega,hdir]
          constructor
          · intro h;injection h with h1 h2
            exact e1 (Prod.ext (by unfold Cc;simp only;omega) (by unfold Cc;simp only;omega))
          · intro h;injection h with h1 h2
            exact e1 (Prod.ext (by unfold Cc;simp only;omega) (by unfold Cc;simp only;omega))
theorem R9 {N:Nat} (hn:By N ts=true) (hN:N<=4611686018427387904) (hd:∀u,u<3*ts.length->(BS ts u).1≠(BS ts u).2) {e:E4} (he:e∈BC ts):RW ts (3*ts.length) (e.a,e.b) e:=by
  unfold BC at he
  obtain ⟨p,hp,h1⟩:=List.mem_map.1 ((DI _).mem_iff.1 he)
  obtain ⟨j,hj,h2⟩:=List.getElem_of_mem hp
  have h3:=IB (x:=p.1) (v:=p.2) (Ei hn hN _ (Nat.le_refl _)).once (show (CS ts (3*ts.length))[j]?=some (p.1,p.2) by rw [List.getElem?_eq_getElem hj,h2])
  have h4:=(IS hd _ (Nat.le_refl _)).1 _ _ h3
  rw [h1] at h4
  rw [show (e.a,e.b)=p.1 from Prod.ext h4.ea h4.eb]
  exact h4
end
end
section
theorem Mc {α:Type} {R:α->α->Prop} (ha:∀x y,R x y->¬R y x) {l l':List α} (h:l.Pairwise R) (h':l'.Pairwise R) (hm:∀x,x∈l↔x∈l'):l=l':=by
  have nd:∀{l:List α},l.Pairwise R->l.Nodup:=λ{l} h=>h.imp λ{x y} hxy e=>by subst e;exact ha _ _ hxy hxy
  exact List.Perm.eq_of_pairwise (le:=R) (λx y _ _ h1 h2=>absurd h2 (ha x y h1)) h h' ((List.perm_ext_iff_of_nodup (nd h) (nd h')).2 hm)
abbrev T3:=Nat×Nat×Nat
section
variable {ts ts':List T3} {N:Nat}
theorem K6 {t:T3} (h:L9 N t=true):t.1≠t.2.1/\t.2.1≠t.2.2/\t.2.2≠t.1:=by
  simp only [L9,Bool.and_eq_true,Bool.not_eq_true',decide_eq_false_iff_not,decide_eq_true_eq] at h
  exact ⟨h.1.1.2,h.1.2,h.2⟩
theorem G7 (hn:By N ts=true) {u:Nat} (hu:u<3*ts.length):(BS ts u).1≠(BS ts u).2:=by
  obtain ⟨hab,hbc,hca⟩:=K6 (Cb hn (show u/3<ts.length by omega))
  have h3:u%3=0\/u%3=1\/u%3=2:=by omega
  unfold BS
  rcases h3 with h3|h3|h3<;>rw [h3]
  · exact hab
  · exact hbc
  · exact hca
theorem Kr (hn:By N ts=true) {u:Nat} (hu:u<3*ts.length):(BS ts u).1<N/\(BS ts u).2<N:=by
  have h:=Cb hn (show u/3<ts.length by omega)
  exact ⟨Ku h _,Ku h _⟩
theorem F4.uniq {s a b:Nat} {y z:Int} (h:F4 ts s a b y) (k:F4 ts s a b z):y=z:=by
  rcases h with ⟨h1,h2⟩|⟨u,h1,h2,h3,h4⟩<;>rcases k with ⟨k1,k2⟩|⟨v,k1,k2,k3,k4⟩
  · omega
  · exact absurd k3 (h2 v k1)
  · exact absurd h3 (k2 u h1)
  · rcases Nat.lt_trichotomy u v with h|h|h
    · exact absurd h3 (k4 u h)
    · rw [h2,k2,h]
    · exact absurd k3 (h4 v h)
theorem D4 (hn:By N ts=true) (hN:N<=4611686018427387904) {e:E4}:e∈BC ts↔RW ts (3*ts.length) (e.a,e.b) e:=by
  have hd:∀u,u<3*ts.length->(BS ts u).1≠(BS ts u).2:=λu hu=>G7 hn hu
  refine ⟨λh=>R9 hn hN hd h,λh=>?_⟩
  obtain ⟨i1,i2⟩:=IS hd _ (Nat.le_refl _)
  cases hg:BG (CS ts (3*ts.length)) (e.a,e.b) with
  | none =>
    obtain ⟨u,hu,hs⟩:=h.some
    have h3:=i2 _ hg h.lt u hu
    rcases hs with hs|hs
    · exact absurd hs h3.1
    · exact absurd hs h3.2
  | some e' =>
    have h3:=i1 _ _ hg
    have e1:e'=e:=by
      have a1:=h3.ea;have a2:=h3.eb;have a3:=h3.l.uniq h.l;have a4:=h3.r.uniq h.r
      cases e;cases e';simp only at a1 a2 a3 a4;subst a1 a2 a3 a4;rfl
    rw [e1] at hg
    unfold BC
    exact (DI _).mem_iff.2 (List.mem_map.2 ⟨_,Iu hg,rfl⟩)
def Ti (x y:E4):Prop:=x.a<y.a\/(x.a=y.a/\x.b<y.b)
theorem Ti.asymm (x y:E4) (h:Ti x y):¬Ti y x:=by unfold Ti at *;omega
theorem Gc (hn:By N ts=true) (hN:N<=4611686018427387904):(BC ts).Pairwise Ti:=by
  have h1:Jp ((CS ts (3*ts.length)).map (·.2)):=J6 (Ei hn hN _ (Nat.le_refl _)) (Iz ts _)
  have h2:Jp (BC ts):=(List.Perm.pairwise_iff (R:=λx y:E4=>¬(x.a=y.a/\x.b=y.b)) (λh k=>h ⟨k.1.symm,k.2.symm⟩) (DI _)).2 h1
  exact (List.Pairwise.and (Ff _) h2).imp λ{x y} h=>by
    have h3:=IU.1 h.1
    have h4:=h.2
    unfold Ti
    omega
def Rg (ts:List T3) (j a b:Nat):Prop:=∃r,r<3/\BS ts (3*j+r)=(a,b)
def VX (ts:List T3) (n a b:Nat) (z:Int):Prop:=(z = -1/\∀j,j<n->¬Rg ts j a b)\/∃j,j<n/\z=(j:Int)/\Rg ts j a b/\∀i,i<j->¬Rg ts i a b
theorem TI {n a b:Nat} {z:Int} (h:F4 ts (3*n) a b z):VX ts n a b z:=by
  rcases h with ⟨h1,h2⟩|⟨u,h1,h2,h3,h4⟩
  · exact .inl ⟨h1,λj hj ⟨r,hr,k⟩=>h2 _ Z k⟩
  · exact .inr ⟨u/3,Z,h2,⟨u%3,Z,by rw [show 3*(u/3)+u%3=u by omega];exact h3⟩,λi hi ⟨r,hr,k⟩=>h4 _ Z k⟩
theorem RM {n a b:Nat} {z:Int} (h:VX ts n a b z):F4 ts (3*n) a b z:=by
  rcases h with ⟨h1,h2⟩|⟨j,h1,h2,⟨r,hr,h3⟩,h4⟩
  · exact .inl ⟨h1,λu hu k=>h2 (u/3) Z ⟨u%3,Z,by rw [show 3*(u/3)+u%3=u by omega];exact k⟩⟩
  · have key:∀m,m<=3->(∀q,q<m->BS ts (3*j+q)≠(a,b))\/∃q,q<m/\BS ts (3*j+q)=(a,b)/\∀p,p<q->BS ts (3*j+p)≠(a,b):=by
      intro m
      induction m with
      | zero=>intro _;exact .inl λq hq=>absurd hq (Nat.not_lt_zero _)
      | succ m ih =>
        intro hm
        rcases ih Z with h|⟨q,h5,h6,h7⟩
        · by_cases k:BS ts (3*j+m)=(a,b)
          · exact .inr ⟨m,Z,k,h⟩
          · refine .inl λq hq=>?_
            rcases Nat.lt_or_ge q m with h8|h8
            · exact h q h8
            · rw [show q=m by omega];exact k
        · exact .inr ⟨q,Z,h6,h7⟩
    rcases key 3 (Nat.le_refl _) with k|⟨q,h5,h6,h7⟩
    · exact absurd h3 (k r hr)
    · refine .inr ⟨3*j+q,Z,by rw [h2];congr 1;omega,h6,λv hv k=>?_⟩
      rcases Nat.lt_or_ge v (3*j) with h8|h8
      · exact h4 (v/3) Z ⟨v%3,Z,by rw [show 3*(v/3)+v%3=v by omega];exact k⟩
      · exact h7 (v-3*j) Z (by rw [show 3*j+(v-3*j)=v by omega];exact k)
structure Iw (ts ts':List T3):Prop where
  len:ts.length=ts'.length
  way:∀j,j<ts.length->∀a b,Rg ts j a b↔Rg ts' j a b
theorem Iw.symm (h:Iw ts ts'):Iw ts' ts:=⟨h.len.symm,λj hj a b=>(h.way j (by rw [h.len];exact hj) a b).symm⟩
theorem Iw.fst (h:Iw ts ts') {a b:Nat} {z:Int} (k:F4 ts (3*ts.length) a b z):F4 ts' (3*ts'.length) a b z:=by
  rw [<-h.len]
  refine RM ?_
  rcases TI k with ⟨h1,h2⟩|⟨j,h1,h2,h3,h4⟩
  · exact .inl ⟨h1,λj hj k=>h2 j hj ((h.way j hj a b).2 k)⟩
  · exact .inr ⟨j,h1,h2,(h.way j h1 a b).1 h3,λi hi k=>h4 i hi ((h.way i Z a b).2 k)⟩
theorem Iw.inv (h:Iw ts ts') {e:E4} (k:RW ts (3*ts.length) (e.a,e.b) e):RW ts' (3*ts'.length) (e.a,e.b) e:=by
  obtain ⟨u,hu,hs⟩:=k.some
  refine ⟨k.ea,k.eb,k.lt,h.fst k.l,h.fst k.r,?_⟩
  have key:∀a b,BS ts u=(a,b)->∃v,v<3*ts'.length/\BS ts' v=(a,b):=λa b hd=>by
    obtain ⟨r,hr,h3⟩:=(h.way (u/3) Z a b).1 ⟨u%3,Z,by rw [show 3*(u/3)+u%3=u by omega];exact hd⟩
    exact ⟨3*(u/3)+r,by rw [<-h.len];omega,h3⟩
  rcases hs with hs|hs
  · obtain ⟨v,h1,h2⟩:=key _ _ hs;exact ⟨v,h1,.inl h2⟩
  · obtain ⟨v,h1,h2⟩:=key _ _ hs;exact ⟨v,h1,.inr h2⟩
theorem E6 {j r:Nat} (hr:r<3):BS ts (3*j+r)=(Fj (ts.getD j (0,0,0)) r,Fj (ts.getD j (0,0,0)) ((r+1)%3)):=by
  unfold BS
  rw [show (3*j+r)/3=j by omega,show (3*j+r)%3=r by omega]
def JZ (ts:List T3) (u:Nat):P2:=Cc (BS ts u).1 (BS ts u).2
def CY (ts:List T3):Nat->List (P2×Nat)
  | 0=>[]
  | s+1=>Be (CY ts s) (JZ ts s) ((BG (CY ts s) (JZ ts s)).getD 0+1)
def Ix (ts:List T3):List P2:=ts.flatMap λt=>[Cc t.1 t.2.1,Cc t.2.1 t.2.2,Cc t.2.2 t.1]
theorem E9 (k:P2):∀s,(BG (CY ts s) k).getD 0=((List.range s).map (JZ ts)).count k
  | 0=>rfl
  | s+1=>by
    rw [CY,C_,List.range_succ,List.map_append,List.count_append,List.map_singleton,List.count_singleton]
    by_cases h:k=JZ ts s
    · subst h
      rw [if_pos rfl,Option.getD_some,E9 _ s];simp
    · rw [if_neg h,E9 k s,if_neg (by simpa using λe=>h e.symm)];rfl
theorem Hc {t i:Nat} (hi:i<3):CY ts (3*t+i+1)=Be (CY ts (3*t+i)) (Cc (Fj (ts.getD t (0,0,0)) i) (Fj (ts.getD t (0,0,0)) ((i+1)%3))) ((BG (CY ts (3*t+i)) (Cc (Fj (ts.getD t (0,0,0)) i) (Fj (ts.getD t (0,0,0)) ((i+1)%3)))).getD 0+1):=by
  rw [CY]
  unfold JZ
  rw [E6 hi]
theorem LO (s:Nat) (k:P2):(BG (CY ts s) k).getD 0<=s:=by
  rw [E9]
  exact Nat.le_trans List.count_le_length (by simp)
theorem Eb (hn:By N ts=true) (hN:N<=4611686018427387904):∀s,s<=3*ts.length->Jm N9 (CY ts s)
  | 0,_=>Jm.nil
  | s+1,hs=>by
    obtain ⟨h1,h2⟩:=Kr hn (show s<3*ts.length by omega)
    exact (Eb hn hN s Z).put (DZ (Nat.lt_of_lt_of_le h1 hN) (Nat.lt_of_lt_of_le h2 hN))
theorem JC:(List.range (3*ts.length)).map (JZ ts)=Ix ts:=by
  have key:∀n,n<=ts.length->(List.range (3*n)).map (JZ ts)=Ix (ts.take n):=by
    intro n
    induction n with
    | zero=>intro _;rfl
    | succ n ih =>
      intro hn
      have e1:List.range (3*(n+1))=List.range (3*n)++[3*n,3*n+1,3*n+2]:=by
        rw [show 3*(n+1)=3*n+1+1+1 by omega,List.range_succ,List.range_succ,List.range_succ];simp
      have e2:ts.take (n+1)=ts.take n++[ts.getD n (0,0,0)]:=by
        rw [List.take_add_one,List.getElem?_eq_getElem (show n<ts.length by omega),List.getD,List.getElem?_eq_getElem (show n<ts.length by omega)];rfl
      have k0:=E6 (ts:=ts) (j:=n) (show 0<3 by decide)
      have k1:=E6 (ts:=ts) (j:=n) (show 1<3 by decide)
      have k2:=E6 (ts:=ts) (j:=n) (show 2<3 by decide)
      rw [e1,e2,List.map_append,ih Z]
      unfold Ix
      rw [List.flatMap_append]
      congr 1
      simp only [List.map_cons,List.map_nil,List.flatMap_cons,List.flatMap_nil,List.append_nil,JZ]
      rw [show 3*n=3*n+0 by omega,k0,show 3*n+0+1=3*n+1 by omega,k1,show 3*n+0+2=3*n+2 by omega,k2]
      rfl
  have h:=key ts.length (Nat.le_refl _)
  rwa [List.take_length] at h
def I4 (ts:List T3) (k:P2):Nat:=(BG (CY ts (3*ts.length)) k).getD 0
theorem LN (k:P2):I4 ts k=(Ix ts).count k:=by unfold I4;rw [E9,JC]
def Bm (ts:List T3) (i:Nat):List T3:=(((BC ts).take i).filter λe=>decide (I4 ts (e.a,e.b)=1)).map λe=>(e.a,e.b,0)
def EP (ts:List T3):List T3:=Bm ts (BC ts).length
theorem Gn {i:Nat} (hi:i<(BC ts).length) (h:I4 ts (((BC ts).getD i ⟨0,0,0,0⟩).a,((BC ts).getD i ⟨0,0,0,0⟩).b)=1):Bm ts (i+1)=Bm ts i++[(((BC ts).getD i ⟨0,0,0,0⟩).a,((BC ts).getD i ⟨0,0,0,0⟩).b,0)]:=by
  rw [List.getD,List.getElem?_eq_getElem hi] at h ⊢
  unfold Bm
  rw [List.take_add_one,List.getElem?_eq_getElem hi,List.filter_append,List.map_append]
  simp only [Option.toList_some,Option.getD_some] at h ⊢
  rw [List.filter_cons,if_pos (decide_eq_true h)];rfl
theorem Nv {i:Nat} (hi:i<(BC ts).length) (h:¬I4 ts (((BC ts).getD i ⟨0,0,0,0⟩).a,((BC ts).getD i ⟨0,0,0,0⟩).b)=1):Bm ts (i+1)=Bm ts i:=by
  rw [List.getD,List.getElem?_eq_getElem hi] at h
  unfold Bm
  rw [List.take_add_one,List.getElem?_eq_getElem hi,List.filter_append,List.map_append]
  simp only [Option.toList_some,Option.getD_some] at h ⊢
  rw [List.filter_cons,if_neg (by simpa using h)];simp
theorem Lo (i:Nat):(Bm ts i).length<=i:=by
  unfold Bm
  rw [List.length_map]
  exact Nat.le_trans (List.length_filter_le _ _) (List.length_take_le _ _)
theorem La (hn:By N ts=true) (hN:N<=4611686018427387904) {a b:Nat}:(a,b)∈Ix ts↔∃e∈BC ts,e.a=a/\e.b=b:=by
  rw [<-JC,List.mem_map]
  constructor
  · rintro ⟨u,hu,hk⟩
    have hu:=List.mem_range.1 hu
    have hne:=G7 hn hu
    unfold JZ Cc at hk
    injection hk with h1 h2
    have hlt:a<b:=by omega
    have hd:BS ts u=(a,b)\/BS ts u=(b,a):=by
      rcases Nat.lt_or_ge (BS ts u).1 (BS ts u).2 with h|h
      · exact .inl (Prod.ext Z Z)
      · exact .inr (Prod.ext Z Z)
    obtain ⟨i1,i2⟩:=IS (λu hu=>G7 hn hu) _ (Nat.le_refl _)
    cases hg:BG (CS ts (3*ts.length)) (a,b) with
    | none =>
      have h3:=i2 _ hg hlt u hu
      rcases hd with hd|hd
      · exact absurd hd h3.1
      · exact absurd hd h3.2
    | some e =>
      have h3:=i1 _ _ hg
      refine ⟨e,?_,h3.ea,h3.eb⟩
      unfold BC
      exact (DI _).mem_iff.2 (List.mem_map.2 ⟨_,Iu hg,rfl⟩)
  · rintro ⟨e,he,rfl,rfl⟩
    have h:=(D4 hn hN).1 he
    obtain ⟨u,hu,hs⟩:=h.some
    have hlt:=h.lt
    simp only at hlt hs
    refine ⟨u,List.mem_range.2 hu,?_⟩
    unfold JZ Cc
    rcases hs with hs|hs<;>rw [hs]<;>exact Prod.ext (by simp only;omega) (by simp only;omega)
def TE (x y:T3):Prop:=x.1<y.1\/(x.1=y.1/\x.2.1<y.2.1)
theorem TE.asymm (x y:T3) (h:TE x y):¬TE y x:=by unfold TE at *;omega
theorem MO (hn:By N ts=true) (hN:N<=4611686018427387904):(EP ts).Pairwise TE:=by
  unfold EP Bm
  rw [List.pairwise_map,List.take_length]
  exact (Gc hn hN).filter _
theorem MN (hn:By N ts=true) (hN:N<=4611686018427387904) {s:T3}:s∈EP ts↔(Ix ts).count (s.1,s.2.1)=1/\s.2.2=0:=by
  unfold EP Bm
  rw [List.take_length,List.mem_map]
  constructor
  · rintro ⟨e,he,rfl⟩
    obtain ⟨h1,h2⟩:=List.mem_filter.1 he
    exact ⟨by rw [<-LN];exact of_decide_eq_true h2,rfl⟩
  · rintro ⟨h1,h2⟩
    have hm:(s.1,s.2.1)∈Ix ts:=List.count_pos_iff.1 Z
    obtain ⟨e,he,ea,eb⟩:=(La hn hN).1 hm
    refine ⟨e,List.mem_filter.2 ⟨he,decide_eq_true (by rw [LN,ea,eb];exact h1)⟩,?_⟩
    exact Prod.ext ea (Prod.ext eb h2.symm)
end
end
section
abbrev E0:E4:=⟨0,0,0,0⟩
def SK (N:Nat) (es:List E4):Nat->List (P2×Nat)
  | 0=>[]
  | i+1=>Be (SK N es i) (Cc (es.getD i E0).a (es.getD i E0).b) (N+i)
def UH (N:Nat) (ss:List T3):Nat->List (P2×Nat)
  | 0=>[]
  | k+1=>if (ss.getD (ss.length-1-k) (0,0,0)).1<N/\(ss.getD (ss.length-1-k) (0,0,0)).2.1<N then Be (UH N ss k) (Cc (ss.getD (ss.length-1-k) (0,0,0)).1 (ss.getD (ss.length-1-k) (0,0,0)).2.1) (ss.getD (ss.length-1-k) (0,0,0)).2.2 else UH N ss k
def S6 (N:Nat) (ss:List T3) (es:List E4):Nat->List (P2×Nat)
  | 0=>UH N ss ss.length
  | i+1=>Be (Be (S6 N ss es i) (Cc (es.getD i E0).a (N+i)) ((BG (S6 N ss es i) (Cc (es.getD i E0).a (es.getD i E0).b)).getD 0)) (Cc (es.getD i E0).b (N+i)) ((BG (S6 N ss es i) (Cc (es.getD i E0).a (es.getD i E0).b)).getD 0)
def Vy (N:Nat) (ss:List T3) (es:List E4) (a b:Nat):Nat:=(BG (S6 N ss es es.length) (Cc a b)).getD 0
def Wb (ps:List Pt) (e:E4):Pt:=Qi (CG ps e.a+CG ps e.b) (1/2)
def Uw (ps:List Pt) (es:List E4):Nat->List Pt
  | 0=>ps
  | i+1=>Uw ps es i++[Wb ps (es.getD i E0)]
def WF (ps:List Pt) (es:List E4):List Pt:=Uw ps es es.length
def WK (N:Nat) (ss:List T3) (es:List E4) (ts:List T3):List T3:=(EP ts).map λs=>(s.1,s.2.1,Vy N ss es s.1 s.2.1)
section
variable {N M i:Nat} {es:List E4} {ts:List T3} {t:T3} {ss rs:List T3} {ps:List Pt}
theorem DS {α:Type} {l:List α} {d:α} {i:Nat} (h:i<l.length):l.take (i+1)=l.take i++[l.getD i d]:=by
  rw [List.take_add_one,List.getElem?_eq_getElem h,List.getD,List.getElem?_eq_getElem h];rfl
theorem edge_ends (hn:By N ts=true) (hN:N<=4611686018427387904) {e:E4} (he:e∈BC ts):e.a<e.b/\e.b<N:=by
  have h:=(D4 hn hN).1 he
  obtain ⟨u,hu,hs⟩:=h.some
  have h2:=Kr hn hu
  have hlt:=h.lt
  simp only at hlt hs
  rcases hs with hs|hs<;>rw [hs] at h2<;>simp only at h2<;>omega
theorem RE (hn:By N ts=true) (hN:N<=4611686018427387904):∀e∈BC ts,e.a<N/\e.b<N:=λe he=>by
  have:=edge_ends hn hN he;omega
end
end
section
theorem F5 (b n:Nat):BB (some ⟨b,0,none⟩) n n:=⟨λe=>(by cases e),λa e=>(by injection e with e;subst e;rfl),Nat.le_refl _⟩
theorem UJ {ps:List Pt} {k:Nat} (h:(ps.all λp=>decide (B8 p<=k))=true) (h0:B8 (⟨0,0⟩:Pt)<=k) (i:Nat):B8 (CG ps i)<=k:=by
  unfold CG
  rcases Nat.lt_or_ge i ps.length with hi|hi
  · rw [List.getD,List.getElem?_eq_getElem hi]
    exact of_decide_eq_true (List.all_eq_true.1 h _ (List.getElem_mem hi))
  · rw [List.getD,List.getElem?_eq_none hi];exact h0
theorem At.mx {w0:BL} {S:Nat->Prop} {ps:List Pt} {ts ss:List T3} {x:MX ps ts ss} (h1:At w0 S x.a) (h2:At w0 S x.b) (h3:At w0 S x.c):At w0 S x:=λy hy b e=>by
  have hy:y∈[x.a.row,x.b.row,x.c.row]:=hy
  simp only [List.mem_cons,List.not_mem_nil,or_false] at hy
  rcases hy with rfl|rfl|rfl
  · exact h1 _ List.mem_cons_self b e
  · exact h2 _ List.mem_cons_self b e
  · exact h3 _ List.mem_cons_self b e
section
variable {P:Program} {ops:Array Oper} {rest:List Oper} {Q:Exit->Act->World->Prop} {n:Nat} {F:List (Nat×Value)} {w0:BL} {S:Nat->Prop} {L:List As} {ps:List Pt} {ts ss:List T3}
theorem Kk {w:World} {i b:Nat} {T:TypeId} {cs:List Value} (hw:BN w0 w L) (hi:L[i]?=some (Ae b T cs)) (hex:w0.ex=none):w0.w.heap.size<=b:=by
  rcases (hw.2.1 _ (List.mem_of_getElem? hi) b rfl).1 with h1|h1|h1
  · cases h1
  · exact h1
  · rw [hex] at h1;cases h1
theorem AE.litM {b1 b2 b3 U1 U2 U3:Nat} {cs1 cs2 cs3:List Value} (LL:MX ps ts ss->List As) (i j k:Nat) (hn:i≠j/\i≠k/\j≠k) (h1:L[i]?=some (Ae b1 U1 cs1)) (h2:L[j]?=some (Ae b2 U2 cs2)) (h3:L[k]?=some (Ae b3 U3 cs3)) (hex:w0.ex=none)
    (e:(cs1,cs2,cs3)=(rowsL Aj ps,rowsL Av ts,rowsL Av ss))
    (hL:((L.set i (Ai (some ⟨b1,0,none⟩) cs1)).set j (Ai (some ⟨b2,0,none⟩) cs2)).set k (Ai (some ⟨b3,0,none⟩) cs3)=LL ⟨⟨some ⟨b1,0,none⟩,ps.length,F5 _ _⟩,⟨some ⟨b2,0,none⟩,ts.length,F5 _ _⟩,⟨some ⟨b3,0,none⟩,ss.length,F5 _ _⟩⟩)
    (next:∀mm:MX ps ts ss,At w0 S mm->AE P ops rest Q n F w0 (LL mm)):AE P ops rest Q n F w0 L:=λa w ha hw=>by
  have n1:=Kk hw h1 hex
  have n2:=Kk hw h2 hex
  have n3:=Kk hw h3 hex
  have w1:=hw.freeze (x:=Ae b1 U1 cs1) (y:=Ai (some ⟨b1,0,none⟩) cs1) h1 rfl (λo hp=>Em hp) (λe=>by cases e)
  have w2:=w1.freeze (i:=j) (x:=Ae b2 U2 cs2) (y:=Ai (some ⟨b2,0,none⟩) cs2) (by rw [List.getElem?_set_ne hn.1];exact h2) rfl (λo hp=>Em hp) (λe=>by cases e)
  have w3:=w2.freeze (i:=k) (x:=Ae b3 U3 cs3) (y:=Ai (some ⟨b3,0,none⟩) cs3) (by rw [List.getElem?_set_ne hn.2.2,List.getElem?_set_ne hn.2.1];exact h3) rfl (λo hp=>Em hp) (λe=>by cases e)
  rw [hL] at w3
  refine next _ (λy hy b eb=>?_) a w ha w3
  have hy:y∈[Ai (some ⟨b1,0,none⟩) (rowsL Aj ps),Ai (some ⟨b2,0,none⟩) (rowsL Av ts),Ai (some ⟨b3,0,none⟩) (rowsL Av ss)]:=hy
  simp only [List.mem_cons,List.not_mem_nil,or_false] at hy
  rcases hy with rfl|rfl|rfl<;>(injection eb with eb;subst eb;exact .inl (by assumption))
end
theorem Vl {α:Type} [Dy α] {w0:BL} {w:World} {S:Nat->Prop} {L:List As} (hw:BN w0 w L) (is:List Nat) {a:α} (hi:(is.map λi=>L[i]?)=(Dy.rows a).map some) (ha:At w0 S a):Ro (SL w0 S L) w a:=λy hy=>by
  have h1:some y∈(is.map λi=>L[i]?):=by rw [hi];exact List.mem_map.2 ⟨y,hy,rfl⟩
  obtain ⟨i,_,h2⟩:=List.mem_map.1 h1
  have hm:=List.mem_of_getElem? h2
  exact ⟨λb e=>(hw.2.1 y hm b e).2,λb e=>⟨⟨y,hm,Dy.ro a y hy,e⟩,ha y hy b e⟩⟩
end
def Rc (p q:Pt):Prop:=p.x<q.x\/(p.x=q.x/\p.y<q.y)
instance (p q:Pt):Decidable (Rc p q):=by unfold Rc;infer_instance
theorem Uj {p q:Pt} (h:Fl p.x q.x≠0):decide (Fl p.x q.x<0)=decide (Rc p q):=by
  have h2:¬p.x=q.x:=λe=>h (Nn.2 e)
  refine decide_eq_decide.2 ⟨λk=>.inl (IL.1 k),λk=>?_⟩
  rcases k with k|k
  · exact IL.2 k
  · exact absurd k.1 h2
theorem Ua {p q:Pt} (h:Fl p.x q.x=0):decide (Fl p.y q.y<0)=decide (Rc p q):=by
  have h2:p.x=q.x:=Nn.1 h
  refine decide_eq_decide.2 ⟨λk=>.inr ⟨h2,IL.1 k⟩,λk=>?_⟩
  rcases k with k|k
  · rw [h2] at k;exact absurd k (by grind)
  · exact IL.2 k.2
def m7 (m:MQ) (k:Nat):List Nat:=(m.cs.take k).map (·%7)
end Go.Proofs.YtfbomiejpbchdaaGreatDoor
