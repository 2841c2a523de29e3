import Derived.Test.YtbfdamnfcmefmaaGreatDoorPend22
import Derived.Test.YtbfdamnfcmefmaaGreatDoorPend23
namespace Go.Proofs.YtbfdamnfcmefmaaGreatDoor
open Go Go.RowKit Go.Proofs.Tryz
open Go.Value renaming slice→qz,bool→qa
set_option linter.unusedVariables false
set_option linter.unusedSimpArgs false
theorem Rb {w w':World} (h:Hm w.heap.size w w'):∃(q:Nat) (os:Array Obj),w'=Go.Sort.grow (w.drewN q) os:=by
  refine ⟨w'.drawn-w.drawn,w'.heap.extract w.heap.size w'.heap.size,?_⟩
  have h1:=h.os;have h2:=h.tape;have h3:=h.output;have h4:=h.size;have h5:=h.block;have h6:=h.drawn
  have hh:w'.heap=w.heap++w'.heap.extract w.heap.size w'.heap.size:=by
    apply Array.ext_getElem?
    intro i
    rw [Array.getElem?_append]
    split
    · rename_i hi;exact h5 i hi
    · rename_i hi
      rw [Array.getElem?_extract]
      split
      · congr 1;omega
      · rename_i hj;rw [Array.getElem?_eq_none Z]
  obtain ⟨hp,tp,dr,os,out⟩:=w'
  obtain ⟨hp0,tp0,dr0,os0,out0⟩:=w
  simp only at h1 h2 h3 h4 h6 hh
  subst h1;subst h2;subst h3
  show World.mk hp tp dr os out=World.mk (hp0++hp.extract hp0.size hp.size) tp (dr0+(dr-dr0)) os out
  rw [<-hh,show dr0+(dr-dr0)=dr by omega]
section
instance:Inhabited E4:=⟨⟨0,0,0,0⟩⟩
theorem Kp (a b:Nat):(a<b/\EH a b = -1)\/(b<a/\EH a b=1)\/(a=b/\EH a b=0):=by
  rcases Nat.lt_trichotomy a b with h|h|h
  · exact .inl ⟨h,RN h⟩
  · exact .inr (.inr ⟨h,RK Z Z⟩)
  · exact .inr (.inl ⟨h,RL Z h⟩)
theorem Yn {p q:Int}:V9 p q<0↔p<0\/(p=0/\q<0):=by
  unfold V9
  split
  · omega
  · split<;>omega
theorem EU {x y:E4}:Ow x y<0↔x.a<y.a\/(x.a=y.a/\x.b<y.b):=by
  unfold Ow
  rw [Yn]
  rcases Kp x.a y.a with ⟨h1,e1⟩|⟨h1,e1⟩|⟨h1,e1⟩<;>rcases Kp x.b y.b with ⟨h2,e2⟩|⟨h2,e2⟩|⟨h2,e2⟩<;>rw [e1,e2]<;>omega
def SE (x y:E4):Prop:=¬Ow y x<0
theorem KJ {x y:E4}:SE x y↔x.a<y.a\/(x.a=y.a/\x.b<=y.b):=by unfold SE;rw [EU];omega
theorem eN:Go.Sort.SWO (ltOf Ow) where
  irrefl x:=xH (by rw [EU];omega)
  trans x y z h1 h2:=by
    have h1:=EU.1 (xT h1)
    have h2:=EU.1 (xT h2)
    exact xI (EU.2 Z)
  ntrans x y z h1 h2:=by
    have h1:=xS h1
    have h2:=xS h2
    rw [EU] at h1 h2
    exact xH (by rw [EU];omega)
theorem bn (AY off size:Nat) (w:World):CmpLays prog 105 #[] Bn 4 Ow AY off size w:=λm os dk _ x y=>by
  rw [Array.append_empty]
  exact (Xj x y _).mono λe w' h=>⟨h.1,Rb h.2⟩
theorem M2 {d:Array E4} {t:Nat} (h:t<d.size*4):(rowsL Bn d.toList)[t]?=some (Go.Sort.flatK Bn 4 d)[t]!:=by
  rw [Go.Sort.get_flatK _ _ _ _ h]
  have h1:t/4<d.size:=by omega
  have h2:=D_ C9 jA d.toList (t/4) (t%4) (by simpa using h1) (Nat.mod_lt _ jY) (v:=(Bn d[t/4]!)[t%4]!) (by
    rw [List.getD,show d.toList[t/4]?=some d[t/4] from by simp [h1],getElem!_pos d (t/4) h1]
    have hl:t%4<(Bn d[t/4]).length:=by rw [C9];exact Nat.mod_lt _ jY
    show (Bn d[t/4])[t%4]?=some (Bn d[t/4])[t%4]!
    rw [xP hl,getElem!_pos (Bn d[t/4]) (t%4) hl])
  rw [show t/4*4+t%4=t by omega] at h2
  exact h2
def Si (x:E4):List E4->List E4
  | []=>[x]
  | y::r=>if Ow x y<0 then x::y::r else y::Si x r
def TK:List E4->List E4
  | []=>[]
  | x::r=>Si x (TK r)
theorem I2 (x:E4):∀l,(Si x l).Perm (x::l)
  | []=>List.Perm.refl _
  | y::r=>by
    unfold Si
    split
    · exact List.Perm.refl _
    · exact (List.Perm.cons y (I2 x r)).trans (List.Perm.swap x y r)
theorem Dv:∀l,(TK l).Perm l
  | []=>List.Perm.refl _
  | x::r=>(I2 x (TK r)).trans (List.Perm.cons x (Dv r))
theorem Jg (x:E4):∀l,l.Pairwise SE->(Si x l).Pairwise SE
  | [],_=>List.pairwise_singleton _ _
  | y::r,h=>by
    obtain ⟨h1,h2⟩:=List.pairwise_cons.1 h
    unfold Si
    split
    · rename_i k
      have hxy:SE x y:=by rw [KJ];have:=EU.1 k;omega
      refine List.pairwise_cons.2 ⟨λz hz=>?_,h⟩
      rcases xN.1 hz with rfl|hz
      · exact hxy
      · have h3:=h1 z hz;rw [KJ] at *;omega
    · rename_i k
      refine List.pairwise_cons.2 ⟨λz hz=>?_,Jg x r h2⟩
      rcases xN.1 ((I2 x r).mem_iff.1 hz) with rfl|hz
      · exact k
      · exact h1 z hz
theorem G3:∀l,(TK l).Pairwise SE
  | []=>List.Pairwise.nil
  | x::r=>Jg x _ (G3 r)
def Mi (l:List E4):Prop:=l.Pairwise (λx y=>¬(x.a=y.a/\x.b=y.b))
theorem R5:∀{l:List E4},Mi l->∀x∈l,∀y∈l,x.a=y.a->x.b=y.b->x=y
  | z::r,h,x,hx,y,hy,e,e'=>by
    obtain ⟨h1,h2⟩:=List.pairwise_cons.1 h
    rcases xN.1 hx with ex|hx'<;>rcases xN.1 hy with ey|hy'
    · rw [ex,ey]
    · rw [ex] at e e';exact absurd ⟨e,e'⟩ (h1 y hy')
    · rw [ey] at e e';exact absurd ⟨e.symm,e'.symm⟩ (h1 x hx')
    · exact R5 h2 x hx' y hy' e e'
theorem TL {l l':List E4} (hp:l'.Perm l) (hs:l'.Pairwise SE) (hn:Mi l):l'=TK l:=by
  refine List.Perm.eq_of_pairwise (le:=SE) (λx y hx hy h1 h2=>?_) hs (G3 l) (hp.trans (Dv l).symm)
  rw [KJ] at h1 h2
  exact R5 hn x (hp.mem_iff.1 hx) y ((Dv l).mem_iff.1 hy) Z Z
theorem Wd (xs:List E4) (p:Option Addr) (n c:Nat) (T:TypeId) (ho:OwnOk p n c) (hp0:p≠none) (hn:n=xs.length) (hN:n<4611686018427387904) (w:World) (hrow:∀b,p.map (·.block)=some b->∃o,w.heap[b]?=some o/\(rowW p T 4 n c (rowsL Bn xs)).P o) :
    Calls prog 104 #[.slice p n c,.func (.func 105) #[] #[]] w λe w'=>e=.returned (.tuple #[])/\Jq w w' (p.map (·.block))/\∃ys:List E4,ys.Perm xs/\ys.Pairwise SE/\∀b,p.map (·.block)=some b->∃o,w'.heap[b]?=some o/\(rowW p T 4 n c (rowsL Bn ys)).P o:=by
  cases hp:p with
  | none=>exact absurd hp hp0
  | some a =>
    subst hp
    obtain ⟨o,hob,cur,rfl,hsz,hcur⟩:=hrow a.block rfl
    have hat:=ho.at0 a rfl
    have hle:=ho.le
    obtain ⟨d,hd⟩:∃d,d=xs.toArray:=⟨_,rfl⟩
    have hdz:d.size=n:=by rw [hd,hn];simp
    have hdx:d.toList=xs:=by rw [hd]
    have hH:Go.Sort.HoldsK Bn 4 w a.block 0 d:=λj hj=>by
      have hj':j<d.size*4:=by simpa using hj
      refine ⟨?_,by simp [World.frozen?,hob]⟩
      have h1:(cur.toList.take (n*4))[j]?=(rowsL Bn xs)[j]?:=by rw [hcur]
      rw [List.getElem?_take_of_lt Z,Array.getElem?_toList,<-hdx,M2 hj'] at h1
      show w.cell? ⟨a.block,0+j,none⟩=some (id (Go.Sort.flatK Bn 4 d)[j]!)
      unfold World.cell?
      simp only [hob,Nat.zero_add]
      exact h1
    have hlt:a.block<w.heap.size:=by
      rcases Nat.lt_or_ge a.block w.heap.size with h|h
      · exact h
      · rw [Array.getElem?_eq_none h] at hob;cases hob
    have h:=Tryz.slices_SortFunc_Edge 4 isAgg54 sizeOf54 Bn C9 (λx v hv=>by
      unfold Bn at hv
      simp only [xN,List.not_mem_nil,or_false] at hv
      rcases hv with rfl|rfl|rfl|rfl<;>rfl) Ow eN 105 #[] a.block 0 c d w call105 (bn a.block 0 d.size w) hH hlt Z
    rw [hdz] at h
    rw [hat]
    refine h.mono ?_
    rintro e w' ⟨rfl,d',m,os,⟨hz',_,hperm⟩,hsort,rfl⟩
    have hz2:d'.size=n:=by rw [hz',hdz]
    have hperm':d'.toList.Perm d.toList:=by
      have e1:d'.extract 0 n=d':=by rw [<-hz2];exact Array.extract_size
      have e2:d.extract 0 n=d:=by rw [<-hdz];exact Array.extract_size
      rw [e1,e2] at hperm
      exact hperm
    have hF:(Go.Sort.flatK Bn 4 d').size=n*4:=by rw [Go.Sort.size_flatK,hz2]
    refine ⟨rfl,⟨⟨rfl,rfl,rfl,by simp [sortWorldK,Go.Sort.grow,Go.Sort.putRowK,Go.Sort.putRow,Go.Sort.mapBlock,Go.Sort.ahead],λj hj hne=>?_⟩,by show w.drawn<=w.drawn+m;omega⟩,d'.toList,by rw [<-hdx];exact hperm',List.pairwise_iff_getElem.2 λi j hi hj hij=>?_,λb e=>?_⟩
    · have hne':a.block≠j:=λe=>hne (by rw [e];rfl)
      unfold sortWorldK
      rw [Go.Sort.heap_grow_old _ _ (by simpa [Go.Sort.putRowK,Go.Sort.putRow,Go.Sort.mapBlock,Go.Sort.ahead] using hj)]
      simp [Go.Sort.putRowK,Go.Sort.putRow,Go.Sort.mapBlock,Go.Sort.ahead,Array.getElem?_modify,hne']
    · have hi':i<d'.size:=by simpa using hi
      have hj':j<d'.size:=by simpa using hj
      have h9:=xS (hsort i j (xJ _) hij Z)
      rw [getElem!_pos d' j hj',getElem!_pos d' i hi'] at h9
      simpa [SE] using h9
    · injection e with e
      subst e
      refine ⟨.cells (Go.Sort.putCells id 0 (Go.Sort.flatK Bn 4 d') cur) T (0,0),?_,_,rfl,by simp [Go.Sort.putCells,hsz],?_⟩
      · unfold sortWorldK
        rw [Go.Sort.heap_grow_old _ _ (by simpa [Go.Sort.putRowK,Go.Sort.putRow,Go.Sort.mapBlock,Go.Sort.ahead] using hlt)]
        simp [Go.Sort.putRowK,Go.Sort.putRow,Go.Sort.mapBlock,Go.Sort.ahead,Array.getElem?_modify,hob,Go.Sort.onCells]
      · apply List.ext_getElem?
        intro j
        have hlen:(rowsL Bn d'.toList).length=n*4:=by rw [AZ C9,Array.length_toList,hz2]
        by_cases hj:j<n*4
        · have hcs:n*4<=c*4:=Nat.mul_le_mul_right _ hle
          rw [List.getElem?_take_of_lt hj,Array.getElem?_toList,M2 (by rw [hz2];exact hj)]
          unfold Go.Sort.putCells
          rw [Array.getElem?_mapIdx,Array.getElem?_eq_getElem Z,Option.map_some,if_pos ⟨xJ _,Z⟩]
          rfl
        · rw [List.getElem?_take_eq_none Z,List.getElem?_eq_none Z]
def W0 (kvs:List (P2×E4)) (q:Nat):E4:=(kvs.getD q ((0,0),⟨0,0,0,0⟩)).2
theorem ZE {kvs:List (P2×E4)} {q:Nat} {k:P2} {v:E4} (h:kvs[q]?=some (k,v)):W0 kvs q=v:=by rw [W0,List.getD,h];rfl
theorem Le:∀{n:Nat} {l:List Nat},l.Nodup->(∀x∈l,x<n)->l.length<=n
  | 0,[],_,_=>Nat.le_refl _
  | 0,x::r,_,h=>absurd (h x List.mem_cons_self) (Nat.not_lt_zero _)
  | n+1,l,h1,h2=>by
    have h3:(l.erase n).length<=n:=Le (h1.erase n) λx hx=>by
      have h4:=h2 x (List.mem_of_mem_erase hx)
      have h5:x≠n:=λe=>by
        rw [e] at hx
        exact h1.not_mem_erase hx
      omega
    rw [List.length_erase] at h3
    split at h3<;>omega
theorem UM {kvs:List (P2×E4)} {seen:List Nat} (h1:seen.Nodup) (h2:∀x∈seen,x<kvs.length) (h3:∀q,q<kvs.length->q∈seen):(seen.map (W0 kvs)).Perm (kvs.map (·.2)):=by
  have hp:seen.Perm (List.range kvs.length):=(List.perm_ext_iff_of_nodup h1 List.nodup_range).2 λq=>⟨λh=>List.mem_range.2 (h2 q h),λh=>h3 q (List.mem_range.1 h)⟩
  refine (hp.map _).trans (List.Perm.of_eq ?_)
  apply List.ext_getElem?
  intro q
  rw [List.getElem?_map,List.getElem?_map]
  rcases Nat.lt_or_ge q kvs.length with h|h
  · rw [List.getElem?_range h,xP h]
    simp [W0,List.getD,h]
  · rw [List.getElem?_eq_none (by simpa using h),List.getElem?_eq_none h];rfl
def Pu (kvs:List (P2×E4)):Prop:=∀p∈kvs,p.2.a=p.1.1/\p.2.b=p.1.2
theorem NO (e:E4) (t a b:Nat):(Fr e t a b).a=e.a/\(Fr e t a b).b=e.b:=by
  unfold Fr
  split
  · exact ⟨rfl,rfl⟩
  · split<;>exact ⟨rfl,rfl⟩
theorem LG {kvs:List (P2×E4)} {x:P2} {v:E4} (h:BR kvs x=some v):(x,v)∈kvs:=by
  induction kvs with
  | nil=>cases h
  | cons p r ih =>
    obtain ⟨k,u⟩:=p
    unfold BR at h
    split at h
    · rename_i e
      injection h with h
      rw [e,h];exact List.mem_cons_self
    · exact List.mem_cons_of_mem _ (ih h)
theorem Sc {kvs:List (P2×E4)} (h:Pu kvs) (x:P2):((BR kvs x).getD (I8 x)).a=x.1/\((BR kvs x).getD (I8 x)).b=x.2:=by
  cases hg:BR kvs x with
  | none=>exact ⟨rfl,rfl⟩
  | some v=>exact h _ (LG hg)
theorem S7 {kvs:List (P2×E4)} {x:P2} {y:E4} {p:P2×E4} (h:p∈Bj kvs x y):p=(x,y)\/p∈kvs:=by
  induction kvs with
  | nil=>exact .inl (xO.1 h)
  | cons q r ih =>
    obtain ⟨k,u⟩:=q
    unfold Bj at h
    split at h
    · rename_i e
      rcases xN.1 h with h|h
      · exact .inl (by rw [h,e])
      · exact .inr (List.mem_cons_of_mem _ h)
    · rcases xN.1 h with h|h
      · exact .inr (by rw [h];exact List.mem_cons_self)
      · exact (ih h).imp_right (List.mem_cons_of_mem _)
theorem Kx (ts:List (Tq3)):∀s,Pu (Ci ts s)
  | 0=>λp h=>by cases h
  | s+1=>λp h=>by
    have h0:=Kx ts s
    rcases S7 h with rfl|h
    · have h1:=Sc h0 (B5 (FW (ts.getD (s/3) (0,0,0)) (s%3)) (FW (ts.getD (s/3) (0,0,0)) ((s%3+1)%3)))
      have h2:=NO ((BR (Ci ts s) (B5 (FW (ts.getD (s/3) (0,0,0)) (s%3)) (FW (ts.getD (s/3) (0,0,0)) ((s%3+1)%3)))).getD (I8 (B5 (FW (ts.getD (s/3) (0,0,0)) (s%3)) (FW (ts.getD (s/3) (0,0,0)) ((s%3+1)%3))))) (s/3) (FW (ts.getD (s/3) (0,0,0)) (s%3)) (FW (ts.getD (s/3) (0,0,0)) ((s%3+1)%3))
      exact ⟨h2.1.trans h1.1,h2.2.trans h1.2⟩
    · exact h0 p h
theorem NC {kvs:List (P2×E4)} {ok:P2->Prop} (h:OZ ok kvs) (he:Pu kvs):Mi (kvs.map (·.2)):=by
  unfold Mi
  rw [List.pairwise_map]
  refine List.Pairwise.imp_of_mem (λ{p q} hp hq hne=>?_) h.once
  rintro ⟨e1,e2⟩
  have h1:=he p hp
  have h2:=he q hq
  exact hne (Prod.ext (by rw [<-h1.1,<-h2.1,e1]) (by rw [<-h1.2,<-h2.2,e2]))
def BK (ts:List (Tq3)):List E4:=TK ((Ci ts (3*ts.length)).map (·.2))
theorem Z4 {ts:List (Tq3)} {N:Nat} {xs ys:List E4} (hn:Ba N ts=true) (hN:N<=4611686018427387904) (h1:ys.Perm xs) (h2:ys.Pairwise SE) (h3:xs.Perm ((Ci ts (3*ts.length)).map (·.2))):ys=BK ts :=
  TL (h1.trans h3) h2 (NC (Fm hn hN _ (Nat.le_refl _)) (Kx ts _))
theorem J_ (ts:List (Tq3)):(BK ts).length=(Ci ts (3*ts.length)).length:=by rw [BK,(Dv _).length_eq,xK]
section
variable {P:Program} {ops:Array Oper} {rest:List Oper} {Q:Exit->Act->World->Prop} {n:Nat} {F:List (Nat×Value)} {w0:BD} {L:List As}
theorem AR.callS {o:Oper} {f:FuncId} {args:Array Value} {v:Value} (i:Nat) {q:Option Addr} {T:TypeId} {m c:Nat} {xs ys:List E4} (hw:Wt ops n F o)
    (he:∀a w,Cx n a F->BH w0 w L->(execOp a.eval o).run P w=.ok (.enter f args) w) (hi:L[i]?=some (rowW q T 4 m c (rowsL Bn xs)))
    (hc:∀w,BH w0 w L->Calls P f args w λe w'=>e=.returned v/\Jq w w' (q.map (·.block))/\∃zs:List E4,zs.Perm xs/\zs.Pairwise SE/\∀b,q.map (·.block)=some b->∃o,w'.heap[b]?=some o/\(rowW q T 4 m c (rowsL Bn zs)).P o)
    (hu:∀zs:List E4,zs.Perm xs->zs.Pairwise SE->zs=ys)
    (hd:∀d,o.dst=some d->d<n) (next:AR P ops rest Q n (match o.dst with|some d=>(d,v)::F|none=>F) w0 (L.set i (rowW q T 4 m c (rowsL Bn ys)))):AR P ops (o::rest) Q n F w0 L :=
  AR.callW i hw he hi (λw hW=>(hc w hW).mono λe w' ⟨h1,h2,zs,h3,h4,h5⟩=>⟨h1,h2,by rw [<-hu zs h3 h4];exact h5⟩) hd next
end
theorem LE {kvs:List (P2×E4)} {k:P2} (h:(BR kvs k).isSome=false):I8 k=(BR kvs k).getD (I8 k):=by
  cases hg:BR kvs k with
  | none=>rfl
  | some v=>rw [hg] at h;cases h
theorem LF {kvs:List (P2×E4)} {k:P2} {z:E4} (h:(BR kvs k).isSome=true):(BR kvs k).getD z=(BR kvs k).getD (I8 k):=by
  cases hg:BR kvs k with
  | none=>rw [hg] at h;cases h
  | some v=>rfl
end
structure CX (cs:List Value) (n:Nat) where
  p:Option Addr
  ok:A8 p n n
instance {cs:List Value} {n:Nat}:Cy (CX cs n):=⟨λa=>.slice a.p n n,λa=>[AN a.p cs],λa y hy=>by rcases xO.1 hy with rfl;rfl⟩
theorem cK {S:Nat->Prop} {W w:World} {L:List As} (hw:BH ⟨W,none⟩ w L) (i:Nat) {p:Option Addr} {T:TypeId} {z n c:Nat} {cs:List Value} (hi:L[i]?=some (rowW p T z n c cs)) (ho:OwnOk p n c) (hl:cs.length=n*z) {v:Value} (hv:v=.slice p n n):BP (CX cs n) S W (.returned v) w :=
  ⟨⟨p,⟨λe=>⟨(ho.nil e).1,(ho.nil e).1⟩,λa e=>by rw [ho.at0 a e],Nat.le_refl _⟩⟩,by rw [hv];rfl,hw.out,λy hy=>by rcases xO.1 hy with rfl;exact GO hw i hi ho hl⟩
theorem BP.ofCX {S:Nat->Prop} {W w:World} {e:Ending} {cs:List Value} {n:Nat} (h:BP (CX cs n) S W e w):BP (RX cs n) S W e w:=by
  obtain ⟨a,h1,h2,h3⟩:=h
  exact ⟨⟨a.p,n,a.ok⟩,h1,h2,λy hy=>by rcases xO.1 hy with rfl;exact h3 _ List.mem_cons_self⟩
end Go.Proofs.YtbfdamnfcmefmaaGreatDoor
