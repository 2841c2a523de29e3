import Derived.Test.YtpolhpjiahbidaaGreatDoorPart15
import Derived.Test.YtpolhpjiahbidaaGreatDoorPart16
namespace Go.Proofs.YtpolhpjiahbidaaGreatDoor
open Go Go.RowKit Go.Proofs.Tryz
open Go.Value renaming slice→qz,bool→qa
set_option linter.unusedVariables false
set_option linter.unusedSimpArgs false
theorem Q4 {w w':World} (h:Fr w.heap.size w w'):∃(q:Nat) (os:Array Obj),w'=Go.Sort.grow (w.drewN q) os:=by
  refine ⟨w'.drawn-w.drawn,w'.heap.extract w.heap.size w'.heap.size,?_⟩
  have h1:=h.os;have h2:=h.tape;have h3:=h.output;have h4:=h.size;have h5:=h.block;have h6:=h.drawn
  have hh:w'.heap=w.heap++w'.heap.extract w.heap.size w'.heap.size:=by
    apply Array.ext_getElem?
    intro i
    rw [Array.getElem?_append]
    split
    · rename_i hi;exact h5 i hi
    · rename_i hi
      rw [Array.getElem?_extract]
      split
      · congr 1;omega
      · rename_i hj;rw [Array.getElem?_eq_none Z]
  obtain ⟨hp,tp,dr,os,out⟩:=w'
  obtain ⟨hp0,tp0,dr0,os0,out0⟩:=w
  simp only at h1 h2 h3 h4 h6 hh
  subst h1;subst h2;subst h3
  show World.mk hp tp dr os out=World.mk (hp0++hp.extract hp0.size hp.size) tp (dr0+(dr-dr0)) os out
  rw [<-hh,show dr0+(dr-dr0)=dr by omega]
section
instance:Inhabited E4:=⟨⟨0,0,0,0⟩⟩
theorem Kj (a b:Nat):(a<b/\EP a b = -1)\/(b<a/\EP a b=1)\/(a=b/\EP a b=0):=by
  rcases Nat.lt_trichotomy a b with h|h|h
  · exact .inl ⟨h,Qq h⟩
  · exact .inr (.inr ⟨h,Qo Z Z⟩)
  · exact .inr (.inl ⟨h,Qp Z h⟩)
theorem YC {p q:Int}:Va p q<0↔p<0\/(p=0/\q<0):=by
  unfold Va
  split
  · omega
  · split<;>omega
theorem Ec {x y:E4}:OQ x y<0↔x.a<y.a\/(x.a=y.a/\x.b<y.b):=by
  unfold OQ
  rw [YC]
  rcases Kj x.a y.a with ⟨h1,e1⟩|⟨h1,e1⟩|⟨h1,e1⟩<;>rcases Kj x.b y.b with ⟨h2,e2⟩|⟨h2,e2⟩|⟨h2,e2⟩<;>rw [e1,e2]<;>omega
def Rj (x y:E4):Prop:=¬OQ y x<0
theorem KE {x y:E4}:Rj x y↔x.a<y.a\/(x.a=y.a/\x.b<=y.b):=by unfold Rj;rw [Ec];omega
theorem dF:Go.Sort.SWO (ltOf OQ) where
  irrefl x:=xH (by rw [Ec];omega)
  trans x y z h1 h2:=by
    have h1:=Ec.1 (xT h1)
    have h2:=Ec.1 (xT h2)
    exact xI (Ec.2 Z)
  ntrans x y z h1 h2:=by
    have h1:=xS h1
    have h2:=xS h2
    rw [Ec] at h1 h2
    exact xH (by rw [Ec];omega)
theorem an (AX off size:Nat) (w:World):CmpLays prog 168 #[] Bg 4 OQ AX off size w:=λm os dk _ x y=>by
  rw [Array.append_empty]
  exact (XE x y _).mono λe w' h=>⟨h.1,Q4 h.2⟩
theorem Mf {d:Array E4} {t:Nat} (h:t<d.size*4):(rowsL Bg d.toList)[t]?=some (Go.Sort.flatK Bg 4 d)[t]!:=by
  rw [Go.Sort.get_flatK _ _ _ _ h]
  have h1:t/4<d.size:=by omega
  have h2:=EH DD jA d.toList (t/4) (t%4) (by simpa using h1) (Nat.mod_lt _ jY) (v:=(Bg d[t/4]!)[t%4]!) (by
    rw [List.getD,show d.toList[t/4]?=some d[t/4] from by simp [h1],getElem!_pos d (t/4) h1]
    have hl:t%4<(Bg d[t/4]).length:=by rw [DD];exact Nat.mod_lt _ jY
    show (Bg d[t/4])[t%4]?=some (Bg d[t/4])[t%4]!
    rw [xP hl,getElem!_pos (Bg d[t/4]) (t%4) hl])
  rw [show t/4*4+t%4=t by omega] at h2
  exact h2
def SD (x:E4):List E4->List E4
  | []=>[x]
  | y::r=>if OQ x y<0 then x::y::r else y::SD x r
def Su:List E4->List E4
  | []=>[]
  | x::r=>SD x (Su r)
theorem I5 (x:E4):∀l,(SD x l).Perm (x::l)
  | []=>List.Perm.refl _
  | y::r=>by
    unfold SD
    split
    · exact List.Perm.refl _
    · exact (List.Perm.cons y (I5 x r)).trans (List.Perm.swap x y r)
theorem D5:∀l,(Su l).Perm l
  | []=>List.Perm.refl _
  | x::r=>(I5 x (Su r)).trans (List.Perm.cons x (D5 r))
theorem Jc (x:E4):∀l,l.Pairwise Rj->(SD x l).Pairwise Rj
  | [],_=>List.pairwise_singleton _ _
  | y::r,h=>by
    obtain ⟨h1,h2⟩:=List.pairwise_cons.1 h
    unfold SD
    split
    · rename_i k
      have hxy:Rj x y:=by rw [KE];have:=Ec.1 k;omega
      refine List.pairwise_cons.2 ⟨λz hz=>?_,h⟩
      rcases xN.1 hz with rfl|hz
      · exact hxy
      · have h3:=h1 z hz;rw [KE] at *;omega
    · rename_i k
      refine List.pairwise_cons.2 ⟨λz hz=>?_,Jc x r h2⟩
      rcases xN.1 ((I5 x r).mem_iff.1 hz) with rfl|hz
      · exact k
      · exact h1 z hz
theorem G8:∀l,(Su l).Pairwise Rj
  | []=>List.Pairwise.nil
  | x::r=>Jc x _ (G8 r)
def ML (l:List E4):Prop:=l.Pairwise (λx y=>¬(x.a=y.a/\x.b=y.b))
theorem RR:∀{l:List E4},ML l->∀x∈l,∀y∈l,x.a=y.a->x.b=y.b->x=y
  | z::r,h,x,hx,y,hy,e,e'=>by
    obtain ⟨h1,h2⟩:=List.pairwise_cons.1 h
    rcases xN.1 hx with ex|hx'<;>rcases xN.1 hy with ey|hy'
    · rw [ex,ey]
    · rw [ex] at e e';exact absurd ⟨e,e'⟩ (h1 y hy')
    · rw [ey] at e e';exact absurd ⟨e.symm,e'.symm⟩ (h1 x hx')
    · exact RR h2 x hx' y hy' e e'
theorem Sv {l l':List E4} (hp:l'.Perm l) (hs:l'.Pairwise Rj) (hn:ML l):l'=Su l:=by
  refine List.Perm.eq_of_pairwise (le:=Rj) (λx y hx hy h1 h2=>?_) hs (G8 l) (hp.trans (D5 l).symm)
  rw [KE] at h1 h2
  exact RR hn x (hp.mem_iff.1 hx) y ((D5 l).mem_iff.1 hy) Z Z
theorem V5 (xs:List E4) (p:Option Addr) (n c:Nat) (T:TypeId) (ho:OwnOk p n c) (hp0:p≠none) (hn:n=xs.length) (hN:n<4611686018427387904) (w:World) (hrow:∀b,p.map (·.block)=some b->∃o,w.heap[b]?=some o/\(rowW p T 4 n c (rowsL Bg xs)).P o) :
    Calls prog 167 #[.slice p n c,.func (.func 168) #[] #[]] w λe w'=>e=.returned (.tuple #[])/\Jm w w' (p.map (·.block))/\∃ys:List E4,ys.Perm xs/\ys.Pairwise Rj/\∀b,p.map (·.block)=some b->∃o,w'.heap[b]?=some o/\(rowW p T 4 n c (rowsL Bg ys)).P o:=by
  cases hp:p with
  | none=>exact absurd hp hp0
  | some a =>
    subst hp
    obtain ⟨o,hob,cur,rfl,hsz,hcur⟩:=hrow a.block rfl
    have hat:=ho.at0 a rfl
    have hle:=ho.le
    obtain ⟨d,hd⟩:∃d,d=xs.toArray:=⟨_,rfl⟩
    have hdz:d.size=n:=by rw [hd,hn];simp
    have hdx:d.toList=xs:=by rw [hd]
    have hH:Go.Sort.HoldsK Bg 4 w a.block 0 d:=λj hj=>by
      have hj':j<d.size*4:=by simpa using hj
      refine ⟨?_,by simp [World.frozen?,hob]⟩
      have h1:(cur.toList.take (n*4))[j]?=(rowsL Bg xs)[j]?:=by rw [hcur]
      rw [List.getElem?_take_of_lt Z,Array.getElem?_toList,<-hdx,Mf hj'] at h1
      show w.cell? ⟨a.block,0+j,none⟩=some (id (Go.Sort.flatK Bg 4 d)[j]!)
      unfold World.cell?
      simp only [hob,Nat.zero_add]
      exact h1
    have hlt:a.block<w.heap.size:=by
      rcases Nat.lt_or_ge a.block w.heap.size with h|h
      · exact h
      · rw [Array.getElem?_eq_none h] at hob;cases hob
    have h:=Tryz.slices_SortFunc_Edge 4 isAgg49 sizeOf49 Bg DD (λx v hv=>by
      unfold Bg at hv
      simp only [xN,List.not_mem_nil,or_false] at hv
      rcases hv with rfl|rfl|rfl|rfl<;>rfl) OQ dF 168 #[] a.block 0 c d w call168 (an a.block 0 d.size w) hH hlt Z
    rw [hdz] at h
    rw [hat]
    refine h.mono ?_
    rintro e w' ⟨rfl,d',m,os,⟨hz',_,hperm⟩,hsort,rfl⟩
    have hz2:d'.size=n:=by rw [hz',hdz]
    have hperm':d'.toList.Perm d.toList:=by
      have e1:d'.extract 0 n=d':=by rw [<-hz2];exact Array.extract_size
      have e2:d.extract 0 n=d:=by rw [<-hdz];exact Array.extract_size
      rw [e1,e2] at hperm
      exact hperm
    have hF:(Go.Sort.flatK Bg 4 d').size=n*4:=by rw [Go.Sort.size_flatK,hz2]
    refine ⟨rfl,⟨⟨rfl,rfl,rfl,by simp [sortWorldK,Go.Sort.grow,Go.Sort.putRowK,Go.Sort.putRow,Go.Sort.mapBlock,Go.Sort.ahead],λj hj hne=>?_⟩,by show w.drawn<=w.drawn+m;omega⟩,d'.toList,by rw [<-hdx];exact hperm',List.pairwise_iff_getElem.2 λi j hi hj hij=>?_,λb e=>?_⟩
    · have hne':a.block≠j:=λe=>hne (by rw [e];rfl)
      unfold sortWorldK
      rw [Go.Sort.heap_grow_old _ _ (by simpa [Go.Sort.putRowK,Go.Sort.putRow,Go.Sort.mapBlock,Go.Sort.ahead] using hj)]
      simp [Go.Sort.putRowK,Go.Sort.putRow,Go.Sort.mapBlock,Go.Sort.ahead,Array.getElem?_modify,hne']
    · have hi':i<d'.size:=by simpa using hi
      have hj':j<d'.size:=by simpa using hj
      have h9:=xS (hsort i j (xJ _) hij Z)
      rw [getElem!_pos d' j hj',getElem!_pos d' i hi'] at h9
      simpa [Rj] using h9
    · injection e with e
      subst e
      refine ⟨.cells (Go.Sort.putCells id 0 (Go.Sort.flatK Bg 4 d') cur) T (0,0),?_,_,rfl,by simp [Go.Sort.putCells,hsz],?_⟩
      · unfold sortWorldK
        rw [Go.Sort.heap_grow_old _ _ (by simpa [Go.Sort.putRowK,Go.Sort.putRow,Go.Sort.mapBlock,Go.Sort.ahead] using hlt)]
        simp [Go.Sort.putRowK,Go.Sort.putRow,Go.Sort.mapBlock,Go.Sort.ahead,Array.getElem?_modify,hob,Go.Sort.onCells]
      · apply List.ext_getElem?
        intro j
        have hlen:(rowsL Bg d'.toList).length=n*4:=by rw [AS DD,Array.length_toList,hz2]
        by_cases hj:j<n*4
        · have hcs:n*4<=c*4:=Nat.mul_le_mul_right _ hle
          rw [List.getElem?_take_of_lt hj,Array.getElem?_toList,Mf (by rw [hz2];exact hj)]
          unfold Go.Sort.putCells
          rw [Array.getElem?_mapIdx,Array.getElem?_eq_getElem Z,Option.map_some,if_pos ⟨xJ _,Z⟩]
          rfl
        · rw [List.getElem?_take_eq_none Z,List.getElem?_eq_none Z]
def WT (kvs:List (P2×E4)) (q:Nat):E4:=(kvs.getD q ((0,0),⟨0,0,0,0⟩)).2
theorem Yk {kvs:List (P2×E4)} {q:Nat} {k:P2} {v:E4} (h:kvs[q]?=some (k,v)):WT kvs q=v:=by rw [WT,List.getD,h];rfl
theorem LK:∀{n:Nat} {l:List Nat},l.Nodup->(∀x∈l,x<n)->l.length<=n
  | 0,[],_,_=>Nat.le_refl _
  | 0,x::r,_,h=>absurd (h x List.mem_cons_self) (Nat.not_lt_zero _)
  | n+1,l,h1,h2=>by
    have h3:(l.erase n).length<=n:=LK (h1.erase n) λx hx=>by
      have h4:=h2 x (List.mem_of_mem_erase hx)
      have h5:x≠n:=λe=>by
        rw [e] at hx
        exact h1.not_mem_erase hx
      omega
    rw [List.length_erase] at h3
    split at h3<;>omega
theorem Tk {kvs:List (P2×E4)} {seen:List Nat} (h1:seen.Nodup) (h2:∀x∈seen,x<kvs.length) (h3:∀q,q<kvs.length->q∈seen):(seen.map (WT kvs)).Perm (kvs.map (·.2)):=by
  have hp:seen.Perm (List.range kvs.length):=(List.perm_ext_iff_of_nodup h1 List.nodup_range).2 λq=>⟨λh=>List.mem_range.2 (h2 q h),λh=>h3 q (List.mem_range.1 h)⟩
  refine (hp.map _).trans (List.Perm.of_eq ?_)
  apply List.ext_getElem?
  intro q
  rw [List.getElem?_map,List.getElem?_map]
  rcases Nat.lt_or_ge q kvs.length with h|h
  · rw [List.getElem?_range h,xP h]
    simp [WT,List.getD,h]
  · rw [List.getElem?_eq_none (by simpa using h),List.getElem?_eq_none h];rfl
def PS (kvs:List (P2×E4)):Prop:=∀p∈kvs,p.2.a=p.1.1/\p.2.b=p.1.2
theorem M7 (e:E4) (t a b:Nat):(Fm e t a b).a=e.a/\(Fm e t a b).b=e.b:=by
  unfold Fm
  split
  · exact ⟨rfl,rfl⟩
  · split<;>exact ⟨rfl,rfl⟩
theorem K5 {kvs:List (P2×E4)} {x:P2} {v:E4} (h:BW kvs x=some v):(x,v)∈kvs:=by
  induction kvs with
  | nil=>cases h
  | cons p r ih =>
    obtain ⟨k,u⟩:=p
    unfold BW at h
    split at h
    · rename_i e
      injection h with h
      rw [e,h];exact List.mem_cons_self
    · exact List.mem_cons_of_mem _ (ih h)
theorem R9 {kvs:List (P2×E4)} (h:PS kvs) (x:P2):((BW kvs x).getD (JD x)).a=x.1/\((BW kvs x).getD (JD x)).b=x.2:=by
  cases hg:BW kvs x with
  | none=>exact ⟨rfl,rfl⟩
  | some v=>exact h _ (K5 hg)
theorem Sg {kvs:List (P2×E4)} {x:P2} {y:E4} {p:P2×E4} (h:p∈Bl kvs x y):p=(x,y)\/p∈kvs:=by
  induction kvs with
  | nil=>exact .inl (xO.1 h)
  | cons q r ih =>
    obtain ⟨k,u⟩:=q
    unfold Bl at h
    split at h
    · rename_i e
      rcases xN.1 h with h|h
      · exact .inl (by rw [h,e])
      · exact .inr (List.mem_cons_of_mem _ h)
    · rcases xN.1 h with h|h
      · exact .inr (by rw [h];exact List.mem_cons_self)
      · exact (ih h).imp_right (List.mem_cons_of_mem _)
theorem Kq (ts:List (Tq3)):∀s,PS (Cl ts s)
  | 0=>λp h=>by cases h
  | s+1=>λp h=>by
    have h0:=Kq ts s
    rcases Sg h with rfl|h
    · have h1:=R9 h0 (CP (FV (ts.getD (s/3) (0,0,0)) (s%3)) (FV (ts.getD (s/3) (0,0,0)) ((s%3+1)%3)))
      have h2:=M7 ((BW (Cl ts s) (CP (FV (ts.getD (s/3) (0,0,0)) (s%3)) (FV (ts.getD (s/3) (0,0,0)) ((s%3+1)%3)))).getD (JD (CP (FV (ts.getD (s/3) (0,0,0)) (s%3)) (FV (ts.getD (s/3) (0,0,0)) ((s%3+1)%3))))) (s/3) (FV (ts.getD (s/3) (0,0,0)) (s%3)) (FV (ts.getD (s/3) (0,0,0)) ((s%3+1)%3))
      exact ⟨h2.1.trans h1.1,h2.2.trans h1.2⟩
    · exact h0 p h
theorem Mr {kvs:List (P2×E4)} {ok:P2->Prop} (h:N8 ok kvs) (he:PS kvs):ML (kvs.map (·.2)):=by
  unfold ML
  rw [List.pairwise_map]
  refine List.Pairwise.imp_of_mem (λ{p q} hp hq hne=>?_) h.once
  rintro ⟨e1,e2⟩
  have h1:=he p hp
  have h2:=he q hq
  exact hne (Prod.ext (by rw [<-h1.1,<-h2.1,e1]) (by rw [<-h1.2,<-h2.2,e2]))
def BR (ts:List (Tq3)):List E4:=Su ((Cl ts (3*ts.length)).map (·.2))
theorem ZR {ts:List (Tq3)} {N:Nat} {xs ys:List E4} (hn:Be N ts=true) (hN:N<=4611686018427387904) (h1:ys.Perm xs) (h2:ys.Pairwise Rj) (h3:xs.Perm ((Cl ts (3*ts.length)).map (·.2))):ys=BR ts :=
  Sv (h1.trans h3) h2 (Mr (Fk hn hN _ (Nat.le_refl _)) (Kq ts _))
theorem IL (ts:List (Tq3)):(BR ts).length=(Cl ts (3*ts.length)).length:=by rw [BR,(D5 _).length_eq,xK]
section
variable {P:Program} {ops:Array Oper} {rest:List Oper} {Q:Exit->Act->World->Prop} {n:Nat} {F:List (Nat×Value)} {w0:BC} {L:List As}
theorem AR.callS {o:Oper} {f:FuncId} {args:Array Value} {v:Value} (i:Nat) {q:Option Addr} {T:TypeId} {m c:Nat} {xs ys:List E4} (hw:Wt ops n F o)
    (he:∀a w,Ce n a F->BD w0 w L->(execOp a.eval o).run P w=.ok (.enter f args) w) (hi:L[i]?=some (rowW q T 4 m c (rowsL Bg xs)))
    (hc:∀w,BD w0 w L->Calls P f args w λe w'=>e=.returned v/\Jm w w' (q.map (·.block))/\∃zs:List E4,zs.Perm xs/\zs.Pairwise Rj/\∀b,q.map (·.block)=some b->∃o,w'.heap[b]?=some o/\(rowW q T 4 m c (rowsL Bg zs)).P o)
    (hu:∀zs:List E4,zs.Perm xs->zs.Pairwise Rj->zs=ys)
    (hd:∀d,o.dst=some d->d<n) (next:AR P ops rest Q n (match o.dst with|some d=>(d,v)::F|none=>F) w0 (L.set i (rowW q T 4 m c (rowsL Bg ys)))):AR P ops (o::rest) Q n F w0 L :=
  AR.callW i hw he hi (λw hW=>(hc w hW).mono λe w' ⟨h1,h2,zs,h3,h4,h5⟩=>⟨h1,h2,by rw [<-hu zs h3 h4];exact h5⟩) hd next
end
theorem K3 {kvs:List (P2×E4)} {k:P2} (h:(BW kvs k).isSome=false):JD k=(BW kvs k).getD (JD k):=by
  cases hg:BW kvs k with
  | none=>rfl
  | some v=>rw [hg] at h;cases h
theorem K4 {kvs:List (P2×E4)} {k:P2} {z:E4} (h:(BW kvs k).isSome=true):(BW kvs k).getD z=(BW kvs k).getD (JD k):=by
  cases hg:BW kvs k with
  | none=>rw [hg] at h;cases h
  | some v=>rfl
end
structure CX (cs:List Value) (n:Nat) where
  p:Option Addr
  ok:Ay p n n
instance {cs:List Value} {n:Nat}:C4 (CX cs n):=⟨λa=>.slice a.p n n,λa=>[AF a.p cs],λa y hy=>by rcases xO.1 hy with rfl;rfl⟩
theorem bC {S:Nat->Prop} {W w:World} {L:List As} (hw:BD ⟨W,none⟩ w L) (i:Nat) {p:Option Addr} {T:TypeId} {z n c:Nat} {cs:List Value} (hi:L[i]?=some (rowW p T z n c cs)) (ho:OwnOk p n c) (hl:cs.length=n*z) {v:Value} (hv:v=.slice p n n):Bf (CX cs n) S W (.returned v) w :=
  ⟨⟨p,⟨λe=>⟨(ho.nil e).1,(ho.nil e).1⟩,λa e=>by rw [ho.at0 a e],Nat.le_refl _⟩⟩,by rw [hv];rfl,hw.out,λy hy=>by rcases xO.1 hy with rfl;exact GS hw i hi ho hl⟩
theorem Bf.ofCX {S:Nat->Prop} {W w:World} {e:Ending} {cs:List Value} {n:Nat} (h:Bf (CX cs n) S W e w):Bf (RX cs n) S W e w:=by
  obtain ⟨a,h1,h2,h3⟩:=h
  exact ⟨⟨a.p,n,a.ok⟩,h1,h2,λy hy=>by rcases xO.1 hy with rfl;exact h3 _ List.mem_cons_self⟩
section
set_option maxRecDepth 100000
theorem bV:ElemT prog 46 49 4 32:=⟨underlying46,FC jV⟩
theorem HR:PU prog 240 Jp X9 where
 law:=.of_law (deep_law_laid Y0 (m:=2) jY (by decide +kernel) jV jV)
 key:=λa h=>Mm underlying240 ⟨rfl,rfl⟩ ⟨rfl,rfl⟩ (by decide +kernel) underlying3 jV jV jV (by decide +kernel) (N1 h.1) (N1 h.2)
 inj:=λa b h=>Ov h
theorem T7 (p:Option Addr) (n cp:Nat) (h:n<=cp) (w:World)  :Calls prog 119 #[(qz p n cp)] w (Ad w (qz p n n)):=by
 refine AY (args:=[(qz p n cp)]) func119 O O (BA O) (zM (sL [0] O) (q4 (asg' O (oNl' (q2 (AL O (AL O (AD (v:=(vN n)) (AE O underlying46) O (AL O (AD (v:=(vN n)) (AE O underlying46) O (AD (v:=(qz p n n)) (EY (m:=n) O O O underlying46 sizeOf49 Z) O ?_)))))))))))
 exact asg' O (oNl' (zB (sL [2] O) (zA (zF (ret_one O (rd_tmp (v:=(qz p n n)) O) (λw hw=>⟨rfl,hw.out⟩))))))
theorem Ll (x0:E4):Instr.fill (λi=>some (i*4,4)) ((Array.range (1*4)).map ((Value.agg (Bg jA).toArray).cells[·%(Value.agg (Bg jA).toArray).cells.size]!)) [(0,.agg (Bg x0).toArray)]=some (Bg x0).toArray:=by kernel_rfl
set_option maxHeartbeats 4000000 in
theorem MY (ts:List (Tq3)) (x:RX (rowsL Ac ts) ts.length) (N:Nat) (hn:Be N ts=true) (hN:N<=4611686018427387904) (hl:ts.length<=1000000000) (w:World) {S:Nat->Prop} (hx:Ro S w x):Calls prog 101 #[(qz x.p ts.length x.c)] w (Bf (CX (rowsL Bg (BR ts)) (BR ts).length) S w):=by
 have lx:=Da (W:=w) hx
 refine Ah (args:=[(qz x.p ts.length x.c)]) (L:=[AF x.p (rowsL Ac ts)]) func101 O O (BA O) (Db hx A7) (zM (sL [0] O) (q4 (asg' O (oNl' (q2 (yn Jp N0 (AI O) O λb1=>asg' O (q6 (sL [0,2,3] O) (q4 (AL O (AD (v:=(vN ts.length)) (AE O underlying23) O ?_))))))))))
 refine AL O (oNl' (zB (sL [2,3,16,17,18] O) (zA (zJ ?_))))
 refine zw (tg λ(t:Nat)=>t<=ts.length) (tg λ(t:Nat)=>[(2,jj),(3,(Value.map (some b1))),(16,(qz x.p ts.length x.c)),(17,(vN ts.length)),(18,(vN t))]) (tg λ(t:Nat)=>[Ds b1 Jp N0 (Cl ts (3*t+0)),AF x.p (rowsL Ac ts)]) (tg λ(t:Nat)=>ts.length-t) 0 (xJ _) (sF O) sr (λt hJ=>?_)
 have ht:=hJ
 refine q4 (AD (Aa (c:=(decide (t<ts.length))) O O (DB (a:=t) (b:=ts.length))) O (oNl' (q1 ?_)))
 refine zL O (λhc0=>?_) (λhc0=>?_)
 ·replace hc0:=xT hc0
  obtain ⟨T,hT⟩:∃q,q=ts.getD t (0,0,0):=⟨_,rfl⟩
  obtain ⟨g1,g2,g3⟩:=DQ (Cb hn hc0)
  rw [<-hT] at g1 g2 g3
  refine zC (q1 (zJ (q4 (AL O (AD (v:=(pP (pB x.p) (pO x.p+t*3))) (AM (j:=t) O O x.ok underlying23 sizeOf105 O Z) O (AD (v:=(aG (Ac (ts.getD t jJ)))) (AO (vs:=Ac (ts.getD t jJ)) (i:=1) O O (Ay.ne x.ok Z) C8 (Af Aq _ _ _ Z) (Aq _)) O (zI (k:=22) (u:=(aG (Ac T))) O (by rw [hT]) (al HA O λb2=>asg' O (Ag O sizeOf105 O (q3 (sL [2,3,16,17,18,5,4] O) ?_))))))))))
  refine AL O (oNl' (zA (zJ (yC 4 (zf (q4 (AD (Aa (c:=true) O O jY) O (oNl' (q1 (zV O (zC ?_)))))))))))
  refine q1 (zJ (q4 (AL O (asg' O (q6 (sL [2,3,16,17,18,5,4,23,6] O) (DC (Er 10) sr (By O (Am (v:=(pP b2 0)) O (AB (j:=0) O O underlying105 sizeOf3 O jY O) (BU 0 (vN T.1) Bm O (By O (Am O (AT (c:=(1:Int)) O O jY) ?_)))))))))))
  refine Am O (CB (c:=(1:Int)) O O jY jY) (Am (v:=(pP b2 1)) O (AB (j:=1) O O underlying105 sizeOf3 O jY O) (BU 0 (vN T.2.1) Bm O (pS' O (pS' O (zQ (zB (sL [2,3,16,17,18,5,4,23,7,8] O) (q2 (AL O (AL O (AD (Gx (c:=((min T.1 T.2.1:Nat):Int)) O O (by split<;>omega)) O (AL O ?_)))))))))))
  refine AL O (AD (GJ (c:=((max T.1 T.2.1:Nat):Int)) O O (by split<;>omega)) O (AD (v:=(aG ([(vN (min T.1 T.2.1)),(vN (max T.1 T.2.1))]))) (AP (zs:=A6 ((0,0):P2)) (vs:=[(vN (min T.1 T.2.1)),(vN (max T.1 T.2.1))]) (pv:=[(0,(vN (min T.1 T.2.1))),(1,(vN (max T.1 T.2.1)))]) (places:=[(0,1),(1,1)]) zeroValue240 underlying240 (λw=>by simp [sizeOf3]) O O) O (al WI O λb3=>Ag O sizeOf240 O (q3 (sL [2,3,16,17,18,5,4,23,7,8,9] O) (AL O (Al 0 Mz O (AD (v:=(Value.tuple #[(aG (Bg ((BW (Cl ts (3*t+0)) ((min T.1 T.2.1,max T.1 T.2.1):P2)).getD jA))),(qa ((BW (Cl ts (3*t+0)) ((min T.1 T.2.1,max T.1 T.2.1):P2)).isSome))])) (HN HR 2 (eV:=N0) (kvs:=Cl ts (3*t+0)) (x:=((min T.1 T.2.1,max T.1 T.2.1):P2)) (z0:=jA) (co:=true) O O underlying239 zeroValue49 O (Fk hn hN _ Z) (EE Z Z)) O (AL O (AD (AK (v:=(aG (Bg ((BW (Cl ts (3*t+0)) ((min T.1 T.2.1,max T.1 T.2.1):P2)).getD jA)))) O O) O (AD (AK (v:=(qa ((BW (Cl ts (3*t+0)) ((min T.1 T.2.1,max T.1 T.2.1):P2)).isSome))) O O) O ?_))))))))))
  refine al Io O λb4=>Ag O sizeOf49 O (asg' O (q6 (sL [2,3,16,17,18,5,4,23,7,8,9,10,11] O) (q4 (AL O (AD (BK (c:=(!((BW (Cl ts (3*t+0)) ((min T.1 T.2.1,max T.1 T.2.1):P2)).isSome))) O O) O (oNl' (zB (sL [2,3,16,17,18,5,4,23,7,8,9,10,48] O) (zA ?_))))))))
  refine yF (tg λ(e00:E4)=>e00=(BW (Cl ts (3*t+0)) (min T.1 T.2.1,max T.1 T.2.1)).getD (JD (min T.1 T.2.1,max T.1 T.2.1))) (tg λ(e00:E4)=>[(2,jj),(3,(Value.map (some b1))),(16,(qz x.p ts.length x.c)),(17,(vN ts.length)),(18,(vN t)),(5,(pP b2 0)),(4,(vN t)),(23,(vI 0)),(7,(vN T.1)),(8,(vN T.2.1)),(9,(pP b3 0)),(10,(pP b4 0))]) (tg λ(e00:E4)=>[AX b4 49 (Bg e00),AX b3 240 ([(vN (min T.1 T.2.1)),(vN (max T.1 T.2.1))]),AX b2 105 (Ac T),Ds b1 Jp N0 (Cl ts (3*t+0)),AF x.p (rowsL Ac ts)]) ?_ ?_
  ·refine zL O (λhc2=>?_) (λhc2=>?_)
   ·simp only [jK] at hc2
    exact zH (AD (v:=(pP b3 0)) (AA O underlying240 O sizeOf3 O) O (BF 1 (vN (min T.1 T.2.1)) Bm O (AD (v:=(pP b3 1)) (AA O underlying240 O sizeOf3 O) O (BF 1 (vN (max T.1 T.2.1)) Bm O (AD (v:=(aG ([(vN (min T.1 T.2.1)),(vN (max T.1 T.2.1)),(vI (-1:Int)),(vI (-1:Int))]))) (AP (zs:=Bg jA) (vs:=[(vN (min T.1 T.2.1)),(vN (max T.1 T.2.1)),(vI (-1:Int)),(vI (-1:Int))]) (pv:=[(0,(vN (min T.1 T.2.1))),(1,(vN (max T.1 T.2.1))),(2,(vI (-1:Int))),(3,(vI (-1:Int)))]) (places:=[(0,1),(1,1),(2,1),(3,1)]) zeroValue49 underlying49 (λw=>by simp [sizeOf3]) O O) O (Ag O sizeOf49 O (oNl' (zB (sL [2,3,16,17,18,5,4,23,7,8,9,10] O) (zi (⟨min T.1 T.2.1,max T.1 T.2.1,-1,-1⟩:E4) ((K3 (k:=(min T.1 T.2.1,max T.1 T.2.1)) (by simpa using hc2))) (sF O) sr)))))))))
   ·simp only [jK] at hc2
    exact zC (zi ((BW (Cl ts (3*t+0)) ((min T.1 T.2.1,max T.1 T.2.1):P2)).getD jA) ((K4 (by simpa using hc2))) (sF O) sr)
  ·intro e00 hJ
   have he0:=hJ
   refine q1 ?_
   refine yF (tg λ(e20:E4)=>e20=Fm e00 t T.1 T.2.1) (tg λ(e20:E4)=>[(2,jj),(3,(Value.map (some b1))),(16,(qz x.p ts.length x.c)),(17,(vN ts.length)),(18,(vN t)),(5,(pP b2 0)),(4,(vN t)),(23,(vI 0)),(9,(pP b3 0)),(10,(pP b4 0))]) (tg λ(e20:E4)=>[AX b4 49 (Bg e20),AX b3 240 ([(vN (min T.1 T.2.1)),(vN (max T.1 T.2.1))]),AX b2 105 (Ac T),Ds b1 Jp N0 (Cl ts (3*t+0)),AF x.p (rowsL Ac ts)]) ?_ ?_
   ·refine zJ (q4 (AL O (AL O (AD (Aa (c:=(decide (T.1<T.2.1))) O O (DB (a:=T.1) (b:=T.2.1))) O (AL O ?_)))))
    refine ze (FM:=[(2,jj),(3,(Value.map (some b1))),(16,(qz x.p ts.length x.c)),(17,(vN ts.length)),(18,(vN t)),(5,(pP b2 0)),(4,(vN t)),(23,(vI 0)),(7,(vN T.1)),(8,(vN T.2.1)),(9,(pP b3 0)),(10,(pP b4 0)),(55,(vN T.1)),(56,(vN T.2.1)),(57,(qa (decide (T.1<T.2.1)))),(58,(qa (decide (T.1<T.2.1)))),(62,(qa ((decide (T.1<T.2.1))&&(decide (e00.l=(-1:Int))))))]) (LM:=[AX b4 49 (Bg e00),AX b3 240 ([(vN (min T.1 T.2.1)),(vN (max T.1 T.2.1))]),AX b2 105 (Ac T),Ds b1 Jp N0 (Cl ts (3*t+0)),AF x.p (rowsL Ac ts)]) 4 ?_ ?_
    ·rcases xQ (decide (T.1<T.2.1)) with hg1|hg1
     ·refine zI (k:=58) (u:=qa true) O (by rw [hg1]) ?_
      have hg1':=xT hg1
      exact BM (v:=(pP b4 2)) O (AA O underlying49 O sizeOf3 O) (BM (v:=(vI e00.l)) O (AH (i:=0) (v:=(vI e00.l)) O O Bm.a O) (BM (v:=(qa (decide (e00.l=(-1:Int))))) O (BL (c:=(decide (e00.l=(-1:Int)))) O O O) (AD (v:=(qa (decide (e00.l=(-1:Int))))) (AW O O) O (oNl' (zR Cc (xR _))))))
     ·refine zI (k:=58) (u:=qa false) O (by rw [hg1]) ?_
      have hg1':=xS hg1
      exact BO O (BO O (BO O (AD (v:=(qa false)) (AQ O O) O (oNl' (zR Cc (xR _))))))
    refine asg' O (oNl' (zB (sL [2,3,16,17,18,5,4,23,7,8,9,10,54] O) (zA ?_)))
    refine zL O (λhc3=>?_) (λhc3=>?_)
    ·simp only [jK] at hc3
     exact zH (AL O (AD (v:=(pP b4 2)) (AA O underlying49 O sizeOf3 O) O (F8 0 (off:=2) (vs:=[(vN t)]) (cs':=[(vN e00.a),(vN e00.b),(vN t),(vI e00.r)]) (AI O) O sizeOf3 O (oNl' (zB (sL [2,3,16,17,18,5,4,23,7,8,9,10] O) (zG (zi (⟨e00.a,e00.b,((t:Nat):Int),e00.r⟩:E4) ((by unfold Fm;rw [if_pos Z])) (sF O) sr)))))))
    ·simp only [jK] at hc3
     refine q4 (AL O (AL O (AD (D_ (c:=(decide (T.2.1<T.1))) O O (DB (a:=T.2.1) (b:=T.1))) O (AL O ?_))))
     refine ze (FM:=[(2,jj),(3,(Value.map (some b1))),(16,(qz x.p ts.length x.c)),(17,(vN ts.length)),(18,(vN t)),(5,(pP b2 0)),(4,(vN t)),(23,(vI 0)),(7,(vN T.1)),(8,(vN T.2.1)),(9,(pP b3 0)),(10,(pP b4 0)),(66,(vN T.1)),(67,(vN T.2.1)),(68,(qa (decide (T.2.1<T.1)))),(69,(qa (decide (T.2.1<T.1)))),(73,(qa ((decide (T.2.1<T.1))&&(decide (e00.r=(-1:Int))))))]) (LM:=[AX b4 49 (Bg e00),AX b3 240 ([(vN (min T.1 T.2.1)),(vN (max T.1 T.2.1))]),AX b2 105 (Ac T),Ds b1 Jp N0 (Cl ts (3*t+0)),AF x.p (rowsL Ac ts)]) 4 ?_ ?_
     ·rcases xQ (decide (T.2.1<T.1)) with hg2|hg2
      ·refine zI (k:=69) (u:=qa true) O (by rw [hg2]) ?_
       have hg2':=xT hg2
       exact BM (v:=(pP b4 3)) O (AA O underlying49 O sizeOf3 O) (BM (v:=(vI e00.r)) O (AH (i:=0) (v:=(vI e00.r)) O O Bm.a O) (BM (v:=(qa (decide (e00.r=(-1:Int))))) O (BL (c:=(decide (e00.r=(-1:Int)))) O O O) (AD (v:=(qa (decide (e00.r=(-1:Int))))) (AW O O) O (oNl' (zR Hi (xR _))))))
      ·refine zI (k:=69) (u:=qa false) O (by rw [hg2]) ?_
       have hg2':=xS hg2
       exact BO O (BO O (BO O (AD (v:=(qa false)) (AQ O O) O (oNl' (zR Hi (xR _))))))
     refine asg' O (oNl' (zB (sL [2,3,16,17,18,5,4,23,7,8,9,10,65] O) (zA ?_)))
     refine zL O (λhc4=>?_) (λhc4=>?_)
     ·simp only [jK] at hc4
      exact zH (AL O (AD (v:=(pP b4 3)) (AA O underlying49 O sizeOf3 O) O (F8 0 (off:=3) (vs:=[(vN t)]) (cs':=[(vN e00.a),(vN e00.b),(vI e00.l),(vN t)]) (AI O) O sizeOf3 O (oNl' (zB (sL [2,3,16,17,18,5,4,23,7,8,9,10] O) (zG (zi (⟨e00.a,e00.b,e00.l,((t:Nat):Int)⟩:E4) ((by unfold Fm;rw [if_neg Z,if_pos Z])) (sF O) sr)))))))
     ·simp only [jK] at hc4
      exact zC (zG (zi e00 ((by unfold Fm;rw [if_neg Z,if_neg Z])) (sF O) sr))
   ·intro e20 hJ
    have hu0:=hJ
    refine zA (zH (AL O (Al 1 Mz O (Al 0 Hg O (yZ HR 3 (kvs:=Cl ts (3*t+0)) (x:=((min T.1 T.2.1,max T.1 T.2.1):P2)) (y:=e20) (AI O) O O O underlying239 O (Fk hn hN _ Z) (EE Z Z) ?_)))))
    rw [show Bl (Cl ts (3*t+0)) ((min T.1 T.2.1,max T.1 T.2.1):P2) e20=Cl ts (3*t+1) from by rw [hu0,he0,hT];exact (Kr (ts:=ts) (t:=t) (i:=0) Z).symm]
    refine oNl' (zB (sL [2,3,16,17,18,5,4,23,9,10] O) (zG (zA (zH (AD (AT (c:=(1:Int)) O O jY) O (AL O (oNl' (zB (sL [2,3,16,17,18,5,4,23,9,10] O) (zk (zf (q4 ?_)))))))))))
    refine AD (Aa (c:=true) O O jY) O (oNl' (q1 (zV O (zC (q1 (zJ (q4 (AL O (asg' O (q6 (sL [2,3,16,17,18,5,4,23,9,10,6] O) (DC (Er 10) sr ?_)))))))))))
    refine By O (Am (v:=(pP b2 1)) O (AB (j:=1) O O underlying105 sizeOf3 O jY O) (BU 2 (vN T.2.1) Bm O (By O (Am O (AT (c:=(2:Int)) O O jY) (Am O (CB (c:=(2:Int)) O O jY jY) (Am (v:=(pP b2 2)) O (AB (j:=2) O O underlying105 sizeOf3 O jY O) (BU 2 (vN T.2.2) Bm O (pS' O (pS' O (zQ (zB (sL [2,3,16,17,18,5,4,23,9,10,7,8] O) ?_)))))))))))
    refine q2 (AL O (AL O (AD (Gx (c:=((min T.2.1 T.2.2:Nat):Int)) O O (by split<;>omega)) O (AL O (AL O (AD (GJ (c:=((max T.2.1 T.2.2:Nat):Int)) O O (by split<;>omega)) O (AD (v:=(aG ([(vN (min T.2.1 T.2.2)),(vN (max T.2.1 T.2.2))]))) (AP (zs:=A6 ((0,0):P2)) (vs:=[(vN (min T.2.1 T.2.2)),(vN (max T.2.1 T.2.2))]) (pv:=[(0,(vN (min T.2.1 T.2.2))),(1,(vN (max T.2.1 T.2.2)))]) (places:=[(0,1),(1,1)]) zeroValue240 underlying240 (λw=>by simp [sizeOf3]) O O) O (al WI O λb5=>Ag O sizeOf240 O (q3 (sL [2,3,16,17,18,5,4,23,9,10,7,8] O) (AL O ?_))))))))))
    refine Al 0 Mz O (AD (v:=(Value.tuple #[(aG (Bg ((BW (Cl ts (3*t+1)) ((min T.2.1 T.2.2,max T.2.1 T.2.2):P2)).getD jA))),(qa ((BW (Cl ts (3*t+1)) ((min T.2.1 T.2.2,max T.2.1 T.2.2):P2)).isSome))])) (HN HR 4 (eV:=N0) (kvs:=Cl ts (3*t+1)) (x:=((min T.2.1 T.2.2,max T.2.1 T.2.2):P2)) (z0:=jA) (co:=true) O O underlying239 zeroValue49 O (Fk hn hN _ Z) (EE Z Z)) O (AL O (AD (AK (v:=(aG (Bg ((BW (Cl ts (3*t+1)) ((min T.2.1 T.2.2,max T.2.1 T.2.2):P2)).getD jA)))) O O) O (AD (AK (v:=(qa ((BW (Cl ts (3*t+1)) ((min T.2.1 T.2.2,max T.2.1 T.2.2):P2)).isSome))) O O) O (al Io O λb6=>Ag O sizeOf49 O (asg' O (q6 (sL [2,3,16,17,18,5,4,23,9,10,7,8,11] O) (q4 (AL O (AD (BK (c:=(!((BW (Cl ts (3*t+1)) ((min T.2.1 T.2.2,max T.2.1 T.2.2):P2)).isSome))) O O) O ?_))))))))))
    refine oNl' (zB (sL [2,3,16,17,18,5,4,23,9,10,7,8,48] O) (zA ?_))
    refine yF (tg λ(e01:E4)=>e01=(BW (Cl ts (3*t+1)) (min T.2.1 T.2.2,max T.2.1 T.2.2)).getD (JD (min T.2.1 T.2.2,max T.2.1 T.2.2))) (tg λ(e01:E4)=>[(2,jj),(3,(Value.map (some b1))),(16,(qz x.p ts.length x.c)),(17,(vN ts.length)),(18,(vN t)),(5,(pP b2 0)),(4,(vN t)),(23,(vI 1)),(9,(pP b5 0)),(10,(pP b6 0)),(7,(vN T.2.1)),(8,(vN T.2.2))]) (tg λ(e01:E4)=>[AX b6 49 (Bg e01),AX b5 240 ([(vN (min T.2.1 T.2.2)),(vN (max T.2.1 T.2.2))]),AX b4 49 (Bg e20),AX b3 240 ([(vN (min T.1 T.2.1)),(vN (max T.1 T.2.1))]),AX b2 105 (Ac T),Ds b1 Jp N0 (Cl ts (3*t+1)),AF x.p (rowsL Ac ts)]) ?_ ?_
    ·refine zL O (λhc2=>?_) (λhc2=>?_)
     ·simp only [jK] at hc2
      exact zH (AD (v:=(pP b5 0)) (AA O underlying240 O sizeOf3 O) O (BF 1 (vN (min T.2.1 T.2.2)) Bm O (AD (v:=(pP b5 1)) (AA O underlying240 O sizeOf3 O) O (BF 1 (vN (max T.2.1 T.2.2)) Bm O (AD (v:=(aG ([(vN (min T.2.1 T.2.2)),(vN (max T.2.1 T.2.2)),(vI (-1:Int)),(vI (-1:Int))]))) (AP (zs:=Bg jA) (vs:=[(vN (min T.2.1 T.2.2)),(vN (max T.2.1 T.2.2)),(vI (-1:Int)),(vI (-1:Int))]) (pv:=[(0,(vN (min T.2.1 T.2.2))),(1,(vN (max T.2.1 T.2.2))),(2,(vI (-1:Int))),(3,(vI (-1:Int)))]) (places:=[(0,1),(1,1),(2,1),(3,1)]) zeroValue49 underlying49 (λw=>by simp [sizeOf3]) O O) O (Ag O sizeOf49 O (oNl' (zB (sL [2,3,16,17,18,5,4,23,9,10,7,8] O) (zi (⟨min T.2.1 T.2.2,max T.2.1 T.2.2,-1,-1⟩:E4) ((K3 (k:=(min T.2.1 T.2.2,max T.2.1 T.2.2)) (by simpa using hc2))) (sF O) sr)))))))))
     ·simp only [jK] at hc2
      exact zC (zi ((BW (Cl ts (3*t+1)) ((min T.2.1 T.2.2,max T.2.1 T.2.2):P2)).getD jA) ((K4 (by simpa using hc2))) (sF O) sr)
    ·intro e01 hJ
     have he1:=hJ
     refine q1 ?_
     refine yF (tg λ(e21:E4)=>e21=Fm e01 t T.2.1 T.2.2) (tg λ(e21:E4)=>[(2,jj),(3,(Value.map (some b1))),(16,(qz x.p ts.length x.c)),(17,(vN ts.length)),(18,(vN t)),(5,(pP b2 0)),(4,(vN t)),(23,(vI 1)),(9,(pP b5 0)),(10,(pP b6 0))]) (tg λ(e21:E4)=>[AX b6 49 (Bg e21),AX b5 240 ([(vN (min T.2.1 T.2.2)),(vN (max T.2.1 T.2.2))]),AX b4 49 (Bg e20),AX b3 240 ([(vN (min T.1 T.2.1)),(vN (max T.1 T.2.1))]),AX b2 105 (Ac T),Ds b1 Jp N0 (Cl ts (3*t+1)),AF x.p (rowsL Ac ts)]) ?_ ?_
     ·refine zJ (q4 (AL O (AL O (AD (Aa (c:=(decide (T.2.1<T.2.2))) O O (DB (a:=T.2.1) (b:=T.2.2))) O (AL O ?_)))))
      refine ze (FM:=[(2,jj),(3,(Value.map (some b1))),(16,(qz x.p ts.length x.c)),(17,(vN ts.length)),(18,(vN t)),(5,(pP b2 0)),(4,(vN t)),(23,(vI 1)),(9,(pP b5 0)),(10,(pP b6 0)),(7,(vN T.2.1)),(8,(vN T.2.2)),(55,(vN T.2.1)),(56,(vN T.2.2)),(57,(qa (decide (T.2.1<T.2.2)))),(58,(qa (decide (T.2.1<T.2.2)))),(62,(qa ((decide (T.2.1<T.2.2))&&(decide (e01.l=(-1:Int))))))]) (LM:=[AX b6 49 (Bg e01),AX b5 240 ([(vN (min T.2.1 T.2.2)),(vN (max T.2.1 T.2.2))]),AX b4 49 (Bg e20),AX b3 240 ([(vN (min T.1 T.2.1)),(vN (max T.1 T.2.1))]),AX b2 105 (Ac T),Ds b1 Jp N0 (Cl ts (3*t+1)),AF x.p (rowsL Ac ts)]) 4 ?_ ?_
      ·rcases xQ (decide (T.2.1<T.2.2)) with hg3|hg3
       ·refine zI (k:=58) (u:=qa true) O (by rw [hg3]) ?_
        have hg3':=xT hg3
        exact BM (v:=(pP b6 2)) O (AA O underlying49 O sizeOf3 O) (BM (v:=(vI e01.l)) O (AH (i:=0) (v:=(vI e01.l)) O O Bm.a O) (BM (v:=(qa (decide (e01.l=(-1:Int))))) O (BL (c:=(decide (e01.l=(-1:Int)))) O O O) (AD (v:=(qa (decide (e01.l=(-1:Int))))) (AW O O) O (oNl' (zR PJ (xR _))))))
       ·refine zI (k:=58) (u:=qa false) O (by rw [hg3]) ?_
        have hg3':=xS hg3
        exact BO O (BO O (BO O (AD (v:=(qa false)) (AQ O O) O (oNl' (zR PJ (xR _))))))
      refine asg' O (oNl' (zB (sL [2,3,16,17,18,5,4,23,9,10,7,8,54] O) (zA ?_)))
      refine zL O (λhc3=>?_) (λhc3=>?_)
      ·simp only [jK] at hc3
       exact zH (AL O (AD (v:=(pP b6 2)) (AA O underlying49 O sizeOf3 O) O (F8 0 (off:=2) (vs:=[(vN t)]) (cs':=[(vN e01.a),(vN e01.b),(vN t),(vI e01.r)]) (AI O) O sizeOf3 O (oNl' (zB (sL [2,3,16,17,18,5,4,23,9,10,7,8] O) (zG (zi (⟨e01.a,e01.b,((t:Nat):Int),e01.r⟩:E4) ((by unfold Fm;rw [if_pos Z])) (sF O) sr)))))))
      ·simp only [jK] at hc3
       refine q4 (AL O (AL O (AD (D_ (c:=(decide (T.2.2<T.2.1))) O O (DB (a:=T.2.2) (b:=T.2.1))) O (AL O ?_))))
       refine ze (FM:=[(2,jj),(3,(Value.map (some b1))),(16,(qz x.p ts.length x.c)),(17,(vN ts.length)),(18,(vN t)),(5,(pP b2 0)),(4,(vN t)),(23,(vI 1)),(9,(pP b5 0)),(10,(pP b6 0)),(7,(vN T.2.1)),(8,(vN T.2.2)),(66,(vN T.2.1)),(67,(vN T.2.2)),(68,(qa (decide (T.2.2<T.2.1)))),(69,(qa (decide (T.2.2<T.2.1)))),(73,(qa ((decide (T.2.2<T.2.1))&&(decide (e01.r=(-1:Int))))))]) (LM:=[AX b6 49 (Bg e01),AX b5 240 ([(vN (min T.2.1 T.2.2)),(vN (max T.2.1 T.2.2))]),AX b4 49 (Bg e20),AX b3 240 ([(vN (min T.1 T.2.1)),(vN (max T.1 T.2.1))]),AX b2 105 (Ac T),Ds b1 Jp N0 (Cl ts (3*t+1)),AF x.p (rowsL Ac ts)]) 4 ?_ ?_
       ·rcases xQ (decide (T.2.2<T.2.1)) with hg4|hg4
        ·refine zI (k:=69) (u:=qa true) O (by rw [hg4]) ?_
         have hg4':=xT hg4
         exact BM (v:=(pP b6 3)) O (AA O underlying49 O sizeOf3 O) (BM (v:=(vI e01.r)) O (AH (i:=0) (v:=(vI e01.r)) O O Bm.a O) (BM (v:=(qa (decide (e01.r=(-1:Int))))) O (BL (c:=(decide (e01.r=(-1:Int)))) O O O) (AD (v:=(qa (decide (e01.r=(-1:Int))))) (AW O O) O (oNl' (zR PK (xR _))))))
        ·refine zI (k:=69) (u:=qa false) O (by rw [hg4]) ?_
         have hg4':=xS hg4
         exact BO O (BO O (BO O (AD (v:=(qa false)) (AQ O O) O (oNl' (zR PK (xR _))))))
       refine asg' O (oNl' (zB (sL [2,3,16,17,18,5,4,23,9,10,7,8,65] O) (zA ?_)))
       refine zL O (λhc4=>?_) (λhc4=>?_)
       ·simp only [jK] at hc4
        exact zH (AL O (AD (v:=(pP b6 3)) (AA O underlying49 O sizeOf3 O) O (F8 0 (off:=3) (vs:=[(vN t)]) (cs':=[(vN e01.a),(vN e01.b),(vI e01.l),(vN t)]) (AI O) O sizeOf3 O (oNl' (zB (sL [2,3,16,17,18,5,4,23,9,10,7,8] O) (zG (zi (⟨e01.a,e01.b,e01.l,((t:Nat):Int)⟩:E4) ((by unfold Fm;rw [if_neg Z,if_pos Z])) (sF O) sr)))))))
       ·simp only [jK] at hc4
        exact zC (zG (zi e01 ((by unfold Fm;rw [if_neg Z,if_neg Z])) (sF O) sr))
     ·intro e21 hJ
      have hu1:=hJ
      refine zA (zH (AL O (Al 1 Mz O (Al 0 Hg O (yZ HR 5 (kvs:=Cl ts (3*t+1)) (x:=((min T.2.1 T.2.2,max T.2.1 T.2.2):P2)) (y:=e21) (AI O) O O O underlying239 O (Fk hn hN _ Z) (EE Z Z) ?_)))))
      rw [show Bl (Cl ts (3*t+1)) ((min T.2.1 T.2.2,max T.2.1 T.2.2):P2) e21=Cl ts (3*t+2) from by rw [hu1,he1,hT];exact (Kr (ts:=ts) (t:=t) (i:=1) Z).symm]
      refine oNl' (zB (sL [2,3,16,17,18,5,4,23,9,10] O) (zG (zA (zH (AD (AT (c:=(2:Int)) O O jY) O (AL O (oNl' (zB (sL [2,3,16,17,18,5,4,23,9,10] O) (zk (zf (q4 ?_)))))))))))
      refine AD (Aa (c:=true) O O jY) O (oNl' (q1 (zV O (zC (q1 (zJ (q4 (AL O (asg' O (q6 (sL [2,3,16,17,18,5,4,23,9,10,6] O) (DC (Er 10) sr ?_)))))))))))
      refine By O (Am (v:=(pP b2 2)) O (AB (j:=2) O O underlying105 sizeOf3 O jY O) (BU 4 (vN T.2.2) Bm O (By O (Am O (AT (c:=(3:Int)) O O jY) (Am O (CB (c:=(0:Int)) O O jY jY) (Am (v:=(pP b2 0)) O (AB (j:=0) O O underlying105 sizeOf3 O jY O) (BU 4 (vN T.1) Bm O (pS' O (pS' O (zQ (zB (sL [2,3,16,17,18,5,4,23,9,10,7,8] O) ?_)))))))))))
      refine q2 (AL O (AL O (AD (Gx (c:=((min T.2.2 T.1:Nat):Int)) O O (by split<;>omega)) O (AL O (AL O (AD (GJ (c:=((max T.2.2 T.1:Nat):Int)) O O (by split<;>omega)) O (AD (v:=(aG ([(vN (min T.2.2 T.1)),(vN (max T.2.2 T.1))]))) (AP (zs:=A6 ((0,0):P2)) (vs:=[(vN (min T.2.2 T.1)),(vN (max T.2.2 T.1))]) (pv:=[(0,(vN (min T.2.2 T.1))),(1,(vN (max T.2.2 T.1)))]) (places:=[(0,1),(1,1)]) zeroValue240 underlying240 (λw=>by simp [sizeOf3]) O O) O (al WI O λb7=>Ag O sizeOf240 O (q3 (sL [2,3,16,17,18,5,4,23,9,10,7,8] O) (AL O ?_))))))))))
      refine Al 0 Mz O (AD (v:=(Value.tuple #[(aG (Bg ((BW (Cl ts (3*t+2)) ((min T.2.2 T.1,max T.2.2 T.1):P2)).getD jA))),(qa ((BW (Cl ts (3*t+2)) ((min T.2.2 T.1,max T.2.2 T.1):P2)).isSome))])) (HN HR 6 (eV:=N0) (kvs:=Cl ts (3*t+2)) (x:=((min T.2.2 T.1,max T.2.2 T.1):P2)) (z0:=jA) (co:=true) O O underlying239 zeroValue49 O (Fk hn hN _ Z) (EE Z Z)) O (AL O (AD (AK (v:=(aG (Bg ((BW (Cl ts (3*t+2)) ((min T.2.2 T.1,max T.2.2 T.1):P2)).getD jA)))) O O) O (AD (AK (v:=(qa ((BW (Cl ts (3*t+2)) ((min T.2.2 T.1,max T.2.2 T.1):P2)).isSome))) O O) O (al Io O λb8=>Ag O sizeOf49 O (asg' O (q6 (sL [2,3,16,17,18,5,4,23,9,10,7,8,11] O) (q4 (AL O (AD (BK (c:=(!((BW (Cl ts (3*t+2)) ((min T.2.2 T.1,max T.2.2 T.1):P2)).isSome))) O O) O ?_))))))))))
      refine oNl' (zB (sL [2,3,16,17,18,5,4,23,9,10,7,8,48] O) (zA ?_))
      refine yF (tg λ(e02:E4)=>e02=(BW (Cl ts (3*t+2)) (min T.2.2 T.1,max T.2.2 T.1)).getD (JD (min T.2.2 T.1,max T.2.2 T.1))) (tg λ(e02:E4)=>[(2,jj),(3,(Value.map (some b1))),(16,(qz x.p ts.length x.c)),(17,(vN ts.length)),(18,(vN t)),(5,(pP b2 0)),(4,(vN t)),(23,(vI 2)),(9,(pP b7 0)),(10,(pP b8 0)),(7,(vN T.2.2)),(8,(vN T.1))]) (tg λ(e02:E4)=>[AX b8 49 (Bg e02),AX b7 240 ([(vN (min T.2.2 T.1)),(vN (max T.2.2 T.1))]),AX b6 49 (Bg e21),AX b5 240 ([(vN (min T.2.1 T.2.2)),(vN (max T.2.1 T.2.2))]),AX b4 49 (Bg e20),AX b3 240 ([(vN (min T.1 T.2.1)),(vN (max T.1 T.2.1))]),AX b2 105 (Ac T),Ds b1 Jp N0 (Cl ts (3*t+2)),AF x.p (rowsL Ac ts)]) ?_ ?_
      ·refine zL O (λhc2=>?_) (λhc2=>?_)
       ·simp only [jK] at hc2
        exact zH (AD (v:=(pP b7 0)) (AA O underlying240 O sizeOf3 O) O (BF 1 (vN (min T.2.2 T.1)) Bm O (AD (v:=(pP b7 1)) (AA O underlying240 O sizeOf3 O) O (BF 1 (vN (max T.2.2 T.1)) Bm O (AD (v:=(aG ([(vN (min T.2.2 T.1)),(vN (max T.2.2 T.1)),(vI (-1:Int)),(vI (-1:Int))]))) (AP (zs:=Bg jA) (vs:=[(vN (min T.2.2 T.1)),(vN (max T.2.2 T.1)),(vI (-1:Int)),(vI (-1:Int))]) (pv:=[(0,(vN (min T.2.2 T.1))),(1,(vN (max T.2.2 T.1))),(2,(vI (-1:Int))),(3,(vI (-1:Int)))]) (places:=[(0,1),(1,1),(2,1),(3,1)]) zeroValue49 underlying49 (λw=>by simp [sizeOf3]) O O) O (Ag O sizeOf49 O (oNl' (zB (sL [2,3,16,17,18,5,4,23,9,10,7,8] O) (zi (⟨min T.2.2 T.1,max T.2.2 T.1,-1,-1⟩:E4) ((K3 (k:=(min T.2.2 T.1,max T.2.2 T.1)) (by simpa using hc2))) (sF O) sr)))))))))
       ·simp only [jK] at hc2
        exact zC (zi ((BW (Cl ts (3*t+2)) ((min T.2.2 T.1,max T.2.2 T.1):P2)).getD jA) ((K4 (by simpa using hc2))) (sF O) sr)
      ·intro e02 hJ
       have he2:=hJ
       refine q1 ?_
       refine yF (tg λ(e22:E4)=>e22=Fm e02 t T.2.2 T.1) (tg λ(e22:E4)=>[(2,jj),(3,(Value.map (some b1))),(16,(qz x.p ts.length x.c)),(17,(vN ts.length)),(18,(vN t)),(5,(pP b2 0)),(4,(vN t)),(23,(vI 2)),(9,(pP b7 0)),(10,(pP b8 0))]) (tg λ(e22:E4)=>[AX b8 49 (Bg e22),AX b7 240 ([(vN (min T.2.2 T.1)),(vN (max T.2.2 T.1))]),AX b6 49 (Bg e21),AX b5 240 ([(vN (min T.2.1 T.2.2)),(vN (max T.2.1 T.2.2))]),AX b4 49 (Bg e20),AX b3 240 ([(vN (min T.1 T.2.1)),(vN (max T.1 T.2.1))]),AX b2 105 (Ac T),Ds b1 Jp N0 (Cl ts (3*t+2)),AF x.p (rowsL Ac ts)]) ?_ ?_
       ·refine zJ (q4 (AL O (AL O (AD (Aa (c:=(decide (T.2.2<T.1))) O O (DB (a:=T.2.2) (b:=T.1))) O (AL O ?_)))))
        refine ze (FM:=[(2,jj),(3,(Value.map (some b1))),(16,(qz x.p ts.length x.c)),(17,(vN ts.length)),(18,(vN t)),(5,(pP b2 0)),(4,(vN t)),(23,(vI 2)),(9,(pP b7 0)),(10,(pP b8 0)),(7,(vN T.2.2)),(8,(vN T.1)),(55,(vN T.2.2)),(56,(vN T.1)),(57,(qa (decide (T.2.2<T.1)))),(58,(qa (decide (T.2.2<T.1)))),(62,(qa ((decide (T.2.2<T.1))&&(decide (e02.l=(-1:Int))))))]) (LM:=[AX b8 49 (Bg e02),AX b7 240 ([(vN (min T.2.2 T.1)),(vN (max T.2.2 T.1))]),AX b6 49 (Bg e21),AX b5 240 ([(vN (min T.2.1 T.2.2)),(vN (max T.2.1 T.2.2))]),AX b4 49 (Bg e20),AX b3 240 ([(vN (min T.1 T.2.1)),(vN (max T.1 T.2.1))]),AX b2 105 (Ac T),Ds b1 Jp N0 (Cl ts (3*t+2)),AF x.p (rowsL Ac ts)]) 4 ?_ ?_
        ·rcases xQ (decide (T.2.2<T.1)) with hg5|hg5
         ·refine zI (k:=58) (u:=qa true) O (by rw [hg5]) ?_
          have hg5':=xT hg5
          exact BM (v:=(pP b8 2)) O (AA O underlying49 O sizeOf3 O) (BM (v:=(vI e02.l)) O (AH (i:=0) (v:=(vI e02.l)) O O Bm.a O) (BM (v:=(qa (decide (e02.l=(-1:Int))))) O (BL (c:=(decide (e02.l=(-1:Int)))) O O O) (AD (v:=(qa (decide (e02.l=(-1:Int))))) (AW O O) O (oNl' (zR PL (xR _))))))
         ·refine zI (k:=58) (u:=qa false) O (by rw [hg5]) ?_
          have hg5':=xS hg5
          exact BO O (BO O (BO O (AD (v:=(qa false)) (AQ O O) O (oNl' (zR PL (xR _))))))
        refine asg' O (oNl' (zB (sL [2,3,16,17,18,5,4,23,9,10,7,8,54] O) (zA ?_)))
        refine zL O (λhc3=>?_) (λhc3=>?_)
        ·simp only [jK] at hc3
         exact zH (AL O (AD (v:=(pP b8 2)) (AA O underlying49 O sizeOf3 O) O (F8 0 (off:=2) (vs:=[(vN t)]) (cs':=[(vN e02.a),(vN e02.b),(vN t),(vI e02.r)]) (AI O) O sizeOf3 O (oNl' (zB (sL [2,3,16,17,18,5,4,23,9,10,7,8] O) (zG (zi (⟨e02.a,e02.b,((t:Nat):Int),e02.r⟩:E4) ((by unfold Fm;rw [if_pos Z])) (sF O) sr)))))))
        ·simp only [jK] at hc3
         refine q4 (AL O (AL O (AD (D_ (c:=(decide (T.1<T.2.2))) O O (DB (a:=T.1) (b:=T.2.2))) O (AL O ?_))))
         refine ze (FM:=[(2,jj),(3,(Value.map (some b1))),(16,(qz x.p ts.length x.c)),(17,(vN ts.length)),(18,(vN t)),(5,(pP b2 0)),(4,(vN t)),(23,(vI 2)),(9,(pP b7 0)),(10,(pP b8 0)),(7,(vN T.2.2)),(8,(vN T.1)),(66,(vN T.2.2)),(67,(vN T.1)),(68,(qa (decide (T.1<T.2.2)))),(69,(qa (decide (T.1<T.2.2)))),(73,(qa ((decide (T.1<T.2.2))&&(decide (e02.r=(-1:Int))))))]) (LM:=[AX b8 49 (Bg e02),AX b7 240 ([(vN (min T.2.2 T.1)),(vN (max T.2.2 T.1))]),AX b6 49 (Bg e21),AX b5 240 ([(vN (min T.2.1 T.2.2)),(vN (max T.2.1 T.2.2))]),AX b4 49 (Bg e20),AX b3 240 ([(vN (min T.1 T.2.1)),(vN (max T.1 T.2.1))]),AX b2 105 (Ac T),Ds b1 Jp N0 (Cl ts (3*t+2)),AF x.p (rowsL Ac ts)]) 4 ?_ ?_
         ·rcases xQ (decide (T.1<T.2.2)) with hg6|hg6
          ·refine zI (k:=69) (u:=qa true) O (by rw [hg6]) ?_
           have hg6':=xT hg6
           exact BM (v:=(pP b8 3)) O (AA O underlying49 O sizeOf3 O) (BM (v:=(vI e02.r)) O (AH (i:=0) (v:=(vI e02.r)) O O Bm.a O) (BM (v:=(qa (decide (e02.r=(-1:Int))))) O (BL (c:=(decide (e02.r=(-1:Int)))) O O O) (AD (v:=(qa (decide (e02.r=(-1:Int))))) (AW O O) O (oNl' (zR Yr (xR _))))))
          ·refine zI (k:=69) (u:=qa false) O (by rw [hg6]) ?_
           have hg6':=xS hg6
           exact BO O (BO O (BO O (AD (v:=(qa false)) (AQ O O) O (oNl' (zR Yr (xR _))))))
         refine asg' O (oNl' (zB (sL [2,3,16,17,18,5,4,23,9,10,7,8,65] O) (zA ?_)))
         refine zL O (λhc4=>?_) (λhc4=>?_)
         ·simp only [jK] at hc4
          exact zH (AL O (AD (v:=(pP b8 3)) (AA O underlying49 O sizeOf3 O) O (F8 0 (off:=3) (vs:=[(vN t)]) (cs':=[(vN e02.a),(vN e02.b),(vI e02.l),(vN t)]) (AI O) O sizeOf3 O (oNl' (zB (sL [2,3,16,17,18,5,4,23,9,10,7,8] O) (zG (zi (⟨e02.a,e02.b,e02.l,((t:Nat):Int)⟩:E4) ((by unfold Fm;rw [if_neg Z,if_pos Z])) (sF O) sr)))))))
         ·simp only [jK] at hc4
          exact zC (zG (zi e02 ((by unfold Fm;rw [if_neg Z,if_neg Z])) (sF O) sr))
       ·intro e22 hJ
        have hu2:=hJ
        refine zA (zH (AL O (Al 1 Mz O (Al 0 Hg O (yZ HR 7 (kvs:=Cl ts (3*t+2)) (x:=((min T.2.2 T.1,max T.2.2 T.1):P2)) (y:=e22) (AI O) O O O underlying239 O (Fk hn hN _ Z) (EE Z Z) ?_)))))
        rw [show Bl (Cl ts (3*t+2)) ((min T.2.2 T.1,max T.2.2 T.1):P2) e22=Cl ts (3*t+3) from by rw [hu2,he2,hT];exact (Kr (ts:=ts) (t:=t) (i:=2) Z).symm]
        refine oNl' (zB (sL [2,3,16,17,18,5,4,23,9,10] O) (zG (zA (zH (AD (AT (c:=(3:Int)) O O jY) O (AL O (oNl' (zB (sL [2,3,16,17,18,5,4,23,9,10] O) (zk (zf (q4 ?_)))))))))))
        refine AD (Aa (c:=false) O O jY) O (oNl' (q1 (zT O (zU (zO (zO (zP (zG (zA (zH (AD (AT (c:=((t+1:Nat):Int)) O O (AV (a:=t) (b:=1) Z)) O ?_)))))))))))
        refine AL O (oNl' (zB (sL [2,3,16,17,18,5,4,23,9,10] O) ?_))
        rw [show 3*t+3=3*(t+1)+0 by omega]
        exact zl (t+1) Z Z (sF O) (sl (sl (sl (sl (sl (sl (sl sr)))))))
 ·replace hc0:=xS hc0
  have htl:t=ts.length:=by omega
  have hel:=KB (ts:=ts) (3*ts.length)
  refine zU (zO (zW (zP (q2 (AL O ?_)))))
  rw [show Cl ts (3*t+0)=(Cl ts (3*ts.length)) by rw [htl,Nat.add_zero]]
  refine st (v:=(vN ((Cl ts (3*ts.length)).length))) (Pm 0 (kvs:=(Cl ts (3*ts.length))) O underlying239 O) (BA O) (AR.make0 bV O O Z O O λbo hbo=>asg' O (q6 (sL [2,3,16,17,18,12] O) (q4 (AL O (AR.range 1 (kvs:=(Cl ts (3*ts.length))) (AI O) O underlying239 O O λb2=>oNl' (zB (sL [2,3,16,17,18,12,85] O) (zA (zJ ?_))))))))
  refine yS (tg λ(seen:List Nat) (out:List E4) (p1:Option Addr) (c1:Nat)=>seen.Nodup/\(∀x∈seen,x<(Cl ts (3*ts.length)).length)/\out=seen.map (WT (Cl ts (3*ts.length)))/\OwnOk p1 out.length c1/\p1≠none) (tg λ(seen:List Nat) (out:List E4) (p1:Option Addr) (c1:Nat)=>[(2,jj),(85,(Value.pointer (jk b2))),(12,(qz p1 out.length c1))]) (tg λ(seen:List Nat) (out:List E4) (p1:Option Addr) (c1:Nat)=>[ar b2 b1 (Cl ts (3*ts.length)).length seen,rowW p1 49 4 out.length c1 (rowsL Bg out),Ds b1 Jp N0 (Cl ts (3*ts.length)),AF x.p (rowsL Ac ts)]) (tg λ(seen:List Nat) (out:List E4) (p1:Option Addr) (c1:Nat)=>(Cl ts (3*ts.length)).length-seen.length) ([]:List Nat) ([]:List E4) (jk bo) ((Cl ts (3*ts.length)).length) (⟨List.nodup_nil,(λx hx=>by cases hx),rfl,hbo,by simp⟩) (sF O) sr (λseen out p1 c1 hJ=>?_)
  obtain ⟨hnd,hlt,hou,ho,hpn⟩:=hJ
  refine q4 ?_
  refine AR.next 2 0 (kvs:=(Cl ts (3*ts.length))) (seen:=seen) (AI O) O O O O (λhall=>?_) (λqn kq ve hq hns=>?_)
  ·refine AD (AK (v:=(qa false)) O O) O (q6 (sL [2,85,12,87] O) (zT O (zU (zO (yB (zP (q2 (AL O ?_))))))))
   have hpm:out.Perm ((Cl ts (3*ts.length)).map (·.2)):=by rw [hou];exact Tk hnd hlt hall
   have hol:out.length=(BR ts).length:=by rw [IL];simpa using hpm.length_eq
   have hlo:out.length<=3*ts.length:=by rw [hol,IL];exact hel
   exact AR.callS 1 (xs:=out) (ys:=BR ts) (v:=(Value.tuple #[])) (AI O) (Ar (args:=[(qz p1 out.length c1),(Value.func (.func 168) #[] #[])]) O O call167) O (λw hw=>V5 out _ _ _ 49 ho hpn O Z w (hw.holds (i:=1) O)) (λzs h1 h2=>ZR hn hN h1 h2 hpm) (λd hd=>by cases hd<;>exact (BA O)) (q3 (sL [2,85,12] O) (AL O (ck' call119 (T7 p1 _ c1 ho.le) O (asg' O (oNl' (zB (sL [2,85,12] O) (zA (zF (ret_one O (rd_tmp (v:=(qz p1 out.length out.length)) O) (λw hw=>(by rw [<-hol];exact bC hw 1 O ho (by rw [AS DD,hol]) O)))))))))))
  ·refine AD (AK (v:=(qa true)) O O) O (q6 (sL [2,85,12,87] O) (zV O (zC (zA (zJ (q4 ?_))))))
   have hlo:out.length<=3*ts.length:=by rw [hou,xK];exact xM (LK hnd hlt) hel
   refine AD (v:=(Value.tuple #[(aG (A6 kq)),(aG (Bg ve))])) (UV 2 0 (enc:=Jp) (eV:=N0) (kvs:=(Cl ts (3*ts.length))) (seen:=seen) (q:=qn) O O O hq) O (AD (AK (v:=(aG (Bg ve))) O O) O (al Io O λb3=>Ag O sizeOf49 O (oNl' (zB (sL [2,85,12,14] O) (zA (zH (AL O (Al 0 Hg O (zZ (V:=λb4=>(qz (jk b4) 1 1)) (T:=49) (cs:=Bg ve) (AI O) (Az (z:=.agg (Bg jA).toArray) (cs:=Bg ve) (pv:=[(0,(aG (Bg ve)))]) underlying46 sizeOf49 zeroValue49 jY jY O (Ll ve)) O (BA O) λb4=>zr 3 (j:=0) (cs2:=rowsL Bg (out++[ve])) bV O ho (AS DD _) O O O O O jY (LG Z) Z (by rw [Bd];rfl) O λp_1 c_1 ho_1 hne_1=>?_)))))))))
   refine asg' O (oNl' (zB (sL [2,85,12,14] O) (zG ?_)))
   have hnext:seen.length<(Cl ts (3*ts.length)).length:=by have h9:=LK (l:=seen++[qn]) (n:=(Cl ts (3*ts.length)).length) (List.nodup_append.2 ⟨hnd,List.nodup_cons.2 ⟨List.not_mem_nil,List.nodup_nil⟩,λa ha b hb e=>by rw [xO.1 hb] at e;exact hns (e▸ha)⟩) (λx hx=>by rcases List.mem_append.1 hx with h|h;exact hlt x h;rw [xO.1 h];exact (List.getElem?_eq_some_iff.1 hq).1);rw [xL,List.length_singleton] at h9;omega
   rw [show out.length+1=(out++[ve]).length by simp]
   exact z7 (seen++[qn]) (out++[ve]) p_1 c_1 (⟨List.nodup_append.2 ⟨hnd,List.nodup_cons.2 ⟨List.not_mem_nil,List.nodup_nil⟩,λa ha b hb e=>by rw [xO.1 hb] at e;exact hns (e▸ha)⟩,λx hx=>by rcases List.mem_append.1 hx with h|h;exact hlt x h;rw [xO.1 h];exact (List.getElem?_eq_some_iff.1 hq).1,by rw [List.map_append,hou];simp [Yk hq],(by simpa using ho_1),hne_1⟩) (by have h8:=hnext;rw [xL,List.length_singleton];omega) (sF O) (sl (sl sr))
theorem UR (ts:List (Tq3)) (x:RX (rowsL Ac ts) ts.length) (N:Nat) (hn:Be N ts=true) (hN:N<=4611686018427387904) (hl:ts.length<=1000000000) (w:World) {S:Nat->Prop} (hx:Ro S w x):Calls prog 101 #[(qz x.p ts.length x.c)] w (Bf (RX (rowsL Bg (BR ts)) (BR ts).length) S w):=(MY ts x N hn hN hl w hx).mono λe w1 h=>h.ofCX
end
def ap (l:List Nat):List Value:=l.map λ(d:Nat)=>vN d
section
set_option maxRecDepth 100000
theorem OB {N:Nat} {ts ss:List (Tq3)} (x:RM N ts ss) (hl:ts.length<=1000000000) (hN:N<=4611686018427387904) (hnb:Be N ts=true) (w:World) {S:Nat->Prop} (hx:Ro S w x):Calls prog 34 #[(aG (Wo x))] w (Bf (CX (rowsL Bg (BR ts)) (BR ts).length) S w):=by
 have lx:=Da (W:=w) hx
 refine Ah (args:=[(aG (Wo x))]) (L:=[AF x.a.p (x.cs),AF x.b.p (rowsL Ac ts),AF x.c.p (x.ds)]) func34 O O (BA O) (Db hx A7) (zM (sL [0] O) (q4 (BV (cs:=Wo x) O λb1=>asg' O (q6 (sL [1,2] O) (q4 (Al 0 Bz O (DH (args:=[(aG (Wo x))]) (v:=(qa true)) call43 (λw hw=>(by have h9:=Rk x Z w (Co hw 1 O lx);rw [hnb] at h9;exact h9)) O (AD (BK (c:=false) O O) O (oNl' (zB (sL [1,2,5] O) ?_))))))))))
 exact zA (zT O (zC (q2 (AD (v:=(pP b1 1)) (AA O underlying30 O sizeOf23 O) O (BF 0 (qz x.b.p ts.length x.b.c) C2 O (yM (S:=S) (α:=CX (rowsL Bg (BR ts)) (BR ts).length) (args:=[(qz x.b.p ts.length x.b.c)]) call101 (λw hw=>MY ts x.b N hnb hN hl w (bI (Co hw 1 O lx))) O O O λo lo=>asg' O (oNl' (zB (sL [1,2] O) (zA (zF (ret_one O (rd_tmp (v:=(qz o.p ((BR ts).length) ((BR ts).length))) O) (λw hw=>Zt hw (Co hw 0 O lo) O))))))))))))
theorem Hr {N:Nat} {ts ss:List (Tq3)} (x:RM N ts ss) (hl:ts.length<=1000000000) (hN:N<=4611686018427387904) (hnb:Be N ts=true) (w:World) {S:Nat->Prop} (hx:Ro S w x):Calls prog 34 #[(aG (Wo x))] w (Bf (RX (rowsL Bg (BR ts)) (BR ts).length) S w):=(OB x hl hN hnb w hx).mono λe w1 h=>h.ofCX
theorem TM {ps:List Pt} {ts ss:List (Tq3)} (x:MX ps ts ss) (hl:ts.length<=1000000000) (hN:ps.length<=4611686018427387904) (hnb:Be ps.length ts=true) (w:World) {S:Nat->Prop} (hx:Ro S w x):Calls prog 34 #[(aG (Dj x))] w (Bf (RX (rowsL Bg (BR ts)) (BR ts).length) S w):=Hr x.rm hl hN hnb w (ci hx)
end
end Go.Proofs.YtpolhpjiahbidaaGreatDoor
