import Derived.Test.YtpolhpjiahbidaaGreatDoorPart10
import Derived.Test.YtpolhpjiahbidaaGreatDoorPart11
namespace Go.Proofs.YtpolhpjiahbidaaGreatDoor
open Go Go.RowKit Go.Proofs.Tryz
open Go.Value renaming slice→qw,bool→qa
set_option linter.unusedVariables false
set_option linter.unusedSimpArgs false
theorem ZB {w w':World} (h:Gx w.heap.size w w'):∃(q:Nat) (os:Array Obj),w'=Go.Sort.grow (w.drewN q) os:=by
  refine ⟨w'.drawn-w.drawn,w'.heap.extract w.heap.size w'.heap.size,?_⟩
  have h1:=h.os;have h2:=h.tape;have h3:=h.output;have h4:=h.size;have h5:=h.block;have h6:=h.drawn
  have hh:w'.heap=w.heap++w'.heap.extract w.heap.size w'.heap.size:=by
    apply Array.ext_getElem?
    intro i
    rw [Array.getElem?_append]
    split
    · rename_i hi;exact h5 i hi
    · rename_i hi
      rw [Array.getElem?_extract]
      split
      · congr 1;omega
      · rename_i hj;rw [Array.getElem?_eq_none Z]
  obtain ⟨hp,tp,dr,os,out⟩:=w'
  obtain ⟨hp0,tp0,dr0,os0,out0⟩:=w
  simp only at h1 h2 h3 h4 h6 hh
  subst h1;subst h2;subst h3
  show World.mk hp tp dr os out=World.mk (hp0++hp.extract hp0.size hp.size) tp (dr0+(dr-dr0)) os out
  rw [<-hh,show dr0+(dr-dr0)=dr by omega]
section
instance:Inhabited E4:=⟨⟨0,0,0,0⟩⟩
theorem LG (a b:Nat):(a<b/\Er a b = -1)\/(b<a/\Er a b=1)\/(a=b/\Er a b=0):=by
  rcases Nat.lt_trichotomy a b with h|h|h
  · exact .inl ⟨h,S1 h⟩
  · exact .inr (.inr ⟨h,Sn Z Z⟩)
  · exact .inr (.inl ⟨h,SJ Z h⟩)
theorem Xr {p q:Int}:We p q<0↔p<0\/(p=0/\q<0):=by
  unfold We
  split
  · omega
  · split<;>omega
theorem E5 {x y:E4}:QA x y<0↔x.a<y.a\/(x.a=y.a/\x.b<y.b):=by
  unfold QA
  rw [Xr]
  rcases LG x.a y.a with ⟨h1,e1⟩|⟨h1,e1⟩|⟨h1,e1⟩<;>rcases LG x.b y.b with ⟨h2,e2⟩|⟨h2,e2⟩|⟨h2,e2⟩<;>rw [e1,e2]<;>omega
def UF (x y:E4):Prop:=¬QA y x<0
theorem Kf {x y:E4}:UF x y↔x.a<y.a\/(x.a=y.a/\x.b<=y.b):=by unfold UF;rw [E5];omega
theorem e9:Go.Sort.SWO (ltOf QA) where
  irrefl x:=xx (by rw [E5];omega)
  trans x y z h1 h2:=by
    have h1:=E5.1 (xR h1)
    have h2:=E5.1 (xR h2)
    exact xy (E5.2 Z)
  ntrans x y z h1 h2:=by
    have h1:=xQ h1
    have h2:=xQ h2
    rw [E5] at h1 h2
    exact xx (by rw [E5];omega)
theorem dD (AR off size:Nat) (w:World):CmpLays prog 168 #[] BL 4 QA AR off size w:=λm os dk _ x y=>by
  rw [Array.append_empty]
  exact (Yg x y _).mono λe w' h=>⟨h.1,ZB h.2⟩
theorem NG {d:Array E4} {t:Nat} (h:t<d.size*4):(rowsL BL d.toList)[t]?=some (Go.Sort.flatK BL 4 d)[t]!:=by
  rw [Go.Sort.get_flatK _ _ _ _ h]
  have h1:t/4<d.size:=by omega
  have h2:=BS Bh jA d.toList (t/4) (t%4) (by simpa using h1) (Nat.mod_lt _ jY) (v:=(BL d[t/4]!)[t%4]!) (by
    rw [List.getD,show d.toList[t/4]?=some d[t/4] from by simp [h1],getElem!_pos d (t/4) h1]
    have hl:t%4<(BL d[t/4]).length:=by rw [Bh];exact Nat.mod_lt _ jY
    show (BL d[t/4])[t%4]?=some (BL d[t/4])[t%4]!
    rw [xN hl,getElem!_pos (BL d[t/4]) (t%4) hl])
  rw [show t/4*4+t%4=t by omega] at h2
  exact h2
def Tt (x:E4):List E4->List E4
  | []=>[x]
  | y::r=>if QA x y<0 then x::y::r else y::Tt x r
def TV:List E4->List E4
  | []=>[]
  | x::r=>Tt x (TV r)
theorem JH (x:E4):∀l,(Tt x l).Perm (x::l)
  | []=>List.Perm.refl _
  | y::r=>by
    unfold Tt
    split
    · exact List.Perm.refl _
    · exact (List.Perm.cons y (JH x r)).trans (List.Perm.swap x y r)
theorem EN:∀l,(TV l).Perm l
  | []=>List.Perm.refl _
  | x::r=>(JH x (TV r)).trans (List.Perm.cons x (EN r))
theorem Jn (x:E4):∀l,l.Pairwise UF->(Tt x l).Pairwise UF
  | [],_=>List.pairwise_singleton _ _
  | y::r,h=>by
    obtain ⟨h1,h2⟩:=List.pairwise_cons.1 h
    unfold Tt
    split
    · rename_i k
      have hxy:UF x y:=by rw [Kf];have:=E5.1 k;omega
      refine List.pairwise_cons.2 ⟨λz hz=>?_,h⟩
      rcases xL.1 hz with rfl|hz
      · exact hxy
      · have h3:=h1 z hz;rw [Kf] at *;omega
    · rename_i k
      refine List.pairwise_cons.2 ⟨λz hz=>?_,Jn x r h2⟩
      rcases xL.1 ((JH x r).mem_iff.1 hz) with rfl|hz
      · exact k
      · exact h1 z hz
theorem HQ:∀l,(TV l).Pairwise UF
  | []=>List.Pairwise.nil
  | x::r=>Jn x _ (HQ r)
def ND (l:List E4):Prop:=l.Pairwise (λx y=>¬(x.a=y.a/\x.b=y.b))
theorem Rz:∀{l:List E4},ND l->∀x∈l,∀y∈l,x.a=y.a->x.b=y.b->x=y
  | z::r,h,x,hx,y,hy,e,e'=>by
    obtain ⟨h1,h2⟩:=List.pairwise_cons.1 h
    rcases xL.1 hx with ex|hx'<;>rcases xL.1 hy with ey|hy'
    · rw [ex,ey]
    · rw [ex] at e e';exact absurd ⟨e,e'⟩ (h1 y hy')
    · rw [ey] at e e';exact absurd ⟨e.symm,e'.symm⟩ (h1 x hx')
    · exact Rz h2 x hx' y hy' e e'
theorem Ti {l l':List E4} (hp:l'.Perm l) (hs:l'.Pairwise UF) (hn:ND l):l'=TV l:=by
  refine List.Perm.eq_of_pairwise (le:=UF) (λx y hx hy h1 h2=>?_) hs (HQ l) (hp.trans (EN l).symm)
  rw [Kf] at h1 h2
  exact Rz hn x (hp.mem_iff.1 hx) y ((EN l).mem_iff.1 hy) Z Z
theorem Up (xs:List E4) (p:Option Addr) (n c:Nat) (T:TypeId) (ho:OwnOk p n c) (hp0:p≠none) (hn:n=xs.length) (hN:n<4611686018427387904) (w:World) (hrow:∀b,p.map (·.block)=some b->∃o,w.heap[b]?=some o/\(rowW p T 4 n c (rowsL BL xs)).P o) :
    Calls prog 167 #[.slice p n c,.func (.func 168) #[] #[]] w λe w'=>e=.returned (.tuple #[])/\Mm w w' (p.map (·.block))/\∃ys:List E4,ys.Perm xs/\ys.Pairwise UF/\∀b,p.map (·.block)=some b->∃o,w'.heap[b]?=some o/\(rowW p T 4 n c (rowsL BL ys)).P o:=by
  cases hp:p with
  | none=>exact absurd hp hp0
  | some a =>
    subst hp
    obtain ⟨o,hob,cur,rfl,hsz,hcur⟩:=hrow a.block rfl
    have hat:=ho.at0 a rfl
    have hle:=ho.le
    obtain ⟨d,hd⟩:∃d,d=xs.toArray:=⟨_,rfl⟩
    have hdz:d.size=n:=by rw [hd,hn];simp
    have hdx:d.toList=xs:=by rw [hd]
    have hH:Go.Sort.HoldsK BL 4 w a.block 0 d:=λj hj=>by
      have hj':j<d.size*4:=by simpa using hj
      refine ⟨?_,by simp [World.frozen?,hob]⟩
      have h1:(cur.toList.take (n*4))[j]?=(rowsL BL xs)[j]?:=by rw [hcur]
      rw [List.getElem?_take_of_lt Z,Array.getElem?_toList,<-hdx,NG hj'] at h1
      show w.cell? ⟨a.block,0+j,none⟩=some (id (Go.Sort.flatK BL 4 d)[j]!)
      unfold World.cell?
      simp only [hob,Nat.zero_add]
      exact h1
    have hlt:a.block<w.heap.size:=by
      rcases Nat.lt_or_ge a.block w.heap.size with h|h
      · exact h
      · rw [Array.getElem?_eq_none h] at hob;cases hob
    have h:=Tryz.slices_SortFunc_Edge 4 isAgg49 sizeOf49 BL Bh (λx v hv=>by
      unfold BL at hv
      simp only [xL,List.not_mem_nil,or_false] at hv
      rcases hv with rfl|rfl|rfl|rfl<;>rfl) QA e9 168 #[] a.block 0 c d w call168 (dD a.block 0 d.size w) hH hlt Z
    rw [hdz] at h
    rw [hat]
    refine h.mono ?_
    rintro e w' ⟨rfl,d',m,os,⟨hz',_,hperm⟩,hsort,rfl⟩
    have hz2:d'.size=n:=by rw [hz',hdz]
    have hperm':d'.toList.Perm d.toList:=by
      have e1:d'.extract 0 n=d':=by rw [<-hz2];exact Array.extract_size
      have e2:d.extract 0 n=d:=by rw [<-hdz];exact Array.extract_size
      rw [e1,e2] at hperm
      exact hperm
    have hF:(Go.Sort.flatK BL 4 d').size=n*4:=by rw [Go.Sort.size_flatK,hz2]
    refine ⟨rfl,⟨⟨rfl,rfl,rfl,by simp [sortWorldK,Go.Sort.grow,Go.Sort.putRowK,Go.Sort.putRow,Go.Sort.mapBlock,Go.Sort.ahead],λj hj hne=>?_⟩,by show w.drawn<=w.drawn+m;omega⟩,d'.toList,by rw [<-hdx];exact hperm',List.pairwise_iff_getElem.2 λi j hi hj hij=>?_,λb e=>?_⟩
    · have hne':a.block≠j:=λe=>hne (by rw [e];rfl)
      unfold sortWorldK
      rw [Go.Sort.heap_grow_old _ _ (by simpa [Go.Sort.putRowK,Go.Sort.putRow,Go.Sort.mapBlock,Go.Sort.ahead] using hj)]
      simp [Go.Sort.putRowK,Go.Sort.putRow,Go.Sort.mapBlock,Go.Sort.ahead,Array.getElem?_modify,hne']
    · have hi':i<d'.size:=by simpa using hi
      have hj':j<d'.size:=by simpa using hj
      have h9:=xQ (hsort i j (xH _) hij Z)
      rw [getElem!_pos d' j hj',getElem!_pos d' i hi'] at h9
      simpa [UF] using h9
    · injection e with e
      subst e
      refine ⟨.cells (Go.Sort.putCells id 0 (Go.Sort.flatK BL 4 d') cur) T (0,0),?_,_,rfl,by simp [Go.Sort.putCells,hsz],?_⟩
      · unfold sortWorldK
        rw [Go.Sort.heap_grow_old _ _ (by simpa [Go.Sort.putRowK,Go.Sort.putRow,Go.Sort.mapBlock,Go.Sort.ahead] using hlt)]
        simp [Go.Sort.putRowK,Go.Sort.putRow,Go.Sort.mapBlock,Go.Sort.ahead,Array.getElem?_modify,hob,Go.Sort.onCells]
      · apply List.ext_getElem?
        intro j
        have hlen:(rowsL BL d'.toList).length=n*4:=by rw [AV Bh,Array.length_toList,hz2]
        by_cases hj:j<n*4
        · have hcs:n*4<=c*4:=Nat.mul_le_mul_right _ hle
          rw [List.getElem?_take_of_lt hj,Array.getElem?_toList,NG (by rw [hz2];exact hj)]
          unfold Go.Sort.putCells
          rw [Array.getElem?_mapIdx,Array.getElem?_eq_getElem Z,Option.map_some,if_pos ⟨xH _,Z⟩]
          rfl
        · rw [List.getElem?_take_eq_none Z,List.getElem?_eq_none Z]
def VF (kvs:List (P2×E4)) (q:Nat):E4:=(kvs.getD q ((0,0),⟨0,0,0,0⟩)).2
theorem YF {kvs:List (P2×E4)} {q:Nat} {k:P2} {v:E4} (h:kvs[q]?=some (k,v)):VF kvs q=v:=by rw [VF,List.getD,h];rfl
theorem Lq:∀{n:Nat} {l:List Nat},l.Nodup->(∀x∈l,x<n)->l.length<=n
  | 0,[],_,_=>Nat.le_refl _
  | 0,x::r,_,h=>absurd (h x List.mem_cons_self) (Nat.not_lt_zero _)
  | n+1,l,h1,h2=>by
    have h3:(l.erase n).length<=n:=Lq (h1.erase n) λx hx=>by
      have h4:=h2 x (List.mem_of_mem_erase hx)
      have h5:x≠n:=λe=>by
        rw [e] at hx
        exact h1.not_mem_erase hx
      omega
    rw [List.length_erase] at h3
    split at h3<;>omega
theorem Uy {kvs:List (P2×E4)} {seen:List Nat} (h1:seen.Nodup) (h2:∀x∈seen,x<kvs.length) (h3:∀q,q<kvs.length->q∈seen):(seen.map (VF kvs)).Perm (kvs.map (·.2)):=by
  have hp:seen.Perm (List.range kvs.length):=(List.perm_ext_iff_of_nodup h1 List.nodup_range).2 λq=>⟨λh=>List.mem_range.2 (h2 q h),λh=>h3 q (List.mem_range.1 h)⟩
  refine (hp.map _).trans (List.Perm.of_eq ?_)
  apply List.ext_getElem?
  intro q
  rw [List.getElem?_map,List.getElem?_map]
  rcases Nat.lt_or_ge q kvs.length with h|h
  · rw [List.getElem?_range h,xN h]
    simp [VF,List.getD,h]
  · rw [List.getElem?_eq_none (by simpa using h),List.getElem?_eq_none h];rfl
def Rr (kvs:List (P2×E4)):Prop:=∀p∈kvs,p.2.a=p.1.1/\p.2.b=p.1.2
theorem NS (e:E4) (t a b:Nat):(F1 e t a b).a=e.a/\(F1 e t a b).b=e.b:=by
  unfold F1
  split
  · exact ⟨rfl,rfl⟩
  · split<;>exact ⟨rfl,rfl⟩
theorem MA {kvs:List (P2×E4)} {x:P2} {v:E4} (h:Ap kvs x=some v):(x,v)∈kvs:=by
  induction kvs with
  | nil=>cases h
  | cons p r ih =>
    obtain ⟨k,u⟩:=p
    unfold Ap at h
    split at h
    · rename_i e
      injection h with h
      rw [e,h];exact List.mem_cons_self
    · exact List.mem_cons_of_mem _ (ih h)
theorem TK {kvs:List (P2×E4)} (h:Rr kvs) (x:P2):((Ap kvs x).getD (Jc x)).a=x.1/\((Ap kvs x).getD (Jc x)).b=x.2:=by
  cases hg:Ap kvs x with
  | none=>exact ⟨rfl,rfl⟩
  | some v=>exact h _ (MA hg)
theorem Tv {kvs:List (P2×E4)} {x:P2} {y:E4} {p:P2×E4} (h:p∈BZ kvs x y):p=(x,y)\/p∈kvs:=by
  induction kvs with
  | nil=>exact .inl (xM.1 h)
  | cons q r ih =>
    obtain ⟨k,u⟩:=q
    unfold BZ at h
    split at h
    · rename_i e
      rcases xL.1 h with h|h
      · exact .inl (by rw [h,e])
      · exact .inr (List.mem_cons_of_mem _ h)
    · rcases xL.1 h with h|h
      · exact .inr (by rw [h];exact List.mem_cons_self)
      · exact (ih h).imp_right (List.mem_cons_of_mem _)
theorem LY (ts:List (Tq3)):∀s,Rr (C4 ts s)
  | 0=>λp h=>by cases h
  | s+1=>λp h=>by
    have h0:=LY ts s
    rcases Tv h with rfl|h
    · have h1:=TK h0 (Br (CJ (ts.getD (s/3) (0,0,0)) (s%3)) (CJ (ts.getD (s/3) (0,0,0)) ((s%3+1)%3)))
      have h2:=NS ((Ap (C4 ts s) (Br (CJ (ts.getD (s/3) (0,0,0)) (s%3)) (CJ (ts.getD (s/3) (0,0,0)) ((s%3+1)%3)))).getD (Jc (Br (CJ (ts.getD (s/3) (0,0,0)) (s%3)) (CJ (ts.getD (s/3) (0,0,0)) ((s%3+1)%3))))) (s/3) (CJ (ts.getD (s/3) (0,0,0)) (s%3)) (CJ (ts.getD (s/3) (0,0,0)) ((s%3+1)%3))
      exact ⟨h2.1.trans h1.1,h2.2.trans h1.2⟩
    · exact h0 p h
theorem NF {kvs:List (P2×E4)} {ok:P2->Prop} (h:H3 ok kvs) (he:Rr kvs):ND (kvs.map (·.2)):=by
  unfold ND
  rw [List.pairwise_map]
  refine List.Pairwise.imp_of_mem (λ{p q} hp hq hne=>?_) h.once
  rintro ⟨e1,e2⟩
  have h1:=he p hp
  have h2:=he q hq
  exact hne (Prod.ext (by rw [<-h1.1,<-h2.1,e1]) (by rw [<-h1.2,<-h2.2,e2]))
def BG (ts:List (Tq3)):List E4:=TV ((C4 ts (3*ts.length)).map (·.2))
theorem aB {ts:List (Tq3)} {N:Nat} {xs ys:List E4} (hn:Bu N ts=true) (hN:N<=4611686018427387904) (h1:ys.Perm xs) (h2:ys.Pairwise UF) (h3:xs.Perm ((C4 ts (3*ts.length)).map (·.2))):ys=BG ts :=
  Ti (h1.trans h3) h2 (NF (F2 hn hN _ (Nat.le_refl _)) (LY ts _))
theorem JC (ts:List (Tq3)):(BG ts).length=(C4 ts (3*ts.length)).length:=by rw [BG,(EN _).length_eq,xI]
section
variable {P:Program} {ops:Array Oper} {rest:List Oper} {Q:Exit->Act->World->Prop} {n:Nat} {F:List (Nat×Value)} {w0:BC} {L:List As}
theorem AL.callS {o:Oper} {f:FuncId} {args:Array Value} {v:Value} (i:Nat) {q:Option Addr} {T:TypeId} {m c:Nat} {xs ys:List E4} (hw:Wt ops n F o)
    (he:∀a w,Frm n a F->Own w0 w L->(execOp a.eval o).run P w=.ok (.enter f args) w) (hi:L[i]?=some (rowW q T 4 m c (rowsL BL xs)))
    (hc:∀w,Own w0 w L->Calls P f args w λe w'=>e=.returned v/\Mm w w' (q.map (·.block))/\∃zs:List E4,zs.Perm xs/\zs.Pairwise UF/\∀b,q.map (·.block)=some b->∃o,w'.heap[b]?=some o/\(rowW q T 4 m c (rowsL BL zs)).P o)
    (hu:∀zs:List E4,zs.Perm xs->zs.Pairwise UF->zs=ys)
    (hd:∀d,o.dst=some d->d<n) (next:AL P ops rest Q n (match o.dst with|some d=>(d,v)::F|none=>F) w0 (L.set i (rowW q T 4 m c (rowsL BL ys)))):AL P ops (o::rest) Q n F w0 L :=
  AL.callW i hw he hi (λw hW=>(hc w hW).mono λe w' ⟨h1,h2,zs,h3,h4,h5⟩=>⟨h1,h2,by rw [<-hu zs h3 h4];exact h5⟩) hd next
end
theorem K6 {kvs:List (P2×E4)} {k:P2} (h:(Ap kvs k).isSome=false):Jc k=(Ap kvs k).getD (Jc k):=by
  cases hg:Ap kvs k with
  | none=>rfl
  | some v=>rw [hg] at h;cases h
theorem K5 {kvs:List (P2×E4)} {k:P2} {z:E4} (h:(Ap kvs k).isSome=true):(Ap kvs k).getD z=(Ap kvs k).getD (Jc k):=by
  cases hg:Ap kvs k with
  | none=>rw [hg] at h;cases h
  | some v=>rfl
end
structure CX (cs:List Value) (n:Nat) where
  p:Option Addr
  ok:An p n n
instance {cs:List Value} {n:Nat}:C8 (CX cs n):=⟨λa=>.slice a.p n n,λa=>[AB a.p cs],λa y hy=>by rcases xM.1 hy with rfl;rfl⟩
theorem dG {S:Nat->Prop} {W w:World} {L:List As} (hw:Own ⟨W,none⟩ w L) (i:Nat) {p:Option Addr} {T:TypeId} {z n c:Nat} {cs:List Value} (hi:L[i]?=some (rowW p T z n c cs)) (ho:OwnOk p n c) (hl:cs.length=n*z) {v:Value} (hv:v=.slice p n n):Ad (CX cs n) S W (.returned v) w :=
  ⟨⟨p,⟨λe=>⟨(ho.nil e).1,(ho.nil e).1⟩,λa e=>by rw [ho.at0 a e],Nat.le_refl _⟩⟩,by rw [hv];rfl,hw.out,λy hy=>by rcases xM.1 hy with rfl;exact C9 hw i hi ho hl⟩
theorem Ad.ofCX {S:Nat->Prop} {W w:World} {e:Ending} {cs:List Value} {n:Nat} (h:Ad (CX cs n) S W e w):Ad (RX cs n) S W e w:=by
  obtain ⟨a,h1,h2,h3⟩:=h
  exact ⟨⟨a.p,n,a.ok⟩,h1,h2,λy hy=>by rcases xM.1 hy with rfl;exact h3 _ List.mem_cons_self⟩
section
set_option maxRecDepth 100000
theorem bB:ElemT prog 46 49 4 32:=⟨underlying46,D9 jV⟩
theorem Hb:Lk prog 240 ER KD where
 law:=.of_law (deep_law_laid Sy (m:=2) jY (by decide +kernel) jV jV)
 key:=λa h=>M1 underlying240 ⟨rfl,rfl⟩ ⟨rfl,rfl⟩ (by decide +kernel) underlying3 jV jV jV (by decide +kernel) (Jh h.1) (Jh h.2)
 inj:=λa b h=>La h
theorem PF (p:Option Addr) (n cp:Nat) (h:n<=cp) (w:World)  :Calls prog 119 #[(qw p n cp)] w (Ak w (qw p n n)):=by
 refine Ab (args:=[(qw p n cp)]) func119 O O (Av O) (zN (sL [0] O) (q4 (asg' O (oNl' (q2 (AM O (AM O (AG (v:=(vN n)) (AC O underlying46) O (AM O (AG (v:=(vN n)) (AC O underlying46) O (AG (v:=(qw p n n)) (D4 (m:=n) O O O underlying46 sizeOf49 Z) O ?_)))))))))))
 exact asg' O (oNl' (zB (sL [2] O) (zA (zF (ret_one O (rd_tmp (v:=(qw p n n)) O) (λw hw=>⟨rfl,hw.out⟩))))))
theorem K3 (x0:E4):Instr.fill (λi=>some (i*4,4)) ((Array.range (1*4)).map ((Value.agg (BL jA).toArray).cells[·%(Value.agg (BL jA).toArray).cells.size]!)) [(0,.agg (BL x0).toArray)]=some (BL x0).toArray:=by kernel_rfl
set_option maxHeartbeats 4000000 in
theorem Nc (ts:List (Tq3)) (x:RX (rowsL Ac ts) ts.length) (N:Nat) (hn:Bu N ts=true) (hN:N<=4611686018427387904) (hl:ts.length<=1000000000) (w:World) {S:Nat->Prop} (hx:Ro S w x):Calls prog 101 #[(qw x.p ts.length x.c)] w (Ad (CX (rowsL BL (BG ts)) (BG ts).length) S w):=by
 have lx:=Bx (W:=w) hx
 refine AX (args:=[(qw x.p ts.length x.c)]) (L:=[AB x.p (rowsL Ac ts)]) func101 O O (Av O) (DF hx Ah) (zN (sL [0] O) (q4 (asg' O (oNl' (q2 (yV ER Nn (AJ O) O λb1=>asg' O (q6 (sL [0,2,3] O) (q4 (AM O (AG (v:=(vN ts.length)) (AC O underlying23) O ?_))))))))))
 refine AM O (oNl' (zB (sL [2,3,16,17,18] O) (zA (zI ?_))))
 refine zo (tg λ(t:Nat)=>t<=ts.length) (tg λ(t:Nat)=>[(2,jj),(3,(Value.map (some b1))),(16,(qw x.p ts.length x.c)),(17,(vN ts.length)),(18,(vN t))]) (tg λ(t:Nat)=>[CC b1 ER Nn (C4 ts (3*t+0)),AB x.p (rowsL Ac ts)]) (tg λ(t:Nat)=>ts.length-t) 0 (xH _) (sF O) sr (λt hJ=>?_)
 have ht:=hJ
 refine q4 (AG (Ae (c:=(decide (t<ts.length))) O O (CM (a:=t) (b:=ts.length))) O (oNl' (q1 ?_)))
 refine zM O (λhc0=>?_) (λhc0=>?_)
 ·replace hc0:=xR hc0
  obtain ⟨T,hT⟩:∃q,q=ts.getD t (0,0,0):=⟨_,rfl⟩
  obtain ⟨g1,g2,g3⟩:=Ee (Dt hn hc0)
  rw [<-hT] at g1 g2 g3
  refine zG (q1 (zI (q4 (AM O (AG (v:=(pP (pB x.p) (pO x.p+t*3))) (AF (j:=t) O O x.ok underlying23 sizeOf105 O Z) O (AG (v:=(aG (Ac (ts.getD t jJ)))) (AQ (vs:=Ac (ts.getD t jJ)) (i:=1) O O (An.ne x.ok Z) B_ (Al Am _ _ _ Z) (Am _)) O (zC (k:=22) (u:=(aG (Ac T))) O (by rw [hT]) (al Id O λb2=>asg' O (Ax O sizeOf105 O (q3 (sL [2,3,16,17,18,5,4] O) ?_))))))))))
  refine AM O (oNl' (zA (zI (yd 4 (z6 (q4 (AG (Ae (c:=true) O O jY) O (oNl' (q1 (ze O (zG ?_)))))))))))
  refine q1 (zI (q4 (AM O (asg' O (q6 (sL [2,3,16,17,18,5,4,23,6] O) (CQ (Db 10) sr (BT O (Aj (v:=(pP b2 0)) O (AD (j:=0) O O underlying105 sizeOf3 O jY O) (Be 0 (vN T.1) BN O (BT O (Aj O (AW (c:=(1:Int)) O O jY) ?_)))))))))))
  refine Aj O (Dh (c:=(1:Int)) O O jY jY) (Aj (v:=(pP b2 1)) O (AD (j:=1) O O underlying105 sizeOf3 O jY O) (Be 0 (vN T.2.1) BN O (pS' O (pS' O (zT (zB (sL [2,3,16,17,18,5,4,23,7,8] O) (q2 (AM O (AM O (AG (FS (c:=((min T.1 T.2.1:Nat):Int)) O O (by split<;>omega)) O (AM O ?_)))))))))))
  refine AM O (AG (Eu (c:=((max T.1 T.2.1:Nat):Int)) O O (by split<;>omega)) O (AG (v:=(aG ([(vN (min T.1 T.2.1)),(vN (max T.1 T.2.1))]))) (AT (zs:=DC ((0,0):P2)) (vs:=[(vN (min T.1 T.2.1)),(vN (max T.1 T.2.1))]) (pv:=[(0,(vN (min T.1 T.2.1))),(1,(vN (max T.1 T.2.1)))]) (places:=[(0,1),(1,1)]) zeroValue240 underlying240 (λw=>by simp [sizeOf3]) O O) O (al WE O λb3=>Ax O sizeOf240 O (q3 (sL [2,3,16,17,18,5,4,23,7,8,9] O) (AM O (BD 0 M5 O (AG (v:=(Value.tuple #[(aG (BL ((Ap (C4 ts (3*t+0)) ((min T.1 T.2.1,max T.1 T.2.1):P2)).getD jA))),(qa ((Ap (C4 ts (3*t+0)) ((min T.1 T.2.1,max T.1 T.2.1):P2)).isSome))])) (Cr Hb 2 (eV:=Nn) (kvs:=C4 ts (3*t+0)) (x:=((min T.1 T.2.1,max T.1 T.2.1):P2)) (z0:=jA) (co:=true) O O underlying239 zeroValue49 O (F2 hn hN _ Z) (Bm Z Z)) O (AM O (AG (AZ (v:=(aG (BL ((Ap (C4 ts (3*t+0)) ((min T.1 T.2.1,max T.1 T.2.1):P2)).getD jA)))) O O) O (AG (AZ (v:=(qa ((Ap (C4 ts (3*t+0)) ((min T.1 T.2.1,max T.1 T.2.1):P2)).isSome))) O O) O ?_))))))))))
  refine al PJ O λb4=>Ax O sizeOf49 O (asg' O (q6 (sL [2,3,16,17,18,5,4,23,7,8,9,10,11] O) (q4 (AM O (AG (BQ (c:=(!((Ap (C4 ts (3*t+0)) ((min T.1 T.2.1,max T.1 T.2.1):P2)).isSome))) O O) O (oNl' (zB (sL [2,3,16,17,18,5,4,23,7,8,9,10,48] O) (zA ?_))))))))
  refine yN (tg λ(e00:E4)=>e00=(Ap (C4 ts (3*t+0)) (min T.1 T.2.1,max T.1 T.2.1)).getD (Jc (min T.1 T.2.1,max T.1 T.2.1))) (tg λ(e00:E4)=>[(2,jj),(3,(Value.map (some b1))),(16,(qw x.p ts.length x.c)),(17,(vN ts.length)),(18,(vN t)),(5,(pP b2 0)),(4,(vN t)),(23,(vI 0)),(7,(vN T.1)),(8,(vN T.2.1)),(9,(pP b3 0)),(10,(pP b4 0))]) (tg λ(e00:E4)=>[AR b4 49 (BL e00),AR b3 240 ([(vN (min T.1 T.2.1)),(vN (max T.1 T.2.1))]),AR b2 105 (Ac T),CC b1 ER Nn (C4 ts (3*t+0)),AB x.p (rowsL Ac ts)]) ?_ ?_
  ·refine zM O (λhc2=>?_) (λhc2=>?_)
   ·simp only [jK] at hc2
    exact zH (AG (v:=(pP b3 0)) (AA O underlying240 O sizeOf3 O) O (Az 1 (vN (min T.1 T.2.1)) BN O (AG (v:=(pP b3 1)) (AA O underlying240 O sizeOf3 O) O (Az 1 (vN (max T.1 T.2.1)) BN O (AG (v:=(aG ([(vN (min T.1 T.2.1)),(vN (max T.1 T.2.1)),(vI (-1:Int)),(vI (-1:Int))]))) (AT (zs:=BL jA) (vs:=[(vN (min T.1 T.2.1)),(vN (max T.1 T.2.1)),(vI (-1:Int)),(vI (-1:Int))]) (pv:=[(0,(vN (min T.1 T.2.1))),(1,(vN (max T.1 T.2.1))),(2,(vI (-1:Int))),(3,(vI (-1:Int)))]) (places:=[(0,1),(1,1),(2,1),(3,1)]) zeroValue49 underlying49 (λw=>by simp [sizeOf3]) O O) O (Ax O sizeOf49 O (oNl' (zB (sL [2,3,16,17,18,5,4,23,7,8,9,10] O) (zl (⟨min T.1 T.2.1,max T.1 T.2.1,-1,-1⟩:E4) ((K6 (k:=(min T.1 T.2.1,max T.1 T.2.1)) (by simpa using hc2))) (sF O) sr)))))))))
   ·simp only [jK] at hc2
    exact zG (zl ((Ap (C4 ts (3*t+0)) ((min T.1 T.2.1,max T.1 T.2.1):P2)).getD jA) ((K5 (by simpa using hc2))) (sF O) sr)
  ·intro e00 hJ
   have he0:=hJ
   refine q1 ?_
   refine yN (tg λ(e20:E4)=>e20=F1 e00 t T.1 T.2.1) (tg λ(e20:E4)=>[(2,jj),(3,(Value.map (some b1))),(16,(qw x.p ts.length x.c)),(17,(vN ts.length)),(18,(vN t)),(5,(pP b2 0)),(4,(vN t)),(23,(vI 0)),(9,(pP b3 0)),(10,(pP b4 0))]) (tg λ(e20:E4)=>[AR b4 49 (BL e20),AR b3 240 ([(vN (min T.1 T.2.1)),(vN (max T.1 T.2.1))]),AR b2 105 (Ac T),CC b1 ER Nn (C4 ts (3*t+0)),AB x.p (rowsL Ac ts)]) ?_ ?_
   ·refine zI (q4 (AM O (AM O (AG (Ae (c:=(decide (T.1<T.2.1))) O O (CM (a:=T.1) (b:=T.2.1))) O (AM O ?_)))))
    refine zX (FM:=[(2,jj),(3,(Value.map (some b1))),(16,(qw x.p ts.length x.c)),(17,(vN ts.length)),(18,(vN t)),(5,(pP b2 0)),(4,(vN t)),(23,(vI 0)),(7,(vN T.1)),(8,(vN T.2.1)),(9,(pP b3 0)),(10,(pP b4 0)),(55,(vN T.1)),(56,(vN T.2.1)),(57,(qa (decide (T.1<T.2.1)))),(58,(qa (decide (T.1<T.2.1)))),(62,(qa ((decide (T.1<T.2.1))&&(decide (e00.l=(-1:Int))))))]) (LM:=[AR b4 49 (BL e00),AR b3 240 ([(vN (min T.1 T.2.1)),(vN (max T.1 T.2.1))]),AR b2 105 (Ac T),CC b1 ER Nn (C4 ts (3*t+0)),AB x.p (rowsL Ac ts)]) 4 ?_ ?_
    ·rcases xO (decide (T.1<T.2.1)) with hg1|hg1
     ·refine zC (k:=58) (u:=qa true) O (by rw [hg1]) ?_
      have hg1':=xR hg1
      exact Au (v:=(pP b4 2)) O (AA O underlying49 O sizeOf3 O) (Au (v:=(vI e00.l)) O (AE (i:=0) (v:=(vI e00.l)) O O BN.a O) (Au (v:=(qa (decide (e00.l=(-1:Int))))) O (BO (c:=(decide (e00.l=(-1:Int)))) O O O) (AG (v:=(qa (decide (e00.l=(-1:Int))))) (AN O O) O (oNl' (zR Bg (xP _))))))
     ·refine zC (k:=58) (u:=qa false) O (by rw [hg1]) ?_
      have hg1':=xQ hg1
      exact Ar O (Ar O (Ar O (AG (v:=(qa false)) (AI O O) O (oNl' (zR Bg (xP _))))))
    refine asg' O (oNl' (zB (sL [2,3,16,17,18,5,4,23,7,8,9,10,54] O) (zA ?_)))
    refine zM O (λhc3=>?_) (λhc3=>?_)
    ·simp only [jK] at hc3
     exact zH (AM O (AG (v:=(pP b4 2)) (AA O underlying49 O sizeOf3 O) O (Ek 0 (off:=2) (vs:=[(vN t)]) (cs':=[(vN e00.a),(vN e00.b),(vN t),(vI e00.r)]) (AJ O) O sizeOf3 O (oNl' (zB (sL [2,3,16,17,18,5,4,23,7,8,9,10] O) (zJ (zl (⟨e00.a,e00.b,((t:Nat):Int),e00.r⟩:E4) ((by unfold F1;rw [if_pos Z])) (sF O) sr)))))))
    ·simp only [jK] at hc3
     refine q4 (AM O (AM O (AG (Bv (c:=(decide (T.2.1<T.1))) O O (CM (a:=T.2.1) (b:=T.1))) O (AM O ?_))))
     refine zX (FM:=[(2,jj),(3,(Value.map (some b1))),(16,(qw x.p ts.length x.c)),(17,(vN ts.length)),(18,(vN t)),(5,(pP b2 0)),(4,(vN t)),(23,(vI 0)),(7,(vN T.1)),(8,(vN T.2.1)),(9,(pP b3 0)),(10,(pP b4 0)),(66,(vN T.1)),(67,(vN T.2.1)),(68,(qa (decide (T.2.1<T.1)))),(69,(qa (decide (T.2.1<T.1)))),(73,(qa ((decide (T.2.1<T.1))&&(decide (e00.r=(-1:Int))))))]) (LM:=[AR b4 49 (BL e00),AR b3 240 ([(vN (min T.1 T.2.1)),(vN (max T.1 T.2.1))]),AR b2 105 (Ac T),CC b1 ER Nn (C4 ts (3*t+0)),AB x.p (rowsL Ac ts)]) 4 ?_ ?_
     ·rcases xO (decide (T.2.1<T.1)) with hg2|hg2
      ·refine zC (k:=69) (u:=qa true) O (by rw [hg2]) ?_
       have hg2':=xR hg2
       exact Au (v:=(pP b4 3)) O (AA O underlying49 O sizeOf3 O) (Au (v:=(vI e00.r)) O (AE (i:=0) (v:=(vI e00.r)) O O BN.a O) (Au (v:=(qa (decide (e00.r=(-1:Int))))) O (BO (c:=(decide (e00.r=(-1:Int)))) O O O) (AG (v:=(qa (decide (e00.r=(-1:Int))))) (AN O O) O (oNl' (zR EQ (xP _))))))
      ·refine zC (k:=69) (u:=qa false) O (by rw [hg2]) ?_
       have hg2':=xQ hg2
       exact Ar O (Ar O (Ar O (AG (v:=(qa false)) (AI O O) O (oNl' (zR EQ (xP _))))))
     refine asg' O (oNl' (zB (sL [2,3,16,17,18,5,4,23,7,8,9,10,65] O) (zA ?_)))
     refine zM O (λhc4=>?_) (λhc4=>?_)
     ·simp only [jK] at hc4
      exact zH (AM O (AG (v:=(pP b4 3)) (AA O underlying49 O sizeOf3 O) O (Ek 0 (off:=3) (vs:=[(vN t)]) (cs':=[(vN e00.a),(vN e00.b),(vI e00.l),(vN t)]) (AJ O) O sizeOf3 O (oNl' (zB (sL [2,3,16,17,18,5,4,23,7,8,9,10] O) (zJ (zl (⟨e00.a,e00.b,e00.l,((t:Nat):Int)⟩:E4) ((by unfold F1;rw [if_neg Z,if_pos Z])) (sF O) sr)))))))
     ·simp only [jK] at hc4
      exact zG (zJ (zl e00 ((by unfold F1;rw [if_neg Z,if_neg Z])) (sF O) sr))
   ·intro e20 hJ
    have hu0:=hJ
    refine zA (zH (AM O (BD 1 M5 O (BD 0 OL O (yE Hb 3 (kvs:=C4 ts (3*t+0)) (x:=((min T.1 T.2.1,max T.1 T.2.1):P2)) (y:=e20) (AJ O) O O O underlying239 O (F2 hn hN _ Z) (Bm Z Z) ?_)))))
    rw [show BZ (C4 ts (3*t+0)) ((min T.1 T.2.1,max T.1 T.2.1):P2) e20=C4 ts (3*t+1) from by rw [hu0,he0,hT];exact (LJ (ts:=ts) (t:=t) (i:=0) Z).symm]
    refine oNl' (zB (sL [2,3,16,17,18,5,4,23,9,10] O) (zJ (zA (zH (AG (AW (c:=(1:Int)) O O jY) O (AM O (oNl' (zB (sL [2,3,16,17,18,5,4,23,9,10] O) (yD (z6 (q4 ?_)))))))))))
    refine AG (Ae (c:=true) O O jY) O (oNl' (q1 (ze O (zG (q1 (zI (q4 (AM O (asg' O (q6 (sL [2,3,16,17,18,5,4,23,9,10,6] O) (CQ (Db 10) sr ?_)))))))))))
    refine BT O (Aj (v:=(pP b2 1)) O (AD (j:=1) O O underlying105 sizeOf3 O jY O) (Be 2 (vN T.2.1) BN O (BT O (Aj O (AW (c:=(2:Int)) O O jY) (Aj O (Dh (c:=(2:Int)) O O jY jY) (Aj (v:=(pP b2 2)) O (AD (j:=2) O O underlying105 sizeOf3 O jY O) (Be 2 (vN T.2.2) BN O (pS' O (pS' O (zT (zB (sL [2,3,16,17,18,5,4,23,9,10,7,8] O) ?_)))))))))))
    refine q2 (AM O (AM O (AG (FS (c:=((min T.2.1 T.2.2:Nat):Int)) O O (by split<;>omega)) O (AM O (AM O (AG (Eu (c:=((max T.2.1 T.2.2:Nat):Int)) O O (by split<;>omega)) O (AG (v:=(aG ([(vN (min T.2.1 T.2.2)),(vN (max T.2.1 T.2.2))]))) (AT (zs:=DC ((0,0):P2)) (vs:=[(vN (min T.2.1 T.2.2)),(vN (max T.2.1 T.2.2))]) (pv:=[(0,(vN (min T.2.1 T.2.2))),(1,(vN (max T.2.1 T.2.2)))]) (places:=[(0,1),(1,1)]) zeroValue240 underlying240 (λw=>by simp [sizeOf3]) O O) O (al WE O λb5=>Ax O sizeOf240 O (q3 (sL [2,3,16,17,18,5,4,23,9,10,7,8] O) (AM O ?_))))))))))
    refine BD 0 M5 O (AG (v:=(Value.tuple #[(aG (BL ((Ap (C4 ts (3*t+1)) ((min T.2.1 T.2.2,max T.2.1 T.2.2):P2)).getD jA))),(qa ((Ap (C4 ts (3*t+1)) ((min T.2.1 T.2.2,max T.2.1 T.2.2):P2)).isSome))])) (Cr Hb 4 (eV:=Nn) (kvs:=C4 ts (3*t+1)) (x:=((min T.2.1 T.2.2,max T.2.1 T.2.2):P2)) (z0:=jA) (co:=true) O O underlying239 zeroValue49 O (F2 hn hN _ Z) (Bm Z Z)) O (AM O (AG (AZ (v:=(aG (BL ((Ap (C4 ts (3*t+1)) ((min T.2.1 T.2.2,max T.2.1 T.2.2):P2)).getD jA)))) O O) O (AG (AZ (v:=(qa ((Ap (C4 ts (3*t+1)) ((min T.2.1 T.2.2,max T.2.1 T.2.2):P2)).isSome))) O O) O (al PJ O λb6=>Ax O sizeOf49 O (asg' O (q6 (sL [2,3,16,17,18,5,4,23,9,10,7,8,11] O) (q4 (AM O (AG (BQ (c:=(!((Ap (C4 ts (3*t+1)) ((min T.2.1 T.2.2,max T.2.1 T.2.2):P2)).isSome))) O O) O ?_))))))))))
    refine oNl' (zB (sL [2,3,16,17,18,5,4,23,9,10,7,8,48] O) (zA ?_))
    refine yN (tg λ(e01:E4)=>e01=(Ap (C4 ts (3*t+1)) (min T.2.1 T.2.2,max T.2.1 T.2.2)).getD (Jc (min T.2.1 T.2.2,max T.2.1 T.2.2))) (tg λ(e01:E4)=>[(2,jj),(3,(Value.map (some b1))),(16,(qw x.p ts.length x.c)),(17,(vN ts.length)),(18,(vN t)),(5,(pP b2 0)),(4,(vN t)),(23,(vI 1)),(9,(pP b5 0)),(10,(pP b6 0)),(7,(vN T.2.1)),(8,(vN T.2.2))]) (tg λ(e01:E4)=>[AR b6 49 (BL e01),AR b5 240 ([(vN (min T.2.1 T.2.2)),(vN (max T.2.1 T.2.2))]),AR b4 49 (BL e20),AR b3 240 ([(vN (min T.1 T.2.1)),(vN (max T.1 T.2.1))]),AR b2 105 (Ac T),CC b1 ER Nn (C4 ts (3*t+1)),AB x.p (rowsL Ac ts)]) ?_ ?_
    ·refine zM O (λhc2=>?_) (λhc2=>?_)
     ·simp only [jK] at hc2
      exact zH (AG (v:=(pP b5 0)) (AA O underlying240 O sizeOf3 O) O (Az 1 (vN (min T.2.1 T.2.2)) BN O (AG (v:=(pP b5 1)) (AA O underlying240 O sizeOf3 O) O (Az 1 (vN (max T.2.1 T.2.2)) BN O (AG (v:=(aG ([(vN (min T.2.1 T.2.2)),(vN (max T.2.1 T.2.2)),(vI (-1:Int)),(vI (-1:Int))]))) (AT (zs:=BL jA) (vs:=[(vN (min T.2.1 T.2.2)),(vN (max T.2.1 T.2.2)),(vI (-1:Int)),(vI (-1:Int))]) (pv:=[(0,(vN (min T.2.1 T.2.2))),(1,(vN (max T.2.1 T.2.2))),(2,(vI (-1:Int))),(3,(vI (-1:Int)))]) (places:=[(0,1),(1,1),(2,1),(3,1)]) zeroValue49 underlying49 (λw=>by simp [sizeOf3]) O O) O (Ax O sizeOf49 O (oNl' (zB (sL [2,3,16,17,18,5,4,23,9,10,7,8] O) (zl (⟨min T.2.1 T.2.2,max T.2.1 T.2.2,-1,-1⟩:E4) ((K6 (k:=(min T.2.1 T.2.2,max T.2.1 T.2.2)) (by simpa using hc2))) (sF O) sr)))))))))
     ·simp only [jK] at hc2
      exact zG (zl ((Ap (C4 ts (3*t+1)) ((min T.2.1 T.2.2,max T.2.1 T.2.2):P2)).getD jA) ((K5 (by simpa using hc2))) (sF O) sr)
    ·intro e01 hJ
     have he1:=hJ
     refine q1 ?_
     refine yN (tg λ(e21:E4)=>e21=F1 e01 t T.2.1 T.2.2) (tg λ(e21:E4)=>[(2,jj),(3,(Value.map (some b1))),(16,(qw x.p ts.length x.c)),(17,(vN ts.length)),(18,(vN t)),(5,(pP b2 0)),(4,(vN t)),(23,(vI 1)),(9,(pP b5 0)),(10,(pP b6 0))]) (tg λ(e21:E4)=>[AR b6 49 (BL e21),AR b5 240 ([(vN (min T.2.1 T.2.2)),(vN (max T.2.1 T.2.2))]),AR b4 49 (BL e20),AR b3 240 ([(vN (min T.1 T.2.1)),(vN (max T.1 T.2.1))]),AR b2 105 (Ac T),CC b1 ER Nn (C4 ts (3*t+1)),AB x.p (rowsL Ac ts)]) ?_ ?_
     ·refine zI (q4 (AM O (AM O (AG (Ae (c:=(decide (T.2.1<T.2.2))) O O (CM (a:=T.2.1) (b:=T.2.2))) O (AM O ?_)))))
      refine zX (FM:=[(2,jj),(3,(Value.map (some b1))),(16,(qw x.p ts.length x.c)),(17,(vN ts.length)),(18,(vN t)),(5,(pP b2 0)),(4,(vN t)),(23,(vI 1)),(9,(pP b5 0)),(10,(pP b6 0)),(7,(vN T.2.1)),(8,(vN T.2.2)),(55,(vN T.2.1)),(56,(vN T.2.2)),(57,(qa (decide (T.2.1<T.2.2)))),(58,(qa (decide (T.2.1<T.2.2)))),(62,(qa ((decide (T.2.1<T.2.2))&&(decide (e01.l=(-1:Int))))))]) (LM:=[AR b6 49 (BL e01),AR b5 240 ([(vN (min T.2.1 T.2.2)),(vN (max T.2.1 T.2.2))]),AR b4 49 (BL e20),AR b3 240 ([(vN (min T.1 T.2.1)),(vN (max T.1 T.2.1))]),AR b2 105 (Ac T),CC b1 ER Nn (C4 ts (3*t+1)),AB x.p (rowsL Ac ts)]) 4 ?_ ?_
      ·rcases xO (decide (T.2.1<T.2.2)) with hg3|hg3
       ·refine zC (k:=58) (u:=qa true) O (by rw [hg3]) ?_
        have hg3':=xR hg3
        exact Au (v:=(pP b6 2)) O (AA O underlying49 O sizeOf3 O) (Au (v:=(vI e01.l)) O (AE (i:=0) (v:=(vI e01.l)) O O BN.a O) (Au (v:=(qa (decide (e01.l=(-1:Int))))) O (BO (c:=(decide (e01.l=(-1:Int)))) O O O) (AG (v:=(qa (decide (e01.l=(-1:Int))))) (AN O O) O (oNl' (zR Hz (xP _))))))
       ·refine zC (k:=58) (u:=qa false) O (by rw [hg3]) ?_
        have hg3':=xQ hg3
        exact Ar O (Ar O (Ar O (AG (v:=(qa false)) (AI O O) O (oNl' (zR Hz (xP _))))))
      refine asg' O (oNl' (zB (sL [2,3,16,17,18,5,4,23,9,10,7,8,54] O) (zA ?_)))
      refine zM O (λhc3=>?_) (λhc3=>?_)
      ·simp only [jK] at hc3
       exact zH (AM O (AG (v:=(pP b6 2)) (AA O underlying49 O sizeOf3 O) O (Ek 0 (off:=2) (vs:=[(vN t)]) (cs':=[(vN e01.a),(vN e01.b),(vN t),(vI e01.r)]) (AJ O) O sizeOf3 O (oNl' (zB (sL [2,3,16,17,18,5,4,23,9,10,7,8] O) (zJ (zl (⟨e01.a,e01.b,((t:Nat):Int),e01.r⟩:E4) ((by unfold F1;rw [if_pos Z])) (sF O) sr)))))))
      ·simp only [jK] at hc3
       refine q4 (AM O (AM O (AG (Bv (c:=(decide (T.2.2<T.2.1))) O O (CM (a:=T.2.2) (b:=T.2.1))) O (AM O ?_))))
       refine zX (FM:=[(2,jj),(3,(Value.map (some b1))),(16,(qw x.p ts.length x.c)),(17,(vN ts.length)),(18,(vN t)),(5,(pP b2 0)),(4,(vN t)),(23,(vI 1)),(9,(pP b5 0)),(10,(pP b6 0)),(7,(vN T.2.1)),(8,(vN T.2.2)),(66,(vN T.2.1)),(67,(vN T.2.2)),(68,(qa (decide (T.2.2<T.2.1)))),(69,(qa (decide (T.2.2<T.2.1)))),(73,(qa ((decide (T.2.2<T.2.1))&&(decide (e01.r=(-1:Int))))))]) (LM:=[AR b6 49 (BL e01),AR b5 240 ([(vN (min T.2.1 T.2.2)),(vN (max T.2.1 T.2.2))]),AR b4 49 (BL e20),AR b3 240 ([(vN (min T.1 T.2.1)),(vN (max T.1 T.2.1))]),AR b2 105 (Ac T),CC b1 ER Nn (C4 ts (3*t+1)),AB x.p (rowsL Ac ts)]) 4 ?_ ?_
       ·rcases xO (decide (T.2.2<T.2.1)) with hg4|hg4
        ·refine zC (k:=69) (u:=qa true) O (by rw [hg4]) ?_
         have hg4':=xR hg4
         exact Au (v:=(pP b6 3)) O (AA O underlying49 O sizeOf3 O) (Au (v:=(vI e01.r)) O (AE (i:=0) (v:=(vI e01.r)) O O BN.a O) (Au (v:=(qa (decide (e01.r=(-1:Int))))) O (BO (c:=(decide (e01.r=(-1:Int)))) O O O) (AG (v:=(qa (decide (e01.r=(-1:Int))))) (AN O O) O (oNl' (zR KN (xP _))))))
        ·refine zC (k:=69) (u:=qa false) O (by rw [hg4]) ?_
         have hg4':=xQ hg4
         exact Ar O (Ar O (Ar O (AG (v:=(qa false)) (AI O O) O (oNl' (zR KN (xP _))))))
       refine asg' O (oNl' (zB (sL [2,3,16,17,18,5,4,23,9,10,7,8,65] O) (zA ?_)))
       refine zM O (λhc4=>?_) (λhc4=>?_)
       ·simp only [jK] at hc4
        exact zH (AM O (AG (v:=(pP b6 3)) (AA O underlying49 O sizeOf3 O) O (Ek 0 (off:=3) (vs:=[(vN t)]) (cs':=[(vN e01.a),(vN e01.b),(vI e01.l),(vN t)]) (AJ O) O sizeOf3 O (oNl' (zB (sL [2,3,16,17,18,5,4,23,9,10,7,8] O) (zJ (zl (⟨e01.a,e01.b,e01.l,((t:Nat):Int)⟩:E4) ((by unfold F1;rw [if_neg Z,if_pos Z])) (sF O) sr)))))))
       ·simp only [jK] at hc4
        exact zG (zJ (zl e01 ((by unfold F1;rw [if_neg Z,if_neg Z])) (sF O) sr))
     ·intro e21 hJ
      have hu1:=hJ
      refine zA (zH (AM O (BD 1 M5 O (BD 0 OL O (yE Hb 5 (kvs:=C4 ts (3*t+1)) (x:=((min T.2.1 T.2.2,max T.2.1 T.2.2):P2)) (y:=e21) (AJ O) O O O underlying239 O (F2 hn hN _ Z) (Bm Z Z) ?_)))))
      rw [show BZ (C4 ts (3*t+1)) ((min T.2.1 T.2.2,max T.2.1 T.2.2):P2) e21=C4 ts (3*t+2) from by rw [hu1,he1,hT];exact (LJ (ts:=ts) (t:=t) (i:=1) Z).symm]
      refine oNl' (zB (sL [2,3,16,17,18,5,4,23,9,10] O) (zJ (zA (zH (AG (AW (c:=(2:Int)) O O jY) O (AM O (oNl' (zB (sL [2,3,16,17,18,5,4,23,9,10] O) (yD (z6 (q4 ?_)))))))))))
      refine AG (Ae (c:=true) O O jY) O (oNl' (q1 (ze O (zG (q1 (zI (q4 (AM O (asg' O (q6 (sL [2,3,16,17,18,5,4,23,9,10,6] O) (CQ (Db 10) sr ?_)))))))))))
      refine BT O (Aj (v:=(pP b2 2)) O (AD (j:=2) O O underlying105 sizeOf3 O jY O) (Be 4 (vN T.2.2) BN O (BT O (Aj O (AW (c:=(3:Int)) O O jY) (Aj O (Dh (c:=(0:Int)) O O jY jY) (Aj (v:=(pP b2 0)) O (AD (j:=0) O O underlying105 sizeOf3 O jY O) (Be 4 (vN T.1) BN O (pS' O (pS' O (zT (zB (sL [2,3,16,17,18,5,4,23,9,10,7,8] O) ?_)))))))))))
      refine q2 (AM O (AM O (AG (FS (c:=((min T.2.2 T.1:Nat):Int)) O O (by split<;>omega)) O (AM O (AM O (AG (Eu (c:=((max T.2.2 T.1:Nat):Int)) O O (by split<;>omega)) O (AG (v:=(aG ([(vN (min T.2.2 T.1)),(vN (max T.2.2 T.1))]))) (AT (zs:=DC ((0,0):P2)) (vs:=[(vN (min T.2.2 T.1)),(vN (max T.2.2 T.1))]) (pv:=[(0,(vN (min T.2.2 T.1))),(1,(vN (max T.2.2 T.1)))]) (places:=[(0,1),(1,1)]) zeroValue240 underlying240 (λw=>by simp [sizeOf3]) O O) O (al WE O λb7=>Ax O sizeOf240 O (q3 (sL [2,3,16,17,18,5,4,23,9,10,7,8] O) (AM O ?_))))))))))
      refine BD 0 M5 O (AG (v:=(Value.tuple #[(aG (BL ((Ap (C4 ts (3*t+2)) ((min T.2.2 T.1,max T.2.2 T.1):P2)).getD jA))),(qa ((Ap (C4 ts (3*t+2)) ((min T.2.2 T.1,max T.2.2 T.1):P2)).isSome))])) (Cr Hb 6 (eV:=Nn) (kvs:=C4 ts (3*t+2)) (x:=((min T.2.2 T.1,max T.2.2 T.1):P2)) (z0:=jA) (co:=true) O O underlying239 zeroValue49 O (F2 hn hN _ Z) (Bm Z Z)) O (AM O (AG (AZ (v:=(aG (BL ((Ap (C4 ts (3*t+2)) ((min T.2.2 T.1,max T.2.2 T.1):P2)).getD jA)))) O O) O (AG (AZ (v:=(qa ((Ap (C4 ts (3*t+2)) ((min T.2.2 T.1,max T.2.2 T.1):P2)).isSome))) O O) O (al PJ O λb8=>Ax O sizeOf49 O (asg' O (q6 (sL [2,3,16,17,18,5,4,23,9,10,7,8,11] O) (q4 (AM O (AG (BQ (c:=(!((Ap (C4 ts (3*t+2)) ((min T.2.2 T.1,max T.2.2 T.1):P2)).isSome))) O O) O ?_))))))))))
      refine oNl' (zB (sL [2,3,16,17,18,5,4,23,9,10,7,8,48] O) (zA ?_))
      refine yN (tg λ(e02:E4)=>e02=(Ap (C4 ts (3*t+2)) (min T.2.2 T.1,max T.2.2 T.1)).getD (Jc (min T.2.2 T.1,max T.2.2 T.1))) (tg λ(e02:E4)=>[(2,jj),(3,(Value.map (some b1))),(16,(qw x.p ts.length x.c)),(17,(vN ts.length)),(18,(vN t)),(5,(pP b2 0)),(4,(vN t)),(23,(vI 2)),(9,(pP b7 0)),(10,(pP b8 0)),(7,(vN T.2.2)),(8,(vN T.1))]) (tg λ(e02:E4)=>[AR b8 49 (BL e02),AR b7 240 ([(vN (min T.2.2 T.1)),(vN (max T.2.2 T.1))]),AR b6 49 (BL e21),AR b5 240 ([(vN (min T.2.1 T.2.2)),(vN (max T.2.1 T.2.2))]),AR b4 49 (BL e20),AR b3 240 ([(vN (min T.1 T.2.1)),(vN (max T.1 T.2.1))]),AR b2 105 (Ac T),CC b1 ER Nn (C4 ts (3*t+2)),AB x.p (rowsL Ac ts)]) ?_ ?_
      ·refine zM O (λhc2=>?_) (λhc2=>?_)
       ·simp only [jK] at hc2
        exact zH (AG (v:=(pP b7 0)) (AA O underlying240 O sizeOf3 O) O (Az 1 (vN (min T.2.2 T.1)) BN O (AG (v:=(pP b7 1)) (AA O underlying240 O sizeOf3 O) O (Az 1 (vN (max T.2.2 T.1)) BN O (AG (v:=(aG ([(vN (min T.2.2 T.1)),(vN (max T.2.2 T.1)),(vI (-1:Int)),(vI (-1:Int))]))) (AT (zs:=BL jA) (vs:=[(vN (min T.2.2 T.1)),(vN (max T.2.2 T.1)),(vI (-1:Int)),(vI (-1:Int))]) (pv:=[(0,(vN (min T.2.2 T.1))),(1,(vN (max T.2.2 T.1))),(2,(vI (-1:Int))),(3,(vI (-1:Int)))]) (places:=[(0,1),(1,1),(2,1),(3,1)]) zeroValue49 underlying49 (λw=>by simp [sizeOf3]) O O) O (Ax O sizeOf49 O (oNl' (zB (sL [2,3,16,17,18,5,4,23,9,10,7,8] O) (zl (⟨min T.2.2 T.1,max T.2.2 T.1,-1,-1⟩:E4) ((K6 (k:=(min T.2.2 T.1,max T.2.2 T.1)) (by simpa using hc2))) (sF O) sr)))))))))
       ·simp only [jK] at hc2
        exact zG (zl ((Ap (C4 ts (3*t+2)) ((min T.2.2 T.1,max T.2.2 T.1):P2)).getD jA) ((K5 (by simpa using hc2))) (sF O) sr)
      ·intro e02 hJ
       have he2:=hJ
       refine q1 ?_
       refine yN (tg λ(e22:E4)=>e22=F1 e02 t T.2.2 T.1) (tg λ(e22:E4)=>[(2,jj),(3,(Value.map (some b1))),(16,(qw x.p ts.length x.c)),(17,(vN ts.length)),(18,(vN t)),(5,(pP b2 0)),(4,(vN t)),(23,(vI 2)),(9,(pP b7 0)),(10,(pP b8 0))]) (tg λ(e22:E4)=>[AR b8 49 (BL e22),AR b7 240 ([(vN (min T.2.2 T.1)),(vN (max T.2.2 T.1))]),AR b6 49 (BL e21),AR b5 240 ([(vN (min T.2.1 T.2.2)),(vN (max T.2.1 T.2.2))]),AR b4 49 (BL e20),AR b3 240 ([(vN (min T.1 T.2.1)),(vN (max T.1 T.2.1))]),AR b2 105 (Ac T),CC b1 ER Nn (C4 ts (3*t+2)),AB x.p (rowsL Ac ts)]) ?_ ?_
       ·refine zI (q4 (AM O (AM O (AG (Ae (c:=(decide (T.2.2<T.1))) O O (CM (a:=T.2.2) (b:=T.1))) O (AM O ?_)))))
        refine zX (FM:=[(2,jj),(3,(Value.map (some b1))),(16,(qw x.p ts.length x.c)),(17,(vN ts.length)),(18,(vN t)),(5,(pP b2 0)),(4,(vN t)),(23,(vI 2)),(9,(pP b7 0)),(10,(pP b8 0)),(7,(vN T.2.2)),(8,(vN T.1)),(55,(vN T.2.2)),(56,(vN T.1)),(57,(qa (decide (T.2.2<T.1)))),(58,(qa (decide (T.2.2<T.1)))),(62,(qa ((decide (T.2.2<T.1))&&(decide (e02.l=(-1:Int))))))]) (LM:=[AR b8 49 (BL e02),AR b7 240 ([(vN (min T.2.2 T.1)),(vN (max T.2.2 T.1))]),AR b6 49 (BL e21),AR b5 240 ([(vN (min T.2.1 T.2.2)),(vN (max T.2.1 T.2.2))]),AR b4 49 (BL e20),AR b3 240 ([(vN (min T.1 T.2.1)),(vN (max T.1 T.2.1))]),AR b2 105 (Ac T),CC b1 ER Nn (C4 ts (3*t+2)),AB x.p (rowsL Ac ts)]) 4 ?_ ?_
        ·rcases xO (decide (T.2.2<T.1)) with hg5|hg5
         ·refine zC (k:=58) (u:=qa true) O (by rw [hg5]) ?_
          have hg5':=xR hg5
          exact Au (v:=(pP b8 2)) O (AA O underlying49 O sizeOf3 O) (Au (v:=(vI e02.l)) O (AE (i:=0) (v:=(vI e02.l)) O O BN.a O) (Au (v:=(qa (decide (e02.l=(-1:Int))))) O (BO (c:=(decide (e02.l=(-1:Int)))) O O O) (AG (v:=(qa (decide (e02.l=(-1:Int))))) (AN O O) O (oNl' (zR J5 (xP _))))))
         ·refine zC (k:=58) (u:=qa false) O (by rw [hg5]) ?_
          have hg5':=xQ hg5
          exact Ar O (Ar O (Ar O (AG (v:=(qa false)) (AI O O) O (oNl' (zR J5 (xP _))))))
        refine asg' O (oNl' (zB (sL [2,3,16,17,18,5,4,23,9,10,7,8,54] O) (zA ?_)))
        refine zM O (λhc3=>?_) (λhc3=>?_)
        ·simp only [jK] at hc3
         exact zH (AM O (AG (v:=(pP b8 2)) (AA O underlying49 O sizeOf3 O) O (Ek 0 (off:=2) (vs:=[(vN t)]) (cs':=[(vN e02.a),(vN e02.b),(vN t),(vI e02.r)]) (AJ O) O sizeOf3 O (oNl' (zB (sL [2,3,16,17,18,5,4,23,9,10,7,8] O) (zJ (zl (⟨e02.a,e02.b,((t:Nat):Int),e02.r⟩:E4) ((by unfold F1;rw [if_pos Z])) (sF O) sr)))))))
        ·simp only [jK] at hc3
         refine q4 (AM O (AM O (AG (Bv (c:=(decide (T.1<T.2.2))) O O (CM (a:=T.1) (b:=T.2.2))) O (AM O ?_))))
         refine zX (FM:=[(2,jj),(3,(Value.map (some b1))),(16,(qw x.p ts.length x.c)),(17,(vN ts.length)),(18,(vN t)),(5,(pP b2 0)),(4,(vN t)),(23,(vI 2)),(9,(pP b7 0)),(10,(pP b8 0)),(7,(vN T.2.2)),(8,(vN T.1)),(66,(vN T.2.2)),(67,(vN T.1)),(68,(qa (decide (T.1<T.2.2)))),(69,(qa (decide (T.1<T.2.2)))),(73,(qa ((decide (T.1<T.2.2))&&(decide (e02.r=(-1:Int))))))]) (LM:=[AR b8 49 (BL e02),AR b7 240 ([(vN (min T.2.2 T.1)),(vN (max T.2.2 T.1))]),AR b6 49 (BL e21),AR b5 240 ([(vN (min T.2.1 T.2.2)),(vN (max T.2.1 T.2.2))]),AR b4 49 (BL e20),AR b3 240 ([(vN (min T.1 T.2.1)),(vN (max T.1 T.2.1))]),AR b2 105 (Ac T),CC b1 ER Nn (C4 ts (3*t+2)),AB x.p (rowsL Ac ts)]) 4 ?_ ?_
         ·rcases xO (decide (T.1<T.2.2)) with hg6|hg6
          ·refine zC (k:=69) (u:=qa true) O (by rw [hg6]) ?_
           have hg6':=xR hg6
           exact Au (v:=(pP b8 3)) O (AA O underlying49 O sizeOf3 O) (Au (v:=(vI e02.r)) O (AE (i:=0) (v:=(vI e02.r)) O O BN.a O) (Au (v:=(qa (decide (e02.r=(-1:Int))))) O (BO (c:=(decide (e02.r=(-1:Int)))) O O O) (AG (v:=(qa (decide (e02.r=(-1:Int))))) (AN O O) O (oNl' (zR dM (xP _))))))
          ·refine zC (k:=69) (u:=qa false) O (by rw [hg6]) ?_
           have hg6':=xQ hg6
           exact Ar O (Ar O (Ar O (AG (v:=(qa false)) (AI O O) O (oNl' (zR dM (xP _))))))
         refine asg' O (oNl' (zB (sL [2,3,16,17,18,5,4,23,9,10,7,8,65] O) (zA ?_)))
         refine zM O (λhc4=>?_) (λhc4=>?_)
         ·simp only [jK] at hc4
          exact zH (AM O (AG (v:=(pP b8 3)) (AA O underlying49 O sizeOf3 O) O (Ek 0 (off:=3) (vs:=[(vN t)]) (cs':=[(vN e02.a),(vN e02.b),(vI e02.l),(vN t)]) (AJ O) O sizeOf3 O (oNl' (zB (sL [2,3,16,17,18,5,4,23,9,10,7,8] O) (zJ (zl (⟨e02.a,e02.b,e02.l,((t:Nat):Int)⟩:E4) ((by unfold F1;rw [if_neg Z,if_pos Z])) (sF O) sr)))))))
         ·simp only [jK] at hc4
          exact zG (zJ (zl e02 ((by unfold F1;rw [if_neg Z,if_neg Z])) (sF O) sr))
       ·intro e22 hJ
        have hu2:=hJ
        refine zA (zH (AM O (BD 1 M5 O (BD 0 OL O (yE Hb 7 (kvs:=C4 ts (3*t+2)) (x:=((min T.2.2 T.1,max T.2.2 T.1):P2)) (y:=e22) (AJ O) O O O underlying239 O (F2 hn hN _ Z) (Bm Z Z) ?_)))))
        rw [show BZ (C4 ts (3*t+2)) ((min T.2.2 T.1,max T.2.2 T.1):P2) e22=C4 ts (3*t+3) from by rw [hu2,he2,hT];exact (LJ (ts:=ts) (t:=t) (i:=2) Z).symm]
        refine oNl' (zB (sL [2,3,16,17,18,5,4,23,9,10] O) (zJ (zA (zH (AG (AW (c:=(3:Int)) O O jY) O (AM O (oNl' (zB (sL [2,3,16,17,18,5,4,23,9,10] O) (yD (z6 (q4 ?_)))))))))))
        refine AG (Ae (c:=false) O O jY) O (oNl' (q1 (zb O (zU (zP (zP (zS (zJ (zA (zH (AG (AW (c:=((t+1:Nat):Int)) O O (AU (a:=t) (b:=1) Z)) O ?_)))))))))))
        refine AM O (oNl' (zB (sL [2,3,16,17,18,5,4,23,9,10] O) ?_))
        rw [show 3*t+3=3*(t+1)+0 by omega]
        exact zc (t+1) Z Z (sF O) (sl (sl (sl (sl (sl (sl (sl sr)))))))
 ·replace hc0:=xQ hc0
  have htl:t=ts.length:=by omega
  have hel:=Iv (ts:=ts) (3*ts.length)
  refine zU (zP (za (zS (q2 (AM O ?_)))))
  rw [show C4 ts (3*t+0)=(C4 ts (3*ts.length)) by rw [htl,Nat.add_zero]]
  refine st (v:=(vN ((C4 ts (3*ts.length)).length))) (RI 0 (kvs:=(C4 ts (3*ts.length))) O underlying239 O) (Av O) (AL.make0 bB O O Z O O λbo hbo=>asg' O (q6 (sL [2,3,16,17,18,12] O) (q4 (AM O (AL.range 1 (kvs:=(C4 ts (3*ts.length))) (AJ O) O underlying239 O O λb2=>oNl' (zB (sL [2,3,16,17,18,12,85] O) (zA (zI ?_))))))))
  refine yO (tg λ(seen:List Nat) (out:List E4) (p1:Option Addr) (c1:Nat)=>seen.Nodup/\(∀x∈seen,x<(C4 ts (3*ts.length)).length)/\out=seen.map (VF (C4 ts (3*ts.length)))/\OwnOk p1 out.length c1/\p1≠none) (tg λ(seen:List Nat) (out:List E4) (p1:Option Addr) (c1:Nat)=>[(2,jj),(85,(Value.pointer (jk b2))),(12,(qw p1 out.length c1))]) (tg λ(seen:List Nat) (out:List E4) (p1:Option Addr) (c1:Nat)=>[cL b2 b1 (C4 ts (3*ts.length)).length seen,rowW p1 49 4 out.length c1 (rowsL BL out),CC b1 ER Nn (C4 ts (3*ts.length)),AB x.p (rowsL Ac ts)]) (tg λ(seen:List Nat) (out:List E4) (p1:Option Addr) (c1:Nat)=>(C4 ts (3*ts.length)).length-seen.length) ([]:List Nat) ([]:List E4) (jk bo) ((C4 ts (3*ts.length)).length) (⟨List.nodup_nil,(λx hx=>by cases hx),rfl,hbo,by simp⟩) (sF O) sr (λseen out p1 c1 hJ=>?_)
  obtain ⟨hnd,hlt,hou,ho,hpn⟩:=hJ
  refine q4 ?_
  refine AL.next 2 0 (kvs:=(C4 ts (3*ts.length))) (seen:=seen) (AJ O) O O O O (λhall=>?_) (λqn kq ve hq hns=>?_)
  ·refine AG (AZ (v:=(qa false)) O O) O (q6 (sL [2,85,12,87] O) (zb O (zU (zP (zr (zS (q2 (AM O ?_))))))))
   have hpm:out.Perm ((C4 ts (3*ts.length)).map (·.2)):=by rw [hou];exact Uy hnd hlt hall
   have hol:out.length=(BG ts).length:=by rw [JC];simpa using hpm.length_eq
   have hlo:out.length<=3*ts.length:=by rw [hol,JC];exact hel
   exact AL.callS 1 (xs:=out) (ys:=BG ts) (v:=(Value.tuple #[])) (AJ O) (Aw (args:=[(qw p1 out.length c1),(Value.func (.func 168) #[] #[])]) O O call167) O (λw hw=>Up out _ _ _ 49 ho hpn O Z w (hw.holds (i:=1) O)) (λzs h1 h2=>aB hn hN h1 h2 hpm) (λd hd=>by cases hd<;>exact (Av O)) (q3 (sL [2,85,12] O) (AM O (ck' call119 (PF p1 _ c1 ho.le) O (asg' O (oNl' (zB (sL [2,85,12] O) (zA (zF (ret_one O (rd_tmp (v:=(qw p1 out.length out.length)) O) (λw hw=>(by rw [<-hol];exact dG hw 1 O ho (by rw [AV Bh,hol]) O)))))))))))
  ·refine AG (AZ (v:=(qa true)) O O) O (q6 (sL [2,85,12,87] O) (ze O (zG (zA (zI (q4 ?_))))))
   have hlo:out.length<=3*ts.length:=by rw [hou,xI];exact xK (Lq hnd hlt) hel
   refine AG (v:=(Value.tuple #[(aG (DC kq)),(aG (BL ve))])) (WB 2 0 (enc:=ER) (eV:=Nn) (kvs:=(C4 ts (3*ts.length))) (seen:=seen) (q:=qn) O O O hq) O (AG (AZ (v:=(aG (BL ve))) O O) O (al PJ O λb3=>Ax O sizeOf49 O (oNl' (zB (sL [2,85,12,14] O) (zA (zH (AM O (BD 0 OL O (zZ (V:=λb4=>(qw (jk b4) 1 1)) (T:=49) (cs:=BL ve) (AJ O) (Af (z:=.agg (BL jA).toArray) (cs:=BL ve) (pv:=[(0,(aG (BL ve)))]) underlying46 sizeOf49 zeroValue49 jY jY O (K3 ve)) O (Av O) λb4=>zh 3 (j:=0) (cs2:=rowsL BL (out++[ve])) bB O ho (AV Bh _) O O O O O jY (FD Z) Z (by rw [BI];rfl) O λp_1 c_1 ho_1 hne_1=>?_)))))))))
   refine asg' O (oNl' (zB (sL [2,85,12,14] O) (zJ ?_)))
   have hnext:seen.length<(C4 ts (3*ts.length)).length:=by have h9:=Lq (l:=seen++[qn]) (n:=(C4 ts (3*ts.length)).length) (List.nodup_append.2 ⟨hnd,List.nodup_cons.2 ⟨List.not_mem_nil,List.nodup_nil⟩,λa ha b hb e=>by rw [xM.1 hb] at e;exact hns (e▸ha)⟩) (λx hx=>by rcases List.mem_append.1 hx with h|h;exact hlt x h;rw [xM.1 h];exact (List.getElem?_eq_some_iff.1 hq).1);rw [xJ,List.length_singleton] at h9;omega
   rw [show out.length+1=(out++[ve]).length by simp]
   exact zu (seen++[qn]) (out++[ve]) p_1 c_1 (⟨List.nodup_append.2 ⟨hnd,List.nodup_cons.2 ⟨List.not_mem_nil,List.nodup_nil⟩,λa ha b hb e=>by rw [xM.1 hb] at e;exact hns (e▸ha)⟩,λx hx=>by rcases List.mem_append.1 hx with h|h;exact hlt x h;rw [xM.1 h];exact (List.getElem?_eq_some_iff.1 hq).1,by rw [List.map_append,hou];simp [YF hq],(by simpa using ho_1),hne_1⟩) (by have h8:=hnext;rw [xJ,List.length_singleton];omega) (sF O) (sl (sl sr))
theorem Wr (ts:List (Tq3)) (x:RX (rowsL Ac ts) ts.length) (N:Nat) (hn:Bu N ts=true) (hN:N<=4611686018427387904) (hl:ts.length<=1000000000) (w:World) {S:Nat->Prop} (hx:Ro S w x):Calls prog 101 #[(qw x.p ts.length x.c)] w (Ad (RX (rowsL BL (BG ts)) (BG ts).length) S w):=(Nc ts x N hn hN hl w hx).mono λe w1 h=>h.ofCX
end
def inL (l:List Nat):List Value:=l.map λ(d:Nat)=>vN d
theorem Cl (l:List Nat):(inL l).length=l.length:=by simp [inL]
theorem I9 {l:List Nat} {j:Nat} (h:j<l.length):(inL l)[j*1]?=some (vN (l.getD j 0)):=by simp [inL,h]
theorem DJ (a b:List Nat):inL (a++b)=inL a++inL b:=by simp [inL]
section
set_option maxRecDepth 100000
theorem Mg:ElemT prog 32 3 1 8:=⟨underlying32,D9 jV⟩
theorem Ww (p:Option Addr) (n cp:Nat) (h:n<=cp) (w:World)  :Calls prog 67 #[(qw p n cp)] w (Ak w (qw p n n)):=by
 refine Ab (args:=[(qw p n cp)]) func67 O O (Av O) (zN (sL [0] O) (q4 (asg' O (oNl' (q2 (AM O (AM O (AG (v:=(vN n)) (AC O underlying32) O (AM O (AG (v:=(vN n)) (AC O underlying32) O (AG (v:=(qw p n n)) (D4 (m:=n) O O O underlying32 sizeOf3 Z) O ?_)))))))))))
 exact asg' O (oNl' (zB (sL [2] O) (zA (zF (ret_one O (rd_tmp (v:=(qw p n n)) O) (λw hw=>⟨rfl,hw.out⟩))))))
theorem PP {N:Nat} {ts ss:List (Tq3)} (x:RM N ts ss) (hl:ts.length<=1000000000) (hN:N<=4611686018427387904) (hnb:Bu N ts=true) (w:World) {S:Nat->Prop} (hx:Ro S w x):Calls prog 34 #[(aG (Dk x))] w (Ad (CX (rowsL BL (BG ts)) (BG ts).length) S w):=by
 have lx:=Bx (W:=w) hx
 refine AX (args:=[(aG (Dk x))]) (L:=[AB x.a.p (x.cs),AB x.b.p (rowsL Ac ts),AB x.c.p (x.ds)]) func34 O O (Av O) (DF hx Ah) (zN (sL [0] O) (q4 (Bb (cs:=Dk x) O λb1=>asg' O (q6 (sL [1,2] O) (q4 (BD 0 Do O (Ct (args:=[(aG (Dk x))]) (v:=(qa true)) call43 (λw hw=>(by have h9:=Nd x Z w (inS hw 1 O lx);rw [hnb] at h9;exact h9)) O (AG (BQ (c:=false) O O) O (oNl' (zB (sL [1,2,5] O) ?_))))))))))
 exact zA (zb O (zG (q2 (AG (v:=(pP b1 1)) (AA O underlying30 O sizeOf23 O) O (Az 0 (qw x.b.p ts.length x.b.c) B1 O (zm (S:=S) (α:=CX (rowsL BL (BG ts)) (BG ts).length) (args:=[(qw x.b.p ts.length x.b.c)]) call101 (λw hw=>Nc ts x.b N hnb hN hl w (cE (inS hw 1 O lx))) O O O λo lo=>asg' O (oNl' (zB (sL [1,2] O) (zA (zF (ret_one O (rd_tmp (v:=(qw o.p ((BG ts).length) ((BG ts).length))) O) (λw hw=>EH hw (inS hw 0 O lo) O))))))))))))
theorem Q6 {N:Nat} {ts ss:List (Tq3)} (x:RM N ts ss) (hl:ts.length<=1000000000) (hN:N<=4611686018427387904) (hnb:Bu N ts=true) (w:World) {S:Nat->Prop} (hx:Ro S w x):Calls prog 34 #[(aG (Dk x))] w (Ad (RX (rowsL BL (BG ts)) (BG ts).length) S w):=(PP x hl hN hnb w hx).mono λe w1 h=>h.ofCX
end
end Go.Proofs.YtpolhpjiahbidaaGreatDoor
