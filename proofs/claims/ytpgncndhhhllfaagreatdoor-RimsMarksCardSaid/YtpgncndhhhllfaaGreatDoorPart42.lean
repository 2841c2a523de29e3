import Derived.Shelf.SlSortCmp.Whole1
import Derived.Test.YtpgncndhhhllfaaGreatDoorPart25
import Derived.Test.YtpgncndhhhllfaaGreatDoorPart26
import Derived.Test.YtpgncndhhhllfaaGreatDoorPart30
import Derived.Test.YtpgncndhhhllfaaGreatDoorPart32
import Derived.Test.YtpgncndhhhllfaaGreatDoorPart37
import Derived.Test.YtpgncndhhhllfaaGreatDoorPart38
import Derived.Test.YtpgncndhhhllfaaGreatDoorPart39
import Derived.Test.YtpgncndhhhllfaaGreatDoorPart40
import Derived.Test.YtpgncndhhhllfaaGreatDoorPart41
namespace Go.Proofs.YtpgncndhhhllfaaGreatDoor
open Go Go.RowKit Go.Proofs.Tryz
set_option linter.unusedVariables false
set_option linter.unusedSimpArgs false
section
structure RI where
  l:List Nat
  p:Option Addr
  c:Nat
  ok:A6 p l.length c
  sm:l.length<=10000000
instance:Inhabited RI:=⟨⟨[],none,0,OwnOk.none.row,by decide⟩⟩
def Vx (x:RI):Value:=.slice x.p x.l.length x.c
def riR (x:RI):As:=AI x.p (inL x.l)
def LQ (rs:List RI):List As:=rs.map riR
def rvL (rs:List RI):List Value:=rs.map Vx
def Yz (x:RI):RX (inL x.l) x.l.length:=⟨x.p,x.c,x.ok⟩
theorem Gq (rs:List RI):(rvL rs).length=rs.length:=by simp [rvL]
theorem N0 (a b:List RI):rvL (a++b)=rvL a++rvL b:=by simp [rvL]
theorem V3 (a:RI) (A:List As) (rs:List RI):(riR a::(A++LQ rs)).Perm (A++LQ (rs++[a])):=by
  have e:A++LQ (rs++[a])=(A++LQ rs)++[riR a]:=by unfold LQ;rw [List.map_append,List.append_assoc];rfl
  rw [e]
  exact (List.perm_append_singleton (riR a) (A++LQ rs)).symm
theorem Xv {A:List As} {rs ys:List RI} (h:ys.Perm rs):(A++LQ rs).Perm (A++LQ ys):=(List.Perm.refl A).append (h.map riR).symm
section
variable {P:Program} {ops:Array Oper} {rest:List Oper} {Q:Exit->Act->World->Prop} {n:Nat} {F:List (Nat×Value)} {w0:A7} {L L2:List As}
theorem AD.permL (hp:L.Perm L2) (next:AD P ops rest Q n F w0 L2):AD P ops rest Q n F w0 L:=λa w ha hW=>next a w ha (hW.perm hp)
theorem AD.callWE {o:Oper} {f:FuncId} {args:Array Value} {v:Value} {α:Type} {K:α->Prop} {cs':α->List Value} (i:Nat) {q:Option Addr} {T:TypeId} {z m c:Nat} {cs:List Value} (hw:Wt ops n F o)
    (he:∀a w,CF n a F->A_ w0 w L->(execOp a.eval o).run P w=.ok (.enter f args) w) (hi:L[i]?=some (rowW q T z m c cs))
    (hc:∀w,A_ w0 w L->Calls P f args w λe w'=>e=.returned v/\I8 w w' (q.map (·.block))/\∃y,K y/\∀b,q.map (·.block)=some b->∃o,w'.heap[b]?=some o/\(rowW q T z m c (cs' y)).P o)
    (hd:∀d,o.dst=some d->d<n) (next:∀y,K y->AD P ops rest Q n (match o.dst with|some d=>(d,v)::F|none=>F) w0 (L.set i (rowW q T z m c (cs' y)))):AD P ops (o::rest) Q n F w0 L:=λa w ha hW=>by
  unfold wpList
  rw [if_pos (hw a ha)]
  left
  unfold Oper.wp
  rw [he a w ha hW,Oper.upon_enter]
  refine (hc w hW).mono ?_
  rintro e w' ⟨rfl,hg,y,hk,hr⟩
  have hW':=hW.renew hi rfl hg (y:=rowW q T z m c (cs' y)) λb e=>⟨.inl e,hr b e⟩
  have next:=next y hk
  cases hdd:o.dst with
  | none=>rw [hdd] at next;exact next _ _ ha.put_none hW'
  | some d=>rw [hdd] at next;exact next _ _ (ha.put (hd d hdd)) hW'
end
def YL (x y:RI):Prop:=¬cmpL y.l x.l<0
theorem ZC {α:Type} (f:α->RI):Go.Sort.SWO (ltOf λx y:α=>cmpL (f x).l (f y).l) where
  irrefl x:=decide_eq_false (by show ¬cmpL (f x).l (f x).l<0;rw [Kt];decide)
  trans x y z h1 h2:=decide_eq_true (FF _ _ _ (of_decide_eq_true h1) (of_decide_eq_true h2))
  ntrans x y z h1 h2:=by
    have h1:¬cmpL (f x).l (f y).l<0:=of_decide_eq_false h1
    have h2:¬cmpL (f y).l (f z).l<0:=of_decide_eq_false h2
    refine decide_eq_false λ(h3:cmpL (f x).l (f z).l<0)=>?_
    rcases Int.lt_trichotomy (cmpL (f x).l (f y).l) 0 with h4|h4|h4
    · exact h1 h4
    · rw [<-Ez _ _ h4] at h2;exact h2 h3
    · rcases Int.lt_trichotomy (cmpL (f y).l (f z).l) 0 with h5|h5|h5
      · exact h2 h5
      · rw [Ez _ _ h5] at h1;exact h1 h3
      · have e1:=De (f x).l (f y).l
        have e2:=De (f y).l (f z).l
        have e3:=De (f x).l (f z).l
        have:=FF (f z).l (f y).l (f x).l (by omega) (by omega)
        omega
def Fs (w:World) (Ab:Nat) (x:RI):Prop:=Go.Proofs.YtpgncndhhhllfaaGreatDoor.Holds w (riR x)/\∀b,(riR x).foot=some b->Ab≠b
instance goodInh (w:World) (Ab:Nat):Inhabited {x:RI // Fs w Ab x}:=⟨⟨default,(λb e=>by cases e),(λb e=>by cases e)⟩⟩
theorem GU {α:Type} [Inhabited α] {enc:α->Value} {w:World} {Ab off m b:Nat} {dk:Array α} {os:Array Obj} {o:Obj} (hb:w.heap[b]?=some o) (hne:Ab≠b):(sortWorld enc w Ab off m dk os).heap[b]?=some o:=by
  have hlt:b<w.heap.size:=by
    rcases Nat.lt_or_ge b w.heap.size with h|h
    · exact h
    · rw [Array.getElem?_eq_none h] at hb;cases hb
  unfold sortWorld
  rw [Go.Sort.heap_grow_old _ _ (by simpa [Go.Sort.putRow,Go.Sort.mapBlock,Go.Sort.ahead] using hlt)]
  simp [Go.Sort.putRow,Go.Sort.mapBlock,Go.Sort.ahead,Array.getElem?_modify,hne,hb]
theorem XR (Ab off size:Nat) (w:World):CmpLays1 Tryz.prog 117 #[] (λx:{x:RI // Fs w Ab x}=>Vx x.1) (λx y=>cmpL x.1.l y.1.l) Ab off size w:=λm os dk _ x y=>by
  rw [Array.append_empty]
  have ro:∀x:{x:RI // Fs w Ab x},Ro (λ_=>True) (sortWorld (λx:{x:RI // Fs w Ab x}=>Vx x.1) w Ab off m dk os) (Yz x.1):=λx y hy=>by
    rcases List.mem_singleton.1 hy with rfl
    refine ⟨λb e=>?_,λ_ _=>trivial⟩
    obtain ⟨o,ho,hp⟩:=x.2.1 b e
    exact ⟨o,GU ho (x.2.2 b e),hp⟩
  exact (Nk x.1.l y.1.l (Yz x.1) (Yz y.1) x.1.sm _ (ro x) (ro y)).mono λe w' h=>⟨h.1,O_ h.2⟩
theorem Mt {α:Type} {p:α->Prop}:∀(l:List α) (h:∀x∈l,p x),(l.pmap Subtype.mk h).map Subtype.val=l
  | [],_=>rfl
  | x::r,h=>by rw [List.pmap_cons,List.map_cons,Mt r]
theorem R9 (rs:List RI) (p:Option Addr) (n c:Nat) (T:TypeId) (ho:OwnOk p n c) (hp0:p≠none) (hn:n=rs.length) (hN:n<4611686018427387904) (w:World) (hrow:∀b,p.map (·.block)=some b->∃o,w.heap[b]?=some o/\(rowW p T 1 n c (rvL rs)).P o)
    (hg:∀r∈rs,Go.Proofs.YtpgncndhhhllfaaGreatDoor.Holds w (riR r)/\∀b,(riR r).foot=some b->p.map (·.block)≠some b) :
    Calls Tryz.prog 116 #[.slice p n c,.func (.func 117) #[] #[]] w λe w'=>e=.returned (.tuple #[])/\I8 w w' (p.map (·.block))/\∃ys:List RI,(ys.Perm rs/\ys.Pairwise YL)/\∀b,p.map (·.block)=some b->∃o,w'.heap[b]?=some o/\(rowW p T 1 n c (rvL ys)).P o:=by
  cases hp:p with
  | none=>exact absurd hp hp0
  | some a =>
    subst hp
    obtain ⟨o,hob,cur,rfl,hsz,hcur⟩:=hrow a.block rfl
    have hat:=ho.at0 a rfl
    have hle:=ho.le
    rw [Nat.mul_one] at hsz hcur
    have hg':∀r∈rs,Fs w a.block r:=λr hr=>⟨(hg r hr).1,λb e h=>(hg r hr).2 b e (by rw [<-h];rfl)⟩
    obtain ⟨d,hd⟩:∃d,d=(rs.pmap (Subtype.mk (p:=Fs w a.block)) hg').toArray:=⟨_,rfl⟩
    have hdz:d.size=n:=by rw [hd,hn];simp
    have hdx:d.toList.map Subtype.val=rs:=by rw [hd];exact Mt _ _
    have flat:∀(d:Array {x:RI // Fs w a.block x}) j,j<d.size->(rvL (d.toList.map Subtype.val))[j]?=some (Vx (d[j]!).1):=λd j hj=>by
      unfold rvL
      rw [List.map_map,List.getElem?_map,Array.getElem?_toList,Array.getElem?_eq_getElem hj,getElem!_pos d j hj];rfl
    have hH:Go.Sort.Holds (λx:{x:RI // Fs w a.block x}=>Vx x.1) w a.block 0 d:=λj hj=>by
      refine ⟨?_,by simp [World.frozen?,hob]⟩
      have h1:(cur.toList.take n)[j]?=(rvL rs)[j]?:=by rw [hcur]
      rw [List.getElem?_take_of_lt (by omega),Array.getElem?_toList,<-hdx,flat d j hj] at h1
      unfold World.cell?
      simp only [hob,Nat.zero_add]
      exact h1
    have hlt:a.block<w.heap.size:=by
      rcases Nat.lt_or_ge a.block w.heap.size with h|h
      · exact h
      · rw [Array.getElem?_eq_none h] at hob;cases hob
    have h:=Tryz.slices_SortFunc_int (λx:{x:RI // Fs w a.block x}=>Vx x.1) (λx=>rfl) (λx y=>cmpL x.1.l y.1.l) (ZC λx:{x:RI // Fs w a.block x}=>x.1) 117 #[] a.block 0 c d w Tryz.call117 (XR a.block 0 d.size w) hH hlt (by omega)
    rw [hdz] at h
    rw [hat]
    refine h.mono ?_
    rintro e w' ⟨rfl,d',m,os,⟨hz',_,hperm⟩,hsort,rfl⟩
    have hz2:d'.size=n:=by rw [hz',hdz]
    have hperm':d'.toList.Perm d.toList:=by
      have e1:d'.extract 0 n=d':=by rw [<-hz2];exact Array.extract_size
      have e2:d.extract 0 n=d:=by rw [<-hdz];exact Array.extract_size
      rw [e1,e2] at hperm
      exact hperm
    refine ⟨rfl,⟨⟨rfl,rfl,rfl,by simp [sortWorld,Go.Sort.grow,Go.Sort.putRow,Go.Sort.mapBlock,Go.Sort.ahead],λj hj hne=>?_⟩,by show w.drawn<=w.drawn+m;omega⟩,d'.toList.map Subtype.val,⟨by rw [<-hdx];exact hperm'.map _,List.pairwise_map.2 (List.pairwise_iff_getElem.2 λi j hi hj hij=>?_)⟩,λb e=>?_⟩
    · have hne':a.block≠j:=λe=>hne (by rw [e];rfl)
      rw [Array.getElem?_eq_getElem hj]
      exact GU (Array.getElem?_eq_getElem hj) hne'
    · have hi':i<d'.size:=by simpa using hi
      have hj':j<d'.size:=by simpa using hj
      have h9:=of_decide_eq_false (hsort i j (Nat.zero_le _) hij (by omega))
      rw [getElem!_pos d' j hj',getElem!_pos d' i hi'] at h9
      simpa [YL] using h9
    · injection e with e
      subst e
      refine ⟨.cells (Go.Sort.putCells (λx:{x:RI // Fs w a.block x}=>Vx x.1) 0 d' cur) T (0,0),?_,_,rfl,by simp [Go.Sort.putCells,hsz],?_⟩
      · unfold sortWorld
        rw [Go.Sort.heap_grow_old _ _ (by simpa [Go.Sort.putRow,Go.Sort.mapBlock,Go.Sort.ahead] using hlt)]
        simp [Go.Sort.putRow,Go.Sort.mapBlock,Go.Sort.ahead,Array.getElem?_modify,hob,Go.Sort.onCells]
      · rw [Nat.mul_one]
        apply List.ext_getElem?
        intro j
        have hlen:(rvL (d'.toList.map Subtype.val)).length=n:=by rw [Gq,List.length_map,Array.length_toList,hz2]
        by_cases hj:j<n
        · rw [List.getElem?_take_of_lt hj,Array.getElem?_toList,flat d' j (by rw [hz2];exact hj)]
          unfold Go.Sort.putCells
          rw [Array.getElem?_mapIdx,Array.getElem?_eq_getElem (by omega),Option.map_some,if_pos ⟨Nat.zero_le _,by omega⟩]
          rfl
        · rw [List.getElem?_take_eq_none (by omega),List.getElem?_eq_none (by omega)]
theorem Q8 {w0:A7} {w:World} {A:List As} {rs:List RI} {i:Nat} {p:Option Addr} {T n c:Nat} {cs:List Value} (hw:A_ w0 w (A++LQ rs)) (hi:A[i]?=some (rowW p T 1 n c cs)):∀r∈rs,Go.Proofs.YtpgncndhhhllfaaGreatDoor.Holds w (riR r)/\∀b,(riR r).foot=some b->p.map (·.block)≠some b:=λr hr=>by
  have hm:riR r∈LQ rs:=List.mem_map.2 ⟨r,hr,rfl⟩
  have hm2:riR r∈A++LQ rs:=List.mem_append_right _ hm
  refine ⟨λb e=>(hw.2.1 _ hm2 b e).2,λb e h=>?_⟩
  have h1:=(List.pairwise_append.1 hw.2.2).2.2 _ (List.mem_of_getElem? hi) _ hm
  rcases h1 with ⟨h2,_⟩|h2
  · cases h2
  · exact h2 b h e
structure X8 (ls:List (List Nat)) where
  rs:List RI
  e:rs.map (·.l)=ls
  q:RX (rvL rs) rs.length
instance {ls:List (List Nat)}:Ch (X8 ls):=⟨λx=>x.q.val,λx=>x.q.row::LQ x.rs,λx y hy=>by
  rcases List.mem_cons.1 hy with rfl|hy
  · rfl
  · obtain ⟨r,_,rfl⟩:=List.mem_map.1 hy;rfl⟩
theorem Wl {S:Nat->Prop} {W w:World} {A:List As} {rs:List RI} {ls:List (List Nat)} (hw:A_ ⟨W,none⟩ w (A++LQ rs)) (i:Nat) {p:Option Addr} {T n c:Nat} (hi:A[i]?=some (rowW p T 1 n c (rvL rs))) (ho:OwnOk p n c) (hn:n=rs.length) (he:rs.map (·.l)=ls) (hat:∀r∈rs,∀b,(riR r).foot=some b->Nw ⟨W,none⟩ S b) {v:Value} (hv:v=.slice p n n):Av (X8 ls) S W (.returned v) w:=by
  subst hn
  have hi':(A++LQ rs)[i]?=some (rowW p T 1 rs.length c (rvL rs)):=by
    rw [List.getElem?_append_left (List.getElem?_eq_some_iff.1 hi).1];exact hi
  refine ⟨⟨rs,he,⟨p,rs.length,ho.clip⟩⟩,by rw [hv];rfl,hw.out,λy hy=>?_⟩
  have hy:y∈AI p (rvL rs)::LQ rs:=hy
  rcases List.mem_cons.1 hy with rfl|hy
  · exact Dx hw i hi' ho (by rw [Gq,Nat.mul_one])
  · obtain ⟨r,hr,rfl⟩:=List.mem_map.1 hy
    exact ⟨λb e=>(hw.2.1 _ (List.mem_append_right _ hy) b e).2,hat r hr⟩
def PJ (a b:List Nat):Prop:=¬cmpL b a<0
theorem Rz {a b:List Nat} (h1:PJ a b) (h2:PJ b a):a=b:=by
  unfold PJ at h1 h2
  have:=De a b
  exact Ez _ _ (by omega)
theorem QE {a b c:List Nat} (h1:PJ a b) (h2:PJ b c):PJ a c:=by
  unfold PJ at *
  intro h3
  rcases Int.lt_trichotomy (cmpL a b) 0 with h|h|h
  · exact h2 (FF _ _ _ h3 h)
  · rw [Ez _ _ h] at h3;exact h2 h3
  · have:=De a b;omega
def Q3 (x:List Nat):List (List Nat)->List (List Nat)
  | []=>[x]
  | y::r=>if cmpL x y<0 then x::y::r else y::Q3 x r
def N_:List (List Nat)->List (List Nat)
  | []=>[]
  | x::r=>Q3 x (N_ r)
theorem Hp (x:List Nat):∀l,(Q3 x l).Perm (x::l)
  | []=>List.Perm.refl _
  | y::r=>by
    unfold Q3
    split
    · exact List.Perm.refl _
    · exact (List.Perm.cons y (Hp x r)).trans (List.Perm.swap x y r)
theorem Kc:∀l,(N_ l).Perm l
  | []=>List.Perm.refl _
  | x::r=>(Hp x (N_ r)).trans (List.Perm.cons x (Kc r))
theorem H9 (x:List Nat):∀l,l.Pairwise PJ->(Q3 x l).Pairwise PJ
  | [],_=>List.pairwise_singleton _ _
  | y::r,h=>by
    obtain ⟨h1,h2⟩:=List.pairwise_cons.1 h
    unfold Q3
    split
    · rename_i k
      have hxy:PJ x y:=by unfold PJ;have:=De x y;omega
      refine List.pairwise_cons.2 ⟨λz hz=>?_,h⟩
      rcases List.mem_cons.1 hz with rfl|hz
      · exact hxy
      · exact QE hxy (h1 z hz)
    · rename_i k
      refine List.pairwise_cons.2 ⟨λz hz=>?_,H9 x r h2⟩
      rcases List.mem_cons.1 ((Hp x r).mem_iff.1 hz) with rfl|hz
      · exact k
      · exact h1 z hz
theorem IB:∀l,(N_ l).Pairwise PJ
  | []=>List.Pairwise.nil
  | x::r=>H9 x _ (IB r)
theorem RB {l l':List (List Nat)} (hp:l'.Perm l) (hs:l'.Pairwise PJ):l'=N_ l :=
  List.Perm.eq_of_pairwise (le:=PJ) (λx y _ _ h1 h2=>Rz h1 h2) hs (IB l) (hp.trans (Kc l).symm)
theorem Q6 {rs ys:List RI} (hp:ys.Perm rs) (hs:ys.Pairwise YL):ys.map (·.l)=N_ (rs.map (·.l)):=RB (hp.map _) (List.pairwise_map.2 hs)
def Wo (ts:List T3):List (List Nat):=N_ (GN ts (B3 ts).length).2
end
section
set_option maxRecDepth 100000
theorem XN:ElemT Tryz.prog 127 70 1 24:=⟨Tryz.underlying127,C3 (by kernel_rfl)⟩
theorem TG (p:Option Addr) (n cp:Nat) (h:n<=cp) (w:World)  :Calls Tryz.prog 118 #[(Value.slice p n cp)] w (An w (Value.slice p n n)):=by
 refine Ag (args:=[(Value.slice p n cp)]) Tryz.func118 rfl rfl (AY rfl) (AF.subF (sL [0] rfl) (q4 (asg' rfl (AD.nil (q2 ?_)))))
 refine AJ rfl (AJ rfl (AH (v:=(vN n)) (AE rfl Tryz.underlying127) rfl (AJ rfl (AH (v:=(vN n)) (AE rfl Tryz.underlying127) rfl (AH (v:=(Value.slice p n n)) (CK (m:=n) rfl rfl rfl Tryz.underlying127 Tryz.sizeOf70 (by omega)) rfl ?_)))))
 exact asg' rfl (AD.nil (AC.subF (sL [2] rfl) (AC.then_ (AF.ret (AN rfl (AQ (v:=(Value.slice p n n)) rfl) (λw hw=>⟨rfl,hw.out⟩))))))
theorem IP (x0 x1:Nat):Instr.fill (λi=>some (i*1,1)) (BY ((0,0):P2)).toArray [(0,vN x0),(1,vN x1)]=some (BY (x0,x1)).toArray:=by kernel_rfl
set_option maxHeartbeats 4000000 in
theorem MA {ps:List Pt} {ts ss:List T3} (x:MX ps ts ss) (hor:(By ps.length ts&&Cl ts (3*ts.length))=true) (hwn:0<(B3 ts).length) (hp:ps.length<=1000000) (htl:ts.length<=1000000) (w:World) {S:Nat->Prop} (hx:Ro S w x):Calls Tryz.prog 63 #[(aG (CC x))] w (Av (X8 (Wo ts)) S w):=by
 have hnb:By ps.length ts=true:=(Bool.and_eq_true _ _▸hor).1
 have ho:Cl ts (3*ts.length)=true:=(Bool.and_eq_true _ _▸hor).2
 have hwl:=TN (ts:=ts)
 have hrl0:=O0 (ts:=ts)
 have lx:=DF (W:=w) hx
 refine Ah (args:=[(aG (CC x))]) (L:=[AI x.a.p (rowsL BE ps),AI x.b.p (rowsL Aq ts),AI x.c.p (rowsL Aq ss)]) Tryz.func63 rfl rfl (AY rfl) (EV hx Ar) (AF.subF (sL [0] rfl) (q4 (B9 (cs:=CC x) rfl λb1=>asg' rfl (q3 (sL [1,2] rfl) ?_))))
 refine BF 0 B1 rfl (AD.callR (S:=S) (α:=SX ts true) (args:=[(aG (CC x))]) Tryz.call112 (λw hw=>(by have h9:=M7 x hp htl w (inS hw 1 rfl lx);rw [hor] at h9;exact h9)) rfl rfl rfl λsx lsx=>AJ rfl (AH (AS (v:=(Value.map (some sx.b))) rfl rfl) rfl (AH (AS (v:=(Value.bool true)) rfl rfl) rfl (asg' rfl ?_))))
 refine asg' rfl (q6 (sL [1,2,3,4] rfl) (q4 (AJ rfl (AH (Bw (c:=false) rfl rfl) rfl (AD.nil ?_)))))
 refine AC.subF (sL [1,2,3,18] rfl) (AC.then_ (AF.cond_false rfl (AF.skip (q2 (asg' rfl ?_)))))
 refine AD.nilRow 70 1 (q3 (sL [1,2,3,5] rfl) (AD.makeMap Dw vN (AO rfl) rfl λb2=>asg' rfl (q6 (sL [1,2,3,5,6] rfl) (q4 ?_))))
 refine BF 3 B1 rfl (AJ rfl (cX (S:=S) (cs:=rowsL Aq (B3 ts)) (k:=(B3 ts).length) (args:=[(aG (CC x)),(Value.map (some sx.b))]) Tryz.call113 (λw hw=>PM x sx hnb hp htl w (inS hw 4 rfl lx) (inS hw 2 rfl lsx)) rfl rfl rfl λwy lwy=>AH (v:=(vN ((B3 ts).length))) (AE rfl Tryz.underlying125) rfl (AJ rfl (AD.nil ?_))))
 refine AC.subF (sL [1,2,3,5,6,22,23,24] rfl) (AC.then_ (AF.block ?_))
 refine AF.lp5 (tg λ(i:Nat) (rs:List RI) (p1:Option Addr) (c1:Nat) (dn:List (P2×Nat))=>i<=(B3 ts).length/\OwnOk p1 rs.length c1/\dn=(GN ts i).1/\rs.map (·.l)=(GN ts i).2/\Qv ts dn/\(∀r∈rs,∀b,(riR r).foot=some b->Nw ⟨w,none⟩ S b)/\rs.length<=i) (tg λ(i:Nat) (rs:List RI) (p1:Option Addr) (c1:Nat) (dn:List (P2×Nat))=>[(1,(pP b1 0)),(2,(Value.slice none 0 0)),(3,(Value.map (some sx.b))),(6,(Value.map (some b2))),(22,(Value.slice wy.p ((B3 ts).length) wy.c)),(23,(vN ((B3 ts).length))),(24,(vN i)),(5,(Value.slice p1 rs.length c1))]) (tg λ(i:Nat) (rs:List RI) (p1:Option Addr) (c1:Nat) (dn:List (P2×Nat))=>(AI wy.p (rowsL Aq (B3 ts))::Bd b2 Dw vN dn::rowW p1 70 1 rs.length c1 (rvL rs)::G1 sx.b Dw vN sx.kvs::Ab b1 30 (CC x)::AI x.a.p (rowsL BE ps)::AI x.b.p (rowsL Aq ts)::AI x.c.p (rowsL Aq ss)::LQ rs)) (tg λ(i:Nat) (rs:List RI) (p1:Option Addr) (c1:Nat) (dn:List (P2×Nat))=>(B3 ts).length-i) 0 ([]:List RI) none 0 ([]:List (P2×Nat)) (⟨Nat.zero_le _,OwnOk.none,rfl,rfl,Qv.nil,(λr hr=>by cases hr),Nat.le_refl _⟩) (sF rfl) sr (λi rs p1 c1 dn hJ=>?_)
 obtain ⟨hi,ho1,hdn,hrl,hdi,hat,hrn⟩:=hJ
 refine q4 (AH (Ad (c:=(decide (i<((B3 ts).length)))) rfl rfl (CB (a:=i) (b:=(B3 ts).length))) rfl (AD.nil (q1 ?_)))
 refine AF.cond rfl (λhc1=>?_) (λhc1=>?_)
 ·replace hc1:=of_decide_eq_true hc1
  obtain ⟨wq,hwq⟩:∃q,q=(B3 ts).getD i (0,0,0):=⟨_,rfl⟩
  have hbd:=Wn hnb (by omega) hc1 hwq
  refine AF.skip (q1 (AF.block (q4 (AH (v:=(pP (pB wy.p) (pO wy.p+i*3))) (AL (j:=i) rfl rfl wy.ok Tryz.underlying125 Tryz.sizeOf132 rfl (by omega)) rfl (AH (v:=(aG (Aq ((B3 ts).getD i ((0,0,0):Nat×Nat×Nat))))) (Ae (vs:=Aq ((B3 ts).getD i ((0,0,0):Nat×Nat×Nat))) (i:=0) rfl rfl (A6.ne wy.ok (by omega)) Sw (Ax BR _ _ _ (by omega)) (BR _)) rfl ?_)))))
  refine AD.retell (k:=27) (u:=(aG (Aq wq))) rfl (by rw [hwq]) (al XZ rfl λb3=>BC rfl Tryz.sizeOf132 rfl (q3 (sL [1,2,3,6,22,23,24,5,8] rfl) (AH (v:=(pP b3 0)) (AA rfl Tryz.underlying132 rfl Tryz.sizeOf3 rfl) rfl (BD 0 (vN wq.1) Be rfl ?_))))
  refine AH (v:=(pP b3 1)) (AA rfl Tryz.underlying132 rfl Tryz.sizeOf3 rfl) rfl (BD 0 (vN wq.2.1) Be rfl (AH (v:=(aG (BY (wq.1,wq.2.1)))) (BN (zs:=BY ((0,0):P2)) (vs:=BY (wq.1,wq.2.1)) (pv:=[(0,(vN wq.1)),(1,(vN wq.2.1))]) Tryz.zeroValue190 Tryz.underlying190 Tryz.sizeOf3 rfl (IP wq.1 wq.2.1)) rfl (al H4 rfl λb4=>BC rfl Tryz.sizeOf190 rfl (q6 (sL [1,2,3,6,22,23,24,5,8,9] rfl) ?_))))
  refine q4 (AJ rfl (BF 0 EH rfl (AH (v:=(vN ((Ac dn (wq.1,wq.2.1)).getD 0))) (BZ Ev 3 (eV:=vN) (kvs:=dn) (x:=(wq.1,wq.2.1)) (z0:=0) (co:=false) rfl rfl Tryz.underlying186 Tryz.zeroValue3 rfl (hdi.ok) (Ll hnb (by omega) hbd.1)) rfl (AH (Bg (c:=(decide (0<((Ac dn (wq.1,wq.2.1)).getD 0)))) rfl rfl (CB (a:=0) (b:=(Ac dn (wq.1,wq.2.1)).getD 0))) rfl (AD.nil ?_)))))
  refine AC.subF (sL [1,2,3,6,22,23,24,5,8,9,36] rfl) (AC.then_ ?_)
  refine AF.cond rfl (λhc2=>?_) (λhc2=>?_)
  ·replace hc2:=of_decide_eq_true hc2
   have hcS:=hc2
   refine AF.exit (AC.then_exit (AC.in_exit (AC.then_ (AF.region (AH (AW (c:=((i+1:Nat):Int)) rfl rfl (AR (a:=i) (b:=1) (by omega))) rfl ?_)))))
   exact AJ rfl (AD.nil (AC.subF (sL [1,2,3,6,22,23,24,5,8,9] rfl) (AC.round5 (i+1) rs p1 c1 dn (⟨by omega,ho1,by rw [hdn,Ml hwq hdn hcS],by rw [hrl,Ml hwq hdn hcS],hdi,hat,by omega⟩) (by omega) (sF rfl) (sl (sl sr)))))
  ·replace hc2:=of_decide_eq_false hc2
   have hcN:=hc2
   refine AF.skip (q2 (asg' rfl (AD.nilRow 3 1 (AD.nil (q1 ?_)))))
   refine q4 (BF 1 EH rfl (al H4 rfl λb5=>BC rfl Tryz.sizeOf190 rfl (AD.nil (AC.subF (sL [1,2,3,6,22,23,24,5,8,9,10,11] rfl) ?_))))
   refine AC.then_ (AF.block ?_)
   refine AF.lp7 (tg λ(j:Nat) (k:P2) (dn2:List (P2×Nat)) (l:List Nat) (p2:Option Addr) (c2:Nat) (bk:Nat)=>Q2 ts dn (wq.1,wq.2.1) j dn2 k l/\OwnOk p2 l.length c2) (tg λ(j:Nat) (k:P2) (dn2:List (P2×Nat)) (l:List Nat) (p2:Option Addr) (c2:Nat) (bk:Nat)=>[(1,(pP b1 0)),(2,(Value.slice none 0 0)),(3,(Value.map (some sx.b))),(6,(Value.map (some b2))),(22,(Value.slice wy.p ((B3 ts).length) wy.c)),(23,(vN ((B3 ts).length))),(24,(vN i)),(5,(Value.slice p1 rs.length c1)),(11,(pP bk 0)),(10,(Value.slice p2 l.length c2))]) (tg λ(j:Nat) (k:P2) (dn2:List (P2×Nat)) (l:List Nat) (p2:Option Addr) (c2:Nat) (bk:Nat)=>(Ab bk 190 (BY k)::rowW p2 3 1 l.length c2 (inL l)::Ab b4 190 (BY (wq.1,wq.2.1))::Ab b3 132 (Aq wq)::AI wy.p (rowsL Aq (B3 ts))::Bd b2 Dw vN dn2::rowW p1 70 1 rs.length c1 (rvL rs)::G1 sx.b Dw vN sx.kvs::Ab b1 30 (CC x)::AI x.a.p (rowsL BE ps)::AI x.b.p (rowsL Aq ts)::AI x.c.p (rowsL Aq ss)::LQ rs)) (tg λ(j:Nat) (k:P2) (dn2:List (P2×Nat)) (l:List Nat) (p2:Option Addr) (c2:Nat) (bk:Nat)=>3*ts.length-j) 0 (wq.1,wq.2.1) dn ([]:List Nat) none 0 b5 (⟨Q2.zero hdi hbd,OwnOk.none⟩) (sF rfl) sr (λj k dn2 l p2 c2 bk hJ=>?_)
   obtain ⟨hgo,ho2⟩:=hJ
   have hll:=hgo.ll
   have hjl:=hgo.le
   have hkok:Kp k:=Ll hnb (by omega) hgo.bd.1
   refine AF.seq (q4 (AJ rfl (BF 0 EH rfl (AH (v:=(vN ((Ac dn2 k).getD 0))) (BZ Ev 5 (eV:=vN) (kvs:=dn2) (x:=k) (z0:=0) (co:=false) rfl rfl Tryz.underlying186 Tryz.zeroValue3 rfl (hgo.di.ok) (hkok)) rfl (AH (BJ (c:=(decide (((Ac dn2 k).getD 0)=0))) rfl rfl (RG (a:=(Ac dn2 k).getD 0) (b:=0))) rfl ?_)))))
   refine AD.nil (AC.subF (sL [1,2,3,6,22,23,24,5,11,10,41] rfl) (AC.then_ ?_))
   refine AF.cond rfl (λhc3=>?_) (λhc3=>?_)
   ·replace hc3:=of_decide_eq_true hc3
    have hcU:=hc3
    have hjt:=hgo.lt hnb (by omega) ho hc3
    refine AF.skip (q1 (AF.block (q4 (AJ rfl (BF 0 EH rfl ?_)))))
    refine AD.mapUpdate Ev 5 (kvs:=dn2) (x:=k) (y:=1) (AO rfl) rfl rfl rfl Tryz.underlying186 rfl (hgo.di.ok) (hkok) (AD.nil (AC.subF (sL [1,2,3,6,22,23,24,5,11,10] rfl) (AC.then_ (AF.region (AJ rfl ?_)))))
    refine AH (v:=(pP bk 0)) (AX (j:=0) rfl rfl Tryz.underlying190 Tryz.sizeOf3 rfl (by decide) rfl) rfl (BD 0 (vN k.1) Be rfl (AD.openV (V:=λb6=>(Value.slice (some ⟨b6,0,none⟩) 1 1)) (T:=3) (cs:=[(vN k.1)]) (AO rfl) (Am (cs:=[(vN k.1)]) (pv:=[(0,(vN k.1))]) Tryz.underlying70 Tryz.sizeOf3 Tryz.zeroValue3 (by decide) (by decide) rfl (by kernel_rfl)) rfl (AY rfl) λb6=>AD.append2 (j:=0) (cs2:=inL (l++[k.1])) LN rfl ho2 (by rw [Bh,Nat.mul_one]) rfl rfl rfl rfl (by decide) (GR (by omega)) (by omega) (by rw [Cr];rfl) rfl λp_1 c_1 ho_1 hne_1=>asg' rfl (AD.nil ?_)))
    refine AC.subF (sL [1,2,3,6,22,23,24,5,11,10] rfl) (AC.in_normal (q1 (q4 (BF 1 EH rfl (AD.nil ?_)))))
    refine AC.then_ (AF.region (al H4 rfl λb7=>BC rfl Tryz.sizeOf190 rfl (AD.nil (AC.subF (sL [1,2,3,6,22,23,24,5,11,10] rfl) ?_))))
    refine AC.then_ (AF.region (BF 10 B1 rfl (AJ rfl (BF 0 EH rfl (DC Tryz.call114 (λw hw=>Q7 x sx k hnb ho hgo.bd hp htl w (inS hw 11 rfl lx) (inS hw 9 rfl lsx)) rfl ?_)))))
    refine BC rfl Tryz.sizeOf190 rfl (AD.nil (AC.subF (sL [1,2,3,6,22,23,24,5,11,10] rfl) ?_))
    rw [show l.length+1=(l++[k.1]).length by simp]
    exact AC.round7 (j+1) (NI ts k) (Az dn2 k 1) (l++[k.1]) p_1 c_1 b7 (⟨hgo.succ hnb (by omega) ho hcU,by simpa using ho_1⟩) (by omega) (sF rfl) (sk (sl (sl sr)))
   ·replace hc3:=of_decide_eq_false hc3
    have hgv:=hgo.stop hc3
    have hl0:0<l.length:=by rcases Nat.eq_zero_or_pos l.length with e|e;exfalso;obtain ⟨e1,e2⟩:=hgo.at0 (by omega);rw [e1,e2] at hc3;omega;exact e
    refine AF.exit (AC.then_exit (AC.round7_exit (AC.in_exit (AC.then_ (AF.region ?_)))))
    refine AJ rfl (AJ rfl (AD.frzRow 1 rfl ho2 (by rw [Bh,Nat.mul_one]) rfl rfl λhn_LO=>AD.callR (S:=S) (α:=RX (inL (E5 l)) (E5 l).length) (args:=[(Value.slice p2 l.length c2)]) Tryz.call115 (λw hw=>Qb l ⟨p2,c2,ho2.row⟩ hl0 (by omega) w (inS hw 1 rfl (At.new hn_LO))) rfl rfl rfl λtu ltu=>?_))
    have hsm:(E5 l).length<=10000000:=by rw [L0];omega
    refine AD.permL (show List.Perm _ (Ab bk 190 (BY k)::AI p2 (inL l)::Ab b4 190 (BY (wq.1,wq.2.1))::Ab b3 132 (Aq wq)::AI wy.p (rowsL Aq (B3 ts))::Bd b2 Dw vN dn2::rowW p1 70 1 rs.length c1 (rvL rs)::G1 sx.b Dw vN sx.kvs::Ab b1 30 (CC x)::AI x.a.p (rowsL BE ps)::AI x.b.p (rowsL Aq ts)::AI x.c.p (rowsL Aq ss)::LQ (rs++[(⟨E5 l,tu.p,tu.c,tu.ok,hsm⟩:RI)])) from V3 (⟨E5 l,tu.p,tu.c,tu.ok,hsm⟩:RI) [Ab bk 190 (BY k),AI p2 (inL l),Ab b4 190 (BY (wq.1,wq.2.1)),Ab b3 132 (Aq wq),AI wy.p (rowsL Aq (B3 ts)),Bd b2 Dw vN dn2,rowW p1 70 1 rs.length c1 (rvL rs),G1 sx.b Dw vN sx.kvs,Ab b1 30 (CC x),AI x.a.p (rowsL BE ps),AI x.b.p (rowsL Aq ts),AI x.c.p (rowsL Aq ss)] rs) (AD.openV (V:=λb6=>(Value.slice (some ⟨b6,0,none⟩) 1 1)) (T:=70) (cs:=[(Value.slice tu.p ((E5 l).length) tu.c)]) (AO rfl) (Am (cs:=[(Value.slice tu.p ((E5 l).length) tu.c)]) (pv:=[(0,(Value.slice tu.p ((E5 l).length) tu.c))]) Tryz.underlying127 Tryz.sizeOf70 Tryz.zeroValue70 (by decide) (by decide) rfl (by kernel_rfl)) rfl (AY rfl) λb6=>AD.appendAt 7 (j:=0) (cs2:=rvL (rs++[(⟨E5 l,tu.p,tu.c,tu.ok,hsm⟩:RI)])) XN rfl ho1 (by rw [Gq,Nat.mul_one]) rfl rfl rfl rfl rfl (by decide) (GR (by omega)) (by omega) (by rw [N0];rfl) rfl λpu cu hou hnu=>asg' rfl (AD.nil (AC.subF (sL [1,2,3,6,22,23,24,5,11,10] rfl) ?_)))
    refine AC.in_normal (AC.then_ (AF.region (AH (AW (c:=((i+1:Nat):Int)) rfl rfl (AR (a:=i) (b:=1) (by omega))) rfl (AJ rfl (AD.nil ?_)))))
    refine AC.subF (sL [1,2,3,6,22,23,24,5,11,10] rfl) ?_
    rw [show rs.length+1=(rs++[(⟨E5 l,tu.p,tu.c,tu.ok,hsm⟩:RI)]).length by simp]
    exact AC.round5 (i+1) (rs++[(⟨E5 l,tu.p,tu.c,tu.ok,hsm⟩:RI)]) pu cu dn2 (⟨by omega,by simpa using hou,by rw [O4 hwq hdn hcN hgv],by rw [O4 hwq hdn hcN hgv,List.map_append,hrl];rfl,hgo.di,λr hr=>by rcases List.mem_append.1 hr with h9|h9;exact hat r h9;rw [List.mem_singleton.1 h9];exact λb e=>ltu _ (List.mem_singleton.2 rfl) b e,by rw [List.length_append];show _+1<=_;omega⟩) (by omega) (sF rfl) (sl (sl (sl (sl (sl sr)))))
 ·replace hc1:=of_decide_eq_false hc1
  have hie:i=(B3 ts).length:=by omega
  have hlp:=Pd (ts:=ts) i (by omega)
  rw [<-hrl,List.length_map] at hlp
  have hpn:p1≠none:=λe=>by have:=(ho1.nil e).1;omega
  refine AF.exit (AC.then_exit (AC.round5_exit (AC.in_exit (q2 (AJ rfl ?_)))))
  refine AD.callWE 2 (α:=List RI) (K:=λys=>ys.Perm rs/\ys.Pairwise YL) (cs':=rvL) (v:=.tuple #[]) (AO rfl) (Ay (args:=[(Value.slice p1 rs.length c1),(Value.func (.func 117) #[] #[])]) rfl rfl Tryz.call116) rfl (λw hw=>R9 rs p1 rs.length c1 70 ho1 hpn rfl (by omega) w (hw.holds (i:=2) rfl) (Q8 (A:=[AI wy.p (rowsL Aq (B3 ts)),Bd b2 Dw vN dn,rowW p1 70 1 rs.length c1 (rvL rs),G1 sx.b Dw vN sx.kvs,Ab b1 30 (CC x),AI x.a.p (rowsL BE ps),AI x.b.p (rowsL Aq ts),AI x.c.p (rowsL Aq ss)]) (rs:=rs) (i:=2) hw rfl)) (λd hd=>by cases hd<;>exact (AY rfl)) ?_;intro ys ⟨hy1,hy2⟩
  refine q3 (sL [1,2,3,6,22,23,24,5] rfl) (AJ rfl (ck' Tryz.call118 (TG p1 rs.length c1 ho1.row.le) rfl (asg' rfl (AD.nil (AC.subF (sL [1,2,3,6,22,23,24,5] rfl) ?_)))))
  exact AC.then_ (AF.ret (AN rfl (AQ (v:=(Value.slice p1 rs.length rs.length)) rfl) (λw hw=>(Wl (A:=[AI wy.p (rowsL Aq (B3 ts)),Bd b2 Dw vN dn,rowW p1 70 1 rs.length c1 (rvL ys),G1 sx.b Dw vN sx.kvs,Ab b1 30 (CC x),AI x.a.p (rowsL BE ps),AI x.b.p (rowsL Aq ts),AI x.c.p (rowsL Aq ss)]) (rs:=ys) ((show A_ _ w ([AI wy.p (rowsL Aq (B3 ts)),Bd b2 Dw vN dn,rowW p1 70 1 rs.length c1 (rvL ys),G1 sx.b Dw vN sx.kvs,Ab b1 30 (CC x),AI x.a.p (rowsL BE ps),AI x.b.p (rowsL Aq ts),AI x.c.p (rowsL Aq ss)]++LQ rs) from hw).perm (Xv hy1)) 2 rfl ho1 hy1.length_eq.symm (by rw [Q6 hy1 hy2,hrl,hie];rfl) (λr hr=>hat r (hy1.mem_iff.1 hr)) rfl))))
end
section
section
variable {P:Program} {ops:Array Oper} {rest:List Oper} {Q:Exit->Act->World->Prop} {n:Nat} {F:List (Nat×Value)} {w0:A7} {L:List As} {d:Option Tmp} {op:Op} {t:TypeId} {p:String} {af:Array Edge} {g:Nat×Bool}
theorem AD.unguard (hw:Wt ops n F ⟨d,op,t,p,af,some g⟩) (next:AD P ops (⟨d,op,t,p,af,none⟩::rest) Q n F w0 L):AD P ops (⟨d,op,t,p,af,some g⟩::rest) Q n F w0 L:=λa w ha hW=>by
  have h:=next a w ha hW
  unfold wpList at h ⊢
  rw [if_pos (hw a ha)]
  rw [if_pos (AO rfl a ha)] at h
  exact h
end
end
def YK (md:List (P2×Nat)):Nat->T3->List T3
  | 0,c=>[c]
  | d+1,c=>match Ac md (ND c) with
    | none=>[c]
    | some n=>YK md d (n,c.1,c.2.1)++YK md d (n,c.2.2,c.1)
def ZW (n p:Nat):List Nat:=List.replicate n p
section
section
variable {N:Nat} {es:List E4} {T:T3}
end
end
section
section
variable {m:MQ} {ts:List T3} {a b N:Nat}
end
end
section
def ZK (md:List (P2×Nat)) (ts:List T3):List T3:=ts.flatMap (YK md 2)
def ZQ (md:List (P2×Nat)) (ts:List T3):Nat->List Nat
  | 0=>[]
  | i+1=>ZQ md ts i++ZW (YK md 2 (ts.getD i (0,0,0))).length i
section
variable {md:List (P2×Nat)} {ts ss:List T3} {i N:Nat} {es:List E4}
end
structure Za (ps:List Pt) (ts ss:List T3) (ms:List Int) where
  l:List E4
  p:E4->Bool
  el:l=(B4 ts).filter p
  all:∀e,p e=true↔Lq ts (VJ ts ms) (e.a,e.b)
  x:Ye (Y1 ps l) (ZK (VX ps.length l l.length) ts) (YS ps.length ss l (ZK (VX ps.length l l.length) ts)) (ZQ (VX ps.length l l.length) ts ts.length) 0
instance {ps:List Pt} {ts ss:List T3} {ms:List Int}:Ch (Za ps ts ss ms):=⟨λb=>Ch.val b.x,λb=>Ch.rows b.x,λb y hy=>Ch.ro b.x y hy⟩
section
variable {ts ss:List T3} {N:Nat} {es:List E4} {ms:List Int}
structure WW (ts:List T3) (ms:List Int) (l:List E4):Prop where
  ex:∃p:E4->Bool,l=(B4 ts).filter p/\∀e,p e=true↔Lq ts (VJ ts ms) (e.a,e.b)
theorem DX.cut (u:DX ts ms):WW ts ms u.l:=⟨u.p,u.el,u.all⟩
theorem WW.mem {l:List E4} (h:WW ts ms l) {e:E4}:e∈l↔e∈B4 ts/\Lq ts (VJ ts ms) (e.a,e.b):=by
  obtain ⟨p,h1,h2⟩:=h.ex
  rw [h1,List.mem_filter,h2]
end
section
variable {P:Program} {ops:Array Oper} {rest:List Oper} {Q:Exit->Act->World->Prop} {n d:Nat} {F:List (Nat×Value)} {w0:A7} {S:Nat->Prop} {L:List As} {t:TypeId} {p:String} {af:Array Edge} {y:Operand} {f:FuncId} {xs:List Operand} {args:List Value} {tys:Array TypeId} {ps:List Pt} {ts ss:List T3} {ms:List Int}
theorem AD.makeInt {m:Nat} {ty T:TypeId} {x y:Operand} {ki kj:IntKind} {bytes:Nat} (ht:Lu P t T (vN 0) bytes) (hx:evF F x=some (.int ki (m:Nat))) (hy:evF F y=some (.int kj (m:Nat))) (hm:m<=1099511627776) (hb:Nat.ble bytes 16=true) (hd:Nat.ble (d+1) n=true)
    (next:∀b,OwnOk (some ⟨b,0,none⟩) m m->AD P ops rest Q n ((d,.slice (some ⟨b,0,none⟩) m m)::F) w0 (rowW (some ⟨b,0,none⟩) T 1 m m (zL (List.replicate m 0))::L)) :
    AD P ops (⟨some d,.makeSlice t x y,ty,p,af,none⟩::rest) Q n F w0 L:=AD.makeRow ht hx hy hm hb hd λb ho=>by
  have h:=next b ho
  unfold zL at h
  rw [List.map_replicate] at h
  exact h
end
theorem JC (l:List Int) (j:Nat) (z:Int):(zL l).set j (.int .i64 z)=zL (l.set j z):=by unfold zL;rw [List.map_set]
end
end Go.Proofs.YtpgncndhhhllfaaGreatDoor
