import Derived.Test.YtfbomiejpbchdaaGreatPart06
import Derived.Test.YtfbomiejpbchdaaGreatPart20
import Derived.Test.YtfbomiejpbchdaaGreatPart25
import Derived.Test.YtfbomiejpbchdaaGreatPart31
import Derived.Test.YtfbomiejpbchdaaGreatPart32
import Derived.Test.YtfbomiejpbchdaaGreatPart33
import Derived.Test.YtfbomiejpbchdaaGreatPart34
namespace Go.Proofs.YtfbomiejpbchdaaGreat
open Go Go.RowKit Go.Proofs.Tryz
set_option linter.unusedVariables false
set_option linter.unusedSimpArgs false
section
def Fk (ps:List Pt) (c:T3) (i:Nat):Rat:=D6 (cor ps (Bi c ((i+2)%3))-cor ps (Bi c ((i+1)%3))) (cor ps (Bi c ((i+2)%3))-cor ps (Bi c ((i+1)%3)))
def IH (ps:List Pt) (c:T3):Nat->Nat
  | 0=>0
  | r+1=>if 0<D8 (Fk ps c r) (Fk ps c (IH ps c r)) then r else IH ps c r
def I7 (ps:List Pt) (ts:List T3) (j:Nat):Nat:=IH ps (ts.getD j (0,0,0)) 3
theorem Kz {a b:Rat}:0<D8 a b↔b<a:=by
  unfold D8
  split
  · exact ⟨λh=>absurd h (by decide),λh=>by grind⟩
  · split
    · exact ⟨λh=>absurd h (by decide),λh=>by grind⟩
    · exact ⟨λ_=>by grind,λ_=>by decide⟩
section
variable {ps:List Pt} {ts ss:List T3} {c:T3}
theorem KQ (r:Nat):IH ps c (r+1)=if 0<D8 (Fk ps c r) (Fk ps c (IH ps c r)) then r else IH ps c r:=rfl
theorem Hn:∀r,r<=3->IH ps c r<3
  | 0,_=>by show 0<3;decide
  | r+1,h=>by
    rw [KQ]
    split
    · omega
    · exact Hn r Z
theorem NX:∀r j,j<r->Fk ps c j<=Fk ps c (IH ps c r)
  | 0,_,h=>absurd h (Nat.not_lt_zero _)
  | r+1,j,h=>by
    rw [KQ]
    split
    · rename_i k
      rw [Kz] at k
      rcases Nat.lt_or_ge j r with h1|h1
      · have:=NX r j h1;grind
      · rw [show j=r by omega];exact Rat.le_refl
    · rename_i k
      rw [Kz] at k
      rcases Nat.lt_or_ge j r with h1|h1
      · exact NX r j h1
      · rw [show j=r by omega];grind
theorem Np (h:∀j,j<3->Fk ps c j<=Fk ps c 0):∀r,r<=3->IH ps c r=0
  | 0,_=>rfl
  | r+1,hr=>by
    rw [KQ,Np h r Z]
    split
    · rename_i k
      rw [Kz] at k
      have:=h r Z
      grind
    · rfl
theorem P6 {b j:Nat} (hb:b<3) (hj:j<3):Fk ps (Dq c b) j=Fk ps c ((b+j)%3):=by
  unfold Fk
  rw [QE _ _ _ (Nat.mod_lt _ (by decide)),QE _ _ _ (Nat.mod_lt _ (by decide)),show (b+(j+2)%3)%3=((b+j)%3+2)%3 by omega,show (b+(j+1)%3)%3=((b+j)%3+1)%3 by omega]
theorem Mc (c:T3) {j:Nat} (hj:j<3):Fk ps (Dq c (IH ps c 3)) j<=Fk ps (Dq c (IH ps c 3)) 0:=by
  have hb:IH ps c 3<3:=Hn 3 (Nat.le_refl 3)
  have h:=NX (ps:=ps) (c:=c) 3 ((IH ps c 3+j)%3) (Nat.mod_lt _ (by decide))
  rw [P6 hb hj,P6 hb (by decide),show (IH ps c 3+0)%3=IH ps c 3 by omega]
  exact h
theorem Qh {α:Type} {d:α} {a b:List α} (hl:a.length=b.length) (h:∀j,j<a.length->a.getD j d=b.getD j d):a=b:=by
  apply List.ext_getElem hl
  intro i h1 h2
  have h3:=h i h1
  rwa [List.getD,List.getD,List.getElem?_eq_getElem h1,List.getElem?_eq_getElem h2] at h3
theorem Ru (u:T3):Dq u 0=u:=rfl
theorem Ui {f:Nat->Nat} {g:T3->Nat} (h:∀j,j<ts.length->f j=g (ts.getD j (0,0,0))):DH ts f ts.length=ts.map λt=>Dq t (g t):=by
  refine Qh (d:=(0,0,0)) (by rw [Ce,List.length_map]) λj hj=>?_
  rw [Ce] at hj
  rw [E_ f _ _ (Nat.le_refl _) hj,if_pos hj,h j hj]
  simp [List.getD,hj]
theorem VN:DH ts (I7 ps ts) ts.length=ts.map λt=>Dq t (IH ps t 3):=Ui λ_ _=>rfl
theorem P4 {j:Nat} (hj:j<ts.length):(DH ts (I7 ps ts) ts.length).getD j (0,0,0)=Dq (ts.getD j (0,0,0)) (IH ps (ts.getD j (0,0,0)) 3):=by rw [E_ _ _ _ (Nat.le_refl _) hj,if_pos hj];rfl
theorem RW:DH (DH ts (I7 ps ts) ts.length) (I7 ps (DH ts (I7 ps ts) ts.length)) (DH ts (I7 ps ts) ts.length).length=DH ts (I7 ps ts) ts.length:=by
  refine Qh (d:=(0,0,0)) (Ce _ _) λj hj=>?_
  rw [Ce] at hj
  rw [E_ _ _ _ (Nat.le_refl _) hj,if_pos hj]
  unfold I7
  rw [Ce] at hj
  have e:(DH ts (λj=>IH ps (ts.getD j (0,0,0)) 3) ts.length).getD j (0,0,0)=Dq (ts.getD j (0,0,0)) (IH ps (ts.getD j (0,0,0)) 3):=P4 hj
  rw [e,Np (λi hi=>Mc _ hi) 3 (Nat.le_refl 3),Ru]
theorem WT {N:Nat} (h1:c.1<N) (h2:c.2.1<N) (h3:c.2.2<N):∀r,r<3->Bi c r<N:=λr hr=>by
  have e:r=0\/r=1\/r=2:=by omega
  rcases e with rfl|rfl|rfl
  · exact h1
  · exact h2
  · exact h3
theorem Gu {r:Nat} (h:0<D8 (Fk ps c r) (Fk ps c (IH ps c r))):IH ps c (r+1)=r:=if_pos h
theorem In {r:Nat} (h:¬0<D8 (Fk ps c r) (Fk ps c (IH ps c r))):IH ps c (r+1)=IH ps c r:=if_neg h
theorem Im (hz:∀k,B5 (cor ps k)<=1000) (c:T3) (i:Nat):Sz (Fk ps c i)<=100000:=by
  have z1:=hz (Bi c ((i+2)%3))
  have z2:=hz (Bi c ((i+1)%3))
  have h1:=Di (cor ps (Bi c ((i+2)%3))) (cor ps (Bi c ((i+1)%3)))
  have h2:=Ii (cor ps (Bi c ((i+2)%3))-cor ps (Bi c ((i+1)%3))) (cor ps (Bi c ((i+2)%3))-cor ps (Bi c ((i+1)%3)))
  unfold Fk
  omega
theorem Ea {W w:World} {L:List As} (hw:Own ⟨W,none⟩ w L) (i:Nat) {b:Nat} {T:TypeId} {cs:List Value} (hi:L[i]?=some (Ag b T cs)):Ro (λ_=>True) w (⟨b⟩:BX cs):=λy hy=>by
  rcases List.mem_singleton.1 hy with rfl
  refine ⟨λd e=>?_,λ_ _=>trivial⟩
  injection e with e
  subst e
  exact ⟨_,hw.get hi,HE O⟩
theorem GE {W w:World} {L:List As} (hw:Own ⟨W,none⟩ w L) (i:Nat) {p:Option Addr} {T:TypeId} {z n c c':Nat} {cs:List Value} (hi:L[i]?=some (rowW p T z n c cs)) (ho:OwnOk p n c) (hl:cs.length=n*z) (ok:BI p n c'):Ro (λ_=>True) w (⟨p,c',ok⟩:RX cs n):=λy hy=>by
  rcases List.mem_singleton.1 hy with rfl
  exact ⟨(Ef (S:=λ_=>True) hw i hi ho hl).1,λ_ _=>trivial⟩
theorem ZP {w:World} {x:MX ps ts ss} (h1:Ro (λ_=>True) w x.a) (h2:Ro (λ_=>True) w x.b) (h3:Ro (λ_=>True) w x.c):Ro (λ_=>True) w x:=λy hy=>by
  have hy:y∈[x.a.row,x.b.row,x.c.row]:=hy
  simp only [List.mem_cons,List.not_mem_nil,or_false] at hy
  rcases hy with rfl|rfl|rfl
  · exact h1 _ (List.mem_singleton.2 O)
  · exact h2 _ (List.mem_singleton.2 O)
  · exact h3 _ (List.mem_singleton.2 O)
def Oo (b:Nat):T3:=if b=0 then (0,1,2) else if b=1 then (1,2,0) else (2,0,1)
theorem WP (b:Nat):Sc [Oo b]:=by
  unfold Oo
  split
  · exact OM (by decide) (by decide)
  · split<;>exact OM (by decide) (by decide)
theorem OO (b:Nat) {l:Nat} (h3:3<=l):GO [Oo b] l=false:=by
  unfold Oo
  have e:∀x,x<3->¬x=l:=λx hx=>by omega
  split
  · simp [GO,CS];omega
  · split<;>(simp [GO,CS];omega)
theorem TP (mv:Nat->Nat->Nat) (t:T3) {b:Nat} (hb:b<3):Fe mv t (Oo b)=Dq t b:=by
  have e:b=0\/b=1\/b=2:=by omega
  rcases e with rfl|rfl|rfl<;>rfl
theorem Lq {α β:Type} (f:α->β):∀l:List α,l.map f=l.flatMap λt=>[f t]
  | []=>rfl
  | x::r=>by rw [List.map_cons,List.flatMap_cons,List.singleton_append,Lq f r]
theorem Vb (g:FQ ps ts) {h:T3->Nat} (hh:∀t,h t<3):IE ps ts ps (ts.map λt=>Dq t (h t)) (λ_ _=>0) (λt=>[Oo (h t)]):=by
  refine ⟨g,?_,λt _=>WP _,Nat.le_refl _,λ_ _=>rfl,λt _ l hl _ hu=>?_,λp h1 h2=>by omega,λt _ s _ l k _ _ hk _ hu=>?_⟩
  · have e:(λt=>[Oo (h t)].map (Fe (λ_ _=>0) t))=λt=>[Dq t (h t)]:=funext λt=>by rw [List.map_cons,List.map_nil,TP _ _ (hh t)]
    rw [e]
    exact Lq _ _
  · rw [OO _ hl] at hu;cases hu
  · rw [OO _ hk] at hu;cases hu
theorem Ue (h:T3->Nat) (hh:∀t,h t<3):(IJ ts).Perm (IJ (ts.map λt=>Dq t (h t))):=by
  unfold IJ
  refine flatMap_perm2 (0,0,0) (by rw [List.length_map]) λj hj=>?_
  have e:(ts.map λt=>Dq t (h t)).getD j (0,0,0)=Dq (ts.getD j (0,0,0)) (h (ts.getD j (0,0,0))):=by simp [List.getD,hj]
  rw [e]
  generalize ts.getD j (0,0,0)=T
  have hb:=hh T
  have eb:h T=0\/h T=1\/h T=2:=by omega
  obtain ⟨a,b,d⟩:=T
  rcases eb with eb|eb|eb<;>rw [eb]
  · exact List.Perm.refl _
  · show [B_ a b,B_ b d,B_ d a].Perm [B_ b d,B_ d a,B_ a b]
    exact (List.perm_append_comm (l₁:=[B_ a b]) (l₂:=[B_ b d,B_ d a]))
  · show [B_ a b,B_ b d,B_ d a].Perm [B_ d a,B_ a b,B_ b d]
    exact (List.perm_append_comm (l₁:=[B_ a b,B_ b d]) (l₂:=[B_ d a]))
theorem WG (g:FQ ps ts) (hn:CD ps.length ts=true) (sd:∃mm,ss=FC mm ts ps.length ps.length) (hsl:ss.length<=24576) {h:T3->Nat} (hh:∀t,h t<3) (hn':CD ps.length (ts.map λt=>Dq t (h t))=true):J1 ps (ts.map λt=>Dq t (h t)) ss:=by
  have hp:=g.pl
  have ht:=g.tl
  have h0:=List.length_pos_iff.2 g.ne
  obtain ⟨mm,hmm⟩:=sd
  refine (Vb g hh).chk Z (by rw [List.length_map];omega) hsl (by rw [List.length_map];omega) (λk=>Nat.le_trans (g.sz k) (by decide)) hn' (λs hs=>?_) ?_
  · rw [hmm] at hs
    obtain ⟨h1,h2,h3,_,h5⟩:=(F3 _).1 hs
    refine ⟨h1,h3,?_⟩
    rw [h5]
    show (s.1+3*s.2.1+mm.fst)%5<=255
    omega
  · rw [hmm,Ql hn Z,<-S_ hn hn' Z (Ue h hh),List.map_map]
    rfl
theorem Vv (g:FQ ps ts) (hn:CD ps.length ts=true) (sd:∃mm,ss=FC mm ts ps.length ps.length) (hsl:ss.length<=24576):J1 ps (DH ts (I7 ps ts) ts.length) ss:=by
  have h:=TG (I7 ps ts) hn
  rw [VN] at h ⊢
  exact WG g hn sd hsl (λt=>Hn 3 (Nat.le_refl 3)) h
theorem Vl (a b:Pt):D6 (a-b) (a-b)=D6 (b-a) (b-a):=by simp only [Vd,Y4,Y1];grind
theorem At.swap {w0:BM} {S:Nat->Prop} {us:List T3} {x:MX ps us ss} {y:MX ps ts ss} (hx:At w0 S x) (hy:At w0 S y):At w0 S (⟨x.a,y.b,x.c⟩:MX ps ts ss):=λz hz b e=>by
  have hz:z∈[x.a.row,y.b.row,x.c.row]:=hz
  simp only [List.mem_cons,List.not_mem_nil,or_false] at hz
  rcases hz with rfl|rfl|rfl
  · exact hx _ (show x.a.row∈[x.a.row,x.b.row,x.c.row] by simp) b e
  · exact hy _ (show y.b.row∈[y.a.row,y.b.row,y.c.row] by simp) b e
  · exact hx _ (show x.c.row∈[x.a.row,x.b.row,x.c.row] by simp) b e
end
end
section
set_option maxRecDepth 100000
theorem G3 {ps:List Pt} (C:T3) (v1 v2:Value) (x:RX (rowsL Am ps) ps.length) (bo:BX [(Value.slice x.p ps.length x.c),v1,v2]) (bc:BX (Af C)) (hC:∀r,r<3->Bi C r<ps.length) (hp:ps.length<=1000000) (hz:∀k,B5 (cor ps k)<=1000) (i:Nat) (hi:i<3) (w:World) {S:Nat->Prop} (hx:Ro S w x) (hbo:Ro S w bo) (hbc:Ro S w bc):Calls prog 85 #[(vN i),(pP bo.b 0),(pP bc.b 0)] w (Aq w (aG (AJ (Fk ps C i)))):=by
 have c1:Bi C ((i+1)%3)<ps.length:=hC _ Z
 have c2:Bi C ((i+2)%3)<ps.length:=hC _ Z
 have z1:B5 (ps.getD (Bi C ((i+1)%3)) ⟨0,0⟩)<=1000:=hz _
 have z2:B5 (ps.getD (Bi C ((i+2)%3)) ⟨0,0⟩)<=1000:=hz _
 have lx:=DU (W:=w) hx
 have lbo:=DU (W:=w) hbo
 have lbc:=DU (W:=w) hbc
 refine A6 (args:=[(vN i),(pP bo.b 0),(pP bc.b 0)]) (L:=[AY x.p (rowsL Am ps),AY (some ⟨bo.b,0,none⟩) ([(Value.slice x.p ps.length x.c),v1,v2]),AY (some ⟨bc.b,0,none⟩) (Af C)]) func85 O O (Ac O) (DV hx (DV hbo (DV hbc BN))) (AF.subF (sL [0,1,2] O) (q4 (al D4 O λb1=>AE.nil (q1 ?_))))
 refine Cm [(0,true),(1,true),(2,true),(3,true),(4,true),(5,true),(6,true),(7,true),(8,true),(9,true),(10,true),(11,true),(12,true),(13,true),(14,true),(15,true),(16,true),(17,true),(18,false),(19,false)] (sl sr) (Au (v:=(pP bo.b 0)) O (AA O underlying31 O sizeOf27 O) (Au O (Ap (q:=some ⟨bo.b,0,none⟩) (v:=(Value.slice x.p ps.length x.c)) (off:=0) (i:=1) O O (λe=>by cases e) DG O) (Bc O (Au O (AW (c:=((i+1:Nat):Int)) O O (AX (a:=i) (b:=1) Z)) (Au O (By (c:=(((i+1)%3:Nat):Int)) O O Z (Gd (a:=i+1) (b:=3))) ?_)))))
 refine Au (v:=(pP bc.b ((i+1)%3))) O (AC (j:=(i+1)%3) O O underlying76 sizeOf3 O Z Z) (Au O (Ap (q:=some ⟨bc.b,0,none⟩) (v:=vN (Bi C ((i+1)%3))) (off:=(i+1)%3) (i:=2) (by show _=some (pP _ (0+_));rw [Nat.zero_add];rfl) O (λe=>by cases e) Bn (TR Z)) (Au (v:=(pP (pB x.p) (pO x.p+(Bi C ((i+1)%3))*10))) O (AQ (j:=Bi C ((i+1)%3)) O O x.ok underlying27 sizeOf55 O Z) (Au (v:=(aG (Am (ps.getD (Bi C ((i+1)%3)) (⟨0,0⟩:Pt))))) O (AO (vs:=Am (ps.getD (Bi C ((i+1)%3)) (⟨0,0⟩:Pt))) (i:=0) O O (BI.ne x.ok Z) BQ (An BG _ _ _ Z) (BG _)) (Au (v:=(pP bo.b 0)) O (AA O underlying31 O sizeOf27 O) (Au O (Ap (q:=some ⟨bo.b,0,none⟩) (v:=(Value.slice x.p ps.length x.c)) (off:=0) (i:=1) O O (λe=>by cases e) DG O) ?_)))))
 refine Bc O (Au O (AW (c:=((i+2:Nat):Int)) O O (AX (a:=i) (b:=2) Z)) (Au O (By (c:=(((i+2)%3:Nat):Int)) O O Z (Gd (a:=i+2) (b:=3))) (Au (v:=(pP bc.b ((i+2)%3))) O (AC (j:=(i+2)%3) O O underlying76 sizeOf3 O Z Z) (Au O (Ap (q:=some ⟨bc.b,0,none⟩) (v:=vN (Bi C ((i+2)%3))) (off:=(i+2)%3) (i:=2) (by show _=some (pP _ (0+_));rw [Nat.zero_add];rfl) O (λe=>by cases e) Bn (TR Z)) (Au (v:=(pP (pB x.p) (pO x.p+(Bi C ((i+2)%3))*10))) O (AQ (j:=Bi C ((i+2)%3)) O O x.ok underlying27 sizeOf55 O Z) ?_)))))
 refine Au (v:=(aG (Am (ps.getD (Bi C ((i+2)%3)) (⟨0,0⟩:Pt))))) O (AO (vs:=Am (ps.getD (Bi C ((i+2)%3)) (⟨0,0⟩:Pt))) (i:=0) O O (BI.ne x.ok Z) BQ (An BG _ _ _ Z) (BG _)) (AT.imp O ?_)
 have hz1:=Di (ps.getD (Bi C ((i+2)%3)) (⟨0,0⟩:Pt)) (ps.getD (Bi C ((i+1)%3)) (⟨0,0⟩:Pt))
 have hz2:=Ii ((ps.getD (Bi C ((i+2)%3)) (⟨0,0⟩:Pt))-(ps.getD (Bi C ((i+1)%3)) (⟨0,0⟩:Pt))) ((ps.getD (Bi C ((i+2)%3)) (⟨0,0⟩:Pt))-(ps.getD (Bi C ((i+1)%3)) (⟨0,0⟩:Pt)))
 refine BR call32 (Fr (ps.getD (Bi C ((i+1)%3)) (⟨0,0⟩:Pt)) (ps.getD (Bi C ((i+2)%3)) (⟨0,0⟩:Pt)) Z) O (AT.back (sl sr) (AT.imp O (Aw O sizeOf53 O (AT.back (sl sr) (AT.nil ?_)))))
 exact AD.subF (sL [4] O) (AD.then_ (AF.ret (AR O (Az (i:=0) (cs:=AJ (D6 ((ps.getD (Bi C ((i+2)%3)) (⟨0,0⟩:Pt))-(ps.getD (Bi C ((i+1)%3)) (⟨0,0⟩:Pt))) ((ps.getD (Bi C ((i+2)%3)) (⟨0,0⟩:Pt))-(ps.getD (Bi C ((i+1)%3)) (⟨0,0⟩:Pt))))) O O isAgg53 sizeOf53 O) (λw hw=>⟨rfl,hw.out⟩))))
theorem Kk (x0 x1 x2:Nat):Instr.fill (λi=>some (i*1,1)) (Af ((0,0,0):Nat×Nat×Nat)).toArray [(0,vN x0),(1,vN x1),(2,vN x2)]=some (Af (x0,x1,x2)).toArray:=by kernel_rfl
set_option maxHeartbeats 2000000 in
theorem KG {ps:List Pt} {ts ss:List T3} (x:MX ps ts ss) (hz:∀k,B5 (cor ps k)<=1000) (hnb:CD ps.length ts=true) (hp:ps.length<=1000000) (hl:ts.length<=1000000) (hs:ss.length<=1000000) (w:World) {S:Nat->Prop} (hx:Ro S w x):Calls prog 30 #[(aG (Bk x))] w (BV (MX ps (DH ts (I7 ps ts) ts.length) ss) S w):=by
 have lx:=DU (W:=w) hx
 refine A6 (args:=[(aG (Bk x))]) (L:=[AY x.a.p (rowsL Am ps),AY x.b.p (rowsL Af ts),AY x.c.p (rowsL Af ss)]) func30 O O (Ac O) (DV hx BN) (AF.subF (sL [0] O) (q4 (Bg (cs:=Bk x) O λb1=>al JP O λb2=>q3 (sL [1,2] O) ?_)))
 refine BA 1 C_ O (AE.callL (S:=S) (V:=λa:ZK ps ts ss=>aG (aK a)) (LW:=aF) (args:=[(aG (Bk x))]) call84 (λw hw=>VU x Z Z Z w (Cq hw 2 O lx)) O λcp hcp=>EW 4 (off:=0) (vs:=[(Value.slice cp.a.p ps.length ps.length),(Value.slice cp.b.p ts.length ts.length),(Value.slice cp.c.p ss.length ss.length)]) (cs':=[(Value.slice cp.a.p ps.length ps.length),(Value.slice cp.b.p ts.length ts.length),(Value.slice cp.c.p ss.length ss.length)]) (AK O) O sizeOf31 O (q6 (sL [1,2] O) (q4 (BA 4 C_ O ?_))))
 refine Ee (args:=[(aG ([(Value.slice cp.a.p ps.length ps.length),(Value.slice cp.b.p ts.length ts.length),(Value.slice cp.c.p ss.length ss.length)]))]) (v:=(Value.bool true)) call46 (λw hw=>(by have h9:=My (⟨⟨cp.a.p,ps.length,cp.a.ok.clip⟩,⟨cp.b.p,ts.length,cp.b.ok.clip⟩,⟨cp.c.p,ss.length,cp.c.ok.clip⟩⟩:MX ps ts ss) Z w (ZP (GE hw 2 O cp.a.ok (Aa BG _) cp.a.ok.clip) (GE hw 1 O cp.b.ok (Aa Ah _) cp.b.ok.clip) (GE hw 0 O cp.c.ok (Aa Ah _) cp.c.ok.clip));rw [hnb] at h9;exact h9)) O (AH (BZ (c:=false) O O) O (AE.nil (AD.subF (sL [1,2,12] O) (AD.then_ (AF.cond_false O ?_)))))
 refine AF.skip (q1 (q4 (AH (v:=(pP b1 1)) (AA O underlying31 O sizeOf28 O) O (BJ 4 (Value.slice cp.b.p ts.length ts.length) B4 O (AH (v:=(vN ts.length)) (AG O underlying28) O ?_)))))
 refine AS O (AE.nil (AD.subF (sL [1,2,15,16,17] O) (AD.then_ (AF.block ?_))))
 refine AF.lp1 (tg λ(t:Nat)=>t<=ts.length) (tg λ(t:Nat)=>[(1,(pP b1 0)),(2,(pP b2 0)),(15,(Value.slice cp.b.p ts.length ts.length)),(16,(vN ts.length)),(17,(vN t))]) (tg λ(t:Nat)=>[rowW cp.c.p 44 3 ss.length cp.c.c (rowsL Af ss),rowW cp.b.p 76 3 ts.length cp.b.c (rowsL Af (DH ts (I7 ps ts) t)),rowW cp.a.p 55 10 ps.length cp.a.c (rowsL Am ps),Ag b2 31 ([(Value.slice none 0 0),(Value.slice none 0 0),(Value.slice none 0 0)]),Ag b1 31 ([(Value.slice cp.a.p ps.length ps.length),(Value.slice cp.b.p ts.length ts.length),(Value.slice cp.c.p ss.length ss.length)]),AY x.a.p (rowsL Am ps),AY x.b.p (rowsL Af ts),AY x.c.p (rowsL Af ss)]) (tg λ(t:Nat)=>ts.length-t) 0 (Nat.zero_le _) (sF O) sr (λt hJ=>?_)
 have ht:=hJ
 refine q4 (AH (Ak (c:=(decide (t<ts.length))) O O (C1 (a:=t) (b:=ts.length))) O (AE.nil (q1 ?_)))
 refine AF.cond O (λhc1=>?_) (λhc1=>?_)
 ·replace hc1:=of_decide_eq_true hc1
  have hrl:=Ce (ts:=ts) (I7 ps ts) t
  obtain ⟨T,hT⟩:∃q,q=(DH ts (I7 ps ts) t).getD t (0,0,0):=⟨_,rfl⟩
  have hTt:T=ts.getD t (0,0,0):=by rw [hT,E_ _ _ _ Z hc1,if_neg (Nat.lt_irrefl _)]
  obtain ⟨g1,g2,g3⟩:=Cd (Cf hnb hc1)
  rw [<-hTt] at g1 g2 g3
  have hC:∀r,r<3->Bi T r<ps.length:=WT g1 g2 g3
  have e0:(0:Nat)=IH ps T 0:=rfl
  refine AF.skip (q1 (AF.block (q4 (AS O (AH (v:=(pP (pB cp.b.p) (pO cp.b.p+t*3))) (AQ (j:=t) O O cp.b.ok.clip underlying28 sizeOf76 O Z) O ?_)))))
  refine AH (v:=(aG (Af ((DH ts (I7 ps ts) t).getD t ((0,0,0):Nat×Nat×Nat))))) (CC (vs:=Af ((DH ts (I7 ps ts) t).getD t ((0,0,0):Nat×Nat×Nat))) (i:=1) O O cp.b.ok (by rw [Aa Ah,Ce]) (BI.ne cp.b.ok.clip Z) Cr (An Ah _ _ _ Z) (Ah _)) O (AE.retell (k:=21) (u:=(aG (Af T))) O (by rw [hT]) (al J3 O λb3=>AL O (Aw O sizeOf76 O (q3 (sL [1,2,15,16,17,4,3] O) ?_))))
  refine AL O (AE.nil (q2 (AH (v:=(Value.func (.func 85) #[] #[(pP b1 0),(pP b3 0)])) (Cu (vs:=[]) (us:=[(pP b1 0),(pP b3 0)]) O O) O (AL O (q6 (sL [1,2,15,16,17,4,3,5,6] O) ?_)))))
  refine q4 (AS O (AE.nil (AD.then_ (AF.block (AF.unroll 4 ?_)))))
  refine FO.step (q4 (AH (Ak (c:=true) O O (by decide)) O (AE.nil (q1 (AF.cond_true O ?_)))))
  refine AF.skip (q1 (AF.block (q4 (AS O (AL O ?_)))))
  refine q3 (sL [1,2,15,16,17,4,3,5,6,23,7] O) (AS O (AS O (AE.call (v:=(aG (AJ (Fk ps T 0)))) (AK O) (Cg (args:=[(vI 0)]) (caps:=[(pP b1 0),(pP b3 0)]) (all:=[(vI 0),(pP b1 0),(pP b3 0)]) O O O call85) (λw hw=>G3 T (Value.slice cp.b.p ts.length ts.length) (Value.slice cp.c.p ss.length ss.length) ⟨cp.a.p,ps.length,cp.a.ok.clip⟩ ⟨b1⟩ ⟨b3⟩ hC Z hz 0 Z w (GE hw 3 O cp.a.ok (Aa BG _) cp.a.ok.clip) (Ea hw 5 O) (Ea hw 0 O)) O (Ac O) (AS O (AS O ?_)))))
  refine AE.call (v:=(aG (AJ (Fk ps T 0)))) (AK O) (Cg (args:=[(vI 0)]) (caps:=[(pP b1 0),(pP b3 0)]) (all:=[(vI 0),(pP b1 0),(pP b3 0)]) O O O call85) (λw hw=>G3 T (Value.slice cp.b.p ts.length ts.length) (Value.slice cp.c.p ss.length ss.length) ⟨cp.a.p,ps.length,cp.a.ok.clip⟩ ⟨b1⟩ ⟨b3⟩ hC Z hz 0 Z w (GE hw 3 O cp.a.ok (Aa BG _) cp.a.ok.clip) (Ea hw 5 O) (Ea hw 0 O)) O (Ac O) (BR call33 (GA (Fk ps T 0) (Fk ps T 0) (by have h8:=Im hz T 0;have h9:=Im hz T 0;omega)) O (AH (CW (c:=(decide ((0:Int)<(D8 (Fk ps T 0) (Fk ps T 0))))) O O O) O (AE.nil (AD.subF (sL [1,2,15,16,17,4,3,5,6,23,7,33] O) (AD.then_ ?_)))))
  refine AF.jn1 (tg λ(qx:Nat)=>qx=IH ps T 1) (tg λ(qx:Nat)=>[(1,(pP b1 0)),(2,(pP b2 0)),(15,(Value.slice cp.b.p ts.length ts.length)),(16,(vN ts.length)),(17,(vN t)),(4,(pP b3 0)),(3,(vN t)),(6,(Value.func (.func 85) #[] #[(pP b1 0),(pP b3 0)])),(23,(vI 0)),(5,(vN qx))]) (tg λ(qx:Nat)=>[Ag b3 76 (Af T),rowW cp.c.p 44 3 ss.length cp.c.c (rowsL Af ss),rowW cp.b.p 76 3 ts.length cp.b.c (rowsL Af (DH ts (I7 ps ts) t)),rowW cp.a.p 55 10 ps.length cp.a.c (rowsL Am ps),Ag b2 31 ([(Value.slice none 0 0),(Value.slice none 0 0),(Value.slice none 0 0)]),Ag b1 31 ([(Value.slice cp.a.p ps.length ps.length),(Value.slice cp.b.p ts.length ts.length),(Value.slice cp.c.p ss.length ss.length)]),AY x.a.p (rowsL Am ps),AY x.b.p (rowsL Af ts),AY x.c.p (rowsL Af ss)]) ?_ ?_
  ·skip
   refine AF.cond O (λhc3=>?_) (λhc3=>?_)
   ·replace hc3:=of_decide_eq_true hc3
    exact AF.region (AS O (AL O (AE.nil (AD.subF (sL [1,2,15,16,17,4,3,5,6,23,7] O) (AD.join1 0 ((by first|exact (Gu (r:=0) (by rw [<-e0];exact hc3)).symm|(rw [In (r:=0) (by rw [<-e0];exact hc3)];exact e0))) (sF O) sr)))))
   ·replace hc3:=of_decide_eq_false hc3
    exact AF.skip (AD.join1 0 ((by first|exact (Gu (r:=0) (by rw [<-e0];exact hc3)).symm|(rw [In (r:=0) (by rw [<-e0];exact hc3)];exact e0))) (sF O) sr)
  ·intro qx hJ
   have e1:=hJ
   have l1:qx<3:=by rw [e1];exact Hn _ (by decide)
   refine AD.in_normal (AD.then_ (AF.region (AH (AW (c:=(1:Int)) O O (by decide)) O (AS O (AE.nil ?_)))))
   refine AD.subF (sL [1,2,15,16,17,4,3,6,23,5] O) (AD.again (FO.step (q4 (AH (Ak (c:=true) O O (by decide)) O (AE.nil ?_)))))
   refine q1 (AF.cond_true O (AF.skip (q1 (AF.block (q4 ?_)))))
   refine AS O (AL O (q3 (sL [1,2,15,16,17,4,3,6,23,5,7] O) (AS O (AS O (AE.call (v:=(aG (AJ (Fk ps T 1)))) (AK O) (Cg (args:=[(vI 1)]) (caps:=[(pP b1 0),(pP b3 0)]) (all:=[(vI 1),(pP b1 0),(pP b3 0)]) O O O call85) (λw hw=>G3 T (Value.slice cp.b.p ts.length ts.length) (Value.slice cp.c.p ss.length ss.length) ⟨cp.a.p,ps.length,cp.a.ok.clip⟩ ⟨b1⟩ ⟨b3⟩ hC Z hz 1 Z w (GE hw 3 O cp.a.ok (Aa BG _) cp.a.ok.clip) (Ea hw 5 O) (Ea hw 0 O)) O (Ac O) ?_)))))
   refine AS O (AS O (AE.call (v:=(aG (AJ (Fk ps T qx)))) (AK O) (Cg (args:=[(vN qx)]) (caps:=[(pP b1 0),(pP b3 0)]) (all:=[(vN qx),(pP b1 0),(pP b3 0)]) O O O call85) (λw hw=>G3 T (Value.slice cp.b.p ts.length ts.length) (Value.slice cp.c.p ss.length ss.length) ⟨cp.a.p,ps.length,cp.a.ok.clip⟩ ⟨b1⟩ ⟨b3⟩ hC Z hz qx Z w (GE hw 3 O cp.a.ok (Aa BG _) cp.a.ok.clip) (Ea hw 5 O) (Ea hw 0 O)) O (Ac O) (BR call33 (GA (Fk ps T 1) (Fk ps T qx) (by have h8:=Im hz T 1;have h9:=Im hz T qx;omega)) O (AH (CW (c:=(decide ((0:Int)<(D8 (Fk ps T 1) (Fk ps T qx))))) O O O) O (AE.nil ?_)))))
   refine AD.subF (sL [1,2,15,16,17,4,3,6,23,5,7,33] O) (AD.then_ ?_)
   refine AF.jn1 (tg λ(qy:Nat)=>qy=IH ps T 2) (tg λ(qy:Nat)=>[(1,(pP b1 0)),(2,(pP b2 0)),(15,(Value.slice cp.b.p ts.length ts.length)),(16,(vN ts.length)),(17,(vN t)),(4,(pP b3 0)),(3,(vN t)),(6,(Value.func (.func 85) #[] #[(pP b1 0),(pP b3 0)])),(23,(vI 1)),(5,(vN qy))]) (tg λ(qy:Nat)=>[Ag b3 76 (Af T),rowW cp.c.p 44 3 ss.length cp.c.c (rowsL Af ss),rowW cp.b.p 76 3 ts.length cp.b.c (rowsL Af (DH ts (I7 ps ts) t)),rowW cp.a.p 55 10 ps.length cp.a.c (rowsL Am ps),Ag b2 31 ([(Value.slice none 0 0),(Value.slice none 0 0),(Value.slice none 0 0)]),Ag b1 31 ([(Value.slice cp.a.p ps.length ps.length),(Value.slice cp.b.p ts.length ts.length),(Value.slice cp.c.p ss.length ss.length)]),AY x.a.p (rowsL Am ps),AY x.b.p (rowsL Af ts),AY x.c.p (rowsL Af ss)]) ?_ ?_
   ·skip
    refine AF.cond O (λhc3=>?_) (λhc3=>?_)
    ·replace hc3:=of_decide_eq_true hc3
     exact AF.region (AS O (AL O (AE.nil (AD.subF (sL [1,2,15,16,17,4,3,6,23,5,7] O) (AD.join1 1 ((by first|exact (Gu (r:=1) (by rw [<-e1];exact hc3)).symm|(rw [In (r:=1) (by rw [<-e1];exact hc3)];exact e1))) (sF O) sr)))))
    ·replace hc3:=of_decide_eq_false hc3
     exact AF.skip (AD.join1 qx ((by first|exact (Gu (r:=1) (by rw [<-e1];exact hc3)).symm|(rw [In (r:=1) (by rw [<-e1];exact hc3)];exact e1))) (sF O) sr)
   ·intro qy hJ
    have e2:=hJ
    have l2:qy<3:=by rw [e2];exact Hn _ (by decide)
    refine AD.in_normal (AD.then_ (AF.region (AH (AW (c:=(2:Int)) O O (by decide)) O (AS O (AE.nil ?_)))))
    refine AD.subF (sL [1,2,15,16,17,4,3,6,23,5] O) (AD.again (FO.step (q4 (AH (Ak (c:=true) O O (by decide)) O (AE.nil ?_)))))
    refine q1 (AF.cond_true O (AF.skip (q1 (AF.block (q4 ?_)))))
    refine AS O (AL O (q3 (sL [1,2,15,16,17,4,3,6,23,5,7] O) (AS O (AS O (AE.call (v:=(aG (AJ (Fk ps T 2)))) (AK O) (Cg (args:=[(vI 2)]) (caps:=[(pP b1 0),(pP b3 0)]) (all:=[(vI 2),(pP b1 0),(pP b3 0)]) O O O call85) (λw hw=>G3 T (Value.slice cp.b.p ts.length ts.length) (Value.slice cp.c.p ss.length ss.length) ⟨cp.a.p,ps.length,cp.a.ok.clip⟩ ⟨b1⟩ ⟨b3⟩ hC Z hz 2 Z w (GE hw 3 O cp.a.ok (Aa BG _) cp.a.ok.clip) (Ea hw 5 O) (Ea hw 0 O)) O (Ac O) ?_)))))
    refine AS O (AS O (AE.call (v:=(aG (AJ (Fk ps T qy)))) (AK O) (Cg (args:=[(vN qy)]) (caps:=[(pP b1 0),(pP b3 0)]) (all:=[(vN qy),(pP b1 0),(pP b3 0)]) O O O call85) (λw hw=>G3 T (Value.slice cp.b.p ts.length ts.length) (Value.slice cp.c.p ss.length ss.length) ⟨cp.a.p,ps.length,cp.a.ok.clip⟩ ⟨b1⟩ ⟨b3⟩ hC Z hz qy Z w (GE hw 3 O cp.a.ok (Aa BG _) cp.a.ok.clip) (Ea hw 5 O) (Ea hw 0 O)) O (Ac O) (BR call33 (GA (Fk ps T 2) (Fk ps T qy) (by have h8:=Im hz T 2;have h9:=Im hz T qy;omega)) O (AH (CW (c:=(decide ((0:Int)<(D8 (Fk ps T 2) (Fk ps T qy))))) O O O) O (AE.nil ?_)))))
    refine AD.subF (sL [1,2,15,16,17,4,3,6,23,5,7,33] O) (AD.then_ ?_)
    refine AF.jn1 (tg λ(qz:Nat)=>qz=IH ps T 3) (tg λ(qz:Nat)=>[(1,(pP b1 0)),(2,(pP b2 0)),(15,(Value.slice cp.b.p ts.length ts.length)),(16,(vN ts.length)),(17,(vN t)),(4,(pP b3 0)),(3,(vN t)),(6,(Value.func (.func 85) #[] #[(pP b1 0),(pP b3 0)])),(23,(vI 2)),(5,(vN qz))]) (tg λ(qz:Nat)=>[Ag b3 76 (Af T),rowW cp.c.p 44 3 ss.length cp.c.c (rowsL Af ss),rowW cp.b.p 76 3 ts.length cp.b.c (rowsL Af (DH ts (I7 ps ts) t)),rowW cp.a.p 55 10 ps.length cp.a.c (rowsL Am ps),Ag b2 31 ([(Value.slice none 0 0),(Value.slice none 0 0),(Value.slice none 0 0)]),Ag b1 31 ([(Value.slice cp.a.p ps.length ps.length),(Value.slice cp.b.p ts.length ts.length),(Value.slice cp.c.p ss.length ss.length)]),AY x.a.p (rowsL Am ps),AY x.b.p (rowsL Af ts),AY x.c.p (rowsL Af ss)]) ?_ ?_
    ·skip
     refine AF.cond O (λhc3=>?_) (λhc3=>?_)
     ·replace hc3:=of_decide_eq_true hc3
      exact AF.region (AS O (AL O (AE.nil (AD.subF (sL [1,2,15,16,17,4,3,6,23,5,7] O) (AD.join1 2 ((by first|exact (Gu (r:=2) (by rw [<-e2];exact hc3)).symm|(rw [In (r:=2) (by rw [<-e2];exact hc3)];exact e2))) (sF O) sr)))))
     ·replace hc3:=of_decide_eq_false hc3
      exact AF.skip (AD.join1 qy ((by first|exact (Gu (r:=2) (by rw [<-e2];exact hc3)).symm|(rw [In (r:=2) (by rw [<-e2];exact hc3)];exact e2))) (sF O) sr)
    ·intro qz hJ
     have e3:=hJ
     have l3:qz<3:=by rw [e3];exact Hn _ (by decide)
     refine AD.in_normal (AD.then_ (AF.region (AH (AW (c:=(3:Int)) O O (by decide)) O (AS O (AE.nil ?_)))))
     refine AD.subF (sL [1,2,15,16,17,4,3,6,23,5] O) (AD.again (FO.step (q4 (AH (Ak (c:=false) O O (by decide)) O (AE.nil ?_)))))
     refine q1 (AF.cond_false O (AF.exit (AD.then_exit (AD.then_exit (AD.in_exit ?_)))))
     refine AD.then_ (Cm [(0,true),(1,true),(2,true),(3,true),(4,true),(5,true),(6,true),(7,true),(8,true),(9,true),(10,true),(11,true),(12,true),(13,true),(14,true),(15,true),(16,true),(17,true),(18,false)] (sk (sk (sl sr))) (Au (v:=(pP b1 1)) O (AA O underlying31 O sizeOf28 O) (Be 4 (Value.slice cp.b.p ts.length ts.length) B4 O (Bc O (Bc O ?_)))))
     refine Au (v:=(pP b3 (0+qz*1))) O (AC (j:=qz) O O underlying76 sizeOf3 O Z O) (Au O (AI (i:=0) (v:=(vN (Bi T qz))) O O isAgg3 (On Z)) (Bc O (Au O (AW (c:=((qz+1:Nat):Int)) O O (AX (a:=qz) (b:=1) Z)) (Au O (By (c:=(((qz+1)%3:Nat):Int)) O O Z (Gd (a:=qz+1) (b:=3))) (Au (v:=(pP b3 (0+((qz+1)%3)*1))) O (AC (j:=(qz+1)%3) O O underlying76 sizeOf3 O Z O) ?_)))))
     refine Au O (AI (i:=0) (v:=(vN (Bi T ((qz+1)%3)))) O O isAgg3 (On Z)) (Bc O (Au O (AW (c:=((qz+2:Nat):Int)) O O (AX (a:=qz) (b:=2) Z)) (Au O (By (c:=(((qz+2)%3:Nat):Int)) O O Z (Gd (a:=qz+2) (b:=3))) (Au (v:=(pP b3 (0+((qz+2)%3)*1))) O (AC (j:=(qz+2)%3) O O underlying76 sizeOf3 O Z O) (Au O (AI (i:=0) (v:=(vN (Bi T ((qz+2)%3)))) O O isAgg3 (On Z)) ?_)))))
     refine Au (v:=(aG (Af (Bi T qz,Bi T ((qz+1)%3),Bi T ((qz+2)%3))))) O (Al (zs:=Af ((0,0,0):Nat×Nat×Nat)) (vs:=Af (Bi T qz,Bi T ((qz+1)%3),Bi T ((qz+2)%3))) (pv:=[(0,(vN (Bi T qz))),(1,(vN (Bi T ((qz+1)%3)))),(2,(vN (Bi T ((qz+2)%3))))]) zeroValue76 underlying76 sizeOf3 O (Kk (Bi T qz) (Bi T ((qz+1)%3)) (Bi T ((qz+2)%3)))) (Au (v:=(pP (pB cp.b.p) (pO cp.b.p+t*3))) O (AQ (j:=t) O O cp.b.ok.clip underlying28 sizeOf76 O Z) (AT.imp O (AE.storeObj 2 (enc:=Af) (j:=t) (r:=0) (x':=(Bi T qz,Bi T ((qz+1)%3),Bi T ((qz+2)%3))) (vs:=Af (Bi T qz,Bi T ((qz+1)%3),Bi T ((qz+2)%3))) ((0,0,0):Nat×Nat×Nat) Ah cp.b.ok (by first|rfl|simp [*]) O O O (BI.ne cp.b.ok.clip Z) Z O sizeOf76 O O (AT.back (sk (sk (sl sr))) (AT.nil ?_)))))
     refine AD.subF (sL [1,2,15,16,17,4,3,6,23,5] O) (AD.in_normal (AD.then_ (AF.region (AH (AW (c:=((t+1:Nat):Int)) O O (AX (a:=t) (b:=1) Z)) O (AS O ?_)))))
     refine AE.nil (AD.subF (sL [1,2,15,16,17,4,3,6,23,5] O) ?_)
     rw [show (DH ts (I7 ps ts) t).set t (Bi T qz,Bi T ((qz+1)%3),Bi T ((qz+2)%3))=DH ts (I7 ps ts) (t+1) from Qu Z hT (by rw [e3,hTt];rfl) Z]
     exact AD.round1 (t+1) Z Z (sF O) (sl sr)
 ·replace hc1:=of_decide_eq_false hc1
  obtain rfl:t=ts.length:=by omega
  refine AF.exit (AD.then_exit (AD.round1_exit (AD.in_exit (q2 (BA 4 C_ O ?_)))))
  refine AE.frzRow 2 O cp.a.ok (Aa BG _) O O λhn_cp_a=>AE.frzRow 1 O cp.b.ok (by rw [Aa Ah,Ce]) O O λhn_cp_b=>AE.frzRow 0 O cp.c.ok (Aa Ah _) O O λhn_cp_c=>IF O sizeOf31 O (AE.nil (AD.subF (sL [1,2,15,16,17] O) ?_))
  exact AD.then_ (AF.ret (AR O (Az (i:=3) (cs:=[(Value.slice cp.a.p ps.length ps.length),(Value.slice cp.b.p ts.length ts.length),(Value.slice cp.c.p ss.length ss.length)]) O O isAgg31 sizeOf31 O) (λw hw=>(ZA hw (a:=(⟨⟨cp.a.p,ps.length,cp.a.ok.clip⟩,⟨cp.b.p,ts.length,(Ce (ts:=ts) (I7 ps ts) ts.length).symm▸cp.b.ok.clip⟩,⟨cp.c.p,ss.length,cp.c.ok.clip⟩⟩:MX ps (DH ts (I7 ps ts) ts.length) ss)) (Zr hw [2,1,0] O (At.mx (At.new hn_cp_a) (At.new hn_cp_b) (At.new hn_cp_c))) (by show _=aG [.slice cp.a.p ps.length ps.length,.slice cp.b.p (DH ts (I7 ps ts) ts.length).length ts.length,.slice cp.c.p ss.length ss.length];rw [Ce])))))
end
section
set_option maxRecDepth 100000
theorem MP (p q:Pt) (hp:B5 p<=1000) (hq:B5 q<=1000) (w:World)  :Calls prog 53 #[(aG (Am p)),(aG (Am q))] w (Aq w (Value.bool (decide (Sr p q)))):=by
 have y1:=Dm p
 have y2:=Dm q
 have y3:=Dn p
 have y4:=Dn q
 refine Ae (args:=[(aG (Am p)),(aG (Am q))]) func53 O O (Ac O) (AF.subF (sL [0,1] O) (q4 (Bg (cs:=Am p) O λb1=>Bg (cs:=Am q) O λb2=>AL O ?_)))
 refine q6 (sL [2,3,4] O) (q4 (AH (v:=(pP b1 0)) (AA O underlying55 O sizeOf53 O) O (EP 1 (AJ p.x) Bm O (AH (v:=(pP b2 0)) (AA O underlying55 O sizeOf53 O) O (EP 0 (AJ q.x) Bm O ?_)))))
 refine BR call33 (GA p.x q.x Z) O (AL O (q3 (sL [2,3,4,5] O) (AS O (AH (CB (c:=(decide ((D8 p.x q.x)≠(0:Int)))) O O O) O (AE.nil ?_)))))
 refine AD.subF (sL [2,3,4,5,12] O) (AD.then_ ?_)
 refine AF.cond O (λhc0=>?_) (λhc0=>?_)
 ·replace hc0:=of_decide_eq_true hc0
  refine q4 (AS O (AH (Ak (c:=(decide ((D8 p.x q.x)<(0:Int)))) O O O) O (AL O (AE.nil (AD.subF (sL [2,3,4,5] O) ?_)))))
  exact AD.then_ (AF.ret (AD.then_ret (AR O (Ai (v:=(Value.bool (decide ((D8 p.x q.x)<(0:Int))))) O) (λw hw=>⟨by rw [X4 hc0],hw.out⟩))))
 ·replace hc0:=of_decide_eq_false hc0
  refine AF.skip (q2 (AH (v:=(pP b1 5)) (AA O underlying55 O sizeOf53 O) O (EP 1 (AJ p.y) Bm O (AH (v:=(pP b2 5)) (AA O underlying55 O sizeOf53 O) O (EP 0 (AJ q.y) Bm O ?_)))))
  refine BR call33 (GA p.y q.y Z) O (AH (Ak (c:=(decide ((D8 p.y q.y)<(0:Int)))) O O O) O (AL O (AE.nil (AD.subF (sL [2,3,4,5] O) (AD.then_ ?_)))))
  exact AF.ret (AR O (Ai (v:=(Value.bool (decide ((D8 p.y q.y)<(0:Int))))) O) (λw hw=>⟨by rw [YY (Decidable.not_not.1 hc0)],hw.out⟩))
end
end Go.Proofs.YtfbomiejpbchdaaGreat
