import Derived.WideKeyEntry
import Derived.Test.YtpgncndhhhllfaaGreatDoorPart06
import Derived.Test.YtpgncndhhhllfaaGreatDoorPart15
import Derived.Test.YtpgncndhhhllfaaGreatDoorPart25
import Derived.Test.YtpgncndhhhllfaaGreatDoorPart26
import Derived.Test.YtpgncndhhhllfaaGreatDoorPart30
import Derived.Test.YtpgncndhhhllfaaGreatDoorPart31
namespace Go.Proofs.YtpgncndhhhllfaaGreatDoor
open Go Go.RowKit Go.Proofs.Tryz
set_option linter.unusedVariables false
set_option linter.unusedSimpArgs false
section
set_option maxRecDepth 100000
theorem LN:ElemT Tryz.prog 70 3 1 8:=⟨Tryz.underlying70,C3 (by kernel_rfl)⟩
theorem Tj (p:Option Addr) (n cp:Nat) (h:n<=cp) (w:World)  :Calls Tryz.prog 83 #[(Value.slice p n cp)] w (An w (Value.slice p n n)):=by
 refine Ag (args:=[(Value.slice p n cp)]) Tryz.func83 rfl rfl (AY rfl) (AF.subF (sL [0] rfl) (q4 (asg' rfl (AD.nil (q2 ?_)))))
 refine AJ rfl (AJ rfl (AH (v:=(vN n)) (AE rfl Tryz.underlying70) rfl (AJ rfl (AH (v:=(vN n)) (AE rfl Tryz.underlying70) rfl (AH (v:=(Value.slice p n n)) (CK (m:=n) rfl rfl rfl Tryz.underlying70 Tryz.sizeOf3 (by omega)) rfl ?_)))))
 exact asg' rfl (AD.nil (AC.subF (sL [2] rfl) (AC.then_ (AF.ret (AN rfl (AQ (v:=(Value.slice p n n)) rfl) (λw hw=>⟨rfl,hw.out⟩))))))
theorem TX {ps:List Pt} {ts ss:List (Nat×Nat×Nat)} (x:MX ps ts ss) (hl:ts.length<=1000000000) (hN:ps.length<=4611686018427387904) (hnb:By ps.length ts=true) (w:World) {S:Nat->Prop} (hx:Ro S w x):Calls Tryz.prog 37 #[(aG (CC x))] w (Av (RX (rowsL CN (B4 ts)) (B4 ts).length) S w):=by
 have lx:=DF (W:=w) hx
 refine Ah (args:=[(aG (CC x))]) (L:=[AI x.a.p (rowsL BE ps),AI x.b.p (rowsL Aq ts),AI x.c.p (rowsL Aq ss)]) Tryz.func37 rfl rfl (AY rfl) (EV hx Ar) (AF.subF (sL [0] rfl) (q4 (B9 (cs:=CC x) rfl λb1=>asg' rfl (q6 (sL [1,2] rfl) ?_))))
 refine q4 (BF 0 B1 rfl (DC (args:=[(aG (CC x))]) (v:=(Value.bool true)) Tryz.call76 (λw hw=>(by have h9:=IY x (by omega) w (inS hw 1 rfl lx);rw [hnb] at h9;exact h9)) rfl (AH (Bw (c:=false) rfl rfl) rfl (AD.nil (AC.subF (sL [1,2,5] rfl) ?_)))))
 refine AC.then_ (AF.cond_false rfl (AF.skip (q2 (AH (v:=(pP b1 1)) (AA rfl Tryz.underlying30 rfl Tryz.sizeOf23 rfl) rfl (BD 0 (Value.slice x.b.p ts.length x.b.c) EU rfl ?_)))))
 exact cX (S:=S) (cs:=rowsL CN (B4 ts)) (k:=(B4 ts).length) (args:=[(Value.slice x.b.p ts.length x.b.c)]) Tryz.call93 (λw hw=>MO ts x.b ps.length hnb hN hl w (V9 (inS hw 1 rfl lx))) rfl rfl rfl λo lo=>asg' rfl (AD.nil (AC.subF (sL [1,2] rfl) (AC.then_ (AF.ret (AN rfl (AQ (v:=(Value.slice o.p ((B4 ts).length) o.c)) rfl) (λw hw=>GQ hw (inS hw 0 rfl lo) rfl))))))
end
section
section
variable {α β:Type} [DecidableEq α]
theorem CR {kvs:List (α×β)} {x z:α} {y:β}:Ac (Az kvs x y) z=if z=x then some y else Ac kvs z:=by
  induction kvs with
  | nil=>rfl
  | cons p r ih =>
    obtain ⟨k,v⟩:=p
    unfold Az
    split
    · rename_i e
      subst e
      unfold Ac
      split<;>rfl
    · rename_i e
      rw [Ac,ih]
      by_cases h:z=k
      · rw [if_pos h,if_neg (λe2=>e (e2.symm.trans h)),Ac,if_pos h]
      · rw [if_neg h]
        split
        · rfl
        · rw [Ac,if_neg h]
end
section
variable {ts:List (Nat×Nat×Nat)}
def BV (ts:List (Nat×Nat×Nat)) (u:Nat):P2:=(CU (ts.getD (u/3) (0,0,0)) (u%3),CU (ts.getD (u/3) (0,0,0)) ((u%3+1)%3))
def Ih (ts:List (Nat×Nat×Nat)) (s a b:Nat) (z:Int):Prop:=(z = -1/\∀u,u<s->BV ts u≠(a,b))\/∃u,u<s/\z=((u/3:Nat):Int)/\BV ts u=(a,b)/\∀v,v<u->BV ts v≠(a,b)
theorem Ih.none {s a b:Nat} (h:∀u,u<s->BV ts u≠(a,b)):Ih ts s a b (-1):=.inl ⟨rfl,h⟩
theorem Ih.skip {s a b:Nat} {z:Int} (h:Ih ts s a b z) (hn:BV ts s≠(a,b)):Ih ts (s+1) a b z:=by
  rcases h with ⟨h1,h2⟩|⟨u,h1,h2,h3,h4⟩
  · refine .inl ⟨h1,λu hu=>?_⟩
    rcases Nat.lt_or_ge u s with h|h
    · exact h2 u h
    · rw [show u=s by omega];exact hn
  · exact .inr ⟨u,by omega,h2,h3,h4⟩
theorem Ih.take {s a b:Nat} (h:Ih ts s a b (-1)) (hn:BV ts s=(a,b)):Ih ts (s+1) a b ((s/3:Nat):Int):=by
  rcases h with ⟨h1,h2⟩|⟨u,h1,h2,h3,h4⟩
  · exact .inr ⟨s,by omega,rfl,hn,h2⟩
  · omega
theorem Ih.keep {s a b:Nat} {z:Int} (h:Ih ts s a b z) (hz:z ≠ -1):Ih ts (s+1) a b z:=by
  rcases h with ⟨h1,h2⟩|⟨u,h1,h2,h3,h4⟩
  · exact absurd h1 hz
  · exact .inr ⟨u,by omega,h2,h3,h4⟩
structure Wm (ts:List (Nat×Nat×Nat)) (s:Nat) (k:P2) (e:E4):Prop where
  ea:e.a=k.1
  eb:e.b=k.2
  lt:k.1<k.2
  l:Ih ts s k.1 k.2 e.l
  r:Ih ts s k.2 k.1 e.r
  some:∃u,u<s/\(BV ts u=(k.1,k.2)\/BV ts u=(k.2,k.1))
theorem Ib (hd:∀u,u<3*ts.length->(BV ts u).1≠(BV ts u).2):∀s,s<=3*ts.length->(∀k e,Ac (CM ts s) k=some e->Wm ts s k e)/\(∀k,Ac (CM ts s) k=none->k.1<k.2->∀u,u<s->BV ts u≠(k.1,k.2)/\BV ts u≠(k.2,k.1))
  | 0,_=>⟨λk e h=>(by cases h),λk _ _ u hu=>absurd hu (Nat.not_lt_zero _)⟩
  | s+1,hs=>by
    obtain ⟨i1,i2⟩:=Ib hd s (by omega)
    have hne:=hd s (by omega)
    obtain ⟨a,ha⟩:∃a,a=CU (ts.getD (s/3) (0,0,0)) (s%3):=⟨_,rfl⟩
    obtain ⟨b,hb⟩:∃b,b=CU (ts.getD (s/3) (0,0,0)) ((s%3+1)%3):=⟨_,rfl⟩
    have hdir:BV ts s=(a,b):=by rw [ha,hb];rfl
    rw [hdir] at hne
    have hE:CM ts (s+1)=QY (CM ts s) (s/3) a b:=by rw [ha,hb];rfl
    rw [hE]
    unfold QY
    have hky:(C2 a b).1<(C2 a b).2:=by unfold C2;simp only at hne ⊢;omega
    -- what the old edge,or the new one,knows
    have h0:∀e0,e0=(Ac (CM ts s) (C2 a b)).getD (He (C2 a b))->e0.a=(C2 a b).1/\e0.b=(C2 a b).2/\Ih ts s (C2 a b).1 (C2 a b).2 e0.l/\Ih ts s (C2 a b).2 (C2 a b).1 e0.r:=by
      intro e0 he0
      cases hg:Ac (CM ts s) (C2 a b) with
      | none =>
        rw [hg] at he0
        have h2:=i2 _ hg hky
        subst he0
        exact ⟨rfl,rfl,Ih.none λu hu=>(h2 u hu).1,Ih.none λu hu=>(h2 u hu).2⟩
      | some e =>
        rw [hg] at he0
        have h2:=i1 _ _ hg
        subst he0
        exact ⟨h2.ea,h2.eb,h2.l,h2.r⟩
    constructor
    · intro k e hk
      rw [CR] at hk
      split at hk
      · rename_i e1
        injection hk with hk
        obtain ⟨c1,c2,c3,c4⟩:=h0 _ rfl
        obtain ⟨e0,he0⟩:∃e0,e0=(Ac (CM ts s) (C2 a b)).getD (He (C2 a b)):=⟨_,rfl⟩
        rw [<-he0] at hk c1 c2 c3 c4
        subst hk
        have hends:=KU e0 (s/3) a b
        rw [e1]
        rcases Nat.lt_or_ge a b with hab|hab
        · have k1:(C2 a b).1=a:=by unfold C2;simp only;omega
          have k2:(C2 a b).2=b:=by unfold C2;simp only;omega
          rw [k1,k2] at c3 c4
          refine ⟨hends.1.trans c1,hends.2.trans c2,hky,?_,?_,s,by omega,.inl (by rw [k1,k2];exact hdir)⟩<;>rw [k1,k2]
          · unfold Er
            by_cases hl:e0.l = -1
            · rw [if_pos ⟨hab,hl⟩]
              rw [hl] at c3
              exact c3.take hdir
            · rw [if_neg (λh=>hl h.2),if_neg (λh=>by omega)]
              exact c3.keep hl
          · have hn2:BV ts s≠(b,a):=by rw [hdir];intro h;injection h with h _;omega
            unfold Er
            split
            · exact c4.skip hn2
            · rw [if_neg (λh=>by omega)]
              exact c4.skip hn2
        · have hba:b<a:=by simp only at hne;omega
          have k1:(C2 a b).1=b:=by unfold C2;simp only;omega
          have k2:(C2 a b).2=a:=by unfold C2;simp only;omega
          rw [k1,k2] at c3 c4
          have hn2:BV ts s≠(b,a):=by rw [hdir];intro h;injection h with h _;omega
          refine ⟨hends.1.trans c1,hends.2.trans c2,hky,?_,?_,s,by omega,.inr (by rw [k1,k2];exact hdir)⟩<;>rw [k1,k2]
          · unfold Er
            rw [if_neg (λh=>by omega)]
            split
            · exact c3.skip hn2
            · exact c3.skip hn2
          · unfold Er
            rw [if_neg (λh=>by omega)]
            by_cases hl:e0.r = -1
            · rw [if_pos ⟨hba,hl⟩]
              rw [hl] at c4
              exact c4.take hdir
            · rw [if_neg (λh=>hl h.2)]
              exact c4.keep hl
      · rename_i e1
        obtain ⟨a1,a2,a3,a4,a5,u,a6,a7⟩:=i1 k e hk
        have n1:BV ts s≠(k.1,k.2):=by
          rw [hdir];intro h;injection h with h1 h2
          exact e1 (Prod.ext (by unfold C2;simp only;omega) (by unfold C2;simp only;omega))
        have n2:BV ts s≠(k.2,k.1):=by
          rw [hdir];intro h;injection h with h1 h2
          exact e1 (Prod.ext (by unfold C2;simp only;omega) (by unfold C2;simp only;omega))
        exact ⟨a1,a2,a3,a4.skip n1,a5.skip n2,u,by omega,a7⟩
    · intro k hk hlt u hu
      rw [CR] at hk
      split at hk
      · cases hk
      · rename_i e1
        rcases Nat.lt_or_ge u s with h|h
        · exact i2 k hk hlt u h
        · rw [show u=s by omega,hdir]
          constructor
          · intro h;injection h with h1 h2
            exact e1 (Prod.ext (by unfold C2;simp only;omega) (by unfold C2;simp only;omega))
          · intro h;injection h with h1 h2
            exact e1 (Prod.ext (by unfold C2;simp only;omega) (by unfold C2;simp only;omega))
theorem U0 {N:Nat} (hn:By N ts=true) (hN:N<=4611686018427387904) (hd:∀u,u<3*ts.length->(BV ts u).1≠(BV ts u).2) {e:E4} (he:e∈B4 ts):Wm ts (3*ts.length) (e.a,e.b) e:=by
  unfold B4 at he
  obtain ⟨p,hp,h1⟩:=List.mem_map.1 ((Db _).mem_iff.1 he)
  obtain ⟨j,hj,h2⟩:=List.getElem_of_mem hp
  have h3:=Ic (x:=p.1) (v:=p.2) (FB hn hN _ (Nat.le_refl _)).once (show (CM ts (3*ts.length))[j]?=some (p.1,p.2) by rw [List.getElem?_eq_getElem hj,h2])
  have h4:=(Ib hd _ (Nat.le_refl _)).1 _ _ h3
  rw [h1] at h4
  rw [show (e.a,e.b)=p.1 from Prod.ext h4.ea h4.eb]
  exact h4
end
end
section
theorem Nb {P:Program} {k e:TypeId} (hu:P.underlying k=some (.array 2 e)) (he:P.underlying e=some (.int .i64)) (ce:P.cellsOf e=1) (ck:P.cellsOf k=2) (hk:P.keyType k=true) (hr:k<P.types.size)
    {a b:Int} (wa:(Lit.int .i64 a).wf=true) (wb:(Lit.int .i64 b).wf=true):∃l,keyOf P k (.agg #[.int .i64 a,.int .i64 b])=some l:=by
  have h0:0<P.types.size:=Nat.lt_of_le_of_lt (Nat.zero_le _) hr
  obtain ⟨d,hd⟩:∃d,P.types.size=d+1:=⟨P.types.size-1,by omega⟩
  have hf:(Value.agg #[.int .i64 a,.int .i64 b]).formed P k=true:=by
    unfold Value.formed
    simp only [hu,ck]
    rfl
  have hl:P.keyLits (P.types.size+1) k (Value.agg #[.int .i64 a,.int .i64 b]).cells.toList=some [.int .i64 a,.int .i64 b]:=by
    rw [hd]
    unfold Program.keyLits
    simp only [hu]
    show (if ([Value.int .i64 a,Value.int .i64 b]:List Value).length=P.cellsOf k then _ else _)=_
    rw [if_pos (by rw [ck];rfl)]
    have e0:P.keyLits (d+1) e ((([Value.int .i64 a,Value.int .i64 b]:List Value).drop (0*P.cellsOf e)).take (P.cellsOf e))=some [.int .i64 a]:=by
      rw [ce];exact Ei he d wa
    have e1:P.keyLits (d+1) e ((([Value.int .i64 a,Value.int .i64 b]:List Value).drop (1*P.cellsOf e)).take (P.cellsOf e))=some [.int .i64 b]:=by
      rw [ce];exact Ei he d wb
    show (List.mapM (λi=>P.keyLits (d+1) e ((([Value.int .i64 a,Value.int .i64 b]:List Value).drop (i*P.cellsOf e)).take (P.cellsOf e))) [0,1]).map List.flatten=_
    simp only [List.mapM_cons,List.mapM_nil,e0,e1]
    rfl
  refine ⟨.string (keyBytes [.int .i64 a,.int .i64 b]),?_⟩
  unfold keyOf
  simp only [hu,hk,hf,Bool.and_self,if_true,hl]
  rfl
theorem Ph {P:Program} (hl:laidOutB P=true) {k e:TypeId} (hr:k<P.types.size) (ht:P.keyTypeAt 2 k=true) (hw:(match P.underlying k with|some (.array _ _)|some (.struct _)=>true|_=>false)=true) (hu:P.underlying k=some (.array 2 e)) (he:P.underlying e=some (.int .i64)) (ce:P.cellsOf e=1) (ck:P.cellsOf k=2) (hk:P.keyType k=true):Hm P k Dw Kp where
  law:=.of_law (deep_law_laid hl (m:=2) (by decide) hr ht hw)
  key:=λa h=>Nb hu he ce ck hk hr (Gc h.1) (Gc h.2)
  inj:=λa b h=>JG h
theorem Fo {a b:Nat} (ha:a<4611686018427387904) (hb:b<4611686018427387904):Kp (a,b):=⟨ha,hb⟩
def TK (k:Nat):Prop:=k<4611686018427387904
theorem W3 {P:Program} {k:TypeId} (h:P.underlying k=some (.int .i64)):Hm P k vN TK where
  law:=Maps.int_keyed h
  key:=λa ha=>⟨_,Maps.keyOf_int_mk h (Gc ha)⟩
  inj:=λa b e=>by injection e with _ e;omega
def Cj {α β:Type} [DecidableEq α]:List (α×β)->α->Nat
  | [],_=>0
  | (k,v)::r,x=>if x=k then 0 else Cj r x+1
section
variable {α β:Type} {enc:α->Value} {eV:β->Value} {ok:α->Prop} {P:Program} {kt:TypeId} {n:Nat} {F:List (Nat×Value)} {w0:A7} {L:List As} {d:Nat} {mp kp vp sp:Operand} {t:TypeId} {pp:String} {af:Array Edge} {g:Option (Nat×Bool)} {tx et:TypeId} {b:Nat} {ops:Array Oper} {rest:List Oper} {Q:Exit->Act->World->Prop}
def OR {α β:Type} [DecidableEq α] (b:Nat) (enc:α->Value) (eV:β->Value) (kvs:List (α×β)) (x:α) (v:β):As:=⟨some b,λo=>o=.map (entsM enc eV kvs 0).toArray kvs.length\/o=.map (entsM enc eV (Az kvs x v) 0).toArray (Az kvs x v).length,false⟩
variable [DecidableEq α]
theorem Kb:∀{kvs:List (α×β)} {x:α} {v:β},Ac kvs x=some v->Az kvs x v=kvs
  | (k,u)::r,x,v,h=>by
    unfold Ac at h
    unfold Az
    split at h
    · rename_i e;injection h with h;rw [if_pos e,h]
    · rename_i e;rw [if_neg e,Kb h]
theorem HJ:∀{kvs:List (α×β)} {x:α} {v:β},(Az kvs x v)[Cj kvs x]?=some (x,v)
  | [],_,_=>rfl
  | (k,u)::r,x,v=>by
    unfold Az Cj
    split
    · rename_i e;rw [List.getElem?_cons_zero,e]
    · rw [List.getElem?_cons_succ,HJ]
theorem M4 {x:α} {u v:β}:∀{kvs:List (α×β)},(Az kvs x u).set (Cj kvs x) (x,v)=Az kvs x v
  | []=>rfl
  | (k,w)::r=>by
    by_cases e:x=k
    · simp [Az,Cj,e]
    · simp [Az,Cj,e,M4]
theorem Mv:∀{kvs:List (α×β)} {j:Nat} {x:α} {v:β},kvs.Pairwise (λp q=>p.1≠q.1)->kvs[j]?=some (x,v)->Cj kvs x=j
  | (k,u)::r,0,x,v,_,h=>by
    simp only [List.getElem?_cons_zero,Option.some.injEq,Prod.mk.injEq] at h
    rw [Cj,if_pos h.1.symm]
  | (k,u)::r,j+1,x,v,hp,h=>by
    obtain ⟨h1,h2⟩:=List.pairwise_cons.1 hp
    rw [List.getElem?_cons_succ] at h
    rw [Cj,if_neg (λe=>h1 (x,v) (List.mem_of_getElem? h) e.symm),Mv h2 h]
theorem I0:∀{kvs:List (α×β)} {x:α},(∀p∈kvs,p.1≠x)->Cj kvs x=kvs.length
  | [],_,_=>rfl
  | (k,v)::r,x,h=>by
    rw [Cj,if_neg (λe=>h (k,v) List.mem_cons_self e.symm),I0 λp hp=>h p (List.mem_cons_of_mem _ hp)];rfl
theorem VG {i:Nat} {kvs:List (α×β)} (x:α) (v:β) (hi:L[i]?=some (Bd b enc eV kvs)):Wk (L.set i (OR b enc eV kvs x v)) L:=λw0 w hw=>by
  exact hw.freeze (i:=i) (y:=OR b enc eV kvs x v) hi rfl (λo h=>.inl h) (λe=>by cases e)
theorem R0 {i:Nat} {kvs:List (α×β)} (x:α) (v:β) (hi:L[i]?=some (Bd b enc eV (Az kvs x v))):Wk (L.set i (OR b enc eV kvs x v)) L:=λw0 w hw=>by
  exact hw.freeze (i:=i) (y:=OR b enc eV kvs x v) hi rfl (λo h=>.inr h) (λe=>by cases e)
theorem Yb (i:Nat) {kvs:List (α×β)} {x:α} {v:β} {LA:List As} (hi:L[i]?=some (Bd b enc eV kvs)) (hs:LE L i (OR b enc eV kvs x v)=some LA):Wk LA L:=FN hs▸VG x v hi
theorem Wb (i:Nat) {kvs:List (α×β)} {x:α} {v:β} {LA:List As} (hi:L[i]?=some (Bd b enc eV (Az kvs x v))) (hs:LE L i (OR b enc eV kvs x v)=some LA):Wk LA L:=FN hs▸R0 x v hi
theorem Ga (K:Hm P kt enc ok) (i:Nat) {kvs:List (α×β)} {x:α} {z0 v:β} {dd:Option Tmp} (hx:evF F mp=some (.map (some b))) (hk:evF F kp=some (enc x)) (ht:P.underlying tx=some (.map kt et)) (hz:∀w,(zeroValue et).run P w=.ok (eV z0) w) (hi:L[i]?=some (OR b enc eV kvs x v)) (hm:F_ ok kvs) (hok:ok x) (hv:v=(Ac kvs x).getD z0) :
    Ex P n F w0 L ⟨dd,.lookup tx mp kp false,t,pp,af,g⟩ (eV v):=λA w ha hw=>by
  obtain ⟨_,o,ho,hp⟩:=hw.2.1 _ (List.mem_of_getElem? hi) b rfl
  obtain ⟨lx,hlx⟩:=K.key x hok
  have hc:=λem=>K.law.check w em hlx
  have key:∀kvs':List (α×β),F_ ok kvs'->(Ac kvs' x).getD z0=v->w.heap[b]?=some (.map (entsM enc eV kvs' 0).toArray kvs'.length)->(execOp A.eval ⟨dd,.lookup tx mp kp false,t,pp,af,g⟩).run P w=.ok (.value (eV v)) w:=λkvs' hm' hg ho=>by
    rcases E2 (eV:=eV) K hm' hok w with ⟨h1,_,h2⟩|⟨j,u,_,h1,h2⟩
    · rw [h1] at hg
      simp only [execOp,ha.ev hx,ha.ev hk,Instr.lookup,Sem.run_bind,run_underlying ht,Bo ho,Result.andThen_ok,Sem.run_pure,hc,List.toList_toArray,h2,hz]
      rw [<-hg];rfl
    · rw [h1] at hg
      simp only [execOp,ha.ev hx,ha.ev hk,Instr.lookup,Sem.run_bind,run_underlying ht,Bo ho,Result.andThen_ok,Sem.run_pure,hc,List.toList_toArray,h2]
      rw [<-hg];rfl
  rcases hp with hp|hp
  · exact key kvs hm hv.symm (by rw [ho,hp])
  · exact key (Az kvs x v) (hm.put hok) (by rw [CR,if_pos rfl];rfl) (by rw [ho,hp])
theorem AD.mapEntry (K:Hm P kt enc ok) (i:Nat) {kvs:List (α×β)} {x:α} {z0 v:β} (hx:evF F mp=some (.map (some b))) (hk:evF F kp=some (enc x)) (ht:P.underlying tx=some (.map kt et)) (hz:∀w,(zeroValue et).run P w=.ok (eV z0) w) (hi:L[i]?=some (Bd b enc eV kvs)) (hm:F_ ok kvs) (hok:ok x) (hv:v=(Ac kvs x).getD z0) (hd:Nat.ble (d+1) n=true)
    (next:AD P ops rest Q n ((d,.tuple #[eV v,vN (Cj kvs x)])::F) w0 (L.set i (Bd b enc eV (Az kvs x v)))):AD P ops (⟨some d,.mapEntry tx mp kp,t,pp,af,none⟩::rest) Q n F w0 L:=λa w ha hW=>by
  obtain ⟨_,o,ho,hp⟩:=hW.2.1 _ (List.mem_of_getElem? hi) b rfl
  have ho:w.heap[b]?=some (.map (entsM enc eV kvs 0).toArray kvs.length):=by rw [ho,hp]
  obtain ⟨lx,hlx⟩:=K.key x hok
  have hc:=λem=>K.law.check w em hlx
  have hst:=K.law.stays w hlx
  have hrun:(execOp a.eval ⟨some d,.mapEntry tx mp kp,t,pp,af,none⟩).run P w=.ok (.value (.tuple #[eV v,vN (Cj kvs x)])) (Go.ChangeMaps.setBlock w b (.map (entsM enc eV (Az kvs x v) 0).toArray (Az kvs x v).length)):=by
    rcases E2 (eV:=eV) K hm hok w with ⟨h0,h1,h2⟩|⟨j,u,hj,h1,h2⟩
    · rw [h0] at hv
      simp only [Option.getD_none] at hv
      subst hv
      rw [Hn h1,I0 h1,FD,List.length_append]
      simp only [execOp,ha.ev hx,ha.ev hk,Instr.mapEntry,Sem.run_bind,run_underlying ht,Bo ho,Result.andThen_ok,hc,List.toList_toArray,h2,hz,Di ho,Sem.run_pure,List.push_toArray,Nat.zero_add,List.length_singleton]
      rfl
    · rw [h1] at hv
      simp only [Option.getD_some] at hv
      subst hv
      rw [Kb h1,Mv hm.once hj]
      have e1:(entsM enc eV kvs 0)[j]?=some ⟨enc x,eV v,0+j⟩:=by rw [Cf,hj];rfl
      have e2:=Fv (enc:=enc) (eV:=eV) (y:=v) hj
      have e3:kvs.set j (x,v)=kvs:=by
        apply List.ext_getElem?
        intro q
        rw [List.getElem?_set]
        split
        · rename_i e;subst e;split
          · exact hj.symm
          · rename_i h9;rw [List.getElem?_eq_none (by omega)]
        · rfl
      rw [e3] at e2
      have e4:(entsM enc eV kvs 0).toArray.modify j (λe=>{ e with key:=enc x })=(entsM enc eV kvs 0).toArray:=by
        apply Array.ext_getElem?
        intro q
        rw [Array.getElem?_modify]
        simp only [List.getElem?_toArray]
        split
        · rename_i e;subst e;rw [e1];rfl
        · rfl
      simp only [execOp,ha.ev hx,ha.ev hk,Instr.mapEntry,Sem.run_bind,run_underlying ht,Bo ho,Result.andThen_ok,hc,List.toList_toArray,List.getElem?_toArray,h2,e1,hst,e4,Di ho,Sem.run_pure,Option.map_some,Option.getD_some]
      simp [goInt,e1,hst,e4,Di ho,Result.andThen]
  unfold wpList
  rw [if_pos (AO rfl a ha)]
  left
  unfold Oper.wp
  rw [hrun,Oper.upon_value]
  exact next _ _ (ha.put (Bk hd)) (hW.turn hi rfl rfl (Dz _ _ _) ⟨_,EZ ho,rfl⟩)
theorem AD.entryStore (i:Nat) {kvs:List (α×β)} {x:α} {u y:β} (hx:evF F mp=some (.map (some b))) (hs:evF F sp=some (vN (Cj kvs x))) (hv:evF F vp=some (eV y)) (hi:L[i]?=some (Bd b enc eV (Az kvs x u)))
    (next:AD P ops rest Q n F w0 (L.set i (Bd b enc eV (Az kvs x y)))):AD P ops (⟨none,.entryStore tx mp sp vp,t,pp,af,none⟩::rest) Q n F w0 L:=λa w ha hW=>by
  obtain ⟨_,o,ho,hp⟩:=hW.2.1 _ (List.mem_of_getElem? hi) b rfl
  have ho:w.heap[b]?=some (.map (entsM enc eV (Az kvs x u) 0).toArray (Az kvs x u).length):=by rw [ho,hp]
  have hf:=HJ (kvs:=kvs) (x:=x) (v:=u)
  have hlt:Cj kvs x<(Az kvs x u).length:=(List.getElem?_eq_some_iff.1 hf).1
  have e0:(entsM enc eV (Az kvs x u) 0)[Cj kvs x]?=some ⟨enc x,eV u,Cj kvs x⟩:=by rw [Cf,hf];simp
  have hnd:((entsM enc eV (Az kvs x u) 0).map (·.born)).Nodup:=by
    have e1:∀(l:List (α×β)) (s:Nat),(entsM enc eV l s).map (·.born)=List.range' s l.length:=by
      intro l
      induction l with
      | nil=>intro s;rfl
      | cons p r ih=>intro s;rw [entsM,List.map_cons,ih,List.length_cons,List.range'_succ]
    rw [e1];exact List.nodup_range'
  have hidx:(entsM enc eV (Az kvs x u) 0).toArray.findIdx? (λe=>((e.born:Nat):Int) == ((Cj kvs x:Nat):Int))=some (Cj kvs x):=by
    rw [WideElems.findIdx_arr]
    exact WideElems.findIdx_born hnd e0
  have hset:(Az kvs x u).set (Cj kvs x) (x,y)=Az kvs x y:=M4
  have hmod:=Fv (enc:=enc) (eV:=eV) (y:=y) hf
  have hmod2:(entsM enc eV (Az kvs x u) 0).toArray.modify (Cj kvs x) (λe=>{ e with val:=eV y })=(entsM enc eV (Az kvs x y) 0).toArray:=by
    rw [<-hset,<-hmod]
    apply Array.ext_getElem?
    intro q
    rw [Array.getElem?_modify,Array.getElem?_modify]
    simp only [List.getElem?_toArray]
    split
    · rename_i e;subst e;rw [e0];rfl
    · rfl
  have hl2:(Az kvs x y).length=(Az kvs x u).length:=by rw [<-hset,List.length_set]
  have hrun:(execOp a.eval ⟨none,.entryStore tx mp sp vp,t,pp,af,none⟩).run P w=.ok .skip (Go.ChangeMaps.setBlock w b (.map (entsM enc eV (Az kvs x y) 0).toArray (Az kvs x y).length)):=by
    rw [<-hmod2,hl2]
    simp only [execOp,ha.ev hx,ha.ev hs,ha.ev hv,Instr.entryStore,Sem.run_bind,Bo ho,Result.andThen_ok,asInt,asIntOf,Sem.run_pure,hidx,Di ho]
  unfold wpList
  rw [if_pos (AO rfl a ha)]
  left
  unfold Oper.wp
  rw [hrun,Oper.upon_skip]
  exact next _ _ ha.put_none (hW.turn hi rfl rfl (Dz _ _ _) ⟨_,EZ ho,rfl⟩)
end
end
section
abbrev T3:=Nat×Nat×Nat
section
variable {ts ts':List T3} {N:Nat}
theorem V5 {t:T3} (h:PI N t=true):t.1≠t.2.1/\t.2.1≠t.2.2/\t.2.2≠t.1:=by
  simp only [PI,Bool.and_eq_true,Bool.not_eq_true',decide_eq_false_iff_not,decide_eq_true_eq] at h
  exact ⟨h.1.1.2,h.1.2,h.2⟩
theorem JM (hn:By N ts=true) {u:Nat} (hu:u<3*ts.length):(BV ts u).1≠(BV ts u).2:=by
  obtain ⟨hab,hbc,hca⟩:=V5 (DK hn (show u/3<ts.length by omega))
  have h3:u%3=0\/u%3=1\/u%3=2:=by omega
  unfold BV
  rcases h3 with h3|h3|h3<;>rw [h3]
  · exact hab
  · exact hbc
  · exact hca
theorem Gy (hn:By N ts=true) {u:Nat} (hu:u<3*ts.length):(BV ts u).1<N/\(BV ts u).2<N:=by
  have h:=DK hn (show u/3<ts.length by omega)
  exact ⟨Lk h _,Lk h _⟩
theorem Ih.uniq {s a b:Nat} {y z:Int} (h:Ih ts s a b y) (k:Ih ts s a b z):y=z:=by
  rcases h with ⟨h1,h2⟩|⟨u,h1,h2,h3,h4⟩<;>rcases k with ⟨k1,k2⟩|⟨v,k1,k2,k3,k4⟩
  · omega
  · exact absurd k3 (h2 v k1)
  · exact absurd h3 (k2 u h1)
  · rcases Nat.lt_trichotomy u v with h|h|h
    · exact absurd h3 (k4 u h)
    · rw [h2,k2,h]
    · exact absurd k3 (h4 v h)
theorem Pm (hn:By N ts=true) (hN:N<=4611686018427387904) {e:E4}:e∈B4 ts↔Wm ts (3*ts.length) (e.a,e.b) e:=by
  have hd:∀u,u<3*ts.length->(BV ts u).1≠(BV ts u).2:=λu hu=>JM hn hu
  refine ⟨λh=>U0 hn hN hd h,λh=>?_⟩
  obtain ⟨i1,i2⟩:=Ib hd _ (Nat.le_refl _)
  cases hg:Ac (CM ts (3*ts.length)) (e.a,e.b) with
  | none =>
    obtain ⟨u,hu,hs⟩:=h.some
    have h3:=i2 _ hg h.lt u hu
    rcases hs with hs|hs
    · exact absurd hs h3.1
    · exact absurd hs h3.2
  | some e' =>
    have h3:=i1 _ _ hg
    have e1:e'=e:=by
      have a1:=h3.ea;have a2:=h3.eb;have a3:=h3.l.uniq h.l;have a4:=h3.r.uniq h.r
      cases e;cases e';simp only at a1 a2 a3 a4;subst a1 a2 a3 a4;rfl
    rw [e1] at hg
    unfold B4
    exact (Db _).mem_iff.2 (List.mem_map.2 ⟨_,I6 hg,rfl⟩)
def TM (ts:List T3) (j a b:Nat):Prop:=∃r,r<3/\BV ts (3*j+r)=(a,b)
def Xo (ts:List T3) (n a b:Nat) (z:Int):Prop:=(z = -1/\∀j,j<n->¬TM ts j a b)\/∃j,j<n/\z=(j:Int)/\TM ts j a b/\∀i,i<j->¬TM ts i a b
theorem VN {n a b:Nat} {z:Int} (h:Ih ts (3*n) a b z):Xo ts n a b z:=by
  rcases h with ⟨h1,h2⟩|⟨u,h1,h2,h3,h4⟩
  · exact .inl ⟨h1,λj hj ⟨r,hr,k⟩=>h2 _ (by omega) k⟩
  · exact .inr ⟨u/3,by omega,h2,⟨u%3,by omega,by rw [show 3*(u/3)+u%3=u by omega];exact h3⟩,λi hi ⟨r,hr,k⟩=>h4 _ (by omega) k⟩
theorem TI {n a b:Nat} {z:Int} (h:Xo ts n a b z):Ih ts (3*n) a b z:=by
  rcases h with ⟨h1,h2⟩|⟨j,h1,h2,⟨r,hr,h3⟩,h4⟩
  · exact .inl ⟨h1,λu hu k=>h2 (u/3) (by omega) ⟨u%3,by omega,by rw [show 3*(u/3)+u%3=u by omega];exact k⟩⟩
  · have key:∀m,m<=3->(∀q,q<m->BV ts (3*j+q)≠(a,b))\/∃q,q<m/\BV ts (3*j+q)=(a,b)/\∀p,p<q->BV ts (3*j+p)≠(a,b):=by
      intro m
      induction m with
      | zero=>intro _;exact .inl λq hq=>absurd hq (Nat.not_lt_zero _)
      | succ m ih =>
        intro hm
        rcases ih (by omega) with h|⟨q,h5,h6,h7⟩
        · by_cases k:BV ts (3*j+m)=(a,b)
          · exact .inr ⟨m,by omega,k,h⟩
          · refine .inl λq hq=>?_
            rcases Nat.lt_or_ge q m with h8|h8
            · exact h q h8
            · rw [show q=m by omega];exact k
        · exact .inr ⟨q,by omega,h6,h7⟩
    rcases key 3 (Nat.le_refl _) with k|⟨q,h5,h6,h7⟩
    · exact absurd h3 (k r hr)
    · refine .inr ⟨3*j+q,by omega,by rw [h2];congr 1;omega,h6,λv hv k=>?_⟩
      rcases Nat.lt_or_ge v (3*j) with h8|h8
      · exact h4 (v/3) (by omega) ⟨v%3,by omega,by rw [show 3*(v/3)+v%3=v by omega];exact k⟩
      · exact h7 (v-3*j) (by omega) (by rw [show 3*j+(v-3*j)=v by omega];exact k)
structure L_ (ts ts':List T3):Prop where
  len:ts.length=ts'.length
  way:∀j,j<ts.length->∀a b,TM ts j a b↔TM ts' j a b
theorem L_.symm (h:L_ ts ts'):L_ ts' ts:=⟨h.len.symm,λj hj a b=>(h.way j (by rw [h.len];exact hj) a b).symm⟩
theorem L_.fst (h:L_ ts ts') {a b:Nat} {z:Int} (k:Ih ts (3*ts.length) a b z):Ih ts' (3*ts'.length) a b z:=by
  rw [<-h.len]
  refine TI ?_
  rcases VN k with ⟨h1,h2⟩|⟨j,h1,h2,h3,h4⟩
  · exact .inl ⟨h1,λj hj k=>h2 j hj ((h.way j hj a b).2 k)⟩
  · exact .inr ⟨j,h1,h2,(h.way j h1 a b).1 h3,λi hi k=>h4 i hi ((h.way i (by omega) a b).2 k)⟩
theorem FC {j r:Nat} (hr:r<3):BV ts (3*j+r)=(CU (ts.getD j (0,0,0)) r,CU (ts.getD j (0,0,0)) ((r+1)%3)):=by
  unfold BV
  rw [show (3*j+r)/3=j by omega,show (3*j+r)%3=r by omega]
def HH (ts:List T3) (u:Nat):P2:=C2 (BV ts u).1 (BV ts u).2
def CV (ts:List T3):Nat->List (P2×Nat)
  | 0=>[]
  | s+1=>Az (CV ts s) (HH ts s) ((Ac (CV ts s) (HH ts s)).getD 0+1)
def M5 (ts:List T3):List P2:=ts.flatMap λt=>[C2 t.1 t.2.1,C2 t.2.1 t.2.2,C2 t.2.2 t.1]
theorem FV (k:P2):∀s,(Ac (CV ts s) k).getD 0=((List.range s).map (HH ts)).count k
  | 0=>rfl
  | s+1=>by
    rw [CV,CR,List.range_succ,List.map_append,List.count_append,List.map_singleton,List.count_singleton]
    by_cases h:k=HH ts s
    · subst h
      rw [if_pos rfl,Option.getD_some,FV _ s];simp
    · rw [if_neg h,FV k s,if_neg (by simpa using λe=>h e.symm)];rfl
theorem Ho {t i:Nat} (hi:i<3):CV ts (3*t+i+1)=Az (CV ts (3*t+i)) (C2 (CU (ts.getD t (0,0,0)) i) (CU (ts.getD t (0,0,0)) ((i+1)%3))) ((Ac (CV ts (3*t+i)) (C2 (CU (ts.getD t (0,0,0)) i) (CU (ts.getD t (0,0,0)) ((i+1)%3)))).getD 0+1):=by
  rw [CV]
  unfold HH
  rw [FC hi]
theorem Lc (s:Nat) (k:P2):(Ac (CV ts s) k).getD 0<=s:=by
  rw [FV]
  exact Nat.le_trans List.count_le_length (by simp)
theorem EW (hn:By N ts=true) (hN:N<=4611686018427387904):∀s,s<=3*ts.length->F_ Kp (CV ts s)
  | 0,_=>F_.nil
  | s+1,hs=>by
    obtain ⟨h1,h2⟩:=Gy hn (show s<3*ts.length by omega)
    exact (EW hn hN s (by omega)).put (DM (Nat.lt_of_lt_of_le h1 hN) (Nat.lt_of_lt_of_le h2 hN))
theorem FL:(List.range (3*ts.length)).map (HH ts)=M5 ts:=by
  have key:∀n,n<=ts.length->(List.range (3*n)).map (HH ts)=M5 (ts.take n):=by
    intro n
    induction n with
    | zero=>intro _;rfl
    | succ n ih =>
      intro hn
      have e1:List.range (3*(n+1))=List.range (3*n)++[3*n,3*n+1,3*n+2]:=by
        rw [show 3*(n+1)=3*n+1+1+1 by omega,List.range_succ,List.range_succ,List.range_succ];simp
      have e2:ts.take (n+1)=ts.take n++[ts.getD n (0,0,0)]:=by
        rw [List.take_add_one,List.getElem?_eq_getElem (show n<ts.length by omega),List.getD,List.getElem?_eq_getElem (show n<ts.length by omega)];rfl
      have k0:=FC (ts:=ts) (j:=n) (show 0<3 by decide)
      have k1:=FC (ts:=ts) (j:=n) (show 1<3 by decide)
      have k2:=FC (ts:=ts) (j:=n) (show 2<3 by decide)
      rw [e1,e2,List.map_append,ih (by omega)]
      unfold M5
      rw [List.flatMap_append]
      congr 1
      simp only [List.map_cons,List.map_nil,List.flatMap_cons,List.flatMap_nil,List.append_nil,HH]
      rw [show 3*n=3*n+0 by omega,k0,show 3*n+0+1=3*n+1 by omega,k1,show 3*n+0+2=3*n+2 by omega,k2]
      rfl
  have h:=key ts.length (Nat.le_refl _)
  rwa [List.take_length] at h
def RY (ts:List T3) (k:P2):Nat:=(Ac (CV ts (3*ts.length)) k).getD 0
theorem PQ (k:P2):RY ts k=(M5 ts).count k:=by unfold RY;rw [FV,FL]
def HU (ts:List T3) (i:Nat):List T3:=(((B4 ts).take i).filter λe=>decide (RY ts (e.a,e.b)=1)).map λe=>(e.a,e.b,0)
def C6 (ts:List T3):List T3:=HU ts (B4 ts).length
theorem SC {i:Nat} (hi:i<(B4 ts).length) (h:RY ts (((B4 ts).getD i ⟨0,0,0,0⟩).a,((B4 ts).getD i ⟨0,0,0,0⟩).b)=1):HU ts (i+1)=HU ts i++[(((B4 ts).getD i ⟨0,0,0,0⟩).a,((B4 ts).getD i ⟨0,0,0,0⟩).b,0)]:=by
  rw [List.getD,List.getElem?_eq_getElem hi] at h ⊢
  unfold HU
  rw [List.take_add_one,List.getElem?_eq_getElem hi,List.filter_append,List.map_append]
  simp only [Option.toList_some,Option.getD_some] at h ⊢
  rw [List.filter_cons,if_pos (decide_eq_true h)];rfl
theorem Uo {i:Nat} (hi:i<(B4 ts).length) (h:¬RY ts (((B4 ts).getD i ⟨0,0,0,0⟩).a,((B4 ts).getD i ⟨0,0,0,0⟩).b)=1):HU ts (i+1)=HU ts i:=by
  rw [List.getD,List.getElem?_eq_getElem hi] at h
  unfold HU
  rw [List.take_add_one,List.getElem?_eq_getElem hi,List.filter_append,List.map_append]
  simp only [Option.toList_some,Option.getD_some] at h ⊢
  rw [List.filter_cons,if_neg (by simpa using h)];simp
theorem MU (i:Nat):(HU ts i).length<=i:=by
  unfold HU
  rw [List.length_map]
  exact Nat.le_trans (List.length_filter_le _ _) (List.length_take_le _ _)
theorem Mx (hn:By N ts=true) (hN:N<=4611686018427387904) {a b:Nat}:(a,b)∈M5 ts↔∃e∈B4 ts,e.a=a/\e.b=b:=by
  rw [<-FL,List.mem_map]
  constructor
  · rintro ⟨u,hu,hk⟩
    have hu:=List.mem_range.1 hu
    have hne:=JM hn hu
    unfold HH C2 at hk
    injection hk with h1 h2
    have hlt:a<b:=by omega
    have hd:BV ts u=(a,b)\/BV ts u=(b,a):=by
      rcases Nat.lt_or_ge (BV ts u).1 (BV ts u).2 with h|h
      · exact .inl (Prod.ext (by omega) (by omega))
      · exact .inr (Prod.ext (by omega) (by omega))
    obtain ⟨i1,i2⟩:=Ib (λu hu=>JM hn hu) _ (Nat.le_refl _)
    cases hg:Ac (CM ts (3*ts.length)) (a,b) with
    | none =>
      have h3:=i2 _ hg hlt u hu
      rcases hd with hd|hd
      · exact absurd hd h3.1
      · exact absurd hd h3.2
    | some e =>
      have h3:=i1 _ _ hg
      refine ⟨e,?_,h3.ea,h3.eb⟩
      unfold B4
      exact (Db _).mem_iff.2 (List.mem_map.2 ⟨_,I6 hg,rfl⟩)
  · rintro ⟨e,he,rfl,rfl⟩
    have h:=(Pm hn hN).1 he
    obtain ⟨u,hu,hs⟩:=h.some
    have hlt:=h.lt
    simp only at hlt hs
    refine ⟨u,List.mem_range.2 hu,?_⟩
    unfold HH C2
    rcases hs with hs|hs<;>rw [hs]<;>exact Prod.ext (by simp only;omega) (by simp only;omega)
theorem Ty (hn:By N ts=true) (hN:N<=4611686018427387904) {s:T3}:s∈C6 ts↔(M5 ts).count (s.1,s.2.1)=1/\s.2.2=0:=by
  unfold C6 HU
  rw [List.take_length,List.mem_map]
  constructor
  · rintro ⟨e,he,rfl⟩
    obtain ⟨h1,h2⟩:=List.mem_filter.1 he
    exact ⟨by rw [<-PQ];exact of_decide_eq_true h2,rfl⟩
  · rintro ⟨h1,h2⟩
    have hm:(s.1,s.2.1)∈M5 ts:=List.count_pos_iff.1 (by omega)
    obtain ⟨e,he,ea,eb⟩:=(Mx hn hN).1 hm
    refine ⟨e,List.mem_filter.2 ⟨he,decide_eq_true (by rw [PQ,ea,eb];exact h1)⟩,?_⟩
    exact Prod.ext ea (Prod.ext eb h2.symm)
end
end
section
abbrev E0:E4:=⟨0,0,0,0⟩
def VX (N:Nat) (es:List E4):Nat->List (P2×Nat)
  | 0=>[]
  | i+1=>Az (VX N es i) (C2 (es.getD i E0).a (es.getD i E0).b) (N+i)
def WZ (N:Nat) (ss:List T3):Nat->List (P2×Nat)
  | 0=>[]
  | k+1=>if (ss.getD (ss.length-1-k) (0,0,0)).1<N/\(ss.getD (ss.length-1-k) (0,0,0)).2.1<N then Az (WZ N ss k) (C2 (ss.getD (ss.length-1-k) (0,0,0)).1 (ss.getD (ss.length-1-k) (0,0,0)).2.1) (ss.getD (ss.length-1-k) (0,0,0)).2.2 else WZ N ss k
def U6 (N:Nat) (ss:List T3) (es:List E4):Nat->List (P2×Nat)
  | 0=>WZ N ss ss.length
  | i+1=>Az (Az (U6 N ss es i) (C2 (es.getD i E0).a (N+i)) ((Ac (U6 N ss es i) (C2 (es.getD i E0).a (es.getD i E0).b)).getD 0)) (C2 (es.getD i E0).b (N+i)) ((Ac (U6 N ss es i) (C2 (es.getD i E0).a (es.getD i E0).b)).getD 0)
def Yg (N:Nat) (ss:List T3) (es:List E4) (a b:Nat):Nat:=(Ac (U6 N ss es es.length) (C2 a b)).getD 0
def Zj (ps:List Pt) (e:E4):Pt:=Vu (ZF ps e.a+ZF ps e.b) (1/2)
def Xk (ps:List Pt) (es:List E4):Nat->List Pt
  | 0=>ps
  | i+1=>Xk ps es i++[Zj ps (es.getD i E0)]
def Y1 (ps:List Pt) (es:List E4):List Pt:=Xk ps es es.length
def YS (N:Nat) (ss:List T3) (es:List E4) (ts:List T3):List T3:=(C6 ts).map λs=>(s.1,s.2.1,Yg N ss es s.1 s.2.1)
section
variable {N M i:Nat} {es:List E4} {ts:List T3} {t:T3} {ss rs:List T3} {ps:List Pt}
theorem F0 {α:Type} {l:List α} {d:α} {i:Nat} (h:i<l.length):l.take (i+1)=l.take i++[l.getD i d]:=by
  rw [List.take_add_one,List.getElem?_eq_getElem h,List.getD,List.getElem?_eq_getElem h];rfl
theorem KT (hn:By N ts=true) (hN:N<=4611686018427387904) {e:E4} (he:e∈B4 ts):e.a<e.b/\e.b<N:=by
  have h:=(Pm hn hN).1 he
  obtain ⟨u,hu,hs⟩:=h.some
  have h2:=Gy hn hu
  have hlt:=h.lt
  simp only at hlt hs
  rcases hs with hs|hs<;>rw [hs] at h2<;>simp only at h2<;>omega
theorem NM (hn:By N ts=true) (hN:N<=4611686018427387904):∀e∈B4 ts,e.a<N/\e.b<N:=λe he=>by
  have:=KT hn hN he;omega
theorem UN (hn:By N ts=true) (hN:N<=4611686018427387904) {s:T3} (hs:s∈C6 ts):s.1<N/\s.2.1<N:=by
  unfold C6 HU at hs
  rw [List.take_length,List.mem_map] at hs
  obtain ⟨e,he,rfl⟩:=hs
  exact NM hn hN e (List.mem_filter.1 he).1
end
end
section
set_option maxRecDepth 100000
theorem Sy (p:Option Addr) (n cp:Nat) (h:n<=cp) (w:World)  :Calls Tryz.prog 40 #[(Value.slice p n cp)] w (An w (Value.slice p n n)):=by
 refine Ag (args:=[(Value.slice p n cp)]) Tryz.func40 rfl rfl (AY rfl) (AF.subF (sL [0] rfl) (q4 (asg' rfl (AD.nil (q2 ?_)))))
 refine AJ rfl (AJ rfl (AH (v:=(vN n)) (AE rfl Tryz.underlying28) rfl (AJ rfl (AH (v:=(vN n)) (AE rfl Tryz.underlying28) rfl (AH (v:=(Value.slice p n n)) (CK (m:=n) rfl rfl rfl Tryz.underlying28 Tryz.sizeOf51 (by omega)) rfl ?_)))))
 exact asg' rfl (AD.nil (AC.subF (sL [2] rfl) (AC.then_ (AF.ret (AN rfl (AQ (v:=(Value.slice p n n)) rfl) (λw hw=>⟨rfl,hw.out⟩))))))
theorem Qh (ts:List Pt) (x:RX (rowsL BE ts) ts.length) (hl:ts.length<=1000000000) (w:World) {S:Nat->Prop} (hx:Ro S w x):Calls Tryz.prog 41 #[(Value.slice x.p ts.length x.c)] w (Eo Vj (T9 (T:=51) (z:=10) (cs:=rowsL BE ts) (n:=ts.length)) S w):=by
 have lx:=DF (W:=w) hx
 refine Ah (args:=[(Value.slice x.p ts.length x.c)]) (L:=[AI x.p (rowsL BE ts)]) Tryz.func41 rfl rfl (AY rfl) (EV hx Ar) (AF.subF (sL [0] rfl) (q4 (asg' rfl (AD.nilRow 51 10 (AD.nil ?_)))))
 refine q1 (q4 (AJ rfl (AH (v:=(Value.bool x.p.isNone)) (FE rfl rfl Tryz.underlying28) rfl (AD.nil (AC.subF (sL [0,2,4] rfl) ?_)))))
 refine AC.then_ ?_
 refine AF.cond rfl (λhc0=>?_) (λhc0=>?_)
 ·skip
  have hts:ts=[]:=List.eq_nil_of_length_eq_zero (x.ok.nil (Option.isNone_iff_eq_none.1 hc0)).1
  refine q4 (asg' rfl (AD.nilRow 51 10 (AD.nil (AC.then_ (AF.ret ?_)))))
  exact AC.then_ret (AN rfl (AQ (v:=(Value.slice none 0 0)) rfl) (λw hw=>(by subst hts;exact Iq hw (OX.mk none 0 OwnOk.none) (by exact (sk (sl (sl sr)))) (FQ.own rfl FQ.nil) (by show Value.slice none 0 0=_;rfl))))
 ·skip
  refine AF.skip (q2 (AD.openV (V:=λb1=>(Value.slice (some ⟨b1,0,none⟩) 0 0)) (T:=51) (cs:=[]) (AO rfl) (Ey Tryz.underlying28 Tryz.sizeOf51) rfl (AY rfl) λb1=>AD.asRow0 (z:=10) 0 rfl (by omega) λho_b1=>AJ rfl (AD.appendE0 X0 rfl ho_b1 rfl (K_ (k:=2) rfl x.ok) (Af Ck _) (Dh UU _) (GR (by omega)) (by omega) rfl λp_1 c_1 ho_1=>?_)))
  exact asg' rfl (AD.nil (AC.subF (sL [0,2] rfl) (AC.then_ (AF.ret (AN rfl (AQ (v:=(Value.slice p_1 ts.length c_1)) rfl) (λw hw=>(Iq hw (OX.mk p_1 c_1 ho_1) (sk (sl (sl sr))) (FQ.own rfl FQ.nil) rfl)))))))
theorem SO (p:Option Addr) (n cp:Nat) (h:n<=cp) (w:World)  :Calls Tryz.prog 42 #[(Value.slice p n cp)] w (An w (Value.slice p n n)):=by
 refine Ag (args:=[(Value.slice p n cp)]) Tryz.func42 rfl rfl (AY rfl) (AF.subF (sL [0] rfl) (q4 (asg' rfl (AD.nil (q2 ?_)))))
 refine AJ rfl (AJ rfl (AH (v:=(vN n)) (AE rfl Tryz.underlying23) rfl (AJ rfl (AH (v:=(vN n)) (AE rfl Tryz.underlying23) rfl (AH (v:=(Value.slice p n n)) (CK (m:=n) rfl rfl rfl Tryz.underlying23 Tryz.sizeOf53 (by omega)) rfl ?_)))))
 exact asg' rfl (AD.nil (AC.subF (sL [2] rfl) (AC.then_ (AF.ret (AN rfl (AQ (v:=(Value.slice p n n)) rfl) (λw hw=>⟨rfl,hw.out⟩))))))
theorem Jd (p:Option Addr) (n cp:Nat) (h:n<=cp) (w:World)  :Calls Tryz.prog 44 #[(Value.slice p n cp)] w (An w (Value.slice p n n)):=by
 refine Ag (args:=[(Value.slice p n cp)]) Tryz.func44 rfl rfl (AY rfl) (AF.subF (sL [0] rfl) (q4 (asg' rfl (AD.nil (q2 ?_)))))
 refine AJ rfl (AJ rfl (AH (v:=(vN n)) (AE rfl Tryz.underlying24) rfl (AJ rfl (AH (v:=(vN n)) (AE rfl Tryz.underlying24) rfl (AH (v:=(Value.slice p n n)) (CK (m:=n) rfl rfl rfl Tryz.underlying24 Tryz.sizeOf55 (by omega)) rfl ?_)))))
 exact asg' rfl (AD.nil (AC.subF (sL [2] rfl) (AC.then_ (AF.ret (AN rfl (AQ (v:=(Value.slice p n n)) rfl) (λw hw=>⟨rfl,hw.out⟩))))))
end
end Go.Proofs.YtpgncndhhhllfaaGreatDoor
