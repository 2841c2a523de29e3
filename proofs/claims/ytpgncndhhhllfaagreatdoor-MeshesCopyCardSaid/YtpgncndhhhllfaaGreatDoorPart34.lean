import Derived.WideKeyEntry
import Derived.Test.YtpgncndhhhllfaaGreatDoorPart06
import Derived.Test.YtpgncndhhhllfaaGreatDoorPart15
import Derived.Test.YtpgncndhhhllfaaGreatDoorPart27
import Derived.Test.YtpgncndhhhllfaaGreatDoorPart28
import Derived.Test.YtpgncndhhhllfaaGreatDoorPart32
import Derived.Test.YtpgncndhhhllfaaGreatDoorPart33
namespace Go.Proofs.YtpgncndhhhllfaaGreatDoor
open Go Go.RowKit Go.Proofs.Tryz
set_option linter.unusedVariables false
set_option linter.unusedSimpArgs false
section
set_option maxRecDepth 100000
theorem Qv {ps:List Pt} {ts ss:List (Nat×Nat×Nat)} (x:MX ps ts ss) (hl:ts.length<=1000000000) (hN:ps.length<=4611686018427387904) (hnb:DK ps.length ts=true) (w:World) {S:Nat->Prop} (hx:Ro S w x):Calls Tryz.prog 37 #[(aG (DA x))] w (BH (RX (rowsL B6 (B0 ts)) (B0 ts).length) S w):=by
 have lx:=Cx (W:=w) hx
 refine Aj (args:=[(aG (DA x))]) (L:=[AG x.a.p (rowsL Af ps),AG x.b.p (rowsL BA ts),AG x.c.p (rowsL BA ss)]) Tryz.func37 rfl rfl (AV rfl) (Ds hx Ax) (AE.subF (sL [0] rfl) (q4 (BU (cs:=DA x) rfl λb1=>asg' rfl (q6 (sL [1,2] rfl) ?_))))
 refine q4 (BG 0 Bi rfl (CN (args:=[(aG (DA x))]) (v:=(Value.bool true)) Tryz.call76 (λw hw=>(by have h9:=OJ x (by omega) w (inS hw 1 rfl lx);rw [hnb] at h9;exact h9)) rfl (AK (BF (c:=false) rfl rfl) rfl (AD.nil (AC.subF (sL [1,2,5] rfl) ?_)))))
 refine AC.then_ (AE.cond_false rfl (AE.skip (q2 (AK (v:=(pP b1 1)) (AA rfl Tryz.underlying30 rfl Tryz.sizeOf23 rfl) rfl (BJ 0 (Value.slice x.b.p ts.length x.b.c) DG rfl ?_)))))
 exact cX (S:=S) (cs:=rowsL B6 (B0 ts)) (k:=(B0 ts).length) (args:=[(Value.slice x.b.p ts.length x.b.c)]) Tryz.call93 (λw hw=>Mh ts x.b ps.length hnb hN hl w (TD (inS hw 1 rfl lx))) rfl rfl rfl λo lo=>asg' rfl (AD.nil (AC.subF (sL [1,2] rfl) (AC.then_ (AE.ret (AJ rfl (AS (v:=(Value.slice o.p ((B0 ts).length) o.c)) rfl) (λw hw=>GT hw (inS hw 0 rfl lo) rfl))))))
end
section
section
variable {α β:Type} [DecidableEq α]
theorem C8 {kvs:List (α×β)} {x z:α} {y:β}:BB (BW kvs x y) z=if z=x then some y else BB kvs z:=by
  induction kvs with
  | nil=>rfl
  | cons p r ih =>
    obtain ⟨k,v⟩:=p
    unfold BW
    split
    · rename_i e
      subst e
      unfold BB
      split<;>rfl
    · rename_i e
      rw [BB,ih]
      by_cases h:z=k
      · rw [if_pos h,if_neg (λe2=>e (e2.symm.trans h)),BB,if_pos h]
      · rw [if_neg h]
        split
        · rfl
        · rw [BB,if_neg h]
end
section
variable {ts:List (Nat×Nat×Nat)}
def Bq (ts:List (Nat×Nat×Nat)) (u:Nat):P2:=(GM (ts.getD (u/3) (0,0,0)) (u%3),GM (ts.getD (u/3) (0,0,0)) ((u%3+1)%3))
def Hx (ts:List (Nat×Nat×Nat)) (s a b:Nat) (z:Int):Prop:=(z = -1/\∀u,u<s->Bq ts u≠(a,b))\/∃u,u<s/\z=((u/3:Nat):Int)/\Bq ts u=(a,b)/\∀v,v<u->Bq ts v≠(a,b)
theorem Hx.none {s a b:Nat} (h:∀u,u<s->Bq ts u≠(a,b)):Hx ts s a b (-1):=.inl ⟨rfl,h⟩
theorem Hx.skip {s a b:Nat} {z:Int} (h:Hx ts s a b z) (hn:Bq ts s≠(a,b)):Hx ts (s+1) a b z:=by
  rcases h with ⟨h1,h2⟩|⟨u,h1,h2,h3,h4⟩
  · refine .inl ⟨h1,λu hu=>?_⟩
    rcases Nat.lt_or_ge u s with h|h
    · exact h2 u h
    · rw [show u=s by omega];exact hn
  · exact .inr ⟨u,by omega,h2,h3,h4⟩
theorem Hx.take {s a b:Nat} (h:Hx ts s a b (-1)) (hn:Bq ts s=(a,b)):Hx ts (s+1) a b ((s/3:Nat):Int):=by
  rcases h with ⟨h1,h2⟩|⟨u,h1,h2,h3,h4⟩
  · exact .inr ⟨s,by omega,rfl,hn,h2⟩
  · omega
theorem Hx.keep {s a b:Nat} {z:Int} (h:Hx ts s a b z) (hz:z ≠ -1):Hx ts (s+1) a b z:=by
  rcases h with ⟨h1,h2⟩|⟨u,h1,h2,h3,h4⟩
  · exact absurd h1 hz
  · exact .inr ⟨u,by omega,h2,h3,h4⟩
structure Q9 (ts:List (Nat×Nat×Nat)) (s:Nat) (k:P2) (e:E4):Prop where
  ea:e.a=k.1
  eb:e.b=k.2
  lt:k.1<k.2
  l:Hx ts s k.1 k.2 e.l
  r:Hx ts s k.2 k.1 e.r
  some:∃u,u<s/\(Bq ts u=(k.1,k.2)\/Bq ts u=(k.2,k.1))
theorem Km (hd:∀u,u<3*ts.length->(Bq ts u).1≠(Bq ts u).2):∀s,s<=3*ts.length->(∀k e,BB (CM ts s) k=some e->Q9 ts s k e)/\(∀k,BB (CM ts s) k=none->k.1<k.2->∀u,u<s->Bq ts u≠(k.1,k.2)/\Bq ts u≠(k.2,k.1))
  | 0,_=>⟨λk e h=>(by cases h),λk _ _ u hu=>absurd hu (Nat.not_lt_zero _)⟩
  | s+1,hs=>by
    obtain ⟨i1,i2⟩:=Km hd s (by omega)
    have hne:=hd s (by omega)
    obtain ⟨a,ha⟩:∃a,a=GM (ts.getD (s/3) (0,0,0)) (s%3):=⟨_,rfl⟩
    obtain ⟨b,hb⟩:∃b,b=GM (ts.getD (s/3) (0,0,0)) ((s%3+1)%3):=⟨_,rfl⟩
    have hdir:Bq ts s=(a,b):=by rw [ha,hb];rfl
    rw [hdir] at hne
    have hE:CM ts (s+1)=PI (CM ts s) (s/3) a b:=by rw [ha,hb];rfl
    rw [hE]
    unfold PI
    have hky:(Dc a b).1<(Dc a b).2:=by unfold Dc;simp only at hne ⊢;omega
    -- what the old edge,or the new one,knows
    have h0:∀e0,e0=(BB (CM ts s) (Dc a b)).getD (Hd (Dc a b))->e0.a=(Dc a b).1/\e0.b=(Dc a b).2/\Hx ts s (Dc a b).1 (Dc a b).2 e0.l/\Hx ts s (Dc a b).2 (Dc a b).1 e0.r:=by
      intro e0 he0
      cases hg:BB (CM ts s) (Dc a b) with
      | none =>
        rw [hg] at he0
        have h2:=i2 _ hg hky
        subst he0
        exact ⟨rfl,rfl,Hx.none λu hu=>(h2 u hu).1,Hx.none λu hu=>(h2 u hu).2⟩
      | some e =>
        rw [hg] at he0
        have h2:=i1 _ _ hg
        subst he0
        exact ⟨h2.ea,h2.eb,h2.l,h2.r⟩
    constructor
    · intro k e hk
      rw [C8] at hk
      split at hk
      · rename_i e1
        injection hk with hk
        obtain ⟨c1,c2,c3,c4⟩:=h0 _ rfl
        obtain ⟨e0,he0⟩:∃e0,e0=(BB (CM ts s) (Dc a b)).getD (Hd (Dc a b)):=⟨_,rfl⟩
        rw [<-he0] at hk c1 c2 c3 c4
        subst hk
        have hends:=KQ e0 (s/3) a b
        rw [e1]
        rcases Nat.lt_or_ge a b with hab|hab
        · have k1:(Dc a b).1=a:=by unfold Dc;simp only;omega
          have k2:(Dc a b).2=b:=by unfold Dc;simp only;omega
          rw [k1,k2] at c3 c4
          refine ⟨hends.1.trans c1,hends.2.trans c2,hky,?_,?_,s,by omega,.inl (by rw [k1,k2];exact hdir)⟩<;>rw [k1,k2]
          · unfold En
            by_cases hl:e0.l = -1
            · rw [if_pos ⟨hab,hl⟩]
              rw [hl] at c3
              exact c3.take hdir
            · rw [if_neg (λh=>hl h.2),if_neg (λh=>by omega)]
              exact c3.keep hl
          · have hn2:Bq ts s≠(b,a):=by rw [hdir];intro h;injection h with h _;omega
            unfold En
            split
            · exact c4.skip hn2
            · rw [if_neg (λh=>by omega)]
              exact c4.skip hn2
        · have hba:b<a:=by simp only at hne;omega
          have k1:(Dc a b).1=b:=by unfold Dc;simp only;omega
          have k2:(Dc a b).2=a:=by unfold Dc;simp only;omega
          rw [k1,k2] at c3 c4
          have hn2:Bq ts s≠(b,a):=by rw [hdir];intro h;injection h with h _;omega
          refine ⟨hends.1.trans c1,hends.2.trans c2,hky,?_,?_,s,by omega,.inr (by rw [k1,k2];exact hdir)⟩<;>rw [k1,k2]
          · unfold En
            rw [if_neg (λh=>by omega)]
            split
            · exact c3.skip hn2
            · exact c3.skip hn2
          · unfold En
            rw [if_neg (λh=>by omega)]
            by_cases hl:e0.r = -1
            · rw [if_pos ⟨hba,hl⟩]
              rw [hl] at c4
              exact c4.take hdir
            · rw [if_neg (λh=>hl h.2)]
              exact c4.keep hl
      · rename_i e1
        obtain ⟨a1,a2,a3,a4,a5,u,a6,a7⟩:=i1 k e hk
        have n1:Bq ts s≠(k.1,k.2):=by
          rw [hdir];intro h;injection h with h1 h2
          exact e1 (Prod.ext (by unfold Dc;simp only;omega) (by unfold Dc;simp only;omega))
        have n2:Bq ts s≠(k.2,k.1):=by
          rw [hdir];intro h;injection h with h1 h2
          exact e1 (Prod.ext (by unfold Dc;simp only;omega) (by unfold Dc;simp only;omega))
        exact ⟨a1,a2,a3,a4.skip n1,a5.skip n2,u,by omega,a7⟩
    · intro k hk hlt u hu
      rw [C8] at hk
      split at hk
      · cases hk
      · rename_i e1
        rcases Nat.lt_or_ge u s with h|h
        · exact i2 k hk hlt u h
        · rw [show u=s by omega,hdir]
          constructor
          · intro h;injection h with h1 h2
            exact e1 (Prod.ext (by unfold Dc;simp only;omega) (by unfold Dc;simp only;omega))
          · intro h;injection h with h1 h2
            exact e1 (Prod.ext (by unfold Dc;simp only;omega) (by unfold Dc;simp only;omega))
theorem Tu {N:Nat} (hn:DK N ts=true) (hN:N<=4611686018427387904) (hd:∀u,u<3*ts.length->(Bq ts u).1≠(Bq ts u).2) {e:E4} (he:e∈B0 ts):Q9 ts (3*ts.length) (e.a,e.b) e:=by
  unfold B0 at he
  obtain ⟨p,hp,h1⟩:=List.mem_map.1 ((EC _).mem_iff.1 he)
  obtain ⟨j,hj,h2⟩:=List.getElem_of_mem hp
  have h3:=IP (x:=p.1) (v:=p.2) (FO hn hN _ (Nat.le_refl _)).once (show (CM ts (3*ts.length))[j]?=some (p.1,p.2) by rw [List.getElem?_eq_getElem hj,h2])
  have h4:=(Km hd _ (Nat.le_refl _)).1 _ _ h3
  rw [h1] at h4
  rw [show (e.a,e.b)=p.1 from Prod.ext h4.ea h4.eb]
  exact h4
end
end
section
theorem Vq {a b:Nat} (ha:a<4611686018427387904) (hb:b<4611686018427387904):OD (a,b):=⟨ha,hb⟩
def Cm {α β:Type} [DecidableEq α]:List (α×β)->α->Nat
  | [],_=>0
  | (k,v)::r,x=>if x=k then 0 else Cm r x+1
section
variable {α β:Type} {enc:α->Value} {eV:β->Value} {ok:α->Prop} {P:Program} {kt:TypeId} {n:Nat} {F:List (Nat×Value)} {w0:A_} {L:List As} {d:Nat} {mp kp vp sp:Operand} {t:TypeId} {pp:String} {af:Array Edge} {g:Option (Nat×Bool)} {tx et:TypeId} {b:Nat} {ops:Array Oper} {rest:List Oper} {Q:Exit->Act->World->Prop}
def M5 {α β:Type} [DecidableEq α] (b:Nat) (enc:α->Value) (eV:β->Value) (kvs:List (α×β)) (x:α) (v:β):As:=⟨some b,λo=>o=.map (entsM enc eV kvs 0).toArray kvs.length\/o=.map (entsM enc eV (BW kvs x v) 0).toArray (BW kvs x v).length,false⟩
variable [DecidableEq α]
theorem KD:∀{kvs:List (α×β)} {x:α} {v:β},BB kvs x=some v->BW kvs x v=kvs
  | (k,u)::r,x,v,h=>by
    unfold BB at h
    unfold BW
    split at h
    · rename_i e;injection h with h;rw [if_pos e,h]
    · rename_i e;rw [if_neg e,KD h]
theorem HM:∀{kvs:List (α×β)} {x:α} {v:β},(BW kvs x v)[Cm kvs x]?=some (x,v)
  | [],_,_=>rfl
  | (k,u)::r,x,v=>by
    unfold BW Cm
    split
    · rename_i e;rw [List.getElem?_cons_zero,e]
    · rw [List.getElem?_cons_succ,HM]
theorem MV {x:α} {u v:β}:∀{kvs:List (α×β)},(BW kvs x u).set (Cm kvs x) (x,v)=BW kvs x v
  | []=>rfl
  | (k,w)::r=>by
    by_cases e:x=k
    · simp [BW,Cm,e]
    · simp [BW,Cm,e,MV]
theorem Mc:∀{kvs:List (α×β)} {j:Nat} {x:α} {v:β},kvs.Pairwise (λp q=>p.1≠q.1)->kvs[j]?=some (x,v)->Cm kvs x=j
  | (k,u)::r,0,x,v,_,h=>by
    simp only [List.getElem?_cons_zero,Option.some.injEq,Prod.mk.injEq] at h
    rw [Cm,if_pos h.1.symm]
  | (k,u)::r,j+1,x,v,hp,h=>by
    obtain ⟨h1,h2⟩:=List.pairwise_cons.1 hp
    rw [List.getElem?_cons_succ] at h
    rw [Cm,if_neg (λe=>h1 (x,v) (List.mem_of_getElem? h) e.symm),Mc h2 h]
theorem JC:∀{kvs:List (α×β)} {x:α},(∀p∈kvs,p.1≠x)->Cm kvs x=kvs.length
  | [],_,_=>rfl
  | (k,v)::r,x,h=>by
    rw [Cm,if_neg (λe=>h (k,v) List.mem_cons_self e.symm),JC λp hp=>h p (List.mem_cons_of_mem _ hp)];rfl
theorem TO {i:Nat} {kvs:List (α×β)} (x:α) (v:β) (hi:L[i]?=some (DB b enc eV kvs)):Wk (L.set i (M5 b enc eV kvs x v)) L:=λw0 w hw=>by
  exact hw.freeze (i:=i) (y:=M5 b enc eV kvs x v) hi rfl (λo h=>.inl h) (λe=>by cases e)
theorem Qy {i:Nat} {kvs:List (α×β)} (x:α) (v:β) (hi:L[i]?=some (DB b enc eV (BW kvs x v))):Wk (L.set i (M5 b enc eV kvs x v)) L:=λw0 w hw=>by
  exact hw.freeze (i:=i) (y:=M5 b enc eV kvs x v) hi rfl (λo h=>.inr h) (λe=>by cases e)
theorem X_ (i:Nat) {kvs:List (α×β)} {x:α} {v:β} {LA:List As} (hi:L[i]?=some (DB b enc eV kvs)) (hs:Li L i (M5 b enc eV kvs x v)=some LA):Wk LA L:=GJ hs▸TO x v hi
theorem VZ (i:Nat) {kvs:List (α×β)} {x:α} {v:β} {LA:List As} (hi:L[i]?=some (DB b enc eV (BW kvs x v))) (hs:Li L i (M5 b enc eV kvs x v)=some LA):Wk LA L:=GJ hs▸Qy x v hi
theorem GU (K:Nh P kt enc ok) (i:Nat) {kvs:List (α×β)} {x:α} {z0 v:β} {dd:Option Tmp} (hx:evF F mp=some (.map (some b))) (hk:evF F kp=some (enc x)) (ht:P.underlying tx=some (.map kt et)) (hz:∀w,(zeroValue et).run P w=.ok (eV z0) w) (hi:L[i]?=some (M5 b enc eV kvs x v)) (hm:Ja ok kvs) (hok:ok x) (hv:v=(BB kvs x).getD z0) :
    Ex P n F w0 L ⟨dd,.lookup tx mp kp false,t,pp,af,g⟩ (eV v):=λA w ha hw=>by
  obtain ⟨_,o,ho,hp⟩:=hw.2.1 _ (List.mem_of_getElem? hi) b rfl
  obtain ⟨lx,hlx⟩:=K.key x hok
  have hc:=λem=>K.law.check w em hlx
  have key:∀kvs':List (α×β),Ja ok kvs'->(BB kvs' x).getD z0=v->w.heap[b]?=some (.map (entsM enc eV kvs' 0).toArray kvs'.length)->(execOp A.eval ⟨dd,.lookup tx mp kp false,t,pp,af,g⟩).run P w=.ok (.value (eV v)) w:=λkvs' hm' hg ho=>by
    rcases F5 (eV:=eV) K hm' hok w with ⟨h1,_,h2⟩|⟨j,u,_,h1,h2⟩
    · rw [h1] at hg
      simp only [execOp,ha.ev hx,ha.ev hk,Instr.lookup,Sem.run_bind,run_underlying ht,CB ho,Result.andThen_ok,Sem.run_pure,hc,List.toList_toArray,h2,hz]
      rw [<-hg];rfl
    · rw [h1] at hg
      simp only [execOp,ha.ev hx,ha.ev hk,Instr.lookup,Sem.run_bind,run_underlying ht,CB ho,Result.andThen_ok,Sem.run_pure,hc,List.toList_toArray,h2]
      rw [<-hg];rfl
  rcases hp with hp|hp
  · exact key kvs hm hv.symm (by rw [ho,hp])
  · exact key (BW kvs x v) (hm.put hok) (by rw [C8,if_pos rfl];rfl) (by rw [ho,hp])
theorem AD.mapEntry (K:Nh P kt enc ok) (i:Nat) {kvs:List (α×β)} {x:α} {z0 v:β} (hx:evF F mp=some (.map (some b))) (hk:evF F kp=some (enc x)) (ht:P.underlying tx=some (.map kt et)) (hz:∀w,(zeroValue et).run P w=.ok (eV z0) w) (hi:L[i]?=some (DB b enc eV kvs)) (hm:Ja ok kvs) (hok:ok x) (hv:v=(BB kvs x).getD z0) (hd:Nat.ble (d+1) n=true)
    (next:AD P ops rest Q n ((d,.tuple #[eV v,vN (Cm kvs x)])::F) w0 (L.set i (DB b enc eV (BW kvs x v)))):AD P ops (⟨some d,.mapEntry tx mp kp,t,pp,af,none⟩::rest) Q n F w0 L:=λa w ha hW=>by
  obtain ⟨_,o,ho,hp⟩:=hW.2.1 _ (List.mem_of_getElem? hi) b rfl
  have ho:w.heap[b]?=some (.map (entsM enc eV kvs 0).toArray kvs.length):=by rw [ho,hp]
  obtain ⟨lx,hlx⟩:=K.key x hok
  have hc:=λem=>K.law.check w em hlx
  have hst:=K.law.stays w hlx
  have hrun:(execOp a.eval ⟨some d,.mapEntry tx mp kp,t,pp,af,none⟩).run P w=.ok (.value (.tuple #[eV v,vN (Cm kvs x)])) (Go.ChangeMaps.setBlock w b (.map (entsM enc eV (BW kvs x v) 0).toArray (BW kvs x v).length)):=by
    rcases F5 (eV:=eV) K hm hok w with ⟨h0,h1,h2⟩|⟨j,u,hj,h1,h2⟩
    · rw [h0] at hv
      simp only [Option.getD_none] at hv
      subst hv
      rw [HR h1,JC h1,FG,List.length_append]
      simp only [execOp,ha.ev hx,ha.ev hk,Instr.mapEntry,Sem.run_bind,run_underlying ht,CB ho,Result.andThen_ok,hc,List.toList_toArray,h2,hz,Do ho,Sem.run_pure,List.push_toArray,Nat.zero_add,List.length_singleton]
      rfl
    · rw [h1] at hv
      simp only [Option.getD_some] at hv
      subst hv
      rw [KD h1,Mc hm.once hj]
      have e1:(entsM enc eV kvs 0)[j]?=some ⟨enc x,eV v,0+j⟩:=by rw [Ch,hj];rfl
      have e2:=Fz (enc:=enc) (eV:=eV) (y:=v) hj
      have e3:kvs.set j (x,v)=kvs:=by
        apply List.ext_getElem?
        intro q
        rw [List.getElem?_set]
        split
        · rename_i e;subst e;split
          · exact hj.symm
          · rename_i h9;rw [List.getElem?_eq_none (by omega)]
        · rfl
      rw [e3] at e2
      have e4:(entsM enc eV kvs 0).toArray.modify j (λe=>{ e with key:=enc x })=(entsM enc eV kvs 0).toArray:=by
        apply Array.ext_getElem?
        intro q
        rw [Array.getElem?_modify]
        simp only [List.getElem?_toArray]
        split
        · rename_i e;subst e;rw [e1];rfl
        · rfl
      simp only [execOp,ha.ev hx,ha.ev hk,Instr.mapEntry,Sem.run_bind,run_underlying ht,CB ho,Result.andThen_ok,hc,List.toList_toArray,List.getElem?_toArray,h2,e1,hst,e4,Do ho,Sem.run_pure,Option.map_some,Option.getD_some]
      simp [goInt,e1,hst,e4,Do ho,Result.andThen]
  unfold wpList
  rw [if_pos (AW rfl a ha)]
  left
  unfold Oper.wp
  rw [hrun,Oper.upon_value]
  exact next _ _ (ha.put (Bj hd)) (hW.turn hi rfl rfl (D7 _ _ _) ⟨_,Eh ho,rfl⟩)
theorem AD.entryStore (i:Nat) {kvs:List (α×β)} {x:α} {u y:β} (hx:evF F mp=some (.map (some b))) (hs:evF F sp=some (vN (Cm kvs x))) (hv:evF F vp=some (eV y)) (hi:L[i]?=some (DB b enc eV (BW kvs x u)))
    (next:AD P ops rest Q n F w0 (L.set i (DB b enc eV (BW kvs x y)))):AD P ops (⟨none,.entryStore tx mp sp vp,t,pp,af,none⟩::rest) Q n F w0 L:=λa w ha hW=>by
  obtain ⟨_,o,ho,hp⟩:=hW.2.1 _ (List.mem_of_getElem? hi) b rfl
  have ho:w.heap[b]?=some (.map (entsM enc eV (BW kvs x u) 0).toArray (BW kvs x u).length):=by rw [ho,hp]
  have hf:=HM (kvs:=kvs) (x:=x) (v:=u)
  have hlt:Cm kvs x<(BW kvs x u).length:=(List.getElem?_eq_some_iff.1 hf).1
  have e0:(entsM enc eV (BW kvs x u) 0)[Cm kvs x]?=some ⟨enc x,eV u,Cm kvs x⟩:=by rw [Ch,hf];simp
  have hnd:((entsM enc eV (BW kvs x u) 0).map (·.born)).Nodup:=by
    have e1:∀(l:List (α×β)) (s:Nat),(entsM enc eV l s).map (·.born)=List.range' s l.length:=by
      intro l
      induction l with
      | nil=>intro s;rfl
      | cons p r ih=>intro s;rw [entsM,List.map_cons,ih,List.length_cons,List.range'_succ]
    rw [e1];exact List.nodup_range'
  have hidx:(entsM enc eV (BW kvs x u) 0).toArray.findIdx? (λe=>((e.born:Nat):Int) == ((Cm kvs x:Nat):Int))=some (Cm kvs x):=by
    rw [WideElems.findIdx_arr]
    exact WideElems.findIdx_born hnd e0
  have hset:(BW kvs x u).set (Cm kvs x) (x,y)=BW kvs x y:=MV
  have hmod:=Fz (enc:=enc) (eV:=eV) (y:=y) hf
  have hmod2:(entsM enc eV (BW kvs x u) 0).toArray.modify (Cm kvs x) (λe=>{ e with val:=eV y })=(entsM enc eV (BW kvs x y) 0).toArray:=by
    rw [<-hset,<-hmod]
    apply Array.ext_getElem?
    intro q
    rw [Array.getElem?_modify,Array.getElem?_modify]
    simp only [List.getElem?_toArray]
    split
    · rename_i e;subst e;rw [e0];rfl
    · rfl
  have hl2:(BW kvs x y).length=(BW kvs x u).length:=by rw [<-hset,List.length_set]
  have hrun:(execOp a.eval ⟨none,.entryStore tx mp sp vp,t,pp,af,none⟩).run P w=.ok .skip (Go.ChangeMaps.setBlock w b (.map (entsM enc eV (BW kvs x y) 0).toArray (BW kvs x y).length)):=by
    rw [<-hmod2,hl2]
    simp only [execOp,ha.ev hx,ha.ev hs,ha.ev hv,Instr.entryStore,Sem.run_bind,CB ho,Result.andThen_ok,asInt,asIntOf,Sem.run_pure,hidx,Do ho]
  unfold wpList
  rw [if_pos (AW rfl a ha)]
  left
  unfold Oper.wp
  rw [hrun,Oper.upon_skip]
  exact next _ _ ha.put_none (hW.turn hi rfl rfl (D7 _ _ _) ⟨_,Eh ho,rfl⟩)
end
end
section
abbrev T3:=Nat×Nat×Nat
section
variable {ts ts':List T3} {N:Nat}
theorem VY {t:T3} (h:Mo N t=true):t.1≠t.2.1/\t.2.1≠t.2.2/\t.2.2≠t.1:=by
  simp only [Mo,Bool.and_eq_true,Bool.not_eq_true',decide_eq_false_iff_not,decide_eq_true_eq] at h
  exact ⟨h.1.1.2,h.1.2,h.2⟩
theorem Sf (hn:DK N ts=true) {u:Nat} (hu:u<3*ts.length):(Bq ts u).1≠(Bq ts u).2:=by
  obtain ⟨hab,hbc,hca⟩:=VY (DD hn (show u/3<ts.length by omega))
  have h3:u%3=0\/u%3=1\/u%3=2:=by omega
  unfold Bq
  rcases h3 with h3|h3|h3<;>rw [h3]
  · exact hab
  · exact hbc
  · exact hca
theorem LF (hn:DK N ts=true) {u:Nat} (hu:u<3*ts.length):(Bq ts u).1<N/\(Bq ts u).2<N:=by
  have h:=DD hn (show u/3<ts.length by omega)
  exact ⟨LO h _,LO h _⟩
theorem Hx.uniq {s a b:Nat} {y z:Int} (h:Hx ts s a b y) (k:Hx ts s a b z):y=z:=by
  rcases h with ⟨h1,h2⟩|⟨u,h1,h2,h3,h4⟩<;>rcases k with ⟨k1,k2⟩|⟨v,k1,k2,k3,k4⟩
  · omega
  · exact absurd k3 (h2 v k1)
  · exact absurd h3 (k2 u h1)
  · rcases Nat.lt_trichotomy u v with h|h|h
    · exact absurd h3 (k4 u h)
    · rw [h2,k2,h]
    · exact absurd k3 (h4 v h)
theorem UQ (hn:DK N ts=true) (hN:N<=4611686018427387904) {e:E4}:e∈B0 ts↔Q9 ts (3*ts.length) (e.a,e.b) e:=by
  have hd:∀u,u<3*ts.length->(Bq ts u).1≠(Bq ts u).2:=λu hu=>Sf hn hu
  refine ⟨λh=>Tu hn hN hd h,λh=>?_⟩
  obtain ⟨i1,i2⟩:=Km hd _ (Nat.le_refl _)
  cases hg:BB (CM ts (3*ts.length)) (e.a,e.b) with
  | none =>
    obtain ⟨u,hu,hs⟩:=h.some
    have h3:=i2 _ hg h.lt u hu
    rcases hs with hs|hs
    · exact absurd hs h3.1
    · exact absurd hs h3.2
  | some e' =>
    have h3:=i1 _ _ hg
    have e1:e'=e:=by
      have a1:=h3.ea;have a2:=h3.eb;have a3:=h3.l.uniq h.l;have a4:=h3.r.uniq h.r
      cases e;cases e';simp only at a1 a2 a3 a4;subst a1 a2 a3 a4;rfl
    rw [e1] at hg
    unfold B0
    exact (EC _).mem_iff.2 (List.mem_map.2 ⟨_,MH hg,rfl⟩)
def Q4 (ts:List T3) (j a b:Nat):Prop:=∃r,r<3/\Bq ts (3*j+r)=(a,b)
def Wb (ts:List T3) (n a b:Nat) (z:Int):Prop:=(z = -1/\∀j,j<n->¬Q4 ts j a b)\/∃j,j<n/\z=(j:Int)/\Q4 ts j a b/\∀i,i<j->¬Q4 ts i a b
theorem TZ {n a b:Nat} {z:Int} (h:Hx ts (3*n) a b z):Wb ts n a b z:=by
  rcases h with ⟨h1,h2⟩|⟨u,h1,h2,h3,h4⟩
  · exact .inl ⟨h1,λj hj ⟨r,hr,k⟩=>h2 _ (by omega) k⟩
  · exact .inr ⟨u/3,by omega,h2,⟨u%3,by omega,by rw [show 3*(u/3)+u%3=u by omega];exact h3⟩,λi hi ⟨r,hr,k⟩=>h4 _ (by omega) k⟩
theorem Sl {n a b:Nat} {z:Int} (h:Wb ts n a b z):Hx ts (3*n) a b z:=by
  rcases h with ⟨h1,h2⟩|⟨j,h1,h2,⟨r,hr,h3⟩,h4⟩
  · exact .inl ⟨h1,λu hu k=>h2 (u/3) (by omega) ⟨u%3,by omega,by rw [show 3*(u/3)+u%3=u by omega];exact k⟩⟩
  · have key:∀m,m<=3->(∀q,q<m->Bq ts (3*j+q)≠(a,b))\/∃q,q<m/\Bq ts (3*j+q)=(a,b)/\∀p,p<q->Bq ts (3*j+p)≠(a,b):=by
      intro m
      induction m with
      | zero=>intro _;exact .inl λq hq=>absurd hq (Nat.not_lt_zero _)
      | succ m ih =>
        intro hm
        rcases ih (by omega) with h|⟨q,h5,h6,h7⟩
        · by_cases k:Bq ts (3*j+m)=(a,b)
          · exact .inr ⟨m,by omega,k,h⟩
          · refine .inl λq hq=>?_
            rcases Nat.lt_or_ge q m with h8|h8
            · exact h q h8
            · rw [show q=m by omega];exact k
        · exact .inr ⟨q,by omega,h6,h7⟩
    rcases key 3 (Nat.le_refl _) with k|⟨q,h5,h6,h7⟩
    · exact absurd h3 (k r hr)
    · refine .inr ⟨3*j+q,by omega,by rw [h2];congr 1;omega,h6,λv hv k=>?_⟩
      rcases Nat.lt_or_ge v (3*j) with h8|h8
      · exact h4 (v/3) (by omega) ⟨v%3,by omega,by rw [show 3*(v/3)+v%3=v by omega];exact k⟩
      · exact h7 (v-3*j) (by omega) (by rw [show 3*j+(v-3*j)=v by omega];exact k)
structure Ik (ts ts':List T3):Prop where
  len:ts.length=ts'.length
  way:∀j,j<ts.length->∀a b,Q4 ts j a b↔Q4 ts' j a b
theorem Ik.symm (h:Ik ts ts'):Ik ts' ts:=⟨h.len.symm,λj hj a b=>(h.way j (by rw [h.len];exact hj) a b).symm⟩
theorem Ik.fst (h:Ik ts ts') {a b:Nat} {z:Int} (k:Hx ts (3*ts.length) a b z):Hx ts' (3*ts'.length) a b z:=by
  rw [<-h.len]
  refine Sl ?_
  rcases TZ k with ⟨h1,h2⟩|⟨j,h1,h2,h3,h4⟩
  · exact .inl ⟨h1,λj hj k=>h2 j hj ((h.way j hj a b).2 k)⟩
  · exact .inr ⟨j,h1,h2,(h.way j h1 a b).1 h3,λi hi k=>h4 i hi ((h.way i (by omega) a b).2 k)⟩
theorem Ik.inv (h:Ik ts ts') {e:E4} (k:Q9 ts (3*ts.length) (e.a,e.b) e):Q9 ts' (3*ts'.length) (e.a,e.b) e:=by
  obtain ⟨u,hu,hs⟩:=k.some
  refine ⟨k.ea,k.eb,k.lt,h.fst k.l,h.fst k.r,?_⟩
  have key:∀a b,Bq ts u=(a,b)->∃v,v<3*ts'.length/\Bq ts' v=(a,b):=λa b hd=>by
    obtain ⟨r,hr,h3⟩:=(h.way (u/3) (by omega) a b).1 ⟨u%3,by omega,by rw [show 3*(u/3)+u%3=u by omega];exact hd⟩
    exact ⟨3*(u/3)+r,by rw [<-h.len];omega,h3⟩
  rcases hs with hs|hs
  · obtain ⟨v,h1,h2⟩:=key _ _ hs;exact ⟨v,h1,.inl h2⟩
  · obtain ⟨v,h1,h2⟩:=key _ _ hs;exact ⟨v,h1,.inr h2⟩
theorem UK {j r:Nat} (hr:r<3):Bq ts (3*j+r)=(GM (ts.getD j (0,0,0)) r,GM (ts.getD j (0,0,0)) ((r+1)%3)):=by
  unfold Bq
  rw [show (3*j+r)/3=j by omega,show (3*j+r)%3=r by omega]
def SQ (ts:List T3) (u:Nat):P2:=Dc (Bq ts u).1 (Bq ts u).2
def CT (ts:List T3):Nat->List (P2×Nat)
  | 0=>[]
  | s+1=>BW (CT ts s) (SQ ts s) ((BB (CT ts s) (SQ ts s)).getD 0+1)
theorem Gf (k:P2):∀s,(BB (CT ts s) k).getD 0=((List.range s).map (SQ ts)).count k
  | 0=>rfl
  | s+1=>by
    rw [CT,C8,List.range_succ,List.map_append,List.count_append,List.map_singleton,List.count_singleton]
    by_cases h:k=SQ ts s
    · subst h
      rw [if_pos rfl,Option.getD_some,Gf _ s];simp
    · rw [if_neg h,Gf k s,if_neg (by simpa using λe=>h e.symm)];rfl
theorem HU {t i:Nat} (hi:i<3):CT ts (3*t+i+1)=BW (CT ts (3*t+i)) (Dc (GM (ts.getD t (0,0,0)) i) (GM (ts.getD t (0,0,0)) ((i+1)%3))) ((BB (CT ts (3*t+i)) (Dc (GM (ts.getD t (0,0,0)) i) (GM (ts.getD t (0,0,0)) ((i+1)%3)))).getD 0+1):=by
  rw [CT]
  unfold SQ
  rw [UK hi]
theorem LJ (s:Nat) (k:P2):(BB (CT ts s) k).getD 0<=s:=by
  rw [Gf]
  exact Nat.le_trans List.count_le_length (by simp)
theorem Ef (hn:DK N ts=true) (hN:N<=4611686018427387904):∀s,s<=3*ts.length->Ja OD (CT ts s)
  | 0,_=>Ja.nil
  | s+1,hs=>by
    obtain ⟨h1,h2⟩:=LF hn (show s<3*ts.length by omega)
    exact (Ef hn hN s (by omega)).put (DP (Nat.lt_of_lt_of_le h1 hN) (Nat.lt_of_lt_of_le h2 hN))
def Vd (ts:List T3) (k:P2):Nat:=(BB (CT ts (3*ts.length)) k).getD 0
def Js (ts:List T3) (i:Nat):List T3:=(((B0 ts).take i).filter λe=>decide (Vd ts (e.a,e.b)=1)).map λe=>(e.a,e.b,0)
def Il (ts:List T3):List T3:=Js ts (B0 ts).length
theorem S5 {i:Nat} (hi:i<(B0 ts).length) (h:Vd ts (((B0 ts).getD i ⟨0,0,0,0⟩).a,((B0 ts).getD i ⟨0,0,0,0⟩).b)=1):Js ts (i+1)=Js ts i++[(((B0 ts).getD i ⟨0,0,0,0⟩).a,((B0 ts).getD i ⟨0,0,0,0⟩).b,0)]:=by
  rw [List.getD,List.getElem?_eq_getElem hi] at h ⊢
  unfold Js
  rw [List.take_add_one,List.getElem?_eq_getElem hi,List.filter_append,List.map_append]
  simp only [Option.toList_some,Option.getD_some] at h ⊢
  rw [List.filter_cons,if_pos (decide_eq_true h)];rfl
theorem UF {i:Nat} (hi:i<(B0 ts).length) (h:¬Vd ts (((B0 ts).getD i ⟨0,0,0,0⟩).a,((B0 ts).getD i ⟨0,0,0,0⟩).b)=1):Js ts (i+1)=Js ts i:=by
  rw [List.getD,List.getElem?_eq_getElem hi] at h
  unfold Js
  rw [List.take_add_one,List.getElem?_eq_getElem hi,List.filter_append,List.map_append]
  simp only [Option.toList_some,Option.getD_some] at h ⊢
  rw [List.filter_cons,if_neg (by simpa using h)];simp
theorem SZ (i:Nat):(Js ts i).length<=i:=by
  unfold Js
  rw [List.length_map]
  exact Nat.le_trans (List.length_filter_le _ _) (List.length_take_le _ _)
end
end
section
abbrev E0:E4:=⟨0,0,0,0⟩
def TT (N:Nat) (es:List E4):Nat->List (P2×Nat)
  | 0=>[]
  | i+1=>BW (TT N es i) (Dc (es.getD i E0).a (es.getD i E0).b) (N+i)
def V7 (N:Nat) (ss:List T3):Nat->List (P2×Nat)
  | 0=>[]
  | k+1=>if (ss.getD (ss.length-1-k) (0,0,0)).1<N/\(ss.getD (ss.length-1-k) (0,0,0)).2.1<N then BW (V7 N ss k) (Dc (ss.getD (ss.length-1-k) (0,0,0)).1 (ss.getD (ss.length-1-k) (0,0,0)).2.1) (ss.getD (ss.length-1-k) (0,0,0)).2.2 else V7 N ss k
def TE (N:Nat) (ss:List T3) (es:List E4):Nat->List (P2×Nat)
  | 0=>V7 N ss ss.length
  | i+1=>BW (BW (TE N ss es i) (Dc (es.getD i E0).a (N+i)) ((BB (TE N ss es i) (Dc (es.getD i E0).a (es.getD i E0).b)).getD 0)) (Dc (es.getD i E0).b (N+i)) ((BB (TE N ss es i) (Dc (es.getD i E0).a (es.getD i E0).b)).getD 0)
def XS (N:Nat) (ss:List T3) (es:List E4) (a b:Nat):Nat:=(BB (TE N ss es es.length) (Dc a b)).getD 0
def Yb (ps:List Pt) (e:E4):Pt:=VS (C2 ps e.a+C2 ps e.b) (1/2)
def XA (ps:List Pt) (es:List E4):Nat->List Pt
  | 0=>ps
  | i+1=>XA ps es i++[Yb ps (es.getD i E0)]
def Xz (ps:List Pt) (es:List E4):List Pt:=XA ps es es.length
def X3 (N:Nat) (ss:List T3) (es:List E4) (ts:List T3):List T3:=(Il ts).map λs=>(s.1,s.2.1,XS N ss es s.1 s.2.1)
section
variable {N M i:Nat} {es:List E4} {ts:List T3} {t:T3} {ss rs:List T3} {ps:List Pt}
theorem JM {α:Type} {l:List α} {d:α} {i:Nat} (h:i<l.length):l.take (i+1)=l.take i++[l.getD i d]:=by
  rw [List.take_add_one,List.getElem?_eq_getElem h,List.getD,List.getElem?_eq_getElem h];rfl
theorem PV (hn:DK N ts=true) (hN:N<=4611686018427387904) {e:E4} (he:e∈B0 ts):e.a<e.b/\e.b<N:=by
  have h:=(UQ hn hN).1 he
  obtain ⟨u,hu,hs⟩:=h.some
  have h2:=LF hn hu
  have hlt:=h.lt
  simp only at hlt hs
  rcases hs with hs|hs<;>rw [hs] at h2<;>simp only at h2<;>omega
theorem Sw (hn:DK N ts=true) (hN:N<=4611686018427387904):∀e∈B0 ts,e.a<N/\e.b<N:=λe he=>by
  have:=PV hn hN he;omega
end
end
section
set_option maxRecDepth 100000
theorem Sq (p:Option Addr) (n cp:Nat) (h:n<=cp) (w:World)  :Calls Tryz.prog 40 #[(Value.slice p n cp)] w (Al w (Value.slice p n n)):=by
 refine Aa (args:=[(Value.slice p n cp)]) Tryz.func40 rfl rfl (AV rfl) (AE.subF (sL [0] rfl) (q4 (asg' rfl (AD.nil (q2 ?_)))))
 refine AQ rfl (AQ rfl (AK (v:=(vN n)) (AF rfl Tryz.underlying28) rfl (AQ rfl (AK (v:=(vN n)) (AF rfl Tryz.underlying28) rfl (AK (v:=(Value.slice p n n)) (Dq (m:=n) rfl rfl rfl Tryz.underlying28 Tryz.sizeOf51 (by omega)) rfl ?_)))))
 exact asg' rfl (AD.nil (AC.subF (sL [2] rfl) (AC.then_ (AE.ret (AJ rfl (AS (v:=(Value.slice p n n)) rfl) (λw hw=>⟨rfl,hw.out⟩))))))
theorem J9 (ts:List Pt) (x:RX (rowsL Af ts) ts.length) (hl:ts.length<=1000000000) (w:World) {S:Nat->Prop} (hx:Ro S w x):Calls Tryz.prog 41 #[(Value.slice x.p ts.length x.c)] w (Gj Vh (UZ (T:=51) (z:=10) (cs:=rowsL Af ts) (n:=ts.length)) S w):=by
 have lx:=Cx (W:=w) hx
 refine Aj (args:=[(Value.slice x.p ts.length x.c)]) (L:=[AG x.p (rowsL Af ts)]) Tryz.func41 rfl rfl (AV rfl) (Ds hx Ax) (AE.subF (sL [0] rfl) (q4 (asg' rfl (AD.nilRow 51 10 (AD.nil ?_)))))
 refine q1 (q4 (AQ rfl (AK (v:=(Value.bool x.p.isNone)) (Gn rfl rfl Tryz.underlying28) rfl (AD.nil (AC.subF (sL [0,2,4] rfl) ?_)))))
 refine AC.then_ ?_
 refine AE.cond rfl (λhc0=>?_) (λhc0=>?_)
 ·skip
  have hts:ts=[]:=List.eq_nil_of_length_eq_zero (x.ok.nil (Option.isNone_iff_eq_none.1 hc0)).1
  refine q4 (asg' rfl (AD.nilRow 51 10 (AD.nil (AC.then_ (AE.ret ?_)))))
  exact AC.then_ret (AJ rfl (AS (v:=(Value.slice none 0 0)) rfl) (λw hw=>(by subst hts;exact Lu hw (OX.mk none 0 OwnOk.none) (by exact (sk (sl (sl sr)))) (Gr.own rfl Gr.nil) (by show Value.slice none 0 0=_;rfl))))
 ·skip
  refine AE.skip (q2 (AD.openV (V:=λb1=>(Value.slice (some ⟨b1,0,none⟩) 0 0)) (T:=51) (cs:=[]) (AW rfl) (GK Tryz.underlying28 Tryz.sizeOf51) rfl (AV rfl) λb1=>AD.asRow0 (z:=10) 0 rfl (by omega) λho_b1=>AQ rfl (AD.appendE0 WD rfl ho_b1 rfl (NT (k:=2) rfl x.ok) (Ab Av _) (Dn UE _) (KM (by omega)) (by omega) rfl λp_1 c_1 ho_1=>?_)))
  exact asg' rfl (AD.nil (AC.subF (sL [0,2] rfl) (AC.then_ (AE.ret (AJ rfl (AS (v:=(Value.slice p_1 ts.length c_1)) rfl) (λw hw=>(Lu hw (OX.mk p_1 c_1 ho_1) (sk (sl (sl sr))) (Gr.own rfl Gr.nil) rfl)))))))
theorem QW (p:Option Addr) (n cp:Nat) (h:n<=cp) (w:World)  :Calls Tryz.prog 42 #[(Value.slice p n cp)] w (Al w (Value.slice p n n)):=by
 refine Aa (args:=[(Value.slice p n cp)]) Tryz.func42 rfl rfl (AV rfl) (AE.subF (sL [0] rfl) (q4 (asg' rfl (AD.nil (q2 ?_)))))
 refine AQ rfl (AQ rfl (AK (v:=(vN n)) (AF rfl Tryz.underlying23) rfl (AQ rfl (AK (v:=(vN n)) (AF rfl Tryz.underlying23) rfl (AK (v:=(Value.slice p n n)) (Dq (m:=n) rfl rfl rfl Tryz.underlying23 Tryz.sizeOf53 (by omega)) rfl ?_)))))
 exact asg' rfl (AD.nil (AC.subF (sL [2] rfl) (AC.then_ (AE.ret (AJ rfl (AS (v:=(Value.slice p n n)) rfl) (λw hw=>⟨rfl,hw.out⟩))))))
theorem MI (p:Option Addr) (n cp:Nat) (h:n<=cp) (w:World)  :Calls Tryz.prog 44 #[(Value.slice p n cp)] w (Al w (Value.slice p n n)):=by
 refine Aa (args:=[(Value.slice p n cp)]) Tryz.func44 rfl rfl (AV rfl) (AE.subF (sL [0] rfl) (q4 (asg' rfl (AD.nil (q2 ?_)))))
 refine AQ rfl (AQ rfl (AK (v:=(vN n)) (AF rfl Tryz.underlying24) rfl (AQ rfl (AK (v:=(vN n)) (AF rfl Tryz.underlying24) rfl (AK (v:=(Value.slice p n n)) (Dq (m:=n) rfl rfl rfl Tryz.underlying24 Tryz.sizeOf55 (by omega)) rfl ?_)))))
 exact asg' rfl (AD.nil (AC.subF (sL [2] rfl) (AC.then_ (AE.ret (AJ rfl (AS (v:=(Value.slice p n n)) rfl) (λw hw=>⟨rfl,hw.out⟩))))))
end
end Go.Proofs.YtpgncndhhhllfaaGreatDoor
