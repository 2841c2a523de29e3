import Derived.WideKeyEntry
import Derived.Test.YtfbomiejpbchdaaGreatDoorPart06
import Derived.Test.YtfbomiejpbchdaaGreatDoorPart15
import Derived.Test.YtfbomiejpbchdaaGreatDoorPart20
import Derived.Test.YtfbomiejpbchdaaGreatDoorPart22
import Derived.Test.YtfbomiejpbchdaaGreatDoorPart27
import Derived.Test.YtfbomiejpbchdaaGreatDoorPart28
import Derived.Test.YtfbomiejpbchdaaGreatDoorPart29
import Derived.Test.YtfbomiejpbchdaaGreatDoorPart30
namespace Go.Proofs.YtfbomiejpbchdaaGreatDoor
open Go Go.RowKit Go.Proofs.Tryz
set_option linter.unusedVariables false
set_option linter.unusedSimpArgs false
section
set_option maxRecDepth 100000
theorem Ll {ps:List Pt} {ts ss:List (Nat×Nat×Nat)} (x:MX ps ts ss) (hl:ts.length<=1000000000) (hN:ps.length<=4611686018427387904) (hnb:By ps.length ts=true) (w:World) {S:Nat->Prop} (hx:Ro S w x):Calls prog 16 #[(aG (C5 x))] w (B_ (RX (rowsL B9 (BC ts)) (BC ts).length) S w):=by
 have lx:=Er (W:=w) hx
 refine BI (args:=[(aG (C5 x))]) (L:=[Ai x.a.p (rowsL Aj ps),Ai x.b.p (rowsL Av ts),Ai x.c.p (rowsL Av ss)]) func16 O O (Ab O) (En hx BW) (AF.subF (sL [0] O) (q4 (Bq (cs:=C5 x) O λb1=>AK O (q6 (sL [1,2] O) ?_))))
 refine q4 (BD 0 EO O (ET (args:=[(aG (C5 x))]) (v:=(Value.bool true)) call48 (λw hw=>(by have h9:=N5 x Z w (ER hw 1 O lx);rw [hnb] at h9;exact h9)) O (AG (Ba (c:=false) O O) O (AE.nil (AD.subF (sL [1,2,5] O) ?_)))))
 refine AD.then_ (AF.cond_false O (AF.skip (q2 (AG (v:=(pP b1 1)) (AA O underlying30 O sizeOf23 O) O (BO 0 (Value.slice x.b.p ts.length x.b.c) Dn O ?_)))))
 exact cX (S:=S) (cs:=rowsL B9 (BC ts)) (k:=(BC ts).length) (args:=[(Value.slice x.b.p ts.length x.b.c)]) call49 (λw hw=>Lf ts x.b ps.length hnb hN hl w (SM (ER hw 1 O lx))) O O O λo lo=>AK O (AE.nil (AD.subF (sL [1,2] O) (AD.then_ (AF.ret (AP O (Ad (v:=(Value.slice o.p ((BC ts).length) o.c)) O) (λw hw=>WD hw (ER hw 0 O lo) O))))))
end
section
theorem UM {a b:Nat} (ha:a<4611686018427387904) (hb:b<4611686018427387904):N9 (a,b):=⟨ha,hb⟩
def Cl {α β:Type} [DecidableEq α]:List (α×β)->α->Nat
  | [],_=>0
  | (k,v)::r,x=>if x=k then 0 else Cl r x+1
section
variable {α β:Type} {enc:α->Value} {eV:β->Value} {ok:α->Prop} {P:Program} {kt:TypeId} {n:Nat} {F:List (Nat×Value)} {w0:BL} {L:List As} {d:Nat} {mp kp vp sp:Operand} {t:TypeId} {pp:String} {af:Array Edge} {g:Option (Nat×Bool)} {tx et:TypeId} {b:Nat} {ops:Array Oper} {rest:List Oper} {Q:Exit->Act->World->Prop}
def NZ {α β:Type} [DecidableEq α] (b:Nat) (enc:α->Value) (eV:β->Value) (kvs:List (α×β)) (x:α) (v:β):As:=⟨some b,λo=>o=.map (entsM enc eV kvs 0).toArray kvs.length\/o=.map (entsM enc eV (Be kvs x v) 0).toArray (Be kvs x v).length,false⟩
variable [DecidableEq α]
theorem KG:∀{kvs:List (α×β)} {x:α} {v:β},BG kvs x=some v->Be kvs x v=kvs
  | (k,u)::r,x,v,h=>by
    unfold BG at h
    unfold Be
    split at h
    · rename_i e;injection h with h;rw [if_pos e,h]
    · rename_i e;rw [if_neg e,KG h]
theorem G9:∀{kvs:List (α×β)} {x:α} {v:β},(Be kvs x v)[Cl kvs x]?=some (x,v)
  | [],_,_=>rfl
  | (k,u)::r,x,v=>by
    unfold Be Cl
    split
    · rename_i e;rw [List.getElem?_cons_zero,e]
    · rw [List.getElem?_cons_succ,G9]
theorem Lx {x:α} {u v:β}:∀{kvs:List (α×β)},(Be kvs x u).set (Cl kvs x) (x,v)=Be kvs x v
  | []=>rfl
  | (k,w)::r=>by
    by_cases e:x=k
    · simp [Be,Cl,e]
    · simp [Be,Cl,e,Lx]
theorem L5:∀{kvs:List (α×β)} {j:Nat} {x:α} {v:β},kvs.Pairwise (λp q=>p.1≠q.1)->kvs[j]?=some (x,v)->Cl kvs x=j
  | (k,u)::r,0,x,v,_,h=>by
    simp only [List.getElem?_cons_zero,Option.some.injEq,Prod.mk.injEq] at h
    rw [Cl,if_pos h.1.symm]
  | (k,u)::r,j+1,x,v,hp,h=>by
    obtain ⟨h1,h2⟩:=List.pairwise_cons.1 hp
    rw [List.getElem?_cons_succ] at h
    rw [Cl,if_neg (λe=>h1 (x,v) (List.mem_of_getElem? h) e.symm),L5 h2 h]
theorem In:∀{kvs:List (α×β)} {x:α},(∀p∈kvs,p.1≠x)->Cl kvs x=kvs.length
  | [],_,_=>rfl
  | (k,v)::r,x,h=>by
    rw [Cl,if_neg (λe=>h (k,v) List.mem_cons_self e.symm),In λp hp=>h p (List.mem_cons_of_mem _ hp)];rfl
theorem Sx {i:Nat} {kvs:List (α×β)} (x:α) (v:β) (hi:L[i]?=some (DD b enc eV kvs)):Wk (L.set i (NZ b enc eV kvs x v)) L:=λw0 w hw=>by
  exact hw.freeze (i:=i) (y:=NZ b enc eV kvs x v) hi O (λo h=>.inl h) (λe=>by cases e)
theorem QI {i:Nat} {kvs:List (α×β)} (x:α) (v:β) (hi:L[i]?=some (DD b enc eV (Be kvs x v))):Wk (L.set i (NZ b enc eV kvs x v)) L:=λw0 w hw=>by
  exact hw.freeze (i:=i) (y:=NZ b enc eV kvs x v) hi O (λo h=>.inr h) (λe=>by cases e)
theorem Vo (i:Nat) {kvs:List (α×β)} {x:α} {v:β} {LA:List As} (hi:L[i]?=some (DD b enc eV kvs)) (hs:NM L i (NZ b enc eV kvs x v)=some LA):Wk LA L:=Gu hs▸Sx x v hi
theorem Tz (i:Nat) {kvs:List (α×β)} {x:α} {v:β} {LA:List As} (hi:L[i]?=some (DD b enc eV (Be kvs x v))) (hs:NM L i (NZ b enc eV kvs x v)=some LA):Wk LA L:=Gu hs▸QI x v hi
theorem GK (K:NB P kt enc ok) (i:Nat) {kvs:List (α×β)} {x:α} {z0 v:β} {dd:Option Tmp} (hx:evF F mp=some (.map (some b))) (hk:evF F kp=some (enc x)) (ht:P.underlying tx=some (.map kt et)) (hz:∀w,(zeroValue et).run P w=.ok (eV z0) w) (hi:L[i]?=some (NZ b enc eV kvs x v)) (hm:Jm ok kvs) (hok:ok x) (hv:v=(BG kvs x).getD z0) :
    Ex P n F w0 L ⟨dd,.lookup tx mp kp false,t,pp,af,g⟩ (eV v):=λA w ha hw=>by
  obtain ⟨_,o,ho,hp⟩:=hw.2.1 _ (List.mem_of_getElem? hi) b rfl
  obtain ⟨lx,hlx⟩:=K.key x hok
  have hc:=λem=>K.law.check w em hlx
  have key:∀kvs':List (α×β),Jm ok kvs'->(BG kvs' x).getD z0=v->w.heap[b]?=some (.map (entsM enc eV kvs' 0).toArray kvs'.length)->(execOp A.eval ⟨dd,.lookup tx mp kp false,t,pp,af,g⟩).run P w=.ok (.value (eV v)) w:=λkvs' hm' hg ho=>by
    rcases Fz (eV:=eV) K hm' hok w with ⟨h1,_,h2⟩|⟨j,u,_,h1,h2⟩
    · rw [h1] at hg
      simp only [execOp,ha.ev hx,ha.ev hk,Instr.lookup,Sem.run_bind,run_underlying ht,CF ho,Result.andThen_ok,Sem.run_pure,hc,List.toList_toArray,h2,hz]
      rw [<-hg];rfl
    · rw [h1] at hg
      simp only [execOp,ha.ev hx,ha.ev hk,Instr.lookup,Sem.run_bind,run_underlying ht,CF ho,Result.andThen_ok,Sem.run_pure,hc,List.toList_toArray,h2]
      rw [<-hg];rfl
  rcases hp with hp|hp
  · exact key kvs hm hv.symm (by rw [ho,hp])
  · exact key (Be kvs x v) (hm.put hok) (by rw [C_,if_pos O];rfl) (by rw [ho,hp])
theorem AE.mapEntry (K:NB P kt enc ok) (i:Nat) {kvs:List (α×β)} {x:α} {z0 v:β} (hx:evF F mp=some (.map (some b))) (hk:evF F kp=some (enc x)) (ht:P.underlying tx=some (.map kt et)) (hz:∀w,(zeroValue et).run P w=.ok (eV z0) w) (hi:L[i]?=some (DD b enc eV kvs)) (hm:Jm ok kvs) (hok:ok x) (hv:v=(BG kvs x).getD z0) (hd:Nat.ble (d+1) n=true)
    (next:AE P ops rest Q n ((d,.tuple #[eV v,vN (Cl kvs x)])::F) w0 (L.set i (DD b enc eV (Be kvs x v)))):AE P ops (⟨some d,.mapEntry tx mp kp,t,pp,af,none⟩::rest) Q n F w0 L:=λa w ha hW=>by
  obtain ⟨_,o,ho,hp⟩:=hW.2.1 _ (List.mem_of_getElem? hi) b rfl
  have ho:w.heap[b]?=some (.map (entsM enc eV kvs 0).toArray kvs.length):=by rw [ho,hp]
  obtain ⟨lx,hlx⟩:=K.key x hok
  have hc:=λem=>K.law.check w em hlx
  have hst:=K.law.stays w hlx
  have hrun:(execOp a.eval ⟨some d,.mapEntry tx mp kp,t,pp,af,none⟩).run P w=.ok (.value (.tuple #[eV v,vN (Cl kvs x)])) (Go.ChangeMaps.setBlock w b (.map (entsM enc eV (Be kvs x v) 0).toArray (Be kvs x v).length)):=by
    rcases Fz (eV:=eV) K hm hok w with ⟨h0,h1,h2⟩|⟨j,u,hj,h1,h2⟩
    · rw [h0] at hv
      simp only [Option.getD_none] at hv
      subst hv
      rw [HM h1,In h1,E8,List.length_append]
      simp only [execOp,ha.ev hx,ha.ev hk,Instr.mapEntry,Sem.run_bind,run_underlying ht,CF ho,Result.andThen_ok,hc,List.toList_toArray,h2,hz,Di ho,Sem.run_pure,List.push_toArray,Nat.zero_add,List.length_singleton]
      rfl
    · rw [h1] at hv
      simp only [Option.getD_some] at hv
      subst hv
      rw [KG h1,L5 hm.once hj]
      have e1:(entsM enc eV kvs 0)[j]?=some ⟨enc x,eV v,0+j⟩:=by rw [Ck,hj];rfl
      have e2:=FY (enc:=enc) (eV:=eV) (y:=v) hj
      have e3:kvs.set j (x,v)=kvs:=by
        apply List.ext_getElem?
        intro q
        rw [List.getElem?_set]
        split
        · rename_i e;subst e;split
          · exact hj.symm
          · rename_i h9;rw [List.getElem?_eq_none Z]
        · rfl
      rw [e3] at e2
      have e4:(entsM enc eV kvs 0).toArray.modify j (λe=>{ e with key:=enc x })=(entsM enc eV kvs 0).toArray:=by
        apply Array.ext_getElem?
        intro q
        rw [Array.getElem?_modify]
        simp only [List.getElem?_toArray]
        split
        · rename_i e;subst e;rw [e1];rfl
        · rfl
      simp only [execOp,ha.ev hx,ha.ev hk,Instr.mapEntry,Sem.run_bind,run_underlying ht,CF ho,Result.andThen_ok,hc,List.toList_toArray,List.getElem?_toArray,h2,e1,hst,e4,Di ho,Sem.run_pure,Option.map_some,Option.getD_some]
      simp [goInt,e1,hst,e4,Di ho,Result.andThen]
  unfold wpList
  rw [if_pos (AQ rfl a ha)]
  left
  unfold Oper.wp
  rw [hrun,Oper.upon_value]
  exact next _ _ (ha.put (B3 hd)) (hW.turn hi O O (D6 _ _ _) ⟨_,Ec ho,rfl⟩)
theorem AE.entryStore (i:Nat) {kvs:List (α×β)} {x:α} {u y:β} (hx:evF F mp=some (.map (some b))) (hs:evF F sp=some (vN (Cl kvs x))) (hv:evF F vp=some (eV y)) (hi:L[i]?=some (DD b enc eV (Be kvs x u)))
    (next:AE P ops rest Q n F w0 (L.set i (DD b enc eV (Be kvs x y)))):AE P ops (⟨none,.entryStore tx mp sp vp,t,pp,af,none⟩::rest) Q n F w0 L:=λa w ha hW=>by
  obtain ⟨_,o,ho,hp⟩:=hW.2.1 _ (List.mem_of_getElem? hi) b rfl
  have ho:w.heap[b]?=some (.map (entsM enc eV (Be kvs x u) 0).toArray (Be kvs x u).length):=by rw [ho,hp]
  have hf:=G9 (kvs:=kvs) (x:=x) (v:=u)
  have hlt:Cl kvs x<(Be kvs x u).length:=(List.getElem?_eq_some_iff.1 hf).1
  have e0:(entsM enc eV (Be kvs x u) 0)[Cl kvs x]?=some ⟨enc x,eV u,Cl kvs x⟩:=by rw [Ck,hf];simp
  have hnd:((entsM enc eV (Be kvs x u) 0).map (·.born)).Nodup:=by
    have e1:∀(l:List (α×β)) (s:Nat),(entsM enc eV l s).map (·.born)=List.range' s l.length:=by
      intro l
      induction l with
      | nil=>intro s;rfl
      | cons p r ih=>intro s;rw [entsM,List.map_cons,ih,List.length_cons,List.range'_succ]
    rw [e1];exact List.nodup_range'
  have hidx:(entsM enc eV (Be kvs x u) 0).toArray.findIdx? (λe=>((e.born:Nat):Int) == ((Cl kvs x:Nat):Int))=some (Cl kvs x):=by
    rw [WideElems.findIdx_arr]
    exact WideElems.findIdx_born hnd e0
  have hset:(Be kvs x u).set (Cl kvs x) (x,y)=Be kvs x y:=Lx
  have hmod:=FY (enc:=enc) (eV:=eV) (y:=y) hf
  have hmod2:(entsM enc eV (Be kvs x u) 0).toArray.modify (Cl kvs x) (λe=>{ e with val:=eV y })=(entsM enc eV (Be kvs x y) 0).toArray:=by
    rw [<-hset,<-hmod]
    apply Array.ext_getElem?
    intro q
    rw [Array.getElem?_modify,Array.getElem?_modify]
    simp only [List.getElem?_toArray]
    split
    · rename_i e;subst e;rw [e0];rfl
    · rfl
  have hl2:(Be kvs x y).length=(Be kvs x u).length:=by rw [<-hset,List.length_set]
  have hrun:(execOp a.eval ⟨none,.entryStore tx mp sp vp,t,pp,af,none⟩).run P w=.ok .skip (Go.ChangeMaps.setBlock w b (.map (entsM enc eV (Be kvs x y) 0).toArray (Be kvs x y).length)):=by
    rw [<-hmod2,hl2]
    simp only [execOp,ha.ev hx,ha.ev hs,ha.ev hv,Instr.entryStore,Sem.run_bind,CF ho,Result.andThen_ok,asInt,asIntOf,Sem.run_pure,hidx,Di ho]
  unfold wpList
  rw [if_pos (AQ rfl a ha)]
  left
  unfold Oper.wp
  rw [hrun,Oper.upon_skip]
  exact next _ _ ha.put_none (hW.turn hi O O (D6 _ _ _) ⟨_,Ec ho,rfl⟩)
end
end
section
set_option maxRecDepth 100000
theorem PU (ts:List Pt) (x:RX (rowsL Aj ts) ts.length) (hl:ts.length<=1000000000) (w:World) {S:Nat->Prop} (hx:Ro S w x):Calls prog 69 #[(Value.slice x.p ts.length x.c)] w (LQ WX (Va (T:=63) (z:=10) (cs:=rowsL Aj ts) (n:=ts.length)) S w):=by
 have lx:=Er (W:=w) hx
 refine BI (args:=[(Value.slice x.p ts.length x.c)]) (L:=[Ai x.p (rowsL Aj ts)]) func69 O O (Ab O) (En hx BW) (AF.subF (sL [0] O) (q4 (AK O (AE.nilRow 63 10 (AE.nil ?_)))))
 refine q1 (q4 (AO O (AG (v:=(Value.bool x.p.isNone)) (Mb O O underlying28) O (AE.nil (AD.subF (sL [0,2,4] O) ?_)))))
 refine AD.then_ ?_
 refine AF.cond O (λhc0=>?_) (λhc0=>?_)
 ·skip
  have hts:ts=[]:=List.eq_nil_of_length_eq_zero (x.ok.nil (Option.isNone_iff_eq_none.1 hc0)).1
  refine q4 (AK O (AE.nilRow 63 10 (AE.nil (AD.then_ (AF.ret ?_)))))
  exact AD.then_ret (AP O (Ad (v:=(Value.slice none 0 0)) O) (λw hw=>(by subst hts;exact Tt hw (OX.mk none 0 OwnOk.none) (by exact (sk (sl (sl sr)))) (Kn.own O Kn.nil) (by show Value.slice none 0 0=_;rfl))))
 ·skip
  refine AF.skip (q2 (AE.openV (V:=λb1=>(Value.slice (some ⟨b1,0,none⟩) 0 0)) (T:=63) (cs:=[]) (AQ O) (Og underlying28 sizeOf63) O (Ab O) λb1=>AE.asRow0 (z:=10) 0 O Z λho_b1=>AO O (AE.appendE0 U0 O ho_b1 O (Vq (k:=2) O x.ok) (An BE _) (J1 S9 _) (Ka Z) Z O λp_1 c_1 ho_1=>?_)))
  exact AK O (AE.nil (AD.subF (sL [0,2] O) (AD.then_ (AF.ret (AP O (Ad (v:=(Value.slice p_1 ts.length c_1)) O) (λw hw=>(Tt hw (OX.mk p_1 c_1 ho_1) (sk (sl (sl sr))) (Kn.own O Kn.nil) O)))))))
theorem Qo (p:Option Addr) (n cp:Nat) (h:n<=cp) (w:World)  :Calls prog 38 #[(Value.slice p n cp)] w (Am w (Value.slice p n n)):=by
 refine Ac (args:=[(Value.slice p n cp)]) func38 O O (Ab O) (AF.subF (sL [0] O) (q4 (AK O (AE.nil (q2 ?_)))))
 refine AO O (AO O (AG (v:=(vN n)) (AH O underlying24) O (AO O (AG (v:=(vN n)) (AH O underlying24) O (AG (v:=(Value.slice p n n)) (GF (m:=n) O O O underlying24 sizeOf43 Z) O ?_)))))
 exact AK O (AE.nil (AD.subF (sL [2] O) (AD.then_ (AF.ret (AP O (Ad (v:=(Value.slice p n n)) O) (λw hw=>⟨rfl,hw.out⟩))))))
end
section
set_option maxRecDepth 100000
theorem Ul (t:T3) (p:Nat) (y:RX (Av t) 3) (w:World) {S:Nat->Prop} (hy:Ro S w y):Calls prog 113 #[(Value.slice y.p 3 y.c),(vN p)] w (Am w (vI (RK t p))):=by
 have ly:=Er (W:=w) hy
 refine BI (args:=[(Value.slice y.p 3 y.c),(vN p)]) (L:=[Ai y.p (Av t)]) func113 O O (Ab O) (En hy BW) (AF.subF (sL [0,1] O) (q4 (AK O (AE.nil (q1 ?_)))))
 refine q4 (AO O (AG (v:=(vI 3)) (AH O underlying71) O (AO O (AE.nil (AD.subF (sL [0,1,4,7,8] O) ?_)))))
 refine AD.then_ (AF.block (AF.unroll 4 (E3.step (q4 (AG (Af (c:=true) O O (by decide)) O ?_)))))
 refine AE.nil (q1 (AF.cond_true O (AF.skip (q1 (AF.block ?_)))))
 refine q4 (AO O (AK O (q3 (sL [0,1,4,7,8,5] O) (AO O (AO O ?_)))))
 refine AO O (AG (v:=(pP (pB y.p) (pO y.p+0*1))) (AN (j:=0) O O y.ok underlying71 sizeOf3 O Z) O (AG (Aa (v:=(vN t.1)) (i:=0) O O (y.ok.ne Z) Bs O) O (AG (BU (c:=(decide (p=t.1))) O O (MY (a:=p) (b:=t.1))) O (AE.nil (AD.subF (sL [0,1,4,7,8,5,16] O) ?_)))))
 refine AD.then_ ?_
 refine AF.cond O (λhc1=>?_) (λhc1=>?_)
 ·replace hc1:=of_decide_eq_true hc1
  have hr:RK t p=0:=by unfold RK;rw [if_pos hc1]
  refine q4 (AO O (AK O (AE.nil (AD.subF (sL [0,1,4,7,8,5] O) (AD.then_ ?_)))))
  exact AF.ret (AD.in_ret (AD.then_ret (AD.then_ret (AD.in_ret (AD.then_ret (AP O (Ad (v:=(vI 0)) O) (λw hw=>⟨by rw [hr]<;>rfl,hw.out⟩)))))))
 ·replace hc1:=of_decide_eq_false hc1
  have k0:=hc1
  refine AF.skip (AD.in_normal (AD.then_ (AF.region (AG (AX (c:=(1:Int)) O O (by decide)) O (AO O ?_)))))
  refine AE.nil (AD.subF (sL [0,1,4,7,8,5] O) (AD.again (E3.step (q4 (AG (Af (c:=true) O O (by decide)) O ?_)))))
  refine AE.nil (q1 (AF.cond_true O (AF.skip (q1 (AF.block ?_)))))
  refine q4 (AO O (AK O (q3 (sL [0,1,4,7,8,5] O) (AO O (AO O ?_)))))
  refine AO O (AG (v:=(pP (pB y.p) (pO y.p+1*1))) (AN (j:=1) O O y.ok underlying71 sizeOf3 O Z) O (AG (Aa (v:=(vN t.2.1)) (i:=0) O O (y.ok.ne Z) Bs O) O (AG (BU (c:=(decide (p=t.2.1))) O O (MY (a:=p) (b:=t.2.1))) O (AE.nil (AD.subF (sL [0,1,4,7,8,5,16] O) ?_)))))
  refine AD.then_ ?_
  refine AF.cond O (λhc1=>?_) (λhc1=>?_)
  ·replace hc1:=of_decide_eq_true hc1
   have hr:RK t p=1:=by unfold RK;rw [if_neg k0,if_pos hc1]
   refine q4 (AO O (AK O (AE.nil (AD.subF (sL [0,1,4,7,8,5] O) (AD.then_ ?_)))))
   exact AF.ret (AD.in_ret (AD.then_ret (AD.then_ret (AD.in_ret (AD.then_ret (AP O (Ad (v:=(vI 1)) O) (λw hw=>⟨by rw [hr]<;>rfl,hw.out⟩)))))))
  ·replace hc1:=of_decide_eq_false hc1
   have k1:=hc1
   refine AF.skip (AD.in_normal (AD.then_ (AF.region (AG (AX (c:=(2:Int)) O O (by decide)) O (AO O ?_)))))
   refine AE.nil (AD.subF (sL [0,1,4,7,8,5] O) (AD.again (E3.step (q4 (AG (Af (c:=true) O O (by decide)) O ?_)))))
   refine AE.nil (q1 (AF.cond_true O (AF.skip (q1 (AF.block ?_)))))
   refine q4 (AO O (AK O (q3 (sL [0,1,4,7,8,5] O) (AO O (AO O ?_)))))
   refine AO O (AG (v:=(pP (pB y.p) (pO y.p+2*1))) (AN (j:=2) O O y.ok underlying71 sizeOf3 O Z) O (AG (Aa (v:=(vN t.2.2)) (i:=0) O O (y.ok.ne Z) Bs O) O (AG (BU (c:=(decide (p=t.2.2))) O O (MY (a:=p) (b:=t.2.2))) O (AE.nil (AD.subF (sL [0,1,4,7,8,5,16] O) ?_)))))
   refine AD.then_ ?_
   refine AF.cond O (λhc1=>?_) (λhc1=>?_)
   ·replace hc1:=of_decide_eq_true hc1
    have hr:RK t p=2:=by unfold RK;rw [if_neg k0,if_neg k1,if_pos hc1]
    refine q4 (AO O (AK O (AE.nil (AD.subF (sL [0,1,4,7,8,5] O) (AD.then_ ?_)))))
    exact AF.ret (AD.in_ret (AD.then_ret (AD.then_ret (AD.in_ret (AD.then_ret (AP O (Ad (v:=(vI 2)) O) (λw hw=>⟨by rw [hr]<;>rfl,hw.out⟩)))))))
   ·replace hc1:=of_decide_eq_false hc1
    have k2:=hc1
    have hr:RK t p = -1:=by unfold RK;rw [if_neg k0,if_neg k1,if_neg k2]
    refine AF.skip (AD.in_normal (AD.then_ (AF.region (AG (AX (c:=(3:Int)) O O (by decide)) O (AO O ?_)))))
    refine AE.nil (AD.subF (sL [0,1,4,7,8,5] O) (AD.again (E3.step (q4 (AG (Af (c:=false) O O (by decide)) O ?_)))))
    refine AE.nil (q1 (AF.cond_false O (AF.exit (AD.then_exit (AD.then_exit ?_)))))
    refine AD.in_exit (q2 (AK O (AE.nil (AD.subF (sL [0,1,4,7,8,5] O) (AD.then_ ?_)))))
    exact AF.ret (AP O (Ad (v:=(vI (-1:Int))) O) (λw hw=>⟨by rw [hr]<;>rfl,hw.out⟩))
theorem Pl (t:T3) (p:Nat) (y:RX (Av t) 3) (w:World) {S:Nat->Prop} (hy:Ro S w y):Calls prog 61 #[(Value.slice y.p 3 y.c),(vN p)] w (Am w (Value.bool (El t p))):=by
 have ly:=Er (W:=w) hy
 refine BI (args:=[(Value.slice y.p 3 y.c),(vN p)]) (L:=[Ai y.p (Av t)]) func61 O O (Ab O) (En hy BW) (AF.subF (sL [0,1] O) (q4 (AK O (AE.nil (q2 ?_)))))
 refine AO O (AO O (ET call113 (λw hw=>Ul t p y w (ER hw 0 O ly)) O (AG (CQ (c:=(El t p)) O O (SF t p)) O (AK O (AE.nil ?_)))))
 exact AD.subF (sL [4] O) (AD.then_ (AF.ret (AP O (Ad (v:=(Value.bool (El t p))) O) (λw hw=>⟨rfl,hw.out⟩))))
theorem Dq (x0:Pt) (x1:Pt) (x2:Pt):Instr.fill (λi=>some (i*10,10)) (Ge ((⟨0,0⟩,⟨0,0⟩,⟨0,0⟩):Q3)).toArray [(0,.agg (Aj x0).toArray),(1,.agg (Aj x1).toArray),(2,.agg (Aj x2).toArray)]=some (Aj x0++Aj x1++Aj x2).toArray:=by kernel_rfl
theorem I7 {ps:List Pt} {ts ss:List T3} (x:MX ps ts ss) (t:Nat) (ht:t<ts.length) (htl:ts.length<=1000000) (hp:ps.length<=1000000) (hk:L9 ps.length (ts.getD t (0,0,0))=true) (w:World) {S:Nat->Prop} (hx:Ro S w x):Calls prog 123 #[(aG (C5 x)),(vN t)] w (Am w (aG (Ge (Bi ps (ts.getD t (0,0,0)))))):=by
 obtain ⟨k1,k2,k3⟩:=DW hk
 obtain ⟨T,hT⟩:∃q,q=ts.getD t (0,0,0):=⟨_,rfl⟩
 rw [<-hT] at k1 k2 k3
 have lx:=Er (W:=w) hx
 refine BI (args:=[(aG (C5 x)),(vN t)]) (L:=[Ai x.a.p (rowsL Aj ps),Ai x.b.p (rowsL Av ts),Ai x.c.p (rowsL Av ss)]) func123 O O (Ab O) (En hx BW) (AF.subF (sL [0,1] O) (q4 (Bq (cs:=C5 x) O λb1=>al P4 O λb2=>q3 (sL [1,2,4] O) ?_)))
 refine AG (v:=(pP b1 1)) (AA O underlying30 O sizeOf23 O) O (BO 1 (Value.slice x.b.p ts.length x.b.c) Dn O (AO O (AG (v:=(pP (pB x.b.p) (pO x.b.p+t*3))) (AN (j:=t) O O x.b.ok underlying23 sizeOf79 O Z) O (AG (v:=(aG (Av (ts.getD t ((0,0,0):Nat×Nat×Nat))))) (AW (vs:=Av (ts.getD t ((0,0,0):Nat×Nat×Nat))) (i:=3) O O (BB.ne x.b.ok Z) JB (Ar BK _ _ _ Z) (BK _)) O (AE.retell (k:=10) (u:=(aG (Av T))) O (by rw [hT]) ?_)))))
 refine al Lu O λb3=>Au O sizeOf79 O (q6 (sL [2,4,5] O) (C4 [(0,true),(1,true),(2,true),(3,true),(4,true),(5,true),(6,true),(7,true),(8,true),(9,true),(10,true),(11,true),(12,true),(13,true),(14,true),(15,true),(16,true),(17,true),(18,true),(19,false)] (sk (sl sr)) (Ay (v:=(pP b1 0)) O (AA O underlying30 O sizeOf28 O) (Bn 1 (Value.slice x.a.p ps.length x.a.c) DV O ?_))))
 refine Ay (v:=(pP b3 0)) O (AC (j:=0) O O underlying79 sizeOf3 O (by decide) O) (Bn 0 (vN T.1) Bs O (Ay (v:=(pP (pB x.a.p) (pO x.a.p+T.1*10))) O (AN (j:=T.1) O O x.a.ok underlying28 sizeOf63 O Z) (Ay (v:=(aG (Aj (ps.getD T.1 (⟨0,0⟩:Pt))))) O (AW (vs:=Aj (ps.getD T.1 (⟨0,0⟩:Pt))) (i:=2) O O (BB.ne x.a.ok Z) BQ (Ar BE _ _ _ Z) (BE _)) (Ay (v:=(pP b1 0)) O (AA O underlying30 O sizeOf28 O) (Bn 1 (Value.slice x.a.p ps.length x.a.c) DV O ?_)))))
 refine Ay (v:=(pP b3 1)) O (AC (j:=1) O O underlying79 sizeOf3 O (by decide) O) (Bn 0 (vN T.2.1) Bs O (Ay (v:=(pP (pB x.a.p) (pO x.a.p+T.2.1*10))) O (AN (j:=T.2.1) O O x.a.ok underlying28 sizeOf63 O Z) (Ay (v:=(aG (Aj (ps.getD T.2.1 (⟨0,0⟩:Pt))))) O (AW (vs:=Aj (ps.getD T.2.1 (⟨0,0⟩:Pt))) (i:=2) O O (BB.ne x.a.ok Z) BQ (Ar BE _ _ _ Z) (BE _)) (Ay (v:=(pP b1 0)) O (AA O underlying30 O sizeOf28 O) (Bn 1 (Value.slice x.a.p ps.length x.a.c) DV O ?_)))))
 refine Ay (v:=(pP b3 2)) O (AC (j:=2) O O underlying79 sizeOf3 O (by decide) O) (Bn 0 (vN T.2.2) Bs O (Ay (v:=(pP (pB x.a.p) (pO x.a.p+T.2.2*10))) O (AN (j:=T.2.2) O O x.a.ok underlying28 sizeOf63 O Z) (Ay (v:=(aG (Aj (ps.getD T.2.2 (⟨0,0⟩:Pt))))) O (AW (vs:=Aj (ps.getD T.2.2 (⟨0,0⟩:Pt))) (i:=2) O O (BB.ne x.a.ok Z) BQ (Ar BE _ _ _ Z) (BE _)) (Ay (v:=(aG (Aj (ps.getD T.1 (⟨0,0⟩:Pt))++Aj (ps.getD T.2.1 (⟨0,0⟩:Pt))++Aj (ps.getD T.2.2 (⟨0,0⟩:Pt))))) O (Ap (zs:=Ge ((⟨0,0⟩,⟨0,0⟩,⟨0,0⟩):Q3)) (vs:=Aj (ps.getD T.1 (⟨0,0⟩:Pt))++Aj (ps.getD T.2.1 (⟨0,0⟩:Pt))++Aj (ps.getD T.2.2 (⟨0,0⟩:Pt))) (pv:=[(0,(aG (Aj (ps.getD T.1 (⟨0,0⟩:Pt))))),(1,(aG (Aj (ps.getD T.2.1 (⟨0,0⟩:Pt))))),(2,(aG (Aj (ps.getD T.2.2 (⟨0,0⟩:Pt)))))]) zeroValue201 underlying201 sizeOf63 O (Dq (ps.getD T.1 (⟨0,0⟩:Pt)) (ps.getD T.2.1 (⟨0,0⟩:Pt)) (ps.getD T.2.2 (⟨0,0⟩:Pt)))) (AS.imp O ?_)))))
 exact C3 O sizeOf201 O (AS.back (sk (sl sr)) (AS.nil (AD.subF (sL [2,4,5] O) (AD.then_ (AF.ret (AP O (A8 (i:=1) (cs:=Aj (ps.getD T.1 (⟨0,0⟩:Pt))++Aj (ps.getD T.2.1 (⟨0,0⟩:Pt))++Aj (ps.getD T.2.2 (⟨0,0⟩:Pt))) O O isAgg201 sizeOf201 O) (λw hw=>⟨by rw [<-hT];unfold Bi CG;rw [<-VB],hw.out⟩)))))))
theorem K1 (r p q:Pt) (bp:BX (Aj p)) (bq:BX (Aj q)) (hs:B8 p+B8 q+B8 r<=10000000) (w:World) {S:Nat->Prop} (hbp:Ro S w bp) (hbq:Ro S w bq):Calls prog 157 #[(aG (Aj r)),(pP bp.b 0),(pP bq.b 0)] w (Am w (Value.bool (LZ p q r))):=by
 have lbp:=Er (W:=w) hbp
 have lbq:=Er (W:=w) hbq
 refine BI (args:=[(aG (Aj r)),(pP bp.b 0),(pP bq.b 0)]) (L:=[Ai (some ⟨bp.b,0,none⟩) (Aj p),Ai (some ⟨bq.b,0,none⟩) (Aj q)]) func157 O O (Ab O) (En hbp (En hbq BW)) (AF.subF (sL [0,1,2] O) (q4 (Bq (cs:=Aj r) O λb1=>AK O (q3 (sL [1,2,3,4] O) ?_))))
 refine AG (v:=(aG (Aj p))) (AW (q:=some ⟨bp.b,0,none⟩) (vs:=Aj p) (off:=0) (i:=1) O O (λe=>by cases e) BQ O O) O (AG (v:=(aG (Aj q))) (AW (q:=some ⟨bq.b,0,none⟩) (vs:=Aj q) (off:=0) (i:=2) O O (λe=>by cases e) BQ O O) O (BD 0 BQ O (BV call117 (Gs p q r Z) O (AG (Cx (c:=(LZ p q r)) O O O) O (AK O ?_)))))
 exact AE.nil (AD.subF (sL [4] O) (AD.then_ (AF.ret (AP O (Ad (v:=(Value.bool (LZ p q r))) O) (λw hw=>⟨rfl,hw.out⟩)))))
theorem Uf (p q:Pt) (B:Q3) (bp:BX (Aj p)) (bq:BX (Aj q)) (bo:BX (Ge B)) (hs:B8 p<=1000000/\B8 q<=1000000) (hB:B8 B.1<=1000000/\B8 B.2.1<=1000000/\B8 B.2.2<=1000000) (w:World) {S:Nat->Prop} (hbp:Ro S w bp) (hbq:Ro S w bq) (hbo:Ro S w bo):Calls prog 205 #[(Value.slice (some ⟨bo.b,0,none⟩) 3 3),(Value.func (.func 157) #[] #[(pP bp.b 0),(pP bq.b 0)])] w (Am w (vI (Ru p q B))):=by
 have lbp:=Er (W:=w) hbp
 have lbq:=Er (W:=w) hbq
 have lbo:=Er (W:=w) hbo
 refine BI (args:=[(Value.slice (some ⟨bo.b,0,none⟩) 3 3),(Value.func (.func 157) #[] #[(pP bp.b 0),(pP bq.b 0)])]) (L:=[Ai (some ⟨bp.b,0,none⟩) (Aj p),Ai (some ⟨bq.b,0,none⟩) (Aj q),Ai (some ⟨bo.b,0,none⟩) (Ge B)]) func205 O O (Ab O) (En hbp (En hbq (En hbo BW))) (AF.subF (sL [0,1] O) (q4 (AK O (AE.nil (q1 ?_)))))
 refine q4 (AO O (AG (v:=(vI 3)) (AH O underlying28) O (AO O (AE.nil (AD.subF (sL [0,1,4,7,8] O) ?_)))))
 refine AD.then_ (AF.block (AF.unroll 4 (E3.step (q4 (AG (Af (c:=true) O O (by decide)) O ?_)))))
 refine AE.nil (q1 (AF.cond_true O (AF.skip (q1 (AF.block ?_)))))
 refine q4 (AO O (AK O (q3 (sL [0,1,4,7,8,5] O) (AO O (AO O ?_)))))
 refine AO O (AG (v:=(pP bo.b 0)) (AJ (j:=0) O O underlying28 sizeOf63 O Z O) O (AG (v:=(aG (Aj B.1))) (AW (q:=some ⟨bo.b,0,none⟩) (vs:=Aj B.1) (off:=0) (i:=2) O O (λe=>by cases e) BQ O O) O (AE.call (v:=(Value.bool (LZ p q B.1))) (AQ O) (Gt (args:=[(aG (Aj B.1))]) (caps:=[(pP bp.b 0),(pP bq.b 0)]) (all:=[(aG (Aj B.1)),(pP bp.b 0),(pP bq.b 0)]) O O O call157) (λw hw=>K1 B.1 p q bp bq Z w (ER hw 0 O lbp) (ER hw 1 O lbq)) O (Ab O) (AE.nil (AD.subF (sL [0,1,4,7,8,5,16] O) ?_)))))
 refine AD.then_ ?_
 refine AF.cond O (λhc1=>?_) (λhc1=>?_)
 ·skip
  have hr:Ru p q B=0:=by unfold Ru;rw [if_pos hc1]
  refine q4 (AO O (AK O (AE.nil (AD.subF (sL [0,1,4,7,8,5] O) (AD.then_ ?_)))))
  exact AF.ret (AD.in_ret (AD.then_ret (AD.then_ret (AD.in_ret (AD.then_ret (AP O (Ad (v:=(vI 0)) O) (λw hw=>⟨by rw [hr]<;>rfl,hw.out⟩)))))))
 ·skip
  have k0:¬LZ p q B.1=true:=by simpa using hc1
  refine AF.skip (AD.in_normal (AD.then_ (AF.region (AG (AX (c:=(1:Int)) O O (by decide)) O (AO O ?_)))))
  refine AE.nil (AD.subF (sL [0,1,4,7,8,5] O) (AD.again (E3.step (q4 (AG (Af (c:=true) O O (by decide)) O ?_)))))
  refine AE.nil (q1 (AF.cond_true O (AF.skip (q1 (AF.block ?_)))))
  refine q4 (AO O (AK O (q3 (sL [0,1,4,7,8,5] O) (AO O (AO O ?_)))))
  refine AO O (AG (v:=(pP bo.b 10)) (AJ (j:=1) O O underlying28 sizeOf63 O Z O) O (AG (v:=(aG (Aj B.2.1))) (AW (q:=some ⟨bo.b,0,none⟩) (vs:=Aj B.2.1) (off:=10) (i:=2) O O (λe=>by cases e) BQ O O) O (AE.call (v:=(Value.bool (LZ p q B.2.1))) (AQ O) (Gt (args:=[(aG (Aj B.2.1))]) (caps:=[(pP bp.b 0),(pP bq.b 0)]) (all:=[(aG (Aj B.2.1)),(pP bp.b 0),(pP bq.b 0)]) O O O call157) (λw hw=>K1 B.2.1 p q bp bq Z w (ER hw 0 O lbp) (ER hw 1 O lbq)) O (Ab O) (AE.nil (AD.subF (sL [0,1,4,7,8,5,16] O) ?_)))))
  refine AD.then_ ?_
  refine AF.cond O (λhc1=>?_) (λhc1=>?_)
  ·skip
   have hr:Ru p q B=1:=by unfold Ru;rw [if_neg k0,if_pos hc1]
   refine q4 (AO O (AK O (AE.nil (AD.subF (sL [0,1,4,7,8,5] O) (AD.then_ ?_)))))
   exact AF.ret (AD.in_ret (AD.then_ret (AD.then_ret (AD.in_ret (AD.then_ret (AP O (Ad (v:=(vI 1)) O) (λw hw=>⟨by rw [hr]<;>rfl,hw.out⟩)))))))
  ·skip
   have k1:¬LZ p q B.2.1=true:=by simpa using hc1
   refine AF.skip (AD.in_normal (AD.then_ (AF.region (AG (AX (c:=(2:Int)) O O (by decide)) O (AO O ?_)))))
   refine AE.nil (AD.subF (sL [0,1,4,7,8,5] O) (AD.again (E3.step (q4 (AG (Af (c:=true) O O (by decide)) O ?_)))))
   refine AE.nil (q1 (AF.cond_true O (AF.skip (q1 (AF.block ?_)))))
   refine q4 (AO O (AK O (q3 (sL [0,1,4,7,8,5] O) (AO O (AO O ?_)))))
   refine AO O (AG (v:=(pP bo.b 20)) (AJ (j:=2) O O underlying28 sizeOf63 O Z O) O (AG (v:=(aG (Aj B.2.2))) (AW (q:=some ⟨bo.b,0,none⟩) (vs:=Aj B.2.2) (off:=20) (i:=2) O O (λe=>by cases e) BQ O O) O (AE.call (v:=(Value.bool (LZ p q B.2.2))) (AQ O) (Gt (args:=[(aG (Aj B.2.2))]) (caps:=[(pP bp.b 0),(pP bq.b 0)]) (all:=[(aG (Aj B.2.2)),(pP bp.b 0),(pP bq.b 0)]) O O O call157) (λw hw=>K1 B.2.2 p q bp bq Z w (ER hw 0 O lbp) (ER hw 1 O lbq)) O (Ab O) (AE.nil (AD.subF (sL [0,1,4,7,8,5,16] O) ?_)))))
   refine AD.then_ ?_
   refine AF.cond O (λhc1=>?_) (λhc1=>?_)
   ·skip
    have hr:Ru p q B=2:=by unfold Ru;rw [if_neg k0,if_neg k1,if_pos hc1]
    refine q4 (AO O (AK O (AE.nil (AD.subF (sL [0,1,4,7,8,5] O) (AD.then_ ?_)))))
    exact AF.ret (AD.in_ret (AD.then_ret (AD.then_ret (AD.in_ret (AD.then_ret (AP O (Ad (v:=(vI 2)) O) (λw hw=>⟨by rw [hr]<;>rfl,hw.out⟩)))))))
   ·skip
    have k2:¬LZ p q B.2.2=true:=by simpa using hc1
    have hr:Ru p q B = -1:=by unfold Ru;rw [if_neg k0,if_neg k1,if_neg k2]
    refine AF.skip (AD.in_normal (AD.then_ (AF.region (AG (AX (c:=(3:Int)) O O (by decide)) O (AO O ?_)))))
    refine AE.nil (AD.subF (sL [0,1,4,7,8,5] O) (AD.again (E3.step (q4 (AG (Af (c:=false) O O (by decide)) O ?_)))))
    refine AE.nil (q1 (AF.cond_false O (AF.exit (AD.then_exit (AD.then_exit ?_)))))
    refine AD.in_exit (q2 (AK O (AE.nil (AD.subF (sL [0,1,4,7,8,5] O) (AD.then_ ?_)))))
    exact AF.ret (AP O (Ad (v:=(vI (-1:Int))) O) (λw hw=>⟨by rw [hr]<;>rfl,hw.out⟩))
theorem LE (p q:Pt) (B:Q3) (bp:BX (Aj p)) (bq:BX (Aj q)) (bo:BX (Ge B)) (hs:B8 p<=1000000/\B8 q<=1000000) (hB:B8 B.1<=1000000/\B8 B.2.1<=1000000/\B8 B.2.2<=1000000) (w:World) {S:Nat->Prop} (hbp:Ro S w bp) (hbq:Ro S w bq) (hbo:Ro S w bo):Calls prog 156 #[(Value.slice (some ⟨bo.b,0,none⟩) 3 3),(Value.func (.func 157) #[] #[(pP bp.b 0),(pP bq.b 0)])] w (Am w (Value.bool (Fg p q B))):=by
 have lbp:=Er (W:=w) hbp
 have lbq:=Er (W:=w) hbq
 have lbo:=Er (W:=w) hbo
 refine BI (args:=[(Value.slice (some ⟨bo.b,0,none⟩) 3 3),(Value.func (.func 157) #[] #[(pP bp.b 0),(pP bq.b 0)])]) (L:=[Ai (some ⟨bp.b,0,none⟩) (Aj p),Ai (some ⟨bq.b,0,none⟩) (Aj q),Ai (some ⟨bo.b,0,none⟩) (Ge B)]) func156 O O (Ab O) (En hbp (En hbq (En hbo BW))) (AF.subF (sL [0,1] O) (q4 (AK O (AE.nil (q2 ?_)))))
 refine AO O (AO O (ET call205 (λw hw=>Uf p q B bp bq bo hs hB w (ER hw 0 O lbp) (ER hw 1 O lbq) (ER hw 2 O lbo)) O (AG (CQ (c:=(Fg p q B)) O O (Sf p q B)) O (AK O (AE.nil ?_)))))
 exact AD.subF (sL [4] O) (AD.then_ (AF.ret (AP O (Ad (v:=(Value.bool (Fg p q B))) O) (λw hw=>⟨rfl,hw.out⟩))))
set_option maxHeartbeats 1000000 in
theorem QA (A B:Q3) (hA:B8 A.1<=1000000/\B8 A.2.1<=1000000/\B8 A.2.2<=1000000) (hB:B8 B.1<=1000000/\B8 B.2.1<=1000000/\B8 B.2.2<=1000000) (w:World)  :Calls prog 124 #[(aG (Ge A)),(aG (Ge B))] w (Am w (Value.bool (Dp A B))):=by
 refine Ac (args:=[(aG (Ge A)),(aG (Ge B))]) func124 O O (Ab O) (AF.subF (sL [0,1] O) (q4 (Bq (cs:=Ge A) O λb1=>Bq (cs:=Ge B) O λb2=>AE.frzX 0 O O λhnb2=>?_)))
 refine AK O (q6 (sL [2,3,4] O) (q4 (AO O (AE.nil (AD.then_ ?_)))))
 refine AF.block (AF.unroll 4 (E3.step (q4 (AG (Af (c:=true) O O (by decide)) O (AE.nil ?_)))))
 refine q1 (AF.cond_true O (AF.skip (q1 (AF.block (q4 ?_)))))
 refine AO O (AK O (q6 (sL [2,3,4,8,5] O) (rN [(0,true),(1,true),(2,true),(3,true),(4,true),(5,true),(6,true),(7,true)] [⟨8,6,63,Aj (⟨0,0⟩:Pt)⟩,⟨9,7,63,Aj (⟨0,0⟩:Pt)⟩] [(10,false),(11,false)] sr (by kernel_rfl) (λ_ _ d _ _ h=>by cases d<;>exact h) (GA O O F6 O (GA O O F6 O (Hz))) O (M9 O (Gd (v:=(pP b1 0)) O (AC (j:=0) O O underlying201 sizeOf63 O (by decide) O) O ?_)))))
 refine QS 1 (Aj A.1) BQ O (M9 O (Gd O (AX (c:=(1:Int)) O O (by decide)) O (Gd O (B6 (c:=(1:Int)) O O (by decide) (by decide)) O (Gd (v:=(pP b1 10)) O (AC (j:=1) O O underlying201 sizeOf63 O (by decide) O) O (QS 1 (Aj A.2.1) BQ O ?_)))))
 refine CJ.news2 λb3 b4=>AS.imp O (Au O sizeOf63 O (AS.back (sl (sl sr)) (AS.imp O (C3 O sizeOf63 O ?_))))
 refine AS.back (sl (sl sr)) (AS.nil (AD.subF (sL [2,3,4,8,7,6] O) (q2 (AG (v:=(Value.slice (some ⟨b2,0,none⟩) 3 3)) (EM O underlying201 sizeOf63 (by decide)) O (AE.frzX 0 O O λhnb3=>?_)))))
 refine AE.frzX 1 O O λhnb4=>AG (v:=(Value.func (.func 157) #[] #[(pP b3 0),(pP b4 0)])) (Ea (vs:=[]) (us:=[(pP b3 0),(pP b4 0)]) O O) O (ET call156 (λw hw=>LE A.1 A.2.1 B ⟨b3⟩ ⟨b4⟩ ⟨b2⟩ Z hB w (R1 (S:=λ_=>False) (x:=(⟨b3⟩:BX (Aj A.1))) hw 0 O hnb3) (R1 (S:=λ_=>False) (x:=(⟨b4⟩:BX (Aj A.2.1))) hw 1 O hnb4) (R1 (S:=λ_=>False) (x:=(⟨b2⟩:BX (Ge B))) hw 2 O hnb2)) O (AG (Ba (c:=(!(Fg A.1 A.2.1 B))) O O) O (AE.nil (AD.subF (sL [2,3,4,8,7,6,22] O) ?_))))
 refine AD.then_ ?_
 refine AF.cond O (λhc1=>?_) (λhc1=>?_)
 ·simp only [Bool.and_eq_true,Bool.or_eq_true,Bool.and_eq_false_iff,Bool.or_eq_false_iff,Bool.not_eq_true',Bool.not_eq_false',decide_eq_true_eq,decide_eq_false_iff_not] at hc1
  have hr:Dp A B=true:=by unfold Dp;rw [(by simpa using hc1:Fg A.1 A.2.1 B=false)];simp
  refine q4 (AK O (AE.nil (AD.then_ (AF.ret (AD.in_ret ?_)))))
  exact AD.then_ret (AD.then_ret (AD.in_ret (AD.then_ret (AP O (Ad (v:=(Value.bool true)) O) (λw hw=>⟨by rw [hr],hw.out⟩)))))
 ·simp only [Bool.and_eq_true,Bool.or_eq_true,Bool.and_eq_false_iff,Bool.or_eq_false_iff,Bool.not_eq_true',Bool.not_eq_false',decide_eq_true_eq,decide_eq_false_iff_not] at hc1
  have k0:Fg A.1 A.2.1 B=true:=by simpa using hc1
  refine AF.skip (AD.in_normal (AD.then_ (AF.region (AG (AX (c:=(1:Int)) O O (by decide)) O (AO O ?_)))))
  refine AE.nil (AD.subF (sL [2,3,4,8,7,6] O) (AD.again (E3.step (q4 (AG (Af (c:=true) O O (by decide)) O ?_)))))
  refine AE.nil (q1 (AF.cond_true O (AF.skip (q1 (AF.block ?_)))))
  refine q4 (AO O (AK O (q6 (sL [2,3,4,8,7,6,5] O) (AF.subF (sL [2,3,4,8,5] O) (rN [(0,true),(1,true),(2,true),(3,true),(4,true),(5,true),(6,true),(7,true)] [⟨8,6,63,Aj (⟨0,0⟩:Pt)⟩,⟨9,7,63,Aj (⟨0,0⟩:Pt)⟩] [(10,false),(11,false)] sr (by kernel_rfl) (λ_ _ d _ _ h=>by cases d<;>exact h) (GA O O F6 O (GA O O F6 O (Hz))) O ?_)))))
  refine M9 O (Gd (v:=(pP b1 10)) O (AC (j:=1) O O underlying201 sizeOf63 O (by decide) O) O (QS 3 (Aj A.2.1) BQ O (M9 O (Gd O (AX (c:=(2:Int)) O O (by decide)) O (Gd O (B6 (c:=(2:Int)) O O (by decide) (by decide)) O ?_)))))
  refine Gd (v:=(pP b1 20)) O (AC (j:=2) O O underlying201 sizeOf63 O (by decide) O) O (QS 3 (Aj A.2.2) BQ O (CJ.news2 λb5 b6=>AS.imp O (Au O sizeOf63 O (AS.back (sl (sl sr)) ?_))))
  refine AS.imp O (C3 O sizeOf63 O (AS.back (sl (sl sr)) (AS.nil (AD.subF (sL [2,3,4,8,7,6] O) (q2 ?_)))))
  refine AG (v:=(Value.slice (some ⟨b2,0,none⟩) 3 3)) (EM O underlying201 sizeOf63 (by decide)) O (AE.frzX 0 O O λhnb5=>AE.frzX 1 O O λhnb6=>AG (v:=(Value.func (.func 157) #[] #[(pP b5 0),(pP b6 0)])) (Ea (vs:=[]) (us:=[(pP b5 0),(pP b6 0)]) O O) O (ET call156 (λw hw=>LE A.2.1 A.2.2 B ⟨b5⟩ ⟨b6⟩ ⟨b2⟩ Z hB w (R1 (S:=λ_=>False) (x:=(⟨b5⟩:BX (Aj A.2.1))) hw 0 O hnb5) (R1 (S:=λ_=>False) (x:=(⟨b6⟩:BX (Aj A.2.2))) hw 1 O hnb6) (R1 (S:=λ_=>False) (x:=(⟨b2⟩:BX (Ge B))) hw 4 O hnb2)) O (AG (Ba (c:=(!(Fg A.2.1 A.2.2 B))) O O) O ?_)))
  refine AE.nil (AD.subF (sL [2,3,4,8,7,6,22] O) (AD.then_ ?_))
  refine AF.cond O (λhc1=>?_) (λhc1=>?_)
  ·simp only [Bool.and_eq_true,Bool.or_eq_true,Bool.and_eq_false_iff,Bool.or_eq_false_iff,Bool.not_eq_true',Bool.not_eq_false',decide_eq_true_eq,decide_eq_false_iff_not] at hc1
   have hr:Dp A B=true:=by unfold Dp;rw [k0,(by simpa using hc1:Fg A.2.1 A.2.2 B=false)];simp
   refine q4 (AK O (AE.nil (AD.then_ (AF.ret (AD.in_ret ?_)))))
   exact AD.then_ret (AD.then_ret (AD.in_ret (AD.then_ret (AP O (Ad (v:=(Value.bool true)) O) (λw hw=>⟨by rw [hr],hw.out⟩)))))
  ·simp only [Bool.and_eq_true,Bool.or_eq_true,Bool.and_eq_false_iff,Bool.or_eq_false_iff,Bool.not_eq_true',Bool.not_eq_false',decide_eq_true_eq,decide_eq_false_iff_not] at hc1
   have k1:Fg A.2.1 A.2.2 B=true:=by simpa using hc1
   refine AF.skip (AD.in_normal (AD.then_ (AF.region (AG (AX (c:=(2:Int)) O O (by decide)) O (AO O ?_)))))
   refine AE.nil (AD.subF (sL [2,3,4,8,7,6] O) (AD.again (E3.step (q4 (AG (Af (c:=true) O O (by decide)) O ?_)))))
   refine AE.nil (q1 (AF.cond_true O (AF.skip (q1 (AF.block ?_)))))
   refine q4 (AO O (AK O (q6 (sL [2,3,4,8,7,6,5] O) (AF.subF (sL [2,3,4,8,5] O) (rN [(0,true),(1,true),(2,true),(3,true),(4,true),(5,true),(6,true),(7,true)] [⟨8,6,63,Aj (⟨0,0⟩:Pt)⟩,⟨9,7,63,Aj (⟨0,0⟩:Pt)⟩] [(10,false),(11,false)] sr (by kernel_rfl) (λ_ _ d _ _ h=>by cases d<;>exact h) (GA O O F6 O (GA O O F6 O (Hz))) O ?_)))))
   refine M9 O (Gd (v:=(pP b1 20)) O (AC (j:=2) O O underlying201 sizeOf63 O (by decide) O) O (QS 5 (Aj A.2.2) BQ O (M9 O (Gd O (AX (c:=(3:Int)) O O (by decide)) O (Gd O (B6 (c:=(0:Int)) O O (by decide) (by decide)) O ?_)))))
   refine Gd (v:=(pP b1 0)) O (AC (j:=0) O O underlying201 sizeOf63 O (by decide) O) O (QS 5 (Aj A.1) BQ O (CJ.news2 λb7 b8=>AS.imp O (Au O sizeOf63 O (AS.back (sl (sl sr)) ?_))))
   refine AS.imp O (C3 O sizeOf63 O (AS.back (sl (sl sr)) (AS.nil (AD.subF (sL [2,3,4,8,7,6] O) (q2 ?_)))))
   refine AG (v:=(Value.slice (some ⟨b2,0,none⟩) 3 3)) (EM O underlying201 sizeOf63 (by decide)) O (AE.frzX 0 O O λhnb7=>AE.frzX 1 O O λhnb8=>AG (v:=(Value.func (.func 157) #[] #[(pP b7 0),(pP b8 0)])) (Ea (vs:=[]) (us:=[(pP b7 0),(pP b8 0)]) O O) O (ET call156 (λw hw=>LE A.2.2 A.1 B ⟨b7⟩ ⟨b8⟩ ⟨b2⟩ Z hB w (R1 (S:=λ_=>False) (x:=(⟨b7⟩:BX (Aj A.2.2))) hw 0 O hnb7) (R1 (S:=λ_=>False) (x:=(⟨b8⟩:BX (Aj A.1))) hw 1 O hnb8) (R1 (S:=λ_=>False) (x:=(⟨b2⟩:BX (Ge B))) hw 6 O hnb2)) O (AG (Ba (c:=(!(Fg A.2.2 A.1 B))) O O) O ?_)))
   refine AE.nil (AD.subF (sL [2,3,4,8,7,6,22] O) (AD.then_ ?_))
   refine AF.cond O (λhc1=>?_) (λhc1=>?_)
   ·simp only [Bool.and_eq_true,Bool.or_eq_true,Bool.and_eq_false_iff,Bool.or_eq_false_iff,Bool.not_eq_true',Bool.not_eq_false',decide_eq_true_eq,decide_eq_false_iff_not] at hc1
    have hr:Dp A B=true:=by unfold Dp;rw [k0,k1,(by simpa using hc1:Fg A.2.2 A.1 B=false)];simp
    refine q4 (AK O (AE.nil (AD.then_ (AF.ret (AD.in_ret ?_)))))
    exact AD.then_ret (AD.then_ret (AD.in_ret (AD.then_ret (AP O (Ad (v:=(Value.bool true)) O) (λw hw=>⟨by rw [hr],hw.out⟩)))))
   ·simp only [Bool.and_eq_true,Bool.or_eq_true,Bool.and_eq_false_iff,Bool.or_eq_false_iff,Bool.not_eq_true',Bool.not_eq_false',decide_eq_true_eq,decide_eq_false_iff_not] at hc1
    have k2:Fg A.2.2 A.1 B=true:=by simpa using hc1
    have hr:Dp A B=false:=by unfold Dp;rw [k0,k1,k2];rfl
    refine AF.skip (AD.in_normal (AD.then_ (AF.region (AG (AX (c:=(3:Int)) O O (by decide)) O (AO O ?_)))))
    refine AE.nil (AD.subF (sL [2,3,4,8,7,6] O) (AD.again (E3.step (q4 (AG (Af (c:=false) O O (by decide)) O ?_)))))
    refine AE.nil (q1 (AF.cond_false O (AF.exit (AD.then_exit (AD.then_exit ?_)))))
    refine AD.in_exit (q2 (AK O (AE.nil (AD.subF (sL [2,3,4,8,7,6] O) (AD.then_ ?_)))))
    exact AF.ret (AP O (Ad (v:=(Value.bool false)) O) (λw hw=>⟨by rw [hr],hw.out⟩))
end
end Go.Proofs.YtfbomiejpbchdaaGreatDoor
