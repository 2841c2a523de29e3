import Derived.WideKeyEntry
import Derived.Test.YtfbomiejpbchdaaGreatDoorPart06
import Derived.Test.YtfbomiejpbchdaaGreatDoorPart15
import Derived.Test.YtfbomiejpbchdaaGreatDoorPart20
import Derived.Test.YtfbomiejpbchdaaGreatDoorPart22
import Derived.Test.YtfbomiejpbchdaaGreatDoorPart23
import Derived.Test.YtfbomiejpbchdaaGreatDoorPart27
import Derived.Test.YtfbomiejpbchdaaGreatDoorPart28
import Derived.Test.YtfbomiejpbchdaaGreatDoorPart29
import Derived.Test.YtfbomiejpbchdaaGreatDoorPart30
namespace Go.Proofs.YtfbomiejpbchdaaGreatDoor
open Go Go.RowKit Go.Proofs.Tryz
set_option linter.unusedVariables false
set_option linter.unusedSimpArgs false
section
set_option maxRecDepth 100000
theorem Vr:ElemT prog 71 3 1 8:=⟨underlying71,Dm (by kernel_rfl)⟩
theorem QT (p:Option Addr) (n cp:Nat) (h:n<=cp) (w:World)  :Calls prog 62 #[(Value.slice p n cp)] w (Al w (Value.slice p n n)):=by
 refine Ac (args:=[(Value.slice p n cp)]) func62 O O (Ad O) (AF.subF (sL [0] O) (q4 (AK O (AE.nil (q2 ?_)))))
 refine AO O (AO O (AH (v:=(vN n)) (AG O underlying71) O (AO O (AH (v:=(vN n)) (AG O underlying71) O (AH (v:=(Value.slice p n n)) (Ej (m:=n) O O O underlying71 sizeOf3 Z) O ?_)))))
 exact AK O (AE.nil (AC.subF (sL [2] O) (AC.then_ (AF.ret (AN O (Ab (v:=(Value.slice p n n)) O) (λw hw=>⟨rfl,hw.out⟩))))))
theorem PU {ps:List Pt} {ts ss:List (Nat×Nat×Nat)} (x:MX ps ts ss) (hl:ts.length<=1000000000) (hN:ps.length<=4611686018427387904) (hnb:CU ps.length ts=true) (w:World) {S:Nat->Prop} (hx:Ro S w x):Calls prog 16 #[(aG (CM x))] w (B3 (RX (rowsL B8 (B0 ts)) (B0 ts).length) S w):=by
 have lx:=En (W:=w) hx
 refine BC (args:=[(aG (CM x))]) (L:=[Ag x.a.p (rowsL Ah ps),Ag x.b.p (rowsL An ts),Ag x.c.p (rowsL An ss)]) func16 O O (Ad O) (Eo hx BR) (AF.subF (sL [0] O) (q4 (Bi (cs:=CM x) O λb1=>AK O (q6 (sL [1,2] O) ?_))))
 refine q4 (BA 0 DG O (D1 (args:=[(aG (CM x))]) (v:=(Value.bool true)) call48 (λw hw=>(by have h9:=KT x Z w (Dz hw 1 O lx);rw [hnb] at h9;exact h9)) O (AH (BV (c:=false) O O) O (AE.nil (AC.subF (sL [1,2,5] O) ?_)))))
 refine AC.then_ (AF.cond_false O (AF.skip (q2 (AH (v:=(pP b1 1)) (AA O underlying30 O sizeOf23 O) O (BJ 0 (Value.slice x.b.p ts.length x.b.c) DV O ?_)))))
 exact cX (S:=S) (cs:=rowsL B8 (B0 ts)) (k:=(B0 ts).length) (args:=[(Value.slice x.b.p ts.length x.b.c)]) call49 (λw hw=>L1 ts x.b ps.length hnb hN hl w (Rq (Dz hw 1 O lx))) O O O λo lo=>AK O (AE.nil (AC.subF (sL [1,2] O) (AC.then_ (AF.ret (AN O (Ab (v:=(Value.slice o.p ((B0 ts).length) o.c)) O) (λw hw=>VT hw (Dz hw 0 O lo) O))))))
end
section
theorem Th {a b:Nat} (ha:a<4611686018427387904) (hb:b<4611686018427387904):NP (a,b):=⟨ha,hb⟩
def Ck {α β:Type} [DecidableEq α]:List (α×β)->α->Nat
  | [],_=>0
  | (k,v)::r,x=>if x=k then 0 else Ck r x+1
section
variable {α β:Type} {enc:α->Value} {eV:β->Value} {ok:α->Prop} {P:Program} {kt:TypeId} {n:Nat} {F:List (Nat×Value)} {w0:BH} {L:List As} {d:Nat} {mp kp vp sp:Operand} {t:TypeId} {pp:String} {af:Array Edge} {g:Option (Nat×Bool)} {tx et:TypeId} {b:Nat} {ops:Array Oper} {rest:List Oper} {Q:Exit->Act->World->Prop}
def MR {α β:Type} [DecidableEq α] (b:Nat) (enc:α->Value) (eV:β->Value) (kvs:List (α×β)) (x:α) (v:β):As:=⟨some b,λo=>o=.map (entsM enc eV kvs 0).toArray kvs.length\/o=.map (entsM enc eV (Ba kvs x v) 0).toArray (Ba kvs x v).length,false⟩
variable [DecidableEq α]
theorem Ju:∀{kvs:List (α×β)} {x:α} {v:β},BF kvs x=some v->Ba kvs x v=kvs
  | (k,u)::r,x,v,h=>by
    unfold BF at h
    unfold Ba
    split at h
    · rename_i e;injection h with h;rw [if_pos e,h]
    · rename_i e;rw [if_neg e,Ju h]
theorem Gw:∀{kvs:List (α×β)} {x:α} {v:β},(Ba kvs x v)[Ck kvs x]?=some (x,v)
  | [],_,_=>rfl
  | (k,u)::r,x,v=>by
    unfold Ba Ck
    split
    · rename_i e;rw [List.getElem?_cons_zero,e]
    · rw [List.getElem?_cons_succ,Gw]
theorem Lp {x:α} {u v:β}:∀{kvs:List (α×β)},(Ba kvs x u).set (Ck kvs x) (x,v)=Ba kvs x v
  | []=>rfl
  | (k,w)::r=>by
    by_cases e:x=k
    · simp [Ba,Ck,e]
    · simp [Ba,Ck,e,Lp]
theorem Lc:∀{kvs:List (α×β)} {j:Nat} {x:α} {v:β},kvs.Pairwise (λp q=>p.1≠q.1)->kvs[j]?=some (x,v)->Ck kvs x=j
  | (k,u)::r,0,x,v,_,h=>by
    simp only [List.getElem?_cons_zero,Option.some.injEq,Prod.mk.injEq] at h
    rw [Ck,if_pos h.1.symm]
  | (k,u)::r,j+1,x,v,hp,h=>by
    obtain ⟨h1,h2⟩:=List.pairwise_cons.1 hp
    rw [List.getElem?_cons_succ] at h
    rw [Ck,if_neg (λe=>h1 (x,v) (List.mem_of_getElem? h) e.symm),Lc h2 h]
theorem I1:∀{kvs:List (α×β)} {x:α},(∀p∈kvs,p.1≠x)->Ck kvs x=kvs.length
  | [],_,_=>rfl
  | (k,v)::r,x,h=>by
    rw [Ck,if_neg (λe=>h (k,v) List.mem_cons_self e.symm),I1 λp hp=>h p (List.mem_cons_of_mem _ hp)];rfl
theorem SE {i:Nat} {kvs:List (α×β)} (x:α) (v:β) (hi:L[i]?=some (C8 b enc eV kvs)):Wk (L.set i (MR b enc eV kvs x v)) L:=λw0 w hw=>by
  exact hw.freeze (i:=i) (y:=MR b enc eV kvs x v) hi O (λo h=>.inl h) (λe=>by cases e)
theorem P4 {i:Nat} {kvs:List (α×β)} (x:α) (v:β) (hi:L[i]?=some (C8 b enc eV (Ba kvs x v))):Wk (L.set i (MR b enc eV kvs x v)) L:=λw0 w hw=>by
  exact hw.freeze (i:=i) (y:=MR b enc eV kvs x v) hi O (λo h=>.inr h) (λe=>by cases e)
theorem Vn (i:Nat) {kvs:List (α×β)} {x:α} {v:β} {LA:List As} (hi:L[i]?=some (C8 b enc eV kvs)) (hs:MW L i (MR b enc eV kvs x v)=some LA):Wk LA L:=Gf hs▸SE x v hi
theorem UC (i:Nat) {kvs:List (α×β)} {x:α} {v:β} {LA:List As} (hi:L[i]?=some (C8 b enc eV (Ba kvs x v))) (hs:MW L i (MR b enc eV kvs x v)=some LA):Wk LA L:=Gf hs▸P4 x v hi
theorem GN (K:MD P kt enc ok) (i:Nat) {kvs:List (α×β)} {x:α} {z0 v:β} {dd:Option Tmp} (hx:evF F mp=some (.map (some b))) (hk:evF F kp=some (enc x)) (ht:P.underlying tx=some (.map kt et)) (hz:∀w,(zeroValue et).run P w=.ok (eV z0) w) (hi:L[i]?=some (MR b enc eV kvs x v)) (hm:JL ok kvs) (hok:ok x) (hv:v=(BF kvs x).getD z0) :
    Ex P n F w0 L ⟨dd,.lookup tx mp kp false,t,pp,af,g⟩ (eV v):=λA w ha hw=>by
  obtain ⟨_,o,ho,hp⟩:=hw.2.1 _ (List.mem_of_getElem? hi) b rfl
  obtain ⟨lx,hlx⟩:=K.key x hok
  have hc:=λem=>K.law.check w em hlx
  have key:∀kvs':List (α×β),JL ok kvs'->(BF kvs' x).getD z0=v->w.heap[b]?=some (.map (entsM enc eV kvs' 0).toArray kvs'.length)->(execOp A.eval ⟨dd,.lookup tx mp kp false,t,pp,af,g⟩).run P w=.ok (.value (eV v)) w:=λkvs' hm' hg ho=>by
    rcases Fz (eV:=eV) K hm' hok w with ⟨h1,_,h2⟩|⟨j,u,_,h1,h2⟩
    · rw [h1] at hg
      simp only [execOp,ha.ev hx,ha.ev hk,Instr.lookup,Sem.run_bind,run_underlying ht,CF ho,Result.andThen_ok,Sem.run_pure,hc,List.toList_toArray,h2,hz]
      rw [<-hg];rfl
    · rw [h1] at hg
      simp only [execOp,ha.ev hx,ha.ev hk,Instr.lookup,Sem.run_bind,run_underlying ht,CF ho,Result.andThen_ok,Sem.run_pure,hc,List.toList_toArray,h2]
      rw [<-hg];rfl
  rcases hp with hp|hp
  · exact key kvs hm hv.symm (by rw [ho,hp])
  · exact key (Ba kvs x v) (hm.put hok) (by rw [C_,if_pos O];rfl) (by rw [ho,hp])
theorem AE.mapEntry (K:MD P kt enc ok) (i:Nat) {kvs:List (α×β)} {x:α} {z0 v:β} (hx:evF F mp=some (.map (some b))) (hk:evF F kp=some (enc x)) (ht:P.underlying tx=some (.map kt et)) (hz:∀w,(zeroValue et).run P w=.ok (eV z0) w) (hi:L[i]?=some (C8 b enc eV kvs)) (hm:JL ok kvs) (hok:ok x) (hv:v=(BF kvs x).getD z0) (hd:Nat.ble (d+1) n=true)
    (next:AE P ops rest Q n ((d,.tuple #[eV v,vN (Ck kvs x)])::F) w0 (L.set i (C8 b enc eV (Ba kvs x v)))):AE P ops (⟨some d,.mapEntry tx mp kp,t,pp,af,none⟩::rest) Q n F w0 L:=λa w ha hW=>by
  obtain ⟨_,o,ho,hp⟩:=hW.2.1 _ (List.mem_of_getElem? hi) b rfl
  have ho:w.heap[b]?=some (.map (entsM enc eV kvs 0).toArray kvs.length):=by rw [ho,hp]
  obtain ⟨lx,hlx⟩:=K.key x hok
  have hc:=λem=>K.law.check w em hlx
  have hst:=K.law.stays w hlx
  have hrun:(execOp a.eval ⟨some d,.mapEntry tx mp kp,t,pp,af,none⟩).run P w=.ok (.value (.tuple #[eV v,vN (Ck kvs x)])) (Go.ChangeMaps.setBlock w b (.map (entsM enc eV (Ba kvs x v) 0).toArray (Ba kvs x v).length)):=by
    rcases Fz (eV:=eV) K hm hok w with ⟨h0,h1,h2⟩|⟨j,u,hj,h1,h2⟩
    · rw [h0] at hv
      simp only [Option.getD_none] at hv
      subst hv
      rw [HV h1,I1 h1,E_,List.length_append]
      simp only [execOp,ha.ev hx,ha.ev hk,Instr.mapEntry,Sem.run_bind,run_underlying ht,CF ho,Result.andThen_ok,hc,List.toList_toArray,h2,hz,Db ho,Sem.run_pure,List.push_toArray,Nat.zero_add,List.length_singleton]
      rfl
    · rw [h1] at hv
      simp only [Option.getD_some] at hv
      subst hv
      rw [Ju h1,Lc hm.once hj]
      have e1:(entsM enc eV kvs 0)[j]?=some ⟨enc x,eV v,0+j⟩:=by rw [Ce,hj];rfl
      have e2:=Fa (enc:=enc) (eV:=eV) (y:=v) hj
      have e3:kvs.set j (x,v)=kvs:=by
        apply List.ext_getElem?
        intro q
        rw [List.getElem?_set]
        split
        · rename_i e;subst e;split
          · exact hj.symm
          · rename_i h9;rw [List.getElem?_eq_none Z]
        · rfl
      rw [e3] at e2
      have e4:(entsM enc eV kvs 0).toArray.modify j (λe=>{ e with key:=enc x })=(entsM enc eV kvs 0).toArray:=by
        apply Array.ext_getElem?
        intro q
        rw [Array.getElem?_modify]
        simp only [List.getElem?_toArray]
        split
        · rename_i e;subst e;rw [e1];rfl
        · rfl
      simp only [execOp,ha.ev hx,ha.ev hk,Instr.mapEntry,Sem.run_bind,run_underlying ht,CF ho,Result.andThen_ok,hc,List.toList_toArray,List.getElem?_toArray,h2,e1,hst,e4,Db ho,Sem.run_pure,Option.map_some,Option.getD_some]
      simp [goInt,e1,hst,e4,Db ho,Result.andThen]
  unfold wpList
  rw [if_pos (AP rfl a ha)]
  left
  unfold Oper.wp
  rw [hrun,Oper.upon_value]
  exact next _ _ (ha.put (Bw hd)) (hW.turn hi O O (D6 _ _ _) ⟨_,Ef ho,rfl⟩)
theorem AE.entryStore (i:Nat) {kvs:List (α×β)} {x:α} {u y:β} (hx:evF F mp=some (.map (some b))) (hs:evF F sp=some (vN (Ck kvs x))) (hv:evF F vp=some (eV y)) (hi:L[i]?=some (C8 b enc eV (Ba kvs x u)))
    (next:AE P ops rest Q n F w0 (L.set i (C8 b enc eV (Ba kvs x y)))):AE P ops (⟨none,.entryStore tx mp sp vp,t,pp,af,none⟩::rest) Q n F w0 L:=λa w ha hW=>by
  obtain ⟨_,o,ho,hp⟩:=hW.2.1 _ (List.mem_of_getElem? hi) b rfl
  have ho:w.heap[b]?=some (.map (entsM enc eV (Ba kvs x u) 0).toArray (Ba kvs x u).length):=by rw [ho,hp]
  have hf:=Gw (kvs:=kvs) (x:=x) (v:=u)
  have hlt:Ck kvs x<(Ba kvs x u).length:=(List.getElem?_eq_some_iff.1 hf).1
  have e0:(entsM enc eV (Ba kvs x u) 0)[Ck kvs x]?=some ⟨enc x,eV u,Ck kvs x⟩:=by rw [Ce,hf];simp
  have hnd:((entsM enc eV (Ba kvs x u) 0).map (·.born)).Nodup:=by
    have e1:∀(l:List (α×β)) (s:Nat),(entsM enc eV l s).map (·.born)=List.range' s l.length:=by
      intro l
      induction l with
      | nil=>intro s;rfl
      | cons p r ih=>intro s;rw [entsM,List.map_cons,ih,List.length_cons,List.range'_succ]
    rw [e1];exact List.nodup_range'
  have hidx:(entsM enc eV (Ba kvs x u) 0).toArray.findIdx? (λe=>((e.born:Nat):Int) == ((Ck kvs x:Nat):Int))=some (Ck kvs x):=by
    rw [WideElems.findIdx_arr]
    exact WideElems.findIdx_born hnd e0
  have hset:(Ba kvs x u).set (Ck kvs x) (x,y)=Ba kvs x y:=Lp
  have hmod:=Fa (enc:=enc) (eV:=eV) (y:=y) hf
  have hmod2:(entsM enc eV (Ba kvs x u) 0).toArray.modify (Ck kvs x) (λe=>{ e with val:=eV y })=(entsM enc eV (Ba kvs x y) 0).toArray:=by
    rw [<-hset,<-hmod]
    apply Array.ext_getElem?
    intro q
    rw [Array.getElem?_modify,Array.getElem?_modify]
    simp only [List.getElem?_toArray]
    split
    · rename_i e;subst e;rw [e0];rfl
    · rfl
  have hl2:(Ba kvs x y).length=(Ba kvs x u).length:=by rw [<-hset,List.length_set]
  have hrun:(execOp a.eval ⟨none,.entryStore tx mp sp vp,t,pp,af,none⟩).run P w=.ok .skip (Go.ChangeMaps.setBlock w b (.map (entsM enc eV (Ba kvs x y) 0).toArray (Ba kvs x y).length)):=by
    rw [<-hmod2,hl2]
    simp only [execOp,ha.ev hx,ha.ev hs,ha.ev hv,Instr.entryStore,Sem.run_bind,CF ho,Result.andThen_ok,asInt,asIntOf,Sem.run_pure,hidx,Db ho]
  unfold wpList
  rw [if_pos (AP rfl a ha)]
  left
  unfold Oper.wp
  rw [hrun,Oper.upon_skip]
  exact next _ _ ha.put_none (hW.turn hi O O (D6 _ _ _) ⟨_,Ef ho,rfl⟩)
end
end
section
set_option maxRecDepth 100000
theorem N1 (ts:List Pt) (x:RX (rowsL Ah ts) ts.length) (hl:ts.length<=1000000000) (w:World) {S:Nat->Prop} (hx:Ro S w x):Calls prog 69 #[(Value.slice x.p ts.length x.c)] w (Kt V8 (VO (T:=63) (z:=10) (cs:=rowsL Ah ts) (n:=ts.length)) S w):=by
 have lx:=En (W:=w) hx
 refine BC (args:=[(Value.slice x.p ts.length x.c)]) (L:=[Ag x.p (rowsL Ah ts)]) func69 O O (Ad O) (Eo hx BR) (AF.subF (sL [0] O) (q4 (AK O (AE.nilRow 63 10 (AE.nil ?_)))))
 refine q1 (q4 (AO O (AH (v:=(Value.bool x.p.isNone)) (My O O underlying28) O (AE.nil (AC.subF (sL [0,2,4] O) ?_)))))
 refine AC.then_ ?_
 refine AF.cond O (λhc0=>?_) (λhc0=>?_)
 ·skip
  have hts:ts=[]:=List.eq_nil_of_length_eq_zero (x.ok.nil (Option.isNone_iff_eq_none.1 hc0)).1
  refine q4 (AK O (AE.nilRow 63 10 (AE.nil (AC.then_ (AF.ret ?_)))))
  exact AC.then_ret (AN O (Ab (v:=(Value.slice none 0 0)) O) (λw hw=>(by subst hts;exact UB hw (OX.mk none 0 OwnOk.none) (by exact (sk (sl (sl sr)))) (KS.own O KS.nil) (by show Value.slice none 0 0=_;rfl))))
 ·skip
  refine AF.skip (q2 (AE.openV (V:=λb1=>(Value.slice (some ⟨b1,0,none⟩) 0 0)) (T:=63) (cs:=[]) (AP O) (OF underlying28 sizeOf63) O (Ad O) λb1=>AE.asRow0 (z:=10) 0 O Z λho_b1=>AO O (AE.appendE0 VC O ho_b1 O (Vt (k:=2) O x.ok) (Am BD _) (Jz SK _) (Jc Z) Z O λp_1 c_1 ho_1=>?_)))
  exact AK O (AE.nil (AC.subF (sL [0,2] O) (AC.then_ (AF.ret (AN O (Ab (v:=(Value.slice p_1 ts.length c_1)) O) (λw hw=>(UB hw (OX.mk p_1 c_1 ho_1) (sk (sl (sl sr))) (KS.own O KS.nil) O)))))))
theorem Qv (p:Option Addr) (n cp:Nat) (h:n<=cp) (w:World)  :Calls prog 38 #[(Value.slice p n cp)] w (Al w (Value.slice p n n)):=by
 refine Ac (args:=[(Value.slice p n cp)]) func38 O O (Ad O) (AF.subF (sL [0] O) (q4 (AK O (AE.nil (q2 ?_)))))
 refine AO O (AO O (AH (v:=(vN n)) (AG O underlying24) O (AO O (AH (v:=(vN n)) (AG O underlying24) O (AH (v:=(Value.slice p n n)) (Ej (m:=n) O O O underlying24 sizeOf43 Z) O ?_)))))
 exact AK O (AE.nil (AC.subF (sL [2] O) (AC.then_ (AF.ret (AN O (Ab (v:=(Value.slice p n n)) O) (λw hw=>⟨rfl,hw.out⟩))))))
end
section
set_option maxRecDepth 100000
theorem To (t:T3) (p:Nat) (y:RX (An t) 3) (w:World) {S:Nat->Prop} (hy:Ro S w y):Calls prog 113 #[(Value.slice y.p 3 y.c),(vN p)] w (Al w (vI (QI t p))):=by
 have ly:=En (W:=w) hy
 refine BC (args:=[(Value.slice y.p 3 y.c),(vN p)]) (L:=[Ag y.p (An t)]) func113 O O (Ad O) (Eo hy BR) (AF.subF (sL [0,1] O) (q4 (AK O (AE.nil (q1 ?_)))))
 refine q4 (AO O (AH (v:=(vI 3)) (AG O underlying71) O (AO O (AE.nil (AC.subF (sL [0,1,4,7,8] O) ?_)))))
 refine AC.then_ (AF.block (AF.unroll 4 (Eb.step (q4 (AH (Af (c:=true) O O (by decide)) O ?_)))))
 refine AE.nil (q1 (AF.cond_true O (AF.skip (q1 (AF.block ?_)))))
 refine q4 (AO O (AK O (q3 (sL [0,1,4,7,8,5] O) (AO O (AO O ?_)))))
 refine AO O (AH (v:=(pP (pB y.p) (pO y.p+0*1))) (AR (j:=0) O O y.ok underlying71 sizeOf3 O Z) O (AH (Ax (v:=(vN t.1)) (i:=0) O O (y.ok.ne Z) Bx O) O (AH (BQ (c:=(decide (p=t.1))) O O (L9 (a:=p) (b:=t.1))) O (AE.nil (AC.subF (sL [0,1,4,7,8,5,16] O) ?_)))))
 refine AC.then_ ?_
 refine AF.cond O (λhc1=>?_) (λhc1=>?_)
 ·replace hc1:=of_decide_eq_true hc1
  have hr:QI t p=0:=by unfold QI;rw [if_pos hc1]
  refine q4 (AO O (AK O (AE.nil (AC.subF (sL [0,1,4,7,8,5] O) (AC.then_ ?_)))))
  exact AF.ret (AC.in_ret (AC.then_ret (AC.then_ret (AC.in_ret (AC.then_ret (AN O (Ab (v:=(vI 0)) O) (λw hw=>⟨by rw [hr]<;>rfl,hw.out⟩)))))))
 ·replace hc1:=of_decide_eq_false hc1
  have k0:=hc1
  refine AF.skip (AC.in_normal (AC.then_ (AF.region (AH (AW (c:=(1:Int)) O O (by decide)) O (AO O ?_)))))
  refine AE.nil (AC.subF (sL [0,1,4,7,8,5] O) (AC.again (Eb.step (q4 (AH (Af (c:=true) O O (by decide)) O ?_)))))
  refine AE.nil (q1 (AF.cond_true O (AF.skip (q1 (AF.block ?_)))))
  refine q4 (AO O (AK O (q3 (sL [0,1,4,7,8,5] O) (AO O (AO O ?_)))))
  refine AO O (AH (v:=(pP (pB y.p) (pO y.p+1*1))) (AR (j:=1) O O y.ok underlying71 sizeOf3 O Z) O (AH (Ax (v:=(vN t.2.1)) (i:=0) O O (y.ok.ne Z) Bx O) O (AH (BQ (c:=(decide (p=t.2.1))) O O (L9 (a:=p) (b:=t.2.1))) O (AE.nil (AC.subF (sL [0,1,4,7,8,5,16] O) ?_)))))
  refine AC.then_ ?_
  refine AF.cond O (λhc1=>?_) (λhc1=>?_)
  ·replace hc1:=of_decide_eq_true hc1
   have hr:QI t p=1:=by unfold QI;rw [if_neg k0,if_pos hc1]
   refine q4 (AO O (AK O (AE.nil (AC.subF (sL [0,1,4,7,8,5] O) (AC.then_ ?_)))))
   exact AF.ret (AC.in_ret (AC.then_ret (AC.then_ret (AC.in_ret (AC.then_ret (AN O (Ab (v:=(vI 1)) O) (λw hw=>⟨by rw [hr]<;>rfl,hw.out⟩)))))))
  ·replace hc1:=of_decide_eq_false hc1
   have k1:=hc1
   refine AF.skip (AC.in_normal (AC.then_ (AF.region (AH (AW (c:=(2:Int)) O O (by decide)) O (AO O ?_)))))
   refine AE.nil (AC.subF (sL [0,1,4,7,8,5] O) (AC.again (Eb.step (q4 (AH (Af (c:=true) O O (by decide)) O ?_)))))
   refine AE.nil (q1 (AF.cond_true O (AF.skip (q1 (AF.block ?_)))))
   refine q4 (AO O (AK O (q3 (sL [0,1,4,7,8,5] O) (AO O (AO O ?_)))))
   refine AO O (AH (v:=(pP (pB y.p) (pO y.p+2*1))) (AR (j:=2) O O y.ok underlying71 sizeOf3 O Z) O (AH (Ax (v:=(vN t.2.2)) (i:=0) O O (y.ok.ne Z) Bx O) O (AH (BQ (c:=(decide (p=t.2.2))) O O (L9 (a:=p) (b:=t.2.2))) O (AE.nil (AC.subF (sL [0,1,4,7,8,5,16] O) ?_)))))
   refine AC.then_ ?_
   refine AF.cond O (λhc1=>?_) (λhc1=>?_)
   ·replace hc1:=of_decide_eq_true hc1
    have hr:QI t p=2:=by unfold QI;rw [if_neg k0,if_neg k1,if_pos hc1]
    refine q4 (AO O (AK O (AE.nil (AC.subF (sL [0,1,4,7,8,5] O) (AC.then_ ?_)))))
    exact AF.ret (AC.in_ret (AC.then_ret (AC.then_ret (AC.in_ret (AC.then_ret (AN O (Ab (v:=(vI 2)) O) (λw hw=>⟨by rw [hr]<;>rfl,hw.out⟩)))))))
   ·replace hc1:=of_decide_eq_false hc1
    have k2:=hc1
    have hr:QI t p = -1:=by unfold QI;rw [if_neg k0,if_neg k1,if_neg k2]
    refine AF.skip (AC.in_normal (AC.then_ (AF.region (AH (AW (c:=(3:Int)) O O (by decide)) O (AO O ?_)))))
    refine AE.nil (AC.subF (sL [0,1,4,7,8,5] O) (AC.again (Eb.step (q4 (AH (Af (c:=false) O O (by decide)) O ?_)))))
    refine AE.nil (q1 (AF.cond_false O (AF.exit (AC.then_exit (AC.then_exit ?_)))))
    refine AC.in_exit (q2 (AK O (AE.nil (AC.subF (sL [0,1,4,7,8,5] O) (AC.then_ ?_)))))
    exact AF.ret (AN O (Ab (v:=(vI (-1:Int))) O) (λw hw=>⟨by rw [hr]<;>rfl,hw.out⟩))
theorem QU (t:T3) (p:Nat) (y:RX (An t) 3) (w:World) {S:Nat->Prop} (hy:Ro S w y):Calls prog 61 #[(Value.slice y.p 3 y.c),(vN p)] w (Al w (Value.bool (Eu t p))):=by
 have ly:=En (W:=w) hy
 refine BC (args:=[(Value.slice y.p 3 y.c),(vN p)]) (L:=[Ag y.p (An t)]) func61 O O (Ad O) (Eo hy BR) (AF.subF (sL [0,1] O) (q4 (AK O (AE.nil (q2 ?_)))))
 refine AO O (AO O (D1 call113 (λw hw=>To t p y w (Dz hw 0 O ly)) O (AH (DW (c:=(Eu t p)) O O (SF t p)) O (AK O (AE.nil ?_)))))
 exact AC.subF (sL [4] O) (AC.then_ (AF.ret (AN O (Ab (v:=(Value.bool (Eu t p))) O) (λw hw=>⟨rfl,hw.out⟩))))
theorem Dr (x0:Pt) (x1:Pt) (x2:Pt):Instr.fill (λi=>some (i*10,10)) (GB ((⟨0,0⟩,⟨0,0⟩,⟨0,0⟩):Q3)).toArray [(0,.agg (Ah x0).toArray),(1,.agg (Ah x1).toArray),(2,.agg (Ah x2).toArray)]=some (Ah x0++Ah x1++Ah x2).toArray:=by kernel_rfl
theorem Il {ps:List Pt} {ts ss:List T3} (x:MX ps ts ss) (t:Nat) (ht:t<ts.length) (htl:ts.length<=1000000) (hp:ps.length<=1000000) (hk:K8 ps.length (ts.getD t (0,0,0))=true) (w:World) {S:Nat->Prop} (hx:Ro S w x):Calls prog 123 #[(aG (CM x)),(vN t)] w (Al w (aG (GB (Bd ps (ts.getD t (0,0,0)))))):=by
 obtain ⟨k1,k2,k3⟩:=C3 hk
 obtain ⟨T,hT⟩:∃q,q=ts.getD t (0,0,0):=⟨_,rfl⟩
 rw [<-hT] at k1 k2 k3
 have lx:=En (W:=w) hx
 refine BC (args:=[(aG (CM x)),(vN t)]) (L:=[Ag x.a.p (rowsL Ah ps),Ag x.b.p (rowsL An ts),Ag x.c.p (rowsL An ss)]) func123 O O (Ad O) (Eo hx BR) (AF.subF (sL [0,1] O) (q4 (Bi (cs:=CM x) O λb1=>al QA O λb2=>q3 (sL [1,2,4] O) ?_)))
 refine AH (v:=(pP b1 1)) (AA O underlying30 O sizeOf23 O) O (BJ 1 (Value.slice x.b.p ts.length x.b.c) DV O (AO O (AH (v:=(pP (pB x.b.p) (pO x.b.p+t*3))) (AR (j:=t) O O x.b.ok underlying23 sizeOf79 O Z) O (AH (v:=(aG (An (ts.getD t ((0,0,0):Nat×Nat×Nat))))) (AU (vs:=An (ts.getD t ((0,0,0):Nat×Nat×Nat))) (i:=3) O O (BO.ne x.b.ok Z) H0 (Ar BI _ _ _ Z) (BI _)) O (AE.retell (k:=10) (u:=(aG (An T))) O (by rw [hT]) ?_)))))
 refine al KN O λb3=>Av O sizeOf79 O (q6 (sL [2,4,5] O) (C2 [(0,true),(1,true),(2,true),(3,true),(4,true),(5,true),(6,true),(7,true),(8,true),(9,true),(10,true),(11,true),(12,true),(13,true),(14,true),(15,true),(16,true),(17,true),(18,true),(19,false)] (sk (sl sr)) (Ay (v:=(pP b1 0)) O (AA O underlying30 O sizeOf28 O) (Bl 1 (Value.slice x.a.p ps.length x.a.c) DE O ?_))))
 refine Ay (v:=(pP b3 0)) O (AD (j:=0) O O underlying79 sizeOf3 O (by decide) O) (Bl 0 (vN T.1) Bx O (Ay (v:=(pP (pB x.a.p) (pO x.a.p+T.1*10))) O (AR (j:=T.1) O O x.a.ok underlying28 sizeOf63 O Z) (Ay (v:=(aG (Ah (ps.getD T.1 (⟨0,0⟩:Pt))))) O (AU (vs:=Ah (ps.getD T.1 (⟨0,0⟩:Pt))) (i:=2) O O (BO.ne x.a.ok Z) BM (Ar BD _ _ _ Z) (BD _)) (Ay (v:=(pP b1 0)) O (AA O underlying30 O sizeOf28 O) (Bl 1 (Value.slice x.a.p ps.length x.a.c) DE O ?_)))))
 refine Ay (v:=(pP b3 1)) O (AD (j:=1) O O underlying79 sizeOf3 O (by decide) O) (Bl 0 (vN T.2.1) Bx O (Ay (v:=(pP (pB x.a.p) (pO x.a.p+T.2.1*10))) O (AR (j:=T.2.1) O O x.a.ok underlying28 sizeOf63 O Z) (Ay (v:=(aG (Ah (ps.getD T.2.1 (⟨0,0⟩:Pt))))) O (AU (vs:=Ah (ps.getD T.2.1 (⟨0,0⟩:Pt))) (i:=2) O O (BO.ne x.a.ok Z) BM (Ar BD _ _ _ Z) (BD _)) (Ay (v:=(pP b1 0)) O (AA O underlying30 O sizeOf28 O) (Bl 1 (Value.slice x.a.p ps.length x.a.c) DE O ?_)))))
 refine Ay (v:=(pP b3 2)) O (AD (j:=2) O O underlying79 sizeOf3 O (by decide) O) (Bl 0 (vN T.2.2) Bx O (Ay (v:=(pP (pB x.a.p) (pO x.a.p+T.2.2*10))) O (AR (j:=T.2.2) O O x.a.ok underlying28 sizeOf63 O Z) (Ay (v:=(aG (Ah (ps.getD T.2.2 (⟨0,0⟩:Pt))))) O (AU (vs:=Ah (ps.getD T.2.2 (⟨0,0⟩:Pt))) (i:=2) O O (BO.ne x.a.ok Z) BM (Ar BD _ _ _ Z) (BD _)) (Ay (v:=(aG (Ah (ps.getD T.1 (⟨0,0⟩:Pt))++Ah (ps.getD T.2.1 (⟨0,0⟩:Pt))++Ah (ps.getD T.2.2 (⟨0,0⟩:Pt))))) O (Aq (zs:=GB ((⟨0,0⟩,⟨0,0⟩,⟨0,0⟩):Q3)) (vs:=Ah (ps.getD T.1 (⟨0,0⟩:Pt))++Ah (ps.getD T.2.1 (⟨0,0⟩:Pt))++Ah (ps.getD T.2.2 (⟨0,0⟩:Pt))) (pv:=[(0,(aG (Ah (ps.getD T.1 (⟨0,0⟩:Pt))))),(1,(aG (Ah (ps.getD T.2.1 (⟨0,0⟩:Pt))))),(2,(aG (Ah (ps.getD T.2.2 (⟨0,0⟩:Pt)))))]) zeroValue201 underlying201 sizeOf63 O (Dr (ps.getD T.1 (⟨0,0⟩:Pt)) (ps.getD T.2.1 (⟨0,0⟩:Pt)) (ps.getD T.2.2 (⟨0,0⟩:Pt)))) (AS.imp O ?_)))))
 exact Ci O sizeOf201 O (AS.back (sk (sl sr)) (AS.nil (AC.subF (sL [2,4,5] O) (AC.then_ (AF.ret (AN O (A7 (i:=1) (cs:=Ah (ps.getD T.1 (⟨0,0⟩:Pt))++Ah (ps.getD T.2.1 (⟨0,0⟩:Pt))++Ah (ps.getD T.2.2 (⟨0,0⟩:Pt))) O O isAgg201 sizeOf201 O) (λw hw=>⟨by rw [<-hT];unfold Bd B9;rw [<-Uq],hw.out⟩)))))))
theorem KV (r p q:Pt) (bp:BX (Ah p)) (bq:BX (Ah q)) (hs:B4 p+B4 q+B4 r<=10000000) (w:World) {S:Nat->Prop} (hbp:Ro S w bp) (hbq:Ro S w bq):Calls prog 157 #[(aG (Ah r)),(pP bp.b 0),(pP bq.b 0)] w (Al w (Value.bool (K9 p q r))):=by
 have lbp:=En (W:=w) hbp
 have lbq:=En (W:=w) hbq
 refine BC (args:=[(aG (Ah r)),(pP bp.b 0),(pP bq.b 0)]) (L:=[Ag (some ⟨bp.b,0,none⟩) (Ah p),Ag (some ⟨bq.b,0,none⟩) (Ah q)]) func157 O O (Ad O) (Eo hbp (Eo hbq BR)) (AF.subF (sL [0,1,2] O) (q4 (Bi (cs:=Ah r) O λb1=>AK O (q3 (sL [1,2,3,4] O) ?_))))
 refine AH (v:=(aG (Ah p))) (AU (q:=some ⟨bp.b,0,none⟩) (vs:=Ah p) (off:=0) (i:=1) O O (λe=>by cases e) BM O O) O (AH (v:=(aG (Ah q))) (AU (q:=some ⟨bq.b,0,none⟩) (vs:=Ah q) (off:=0) (i:=2) O O (λe=>by cases e) BM O O) O (BA 0 BM O (BS call117 (Gq p q r Z) O (AH (CW (c:=(K9 p q r)) O O O) O (AK O ?_)))))
 exact AE.nil (AC.subF (sL [4] O) (AC.then_ (AF.ret (AN O (Ab (v:=(Value.bool (K9 p q r))) O) (λw hw=>⟨rfl,hw.out⟩)))))
theorem Tz (p q:Pt) (B:Q3) (bp:BX (Ah p)) (bq:BX (Ah q)) (bo:BX (GB B)) (hs:B4 p<=1000000/\B4 q<=1000000) (hB:B4 B.1<=1000000/\B4 B.2.1<=1000000/\B4 B.2.2<=1000000) (w:World) {S:Nat->Prop} (hbp:Ro S w bp) (hbq:Ro S w bq) (hbo:Ro S w bo):Calls prog 205 #[(Value.slice (some ⟨bo.b,0,none⟩) 3 3),(Value.func (.func 157) #[] #[(pP bp.b 0),(pP bq.b 0)])] w (Al w (vI (QL p q B))):=by
 have lbp:=En (W:=w) hbp
 have lbq:=En (W:=w) hbq
 have lbo:=En (W:=w) hbo
 refine BC (args:=[(Value.slice (some ⟨bo.b,0,none⟩) 3 3),(Value.func (.func 157) #[] #[(pP bp.b 0),(pP bq.b 0)])]) (L:=[Ag (some ⟨bp.b,0,none⟩) (Ah p),Ag (some ⟨bq.b,0,none⟩) (Ah q),Ag (some ⟨bo.b,0,none⟩) (GB B)]) func205 O O (Ad O) (Eo hbp (Eo hbq (Eo hbo BR))) (AF.subF (sL [0,1] O) (q4 (AK O (AE.nil (q1 ?_)))))
 refine q4 (AO O (AH (v:=(vI 3)) (AG O underlying28) O (AO O (AE.nil (AC.subF (sL [0,1,4,7,8] O) ?_)))))
 refine AC.then_ (AF.block (AF.unroll 4 (Eb.step (q4 (AH (Af (c:=true) O O (by decide)) O ?_)))))
 refine AE.nil (q1 (AF.cond_true O (AF.skip (q1 (AF.block ?_)))))
 refine q4 (AO O (AK O (q3 (sL [0,1,4,7,8,5] O) (AO O (AO O ?_)))))
 refine AO O (AH (v:=(pP bo.b 0)) (AI (j:=0) O O underlying28 sizeOf63 O Z O) O (AH (v:=(aG (Ah B.1))) (AU (q:=some ⟨bo.b,0,none⟩) (vs:=Ah B.1) (off:=0) (i:=2) O O (λe=>by cases e) BM O O) O (AE.call (v:=(Value.bool (K9 p q B.1))) (AP O) (Gb (args:=[(aG (Ah B.1))]) (caps:=[(pP bp.b 0),(pP bq.b 0)]) (all:=[(aG (Ah B.1)),(pP bp.b 0),(pP bq.b 0)]) O O O call157) (λw hw=>KV B.1 p q bp bq Z w (Dz hw 0 O lbp) (Dz hw 1 O lbq)) O (Ad O) (AE.nil (AC.subF (sL [0,1,4,7,8,5,16] O) ?_)))))
 refine AC.then_ ?_
 refine AF.cond O (λhc1=>?_) (λhc1=>?_)
 ·skip
  have hr:QL p q B=0:=by unfold QL;rw [if_pos hc1]
  refine q4 (AO O (AK O (AE.nil (AC.subF (sL [0,1,4,7,8,5] O) (AC.then_ ?_)))))
  exact AF.ret (AC.in_ret (AC.then_ret (AC.then_ret (AC.in_ret (AC.then_ret (AN O (Ab (v:=(vI 0)) O) (λw hw=>⟨by rw [hr]<;>rfl,hw.out⟩)))))))
 ·skip
  have k0:¬K9 p q B.1=true:=by simpa using hc1
  refine AF.skip (AC.in_normal (AC.then_ (AF.region (AH (AW (c:=(1:Int)) O O (by decide)) O (AO O ?_)))))
  refine AE.nil (AC.subF (sL [0,1,4,7,8,5] O) (AC.again (Eb.step (q4 (AH (Af (c:=true) O O (by decide)) O ?_)))))
  refine AE.nil (q1 (AF.cond_true O (AF.skip (q1 (AF.block ?_)))))
  refine q4 (AO O (AK O (q3 (sL [0,1,4,7,8,5] O) (AO O (AO O ?_)))))
  refine AO O (AH (v:=(pP bo.b 10)) (AI (j:=1) O O underlying28 sizeOf63 O Z O) O (AH (v:=(aG (Ah B.2.1))) (AU (q:=some ⟨bo.b,0,none⟩) (vs:=Ah B.2.1) (off:=10) (i:=2) O O (λe=>by cases e) BM O O) O (AE.call (v:=(Value.bool (K9 p q B.2.1))) (AP O) (Gb (args:=[(aG (Ah B.2.1))]) (caps:=[(pP bp.b 0),(pP bq.b 0)]) (all:=[(aG (Ah B.2.1)),(pP bp.b 0),(pP bq.b 0)]) O O O call157) (λw hw=>KV B.2.1 p q bp bq Z w (Dz hw 0 O lbp) (Dz hw 1 O lbq)) O (Ad O) (AE.nil (AC.subF (sL [0,1,4,7,8,5,16] O) ?_)))))
  refine AC.then_ ?_
  refine AF.cond O (λhc1=>?_) (λhc1=>?_)
  ·skip
   have hr:QL p q B=1:=by unfold QL;rw [if_neg k0,if_pos hc1]
   refine q4 (AO O (AK O (AE.nil (AC.subF (sL [0,1,4,7,8,5] O) (AC.then_ ?_)))))
   exact AF.ret (AC.in_ret (AC.then_ret (AC.then_ret (AC.in_ret (AC.then_ret (AN O (Ab (v:=(vI 1)) O) (λw hw=>⟨by rw [hr]<;>rfl,hw.out⟩)))))))
  ·skip
   have k1:¬K9 p q B.2.1=true:=by simpa using hc1
   refine AF.skip (AC.in_normal (AC.then_ (AF.region (AH (AW (c:=(2:Int)) O O (by decide)) O (AO O ?_)))))
   refine AE.nil (AC.subF (sL [0,1,4,7,8,5] O) (AC.again (Eb.step (q4 (AH (Af (c:=true) O O (by decide)) O ?_)))))
   refine AE.nil (q1 (AF.cond_true O (AF.skip (q1 (AF.block ?_)))))
   refine q4 (AO O (AK O (q3 (sL [0,1,4,7,8,5] O) (AO O (AO O ?_)))))
   refine AO O (AH (v:=(pP bo.b 20)) (AI (j:=2) O O underlying28 sizeOf63 O Z O) O (AH (v:=(aG (Ah B.2.2))) (AU (q:=some ⟨bo.b,0,none⟩) (vs:=Ah B.2.2) (off:=20) (i:=2) O O (λe=>by cases e) BM O O) O (AE.call (v:=(Value.bool (K9 p q B.2.2))) (AP O) (Gb (args:=[(aG (Ah B.2.2))]) (caps:=[(pP bp.b 0),(pP bq.b 0)]) (all:=[(aG (Ah B.2.2)),(pP bp.b 0),(pP bq.b 0)]) O O O call157) (λw hw=>KV B.2.2 p q bp bq Z w (Dz hw 0 O lbp) (Dz hw 1 O lbq)) O (Ad O) (AE.nil (AC.subF (sL [0,1,4,7,8,5,16] O) ?_)))))
   refine AC.then_ ?_
   refine AF.cond O (λhc1=>?_) (λhc1=>?_)
   ·skip
    have hr:QL p q B=2:=by unfold QL;rw [if_neg k0,if_neg k1,if_pos hc1]
    refine q4 (AO O (AK O (AE.nil (AC.subF (sL [0,1,4,7,8,5] O) (AC.then_ ?_)))))
    exact AF.ret (AC.in_ret (AC.then_ret (AC.then_ret (AC.in_ret (AC.then_ret (AN O (Ab (v:=(vI 2)) O) (λw hw=>⟨by rw [hr]<;>rfl,hw.out⟩)))))))
   ·skip
    have k2:¬K9 p q B.2.2=true:=by simpa using hc1
    have hr:QL p q B = -1:=by unfold QL;rw [if_neg k0,if_neg k1,if_neg k2]
    refine AF.skip (AC.in_normal (AC.then_ (AF.region (AH (AW (c:=(3:Int)) O O (by decide)) O (AO O ?_)))))
    refine AE.nil (AC.subF (sL [0,1,4,7,8,5] O) (AC.again (Eb.step (q4 (AH (Af (c:=false) O O (by decide)) O ?_)))))
    refine AE.nil (q1 (AF.cond_false O (AF.exit (AC.then_exit (AC.then_exit ?_)))))
    refine AC.in_exit (q2 (AK O (AE.nil (AC.subF (sL [0,1,4,7,8,5] O) (AC.then_ ?_)))))
    exact AF.ret (AN O (Ab (v:=(vI (-1:Int))) O) (λw hw=>⟨by rw [hr]<;>rfl,hw.out⟩))
theorem KZ (p q:Pt) (B:Q3) (bp:BX (Ah p)) (bq:BX (Ah q)) (bo:BX (GB B)) (hs:B4 p<=1000000/\B4 q<=1000000) (hB:B4 B.1<=1000000/\B4 B.2.1<=1000000/\B4 B.2.2<=1000000) (w:World) {S:Nat->Prop} (hbp:Ro S w bp) (hbq:Ro S w bq) (hbo:Ro S w bo):Calls prog 156 #[(Value.slice (some ⟨bo.b,0,none⟩) 3 3),(Value.func (.func 157) #[] #[(pP bp.b 0),(pP bq.b 0)])] w (Al w (Value.bool (Fd p q B))):=by
 have lbp:=En (W:=w) hbp
 have lbq:=En (W:=w) hbq
 have lbo:=En (W:=w) hbo
 refine BC (args:=[(Value.slice (some ⟨bo.b,0,none⟩) 3 3),(Value.func (.func 157) #[] #[(pP bp.b 0),(pP bq.b 0)])]) (L:=[Ag (some ⟨bp.b,0,none⟩) (Ah p),Ag (some ⟨bq.b,0,none⟩) (Ah q),Ag (some ⟨bo.b,0,none⟩) (GB B)]) func156 O O (Ad O) (Eo hbp (Eo hbq (Eo hbo BR))) (AF.subF (sL [0,1] O) (q4 (AK O (AE.nil (q2 ?_)))))
 refine AO O (AO O (D1 call205 (λw hw=>Tz p q B bp bq bo hs hB w (Dz hw 0 O lbp) (Dz hw 1 O lbq) (Dz hw 2 O lbo)) O (AH (DW (c:=(Fd p q B)) O O (R3 p q B)) O (AK O (AE.nil ?_)))))
 exact AC.subF (sL [4] O) (AC.then_ (AF.ret (AN O (Ab (v:=(Value.bool (Fd p q B))) O) (λw hw=>⟨rfl,hw.out⟩))))
set_option maxHeartbeats 1000000 in
theorem QP (A B:Q3) (hA:B4 A.1<=1000000/\B4 A.2.1<=1000000/\B4 A.2.2<=1000000) (hB:B4 B.1<=1000000/\B4 B.2.1<=1000000/\B4 B.2.2<=1000000) (w:World)  :Calls prog 124 #[(aG (GB A)),(aG (GB B))] w (Al w (Value.bool (Dn A B))):=by
 refine Ac (args:=[(aG (GB A)),(aG (GB B))]) func124 O O (Ad O) (AF.subF (sL [0,1] O) (q4 (Bi (cs:=GB A) O λb1=>Bi (cs:=GB B) O λb2=>AE.frzX 0 O O λhnb2=>?_)))
 refine AK O (q6 (sL [2,3,4] O) (q4 (AO O (AE.nil (AC.then_ ?_)))))
 refine AF.block (AF.unroll 4 (Eb.step (q4 (AH (Af (c:=true) O O (by decide)) O (AE.nil ?_)))))
 refine q1 (AF.cond_true O (AF.skip (q1 (AF.block (q4 ?_)))))
 refine AO O (AK O (q6 (sL [2,3,4,8,5] O) (rN [(0,true),(1,true),(2,true),(3,true),(4,true),(5,true),(6,true),(7,true)] [⟨8,6,63,Ah (⟨0,0⟩:Pt)⟩,⟨9,7,63,Ah (⟨0,0⟩:Pt)⟩] [(10,false),(11,false)] sr (by kernel_rfl) (λ_ _ d _ _ h=>by cases d<;>exact h) (EV O O E7 O (EV O O E7 O (Gn))) O (JW O (E1 (v:=(pP b1 0)) O (AD (j:=0) O O underlying201 sizeOf63 O (by decide) O) O ?_)))))
 refine QE 1 (Ah A.1) BM O (JW O (E1 O (AW (c:=(1:Int)) O O (by decide)) O (E1 O (Bz (c:=(1:Int)) O O (by decide) (by decide)) O (E1 (v:=(pP b1 10)) O (AD (j:=1) O O underlying201 sizeOf63 O (by decide) O) O (QE 1 (Ah A.2.1) BM O ?_)))))
 refine B6.news2 λb3 b4=>AS.imp O (Av O sizeOf63 O (AS.back (sl (sl sr)) (AS.imp O (Ci O sizeOf63 O ?_))))
 refine AS.back (sl (sl sr)) (AS.nil (AC.subF (sL [2,3,4,8,7,6] O) (q2 (AH (v:=(Value.slice (some ⟨b2,0,none⟩) 3 3)) (DT O underlying201 sizeOf63 (by decide)) O (AE.frzX 0 O O λhnb3=>?_)))))
 refine AE.frzX 1 O O λhnb4=>AH (v:=(Value.func (.func 157) #[] #[(pP b3 0),(pP b4 0)])) (EY (vs:=[]) (us:=[(pP b3 0),(pP b4 0)]) O O) O (D1 call156 (λw hw=>KZ A.1 A.2.1 B ⟨b3⟩ ⟨b4⟩ ⟨b2⟩ Z hB w (Rj (S:=λ_=>False) (x:=(⟨b3⟩:BX (Ah A.1))) hw 0 O hnb3) (Rj (S:=λ_=>False) (x:=(⟨b4⟩:BX (Ah A.2.1))) hw 1 O hnb4) (Rj (S:=λ_=>False) (x:=(⟨b2⟩:BX (GB B))) hw 2 O hnb2)) O (AH (BV (c:=(!(Fd A.1 A.2.1 B))) O O) O (AE.nil (AC.subF (sL [2,3,4,8,7,6,22] O) ?_))))
 refine AC.then_ ?_
 refine AF.cond O (λhc1=>?_) (λhc1=>?_)
 ·simp only [Bool.and_eq_true,Bool.or_eq_true,Bool.and_eq_false_iff,Bool.or_eq_false_iff,Bool.not_eq_true',Bool.not_eq_false',decide_eq_true_eq,decide_eq_false_iff_not] at hc1
  have hr:Dn A B=true:=by unfold Dn;rw [(by simpa using hc1:Fd A.1 A.2.1 B=false)];simp
  refine q4 (AK O (AE.nil (AC.then_ (AF.ret (AC.in_ret ?_)))))
  exact AC.then_ret (AC.then_ret (AC.in_ret (AC.then_ret (AN O (Ab (v:=(Value.bool true)) O) (λw hw=>⟨by rw [hr],hw.out⟩)))))
 ·simp only [Bool.and_eq_true,Bool.or_eq_true,Bool.and_eq_false_iff,Bool.or_eq_false_iff,Bool.not_eq_true',Bool.not_eq_false',decide_eq_true_eq,decide_eq_false_iff_not] at hc1
  have k0:Fd A.1 A.2.1 B=true:=by simpa using hc1
  refine AF.skip (AC.in_normal (AC.then_ (AF.region (AH (AW (c:=(1:Int)) O O (by decide)) O (AO O ?_)))))
  refine AE.nil (AC.subF (sL [2,3,4,8,7,6] O) (AC.again (Eb.step (q4 (AH (Af (c:=true) O O (by decide)) O ?_)))))
  refine AE.nil (q1 (AF.cond_true O (AF.skip (q1 (AF.block ?_)))))
  refine q4 (AO O (AK O (q6 (sL [2,3,4,8,7,6,5] O) (AF.subF (sL [2,3,4,8,5] O) (rN [(0,true),(1,true),(2,true),(3,true),(4,true),(5,true),(6,true),(7,true)] [⟨8,6,63,Ah (⟨0,0⟩:Pt)⟩,⟨9,7,63,Ah (⟨0,0⟩:Pt)⟩] [(10,false),(11,false)] sr (by kernel_rfl) (λ_ _ d _ _ h=>by cases d<;>exact h) (EV O O E7 O (EV O O E7 O (Gn))) O ?_)))))
  refine JW O (E1 (v:=(pP b1 10)) O (AD (j:=1) O O underlying201 sizeOf63 O (by decide) O) O (QE 3 (Ah A.2.1) BM O (JW O (E1 O (AW (c:=(2:Int)) O O (by decide)) O (E1 O (Bz (c:=(2:Int)) O O (by decide) (by decide)) O ?_)))))
  refine E1 (v:=(pP b1 20)) O (AD (j:=2) O O underlying201 sizeOf63 O (by decide) O) O (QE 3 (Ah A.2.2) BM O (B6.news2 λb5 b6=>AS.imp O (Av O sizeOf63 O (AS.back (sl (sl sr)) ?_))))
  refine AS.imp O (Ci O sizeOf63 O (AS.back (sl (sl sr)) (AS.nil (AC.subF (sL [2,3,4,8,7,6] O) (q2 ?_)))))
  refine AH (v:=(Value.slice (some ⟨b2,0,none⟩) 3 3)) (DT O underlying201 sizeOf63 (by decide)) O (AE.frzX 0 O O λhnb5=>AE.frzX 1 O O λhnb6=>AH (v:=(Value.func (.func 157) #[] #[(pP b5 0),(pP b6 0)])) (EY (vs:=[]) (us:=[(pP b5 0),(pP b6 0)]) O O) O (D1 call156 (λw hw=>KZ A.2.1 A.2.2 B ⟨b5⟩ ⟨b6⟩ ⟨b2⟩ Z hB w (Rj (S:=λ_=>False) (x:=(⟨b5⟩:BX (Ah A.2.1))) hw 0 O hnb5) (Rj (S:=λ_=>False) (x:=(⟨b6⟩:BX (Ah A.2.2))) hw 1 O hnb6) (Rj (S:=λ_=>False) (x:=(⟨b2⟩:BX (GB B))) hw 4 O hnb2)) O (AH (BV (c:=(!(Fd A.2.1 A.2.2 B))) O O) O ?_)))
  refine AE.nil (AC.subF (sL [2,3,4,8,7,6,22] O) (AC.then_ ?_))
  refine AF.cond O (λhc1=>?_) (λhc1=>?_)
  ·simp only [Bool.and_eq_true,Bool.or_eq_true,Bool.and_eq_false_iff,Bool.or_eq_false_iff,Bool.not_eq_true',Bool.not_eq_false',decide_eq_true_eq,decide_eq_false_iff_not] at hc1
   have hr:Dn A B=true:=by unfold Dn;rw [k0,(by simpa using hc1:Fd A.2.1 A.2.2 B=false)];simp
   refine q4 (AK O (AE.nil (AC.then_ (AF.ret (AC.in_ret ?_)))))
   exact AC.then_ret (AC.then_ret (AC.in_ret (AC.then_ret (AN O (Ab (v:=(Value.bool true)) O) (λw hw=>⟨by rw [hr],hw.out⟩)))))
  ·simp only [Bool.and_eq_true,Bool.or_eq_true,Bool.and_eq_false_iff,Bool.or_eq_false_iff,Bool.not_eq_true',Bool.not_eq_false',decide_eq_true_eq,decide_eq_false_iff_not] at hc1
   have k1:Fd A.2.1 A.2.2 B=true:=by simpa using hc1
   refine AF.skip (AC.in_normal (AC.then_ (AF.region (AH (AW (c:=(2:Int)) O O (by decide)) O (AO O ?_)))))
   refine AE.nil (AC.subF (sL [2,3,4,8,7,6] O) (AC.again (Eb.step (q4 (AH (Af (c:=true) O O (by decide)) O ?_)))))
   refine AE.nil (q1 (AF.cond_true O (AF.skip (q1 (AF.block ?_)))))
   refine q4 (AO O (AK O (q6 (sL [2,3,4,8,7,6,5] O) (AF.subF (sL [2,3,4,8,5] O) (rN [(0,true),(1,true),(2,true),(3,true),(4,true),(5,true),(6,true),(7,true)] [⟨8,6,63,Ah (⟨0,0⟩:Pt)⟩,⟨9,7,63,Ah (⟨0,0⟩:Pt)⟩] [(10,false),(11,false)] sr (by kernel_rfl) (λ_ _ d _ _ h=>by cases d<;>exact h) (EV O O E7 O (EV O O E7 O (Gn))) O ?_)))))
   refine JW O (E1 (v:=(pP b1 20)) O (AD (j:=2) O O underlying201 sizeOf63 O (by decide) O) O (QE 5 (Ah A.2.2) BM O (JW O (E1 O (AW (c:=(3:Int)) O O (by decide)) O (E1 O (Bz (c:=(0:Int)) O O (by decide) (by decide)) O ?_)))))
   refine E1 (v:=(pP b1 0)) O (AD (j:=0) O O underlying201 sizeOf63 O (by decide) O) O (QE 5 (Ah A.1) BM O (B6.news2 λb7 b8=>AS.imp O (Av O sizeOf63 O (AS.back (sl (sl sr)) ?_))))
   refine AS.imp O (Ci O sizeOf63 O (AS.back (sl (sl sr)) (AS.nil (AC.subF (sL [2,3,4,8,7,6] O) (q2 ?_)))))
   refine AH (v:=(Value.slice (some ⟨b2,0,none⟩) 3 3)) (DT O underlying201 sizeOf63 (by decide)) O (AE.frzX 0 O O λhnb7=>AE.frzX 1 O O λhnb8=>AH (v:=(Value.func (.func 157) #[] #[(pP b7 0),(pP b8 0)])) (EY (vs:=[]) (us:=[(pP b7 0),(pP b8 0)]) O O) O (D1 call156 (λw hw=>KZ A.2.2 A.1 B ⟨b7⟩ ⟨b8⟩ ⟨b2⟩ Z hB w (Rj (S:=λ_=>False) (x:=(⟨b7⟩:BX (Ah A.2.2))) hw 0 O hnb7) (Rj (S:=λ_=>False) (x:=(⟨b8⟩:BX (Ah A.1))) hw 1 O hnb8) (Rj (S:=λ_=>False) (x:=(⟨b2⟩:BX (GB B))) hw 6 O hnb2)) O (AH (BV (c:=(!(Fd A.2.2 A.1 B))) O O) O ?_)))
   refine AE.nil (AC.subF (sL [2,3,4,8,7,6,22] O) (AC.then_ ?_))
   refine AF.cond O (λhc1=>?_) (λhc1=>?_)
   ·simp only [Bool.and_eq_true,Bool.or_eq_true,Bool.and_eq_false_iff,Bool.or_eq_false_iff,Bool.not_eq_true',Bool.not_eq_false',decide_eq_true_eq,decide_eq_false_iff_not] at hc1
    have hr:Dn A B=true:=by unfold Dn;rw [k0,k1,(by simpa using hc1:Fd A.2.2 A.1 B=false)];simp
    refine q4 (AK O (AE.nil (AC.then_ (AF.ret (AC.in_ret ?_)))))
    exact AC.then_ret (AC.then_ret (AC.in_ret (AC.then_ret (AN O (Ab (v:=(Value.bool true)) O) (λw hw=>⟨by rw [hr],hw.out⟩)))))
   ·simp only [Bool.and_eq_true,Bool.or_eq_true,Bool.and_eq_false_iff,Bool.or_eq_false_iff,Bool.not_eq_true',Bool.not_eq_false',decide_eq_true_eq,decide_eq_false_iff_not] at hc1
    have k2:Fd A.2.2 A.1 B=true:=by simpa using hc1
    have hr:Dn A B=false:=by unfold Dn;rw [k0,k1,k2];rfl
    refine AF.skip (AC.in_normal (AC.then_ (AF.region (AH (AW (c:=(3:Int)) O O (by decide)) O (AO O ?_)))))
    refine AE.nil (AC.subF (sL [2,3,4,8,7,6] O) (AC.again (Eb.step (q4 (AH (Af (c:=false) O O (by decide)) O ?_)))))
    refine AE.nil (q1 (AF.cond_false O (AF.exit (AC.then_exit (AC.then_exit ?_)))))
    refine AC.in_exit (q2 (AK O (AE.nil (AC.subF (sL [2,3,4,8,7,6] O) (AC.then_ ?_)))))
    exact AF.ret (AN O (Ab (v:=(Value.bool false)) O) (λw hw=>⟨by rw [hr],hw.out⟩))
end
end Go.Proofs.YtfbomiejpbchdaaGreatDoor
