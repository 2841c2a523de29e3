import Derived.WideKeyEntry
import Derived.Test.YtfbomiejpbchdaaGreatDoorPart06
import Derived.Test.YtfbomiejpbchdaaGreatDoorPart15
import Derived.Test.YtfbomiejpbchdaaGreatDoorPart22
import Derived.Test.YtfbomiejpbchdaaGreatDoorPart23
import Derived.Test.YtfbomiejpbchdaaGreatDoorPart28
import Derived.Test.YtfbomiejpbchdaaGreatDoorPart30
namespace Go.Proofs.YtfbomiejpbchdaaGreatDoor
open Go Go.RowKit Go.Proofs.Tryz
set_option linter.unusedVariables false
set_option linter.unusedSimpArgs false
section
set_option maxRecDepth 100000
theorem JJ {ps:List Pt} {ts ss:List (Nat×Nat×Nat)} (x:MX ps ts ss) (hl:ts.length<=1000000000) (hN:ps.length<=4611686018427387904) (hnb:Bn ps.length ts=true) (w:World) {S:Nat->Prop} (hx:Ro S w x):Calls prog 16 #[(aG (Cm x))] w (CF (RX (rowsL B8 (edL ts)) (edL ts).length) S w):=by
 have lx:=Ep (W:=w) hx
 refine BF (args:=[(aG (Cm x))]) (L:=[Ah x.a.p (rowsL Aj ps),Ah x.b.p (rowsL Am ts),Ah x.c.p (rowsL Am ss)]) func16 O O (Ad O) (En hx BQ) (AF.subF (sL [0] O) (q4 (Bk (cs:=Cm x) O λb1=>AJ O (q6 (sL [1,2] O) ?_))))
 refine q4 (BE 0 Dd O (Ef (args:=[(aG (Cm x))]) (v:=(Value.bool true)) call48 (λw hw=>(by have h9:=PG x Z w (D_ hw 1 O lx);rw [hnb] at h9;exact h9)) O (AH (BY (c:=false) O O) O (AE.nil (AD.subF (sL [1,2,5] O) ?_)))))
 refine AD.then_ (AF.cond_false O (AF.skip (q2 (AH (v:=(pP b1 1)) (AA O underlying30 O sizeOf23 O) O (BN 0 (Value.slice x.b.p ts.length x.b.c) C_ O ?_)))))
 exact cX (S:=S) (cs:=rowsL B8 (edL ts)) (k:=(edL ts).length) (args:=[(Value.slice x.b.p ts.length x.b.c)]) call49 (λw hw=>Mj ts x.b ps.length hnb hN hl w (RJ (D_ hw 1 O lx))) O O O λo lo=>AJ O (AE.nil (AD.subF (sL [1,2] O) (AD.then_ (AF.ret (AN O (Ac (v:=(Value.slice o.p ((edL ts).length) o.c)) O) (λw hw=>Xx hw (D_ hw 0 O lo) O))))))
end
section
theorem WJ {a b:Nat} (ha:a<4611686018427387904) (hb:b<4611686018427387904):O6 (a,b):=⟨ha,hb⟩
def Co {α β:Type} [DecidableEq α]:List (α×β)->α->Nat
  | [],_=>0
  | (k,v)::r,x=>if x=k then 0 else Co r x+1
section
variable {α β:Type} {enc:α->Value} {eV:β->Value} {ok:α->Prop} {P:Program} {kt:TypeId} {n:Nat} {F:List (Nat×Value)} {w0:BK} {L:List As} {d:Nat} {mp kp vp sp:Operand} {t:TypeId} {pp:String} {af:Array Edge} {g:Option (Nat×Bool)} {tx et:TypeId} {b:Nat} {ops:Array Oper} {rest:List Oper} {Q:Exit->Act->World->Prop}
def Nb {α β:Type} [DecidableEq α] (b:Nat) (enc:α->Value) (eV:β->Value) (kvs:List (α×β)) (x:α) (v:β):As:=⟨some b,λo=>o=.map (entsM enc eV kvs 0).toArray kvs.length\/o=.map (entsM enc eV (Bc kvs x v) 0).toArray (Bc kvs x v).length,false⟩
variable [DecidableEq α]
theorem LR:∀{kvs:List (α×β)} {x:α} {v:β},BG kvs x=some v->Bc kvs x v=kvs
  | (k,u)::r,x,v,h=>by
    unfold BG at h
    unfold Bc
    split at h
    · rename_i e;injection h with h;rw [if_pos e,h]
    · rename_i e;rw [if_neg e,LR h]
theorem HT:∀{kvs:List (α×β)} {x:α} {v:β},(Bc kvs x v)[Co kvs x]?=some (x,v)
  | [],_,_=>rfl
  | (k,u)::r,x,v=>by
    unfold Bc Co
    split
    · rename_i e;rw [List.getElem?_cons_zero,e]
    · rw [List.getElem?_cons_succ,HT]
theorem Mq {x:α} {u v:β}:∀{kvs:List (α×β)},(Bc kvs x u).set (Co kvs x) (x,v)=Bc kvs x v
  | []=>rfl
  | (k,w)::r=>by
    by_cases e:x=k
    · simp [Bc,Co,e]
    · simp [Bc,Co,e,Mq]
theorem M6:∀{kvs:List (α×β)} {j:Nat} {x:α} {v:β},kvs.Pairwise (λp q=>p.1≠q.1)->kvs[j]?=some (x,v)->Co kvs x=j
  | (k,u)::r,0,x,v,_,h=>by
    simp only [List.getElem?_cons_zero,Option.some.injEq,Prod.mk.injEq] at h
    rw [Co,if_pos h.1.symm]
  | (k,u)::r,j+1,x,v,hp,h=>by
    obtain ⟨h1,h2⟩:=List.pairwise_cons.1 hp
    rw [List.getElem?_cons_succ] at h
    rw [Co,if_neg (λe=>h1 (x,v) (List.mem_of_getElem? h) e.symm),M6 h2 h]
theorem Jq:∀{kvs:List (α×β)} {x:α},(∀p∈kvs,p.1≠x)->Co kvs x=kvs.length
  | [],_,_=>rfl
  | (k,v)::r,x,h=>by
    rw [Co,if_neg (λe=>h (k,v) List.mem_cons_self e.symm),Jq λp hp=>h p (List.mem_cons_of_mem _ hp)];rfl
theorem U6 {i:Nat} {kvs:List (α×β)} (x:α) (v:β) (hi:L[i]?=some (DJ b enc eV kvs)):Wk (L.set i (Nb b enc eV kvs x v)) L:=λw0 w hw=>by
  exact hw.freeze (i:=i) (y:=Nb b enc eV kvs x v) hi O (λo h=>.inl h) (λe=>by cases e)
theorem SO {i:Nat} {kvs:List (α×β)} (x:α) (v:β) (hi:L[i]?=some (DJ b enc eV (Bc kvs x v))):Wk (L.set i (Nb b enc eV kvs x v)) L:=λw0 w hw=>by
  exact hw.freeze (i:=i) (y:=Nb b enc eV kvs x v) hi O (λo h=>.inr h) (λe=>by cases e)
theorem X8 (i:Nat) {kvs:List (α×β)} {x:α} {v:β} {LA:List As} (hi:L[i]?=some (DJ b enc eV kvs)) (hs:Mz L i (Nb b enc eV kvs x v)=some LA):Wk LA L:=GX hs▸U6 x v hi
theorem Vw (i:Nat) {kvs:List (α×β)} {x:α} {v:β} {LA:List As} (hi:L[i]?=some (DJ b enc eV (Bc kvs x v))) (hs:Mz L i (Nb b enc eV kvs x v)=some LA):Wk LA L:=GX hs▸SO x v hi
theorem Gx (K:OO P kt enc ok) (i:Nat) {kvs:List (α×β)} {x:α} {z0 v:β} {dd:Option Tmp} (hx:evF F mp=some (.map (some b))) (hk:evF F kp=some (enc x)) (ht:P.underlying tx=some (.map kt et)) (hz:∀w,(zeroValue et).run P w=.ok (eV z0) w) (hi:L[i]?=some (Nb b enc eV kvs x v)) (hm:Kc ok kvs) (hok:ok x) (hv:v=(BG kvs x).getD z0) :
    Ex P n F w0 L ⟨dd,.lookup tx mp kp false,t,pp,af,g⟩ (eV v):=λA w ha hw=>by
  obtain ⟨_,o,ho,hp⟩:=hw.2.1 _ (List.mem_of_getElem? hi) b rfl
  obtain ⟨lx,hlx⟩:=K.key x hok
  have hc:=λem=>K.law.check w em hlx
  have key:∀kvs':List (α×β),Kc ok kvs'->(BG kvs' x).getD z0=v->w.heap[b]?=some (.map (entsM enc eV kvs' 0).toArray kvs'.length)->(execOp A.eval ⟨dd,.lookup tx mp kp false,t,pp,af,g⟩).run P w=.ok (.value (eV v)) w:=λkvs' hm' hg ho=>by
    rcases GT (eV:=eV) K hm' hok w with ⟨h1,_,h2⟩|⟨j,u,_,h1,h2⟩
    · rw [h1] at hg
      simp only [execOp,ha.ev hx,ha.ev hk,Instr.lookup,Sem.run_bind,run_underlying ht,CL ho,Result.andThen_ok,Sem.run_pure,hc,List.toList_toArray,h2,hz]
      rw [<-hg];rfl
    · rw [h1] at hg
      simp only [execOp,ha.ev hx,ha.ev hk,Instr.lookup,Sem.run_bind,run_underlying ht,CL ho,Result.andThen_ok,Sem.run_pure,hc,List.toList_toArray,h2]
      rw [<-hg];rfl
  rcases hp with hp|hp
  · exact key kvs hm hv.symm (by rw [ho,hp])
  · exact key (Bc kvs x v) (hm.put hok) (by rw [DF,if_pos O];rfl) (by rw [ho,hp])
theorem AE.mapEntry (K:OO P kt enc ok) (i:Nat) {kvs:List (α×β)} {x:α} {z0 v:β} (hx:evF F mp=some (.map (some b))) (hk:evF F kp=some (enc x)) (ht:P.underlying tx=some (.map kt et)) (hz:∀w,(zeroValue et).run P w=.ok (eV z0) w) (hi:L[i]?=some (DJ b enc eV kvs)) (hm:Kc ok kvs) (hok:ok x) (hv:v=(BG kvs x).getD z0) (hd:Nat.ble (d+1) n=true)
    (next:AE P ops rest Q n ((d,.tuple #[eV v,vN (Co kvs x)])::F) w0 (L.set i (DJ b enc eV (Bc kvs x v)))):AE P ops (⟨some d,.mapEntry tx mp kp,t,pp,af,none⟩::rest) Q n F w0 L:=λa w ha hW=>by
  obtain ⟨_,o,ho,hp⟩:=hW.2.1 _ (List.mem_of_getElem? hi) b rfl
  have ho:w.heap[b]?=some (.map (entsM enc eV kvs 0).toArray kvs.length):=by rw [ho,hp]
  obtain ⟨lx,hlx⟩:=K.key x hok
  have hc:=λem=>K.law.check w em hlx
  have hst:=K.law.stays w hlx
  have hrun:(execOp a.eval ⟨some d,.mapEntry tx mp kp,t,pp,af,none⟩).run P w=.ok (.value (.tuple #[eV v,vN (Co kvs x)])) (Go.ChangeMaps.setBlock w b (.map (entsM enc eV (Bc kvs x v) 0).toArray (Bc kvs x v).length)):=by
    rcases GT (eV:=eV) K hm hok w with ⟨h0,h1,h2⟩|⟨j,u,hj,h1,h2⟩
    · rw [h0] at hv
      simp only [Option.getD_none] at hv
      subst hv
      rw [Hv h1,Jq h1,Fg,List.length_append]
      simp only [execOp,ha.ev hx,ha.ev hk,Instr.mapEntry,Sem.run_bind,run_underlying ht,CL ho,Result.andThen_ok,hc,List.toList_toArray,h2,hz,Dn ho,Sem.run_pure,List.push_toArray,Nat.zero_add,List.length_singleton]
      rfl
    · rw [h1] at hv
      simp only [Option.getD_some] at hv
      subst hv
      rw [LR h1,M6 hm.once hj]
      have e1:(entsM enc eV kvs 0)[j]?=some ⟨enc x,eV v,0+j⟩:=by rw [Ci,hj];rfl
      have e2:=GJ (enc:=enc) (eV:=eV) (y:=v) hj
      have e3:kvs.set j (x,v)=kvs:=by
        apply List.ext_getElem?
        intro q
        rw [List.getElem?_set]
        split
        · rename_i e;subst e;split
          · exact hj.symm
          · rename_i h9;rw [List.getElem?_eq_none Z]
        · rfl
      rw [e3] at e2
      have e4:(entsM enc eV kvs 0).toArray.modify j (λe=>{ e with key:=enc x })=(entsM enc eV kvs 0).toArray:=by
        apply Array.ext_getElem?
        intro q
        rw [Array.getElem?_modify]
        simp only [List.getElem?_toArray]
        split
        · rename_i e;subst e;rw [e1];rfl
        · rfl
      simp only [execOp,ha.ev hx,ha.ev hk,Instr.mapEntry,Sem.run_bind,run_underlying ht,CL ho,Result.andThen_ok,hc,List.toList_toArray,List.getElem?_toArray,h2,e1,hst,e4,Dn ho,Sem.run_pure,Option.map_some,Option.getD_some]
      simp [goInt,e1,hst,e4,Dn ho,Result.andThen]
  unfold wpList
  rw [if_pos (AQ rfl a ha)]
  left
  unfold Oper.wp
  rw [hrun,Oper.upon_value]
  exact next _ _ (ha.put (B3 hd)) (hW.turn hi O O (EB _ _ _) ⟨_,Eo ho,rfl⟩)
theorem AE.entryStore (i:Nat) {kvs:List (α×β)} {x:α} {u y:β} (hx:evF F mp=some (.map (some b))) (hs:evF F sp=some (vN (Co kvs x))) (hv:evF F vp=some (eV y)) (hi:L[i]?=some (DJ b enc eV (Bc kvs x u)))
    (next:AE P ops rest Q n F w0 (L.set i (DJ b enc eV (Bc kvs x y)))):AE P ops (⟨none,.entryStore tx mp sp vp,t,pp,af,none⟩::rest) Q n F w0 L:=λa w ha hW=>by
  obtain ⟨_,o,ho,hp⟩:=hW.2.1 _ (List.mem_of_getElem? hi) b rfl
  have ho:w.heap[b]?=some (.map (entsM enc eV (Bc kvs x u) 0).toArray (Bc kvs x u).length):=by rw [ho,hp]
  have hf:=HT (kvs:=kvs) (x:=x) (v:=u)
  have hlt:Co kvs x<(Bc kvs x u).length:=(List.getElem?_eq_some_iff.1 hf).1
  have e0:(entsM enc eV (Bc kvs x u) 0)[Co kvs x]?=some ⟨enc x,eV u,Co kvs x⟩:=by rw [Ci,hf];simp
  have hnd:((entsM enc eV (Bc kvs x u) 0).map (·.born)).Nodup:=by
    have e1:∀(l:List (α×β)) (s:Nat),(entsM enc eV l s).map (·.born)=List.range' s l.length:=by
      intro l
      induction l with
      | nil=>intro s;rfl
      | cons p r ih=>intro s;rw [entsM,List.map_cons,ih,List.length_cons,List.range'_succ]
    rw [e1];exact List.nodup_range'
  have hidx:(entsM enc eV (Bc kvs x u) 0).toArray.findIdx? (λe=>((e.born:Nat):Int) == ((Co kvs x:Nat):Int))=some (Co kvs x):=by
    rw [WideElems.findIdx_arr]
    exact WideElems.findIdx_born hnd e0
  have hset:(Bc kvs x u).set (Co kvs x) (x,y)=Bc kvs x y:=Mq
  have hmod:=GJ (enc:=enc) (eV:=eV) (y:=y) hf
  have hmod2:(entsM enc eV (Bc kvs x u) 0).toArray.modify (Co kvs x) (λe=>{ e with val:=eV y })=(entsM enc eV (Bc kvs x y) 0).toArray:=by
    rw [<-hset,<-hmod]
    apply Array.ext_getElem?
    intro q
    rw [Array.getElem?_modify,Array.getElem?_modify]
    simp only [List.getElem?_toArray]
    split
    · rename_i e;subst e;rw [e0];rfl
    · rfl
  have hl2:(Bc kvs x y).length=(Bc kvs x u).length:=by rw [<-hset,List.length_set]
  have hrun:(execOp a.eval ⟨none,.entryStore tx mp sp vp,t,pp,af,none⟩).run P w=.ok .skip (Go.ChangeMaps.setBlock w b (.map (entsM enc eV (Bc kvs x y) 0).toArray (Bc kvs x y).length)):=by
    rw [<-hmod2,hl2]
    simp only [execOp,ha.ev hx,ha.ev hs,ha.ev hv,Instr.entryStore,Sem.run_bind,CL ho,Result.andThen_ok,asInt,asIntOf,Sem.run_pure,hidx,Dn ho]
  unfold wpList
  rw [if_pos (AQ rfl a ha)]
  left
  unfold Oper.wp
  rw [hrun,Oper.upon_skip]
  exact next _ _ ha.put_none (hW.turn hi O O (EB _ _ _) ⟨_,Eo ho,rfl⟩)
end
end
section
set_option maxRecDepth 100000
theorem Rc (p:Option Addr) (n cp:Nat) (h:n<=cp) (w:World)  :Calls prog 68 #[(Value.slice p n cp)] w (Ak w (Value.slice p n n)):=by
 refine Ab (args:=[(Value.slice p n cp)]) func68 O O (Ad O) (AF.subF (sL [0] O) (q4 (AJ O (AE.nil (q2 ?_)))))
 refine AP O (AP O (AH (v:=(vN n)) (AG O underlying28) O (AP O (AH (v:=(vN n)) (AG O underlying28) O (AH (v:=(Value.slice p n n)) (Dr (m:=n) O O O underlying28 sizeOf63 Z) O ?_)))))
 exact AJ O (AE.nil (AD.subF (sL [2] O) (AD.then_ (AF.ret (AN O (Ac (v:=(Value.slice p n n)) O) (λw hw=>⟨rfl,hw.out⟩))))))
theorem K8 (ts:List Pt) (x:RX (rowsL Aj ts) ts.length) (hl:ts.length<=1000000000) (w:World) {S:Nat->Prop} (hx:Ro S w x):Calls prog 69 #[(Value.slice x.p ts.length x.c)] w (Gr WW (Uz (T:=63) (z:=10) (cs:=rowsL Aj ts) (n:=ts.length)) S w):=by
 have lx:=Ep (W:=w) hx
 refine BF (args:=[(Value.slice x.p ts.length x.c)]) (L:=[Ah x.p (rowsL Aj ts)]) func69 O O (Ad O) (En hx BQ) (AF.subF (sL [0] O) (q4 (AJ O (AE.nilRow 63 10 (AE.nil ?_)))))
 refine q1 (q4 (AP O (AH (v:=(Value.bool x.p.isNone)) (G1 O O underlying28) O (AE.nil (AD.subF (sL [0,2,4] O) ?_)))))
 refine AD.then_ ?_
 refine AF.cond O (λhc0=>?_) (λhc0=>?_)
 ·skip
  have hts:ts=[]:=List.eq_nil_of_length_eq_zero (x.ok.nil (Option.isNone_iff_eq_none.1 hc0)).1
  refine q4 (AJ O (AE.nilRow 63 10 (AE.nil (AD.then_ (AF.ret ?_)))))
  exact AD.then_ret (AN O (Ac (v:=(Value.slice none 0 0)) O) (λw hw=>(by subst hts;exact Mr hw (OX.mk none 0 OwnOk.none) (by exact (sk (sl (sl sr)))) (G0.own O G0.nil) (by show Value.slice none 0 0=_;rfl))))
 ·skip
  refine AF.skip (q2 (AE.openV (V:=λb1=>(Value.slice (some ⟨b1,0,none⟩) 0 0)) (T:=63) (cs:=[]) (AQ O) (IC underlying28 sizeOf63) O (Ad O) λb1=>AE.asRow0 (z:=10) 0 O Z λho_b1=>AP O (AE.appendE0 XZ O ho_b1 O (VH (k:=2) O x.ok) (Ag BJ _) (EM Tq _) (JH Z) Z O λp_1 c_1 ho_1=>?_)))
  exact AJ O (AE.nil (AD.subF (sL [0,2] O) (AD.then_ (AF.ret (AN O (Ac (v:=(Value.slice p_1 ts.length c_1)) O) (λw hw=>(Mr hw (OX.mk p_1 c_1 ho_1) (sk (sl (sl sr))) (G0.own O G0.nil) O)))))))
theorem Sm (p:Option Addr) (n cp:Nat) (h:n<=cp) (w:World)  :Calls prog 70 #[(Value.slice p n cp)] w (Ak w (Value.slice p n n)):=by
 refine Ab (args:=[(Value.slice p n cp)]) func70 O O (Ad O) (AF.subF (sL [0] O) (q4 (AJ O (AE.nil (q2 ?_)))))
 refine AP O (AP O (AH (v:=(vN n)) (AG O underlying23) O (AP O (AH (v:=(vN n)) (AG O underlying23) O (AH (v:=(Value.slice p n n)) (Dr (m:=n) O O O underlying23 sizeOf79 Z) O ?_)))))
 exact AJ O (AE.nil (AD.subF (sL [2] O) (AD.then_ (AF.ret (AN O (Ac (v:=(Value.slice p n n)) O) (λw hw=>⟨rfl,hw.out⟩))))))
theorem QK (ts:List T3) (x:RX (rowsL Am ts) ts.length) (hl:ts.length<=1000000000) (w:World) {S:Nat->Prop} (hx:Ro S w x):Calls prog 71 #[(Value.slice x.p ts.length x.c)] w (Gr WW (Uz (T:=79) (z:=3) (cs:=rowsL Am ts) (n:=ts.length)) S w):=by
 have lx:=Ep (W:=w) hx
 refine BF (args:=[(Value.slice x.p ts.length x.c)]) (L:=[Ah x.p (rowsL Am ts)]) func71 O O (Ad O) (En hx BQ) (AF.subF (sL [0] O) (q4 (AJ O (AE.nilRow 79 3 (AE.nil ?_)))))
 refine q1 (q4 (AP O (AH (v:=(Value.bool x.p.isNone)) (G1 O O underlying23) O (AE.nil (AD.subF (sL [0,2,4] O) ?_)))))
 refine AD.then_ ?_
 refine AF.cond O (λhc0=>?_) (λhc0=>?_)
 ·skip
  have hts:ts=[]:=List.eq_nil_of_length_eq_zero (x.ok.nil (Option.isNone_iff_eq_none.1 hc0)).1
  refine q4 (AJ O (AE.nilRow 79 3 (AE.nil (AD.then_ (AF.ret ?_)))))
  exact AD.then_ret (AN O (Ac (v:=(Value.slice none 0 0)) O) (λw hw=>(by subst hts;exact Mr hw (OX.mk none 0 OwnOk.none) (by exact (sk (sl (sl sr)))) (G0.own O G0.nil) (by show Value.slice none 0 0=_;rfl))))
 ·skip
  refine AF.skip (q2 (AE.openV (V:=λb1=>(Value.slice (some ⟨b1,0,none⟩) 0 0)) (T:=79) (cs:=[]) (AQ O) (IC underlying23 sizeOf79) O (Ad O) λb1=>AE.asRow0 (z:=3) 0 O Z λho_b1=>AP O (AE.appendE0 SB O ho_b1 O (VH (k:=2) O x.ok) (Ag BC _) (EM Iw _) (JH Z) Z O λp_1 c_1 ho_1=>?_)))
  exact AJ O (AE.nil (AD.subF (sL [0,2] O) (AD.then_ (AF.ret (AN O (Ac (v:=(Value.slice p_1 ts.length c_1)) O) (λw hw=>(Mr hw (OX.mk p_1 c_1 ho_1) (sk (sl (sl sr))) (G0.own O G0.nil) O)))))))
theorem Mv (p:Option Addr) (n cp:Nat) (h:n<=cp) (w:World)  :Calls prog 38 #[(Value.slice p n cp)] w (Ak w (Value.slice p n n)):=by
 refine Ab (args:=[(Value.slice p n cp)]) func38 O O (Ad O) (AF.subF (sL [0] O) (q4 (AJ O (AE.nil (q2 ?_)))))
 refine AP O (AP O (AH (v:=(vN n)) (AG O underlying24) O (AP O (AH (v:=(vN n)) (AG O underlying24) O (AH (v:=(Value.slice p n n)) (Dr (m:=n) O O O underlying24 sizeOf43 Z) O ?_)))))
 exact AJ O (AE.nil (AD.subF (sL [2] O) (AD.then_ (AF.ret (AN O (Ac (v:=(Value.slice p n n)) O) (λw hw=>⟨rfl,hw.out⟩))))))
theorem QB (ts:List T3) (x:RX (rowsL Am ts) ts.length) (hl:ts.length<=1000000000) (w:World) {S:Nat->Prop} (hx:Ro S w x):Calls prog 72 #[(Value.slice x.p ts.length x.c)] w (Gr WW (Uz (T:=43) (z:=3) (cs:=rowsL Am ts) (n:=ts.length)) S w):=by
 have lx:=Ep (W:=w) hx
 refine BF (args:=[(Value.slice x.p ts.length x.c)]) (L:=[Ah x.p (rowsL Am ts)]) func72 O O (Ad O) (En hx BQ) (AF.subF (sL [0] O) (q4 (AJ O (AE.nilRow 43 3 (AE.nil ?_)))))
 refine q1 (q4 (AP O (AH (v:=(Value.bool x.p.isNone)) (G1 O O underlying24) O (AE.nil (AD.subF (sL [0,2,4] O) ?_)))))
 refine AD.then_ ?_
 refine AF.cond O (λhc0=>?_) (λhc0=>?_)
 ·skip
  have hts:ts=[]:=List.eq_nil_of_length_eq_zero (x.ok.nil (Option.isNone_iff_eq_none.1 hc0)).1
  refine q4 (AJ O (AE.nilRow 43 3 (AE.nil (AD.then_ (AF.ret ?_)))))
  exact AD.then_ret (AN O (Ac (v:=(Value.slice none 0 0)) O) (λw hw=>(by subst hts;exact Mr hw (OX.mk none 0 OwnOk.none) (by exact (sk (sl (sl sr)))) (G0.own O G0.nil) (by show Value.slice none 0 0=_;rfl))))
 ·skip
  refine AF.skip (q2 (AE.openV (V:=λb1=>(Value.slice (some ⟨b1,0,none⟩) 0 0)) (T:=43) (cs:=[]) (AQ O) (IC underlying24 sizeOf43) O (Ad O) λb1=>AE.asRow0 (z:=3) 0 O Z λho_b1=>AP O (AE.appendE0 V6 O ho_b1 O (VH (k:=2) O x.ok) (Ag BC _) (EM Iw _) (JH Z) Z O λp_1 c_1 ho_1=>?_)))
  exact AJ O (AE.nil (AD.subF (sL [0,2] O) (AD.then_ (AF.ret (AN O (Ac (v:=(Value.slice p_1 ts.length c_1)) O) (λw hw=>(Mr hw (OX.mk p_1 c_1 ho_1) (sk (sl (sl sr))) (G0.own O G0.nil) O)))))))
theorem Uy {ps:List Pt} {ts ss:List T3} (x:MX ps ts ss) (hp:ps.length<=1000000000) (ht:ts.length<=1000000000) (hs:ss.length<=1000000000) (w:World) {S:Nat->Prop} (hx:Ro S w x):Calls prog 28 #[(aG (Cm x))] w (Gr (λa:Wv ps ts ss=>aG (YF a)) YL S w):=by
 have lx:=Ep (W:=w) hx
 refine BF (args:=[(aG (Cm x))]) (L:=[Ah x.a.p (rowsL Aj ps),Ah x.b.p (rowsL Am ts),Ah x.c.p (rowsL Am ss)]) func28 O O (Ad O) (En hx BQ) (AF.subF (sL [0] O) (q4 (Bk (cs:=Cm x) O λb1=>al Oc O λb2=>q6 (sL [1,2] O) ?_)))
 refine DA [(0,true),(1,true),(4,true),(5,true),(8,true),(9,true),(2,false),(3,false),(6,false),(7,false),(10,false),(11,false),(12,true),(13,false)] (sl sr) (Aw (v:=(pP b1 0)) O (AA O underlying30 O sizeOf28 O) (Bi 0 (Value.slice x.a.p ps.length x.a.c) Di O (Aw (v:=(pP b1 1)) O (AA O underlying30 O sizeOf23 O) (Bi 0 (Value.slice x.b.p ts.length x.b.c) C_ O (Aw (v:=(pP b1 2)) O (AA O underlying30 O sizeOf24 O) ?_)))))
 refine Bi 0 (Value.slice x.c.p ss.length x.c.c) Qp O (AS.imp O (AE.callL (S:=S) (V:=WW) (LW:=Uz (T:=63) (z:=10) (cs:=rowsL Aj ps) (n:=ps.length)) (args:=[(Value.slice x.a.p ps.length x.a.c)]) call69 (λw hw=>K8 ps x.a Z w (Wx (D_ hw 2 O lx))) O λcl1 hcl1=>AS.back (sl (sl sr)) (AS.imp O (BS call68 (Rc cl1.p ps.length cl1.c cl1.ok.row.le) O ?_))))
 refine AS.back (sl (sl sr)) (AS.imp O (AE.callL (S:=S) (V:=WW) (LW:=Uz (T:=79) (z:=3) (cs:=rowsL Am ts) (n:=ts.length)) (args:=[(Value.slice x.b.p ts.length x.b.c)]) call71 (λw hw=>QK ts x.b Z w (RJ (D_ hw 3 O lx))) O λcl2 hcl2=>AS.back (sl (sl (sl sr))) (AS.imp O (BS call70 (Sm cl2.p ts.length cl2.c cl2.ok.row.le) O ?_))))
 refine AS.back (sl (sl (sl sr))) (AS.imp O (AE.callL (S:=S) (V:=WW) (LW:=Uz (T:=43) (z:=3) (cs:=rowsL Am ss) (n:=ss.length)) (args:=[(Value.slice x.c.p ss.length x.c.c)]) call72 (λw hw=>QB ss x.c Z w (XT (D_ hw 4 O lx))) O λcl3 hcl3=>AS.back (sl (sl (sl (sl sr)))) (AS.imp O (BS call38 (Mv cl3.p ss.length cl3.c cl3.ok.row.le) O ?_))))
 refine AS.back (sl (sl (sl (sl sr)))) (Aw (v:=(aG ([(Value.slice cl1.p ps.length ps.length),(Value.slice cl2.p ts.length ts.length),(Value.slice cl3.p ss.length ss.length)]))) O (AT (zs:=[(Value.slice none 0 0),(Value.slice none 0 0),(Value.slice none 0 0)]) (vs:=[(Value.slice cl1.p ps.length ps.length),(Value.slice cl2.p ts.length ts.length),(Value.slice cl3.p ss.length ss.length)]) (pv:=[(0,(Value.slice cl1.p ps.length ps.length)),(1,(Value.slice cl2.p ts.length ts.length)),(2,(Value.slice cl3.p ss.length ss.length))]) (places:=[(0,1),(1,1),(2,1)]) zeroValue30 underlying30 (λw=>by simp [sizeOf23,sizeOf24,sizeOf28]) O O) (AS.imp O (IJ O sizeOf30 O (AS.back (sl (sl (sl (sl sr)))) (AS.nil ?_)))))
 exact AD.subF (sL [2] O) (AD.then_ (AF.ret (AN O (A7 (i:=3) (cs:=[(Value.slice cl1.p ps.length ps.length),(Value.slice cl2.p ts.length ts.length),(Value.slice cl3.p ss.length ss.length)]) O O isAgg30 sizeOf30 O) (λw hw=>(Mr hw (Wv.mk (OX.mk cl1.p cl1.c cl1.ok) (OX.mk cl2.p cl2.c cl2.ok) (OX.mk cl3.p cl3.c cl3.ok)) (sk (sk (sk (sl (sl (sl (sl (sl sr)))))))) (G0.own O (G0.own O (G0.own O G0.nil))) O)))))
end
end Go.Proofs.YtfbomiejpbchdaaGreatDoor
