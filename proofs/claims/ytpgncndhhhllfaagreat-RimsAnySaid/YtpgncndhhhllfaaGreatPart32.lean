import Derived.Test.YtpgncndhhhllfaaGreatPart23
import Derived.Test.YtpgncndhhhllfaaGreatPart29
import Derived.Test.YtpgncndhhhllfaaGreatPart30
import Derived.Test.YtpgncndhhhllfaaGreatPart31
namespace Go.Proofs.YtpgncndhhhllfaaGreat
open Go Go.RowKit Go.Proofs.Tryz
set_option linter.unusedVariables false
set_option linter.unusedSimpArgs false
section
def Dl (ts:List T3) (dn:List (P2×Nat)):List Bool:=(EC ts).map λk=>(Ac dn k).isSome
def E3 (ts:List T3) (dn:List (P2×Nat)):Nat->Int
  | 0 => -1
  | i+1=>if (Ac dn ((EC ts).getD i (0,0))).isSome=false/\(E3 ts dn i<0\/Ip ((EC ts).getD i (0,0)) ((EC ts).getD (E3 ts dn i).toNat (0,0))) then (i:Int) else E3 ts dn i
def TP (ts:List T3) (k:P2):Nat->Int
  | 0 => -1
  | i+1=>if (EC ts).getD i (0,0)=k then (i:Int) else TP ts k i
section
variable {ts:List T3} {N:Nat} {k k0:P2} {i j u v n:Nat} {dn dn2:List (P2×Nat)} {f:Int}
theorem Do:(Dl ts dn).length=(Ab ts).length:=by unfold Dl;rw [List.length_map,D9]
theorem I2 (hi:i<(Ab ts).length):(Dl ts dn).getD i false=(Ac dn ((EC ts).getD i (0,0))).isSome:=by
  have h:i<(EC ts).length:=by rw [D9];exact hi
  unfold Dl
  rw [List.getD,List.getD,List.getElem?_map,List.getElem?_eq_getElem h];rfl
theorem W3:List.replicate (Ab ts).length false=Dl ts []:=by
  unfold Dl
  rw [<-D9]
  generalize EC ts=l
  induction l with
  | nil=>rfl
  | cons a r ih=>rw [List.length_cons,List.replicate_succ,List.map_cons,<-ih];rfl
theorem WW (hnd:(EC ts).Nodup) (hv:v<(Ab ts).length) (h:(EC ts).getD v (0,0)=k):(Dl ts dn).set v true=Dl ts (A9 dn k 1):=by
  have hv2:v<(EC ts).length:=by rw [D9];exact hv
  have hv3:(EC ts)[v]=k:=by rw [<-h,List.getD,List.getElem?_eq_getElem hv2];rfl
  unfold Dl
  apply List.ext_getElem?
  intro i
  rw [List.getElem?_set,List.getElem?_map,List.getElem?_map]
  by_cases e:v=i
  · subst e
    rw [if_pos rfl,List.length_map,if_pos hv2,List.getElem?_eq_getElem hv2,Option.map_some,hv3,CP,if_pos rfl];rfl
  · rw [if_neg e]
    rcases Nat.lt_or_ge i (EC ts).length with q|q
    · rw [List.getElem?_eq_getElem q,Option.map_some,Option.map_some,CP,if_neg]
      intro e2
      rw [<-hv3] at e2
      exact e ((List.getElem_inj hnd).1 e2.symm)
    · rw [List.getElem?_eq_none q];rfl
theorem XU:∀n,E3 ts dn n<0\/E3 ts dn n<(n:Int)
  | 0=>.inl (by show (-1:Int)<0;decide)
  | n+1=>by
    have:=XU n
    unfold E3
    split
    · exact .inr Z
    · omega
theorem O6 (h0:¬(Dl ts dn).getD i false=true) (hi:i<(Ab ts).length) (h:E3 ts dn i<0\/Ip ((EC ts).getD i (0,0)) ((EC ts).getD (E3 ts dn i).toNat (0,0))):((i:Nat):Int)=E3 ts dn (i+1):=by
  rw [I2 hi] at h0
  unfold E3
  rw [if_pos ⟨by simpa using h0,h⟩]
theorem TM (hf:f=E3 ts dn i) (hi:i<(Ab ts).length) (h:(Dl ts dn).getD i false=true\/¬(E3 ts dn i<0\/Ip ((EC ts).getD i (0,0)) ((EC ts).getD (E3 ts dn i).toNat (0,0)))):f=E3 ts dn (i+1):=by
  rw [I2 hi] at h
  unfold E3
  rw [if_neg,hf]
  rintro ⟨h1,h2⟩
  rcases h with h|h
  · rw [h] at h1;cases h1
  · exact h h2
theorem Rx (h0:¬(Dl ts dn).getD i false=true) (hi:i<(Ab ts).length) (hf:f=E3 ts dn i) (h:f<0):((i:Nat):Int)=E3 ts dn (i+1):=O6 h0 hi (.inl (hf▸h))
theorem XB (hf:((u:Nat):Int)=E3 ts dn i):(E3 ts dn i).toNat=u:=by rw [<-hf];rfl
theorem Rl (h0:¬(Dl ts dn).getD i false=true) (hi:i<(Ab ts).length) (hu:u<(Ab ts).length) (hf:((u:Nat):Int)=E3 ts dn i) (h:((Ab ts).getD i (0,0,0)).1<((Ab ts).getD u (0,0,0)).1):((i:Nat):Int)=E3 ts dn (i+1) :=
  O6 h0 hi (.inr (by rw [XB hf,C7 hi,C7 hu];exact .inl h))
theorem RZ (h0:¬(Dl ts dn).getD i false=true) (hi:i<(Ab ts).length) (hu:u<(Ab ts).length) (hf:((u:Nat):Int)=E3 ts dn i) (h:((Ab ts).getD i (0,0,0)).1=((Ab ts).getD u (0,0,0)).1) (h2:((Ab ts).getD i (0,0,0)).2.1<((Ab ts).getD u (0,0,0)).2.1):((i:Nat):Int)=E3 ts dn (i+1) :=
  O6 h0 hi (.inr (by rw [XB hf,C7 hi,C7 hu];exact .inr ⟨h,h2⟩))
theorem LT (h0:(Dl ts dn).getD i false=true) (hi:i<(Ab ts).length) (hf:f=E3 ts dn i):f=E3 ts dn (i+1):=TM hf hi (.inl h0)
theorem K7 (hi:i<(Ab ts).length) (hu:u<(Ab ts).length) (hf:((u:Nat):Int)=E3 ts dn i) (h:¬((Ab ts).getD i (0,0,0)).1<((Ab ts).getD u (0,0,0)).1) (h2:¬((Ab ts).getD i (0,0,0)).1=((Ab ts).getD u (0,0,0)).1):((u:Nat):Int)=E3 ts dn (i+1) :=
  TM hf hi (.inr (by rw [XB hf,C7 hi,C7 hu,<-hf];rintro (q|q|⟨q,_⟩);exact absurd q Z;exact h q;exact h2 q))
theorem Kv (hi:i<(Ab ts).length) (hu:u<(Ab ts).length) (hf:((u:Nat):Int)=E3 ts dn i) (h:¬((Ab ts).getD i (0,0,0)).1<((Ab ts).getD u (0,0,0)).1) (h2:¬((Ab ts).getD i (0,0,0)).2.1<((Ab ts).getD u (0,0,0)).2.1):((u:Nat):Int)=E3 ts dn (i+1) :=
  TM hf hi (.inr (by rw [XB hf,C7 hi,C7 hu,<-hf];rintro (q|q|⟨_,q⟩);exact absurd q Z;exact h q;exact h2 q))
theorem L4:∀n,n<=(Ab ts).length->(E3 ts dn n<0/\∀j,j<n->(Ac dn ((EC ts).getD j (0,0))).isSome=true)\/∃u,E3 ts dn n=((u:Nat):Int)/\u<n/\(Ac dn ((EC ts).getD u (0,0))).isSome=false/\∀j,j<n->(Ac dn ((EC ts).getD j (0,0))).isSome=false->¬Ip ((EC ts).getD j (0,0)) ((EC ts).getD u (0,0))
  | 0,_=>.inl ⟨by show (-1:Int)<0;decide,λj h=>absurd h (Nat.not_lt_zero _)⟩
  | n+1,hn=>by
    have ih:=L4 n Z
    unfold E3
    split
    · rename_i e
      refine .inr ⟨n,rfl,Z,e.1,λj hj hjd=>?_⟩
      rcases Nat.lt_or_ge j n with q|q
      · rcases ih with ⟨_,h⟩|⟨u,h1,h2,h3,h4⟩
        · rw [h j q] at hjd;cases hjd
        · rcases e.2 with h5|h5
          · omega
          · rw [h1,show ((u:Nat):Int).toNat=u from rfl] at h5
            have:=h4 j q hjd
            unfold Ip at *;omega
      · rw [show j=n by omega];unfold Ip;omega
    · rename_i e
      rcases ih with ⟨h0,h⟩|⟨u,h1,h2,h3,h4⟩
      · refine .inl ⟨h0,λj hj=>?_⟩
        rcases Nat.lt_or_ge j n with q|q
        · exact h j q
        · rw [show j=n by omega]
          cases hq:(Ac dn ((EC ts).getD n (0,0))).isSome with
          | true=>rfl
          | false=>exact absurd ⟨hq,.inl h0⟩ e
      · refine .inr ⟨u,h1,Z,h3,λj hj hjd=>?_⟩
        rcases Nat.lt_or_ge j n with q|q
        · exact h4 j q hjd
        · rw [show j=n by omega] at hjd ⊢
          intro h5
          exact e ⟨hjd,.inr (by rw [h1];exact h5)⟩
theorem Xs (hi:i<(Ab ts).length) (h:((Ab ts).getD i (0,0,0)).1=k.1/\((Ab ts).getD i (0,0,0)).2.1=k.2):((i:Nat):Int)=TP ts k (i+1):=by
  unfold TP
  rw [C7 hi,if_pos (Prod.ext h.1 h.2)]
theorem Ze (ha:f=TP ts k i) (hi:i<(Ab ts).length) (h:¬((Ab ts).getD i (0,0,0)).1=k.1\/¬((Ab ts).getD i (0,0,0)).2.1=k.2):f=TP ts k (i+1):=by
  unfold TP
  rw [C7 hi,if_neg,ha]
  intro e
  rcases h with h|h
  · exact h (congrArg Prod.fst e)
  · exact h (congrArg Prod.snd e)
theorem Qd:∀n,(∃j,j<n/\(EC ts).getD j (0,0)=k)->∃v,TP ts k n=((v:Nat):Int)/\v<n/\(EC ts).getD v (0,0)=k
  | 0,⟨j,h,_⟩=>absurd h (Nat.not_lt_zero _)
  | n+1,⟨j,h1,h2⟩=>by
    unfold TP
    split
    · rename_i e;exact ⟨n,rfl,Z,e⟩
    · rename_i e
      obtain ⟨v,h3,h4,h5⟩:=Qd n ⟨j,by rcases Nat.lt_or_ge j n with q|q;exact q;exact absurd (by rw [show n=j by omega];exact h2) e,h2⟩
      exact ⟨v,h3,Z,h5⟩
theorem WY (hn:A_ N ts=true) (hN:N<=4611686018427387904) (ho:BV ts (3*ts.length)=true) (h:Ea ts k):∃v,TP ts k (Ab ts).length=((v:Nat):Int)/\v<(Ab ts).length/\(EC ts).getD v (0,0)=k:=by
  obtain ⟨j,hj,e⟩:=List.getElem_of_mem ((HO hn hN ho).2 h)
  exact Qd _ ⟨j,by rw [<-D9];exact hj,by rw [List.getD,List.getElem?_eq_getElem hj,e];rfl⟩
theorem XT (hn:A_ N ts=true) (hN:N<=4611686018427387904) (hi:i<(Ab ts).length):Ea ts ((EC ts).getD i (0,0)):=by
  rw [C7 hi];exact OS hn hN hi rfl
theorem Kg.yes (h:Kg ts dn) (hs:(Ac dn k).isSome=true):¬(Ac dn k).getD 0=0:=by
  obtain ⟨n,hg⟩:=Option.isSome_iff_exists.1 hs
  rw [hg,(h.bd _ _ hg).2];decide
theorem Xk (hs:(Ac dn k).isSome=false):(Ac dn k).getD 0=0:=by
  cases hg:Ac dn k with
  | none=>rfl
  | some n=>rw [hg] at hs;cases hs
theorem Pq.next (hn:A_ N ts=true) (hN:N<=4611686018427387904) (ho:BV ts (3*ts.length)=true) {ms:List (P2×Nat)} {l:List Nat} (h:Pq ts dn ms) (hu:u<(Ab ts).length) (hk:k0=(EC ts).getD u (0,0)) (h0:(Ac dn ((EC ts).getD u (0,0))).isSome=false)
    (hl:∀j,j<(Ab ts).length->(Ac dn ((EC ts).getD j (0,0))).isSome=false->¬Ip ((EC ts).getD j (0,0)) ((EC ts).getD u (0,0))) (hg:VT ts dn k0=(dn2,l)):∃p,l=Cq ts k0 p/\Pq ts dn2 (ms++[(k0,p)]):=by
  subst hk
  have no:∀{x:P2},(Ac dn x).isSome=false->Ac dn x=none:=λ{x} q=>by
    cases hq:Ac dn x with
    | none=>rfl
    | some n=>rw [hq] at q;cases q
  refine h.step hn hN ho (XT hn hN hu) (no h0) (λx hx hxn=>?_) hg
  obtain ⟨j,hj,e⟩:=List.getElem_of_mem ((HO hn hN ho).2 hx)
  have e2:(EC ts).getD j (0,0)=x:=by rw [List.getD,List.getElem?_eq_getElem hj,e];rfl
  rw [<-e2]
  exact hl j (by rw [<-D9];exact hj) (by rw [e2,hxn];rfl)
theorem Pq.len {ms:List (P2×Nat)} (hn:A_ N ts=true) (hN:N<=4611686018427387904) (ho:BV ts (3*ts.length)=true) (h:Pq ts dn ms):ms.length<=(Ab ts).length:=by
  have:=Gb (m:=EC ts) h.r.nd λx hx=>by
    obtain ⟨m,hm,rfl⟩:=List.mem_map.1 hx
    exact (HO hn hN ho).2 (h.r.ok m hm).1
  rwa [List.length_map,D9] at this
theorem X1 {ms:List (P2×Nat)} (hn:A_ N ts=true) (hN:N<=4611686018427387904) (ho:BV ts (3*ts.length)=true) (h:Pq ts dn ms) (hf:E3 ts dn (Ab ts).length<0):O5 ts ms=Hl ts:=Wy hn hN ho h λx hx=>by
  obtain ⟨j,hj,e⟩:=List.getElem_of_mem hx
  rcases L4 (ts:=ts) (dn:=dn) _ (Nat.le_refl _) with ⟨_,h1⟩|⟨u,h1,_⟩
  · have:=h1 j (by rw [<-D9];exact hj)
    rwa [List.getD,List.getElem?_eq_getElem hj,Option.getD_some,e] at this
  · omega
end
theorem Vt {S:Nat->Prop} {W w:World} {A:List As} {rs:List RI} {ls:List (List Nat)} (hw:BM ⟨W,none⟩ w (A++Dn rs)) (i:Nat) {p:Option Addr} {T c:Nat} (hi:A[i]?=some (rowW p T 1 rs.length c (rvL rs))) (ho:OwnOk p rs.length c) (he:rs.map (·.l)=ls) (hat:∀r∈rs,∀b,(riR r).foot=some b->Nw ⟨W,none⟩ S b) {v:Value} (hv:v=.slice p rs.length c):Al (Qt ls) S W (.returned v) w:=by
  have hi':(A++Dn rs)[i]?=some (rowW p T 1 rs.length c (rvL rs)):=by
    rw [List.getElem?_append_left (List.getElem?_eq_some_iff.1 hi).1];exact hi
  refine ⟨⟨rs,he,⟨p,c,ho.row⟩⟩,by rw [hv];rfl,hw.out,λy hy=>?_⟩
  have hy:y∈AJ p (rvL rs)::Dn rs:=hy
  rcases List.mem_cons.1 hy with rfl|hy
  · exact DS hw i hi' ho (by rw [EV,Nat.mul_one])
  · obtain ⟨r,hr,rfl⟩:=List.mem_map.1 hy
    exact ⟨λb e=>(hw.2.1 _ (List.mem_append_right _ hy) b e).2,hat r hr⟩
end
section
set_option maxRecDepth 100000
theorem XK  (w:World)  :Calls prog 81 #[(Value.int .u64 (0:Int))] w (Ak w (vI 0)):=by
 refine An (args:=[(Value.int .u64 (0:Int))]) func81 O O (AV O) (AE.subF (sL [0] O) (q4 (AI O (AC.nil (q1 (q4 (AM O (AK (CI (c:=false) O O (by decide)) O (AC.nil (OkQ.subF (sL [0,2,4] O) (OkQ.then_ ?_)))))))))))
 refine AE.cond_false O (AE.skip (q1 (q4 (AM O (AK (CI (c:=false) O O (by decide)) O (AC.nil (OkQ.subF (sL [0,2,8] O) (OkQ.then_ (AE.cond_false O (AE.skip (q1 ?_)))))))))))
 refine q4 (AM O (AK (CI (c:=false) O O (by decide)) O (AC.nil (OkQ.subF (sL [0,2,14] O) (OkQ.then_ (AE.cond_false O (AE.skip (q2 (AM O (AM O (AK (A7 (c:=(0:Int)) O underlying56 underlying5 (by decide)) O ?_)))))))))))
 exact AK (v:=(Value.int .u8 (0:Int))) (FP (j:=0) (m:=0) O O underlying9 (by kernel_rfl) (by decide)) O (AK (A7 (c:=(0:Int)) O underlying5 underlying3 (by decide)) O (AK (AY (c:=(0:Int)) O O (by decide)) O (AI O (AC.nil (OkQ.subF (sL [0,2] O) (OkQ.then_ (AE.ret (AS O (AZ (v:=(vI 0)) O) (λw hw=>⟨rfl,hw.out⟩)))))))))
theorem YE  (w:World)  :Calls prog 61 #[(Value.int .u64 (0:Int))] w (Ak w (vI 0)):=by
 refine An (args:=[(Value.int .u64 (0:Int))]) func61 O O (AV O) (AE.subF (sL [0] O) (q4 (AI O (AC.nil (q1 (AE.cond_false O (AE.skip (q2 (AM O (ck' call81 (XK) O (AI O ?_)))))))))))
 exact AC.nil (OkQ.subF (sL [0,2] O) (OkQ.then_ (AE.ret (AS O (AZ (v:=(vI 0)) O) (λw hw=>⟨rfl,hw.out⟩)))))
theorem V1  (w:World)  :Calls prog 72 #[(Value.slice none 0 0),(vI 0),(vI 0),(Value.func (.func 43) #[] #[])] w (Ak w (Value.tuple #[])):=by
 refine An (args:=[(Value.slice none 0 0),(vI 0),(vI 0),(Value.func (.func 43) #[] #[])]) func72 O O (AV O) (AE.subF (sL [0,1,2,3] O) (q4 (AM O (AK (AY (c:=(1:Int)) O O (by decide)) O (AI O (AC.nil (OkQ.subF (sL [0,1,2,3,8] O) (OkQ.then_ (AE.block (AE.unroll 1 (FF.step ?_)))))))))))
 refine AE.seq (q4 (AM O (AM O (AK (Ad (c:=false) O O (by decide)) O (AC.nil (OkQ.subF (sL [0,1,2,3,8,14] O) (OkQ.then_ (AE.cond_false O (AE.exit (OkQ.then_exit (OkQ.then_exit ?_)))))))))))
 exact OkQ.in_exit (Hn (.inr O) O  (λw hw=>⟨rfl,hw.out⟩))
theorem Vp  (w:World)  :Calls prog 60 #[(Value.slice none 0 0),(vI 0),(vI 0),(vI 0),(Value.func (.func 43) #[] #[])] w (Ak w (Value.tuple #[])):=by
 refine An (args:=[(Value.slice none 0 0),(vI 0),(vI 0),(vI 0),(Value.func (.func 43) #[] #[])]) func60 O O (AV O) (AE.subF (sL [0,1,2,3,4] O) (q4 (AI O (AC.nil (q2 (AI O (AC.nil (OkQ.then_ (AE.block (AE.unroll 1 (FF.step ?_)))))))))))
 refine AE.block (q4 (AM O (AM O (AK (BO (c:=(0:Int)) O O (by decide)) O (AI O (q6 (sL [0,1,2,3,4,10,11,12] O) (q4 (AM O (AK (Eq (c:=true) O O (by decide)) O (AC.nil (OkQ.subF (sL [0,1,2,3,4,10,11,12,25] O) ?_)))))))))))
 refine OkQ.then_ (AE.cond_true O (q4 (AM O (AM O (AM O (AM O (ck' call72 (V1) O (AC.nil (OkQ.subF (sL [0,1,2,3,4,10,11,12] O) (OkQ.then_ (AE.ret ?_)))))))))))
 exact OkQ.then_ret (OkQ.in_ret (OkQ.then_ret (OkQ.in_ret (Hn (.inl O) O  (λw hw=>⟨rfl,hw.out⟩)))))
theorem Tj  (w:World)  :Calls prog 42 #[(Value.slice none 0 0),(Value.func (.func 43) #[] #[])] w (Ak w (Value.tuple #[])):=by
 refine An (args:=[(Value.slice none 0 0),(Value.func (.func 43) #[] #[])]) func42 O O (AV O) (AE.subF (sL [0,1] O) (q4 (AM O (AK (v:=(vI 0)) (AF O underlying80) O (AI O (AC.nil (OkQ.subF (sL [0,1,4] O) (OkQ.then_ (AE.region (AM O (AM O ?_)))))))))))
 exact AM O (AK (A7 (c:=(0:Int)) O underlying3 underlying144 (by decide)) O (ck' call61 (YE) O (AM O (ck' call60 (Vp) O (AC.nil (OkQ.subF (sL [0] O) (Hn (.inr O) O  (λw hw=>⟨rfl,hw.out⟩))))))))
end
section
set_option maxRecDepth 100000
theorem Zo:ElemT prog 80 86 1 24:=⟨underlying80,Co (by kernel_rfl)⟩
theorem Nl (p:Option Addr) (n cp:Nat) (h:n<=cp) (w:World)  :Calls prog 44 #[(Value.slice p n cp)] w (Ak w (Value.slice p n n)):=by
 refine An (args:=[(Value.slice p n cp)]) func44 O O (AV O) (AE.subF (sL [0] O) (q4 (AI O (AC.nil (q2 (AM O (AM O (AK (v:=(vN n)) (AF O underlying80) O (AM O (AK (v:=(vN n)) (AF O underlying80) O (AK (v:=(Value.slice p n n)) (DB (m:=n) O O O underlying80 sizeOf86 Z) O ?_)))))))))))
 exact AI O (AC.nil (OkQ.subF (sL [2] O) (OkQ.then_ (AE.ret (AS O (AZ (v:=(Value.slice p n n)) O) (λw hw=>⟨rfl,hw.out⟩))))))
theorem Iz (x0 x1:Nat):Instr.fill (λi=>some (i*1,1)) (Bh ((0,0):P2)).toArray [(0,vN x0),(1,vN x1)]=some (Bh (x0,x1)).toArray:=by kernel_rfl
set_option maxHeartbeats 4000000 in
theorem Ib {N:Nat} {ts ss:List T3} (x:RM N ts ss) (hor:(A_ N ts&&BV ts (3*ts.length))=true) (hwn:0<(Ab ts).length) (hp:N<=1000000) (htl:ts.length<=1000000) (w:World) {S:Nat->Prop} (hx:Ro S w x):Calls prog 20 #[(aG (BN x))] w (Al (XX (Hl ts)) S w):=by
 have hnb:A_ N ts=true:=(Bool.and_eq_true _ _▸hor).1
 have ho:BV ts (3*ts.length)=true:=(Bool.and_eq_true _ _▸hor).2
 have hwl:=KQ (ts:=ts)
 have hrl0:=Hj (ts:=ts)
 have lx:=CV (W:=w) hx
 refine Ag (args:=[(aG (BN x))]) (L:=[AJ x.a.p (x.cs),AJ x.b.p (rowsL Am ts),AJ x.c.p (x.ds)]) func20 O O (AV O) (C4 hx Ao) (AE.subF (sL [0] O) (q4 (B0 (cs:=BN x) O λb1=>AI O (q3 (sL [1,2] O) (BC 0 CF O (AC.callR (S:=S) (α:=SX ts true) (args:=[(aG (BN x))]) call15 (λw hw=>(by have h9:=Dm x hp htl w (Bc hw 1 O lx);rw [hor] at h9;exact h9)) O O O λsx lsx=>AM O (AK (AX (v:=(Value.map (some sx.b))) O O) O (AK (AX (v:=(Value.bool true)) O O) O (AI O ?_)))))))))
 refine AI O (q6 (sL [1,2,3,4] O) (q4 (AM O (AK (BF (c:=false) O O) O (AC.nil (OkQ.subF (sL [1,2,3,18] O) (OkQ.then_ (AE.cond_false O (AE.skip (q2 (AI O ?_)))))))))))
 refine AC.nilRow 86 1 (q3 (sL [1,2,3,5] O) (AC.makeMap D5 vN (AT O) O λb2=>AI O (q6 (sL [1,2,3,5,6] O) (q4 (BC 3 CF O (AM O (cX (S:=S) (cs:=rowsL Am (Ab ts)) (k:=(Ab ts).length) (args:=[(aG (BN x)),(Value.map (some sx.b))]) call36 (λw hw=>Lh x sx hnb hp htl w (Bc hw 4 O lx) (Bc hw 2 O lsx)) O O O λwy lwy=>AK (v:=(vN ((Ab ts).length))) (AF O underlying74) O (AM O (AC.nil ?_)))))))))
 refine OkQ.subF (sL [1,2,3,5,6,22,23,24] O) (OkQ.then_ (AE.block ?_))
 refine AE.lp5 (tg λ(i:Nat) (rs:List RI) (p1:Option Addr) (c1:Nat) (dn:List (P2×Nat))=>i<=(Ab ts).length/\OwnOk p1 rs.length c1/\dn=(Dr ts i).1/\rs.map (·.l)=(Dr ts i).2/\Kg ts dn/\(∀r∈rs,∀b,(riR r).foot=some b->Nw ⟨w,none⟩ S b)/\rs.length<=i/\(∀r∈rs,r.c=r.l.length)) (tg λ(i:Nat) (rs:List RI) (p1:Option Addr) (c1:Nat) (dn:List (P2×Nat))=>[(1,(pP b1 0)),(2,(Value.slice none 0 0)),(3,(Value.map (some sx.b))),(6,(Value.map (some b2))),(22,(Value.slice wy.p ((Ab ts).length) wy.c)),(23,(vN ((Ab ts).length))),(24,(vN i)),(5,(Value.slice p1 rs.length c1))]) (tg λ(i:Nat) (rs:List RI) (p1:Option Addr) (c1:Nat) (dn:List (P2×Nat))=>(AJ wy.p (rowsL Am (Ab ts))::Bm b2 D5 vN dn::rowW p1 86 1 rs.length c1 (rvL rs)::He sx.b D5 vN sx.kvs::Ah b1 31 (BN x)::AJ x.a.p (x.cs)::AJ x.b.p (rowsL Am ts)::AJ x.c.p (x.ds)::Dn rs)) (tg λ(i:Nat) (rs:List RI) (p1:Option Addr) (c1:Nat) (dn:List (P2×Nat))=>(Ab ts).length-i) 0 ([]:List RI) none 0 ([]:List (P2×Nat)) (⟨Nat.zero_le _,OwnOk.none,rfl,rfl,Kg.nil,(λr hr=>by cases hr),Nat.le_refl _,(λr hr=>by cases hr)⟩) (sF O) sr (λi rs p1 c1 dn hJ=>?_)
 obtain ⟨hi,ho1,hdn,hrl,hdi,hat,hrn,hcl⟩:=hJ
 refine q4 (AK (Ad (c:=(decide (i<((Ab ts).length)))) O O (B7 (a:=i) (b:=(Ab ts).length))) O (AC.nil (q1 ?_)))
 refine AE.cond O (λhc1=>?_) (λhc1=>?_)
 ·replace hc1:=of_decide_eq_true hc1
  obtain ⟨wq,hwq⟩:∃q,q=(Ab ts).getD i (0,0,0):=⟨_,rfl⟩
  have hbd:=OS hnb Z hc1 hwq
  refine AE.skip (q1 (AE.block (q4 (AK (v:=(pP (pB wy.p) (pO wy.p+i*3))) (AH (j:=i) O O wy.ok underlying74 sizeOf84 O Z) O (AK (v:=(aG (Am ((Ab ts).getD i ((0,0,0):Tq3))))) (Ai (vs:=Am ((Ab ts).getD i ((0,0,0):Tq3))) (i:=0) O O (Ar.ne wy.ok Z) Ye (A8 Af _ _ _ Z) (Af _)) O (AC.retell (k:=27) (u:=(aG (Am wq))) O (by rw [hwq]) (al bT O λb3=>BP O sizeOf84 O (q3 (sL [1,2,3,6,22,23,24,5,8] O) (AK (v:=(pP b3 0)) (AB O underlying84 O sizeOf3 O) O (BL 0 (vN wq.1) BR O ?_))))))))))
  refine AK (v:=(pP b3 1)) (AB O underlying84 O sizeOf3 O) O (BL 0 (vN wq.2.1) BR O (AK (v:=(aG (Bh (wq.1,wq.2.1)))) (BY (zs:=Bh ((0,0):P2)) (vs:=Bh (wq.1,wq.2.1)) (pv:=[(0,(vN wq.1)),(1,(vN wq.2.1))]) zeroValue112 underlying112 sizeOf3 O (Iz wq.1 wq.2.1)) O (al IZ O λb4=>BP O sizeOf112 O (q6 (sL [1,2,3,6,22,23,24,5,8,9] O) (q4 (AM O (BC 0 EM O (AK (v:=(vN ((Ac dn (wq.1,wq.2.1)).getD 0))) (Bj E9 3 (eV:=vN) (kvs:=dn) (x:=(wq.1,wq.2.1)) (z0:=0) (co:=false) O O underlying71 zeroValue3 O (hdi.ok) (Mg hnb Z hbd.1)) O (AK (CC (c:=(decide (0<((Ac dn (wq.1,wq.2.1)).getD 0)))) O O (B7 (a:=0) (b:=(Ac dn (wq.1,wq.2.1)).getD 0))) O (AC.nil ?_))))))))))
  refine OkQ.subF (sL [1,2,3,6,22,23,24,5,8,9,36] O) (OkQ.then_ ?_)
  refine AE.cond O (λhc2=>?_) (λhc2=>?_)
  ·replace hc2:=of_decide_eq_true hc2
   have hcS:=hc2
   exact AE.exit (OkQ.then_exit (OkQ.in_exit (OkQ.then_ (AE.region (AK (AY (c:=((i+1:Nat):Int)) O O (AU (a:=i) (b:=1) Z)) O (AM O (AC.nil (OkQ.subF (sL [1,2,3,6,22,23,24,5,8,9] O) (OkQ.round5 (i+1) rs p1 c1 dn (⟨Z,ho1,by rw [hdn,JU hwq hdn hcS],by rw [hrl,JU hwq hdn hcS],hdi,hat,Z,hcl⟩) Z (sF O) (sl (sl sr)))))))))))
  ·replace hc2:=of_decide_eq_false hc2
   have hcN:=hc2
   refine AE.skip (q2 (AI O (AC.nilRow 3 1 (AC.nil (q1 (q4 (BC 1 EM O (al IZ O λb5=>BP O sizeOf112 O (AC.nil (OkQ.subF (sL [1,2,3,6,22,23,24,5,8,9,10,11] O) ?_))))))))))
   refine OkQ.then_ (AE.block ?_)
   refine AE.lp7 (tg λ(j:Nat) (k:P2) (dn2:List (P2×Nat)) (l:List Nat) (p2:Option Addr) (c2:Nat) (bk:Nat)=>Ot ts dn (wq.1,wq.2.1) j dn2 k l/\OwnOk p2 l.length c2) (tg λ(j:Nat) (k:P2) (dn2:List (P2×Nat)) (l:List Nat) (p2:Option Addr) (c2:Nat) (bk:Nat)=>[(1,(pP b1 0)),(2,(Value.slice none 0 0)),(3,(Value.map (some sx.b))),(6,(Value.map (some b2))),(22,(Value.slice wy.p ((Ab ts).length) wy.c)),(23,(vN ((Ab ts).length))),(24,(vN i)),(5,(Value.slice p1 rs.length c1)),(11,(pP bk 0)),(10,(Value.slice p2 l.length c2))]) (tg λ(j:Nat) (k:P2) (dn2:List (P2×Nat)) (l:List Nat) (p2:Option Addr) (c2:Nat) (bk:Nat)=>(Ah bk 112 (Bh k)::rowW p2 3 1 l.length c2 (inL l)::Ah b4 112 (Bh (wq.1,wq.2.1))::Ah b3 84 (Am wq)::AJ wy.p (rowsL Am (Ab ts))::Bm b2 D5 vN dn2::rowW p1 86 1 rs.length c1 (rvL rs)::He sx.b D5 vN sx.kvs::Ah b1 31 (BN x)::AJ x.a.p (x.cs)::AJ x.b.p (rowsL Am ts)::AJ x.c.p (x.ds)::Dn rs)) (tg λ(j:Nat) (k:P2) (dn2:List (P2×Nat)) (l:List Nat) (p2:Option Addr) (c2:Nat) (bk:Nat)=>3*ts.length-j) 0 (wq.1,wq.2.1) dn ([]:List Nat) none 0 b5 (⟨Ot.zero hdi hbd,OwnOk.none⟩) (sF O) sr (λj k dn2 l p2 c2 bk hJ=>?_)
   obtain ⟨hgo,ho2⟩:=hJ
   have hll:=hgo.ll
   have hjl:=hgo.le
   have hkok:N9 k:=Mg hnb Z hgo.bd.1
   refine AE.seq (q4 (AM O (BC 0 EM O (AK (v:=(vN ((Ac dn2 k).getD 0))) (Bj E9 5 (eV:=vN) (kvs:=dn2) (x:=k) (z0:=0) (co:=false) O O underlying71 zeroValue3 O (hgo.di.ok) (hkok)) O (AK (BA (c:=(decide (((Ac dn2 k).getD 0)=0))) O O (KW (a:=(Ac dn2 k).getD 0) (b:=0))) O (AC.nil (OkQ.subF (sL [1,2,3,6,22,23,24,5,11,10,41] O) (OkQ.then_ ?_))))))))
   refine AE.cond O (λhc3=>?_) (λhc3=>?_)
   ·replace hc3:=of_decide_eq_true hc3
    have hcU:=hc3
    have hjt:=hgo.lt hnb Z ho hc3
    refine AE.skip (q1 (AE.block (q4 (AM O (BC 0 EM O (AC.mapUpdate E9 5 (kvs:=dn2) (x:=k) (y:=1) (AT O) O O O underlying71 O (hgo.di.ok) (hkok) (AC.nil (OkQ.subF (sL [1,2,3,6,22,23,24,5,11,10] O) (OkQ.then_ (AE.region (AM O ?_)))))))))))
    refine AK (v:=(pP bk 0)) (AG (j:=0) O O underlying112 sizeOf3 O (by decide) O) O (BL 0 (vN k.1) BR O (AC.openV (V:=λb6=>(Value.slice (some ⟨b6,0,none⟩) 1 1)) (T:=3) (cs:=[(vN k.1)]) (AT O) (Ap (cs:=[(vN k.1)]) (pv:=[(0,(vN k.1))]) underlying86 sizeOf3 zeroValue3 (by decide) (by decide) O (by kernel_rfl)) O (AV O) λb6=>AC.append2 (j:=0) (cs2:=inL (l++[k.1])) Jv O ho2 (by rw [BG,Nat.mul_one]) O O O O (by decide) (Fl Z) Z (by rw [CS];rfl) O λp_1 c_1 ho_1 hne_1=>AI O (AC.nil (OkQ.subF (sL [1,2,3,6,22,23,24,5,11,10] O) (OkQ.in_normal (q1 (q4 (BC 1 EM O (AC.nil ?_)))))))))
    refine OkQ.then_ (AE.region (al IZ O λb7=>BP O sizeOf112 O (AC.nil (OkQ.subF (sL [1,2,3,6,22,23,24,5,11,10] O) (OkQ.then_ (AE.region (BC 10 CF O (AM O (BC 0 EM O (Cc call40 (λw hw=>M1 x sx k hnb ho hgo.bd hp htl w (Bc hw 11 O lx) (Bc hw 9 O lsx)) O ?_))))))))))
    refine BP O sizeOf112 O (AC.nil (OkQ.subF (sL [1,2,3,6,22,23,24,5,11,10] O) ?_))
    rw [show l.length+1=(l++[k.1]).length by simp]
    exact OkQ.round7 (j+1) (DA ts k) (A9 dn2 k 1) (l++[k.1]) p_1 c_1 b7 (⟨hgo.succ hnb Z ho hcU,by simpa using ho_1⟩) Z (sF O) (sk (sl (sl sr)))
   ·replace hc3:=of_decide_eq_false hc3
    have hgv:=hgo.stop hc3
    have hl0:0<l.length:=by rcases Nat.eq_zero_or_pos l.length with e|e;exfalso;obtain ⟨e1,e2⟩:=hgo.at0 Z;rw [e1,e2] at hc3;omega;exact e
    refine AE.exit (OkQ.then_exit (OkQ.round7_exit (OkQ.in_exit (OkQ.then_ (AE.region (AM O (AM O (AC.frzRow 1 O ho2 (by rw [BG,Nat.mul_one]) O O λhn_LO=>AC.callR (S:=S) (α:=CX (inL (DG l)) (DG l).length) (args:=[(Value.slice p2 l.length c2)]) call41 (λw hw=>PM l ⟨p2,c2,ho2.row⟩ hl0 Z w (Bc hw 1 O (At.new hn_LO))) O O O λtu ltu=>?_))))))))
    have hsm:(DG l).length<=10000000:=by rw [Mn];omega
    refine AC.permL (show List.Perm _ (Ah bk 112 (Bh k)::AJ p2 (inL l)::Ah b4 112 (Bh (wq.1,wq.2.1))::Ah b3 84 (Am wq)::AJ wy.p (rowsL Am (Ab ts))::Bm b2 D5 vN dn2::rowW p1 86 1 rs.length c1 (rvL rs)::He sx.b D5 vN sx.kvs::Ah b1 31 (BN x)::AJ x.a.p (x.cs)::AJ x.b.p (rowsL Am ts)::AJ x.c.p (x.ds)::Dn (rs++[(⟨DG l,tu.p,(DG l).length,tu.ok,hsm⟩:RI)])) from UX (⟨DG l,tu.p,(DG l).length,tu.ok,hsm⟩:RI) [Ah bk 112 (Bh k),AJ p2 (inL l),Ah b4 112 (Bh (wq.1,wq.2.1)),Ah b3 84 (Am wq),AJ wy.p (rowsL Am (Ab ts)),Bm b2 D5 vN dn2,rowW p1 86 1 rs.length c1 (rvL rs),He sx.b D5 vN sx.kvs,Ah b1 31 (BN x),AJ x.a.p (x.cs),AJ x.b.p (rowsL Am ts),AJ x.c.p (x.ds)] rs) (AC.openV (V:=λb6=>(Value.slice (some ⟨b6,0,none⟩) 1 1)) (T:=86) (cs:=[(Value.slice tu.p ((DG l).length) ((DG l).length))]) (AT O) (Ap (cs:=[(Value.slice tu.p ((DG l).length) ((DG l).length))]) (pv:=[(0,(Value.slice tu.p ((DG l).length) ((DG l).length)))]) underlying80 sizeOf86 zeroValue86 (by decide) (by decide) O (by kernel_rfl)) O (AV O) λb6=>AC.appendAt 7 (j:=0) (cs2:=rvL (rs++[(⟨DG l,tu.p,(DG l).length,tu.ok,hsm⟩:RI)])) Zo O ho1 (by rw [EV,Nat.mul_one]) O O O O O (by decide) (Fl Z) Z (by rw [Js];rfl) O λpu cu hou hnu=>AI O (AC.nil (OkQ.subF (sL [1,2,3,6,22,23,24,5,11,10] O) (OkQ.in_normal (OkQ.then_ (AE.region (AK (AY (c:=((i+1:Nat):Int)) O O (AU (a:=i) (b:=1) Z)) O (AM O (AC.nil ?_)))))))))
    refine OkQ.subF (sL [1,2,3,6,22,23,24,5,11,10] O) ?_
    rw [show rs.length+1=(rs++[(⟨DG l,tu.p,(DG l).length,tu.ok,hsm⟩:RI)]).length by simp]
    exact OkQ.round5 (i+1) (rs++[(⟨DG l,tu.p,(DG l).length,tu.ok,hsm⟩:RI)]) pu cu dn2 (⟨Z,by simpa using hou,by rw [Lr hwq hdn hcN hgv],by rw [Lr hwq hdn hcN hgv,List.map_append,hrl];rfl,hgo.di,λr hr=>by rcases List.mem_append.1 hr with h9|h9;exact hat r h9;rw [List.mem_singleton.1 h9];exact λb e=>ltu _ (List.mem_singleton.2 O) b e,by rw [List.length_append];show _+1<=_;omega,λr hr=>by rcases List.mem_append.1 hr with h9|h9;exact hcl r h9;rw [List.mem_singleton.1 h9]⟩) Z (sF O) (sl (sl (sl (sl (sl sr)))))
 ·replace hc1:=of_decide_eq_false hc1
  have hie:i=(Ab ts).length:=by omega
  have hlp:=Q0 (ts:=ts) i Z
  rw [<-hrl,List.length_map] at hlp
  have hpn:p1≠none:=λe=>by have:=(ho1.nil e).1;omega
  refine AE.exit (OkQ.then_exit (OkQ.round5_exit (OkQ.in_exit (q2 (AM O ?_)))))
  refine AC.callWE 2 (α:=List RI) (K:=λys=>ys.Perm rs/\ys.Pairwise aL) (cs':=rvL) (v:=.tuple #[]) (AT O) (Aw (args:=[(Value.slice p1 rs.length c1),(Value.func (.func 43) #[] #[])]) O O call42) O (λw hw=>Sh rs p1 rs.length c1 86 ho1 hpn O Z w (hw.holds (i:=2) O) (RL (A:=[AJ wy.p (rowsL Am (Ab ts)),Bm b2 D5 vN dn,rowW p1 86 1 rs.length c1 (rvL rs),He sx.b D5 vN sx.kvs,Ah b1 31 (BN x),AJ x.a.p (x.cs),AJ x.b.p (rowsL Am ts),AJ x.c.p (x.ds)]) (rs:=rs) (i:=2) hw O)) (λd hd=>by cases hd<;>exact (AV O)) ?_;intro ys ⟨hy1,hy2⟩
  exact q3 (sL [1,2,3,6,22,23,24,5] O) (AM O (ck' call44 (Nl p1 rs.length c1 ho1.row.le) O (AI O (AC.nil (OkQ.subF (sL [1,2,3,6,22,23,24,5] O) (OkQ.then_ (AE.ret (AS O (AZ (v:=(Value.slice p1 rs.length rs.length)) O) (λw hw=>(Y0 (A:=[AJ wy.p (rowsL Am (Ab ts)),Bm b2 D5 vN dn,rowW p1 86 1 rs.length c1 (rvL ys),He sx.b D5 vN sx.kvs,Ah b1 31 (BN x),AJ x.a.p (x.cs),AJ x.b.p (rowsL Am ts),AJ x.c.p (x.ds)]) (rs:=ys) ((show BM _ w ([AJ wy.p (rowsL Am (Ab ts)),Bm b2 D5 vN dn,rowW p1 86 1 rs.length c1 (rvL ys),He sx.b D5 vN sx.kvs,Ah b1 31 (BN x),AJ x.a.p (x.cs),AJ x.b.p (rowsL Am ts),AJ x.c.p (x.ds)]++Dn rs) from hw).perm (Z0 hy1)) 2 O ho1 hy1.length_eq.symm (by rw [SQ hy1 hy2,hrl,hie];rfl) (λr hr=>hat r (hy1.mem_iff.1 hr)) (λr hr=>hcl r (hy1.mem_iff.1 hr)) O))))))))))
theorem PC {N:Nat} {ts ss:List T3} (x:RM N ts ss) (hor:(A_ N ts&&BV ts (3*ts.length))=true) (hwn:0<(Ab ts).length) (hp:N<=1000000) (htl:ts.length<=1000000) (w:World) {S:Nat->Prop} (hx:Ro S w x):Calls prog 20 #[(aG (BN x))] w (Al (Qt (Hl ts)) S w):=(Ib x hor hwn hp htl w hx).mono λe w1 h=>h.ofLPD
theorem OB {ps:List Pt} {ts ss:List T3} (x:MX ps ts ss) (hor:(A_ ps.length ts&&BV ts (3*ts.length))=true) (hwn:0<(Ab ts).length) (hp:ps.length<=1000000) (htl:ts.length<=1000000) (w:World) {S:Nat->Prop} (hx:Ro S w x):Calls prog 20 #[(aG (IM x))] w (Al (Qt (Hl ts)) S w):=PC x.rm hor hwn hp htl w (VW hx)
set_option maxHeartbeats 1000000 in
theorem Nr {N:Nat} {ts ss:List T3} (x:RM N ts ss) (hor:(A_ N ts&&BV ts (3*ts.length))=true) (hwn:(Ab ts).length=0) (hp:N<=1000000) (htl:ts.length<=1000000) (w:World) {S:Nat->Prop} (hx:Ro S w x):Calls prog 20 #[(aG (BN x))] w (Ak w (Value.slice none 0 0)):=by
 have hnb:A_ N ts=true:=(Bool.and_eq_true _ _▸hor).1
 have ho:BV ts (3*ts.length)=true:=(Bool.and_eq_true _ _▸hor).2
 have lx:=CV (W:=w) hx
 refine Ag (args:=[(aG (BN x))]) (L:=[AJ x.a.p (x.cs),AJ x.b.p (rowsL Am ts),AJ x.c.p (x.ds)]) func20 O O (AV O) (C4 hx Ao) (AE.subF (sL [0] O) (q4 (B0 (cs:=BN x) O λb1=>AI O (q3 (sL [1,2] O) (BC 0 CF O (AC.callR (S:=S) (α:=SX ts true) (args:=[(aG (BN x))]) call15 (λw hw=>(by have h9:=Dm x hp htl w (Bc hw 1 O lx);rw [hor] at h9;exact h9)) O O O λsx lsx=>AM O (AK (AX (v:=(Value.map (some sx.b))) O O) O (AK (AX (v:=(Value.bool true)) O O) O (AI O ?_)))))))))
 refine AI O (q6 (sL [1,2,3,4] O) (q4 (AM O (AK (BF (c:=false) O O) O (AC.nil (OkQ.subF (sL [1,2,3,18] O) (OkQ.then_ (AE.cond_false O (AE.skip (q2 (AI O ?_)))))))))))
 refine q3 (sL [1,2,3,5] O) (AC.makeMap D5 vN (AT O) O λb2=>AI O (q6 (sL [1,2,3,5,6] O) (q4 (BC 2 CF O (AM O (cX (S:=S) (cs:=rowsL Am (Ab ts)) (k:=(Ab ts).length) (args:=[(aG (BN x)),(Value.map (some sx.b))]) call36 (λw hw=>Lh x sx hnb hp htl w (Bc hw 3 O lx) (Bc hw 1 O lsx)) O O O λwy lwy=>AK (v:=(vN ((Ab ts).length))) (AF O underlying74) O (AM O (AC.nil (OkQ.subF (sL [1,2,3,5,6,22,23,24] O) ?_)))))))))
 refine OkQ.then_ (AE.block (AE.unroll 1 (FF.step (q4 (AK (Ad (c:=(decide (0<((Ab ts).length)))) O O (B7 (a:=0) (b:=(Ab ts).length))) O (AC.nil (q1 ?_)))))))
 refine AE.cond O (λhc1=>?_) (λhc1=>?_)
 ·replace hc1:=of_decide_eq_true hc1
  omega
 ·replace hc1:=of_decide_eq_false hc1
  refine AE.exit (OkQ.then_exit (OkQ.then_exit (OkQ.in_exit (q2 (AM O (ck' call42 (Tj) O (q3 (sL [1,2,3,5,6,22,23,24] O) (AM O (ck' call44 (Nl none 0 0 (Nat.le_refl _)) O (AI O (AC.nil ?_)))))))))))
  exact OkQ.subF (sL [1,2,3,5,6,22,23,24] O) (OkQ.then_ (AE.ret (AS O (AZ (v:=(Value.slice none 0 0)) O) (λw hw=>⟨rfl,hw.out⟩))))
end
end Go.Proofs.YtpgncndhhhllfaaGreat
