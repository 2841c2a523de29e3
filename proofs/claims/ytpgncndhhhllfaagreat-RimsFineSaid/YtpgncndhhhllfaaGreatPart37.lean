import Derived.Test.YtpgncndhhhllfaaGreatPart27
import Derived.Test.YtpgncndhhhllfaaGreatPart34
import Derived.Test.YtpgncndhhhllfaaGreatPart35
import Derived.Test.YtpgncndhhhllfaaGreatPart36
namespace Go.Proofs.YtpgncndhhhllfaaGreat
open Go Go.RowKit Go.Proofs.Tryz
set_option linter.unusedVariables false
set_option linter.unusedSimpArgs false
section
def D7 (ts:List T3) (dn:List (P2×Nat)):List Bool:=(Eg ts).map λk=>(Ae dn k).isSome
def Fc (ts:List T3) (dn:List (P2×Nat)):Nat->Int
  | 0 => -1
  | i+1=>if (Ae dn ((Eg ts).getD i (0,0))).isSome=false/\(Fc ts dn i<0\/JS ((Eg ts).getD i (0,0)) ((Eg ts).getD (Fc ts dn i).toNat (0,0))) then (i:Int) else Fc ts dn i
def Vl (ts:List T3) (k:P2):Nat->Int
  | 0 => -1
  | i+1=>if (Eg ts).getD i (0,0)=k then (i:Int) else Vl ts k i
section
variable {ts:List T3} {N:Nat} {k k0:P2} {i j u v n:Nat} {dn dn2:List (P2×Nat)} {f:Int}
theorem ED:(D7 ts dn).length=(AX ts).length:=by unfold D7;rw [List.length_map,EE]
theorem Jl (hi:i<(AX ts).length):(D7 ts dn).getD i false=(Ae dn ((Eg ts).getD i (0,0))).isSome:=by
  have h:i<(Eg ts).length:=by rw [EE];exact hi
  unfold D7
  rw [List.getD,List.getD,List.getElem?_map,List.getElem?_eq_getElem h];rfl
theorem XO:List.replicate (AX ts).length false=D7 ts []:=by
  unfold D7
  rw [<-EE]
  generalize Eg ts=l
  induction l with
  | nil=>rfl
  | cons a r ih=>rw [List.length_cons,List.replicate_succ,List.map_cons,<-ih];rfl
theorem Yk (hnd:(Eg ts).Nodup) (hv:v<(AX ts).length) (h:(Eg ts).getD v (0,0)=k):(D7 ts dn).set v true=D7 ts (BG dn k 1):=by
  have hv2:v<(Eg ts).length:=by rw [EE];exact hv
  have hv3:(Eg ts)[v]=k:=by rw [<-h,List.getD,List.getElem?_eq_getElem hv2];rfl
  unfold D7
  apply List.ext_getElem?
  intro i
  rw [List.getElem?_set,List.getElem?_map,List.getElem?_map]
  by_cases e:v=i
  · subst e
    rw [if_pos rfl,List.length_map,if_pos hv2,List.getElem?_eq_getElem hv2,Option.map_some,hv3,Cc,if_pos rfl];rfl
  · rw [if_neg e]
    rcases Nat.lt_or_ge i (Eg ts).length with q|q
    · rw [List.getElem?_eq_getElem q,Option.map_some,Option.map_some,Cc,if_neg]
      intro e2
      rw [<-hv3] at e2
      exact e ((List.getElem_inj hnd).1 e2.symm)
    · rw [List.getElem?_eq_none q];rfl
theorem Yr:∀n,Fc ts dn n<0\/Fc ts dn n<(n:Int)
  | 0=>.inl (by show (-1:Int)<0;decide)
  | n+1=>by
    have:=Yr n
    unfold Fc
    split
    · exact .inr Z
    · omega
theorem Pg (h0:¬(D7 ts dn).getD i false=true) (hi:i<(AX ts).length) (h:Fc ts dn i<0\/JS ((Eg ts).getD i (0,0)) ((Eg ts).getD (Fc ts dn i).toNat (0,0))):((i:Nat):Int)=Fc ts dn (i+1):=by
  rw [Jl hi] at h0
  unfold Fc
  rw [if_pos ⟨by simpa using h0,h⟩]
theorem U_ (hf:f=Fc ts dn i) (hi:i<(AX ts).length) (h:(D7 ts dn).getD i false=true\/¬(Fc ts dn i<0\/JS ((Eg ts).getD i (0,0)) ((Eg ts).getD (Fc ts dn i).toNat (0,0)))):f=Fc ts dn (i+1):=by
  rw [Jl hi] at h
  unfold Fc
  rw [if_neg,hf]
  rintro ⟨h1,h2⟩
  rcases h with h|h
  · rw [h] at h1;cases h1
  · exact h h2
theorem TE (h0:¬(D7 ts dn).getD i false=true) (hi:i<(AX ts).length) (hf:f=Fc ts dn i) (h:f<0):((i:Nat):Int)=Fc ts dn (i+1):=Pg h0 hi (.inl (hf▸h))
theorem YY (hf:((u:Nat):Int)=Fc ts dn i):(Fc ts dn i).toNat=u:=by rw [<-hf];rfl
theorem SM (h0:¬(D7 ts dn).getD i false=true) (hi:i<(AX ts).length) (hu:u<(AX ts).length) (hf:((u:Nat):Int)=Fc ts dn i) (h:((AX ts).getD i (0,0,0)).1<((AX ts).getD u (0,0,0)).1):((i:Nat):Int)=Fc ts dn (i+1) :=
  Pg h0 hi (.inr (by rw [YY hf,DN hi,DN hu];exact .inl h))
theorem Sy (h0:¬(D7 ts dn).getD i false=true) (hi:i<(AX ts).length) (hu:u<(AX ts).length) (hf:((u:Nat):Int)=Fc ts dn i) (h:((AX ts).getD i (0,0,0)).1=((AX ts).getD u (0,0,0)).1) (h2:((AX ts).getD i (0,0,0)).2.1<((AX ts).getD u (0,0,0)).2.1):((i:Nat):Int)=Fc ts dn (i+1) :=
  Pg h0 hi (.inr (by rw [YY hf,DN hi,DN hu];exact .inr ⟨h,h2⟩))
theorem MS (h0:(D7 ts dn).getD i false=true) (hi:i<(AX ts).length) (hf:f=Fc ts dn i):f=Fc ts dn (i+1):=U_ hf hi (.inl h0)
theorem MR (hi:i<(AX ts).length) (hu:u<(AX ts).length) (hf:((u:Nat):Int)=Fc ts dn i) (h:¬((AX ts).getD i (0,0,0)).1<((AX ts).getD u (0,0,0)).1) (h2:¬((AX ts).getD i (0,0,0)).1=((AX ts).getD u (0,0,0)).1):((u:Nat):Int)=Fc ts dn (i+1) :=
  U_ hf hi (.inr (by rw [YY hf,DN hi,DN hu,<-hf];rintro (q|q|⟨q,_⟩);exact absurd q Z;exact h q;exact h2 q))
theorem Lu (hi:i<(AX ts).length) (hu:u<(AX ts).length) (hf:((u:Nat):Int)=Fc ts dn i) (h:¬((AX ts).getD i (0,0,0)).1<((AX ts).getD u (0,0,0)).1) (h2:¬((AX ts).getD i (0,0,0)).2.1<((AX ts).getD u (0,0,0)).2.1):((u:Nat):Int)=Fc ts dn (i+1) :=
  U_ hf hi (.inr (by rw [YY hf,DN hi,DN hu,<-hf];rintro (q|q|⟨_,q⟩);exact absurd q Z;exact h q;exact h2 q))
theorem Mp:∀n,n<=(AX ts).length->(Fc ts dn n<0/\∀j,j<n->(Ae dn ((Eg ts).getD j (0,0))).isSome=true)\/∃u,Fc ts dn n=((u:Nat):Int)/\u<n/\(Ae dn ((Eg ts).getD u (0,0))).isSome=false/\∀j,j<n->(Ae dn ((Eg ts).getD j (0,0))).isSome=false->¬JS ((Eg ts).getD j (0,0)) ((Eg ts).getD u (0,0))
  | 0,_=>.inl ⟨by show (-1:Int)<0;decide,λj h=>absurd h (Nat.not_lt_zero _)⟩
  | n+1,hn=>by
    have ih:=Mp n Z
    unfold Fc
    split
    · rename_i e
      refine .inr ⟨n,rfl,Z,e.1,λj hj hjd=>?_⟩
      rcases Nat.lt_or_ge j n with q|q
      · rcases ih with ⟨_,h⟩|⟨u,h1,h2,h3,h4⟩
        · rw [h j q] at hjd;cases hjd
        · rcases e.2 with h5|h5
          · omega
          · rw [h1,show ((u:Nat):Int).toNat=u from rfl] at h5
            have:=h4 j q hjd
            unfold JS at *;omega
      · rw [show j=n by omega];unfold JS;omega
    · rename_i e
      rcases ih with ⟨h0,h⟩|⟨u,h1,h2,h3,h4⟩
      · refine .inl ⟨h0,λj hj=>?_⟩
        rcases Nat.lt_or_ge j n with q|q
        · exact h j q
        · rw [show j=n by omega]
          cases hq:(Ae dn ((Eg ts).getD n (0,0))).isSome with
          | true=>rfl
          | false=>exact absurd ⟨hq,.inl h0⟩ e
      · refine .inr ⟨u,h1,Z,h3,λj hj hjd=>?_⟩
        rcases Nat.lt_or_ge j n with q|q
        · exact h4 j q hjd
        · rw [show j=n by omega] at hjd ⊢
          intro h5
          exact e ⟨hjd,.inr (by rw [h1];exact h5)⟩
theorem Zd (hi:i<(AX ts).length) (h:((AX ts).getD i (0,0,0)).1=k.1/\((AX ts).getD i (0,0,0)).2.1=k.2):((i:Nat):Int)=Vl ts k (i+1):=by
  unfold Vl
  rw [DN hi,if_pos (Prod.ext h.1 h.2)]
theorem bH (ha:f=Vl ts k i) (hi:i<(AX ts).length) (h:¬((AX ts).getD i (0,0,0)).1=k.1\/¬((AX ts).getD i (0,0,0)).2.1=k.2):f=Vl ts k (i+1):=by
  unfold Vl
  rw [DN hi,if_neg,ha]
  intro e
  rcases h with h|h
  · exact h (congrArg Prod.fst e)
  · exact h (congrArg Prod.snd e)
theorem Rv:∀n,(∃j,j<n/\(Eg ts).getD j (0,0)=k)->∃v,Vl ts k n=((v:Nat):Int)/\v<n/\(Eg ts).getD v (0,0)=k
  | 0,⟨j,h,_⟩=>absurd h (Nat.not_lt_zero _)
  | n+1,⟨j,h1,h2⟩=>by
    unfold Vl
    split
    · rename_i e;exact ⟨n,rfl,Z,e⟩
    · rename_i e
      obtain ⟨v,h3,h4,h5⟩:=Rv n ⟨j,by rcases Nat.lt_or_ge j n with q|q;exact q;exact absurd (by rw [show n=j by omega];exact h2) e,h2⟩
      exact ⟨v,h3,Z,h5⟩
theorem W9 (hn:BI N ts=true) (hN:N<=4611686018427387904) (ho:Bc ts (3*ts.length)=true) (h:E7 ts k):∃v,Vl ts k (AX ts).length=((v:Nat):Int)/\v<(AX ts).length/\(Eg ts).getD v (0,0)=k:=by
  obtain ⟨j,hj,e⟩:=List.getElem_of_mem ((G1 hn hN ho).2 h)
  exact Rv _ ⟨j,by rw [<-EE];exact hj,by rw [List.getD,List.getElem?_eq_getElem hj,e];rfl⟩
theorem Yu (hn:BI N ts=true) (hN:N<=4611686018427387904) (hi:i<(AX ts).length):E7 ts ((Eg ts).getD i (0,0)):=by
  rw [DN hi];exact Pm hn hN hi rfl
theorem Lf.yes (h:Lf ts dn) (hs:(Ae dn k).isSome=true):¬(Ae dn k).getD 0=0:=by
  obtain ⟨n,hg⟩:=Option.isSome_iff_exists.1 hs
  rw [hg,(h.bd _ _ hg).2];decide
theorem aD (hs:(Ae dn k).isSome=false):(Ae dn k).getD 0=0:=by
  cases hg:Ae dn k with
  | none=>rfl
  | some n=>rw [hg] at hs;cases hs
theorem Qr.next (hn:BI N ts=true) (hN:N<=4611686018427387904) (ho:Bc ts (3*ts.length)=true) {ms:List (P2×Nat)} {l:List Nat} (h:Qr ts dn ms) (hu:u<(AX ts).length) (hk:k0=(Eg ts).getD u (0,0)) (h0:(Ae dn ((Eg ts).getD u (0,0))).isSome=false)
    (hl:∀j,j<(AX ts).length->(Ae dn ((Eg ts).getD j (0,0))).isSome=false->¬JS ((Eg ts).getD j (0,0)) ((Eg ts).getD u (0,0))) (hg:Tr ts dn k0=(dn2,l)):∃p,l=Cz ts k0 p/\Qr ts dn2 (ms++[(k0,p)]):=by
  subst hk
  have no:∀{x:P2},(Ae dn x).isSome=false->Ae dn x=none:=λ{x} q=>by
    cases hq:Ae dn x with
    | none=>rfl
    | some n=>rw [hq] at q;cases q
  refine h.step hn hN ho (Yu hn hN hu) (no h0) (λx hx hxn=>?_) hg
  obtain ⟨j,hj,e⟩:=List.getElem_of_mem ((G1 hn hN ho).2 hx)
  have e2:(Eg ts).getD j (0,0)=x:=by rw [List.getD,List.getElem?_eq_getElem hj,e];rfl
  rw [<-e2]
  exact hl j (by rw [<-EE];exact hj) (by rw [e2,hxn];rfl)
theorem Qr.len {ms:List (P2×Nat)} (hn:BI N ts=true) (hN:N<=4611686018427387904) (ho:Bc ts (3*ts.length)=true) (h:Qr ts dn ms):ms.length<=(AX ts).length:=by
  have:=Gz (m:=Eg ts) h.r.nd λx hx=>by
    obtain ⟨m,hm,rfl⟩:=List.mem_map.1 hx
    exact (G1 hn hN ho).2 (h.r.ok m hm).1
  rwa [List.length_map,EE] at this
theorem ZL {ms:List (P2×Nat)} (hn:BI N ts=true) (hN:N<=4611686018427387904) (ho:Bc ts (3*ts.length)=true) (h:Qr ts dn ms) (hf:Fc ts dn (AX ts).length<0):PT ts ms=Ir ts:=XG hn hN ho h λx hx=>by
  obtain ⟨j,hj,e⟩:=List.getElem_of_mem hx
  rcases Mp (ts:=ts) (dn:=dn) _ (Nat.le_refl _) with ⟨_,h1⟩|⟨u,h1,_⟩
  · have:=h1 j (by rw [<-EE];exact hj)
    rwa [List.getD,List.getElem?_eq_getElem hj,Option.getD_some,e] at this
  · omega
end
theorem YD {S:Nat->Prop} {W w:World} {A:List As} {rs:List RI} {ls:List (List Nat)} (hw:BS ⟨W,none⟩ w (A++D8 rs)) (i:Nat) {p:Option Addr} {T c:Nat} (hi:A[i]?=some (rowW p T 1 rs.length c (rvL rs))) (ho:OwnOk p rs.length c) (he:rs.map (·.l)=ls) (hat:∀r∈rs,∀b,(riR r).foot=some b->Nw ⟨W,none⟩ S b) {v:Value} (hv:v=.slice p rs.length c):Am (V_ ls) S W (.returned v) w:=by
  have hi':(A++D8 rs)[i]?=some (rowW p T 1 rs.length c (rvL rs)):=by
    rw [List.getElem?_append_left (List.getElem?_eq_some_iff.1 hi).1];exact hi
  refine ⟨⟨rs,he,⟨p,c,ho.row⟩⟩,by rw [hv];rfl,hw.out,λy hy=>?_⟩
  have hy:y∈AK p (rvL rs)::D8 rs:=hy
  rcases List.mem_cons.1 hy with rfl|hy
  · exact Db hw i hi' ho (by rw [Es,Nat.mul_one])
  · obtain ⟨r,hr,rfl⟩:=List.mem_map.1 hy
    exact ⟨λb e=>(hw.2.1 _ (List.mem_append_right _ hy) b e).2,hat r hr⟩
end
section
set_option maxRecDepth 100000
theorem bf:ElemT prog 80 86 1 24:=⟨underlying80,CR (by kernel_rfl)⟩
theorem VB (p:Option Addr) (n cp:Nat) (h:n<=cp) (w:World)  :Calls prog 44 #[(Value.slice p n cp)] w (A9 w (Value.slice p n n)):=by
 refine Aq (args:=[(Value.slice p n cp)]) func44 O O (Ad O) (AE.subF (sL [0] O) (q4 (AI O (AC.nil (q2 (AM O (AM O (AJ (v:=(vN n)) (AF O underlying80) O (AM O (AJ (v:=(vN n)) (AF O underlying80) O (AJ (v:=(Value.slice p n n)) (DY (m:=n) O O O underlying80 sizeOf86 Z) O ?_)))))))))))
 exact AI O (AC.nil (OkQ.subF (sL [2] O) (OkQ.then_ (AE.ret (AV O (Ah (v:=(Value.slice p n n)) O) (λw hw=>⟨rfl,hw.out⟩))))))
theorem JY (x0 x1:Nat):Instr.fill (λi=>some (i*1,1)) (Ap ((0,0):P2)).toArray [(0,vN x0),(1,vN x1)]=some (Ap (x0,x1)).toArray:=by kernel_rfl
set_option maxHeartbeats 4000000 in
theorem Lq {ps:List Pt} {ts ss:List T3} (x:MX ps ts ss) (hor:(BI ps.length ts&&Bc ts (3*ts.length))=true) (hwn:0<(AX ts).length) (hp:ps.length<=1000000) (htl:ts.length<=1000000) (w:World) {S:Nat->Prop} (hx:Ro S w x):Calls prog 20 #[(aG (Bp x))] w (Am (bK (Ir ts)) S w):=by
 have hnb:BI ps.length ts=true:=(Bool.and_eq_true _ _▸hor).1
 have ho:Bc ts (3*ts.length)=true:=(Bool.and_eq_true _ _▸hor).2
 have hwl:=Kb (ts:=ts)
 have hrl0:=IM (ts:=ts)
 have lx:=Dk (W:=w) hx
 refine An (args:=[(aG (Bp x))]) (L:=[AK x.a.p (rowsL Bf ps),AK x.b.p (rowsL AZ ts),AK x.c.p (rowsL AZ ss)]) func20 O O (Ad O) (E3 hx BA) (AE.subF (sL [0] O) (q4 (Ca (cs:=Bp x) O λb1=>AI O (q3 (sL [1,2] O) (BF 0 DA O (AC.callR (S:=S) (α:=SX ts true) (args:=[(aG (Bp x))]) call15 (λw hw=>(by have h9:=Kh x hp htl w (Br hw 1 O lx);rw [hor] at h9;exact h9)) O O O λsx lsx=>AM O (AJ (Ab (v:=(Value.map (some sx.b))) O O) O (AJ (Ab (v:=(Value.bool true)) O O) O (AI O ?_)))))))))
 refine AI O (q6 (sL [1,2,3,4] O) (q4 (AM O (AJ (Bj (c:=false) O O) O (AC.nil (OkQ.subF (sL [1,2,3,18] O) (OkQ.then_ (AE.cond_false O (AE.skip (q2 (AI O ?_)))))))))))
 refine AC.nilRow 86 1 (q3 (sL [1,2,3,5] O) (AC.makeMap Ee vN (AP O) O λb2=>AI O (q6 (sL [1,2,3,5,6] O) (q4 (BF 3 DA O (AM O (cX (S:=S) (cs:=rowsL AZ (AX ts)) (k:=(AX ts).length) (args:=[(aG (Bp x)),(Value.map (some sx.b))]) call36 (λw hw=>X7 x sx hnb hp htl w (Br hw 4 O lx) (Br hw 2 O lsx)) O O O λwy lwy=>AJ (v:=(vN ((AX ts).length))) (AF O underlying74) O (AM O (AC.nil ?_)))))))))
 refine OkQ.subF (sL [1,2,3,5,6,22,23,24] O) (OkQ.then_ (AE.block ?_))
 refine AE.lp5 (tg λ(i:Nat) (rs:List RI) (p1:Option Addr) (c1:Nat) (dn:List (P2×Nat))=>i<=(AX ts).length/\OwnOk p1 rs.length c1/\dn=(EO ts i).1/\rs.map (·.l)=(EO ts i).2/\Lf ts dn/\(∀r∈rs,∀b,(riR r).foot=some b->Nw ⟨w,none⟩ S b)/\rs.length<=i/\(∀r∈rs,r.c=r.l.length)) (tg λ(i:Nat) (rs:List RI) (p1:Option Addr) (c1:Nat) (dn:List (P2×Nat))=>[(1,(pP b1 0)),(2,(Value.slice none 0 0)),(3,(Value.map (some sx.b))),(6,(Value.map (some b2))),(22,(Value.slice wy.p ((AX ts).length) wy.c)),(23,(vN ((AX ts).length))),(24,(vN i)),(5,(Value.slice p1 rs.length c1))]) (tg λ(i:Nat) (rs:List RI) (p1:Option Addr) (c1:Nat) (dn:List (P2×Nat))=>(AK wy.p (rowsL AZ (AX ts))::Bu b2 Ee vN dn::rowW p1 86 1 rs.length c1 (rvL rs)::II sx.b Ee vN sx.kvs::Af b1 31 (Bp x)::AK x.a.p (rowsL Bf ps)::AK x.b.p (rowsL AZ ts)::AK x.c.p (rowsL AZ ss)::D8 rs)) (tg λ(i:Nat) (rs:List RI) (p1:Option Addr) (c1:Nat) (dn:List (P2×Nat))=>(AX ts).length-i) 0 ([]:List RI) none 0 ([]:List (P2×Nat)) (⟨Nat.zero_le _,OwnOk.none,rfl,rfl,Lf.nil,(λr hr=>by cases hr),Nat.le_refl _,(λr hr=>by cases hr)⟩) (sF O) sr (λi rs p1 c1 dn hJ=>?_)
 obtain ⟨hi,ho1,hdn,hrl,hdi,hat,hrn,hcl⟩:=hJ
 refine q4 (AJ (Ac (c:=(decide (i<((AX ts).length)))) O O (CD (a:=i) (b:=(AX ts).length))) O (AC.nil (q1 ?_)))
 refine AE.cond O (λhc1=>?_) (λhc1=>?_)
 ·replace hc1:=of_decide_eq_true hc1
  obtain ⟨wq,hwq⟩:∃q,q=(AX ts).getD i (0,0,0):=⟨_,rfl⟩
  have hbd:=Pm hnb Z hc1 hwq
  refine AE.skip (q1 (AE.block (q4 (AJ (v:=(pP (pB wy.p) (pO wy.p+i*3))) (AG (j:=i) O O wy.ok underlying74 sizeOf84 O Z) O (AJ (v:=(aG (AZ ((AX ts).getD i ((0,0,0):Tq3))))) (Ak (vs:=AZ ((AX ts).getD i ((0,0,0):Tq3))) (i:=0) O O (Aw.ne wy.ok Z) Zk (BD Aa _ _ _ Z) (Aa _)) O (AC.retell (k:=27) (u:=(aG (AZ wq))) O (by rw [hwq]) (al dE O λb3=>BN O sizeOf84 O (q3 (sL [1,2,3,6,22,23,24,5,8] O) (AJ (v:=(pP b3 0)) (AB O underlying84 O sizeOf3 O) O (BE 0 (vN wq.1) BY O ?_))))))))))
  refine AJ (v:=(pP b3 1)) (AB O underlying84 O sizeOf3 O) O (BE 0 (vN wq.2.1) BY O (AJ (v:=(aG (Ap (wq.1,wq.2.1)))) (Ar (zs:=Ap ((0,0):P2)) (vs:=Ap (wq.1,wq.2.1)) (pv:=[(0,(vN wq.1)),(1,(vN wq.2.1))]) zeroValue112 underlying112 sizeOf3 O (JY wq.1 wq.2.1)) O (al I4 O λb4=>BN O sizeOf112 O (q6 (sL [1,2,3,6,22,23,24,5,8,9] O) (q4 (AM O (BF 0 Eq O (AJ (v:=(vN ((Ae dn (wq.1,wq.2.1)).getD 0))) (Bo FY 3 (eV:=vN) (kvs:=dn) (x:=(wq.1,wq.2.1)) (z0:=0) (co:=false) O O underlying71 zeroValue3 O (hdi.ok) (Mn hnb Z hbd.1)) O (AJ (CY (c:=(decide (0<((Ae dn (wq.1,wq.2.1)).getD 0)))) O O (CD (a:=0) (b:=(Ae dn (wq.1,wq.2.1)).getD 0))) O (AC.nil ?_))))))))))
  refine OkQ.subF (sL [1,2,3,6,22,23,24,5,8,9,36] O) (OkQ.then_ ?_)
  refine AE.cond O (λhc2=>?_) (λhc2=>?_)
  ·replace hc2:=of_decide_eq_true hc2
   have hcS:=hc2
   exact AE.exit (OkQ.then_exit (OkQ.in_exit (OkQ.then_ (AE.region (AJ (AQ (c:=((i+1:Nat):Int)) O O (AN (a:=i) (b:=1) Z)) O (AM O (AC.nil (OkQ.subF (sL [1,2,3,6,22,23,24,5,8,9] O) (OkQ.round5 (i+1) rs p1 c1 dn (⟨Z,ho1,by rw [hdn,Kv hwq hdn hcS],by rw [hrl,Kv hwq hdn hcS],hdi,hat,Z,hcl⟩) Z (sF O) (sl (sl sr)))))))))))
  ·replace hc2:=of_decide_eq_false hc2
   have hcN:=hc2
   refine AE.skip (q2 (AI O (AC.nilRow 3 1 (AC.nil (q1 (q4 (BF 1 Eq O (al I4 O λb5=>BN O sizeOf112 O (AC.nil (OkQ.subF (sL [1,2,3,6,22,23,24,5,8,9,10,11] O) ?_))))))))))
   refine OkQ.then_ (AE.block ?_)
   refine AE.lp7 (tg λ(j:Nat) (k:P2) (dn2:List (P2×Nat)) (l:List Nat) (p2:Option Addr) (c2:Nat) (bk:Nat)=>Px ts dn (wq.1,wq.2.1) j dn2 k l/\OwnOk p2 l.length c2) (tg λ(j:Nat) (k:P2) (dn2:List (P2×Nat)) (l:List Nat) (p2:Option Addr) (c2:Nat) (bk:Nat)=>[(1,(pP b1 0)),(2,(Value.slice none 0 0)),(3,(Value.map (some sx.b))),(6,(Value.map (some b2))),(22,(Value.slice wy.p ((AX ts).length) wy.c)),(23,(vN ((AX ts).length))),(24,(vN i)),(5,(Value.slice p1 rs.length c1)),(11,(pP bk 0)),(10,(Value.slice p2 l.length c2))]) (tg λ(j:Nat) (k:P2) (dn2:List (P2×Nat)) (l:List Nat) (p2:Option Addr) (c2:Nat) (bk:Nat)=>(Af bk 112 (Ap k)::rowW p2 3 1 l.length c2 (inL l)::Af b4 112 (Ap (wq.1,wq.2.1))::Af b3 84 (AZ wq)::AK wy.p (rowsL AZ (AX ts))::Bu b2 Ee vN dn2::rowW p1 86 1 rs.length c1 (rvL rs)::II sx.b Ee vN sx.kvs::Af b1 31 (Bp x)::AK x.a.p (rowsL Bf ps)::AK x.b.p (rowsL AZ ts)::AK x.c.p (rowsL AZ ss)::D8 rs)) (tg λ(j:Nat) (k:P2) (dn2:List (P2×Nat)) (l:List Nat) (p2:Option Addr) (c2:Nat) (bk:Nat)=>3*ts.length-j) 0 (wq.1,wq.2.1) dn ([]:List Nat) none 0 b5 (⟨Px.zero hdi hbd,OwnOk.none⟩) (sF O) sr (λj k dn2 l p2 c2 bk hJ=>?_)
   obtain ⟨hgo,ho2⟩:=hJ
   have hll:=hgo.ll
   have hjl:=hgo.le
   have hkok:O3 k:=Mn hnb Z hgo.bd.1
   refine AE.seq (q4 (AM O (BF 0 Eq O (AJ (v:=(vN ((Ae dn2 k).getD 0))) (Bo FY 5 (eV:=vN) (kvs:=dn2) (x:=k) (z0:=0) (co:=false) O O underlying71 zeroValue3 O (hgo.di.ok) (hkok)) O (AJ (BQ (c:=(decide (((Ae dn2 k).getD 0)=0))) O O (JC (a:=(Ae dn2 k).getD 0) (b:=0))) O (AC.nil (OkQ.subF (sL [1,2,3,6,22,23,24,5,11,10,41] O) (OkQ.then_ ?_))))))))
   refine AE.cond O (λhc3=>?_) (λhc3=>?_)
   ·replace hc3:=of_decide_eq_true hc3
    have hcU:=hc3
    have hjt:=hgo.lt hnb Z ho hc3
    refine AE.skip (q1 (AE.block (q4 (AM O (BF 0 Eq O (AC.mapUpdate FY 5 (kvs:=dn2) (x:=k) (y:=1) (AP O) O O O underlying71 O (hgo.di.ok) (hkok) (AC.nil (OkQ.subF (sL [1,2,3,6,22,23,24,5,11,10] O) (OkQ.then_ (AE.region (AM O ?_)))))))))))
    refine AJ (v:=(pP bk 0)) (AD (j:=0) O O underlying112 sizeOf3 O (by decide) O) O (BE 0 (vN k.1) BY O (AC.openV (V:=λb6=>(Value.slice (some ⟨b6,0,none⟩) 1 1)) (T:=3) (cs:=[(vN k.1)]) (AP O) (Ai (cs:=[(vN k.1)]) (pv:=[(0,(vN k.1))]) underlying86 sizeOf3 zeroValue3 (by decide) (by decide) O (by kernel_rfl)) O (Ad O) λb6=>AC.append2 (j:=0) (cs2:=inL (l++[k.1])) LJ O ho2 (by rw [BR,Nat.mul_one]) O O O O (by decide) (FE Z) Z (by rw [Cd];rfl) O λp_1 c_1 ho_1 hne_1=>AI O (AC.nil (OkQ.subF (sL [1,2,3,6,22,23,24,5,11,10] O) (OkQ.in_normal (q1 (q4 (BF 1 Eq O (AC.nil ?_)))))))))
    refine OkQ.then_ (AE.region (al I4 O λb7=>BN O sizeOf112 O (AC.nil (OkQ.subF (sL [1,2,3,6,22,23,24,5,11,10] O) (OkQ.then_ (AE.region (BF 10 DA O (AM O (BF 0 Eq O (DS call40 (λw hw=>TK x sx k hnb ho hgo.bd hp htl w (Br hw 11 O lx) (Br hw 9 O lsx)) O ?_))))))))))
    refine BN O sizeOf112 O (AC.nil (OkQ.subF (sL [1,2,3,6,22,23,24,5,11,10] O) ?_))
    rw [show l.length+1=(l++[k.1]).length by simp]
    exact OkQ.round7 (j+1) (DW ts k) (BG dn2 k 1) (l++[k.1]) p_1 c_1 b7 (⟨hgo.succ hnb Z ho hcU,by simpa using ho_1⟩) Z (sF O) (sk (sl (sl sr)))
   ·replace hc3:=of_decide_eq_false hc3
    have hgv:=hgo.stop hc3
    have hl0:0<l.length:=by rcases Nat.eq_zero_or_pos l.length with e|e;exfalso;obtain ⟨e1,e2⟩:=hgo.at0 Z;rw [e1,e2] at hc3;omega;exact e
    refine AE.exit (OkQ.then_exit (OkQ.round7_exit (OkQ.in_exit (OkQ.then_ (AE.region (AM O (AM O (AC.frzRow 1 O ho2 (by rw [BR,Nat.mul_one]) O O λhn_LO=>AC.callR (S:=S) (α:=CX (inL (Dc l)) (Dc l).length) (args:=[(Value.slice p2 l.length c2)]) call41 (λw hw=>Qd l ⟨p2,c2,ho2.row⟩ hl0 Z w (Br hw 1 O (At.new hn_LO))) O O O λtu ltu=>?_))))))))
    have hsm:(Dc l).length<=10000000:=by rw [Ou];omega
    refine AC.permL (show List.Perm _ (Af bk 112 (Ap k)::AK p2 (inL l)::Af b4 112 (Ap (wq.1,wq.2.1))::Af b3 84 (AZ wq)::AK wy.p (rowsL AZ (AX ts))::Bu b2 Ee vN dn2::rowW p1 86 1 rs.length c1 (rvL rs)::II sx.b Ee vN sx.kvs::Af b1 31 (Bp x)::AK x.a.p (rowsL Bf ps)::AK x.b.p (rowsL AZ ts)::AK x.c.p (rowsL AZ ss)::D8 (rs++[(⟨Dc l,tu.p,(Dc l).length,tu.ok,hsm⟩:RI)])) from WG (⟨Dc l,tu.p,(Dc l).length,tu.ok,hsm⟩:RI) [Af bk 112 (Ap k),AK p2 (inL l),Af b4 112 (Ap (wq.1,wq.2.1)),Af b3 84 (AZ wq),AK wy.p (rowsL AZ (AX ts)),Bu b2 Ee vN dn2,rowW p1 86 1 rs.length c1 (rvL rs),II sx.b Ee vN sx.kvs,Af b1 31 (Bp x),AK x.a.p (rowsL Bf ps),AK x.b.p (rowsL AZ ts),AK x.c.p (rowsL AZ ss)] rs) (AC.openV (V:=λb6=>(Value.slice (some ⟨b6,0,none⟩) 1 1)) (T:=86) (cs:=[(Value.slice tu.p ((Dc l).length) ((Dc l).length))]) (AP O) (Ai (cs:=[(Value.slice tu.p ((Dc l).length) ((Dc l).length))]) (pv:=[(0,(Value.slice tu.p ((Dc l).length) ((Dc l).length)))]) underlying80 sizeOf86 zeroValue86 (by decide) (by decide) O (by kernel_rfl)) O (Ad O) λb6=>AC.appendAt 7 (j:=0) (cs2:=rvL (rs++[(⟨Dc l,tu.p,(Dc l).length,tu.ok,hsm⟩:RI)])) bf O ho1 (by rw [Es,Nat.mul_one]) O O O O O (by decide) (FE Z) Z (by rw [LF];rfl) O λpu cu hou hnu=>AI O (AC.nil (OkQ.subF (sL [1,2,3,6,22,23,24,5,11,10] O) (OkQ.in_normal (OkQ.then_ (AE.region (AJ (AQ (c:=((i+1:Nat):Int)) O O (AN (a:=i) (b:=1) Z)) O (AM O (AC.nil ?_)))))))))
    refine OkQ.subF (sL [1,2,3,6,22,23,24,5,11,10] O) ?_
    rw [show rs.length+1=(rs++[(⟨Dc l,tu.p,(Dc l).length,tu.ok,hsm⟩:RI)]).length by simp]
    exact OkQ.round5 (i+1) (rs++[(⟨Dc l,tu.p,(Dc l).length,tu.ok,hsm⟩:RI)]) pu cu dn2 (⟨Z,by simpa using hou,by rw [M_ hwq hdn hcN hgv],by rw [M_ hwq hdn hcN hgv,List.map_append,hrl];rfl,hgo.di,λr hr=>by rcases List.mem_append.1 hr with h9|h9;exact hat r h9;rw [List.mem_singleton.1 h9];exact λb e=>ltu _ (List.mem_singleton.2 O) b e,by rw [List.length_append];show _+1<=_;omega,λr hr=>by rcases List.mem_append.1 hr with h9|h9;exact hcl r h9;rw [List.mem_singleton.1 h9]⟩) Z (sF O) (sl (sl (sl (sl (sl sr)))))
 ·replace hc1:=of_decide_eq_false hc1
  have hie:i=(AX ts).length:=by omega
  have hlp:=Qp (ts:=ts) i Z
  rw [<-hrl,List.length_map] at hlp
  have hpn:p1≠none:=λe=>by have:=(ho1.nil e).1;omega
  refine AE.exit (OkQ.then_exit (OkQ.round5_exit (OkQ.in_exit (q2 (AM O ?_)))))
  refine AC.callWE 2 (α:=List RI) (K:=λys=>ys.Perm rs/\ys.Pairwise cf) (cs':=rvL) (v:=.tuple #[]) (AP O) (A_ (args:=[(Value.slice p1 rs.length c1),(Value.func (.func 43) #[] #[])]) O O call42) O (λw hw=>UC rs p1 rs.length c1 86 ho1 hpn O Z w (hw.holds (i:=2) O) (SZ (A:=[AK wy.p (rowsL AZ (AX ts)),Bu b2 Ee vN dn,rowW p1 86 1 rs.length c1 (rvL rs),II sx.b Ee vN sx.kvs,Af b1 31 (Bp x),AK x.a.p (rowsL Bf ps),AK x.b.p (rowsL AZ ts),AK x.c.p (rowsL AZ ss)]) (rs:=rs) (i:=2) hw O)) (λd hd=>by cases hd<;>exact (Ad O)) ?_;intro ys ⟨hy1,hy2⟩
  exact q3 (sL [1,2,3,6,22,23,24,5] O) (AM O (ck' call44 (VB p1 rs.length c1 ho1.row.le) O (AI O (AC.nil (OkQ.subF (sL [1,2,3,6,22,23,24,5] O) (OkQ.then_ (AE.ret (AV O (Ah (v:=(Value.slice p1 rs.length rs.length)) O) (λw hw=>(Zp (A:=[AK wy.p (rowsL AZ (AX ts)),Bu b2 Ee vN dn,rowW p1 86 1 rs.length c1 (rvL ys),II sx.b Ee vN sx.kvs,Af b1 31 (Bp x),AK x.a.p (rowsL Bf ps),AK x.b.p (rowsL AZ ts),AK x.c.p (rowsL AZ ss)]) (rs:=ys) ((show BS _ w ([AK wy.p (rowsL AZ (AX ts)),Bu b2 Ee vN dn,rowW p1 86 1 rs.length c1 (rvL ys),II sx.b Ee vN sx.kvs,Af b1 31 (Bp x),AK x.a.p (rowsL Bf ps),AK x.b.p (rowsL AZ ts),AK x.c.p (rowsL AZ ss)]++D8 rs) from hw).perm (bI hy1)) 2 O ho1 hy1.length_eq.symm (by rw [Sg hy1 hy2,hrl,hie];rfl) (λr hr=>hat r (hy1.mem_iff.1 hr)) (λr hr=>hcl r (hy1.mem_iff.1 hr)) O))))))))))
theorem Nz {ps:List Pt} {ts ss:List T3} (x:MX ps ts ss) (hor:(BI ps.length ts&&Bc ts (3*ts.length))=true) (hwn:0<(AX ts).length) (hp:ps.length<=1000000) (htl:ts.length<=1000000) (w:World) {S:Nat->Prop} (hx:Ro S w x):Calls prog 20 #[(aG (Bp x))] w (Am (V_ (Ir ts)) S w):=(Lq x hor hwn hp htl w hx).mono λe w1 h=>h.ofLPD
end
end Go.Proofs.YtpgncndhhhllfaaGreat
