import Derived.Test.YtfbomiejpbchdaaGreatPart45
namespace Go.Proofs.YtfbomiejpbchdaaGreat
open Go Go.RowKit Go.Proofs.Tryz
set_option linter.unusedVariables false
set_option linter.unusedSimpArgs false
section
def WJ (md:List (P2×Nat)) (t:T3):List T3:=M8 (Ae md (Fa t 3)).isSome (Ae md (Fa t 4)).isSome (Ae md (Fa t 5)).isSome
theorem Up (x y z:Bool):Rc (M8 x y z)=8:=by cases x<;>cases y<;>cases z<;>decide
theorem SE (x y z:Bool):∀L∈M8 x y z,D3 L.1 L.2.1 L.2.2=8\/D3 L.1 L.2.1 L.2.2=4\/D3 L.1 L.2.1 L.2.2=2:=by cases x<;>cases y<;>cases z<;>decide
section
variable {ps:List Pt} {ts ss:List T3} {l:List E4} {ms:List Int} {t:T3} {md:List (P2×Nat)}
theorem Qg (t:T3):CB md 2 t=(WJ md t).map (C3 (λa b=>(Ae md (BY a b)).getD 0) t):=by
  obtain ⟨a,b,c⟩:=t
  have k3:Fa (a,b,c) 3=BY a b:=rfl
  have k4:Fa (a,b,c) 4=BY b c:=rfl
  have k5:Fa (a,b,c) 5=BY c a:=rfl
  unfold WJ
  rw [k3,k4,k5]
  cases hy:Ae md (BY b c) with
  | none=>rw [Ep (show Ae md (Bh (a,b,c))=none from hy)];rfl
  | some n =>
    rw [E3 (show Ae md (Bh (a,b,c))=some n from hy)]
    have e4:E7 (λa b=>(Ae md (BY a b)).getD 0) (a,b,c) 4=n:=by show (Ae md (BY b c)).getD 0=n;rw [hy];rfl
    have one:∀p q r,CB md 1 (p,q,r)=match Ae md (BY q r) with|none=>[(p,q,r)]|some n2=>[(n2,p,q),(n2,r,p)]:=λp q r=>by
      cases h:Ae md (BY q r) with
      | none=>rw [Ep (show Ae md (Bh (p,q,r))=none from h)]
      | some n2=>rw [E3 (show Ae md (Bh (p,q,r))=some n2 from h)];rfl
    show CB md 1 (n,a,b)++CB md 1 (n,c,a)=_
    rw [one,one]
    cases hx:Ae md (BY a b) with
    | none =>
      cases hz:Ae md (BY c a) with
      | none=>simp [M8,C3,e4];exact ⟨⟨rfl,rfl⟩,rfl,rfl⟩
      | some n5 =>
        have e5:E7 (λa b=>(Ae md (BY a b)).getD 0) (a,b,c) 5=n5:=by show (Ae md (BY c a)).getD 0=n5;rw [hz];rfl
        simp [M8,C3,e4,e5];exact ⟨⟨rfl,rfl⟩,rfl,rfl⟩
    | some n3 =>
      have e3:E7 (λa b=>(Ae md (BY a b)).getD 0) (a,b,c) 3=n3:=by show (Ae md (BY a b)).getD 0=n3;rw [hx];rfl
      cases hz:Ae md (BY c a) with
      | none=>simp [M8,C3,e4,e3];exact ⟨rfl,rfl,rfl,rfl⟩
      | some n5 =>
        have e5:E7 (λa b=>(Ae md (BY a b)).getD 0) (a,b,c) 5=n5:=by show (Ae md (BY c a)).getD 0=n5;rw [hz];rfl
        simp [M8,C3,e4,e3,e5];exact ⟨rfl,rfl,rfl,rfl⟩
theorem N_ (D:F9 ps ts ss l ms):EP ps ts ss l (Et (EC ps l) ts):=⟨D.g,D.hn,D.sd,λk n h=>(D.k_get h).2,D.k_llen,Xp,D.k_num,D.k_mid,Vy λt ht=>Xx D.k_mid (Ta (List.all_eq_true.1 D.hn t ht)) (D.k_closed ht)⟩
theorem Nr (D:F9 ps ts ss l ms):GZ ps ts (Dn ps l) (Et (EC ps l) ts) (Zo ps l) (WJ (EC ps l)):=by
  obtain ⟨p,hl,_⟩:=D.cut
  refine X0 (N_ D) (λe he=>by rw [hl] at he;exact (List.mem_filter.1 he).1) (Hs D.hn (by have:=D.k_hN;omega) hl).1 (λ_ _=>W0 _ _ _) ?_ λt ht k hk hk6=>?_
  · unfold Et
    congr 1
    funext t
    exact Qg t
  · have hc:=D.k_closed ht
    have hc3:Ae (EC ps l) (Fa t 4)=none->Ae (EC ps l) (Fa t 3)=none:=λh=>(hc h).1
    have hc5:Ae (EC ps l) (Fa t 4)=none->Ae (EC ps l) (Fa t 5)=none:=λh=>(hc h).2
    have e:k=3\/k=4\/k=5:=by omega
    unfold WJ
    rcases e with rfl|rfl|rfl<;>cases h3:Ae (EC ps l) (Fa t 3)<;>cases h4:Ae (EC ps l) (Fa t 4)<;>cases h5:Ae (EC ps l) (Fa t 5)<;>(try (have:=hc3 h4;rw [h3] at this;cases this))<;>(try (have:=hc5 h4;rw [h5] at this;cases this))<;>simp [M8,Gm,Cd]
theorem XH (D:F9 ps ts ss l ms):Lv (Dn ps l) (Et (EC ps l) ts) (IA ps.length ss l (Et (EC ps l) ts)):=YM (N_ D) (Nr D) (by
  have h:=List.length_pos_iff.2 D.g.ne
  have h1:=Jy (EC ps l) 2 (ts.getD 0 (0,0,0))
  unfold Et
  have hm:ts.getD 0 (0,0,0)∈ts:=E5 h
  obtain ⟨c,hc⟩:=List.exists_mem_of_length_pos h1
  exact List.length_pos_of_mem (List.mem_flatMap.2 ⟨_,hm,hc⟩))
theorem Si (D:F9 ps ts ss l ms):GB (Dn ps l) (Et (EC ps l) ts) (Et (EC ps l) ts).length=GB ps ts ts.length:=(Nr D).v_area λ_ _=>Up _ _ _
theorem XO:∀i,i<=ts.length->∀j,j<(I0 md ts i).length->(Bp md ts i).getD j 0<i/\(I0 md ts i).getD j (0,0,0)∈CB md 2 (ts.getD ((Bp md ts i).getD j 0) (0,0,0))
  | 0,_,j,h=>by simp [I0] at h
  | i+1,hi,j,h=>by
    have hl:=Jj (md:=md) i (Nat.le_of_succ_le hi)
    rw [Gs Z,List.length_append] at h
    rw [Gs Z,Bp]
    have gl:∀{α:Type} (d:α) (a b:List α),j<a.length->(a++b).getD j d=a.getD j d:=λd a b h=>by rw [List.getD,List.getD,List.getElem?_append_left h]
    have gr:∀{α:Type} (d:α) (a b:List α),a.length<=j->(a++b).getD j d=b.getD (j-a.length) d:=λd a b h=>by rw [List.getD,List.getD,List.getElem?_append_right h]
    rcases Nat.lt_or_ge j (I0 md ts i).length with h1|h1
    · rw [gl _ _ _ h1,gl _ _ _ Z]
      have:=XO i Z j h1
      exact ⟨by have:=this.1;omega,this.2⟩
    · rw [gr _ _ _ h1,gr _ _ _ Z,hl]
      have h2:j-(I0 md ts i).length<(CB md 2 (ts.getD i (0,0,0))).length:=by omega
      have e:(ER (CB md 2 (ts.getD i (0,0,0))).length i).getD (j-(I0 md ts i).length) 0=i:=by
        generalize (CB md 2 (ts.getD i (0,0,0))).length=q at *
        rw [ER,List.getD,List.getElem?_replicate,if_pos h2];rfl
      rw [e]
      exact ⟨Nat.lt_succ_self i,E5 h2⟩
theorem Iy:∀i,i<=ts.length->(Bp md ts i).Pairwise (·<=·)/\∀x∈Bp md ts i,x<i
  | 0,_=>⟨List.Pairwise.nil,λx hx=>by cases hx⟩
  | i+1,hi=>by
    obtain ⟨h1,h2⟩:=Iy i Z
    have hr:∀x∈ER (CB md 2 (ts.getD i (0,0,0))).length i,x=i:=λx hx=>List.eq_of_mem_replicate hx
    refine ⟨List.pairwise_append.2 ⟨h1,List.pairwise_replicate.2 (.inr (Nat.le_refl _)),λa ha b hb=>by have:=h2 a ha;have:=hr b hb;omega⟩,λx hx=>?_⟩
    rcases List.mem_append.1 hx with h|h
    · have:=h2 x h;omega
    · have:=hr x h;omega
theorem Ov {k:Nat}:∀i,i<=ts.length->k<i->(Bp md ts i).count k=(CB md 2 (ts.getD k (0,0,0))).length
  | 0,_,h=>absurd h (Nat.not_lt_zero _)
  | i+1,hi,hk=>by
    show ((Bp md ts i)++ER _ i).count k=_
    rw [List.count_append]
    have hr:(ER (CB md 2 (ts.getD i (0,0,0))).length i).count k=if i=k then (CB md 2 (ts.getD i (0,0,0))).length else 0:=by unfold ER;rw [List.count_replicate];simp
    rw [hr]
    rcases Nat.lt_or_ge k i with h|h
    · rw [Ov i Z h,if_neg Z];omega
    · have e:k=i:=by omega
      rw [e,if_pos rfl]
      have:(Bp md ts i).count i=0:=List.count_eq_zero.2 λhm=>by have:=(Iy (md:=md) i Z).2 i hm;omega
      omega
def Ea (l:List Nat) (T i:Nat):List Nat:=(List.range T).map λk=>(l.take i).count k
theorem EZ (l:List Nat) (T i:Nat):(Ea l T i).length=T:=by simp [Ea]
theorem SI (l:List Nat) (T:Nat):List.replicate T 0=Ea l T 0:=by
  unfold Ea
  rw [List.take_zero]
  apply List.ext_getElem?
  intro j
  rcases Nat.lt_or_ge j T with h|h
  · simp [h]
  · rw [List.getElem?_eq_none (by simpa using h),List.getElem?_eq_none (by simpa using h)]
theorem Kj {l:List Nat} {T i k:Nat} (h:k<T):(Ea l T i).getD k 0=(l.take i).count k:=by simp [Ea,h]
theorem FB {l:List Nat} {T i:Nat} (hi:i<l.length) (hT:l.getD i 0<T):(Ea l T i).set (l.getD i 0) ((Ea l T i).getD (l.getD i 0) 0+1)=Ea l T (i+1):=by
  apply List.ext_getElem?
  intro j
  rw [Kj hT]
  have e:l.take (i+1)=l.take i++[l.getD i 0]:=by rw [List.take_add_one,List.getD,List.getElem?_eq_getElem hi];rfl
  unfold Ea
  rw [e]
  rcases Nat.lt_or_ge j T with h|h
  · rw [List.getElem?_set,List.length_map,List.length_range,List.getElem?_map,List.getElem?_map,List.getElem?_range h,Option.map_some,Option.map_some,List.count_append]
    have e1:List.count j [l.getD i 0]=if l.getD i 0=j then 1 else 0:=by rw [List.count_singleton];simp
    rw [e1]
    by_cases h1:l.getD i 0=j
    · rw [if_pos h1,if_pos h1,if_pos Z,h1]
    · rw [if_neg h1,if_neg h1];rfl
  · rw [List.getElem?_eq_none (by simpa using h),List.getElem?_eq_none (by simpa using h)]
theorem W3 {l:List Nat} {T i k:Nat}:(Ea l T i).getD k 0<=i:=by
  rcases Nat.lt_or_ge k T with h|h
  · rw [Kj h]
    exact Nat.le_trans (List.count_le_length) (by rw [List.length_take];omega)
  · rw [List.getD,List.getElem?_eq_none (by rw [EZ];exact h)];exact Nat.zero_le _
structure aH (a b c p q r:Pt):Prop where
  w0:FP a b c p≠0
  w1:FP a b c q≠0
  w2:FP a b c r≠0
  ar:AJ p q r*(1/2)=AJ a b c*(1/2)\/AJ p q r*(1/2)+AJ p q r*(1/2)=AJ a b c*(1/2)\/(AJ p q r*(1/2)+AJ p q r*(1/2))+(AJ p q r*(1/2)+AJ p q r*(1/2))=AJ a b c*(1/2)
theorem Wd (D:F9 ps ts ss l ms) {t:Nat} (ht:t<(Et (EC ps l) ts).length):(Bp (EC ps l) ts ts.length).getD t 0<ts.length /\
    aH (cor ps (ts.getD ((Bp (EC ps l) ts ts.length).getD t 0) (0,0,0)).1) (cor ps (ts.getD ((Bp (EC ps l) ts ts.length).getD t 0) (0,0,0)).2.1) (cor ps (ts.getD ((Bp (EC ps l) ts ts.length).getD t 0) (0,0,0)).2.2)
      (cor (Dn ps l) ((Et (EC ps l) ts).getD t (0,0,0)).1) (cor (Dn ps l) ((Et (EC ps l) ts).getD t (0,0,0)).2.1) (cor (Dn ps l) ((Et (EC ps l) ts).getD t (0,0,0)).2.2):=by
  have S:=Nr D
  have h:=XO (md:=EC ps l) (ts:=ts) ts.length (Nat.le_refl _) t (by rw [H4];exact ht)
  rw [H4] at h
  refine ⟨h.1,?_⟩
  have hm:=E5 h.1
  obtain ⟨L,hL,e⟩:=List.mem_map.1 (by have h2:=h.2;rw [Qg] at h2;exact h2)
  generalize ts.getD ((Bp (EC ps l) ts ts.length).getD t 0) (0,0,0)=U at *
  have e:C3 (Zo ps l) U L=(Et (EC ps l) ts).getD t (0,0,0):=e
  rw [<-e]
  have ha:=S.v_turn hm hL
  obtain ⟨l1,l2,l3⟩:=(S.fok U hm).lt L hL
  obtain ⟨e1,e2,e3⟩:=S.v_c3 hm hL
  rw [e1,e2,e3] at ha ⊢
  refine ⟨S.v_where hm l1,S.v_where hm l2,S.v_where hm l3,?_⟩
  have h8:((8:Int):Rat)=8:=rfl
  have h4:((4:Int):Rat)=4:=rfl
  have h2:((2:Int):Rat)=2:=rfl
  rcases SE _ _ _ L hL with hd|hd|hd<;>rw [hd] at ha
  · left;rw [h8] at ha;grind
  · right;left;rw [h4] at ha;grind
  · right;right;rw [h2] at ha;grind
theorem XF (D:F9 ps ts ss l ms) {z:Int} (hz:z∈ms) (h0:0<=z) (h1:z<(ts.length:Int)):2<=(Bp (EC ps l) ts ts.length).count z.toNat:=by
  obtain ⟨p,hl,ha⟩:=D.cut
  have hN:=D.k_hN
  have hm:ts.getD z.toNat (0,0,0)∈ts:=E5 Z
  rw [Ov ts.length (Nat.le_refl _) Z]
  obtain ⟨n,hn⟩:=Uv (M:=ps.length) D.hn Z hl ha (k:=Bh (ts.getD z.toNat (0,0,0))) (QJ hm).2.1 (.start ⟨z,hz,h0,h1,rfl⟩)
  exact Wg hn
theorem ZC (D:F9 ps ts ss l ms) {t:Nat} (h0:0<t) (ht:t<(Bp (EC ps l) ts ts.length).length):(Bp (EC ps l) ts ts.length).getD (t-1) 0<=(Bp (EC ps l) ts ts.length).getD t 0:=by
  have h:=List.pairwise_iff_getElem.1 (Iy (md:=EC ps l) (ts:=ts) ts.length (Nat.le_refl _)).1 (t-1) t Z ht Z
  rw [List.getD,List.getD,List.getElem?_eq_getElem ht,List.getElem?_eq_getElem (show t-1<_ by omega)]
  exact h
end
theorem T7 {a:List Nat} {n j:Nat} (h:j<a.length):(GK a n a.length).getD j 0=((a.getD j 0%n:Nat):Int):=by
  unfold GK
  rw [List.take_length,List.getD,List.getElem?_map,List.getElem?_eq_getElem h,List.getD,List.getElem?_eq_getElem h]
  rfl
theorem Oe (l:List Nat) (j v:Nat):(inL l).set j (vN v)=inL (l.set j v):=by unfold inL;rw [List.map_set]
section
variable {P:Program} {ops:Array Oper} {rest:List Oper} {Q:Exit->Act->World->Prop} {n d:Nat} {F:List (Nat×Value)} {w0:BM} {L:List As} {t:TypeId} {p:String} {af:Array Edge}
theorem AE.makeNat {m:Nat} {ty T:TypeId} {x y:Operand} {ki kj:IntKind} {bytes:Nat} (ht:Oz P t T (vN 0) bytes) (hx:evF F x=some (.int ki (m:Nat))) (hy:evF F y=some (.int kj (m:Nat))) (hm:m<=1099511627776) (hb:Nat.ble bytes 16=true) (hd:Nat.ble (d+1) n=true)
    (next:∀b,OwnOk (some ⟨b,0,none⟩) m m->AE P ops rest Q n ((d,.slice (some ⟨b,0,none⟩) m m)::F) w0 (rowW (some ⟨b,0,none⟩) T 1 m m (inL (List.replicate m 0))::L)) :
    AE P ops (⟨some d,.makeSlice t x y,ty,p,af,none⟩::rest) Q n F w0 L:=AE.makeRow ht hx hy hm hb hd λb ho=>by
  have h:=next b ho
  unfold inL at h
  rw [List.map_replicate] at h
  exact h
end
end
end Go.Proofs.YtfbomiejpbchdaaGreat
