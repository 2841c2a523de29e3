import Derived.Test.YtfbomiejpbchdaaGreatPart34
import Derived.Test.YtfbomiejpbchdaaGreatPart35
import Derived.Test.YtfbomiejpbchdaaGreatPart36
import Derived.Test.YtfbomiejpbchdaaGreatPart37
import Derived.Test.YtfbomiejpbchdaaGreatPart39
import Derived.Test.YtfbomiejpbchdaaGreatPart40
namespace Go.Proofs.YtfbomiejpbchdaaGreat
open Go Go.RowKit
set_option linter.unusedVariables false
set_option linter.unusedSimpArgs false
section
set_option maxRecDepth 100000
theorem NQ {ps:List Pt} {ts ss:List T3} (x:MX ps ts ss) (l:List Int) (n:Nat) (hpt:Pj ts l n) (hnb:Ba ps.length ts=true) (hne:0<ts.length) (hp:ps.length<=1000000) (htl:ts.length<=1000000) (w:World) {S:Nat->Prop} (hx:Ro S w x):Calls Tryz.prog 15 #[(aG (B5 x))] w (Ax w (vI (((n:Nat):Int)-HD ts))):=by
 have hel0:=MH ts
 have hcl0:=Jo (ts:=ts) (3*ts.length)
 have hez:HD ts=((B8 ts (3*ts.length)).length:Int)-(A_ ts).length+ts.length:=rfl
 have hnle:=hpt.nle
 have lx:=H0 (W:=w) hx
 refine BQ (args:=[(aG (B5 x))]) (L:=[AX x.a.p (rowsL An ps),AX x.b.p (rowsL Ai ts),AX x.c.p (rowsL Ai ss)]) Tryz.func15 rfl rfl (Af rfl) (Hy hx Bo) (AE.subF (sL [0] rfl) (q4 (CB (cs:=B5 x) rfl λb1=>AL rfl (q3 (sL [1,2] rfl) ?_))))
 refine BF 0 DW rfl (AD.callR (S:=S) (α:=XH ts) (args:=[(aG (B5 x))]) Tryz.call14 (λw hw=>Jk x hnb hne hp htl w (Eu hw 1 rfl lx)) rfl rfl rfl λpa lpa=>AO rfl (AH (AY (v:=(Value.slice pa.r.p pa.l.length pa.r.c)) rfl rfl) rfl (AH (AY (v:=(vN pa.n)) rfl rfl) rfl (AD.retell (k:=9) (u:=(vN n)) rfl (by rw [V9 hpt pa.pts]) ?_))))
 refine AL rfl (AL rfl (q3 (sL [1,2,4] rfl) (AO rfl (BF 1 DW rfl (IC Tryz.call50 (λw hw=>Rm x hnb hp htl w (Eu hw 2 rfl lx)) rfl ?_)))))
 exact AH (Bf (c:=(((n:Nat):Int)-HD ts)) rfl rfl (BE (by omega) (by omega))) rfl (AL rfl (AD.nil (AC.subF (sL [1,2] rfl) (AC.then_ (AE.ret (AU rfl (Am (v:=(vI (((n:Nat):Int)-HD ts))) rfl) (λw hw=>⟨rfl,hw.out⟩)))))))
end
section
abbrev NR (ps:List Pt) (l:List E4):List (P2×Nat):=D5 ps.length l l.length
def K4 (ps pf:List Pt) (k s:T3):Bool:=decide (onS (ps.getD k.1 ⟨0,0⟩) (ps.getD k.2.1 ⟨0,0⟩) (pf.getD s.1 ⟨0,0⟩))&&decide (onS (ps.getD k.1 ⟨0,0⟩) (ps.getD k.2.1 ⟨0,0⟩) (pf.getD s.2.1 ⟨0,0⟩))
def Kw (f:Nat->Nat):Nat->Nat
  | 0=>0
  | k+1=>Kw f k+f k
section
variable {ps:List Pt} {es:List E4} {N:Nat} {ss:List T3}
theorem Mg:∀i,i<=es.length->IT ps es i=ps++(es.take i).map (Xx ps)
  | 0,_=>by simp [IT]
  | i+1,h=>by
    rw [IT,Mg i (by omega),Dk (d:=E0) (show i<es.length by omega),List.map_append,List.append_assoc];rfl
theorem GG {i:Nat} (h:i<ps.length):(Ds ps es).getD i ⟨0,0⟩=ps.getD i ⟨0,0⟩:=by
  unfold Ds
  rw [Mg _ (Nat.le_refl _),List.getD,List.getElem?_append_left h];rfl
theorem S_ {j:Nat} (h:j<es.length):(Ds ps es).getD (ps.length+j) ⟨0,0⟩=Xx ps (es.getD j E0):=by
  unfold Ds
  rw [Mg _ (Nat.le_refl _),List.take_length,List.getD,List.getElem?_append_right (by omega),show ps.length+j-ps.length=j by omega,List.getElem?_map,List.getD,List.getElem?_eq_getElem h];rfl
theorem KO {k:P2} (hk:k.2<N):∀i,Ab (DV N ss es i) k=Ab (Ek N ss ss.length) k
  | 0=>rfl
  | i+1=>by
    have ne:∀a,k≠BR a (N+i):=λa e=>by
      rw [e] at hk
      unfold BR at hk
      simp only at hk
      omega
    show Ab (BC (BC _ _ _) _ _) k=_
    rw [Bj,if_neg (ne _),Bj,if_neg (ne _),KO hk i]
theorem NA {j x:Nat} (hj:(es.getD j E0).a<N/\(es.getD j E0).b<N) (hx:x=(es.getD j E0).a\/x=(es.getD j E0).b):∀i,j<i->Ab (DV N ss es i) (x,N+j)=some ((Ab (Ek N ss ss.length) (BR (es.getD j E0).a (es.getD j E0).b)).getD 0)
  | 0,h=>absurd h (Nat.not_lt_zero _)
  | i+1,h=>by
    show Ab (BC (BC _ _ _) _ _) _=_
    rw [Bj,Bj]
    rcases Nat.lt_or_ge j i with h1|h1
    · have ne:∀a,((x,N+j):P2)≠BR a (N+i):=λa e=>by
        have:=congrArg Prod.snd e
        unfold BR at this
        simp only at this
        omega
      rw [if_neg (ne _),if_neg (ne _),NA hj hx i h1]
    · have e:i=j:=by omega
      subst e
      have hv:=KO (ss:=ss) (es:=es) (N:=N) (k:=BR (es.getD i E0).a (es.getD i E0).b) (by unfold BR;simp only;omega) i
      rw [hv,(Fh hj.1 (Nat.le_add_right N i)).2,(Fh hj.2 (Nat.le_add_right N i)).2]
      split
      · rfl
      · rename_i h2
        rw [if_pos]
        rcases hx with rfl|rfl
        · rfl
        · exact absurd rfl h2
end
section
variable {ps:List Pt} {ts ss:List T3} {l:List E4} {ms:List Int}
end
end
section
section
variable {f g:Nat->Nat} {K:Nat}
theorem NN:∀K,Kw (λ_=>0) K=0
  | 0=>rfl
  | K+1=>by rw [Kw,NN K]
theorem Pc:∀K,Kw (λj=>f j+g j) K=Kw f K+Kw g K
  | 0=>rfl
  | K+1=>by
    rw [Kw,Kw,Kw,Pc K]
    omega
theorem Sn {M:Nat} (h:∀j,f j<=M):∀K,Kw f K<=K*M
  | 0=>Nat.zero_le _
  | K+1=>by
    rw [Kw,Nat.succ_mul]
    have:=Sn h K
    have:=h K
    omega
theorem Mj {q:Nat->Bool} {j:Nat}:∀K,(∀i,i<K->q i=true->i=j)->Kw (λi=>if q i then 1 else 0) K=if j<K/\q j=true then 1 else 0
  | 0,_=>by rw [if_neg (λh=>absurd h.1 (Nat.not_lt_zero _))];rfl
  | K+1,h=>by
    rw [Kw,Mj K λi hi=>h i (by omega)]
    by_cases hq:q K=true
    · have e:=h K (by omega) hq
      subst e
      rw [if_pos hq,if_neg (λh=>absurd h.1 (Nat.lt_irrefl _)),if_pos ⟨by omega,hq⟩]
    · rw [if_neg hq]
      by_cases hj:j<K/\q j=true
      · rw [if_pos hj,if_pos ⟨by omega,hj.2⟩]
      · rw [if_neg hj,if_neg (λh2=>hj ⟨by
          rcases Nat.lt_or_ge j K with h3|h3
          · exact h3
          · exact absurd (show q K=true by rw [show K=j by omega];exact h2.2) hq,h2.2⟩)]
theorem Un {α:Type} {q:Nat->α->Bool} {xs:List α} (h:∀x∈xs,∃j,j<K/\q j x=true/\∀i,i<K->q i x=true->i=j):Kw (λj=>(xs.filter (q j)).length) K=xs.length:=by
  induction xs with
  | nil=>exact NN K
  | cons x r ih =>
    have e:(λj=>((x::r).filter (q j)).length)=λj=>(if q j x then 1 else 0)+(r.filter (q j)).length:=by
      funext j
      rw [List.filter_cons]
      split
      · rw [List.length_cons,Nat.add_comm]
      · rw [Nat.zero_add]
    obtain ⟨j,h1,h2,h3⟩:=h x List.mem_cons_self
    rw [e,Pc,ih λy hy=>h y (List.mem_cons_of_mem _ hy),Mj K h3,if_pos ⟨h1,h2⟩,List.length_cons,Nat.add_comm]
end
section
variable {ps pf:List Pt} {fs:List T3} {k:T3} {i:Nat}
end
section
variable {ps:List Pt} {ts ss:List T3} {l:List E4} {ms:List Int}
end
end
section
def X1 (ts:List T3):List Nat:=ts.flatMap λt=>[t.1,t.2.1,t.2.2]
section
variable {ts:List T3} {l:List Int} {k q N n:Nat}
theorem DF {i:Nat} (h:i<ts.length):ts.getD i (0,0,0)∈ts:=by rw [List.getD,List.getElem?_eq_getElem h];exact List.getElem_mem h
theorem Hf {t:T3} (h:t∈ts):∃i,i<ts.length/\ts.getD i (0,0,0)=t:=by
  obtain ⟨i,hi,e⟩:=List.getElem_of_mem h
  exact ⟨i,hi,by rw [List.getD,List.getElem?_eq_getElem hi];exact e⟩
theorem EO {p:Nat}:p∈X1 ts↔∃t∈ts,∃r,r<3/\CP t r=p:=by
  unfold X1
  rw [List.mem_flatMap]
  constructor
  · rintro ⟨t,ht,hp⟩
    simp only [List.mem_cons,List.not_mem_nil,or_false] at hp
    refine ⟨t,ht,?_⟩
    rcases hp with rfl|rfl|rfl
    · exact ⟨0,by decide,rfl⟩
    · exact ⟨1,by decide,rfl⟩
    · exact ⟨2,by decide,rfl⟩
  · rintro ⟨t,ht,r,hr,rfl⟩
    refine ⟨t,ht,?_⟩
    have e:r=0\/r=1\/r=2:=by omega
    rcases e with rfl|rfl|rfl<;>simp [CP]
theorem Nu {p:Nat}:∀s,(Ab (B8 ts s) p).isSome=true↔∃u,u<s/\Vx ts u=p
  | 0=>⟨λh=>(by cases h),λ⟨u,h,_⟩=>absurd h (Nat.not_lt_zero _)⟩
  | s+1=>by
    show (Ab (BC (B8 ts s) (Vx ts s) _) p).isSome=true↔_
    rw [Bj]
    split
    · rename_i e
      exact ⟨λ_=>⟨s,by omega,e.symm⟩,λ_=>rfl⟩
    · rename_i e
      rw [Nu s]
      constructor
      · rintro ⟨u,h1,h2⟩;exact ⟨u,by omega,h2⟩
      · rintro ⟨u,h1,h2⟩
        refine ⟨u,?_,h2⟩
        rcases Nat.lt_or_ge u s with h3|h3
        · exact h3
        · exact absurd (by rw [<-h2,show u=s by omega]) e
theorem Rn {β:Type} {kvs:List (Nat×β)} {p:Nat}:p∈kvs.map (·.1)↔(Ab kvs p).isSome=true:=by
  induction kvs with
  | nil=>simp [Ab]
  | cons x r ih =>
    obtain ⟨a,b⟩:=x
    rw [List.map_cons,List.mem_cons,ih]
    have e:Ab ((a,b)::r) p=if p=a then some b else Ab r p:=rfl
    rw [e]
    by_cases h:p=a
    · simp [h]
    · simp [h]
theorem KM {p:Nat}:p∈(B8 ts (3*ts.length)).map (·.1)↔p∈X1 ts:=by
  rw [Rn,Nu,EO]
  constructor
  · rintro ⟨u,h1,h2⟩
    exact ⟨_,DF (show u/3<ts.length by omega),u%3,Nat.mod_lt _ (by decide),h2⟩
  · rintro ⟨t,ht,r,hr,rfl⟩
    obtain ⟨i,hi,rfl⟩:=Hf ht
    refine ⟨3*i+r,by omega,?_⟩
    unfold Vx
    rw [show (3*i+r)/3=i by omega,show (3*i+r)%3=r by omega]
theorem LG (hn:Ba N ts=true) (hN:N<=4611686018427387904):((B8 ts (3*ts.length)).map (·.1)).Nodup:=List.pairwise_map.2 ((Ew hn hN _ (Nat.le_refl _)).once.imp λ{a b} h e=>h e)
end
end
section
def Tl (s:T2):List (P2×P2):=[(s.1,s.2.1),(s.2.1,s.2.2),(s.2.2,s.1)]
def TV (s t:T2):Bool:=s == t||(Tl s).all λe=>(Tl t).all λf=>!(e == f)
def Ru:Bool:=F5.all λp=>F5.all λq=>(decide (p.1=q.1/\p.2.1=q.2.1/\p.2.2≠q.2.2))||(Qd p.1 p.2.1 p.2.2).all λs=>(Qd q.1 q.2.1 q.2.2).all λt=>TV s t
theorem Kv:Ru=true:=by decide +kernel
theorem SU {m:MQ} {s t:T2} (hs:s∈BA m) (ht:t∈BA m):TV s t=true:=by
  obtain ⟨i,hi,h1⟩:=Do m _ s hs
  obtain ⟨j,hj,h2⟩:=Do m _ t ht
  have hx:=IZ m
  have hy:=IF m
  have b:∀k,k<FV m*Qu m->k%FV m<=2/\k/FV m<=2:=λk hk=>by
    have a1:=Nat.mod_lt k (show 0<FV m by omega)
    have a2:k/FV m<Qu m:=Nat.div_lt_of_lt_mul hk
    omega
  rw [LO] at h1 h2
  have h:=List.all_eq_true.1 (List.all_eq_true.1 Kv _ (EU (b i hi).1 (b i hi).2 (JG (Fz m i) i))) _ (EU (b j hj).1 (b j hj).2 (JG (Fz m j) j))
  rw [Bool.or_eq_true,decide_eq_true_eq] at h
  rcases h with ⟨e1,e2,e3⟩|h
  · exfalso
    have e:i=j:=by rw [<-Nat.div_add_mod i (FV m),<-Nat.div_add_mod j (FV m),show i%FV m=j%FV m from e1,show i/FV m=j/FV m from e2]
    subst e
    exact e3 rfl
  · exact List.all_eq_true.1 (List.all_eq_true.1 h s h1) t h2
theorem Wo {c:T2} (h:0<DH c.1 c.2.1 c.2.2):∃x y:Rat,UF c x y:=by
  obtain ⟨⟨a1,a2⟩,⟨b1,b2⟩,⟨c1,c2⟩⟩:=c
  have h2:(0:Rat)<(DH (a1,a2) (b1,b2) (c1,c2):Int):=by exact_mod_cast h
  have e:((DH (a1,a2) (b1,b2) (c1,c2):Int):Rat)=((b1:Rat)-a1)*((c2:Rat)-a2)-((b2:Rat)-a2)*((c1:Rat)-a1):=by
    simp only [DH,Rat.intCast_sub,Rat.intCast_mul,Rat.intCast_natCast]
  rw [e] at h2
  refine ⟨((a1:Rat)+b1+c1)/3,((a2:Rat)+b2+c2)/3,?_,?_,?_⟩<;>simp only [Jf]<;>grind
section
variable {ps:List Pt} {ts:List T3}
theorem Vg (c:T2) {k:Nat} (hk:k<3):(DI c k,DI c ((k+1)%3))∈Tl c:=by
  have e:k=0\/k=1\/k=2:=by omega
  rcases e with rfl|rfl|rfl<;>simp [Tl,DI]
theorem Ns {m:MQ} {pl:List P2} {n:T3} {t:Nat} (h:Ib m pl n t) {r:Nat} (hr:r<3):pl.getD (CP n r) (0,0)=Ao m t r:=by
  have e:r=0\/r=1\/r=2:=by omega
  rcases e with rfl|rfl|rfl
  · exact h.a.2
  · exact h.b.2
  · exact h.c.2
theorem TB (g:GoodM ps ts) (hn:Ba ps.length ts=true) {u v:Nat} (hu:u<3*ts.length) (hv:v<3*ts.length) (h:Bb ts u=Bb ts v):u=v:=by
  obtain ⟨m,pl,hi,_,_⟩:=g.lat
  have htl:=hi.tl
  have key:∀w,w<3*ts.length->(pl.getD (Bb ts w).1 (0,0),pl.getD (Bb ts w).2 (0,0))∈Tl ((BA m).getD (w/3) ((0,0),(0,0),(0,0))):=λw hw=>by
    have ha:=hi.at_ (w/3) (by omega)
    have e1:=Ns ha (Nat.mod_lt w (show 0<3 by decide))
    have e2:=Ns ha (Nat.mod_lt (w%3+1) (show 0<3 by decide))
    unfold Bb
    rw [e1,e2]
    unfold Ao
    rw [show Gs m (w/3) ((w%3+1)%3)=(Gs m (w/3) (w%3)+1)%3 by unfold Gs;omega]
    exact Vg _ (by unfold Gs;exact Nat.mod_lt _ (by decide))
  have cell:∀w,w<3*ts.length->(BA m).getD (w/3) ((0,0),(0,0),(0,0))∈BA m:=λw hw=>by
    rw [List.getD,List.getElem?_eq_getElem (by omega)];exact List.getElem_mem _
  have h1:=key u hu
  have h2:=key v hv
  rw [<-h] at h2
  have h3:=SU (cell u hu) (cell v hv)
  have h4:u/3=v/3:=by
    simp only [TV,Bool.or_eq_true,beq_iff_eq] at h3
    rcases h3 with h3|h3
    · by_cases e:u/3=v/3
      · exact e
      · exfalso
        obtain ⟨x,y,ho⟩:=Wo (H8 m _ (cell u hu)).1
        refine Lc m (show u/3<(BA m).length by omega) (show v/3<(BA m).length by omega) e ((0,0),(0,0),(0,0)) x y ho ?_
        rw [<-h3]
        exact ⟨by have:=ho.1;grind,by have:=ho.2.1;grind,by have:=ho.2.2;grind⟩
    · have h5:=List.all_eq_true.1 (List.all_eq_true.1 h3 _ h1) _ h2
      simp at h5
  have hne:=J4 (DN hn (show u/3<ts.length by omega))
  have e1:(Bb ts u).1=(Bb ts v).1:=by rw [h]
  unfold Bb at e1
  rw [<-h4] at e1
  generalize ts.getD (u/3) (0,0,0)=t at *
  have a:u%3=0\/u%3=1\/u%3=2:=by omega
  have b:v%3=0\/v%3=1\/v%3=2:=by omega
  have e2:u%3=v%3:=by
    rcases a with a|a|a<;>rcases b with b|b|b<;>rw [a,b]<;>rw [a,b] at e1<;>simp [CP] at e1<;>omega
  omega
theorem Rp (g:GoodM ps ts) (hn:Ba ps.length ts=true):F2 ts (3*ts.length)=true:=by
  have key:∀n,n<=3*ts.length->F2 ts n=true:=λn=>by
    induction n with
    | zero=>intro _;rfl
    | succ n ih =>
      intro hle
      show (F2 ts n&&(Ab (KD ts n) (Bb ts n)).isNone)=true
      rw [ih (by omega),Bool.true_and]
      cases hg:Ab (KD ts n) (Bb ts n) with
      | none=>rfl
      | some z =>
        obtain ⟨u,h1,h2,_⟩:=Gf _ hg
        have:=TB g hn (by omega) (by omega) h2
        omega
  exact key _ (Nat.le_refl _)
end
end
section
abbrev ET (N:Nat) (ts:List T3):List (P2×Nat):=D5 N (A_ ts) (A_ ts).length
def Pw (md:List (P2×Nat)) (T:T3):List P2:=[BR ((Ab md (BR T.1 T.2.1)).getD 0) ((Ab md (BR T.2.2 T.1)).getD 0),BR ((Ab md (BR T.1 T.2.1)).getD 0) ((Ab md (BR T.2.1 T.2.2)).getD 0),BR ((Ab md (BR T.2.1 T.2.2)).getD 0) ((Ab md (BR T.2.2 T.1)).getD 0)]
section
variable {N:Nat} {ts:List T3} {T:T3} {κ:P2}
theorem Eo {k:P2} {n:Nat} (h:Ab (ET N ts) k=some n):N<=n/\n<N+(A_ ts).length:=by
  obtain ⟨j,h1,_,h3⟩:=FG _ h
  omega
theorem TM:UW (ET N ts) N:=⟨λk n h=>(Eo h).1,λk k' n h h'=>Decidable.byContradiction λhc=>L1 h h' hc rfl⟩
theorem GQ (hn:Ba N ts=true) (hN:N<=4611686018427387904) {k:P2} (hk:k∈Bx ts):∃n,Ab (ET N ts) k=some n:=by
  obtain ⟨a,b⟩:=k
  obtain ⟨e,he,rfl,rfl⟩:=(FJ hn hN).1 hk
  exact Sm (Ef hn hN) (λe he=>(EY hn hN he).1) he
theorem Ug (hn:Ba N ts=true) (hN:N<=4611686018427387904) {j:Nat} (hj:j<(A_ ts).length):∃k∈Bx ts,Ab (ET N ts) k=some (N+j):=by
  have hm:(A_ ts).getD j E0∈A_ ts:=by rw [List.getD,List.getElem?_eq_getElem hj];exact List.getElem_mem _
  exact ⟨_,(FJ hn hN).2 ⟨_,hm,rfl,rfl⟩,HU (Ef hn hN) (λe he=>(EY hn hN he).1) _ (Nat.le_refl _) hj⟩
theorem O_ (hn:Ba N ts=true) (hN:N<=4611686018427387904) (hT:T∈ts):∃x y z,Ab (ET N ts) (BR T.1 T.2.1)=some x/\Ab (ET N ts) (BR T.2.1 T.2.2)=some y/\Ab (ET N ts) (BR T.2.2 T.1)=some z/\LT N (A_ ts) T=[(T.1,x,z),(x,T.2.1,y),(z,y,T.2.2),(x,y,z)]/\Pw (ET N ts) T=[BR x z,BR x y,BR y z]:=by
  obtain ⟨k1,k2,k3⟩:=Pu hT
  obtain ⟨x,hx⟩:=GQ hn hN k1
  obtain ⟨y,hy⟩:=GQ hn hN k2
  obtain ⟨z,hz⟩:=GQ hn hN k3
  refine ⟨x,y,z,hx,hy,hz,?_,?_⟩
  · unfold LT Gy
    rw [hx,hy,hz];rfl
  · unfold Pw
    rw [hx,hy,hz];rfl
theorem Oc {n n':Nat} (h:N<=n) (h':N<=n'):Wg (ET N ts) N (BR n n'):=λk h1 h2 hk=>by
  have h3:(BR n n').1=min n n':=rfl
  rcases VW hk with h4|h4<;>omega
theorem I9 (hn:Ba N ts=true) (hN:N<=4611686018427387904) (hT:T∈ts):(∀κ,((LT N (A_ ts) T).flatMap Fw).count κ=((Fw T).flatMap (Ed (ET N ts))).count κ+2*(Pw (ET N ts) T).count κ)/\∀κ∈Pw (ET N ts) T,Wg (ET N ts) N κ:=by
  obtain ⟨x,y,z,hx,hy,hz,hc,hi⟩:=O_ hn hN hT
  obtain ⟨⟨a0,a1,a2⟩,d1,d2,d3⟩:=F6 (List.all_eq_true.1 hn T hT)
  have nx:=(Eo hx).1
  have ny:=(Eo hy).1
  have nz:=(Eo hz).1
  rw [hc,hi]
  obtain ⟨a,b,c⟩:=T
  simp only at a0 a1 a2 hx hy hz
  constructor
  · intro κ
    show ([BR a x,BR x z,BR z a,BR x b,BR b y,BR y x,BR z y,BR y c,BR c z,BR x y,BR y z,BR z x]:List P2).count κ=(Ed (ET N ts) (BR a b)++(Ed (ET N ts) (BR b c)++(Ed (ET N ts) (BR c a)++[]))).count κ+_
    rw [(Fh a0 nx).2,(Fh a0 nz).1,(Fh a1 nx).1,(Fh a1 ny).2,(Fh a2 ny).1,(Fh a2 nz).2,J8 y x,J8 z y,J8 z x]
    simp only [List.count_append,OY hx,OY hy,OY hz,List.count_cons,List.count_nil]
    omega
  · intro κ hκ
    simp only [List.mem_cons,List.not_mem_nil,or_false] at hκ
    rcases hκ with rfl|rfl|rfl
    · exact Oc nx nz
    · exact Oc nx ny
    · exact Oc ny nz
theorem SY (hn:Ba N ts=true) (hN:N<=4611686018427387904):∃I:List P2,(∀κ,(Bx (CF N (A_ ts) ts)).count κ=((Bx ts).flatMap (Ed (ET N ts))).count κ+2*I.count κ)/\∀κ∈I,Wg (ET N ts) N κ :=
  P8 λt ht=>⟨Pw (ET N ts) t,I9 hn hN ht⟩
theorem WG {t:T3} {r p:Nat} (h:CP t r=p) (hr:r<3):p=t.1\/p=t.2.1\/p=t.2.2:=by
  have e:r=0\/r=1\/r=2:=by omega
  rcases e with rfl|rfl|rfl
  · exact .inl h.symm
  · exact .inr (.inl h.symm)
  · exact .inr (.inr h.symm)
theorem Wu {t:T3} {p:Nat} (h:p=t.1\/p=t.2.1\/p=t.2.2):∃r,r<3/\CP t r=p:=by
  rcases h with rfl|rfl|rfl
  · exact ⟨0,by decide,rfl⟩
  · exact ⟨1,by decide,rfl⟩
  · exact ⟨2,by decide,rfl⟩
theorem Gl (hn:Ba N ts=true) (hN:N<=4611686018427387904) {s r:Nat} (hs:s<4*ts.length) (hr:r<3) :
    (∃q,q<3/\CP (ts.getD (s/4) (0,0,0)) q=CP ((CF N (A_ ts) ts).getD s (0,0,0)) r/\CP ((CF N (A_ ts) ts).getD s (0,0,0)) r<N)\/(∃k∈Fw (ts.getD (s/4) (0,0,0)),Ab (ET N ts) k=some (CP ((CF N (A_ ts) ts).getD s (0,0,0)) r)):=by
  have hT:ts.getD (s/4) (0,0,0)∈ts:=DF (by omega)
  obtain ⟨x,y,z,hx,hy,hz,hc,_⟩:=O_ hn hN hT
  obtain ⟨⟨a0,a1,a2⟩,_⟩:=F6 (List.all_eq_true.1 hn _ hT)
  rw [GE hs,hc]
  have hq:s%4=0\/s%4=1\/s%4=2\/s%4=3:=by omega
  have he:r=0\/r=1\/r=2:=by omega
  have mx:∃k∈Fw (ts.getD (s/4) (0,0,0)),Ab (ET N ts) k=some x:=⟨_,List.mem_cons_self,hx⟩
  have my:∃k∈Fw (ts.getD (s/4) (0,0,0)),Ab (ET N ts) k=some y:=⟨_,List.mem_cons_of_mem _ List.mem_cons_self,hy⟩
  have mz:∃k∈Fw (ts.getD (s/4) (0,0,0)),Ab (ET N ts) k=some z:=⟨_,List.mem_cons_of_mem _ (List.mem_cons_of_mem _ List.mem_cons_self),hz⟩
  rcases hq with e|e|e|e<;>rw [e]<;>rcases he with rfl|rfl|rfl
  · exact .inl ⟨0,by decide,rfl,a0⟩
  · exact .inr mx
  · exact .inr mz
  · exact .inr mx
  · exact .inl ⟨1,by decide,rfl,a1⟩
  · exact .inr my
  · exact .inr mz
  · exact .inr my
  · exact .inl ⟨2,by decide,rfl,a2⟩
  · exact .inr mx
  · exact .inr my
  · exact .inr mz
theorem Pz {t:T3} {k:P2} (h:k∈Fw t):∃q,q<3/\CP t q=k.1:=by
  have key:∀a b:Nat,(BR a b).1=a\/(BR a b).1=b:=λa b=>by unfold BR;simp only;omega
  refine Wu ?_
  unfold Fw at h
  simp only [List.mem_cons,List.not_mem_nil,or_false] at h
  rcases h with rfl|rfl|rfl
  · rcases key t.1 t.2.1 with e|e
    · exact .inl e
    · exact .inr (.inl e)
  · rcases key t.2.1 t.2.2 with e|e
    · exact .inr (.inl e)
    · exact .inr (.inr e)
  · rcases key t.2.2 t.1 with e|e
    · exact .inr (.inr e)
    · exact .inl e
theorem WV (hn:Ba N ts=true) (hN:N<=4611686018427387904) {s u:Nat} (hs:s<4*ts.length) (hu:u<4*ts.length) (h:OD (CF N (A_ ts) ts) s u):OD ts (s/4) (u/4):=by
  obtain ⟨r,r',hr,hr',e⟩:=h
  rcases Gl hn hN hs hr with ⟨q,hq,h1,h1'⟩|⟨k,hk,h1⟩
  · rcases Gl hn hN hu hr' with ⟨q',hq',h2,_⟩|⟨k',_,h2⟩
    · exact ⟨q,q',hq,hq',by rw [h1,h2,e]⟩
    · have:=(Eo h2).1
      omega
  · rcases Gl hn hN hu hr' with ⟨q',hq',_,h2'⟩|⟨k',hk',h2⟩
    · have:=(Eo h1).1
      omega
    · rw [<-e] at h2
      have hkk:=(TM (N:=N) (ts:=ts)).inj _ _ _ h1 h2
      rw [<-hkk] at hk'
      obtain ⟨q,hq,e1⟩:=Pz hk
      obtain ⟨q',hq',e2⟩:=Pz hk'
      exact ⟨q,q',hq,hq',by rw [e1,e2]⟩
theorem SP (hn:Ba N ts=true) (hN:N<=4611686018427387904) {t c:Nat} (ht:t<ts.length) (hc:c<4):OD (CF N (A_ ts) ts) (4*t+c) (4*t+3):=by
  have hT:ts.getD t (0,0,0)∈ts:=DF ht
  obtain ⟨x,y,z,hx,hy,hz,hch,_⟩:=O_ hn hN hT
  have e1:(CF N (A_ ts) ts).getD (4*t+c) (0,0,0)=(LT N (A_ ts) (ts.getD t (0,0,0))).getD c (0,0,0):=by rw [GE (by omega),show (4*t+c)/4=t by omega,show (4*t+c)%4=c by omega]
  have e2:(CF N (A_ ts) ts).getD (4*t+3) (0,0,0)=(LT N (A_ ts) (ts.getD t (0,0,0))).getD 3 (0,0,0):=by rw [GE (by omega),show (4*t+3)/4=t by omega,show (4*t+3)%4=3 by omega]
  unfold OD
  rw [e1,e2,hch]
  have hq:c=0\/c=1\/c=2\/c=3:=by omega
  rcases hq with rfl|rfl|rfl|rfl
  · exact ⟨1,0,by decide,by decide,rfl⟩
  · exact ⟨0,0,by decide,by decide,rfl⟩
  · exact ⟨1,1,by decide,by decide,rfl⟩
  · exact ⟨0,0,by decide,by decide,rfl⟩
theorem MJ (hn:Ba N ts=true) (hN:N<=4611686018427387904) {t r:Nat} (ht:t<ts.length) (hr:r<3):CP ((CF N (A_ ts) ts).getD (4*t+r) (0,0,0)) r=CP (ts.getD t (0,0,0)) r:=by
  obtain ⟨x,y,z,hx,hy,hz,hch,_⟩:=O_ hn hN (DF ht)
  rw [GE (by omega),show (4*t+r)/4=t by omega,show (4*t+r)%4=r by omega,hch]
  have he:r=0\/r=1\/r=2:=by omega
  rcases he with rfl|rfl|rfl<;>rfl
theorem JB (hn:Ba N ts=true) (hN:N<=4611686018427387904) {t c c':Nat} (ht:t<ts.length) (hc:c<4) (hc':c'<4):KG (CF N (A_ ts) ts) (4*t+c) (4*t+c') :=
  .step (.step .refl (by rw [Cf];omega) (SP hn hN ht hc)) (by rw [Cf];omega) (SP hn hN ht hc').symm
theorem VJ (hn:Ba N ts=true) (hN:N<=4611686018427387904) {i j:Nat} (hi:i<ts.length) (h:KG ts i j) (hj:j<ts.length):KG (CF N (A_ ts) ts) (4*i) (4*j):=by
  induction h with
  | refl=>exact .refl
  | @step j k h1 hk ht ih =>
    have hjl:j<ts.length:=by
      cases h1 with
      | refl=>exact hi
      | step _ a _=>exact a
    have h2:=ih hjl
    obtain ⟨r,s,hr,hs,e⟩:=ht
    have h3:OD (CF N (A_ ts) ts) (4*j+r) (4*k+s):=⟨r,s,hr,hs,by rw [MJ hn hN hjl hr,MJ hn hN hk hs,e]⟩
    have h4:=JB hn hN hjl (show 0<4 by decide) (show r<4 by omega)
    have h5:=JB hn hN hk (show s<4 by omega) (show 0<4 by decide)
    exact (h2.trans h4).trans ((KG.step .refl (by rw [Cf];omega) h3).trans h5)
def UZ (l:List Int) (n:Nat):List Int:=(List.range (4*n)).map λs=>gZ l (s/4)
theorem Ej {l:List Int} {n s:Nat} (hs:s<4*n):gZ (UZ l n) s=gZ l (s/4):=by
  unfold UZ
  show ((List.range (4*n)).map λs=>gZ l (s/4)).getD s 0=_
  rw [List.getD,List.getElem?_map,List.getElem?_range hs];rfl
theorem U6 (hn:Ba N ts=true) (hN:N<=4611686018427387904) {l:List Int} {n:Nat} (h:Pj ts l n):Pj (CF N (A_ ts) ts) (UZ l ts.length) n:=by
  have hL:(CF N (A_ ts) ts).length=4*ts.length:=Cf
  refine ⟨by rw [hL];simp [UZ],λs hs=>?_,λs u hs hu ht=>?_,λk hk=>?_,λs u hs hu e=>?_,by have:=h.nle;omega⟩
  · rw [hL] at hs
    rw [Ej hs]
    exact h.rng _ (by omega)
  · rw [hL] at hs hu
    rw [Ej hs,Ej hu]
    exact h.clo _ _ (by omega) (by omega) (WV hn hN hs hu ht)
  · obtain ⟨f,hf,h1,h2⟩:=h.fst k hk
    refine ⟨4*f,by omega,by rw [Ej (by omega),show 4*f/4=f by omega];exact h1,λs hs=>?_⟩
    rw [Ej (by omega)]
    exact h2 _ (by omega)
  · rw [hL] at hs hu
    rw [Ej hs,Ej hu] at e
    have h1:=VJ hn hN (show s/4<ts.length by omega) (h.cnx _ _ (by omega) (by omega) e) (show u/4<ts.length by omega)
    have h2:=JB hn hN (show s/4<ts.length by omega) (show s%4<4 by omega) (show 0<4 by decide)
    have h3:=JB hn hN (show u/4<ts.length by omega) (show 0<4 by decide) (show u%4<4 by omega)
    rw [Nat.div_add_mod] at h2 h3
    exact (h2.trans h1).trans h3
end
end
section
def WT (ts:List T3):Prop:=∀i j,i<ts.length->j<ts.length->∀k k',k≠k'->k∈Fw (ts.getD i (0,0,0))->k'∈Fw (ts.getD i (0,0,0))->k∈Fw (ts.getD j (0,0,0))->k'∈Fw (ts.getD j (0,0,0))->i=j
section
variable {ps:List Pt} {ts:List T3} {T U:T3} {k k' κ:P2} {N:Nat}
theorem Nl (h:k∈Fw T):(k.1=T.1\/k.1=T.2.1\/k.1=T.2.2)/\(k.2=T.1\/k.2=T.2.1\/k.2=T.2.2):=by
  unfold Fw at h
  simp only [List.mem_cons,List.not_mem_nil,or_false] at h
  rcases h with rfl|rfl|rfl<;>unfold BR<;>simp only<;>omega
theorem UK (h:k∈Fw T) (h':k'∈Fw T) (hne:k≠k') {v:Nat} (hv:v=T.1\/v=T.2.1\/v=T.2.2):v=k.1\/v=k.2\/v=k'.1\/v=k'.2:=by
  unfold Fw at h h'
  simp only [List.mem_cons,List.not_mem_nil,or_false] at h h'
  have e:∀a b:Nat,(BR a b).1=min a b/\(BR a b).2=max a b:=λa b=>⟨rfl,rfl⟩
  rcases h with rfl|rfl|rfl<;>rcases h' with rfl|rfl|rfl<;>first|exact absurd rfl hne|(simp only [e];omega)
theorem V6 {r:Nat} (i:Nat) (hr:r<3) {a b:Nat} (h1:CP (ts.getD i (0,0,0)) r=a) (h2:CP (ts.getD i (0,0,0)) ((r+1)%3)=b):Bb ts (3*i+r)=(a,b):=by rw [Hu hr,h1,h2]
theorem Lj (g:GoodM ps ts) (hn:Ba ps.length ts=true):WT ts:=λi j hi hj k k' hne a1 a2 b1 b2=>by
  have ho:=Rp g hn
  have hp:=(g.tri i hi).pos
  have hq:=(g.tri j hj).pos
  obtain ⟨_,d1,d2,d3⟩:=F6 (List.all_eq_true.1 hn _ (DF hi))
  obtain ⟨_,f1,f2,f3⟩:=F6 (List.all_eq_true.1 hn _ (DF hj))
  have all:∀v,(v=(ts.getD i (0,0,0)).1\/v=(ts.getD i (0,0,0)).2.1\/v=(ts.getD i (0,0,0)).2.2)->(v=(ts.getD j (0,0,0)).1\/v=(ts.getD j (0,0,0)).2.1\/v=(ts.getD j (0,0,0)).2.2):=λv hv=>by
    have h1:=UK a1 a2 hne hv
    have h2:=Nl b1
    have h3:=Nl b2
    omega
  have v1:=all _ (.inl rfl)
  have v2:=all _ (.inr (.inl rfl))
  have v3:=all _ (.inr (.inr rfl))
  have fin:∀r,r<3->CP (ts.getD j (0,0,0)) r=(ts.getD i (0,0,0)).1->CP (ts.getD j (0,0,0)) ((r+1)%3)=(ts.getD i (0,0,0)).2.1->i=j:=λr hr h1 h2=>by
    have:=H2 ho (u:=3*i+0) (v:=3*j+r) (by omega) (by omega) ((V6 i (by decide) rfl rfl).trans (V6 j hr h1 h2).symm)
    omega
  generalize hA:ts.getD i (0,0,0)=A at *
  generalize hB:ts.getD j (0,0,0)=B at *
  obtain ⟨a,b,c⟩:=A
  obtain ⟨x,y,z⟩:=B
  simp only at v1 v2 v3 d1 d2 d3 f1 f2 f3 hp hq
  rcases v1 with e1|e1|e1<;>rcases v2 with e2|e2|e2<;>rcases v3 with e3|e3|e3 <;>
    first
    | exact absurd (e1.trans e2.symm) d1
    | exact absurd (e2.trans e3.symm) d2
    | exact absurd (e3.trans e1.symm) d3
    | exact fin 0 (by decide) e1.symm e2.symm
    | exact fin 1 (by decide) e1.symm e2.symm
    | exact fin 2 (by decide) e1.symm e2.symm
    | (exfalso;rw [e1,e2,e3] at hp;simp only [CG] at hp hq;grind)
def SE (ts:List T3):List P2:=(A_ ts).map λe=>(e.a,e.b)
theorem JN (hn:Ba N ts=true) (hN:N<=4611686018427387904):κ∈SE ts↔κ∈Bx ts:=by
  obtain ⟨a,b⟩:=κ
  rw [FJ hn hN]
  unfold SE
  rw [List.mem_map]
  exact ⟨λ⟨e,h1,h2⟩=>⟨e,h1,congrArg Prod.fst h2,congrArg Prod.snd h2⟩,λ⟨e,h1,h2,h3⟩=>⟨e,h1,Prod.ext h2 h3⟩⟩
theorem Le (hn:Ba N ts=true) (hN:N<=4611686018427387904):(SE ts).Nodup:=by
  refine List.pairwise_map.2 ((Ef hn hN).imp λ{e f} h he=>?_)
  have h1:=congrArg Prod.fst he
  have h2:=congrArg Prod.snd he
  simp only at h1 h2
  unfold XB at h
  omega
theorem NB {α β:Type} {f:α->List β} {n:Nat} {l:List α} (h:∀x∈l,(f x).length=n):(l.flatMap f).length=n*l.length:=by
  induction l with
  | nil=>rfl
  | cons x r ih =>
    rw [List.flatMap_cons,List.length_append,h x List.mem_cons_self,ih λy hy=>h y (List.mem_cons_of_mem _ hy),List.length_cons,Nat.mul_succ,Nat.add_comm]
theorem Ju {α β:Type} {f:α->List β} {l:List α} (hl:l.Nodup) (h:∀x∈l,(f x).Nodup) (hd:∀x∈l,∀y∈l,∀b,b∈f x->b∈f y->x=y):(l.flatMap f).Nodup:=by
  induction l with
  | nil=>exact List.nodup_nil
  | cons x r ih =>
    rw [List.flatMap_cons]
    obtain ⟨h1,h2⟩:=List.nodup_cons.1 hl
    refine List.nodup_append.2 ⟨h x List.mem_cons_self,ih h2 (λy hy=>h y (List.mem_cons_of_mem _ hy)) (λy hy z hz=>hd y (List.mem_cons_of_mem _ hy) z (List.mem_cons_of_mem _ hz)),λb hb c hc e=>?_⟩
    subst e
    obtain ⟨y,hy,hby⟩:=List.mem_flatMap.1 hc
    have:=hd x List.mem_cons_self y (List.mem_cons_of_mem _ hy) b hb hby
    subst this
    exact h1 hy
theorem Sw (hn:Ba N ts=true) (hN:N<=4611686018427387904) (hT:T∈ts) (h:κ∈Pw (ET N ts) T):∃k k',k≠k'/\k∈Fw T/\k'∈Fw T/\Ab (ET N ts) k=some κ.1/\Ab (ET N ts) k'=some κ.2:=by
  obtain ⟨x,y,z,hx,hy,hz,_,hi⟩:=O_ hn hN hT
  obtain ⟨_,d1,d2,d3⟩:=F6 (List.all_eq_true.1 hn T hT)
  have n1:=HL d1 d2 d3
  have n2:=HL d2 d3 d1
  have n3:=HL d3 d1 d2
  have m1:BR T.1 T.2.1∈Fw T:=List.mem_cons_self
  have m2:BR T.2.1 T.2.2∈Fw T:=List.mem_cons_of_mem _ List.mem_cons_self
  have m3:BR T.2.2 T.1∈Fw T:=List.mem_cons_of_mem _ (List.mem_cons_of_mem _ List.mem_cons_self)
  have gen:∀{p q:Nat} {a b:P2},a≠b->a∈Fw T->b∈Fw T->Ab (ET N ts) a=some p->Ab (ET N ts) b=some q->κ=BR p q->∃k k',k≠k'/\k∈Fw T/\k'∈Fw T/\Ab (ET N ts) k=some κ.1/\Ab (ET N ts) k'=some κ.2:=λ{p q a b} hne ha hb hp hq hk=>by
    subst hk
    unfold BR
    rcases Nat.le_total p q with e|e
    · rw [Nat.min_eq_left e,Nat.max_eq_right e];exact ⟨a,b,hne,ha,hb,hp,hq⟩
    · rw [Nat.min_eq_right e,Nat.max_eq_left e];exact ⟨b,a,hne.symm,hb,ha,hq,hp⟩
  rw [hi] at h
  simp only [List.mem_cons,List.not_mem_nil,or_false] at h
  rcases h with h|h|h
  · exact gen n3.symm m1 m3 hx hz h
  · exact gen n1 m1 m2 hx hy h
  · exact gen n2 m2 m3 hy hz h
theorem QY (hn:Ba N ts=true) (hN:N<=4611686018427387904) (hT:T∈ts):(Pw (ET N ts) T).Nodup:=by
  obtain ⟨x,y,z,hx,hy,hz,_,hi⟩:=O_ hn hN hT
  obtain ⟨_,d1,d2,d3⟩:=F6 (List.all_eq_true.1 hn T hT)
  have e1:x≠y:=L1 hx hy (HL d1 d2 d3)
  have e2:y≠z:=L1 hy hz (HL d2 d3 d1)
  have e3:z≠x:=L1 hz hx (HL d3 d1 d2)
  have k1:BR x z≠BR x y:=λe=>by unfold BR at e;injection e;omega
  have k2:BR x z≠BR y z:=λe=>by unfold BR at e;injection e;omega
  have k3:BR x y≠BR y z:=λe=>by unfold BR at e;injection e;omega
  rw [hi]
  simp only [List.nodup_cons,List.mem_cons,List.not_mem_nil,or_false,not_or,not_false_eq_true,List.nodup_nil,and_true]
  exact ⟨⟨k1,k2⟩,k3⟩
theorem Lr (hn:Ba N ts=true) (hN:N+(A_ ts).length<=4611686018427387904) (ht2:WT ts):(A_ (CF N (A_ ts) ts)).length=2*(A_ ts).length+3*ts.length:=by
  have hN':N<=4611686018427387904:=by omega
  have hM:=TM (N:=N) (ts:=ts)
  have ends:∀k∈SE ts,k.1<k.2/\k.2<N:=λk hk=>M6 hn hN' ((JN hn hN').1 hk)
  have l1:((SE ts).flatMap (Ed (ET N ts))).length=2*(SE ts).length:=NB λk hk=>by
    obtain ⟨n,h⟩:=GQ hn hN' ((JN hn hN').1 hk)
    rw [C4 h];rfl
  have l2:(ts.flatMap (Pw (ET N ts))).length=3*ts.length:=NB λT _=>rfl
  have tnd:ts.Nodup:=by
    refine List.pairwise_iff_getElem.2 λi j hi hj hij e=>?_
    have ei:ts.getD i (0,0,0)=ts[i]:=by rw [List.getD,List.getElem?_eq_getElem hi];rfl
    have ej:ts.getD j (0,0,0)=ts[j]:=by rw [List.getD,List.getElem?_eq_getElem hj];rfl
    obtain ⟨_,d1,d2,d3⟩:=F6 (List.all_eq_true.1 hn _ (DF hi))
    have:=ht2 i j hi hj _ _ (HL d1 d2 d3) List.mem_cons_self (List.mem_cons_of_mem _ List.mem_cons_self) (by rw [ei,e,<-ej];exact List.mem_cons_self) (by rw [ei,e,<-ej];exact List.mem_cons_of_mem _ List.mem_cons_self)
    omega
  have nd:((SE ts).flatMap (Ed (ET N ts))++ts.flatMap (Pw (ET N ts))).Nodup:=by
    refine List.nodup_append.2 ⟨Ju (Le hn hN') (λk hk=>KS (ends k hk).1) λk hk k' hk' κ h h'=>Me hM (ends k hk).2 (ends k' hk').2 h h',Ju tnd (λT hT=>QY hn hN' hT) λT hT U hU κ h h'=>?_,λκ h κ' h' e=>?_⟩
    · obtain ⟨k,k',hne,a1,a2,a3,a4⟩:=Sw hn hN' hT h
      obtain ⟨q,q',_,b1,b2,b3,b4⟩:=Sw hn hN' hU h'
      have e1:=hM.inj _ _ _ a3 b3
      have e2:=hM.inj _ _ _ a4 b4
      rw [<-e1] at b1
      rw [<-e2] at b2
      obtain ⟨i,hi,rfl⟩:=List.getElem_of_mem hT
      obtain ⟨j,hj,rfl⟩:=List.getElem_of_mem hU
      have ei:ts.getD i (0,0,0)=ts[i]:=by rw [List.getD,List.getElem?_eq_getElem hi];rfl
      have ej:ts.getD j (0,0,0)=ts[j]:=by rw [List.getD,List.getElem?_eq_getElem hj];rfl
      have:=ht2 i j hi hj k k' hne (by rw [ei];exact a1) (by rw [ei];exact a2) (by rw [ej];exact b1) (by rw [ej];exact b2)
      subst this
      rfl
    · subst e
      obtain ⟨k,hk,hm⟩:=List.mem_flatMap.1 h
      obtain ⟨T,hT,hi⟩:=List.mem_flatMap.1 h'
      exact (I9 hn hN' hT).2 κ hi k (ends k hk).1 (ends k hk).2 hm
  obtain ⟨I,c1,c2⟩:=P8 (md:=ET N ts) (N:=N) (ts:=ts) (ch:=LT N (A_ ts)) λt ht=>⟨Pw (ET N ts) t,I9 hn hN' ht⟩
  have mem:∀κ,κ∈Bx (CF N (A_ ts) ts)↔κ∈(SE ts).flatMap (Ed (ET N ts))++ts.flatMap (Pw (ET N ts)):=λκ=>by
    have hsum:∀us:List T3,(∀t∈us,t∈ts)->(κ∈Bx (us.flatMap (LT N (A_ ts)))↔κ∈(Bx us).flatMap (Ed (ET N ts))++us.flatMap (Pw (ET N ts))):=λus=>by
      induction us with
      | nil=>intro _;exact Iff.rfl
      | cons t r ih =>
        intro hu
        have h1:=(I9 hn hN' (hu t List.mem_cons_self)).1 κ
        have h2:=ih λt ht=>hu t (List.mem_cons_of_mem _ ht)
        have e1:Bx ((t::r).flatMap (LT N (A_ ts)))=(LT N (A_ ts) t).flatMap Fw++Bx (r.flatMap (LT N (A_ ts))):=by
          show List.flatMap Fw ((t::r).flatMap (LT N (A_ ts)))=_
          rw [List.flatMap_cons,List.flatMap_append];rfl
        have e2:(Bx (t::r)).flatMap (Ed (ET N ts))=(Fw t).flatMap (Ed (ET N ts))++(Bx r).flatMap (Ed (ET N ts)):=by
          show List.flatMap (Ed (ET N ts)) ((t::r).flatMap Fw)=_
          rw [List.flatMap_cons,List.flatMap_append];rfl
        have h3:κ∈(LT N (A_ ts) t).flatMap Fw↔κ∈(Fw t).flatMap (Ed (ET N ts))\/κ∈Pw (ET N ts) t:=by
          rw [<-List.count_pos_iff,<-List.count_pos_iff,<-List.count_pos_iff,h1]
          omega
        rw [e1,e2,List.flatMap_cons,List.mem_append,List.mem_append,List.mem_append,List.mem_append,h3,h2,List.mem_append]
        constructor
        · rintro ((h|h)|h|h)
          · exact .inl (.inl h)
          · exact .inr (.inl h)
          · exact .inl (.inr h)
          · exact .inr (.inr h)
        · rintro ((h|h)|h|h)
          · exact .inl (.inl h)
          · exact .inr (.inl h)
          · exact .inl (.inr h)
          · exact .inr (.inr h)
    have h4:=hsum ts λ_ h=>h
    rw [show CF N (A_ ts) ts=ts.flatMap (LT N (A_ ts)) from rfl,h4]
    simp only [List.mem_append,List.mem_flatMap,JN hn hN']
  have hn2:=GU (N:=N) hn hN'
  have hp:(SE (CF N (A_ ts) ts)).Perm ((SE ts).flatMap (Ed (ET N ts))++ts.flatMap (Pw (ET N ts))) :=
    (List.perm_ext_iff_of_nodup (Le hn2 hN) nd).2 λκ=>by rw [JN hn2 hN,mem]
  have:=hp.length_eq
  rw [List.length_append,l1,l2] at this
  unfold SE at this
  rw [List.length_map,List.length_map] at this
  exact this
theorem N2 (hn:Ba N ts=true) (hN:N+(A_ ts).length<=4611686018427387904):(B8 (CF N (A_ ts) ts) (3*(CF N (A_ ts) ts).length)).length=(B8 ts (3*ts.length)).length+(A_ ts).length:=by
  have hN':N<=4611686018427387904:=by omega
  have hn2:=GU (N:=N) hn hN'
  have hL:(CF N (A_ ts) ts).length=4*ts.length:=Cf
  have old:∀p∈X1 ts,p<N:=λp hp=>by
    obtain ⟨t,ht,r,hr,rfl⟩:=EO.1 hp
    obtain ⟨⟨a0,a1,a2⟩,_⟩:=F6 (List.all_eq_true.1 hn t ht)
    rcases WG rfl hr with e|e|e<;>rw [e]<;>assumption
  have nd:((B8 ts (3*ts.length)).map (·.1)++(List.range (A_ ts).length).map λj=>N+j).Nodup:=by
    refine List.nodup_append.2 ⟨LG hn hN',List.pairwise_map.2 (List.nodup_range.imp λ{a b} h e=>h (by omega)),λp hp q hq e=>?_⟩
    have h1:=old p (KM.1 hp)
    obtain ⟨j,_,rfl⟩:=List.mem_map.1 hq
    omega
  have hp:((B8 (CF N (A_ ts) ts) (3*(CF N (A_ ts) ts).length)).map (·.1)).Perm ((B8 ts (3*ts.length)).map (·.1)++(List.range (A_ ts).length).map λj=>N+j) :=
    (List.perm_ext_iff_of_nodup (LG hn2 hN) nd).2 λp=>by
      rw [KM,List.mem_append,KM]
      constructor
      · intro h
        obtain ⟨t,ht,r,hr,rfl⟩:=EO.1 h
        obtain ⟨s,hs,rfl⟩:=Hf ht
        rw [hL] at hs
        rcases Gl hn hN' hs hr with ⟨q,hq,h1,_⟩|⟨k,hk,h1⟩
        · exact .inl (by rw [<-h1];exact EO.2 ⟨_,DF (by omega),q,hq,rfl⟩)
        · obtain ⟨a,b⟩:=Eo h1
          generalize CP ((CF N (A_ ts) ts).getD s (0,0,0)) r=p9 at a b
          exact .inr (List.mem_map.2 ⟨p9-N,List.mem_range.2 (by omega),by show N+(p9-N)=p9;omega⟩)
      · rintro (h|h)
        · obtain ⟨t,ht,r,hr,rfl⟩:=EO.1 h
          obtain ⟨i,hi,rfl⟩:=Hf ht
          rw [<-MJ hn hN' hi hr]
          exact EO.2 ⟨_,DF (by rw [hL];omega),r,hr,rfl⟩
        · obtain ⟨j,hj,rfl⟩:=List.mem_map.1 h
          obtain ⟨k,hk,hg⟩:=Ug (N:=N) hn hN' (List.mem_range.1 hj)
          obtain ⟨T,hT,hkT⟩:=List.mem_flatMap.1 hk
          obtain ⟨i,hi,rfl⟩:=Hf hT
          obtain ⟨x,y,z,hx,hy,hz,hch,_⟩:=O_ hn hN' hT
          have e2:(CF N (A_ ts) ts).getD (4*i+3) (0,0,0)=(x,y,z):=by rw [GE (by omega),show (4*i+3)/4=i by omega,show (4*i+3)%4=3 by omega,hch];rfl
          have hm:(x,y,z)∈CF N (A_ ts) ts:=by rw [<-e2];exact DF (by rw [hL];omega)
          simp only [List.mem_cons,List.not_mem_nil,or_false] at hkT
          rcases hkT with rfl|rfl|rfl
          · rw [hx] at hg;exact EO.2 ⟨_,hm,0,by decide,Option.some.inj hg⟩
          · rw [hy] at hg;exact EO.2 ⟨_,hm,1,by decide,Option.some.inj hg⟩
          · rw [hz] at hg;exact EO.2 ⟨_,hm,2,by decide,Option.some.inj hg⟩
  have:=hp.length_eq
  rw [List.length_append,List.length_map,List.length_map,List.length_map,List.length_range] at this
  exact this
theorem VR (hn:Ba N ts=true) (hN:N+(A_ ts).length<=4611686018427387904) (ht2:WT ts):HD (CF N (A_ ts) ts)=HD ts:=by
  unfold HD
  rw [N2 hn hN,Lr hn hN ht2,Cf]
  omega
end
end
end Go.Proofs.YtfbomiejpbchdaaGreat
