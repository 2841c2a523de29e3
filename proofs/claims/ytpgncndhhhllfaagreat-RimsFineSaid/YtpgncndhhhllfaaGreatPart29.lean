import Derived.Test.YtpgncndhhhllfaaGreatPart27
import Derived.Test.YtpgncndhhhllfaaGreatPart28
namespace Go.Proofs.YtpgncndhhhllfaaGreat
open Go Go.RowKit Go.Proofs.Tryz
set_option linter.unusedVariables false
set_option linter.unusedSimpArgs false
section
structure RM (N:Nat) (ts ss:List T3) where
  cs:List Value
  a:RX cs N
  b:RX (rowsL AZ ts) ts.length
  c:RX (rowsL AZ ss) ss.length
def Bt {N:Nat} {ts ss:List T3} (x:RM N ts ss):List Value:=[x.a.val,x.b.val,x.c.val]
theorem bJ {N:Nat} {ts ss:List T3} {x:RM N ts ss} {y:As} (hy:y∈[x.a.row,x.b.row,x.c.row]):y.ro=true:=by
  simp only [List.mem_cons,List.not_mem_nil,or_false] at hy
  rcases hy with rfl|rfl|rfl<;>rfl
instance {N:Nat} {ts ss:List T3}:Cf (RM N ts ss):=⟨λx=>aG (Bt x),λx=>[x.a.row,x.b.row,x.c.row],λx y hy=>bJ hy⟩
section
variable {S:Nat->Prop} {w:World} {N:Nat} {ts ss:List T3}
end
def C9 (t:T3) (a b:Nat):Bool:=(decide (t.1=a)&&decide (t.2.1=b))||((decide (t.2.1=a)&&decide (t.2.2=b))||(decide (t.2.2=a)&&decide (t.1=b)))
def Be (ts:List T3) (a b:Nat):Nat->Int
  | 0 => -1
  | n+1=>if Be ts a b n = -1 then (if C9 (ts.getD n (0,0,0)) a b=true then (n:Int) else -1) else Be ts a b n
section
variable {ts:List T3} {a b t:Nat}
theorem Gy:∀n,(∀j,j<n->C9 (ts.getD j (0,0,0)) a b=false)->Be ts a b n = -1
  | 0,_=>rfl
  | n+1,h=>by
    rw [Be,Gy n λj hj=>h j Z,if_pos rfl,h n Z]
    rfl
theorem Hx:∀n,t<n->C9 (ts.getD t (0,0,0)) a b=true->(∀j,j<t->C9 (ts.getD j (0,0,0)) a b=false)->Be ts a b n=(t:Int)
  | 0,h,_,_=>absurd h (Nat.not_lt_zero _)
  | n+1,h,h1,h2=>by
    rw [Be]
    rcases Nat.lt_or_ge t n with k|k
    · rw [Hx n k h1 h2,if_neg Z]
    · have e:n=t:=by omega
      subst e
      rw [Gy n h2,if_pos rfl,if_pos h1]
def J_ (ts:List T3) (t:Nat):Bool:=decide (Be ts (ts.getD t (0,0,0)).1 (ts.getD t (0,0,0)).2.1 ts.length=(t:Int))&&(decide (Be ts (ts.getD t (0,0,0)).2.1 (ts.getD t (0,0,0)).2.2 ts.length=(t:Int))&&decide (Be ts (ts.getD t (0,0,0)).2.2 (ts.getD t (0,0,0)).1 ts.length=(t:Int)))
def He (ts:List T3):Nat->Bool
  | 0=>true
  | t+1=>He ts t&&J_ ts t
theorem OU (h:He ts t=true) (h1:Be ts (ts.getD t (0,0,0)).1 (ts.getD t (0,0,0)).2.1 ts.length=(t:Int)) (h2:Be ts (ts.getD t (0,0,0)).2.1 (ts.getD t (0,0,0)).2.2 ts.length=(t:Int)) (h3:Be ts (ts.getD t (0,0,0)).2.2 (ts.getD t (0,0,0)).1 ts.length=(t:Int)):He ts (t+1)=true:=by
  rw [He,h,J_,decide_eq_true h1,decide_eq_true h2,decide_eq_true h3];rfl
theorem Rk:∀n,t<=n->He ts n=true->He ts t=true
  | 0,h,k=>by rw [show t=0 by omega];rfl
  | n+1,h,k=>by
    rcases Nat.lt_or_ge t (n+1) with q|q
    · exact Rk n Z ((Bool.and_eq_true _ _▸k:He ts n=true/\J_ ts n=true).1)
    · rw [show t=n+1 by omega];exact k
theorem NB (ht:t<ts.length) (h:¬(Be ts (ts.getD t (0,0,0)).1 (ts.getD t (0,0,0)).2.1 ts.length=(t:Int)/\Be ts (ts.getD t (0,0,0)).2.1 (ts.getD t (0,0,0)).2.2 ts.length=(t:Int)/\Be ts (ts.getD t (0,0,0)).2.2 (ts.getD t (0,0,0)).1 ts.length=(t:Int))):He ts ts.length=false:=by
  cases e:He ts ts.length with
  | false=>rfl
  | true =>
    have k:=Rk ts.length (show t+1<=ts.length by omega) e
    have k2:J_ ts t=true:=(Bool.and_eq_true _ _▸(show (He ts t&&J_ ts t)=true from k):He ts t=true/\J_ ts t=true).2
    unfold J_ at k2
    simp only [Bool.and_eq_true,decide_eq_true_eq] at k2
    exact absurd ⟨k2.1,k2.2.1,k2.2.2⟩ h
end
def WW (t:T3) (a b:Nat):Bool:=C9 t a b||C9 t b a
def Hd (ts:List T3) (a b:Nat):Nat->Nat
  | 0=>0
  | t+1=>if WW (ts.getD t (0,0,0)) a b=true then Hd ts a b t+1 else Hd ts a b t
def Ho (ts:List T3) (a:Nat):Nat->List T3
  | 0=>[]
  | j+1=>if Hd ts a (a+1+j) ts.length=1 then Ho ts a j++[(a,a+1+j,0)] else Ho ts a j
def Ph (ts:List T3) (N:Nat):Nat->List T3
  | 0=>[]
  | a+1=>Ph ts N a++Ho ts a (N-(a+1))
section
variable {ts:List T3} {a b N t:Nat}
theorem Vj (h:WW (ts.getD t (0,0,0)) a b=true):Hd ts a b (t+1)=Hd ts a b t+1:=if_pos h
theorem Rs (h:¬WW (ts.getD t (0,0,0)) a b=true):Hd ts a b (t+1)=Hd ts a b t:=if_neg h
theorem UD {j:Nat} (hj:a+1<=j) (h:Hd ts a j ts.length=1):Ho ts a (j+1-(a+1))=Ho ts a (j-(a+1))++[(a,j,0)]:=by
  rw [show j+1-(a+1)=(j-(a+1))+1 by omega,Ho,if_pos (by rw [show a+1+(j-(a+1))=j by omega];exact h),show a+1+(j-(a+1))=j by omega]
theorem Xw {j:Nat} (hj:a+1<=j) (h:¬Hd ts a j ts.length=1):Ho ts a (j+1-(a+1))=Ho ts a (j-(a+1)):=by
  rw [show j+1-(a+1)=(j-(a+1))+1 by omega,Ho,if_neg (by rw [show a+1+(j-(a+1))=j by omega];exact h)]
theorem GG {s:T3}:∀j,s∈Ho ts a j↔s.1=a/\a<s.2.1/\s.2.1<a+1+j/\Hd ts s.1 s.2.1 ts.length=1/\s.2.2=0
  | 0=>⟨λh=>(by cases h),λh=>Z⟩
  | j+1=>by
    rw [Ho]
    split
    · rename_i hc
      rw [List.mem_append,GG j,List.mem_singleton]
      constructor
      · rintro (h|rfl)
        · exact ⟨h.1,h.2.1,Z,h.2.2.2⟩
        · exact ⟨rfl,(by show a<a+1+j;omega),(by show a+1+j<a+1+(j+1);omega),hc,rfl⟩
      · rintro ⟨h1,h2,h3,h4,h5⟩
        rcases Nat.lt_or_ge s.2.1 (a+1+j) with h6|h6
        · exact .inl ⟨h1,h2,h6,h4,h5⟩
        · exact .inr (Prod.ext h1 (Prod.ext (show s.2.1=a+1+j by omega) h5))
    · rename_i hc
      rw [GG j]
      constructor
      · exact λh=>⟨h.1,h.2.1,Z,h.2.2.2⟩
      · rintro ⟨h1,h2,h3,h4,h5⟩
        rcases Nat.lt_or_ge s.2.1 (a+1+j) with h6|h6
        · exact ⟨h1,h2,h6,h4,h5⟩
        · rw [h1,show s.2.1=a+1+j by omega] at h4;exact absurd h4 hc
theorem GL {s:T3}:∀A,s∈Ph ts N A↔s.1<A/\s.1<s.2.1/\s.2.1<N/\Hd ts s.1 s.2.1 ts.length=1/\s.2.2=0
  | 0=>⟨λh=>(by cases h),λh=>Z⟩
  | A+1=>by
    rw [Ph,List.mem_append,GL A,GG]
    constructor
    · rintro (h|h)
      · exact ⟨Z,h.2⟩
      · exact ⟨Z,Z,Z,h.2.2.2⟩
    · rintro ⟨h1,h2,h3,h4⟩
      rcases Nat.lt_or_ge s.1 A with h5|h5
      · exact .inl ⟨h5,h2,h3,h4⟩
      · exact .inr ⟨Z,Z,Z,h4⟩
theorem GP:∀j,(Ho ts a j).Pairwise Yf
  | 0=>List.Pairwise.nil
  | j+1=>by
    rw [Ho]
    split
    · refine List.pairwise_append.2 ⟨GP j,List.pairwise_singleton _ _,λx hx y hy=>?_⟩
      rw [List.mem_singleton] at hy
      subst hy
      have h:=(GG j).1 hx
      exact .inr ⟨h.1,(by show x.2.1<a+1+j;exact h.2.2.1)⟩
    · exact GP j
theorem Iz:∀A,(Ph ts N A).Pairwise Yf
  | 0=>List.Pairwise.nil
  | A+1=>List.pairwise_append.2 ⟨Iz A,GP _,λx hx y hy=>.inl (by
      have h1:=(GL A).1 hx
      have h2:=(GG _).1 hy
      omega)⟩
theorem Xr {T:T3} (hab:a<b) (h:T.1≠T.2.1/\T.2.1≠T.2.2/\T.2.2≠T.1):[DC T.1 T.2.1,DC T.2.1 T.2.2,DC T.2.2 T.1].count (a,b)=if WW T a b=true then 1 else 0:=by
  rw [YR hab h]
  have e:(C_ T a=true/\C_ T b=true)↔WW T a b=true:=by
    obtain ⟨x,y,z⟩:=T
    unfold C_ WW C9
    simp only [Bool.or_eq_true,Bool.and_eq_true,decide_eq_true_eq,beq_iff_eq] at h ⊢
    omega
  simp only [e]
theorem NR (hn:BI N ts=true) (hab:a<b):∀i,i<=ts.length->Hd ts a b i=(HY (ts.take i)).count (a,b)
  | 0,_=>rfl
  | i+1,h=>by
    have hi:i<ts.length:=by omega
    rw [CU (d:=(0,0,0)) hi]
    unfold HY
    rw [List.flatMap_append,List.count_append]
    have ih:=NR hn hab i Z
    unfold HY at ih
    rw [<-ih]
    simp only [List.flatMap_cons,List.flatMap_nil,List.append_nil]
    rw [Xr hab (KS (CW hn hi)),Hd]
    split<;>rfl
theorem NE (hn:BI N ts=true) (hN:N<=4611686018427387904):Ph ts N N=A6 ts:=by
  refine HP Yf.asymm (Iz N) (I_ hn hN) λs=>?_
  rw [GL,Ka hn hN]
  constructor
  · rintro ⟨_,h2,_,h4,h5⟩
    rw [NR hn h2 _ (Nat.le_refl _),List.take_length] at h4
    exact ⟨h4,h5⟩
  · rintro ⟨h1,h2⟩
    have hm:(s.1,s.2.1)∈HY ts:=List.count_pos_iff.1 Z
    obtain ⟨k1,k2⟩:=O0 hn hN hm
    exact ⟨Z,k1,k2,by rw [NR hn k1 _ (Nat.le_refl _),List.take_length];exact h1,h2⟩
end
def cW (ts:List T3) (s:T3):T3:=if Be ts s.1 s.2.1 ts.length<0 then (s.2.1,s.1,(Be ts s.2.1 s.1 ts.length).toNat) else (s.1,s.2.1,(Be ts s.1 s.2.1 ts.length).toNat)
def J5 (ts:List T3) (i:Nat):List T3:=((A6 ts).take i).map (cW ts)
section
variable {ts:List T3} {a b N t i:Nat}
theorem NK:∀n,(∃j,j<n/\C9 (ts.getD j (0,0,0)) a b=true)->0<=Be ts a b n
  | 0,⟨j,h,_⟩=>absurd h (Nat.not_lt_zero _)
  | n+1,⟨j,h1,h2⟩=>by
    rw [Be]
    split
    · rename_i e
      have hj:j=n:=by
        rcases Nat.lt_or_ge j n with k|k
        · have:=NK n ⟨j,k,h2⟩;omega
        · omega
      subst hj
      rw [if_pos h2]
      omega
    · rename_i e
      have:=fnd_ge n
      omega
where
  fnd_ge:∀n,-1<=Be ts a b n
    | 0=>by show (-1:Int) <= -1;omega
    | n+1=>by
      have h:=fnd_ge n
      rw [Be]
      split
      · split<;>omega
      · exact h
theorem MU:∀n,0<Hd ts a b n->∃j,j<n/\WW (ts.getD j (0,0,0)) a b=true
  | 0,h=>absurd h (Nat.lt_irrefl _)
  | n+1,h=>by
    by_cases e:WW (ts.getD n (0,0,0)) a b=true
    · exact ⟨n,Z,e⟩
    · rw [Rs e] at h
      obtain ⟨j,h1,h2⟩:=MU n h
      exact ⟨j,Z,h2⟩
theorem Mb (hn:BI N ts=true) (hN:N<=4611686018427387904) {s:T3} (hs:s∈A6 ts) (h:Be ts s.1 s.2.1 ts.length<0):0<=Be ts s.2.1 s.1 ts.length:=by
  rw [<-NE hn hN,GL] at hs
  obtain ⟨_,_,_,h4,_⟩:=hs
  obtain ⟨j,h1,h2⟩:=MU (a:=s.1) (b:=s.2.1) ts.length (by rw [h4];exact Nat.one_pos)
  refine NK _ ⟨j,h1,?_⟩
  unfold WW at h2
  rw [Bool.or_eq_true] at h2
  rcases h2 with h2|h2
  · have:=NK ts.length ⟨j,h1,h2⟩;omega
  · exact h2
theorem L9 (h:i<(A6 ts).length):J5 ts (i+1)=J5 ts i++[cW ts ((A6 ts).getD i (0,0,0))]:=by
  unfold J5
  rw [CU (d:=(0,0,0)) h,List.map_append]
  rfl
theorem Tt (i:Nat):(J5 ts i).length<=i:=by unfold J5;rw [List.length_map];exact List.length_take_le _ _
theorem Ri {s:T3} (h:Be ts s.1 s.2.1 ts.length<0):cW ts s=(s.2.1,s.1,(Be ts s.2.1 s.1 ts.length).toNat):=if_pos h
theorem RA {s:T3} (h:¬Be ts s.1 s.2.1 ts.length<0):cW ts s=(s.1,s.2.1,(Be ts s.1 s.2.1 ts.length).toNat):=if_neg h
end
def K8 (ts:List T3) (p n:Nat):List Nat:=(List.range n).filter λt=>C_ (ts.getD t (0,0,0)) p
section
variable {ts:List T3} {p n:Nat}
theorem X3 (h:C_ (ts.getD n (0,0,0)) p=true):K8 ts p (n+1)=K8 ts p n++[n]:=by
  unfold K8;rw [List.range_succ,List.filter_append,List.filter_cons,if_pos h];rfl
theorem Zs (h:¬C_ (ts.getD n (0,0,0)) p=true):K8 ts p (n+1)=K8 ts p n:=by
  unfold K8;rw [List.range_succ,List.filter_append,List.filter_cons,if_neg h];simp
theorem RH (p n:Nat):(K8 ts p n).length<=n:=by
  have h:=List.length_filter_le (λt=>C_ (ts.getD t (0,0,0)) p) (List.range n)
  rw [List.length_range] at h
  exact h
end
end
end Go.Proofs.YtpgncndhhhllfaaGreat
