import Derived.Test.YtfbomiejpbchdaaGreatDoorPart08
import Derived.Test.YtfbomiejpbchdaaGreatDoorPart15
import Derived.Test.YtfbomiejpbchdaaGreatDoorPart20
import Derived.Test.YtfbomiejpbchdaaGreatDoorPart21
import Derived.Test.YtfbomiejpbchdaaGreatDoorPart22
import Derived.Test.YtfbomiejpbchdaaGreatDoorPart27
import Derived.Test.YtfbomiejpbchdaaGreatDoorPart28
import Derived.Test.YtfbomiejpbchdaaGreatDoorPart29
import Derived.Test.YtfbomiejpbchdaaGreatDoorPart31
namespace Go.Proofs.YtfbomiejpbchdaaGreatDoor
open Go Go.RowKit Go.Proofs.Tryz
set_option linter.unusedVariables false
set_option linter.unusedSimpArgs false
def FQ (ps:List Pt) (t:T3):Rat:=Aa (B9 ps t.1) (B9 ps t.2.1) (B9 ps t.2.2)*(1/2)
def D7 (ps:List Pt) (ts:List T3):Nat->Rat
  | 0=>0
  | i+1=>D7 ps ts i+FQ ps (ts.getD i (0,0,0))
theorem J_ {ps:List Pt} (hz:∀k,B4 (B9 ps k)<=1000) (t:T3):Sz (FQ ps t)<=8009:=by
  have h1:=Cz (B9 ps t.1) (B9 ps t.2.1) (B9 ps t.2.2)
  have z1:=hz t.1
  have z2:=hz t.2.1
  have z3:=hz t.2.2
  have h2:=Dd (Aa (B9 ps t.1) (B9 ps t.2.1) (B9 ps t.2.2)) (1/2)
  have h3:=Kw
  unfold FQ
  omega
theorem K1 {ps:List Pt} (hz:∀k,B4 (B9 ps k)<=1000) (ts:List T3):∀i,Sz (D7 ps ts i)<=2+i*8010
  | 0=>by show Sz (0:Rat)<=2+0*8010;decide +kernel
  | i+1=>by
    have h:=K1 hz ts i
    have h1:=J_ hz (ts.getD i (0,0,0))
    have h4:=HG (D7 ps ts i) (FQ ps (ts.getD i (0,0,0)))
    show Sz (D7 ps ts i+FQ ps (ts.getD i (0,0,0)))<=_
    omega
def Cv:List Rat->Rat
  | []=>0
  | x::r=>x+Cv r
theorem Lm (a b:List Rat):Cv (a++b)=Cv a+Cv b:=by
  induction a with
  | nil=>simp only [List.nil_append,Cv];grind
  | cons x r ih=>simp only [List.cons_append,Cv,ih];grind
theorem LQ (ps:List Pt) (ts:List T3):∀i,i<=ts.length->D7 ps ts i=Cv ((ts.take i).map (FQ ps))
  | 0,_=>by simp [D7,Cv]
  | i+1,h=>by
    rw [FS (d:=(0,0,0)) (show i<ts.length by omega),List.map_append,Lm,<-LQ ps ts i Z]
    simp only [D7,List.map_cons,List.map_nil,Cv]
    grind
theorem Ri (ps:List Pt) (ts:List T3):D7 ps ts ts.length=Cv (ts.map (FQ ps)):=by rw [LQ _ _ _ (Nat.le_refl _),List.take_length]
section
set_option maxRecDepth 100000
theorem Lr {ps:List Pt} {ts ss:List T3} (x:MX ps ts ss) (hl:ts.length<=8192) (hz:∀k,B4 (B9 ps k)<=1000) (hnb:CU ps.length ts=true) (w:World) {S:Nat->Prop} (hx:Ro S w x):Calls prog 19 #[(aG (CM x))] w (Al w (aG (AJ (D7 ps ts ts.length)))):=by
 have lx:=En (W:=w) hx
 refine BC (args:=[(aG (CM x))]) (L:=[Ag x.a.p (rowsL Ah ps),Ag x.b.p (rowsL An ts),Ag x.c.p (rowsL An ss)]) func19 O O (Ad O) (Eo hx BR) (AF.subF (sL [0] O) (q4 (Bi (cs:=CM x) O λb1=>al Df O λb2=>q3 (sL [1,2] O) ?_)))
 refine al Df O λb3=>AE.nil (q1 (q4 (BA 2 DG O (D1 (args:=[(aG (CM x))]) (v:=(Value.bool true)) call48 (λw hw=>(by have h9:=KT x Z w (Dz hw 3 O lx);rw [hnb] at h9;exact h9)) O ?_))))
 refine AH (BV (c:=false) O O) O (AE.nil (AC.subF (sL [1,2,3,7] O) (AC.then_ (AF.cond_false O (AF.skip ?_)))))
 refine q1 (q4 (AH (v:=(pP b1 1)) (AA O underlying30 O sizeOf23 O) O (BJ 2 (Value.slice x.b.p ts.length x.b.c) DV O (AH (v:=(vN ts.length)) (AG O underlying23) O (AO O ?_)))))
 refine AE.nil (AC.subF (sL [1,2,3,11,12] O) (AC.then_ (AF.block ?_)))
 refine AF.lp1 (tg λ(i:Nat)=>i<=ts.length) (tg λ(i:Nat)=>[(1,(pP b1 0)),(2,(pP b2 0)),(3,(pP b3 0)),(11,(vN ts.length)),(12,(vN i))]) (tg λ(i:Nat)=>[Ae b3 61 (AJ (D7 ps ts i)),Ae b2 61 (AJ (0:Rat)),Ae b1 30 (CM x),Ag x.a.p (rowsL Ah ps),Ag x.b.p (rowsL An ts),Ag x.c.p (rowsL An ss)]) (tg λ(i:Nat)=>ts.length-i) 0 (Nat.zero_le _) (sF O) sr (λi hJ=>?_)
 have hi:=hJ
 refine q4 (AH (Af (c:=(decide (i<ts.length))) O O (C1 (a:=i) (b:=ts.length))) O (AE.nil (q1 ?_)))
 refine AF.cond O (λhc1=>?_) (λhc1=>?_)
 ·replace hc1:=of_decide_eq_true hc1
  have hi2:=hc1
  have ha:=K1 hz ts i
  have hb:=J_ hz (ts.getD i (0,0,0))
  have z0:=hz (ts.getD i (0,0,0)).1
  have z1:=hz (ts.getD i (0,0,0)).2.1
  have z2:=hz (ts.getD i (0,0,0)).2.2
  refine AF.skip (q1 (AF.block (q4 (AO O (AK O ?_)))))
  refine AE.nil (AC.subF (sL [1,2,3,11,12,4] O) (AC.then_ (rC [(0,true),(1,true),(2,true),(3,false),(4,true),(5,true),(6,true),(7,false),(8,false)] 9 [] sr (sl sr) (by kernel_rfl) (λ_ _ d _ _ h=>by cases d<;>exact h) (vE (v:=(aG (AJ (D7 ps ts i)))) O (Ak (i:=0) (vs:=AJ (D7 ps ts i)) O O Bg.a Bg.s O O) O (vE (v:=(aG (CM x))) O (Ak (i:=2) (vs:=CM x) O O DG.a DG.s O O) O ?_)))))
  refine vM O O O (CG.imp O (D1 call23 (λw hw=>GA x i hi2 (CO hnb hi2) w (Dz hw 3 O lx)) O (CG.back sr (vE O (AX (v:=(aG (Ah (B9 ps (ts.getD i (0,0,0)).1)))) O O) O (vE O (AX (v:=(aG (Ah (B9 ps (ts.getD i (0,0,0)).2.1)))) O O) O ?_)))))
  refine vE O (AX (v:=(aG (Ah (B9 ps (ts.getD i (0,0,0)).2.2)))) O O) O (CG.imp O ?_)
  have hz1:=Cz (B9 ps (ts.getD i (0,0,0)).1) (B9 ps (ts.getD i (0,0,0)).2.1) (B9 ps (ts.getD i (0,0,0)).2.2)
  have hz2:=Dd (Aa (B9 ps (ts.getD i (0,0,0)).1) (B9 ps (ts.getD i (0,0,0)).2.1) (B9 ps (ts.getD i (0,0,0)).2.2)) (1/2)
  refine BS call25 (Kp (B9 ps (ts.getD i (0,0,0)).1) (B9 ps (ts.getD i (0,0,0)).2.1) (B9 ps (ts.getD i (0,0,0)).2.2) Z) O (CG.back sr (CG.imp O (BS call17 (H9 (D7 ps ts i) (FQ ps (ts.getD i (0,0,0))) Z) O (CG.back sr (CG.cut O ?_)))))
  refine Av O sizeOf61 O (AS.back (sl sr) (AS.nil (AC.subF (sL [1,2,3,11,12] O) (AC.in_normal (AC.then_ ?_)))))
  exact AF.region (AH (AW (c:=((i+1:Nat):Int)) O O (AZ (a:=i) (b:=1) Z)) O (AO O (AE.nil (AC.subF (sL [1,2,3,11,12] O) (AC.round1 (i+1) Z Z (sF O) sr)))))
 ·replace hc1:=of_decide_eq_false hc1
  have hie:i=ts.length:=by omega
  refine AF.exit (AC.then_exit (AC.round1_exit (AC.in_exit (q2 (BA 0 Bg O ?_)))))
  exact Ci O sizeOf61 O (AE.nil (AC.subF (sL [1,2,3,11,12] O) (AC.then_ (AF.ret (AN O (A7 (i:=1) (cs:=AJ (D7 ps ts i)) O O isAgg61 sizeOf61 O) (λw hw=>⟨by rw [hie],hw.out⟩))))))
end
section
def Em (t:T3) (p:Int):Bool:=decide ((t.1:Int)=p)||(decide ((t.2.1:Int)=p)||decide ((t.2.2:Int)=p))
def PF (t:T3) (p:Int):Int:=if (t.1:Int)=p then 0 else if (t.2.1:Int)=p then 1 else if (t.2.2:Int)=p then 2 else -1
theorem SS (t:T3) (p:Int):decide (0<=PF t p)=Em t p:=by
  unfold PF Em
  by_cases h1:(t.1:Int)=p
  · rw [if_pos h1];simp [h1]
  · rw [if_neg h1]
    by_cases h2:(t.2.1:Int)=p
    · rw [if_pos h2];simp [h2]
    · rw [if_neg h2]
      by_cases h3:(t.2.2:Int)=p
      · rw [if_pos h3];simp [h3]
      · rw [if_neg h3];simp [h1,h2,h3]
def Fm (ts:List T3) (p:Int) (i:Nat):List Nat:=(List.range i).filter λt=>Em (ts.getD t (0,0,0)) p
section
variable {ts:List T3} {ps:List Pt} {p:Int} {i:Nat}
theorem S_ (h:Em (ts.getD i (0,0,0)) p=true):Fm ts p (i+1)=Fm ts p i++[i]:=by
  unfold Fm
  rw [List.range_succ,List.filter_append]
  simp only [List.filter,h]
theorem UM (h:Em (ts.getD i (0,0,0)) p=false):Fm ts p (i+1)=Fm ts p i:=by
  unfold Fm
  rw [List.range_succ,List.filter_append]
  simp only [List.filter,h,List.append_nil]
theorem K3:(Fm ts p i).length<=i:=by
  have:=List.length_filter_le (λt=>Em (ts.getD t (0,0,0)) p) (List.range i)
  rwa [List.length_range] at this
theorem NV {x:Nat}:x∈Fm ts p i↔x<i/\Em (ts.getD x (0,0,0)) p=true:=by
  unfold Fm
  rw [List.mem_filter,List.mem_range]
theorem Tn {k:Nat} (h:k<(Fm ts p i).length):(Fm ts p i).getD k 0<i/\Em (ts.getD ((Fm ts p i).getD k 0) (0,0,0)) p=true:=by
  rw [List.getD,List.getElem?_eq_getElem h]
  exact NV.1 (List.getElem_mem h)
theorem Tc {k:Nat} (h:k<(Fm ts p i).length) (h0:0<k):(Fm ts p i).getD (k-1) 0<(Fm ts p i).getD k 0:=by
  have h9:(Fm ts p i).Pairwise (·<·):=List.pairwise_lt_range.filter _
  rw [List.getD,List.getD,List.getElem?_eq_getElem h,List.getElem?_eq_getElem (show k-1<(Fm ts p i).length by omega)]
  exact List.pairwise_iff_getElem.1 h9 (k-1) k Z h Z
theorem Hh {t:T3} (h:Em t p=true):p=t.1\/p=t.2.1\/p=t.2.2:=by
  unfold Em at h
  simp only [Bool.or_eq_true,decide_eq_true_eq] at h
  omega
theorem Nc (hn:CU ps.length ts=true) (hp:p<0\/(ps.length:Int)<=p):Fm ts p ts.length=[]:=by
  rw [List.eq_nil_iff_forall_not_mem]
  intro x hx
  obtain ⟨h1,h2⟩:=NV.1 hx
  obtain ⟨g1,g2,g3⟩:=C3 (CO hn h1)
  have:=Hh h2
  omega
def nA (ts:List T3):Nat->Nat
  | 0=>0
  | p+1=>nA ts p+(Fm ts (p:Nat) ts.length).length
def PI (ps:List Pt) (ts:List T3) (l:List Nat):Nat->Rat
  | 0=>0
  | k+1=>PI ps ts l k+FQ ps (ts.getD (l.getD k 0) (0,0,0))
def sA (ps:List Pt) (ts:List T3):Nat->Rat
  | 0=>0
  | p+1=>sA ps ts p+PI ps ts (Fm ts (p:Nat) ts.length) (Fm ts (p:Nat) ts.length).length
theorem NS (l:List Nat):∀k,k<=l.length->PI ps ts l k=Cv ((l.take k).map λt=>FQ ps (ts.getD t (0,0,0)))
  | 0,_=>by simp [PI,Cv]
  | k+1,h=>by
    rw [FS (d:=0) (show k<l.length by omega),List.map_append,Lm,<-NS l k Z]
    simp only [PI,List.map_cons,List.map_nil,Cv]
    grind
theorem O1 {α:Type} (d:α) (l:List α):(List.range l.length).map (λt=>l.getD t d)=l:=by
  apply List.ext_getElem (by simp)
  intro j h1 h2
  simp [List.getD,h2]
theorem HX {α:Type} (f:α->Rat) (q:α->Bool):∀l:List α,Cv ((l.filter q).map f)=Cv (l.map λx=>(if q x=true then 1 else 0)*f x)
  | []=>rfl
  | x::r=>by
    rw [List.map_cons,Cv,<-HX f q r]
    by_cases h:q x=true
    · rw [List.filter_cons_of_pos h,List.map_cons,Cv,if_pos h];grind
    · rw [List.filter_cons_of_neg h,if_neg h];grind
theorem Ls (f:T3->Rat) (p:Int):Cv ((Fm ts p ts.length).map λt=>f (ts.getD t (0,0,0)))=Cv (ts.map λt=>(if Em t p=true then 1 else 0)*f t):=by
  unfold Fm
  rw [HX (λt=>f (ts.getD t (0,0,0))) (λt=>Em (ts.getD t (0,0,0)) p)]
  conv=>rhs;rw [<-O1 ((0,0,0):T3) ts]
  rw [List.map_map]
  rfl
def Sa (t:T3) (p:Nat):Rat:=(if t.1<p then 1 else 0)+(if t.2.1<p then 1 else 0)+(if t.2.2<p then 1 else 0)
theorem LR (t:T3):Sa t 0=0:=by unfold Sa;rw [if_neg (Nat.not_lt_zero _),if_neg (Nat.not_lt_zero _),if_neg (Nat.not_lt_zero _)];grind
theorem LF {t:T3} (h1:t.1≠t.2.1) (h2:t.2.1≠t.2.2) (h3:t.2.2≠t.1) (p:Nat):Sa t (p+1)=Sa t p+(if Em t (p:Nat)=true then 1 else 0):=by
  have e:∀a:Nat,(if a<p+1 then (1:Rat) else 0)=(if a<p then 1 else 0)+(if a=p then 1 else 0):=λa=>by
    rcases Nat.lt_trichotomy a p with h|h|h
    · rw [if_pos (show a<p+1 by omega),if_pos h,if_neg (show ¬a=p by omega)];grind
    · rw [if_pos (show a<p+1 by omega),if_neg (show ¬a<p by omega),if_pos h];grind
    · rw [if_neg (show ¬a<p+1 by omega),if_neg (show ¬a<p by omega),if_neg (show ¬a=p by omega)];grind
  have e2:(if Em t (p:Nat)=true then (1:Rat) else 0)=(if t.1=p then 1 else 0)+(if t.2.1=p then 1 else 0)+(if t.2.2=p then 1 else 0):=by
    unfold Em
    by_cases k1:t.1=p
    · have n2:¬t.2.1=p:=by omega
      have n3:¬t.2.2=p:=by omega
      have d:(decide ((t.1:Int)=(p:Nat))||(decide ((t.2.1:Int)=(p:Nat))||decide ((t.2.2:Int)=(p:Nat))))=true:=by simp [k1]
      rw [if_pos d,if_pos k1,if_neg n2,if_neg n3];grind
    · by_cases k2:t.2.1=p
      · have n3:¬t.2.2=p:=by omega
        have d:(decide ((t.1:Int)=(p:Nat))||(decide ((t.2.1:Int)=(p:Nat))||decide ((t.2.2:Int)=(p:Nat))))=true:=by simp [k2]
        rw [if_pos d,if_neg k1,if_pos k2,if_neg n3];grind
      · by_cases k3:t.2.2=p
        · have d:(decide ((t.1:Int)=(p:Nat))||(decide ((t.2.1:Int)=(p:Nat))||decide ((t.2.2:Int)=(p:Nat))))=true:=by simp [k3]
          rw [if_pos d,if_neg k1,if_neg k2,if_pos k3];grind
        · have d:¬(decide ((t.1:Int)=(p:Nat))||(decide ((t.2.1:Int)=(p:Nat))||decide ((t.2.2:Int)=(p:Nat))))=true:=by simp;omega
          rw [if_neg d,if_neg k1,if_neg k2,if_neg k3];grind
  unfold Sa
  rw [e,e,e,e2]
  grind
theorem NT {t:T3} {n:Nat} (h1:t.1<n) (h2:t.2.1<n) (h3:t.2.2<n):Sa t n=3:=by unfold Sa;rw [if_pos h1,if_pos h2,if_pos h3];grind
theorem I0 {α:Type} (f g:α->Rat):∀l:List α,Cv (l.map λx=>f x+g x)=Cv (l.map f)+Cv (l.map g)
  | []=>by simp only [List.map_nil,Cv];grind
  | x::r=>by simp only [List.map_cons,Cv,I0 f g r];grind
theorem FY {α:Type} (c:Rat) (f:α->Rat):∀l:List α,Cv (l.map λx=>c*f x)=c*Cv (l.map f)
  | []=>by simp only [List.map_nil,Cv];grind
  | x::r=>by simp only [List.map_cons,Cv,FY c f r];grind
theorem DF {α:Type} {f g:α->Rat}:∀{l:List α},(∀x∈l,f x=g x)->Cv (l.map f)=Cv (l.map g)
  | [],_=>rfl
  | x::r,h=>by simp only [List.map_cons,Cv];rw [h x List.mem_cons_self,DF λy hy=>h y (List.mem_cons_of_mem _ hy)]
theorem I8 {α:Type}:∀l:List α,Cv (l.map λ_=>(1:Rat))=(l.length:Rat)
  | []=>rfl
  | x::r=>by simp only [List.map_cons,Cv,I8 r,List.length_cons];push_cast;grind
theorem Gv (hn:CU ps.length ts=true) {t:T3} (h:t∈ts):t.1<ps.length/\t.2.1<ps.length/\t.2.2<ps.length/\t.1≠t.2.1/\t.2.1≠t.2.2/\t.2.2≠t.1:=by
  obtain ⟨j,hj,rfl⟩:=List.getElem_of_mem h
  have h9:=CO hn hj
  rw [List.getD,List.getElem?_eq_getElem hj] at h9
  simp [K8] at h9
  omega
theorem Le (hn:CU ps.length ts=true):∀p,sA ps ts p=Cv (ts.map λt=>Sa t p*FQ ps t)
  | 0=>by
    rw [DF (g:=λt=>0*FQ ps t) λt _=>by rw [LR],FY]
    show (0:Rat)=_
    grind
  | p+1=>by
    show sA ps ts p+_=_
    rw [NS _ _ (Nat.le_refl _),List.take_length,Ls (FQ ps),Le hn p,<-I0]
    refine DF λt ht=>?_
    obtain ⟨_,_,_,h1,h2,h3⟩:=Gv hn ht
    rw [LF h1 h2 h3]
    grind
theorem Ll (hn:CU ps.length ts=true):∀p,((nA ts p:Nat):Rat)=Cv (ts.map λt=>Sa t p)
  | 0=>by
    rw [DF (g:=λt=>0*(1:Rat)) λt _=>by rw [LR];grind,FY]
    show ((0:Nat):Rat)=_
    simp
  | p+1=>by
    show ((nA ts p+_:Nat):Rat)=_
    rw [Rat.natCast_add,<-I8,Ls (λ_=>1),Ll hn p,<-I0]
    refine DF λt ht=>?_
    obtain ⟨_,_,_,h1,h2,h3⟩:=Gv hn ht
    rw [LF h1 h2 h3]
    grind
theorem RF (hn:CU ps.length ts=true):sA ps ts ps.length=3*D7 ps ts ts.length:=by
  rw [Le hn,Ri,<-FY]
  refine DF λt ht=>?_
  obtain ⟨h1,h2,h3,_⟩:=Gv hn ht
  rw [NT h1 h2 h3]
theorem SN (hn:CU ps.length ts=true):nA ts ps.length=3*ts.length:=by
  have h:=Ll hn ps.length
  rw [DF (g:=λ_=>3*(1:Rat)) λt ht=>by obtain ⟨h1,h2,h3,_⟩:=Gv hn ht;rw [NT h1 h2 h3];grind,FY,I8] at h
  have h2:((nA ts ps.length:Nat):Rat)=((3*ts.length:Nat):Rat):=by rw [h,Rat.natCast_mul];rfl
  exact Rat.natCast_inj.1 h2
theorem TO:∀p,nA ts p<=p*ts.length
  | 0=>Nat.zero_le _
  | p+1=>by
    show nA ts p+_<=_
    have h1:=TO p
    have h2:=K3 (ts:=ts) (p:=(p:Nat)) (i:=ts.length)
    have h3:(p+1)*ts.length=p*ts.length+ts.length:=by rw [Nat.add_mul,Nat.one_mul]
    omega
theorem NB (hz:∀k,B4 (B9 ps k)<=1000) (l:List Nat):∀k,Sz (PI ps ts l k)<=2+k*8010
  | 0=>by show Sz (0:Rat)<=2+0*8010;decide +kernel
  | k+1=>by
    have h:=NB hz l k
    have h1:=J_ hz (ts.getD (l.getD k 0) (0,0,0))
    have h4:=HG (PI ps ts l k) (FQ ps (ts.getD (l.getD k 0) (0,0,0)))
    show Sz (PI ps ts l k+FQ ps _)<=_
    omega
theorem Qr (hz:∀k,B4 (B9 ps k)<=1000):∀p,Sz (sA ps ts p)<=2+p*(ts.length*8010+3)
  | 0=>by show Sz (0:Rat)<=2+0*_;rw [Nat.zero_mul];decide +kernel
  | p+1=>by
    have h:=Qr hz p
    have h1:=NB (ts:=ts) hz (Fm ts (p:Nat) ts.length) (Fm ts (p:Nat) ts.length).length
    have h2:=K3 (ts:=ts) (p:=(p:Nat)) (i:=ts.length)
    have h4:=HG (sA ps ts p) (PI ps ts (Fm ts (p:Nat) ts.length) (Fm ts (p:Nat) ts.length).length)
    show Sz (sA ps ts p+_)<=_
    rw [Nat.add_mul,Nat.one_mul]
    omega
def sB (ps:List Pt) (ts:List T3) (l:List Nat) (s:Rat):Nat->Rat
  | 0=>s
  | k+1=>sB ps ts l s k+FQ ps (ts.getD (l.getD k 0) (0,0,0))
theorem PL (l:List Nat) (s:Rat):∀k,sB ps ts l s k=s+PI ps ts l k
  | 0=>by show s=s+0;grind
  | k+1=>by
    show sB ps ts l s k+FQ ps _=s+(PI ps ts l k+FQ ps _)
    rw [PL l s k];grind
theorem NZ (s:Rat) (l:List Nat) (k:Nat):sB ps ts l s k+Aa (B9 ps (ts.getD (l.getD k 0) (0,0,0)).1) (B9 ps (ts.getD (l.getD k 0) (0,0,0)).2.1) (B9 ps (ts.getD (l.getD k 0) (0,0,0)).2.2)*(1/2)=sB ps ts l s (k+1):=rfl
theorem UE (p:Nat):sB ps ts (Fm ts (p:Nat) ts.length) (sA ps ts p) (Fm ts (p:Nat) ts.length).length=sA ps ts (p+1):=PL _ _ _
end
end
section
def dt (a b:Pt):Rat:=a.x*b.y-a.y*b.x
section
variable {p q r s u w:Pt}
end
section
variable {a b c d e f u:Pt}
theorem ID (a b c:Pt):Aa b c a=Aa a b c:=by simp only [DL];grind
def Vh (u:Pt) (k:Rat) (a b c d e f:Pt):Prop:=(k<=dt u a/\k<=dt u b/\k<=dt u c)/\dt u d<=k/\dt u e<=k/\dt u f<=k
end
end
section
abbrev M3:=List Pt×List T3×List T3
def VV (M:M3):Prop:=M.1.length+(B0 M.2.1).length<=4096/\4*M.2.1.length<=8192
instance (M:M3):Decidable (VV M):=inferInstanceAs (Decidable (_/\_))
structure WL (ps:List Pt) (ts ss:List T3) (e:Nat) where
  m:MX ps ts ss
instance {ps:List Pt} {ts ss:List T3} {e:Nat}:Dy (WL ps ts ss e):=⟨λx=>.tuple #[aG (CM x.m),vN e],λx=>Dy.rows x.m,λx y hy=>Dy.ro x.m y hy⟩
section
variable {P:Program} {ops:Array Oper} {rest:List Oper} {Q:Exit->Act->World->Prop} {n d:Nat} {F:List (Nat×Value)} {w0:BH} {S:Nat->Prop} {L:List As} {t:TypeId} {p:String} {af:Array Edge} {y:Operand} {f:FuncId} {xs:List Operand} {args:List Value} {tys:Array TypeId} {ps:List Pt} {ts ss:List T3} {e:Nat}
end
def Vd (ts:List T3):List Value:=vI (-1)::vN 0::vN 1::rowsL An ts
structure MB (ps:List Pt) (ts ss:List T3) where
  a:RX (rowsL Ah ps) ps.length
  b:RX (Vd ts) (1+ts.length)
  c:RX (rowsL An ss) ss.length
def WN {ps:List Pt} {ts ss:List T3} (x:MB ps ts ss):List Value:=[x.a.val,x.b.val,x.c.val]
theorem Um {ps:List Pt} {ts ss:List T3} {x:MB ps ts ss} {y:As} (hy:y∈[x.a.row,x.b.row,x.c.row]):y.ro=true:=by
  simp only [List.mem_cons,List.not_mem_nil,or_false] at hy
  rcases hy with rfl|rfl|rfl<;>rfl
instance {ps:List Pt} {ts ss:List T3}:Dy (MB ps ts ss):=⟨λx=>aG (WN x),λx=>[x.a.row,x.b.row,x.c.row],λx y hy=>Um hy⟩
end
section
def Ur {α β:Type} (b:Nat) (enc:α->Value) (eV:β->Value) (kvs:List (α×β)):As:=⟨some b,λo=>o=.map (entsM enc eV kvs 0).toArray kvs.length,true⟩
section
variable {α β:Type} [DecidableEq α] {enc:α->Value} {eV:β->Value} {ok:α->Prop} {P:Program} {kt:TypeId} {n:Nat} {F:List (Nat×Value)} {w0:BH} {L:List As} {d:Option Tmp} {tx et t b:Nat} {pp:String} {af:Array Edge} {g:Option (Nat×Bool)} {mp kp:Operand}
end
def L7 (t:T3):P2:=DI t.2.1 t.2.2
def Rs (ts:List T3) (ms:List Int) (k:P2):Prop:=∃z∈ms,0<=z/\z<(ts.length:Int)/\k=L7 (ts.getD z.toNat (0,0,0))
inductive K_ (ts:List T3) (S:P2->Prop):P2->Prop
  | start {k:P2}:S k->K_ ts S k
  | up {t:T3} {k:P2}:t∈ts->K_ ts S k->(k=DI t.1 t.2.1\/k=DI t.2.2 t.1)->K_ ts S (L7 t)
theorem K_.mono {ts:List T3} {S S':P2->Prop} (h:∀k,S k->S' k) {k:P2} (c:K_ ts S k):K_ ts S' k:=by
  induction c with
  | start hs=>exact .start (h _ hs)
  | up ht _ he ih=>exact .up ht ih he
theorem K_.or {ts:List T3} {S S':P2->Prop} {k:P2} (c:K_ ts (λk=>S k\/S' k) k):K_ ts S k\/K_ ts S' k:=by
  induction c with
  | start hs=>exact hs.elim (λh=>.inl (.start h)) (λh=>.inr (.start h))
  | up ht _ he ih=>exact ih.elim (λh=>.inl (.up ht h he)) (λh=>.inr (.up ht h he))
structure Hr (ts:List T3) (ms:List Int) (i:Nat) (kvs:List (P2×Nat)):Prop where
  ok:JL NP kvs
  one:∀k,BF kvs k=none\/BF kvs k=some 1
  sub:∀k,BF kvs k=some 1->K_ ts (Rs ts ms) k
  mrk:∀k,Rs ts (ms.take i) k->BF kvs k=some 1
section
variable {ts:List T3} {ms:List Int} {i:Nat} {kvs:List (P2×Nat)}
theorem Hr.zero (ts:List T3) (ms:List Int):Hr ts ms 0 []:=⟨⟨λp hp=>(by cases hp),List.Pairwise.nil⟩,λk=>.inl rfl,λk h=>(by cases h),λk ⟨z,hz,_⟩=>by rw [List.take_zero] at hz;cases hz⟩
theorem Hr.put (h:Hr ts ms i kvs) {k:P2} (hk:NP k) (hc:K_ ts (Rs ts ms) k):Hr ts ms i (Ba kvs k 1):=⟨h.ok.put hk,λx=>by
    rw [C_];split
    · exact .inr O
    · exact h.one x,λx hx=>by
    rw [C_] at hx;split at hx
    · rename_i e;rw [e];exact hc
    · exact h.sub x hx,λx hx=>by
    rw [C_];split
    · rfl
    · exact h.mrk x hx⟩
theorem MM {l:List Int} {j:Nat} (h:j<l.length):l.take (j+1)=l.take j++[l.getD j 0]:=by
  rw [List.take_add_one,List.getD,List.getElem?_eq_getElem h];rfl
theorem Hr.skip (h:Hr ts ms i kvs) (hi:i<ms.length) (hn:¬(0<=ms.getD i 0/\ms.getD i 0<(ts.length:Int))):Hr ts ms (i+1) kvs:=by
  refine ⟨h.ok,h.one,h.sub,λx hx=>?_⟩
  rw [MM hi] at hx
  obtain ⟨z,hz,a,b,rfl⟩:=hx
  rcases List.mem_append.1 hz with hz|hz
  · exact h.mrk _ ⟨z,hz,a,b,rfl⟩
  · exact absurd (by rw [<-List.mem_singleton.1 hz];exact ⟨a,b⟩) hn
def V2 (ts:List T3) (kvs:List (P2×Nat)) (j:Nat):Prop:=∀q,q<j->BF kvs (L7 (ts.getD q (0,0,0)))=none->BF kvs (DI (ts.getD q (0,0,0)).1 (ts.getD q (0,0,0)).2.1)=none/\BF kvs (DI (ts.getD q (0,0,0)).2.2 (ts.getD q (0,0,0)).1)=none
theorem Hr.no (h:Hr ts ms i kvs) {k:P2} (e:(BF kvs k).getD 0=0):BF kvs k=none:=(h.one k).elim id λh1=>by rw [h1] at e;cases e
theorem Hr.all (h:Hr ts ms ms.length kvs) (hc:V2 ts kvs ts.length) (k:P2):BF kvs k=some 1↔K_ ts (Rs ts ms) k:=by
  refine ⟨h.sub k,λc=>?_⟩
  induction c with
  | start hs=>exact h.mrk _ (by rw [List.take_length];exact hs)
  | up ht _ he ih =>
    rename_i t k' _
    obtain ⟨q,hq,rfl⟩:=List.getElem_of_mem ht
    rcases h.one (L7 ts[q]) with h1|h1
    · have h2:=hc q hq (by rw [List.getD,List.getElem?_eq_getElem hq];exact h1)
      rw [List.getD,List.getElem?_eq_getElem hq] at h2
      rcases he with e|e
      · rw [e] at ih;rw [show BF kvs (DI ts[q].1 ts[q].2.1)=none from h2.1] at ih;cases ih
      · rw [e] at ih;rw [show BF kvs (DI ts[q].2.2 ts[q].1)=none from h2.2] at ih;cases ih
    · exact h1
end
structure HC (ts:List T3) (ms:List Int) where
  b:Nat
  kvs:List (P2×Nat)
  ok:JL NP kvs
  one:∀k,BF kvs k=none\/BF kvs k=some 1
  all:∀k,BF kvs k=some 1↔K_ ts (Rs ts ms) k
instance {ts:List T3} {ms:List Int}:Dy (HC ts ms):=⟨λx=>.map (some x.b),λx=>[Ur x.b Hz vN x.kvs],λx y hy=>by rcases List.mem_singleton.1 hy with rfl;rfl⟩
structure DX (ts:List T3) (ms:List Int) where
  l:List E4
  r:RX (rowsL B8 l) l.length
  p:E4->Bool
  el:l=(B0 ts).filter p
  all:∀e,p e=true↔K_ ts (Rs ts ms) (e.a,e.b)
instance {ts:List T3} {ms:List Int}:Dy (DX ts ms):=⟨λx=>x.r.val,λx=>[x.r.row],λx y hy=>by rcases List.mem_singleton.1 hy with rfl;rfl⟩
end
section
def Kn (ts:List T3):Nat->List (P2×Nat)
  | 0=>[]
  | s+1=>Ba (Kn ts s) (Bp ts s) (s/3)
def GO (ts:List T3):Nat->Bool
  | 0=>true
  | s+1=>GO ts s&&(BF (Kn ts s) (Bp ts s)).isNone
section
variable {ts:List T3} {N t r s:Nat}
theorem NL:∀n,s<=n->GO ts n=true->GO ts s=true
  | 0,h,k=>by rw [show s=0 by omega];rfl
  | n+1,h,k=>by
    have k:(GO ts n&&_)=true:=k
    rcases Nat.lt_or_ge s (n+1) with h1|h1
    · exact NL n Z (Bool.and_eq_true _ _▸k).1
    · rw [show s=n+1 by omega];exact k
end
structure SX (ts:List T3) (o:Bool) where
  b:Nat
  kvs:List (P2×Nat)
  ok:JL NP kvs
  fin:o=true->kvs=Kn ts (3*ts.length)
instance {ts:List T3} {o:Bool}:Dy (SX ts o):=⟨λx=>.tuple #[.map (some x.b),.bool o],λx=>[Ur x.b Hz vN x.kvs],λx y hy=>by rcases List.mem_singleton.1 hy with rfl;rfl⟩
end
section
section
variable {P:Program} {Q:Exit->Act->World->Prop} {n:Nat} {F:List (Nat×Value)} {w0:BH} {L:List As} {c x y:Code}
end
end
section
abbrev Se (ts:List T3):List (P2×Nat):=Kn ts (3*ts.length)
def Mw (k:P2):P2:=(k.2,k.1)
def V_ (t:T3) (k:P2):Nat:=t.1+t.2.1+t.2.2-k.1-k.2
def Kf (ts:List T3) (k:P2):P2:=(k.2,V_ (ts.getD ((BF (Se ts) k).getD 0) (0,0,0)) k)
def isS (ts:List T3) (k:P2):Prop:=(BF (Se ts) k).isSome=true
def Rk (ts:List T3) (k:P2):Prop:=isS ts k/\¬isS ts (Mw k)
def Mb (ts:List T3):Nat->P2->Option P2
  | 0,_=>none
  | f+1,k=>if (BF (Se ts) (Mw (Kf ts k))).isSome then Mb ts f (Mw (Kf ts k)) else some (Kf ts k)
def PB (ts:List T3) (k:P2):P2:=(Mb ts (3*ts.length) k).getD (0,0)
section
variable {ts:List T3} {N:Nat} {k k0:P2} {i:Nat}
theorem G8 {n:Nat}:∀s,BF (Kn ts s) k=some n->∃u,u<s/\Bp ts u=k/\n=u/3
  | 0,h=>by cases h
  | s+1,h=>by
    have h:BF (Ba (Kn ts s) (Bp ts s) (s/3)) k=some n:=h
    rw [C_] at h
    split at h
    · rename_i e
      injection h with h
      exact ⟨s,Z,e.symm,h.symm⟩
    · obtain ⟨u,h1,h2,h3⟩:=G8 s h
      exact ⟨u,Z,h2,h3⟩
theorem Ga {u:Nat}:∀s,u<s->(BF (Kn ts s) (Bp ts u)).isSome=true
  | 0,h=>absurd h (Nat.not_lt_zero _)
  | s+1,h=>by
    show (BF (Ba (Kn ts s) (Bp ts s) (s/3)) (Bp ts u)).isSome=true
    rw [C_]
    split
    · rfl
    · rename_i e
      rcases Nat.lt_or_ge u s with h1|h1
      · exact Ga s h1
      · exact absurd (by rw [show u=s by omega]) e
theorem Jp {u v n:Nat} (ho:GO ts n=true) (hu:u<n) (hv:v<n) (h:Bp ts u=Bp ts v):u=v:=by
  have key:∀{u v:Nat},u<v->v<n->Bp ts u=Bp ts v->False:=λ{u v} h1 h2 h=>by
    have h3:=NL (s:=v+1) _ Z ho
    have h3:(GO ts v&&(BF (Kn ts v) (Bp ts v)).isNone)=true:=h3
    rw [Bool.and_eq_true] at h3
    have h4:=Ga (ts:=ts) v h1
    rw [h] at h4
    rw [<-Option.not_isSome,h4] at h3
    exact absurd h3.2 (by decide)
  rcases Nat.lt_trichotomy u v with h1|h1|h1
  · exact (key h1 hv h).elim
  · exact h1
  · exact (key h1 hu h.symm).elim
theorem Qm {u:Nat} (ho:GO ts (3*ts.length)=true) (hu:u<3*ts.length):BF (Se ts) (Bp ts u)=some (u/3):=by
  obtain ⟨n,h⟩:=Option.isSome_iff_exists.1 (Ga (ts:=ts) _ hu)
  obtain ⟨v,h1,h2,h3⟩:=G8 _ h
  have e:=Jp ho hu h1 h2.symm
  rw [show BF (Se ts) (Bp ts u)=some n from h,h3,e]
theorem F2:isS ts k↔∃u,u<3*ts.length/\Bp ts u=k:=by
  constructor
  · intro h
    obtain ⟨n,h⟩:=Option.isSome_iff_exists.1 h
    obtain ⟨u,h1,h2,_⟩:=G8 _ h
    exact ⟨u,h1,h2⟩
  · rintro ⟨u,h1,rfl⟩
    exact Ga _ h1
def Rl (u:Nat):Nat:=3*(u/3)+(u%3+1)%3
theorem SH {u v:Nat} (h:Rl u=Rl v):u=v:=by unfold Rl at h;omega
theorem NC {u:Nat} (h:u<3*ts.length):Rl u<3*ts.length:=by unfold Rl;omega
theorem Kl (ho:GO ts (3*ts.length)=true) {u:Nat} (hu:u<3*ts.length):Kf ts (Bp ts u)=Bp ts (Rl u):=by
  unfold Kf
  rw [Qm ho hu,Option.getD_some]
  have hd:(Rl u)/3=u/3:=by unfold Rl;omega
  have hm:(Rl u)%3=(u%3+1)%3:=by unfold Rl;omega
  unfold V_ Bp
  rw [hd,hm]
  generalize ts.getD (u/3) (0,0,0)=t
  have e:u%3=0\/u%3=1\/u%3=2:=by omega
  rcases e with e|e|e<;>rw [e]<;>refine Prod.ext rfl ?_
  · show t.1+t.2.1+t.2.2-t.1-t.2.1=t.2.2;omega
  · show t.1+t.2.1+t.2.2-t.2.1-t.2.2=t.1;omega
  · show t.1+t.2.1+t.2.2-t.2.2-t.1=t.2.1;omega
theorem Qh (ho:GO ts (3*ts.length)=true) (h:isS ts k):isS ts (Kf ts k):=by
  obtain ⟨u,hu,rfl⟩:=F2.1 h
  rw [Kl ho hu]
  exact F2.2 ⟨_,NC hu,rfl⟩
theorem S7 (ho:GO ts (3*ts.length)=true) {k':P2} (h:isS ts k) (h':isS ts k') (e:Kf ts k=Kf ts k'):k=k':=by
  obtain ⟨u,hu,rfl⟩:=F2.1 h
  obtain ⟨v,hv,rfl⟩:=F2.1 h'
  rw [Kl ho hu,Kl ho hv] at e
  rw [SH (Jp ho (NC hu) (NC hv) e)]
theorem Kz (k:P2):Mw (Mw k)=k:=rfl
theorem Sn {a b:P2} (h:Mw a=Mw b):a=b:=by rw [<-Kz a,h,Kz]
theorem Jn {α:Type} [DecidableEq α] {l m:List α} (hn:l.Nodup) (hs:∀x∈l,x∈m):l.length<=m.length:=by
  induction l generalizing m with
  | nil=>exact Nat.zero_le _
  | cons x r ih =>
    have hx:=hs x List.mem_cons_self
    have hn2:=List.nodup_cons.1 hn
    have h:=ih (m:=m.erase x) hn2.2 λy hy=>by
      have:y≠x:=λe=>hn2.1 (e▸hy)
      exact (List.mem_erase_of_ne this).2 (hs y (List.mem_cons_of_mem _ hy))
    rw [List.length_erase_of_mem hx] at h
    have:=List.length_pos_of_mem hx
    simp only [List.length_cons];omega
def QF (ts:List T3):List P2:=(List.range (3*ts.length)).map (Bp ts)
theorem Lz (h:isS ts k):k∈QF ts:=by
  obtain ⟨u,hu,rfl⟩:=F2.1 h
  exact List.mem_map.2 ⟨u,List.mem_range.2 hu,rfl⟩
theorem LN:(QF ts).length=3*ts.length:=by simp [QF]
structure GL (ts:List T3) (k0:P2) (i:Nat) (k:P2):Prop where
  chain:∃s:Nat->P2,s 0=k0/\s i=k/\(∀j,j<=i->isS ts (s j))/\∀j,j<i->s (j+1)=Mw (Kf ts (s j))
theorem GL.zero (h:isS ts k0):GL ts k0 0 k0:=⟨λ_=>k0,rfl,rfl,λ_ _=>h,λ_ h=>absurd h (Nat.not_lt_zero _)⟩
theorem GL.isS (h:GL ts k0 i k):isS ts k:=by
  obtain ⟨s,_,h2,h3,_⟩:=h.chain
  rw [<-h2];exact h3 i (Nat.le_refl _)
theorem GL.succ (h:GL ts k0 i k) (hs:(BF (Se ts) (Mw (Kf ts k))).isSome=true):GL ts k0 (i+1) (Mw (Kf ts k)):=by
  obtain ⟨s,h1,h2,h3,h4⟩:=h.chain
  refine ⟨λj=>if j<=i then s j else Mw (Kf ts k),by simp [h1],if_neg Z,λj hj=>?_,λj hj=>?_⟩
  · show Go.Proofs.YtfbomiejpbchdaaGreatDoor.isS ts (if j<=i then s j else _)
    split
    · exact h3 j ‹_›
    · exact hs
  · show (if j+1<=i then s (j+1) else _)=Mw (Kf ts (if j<=i then s j else _))
    rw [if_pos (show j<=i by omega)]
    split
    · exact h4 j Z
    · rw [show j=i by omega,h2]
theorem GL.lt (ho:GO ts (3*ts.length)=true) (h0:Rk ts k0) (h:GL ts k0 i k):i<3*ts.length:=by
  obtain ⟨s,h1,h2,h3,h4⟩:=h.chain
  have ne:∀d a,a+d+1<=i->s a≠s (a+d+1):=λd a=>by
    induction a with
    | zero =>
      intro hd e
      rw [h1,h4 (0+d) Z] at e
      refine h0.2 ?_
      rw [e,Kz]
      exact Qh ho (h3 _ Z)
    | succ a ih =>
      intro hd e
      rw [h4 a Z,show a+1+d+1=(a+d+1)+1 by omega,h4 (a+d+1) Z] at e
      exact ih Z (S7 ho (h3 _ Z) (h3 _ Z) (Sn e))
  have hnd:((List.range (i+1)).map s).Nodup:=by
    refine List.pairwise_map.2 (List.Pairwise.imp_of_mem ?_ List.pairwise_lt_range)
    intro a b ha hb hab
    have:=ne (b-a-1) a (by have:=List.mem_range.1 hb;omega)
    rw [show a+(b-a-1)+1=b by omega] at this
    exact this
  have h5:=Jn (m:=QF ts) hnd λx hx=>by
    obtain ⟨j,hj,rfl⟩:=List.mem_map.1 hx
    exact Lz (h3 j (by have:=List.mem_range.1 hj;omega))
  rw [LN,List.length_map,List.length_range] at h5
  omega
theorem GL.fuel (h:GL ts k0 i k) (f:Nat):Mb ts (f+i) k0=Mb ts f k:=by
  obtain ⟨s,h1,h2,h3,h4⟩:=h.chain
  subst h1 h2
  have key:∀j,j<=i->Mb ts (f+i) (s 0)=Mb ts (f+(i-j)) (s j):=λj=>by
    induction j with
    | zero=>intro _;rfl
    | succ j ih =>
      intro hj
      rw [ih Z,show f+(i-j)=(f+(i-(j+1)))+1 by omega]
      have h5:(BF (Se ts) (Mw (Kf ts (s j)))).isSome=true:=by rw [<-h4 j Z];exact h3 (j+1) hj
      show (if _ then _ else _)=_
      rw [if_pos h5,<-h4 j Z]
  have:=key i (Nat.le_refl _)
  rwa [Nat.sub_self,Nat.add_zero] at this
theorem GL.stop (ho:GO ts (3*ts.length)=true) (h0:Rk ts k0) (h:GL ts k0 i k) (hs:¬(BF (Se ts) (Mw (Kf ts k))).isSome=true):PB ts k0=Kf ts k/\Rk ts (Kf ts k):=by
  have hlt:=h.lt ho h0
  have h1:=h.fuel (3*ts.length-i)
  rw [show 3*ts.length-i+i=3*ts.length by omega,show 3*ts.length-i=(3*ts.length-i-1)+1 by omega] at h1
  have h2:Mb ts (3*ts.length-i-1+1) k=some (Kf ts k):=by
    show (if _ then _ else _)=_
    rw [if_neg hs]
  refine ⟨?_,Qh ho h.isS,hs⟩
  unfold PB
  rw [h1,h2];rfl
theorem Sh (ho:GO ts (3*ts.length)=true) (h0:Rk ts k0):Rk ts (PB ts k0):=by
  have key:∀d i k,3*ts.length-i=d->GL ts k0 i k->Rk ts (PB ts k0):=λd=>by
    induction d with
    | zero=>intro i k hd h;have:=h.lt ho h0;omega
    | succ d ih =>
      intro i k hd h
      by_cases hs:(BF (Se ts) (Mw (Kf ts k))).isSome=true
      · exact ih _ _ Z (h.succ hs)
      · have h1:=h.stop ho h0 hs
        rw [h1.1];exact h1.2
  exact key _ 0 k0 O (GL.zero h0.1)
end
def Uy (ts:List T3):Nat->List (P2×Nat)->P2->List Nat->Option (List (P2×Nat)×List Nat)
  | 0,_,_,_=>none
  | f+1,dn,k,l=>if (BF dn k).getD 0=0 then Uy ts f (Ba dn k 1) (PB ts k) (l++[k.1]) else some (dn,l)
def V4 (ts:List T3) (dn:List (P2×Nat)) (k:P2):List (P2×Nat)×List Nat:=(Uy ts (3*ts.length+1) dn k []).getD ([],[])
structure QG (ts:List T3) (dn:List (P2×Nat)):Prop where
  ok:JL NP dn
  bd:∀k n,BF dn k=some n->Rk ts k/\n=1
section
variable {ts:List T3} {N:Nat} {k k0:P2} {i:Nat} {dn dn0:List (P2×Nat)} {l:List Nat}
theorem QG.nil:QG ts []:=⟨JL.nil,λk n h=>by cases h⟩
theorem QG.len (h:QG ts dn):dn.length<=3*ts.length:=by
  have h1:(dn.map (·.1)).Nodup:=List.pairwise_map.2 (h.ok.once.imp λ{a b} h e=>h e)
  have h2:=Jn (m:=QF ts) h1 λx hx=>by
    obtain ⟨p,hp,rfl⟩:=List.mem_map.1 hx
    obtain ⟨j,hj,h3⟩:=List.getElem_of_mem hp
    exact Lz (h.bd _ _ (H2 (x:=p.1) (v:=p.2) h.ok.once (by rw [List.getElem?_eq_getElem hj,h3]))).1.1
  rwa [LN,List.length_map] at h2
theorem QG.put (h:QG ts dn) (hk:Rk ts k) (hok:NP k):QG ts (Ba dn k 1):=⟨h.ok.put hok,λx n hx=>by
  rw [C_] at hx
  split at hx
  · rename_i e
    injection hx with hx
    rw [e];exact ⟨hk,hx.symm⟩
  · exact h.bd _ _ hx⟩
theorem QG.zero (h:QG ts dn) (e:(BF dn k).getD 0=0):BF dn k=none:=by
  cases hg:BF dn k with
  | none=>rfl
  | some n=>rw [hg,(h.bd _ _ hg).2] at e;cases e
theorem MP {α β:Type} [DecidableEq α] {kvs:List (α×β)} {x:α} {y:β} (h:BF kvs x=none):(Ba kvs x y).length=kvs.length+1:=by
  induction kvs with
  | nil=>rfl
  | cons p r ih =>
    obtain ⟨k,v⟩:=p
    unfold BF at h
    split at h
    · cases h
    · rename_i e
      unfold Ba
      rw [if_neg e,List.length_cons,ih h];rfl
theorem Tw (hn:CU N ts=true) (hN:N<=4611686018427387904) (h:isS ts k):NP k:=by
  obtain ⟨u,hu,rfl⟩:=F2.1 h
  have:=Km hn hu
  exact ⟨Z,Z⟩
structure Q9 (ts:List T3) (dn0:List (P2×Nat)) (k0:P2) (i:Nat) (dn:List (P2×Nat)) (k:P2) (l:List Nat):Prop where
  fuel:∀f,Uy ts (f+i) dn0 k0 []=Uy ts f dn k l
  bd:Rk ts k
  di:QG ts dn
  len:dn.length=dn0.length+i
  ll:l.length=i
  at0:i=0->dn=dn0/\k=k0
theorem Q9.zero (h:QG ts dn0) (hb:Rk ts k0):Q9 ts dn0 k0 0 dn0 k0 []:=⟨λ_=>rfl,hb,h,rfl,rfl,λ_=>⟨rfl,rfl⟩⟩
theorem Q9.succ (hn:CU N ts=true) (hN:N<=4611686018427387904) (ho:GO ts (3*ts.length)=true) (h:Q9 ts dn0 k0 i dn k l) (e:(BF dn k).getD 0=0):Q9 ts dn0 k0 (i+1) (Ba dn k 1) (PB ts k) (l++[k.1]) :=
  ⟨λf=>by
    rw [show f+(i+1)=f+1+i by omega,h.fuel (f+1)]
    show (if _ then _ else _)=_
    rw [if_pos e],Sh ho h.bd,h.di.put h.bd (Tw hn hN h.bd.1),by rw [MP (h.di.zero e),h.len];omega,by rw [List.length_append,h.ll];rfl,λh=>by omega⟩
theorem Q9.le (h:Q9 ts dn0 k0 i dn k l):i<=3*ts.length:=by
  have h1:=h.di.len
  have:=h.len
  omega
theorem Q9.lt (hn:CU N ts=true) (hN:N<=4611686018427387904) (ho:GO ts (3*ts.length)=true) (h:Q9 ts dn0 k0 i dn k l) (e:(BF dn k).getD 0=0):i<3*ts.length:=by
  have:=(h.succ hn hN ho e).le
  omega
theorem Q9.stop (h:Q9 ts dn0 k0 i dn k l) (e:¬(BF dn k).getD 0=0):V4 ts dn0 k0=(dn,l):=by
  have h1:=h.fuel (3*ts.length+1-i)
  have:=h.le
  rw [show 3*ts.length+1-i+i=3*ts.length+1 by omega,show 3*ts.length+1-i=(3*ts.length-i)+1 by omega] at h1
  have h2:Uy ts (3*ts.length-i+1) dn k l=some (dn,l):=by
    show (if _ then _ else _)=_
    rw [if_neg e]
  unfold V4
  rw [h1,h2];rfl
end
section
variable {ts:List T3} {N i:Nat} {dn dn2:List (P2×Nat)} {wq:T3} {l:List Nat}
end
end
section
section
variable {ps:List Pt} {ts:List T3}
end
end
section
def Ln (ps:List Pt) (s t:T3):Prop:=∃(u:Pt) (k:Rat),u≠⟨0,0⟩/\Vh u k (B9 ps s.1) (B9 ps s.2.1) (B9 ps s.2.2) (B9 ps t.1) (B9 ps t.2.1) (B9 ps t.2.2)
theorem Ln.symm {ps:List Pt} {s t:T3} (h:Ln ps s t):Ln ps t s:=by
  obtain ⟨u,k,hu,⟨h1,h2,h3⟩,h4,h5,h6⟩:=h
  have ng:∀a,dt ⟨-u.x,-u.y⟩ a = -dt u a:=λa=>by unfold dt;grind
  refine ⟨⟨-u.x,-u.y⟩,-k,λe=>hu ?_,⟨?_,?_,?_⟩,?_,?_,?_⟩
  · obtain ⟨x,y⟩:=u
    injection e with e1 e2
    simp only at e1 e2
    rw [show x=0 by grind,show y=0 by grind]
  all_goals rw [ng];grind
section
variable {ps:List Pt} {ts:List T3}
end
end
def VG (md:List (P2×Nat)):Nat->T3->List T3
  | 0,c=>[c]
  | d+1,c=>match BF md (L7 c) with
    | none=>[c]
    | some n=>VG md d (n,c.1,c.2.1)++VG md d (n,c.2.2,c.1)
def WO (n p:Nat):List Nat:=List.replicate n p
section
section
variable {N:Nat} {es:List E4} {T:T3}
end
end
section
section
variable {m:MQ} {ts:List T3} {a b N:Nat}
end
end
end Go.Proofs.YtfbomiejpbchdaaGreatDoor
