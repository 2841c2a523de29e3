import Derived.Test.YtbfdamnfcmefmaaGreatDoorPend39
namespace Go.Proofs.YtbfdamnfcmefmaaGreatDoor
open Go Go.RowKit Go.Proofs.Tryz
open Go.Value renaming slice→qz,bool→qa
set_option linter.unusedVariables false
set_option linter.unusedSimpArgs false
section
section
variable {a b c d e f g p q x X:Pt}
theorem MJ (a b c p q x:Pt):AC a b c*AC p q x=AC b c x*AC p q a+AC c a x*AC p q b+AC a b x*AC p q c:=by simp only [BC];grind
theorem OD {D y:Rat} (hD:0<D) (h:0<=D*y):0<=y:=by
  by_cases k:0<=y
  · exact k
  · have:=Rat.mul_pos hD (show 0 < -y by grind);grind
theorem Qn {D y:Rat} (hD:0<D) (h:0<D*y):0<y:=by
  by_cases k:0<y
  · exact k
  · have:=Rat.mul_nonneg (Rat.le_of_lt hD) (show 0 <= -y by grind);grind
structure Qd (a b c d:Pt):Prop where
  l:0<AC a b c
  r:0<AC b a d
  n:0<AC a d c
  m:0<AC d b c
theorem Qd.sw (h:Qd a b c d):Qd b a d c:=⟨h.r,h.l,by rw [BZ d b c];exact h.m,by rw [<-BZ c a d];exact h.n⟩
theorem Qd.facts (h:Qd a b c d):0<AC b c a/\0<AC c a b/\0<AC a d b/\0<AC d b a/\0<AC d c a/\0<AC c a d/\0<AC b c d/\0<AC c d b:=by
  have h1:=h.l;have h2:=h.r;have h3:=h.n;have h4:=h.m
  refine ⟨?_,?_,?_,?_,?_,?_,?_,?_⟩<;>(simp only [BC] at *;grind)
theorem KV (h:Qd a b c d) (hx:¬ER a d c x):¬ER a b c x\/¬ER b a d x:=by
  obtain ⟨f1,f2,f3,f4,f5,f6,f7,f8⟩:=h.facts
  have hn:=h.n
  unfold ER at *
  have n1:0<=AC a d x:=by grind
  have n2:0<=AC d c x:=by grind
  have n3:0<=AC c a x:=by grind
  by_cases k:0<=AC a b x
  · left
    have e:=MJ a d c b c x
    rw [G_,Rat.mul_zero,Rat.add_zero] at e
    have k1:=Rat.mul_nonneg n2 (Rat.le_of_lt f1)
    have k2:=Rat.mul_nonneg n3 (Rat.le_of_lt f7)
    have k3:=OD hn (show 0<=AC a d c*AC b c x by grind)
    grind
  · right
    have e:=MJ a d c d b x
    rw [GW,Rat.mul_zero,Rat.add_zero] at e
    have k1:=Rat.mul_nonneg n2 (Rat.le_of_lt f4)
    have k2:=Rat.mul_nonneg n1 (Rat.le_of_lt h.m)
    have k3:=OD hn (show 0<=AC a d c*AC d b x by grind)
    have k4:=He a b x
    grind
theorem R2 (h:Qd a b c d) (hx:Ho a d c x):(0<AC a b x->Ho a b c x)/\(AC a b x<0->Ho b a d x):=by
  obtain ⟨f1,f2,f3,f4,f5,f6,f7,f8⟩:=h.facts
  have hn:=h.n
  unfold Ho at *
  obtain ⟨n1,n2,n3⟩:=hx
  constructor
  · intro k
    have e:=MJ a d c b c x
    rw [G_,Rat.mul_zero,Rat.add_zero] at e
    have k1:=Rat.mul_pos n2 f1
    have k2:=Rat.mul_pos n3 f7
    exact ⟨k,Qn hn (by rw [e];grind),n3⟩
  · intro k
    have e:=MJ a d c d b x
    rw [GW,Rat.mul_zero,Rat.add_zero] at e
    have k1:=Rat.mul_pos n2 f4
    have k2:=Rat.mul_pos n1 h.m
    have k4:=He a b x
    exact ⟨by grind,n1,Qn hn (by rw [e];grind)⟩
theorem cY (h:Ho e f g X) (c:Pt):∃t,0<t/\t<1/\Ho e f g (bO X c t):=by
  obtain ⟨h1,h2,h3⟩:=h
  have half:(0:Rat)<1/2/\(1:Rat)/2<1:=by constructor<;>decide +kernel
  by_cases k:ER e f g c
  · obtain ⟨t,t0,t1,n1,n2,n3,_⟩:=br h1 h2 h3 k
    refine ⟨t*(1/2),Rat.mul_pos t0 half.1,by grind,?_⟩
    unfold Ho
    rw [Df,Df,Df]
    exact ⟨by grind,by grind,by grind⟩
  · unfold ER at k
    refine ⟨1/2,half.1,half.2,?_⟩
    unfold Ho
    rw [Df,Df,Df]
    exact ⟨by grind,by grind,by grind⟩
theorem Jl (h:Qd a b c d) (hx:Ho a d c X) (hy:Ho e f g X):(∃Y,Ho a b c Y/\Ho e f g Y)\/∃Y,Ho b a d Y/\Ho e f g Y:=by
  obtain ⟨q1,q2⟩:=R2 h hx
  by_cases k1:0<AC a b X
  · exact .inl ⟨X,q1 k1,hy⟩
  · by_cases k2:AC a b X<0
    · exact .inr ⟨X,q2 k2,hy⟩
    · obtain ⟨t,t0,t1,ht⟩:=cY hy c
      have hz:Ho a d c (bO X c t):=by
        obtain ⟨n1,n2,n3⟩:=hx
        unfold Ho
        rw [Df,Df,Df,G_,GW]
        have m1:=Rat.mul_pos (show 0<1-t by grind) n1
        have m2:=Rat.mul_pos (show 0<1-t by grind) n2
        have m3:=Rat.mul_pos (show 0<1-t by grind) n3
        have m4:=Rat.mul_pos t0 h.n
        exact ⟨by grind,by grind,by grind⟩
      refine .inl ⟨bO X c t,(R2 h hz).1 ?_,ht⟩
      rw [Df,show AC a b X=0 by grind]
      have m4:=Rat.mul_pos t0 h.l
      grind
theorem UR (hB:0<AC d e f) (h:Fl a b c d e f) (hx:Ho a b c X) (hy:Ho d e f X):False:=by
  obtain ⟨g,hg,g1,g2,g3⟩:=h.ex
  have k:0<tv g X:=by
    obtain ⟨i1,i2,i3⟩:=hx
    rcases N_.1 hg with rfl|rfl|rfl<;>assumption
  obtain ⟨i1,i2,i3⟩:=hy
  have hb:=MJ d e f g.1 g.2 X
  have m0:=Rat.mul_pos hB k
  have m1:=Rat.mul_nonneg (Rat.le_of_lt i2) (show 0 <= - tv g d by grind)
  have m2:=Rat.mul_nonneg (Rat.le_of_lt i3) (show 0 <= - tv g e by grind)
  have m3:=Rat.mul_nonneg (Rat.le_of_lt i1) (show 0 <= - tv g f by grind)
  unfold tv at *
  grind
theorem RG (hA:0<AC a b c) (hB:0<AC d e f):(Fl a b c d e f\/Fl d e f a b c)↔¬∃X,Ho a b c X/\Ho d e f X:=by
  constructor
  · rintro (h|h) ⟨X,h1,h2⟩
    · exact UR hB h h1 h2
    · exact UR hA h h2 h1
  · intro h
    exact Classical.byContradiction λk=>h (Zz hA hB (λl=>k (.inl l)) λl=>k (.inr l))
theorem Rr (h:Qd a b c d) (hT:0<AC c d x) (h1:Fl a b c c d x\/Fl c d x a b c) (h2:Fl b a d c d x\/Fl c d x b a d):False:=by
  obtain ⟨f1,f2,f3,f4,f5,f6,f7,f8⟩:=h.facts
  have hl:=h.l;have hr:=h.r;have hn:=h.n;have hm:=h.m
  have c1:=BZ c d x
  have c2:=BZ d x c
  have s1:AC c d a = - AC d c a:=He d c a
  have sum:AC c d a+AC d x a+AC x c a=AC c d x:=by simp only [BC];grind
  have t1:AC d x c=AC c d x:=c1
  have t2:AC x c d=AC c d x:=c2.trans c1
  have k1:AC x c a<=0:=by
    unfold Fl at h1
    rcases h1 with (⟨y1,y2,y3⟩|⟨y1,y2,y3⟩|⟨y1,y2,y3⟩)|(⟨y1,y2,y3⟩|⟨y1,y2,y3⟩|⟨y1,y2,y3⟩)<;>grind
  have k2:AC d x a<=0:=by
    unfold Fl at h2
    rcases h2 with (⟨y1,y2,y3⟩|⟨y1,y2,y3⟩|⟨y1,y2,y3⟩)|(⟨y1,y2,y3⟩|⟨y1,y2,y3⟩|⟨y1,y2,y3⟩)<;>grind
  grind
theorem Yi (hA:0<AC a b c) (hB:0<AC a b d) (h:Fl a b c a b d\/Fl a b d a b c):False:=by
  have c1:=BZ a b c
  have c2:=BZ b c a
  have c3:=BZ a b d
  have c4:=BZ b d a
  unfold Fl at h
  rcases h with (⟨y1,y2,y3⟩|⟨y1,y2,y3⟩|⟨y1,y2,y3⟩)|(⟨y1,y2,y3⟩|⟨y1,y2,y3⟩|⟨y1,y2,y3⟩)<;>grind
theorem SP (hl:0<AC a b c) (hr:0<AC b a d) (hc:0<Fq a b c d):0<AC a d c/\0<AC d b c:=by
  have sq:∀u v:Pt,0<=B0 (u-v) (u-v):=λu v=>by
    rw [HJ]
    have e1:∀z:Rat,0<=z*z:=λz=>by
      by_cases h:0<=z
      · exact Rat.mul_nonneg h h
      · have:=Rat.mul_nonneg (show 0 <= -z by grind) (show 0 <= -z by grind);grind
    have:=e1 (u-v).x;have:=e1 (u-v).y;grind
  have i1:Fq a b c d=B0 (b-a) (b-a)*AC a d c-B0 (c-a) (c-a)*AC b a d-B0 (d-a) (d-a)*AC a b c:=by
    unfold Fq;simp only [HJ,HI,BC,Pc,Pd];grind
  have i2:Fq a b c d=B0 (a-b) (a-b)*AC d b c-B0 (c-b) (c-b)*AC b a d-B0 (d-b) (d-b)*AC a b c:=by
    unfold Fq;simp only [HJ,HI,BC,Pc,Pd];grind
  constructor
  · by_cases k:0<AC a d c
    · exact k
    · have m1:=Rat.mul_nonneg (sq b a) (show 0 <= - AC a d c by grind)
      have m2:=Rat.mul_nonneg (sq c a) (Rat.le_of_lt hr)
      have m3:=Rat.mul_nonneg (sq d a) (Rat.le_of_lt hl)
      grind
  · by_cases k:0<AC d b c
    · exact k
    · have m1:=Rat.mul_nonneg (sq a b) (show 0 <= - AC d b c by grind)
      have m2:=Rat.mul_nonneg (sq c b) (Rat.le_of_lt hr)
      have m3:=Rat.mul_nonneg (sq d b) (Rat.le_of_lt hl)
      grind
end
def Iv (ps:List Pt) (t:T3) (X:Pt):Prop:=Ho (cor ps t.1) (cor ps t.2.1) (cor ps t.2.2) X
section
variable {ps:List Pt} {ts ss:List T3} {e:E4} {p q c d:Nat}
theorem PM (hP:E_ ps ts) {i k:Nat} (hi:i<ts.length) (hk:k<ts.length):RB ps ts i k↔¬∃X,Iv ps (ts.getD i (0,0,0)) X/\Iv ps (ts.getD k (0,0,0)) X:=by
  unfold Iv
  rw [<-RG (G1.1 (hP.pos i hi)) (G1.1 (hP.pos k hk))]
  unfold RB Bd
  rw [xZ,xW,xW,On,On]
theorem Hb {N:Nat} {t:T3} {a b c:Nat} (h:Mj N t a b c) {X:Pt}:Iv ps t X↔Ho (cor ps a) (cor ps b) (cor ps c) X:=by
  unfold Iv
  rcases h.w with ⟨e1,e2,e3⟩|⟨e1,e2,e3⟩|⟨e1,e2,e3⟩<;>rw [e1,e2,e3]
  · exact ⟨λk=>k.rot,λk=>k.rot.rot⟩
  · exact ⟨λk=>k.rot.rot,λk=>k.rot⟩
theorem GT {N:Nat} {t:T3} {a b c x:Nat} (h:Mj N t a b c):B4 t x=true↔x=a\/x=b\/x=c:=by
  rw [LH];have:=h.w;omega
theorem L7 (hP:E_ ps ts) (h:IJ ps.length ts e p q c d) (hf:Db ps e.a e.b c d=true):Qd (cor ps e.a) (cor ps e.b) (cor ps c) (cor ps d):=by
  unfold Db at hf
  rw [yz,xV,xV,G1,G1] at hf
  refine ⟨?_,?_,hf.1,hf.2⟩
  · rw [<-(Do h.sc ps).2];exact G1.1 (hP.pos p h.pl)
  · rw [<-(Do h.sd ps).2];exact G1.1 (hP.pos q h.ql)
theorem D5 (h:IJ ps.length ts e p q c d) (j:Nat):(CF ts e.a e.b p q c d).getD j (0,0,0)=if q=j then (d,e.b,c) else if p=j then (e.a,d,c) else ts.getD j (0,0,0):=by
  unfold CF
  rw [DV (by rw [List.length_set];exact h.ql),DV h.pl]
theorem KF (hP:E_ ps ts) (h:IJ ps.length ts e p q c d) (hf:Db ps e.a e.b c d=true):E_ ps (CF ts e.a e.b p q c d):=by
  unfold Db at hf
  rw [yz,xV,xV] at hf
  have hpos:∀k,k<(CF ts e.a e.b p q c d).length->(AC (cor ps ((CF ts e.a e.b p q c d).getD k (0,0,0)).1) (cor ps ((CF ts e.a e.b p q c d).getD k (0,0,0)).2.1) (cor ps ((CF ts e.a e.b p q c d).getD k (0,0,0)).2.2)).num.sign=1/\Ig ps.length ((CF ts e.a e.b p q c d).getD k (0,0,0))=true:=λk hk=>by
    rw [Ca] at hk
    rw [D5 h]
    split
    · exact ⟨hf.2,KP h.sd.c h.sc.b h.sc.c hf.2⟩
    · split
      · exact ⟨hf.1,KP h.sc.a h.sd.c h.sc.c hf.1⟩
      · exact ⟨hP.pos k hk,Bw hP.num hk⟩
  exact ⟨Rs λk hk=>(hpos k hk).2,λk hk=>(hpos k hk).1⟩
theorem VB (hP:E_ ps ts) (h:IJ ps.length ts e p q c d) (hf:Db ps e.a e.b c d=true) {j:Nat} (hj:j=p\/j=q) {t:T3} {X:Pt} (h1:Iv ps ((CF ts e.a e.b p q c d).getD j (0,0,0)) X) (h2:Iv ps t X):∃k Y,(k=p\/k=q)/\Iv ps (ts.getD k (0,0,0)) Y/\Iv ps t Y:=by
  have hq:=L7 hP h hf
  have hne:=h.ne
  rw [D5 h] at h1
  rcases hj with rfl|rfl
  · rw [if_neg (λk=>hne k.symm),if_pos rfl] at h1
    rcases Jl hq h1 h2 with ⟨Y,y1,y2⟩|⟨Y,y1,y2⟩
    · exact ⟨_,Y,.inl O,(Hb h.sc).2 y1,y2⟩
    · exact ⟨_,Y,.inr O,(Hb h.sd).2 y1,y2⟩
  · rw [if_pos rfl] at h1
    have h1:Ho (cor ps d) (cor ps e.b) (cor ps c) X:=h1
    rcases Jl hq.sw h1.rot h2 with ⟨Y,y1,y2⟩|⟨Y,y1,y2⟩
    · exact ⟨_,Y,.inr O,(Hb h.sd).2 y1,y2⟩
    · exact ⟨_,Y,.inl O,(Hb h.sc).2 y1,y2⟩
theorem VC (hP:E_ ps ts) (ha:NP ps ts) (h:IJ ps.length ts e p q c d) (hf:Db ps e.a e.b c d=true) {i k:Nat} (hi:i<ts.length) (hk:k<ts.length) (hik:i≠k):RB ps (CF ts e.a e.b p q c d) i k:=by
  have hP2:=KF hP h hf
  have hpq:=h.ne
  rw [PM hP2 (by rw [Ca];exact hi) (by rw [Ca];exact hk)]
  rintro ⟨X,h1,h2⟩
  have old:∀i k,i<ts.length->k<ts.length->i≠k->∀X,Iv ps (ts.getD i (0,0,0)) X->Iv ps (ts.getD k (0,0,0)) X->False:=λi k hi hk hik X y1 y2=>by
    rcases Nat.lt_or_ge k i with l|l
    · exact (PM hP hi hk).1 ((ha i hi).1 k l) ⟨X,y1,y2⟩
    · exact (PM hP hk hi).1 ((ha k hk).1 i Z) ⟨X,y2,y1⟩
  have oth:∀j,j≠p->j≠q->(CF ts e.a e.b p q c d).getD j (0,0,0)=ts.getD j (0,0,0):=λj y1 y2=>by rw [D5 h,if_neg (λk=>y2 k.symm),if_neg (λk=>y1 k.symm)]
  by_cases ii:i=p\/i=q
  · by_cases kk:k=p\/k=q
    · have ha':∀{X:Pt},Iv ps ((CF ts e.a e.b p q c d).getD p (0,0,0)) X->Iv ps ((CF ts e.a e.b p q c d).getD q (0,0,0)) X->False:=λ{X} y1 y2=>by
        rw [D5 h,if_neg (λk=>hpq k.symm),if_pos rfl] at y1
        rw [D5 h,if_pos rfl] at y2
        have z1:0<AC (cor ps d) (cor ps c) X:=y1.2.1
        have z2:0<AC (cor ps c) (cor ps d) X:=y2.2.2
        rw [He] at z2;grind
      rcases ii with rfl|rfl<;>rcases kk with rfl|rfl
      · exact hik O
      · exact ha' h1 h2
      · exact ha' h2 h1
      · exact hik O
    · rw [oth k (λl=>kk (.inl l)) (λl=>kk (.inr l))] at h2
      obtain ⟨m,Y,hm,y1,y2⟩:=VB hP h hf ii h1 h2
      rcases hm with rfl|rfl
      · exact old _ _ h.pl hk (λl=>kk (.inl l.symm)) Y y1 y2
      · exact old _ _ h.ql hk (λl=>kk (.inr l.symm)) Y y1 y2
  · rw [oth i (λl=>ii (.inl l)) (λl=>ii (.inr l))] at h1
    by_cases kk:k=p\/k=q
    · obtain ⟨m,Y,hm,y1,y2⟩:=VB hP h hf kk h2 h1
      rcases hm with rfl|rfl
      · exact old _ _ h.pl hi (λl=>ii (.inl l.symm)) Y y1 y2
      · exact old _ _ h.ql hi (λl=>ii (.inr l.symm)) Y y1 y2
    · rw [oth k (λl=>kk (.inl l)) (λl=>kk (.inr l))] at h2
      exact old i k hi hk hik X h1 h2
theorem X6 (hP:E_ ps ts) (ha:NP ps ts) (h:IJ ps.length ts e p q c d) (hf:Db ps e.a e.b c d=true) {i x:Nat} (hi:i<ts.length) (hx:x<ps.length):Zb ps (CF ts e.a e.b p q c d) i x:=by
  have hq:=L7 hP h hf
  obtain ⟨f1,f2,f3,f4,f5,f6,f7,f8⟩:=hq.facts
  have hpq:=h.ne
  have hl:=hq.l;have hr:=hq.r
  unfold Zb
  intro hh
  have out:∀{a b c j:Nat},Mj ps.length (ts.getD j (0,0,0)) a b c->j<ts.length->x≠a->x≠b->x≠c->0<AC (cor ps a) (cor ps b) (cor ps c)->ER (cor ps a) (cor ps b) (cor ps c) (cor ps x):=λ{a b c j} hs hj n1 n2 n3 hp=>by
    have k:=(ha j hj).2 x hx (by rw [Bool.eq_false_iff];intro y;rcases (GT hs).1 y with z|z|z<;>contradiction)
    have k2:=(IF (G1.1 (hP.pos j hj))).1 k
    rcases hs.w with ⟨e1,e2,e3⟩|⟨e1,e2,e3⟩|⟨e1,e2,e3⟩<;>rw [e1,e2,e3] at k2
    · exact k2
    · exact k2.rot
    · exact k2.rot.rot
  rw [D5 h] at hh ⊢
  by_cases iq:q=i
  · subst iq
    rw [if_pos rfl] at hh ⊢
    have n:x≠d/\x≠e.b/\x≠c:=by
      refine ⟨λk=>?_,λk=>?_,λk=>?_⟩<;>(rw [Bool.eq_false_iff] at hh;apply hh;rw [LH];simp [k])
    show IE (cor ps d) (cor ps e.b) (cor ps c) (cor ps x)=0
    rw [IF hq.m]
    by_cases k:x=e.a
    · rw [k];right;right;show AC (cor ps c) (cor ps d) (cor ps e.a)<0;rw [He];grind
    · refine Classical.byContradiction λno=>?_
      have no2:¬ER (cor ps e.b) (cor ps c) (cor ps d) (cor ps x):=λy=>no y.rot.rot
      rcases KV hq.sw no2 with y|y
      · exact y (out h.sd h.ql n.2.1 k n.1 hr)
      · exact y (out h.sc h.pl k n.2.1 n.2.2 hl)
  · rw [if_neg iq] at hh ⊢
    by_cases ip:p=i
    · subst ip
      rw [if_pos rfl] at hh ⊢
      have n:x≠e.a/\x≠d/\x≠c:=by
        refine ⟨λk=>?_,λk=>?_,λk=>?_⟩<;>(rw [Bool.eq_false_iff] at hh;apply hh;rw [LH];simp [k])
      show IE (cor ps e.a) (cor ps d) (cor ps c) (cor ps x)=0
      rw [IF hq.n]
      by_cases k:x=e.b
      · rw [k];right;left;show AC (cor ps d) (cor ps c) (cor ps e.b)<0;rw [He];grind
      · refine Classical.byContradiction λno=>?_
        rcases KV hq no with y|y
        · exact y (out h.sc h.pl n.1 k n.2.2 hl)
        · exact y (out h.sd h.ql k n.1 n.2.1 hr)
    · rw [if_neg ip] at hh ⊢
      exact (ha i hi).2 x hx hh
theorem X8 (h:IJ ps.length ts e p q c d) (hu:Zn ps.length ts):Zn ps.length (CF ts e.a e.b p q c d):=λx hx=>by
  obtain ⟨j,hj,hh⟩:=hu x hx
  have hpq:=h.ne
  have gp:(CF ts e.a e.b p q c d).getD p (0,0,0)=(e.a,d,c):=by rw [D5 h,if_neg (λk=>hpq k.symm),if_pos rfl]
  have gq:(CF ts e.a e.b p q c d).getD q (0,0,0)=(d,e.b,c):=by rw [D5 h,if_pos rfl]
  have hp2:p<(CF ts e.a e.b p q c d).length:=by rw [Ca];exact h.pl
  have hq2:q<(CF ts e.a e.b p q c d).length:=by rw [Ca];exact h.ql
  have four:x=e.a\/x=e.b\/x=c\/x=d->∃j,j<(CF ts e.a e.b p q c d).length/\B4 ((CF ts e.a e.b p q c d).getD j (0,0,0)) x=true:=λk=>by
    rcases k with k|k|k|k
    · exact ⟨p,hp2,by rw [gp,LH];exact .inl k⟩
    · exact ⟨q,hq2,by rw [gq,LH];exact .inr (.inl k)⟩
    · exact ⟨p,hp2,by rw [gp,LH];exact .inr (.inr k)⟩
    · exact ⟨p,hp2,by rw [gp,LH];exact .inr (.inl k)⟩
  by_cases jp:p=j
  · subst jp
    rcases (GT h.sc).1 hh with k|k|k
    · exact four (.inl k)
    · exact four (.inr (.inl k))
    · exact four (.inr (.inr (.inl k)))
  · by_cases jq:q=j
    · subst jq
      rcases (GT h.sd).1 hh with k|k|k
      · exact four (.inr (.inl k))
      · exact four (.inl k)
      · exact four (.inr (.inr (.inr k)))
    · exact ⟨j,by rw [Ca];exact hj,by rw [D5 h,if_neg jq,if_neg jp];exact hh⟩
end
end
section
def c3 (t:T3) (k:P2):Nat:=List.count k [B5 t.1 t.2.1,B5 t.2.1 t.2.2,B5 t.2.2 t.1]
theorem IR (t:T3) (ts:List T3) (k:P2):(Ep (t::ts)).count k=c3 t k+(Ep ts).count k:=by
  unfold Ep c3
  rw [List.flatMap_cons,List.count_append]
theorem Nc:∀{ts:List T3} {p:Nat} {t:T3} (k:P2),p<ts.length->(Ep (ts.set p t)).count k+c3 (ts.getD p (0,0,0)) k=(Ep ts).count k+c3 t k
  | [],p,t,k,h=>absurd h (Nat.not_lt_zero _)
  | x::r,0,t,k,_=>by
    rw [List.set_cons_zero,IR,IR];show _+c3 x k=_;omega
  | x::r,p+1,t,k,h=>by
    have ih:=Nc (ts:=r) (p:=p) (t:=t) k (by simpa using h)
    rw [List.set_cons_succ,IR,IR]
    show _+c3 (r.getD p (0,0,0)) k=_
    omega
theorem aE (a b:Nat):B5 a b=B5 b a:=by unfold B5;rw [Nat.min_comm,Nat.max_comm]
def dk (a b:Nat) (k:P2):Nat:=if B5 a b=k then 1 else 0
theorem UZ (a b c:Nat) (k:P2):c3 (a,b,c) k=dk a b k+dk b c k+dk c a k:=by
  unfold c3 dk
  simp only [List.count_cons,List.count_nil,beq_iff_eq]
  omega
theorem RY (a b:Nat) (k:P2):dk a b k=dk b a k:=by unfold dk;rw [aE]
theorem Ua {N:Nat} {t:T3} {a b c:Nat} (h:Mj N t a b c) (k:P2):c3 t k=dk a b k+dk b c k+dk c a k:=by
  obtain ⟨x,y,z⟩:=t
  rw [UZ]
  rcases h.w with ⟨e1,e2,e3⟩|⟨e1,e2,e3⟩|⟨e1,e2,e3⟩<;>(simp only at e1 e2 e3;subst e1 e2 e3;omega)
theorem KY {N:Nat} {ts:List T3} (hn:Ba N ts=true) {u a b:Nat} (hu:u<3*ts.length) (h3:CC ts u=(a,b)):∃c,Mj N (ts.getD (u/3) (0,0,0)) a b c:=by
  have hk:=Bw hn (show u/3<ts.length by omega)
  unfold CC at h3
  generalize ts.getD (u/3) (0,0,0)=T at h3 hk
  obtain ⟨p,q,r⟩:=T
  simp only [Ig,yz,xX,xV,xU] at hk
  obtain ⟨⟨⟨⟨⟨g1,g2⟩,g3⟩,g4⟩,g5⟩,g6⟩:=hk
  have h4:u%3<3:=Nat.mod_lt _ jY
  generalize u%3=s at h3 h4
  injection h3 with e1 e2
  rcases (by omega:s=0\/s=1\/s=2) with rfl|rfl|rfl<;>simp [FW] at e1 e2<;>subst e1 e2
  · exact ⟨r,⟨.inl ⟨rfl,rfl,rfl⟩,g4,g5,g6,g1,g2,g3⟩⟩
  · exact ⟨p,⟨.inr (.inl ⟨rfl,rfl,rfl⟩),g5,g6,g4,g2,g3,g1⟩⟩
  · exact ⟨q,⟨.inr (.inr ⟨rfl,rfl,rfl⟩),g6,g4,g5,g3,g1,g2⟩⟩
section
variable {ps:List Pt} {ts ss:List T3} {e:E4} {p q c d:Nat}
theorem DL (hP:E_ ps ts) {j a b c:Nat} (hj:j<ts.length) (h:Mj ps.length (ts.getD j (0,0,0)) a b c):0<AC (cor ps a) (cor ps b) (cor ps c):=by
  rw [<-(Do h ps).2];exact G1.1 (hP.pos j hj)
theorem FO (hP:E_ ps ts) (ha:NP ps ts) {i k a b c a' b' c':Nat} (hi:i<ts.length) (hk:k<ts.length) (hik:i≠k) (h1:Mj ps.length (ts.getD i (0,0,0)) a b c) (h2:Mj ps.length (ts.getD k (0,0,0)) a' b' c') :
    Fl (cor ps a) (cor ps b) (cor ps c) (cor ps a') (cor ps b') (cor ps c')\/Fl (cor ps a') (cor ps b') (cor ps c') (cor ps a) (cor ps b) (cor ps c):=by
  rw [RG (DL hP hi h1) (DL hP hk h2)]
  rintro ⟨X,x1,x2⟩
  have y1:=(Hb h1).2 x1
  have y2:=(Hb h2).2 x2
  rcases Nat.lt_or_ge k i with l|l
  · exact (PM hP hi hk).1 ((ha i hi).1 k l) ⟨X,y1,y2⟩
  · exact (PM hP hk hi).1 ((ha k hk).1 i Z) ⟨X,y2,y1⟩
theorem ZB (hn:Ba ps.length ts=true) {u v:Nat} (hu:u<3*ts.length) (hd:u/3=v/3) (h:CC ts u=CC ts v):u=v:=by
  have hk:=Bw hn (show u/3<ts.length by omega)
  unfold CC at h
  rw [<-hd] at h
  generalize ts.getD (u/3) (0,0,0)=T at h hk
  obtain ⟨p,q,r⟩:=T
  simp only [Ig,yz,xX,xV,xU] at hk
  obtain ⟨⟨⟨⟨⟨g1,g2⟩,g3⟩,g4⟩,g5⟩,g6⟩:=hk
  have h4:u%3<3:=Nat.mod_lt _ jY
  have h5:v%3<3:=Nat.mod_lt _ jY
  have h6:u%3=v%3:=by
    generalize u%3=s at h h4 ⊢
    generalize v%3=t at h h5 ⊢
    injection h with e1 e2
    rcases (by omega:s=0\/s=1\/s=2) with rfl|rfl|rfl<;>rcases (by omega:t=0\/t=1\/t=2) with rfl|rfl|rfl<;>simp [FW] at e1 e2 ⊢<;>omega
  omega
theorem W2 (hP:E_ ps ts) (ha:NP ps ts) {u v:Nat} (hu:u<3*ts.length) (hv:v<3*ts.length) (h:CC ts u=CC ts v):u=v:=by
  by_cases hd:u/3=v/3
  · exact ZB hP.num hu hd h
  · exfalso
    obtain ⟨x,hx⟩:=KY hP.num hu (a:=(CC ts u).1) (b:=(CC ts u).2) rfl
    obtain ⟨y,hy⟩:=KY hP.num hv (a:=(CC ts u).1) (b:=(CC ts u).2) h.symm
    exact Yi (DL hP Z hx) (DL hP Z hy) (FO hP ha Z Z hd hx hy)
theorem Ww {α:Type} {x y:α}:∀{l:List α},l.Nodup->(∀z∈l,z=x\/z=y)->l.length<=2
  | [],_,_=>by simp
  | [a],_,_=>by simp
  | [a,b],_,_=>by simp
  | a::b::c::r,hd,h=>by
    exfalso
    rw [List.nodup_cons,List.nodup_cons] at hd
    have h1:=h a jX
    have h2:=h b jX
    have h3:=h c jX
    have n1:a≠b:=λe=>hd.1 (by simp [e])
    have n2:a≠c:=λe=>hd.1 (by simp [e])
    have n3:b≠c:=λe=>hd.2.1 (by simp [e])
    rcases h1 with rfl|rfl<;>rcases h2 with rfl|rfl<;>rcases h3 with rfl|rfl<;>first|exact n1 rfl|exact n2 rfl|exact n3 rfl
theorem Zy (hP:E_ ps ts) (ha:NP ps ts) (k:P2):(Ep ts).count k<=2:=by
  rw [<-GD,List.count_eq_length_filter,List.filter_map,xK]
  have h1:((List.range (3*ts.length)).filter ((λx=>x == k)∘IZ ts)).Nodup:=List.Pairwise.filter _ (show (List.range (3*ts.length)).Pairwise (·≠·) from List.nodup_range)
  rw [<-xK (f:=CC ts)]
  refine Ww (x:=k) (y:=(k.2,k.1)) ?_ λz hz=>?_
  · unfold List.Nodup
    rw [List.pairwise_map]
    refine List.Pairwise.imp_of_mem ?_ h1
    intro u v hu hv hne e
    exact hne (W2 hP ha (List.mem_range.1 (List.mem_filter.1 hu).1) (List.mem_range.1 (List.mem_filter.1 hv).1) e)
  · obtain ⟨u,hu,rfl⟩:=List.mem_map.1 hz
    have h2:IZ ts u=k:=by simpa using (List.mem_filter.1 hu).2
    unfold IZ B5 at h2
    rw [<-h2]
    rcases Nat.lt_or_ge (CC ts u).1 (CC ts u).2 with h|h
    · left;exact Prod.ext (by simp only;omega) (by simp only;omega)
    · right;exact Prod.ext (by simp only;omega) (by simp only;omega)
theorem Xn (h:IJ ps.length ts e p q c d) (k:P2):(Ep (CF ts e.a e.b p q c d)).count k+2*dk e.a e.b k=(Ep ts).count k+2*dk c d k:=by
  have hpl:=h.pl
  have hql:=h.ql
  have h1:=Nc (ts:=ts) (p:=p) (t:=(e.a,d,c)) k hpl
  have h2:=Nc (ts:=ts.set p (e.a,d,c)) (p:=q) (t:=(d,e.b,c)) k (by rw [List.length_set];exact hql)
  rw [DV hpl,if_neg h.ne] at h2
  rw [Ua h.sc,UZ] at h1
  rw [Ua h.sd,UZ] at h2
  have s1:=RY e.b e.a k
  have s2:=RY d c k
  have s3:=RY e.a d k
  have s4:=RY d e.b k
  unfold CF
  omega
theorem cF (hP:E_ ps ts) (ha:NP ps ts) (h:IJ ps.length ts e p q c d) (hf:Db ps e.a e.b c d=true):(Ep ts).count (B5 c d)=0:=by
  have hq:=L7 hP h hf
  have hcd:c≠d:=λk=>by
    have:=hq.n
    rw [<-k,G_] at this;exact absurd this Rat.lt_irrefl
  refine List.count_eq_zero.2 λhm=>?_
  rw [<-GD,List.mem_map] at hm
  obtain ⟨u,hu,hk⟩:=hm
  have hu:=List.mem_range.1 hu
  have hd:CC ts u=(c,d)\/CC ts u=(d,c):=by
    unfold IZ B5 at hk
    injection hk with h1 h2
    rcases Nat.lt_or_ge (CC ts u).1 (CC ts u).2 with l1|l1<;>rcases Nat.lt_or_ge c d with l2|l2
    · left;exact Prod.ext (by simp only;omega) (by simp only;omega)
    · right;exact Prod.ext (by simp only;omega) (by simp only;omega)
    · right;exact Prod.ext (by simp only;omega) (by simp only;omega)
    · left;exact Prod.ext (by simp only;omega) (by simp only;omega)
  have np:∀{x y z:Nat},Mj ps.length (ts.getD (u/3) (0,0,0)) x y z->(x=c/\y=d\/x=d/\y=c)->u/3≠p/\u/3≠q:=λ{x y z} hs hxy=>by
    have hx:B4 (ts.getD (u/3) (0,0,0)) d=true:=(GT hs).2 (by rcases hxy with ⟨_,k⟩|⟨k,_⟩;exact .inr (.inl k.symm);exact .inl k.symm)
    have hy:B4 (ts.getD (u/3) (0,0,0)) c=true:=(GT hs).2 (by rcases hxy with ⟨k,_⟩|⟨_,k⟩;exact .inl k.symm;exact .inr (.inl k.symm))
    have a1:=h.sd.bc;have a2:=h.sd.ca;have a3:=h.sc.bc;have a4:=h.sc.ca
    constructor
    · intro k
      rw [k] at hx
      rcases (GT h.sc).1 hx with l|l|l<;>omega
    · intro k
      rw [k] at hy
      rcases (GT h.sd).1 hy with l|l|l<;>omega
  rcases hd with hd|hd
  · obtain ⟨x,hx⟩:=KY hP.num hu hd
    obtain ⟨n1,n2⟩:=np hx (.inl ⟨rfl,rfl⟩)
    exact Rr hq (DL hP Z hx) (FO hP ha h.pl Z n1.symm h.sc hx) (FO hP ha h.ql Z n2.symm h.sd hx)
  · obtain ⟨x,hx⟩:=KY hP.num hu hd
    obtain ⟨n1,n2⟩:=np hx (.inr ⟨rfl,rfl⟩)
    exact Rr hq.sw (DL hP Z hx) (FO hP ha h.ql Z n2.symm h.sd hx) (FO hP ha h.pl Z n1.symm h.sc hx)
theorem X7 (hP:E_ ps ts) (ha:NP ps ts) (hN:ps.length<=4611686018427387904) (h:IJ ps.length ts e p q c d) (hf:Db ps e.a e.b c d=true):Ea (CF ts e.a e.b p q c d)=Ea ts :=
  IA T8.asymm (Eb (KF hP h hf).num hN) (Eb hP.num hN) λs=>by
    rw [F3 (KF hP h hf).num hN,F3 hP.num hN]
    have k1:=Xn h (s.1,s.2.1)
    have k2:=Zy hP ha (s.1,s.2.1)
    have k3:=cF hP ha h hf
    have hne:B5 e.a e.b≠B5 c d:=λk=>by
      have a1:=h.sc.bc;have a2:=h.sc.ca;have a3:=h.sc.ab;have a4:=h.sd.bc;have a5:=h.sd.ca
      unfold B5 at k
      injection k with h1 h2
      omega
    have k4:dk e.a e.b (s.1,s.2.1)=1->dk c d (s.1,s.2.1)=0:=λy=>by
      unfold dk at *
      rw [if_neg]
      intro z
      by_cases w:B5 e.a e.b=(s.1,s.2.1)
      · exact hne (w.trans z.symm)
      · rw [if_neg w] at y;cases y
    have k5:dk c d (s.1,s.2.1)=1->(Ep ts).count (s.1,s.2.1)=0:=λy=>by
      unfold dk at y
      by_cases w:B5 c d=(s.1,s.2.1)
      · rw [<-w];exact k3
      · rw [if_neg w] at y;cases y
    have d1:dk e.a e.b (s.1,s.2.1)=0\/dk e.a e.b (s.1,s.2.1)=1:=by unfold dk;split<;>simp
    have d2:dk c d (s.1,s.2.1)=0\/dk c d (s.1,s.2.1)=1:=by unfold dk;split<;>simp
    constructor
    · rintro ⟨y1,y2⟩;exact ⟨Z,y2⟩
    · rintro ⟨y1,y2⟩;exact ⟨Z,y2⟩
theorem X5 (hv:Eo ps ts ss) (h:IJ ps.length ts e p q c d) (hf:Db ps e.a e.b c d=true):Eo ps (CF ts e.a e.b p q c d) ss:=by
  obtain ⟨hP,⟨hu,hd⟩,ha,hr⟩:=NZ hv
  have hP2:=KF hP h hf
  have hl:=hv.pl
  have hrm:=X7 hP ha Z h hf
  have hlen:(CF ts e.a e.b p q c d).length=ts.length:=Ca
  exact ⟨hv.pl,by rw [hlen];exact hv.tl,by rw [hlen];exact hv.t0,hv.sl,hv.sz,hP2.num,hP2.pos,hv.sid,X8 h hu,hd,λi k hi hk=>VC hP ha h hf (by rw [hlen] at hi;exact hi) (by rw [hlen] at hi;omega) Z,λi x hi hx=>X6 hP ha h hf (by rw [hlen] at hi;exact hi) hx,by rw [hrm];exact hv.rl,by rw [hrm];exact hv.rim⟩
theorem Kj {p:Nat} {t:T3} (hp:p<ts.length):∀n,Er ps (ts.set p t) n=Er ps ts n+(if p<n then F7 ps t-F7 ps (ts.getD p (0,0,0)) else 0)
  | 0=>by
    show (0:Rat)=0+_
    rw [if_neg (Nat.not_lt_zero _)];grind
  | n+1=>by
    show Er ps (ts.set p t) n+F7 ps ((ts.set p t).getD n (0,0,0))=Er ps ts n+F7 ps (ts.getD n (0,0,0))+_
    rw [Kj hp n,DV hp]
    by_cases h:p=n
    · subst h
      rw [if_pos rfl,if_neg (Nat.lt_irrefl _),if_pos (Nat.lt_succ_self _)];grind
    · rw [if_neg h]
      by_cases h2:p<n
      · rw [if_pos h2,if_pos Z];grind
      · rw [if_neg h2,if_neg Z];grind
theorem VA (h:IJ ps.length ts e p q c d):Er ps (CF ts e.a e.b p q c d) ts.length=Er ps ts ts.length:=by
  have hpl:=h.pl
  have hql:=h.ql
  unfold CF
  rw [Kj (by rw [List.length_set];exact hql),Kj hpl,if_pos hql,if_pos hpl,DV hpl,if_neg h.ne]
  have e1:F7 ps (ts.getD p (0,0,0))=AC (cor ps e.a) (cor ps e.b) (cor ps c)*(1/2):=by unfold F7;rw [(Do h.sc ps).2]
  have e2:F7 ps (ts.getD q (0,0,0))=AC (cor ps e.b) (cor ps e.a) (cor ps d)*(1/2):=by unfold F7;rw [(Do h.sd ps).2]
  have e3:F7 ps (e.a,d,c)=AC (cor ps e.a) (cor ps d) (cor ps c)*(1/2):=rfl
  have e4:F7 ps (d,e.b,c)=AC (cor ps d) (cor ps e.b) (cor ps c)*(1/2):=rfl
  rw [e1,e2,e3,e4]
  simp only [BC]
  grind
end
end
end Go.Proofs.YtbfdamnfcmefmaaGreatDoor
