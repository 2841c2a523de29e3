import Derived.Test.YtbfdamnfcmefmaaGreatDoorPart39
namespace Go.Proofs.YtbfdamnfcmefmaaGreatDoor
open Go Go.RowKit Go.Proofs.Tryz
open Go.Value renaming slice→qz,bool→qa
set_option linter.unusedVariables false
set_option linter.unusedSimpArgs false
section
def LU (a b c d:Pt):Rat:=B6 (a-d) (a-d)*BN (b-d) (c-d)+B6 (b-d) (b-d)*BN (c-d) (a-d)+B6 (c-d) (c-d)*BN (a-d) (b-d)
def YP (a b c:Pt):Rat:=AF a b c*(1/2)*(IT a+IT b+IT c)
theorem ag (p:Pt):IT p=p.x*p.x+p.y*p.y:=by
  unfold IT;rw [Ib,R8,R9];show (p.x-0)*(p.x-0)+(p.y-0)*(p.y-0)=_;grind
theorem Sq (a b c d:Pt):YP a b c+YP b a d-(YP a d c+YP d b c)=LU a b c d*(1/2):=by
  unfold YP LU
  simp only [ag,Ib,I8,BO,R8,R9]
  grind
theorem Ea {N:Nat} {t:T3} {a b c:Nat} (h:I5 N t a b c) (ps:List Pt):In ps t=YP (cor ps a) (cor ps b) (cor ps c)/\AF (cor ps t.1) (cor ps t.2.1) (cor ps t.2.2)=AF (cor ps a) (cor ps b) (cor ps c):=by
  unfold In F9 ZR YP
  have c1:=Bq (cor ps a) (cor ps b) (cor ps c)
  have c2:=Bq (cor ps b) (cor ps c) (cor ps a)
  rcases h.w with ⟨e1,e2,e3⟩|⟨e1,e2,e3⟩|⟨e1,e2,e3⟩<;>rw [e1,e2,e3]
  · exact ⟨rfl,rfl⟩
  · rw [c2,c1];exact ⟨by grind,rfl⟩
  · rw [c1];exact ⟨by grind,rfl⟩
theorem EM {ts:List T3} {p n:Nat} {t:T3} (hp:p<ts.length):(ts.set p t).getD n (0,0,0)=if p=n then t else ts.getD n (0,0,0):=by
  rw [List.getD,List.getD,List.getElem?_set]
  split
  · rename_i h;subst h;simp [hp]
  · rfl
theorem Lb {ps:List Pt} {ts:List T3} {p:Nat} {t:T3} (hp:p<ts.length):∀n,Gz ps (ts.set p t) n=Gz ps ts n+(if p<n then In ps t-In ps (ts.getD p (0,0,0)) else 0)
  | 0=>by
    show (0:Rat)=0+_
    rw [if_neg (Nat.not_lt_zero _)];grind
  | n+1=>by
    show Gz ps (ts.set p t) n+In ps ((ts.set p t).getD n (0,0,0))=Gz ps ts n+In ps (ts.getD n (0,0,0))+_
    rw [Lb hp n,EM hp]
    by_cases h:p=n
    · subst h
      rw [if_pos rfl,if_neg (Nat.lt_irrefl _),if_pos (Nat.lt_succ_self _)];grind
    · rw [if_neg h]
      by_cases h2:p<n
      · rw [if_pos h2,if_pos Z];grind
      · rw [if_neg h2,if_neg Z];grind
theorem Hi.ne {N:Nat} {ts:List T3} {e:E4} {p q c d:Nat} (h:Hi N ts e p q c d):p≠q:=λk=>by
  subst k
  have h1:=h.sc.w;have h2:=h.sd.w;have h3:=h.sc.ab;have h4:=h.sc.bc;have h5:=h.sc.ca;have h6:=h.sd.bc;have h7:=h.sd.ca
  omega
theorem VY {ps:List Pt} {ts:List T3} {e:E4} {p q c d:Nat} (h:Hi ps.length ts e p q c d):EO ps (B8 ts e.a e.b p q c d)=EO ps ts-LU (cor ps e.a) (cor ps e.b) (cor ps c) (cor ps d)*(1/6):=by
  have hne:=h.ne
  have hpl:=h.pl
  have hql:=h.ql
  unfold EO
  rw [CL]
  unfold B8
  rw [Lb (by rw [List.length_set];exact hql),Lb hpl,if_pos hql,if_pos hpl,EM hpl,if_neg hne,(Ea h.sc ps).1,(Ea h.sd ps).1]
  have k:=Sq (cor ps e.a) (cor ps e.b) (cor ps c) (cor ps d)
  have e1:In ps (e.a,d,c)=YP (cor ps e.a) (cor ps d) (cor ps c):=rfl
  have e2:In ps (d,e.b,c)=YP (cor ps d) (cor ps e.b) (cor ps c):=rfl
  rw [e1,e2,show (((1:Int):Rat)/((3:Int):Rat))=1/3 by decide +kernel]
  grind
section
variable {ps:List Pt} {ts:List T3}
end
section
variable {ps:List Pt} {ts:List T3}
end
end
section
section
variable {a b c d e f g p q x X:Pt}
theorem UN (a b c p q x:Pt):AF a b c*AF p q x=AF b c x*AF p q a+AF c a x*AF p q b+AF a b x*AF p q c:=by simp only [BO];grind
theorem Vv {D y:Rat} (hD:0<D) (h:0<=D*y):0<=y:=by
  by_cases k:0<=y
  · exact k
  · have:=Rat.mul_pos hD (show 0 < -y by grind);grind
theorem WA {D y:Rat} (hD:0<D) (h:0<D*y):0<y:=by
  by_cases k:0<y
  · exact k
  · have:=Rat.mul_nonneg (Rat.le_of_lt hD) (show 0 <= -y by grind);grind
structure Qd (a b c d:Pt):Prop where
  l:0<AF a b c
  r:0<AF b a d
  n:0<AF a d c
  m:0<AF d b c
theorem Qd.sw (h:Qd a b c d):Qd b a d c:=⟨h.r,h.l,by rw [Bq d b c];exact h.m,by rw [<-Bq c a d];exact h.n⟩
theorem Qd.facts (h:Qd a b c d):0<AF b c a/\0<AF c a b/\0<AF a d b/\0<AF d b a/\0<AF d c a/\0<AF c a d/\0<AF b c d/\0<AF c d b:=by
  have h1:=h.l;have h2:=h.r;have h3:=h.n;have h4:=h.m
  refine ⟨?_,?_,?_,?_,?_,?_,?_,?_⟩<;>(simp only [BO] at *;grind)
theorem R0 (h:Qd a b c d) (hx:¬IX a d c x):¬IX a b c x\/¬IX b a d x:=by
  obtain ⟨f1,f2,f3,f4,f5,f6,f7,f8⟩:=h.facts
  have hn:=h.n
  unfold IX at *
  have n1:0<=AF a d x:=by grind
  have n2:0<=AF d c x:=by grind
  have n3:0<=AF c a x:=by grind
  by_cases k:0<=AF a b x
  · left
    have e:=UN a d c b c x
    rw [Ga,Rat.mul_zero,Rat.add_zero] at e
    have k1:=Rat.mul_nonneg n2 (Rat.le_of_lt f1)
    have k2:=Rat.mul_nonneg n3 (Rat.le_of_lt f7)
    have k3:=Vv hn (show 0<=AF a d c*AF b c x by grind)
    grind
  · right
    have e:=UN a d c d b x
    rw [IJ,Rat.mul_zero,Rat.add_zero] at e
    have k1:=Rat.mul_nonneg n2 (Rat.le_of_lt f4)
    have k2:=Rat.mul_nonneg n1 (Rat.le_of_lt h.m)
    have k3:=Vv hn (show 0<=AF a d c*AF d b x by grind)
    have k4:=Hg a b x
    grind
theorem R1 (h:Qd a b c d) (hx:Hv a d c x):(0<AF a b x->Hv a b c x)/\(AF a b x<0->Hv b a d x):=by
  obtain ⟨f1,f2,f3,f4,f5,f6,f7,f8⟩:=h.facts
  have hn:=h.n
  unfold Hv at *
  obtain ⟨n1,n2,n3⟩:=hx
  constructor
  · intro k
    have e:=UN a d c b c x
    rw [Ga,Rat.mul_zero,Rat.add_zero] at e
    have k1:=Rat.mul_pos n2 f1
    have k2:=Rat.mul_pos n3 f7
    exact ⟨k,WA hn (by rw [e];grind),n3⟩
  · intro k
    have e:=UN a d c d b x
    rw [IJ,Rat.mul_zero,Rat.add_zero] at e
    have k1:=Rat.mul_pos n2 f4
    have k2:=Rat.mul_pos n1 h.m
    have k4:=Hg a b x
    exact ⟨by grind,n1,WA hn (by rw [e];grind)⟩
theorem cL (h:Hv e f g X) (c:Pt):∃t,0<t/\t<1/\Hv e f g (bB X c t):=by
  obtain ⟨h1,h2,h3⟩:=h
  have half:(0:Rat)<1/2/\(1:Rat)/2<1:=by constructor<;>decide +kernel
  by_cases k:IX e f g c
  · obtain ⟨t,t0,t1,n1,n2,n3,_⟩:=bX h1 h2 h3 k
    refine ⟨t*(1/2),Rat.mul_pos t0 half.1,by grind,?_⟩
    unfold Hv
    rw [Dl,Dl,Dl]
    exact ⟨by grind,by grind,by grind⟩
  · unfold IX at k
    refine ⟨1/2,half.1,half.2,?_⟩
    unfold Hv
    rw [Dl,Dl,Dl]
    exact ⟨by grind,by grind,by grind⟩
theorem Jt (h:Qd a b c d) (hx:Hv a d c X) (hy:Hv e f g X):(∃Y,Hv a b c Y/\Hv e f g Y)\/∃Y,Hv b a d Y/\Hv e f g Y:=by
  obtain ⟨q1,q2⟩:=R1 h hx
  by_cases k1:0<AF a b X
  · exact .inl ⟨X,q1 k1,hy⟩
  · by_cases k2:AF a b X<0
    · exact .inr ⟨X,q2 k2,hy⟩
    · obtain ⟨t,t0,t1,ht⟩:=cL hy c
      have hz:Hv a d c (bB X c t):=by
        obtain ⟨n1,n2,n3⟩:=hx
        unfold Hv
        rw [Dl,Dl,Dl,Ga,IJ]
        have m1:=Rat.mul_pos (show 0<1-t by grind) n1
        have m2:=Rat.mul_pos (show 0<1-t by grind) n2
        have m3:=Rat.mul_pos (show 0<1-t by grind) n3
        have m4:=Rat.mul_pos t0 h.n
        exact ⟨by grind,by grind,by grind⟩
      refine .inl ⟨bB X c t,(R1 h hz).1 ?_,ht⟩
      rw [Dl,show AF a b X=0 by grind]
      have m4:=Rat.mul_pos t0 h.l
      grind
theorem UP (hB:0<AF d e f) (h:Gf a b c d e f) (hx:Hv a b c X) (hy:Hv d e f X):False:=by
  obtain ⟨g,hg,g1,g2,g3⟩:=h.ex
  have k:0<tv g X:=by
    obtain ⟨i1,i2,i3⟩:=hx
    rcases OD.1 hg with rfl|rfl|rfl<;>assumption
  obtain ⟨i1,i2,i3⟩:=hy
  have hb:=UN d e f g.1 g.2 X
  have m0:=Rat.mul_pos hB k
  have m1:=Rat.mul_nonneg (Rat.le_of_lt i2) (show 0 <= - tv g d by grind)
  have m2:=Rat.mul_nonneg (Rat.le_of_lt i3) (show 0 <= - tv g e by grind)
  have m3:=Rat.mul_nonneg (Rat.le_of_lt i1) (show 0 <= - tv g f by grind)
  unfold tv at *
  grind
theorem RF (hA:0<AF a b c) (hB:0<AF d e f):(Gf a b c d e f\/Gf d e f a b c)↔¬∃X,Hv a b c X/\Hv d e f X:=by
  constructor
  · rintro (h|h) ⟨X,h1,h2⟩
    · exact UP hB h h1 h2
    · exact UP hA h h2 h1
  · intro h
    exact Classical.byContradiction λk=>h (Zp hA hB (λl=>k (.inl l)) λl=>k (.inr l))
theorem Rr (h:Qd a b c d) (hT:0<AF c d x) (h1:Gf a b c c d x\/Gf c d x a b c) (h2:Gf b a d c d x\/Gf c d x b a d):False:=by
  obtain ⟨f1,f2,f3,f4,f5,f6,f7,f8⟩:=h.facts
  have hl:=h.l;have hr:=h.r;have hn:=h.n;have hm:=h.m
  have c1:=Bq c d x
  have c2:=Bq d x c
  have s1:AF c d a = - AF d c a:=Hg d c a
  have sum:AF c d a+AF d x a+AF x c a=AF c d x:=by simp only [BO];grind
  have t1:AF d x c=AF c d x:=c1
  have t2:AF x c d=AF c d x:=c2.trans c1
  have k1:AF x c a<=0:=by
    unfold Gf at h1
    rcases h1 with (⟨y1,y2,y3⟩|⟨y1,y2,y3⟩|⟨y1,y2,y3⟩)|(⟨y1,y2,y3⟩|⟨y1,y2,y3⟩|⟨y1,y2,y3⟩)<;>grind
  have k2:AF d x a<=0:=by
    unfold Gf at h2
    rcases h2 with (⟨y1,y2,y3⟩|⟨y1,y2,y3⟩|⟨y1,y2,y3⟩)|(⟨y1,y2,y3⟩|⟨y1,y2,y3⟩|⟨y1,y2,y3⟩)<;>grind
  grind
theorem Rs (hA:0<AF a b c) (hB:0<AF a b d) (h:Gf a b c a b d\/Gf a b d a b c):False:=by
  have c1:=Bq a b c
  have c2:=Bq b c a
  have c3:=Bq a b d
  have c4:=Bq b d a
  unfold Gf at h
  rcases h with (⟨y1,y2,y3⟩|⟨y1,y2,y3⟩|⟨y1,y2,y3⟩)|(⟨y1,y2,y3⟩|⟨y1,y2,y3⟩|⟨y1,y2,y3⟩)<;>grind
theorem SS (hl:0<AF a b c) (hr:0<AF b a d) (hc:0<LU a b c d):0<AF a d c/\0<AF d b c:=by
  have sq:∀u v:Pt,0<=B6 (u-v) (u-v):=λu v=>by
    rw [Ib]
    have e1:∀z:Rat,0<=z*z:=λz=>by
      by_cases h:0<=z
      · exact Rat.mul_nonneg h h
      · have:=Rat.mul_nonneg (show 0 <= -z by grind) (show 0 <= -z by grind);grind
    have:=e1 (u-v).x;have:=e1 (u-v).y;grind
  have i1:LU a b c d=B6 (b-a) (b-a)*AF a d c-B6 (c-a) (c-a)*AF b a d-B6 (d-a) (d-a)*AF a b c:=by
    unfold LU;simp only [Ib,I8,BO,R8,R9];grind
  have i2:LU a b c d=B6 (a-b) (a-b)*AF d b c-B6 (c-b) (c-b)*AF b a d-B6 (d-b) (d-b)*AF a b c:=by
    unfold LU;simp only [Ib,I8,BO,R8,R9];grind
  constructor
  · by_cases k:0<AF a d c
    · exact k
    · have m1:=Rat.mul_nonneg (sq b a) (show 0 <= - AF a d c by grind)
      have m2:=Rat.mul_nonneg (sq c a) (Rat.le_of_lt hr)
      have m3:=Rat.mul_nonneg (sq d a) (Rat.le_of_lt hl)
      grind
  · by_cases k:0<AF d b c
    · exact k
    · have m1:=Rat.mul_nonneg (sq a b) (show 0 <= - AF d b c by grind)
      have m2:=Rat.mul_nonneg (sq c b) (Rat.le_of_lt hr)
      have m3:=Rat.mul_nonneg (sq d b) (Rat.le_of_lt hl)
      grind
end
def I4 (ps:List Pt) (t:T3) (X:Pt):Prop:=Hv (cor ps t.1) (cor ps t.2.1) (cor ps t.2.2) X
section
variable {ps:List Pt} {ts ss:List T3} {e:E4} {p q c d:Nat}
theorem PM (hP:GF ps ts) {i k:Nat} (hi:i<ts.length) (hk:k<ts.length):RA ps ts i k↔¬∃X,I4 ps (ts.getD i (0,0,0)) X/\I4 ps (ts.getD k (0,0,0)) X:=by
  unfold I4
  rw [<-RF (Fl.1 (hP.pos i hi)) (Fl.1 (hP.pos k hk))]
  unfold RA Be
  rw [yx,xX,xX,Ot,Ot]
theorem Hd {N:Nat} {t:T3} {a b c:Nat} (h:I5 N t a b c) {X:Pt}:I4 ps t X↔Hv (cor ps a) (cor ps b) (cor ps c) X:=by
  unfold I4
  rcases h.w with ⟨e1,e2,e3⟩|⟨e1,e2,e3⟩|⟨e1,e2,e3⟩<;>rw [e1,e2,e3]
  · exact ⟨λk=>k.rot,λk=>k.rot.rot⟩
  · exact ⟨λk=>k.rot.rot,λk=>k.rot⟩
theorem GX {N:Nat} {t:T3} {a b c x:Nat} (h:I5 N t a b c):B_ t x=true↔x=a\/x=b\/x=c:=by
  rw [LQ];have:=h.w;omega
theorem OV (hP:GF ps ts) (h:Hi ps.length ts e p q c d) (hf:Dg ps e.a e.b c d=true):Qd (cor ps e.a) (cor ps e.b) (cor ps c) (cor ps d):=by
  unfold Dg at hf
  rw [yz,xW,xW,Fl,Fl] at hf
  refine ⟨?_,?_,hf.1,hf.2⟩
  · rw [<-(Ea h.sc ps).2];exact Fl.1 (hP.pos p h.pl)
  · rw [<-(Ea h.sd ps).2];exact Fl.1 (hP.pos q h.ql)
theorem C5 (h:Hi ps.length ts e p q c d) (j:Nat):(B8 ts e.a e.b p q c d).getD j (0,0,0)=if q=j then (d,e.b,c) else if p=j then (e.a,d,c) else ts.getD j (0,0,0):=by
  unfold B8
  rw [EM (by rw [List.length_set];exact h.ql),EM h.pl]
theorem KO (hP:GF ps ts) (h:Hi ps.length ts e p q c d) (hf:Dg ps e.a e.b c d=true):GF ps (B8 ts e.a e.b p q c d):=by
  unfold Dg at hf
  rw [yz,xW,xW] at hf
  have hpos:∀k,k<(B8 ts e.a e.b p q c d).length->(AF (cor ps ((B8 ts e.a e.b p q c d).getD k (0,0,0)).1) (cor ps ((B8 ts e.a e.b p q c d).getD k (0,0,0)).2.1) (cor ps ((B8 ts e.a e.b p q c d).getD k (0,0,0)).2.2)).num.sign=1/\JM ps.length ((B8 ts e.a e.b p q c d).getD k (0,0,0))=true:=λk hk=>by
    rw [CL] at hk
    rw [C5 h]
    split
    · exact ⟨hf.2,Rv h.sd.c h.sc.b h.sc.c hf.2⟩
    · split
      · exact ⟨hf.1,Rv h.sc.a h.sd.c h.sc.c hf.1⟩
      · exact ⟨hP.pos k hk,CQ hP.num hk⟩
  exact ⟨YW λk hk=>(hpos k hk).2,λk hk=>(hpos k hk).1⟩
theorem U8 (hP:GF ps ts) (h:Hi ps.length ts e p q c d) (hf:Dg ps e.a e.b c d=true) {j:Nat} (hj:j=p\/j=q) {t:T3} {X:Pt} (h1:I4 ps ((B8 ts e.a e.b p q c d).getD j (0,0,0)) X) (h2:I4 ps t X):∃k Y,(k=p\/k=q)/\I4 ps (ts.getD k (0,0,0)) Y/\I4 ps t Y:=by
  have hq:=OV hP h hf
  have hne:=h.ne
  rw [C5 h] at h1
  rcases hj with rfl|rfl
  · rw [if_neg (λk=>hne k.symm),if_pos rfl] at h1
    rcases Jt hq h1 h2 with ⟨Y,y1,y2⟩|⟨Y,y1,y2⟩
    · exact ⟨_,Y,.inl O,(Hd h.sc).2 y1,y2⟩
    · exact ⟨_,Y,.inr O,(Hd h.sd).2 y1,y2⟩
  · rw [if_pos rfl] at h1
    have h1:Hv (cor ps d) (cor ps e.b) (cor ps c) X:=h1
    rcases Jt hq.sw h1.rot h2 with ⟨Y,y1,y2⟩|⟨Y,y1,y2⟩
    · exact ⟨_,Y,.inr O,(Hd h.sd).2 y1,y2⟩
    · exact ⟨_,Y,.inl O,(Hd h.sc).2 y1,y2⟩
theorem U9 (hP:GF ps ts) (ha:ML ps ts) (h:Hi ps.length ts e p q c d) (hf:Dg ps e.a e.b c d=true) {i k:Nat} (hi:i<ts.length) (hk:k<ts.length) (hik:i≠k):RA ps (B8 ts e.a e.b p q c d) i k:=by
  have hP2:=KO hP h hf
  have hpq:=h.ne
  rw [PM hP2 (by rw [CL];exact hi) (by rw [CL];exact hk)]
  rintro ⟨X,h1,h2⟩
  have old:∀i k,i<ts.length->k<ts.length->i≠k->∀X,I4 ps (ts.getD i (0,0,0)) X->I4 ps (ts.getD k (0,0,0)) X->False:=λi k hi hk hik X y1 y2=>by
    rcases Nat.lt_or_ge k i with l|l
    · exact (PM hP hi hk).1 ((ha i hi).1 k l) ⟨X,y1,y2⟩
    · exact (PM hP hk hi).1 ((ha k hk).1 i Z) ⟨X,y2,y1⟩
  have oth:∀j,j≠p->j≠q->(B8 ts e.a e.b p q c d).getD j (0,0,0)=ts.getD j (0,0,0):=λj y1 y2=>by rw [C5 h,if_neg (λk=>y2 k.symm),if_neg (λk=>y1 k.symm)]
  by_cases ii:i=p\/i=q
  · by_cases kk:k=p\/k=q
    · have ha':∀{X:Pt},I4 ps ((B8 ts e.a e.b p q c d).getD p (0,0,0)) X->I4 ps ((B8 ts e.a e.b p q c d).getD q (0,0,0)) X->False:=λ{X} y1 y2=>by
        rw [C5 h,if_neg (λk=>hpq k.symm),if_pos rfl] at y1
        rw [C5 h,if_pos rfl] at y2
        have z1:0<AF (cor ps d) (cor ps c) X:=y1.2.1
        have z2:0<AF (cor ps c) (cor ps d) X:=y2.2.2
        rw [Hg] at z2;grind
      rcases ii with rfl|rfl<;>rcases kk with rfl|rfl
      · exact hik O
      · exact ha' h1 h2
      · exact ha' h2 h1
      · exact hik O
    · rw [oth k (λl=>kk (.inl l)) (λl=>kk (.inr l))] at h2
      obtain ⟨m,Y,hm,y1,y2⟩:=U8 hP h hf ii h1 h2
      rcases hm with rfl|rfl
      · exact old _ _ h.pl hk (λl=>kk (.inl l.symm)) Y y1 y2
      · exact old _ _ h.ql hk (λl=>kk (.inr l.symm)) Y y1 y2
  · rw [oth i (λl=>ii (.inl l)) (λl=>ii (.inr l))] at h1
    by_cases kk:k=p\/k=q
    · obtain ⟨m,Y,hm,y1,y2⟩:=U8 hP h hf kk h2 h1
      rcases hm with rfl|rfl
      · exact old _ _ h.pl hi (λl=>ii (.inl l.symm)) Y y1 y2
      · exact old _ _ h.ql hi (λl=>ii (.inr l.symm)) Y y1 y2
    · rw [oth k (λl=>kk (.inl l)) (λl=>kk (.inr l))] at h2
      exact old i k hi hk hik X h1 h2
theorem Xu (hP:GF ps ts) (ha:ML ps ts) (h:Hi ps.length ts e p q c d) (hf:Dg ps e.a e.b c d=true) {i x:Nat} (hi:i<ts.length) (hx:x<ps.length):ZU ps (B8 ts e.a e.b p q c d) i x:=by
  have hq:=OV hP h hf
  obtain ⟨f1,f2,f3,f4,f5,f6,f7,f8⟩:=hq.facts
  have hpq:=h.ne
  have hl:=hq.l;have hr:=hq.r
  unfold ZU
  intro hh
  have out:∀{a b c j:Nat},I5 ps.length (ts.getD j (0,0,0)) a b c->j<ts.length->x≠a->x≠b->x≠c->0<AF (cor ps a) (cor ps b) (cor ps c)->IX (cor ps a) (cor ps b) (cor ps c) (cor ps x):=λ{a b c j} hs hj n1 n2 n3 hp=>by
    have k:=(ha j hj).2 x hx (by rw [Bool.eq_false_iff];intro y;rcases (GX hs).1 y with z|z|z<;>contradiction)
    have k2:=(IN (Fl.1 (hP.pos j hj))).1 k
    rcases hs.w with ⟨e1,e2,e3⟩|⟨e1,e2,e3⟩|⟨e1,e2,e3⟩<;>rw [e1,e2,e3] at k2
    · exact k2
    · exact k2.rot
    · exact k2.rot.rot
  rw [C5 h] at hh ⊢
  by_cases iq:q=i
  · subst iq
    rw [if_pos rfl] at hh ⊢
    have n:x≠d/\x≠e.b/\x≠c:=by
      refine ⟨λk=>?_,λk=>?_,λk=>?_⟩<;>(rw [Bool.eq_false_iff] at hh;apply hh;rw [LQ];simp [k])
    show IM (cor ps d) (cor ps e.b) (cor ps c) (cor ps x)=0
    rw [IN hq.m]
    by_cases k:x=e.a
    · rw [k];right;right;show AF (cor ps c) (cor ps d) (cor ps e.a)<0;rw [Hg];grind
    · refine Classical.byContradiction λno=>?_
      have no2:¬IX (cor ps e.b) (cor ps c) (cor ps d) (cor ps x):=λy=>no y.rot.rot
      rcases R0 hq.sw no2 with y|y
      · exact y (out h.sd h.ql n.2.1 k n.1 hr)
      · exact y (out h.sc h.pl k n.2.1 n.2.2 hl)
  · rw [if_neg iq] at hh ⊢
    by_cases ip:p=i
    · subst ip
      rw [if_pos rfl] at hh ⊢
      have n:x≠e.a/\x≠d/\x≠c:=by
        refine ⟨λk=>?_,λk=>?_,λk=>?_⟩<;>(rw [Bool.eq_false_iff] at hh;apply hh;rw [LQ];simp [k])
      show IM (cor ps e.a) (cor ps d) (cor ps c) (cor ps x)=0
      rw [IN hq.n]
      by_cases k:x=e.b
      · rw [k];right;left;show AF (cor ps d) (cor ps c) (cor ps e.b)<0;rw [Hg];grind
      · refine Classical.byContradiction λno=>?_
        rcases R0 hq no with y|y
        · exact y (out h.sc h.pl n.1 k n.2.2 hl)
        · exact y (out h.sd h.ql k n.1 n.2.1 hr)
    · rw [if_neg ip] at hh ⊢
      exact (ha i hi).2 x hx hh
theorem Xw (h:Hi ps.length ts e p q c d) (hu:Zg ps.length ts):Zg ps.length (B8 ts e.a e.b p q c d):=λx hx=>by
  obtain ⟨j,hj,hh⟩:=hu x hx
  have hpq:=h.ne
  have gp:(B8 ts e.a e.b p q c d).getD p (0,0,0)=(e.a,d,c):=by rw [C5 h,if_neg (λk=>hpq k.symm),if_pos rfl]
  have gq:(B8 ts e.a e.b p q c d).getD q (0,0,0)=(d,e.b,c):=by rw [C5 h,if_pos rfl]
  have hp2:p<(B8 ts e.a e.b p q c d).length:=by rw [CL];exact h.pl
  have hq2:q<(B8 ts e.a e.b p q c d).length:=by rw [CL];exact h.ql
  have four:x=e.a\/x=e.b\/x=c\/x=d->∃j,j<(B8 ts e.a e.b p q c d).length/\B_ ((B8 ts e.a e.b p q c d).getD j (0,0,0)) x=true:=λk=>by
    rcases k with k|k|k|k
    · exact ⟨p,hp2,by rw [gp,LQ];exact .inl k⟩
    · exact ⟨q,hq2,by rw [gq,LQ];exact .inr (.inl k)⟩
    · exact ⟨p,hp2,by rw [gp,LQ];exact .inr (.inr k)⟩
    · exact ⟨p,hp2,by rw [gp,LQ];exact .inr (.inl k)⟩
  by_cases jp:p=j
  · subst jp
    rcases (GX h.sc).1 hh with k|k|k
    · exact four (.inl k)
    · exact four (.inr (.inl k))
    · exact four (.inr (.inr (.inl k)))
  · by_cases jq:q=j
    · subst jq
      rcases (GX h.sd).1 hh with k|k|k
      · exact four (.inr (.inl k))
      · exact four (.inl k)
      · exact four (.inr (.inr (.inr k)))
    · exact ⟨j,by rw [CL];exact hj,by rw [C5 h,if_neg jq,if_neg jp];exact hh⟩
end
end
section
def c3 (t:T3) (k:P2):Nat:=List.count k [CB t.1 t.2.1,CB t.2.1 t.2.2,CB t.2.2 t.1]
theorem Ia (t:T3) (ts:List T3) (k:P2):(Et (t::ts)).count k=c3 t k+(Et ts).count k:=by
  unfold Et c3
  rw [List.flatMap_cons,List.count_append]
theorem Nd:∀{ts:List T3} {p:Nat} {t:T3} (k:P2),p<ts.length->(Et (ts.set p t)).count k+c3 (ts.getD p (0,0,0)) k=(Et ts).count k+c3 t k
  | [],p,t,k,h=>absurd h (Nat.not_lt_zero _)
  | x::r,0,t,k,_=>by
    rw [List.set_cons_zero,Ia,Ia];show _+c3 x k=_;omega
  | x::r,p+1,t,k,h=>by
    have ih:=Nd (ts:=r) (p:=p) (t:=t) k (by simpa using h)
    rw [List.set_cons_succ,Ia,Ia]
    show _+c3 (r.getD p (0,0,0)) k=_
    omega
theorem Z1 (a b:Nat):CB a b=CB b a:=by unfold CB;rw [Nat.min_comm,Nat.max_comm]
def dk (a b:Nat) (k:P2):Nat:=if CB a b=k then 1 else 0
theorem UW (a b c:Nat) (k:P2):c3 (a,b,c) k=dk a b k+dk b c k+dk c a k:=by
  unfold c3 dk
  simp only [List.count_cons,List.count_nil,beq_iff_eq]
  omega
theorem RY (a b:Nat) (k:P2):dk a b k=dk b a k:=by unfold dk;rw [Z1]
theorem UX {N:Nat} {t:T3} {a b c:Nat} (h:I5 N t a b c) (k:P2):c3 t k=dk a b k+dk b c k+dk c a k:=by
  obtain ⟨x,y,z⟩:=t
  rw [UW]
  rcases h.w with ⟨e1,e2,e3⟩|⟨e1,e2,e3⟩|⟨e1,e2,e3⟩<;>(simp only at e1 e2 e3;subst e1 e2 e3;omega)
theorem Ke {N:Nat} {ts:List T3} (hn:BV N ts=true) {u a b:Nat} (hu:u<3*ts.length) (h3:Br ts u=(a,b)):∃c,I5 N (ts.getD (u/3) (0,0,0)) a b c:=by
  have hk:=CQ hn (show u/3<ts.length by omega)
  unfold Br at h3
  generalize ts.getD (u/3) (0,0,0)=T at h3 hk
  obtain ⟨p,q,r⟩:=T
  simp only [JM,yz,xY,xW,xV] at hk
  obtain ⟨⟨⟨⟨⟨g1,g2⟩,g3⟩,g4⟩,g5⟩,g6⟩:=hk
  have h4:u%3<3:=Nat.mod_lt _ jY
  generalize u%3=s at h3 h4
  injection h3 with e1 e2
  rcases (by omega:s=0\/s=1\/s=2) with rfl|rfl|rfl<;>simp [FB] at e1 e2<;>subst e1 e2
  · exact ⟨r,⟨.inl ⟨rfl,rfl,rfl⟩,g4,g5,g6,g1,g2,g3⟩⟩
  · exact ⟨p,⟨.inr (.inl ⟨rfl,rfl,rfl⟩),g5,g6,g4,g2,g3,g1⟩⟩
  · exact ⟨q,⟨.inr (.inr ⟨rfl,rfl,rfl⟩),g6,g4,g5,g3,g1,g2⟩⟩
section
variable {ps:List Pt} {ts ss:List T3} {e:E4} {p q c d:Nat}
theorem DS (hP:GF ps ts) {j a b c:Nat} (hj:j<ts.length) (h:I5 ps.length (ts.getD j (0,0,0)) a b c):0<AF (cor ps a) (cor ps b) (cor ps c):=by
  rw [<-(Ea h ps).2];exact Fl.1 (hP.pos j hj)
theorem F8 (hP:GF ps ts) (ha:ML ps ts) {i k a b c a' b' c':Nat} (hi:i<ts.length) (hk:k<ts.length) (hik:i≠k) (h1:I5 ps.length (ts.getD i (0,0,0)) a b c) (h2:I5 ps.length (ts.getD k (0,0,0)) a' b' c') :
    Gf (cor ps a) (cor ps b) (cor ps c) (cor ps a') (cor ps b') (cor ps c')\/Gf (cor ps a') (cor ps b') (cor ps c') (cor ps a) (cor ps b) (cor ps c):=by
  rw [RF (DS hP hi h1) (DS hP hk h2)]
  rintro ⟨X,x1,x2⟩
  have y1:=(Hd h1).2 x1
  have y2:=(Hd h2).2 x2
  rcases Nat.lt_or_ge k i with l|l
  · exact (PM hP hi hk).1 ((ha i hi).1 k l) ⟨X,y1,y2⟩
  · exact (PM hP hk hi).1 ((ha k hk).1 i Z) ⟨X,y2,y1⟩
theorem Y4 (hn:BV ps.length ts=true) {u v:Nat} (hu:u<3*ts.length) (hd:u/3=v/3) (h:Br ts u=Br ts v):u=v:=by
  have hk:=CQ hn (show u/3<ts.length by omega)
  unfold Br at h
  rw [<-hd] at h
  generalize ts.getD (u/3) (0,0,0)=T at h hk
  obtain ⟨p,q,r⟩:=T
  simp only [JM,yz,xY,xW,xV] at hk
  obtain ⟨⟨⟨⟨⟨g1,g2⟩,g3⟩,g4⟩,g5⟩,g6⟩:=hk
  have h4:u%3<3:=Nat.mod_lt _ jY
  have h5:v%3<3:=Nat.mod_lt _ jY
  have h6:u%3=v%3:=by
    generalize u%3=s at h h4 ⊢
    generalize v%3=t at h h5 ⊢
    injection h with e1 e2
    rcases (by omega:s=0\/s=1\/s=2) with rfl|rfl|rfl<;>rcases (by omega:t=0\/t=1\/t=2) with rfl|rfl|rfl<;>simp [FB] at e1 e2 ⊢<;>omega
  omega
theorem Wz (hP:GF ps ts) (ha:ML ps ts) {u v:Nat} (hu:u<3*ts.length) (hv:v<3*ts.length) (h:Br ts u=Br ts v):u=v:=by
  by_cases hd:u/3=v/3
  · exact Y4 hP.num hu hd h
  · exfalso
    obtain ⟨x,hx⟩:=Ke hP.num hu (a:=(Br ts u).1) (b:=(Br ts u).2) rfl
    obtain ⟨y,hy⟩:=Ke hP.num hv (a:=(Br ts u).1) (b:=(Br ts u).2) h.symm
    exact Rs (DS hP Z hx) (DS hP Z hy) (F8 hP ha Z Z hd hx hy)
theorem Ws {α:Type} {x y:α}:∀{l:List α},l.Nodup->(∀z∈l,z=x\/z=y)->l.length<=2
  | [],_,_=>by simp
  | [a],_,_=>by simp
  | [a,b],_,_=>by simp
  | a::b::c::r,hd,h=>by
    exfalso
    rw [List.nodup_cons,List.nodup_cons] at hd
    have h1:=h a jX
    have h2:=h b jX
    have h3:=h c jX
    have n1:a≠b:=λe=>hd.1 (by simp [e])
    have n2:a≠c:=λe=>hd.1 (by simp [e])
    have n3:b≠c:=λe=>hd.2.1 (by simp [e])
    rcases h1 with rfl|rfl<;>rcases h2 with rfl|rfl<;>rcases h3 with rfl|rfl<;>first|exact n1 rfl|exact n2 rfl|exact n3 rfl
theorem Zo (hP:GF ps ts) (ha:ML ps ts) (k:P2):(Et ts).count k<=2:=by
  rw [<-GH,List.count_eq_length_filter,List.filter_map,xL]
  have h1:((List.range (3*ts.length)).filter ((λx=>x == k)∘Il ts)).Nodup:=List.Pairwise.filter _ (show (List.range (3*ts.length)).Pairwise (·≠·) from List.nodup_range)
  rw [<-xL (f:=Br ts)]
  refine Ws (x:=k) (y:=(k.2,k.1)) ?_ λz hz=>?_
  · unfold List.Nodup
    rw [List.pairwise_map]
    refine List.Pairwise.imp_of_mem ?_ h1
    intro u v hu hv hne e
    exact hne (Wz hP ha (List.mem_range.1 (List.mem_filter.1 hu).1) (List.mem_range.1 (List.mem_filter.1 hv).1) e)
  · obtain ⟨u,hu,rfl⟩:=List.mem_map.1 hz
    have h2:Il ts u=k:=by simpa using (List.mem_filter.1 hu).2
    unfold Il CB at h2
    rw [<-h2]
    rcases Nat.lt_or_ge (Br ts u).1 (Br ts u).2 with h|h
    · left;exact Prod.ext (by simp only;omega) (by simp only;omega)
    · right;exact Prod.ext (by simp only;omega) (by simp only;omega)
theorem Xh (h:Hi ps.length ts e p q c d) (k:P2):(Et (B8 ts e.a e.b p q c d)).count k+2*dk e.a e.b k=(Et ts).count k+2*dk c d k:=by
  have hpl:=h.pl
  have hql:=h.ql
  have h1:=Nd (ts:=ts) (p:=p) (t:=(e.a,d,c)) k hpl
  have h2:=Nd (ts:=ts.set p (e.a,d,c)) (p:=q) (t:=(d,e.b,c)) k (by rw [List.length_set];exact hql)
  rw [EM hpl,if_neg h.ne] at h2
  rw [UX h.sc,UW] at h1
  rw [UX h.sd,UW] at h2
  have s1:=RY e.b e.a k
  have s2:=RY d c k
  have s3:=RY e.a d k
  have s4:=RY d e.b k
  unfold B8
  omega
theorem br (hP:GF ps ts) (ha:ML ps ts) (h:Hi ps.length ts e p q c d) (hf:Dg ps e.a e.b c d=true):(Et ts).count (CB c d)=0:=by
  have hq:=OV hP h hf
  have hcd:c≠d:=λk=>by
    have:=hq.n
    rw [<-k,Ga] at this;exact absurd this Rat.lt_irrefl
  refine List.count_eq_zero.2 λhm=>?_
  rw [<-GH,List.mem_map] at hm
  obtain ⟨u,hu,hk⟩:=hm
  have hu:=List.mem_range.1 hu
  have hd:Br ts u=(c,d)\/Br ts u=(d,c):=by
    unfold Il CB at hk
    injection hk with h1 h2
    rcases Nat.lt_or_ge (Br ts u).1 (Br ts u).2 with l1|l1<;>rcases Nat.lt_or_ge c d with l2|l2
    · left;exact Prod.ext (by simp only;omega) (by simp only;omega)
    · right;exact Prod.ext (by simp only;omega) (by simp only;omega)
    · right;exact Prod.ext (by simp only;omega) (by simp only;omega)
    · left;exact Prod.ext (by simp only;omega) (by simp only;omega)
  have np:∀{x y z:Nat},I5 ps.length (ts.getD (u/3) (0,0,0)) x y z->(x=c/\y=d\/x=d/\y=c)->u/3≠p/\u/3≠q:=λ{x y z} hs hxy=>by
    have hx:B_ (ts.getD (u/3) (0,0,0)) d=true:=(GX hs).2 (by rcases hxy with ⟨_,k⟩|⟨k,_⟩;exact .inr (.inl k.symm);exact .inl k.symm)
    have hy:B_ (ts.getD (u/3) (0,0,0)) c=true:=(GX hs).2 (by rcases hxy with ⟨k,_⟩|⟨_,k⟩;exact .inl k.symm;exact .inr (.inl k.symm))
    have a1:=h.sd.bc;have a2:=h.sd.ca;have a3:=h.sc.bc;have a4:=h.sc.ca
    constructor
    · intro k
      rw [k] at hx
      rcases (GX h.sc).1 hx with l|l|l<;>omega
    · intro k
      rw [k] at hy
      rcases (GX h.sd).1 hy with l|l|l<;>omega
  rcases hd with hd|hd
  · obtain ⟨x,hx⟩:=Ke hP.num hu hd
    obtain ⟨n1,n2⟩:=np hx (.inl ⟨rfl,rfl⟩)
    exact Rr hq (DS hP Z hx) (F8 hP ha h.pl Z n1.symm h.sc hx) (F8 hP ha h.ql Z n2.symm h.sd hx)
  · obtain ⟨x,hx⟩:=Ke hP.num hu hd
    obtain ⟨n1,n2⟩:=np hx (.inr ⟨rfl,rfl⟩)
    exact Rr hq.sw (DS hP Z hx) (F8 hP ha h.ql Z n2.symm h.sd hx) (F8 hP ha h.pl Z n1.symm h.sc hx)
theorem Xv (hP:GF ps ts) (ha:ML ps ts) (hN:ps.length<=4611686018427387904) (h:Hi ps.length ts e p q c d) (hf:Dg ps e.a e.b c d=true):Eh (B8 ts e.a e.b p q c d)=Eh ts :=
  IH Tz.asymm (Ei (KO hP h hf).num hN) (Ei hP.num hN) λs=>by
    rw [F4 (KO hP h hf).num hN,F4 hP.num hN]
    have k1:=Xh h (s.1,s.2.1)
    have k2:=Zo hP ha (s.1,s.2.1)
    have k3:=br hP ha h hf
    have hne:CB e.a e.b≠CB c d:=λk=>by
      have a1:=h.sc.bc;have a2:=h.sc.ca;have a3:=h.sc.ab;have a4:=h.sd.bc;have a5:=h.sd.ca
      unfold CB at k
      injection k with h1 h2
      omega
    have k4:dk e.a e.b (s.1,s.2.1)=1->dk c d (s.1,s.2.1)=0:=λy=>by
      unfold dk at *
      rw [if_neg]
      intro z
      by_cases w:CB e.a e.b=(s.1,s.2.1)
      · exact hne (w.trans z.symm)
      · rw [if_neg w] at y;cases y
    have k5:dk c d (s.1,s.2.1)=1->(Et ts).count (s.1,s.2.1)=0:=λy=>by
      unfold dk at y
      by_cases w:CB c d=(s.1,s.2.1)
      · rw [<-w];exact k3
      · rw [if_neg w] at y;cases y
    have d1:dk e.a e.b (s.1,s.2.1)=0\/dk e.a e.b (s.1,s.2.1)=1:=by unfold dk;split<;>simp
    have d2:dk c d (s.1,s.2.1)=0\/dk c d (s.1,s.2.1)=1:=by unfold dk;split<;>simp
    constructor
    · rintro ⟨y1,y2⟩;exact ⟨Z,y2⟩
    · rintro ⟨y1,y2⟩;exact ⟨Z,y2⟩
theorem Rb (hv:Fr ps ts ss) (h:Hi ps.length ts e p q c d) (hf:Dg ps e.a e.b c d=true):Fr ps (B8 ts e.a e.b p q c d) ss:=by
  obtain ⟨hP,⟨hu,hd⟩,ha,hr⟩:=Ks hv
  have hP2:=KO hP h hf
  have hl:=hv.pl
  have hrm:=Xv hP ha Z h hf
  have hlen:(B8 ts e.a e.b p q c d).length=ts.length:=CL
  exact ⟨hv.pl,by rw [hlen];exact hv.tl,by rw [hlen];exact hv.t0,hv.sl,hv.sz,hP2.num,hP2.pos,hv.sid,Xw h hu,hd,λi k hi hk=>U9 hP ha h hf (by rw [hlen] at hi;exact hi) (by rw [hlen] at hi;omega) Z,λi x hi hx=>Xu hP ha h hf (by rw [hlen] at hi;exact hi) hx,by rw [hrm];exact hv.rl,by rw [hrm];exact hv.rim⟩
theorem Kn {p:Nat} {t:T3} (hp:p<ts.length):∀n,Fu ps (ts.set p t) n=Fu ps ts n+(if p<n then F9 ps t-F9 ps (ts.getD p (0,0,0)) else 0)
  | 0=>by
    show (0:Rat)=0+_
    rw [if_neg (Nat.not_lt_zero _)];grind
  | n+1=>by
    show Fu ps (ts.set p t) n+F9 ps ((ts.set p t).getD n (0,0,0))=Fu ps ts n+F9 ps (ts.getD n (0,0,0))+_
    rw [Kn hp n,EM hp]
    by_cases h:p=n
    · subst h
      rw [if_pos rfl,if_neg (Nat.lt_irrefl _),if_pos (Nat.lt_succ_self _)];grind
    · rw [if_neg h]
      by_cases h2:p<n
      · rw [if_pos h2,if_pos Z];grind
      · rw [if_neg h2,if_neg Z];grind
theorem U7 (h:Hi ps.length ts e p q c d):Fu ps (B8 ts e.a e.b p q c d) ts.length=Fu ps ts ts.length:=by
  have hpl:=h.pl
  have hql:=h.ql
  unfold B8
  rw [Kn (by rw [List.length_set];exact hql),Kn hpl,if_pos hql,if_pos hpl,EM hpl,if_neg h.ne]
  have e1:F9 ps (ts.getD p (0,0,0))=AF (cor ps e.a) (cor ps e.b) (cor ps c)*(1/2):=by unfold F9;rw [(Ea h.sc ps).2]
  have e2:F9 ps (ts.getD q (0,0,0))=AF (cor ps e.b) (cor ps e.a) (cor ps d)*(1/2):=by unfold F9;rw [(Ea h.sd ps).2]
  have e3:F9 ps (e.a,d,c)=AF (cor ps e.a) (cor ps d) (cor ps c)*(1/2):=rfl
  have e4:F9 ps (d,e.b,c)=AF (cor ps d) (cor ps e.b) (cor ps c)*(1/2):=rfl
  rw [e1,e2,e3,e4]
  simp only [BO]
  grind
end
end
section
section
variable {ts:List T3} {N a b:Nat}
theorem Kz (hn:BV N ts=true) (hN:N<=4611686018427387904) {e:E4} (he:e∈BJ ts):0<=GJ ts (e.a:Int) (e.b:Int)/\Di ts (e.a:Int) (e.b:Int)=e:=by
  have hlt:=(HN hn hN he).1
  have hmn:min (e.a:Int) (e.b:Int)=e.a:=by omega
  have hmx:max (e.a:Int) (e.b:Int)=e.b:=by omega
  rcases LV (x:=min (e.a:Int) (e.b:Int)) (y:=max (e.a:Int) (e.b:Int)) (BJ ts) 0 with ⟨_,h⟩|⟨j,h1,h2,h3,h4⟩
  · exact absurd ⟨hmn.symm,hmx.symm⟩ (h e he)
  · have h5:GJ ts (e.a:Int) (e.b:Int)=(j:Int):=by unfold GJ;rw [h2,Nat.zero_add]
    refine ⟨Z,?_⟩
    rw [(Ky h5).1]
    rw [hmn] at h3
    rw [hmx] at h4
    obtain ⟨k,hk,rfl⟩:=List.getElem_of_mem he
    have hp:=List.pairwise_iff_getElem.1 (K0 hn hN)
    rw [List.getD,xQ h1] at h3 h4 ⊢
    simp only [Option.getD_some] at h3 h4 ⊢
    rcases Nat.lt_trichotomy j k with h|h|h
    · have:=hp j k h1 hk h;unfold ch at this;omega
    · subst h;rfl
    · have:=hp k j hk h1 h;unfold ch at this;omega
end
section
variable {α:Type} {f:α->α} {l:List α} {i:Nat} {d:α}
end
theorem Up {ts:List T3} {N:Nat} (hn:BV N ts=true) (hN:N<=4611686018427387904) (h:0<ts.length):0<(BJ ts).length:=by
  have h1:=Gr hn (show 0<3*ts.length by omega)
  have hd:=λu hu=>Gr (u:=u) hn hu
  have h2:=(Id (ts:=ts) hd _ (Nat.le_refl _)).2
  rw [Ic]
  rcases Nat.eq_zero_or_pos (Cl ts (3*ts.length)).length with e|e
  · have e1:Cl ts (3*ts.length)=[]:=List.length_eq_zero_iff.1 e
    rcases Nat.lt_or_gt_of_ne h1 with k|k
    · have:=(h2 ((Br ts 0).1,(Br ts 0).2) (by rw [e1];rfl) k 0 Z).1
      exact absurd O this
    · have:=(h2 ((Br ts 0).2,(Br ts 0).1) (by rw [e1];rfl) k 0 Z).2
      exact absurd O this
  · exact e
end
end Go.Proofs.YtbfdamnfcmefmaaGreatDoor
