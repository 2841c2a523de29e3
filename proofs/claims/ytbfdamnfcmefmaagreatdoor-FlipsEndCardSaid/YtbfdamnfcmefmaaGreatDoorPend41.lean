import Derived.Test.YtbfdamnfcmefmaaGreatDoorPend38
import Derived.Test.YtbfdamnfcmefmaaGreatDoorPend40
namespace Go.Proofs.YtbfdamnfcmefmaaGreatDoor
open Go Go.RowKit Go.Proofs.Tryz
open Go.Value renaming slice→qz,bool→qa
set_option linter.unusedVariables false
set_option linter.unusedSimpArgs false
section
section
variable {a b c d e f g u w z X:Pt}
def ev (a b c X:Pt):Rat:=AC b c X*Ed a+AC c a X*Ed b+AC a b X*Ed c
def md (a b:Pt):Pt:=⟨(a.x+b.x)*(1/2),(a.y+b.y)*(1/2)⟩
def lq (a b:Pt):Rat:=(Ed a+Ed b)*(1/2)
theorem Uy (a b c X:Pt):ev b c a X=ev a b c X:=by unfold ev;grind
theorem aN (p q a b:Pt):AC p q (md a b)=(AC p q a+AC p q b)*(1/2):=by
  unfold md;simp only [BC];grind
theorem KM (a b c:Pt):AC a b (md a b)=0/\AC b c (md a b)=AC a b c*(1/2)/\AC c a (md a b)=AC a b c*(1/2):=by
  unfold md;simp only [BC];exact ⟨by grind,by grind,by grind⟩
theorem ZQ (a b c:Pt):ev a b c (md a b)=AC a b c*lq a b:=by
  obtain ⟨h1,h2,h3⟩:=KM a b c
  unfold ev lq;rw [h1,h2,h3];grind
theorem KG (a b c d:Pt):Fq a b c d=ev a b c d-AC a b c*Ed d:=by
  unfold Fq ev
  simp only [We,HJ,HI,BC,Pc,Pd];grind
theorem ek (a b c d X:Pt):AC a b c*ev a d c X-AC a d c*ev a b c X = -(Fq a b c d*AC c a X):=by
  rw [KG];unfold ev
  generalize Ed a=A;generalize Ed b=B;generalize Ed c=C;generalize Ed d=D
  simp only [BC];grind
theorem fL (a b c d X:Pt):AC b a d*ev a d c X-AC a d c*ev b a d X = -(Fq a b c d*AC a d X):=by
  rw [KG];unfold ev
  generalize Ed a=A;generalize Ed b=B;generalize Ed c=C;generalize Ed d=D
  simp only [BC];grind
theorem en (a b c d X:Pt):AC a b c*ev d b c X-AC d b c*ev a b c X = -(Fq a b c d*AC b c X):=by
  rw [KG];unfold ev
  generalize Ed a=A;generalize Ed b=B;generalize Ed c=C;generalize Ed d=D
  simp only [BC];grind
theorem fM (a b c d X:Pt):AC b a d*ev d b c X-AC d b c*ev b a d X = -(Fq a b c d*AC d b X):=by
  rw [KG];unfold ev
  generalize Ed a=A;generalize Ed b=B;generalize Ed c=C;generalize Ed d=D
  simp only [BC];grind
theorem I9 {D D' E E' k v:Rat} (hD:0<D) (h1:D*E'-D'*E = -k) (h:0<D'*(D*v-E)+k):E'<D'*v:=by
  have:=Qn hD (y:=D'*v-E') (by grind)
  grind
theorem Qf (h:¬ER a b c X):0<=AC a b X/\0<=AC b c X/\0<=AC c a X:=by
  unfold ER at h
  refine ⟨?_,?_,?_⟩<;>(refine Classical.byContradiction λk=>h ?_)
  · exact .inl (by grind)
  · exact .inr (.inl (by grind))
  · exact .inr (.inr (by grind))
theorem Iz (hA:0<AC a b c) (hB:0<AC u w z) (h1:AC u w a<=0) (h2:AC u w b<=0) (h3:AC u w c<=0) (h4:0<=AC u w (md a b)):AC a b u<=0/\AC a b w<=0/\AC a b z<=0:=by
  rw [aN] at h4
  have e1:AC u w a=0:=by grind
  have e2:AC u w b=0:=by grind
  have p1:=MJ u w z u a b
  have p2:=MJ u w z w a b
  have q1:AC u a u=0:=GW u a
  have q2:AC u a w=0:=by have e:=e1;simp only [BC] at e ⊢;grind
  have q3:AC w a w=0:=GW w a
  have q4:AC w a u=0:=by rw [BZ u w a];exact e1
  rw [q1,q2,e2] at p1
  rw [q4,q3,e2] at p2
  have zr:∀y:Rat,AC u w z*y=0->y=0:=λy h=>by
    have n1:=OD hB (y:=y) (by grind)
    have n2:=OD hB (y := -y) (by grind)
    grind
  have f1:AC a b u=0:=(BZ u a b).trans (zr _ (by grind))
  have f2:AC a b w=0:=(BZ w a b).trans (zr _ (by grind))
  have p3:=MJ u w z a b c
  rw [f1,f2] at p3
  have m:=Rat.mul_pos hB hA
  refine ⟨by grind,by grind,?_⟩
  refine Classical.byContradiction λk=>?_
  have:=Rat.mul_nonneg (show 0 <= - AC u w c by grind) (show 0<=AC a b z by grind)
  grind
theorem Rw (hA:0<AC a b c) (hB:0<AC e f g) (hb:Fl a b c e f g\/Fl e f g a b c) (hx:¬ER e f g (md a b)):AC a b e<=0/\AC a b f<=0/\AC a b g<=0:=by
  obtain ⟨x1,x2,x3⟩:=Qf hx
  obtain ⟨m1,m2,m3⟩:=KM a b c
  have no:∀p q:Pt,0<AC p q (md a b)->AC p q e<=0->AC p q f<=0->AC p q g<=0->False:=λp q k k1 k2 k3=>by
    have hb:=MJ e f g p q (md a b)
    have n0:=Rat.mul_pos hB k
    have n1:=Rat.mul_nonneg x2 (show 0 <= - AC p q e by grind)
    have n2:=Rat.mul_nonneg x3 (show 0 <= - AC p q f by grind)
    have n3:=Rat.mul_nonneg x1 (show 0 <= - AC p q g by grind)
    grind
  have hh:=Rat.mul_pos hA (show (0:Rat)<1/2 by decide +kernel)
  rcases hb with (h|⟨h1,h2,h3⟩|⟨h1,h2,h3⟩)|⟨h1,h2,h3⟩|⟨h1,h2,h3⟩|⟨h1,h2,h3⟩
  · exact h
  · exact (no b c (by rw [m2];exact hh) h1 h2 h3).elim
  · exact (no c a (by rw [m3];exact hh) h1 h2 h3).elim
  · exact Iz hA hB h1 h2 h3 x1
  · have k:=Iz (z:=e) hA (by rw [BZ e f g];exact hB) h1 h2 h3 x2
    exact ⟨k.2.2,k.1,k.2.1⟩
  · have k:=Iz (z:=f) hA (by rw [<-BZ g e f];exact hB) h1 h2 h3 x3
    exact ⟨k.2.1,k.2.2,k.1⟩
theorem bf (hl:0<AC a b c) (hr:0<AC b a d) (hB:0<AC e f g) (h1:Fl a b c e f g\/Fl e f g a b c) (h2:Fl b a d e f g\/Fl e f g b a d) (hx:¬ER e f g (md a b)):False:=by
  obtain ⟨x1,x2,x3⟩:=Rw hl hB h1 hx
  have hm:md b a=md a b:=by unfold md;rw [show b.x+a.x=a.x+b.x by grind,show b.y+a.y=a.y+b.y by grind]
  obtain ⟨y1,y2,y3⟩:=Rw hr hB h2 (by rw [hm];exact hx)
  have s:∀q:Pt,AC b a q = - AC a b q:=λq=>by simp only [BC];grind
  rw [s] at y1 y2 y3
  have k:=MJ e f g a b c
  rw [show AC a b e=0 by grind,show AC a b f=0 by grind,show AC a b g=0 by grind] at k
  have:=Rat.mul_pos hB hl
  grind
end
section
variable {ps:List Pt} {ts ss:List T3} {e:E4} {p q c d:Nat} {X:Pt} {v:Rat}
theorem ax {N a b c:Nat} {t:T3} (h:Mj N t a b c) (ps:List Pt) (X:Pt):ev (cor ps t.1) (cor ps t.2.1) (cor ps t.2.2) X=ev (cor ps a) (cor ps b) (cor ps c) X/\(ER (cor ps t.1) (cor ps t.2.1) (cor ps t.2.2) X->ER (cor ps a) (cor ps b) (cor ps c) X)/\(ER (cor ps a) (cor ps b) (cor ps c) X->ER (cor ps t.1) (cor ps t.2.1) (cor ps t.2.2) X):=by
  rcases h.w with ⟨e1,e2,e3⟩|⟨e1,e2,e3⟩|⟨e1,e2,e3⟩<;>rw [e1,e2,e3]
  · exact ⟨rfl,id,id⟩
  · exact ⟨(Uy _ _ _ _).symm,λk=>k.rot,λk=>k.rot.rot⟩
  · exact ⟨Uy _ _ _ _,λk=>k.rot.rot,λk=>k.rot⟩
def ZJ (ps:List Pt) (ts:List T3) (X:Pt) (v:Rat):Prop:=∀j,j<ts.length->¬ER (cor ps (ts.getD j (0,0,0)).1) (cor ps (ts.getD j (0,0,0)).2.1) (cor ps (ts.getD j (0,0,0)).2.2) X->ev (cor ps (ts.getD j (0,0,0)).1) (cor ps (ts.getD j (0,0,0)).2.1) (cor ps (ts.getD j (0,0,0)).2.2) X<AC (cor ps (ts.getD j (0,0,0)).1) (cor ps (ts.getD j (0,0,0)).2.1) (cor ps (ts.getD j (0,0,0)).2.2)*v
theorem ZJ.sid (hb:ZJ ps ts X v) {j a b c:Nat} (hj:j<ts.length) (hs:Mj ps.length (ts.getD j (0,0,0)) a b c) (ho:¬ER (cor ps a) (cor ps b) (cor ps c) X):ev (cor ps a) (cor ps b) (cor ps c) X<AC (cor ps a) (cor ps b) (cor ps c)*v:=by
  obtain ⟨e1,e2,_⟩:=ax hs ps X
  have:=hb j hj (λy=>ho (e2 y))
  rwa [e1,(Do hs ps).2] at this
theorem Xa (hP:E_ ps ts) (h:IJ ps.length ts e p q c d) (hf:Db ps e.a e.b c d=true) (hi:0<Fq (cor ps e.a) (cor ps e.b) (cor ps c) (cor ps d)) (hb:ZJ ps ts X v):ZJ ps (CF ts e.a e.b p q c d) X v:=λj hj hx=>by
  rw [Ca] at hj
  have hq:=L7 hP h hf
  have hl:=hq.l;have hr:=hq.r;have hn:=hq.n;have hm:=hq.m
  rw [D5 h] at hx ⊢
  by_cases iq:q=j
  · rw [if_pos iq] at hx ⊢
    have hx:¬ER (cor ps d) (cor ps e.b) (cor ps c) X:=hx
    show ev (cor ps d) (cor ps e.b) (cor ps c) X<AC (cor ps d) (cor ps e.b) (cor ps c)*v
    obtain ⟨x1,x2,x3⟩:=Qf hx
    rcases KV hq.sw (x:=X) (λy=>hx y.rot.rot) with y|y
    · have k:=hb.sid h.ql h.sd y
      have m1:=Rat.mul_pos hm (show 0<AC (cor ps e.b) (cor ps e.a) (cor ps d)*v-ev (cor ps e.b) (cor ps e.a) (cor ps d) X by grind)
      have m2:=Rat.mul_nonneg (Rat.le_of_lt hi) x1
      exact I9 hr (fM _ _ _ _ _) (by grind)
    · have k:=hb.sid h.pl h.sc y
      have m1:=Rat.mul_pos hm (show 0<AC (cor ps e.a) (cor ps e.b) (cor ps c)*v-ev (cor ps e.a) (cor ps e.b) (cor ps c) X by grind)
      have m2:=Rat.mul_nonneg (Rat.le_of_lt hi) x2
      exact I9 hl (en _ _ _ _ _) (by grind)
  · rw [if_neg iq] at hx ⊢
    by_cases ip:p=j
    · rw [if_pos ip] at hx ⊢
      have hx:¬ER (cor ps e.a) (cor ps d) (cor ps c) X:=hx
      show ev (cor ps e.a) (cor ps d) (cor ps c) X<AC (cor ps e.a) (cor ps d) (cor ps c)*v
      obtain ⟨x1,x2,x3⟩:=Qf hx
      rcases KV hq hx with y|y
      · have k:=hb.sid h.pl h.sc y
        have m1:=Rat.mul_pos hn (show 0<AC (cor ps e.a) (cor ps e.b) (cor ps c)*v-ev (cor ps e.a) (cor ps e.b) (cor ps c) X by grind)
        have m2:=Rat.mul_nonneg (Rat.le_of_lt hi) x3
        exact I9 hl (ek _ _ _ _ _) (by grind)
      · have k:=hb.sid h.ql h.sd y
        have m1:=Rat.mul_pos hn (show 0<AC (cor ps e.b) (cor ps e.a) (cor ps d)*v-ev (cor ps e.b) (cor ps e.a) (cor ps d) X by grind)
        have m2:=Rat.mul_nonneg (Rat.le_of_lt hi) x1
        exact I9 hr (fL _ _ _ _ _) (by grind)
    · rw [if_neg ip] at hx ⊢
      exact hb j hj hx
theorem Wa {N:Nat} (hn:Ba N ts=true) {j:Nat} (hj:j<ts.length):Mj N (ts.getD j (0,0,0)) (ts.getD j (0,0,0)).1 (ts.getD j (0,0,0)).2.1 (ts.getD j (0,0,0)).2.2:=by
  have hk:=Bw hn hj
  generalize ts.getD j (0,0,0)=T at hk ⊢
  obtain ⟨p,q,r⟩:=T
  simp only [Ig,yz,xX,xV,xU] at hk
  obtain ⟨⟨⟨⟨⟨g1,g2⟩,g3⟩,g4⟩,g5⟩,g6⟩:=hk
  exact ⟨.inl ⟨rfl,rfl,rfl⟩,g4,g5,g6,g1,g2,g3⟩
theorem Xb (hP:E_ ps ts) (ha:NP ps ts) (h:IJ ps.length ts e p q c d) (hf:Db ps e.a e.b c d=true) (hi:0<Fq (cor ps e.a) (cor ps e.b) (cor ps c) (cor ps d)):ZJ ps (CF ts e.a e.b p q c d) (md (cor ps e.a) (cor ps e.b)) (lq (cor ps e.a) (cor ps e.b)):=λj hj hx=>by
  rw [Ca] at hj
  have hq:=L7 hP h hf
  have hl:=hq.l;have hr:=hq.r
  obtain ⟨m1,m2,m3⟩:=KM (cor ps e.a) (cor ps e.b) (cor ps c)
  have hh:=Rat.mul_pos hi (Rat.mul_pos hl (show (0:Rat)<1/2 by decide +kernel))
  have he:=ZQ (cor ps e.a) (cor ps e.b) (cor ps c)
  rw [D5 h] at hx ⊢
  by_cases iq:q=j
  · rw [if_pos iq]
    show ev (cor ps d) (cor ps e.b) (cor ps c) _<AC (cor ps d) (cor ps e.b) (cor ps c)*_
    exact I9 hl (en _ _ _ _ _) (by rw [he,m2];grind)
  · rw [if_neg iq] at hx ⊢
    by_cases ip:p=j
    · rw [if_pos ip]
      show ev (cor ps e.a) (cor ps d) (cor ps c) _<AC (cor ps e.a) (cor ps d) (cor ps c)*_
      exact I9 hl (ek _ _ _ _ _) (by rw [he,m3];grind)
    · rw [if_neg ip] at hx ⊢
      have hs:=Wa hP.num hj
      exact (bf hl hr (DL hP hj hs) (FO hP ha h.pl hj ip h.sc hs) (FO hP ha h.ql hj iq h.sd hs) hx).elim
theorem UV (hP:E_ ps ts) (h:IJ ps.length ts e p q c d) (hb:ZJ ps ts (md (cor ps e.a) (cor ps e.b)) (lq (cor ps e.a) (cor ps e.b))):False:=by
  obtain ⟨m1,m2,m3⟩:=KM (cor ps e.a) (cor ps e.b) (cor ps c)
  have hl:=DL hP h.pl h.sc
  have hh:=Rat.mul_pos hl (show (0:Rat)<1/2 by decide +kernel)
  have k:=hb.sid h.pl h.sc (λy=>by
    rcases y with y|y|y
    · rw [m1] at y;exact Rat.lt_irrefl y
    · rw [m2] at y;grind
    · rw [m3] at y;grind)
  rw [ZQ] at k
  exact Rat.lt_irrefl k
structure Tx (ps:List Pt) (ts:List T3) (ks:List P2):Prop where
  nd:ks.Nodup
  mem:∀k∈ks,k.1<k.2/\k.2<ps.length
  blw:∀k∈ks,ZJ ps ts (md (cor ps k.1) (cor ps k.2)) (lq (cor ps k.1) (cor ps k.2))
theorem Sf {ks:List P2} (hv:Eo ps ts ss) (hh:Tx ps ts ks) (hn:nexV ps ts=true):∃k,Tx ps (Cj ps ts) (k::ks)/\Eo ps (Cj ps ts) ss/\Er ps (Cj ps ts) ts.length=Er ps ts ts.length:=by
  obtain ⟨hP,_,ha,_⟩:=NZ hv
  have hl:=hv.pl
  have hN:ps.length<=4611686018427387904:=by omega
  obtain ⟨j,p,q,c,d,hj,_,h2,hf,hc,ht⟩:=Rq hP hN hn
  have hm:(BK ts).getD j E0∈BK ts:=by rw [List.getD,xP hj];exact List.getElem_mem hj
  generalize (BK ts).getD j E0=e at *
  have hi:0<Fq (cor ps e.a) (cor ps e.b) (cor ps c) (cor ps d):=by
    have hp:=hP.pos p h2.pl
    rw [(Do h2.sc ps).2] at hp
    have k:(Fq (cor ps e.a) (cor ps e.b) (cor ps c) (cor ps d)).num.sign*(AC (cor ps e.a) (cor ps e.b) (cor ps c)).num.sign=1:=hc
    rw [hp,Int.mul_one] at k;exact G1.1 k
  have he:=HL hP.num hN hm
  rw [ht]
  have g1:∀k∈(e.a,e.b)::ks,k.1<k.2/\k.2<ps.length:=λk hk=>by
    rcases xN.1 hk with rfl|hk
    · exact ⟨he.1,h2.sc.b⟩
    · exact hh.mem k hk
  have g2:∀k∈(e.a,e.b)::ks,ZJ ps (CF ts e.a e.b p q c d) (md (cor ps k.1) (cor ps k.2)) (lq (cor ps k.1) (cor ps k.2)):=λk hk=>by
    rcases xN.1 hk with rfl|hk
    · exact Xb hP ha h2 hf hi
    · exact Xa hP h2 hf hi (hh.blw k hk)
  have g3:(e.a,e.b) ∉ ks:=λk=>UV hP h2 (hh.blw (e.a,e.b) k)
  exact ⟨(e.a,e.b),⟨List.nodup_cons.2 ⟨g3,hh.nd⟩,g1,g2⟩,X5 hv h2 hf,VA h2⟩
end
def bS:Nat->List P2
  | 0=>[]
  | n+1=>bS n++(List.range n).map λa=>(a,n)
theorem Rz:∀n,2*(bS n).length=n*(n-1)
  | 0=>rfl
  | n+1=>by
    have ih:=Rz n
    rw [bS,xL,xK,List.length_range]
    cases n with
    | zero=>rfl
    | succ m=>simp only [Nat.add_sub_cancel] at *;rw [Nat.mul_add,ih,Nat.mul_comm (m+1) m,<-Nat.add_mul,Nat.mul_comm]
theorem Rn {a b:Nat} (h1:a<b):∀{n:Nat},b<n->(a,b)∈bS n
  | 0,h=>absurd h (Nat.not_lt_zero _)
  | n+1,h=>by
    rw [bS,List.mem_append]
    by_cases k:b=n
    · subst k;exact .inr (List.mem_map.2 ⟨a,List.mem_range.2 h1,rfl⟩)
    · exact .inl (Rn h1 Z)
theorem Tx.len {ps:List Pt} {ts:List T3} {ks:List P2} (h:Tx ps ts ks):2*ks.length<=ps.length*(ps.length-1):=by
  rw [<-Rz]
  have:=I_ h.nd (m:=bS ps.length) λk hk=>Rn (h.mem k hk).1 (h.mem k hk).2
  omega
structure Run (ps:List Pt) (ts ss us:List T3) (n:Nat):Prop where
  ln:us.length=ts.length
  ck:Eo ps us ss
  hs:∃ks,ks.length=n/\Tx ps us ks
  dl:dl ps ts=((dl ps us).1,(dl ps us).2+n)
  ar:Er ps us ts.length=Er ps ts ts.length
  lf:(n=0->us=ts)/\(0<n->DE ps us<DE ps ts)
section
variable {ps:List Pt} {ts ss us:List T3} {n:Nat}
theorem ZV (hv:Eo ps ts ss):Run ps ts ss ts 0:=⟨rfl,hv,⟨[],rfl,List.nodup_nil,λk h=>(by cases h),λk h=>(by cases h)⟩,rfl,rfl,λ_=>rfl,λh=>absurd h (Nat.lt_irrefl _)⟩
theorem Gz (h:Run ps ts ss us n) (hn:nexV ps us=true):Run ps ts ss (Cj ps us) (n+1)/\Hy ps (Cj ps us)<Hy ps us:=by
  obtain ⟨ks,hk,hh⟩:=h.hs
  have hP:=(NZ h.ck).1
  have hl:=h.ck.pl
  have hN:ps.length<=4611686018427387904:=by omega
  obtain ⟨k,k1,k2,k3⟩:=Sf h.ck hh hn
  have k4:=Xq hP hN hn
  have k5:=(Ie hP hN hn).1
  refine ⟨⟨FN.trans h.ln,k2,⟨k::ks,by rw [List.length_cons,hk],k1⟩,by rw [h.dl,k4];simp only;rw [Nat.add_assoc,Nat.add_comm 1 n],by rw [<-h.ar,<-h.ln];exact k3,λh=>by omega,λ_=>?_⟩,Ic hP hN hn⟩
  rcases Nat.eq_zero_or_pos n with z|z
  · rw [<-h.lf.1 z];exact k5
  · have:=h.lf.2 z;grind
theorem Run.len (h:Run ps ts ss us n):2*n<=ps.length*(ps.length-1):=by
  obtain ⟨ks,hk,hh⟩:=h.hs
  have:=hh.len;omega
theorem OK (h:Run ps ts ss us n) (hn:nexV ps us=false):dl ps ts=(us,n):=by
  rw [h.dl,dl_stop hn,Nat.zero_add]
theorem SZ (hv:Eo ps us ss) (hn:nexV ps us=false) {e:E4} (he:e∈BK us):Dx ps us e=true:=by
  have hP:=(NZ hv).1
  have hl:=hv.pl
  have hN:ps.length<=4611686018427387904:=by omega
  rcases LZ ps us with k|⟨j,hj,k1,k2⟩
  · have go:∀(es:List E4) (i:Nat),nexI ps us es i = -1->∀e∈es,Dx ps us e=true:=by
      intro es
      induction es with
      | nil=>intro i _ e h;cases h
      | cons x r ih =>
        intro i h e he
        unfold nexI at h
        by_cases hx:Dx ps us x=true
        · rw [if_pos hx] at h
          rcases xN.1 he with rfl|he
          · exact hx
          · exact ih (i+1) h e he
        · rw [if_neg hx] at h;omega
    exact go _ 0 k e he
  · exfalso
    have hm:(BK us).getD j E0∈BK us:=by rw [List.getD,xP hj];exact List.getElem_mem hj
    have hb:0<=((BK us).getD j E0).l/\0<=((BK us).getD j E0).r:=by
      by_cases hb:0<=((BK us).getD j E0).l/\0<=((BK us).getD j E0).r
      · exact hb
      · rw [N5 hb] at k2;cases k2
    obtain ⟨p,q,c,d,h2⟩:=JP hP.num hN hm hb.1 hb.2
    have h3:=Rv k1 rfl h2
    rw [hn] at h3
    have a1:=hP.pos p h2.pl
    have a2:=hP.pos q h2.ql
    rw [LU h2] at k2
    generalize (BK us).getD j E0=x at *
    rw [(Do h2.sc ps).2] at a1
    rw [(Do h2.sd ps).2,G1] at a2
    have k3:(Fq (cor ps x.a) (cor ps x.b) (cor ps c) (cor ps d)).num.sign*(AC (cor ps x.a) (cor ps x.b) (cor ps c)).num.sign=1:=by
      have k4:Ko (cor ps x.a) (cor ps x.b) (cor ps c) (cor ps d)=1:=by simpa using k2
      exact k4
    rw [a1,Int.mul_one] at k3
    obtain ⟨b1,b2⟩:=SP (G1.1 a1) a2 (G1.1 k3)
    have h4:=h3.1
    rw [O9 (G1.2 b1) (G1.2 b2)] at h4
    cases h4
end
end
section
section
variable {ts:List T3} {N a b:Nat}
theorem Z1 (hn:Ba N ts=true) (hN:N<=4611686018427387904) {e:E4} (he:e∈BK ts):0<=GF ts (e.a:Int) (e.b:Int)/\Dh ts (e.a:Int) (e.b:Int)=e:=by
  have hlt:=(HL hn hN he).1
  have hmn:min (e.a:Int) (e.b:Int)=e.a:=by omega
  have hmx:max (e.a:Int) (e.b:Int)=e.b:=by omega
  rcases LN (x:=min (e.a:Int) (e.b:Int)) (y:=max (e.a:Int) (e.b:Int)) (BK ts) 0 with ⟨_,h⟩|⟨j,h1,h2,h3,h4⟩
  · exact absurd ⟨hmn.symm,hmx.symm⟩ (h e he)
  · have h5:GF ts (e.a:Int) (e.b:Int)=(j:Int):=by unfold GF;rw [h2,Nat.zero_add]
    refine ⟨Z,?_⟩
    rw [(Kv h5).1]
    rw [hmn] at h3
    rw [hmx] at h4
    obtain ⟨k,hk,rfl⟩:=List.getElem_of_mem he
    have hp:=List.pairwise_iff_getElem.1 (Kw hn hN)
    rw [List.getD,xP h1] at h3 h4 ⊢
    simp only [Option.getD_some] at h3 h4 ⊢
    rcases Nat.lt_trichotomy j k with h|h|h
    · have:=hp j k h1 hk h;unfold c9 at this;omega
    · subst h;rfl
    · have:=hp k j hk h1 h;unfold c9 at this;omega
end
section
variable {α:Type} {f:α->α} {l:List α} {i:Nat} {d:α}
end
end
section
structure fE (ps:List Pt) (ts ss:List T3) (e:Nat) where
  x:MX ps ts ss
instance {ps:List Pt} {ts ss:List T3} {e:Nat}:Cy (fE ps ts ss e):=⟨λr=>.tuple #[aG (Cf r.x),vN e],λr=>[r.x.a.row,r.x.b.row,r.x.c.row],λr y hy=>Vs hy⟩
section
variable {ps:List Pt} {ts ss:List T3} {e:E4} {p q c d:Nat} {zs:List Z3}
theorem PF (hz:∀k,Bl (cor ps k)<=1000) (ts:List T3):Sz (DE ps ts)<=10+ts.length*20312:=by
  have h1:=KK hz ts ts.length
  have h2:Sz (((1:Int):Rat)/((3:Int):Rat))<=8:=by decide +kernel
  have h3:=Cz (Gu ps ts ts.length) (((1:Int):Rat)/((3:Int):Rat))
  unfold DE
  omega
theorem ay (hn:Ba ps.length ts=true) (hN:ps.length<=4611686018427387904) (he:e∈BK ts):XE ps ts (e.a:Int) (e.b:Int)=Dx ps ts e/\XF ts (e.a:Int) (e.b:Int)=0:=by
  obtain ⟨g1,g2⟩:=Z1 hn hN he
  have g3:=QV (ps:=ps) g1
  rw [g2] at g3;exact g3
theorem Z2 (ts:List T3) (x y:Int):GF ts x y=GF ts y x:=by unfold GF;rw [Int.min_comm,Int.max_comm]
end
end
section
structure bX (ps:List Pt) (ts ss:List T3) (n e:Nat) where
  x:MX ps ts ss
instance {ps:List Pt} {ts ss:List T3} {n e:Nat}:Cy (bX ps ts ss n e):=⟨λr=>.tuple #[aG (Cf r.x),vN n,vN e],λr=>[r.x.a.row,r.x.b.row,r.x.c.row],λr y hy=>Vs hy⟩
theorem Z0 {ps:List Pt} {ts ss:List T3} {n e:Nat} {S:Nat->Prop} {W w:World} {E:Ending} (h:BP (DlN ps ts (ss.map D7) n e) S W E w):BP (bX ps ts ss n e) S W E w:=by
  obtain ⟨⟨⟨a,b,⟨cp,cc,cok⟩⟩⟩,h1,h2,h3⟩:=h
  have hk:(ss.map D7).length=ss.length:=xK _
  refine ⟨⟨⟨a,b,⟨cp,cc,hk▸cok⟩⟩⟩,?_,h2,λy hy=>?_⟩
  · rw [h1]
    show Ending.returned (.tuple #[aG [a.val,b.val,qz cp (ss.map D7).length cc],vN n,vN e])=.returned (.tuple #[aG [a.val,b.val,qz cp ss.length cc],vN n,vN e])
    rw [xK]
  · have hy:y∈[a.row,b.row,AN cp (rowsL Af ss)]:=hy
    rw [E6 ss] at hy
    exact h3 y hy
structure Od (ps:List Pt) (ts ss D:List T3) (n:Nat):Prop where
  run:Run ps ts ss D n
  no:nexV ps D=false
  d1:dl ps ts=(D,n)
  d2:dl ps D=(D,0)
theorem Z5 {ps:List Pt} {ts ss:List T3} (hv:Eo ps ts ss):∃D n,Od ps ts ss D n:=by
  have go:∀(k:Nat) (us:List T3) (n:Nat),Hy ps us<=k->Run ps ts ss us n->∃D n,Od ps ts ss D n:=by
    intro k
    induction k with
    | zero =>
      intro us n hk hr
      cases hn:nexV ps us with
      | false=>exact ⟨us,n,hr,hn,OK hr hn,dl_stop hn⟩
      | true=>have:=(Gz hr hn).2;omega
    | succ k ih =>
      intro us n hk hr
      cases hn:nexV ps us with
      | false=>exact ⟨us,n,hr,hn,OK hr hn,dl_stop hn⟩
      | true=>exact ih _ _ (by have:=(Gz hr hn).2;omega) (Gz hr hn).1
  exact go _ _ _ (Nat.le_refl _) (ZV hv)
section
variable {ps:List Pt} {ts ss D:List T3} {n:Nat}
theorem Od.lg (h:Od ps ts ss D n) {e:E4} (he:e∈BK D):XE ps D (e.b:Int) (e.a:Int)=true/\XF D (e.b:Int) (e.a:Int)=0:=by
  have hl:=h.run.ck.pl
  have hN:ps.length<=4611686018427387904:=by omega
  have k:=ay h.run.ck.num hN he
  rw [SZ h.run.ck h.no he] at k
  unfold XE XF at *
  rw [Z2 D (e.b:Int) (e.a:Int)];exact k
theorem Od.ar (h:Od ps ts ss D n):Er ps D D.length=Er ps ts ts.length:=by rw [h.run.ln];exact h.run.ar
theorem Od.le (h:Od ps ts ss D n):¬0<FV (DE ps D) (DE ps ts)/\decide (FV (DE ps D) (DE ps ts)=0)=decide (n=0):=by
  obtain ⟨k1,k2⟩:=h.run.lf
  rcases Nat.eq_zero_or_pos n with z|z
  · rw [k1 z,Na.2 rfl,xI rfl,xI z]
    exact ⟨Z,rfl⟩
  · have:=IQ.2 (k2 z)
    rw [xH (show ¬FV (DE ps D) (DE ps ts)=0 by omega),xH (show ¬n=0 by omega)]
    exact ⟨Z,rfl⟩
end
end
section
set_option maxRecDepth 100000
set_option maxHeartbeats 1000000 in
theorem Zc {ps:List Pt} {ts:List T3} {ss:List Z3} (x:MN ps ts ss) {s3:List T3} (hv:Eo ps ts s3) (htl:ts.length<=1000000) (hN:ps.length<=1000000) (hsl:ss.length<=1000000) (hz:∀i,Bl (cor ps i)<=200000) (hC:∀(w:World) (S:Nat->Prop),Ro S w x->Calls prog 22 #[(aG (CG x))] w (Ac w (vN 0))) (w:World) {S:Nat->Prop} (hx:Ro S w x):Calls prog 7 #[(aG (CG x))] w (BP (DlN ps (dl ps ts).1 ss (dl ps ts).2 0) S w):=by
 have lx:=DT (W:=w) hx
 refine Ag (args:=[(aG (CG x))]) (L:=[AN x.a.p (rowsL Aa ps),AN x.b.p (rowsL Af ts),AN x.c.p (rowsL BU ss)]) func7 O O (A_ O) (DU hx Az) (zM (sL [0] O) (q4 (BV (cs:=CG x) O λb1=>al G6 O λb2=>asg' O (asg' O (q6 (sL [1,2,3,4] O) (q4 (Ak 1 BY O (C3 call22 (λw hw=>hC w _ (CL hw 2 O lx)) O (asg' O ?_)))))))))
 refine q3 (sL [1,2,3,4] O) (AL O (AD (Bv (c:=false) O O jY) O (oNl' (zB (sL [1,2,3,4,8] O) (zA (zS O (zC (q2 (Ak 1 BY O (yH (S:=S) (V:=λa:XN ps ts ss=>aG (Zw a)) (LW:=Zx) (args:=[(aG (CG x))]) call27 (λw hw=>Gh x Z Z Z w (CL hw 2 O lx)) O λcp hcp=>zx 2 O cp.a.ok (AZ Ap _) O O λhn_cp_a=>?_))))))))))
 refine zx 0 O cp.c.ok (AZ Ce _) O O λhn_cp_c=>Fi O sizeOf34 O (q6 (sL [1,2,3,4] O) (zI ?_))
 refine yE (tg λ(us:List T3) (n:Nat)=>Run ps ts s3 us n) (tg λ(us:List T3) (n:Nat)=>[(2,(pP b2 0)),(4,(vI 0)),(3,(vN n))]) (tg λ(us:List T3) (n:Nat)=>[AN cp.c.p (rowsL BU ss),rowW cp.b.p 71 3 ts.length cp.b.c (rowsL Af us),AN cp.a.p (rowsL Aa ps),AY b2 34 ([(qz cp.a.p ps.length ps.length),(qz cp.b.p ts.length ts.length),(qz cp.c.p ss.length ss.length)]),AY b1 34 (CG x),AN x.a.p (rowsL Aa ps),AN x.b.p (rowsL Af ts),AN x.c.p (rowsL BU ss)]) (tg λ(us:List T3) (n:Nat)=>Hy ps us) ts 0 (ZV hv) (sF O) sr (λus n hJ=>?_)
 have hr:=hJ
 refine zX (q4 (Ak 3 BY O (yS (v:=qa (nexV ps us)) (α:=Unit) (K:=λ_=>True) (LO:=λ_=>[AN cp.c.p (rowsL BU ss),rowW cp.b.p 71 3 ts.length cp.b.c (rowsL Af (Cj ps us)),AN cp.a.p (rowsL Aa ps),AY b2 34 ([(qz cp.a.p ps.length ps.length),(qz cp.b.p ts.length ts.length),(qz cp.c.p ss.length ss.length)]),AY b1 34 (CG x),AN x.a.p (rowsL Aa ps),AN x.b.p (rowsL Af ts),AN x.c.p (rowsL BU ss)]) (AI O) (Dn (args:=[(aG ([(qz cp.a.p ps.length ps.length),(qz cp.b.p ts.length ts.length),(qz cp.c.p ss.length ss.length)]))]) (caps:=[]) (all:=[(aG ([(qz cp.a.p ps.length ps.length),(qz cp.b.p ts.length ts.length),(qz cp.c.p ss.length ss.length)]))]) O O O call28) (Cv [1,2,0,3,4,5,6,7] (show List.Perm [1,2,0,3,4,5,6,7] (List.range 8) by decide) O) (λw hw=>(La (us:=us) cp.a.p cp.b.p cp.c.p ps.length ts.length ss.length cp.b.c ts.length cp.a.ok.clip cp.b.ok.clip cp.c.ok.clip hr.ln hr.ck.num htl hN hz cp.b.ok w O hn_cp_a hn_cp_c (LR:=[AY b2 34 ([(qz cp.a.p ps.length ps.length),(qz cp.b.p ts.length ts.length),(qz cp.c.p ss.length ss.length)]),AY b1 34 (CG x),AN x.a.p (rowsL Aa ps),AN x.b.p (rowsL Af ts),AN x.c.p (rowsL BU ss)]) hw).mono λe w' ⟨h1,t,h3,h4⟩=>⟨h1,t,h3,h4.perm (Cv [2,0,1,3,4,5,6,7] (show List.Perm [2,0,1,3,4,5,6,7] (List.range 8) by decide) O)⟩) (λd hd=>by cases hd<;>exact (A_ O)) λ_ _=>oNl' (zB (sL [2,4,3,14] O) (zA ?_)))))
 refine zK O (λhc1=>?_) (λhc1=>?_)
 ·have hln:=hr.len
  have hb9:ps.length*(ps.length-1)<=1000000*1000000:=Nat.mul_le_mul hN Z
  exact zC (zA (zI (zH (AL O (AD (AS (c:=((n+1:Nat):Int)) O O (AV (a:=n) (b:=1) Z)) O (asg' O (oNl' (zB (sL [2,4,3] O) (zF (zn (Cj ps us) (n+1) ((Gz hr hc1).1) ((Gz hr hc1).2) (sF O) sr))))))))))
 ·have hn0:nexV ps us=false:=by simpa using hc1
  rw [PK hn0]
  refine zU (zO (zl (zP (q2 (Ak 3 BY O (AL O (zx 1 O cp.b.ok (by rw [AZ Av,hr.ln]) O O λhn_cp_b=>Fi O sizeOf34 O (asg' O (asg' O (oNl' ?_))))))))))
  exact zB (sL [2,4,3] O) (zA (zG (Du O (An (i:=3) (cs:=[(qz cp.a.p ps.length ps.length),(qz cp.b.p ts.length ts.length),(qz cp.c.p ss.length ss.length)]) O O isAgg34 sizeOf34 O) (rd_tmp (v:=(vN n)) O) (rd_tmp (v:=(vI 0)) O) (λw hw=>(by rw [OK hr hn0];exact retR hw (a:=(⟨(⟨⟨cp.a.p,ps.length,cp.a.ok.clip⟩,⟨cp.b.p,ts.length,hr.ln.symm▸cp.b.ok.clip⟩,⟨cp.c.p,ss.length,cp.c.ok.clip⟩⟩:MN ps us ss)⟩:DlN ps us ss n 0)) (inX hw [2,1,0] O (At.mn (At.new hn_cp_a) (At.new hn_cp_b) (At.new hn_cp_c))) (by show _=Value.tuple #[aG [.slice cp.a.p ps.length ps.length,.slice cp.b.p us.length ts.length,.slice cp.c.p ss.length ss.length],vN n,vN 0];rw [hr.ln];rfl))))))
theorem bW {ps:List Pt} {ts ss:List T3} (x:MX ps ts ss) (hk:Eo ps ts ss) (hz:∀i,Bl (cor ps i)<=200000) (w:World) {S:Nat->Prop} (hx:Ro S w x):Calls prog 7 #[(aG (Cf x))] w (BP (bX ps (dl ps ts).1 ss (dl ps ts).2 0) S w):=by
 have l1:=hk.pl
 have l2:=hk.tl
 have l3:=hk.sl
 have hcx:=λ(w:World) (S:Nat->Prop) (h:Ro S w x)=>Kb x hk w h
 obtain ⟨y,hy,hro,hor⟩:=Vr x
 have h9:=Zc y hk Z Z (by rw [xK];omega) hz (λw S h=>by have h8:=hcx w S (hor h);rw [<-hy] at h8;exact h8) w (hro hx)
 rw [hy] at h9
 exact h9.mono λe w1 h=>Z0 h
end
end Go.Proofs.YtbfdamnfcmefmaaGreatDoor
