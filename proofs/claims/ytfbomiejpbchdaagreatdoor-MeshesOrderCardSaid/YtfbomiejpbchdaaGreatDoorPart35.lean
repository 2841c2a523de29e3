import Derived.Test.YtfbomiejpbchdaaGreatDoorPart08
import Derived.Test.YtfbomiejpbchdaaGreatDoorPart15
import Derived.Test.YtfbomiejpbchdaaGreatDoorPart20
import Derived.Test.YtfbomiejpbchdaaGreatDoorPart21
import Derived.Test.YtfbomiejpbchdaaGreatDoorPart22
import Derived.Test.YtfbomiejpbchdaaGreatDoorPart27
import Derived.Test.YtfbomiejpbchdaaGreatDoorPart28
import Derived.Test.YtfbomiejpbchdaaGreatDoorPart29
import Derived.Test.YtfbomiejpbchdaaGreatDoorPart31
namespace Go.Proofs.YtfbomiejpbchdaaGreatDoor
open Go Go.RowKit Go.Proofs.Tryz
set_option linter.unusedVariables false
set_option linter.unusedSimpArgs false
def MN (ps:List Pt) (t:T3):Rat:=AO (cor ps t.1) (cor ps t.2.1) (cor ps t.2.2)*(1/2)
def Dh (ps:List Pt) (ts:List T3):Nat->Rat
  | 0=>0
  | i+1=>Dh ps ts i+MN ps (ts.getD i (0,0,0))
theorem PC {ps:List Pt} (hz:∀k,CG (cor ps k)<=1000) (t:T3):Sz (MN ps t)<=8009:=by
  have h1:=DW (cor ps t.1) (cor ps t.2.1) (cor ps t.2.2)
  have z1:=hz t.1
  have z2:=hz t.2.1
  have z3:=hz t.2.2
  have h2:=E5 (AO (cor ps t.1) (cor ps t.2.1) (cor ps t.2.2)) (1/2)
  have h3:=Ot
  unfold MN
  omega
theorem O3 {ps:List Pt} (hz:∀k,CG (cor ps k)<=1000) (ts:List T3):∀i,Sz (Dh ps ts i)<=2+i*8010
  | 0=>by show Sz (0:Rat)<=2+0*8010;decide +kernel
  | i+1=>by
    have h:=O3 hz ts i
    have h1:=PC hz (ts.getD i (0,0,0))
    have h4:=OA (Dh ps ts i) (MN ps (ts.getD i (0,0,0)))
    show Sz (Dh ps ts i+MN ps (ts.getD i (0,0,0)))<=_
    omega
def Hl:List Rat->Rat
  | []=>0
  | x::r=>x+Hl r
theorem Re (a b:List Rat):Hl (a++b)=Hl a+Hl b:=by
  induction a with
  | nil=>simp only [List.nil_append,Hl];grind
  | cons x r ih=>simp only [List.cons_append,Hl,ih];grind
theorem Mo (ps:List Pt) (ts:List T3):∀i,i<=ts.length->Dh ps ts i=Hl ((ts.take i).map (MN ps))
  | 0,_=>by simp [Dh,Hl]
  | i+1,h=>by
    rw [KF (d:=(0,0,0)) (show i<ts.length by omega),List.map_append,Re,<-Mo ps ts i Z]
    simp only [Dh,List.map_cons,List.map_nil,Hl]
    grind
theorem Ml (ps:List Pt) (ts:List T3):Dh ps ts ts.length=Hl (ts.map (MN ps)):=by rw [Mo _ _ _ (Nat.le_refl _),List.take_length]
section
set_option maxRecDepth 100000
theorem Jh {ps:List Pt} {ts ss:List T3} (x:MX ps ts ss) (hl:ts.length<=8192) (hz:∀k,CG (cor ps k)<=1000) (hnb:Bn ps.length ts=true) (w:World) {S:Nat->Prop} (hx:Ro S w x):Calls prog 19 #[(aG (Cm x))] w (Ak w (aG (AK (Dh ps ts ts.length)))):=by
 have lx:=Ep (W:=w) hx
 refine BF (args:=[(aG (Cm x))]) (L:=[Ah x.a.p (rowsL Aj ps),Ah x.b.p (rowsL Am ts),Ah x.c.p (rowsL Am ss)]) func19 O O (Ad O) (En hx BQ) (AF.subF (sL [0] O) (q4 (Bk (cs:=Cm x) O λb1=>al Dv O λb2=>q3 (sL [1,2] O) ?_)))
 refine al Dv O λb3=>AE.nil (q1 (q4 (BE 2 Dd O (Ef (args:=[(aG (Cm x))]) (v:=(Value.bool true)) call48 (λw hw=>(by have h9:=PG x Z w (D_ hw 3 O lx);rw [hnb] at h9;exact h9)) O ?_))))
 refine AH (BY (c:=false) O O) O (AE.nil (AD.subF (sL [1,2,3,7] O) (AD.then_ (AF.cond_false O (AF.skip ?_)))))
 refine q1 (q4 (AH (v:=(pP b1 1)) (AA O underlying30 O sizeOf23 O) O (BN 2 (Value.slice x.b.p ts.length x.b.c) C_ O (AH (v:=(vN ts.length)) (AG O underlying23) O (AP O ?_)))))
 refine AE.nil (AD.subF (sL [1,2,3,11,12] O) (AD.then_ (AF.block ?_)))
 refine AF.lp1 (tg λ(i:Nat)=>i<=ts.length) (tg λ(i:Nat)=>[(1,(pP b1 0)),(2,(pP b2 0)),(3,(pP b3 0)),(11,(vN ts.length)),(12,(vN i))]) (tg λ(i:Nat)=>[Ae b3 61 (AK (Dh ps ts i)),Ae b2 61 (AK (0:Rat)),Ae b1 30 (Cm x),Ah x.a.p (rowsL Aj ps),Ah x.b.p (rowsL Am ts),Ah x.c.p (rowsL Am ss)]) (tg λ(i:Nat)=>ts.length-i) 0 (Nat.zero_le _) (sF O) sr (λi hJ=>?_)
 have hi:=hJ
 refine q4 (AH (Af (c:=(decide (i<ts.length))) O O (DB (a:=i) (b:=ts.length))) O (AE.nil (q1 ?_)))
 refine AF.cond O (λhc1=>?_) (λhc1=>?_)
 ·replace hc1:=of_decide_eq_true hc1
  have hi2:=hc1
  have ha:=O3 hz ts i
  have hb:=PC hz (ts.getD i (0,0,0))
  have z0:=hz (ts.getD i (0,0,0)).1
  have z1:=hz (ts.getD i (0,0,0)).2.1
  have z2:=hz (ts.getD i (0,0,0)).2.2
  refine AF.skip (q1 (AF.block (q4 (AP O (AJ O ?_)))))
  refine AE.nil (AD.subF (sL [1,2,3,11,12,4] O) (AD.then_ (rC [(0,true),(1,true),(2,true),(3,false),(4,true),(5,true),(6,true),(7,false),(8,false)] 9 [] sr (sl sr) (by kernel_rfl) (λ_ _ d _ _ h=>by cases d<;>exact h) (vE (v:=(aG (AK (Dh ps ts i)))) O (A6 (i:=0) (vs:=AK (Dh ps ts i)) O O Br.a Br.s O O) O (vE (v:=(aG (Cm x))) O (A6 (i:=2) (vs:=Cm x) O O Dd.a Dd.s O O) O ?_)))))
  refine vM O O O (CZ.imp O (Ef call23 (λw hw=>Nx x i hi2 (Cp hnb hi2) w (D_ hw 3 O lx)) O (CZ.back sr (vE O (Aa (v:=(aG (Aj (cor ps (ts.getD i (0,0,0)).1)))) O O) O (vE O (Aa (v:=(aG (Aj (cor ps (ts.getD i (0,0,0)).2.1)))) O O) O ?_)))))
  refine vE O (Aa (v:=(aG (Aj (cor ps (ts.getD i (0,0,0)).2.2)))) O O) O (CZ.imp O ?_)
  have hz1:=DW (cor ps (ts.getD i (0,0,0)).1) (cor ps (ts.getD i (0,0,0)).2.1) (cor ps (ts.getD i (0,0,0)).2.2)
  have hz2:=E5 (AO (cor ps (ts.getD i (0,0,0)).1) (cor ps (ts.getD i (0,0,0)).2.1) (cor ps (ts.getD i (0,0,0)).2.2)) (1/2)
  refine BS call25 (Ua (cor ps (ts.getD i (0,0,0)).1) (cor ps (ts.getD i (0,0,0)).2.1) (cor ps (ts.getD i (0,0,0)).2.2) Z) O (CZ.back sr (CZ.imp O (BS call17 (PB (Dh ps ts i) (MN ps (ts.getD i (0,0,0))) Z) O (CZ.back sr (CZ.cut O ?_)))))
  refine Aq O sizeOf61 O (AS.back (sl sr) (AS.nil (AD.subF (sL [1,2,3,11,12] O) (AD.in_normal (AD.then_ ?_)))))
  exact AF.region (AH (AX (c:=((i+1:Nat):Int)) O O (AZ (a:=i) (b:=1) Z)) O (AP O (AE.nil (AD.subF (sL [1,2,3,11,12] O) (AD.round1 (i+1) Z Z (sF O) sr)))))
 ·replace hc1:=of_decide_eq_false hc1
  have hie:i=ts.length:=by omega
  refine AF.exit (AD.then_exit (AD.round1_exit (AD.in_exit (q2 (BE 0 Br O ?_)))))
  exact C9 O sizeOf61 O (AE.nil (AD.subF (sL [1,2,3,11,12] O) (AD.then_ (AF.ret (AN O (A7 (i:=1) (cs:=AK (Dh ps ts i)) O O isAgg61 sizeOf61 O) (λw hw=>⟨by rw [hie],hw.out⟩))))))
end
section
section
variable {ts:List T3} {ps:List Pt} {p:Int} {i:Nat}
end
end
section
def dt (a b:Pt):Rat:=a.x*b.y-a.y*b.x
theorem Lf (a b:Pt):dt a b = -dt b a:=by unfold dt;grind
theorem Iu (a:Pt):dt a a=0:=by unfold dt;grind
theorem G8 {c z:Rat} (hc:0<c) (h:0<=z*c):0<=z:=Gp hc (by rw [Rat.mul_comm];exact h)
theorem Uc {u:Pt} (h:∀z,dt u z=0):u=⟨0,0⟩:=by
  have h1:=h ⟨0,1⟩;have h2:=h ⟨1,0⟩
  obtain ⟨x,y⟩:=u
  unfold dt at h1 h2
  simp only at h1 h2
  have e1:x=0:=by grind
  have e2:y=0:=by grind
  rw [e1,e2]
section
variable {p q r s u w:Pt}
def YI (p q r s w x:Pt):Prop:=0<=dt p x/\0<=dt x q/\0<=dt r x/\0<=dt x s/\0<=dt x w
theorem O_ {x:Pt} {k l:Rat} (hk:0<k) (hl:0<l) (h:∀z,k*dt u z=l*dt x z) (hp:0<=dt p u) (hq:0<=dt u q) (hr:0<=dt r u) (hs:0<=dt u s) (hw:0<=dt u w):YI p q r s w x:=by
  have key:∀z,0<=dt u z->0<=dt x z:=λz hz=>Gp hl (by rw [<-h];exact Rat.mul_nonneg (Rat.le_of_lt hk) hz)
  have key2:∀z,0<=dt z u->0<=dt z x:=λz hz=>by
    rw [Lf z x];rw [Lf z u] at hz
    have e:=h z
    have h1:0<=k * -dt u z:=Rat.mul_nonneg (Rat.le_of_lt hk) hz
    exact Gp hl (by grind)
  exact ⟨key2 _ hp,key _ hq,key2 _ hr,key _ hs,key _ hw⟩
theorem SM (hpq:0<dt p q) (hu:u≠⟨0,0⟩) (hp:0<=dt p u) (hq:0<=dt u q) (h:dt p u=0\/dt u q=0):∃x k l,(x=p\/x=q)/\0<k/\0<l/\∀z,k*dt u z=l*dt x z:=by
  have cr:∀z,dt p q*dt u z=dt u q*dt p z+dt p u*dt q z:=λz=>by unfold dt;grind
  have ne:¬(dt p u=0/\dt u q=0):=λ⟨a,b⟩=>hu (Uc λz=>by
    have e:=cr z
    rw [a,b] at e
    have:dt p q*dt u z=0:=by grind
    rcases Rat.mul_eq_zero.1 this with c|c
    · rw [c] at hpq;exact absurd hpq (Rat.lt_irrefl)
    · exact c)
  rcases h with h|h
  · exact ⟨p,dt p q,dt u q,.inl O,hpq,by grind,λz=>by rw [cr,h];grind⟩
  · exact ⟨q,dt p q,dt p u,.inr O,hpq,by grind,λz=>by rw [cr,h];grind⟩
theorem Sb (hpq:0<dt p q) (hrs:0<dt r s) (hu:u≠⟨0,0⟩) (hp:0<=dt p u) (hq:0<=dt u q) (hr:0<=dt r u) (hs:0<=dt u s) (hw:0<=dt u w):∃x,(x=p\/x=q\/x=r\/x=s)/\YI p q r s w x:=by
  by_cases d1:dt p u=0\/dt u q=0
  · obtain ⟨x,k,l,hx,hk,hl,h⟩:=SM hpq hu hp hq d1
    exact ⟨x,hx.elim .inl (λe=>.inr (.inl e)),O_ hk hl h hp hq hr hs hw⟩
  by_cases d2:dt r u=0\/dt u s=0
  · obtain ⟨x,k,l,hx,hk,hl,h⟩:=SM hrs hu hr hs d2
    exact ⟨x,.inr (.inr hx),O_ hk hl h hp hq hr hs hw⟩
  have p1:0<dt p u:=by grind
  have p2:0<dt u q:=by grind
  have p3:0<dt r u:=by grind
  have p4:0<dt u s:=by grind
  have mn:∀{a b:Rat},0<=a->0<=b->0<=a*b:=λa b=>Rat.mul_nonneg a b
  have X:∃x,(x=p\/x=q\/x=r\/x=s)/\0<dt x u/\0<=dt p x/\0<=dt x q/\0<=dt r x/\0<=dt x s:=by
    by_cases c:0<=dt p r
    · have h1:0<=dt r q*dt p u:=by
        have e:dt r q*dt p u=dt p r*dt u q+dt r u*dt p q:=by unfold dt;grind
        have:=mn c hq;have:=mn hr (Rat.le_of_lt hpq);grind
      exact ⟨r,.inr (.inr (.inl O)),p3,c,G8 p1 h1,by rw [Iu];exact Rat.le_refl,Rat.le_of_lt hrs⟩
    · have c':0<=dt r p:=by rw [Lf r p];grind
      have h1:0<=dt p s*dt r u:=by
        have e:dt p s*dt r u=dt r p*dt u s+dt p u*dt r s:=by unfold dt;grind
        have:=mn c' hs;have:=mn hp (Rat.le_of_lt hrs);grind
      exact ⟨p,.inl O,p1,by rw [Iu];exact Rat.le_refl,Rat.le_of_lt hpq,c',G8 p3 h1⟩
  have Y:∃x,(x=p\/x=q\/x=r\/x=s)/\0<dt u x/\0<=dt p x/\0<=dt x q/\0<=dt r x/\0<=dt x s:=by
    by_cases c:0<=dt q s
    · have h1:0<=dt r q*dt u s:=by
        have e:dt r q*dt u s=dt r u*dt q s+dt r s*dt u q:=by unfold dt;grind
        have:=mn hr c;have:=mn (Rat.le_of_lt hrs) hq;grind
      exact ⟨q,.inr (.inl O),p2,Rat.le_of_lt hpq,by rw [Iu];exact Rat.le_refl,G8 p4 h1,c⟩
    · have c':0<=dt s q:=by rw [Lf s q];grind
      have h1:0<=dt p s*dt u q:=by
        have e:dt p s*dt u q=dt p u*dt s q+dt p q*dt u s:=by unfold dt;grind
        have:=mn hp c';have:=mn (Rat.le_of_lt hpq) hs;grind
      exact ⟨s,.inr (.inr (.inr O)),p4,G8 p2 h1,c',Rat.le_of_lt hrs,by rw [Iu];exact Rat.le_refl⟩
  obtain ⟨x,hx,x0,x1,x2,x3,x4⟩:=X
  obtain ⟨y,hy,y0,y1,y2,y3,y4⟩:=Y
  have hxy:0<=dt x y*dt p u:=by
    have e:dt x y*dt p u=dt p x*dt u y+dt x u*dt p y:=by unfold dt;grind
    have:=mn x1 (Rat.le_of_lt y0);have:=mn (Rat.le_of_lt x0) y1;grind
  have hxy:=G8 p1 hxy
  by_cases a:0<=dt x w
  · exact ⟨x,hx,x1,x2,x3,x4,a⟩
  by_cases b:0<=dt y w
  · exact ⟨y,hy,y1,y2,y3,y4,b⟩
  exfalso
  have e:dt x y*dt u w=dt u y*dt x w+dt x u*dt y w:=by unfold dt;grind
  have h1:=mn hxy hw
  have h2:0<dt u y * -dt x w:=Rat.mul_pos y0 (by grind)
  have h3:0<dt x u * -dt y w:=Rat.mul_pos x0 (by grind)
  grind
end
def NV (a b c d e f:Pt):Prop:=(AO a b d<=0/\AO a b e<=0/\AO a b f<=0)\/(AO b c d<=0/\AO b c e<=0/\AO b c f<=0)\/(AO c a d<=0/\AO c a e<=0/\AO c a f<=0)
def ED (a b:Pt):Pt:=⟨a.x-b.x,a.y-b.y⟩
section
variable {a b c d e f u:Pt}
theorem Vk (hA:0<AO a b c) (hB:0<AO d e f) (hu:u≠⟨0,0⟩) (h1:dt u a<=dt u b) (h2:dt u a<=dt u c) (h3:dt u e<=dt u d) (h4:dt u f<=dt u d) (h5:dt u d<=dt u a) :
    (AO a b d<=0/\AO a b e<=0/\AO a b f<=0)\/(AO c a d<=0/\AO c a e<=0/\AO c a f<=0)\/(AO d e a<=0/\AO d e b<=0/\AO d e c<=0)\/(AO f d a<=0/\AO f d b<=0/\AO f d c<=0):=by
  have key:=Sb (p:=ED a c) (q:=ED b a) (r:=ED f d) (s:=ED d e) (u:=u) (w:=ED a d) (by simp only [B5] at hA;unfold dt ED;grind) (by simp only [B5] at hB;unfold dt ED;grind) hu
    (by unfold dt ED at *;grind) (by unfold dt ED at *;grind) (by unfold dt ED at *;grind) (by unfold dt ED at *;grind) (by unfold dt ED at *;grind)
  clear h1 h2 h3 h4 h5 hA hB hu
  obtain ⟨x,hx,k1,k2,k3,k4,k5⟩:=key
  simp only [B5]
  unfold dt ED at k1 k2 k3 k4 k5
  rcases hx with rfl|rfl|rfl|rfl
  · right;left;simp only at k1 k2 k3 k4 k5;unfold ED at *;simp only at k1 k2 k3 k4 k5;refine ⟨?_,?_,?_⟩<;>grind
  · left;simp only at k1 k2 k3 k4 k5;unfold ED at *;simp only at k1 k2 k3 k4 k5;refine ⟨?_,?_,?_⟩<;>grind
  · right;right;right;simp only at k1 k2 k3 k4 k5;unfold ED at *;simp only at k1 k2 k3 k4 k5;refine ⟨?_,?_,?_⟩<;>grind
  · right;right;left;simp only at k1 k2 k3 k4 k5;unfold ED at *;simp only at k1 k2 k3 k4 k5;refine ⟨?_,?_,?_⟩<;>grind
theorem FT (a b c:Pt):AO b c a=AO a b c:=by simp only [B5];grind
def W7 (u:Pt) (k:Rat) (a b c d e f:Pt):Prop:=(k<=dt u a/\k<=dt u b/\k<=dt u c)/\dt u d<=k/\dt u e<=k/\dt u f<=k
theorem XN (x y z:Rat):(x<=y/\x<=z)\/(y<=z/\y<=x)\/(z<=x/\z<=y):=by grind
theorem WV (hA:0<AO a b c) (hB:0<AO d e f) (hu:u≠⟨0,0⟩) (h1:dt u a<=dt u b) (h2:dt u a<=dt u c) (h3:dt u d<=dt u a) (h4:dt u e<=dt u a) (h5:dt u f<=dt u a):NV a b c d e f\/NV d e f a b c:=by
  rcases XN (-dt u d) (-dt u e) (-dt u f) with m|m|m
  · rcases Vk hA hB hu h1 h2 (by grind) (by grind) h3 with k|k|k|k
    · exact .inl (.inl k)
    · exact .inl (.inr (.inr k))
    · exact .inr (.inl k)
    · exact .inr (.inr (.inr k))
  · rcases Vk (d:=e) (e:=f) (f:=d) hA (by rw [FT];exact hB) hu h1 h2 (by grind) (by grind) h4 with k|k|k|k
    · exact .inl (.inl ⟨k.2.2,k.1,k.2.1⟩)
    · exact .inl (.inr (.inr ⟨k.2.2,k.1,k.2.1⟩))
    · exact .inr (.inr (.inl k))
    · exact .inr (.inl k)
  · rcases Vk (d:=f) (e:=d) (f:=e) hA (by rw [<-FT];exact hB) hu h1 h2 (by grind) (by grind) h5 with k|k|k|k
    · exact .inl (.inl ⟨k.2.1,k.2.2,k.1⟩)
    · exact .inl (.inr (.inr ⟨k.2.1,k.2.2,k.1⟩))
    · exact .inr (.inr (.inr k))
    · exact .inr (.inr (.inl k))
theorem NV.rot1 (h:NV b c a d e f):NV a b c d e f:=by
  rcases h with k|k|k
  · exact .inr (.inl k)
  · exact .inr (.inr k)
  · exact .inl k
theorem NV.rot2 (h:NV d e f b c a):NV d e f a b c:=by
  rcases h with k|k|k
  · exact .inl ⟨k.2.2,k.1,k.2.1⟩
  · exact .inr (.inl ⟨k.2.2,k.1,k.2.1⟩)
  · exact .inr (.inr ⟨k.2.2,k.1,k.2.1⟩)
theorem YS {k:Rat} (hA:0<AO a b c) (hB:0<AO d e f) (hu:u≠⟨0,0⟩) (h:W7 u k a b c d e f):NV a b c d e f\/NV d e f a b c:=by
  obtain ⟨⟨h1,h2,h3⟩,h4,h5,h6⟩:=h
  rcases XN (dt u a) (dt u b) (dt u c) with m|m|m
  · exact WV hA hB hu m.1 m.2 (by grind) (by grind) (by grind)
  · exact (WV (a:=b) (b:=c) (c:=a) (by rw [FT];exact hA) hB hu m.1 m.2 (by grind) (by grind) (by grind)).imp NV.rot1 NV.rot2
  · exact (WV (a:=c) (b:=a) (c:=b) (by rw [<-FT];exact hA) hB hu m.1 m.2 (by grind) (by grind) (by grind)).imp (λq=>q.rot1.rot1) (λq=>q.rot2.rot2)
end
end
section
abbrev M3:=List Pt×List T3×List T3
def X5 (M:M3):Prop:=M.1.length+(edL M.2.1).length<=4096/\4*M.2.1.length<=8192
instance (M:M3):Decidable (X5 M):=inferInstanceAs (Decidable (_/\_))
theorem Vg (ts:List T3):(edL ts).length<=3*ts.length:=by rw [I9];exact Iv _
structure YR (ps:List Pt) (ts ss:List T3) (e:Nat) where
  m:MX ps ts ss
instance {ps:List Pt} {ts ss:List T3} {e:Nat}:D8 (YR ps ts ss e):=⟨λx=>.tuple #[aG (Cm x.m),vN e],λx=>D8.rows x.m,λx y hy=>D8.ro x.m y hy⟩
section
variable {P:Program} {ops:Array Oper} {rest:List Oper} {Q:Exit->Act->World->Prop} {n d:Nat} {F:List (Nat×Value)} {w0:BK} {S:Nat->Prop} {L:List As} {t:TypeId} {p:String} {af:Array Edge} {y:Operand} {f:FuncId} {xs:List Operand} {args:List Value} {tys:Array TypeId} {ps:List Pt} {ts ss:List T3} {e:Nat}
end
def Xk (ts:List T3):List Value:=vI (-1)::vN 0::vN 1::rowsL Am ts
structure MB (ps:List Pt) (ts ss:List T3) where
  a:RX (rowsL Aj ps) ps.length
  b:RX (Xk ts) (1+ts.length)
  c:RX (rowsL Am ss) ss.length
def YQ {ps:List Pt} {ts ss:List T3} (x:MB ps ts ss):List Value:=[x.a.val,x.b.val,x.c.val]
theorem XV {ps:List Pt} {ts ss:List T3} {x:MB ps ts ss} {y:As} (hy:y∈[x.a.row,x.b.row,x.c.row]):y.ro=true:=by
  simp only [List.mem_cons,List.not_mem_nil,or_false] at hy
  rcases hy with rfl|rfl|rfl<;>rfl
instance {ps:List Pt} {ts ss:List T3}:D8 (MB ps ts ss):=⟨λx=>aG (YQ x),λx=>[x.a.row,x.b.row,x.c.row],λx y hy=>XV hy⟩
end
section
def W_ {α β:Type} (b:Nat) (enc:α->Value) (eV:β->Value) (kvs:List (α×β)):As:=⟨some b,λo=>o=.map (entsM enc eV kvs 0).toArray kvs.length,true⟩
section
variable {α β:Type} [DecidableEq α] {enc:α->Value} {eV:β->Value} {ok:α->Prop} {P:Program} {kt:TypeId} {n:Nat} {F:List (Nat×Value)} {w0:BK} {L:List As} {d:Option Tmp} {tx et t b:Nat} {pp:String} {af:Array Edge} {g:Option (Nat×Bool)} {mp kp:Operand}
end
def Mi (t:T3):P2:=B9 t.2.1 t.2.2
def VR (ts:List T3) (ms:List Int) (k:P2):Prop:=∃z∈ms,0<=z/\z<(ts.length:Int)/\k=Mi (ts.getD z.toNat (0,0,0))
inductive MW (ts:List T3) (S:P2->Prop):P2->Prop
  | start {k:P2}:S k->MW ts S k
  | up {t:T3} {k:P2}:t∈ts->MW ts S k->(k=B9 t.1 t.2.1\/k=B9 t.2.2 t.1)->MW ts S (Mi t)
theorem MW.mono {ts:List T3} {S S':P2->Prop} (h:∀k,S k->S' k) {k:P2} (c:MW ts S k):MW ts S' k:=by
  induction c with
  | start hs=>exact .start (h _ hs)
  | up ht _ he ih=>exact .up ht ih he
theorem MW.or {ts:List T3} {S S':P2->Prop} {k:P2} (c:MW ts (λk=>S k\/S' k) k):MW ts S k\/MW ts S' k:=by
  induction c with
  | start hs=>exact hs.elim (λh=>.inl (.start h)) (λh=>.inr (.start h))
  | up ht _ he ih=>exact ih.elim (λh=>.inl (.up ht h he)) (λh=>.inr (.up ht h he))
structure In (ts:List T3) (ms:List Int) (i:Nat) (kvs:List (P2×Nat)):Prop where
  ok:Kc O6 kvs
  one:∀k,BG kvs k=none\/BG kvs k=some 1
  sub:∀k,BG kvs k=some 1->MW ts (VR ts ms) k
  mrk:∀k,VR ts (ms.take i) k->BG kvs k=some 1
section
variable {ts:List T3} {ms:List Int} {i:Nat} {kvs:List (P2×Nat)}
theorem In.zero (ts:List T3) (ms:List Int):In ts ms 0 []:=⟨⟨λp hp=>(by cases hp),List.Pairwise.nil⟩,λk=>.inl rfl,λk h=>(by cases h),λk ⟨z,hz,_⟩=>by rw [List.take_zero] at hz;cases hz⟩
theorem In.put (h:In ts ms i kvs) {k:P2} (hk:O6 k) (hc:MW ts (VR ts ms) k):In ts ms i (Bc kvs k 1):=⟨h.ok.put hk,λx=>by
    rw [DF];split
    · exact .inr O
    · exact h.one x,λx hx=>by
    rw [DF] at hx;split at hx
    · rename_i e;rw [e];exact hc
    · exact h.sub x hx,λx hx=>by
    rw [DF];split
    · rfl
    · exact h.mrk x hx⟩
theorem OM {l:List Int} {j:Nat} (h:j<l.length):l.take (j+1)=l.take j++[l.getD j 0]:=by
  rw [List.take_add_one,List.getD,List.getElem?_eq_getElem h];rfl
theorem In.skip (h:In ts ms i kvs) (hi:i<ms.length) (hn:¬(0<=ms.getD i 0/\ms.getD i 0<(ts.length:Int))):In ts ms (i+1) kvs:=by
  refine ⟨h.ok,h.one,h.sub,λx hx=>?_⟩
  rw [OM hi] at hx
  obtain ⟨z,hz,a,b,rfl⟩:=hx
  rcases List.mem_append.1 hz with hz|hz
  · exact h.mrk _ ⟨z,hz,a,b,rfl⟩
  · exact absurd (by rw [<-List.mem_singleton.1 hz];exact ⟨a,b⟩) hn
def Xn (ts:List T3) (kvs:List (P2×Nat)) (j:Nat):Prop:=∀q,q<j->BG kvs (Mi (ts.getD q (0,0,0)))=none->BG kvs (B9 (ts.getD q (0,0,0)).1 (ts.getD q (0,0,0)).2.1)=none/\BG kvs (B9 (ts.getD q (0,0,0)).2.2 (ts.getD q (0,0,0)).1)=none
theorem In.no (h:In ts ms i kvs) {k:P2} (e:(BG kvs k).getD 0=0):BG kvs k=none:=(h.one k).elim id λh1=>by rw [h1] at e;cases e
theorem In.all (h:In ts ms ms.length kvs) (hc:Xn ts kvs ts.length) (k:P2):BG kvs k=some 1↔MW ts (VR ts ms) k:=by
  refine ⟨h.sub k,λc=>?_⟩
  induction c with
  | start hs=>exact h.mrk _ (by rw [List.take_length];exact hs)
  | up ht _ he ih =>
    rename_i t k' _
    obtain ⟨q,hq,rfl⟩:=List.getElem_of_mem ht
    rcases h.one (Mi ts[q]) with h1|h1
    · have h2:=hc q hq (by rw [List.getD,List.getElem?_eq_getElem hq];exact h1)
      rw [List.getD,List.getElem?_eq_getElem hq] at h2
      rcases he with e|e
      · rw [e] at ih;rw [show BG kvs (B9 ts[q].1 ts[q].2.1)=none from h2.1] at ih;cases ih
      · rw [e] at ih;rw [show BG kvs (B9 ts[q].2.2 ts[q].1)=none from h2.2] at ih;cases ih
    · exact h1
end
structure HC (ts:List T3) (ms:List Int) where
  b:Nat
  kvs:List (P2×Nat)
  ok:Kc O6 kvs
  one:∀k,BG kvs k=none\/BG kvs k=some 1
  all:∀k,BG kvs k=some 1↔MW ts (VR ts ms) k
instance {ts:List T3} {ms:List Int}:D8 (HC ts ms):=⟨λx=>.map (some x.b),λx=>[W_ x.b Il vN x.kvs],λx y hy=>by rcases List.mem_singleton.1 hy with rfl;rfl⟩
structure DX (ts:List T3) (ms:List Int) where
  l:List E4
  r:RX (rowsL B8 l) l.length
  p:E4->Bool
  el:l=(edL ts).filter p
  all:∀e,p e=true↔MW ts (VR ts ms) (e.a,e.b)
instance {ts:List T3} {ms:List Int}:D8 (DX ts ms):=⟨λx=>x.r.val,λx=>[x.r.row],λx y hy=>by rcases List.mem_singleton.1 hy with rfl;rfl⟩
end
section
def L5 (ts:List T3):Nat->List (P2×Nat)
  | 0=>[]
  | s+1=>Bc (L5 ts s) (Bg ts s) (s/3)
def HD (ts:List T3):Nat->Bool
  | 0=>true
  | s+1=>HD ts s&&(BG (L5 ts s) (Bg ts s)).isNone
section
variable {ts:List T3} {N t r s:Nat}
theorem O1:∀n,s<=n->HD ts n=true->HD ts s=true
  | 0,h,k=>by rw [show s=0 by omega];rfl
  | n+1,h,k=>by
    have k:(HD ts n&&_)=true:=k
    rcases Nat.lt_or_ge s (n+1) with h1|h1
    · exact O1 n Z (Bool.and_eq_true _ _▸k).1
    · rw [show s=n+1 by omega];exact k
end
structure SX (ts:List T3) (o:Bool) where
  b:Nat
  kvs:List (P2×Nat)
  ok:Kc O6 kvs
  fin:o=true->kvs=L5 ts (3*ts.length)
instance {ts:List T3} {o:Bool}:D8 (SX ts o):=⟨λx=>.tuple #[.map (some x.b),.bool o],λx=>[W_ x.b Il vN x.kvs],λx y hy=>by rcases List.mem_singleton.1 hy with rfl;rfl⟩
end
section
section
variable {P:Program} {Q:Exit->Act->World->Prop} {n:Nat} {F:List (Nat×Value)} {w0:BK} {L:List As} {c x y:Code}
end
end
section
abbrev Ux (ts:List T3):List (P2×Nat):=L5 ts (3*ts.length)
def NX (k:P2):P2:=(k.2,k.1)
def YH (t:T3) (k:P2):Nat:=t.1+t.2.1+t.2.2-k.1-k.2
def Lv (ts:List T3) (k:P2):P2:=(k.2,YH (ts.getD ((BG (Ux ts) k).getD 0) (0,0,0)) k)
def isS (ts:List T3) (k:P2):Prop:=(BG (Ux ts) k).isSome=true
def Th (ts:List T3) (k:P2):Prop:=isS ts k/\¬isS ts (NX k)
def Nh (ts:List T3):Nat->P2->Option P2
  | 0,_=>none
  | f+1,k=>if (BG (Ux ts) (NX (Lv ts k))).isSome then Nh ts f (NX (Lv ts k)) else some (Lv ts k)
def QH (ts:List T3) (k:P2):P2:=(Nh ts (3*ts.length) k).getD (0,0)
section
variable {ts:List T3} {N:Nat} {k k0:P2} {i:Nat}
theorem H7 {n:Nat}:∀s,BG (L5 ts s) k=some n->∃u,u<s/\Bg ts u=k/\n=u/3
  | 0,h=>by cases h
  | s+1,h=>by
    have h:BG (Bc (L5 ts s) (Bg ts s) (s/3)) k=some n:=h
    rw [DF] at h
    split at h
    · rename_i e
      injection h with h
      exact ⟨s,Z,e.symm,h.symm⟩
    · obtain ⟨u,h1,h2,h3⟩:=H7 s h
      exact ⟨u,Z,h2,h3⟩
theorem HW {u:Nat}:∀s,u<s->(BG (L5 ts s) (Bg ts u)).isSome=true
  | 0,h=>absurd h (Nat.not_lt_zero _)
  | s+1,h=>by
    show (BG (Bc (L5 ts s) (Bg ts s) (s/3)) (Bg ts u)).isSome=true
    rw [DF]
    split
    · rfl
    · rename_i e
      rcases Nat.lt_or_ge u s with h1|h1
      · exact HW s h1
      · exact absurd (by rw [show u=s by omega]) e
theorem Ky {u v n:Nat} (ho:HD ts n=true) (hu:u<n) (hv:v<n) (h:Bg ts u=Bg ts v):u=v:=by
  have key:∀{u v:Nat},u<v->v<n->Bg ts u=Bg ts v->False:=λ{u v} h1 h2 h=>by
    have h3:=O1 (s:=v+1) _ Z ho
    have h3:(HD ts v&&(BG (L5 ts v) (Bg ts v)).isNone)=true:=h3
    rw [Bool.and_eq_true] at h3
    have h4:=HW (ts:=ts) v h1
    rw [h] at h4
    rw [<-Option.not_isSome,h4] at h3
    exact absurd h3.2 (by decide)
  rcases Nat.lt_trichotomy u v with h1|h1|h1
  · exact (key h1 hv h).elim
  · exact h1
  · exact (key h1 hu h.symm).elim
theorem R6 {u:Nat} (ho:HD ts (3*ts.length)=true) (hu:u<3*ts.length):BG (Ux ts) (Bg ts u)=some (u/3):=by
  obtain ⟨n,h⟩:=Option.isSome_iff_exists.1 (HW (ts:=ts) _ hu)
  obtain ⟨v,h1,h2,h3⟩:=H7 _ h
  have e:=Ky ho hu h1 h2.symm
  rw [show BG (Ux ts) (Bg ts u)=some n from h,h3,e]
theorem GQ:isS ts k↔∃u,u<3*ts.length/\Bg ts u=k:=by
  constructor
  · intro h
    obtain ⟨n,h⟩:=Option.isSome_iff_exists.1 h
    obtain ⟨u,h1,h2,_⟩:=H7 _ h
    exact ⟨u,h1,h2⟩
  · rintro ⟨u,h1,rfl⟩
    exact HW _ h1
def Tm (u:Nat):Nat:=3*(u/3)+(u%3+1)%3
theorem UT {u v:Nat} (h:Tm u=Tm v):u=v:=by unfold Tm at h;omega
theorem No {u:Nat} (h:u<3*ts.length):Tm u<3*ts.length:=by unfold Tm;omega
theorem L_ (ho:HD ts (3*ts.length)=true) {u:Nat} (hu:u<3*ts.length):Lv ts (Bg ts u)=Bg ts (Tm u):=by
  unfold Lv
  rw [R6 ho hu,Option.getD_some]
  have hd:(Tm u)/3=u/3:=by unfold Tm;omega
  have hm:(Tm u)%3=(u%3+1)%3:=by unfold Tm;omega
  unfold YH Bg
  rw [hd,hm]
  generalize ts.getD (u/3) (0,0,0)=t
  have e:u%3=0\/u%3=1\/u%3=2:=by omega
  rcases e with e|e|e<;>rw [e]<;>refine Prod.ext rfl ?_
  · show t.1+t.2.1+t.2.2-t.1-t.2.1=t.2.2;omega
  · show t.1+t.2.1+t.2.2-t.2.1-t.2.2=t.1;omega
  · show t.1+t.2.1+t.2.2-t.2.2-t.1=t.2.1;omega
theorem R2 (ho:HD ts (3*ts.length)=true) (h:isS ts k):isS ts (Lv ts k):=by
  obtain ⟨u,hu,rfl⟩:=GQ.1 h
  rw [L_ ho hu]
  exact GQ.2 ⟨_,No hu,rfl⟩
theorem UF (ho:HD ts (3*ts.length)=true) {k':P2} (h:isS ts k) (h':isS ts k') (e:Lv ts k=Lv ts k'):k=k':=by
  obtain ⟨u,hu,rfl⟩:=GQ.1 h
  obtain ⟨v,hv,rfl⟩:=GQ.1 h'
  rw [L_ ho hu,L_ ho hv] at e
  rw [UT (Ky ho (No hu) (No hv) e)]
theorem MA (k:P2):NX (NX k)=k:=rfl
theorem UP {a b:P2} (h:NX a=NX b):a=b:=by rw [<-MA a,h,MA]
theorem LO {α:Type} [DecidableEq α] {l m:List α} (hn:l.Nodup) (hs:∀x∈l,x∈m):l.length<=m.length:=by
  induction l generalizing m with
  | nil=>exact Nat.zero_le _
  | cons x r ih =>
    have hx:=hs x List.mem_cons_self
    have hn2:=List.nodup_cons.1 hn
    have h:=ih (m:=m.erase x) hn2.2 λy hy=>by
      have:y≠x:=λe=>hn2.1 (e▸hy)
      exact (List.mem_erase_of_ne this).2 (hs y (List.mem_cons_of_mem _ hy))
    rw [List.length_erase_of_mem hx] at h
    have:=List.length_pos_of_mem hx
    simp only [List.length_cons];omega
def Q5 (ts:List T3):List P2:=(List.range (3*ts.length)).map (Bg ts)
theorem My (h:isS ts k):k∈Q5 ts:=by
  obtain ⟨u,hu,rfl⟩:=GQ.1 h
  exact List.mem_map.2 ⟨u,List.mem_range.2 hu,rfl⟩
theorem NM:(Q5 ts).length=3*ts.length:=by simp [Q5]
structure G5 (ts:List T3) (k0:P2) (i:Nat) (k:P2):Prop where
  chain:∃s:Nat->P2,s 0=k0/\s i=k/\(∀j,j<=i->isS ts (s j))/\∀j,j<i->s (j+1)=NX (Lv ts (s j))
theorem G5.zero (h:isS ts k0):G5 ts k0 0 k0:=⟨λ_=>k0,rfl,rfl,λ_ _=>h,λ_ h=>absurd h (Nat.not_lt_zero _)⟩
theorem G5.isS (h:G5 ts k0 i k):isS ts k:=by
  obtain ⟨s,_,h2,h3,_⟩:=h.chain
  rw [<-h2];exact h3 i (Nat.le_refl _)
theorem G5.succ (h:G5 ts k0 i k) (hs:(BG (Ux ts) (NX (Lv ts k))).isSome=true):G5 ts k0 (i+1) (NX (Lv ts k)):=by
  obtain ⟨s,h1,h2,h3,h4⟩:=h.chain
  refine ⟨λj=>if j<=i then s j else NX (Lv ts k),by simp [h1],if_neg Z,λj hj=>?_,λj hj=>?_⟩
  · show Go.Proofs.YtfbomiejpbchdaaGreatDoor.isS ts (if j<=i then s j else _)
    split
    · exact h3 j ‹_›
    · exact hs
  · show (if j+1<=i then s (j+1) else _)=NX (Lv ts (if j<=i then s j else _))
    rw [if_pos (show j<=i by omega)]
    split
    · exact h4 j Z
    · rw [show j=i by omega,h2]
theorem G5.lt (ho:HD ts (3*ts.length)=true) (h0:Th ts k0) (h:G5 ts k0 i k):i<3*ts.length:=by
  obtain ⟨s,h1,h2,h3,h4⟩:=h.chain
  have ne:∀d a,a+d+1<=i->s a≠s (a+d+1):=λd a=>by
    induction a with
    | zero =>
      intro hd e
      rw [h1,h4 (0+d) Z] at e
      refine h0.2 ?_
      rw [e,MA]
      exact R2 ho (h3 _ Z)
    | succ a ih =>
      intro hd e
      rw [h4 a Z,show a+1+d+1=(a+d+1)+1 by omega,h4 (a+d+1) Z] at e
      exact ih Z (UF ho (h3 _ Z) (h3 _ Z) (UP e))
  have hnd:((List.range (i+1)).map s).Nodup:=by
    refine List.pairwise_map.2 (List.Pairwise.imp_of_mem ?_ List.pairwise_lt_range)
    intro a b ha hb hab
    have:=ne (b-a-1) a (by have:=List.mem_range.1 hb;omega)
    rw [show a+(b-a-1)+1=b by omega] at this
    exact this
  have h5:=LO (m:=Q5 ts) hnd λx hx=>by
    obtain ⟨j,hj,rfl⟩:=List.mem_map.1 hx
    exact My (h3 j (by have:=List.mem_range.1 hj;omega))
  rw [NM,List.length_map,List.length_range] at h5
  omega
theorem G5.fuel (h:G5 ts k0 i k) (f:Nat):Nh ts (f+i) k0=Nh ts f k:=by
  obtain ⟨s,h1,h2,h3,h4⟩:=h.chain
  subst h1 h2
  have key:∀j,j<=i->Nh ts (f+i) (s 0)=Nh ts (f+(i-j)) (s j):=λj=>by
    induction j with
    | zero=>intro _;rfl
    | succ j ih =>
      intro hj
      rw [ih Z,show f+(i-j)=(f+(i-(j+1)))+1 by omega]
      have h5:(BG (Ux ts) (NX (Lv ts (s j)))).isSome=true:=by rw [<-h4 j Z];exact h3 (j+1) hj
      show (if _ then _ else _)=_
      rw [if_pos h5,<-h4 j Z]
  have:=key i (Nat.le_refl _)
  rwa [Nat.sub_self,Nat.add_zero] at this
theorem G5.stop (ho:HD ts (3*ts.length)=true) (h0:Th ts k0) (h:G5 ts k0 i k) (hs:¬(BG (Ux ts) (NX (Lv ts k))).isSome=true):QH ts k0=Lv ts k/\Th ts (Lv ts k):=by
  have hlt:=h.lt ho h0
  have h1:=h.fuel (3*ts.length-i)
  rw [show 3*ts.length-i+i=3*ts.length by omega,show 3*ts.length-i=(3*ts.length-i-1)+1 by omega] at h1
  have h2:Nh ts (3*ts.length-i-1+1) k=some (Lv ts k):=by
    show (if _ then _ else _)=_
    rw [if_neg hs]
  refine ⟨?_,R2 ho h.isS,hs⟩
  unfold QH
  rw [h1,h2];rfl
theorem UL (ho:HD ts (3*ts.length)=true) (h0:Th ts k0):Th ts (QH ts k0):=by
  have key:∀d i k,3*ts.length-i=d->G5 ts k0 i k->Th ts (QH ts k0):=λd=>by
    induction d with
    | zero=>intro i k hd h;have:=h.lt ho h0;omega
    | succ d ih =>
      intro i k hd h
      by_cases hs:(BG (Ux ts) (NX (Lv ts k))).isSome=true
      · exact ih _ _ Z (h.succ hs)
      · have h1:=h.stop ho h0 hs
        rw [h1.1];exact h1.2
  exact key _ 0 k0 O (G5.zero h0.1)
end
def W4 (ts:List T3):Nat->List (P2×Nat)->P2->List Nat->Option (List (P2×Nat)×List Nat)
  | 0,_,_,_=>none
  | f+1,dn,k,l=>if (BG dn k).getD 0=0 then W4 ts f (Bc dn k 1) (QH ts k) (l++[k.1]) else some (dn,l)
def YD (ts:List T3) (dn:List (P2×Nat)) (k:P2):List (P2×Nat)×List Nat:=(W4 ts (3*ts.length+1) dn k []).getD ([],[])
structure SF (ts:List T3) (dn:List (P2×Nat)):Prop where
  ok:Kc O6 dn
  bd:∀k n,BG dn k=some n->Th ts k/\n=1
section
variable {ts:List T3} {N:Nat} {k k0:P2} {i:Nat} {dn dn0:List (P2×Nat)} {l:List Nat}
theorem SF.nil:SF ts []:=⟨Kc.nil,λk n h=>by cases h⟩
theorem SF.len (h:SF ts dn):dn.length<=3*ts.length:=by
  have h1:(dn.map (·.1)).Nodup:=List.pairwise_map.2 (h.ok.once.imp λ{a b} h e=>h e)
  have h2:=LO (m:=Q5 ts) h1 λx hx=>by
    obtain ⟨p,hp,rfl⟩:=List.mem_map.1 hx
    obtain ⟨j,hj,h3⟩:=List.getElem_of_mem hp
    exact My (h.bd _ _ (I0 (x:=p.1) (v:=p.2) h.ok.once (by rw [List.getElem?_eq_getElem hj,h3]))).1.1
  rwa [NM,List.length_map] at h2
theorem SF.put (h:SF ts dn) (hk:Th ts k) (hok:O6 k):SF ts (Bc dn k 1):=⟨h.ok.put hok,λx n hx=>by
  rw [DF] at hx
  split at hx
  · rename_i e
    injection hx with hx
    rw [e];exact ⟨hk,hx.symm⟩
  · exact h.bd _ _ hx⟩
theorem SF.zero (h:SF ts dn) (e:(BG dn k).getD 0=0):BG dn k=none:=by
  cases hg:BG dn k with
  | none=>rfl
  | some n=>rw [hg,(h.bd _ _ hg).2] at e;cases e
theorem Nz {α β:Type} [DecidableEq α] {kvs:List (α×β)} {x:α} {y:β} (h:BG kvs x=none):(Bc kvs x y).length=kvs.length+1:=by
  induction kvs with
  | nil=>rfl
  | cons p r ih =>
    obtain ⟨k,v⟩:=p
    unfold BG at h
    split at h
    · cases h
    · rename_i e
      unfold Bc
      rw [if_neg e,List.length_cons,ih h];rfl
theorem Vl (hn:Bn N ts=true) (hN:N<=4611686018427387904) (h:isS ts k):O6 k:=by
  obtain ⟨u,hu,rfl⟩:=GQ.1 h
  have:=Lk hn hu
  exact ⟨Z,Z⟩
structure TS (ts:List T3) (dn0:List (P2×Nat)) (k0:P2) (i:Nat) (dn:List (P2×Nat)) (k:P2) (l:List Nat):Prop where
  fuel:∀f,W4 ts (f+i) dn0 k0 []=W4 ts f dn k l
  bd:Th ts k
  di:SF ts dn
  len:dn.length=dn0.length+i
  ll:l.length=i
  at0:i=0->dn=dn0/\k=k0
theorem TS.zero (h:SF ts dn0) (hb:Th ts k0):TS ts dn0 k0 0 dn0 k0 []:=⟨λ_=>rfl,hb,h,rfl,rfl,λ_=>⟨rfl,rfl⟩⟩
theorem TS.succ (hn:Bn N ts=true) (hN:N<=4611686018427387904) (ho:HD ts (3*ts.length)=true) (h:TS ts dn0 k0 i dn k l) (e:(BG dn k).getD 0=0):TS ts dn0 k0 (i+1) (Bc dn k 1) (QH ts k) (l++[k.1]) :=
  ⟨λf=>by
    rw [show f+(i+1)=f+1+i by omega,h.fuel (f+1)]
    show (if _ then _ else _)=_
    rw [if_pos e],UL ho h.bd,h.di.put h.bd (Vl hn hN h.bd.1),by rw [Nz (h.di.zero e),h.len];omega,by rw [List.length_append,h.ll];rfl,λh=>by omega⟩
theorem TS.le (h:TS ts dn0 k0 i dn k l):i<=3*ts.length:=by
  have h1:=h.di.len
  have:=h.len
  omega
theorem TS.lt (hn:Bn N ts=true) (hN:N<=4611686018427387904) (ho:HD ts (3*ts.length)=true) (h:TS ts dn0 k0 i dn k l) (e:(BG dn k).getD 0=0):i<3*ts.length:=by
  have:=(h.succ hn hN ho e).le
  omega
theorem TS.stop (h:TS ts dn0 k0 i dn k l) (e:¬(BG dn k).getD 0=0):YD ts dn0 k0=(dn,l):=by
  have h1:=h.fuel (3*ts.length+1-i)
  have:=h.le
  rw [show 3*ts.length+1-i+i=3*ts.length+1 by omega,show 3*ts.length+1-i=(3*ts.length-i)+1 by omega] at h1
  have h2:W4 ts (3*ts.length-i+1) dn k l=some (dn,l):=by
    show (if _ then _ else _)=_
    rw [if_neg e]
  unfold YD
  rw [h1,h2];rfl
end
section
variable {ts:List T3} {N i:Nat} {dn dn2:List (P2×Nat)} {wq:T3} {l:List Nat}
end
end
section
theorem WE {c:T2} (h:0<Bl c.1 c.2.1 c.2.2):∃x y:Rat,Tk c x y:=by
  obtain ⟨⟨a1,a2⟩,⟨b1,b2⟩,⟨c1,c2⟩⟩:=c
  have h2:(0:Rat)<(Bl (a1,a2) (b1,b2) (c1,c2):Int):=by exact_mod_cast h
  have e:((Bl (a1,a2) (b1,b2) (c1,c2):Int):Rat)=((b1:Rat)-a1)*((c2:Rat)-a2)-((b2:Rat)-a2)*((c1:Rat)-a1):=by
    simp only [Bl,Rat.intCast_sub,Rat.intCast_mul,Rat.intCast_natCast]
  rw [e] at h2
  refine ⟨((a1:Rat)+b1+c1)/3,((a2:Rat)+b2+c2)/3,?_,?_,?_⟩<;>simp only [Ir]<;>grind
section
variable {ps:List Pt} {ts:List T3}
theorem Q1 {m:MQ} {pl:List P2} {n:T3} {t:Nat} (h:II m pl n t) {r:Nat} (hr:r<3):pl.getD (Cd n r) (0,0)=An m t r:=by
  have e:r=0\/r=1\/r=2:=by omega
  rcases e with rfl|rfl|rfl
  · exact h.a.2
  · exact h.b.2
  · exact h.c.2
end
end
end Go.Proofs.YtfbomiejpbchdaaGreatDoor
