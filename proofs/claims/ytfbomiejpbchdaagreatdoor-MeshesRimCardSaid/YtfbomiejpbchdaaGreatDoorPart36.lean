import Derived.Test.YtfbomiejpbchdaaGreatDoorPart22
import Derived.Test.YtfbomiejpbchdaaGreatDoorPart34
import Derived.Test.YtfbomiejpbchdaaGreatDoorPart35
namespace Go.Proofs.YtfbomiejpbchdaaGreatDoor
open Go Go.RowKit Go.Proofs.Tryz
set_option linter.unusedVariables false
set_option linter.unusedSimpArgs false
section
section
variable {ps:List Pt} {ts ss:List T3} {N i:Nat} {e:E4}
def dT (t:T3):List P2:=[(t.1,t.2.1),(t.2.1,t.2.2),(t.2.2,t.1)]
def KN (e:E4):List P2:=(if 0<=e.l then [(e.a,e.b)] else [])++(if 0<=e.r then [(e.b,e.a)] else [])
theorem FC {p:P2}:p∈KN e↔(0<=e.l/\p=(e.a,e.b))\/(0<=e.r/\p=(e.b,e.a)):=by
  unfold KN
  rw [List.mem_append]
  by_cases h1:0<=e.l<;>by_cases h2:0<=e.r<;>simp [h1,h2]
theorem LV:(KN e).length=(if 0<=e.l then 1 else 0)+(if 0<=e.r then 1 else 0):=by
  unfold KN
  by_cases h1:0<=e.l<;>by_cases h2:0<=e.r<;>simp [h1,h2]
theorem Jz (ts:List T3):(List.range (3*ts.length)).map (BS ts)=ts.flatMap dT:=by
  have key:∀n,n<=ts.length->(List.range (3*n)).map (BS ts)=(ts.take n).flatMap dT:=by
    intro n
    induction n with
    | zero=>intro _;rfl
    | succ n ih =>
      intro hn
      have e1:List.range (3*(n+1))=List.range (3*n)++[3*n,3*n+1,3*n+2]:=by
        rw [show 3*(n+1)=3*n+1+1+1 by omega,List.range_succ,List.range_succ,List.range_succ];simp
      have k0:=E6 (ts:=ts) (j:=n) (show 0<3 by decide)
      have k1:=E6 (ts:=ts) (j:=n) (show 1<3 by decide)
      have k2:=E6 (ts:=ts) (j:=n) (show 2<3 by decide)
      rw [e1,DS (d:=(0,0,0)) (show n<ts.length by omega),List.map_append,ih Z,List.flatMap_append]
      congr 1
      simp only [List.map_cons,List.map_nil,List.flatMap_cons,List.flatMap_nil,List.append_nil]
      rw [show 3*n=3*n+0 by omega,k0,show 3*n+0+1=3*n+1 by omega,k1,show 3*n+0+2=3*n+2 by omega,k2]
      rfl
  have h:=key ts.length (Nat.le_refl _)
  rwa [List.take_length] at h
theorem Vs {α β:Type} {f:α->List β} {l:List α} (hl:l.Nodup) (h:∀x∈l,(f x).Nodup) (hd:∀x∈l,∀y∈l,∀b,b∈f x->b∈f y->x=y):(l.flatMap f).Nodup:=by
  induction l with
  | nil=>exact List.nodup_nil
  | cons x r ih =>
    rw [List.flatMap_cons]
    obtain ⟨h1,h2⟩:=List.nodup_cons.1 hl
    refine List.nodup_append.2 ⟨h x List.mem_cons_self,ih h2 (λy hy=>h y (List.mem_cons_of_mem _ hy)) (λy hy z hz=>hd y (List.mem_cons_of_mem _ hy) z (List.mem_cons_of_mem _ hz)),λb hb c hc e=>?_⟩
    subst e
    obtain ⟨y,hy,hby⟩:=List.mem_flatMap.1 hc
    have:=hd x List.mem_cons_self y (List.mem_cons_of_mem _ hy) b hb hby
    subst this
    exact h1 hy
theorem PM (hn:By N ts=true) (hN:N<=4611686018427387904):(BC ts).Nodup:=(Gc hn hN).imp λ{x y} h k=>by subst k;exact Ti.asymm _ _ h h
theorem TC (hn:By N ts=true) (hN:N<=4611686018427387904) {x y:E4} (hx:x∈BC ts) (hy:y∈BC ts) (h1:x.a=y.a) (h2:x.b=y.b):x=y:=by
  have kx:=(D4 hn hN).1 hx
  have ky:=(D4 hn hN).1 hy
  have l1:=kx.l
  have l2:=ky.l
  have r1:=kx.r
  have r2:=ky.r
  simp only at l1 l2 r1 r2
  rw [<-h1,<-h2] at l2 r2
  obtain ⟨a,b,l,r⟩:=x
  obtain ⟨a',b',l',r'⟩:=y
  simp only at h1 h2 l1 l2 r1 r2
  rw [h1,h2,l1.uniq l2,r1.uniq r2]
theorem OK (hn:By N ts=true) (hN:N<=4611686018427387904):((BC ts).flatMap KN).Nodup:=by
  have hab:∀e∈BC ts,e.a<e.b:=λe he=>(edge_ends hn hN he).1
  refine Vs (PM hn hN) (λe he=>?_) λx hx y hy p h1 h2=>?_
  · have:=hab e he
    unfold KN
    by_cases h1:0<=e.l<;>by_cases h2:0<=e.r<;>simp [h1,h2]<;>omega
  · have ax:=hab x hx
    have ay:=hab y hy
    refine TC hn hN hx hy ?_ ?_
    · rcases FC.1 h1 with ⟨_,e1⟩|⟨_,e1⟩<;>rcases FC.1 h2 with ⟨_,e2⟩|⟨_,e2⟩<;>(rw [e1] at e2;have q1:=congrArg Prod.fst e2;have q2:=congrArg Prod.snd e2;simp only at q1 q2;omega)
    · rcases FC.1 h1 with ⟨_,e1⟩|⟨_,e1⟩<;>rcases FC.1 h2 with ⟨_,e2⟩|⟨_,e2⟩<;>(rw [e1] at e2;have q1:=congrArg Prod.fst e2;have q2:=congrArg Prod.snd e2;simp only at q1 q2;omega)
theorem F4.pos {s a b:Nat} {z:Int} (h:F4 ts s a b z):0<=z↔∃u,u<s/\BS ts u=(a,b):=by
  rcases h with ⟨h1,h2⟩|⟨u,h1,h2,h3,_⟩
  · exact ⟨λ_=>by omega,λ⟨u,hu,e⟩=>absurd e (h2 u hu)⟩
  · exact ⟨λ_=>⟨u,h1,h3⟩,λ_=>by omega⟩
theorem TB (hn:By N ts=true) (hN:N<=4611686018427387904) {p:P2}:p∈(BC ts).flatMap KN↔p∈(List.range (3*ts.length)).map (BS ts):=by
  rw [List.mem_flatMap,List.mem_map]
  constructor
  · rintro ⟨e,he,hp⟩
    have k:=(D4 hn hN).1 he
    rcases FC.1 hp with ⟨h1,rfl⟩|⟨h1,rfl⟩
    · obtain ⟨u,hu,h⟩:=(F4.pos k.l).1 h1;exact ⟨u,List.mem_range.2 hu,h⟩
    · obtain ⟨u,hu,h⟩:=(F4.pos k.r).1 h1;exact ⟨u,List.mem_range.2 hu,h⟩
  · rintro ⟨u,hu,rfl⟩
    have hu:=List.mem_range.1 hu
    have hne:=G7 hn hu
    rcases Nat.lt_or_ge (BS ts u).1 (BS ts u).2 with h|h
    · obtain ⟨zl,hl⟩:=Fr ts (BS ts u).1 (BS ts u).2 (3*ts.length)
      obtain ⟨zr,hr⟩:=Fr ts (BS ts u).2 (BS ts u).1 (3*ts.length)
      exact ⟨⟨(BS ts u).1,(BS ts u).2,zl,zr⟩,(D4 hn hN).2 ⟨rfl,rfl,h,hl,hr,⟨u,hu,.inl O⟩⟩,FC.2 (.inl ⟨hl.pos.2 ⟨u,hu,rfl⟩,rfl⟩)⟩
    · obtain ⟨zl,hl⟩:=Fr ts (BS ts u).2 (BS ts u).1 (3*ts.length)
      obtain ⟨zr,hr⟩:=Fr ts (BS ts u).1 (BS ts u).2 (3*ts.length)
      exact ⟨⟨(BS ts u).2,(BS ts u).1,zl,zr⟩,(D4 hn hN).2 ⟨rfl,rfl,by simp only;omega,hl,hr,⟨u,hu,.inr O⟩⟩,FC.2 (.inr ⟨hr.pos.2 ⟨u,hu,rfl⟩,rfl⟩)⟩
theorem Mq (g:Fp ps ts) (hn:By ps.length ts=true):((List.range (3*ts.length)).map (BS ts)).Nodup :=
  List.pairwise_map.2 (List.Pairwise.imp_of_mem (λ{u v} hu hv h k=>h (QO g hn (List.mem_range.1 hu) (List.mem_range.1 hv) k)) List.nodup_range)
theorem Ii (g:Fp ps ts) (hn:By ps.length ts=true):(ts.flatMap dT).Perm ((BC ts).flatMap KN):=by
  have hp:=g.pl
  rw [<-Jz]
  exact (List.perm_ext_iff_of_nodup (Mq g hn) (OK hn Z)).2 λp=>(TB hn Z).symm
def nD (ts:List T3) (i:Nat):Nat:=(((BC ts).take i).flatMap KN).length
theorem Se (hi:i<(BC ts).length):nD ts (i+1)=nD ts i+(KN ((BC ts).getD i E0)).length:=by
  unfold nD
  rw [DS (d:=E0) hi,List.flatMap_append,List.length_append]
  simp
theorem UP (g:Fp ps ts) (hn:By ps.length ts=true):nD ts (BC ts).length=3*ts.length:=by
  unfold nD
  rw [List.take_length,<-(Ii g hn).length_eq,<-Jz]
  simp
theorem VK:∀i,nD ts i<=2*i:=λi=>by
  unfold nD
  have h:∀l:List E4,(l.flatMap KN).length<=2*l.length:=λl=>by
    induction l with
    | nil=>exact Nat.le_refl _
    | cons x r ih =>
      rw [List.flatMap_cons,List.length_append,List.length_cons,LV]
      have h1:(if 0<=x.l then 1 else 0)<=1:=by split<;>omega
      have h2:(if 0<=x.r then 1 else 0)<=1:=by split<;>omega
      omega
  have h1:=h ((BC ts).take i)
  have h2:=List.length_take_le i (BC ts)
  omega
theorem KS {α β:Type} [BEq β] [LawfulBEq β] {m:α->Nat} {key:α->β}:∀{l:List α},(l.map key).Nodup->∀{x:α},x∈l->(l.flatMap λe=>List.replicate (m e) (key e)).count (key x)=m x
  | [],_,x,h=>by cases h
  | y::r,hd,x,h=>by
    rw [List.map_cons] at hd
    obtain ⟨h1,h2⟩:=List.nodup_cons.1 hd
    rw [List.flatMap_cons,List.count_append]
    have hz:∀k,k ∉ r.map key->(r.flatMap λe=>List.replicate (m e) (key e)).count k=0:=λk hk=>List.count_eq_zero.2 λhm=>by
      obtain ⟨e,he,hb⟩:=List.mem_flatMap.1 hm
      exact hk (List.mem_map.2 ⟨e,he,((List.mem_replicate.1 hb).2).symm⟩)
    rcases List.mem_cons.1 h with rfl|h
    · rw [List.count_replicate_self,hz _ h1,Nat.add_zero]
    · rw [KS h2 h,List.count_replicate,if_neg,Nat.zero_add]
      intro k
      exact h1 (List.mem_map.2 ⟨x,h,(eq_of_beq k).symm⟩)
theorem UI (g:Fp ps ts) (hn:By ps.length ts=true) (he:e∈BC ts):I4 ts (e.a,e.b)=(KN e).length:=by
  have hp:=g.pl
  rw [LN]
  have e1:Ix ts=(ts.flatMap dT).map λp=>Cc p.1 p.2:=by
    unfold Ix
    rw [List.map_flatMap]
    rfl
  rw [e1,((Ii g hn).map _).count_eq,List.map_flatMap]
  have hk:((BC ts).map λe=>(e.a,e.b)).Nodup:=List.pairwise_map.2 ((Gc hn Z).imp λ{x y} h k=>by
    have h1:=congrArg Prod.fst k
    have h2:=congrArg Prod.snd k
    simp only at h1 h2
    unfold Ti at h
    omega)
  have e2:∀l:List E4,(∀x∈l,x.a<x.b)->(l.flatMap λx=>(KN x).map λp=>Cc p.1 p.2)=l.flatMap λx=>List.replicate (KN x).length (x.a,x.b):=λl hl=>by
    induction l with
    | nil=>rfl
    | cons x r ih =>
      rw [List.flatMap_cons,List.flatMap_cons,ih λy hy=>hl y (List.mem_cons_of_mem _ hy)]
      congr 1
      have hx:=hl x List.mem_cons_self
      have k1:Cc x.a x.b=(x.a,x.b):=Prod.ext (Nat.min_eq_left Z) (Nat.max_eq_right Z)
      have k2:Cc x.b x.a=(x.a,x.b):=Prod.ext (Nat.min_eq_right Z) (Nat.max_eq_left Z)
      unfold KN
      by_cases h1:0<=x.l<;>by_cases h2:0<=x.r<;>simp [h1,h2,k1,k2,List.replicate]
  rw [e2 _ λx hx=>(edge_ends hn Z hx).1]
  exact KS (key:=λe:E4=>(e.a,e.b)) (m:=λe=>(KN e).length) hk he
theorem KQ (hn:By N ts=true) (hN:N<=4611686018427387904) (he:e∈BC ts):0<=e.l\/0<=e.r:=by
  have k:=(D4 hn hN).1 he
  obtain ⟨u,hu,h⟩:=k.some
  rcases h with h|h
  · exact .inl ((F4.pos k.l).2 ⟨u,hu,h⟩)
  · exact .inr ((F4.pos k.r).2 ⟨u,hu,h⟩)
theorem SS (hn:By N ts=true) (hN:N<=4611686018427387904) (he:e∈BC ts) (hl:0<=e.l) (hr:0<=e.r):e.l≠e.r:=λh=>by
  have k:=(D4 hn hN).1 he
  have kl:=k.l
  have kr:=k.r
  have lt:=k.lt
  simp only at kl kr lt
  rcases kl with ⟨h1,_⟩|⟨u,u1,u2,u3,_⟩
  · omega
  rcases kr with ⟨h1,_⟩|⟨v,v1,v2,v3,_⟩
  · omega
  have huv:u/3=v/3:=by omega
  obtain ⟨n1,n2,n3⟩:=K6 (Cb hn (show u/3<ts.length by omega))
  unfold BS at u3 v3
  rw [<-huv] at v3
  generalize ts.getD (u/3) (0,0,0)=T at u3 v3 n1 n2 n3
  have a1:u%3=0\/u%3=1\/u%3=2:=by omega
  have a2:v%3=0\/v%3=1\/v%3=2:=by omega
  rcases a1 with a1|a1|a1<;>rcases a2 with a2|a2|a2<;>rw [a1] at u3<;>rw [a2] at v3<;>simp [Fj] at u3 v3<;>omega
theorem Rl (hi:i<=(BC ts).length):∃r,EP ts=Bm ts i++r:=by
  unfold EP Bm
  rw [List.take_length]
  refine ⟨((BC ts).drop i |>.filter λe=>decide (I4 ts (e.a,e.b)=1)).map λe=>(e.a,e.b,0),?_⟩
  rw [<-List.map_append,<-List.filter_append,List.take_append_drop]
theorem SZ (hi:i<(BC ts).length) (h:I4 ts (((BC ts).getD i ⟨0,0,0,0⟩).a,((BC ts).getD i ⟨0,0,0,0⟩).b)=1):(Bm ts i).length<(EP ts).length/\(EP ts).getD (Bm ts i).length (0,0,0)=(((BC ts).getD i ⟨0,0,0,0⟩).a,((BC ts).getD i ⟨0,0,0,0⟩).b,0):=by
  obtain ⟨r,hr⟩:=Rl (ts:=ts) (i:=i+1) Z
  rw [Gn hi h] at hr
  rw [hr]
  refine ⟨by simp,?_⟩
  rw [List.getD,List.append_assoc,List.getElem?_append_right (Nat.le_refl _),Nat.sub_self]
  rfl
theorem TY (hn:By N ts=true) (hN:N<=4611686018427387904) (sd:∃mm,ss=EQ mm ts N N) (hi:i<(BC ts).length) (h:I4 ts (((BC ts).getD i ⟨0,0,0,0⟩).a,((BC ts).getD i ⟨0,0,0,0⟩).b)=1):(Bm ts i).length<ss.length/\(ss.getD (Bm ts i).length (0,0,0)).1=((BC ts).getD i ⟨0,0,0,0⟩).a/\(ss.getD (Bm ts i).length (0,0,0)).2.1=((BC ts).getD i ⟨0,0,0,0⟩).b:=by
  obtain ⟨mm,hm⟩:=sd
  obtain ⟨h1,h2⟩:=SZ hi h
  rw [hm,J4 hn hN]
  have e:((EP ts).map λs=>PW mm s.1 s.2.1).getD (Bm ts i).length (0,0,0)=PW mm ((EP ts).getD (Bm ts i).length (0,0,0)).1 ((EP ts).getD (Bm ts i).length (0,0,0)).2.1:=by
    rw [List.getD,List.getD,List.getElem?_map,List.getElem?_eq_getElem h1];rfl
  rw [e,h2,List.length_map]
  exact ⟨h1,rfl,rfl⟩
theorem Ps (hn:By N ts=true) (hN:N<=4611686018427387904) (sd:∃mm,ss=EQ mm ts N N):(Bm ts (BC ts).length).length=ss.length:=by
  obtain ⟨mm,hm⟩:=sd
  rw [hm,J4 hn hN,List.length_map]
  rfl
def Us (ps:List Pt) (p:P2):Rat:=Ca (CG ps p.1) (CG ps p.2)
def sR (ps:List Pt) (ts:List T3):Nat->Rat
  | 0=>0
  | i+1=>if 0<=((BC ts).getD i ⟨0,0,0,0⟩).l/\0<=((BC ts).getD i ⟨0,0,0,0⟩).r then sR ps ts i else if 0<=((BC ts).getD i ⟨0,0,0,0⟩).l then sR ps ts i+Ca (CG ps ((BC ts).getD i ⟨0,0,0,0⟩).a) (CG ps ((BC ts).getD i ⟨0,0,0,0⟩).b) else sR ps ts i+Ca (CG ps ((BC ts).getD i ⟨0,0,0,0⟩).b) (CG ps ((BC ts).getD i ⟨0,0,0,0⟩).a)
theorem K4 (h:0<=((BC ts).getD i ⟨0,0,0,0⟩).l/\0<=((BC ts).getD i ⟨0,0,0,0⟩).r):sR ps ts (i+1)=sR ps ts i:=if_pos h
theorem II (h:¬0<=((BC ts).getD i ⟨0,0,0,0⟩).r) (hl:0<=((BC ts).getD i ⟨0,0,0,0⟩).l):sR ps ts (i+1)=sR ps ts i+Ca (CG ps ((BC ts).getD i ⟨0,0,0,0⟩).a) (CG ps ((BC ts).getD i ⟨0,0,0,0⟩).b):=(if_neg λk=>h k.2).trans (if_pos hl)
theorem Gx (hl:¬0<=((BC ts).getD i ⟨0,0,0,0⟩).l):sR ps ts (i+1)=sR ps ts i+Ca (CG ps ((BC ts).getD i ⟨0,0,0,0⟩).b) (CG ps ((BC ts).getD i ⟨0,0,0,0⟩).a):=(if_neg λk=>hl k.1).trans (if_neg hl)
theorem Ph (hn:By N ts=true) (hN:N<=4611686018427387904):∀i,i<=(BC ts).length->sR ps ts i=Db ((((BC ts).take i).flatMap KN).map (Us ps))
  | 0,_=>by rw [List.take_zero];rfl
  | i+1,h=>by
    have hi:i<(BC ts).length:=by omega
    rw [DS (d:=(⟨0,0,0,0⟩:E4)) hi,List.flatMap_append,List.map_append,Iy,<-Ph hn hN i Z]
    have hm:(BC ts).getD i ⟨0,0,0,0⟩∈BC ts:=by rw [List.getD,List.getElem?_eq_getElem hi];exact List.getElem_mem hi
    have hs:=KQ hn hN hm
    simp only [List.flatMap_cons,List.flatMap_nil,List.append_nil]
    by_cases h1:0<=((BC ts).getD i ⟨0,0,0,0⟩).l
    · by_cases h2:0<=((BC ts).getD i ⟨0,0,0,0⟩).r
      · rw [K4 ⟨h1,h2⟩]
        unfold KN
        rw [if_pos h1,if_pos h2]
        simp only [List.cons_append,List.nil_append,List.map_cons,List.map_nil,Db,Us,Jw]
        grind
      · rw [II h2 h1]
        unfold KN
        rw [if_pos h1,if_neg h2]
        simp only [List.append_nil,List.map_cons,List.map_nil,Db,Us]
        grind
    · have h2:0<=((BC ts).getD i ⟨0,0,0,0⟩).r:=hs.resolve_left h1
      rw [Gx h1]
      unfold KN
      rw [if_neg h1,if_pos h2]
      simp only [List.nil_append,List.map_cons,List.map_nil,Db,Us]
      grind
theorem TW (g:Fp ps ts) (hn:By ps.length ts=true):sR ps ts (BC ts).length=CP ps ts ts.length+CP ps ts ts.length:=by
  have hp:=g.pl
  rw [Ph hn Z _ (Nat.le_refl _),List.take_length,OR ((Ii g hn).map (Us ps)).symm,List.map_flatMap,Jt (λt=>HQ ps t+HQ ps t) _ ts λt _=>?_,L_,Pc]
  simp only [dT,List.map_cons,List.map_nil,Db,Us,HQ,G3,Jw]
  grind
theorem MJ (hz:∀k,B8 (CG ps k)<=1000) (a b:Nat):Sz (Ca (CG ps a) (CG ps b))<=8009:=by
  have z1:=hz a
  have z2:=hz b
  have c1:=Et (CG ps a) (CG ps b)
  omega
theorem Pk {x y:Rat} {n:Nat} (hx:Sz x<=2+n*8010) (hy:Sz y<=8009):Sz (x+y)<=2+(n+1)*8010:=by
  have h:=GY x y
  omega
theorem Qu (hz:∀k,B8 (CG ps k)<=1000):∀i,Sz (sR ps ts i)<=2+i*8010
  | 0=>by show Sz (0:Rat)<=2+0*8010;decide +kernel
  | i+1=>by
    have h:=Qu hz i
    by_cases h1:0<=((BC ts).getD i ⟨0,0,0,0⟩).l
    · by_cases h2:0<=((BC ts).getD i ⟨0,0,0,0⟩).r
      · rw [K4 ⟨h1,h2⟩];exact Nat.le_trans h (by rw [Nat.add_mul];exact Nat.add_le_add_left (Nat.le_add_right _ _) _)
      · rw [II h2 h1];exact Pk h (MJ hz _ _)
    · rw [Gx h1];exact Pk h (MJ hz _ _)
theorem Ra (g:Fp ps ts):0<CP ps ts ts.length:=by
  have h:∀i,i<=ts.length->0<=CP ps ts i/\(0<i->0<CP ps ts i):=λi=>by
    induction i with
    | zero=>exact λ_=>⟨Rat.le_refl,λh=>absurd h (Nat.lt_irrefl _)⟩
    | succ i ih =>
      intro hi
      obtain ⟨h1,_⟩:=ih Z
      have h2:0<Ag (CG ps (ts.getD i (0,0,0)).1) (CG ps (ts.getD i (0,0,0)).2.1) (CG ps (ts.getD i (0,0,0)).2.2):=(g.tri i Z).pos
      have h3:0<CP ps ts i+HQ ps (ts.getD i (0,0,0)):=by unfold HQ;grind
      exact ⟨Rat.le_of_lt h3,λ_=>h3⟩
  exact (h _ (Nat.le_refl _)).2 (List.length_pos_iff.2 g.ne)
end
end
section
section
variable {P:Program} {ops:Array Oper} {rest:List Oper} {Q:Exit->Act->World->Prop} {n:Nat} {F:List (Nat×Value)} {w0:BL} {L:List As} {d:Option Tmp} {op:Op} {t:TypeId} {p:String} {af:Array Edge} {g:Nat×Bool}
end
end
end Go.Proofs.YtfbomiejpbchdaaGreatDoor
