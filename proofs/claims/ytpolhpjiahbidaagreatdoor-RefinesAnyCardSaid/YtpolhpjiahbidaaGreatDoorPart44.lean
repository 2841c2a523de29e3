import Derived.Test.YtpolhpjiahbidaaGreatDoorPart32
import Derived.Test.YtpolhpjiahbidaaGreatDoorPart39
namespace Go.Proofs.YtpolhpjiahbidaaGreatDoor
open Go Go.RowKit Go.Proofs.Tryz
set_option linter.unusedVariables false
set_option linter.unusedSimpArgs false
section
def Cv (ts:List T3) (a b:Nat):Nat->Int
  | 0 => -1
  | k+1=>if Da (ts.getD (ts.length-1-k) (0,0,0)) a b=true then ((ts.length-1-k:Nat):Int) else Cv ts a b k
def R_ (ts:List T3) (a b:Nat):E4:=⟨a,b,HS ts a b ts.length,HS ts b a ts.length⟩
def H0 (ts:List T3) (a:Nat):Nat->List E4
  | 0=>[]
  | j+1=>if 0<=(R_ ts a (a+1+j)).l\/0<=(R_ ts a (a+1+j)).r then H0 ts a j++[R_ ts a (a+1+j)] else H0 ts a j
def YH (ts:List T3) (N:Nat):Nat->List E4
  | 0=>[]
  | a+1=>YH ts N a++H0 ts a (N-(a+1))
section
variable {ts:List T3} {a b N:Nat}
theorem Jy:∀k,k<=ts.length->(Cv ts a b k = -1/\∀j,ts.length-k<=j->j<ts.length->Da (ts.getD j (0,0,0)) a b=false)\/∃j,ts.length-k<=j/\j<ts.length/\Da (ts.getD j (0,0,0)) a b=true/\Cv ts a b k=(j:Int)/\∀i,ts.length-k<=i->i<j->Da (ts.getD i (0,0,0)) a b=false
  | 0,_=>.inl ⟨rfl,λj h1 h2=>by omega⟩
  | k+1,hk=>by
    rw [Cv]
    by_cases e:Da (ts.getD (ts.length-1-k) (0,0,0)) a b=true
    · rw [if_pos e]
      exact .inr ⟨ts.length-1-k,Z,Z,e,rfl,λi h1 h2=>by omega⟩
    · rw [if_neg e]
      have e2:Da (ts.getD (ts.length-1-k) (0,0,0)) a b=false:=by simpa using e
      rcases Jy k Z with ⟨h1,h2⟩|⟨j,h1,h2,h3,h4,h5⟩
      · refine .inl ⟨h1,λj q1 q2=>?_⟩
        rcases Nat.lt_or_ge j (ts.length-k) with h|h
        · rw [show j=ts.length-1-k by omega];exact e2
        · exact h2 j h q2
      · refine .inr ⟨j,Z,h2,h3,h4,λi q1 q2=>?_⟩
        rcases Nat.lt_or_ge i (ts.length-k) with h|h
        · rw [show i=ts.length-1-k by omega];exact e2
        · exact h5 i h q2
theorem MM:Cv ts a b ts.length=HS ts a b ts.length:=by
  rcases Jy (ts:=ts) (a:=a) (b:=b) ts.length (Nat.le_refl _) with ⟨h1,h2⟩|⟨j,h1,h2,h3,h4,h5⟩
  · rw [h1,JL _ λj hj=>h2 j Z hj]
  · rw [h4,N_ _ h2 h3 λi hi=>h5 i Z hi]
theorem J5 {j:Nat}:Da (ts.getD j (0,0,0)) a b=true↔OP ts j a b:=by
  unfold OP
  constructor
  · intro h
    unfold Da at h
    simp only [Bool.or_eq_true,Bool.and_eq_true,decide_eq_true_eq] at h
    rcases h with ⟨h1,h2⟩|⟨h1,h2⟩|⟨h1,h2⟩
    · exact ⟨0,by decide,by rw [E6 (by decide)];exact Prod.ext h1 h2⟩
    · exact ⟨1,by decide,by rw [E6 (by decide)];exact Prod.ext h1 h2⟩
    · exact ⟨2,by decide,by rw [E6 (by decide)];exact Prod.ext h1 h2⟩
  · rintro ⟨r,hr,h⟩
    rw [E6 hr] at h
    have h1:=congrArg Prod.fst h
    have h2:=congrArg Prod.snd h
    simp only at h1 h2
    have e:r=0\/r=1\/r=2:=by omega
    unfold Da
    rcases e with rfl|rfl|rfl<;>simp [Gy] at h1 h2<;>simp [h1,h2]
theorem Gn:Gu ts (3*ts.length) a b (HS ts a b ts.length):=by
  refine Mv ?_
  by_cases h:∃j,j<ts.length/\Da (ts.getD j (0,0,0)) a b=true
  · rcases Jy (ts:=ts) (a:=a) (b:=b) ts.length (Nat.le_refl _) with ⟨h1,h2⟩|⟨j,h1,h2,h3,h4,h5⟩
    · obtain ⟨j,k1,k2⟩:=h
      rw [h2 j Z k1] at k2
      cases k2
    · refine .inr ⟨j,h2,by rw [<-MM];exact h4,J5.1 h3,λi hi k=>?_⟩
      have:=h5 i Z hi
      rw [J5.2 k] at this
      cases this
  · have hn:∀j,j<ts.length->Da (ts.getD j (0,0,0)) a b=false:=λj hj=>by
      cases e:Da (ts.getD j (0,0,0)) a b with
      | false=>rfl
      | true=>exact absurd ⟨j,hj,e⟩ h
    exact .inl ⟨JL _ hn,λj hj k=>by have:=hn j hj;rw [J5.2 k] at this;cases this⟩
theorem GL {e:E4}:∀j,e∈H0 ts a j↔e.a=a/\a<e.b/\e.b<a+1+j/\e=R_ ts e.a e.b/\(0<=e.l\/0<=e.r)
  | 0=>⟨λh=>(by cases h),λh=>Z⟩
  | j+1=>by
    rw [H0]
    split
    · rename_i hc
      rw [List.mem_append,GL j,List.mem_singleton]
      constructor
      · rintro (h|rfl)
        · exact ⟨h.1,h.2.1,Z,h.2.2.2⟩
        · exact ⟨rfl,(by show a<a+1+j;omega),(by show a+1+j<a+1+(j+1);omega),rfl,hc⟩
      · rintro ⟨h1,h2,h3,h4,h5⟩
        rcases Nat.lt_or_ge e.b (a+1+j) with h6|h6
        · exact .inl ⟨h1,h2,h6,h4,h5⟩
        · refine .inr ?_
          rw [h4,h1,show e.b=a+1+j by omega]
    · rename_i hc
      rw [GL j]
      constructor
      · exact λh=>⟨h.1,h.2.1,Z,h.2.2.2⟩
      · rintro ⟨h1,h2,h3,h4,h5⟩
        rcases Nat.lt_or_ge e.b (a+1+j) with h6|h6
        · exact ⟨h1,h2,h6,h4,h5⟩
        · rw [h1,show e.b=a+1+j by omega] at h4
          rw [h4] at h5
          exact absurd h5 hc
theorem Mb {e:E4}:∀A,e∈YH ts N A↔e.a<A/\e.a<e.b/\e.b<N/\e=R_ ts e.a e.b/\(0<=e.l\/0<=e.r)
  | 0=>⟨λh=>(by cases h),λh=>Z⟩
  | A+1=>by
    rw [YH,List.mem_append,Mb A,GL]
    constructor
    · rintro (h|h)
      · exact ⟨Z,h.2⟩
      · exact ⟨Z,Z,Z,h.2.2.2⟩
    · rintro ⟨h1,h2,h3,h4⟩
      rcases Nat.lt_or_ge e.a A with h5|h5
      · exact .inl ⟨h5,h2,h3,h4⟩
      · exact .inr ⟨Z,Z,Z,h4⟩
theorem GN:∀j,(H0 ts a j).Pairwise QM
  | 0=>List.Pairwise.nil
  | j+1=>by
    rw [H0]
    split
    · refine List.pairwise_append.2 ⟨GN j,List.pairwise_singleton _ _,λx hx y hy=>?_⟩
      rw [List.mem_singleton] at hy
      subst hy
      have h:=(GL j).1 hx
      exact .inr ⟨h.1,(by show x.b<a+1+j;exact h.2.2.1)⟩
    · exact GN j
theorem J6:∀A,(YH ts N A).Pairwise QM
  | 0=>List.Pairwise.nil
  | A+1=>List.pairwise_append.2 ⟨J6 A,GN _,λx hx y hy=>.inl (by
      have h1:=(Mb A).1 hx
      have h2:=(GL _).1 hy
      omega)⟩
theorem Xu (hn:Bn N ts=true) (hN:N<=4611686018427387904):YH ts N N=An ts:=by
  refine JP QM.asymm (J6 N) (Fo hn hN) λe=>?_
  rw [Mb,JF hn hN]
  constructor
  · rintro ⟨_,h2,_,h4,h5⟩
    have el:e.l=HS ts e.a e.b ts.length:=congrArg E4.l h4
    have er:e.r=HS ts e.b e.a ts.length:=congrArg E4.r h4
    refine ⟨rfl,rfl,h2,by rw [el];exact Gn,by rw [er];exact Gn,?_⟩
    rcases h5 with h5|h5
    · rw [el] at h5
      obtain ⟨u,hu,h⟩:=(Gu.neg2 Gn).1 h5
      exact ⟨u,hu,.inl h⟩
    · rw [er] at h5
      obtain ⟨u,hu,h⟩:=(Gu.neg2 Gn).1 h5
      exact ⟨u,hu,.inr h⟩
  · intro k
    have kl:Gu ts (3*ts.length) e.a e.b e.l:=k.l
    have kr:Gu ts (3*ts.length) e.b e.a e.r:=k.r
    have el:e.l=HS ts e.a e.b ts.length:=kl.uniq Gn
    have er:e.r=HS ts e.b e.a ts.length:=kr.uniq Gn
    have hk:(e.a,e.b)∈FD ts:=(Hm hn hN).2 ⟨e,(JF hn hN).2 k,rfl,rfl⟩
    obtain ⟨k1,k2⟩:=NU hn hN hk
    refine ⟨Z,k1,k2,?_,?_⟩
    · obtain ⟨x,y,l,r⟩:=e
      simp only at el er
      rw [el,er]
      rfl
    · obtain ⟨u,hu,h⟩:=k.some
      rcases h with h|h
      · exact .inl ((Gu.neg2 kl).2 ⟨u,hu,h⟩)
      · exact .inr ((Gu.neg2 kr).2 ⟨u,hu,h⟩)
where
  Gu.neg2 {s x y:Nat} {z:Int} (h:Gu ts s x y z):0<=z↔∃u,u<s/\B4 ts u=(x,y):=by
    rcases h with ⟨h1,h2⟩|⟨u,h1,h2,h3,_⟩
    · exact ⟨λ_=>by omega,λ⟨u,hu,e⟩=>absurd e (h2 u hu)⟩
    · exact ⟨λ_=>⟨u,h1,h3⟩,λ_=>by omega⟩
theorem P4 {k:Nat} (h:Da (ts.getD (ts.length-1-k) (0,0,0)) a b=true):Cv ts a b (k+1)=((ts.length-1-k:Nat):Int):=if_pos h
theorem Tp {k:Nat} (h:¬Da (ts.getD (ts.length-1-k) (0,0,0)) a b=true):Cv ts a b (k+1)=Cv ts a b k:=if_neg h
theorem Sh {j:Nat} (hj:a+1<=j) (h:0<=(R_ ts a j).l\/0<=(R_ ts a j).r):H0 ts a (j+1-(a+1))=H0 ts a (j-(a+1))++[R_ ts a j]:=by
  rw [show j+1-(a+1)=(j-(a+1))+1 by omega,H0,if_pos (by rw [show a+1+(j-(a+1))=j by omega];exact h),show a+1+(j-(a+1))=j by omega]
theorem WE {j:Nat} (hj:a+1<=j) (h:¬(0<=(R_ ts a j).l\/0<=(R_ ts a j).r)):H0 ts a (j+1-(a+1))=H0 ts a (j-(a+1)):=by
  rw [show j+1-(a+1)=(j-(a+1))+1 by omega,H0,if_neg (by rw [show a+1+(j-(a+1))=j by omega];exact h)]
theorem X2 {k:Nat} (h:k=ts.length):(⟨a,b,Cv ts a b k,Cv ts b a k⟩:E4)=R_ ts a b:=by
  subst h
  rw [MM,MM];rfl
end
end
section
set_option maxRecDepth 100000
theorem Xf:ElemT prog 47 50 4 32:=⟨underlying47,DM (by kernel_rfl)⟩
theorem Jp (x0:E4):Instr.fill (λi=>some (i*4,4)) ((Array.range (1*4)).map ((Value.agg (BY (⟨0,0,0,0⟩:E4)).toArray).cells[·%(Value.agg (BY (⟨0,0,0,0⟩:E4)).toArray).cells.size]!)) [(0,.agg (BY x0).toArray)]=some (BY x0).toArray:=by kernel_rfl
set_option maxHeartbeats 2000000 in
theorem Rq {N:Nat} {ts ss:List T3} (x:RM N ts ss) (hnb:Bn N ts=true) (hl:ts.length<=1000000) (hN:N<=4096) (w:World) {S:Nat->Prop} (hx:Ro S w x):Calls prog 46 #[(aG (FE x))] w (Af (RX (rowsL BY (An ts)) (An ts).length) S w):=by
 have lx:=CI (W:=w) hx
 refine AY (args:=[(aG (FE x))]) (L:=[AE x.a.p (x.cs),AE x.b.p (rowsL Ad ts),AE x.c.p (x.ds)]) func46 O O (AI O) (D9 hx Aj) (OkC.subF (sL [0] O) (q4 (Be (cs:=FE x) O λb1=>asg' O (q3 (sL [1,2] O) (asg' O (OkL.nilRow 50 4 (OkL.nil (q1 (q4 (BH 1 DA O ?_))))))))))
 refine Ce call45 (λw hw=>QE x hnb hl Z w (inS hw 2 O lx)) O (AH (BU (c:=false) O O) O (OkL.nil (OkQ.subF (sL [1,2,3,10] O) (OkQ.then_ (OkC.cond_false O (OkC.skip (q1 (q4 (asg' O (OkL.nil (OkQ.subF (sL [1,2,3,4] O) ?_)))))))))))
 refine OkQ.then_ (OkC.block ?_)
 refine OkC.lp4 (tg λ(ai:Nat) (p1:Option Addr) (c1:Nat) (ou:List E4)=>ai<=N/\OwnOk p1 ou.length c1/\ou.length<=ai*4096/\ou=YH ts N ai) (tg λ(ai:Nat) (p1:Option Addr) (c1:Nat) (ou:List E4)=>[(1,(pP b1 0)),(2,(Value.slice none 0 0)),(4,(vN ai)),(3,(Value.slice p1 ou.length c1))]) (tg λ(ai:Nat) (p1:Option Addr) (c1:Nat) (ou:List E4)=>[rowW p1 50 4 ou.length c1 (rowsL BY ou),AU b1 39 (FE x),AE x.a.p (x.cs),AE x.b.p (rowsL Ad ts),AE x.c.p (x.ds)]) (tg λ(ai:Nat) (p1:Option Addr) (c1:Nat) (ou:List E4)=>N-ai) 0 none 0 ([]:List E4) (⟨Nat.zero_le _,OwnOk.none,by simp,rfl⟩) (sF O) sr (λai p1 c1 ou hJ=>?_)
 obtain ⟨hai,h1,hln,hou⟩:=hJ
 refine OkC.seq (q4 (AM O (AH (v:=(pP b1 0)) (AA O underlying39 O sizeOf36 O) O (Au 1 (Value.slice x.a.p N x.a.c) Fj O (AH (v:=(vN N)) (AD O underlying36) O (AH (Ae (c:=(decide (ai<N))) O O (CB (a:=ai) (b:=N))) O (OkL.nil (OkQ.subF (sL [1,2,4,3,16] O) (OkQ.then_ ?_)))))))))
 refine OkC.cond O (λhc1=>?_) (λhc1=>?_)
 ·replace hc1:=of_decide_eq_true hc1
  refine OkC.skip (q1 (OkC.block (q4 (AM O (AH (AX (c:=((ai+1:Nat):Int)) O O (AR (a:=ai) (b:=1) Z)) O (asg' O (OkL.nil (OkQ.subF (sL [1,2,4,3,5] O) (OkQ.then_ (OkC.block ?_))))))))))
  refine OkC.lp4 (tg λ(bi:Nat) (p2:Option Addr) (c2:Nat) (oq:List E4)=>bi<=N/\ai+1<=bi/\OwnOk p2 oq.length c2/\oq.length<=ai*4096+(bi-(ai+1))/\oq=YH ts N ai++H0 ts ai (bi-(ai+1))) (tg λ(bi:Nat) (p2:Option Addr) (c2:Nat) (oq:List E4)=>[(1,(pP b1 0)),(2,(Value.slice none 0 0)),(4,(vN ai)),(5,(vN bi)),(3,(Value.slice p2 oq.length c2))]) (tg λ(bi:Nat) (p2:Option Addr) (c2:Nat) (oq:List E4)=>[rowW p2 50 4 oq.length c2 (rowsL BY oq),AU b1 39 (FE x),AE x.a.p (x.cs),AE x.b.p (rowsL Ad ts),AE x.c.p (x.ds)]) (tg λ(bi:Nat) (p2:Option Addr) (c2:Nat) (oq:List E4)=>N-bi) (ai+1) p1 c1 ou (⟨Z,Nat.le_refl _,h1,Z,by rw [hou,Nat.sub_self];exact (List.append_nil _).symm⟩) (sF O) sr (λbi p2 c2 oq hJ=>?_)
  obtain ⟨hbi,hba,h2,hlq,hsq⟩:=hJ
  refine OkC.seq (q4 (AM O (AH (v:=(pP b1 0)) (AA O underlying39 O sizeOf36 O) O (Au 1 (Value.slice x.a.p N x.a.c) Fj O (AH (v:=(vN N)) (AD O underlying36) O (AH (Ae (c:=(decide (bi<N))) O O (CB (a:=bi) (b:=N))) O (OkL.nil (OkQ.subF (sL [1,2,4,5,3,25] O) (OkQ.then_ ?_)))))))))
  refine OkC.cond O (λhc2=>?_) (λhc2=>?_)
  ·replace hc2:=of_decide_eq_true hc2
   refine OkC.skip (q1 (OkC.block (q4 (AM O (AM O (AH (v:=(aG ([(vN ai),(vN bi),(vI (-1:Int)),(vI (-1:Int))]))) (AQ (zs:=BY (⟨0,0,0,0⟩:E4)) (vs:=[(vN ai),(vN bi),(vI (-1:Int)),(vI (-1:Int))]) (pv:=[(0,(vN ai)),(1,(vN bi)),(2,(vI (-1:Int))),(3,(vI (-1:Int)))]) (places:=[(0,1),(1,1),(2,1),(3,1)]) zeroValue50 underlying50 (λw=>by simp [sizeOf3]) O O) O (al X1 O λb2=>Ax O sizeOf50 O (q6 (sL [1,2,4,5,3,6] O) (q4 (AH (v:=(pP b1 1)) (AA O underlying39 O sizeOf23 O) O ?_))))))))))
   refine Au 2 (Value.slice x.b.p ts.length x.b.c) CU O (AH (v:=(vN ts.length)) (AD O underlying23) O (AH (BI (c:=(((ts.length:Nat):Int)-1-((0:Nat):Int))) O O (by rw [BE Z Z];omega)) O (asg' O (OkL.nil (OkQ.subF (sL [1,2,4,5,3,6,7] O) (OkQ.then_ (OkC.block ?_)))))))
   refine OkC.lp1 (tg λ(k:Nat)=>k<=ts.length) (tg λ(k:Nat)=>[(1,(pP b1 0)),(2,(Value.slice none 0 0)),(4,(vN ai)),(5,(vN bi)),(3,(Value.slice p2 oq.length c2)),(6,(pP b2 0)),(7,(vI (((ts.length:Nat):Int)-1-((k:Nat):Int))))]) (tg λ(k:Nat)=>[AU b2 50 (BY (⟨ai,bi,Cv ts ai bi k,Cv ts bi ai k⟩:E4)),rowW p2 50 4 oq.length c2 (rowsL BY oq),AU b1 39 (FE x),AE x.a.p (x.cs),AE x.b.p (rowsL Ad ts),AE x.c.p (x.ds)]) (tg λ(k:Nat)=>ts.length-k) 0 (Nat.zero_le _) (sF O) sr (λk hJ=>?_)
   have hk:=hJ
   refine OkC.seq (q4 (AM O (AH (Bx (c:=(decide ((0:Int)<=(((ts.length:Nat):Int)-1-((k:Nat):Int))))) O O O) O (OkL.nil (OkQ.subF (sL [1,2,4,5,3,6,7,36] O) (OkQ.then_ ?_))))))
   refine OkC.cond O (λhc3=>?_) (λhc3=>?_)
   ·replace hc3:=of_decide_eq_true hc3
    obtain ⟨u,hu⟩:∃u,u=ts.length-1-k:=⟨_,rfl⟩
    have hkl:k<ts.length:=by omega
    refine OkC.retell (k:=7) (u:=(vN u)) O (by show Value.int _ _=Value.int _ _;congr 1;omega) (OkC.skip (q1 (OkC.block (OkC.seq (q4 (AH (v:=(pP b1 1)) (AA O underlying39 O sizeOf23 O) O (Au 2 (Value.slice x.b.p ts.length x.b.c) CU O (AM O (AH (v:=(pP (pB x.b.p) (pO x.b.p+u*3))) (AL (j:=u) O O x.b.ok underlying23 sizeOf105 O Z) O (AH (v:=(aG (Ad (ts.getD u ((0,0,0):Tq3))))) (AT (vs:=Ad (ts.getD u ((0,0,0):Tq3))) (i:=4) O O (Av.ne x.b.ok Z) ET (Am Az _ _ _ Z) (Az _)) O (AM O ?_)))))))))))
    refine AM O (ck' call111 (I_ (ts.getD u ((0,0,0):Tq3)) ai bi) O (OkL.nil (OkQ.subF (sL [1,2,4,5,3,6,7,46] O) (OkQ.then_ ?_))))
    refine OkC.jn1 (tg λ(l1:Int)=>l1=Cv ts ai bi (k+1)) (tg λ(l1:Int)=>[(1,(pP b1 0)),(2,(Value.slice none 0 0)),(4,(vN ai)),(5,(vN bi)),(3,(Value.slice p2 oq.length c2)),(6,(pP b2 0)),(7,(vN u))]) (tg λ(l1:Int)=>[AU b2 50 (BY (⟨ai,bi,l1,Cv ts bi ai k⟩:E4)),rowW p2 50 4 oq.length c2 (rowsL BY oq),AU b1 39 (FE x),AE x.a.p (x.cs),AE x.b.p (rowsL Ad ts),AE x.c.p (x.ds)]) ?_ ?_
    ·skip
     refine OkC.cond O (λhc4=>?_) (λhc4=>?_)
     ·skip
      exact OkC.region (AM O (AH (v:=(pP b2 2)) (AA O underlying50 O sizeOf3 O) O (FG 0 (off:=2) (vs:=[(vN u)]) (cs':=[(vN ((⟨ai,bi,Cv ts ai bi k,Cv ts bi ai k⟩:E4).a)),(vN ((⟨ai,bi,Cv ts ai bi k,Cv ts bi ai k⟩:E4).b)),(vN u),(vI ((⟨ai,bi,Cv ts ai bi k,Cv ts bi ai k⟩:E4).r))]) (AP O) O sizeOf3 O (OkL.nil (OkQ.subF (sL [1,2,4,5,3,6,7] O) (OkQ.join1 ((u:Nat):Int) ((by rw [P4 (by rw [<-hu];exact hc4),hu])) (sF O) sr))))))
     ·skip
      exact OkC.skip (OkQ.join1 ((⟨ai,bi,Cv ts ai bi k,Cv ts bi ai k⟩:E4).l) ((Tp (by rw [<-hu];exact λh9=>Bool.false_ne_true (hc4.symm.trans h9))).symm) (sF O) sr)
    ·intro l1 hJ
     have hl1:=hJ
     refine q2 (AH (v:=(pP b1 1)) (AA O underlying39 O sizeOf23 O) O (Au 2 (Value.slice x.b.p ts.length x.b.c) CU O (AM O (AH (v:=(pP (pB x.b.p) (pO x.b.p+u*3))) (AL (j:=u) O O x.b.ok underlying23 sizeOf105 O Z) O (AH (v:=(aG (Ad (ts.getD u ((0,0,0):Tq3))))) (AT (vs:=Ad (ts.getD u ((0,0,0):Tq3))) (i:=4) O O (Av.ne x.b.ok Z) ET (Am Az _ _ _ Z) (Az _)) O (AM O (AM O (ck' call111 (I_ (ts.getD u ((0,0,0):Tq3)) bi ai) O (OkL.nil (OkQ.subF (sL [1,2,4,5,3,6,7,56] O) (OkQ.then_ ?_)))))))))))
     refine OkC.jn1 (tg λ(r1:Int)=>r1=Cv ts bi ai (k+1)) (tg λ(r1:Int)=>[(1,(pP b1 0)),(2,(Value.slice none 0 0)),(4,(vN ai)),(5,(vN bi)),(3,(Value.slice p2 oq.length c2)),(6,(pP b2 0)),(7,(vN u))]) (tg λ(r1:Int)=>[AU b2 50 (BY (⟨ai,bi,l1,r1⟩:E4)),rowW p2 50 4 oq.length c2 (rowsL BY oq),AU b1 39 (FE x),AE x.a.p (x.cs),AE x.b.p (rowsL Ad ts),AE x.c.p (x.ds)]) ?_ ?_
     ·skip
      refine OkC.cond O (λhc5=>?_) (λhc5=>?_)
      ·skip
       exact OkC.region (AM O (AH (v:=(pP b2 3)) (AA O underlying50 O sizeOf3 O) O (FG 0 (off:=3) (vs:=[(vN u)]) (cs':=[(vN ((⟨ai,bi,l1,Cv ts bi ai k⟩:E4).a)),(vN ((⟨ai,bi,l1,Cv ts bi ai k⟩:E4).b)),(vI ((⟨ai,bi,l1,Cv ts bi ai k⟩:E4).l)),(vN u)]) (AP O) O sizeOf3 O (OkL.nil (OkQ.subF (sL [1,2,4,5,3,6,7] O) (OkQ.join1 ((u:Nat):Int) ((by rw [P4 (by rw [<-hu];exact hc5),hu])) (sF O) sr))))))
      ·skip
       exact OkC.skip (OkQ.join1 ((⟨ai,bi,l1,Cv ts bi ai k⟩:E4).r) ((Tp (by rw [<-hu];exact λh9=>Bool.false_ne_true (hc5.symm.trans h9))).symm) (sF O) sr)
     ·intro r1 hJ
      have hr1:=hJ
      refine OkQ.in_normal (OkQ.then_ (OkC.region (AM O (AH (BI (c:=(((ts.length:Nat):Int)-1-((k+1:Nat):Int))) O O (by rw [BE Z Z];omega)) O (asg' O (OkL.nil (OkQ.subF (sL [1,2,4,5,3,6,7] O) ?_)))))))
      rw [show l1=Cv ts ai bi (k+1) from hl1,show r1=Cv ts bi ai (k+1) from hr1]
      exact OkQ.round1 (k+1) Z Z (sF O) sr
   ·replace hc3:=of_decide_eq_false hc3
    have hfe:(⟨ai,bi,Cv ts ai bi k,Cv ts bi ai k⟩:E4)=R_ ts ai bi:=X2 Z
    refine OkC.exit (OkQ.then_exit (OkQ.round1_exit (OkQ.in_exit (q2 (AH (v:=(pP b2 2)) (AA O underlying50 O sizeOf3 O) O (Au 0 (vI ((⟨ai,bi,Cv ts ai bi k,Cv ts bi ai k⟩:E4).l)) BL O (AH (Bx (c:=(decide ((0:Int)<=((⟨ai,bi,Cv ts ai bi k,Cv ts bi ai k⟩:E4).l)))) O O O) O (AM O ?_))))))))
    refine OkL.mid (FM:=[(1,(pP b1 0)),(2,(Value.slice none 0 0)),(4,(vN ai)),(5,(vN bi)),(3,(Value.slice p2 oq.length c2)),(6,(pP b2 0)),(7,(vI (((ts.length:Nat):Int)-1-((k:Nat):Int)))),(59,(pP b2 2)),(60,(vI ((⟨ai,bi,Cv ts ai bi k,Cv ts bi ai k⟩:E4).l))),(61,(Value.bool (decide ((0:Int)<=((⟨ai,bi,Cv ts ai bi k,Cv ts bi ai k⟩:E4).l))))),(62,(Value.bool (decide ((0:Int)<=((⟨ai,bi,Cv ts ai bi k,Cv ts bi ai k⟩:E4).l))))),(66,(Value.bool ((decide ((0:Int)<=((⟨ai,bi,Cv ts ai bi k,Cv ts bi ai k⟩:E4).l)))||(decide ((0:Int)<=((⟨ai,bi,Cv ts ai bi k,Cv ts bi ai k⟩:E4).r))))))]) (LM:=[AU b2 50 (BY (⟨ai,bi,Cv ts ai bi k,Cv ts bi ai k⟩:E4)),rowW p2 50 4 oq.length c2 (rowsL BY oq),AU b1 39 (FE x),AE x.a.p (x.cs),AE x.b.p (rowsL Ad ts),AE x.c.p (x.ds)]) 4 ?_ ?_
    ·rcases Bool.eq_false_or_eq_true (decide ((0:Int)<=((⟨ai,bi,Cv ts ai bi k,Cv ts bi ai k⟩:E4).l))) with hg1|hg1
     ·skip
      refine OkL.retell (k:=62) (u:=Value.bool true) O (by rw [hg1]) ?_
      have hg1':=hg1
      replace hg1':=of_decide_eq_true hg1'
      exact OkL.skip (AC O) O (AI O) (OkL.skip (AC O) O (AI O) (OkL.skip (AC O) O (AI O) (AH (v:=(Value.bool true)) (AO O O) O (OkL.nil (OkQ.mid (sS O (sS O (sS O (sS O (sS O (sS O (sS O (sS O (sS O (sS O (sS (by first|rfl|(rw [hg1];rfl)|rw [hg1]) (sS (by first|rfl|(rw [hg1];rfl)|rw [hg1]) (sN))))))))))))) (List.Sublist.refl _))))))
     ·skip
      refine OkL.retell (k:=62) (u:=Value.bool false) O (by rw [hg1]) ?_
      have hg1':=hg1
      replace hg1':=of_decide_eq_false hg1'
      exact OkL.step (v:=(pP b2 3)) (AB O) (AA O underlying50 O sizeOf3 O) O (AI O) (OkL.step (v:=(vI ((⟨ai,bi,Cv ts ai bi k,Cv ts bi ai k⟩:E4).r))) (AB O) (AF (i:=0) (v:=(vI ((⟨ai,bi,Cv ts ai bi k,Cv ts bi ai k⟩:E4).r))) O O BL.a O) O (AI O) (OkL.step (v:=(Value.bool (decide ((0:Int)<=((⟨ai,bi,Cv ts ai bi k,Cv ts bi ai k⟩:E4).r))))) (AB O) (Bx (c:=(decide ((0:Int)<=((⟨ai,bi,Cv ts ai bi k,Cv ts bi ai k⟩:E4).r)))) O O O) O (AI O) (AH (v:=(Value.bool (decide ((0:Int)<=((⟨ai,bi,Cv ts ai bi k,Cv ts bi ai k⟩:E4).r))))) (AJ O O) O (OkL.nil (OkQ.mid (sS O (sS O (sS O (sS O (sS O (sS O (sS O (sS O (sS O (sS O (sS (by first|rfl|(rw [hg1];rfl)|rw [hg1]) (sS (by first|rfl|(rw [hg1];rfl)|rw [hg1]) (sN))))))))))))) (List.Sublist.refl _))))))
    refine OkL.nil (OkQ.subF (sL [1,2,4,5,3,6,7,66] O) (OkQ.then_ ?_))
    refine OkC.cond O (λhc6=>?_) (λhc6=>?_)
    ·simp only [Bool.and_eq_true,Bool.or_eq_true,Bool.and_eq_false_iff,Bool.or_eq_false_iff,Bool.not_eq_true',Bool.not_eq_false',decide_eq_true_eq,decide_eq_false_iff_not] at hc6
     refine OkC.region (AM O (BH 0 VT O (OkL.openV (V:=λb3=>(Value.slice (some ⟨b3,0,none⟩) 1 1)) (T:=50) (cs:=BY (⟨ai,bi,Cv ts ai bi k,Cv ts bi ai k⟩:E4)) (AP O) (Ao (z:=.agg (BY (⟨0,0,0,0⟩:E4)).toArray) (cs:=BY (⟨ai,bi,Cv ts ai bi k,Cv ts bi ai k⟩:E4)) (pv:=[(0,(aG (BY (⟨ai,bi,Cv ts ai bi k,Cv ts bi ai k⟩:E4))))]) underlying47 sizeOf50 zeroValue50 (by decide) (by decide) O (Jp (⟨ai,bi,Cv ts ai bi k,Cv ts bi ai k⟩:E4))) O (AI O) λb3=>OkL.append2 (j:=0) (cs2:=rowsL BY (oq++[(⟨ai,bi,Cv ts ai bi k,Cv ts bi ai k⟩:E4)])) Xf O h2 (Aa CC _) O O O O (by decide) (G0 Z) Z (by rw [BT];rfl) O λp_1 c_1 ho_1 hne_1=>asg' O (OkL.nil (OkQ.subF (sL [1,2,4,5,3,6,7] O) (OkQ.in_normal (OkQ.then_ (OkC.region (AM O ?_)))))))))
     refine AH (AX (c:=((bi+1:Nat):Int)) O O (AR (a:=bi) (b:=1) Z)) O (asg' O (OkL.nil (OkQ.subF (sL [1,2,4,5,3,6,7] O) ?_)))
     rw [show oq.length+1=(oq++[(⟨ai,bi,Cv ts ai bi k,Cv ts bi ai k⟩:E4)]).length by simp]
     exact OkQ.round4 (bi+1) p_1 c_1 (oq++[(⟨ai,bi,Cv ts ai bi k,Cv ts bi ai k⟩:E4)]) (⟨Z,Z,(by simpa using ho_1),by rw [List.length_append];simp only [List.length_singleton];omega,(by rw [hsq,List.append_assoc];congr 1;rw [hfe];exact (Sh Z (by rw [<-hfe];exact hc6)).symm)⟩) Z (sF O) (sl (sl sr))
    ·simp only [Bool.and_eq_true,Bool.or_eq_true,Bool.and_eq_false_iff,Bool.or_eq_false_iff,Bool.not_eq_true',Bool.not_eq_false',decide_eq_true_eq,decide_eq_false_iff_not] at hc6
     exact OkC.skip (OkQ.in_normal (OkQ.then_ (OkC.region (AM O (AH (AX (c:=((bi+1:Nat):Int)) O O (AR (a:=bi) (b:=1) Z)) O (asg' O (OkL.nil (OkQ.subF (sL [1,2,4,5,3,6,7] O) (OkQ.round4 (bi+1) p2 c2 oq (⟨Z,Z,h2,Z,(by rw [hsq];congr 1;exact (WE Z (by rw [<-hfe];dsimp only;omega)).symm)⟩) Z (sF O) (sl sr))))))))))
  ·replace hc2:=of_decide_eq_false hc2
   have hbn:bi=N:=by omega
   exact OkC.exit (OkQ.then_exit (OkQ.round4_exit (OkQ.in_exit (OkQ.in_normal (OkQ.then_ (OkC.region (AM O (AH (AX (c:=((ai+1:Nat):Int)) O O (AR (a:=ai) (b:=1) Z)) O (asg' O (OkL.nil (OkQ.subF (sL [1,2,4,5,3] O) (OkQ.round4 (ai+1) p2 c2 oq (⟨Z,h2,Z,by rw [hsq,show bi=N by omega];rfl⟩) Z (sF O) sr))))))))))))
 ·replace hc1:=of_decide_eq_false hc1
  exact OkC.exit (OkQ.then_exit (OkQ.round4_exit (OkQ.in_exit (q2 (AM O (asg' O (OkL.nil (OkQ.subF (sL [1,2,4,3] O) (OkQ.then_ (OkC.ret (ret_one O (rd_tmp (v:=(Value.slice p1 ou.length c1)) O) (λw hw=>(by rw [show An ts=ou by rw [hou,show ai=N by omega];exact (Xu hnb Z).symm];exact Zr hw 0 O h1 (Aa CC _) O)))))))))))))
end
end Go.Proofs.YtpolhpjiahbidaaGreatDoor
