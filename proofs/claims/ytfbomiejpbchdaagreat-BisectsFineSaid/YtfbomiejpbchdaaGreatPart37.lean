import Derived.Test.YtfbomiejpbchdaaGreatPart06
import Derived.Test.YtfbomiejpbchdaaGreatPart31
import Derived.Test.YtfbomiejpbchdaaGreatPart33
import Derived.Test.YtfbomiejpbchdaaGreatPart36
namespace Go.Proofs.YtfbomiejpbchdaaGreat
open Go Go.RowKit Go.Proofs.Tryz
set_option linter.unusedVariables false
set_option linter.unusedSimpArgs false
section
section
variable {m:MQ} {ts:List T3} {a b N:Nat}
theorem H7 {s:T3}:∀j,s∈JW m ts a j↔s.1=a/\a<s.2.1/\s.2.1<a+1+j/\IQ ts s.1 s.2.1 ts.length=1/\s=W1 m s.1 s.2.1
  | 0=>⟨λh=>(by cases h),λh=>Z⟩
  | j+1=>by
    show s∈JW m ts a j++(if _ then _ else _)↔_
    rw [List.mem_append,H7 j]
    constructor
    · rintro (h|h)
      · exact ⟨h.1,h.2.1,Z,h.2.2.2⟩
      · split at h
        · rename_i hc
          rw [List.mem_singleton] at h
          subst h
          exact ⟨rfl,(by show a<a+1+j;omega),(by show a+1+j<a+1+(j+1);omega),hc,rfl⟩
        · cases h
    · rintro ⟨h1,h2,h3,h4,h5⟩
      rcases Nat.lt_or_ge s.2.1 (a+1+j) with h6|h6
      · exact .inl ⟨h1,h2,h6,h4,h5⟩
      · have e:s.2.1=a+1+j:=by omega
        rw [h1,e] at h4 h5
        rw [if_pos h4]
        exact .inr (List.mem_singleton.2 h5)
theorem Do {s:T3}:∀A,s∈Fs m ts N A↔s.1<A/\s.1<s.2.1/\s.2.1<N/\IQ ts s.1 s.2.1 ts.length=1/\s=W1 m s.1 s.2.1
  | 0=>⟨λh=>(by cases h),λh=>Z⟩
  | A+1=>by
    show s∈Fs m ts N A++JW m ts A (N-(A+1))↔_
    rw [List.mem_append,Do A,H7]
    constructor
    · rintro (h|h)
      · exact ⟨Z,h.2⟩
      · exact ⟨Z,Z,Z,h.2.2.2⟩
    · rintro ⟨h1,h2,h3,h4⟩
      rcases Nat.lt_or_ge s.1 A with h5|h5
      · exact .inl ⟨h5,h2,h3,h4⟩
      · exact .inr ⟨Z,Z,Z,h4⟩
theorem Gy:∀j,(JW m ts a j).Pairwise Yy
  | 0=>List.Pairwise.nil
  | j+1=>by
    show (JW m ts a j++(if _ then _ else _)).Pairwise Yy
    split
    · refine List.pairwise_append.2 ⟨Gy j,List.pairwise_singleton _ _,λx hx y hy=>?_⟩
      rw [List.mem_singleton] at hy
      subst hy
      have h:=(H7 j).1 hx
      exact .inr ⟨h.1,(by show x.2.1<a+1+j;exact h.2.2.1)⟩
    · rw [List.append_nil];exact Gy j
theorem Hc:∀A,(Fs m ts N A).Pairwise Yy
  | 0=>List.Pairwise.nil
  | A+1=>List.pairwise_append.2 ⟨Hc A,Gy _,λx hx y hy=>.inl (by
      have h1:=(Do A).1 hx
      have h2:=(H7 _).1 hy
      omega)⟩
theorem Nn {x y:Nat} (hab:a<b) (hxy:x≠y):BY x y=(a,b)↔(x=a/\y=b)\/(x=b/\y=a):=by
  unfold BY
  rw [Prod.mk.injEq]
  omega
theorem V5 {t:T3} (hab:a<b) (h:t.1≠t.2.1/\t.2.1≠t.2.2/\t.2.2≠t.1):[BY t.1 t.2.1,BY t.2.1 t.2.2,BY t.2.2 t.1].count (a,b)=if Gf t a=true/\Gf t b=true then 1 else 0:=by
  obtain ⟨h1,h2,h3⟩:=h
  simp only [List.count_cons,List.count_nil,beq_iff_eq,Nn hab h1,Nn hab h2,Nn hab h3,Gf,Bool.or_eq_true,decide_eq_true_eq]
  split<;>split<;>split<;>split<;>omega
theorem Qm (hn:CN N ts=true) (hab:a<b):∀i,i<=ts.length->IQ ts a b i=((ts.take i).flatMap λt=>[BY t.1 t.2.1,BY t.2.1 t.2.2,BY t.2.2 t.1]).count (a,b)
  | 0,_=>rfl
  | i+1,hi=>by
    rw [Mn Z,List.flatMap_append,List.count_append,<-Qm hn hab i Z]
    have h:=QA (CU hn (show i<ts.length by omega))
    have e:=V5 hab h
    show IQ ts a b i+(if _ then 1 else 0)=_
    rw [<-e]
    simp [List.flatMap]
theorem Ow (hn:CN N ts=true) (hab:a<b):IQ ts a b ts.length=(DE ts).count (a,b):=by
  rw [Qm hn hab _ (Nat.le_refl _),List.take_length];rfl
theorem UZ (hn:CN N ts=true) (hN:N<=4611686018427387904) (h:(a,b)∈DE ts):a<b/\b<N:=by
  obtain ⟨e,he,rfl,rfl⟩:=(H5 hn hN).1 h
  exact F8 hn hN he
end
end
section
def I0 (md:List (P2×Nat)) (ts:List T3) (i:Nat):List T3:=(ts.take i).flatMap (CB md 2)
def Et (md:List (P2×Nat)) (ts:List T3):List T3:=ts.flatMap (CB md 2)
def Bp (md:List (P2×Nat)) (ts:List T3):Nat->List Nat
  | 0=>[]
  | i+1=>Bp md ts i++ER (CB md 2 (ts.getD i (0,0,0))).length i
section
variable {md:List (P2×Nat)} {ts ss:List T3} {i N:Nat} {es:List E4}
theorem Gs (h:i<ts.length):I0 md ts (i+1)=I0 md ts i++CB md 2 (ts.getD i (0,0,0)):=by
  unfold I0
  rw [Dx (d:=(0,0,0)) h,List.flatMap_append];simp
theorem H4:I0 md ts ts.length=Et md ts:=by unfold I0 Et;rw [List.take_length]
theorem Pz:∀i,i<=ts.length->(I0 md ts i).length<=4*i
  | 0,_=>by simp [I0]
  | i+1,h=>by
    rw [Gs Z,List.length_append]
    have h1:=Pz i Z
    have h2:=HA md 2 (ts.getD i (0,0,0))
    omega
theorem Xp:(Et md ts).length<=4*ts.length:=by rw [<-H4];exact Pz _ (Nat.le_refl _)
theorem Jj:∀i,i<=ts.length->(Bp md ts i).length=(I0 md ts i).length
  | 0,_=>by simp [I0,Bp]
  | i+1,h=>by
    rw [Gs Z,Bp,List.length_append,List.length_append,Jj i Z]
    simp [ER]
theorem Ta {t:T3} (h:MV N t=true):Yv N t:=⟨C4 h,QA h⟩
theorem Wq {t:T3} (h:Yv N t):MV N t=true:=by
  obtain ⟨⟨h1,h2,h3⟩,n1,n2,n3⟩:=h
  simp only [MV,Bool.and_eq_true,Bool.not_eq_true',decide_eq_false_iff_not,decide_eq_true_eq]
  exact ⟨⟨⟨⟨⟨h1,h2⟩,h3⟩,n1⟩,n2⟩,n3⟩
theorem Qr (hn:CN N ts=true):CN (N+es.length) (Et (BE N es es.length) ts)=true:=List.all_eq_true.2 λc hc=>by
  obtain ⟨t,ht,hc⟩:=List.mem_flatMap.1 hc
  exact Wq (ZK (Ta (List.all_eq_true.1 hn t ht)) hc)
theorem Vm:∀i,i<=es.length->∀k n,Ae (BE N es i) k=some n->n<N+es.length:=λi hi k n h=>by
  obtain ⟨j,h1,_,h3⟩:=EO i h
  omega
end
structure Ys (ps:List Pt) (ts ss:List T3) (ms:List Int) where
  l:List E4
  p:E4->Bool
  el:l=(Bq ts).filter p
  all:∀e,p e=true↔IW ts (Ls ts ms) (e.a,e.b)
  x:VV (Dn ps l) (Et (BE ps.length l l.length) ts) (IA ps.length ss l (Et (BE ps.length l l.length) ts)) (Bp (BE ps.length l l.length) ts ts.length) 0
instance {ps:List Pt} {ts ss:List T3} {ms:List Int}:EQ (Ys ps ts ss ms):=⟨λb=>EQ.val b.x,λb=>EQ.rows b.x,λb y hy=>EQ.ro b.x y hy⟩
theorem Xo {S:Nat->Prop} {W w:World} {L:List As} {ps:List Pt} {ts ss:List T3} {l:List Nat} {e:Nat} (hw:Own ⟨W,none⟩ w L) {x:MX ps ts ss} (h:Ro (SL ⟨W,none⟩ S L) w x) (i:Nat) {q:Option Addr} {T n c:Nat} (hi:L[i]?=some (rowW q T 1 n c (inL l))) (ho:OwnOk q n c) (hl:n=l.length) {v:Value} (hv:v=.tuple #[aG (Bk x),.slice q n n,vN e]):Bb (VV ps ts ss l e) S W (.returned v) w:=by
  subst hl
  refine ⟨⟨x,⟨q,l.length,ho.clip⟩⟩,by rw [hv];rfl,hw.out,λy hy=>?_⟩
  have hy:y∈[x.a.row,x.b.row,x.c.row]++[AZ q (inL l)]:=hy
  rcases List.mem_append.1 hy with hy|hy
  · have h1:=h y hy
    exact ⟨h1.1,λb e=>(h1.2 b e).2⟩
  · rcases List.mem_singleton.1 hy with rfl
    exact Fh hw i hi ho (by rw [CP,Nat.mul_one])
theorem Xz {S:Nat->Prop} {W w:World} {ps:List Pt} {ts ss:List T3} {ms:List Int} {e:Ending} (u:DX ts ms) (h:Bb (VV (Dn ps u.l) (Et (BE ps.length u.l u.l.length) ts) (IA ps.length ss u.l (Et (BE ps.length u.l u.l.length) ts)) (Bp (BE ps.length u.l u.l.length) ts ts.length) 0) S W e w):Bb (Ys ps ts ss ms) S W e w:=by
  obtain ⟨a,h1,h2,h3⟩:=h
  exact ⟨⟨u.l,u.p,u.el,u.all,a⟩,h1,h2,h3⟩
section
variable {ts ss:List T3} {N:Nat} {es:List E4} {ms:List Int}
theorem Mt {l:List E4} {p:E4->Bool} (h:l=(Bq ts).filter p):l.length<=(Bq ts).length:=by rw [h];exact List.length_filter_le _ _
theorem GV (hn:CN N ts=true) (hN:N<=4611686018427387904) {l:List E4} {p:E4->Bool} (h:l=(Bq ts).filter p):∀e∈l,e.a<N/\e.b<N:=λe he=>by
  rw [h] at he
  exact IT hn hN e (List.mem_filter.1 he).1
theorem UO {l:List E4} (hs:l.Pairwise XY) (hl:∀e∈l,e.a<e.b) {e:E4} (he:e∈l):∃n,Ae (BE N l l.length) (e.a,e.b)=some n:=by
  obtain ⟨j,hj,rfl⟩:=List.getElem_of_mem he
  have h:=KI (N:=N) hs hl _ (Nat.le_refl _) hj
  rw [List.getD,List.getElem?_eq_getElem hj] at h
  exact ⟨_,h⟩
theorem Hs (hn:CN N ts=true) (hN:N<=4611686018427387904) {l:List E4} {p:E4->Bool} (h:l=(Bq ts).filter p):l.Pairwise XY/\∀e∈l,e.a<e.b:=by
  rw [h]
  exact ⟨(Po hn hN).filter _,λe he=>(F8 hn hN (List.mem_filter.1 he).1).1⟩
theorem Uv (hn:CN N ts=true) (hN:N<=4611686018427387904) {l:List E4} {p:E4->Bool} (h:l=(Bq ts).filter p) (ha:∀e,p e=true↔IW ts (Ls ts ms) (e.a,e.b)) {k:P2} (hk:k∈DE ts) (hc:IW ts (Ls ts ms) k) {M:Nat}:∃n,Ae (BE M l l.length) k=some n:=by
  obtain ⟨s1,s2⟩:=Hs hn hN h
  obtain ⟨e,he,ea,eb⟩:=(H5 hn hN (a:=k.1) (b:=k.2)).1 hk
  have hkk:k=(e.a,e.b):=Prod.ext ea.symm eb.symm
  rw [hkk] at hc ⊢
  exact UO s1 s2 (by rw [h];exact List.mem_filter.2 ⟨he,(ha e).2 hc⟩)
theorem Jy (md:List (P2×Nat)):∀d c,1<=(CB md d c).length
  | 0,c=>Nat.le_refl _
  | d+1,c=>by
    unfold CB
    split
    · exact Nat.le_refl _
    · rw [List.length_append];have:=Jy md d (‹Nat›,c.1,c.2.1);omega
theorem Wg {md:List (P2×Nat)} {c:T3} {n:Nat} (h:Ae md (Bh c)=some n):2<=(CB md 2 c).length:=by
  rw [E3 h,List.length_append]
  have:=Jy md 1 (n,c.1,c.2.1)
  have:=Jy md 1 (n,c.2.2,c.1)
  omega
structure Xg (ts:List T3) (ms:List Int) (l:List E4):Prop where
  ex:∃p:E4->Bool,l=(Bq ts).filter p/\∀e,p e=true↔IW ts (Ls ts ms) (e.a,e.b)
theorem DX.cut (u:DX ts ms):Xg ts ms u.l:=⟨u.p,u.el,u.all⟩
theorem Xg.mem {l:List E4} (h:Xg ts ms l) {e:E4}:e∈l↔e∈Bq ts/\IW ts (Ls ts ms) (e.a,e.b):=by
  obtain ⟨p,h1,h2⟩:=h.ex
  rw [h1,List.mem_filter,h2]
end
theorem QF {ts:List T3} {ms:List Int} (K:List P2) (h0:∀z∈ms,0<=z->z<(ts.length:Int)->Bh (ts.getD z.toNat (0,0,0))∈K) (hc:∀t∈ts,BY t.1 t.2.1∈K\/BY t.2.2 t.1∈K->Bh t∈K) (h1:∀k∈K,IW ts (Ls ts ms) k) {l:List E4} {p:E4->Bool} (h:l=(Bq ts).filter p) (ha:∀e,p e=true↔IW ts (Ls ts ms) (e.a,e.b)):l=(Bq ts).filter λe=>decide ((e.a,e.b)∈K):=by
  rw [h]
  have key:∀k,IW ts (Ls ts ms) k->k∈K:=λk c=>by
    induction c with
    | start hs=>obtain ⟨z,hz,a,b,rfl⟩:=hs;exact h0 z hz a b
    | up ht _ he ih =>
      refine hc _ ht ?_
      rcases he with he|he<;>rw [he] at ih
      · exact .inl ih
      · exact .inr ih
  refine List.filter_congr λe _=>?_
  rw [Bool.eq_iff_iff,ha,decide_eq_true_eq]
  exact ⟨key _,h1 _⟩
theorem Tt {S:Nat->Prop} {W w:World} {ps:List Pt} {ts ss:List T3} {ms:List Int} {e:Ending} (l0:List E4) (h:Bb (Ys ps ts ss ms) S W e w) (hl:∀(l:List E4) (p:E4->Bool),l=(Bq ts).filter p->(∀e,p e=true↔IW ts (Ls ts ms) (e.a,e.b))->l=l0):Bb (VV (Dn ps l0) (Et (BE ps.length l0 l0.length) ts) (IA ps.length ss l0 (Et (BE ps.length l0 l0.length) ts)) (Bp (BE ps.length l0 l0.length) ts ts.length) 0) S W e w:=by
  obtain ⟨⟨l,p,el,al,x⟩,h1,h2,h3⟩:=h
  have:=hl l p el al
  subst this
  exact ⟨x,h1,h2,h3⟩
section
variable {P:Program} {ops:Array Oper} {rest:List Oper} {Q:Exit->Act->World->Prop} {n d:Nat} {F:List (Nat×Value)} {w0:BM} {S:Nat->Prop} {L:List As} {t:TypeId} {p:String} {af:Array Edge} {y:Operand} {f:FuncId} {xs:List Operand} {args:List Value} {tys:Array TypeId} {ps:List Pt} {ts ss:List T3} {ms:List Int}
theorem bA (hc:∀args w,(callFunc f args).run P w=.ok (.enter f args) w) (h:∀w,Own w0 w L->Calls P f args.toArray w (Bb (Ys ps ts ss ms) (SL w0 S L) w))
    (h2:(evF F y,xs.map (evF F),Nat.ble (d+1) n)=(some (.func (.func f) #[] #[]),args.map some,true)) (next:∀a:Ys ps ts ss ms,At w0 S a->At w0 S a.x.m->At w0 S a.x.q->AE P ops rest Q n ((d,.tuple #[aG (Bk a.x.m),.slice a.x.q.p (Bp (BE ps.length a.l a.l.length) ts ts.length).length a.x.q.c,vN 0])::F) w0 (AZ a.x.m.a.p (rowsL Aj (Dn ps a.l))::AZ a.x.m.b.p (rowsL An (Et (BE ps.length a.l a.l.length) ts))::AZ a.x.m.c.p (rowsL An (IA ps.length ss a.l (Et (BE ps.length a.l a.l.length) ts)))::AZ a.x.q.p (inL (Bp (BE ps.length a.l a.l.length) ts ts.length))::L)) :
    AE P ops (⟨some d,.call { callee:=.value y,args:=xs.toArray,argTypes:=tys },t,p,af,none⟩::rest) Q n F w0 L:=AE.callR hc h (Cr h2) (Cr (Bd h2)) (Bd (Bd h2)) λa ha =>
  next a ha (λz hz=>ha z (List.mem_append_left [a.x.q.row] (show z∈[a.x.m.a.row,a.x.m.b.row,a.x.m.c.row] from hz))) (λz hz=>ha z (by rcases List.mem_singleton.1 hz with rfl;exact List.mem_append_right [a.x.m.a.row,a.x.m.b.row,a.x.m.c.row] List.mem_cons_self))
end
def GK (a:List Nat) (n i:Nat):List Int:=(a.take i).map λd=>((d%n:Nat):Int)
theorem N1 {a:List Nat} {n i:Nat} (h:i<=a.length):(GK a n i).length=i:=by unfold GK;rw [List.length_map,List.length_take];omega
theorem L7 {a:List Nat} {n i:Nat} (h:i<a.length):GK a n (i+1)=GK a n i++[((a.getD i 0%n:Nat):Int)]:=by
  unfold GK
  rw [List.take_add_one,List.getElem?_eq_getElem h,List.map_append,List.getD,List.getElem?_eq_getElem h];rfl
end
section
set_option maxRecDepth 100000
theorem JV (x0 x1:Nat):Instr.fill (λi=>some (i*1,1)) (Az ((0,0):P2)).toArray [(0,vN x0),(1,vN x1)]=some (Az (x0,x1)).toArray:=by kernel_rfl
set_option maxHeartbeats 4000000 in
theorem Ir {ps:List Pt} {ts ss:List T3} (x:MX ps ts ss) (ms:List Int) (y:RX (zL ms) ms.length) (hnb:CN ps.length ts=true) (hz:∀i,B5 (cor ps i)<=1000000) (hsl:ss.length<=1000000) (hml:ms.length<=1000000) (hv:∀j,j<ms.length->0<=ms.getD j 0/\ms.getD j 0<(ts.length:Int)) (hlim:ps.length+(Bq ts).length<=4096/\4*ts.length<=8192) (w:World) {S:Nat->Prop} (hx:Ro S w x) (hy:Ro S w y):Calls prog 28 #[(aG (Bk x)),(Value.slice y.p ms.length y.c)] w (Bb (Ys ps ts ss ms) S w):=by
 obtain ⟨hl1,hl2⟩:=hlim
 have hel0:=Km ts
 have lx:=EA (W:=w) hx
 have ly:=EA (W:=w) hy
 refine BF (args:=[(aG (Bk x)),(Value.slice y.p ms.length y.c)]) (L:=[AZ x.a.p (rowsL Aj ps),AZ x.b.p (rowsL An ts),AZ x.c.p (rowsL An ss),AZ y.p (zL ms)]) func28 O O (Ab O) (EB hx (EB hy BR)) (AF.subF (sL [0,1] O) (q4 (Bo (cs:=Bk x) O λb1=>AE.frzX 0 O O λhnb1=>al Le O λb2=>?_)))
 refine al Z0 O λb3=>AE.nilRow 3 1 (AO O (q6 (sL [1,2,4,5,6] O) (q4 (AI (v:=(aG (Bk x))) (AW (q:=some ⟨b1,0,none⟩) (vs:=Bk x) (off:=0) (i:=3) O O (λe=>by cases e) C9 O O) O ?_))))
 refine Ew (args:=[(aG (Bk x))]) (v:=(Value.bool true)) call46 (λw hw=>(by have h9:=M4 x Z w (DB hw 4 O lx);rw [hnb] at h9;exact h9)) O (AI (Bg (c:=false) O O) O (AR O (AE.step (v:=(Value.slice y.p ms.length y.c)) (AB O) (BA O) O (Ab O) (AE.step (v:=(Value.func (.func 76) #[] #[(pP b1 0)])) (AB O) (DS (vs:=[]) (us:=[(pP b1 0)]) O O) O (Ab O) (AE.call (v:=(Value.bool false)) (AB O) (A8 (args:=[(Value.slice y.p ms.length y.c),(Value.func (.func 76) #[] #[(pP b1 0)])]) O O call75) (λw hw=>WW x ⟨b1⟩ ms y Z hv w (VG (x:=(⟨b1⟩:BX (Bk x))) hw 3 O hnb1) (DB hw 7 O ly)) O (Ab O) ?_)))))
 refine AI (v:=(Value.bool false)) (AS O O) O (AE.nil (AC.subF (sL [1,2,4,5,6,22] O) (AC.then_ (AF.cond_false O (AF.skip ?_)))))
 refine q1 (Cu [(0,true),(1,true),(2,true),(3,false),(4,false),(5,true)] sr (Ax (v:=(aG (Bk x))) O (AW (q:=some ⟨b1,0,none⟩) (vs:=Bk x) (off:=0) (i:=3) O O (λe=>by cases e) C9 O O) (Ax (v:=(aG (Bk x))) O (AW (q:=some ⟨b1,0,none⟩) (vs:=Bk x) (off:=0) (i:=3) O O (λe=>by cases e) C9 O O) (Bf O (AV.imp O ?_)))))
 refine AE.callR (S:=S) (α:=HC ts ms) (args:=[(aG (Bk x)),(Value.slice y.p ms.length y.c)]) call78 (λw hw=>PG x ms y hnb Z Z Z w (DB hw 4 O lx) (DB hw 7 O ly)) O O O λh lh=>AV.back (sl sr) (AV.imp O (AE.callR (S:=S) (α:=DX ts ms) (args:=[(aG (Bk x)),(Value.map (some h.b))]) call77 (λw hw=>R3 x h hnb Z Z w (DB hw 5 O lx) (DB hw 0 O lh)) O O O λu lu=>AV.back (sl (sl sr)) (Ev O ?_)))
 have hul:=Mt u.el
 refine AV.nil (AC.subF (sL [1,2,4,5,6,7] O) (q2 (AE.makeMap Dv vN (AM O) O λb4=>?_)))
 rw [show ([]:List (P2×Nat))=BE ps.length u.l 0 from rfl]
 refine al Zc O λb5=>Aq O sizeOf142 O (q6 (sL [1,2,4,5,6,7,8] O) (q4 (AR O (AI (v:=(vN u.l.length)) (AG O underlying37) O ?_))))
 refine AR O (AE.nil (AC.then_ (AF.block ?_)))
 refine AF.lp1 (tg λ(i:Nat)=>i<=u.l.length) (tg λ(i:Nat)=>[(2,(pP b1 0)),(4,(pP b2 0)),(5,(pP b3 0)),(6,(vI 0)),(7,(Value.slice u.r.p u.l.length u.r.c)),(8,(pP b5 0)),(30,(Value.slice u.r.p u.l.length u.r.c)),(31,(vN u.l.length)),(32,(vN i))]) (tg λ(i:Nat)=>[Af b5 142 ([(Value.map (some b4))]),CD b4 Dv vN (BE ps.length u.l i),AZ u.r.p (rowsL B9 u.l),NO h.b Dv vN h.kvs,rowW none 3 1 0 0 (inL ([])),Af b3 33 ([(Value.slice none 0 0)]),Af b2 31 ([(Value.slice none 0 0),(Value.slice none 0 0),(Value.slice none 0 0)]),AZ (some ⟨b1,0,none⟩) (Bk x),AZ x.a.p (rowsL Aj ps),AZ x.b.p (rowsL An ts),AZ x.c.p (rowsL An ss),AZ y.p (zL ms)]) (tg λ(i:Nat)=>u.l.length-i) 0 (Nat.zero_le _) (sF O) sr (λi hJ=>?_)
 have hi:=hJ
 refine q4 (AI (Am (c:=(decide (i<u.l.length))) O O (C6 (a:=i) (b:=u.l.length))) O (AE.nil (q1 ?_)))
 refine AF.cond O (λhc1=>?_) (λhc1=>?_)
 ·replace hc1:=of_decide_eq_true hc1
  obtain ⟨ed,hed⟩:∃q,q=u.l.getD i (⟨0,0,0,0⟩:E4):=⟨_,rfl⟩
  obtain ⟨hea,heb⟩:=F8 hnb Z (e:=ed) (by have h9:ed∈u.l:=(by rw [hed,List.getD,List.getElem?_eq_getElem hc1];exact List.getElem_mem hc1);rw [u.el] at h9;exact (List.mem_filter.1 h9).1)
  refine AF.skip (q1 (AF.block (q4 (AR O (AI (v:=(pP (pB u.r.p) (pO u.r.p+i*4))) (AQ (j:=i) O O u.r.ok underlying37 sizeOf110 O Z) O ?_)))))
  refine AI (v:=(aG (B9 (u.l.getD i (⟨0,0,0,0⟩:E4))))) (AW (vs:=B9 (u.l.getD i (⟨0,0,0,0⟩:E4))) (i:=2) O O (BQ.ne u.r.ok Z) IC (Aw Cn _ _ _ Z) (Cn _)) O (AE.retell (k:=36) (u:=(aG (B9 ed))) O (by rw [hed]) (al JK O λb6=>AO O (Aq O sizeOf110 O (AE.nil ?_))))
  refine AC.subF (sL [2,4,5,6,7,8,30,31,32,10,9] O) (AC.then_ (AF.region (BK 1 (Value.map (some b4)) VH O (AI (v:=(pP b6 0)) (AA O underlying110 O sizeOf3 O) O (BK 0 (vN ed.a) Bm O ?_)))))
  refine AI (v:=(pP b6 1)) (AA O underlying110 O sizeOf3 O) O (BK 0 (vN ed.b) Bm O (AI (v:=(aG (Az (ed.a,ed.b)))) (Ao (zs:=Az ((0,0):P2)) (vs:=Az (ed.a,ed.b)) (pv:=[(0,(vN ed.a)),(1,(vN ed.b))]) zeroValue144 underlying144 sizeOf3 O (JV ed.a ed.b)) O (AI (v:=(pP b1 0)) (AA O underlying31 O sizeOf27 O) O (AI (Ai (q:=some ⟨b1,0,none⟩) (v:=(Value.slice x.a.p ps.length x.a.c)) (off:=0) (i:=8) O O (λe=>by cases e) Du O) O (AI (v:=(vN ps.length)) (AG O underlying27) O ?_)))))
  refine AR O (AI (AY (c:=((ps.length+i:Nat):Int)) O O (AX (a:=ps.length) (b:=i) Z)) O (AE.mapUpdate HX 2 (kvs:=BE ps.length u.l i) (x:=(ed.a,ed.b)) (y:=ps.length+i) (AM O) O O O underlying142 O (Nm (GV hnb Z u.el) Z _ Z) (⟨by show ed.a<_;omega,by show ed.b<_;omega⟩) ?_))
  rw [show BU (BE ps.length u.l i) (ed.a,ed.b) (ps.length+i)=BE ps.length u.l (i+1) from by rw [show ((ed.a,ed.b):P2)=BY ed.a ed.b from Prod.ext (by show _=min _ _;omega) (by show _=max _ _;omega),hed];rfl]
  refine AE.nil (AC.subF (sL [2,4,5,6,7,8,30,31,32,10] O) (AC.in_normal (AC.then_ (AF.region (AI (AY (c:=((i+1:Nat):Int)) O O (AX (a:=i) (b:=1) Z)) O ?_)))))
  exact AR O (AE.nil (AC.subF (sL [2,4,5,6,7,8,30,31,32,10] O) (AC.round1 (i+1) Z Z (sF O) (sl sr))))
 ·replace hc1:=of_decide_eq_false hc1
  have hie:i=u.l.length:=by omega
  obtain ⟨md,hmdq⟩:∃q,q=BE ps.length u.l u.l.length:=⟨_,rfl⟩
  have hmd1:Hq JU md:=hmdq▸Nm (GV hnb Z u.el) Z _ (Nat.le_refl _)
  have hmd2:∀k n,Ae md k=some n->n<4611686018427387904:=λk n h=>by have:=Vm (N:=ps.length) _ (Nat.le_refl _) k n (by rw [<-hmdq];exact h);omega
  rw [show BE ps.length u.l i=md by rw [hie,hmdq]]
  refine AF.exit (AC.then_exit (AC.round1_exit (AC.in_exit (q2 (al aR O λb6=>?_)))))
  refine AE.nilRow 76 3 (AE.nil (q2 (al ZD O λb7=>AE.nil (q2 ?_))))
  refine AI (v:=(Value.func (.func 79) #[] #[(pP b5 0),(pP b6 0),(pP b3 0),(pP b7 0)])) (DS (vs:=[]) (us:=[(pP b5 0),(pP b6 0),(pP b3 0),(pP b7 0)]) O O) O (Aq O sizeOf145 O (q6 (sL [2,4,5,6,7,8,30,31,32,11,12] O) (q4 (AI (v:=(pP b1 1)) (AA O underlying31 O sizeOf28 O) O (AI (Ai (q:=some ⟨b1,0,none⟩) (v:=(Value.slice x.b.p ts.length x.b.c)) (off:=1) (i:=10) O O (λe=>by cases e) CR O) O ?_)))))
  refine AI (v:=(vN ts.length)) (AG O underlying28) O (AR O (AE.nil (AC.subF (sL [2,4,5,6,7,8,30,31,32,11,12,51,52,53] O) (AC.then_ (AF.block ?_)))))
  refine AF.lp5 (tg λ(t:Nat) (p1:Option Addr) (c1:Nat) (p2:Option Addr) (c2:Nat)=>t<=ts.length/\OwnOk p1 (I0 md ts t).length c1/\OwnOk p2 (Bp md ts t).length c2) (tg λ(t:Nat) (p1:Option Addr) (c1:Nat) (p2:Option Addr) (c2:Nat)=>[(2,(pP b1 0)),(4,(pP b2 0)),(5,(pP b3 0)),(6,(vI 0)),(7,(Value.slice u.r.p u.l.length u.r.c)),(11,(pP b6 0)),(12,(pP b7 0)),(51,(Value.slice x.b.p ts.length x.b.c)),(52,(vN ts.length)),(53,(vN t))]) (tg λ(t:Nat) (p1:Option Addr) (c1:Nat) (p2:Option Addr) (c2:Nat)=>[Af b7 145 ([(Value.func (.func 79) #[] #[(pP b5 0),(pP b6 0),(pP b3 0),(pP b7 0)])]),rowW p1 76 3 ((I0 md ts t).length) c1 (rowsL An (I0 md ts t)),Af b6 28 ([(Value.slice p1 ((I0 md ts t).length) c1)]),Af b5 142 ([(Value.map (some b4))]),CD b4 Dv vN md,AZ u.r.p (rowsL B9 u.l),NO h.b Dv vN h.kvs,rowW p2 3 1 ((Bp md ts t).length) c2 (inL (Bp md ts t)),Af b3 33 ([(Value.slice p2 ((Bp md ts t).length) c2)]),Af b2 31 ([(Value.slice none 0 0),(Value.slice none 0 0),(Value.slice none 0 0)]),AZ (some ⟨b1,0,none⟩) (Bk x),AZ x.a.p (rowsL Aj ps),AZ x.b.p (rowsL An ts),AZ x.c.p (rowsL An ss),AZ y.p (zL ms)]) (tg λ(t:Nat) (p1:Option Addr) (c1:Nat) (p2:Option Addr) (c2:Nat)=>ts.length-t) 0 none 0 none 0 (⟨Nat.zero_le _,OwnOk.none,OwnOk.none⟩) (sF O) sr (λt p1 c1 p2 c2 hJ=>?_)
  obtain ⟨ht,ho1,ho2⟩:=hJ
  have hvl:=Pz (md:=md) t ht
  have hvp:=Jj (md:=md) t ht
  refine q4 (AI (Am (c:=(decide (t<ts.length))) O O (C6 (a:=t) (b:=ts.length))) O (AE.nil (q1 ?_)))
  refine AF.cond O (λhc2=>?_) (λhc2=>?_)
  ·replace hc2:=of_decide_eq_true hc2
   obtain ⟨T,hT⟩:∃q,q=ts.getD t (0,0,0):=⟨_,rfl⟩
   obtain ⟨g1,g2,g3⟩:=C4 (CU hnb hc2)
   rw [<-hT] at g1 g2 g3
   refine AF.skip (q1 (AF.block (q4 (AR O (AI (v:=(pP (pB x.b.p) (pO x.b.p+t*3))) (AQ (j:=t) O O x.b.ok underlying28 sizeOf76 O Z) O ?_)))))
   refine AI (v:=(aG (An (ts.getD t ((0,0,0):Nat×Nat×Nat))))) (AW (vs:=An (ts.getD t ((0,0,0):Nat×Nat×Nat))) (i:=12) O O (BQ.ne x.b.ok Z) Ej (Aw Ar _ _ _ Z) (Ar _)) O (AE.retell (k:=57) (u:=(aG (An T))) O (by rw [hT]) (al Nc O λb8=>AO O (Aq O sizeOf76 O (AE.nil ?_))))
   refine AC.subF (sL [2,4,5,6,7,11,12,51,52,53,14,13] O) (AC.then_ (AF.region (BK 1 (Value.func (.func 79) #[] #[(pP b5 0),(pP b6 0),(pP b3 0),(pP b7 0)]) UY O (A6 0 Ej O (AR O ?_)))))
   have hq:=HA md 2 T
   refine AE.callT (v:=.tuple #[]) (α:=Yr) (K:=λa=>OwnOk a.pa (I0 md ts t++CB md 2 T).length a.ca/\OwnOk a.pp (Bp md ts t++ER (CB md 2 T).length t).length a.cp) (LO:=λa=>[Af b8 76 (An T),Af b7 145 ([(Value.func (.func 79) #[] #[(pP b5 0),(pP b6 0),(pP b3 0),(pP b7 0)])]),rowW a.pa 76 3 ((I0 md ts t++CB md 2 T).length) a.ca (rowsL An (I0 md ts t++CB md 2 T)),Af b6 28 ([(Value.slice a.pa ((I0 md ts t++CB md 2 T).length) a.ca)]),Af b5 142 ([(Value.map (some b4))]),CD b4 Dv vN md,AZ u.r.p (rowsL B9 u.l),NO h.b Dv vN h.kvs,rowW a.pp 3 1 ((Bp md ts t++ER (CB md 2 T).length t).length) a.cp (inL (Bp md ts t++ER (CB md 2 T).length t)),Af b3 33 ([(Value.slice a.pp ((Bp md ts t++ER (CB md 2 T).length t).length) a.cp)]),Af b2 31 ([(Value.slice none 0 0),(Value.slice none 0 0),(Value.slice none 0 0)]),AZ (some ⟨b1,0,none⟩) (Bk x),AZ x.a.p (rowsL Aj ps),AZ x.b.p (rowsL An ts),AZ x.c.p (rowsL An ss),AZ y.p (zL ms)]) (AM O) (Dy (args:=[(aG (An T)),(vN t),(vI 2)]) (caps:=[(pP b5 0),(pP b6 0),(pP b3 0),(pP b7 0)]) (all:=[(aG (An T)),(vN t),(vI 2),(pP b5 0),(pP b6 0),(pP b3 0),(pP b7 0)]) O O O call79) (OP [5,4,2,3,8,9,1,0,6,7,10,11,12,13,14,15] (show List.Perm [5,4,2,3,8,9,1,0,6,7,10,11,12,13,14,15] (List.range 16) by decide) O) (λw hw=>(SV ⟨b4,b5,b6,b3,b7⟩ md t hmd1 hmd2 Z (I0 md ts t) p1 c1 ho1 (Bp md ts t) p2 c2 ho2 T ⟨Z,Z,Z⟩ (by simp only [Nat.reducePow];omega) (by simp only [Nat.reducePow];omega) w _ [Af b8 76 (An T),AZ u.r.p (rowsL B9 u.l),NO h.b Dv vN h.kvs,Af b2 31 ([(Value.slice none 0 0),(Value.slice none 0 0),(Value.slice none 0 0)]),AZ (some ⟨b1,0,none⟩) (Bk x),AZ x.a.p (rowsL Aj ps),AZ x.b.p (rowsL An ts),AZ x.c.p (rowsL An ss),AZ y.p (zL ms)] hw).mono λe w' ⟨h1,a,h2,h3⟩=>⟨h1,a,h2,h3.perm (OP [7,6,2,3,1,0,8,9,4,5,10,11,12,13,14,15] (show List.Perm [7,6,2,3,1,0,8,9,4,5,10,11,12,13,14,15] (List.range 16) by decide) O)⟩) (λd hd=>by cases hd<;>exact (Ab O)) ?_;intro a ⟨ho3,ho4⟩
   have hsA:I0 md ts (t+1)=I0 md ts t++CB md 2 T:=by rw [hT];exact Gs Z
   have hsP:Bp md ts (t+1)=Bp md ts t++ER (CB md 2 T).length t:=by rw [hT];rfl
   refine AE.nil (AC.subF (sL [2,4,5,6,7,11,12,51,52,53,14] O) (AC.in_normal (AC.then_ (AF.region (AI (AY (c:=((t+1:Nat):Int)) O O (AX (a:=t) (b:=1) Z)) O ?_)))))
   refine AR O (AE.nil (AC.subF (sL [2,4,5,6,7,11,12,51,52,53,14] O) ?_))
   rw [<-hsA,<-hsP]
   exact AC.round5 (t+1) a.pa a.ca a.pp a.cp (⟨Z,(by rw [hsA];exact ho3),(by rw [hsP];exact ho4)⟩) Z (sF O) (sl sr)
  ·replace hc2:=of_decide_eq_false hc2
   have hte:t=ts.length:=by omega
   have hA:I0 md ts t=Et md ts:=by rw [hte,H4]
   have hP:Bp md ts t=Bp md ts ts.length:=by rw [hte]
   rw [hA] at ho1 hvl
   rw [hP] at ho2
   rw [hA,hP]
   refine AF.exit (AC.then_exit (AC.round5_exit (AC.in_exit (q1 (q4 ?_)))))
   refine AI (v:=(pP b1 0)) (AA O underlying31 O sizeOf27 O) O (AI (Ai (q:=some ⟨b1,0,none⟩) (v:=(Value.slice x.a.p ps.length x.a.c)) (off:=0) (i:=10) O O (λe=>by cases e) Du O) O (AI (v:=(vN ps.length)) (AG O underlying27) O (AR O (AI (v:=(vN u.l.length)) (AG O underlying37) O (AI (AY (c:=((ps.length+u.l.length:Nat):Int)) O O (AX (a:=ps.length) (b:=u.l.length) Z)) O ?_)))))
   refine AI (Cj (c:=false) O O (decide_eq_false Z)) O (AR O (AE.step (v:=(Value.slice p1 ((Et md ts).length) c1)) (AB O) (AK (i:=2) (v:=(Value.slice p1 ((Et md ts).length) c1)) O O CR.a O) O (Ab O) (AE.step (v:=(vN ((Et md ts).length))) (AB O) (AG O underlying28) O (Ab O) (AE.step (v:=(Value.bool false)) (AB O) (Cj (c:=false) O O (decide_eq_false Z)) O (Ab O) (AI (v:=(Value.bool false)) (AS O O) O ?_)))))
   refine AE.frzRow 1 O ho1 (Al Ar _) O O λhn_AL=>AE.nil (AC.subF (sL [2,4,5,6,7,11,12,51,52,53,74] O) (AC.then_ (AF.cond_false O (AF.skip ?_))))
   refine q1 (aS 3 [0,1,2,4] [(5,false)] 6 [(7,false),(8,true)] sr (sk (sk (sk (sk (sk (sk (sk (sk (sl (sl sr)))))))))) (by kernel_rfl) (λ_ _ d _ _ h=>by cases d<;>exact h) (OkP.pas (v:=(aG (Bk x))) O (AM O) (AW (q:=some ⟨b1,0,none⟩) (vs:=Bk x) (off:=0) (i:=10) O O (λe=>by cases e) C9 O O) O O (OkP.pas (v:=(Value.slice u.r.p u.l.length u.r.c)) O (AM O) (BA O) O O (OkP.pas (v:=(Value.slice p1 ((Et md ts).length) c1)) O (AM O) (AK (i:=2) (v:=(Value.slice p1 ((Et md ts).length) c1)) O O CR.a O) O O (OkP.pas (v:=(Value.slice p2 ((Bp md ts ts.length).length) c2)) O (AM O) (AK (i:=8) (v:=(Value.slice p2 ((Bp md ts ts.length).length) c2)) O O Yf.a O) O O ?_)))))
   refine OkP.nil (JA.one O O (by kernel_rfl) (cM (S:=S) (args:=[(aG (Bk x)),(Value.slice u.r.p u.l.length u.r.c),(Value.slice p1 ((Et md ts).length) c1)]) call48 (λw hw=>Rh x u.l u.r (Et md ts) ⟨p1,c1,ho1.row⟩ (GV hnb Z u.el) (by rw [hmdq];exact Qr hnb) hz Z Z Z Z w (DB hw 11 O lx) (DB hw 5 O lu) (DB hw 1 O (At.new hn_AL))) O λf hf=>Bu.back (sl (sl (sl sr))) (Bu.imp O (BW call81 (VN p2 ((Bp md ts ts.length).length) c2 ho2.row.le) O ?_))))
   refine Bu.back (sl (sl (sl sr))) (Bu.cut O (Eu 12 (off:=0) (vs:=Bk f) (cs':=Bk f) (AM O) O sizeOf31 O (AV.back (sl (sl (sl (sk (sk (sk (sk (sk (sk (sk (sk (sl (sl sr))))))))))))) (AV.imp O (Eu 11 (off:=0) (vs:=[(Value.slice p2 ((Bp md ts ts.length).length) ((Bp md ts ts.length).length))]) (cs':=[(Value.slice p2 ((Bp md ts ts.length).length) ((Bp md ts ts.length).length))]) (AM O) O sizeOf33 O ?_)))))
   exact AV.back (sl (sl (sl (sk (sk (sk (sk (sk (sk (sk (sk (sl (sl sr))))))))))))) (Ev O (AV.nil (AC.subF (sL [2,4,5,6,7,11,12,51,52,53] O) (AC.then_ (AF.ret (FA O (A7 (i:=12) (cs:=Bk f) O O isAgg31 sizeOf31 O) (YW (i:=11) (v:=(Value.slice p2 ((Bp md ts ts.length).length) ((Bp md ts ts.length).length))) O O isAgg33 O) (Ak (v:=(vI 0)) O) (λw hw=>(Xz u (by rw [<-hmdq];exact Xo hw (DB hw 0 O hf) 10 O ho2 O O)))))))))
end
section
set_option maxRecDepth 100000
theorem aK:Oz prog 33 3 (vN 0) 8:=⟨underlying33,_,_,rfl,rfl,rfl,rfl,rfl⟩
end
end Go.Proofs.YtfbomiejpbchdaaGreat
