import Derived.Test.YtfbomiejpbchdaaGreatPart06
import Derived.Test.YtfbomiejpbchdaaGreatPart28
import Derived.Test.YtfbomiejpbchdaaGreatPart30
import Derived.Test.YtfbomiejpbchdaaGreatPart33
namespace Go.Proofs.YtfbomiejpbchdaaGreat
open Go Go.RowKit Go.Proofs.Tryz
set_option linter.unusedVariables false
set_option linter.unusedSimpArgs false
section
def zL (l:List Int):List Value:=l.map λ(d:Int)=>.int .i64 d
theorem MI (l:List Int):(zL l).length=l.length:=by simp [zL]
theorem PL {l:List Int} {j:Nat} (h:j<l.length):(zL l)[j*1]?=some (.int .i64 (l.getD j 0)):=by simp [zL,h]
theorem ST (a b:List Int):zL (a++b)=zL a++zL b:=by simp [zL]
def NO {α β:Type} (b:Nat) (enc:α->Value) (eV:β->Value) (kvs:List (α×β)):As:=⟨some b,λo=>o=.map (entsM enc eV kvs 0).toArray kvs.length,true⟩
section
variable {α β:Type} [DecidableEq α] {enc:α->Value} {eV:β->Value} {ok:α->Prop} {P:Program} {kt:TypeId} {n:Nat} {F:List (Nat×Value)} {w0:BM} {L:List As} {d:Option Tmp} {tx et t b:Nat} {pp:String} {af:Array Edge} {g:Option (Nat×Bool)} {mp kp:Operand}
theorem P8 (K:KE P kt enc ok) (i:Nat) {kvs:List (α×β)} {x:α} {z0:β} {co:Bool} (hx:evF F mp=some (.map (some b))) (hk:evF F kp=some (enc x)) (ht:P.underlying tx=some (.map kt et)) (hz:∀w,(zeroValue et).run P w=.ok (eV z0) w) (hi:L[i]?=some (NO b enc eV kvs)) (hm:Hq ok kvs) (hok:ok x) :
    Ex P n F w0 L ⟨d,.lookup tx mp kp co,t,pp,af,g⟩ (if co then .tuple #[eV ((Ae kvs x).getD z0),.bool (Ae kvs x).isSome] else eV ((Ae kvs x).getD z0)):=λA w ha hw=>by
  obtain ⟨_,o,ho,hp⟩:=hw.2.1 _ (List.mem_of_getElem? hi) b rfl
  have ho:w.heap[b]?=some (.map (entsM enc eV kvs 0).toArray kvs.length):=by rw [ho,hp]
  obtain ⟨lx,hlx⟩:=K.key x hok
  have hc:=λem=>K.law.check w em hlx
  rcases F7 (eV:=eV) K hm hok w with ⟨h1,_,h2⟩|⟨j,v,_,h1,h2⟩
  · simp only [execOp,ha.ev hx,ha.ev hk,Instr.lookup,Sem.run_bind,run_underlying ht,CF ho,Result.andThen_ok,Sem.run_pure,hc,List.toList_toArray,h2,hz,h1,Option.getD_none,Option.isSome_none]
  · simp only [execOp,ha.ev hx,ha.ev hk,Instr.lookup,Sem.run_bind,run_underlying ht,CF ho,Result.andThen_ok,Sem.run_pure,hc,List.toList_toArray,h2,h1,Option.getD_some,Option.isSome_some]
end
def Bh (t:T3):P2:=BY t.2.1 t.2.2
def Ls (ts:List T3) (ms:List Int) (k:P2):Prop:=∃z∈ms,0<=z/\z<(ts.length:Int)/\k=Bh (ts.getD z.toNat (0,0,0))
inductive IW (ts:List T3) (S:P2->Prop):P2->Prop
  | start {k:P2}:S k->IW ts S k
  | up {t:T3} {k:P2}:t∈ts->IW ts S k->(k=BY t.1 t.2.1\/k=BY t.2.2 t.1)->IW ts S (Bh t)
theorem IW.mono {ts:List T3} {S S':P2->Prop} (h:∀k,S k->S' k) {k:P2} (c:IW ts S k):IW ts S' k:=by
  induction c with
  | start hs=>exact .start (h _ hs)
  | up ht _ he ih=>exact .up ht ih he
theorem IW.or {ts:List T3} {S S':P2->Prop} {k:P2} (c:IW ts (λk=>S k\/S' k) k):IW ts S k\/IW ts S' k:=by
  induction c with
  | start hs=>exact hs.elim (λh=>.inl (.start h)) (λh=>.inr (.start h))
  | up ht _ he ih=>exact ih.elim (λh=>.inl (.up ht h he)) (λh=>.inr (.up ht h he))
structure Fx (ts:List T3) (ms:List Int) (i:Nat) (kvs:List (P2×Nat)):Prop where
  ok:Hq JU kvs
  one:∀k,Ae kvs k=none\/Ae kvs k=some 1
  sub:∀k,Ae kvs k=some 1->IW ts (Ls ts ms) k
  mrk:∀k,Ls ts (ms.take i) k->Ae kvs k=some 1
section
variable {ts:List T3} {ms:List Int} {i:Nat} {kvs:List (P2×Nat)}
theorem Fx.zero (ts:List T3) (ms:List Int):Fx ts ms 0 []:=⟨⟨λp hp=>(by cases hp),List.Pairwise.nil⟩,λk=>.inl rfl,λk h=>(by cases h),λk ⟨z,hz,_⟩=>by rw [List.take_zero] at hz;cases hz⟩
theorem Fx.put (h:Fx ts ms i kvs) {k:P2} (hk:JU k) (hc:IW ts (Ls ts ms) k):Fx ts ms i (BU kvs k 1):=⟨h.ok.put hk,λx=>by
    rw [Bw];split
    · exact .inr O
    · exact h.one x,λx hx=>by
    rw [Bw] at hx;split at hx
    · rename_i e;rw [e];exact hc
    · exact h.sub x hx,λx hx=>by
    rw [Bw];split
    · rfl
    · exact h.mrk x hx⟩
theorem Ko {l:List Int} {j:Nat} (h:j<l.length):l.take (j+1)=l.take j++[l.getD j 0]:=by
  rw [List.take_add_one,List.getD,List.getElem?_eq_getElem h];rfl
theorem Yk (hi:i<ms.length) (h0:0<=ms.getD i 0) (h1:ms.getD i 0<(ts.length:Int)):Ls ts ms (Bh (ts.getD (ms.getD i 0).toNat (0,0,0))) :=
  ⟨ms.getD i 0,by rw [List.getD,List.getElem?_eq_getElem hi];exact List.getElem_mem hi,h0,h1,rfl⟩
theorem Fx.mark (h:Fx ts ms i kvs) (hi:i<ms.length) (h0:0<=ms.getD i 0) (h1:ms.getD i 0<(ts.length:Int)) (hk:JU (Bh (ts.getD (ms.getD i 0).toNat (0,0,0)))):Fx ts ms (i+1) (BU kvs (Bh (ts.getD (ms.getD i 0).toNat (0,0,0))) 1):=by
  have h2:=h.put hk (.start (Yk hi h0 h1))
  refine ⟨h2.ok,h2.one,h2.sub,λx hx=>?_⟩
  rw [Ko hi] at hx
  obtain ⟨z,hz,a,b,rfl⟩:=hx
  rcases List.mem_append.1 hz with hz|hz
  · exact h2.mrk _ ⟨z,hz,a,b,rfl⟩
  · rw [List.mem_singleton.1 hz,Bw,if_pos rfl]
theorem Fx.skip (h:Fx ts ms i kvs) (hi:i<ms.length) (hn:¬(0<=ms.getD i 0/\ms.getD i 0<(ts.length:Int))):Fx ts ms (i+1) kvs:=by
  refine ⟨h.ok,h.one,h.sub,λx hx=>?_⟩
  rw [Ko hi] at hx
  obtain ⟨z,hz,a,b,rfl⟩:=hx
  rcases List.mem_append.1 hz with hz|hz
  · exact h.mrk _ ⟨z,hz,a,b,rfl⟩
  · exact absurd (by rw [<-List.mem_singleton.1 hz];exact ⟨a,b⟩) hn
def Rw (ts:List T3) (kvs:List (P2×Nat)):Nat:=(ts.filter λt=>(Ae kvs (Bh t)).isNone).length
theorem Yn {t:T3} (ht:t∈ts) (hn:Ae kvs (Bh t)=none):Rw ts (BU kvs (Bh t) 1)<Rw ts kvs:=by
  unfold Rw
  induction ts with
  | nil=>cases ht
  | cons x r ih =>
    have le:(r.filter λu=>(Ae (BU kvs (Bh t) 1) (Bh u)).isNone).length<=(r.filter λu=>(Ae kvs (Bh u)).isNone).length:=by
      clear ih ht
      induction r with
      | nil=>exact Nat.le_refl _
      | cons y r ih =>
        rw [List.filter_cons,List.filter_cons,Bw]
        by_cases e:Bh y=Bh t
        · rw [if_pos e,e,hn];simp only [Option.isNone_some,Option.isNone_none,if_true,List.length_cons];simp only [Bool.false_eq_true,if_false];omega
        · rw [if_neg e];split
          · simp only [List.length_cons];omega
          · exact ih
    rw [List.filter_cons,List.filter_cons,Bw]
    rcases List.mem_cons.1 ht with e|ht
    · subst e
      rw [if_pos rfl,hn]
      simp only [Option.isNone_some,Option.isNone_none,if_true,List.length_cons,Bool.false_eq_true,if_false]
      omega
    · by_cases e:Bh x=Bh t
      · rw [if_pos e,e,hn]
        simp only [Option.isNone_some,Option.isNone_none,if_true,List.length_cons,Bool.false_eq_true,if_false]
        omega
      · rw [if_neg e];split
        · simp only [List.length_cons];have:=ih ht;omega
        · exact ih ht
def UX (ts:List T3) (kvs:List (P2×Nat)) (j:Nat):Prop:=∀q,q<j->Ae kvs (Bh (ts.getD q (0,0,0)))=none->Ae kvs (BY (ts.getD q (0,0,0)).1 (ts.getD q (0,0,0)).2.1)=none/\Ae kvs (BY (ts.getD q (0,0,0)).2.2 (ts.getD q (0,0,0)).1)=none
theorem Fx.no (h:Fx ts ms i kvs) {k:P2} (e:(Ae kvs k).getD 0=0):Ae kvs k=none:=(h.one k).elim id λh1=>by rw [h1] at e;cases e
theorem Fx.is1 (h:Fx ts ms i kvs) {k:P2} (e:0<(Ae kvs k).getD 0):Ae kvs k=some 1:=(h.one k).elim (λh1=>by rw [h1] at e;cases e) id
theorem Mm {j:Nat} (h:UX ts kvs j) (hs:Ae kvs (Bh (ts.getD j (0,0,0)))=none->Ae kvs (BY (ts.getD j (0,0,0)).1 (ts.getD j (0,0,0)).2.1)=none/\Ae kvs (BY (ts.getD j (0,0,0)).2.2 (ts.getD j (0,0,0)).1)=none):UX ts kvs (j+1):=λq hq hn=>by
  rcases Nat.lt_or_ge q j with h1|h1
  · exact h q h1 hn
  · have e:q=j:=by omega
    subst e;exact hs hn
theorem Fx.all (h:Fx ts ms ms.length kvs) (hc:UX ts kvs ts.length) (k:P2):Ae kvs k=some 1↔IW ts (Ls ts ms) k:=by
  refine ⟨h.sub k,λc=>?_⟩
  induction c with
  | start hs=>exact h.mrk _ (by rw [List.take_length];exact hs)
  | up ht _ he ih =>
    rename_i t k' _
    obtain ⟨q,hq,rfl⟩:=List.getElem_of_mem ht
    rcases h.one (Bh ts[q]) with h1|h1
    · have h2:=hc q hq (by rw [List.getD,List.getElem?_eq_getElem hq];exact h1)
      rw [List.getD,List.getElem?_eq_getElem hq] at h2
      rcases he with e|e
      · rw [e] at ih;rw [show Ae kvs (BY ts[q].1 ts[q].2.1)=none from h2.1] at ih;cases ih
      · rw [e] at ih;rw [show Ae kvs (BY ts[q].2.2 ts[q].1)=none from h2.2] at ih;cases ih
    · exact h1
end
structure HC (ts:List T3) (ms:List Int) where
  b:Nat
  kvs:List (P2×Nat)
  ok:Hq JU kvs
  one:∀k,Ae kvs k=none\/Ae kvs k=some 1
  all:∀k,Ae kvs k=some 1↔IW ts (Ls ts ms) k
instance {ts:List T3} {ms:List Int}:EQ (HC ts ms):=⟨λx=>.map (some x.b),λx=>[NO x.b Dv vN x.kvs],λx y hy=>by rcases List.mem_singleton.1 hy with rfl;rfl⟩
theorem Zn {S:Nat->Prop} {W w:World} {L:List As} {ts:List T3} {ms:List Int} (hw:Own ⟨W,none⟩ w L) (i:Nat) {b:Nat} {kvs:List (P2×Nat)} (hi:L[i]?=some (CD b Dv vN kvs)) (h:Fx ts ms ms.length kvs) (hc:UX ts kvs ts.length) {v:Value} (hv:v=.map (some b)):Bb (HC ts ms) S W (.returned v) w:=by
  refine ⟨⟨b,kvs,h.ok,h.one,h.all hc⟩,by rw [hv];rfl,hw.out,λy hy=>?_⟩
  rcases List.mem_singleton.1 hy with rfl
  have h1:=hw.2.1 _ (List.mem_of_getElem? hi) b rfl
  refine ⟨λc e=>?_,λc e=>?_⟩
  · injection e with e;subst e;exact h1.2
  · injection e with e;subst e
    rcases h1.1 with h2|h2|h2
    · cases h2
    · exact .inl h2
    · cases h2
def KR (ts:List T3) (kvs:List (P2×Nat)) (i:Nat):List E4:=((Bq ts).take i).filter λe=>decide (Ae kvs (e.a,e.b)=some 1)
theorem Ti {ts:List T3} {kvs:List (P2×Nat)} {i:Nat} (hi:i<(Bq ts).length) (h:Ae kvs (((Bq ts).getD i E0).a,((Bq ts).getD i E0).b)=some 1):KR ts kvs (i+1)=KR ts kvs i++[(Bq ts).getD i E0]:=by
  rw [List.getD,List.getElem?_eq_getElem hi] at h ⊢
  unfold KR
  rw [List.take_add_one,List.getElem?_eq_getElem hi,List.filter_append]
  simp only [Option.toList_some,Option.getD_some] at h ⊢
  rw [List.filter_cons,if_pos (decide_eq_true h)];rfl
theorem WY {ts:List T3} {kvs:List (P2×Nat)} {i:Nat} (hi:i<(Bq ts).length) (h:¬Ae kvs (((Bq ts).getD i E0).a,((Bq ts).getD i E0).b)=some 1):KR ts kvs (i+1)=KR ts kvs i:=by
  rw [List.getD,List.getElem?_eq_getElem hi] at h
  unfold KR
  rw [List.take_add_one,List.getElem?_eq_getElem hi,List.filter_append]
  simp only [Option.toList_some,Option.getD_some] at h ⊢
  rw [List.filter_cons,if_neg (by simpa using h)];simp
theorem T8 {ts:List T3} {kvs:List (P2×Nat)} (i:Nat):(KR ts kvs i).length<=i:=Nat.le_trans (List.length_filter_le _ _) (List.length_take_le _ _)
structure DX (ts:List T3) (ms:List Int) where
  l:List E4
  r:RX (rowsL B9 l) l.length
  p:E4->Bool
  el:l=(Bq ts).filter p
  all:∀e,p e=true↔IW ts (Ls ts ms) (e.a,e.b)
instance {ts:List T3} {ms:List Int}:EQ (DX ts ms):=⟨λx=>x.r.val,λx=>[x.r.row],λx y hy=>by rcases List.mem_singleton.1 hy with rfl;rfl⟩
theorem ZU {S:Nat->Prop} {W w:World} {L:List As} {ts:List T3} {ms:List Int} (h:HC ts ms) (hw:Own ⟨W,none⟩ w L) (i:Nat) {q:Option Addr} {T n c:Nat} (hi:L[i]?=some (rowW q T 4 n c (rowsL B9 (KR ts h.kvs (Bq ts).length)))) (ho:OwnOk q n c) (hn:n=(KR ts h.kvs (Bq ts).length).length) {v:Value} (hv:v=.slice q n n):Bb (DX ts ms) S W (.returned v) w:=by
  subst hn
  obtain ⟨a,h1,h2,h3⟩:=Zl (S:=S) hw i hi ho (Al Cn _) hv
  exact ⟨⟨_,a,λe=>decide (Ae h.kvs (e.a,e.b)=some 1),by unfold KR;rw [List.take_length],λe=>⟨λk=>(h.all _).1 (of_decide_eq_true k),λk=>decide_eq_true ((h.all _).2 k)⟩⟩,h1,h2,h3⟩
theorem HC.gt {ts:List T3} {ms:List Int} (h:HC ts ms) {k:P2}:0<(Ae h.kvs k).getD 0↔Ae h.kvs k=some 1:=by
  rcases h.one k with h1|h1<;>rw [h1]<;>simp
end
section
set_option maxRecDepth 100000
theorem HX:KE prog 144 Dv JU:=Qs QR (by decide +kernel) (by kernel_rfl) (by kernel_rfl) underlying144 underlying3 (by kernel_rfl) (by kernel_rfl) (by kernel_rfl)
set_option maxHeartbeats 1000000 in
theorem PG {ps:List Pt} {ts ss:List T3} (x:MX ps ts ss) (ms:List Int) (y:RX (zL ms) ms.length) (hnb:CN ps.length ts=true) (hp:ps.length<=1000000) (htl:ts.length<=1000000) (hml:ms.length<=1000000) (w:World) {S:Nat->Prop} (hx:Ro S w x) (hy:Ro S w y):Calls prog 78 #[(aG (Bk x)),(Value.slice y.p ms.length y.c)] w (Bb (HC ts ms) S w):=by
 have lx:=EA (W:=w) hx
 have ly:=EA (W:=w) hy
 refine BF (args:=[(aG (Bk x)),(Value.slice y.p ms.length y.c)]) (L:=[AZ x.a.p (rowsL Aj ps),AZ x.b.p (rowsL An ts),AZ x.c.p (rowsL An ss),AZ y.p (zL ms)]) func78 O O (Ab O) (EB hx (EB hy BR)) (AF.subF (sL [0,1] O) (q4 (Bo (cs:=Bk x) O λb1=>AO O (AE.nil ?_))))
 refine AC.subF (sL [1,2,4] O) (AC.then_ (AF.scope (q4 (AE.makeMap Dv vN (AM O) O λb2=>AO O ?_))))
 refine q6 (sL [1,2,4,5] O) (q4 (AR O (AI (v:=(vN ms.length)) (AG O underlying33) O (AR O (AE.nil ?_)))))
 refine AC.subF (sL [2,4,5,12,13,14] O) (AC.then_ (AF.block ?_))
 refine AF.lp2 (tg λ(i:Nat) (kvs:List (P2×Nat))=>i<=ms.length/\Fx ts ms i kvs) (tg λ(i:Nat) (kvs:List (P2×Nat))=>[(2,(pP b1 0)),(4,(Value.map none)),(5,(Value.map (some b2))),(12,(Value.slice y.p ms.length y.c)),(13,(vN ms.length)),(14,(vN i))]) (tg λ(i:Nat) (kvs:List (P2×Nat))=>[CD b2 Dv vN kvs,Af b1 31 (Bk x),AZ x.a.p (rowsL Aj ps),AZ x.b.p (rowsL An ts),AZ x.c.p (rowsL An ss),AZ y.p (zL ms)]) (tg λ(i:Nat) (kvs:List (P2×Nat))=>ms.length-i) 0 ([]:List (P2×Nat)) (⟨Nat.zero_le _,Fx.zero ts ms⟩) (sF O) sr (λi kvs hJ=>?_)
 obtain ⟨hi,hci⟩:=hJ
 refine q4 (AI (Am (c:=(decide (i<ms.length))) O O (C6 (a:=i) (b:=ms.length))) O (AE.nil (q1 ?_)))
 refine AF.cond O (λhc0=>?_) (λhc0=>?_)
 ·replace hc0:=of_decide_eq_true hc0
  refine AF.skip (q1 (AF.block (q4 (AI (v:=(pP (pB y.p) (pO y.p+i*1))) (AQ (j:=i) O O y.ok underlying33 sizeOf3 O Z) O (AI (Ai (v:=(vI (ms.getD i 0))) (i:=5) O O (y.ok.ne Z) Bm (PL (l:=ms) (j:=i) Z)) O ?_)))))
  refine AO O (q3 (sL [2,4,5,12,13,14,7] O) (AR O (AI (DD (c:=(decide ((0:Int)<=(ms.getD i 0)))) O O O) O (AR O ?_))))
  refine AE.mid (FM:=[(2,(pP b1 0)),(4,(Value.map none)),(5,(Value.map (some b2))),(12,(Value.slice y.p ms.length y.c)),(13,(vN ms.length)),(14,(vN i)),(7,(vI (ms.getD i 0))),(18,(vI (ms.getD i 0))),(19,(Value.bool (decide ((0:Int)<=(ms.getD i 0))))),(20,(Value.bool (decide ((0:Int)<=(ms.getD i 0))))),(26,(Value.bool ((decide ((0:Int)<=(ms.getD i 0)))&&(decide ((ms.getD i 0)<((ts.length:Nat):Int))))))]) (LM:=[CD b2 Dv vN kvs,Af b1 31 (Bk x),AZ x.a.p (rowsL Aj ps),AZ x.b.p (rowsL An ts),AZ x.c.p (rowsL An ss),AZ y.p (zL ms)]) 6 ?_ ?_
  ·rcases Bool.eq_false_or_eq_true (decide ((0:Int)<=(ms.getD i 0))) with hg1|hg1
   ·skip
    refine AE.retell (k:=20) (u:=Value.bool true) O (by rw [hg1]) ?_
    have hg1':=hg1
    replace hg1':=of_decide_eq_true hg1'
    refine AE.step (v:=(vI (ms.getD i 0))) (AB O) (BA O) O (Ab O) (AE.step (v:=(pP b1 1)) (AB O) (AA O underlying31 O sizeOf28 O) O (Ab O) (AE.step (v:=(Value.slice x.b.p ts.length x.b.c)) (AB O) (AK (i:=1) (v:=(Value.slice x.b.p ts.length x.b.c)) O O CR.a O) O (Ab O) (AE.step (v:=(vN ts.length)) (AB O) (AG O underlying28) O (Ab O) (AE.step (v:=(Value.bool (decide ((ms.getD i 0)<((ts.length:Nat):Int))))) (AB O) (Am (c:=(decide ((ms.getD i 0)<((ts.length:Nat):Int)))) O O O) O (Ab O) (AI (v:=(Value.bool (decide ((ms.getD i 0)<((ts.length:Nat):Int))))) (Ah O O) O ?_)))))
    exact AE.nil (AC.mid (sS O (sS O (sS O (sS O (sS O (sS O (sS O (sS O (sS O (sS (by first|rfl|(rw [hg1];rfl)|rw [hg1]) (sS (by first|rfl|(rw [hg1];rfl)|rw [hg1]) (sN)))))))))))) (List.Sublist.refl _))
   ·skip
    refine AE.retell (k:=20) (u:=Value.bool false) O (by rw [hg1]) ?_
    have hg1':=hg1
    replace hg1':=of_decide_eq_false hg1'
    refine AE.skip (AL O) O (Ab O) (AE.skip (AL O) O (Ab O) (AE.skip (AL O) O (Ab O) (AE.skip (AL O) O (Ab O) (AE.skip (AL O) O (Ab O) (AI (v:=(Value.bool false)) (AS O O) O ?_)))))
    exact AE.nil (AC.mid (sS O (sS O (sS O (sS O (sS O (sS O (sS O (sS O (sS O (sS (by first|rfl|(rw [hg1];rfl)|rw [hg1]) (sS (by first|rfl|(rw [hg1];rfl)|rw [hg1]) (sN)))))))))))) (List.Sublist.refl _))
  refine AE.nil (AC.subF (sL [2,4,5,12,13,14,7,26] O) (AC.then_ ?_))
  refine AF.cond O (λhc1=>?_) (λhc1=>?_)
  ·simp only [Bool.and_eq_true,Bool.or_eq_true,Bool.and_eq_false_iff,Bool.or_eq_false_iff,Bool.not_eq_true',Bool.not_eq_false',decide_eq_true_eq,decide_eq_false_iff_not] at hc1
   obtain ⟨hz0,hz1⟩:0<=ms.getD i 0/\ms.getD i 0<(ts.length:Int):=by omega
   obtain ⟨tn,htn⟩:∃q,q=(ms.getD i 0).toNat:=⟨_,rfl⟩
   have htl2:tn<ts.length:=by omega
   obtain ⟨g1,g2,g3⟩:=C4 (CU hnb htl2)
   refine AF.retell (k:=7) (u:=(vN tn)) O (by show Value.int _ _=Value.int _ _;congr 1;omega) (Cu [(0,true),(1,true),(2,true),(3,true),(4,true),(5,true),(6,true),(7,true),(8,true),(9,true),(10,true),(11,true),(12,true),(13,false),(14,false)] (sl sr) (Bf O (Ax (v:=(pP b1 1)) O (AA O underlying31 O sizeOf28 O) (Bj 0 (Value.slice x.b.p ts.length x.b.c) CR O (Bf O ?_)))))
   refine Ax (v:=(pP (pB x.b.p) (pO x.b.p+tn*3))) O (AQ (j:=tn) O O x.b.ok underlying28 sizeOf76 O Z) (Ax (v:=(pP (pB x.b.p) (pO x.b.p+(tn*3+1)))) O (AD (j:=1) O O underlying76 sizeOf3 O (by decide) (Nat.add_assoc _ _ _)) (Ax O (Ai (v:=(vN ((ts.getD tn ((0,0,0):Nat×Nat×Nat)).2.1))) (i:=2) O O (BQ.ne x.b.ok Z) Bm (D5 Ar ((0,0,0):Nat×Nat×Nat) _ _ 1 Z (by decide) O)) (Ax (v:=(pP b1 1)) O (AA O underlying31 O sizeOf28 O) (Bj 0 (Value.slice x.b.p ts.length x.b.c) CR O (Bf O ?_)))))
   refine Ax (v:=(pP (pB x.b.p) (pO x.b.p+tn*3))) O (AQ (j:=tn) O O x.b.ok underlying28 sizeOf76 O Z) (Ax (v:=(pP (pB x.b.p) (pO x.b.p+(tn*3+2)))) O (AD (j:=2) O O underlying76 sizeOf3 O (by decide) (Nat.add_assoc _ _ _)) (Ax O (Ai (v:=(vN ((ts.getD tn ((0,0,0):Nat×Nat×Nat)).2.2))) (i:=2) O O (BQ.ne x.b.ok Z) Bm (D5 Ar ((0,0,0):Nat×Nat×Nat) _ _ 2 Z (by decide) O)) (AV.imp O (BW call80 (Iz ((ts.getD tn ((0,0,0):Nat×Nat×Nat)).2.1) ((ts.getD tn ((0,0,0):Nat×Nat×Nat)).2.2)) O (AV.back (sl sr) ?_)))))
   refine AV.imp O (AE.mapUpdate HX 0 (kvs:=kvs) (x:=(min ((ts.getD tn ((0,0,0):Nat×Nat×Nat)).2.1) ((ts.getD tn ((0,0,0):Nat×Nat×Nat)).2.2),max ((ts.getD tn ((0,0,0):Nat×Nat×Nat)).2.1) ((ts.getD tn ((0,0,0):Nat×Nat×Nat)).2.2))) (y:=1) (AM O) O O O underlying142 O (hci.ok) (Bn Z Z) (AV.back (sl sr) (AV.nil (AC.subF (sL [2,4,5,12,13,14,7] O) (AC.in_normal ?_)))))
   exact AC.then_ (AF.region (AI (AY (c:=((i+1:Nat):Int)) O O (AX (a:=i) (b:=1) Z)) O (AR O (AE.nil (AC.subF (sL [2,4,5,12,13,14,7] O) (AC.round2 (i+1) (BU kvs (min ((ts.getD tn ((0,0,0):Nat×Nat×Nat)).2.1) ((ts.getD tn ((0,0,0):Nat×Nat×Nat)).2.2),max ((ts.getD tn ((0,0,0):Nat×Nat×Nat)).2.1) ((ts.getD tn ((0,0,0):Nat×Nat×Nat)).2.2)) 1) (⟨Z,(by have h9:=hci.mark hc0 hz0 hz1 (by rw [<-htn];exact Bn Z Z);rw [<-htn] at h9;exact h9)⟩) Z (sF O) sr))))))
  ·simp only [Bool.and_eq_true,Bool.or_eq_true,Bool.and_eq_false_iff,Bool.or_eq_false_iff,Bool.not_eq_true',Bool.not_eq_false',decide_eq_true_eq,decide_eq_false_iff_not] at hc1
   refine AF.skip (AC.in_normal (AC.then_ (AF.region (AI (AY (c:=((i+1:Nat):Int)) O O (AX (a:=i) (b:=1) Z)) O (AR O ?_)))))
   exact AE.nil (AC.subF (sL [2,4,5,12,13,14,7] O) (AC.round2 (i+1) kvs (⟨Z,hci.skip hc0 Z⟩) Z (sF O) sr))
 ·replace hc0:=of_decide_eq_false hc0
  refine AF.exit (AC.then_exit (AC.round2_exit (AC.in_exit (q1 (AF.label ?_)))))
  refine AC.then_ (AF.block ?_)
  refine AF.lp1 (tg λ(kvs:List (P2×Nat))=>Fx ts ms ms.length kvs) (tg λ(kvs:List (P2×Nat))=>[(2,(pP b1 0)),(5,(Value.map (some b2)))]) (tg λ(kvs:List (P2×Nat))=>[CD b2 Dv vN kvs,Af b1 31 (Bk x),AZ x.a.p (rowsL Aj ps),AZ x.b.p (rowsL An ts),AZ x.c.p (rowsL An ss),AZ y.p (zL ms)]) (tg λ(kvs:List (P2×Nat))=>Rw ts kvs) kvs ((by rw [show i=ms.length by omega] at hci;exact hci)) (sF O) sr (λkvs hJ=>?_)
  have hci:=hJ
  refine AF.block (AF.seq (q4 (AI (v:=(pP b1 1)) (AA O underlying31 O sizeOf28 O) O (BK 1 (Value.slice x.b.p ts.length x.b.c) CR O (AI (v:=(vN ts.length)) (AG O underlying28) O ?_)))))
  refine AR O (AE.nil (AC.subF (sL [2,5,43,44,45] O) (AC.then_ (AF.block ?_))))
  refine AF.lp1 (tg λ(j:Nat)=>j<=ts.length/\UX ts kvs j) (tg λ(j:Nat)=>[(2,(pP b1 0)),(5,(Value.map (some b2))),(43,(Value.slice x.b.p ts.length x.b.c)),(44,(vN ts.length)),(45,(vN j))]) (tg λ(j:Nat)=>[CD b2 Dv vN kvs,Af b1 31 (Bk x),AZ x.a.p (rowsL Aj ps),AZ x.b.p (rowsL An ts),AZ x.c.p (rowsL An ss),AZ y.p (zL ms)]) (tg λ(j:Nat)=>ts.length-j) 0 (⟨Nat.zero_le _,λq h=>absurd h (Nat.not_lt_zero _)⟩) (sF O) sr (λj hJ=>?_)
  obtain ⟨hj,hcm⟩:=hJ
  refine q4 (AI (Am (c:=(decide (j<ts.length))) O O (C6 (a:=j) (b:=ts.length))) O (AE.nil (q1 ?_)))
  refine AF.cond O (λhc2=>?_) (λhc2=>?_)
  ·replace hc2:=of_decide_eq_true hc2
   obtain ⟨T,hT⟩:∃q,q=ts.getD j (0,0,0):=⟨_,rfl⟩
   obtain ⟨g1,g2,g3⟩:=C4 (CU hnb hc2)
   rw [<-hT] at g1 g2 g3
   have hmT:T∈ts:=by rw [hT,List.getD,List.getElem?_eq_getElem hc2];exact List.getElem_mem hc2
   obtain ⟨vc,hvc⟩:∃q,q=(Ae kvs ((min T.2.1 T.2.2,max T.2.1 T.2.2):P2)).getD 0:=⟨_,rfl⟩
   have hvc1:vc<=1:=by rw [hvc];rcases hci.one ((min T.2.1 T.2.2,max T.2.1 T.2.2):P2) with h9|h9<;>rw [h9]<;>decide
   obtain ⟨va,hva⟩:∃q,q=(Ae kvs ((min T.1 T.2.1,max T.1 T.2.1):P2)).getD 0:=⟨_,rfl⟩
   have hva1:va<=1:=by rw [hva];rcases hci.one ((min T.1 T.2.1,max T.1 T.2.1):P2) with h9|h9<;>rw [h9]<;>decide
   obtain ⟨vb,hvb⟩:∃q,q=(Ae kvs ((min T.2.2 T.1,max T.2.2 T.1):P2)).getD 0:=⟨_,rfl⟩
   have hvb1:vb<=1:=by rw [hvb];rcases hci.one ((min T.2.2 T.1,max T.2.2 T.1):P2) with h9|h9<;>rw [h9]<;>decide
   refine AF.skip (q1 (AF.block (q4 (AI (v:=(pP (pB x.b.p) (pO x.b.p+j*3))) (AQ (j:=j) O O x.b.ok underlying28 sizeOf76 O Z) O (AI (v:=(aG (An (ts.getD j ((0,0,0):Nat×Nat×Nat))))) (AW (vs:=An (ts.getD j ((0,0,0):Nat×Nat×Nat))) (i:=3) O O (BQ.ne x.b.ok Z) Ej (Aw Ar _ _ _ Z) (Ar _)) O ?_)))))
   refine AE.retell (k:=48) (u:=(aG (An T))) O (by rw [hT]) (al Nc O λb3=>Aq O sizeOf76 O (q3 (sL [2,5,43,44,45,9] O) (AI (v:=(pP b3 1)) (AD (j:=1) O O underlying76 sizeOf3 O (by decide) O) O (BK 0 (vN T.2.1) Bm O ?_))))
   refine AI (v:=(pP b3 2)) (AD (j:=2) O O underlying76 sizeOf3 O (by decide) O) O (BK 0 (vN T.2.2) Bm O (BW call80 (Iz T.2.1 T.2.2) O (al Xa O λb4=>Aq O sizeOf144 O (q6 (sL [2,5,43,44,45,9,10] O) ?_))))
   by_cases hbz:vc=0
   ·skip
    refine Cu [(0,true),(1,true),(2,true),(3,true),(4,true),(5,true),(6,true),(7,true),(8,true),(9,true),(12,true),(13,true),(14,true),(15,true),(16,true),(10,false),(11,true),(17,false),(18,true),(19,true),(20,true),(21,true)] sr (Bf O (EW 0 U3 O (Ax (v:=(vN vc)) O ((by rw [hvc];exact Ce HX 2 (eV:=vN) (kvs:=kvs) (x:=(min T.2.1 T.2.2,max T.2.1 T.2.2)) (z0:=0) (co:=false) O O underlying142 zeroValue3 O (hci.ok) (Bn Z Z))) (Ax O (BS (c:=true) O O (decide_eq_true Z)) (Bf O ?_)))))
    refine AV.pas (v:=(Value.map (some b2))) O (AB O) (BA O) O O (AV.pas (v:=(pP b3 0)) O (AB O) (AD (j:=0) O O underlying76 sizeOf3 O (by decide) O) O O (AV.pas (v:=(vN T.1)) O (AB O) (AK (i:=1) (v:=(vN T.1)) O O Bm.a O) O O (AV.pas (v:=(pP b3 1)) O (AB O) (AD (j:=1) O O underlying76 sizeOf3 O (by decide) O) O O (AV.pas (v:=(vN T.2.1)) O (AB O) (AK (i:=1) (v:=(vN T.2.1)) O O Bm.a O) O O (AV.pas (v:=(Value.map (some b2))) O (AB O) (BA O) O O ?_)))))
    refine AV.pas (v:=(pP b3 2)) O (AB O) (AD (j:=2) O O underlying76 sizeOf3 O (by decide) O) O O (AV.pas (v:=(vN T.2.2)) O (AB O) (AK (i:=1) (v:=(vN T.2.2)) O O Bm.a O) O O (AV.pas (v:=(pP b3 0)) O (AB O) (AD (j:=0) O O underlying76 sizeOf3 O (by decide) O) O O (AV.pas (v:=(vN T.1)) O (AB O) (AK (i:=1) (v:=(vN T.1)) O O Bm.a O) O O (AV.imp O (AE.call (v:=(aG (Az (min T.1 T.2.1,max T.1 T.2.1)))) (AB O) (A8 (args:=[(vN T.1),(vN T.2.1)]) O O call80) (λw hw=>Iz T.1 T.2.1 w) O (Ab O) ?_)))))
    refine AV.back sr (AV.pas (v:=(vN va)) O (AB O) ((by rw [hva];exact Ce HX 2 (eV:=vN) (kvs:=kvs) (x:=(min T.1 T.2.1,max T.1 T.2.1)) (z0:=0) (co:=false) O O underlying142 zeroValue3 O (hci.ok) (Bn Z Z))) O O (AV.imp O (AE.call (v:=(aG (Az (min T.2.2 T.1,max T.2.2 T.1)))) (AB O) (A8 (args:=[(vN T.2.2),(vN T.1)]) O O call80) (λw hw=>Iz T.2.2 T.1 w) O (Ab O) (AV.back sr (AV.pas (v:=(vN vb)) O (AB O) ((by rw [hvb];exact Ce HX 2 (eV:=vN) (kvs:=kvs) (x:=(min T.2.2 T.1,max T.2.2 T.1)) (z0:=0) (co:=false) O O underlying142 zeroValue3 O (hci.ok) (Bn Z Z))) O O ?_)))))
    refine AV.pas (v:=(vN (va+vb))) O (AB O) (AY (c:=((va+vb:Nat):Int)) O O (AX (a:=va) (b:=vb) Z)) O O (AV.pas (v:=(Value.bool (decide (0<(va+vb))))) O (AB O) (Cj (c:=(decide (0<(va+vb)))) O O (C6 (a:=0) (b:=va+vb))) O O (Ax (v:=(Value.bool (decide (0<(va+vb))))) O (Ah O O) (AV.nil (AC.subF (sL [2,5,43,44,45,9,10,75] O) (AC.then_ ?_)))))
    refine AF.cond O (λhc3=>?_) (λhc3=>?_)
    ·replace hc3:=of_decide_eq_true hc3
     have hcl:IW ts (Ls ts ms) (Bh T):=by rcases Nat.lt_or_ge 0 va with h9|h9;exact .up hmT (hci.sub _ (hci.is1 (k:=BY T.1 T.2.1) (by show 0<(Ae kvs ((min T.1 T.2.1,max T.1 T.2.1):P2)).getD 0;rw [<-hva];exact h9))) (.inl rfl);exact .up hmT (hci.sub _ (hci.is1 (k:=BY T.2.2 T.1) (by show 0<(Ae kvs ((min T.2.2 T.1,max T.2.2 T.1):P2)).getD 0;rw [<-hvb];omega))) (.inr rfl)
     have hop:Rw ts (BU kvs (Bh T) 1)<Rw ts kvs:=Yn hmT (hci.no (by show (Ae kvs ((min T.2.1 T.2.2,max T.2.1 T.2.2):P2)).getD 0=0;rw [<-hvc];exact hbz))
     refine q4 (AR O (A6 0 U3 O (AE.mapUpdate HX 2 (kvs:=kvs) (x:=(min T.2.1 T.2.2,max T.2.1 T.2.2)) (y:=1) (AM O) O O O underlying142 O (hci.ok) (Bn Z Z) (AE.nil (AC.subF (sL [2,5,43,44,45,9,10] O) ?_)))))
     refine AC.then_ (AF.exit (AC.in_exit_ne O (AC.then_exit (AC.round1_exit (AC.in_exit_ne O ?_)))))
     exact AC.then_exit (AC.in_exit (AC.round1 (BU kvs (min T.2.1 T.2.2,max T.2.1 T.2.2) 1) ((hci.put (Bn Z Z) hcl)) (hop) (sF O) (sl (sl sr))))
    ·replace hc3:=of_decide_eq_false hc3
     refine AF.skip (AC.in_normal (AC.then_ (AF.region (AI (AY (c:=((j+1:Nat):Int)) O O (AX (a:=j) (b:=1) Z)) O (AR O ?_)))))
     exact AE.nil (AC.subF (sL [2,5,43,44,45,9,10] O) (AC.round1 (j+1) (⟨Z,Mm hcm (by rw [<-hT];intro hn;first|exact absurd (by rw [hvc];show (Ae kvs (Bh T)).getD 0=0;rw [hn];rfl) hbz|exact ⟨hci.no (k:=BY T.1 T.2.1) (by show (Ae kvs ((min T.1 T.2.1,max T.1 T.2.1):P2)).getD 0=0;rw [<-hva];omega),hci.no (k:=BY T.2.2 T.1) (by show (Ae kvs ((min T.2.2 T.1,max T.2.2 T.1):P2)).getD 0=0;rw [<-hvb];omega)⟩)⟩) Z (sF O) (sl (sl sr))))
   ·skip
    refine Cu [(0,true),(1,true),(2,true),(3,true),(4,true),(5,true),(6,true),(7,true),(8,true),(9,true),(12,true),(13,true),(14,true),(15,true),(16,true),(10,false),(11,true),(17,false),(18,true),(19,true),(20,true),(21,true)] sr (Bf O (EW 0 U3 O (Ax (v:=(vN vc)) O ((by rw [hvc];exact Ce HX 2 (eV:=vN) (kvs:=kvs) (x:=(min T.2.1 T.2.2,max T.2.1 T.2.2)) (z0:=0) (co:=false) O O underlying142 zeroValue3 O (hci.ok) (Bn Z Z))) (Ax O (BS (c:=false) O O (decide_eq_false Z)) (Bf O ?_)))))
    refine AV.skp O (AL O) O O (AV.skp O (AL O) O O (AV.skp O (AL O) O O (AV.skp O (AL O) O O (AV.skp O (AL O) O O (AV.skp O (AL O) O O ?_)))))
    refine AV.skp O (AL O) O O (AV.skp O (AL O) O O (AV.skp O (AL O) O O (AV.skp O (AL O) O O (AV.imp O (AE.skip (AL O) O (Ab O) ?_)))))
    refine AV.back sr (AV.skp O (AL O) O O (AV.imp O (AE.skip (AL O) O (Ab O) (AV.back sr (AV.skp O (AL O) O O ?_)))))
    refine AV.skp O (AL O) O O (AV.skp O (AL O) O O (Ax (v:=(Value.bool false)) O (AS O O) (AV.nil (AC.subF (sL [2,5,43,44,45,9,10,75] O) (AC.then_ ?_)))))
    refine AF.cond_false O (AF.skip (AC.in_normal (AC.then_ (AF.region (AI (AY (c:=((j+1:Nat):Int)) O O (AX (a:=j) (b:=1) Z)) O ?_)))))
    exact AR O (AE.nil (AC.subF (sL [2,5,43,44,45,9,10] O) (AC.round1 (j+1) (⟨Z,Mm hcm (by rw [<-hT];intro hn;first|exact absurd (by rw [hvc];show (Ae kvs (Bh T)).getD 0=0;rw [hn];rfl) hbz|exact ⟨hci.no (k:=BY T.1 T.2.1) (by show (Ae kvs ((min T.1 T.2.1,max T.1 T.2.1):P2)).getD 0=0;rw [<-hva];omega),hci.no (k:=BY T.2.2 T.1) (by show (Ae kvs ((min T.2.2 T.1,max T.2.2 T.1):P2)).getD 0=0;rw [<-hvb];omega)⟩)⟩) Z (sF O) (sl (sl sr)))))
  ·replace hc2:=of_decide_eq_false hc2
   refine AF.exit (AC.then_exit (AC.round1_exit (AC.in_exit (q2 (AR O ?_)))))
   refine AO O (AE.nil (AC.subF (sL [2,5,43,44,45,4] O) (AC.then_ (AF.ret (AC.in_ret ?_)))))
   exact AC.round1_ret (AC.in_ret (AC.scope_ret (AT O (Ak (v:=(Value.map (some b2))) O) (λw hw=>(Zn hw 0 O hci (by rw [show j=ts.length by omega] at hcm;exact hcm) O)))))
end
section
set_option maxRecDepth 100000
theorem JZ (x0 x1:Nat):Instr.fill (λi=>some (i*1,1)) (Az ((0,0):P2)).toArray [(0,vN x0),(1,vN x1)]=some (Az (x0,x1)).toArray:=by kernel_rfl
theorem Jf (x0:E4):Instr.fill (λi=>some (i*4,4)) ((Array.range (1*4)).map ((Value.agg (B9 (⟨0,0,0,0⟩:E4)).toArray).cells[·%(Value.agg (B9 (⟨0,0,0,0⟩:E4)).toArray).cells.size]!)) [(0,.agg (B9 x0).toArray)]=some (B9 x0).toArray:=by kernel_rfl
set_option maxHeartbeats 1000000 in
theorem R3 {ps:List Pt} {ts ss:List T3} (x:MX ps ts ss) {ms:List Int} (h:HC ts ms) (hnb:CN ps.length ts=true) (hp:ps.length<=1000000) (htl:ts.length<=1000000) (w:World) {S:Nat->Prop} (hx:Ro S w x) (hh:Ro S w h):Calls prog 77 #[(aG (Bk x)),(Value.map (some h.b))] w (Bb (DX ts ms) S w):=by
 have hel0:=Km ts
 have lx:=EA (W:=w) hx
 have lh:=EA (W:=w) hh
 refine BF (args:=[(aG (Bk x)),(Value.map (some h.b))]) (L:=[AZ x.a.p (rowsL Aj ps),AZ x.b.p (rowsL An ts),AZ x.c.p (rowsL An ss),NO h.b Dv vN h.kvs]) func77 O O (Ab O) (EB hx (EB hh BR)) (AF.subF (sL [0,1] O) (q4 (Bo (cs:=Bk x) O λb1=>AO O (q3 (sL [1,2,4] O) ?_))))
 refine AO O (AE.nilRow 110 4 (AE.nil (q1 (q4 (A6 1 C9 O ?_)))))
 refine cX (S:=S) (cs:=rowsL B9 (Bq ts)) (k:=(Bq ts).length) (args:=[(aG (Bk x))]) call13 (λw hw=>Ug x Z Z hnb w (DB hw 2 O lx)) O O O λo lo=>AI (v:=(vN ((Bq ts).length))) (AG O underlying37) O (AR O (AE.nil (AC.subF (sL [1,4,5,9,10,11] O) (AC.then_ ?_))))
 refine AF.block ?_
 refine AF.lp4 (tg λ(i:Nat) (p1:Option Addr) (c1:Nat) (out:List E4)=>i<=(Bq ts).length/\OwnOk p1 out.length c1/\out=KR ts h.kvs i) (tg λ(i:Nat) (p1:Option Addr) (c1:Nat) (out:List E4)=>[(1,(Value.map (some h.b))),(4,(Value.slice none 0 0)),(9,(Value.slice o.p ((Bq ts).length) o.c)),(10,(vN ((Bq ts).length))),(11,(vN i)),(5,(Value.slice p1 out.length c1))]) (tg λ(i:Nat) (p1:Option Addr) (c1:Nat) (out:List E4)=>[AZ o.p (rowsL B9 (Bq ts)),rowW p1 110 4 out.length c1 (rowsL B9 out),Af b1 31 (Bk x),AZ x.a.p (rowsL Aj ps),AZ x.b.p (rowsL An ts),AZ x.c.p (rowsL An ss),NO h.b Dv vN h.kvs]) (tg λ(i:Nat) (p1:Option Addr) (c1:Nat) (out:List E4)=>(Bq ts).length-i) 0 none 0 ([]:List E4) (⟨Nat.zero_le _,OwnOk.none,rfl⟩) (sF O) sr (λi p1 c1 out hJ=>?_)
 obtain ⟨hi,ho,hou⟩:=hJ
 have hol:=T8 (ts:=ts) (kvs:=h.kvs) i
 rw [<-hou] at hol
 refine q4 (AI (Am (c:=(decide (i<((Bq ts).length)))) O O (C6 (a:=i) (b:=(Bq ts).length))) O (AE.nil (q1 ?_)))
 refine AF.cond O (λhc0=>?_) (λhc0=>?_)
 ·replace hc0:=of_decide_eq_true hc0
  obtain ⟨ed,hed⟩:∃q,q=(Bq ts).getD i (⟨0,0,0,0⟩:E4):=⟨_,rfl⟩
  obtain ⟨hea,heb⟩:=IT hnb Z ed (by rw [hed,List.getD,List.getElem?_eq_getElem hc0];exact List.getElem_mem hc0)
  refine AF.skip (q1 (AF.block (q4 (AI (v:=(pP (pB o.p) (pO o.p+i*4))) (AQ (j:=i) O O o.ok underlying37 sizeOf110 O Z) O (AI (v:=(aG (B9 ((Bq ts).getD i (⟨0,0,0,0⟩:E4))))) (AW (vs:=B9 ((Bq ts).getD i (⟨0,0,0,0⟩:E4))) (i:=0) O O (BQ.ne o.ok Z) IC (Aw Cn _ _ _ Z) (Cn _)) O ?_)))))
  refine AE.retell (k:=14) (u:=(aG (B9 ed))) O (by rw [hed]) (al JK O λb2=>Aq O sizeOf110 O (q3 (sL [1,4,9,10,11,5,7] O) (AR O (AI (v:=(pP b2 0)) (AA O underlying110 O sizeOf3 O) O ?_))))
  refine BK 0 (vN ed.a) Bm O (AI (v:=(pP b2 1)) (AA O underlying110 O sizeOf3 O) O (BK 0 (vN ed.b) Bm O (AI (v:=(aG (Az (ed.a,ed.b)))) (Ao (zs:=Az ((0,0):P2)) (vs:=Az (ed.a,ed.b)) (pv:=[(0,(vN ed.a)),(1,(vN ed.b))]) zeroValue144 underlying144 sizeOf3 O (JZ ed.a ed.b)) O (AI (v:=(vN ((Ae h.kvs (ed.a,ed.b)).getD 0))) (P8 HX 7 (eV:=vN) (kvs:=h.kvs) (x:=(ed.a,ed.b)) (z0:=0) (co:=false) O O underlying142 zeroValue3 O (h.ok) (⟨by show ed.a<_;omega,by show ed.b<_;omega⟩)) O (AI (Cj (c:=(decide (0<((Ae h.kvs (ed.a,ed.b)).getD 0)))) O O (C6 (a:=0) (b:=(Ae h.kvs (ed.a,ed.b)).getD 0))) O ?_)))))
  refine AE.nil (AC.subF (sL [1,4,9,10,11,5,7,22] O) (AC.then_ ?_))
  refine AF.cond O (λhc1=>?_) (λhc1=>?_)
  ·replace hc1:=of_decide_eq_true hc1
   refine AF.region (AR O (A6 0 IC O (AE.openV (V:=λb3=>(Value.slice (some ⟨b3,0,none⟩) 1 1)) (T:=110) (cs:=B9 ed) (AM O) (Ap (z:=.agg (B9 (⟨0,0,0,0⟩:E4)).toArray) (cs:=B9 ed) (pv:=[(0,(aG (B9 ed)))]) underlying37 sizeOf110 zeroValue110 (by decide) (by decide) O (Jf ed)) O (Ab O) λb3=>AE.appendAt 3 (j:=0) (cs2:=rowsL B9 (out++[ed])) Xc O ho (Al Cn _) O O O O O (by decide) (Gt Z) Z (by rw [BN];rfl) O λp_1 c_1 ho_1 hne_1=>AO O ?_)))
   refine AE.nil (AC.subF (sL [1,4,9,10,11,5,7] O) (AC.in_normal (AC.then_ (AF.region (AI (AY (c:=((i+1:Nat):Int)) O O (AX (a:=i) (b:=1) Z)) O ?_)))))
   refine AR O (AE.nil (AC.subF (sL [1,4,9,10,11,5,7] O) ?_))
   rw [show out.length+1=(out++[ed]).length by simp]
   exact AC.round4 (i+1) p_1 c_1 (out++[ed]) (⟨Z,(by simpa using ho_1),by rw [hou,hed];exact (Ti hc0 (by rw [<-hed];exact h.gt.1 hc1)).symm⟩) Z (sF O) (sl (sl sr))
  ·replace hc1:=of_decide_eq_false hc1
   refine AF.skip (AC.in_normal (AC.then_ (AF.region (AI (AY (c:=((i+1:Nat):Int)) O O (AX (a:=i) (b:=1) Z)) O (AR O ?_)))))
   exact AE.nil (AC.subF (sL [1,4,9,10,11,5,7] O) (AC.round4 (i+1) p1 c1 out (⟨Z,ho,by rw [hou];exact (WY hc0 (by rw [<-hed];exact λk=>hc1 (h.gt.2 k))).symm⟩) Z (sF O) (sl sr)))
 ·replace hc0:=of_decide_eq_false hc0
  refine AF.exit (AC.then_exit (AC.round4_exit (AC.in_exit (q2 (AR O ?_)))))
  exact BW call128 (OV p1 out.length c1 ho.row.le) O (AO O (AE.nil (AC.subF (sL [1,4,9,10,11,5] O) (AC.then_ (AF.ret (AT O (Ak (v:=(Value.slice p1 out.length out.length)) O) (λw hw=>(ZU h hw 1 (by rw [show i=(Bq ts).length by omega] at hou;rw [<-hou];rfl) ho (by rw [hou,show i=(Bq ts).length by omega]) O))))))))
end
theorem Mg {P:Program} {f:FuncId} {fn:Func} {c:Code} {args:List Value} {w:World} {R:Ending->World->Prop} {n:Nat} {w0:BM} {L:List As}
    (hf:P.funcs[f]?=some fn) (hb:fn.body=some c) (hn:fn.ntmps=n) (hl:args.length<=n) (hW:Own w0 w L)
    (h:AF P c (bodyPost P fn R) n (Fl 0 args) w0 L):Calls P f args.toArray w R:=by
  refine calls_of_wp hf hb ?_
  rw [hn]
  exact h _ _ (HF hl _ λk v hk=>by simpa using (DH args 0 k v hk).2) hW
theorem AE.callT {P:Program} {ops:Array Oper} {rest:List Oper} {Q:Exit->Act->World->Prop} {n:Nat} {F:List (Nat×Value)} {w0:BM} {L L2:List As} {o:Oper} {f:FuncId} {args:List Value} {v:Value} {α:Type} {K:α->Prop} {LO:α->List As} (hw:Wt ops n F o)
    (he:∀a w,Frm n a F->Own w0 w L->(execOp a.eval o).run P w=.ok (.enter f args.toArray) w) (hp:L.Perm L2)
    (hc:∀w,Own w0 w L2->Calls P f args.toArray w λe w'=>e=.returned v/\∃a:α,K a/\Own w0 w' (LO a))
    (hd:∀d,o.dst=some d->d<n) (next:∀a,K a->AE P ops rest Q n (match o.dst with|some d=>(d,v)::F|none=>F) w0 (LO a)):AE P ops (o::rest) Q n F w0 L:=λa w ha hW=>by
  unfold wpList
  rw [if_pos (hw a ha)]
  left
  unfold Oper.wp
  rw [he a w ha hW,Oper.upon_enter]
  refine (hc w (hW.perm hp)).mono ?_
  rintro e w' ⟨rfl,x,hk,hW'⟩
  have next:=next x hk
  cases hdst:o.dst with
  | none=>rw [hdst] at next;exact next _ _ ha.put_none hW'
  | some d=>rw [hdst] at next;exact next _ _ (ha.put (hd d hdst)) hW'
theorem FU {α:Type}:∀l:List α,(l.map some).filterMap id=l
  | []=>rfl
  | x::r=>by show x::(r.map some).filterMap id=x::r;rw [FU r]
theorem OP {α:Type} {L L':List α} (idx:List Nat) (h1:idx.Perm (List.range L.length)) (h2:(idx.map λi=>L[i]?)=L'.map some):L.Perm L':=by
  have h3:((List.range L.length).map λi=>L[i]?)=L.map some:=by
    refine List.ext_getElem (by simp) λj a b=>?_
    simp at a
    simp [a]
  have h4:=(h1.map λi=>L[i]?)
  rw [h2,h3] at h4
  have h5:=h4.filterMap id
  rw [FU,FU] at h5
  exact h5.symm
def CB (md:List (P2×Nat)):Nat->T3->List T3
  | 0,c=>[c]
  | d+1,c=>match Ae md (Bh c) with
    | none=>[c]
    | some n=>CB md d (n,c.1,c.2.1)++CB md d (n,c.2.2,c.1)
theorem HA (md:List (P2×Nat)):∀d c,(CB md d c).length<=2^d
  | 0,c=>Nat.le_refl _
  | d+1,c=>by
    unfold CB
    split
    · exact Nat.one_le_two_pow
    · rename_i n _
      rw [List.length_append,Nat.pow_succ]
      have h1:=HA md d (n,c.1,c.2.1)
      have h2:=HA md d (n,c.2.2,c.1)
      omega
def ER (n p:Nat):List Nat:=List.replicate n p
theorem Vu (a b p:Nat):ER (a+b) p=ER a p++ER b p:=List.replicate_append_replicate.symm
theorem Ep {md:List (P2×Nat)} {d:Nat} {c:T3} (h:Ae md (Bh c)=none):CB md d c=[c]:=by
  cases d with
  | zero=>rfl
  | succ d=>show (match Ae md (Bh c) with|none=>_|some n=>_)=_;rw [h]
theorem E3 {md:List (P2×Nat)} {d n:Nat} {c:T3} (h:Ae md (Bh c)=some n):CB md (d+1) c=CB md d (n,c.1,c.2.1)++CB md d (n,c.2.2,c.1):=by
  show (match Ae md (Bh c) with|none=>_|some n=>_)=_;rw [h]
structure Yr where
  pa:Option Addr
  ca:Nat
  pp:Option Addr
  cp:Nat
structure Zu where
  b:Nat
  bm:Nat
  ba:Nat
  bp:Nat
  bf:Nat
end Go.Proofs.YtfbomiejpbchdaaGreat
