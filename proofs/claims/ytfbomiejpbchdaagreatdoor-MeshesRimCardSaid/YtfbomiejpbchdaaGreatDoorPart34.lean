import Derived.Test.YtfbomiejpbchdaaGreatDoorPart08
import Derived.Test.YtfbomiejpbchdaaGreatDoorPart15
import Derived.Test.YtfbomiejpbchdaaGreatDoorPart20
import Derived.Test.YtfbomiejpbchdaaGreatDoorPart21
import Derived.Test.YtfbomiejpbchdaaGreatDoorPart22
import Derived.Test.YtfbomiejpbchdaaGreatDoorPart27
import Derived.Test.YtfbomiejpbchdaaGreatDoorPart28
import Derived.Test.YtfbomiejpbchdaaGreatDoorPart29
import Derived.Test.YtfbomiejpbchdaaGreatDoorPart31
namespace Go.Proofs.YtfbomiejpbchdaaGreatDoor
open Go Go.RowKit Go.Proofs.Tryz
set_option linter.unusedVariables false
set_option linter.unusedSimpArgs false
def HQ (ps:List Pt) (t:T3):Rat:=Ag (CG ps t.1) (CG ps t.2.1) (CG ps t.2.2)*(1/2)
def CP (ps:List Pt) (ts:List T3):Nat->Rat
  | 0=>0
  | i+1=>CP ps ts i+HQ ps (ts.getD i (0,0,0))
theorem Nf {ps:List Pt} (hz:∀k,B8 (CG ps k)<=1000) (t:T3):Sz (HQ ps t)<=8009:=by
  have h1:=DM (CG ps t.1) (CG ps t.2.1) (CG ps t.2.2)
  have z1:=hz t.1
  have z2:=hz t.2.1
  have z3:=hz t.2.2
  have h2:=Ef (Ag (CG ps t.1) (CG ps t.2.1) (CG ps t.2.2)) (1/2)
  have h3:=Nx
  unfold HQ
  omega
theorem KZ {ps:List Pt} (hz:∀k,B8 (CG ps k)<=1000) (ts:List T3):∀i,Sz (CP ps ts i)<=2+i*8010
  | 0=>by show Sz (0:Rat)<=2+0*8010;decide +kernel
  | i+1=>by
    have h:=KZ hz ts i
    have h1:=Nf hz (ts.getD i (0,0,0))
    have h4:=GY (CP ps ts i) (HQ ps (ts.getD i (0,0,0)))
    show Sz (CP ps ts i+HQ ps (ts.getD i (0,0,0)))<=_
    omega
def Db:List Rat->Rat
  | []=>0
  | x::r=>x+Db r
theorem Iy (a b:List Rat):Db (a++b)=Db a+Db b:=by
  induction a with
  | nil=>simp only [List.nil_append,Db];grind
  | cons x r ih=>simp only [List.cons_append,Db,ih];grind
theorem MK (ps:List Pt) (ts:List T3):∀i,i<=ts.length->CP ps ts i=Db ((ts.take i).map (HQ ps))
  | 0,_=>by simp [CP,Db]
  | i+1,h=>by
    rw [DS (d:=(0,0,0)) (show i<ts.length by omega),List.map_append,Iy,<-MK ps ts i Z]
    simp only [CP,List.map_cons,List.map_nil,Db]
    grind
theorem Pc (ps:List Pt) (ts:List T3):CP ps ts ts.length=Db (ts.map (HQ ps)):=by rw [MK _ _ _ (Nat.le_refl _),List.take_length]
theorem Jt {α:Type} (f:α->Rat) (g:α->List Rat):∀l:List α,(∀x∈l,Db (g x)=f x)->Db (l.flatMap g)=Db (l.map f)
  | [],_=>rfl
  | x::r,h=>by
    rw [List.flatMap_cons,Iy,List.map_cons,Db,h x List.mem_cons_self,Jt f g r λy hy=>h y (List.mem_cons_of_mem _ hy)]
section
set_option maxRecDepth 100000
theorem Lw {ps:List Pt} {ts ss:List T3} (x:MX ps ts ss) (hl:ts.length<=8192) (hz:∀k,B8 (CG ps k)<=1000) (hnb:By ps.length ts=true) (w:World) {S:Nat->Prop} (hx:Ro S w x):Calls prog 19 #[(aG (C5 x))] w (Am w (aG (AI (CP ps ts ts.length)))):=by
 have lx:=Er (W:=w) hx
 refine BI (args:=[(aG (C5 x))]) (L:=[Ai x.a.p (rowsL Aj ps),Ai x.b.p (rowsL Av ts),Ai x.c.p (rowsL Av ss)]) func19 O O (Ab O) (En hx BW) (AF.subF (sL [0] O) (q4 (Bq (cs:=C5 x) O λb1=>al Dc O λb2=>q3 (sL [1,2] O) ?_)))
 refine al Dc O λb3=>AE.nil (q1 (q4 (BD 2 EO O (ET (args:=[(aG (C5 x))]) (v:=(Value.bool true)) call48 (λw hw=>(by have h9:=N5 x Z w (ER hw 3 O lx);rw [hnb] at h9;exact h9)) O ?_))))
 refine AG (Ba (c:=false) O O) O (AE.nil (AD.subF (sL [1,2,3,7] O) (AD.then_ (AF.cond_false O (AF.skip ?_)))))
 refine q1 (q4 (AG (v:=(pP b1 1)) (AA O underlying30 O sizeOf23 O) O (BO 2 (Value.slice x.b.p ts.length x.b.c) Dn O (AG (v:=(vN ts.length)) (AH O underlying23) O (AO O ?_)))))
 refine AE.nil (AD.subF (sL [1,2,3,11,12] O) (AD.then_ (AF.block ?_)))
 refine AF.lp1 (tg λ(i:Nat)=>i<=ts.length) (tg λ(i:Nat)=>[(1,(pP b1 0)),(2,(pP b2 0)),(3,(pP b3 0)),(11,(vN ts.length)),(12,(vN i))]) (tg λ(i:Nat)=>[Ae b3 61 (AI (CP ps ts i)),Ae b2 61 (AI (0:Rat)),Ae b1 30 (C5 x),Ai x.a.p (rowsL Aj ps),Ai x.b.p (rowsL Av ts),Ai x.c.p (rowsL Av ss)]) (tg λ(i:Nat)=>ts.length-i) 0 (Nat.zero_le _) (sF O) sr (λi hJ=>?_)
 have hi:=hJ
 refine q4 (AG (Af (c:=(decide (i<ts.length))) O O (C6 (a:=i) (b:=ts.length))) O (AE.nil (q1 ?_)))
 refine AF.cond O (λhc1=>?_) (λhc1=>?_)
 ·replace hc1:=of_decide_eq_true hc1
  have hi2:=hc1
  have ha:=KZ hz ts i
  have hb:=Nf hz (ts.getD i (0,0,0))
  have z0:=hz (ts.getD i (0,0,0)).1
  have z1:=hz (ts.getD i (0,0,0)).2.1
  have z2:=hz (ts.getD i (0,0,0)).2.2
  refine AF.skip (q1 (AF.block (q4 (AO O (AK O ?_)))))
  refine AE.nil (AD.subF (sL [1,2,3,11,12,4] O) (AD.then_ (rC [(0,true),(1,true),(2,true),(3,false),(4,true),(5,true),(6,true),(7,false),(8,false)] 9 [] sr (sl sr) (by kernel_rfl) (λ_ _ d _ _ h=>by cases d<;>exact h) (vE (v:=(aG (AI (CP ps ts i)))) O (Al (i:=0) (vs:=AI (CP ps ts i)) O O Bh.a Bh.s O O) O (vE (v:=(aG (C5 x))) O (Al (i:=2) (vs:=C5 x) O O EO.a EO.s O O) O ?_)))))
  refine vM O O O (CK.imp O (ET call23 (λw hw=>NT x i hi2 (Cb hnb hi2) w (ER hw 3 O lx)) O (CK.back sr (vE O (AZ (v:=(aG (Aj (CG ps (ts.getD i (0,0,0)).1)))) O O) O (vE O (AZ (v:=(aG (Aj (CG ps (ts.getD i (0,0,0)).2.1)))) O O) O ?_)))))
  refine vE O (AZ (v:=(aG (Aj (CG ps (ts.getD i (0,0,0)).2.2)))) O O) O (CK.imp O ?_)
  have hz1:=DM (CG ps (ts.getD i (0,0,0)).1) (CG ps (ts.getD i (0,0,0)).2.1) (CG ps (ts.getD i (0,0,0)).2.2)
  have hz2:=Ef (Ag (CG ps (ts.getD i (0,0,0)).1) (CG ps (ts.getD i (0,0,0)).2.1) (CG ps (ts.getD i (0,0,0)).2.2)) (1/2)
  refine BV call25 (Sj (CG ps (ts.getD i (0,0,0)).1) (CG ps (ts.getD i (0,0,0)).2.1) (CG ps (ts.getD i (0,0,0)).2.2) Z) O (CK.back sr (CK.imp O (BV call17 (G2 (CP ps ts i) (HQ ps (ts.getD i (0,0,0))) Z) O (CK.back sr (CK.cut O ?_)))))
  refine Au O sizeOf61 O (AS.back (sl sr) (AS.nil (AD.subF (sL [1,2,3,11,12] O) (AD.in_normal (AD.then_ ?_)))))
  exact AF.region (AG (AX (c:=((i+1:Nat):Int)) O O (AY (a:=i) (b:=1) Z)) O (AO O (AE.nil (AD.subF (sL [1,2,3,11,12] O) (AD.round1 (i+1) Z Z (sF O) sr)))))
 ·replace hc1:=of_decide_eq_false hc1
  have hie:i=ts.length:=by omega
  refine AF.exit (AD.then_exit (AD.round1_exit (AD.in_exit (q2 (BD 0 Bh O ?_)))))
  exact C3 O sizeOf61 O (AE.nil (AD.subF (sL [1,2,3,11,12] O) (AD.then_ (AF.ret (AP O (A8 (i:=1) (cs:=AI (CP ps ts i)) O O isAgg61 sizeOf61 O) (λw hw=>⟨by rw [hie],hw.out⟩))))))
end
section
section
variable {ts:List T3} {ps:List Pt} {p:Int} {i:Nat}
theorem L_ {α:Type} (f g:α->Rat):∀l:List α,Db (l.map λx=>f x+g x)=Db (l.map f)+Db (l.map g)
  | []=>by simp only [List.map_nil,Db];grind
  | x::r=>by simp only [List.map_cons,Db,L_ f g r];grind
end
end
section
def dt (a b:Pt):Rat:=a.x*b.y-a.y*b.x
section
variable {p q r s u w:Pt}
end
section
variable {a b c d e f u:Pt}
def WA (u:Pt) (k:Rat) (a b c d e f:Pt):Prop:=(k<=dt u a/\k<=dt u b/\k<=dt u c)/\dt u d<=k/\dt u e<=k/\dt u f<=k
end
end
section
abbrev M3:=List Pt×List T3×List T3
def V4 (M:M3):Prop:=M.1.length+(BC M.2.1).length<=4096/\4*M.2.1.length<=8192
instance (M:M3):Decidable (V4 M):=inferInstanceAs (Decidable (_/\_))
theorem Uh (ts:List T3):(BC ts).length<=3*ts.length:=by rw [IK];exact IE _
structure Wm (ps:List Pt) (ts ss:List T3) (e:Nat) where
  m:MX ps ts ss
instance {ps:List Pt} {ts ss:List T3} {e:Nat}:Dy (Wm ps ts ss e):=⟨λx=>.tuple #[aG (C5 x.m),vN e],λx=>Dy.rows x.m,λx y hy=>Dy.ro x.m y hy⟩
section
variable {P:Program} {ops:Array Oper} {rest:List Oper} {Q:Exit->Act->World->Prop} {n d:Nat} {F:List (Nat×Value)} {w0:BL} {S:Nat->Prop} {L:List As} {t:TypeId} {p:String} {af:Array Edge} {y:Operand} {f:FuncId} {xs:List Operand} {args:List Value} {tys:Array TypeId} {ps:List Pt} {ts ss:List T3} {e:Nat}
end
def WB (ts:List T3):List Value:=vI (-1)::vN 0::vN 1::rowsL Av ts
structure MB (ps:List Pt) (ts ss:List T3) where
  a:RX (rowsL Aj ps) ps.length
  b:RX (WB ts) (1+ts.length)
  c:RX (rowsL Av ss) ss.length
def WZ {ps:List Pt} {ts ss:List T3} (x:MB ps ts ss):List Value:=[x.a.val,x.b.val,x.c.val]
theorem VW {ps:List Pt} {ts ss:List T3} {x:MB ps ts ss} {y:As} (hy:y∈[x.a.row,x.b.row,x.c.row]):y.ro=true:=by
  simp only [List.mem_cons,List.not_mem_nil,or_false] at hy
  rcases hy with rfl|rfl|rfl<;>rfl
instance {ps:List Pt} {ts ss:List T3}:Dy (MB ps ts ss):=⟨λx=>aG (WZ x),λx=>[x.a.row,x.b.row,x.c.row],λx y hy=>VW hy⟩
end
section
def VO {α β:Type} (b:Nat) (enc:α->Value) (eV:β->Value) (kvs:List (α×β)):As:=⟨some b,λo=>o=.map (entsM enc eV kvs 0).toArray kvs.length,true⟩
section
variable {α β:Type} [DecidableEq α] {enc:α->Value} {eV:β->Value} {ok:α->Prop} {P:Program} {kt:TypeId} {n:Nat} {F:List (Nat×Value)} {w0:BL} {L:List As} {d:Option Tmp} {tx et t b:Nat} {pp:String} {af:Array Edge} {g:Option (Nat×Bool)} {mp kp:Operand}
end
def MI (t:T3):P2:=Cc t.2.1 t.2.2
def R6 (ts:List T3) (ms:List Int) (k:P2):Prop:=∃z∈ms,0<=z/\z<(ts.length:Int)/\k=MI (ts.getD z.toNat (0,0,0))
inductive LY (ts:List T3) (S:P2->Prop):P2->Prop
  | start {k:P2}:S k->LY ts S k
  | up {t:T3} {k:P2}:t∈ts->LY ts S k->(k=Cc t.1 t.2.1\/k=Cc t.2.2 t.1)->LY ts S (MI t)
theorem LY.mono {ts:List T3} {S S':P2->Prop} (h:∀k,S k->S' k) {k:P2} (c:LY ts S k):LY ts S' k:=by
  induction c with
  | start hs=>exact .start (h _ hs)
  | up ht _ he ih=>exact .up ht ih he
theorem LY.or {ts:List T3} {S S':P2->Prop} {k:P2} (c:LY ts (λk=>S k\/S' k) k):LY ts S k\/LY ts S' k:=by
  induction c with
  | start hs=>exact hs.elim (λh=>.inl (.start h)) (λh=>.inr (.start h))
  | up ht _ he ih=>exact ih.elim (λh=>.inl (.up ht h he)) (λh=>.inr (.up ht h he))
structure H7 (ts:List T3) (ms:List Int) (i:Nat) (kvs:List (P2×Nat)):Prop where
  ok:Jm N9 kvs
  one:∀k,BG kvs k=none\/BG kvs k=some 1
  sub:∀k,BG kvs k=some 1->LY ts (R6 ts ms) k
  mrk:∀k,R6 ts (ms.take i) k->BG kvs k=some 1
section
variable {ts:List T3} {ms:List Int} {i:Nat} {kvs:List (P2×Nat)}
theorem H7.zero (ts:List T3) (ms:List Int):H7 ts ms 0 []:=⟨⟨λp hp=>(by cases hp),List.Pairwise.nil⟩,λk=>.inl rfl,λk h=>(by cases h),λk ⟨z,hz,_⟩=>by rw [List.take_zero] at hz;cases hz⟩
theorem H7.put (h:H7 ts ms i kvs) {k:P2} (hk:N9 k) (hc:LY ts (R6 ts ms) k):H7 ts ms i (Be kvs k 1):=⟨h.ok.put hk,λx=>by
    rw [C_];split
    · exact .inr O
    · exact h.one x,λx hx=>by
    rw [C_] at hx;split at hx
    · rename_i e;rw [e];exact hc
    · exact h.sub x hx,λx hx=>by
    rw [C_];split
    · rfl
    · exact h.mrk x hx⟩
theorem NR {l:List Int} {j:Nat} (h:j<l.length):l.take (j+1)=l.take j++[l.getD j 0]:=by
  rw [List.take_add_one,List.getD,List.getElem?_eq_getElem h];rfl
theorem H7.skip (h:H7 ts ms i kvs) (hi:i<ms.length) (hn:¬(0<=ms.getD i 0/\ms.getD i 0<(ts.length:Int))):H7 ts ms (i+1) kvs:=by
  refine ⟨h.ok,h.one,h.sub,λx hx=>?_⟩
  rw [NR hi] at hx
  obtain ⟨z,hz,a,b,rfl⟩:=hx
  rcases List.mem_append.1 hz with hz|hz
  · exact h.mrk _ ⟨z,hz,a,b,rfl⟩
  · exact absurd (by rw [<-List.mem_singleton.1 hz];exact ⟨a,b⟩) hn
def Vn (ts:List T3) (kvs:List (P2×Nat)) (j:Nat):Prop:=∀q,q<j->BG kvs (MI (ts.getD q (0,0,0)))=none->BG kvs (Cc (ts.getD q (0,0,0)).1 (ts.getD q (0,0,0)).2.1)=none/\BG kvs (Cc (ts.getD q (0,0,0)).2.2 (ts.getD q (0,0,0)).1)=none
theorem H7.no (h:H7 ts ms i kvs) {k:P2} (e:(BG kvs k).getD 0=0):BG kvs k=none:=(h.one k).elim id λh1=>by rw [h1] at e;cases e
theorem H7.all (h:H7 ts ms ms.length kvs) (hc:Vn ts kvs ts.length) (k:P2):BG kvs k=some 1↔LY ts (R6 ts ms) k:=by
  refine ⟨h.sub k,λc=>?_⟩
  induction c with
  | start hs=>exact h.mrk _ (by rw [List.take_length];exact hs)
  | up ht _ he ih =>
    rename_i t k' _
    obtain ⟨q,hq,rfl⟩:=List.getElem_of_mem ht
    rcases h.one (MI ts[q]) with h1|h1
    · have h2:=hc q hq (by rw [List.getD,List.getElem?_eq_getElem hq];exact h1)
      rw [List.getD,List.getElem?_eq_getElem hq] at h2
      rcases he with e|e
      · rw [e] at ih;rw [show BG kvs (Cc ts[q].1 ts[q].2.1)=none from h2.1] at ih;cases ih
      · rw [e] at ih;rw [show BG kvs (Cc ts[q].2.2 ts[q].1)=none from h2.2] at ih;cases ih
    · exact h1
end
structure HC (ts:List T3) (ms:List Int) where
  b:Nat
  kvs:List (P2×Nat)
  ok:Jm N9 kvs
  one:∀k,BG kvs k=none\/BG kvs k=some 1
  all:∀k,BG kvs k=some 1↔LY ts (R6 ts ms) k
instance {ts:List T3} {ms:List Int}:Dy (HC ts ms):=⟨λx=>.map (some x.b),λx=>[VO x.b IA vN x.kvs],λx y hy=>by rcases List.mem_singleton.1 hy with rfl;rfl⟩
structure DX (ts:List T3) (ms:List Int) where
  l:List E4
  r:RX (rowsL B9 l) l.length
  p:E4->Bool
  el:l=(BC ts).filter p
  all:∀e,p e=true↔LY ts (R6 ts ms) (e.a,e.b)
instance {ts:List T3} {ms:List Int}:Dy (DX ts ms):=⟨λx=>x.r.val,λx=>[x.r.row],λx y hy=>by rcases List.mem_singleton.1 hy with rfl;rfl⟩
end
section
def Kx (ts:List T3):Nat->List (P2×Nat)
  | 0=>[]
  | s+1=>Be (Kx ts s) (BS ts s) (s/3)
def GV (ts:List T3):Nat->Bool
  | 0=>true
  | s+1=>GV ts s&&(BG (Kx ts s) (BS ts s)).isNone
section
variable {ts:List T3} {N t r s:Nat}
theorem Nh:∀n,s<=n->GV ts n=true->GV ts s=true
  | 0,h,k=>by rw [show s=0 by omega];rfl
  | n+1,h,k=>by
    have k:(GV ts n&&_)=true:=k
    rcases Nat.lt_or_ge s (n+1) with h1|h1
    · exact Nh n Z (Bool.and_eq_true _ _▸k).1
    · rw [show s=n+1 by omega];exact k
end
structure SX (ts:List T3) (o:Bool) where
  b:Nat
  kvs:List (P2×Nat)
  ok:Jm N9 kvs
  fin:o=true->kvs=Kx ts (3*ts.length)
instance {ts:List T3} {o:Bool}:Dy (SX ts o):=⟨λx=>.tuple #[.map (some x.b),.bool o],λx=>[VO x.b IA vN x.kvs],λx y hy=>by rcases List.mem_singleton.1 hy with rfl;rfl⟩
end
section
section
variable {P:Program} {Q:Exit->Act->World->Prop} {n:Nat} {F:List (Nat×Value)} {w0:BL} {L:List As} {c x y:Code}
end
end
section
abbrev R7 (ts:List T3):List (P2×Nat):=Kx ts (3*ts.length)
def M2 (k:P2):P2:=(k.2,k.1)
def WY (t:T3) (k:P2):Nat:=t.1+t.2.1+t.2.2-k.1-k.2
def K9 (ts:List T3) (k:P2):P2:=(k.2,WY (ts.getD ((BG (R7 ts) k).getD 0) (0,0,0)) k)
def isS (ts:List T3) (k:P2):Prop:=(BG (R7 ts) k).isSome=true
def R3 (ts:List T3) (k:P2):Prop:=isS ts k/\¬isS ts (M2 k)
def Ml (ts:List T3):Nat->P2->Option P2
  | 0,_=>none
  | f+1,k=>if (BG (R7 ts) (M2 (K9 ts k))).isSome then Ml ts f (M2 (K9 ts k)) else some (K9 ts k)
def PH (ts:List T3) (k:P2):P2:=(Ml ts (3*ts.length) k).getD (0,0)
section
variable {ts:List T3} {N:Nat} {k k0:P2} {i:Nat}
theorem HT {n:Nat}:∀s,BG (Kx ts s) k=some n->∃u,u<s/\BS ts u=k/\n=u/3
  | 0,h=>by cases h
  | s+1,h=>by
    have h:BG (Be (Kx ts s) (BS ts s) (s/3)) k=some n:=h
    rw [C_] at h
    split at h
    · rename_i e
      injection h with h
      exact ⟨s,Z,e.symm,h.symm⟩
    · obtain ⟨u,h1,h2,h3⟩:=HT s h
      exact ⟨u,Z,h2,h3⟩
theorem Gz {u:Nat}:∀s,u<s->(BG (Kx ts s) (BS ts u)).isSome=true
  | 0,h=>absurd h (Nat.not_lt_zero _)
  | s+1,h=>by
    show (BG (Be (Kx ts s) (BS ts s) (s/3)) (BS ts u)).isSome=true
    rw [C_]
    split
    · rfl
    · rename_i e
      rcases Nat.lt_or_ge u s with h1|h1
      · exact Gz s h1
      · exact absurd (by rw [show u=s by omega]) e
theorem KJ {u v n:Nat} (ho:GV ts n=true) (hu:u<n) (hv:v<n) (h:BS ts u=BS ts v):u=v:=by
  have key:∀{u v:Nat},u<v->v<n->BS ts u=BS ts v->False:=λ{u v} h1 h2 h=>by
    have h3:=Nh (s:=v+1) _ Z ho
    have h3:(GV ts v&&(BG (Kx ts v) (BS ts v)).isNone)=true:=h3
    rw [Bool.and_eq_true] at h3
    have h4:=Gz (ts:=ts) v h1
    rw [h] at h4
    rw [<-Option.not_isSome,h4] at h3
    exact absurd h3.2 (by decide)
  rcases Nat.lt_trichotomy u v with h1|h1|h1
  · exact (key h1 hv h).elim
  · exact h1
  · exact (key h1 hu h.symm).elim
theorem Qg {u:Nat} (ho:GV ts (3*ts.length)=true) (hu:u<3*ts.length):BG (R7 ts) (BS ts u)=some (u/3):=by
  obtain ⟨n,h⟩:=Option.isSome_iff_exists.1 (Gz (ts:=ts) _ hu)
  obtain ⟨v,h1,h2,h3⟩:=HT _ h
  have e:=KJ ho hu h1 h2.symm
  rw [show BG (R7 ts) (BS ts u)=some n from h,h3,e]
theorem F1:isS ts k↔∃u,u<3*ts.length/\BS ts u=k:=by
  constructor
  · intro h
    obtain ⟨n,h⟩:=Option.isSome_iff_exists.1 h
    obtain ⟨u,h1,h2,_⟩:=HT _ h
    exact ⟨u,h1,h2⟩
  · rintro ⟨u,h1,rfl⟩
    exact Gz _ h1
def R4 (u:Nat):Nat:=3*(u/3)+(u%3+1)%3
theorem S_ {u v:Nat} (h:R4 u=R4 v):u=v:=by unfold R4 at h;omega
theorem NU {u:Nat} (h:u<3*ts.length):R4 u<3*ts.length:=by unfold R4;omega
theorem Kj (ho:GV ts (3*ts.length)=true) {u:Nat} (hu:u<3*ts.length):K9 ts (BS ts u)=BS ts (R4 u):=by
  unfold K9
  rw [Qg ho hu,Option.getD_some]
  have hd:(R4 u)/3=u/3:=by unfold R4;omega
  have hm:(R4 u)%3=(u%3+1)%3:=by unfold R4;omega
  unfold WY BS
  rw [hd,hm]
  generalize ts.getD (u/3) (0,0,0)=t
  have e:u%3=0\/u%3=1\/u%3=2:=by omega
  rcases e with e|e|e<;>rw [e]<;>refine Prod.ext rfl ?_
  · show t.1+t.2.1+t.2.2-t.1-t.2.1=t.2.2;omega
  · show t.1+t.2.1+t.2.2-t.2.1-t.2.2=t.1;omega
  · show t.1+t.2.1+t.2.2-t.2.2-t.1=t.2.1;omega
theorem Qs (ho:GV ts (3*ts.length)=true) (h:isS ts k):isS ts (K9 ts k):=by
  obtain ⟨u,hu,rfl⟩:=F1.1 h
  rw [Kj ho hu]
  exact F1.2 ⟨_,NU hu,rfl⟩
theorem S2 (ho:GV ts (3*ts.length)=true) {k':P2} (h:isS ts k) (h':isS ts k') (e:K9 ts k=K9 ts k'):k=k':=by
  obtain ⟨u,hu,rfl⟩:=F1.1 h
  obtain ⟨v,hv,rfl⟩:=F1.1 h'
  rw [Kj ho hu,Kj ho hv] at e
  rw [S_ (KJ ho (NU hu) (NU hv) e)]
theorem LR (k:P2):M2 (M2 k)=k:=rfl
theorem Sv {a b:P2} (h:M2 a=M2 b):a=b:=by rw [<-LR a,h,LR]
theorem J8 {α:Type} [DecidableEq α] {l m:List α} (hn:l.Nodup) (hs:∀x∈l,x∈m):l.length<=m.length:=by
  induction l generalizing m with
  | nil=>exact Nat.zero_le _
  | cons x r ih =>
    have hx:=hs x List.mem_cons_self
    have hn2:=List.nodup_cons.1 hn
    have h:=ih (m:=m.erase x) hn2.2 λy hy=>by
      have:y≠x:=λe=>hn2.1 (e▸hy)
      exact (List.mem_erase_of_ne this).2 (hs y (List.mem_cons_of_mem _ hy))
    rw [List.length_erase_of_mem hx] at h
    have:=List.length_pos_of_mem hx
    simp only [List.length_cons];omega
def Py (ts:List T3):List P2:=(List.range (3*ts.length)).map (BS ts)
theorem MT (h:isS ts k):k∈Py ts:=by
  obtain ⟨u,hu,rfl⟩:=F1.1 h
  exact List.mem_map.2 ⟨u,List.mem_range.2 hu,rfl⟩
theorem Lr:(Py ts).length=3*ts.length:=by simp [Py]
structure GJ (ts:List T3) (k0:P2) (i:Nat) (k:P2):Prop where
  chain:∃s:Nat->P2,s 0=k0/\s i=k/\(∀j,j<=i->isS ts (s j))/\∀j,j<i->s (j+1)=M2 (K9 ts (s j))
theorem GJ.zero (h:isS ts k0):GJ ts k0 0 k0:=⟨λ_=>k0,rfl,rfl,λ_ _=>h,λ_ h=>absurd h (Nat.not_lt_zero _)⟩
theorem GJ.isS (h:GJ ts k0 i k):isS ts k:=by
  obtain ⟨s,_,h2,h3,_⟩:=h.chain
  rw [<-h2];exact h3 i (Nat.le_refl _)
theorem GJ.succ (h:GJ ts k0 i k) (hs:(BG (R7 ts) (M2 (K9 ts k))).isSome=true):GJ ts k0 (i+1) (M2 (K9 ts k)):=by
  obtain ⟨s,h1,h2,h3,h4⟩:=h.chain
  refine ⟨λj=>if j<=i then s j else M2 (K9 ts k),by simp [h1],if_neg Z,λj hj=>?_,λj hj=>?_⟩
  · show Go.Proofs.YtfbomiejpbchdaaGreatDoor.isS ts (if j<=i then s j else _)
    split
    · exact h3 j ‹_›
    · exact hs
  · show (if j+1<=i then s (j+1) else _)=M2 (K9 ts (if j<=i then s j else _))
    rw [if_pos (show j<=i by omega)]
    split
    · exact h4 j Z
    · rw [show j=i by omega,h2]
theorem GJ.lt (ho:GV ts (3*ts.length)=true) (h0:R3 ts k0) (h:GJ ts k0 i k):i<3*ts.length:=by
  obtain ⟨s,h1,h2,h3,h4⟩:=h.chain
  have ne:∀d a,a+d+1<=i->s a≠s (a+d+1):=λd a=>by
    induction a with
    | zero =>
      intro hd e
      rw [h1,h4 (0+d) Z] at e
      refine h0.2 ?_
      rw [e,LR]
      exact Qs ho (h3 _ Z)
    | succ a ih =>
      intro hd e
      rw [h4 a Z,show a+1+d+1=(a+d+1)+1 by omega,h4 (a+d+1) Z] at e
      exact ih Z (S2 ho (h3 _ Z) (h3 _ Z) (Sv e))
  have hnd:((List.range (i+1)).map s).Nodup:=by
    refine List.pairwise_map.2 (List.Pairwise.imp_of_mem ?_ List.pairwise_lt_range)
    intro a b ha hb hab
    have:=ne (b-a-1) a (by have:=List.mem_range.1 hb;omega)
    rw [show a+(b-a-1)+1=b by omega] at this
    exact this
  have h5:=J8 (m:=Py ts) hnd λx hx=>by
    obtain ⟨j,hj,rfl⟩:=List.mem_map.1 hx
    exact MT (h3 j (by have:=List.mem_range.1 hj;omega))
  rw [Lr,List.length_map,List.length_range] at h5
  omega
theorem GJ.fuel (h:GJ ts k0 i k) (f:Nat):Ml ts (f+i) k0=Ml ts f k:=by
  obtain ⟨s,h1,h2,h3,h4⟩:=h.chain
  subst h1 h2
  have key:∀j,j<=i->Ml ts (f+i) (s 0)=Ml ts (f+(i-j)) (s j):=λj=>by
    induction j with
    | zero=>intro _;rfl
    | succ j ih =>
      intro hj
      rw [ih Z,show f+(i-j)=(f+(i-(j+1)))+1 by omega]
      have h5:(BG (R7 ts) (M2 (K9 ts (s j)))).isSome=true:=by rw [<-h4 j Z];exact h3 (j+1) hj
      show (if _ then _ else _)=_
      rw [if_pos h5,<-h4 j Z]
  have:=key i (Nat.le_refl _)
  rwa [Nat.sub_self,Nat.add_zero] at this
theorem GJ.stop (ho:GV ts (3*ts.length)=true) (h0:R3 ts k0) (h:GJ ts k0 i k) (hs:¬(BG (R7 ts) (M2 (K9 ts k))).isSome=true):PH ts k0=K9 ts k/\R3 ts (K9 ts k):=by
  have hlt:=h.lt ho h0
  have h1:=h.fuel (3*ts.length-i)
  rw [show 3*ts.length-i+i=3*ts.length by omega,show 3*ts.length-i=(3*ts.length-i-1)+1 by omega] at h1
  have h2:Ml ts (3*ts.length-i-1+1) k=some (K9 ts k):=by
    show (if _ then _ else _)=_
    rw [if_neg hs]
  refine ⟨?_,Qs ho h.isS,hs⟩
  unfold PH
  rw [h1,h2];rfl
theorem SV (ho:GV ts (3*ts.length)=true) (h0:R3 ts k0):R3 ts (PH ts k0):=by
  have key:∀d i k,3*ts.length-i=d->GJ ts k0 i k->R3 ts (PH ts k0):=λd=>by
    induction d with
    | zero=>intro i k hd h;have:=h.lt ho h0;omega
    | succ d ih =>
      intro i k hd h
      by_cases hs:(BG (R7 ts) (M2 (K9 ts k))).isSome=true
      · exact ih _ _ Z (h.succ hs)
      · have h1:=h.stop ho h0 hs
        rw [h1.1];exact h1.2
  exact key _ 0 k0 O (GJ.zero h0.1)
end
def VR (ts:List T3):Nat->List (P2×Nat)->P2->List Nat->Option (List (P2×Nat)×List Nat)
  | 0,_,_,_=>none
  | f+1,dn,k,l=>if (BG dn k).getD 0=0 then VR ts f (Be dn k 1) (PH ts k) (l++[k.1]) else some (dn,l)
def WV (ts:List T3) (dn:List (P2×Nat)) (k:P2):List (P2×Nat)×List Nat:=(VR ts (3*ts.length+1) dn k []).getD ([],[])
structure Pi (ts:List T3) (dn:List (P2×Nat)):Prop where
  ok:Jm N9 dn
  bd:∀k n,BG dn k=some n->R3 ts k/\n=1
section
variable {ts:List T3} {N:Nat} {k k0:P2} {i:Nat} {dn dn0:List (P2×Nat)} {l:List Nat}
theorem Pi.nil:Pi ts []:=⟨Jm.nil,λk n h=>by cases h⟩
theorem Pi.len (h:Pi ts dn):dn.length<=3*ts.length:=by
  have h1:(dn.map (·.1)).Nodup:=List.pairwise_map.2 (h.ok.once.imp λ{a b} h e=>h e)
  have h2:=J8 (m:=Py ts) h1 λx hx=>by
    obtain ⟨p,hp,rfl⟩:=List.mem_map.1 hx
    obtain ⟨j,hj,h3⟩:=List.getElem_of_mem hp
    exact MT (h.bd _ _ (IB (x:=p.1) (v:=p.2) h.ok.once (by rw [List.getElem?_eq_getElem hj,h3]))).1.1
  rwa [Lr,List.length_map] at h2
theorem Pi.put (h:Pi ts dn) (hk:R3 ts k) (hok:N9 k):Pi ts (Be dn k 1):=⟨h.ok.put hok,λx n hx=>by
  rw [C_] at hx
  split at hx
  · rename_i e
    injection hx with hx
    rw [e];exact ⟨hk,hx.symm⟩
  · exact h.bd _ _ hx⟩
theorem Pi.zero (h:Pi ts dn) (e:(BG dn k).getD 0=0):BG dn k=none:=by
  cases hg:BG dn k with
  | none=>rfl
  | some n=>rw [hg,(h.bd _ _ hg).2] at e;cases e
theorem NH {α β:Type} [DecidableEq α] {kvs:List (α×β)} {x:α} {y:β} (h:BG kvs x=none):(Be kvs x y).length=kvs.length+1:=by
  induction kvs with
  | nil=>rfl
  | cons p r ih =>
    obtain ⟨k,v⟩:=p
    unfold BG at h
    split at h
    · cases h
    · rename_i e
      unfold Be
      rw [if_neg e,List.length_cons,ih h];rfl
theorem UV (hn:By N ts=true) (hN:N<=4611686018427387904) (h:isS ts k):N9 k:=by
  obtain ⟨u,hu,rfl⟩:=F1.1 h
  have:=Kr hn hu
  exact ⟨Z,Z⟩
structure QV (ts:List T3) (dn0:List (P2×Nat)) (k0:P2) (i:Nat) (dn:List (P2×Nat)) (k:P2) (l:List Nat):Prop where
  fuel:∀f,VR ts (f+i) dn0 k0 []=VR ts f dn k l
  bd:R3 ts k
  di:Pi ts dn
  len:dn.length=dn0.length+i
  ll:l.length=i
  at0:i=0->dn=dn0/\k=k0
theorem QV.zero (h:Pi ts dn0) (hb:R3 ts k0):QV ts dn0 k0 0 dn0 k0 []:=⟨λ_=>rfl,hb,h,rfl,rfl,λ_=>⟨rfl,rfl⟩⟩
theorem QV.succ (hn:By N ts=true) (hN:N<=4611686018427387904) (ho:GV ts (3*ts.length)=true) (h:QV ts dn0 k0 i dn k l) (e:(BG dn k).getD 0=0):QV ts dn0 k0 (i+1) (Be dn k 1) (PH ts k) (l++[k.1]) :=
  ⟨λf=>by
    rw [show f+(i+1)=f+1+i by omega,h.fuel (f+1)]
    show (if _ then _ else _)=_
    rw [if_pos e],SV ho h.bd,h.di.put h.bd (UV hn hN h.bd.1),by rw [NH (h.di.zero e),h.len];omega,by rw [List.length_append,h.ll];rfl,λh=>by omega⟩
theorem QV.le (h:QV ts dn0 k0 i dn k l):i<=3*ts.length:=by
  have h1:=h.di.len
  have:=h.len
  omega
theorem QV.lt (hn:By N ts=true) (hN:N<=4611686018427387904) (ho:GV ts (3*ts.length)=true) (h:QV ts dn0 k0 i dn k l) (e:(BG dn k).getD 0=0):i<3*ts.length:=by
  have:=(h.succ hn hN ho e).le
  omega
theorem QV.stop (h:QV ts dn0 k0 i dn k l) (e:¬(BG dn k).getD 0=0):WV ts dn0 k0=(dn,l):=by
  have h1:=h.fuel (3*ts.length+1-i)
  have:=h.le
  rw [show 3*ts.length+1-i+i=3*ts.length+1 by omega,show 3*ts.length+1-i=(3*ts.length-i)+1 by omega] at h1
  have h2:VR ts (3*ts.length-i+1) dn k l=some (dn,l):=by
    show (if _ then _ else _)=_
    rw [if_neg e]
  unfold WV
  rw [h1,h2];rfl
end
section
variable {ts:List T3} {N i:Nat} {dn dn2:List (P2×Nat)} {wq:T3} {l:List Nat}
end
end
section
def Pz (s:T2):List (P2×P2):=[(s.1,s.2.1),(s.2.1,s.2.2),(s.2.2,s.1)]
def QL (s t:T2):Bool:=s == t||(Pz s).all λe=>(Pz t).all λf=>!(e == f)
def Rx:Bool:=JP.all λp=>JP.all λq=>(decide (p.1=q.1/\p.2.1=q.2.1/\p.2.2≠q.2.2))||(Sa p.1 p.2.1 p.2.2).all λs=>(Sa q.1 q.2.1 q.2.2).all λt=>QL s t
theorem JY:Rx=true:=by decide +kernel
theorem QZ {m:MQ} {s t:T2} (hs:s∈BF m) (ht:t∈BF m):QL s t=true:=by
  obtain ⟨i,hi,h1⟩:=FF m _ s hs
  obtain ⟨j,hj,h2⟩:=FF m _ t ht
  have hx:=JI m
  have hy:=If m
  have b:∀k,k<Gw m*RD m->k%Gw m<=2/\k/Gw m<=2:=λk hk=>by
    have a1:=Nat.mod_lt k (show 0<Gw m by omega)
    have a2:k/Gw m<RD m:=Nat.div_lt_of_lt_mul hk
    omega
  rw [Oc] at h1 h2
  have h:=List.all_eq_true.1 (List.all_eq_true.1 JY _ (Gf (b i hi).1 (b i hi).2 (Ns (F8 m i) i))) _ (Gf (b j hj).1 (b j hj).2 (Ns (F8 m j) j))
  rw [Bool.or_eq_true,decide_eq_true_eq] at h
  rcases h with ⟨e1,e2,e3⟩|h
  · exfalso
    have e:i=j:=by rw [<-Nat.div_add_mod i (Gw m),<-Nat.div_add_mod j (Gw m),show i%Gw m=j%Gw m from e1,show i/Gw m=j/Gw m from e2]
    subst e
    exact e3 O
  · exact List.all_eq_true.1 (List.all_eq_true.1 h s h1) t h2
theorem UC {c:T2} (h:0<C8 c.1 c.2.1 c.2.2):∃x y:Rat,R5 c x y:=by
  obtain ⟨⟨a1,a2⟩,⟨b1,b2⟩,⟨c1,c2⟩⟩:=c
  have h2:(0:Rat)<(C8 (a1,a2) (b1,b2) (c1,c2):Int):=by exact_mod_cast h
  have e:((C8 (a1,a2) (b1,b2) (c1,c2):Int):Rat)=((b1:Rat)-a1)*((c2:Rat)-a2)-((b2:Rat)-a2)*((c1:Rat)-a1):=by
    simp only [C8,Rat.intCast_sub,Rat.intCast_mul,Rat.intCast_natCast]
  rw [e] at h2
  refine ⟨((a1:Rat)+b1+c1)/3,((a2:Rat)+b2+c2)/3,?_,?_,?_⟩<;>simp only [K2]<;>grind
section
variable {ps:List Pt} {ts:List T3}
theorem TX (c:T2) {k:Nat} (hk:k<3):(RA c k,RA c ((k+1)%3))∈Pz c:=by
  have e:k=0\/k=1\/k=2:=by omega
  rcases e with rfl|rfl|rfl<;>simp [Pz,RA]
theorem MW {m:MQ} {pl:List P2} {n:T3} {t:Nat} (h:Hh m pl n t) {r:Nat} (hr:r<3):pl.getD (Fj n r) (0,0)=Ao m t r:=by
  have e:r=0\/r=1\/r=2:=by omega
  rcases e with rfl|rfl|rfl
  · exact h.a.2
  · exact h.b.2
  · exact h.c.2
theorem QO (g:Fp ps ts) (hn:By ps.length ts=true) {u v:Nat} (hu:u<3*ts.length) (hv:v<3*ts.length) (h:BS ts u=BS ts v):u=v:=by
  obtain ⟨m,pl,hi,_,_⟩:=g.lat
  have htl:=hi.tl
  have key:∀w,w<3*ts.length->(pl.getD (BS ts w).1 (0,0),pl.getD (BS ts w).2 (0,0))∈Pz ((BF m).getD (w/3) ((0,0),(0,0),(0,0))):=λw hw=>by
    have ha:=hi.at_ (w/3) Z
    have e1:=MW ha (Nat.mod_lt w (show 0<3 by decide))
    have e2:=MW ha (Nat.mod_lt (w%3+1) (show 0<3 by decide))
    unfold BS
    rw [e1,e2]
    unfold Ao
    rw [show Jk m (w/3) ((w%3+1)%3)=(Jk m (w/3) (w%3)+1)%3 by unfold Jk;omega]
    exact TX _ (by unfold Jk;exact Nat.mod_lt _ (by decide))
  have cell:∀w,w<3*ts.length->(BF m).getD (w/3) ((0,0),(0,0),(0,0))∈BF m:=λw hw=>by
    rw [List.getD,List.getElem?_eq_getElem Z];exact List.getElem_mem _
  have h1:=key u hu
  have h2:=key v hv
  rw [<-h] at h2
  have h3:=QZ (cell u hu) (cell v hv)
  have h4:u/3=v/3:=by
    simp only [QL,Bool.or_eq_true,beq_iff_eq] at h3
    rcases h3 with h3|h3
    · by_cases e:u/3=v/3
      · exact e
      · exfalso
        obtain ⟨x,y,ho⟩:=UC (HN m _ (cell u hu)).1
        refine Jx m (show u/3<(BF m).length by omega) (show v/3<(BF m).length by omega) e ((0,0),(0,0),(0,0)) x y ho ?_
        rw [<-h3]
        exact ⟨by have:=ho.1;grind,by have:=ho.2.1;grind,by have:=ho.2.2;grind⟩
    · have h5:=List.all_eq_true.1 (List.all_eq_true.1 h3 _ h1) _ h2
      simp at h5
  have hne:=K6 (Cb hn (show u/3<ts.length by omega))
  have e1:(BS ts u).1=(BS ts v).1:=by rw [h]
  unfold BS at e1
  rw [<-h4] at e1
  generalize ts.getD (u/3) (0,0,0)=t at *
  have a:u%3=0\/u%3=1\/u%3=2:=by omega
  have b:v%3=0\/v%3=1\/v%3=2:=by omega
  have e2:u%3=v%3:=by
    rcases a with a|a|a<;>rcases b with b|b|b<;>rw [a,b]<;>rw [a,b] at e1<;>simp [Fj] at e1<;>omega
  omega
end
end
section
def Ln (ps:List Pt) (s t:T3):Prop:=∃(u:Pt) (k:Rat),u≠⟨0,0⟩/\WA u k (CG ps s.1) (CG ps s.2.1) (CG ps s.2.2) (CG ps t.1) (CG ps t.2.1) (CG ps t.2.2)
theorem Ln.symm {ps:List Pt} {s t:T3} (h:Ln ps s t):Ln ps t s:=by
  obtain ⟨u,k,hu,⟨h1,h2,h3⟩,h4,h5,h6⟩:=h
  have ng:∀a,dt ⟨-u.x,-u.y⟩ a = -dt u a:=λa=>by unfold dt;grind
  refine ⟨⟨-u.x,-u.y⟩,-k,λe=>hu ?_,⟨?_,?_,?_⟩,?_,?_,?_⟩
  · obtain ⟨x,y⟩:=u
    injection e with e1 e2
    simp only at e1 e2
    rw [show x=0 by grind,show y=0 by grind]
  all_goals rw [ng];grind
section
variable {ps:List Pt} {ts:List T3}
end
end
def Vf (md:List (P2×Nat)):Nat->T3->List T3
  | 0,c=>[c]
  | d+1,c=>match BG md (MI c) with
    | none=>[c]
    | some n=>Vf md d (n,c.1,c.2.1)++Vf md d (n,c.2.2,c.1)
def We (n p:Nat):List Nat:=List.replicate n p
section
section
variable {N:Nat} {es:List E4} {T:T3}
end
end
section
section
variable {m:MQ} {ts:List T3} {a b N:Nat}
theorem Gm {s:T3}:∀j,s∈H4 m ts a j↔s.1=a/\a<s.2.1/\s.2.1<a+1+j/\GT ts s.1 s.2.1 ts.length=1/\s=PW m s.1 s.2.1
  | 0=>⟨λh=>(by cases h),λh=>Z⟩
  | j+1=>by
    show s∈H4 m ts a j++(if _ then _ else _)↔_
    rw [List.mem_append,Gm j]
    constructor
    · rintro (h|h)
      · exact ⟨h.1,h.2.1,Z,h.2.2.2⟩
      · split at h
        · rename_i hc
          rw [List.mem_singleton] at h
          subst h
          exact ⟨rfl,(by show a<a+1+j;omega),(by show a+1+j<a+1+(j+1);omega),hc,rfl⟩
        · cases h
    · rintro ⟨h1,h2,h3,h4,h5⟩
      rcases Nat.lt_or_ge s.2.1 (a+1+j) with h6|h6
      · exact .inl ⟨h1,h2,h6,h4,h5⟩
      · have e:s.2.1=a+1+j:=by omega
        rw [h1,e] at h4 h5
        rw [if_pos h4]
        exact .inr (List.mem_singleton.2 h5)
theorem GQ {s:T3}:∀A,s∈EQ m ts N A↔s.1<A/\s.1<s.2.1/\s.2.1<N/\GT ts s.1 s.2.1 ts.length=1/\s=PW m s.1 s.2.1
  | 0=>⟨λh=>(by cases h),λh=>Z⟩
  | A+1=>by
    show s∈EQ m ts N A++H4 m ts A (N-(A+1))↔_
    rw [List.mem_append,GQ A,Gm]
    constructor
    · rintro (h|h)
      · exact ⟨Z,h.2⟩
      · exact ⟨Z,Z,Z,h.2.2.2⟩
    · rintro ⟨h1,h2,h3,h4⟩
      rcases Nat.lt_or_ge s.1 A with h5|h5
      · exact .inl ⟨h5,h2,h3,h4⟩
      · exact .inr ⟨Z,Z,Z,h4⟩
theorem FV:∀j,(H4 m ts a j).Pairwise TE
  | 0=>List.Pairwise.nil
  | j+1=>by
    show (H4 m ts a j++(if _ then _ else _)).Pairwise TE
    split
    · refine List.pairwise_append.2 ⟨FV j,List.pairwise_singleton _ _,λx hx y hy=>?_⟩
      rw [List.mem_singleton] at hy
      subst hy
      have h:=(Gm j).1 hx
      exact .inr ⟨h.1,(by show x.2.1<a+1+j;exact h.2.2.1)⟩
    · rw [List.append_nil];exact FV j
theorem GE:∀A,(EQ m ts N A).Pairwise TE
  | 0=>List.Pairwise.nil
  | A+1=>List.pairwise_append.2 ⟨GE A,FV _,λx hx y hy=>.inl (by
      have h1:=(GQ A).1 hx
      have h2:=(Gm _).1 hy
      omega)⟩
theorem K8 {x y:Nat} (hab:a<b) (hxy:x≠y):Cc x y=(a,b)↔(x=a/\y=b)\/(x=b/\y=a):=by
  unfold Cc
  rw [Prod.mk.injEq]
  omega
theorem Sm {t:T3} (hab:a<b) (h:t.1≠t.2.1/\t.2.1≠t.2.2/\t.2.2≠t.1):[Cc t.1 t.2.1,Cc t.2.1 t.2.2,Cc t.2.2 t.1].count (a,b)=if FQ t a=true/\FQ t b=true then 1 else 0:=by
  obtain ⟨h1,h2,h3⟩:=h
  simp only [List.count_cons,List.count_nil,beq_iff_eq,K8 hab h1,K8 hab h2,K8 hab h3,FQ,Bool.or_eq_true,decide_eq_true_eq]
  split<;>split<;>split<;>split<;>omega
theorem N8 (hn:By N ts=true) (hab:a<b):∀i,i<=ts.length->GT ts a b i=((ts.take i).flatMap λt=>[Cc t.1 t.2.1,Cc t.2.1 t.2.2,Cc t.2.2 t.1]).count (a,b)
  | 0,_=>rfl
  | i+1,hi=>by
    rw [KB Z,List.flatMap_append,List.count_append,<-N8 hn hab i Z]
    have h:=K6 (Cb hn (show i<ts.length by omega))
    have e:=Sm hab h
    show GT ts a b i+(if _ then 1 else 0)=_
    rw [<-e]
    simp [List.flatMap]
theorem MM (hn:By N ts=true) (hab:a<b):GT ts a b ts.length=(Ix ts).count (a,b):=by
  rw [N8 hn hab _ (Nat.le_refl _),List.take_length];rfl
theorem Pj (hn:By N ts=true) (hN:N<=4611686018427387904) (h:(a,b)∈Ix ts):a<b/\b<N:=by
  obtain ⟨e,he,rfl,rfl⟩:=(La hn hN).1 h
  exact edge_ends hn hN he
theorem J4 (hn:By N ts=true) (hN:N<=4611686018427387904):EQ m ts N N=(EP ts).map λs=>PW m s.1 s.2.1:=by
  refine Mc TE.asymm (GE N) ?_ λs=>?_
  · exact List.pairwise_map.2 ((MO hn hN).imp λ{x y} h=>h)
  · rw [GQ,List.mem_map]
    constructor
    · rintro ⟨h1,h2,h3,h4,h5⟩
      refine ⟨(s.1,s.2.1,0),(MN hn hN).2 ⟨?_,rfl⟩,h5.symm⟩
      rw [<-MM hn h2];exact h4
    · rintro ⟨r,hr,rfl⟩
      have h:=(MN hn hN).1 hr
      have hk:=Pj hn hN (List.count_pos_iff.1 (by rw [h.1];decide))
      exact ⟨by show r.1<N;omega,hk.1,hk.2,by show GT ts r.1 r.2.1 ts.length=1;rw [MM hn hk.1];exact h.1,rfl⟩
end
end
section
def WW (md:List (P2×Nat)) (ts:List T3):List T3:=ts.flatMap (Vf md 2)
def WT (md:List (P2×Nat)) (ts:List T3):Nat->List Nat
  | 0=>[]
  | i+1=>WT md ts i++We (Vf md 2 (ts.getD i (0,0,0))).length i
section
variable {md:List (P2×Nat)} {ts ss:List T3} {i N:Nat} {es:List E4}
end
structure Wj (ps:List Pt) (ts ss:List T3) (ms:List Int) where
  l:List E4
  p:E4->Bool
  el:l=(BC ts).filter p
  all:∀e,p e=true↔LY ts (R6 ts ms) (e.a,e.b)
  x:Vt (WF ps l) (WW (SK ps.length l l.length) ts) (WK ps.length ss l (WW (SK ps.length l l.length) ts)) (WT (SK ps.length l l.length) ts ts.length) 0
instance {ps:List Pt} {ts ss:List T3} {ms:List Int}:Dy (Wj ps ts ss ms):=⟨λb=>Dy.val b.x,λb=>Dy.rows b.x,λb y hy=>Dy.ro b.x y hy⟩
section
variable {ts ss:List T3} {N:Nat} {es:List E4} {ms:List Int}
structure UY (ts:List T3) (ms:List Int) (l:List E4):Prop where
  ex:∃p:E4->Bool,l=(BC ts).filter p/\∀e,p e=true↔LY ts (R6 ts ms) (e.a,e.b)
theorem DX.cut (u:DX ts ms):UY ts ms u.l:=⟨u.p,u.el,u.all⟩
theorem UY.mem {l:List E4} (h:UY ts ms l) {e:E4}:e∈l↔e∈BC ts/\LY ts (R6 ts ms) (e.a,e.b):=by
  obtain ⟨p,h1,h2⟩:=h.ex
  rw [h1,List.mem_filter,h2]
end
section
variable {P:Program} {ops:Array Oper} {rest:List Oper} {Q:Exit->Act->World->Prop} {n d:Nat} {F:List (Nat×Value)} {w0:BL} {S:Nat->Prop} {L:List As} {t:TypeId} {p:String} {af:Array Edge} {y:Operand} {f:FuncId} {xs:List Operand} {args:List Value} {tys:Array TypeId} {ps:List Pt} {ts ss:List T3} {ms:List Int}
end
theorem Ud (a b:E4):(((a.a:Int) == (b.a:Int))&&(((a.b:Int) == (b.b:Int))&&((a.l == b.l)&&((a.r == b.r)&&true))))=decide (a=b):=by
  obtain ⟨a1,a2,a3,a4⟩:=a
  obtain ⟨b1,b2,b3,b4⟩:=b
  rw [Bool.eq_iff_iff]
  simp
  constructor<;>(rintro ⟨h1,h2,h3,h4⟩;refine ⟨?_,?_,?_,?_⟩<;>omega)
theorem UO (D:Nat) (a b:E4):Eu prog (D+2) 65 (.agg (B9 a).toArray) (.agg (B9 b).toArray) (decide (a=b)):=by
  rw [<-Ud]
  exact Eu.struct underlying65 Tryz.stoodInHeld65 (HE.one (by decide) isAgg3 O O (Eu.int underlying3) (HE.one (by decide) isAgg3 O O (Eu.int underlying3) (HE.one (by decide) isAgg3 O O (Eu.int underlying3) (HE.one (by decide) isAgg3 O O (Eu.int underlying3) HE.nil))))
theorem IY (D:Nat) {a b:E4} (h:a=b):Eu prog (D+2) 65 (.agg (B9 a).toArray) (.agg (B9 b).toArray) true:=by
  have:=UO D a b;rwa [decide_eq_true h] at this
end
section
section
variable {md:List (P2×Nat)} {N M n a b c e p:Nat} {k κ:P2} {T:T3} {ts ts':List T3}
end
end
end Go.Proofs.YtfbomiejpbchdaaGreatDoor
