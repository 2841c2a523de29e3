import Derived.Test.YtpgncndhhhllfaaGreatPart03
import Derived.Test.YtpgncndhhhllfaaGreatPart16
import Derived.Test.YtpgncndhhhllfaaGreatPart17
import Derived.Test.YtpgncndhhhllfaaGreatPart20
import Derived.Test.YtpgncndhhhllfaaGreatPart22
import Derived.Test.YtpgncndhhhllfaaGreatPart29
import Derived.Test.YtpgncndhhhllfaaGreatPart32
import Derived.Test.YtpgncndhhhllfaaGreatPart33
import Derived.Test.YtpgncndhhhllfaaGreatPart35
import Derived.Test.YtpgncndhhhllfaaGreatPart37
import Derived.Test.YtpgncndhhhllfaaGreatPart38
import Derived.Test.YtpgncndhhhllfaaGreatPart39
import Derived.Test.YtpgncndhhhllfaaGreatPart42
namespace Go.Proofs.YtpgncndhhhllfaaGreat
open Go Go.RowKit Go.Proofs.Tryz
set_option linter.unusedVariables false
set_option linter.unusedSimpArgs false
section
abbrev Z3:=Int×Int×Int
def Bg (t:Z3):List Value:=[vI t.1,vI t.2.1,vI t.2.2]
theorem CQ (t:Z3):(Bg t).length=3:=rfl
theorem MW (t:Z3):((Bg t).all λu=>u.oneCell')=true:=rfl
structure MZ (ps:List Pt) (ts ss:List Z3) where
  a:RX (rowsL CG ps) ps.length
  b:RX (rowsL Bg ts) ts.length
  c:RX (rowsL Bg ss) ss.length
def cd {ps:List Pt} {ts ss:List Z3} (x:MZ ps ts ss):List Value:=[x.a.val,x.b.val,x.c.val]
theorem Z4 {ps:List Pt} {ts ss:List Z3} {x:MZ ps ts ss} {y:As} (hy:y∈[x.a.row,x.b.row,x.c.row]):y.ro=true:=by
  simp only [List.mem_cons,List.not_mem_nil,or_false] at hy
  rcases hy with rfl|rfl|rfl<;>rfl
instance {ps:List Pt} {ts ss:List Z3}:CO (MZ ps ts ss):=⟨λx=>aG (cd x),λx=>[x.a.row,x.b.row,x.c.row],λx y hy=>Z4 hy⟩
structure RW where
  ds:List PD
  ts:List Z3
  ss:List Z3
  a:RX (rowsL Gj ds) ds.length
  b:RX (rowsL Bg ts) ts.length
  c:RX (rowsL Bg ss) ss.length
  hd:∀d∈ds,d.ok
def G8 (x:RW):List Value:=[x.a.val,x.b.val,x.c.val]
theorem Z1 {x:RW} {y:As} (hy:y∈[x.a.row,x.b.row,x.c.row]):y.ro=true:=by
  simp only [List.mem_cons,List.not_mem_nil,or_false] at hy
  rcases hy with rfl|rfl|rfl<;>rfl
instance:CO RW:=⟨λx=>aG (G8 x),λx=>[x.a.row,x.b.row,x.c.row],λx y hy=>Z1 hy⟩
def RW.ps (x:RW):List Pt:=x.ds.map HB
theorem FJ (d:PD):(Gj d).length=4:=rfl
def EQ:PD:=⟨⟨0,0⟩,⟨0,0⟩⟩
section
variable {S:Nat->Prop} {w:World} {ps:List Pt} {ts ss:List Z3} {x:MZ ps ts ss} {r:RW}
end
structure RP where
  p:Pt
  x:PX p
@[reducible] def QX (r:RP):List Value:=XW r.x
theorem Qs (r:RP):(QX r).length=6:=rfl
def Kn (rs:List RP):List As:=rs.flatMap λr=>CO.rows r.x
theorem Yz {rs:List RP} {y:As} (h:y∈Kn rs):y.ro=true:=by
  obtain ⟨r,_,h⟩:=List.mem_flatMap.1 h
  exact CO.ro r.x y h
theorem N0 (rs:List RP) (r:RP):Kn (rs++[r])=Kn rs++CO.rows r.x:=by simp [Kn]
theorem X0 (r:RP) (A:List As) (rs:List RP):(CO.rows r.x++(A++Kn rs)).Perm (A++Kn (rs++[r])):=by
  rw [N0,<-List.append_assoc A]
  exact List.perm_append_comm
theorem OR (A T L:List As):(A++(T++L)).Perm (A++(L++T)):=(List.Perm.refl A).append List.perm_append_comm
structure Sd (ps:List Pt) (ts ss:List Z3) where
  rs:List RP
  e:rs.map (·.p)=ps
  a:RX (rowsL QX rs) rs.length
  b:RX (rowsL Bg ts) ts.length
  c:RX (rowsL Bg ss) ss.length
def cv {ps:List Pt} {ts ss:List Z3} (x:Sd ps ts ss):List Value:=[x.a.val,x.b.val,x.c.val]
theorem aB {ps:List Pt} {ts ss:List Z3} {x:Sd ps ts ss} {y:As} (hy:y∈[x.a.row,x.b.row,x.c.row]++Kn x.rs):y.ro=true:=by
  rcases List.mem_append.1 hy with hy|hy
  · simp only [List.mem_cons,List.not_mem_nil,or_false] at hy
    rcases hy with rfl|rfl|rfl<;>rfl
  · exact Yz hy
instance {ps:List Pt} {ts ss:List Z3}:CO (Sd ps ts ss):=⟨λx=>aG (cv x),λx=>[x.a.row,x.b.row,x.c.row]++Kn x.rs,λx y hy=>aB hy⟩
theorem Sd.len {ps:List Pt} {ts ss:List Z3} (x:Sd ps ts ss):x.rs.length=ps.length:=by
  have h:=congrArg List.length x.e
  rwa [List.length_map] at h
section
variable {P:Program} {ops:Array Oper} {rest:List Oper} {Q:Exit->Act->World->Prop} {n:Nat} {F:List (Nat×Value)} {w0:BE} {S:Nat->Prop} {L L2 A:List As} {w W:World} {rs:List RP} {i:Nat} {ps:List Pt} {ts ss:List Z3}
theorem AC.permR (hp:L.Perm L2) (next:AC P ops rest Q n F w0 L2):AC P ops rest Q n F w0 L:=λa w ha hW=>next a w ha (hW.perm hp)
theorem At.snoc {r:RP} (h:∀y∈Kn rs,∀b,y.foot=some b->Nw w0 S b) (k:At w0 S r.x):∀y∈Kn (rs++[r]),∀b,y.foot=some b->Nw w0 S b:=λy hy=>by
  rw [N0] at hy
  rcases List.mem_append.1 hy with hy|hy
  · exact h y hy
  · exact k y hy
theorem Ys (hw:BM ⟨W,none⟩ w (A++Kn rs)) (i j k:Nat) {p1 p2 p3:Option Addr} {T1 T2 T3 n1 n2 n3 c1 c2 c3:Nat} (h1:A[i]?=some (rowW p1 T1 6 n1 c1 (rowsL QX rs))) (h2:A[j]?=some (rowW p2 T2 3 n2 c2 (rowsL Bg ts))) (h3:A[k]?=some (rowW p3 T3 3 n3 c3 (rowsL Bg ss)))
    (o1:OwnOk p1 n1 c1) (o2:OwnOk p2 n2 c2) (o3:OwnOk p3 n3 c3) (e1:n1=rs.length) (e2:n2=ts.length) (e3:n3=ss.length) (he:rs.map (·.p)=ps) (hat:∀y∈Kn rs,∀b,y.foot=some b->Nw ⟨W,none⟩ S b)
    {v:Value} (hv:v=aG [.slice p1 n1 c1,.slice p2 n2 c2,.slice p3 n3 c3]):Al (Sd ps ts ss) S W (.returned v) w:=by
  subst e1;subst e2;subst e3
  have up:∀{i:Nat} {x:As},A[i]?=some x->(A++Kn rs)[i]?=some x:=λ{i x} h=>by rw [List.getElem?_append_left (List.getElem?_eq_some_iff.1 h).1];exact h
  refine ⟨⟨rs,he,⟨p1,c1,o1.row⟩,⟨p2,c2,o2.row⟩,⟨p3,c3,o3.row⟩⟩,by rw [hv];rfl,hw.out,λy hy=>?_⟩
  have hy:y∈[AJ p1 (rowsL QX rs),AJ p2 (rowsL Bg ts),AJ p3 (rowsL Bg ss)]++Kn rs:=hy
  rcases List.mem_append.1 hy with hy|hy
  · simp only [List.mem_cons,List.not_mem_nil,or_false] at hy
    rcases hy with rfl|rfl|rfl
    · exact DS hw i (up h1) o1 (A6 Qs _)
    · exact DS hw j (up h2) o2 (A6 CQ _)
    · exact DS hw k (up h3) o3 (A6 CQ _)
  · exact ⟨λb e=>(hw.2.1 _ (List.mem_append_right _ hy) b e).2,hat y hy⟩
theorem Zx (hw:BM ⟨W,none⟩ w L) (i j k:Nat) {p1 p2 p3:Option Addr} {T1 T2 T3 n1 n2 n3 c1 c2 c3:Nat} (h1:L[i]?=some (rowW p1 T1 10 n1 c1 (rowsL CG ps))) (h2:L[j]?=some (rowW p2 T2 3 n2 c2 (rowsL Bg ts))) (h3:L[k]?=some (rowW p3 T3 3 n3 c3 (rowsL Bg ss)))
    (o1:OwnOk p1 n1 c1) (o2:OwnOk p2 n2 c2) (o3:OwnOk p3 n3 c3) (e1:n1=ps.length) (e2:n2=ts.length) (e3:n3=ss.length)
    {v:Value} (hv:v=aG [.slice p1 n1 c1,.slice p2 n2 c2,.slice p3 n3 c3]):Al (MZ ps ts ss) S W (.returned v) w:=by
  subst e1;subst e2;subst e3
  refine ⟨⟨⟨p1,c1,o1.row⟩,⟨p2,c2,o2.row⟩,⟨p3,c3,o3.row⟩⟩,by rw [hv];rfl,hw.out,λy hy=>?_⟩
  have hy:y∈[AJ p1 (rowsL CG ps),AJ p2 (rowsL Bg ts),AJ p3 (rowsL Bg ss)]:=hy
  simp only [List.mem_cons,List.not_mem_nil,or_false] at hy
  rcases hy with rfl|rfl|rfl
  · exact DS hw i h1 o1 (A6 Ps _)
  · exact DS hw j h2 o2 (A6 CQ _)
  · exact DS hw k h3 o3 (A6 CQ _)
end
theorem aA (r:RW) {i:Nat} (h:i<r.ds.length):r.ps.getD i ⟨0,0⟩=HB (r.ds.getD i EQ):=by
  unfold RW.ps
  simp [h]
theorem RW.pl (r:RW):r.ps.length=r.ds.length:=by unfold RW.ps;rw [List.length_map]
theorem RW.ok (r:RW) {i:Nat} (h:i<r.ds.length):(r.ds.getD i EQ).ok:=by
  rw [List.getD,List.getElem?_eq_getElem h]
  exact r.hd _ (List.getElem_mem h)
structure cY (ps:List Pt) (ts ss:List Z3) where
  a:OX 66 10 (rowsL CG ps) ps.length
  b:OX 68 3 (rowsL Bg ts) ts.length
  c:OX 70 3 (rowsL Bg ss) ss.length
@[reducible] def c7 {ps:List Pt} {ts ss:List Z3} (x:cY ps ts ss):List As:=[rowW x.c.p 70 3 ss.length x.c.c (rowsL Bg ss),rowW x.b.p 68 3 ts.length x.b.c (rowsL Bg ts),rowW x.a.p 66 10 ps.length x.a.c (rowsL CG ps)]
section
variable {S:Nat->Prop} {w:World} {w0:BE} {L:List As} {ps:List Pt} {ts ss:List Z3}
theorem ch {α:Type} [CO α] {a:α} (h:Ro S w a):∀y∈CO.rows a,y.ro=true/\Holds w y:=λy k=>⟨CO.ro a y k,(h y k).1⟩
abbrev bA (_:Nat):Prop:=True
theorem ba {α:Type} [CO α] {a:α} (h:Ro S w a):Ro bA w a:=h.mono λ_ _=>trivial
theorem aV {x:Sd ps ts ss} (hw:BM w0 w L) (i:Nat) (hi:(L.drop i).take 3=[x.a.row,x.b.row,x.c.row]) (hs:∀y∈Kn x.rs,y∈L):Ro bA w x:=λy hy=>by
  have hy:y∈[x.a.row,x.b.row,x.c.row]++Kn x.rs:=hy
  have hm:y∈L:=by
    rcases List.mem_append.1 hy with hy|hy
    · exact List.mem_of_mem_drop (List.mem_of_mem_take (hi▸hy))
    · exact hs y hy
  exact ⟨λb e=>(hw.2.1 y hm b e).2,λ_ _=>trivial⟩
end
theorem M9 (r:RW) {i:Nat} (h:i<r.ds.length):r.ps.take (i+1)=r.ps.take i++[HB (r.ds.getD i EQ)]:=by
  rw [<-aA r h,List.take_add_one,List.getD,List.getElem?_eq_getElem (by rw [r.pl];exact h)]
  rfl
end
section
set_option maxRecDepth 100000
theorem N_ (l:List Int) (a:CX (zL l) l.length) (b:RX (zL l) l.length) (hl:l.length<=1000000000) (w:World) {S:Nat->Prop} (ha:Ro S w a) (hb:Ro S w b):Calls prog 24 #[(Value.slice a.p l.length l.length),(Value.slice b.p l.length b.c)] w (Ak w (Value.bool true)):=by
 have la:=CV (W:=w) ha
 have lb:=CV (W:=w) hb
 refine Ag (args:=[(Value.slice a.p l.length l.length),(Value.slice b.p l.length b.c)]) (L:=[AJ a.p (zL l),AJ b.p (zL l)]) func24 O O (AV O) (C4 ha (C4 hb Ao)) (AE.subF (sL [0,1] O) (q4 (AI O (AC.nil (q1 (q4 (AM O (AK (v:=(vN l.length)) (AF O underlying86) O (AM O (AK (v:=(vN l.length)) (AF O underlying86) O (AK (Ce (c:=false) O O (decide_eq_false λh=>h O)) O ?_)))))))))))
 refine AM O (AC.step (v:=(Value.slice a.p l.length l.length)) (AA O) (AW O) O (AV O) (AC.step (v:=(vN l.length)) (AA O) (FK O underlying86) O (AV O) (AC.step (v:=(Value.slice a.p l.length l.length)) (AA O) (AW O) O (AV O) (AC.step (v:=(vN l.length)) (AA O) (AF O underlying86) O (AV O) (AC.step (v:=(Value.bool false)) (AA O) (CC (c:=false) O O (decide_eq_false Z)) O (AV O) (AK (v:=(Value.bool false)) (AO O O) O (AC.nil (OkQ.subF (sL [0,1,4,17] O) (OkQ.then_ (AE.cond_false O (AE.skip ?_)))))))))))
 refine q1 (q4 (AI O (AC.nil (OkQ.subF (sL [0,1,4,5] O) (OkQ.then_ (AE.block ?_))))))
 refine AE.lp1 (tg λ(i:Nat)=>i<=l.length) (tg λ(i:Nat)=>[(0,(Value.slice a.p l.length l.length)),(1,(Value.slice b.p l.length b.c)),(5,(vN i))]) (tg λ(i:Nat)=>[AJ a.p (zL l),AJ b.p (zL l)]) (tg λ(i:Nat)=>l.length-i) 0 (Nat.zero_le _) (sF O) sr (λi hJ=>?_)
 have hi:=hJ
 refine AE.seq (q4 (AM O (AM O (AK (v:=(vN l.length)) (AF O underlying86) O (AK (Ad (c:=(decide (i<l.length))) O O (B7 (a:=i) (b:=l.length))) O (AC.nil (OkQ.subF (sL [0,1,5,21] O) (OkQ.then_ ?_))))))))
 refine AE.cond O (λhc1=>?_) (λhc1=>?_)
 ·replace hc1:=of_decide_eq_true hc1
  refine AE.skip (q1 (AE.block (AE.seq (Cu [(0,true),(1,true),(2,true),(3,true),(4,true),(5,true),(6,true),(7,true),(8,true)] sr (BU O (BU O (Av (v:=(pP (pB a.p) (pO a.p+i*1))) O (AH (j:=i) O O a.ok underlying86 sizeOf3 O Z) (Av O (AL (v:=(vI (l.getD i 0))) (i:=0) O O (a.ok.ne Z) BR (G6 (l:=l) (j:=i) Z)) (BU O (BU O (Av (v:=(pP (pB b.p) (pO b.p+i*1))) O (AH (j:=i) O O b.ok underlying86 sizeOf3 O Z) ?_)))))))))))
  refine Av O (AL (v:=(vI (l.getD i 0))) (i:=1) O O (b.ok.ne Z) BR (G6 (l:=l) (j:=i) Z)) (Av O (Ce (c:=false) O O (decide_eq_false λh=>h O)) (OkE.nil (OkQ.subF (sL [0,1,5,32] O) (OkQ.then_ (AE.cond_false O (AE.skip (OkQ.in_normal (OkQ.then_ (AE.region (AM O (AK (AY (c:=((i+1:Nat):Int)) O O (AU (a:=i) (b:=1) Z)) O ?_)))))))))))
  exact AI O (AC.nil (OkQ.subF (sL [0,1,5] O) (OkQ.round1 (i+1) Z Z (sF O) sr)))
 ·replace hc1:=of_decide_eq_false hc1
  exact AE.exit (OkQ.then_exit (OkQ.round1_exit (OkQ.in_exit (q2 (AI O (AC.nil (OkQ.then_ (AE.ret (AS O (AZ (v:=(Value.bool true)) O) (λw hw=>⟨rfl,hw.out⟩))))))))))
theorem Uf (l:List Int) {ca cb:List Value} {n:Nat} (hca:ca=zL l) (hcb:cb=zL l) (hn:n=l.length) (a:CX ca n) (b:RX cb n) (hl:n<=1000000000) (w:World) {S:Nat->Prop} (ha:Ro S w a) (hb:Ro S w b):Calls prog 24 #[(Value.slice a.p n n),(Value.slice b.p n b.c)] w (Ak w (Value.bool true)):=by
 subst hca hcb hn
 exact N_ l a b hl w ha hb
theorem S5 (a b:RI) (hc:a.c=a.l.length) (he:a.l=b.l) (w:World) (ha:Ro W5 w (Y7 a)) (hb:Ro W5 w (Y7 b)):Calls prog 24 #[(Sb a),(Sb b)] w (Ak w (Value.bool true)):=by
 obtain ⟨al,ap,ac,aok,asm⟩:=a
 obtain ⟨bl,bp,bc,bok,bsm⟩:=b
 have hc:ac=al.length:=hc
 have he:al=bl:=he
 subst hc he
 exact Uf (al.map λd:Nat=>(d:Int)) (Ty al) (Ty al) (List.length_map _).symm ⟨ap,aok⟩ ⟨bp,bc,bok⟩ (Nat.le_trans asm (by decide)) w ha hb
theorem NH {ls:List (List Nat)} (p:Zc ls) (hl:p.a.rs.length<=1000000000) (w:World) {S:Nat->Prop} (hp:Ro S w p):Calls prog 19 #[(Value.slice p.a.q.p p.a.rs.length p.a.q.c),(Value.slice p.b.q.p p.b.rs.length p.b.q.c)] w (Ak w (Value.bool true)):=by
 have hab:p.a.rs.length=p.b.rs.length:=by have h9:=congrArg List.length (p.a.e.trans p.b.e.symm);rwa [List.length_map,List.length_map] at h9
 have hpc:=p.hc
 have lp:=CV (W:=w) hp
 refine Ag (args:=[(Value.slice p.a.q.p p.a.rs.length p.a.q.c),(Value.slice p.b.q.p p.b.rs.length p.b.q.c)]) (L:=(AJ p.a.q.p (rvL p.a.rs)::AJ p.b.q.p (rvL p.b.rs)::(Dn p.a.rs++Dn p.b.rs))) func19 O O (AV O) (ch hp) (AE.subF (sL [0,1] O) (q4 (AI O (AC.nil (q1 (q4 (AM O (AK (v:=(vN p.a.rs.length)) (AF O underlying80) O (AM O (AK (v:=(vN p.b.rs.length)) (AF O underlying80) O (AK (Ce (c:=false) O O (decide_eq_false Z)) O ?_)))))))))))
 refine AM O (AC.step (v:=(Value.slice p.a.q.p p.a.rs.length p.a.q.c)) (AA O) (AW O) O (AV O) (AC.step (v:=(vN p.a.q.c)) (AA O) (FK O underlying80) O (AV O) (AC.step (v:=(Value.slice p.a.q.p p.a.rs.length p.a.q.c)) (AA O) (AW O) O (AV O) (AC.step (v:=(vN p.a.rs.length)) (AA O) (AF O underlying80) O (AV O) (AC.step (v:=(Value.bool false)) (AA O) (CC (c:=false) O O (decide_eq_false Z)) O (AV O) (AK (v:=(Value.bool false)) (AO O O) O (AC.nil (OkQ.subF (sL [0,1,4,17] O) (OkQ.then_ (AE.cond_false O (AE.skip ?_)))))))))))
 refine q1 (q4 (AI O (AC.nil (OkQ.subF (sL [0,1,4,5] O) (OkQ.then_ (AE.block ?_))))))
 refine AE.lp1 (tg λ(i:Nat)=>i<=p.a.rs.length) (tg λ(i:Nat)=>[(0,(Value.slice p.a.q.p p.a.rs.length p.a.q.c)),(1,(Value.slice p.b.q.p p.b.rs.length p.b.q.c)),(5,(vN i))]) (tg λ(i:Nat)=>(AJ p.a.q.p (rvL p.a.rs)::AJ p.b.q.p (rvL p.b.rs)::(Dn p.a.rs++Dn p.b.rs))) (tg λ(i:Nat)=>p.a.rs.length-i) 0 (Nat.zero_le _) (sF O) sr (λi hJ=>?_)
 have hi:=hJ
 refine AE.seq (q4 (AM O (AM O (AK (v:=(vN p.a.rs.length)) (AF O underlying80) O (AK (Ad (c:=(decide (i<p.a.rs.length))) O O (B7 (a:=i) (b:=p.a.rs.length))) O (AC.nil (OkQ.subF (sL [0,1,5,21] O) (OkQ.then_ ?_))))))))
 refine AE.cond O (λhc1=>?_) (λhc1=>?_)
 ·replace hc1:=of_decide_eq_true hc1
  refine AE.skip (q1 (AE.block (AE.seq (Cu [(0,true),(1,true),(2,true),(3,true),(4,true),(5,true),(6,true),(7,true),(8,false),(9,true)] sr (BU O (BU O (Av (v:=(pP (pB p.a.q.p) (pO p.a.q.p+i*1))) O (AH (j:=i) O O p.a.q.ok underlying80 sizeOf86 O Z) (Av O (AL (v:=(Sb (p.a.rs.getD i default))) (i:=0) O O (p.a.q.ok.ne Z) XG (QJ (rs:=p.a.rs) (j:=i) Z)) (BU O (BU O (Av (v:=(pP (pB p.b.q.p) (pO p.b.q.p+i*1))) O (AH (j:=i) O O p.b.q.ok underlying80 sizeOf86 O Z) ?_)))))))))))
  refine Av O (AL (v:=(Sb (p.b.rs.getD i default))) (i:=1) O O (p.b.q.ok.ne Z) XG (QJ (rs:=p.b.rs) (j:=i) Z)) (OkE.imp O (Cc call24 (λw hw=>S5 (p.a.rs.getD i default) (p.b.rs.getD i default) (p.hr _ (SM Z)) (Wu (p.a.e.trans p.b.e.symm) Z) w (ZY hw (List.mem_append_right [AJ p.a.q.p (rvL p.a.rs),AJ p.b.q.p (rvL p.b.rs)] (List.mem_append_left _ (Pp Z)))) (ZY hw (List.mem_append_right [AJ p.a.q.p (rvL p.a.rs),AJ p.b.q.p (rvL p.b.rs)] (List.mem_append_right _ (Pp Z))))) O (OkE.back sr (Av O (BF (c:=false) O O) (OkE.nil (OkQ.subF (sL [0,1,5,33] O) (OkQ.then_ (AE.cond_false O (AE.skip (OkQ.in_normal (OkQ.then_ ?_)))))))))))
  exact AE.region (AM O (AK (AY (c:=((i+1:Nat):Int)) O O (AU (a:=i) (b:=1) Z)) O (AI O (AC.nil (OkQ.subF (sL [0,1,5] O) (OkQ.round1 (i+1) Z Z (sF O) sr))))))
 ·replace hc1:=of_decide_eq_false hc1
  exact AE.exit (OkQ.then_exit (OkQ.round1_exit (OkQ.in_exit (q2 (AI O (AC.nil (OkQ.then_ (AE.ret (AS O (AZ (v:=(Value.bool true)) O) (λw hw=>⟨rfl,hw.out⟩))))))))))
end
section
set_option maxRecDepth 100000
theorem Lm {N M K:Nat} (x:RU N M K) (hu:∀(S:Nat->Prop) (w:World),Ro S w x->Calls prog 35 #[(aG (Bt x))] w (Ak w (Value.bool false))) (w:World) {S:Nat->Prop} (hx:Ro S w x):Calls prog 15 #[(aG (Bt x))] w (Al (SX [] false) S w):=by
 have lx:=CV (W:=w) hx
 refine Ag (args:=[(aG (Bt x))]) (L:=[AJ x.a.p (x.cs),AJ x.b.p (x.es),AJ x.c.p (x.ds)]) func15 O O (AV O) (C4 hx Ao) (AE.subF (sL [0] O) (q4 (B0 (cs:=Bt x) O λb1=>AI O (AI O (q3 (sL [1,2,3] O) (AC.makeMap D5 vN (AT O) O λb2=>AI O (q6 (sL [1,2,3,4] O) (q4 (BC 1 CF O ?_)))))))))
 refine Cc call35 (λw hw=>hu _ w (Bc hw 2 O lx)) O (AK (BF (c:=true) O O) O (AC.nil (OkQ.subF (sL [1,2,3,4,14] O) (OkQ.then_ (AE.cond_true O (q4 (AM O (AI O (AI O (AC.nil (OkQ.subF (sL [1,2,3,4] O) ?_)))))))))))
 exact OkQ.then_ (AE.ret (OkQ.then_ret (Bo O (AZ (v:=(Value.map (some b2))) O) (AZ (v:=(Value.bool false)) O) (λw hw=>(K9 hw 0 O GM.nil (λh=>by cases h) O)))))
theorem Vm {N M K:Nat} (x:RU N M K) (hu:∀(S:Nat->Prop) (w:World),Ro S w x->Calls prog 35 #[(aG (Bt x))] w (Ak w (Value.bool false))) (w:World) {S:Nat->Prop} (hx:Ro S w x):Calls prog 6 #[(aG (Bt x))] w (Ak w (Value.bool false)):=by
 have lx:=CV (W:=w) hx
 refine Ag (args:=[(aG (Bt x))]) (L:=[AJ x.a.p (x.cs),AJ x.b.p (x.es),AJ x.c.p (x.ds)]) func6 O O (AV O) (C4 hx Ao) (AE.subF (sL [0] O) (q4 (B0 (cs:=Bt x) O λb1=>AI O (q3 (sL [1,2] O) (BC 0 CF O (AC.callR (S:=S) (α:=SX [] false) (args:=[(aG (Bt x))]) call15 (λw hw=>Lm x hu w (Bc hw 1 O lx)) O O O λsx lsx=>AM O (AK (AX (v:=(Value.map (some sx.b))) O O) O (AK (AX (v:=(Value.bool false)) O O) O (AI O ?_)))))))))
 exact AI O (q3 (sL [2,4] O) (AM O (AI O (AC.nil (OkQ.subF (sL [2] O) (OkQ.then_ (AE.ret (AS O (AZ (v:=(Value.bool false)) O) (λw hw=>⟨rfl,hw.out⟩)))))))))
theorem Xo {N M K:Nat} (x:RU N M K) (hu:∀(S:Nat->Prop) (w:World),Ro S w x->Calls prog 35 #[(aG (Bt x))] w (Ak w (Value.bool false))) (w:World) {S:Nat->Prop} (hx:Ro S w x):Calls prog 16 #[(aG (Bt x))] w (Ak w (Value.slice none 0 0)):=by
 have lx:=CV (W:=w) hx
 refine Ag (args:=[(aG (Bt x))]) (L:=[AJ x.a.p (x.cs),AJ x.b.p (x.es),AJ x.c.p (x.ds)]) func16 O O (AV O) (C4 hx Ao) (AE.subF (sL [0] O) (q4 (B0 (cs:=Bt x) O λb1=>AI O (q3 (sL [1,2] O) (BC 0 CF O (AC.callR (S:=S) (α:=SX [] false) (args:=[(aG (Bt x))]) call15 (λw hw=>Lm x hu w (Bc hw 1 O lx)) O O O λsx lsx=>AM O (AK (AX (v:=(Value.map (some sx.b))) O O) O (AK (AX (v:=(Value.bool false)) O O) O (AI O ?_)))))))))
 refine AI O (q6 (sL [1,2,3,4] O) (q4 (AM O (AK (BF (c:=true) O O) O (AC.nil (OkQ.subF (sL [1,2,3,11] O) (OkQ.then_ (AE.cond_true O (q4 (AI O (AC.nil ?_)))))))))))
 exact OkQ.subF (sL [1,2,3] O) (OkQ.then_ (AE.ret (OkQ.then_ret (AS O (AZ (v:=(Value.slice none 0 0)) O) (λw hw=>⟨rfl,hw.out⟩)))))
theorem W4 {N M K:Nat} (x:RU N M K) (hu:∀(S:Nat->Prop) (w:World),Ro S w x->Calls prog 35 #[(aG (Bt x))] w (Ak w (Value.bool false))) (w:World) {S:Nat->Prop} (hx:Ro S w x):Calls prog 20 #[(aG (Bt x))] w (Ak w (Value.slice none 0 0)):=by
 have lx:=CV (W:=w) hx
 refine Ag (args:=[(aG (Bt x))]) (L:=[AJ x.a.p (x.cs),AJ x.b.p (x.es),AJ x.c.p (x.ds)]) func20 O O (AV O) (C4 hx Ao) (AE.subF (sL [0] O) (q4 (B0 (cs:=Bt x) O λb1=>AI O (q3 (sL [1,2] O) (BC 0 CF O (AC.callR (S:=S) (α:=SX [] false) (args:=[(aG (Bt x))]) call15 (λw hw=>Lm x hu w (Bc hw 1 O lx)) O O O λsx lsx=>AM O (AK (AX (v:=(Value.map (some sx.b))) O O) O (AK (AX (v:=(Value.bool false)) O O) O (AI O ?_)))))))))
 refine AI O (q6 (sL [1,2,3,4] O) (q4 (AM O (AK (BF (c:=true) O O) O (AC.nil (OkQ.subF (sL [1,2,3,18] O) (OkQ.then_ (AE.cond_true O (q4 (AI O (AC.nil ?_)))))))))))
 exact OkQ.subF (sL [1,2,3] O) (OkQ.then_ (AE.ret (OkQ.then_ret (AS O (AZ (v:=(Value.slice none 0 0)) O) (λw hw=>⟨rfl,hw.out⟩)))))
theorem P9 {N M K:Nat} (x:RU N M K) (hu:∀(S:Nat->Prop) (w:World),Ro S w x->Calls prog 35 #[(aG (Bt x))] w (Ak w (Value.bool false))) (w:World) {S:Nat->Prop} (hx:Ro S w x):Calls prog 22 #[(aG (Bt x))] w (Ak w (Value.tuple #[(Value.slice none 0 0),(vI 0)])):=by
 have lx:=CV (W:=w) hx
 refine Ag (args:=[(aG (Bt x))]) (L:=[AJ x.a.p (x.cs),AJ x.b.p (x.es),AJ x.c.p (x.ds)]) func22 O O (AV O) (C4 hx Ao) (AE.subF (sL [0] O) (q4 (B0 (cs:=Bt x) O λb1=>AI O (AI O (AC.nil (OkQ.subF (sL [1,2,3] O) (OkQ.then_ (AE.scope (AE.seq (q4 ?_))))))))))
 refine BC 0 CF O (Cc call35 (λw hw=>hu _ w (Bc hw 1 O lx)) O (AK (BF (c:=true) O O) O (AM O (AC.skip (AD O) O (AV O) (AC.skip (AD O) O (AV O) (AC.skip (AD O) O (AV O) (AC.skip (AD O) O (AV O) (AK (v:=(Value.bool true)) (AR O O) O (AC.nil (OkQ.subF (sL [1,2,3,25] O) (OkQ.then_ ?_)))))))))))
 exact AE.cond_true O (q4 (AI O (AI O (AC.nil (OkQ.subF (sL [1,2,3] O) (OkQ.then_ (AE.ret (OkQ.then_ret (OkQ.scope_ret (Bo O (AZ (v:=(Value.slice none 0 0)) O) (AZ (v:=(vI 0)) O) (λw hw=>⟨rfl,hw.out⟩)))))))))))
theorem Qw {N M K:Nat} (x:RU N M K) (hu:∀(S:Nat->Prop) (w:World),Ro S w x->Calls prog 35 #[(aG (Bt x))] w (Ak w (Value.bool false))) (w:World) {S:Nat->Prop} (hx:Ro S w x):Calls prog 25 #[(aG (Bt x))] w (Ak w (vI 0)):=by
 have lx:=CV (W:=w) hx
 refine Ag (args:=[(aG (Bt x))]) (L:=[AJ x.a.p (x.cs),AJ x.b.p (x.es),AJ x.c.p (x.ds)]) func25 O O (AV O) (C4 hx Ao) (AE.subF (sL [0] O) (q4 (B0 (cs:=Bt x) O λb1=>AI O (q6 (sL [1,2] O) (q4 (BC 0 CF O (Cc call35 (λw hw=>hu _ w (Bc hw 1 O lx)) O (AK (BF (c:=true) O O) O (AC.nil (OkQ.subF (sL [1,2,10] O) ?_))))))))))
 exact OkQ.then_ (AE.cond_true O (q4 (AI O (AC.nil (OkQ.subF (sL [1,2] O) (OkQ.then_ (AE.ret (OkQ.then_ret (AS O (AZ (v:=(vI 0)) O) (λw hw=>⟨rfl,hw.out⟩))))))))))
theorem WV {N M K:Nat} (x:RU N M K) (hu:∀(S:Nat->Prop) (w:World),Ro S w x->Calls prog 35 #[(aG (Bt x))] w (Ak w (Value.bool false))) (w:World) {S:Nat->Prop} (hx:Ro S w x):Calls prog 27 #[(aG (Bt x))] w (Ak w (vI 0)):=by
 have lx:=CV (W:=w) hx
 refine Ag (args:=[(aG (Bt x))]) (L:=[AJ x.a.p (x.cs),AJ x.b.p (x.es),AJ x.c.p (x.ds)]) func27 O O (AV O) (C4 hx Ao) (AE.subF (sL [0] O) (q4 (B0 (cs:=Bt x) O λb1=>AI O (q3 (sL [1,2] O) (BC 0 CF O (Cc call22 (λw hw=>P9 x hu w (Bc hw 1 O lx)) O (AM O (AK (AX (v:=(Value.slice none 0 0)) O O) O (AK (AX (v:=(vI 0)) O O) O (AI O ?_))))))))))
 exact AI O (q3 (sL [1,2,4] O) (AM O (BC 0 CF O (Cc call25 (λw hw=>Qw x hu w (Bc hw 1 O lx)) O (AK (BO (c:=(0:Int)) O O (by decide)) O (AI O (AC.nil (OkQ.subF (sL [1,2] O) (OkQ.then_ (AE.ret (AS O (AZ (v:=(vI 0)) O) (λw hw=>⟨rfl,hw.out⟩))))))))))))
theorem Td {N M K:Nat} (x:RU N M K) (hu:∀(S:Nat->Prop) (w:World),Ro S w x->Calls prog 39 #[(aG (Bt x))] w (Ak w (Value.bool false))) (w:World) {S:Nat->Prop} (hx:Ro S w x):Calls prog 18 #[(aG (Bt x))] w (Ak w (Value.bool false)):=by
 have lx:=CV (W:=w) hx
 refine Ag (args:=[(aG (Bt x))]) (L:=[AJ x.a.p (x.cs),AJ x.b.p (x.es),AJ x.c.p (x.ds)]) func18 O O (AV O) (C4 hx Ao) (AE.subF (sL [0] O) (q4 (B0 (cs:=Bt x) O λb1=>AI O (q6 (sL [1,2] O) (q4 (BC 0 CH O (Cc call39 (λw hw=>hu _ w (Bc hw 1 O lx)) O (AK (BF (c:=true) O O) O (AC.nil (OkQ.subF (sL [1,2,7] O) ?_))))))))))
 exact OkQ.then_ (AE.cond_true O (q4 (AI O (AC.nil (OkQ.subF (sL [1,2] O) (OkQ.then_ (AE.ret (OkQ.then_ret (AS O (AZ (v:=(Value.bool false)) O) (λw hw=>⟨rfl,hw.out⟩))))))))))
theorem VJ {N M K:Nat} (x:RU N M K) (hu:∀(S:Nat->Prop) (w:World),Ro S w x->Calls prog 39 #[(aG (Bt x))] w (Ak w (Value.bool false))) (w:World) {S:Nat->Prop} (hx:Ro S w x):Calls prog 23 #[(aG (Bt x))] w (Ak w (Value.tuple #[(Value.slice none 0 0),(vI 0)])):=by
 have lx:=CV (W:=w) hx
 refine Ag (args:=[(aG (Bt x))]) (L:=[AJ x.a.p (x.cs),AJ x.b.p (x.es),AJ x.c.p (x.ds)]) func23 O O (AV O) (C4 hx Ao) (AE.subF (sL [0] O) (q4 (B0 (cs:=Bt x) O λb1=>AI O (AI O (q6 (sL [1,2,3] O) (q4 (BC 0 CH O (Cc call39 (λw hw=>hu _ w (Bc hw 1 O lx)) O (AK (BF (c:=true) O O) O (AC.nil ?_))))))))))
 exact OkQ.subF (sL [1,2,3,15] O) (OkQ.then_ (AE.cond_true O (q4 (AI O (AI O (AC.nil (OkQ.subF (sL [1,2,3] O) (OkQ.then_ (AE.ret (OkQ.then_ret (Bo O (AZ (v:=(Value.slice none 0 0)) O) (AZ (v:=(vI 0)) O) (λw hw=>⟨rfl,hw.out⟩))))))))))))
theorem TX {N M K:Nat} (x:RU N M K) (hu:∀(S:Nat->Prop) (w:World),Ro S w x->Calls prog 39 #[(aG (Bt x))] w (Ak w (Value.bool false))) (w:World) {S:Nat->Prop} (hx:Ro S w x):Calls prog 26 #[(aG (Bt x))] w (Ak w (vI 0)):=by
 have lx:=CV (W:=w) hx
 refine Ag (args:=[(aG (Bt x))]) (L:=[AJ x.a.p (x.cs),AJ x.b.p (x.es),AJ x.c.p (x.ds)]) func26 O O (AV O) (C4 hx Ao) (AE.subF (sL [0] O) (q4 (B0 (cs:=Bt x) O λb1=>AI O (q6 (sL [1,2] O) (q4 (BC 0 CH O (Cc call39 (λw hw=>hu _ w (Bc hw 1 O lx)) O (AK (BF (c:=true) O O) O (AC.nil (OkQ.subF (sL [1,2,7] O) ?_))))))))))
 exact OkQ.then_ (AE.cond_true O (q4 (AI O (AC.nil (OkQ.subF (sL [1,2] O) (OkQ.then_ (AE.ret (OkQ.then_ret (AS O (AZ (v:=(vI 0)) O) (λw hw=>⟨rfl,hw.out⟩))))))))))
theorem Mf {N M K:Nat} (x:RU N M K) (hp:∀(S:Nat->Prop) (w:World),Ro S w x->Calls prog 18 #[(aG (Bt x))] w (Ak w (Value.bool false))) (w:World) {S:Nat->Prop} (hx:Ro S w x):Calls prog 17 #[(aG (Bt x))] w (Ak w (Value.slice none 0 0)):=by
 have lx:=CV (W:=w) hx
 refine Ag (args:=[(aG (Bt x))]) (L:=[AJ x.a.p (x.cs),AJ x.b.p (x.es),AJ x.c.p (x.ds)]) func17 O O (AV O) (C4 hx Ao) (AE.subF (sL [0] O) (q4 (B0 (cs:=Bt x) O λb1=>AI O (q3 (sL [1,2] O) (AI O (AC.nil (q1 (q4 (BC 0 CH O (Cc call18 (λw hw=>hp _ w (Bc hw 1 O lx)) O ?_))))))))))
 refine AK (BF (c:=true) O O) O (AC.nil (OkQ.subF (sL [1,2,3,10] O) (OkQ.then_ (AE.cond_true O (q4 (AM O (AI O (AC.nil (OkQ.subF (sL [1,2,3] O) (OkQ.then_ (AE.ret ?_)))))))))))
 exact OkQ.then_ret (AS O (AZ (v:=(Value.slice none 0 0)) O) (λw hw=>⟨rfl,hw.out⟩))
theorem Yx:HH prog 122 4 (.bool false) 1:=⟨underlying122,_,_,rfl,rfl,rfl,rfl,rfl⟩
theorem NI {N M K:Nat} (x:RU N M K) (hp:∀(S:Nat->Prop) (w:World),Ro S w x->Calls prog 18 #[(aG (Bt x))] w (Ak w (Value.bool false))) (w:World) {S:Nat->Prop} (hx:Ro S w x):Calls prog 21 #[(aG (Bt x))] w (Ak w (Value.slice none 0 0)):=by
 have lx:=CV (W:=w) hx
 refine Ag (args:=[(aG (Bt x))]) (L:=[AJ x.a.p (x.cs),AJ x.b.p (x.es),AJ x.c.p (x.ds)]) func21 O O (AV O) (C4 hx Ao) (AE.subF (sL [0] O) (q4 (B0 (cs:=Bt x) O λb1=>AI O (q3 (sL [1,2] O) (BC 0 CH O (Cc call17 (λw hw=>Mf x hp w (Bc hw 1 O lx)) O (AI O (q3 (sL [1,2,3] O) (AI O (AC.nil ?_))))))))))
 refine q2 (AM O (AK (v:=(vI 0)) (AF O underlying76) O (AC.makeBool (m:=0) Yx O O Z O O λbm hbm=>AI O (AC.nil (OkQ.subF (sL [1,2,3,4,5] O) (OkQ.then_ (AE.block (AE.unroll 1 (FF.step (AE.block ?_))))))))))
 refine q4 (AI O (AC.nil (q1 (q4 (AI O (AC.nil (OkQ.then_ (AE.block (AE.unroll 1 (FF.step (AE.seq ?_)))))))))))
 refine q4 (AM O (AM O (AK (v:=(vI 0)) (AF O underlying76) O (AK (Ad (c:=false) O O (by decide)) O (AC.nil (OkQ.subF (sL [1,2,3,4,5,6,7,21] O) (OkQ.then_ (AE.cond_false O (AE.exit (OkQ.then_exit (OkQ.then_exit ?_)))))))))))
 refine OkQ.in_exit (q1 (q4 (AM O (AK (Ad (c:=true) O O (by decide)) O (AC.nil (OkQ.subF (sL [1,2,3,4,5,6,7,74] O) (OkQ.then_ (AE.cond_true O (q4 (AM O (AI O ?_)))))))))))
 exact AC.nil (OkQ.subF (sL [1,2,3,4,5,6,7] O) (OkQ.then_ (AE.ret (OkQ.then_ret (OkQ.in_ret (OkQ.then_ret (OkQ.in_ret (AS O (AZ (v:=(Value.slice none 0 0)) O) (λw hw=>⟨rfl,hw.out⟩)))))))))
end
section
def BI (n:Nat) (p:Int):Bool:=decide (0<=p)&&decide (p<(n:Int))
def OJ (n:Nat) (t:Z3):Bool:=BI n t.1&&BI n t.2.1&&BI n t.2.2&&!decide (t.1=t.2.1)&&!decide (t.2.1=t.2.2)&&!decide (t.2.2=t.1)
def E5 (n:Nat) (ts:List Z3):Bool:=ts.all (OJ n)
def idxZ (n:Nat):List Z3->Nat->Int
  | [],_ => -1
  | t::r,i=>if OJ n t=true then idxZ n r (i+1) else (i:Int)
theorem Ru {n:Nat} {ts:List Z3} {j:Nat} (hj:j<ts.length) (h:OJ n (ts.getD j (0,0,0))=true):idxZ n (ts.drop j) j=idxZ n (ts.drop (j+1)) (j+1):=by
  rw [JH (d:=(0,0,0)) hj];exact if_pos h
theorem Tz {n:Nat} {ts:List Z3} {j:Nat} (hj:j<ts.length) (h:OJ n (ts.getD j (0,0,0))=false):idxZ n (ts.drop j) j=(j:Int):=by
  rw [JH (d:=(0,0,0)) hj];exact if_neg (by rw [h];exact Bool.false_ne_true)
theorem T_ {n:Nat} {ts:List Z3} {j:Nat} (hj:¬j<ts.length):idxZ n (ts.drop j) j = -1:=by
  rw [List.drop_of_length_le Z];rfl
theorem LY (n:Nat):∀(ts:List Z3) (i:Nat),decide (0<=idxZ n ts i)=!E5 n ts
  | [],i=>rfl
  | t::r,i=>by
    unfold idxZ E5
    rw [List.all_cons]
    cases h:OJ n t with
    | true=>rw [if_pos rfl,Bool.true_and];exact LY n r (i+1)
    | false=>rw [if_neg Bool.false_ne_true,Bool.false_and];simp
theorem Ud {n:Nat} {ts:List Z3} (h:∀j,j<ts.length->OJ n (ts.getD j (0,0,0))=true):E5 n ts=true:=List.all_eq_true.2 λt ht=>by
  obtain ⟨j,hj,rfl⟩:=List.getElem_of_mem ht
  have:=h j hj
  rwa [List.getD,List.getElem?_eq_getElem hj] at this
theorem XE {n:Nat} {ts:List Z3} {j:Nat} (hj:j<ts.length) (h:OJ n (ts.getD j (0,0,0))=false):E5 n ts=false:=by
  cases e:E5 n ts with
  | false=>rfl
  | true =>
    have h1:=List.all_eq_true.1 e _ (List.getElem_mem hj)
    rw [List.getD,List.getElem?_eq_getElem hj] at h
    have h:OJ n ts[j]=false:=h
    rw [h] at h1;cases h1
def Kp (t:Z3):Tq3:=(t.1.toNat,t.2.1.toNat,t.2.2.toNat)
theorem QC {n:Nat} {t:Z3} (h:OJ n t=true):OG n (Kp t)=true/\Bg t=Am (Kp t):=by
  obtain ⟨a,b,c⟩:=t
  unfold OJ BI at h
  simp only [Bool.and_eq_true,Bool.not_eq_true',decide_eq_true_eq,decide_eq_false_iff_not] at h
  obtain ⟨⟨⟨⟨⟨⟨h1,h2⟩,h3,h4⟩,h5,h6⟩,h7⟩,h8⟩,h9⟩:=h
  refine ⟨?_,?_⟩
  · unfold OG Kp
    simp only [Bool.and_eq_true,Bool.not_eq_true',decide_eq_true_eq,decide_eq_false_iff_not]
    refine ⟨⟨⟨⟨⟨?_,?_⟩,?_⟩,?_⟩,?_⟩,?_⟩<;>omega
  · show [vI a,vI b,vI c]=[vN a.toNat,vN b.toNat,vN c.toNat]
    rw [show vN a.toNat=vI a from congrArg vI (Int.toNat_of_nonneg h1),show vN b.toNat=vI b from congrArg vI (Int.toNat_of_nonneg h3),show vN c.toNat=vI c from congrArg vI (Int.toNat_of_nonneg h5)]
theorem S4 {n:Nat} {zs:List Z3} (h:E5 n zs=true):A_ n (zs.map Kp)=true/\rowsL Bg zs=rowsL Am (zs.map Kp):=by
  unfold E5 A_ rowsL at *
  rw [List.all_eq_true] at h
  refine ⟨List.all_eq_true.2 λt ht=>?_,?_⟩
  · obtain ⟨z,hz,rfl⟩:=List.mem_map.1 ht
    exact (QC (h z hz)).1
  · rw [List.flatMap_map]
    induction zs with
    | nil=>rfl
    | cons z r ih=>rw [List.flatMap_cons,List.flatMap_cons,(QC (h z List.mem_cons_self)).2,ih λx hx=>h x (List.mem_cons_of_mem _ hx)]
structure RQ (N K:Nat) (zs:List Z3) where
  cs:List Value
  ds:List Value
  a:RX cs N
  b:RX (rowsL Bg zs) zs.length
  c:RX ds K
def Ge {N K:Nat} {zs:List Z3} (x:RQ N K zs):List Value:=[x.a.val,x.b.val,x.c.val]
theorem Y9 {N K:Nat} {zs:List Z3} {x:RQ N K zs} {y:As} (hy:y∈[x.a.row,x.b.row,x.c.row]):y.ro=true:=by
  simp only [List.mem_cons,List.not_mem_nil,or_false] at hy
  rcases hy with rfl|rfl|rfl<;>rfl
instance {N K:Nat} {zs:List Z3}:CO (RQ N K zs):=⟨λx=>aG (Ge x),λx=>[x.a.row,x.b.row,x.c.row],λx y hy=>Y9 hy⟩
section
variable {S:Nat->Prop} {w:World} {N K:Nat} {zs ss:List Z3} {ps:List Pt}
theorem bZ {x:RQ N K zs} (h:Ro S w x):Ro S w x.b:=λy hy=>by rcases List.mem_singleton.1 hy with rfl;exact h _ (List.mem_cons_of_mem _ List.mem_cons_self)
def RQ.ru (x:RQ N K zs):RU N zs.length K:=⟨x.cs,rowsL Bg zs,x.ds,x.a,x.b,x.c⟩
theorem ZT {x:RQ N K zs} (h:Ro S w x):Ro S w x.ru:=λy hy=>h y hy
def MZ.rq (x:MZ ps zs ss):RQ ps.length ss.length zs:=⟨rowsL CG ps,rowsL Bg ss,x.a,x.b,x.c⟩
theorem a_ {x:MZ ps zs ss} (h:Ro S w x):Ro S w x.rq:=λy hy=>h y hy
def Sd.rq (x:Sd ps zs ss):RQ x.rs.length ss.length zs:=⟨rowsL QX x.rs,rowsL Bg ss,x.a,x.b,x.c⟩
theorem bX {x:Sd ps zs ss} (h:Ro S w x):Ro S w x.rq:=λy hy=>h y (List.mem_append_left _ hy)
theorem UF (x:RQ N K zs) (h:E5 N zs=true):∃y:RM N (zs.map Kp) (List.replicate K (0,0,0)),A_ N (zs.map Kp)=true/\BN y=Ge x/\∀{S:Nat->Prop} {w:World},Ro S w x->Ro S w y:=by
  obtain ⟨cs,ds,a,b,c⟩:=x
  obtain ⟨h1,h2⟩:=S4 h
  have hl:zs.length=(zs.map Kp).length:=(List.length_map _).symm
  have hk:K=(List.replicate K ((0,0,0):Tq3)).length:=(List.length_replicate).symm
  obtain ⟨bp,bc,bok⟩:=b
  obtain ⟨cp,cc,cok⟩:=c
  refine ⟨⟨cs,ds,a,⟨bp,bc,hl▸bok⟩,⟨cp,cc,hk▸cok⟩⟩,h1,?_,λ{S w} hx y hy=>?_⟩
  · show [a.val,.slice bp (zs.map Kp).length bc,.slice cp (List.replicate K ((0,0,0):Tq3)).length cc]=[a.val,.slice bp zs.length bc,.slice cp K cc]
    rw [<-hl,<-hk]
  · have hy:y∈[a.row,AJ bp (rowsL Am (zs.map Kp)),AJ cp ds]:=hy
    rw [<-h2] at hy
    exact hx y hy
end
end
end Go.Proofs.YtpgncndhhhllfaaGreat
