import Derived.Test.YtpgncndhhhllfaaGreatPart03
import Derived.Test.YtpgncndhhhllfaaGreatPart12
import Derived.Test.YtpgncndhhhllfaaGreatPart19
import Derived.Test.YtpgncndhhhllfaaGreatPart20
import Derived.Test.YtpgncndhhhllfaaGreatPart28
import Derived.Test.YtpgncndhhhllfaaGreatPart29
import Derived.Test.YtpgncndhhhllfaaGreatPart31
import Derived.Test.YtpgncndhhhllfaaGreatPart36
import Derived.Test.YtpgncndhhhllfaaGreatPart39
import Derived.Test.YtpgncndhhhllfaaGreatPart44
import Derived.Test.YtpgncndhhhllfaaGreatPart47
import Derived.Test.YtpgncndhhhllfaaGreatPart48
namespace Go.Proofs.YtpgncndhhhllfaaGreat
open Go Go.RowKit Go.Proofs.Tryz
set_option linter.unusedVariables false
set_option linter.unusedSimpArgs false
section
def cj (m:MQ):List P2:=(Tf m (BK m).length).1
def XC (m:MQ):List T3:=(Tf m (BK m).length).2
def ak (m:MQ):List Pt:=Pd m (C5 m (cj m)) (cj m).length
theorem X2 {m:MQ} {ps:List Pt} {ts:List T3} (h:ZZ m ps ts):ts=XC m/\ps=ak m:=by
  obtain ⟨pl,hi,_,hp⟩:=h
  have h1:pl=cj m:=congrArg Prod.fst hi.fn
  have h2:ts=XC m:=congrArg Prod.snd hi.fn
  subst h1
  exact ⟨h2,hp⟩
theorem Y1 {m:MQ} (x:WM m):x.pl=cj m/\x.ts=XC m:=⟨congrArg Prod.fst x.inv.fn,congrArg Prod.snd x.inv.fn⟩
structure Wq (ps:List Pt) (ts ss:List T3) where
  rs:List RP
  e:rs.map (·.p)=ps
  a:RX (rowsL PS rs) rs.length
  b:RX (rowsL AZ ts) ts.length
  c:RX (rowsL AZ ss) ss.length
def Wq.rm {ps:List Pt} {ts ss:List T3} (x:Wq ps ts ss):RM x.rs.length ts ss:=⟨rowsL PS x.rs,x.a,x.b,x.c⟩
def cA {ps:List Pt} {ts ss:List T3} (x:Wq ps ts ss):List Value:=Bt x.rm
theorem VE {ps:List Pt} {ts ss:List T3} {x:Wq ps ts ss} {y:As} (hy:y∈[x.a.row,x.b.row,x.c.row]++Jo x.rs):y.ro=true:=by
  rcases List.mem_append.1 hy with hy|hy
  · simp only [List.mem_cons,List.not_mem_nil,or_false] at hy
    rcases hy with rfl|rfl|rfl<;>rfl
  · exact UW hy
instance {ps:List Pt} {ts ss:List T3}:Cf (Wq ps ts ss):=⟨λx=>aG (cA x),λx=>[x.a.row,x.b.row,x.c.row]++Jo x.rs,λx y hy=>VE hy⟩
theorem Wq.len {ps:List Pt} {ts ss:List T3} (x:Wq ps ts ss):x.rs.length=ps.length:=by
  have h:=congrArg List.length x.e
  rwa [List.length_map] at h
section
variable {S:Nat->Prop} {w W:World} {w0:BL} {L A:List As} {ps:List Pt} {ts ss:List T3} {rs:List RP}
theorem dV {x:Wq ps ts ss} (h:Ro S w x):Ro S w x.rm:=λy hy=>h y (List.mem_append_left _ (show y∈[x.a.row,x.b.row,x.c.row] from hy))
theorem bG {x:Wq ps ts ss} (hw:BS w0 w L) (i:Nat) (hi:(L.drop i).take 3=[x.a.row,x.b.row,x.c.row]) (hs:∀y∈Jo x.rs,y∈L) (ha:At w0 S x):Ro (SL w0 S L) w x:=λy hy=>by
  have hy':y∈[x.a.row,x.b.row,x.c.row]++Jo x.rs:=hy
  have hm:y∈L:=by
    rcases List.mem_append.1 hy' with hy|hy
    · exact List.mem_of_mem_drop (List.mem_of_mem_take (hi▸hy))
    · exact hs y hy
  exact ⟨λb e=>(hw.2.1 y hm b e).2,λb e=>⟨⟨y,hm,VE hy',e⟩,ha y hy b e⟩⟩
end
structure cQ (m:MQ) where
  ss:List T3
  o:Wq (ak m) (XC m) ss
instance {m:MQ}:Cf (cQ m):=⟨λx=>Cf.val x.o,λx=>Cf.rows x.o,λx y hy=>Cf.ro x.o y hy⟩
theorem aI {S:Nat->Prop} {m:MQ} {w W:World} {A:List As} {rs:List RP} {ts ss:List T3} (hw:BS ⟨W,none⟩ w (A++Jo rs)) (i j k:Nat) {p1 p2 p3:Option Addr} {T1 T3' n1 n2 n3 c1 c2 c3:Nat} (h1:A[i]?=some (rowW p1 T1 6 n1 c1 (rowsL PS rs))) (h2:A[j]?=some (AK p2 (rowsL AZ ts))) (h3:A[k]?=some (rowW p3 T3' 3 n3 c3 (rowsL AZ ss)))
    (o1:OwnOk p1 n1 c1) (o2:Aw p2 n2 c2) (b2:∀b,p2.map (·.block)=some b->Nw ⟨W,none⟩ S b) (o3:OwnOk p3 n3 c3) (e1:n1=rs.length) (e2:n2=ts.length) (e3:n3=ss.length) (he:rs.map (·.p)=ak m) (ht:ts=XC m) (hat:∀y∈Jo rs,∀b,y.foot=some b->Nw ⟨W,none⟩ S b)
    {v:Value} (hv:v=aG [.slice p1 n1 c1,.slice p2 n2 c2,.slice p3 n3 c3]):Am (cQ m) S W (.returned v) w:=by
  subst e1;subst e2;subst e3;subst ht
  have up:∀{i:Nat} {x:As},A[i]?=some x->(A++Jo rs)[i]?=some x:=λ{i x} h=>by rw [List.getElem?_append_left (List.getElem?_eq_some_iff.1 h).1];exact h
  refine ⟨⟨ss,⟨rs,he,⟨p1,c1,o1.row⟩,⟨p2,c2,o2⟩,⟨p3,c3,o3.row⟩⟩⟩,by rw [hv];rfl,hw.out,λy hy=>?_⟩
  have hy:y∈[AK p1 (rowsL PS rs),AK p2 (rowsL AZ (XC m)),AK p3 (rowsL AZ ss)]++Jo rs:=hy
  rcases List.mem_append.1 hy with hy|hy
  · simp only [List.mem_cons,List.not_mem_nil,or_false] at hy
    rcases hy with rfl|rfl|rfl
    · exact Db hw i (up h1) o1 (Al Rp _)
    · exact ⟨hw.holds (up h2),λb e=>b2 b e⟩
    · exact Db hw k (up h3) o3 (Al Aa _)
  · exact ⟨λb e=>(hw.2.1 _ (List.mem_append_right _ hy) b e).2,hat y hy⟩
end
section
set_option maxRecDepth 100000
theorem cE:ElemT prog 35 99 6 112:=⟨underlying35,CR (by kernel_rfl)⟩
theorem Ja (x0:Tq3):Instr.fill (λi=>some (i*3,3)) ((Array.range (1*3)).map ((Value.agg (AZ ((0,0,0):Tq3)).toArray).cells[·%(Value.agg (AZ ((0,0,0):Tq3)).toArray).cells.size]!)) [(0,.agg (AZ x0).toArray)]=some (AZ x0).toArray:=by kernel_rfl
set_option maxHeartbeats 1000000 in
theorem Yh (m:MQ) (w:World) {S:Nat->Prop} (hm:Ro S w m):Calls prog 8 #[(aG (Df m))] w (Am (cQ m) S w):=by
 have hd:=m.hden
 have hdm:B7 m<256:=by unfold B7;omega
 have lm:=Dk (W:=w) hm
 refine An (args:=[(aG (Df m))]) (L:=[AK m.p (Cb m.cs)]) func8 O O (Ad O) (E3 hm BA) (AE.subF (sL [0] O) (q4 (Ca (cs:=Df m) O λb1=>al cO O λb2=>q3 (sL [1,2] O) (BF 1 JV O (AC.callR (S:=S) (α:=WM m) (args:=[(aG (Df m))]) call13 (λw hw=>SC m w (Br hw 2 O lm)) O O O λgx lgx=>al X1 O λb3=>BN O sizeOf48 O (q3 (sL [1,2,3] O) (al cO O λb4=>?_)))))))
 refine AC.nilRow 99 6 (AC.nilRow 101 3 (AC.nil (q2 (AJ (v:=(pP b1 7)) (AB O underlying26 O sizeOf5 O) O (BE 8 (vK .u8 m.den) Ti O (AJ (Bg (c:=((m.den%6:Nat):Int)) O O Z (F3 (a:=m.den) (b:=6))) O (AJ (AQ (c:=((B7 m:Nat):Int)) O O (R0 (a:=1) (b:=m.den%6) Z)) O (AJ (Ax (c:=((B7 m:Nat):Int)) O underlying5 underlying50 (CQ Z)) O (AI O (q6 (sL [1,2,3,4,5] O) (q4 ?_)))))))))))
 refine AI O (AC.nil (OkQ.then_ (AE.block ?_)))
 refine AE.lp4 (tg λ(i:Nat) (p1:Option Addr) (c1:Nat) (rs:List RP)=>i<=gx.pl.length/\OwnOk p1 rs.length c1/\rs.map (·.p)=Pd m (C5 m gx.pl) i/\∀y∈Jo rs,∀b,y.foot=some b->Nw ⟨w,none⟩ S b) (tg λ(i:Nat) (p1:Option Addr) (c1:Nat) (rs:List RP)=>[(2,(pP b2 0)),(3,(pP b3 0)),(4,(pP b4 0)),(5,(vK .u32 (B7 m))),(6,(vN i))]) (tg λ(i:Nat) (p1:Option Addr) (c1:Nat) (rs:List RP)=>(rowW none 101 3 0 0 (rowsL AZ ([]))::rowW p1 99 6 rs.length c1 (rowsL PS rs)::Af b4 38 ([(Value.slice p1 rs.length c1),(Value.slice none 0 0),(Value.slice none 0 0)])::Af b3 48 ([(Value.slice gx.a.p gx.pl.length gx.a.c),(Value.slice gx.b.p gx.ts.length gx.b.c),(Value.slice gx.c.p gx.ss.length gx.c.c)])::AK gx.a.p (rowsL CF (C5 m gx.pl))::AK gx.b.p (rowsL AZ gx.ts)::AK gx.c.p (rowsL AZ gx.ss)::Af b2 38 ([(Value.slice none 0 0),(Value.slice none 0 0),(Value.slice none 0 0)])::Af b1 26 (Df m)::AK m.p (Cb m.cs)::Jo rs)) (tg λ(i:Nat) (p1:Option Addr) (c1:Nat) (rs:List RP)=>gx.pl.length-i) 0 none 0 ([]:List RP) (⟨Nat.zero_le _,OwnOk.none,rfl,(λy hy=>by cases hy)⟩) (sF O) sr (λi p1 c1 rs hJ=>?_)
 obtain ⟨hi,h1,hps,hat⟩:=hJ
 have hzl:(C5 m gx.pl).length=gx.pl.length:=by simp [C5]
 have hll:=gx.inv.pll
 have hcl:=Fh m
 have hpl:rs.length<=108:=by rw [<-List.length_map (f:=(·.p)),hps,Js (by rw [hzl];omega)];omega
 refine AE.seq (q4 (AM O (AJ (v:=(pP b3 0)) (AB O underlying48 O sizeOf46 O) O (BE 3 (Value.slice gx.a.p gx.pl.length gx.a.c) NJ O (AJ (v:=(vN gx.pl.length)) (AF O underlying46) O (AJ (Ac (c:=(decide (i<gx.pl.length))) O O (CD (a:=i) (b:=gx.pl.length))) O (AC.nil (OkQ.subF (sL [2,3,4,5,6,20] O) (OkQ.then_ ?_)))))))))
 refine AE.cond O (λhc0=>?_) (λhc0=>?_)
 ·replace hc0:=of_decide_eq_true hc0
  refine AE.skip (q1 (AE.block (AE.seq (Ck [(0,true),(1,true),(2,true),(3,true),(4,true),(5,true),(6,true),(7,true),(8,true),(9,true),(10,true),(11,true),(12,true),(13,true),(14,true),(15,true),(16,true),(17,false),(18,false)] sr (Ao (v:=(pP b3 0)) O (AB O underlying48 O sizeOf46 O) (Bk 3 (Value.slice gx.a.p gx.pl.length gx.a.c) NJ O (BT O (Ao (v:=(pP (pB gx.a.p) (pO gx.a.p+i*2))) O (AG (j:=i) O O gx.a.ok underlying46 sizeOf51 O Z) (Ao (v:=(pP (pB gx.a.p) (pO gx.a.p+(i*2+0)))) O (AD (j:=0) O O underlying51 sizeOf2 O (by decide) (Nat.add_assoc _ _ _)) (Ao O (AL (v:=(vI (((C5 m gx.pl).getD i ((0,0):Int×Int)).1))) (i:=4) O O (Aw.ne gx.a.ok Z) LO (Az EP ((0,0):Int×Int) _ _ 0 Z (by decide) O)) (BT O ?_)))))))))))
  refine Ao (v:=(aG ([(vI (((C5 m gx.pl).getD i ((0,0):Int×Int)).1)),(vK .u32 (B7 m))]))) O (AY (zs:=[(vI 0),(Value.int .u32 (0:Int))]) (vs:=[(vI (((C5 m gx.pl).getD i ((0,0):Int×Int)).1)),(vK .u32 (B7 m))]) (pv:=[(0,(vI (((C5 m gx.pl).getD i ((0,0):Int×Int)).1))),(1,(vK .u32 (B7 m)))]) (places:=[(0,1),(1,1)]) zeroValue53 underlying53 (λw=>by simp [sizeOf2,sizeOf50]) O O) (Ao (v:=(pP b3 0)) O (AB O underlying48 O sizeOf46 O) (Bk 3 (Value.slice gx.a.p gx.pl.length gx.a.c) NJ O (BT O (Ao (v:=(pP (pB gx.a.p) (pO gx.a.p+i*2))) O (AG (j:=i) O O gx.a.ok underlying46 sizeOf51 O Z) (Ao (v:=(pP (pB gx.a.p) (pO gx.a.p+(i*2+1)))) O (AD (j:=1) O O underlying51 sizeOf2 O (by decide) (Nat.add_assoc _ _ _)) (Ao O (AL (v:=(vI (((C5 m gx.pl).getD i ((0,0):Int×Int)).2))) (i:=4) O O (Aw.ne gx.a.ok Z) LO (Az EP ((0,0):Int×Int) _ _ 1 Z (by decide) O)) (BT O (Ao (v:=(aG ([(vI (((C5 m gx.pl).getD i ((0,0):Int×Int)).2)),(vK .u32 (B7 m))]))) O (AY (zs:=[(vI 0),(Value.int .u32 (0:Int))]) (vs:=[(vI (((C5 m gx.pl).getD i ((0,0):Int×Int)).2)),(vK .u32 (B7 m))]) (pv:=[(0,(vI (((C5 m gx.pl).getD i ((0,0):Int×Int)).2))),(1,(vK .u32 (B7 m)))]) (places:=[(0,1),(1,1)]) zeroValue53 underlying53 (λw=>by simp [sizeOf2,sizeOf50]) O O) (Ao (v:=(aG ([(vI (((C5 m gx.pl).getD i ((0,0):Int×Int)).1)),(vK .u32 (B7 m)),(vI (((C5 m gx.pl).getD i ((0,0):Int×Int)).2)),(vK .u32 (B7 m))]))) O (AY (zs:=[(vI 0),(Value.int .u32 (0:Int)),(vI 0),(Value.int .u32 (0:Int))]) (vs:=[(vI (((C5 m gx.pl).getD i ((0,0):Int×Int)).1)),(vK .u32 (B7 m)),(vI (((C5 m gx.pl).getD i ((0,0):Int×Int)).2)),(vK .u32 (B7 m))]) (pv:=[(0,(aG ([(vI (((C5 m gx.pl).getD i ((0,0):Int×Int)).1)),(vK .u32 (B7 m))]))),(1,(aG ([(vI (((C5 m gx.pl).getD i ((0,0):Int×Int)).2)),(vK .u32 (B7 m))])))]) (places:=[(0,2),(2,2)]) zeroValue55 underlying55 (λw=>by simp [sizeOf53]) O O) (OkE.imp O (al bb O λb5=>?_)))))))))))
  refine OkE.back (sl sr) (OkE.imp O (BN O sizeOf55 O (OkE.back (sl sr) (OkE.nil (OkQ.subF (sL [2,3,4,5,6,7] O) (OkQ.then_ (rC [(0,true),(1,true),(2,true),(3,false),(4,false),(5,false),(6,true)] 7 [] (sk (sk (sl sr))) (sk (sk (sl sr))) (by kernel_rfl) (λ_ _ d _ _ h=>by cases d<;>exact h) (vE (v:=(pP b4 0)) O (AB O underlying38 O sizeOf35 O) O (vE O (AS (i:=2) (v:=(Value.slice p1 rs.length c1)) O O QA.a O) O (vE (v:=(aG ([(vI (((C5 m gx.pl).getD i ((0,0):Int×Int)).1)),(vK .u32 (B7 m)),(vI (((C5 m gx.pl).getD i ((0,0):Int×Int)).2)),(vK .u32 (B7 m))]))) O (BB (i:=0) (vs:=[(vI (((C5 m gx.pl).getD i ((0,0):Int×Int)).1)),(vK .u32 (B7 m)),(vI (((C5 m gx.pl).getD i ((0,0):Int×Int)).2)),(vK .u32 (B7 m))]) O O W5.a W5.s O O) O (Cj.imp O ?_)))))))))))
  refine cP (S:=S) (x:=(EQ (RU m ((C5 m gx.pl).getD i (0,0))))) (args:=[(aG ([(vI (((C5 m gx.pl).getD i ((0,0):Int×Int)).1)),(vK .u32 (B7 m)),(vI (((C5 m gx.pl).getD i ((0,0):Int×Int)).2)),(vK .u32 (B7 m))]))]) call28 (λw hw=>XW (RU m ((C5 m gx.pl).getD i (0,0))) (Wj gx.inv.small Z) w) O O O λg1 lg1=>Cj.back (sl (sl (sl (sl (sk (sk (sl sr))))))) (Cj.imp O (AC.openV (V:=λb6=>(Value.slice (some ⟨b6,0,none⟩) 1 1)) (T:=99) (cs:=Y4 g1) (AP O) (Ai (z:=.agg #[(Value.bool false),(Value.slice none 0 0),(Value.slice none 0 0),(Value.bool false),(Value.slice none 0 0),(Value.slice none 0 0)]) (cs:=Y4 g1) (pv:=[(0,(aG (Y4 g1)))]) underlying35 sizeOf99 zeroValue99 (by decide) (by decide) O (aQ g1)) O (Ad O) λb6=>Cj.back (sl (sl (sl (sl (sl (sk (sk (sl sr)))))))) (Cj.imp O (AC.appendAt 7 (j:=0) (cs2:=rowsL PS (rs++[(⟨_,g1⟩:RP)])) cE O h1 (Al Rp _) O O O O O (by decide) (FE Z) Z (by rw [BJ];rfl) O λp_1 c_1 ho_1 hne_1=>Cj.back (sl (sl (sl (sl (sl (sk (sk (sl sr)))))))) (vE (v:=(pP b4 0)) O (AB O underlying38 O sizeOf35 O) O (Cj.cut O (F2 8 (off:=0) (vs:=[(Value.slice p_1 (rs.length+1) c_1)]) (cs':=[(Value.slice p_1 (rs.length+1) c_1),(Value.slice none 0 0),(Value.slice none 0 0)]) (AP O) O sizeOf35 O (OkE.back (sl (sl (sl (sl (sl (sk (sk (sl (sl sr))))))))) ?_))))))))
  refine OkE.nil (OkQ.subF (sL [2,3,4,5,6,7] O) (OkQ.in_normal (OkQ.then_ (AE.region (AM O (AC.subL (sl sr) (AC.permR (show List.Perm _ (Af b5 55 ([(vI (((C5 m gx.pl).getD i ((0,0):Int×Int)).1)),(vK .u32 (B7 m)),(vI (((C5 m gx.pl).getD i ((0,0):Int×Int)).2)),(vK .u32 (B7 m))])::rowW none 101 3 0 0 (rowsL AZ ([]))::rowW p_1 99 6 (rs.length+1) c_1 (rowsL PS (rs++[(⟨_,g1⟩:RP)]))::Af b4 38 ([(Value.slice p_1 (rs.length+1) c_1),(Value.slice none 0 0),(Value.slice none 0 0)])::Af b3 48 ([(Value.slice gx.a.p gx.pl.length gx.a.c),(Value.slice gx.b.p gx.ts.length gx.b.c),(Value.slice gx.c.p gx.ss.length gx.c.c)])::AK gx.a.p (rowsL CF (C5 m gx.pl))::AK gx.b.p (rowsL AZ gx.ts)::AK gx.c.p (rowsL AZ gx.ss)::Af b2 38 ([(Value.slice none 0 0),(Value.slice none 0 0),(Value.slice none 0 0)])::Af b1 26 (Df m)::AK m.p (Cb m.cs)::Jo (rs++[(⟨_,g1⟩:RP)])) from Zw (⟨_,g1⟩:RP) [Af b5 55 ([(vI (((C5 m gx.pl).getD i ((0,0):Int×Int)).1)),(vK .u32 (B7 m)),(vI (((C5 m gx.pl).getD i ((0,0):Int×Int)).2)),(vK .u32 (B7 m))]),rowW none 101 3 0 0 (rowsL AZ ([])),rowW p_1 99 6 (rs.length+1) c_1 (rowsL PS (rs++[(⟨_,g1⟩:RP)])),Af b4 38 ([(Value.slice p_1 (rs.length+1) c_1),(Value.slice none 0 0),(Value.slice none 0 0)]),Af b3 48 ([(Value.slice gx.a.p gx.pl.length gx.a.c),(Value.slice gx.b.p gx.ts.length gx.b.c),(Value.slice gx.c.p gx.ss.length gx.c.c)]),AK gx.a.p (rowsL CF (C5 m gx.pl)),AK gx.b.p (rowsL AZ gx.ts),AK gx.c.p (rowsL AZ gx.ss),Af b2 38 ([(Value.slice none 0 0),(Value.slice none 0 0),(Value.slice none 0 0)]),Af b1 26 (Df m),AK m.p (Cb m.cs)] rs) (AJ (AQ (c:=((i+1:Nat):Int)) O O (AN (a:=i) (b:=1) Z)) O (AI O (AC.nil (OkQ.subF (sL [2,3,4,5,6,7] O) ?_)))))))))))
  rw [show rs.length+1=(rs++[(⟨_,g1⟩:RP)]).length by simp]
  exact OkQ.round4 (i+1) p_1 c_1 (rs++[(⟨_,g1⟩:RP)]) (⟨Z,(by simpa using ho_1),by rw [List.map_append,hps,N7 (by rw [hzl];omega)];rfl,At.snoc hat lg1⟩) Z (sF O) (sl sr)
 ·replace hc0:=of_decide_eq_false hc0
  have hpf:rs.map (·.p)=ak m:=by rw [hps,show i=gx.pl.length by omega,(Y1 gx).1];rfl
  refine AE.exit (OkQ.then_exit (OkQ.round4_exit (OkQ.in_exit (q2 (AJ (v:=(pP b3 1)) (AB O underlying48 O sizeOf28 O) O (BE 3 (Value.slice gx.b.p gx.ts.length gx.b.c) Bl O (AJ (v:=(pP b4 1)) (AB O underlying38 O sizeOf28 O) O (F2 2 (off:=1) (vs:=[(Value.slice gx.b.p gx.ts.length gx.b.c)]) (cs':=[(Value.slice p1 rs.length c1),(Value.slice gx.b.p gx.ts.length gx.b.c),(Value.slice none 0 0)]) (AP O) O sizeOf28 O (q6 (sL [2,3,4,5,6] O) (q4 (AI O ?_)))))))))))
  refine AC.nil (OkQ.then_ (AE.block ?_))
  refine AE.lp4 (tg λ(j:Nat) (p2:Option Addr) (c2:Nat) (ss:List T3)=>j<=gx.ss.length/\OwnOk p2 ss.length c2/\ss=gx.ss.take j) (tg λ(j:Nat) (p2:Option Addr) (c2:Nat) (ss:List T3)=>[(2,(pP b2 0)),(3,(pP b3 0)),(4,(pP b4 0)),(8,(vN j))]) (tg λ(j:Nat) (p2:Option Addr) (c2:Nat) (ss:List T3)=>(rowW p2 101 3 ss.length c2 (rowsL AZ ss)::rowW p1 99 6 rs.length c1 (rowsL PS rs)::Af b4 38 ([(Value.slice p1 rs.length c1),(Value.slice gx.b.p gx.ts.length gx.b.c),(Value.slice p2 ss.length c2)])::Af b3 48 ([(Value.slice gx.a.p gx.pl.length gx.a.c),(Value.slice gx.b.p gx.ts.length gx.b.c),(Value.slice gx.c.p gx.ss.length gx.c.c)])::AK gx.a.p (rowsL CF (C5 m gx.pl))::AK gx.b.p (rowsL AZ gx.ts)::AK gx.c.p (rowsL AZ gx.ss)::Af b2 38 ([(Value.slice none 0 0),(Value.slice none 0 0),(Value.slice none 0 0)])::Af b1 26 (Df m)::AK m.p (Cb m.cs)::Jo rs)) (tg λ(j:Nat) (p2:Option Addr) (c2:Nat) (ss:List T3)=>gx.ss.length-j) 0 none 0 ([]:List T3) (⟨Nat.zero_le _,OwnOk.none,rfl⟩) (sF O) sr (λj p2 c2 ss hJ=>?_)
  obtain ⟨hj,h2,hss⟩:=hJ
  have hgs:=gx.sl
  have hsl:ss.length<=108*108:=by rw [hss,List.length_take];omega
  refine AE.seq (q4 (AM O (AJ (v:=(pP b3 2)) (AB O underlying48 O sizeOf28 O) O (BE 3 (Value.slice gx.c.p gx.ss.length gx.c.c) Bl O (AJ (v:=(vN gx.ss.length)) (AF O underlying28) O (AJ (Ac (c:=(decide (j<gx.ss.length))) O O (CD (a:=j) (b:=gx.ss.length))) O (AC.nil (OkQ.subF (sL [2,3,4,8,54] O) (OkQ.then_ ?_)))))))))
  refine AE.cond O (λhc1=>?_) (λhc1=>?_)
  ·replace hc1:=of_decide_eq_true hc1
   refine AE.skip (q1 (AE.block (rC [(0,true),(1,true),(2,true),(3,true),(4,true),(5,true),(6,true),(7,true),(8,true),(9,true),(10,true),(11,true),(12,true),(13,true),(14,true),(15,true),(16,true),(17,true),(18,true),(19,true),(20,true),(21,false),(22,false),(23,true)] 24 [] (sl sr) (sk (sl sr)) (by kernel_rfl) (λ_ _ d _ _ h=>by cases d<;>exact h) (vE (v:=(pP b4 2)) O (AB O underlying38 O sizeOf36 O) O (vE O (AS (i:=1) (v:=(Value.slice p2 ss.length c2)) O O c_.a O) O (vE (v:=(pP b3 2)) O (AB O underlying48 O sizeOf28 O) O (vE O (AS (i:=2) (v:=(Value.slice gx.c.p gx.ss.length gx.c.c)) O O Bl.a O) O (vM O O O (vE (v:=(pP (pB gx.c.p) (pO gx.c.p+j*3))) O (AG (j:=j) O O gx.c.ok underlying28 sizeOf68 O Z) O (vE (v:=(pP (pB gx.c.p) (pO gx.c.p+(j*3+0)))) O (AD (j:=0) O O underlying68 sizeOf3 O (by decide) (Nat.add_assoc _ _ _)) O (vE O (AL (v:=(vN ((gx.ss.getD j ((0,0,0):Tq3)).1))) (i:=5) O O (Aw.ne gx.c.ok Z) BY (Az Aa ((0,0,0):Tq3) _ _ 0 Z (by decide) O)) O ?_)))))))))))
   refine vE (v:=(pP b3 2)) O (AB O underlying48 O sizeOf28 O) O (vE O (AS (i:=2) (v:=(Value.slice gx.c.p gx.ss.length gx.c.c)) O O Bl.a O) O (vM O O O (vE (v:=(pP (pB gx.c.p) (pO gx.c.p+j*3))) O (AG (j:=j) O O gx.c.ok underlying28 sizeOf68 O Z) O (vE (v:=(pP (pB gx.c.p) (pO gx.c.p+(j*3+1)))) O (AD (j:=1) O O underlying68 sizeOf3 O (by decide) (Nat.add_assoc _ _ _)) O (vE O (AL (v:=(vN ((gx.ss.getD j ((0,0,0):Tq3)).2.1))) (i:=5) O O (Aw.ne gx.c.ok Z) BY (Az Aa ((0,0,0):Tq3) _ _ 1 Z (by decide) O)) O (vE (v:=(pP b3 2)) O (AB O underlying48 O sizeOf28 O) O (vE O (AS (i:=2) (v:=(Value.slice gx.c.p gx.ss.length gx.c.c)) O O Bl.a O) O (vM O O O (vE (v:=(pP (pB gx.c.p) (pO gx.c.p+j*3))) O (AG (j:=j) O O gx.c.ok underlying28 sizeOf68 O Z) O (vE (v:=(pP (pB gx.c.p) (pO gx.c.p+(j*3+2)))) O (AD (j:=2) O O underlying68 sizeOf3 O (by decide) (Nat.add_assoc _ _ _)) O (vE O (AL (v:=(vN ((gx.ss.getD j ((0,0,0):Tq3)).2.2))) (i:=5) O O (Aw.ne gx.c.ok Z) BY (Az Aa ((0,0,0):Tq3) _ _ 2 Z (by decide) O)) O ?_)))))))))))
   refine vE (v:=(aG ([(vN ((gx.ss.getD j ((0,0,0):Tq3)).1)),(vN ((gx.ss.getD j ((0,0,0):Tq3)).2.1)),(vN ((gx.ss.getD j ((0,0,0):Tq3)).2.2))]))) O (AY (zs:=AZ ((0,0,0):Tq3)) (vs:=[(vN ((gx.ss.getD j ((0,0,0):Tq3)).1)),(vN ((gx.ss.getD j ((0,0,0):Tq3)).2.1)),(vN ((gx.ss.getD j ((0,0,0):Tq3)).2.2))]) (pv:=[(0,(vN ((gx.ss.getD j ((0,0,0):Tq3)).1))),(1,(vN ((gx.ss.getD j ((0,0,0):Tq3)).2.1))),(2,(vN ((gx.ss.getD j ((0,0,0):Tq3)).2.2)))]) (places:=[(0,1),(1,1),(2,1)]) zeroValue101 underlying101 (λw=>by simp [sizeOf3]) O O) O (Cj.imp O (AC.openV (V:=λb5=>(Value.slice (some ⟨b5,0,none⟩) 1 1)) (T:=101) (cs:=AZ (((gx.ss.getD j ((0,0,0):Tq3)).1,(gx.ss.getD j ((0,0,0):Tq3)).2.1,(gx.ss.getD j ((0,0,0):Tq3)).2.2):T3)) (AP O) (Ai (z:=.agg (AZ ((0,0,0):Tq3)).toArray) (cs:=AZ (((gx.ss.getD j ((0,0,0):Tq3)).1,(gx.ss.getD j ((0,0,0):Tq3)).2.1,(gx.ss.getD j ((0,0,0):Tq3)).2.2):T3)) (pv:=[(0,(aG ([(vN ((gx.ss.getD j ((0,0,0):Tq3)).1)),(vN ((gx.ss.getD j ((0,0,0):Tq3)).2.1)),(vN ((gx.ss.getD j ((0,0,0):Tq3)).2.2))])))]) underlying36 sizeOf101 zeroValue101 (by decide) (by decide) O (Ja (((gx.ss.getD j ((0,0,0):Tq3)).1,(gx.ss.getD j ((0,0,0):Tq3)).2.1,(gx.ss.getD j ((0,0,0):Tq3)).2.2):T3))) O (Ad O) λb5=>Cj.back (sl (sl sr)) (Cj.imp O (AC.append1 (j:=0) (cs2:=rowsL AZ (ss++[(((gx.ss.getD j ((0,0,0):Tq3)).1,(gx.ss.getD j ((0,0,0):Tq3)).2.1,(gx.ss.getD j ((0,0,0):Tq3)).2.2):T3)])) cC O h2 (Al Aa _) O O O O (by decide) (FE Z) Z (by rw [BJ];rfl) O λp_2 c_2 ho_2 hne_2=>Cj.back (sl (sl sr)) (vE (v:=(pP b4 2)) O (AB O underlying38 O sizeOf36 O) O (Cj.cut O (F2 3 (off:=2) (vs:=[(Value.slice p_2 (ss.length+1) c_2)]) (cs':=[(Value.slice p1 rs.length c1),(Value.slice gx.b.p gx.ts.length gx.b.c),(Value.slice p_2 (ss.length+1) c_2)]) (AP O) O sizeOf36 O (OkE.back (sl (sl (sk (sl sr)))) (OkE.nil ?_)))))))))
   refine OkQ.subF (sL [2,3,4,8] O) (OkQ.in_normal (OkQ.then_ (AE.region (AM O (AJ (AQ (c:=((j+1:Nat):Int)) O O (AN (a:=j) (b:=1) Z)) O (AI O (AC.nil (OkQ.subF (sL [2,3,4,8] O) ?_))))))))
   rw [show ss.length+1=(ss++[(((gx.ss.getD j ((0,0,0):Tq3)).1,(gx.ss.getD j ((0,0,0):Tq3)).2.1,(gx.ss.getD j ((0,0,0):Tq3)).2.2):T3)]).length by simp]
   exact OkQ.round4 (j+1) p_2 c_2 (ss++[(((gx.ss.getD j ((0,0,0):Tq3)).1,(gx.ss.getD j ((0,0,0):Tq3)).2.1,(gx.ss.getD j ((0,0,0):Tq3)).2.2):T3)]) (⟨Z,(by simpa using ho_2),by rw [hss,CU (d:=(0,0,0)) Z]⟩) Z (sF O) (sl sr)
  ·replace hc1:=of_decide_eq_false hc1
   exact AE.exit (OkQ.then_exit (OkQ.round4_exit (OkQ.in_exit (q2 (BF 2 C7 O (F2 7 (off:=0) (vs:=[(Value.slice p1 rs.length c1),(Value.slice gx.b.p gx.ts.length gx.b.c),(Value.slice p2 ss.length c2)]) (cs':=[(Value.slice p1 rs.length c1),(Value.slice gx.b.p gx.ts.length gx.b.c),(Value.slice p2 ss.length c2)]) (AP O) O sizeOf38 O (AC.nil (OkQ.subF (sL [2,3,4,8] O) (OkQ.then_ (AE.ret (AV O (BP (i:=7) (cs:=[(Value.slice p1 rs.length c1),(Value.slice gx.b.p gx.ts.length gx.b.c),(Value.slice p2 ss.length c2)]) O O isAgg38 sizeOf38 O) (λw hw=>(aI (A:=[rowW p2 101 3 ss.length c2 (rowsL AZ ss),rowW p1 99 6 rs.length c1 (rowsL PS rs),Af b4 38 ([(Value.slice p1 rs.length c1),(Value.slice gx.b.p gx.ts.length gx.b.c),(Value.slice p2 ss.length c2)]),Af b3 48 ([(Value.slice gx.a.p gx.pl.length gx.a.c),(Value.slice gx.b.p gx.ts.length gx.b.c),(Value.slice gx.c.p gx.ss.length gx.c.c)]),AK gx.a.p (rowsL CF (C5 m gx.pl)),AK gx.b.p (rowsL AZ gx.ts),AK gx.c.p (rowsL AZ gx.ss),Af b2 38 ([(Value.slice p1 rs.length c1),(Value.slice gx.b.p gx.ts.length gx.b.c),(Value.slice p2 ss.length c2)]),Af b1 26 (Df m),AK m.p (Cb m.cs)]) hw 1 5 0 O O O h1 gx.b.ok (λb e=>lgx gx.b.row (List.mem_cons_of_mem _ List.mem_cons_self) b e) h2 O O O hpf (Y1 gx).2 hat O)))))))))))))
end
section
section
variable {ps:List Pt} {ts ss:List T3} {N i:Nat} {e:E4}
def dT (t:T3):List P2:=[(t.1,t.2.1),(t.2.1,t.2.2),(t.2.2,t.1)]
def Wo (e:E4):List P2:=(if 0<=e.l then [(e.a,e.b)] else [])++(if 0<=e.r then [(e.b,e.a)] else [])
theorem Fg {p:P2}:p∈Wo e↔(0<=e.l/\p=(e.a,e.b))\/(0<=e.r/\p=(e.b,e.a)):=by
  unfold Wo
  rw [List.mem_append]
  by_cases h1:0<=e.l<;>by_cases h2:0<=e.r<;>simp [h1,h2]
theorem S4 (ts:List T3):(List.range (3*ts.length)).map (BH ts)=ts.flatMap dT:=by
  have key:∀n,n<=ts.length->(List.range (3*n)).map (BH ts)=(ts.take n).flatMap dT:=by
    intro n
    induction n with
    | zero=>intro _;rfl
    | succ n ih =>
      intro hn
      have e1:List.range (3*(n+1))=List.range (3*n)++[3*n,3*n+1,3*n+2]:=by
        rw [show 3*(n+1)=3*n+1+1+1 by omega,List.range_succ,List.range_succ,List.range_succ];simp
      have k0:=CN (ts:=ts) (j:=n) (show 0<3 by decide)
      have k1:=CN (ts:=ts) (j:=n) (show 1<3 by decide)
      have k2:=CN (ts:=ts) (j:=n) (show 2<3 by decide)
      rw [e1,CU (d:=(0,0,0)) (show n<ts.length by omega),List.map_append,ih Z,List.flatMap_append]
      congr 1
      simp only [List.map_cons,List.map_nil,List.flatMap_cons,List.flatMap_nil,List.append_nil]
      rw [show 3*n=3*n+0 by omega,k0,show 3*n+0+1=3*n+1 by omega,k1,show 3*n+0+2=3*n+2 by omega,k2]
      rfl
  have h:=key ts.length (Nat.le_refl _)
  rwa [List.take_length] at h
theorem cz {α β:Type} {f:α->List β} {l:List α} (hl:l.Nodup) (h:∀x∈l,(f x).Nodup) (hd:∀x∈l,∀y∈l,∀b,b∈f x->b∈f y->x=y):(l.flatMap f).Nodup:=by
  induction l with
  | nil=>exact List.nodup_nil
  | cons x r ih =>
    rw [List.flatMap_cons]
    obtain ⟨h1,h2⟩:=List.nodup_cons.1 hl
    refine List.nodup_append.2 ⟨h x List.mem_cons_self,ih h2 (λy hy=>h y (List.mem_cons_of_mem _ hy)) (λy hy z hz=>hd y (List.mem_cons_of_mem _ hy) z (List.mem_cons_of_mem _ hz)),λb hb c hc e=>?_⟩
    subst e
    obtain ⟨y,hy,hby⟩:=List.mem_flatMap.1 hc
    have:=hd x List.mem_cons_self y (List.mem_cons_of_mem _ hy) b hb hby
    subst this
    exact h1 hy
theorem SY (hn:BI N ts=true) (hN:N<=4611686018427387904):(Bd ts).Nodup:=(Ha hn hN).imp λ{x y} h k=>by subst k;exact Wu.asymm _ _ h h
theorem YZ (hn:BI N ts=true) (hN:N<=4611686018427387904) {x y:E4} (hx:x∈Bd ts) (hy:y∈Bd ts) (h1:x.a=y.a) (h2:x.b=y.b):x=y:=by
  have kx:=(Du hn hN).1 hx
  have ky:=(Du hn hN).1 hy
  have l1:=kx.l
  have l2:=ky.l
  have r1:=kx.r
  have r2:=ky.r
  simp only at l1 l2 r1 r2
  rw [<-h1,<-h2] at l2 r2
  obtain ⟨a,b,l,r⟩:=x
  obtain ⟨a',b',l',r'⟩:=y
  simp only at h1 h2 l1 l2 r1 r2
  rw [h1,h2,l1.uniq l2,r1.uniq r2]
theorem Sm (hn:BI N ts=true) (hN:N<=4611686018427387904):((Bd ts).flatMap Wo).Nodup:=by
  have hab:∀e∈Bd ts,e.a<e.b:=λe he=>(G2 hn hN he).1
  refine cz (SY hn hN) (λe he=>?_) λx hx y hy p h1 h2=>?_
  · have:=hab e he
    unfold Wo
    by_cases h1:0<=e.l<;>by_cases h2:0<=e.r<;>simp [h1,h2]<;>omega
  · have ax:=hab x hx
    have ay:=hab y hy
    refine YZ hn hN hx hy ?_ ?_
    · rcases Fg.1 h1 with ⟨_,e1⟩|⟨_,e1⟩<;>rcases Fg.1 h2 with ⟨_,e2⟩|⟨_,e2⟩<;>(rw [e1] at e2;have q1:=congrArg Prod.fst e2;have q2:=congrArg Prod.snd e2;simp only at q1 q2;omega)
    · rcases Fg.1 h1 with ⟨_,e1⟩|⟨_,e1⟩<;>rcases Fg.1 h2 with ⟨_,e2⟩|⟨_,e2⟩<;>(rw [e1] at e2;have q1:=congrArg Prod.fst e2;have q2:=congrArg Prod.snd e2;simp only at q1 q2;omega)
theorem Ff.pos {s a b:Nat} {z:Int} (h:Ff ts s a b z):0<=z↔∃u,u<s/\BH ts u=(a,b):=by
  rcases h with ⟨h1,h2⟩|⟨u,h1,h2,h3,_⟩
  · exact ⟨λ_=>by omega,λ⟨u,hu,e⟩=>absurd e (h2 u hu)⟩
  · exact ⟨λ_=>⟨u,h1,h3⟩,λ_=>by omega⟩
theorem Xu (hn:BI N ts=true) (hN:N<=4611686018427387904) {p:P2}:p∈(Bd ts).flatMap Wo↔p∈(List.range (3*ts.length)).map (BH ts):=by
  rw [List.mem_flatMap,List.mem_map]
  constructor
  · rintro ⟨e,he,hp⟩
    have k:=(Du hn hN).1 he
    rcases Fg.1 hp with ⟨h1,rfl⟩|⟨h1,rfl⟩
    · obtain ⟨u,hu,h⟩:=(Ff.pos k.l).1 h1;exact ⟨u,List.mem_range.2 hu,h⟩
    · obtain ⟨u,hu,h⟩:=(Ff.pos k.r).1 h1;exact ⟨u,List.mem_range.2 hu,h⟩
  · rintro ⟨u,hu,rfl⟩
    have hu:=List.mem_range.1 hu
    have hne:=Fb hn hu
    rcases Nat.lt_or_ge (BH ts u).1 (BH ts u).2 with h|h
    · obtain ⟨zl,hl⟩:=GU ts (BH ts u).1 (BH ts u).2 (3*ts.length)
      obtain ⟨zr,hr⟩:=GU ts (BH ts u).2 (BH ts u).1 (3*ts.length)
      exact ⟨⟨(BH ts u).1,(BH ts u).2,zl,zr⟩,(Du hn hN).2 ⟨rfl,rfl,h,hl,hr,⟨u,hu,.inl O⟩⟩,Fg.2 (.inl ⟨hl.pos.2 ⟨u,hu,rfl⟩,rfl⟩)⟩
    · obtain ⟨zl,hl⟩:=GU ts (BH ts u).2 (BH ts u).1 (3*ts.length)
      obtain ⟨zr,hr⟩:=GU ts (BH ts u).1 (BH ts u).2 (3*ts.length)
      exact ⟨⟨(BH ts u).2,(BH ts u).1,zl,zr⟩,(Du hn hN).2 ⟨rfl,rfl,by simp only;omega,hl,hr,⟨u,hu,.inr O⟩⟩,Fg.2 (.inr ⟨hr.pos.2 ⟨u,hu,rfl⟩,rfl⟩)⟩
theorem QR (g:HF ps ts) (hn:BI ps.length ts=true):((List.range (3*ts.length)).map (BH ts)).Nodup :=
  List.pairwise_map.2 (List.Pairwise.imp_of_mem (λ{u v} hu hv h k=>h (Ol g hn (List.mem_range.1 hu) (List.mem_range.1 hv) k)) List.nodup_range)
theorem Ui (g:HF ps ts) (hn:BI ps.length ts=true):(ts.flatMap dT).Perm ((Bd ts).flatMap Wo):=by
  have hp:=g.pl
  rw [<-S4]
  exact (List.perm_ext_iff_of_nodup (QR g hn) (Sm hn Z)).2 λp=>(Xu hn Z).symm
theorem MC (hn:BI N ts=true) (hN:N<=4611686018427387904) (he:e∈Bd ts):0<=e.l\/0<=e.r:=by
  have k:=(Du hn hN).1 he
  obtain ⟨u,hu,h⟩:=k.some
  rcases h with h|h
  · exact .inl ((Ff.pos k.l).2 ⟨u,hu,h⟩)
  · exact .inr ((Ff.pos k.r).2 ⟨u,hu,h⟩)
def ah (ps:List Pt) (p:P2):Rat:=HM (Nh ps p.1) (Nh ps p.2)
def sR (ps:List Pt) (ts:List T3):Nat->Rat
  | 0=>0
  | i+1=>if 0<=((Bd ts).getD i ⟨0,0,0,0⟩).l/\0<=((Bd ts).getD i ⟨0,0,0,0⟩).r then sR ps ts i else if 0<=((Bd ts).getD i ⟨0,0,0,0⟩).l then sR ps ts i+HM (Nh ps ((Bd ts).getD i ⟨0,0,0,0⟩).a) (Nh ps ((Bd ts).getD i ⟨0,0,0,0⟩).b) else sR ps ts i+HM (Nh ps ((Bd ts).getD i ⟨0,0,0,0⟩).b) (Nh ps ((Bd ts).getD i ⟨0,0,0,0⟩).a)
theorem RQ (h:0<=((Bd ts).getD i ⟨0,0,0,0⟩).l/\0<=((Bd ts).getD i ⟨0,0,0,0⟩).r):sR ps ts (i+1)=sR ps ts i:=if_pos h
theorem Xd (h:¬0<=((Bd ts).getD i ⟨0,0,0,0⟩).r) (hl:0<=((Bd ts).getD i ⟨0,0,0,0⟩).l):sR ps ts (i+1)=sR ps ts i+HM (Nh ps ((Bd ts).getD i ⟨0,0,0,0⟩).a) (Nh ps ((Bd ts).getD i ⟨0,0,0,0⟩).b):=(if_neg λk=>h k.2).trans (if_pos hl)
theorem Tv (hl:¬0<=((Bd ts).getD i ⟨0,0,0,0⟩).l):sR ps ts (i+1)=sR ps ts i+HM (Nh ps ((Bd ts).getD i ⟨0,0,0,0⟩).b) (Nh ps ((Bd ts).getD i ⟨0,0,0,0⟩).a):=(if_neg λk=>hl k.1).trans (if_neg hl)
theorem WH (hn:BI N ts=true) (hN:N<=4611686018427387904):∀i,i<=(Bd ts).length->sR ps ts i=D0 ((((Bd ts).take i).flatMap Wo).map (ah ps))
  | 0,_=>by rw [List.take_zero];rfl
  | i+1,h=>by
    have hi:i<(Bd ts).length:=by omega
    rw [CU (d:=(⟨0,0,0,0⟩:E4)) hi,List.flatMap_append,List.map_append,Kp,<-WH hn hN i Z]
    have hm:(Bd ts).getD i ⟨0,0,0,0⟩∈Bd ts:=by rw [List.getD,List.getElem?_eq_getElem hi];exact List.getElem_mem hi
    have hs:=MC hn hN hm
    simp only [List.flatMap_cons,List.flatMap_nil,List.append_nil]
    by_cases h1:0<=((Bd ts).getD i ⟨0,0,0,0⟩).l
    · by_cases h2:0<=((Bd ts).getD i ⟨0,0,0,0⟩).r
      · rw [RQ ⟨h1,h2⟩]
        unfold Wo
        rw [if_pos h1,if_pos h2]
        simp only [List.cons_append,List.nil_append,List.map_cons,List.map_nil,D0,ah,Ma]
        grind
      · rw [Xd h2 h1]
        unfold Wo
        rw [if_pos h1,if_neg h2]
        simp only [List.append_nil,List.map_cons,List.map_nil,D0,ah]
        grind
    · have h2:0<=((Bd ts).getD i ⟨0,0,0,0⟩).r:=hs.resolve_left h1
      rw [Tv h1]
      unfold Wo
      rw [if_neg h1,if_pos h2]
      simp only [List.nil_append,List.map_cons,List.map_nil,D0,ah]
      grind
theorem YT (g:HF ps ts) (hn:BI ps.length ts=true):sR ps ts (Bd ts).length=Kl ps ts ts.length+Kl ps ts ts.length:=by
  have hp:=g.pl
  rw [WH hn Z _ (Nat.le_refl _),List.take_length,Sh ((Ui g hn).map (ah ps)).symm,List.map_flatMap,MK (λt=>O6 ps t+O6 ps t) _ ts λt _=>?_,OF,UI]
  simp only [dT,List.map_cons,List.map_nil,D0,ah,O6,Hn,Ma]
  grind
theorem V6 (g:HF ps ts):0<Kl ps ts ts.length:=by
  have h:∀i,i<=ts.length->0<=Kl ps ts i/\(0<i->0<Kl ps ts i):=λi=>by
    induction i with
    | zero=>exact λ_=>⟨Rat.le_refl,λh=>absurd h (Nat.lt_irrefl _)⟩
    | succ i ih =>
      intro hi
      obtain ⟨h1,_⟩:=ih Z
      have h2:0<E2 (Nh ps (ts.getD i (0,0,0)).1) (Nh ps (ts.getD i (0,0,0)).2.1) (Nh ps (ts.getD i (0,0,0)).2.2):=(g.tri i Z).pos
      have h3:0<Kl ps ts i+O6 ps (ts.getD i (0,0,0)):=by unfold O6;grind
      exact ⟨Rat.le_of_lt h3,λ_=>h3⟩
  exact (h _ (Nat.le_refl _)).2 (List.length_pos_iff.2 g.ne)
end
end
theorem Qz {ps:List Pt} {ts:List T3} (h:∀i,i<(Bd ts).length->0<=((Bd ts).getD i ⟨0,0,0,0⟩).l/\0<=((Bd ts).getD i ⟨0,0,0,0⟩).r):∀i,i<=(Bd ts).length->sR ps ts i=0
  | 0,_=>rfl
  | i+1,hi=>by rw [RQ (h i Z)];exact Qz h i Z
theorem UH {ps:List Pt} {ts:List T3} (g:HF ps ts) (hn:BI ps.length ts=true) (hN:ps.length<=4611686018427387904):0<(AX ts).length:=by
  have ho:=PC g hn
  rcases Nat.eq_zero_or_pos (AX ts).length with h0|h0
  · exfalso
    have nob:∀k,¬E7 ts k:=λk hk=>by
      have:=List.length_pos_of_mem ((G1 hn hN ho).2 hk)
      rw [EE,h0] at this
      exact Nat.lt_irrefl _ this
    have key:∀i,i<(Bd ts).length->0<=((Bd ts).getD i ⟨0,0,0,0⟩).l/\0<=((Bd ts).getD i ⟨0,0,0,0⟩).r:=λi hi=>by
      have hm:(Bd ts).getD i ⟨0,0,0,0⟩∈Bd ts:=by rw [List.getD,List.getElem?_eq_getElem hi];exact List.getElem_mem hi
      generalize (Bd ts).getD i ⟨0,0,0,0⟩=e at hm
      have hs:=MC hn hN hm
      have hi:=(Du hn hN).1 hm
      have hl:=Ff.pos hi.l
      have hr:=Ff.pos hi.r
      by_cases h1:0<=e.l
      · refine ⟨h1,?_⟩
        by_cases h2:0<=e.r
        · exact h2
        · exact absurd ⟨CB.2 (hl.1 h1),λh=>h2 (hr.2 (CB.1 h))⟩ (nob (e.a,e.b))
      · have h2:0<=e.r:=hs.resolve_left h1
        exact absurd ⟨CB.2 (hr.1 h2),λh=>h1 (hl.2 (CB.1 h))⟩ (nob (e.b,e.a))
    have h1:=Qz (ps:=ps) key _ (Nat.le_refl _)
    have h2:=YT g hn
    have h3:=V6 g
    rw [h1] at h2
    grind
  · exact h0
section
set_option maxRecDepth 100000
theorem PP {N:Nat} {ps:List Pt} {ts us ss vs:List T3} (x:MX ps ts ss) (y:RM N us vs) (hu:ts=us) (hNp:N=ps.length) (hp:ps.length<=4096) (htl:ts.length<=1000000) (hnb:BI ps.length ts=true) (ho:Bc ts (3*ts.length)=true) (hwn:0<(AX ts).length) (hne:0<ts.length) (w:World) {S:Nat->Prop} (hx:Ro S w x) (hy:Ro S w y):Calls prog 7 #[(aG (Bp x)),(aG (Bt y))] w (A9 w (Value.bool true)):=by
 subst hu
 exact SG x y hNp hp htl hnb ho hwn hne w hx hy
set_option maxHeartbeats 2000000 in
theorem Nl (m:MQ) (w:World) {S:Nat->Prop} (hm:Ro S w m):Calls prog 3 #[(aG (Df m))] w (A9 w (Value.bool true)):=by
 have lm:=Dk (W:=w) hm
 refine An (args:=[(aG (Df m))]) (L:=[AK m.p (Cb m.cs)]) func3 O O (Ad O) (E3 hm BA) (AE.subF (sL [0] O) (q4 (Ca (cs:=Df m) O λb1=>AI O (q3 (sL [1,2] O) (BF 0 JV O (AC.callR (S:=S) (α:=MF m) (args:=[(aG (Df m))]) call5 (λw hw=>S7 m w (Br hw 1 O lm)) O O O λgf lg0=>?_))))))
 obtain ⟨g,hlat⟩:=gf
 have lg:At ⟨w,none⟩ S g.mx:=lg0
 have hG:=g.good
 have hnb:BI g.ps.length g.ts=true:=S6 hG
 have htl:=hG.tl
 have hpl:=hG.pl
 have hne:0<g.ts.length:=List.length_pos_iff.2 hG.ne
 obtain ⟨hgt,hgp⟩:=X2 hlat
 have hpr:(ak m).length=g.ps.length:=by rw [hgp]
 have ho:=PC hG hnb
 have hwn:=UH hG hnb Z
 have hor:(BI g.ps.length g.ts&&Bc g.ts (3*g.ts.length))=true:=by rw [hnb,ho];rfl
 refine al WF O λb2=>BN O sizeOf31 O (q6 (sL [1,2,3] O) (Ck [(0,true),(1,false),(2,true),(3,true),(4,true),(5,false),(6,false),(7,true),(8,true),(9,false),(10,true),(11,true)] sr (G6 0 DA O (OkE.imp O (DS (args:=[(aG (Bp g.mx))]) (v:=(Value.bool true)) call6 (λw hw=>(by have h9:=Oi g.mx Z Z w (Br hw 1 O lg:Ro _ w g.mx);rw [hor] at h9;exact h9)) O (OkE.back sr (BT O (OkE.pas (v:=(aG (Bp g.mx))) O (AA O) (BB (i:=0) (vs:=Bp g.mx) O O DA.a DA.s O O) O O (OkE.pas (v:=(aG (Df m))) O (AA O) (BB (i:=4) (vs:=Df m) O O JV.a JV.s O O) O O (OkE.imp O ?_))))))))))
 refine AC.unguard (AA O) (AC.callR (S:=S) (α:=cQ m) (args:=[(aG (Df m))]) call8 (λw hw=>Yh m w (Br hw 5 O lm)) O O O λfo lfo=>?_)
 have hfl:fo.o.rs.length=(ak m).length:=fo.o.len
 refine AC.permR (show List.Perm _ (AK fo.o.a.p (rowsL PS fo.o.rs)::AK fo.o.b.p (rowsL AZ (XC m))::AK fo.o.c.p (rowsL AZ fo.ss)::Af b2 31 (Bp g.mx)::AK g.mx.a.p (rowsL Bf g.ps)::AK g.mx.b.p (rowsL AZ g.ts)::AK g.mx.c.p (rowsL AZ g.ss)::Af b1 26 (Df m)::AK m.p (Cb m.cs)::Jo fo.o.rs) from Pr [AK fo.o.a.p (rowsL PS fo.o.rs),AK fo.o.b.p (rowsL AZ (XC m)),AK fo.o.c.p (rowsL AZ fo.ss)] (Jo fo.o.rs) [Af b2 31 (Bp g.mx),AK g.mx.a.p (rowsL Bf g.ps),AK g.mx.b.p (rowsL AZ g.ts),AK g.mx.c.p (rowsL AZ g.ss),Af b1 26 (Df m),AK m.p (Cb m.cs)]) (OkE.back (sl (sl (sl (sk (sk (sk (sk (sk (sk (List.nil_sublist _)))))))))) (OkE.imp O (AC.call (v:=(Value.bool true)) (AA O) (A_ (args:=[(aG (Bp g.mx)),(aG (cA fo.o))]) O O call7) (λw hw=>PP g.mx fo.o.rm hgt Z Z Z hnb ho hwn hne w (Br hw 4 O lg:Ro _ w g.mx) (dV (x:=fo.o) (bG (x:=fo.o) (S:=S) hw 0 O (λz hz=>List.mem_append_right [AK fo.o.a.p (rowsL PS fo.o.rs),AK fo.o.b.p (rowsL AZ (XC m)),AK fo.o.c.p (rowsL AZ fo.ss),Af b2 31 (Bp g.mx),AK g.mx.a.p (rowsL Bf g.ps),AK g.mx.b.p (rowsL AZ g.ts),AK g.mx.c.p (rowsL AZ g.ss),Af b1 26 (Df m),AK m.p (Cb m.cs)] hz) lfo))) O (Ad O) (OkE.back (sl (sl (sl (sk (sk (sk (sk (sk (sk (List.nil_sublist _)))))))))) (Ao (v:=(Value.bool true)) O (AW O O) (BT O (OkE.imp O (AC.call (v:=(Value.bool true)) (AA O) (A_ (args:=[]) O O call9) (λw hw=>QG w) O (Ad O) (OkE.back (sl (sl (sl (sk (sk (sk (sk (sk (sk (List.nil_sublist _)))))))))) (Ao (v:=(Value.bool true)) O (AW O O) (pS' O ?_)))))))))))
 exact OkE.nil (OkQ.subF (sL [1,2,3] O) (OkQ.then_ (AE.ret (AV O (Ah (v:=(Value.bool true)) O) (λw hw=>⟨rfl,hw.out⟩)))))
end
end Go.Proofs.YtpgncndhhhllfaaGreat
